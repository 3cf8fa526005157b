/-
  CONTRACTS: lexer.Lex. Conditions: lengths below 2^40.
  CONTRACTS: slices.Chunk, tag.Parse. Conditions: lengths below 2^40.
  TAGS MERGED, plain: three values for each key, as objects. Conditions: none.
  CONTRACTS: slices.Index, Contains at strings; tag.Merge. Conditions: lengths below 2^40.
  TAGS, plain: tags by their lookups; what tag.Set does to them. Conditions: none.
  PLAIN: runs of edits of one kind. Conditions: none.
  THE TEXT OF TAGS IS LEXED BACK, plain. Conditions: none.
  PLAIN: texts cut at a byte; lines; where a byte stands first. Conditions: none.
  PLAIN: decimal digits: what Itoa writes Atoi reads. Conditions: none.
  THE ABSTRACT LOGIC, 36: strconv.Itoa and math/bits.Mul64, the library's contracts carried over; the table of the door. Conditions: each rule's own premises.
  PLAIN: the text of an object, and what its tokens read as. Conditions: none.
  PLAIN: what differs between two maps; a possible edit changes at most two objects, which it names. Conditions: none.
  PLAIN: the objects that a change set needs make a closed map, in which the same evidence is found. Conditions: none.
  PLAIN: the edits between two maps lead from the one to the other. Conditions: none.
  THE ABSTRACT LOGIC, 39: how often a byte stands in a text. Conditions: each rule's own premises.
  CONTRACTS: strings.Index, Cut, Count of a blank; strings.TrimSuffix of an end of a line. Conditions: lengths below 2^40.
  CONTRACTS: strings.Split at a blank. Conditions: lengths below 2^40.
  CONTRACTS: strings.Lines, where the loop goes on to the end. Conditions: lengths below 2^40.
  THE ABSTRACT LOGIC, 38: a box is frozen: a pointer to what is never written again; such pointers and nil. Conditions: each rule's own premises.
  CONTRACTS: change.layers and what it returns. Conditions: at most 2^40 objects.
  CONTRACT: change.renewed. Conditions: closed maps of at most 2^40 objects.
-/
import Derived.Test.YtlnfjkdacimblaaGreatDoorKW2M8
import Derived.Lib.Bytealg
import Derived.Lib.Strings
import Derived.Lib.AtoiTie
import Derived.Lib.ItoaMem
import Derived.Lib.ItoaLen
import Derived.Shelf.Strconv.Itoa3
import Derived.Shelf.Bits.Mul64
set_option linter.unusedVariables false
set_option linter.unusedSimpArgs false
set_option maxRecDepth 100000
set_option maxHeartbeats 2000000
namespace Go.Proofs.YtlnfjkdacimblaaGreatDoor
open Go.Abs
section
def encTok (f:GFound):List PV:=[.int .i64 f.kind,.str f.text,.int .i64 f.pos]
def slToks (l:List GFound):PV:=.sl (l.map encTok)
def tkRows (l:List GFound):List (List AV):=l.map fun f=>(encTok f).map AV.pv
theorem tkRows_len (l:List GFound):(tkRows l).length=l.length:=List.length_map _
theorem tkRows_app (l:List GFound) (f:GFound):tkRows l++[(encTok f).map AV.pv]=tkRows (l++[f]):=by rw [tkRows,tkRows,List.map_append];rfl
theorem tkRows_clo (H:Heap) (l:List GFound):∀ r∈tkRows l,∀ a∈r,Clo H a:=by
 intro r hr a ha
 obtain ⟨d,_,rfl⟩:=List.mem_map.1 hr
 obtain ⟨p,_,rfl⟩:=List.mem_map.1 ha
 simp
theorem tA_clo {H:Heap} (h1:(H.get 921).isSome=true) (h2:(H.get 923).isSome=true):∀ r∈tA.rows,∀ a∈r,Clo H a:=by
 intro r hr a ha
 simp only [tA,bx,List.mem_singleton] at hr
 subst hr
 rw [List.mem_singleton] at ha
 subst ha
 simp [h1,h2]
theorem tS_clo (H:Heap) (s:ByteArray):∀ r∈(tS s).rows,∀ a∈r,Clo H a:=by
 intro r hr a ha
 simp only [tS,bx,List.mem_singleton] at hr
 subst hr
 rw [List.mem_singleton] at ha
 subst ha
 simp
def lexRun:List GFound→List GFound→List GFound×Int×Int
 | acc,[]=>(acc,0,0)
 | acc,f::r=>if f.err≠0 then([],f.err,f.pos)else if acc.length=5000 then([],2,f.pos)else lexRun (acc++[f]) r
/-- The tokens of a text, or an error and its place. -/
def gLex (s:ByteArray):List GFound×Int×Int:=if 20000 < s.size then([],2,-1)else lexRun [] (gToks s (s.size+1) 0)
def okAt (ds:List GFound) (k:Nat):Bool:=match ds[k]? with
 | some f=>decide (f.err=0)&&!decide (k=5000)
 | none=>true
theorem lexRun_to {ds:List GFound}:∀ {k:Nat},k≤ds.length→(∀ j,j < k→okAt ds j=true)→lexRun [] ds=lexRun (ds.take k) (ds.drop k)
 | 0,_,_=>rfl
 | k+1,hk,h=>by
  rw [lexRun_to (Nat.le_of_succ_le hk) (fun j hj=>h j (by omega))]
  have hd:ds.drop k=ds[k]::ds.drop (k+1):=List.drop_eq_getElem_cons hk
  have hok:=h k (Nat.lt_succ_self k)
  rw [okAt,List.getElem?_eq_getElem hk] at hok
  simp only [Bool.and_eq_true,decide_eq_true_eq,Bool.not_eq_true',decide_eq_false_iff_not] at hok
  have htl:(ds.take k).length=k:=by rw [List.length_take];omega
  rw [hd,lexRun,if_neg (fun h=>h hok.1),if_neg (by rw [htl];exact hok.2),List.take_add_one,List.getElem?_eq_getElem hk]
  rfl
theorem toks_len (s:ByteArray):∀ (n i:Nat),(gToks s n i).length≤n
 | 0,_=>Nat.zero_le _
 | n+1,i=>by
  rw [gToks]
  split
  ·split
   ·exact Nat.le_succ_of_le (toks_len s n _)
   rw [List.length_cons]
   split
   ·exact Nat.succ_le_succ (toks_len s n _)
   exact Nat.succ_le_succ (Nat.zero_le _)
  exact Nat.zero_le _
def kL (s:ByteArray) (L:List GFound) (a:AV) (e p:Int):Heap:=[(905,⟨L.length,3,137,tkRows L⟩),(5,bx 1 133 [.osl 905 L.length 0 L.length]),(924,tA),(923,tC),(921,tS s),(4,bx 1 3 [iv p]),(3,bx 1 25 [iv e]),(2,bx 1 133 [a])]
theorem kL_app (s:ByteArray) (L:List GFound) (f:GFound) (a:AV) (e p:Int):kL s (L++[f]) a e p=[(905,⟨L.length+1,3,137,tkRows (L++[f])⟩),(5,bx 1 133 [.osl 905 (L.length+1) 0 (L.length+1)]),(924,tA),(923,tC),(921,tS s),(4,bx 1 3 [iv p]),(3,bx 1 25 [iv e]),(2,bx 1 133 [a])]:=by simp [kL]
/-- What a range over the tokens keeps of the frame. -/
def lexE:Env:=[(2,.ref 2 0 0 0),(3,.ref 3 0 0 0),(4,.ref 4 0 0 0),(5,.ref 5 0 0 0)]
theorem okAt_iff {ds:List GFound} {k:Nat} {f:GFound} (h:ds[k]?=some f):okAt ds k=(decide (f.err=0)&&!decide (k=5000)):=by rw [okAt,h]
theorem lex_c (s:ByteArray) (H:Heap) (hs:s.size < 1099511627776):ACalls Tryz.prog 83 [sv s] H (fun r H'=>r=.tup [.pv (slToks (gLex s).1),iv (gLex s).2.1,iv (gLex s).2.2]∧H'=H):=by
 refine ACalls.pure ?_ (by simp) H
 refine Bd Tryz.func83 rfl Tryz.ntmps83<|Sq<|Rg<|Dd (by exact x_alloc (id:=2) rfl zo133 rfl rfl)<|Dd (by exact x_alloc (id:=3) rfl zo25 rfl rfl)<|Dd (by exact x_alloc (id:=4) rfl zo3 rfl rfl)<|Zz<|Sq<|Sq<|Rg<|Dd mv'<|Dd (ls' Tryz.underlying9)<|Dd gt'<|Zz ?_
 refine Cn (fun hc1=>?_) fun hc1=>?_
 ·have e:gLex s=([],2,-1):=by rw [gLex,if_pos (by have:=of_decide_eq_true hc1;omega)]
  rw [e]
  refine Sq<|Rg<|Uu (sa' Tryz.sizeOf133)<|Uu (sa' Tryz.sizeOf25)<|Uu (sa' Tryz.sizeOf3)<|Zz<|awp_ret ?_
  refine aret3 (H':=[]) (.inr rfl) rfl (rval_cell1 rfl Tryz.isAgg133 rfl rfl rfl rfl) (rval_cell1 rfl Tryz.isAgg25 rfl rfl rfl rfl) (rval_cell1 rfl Tryz.isAgg3 rfl rfl rfl rfl) (Fin.wk (by simp) trivial trivial) ?_
  exact⟨rfl,rfl⟩
 have hsz:¬ 20000 < s.size:=by have:=of_decide_eq_false hc1;omega
 obtain ⟨ds,hds⟩:∃ ds,ds=gToks s (s.size+1) 0:=⟨_,rfl⟩
 have hg:gLex s=lexRun [] ds:=by rw [gLex,if_neg hsz,hds]
 refine awp_skip<|Sq<|Rg<|Dd (by exact x_alloc (id:=5) rfl zoN133 rfl rfl)<|Zz<|Sq<|Sq<|Rg<|Dd mv'<|Dd (by exact opr_call rfl rfl Tryz.call135 rfl (tokens_c s _ rfl rfl rfl (Closed.ofL ⟨(by(simp;done)),(by(simp;done)),(by(simp;done)),(by(simp;done)),trivial⟩)))<|Zz<|awp_block ?_
 refine AWp.ent (E':=[(2,.ref 2 0 0 0),(3,.ref 3 0 0 0),(4,.ref 4 0 0 0),(5,.ref 5 0 0 0),(11,.clo 185 [.ref 921 0 0 0,.ref 924 0 0 0])]) (H':=[(905,⟨0,3,137,[]⟩),(5,bx 1 133 [.osl 905 0 0 0]),(924,tA),(923,tC),(921,tS s),(4,bx 1 3 [iv 0]),(3,bx 1 25 [iv 0]),(2,bx 1 133 [.pv (.sl [])])]) ?_ ?_
 ·exact(Ent.nz 905 3 137 rfl rfl ⟨⟨_,rfl,(by exact Nz.same (by(simp;rfl)))⟩,⟨_,rfl,(by exact Nz.same (by(simp;rfl)))⟩,⟨_,rfl,(by exact Nz.same (by(simp;rfl)))⟩,⟨_,rfl,(by exact Nz.same (by(simp;rfl)))⟩,⟨_,rfl,(by exact Nz.same (by(simp;exact⟨rfl,rfl⟩)))⟩,trivial⟩ ⟨⟨_,rfl,rfl,rfl,rfl,(by exact .inr ⟨_,_,rfl,rfl,(by repeat(first|exact trivial|refine⟨(by exact Nz.own),?_⟩))⟩)⟩,⟨_,rfl,rfl,rfl,rfl,(by exact .inl ⟨rfl,(by exact tA_clo rfl rfl)⟩)⟩,⟨_,rfl,rfl,rfl,rfl,(by exact .inl ⟨rfl,(by exact clsA_clo _)⟩)⟩,⟨_,rfl,rfl,rfl,rfl,(by exact .inl ⟨rfl,(by exact tS_clo _ _)⟩)⟩,⟨_,rfl,rfl,rfl,rfl,(by exact .inl ⟨rfl,(by(simp;done))⟩)⟩,⟨_,rfl,rfl,rfl,rfl,(by exact .inl ⟨rfl,(by(simp;done))⟩)⟩,⟨_,rfl,rfl,rfl,rfl,(by exact .inl ⟨rfl,(by(simp;done))⟩)⟩,trivial⟩ trivial)
 have hdl:ds.length≤s.size+1:=by rw [hds];exact toks_len s _ _
 obtain ⟨j,hj⟩:∃ j,j=scan (okAt ds) ds.length 0:=⟨_,rfl⟩
 have hj1:j≤ds.length:=by have:=(scan_le (okAt ds) ds.length 0).2;omega
 have hj2:∀ k,k < j→okAt ds k=true:=fun k hk=>scan_all (okAt ds) ds.length 0 k (Nat.zero_le _) (by rw [← hj];exact hk)
 have hj3:j < ds.length→okAt ds j=false:=fun h=>by have:=scan_stop (okAt ds) ds.length 0 (by omega);rwa [← hj] at this
 have hrun:=lexRun_to hj1 hj2
 refine awp_range (id:=904) (p:=12) lexE rfl Tryz.call185 rfl rfl (by simp [lexE];exact⟨rfl,rfl,rfl,rfl⟩) ?_
 intro x hx1 hx2 hx3 hx4 hx5 hx6
 have hround:∀ (k:Nat) (d:GFound),ds[k]?=some d→k≤j →
   CallsV Tryz.prog (.yld 904 0) [.agg ((encFound d).map .pv)] ((904,LR x lexE)::(926,tF d)::kL s (ds.take k) (.pv (.sl [])) 0 0) (fun r H'=>r=bv (okAt ds k)∧H'=(if okAt ds k then(904,LR x lexE)::(926,tF d)::kL s (ds.take (k+1)) (.pv (.sl [])) 0 0 else(904,LR (left x .ret) lexE)::(926,tF d)::kL s (ds.take k) (.pv (.sl [])) (if d.err≠0 then d.err else 2) d.pos)):=by
  intro k d hd hkj
  have hok:=okAt_iff hd
  have hkl:k < ds.length:=(List.getElem?_eq_some_iff.1 hd).1
  have htl:(ds.take k).length=k:=by rw [List.length_take];omega
  have hnx:ds.take (k+1)=ds.take k++[d]:=by rw [List.take_add_one,hd];rfl
  refine .inl ⟨904,0,rfl,?_⟩
  refine ycalls [(2,.ref 2 0 0 0),(3,.ref 3 0 0 0),(4,.ref 4 0 0 0),(5,.ref 5 0 0 0),(6,.ref 907 0 0 0)] ((907,tF d)::(926,tF d)::kL s (ds.take k) (.pv (.sl [])) 0 0) hx1 hx2 hx3 hx4 hx5 hx6 rfl rfl rfl ?_ ?_
  ·skip
   refine Rg<|Dd (by exact x_alloc (id:=907) rfl zo174 rfl rfl)<|Uu (sa' Tryz.sizeOf174)<|Zz ?_
   exact(Ent.wk (Ea<|Ea<|Ea<|Ea<|Ea<|trivial) (Hc (LR_clo (by simp [lexE];exact⟨rfl,rfl,rfl,rfl⟩))<|Hc (tF_clo _ _)<|Hc (tF_clo _ _)<|Hc (tkRows_clo _ _)<|Ha<|Hc (tA_clo rfl rfl)<|Hc (clsA_clo _)<|Hc (tS_clo _ _)<|Hb<|Hb<|Hb<|trivial) ⟨rfl,rfl,rfl,rfl,rfl,rfl,rfl,rfl,rfl,rfl,trivial⟩)
  skip
  refine awp_block<|Sq<|awp_block<|Sq<|Rg<|Dd (fr' fo174_1)<|Dd (l1' Tryz.isAgg25)<|Dd ne'<|Dd as'<|Zz ?_
  refine Cn (fun hc2=>?_) fun hc2=>?_
  ·have he:d.err≠0:=by have h:=hc2;rw [Bool.not_eq_true',decide_eq_false_iff_not] at h;exact h
   have h0:okAt ds k=false:=by rw [hok,decide_eq_false he];rfl
   rw [h0,if_neg (by decide),if_pos he]
   refine Sq ?_
   refine awp_drawc follows ?_
   refine Cr [907] (fun _ h=>fh fo174_1 h)<|Cr [907] (fun _ h=>lh Tryz.isAgg25 h)<|Cr [907] (fun _ h=>fh fo174_0 h)<|Cr [907] (fun _ h=>fh fo137_2 h)<|Cr [907] (fun _ h=>lh Tryz.isAgg3 h)<|Cp [2] (fun H1 hH=>by exact x_store_all rfl Tryz.sizeOf133 rfl rfl rfl rfl ((hH _ rfl).trans rfl) rfl rfl rfl)<|Cp [3] (fun H1 hH=>by exact x_store_all rfl Tryz.sizeOf25 rfl rfl rfl rfl ((hH _ rfl).trans rfl) rfl rfl rfl)<|Cp [4] (fun H1 hH=>by exact x_store_all rfl Tryz.sizeOf3 rfl rfl rfl rfl ((hH _ rfl).trans rfl) rfl rfl rfl) ?_
   refine dc_nil ⟨by kernel_rfl,?_⟩
   refine awp_ret ?_
   exact⟨(926,tF d)::kL s (ds.take k) (.pv (.sl [])) d.err d.pos,(Ent.wk trivial (Hc (LR_clo (by simp [lexE];exact⟨rfl,rfl,rfl,rfl⟩))<|Hc (tF_clo _ _)<|Hc (tkRows_clo _ _)<|Ha<|Hc (tA_clo rfl rfl)<|Hc (clsA_clo _)<|Hc (tS_clo _ _)<|Hb<|Hb<|Hb<|trivial) ⟨rfl,rfl,rfl,rfl,rfl,rfl,rfl,rfl,rfl,rfl,trivial⟩),rfl,rfl⟩
  have he:d.err=0:=by have h:=hc2;rw [Bool.not_eq_false',decide_eq_true_eq] at h;exact h
  refine Sq<|Rg<|Dd (l1' Tryz.isAgg133)<|Dd (by exact opd_len_osl rfl Tryz.underlying133 rfl rfl rfl)<|Dd eql'<|Dd as'<|Zz ?_
  refine Cn (fun hc3=>?_) fun hc3=>?_
  ·have hk5:k=5000:=by have:=of_decide_eq_true hc3;omega
   have h0:okAt ds k=false:=by rw [hok,decide_eq_true he,decide_eq_true hk5];rfl
   rw [h0,if_neg (by decide),if_neg (fun h=>h he)]
   refine Sq ?_
   refine awp_drawc follows ?_
   refine Cr [907] (fun _ h=>fh fo174_0 h)<|Cr [907] (fun _ h=>fh fo137_2 h)<|Cr [907] (fun _ h=>lh Tryz.isAgg3 h)<|Cp [2] (fun H1 hH=>by exact x_store_all rfl Tryz.sizeOf133 rfl rfl rfl rfl ((hH _ rfl).trans rfl) rfl rfl rfl)<|Cp [3] (fun H1 hH=>by exact x_store_all rfl Tryz.sizeOf25 rfl rfl rfl rfl ((hH _ rfl).trans rfl) rfl rfl rfl)<|Cp [4] (fun H1 hH=>by exact x_store_all rfl Tryz.sizeOf3 rfl rfl rfl rfl ((hH _ rfl).trans rfl) rfl rfl rfl) ?_
   refine dc_nil ⟨by kernel_rfl,?_⟩
   refine awp_ret ?_
   exact⟨(926,tF d)::kL s (ds.take k) (.pv (.sl [])) 2 d.pos,(Ent.wk trivial (Hc (LR_clo (by simp [lexE];exact⟨rfl,rfl,rfl,rfl⟩))<|Hc (tF_clo _ _)<|Hc (tkRows_clo _ _)<|Ha<|Hc (tA_clo rfl rfl)<|Hc (clsA_clo _)<|Hc (tS_clo _ _)<|Hb<|Hb<|Hb<|trivial) ⟨rfl,rfl,rfl,rfl,rfl,rfl,rfl,rfl,rfl,rfl,trivial⟩),rfl,rfl⟩
  have hk5:¬ k=5000:=by have:=of_decide_eq_false hc3;omega
  have h0:okAt ds k=true:=by rw [hok,decide_eq_true he,decide_eq_false hk5];rfl
  rw [h0,if_pos rfl,hnx,kL_app]
  refine awp_skip<|Rg<|Dd (l1' Tryz.isAgg133)<|Dd (fr' fo174_0)<|Dd (ln' Tryz.isAgg137 Tryz.sizeOf137)<|Dd (by exact x_buildSlice [encTok d] rfl so133 rfl rfl rfl rfl rfl (by intro r hr;rw [List.mem_singleton] at hr;subst hr;rfl))<|Dd (by exact x_append (ps:=[encTok d]) rfl so133 ei137 rfl rfl rfl rfl rfl (tkRows_len _) rfl (by intro r hr;rw [List.mem_singleton] at hr;subst hr;rfl) (m:=1) rfl (by omega) rfl (tkRows_app (ds.take k) d))<|Uu (sa' Tryz.sizeOf133)<|Zz ?_
  exact⟨(926,tF d)::[(905,⟨(ds.take k).length+1,3,137,tkRows (ds.take k++[d])⟩),(5,bx 1 133 [.osl 905 ((ds.take k).length+1) 0 ((ds.take k).length+1)]),(924,tA),(923,tC),(921,tS s),(4,bx 1 3 [iv 0]),(3,bx 1 25 [iv 0]),(2,bx 1 133 [.pv (.sl [])])],(Ent.wk trivial (Hc (LR_clo (by simp [lexE];exact⟨rfl,rfl,rfl,rfl⟩))<|Hc (tF_clo _ _)<|Hc (tkRows_clo _ _)<|Ha<|Hc (tA_clo rfl rfl)<|Hc (clsA_clo _)<|Hc (tS_clo _ _)<|Hb<|Hb<|Hb<|trivial) ⟨rfl,rfl,rfl,rfl,rfl,rfl,rfl,rfl,rfl,rfl,trivial⟩),rfl,rfl⟩
 rcases Nat.lt_or_ge j ds.length with hlt|hge
 ·obtain ⟨f,hf⟩:=get_of_lt hlt
  have hbad:=hj3 hlt
  have hdj:ds.drop j=f::ds.drop (j+1):=by
   rw [List.drop_eq_getElem_cons hlt]
   rw [List.getElem?_eq_getElem hlt] at hf
   cases hf;rfl
  have hres:gLex s=([],(if f.err≠0 then f.err else 2),(f.pos:Int)):=by
   rw [hg,hrun,hdj,lexRun]
   split
   ·rfl
   rename_i he
   have he0:f.err=0:=by
    by_cases h:f.err=0
    ·exact h
    exact absurd h he
   rw [okAt_iff hf,decide_eq_true he0,Bool.true_and,Bool.not_eq_false',decide_eq_true_eq] at hbad
   rw [if_pos (by rw [List.length_take];omega)]
  rw [hres]
  refine(tokens2_c s (.yld 904 0) (fun k=>if k≤j then(904,LR x lexE)::kL s (ds.take k) (.pv (.sl [])) 0 0 else(904,LR (left x .ret) lexE)::kL s (ds.take j) (.pv (.sl [])) (if f.err≠0 then f.err else 2) f.pos) (okAt ds) (j+1) hs (fun k=>?_) (fun k=>?_) (fun k=>?_) (fun k=>?_) (fun k=>?_) (fun k=>?_) (by rw [← hds];exact hlt) (fun k hk=>hj2 k (by omega)) (.inr ⟨Nat.succ_pos _,by rw [Nat.add_sub_cancel];exact hbad⟩) ?_).mono ?_
  ·split<;>rfl
  ·split<;>rfl
  ·split<;>rfl
  ·split<;>rfl
  ·split
   ·exact(Closed.ofL ⟨(by exact LR_clo (by simp [lexE];exact⟨rfl,rfl,rfl,rfl⟩)),(by exact tkRows_clo _ _),(by(simp;rfl)),(by exact tA_clo rfl rfl),(by exact clsA_clo _),(by exact tS_clo _ _),(by(simp;done)),(by(simp;done)),(by(simp;done)),trivial⟩)
   exact(Closed.ofL ⟨(by exact LR_clo (by simp [lexE];exact⟨rfl,rfl,rfl,rfl⟩)),(by exact tkRows_clo _ _),(by(simp;rfl)),(by exact tA_clo rfl rfl),(by exact clsA_clo _),(by exact tS_clo _ _),(by(simp;done)),(by(simp;done)),(by(simp;done)),trivial⟩)
  ·split<;>(simp;rfl)
  ·rw [← hds]
   intro k d hd hk
   have hr:=hround k d hd (by omega)
   rw [if_pos (by omega)]
   by_cases hkj:k=j
   ·subst hkj
    rw [hf] at hd
    cases hd
    rw [hbad,if_neg (by decide)] at hr
    rw [if_neg (by omega),hbad]
    exact CallsV.congrG hr (fun j=>get_swap (by decide) j) (fun j=>get_swap (by decide) j)
   have hok:=hj2 k (by omega)
   rw [hok,if_pos rfl] at hr
   rw [if_pos (by omega),hok]
   exact CallsV.congrG hr (fun j=>get_swap (by decide) j) (fun j=>get_swap (by decide) j)
  rintro r H' ⟨rfl,rfl⟩
  rw [if_neg (by omega)]
  refine⟨left x .ret,_,rfl,by simp [left],rfl,fun z=>?_⟩
  show ARet _ _ _ _ _ _ _
  refine aret3 (H':=[]) (.inr rfl) rfl (rval_cell1 rfl Tryz.isAgg133 rfl rfl rfl rfl) (rval_cell1 rfl Tryz.isAgg25 rfl rfl rfl rfl) (rval_cell1 rfl Tryz.isAgg3 rfl rfl rfl rfl) (Fin.wk (by simp) trivial trivial) ?_
  exact⟨rfl,rfl⟩
 have hje:j=ds.length:=Nat.le_antisymm hj1 hge
 rw [hje,List.take_length,List.drop_length] at hrun
 rw [hg,hrun,lexRun]
 refine(tokens2_c s (.yld 904 0) (fun k=>(904,LR x lexE)::kL s (ds.take k) (.pv (.sl [])) 0 0) (okAt ds) ds.length hs (fun k=>rfl) (fun k=>rfl) (fun k=>rfl) (fun k=>rfl) (fun k=>(Closed.ofL ⟨(by exact LR_clo (by simp [lexE];exact⟨rfl,rfl,rfl,rfl⟩)),(by exact tkRows_clo _ _),(by(simp;rfl)),(by exact tA_clo rfl rfl),(by exact clsA_clo _),(by exact tS_clo _ _),(by(simp;done)),(by(simp;done)),(by(simp;done)),trivial⟩)) (fun k=>by simp;rfl) (by rw [← hds];exact Nat.le_refl _) (fun k hk=>hj2 k (by omega)) (.inl (by rw [← hds])) ?_).mono ?_
 ·rw [← hds]
  intro k d hd hk
  have hr:=hround k d hd (by omega)
  have hok:=hj2 k (by omega)
  rw [hok,if_pos rfl] at hr
  rw [hok]
  exact CallsV.congrG hr (fun j=>get_swap (by decide) j) (fun j=>get_swap (by decide) j)
 rintro r H' ⟨rfl,rfl⟩
 rw [List.take_length]
 refine⟨x,_,rfl,by rw [hx1];decide,rfl,fun z=>?_⟩
 rw [hx2]
 refine Sq<|Rg<|Dd (l1' Tryz.isAgg133)<|Uu (sa' Tryz.sizeOf133)<|Uu (sa' Tryz.sizeOf25)<|Uu (sa' Tryz.sizeOf3)<|Zz<|awp_ret ?_
 refine aret3 (H':=[]) (.inr rfl) rfl (rval_cell1 rfl Tryz.isAgg133 rfl rfl rfl rfl) (rval_cell1 rfl Tryz.isAgg25 rfl rfl rfl rfl) (rval_cell1 rfl Tryz.isAgg3 rfl rfl rfl rfl) (Fin.fz (r':=.tup [.pv (slToks ds),iv 0,iv 0]) (id:=905) (ob:=⟨ds.length,3,137,tkRows ds⟩) (ds.map encTok) rfl (by rw [List.map_map];rfl) (.tup rfl (fz_cons (.osl (qs:=ds.map encTok) (by rw [Nat.zero_add,List.drop_zero];exact List.take_of_length_le (Nat.le_of_eq (List.length_map encTok)))) (fz_cons (.same (by simp)) (fz_cons (.same (by simp)) fz_nil)))) rfl trivial trivial) ?_
 exact⟨rfl,rfl⟩
end
section
theorem lexRun_len:∀ (r acc:List GFound),(lexRun acc r).1.length≤acc.length+r.length
 | [],acc=>Nat.le_refl _
 | f::r,acc=>by
  rw [lexRun]
  split
  ·exact Nat.zero_le _
  split
  ·exact Nat.zero_le _
  have:=lexRun_len r (acc++[f])
  rw [List.length_append,List.length_singleton] at this
  rw [List.length_cons]
  omega
theorem lex_toks_len (s:ByteArray) (h:s.size < 1099511627776):(gLex s).1.length < 549755813888:=by
 unfold gLex
 split
 ·decide
 have h1:=lexRun_len (gToks s (s.size+1) 0) []
 have h2:=toks_len s (s.size+1) 0
 rw [List.length_nil] at h1
 omega
end
end Go.Proofs.YtlnfjkdacimblaaGreatDoor
section
namespace Go.Proofs.YtlnfjkdacimblaaGreatDoor
open Go.Abs
/-- What the three sides have for a key. -/
structure M3 where
 k:ByteArray
 b:ByteArray
 o:ByteArray
 t:ByteArray
/-! ### the objects -/
end Go.Proofs.YtlnfjkdacimblaaGreatDoor
namespace Go.Abs
end Go.Abs
namespace Go.Proofs.YtlnfjkdacimblaaGreatDoor
open Go.Abs
end Go.Proofs.YtlnfjkdacimblaaGreatDoor
end
namespace Go.Proofs.YtlnfjkdacimblaaGreatDoor
open Go.Abs
section
/-- The value of a key, and whether it is a conflict. -/
def m1 (p:M3):ByteArray×Bool:=if p.t=p.o then(p.o,false)else if p.t=p.b then(p.o,false)else if p.o=p.b then(p.t,false)else(p.b,true)
end
section
theorem asc_inj {l:List GTag} (ha:asc GTag.key l) {a b:GTag} (h1:a∈l) (h2:b∈l) (e:a.key=b.key):a=b:=by
 obtain ⟨i,hi⟩:=List.mem_iff_getElem?.1 h1
 obtain ⟨j,hj⟩:=List.mem_iff_getElem?.1 h2
 rcases Nat.lt_trichotomy i j with h|h|h
 ·have:=asc_get ha h hi hj
  rw [e,slt_irr] at this;cases this
 ·subst h
  rw [hi] at hj;exact Option.some.inj hj
 have:=asc_get ha h hj hi
 rw [e,slt_irr] at this;cases this
theorem gGet_mem {l:List GTag} {k v:ByteArray} (h:gGet l k=some v):(⟨k,v⟩:GTag)∈l:=by
 rw [gGet,Option.map_eq_some_iff] at h
 obtain ⟨t,ht,rfl⟩:=h
 have h1:=List.find?_some ht
 have h2:=List.mem_of_find?_eq_some ht
 have e:=of_decide_eq_true h1
 obtain ⟨a,b⟩:=t
 subst e
 exact h2
theorem gGet_of {l:List GTag} (ha:asc GTag.key l) {k v:ByteArray} (h:(⟨k,v⟩:GTag)∈l):gGet l k=some v:=by
 cases hf:l.find? (fun t=>decide (t.key=k))with
 | none =>
  have:=List.find?_eq_none.1 hf _ h
  simp at this
 | some t =>
  have h0:=List.find?_some hf
  have h1:t.key=k:=of_decide_eq_true h0
  have h2:=List.mem_of_find?_eq_some hf
  have:=asc_inj ha h2 h h1
  subst this
  rw [gGet,hf]
  rfl
theorem gGet_iff {l:List GTag} (ha:asc GTag.key l) {k v:ByteArray}:gGet l k=some v↔(⟨k,v⟩:GTag)∈l:=⟨gGet_mem,gGet_of ha⟩
theorem gGet_none {l:List GTag} {k:ByteArray} (h:∀ t,t∈l→t.key≠k):gGet l k=none:=by
 cases e:gGet l k with
 | none=>rfl
 | some v=>exact absurd rfl (h _ (gGet_mem e))
theorem opt_ext {a b:Option ByteArray} (h:∀ v,a=some v↔b=some v):a=b:=by
 cases a with
 | none=>cases b with
  | none=>rfl
  | some v=>exact absurd ((h v).2 rfl) (by simp)
 | some v=>exact((h v).1 rfl).symm
theorem asc_nodup {l:List GTag} (ha:asc GTag.key l):l.Nodup:=by
 refine List.Pairwise.imp (fun {a b} h e=>?_) ha
 subst e
 rw [slt_irr] at h;cases h
/-- Tags with the same lookups are the same. -/
theorem tags_ext {a b:List GTag} (ha:asc GTag.key a) (hb:asc GTag.key b) (h:∀ k,gGet a k=gGet b k):a=b:=by
 have hp:a.Perm b:=(List.perm_ext_iff_of_nodup (asc_nodup ha) (asc_nodup hb)).2 fun t=>by
  obtain ⟨k,v⟩:=t
  rw [← gGet_iff ha,← gGet_iff hb,h k]
 refine List.Perm.eq_of_pairwise (fun x y _ _ h3 h4=>?_) ha hb hp
 have:=slt_trans h3 h4
 rw [slt_irr] at this;cases this
theorem cut9 {α:Type} {l:List α} {i:Nat} {x:α} (h:l[i]?=some x):l=l.take i++x::l.drop (i+1):=by
 obtain ⟨h1,h2⟩:=List.getElem?_eq_some_iff.1 h
 conv=>lhs;rw [← List.take_append_drop i l]
 rw [List.drop_eq_getElem_cons h1,h2]
theorem asc_app {l1 l2:List GTag} {y:GTag} (h:asc GTag.key (l1++y::l2)):(∀ a,a∈l1→slt a.key y.key=true)∧(∀ b,b∈l2→slt y.key b.key=true)∧asc GTag.key l1∧asc GTag.key l2∧(∀ a,a∈l1→∀ b,b∈l2→slt a.key b.key=true):=by
 rw [asc,List.pairwise_append] at h
 obtain ⟨h1,h2,h3⟩:=h
 rw [List.pairwise_cons] at h2
 exact⟨fun a ha=>h3 a ha y List.mem_cons_self,h2.1,h1,h2.2,fun a ha b hb=>h3 a ha b (List.mem_cons_of_mem _ hb)⟩
theorem asc_mk {l1 l2:List GTag} {y:GTag} (h1:asc GTag.key l1) (h2:asc GTag.key l2) (ha:∀ a,a∈l1→slt a.key y.key=true) (hb:∀ b,b∈l2→slt y.key b.key=true):asc GTag.key (l1++y::l2):=by
 rw [asc,List.pairwise_append,List.pairwise_cons]
 refine⟨h1,⟨hb,h2⟩,fun a h b h'=>?_⟩
 rcases List.mem_cons.1 h' with rfl|h'
 ·exact ha a h
 exact slt_trans (ha a h) (hb b h')
theorem asc_del {l1 l2:List GTag} {y:GTag} (h:asc GTag.key (l1++y::l2)):asc GTag.key (l1++l2):=by
 obtain ⟨_,_,h1,h2,h3⟩:=asc_app h
 exact List.pairwise_append.2 ⟨h1,h2,h3⟩
theorem noK {l:List GTag} {k:ByteArray} (h:hasK GTag.key l k=false):∀ t,t∈l→t.key≠k:=fun t ht e=>by
 have:hasK GTag.key l k=true:=List.any_eq_true.2 ⟨t,ht,decide_eq_true e⟩
 rw [h] at this;cases this
/-- What tag.Set asks for. -/
def canSet (l:List GTag) (key val:ByteArray):Prop:=gTags l=true∧gName key=true∧val.size≤200∧(hasK GTag.key l key=false→val≠sNil→l.length≠60)
theorem gSet_cases (l:List GTag) (key val:ByteArray) :
  (¬ canSet l key val∧(gSet l key val).1=[]∧((gSet l key val).2=1∨((gSet l key val).2=2∧l.length=60))) ∨
  (canSet l key val∧(gSet l key val).2=0∧gTags (gSet l key val).1=true∧(∀ k,gGet (gSet l key val).1 k=if k=key then(if val=sNil then none else some val)else gGet l k)∧(gSet l key val).1.length≤l.length+1∧(hasK GTag.key l key=true→val=sNil→(gSet l key val).1.length+1=l.length)):=by
 unfold gSet
 by_cases h1:(!gTags l||!gName key||decide (200 < (val.size:Int)))=true
 ·rw [if_pos h1]
  left
  refine⟨fun h=>?_,rfl,.inl rfl⟩
  obtain ⟨a,b,c,_⟩:=h
  rw [a,b] at h1
  simp only [Bool.not_true,Bool.false_or,decide_eq_true_eq] at h1
  omega
 rw [if_neg h1]
 have h1':=h1
 simp only [Bool.or_eq_true,not_or,Bool.not_eq_true',Bool.not_eq_false,decide_eq_true_eq] at h1'
 obtain ⟨⟨hg,hn⟩,hv⟩:=h1'
 have hv2:val.size≤200:=by omega
 obtain ⟨g1,g2,g3⟩:=gTags_iff.1 hg
 by_cases h2:hasK GTag.key l key=true
 ·rw [if_pos h2]
  right
  obtain ⟨y,hy,hye⟩:=hasK_get (f:=GTag.key) g2 h2
  have hcan:canSet l key val:=⟨hg,hn,hv2,fun h=>by rw [h2] at h;cases h⟩
  have hlt:=(List.getElem?_eq_some_iff.1 hy).1
  have hcut:=cut9 hy
  obtain ⟨A,hA⟩:∃ A,A=l.take (lbI GTag.key l key):=⟨_,rfl⟩
  obtain ⟨B,hB⟩:∃ B,B=l.drop (lbI GTag.key l key+1):=⟨_,rfl⟩
  have hset:l.set (lbI GTag.key l key) ⟨key,val⟩=A++⟨key,val⟩::B:=by rw [List.set_eq_take_append_cons_drop,if_pos hlt,hA,hB]
  rw [← hA,← hB] at hcut
  rw [← hA,← hB,hset]
  have g2':=g2
  rw [hcut] at g2'
  obtain ⟨p1,p2,p3,p4,p5⟩:=asc_app g2'
  have hlen:l.length=A.length+B.length+1:=by rw [hcut,List.length_append,List.length_cons];omega
  have hmem:∀ t,t∈l↔t∈A∨t=y∨t∈B:=fun t=>by rw [hcut];simp
  have hne:∀ t,t∈A∨t∈B→t.key≠key:=fun t ht e=>by
   rcases ht with h|h
   ·have:=p1 t h
    rw [e,hye,slt_irr] at this;cases this
   have:=p2 t h
   rw [e,hye,slt_irr] at this;cases this
  by_cases h3:val=sNil
  ·rw [if_pos h3]
   have hasc:asc GTag.key (A++B):=asc_del g2'
   refine⟨hcan,rfl,gTags_iff.2 ⟨fun t ht=>g1 t ((hmem t).2 ?_),hasc,by show (A++B).length≤60;rw [List.length_append];omega⟩,fun k=>?_,by show (A++B).length≤_;rw [List.length_append];omega,fun _ _=>by show (A++B).length+1=_;rw [List.length_append];omega⟩
   ·rcases List.mem_append.1 ht with h|h
    ·exact .inl h
    exact .inr (.inr h)
   show gGet (A++B) k=_
   by_cases hk:k=key
   ·rw [if_pos hk,if_pos h3]
    exact gGet_none fun t ht=>by rw [hk];exact hne t (List.mem_append.1 ht)
   rw [if_neg hk]
   refine opt_ext fun v=>?_
   rw [gGet_iff hasc,gGet_iff g2,hmem,List.mem_append]
   constructor
   ·rintro(h|h)
    ·exact .inl h
    exact .inr (.inr h)
   rintro(h|h|h)
   ·exact .inl h
   ·rw [← h] at hye;exact absurd hye hk
   exact .inr h
  rw [if_neg h3]
  have hasc:asc GTag.key (A++⟨key,val⟩::B):=asc_mk p3 p4 (fun a ha=>by have:=p1 a ha;rwa [hye] at this) (fun b hb=>by have:=p2 b hb;rwa [hye] at this)
  refine⟨hcan,rfl,gTags_iff.2 ⟨fun t ht=>?_,hasc,by show (A++⟨key,val⟩::B).length≤60;rw [List.length_append,List.length_cons];omega⟩,fun k=>?_,by show (A++⟨key,val⟩::B).length≤_;rw [List.length_append,List.length_cons];omega,fun _ h=>absurd h h3⟩
  ·rcases List.mem_append.1 ht with h|h
   ·exact g1 t ((hmem t).2 (.inl h))
   rcases List.mem_cons.1 h with rfl|h
   ·exact⟨hn,h3,hv2⟩
   exact g1 t ((hmem t).2 (.inr (.inr h)))
  show gGet (A++⟨key,val⟩::B) k=_
  by_cases hk:k=key
  ·rw [if_pos hk,if_neg h3,hk]
   exact gGet_of hasc (by simp)
  rw [if_neg hk]
  refine opt_ext fun v=>?_
  rw [gGet_iff hasc,gGet_iff g2,hmem,List.mem_append,List.mem_cons]
  constructor
  ·rintro(h|h|h)
   ·exact .inl h
   ·exact absurd (congrArg GTag.key h) hk
   exact .inr (.inr h)
  rintro(h|h|h)
  ·exact .inl h
  ·rw [← h] at hye;exact absurd hye hk
  exact .inr (.inr h)
 rw [if_neg h2]
 have h2f:hasK GTag.key l key=false:=by simpa using h2
 have hno:=noK h2f
 by_cases h3:val=sNil
 ·rw [if_pos h3]
  right
  refine⟨⟨hg,hn,hv2,fun _ h=>absurd h3 h⟩,rfl,hg,fun k=>?_,Nat.le_succ _,fun h=>absurd h h2⟩
  by_cases hk:k=key
  ·rw [if_pos hk,if_pos h3,hk]
   exact gGet_none hno
  rw [if_neg hk]
 rw [if_neg h3]
 by_cases h4:l.length=60
 ·rw [if_pos h4]
  left
  exact⟨fun h=>h.2.2.2 h2f h3 h4,rfl,.inr ⟨rfl,h4⟩⟩
 rw [if_neg h4]
 right
 have hasc:asc GTag.key (l.take (lbI GTag.key l key)++⟨key,val⟩::l.drop (lbI GTag.key l key)):=asc_ins (f:=GTag.key) (o:=⟨key,val⟩) g2 h2f
 have hmem:∀ t,t∈l↔t∈l.take (lbI GTag.key l key)∨t∈l.drop (lbI GTag.key l key):=fun t=>by
  rw [← List.mem_append,List.take_append_drop]
 have hlen:(l.take (lbI GTag.key l key)).length+(l.drop (lbI GTag.key l key)).length=l.length:=by rw [← List.length_append,List.take_append_drop]
 refine⟨⟨hg,hn,hv2,fun _ _=>h4⟩,rfl,gTags_iff.2 ⟨fun t ht=>?_,hasc,by show (l.take (lbI GTag.key l key)++⟨key,val⟩::l.drop (lbI GTag.key l key)).length≤60;rw [List.length_append,List.length_cons];omega⟩,fun k=>?_,by show (l.take (lbI GTag.key l key)++⟨key,val⟩::l.drop (lbI GTag.key l key)).length≤_;rw [List.length_append,List.length_cons];omega,fun h=>absurd h h2⟩
 ·rcases List.mem_append.1 ht with h|h
  ·exact g1 t ((hmem t).2 (.inl h))
  rcases List.mem_cons.1 h with rfl|h
  ·exact⟨hn,h3,hv2⟩
  exact g1 t ((hmem t).2 (.inr h))
 show gGet (l.take (lbI GTag.key l key)++⟨key,val⟩::l.drop (lbI GTag.key l key)) k=_
 by_cases hk:k=key
 ·rw [if_pos hk,if_neg h3,hk]
  exact gGet_of hasc (by simp)
 rw [if_neg hk]
 refine opt_ext fun v=>?_
 rw [gGet_iff hasc,gGet_iff g2,hmem,List.mem_append,List.mem_cons]
 constructor
 ·rintro(h|h|h)
  ·exact .inl h
  ·exact absurd (congrArg GTag.key h) hk
  exact .inr h
 rintro(h|h)
 ·exact .inl h
 exact .inr (.inr h)
end
section
instance decMemB (s:ByteArray) (l:List ByteArray):Decidable (s∈l):=decidable_of_iff (inB l s=true) inB_iff
def dropE (s:ByteArray):GEdit:=⟨5,s,sNil,sNil,0,0,sNil,sNil,[],zObj⟩
def putE (o:GObj):GEdit:=⟨1,sNil,sNil,sNil,0,0,sNil,sNil,[],o⟩
def moveE (s:ByteArray) (x y:Int):GEdit:=⟨2,s,sNil,sNil,x,y,sNil,sNil,[],zObj⟩
def refsE (s:ByteArray) (r:List ByteArray):GEdit:=⟨4,s,sNil,sNil,0,0,sNil,sNil,r,zObj⟩
def tagE (s k v:ByteArray):GEdit:=⟨3,s,sNil,sNil,0,0,k,v,[],zObj⟩
/-- A closed map, and what can be looked up in it. -/
structure Stt (m:List GObj) (f:ByteArray→Option GObj):Prop where
 c:closedB m=true
 l:∀ s,look m s=f s
def upd (f:ByteArray→Option GObj) (s:ByteArray) (x:Option GObj) (t:ByteArray):Option GObj:=if t=s then x else f t
theorem upd_same (f:ByteArray→Option GObj) (s:ByteArray) (x:Option GObj):upd f s x s=x:=if_pos rfl
theorem upd_other (f:ByteArray→Option GObj) {s t:ByteArray} (x:Option GObj) (h:t≠s):upd f s x t=f t:=if_neg h
theorem Stt.id {m:List GObj} {f:ByteArray→Option GObj} (h:Stt m f) {s:ByteArray} {o:GObj} (ho:f s=some o):o.id=s:=look_id ((h.l s).trans ho)
theorem Stt.mem {m:List GObj} {f:ByteArray→Option GObj} (h:Stt m f) {s:ByteArray} {o:GObj} (ho:f s=some o):o∈m:=look_mem ((h.l s).trans ho)
theorem Stt.of {m:List GObj} {f:ByteArray→Option GObj} (h:Stt m f) {o:GObj} (ho:o∈m):f o.id=some o:=by rw [← h.l];exact mem_look (gMap_iff.1 (closed_gMap h.c)).2.1 ho
theorem Stt.gObj {m:List GObj} {f:ByteArray→Option GObj} (h:Stt m f) {s:ByteArray} {o:GObj} (ho:f s=some o):gObj o=true:=(gMap_iff.1 (closed_gMap h.c)).1 o (h.mem ho)
theorem Stt.name {m:List GObj} {f:ByteArray→Option GObj} (h:Stt m f) {s:ByteArray} {o:GObj} (ho:f s=some o):gName s=true:=by rw [← h.id ho];exact(gObj_len (h.gObj ho)).2.2.2.1
theorem Stt.congr {m:List GObj} {f g:ByteArray→Option GObj} (h:Stt m f) (e:∀ s,f s=g s):Stt m g:=⟨h.c,fun s=>(h.l s).trans (e s)⟩
inductive Run:List GObj→List GEdit→List GObj→Prop
 | nil (m:List GObj):Run m [] m
 | cons {m m1 m2:List GObj} {e:GEdit} {l:List GEdit} (h1:gAfter m e=(m1,0)) (h2:Run m1 l m2):Run m (e::l) m2
theorem Run.app {m m1 m2:List GObj} {l1 l2:List GEdit} (h1:Run m l1 m1) (h2:Run m1 l2 m2):Run m (l1++l2) m2:=by
 induction h1 with
 | nil m=>exact h2
 | cons h3 h4 ih=>exact .cons h3 (ih h2)
theorem Run.all {m m2:List GObj} {l:List GEdit} (h:Run m l m2):∀ i:Nat,gAllFrom m i l=(m2,-1,0):=by
 induction h with
 | nil m=>exact fun i=>rfl
 | cons h1 h2 ih =>
  intro i
  rw [gAllFrom,if_neg (by rw [h1];simp),h1]
  exact ih (i+1)
theorem step_perf {m:List GObj} {f:ByteArray→Option GObj} {e:GEdit} {r:GRes} (h:Stt m f) (hv:gEditV e=true) (hp:Perf m e r) (h0:r.err=0) (ho:∀ o,o∈r.put→gObj o=true) (hl:m.length+2≤1000000) (hp2:r.put.length≤1) (hd:r.drop=sNil∨hasK GObj.id (r.put.foldl gWith m) r.drop=true) :
  ∃ m',gAfter m e=(m',0)∧Stt m' (toF r f)∧m'.length≤m.length+1:=by
 have hg:=closed_gMap h.c
 have ha:=after_of hg hv (of_perf hp) h0 ho hl (by omega) hd
 refine⟨_,ha,⟨?_,fun s=>?_⟩,?_⟩
 ·have:=after_closed h.c (e:=e) (by rw [ha])
  rwa [ha] at this
 ·rw [look_to (gMap_iff.1 hg).2.1 hd]
  have e:(look m)=f:=funext h.l
  rw [e]
 exact Nat.le_trans to_len (by omega)
theorem toF_one (o:GObj) (f:ByteArray→Option GObj) (s:ByteArray):toF ⟨[o],sNil,0⟩ f s=upd f o.id (some o) s:=by rw [toF,if_pos rfl,putF,putF];rfl
theorem toF_drop {d:ByteArray} (hd:d≠sNil) (f:ByteArray→Option GObj) (s:ByteArray):toF ⟨[],d,0⟩ f s=upd f d none s:=by rw [toF,if_neg hd,putF];rfl
theorem valid_drop {s:ByteArray} (h:gName s=true):gEditV (dropE s)=true:=gEditV_iff.2 ⟨⟨(by decide:(1:Int)≤5),(by decide:(5:Int)≤7)⟩,by rw [dropE,okOf];simp [h],rfl⟩
theorem valid_put {o:GObj} (h:gObj o=true):gEditV (putE o)=true:=gEditV_iff.2 ⟨⟨(by decide:(1:Int)≤1),(by decide:(1:Int)≤7)⟩,by rw [putE,okOf];simp [h],rfl⟩
theorem valid_move {s:ByteArray} {x y:Int} (h:gName s=true) (hp:onP x y=true):gEditV (moveE s x y)=true:=gEditV_iff.2 ⟨⟨(by decide:(1:Int)≤2),(by decide:(2:Int)≤7)⟩,by rw [moveE,okOf];simp [h,hp],rfl⟩
theorem valid_tag {s k v:ByteArray} (h:gName s=true) (hk:gName k=true) (hv:v.size≤200):gEditV (tagE s k v)=true:=gEditV_iff.2 ⟨⟨(by decide:(1:Int)≤3),(by decide:(3:Int)≤7)⟩,by rw [tagE,okOf];simp [h,hk];omega,rfl⟩
theorem valid_refs {s:ByteArray} {r:List ByteArray} (h:gName s=true) (h1:0 < r.length) (h2:r.length≤2000) (hr:∀ x∈r,gName x=true):gEditV (refsE s r)=true:=gEditV_iff.2 ⟨⟨(by decide:(1:Int)≤4),(by decide:(4:Int)≤7)⟩,by
 rw [refsE,okOf]
 simp only [h,Bool.true_and]
 rw [if_neg (by decide),if_neg (by decide),if_neg (by decide),if_pos trivial,Bool.and_eq_true,Bool.and_eq_true,decide_eq_true_eq,decide_eq_true_eq,List.all_eq_true]
 exact⟨⟨by omega,by omega⟩,hr⟩,rfl⟩
theorem step_drop {m:List GObj} {f:ByteArray→Option GObj} (h:Stt m f) {s:ByteArray} {o:GObj} (ho:f s=some o) (hr:∀ x y,f x=some y→s∉y.refs) (hl:m.length+2≤1000000) :
  ∃ m',gAfter m (dropE s)=(m',0)∧Stt m' (upd f s none)∧m'.length≤m.length+1:=by
 have hn:=h.name ho
 have hlk:look m s=some o:=(h.l s).trans ho
 obtain ⟨m',h1,h2,h3⟩:=step_perf (r:=⟨[],s,0⟩) h (valid_drop hn) (.drop o rfl hlk (gRefd_iff.2 fun x hx=>refsTo_no fun t ht=>by
  rw [show (dropE s).id=s from rfl,List.mem_singleton]
  rintro rfl
  exact hr x.id x (h.of hx) ht)) rfl (fun o h=>by cases h) hl (Nat.zero_le _) (.inr (by show hasK GObj.id m s=true;rw [hasK_look,hlk];rfl))
 exact⟨m',h1,h2.congr (toF_drop (gName_ne hn) f),h3⟩
theorem step_put {m:List GObj} {f:ByteArray→Option GObj} (h:Stt m f) {o:GObj} (hn:f o.id=none) (hg:gObj o=true) (hr:∀ (i:Nat) s,o.refs[i]?=some s→∃ y,f s=some y∧y.kind=gWanted o.kind (i:Int)) (hl:m.length+2≤1000000) :
  ∃ m',gAfter m (putE o)=(m',0)∧Stt m' (upd f o.id (some o))∧m'.length≤m.length+1:=by
 obtain ⟨m',h1,h2,h3⟩:=step_perf (r:=⟨[o],sNil,0⟩) h (valid_put hg) (.put rfl (by rw [kindOf_look,h.l,show (putE o).obj=o from rfl,hn];rfl) (refErr_ok.2 fun i s hs=>by
  obtain ⟨y,hy,hk⟩:=hr i s hs
  rw [kindOf_look,h.l,hy,Option.map_some,hk]
  rfl)) rfl (fun x hx=>by rw [List.mem_singleton.1 hx];exact hg) hl (Nat.le_refl _) (.inl rfl)
 exact⟨m',h1,h2.congr (toF_one o f),h3⟩
theorem step_one {m:List GObj} {f:ByteArray→Option GObj} (h:Stt m f) {e:GEdit} {o:GObj} {s:ByteArray} (hs:o.id=s) (hv:gEditV e=true) (hp:Perf m e ⟨[o],sNil,0⟩) (hg:gObj o=true) (hl:m.length+2≤1000000) :
  ∃ m',gAfter m e=(m',0)∧Stt m' (upd f s (some o))∧m'.length≤m.length+1:=by
 obtain ⟨m',h1,h2,h3⟩:=step_perf h hv hp rfl (fun x hx=>by rw [List.mem_singleton.1 hx];exact hg) hl (Nat.le_refl _) (.inl rfl)
 exact⟨m',h1,h2.congr (fun t=>by rw [toF_one,hs]),h3⟩
/-- Objects dropped, those that refer to others first. -/
theorem run_drops:∀ (D:List GObj) {m:List GObj} {f:ByteArray→Option GObj},Stt m f→(∀ o∈D,f o.id=some o)→D.Pairwise (fun x y=>x.id≠y.id∧x.id∉y.refs)→(∀ o∈D,o.id∉o.refs)→(∀ x y,f x=some y→∀ o∈D,o.id∈y.refs→y∈D)→m.length+D.length+2≤1000000 →
  ∃ m',Run m (D.map fun o=>dropE o.id) m'∧Stt m' (fun s=>if s∈D.map GObj.id then none else f s)∧m'.length≤m.length+D.length
 | [],m,f,h,_,_,_,_,_=>⟨m,.nil m,h.congr fun s=>(if_neg (List.not_mem_nil)).symm,Nat.le_refl _⟩
 | o::D,m,f,h,hD,hp,hs,hr,hl=>by
  rw [List.pairwise_cons] at hp
  rw [List.length_cons] at hl
  obtain ⟨m1,h1,h2,h3⟩:=step_drop h (hD o List.mem_cons_self) (fun x y hy hx=>by
   have hm:=hr x y hy o List.mem_cons_self hx
   rcases List.mem_cons.1 hm with rfl|hm
   ·exact hs _ List.mem_cons_self hx
   exact(hp.1 y hm).2 hx) (by omega)
  have hne:∀ x∈D,x.id≠o.id:=fun x hx e=>(hp.1 x hx).1 e.symm
  obtain ⟨m2,g1,g2,g3⟩:=run_drops D h2 (fun x hx=>by rw [upd_other _ _ (hne x hx)];exact hD x (List.mem_cons_of_mem _ hx)) hp.2 (fun x hx=>hs x (List.mem_cons_of_mem _ hx)) (fun x y hy z hz hzr=>by
   by_cases e:x=o.id
   ·rw [e,upd_same] at hy;cases hy
   rw [upd_other _ _ e] at hy
   rcases List.mem_cons.1 (hr x y hy z (List.mem_cons_of_mem _ hz) hzr)with rfl|hm
   ·exact absurd (h.id hy).symm e
   exact hm) (by omega)
  refine⟨m2,.cons h1 g1,g2.congr fun s=>?_,by rw [List.length_cons];omega⟩
  rw [List.map_cons]
  by_cases e:s=o.id
  ·rw [if_pos (show s∈o.id::_ from e▸List.mem_cons_self)]
   split
   ·rfl
   rw [e,upd_same]
  by_cases e2:s∈D.map GObj.id
  ·rw [if_pos e2,if_pos (List.mem_cons_of_mem _ e2)]
  rw [if_neg e2,if_neg (fun h=>(List.mem_cons.1 h).elim e e2),upd_other _ _ e]
def putD:List GObj→(ByteArray→Option GObj)→ByteArray→Option GObj
 | [],f=>f
 | o::D,f=>putD D (upd f o.id (some o))
theorem putD_in:∀ {D:List GObj} {f:ByteArray→Option GObj} {o:GObj},D.Pairwise (fun x y=>x.id≠y.id)→o∈D→putD D f o.id=some o
 | x :: D, f, o, hp, ho => by
  rw [List.pairwise_cons] at hp
  rw [putD]
  rcases List.mem_cons.1 ho with rfl|ho
  ·have hout:∀ {D:List GObj} {f:ByteArray→Option GObj} {s:ByteArray},(∀ y∈D,y.id≠s)→putD D f s=f s:=by
    intro D
    induction D with
    | nil=>intro f s _;rfl
    | cons y D ih =>
     intro f s h
     rw [putD,ih fun z hz=>h z (List.mem_cons_of_mem _ hz)]
     exact upd_other _ _ (h y List.mem_cons_self).symm
   rw [hout fun y hy e=>hp.1 y hy e.symm,upd_same]
  exact putD_in hp.2 ho
theorem putD_out:∀ {D:List GObj} {f:ByteArray→Option GObj} {s:ByteArray},(∀ y∈D,y.id≠s)→putD D f s=f s
 | [],_,_,_=>rfl
 | y::D,f,s,h=>by
  rw [putD,putD_out fun z hz=>h z (List.mem_cons_of_mem _ hz)]
  exact upd_other _ _ (h y List.mem_cons_self).symm
/-- Objects put, those that others refer to first. -/
theorem run_puts:∀ (D:List GObj) {m:List GObj} {f:ByteArray→Option GObj},Stt m f→(∀ o∈D,f o.id=none∧gObj o=true∧o.id∉o.refs)→D.Pairwise (fun x y=>x.id≠y.id∧y.id∉x.refs) →
  (∀ o∈D,∀ (i:Nat) s,o.refs[i]?=some s→(∃ y,f s=some y∧y.kind=gWanted o.kind (i:Int))∨∃ y,y∈D∧y.id=s∧y.kind=gWanted o.kind (i:Int))→m.length+D.length+2≤1000000 →
  ∃ m',Run m (D.map putE) m'∧Stt m' (putD D f)∧m'.length≤m.length+D.length
 | [],m,f,h,_,_,_,_=>⟨m,.nil m,h,Nat.le_refl _⟩
 | o::D,m,f,h,hD,hp,hr,hl=>by
  rw [List.pairwise_cons] at hp
  rw [List.length_cons] at hl
  obtain ⟨a1,a2,a3⟩:=hD o List.mem_cons_self
  obtain ⟨m1,h1,h2,h3⟩:=step_put h a1 a2 (fun i s hs=>by
   rcases hr o List.mem_cons_self i s hs with hh|⟨y,hy,hys,hyk⟩
   ·exact hh
   have hmem:=List.mem_of_getElem? hs
   rcases List.mem_cons.1 hy with rfl|hy
   ·exact absurd (hys▸hmem) a3
   exact absurd (hys▸hmem) (hp.1 y hy).2) (by omega)
  have hne:∀ x∈D,x.id≠o.id:=fun x hx e=>(hp.1 x hx).1 e.symm
  obtain ⟨m2,g1,g2,g3⟩:=run_puts D h2 (fun x hx=>by
   obtain ⟨b1,b2,b3⟩:=hD x (List.mem_cons_of_mem _ hx)
   exact⟨by rw [upd_other _ _ (hne x hx)];exact b1,b2,b3⟩) hp.2 (fun x hx i s hs=>by
   rcases hr x (List.mem_cons_of_mem _ hx) i s hs with⟨y,hy,hk⟩|⟨y,hy,hys,hyk⟩
   ·refine .inl ⟨y,?_,hk⟩
    rw [upd_other _ _ (fun e=>by rw [e,a1] at hy;cases hy)]
    exact hy
   rcases List.mem_cons.1 hy with rfl|hy
   ·exact .inl ⟨y,by rw [← hys,upd_same],hyk⟩
   exact .inr ⟨y,hy,hys,hyk⟩) (by omega)
  exact⟨m2,.cons h1 g1,g2,by rw [List.length_cons];omega⟩
/-- Objects changed one after the other. -/
theorem run_each {κ:Type} (g:κ→List GEdit) (C C':κ→GObj) (kd:ByteArray→Option Int) (hid:∀ k,(C k).id=(C' k).id∧(C k).kind=(C' k).kind):∀ (B:List κ),
  (∀ k,k∈B→∀ (m:List GObj) (f:ByteArray→Option GObj),Stt m f→(∀ s,(f s).map GObj.kind=kd s)→f (C k).id=some (C k)→m.length+(g k).length+2≤1000000→∃ m',Run m (g k) m'∧Stt m' (upd f (C k).id (some (C' k)))∧m'.length≤m.length+(g k).length) →
  B.Pairwise (fun x y=>(C x).id≠(C y).id)→∀ {m:List GObj} {f:ByteArray→Option GObj},Stt m f→(∀ s,(f s).map GObj.kind=kd s)→(∀ k∈B,f (C k).id=some (C k))→m.length+(B.flatMap g).length+2≤1000000 →
  ∃ m',Run m (B.flatMap g) m'∧Stt m' (putD (B.map C') f)∧m'.length≤m.length+(B.flatMap g).length∧∀ s,(putD (B.map C') f s).map GObj.kind=kd s
 | [],_,_,m,f,h,hk,_,_=>⟨m,.nil m,h,Nat.le_refl _,hk⟩
 | k::B,hs,hp,m,f,h,hk,hc,hl=>by
  rw [List.pairwise_cons] at hp
  rw [List.flatMap_cons,List.length_append] at hl
  obtain ⟨m1,h1,h2,h3⟩:=hs k List.mem_cons_self m f h hk (hc k List.mem_cons_self) (by omega)
  have hk2:∀ s,(upd f (C k).id (some (C' k)) s).map GObj.kind=kd s:=fun s=>by
   by_cases e:s=(C k).id
   ·rw [e,upd_same,← hk,hc k List.mem_cons_self,Option.map_some,Option.map_some,(hid k).2]
   rw [upd_other _ _ e];exact hk s
  obtain ⟨m2,g1,g2,g3,g4⟩:=run_each g C C' kd hid B (fun x hx=>hs x (List.mem_cons_of_mem _ hx)) hp.2 h2 hk2 (fun x hx=>by rw [upd_other _ _ (fun e=>hp.1 x hx e.symm)];exact hc x (List.mem_cons_of_mem _ hx)) (by omega)
  rw [List.map_cons,putD,← (hid k).1]
  exact⟨m2,by rw [List.flatMap_cons];exact h1.app g1,g2,by rw [List.flatMap_cons,List.length_append];omega,g4⟩
/-- Tags set one after the other. -/
def setAll (T:List GTag) (L:List (ByteArray×ByteArray)):List GTag:=L.foldl (fun T p=>(gSet T p.1 p.2).1) T
def SetOk:List GTag→List (ByteArray×ByteArray)→Prop
 | _,[]=>True
 | T,p::L=>canSet T p.1 p.2∧SetOk (gSet T p.1 p.2).1 L
def withT (c:GObj) (T:List GTag):GObj:=⟨c.id,c.kind,c.x,c.y,c.refs,T⟩
theorem set_can {T:List GTag} {k v:ByteArray} (h:canSet T k v):(gSet T k v).2=0∧gTags (gSet T k v).1=true∧∀ x,gGet (gSet T k v).1 x=if x=k then(if v=sNil then none else some v)else gGet T x:=by
 rcases gSet_cases T k v with⟨h1,_⟩|⟨_,h2,h3,h4,_⟩
 ·exact absurd h h1
 exact⟨h2,h3,h4⟩
theorem run_tags {c:GObj} (hc:∀ T,gTags T=true→gObj (withT c T)=true):∀ (L:List (ByteArray×ByteArray)) {T:List GTag} {m:List GObj} {f:ByteArray→Option GObj},Stt m f→f c.id=some (withT c T)→SetOk T L→m.length+L.length+2≤1000000 →
  ∃ m',Run m (L.map fun p=>tagE c.id p.1 p.2) m'∧Stt m' (upd f c.id (some (withT c (setAll T L))))∧m'.length≤m.length+L.length
 | [],T,m,f,h,hf,_,_=>⟨m,.nil m,h.congr fun s=>by
   by_cases e:s=c.id
   ·rw [e,upd_same];exact hf
   rw [upd_other _ _ e],Nat.le_refl _⟩
 | p::L,T,m,f,h,hf,hs,hl=>by
  rw [List.length_cons] at hl
  obtain ⟨e1,e2,e3⟩:=set_can hs.1
  have hlk:look m c.id=some (withT c T):=(h.l _).trans hf
  have hg:=hc _ e2
  obtain ⟨m1,h1,h2,h3⟩:=step_one (o:=withT c (gSet T p.1 p.2).1) (s:=c.id) h rfl (valid_tag (h.name hf) hs.1.2.1 hs.1.2.2.1) (.tag (withT c T) rfl hlk e1) hg (by omega)
  obtain ⟨m2,g1,g2,g3⟩:=run_tags hc L (T:=(gSet T p.1 p.2).1) h2 (upd_same _ _ _) hs.2 (by omega)
  refine⟨m2,.cons h1 g1,g2.congr fun s=>?_,by rw [List.length_cons];omega⟩
  by_cases e:s=c.id
  ·rw [e,upd_same,upd_same];rfl
  rw [upd_other _ _ e,upd_other _ _ e,upd_other _ _ e]
end
section
theorem size_list (s:ByteArray):s.data.toList.length=s.size:=by simp
theorem ba_ext {a b:ByteArray} (h:a.data.toList=b.data.toList):a=b:=by
 cases a with|mk a=>cases b with|mk b=>cases a;cases b;simp at h;rw [h]
theorem extract_list (s:ByteArray) (i j:Nat):(s.extract i j).data.toList=(s.data.toList.drop i).take (j - i):=by
 rw [ByteArray.data_extract,Array.toList_extract,List.extract_eq_take_drop]
/-! ### one word -/
/-! ### the text -/
def lineL (t:GTag):List UInt8:=t.key.data.toList++61::gQuote t.val.data.toList
def moreL (l:List GTag):List UInt8:=l.flatMap fun t=>32::lineL t
end
end Go.Proofs.YtlnfjkdacimblaaGreatDoor
namespace Go.Abs
section
/-- The pieces between the bytes c. -/
def splitC (c:UInt8):List UInt8→List (List UInt8)
 | []=>[[]]
 | b::l=>if b=c then[]::splitC c l else((b::(splitC c l).headD [])::(splitC c l).tail)
theorem splitC_pos (c:UInt8) (l:List UInt8):0 < (splitC c l).length:=by
 cases l with
 | nil=>exact Nat.zero_lt_one
 | cons b l=>rw [splitC];split<;>simp
theorem splitC_free {c:UInt8}:∀ {w:List UInt8},c∉w→splitC c w=[w]
 | [],_=>rfl
 | b::w,h=>by
  rw [List.mem_cons,not_or] at h
  rw [splitC,if_neg (fun e=>h.1 e.symm),splitC_free h.2]
  rfl
theorem splitC_app {c:UInt8} {l:List UInt8}:∀ {w:List UInt8},c∉w→splitC c (w++c::l)=w::splitC c l
 | [],_=>by rw [List.nil_append,splitC,if_pos rfl]
 | b::w,h=>by
  rw [List.mem_cons,not_or] at h
  rw [List.cons_append,splitC,if_neg (fun e=>h.1 e.symm),splitC_app h.2]
  rfl
theorem splitC_len (c:UInt8):∀ l:List UInt8,(splitC c l).length=l.count c+1
 | []=>rfl
 | b::l=>by
  have ih:=splitC_len c l
  rw [splitC]
  by_cases h:b=c
  ·rw [if_pos h,List.length_cons,ih,h,List.count_cons_self]
  rw [if_neg h,List.length_cons,List.length_tail,ih,List.count_cons_of_ne h];omega
/-- Lines: pieces that end behind each byte 10. -/
def linesC:List UInt8→List (List UInt8)
 | []=>[]
 | b::l=>if b=10 then[10]::linesC l else match linesC l with
  | []=>[[b]]
  | w::r=>(b::w)::r
theorem linesC_app {l:List UInt8}:∀ {w:List UInt8},(10:UInt8)∉w→linesC (w++10::l)=(w++[10])::linesC l
 | [],_=>by rw [List.nil_append,linesC,if_pos rfl];rfl
 | b::w,h=>by
  rw [List.mem_cons,not_or] at h
  rw [List.cons_append,linesC,if_neg (fun e=>h.1 e.symm),linesC_app h.2]
  rfl
theorem linesC_free:∀ {w:List UInt8},(10:UInt8)∉w→w≠[]→linesC w=[w]
 | [],_,h=>absurd rfl h
 | b::w,h,_=>by
  rw [List.mem_cons,not_or] at h
  rw [linesC,if_neg (fun e=>h.1 e.symm)]
  by_cases e:w=[]
  ·subst e;rfl
  rw [linesC_free h.2 e]
/-- Where the first byte c stands. -/
theorem index_free {c:UInt8}:∀ {l:List UInt8},Lib.indexByte l c = -1↔c∉l
 | []=>by simp [Lib.indexByte]
 | b::l=>by
  have ih:=index_free (c:=c) (l:=l)
  have hg:=Lib.indexByte_ge l c
  rw [Lib.indexByte]
  by_cases h:b=c
  ·subst h;simp
  simp only [beq_iff_eq,h,if_false,List.mem_cons,not_or]
  constructor
  ·intro h2
   split at h2
   ·exact⟨fun e=>h e.symm,ih.1 (by assumption)⟩
   omega
  rintro⟨_,h2⟩
  rw [ih.2 h2];rfl
theorem index_at {c:UInt8}:∀ {l:List UInt8},Lib.indexByte l c ≠ -1→∃ w r,l=w++c::r∧c∉w∧Lib.indexByte l c=(w.length:Int)
 | [],h=>absurd rfl h
 | b::l,h=>by
  by_cases e:b=c
  ·subst e
   exact⟨[],l,rfl,by simp,by simp [Lib.indexByte]⟩
  have e1:Lib.indexByte l c ≠ -1:=fun e2=>h (by rw [Lib.indexByte];simp [e,e2])
  obtain ⟨w,r,h1,h2,h3⟩:=index_at e1
  refine⟨b::w,r,by rw [h1];rfl,by rw [List.mem_cons,not_or];exact⟨fun x=>e x.symm,h2⟩,?_⟩
  rw [Lib.indexByte]
  simp only [beq_iff_eq,e,if_false,e1,h3,List.length_cons]
  rw [if_neg (by omega)]
  push_cast
  rfl
end
end Go.Abs
namespace Go.Abs
open Go.Lib
section
theorem itoa_nat (n:Int) (h:0≤n):itoa n=decDigits n.toNat:=by rw [itoa,if_neg (by omega)]
/-- A number of at most seven digits. -/
theorem digits_small:∀ {k u:Nat},u < 10 ^ k→0 < k→(decDigits u).length≤k
 | 0,_,_,h=>absurd h (Nat.lt_irrefl 0)
 | k+1,u,h,_=>by
  rw [decDigits]
  split
  ·simp
  rename_i h1
  rw [List.length_append,List.length_singleton]
  have hk:0 < k:=by
   rcases Nat.eq_zero_or_pos k with e|e
   ·subst e;omega
   exact e
  have hd:u / 10 < 10 ^ k:=by rw [Nat.pow_succ] at h;omega
  have:=digits_small hd hk
  omega
end
end Go.Abs
namespace Go.Abs
open Go.Proofs
section
/-- A number's decimal digits. -/
def itoaB (n:Int):ByteArray:=⟨(Lib.itoa n).toArray⟩
theorem itoa_c {P:Program} {ρ:Shelf.Ren} (L:LaysM.n171 P ρ) {G:Nat} (hg:(G,GV.ints .u64 Lib.pow10Tab)∈gtab) (hn:P.globalNamed "internal/strconv.uint64pow10" = some G) (n:Int) (h0 : -9223372036854775808≤n) (h1:n≤9223372036854775807) (H:Heap) :
  ACalls P (ρ.f 171) [.pv (.int .i64 n)] H (fun r H'=>r=.pv (.str (itoaB n))∧H'=H):=by
 intro I ι w vs hr hvl hv
 obtain ⟨v,rfl⟩:∃ v,vs=#[v]:=by
  match vs,hvl with
  | ⟨[v]⟩,_=>exact⟨v,rfl⟩
 have e1:=(hv 0 v _ rfl rfl).int_inv
 subst e1
 have htab:Lib.TabIs P w "internal/strconv.uint64pow10" .u64 Lib.pow10Tab:=by
  obtain ⟨_,cs,t,f,h2,h3⟩:=hr.glob _ hg
  have h3':cs=(Lib.pow10Tab.map fun z=>Value.int .u64 z).toArray:=h3
  subst h3'
  simp only [Lib.TabIs,World.var?,hn,Option.bind_some,h2]
 refine(Any.strconv_Itoa L n h0 h1 w htab).mono ?_
 rintro e w' ⟨rfl,k,os,rfl⟩
 obtain ⟨k1,k2⟩:=Rel.drawn (w':=w.drewN k) hr rfl rfl rfl rfl
 obtain ⟨m1,m2⟩:=Rel.grown os k1
 exact⟨_,_,I,ι,_,rfl,⟨rfl,rfl⟩,.pv (.str _),m1,k2.trans m2⟩
end
end Go.Abs
namespace Go.Proofs.YtlnfjkdacimblaaGreatDoor
open Go.Abs
section
/-- The text of an object, as bytes. -/
def objHead (o:GObj):List UInt8:=(gWord o.kind).data.toList++32::(o.id.data.toList++32::(if o.kind=1 then Lib.itoa o.x++32::Lib.itoa o.y else 40::(gJoinS [32] (bs o.refs)++[41])))
def objL (o:GObj):List UInt8:=objHead o++moreL o.tags
def objB (o:GObj):ByteArray:=⟨(objL o).toArray⟩
/-- The text of an object, or why it has none. -/
def gObjT (o:GObj):ByteArray×Int:=if gObj o then(if 0 < o.tags.length∧(gText o.tags).2≠0 then(sNil,(gText o.tags).2)else if 20000 < (objB o).size then(sNil,2)else(objB o,0))else(sNil,1)
/-- What Atoi makes of a word. -/
def atV (s:ByteArray):Int:=match Lib.atoiAll s.data.toList with
 | .ok v=>v
 | .range=>Lib.atoiSat s.data.toList
 | _=>0
def noF:GFound:=⟨0,sNil,0,0⟩
def pad4 (T:List GFound):List GFound:=T++List.replicate (4 - T.length) noF
def kindW (s:ByteArray):Int:=if s=gWord 5 then 5 else if s=gWord 4 then 4 else if s=gWord 3 then 3 else if s=gWord 2 then 2 else if s=gWord 1 then 1 else 0
def isClose (f:GFound):Bool:=decide (f.text=⟨#[41]⟩)&&decide (f.kind=4)
def tagsR:List GFound→List GTag
 | a::_::c::r=>⟨a.text,c.text⟩::tagsR r
 | _=>[]
/-- The object that tokens seem to be. -/
def gReadO (T:List GFound):GObj :=
 if kindW ((pad4 T).getD 0 noF).text=1 then⟨((pad4 T).getD 1 noF).text,1,atV ((pad4 T).getD 2 noF).text,atV ((pad4 T).getD 3 noF).text,[],tagsR ((pad4 T).drop 4)⟩
 else if gidx isClose (pad4 T) < 3 then zObj
 else⟨((pad4 T).getD 1 noF).text,kindW ((pad4 T).getD 0 noF).text,0,0,(((pad4 T).take (gidx isClose (pad4 T)).toNat).drop 3).map GFound.text,tagsR ((pad4 T).drop ((gidx isClose (pad4 T)).toNat+1))⟩
theorem refs_names {o:GObj} (h:gObj o=true):∀ s∈o.refs,gName s=true:=fun s hs=>by
 rw [gObj,Bool.and_eq_true,Bool.and_eq_true,Bool.not_eq_true',Bool.not_eq_true'] at h
 obtain ⟨i,hi⟩:=List.mem_iff_getElem?.1 hs
 have hlt:=(List.getElem?_eq_some_iff.1 hi).1
 have h1:=List.any_eq_false.1 h.2.1 i (List.mem_range.2 hlt)
 rw [wrongAt,hi] at h1
 simp only [gWrong,Bool.or_eq_true,not_or,Bool.not_eq_true,Bool.not_eq_false'] at h1
 exact h1.2
theorem at_xy {o:GObj} (h:gObj o=true):(0≤o.x∧o.x < 1048576)∧(0≤o.y∧o.y < 1048576)∧(o.kind=1→o.refs=[])∧(o.kind≠1→o.x=0∧o.y=0):=by
 rw [gObj,Bool.and_eq_true,Bool.and_eq_true] at h
 have h:=h.2.2
 unfold gKind at h
 split at h
 ·rename_i h1
  rw [Bool.and_eq_true,gOn] at h
  simp only [Bool.and_eq_true,decide_eq_true_eq] at h
  refine⟨by omega,by omega,fun _=>List.length_eq_zero_iff.1 (by omega),fun e=>absurd h1 e⟩
 rename_i h1
 split at h<;>simp only [Bool.and_eq_true,decide_eq_true_eq] at h<;>exact⟨by omega,by omega,fun e=>absurd e h1,fun _=>by omega⟩
theorem joinS_cons (k:ByteArray) (l:List ByteArray):gJoinS [32] (bs (k::l))=k.data.toList++l.flatMap (fun k=>32::k.data.toList):=by
 rw [bs,List.map_cons,gJoinS,List.flatMap_map]
 rfl
end
section
theorem nodup_len {α:Type} [DecidableEq α]:∀ {l s:List α},l.Pairwise (fun a b=>a≠b)→(∀ x,x∈l→x∈s)→l.length≤s.length
 | [],s,_,_=>Nat.zero_le _
 | x::l,s,hp,hs=>by
  obtain ⟨h1,h2⟩:=List.pairwise_cons.1 hp
  have hx:=hs x List.mem_cons_self
  have h3:=nodup_len (s:=s.erase x) h2 (fun y hy=>(List.mem_erase_of_ne (fun e=>h1 y hy e.symm)).2 (hs y (List.mem_cons_of_mem _ hy)))
  rw [List.length_erase_of_mem hx] at h3
  have:=List.length_pos_of_mem hx
  show l.length+1≤s.length
  omega
end
section
theorem gObj_node {o:GObj} (h:gObj o=true) (hk:o.kind=1):o.refs=[]:=by
 rw [gObj,Bool.and_eq_true,Bool.and_eq_true,gKind,if_pos hk,Bool.and_eq_true,decide_eq_true_iff] at h
 exact List.eq_nil_of_length_eq_zero (by have:=h.2.2.1;omega)
/-- What an object refers to is of a lesser kind. -/
theorem ref_kind {m:List GObj} (hc:closedB m=true) {o p:GObj} (ho:o∈m) (hp:p∈m) (hs:p.id∈o.refs):(p.kind=1∧2≤o.kind)∨(p.kind=2∧4≤o.kind):=by
 have hg:=closed_gMap hc
 obtain ⟨g1,g2,_⟩:=gMap_iff.1 hg
 obtain ⟨i,hi⟩:=List.mem_iff_getElem?.1 hs
 have h:=(closed_iff.1 hc).2 o ho i _ hi
 rw [kindOf_look,mem_look g2 hp] at h
 have h:=Option.some.inj h
 have hk:=gObj_kind (g1 o ho)
 by_cases h4:4≤o.kind
 ·rw [gWanted] at h
  split at h
  ·exact .inr ⟨h,h4⟩
  exact .inl ⟨h,by omega⟩
 rw [gWanted_low (by omega)] at h
 refine .inl ⟨h,?_⟩
 by_cases h1:o.kind=1
 ·rw [gObj_node (g1 o ho) h1] at hs;cases hs
 omega
end
section
/-! ### tags -/
theorem setOk_app:∀ (A B:List (ByteArray×ByteArray)) (T:List GTag),SetOk T A→SetOk (setAll T A) B→SetOk T (A++B)
 | [],B,T,_,h=>h
 | p::A,B,T,h,h2=>⟨h.1,setOk_app A B _ h.2 h2⟩
theorem setAll_app (A B:List (ByteArray×ByteArray)) (T:List GTag):setAll T (A++B)=setAll (setAll T A) B:=List.foldl_append
theorem setOk1:∀ (L:List (ByteArray×ByteArray)) (T:List GTag),gTags T=true→(∀ p∈L,p.2=sNil∧gName p.1=true)→SetOk T L∧gTags (setAll T L)=true∧∀ k,gGet (setAll T L) k=if k∈L.map Prod.fst then none else gGet T k
 | [],T,h,_=>⟨trivial,h,fun k=>(if_neg List.not_mem_nil).symm⟩
 | p::L,T,h,hL=>by
  obtain ⟨h1,h2⟩:=hL p List.mem_cons_self
  have hc:canSet T p.1 p.2:=⟨h,h2,by rw [h1];exact Nat.zero_le _,fun _ h3=>absurd h1 h3⟩
  obtain ⟨e1,e2,e3⟩:=set_can hc
  obtain ⟨a,b,c⟩:=setOk1 L _ e2 fun q hq=>hL q (List.mem_cons_of_mem _ hq)
  refine⟨⟨hc,a⟩,b,fun k=>?_⟩
  rw [show setAll T (p::L)=setAll (gSet T p.1 p.2).1 L from rfl,c k,List.map_cons,e3]
  by_cases e:k∈L.map Prod.fst
  ·rw [if_pos e,if_pos (List.mem_cons_of_mem _ e)]
  rw [if_neg e]
  by_cases e4:k=p.1
  ·rw [if_pos e4,if_pos h1,if_pos (e4▸List.mem_cons_self)]
  rw [if_neg e4,if_neg (fun hh=>(List.mem_cons.1 hh).elim e4 e)]
theorem keys_lt {T O:List GTag} (hT:gTags T=true) (hO:gTags O=true) (hs:∀ k,gGet T k≠none→gGet O k≠none) {k:ByteArray} (h1:gGet T k=none) (h2:gGet O k≠none):T.length < O.length:=by
 obtain ⟨_,t2,_⟩:=gTags_iff.1 hT
 obtain ⟨_,o2,_⟩:=gTags_iff.1 hO
 have hkeys:∀ {l:List GTag},asc GTag.key l→(l.map GTag.key).Pairwise (fun a b=>a≠b):=fun {l} ha=>by
  rw [List.pairwise_map]
  exact List.Pairwise.imp (fun {a b} h e=>by rw [e,slt_irr] at h;cases h) ha
 have hin:∀ {l:List GTag},asc GTag.key l→∀ k,gGet l k≠none→k∈l.map GTag.key:=fun {l} ha k h=>by
  cases e:gGet l k with
  | none=>exact absurd e h
  | some v=>exact List.mem_map.2 ⟨_,gGet_mem e,rfl⟩
 have hget:∀ {l:List GTag},asc GTag.key l→∀ k,k∈l.map GTag.key→gGet l k≠none:=fun {l} ha k h=>by
  obtain ⟨t,ht,rfl⟩:=List.mem_map.1 h
  rw [gGet_of ha (k:=t.key) (v:=t.val) ht]
  exact Option.some_ne_none _
 have:=nodup_len (l:=k::T.map GTag.key) (s:=O.map GTag.key) (List.pairwise_cons.2 ⟨fun x hx e=>hget t2 x hx (e▸h1),hkeys t2⟩) (fun x hx=>by
  rcases List.mem_cons.1 hx with rfl|hx
  ·exact hin o2 _ h2
  exact hin o2 _ (hs _ (hget t2 _ hx)))
 rw [List.length_cons,List.length_map,List.length_map] at this
 omega
theorem hasT_none {T:List GTag} (hT:gTags T=true) {k:ByteArray} (h:hasK GTag.key T k=false):gGet T k=none:=gGet_none (noK h)
theorem setOk2 {O:List GTag} (hO:gTags O=true):∀ (L:List (ByteArray×ByteArray)) (T:List GTag),gTags T=true→(∀ p∈L,(⟨p.1,p.2⟩:GTag)∈O)→(∀ k,gGet T k≠none→gGet O k≠none)→SetOk T L∧gTags (setAll T L)=true∧∀ k,gGet (setAll T L) k=if k∈L.map Prod.fst then gGet O k else gGet T k
 | [],T,h,_,_=>⟨trivial,h,fun k=>(if_neg List.not_mem_nil).symm⟩
 | p::L,T,h,hL,hs=>by
  obtain ⟨o1,o2,o3⟩:=gTags_iff.1 hO
  have hp:=hL p List.mem_cons_self
  obtain ⟨n1,n2,n3⟩:=o1 _ hp
  have hg:gGet O p.1=some p.2:=gGet_of o2 hp
  have hc:canSet T p.1 p.2:=⟨h,n1,n3,fun hk _=>by
   have:=keys_lt h hO hs (hasT_none h hk) (by rw [hg];exact Option.some_ne_none _)
   omega⟩
  obtain ⟨e1,e2,e3⟩:=set_can hc
  have hn:p.2≠sNil:=n2
  obtain ⟨a,b,c⟩:=setOk2 hO L _ e2 (fun q hq=>hL q (List.mem_cons_of_mem _ hq)) (fun k hk=>by
   rw [e3] at hk
   by_cases e:k=p.1
   ·rw [e,hg];exact Option.some_ne_none _
   rw [if_neg e] at hk;exact hs k hk)
  refine⟨⟨hc,a⟩,b,fun k=>?_⟩
  rw [show setAll T (p::L)=setAll (gSet T p.1 p.2).1 L from rfl,c k,List.map_cons,e3]
  by_cases e:k∈L.map Prod.fst
  ·rw [if_pos e,if_pos (List.mem_cons_of_mem _ e)]
  rw [if_neg e]
  by_cases e4:k=p.1
  ·rw [if_pos e4,if_neg hn,if_pos (e4▸List.mem_cons_self),e4,hg]
  rw [if_neg e4,if_neg (fun hh=>(List.mem_cons.1 hh).elim e4 e)]
def tagDel (p o:GObj):List GTag:=p.tags.filter fun t=>decide (gGet o.tags t.key=none)
def inT (l:List GTag) (t:GTag):Bool:=l.any fun x=>decide (t.key=x.key)&&decide (t.val=x.val)
theorem inT_iff {l:List GTag} {t:GTag}:inT l t=true↔t∈l:=by
 rw [inT,List.any_eq_true]
 constructor
 ·rintro⟨x,hx,h⟩
  rw [Bool.and_eq_true,decide_eq_true_eq,decide_eq_true_eq] at h
  obtain ⟨k,v⟩:=t
  obtain ⟨k2,v2⟩:=x
  simp only at h
  rw [h.1,h.2]
  exact hx
 intro h
 exact⟨t,h,by simp⟩
def tagNew (p o:GObj):List GTag:=o.tags.filter fun t=>!inT p.tags t
def tagL (p o:GObj):List (ByteArray×ByteArray):=(tagDel p o).map (fun t=>(t.key,sNil))++(tagNew p o).map (fun t=>(t.key,t.val))
theorem tagL_ok {p o:GObj} (hp:gTags p.tags=true) (ho:gTags o.tags=true):SetOk p.tags (tagL p o)∧setAll p.tags (tagL p o)=o.tags:=by
 obtain ⟨p1,p2,p3⟩:=gTags_iff.1 hp
 obtain ⟨o1,o2,o3⟩:=gTags_iff.1 ho
 have hdel:∀ {k},k∈((tagDel p o).map (fun t=>(t.key,sNil))).map Prod.fst↔gGet p.tags k≠none∧gGet o.tags k=none:=fun {k}=>by
  rw [List.map_map]
  constructor
  ·intro h
   obtain ⟨t,ht,rfl⟩:=List.mem_map.1 h
   obtain ⟨h1,h2⟩:=List.mem_filter.1 ht
   exact⟨by show gGet p.tags t.key≠none;rw [gGet_of p2 (k:=t.key) (v:=t.val) h1];exact Option.some_ne_none _,of_decide_eq_true h2⟩
  rintro⟨h1,h2⟩
  cases e:gGet p.tags k with
  | none=>exact absurd e h1
  | some v=>exact List.mem_map.2 ⟨⟨k,v⟩,List.mem_filter.2 ⟨gGet_mem e,decide_eq_true h2⟩,rfl⟩
 have hnew:∀ {k},k∈((tagNew p o).map (fun t=>(t.key,t.val))).map Prod.fst↔∃ v,gGet o.tags k=some v∧gGet p.tags k≠some v:=fun {k}=>by
  rw [List.map_map]
  constructor
  ·intro h
   obtain ⟨t,ht,rfl⟩:=List.mem_map.1 h
   obtain ⟨h1,h2⟩:=List.mem_filter.1 ht
   refine⟨t.val,gGet_of o2 (k:=t.key) (v:=t.val) h1,fun h3=>?_⟩
   have h4:t∈p.tags:=gGet_mem h3
   rw [inT_iff.2 h4] at h2
   cases h2
  rintro⟨v,h1,h2⟩
  refine List.mem_map.2 ⟨⟨k,v⟩,List.mem_filter.2 ⟨gGet_mem h1,?_⟩,rfl⟩
  cases h3:inT p.tags ⟨k,v⟩with
  | false=>rfl
  | true=>exact absurd (gGet_of p2 (inT_iff.1 h3)) h2
 obtain ⟨a1,a2,a3⟩:=setOk1 ((tagDel p o).map fun t=>(t.key,sNil)) p.tags hp (fun q hq=>by
  obtain ⟨t,ht,rfl⟩:=List.mem_map.1 hq
  exact⟨rfl,(p1 t (List.mem_filter.1 ht).1).1⟩)
 obtain ⟨b1,b2,b3⟩:=setOk2 ho ((tagNew p o).map fun t=>(t.key,t.val)) _ a2 (fun q hq=>by
  obtain ⟨t,ht,rfl⟩:=List.mem_map.1 hq
  exact(List.mem_filter.1 ht).1) (fun k hk=>by
  rw [a3] at hk
  split at hk
  ·exact absurd rfl hk
  next h =>
  intro h2
  exact h (hdel.2 ⟨hk,h2⟩))
 refine⟨setOk_app _ _ _ a1 b1,?_⟩
 rw [tagL,setAll_app]
 refine tags_ext (gTags_iff.1 b2).2.1 o2 fun k=>?_
 rw [b3,a3]
 by_cases h1:k∈((tagNew p o).map fun t=>(t.key,t.val)).map Prod.fst
 ·rw [if_pos h1]
 rw [if_neg h1]
 rw [hnew] at h1
 by_cases h2:k∈((tagDel p o).map fun t=>(t.key,sNil)).map Prod.fst
 ·rw [if_pos h2,(hdel.1 h2).2]
 rw [if_neg h2]
 rw [hdel] at h2
 cases e:gGet o.tags k with
 | none =>
  cases e2:gGet p.tags k with
  | none=>rfl
  | some v=>exact absurd ⟨by rw [e2];exact Option.some_ne_none _,e⟩ h2
 | some v =>
  by_cases e2:gGet p.tags k=some v
  ·exact e2
  exact absurd ⟨v,e,e2⟩ h1
/-! ### layers -/
def zs (down:Bool):List Int:=if down then[2,1,0] else[0,1,2]
def layL (m:List GObj) (down:Bool):List GObj:=(zs down).flatMap fun z=>m.filter fun o=>decide (o.kind.tdiv 2=z)
theorem mem_layL {m:List GObj} {d:Bool} (hk:∀ o∈m,1≤o.kind∧o.kind≤5) {o:GObj}:o∈layL m d↔o∈m:=by
 rw [layL,List.mem_flatMap]
 constructor
 ·rintro⟨z,_,h⟩
  exact(List.mem_filter.1 h).1
 intro h
 obtain ⟨h1,h2⟩:=hk o h
 refine⟨o.kind.tdiv 2,?_,List.mem_filter.2 ⟨h,decide_eq_true rfl⟩⟩
 have h3:o.kind=1∨o.kind=2∨o.kind=3∨o.kind=4∨o.kind=5:=by omega
 rcases h3 with e|e|e|e|e<;>rw [e]<;>cases d<;>decide
theorem lay_pair {m:List GObj} (hu:ups m) {R:Int→Int→Prop} (hR:∀ z,R z z):∀ {Z:List Int},Z.Pairwise (fun a b=>a≠b∧R a b)→(Z.flatMap fun z=>m.filter fun o=>decide (o.kind.tdiv 2=z)).Pairwise (fun x y=>x.id≠y.id∧R (x.kind.tdiv 2) (y.kind.tdiv 2))
 | [],_=>List.Pairwise.nil
 | z::Z,h=>by
  rw [List.pairwise_cons] at h
  rw [List.flatMap_cons,List.pairwise_append]
  refine⟨?_,lay_pair hu hR h.2,fun x hx y hy=>?_⟩
  ·have h1:(m.filter fun o=>decide (o.kind.tdiv 2=z)).Pairwise (fun x y=>slt x.id y.id=true):=List.Pairwise.filter _ hu
   refine List.Pairwise.imp_of_mem (fun {x y} hx hy hxy=>?_) h1
   have e1:=of_decide_eq_true (List.mem_filter.1 hx).2
   have e2:=of_decide_eq_true (List.mem_filter.1 hy).2
   rw [e1,e2]
   exact⟨(fun e=>by rw [e,slt_irr] at hxy;cases hxy),hR z⟩
  obtain ⟨z2,hz2,hy2⟩:=List.mem_flatMap.1 hy
  have e1:=of_decide_eq_true (List.mem_filter.1 hx).2
  have e2:=of_decide_eq_true (List.mem_filter.1 hy2).2
  rw [e1,e2]
  obtain ⟨h3,h4⟩:=h.1 z2 hz2
  refine⟨fun e=>h3 ?_,h4⟩
  have a1:=mem_look hu (List.mem_filter.1 hx).1
  have a2:=mem_look hu (List.mem_filter.1 hy2).1
  rw [e,a2] at a1
  cases a1
  rw [← e1,← e2]
theorem lay_down {m:List GObj} (hu:ups m):(layL m true).Pairwise (fun x y=>x.id≠y.id∧y.kind.tdiv 2≤x.kind.tdiv 2):=lay_pair hu (R:=fun a b=>b≤a) (fun _=>Int.le_refl _) (Z:=[2,1,0]) (by decide)
theorem lay_up {m:List GObj} (hu:ups m):(layL m false).Pairwise (fun x y=>x.id≠y.id∧x.kind.tdiv 2≤y.kind.tdiv 2):=lay_pair hu (R:=fun a b=>a≤b) (fun _=>Int.le_refl _) (Z:=[0,1,2]) (by decide)
theorem tdiv_low {p o:Int} (h:(p=1∧2≤o)∨(p=2∧4≤o)) (ho:o≤5):p.tdiv 2 < o.tdiv 2:=by
 have h3:o=2∨o=3∨o=4∨o=5:=by omega
 rcases h with⟨rfl,h⟩|⟨rfl,h⟩
 ·rcases h3 with rfl|rfl|rfl|rfl<;>decide
 rcases h3 with rfl|rfl|rfl|rfl<;>first|decide|omega
theorem ref_low {m:List GObj} (hc:closedB m=true) {o p:GObj} (ho:o∈m) (hp:p∈m) (hs:p.id∈o.refs):p.kind.tdiv 2 < o.kind.tdiv 2:=tdiv_low (ref_kind hc ho hp hs) (gObj_kind ((gMap_iff.1 (closed_gMap hc)).1 o ho)).2
theorem no_self {m:List GObj} (hc:closedB m=true) {o:GObj} (ho:o∈m):o.id∉o.refs:=fun h=>absurd (ref_low hc ho ho h) (Int.lt_irrefl _)
/-! ### what has to be renewed -/
def direct (b:List GObj) (o:GObj):Bool:=match look b o.id with
 | some p=>!decide (p.kind=o.kind)||(decide (o.kind=5)&&!decide (o.refs=p.refs))
 | none=>false
def rnB (b:List GObj) (X:List ByteArray) (o:GObj):Bool:=direct b o||o.refs.any (inB X)
def rnL (b:List GObj):List ByteArray→List GObj→List ByteArray
 | X,[]=>X
 | X,o::L=>rnL b (if rnB b X o then X++[o.id] else X) L
def renewed (a b:List GObj):List ByteArray:=rnL b [] (layL a false)
theorem rnL_app (b:List GObj):∀ (L1 L2:List GObj) (X:List ByteArray),rnL b X (L1++L2)=rnL b (rnL b X L1) L2
 | [],_,_=>rfl
 | o::L1,L2,X=>rnL_app b L1 L2 _
theorem rnL_keep (b:List GObj):∀ (L:List GObj) {X:List ByteArray} {s:ByteArray},s∈X→s∈rnL b X L
 | [],_,_,h=>h
 | o::L,X,s,h=>rnL_keep b L (by split;exact List.mem_append_left _ h;exact h)
theorem rnL_from (b:List GObj):∀ (L:List GObj) {X:List ByteArray} {s:ByteArray},s∈rnL b X L→s∈X∨∃ o∈L,o.id=s
 | [],_,_,h=>.inl h
 | o::L,X,s,h=>by
  rcases rnL_from b L h with h1|⟨x,hx,e⟩
  ·split at h1
   ·rcases List.mem_append.1 h1 with h2|h2
    ·exact .inl h2
    exact .inr ⟨o,List.mem_cons_self,(List.mem_singleton.1 h2).symm⟩
   exact .inl h1
  exact .inr ⟨x,List.mem_cons_of_mem _ hx,e⟩
theorem renewed_sub {a b:List GObj} (hk:∀ o∈a,1≤o.kind∧o.kind≤5) {s:ByteArray} (h:s∈renewed a b):∃ o∈a,o.id=s:=by
 rcases rnL_from b _ h with h1|⟨o,ho,e⟩
 ·cases h1
 exact⟨o,(mem_layL hk).1 ho,e⟩
/-- An object is renewed if it has to be, or if one that it refers to is. -/
theorem renewed_iff {a b:List GObj} (hc:closedB a=true) {o:GObj} (ho:o∈a):o.id∈renewed a b↔direct b o=true∨∃ s∈o.refs,s∈renewed a b:=by
 obtain ⟨g1,hu,_⟩:=gMap_iff.1 (closed_gMap hc)
 have hk:∀ o∈a,1≤o.kind∧o.kind≤5:=fun o ho=>gObj_kind (g1 o ho)
 obtain ⟨L1,L2,hL⟩:=List.append_of_mem ((mem_layL (d:=false) hk).2 ho)
 have hp:=lay_up hu
 rw [hL,List.pairwise_append,List.pairwise_cons] at hp
 obtain ⟨_,⟨q1,_⟩,q2⟩:=hp
 have hX:renewed a b=rnL b (if rnB b (rnL b [] L1) o then rnL b [] L1++[o.id] else rnL b [] L1) L2:=by rw [renewed,hL,rnL_app];rfl
 have hin:∀ s,s∈o.refs→(s∈renewed a b↔s∈rnL b [] L1):=fun s hs=>by
  obtain ⟨i,hi⟩:=List.mem_iff_getElem?.1 hs
  have hr:=(closed_iff.1 hc).2 o ho i s hi
  rw [kindOf_look] at hr
  cases hl:look a s with
  | none=>rw [hl] at hr;cases hr
  | some p =>
   have hpm:=look_mem hl
   have hid:=look_id hl
   have hlow:=ref_low hc ho hpm (hid▸hs)
   have hno:∀ y∈o::L2,y.id≠s:=fun y hy e=>by
    have hym:y∈a:=(mem_layL (d:=false) hk).1 (by rw [hL];exact List.mem_append_right _ hy)
    have h1:=mem_look hu hym
    rw [e,hl] at h1
    cases h1
    rcases List.mem_cons.1 hy with e2|h2
    ·subst e2;exact absurd hlow (Int.lt_irrefl _)
    have:=(q1 _ h2).2;omega
   constructor
   ·intro h
    rw [hX] at h
    rcases rnL_from b L2 h with h1|⟨y,hy,e⟩
    ·split at h1
     ·rcases List.mem_append.1 h1 with h2|h2
      ·exact h2
      exact absurd (List.mem_singleton.1 h2).symm (hno o List.mem_cons_self)
     exact h1
    exact absurd e (hno y (List.mem_cons_of_mem _ hy))
   intro h
   rw [hX]
   refine rnL_keep b L2 ?_
   split
   ·exact List.mem_append_left _ h
   exact h
 have hself:o.id∈renewed a b↔rnB b (rnL b [] L1) o=true:=by
  rw [hX]
  constructor
  ·intro h
   by_cases hb:rnB b (rnL b [] L1) o=true
   ·exact hb
   rw [if_neg hb] at h
   rcases rnL_from b L2 h with h1|⟨y,hy,e⟩
   ·rcases rnL_from b L1 h1 with h2|⟨y,hy,e⟩
    ·cases h2
    exact absurd e (q2 y hy o List.mem_cons_self).1
   exact absurd e.symm (q1 y hy).1
  intro hb
  rw [if_pos hb]
  exact rnL_keep b L2 (List.mem_append_right _ (List.mem_singleton.2 rfl))
 rw [hself,rnB,Bool.or_eq_true,List.any_eq_true]
 refine or_congr Iff.rfl ⟨?_,?_⟩
 ·rintro⟨s,hs,h⟩
  exact⟨s,hs,(hin s hs).2 (inB_iff.1 h)⟩
 rintro⟨s,hs,h⟩
 exact⟨s,hs,inB_iff.2 ((hin s hs).1 h)⟩
end
end Go.Proofs.YtlnfjkdacimblaaGreatDoor
namespace Go.Abs
section
section
variable {P:Program} {H:Heap}
theorem ext_count (s:ByteArray) (c:Int):ExtR P Extern.BytealgCount.count H [.pv (.str s),.pv (.int .u8 c)] (.pv (.int .i64 ((Lib.countByte s.data.toList c.toNat.toUInt8:Nat):Int))):=by
 intro w I ι cs hl h
 obtain ⟨u,v,rfl,h1,h2⟩:=two_vals hl h
 rw [h1.str_inv,h2.int_inv]
 exact⟨_,Lib.run_countString s c w,.pv (.int _ _)⟩
end
end
end Go.Abs
namespace Go.Proofs.YtlnfjkdacimblaaGreatDoor
open Go.Abs
section
abbrev sSp:ByteArray:=⟨#[32]⟩
theorem slIndex_c (s:ByteArray) (H:Heap):ACalls Tryz.prog 178 [sv s,sv sSp] H (fun r H'=>r=iv (Lib.indexByte s.data.toList 32)∧H'=H):=by
 refine ACalls.pure ?_ (by simp) H
 refine Bd Tryz.func178 rfl Tryz.ntmps178<|Sq<|Rg<|Dd as'<|Zz<|Sq<|Rg<|Dd mv'<|Dd (ls' Tryz.underlying9)<|Dd as'<|Zz<|Sq<|awp_block<|Sq ?_
 refine awp_bool (t:=16) (n:=9) (X:=decide (sSp=s)) ?_ ?_
 ·all_goals refine Dd mv' ?_
  all_goals refine Dd eql' ?_
  all_goals refine Dd mv' ?_
  all_goals refine Sp 19 (fun h19=>?_) fun h19=>?_
  all_goals try contradiction
  all_goals(refine al_ond rfl rfl rfl rfl rfl rfl (by exact opd_move rfl rfl) ?_)
  all_goals(refine al_ond rfl rfl rfl rfl rfl rfl (by exact opd_move rfl rfl) ?_)
  all_goals(refine al_ond rfl rfl rfl rfl rfl rfl (by exact opd_seql rfl rfl rfl) ?_)
  all_goals refine Dd pk' ?_
  all_goals refine Dd as' ?_
  all_goals refine al_nil ?_
  all_goals(exact⟨⟨_,rfl,by rfl⟩,rfl,rfl,rfl⟩)
 refine Cn (fun hc1=>?_) fun hc1=>?_
 ·have hs:=of_decide_eq_true hc1
  subst hs
  refine Sq<|Rg<|Dd as'<|Zz<|awp_ret ?_
  refine Rt ?_
  exact⟨rfl,rfl⟩
 skip
 refine Sq<|Rg<|Dd mv'<|Dd eql'<|Dd as'<|Zz ?_
 refine Cn (fun hc2=>?_) fun hc2=>?_
 ·skip
  refine Sq<|Rg<|Dd mv'<|Dd mv'<|Dd (by exact opd_index_str rfl Tryz.underlying9 rfl rfl (by omega) (by exact Int.toNat_natCast _) (show 0 < (⟨#[32]⟩:ByteArray).size from Nat.zero_lt_one) rfl)<|Dd (by exact opr_call rfl rfl Tryz.call130 rfl (slIndexByte_c s 32 _))<|Dd as'<|Zz<|awp_ret ?_
  refine Rt ?_
  exact⟨rfl,rfl⟩
 cases hc2
theorem index_c (s:ByteArray) (H:Heap):ACalls Tryz.prog 177 [sv s,sv sSp] H (fun r H'=>r=iv (Lib.indexByte s.data.toList 32)∧H'=H):=by
 refine ACalls.pure ?_ (by simp) H
 refine Bd Tryz.func177 rfl Tryz.ntmps177<|Sq<|Rg<|Dd as'<|Zz<|Sq<|Rg<|Dd mv'<|Dd mv'<|Dd (by exact opr_call rfl rfl Tryz.call178 rfl (slIndex_c s _))<|Dd as'<|Zz<|awp_ret ?_
 refine Rt ?_
 exact⟨rfl,rfl⟩
/-- What stands ahead of the first blank, what behind it, and whether there is one. -/
def cutV (s:ByteArray):AV:=if Lib.indexByte s.data.toList 32 = -1 then .tup [sv s,sv ⟨#[]⟩,bv false] else .tup [sv (s.extract 0 (Lib.indexByte s.data.toList 32).toNat),sv (s.extract ((Lib.indexByte s.data.toList 32).toNat+1) s.size),bv true]
theorem slCut_c (s:ByteArray) (H:Heap) (hs:s.size < 1099511627776):ACalls Tryz.prog 132 [sv s,sv sSp] H (fun r H'=>r=cutV s∧H'=H):=by
 refine ACalls.pure ?_ (by simp) H
 have hI:=fun H=>slIndex_c s H
 rw [cutV]
 rcases Classical.em (Lib.indexByte s.data.toList 32 = -1)with h1|h1
 ·rw [if_pos h1]
  simp only [h1] at hI
  refine Bd Tryz.func132 rfl Tryz.ntmps132<|Sq<|Rg<|Dd as'<|Dd as'<|Dd as'<|Zz<|Sq<|Sq<|Rg<|Dd mv'<|Dd mv'<|Dd (by exact opr_call rfl rfl Tryz.call178 rfl (hI _))<|Dd as'<|Zz<|Sq<|Rg<|Dd mv'<|Dd ge'<|Zz ?_
  refine Cn (fun hc1=>?_) fun hc1=>?_
  ·cases hc1
  skip
  refine awp_skip<|Sq<|Rg<|Dd mv'<|Dd as'<|Dd as'<|Dd as'<|Zz<|awp_ret ?_
  refine aret3 (H':=[]) (.inr rfl) rfl (rval_tmp rfl) (rval_tmp rfl) (rval_tmp rfl) (Fin.wk (by simp) trivial trivial) ?_
  exact⟨rfl,rfl⟩
 rw [if_neg h1]
 obtain ⟨w,r,e1,e2,e3⟩:=index_at h1
 simp only [e3] at hI
 rw [e3,Int.toNat_natCast]
 have hl:w.length+1+r.length=s.size:=by rw [← show s.data.toList.length=s.size by simp,e1,List.length_append,List.length_cons];omega
 refine Bd Tryz.func132 rfl Tryz.ntmps132<|Sq<|Rg<|Dd as'<|Dd as'<|Dd as'<|Zz<|Sq<|Sq<|Rg<|Dd mv'<|Dd mv'<|Dd (by exact opr_call rfl rfl Tryz.call178 rfl (hI _))<|Dd as'<|Zz<|Sq<|Rg<|Dd mv'<|Dd ge'<|Zz ?_
 refine Cn (fun hc1=>?_) fun hc1=>?_
 ·skip
  refine Sq ?_
  refine awp_drawc follows ?_
  refine Cq mv'<|Cq mv'<|Cq (by exact opd_slice_str (l:=0) (h:=(w.length)) rfl Tryz.underlying9 rfl rfl rfl (by omega) (by omega) rfl)<|Cq mv'<|Cq mv'<|Cq mv'<|Cq (ls' Tryz.underlying9)<|Cq (by exact opd_add rfl rfl rfl (show IntKind.i64.wrap ((w.length:Int)+1)=((w.length+1:Nat):Int)by rw [IntKind.wrap_i64];omega))<|Cq (by exact opd_slice_str (l:=(w.length+1)) (h:=s.size) rfl Tryz.underlying9 rfl rfl rfl (by omega) (by omega) rfl)<|Cq as'<|Cq as'<|Cq as' ?_
  refine dc_nil ⟨by kernel_rfl,?_⟩
  refine awp_ret ?_
  refine aret3 (H':=[]) (.inr rfl) rfl (rval_tmp rfl) (rval_tmp rfl) (rval_tmp rfl) (Fin.wk (by simp) trivial trivial) ?_
  exact⟨rfl,rfl⟩
 have hx:=of_decide_eq_false hc1
 omega
theorem cut_c (s:ByteArray) (H:Heap) (hs:s.size < 1099511627776):ACalls Tryz.prog 80 [sv s,sv sSp] H (fun r H'=>r=cutV s∧H'=H):=by
 refine ACalls.pure ?_ (by simp) H
 have hC:=fun H=>slCut_c s H hs
 rw [cutV] at *
 rcases Classical.em (Lib.indexByte s.data.toList 32 = -1)with h1|h1
 ·simp only [cutV,if_pos h1] at hC ⊢
  refine Bd Tryz.func80 rfl Tryz.ntmps80<|Sq<|Rg<|Dd as'<|Dd as'<|Dd as'<|Zz<|Sq<|Rg<|Dd mv'<|Dd mv'<|Dd (by exact opr_call rfl rfl Tryz.call132 rfl (hC _))<|Dd ex'<|Dd ex'<|Dd ex'<|Dd as'<|Dd as'<|Dd as'<|Zz<|awp_ret ?_
  refine aret3 (H':=[]) (.inr rfl) rfl (rval_tmp rfl) (rval_tmp rfl) (rval_tmp rfl) (Fin.wk (by simp) trivial trivial) ?_
  exact⟨rfl,rfl⟩
 simp only [cutV,if_neg h1] at hC ⊢
 refine Bd Tryz.func80 rfl Tryz.ntmps80<|Sq<|Rg<|Dd as'<|Dd as'<|Dd as'<|Zz<|Sq<|Rg<|Dd mv'<|Dd mv'<|Dd (by exact opr_call rfl rfl Tryz.call132 rfl (hC _))<|Dd ex'<|Dd ex'<|Dd ex'<|Dd as'<|Dd as'<|Dd as'<|Zz<|awp_ret ?_
 refine aret3 (H':=[]) (.inr rfl) rfl (rval_tmp rfl) (rval_tmp rfl) (rval_tmp rfl) (Fin.wk (by simp) trivial trivial) ?_
 exact⟨rfl,rfl⟩
abbrev sNl:ByteArray:=⟨#[10]⟩
def endsNl (s:ByteArray):Bool:=decide ((1:Int)≤(s.size:Int))&&decide (s.extract (s.size - 1) s.size=sNl)
def trimB (s:ByteArray):ByteArray:=if endsNl s then s.extract 0 (s.size - 1)else s
theorem hasSuffix_c (s:ByteArray) (H:Heap) (hs:s.size < 1099511627776):ACalls Tryz.prog 136 [sv s,sv sNl] H (fun r H'=>r=bv (endsNl s)∧H'=H):=by
 refine ACalls.pure ?_ (by simp) H
 refine Bd Tryz.func136 rfl Tryz.ntmps136<|Sq<|Rg<|Dd as'<|Zz<|Sq ?_
 refine awp_bool (t:=4) (n:=18) (X:=endsNl s) ?_ ?_
 ·all_goals refine Dd mv' ?_
  all_goals refine Dd (ls' Tryz.underlying9) ?_
  all_goals refine Dd mv' ?_
  all_goals refine Dd (ls' Tryz.underlying9) ?_
  all_goals refine Dd ge' ?_
  all_goals refine Dd mv' ?_
  all_goals refine Sp 10 (fun h10=>?_) fun h10=>?_
  all_goals try contradiction
  all_goals first|refine Fo ?_|refine On mv' ?_
  all_goals first|refine Fo ?_|refine On mv' ?_
  all_goals first|refine Fo ?_|refine On (ls' Tryz.underlying9) ?_
  all_goals first|refine Fo ?_|refine On mv' ?_
  all_goals first|refine Fo ?_|refine On (ls' Tryz.underlying9) ?_
  all_goals first|refine Fo ?_|refine On (by exact opd_sub rfl rfl rfl (show IntKind.i64.wrap ((s.size:Int) - 1)=((s.size - 1:Nat):Int)by have h11:(1:Int)≤(s.size:Int):=of_decide_eq_true h10;rw [IntKind.wrap_i64];omega)) ?_
  all_goals first|refine Fo ?_|refine On (by exact opd_slice_str (l:=(s.size - 1)) (h:=s.size) rfl Tryz.underlying9 rfl rfl rfl (by omega) (by omega) rfl) ?_
  all_goals first|refine Fo ?_|refine On mv' ?_
  all_goals first|refine Fo ?_|refine On se' ?_
  all_goals refine Dd pk' ?_
  all_goals refine Dd as' ?_
  all_goals refine al_nil ?_
  all_goals(exact⟨⟨_,rfl,by(simp only [endsNl];rw [show decide ((1:Int)≤(s.size:Int))=_ from h10];rfl)⟩,rfl,rfl,rfl⟩)
 refine awp_ret ?_
 refine Rt ?_
 exact⟨rfl,rfl⟩
theorem slTrim_c (s:ByteArray) (H:Heap) (hs:s.size < 1099511627776):ACalls Tryz.prog 84 [sv s,sv sNl] H (fun r H'=>r=sv (trimB s)∧H'=H):=by
 refine ACalls.pure ?_ (by simp) H
 refine Bd Tryz.func84 rfl Tryz.ntmps84<|Sq<|Rg<|Dd as'<|Zz<|Sq<|Sq<|Rg<|Dd mv'<|Dd mv'<|Dd (by exact opr_call rfl rfl Tryz.call136 rfl (hasSuffix_c s _ hs))<|Zz ?_
 refine Cn (fun hc1=>?_) fun hc1=>?_
 ·have h1:1≤s.size:=by
   have h:=hc1
   rw [endsNl,Bool.and_eq_true,decide_eq_true_eq] at h
   omega
  rw [trimB,if_pos hc1]
  refine Sq<|Rg<|Dd mv'<|Dd mv'<|Dd (ls' Tryz.underlying9)<|Dd mv'<|Dd (ls' Tryz.underlying9)<|Dd (by exact opd_sub rfl rfl rfl (show IntKind.i64.wrap ((s.size:Int) - 1)=((s.size - 1:Nat):Int)by rw [IntKind.wrap_i64];omega))<|Dd (by exact opd_slice_str (l:=0) (h:=(s.size - 1)) rfl Tryz.underlying9 rfl rfl rfl (by omega) (by omega) rfl)<|Dd as'<|Zz<|awp_ret ?_
  refine Rt ?_
  exact⟨rfl,rfl⟩
 rw [trimB,if_neg (by rw [hc1];decide)]
 refine awp_skip<|Sq<|Rg<|Dd mv'<|Dd as'<|Zz<|awp_ret ?_
 refine Rt ?_
 exact⟨rfl,rfl⟩
theorem trim_c (s:ByteArray) (H:Heap) (hs:s.size < 1099511627776):ACalls Tryz.prog 39 [sv s,sv sNl] H (fun r H'=>r=sv (trimB s)∧H'=H):=by
 refine ACalls.pure ?_ (by simp) H
 refine Bd Tryz.func39 rfl Tryz.ntmps39<|Sq<|Rg<|Dd as'<|Zz<|Sq<|Rg<|Dd mv'<|Dd mv'<|Dd (by exact opr_call rfl rfl Tryz.call84 rfl (slTrim_c s _ hs))<|Dd as'<|Zz<|awp_ret ?_
 refine Rt ?_
 exact⟨rfl,rfl⟩
theorem count_c (s:ByteArray) (H:Heap):ACalls Tryz.prog 176 [sv s,sv sSp] H (fun r H'=>r=iv ((s.data.toList.count 32:Nat):Int)∧H'=H):=by
 refine ACalls.pure ?_ (by simp) H
 refine Bd Tryz.func176 rfl Tryz.ntmps176<|Sq<|Rg<|Dd as'<|Zz<|Sq<|Sq<|Rg<|Dd mv'<|Dd (ls' Tryz.underlying9)<|Dd eql'<|Zz ?_
 refine Cn (fun hc1=>?_) fun hc1=>?_
 ·cases hc1
 skip
 refine awp_skip<|Sq<|Sq<|Rg<|Dd mv'<|Dd (ls' Tryz.underlying9)<|Dd eql'<|Zz ?_
 refine Cn (fun hc2=>?_) fun hc2=>?_
 ·skip
  refine Sq<|Rg<|Dd mv'<|Dd mv'<|Dd (by exact opd_index_str rfl Tryz.underlying9 rfl rfl (by omega) (by exact Int.toNat_natCast _) (show 0 < (⟨#[32]⟩:ByteArray).size from Nat.zero_lt_one) rfl)<|Dd (by exact opd_ext rfl rfl Tryz.func227 rfl rfl rfl rfl rfl (ext_count s 32))<|Dd as'<|Zz<|awp_ret ?_
  refine Rt ?_
  exact⟨rfl,rfl⟩
 cases hc2
end
section
/-- The pieces of a text between its blanks. -/
def ofY (l:List UInt8):ByteArray:=⟨l.toArray⟩
def splitS (s:ByteArray):List ByteArray:=(splitC 32 s.data.toList).map ofY
def spRows (D:List ByteArray) (m:Nat):List (List AV):=D.map (fun e=>(encStr e).map AV.pv)++List.replicate m [sv ⟨#[]⟩]
theorem spRows_at (D:List ByteArray) (m:Nat):(spRows D (m+1))[D.length]?=some [sv ⟨#[]⟩]:=by
 rw [spRows,List.getElem?_append_right (by rw [List.length_map];exact Nat.le_refl _),List.length_map,Nat.sub_self];rfl
theorem splitS_one {s:ByteArray} (h:(splitS s).length=1):splitS s=[s]:=by
 rw [splitS,List.length_map,splitC_len] at h
 have h0:(32:UInt8)∉s.data.toList:=List.count_eq_zero.1 (by omega)
 rw [splitS,splitC_free h0]
 rfl
theorem spRows_set (D:List ByteArray) (m:Nat) (x:ByteArray):(spRows D (m+1)).set D.length [sv x]=spRows (D++[x]) m:=by
 unfold spRows
 rw [List.set_append_right _ _ (by rw [List.length_map];exact Nat.le_refl _),List.length_map,Nat.sub_self,List.map_append,List.append_assoc];rfl
theorem spRows_clo (H:Heap) (D:List ByteArray) (m:Nat):∀ r∈spRows D m,∀ a∈r,Clo H a:=by
 intro r hr a ha
 rcases List.mem_append.1 hr with hr|hr
 ·obtain ⟨d,_,rfl⟩:=List.mem_map.1 hr
  obtain ⟨p,_,rfl⟩:=List.mem_map.1 ha
  simp
 rw [List.eq_of_mem_replicate hr,List.mem_singleton] at ha
 subst ha
 simp
theorem exL (s:ByteArray) (i j:Nat):(s.extract i j).data.toList=(s.data.toList.drop i).take (j - i):=by
 rw [ByteArray.data_extract,Array.toList_extract,List.extract_eq_take_drop]
theorem eqL {a b:ByteArray} (h:a.data.toList=b.data.toList):a=b:=by
 cases a;cases b;simp_all [Array.toList_inj]
theorem ofY_at {s:ByteArray} {w r:List UInt8} (h:s.data.toList=w++32::r):s.extract 0 w.length=ofY w∧(s.extract (w.length+1) s.size).data.toList=r:=by
 have hl:s.size=w.length+1+r.length:=by
  show s.data.size=_
  rw [← Array.length_toList,h,List.length_append,List.length_cons];omega
 constructor
 ·refine eqL ?_
  rw [exL,List.drop_zero,Nat.sub_zero,h,List.take_left]
  simp [ofY]
 rw [exL,h,hl,show w++32::r=(w++[32])++r by simp,show w.length+1=(w++[(32:UInt8)]).length by simp,List.drop_left]
 exact List.take_of_length_le (by omega)
theorem finY {H1:Heap} {id g n:Nat} {ob:Ob} (ps:List (List PV)) (hH:H1.get id=some ob) (hg:ob.g=g) (hps:ob.rows=ps.map (·.map .pv)) (hn:ps.length=n):Fin [] H1 (.osl id g 0 n) [] (.pv (.sl ps)):=by
 subst hg hn
 exact Fin.fz (id:=id) (ob:=ob) ps hH hps (.osl (by rw [Nat.zero_add,List.drop_zero,List.take_length])) rfl trivial trivial
theorem genSplit_c (s0:ByteArray) (H:Heap) (hs:s0.size < 1099511627776):ACalls Tryz.prog 131 [sv s0,sv sSp,iv 0,iv (-1)] H (fun r H'=>r=.pv (slStrs (splitS s0))∧H'=H):=by
 refine ACalls.pure ?_ (by simp) H
 obtain ⟨N,hN⟩:∃ N,N=s0.data.toList.count 32:=⟨_,rfl⟩
 have hNs:N≤s0.size:=by rw [hN];exact Nat.le_trans List.count_le_length (by simp)
 have hC:=fun H=>count_c s0 H
 rw [← hN] at hC
 have hlen:(splitC 32 s0.data.toList).length=N+1:=by rw [splitC_len,hN]
 refine Bd Tryz.func131 rfl Tryz.ntmps131<|Sq<|Rg<|Dd as'<|Zz<|Sq<|Sq<|Rg<|Dd mv'<|Dd eql'<|Zz ?_
 refine Cn (fun hc1=>?_) fun hc1=>?_
 ·cases hc1
 skip
 refine awp_skip<|Sq<|Sq<|Rg<|Dd mv'<|Dd se'<|Zz ?_
 refine Cn (fun hc2=>?_) fun hc2=>?_
 ·have:=of_decide_eq_true hc2
  cases this
 skip
 refine awp_skip<|Sq<|Sq<|Rg<|Dd mv'<|Dd lss'<|Zz ?_
 refine Cn (fun hc3=>?_) fun hc3=>?_
 ·skip
  refine Rg<|Dd mv'<|Dd mv'<|Dd (by exact opr_call rfl rfl Tryz.call176 rfl (hC _))<|Dd (by exact opd_add rfl rfl rfl (show IntKind.i64.wrap ((N:Int)+1)=((N+1:Nat):Int)by rw [IntKind.wrap_i64];omega))<|Dd as'<|Zz<|Sq<|Rg<|Dd mv'<|Dd mv'<|Dd (ls' Tryz.underlying9)<|Dd (by exact opd_add rfl rfl rfl (show IntKind.i64.wrap ((s0.size:Int)+1)=((s0.size+1:Nat):Int)by rw [IntKind.wrap_i64];omega))<|Dd (by exact opd_min (r:=((N+1:Nat):Int)) rfl rfl rfl (by omega))<|Dd as'<|Zz<|Sq<|Rg<|Dd mv'<|Dd (by exact x_makeSlice (id:=31) rfl so46 ei9 zo9 rfl rfl rfl (by omega) (by omega) (by exact Int.toNat_natCast _) (by exact Int.toNat_natCast _) (by omega) rfl)<|Dd as'<|Zz<|Sq<|Rg<|Dd mv'<|Dd (by exact opd_sub rfl rfl rfl (show IntKind.i64.wrap (((N+1:Nat):Int) - 1)=(N:Int)by rw [IntKind.wrap_i64];omega))<|Dd as'<|Zz<|Sq<|Rg<|Dd as'<|Zz<|Sq<|awp_block ?_
  refine awp_loop2 (fun(D:List ByteArray) (rest:ByteArray)=>([(0,sv rest),(1,sv sSp),(2,iv 0),(3,iv (N:Int)),(8,.pv (.sl [])),(9,.osl 31 0 0 (N+1)),(10,iv (D.length:Int))],[(31,⟨0,1,9,spRows D (N+1 - D.length)⟩)])) (fun D rest=>splitS s0=D++splitS rest∧rest.size≤s0.size) (fun D rest=>N - D.length) [] s0 ⟨rfl,Nat.le_refl _⟩ ?_ ?_
  ·exact(Ent.wk (Eb<|Eb<|Eb<|Eb<|Eb<|Ea<|Eb<|trivial) (Hc (spRows_clo _ _ _)<|trivial) trivial)
  rintro D rest ⟨hD,hr⟩
  have hln:D.length+(splitS rest).length=N+1:=by
   have:=congrArg List.length hD
   rw [List.length_append,splitS,List.length_map,hlen] at this
   exact this.symm
  have hpos:0 < (splitS rest).length:=by rw [splitS,List.length_map];exact splitC_pos _ _
  obtain ⟨m,hm⟩:∃ m,N+1 - D.length=m+1:=⟨N - D.length,by omega⟩
  have hI:=fun H=>index_c rest H
  rw [hm]
  rcases Nat.lt_or_ge D.length N with hlt|hge
  ·have h1:Lib.indexByte rest.data.toList 32 ≠ -1:=fun h=>by
    have h2:=splitC_free (index_free.1 h)
    rw [splitS,h2] at hln
    have:D.length+1=N+1:=hln
    omega
   obtain ⟨w,r,e1,e2,e3⟩:=index_at h1
   obtain ⟨x1,x2⟩:=ofY_at e1
   have hl:w.length+1+r.length=rest.size:=by rw [← show rest.data.toList.length=rest.size by simp,e1,List.length_append,List.length_cons];omega
   have hsp:splitS rest=rest.extract 0 w.length::splitS (rest.extract (w.length+1) rest.size):=by
    rw [splitS,e1,splitC_app e2,List.map_cons,x1,splitS,x2]
   simp only [e3] at hI
   refine Sq<|Sq<|Rg<|Dd mv'<|Dd mv'<|Dd lss'<|Zz ?_
   refine Cn (fun hc4=>?_) fun hc4=>?_
   ·skip
    refine awp_skip<|awp_block<|Sq<|Rg<|Dd mv'<|Dd mv'<|Dd (by exact opr_call rfl rfl Tryz.call177 rfl (hI _))<|Dd as'<|Zz<|Sq<|Sq<|Rg<|Dd mv'<|Dd lss'<|Zz ?_
    refine Cn (fun hc5=>?_) fun hc5=>?_
    ·have:=of_decide_eq_true hc5
     omega
    skip
    refine awp_skip<|Sq<|Rg<|Dd mv'<|Dd mv'<|Dd mv'<|Dd mv'<|Dd mv'<|Dd (by exact opd_add rfl rfl rfl (show IntKind.i64.wrap ((w.length:Int)+0)=(w.length:Int)by rw [IntKind.wrap_i64];omega))<|Dd (by exact opd_slice_str (l:=0) (h:=w.length) rfl Tryz.underlying9 rfl rfl rfl (by omega) (by omega) rfl)<|Dd (by exact x_index_osl rfl so46 rfl rfl rfl rfl rfl (by omega) (by exact Int.toNat_natCast _) (by omega) (Nat.zero_add _))<|Uu (by exact x_store1 rfl Tryz.sizeOf9 rfl rfl rfl rfl rfl (spRows_at D m) Nat.zero_lt_one rfl (spRows_set D m _))<|Zz<|Sq<|Rg<|Dd mv'<|Dd mv'<|Dd mv'<|Dd (ls' Tryz.underlying9)<|Dd (by exact opd_add rfl rfl rfl (show IntKind.i64.wrap ((w.length:Int)+1)=((w.length+1:Nat):Int)by rw [IntKind.wrap_i64];omega))<|Dd (by exact opd_slice_str (l:=(w.length+1)) (h:=rest.size) rfl Tryz.underlying9 rfl rfl rfl (by omega) (by omega) rfl)<|Dd as'<|Zz<|Rg<|Dd mv' ?_
    refine Dd (by exact opd_add rfl rfl rfl (show IntKind.i64.wrap ((D.length:Int)+1)=((D.length+1:Nat):Int)by rw [IntKind.wrap_i64];omega))<|Dd as'<|Zz ?_
    have e5:(D++[rest.extract 0 w.length]).length=D.length+1:=by simp
    have hsz:(rest.extract (w.length+1) rest.size).size≤s0.size:=by rw [← show (rest.extract (w.length+1) rest.size).data.toList.length=(rest.extract (w.length+1) rest.size).size by simp,x2];omega
    refine⟨D++[rest.extract 0 w.length],rest.extract (w.length+1) rest.size,⟨by rw [hD,hsp,List.append_assoc];rfl,hsz⟩,by rw [e5];omega,?_⟩
    rw [e5,show N+1 - (D.length+1)=m by omega]
    exact(Ent.wk (Eb<|Eb<|Eb<|Eb<|Eb<|Ea<|Eb<|trivial) (Hc (spRows_clo _ _ _)<|trivial) trivial)
   have:=of_decide_eq_false hc4
   omega
  have hDN:D.length=N:=by omega
  have hone:splitS rest=[rest]:=splitS_one (by omega)
  have hm0:m=0:=by omega
  subst hm0
  refine Sq<|Sq<|Rg<|Dd mv'<|Dd mv'<|Dd lss'<|Zz ?_
  refine Cn (fun hc6=>?_) fun hc6=>?_
  ·skip
   have:=of_decide_eq_true hc6
   omega
  skip
  refine awp_exit<|Sq<|Rg<|Dd mv'<|Dd mv'<|Dd mv'<|Dd (by exact x_index_osl rfl so46 rfl rfl rfl rfl rfl (by omega) (by exact Int.toNat_natCast _) (by omega) (Nat.zero_add _))<|Uu (by exact x_store1 rfl Tryz.sizeOf9 rfl rfl rfl rfl rfl (spRows_at D 0) Nat.zero_lt_one rfl (spRows_set D 0 _))<|Zz<|Sq<|Rg<|Dd mv'<|Dd mv'<|Dd (by exact opd_add rfl rfl rfl (show IntKind.i64.wrap ((D.length:Int)+1)=((D.length+1:Nat):Int)by rw [IntKind.wrap_i64];omega))<|Dd (by exact x_slice_osl (l:=0) (h:=(D.length+1)) rfl so46 rfl rfl rfl rfl rfl rfl (by omega) (by omega) rfl rfl)<|Dd as'<|Zz<|awp_ret ?_
  have hps:(D++[rest]).map encStr=(splitS s0).map encStr:=by rw [hD,hone]
  refine aret1 (H':=[]) (.inr rfl) rfl (rval_tmp rfl) (finY (id:=31) ((D++[rest]).map encStr) rfl rfl (by show spRows (D++[rest]) 0=_;rw [spRows,List.replicate_zero,List.append_nil,List.map_map];rfl) (by simp)) ⟨?_,rfl⟩
  rw [slStrs,hps]
 cases hc3
theorem splitSp_c (s:ByteArray) (H:Heap) (hs:s.size < 1099511627776):ACalls Tryz.prog 79 [sv s,sv sSp] H (fun r H'=>r=.pv (slStrs (splitS s))∧H'=H):=by
 refine ACalls.pure ?_ (by simp) H
 refine Bd Tryz.func79 rfl Tryz.ntmps79<|Sq<|Rg<|Dd as'<|Zz<|Sq<|Rg<|Dd mv'<|Dd mv'<|Dd (by exact opr_call rfl rfl Tryz.call131 rfl (genSplit_c s _ hs))<|Dd as'<|Zz<|awp_ret ?_
 refine Rt ?_
 exact⟨rfl,rfl⟩
end
section
/-- The first line of a text, and what follows. -/
def lineA (t:ByteArray):ByteArray:=if Lib.indexByte t.data.toList 10 = -1 then t else t.extract 0 ((Lib.indexByte t.data.toList 10).toNat+1)
def nextA (t:ByteArray):ByteArray:=if Lib.indexByte t.data.toList 10 = -1 then⟨#[]⟩else t.extract ((Lib.indexByte t.data.toList 10).toNat+1) t.size
def restA (s:ByteArray):Nat→ByteArray
 | 0=>s
 | k+1=>nextA (restA s k)
def linesS (s:ByteArray):List ByteArray:=(linesC s.data.toList).map ofY
theorem ofY_self (s:ByteArray):ofY s.data.toList=s:=eqL (by simp [ofY])
theorem szY (s:ByteArray):s.data.toList.length=s.size:=by simp
theorem ix_at {t:ByteArray} (h:Lib.indexByte t.data.toList 10 ≠ -1):∃ w r,t.data.toList=w++10::r∧(10:UInt8)∉w∧Lib.indexByte t.data.toList 10=(w.length:Int)∧t.extract 0 (w.length+1)=ofY (w++[10])∧(t.extract (w.length+1) t.size).data.toList=r∧w.length+1+r.length=t.size:=by
 obtain ⟨w,r,e1,e2,e3⟩:=index_at h
 have hl:w.length+1+r.length=t.size:=by rw [← szY,e1,List.length_append,List.length_cons];omega
 have e4:t.data.toList=(w++[10])++r:=by rw [e1];simp
 refine⟨w,r,e1,e2,e3,eqL ?_,?_,hl⟩
 ·rw [exL,List.drop_zero,Nat.sub_zero,e4,show w.length+1=(w++[(10:UInt8)]).length by simp,List.take_left]
  simp [ofY]
 rw [exL,e4,show w.length+1=(w++[(10:UInt8)]).length by simp,List.drop_left]
 exact List.take_of_length_le (by rw [List.length_append,List.length_singleton];omega)
theorem lines_nil {t:ByteArray} (h:¬ 0 < t.size):linesS t=[]:=by
 have:t.data.toList=[]:=List.length_eq_zero_iff.1 (by rw [szY];omega)
 rw [linesS,this];rfl
theorem lines_cons {t:ByteArray} (h:0 < t.size):linesS t=lineA t::linesS (nextA t)∧(nextA t).size≤t.size:=by
 rw [lineA,nextA]
 by_cases h1:Lib.indexByte t.data.toList 10 = -1
 ·rw [if_pos h1,if_pos h1]
  refine⟨?_,Nat.zero_le _⟩
  rw [linesS,linesC_free (index_free.1 h1) (fun e=>by rw [← szY,e] at h;exact absurd h (Nat.lt_irrefl 0))]
  show [ofY t.data.toList]=_
  rw [ofY_self]
  rfl
 rw [if_neg h1,if_neg h1]
 obtain ⟨w,r,e1,e2,e3,e4,e5,e6⟩:=ix_at h1
 rw [e3,Int.toNat_natCast,e4]
 refine⟨?_,by rw [← szY,e5];omega⟩
 rw [linesS,e1,linesC_app e2,List.map_cons,linesS,e5]
theorem rest_drop (s:ByteArray):∀ k,k≤(linesS s).length→linesS (restA s k)=(linesS s).drop k∧(restA s k).size≤s.size
 | 0,_=>⟨rfl,Nat.le_refl _⟩
 | k+1,h=>by
  obtain ⟨i1,i2⟩:=rest_drop s k (Nat.le_of_succ_le h)
  have hp:0 < (restA s k).size:=by
   rcases Nat.lt_or_ge 0 (restA s k).size with h1|h1
   ·exact h1
   have h2:=lines_nil (t:=restA s k) (by omega)
   rw [h2] at i1
   have:=congrArg List.length i1
   rw [List.length_drop,List.length_nil] at this
   omega
  obtain ⟨j1,j2⟩:=lines_cons hp
  rw [j1] at i1
  refine⟨?_,Nat.le_trans j2 i2⟩
  show linesS (nextA (restA s k))=_
  have:=congrArg List.tail i1
  rw [List.tail_cons,List.tail_drop] at this
  exact this
theorem line_at {s:ByteArray} {k:Nat} (h:k < (linesS s).length):(linesS s)[k]?=some (lineA (restA s k))∧0 < (restA s k).size:=by
 obtain ⟨i1,i2⟩:=rest_drop s k (Nat.le_of_lt h)
 have hp:0 < (restA s k).size:=by
  rcases Nat.lt_or_ge 0 (restA s k).size with h1|h1
  ·exact h1
  have h2:=lines_nil (t:=restA s k) (by omega)
  rw [h2] at i1
  have:=congrArg List.length i1
  rw [List.length_drop,List.length_nil] at this
  omega
 refine⟨?_,hp⟩
 rw [(lines_cons hp).1] at i1
 have:=congrArg List.head? i1
 rw [List.head?_cons,List.head?_drop] at this
 exact this.symm
def lB (s:ByteArray):Ob:=bx 1 9 [sv s]
theorem lines_c (s:ByteArray) (H:Heap) (h1:H.get 933=none):ACalls Tryz.prog 37 [sv s] H (fun r H'=>r=.clo 77 [.ref 933 0 0 0]∧H'=(933,lB s)::H):=by
 refine Bd Tryz.func37 rfl Tryz.ntmps37<|Sq<|Rg<|Dd (by exact opd_box (id:=933) rfl rfl rfl rfl h1)<|Dd as'<|Zz<|Sq<|Rg<|Dd (by exact opd_makeFunc rfl rfl)<|Dd as'<|Zz<|awp_ret ?_
 refine aret1 (H':=((933,lB s)::H)) (.inr rfl) rfl (rval_tmp rfl) Fin.refl ?_
 exact⟨rfl,rfl⟩
theorem lines1_c (s:ByteArray) (fv:AV) (Hs:Nat→Heap) (hs:s.size < 1099511627776) (h1:∀ k,(Hs k).get 933=some (lB (restA s k)))
  (hy:∀ k,k < (linesS s).length→CallsV Tryz.prog fv [sv (lineA (restA s k))] ((933,lB (restA s (k+1)))::Hs k) (fun r H'=>r=bv true∧H'=Hs (k+1))) :
  ACalls Tryz.prog 77 [fv,.ref 933 0 0 0] (Hs 0) (fun r H'=>r=.tup []∧H'=Hs (linesS s).length):=by
 refine Bd Tryz.func77 rfl Tryz.ntmps77<|awp_block ?_
 refine awp_loop (σ:=Nat) (fun k=>([(0,fv),(1,.ref 933 0 0 0)],Hs k)) (fun k=>k≤(linesS s).length) (fun k=>(linesS s).length - k) 0 (Nat.zero_le _) ?_ ?_
 ·exact E0
 rintro k hk
 obtain ⟨i1,i2⟩:=rest_drop s k hk
 have hI:=fun H=>indexByte_c (restA s k) 10 H
 have hnx:restA s (k+1)=nextA (restA s k):=rfl
 refine Sq<|Sq<|Rg<|Dd (by exact opd_load1_ref rfl Tryz.isAgg9 rfl (h1 k) rfl rfl rfl)<|Dd (ls' Tryz.underlying9)<|Dd gt'<|Zz ?_
 refine Cn (fun hc1=>?_) fun hc1=>?_
 ·have hp:0 < (restA s k).size:=by have:=of_decide_eq_true hc1;omega
  have hlt:k < (linesS s).length:=by
   rcases Nat.lt_or_ge k (linesS s).length with h|h
   ·exact h
   rw [(lines_cons hp).1,List.drop_eq_nil_of_le h] at i1;cases i1
  have hyk:=hy k hlt
  rw [hnx,nextA,lineA] at hyk
  rcases Classical.em (Lib.indexByte (restA s k).data.toList 10 = -1)with e0|e0
  ·rw [if_pos e0,if_pos e0] at hyk
   have hI2:∀ H,ACalls Tryz.prog 78 [sv (restA s k),.pv (.int .u8 10)] H (fun r H'=>r=iv (-1)∧H'=H):=fun H=>by
    have:=hI H
    rwa [show Lib.indexByte (restA s k).data.toList ((10:Int).toNat.toUInt8) = -1 from e0] at this
   refine awp_skip<|awp_block<|Sq<|Rg<|Dd as'<|Zz<|Sq<|Sq<|Rg<|Dd (by exact opd_load1_ref rfl Tryz.isAgg9 rfl (h1 k) rfl rfl rfl)<|Dd (by exact opr_call rfl rfl Tryz.call78 rfl (hI2 _))<|Dd as'<|Zz<|Sq<|Rg<|Dd mv'<|Dd ge'<|Zz ?_
   refine Cn (fun hc2=>?_) fun hc2=>?_
   ·cases hc2
   skip
   refine Rg<|Dd (by exact opd_load1_ref rfl Tryz.isAgg9 rfl (h1 k) rfl rfl rfl)<|Dd as'<|Uu (by exact x_store_all rfl Tryz.sizeOf9 rfl rfl rfl rfl (h1 k) rfl rfl rfl)<|Zz<|Sq<|Rg<|Dd mv'<|Dd mv'<|Dd (by exact opr_callV rfl rfl rfl (hyk))<|Dd no'<|Zz ?_
   refine Cn (fun hc3=>?_) fun hc3=>?_
   ·cases hc3
   skip
   refine awp_skip ?_
   exact⟨k+1,by omega,by omega,E0⟩
  rw [if_neg e0,if_neg e0] at hyk
  obtain ⟨w,r,e1,e2,e3,e4,e5,e6⟩:=ix_at e0
  rw [e3,Int.toNat_natCast] at hyk
  have hI2:∀ H,ACalls Tryz.prog 78 [sv (restA s k),.pv (.int .u8 10)] H (fun r H'=>r=iv (w.length:Int)∧H'=H):=fun H=>by
   have:=hI H
   rwa [show Lib.indexByte (restA s k).data.toList ((10:Int).toNat.toUInt8)=(w.length:Int)from e3] at this
  refine awp_skip<|awp_block<|Sq<|Rg<|Dd as'<|Zz<|Sq<|Sq<|Rg<|Dd (by exact opd_load1_ref rfl Tryz.isAgg9 rfl (h1 k) rfl rfl rfl)<|Dd (by exact opr_call rfl rfl Tryz.call78 rfl (hI2 _))<|Dd as'<|Zz<|Sq<|Rg<|Dd mv'<|Dd ge'<|Zz ?_
  refine Cn (fun hc4=>?_) fun hc4=>?_
  ·skip
   refine awp_drawc follows ?_
   refine Cr [933] (fun H1 hH=>by exact opd_load1_ref rfl Tryz.isAgg9 rfl ((hH _ rfl).trans (h1 k)) rfl rfl rfl)<|Cr [] (fun _ _=>mv')<|Cr [] (fun H1 hH=>by exact opd_add rfl rfl rfl (show IntKind.i64.wrap ((w.length:Int)+1)=((w.length+1:Nat):Int)by rw [IntKind.wrap_i64];omega))<|Cr [] (fun H1 hH=>by exact opd_slice_str (l:=0) (h:=(w.length+1)) rfl Tryz.underlying9 rfl rfl rfl (by omega) (by omega) rfl)<|Cr [933] (fun H1 hH=>by exact opd_load1_ref rfl Tryz.isAgg9 rfl ((hH _ rfl).trans (h1 k)) rfl rfl rfl)<|Cr [] (fun _ _=>mv')<|Cr [] (fun H1 hH=>by exact opd_add rfl rfl rfl (show IntKind.i64.wrap ((w.length:Int)+1)=((w.length+1:Nat):Int)by rw [IntKind.wrap_i64];omega))<|Cr [] (fun H1 hH=>by exact opd_slice_str (l:=(w.length+1)) (h:=(restA s k).size) rfl Tryz.underlying9 rfl rfl rfl (by omega) (by omega) rfl)<|Cr [] (fun _ _=>as')<|Cp [933] (fun H1 hH=>by exact x_store_all rfl Tryz.sizeOf9 rfl rfl rfl rfl ((hH _ rfl).trans (h1 k)) rfl rfl rfl) ?_
   refine dc_nil ⟨by kernel_rfl,?_⟩
   refine Sq<|Rg<|Dd mv'<|Dd mv'<|Dd (by exact opr_callV rfl rfl rfl (hyk))<|Dd no'<|Zz ?_
   refine Cn (fun hc5=>?_) fun hc5=>?_
   ·cases hc5
   skip
   refine awp_skip ?_
   exact⟨k+1,by omega,by omega,E0⟩
  skip
  have:=of_decide_eq_false hc4
  omega
 have hn:¬ 0 < (restA s k).size:=by have:=of_decide_eq_false hc1;omega
 have hge:k=(linesS s).length:=by
  rw [lines_nil hn] at i1
  have:=congrArg List.length i1
  rw [List.length_nil,List.length_drop] at this
  omega
 subst hge
 refine awp_exit ?_
 exact aret0 (H':=Hs (linesS s).length) (.inl rfl) rfl Fin.refl ⟨rfl,rfl⟩
end
end Go.Proofs.YtlnfjkdacimblaaGreatDoor
namespace Go.Abs
section
/-- A slot's box is frozen. -/
theorem Ent.fzP {G0:Heap} {E E':Env} {H H':Heap} {id g t:Nat} {ob:Ob} (row:List PV) (ht:E.get t=some (.ref id g 0 0)) (hH:H.get id=some ob) (hg:ob.g=g) (hrow:ob.rows=[row.map .pv]) (hz:ob.sz=row.length) (h0:0 < row.length)
  (hE:∀ p∈E',p=(t,.pad [row] 0 0)∨(E.get p.1=some p.2∧Clo H' p.2)) (hno:H'.get id=none) (hs:Sub H' H) (hc:Closed H') (hk:Kept G0 H' H):Ent G0 E H E' H':=by
 intro G hG N a w hst
 obtain ⟨I,ι,hr,hs',he⟩:=hst.rel
 subst hG
 refine⟨hst.defers,hst.size,_,ι,hr.freeze hs hc hH hno,hs'.freeze hs hk hH,fun u v hu=>?_⟩
 rcases hE _ (mem_of_get hu)with e|⟨e1,e2⟩
 ·obtain ⟨rfl,rfl⟩:=Prod.mk.inj e
  obtain ⟨c,hc1,hv⟩:=he _ _ ht
  refine⟨c,hc1,?_⟩
  obtain ⟨b,cap,h1,h2⟩:=ref_ptr hv hH hg
  obtain ⟨p1,p2,⟨b',cap',cs,f1,f2,f3,f4,f5,f5',f6⟩|⟨f1,_⟩⟩:=(hr.obj id ob hH).cells (by omega)
  rotate_left
  ·rw [h1] at f1;cases f1
  rw [h1] at f1;cases f1
  have hcells:∀ (i:Nat) (r:List PV),[row][i]?=some r→∀ (k:Nat) (p:PV),r[k]?=some p→∃ u,cs[i*ob.sz+k]?=some u∧VRel w I ι H u (.pv p):=fun i r hi k p hk=>by
   cases i with
   | succ i=>simp at hi
   | zero =>
    obtain rfl:row=r:=by simpa using hi
    obtain ⟨u,q1,_,q3⟩:=f6 0 (row.map .pv) (by rw [hrow];rfl) k (.pv p) (by rw [List.getElem?_map,hk];rfl)
    exact⟨u,q1,q3⟩
  have hI:ImmPlus I ι id b:=.inr ⟨cap,h1⟩
  have hlen:∀ r∈[row],r.length=ob.sz:=fun r hr'=>by rw [List.mem_singleton] at hr';rw [hr',hz]
  have hcell:∀ (i:Nat) (r:List PV),[row][i]?=some r→∀ (k:Nat) (p:PV),r[k]?=some p→w.cell? ⟨b,0+i*ob.sz+k,none⟩=some ((cs[i*ob.sz+k]?).getD undef):=fun i r hi k p hk=>by
   obtain ⟨u,q1,_⟩:=hcells i r hi k p hk
   rw [Nat.zero_add,cell_of_row w b _ cs ob.ty (0,0) f2,q1]
   rfl
  have hrep:∀ (i:Nat) (r:List PV),[row][i]?=some r→∀ (k:Nat) (p:PV),r[k]?=some p→PRep w (ImmPlus I ι id) ((cs[i*ob.sz+k]?).getD undef) p:=fun i r hi k p hk=>by
   obtain ⟨u,q1,q2⟩:=hcells i r hi k p hk
   rw [q1]
   exact q2.pv_inv.mono (fun _ _=>rfl) (fun _ h=>.inl h)
  have hsl:PRep w (ImmPlus I ι id) (.slice (some ⟨b,0,none⟩) [row].length cap) (.sl [row]) :=
   .sl b 0 cap ob.sz [row] (fun i k=>(cs[i*ob.sz+k]?).getD undef) hI (by omega) hlen (by rw [hrow] at f5;simpa using f5) hcell hrep
  have e:c=.pointer (some ⟨b,0+0*ob.sz+0,none⟩):=by rw [h2];simp
  rw [e]
  exact .pad b 0 cap ob.sz hsl (by omega) hlen (fun i k=>(cs[i*ob.sz+k]?).getD undef) hI hcell hrep
 obtain ⟨c,hc1,hv⟩:=he _ _ e1
 exact⟨c,hc1,(hv.restrict hs e2).mono' (fun _ _=>rfl) (fun _ h=>.inl h) (fun _ o h=>⟨o,h,Nat.le_refl _,fun _=>⟨rfl,rfl,fun _=>Nat.le_refl _⟩⟩)⟩
end
end Go.Abs
namespace Go.Proofs.YtlnfjkdacimblaaGreatDoor
open Go.Abs
section
def zOf (d:Bool) (z:Nat):Int:=if d then 2 - (z:Int)else(z:Int)
theorem zs_get (d:Bool):∀ z,z < 3→(zs d)[z]?=some (zOf d z)
 | 0,_=>by cases d<;>rfl
 | 1,_=>by cases d<;>rfl
 | 2,_=>by cases d<;>rfl
theorem zs_len (d:Bool):(zs d).length=3:=by cases d<;>rfl
def inZ (d:Bool) (z:Nat) (o:GObj):Bool:=decide (o.kind.tdiv 2=zOf d z)
def layY (m:List GObj) (d:Bool) (z:Nat):List GObj:=((zs d).take z).flatMap fun z=>m.filter fun o=>decide (o.kind.tdiv 2=z)
def layK (m:List GObj) (d:Bool) (z i:Nat):Nat:=(layY m d z).length+((m.take i).filter (inZ d z)).length
theorem layY_succ (m:List GObj) (d:Bool) {z:Nat} (h:z < 3):layY m d (z+1)=layY m d z++m.filter (inZ d z):=by
 rw [layY,List.take_add_one,zs_get d z h,Option.toList_some,List.flatMap_append,layY,List.flatMap_cons,List.flatMap_nil,List.append_nil]
 rfl
theorem layY_all (m:List GObj) (d:Bool):layY m d 3=layL m d:=by
 rw [layY,List.take_of_length_le (by rw [zs_len];exact Nat.le_refl _)]
 rfl
theorem layY_pre (m:List GObj) (d:Bool):∀ n z,z+n=3→∃ r,layL m d=layY m d z++r
 | 0,z,h=>⟨[],by rw [List.append_nil,← layY_all];congr 1;omega⟩
 | n+1,z,h=>by
  obtain ⟨r,hr⟩:=layY_pre m d n (z+1) (by omega)
  exact⟨m.filter (inZ d z)++r,by rw [hr,layY_succ m d (by omega),List.append_assoc]⟩
theorem filter_at {m:List GObj} {p:GObj→Bool} {i:Nat} {o:GObj} (h:m[i]?=some o) (hp:p o=true):(m.filter p)[((m.take i).filter p).length]?=some o:=by
 have hi:=(List.getElem?_eq_some_iff.1 h).1
 have e:m=m.take i++o::m.drop (i+1):=by
  have h2:=List.take_append_drop i m
  rw [List.drop_eq_getElem_cons hi] at h2
  rw [List.getElem?_eq_getElem hi] at h
  rw [Option.some.inj h] at h2
  exact h2.symm
 have e2:m.filter p=(m.take i).filter p++o::(m.drop (i+1)).filter p:=by
  rw [e,List.filter_append,List.filter_cons_of_pos hp,← e]
 rw [e2,List.getElem?_append_right (Nat.le_refl _),Nat.sub_self]
 rfl
theorem lay_at {m:List GObj} {d:Bool} {z i:Nat} {o:GObj} (hz:z < 3) (h:m[i]?=some o) (hp:inZ d z o=true):(layL m d)[layK m d z i]?=some o:=by
 obtain ⟨r,hr⟩:=layY_pre m d (2 - z) (z+1) (by omega)
 have hf:=filter_at h hp
 have hl:=(List.getElem?_eq_some_iff.1 hf).1
 rw [hr,layY_succ m d hz,layK,List.append_assoc,List.getElem?_append_right (Nat.le_add_right _ _),Nat.add_sub_cancel_left,List.getElem?_append_left hl]
 exact hf
theorem layK_yes {m:List GObj} {d:Bool} {z i:Nat} {o:GObj} (h:m[i]?=some o) (hp:inZ d z o=true):layK m d z (i+1)=layK m d z i+1:=by
 rw [layK,List.take_add_one,h,Option.toList_some,List.filter_append,List.filter_cons_of_pos hp,List.length_append]
 show _+(_+1)=_
 rw [layK];omega
theorem layK_no {m:List GObj} {d:Bool} {z i:Nat} {o:GObj} (h:m[i]?=some o) (hp:inZ d z o=false):layK m d z (i+1)=layK m d z i:=by
 rw [layK,List.take_add_one,h,Option.toList_some,List.filter_append,List.filter_cons_of_neg (by rw [hp];decide),List.length_append]
 show _+(_+0)=_
 rw [layK];omega
theorem layK_end (m:List GObj) (d:Bool) {z:Nat} (hz:z < 3):layK m d z m.length=layK m d (z+1) 0:=by
 rw [layK,List.take_length,layK,layY_succ m d hz,List.length_append,List.take_zero]
 rfl
theorem layK_all (m:List GObj) (d:Bool):layK m d 3 0=(layL m d).length:=by
 rw [layK,layY_all,List.take_zero]
 rfl
def dB (d:Bool):Ob:=bx 1 4 [bv d]
def mB (m:List GObj):Ob:=bx 1 38 [.pv (slObjs m)]
theorem dB_clo (H:Heap) (d:Bool):∀ r∈(dB d).rows,∀ a∈r,Clo H a:=by
 intro r hr a ha
 simp only [dB,bx,List.mem_singleton] at hr
 subst hr
 rw [List.mem_singleton] at ha
 subst ha
 simp
theorem mB_clo (H:Heap) (m:List GObj):∀ r∈(mB m).rows,∀ a∈r,Clo H a:=by
 intro r hr a ha
 simp only [mB,bx,List.mem_singleton] at hr
 subst hr
 rw [List.mem_singleton] at ha
 subst ha
 simp
theorem layers_c (m:List GObj) (d:Bool) (H:Heap) (h1:H.get 931=none) (h2:H.get 932=none):ACalls Tryz.prog 53 [.agg [.pv (slObjs m)],bv d] H (fun r H'=>r=.clo 103 [.ref 932 0 0 0,.ref 931 0 0 0]∧H'=(932,dB d)::(931,mB m)::H):=by
 have h2':Heap.get ((931,mB m)::H) 932=none:=h2
 refine Bd Tryz.func53 rfl Tryz.ntmps53<|Sq<|Rg<|Dd (by exact opd_box (id:=931) rfl rfl rfl rfl h1)<|Dd (by exact opd_box (id:=932) rfl rfl rfl rfl h2')<|Dd as'<|Zz<|Sq<|Rg<|Dd (by exact opd_makeFunc rfl rfl)<|Dd as'<|Zz<|awp_ret ?_
 refine aret1 (H':=((932,dB d)::(931,mB m)::H)) (.inr rfl) rfl (rval_tmp rfl) Fin.refl ?_
 exact⟨rfl,rfl⟩
theorem kd_wrap {k:Int} (h1:1≤k) (h2:k≤5):IntKind.i64.wrap (k.tdiv 2)=k.tdiv 2:=by
 have h3:k=1∨k=2∨k=3∨k=4∨k=5:=by omega
 rcases h3 with e|e|e|e|e<;>rw [e]<;>decide
theorem sub_934 {K:Heap} {o1 o2:Ob} (h:K.get 934=none):Sub K ((934,o1)::(934,o2)::K):=fun id o e=>by
 by_cases h1:id=934
 ·subst h1;rw [h] at e;cases e
 rw [get_cons_other _ _ h1,get_cons_other _ _ h1];exact e
theorem kept_934 {G K:Heap} {o1 o2:Ob} (h:G.get 934=none):Kept G K ((934,o1)::(934,o2)::K):=fun id e=>by
 by_cases h1:id=934
 ·subst h1;rw [h] at e;cases e
 rw [get_cons_other _ _ h1,get_cons_other _ _ h1]
theorem layers1_c (m:List GObj) (d:Bool) (fv:AV) (Hs:Nat→Heap) (hm:m.length < 1099511627776) (hk:∀ o∈m,1≤o.kind∧o.kind≤5) (h1:∀ k,(Hs k).get 931=some (mB m)) (h2:∀ k,(Hs k).get 932=some (dB d)) (h3:∀ k,(Hs k).get 934=none) (hcl:∀ k,Closed (Hs k))
  (hfv:∀ k,Clo (Hs k) fv)
  (hy:∀ k o,(layL m d)[k]?=some o→CallsV Tryz.prog fv [av (encObj o)] (Hs k) (fun r H'=>r=bv true∧H'=Hs (k+1))) :
  ACalls Tryz.prog 103 [fv,.ref 932 0 0 0,.ref 931 0 0 0] (Hs 0) (fun r H'=>r=.tup []∧H'=Hs (layL m d).length):=by
 have hml:(m.map encObj).length=m.length:=List.length_map _
 refine Bd Tryz.func103 rfl Tryz.ntmps103<|Sq<|Rg<|Dd mv'<|Zz<|awp_block ?_
 refine awp_loop (σ:=Nat) (fun z=>([(0,fv),(1,.ref 932 0 0 0),(2,.ref 931 0 0 0),(7,iv (z:Int))],Hs (layK m d z 0))) (fun z=>z≤3) (fun z=>3 - z) 0 (by omega) ?_ ?_
 ·exact E0
 rintro z hz
 refine Sq<|Rg<|Dd lss'<|Zz<|Sq ?_
 refine Cn (fun hc1=>?_) fun hc1=>?_
 ·skip
  have hz3:z < 3:=by have:=of_decide_eq_true hc1;omega
  refine awp_skip<|Sq<|awp_block<|Sq<|Rg<|Dd mv'<|Dd as'<|Zz ?_
  refine awp_seq_ex (fun(_:Unit)=>([(0,fv),(1,.ref 932 0 0 0),(2,.ref 931 0 0 0),(7,iv (z:Int)),(4,iv (zOf d z))],Hs (layK m d z 0))) (fun _=>True) ?_ ?_
  ·skip
   refine Sq<|Rg<|Dd (by exact opd_load1_ref rfl Tryz.isAgg4 rfl (h2 _) rfl rfl rfl)<|Zz ?_
   refine Cn (fun hc2=>?_) fun hc2=>?_
   ·skip
    have hd:d=true:=hc2
    refine Rg<|Dd mv'<|Dd (by exact opd_sub rfl rfl rfl (show IntKind.i64.wrap (2 - (z:Int))=zOf d z by rw [IntKind.wrap_i64,zOf,if_pos hd];omega))<|Dd as'<|Zz ?_
    exact⟨(),trivial,E0⟩
   skip
   have hd:d=false:=hc2
   have e:zOf d z=(z:Int):=by rw [zOf,if_neg (by rw [hd];decide)]
   rw [e]
   refine awp_skip ?_
   exact⟨(),trivial,E0⟩
  rintro _ _
  refine Sq<|Rg<|Dd (by exact opd_field_ref rfl fo38_0 rfl (h1 _) rfl rfl)<|Dd (by exact opd_load1_ref rfl Tryz.isAgg36 rfl (h1 _) rfl rfl rfl)<|Dd (ll' Tryz.underlying36)<|Dd mv'<|Zz<|awp_block ?_
  refine awp_loop (σ:=Nat) (fun i=>([(0,fv),(1,.ref 932 0 0 0),(2,.ref 931 0 0 0),(7,iv (z:Int)),(4,iv (zOf d z)),(14,.pv (slObjs m)),(15,iv ((m.map encObj).length:Int)),(16,iv (i:Int))],Hs (layK m d z i))) (fun i=>i≤m.length) (fun i=>m.length - i) 0 (Nat.zero_le _) ?_ ?_
  ·exact E0
  rintro i hi
  refine Sq<|Rg<|Dd lss'<|Zz<|Sq ?_
  refine Cn (fun hc3=>?_) fun hc3=>?_
  ·skip
   have hlt:i < m.length:=by have:=of_decide_eq_true hc3;omega
   obtain ⟨o,ho⟩:=get_of_lt hlt
   have hio:=map_get (f:=encObj) ho
   obtain ⟨hk1,hk5⟩:=hk o (List.mem_of_getElem? ho)
   refine awp_skip<|Sq<|awp_block<|Sq<|Rg<|Dd (xp' so36)<|Dd (by exact opd_loadn_pad rfl Tryz.isAgg49 Tryz.sizeOf49 rfl (by omega) (by simp only [Zl,encTag,encObj,encStr,encEdit,encInt];rfl) rfl)<|Dd (by exact x_alloc (id:=934) rfl zo49 rfl (h3 _))<|Uu (sa' Tryz.sizeOf49)<|Zz<|Sq ?_
   refine AWp.ent (Ent.fzP (t:=6) (id:=934) (E':=[(6,.pad [encObj o] 0 0),(0,fv),(1,.ref 932 0 0 0),(2,.ref 931 0 0 0),(7,iv (z:Int)),(4,iv (zOf d z)),(14,.pv (slObjs m)),(15,iv ((m.map encObj).length:Int)),(16,iv (i:Int))]) (H':=Hs (layK m d z i)) (encObj o) rfl rfl rfl rfl rfl (Nat.zero_lt_succ _) ?_ (h3 _) (sub_934 (h3 _)) (hcl _) (kept_934 (h3 0))) ?_
   ·intro p hp
    simp only [List.mem_cons,List.not_mem_nil,or_false] at hp
    rcases hp with rfl|rfl|rfl|rfl|rfl|rfl|rfl|rfl|rfl
    ·exact .inl rfl
    ·exact .inr ⟨rfl,hfv _⟩
    ·exact .inr ⟨rfl,.ref (by rw [h2];rfl)⟩
    ·exact .inr ⟨rfl,.ref (by rw [h1];rfl)⟩
    ·exact .inr ⟨rfl,.pv _⟩
    ·exact .inr ⟨rfl,.pv _⟩
    ·exact .inr ⟨rfl,.pv _⟩
    ·exact .inr ⟨rfl,.pv _⟩
    exact .inr ⟨rfl,.pv _⟩
   skip
   cases hz:inZ d z o with
   | true =>
    have hz':decide (o.kind.tdiv 2=zOf d z)=true:=hz
    refine Rg<|Dd (fp' fo49_1)<|Dd (lp' Tryz.isAgg3 (hi:=rfl))<|Dd (by exact opd_quo rfl rfl rfl (by decide) (kd_wrap hk1 hk5))<|Dd mv'<|Dd eql'<|Dd mv' ?_
    refine al_ond rfl rfl rfl (by assumption) rfl rfl (by exact opd_move rfl rfl) ?_
    refine al_ond rfl rfl rfl (by assumption) rfl rfl (by exact opd_loadn_pad rfl Tryz.isAgg49 Tryz.sizeOf49 rfl rfl (by simp only [Zl,encTag,encObj,encStr,encEdit,encInt];rfl) rfl) ?_
    refine al_ond rfl rfl rfl (by assumption) rfl rfl (by exact opr_callV rfl rfl rfl (hy (layK m d z i) o (lay_at hz3 ho hz))) ?_
    refine al_ond rfl rfl rfl (by assumption) rfl rfl (by exact opd_not rfl rfl) ?_
    refine Dd pt'<|Zz ?_
    refine Cn (fun hc4=>?_) fun hc4=>?_
    ·skip
     cases hc4
    skip
    refine awp_skip<|Rg<|Dd ad'<|Dd mv'<|Zz ?_
    refine⟨i+1,by omega,by omega,?_⟩
    rw [layK_yes ho hz]
    exact E0
   | false =>
    have hz':decide (o.kind.tdiv 2=zOf d z)=false:=hz
    refine Rg<|Dd (fp' fo49_1)<|Dd (lp' Tryz.isAgg3 (hi:=rfl))<|Dd (by exact opd_quo rfl rfl rfl (by decide) (kd_wrap hk1 hk5))<|Dd mv'<|Dd eql'<|Dd mv' ?_
    refine al_off rfl rfl rfl (by assumption) rfl ?_
    refine al_off rfl rfl rfl (by assumption) rfl ?_
    refine al_off rfl rfl rfl (by assumption) rfl ?_
    refine al_off rfl rfl rfl (by assumption) rfl ?_
    refine Dd pf'<|Zz ?_
    refine Cn (fun hc5=>?_) fun hc5=>?_
    ·skip
     cases hc5
    skip
    refine awp_skip<|Rg<|Dd ad'<|Dd mv'<|Zz ?_
    refine⟨i+1,by omega,by omega,?_⟩
    rw [layK_no ho hz]
    exact E0
  skip
  have hge:i=m.length:=by have:=of_decide_eq_false hc3;omega
  subst hge
  rw [layK_end m d hz3]
  refine awp_exit<|Rg<|Dd ad'<|Dd mv'<|Zz ?_
  exact⟨z+1,by omega,by omega,E0⟩
 skip
 have hge:z=3:=by have:=of_decide_eq_false hc1;omega
 subst hge
 rw [← layK_all]
 refine awp_exit ?_
 exact aret0 (H':=Hs (layK m d 3 0)) (.inl rfl) rfl Fin.refl ⟨rfl,rfl⟩
end
section
def rnE:Env:=[(2,.ref 2 0 0 0),(3,.ref 3 0 0 0),(5,.ref 5 0 0 0)]
def rnB0:Ob:=bx 1 89 [.mp 10 0]
def rnH (a b:List GObj) (X:List ByteArray):Heap:=[(10,sob X),(5,bx 1 89 [.mp 10 0]),(932,dB false),(931,mB a),(3,mB b),(2,mB a)]
theorem any_range (l:List ByteArray) (q:ByteArray→Bool):(List.range l.length).any (fun k=>((l[k]?).map q).getD false)=l.any q:=by
 rw [Bool.eq_iff_iff,List.any_eq_true,List.any_eq_true]
 constructor
 ·rintro⟨k,hk,h⟩
  have hl:=List.mem_range.1 hk
  rw [List.getElem?_eq_getElem hl] at h
  exact⟨_,List.getElem_mem hl,h⟩
 rintro⟨s,hs,h⟩
 obtain ⟨k,hk⟩:=List.mem_iff_getElem?.1 hs
 exact⟨k,List.mem_range.2 (List.getElem?_eq_some_iff.1 hk).1,by rw [hk];exact h⟩
theorem containsQ (fv:AV) (l:List ByteArray) (q:ByteArray→Bool) (H:Heap) (hl:l.length < 4611686018427387904) (hf:∀ s,CallsV Tryz.prog fv [sv s] H (fun r H'=>r=bv (q s)∧H'=H)) :
  ACalls Tryz.prog 101 [.pv (slStrs l),fv] H (fun r H'=>r=bv (l.any q)∧H'=H):=by
 have h:=containsFuncS fv l (fun k=>((l[k]?).map q).getD false) (fun _=>H) hl (fun k s hs=>by rw [hs];exact hf s)
 rw [any_range] at h
 exact h
theorem renewed1_c (X:List ByteArray) (s:ByteArray) (H:Heap) (h5:H.get 5=some rnB0) (h10:H.get 10=some (sob X)):ACalls Tryz.prog 102 [sv s,.ref 5 0 0 0] H (fun r H'=>r=bv (inB X s)∧H'=H):=by
 refine Bd Tryz.func102 rfl Tryz.ntmps102<|Sq<|Rg<|Dd as'<|Zz<|Sq<|Rg<|Dd (by exact opd_load1_ref rfl Tryz.isAgg89 rfl h5 rfl rfl rfl)<|Dd mv'<|Dd (by exact x_lookup_set rfl Tryz.underlying89 Tryz.underlying9 rfl h10 rfl rfl rfl Tryz.zeroValue4 (.inl rfl))<|Dd as'<|Zz<|awp_ret ?_
 refine aret1 (H':=H) (.inr rfl) rfl (rval_tmp rfl) Fin.refl ?_
 exact⟨rfl,rfl⟩
theorem rn_take {b:List GObj} {L:List GObj} {k:Nat} {o:GObj} (h:L[k]?=some o):rnL b [] (L.take (k+1))=if rnB b (rnL b [] (L.take k)) o then rnL b [] (L.take k)++[o.id] else rnL b [] (L.take k):=by
 rw [List.take_add_one,h,Option.toList_some,rnL_app]
 rfl
theorem rn_new {a b:List GObj} (hu:ups a) {k:Nat} {o:GObj} (h:(layL a false)[k]?=some o):inB (rnL b [] ((layL a false).take k)) o.id=false:=by
 cases hb:inB (rnL b [] ((layL a false).take k)) o.id with
 | false=>rfl
 | true =>
  rcases rnL_from b _ (inB_iff.1 hb)with h1|⟨p,hp,hi⟩
  ·cases h1
  obtain ⟨j,hj⟩:=List.mem_iff_getElem?.1 hp
  have hjk:j < k:=by
   have:=(List.getElem?_eq_some_iff.1 hj).1
   rw [List.length_take] at this;omega
  rw [List.getElem?_take_of_lt hjk] at hj
  have hp2:=lay_up hu
  rw [List.pairwise_iff_getElem] at hp2
  obtain ⟨q1,q2⟩:=List.getElem?_eq_some_iff.1 hj
  obtain ⟨q3,q4⟩:=List.getElem?_eq_some_iff.1 h
  have:=(hp2 j k q1 q3 hjk).1
  rw [q2,q4] at this
  exact absurd hi this
theorem renewed_c (a b:List GObj) (ha:closedB a=true) (hal:a.length < 1099511627776) (hbl:b.length < 1099511627776) :
  ACalls Tryz.prog 52 [.agg [.pv (slObjs a)],.agg [.pv (slObjs b)]] [] (fun r H'=>r=.mp 10 0∧H'=[(10,sob (renewed a b))]):=by
 have hg:=gMap_iff.1 (closed_gMap ha)
 have hkd:∀ o∈a,1≤o.kind∧o.kind≤5:=fun o ho=>gObj_kind (hg.1 o ho)
 obtain ⟨L,hL⟩:∃ L,L=layL a false:=⟨_,rfl⟩
 refine Bd Tryz.func52 rfl Tryz.ntmps52<|Sq<|Rg<|Dd (by exact opd_box (id:=2) rfl rfl rfl rfl rfl)<|Dd (by exact opd_box (id:=3) rfl rfl rfl rfl rfl)<|Dd as'<|Zz<|Sq<|Rg<|Dd (by exact opd_makeMap (id:=10) strK rfl rfl)<|Dd (by exact x_alloc (id:=5) rfl zo89 rfl rfl)<|Uu (sa' Tryz.sizeOf89)<|Zz<|Sq<|Sq<|Rg<|Dd (by exact opd_loadn_ref rfl Tryz.isAgg38 Tryz.sizeOf38 rfl rfl rfl rfl (by simp only [Zl,encTag,encObj,encStr,encEdit,encInt];rfl) rfl)<|Dd (by exact opr_call rfl rfl Tryz.call53 rfl (layers_c a false _ rfl rfl))<|Zz<|awp_block ?_
 refine AWp.ent (E':=[(2,.ref 2 0 0 0),(3,.ref 3 0 0 0),(5,.ref 5 0 0 0),(12,.clo 103 [.ref 932 0 0 0,.ref 931 0 0 0])]) (H':=rnH a b []) (Ent.wk (Ea<|Ea<|Ea<|Ec (by(simp;exact⟨rfl,rfl⟩))<|trivial) (Hc (sobN_clo _ _)<|Ha<|Hc (dB_clo _ _)<|Hc (mB_clo _ _)<|Hc (mB_clo _ _)<|Hc (mB_clo _ _)<|trivial) trivial) ?_
 refine awp_range (id:=904) (p:=13) rnE rfl Tryz.call103 rfl rfl (by simp [rnE];exact⟨rfl,rfl,rfl⟩) ?_
 intro x hx1 hx2 hx3 hx4 hx5 hx6
 have hround:∀ k o,L[k]?=some o→CallsV Tryz.prog (.yld 904 0) [av (encObj o)] ((904,LR x rnE)::rnH a b (rnL b [] (L.take k))) (fun r H'=>r=bv true∧H'=(904,LR x rnE)::rnH a b (rnL b [] (L.take (k+1)))):=by
  intro k o ho
  have hst:=rn_take (b:=b) ho
  have hnew:inB (rnL b [] (L.take k)) o.id=false:=by rw [hL] at ho ⊢;exact rn_new hg.2.1 ho
  obtain ⟨X,hX⟩:∃ X,X=rnL b [] (L.take k):=⟨_,rfl⟩
  rw [← hX] at hst hnew ⊢
  have hoa:o∈a:=by
   have:=List.mem_of_getElem? ho
   rw [hL] at this
   exact(mem_layL hkd).1 this
  have hor:o.refs.length < 4611686018427387904:=by
   have:=(gObj_len (hg.1 o hoa)).1
   omega
  refine .inl ⟨904,0,rfl,?_⟩
  refine ycalls [(2,.ref 2 0 0 0),(3,.ref 3 0 0 0),(5,.ref 5 0 0 0),(6,.ref 6 0 0 0)] ((6,bx 6 49 ((encObj o).map .pv))::rnH a b X) hx1 hx2 hx3 hx4 hx5 hx6 rfl rfl rfl ?_ ?_
  ·skip
   refine Rg<|Dd (by exact x_alloc (id:=6) rfl zo49 rfl rfl)<|Uu (sa' Tryz.sizeOf49)<|Zz ?_
   exact(Ent.wk (Ea<|Ea<|Ea<|Ea<|trivial) (Hc (LR_clo (by simp [rnE];exact⟨rfl,rfl,rfl⟩))<|Hb<|Hc (sobN_clo _ _)<|Ha<|Hc (dB_clo _ _)<|Hc (mB_clo _ _)<|Hc (mB_clo _ _)<|Hc (mB_clo _ _)<|trivial) ⟨rfl,rfl,rfl,rfl,rfl,rfl,rfl,trivial⟩)
  skip
  rcases gidx_cases (idIs o.id) b with⟨e1,e2⟩|⟨q,p,e1,e2,e3⟩
  ·have hdir:direct b o=(false||false):=by rw [direct,show look b o.id=none from e2];rfl
   have hF:∀ H,ACalls Tryz.prog 54 [.agg [.pv (slObjs b)],sv o.id] H (fun r H'=>r=iv (-1)∧H'=H):=fun H=>by have:=find_c b o.id H (by omega);rw [e1] at this;exact this
   refine awp_block<|Sq<|Rg<|Dd (by exact opd_loadn_ref rfl Tryz.isAgg38 Tryz.sizeOf38 rfl rfl rfl rfl (by simp only [Zl,encTag,encObj,encStr,encEdit,encInt];rfl) rfl)<|Dd (fr' fo49_0)<|Dd (l1' Tryz.isAgg9)<|Dd (by exact opr_call rfl rfl Tryz.call54 rfl (hF _))<|Dd as'<|Zz<|Sq ?_
   refine awp_drawc follows ?_
   refine Cq mv'<|Cq ge'<|Cq mv'<|Ot<|Ot<|Ot<|Ot<|Ot<|Ot<|Ot<|Ot<|Ot<|Cq pk'<|Cq as' ?_
   refine dc_nil ⟨by kernel_rfl,?_⟩
   refine Sq ?_
   refine awp_drawc follows ?_
   refine Cq mv'<|Cq ge'<|Cq mv'<|Ot<|Ot<|Ot<|Cq pk'<|Cq mv'<|Ot<|Ot<|Ot<|Ot<|Ot<|Ot<|Ot<|Ot<|Ot<|Ot<|Cq pk'<|Cq as' ?_
   refine dc_nil ⟨by kernel_rfl,?_⟩
   refine Sq ?_
   refine awp_bool (t:=59) (n:=12) (X:=(false||false)||o.refs.any (inB X)) ?_ ?_
   ·all_goals refine Dd mv' ?_
    all_goals refine Dd mv' ?_
    all_goals refine Sp 51 (fun h51=>?_) fun h51=>?_
    all_goals try contradiction
    all_goals(refine al_ond rfl rfl rfl rfl rfl rfl (by exact opd_move rfl rfl) ?_)
    all_goals refine Dd pk' ?_
    all_goals refine Dd mv' ?_
    all_goals refine Sp 54 (fun h54=>?_) fun h54=>?_
    all_goals try contradiction
    all_goals(refine al_ond rfl rfl rfl rfl rfl rfl (by exact opd_field_ref rfl fo49_3 rfl rfl rfl rfl) ?_)
    all_goals(refine al_ond rfl rfl rfl rfl rfl rfl (by exact opd_load1_ref rfl Tryz.isAgg46 rfl rfl rfl rfl rfl) ?_)
    all_goals(refine al_ond rfl rfl rfl rfl rfl rfl (by exact opd_makeFunc rfl rfl) ?_)
    all_goals(refine al_ond rfl rfl rfl rfl rfl rfl (by exact opr_call rfl rfl Tryz.call101 rfl (containsQ _ o.refs (inB X) _ hor (fun s=>CallsV.clo Tryz.call102 (renewed1_c X s _ rfl rfl)))) ?_)
    all_goals refine Dd pk' ?_
    all_goals refine al_nil ?_
    all_goals(exact⟨⟨_,rfl,by rfl⟩,rfl,rfl,rfl⟩)
   refine Cn (fun hc1=>?_) fun hc1=>?_
   ·skip
    have hB:rnB b X o=true:=by rw [rnB,hdir];exact hc1
    rw [if_pos hB] at hst
    refine Rg<|Dd (l1' Tryz.isAgg89)<|Dd (fr' fo49_0)<|Dd (l1' Tryz.isAgg9)<|Uu (by exact x_put_set (.inl rfl) Tryz.underlying89 Tryz.underlying9 rfl rfl rfl rfl rfl rfl rfl)<|Zz ?_
    have hsp:sput X o.id=X++[o.id]:=by rw [sput,if_neg (by rw [hnew];decide)]
    exact⟨rnH a b (sput X o.id),(Ent.wk trivial (Hc (LR_clo (by simp [rnE];exact⟨rfl,rfl,rfl⟩))<|Hc (sobN_clo _ _)<|Ha<|Hc (dB_clo _ _)<|Hc (mB_clo _ _)<|Hc (mB_clo _ _)<|Hc (mB_clo _ _)<|trivial) ⟨rfl,rfl,rfl,rfl,rfl,rfl,rfl,trivial⟩),rfl,by rw [hst,hsp]⟩
   skip
   have hB:rnB b X o=false:=by rw [rnB,hdir];exact hc1
   rw [if_neg (by rw [hB];decide)] at hst
   refine awp_skip ?_
   exact⟨rnH a b X,(Ent.wk trivial (Hc (LR_clo (by simp [rnE];exact⟨rfl,rfl,rfl⟩))<|Hc (sobN_clo _ _)<|Ha<|Hc (dB_clo _ _)<|Hc (mB_clo _ _)<|Hc (mB_clo _ _)<|Hc (mB_clo _ _)<|trivial) ⟨rfl,rfl,rfl,rfl,rfl,rfl,rfl,trivial⟩),rfl,by rw [hst]⟩
  have hdir:direct b o=(!decide (p.kind=o.kind)||(decide (o.kind=5)&&!decide (o.refs=p.refs))):=by rw [direct,show look b o.id=some p from e3]
  have hbi:=map_get (f:=encObj) e2
  have hq:=(List.getElem?_eq_some_iff.1 e2).1
  have hF:∀ H,ACalls Tryz.prog 54 [.agg [.pv (slObjs b)],sv o.id] H (fun r H'=>r=iv (q:Int)∧H'=H):=fun H=>by have:=find_c b o.id H (by omega);rw [e1] at this;exact this
  have h0:decide ((0:Int)≤(q:Int))=true:=decide_eq_true (by omega)
  refine awp_block<|Sq<|Rg<|Dd (by exact opd_loadn_ref rfl Tryz.isAgg38 Tryz.sizeOf38 rfl rfl rfl rfl (by simp only [Zl,encTag,encObj,encStr,encEdit,encInt];rfl) rfl)<|Dd (fr' fo49_0)<|Dd (l1' Tryz.isAgg9)<|Dd (by exact opr_call rfl rfl Tryz.call54 rfl (hF _))<|Dd as'<|Zz<|Sq ?_
  refine awp_mergeR (t:=8) (n:=14) (X:=!decide (p.kind=o.kind)) ?_ ?_
  ·refine awp_drawc follows ?_
   refine Cq mv'<|Cq ge'<|Cq mv'<|Nt (fr' fo38_0)<|Nt (l1' Tryz.isAgg36)<|Nt mv'<|Nt (xp' so36)<|Nt (fp' fo49_1)<|Nt (lp' Tryz.isAgg3)<|Nt (fr' fo49_1)<|Nt (l1' Tryz.isAgg3)<|Nt ne'<|Cq pk'<|Cq as' ?_
   refine dc_nil ⟨by kernel_rfl,?_⟩
   exact⟨rfl,⟨_,rfl,by rfl⟩,rfl,rfl,rfl⟩
  refine Sq ?_
  refine awp_mergeR (t:=9) (n:=20) (X:=decide (o.kind=5)&&!decide (o.refs=p.refs)) ?_ ?_
  ·cases hg38:(decide (o.kind=5):Bool)
   ·refine awp_drawc follows ?_
    refine Cq mv'<|Cq ge'<|Cq mv'<|Nt (fr' fo49_1)<|Nt (l1' Tryz.isAgg3)<|Nt eql'<|Cq pk'<|Cq mv'<|Ot<|Ot<|Ot<|Ot<|Ot<|Ot<|Ot<|Ot<|Ot<|Ot<|Cq pf'<|Cq as' ?_
    refine dc_nil ⟨by kernel_rfl,?_⟩
    exact⟨rfl,⟨_,rfl,by rfl⟩,rfl,rfl,rfl⟩
   refine awp_drawc follows ?_
   refine Cq mv'<|Cq ge'<|Cq mv'<|Nt (fr' fo49_1)<|Nt (l1' Tryz.isAgg3)<|Nt eql'<|Cq pk'<|Cq mv'<|Nt (fr' fo49_3)<|Nt (l1' Tryz.isAgg46)<|Nt (fr' fo38_0)<|Nt (l1' Tryz.isAgg36)<|Nt mv'<|Nt (xp' so36)<|Nt (fp' fo49_3)<|Nt (lp' Tryz.isAgg46)<|Nt (by exact opr_call rfl rfl Tryz.call100 rfl (eqStrs_c o.refs p.refs _ hor))<|Nt no'<|Cq pt'<|Cq as' ?_
   refine dc_nil ⟨by kernel_rfl,?_⟩
   exact⟨rfl,⟨_,rfl,by rfl⟩,rfl,rfl,rfl⟩
  refine Sq ?_
  refine awp_bool (t:=59) (n:=12) (X:=((!decide (p.kind=o.kind))||(decide (o.kind=5)&&!decide (o.refs=p.refs)))||o.refs.any (inB X)) ?_ ?_
  ·all_goals refine Dd mv' ?_
   all_goals refine Dd mv' ?_
   all_goals refine Sp 51 (fun h51=>?_) fun h51=>?_
   all_goals try contradiction
   all_goals first|refine Fo ?_|refine On mv' ?_
   all_goals refine Dd pk' ?_
   all_goals refine Dd mv' ?_
   all_goals refine Sp 54 (fun h54=>?_) fun h54=>?_
   all_goals try contradiction
   all_goals first|refine Fo ?_|refine On (fr' fo49_3) ?_
   all_goals first|refine Fo ?_|refine On (l1' Tryz.isAgg46) ?_
   all_goals first|refine Fo ?_|refine On (by exact opd_makeFunc rfl rfl) ?_
   all_goals first|refine Fo ?_|refine On (by exact opr_call rfl rfl Tryz.call101 rfl (containsQ _ o.refs (inB X) _ hor (fun s=>CallsV.clo Tryz.call102 (renewed1_c X s _ rfl rfl)))) ?_
   all_goals refine Dd pk' ?_
   all_goals refine al_nil ?_
   all_goals(exact⟨⟨_,rfl,by(simp_all;done)⟩,rfl,rfl,rfl⟩)
  refine Cn (fun hc2=>?_) fun hc2=>?_
  ·skip
   have hB:rnB b X o=true:=by rw [rnB,hdir];exact hc2
   rw [if_pos hB] at hst
   refine Rg<|Dd (l1' Tryz.isAgg89)<|Dd (fr' fo49_0)<|Dd (l1' Tryz.isAgg9)<|Uu (by exact x_put_set (.inl rfl) Tryz.underlying89 Tryz.underlying9 rfl rfl rfl rfl rfl rfl rfl)<|Zz ?_
   have hsp:sput X o.id=X++[o.id]:=by rw [sput,if_neg (by rw [hnew];decide)]
   exact⟨rnH a b (sput X o.id),(Ent.wk trivial (Hc (LR_clo (by simp [rnE];exact⟨rfl,rfl,rfl⟩))<|Hc (sobN_clo _ _)<|Ha<|Hc (dB_clo _ _)<|Hc (mB_clo _ _)<|Hc (mB_clo _ _)<|Hc (mB_clo _ _)<|trivial) ⟨rfl,rfl,rfl,rfl,rfl,rfl,rfl,trivial⟩),rfl,by rw [hst,hsp]⟩
  skip
  have hB:rnB b X o=false:=by rw [rnB,hdir];exact hc2
  rw [if_neg (by rw [hB];decide)] at hst
  refine awp_skip ?_
  exact⟨rnH a b X,(Ent.wk trivial (Hc (LR_clo (by simp [rnE];exact⟨rfl,rfl,rfl⟩))<|Hc (sobN_clo _ _)<|Ha<|Hc (dB_clo _ _)<|Hc (mB_clo _ _)<|Hc (mB_clo _ _)<|Hc (mB_clo _ _)<|trivial) ⟨rfl,rfl,rfl,rfl,rfl,rfl,rfl,trivial⟩),rfl,by rw [hst]⟩
 refine(layers1_c a false (.yld 904 0) (fun k=>(904,LR x rnE)::rnH a b (rnL b [] (L.take k))) hal hkd (fun k=>rfl) (fun k=>rfl) (fun k=>rfl) (fun k=>(Closed.ofL ⟨(by exact LR_clo (by simp [rnE];exact⟨rfl,rfl,rfl⟩)),(by exact sobN_clo _ _),(by(simp;rfl)),(by exact dB_clo _ _),(by exact mB_clo _ _),(by exact mB_clo _ _),(by exact mB_clo _ _),trivial⟩)) (fun k=>by simp;rfl) (fun k o h=>hround k o (by rw [hL];exact h))).mono ?_
 rintro r H' ⟨rfl,rfl⟩
 refine⟨x,_,rfl,by rw [hx1];decide,rfl,fun z=>?_⟩
 rw [hx2]
 have hfin:rnL b [] (L.take (layL a false).length)=renewed a b:=by rw [hL,List.take_length];rfl
 rw [hfin]
 refine Sq<|Rg<|Dd (l1' Tryz.isAgg89)<|Dd as'<|Zz<|awp_ret ?_
 refine aret1 (H':=[(10,sob (renewed a b))]) (.inr rfl) rfl (rval_tmp rfl) (Fin.wk (by(simp;rfl)) (Hc (sobN_clo _ _)<|trivial) trivial) ?_
 exact⟨rfl,rfl⟩
end
end Go.Proofs.YtlnfjkdacimblaaGreatDoor
