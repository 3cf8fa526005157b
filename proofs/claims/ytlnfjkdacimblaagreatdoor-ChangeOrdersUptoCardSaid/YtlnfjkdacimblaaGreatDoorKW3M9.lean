/-
  CONTRACTS: lexer.Lex. Conditions: lengths below 2^40.
  CONTRACTS: slices.Chunk, tag.Parse. Conditions: lengths below 2^40.
  TAGS MERGED, plain: three values for each key, as objects. Conditions: none.
  CONTRACTS: slices.Index, Contains at strings; tag.Merge. Conditions: lengths below 2^40.
  PLAIN: runs of edits of one kind. Conditions: none.
  THE TEXT OF TAGS IS LEXED BACK, plain. Conditions: none.
  PLAIN: texts cut at a byte; lines; where a byte stands first. Conditions: none.
  PLAIN: decimal digits: what Itoa writes Atoi reads. Conditions: none.
  THE ABSTRACT LOGIC, 36: strconv.Itoa and math/bits.Mul64, the library's contracts carried over; the table of the door. Conditions: each rule's own premises.
  PLAIN: the text of an object, and what its tokens read as. Conditions: none.
  PLAIN: the edits between two maps lead from the one to the other. Conditions: none.
  THE ABSTRACT LOGIC, 39: how often a byte stands in a text. Conditions: each rule's own premises.
  CONTRACTS: strings.Index, Cut, Count of a blank; strings.TrimSuffix of an end of a line. Conditions: lengths below 2^40.
  CONTRACTS: strings.Split at a blank. Conditions: lengths below 2^40.
  CONTRACTS: strings.Lines, where the loop goes on to the end. Conditions: lengths below 2^40.
  THE ABSTRACT LOGIC, 38: a box is frozen: a pointer to what is never written again; such pointers and nil. Conditions: each rule's own premises.
  CONTRACTS: change.layers and what it returns. Conditions: at most 2^40 objects.
  CONTRACT: change.renewed. Conditions: closed maps of at most 2^40 objects.
  PLAIN: the edits between two maps lead from the one to the other. Conditions: none.
  CONTRACT: strconv.Itoa. Conditions: numbers of 64 bits.
  PLAIN: the text of a change set is read back. Conditions: none.
  CONTRACT: object.Text. Conditions: the argument's sizes.
  PLAIN: the words of a line as the code cuts them. Conditions: none.
  CONTRACTS: change.line. Conditions: the edit is valid.
  PLAIN: the text of a change set is read back as a whole; different ones have different texts. Conditions: none.
  CONTRACTS: strings.Builder beside other objects, change.Text. Conditions: sizes.
  THE ABSTRACT LOGIC, 41: calls that only make new blocks. Conditions: each rule's own premises.
  THE ABSTRACT LOGIC, 42: strconv.Atoi, the library's contracts carried over; an error held against nil. Conditions: each rule's own premises.
  CONTRACT: strconv.Atoi. Conditions: lengths below 2^40.
  CONTRACTS: slices.IndexFunc at tokens, object.read. Conditions: lengths below 2^39.
  THE ABSTRACT LOGIC, 43: an error held against nil. Conditions: each rule's own premises.
  CONTRACT: change.number. Conditions: lengths below 2^40.
  PLAIN: the sizes of tokens; what they read as is of a moderate size. Conditions: none.
  CONTRACTS: object.Parse, change.read. Conditions: lengths below 2^38.
  CONTRACTS: change.Parse. Conditions: sizes.
-/
import Derived.Test.YtlnfjkdacimblaaGreatDoorKW3M8
import Derived.Lib.Bytealg
import Derived.Lib.Strings
import Derived.Lib.AtoiTie
import Derived.Lib.ItoaMem
import Derived.Lib.ItoaLen
import Derived.Shelf.Strconv.Itoa3
import Derived.Shelf.Bits.Mul64
import Derived.Shelf.LaysM
import Derived.Ground.NamesProg
import Derived.Below
import Derived.Shelf.Strconv.ErrVarAll
import Derived.Shelf.Strconv.AtoiAll
import Derived.Shelf.LaysC
import Derived.WideLaws
set_option linter.unusedVariables false
set_option linter.unusedSimpArgs false
set_option maxRecDepth 100000
set_option maxHeartbeats 2000000
namespace Go.Proofs.YtlnfjkdacimblaaGreatDoor
open Go.Abs
section
def encTok (f:GFound):List PV:=[.int .i64 f.kind,.str f.text,.int .i64 f.pos]
def slToks (l:List GFound):PV:=.sl (l.map encTok)
def tkRows (l:List GFound):List (List AV):=l.map fun f=>(encTok f).map AV.pv
theorem tkRows_len (l:List GFound):(tkRows l).length=l.length:=List.length_map _
theorem tkRows_app (l:List GFound) (f:GFound):tkRows l++[(encTok f).map AV.pv]=tkRows (l++[f]):=by rw [tkRows,tkRows,List.map_append];rfl
theorem tkRows_clo (H:Heap) (l:List GFound):∀ r∈tkRows l,∀ a∈r,Clo H a:=by
 intro r hr a ha
 obtain ⟨d,_,rfl⟩:=List.mem_map.1 hr
 obtain ⟨p,_,rfl⟩:=List.mem_map.1 ha
 simp
theorem tA_clo {H:Heap} (h1:(H.get 921).isSome=true) (h2:(H.get 923).isSome=true):∀ r∈tA.rows,∀ a∈r,Clo H a:=by
 intro r hr a ha
 simp only [tA,bx,List.mem_singleton] at hr
 subst hr
 rw [List.mem_singleton] at ha
 subst ha
 simp [h1,h2]
theorem tS_clo (H:Heap) (s:ByteArray):∀ r∈(tS s).rows,∀ a∈r,Clo H a:=by
 intro r hr a ha
 simp only [tS,bx,List.mem_singleton] at hr
 subst hr
 rw [List.mem_singleton] at ha
 subst ha
 simp
def lexRun:List GFound→List GFound→List GFound×Int×Int
 | acc,[]=>(acc,0,0)
 | acc,f::r=>if f.err≠0 then([],f.err,f.pos)else if acc.length=5000 then([],2,f.pos)else lexRun (acc++[f]) r
/-- The tokens of a text, or an error and its place. -/
def gLex (s:ByteArray):List GFound×Int×Int:=if 20000 < s.size then([],2,-1)else lexRun [] (gToks s (s.size+1) 0)
def okAt (ds:List GFound) (k:Nat):Bool:=match ds[k]? with
 | some f=>decide (f.err=0)&&!decide (k=5000)
 | none=>true
theorem lexRun_to {ds:List GFound}:∀ {k:Nat},k≤ds.length→(∀ j,j < k→okAt ds j=true)→lexRun [] ds=lexRun (ds.take k) (ds.drop k)
 | 0,_,_=>rfl
 | k+1,hk,h=>by
  rw [lexRun_to (Nat.le_of_succ_le hk) (fun j hj=>h j (by omega))]
  have hd:ds.drop k=ds[k]::ds.drop (k+1):=List.drop_eq_getElem_cons hk
  have hok:=h k (Nat.lt_succ_self k)
  rw [okAt,List.getElem?_eq_getElem hk] at hok
  simp only [Bool.and_eq_true,decide_eq_true_eq,Bool.not_eq_true',decide_eq_false_iff_not] at hok
  have htl:(ds.take k).length=k:=by rw [List.length_take];omega
  rw [hd,lexRun,if_neg (fun h=>h hok.1),if_neg (by rw [htl];exact hok.2),List.take_add_one,List.getElem?_eq_getElem hk]
  rfl
theorem toks_len (s:ByteArray):∀ (n i:Nat),(gToks s n i).length≤n
 | 0,_=>Nat.zero_le _
 | n+1,i=>by
  rw [gToks]
  split
  ·split
   ·exact Nat.le_succ_of_le (toks_len s n _)
   rw [List.length_cons]
   split
   ·exact Nat.succ_le_succ (toks_len s n _)
   exact Nat.succ_le_succ (Nat.zero_le _)
  exact Nat.zero_le _
def kL (s:ByteArray) (L:List GFound) (a:AV) (e p:Int):Heap:=[(905,⟨L.length,3,137,tkRows L⟩),(5,bx 1 133 [.osl 905 L.length 0 L.length]),(924,tA),(923,tC),(921,tS s),(4,bx 1 3 [iv p]),(3,bx 1 25 [iv e]),(2,bx 1 133 [a])]
theorem kL_app (s:ByteArray) (L:List GFound) (f:GFound) (a:AV) (e p:Int):kL s (L++[f]) a e p=[(905,⟨L.length+1,3,137,tkRows (L++[f])⟩),(5,bx 1 133 [.osl 905 (L.length+1) 0 (L.length+1)]),(924,tA),(923,tC),(921,tS s),(4,bx 1 3 [iv p]),(3,bx 1 25 [iv e]),(2,bx 1 133 [a])]:=by simp [kL]
/-- What a range over the tokens keeps of the frame. -/
def lexE:Env:=[(2,.ref 2 0 0 0),(3,.ref 3 0 0 0),(4,.ref 4 0 0 0),(5,.ref 5 0 0 0)]
theorem okAt_iff {ds:List GFound} {k:Nat} {f:GFound} (h:ds[k]?=some f):okAt ds k=(decide (f.err=0)&&!decide (k=5000)):=by rw [okAt,h]
theorem lex_c (s:ByteArray) (H:Heap) (hs:s.size < 1099511627776):ACalls Tryz.prog 83 [sv s] H (fun r H'=>r=.tup [.pv (slToks (gLex s).1),iv (gLex s).2.1,iv (gLex s).2.2]∧H'=H):=by
 refine ACalls.pure ?_ (by simp) H
 refine Bd Tryz.func83 rfl Tryz.ntmps83<|Sq<|Rg<|Dd (by exact x_alloc (id:=2) rfl zo133 rfl rfl)<|Dd (by exact x_alloc (id:=3) rfl zo25 rfl rfl)<|Dd (by exact x_alloc (id:=4) rfl zo3 rfl rfl)<|Zz<|Sq<|Sq<|Rg<|Dd mv'<|Dd (ls' Tryz.underlying9)<|Dd gt'<|Zz ?_
 refine Cn (fun hc1=>?_) fun hc1=>?_
 ·have e:gLex s=([],2,-1):=by rw [gLex,if_pos (by have:=of_decide_eq_true hc1;omega)]
  rw [e]
  refine Sq<|Rg<|Uu (sa' Tryz.sizeOf133)<|Uu (sa' Tryz.sizeOf25)<|Uu (sa' Tryz.sizeOf3)<|Zz<|awp_ret ?_
  refine aret3 (H':=[]) (.inr rfl) rfl (rval_cell1 rfl Tryz.isAgg133 rfl rfl rfl rfl) (rval_cell1 rfl Tryz.isAgg25 rfl rfl rfl rfl) (rval_cell1 rfl Tryz.isAgg3 rfl rfl rfl rfl) (Fin.wk (by simp) trivial trivial) ?_
  exact⟨rfl,rfl⟩
 have hsz:¬ 20000 < s.size:=by have:=of_decide_eq_false hc1;omega
 obtain ⟨ds,hds⟩:∃ ds,ds=gToks s (s.size+1) 0:=⟨_,rfl⟩
 have hg:gLex s=lexRun [] ds:=by rw [gLex,if_neg hsz,hds]
 refine awp_skip<|Sq<|Rg<|Dd (by exact x_alloc (id:=5) rfl zoN133 rfl rfl)<|Zz<|Sq<|Sq<|Rg<|Dd mv'<|Dd (by exact opr_call rfl rfl Tryz.call135 rfl (tokens_c s _ rfl rfl rfl (Closed.ofL ⟨(by(simp;done)),(by(simp;done)),(by(simp;done)),(by(simp;done)),trivial⟩)))<|Zz<|awp_block ?_
 refine AWp.ent (E':=[(2,.ref 2 0 0 0),(3,.ref 3 0 0 0),(4,.ref 4 0 0 0),(5,.ref 5 0 0 0),(11,.clo 185 [.ref 921 0 0 0,.ref 924 0 0 0])]) (H':=[(905,⟨0,3,137,[]⟩),(5,bx 1 133 [.osl 905 0 0 0]),(924,tA),(923,tC),(921,tS s),(4,bx 1 3 [iv 0]),(3,bx 1 25 [iv 0]),(2,bx 1 133 [.pv (.sl [])])]) ?_ ?_
 ·exact(Ent.nz 905 3 137 rfl rfl ⟨⟨_,rfl,(by exact Nz.same (by(simp;rfl)))⟩,⟨_,rfl,(by exact Nz.same (by(simp;rfl)))⟩,⟨_,rfl,(by exact Nz.same (by(simp;rfl)))⟩,⟨_,rfl,(by exact Nz.same (by(simp;rfl)))⟩,⟨_,rfl,(by exact Nz.same (by(simp;exact⟨rfl,rfl⟩)))⟩,trivial⟩ ⟨⟨_,rfl,rfl,rfl,rfl,(by exact .inr ⟨_,_,rfl,rfl,(by repeat(first|exact trivial|refine⟨(by exact Nz.own),?_⟩))⟩)⟩,⟨_,rfl,rfl,rfl,rfl,(by exact .inl ⟨rfl,(by exact tA_clo rfl rfl)⟩)⟩,⟨_,rfl,rfl,rfl,rfl,(by exact .inl ⟨rfl,(by exact clsA_clo _)⟩)⟩,⟨_,rfl,rfl,rfl,rfl,(by exact .inl ⟨rfl,(by exact tS_clo _ _)⟩)⟩,⟨_,rfl,rfl,rfl,rfl,(by exact .inl ⟨rfl,(by(simp;done))⟩)⟩,⟨_,rfl,rfl,rfl,rfl,(by exact .inl ⟨rfl,(by(simp;done))⟩)⟩,⟨_,rfl,rfl,rfl,rfl,(by exact .inl ⟨rfl,(by(simp;done))⟩)⟩,trivial⟩ trivial)
 have hdl:ds.length≤s.size+1:=by rw [hds];exact toks_len s _ _
 obtain ⟨j,hj⟩:∃ j,j=scan (okAt ds) ds.length 0:=⟨_,rfl⟩
 have hj1:j≤ds.length:=by have:=(scan_le (okAt ds) ds.length 0).2;omega
 have hj2:∀ k,k < j→okAt ds k=true:=fun k hk=>scan_all (okAt ds) ds.length 0 k (Nat.zero_le _) (by rw [← hj];exact hk)
 have hj3:j < ds.length→okAt ds j=false:=fun h=>by have:=scan_stop (okAt ds) ds.length 0 (by omega);rwa [← hj] at this
 have hrun:=lexRun_to hj1 hj2
 refine awp_range (id:=904) (p:=12) lexE rfl Tryz.call185 rfl rfl (by simp [lexE];exact⟨rfl,rfl,rfl,rfl⟩) ?_
 intro x hx1 hx2 hx3 hx4 hx5 hx6
 have hround:∀ (k:Nat) (d:GFound),ds[k]?=some d→k≤j →
   CallsV Tryz.prog (.yld 904 0) [.agg ((encFound d).map .pv)] ((904,LR x lexE)::(926,tF d)::kL s (ds.take k) (.pv (.sl [])) 0 0) (fun r H'=>r=bv (okAt ds k)∧H'=(if okAt ds k then(904,LR x lexE)::(926,tF d)::kL s (ds.take (k+1)) (.pv (.sl [])) 0 0 else(904,LR (left x .ret) lexE)::(926,tF d)::kL s (ds.take k) (.pv (.sl [])) (if d.err≠0 then d.err else 2) d.pos)):=by
  intro k d hd hkj
  have hok:=okAt_iff hd
  have hkl:k < ds.length:=(List.getElem?_eq_some_iff.1 hd).1
  have htl:(ds.take k).length=k:=by rw [List.length_take];omega
  have hnx:ds.take (k+1)=ds.take k++[d]:=by rw [List.take_add_one,hd];rfl
  refine .inl ⟨904,0,rfl,?_⟩
  refine ycalls [(2,.ref 2 0 0 0),(3,.ref 3 0 0 0),(4,.ref 4 0 0 0),(5,.ref 5 0 0 0),(6,.ref 907 0 0 0)] ((907,tF d)::(926,tF d)::kL s (ds.take k) (.pv (.sl [])) 0 0) hx1 hx2 hx3 hx4 hx5 hx6 rfl rfl rfl ?_ ?_
  ·skip
   refine Rg<|Dd (by exact x_alloc (id:=907) rfl zo174 rfl rfl)<|Uu (sa' Tryz.sizeOf174)<|Zz ?_
   exact(Ent.wk (Ea<|Ea<|Ea<|Ea<|Ea<|trivial) (Hc (LR_clo (by simp [lexE];exact⟨rfl,rfl,rfl,rfl⟩))<|Hc (tF_clo _ _)<|Hc (tF_clo _ _)<|Hc (tkRows_clo _ _)<|Ha<|Hc (tA_clo rfl rfl)<|Hc (clsA_clo _)<|Hc (tS_clo _ _)<|Hb<|Hb<|Hb<|trivial) ⟨rfl,rfl,rfl,rfl,rfl,rfl,rfl,rfl,rfl,rfl,trivial⟩)
  skip
  refine awp_block<|Sq<|awp_block<|Sq<|Rg<|Dd (fr' fo174_1)<|Dd (l1' Tryz.isAgg25)<|Dd ne'<|Dd as'<|Zz ?_
  refine Cn (fun hc2=>?_) fun hc2=>?_
  ·have he:d.err≠0:=by have h:=hc2;rw [Bool.not_eq_true',decide_eq_false_iff_not] at h;exact h
   have h0:okAt ds k=false:=by rw [hok,decide_eq_false he];rfl
   rw [h0,if_neg (by decide),if_pos he]
   refine Sq ?_
   refine awp_drawc follows ?_
   refine Cr [907] (fun _ h=>fh fo174_1 h)<|Cr [907] (fun _ h=>lh Tryz.isAgg25 h)<|Cr [907] (fun _ h=>fh fo174_0 h)<|Cr [907] (fun _ h=>fh fo137_2 h)<|Cr [907] (fun _ h=>lh Tryz.isAgg3 h)<|Cp [2] (fun H1 hH=>by exact x_store_all rfl Tryz.sizeOf133 rfl rfl rfl rfl ((hH _ rfl).trans rfl) rfl rfl rfl)<|Cp [3] (fun H1 hH=>by exact x_store_all rfl Tryz.sizeOf25 rfl rfl rfl rfl ((hH _ rfl).trans rfl) rfl rfl rfl)<|Cp [4] (fun H1 hH=>by exact x_store_all rfl Tryz.sizeOf3 rfl rfl rfl rfl ((hH _ rfl).trans rfl) rfl rfl rfl) ?_
   refine dc_nil ⟨by kernel_rfl,?_⟩
   refine awp_ret ?_
   exact⟨(926,tF d)::kL s (ds.take k) (.pv (.sl [])) d.err d.pos,(Ent.wk trivial (Hc (LR_clo (by simp [lexE];exact⟨rfl,rfl,rfl,rfl⟩))<|Hc (tF_clo _ _)<|Hc (tkRows_clo _ _)<|Ha<|Hc (tA_clo rfl rfl)<|Hc (clsA_clo _)<|Hc (tS_clo _ _)<|Hb<|Hb<|Hb<|trivial) ⟨rfl,rfl,rfl,rfl,rfl,rfl,rfl,rfl,rfl,rfl,trivial⟩),rfl,rfl⟩
  have he:d.err=0:=by have h:=hc2;rw [Bool.not_eq_false',decide_eq_true_eq] at h;exact h
  refine Sq<|Rg<|Dd (l1' Tryz.isAgg133)<|Dd (by exact opd_len_osl rfl Tryz.underlying133 rfl rfl rfl)<|Dd eql'<|Dd as'<|Zz ?_
  refine Cn (fun hc3=>?_) fun hc3=>?_
  ·have hk5:k=5000:=by have:=of_decide_eq_true hc3;omega
   have h0:okAt ds k=false:=by rw [hok,decide_eq_true he,decide_eq_true hk5];rfl
   rw [h0,if_neg (by decide),if_neg (fun h=>h he)]
   refine Sq ?_
   refine awp_drawc follows ?_
   refine Cr [907] (fun _ h=>fh fo174_0 h)<|Cr [907] (fun _ h=>fh fo137_2 h)<|Cr [907] (fun _ h=>lh Tryz.isAgg3 h)<|Cp [2] (fun H1 hH=>by exact x_store_all rfl Tryz.sizeOf133 rfl rfl rfl rfl ((hH _ rfl).trans rfl) rfl rfl rfl)<|Cp [3] (fun H1 hH=>by exact x_store_all rfl Tryz.sizeOf25 rfl rfl rfl rfl ((hH _ rfl).trans rfl) rfl rfl rfl)<|Cp [4] (fun H1 hH=>by exact x_store_all rfl Tryz.sizeOf3 rfl rfl rfl rfl ((hH _ rfl).trans rfl) rfl rfl rfl) ?_
   refine dc_nil ⟨by kernel_rfl,?_⟩
   refine awp_ret ?_
   exact⟨(926,tF d)::kL s (ds.take k) (.pv (.sl [])) 2 d.pos,(Ent.wk trivial (Hc (LR_clo (by simp [lexE];exact⟨rfl,rfl,rfl,rfl⟩))<|Hc (tF_clo _ _)<|Hc (tkRows_clo _ _)<|Ha<|Hc (tA_clo rfl rfl)<|Hc (clsA_clo _)<|Hc (tS_clo _ _)<|Hb<|Hb<|Hb<|trivial) ⟨rfl,rfl,rfl,rfl,rfl,rfl,rfl,rfl,rfl,rfl,trivial⟩),rfl,rfl⟩
  have hk5:¬ k=5000:=by have:=of_decide_eq_false hc3;omega
  have h0:okAt ds k=true:=by rw [hok,decide_eq_true he,decide_eq_false hk5];rfl
  rw [h0,if_pos rfl,hnx,kL_app]
  refine awp_skip<|Rg<|Dd (l1' Tryz.isAgg133)<|Dd (fr' fo174_0)<|Dd (ln' Tryz.isAgg137 Tryz.sizeOf137)<|Dd (by exact x_buildSlice [encTok d] rfl so133 rfl rfl rfl rfl rfl (by intro r hr;rw [List.mem_singleton] at hr;subst hr;rfl))<|Dd (by exact x_append (ps:=[encTok d]) rfl so133 ei137 rfl rfl rfl rfl rfl (tkRows_len _) rfl (by intro r hr;rw [List.mem_singleton] at hr;subst hr;rfl) (m:=1) rfl (by omega) rfl (tkRows_app (ds.take k) d))<|Uu (sa' Tryz.sizeOf133)<|Zz ?_
  exact⟨(926,tF d)::[(905,⟨(ds.take k).length+1,3,137,tkRows (ds.take k++[d])⟩),(5,bx 1 133 [.osl 905 ((ds.take k).length+1) 0 ((ds.take k).length+1)]),(924,tA),(923,tC),(921,tS s),(4,bx 1 3 [iv 0]),(3,bx 1 25 [iv 0]),(2,bx 1 133 [.pv (.sl [])])],(Ent.wk trivial (Hc (LR_clo (by simp [lexE];exact⟨rfl,rfl,rfl,rfl⟩))<|Hc (tF_clo _ _)<|Hc (tkRows_clo _ _)<|Ha<|Hc (tA_clo rfl rfl)<|Hc (clsA_clo _)<|Hc (tS_clo _ _)<|Hb<|Hb<|Hb<|trivial) ⟨rfl,rfl,rfl,rfl,rfl,rfl,rfl,rfl,rfl,rfl,trivial⟩),rfl,rfl⟩
 rcases Nat.lt_or_ge j ds.length with hlt|hge
 ·obtain ⟨f,hf⟩:=get_of_lt hlt
  have hbad:=hj3 hlt
  have hdj:ds.drop j=f::ds.drop (j+1):=by
   rw [List.drop_eq_getElem_cons hlt]
   rw [List.getElem?_eq_getElem hlt] at hf
   cases hf;rfl
  have hres:gLex s=([],(if f.err≠0 then f.err else 2),(f.pos:Int)):=by
   rw [hg,hrun,hdj,lexRun]
   split
   ·rfl
   rename_i he
   have he0:f.err=0:=by
    by_cases h:f.err=0
    ·exact h
    exact absurd h he
   rw [okAt_iff hf,decide_eq_true he0,Bool.true_and,Bool.not_eq_false',decide_eq_true_eq] at hbad
   rw [if_pos (by rw [List.length_take];omega)]
  rw [hres]
  refine(tokens2_c s (.yld 904 0) (fun k=>if k≤j then(904,LR x lexE)::kL s (ds.take k) (.pv (.sl [])) 0 0 else(904,LR (left x .ret) lexE)::kL s (ds.take j) (.pv (.sl [])) (if f.err≠0 then f.err else 2) f.pos) (okAt ds) (j+1) hs (fun k=>?_) (fun k=>?_) (fun k=>?_) (fun k=>?_) (fun k=>?_) (fun k=>?_) (by rw [← hds];exact hlt) (fun k hk=>hj2 k (by omega)) (.inr ⟨Nat.succ_pos _,by rw [Nat.add_sub_cancel];exact hbad⟩) ?_).mono ?_
  ·split<;>rfl
  ·split<;>rfl
  ·split<;>rfl
  ·split<;>rfl
  ·split
   ·exact(Closed.ofL ⟨(by exact LR_clo (by simp [lexE];exact⟨rfl,rfl,rfl,rfl⟩)),(by exact tkRows_clo _ _),(by(simp;rfl)),(by exact tA_clo rfl rfl),(by exact clsA_clo _),(by exact tS_clo _ _),(by(simp;done)),(by(simp;done)),(by(simp;done)),trivial⟩)
   exact(Closed.ofL ⟨(by exact LR_clo (by simp [lexE];exact⟨rfl,rfl,rfl,rfl⟩)),(by exact tkRows_clo _ _),(by(simp;rfl)),(by exact tA_clo rfl rfl),(by exact clsA_clo _),(by exact tS_clo _ _),(by(simp;done)),(by(simp;done)),(by(simp;done)),trivial⟩)
  ·split<;>(simp;rfl)
  ·rw [← hds]
   intro k d hd hk
   have hr:=hround k d hd (by omega)
   rw [if_pos (by omega)]
   by_cases hkj:k=j
   ·subst hkj
    rw [hf] at hd
    cases hd
    rw [hbad,if_neg (by decide)] at hr
    rw [if_neg (by omega),hbad]
    exact CallsV.congrG hr (fun j=>get_swap (by decide) j) (fun j=>get_swap (by decide) j)
   have hok:=hj2 k (by omega)
   rw [hok,if_pos rfl] at hr
   rw [if_pos (by omega),hok]
   exact CallsV.congrG hr (fun j=>get_swap (by decide) j) (fun j=>get_swap (by decide) j)
  rintro r H' ⟨rfl,rfl⟩
  rw [if_neg (by omega)]
  refine⟨left x .ret,_,rfl,by simp [left],rfl,fun z=>?_⟩
  show ARet _ _ _ _ _ _ _
  refine aret3 (H':=[]) (.inr rfl) rfl (rval_cell1 rfl Tryz.isAgg133 rfl rfl rfl rfl) (rval_cell1 rfl Tryz.isAgg25 rfl rfl rfl rfl) (rval_cell1 rfl Tryz.isAgg3 rfl rfl rfl rfl) (Fin.wk (by simp) trivial trivial) ?_
  exact⟨rfl,rfl⟩
 have hje:j=ds.length:=Nat.le_antisymm hj1 hge
 rw [hje,List.take_length,List.drop_length] at hrun
 rw [hg,hrun,lexRun]
 refine(tokens2_c s (.yld 904 0) (fun k=>(904,LR x lexE)::kL s (ds.take k) (.pv (.sl [])) 0 0) (okAt ds) ds.length hs (fun k=>rfl) (fun k=>rfl) (fun k=>rfl) (fun k=>rfl) (fun k=>(Closed.ofL ⟨(by exact LR_clo (by simp [lexE];exact⟨rfl,rfl,rfl,rfl⟩)),(by exact tkRows_clo _ _),(by(simp;rfl)),(by exact tA_clo rfl rfl),(by exact clsA_clo _),(by exact tS_clo _ _),(by(simp;done)),(by(simp;done)),(by(simp;done)),trivial⟩)) (fun k=>by simp;rfl) (by rw [← hds];exact Nat.le_refl _) (fun k hk=>hj2 k (by omega)) (.inl (by rw [← hds])) ?_).mono ?_
 ·rw [← hds]
  intro k d hd hk
  have hr:=hround k d hd (by omega)
  have hok:=hj2 k (by omega)
  rw [hok,if_pos rfl] at hr
  rw [hok]
  exact CallsV.congrG hr (fun j=>get_swap (by decide) j) (fun j=>get_swap (by decide) j)
 rintro r H' ⟨rfl,rfl⟩
 rw [List.take_length]
 refine⟨x,_,rfl,by rw [hx1];decide,rfl,fun z=>?_⟩
 rw [hx2]
 refine Sq<|Rg<|Dd (l1' Tryz.isAgg133)<|Uu (sa' Tryz.sizeOf133)<|Uu (sa' Tryz.sizeOf25)<|Uu (sa' Tryz.sizeOf3)<|Zz<|awp_ret ?_
 refine aret3 (H':=[]) (.inr rfl) rfl (rval_cell1 rfl Tryz.isAgg133 rfl rfl rfl rfl) (rval_cell1 rfl Tryz.isAgg25 rfl rfl rfl rfl) (rval_cell1 rfl Tryz.isAgg3 rfl rfl rfl rfl) (Fin.fz (r':=.tup [.pv (slToks ds),iv 0,iv 0]) (id:=905) (ob:=⟨ds.length,3,137,tkRows ds⟩) (ds.map encTok) rfl (by rw [List.map_map];rfl) (.tup rfl (fz_cons (.osl (qs:=ds.map encTok) (by rw [Nat.zero_add,List.drop_zero];exact List.take_of_length_le (Nat.le_of_eq (List.length_map encTok)))) (fz_cons (.same (by simp)) (fz_cons (.same (by simp)) fz_nil)))) rfl trivial trivial) ?_
 exact⟨rfl,rfl⟩
end
section
theorem lexRun_len:∀ (r acc:List GFound),(lexRun acc r).1.length≤acc.length+r.length
 | [],acc=>Nat.le_refl _
 | f::r,acc=>by
  rw [lexRun]
  split
  ·exact Nat.zero_le _
  split
  ·exact Nat.zero_le _
  have:=lexRun_len r (acc++[f])
  rw [List.length_append,List.length_singleton] at this
  rw [List.length_cons]
  omega
theorem lex_toks_len (s:ByteArray) (h:s.size < 1099511627776):(gLex s).1.length < 549755813888:=by
 unfold gLex
 split
 ·decide
 have h1:=lexRun_len (gToks s (s.size+1) 0) []
 have h2:=toks_len s (s.size+1) 0
 rw [List.length_nil] at h1
 omega
end
end Go.Proofs.YtlnfjkdacimblaaGreatDoor
section
namespace Go.Proofs.YtlnfjkdacimblaaGreatDoor
open Go.Abs
/-- What the three sides have for a key. -/
structure M3 where
 k:ByteArray
 b:ByteArray
 o:ByteArray
 t:ByteArray
/-! ### the objects -/
end Go.Proofs.YtlnfjkdacimblaaGreatDoor
namespace Go.Abs
end Go.Abs
namespace Go.Proofs.YtlnfjkdacimblaaGreatDoor
open Go.Abs
end Go.Proofs.YtlnfjkdacimblaaGreatDoor
end
namespace Go.Proofs.YtlnfjkdacimblaaGreatDoor
open Go.Abs
section
/-- The value of a key, and whether it is a conflict. -/
def m1 (p:M3):ByteArray×Bool:=if p.t=p.o then(p.o,false)else if p.t=p.b then(p.o,false)else if p.o=p.b then(p.t,false)else(p.b,true)
end
section
instance decMemB (s:ByteArray) (l:List ByteArray):Decidable (s∈l):=decidable_of_iff (inB l s=true) inB_iff
def dropE (s:ByteArray):GEdit:=⟨5,s,sNil,sNil,0,0,sNil,sNil,[],zObj⟩
def putE (o:GObj):GEdit:=⟨1,sNil,sNil,sNil,0,0,sNil,sNil,[],o⟩
def moveE (s:ByteArray) (x y:Int):GEdit:=⟨2,s,sNil,sNil,x,y,sNil,sNil,[],zObj⟩
def refsE (s:ByteArray) (r:List ByteArray):GEdit:=⟨4,s,sNil,sNil,0,0,sNil,sNil,r,zObj⟩
def tagE (s k v:ByteArray):GEdit:=⟨3,s,sNil,sNil,0,0,k,v,[],zObj⟩
end
section
theorem size_list (s:ByteArray):s.data.toList.length=s.size:=by simp
theorem ba_ext {a b:ByteArray} (h:a.data.toList=b.data.toList):a=b:=by
 cases a with|mk a=>cases b with|mk b=>cases a;cases b;simp at h;rw [h]
theorem extract_list (s:ByteArray) (i j:Nat):(s.extract i j).data.toList=(s.data.toList.drop i).take (j - i):=by
 rw [ByteArray.data_extract,Array.toList_extract,List.extract_eq_take_drop]
/-! ### one word -/
/-! ### the text -/
def lineL (t:GTag):List UInt8:=t.key.data.toList++61::gQuote t.val.data.toList
def moreL (l:List GTag):List UInt8:=l.flatMap fun t=>32::lineL t
end
end Go.Proofs.YtlnfjkdacimblaaGreatDoor
namespace Go.Abs
section
/-- The pieces between the bytes c. -/
def splitC (c:UInt8):List UInt8→List (List UInt8)
 | []=>[[]]
 | b::l=>if b=c then[]::splitC c l else((b::(splitC c l).headD [])::(splitC c l).tail)
theorem splitC_pos (c:UInt8) (l:List UInt8):0 < (splitC c l).length:=by
 cases l with
 | nil=>exact Nat.zero_lt_one
 | cons b l=>rw [splitC];split<;>simp
theorem splitC_free {c:UInt8}:∀ {w:List UInt8},c∉w→splitC c w=[w]
 | [],_=>rfl
 | b::w,h=>by
  rw [List.mem_cons,not_or] at h
  rw [splitC,if_neg (fun e=>h.1 e.symm),splitC_free h.2]
  rfl
theorem splitC_app {c:UInt8} {l:List UInt8}:∀ {w:List UInt8},c∉w→splitC c (w++c::l)=w::splitC c l
 | [],_=>by rw [List.nil_append,splitC,if_pos rfl]
 | b::w,h=>by
  rw [List.mem_cons,not_or] at h
  rw [List.cons_append,splitC,if_neg (fun e=>h.1 e.symm),splitC_app h.2]
  rfl
theorem splitC_len (c:UInt8):∀ l:List UInt8,(splitC c l).length=l.count c+1
 | []=>rfl
 | b::l=>by
  have ih:=splitC_len c l
  rw [splitC]
  by_cases h:b=c
  ·rw [if_pos h,List.length_cons,ih,h,List.count_cons_self]
  rw [if_neg h,List.length_cons,List.length_tail,ih,List.count_cons_of_ne h];omega
/-- Lines: pieces that end behind each byte 10. -/
def linesC:List UInt8→List (List UInt8)
 | []=>[]
 | b::l=>if b=10 then[10]::linesC l else match linesC l with
  | []=>[[b]]
  | w::r=>(b::w)::r
theorem linesC_app {l:List UInt8}:∀ {w:List UInt8},(10:UInt8)∉w→linesC (w++10::l)=(w++[10])::linesC l
 | [],_=>by rw [List.nil_append,linesC,if_pos rfl];rfl
 | b::w,h=>by
  rw [List.mem_cons,not_or] at h
  rw [List.cons_append,linesC,if_neg (fun e=>h.1 e.symm),linesC_app h.2]
  rfl
theorem linesC_free:∀ {w:List UInt8},(10:UInt8)∉w→w≠[]→linesC w=[w]
 | [],_,h=>absurd rfl h
 | b::w,h,_=>by
  rw [List.mem_cons,not_or] at h
  rw [linesC,if_neg (fun e=>h.1 e.symm)]
  by_cases e:w=[]
  ·subst e;rfl
  rw [linesC_free h.2 e]
/-- Where the first byte c stands. -/
theorem index_free {c:UInt8}:∀ {l:List UInt8},Lib.indexByte l c = -1↔c∉l
 | []=>by simp [Lib.indexByte]
 | b::l=>by
  have ih:=index_free (c:=c) (l:=l)
  have hg:=Lib.indexByte_ge l c
  rw [Lib.indexByte]
  by_cases h:b=c
  ·subst h;simp
  simp only [beq_iff_eq,h,if_false,List.mem_cons,not_or]
  constructor
  ·intro h2
   split at h2
   ·exact⟨fun e=>h e.symm,ih.1 (by assumption)⟩
   omega
  rintro⟨_,h2⟩
  rw [ih.2 h2];rfl
theorem index_at {c:UInt8}:∀ {l:List UInt8},Lib.indexByte l c ≠ -1→∃ w r,l=w++c::r∧c∉w∧Lib.indexByte l c=(w.length:Int)
 | [],h=>absurd rfl h
 | b::l,h=>by
  by_cases e:b=c
  ·subst e
   exact⟨[],l,rfl,by simp,by simp [Lib.indexByte]⟩
  have e1:Lib.indexByte l c ≠ -1:=fun e2=>h (by rw [Lib.indexByte];simp [e,e2])
  obtain ⟨w,r,h1,h2,h3⟩:=index_at e1
  refine⟨b::w,r,by rw [h1];rfl,by rw [List.mem_cons,not_or];exact⟨fun x=>e x.symm,h2⟩,?_⟩
  rw [Lib.indexByte]
  simp only [beq_iff_eq,e,if_false,e1,h3,List.length_cons]
  rw [if_neg (by omega)]
  push_cast
  rfl
end
end Go.Abs
namespace Go.Abs
open Go.Lib
section
theorem itoa_nat (n:Int) (h:0≤n):itoa n=decDigits n.toNat:=by rw [itoa,if_neg (by omega)]
/-- A number of at most seven digits. -/
theorem digits_small:∀ {k u:Nat},u < 10 ^ k→0 < k→(decDigits u).length≤k
 | 0,_,_,h=>absurd h (Nat.lt_irrefl 0)
 | k+1,u,h,_=>by
  rw [decDigits]
  split
  ·simp
  rename_i h1
  rw [List.length_append,List.length_singleton]
  have hk:0 < k:=by
   rcases Nat.eq_zero_or_pos k with e|e
   ·subst e;omega
   exact e
  have hd:u / 10 < 10 ^ k:=by rw [Nat.pow_succ] at h;omega
  have:=digits_small hd hk
  omega
end
end Go.Abs
namespace Go.Abs
open Go.Proofs
section
/-- A number's decimal digits. -/
def itoaB (n:Int):ByteArray:=⟨(Lib.itoa n).toArray⟩
theorem itoa_c {P:Program} {ρ:Shelf.Ren} (L:LaysM.n171 P ρ) {G:Nat} (hg:(G,GV.ints .u64 Lib.pow10Tab)∈gtab) (hn:P.globalNamed "internal/strconv.uint64pow10" = some G) (n:Int) (h0 : -9223372036854775808≤n) (h1:n≤9223372036854775807) (H:Heap) :
  ACalls P (ρ.f 171) [.pv (.int .i64 n)] H (fun r H'=>r=.pv (.str (itoaB n))∧H'=H):=by
 intro I ι w vs hr hvl hv
 obtain ⟨v,rfl⟩:∃ v,vs=#[v]:=by
  match vs,hvl with
  | ⟨[v]⟩,_=>exact⟨v,rfl⟩
 have e1:=(hv 0 v _ rfl rfl).int_inv
 subst e1
 have htab:Lib.TabIs P w "internal/strconv.uint64pow10" .u64 Lib.pow10Tab:=by
  obtain ⟨_,cs,t,f,h2,h3⟩:=hr.glob _ hg
  have h3':cs=(Lib.pow10Tab.map fun z=>Value.int .u64 z).toArray:=h3
  subst h3'
  simp only [Lib.TabIs,World.var?,hn,Option.bind_some,h2]
 refine(Any.strconv_Itoa L n h0 h1 w htab).mono ?_
 rintro e w' ⟨rfl,k,os,rfl⟩
 obtain ⟨k1,k2⟩:=Rel.drawn (w':=w.drewN k) hr rfl rfl rfl rfl
 obtain ⟨m1,m2⟩:=Rel.grown os k1
 exact⟨_,_,I,ι,_,rfl,⟨rfl,rfl⟩,.pv (.str _),m1,k2.trans m2⟩
end
end Go.Abs
namespace Go.Proofs.YtlnfjkdacimblaaGreatDoor
open Go.Abs
section
/-- The text of an object, as bytes. -/
def objHead (o:GObj):List UInt8:=(gWord o.kind).data.toList++32::(o.id.data.toList++32::(if o.kind=1 then Lib.itoa o.x++32::Lib.itoa o.y else 40::(gJoinS [32] (bs o.refs)++[41])))
def objL (o:GObj):List UInt8:=objHead o++moreL o.tags
def objB (o:GObj):ByteArray:=⟨(objL o).toArray⟩
/-- The text of an object, or why it has none. -/
def gObjT (o:GObj):ByteArray×Int:=if gObj o then(if 0 < o.tags.length∧(gText o.tags).2≠0 then(sNil,(gText o.tags).2)else if 20000 < (objB o).size then(sNil,2)else(objB o,0))else(sNil,1)
/-- What Atoi makes of a word. -/
def atV (s:ByteArray):Int:=match Lib.atoiAll s.data.toList with
 | .ok v=>v
 | .range=>Lib.atoiSat s.data.toList
 | _=>0
def noF:GFound:=⟨0,sNil,0,0⟩
def pad4 (T:List GFound):List GFound:=T++List.replicate (4 - T.length) noF
def kindW (s:ByteArray):Int:=if s=gWord 5 then 5 else if s=gWord 4 then 4 else if s=gWord 3 then 3 else if s=gWord 2 then 2 else if s=gWord 1 then 1 else 0
def isClose (f:GFound):Bool:=decide (f.text=⟨#[41]⟩)&&decide (f.kind=4)
def tagsR:List GFound→List GTag
 | a::_::c::r=>⟨a.text,c.text⟩::tagsR r
 | _=>[]
/-- The object that tokens seem to be. -/
def gReadO (T:List GFound):GObj :=
 if kindW ((pad4 T).getD 0 noF).text=1 then⟨((pad4 T).getD 1 noF).text,1,atV ((pad4 T).getD 2 noF).text,atV ((pad4 T).getD 3 noF).text,[],tagsR ((pad4 T).drop 4)⟩
 else if gidx isClose (pad4 T) < 3 then zObj
 else⟨((pad4 T).getD 1 noF).text,kindW ((pad4 T).getD 0 noF).text,0,0,(((pad4 T).take (gidx isClose (pad4 T)).toNat).drop 3).map GFound.text,tagsR ((pad4 T).drop ((gidx isClose (pad4 T)).toNat+1))⟩
theorem joinS_cons (k:ByteArray) (l:List ByteArray):gJoinS [32] (bs (k::l))=k.data.toList++l.flatMap (fun k=>32::k.data.toList):=by
 rw [bs,List.map_cons,gJoinS,List.flatMap_map]
 rfl
end
section
/-! ### tags -/
def tagDel (p o:GObj):List GTag:=p.tags.filter fun t=>decide (gGet o.tags t.key=none)
def inT (l:List GTag) (t:GTag):Bool:=l.any fun x=>decide (t.key=x.key)&&decide (t.val=x.val)
def tagNew (p o:GObj):List GTag:=o.tags.filter fun t=>!inT p.tags t
def tagL (p o:GObj):List (ByteArray×ByteArray):=(tagDel p o).map (fun t=>(t.key,sNil))++(tagNew p o).map (fun t=>(t.key,t.val))
/-! ### layers -/
def zs (down:Bool):List Int:=if down then[2,1,0] else[0,1,2]
def layL (m:List GObj) (down:Bool):List GObj:=(zs down).flatMap fun z=>m.filter fun o=>decide (o.kind.tdiv 2=z)
theorem mem_layL {m:List GObj} {d:Bool} (hk:∀ o∈m,1≤o.kind∧o.kind≤5) {o:GObj}:o∈layL m d↔o∈m:=by
 rw [layL,List.mem_flatMap]
 constructor
 ·rintro⟨z,_,h⟩
  exact(List.mem_filter.1 h).1
 intro h
 obtain ⟨h1,h2⟩:=hk o h
 refine⟨o.kind.tdiv 2,?_,List.mem_filter.2 ⟨h,decide_eq_true rfl⟩⟩
 have h3:o.kind=1∨o.kind=2∨o.kind=3∨o.kind=4∨o.kind=5:=by omega
 rcases h3 with e|e|e|e|e<;>rw [e]<;>cases d<;>decide
theorem lay_pair {m:List GObj} (hu:ups m) {R:Int→Int→Prop} (hR:∀ z,R z z):∀ {Z:List Int},Z.Pairwise (fun a b=>a≠b∧R a b)→(Z.flatMap fun z=>m.filter fun o=>decide (o.kind.tdiv 2=z)).Pairwise (fun x y=>x.id≠y.id∧R (x.kind.tdiv 2) (y.kind.tdiv 2))
 | [],_=>List.Pairwise.nil
 | z::Z,h=>by
  rw [List.pairwise_cons] at h
  rw [List.flatMap_cons,List.pairwise_append]
  refine⟨?_,lay_pair hu hR h.2,fun x hx y hy=>?_⟩
  ·have h1:(m.filter fun o=>decide (o.kind.tdiv 2=z)).Pairwise (fun x y=>slt x.id y.id=true):=List.Pairwise.filter _ hu
   refine List.Pairwise.imp_of_mem (fun {x y} hx hy hxy=>?_) h1
   have e1:=of_decide_eq_true (List.mem_filter.1 hx).2
   have e2:=of_decide_eq_true (List.mem_filter.1 hy).2
   rw [e1,e2]
   exact⟨(fun e=>by rw [e,slt_irr] at hxy;cases hxy),hR z⟩
  obtain ⟨z2,hz2,hy2⟩:=List.mem_flatMap.1 hy
  have e1:=of_decide_eq_true (List.mem_filter.1 hx).2
  have e2:=of_decide_eq_true (List.mem_filter.1 hy2).2
  rw [e1,e2]
  obtain ⟨h3,h4⟩:=h.1 z2 hz2
  refine⟨fun e=>h3 ?_,h4⟩
  have a1:=mem_look hu (List.mem_filter.1 hx).1
  have a2:=mem_look hu (List.mem_filter.1 hy2).1
  rw [e,a2] at a1
  cases a1
  rw [← e1,← e2]
theorem lay_up {m:List GObj} (hu:ups m):(layL m false).Pairwise (fun x y=>x.id≠y.id∧x.kind.tdiv 2≤y.kind.tdiv 2):=lay_pair hu (R:=fun a b=>a≤b) (fun _=>Int.le_refl _) (Z:=[0,1,2]) (by decide)
/-! ### what has to be renewed -/
def direct (b:List GObj) (o:GObj):Bool:=match look b o.id with
 | some p=>!decide (p.kind=o.kind)||(decide (o.kind=5)&&!decide (o.refs=p.refs))
 | none=>false
def rnB (b:List GObj) (X:List ByteArray) (o:GObj):Bool:=direct b o||o.refs.any (inB X)
def rnL (b:List GObj):List ByteArray→List GObj→List ByteArray
 | X,[]=>X
 | X,o::L=>rnL b (if rnB b X o then X++[o.id] else X) L
def renewed (a b:List GObj):List ByteArray:=rnL b [] (layL a false)
theorem rnL_app (b:List GObj):∀ (L1 L2:List GObj) (X:List ByteArray),rnL b X (L1++L2)=rnL b (rnL b X L1) L2
 | [],_,_=>rfl
 | o::L1,L2,X=>rnL_app b L1 L2 _
theorem rnL_from (b:List GObj):∀ (L:List GObj) {X:List ByteArray} {s:ByteArray},s∈rnL b X L→s∈X∨∃ o∈L,o.id=s
 | [],_,_,h=>.inl h
 | o::L,X,s,h=>by
  rcases rnL_from b L h with h1|⟨x,hx,e⟩
  ·split at h1
   ·rcases List.mem_append.1 h1 with h2|h2
    ·exact .inl h2
    exact .inr ⟨o,List.mem_cons_self,(List.mem_singleton.1 h2).symm⟩
   exact .inl h1
  exact .inr ⟨x,List.mem_cons_of_mem _ hx,e⟩
end
end Go.Proofs.YtlnfjkdacimblaaGreatDoor
namespace Go.Abs
section
section
variable {P:Program} {H:Heap}
theorem ext_count (s:ByteArray) (c:Int):ExtR P Extern.BytealgCount.count H [.pv (.str s),.pv (.int .u8 c)] (.pv (.int .i64 ((Lib.countByte s.data.toList c.toNat.toUInt8:Nat):Int))):=by
 intro w I ι cs hl h
 obtain ⟨u,v,rfl,h1,h2⟩:=two_vals hl h
 rw [h1.str_inv,h2.int_inv]
 exact⟨_,Lib.run_countString s c w,.pv (.int _ _)⟩
end
end
end Go.Abs
namespace Go.Proofs.YtlnfjkdacimblaaGreatDoor
open Go.Abs
section
abbrev sSp:ByteArray:=⟨#[32]⟩
theorem slIndex_c (s:ByteArray) (H:Heap):ACalls Tryz.prog 178 [sv s,sv sSp] H (fun r H'=>r=iv (Lib.indexByte s.data.toList 32)∧H'=H):=by
 refine ACalls.pure ?_ (by simp) H
 refine Bd Tryz.func178 rfl Tryz.ntmps178<|Sq<|Rg<|Dd as'<|Zz<|Sq<|Rg<|Dd mv'<|Dd (ls' Tryz.underlying9)<|Dd as'<|Zz<|Sq<|awp_block<|Sq ?_
 refine awp_bool (t:=16) (n:=9) (X:=decide (sSp=s)) ?_ ?_
 ·all_goals refine Dd mv' ?_
  all_goals refine Dd eql' ?_
  all_goals refine Dd mv' ?_
  all_goals refine Sp 19 (fun h19=>?_) fun h19=>?_
  all_goals try contradiction
  all_goals(refine al_ond rfl rfl rfl rfl rfl rfl (by exact opd_move rfl rfl) ?_)
  all_goals(refine al_ond rfl rfl rfl rfl rfl rfl (by exact opd_move rfl rfl) ?_)
  all_goals(refine al_ond rfl rfl rfl rfl rfl rfl (by exact opd_seql rfl rfl rfl) ?_)
  all_goals refine Dd pk' ?_
  all_goals refine Dd as' ?_
  all_goals refine al_nil ?_
  all_goals(exact⟨⟨_,rfl,by rfl⟩,rfl,rfl,rfl⟩)
 refine Cn (fun hc1=>?_) fun hc1=>?_
 ·have hs:=of_decide_eq_true hc1
  subst hs
  refine Sq<|Rg<|Dd as'<|Zz<|awp_ret ?_
  refine Rt ?_
  exact⟨rfl,rfl⟩
 skip
 refine Sq<|Rg<|Dd mv'<|Dd eql'<|Dd as'<|Zz ?_
 refine Cn (fun hc2=>?_) fun hc2=>?_
 ·skip
  refine Sq<|Rg<|Dd mv'<|Dd mv'<|Dd (by exact opd_index_str rfl Tryz.underlying9 rfl rfl (by omega) (by exact Int.toNat_natCast _) (show 0 < (⟨#[32]⟩:ByteArray).size from Nat.zero_lt_one) rfl)<|Dd (by exact opr_call rfl rfl Tryz.call130 rfl (slIndexByte_c s 32 _))<|Dd as'<|Zz<|awp_ret ?_
  refine Rt ?_
  exact⟨rfl,rfl⟩
 cases hc2
theorem index_c (s:ByteArray) (H:Heap):ACalls Tryz.prog 177 [sv s,sv sSp] H (fun r H'=>r=iv (Lib.indexByte s.data.toList 32)∧H'=H):=by
 refine ACalls.pure ?_ (by simp) H
 refine Bd Tryz.func177 rfl Tryz.ntmps177<|Sq<|Rg<|Dd as'<|Zz<|Sq<|Rg<|Dd mv'<|Dd mv'<|Dd (by exact opr_call rfl rfl Tryz.call178 rfl (slIndex_c s _))<|Dd as'<|Zz<|awp_ret ?_
 refine Rt ?_
 exact⟨rfl,rfl⟩
/-- What stands ahead of the first blank, what behind it, and whether there is one. -/
def cutV (s:ByteArray):AV:=if Lib.indexByte s.data.toList 32 = -1 then .tup [sv s,sv ⟨#[]⟩,bv false] else .tup [sv (s.extract 0 (Lib.indexByte s.data.toList 32).toNat),sv (s.extract ((Lib.indexByte s.data.toList 32).toNat+1) s.size),bv true]
theorem slCut_c (s:ByteArray) (H:Heap) (hs:s.size < 1099511627776):ACalls Tryz.prog 132 [sv s,sv sSp] H (fun r H'=>r=cutV s∧H'=H):=by
 refine ACalls.pure ?_ (by simp) H
 have hI:=fun H=>slIndex_c s H
 rw [cutV]
 rcases Classical.em (Lib.indexByte s.data.toList 32 = -1)with h1|h1
 ·rw [if_pos h1]
  simp only [h1] at hI
  refine Bd Tryz.func132 rfl Tryz.ntmps132<|Sq<|Rg<|Dd as'<|Dd as'<|Dd as'<|Zz<|Sq<|Sq<|Rg<|Dd mv'<|Dd mv'<|Dd (by exact opr_call rfl rfl Tryz.call178 rfl (hI _))<|Dd as'<|Zz<|Sq<|Rg<|Dd mv'<|Dd ge'<|Zz ?_
  refine Cn (fun hc1=>?_) fun hc1=>?_
  ·cases hc1
  skip
  refine awp_skip<|Sq<|Rg<|Dd mv'<|Dd as'<|Dd as'<|Dd as'<|Zz<|awp_ret ?_
  refine aret3 (H':=[]) (.inr rfl) rfl (rval_tmp rfl) (rval_tmp rfl) (rval_tmp rfl) (Fin.wk (by simp) trivial trivial) ?_
  exact⟨rfl,rfl⟩
 rw [if_neg h1]
 obtain ⟨w,r,e1,e2,e3⟩:=index_at h1
 simp only [e3] at hI
 rw [e3,Int.toNat_natCast]
 have hl:w.length+1+r.length=s.size:=by rw [← show s.data.toList.length=s.size by simp,e1,List.length_append,List.length_cons];omega
 refine Bd Tryz.func132 rfl Tryz.ntmps132<|Sq<|Rg<|Dd as'<|Dd as'<|Dd as'<|Zz<|Sq<|Sq<|Rg<|Dd mv'<|Dd mv'<|Dd (by exact opr_call rfl rfl Tryz.call178 rfl (hI _))<|Dd as'<|Zz<|Sq<|Rg<|Dd mv'<|Dd ge'<|Zz ?_
 refine Cn (fun hc1=>?_) fun hc1=>?_
 ·skip
  refine Sq ?_
  refine awp_drawc follows ?_
  refine Cq mv'<|Cq mv'<|Cq (by exact opd_slice_str (l:=0) (h:=(w.length)) rfl Tryz.underlying9 rfl rfl rfl (by omega) (by omega) rfl)<|Cq mv'<|Cq mv'<|Cq mv'<|Cq (ls' Tryz.underlying9)<|Cq (by exact opd_add rfl rfl rfl (show IntKind.i64.wrap ((w.length:Int)+1)=((w.length+1:Nat):Int)by rw [IntKind.wrap_i64];omega))<|Cq (by exact opd_slice_str (l:=(w.length+1)) (h:=s.size) rfl Tryz.underlying9 rfl rfl rfl (by omega) (by omega) rfl)<|Cq as'<|Cq as'<|Cq as' ?_
  refine dc_nil ⟨by kernel_rfl,?_⟩
  refine awp_ret ?_
  refine aret3 (H':=[]) (.inr rfl) rfl (rval_tmp rfl) (rval_tmp rfl) (rval_tmp rfl) (Fin.wk (by simp) trivial trivial) ?_
  exact⟨rfl,rfl⟩
 have hx:=of_decide_eq_false hc1
 omega
theorem cut_c (s:ByteArray) (H:Heap) (hs:s.size < 1099511627776):ACalls Tryz.prog 80 [sv s,sv sSp] H (fun r H'=>r=cutV s∧H'=H):=by
 refine ACalls.pure ?_ (by simp) H
 have hC:=fun H=>slCut_c s H hs
 rw [cutV] at *
 rcases Classical.em (Lib.indexByte s.data.toList 32 = -1)with h1|h1
 ·simp only [cutV,if_pos h1] at hC ⊢
  refine Bd Tryz.func80 rfl Tryz.ntmps80<|Sq<|Rg<|Dd as'<|Dd as'<|Dd as'<|Zz<|Sq<|Rg<|Dd mv'<|Dd mv'<|Dd (by exact opr_call rfl rfl Tryz.call132 rfl (hC _))<|Dd ex'<|Dd ex'<|Dd ex'<|Dd as'<|Dd as'<|Dd as'<|Zz<|awp_ret ?_
  refine aret3 (H':=[]) (.inr rfl) rfl (rval_tmp rfl) (rval_tmp rfl) (rval_tmp rfl) (Fin.wk (by simp) trivial trivial) ?_
  exact⟨rfl,rfl⟩
 simp only [cutV,if_neg h1] at hC ⊢
 refine Bd Tryz.func80 rfl Tryz.ntmps80<|Sq<|Rg<|Dd as'<|Dd as'<|Dd as'<|Zz<|Sq<|Rg<|Dd mv'<|Dd mv'<|Dd (by exact opr_call rfl rfl Tryz.call132 rfl (hC _))<|Dd ex'<|Dd ex'<|Dd ex'<|Dd as'<|Dd as'<|Dd as'<|Zz<|awp_ret ?_
 refine aret3 (H':=[]) (.inr rfl) rfl (rval_tmp rfl) (rval_tmp rfl) (rval_tmp rfl) (Fin.wk (by simp) trivial trivial) ?_
 exact⟨rfl,rfl⟩
abbrev sNl:ByteArray:=⟨#[10]⟩
def endsNl (s:ByteArray):Bool:=decide ((1:Int)≤(s.size:Int))&&decide (s.extract (s.size - 1) s.size=sNl)
def trimB (s:ByteArray):ByteArray:=if endsNl s then s.extract 0 (s.size - 1)else s
theorem hasSuffix_c (s:ByteArray) (H:Heap) (hs:s.size < 1099511627776):ACalls Tryz.prog 136 [sv s,sv sNl] H (fun r H'=>r=bv (endsNl s)∧H'=H):=by
 refine ACalls.pure ?_ (by simp) H
 refine Bd Tryz.func136 rfl Tryz.ntmps136<|Sq<|Rg<|Dd as'<|Zz<|Sq ?_
 refine awp_bool (t:=4) (n:=18) (X:=endsNl s) ?_ ?_
 ·all_goals refine Dd mv' ?_
  all_goals refine Dd (ls' Tryz.underlying9) ?_
  all_goals refine Dd mv' ?_
  all_goals refine Dd (ls' Tryz.underlying9) ?_
  all_goals refine Dd ge' ?_
  all_goals refine Dd mv' ?_
  all_goals refine Sp 10 (fun h10=>?_) fun h10=>?_
  all_goals try contradiction
  all_goals first|refine Fo ?_|refine On mv' ?_
  all_goals first|refine Fo ?_|refine On mv' ?_
  all_goals first|refine Fo ?_|refine On (ls' Tryz.underlying9) ?_
  all_goals first|refine Fo ?_|refine On mv' ?_
  all_goals first|refine Fo ?_|refine On (ls' Tryz.underlying9) ?_
  all_goals first|refine Fo ?_|refine On (by exact opd_sub rfl rfl rfl (show IntKind.i64.wrap ((s.size:Int) - 1)=((s.size - 1:Nat):Int)by have h11:(1:Int)≤(s.size:Int):=of_decide_eq_true h10;rw [IntKind.wrap_i64];omega)) ?_
  all_goals first|refine Fo ?_|refine On (by exact opd_slice_str (l:=(s.size - 1)) (h:=s.size) rfl Tryz.underlying9 rfl rfl rfl (by omega) (by omega) rfl) ?_
  all_goals first|refine Fo ?_|refine On mv' ?_
  all_goals first|refine Fo ?_|refine On se' ?_
  all_goals refine Dd pk' ?_
  all_goals refine Dd as' ?_
  all_goals refine al_nil ?_
  all_goals(exact⟨⟨_,rfl,by(simp only [endsNl];rw [show decide ((1:Int)≤(s.size:Int))=_ from h10];rfl)⟩,rfl,rfl,rfl⟩)
 refine awp_ret ?_
 refine Rt ?_
 exact⟨rfl,rfl⟩
theorem slTrim_c (s:ByteArray) (H:Heap) (hs:s.size < 1099511627776):ACalls Tryz.prog 84 [sv s,sv sNl] H (fun r H'=>r=sv (trimB s)∧H'=H):=by
 refine ACalls.pure ?_ (by simp) H
 refine Bd Tryz.func84 rfl Tryz.ntmps84<|Sq<|Rg<|Dd as'<|Zz<|Sq<|Sq<|Rg<|Dd mv'<|Dd mv'<|Dd (by exact opr_call rfl rfl Tryz.call136 rfl (hasSuffix_c s _ hs))<|Zz ?_
 refine Cn (fun hc1=>?_) fun hc1=>?_
 ·have h1:1≤s.size:=by
   have h:=hc1
   rw [endsNl,Bool.and_eq_true,decide_eq_true_eq] at h
   omega
  rw [trimB,if_pos hc1]
  refine Sq<|Rg<|Dd mv'<|Dd mv'<|Dd (ls' Tryz.underlying9)<|Dd mv'<|Dd (ls' Tryz.underlying9)<|Dd (by exact opd_sub rfl rfl rfl (show IntKind.i64.wrap ((s.size:Int) - 1)=((s.size - 1:Nat):Int)by rw [IntKind.wrap_i64];omega))<|Dd (by exact opd_slice_str (l:=0) (h:=(s.size - 1)) rfl Tryz.underlying9 rfl rfl rfl (by omega) (by omega) rfl)<|Dd as'<|Zz<|awp_ret ?_
  refine Rt ?_
  exact⟨rfl,rfl⟩
 rw [trimB,if_neg (by rw [hc1];decide)]
 refine awp_skip<|Sq<|Rg<|Dd mv'<|Dd as'<|Zz<|awp_ret ?_
 refine Rt ?_
 exact⟨rfl,rfl⟩
theorem trim_c (s:ByteArray) (H:Heap) (hs:s.size < 1099511627776):ACalls Tryz.prog 39 [sv s,sv sNl] H (fun r H'=>r=sv (trimB s)∧H'=H):=by
 refine ACalls.pure ?_ (by simp) H
 refine Bd Tryz.func39 rfl Tryz.ntmps39<|Sq<|Rg<|Dd as'<|Zz<|Sq<|Rg<|Dd mv'<|Dd mv'<|Dd (by exact opr_call rfl rfl Tryz.call84 rfl (slTrim_c s _ hs))<|Dd as'<|Zz<|awp_ret ?_
 refine Rt ?_
 exact⟨rfl,rfl⟩
theorem count_c (s:ByteArray) (H:Heap):ACalls Tryz.prog 176 [sv s,sv sSp] H (fun r H'=>r=iv ((s.data.toList.count 32:Nat):Int)∧H'=H):=by
 refine ACalls.pure ?_ (by simp) H
 refine Bd Tryz.func176 rfl Tryz.ntmps176<|Sq<|Rg<|Dd as'<|Zz<|Sq<|Sq<|Rg<|Dd mv'<|Dd (ls' Tryz.underlying9)<|Dd eql'<|Zz ?_
 refine Cn (fun hc1=>?_) fun hc1=>?_
 ·cases hc1
 skip
 refine awp_skip<|Sq<|Sq<|Rg<|Dd mv'<|Dd (ls' Tryz.underlying9)<|Dd eql'<|Zz ?_
 refine Cn (fun hc2=>?_) fun hc2=>?_
 ·skip
  refine Sq<|Rg<|Dd mv'<|Dd mv'<|Dd (by exact opd_index_str rfl Tryz.underlying9 rfl rfl (by omega) (by exact Int.toNat_natCast _) (show 0 < (⟨#[32]⟩:ByteArray).size from Nat.zero_lt_one) rfl)<|Dd (by exact opd_ext rfl rfl Tryz.func227 rfl rfl rfl rfl rfl (ext_count s 32))<|Dd as'<|Zz<|awp_ret ?_
  refine Rt ?_
  exact⟨rfl,rfl⟩
 cases hc2
end
section
/-- The pieces of a text between its blanks. -/
def ofY (l:List UInt8):ByteArray:=⟨l.toArray⟩
def splitS (s:ByteArray):List ByteArray:=(splitC 32 s.data.toList).map ofY
def spRows (D:List ByteArray) (m:Nat):List (List AV):=D.map (fun e=>(encStr e).map AV.pv)++List.replicate m [sv ⟨#[]⟩]
theorem spRows_at (D:List ByteArray) (m:Nat):(spRows D (m+1))[D.length]?=some [sv ⟨#[]⟩]:=by
 rw [spRows,List.getElem?_append_right (by rw [List.length_map];exact Nat.le_refl _),List.length_map,Nat.sub_self];rfl
theorem splitS_one {s:ByteArray} (h:(splitS s).length=1):splitS s=[s]:=by
 rw [splitS,List.length_map,splitC_len] at h
 have h0:(32:UInt8)∉s.data.toList:=List.count_eq_zero.1 (by omega)
 rw [splitS,splitC_free h0]
 rfl
theorem spRows_set (D:List ByteArray) (m:Nat) (x:ByteArray):(spRows D (m+1)).set D.length [sv x]=spRows (D++[x]) m:=by
 unfold spRows
 rw [List.set_append_right _ _ (by rw [List.length_map];exact Nat.le_refl _),List.length_map,Nat.sub_self,List.map_append,List.append_assoc];rfl
theorem spRows_clo (H:Heap) (D:List ByteArray) (m:Nat):∀ r∈spRows D m,∀ a∈r,Clo H a:=by
 intro r hr a ha
 rcases List.mem_append.1 hr with hr|hr
 ·obtain ⟨d,_,rfl⟩:=List.mem_map.1 hr
  obtain ⟨p,_,rfl⟩:=List.mem_map.1 ha
  simp
 rw [List.eq_of_mem_replicate hr,List.mem_singleton] at ha
 subst ha
 simp
theorem exL (s:ByteArray) (i j:Nat):(s.extract i j).data.toList=(s.data.toList.drop i).take (j - i):=by
 rw [ByteArray.data_extract,Array.toList_extract,List.extract_eq_take_drop]
theorem eqL {a b:ByteArray} (h:a.data.toList=b.data.toList):a=b:=by
 cases a;cases b;simp_all [Array.toList_inj]
theorem ofY_at {s:ByteArray} {w r:List UInt8} (h:s.data.toList=w++32::r):s.extract 0 w.length=ofY w∧(s.extract (w.length+1) s.size).data.toList=r:=by
 have hl:s.size=w.length+1+r.length:=by
  show s.data.size=_
  rw [← Array.length_toList,h,List.length_append,List.length_cons];omega
 constructor
 ·refine eqL ?_
  rw [exL,List.drop_zero,Nat.sub_zero,h,List.take_left]
  simp [ofY]
 rw [exL,h,hl,show w++32::r=(w++[32])++r by simp,show w.length+1=(w++[(32:UInt8)]).length by simp,List.drop_left]
 exact List.take_of_length_le (by omega)
theorem finY {H1:Heap} {id g n:Nat} {ob:Ob} (ps:List (List PV)) (hH:H1.get id=some ob) (hg:ob.g=g) (hps:ob.rows=ps.map (·.map .pv)) (hn:ps.length=n):Fin [] H1 (.osl id g 0 n) [] (.pv (.sl ps)):=by
 subst hg hn
 exact Fin.fz (id:=id) (ob:=ob) ps hH hps (.osl (by rw [Nat.zero_add,List.drop_zero,List.take_length])) rfl trivial trivial
theorem genSplit_c (s0:ByteArray) (H:Heap) (hs:s0.size < 1099511627776):ACalls Tryz.prog 131 [sv s0,sv sSp,iv 0,iv (-1)] H (fun r H'=>r=.pv (slStrs (splitS s0))∧H'=H):=by
 refine ACalls.pure ?_ (by simp) H
 obtain ⟨N,hN⟩:∃ N,N=s0.data.toList.count 32:=⟨_,rfl⟩
 have hNs:N≤s0.size:=by rw [hN];exact Nat.le_trans List.count_le_length (by simp)
 have hC:=fun H=>count_c s0 H
 rw [← hN] at hC
 have hlen:(splitC 32 s0.data.toList).length=N+1:=by rw [splitC_len,hN]
 refine Bd Tryz.func131 rfl Tryz.ntmps131<|Sq<|Rg<|Dd as'<|Zz<|Sq<|Sq<|Rg<|Dd mv'<|Dd eql'<|Zz ?_
 refine Cn (fun hc1=>?_) fun hc1=>?_
 ·cases hc1
 skip
 refine awp_skip<|Sq<|Sq<|Rg<|Dd mv'<|Dd se'<|Zz ?_
 refine Cn (fun hc2=>?_) fun hc2=>?_
 ·have:=of_decide_eq_true hc2
  cases this
 skip
 refine awp_skip<|Sq<|Sq<|Rg<|Dd mv'<|Dd lss'<|Zz ?_
 refine Cn (fun hc3=>?_) fun hc3=>?_
 ·skip
  refine Rg<|Dd mv'<|Dd mv'<|Dd (by exact opr_call rfl rfl Tryz.call176 rfl (hC _))<|Dd (by exact opd_add rfl rfl rfl (show IntKind.i64.wrap ((N:Int)+1)=((N+1:Nat):Int)by rw [IntKind.wrap_i64];omega))<|Dd as'<|Zz<|Sq<|Rg<|Dd mv'<|Dd mv'<|Dd (ls' Tryz.underlying9)<|Dd (by exact opd_add rfl rfl rfl (show IntKind.i64.wrap ((s0.size:Int)+1)=((s0.size+1:Nat):Int)by rw [IntKind.wrap_i64];omega))<|Dd (by exact opd_min (r:=((N+1:Nat):Int)) rfl rfl rfl (by omega))<|Dd as'<|Zz<|Sq<|Rg<|Dd mv'<|Dd (by exact x_makeSlice (id:=31) rfl so46 ei9 zo9 rfl rfl rfl (by omega) (by omega) (by exact Int.toNat_natCast _) (by exact Int.toNat_natCast _) (by omega) rfl)<|Dd as'<|Zz<|Sq<|Rg<|Dd mv'<|Dd (by exact opd_sub rfl rfl rfl (show IntKind.i64.wrap (((N+1:Nat):Int) - 1)=(N:Int)by rw [IntKind.wrap_i64];omega))<|Dd as'<|Zz<|Sq<|Rg<|Dd as'<|Zz<|Sq<|awp_block ?_
  refine awp_loop2 (fun(D:List ByteArray) (rest:ByteArray)=>([(0,sv rest),(1,sv sSp),(2,iv 0),(3,iv (N:Int)),(8,.pv (.sl [])),(9,.osl 31 0 0 (N+1)),(10,iv (D.length:Int))],[(31,⟨0,1,9,spRows D (N+1 - D.length)⟩)])) (fun D rest=>splitS s0=D++splitS rest∧rest.size≤s0.size) (fun D rest=>N - D.length) [] s0 ⟨rfl,Nat.le_refl _⟩ ?_ ?_
  ·exact(Ent.wk (Eb<|Eb<|Eb<|Eb<|Eb<|Ea<|Eb<|trivial) (Hc (spRows_clo _ _ _)<|trivial) trivial)
  rintro D rest ⟨hD,hr⟩
  have hln:D.length+(splitS rest).length=N+1:=by
   have:=congrArg List.length hD
   rw [List.length_append,splitS,List.length_map,hlen] at this
   exact this.symm
  have hpos:0 < (splitS rest).length:=by rw [splitS,List.length_map];exact splitC_pos _ _
  obtain ⟨m,hm⟩:∃ m,N+1 - D.length=m+1:=⟨N - D.length,by omega⟩
  have hI:=fun H=>index_c rest H
  rw [hm]
  rcases Nat.lt_or_ge D.length N with hlt|hge
  ·have h1:Lib.indexByte rest.data.toList 32 ≠ -1:=fun h=>by
    have h2:=splitC_free (index_free.1 h)
    rw [splitS,h2] at hln
    have:D.length+1=N+1:=hln
    omega
   obtain ⟨w,r,e1,e2,e3⟩:=index_at h1
   obtain ⟨x1,x2⟩:=ofY_at e1
   have hl:w.length+1+r.length=rest.size:=by rw [← show rest.data.toList.length=rest.size by simp,e1,List.length_append,List.length_cons];omega
   have hsp:splitS rest=rest.extract 0 w.length::splitS (rest.extract (w.length+1) rest.size):=by
    rw [splitS,e1,splitC_app e2,List.map_cons,x1,splitS,x2]
   simp only [e3] at hI
   refine Sq<|Sq<|Rg<|Dd mv'<|Dd mv'<|Dd lss'<|Zz ?_
   refine Cn (fun hc4=>?_) fun hc4=>?_
   ·skip
    refine awp_skip<|awp_block<|Sq<|Rg<|Dd mv'<|Dd mv'<|Dd (by exact opr_call rfl rfl Tryz.call177 rfl (hI _))<|Dd as'<|Zz<|Sq<|Sq<|Rg<|Dd mv'<|Dd lss'<|Zz ?_
    refine Cn (fun hc5=>?_) fun hc5=>?_
    ·have:=of_decide_eq_true hc5
     omega
    skip
    refine awp_skip<|Sq<|Rg<|Dd mv'<|Dd mv'<|Dd mv'<|Dd mv'<|Dd mv'<|Dd (by exact opd_add rfl rfl rfl (show IntKind.i64.wrap ((w.length:Int)+0)=(w.length:Int)by rw [IntKind.wrap_i64];omega))<|Dd (by exact opd_slice_str (l:=0) (h:=w.length) rfl Tryz.underlying9 rfl rfl rfl (by omega) (by omega) rfl)<|Dd (by exact x_index_osl rfl so46 rfl rfl rfl rfl rfl (by omega) (by exact Int.toNat_natCast _) (by omega) (Nat.zero_add _))<|Uu (by exact x_store1 rfl Tryz.sizeOf9 rfl rfl rfl rfl rfl (spRows_at D m) Nat.zero_lt_one rfl (spRows_set D m _))<|Zz<|Sq<|Rg<|Dd mv'<|Dd mv'<|Dd mv'<|Dd (ls' Tryz.underlying9)<|Dd (by exact opd_add rfl rfl rfl (show IntKind.i64.wrap ((w.length:Int)+1)=((w.length+1:Nat):Int)by rw [IntKind.wrap_i64];omega))<|Dd (by exact opd_slice_str (l:=(w.length+1)) (h:=rest.size) rfl Tryz.underlying9 rfl rfl rfl (by omega) (by omega) rfl)<|Dd as'<|Zz<|Rg<|Dd mv' ?_
    refine Dd (by exact opd_add rfl rfl rfl (show IntKind.i64.wrap ((D.length:Int)+1)=((D.length+1:Nat):Int)by rw [IntKind.wrap_i64];omega))<|Dd as'<|Zz ?_
    have e5:(D++[rest.extract 0 w.length]).length=D.length+1:=by simp
    have hsz:(rest.extract (w.length+1) rest.size).size≤s0.size:=by rw [← show (rest.extract (w.length+1) rest.size).data.toList.length=(rest.extract (w.length+1) rest.size).size by simp,x2];omega
    refine⟨D++[rest.extract 0 w.length],rest.extract (w.length+1) rest.size,⟨by rw [hD,hsp,List.append_assoc];rfl,hsz⟩,by rw [e5];omega,?_⟩
    rw [e5,show N+1 - (D.length+1)=m by omega]
    exact(Ent.wk (Eb<|Eb<|Eb<|Eb<|Eb<|Ea<|Eb<|trivial) (Hc (spRows_clo _ _ _)<|trivial) trivial)
   have:=of_decide_eq_false hc4
   omega
  have hDN:D.length=N:=by omega
  have hone:splitS rest=[rest]:=splitS_one (by omega)
  have hm0:m=0:=by omega
  subst hm0
  refine Sq<|Sq<|Rg<|Dd mv'<|Dd mv'<|Dd lss'<|Zz ?_
  refine Cn (fun hc6=>?_) fun hc6=>?_
  ·skip
   have:=of_decide_eq_true hc6
   omega
  skip
  refine awp_exit<|Sq<|Rg<|Dd mv'<|Dd mv'<|Dd mv'<|Dd (by exact x_index_osl rfl so46 rfl rfl rfl rfl rfl (by omega) (by exact Int.toNat_natCast _) (by omega) (Nat.zero_add _))<|Uu (by exact x_store1 rfl Tryz.sizeOf9 rfl rfl rfl rfl rfl (spRows_at D 0) Nat.zero_lt_one rfl (spRows_set D 0 _))<|Zz<|Sq<|Rg<|Dd mv'<|Dd mv'<|Dd (by exact opd_add rfl rfl rfl (show IntKind.i64.wrap ((D.length:Int)+1)=((D.length+1:Nat):Int)by rw [IntKind.wrap_i64];omega))<|Dd (by exact x_slice_osl (l:=0) (h:=(D.length+1)) rfl so46 rfl rfl rfl rfl rfl rfl (by omega) (by omega) rfl rfl)<|Dd as'<|Zz<|awp_ret ?_
  have hps:(D++[rest]).map encStr=(splitS s0).map encStr:=by rw [hD,hone]
  refine aret1 (H':=[]) (.inr rfl) rfl (rval_tmp rfl) (finY (id:=31) ((D++[rest]).map encStr) rfl rfl (by show spRows (D++[rest]) 0=_;rw [spRows,List.replicate_zero,List.append_nil,List.map_map];rfl) (by simp)) ⟨?_,rfl⟩
  rw [slStrs,hps]
 cases hc3
theorem splitSp_c (s:ByteArray) (H:Heap) (hs:s.size < 1099511627776):ACalls Tryz.prog 79 [sv s,sv sSp] H (fun r H'=>r=.pv (slStrs (splitS s))∧H'=H):=by
 refine ACalls.pure ?_ (by simp) H
 refine Bd Tryz.func79 rfl Tryz.ntmps79<|Sq<|Rg<|Dd as'<|Zz<|Sq<|Rg<|Dd mv'<|Dd mv'<|Dd (by exact opr_call rfl rfl Tryz.call131 rfl (genSplit_c s _ hs))<|Dd as'<|Zz<|awp_ret ?_
 refine Rt ?_
 exact⟨rfl,rfl⟩
end
section
/-- The first line of a text, and what follows. -/
def lineA (t:ByteArray):ByteArray:=if Lib.indexByte t.data.toList 10 = -1 then t else t.extract 0 ((Lib.indexByte t.data.toList 10).toNat+1)
def nextA (t:ByteArray):ByteArray:=if Lib.indexByte t.data.toList 10 = -1 then⟨#[]⟩else t.extract ((Lib.indexByte t.data.toList 10).toNat+1) t.size
def restA (s:ByteArray):Nat→ByteArray
 | 0=>s
 | k+1=>nextA (restA s k)
def linesS (s:ByteArray):List ByteArray:=(linesC s.data.toList).map ofY
theorem ofY_self (s:ByteArray):ofY s.data.toList=s:=eqL (by simp [ofY])
theorem szY (s:ByteArray):s.data.toList.length=s.size:=by simp
theorem ix_at {t:ByteArray} (h:Lib.indexByte t.data.toList 10 ≠ -1):∃ w r,t.data.toList=w++10::r∧(10:UInt8)∉w∧Lib.indexByte t.data.toList 10=(w.length:Int)∧t.extract 0 (w.length+1)=ofY (w++[10])∧(t.extract (w.length+1) t.size).data.toList=r∧w.length+1+r.length=t.size:=by
 obtain ⟨w,r,e1,e2,e3⟩:=index_at h
 have hl:w.length+1+r.length=t.size:=by rw [← szY,e1,List.length_append,List.length_cons];omega
 have e4:t.data.toList=(w++[10])++r:=by rw [e1];simp
 refine⟨w,r,e1,e2,e3,eqL ?_,?_,hl⟩
 ·rw [exL,List.drop_zero,Nat.sub_zero,e4,show w.length+1=(w++[(10:UInt8)]).length by simp,List.take_left]
  simp [ofY]
 rw [exL,e4,show w.length+1=(w++[(10:UInt8)]).length by simp,List.drop_left]
 exact List.take_of_length_le (by rw [List.length_append,List.length_singleton];omega)
theorem lines_nil {t:ByteArray} (h:¬ 0 < t.size):linesS t=[]:=by
 have:t.data.toList=[]:=List.length_eq_zero_iff.1 (by rw [szY];omega)
 rw [linesS,this];rfl
theorem lines_cons {t:ByteArray} (h:0 < t.size):linesS t=lineA t::linesS (nextA t)∧(nextA t).size≤t.size:=by
 rw [lineA,nextA]
 by_cases h1:Lib.indexByte t.data.toList 10 = -1
 ·rw [if_pos h1,if_pos h1]
  refine⟨?_,Nat.zero_le _⟩
  rw [linesS,linesC_free (index_free.1 h1) (fun e=>by rw [← szY,e] at h;exact absurd h (Nat.lt_irrefl 0))]
  show [ofY t.data.toList]=_
  rw [ofY_self]
  rfl
 rw [if_neg h1,if_neg h1]
 obtain ⟨w,r,e1,e2,e3,e4,e5,e6⟩:=ix_at h1
 rw [e3,Int.toNat_natCast,e4]
 refine⟨?_,by rw [← szY,e5];omega⟩
 rw [linesS,e1,linesC_app e2,List.map_cons,linesS,e5]
theorem rest_drop (s:ByteArray):∀ k,k≤(linesS s).length→linesS (restA s k)=(linesS s).drop k∧(restA s k).size≤s.size
 | 0,_=>⟨rfl,Nat.le_refl _⟩
 | k+1,h=>by
  obtain ⟨i1,i2⟩:=rest_drop s k (Nat.le_of_succ_le h)
  have hp:0 < (restA s k).size:=by
   rcases Nat.lt_or_ge 0 (restA s k).size with h1|h1
   ·exact h1
   have h2:=lines_nil (t:=restA s k) (by omega)
   rw [h2] at i1
   have:=congrArg List.length i1
   rw [List.length_drop,List.length_nil] at this
   omega
  obtain ⟨j1,j2⟩:=lines_cons hp
  rw [j1] at i1
  refine⟨?_,Nat.le_trans j2 i2⟩
  show linesS (nextA (restA s k))=_
  have:=congrArg List.tail i1
  rw [List.tail_cons,List.tail_drop] at this
  exact this
theorem line_at {s:ByteArray} {k:Nat} (h:k < (linesS s).length):(linesS s)[k]?=some (lineA (restA s k))∧0 < (restA s k).size:=by
 obtain ⟨i1,i2⟩:=rest_drop s k (Nat.le_of_lt h)
 have hp:0 < (restA s k).size:=by
  rcases Nat.lt_or_ge 0 (restA s k).size with h1|h1
  ·exact h1
  have h2:=lines_nil (t:=restA s k) (by omega)
  rw [h2] at i1
  have:=congrArg List.length i1
  rw [List.length_drop,List.length_nil] at this
  omega
 refine⟨?_,hp⟩
 rw [(lines_cons hp).1] at i1
 have:=congrArg List.head? i1
 rw [List.head?_cons,List.head?_drop] at this
 exact this.symm
def lB (s:ByteArray):Ob:=bx 1 9 [sv s]
theorem lines_c (s:ByteArray) (H:Heap) (h1:H.get 933=none):ACalls Tryz.prog 37 [sv s] H (fun r H'=>r=.clo 77 [.ref 933 0 0 0]∧H'=(933,lB s)::H):=by
 refine Bd Tryz.func37 rfl Tryz.ntmps37<|Sq<|Rg<|Dd (by exact opd_box (id:=933) rfl rfl rfl rfl h1)<|Dd as'<|Zz<|Sq<|Rg<|Dd (by exact opd_makeFunc rfl rfl)<|Dd as'<|Zz<|awp_ret ?_
 refine aret1 (H':=((933,lB s)::H)) (.inr rfl) rfl (rval_tmp rfl) Fin.refl ?_
 exact⟨rfl,rfl⟩
theorem lines1_c (s:ByteArray) (fv:AV) (Hs:Nat→Heap) (hs:s.size < 1099511627776) (h1:∀ k,(Hs k).get 933=some (lB (restA s k)))
  (hy:∀ k,k < (linesS s).length→CallsV Tryz.prog fv [sv (lineA (restA s k))] ((933,lB (restA s (k+1)))::Hs k) (fun r H'=>r=bv true∧H'=Hs (k+1))) :
  ACalls Tryz.prog 77 [fv,.ref 933 0 0 0] (Hs 0) (fun r H'=>r=.tup []∧H'=Hs (linesS s).length):=by
 refine Bd Tryz.func77 rfl Tryz.ntmps77<|awp_block ?_
 refine awp_loop (σ:=Nat) (fun k=>([(0,fv),(1,.ref 933 0 0 0)],Hs k)) (fun k=>k≤(linesS s).length) (fun k=>(linesS s).length - k) 0 (Nat.zero_le _) ?_ ?_
 ·exact E0
 rintro k hk
 obtain ⟨i1,i2⟩:=rest_drop s k hk
 have hI:=fun H=>indexByte_c (restA s k) 10 H
 have hnx:restA s (k+1)=nextA (restA s k):=rfl
 refine Sq<|Sq<|Rg<|Dd (by exact opd_load1_ref rfl Tryz.isAgg9 rfl (h1 k) rfl rfl rfl)<|Dd (ls' Tryz.underlying9)<|Dd gt'<|Zz ?_
 refine Cn (fun hc1=>?_) fun hc1=>?_
 ·have hp:0 < (restA s k).size:=by have:=of_decide_eq_true hc1;omega
  have hlt:k < (linesS s).length:=by
   rcases Nat.lt_or_ge k (linesS s).length with h|h
   ·exact h
   rw [(lines_cons hp).1,List.drop_eq_nil_of_le h] at i1;cases i1
  have hyk:=hy k hlt
  rw [hnx,nextA,lineA] at hyk
  rcases Classical.em (Lib.indexByte (restA s k).data.toList 10 = -1)with e0|e0
  ·rw [if_pos e0,if_pos e0] at hyk
   have hI2:∀ H,ACalls Tryz.prog 78 [sv (restA s k),.pv (.int .u8 10)] H (fun r H'=>r=iv (-1)∧H'=H):=fun H=>by
    have:=hI H
    rwa [show Lib.indexByte (restA s k).data.toList ((10:Int).toNat.toUInt8) = -1 from e0] at this
   refine awp_skip<|awp_block<|Sq<|Rg<|Dd as'<|Zz<|Sq<|Sq<|Rg<|Dd (by exact opd_load1_ref rfl Tryz.isAgg9 rfl (h1 k) rfl rfl rfl)<|Dd (by exact opr_call rfl rfl Tryz.call78 rfl (hI2 _))<|Dd as'<|Zz<|Sq<|Rg<|Dd mv'<|Dd ge'<|Zz ?_
   refine Cn (fun hc2=>?_) fun hc2=>?_
   ·cases hc2
   skip
   refine Rg<|Dd (by exact opd_load1_ref rfl Tryz.isAgg9 rfl (h1 k) rfl rfl rfl)<|Dd as'<|Uu (by exact x_store_all rfl Tryz.sizeOf9 rfl rfl rfl rfl (h1 k) rfl rfl rfl)<|Zz<|Sq<|Rg<|Dd mv'<|Dd mv'<|Dd (by exact opr_callV rfl rfl rfl (hyk))<|Dd no'<|Zz ?_
   refine Cn (fun hc3=>?_) fun hc3=>?_
   ·cases hc3
   skip
   refine awp_skip ?_
   exact⟨k+1,by omega,by omega,E0⟩
  rw [if_neg e0,if_neg e0] at hyk
  obtain ⟨w,r,e1,e2,e3,e4,e5,e6⟩:=ix_at e0
  rw [e3,Int.toNat_natCast] at hyk
  have hI2:∀ H,ACalls Tryz.prog 78 [sv (restA s k),.pv (.int .u8 10)] H (fun r H'=>r=iv (w.length:Int)∧H'=H):=fun H=>by
   have:=hI H
   rwa [show Lib.indexByte (restA s k).data.toList ((10:Int).toNat.toUInt8)=(w.length:Int)from e3] at this
  refine awp_skip<|awp_block<|Sq<|Rg<|Dd as'<|Zz<|Sq<|Sq<|Rg<|Dd (by exact opd_load1_ref rfl Tryz.isAgg9 rfl (h1 k) rfl rfl rfl)<|Dd (by exact opr_call rfl rfl Tryz.call78 rfl (hI2 _))<|Dd as'<|Zz<|Sq<|Rg<|Dd mv'<|Dd ge'<|Zz ?_
  refine Cn (fun hc4=>?_) fun hc4=>?_
  ·skip
   refine awp_drawc follows ?_
   refine Cr [933] (fun H1 hH=>by exact opd_load1_ref rfl Tryz.isAgg9 rfl ((hH _ rfl).trans (h1 k)) rfl rfl rfl)<|Cr [] (fun _ _=>mv')<|Cr [] (fun H1 hH=>by exact opd_add rfl rfl rfl (show IntKind.i64.wrap ((w.length:Int)+1)=((w.length+1:Nat):Int)by rw [IntKind.wrap_i64];omega))<|Cr [] (fun H1 hH=>by exact opd_slice_str (l:=0) (h:=(w.length+1)) rfl Tryz.underlying9 rfl rfl rfl (by omega) (by omega) rfl)<|Cr [933] (fun H1 hH=>by exact opd_load1_ref rfl Tryz.isAgg9 rfl ((hH _ rfl).trans (h1 k)) rfl rfl rfl)<|Cr [] (fun _ _=>mv')<|Cr [] (fun H1 hH=>by exact opd_add rfl rfl rfl (show IntKind.i64.wrap ((w.length:Int)+1)=((w.length+1:Nat):Int)by rw [IntKind.wrap_i64];omega))<|Cr [] (fun H1 hH=>by exact opd_slice_str (l:=(w.length+1)) (h:=(restA s k).size) rfl Tryz.underlying9 rfl rfl rfl (by omega) (by omega) rfl)<|Cr [] (fun _ _=>as')<|Cp [933] (fun H1 hH=>by exact x_store_all rfl Tryz.sizeOf9 rfl rfl rfl rfl ((hH _ rfl).trans (h1 k)) rfl rfl rfl) ?_
   refine dc_nil ⟨by kernel_rfl,?_⟩
   refine Sq<|Rg<|Dd mv'<|Dd mv'<|Dd (by exact opr_callV rfl rfl rfl (hyk))<|Dd no'<|Zz ?_
   refine Cn (fun hc5=>?_) fun hc5=>?_
   ·cases hc5
   skip
   refine awp_skip ?_
   exact⟨k+1,by omega,by omega,E0⟩
  skip
  have:=of_decide_eq_false hc4
  omega
 have hn:¬ 0 < (restA s k).size:=by have:=of_decide_eq_false hc1;omega
 have hge:k=(linesS s).length:=by
  rw [lines_nil hn] at i1
  have:=congrArg List.length i1
  rw [List.length_nil,List.length_drop] at this
  omega
 subst hge
 refine awp_exit ?_
 exact aret0 (H':=Hs (linesS s).length) (.inl rfl) rfl Fin.refl ⟨rfl,rfl⟩
end
end Go.Proofs.YtlnfjkdacimblaaGreatDoor
namespace Go.Abs
section
/-- A slot's box is frozen. -/
theorem Ent.fzP {G0:Heap} {E E':Env} {H H':Heap} {id g t:Nat} {ob:Ob} (row:List PV) (ht:E.get t=some (.ref id g 0 0)) (hH:H.get id=some ob) (hg:ob.g=g) (hrow:ob.rows=[row.map .pv]) (hz:ob.sz=row.length) (h0:0 < row.length)
  (hE:∀ p∈E',p=(t,.pad [row] 0 0)∨(E.get p.1=some p.2∧Clo H' p.2)) (hno:H'.get id=none) (hs:Sub H' H) (hc:Closed H') (hk:Kept G0 H' H):Ent G0 E H E' H':=by
 intro G hG N a w hst
 obtain ⟨I,ι,hr,hs',he⟩:=hst.rel
 subst hG
 refine⟨hst.defers,hst.size,_,ι,hr.freeze hs hc hH hno,hs'.freeze hs hk hH,fun u v hu=>?_⟩
 rcases hE _ (mem_of_get hu)with e|⟨e1,e2⟩
 ·obtain ⟨rfl,rfl⟩:=Prod.mk.inj e
  obtain ⟨c,hc1,hv⟩:=he _ _ ht
  refine⟨c,hc1,?_⟩
  obtain ⟨b,cap,h1,h2⟩:=ref_ptr hv hH hg
  obtain ⟨p1,p2,⟨b',cap',cs,f1,f2,f3,f4,f5,f5',f6⟩|⟨f1,_⟩⟩:=(hr.obj id ob hH).cells (by omega)
  rotate_left
  ·rw [h1] at f1;cases f1
  rw [h1] at f1;cases f1
  have hcells:∀ (i:Nat) (r:List PV),[row][i]?=some r→∀ (k:Nat) (p:PV),r[k]?=some p→∃ u,cs[i*ob.sz+k]?=some u∧VRel w I ι H u (.pv p):=fun i r hi k p hk=>by
   cases i with
   | succ i=>simp at hi
   | zero =>
    obtain rfl:row=r:=by simpa using hi
    obtain ⟨u,q1,_,q3⟩:=f6 0 (row.map .pv) (by rw [hrow];rfl) k (.pv p) (by rw [List.getElem?_map,hk];rfl)
    exact⟨u,q1,q3⟩
  have hI:ImmPlus I ι id b:=.inr ⟨cap,h1⟩
  have hlen:∀ r∈[row],r.length=ob.sz:=fun r hr'=>by rw [List.mem_singleton] at hr';rw [hr',hz]
  have hcell:∀ (i:Nat) (r:List PV),[row][i]?=some r→∀ (k:Nat) (p:PV),r[k]?=some p→w.cell? ⟨b,0+i*ob.sz+k,none⟩=some ((cs[i*ob.sz+k]?).getD undef):=fun i r hi k p hk=>by
   obtain ⟨u,q1,_⟩:=hcells i r hi k p hk
   rw [Nat.zero_add,cell_of_row w b _ cs ob.ty (0,0) f2,q1]
   rfl
  have hrep:∀ (i:Nat) (r:List PV),[row][i]?=some r→∀ (k:Nat) (p:PV),r[k]?=some p→PRep w (ImmPlus I ι id) ((cs[i*ob.sz+k]?).getD undef) p:=fun i r hi k p hk=>by
   obtain ⟨u,q1,q2⟩:=hcells i r hi k p hk
   rw [q1]
   exact q2.pv_inv.mono (fun _ _=>rfl) (fun _ h=>.inl h)
  have hsl:PRep w (ImmPlus I ι id) (.slice (some ⟨b,0,none⟩) [row].length cap) (.sl [row]) :=
   .sl b 0 cap ob.sz [row] (fun i k=>(cs[i*ob.sz+k]?).getD undef) hI (by omega) hlen (by rw [hrow] at f5;simpa using f5) hcell hrep
  have e:c=.pointer (some ⟨b,0+0*ob.sz+0,none⟩):=by rw [h2];simp
  rw [e]
  exact .pad b 0 cap ob.sz hsl (by omega) hlen (fun i k=>(cs[i*ob.sz+k]?).getD undef) hI hcell hrep
 obtain ⟨c,hc1,hv⟩:=he _ _ e1
 exact⟨c,hc1,(hv.restrict hs e2).mono' (fun _ _=>rfl) (fun _ h=>.inl h) (fun _ o h=>⟨o,h,Nat.le_refl _,fun _=>⟨rfl,rfl,fun _=>Nat.le_refl _⟩⟩)⟩
end
end Go.Abs
namespace Go.Proofs.YtlnfjkdacimblaaGreatDoor
open Go.Abs
section
def zOf (d:Bool) (z:Nat):Int:=if d then 2 - (z:Int)else(z:Int)
theorem zs_get (d:Bool):∀ z,z < 3→(zs d)[z]?=some (zOf d z)
 | 0,_=>by cases d<;>rfl
 | 1,_=>by cases d<;>rfl
 | 2,_=>by cases d<;>rfl
theorem zs_len (d:Bool):(zs d).length=3:=by cases d<;>rfl
def inZ (d:Bool) (z:Nat) (o:GObj):Bool:=decide (o.kind.tdiv 2=zOf d z)
def layY (m:List GObj) (d:Bool) (z:Nat):List GObj:=((zs d).take z).flatMap fun z=>m.filter fun o=>decide (o.kind.tdiv 2=z)
def layK (m:List GObj) (d:Bool) (z i:Nat):Nat:=(layY m d z).length+((m.take i).filter (inZ d z)).length
theorem layY_succ (m:List GObj) (d:Bool) {z:Nat} (h:z < 3):layY m d (z+1)=layY m d z++m.filter (inZ d z):=by
 rw [layY,List.take_add_one,zs_get d z h,Option.toList_some,List.flatMap_append,layY,List.flatMap_cons,List.flatMap_nil,List.append_nil]
 rfl
theorem layY_all (m:List GObj) (d:Bool):layY m d 3=layL m d:=by
 rw [layY,List.take_of_length_le (by rw [zs_len];exact Nat.le_refl _)]
 rfl
theorem layY_pre (m:List GObj) (d:Bool):∀ n z,z+n=3→∃ r,layL m d=layY m d z++r
 | 0,z,h=>⟨[],by rw [List.append_nil,← layY_all];congr 1;omega⟩
 | n+1,z,h=>by
  obtain ⟨r,hr⟩:=layY_pre m d n (z+1) (by omega)
  exact⟨m.filter (inZ d z)++r,by rw [hr,layY_succ m d (by omega),List.append_assoc]⟩
theorem filter_at {m:List GObj} {p:GObj→Bool} {i:Nat} {o:GObj} (h:m[i]?=some o) (hp:p o=true):(m.filter p)[((m.take i).filter p).length]?=some o:=by
 have hi:=(List.getElem?_eq_some_iff.1 h).1
 have e:m=m.take i++o::m.drop (i+1):=by
  have h2:=List.take_append_drop i m
  rw [List.drop_eq_getElem_cons hi] at h2
  rw [List.getElem?_eq_getElem hi] at h
  rw [Option.some.inj h] at h2
  exact h2.symm
 have e2:m.filter p=(m.take i).filter p++o::(m.drop (i+1)).filter p:=by
  rw [e,List.filter_append,List.filter_cons_of_pos hp,← e]
 rw [e2,List.getElem?_append_right (Nat.le_refl _),Nat.sub_self]
 rfl
theorem lay_at {m:List GObj} {d:Bool} {z i:Nat} {o:GObj} (hz:z < 3) (h:m[i]?=some o) (hp:inZ d z o=true):(layL m d)[layK m d z i]?=some o:=by
 obtain ⟨r,hr⟩:=layY_pre m d (2 - z) (z+1) (by omega)
 have hf:=filter_at h hp
 have hl:=(List.getElem?_eq_some_iff.1 hf).1
 rw [hr,layY_succ m d hz,layK,List.append_assoc,List.getElem?_append_right (Nat.le_add_right _ _),Nat.add_sub_cancel_left,List.getElem?_append_left hl]
 exact hf
theorem layK_yes {m:List GObj} {d:Bool} {z i:Nat} {o:GObj} (h:m[i]?=some o) (hp:inZ d z o=true):layK m d z (i+1)=layK m d z i+1:=by
 rw [layK,List.take_add_one,h,Option.toList_some,List.filter_append,List.filter_cons_of_pos hp,List.length_append]
 show _+(_+1)=_
 rw [layK];omega
theorem layK_no {m:List GObj} {d:Bool} {z i:Nat} {o:GObj} (h:m[i]?=some o) (hp:inZ d z o=false):layK m d z (i+1)=layK m d z i:=by
 rw [layK,List.take_add_one,h,Option.toList_some,List.filter_append,List.filter_cons_of_neg (by rw [hp];decide),List.length_append]
 show _+(_+0)=_
 rw [layK];omega
theorem layK_end (m:List GObj) (d:Bool) {z:Nat} (hz:z < 3):layK m d z m.length=layK m d (z+1) 0:=by
 rw [layK,List.take_length,layK,layY_succ m d hz,List.length_append,List.take_zero]
 rfl
theorem layK_all (m:List GObj) (d:Bool):layK m d 3 0=(layL m d).length:=by
 rw [layK,layY_all,List.take_zero]
 rfl
def dB (d:Bool):Ob:=bx 1 4 [bv d]
def mB (m:List GObj):Ob:=bx 1 38 [.pv (slObjs m)]
theorem dB_clo (H:Heap) (d:Bool):∀ r∈(dB d).rows,∀ a∈r,Clo H a:=by
 intro r hr a ha
 simp only [dB,bx,List.mem_singleton] at hr
 subst hr
 rw [List.mem_singleton] at ha
 subst ha
 simp
theorem mB_clo (H:Heap) (m:List GObj):∀ r∈(mB m).rows,∀ a∈r,Clo H a:=by
 intro r hr a ha
 simp only [mB,bx,List.mem_singleton] at hr
 subst hr
 rw [List.mem_singleton] at ha
 subst ha
 simp
theorem layers_c (m:List GObj) (d:Bool) (H:Heap) (h1:H.get 931=none) (h2:H.get 932=none):ACalls Tryz.prog 53 [.agg [.pv (slObjs m)],bv d] H (fun r H'=>r=.clo 103 [.ref 932 0 0 0,.ref 931 0 0 0]∧H'=(932,dB d)::(931,mB m)::H):=by
 have h2':Heap.get ((931,mB m)::H) 932=none:=h2
 refine Bd Tryz.func53 rfl Tryz.ntmps53<|Sq<|Rg<|Dd (by exact opd_box (id:=931) rfl rfl rfl rfl h1)<|Dd (by exact opd_box (id:=932) rfl rfl rfl rfl h2')<|Dd as'<|Zz<|Sq<|Rg<|Dd (by exact opd_makeFunc rfl rfl)<|Dd as'<|Zz<|awp_ret ?_
 refine aret1 (H':=((932,dB d)::(931,mB m)::H)) (.inr rfl) rfl (rval_tmp rfl) Fin.refl ?_
 exact⟨rfl,rfl⟩
theorem kd_wrap {k:Int} (h1:1≤k) (h2:k≤5):IntKind.i64.wrap (k.tdiv 2)=k.tdiv 2:=by
 have h3:k=1∨k=2∨k=3∨k=4∨k=5:=by omega
 rcases h3 with e|e|e|e|e<;>rw [e]<;>decide
theorem sub_934 {K:Heap} {o1 o2:Ob} (h:K.get 934=none):Sub K ((934,o1)::(934,o2)::K):=fun id o e=>by
 by_cases h1:id=934
 ·subst h1;rw [h] at e;cases e
 rw [get_cons_other _ _ h1,get_cons_other _ _ h1];exact e
theorem kept_934 {G K:Heap} {o1 o2:Ob} (h:G.get 934=none):Kept G K ((934,o1)::(934,o2)::K):=fun id e=>by
 by_cases h1:id=934
 ·subst h1;rw [h] at e;cases e
 rw [get_cons_other _ _ h1,get_cons_other _ _ h1]
theorem layers1_c (m:List GObj) (d:Bool) (fv:AV) (Hs:Nat→Heap) (hm:m.length < 1099511627776) (hk:∀ o∈m,1≤o.kind∧o.kind≤5) (h1:∀ k,(Hs k).get 931=some (mB m)) (h2:∀ k,(Hs k).get 932=some (dB d)) (h3:∀ k,(Hs k).get 934=none) (hcl:∀ k,Closed (Hs k))
  (hfv:∀ k,Clo (Hs k) fv)
  (hy:∀ k o,(layL m d)[k]?=some o→CallsV Tryz.prog fv [av (encObj o)] (Hs k) (fun r H'=>r=bv true∧H'=Hs (k+1))) :
  ACalls Tryz.prog 103 [fv,.ref 932 0 0 0,.ref 931 0 0 0] (Hs 0) (fun r H'=>r=.tup []∧H'=Hs (layL m d).length):=by
 have hml:(m.map encObj).length=m.length:=List.length_map _
 refine Bd Tryz.func103 rfl Tryz.ntmps103<|Sq<|Rg<|Dd mv'<|Zz<|awp_block ?_
 refine awp_loop (σ:=Nat) (fun z=>([(0,fv),(1,.ref 932 0 0 0),(2,.ref 931 0 0 0),(7,iv (z:Int))],Hs (layK m d z 0))) (fun z=>z≤3) (fun z=>3 - z) 0 (by omega) ?_ ?_
 ·exact E0
 rintro z hz
 refine Sq<|Rg<|Dd lss'<|Zz<|Sq ?_
 refine Cn (fun hc1=>?_) fun hc1=>?_
 ·skip
  have hz3:z < 3:=by have:=of_decide_eq_true hc1;omega
  refine awp_skip<|Sq<|awp_block<|Sq<|Rg<|Dd mv'<|Dd as'<|Zz ?_
  refine awp_seq_ex (fun(_:Unit)=>([(0,fv),(1,.ref 932 0 0 0),(2,.ref 931 0 0 0),(7,iv (z:Int)),(4,iv (zOf d z))],Hs (layK m d z 0))) (fun _=>True) ?_ ?_
  ·skip
   refine Sq<|Rg<|Dd (by exact opd_load1_ref rfl Tryz.isAgg4 rfl (h2 _) rfl rfl rfl)<|Zz ?_
   refine Cn (fun hc2=>?_) fun hc2=>?_
   ·skip
    have hd:d=true:=hc2
    refine Rg<|Dd mv'<|Dd (by exact opd_sub rfl rfl rfl (show IntKind.i64.wrap (2 - (z:Int))=zOf d z by rw [IntKind.wrap_i64,zOf,if_pos hd];omega))<|Dd as'<|Zz ?_
    exact⟨(),trivial,E0⟩
   skip
   have hd:d=false:=hc2
   have e:zOf d z=(z:Int):=by rw [zOf,if_neg (by rw [hd];decide)]
   rw [e]
   refine awp_skip ?_
   exact⟨(),trivial,E0⟩
  rintro _ _
  refine Sq<|Rg<|Dd (by exact opd_field_ref rfl fo38_0 rfl (h1 _) rfl rfl)<|Dd (by exact opd_load1_ref rfl Tryz.isAgg36 rfl (h1 _) rfl rfl rfl)<|Dd (ll' Tryz.underlying36)<|Dd mv'<|Zz<|awp_block ?_
  refine awp_loop (σ:=Nat) (fun i=>([(0,fv),(1,.ref 932 0 0 0),(2,.ref 931 0 0 0),(7,iv (z:Int)),(4,iv (zOf d z)),(14,.pv (slObjs m)),(15,iv ((m.map encObj).length:Int)),(16,iv (i:Int))],Hs (layK m d z i))) (fun i=>i≤m.length) (fun i=>m.length - i) 0 (Nat.zero_le _) ?_ ?_
  ·exact E0
  rintro i hi
  refine Sq<|Rg<|Dd lss'<|Zz<|Sq ?_
  refine Cn (fun hc3=>?_) fun hc3=>?_
  ·skip
   have hlt:i < m.length:=by have:=of_decide_eq_true hc3;omega
   obtain ⟨o,ho⟩:=get_of_lt hlt
   have hio:=map_get (f:=encObj) ho
   obtain ⟨hk1,hk5⟩:=hk o (List.mem_of_getElem? ho)
   refine awp_skip<|Sq<|awp_block<|Sq<|Rg<|Dd (xp' so36)<|Dd (by exact opd_loadn_pad rfl Tryz.isAgg49 Tryz.sizeOf49 rfl (by omega) (by simp only [Zl,encTag,encObj,encStr,encEdit,encInt];rfl) rfl)<|Dd (by exact x_alloc (id:=934) rfl zo49 rfl (h3 _))<|Uu (sa' Tryz.sizeOf49)<|Zz<|Sq ?_
   refine AWp.ent (Ent.fzP (t:=6) (id:=934) (E':=[(6,.pad [encObj o] 0 0),(0,fv),(1,.ref 932 0 0 0),(2,.ref 931 0 0 0),(7,iv (z:Int)),(4,iv (zOf d z)),(14,.pv (slObjs m)),(15,iv ((m.map encObj).length:Int)),(16,iv (i:Int))]) (H':=Hs (layK m d z i)) (encObj o) rfl rfl rfl rfl rfl (Nat.zero_lt_succ _) ?_ (h3 _) (sub_934 (h3 _)) (hcl _) (kept_934 (h3 0))) ?_
   ·intro p hp
    simp only [List.mem_cons,List.not_mem_nil,or_false] at hp
    rcases hp with rfl|rfl|rfl|rfl|rfl|rfl|rfl|rfl|rfl
    ·exact .inl rfl
    ·exact .inr ⟨rfl,hfv _⟩
    ·exact .inr ⟨rfl,.ref (by rw [h2];rfl)⟩
    ·exact .inr ⟨rfl,.ref (by rw [h1];rfl)⟩
    ·exact .inr ⟨rfl,.pv _⟩
    ·exact .inr ⟨rfl,.pv _⟩
    ·exact .inr ⟨rfl,.pv _⟩
    ·exact .inr ⟨rfl,.pv _⟩
    exact .inr ⟨rfl,.pv _⟩
   skip
   cases hz:inZ d z o with
   | true =>
    have hz':decide (o.kind.tdiv 2=zOf d z)=true:=hz
    refine Rg<|Dd (fp' fo49_1)<|Dd (lp' Tryz.isAgg3 (hi:=rfl))<|Dd (by exact opd_quo rfl rfl rfl (by decide) (kd_wrap hk1 hk5))<|Dd mv'<|Dd eql'<|Dd mv' ?_
    refine al_ond rfl rfl rfl (by assumption) rfl rfl (by exact opd_move rfl rfl) ?_
    refine al_ond rfl rfl rfl (by assumption) rfl rfl (by exact opd_loadn_pad rfl Tryz.isAgg49 Tryz.sizeOf49 rfl rfl (by simp only [Zl,encTag,encObj,encStr,encEdit,encInt];rfl) rfl) ?_
    refine al_ond rfl rfl rfl (by assumption) rfl rfl (by exact opr_callV rfl rfl rfl (hy (layK m d z i) o (lay_at hz3 ho hz))) ?_
    refine al_ond rfl rfl rfl (by assumption) rfl rfl (by exact opd_not rfl rfl) ?_
    refine Dd pt'<|Zz ?_
    refine Cn (fun hc4=>?_) fun hc4=>?_
    ·skip
     cases hc4
    skip
    refine awp_skip<|Rg<|Dd ad'<|Dd mv'<|Zz ?_
    refine⟨i+1,by omega,by omega,?_⟩
    rw [layK_yes ho hz]
    exact E0
   | false =>
    have hz':decide (o.kind.tdiv 2=zOf d z)=false:=hz
    refine Rg<|Dd (fp' fo49_1)<|Dd (lp' Tryz.isAgg3 (hi:=rfl))<|Dd (by exact opd_quo rfl rfl rfl (by decide) (kd_wrap hk1 hk5))<|Dd mv'<|Dd eql'<|Dd mv' ?_
    refine al_off rfl rfl rfl (by assumption) rfl ?_
    refine al_off rfl rfl rfl (by assumption) rfl ?_
    refine al_off rfl rfl rfl (by assumption) rfl ?_
    refine al_off rfl rfl rfl (by assumption) rfl ?_
    refine Dd pf'<|Zz ?_
    refine Cn (fun hc5=>?_) fun hc5=>?_
    ·skip
     cases hc5
    skip
    refine awp_skip<|Rg<|Dd ad'<|Dd mv'<|Zz ?_
    refine⟨i+1,by omega,by omega,?_⟩
    rw [layK_no ho hz]
    exact E0
  skip
  have hge:i=m.length:=by have:=of_decide_eq_false hc3;omega
  subst hge
  rw [layK_end m d hz3]
  refine awp_exit<|Rg<|Dd ad'<|Dd mv'<|Zz ?_
  exact⟨z+1,by omega,by omega,E0⟩
 skip
 have hge:z=3:=by have:=of_decide_eq_false hc1;omega
 subst hge
 rw [← layK_all]
 refine awp_exit ?_
 exact aret0 (H':=Hs (layK m d 3 0)) (.inl rfl) rfl Fin.refl ⟨rfl,rfl⟩
end
section
def rnE:Env:=[(2,.ref 2 0 0 0),(3,.ref 3 0 0 0),(5,.ref 5 0 0 0)]
def rnB0:Ob:=bx 1 89 [.mp 10 0]
def rnH (a b:List GObj) (X:List ByteArray):Heap:=[(10,sob X),(5,bx 1 89 [.mp 10 0]),(932,dB false),(931,mB a),(3,mB b),(2,mB a)]
theorem any_range (l:List ByteArray) (q:ByteArray→Bool):(List.range l.length).any (fun k=>((l[k]?).map q).getD false)=l.any q:=by
 rw [Bool.eq_iff_iff,List.any_eq_true,List.any_eq_true]
 constructor
 ·rintro⟨k,hk,h⟩
  have hl:=List.mem_range.1 hk
  rw [List.getElem?_eq_getElem hl] at h
  exact⟨_,List.getElem_mem hl,h⟩
 rintro⟨s,hs,h⟩
 obtain ⟨k,hk⟩:=List.mem_iff_getElem?.1 hs
 exact⟨k,List.mem_range.2 (List.getElem?_eq_some_iff.1 hk).1,by rw [hk];exact h⟩
theorem containsQ (fv:AV) (l:List ByteArray) (q:ByteArray→Bool) (H:Heap) (hl:l.length < 4611686018427387904) (hf:∀ s,CallsV Tryz.prog fv [sv s] H (fun r H'=>r=bv (q s)∧H'=H)) :
  ACalls Tryz.prog 101 [.pv (slStrs l),fv] H (fun r H'=>r=bv (l.any q)∧H'=H):=by
 have h:=containsFuncS fv l (fun k=>((l[k]?).map q).getD false) (fun _=>H) hl (fun k s hs=>by rw [hs];exact hf s)
 rw [any_range] at h
 exact h
theorem renewed1_c (X:List ByteArray) (s:ByteArray) (H:Heap) (h5:H.get 5=some rnB0) (h10:H.get 10=some (sob X)):ACalls Tryz.prog 102 [sv s,.ref 5 0 0 0] H (fun r H'=>r=bv (inB X s)∧H'=H):=by
 refine Bd Tryz.func102 rfl Tryz.ntmps102<|Sq<|Rg<|Dd as'<|Zz<|Sq<|Rg<|Dd (by exact opd_load1_ref rfl Tryz.isAgg89 rfl h5 rfl rfl rfl)<|Dd mv'<|Dd (by exact x_lookup_set rfl Tryz.underlying89 Tryz.underlying9 rfl h10 rfl rfl rfl Tryz.zeroValue4 (.inl rfl))<|Dd as'<|Zz<|awp_ret ?_
 refine aret1 (H':=H) (.inr rfl) rfl (rval_tmp rfl) Fin.refl ?_
 exact⟨rfl,rfl⟩
theorem rn_take {b:List GObj} {L:List GObj} {k:Nat} {o:GObj} (h:L[k]?=some o):rnL b [] (L.take (k+1))=if rnB b (rnL b [] (L.take k)) o then rnL b [] (L.take k)++[o.id] else rnL b [] (L.take k):=by
 rw [List.take_add_one,h,Option.toList_some,rnL_app]
 rfl
theorem rn_new {a b:List GObj} (hu:ups a) {k:Nat} {o:GObj} (h:(layL a false)[k]?=some o):inB (rnL b [] ((layL a false).take k)) o.id=false:=by
 cases hb:inB (rnL b [] ((layL a false).take k)) o.id with
 | false=>rfl
 | true =>
  rcases rnL_from b _ (inB_iff.1 hb)with h1|⟨p,hp,hi⟩
  ·cases h1
  obtain ⟨j,hj⟩:=List.mem_iff_getElem?.1 hp
  have hjk:j < k:=by
   have:=(List.getElem?_eq_some_iff.1 hj).1
   rw [List.length_take] at this;omega
  rw [List.getElem?_take_of_lt hjk] at hj
  have hp2:=lay_up hu
  rw [List.pairwise_iff_getElem] at hp2
  obtain ⟨q1,q2⟩:=List.getElem?_eq_some_iff.1 hj
  obtain ⟨q3,q4⟩:=List.getElem?_eq_some_iff.1 h
  have:=(hp2 j k q1 q3 hjk).1
  rw [q2,q4] at this
  exact absurd hi this
theorem renewed_c (a b:List GObj) (ha:closedB a=true) (hal:a.length < 1099511627776) (hbl:b.length < 1099511627776) :
  ACalls Tryz.prog 52 [.agg [.pv (slObjs a)],.agg [.pv (slObjs b)]] [] (fun r H'=>r=.mp 10 0∧H'=[(10,sob (renewed a b))]):=by
 have hg:=gMap_iff.1 (closed_gMap ha)
 have hkd:∀ o∈a,1≤o.kind∧o.kind≤5:=fun o ho=>gObj_kind (hg.1 o ho)
 obtain ⟨L,hL⟩:∃ L,L=layL a false:=⟨_,rfl⟩
 refine Bd Tryz.func52 rfl Tryz.ntmps52<|Sq<|Rg<|Dd (by exact opd_box (id:=2) rfl rfl rfl rfl rfl)<|Dd (by exact opd_box (id:=3) rfl rfl rfl rfl rfl)<|Dd as'<|Zz<|Sq<|Rg<|Dd (by exact opd_makeMap (id:=10) strK rfl rfl)<|Dd (by exact x_alloc (id:=5) rfl zo89 rfl rfl)<|Uu (sa' Tryz.sizeOf89)<|Zz<|Sq<|Sq<|Rg<|Dd (by exact opd_loadn_ref rfl Tryz.isAgg38 Tryz.sizeOf38 rfl rfl rfl rfl (by simp only [Zl,encTag,encObj,encStr,encEdit,encInt];rfl) rfl)<|Dd (by exact opr_call rfl rfl Tryz.call53 rfl (layers_c a false _ rfl rfl))<|Zz<|awp_block ?_
 refine AWp.ent (E':=[(2,.ref 2 0 0 0),(3,.ref 3 0 0 0),(5,.ref 5 0 0 0),(12,.clo 103 [.ref 932 0 0 0,.ref 931 0 0 0])]) (H':=rnH a b []) (Ent.wk (Ea<|Ea<|Ea<|Ec (by(simp;exact⟨rfl,rfl⟩))<|trivial) (Hc (sobN_clo _ _)<|Ha<|Hc (dB_clo _ _)<|Hc (mB_clo _ _)<|Hc (mB_clo _ _)<|Hc (mB_clo _ _)<|trivial) trivial) ?_
 refine awp_range (id:=904) (p:=13) rnE rfl Tryz.call103 rfl rfl (by simp [rnE];exact⟨rfl,rfl,rfl⟩) ?_
 intro x hx1 hx2 hx3 hx4 hx5 hx6
 have hround:∀ k o,L[k]?=some o→CallsV Tryz.prog (.yld 904 0) [av (encObj o)] ((904,LR x rnE)::rnH a b (rnL b [] (L.take k))) (fun r H'=>r=bv true∧H'=(904,LR x rnE)::rnH a b (rnL b [] (L.take (k+1)))):=by
  intro k o ho
  have hst:=rn_take (b:=b) ho
  have hnew:inB (rnL b [] (L.take k)) o.id=false:=by rw [hL] at ho ⊢;exact rn_new hg.2.1 ho
  obtain ⟨X,hX⟩:∃ X,X=rnL b [] (L.take k):=⟨_,rfl⟩
  rw [← hX] at hst hnew ⊢
  have hoa:o∈a:=by
   have:=List.mem_of_getElem? ho
   rw [hL] at this
   exact(mem_layL hkd).1 this
  have hor:o.refs.length < 4611686018427387904:=by
   have:=(gObj_len (hg.1 o hoa)).1
   omega
  refine .inl ⟨904,0,rfl,?_⟩
  refine ycalls [(2,.ref 2 0 0 0),(3,.ref 3 0 0 0),(5,.ref 5 0 0 0),(6,.ref 6 0 0 0)] ((6,bx 6 49 ((encObj o).map .pv))::rnH a b X) hx1 hx2 hx3 hx4 hx5 hx6 rfl rfl rfl ?_ ?_
  ·skip
   refine Rg<|Dd (by exact x_alloc (id:=6) rfl zo49 rfl rfl)<|Uu (sa' Tryz.sizeOf49)<|Zz ?_
   exact(Ent.wk (Ea<|Ea<|Ea<|Ea<|trivial) (Hc (LR_clo (by simp [rnE];exact⟨rfl,rfl,rfl⟩))<|Hb<|Hc (sobN_clo _ _)<|Ha<|Hc (dB_clo _ _)<|Hc (mB_clo _ _)<|Hc (mB_clo _ _)<|Hc (mB_clo _ _)<|trivial) ⟨rfl,rfl,rfl,rfl,rfl,rfl,rfl,trivial⟩)
  skip
  rcases gidx_cases (idIs o.id) b with⟨e1,e2⟩|⟨q,p,e1,e2,e3⟩
  ·have hdir:direct b o=(false||false):=by rw [direct,show look b o.id=none from e2];rfl
   have hF:∀ H,ACalls Tryz.prog 54 [.agg [.pv (slObjs b)],sv o.id] H (fun r H'=>r=iv (-1)∧H'=H):=fun H=>by have:=find_c b o.id H (by omega);rw [e1] at this;exact this
   refine awp_block<|Sq<|Rg<|Dd (by exact opd_loadn_ref rfl Tryz.isAgg38 Tryz.sizeOf38 rfl rfl rfl rfl (by simp only [Zl,encTag,encObj,encStr,encEdit,encInt];rfl) rfl)<|Dd (fr' fo49_0)<|Dd (l1' Tryz.isAgg9)<|Dd (by exact opr_call rfl rfl Tryz.call54 rfl (hF _))<|Dd as'<|Zz<|Sq ?_
   refine awp_drawc follows ?_
   refine Cq mv'<|Cq ge'<|Cq mv'<|Ot<|Ot<|Ot<|Ot<|Ot<|Ot<|Ot<|Ot<|Ot<|Cq pk'<|Cq as' ?_
   refine dc_nil ⟨by kernel_rfl,?_⟩
   refine Sq ?_
   refine awp_drawc follows ?_
   refine Cq mv'<|Cq ge'<|Cq mv'<|Ot<|Ot<|Ot<|Cq pk'<|Cq mv'<|Ot<|Ot<|Ot<|Ot<|Ot<|Ot<|Ot<|Ot<|Ot<|Ot<|Cq pk'<|Cq as' ?_
   refine dc_nil ⟨by kernel_rfl,?_⟩
   refine Sq ?_
   refine awp_bool (t:=59) (n:=12) (X:=(false||false)||o.refs.any (inB X)) ?_ ?_
   ·all_goals refine Dd mv' ?_
    all_goals refine Dd mv' ?_
    all_goals refine Sp 51 (fun h51=>?_) fun h51=>?_
    all_goals try contradiction
    all_goals(refine al_ond rfl rfl rfl rfl rfl rfl (by exact opd_move rfl rfl) ?_)
    all_goals refine Dd pk' ?_
    all_goals refine Dd mv' ?_
    all_goals refine Sp 54 (fun h54=>?_) fun h54=>?_
    all_goals try contradiction
    all_goals(refine al_ond rfl rfl rfl rfl rfl rfl (by exact opd_field_ref rfl fo49_3 rfl rfl rfl rfl) ?_)
    all_goals(refine al_ond rfl rfl rfl rfl rfl rfl (by exact opd_load1_ref rfl Tryz.isAgg46 rfl rfl rfl rfl rfl) ?_)
    all_goals(refine al_ond rfl rfl rfl rfl rfl rfl (by exact opd_makeFunc rfl rfl) ?_)
    all_goals(refine al_ond rfl rfl rfl rfl rfl rfl (by exact opr_call rfl rfl Tryz.call101 rfl (containsQ _ o.refs (inB X) _ hor (fun s=>CallsV.clo Tryz.call102 (renewed1_c X s _ rfl rfl)))) ?_)
    all_goals refine Dd pk' ?_
    all_goals refine al_nil ?_
    all_goals(exact⟨⟨_,rfl,by rfl⟩,rfl,rfl,rfl⟩)
   refine Cn (fun hc1=>?_) fun hc1=>?_
   ·skip
    have hB:rnB b X o=true:=by rw [rnB,hdir];exact hc1
    rw [if_pos hB] at hst
    refine Rg<|Dd (l1' Tryz.isAgg89)<|Dd (fr' fo49_0)<|Dd (l1' Tryz.isAgg9)<|Uu (by exact x_put_set (.inl rfl) Tryz.underlying89 Tryz.underlying9 rfl rfl rfl rfl rfl rfl rfl)<|Zz ?_
    have hsp:sput X o.id=X++[o.id]:=by rw [sput,if_neg (by rw [hnew];decide)]
    exact⟨rnH a b (sput X o.id),(Ent.wk trivial (Hc (LR_clo (by simp [rnE];exact⟨rfl,rfl,rfl⟩))<|Hc (sobN_clo _ _)<|Ha<|Hc (dB_clo _ _)<|Hc (mB_clo _ _)<|Hc (mB_clo _ _)<|Hc (mB_clo _ _)<|trivial) ⟨rfl,rfl,rfl,rfl,rfl,rfl,rfl,trivial⟩),rfl,by rw [hst,hsp]⟩
   skip
   have hB:rnB b X o=false:=by rw [rnB,hdir];exact hc1
   rw [if_neg (by rw [hB];decide)] at hst
   refine awp_skip ?_
   exact⟨rnH a b X,(Ent.wk trivial (Hc (LR_clo (by simp [rnE];exact⟨rfl,rfl,rfl⟩))<|Hc (sobN_clo _ _)<|Ha<|Hc (dB_clo _ _)<|Hc (mB_clo _ _)<|Hc (mB_clo _ _)<|Hc (mB_clo _ _)<|trivial) ⟨rfl,rfl,rfl,rfl,rfl,rfl,rfl,trivial⟩),rfl,by rw [hst]⟩
  have hdir:direct b o=(!decide (p.kind=o.kind)||(decide (o.kind=5)&&!decide (o.refs=p.refs))):=by rw [direct,show look b o.id=some p from e3]
  have hbi:=map_get (f:=encObj) e2
  have hq:=(List.getElem?_eq_some_iff.1 e2).1
  have hF:∀ H,ACalls Tryz.prog 54 [.agg [.pv (slObjs b)],sv o.id] H (fun r H'=>r=iv (q:Int)∧H'=H):=fun H=>by have:=find_c b o.id H (by omega);rw [e1] at this;exact this
  have h0:decide ((0:Int)≤(q:Int))=true:=decide_eq_true (by omega)
  refine awp_block<|Sq<|Rg<|Dd (by exact opd_loadn_ref rfl Tryz.isAgg38 Tryz.sizeOf38 rfl rfl rfl rfl (by simp only [Zl,encTag,encObj,encStr,encEdit,encInt];rfl) rfl)<|Dd (fr' fo49_0)<|Dd (l1' Tryz.isAgg9)<|Dd (by exact opr_call rfl rfl Tryz.call54 rfl (hF _))<|Dd as'<|Zz<|Sq ?_
  refine awp_mergeR (t:=8) (n:=14) (X:=!decide (p.kind=o.kind)) ?_ ?_
  ·refine awp_drawc follows ?_
   refine Cq mv'<|Cq ge'<|Cq mv'<|Nt (fr' fo38_0)<|Nt (l1' Tryz.isAgg36)<|Nt mv'<|Nt (xp' so36)<|Nt (fp' fo49_1)<|Nt (lp' Tryz.isAgg3)<|Nt (fr' fo49_1)<|Nt (l1' Tryz.isAgg3)<|Nt ne'<|Cq pk'<|Cq as' ?_
   refine dc_nil ⟨by kernel_rfl,?_⟩
   exact⟨rfl,⟨_,rfl,by rfl⟩,rfl,rfl,rfl⟩
  refine Sq ?_
  refine awp_mergeR (t:=9) (n:=20) (X:=decide (o.kind=5)&&!decide (o.refs=p.refs)) ?_ ?_
  ·cases hg38:(decide (o.kind=5):Bool)
   ·refine awp_drawc follows ?_
    refine Cq mv'<|Cq ge'<|Cq mv'<|Nt (fr' fo49_1)<|Nt (l1' Tryz.isAgg3)<|Nt eql'<|Cq pk'<|Cq mv'<|Ot<|Ot<|Ot<|Ot<|Ot<|Ot<|Ot<|Ot<|Ot<|Ot<|Cq pf'<|Cq as' ?_
    refine dc_nil ⟨by kernel_rfl,?_⟩
    exact⟨rfl,⟨_,rfl,by rfl⟩,rfl,rfl,rfl⟩
   refine awp_drawc follows ?_
   refine Cq mv'<|Cq ge'<|Cq mv'<|Nt (fr' fo49_1)<|Nt (l1' Tryz.isAgg3)<|Nt eql'<|Cq pk'<|Cq mv'<|Nt (fr' fo49_3)<|Nt (l1' Tryz.isAgg46)<|Nt (fr' fo38_0)<|Nt (l1' Tryz.isAgg36)<|Nt mv'<|Nt (xp' so36)<|Nt (fp' fo49_3)<|Nt (lp' Tryz.isAgg46)<|Nt (by exact opr_call rfl rfl Tryz.call100 rfl (eqStrs_c o.refs p.refs _ hor))<|Nt no'<|Cq pt'<|Cq as' ?_
   refine dc_nil ⟨by kernel_rfl,?_⟩
   exact⟨rfl,⟨_,rfl,by rfl⟩,rfl,rfl,rfl⟩
  refine Sq ?_
  refine awp_bool (t:=59) (n:=12) (X:=((!decide (p.kind=o.kind))||(decide (o.kind=5)&&!decide (o.refs=p.refs)))||o.refs.any (inB X)) ?_ ?_
  ·all_goals refine Dd mv' ?_
   all_goals refine Dd mv' ?_
   all_goals refine Sp 51 (fun h51=>?_) fun h51=>?_
   all_goals try contradiction
   all_goals first|refine Fo ?_|refine On mv' ?_
   all_goals refine Dd pk' ?_
   all_goals refine Dd mv' ?_
   all_goals refine Sp 54 (fun h54=>?_) fun h54=>?_
   all_goals try contradiction
   all_goals first|refine Fo ?_|refine On (fr' fo49_3) ?_
   all_goals first|refine Fo ?_|refine On (l1' Tryz.isAgg46) ?_
   all_goals first|refine Fo ?_|refine On (by exact opd_makeFunc rfl rfl) ?_
   all_goals first|refine Fo ?_|refine On (by exact opr_call rfl rfl Tryz.call101 rfl (containsQ _ o.refs (inB X) _ hor (fun s=>CallsV.clo Tryz.call102 (renewed1_c X s _ rfl rfl)))) ?_
   all_goals refine Dd pk' ?_
   all_goals refine al_nil ?_
   all_goals(exact⟨⟨_,rfl,by(simp_all;done)⟩,rfl,rfl,rfl⟩)
  refine Cn (fun hc2=>?_) fun hc2=>?_
  ·skip
   have hB:rnB b X o=true:=by rw [rnB,hdir];exact hc2
   rw [if_pos hB] at hst
   refine Rg<|Dd (l1' Tryz.isAgg89)<|Dd (fr' fo49_0)<|Dd (l1' Tryz.isAgg9)<|Uu (by exact x_put_set (.inl rfl) Tryz.underlying89 Tryz.underlying9 rfl rfl rfl rfl rfl rfl rfl)<|Zz ?_
   have hsp:sput X o.id=X++[o.id]:=by rw [sput,if_neg (by rw [hnew];decide)]
   exact⟨rnH a b (sput X o.id),(Ent.wk trivial (Hc (LR_clo (by simp [rnE];exact⟨rfl,rfl,rfl⟩))<|Hc (sobN_clo _ _)<|Ha<|Hc (dB_clo _ _)<|Hc (mB_clo _ _)<|Hc (mB_clo _ _)<|Hc (mB_clo _ _)<|trivial) ⟨rfl,rfl,rfl,rfl,rfl,rfl,rfl,trivial⟩),rfl,by rw [hst,hsp]⟩
  skip
  have hB:rnB b X o=false:=by rw [rnB,hdir];exact hc2
  rw [if_neg (by rw [hB];decide)] at hst
  refine awp_skip ?_
  exact⟨rnH a b X,(Ent.wk trivial (Hc (LR_clo (by simp [rnE];exact⟨rfl,rfl,rfl⟩))<|Hc (sobN_clo _ _)<|Ha<|Hc (dB_clo _ _)<|Hc (mB_clo _ _)<|Hc (mB_clo _ _)<|Hc (mB_clo _ _)<|trivial) ⟨rfl,rfl,rfl,rfl,rfl,rfl,rfl,trivial⟩),rfl,by rw [hst]⟩
 refine(layers1_c a false (.yld 904 0) (fun k=>(904,LR x rnE)::rnH a b (rnL b [] (L.take k))) hal hkd (fun k=>rfl) (fun k=>rfl) (fun k=>rfl) (fun k=>(Closed.ofL ⟨(by exact LR_clo (by simp [rnE];exact⟨rfl,rfl,rfl⟩)),(by exact sobN_clo _ _),(by(simp;rfl)),(by exact dB_clo _ _),(by exact mB_clo _ _),(by exact mB_clo _ _),(by exact mB_clo _ _),trivial⟩)) (fun k=>by simp;rfl) (fun k o h=>hround k o (by rw [hL];exact h))).mono ?_
 rintro r H' ⟨rfl,rfl⟩
 refine⟨x,_,rfl,by rw [hx1];decide,rfl,fun z=>?_⟩
 rw [hx2]
 have hfin:rnL b [] (L.take (layL a false).length)=renewed a b:=by rw [hL,List.take_length];rfl
 rw [hfin]
 refine Sq<|Rg<|Dd (l1' Tryz.isAgg89)<|Dd as'<|Zz<|awp_ret ?_
 refine aret1 (H':=[(10,sob (renewed a b))]) (.inr rfl) rfl (rval_tmp rfl) (Fin.wk (by(simp;rfl)) (Hc (sobN_clo _ _)<|trivial) trivial) ?_
 exact⟨rfl,rfl⟩
end
section
def bFirst (a b:List GObj):List GObj:=(layL a true).filter fun o=>inB (renewed a b) o.id
def bLast (a b:List GObj):List GObj:=(layL a true).filter fun o=>!inB (renewed a b) o.id&&(look b o.id).isNone
def bPuts (a b:List GObj):List GObj:=(layL b false).filter fun o=>inB (renewed a b) o.id||(look a o.id).isNone
def bBoth (a b:List GObj):List (GObj×GObj):=b.filterMap fun o=>match look a o.id with
 | some p=>if inB (renewed a b) o.id then none else some (p,o)
 | none=>none
def stMove (k:GObj×GObj):List GEdit:=if k.1.x=k.2.x∧k.1.y=k.2.y then[] else[moveE k.1.id k.2.x k.2.y]
def stRefs (k:GObj×GObj):List GEdit:=if k.1.refs=k.2.refs then[] else[refsE k.1.id k.2.refs]
def stTags (k:GObj×GObj):List GEdit:=(tagL k.1 k.2).map fun p=>tagE k.1.id p.1 p.2
def betL (a b:List GObj):List GEdit:=(bFirst a b).map (fun o=>dropE o.id)++((bPuts a b).map putE++((bBoth a b).flatMap stMove++((bBoth a b).flatMap stRefs++((bBoth a b).flatMap stTags++(bLast a b).map fun o=>dropE o.id))))
/-- The edits between two maps, or why there are none. -/
def gBetween (a b:List GObj):List GEdit×Int:=if !closedB a||!closedB b then([],1)else if 200 < (betL a b).length then([],2)else(betL a b,0)
theorem mem_both {a b:List GObj} {k:GObj×GObj}:k∈bBoth a b↔k.2∈b∧look a k.2.id=some k.1∧k.2.id∉renewed a b:=by
 rw [bBoth,List.mem_filterMap]
 constructor
 ·rintro⟨o,ho,h⟩
  split at h
  ·next p hp =>
   split at h
   ·cases h
   next hx =>
   cases h
   exact⟨ho,hp,fun h=>hx (inB_iff.2 h)⟩
  cases h
 rintro⟨h1,h2,h3⟩
 refine⟨k.2,h1,?_⟩
 rw [h2]
 simp only
 rw [if_neg fun h=>h3 (inB_iff.1 h)]
section
variable {a b:List GObj}
/-- The lookups behind drops and puts. -/
def mid (a b:List GObj) (s:ByteArray):Option GObj:=if s∈renewed a b∨look a s=none then look b s else look a s
def c1 (k:GObj×GObj):GObj:=⟨k.1.id,k.1.kind,k.2.x,k.2.y,k.1.refs,k.1.tags⟩
def c2 (k:GObj×GObj):GObj:=⟨k.1.id,k.1.kind,k.2.x,k.2.y,k.2.refs,k.1.tags⟩
def c3 (k:GObj×GObj):GObj:=⟨k.1.id,k.1.kind,k.2.x,k.2.y,k.2.refs,k.2.tags⟩
end
end
end Go.Proofs.YtlnfjkdacimblaaGreatDoor
section
namespace Go.Proofs
open Go.RowKit Go.Sort Go.Shelf
def Tryz.itoaL_ren:Go.Shelf.Ren:=⟨fun|171=>68|243=>124|246=>172|283=>220|284=>221|285=>222|286=>223|129=>201|317=>248|318=>249|319=>250|320=>251|337=>261|338=>262|n=>n,fun|3=>3|9=>9|2=>2|4=>4|171=>250|0=>0|53=>235|37=>52|5=>5|173=>252|212=>272|51=>233|20=>20|213=>273|46=>186|232=>294|233=>295|n=>n,fun|17=>1|18=>6|19=>7|n=>n⟩
theorem Tryz.itoaL:Go.Proofs.LaysM.n171 Tryz.prog Tryz.itoaL_ren:={
  mixed:=by kernel_rfl
  f129:=Tryz.func201.trans (congrArg some (by kernel_rfl))
  f171:=Tryz.func68.trans (congrArg some (by kernel_rfl))
  f243:=Tryz.func124.trans (congrArg some (by kernel_rfl))
  f246:=Tryz.func172.trans (congrArg some (by kernel_rfl))
  f283:=Tryz.func220.trans (congrArg some (by kernel_rfl))
  f284:=Tryz.func221.trans (congrArg some (by kernel_rfl))
  f285:=Tryz.func222.trans (congrArg some (by kernel_rfl))
  f286:=Tryz.func223.trans (congrArg some (by kernel_rfl))
  f317:=Tryz.func248.trans (congrArg some (by kernel_rfl))
  f318:=Tryz.func249.trans (congrArg some (by kernel_rfl))
  f319:=Tryz.func250.trans (congrArg some (by kernel_rfl))
  f320:=Tryz.func251.trans (congrArg some (by kernel_rfl))
  f337:=Tryz.func261.trans (congrArg some (by kernel_rfl))
  f338:=Tryz.func262.trans (congrArg some (by kernel_rfl))
  t0:=Tryz.underlying0
  a0:=Tryz.isAgg0
  z0:=Tryz.sizeOf0
  v0:=Tryz.zeroValue0
  t2:=Tryz.underlying2
  a2:=Tryz.isAgg2
  z2:=Tryz.sizeOf2
  v2:=Tryz.zeroValue2
  t3:=Tryz.underlying3
  a3:=Tryz.isAgg3
  z3:=Tryz.sizeOf3
  v3:=Tryz.zeroValue3
  t4:=Tryz.underlying4
  a4:=Tryz.isAgg4
  z4:=Tryz.sizeOf4
  v4:=Tryz.zeroValue4
  t5:=Tryz.underlying5
  a5:=Tryz.isAgg5
  z5:=Tryz.sizeOf5
  v5:=Tryz.zeroValue5
  t9:=Tryz.underlying9
  a9:=Tryz.isAgg9
  z9:=Tryz.sizeOf9
  v9:=Tryz.zeroValue9
  t20:=Tryz.underlying20
  a20:=Tryz.isAgg20
  z20:=Tryz.sizeOf20
  v20:=Tryz.zeroValue20
  t37:=Tryz.underlying52
  a37:=Tryz.isAgg52
  z37:=Tryz.sizeOf52
  v37:=Tryz.zeroValue52
  t46:=Tryz.underlying186
  a46:=Tryz.isAgg186
  z46:=Tryz.sizeOf186
  v46:=Tryz.zeroValue186
  t51:=Tryz.underlying233
  a51:=Tryz.isAgg233
  z51:=Tryz.sizeOf233
  v51:=Tryz.zeroValue233
  t53:=Tryz.underlying235
  a53:=Tryz.isAgg235
  z53:=Tryz.sizeOf235
  v53:=Tryz.zeroValue235
  t171:=Tryz.underlying250
  a171:=Tryz.isAgg250
  z171:=Tryz.sizeOf250
  v171:=Tryz.zeroValue250
  t173:=Tryz.underlying252
  a173:=Tryz.isAgg252
  z173:=Tryz.sizeOf252
  v173:=Tryz.zeroValue252
  t212:=Tryz.underlying272
  a212:=Tryz.isAgg272
  z212:=Tryz.sizeOf272
  v212:=Tryz.zeroValue272
  t213:=Tryz.underlying273
  a213:=Tryz.isAgg273
  z213:=Tryz.sizeOf273
  t232:=Tryz.underlying294
  a232:=Tryz.isAgg294
  z232:=Tryz.sizeOf294
  v232:=Tryz.zeroValue294
  t233:=Tryz.underlying295
  a233:=Tryz.isAgg295
  z233:=Tryz.sizeOf295
  v233:=Tryz.zeroValue295
  g17:=by kernel_rfl
  g18:=by kernel_rfl
  g19:=by kernel_rfl
  i0:=by kernel_rfl
  i2:=by kernel_rfl
  i3:=by kernel_rfl
  i4:=by kernel_rfl
  i5:=by kernel_rfl
  i9:=by kernel_rfl
  i20:=by kernel_rfl
  i37:=by kernel_rfl
  i46:=by kernel_rfl
  i51:=by kernel_rfl
  i53:=by kernel_rfl
  i171:=by kernel_rfl
  i173:=by kernel_rfl
  i212:=by kernel_rfl
  i232:=by kernel_rfl
  i233:=by kernel_rfl
  m17:=by kernel_rfl
  m18:=by kernel_rfl
  m19:=by kernel_rfl}
end Go.Proofs
namespace Go.Proofs.YtlnfjkdacimblaaGreatDoor
open Go.Abs
theorem itoa_cT (n:Int) (h0 : -9223372036854775808≤n) (h1:n≤9223372036854775807) (H:Heap):ACalls Tryz.prog 68 [iv n] H (fun r H'=>r=sv (itoaB n)∧H'=H) :=
 Go.Abs.itoa_c Tryz.itoaL (G:=1) (by unfold gtab;exact .head _) (by kernel_rfl) n h0 h1 H
end Go.Proofs.YtlnfjkdacimblaaGreatDoor
end
namespace Go.Proofs.YtlnfjkdacimblaaGreatDoor
open Go.Abs
section
def ofL (l:List UInt8):ByteArray:=⟨l.toArray⟩
theorem ofL_list (l:List UInt8):(ofL l).data.toList=l:=by simp [ofL]
theorem ofL_of (s:ByteArray):ofL s.data.toList=s:=ba_ext (ofL_list _)
theorem ofL_size (l:List UInt8):(ofL l).size=l.length:=by rw [← size_list,ofL_list]
/-- What object.Parse makes of a text. -/
def gParseO (s:ByteArray):GObj×Int:=if 20000 < s.size then(zObj,2)else if(gLex s).2.1=0∧gObjT (gReadO (gLex s).1)=(s,0)then(gReadO (gLex s).1,0)else(zObj,5)
/-! ### lines -/
def wPut:List UInt8:=[112,117,116]
def wMove:List UInt8:=[109,111,118,101]
def wTag:List UInt8:=[116,97,103]
def wRefs:List UInt8:=[114,101,102,115]
def wDrop:List UInt8:=[100,114,111,112]
def wSplit:List UInt8:=[115,112,108,105,116]
def wJoin:List UInt8:=[106,111,105,110]
/-- The words of the line of an edit that puts no object. -/
def lineW (e:GEdit):List (List UInt8) :=
 if e.op=2 then[wMove,e.id.data.toList,Lib.itoa e.x,Lib.itoa e.y] else if e.op=3 then[wTag,e.id.data.toList,e.key.data.toList,gQuote e.val.data.toList]
 else if e.op=4 then wRefs::e.id.data.toList::bs e.refs else if e.op=5 then[wDrop,e.id.data.toList]
 else if e.op=6 then[wSplit,e.id.data.toList,e.node.data.toList,e.other.data.toList] else[wJoin,e.id.data.toList,e.other.data.toList]
def lineY (e:GEdit):List UInt8:=if e.op=1 then wPut++32::(gObjT e.obj).1.data.toList else gJoinS [32] (lineW e)
def lineErr (e:GEdit):Int:=if e.op=1 then(gObjT e.obj).2 else 0
def textF:List UInt8→List GEdit→List UInt8×Int
 | acc,[]=>(acc,0)
 | acc,e::r=>if lineErr e≠0∨20000 < (acc++(lineY e++[10])).length then([],2)else textF (acc++(lineY e++[10])) r
/-- The text of a change set, or why it has none. -/
def gTextC (l:List GEdit):ByteArray×Int:=if gChange l then(ofL (textF [] l).1,(textF [] l).2)else(sNil,1)
def numV (s:List UInt8):Int:=match Lib.atoiAll s with
 | .ok v=>v
 | _ => -1
def eNone:GEdit:=⟨0,sNil,sNil,sNil,0,0,sNil,sNil,[],zObj⟩
/-- The edit that the words of a line seem to be. -/
def readW (w:List (List UInt8)) (word rest:List UInt8):GEdit :=
 if word=wPut then⟨1,sNil,sNil,sNil,0,0,sNil,sNil,[],(gParseO (ofL rest)).1⟩
 else if word=wMove∧w.length=4 then⟨2,ofL (w.getD 1 []),sNil,sNil,numV (w.getD 2 []),numV (w.getD 3 []),sNil,sNil,[],zObj⟩
 else if word=wTag∧3 < w.length then(match (gLex (ofL (gJoinS [32] (w.drop 3)))).1 with
  | [f]=>⟨3,ofL (w.getD 1 []),sNil,sNil,0,0,ofL (w.getD 2 []),f.text,[],zObj⟩
  | _=>eNone)
 else if word=wRefs∧1 < w.length then⟨4,ofL (w.getD 1 []),sNil,sNil,0,0,sNil,sNil,(w.drop 2).map ofL,zObj⟩
 else if word=wDrop∧w.length=2 then⟨5,ofL (w.getD 1 []),sNil,sNil,0,0,sNil,sNil,[],zObj⟩
 else if word=wSplit∧w.length=4 then⟨6,ofL (w.getD 1 []),ofL (w.getD 3 []),ofL (w.getD 2 []),0,0,sNil,sNil,[],zObj⟩
 else if word=wJoin∧w.length=3 then⟨7,ofL (w.getD 1 []),ofL (w.getD 2 []),sNil,0,0,sNil,sNil,[],zObj⟩
 else eNone
def gReadE (s:List UInt8):GEdit:=readW (splitC 32 s) ((splitC 32 s).headD []) (s.drop (((splitC 32 s).headD []).length+1))
/-- The change set of a text. -/
def gParseC (t:ByteArray):List GEdit×Int :=
 if 20000 < t.size then([],2)else if gTextC ((linesC t.data.toList).map fun s=>gReadE (Lib.trimSuffix s [10]))=(t,0)then((linesC t.data.toList).map fun s=>gReadE (Lib.trimSuffix s [10]),0)else([],5)
/-! ### no blank, no end of a line -/
end
section
theorem flat_size:∀ l:List ByteArray,(l.flatMap fun k=>32::k.data.toList).length=l.length+sizes l
 | []=>rfl
 | k::l=>by
  have ih:=flat_size l
  rw [List.flatMap_cons,List.length_append,List.length_cons,List.length_cons,ih,size_list,sizes,sizes,List.map_cons,List.sum_cons]
  omega
theorem join_size (l:List ByteArray):(gJoinS [32] (bs l)).length≤l.length+sizes l:=by
 cases l with
 | nil=>exact Nat.zero_le _
 | cons k l =>
  rw [joinS_cons,List.length_append,flat_size,size_list,List.length_cons,sizes,sizes,List.map_cons,List.sum_cons]
  omega
end
section
theorem trim_nlB (w:List UInt8):Lib.trimSuffix (w++[10]) [10]=w:=by
 rw [Lib.trimSuffix,Lib.hasSuffix,if_pos (List.isSuffixOf_iff_suffix.2 ⟨w,rfl⟩)]
 simp
theorem trimB_eq (s:ByteArray):trimB s=ofL (Lib.trimSuffix s.data.toList [10]):=by
 have hz:=szY s
 rw [trimB]
 cases h:endsNl s with
 | true =>
  rw [endsNl,Bool.and_eq_true,decide_eq_true_eq,decide_eq_true_eq] at h
  obtain ⟨h1,h2⟩:=h
  have h3:s.data.toList.drop (s.size - 1)=[10]:=by
   have:=congrArg (fun x=>x.data.toList) h2
   rw [exL] at this
   refine Eq.trans ?_ (show sNl.data.toList=[10] from rfl)
   rw [← this]
   exact(List.take_of_length_le (by rw [List.length_drop];omega)).symm
  have h4:s.data.toList=s.data.toList.take (s.size - 1)++[10]:=by rw [← h3,List.take_append_drop]
  refine eqL ?_
  rw [if_pos rfl,exL,ofL_list,h4,trim_nlB,List.drop_zero,Nat.sub_zero,← h4]
 | false =>
  rw [if_neg (by decide),Lib.trimSuffix,if_neg,ofL_of]
  intro hp
  obtain ⟨w,hw⟩:=List.isSuffixOf_iff_suffix.1 (show ([10]:List UInt8).isSuffixOf s.data.toList=true from hp)
  have hl:s.size=w.length+1:=by rw [← hz,← hw,List.length_append,List.length_singleton]
  have:endsNl s=true:=by
   rw [endsNl,Bool.and_eq_true,decide_eq_true_eq,decide_eq_true_eq]
   refine⟨by omega,eqL ?_⟩
   rw [exL,← hw,show s.size - 1=w.length by omega,List.drop_left]
   exact List.take_of_length_le (by rw [List.length_singleton];omega)
  rw [h] at this
  cases this
theorem cutV_eq (s:ByteArray):∃ b,cutV s=.tup [sv (ofL ((splitC 32 s.data.toList).headD [])),sv (ofL (s.data.toList.drop (((splitC 32 s.data.toList).headD []).length+1))),bv b]:=by
 rw [cutV]
 by_cases h:Lib.indexByte s.data.toList 32 = -1
 ·refine⟨false,?_⟩
  rw [if_pos h,splitC_free (index_free.1 h),List.headD_cons,List.drop_eq_nil_of_le (Nat.le_succ _),ofL_of]
  rfl
 obtain ⟨w,r,e1,e2,e3⟩:=index_at h
 refine⟨true,?_⟩
 obtain ⟨a1,a2⟩:=ofY_at e1
 have hd:s.data.toList.drop (w.length+1)=r:=by
  rw [e1,show w++32::r=(w++[32])++r by simp,show w.length+1=(w++[(32:UInt8)]).length by simp,List.drop_left]
 have hsp:(splitC 32 s.data.toList).headD []=w:=by rw [e1,splitC_app e2];rfl
 rw [if_neg h,hsp,hd,e3,Int.toNat_natCast,a1,show s.extract (w.length+1) s.size=ofL r from eqL (by rw [a2,ofL_list])]
 rfl
theorem split_get (s:ByteArray) (i:Nat) (h:i < (splitS s).length):(splitS s)[i]?=some (ofL ((splitC 32 s.data.toList).getD i [])):=by
 rw [splitS,List.length_map] at h
 rw [splitS,List.getElem?_map,List.getElem?_eq_getElem h,List.getD_eq_getElem?_getD,List.getElem?_eq_getElem h]
 rfl
theorem split_len (s:ByteArray):(splitS s).length=(splitC 32 s.data.toList).length:=List.length_map _
theorem ofL_eq {a b:List UInt8}:ofL a=ofL b↔a=b:=⟨fun h=>by rw [← ofL_list a,h,ofL_list],fun h=>by rw [h]⟩
end
section
theorem encStr_rl (l:List ByteArray):∀ r∈l.map encStr,r.length=1:=fun r hr=>by
 obtain ⟨s,_,rfl⟩:=List.mem_map.1 hr
 rfl
theorem sizes_cons (s:ByteArray) (l:List ByteArray):sizes (s::l)=s.size+sizes l:=by rw [sizes,sizes,List.map_cons,List.sum_cons]
theorem join_out {e:GEdit} {ws:List ByteArray} (h1:e.op≠1) (h:bs ws=lineW e):(⟨(gJoinS [32] (bs ws)).toArray⟩:ByteArray)++⟨#[10]⟩=ofL (lineY e++[10]):=eqL (by
 rw [ofL_list,lineY,if_neg h1,← h]
 simp)
theorem put_out {e:GEdit} (h1:e.op=1):(⟨#[112,117,116,32]⟩:ByteArray)++(gObjT e.obj).1++⟨#[10]⟩=ofL (lineY e++[10]):=eqL (by
 rw [ofL_list,lineY,if_pos h1]
 simp [wPut])
theorem objT_size {o:GObj}:(gObjT o).1.size≤20000:=by
 rw [gObjT]
 split
 ·split
  ·exact Nat.zero_le _
  split
  ·exact Nat.zero_le _
  show (objB o).size≤_;omega
 exact Nat.zero_le _
end
section
theorem gChange_of {l:List GEdit} (h:gChange l=true):l≠[]∧∀ e∈l,gEditV e=true:=by
 rw [gChange,Bool.and_eq_true,Bool.and_eq_true,decide_eq_true_eq,Bool.not_eq_true',List.any_eq_false] at h
 refine⟨fun e=>by rw [e] at h;exact absurd h.1.1 (by decide),fun e he=>?_⟩
 have:=h.2 e he
 simpa using this
end
section
theorem lenB_c (g:Nat) (l:List UInt8) (u:Bool):ACalls Tryz.prog 34 [.ref 2001 0 0 0] (bld g l u) (fun r H'=>r=iv (l.length:Int)∧H'=bld g l u):=by
 refine Bd Tryz.func34 rfl Tryz.ntmps34<|Sq<|Rg<|Dd as'<|Zz<|Sq<|Rg<|Dd mv'<|Dd nc'<|Dd (fr' fo62_1)<|Dd (l1' Tryz.isAgg52)<|Dd (by exact opd_len_osl rfl Tryz.underlying52 rfl rfl rfl)<|Dd as'<|Zz<|awp_ret ?_
 refine aret1 (H':=(bld g l u)) (.inr rfl) rfl (rval_tmp rfl) Fin.refl ?_
 exact⟨rfl,rfl⟩
abbrev bldA (l:List UInt8) (g:Nat) (u:Bool):Ob:=bObT (.osl 2002 g 0 l.length) u
abbrev bldD (l:List UInt8) (g:Nat):Ob:=⟨g,1,5,brows l⟩
theorem keysB {g g':Nat} {l l':List UInt8} {u u':Bool} {id:Nat} (h:(Heap.get (bld g l u) id).isSome=true):(Heap.get (bld g' l' u') id).isSome=true:=keys2 h
theorem keysE {g:Nat} {l:List UInt8} {u u':Bool} {id:Nat} (h:(Heap.get (bEnd g l u) id).isSome=true):(Heap.get (bld g l u) id).isSome=true:=by
 simp only [bEnd,bld,Heap.get] at h ⊢
 cases e1:Nat.beq 2001 id with
 | true=>rfl
 | false =>
  cases e2:Nat.beq 2002 id with
  | true=>rfl
  | false=>rw [e1,e2] at h;cases h
theorem wrB_f {H:Heap} {g:Nat} {l:List UInt8} {u:Bool} (s:ByteArray) (h1:H.get 2001=some (bldA l g u)) (h2:H.get 2002=some (bldD l g)) (hl:l.length+s.size < 70368744177664):ACalls Tryz.prog 33 [.ref 2001 0 0 0,sv s] H (fun r H'=>r=.tup [iv (s.size:Int),.pv nilI]∧H'=bld (g+1) (l++s.data.toList) true++H) :=
 ACalls.frame (writeString_c g l u s hl) (Sub.of2 h1 h2) (Closed.ofL ⟨(by exact bOb_cloT rfl rfl),(by exact brows_clo _ _),trivial⟩) (by simp;rfl) (fun id h=>.inl (keysB h))
theorem lenB_f {H:Heap} {g:Nat} {l:List UInt8} {u:Bool} (h1:H.get 2001=some (bldA l g u)) (h2:H.get 2002=some (bldD l g)):ACalls Tryz.prog 34 [.ref 2001 0 0 0] H (fun r H'=>r=iv (l.length:Int)∧H'=H) :=
 ACalls.frameS (lenB_c g l u) (Sub.of2 h1 h2) (Closed.ofL ⟨(by exact bOb_cloT rfl rfl),(by exact brows_clo _ _),trivial⟩) (by simp;rfl)
theorem strB_f {H:Heap} {g:Nat} {l:List UInt8} {u:Bool} (h1:H.get 2001=some (bldA l g u)) (h2:H.get 2002=some (bldD l g)) (hl:l.length < 70368744177664):ACalls Tryz.prog 35 [.ref 2001 0 0 0] H (fun r H'=>r=sv ⟨l.toArray⟩∧H'=bEnd g l u++H) :=
 ACalls.frame (str_c g l u hl) (Sub.of2 h1 h2) (Closed.ofL ⟨(by exact bOb_cloT rfl rfl),(by exact brows_clo _ _),trivial⟩) (by simp;rfl) (fun id h=>.inl (keysE (u':=u) h))
def uK:Nat→Bool
 | 0=>false
 | _+1=>true
def accC (l:List GEdit) (k:Nat):List UInt8:=(l.take k).flatMap fun e=>lineY e++[10]
theorem accC_next {l:List GEdit} {k:Nat} {e:GEdit} (h:l[k]?=some e):accC l (k+1)=accC l k++(lineY e++[10]):=by
 rw [accC,List.take_add_one,h,List.flatMap_append]
 simp [accC]
theorem lineY_len {e:GEdit} (he:gEditV e=true):(lineY e).length≤100000:=by
 obtain ⟨⟨o1,o2⟩,o3,o4⟩:=gEditV_iff.1 he
 rw [okOf] at o3
 have hval:=gEditV_val he
 by_cases h1:e.op=1
 ·rw [lineY,if_pos h1,List.length_append,List.length_cons,size_list]
  have:=objT_size (o:=e.obj)
  show 3+_≤_
  omega
 rw [if_neg h1,Bool.and_eq_true] at o3
 obtain ⟨o5,o6⟩:=o3
 have hid:=gName_size o5
 have key:∀ ws:List ByteArray,bs ws=lineW e→ws.length+sizes ws≤100000→(lineY e).length≤100000:=fun ws h h2=>by
  rw [lineY,if_neg h1,← h]
  exact Nat.le_trans (join_size ws) h2
 by_cases h2:e.op=2
 ·rw [if_pos h2,onP,Bool.and_eq_true,decide_eq_true_eq,decide_eq_true_eq] at o6
  have six:(itoaB e.x).size≤7:=by rw [← size_list];show (Lib.itoa e.x).length≤7;rw [itoa_nat _ (by omega)];exact digits_small (by omega) (by decide)
  have siy:(itoaB e.y).size≤7:=by rw [← size_list];show (Lib.itoa e.y).length≤7;rw [itoa_nat _ (by omega)];exact digits_small (by omega) (by decide)
  have hw0:(⟨#[109,111,118,101]⟩:ByteArray).size=4:=rfl
  exact key [⟨#[109,111,118,101]⟩,e.id,itoaB e.x,itoaB e.y] (by rw [lineW,if_pos h2];rfl) (by simp only [sizes_cons,List.length_cons,List.length_nil,show sizes []=0 from rfl];omega)
 rw [if_neg h2] at o6
 by_cases h3:e.op=3
 ·rw [if_pos h3,Bool.and_eq_true] at o6
  have hks:=gName_size o6.1
  have hq:=quote_size e.val
  have hw0:(⟨#[116,97,103]⟩:ByteArray).size=3:=rfl
  exact key [⟨#[116,97,103]⟩,e.id,e.key,⟨(gQuote e.val.data.toList).toArray⟩] (by rw [lineW,if_neg h2,if_pos h3];rfl) (by simp only [sizes_cons,List.length_cons,List.length_nil,show sizes []=0 from rfl];omega)
 rw [if_neg h3] at o6
 by_cases h4:e.op=4
 ·rw [if_pos h4,Bool.and_eq_true,Bool.and_eq_true,decide_eq_true_eq,decide_eq_true_eq,List.all_eq_true] at o6
  obtain ⟨⟨r1,r2⟩,r3⟩:=o6
  have hrs:sizes e.refs≤24*e.refs.length:=sizes_bound (fun s hs=>gName_size (r3 s hs))
  have hw0:(⟨#[114,101,102,115]⟩:ByteArray).size=4:=rfl
  exact key (⟨#[114,101,102,115]⟩::e.id::e.refs) (by rw [lineW,if_neg h2,if_neg h3,if_pos h4];rfl) (by simp only [sizes_cons,List.length_cons];omega)
 rw [if_neg h4] at o6
 by_cases h5:e.op=5
 ·have hw0:(⟨#[100,114,111,112]⟩:ByteArray).size=4:=rfl
  exact key [⟨#[100,114,111,112]⟩,e.id] (by rw [lineW,if_neg h2,if_neg h3,if_neg h4,if_pos h5];rfl) (by simp only [sizes_cons,List.length_cons,List.length_nil,show sizes []=0 from rfl];omega)
 rw [if_neg h5] at o6
 by_cases h6:e.op=6
 ·rw [if_pos h6,Bool.and_eq_true] at o6
  have hns:=gName_size o6.1
  have hos:=gName_size o6.2
  have hw0:(⟨#[115,112,108,105,116]⟩:ByteArray).size=5:=rfl
  exact key [⟨#[115,112,108,105,116]⟩,e.id,e.node,e.other] (by rw [lineW,if_neg h2,if_neg h3,if_neg h4,if_neg h5,if_pos h6];rfl) (by simp only [sizes_cons,List.length_cons,List.length_nil,show sizes []=0 from rfl];omega)
 rw [if_neg h6] at o6
 have hos:=gName_size o6
 have hw0:(⟨#[106,111,105,110]⟩:ByteArray).size=4:=rfl
 exact key [⟨#[106,111,105,110]⟩,e.id,e.other] (by rw [lineW,if_neg h2,if_neg h3,if_neg h4,if_neg h5,if_neg h6];rfl) (by simp only [sizes_cons,List.length_cons,List.length_nil,show sizes []=0 from rfl];omega)
end
end Go.Proofs.YtlnfjkdacimblaaGreatDoor
namespace Go.Abs
open Go.RowKit
section
/-- A call of the library that keeps all blocks that were there. -/
theorem Rel.below {I:Nat→Prop} {ι:Plc} {H:Heap} {w w':World} (hb:Below w.heap.size w w') (hr:Rel I ι H w):Rel I ι H w'∧Step I ι H w I ι H w':=by
 have hk:∀ b,b < w.heap.size→w'.heap[b]?=w.heap[b]?:=hb.block
 have hst:Step I ι H w I ι H w':=by
  refine⟨hb.os,hb.tape,hb.output,hb.size,fun a ha _=>?_,fun _ h=>h,fun _ h=>.inl h,fun _ h=>.inl h,fun b hb _=>hk b hb,fun _ o h=>⟨o,h,Nat.le_refl _,fun _=>⟨rfl,rfl,fun _=>Nat.le_refl _⟩⟩⟩
  unfold World.frozen?
  rw [hk _ ha]
 refine⟨⟨fun b h=>?_,fun j o hj=>?_,hr.inj,hst.glob hr⟩,hst⟩
 ·have:=hr.imm b h
  have:=hb.size
  omega
 exact(hr.obj j o hj).keep rfl (fun b c _ hb=>⟨hk b hb,fun h=>h⟩) (fun r _ a _ v hv=>hv.mono hr hst)
end
end Go.Abs
namespace Go.Abs
open Go.Proofs
section
def isErr (v:Value):Prop:=∃ t p,v=.iface t p
abbrev errI:PV:=.sat isErr
/-- What Atoi answers. -/
def atoiE (s:ByteArray):Int×PV:=match Lib.atoiAll s.data.toList with
 | .ok v=>(v,nilI)
 | .range=>(Lib.atoiSat s.data.toList,errI)
 | _=>(0,errI)
theorem atoi_c {P:Program} {ρ:Shelf.Ren} (L:LaysC.n172 P ρ) {G1 G2:Nat} (hg1:(G1,GV.face)∈gtab) (hn1:P.globalNamed "strconv.ErrSyntax" = some G1) (hg2:(G2,GV.face)∈gtab) (hn2:P.globalNamed "strconv.ErrRange" = some G2) (s:ByteArray) (hs:s.size < 1099511627776) (H:Heap) :
  ACalls P (ρ.f 172) [.pv (.str s)] H (fun r H'=>r=.tup [.pv (.int .i64 (atoiE s).1),.pv (atoiE s).2]∧H'=H):=by
 intro I ι w vs hr hvl hv
 obtain ⟨v,rfl⟩:∃ v,vs=#[v]:=by
  match vs,hvl with
  | ⟨[v]⟩,_=>exact⟨v,rfl⟩
 have e1:=(hv 0 v _ rfl rfl).str_inv
 subst e1
 have hvar:∀ (name:String) (G:Nat),(G,GV.face)∈gtab→P.globalNamed name=some G→∃ t p,w.var? P name=some #[.iface t p]:=fun name G hg hn=>by
  obtain ⟨_,cs,t,f,h2,q,p,h3⟩:=hr.glob _ hg
  subst h3
  exact⟨q,p,by simp only [World.var?,hn,Option.bind_some,h2]⟩
 have fin:∀ (n:Int) (x:Value) (a:PV) (w':World),RowKit.Below w.heap.size w w'→(∀ I H,VRel w' I ι H x (.pv a))→∃ r H' I' ι' v',(Ending.returned (.tuple #[.int .i64 n,x]))=.returned v'∧(r=.tup [.pv (.int .i64 n),.pv a]∧H'=H)∧VRel w' I' ι' H' v' r∧Rel I' ι' H' w'∧Step I ι H w I' ι' H' w':=fun n x a w' hb hx=>by
  obtain ⟨k1,k2⟩:=Rel.below hb hr
  refine⟨_,_,I,ι,_,rfl,⟨rfl,rfl⟩,.tup rfl fun i v b h1 h2=>?_,k1,k2⟩
  match i,h1,h2 with
  | 0,h1,h2=>cases h1;cases h2;exact .pv (.int _ _)
  | 1,h1,h2=>cases h1;cases h2;exact hx _ _
  | i+2,h1,h2=>simp at h1
 rw [atoiE]
 cases h:Lib.atoiAll s.data.toList with
 | ok n =>
  refine(Any.strconv_Atoi_ok L s (by omega) n h w).mono ?_
  rintro e w' ⟨rfl,hw⟩
  have hb:RowKit.Below w.heap.size w w':=by
   rcases hw with rfl|⟨t,rfl⟩
   ·exact RowKit.Below.refl _ _
   exact Lib.bytesWorld_below w _ t
  exact fin n .nilIface nilI w' hb (fun _ _=>.pv (.sat rfl rfl))
 | range =>
  obtain ⟨t,p,hq⟩:=hvar _ G2 hg2 hn2
  refine(Any.strconv_Atoi_range_var L s (by omega) h t p w hq).mono ?_
  rintro e w' ⟨N,rfl,_,_,hb⟩
  exact fin _ _ errI w' hb (fun _ _=>.pv (.sat rfl ⟨_,_,rfl⟩))
 | _ =>
  obtain ⟨t,p,hq⟩:=hvar _ G1 hg1 hn1
  refine(Any.strconv_Atoi_syntax_var L s (by omega) h t p w hq).mono ?_
  rintro e w' ⟨N,rfl,_,_,hb⟩
  exact fin 0 _ errI w' hb (fun _ _=>.pv (.sat rfl ⟨_,_,rfl⟩))
end
end Go.Abs
section
namespace Go.Proofs
open Go.RowKit Go.Sort Go.Shelf
def Tryz.atoiL_ren:Go.Shelf.Ren:=⟨fun|172=>134|244=>181|245=>182|247=>231|279=>232|280=>233|281=>234|282=>235|287=>254|316=>255|171=>68|205=>256|321=>263|322=>264|243=>124|246=>172|283=>220|284=>221|285=>222|286=>223|129=>201|317=>248|318=>249|319=>250|320=>251|337=>261|338=>262|n=>n,fun|9=>9|3=>3|75=>65|76=>66|4=>4|5=>5|167=>257|37=>52|0=>0|85=>258|2=>2|168=>260|53=>235|175=>277|46=>186|210=>280|127=>123|145=>292|143=>290|21=>21|171=>250|173=>252|212=>272|51=>233|20=>20|213=>273|232=>294|233=>295|80=>69|n=>n,fun|15=>2|16=>3|17=>1|18=>6|19=>7|n=>n⟩
theorem Tryz.atoiL:Go.Proofs.LaysC.n172 Tryz.prog Tryz.atoiL_ren:={
  mixed:=by kernel_rfl
  f129:=Tryz.func201.trans (congrArg some (by kernel_rfl))
  f171:=Tryz.func68.trans (congrArg some (by kernel_rfl))
  f172:=Tryz.func134.trans (congrArg some (by kernel_rfl))
  f205:=Tryz.func256.trans (congrArg some (by kernel_rfl))
  f243:=Tryz.func124.trans (congrArg some (by kernel_rfl))
  f244:=Tryz.func181.trans (congrArg some (by kernel_rfl))
  f245:=Tryz.func182.trans (congrArg some (by kernel_rfl))
  f246:=Tryz.func172.trans (congrArg some (by kernel_rfl))
  f247:=Tryz.func231.trans (congrArg some (by kernel_rfl))
  f279:=Tryz.func232.trans (congrArg some (by kernel_rfl))
  f280:=Tryz.func233.trans (congrArg some (by kernel_rfl))
  f281:=Tryz.func234.trans (congrArg some (by kernel_rfl))
  f282:=Tryz.func235.trans (congrArg some (by kernel_rfl))
  f283:=Tryz.func220.trans (congrArg some (by kernel_rfl))
  f284:=Tryz.func221.trans (congrArg some (by kernel_rfl))
  f285:=Tryz.func222.trans (congrArg some (by kernel_rfl))
  f286:=Tryz.func223.trans (congrArg some (by kernel_rfl))
  f287:=Tryz.func254.trans (congrArg some (by kernel_rfl))
  f316:=Tryz.func255.trans (congrArg some (by kernel_rfl))
  f317:=Tryz.func248.trans (congrArg some (by kernel_rfl))
  f318:=Tryz.func249.trans (congrArg some (by kernel_rfl))
  f319:=Tryz.func250.trans (congrArg some (by kernel_rfl))
  f320:=Tryz.func251.trans (congrArg some (by kernel_rfl))
  f321:=Tryz.func263.trans (congrArg some (by kernel_rfl))
  f322:=Tryz.func264.trans (congrArg some (by kernel_rfl))
  f337:=Tryz.func261.trans (congrArg some (by kernel_rfl))
  f338:=Tryz.func262.trans (congrArg some (by kernel_rfl))
  t0:=Tryz.underlying0
  a0:=Tryz.isAgg0
  z0:=Tryz.sizeOf0
  v0:=Tryz.zeroValue0
  t2:=Tryz.underlying2
  a2:=Tryz.isAgg2
  z2:=Tryz.sizeOf2
  v2:=Tryz.zeroValue2
  t3:=Tryz.underlying3
  a3:=Tryz.isAgg3
  z3:=Tryz.sizeOf3
  v3:=Tryz.zeroValue3
  t4:=Tryz.underlying4
  a4:=Tryz.isAgg4
  z4:=Tryz.sizeOf4
  v4:=Tryz.zeroValue4
  t5:=Tryz.underlying5
  a5:=Tryz.isAgg5
  z5:=Tryz.sizeOf5
  v5:=Tryz.zeroValue5
  t9:=Tryz.underlying9
  a9:=Tryz.isAgg9
  z9:=Tryz.sizeOf9
  v9:=Tryz.zeroValue9
  t20:=Tryz.underlying20
  a20:=Tryz.isAgg20
  z20:=Tryz.sizeOf20
  v20:=Tryz.zeroValue20
  t21:=Tryz.underlying21
  a21:=Tryz.isAgg21
  z21:=Tryz.sizeOf21
  v21:=Tryz.zeroValue21
  t37:=Tryz.underlying52
  a37:=Tryz.isAgg52
  z37:=Tryz.sizeOf52
  v37:=Tryz.zeroValue52
  t46:=Tryz.underlying186
  a46:=Tryz.isAgg186
  z46:=Tryz.sizeOf186
  v46:=Tryz.zeroValue186
  t51:=Tryz.underlying233
  a51:=Tryz.isAgg233
  z51:=Tryz.sizeOf233
  v51:=Tryz.zeroValue233
  t53:=Tryz.underlying235
  a53:=Tryz.isAgg235
  z53:=Tryz.sizeOf235
  v53:=Tryz.zeroValue235
  t75:=Tryz.underlying65
  a75:=Tryz.isAgg65
  z75:=Tryz.sizeOf65
  v75:=Tryz.zeroValue65
  t76:=Tryz.underlying66
  a76:=Tryz.isAgg66
  z76:=Tryz.sizeOf66
  v76:=Tryz.zeroValue66
  t85:=Tryz.underlying258
  a85:=Tryz.isAgg258
  z85:=Tryz.sizeOf258
  v85:=Tryz.zeroValue258
  t127:=Tryz.underlying123
  a127:=Tryz.isAgg123
  z127:=Tryz.sizeOf123
  v127:=Tryz.zeroValue123
  t143:=Tryz.underlying290
  a143:=Tryz.isAgg290
  z143:=Tryz.sizeOf290
  v143:=Tryz.zeroValue290
  t145:=Tryz.underlying292
  a145:=Tryz.isAgg292
  z145:=Tryz.sizeOf292
  v145:=Tryz.zeroValue292
  t167:=Tryz.underlying257
  a167:=Tryz.isAgg257
  z167:=Tryz.sizeOf257
  v167:=Tryz.zeroValue257
  t168:=Tryz.underlying260
  a168:=Tryz.isAgg260
  z168:=Tryz.sizeOf260
  v168:=Tryz.zeroValue260
  t171:=Tryz.underlying250
  a171:=Tryz.isAgg250
  z171:=Tryz.sizeOf250
  v171:=Tryz.zeroValue250
  t173:=Tryz.underlying252
  a173:=Tryz.isAgg252
  z173:=Tryz.sizeOf252
  v173:=Tryz.zeroValue252
  t175:=Tryz.underlying277
  a175:=Tryz.isAgg277
  z175:=Tryz.sizeOf277
  v175:=Tryz.zeroValue277
  t210:=Tryz.underlying280
  a210:=Tryz.isAgg280
  z210:=Tryz.sizeOf280
  v210:=Tryz.zeroValue280
  t212:=Tryz.underlying272
  a212:=Tryz.isAgg272
  z212:=Tryz.sizeOf272
  v212:=Tryz.zeroValue272
  t213:=Tryz.underlying273
  a213:=Tryz.isAgg273
  z213:=Tryz.sizeOf273
  t232:=Tryz.underlying294
  a232:=Tryz.isAgg294
  z232:=Tryz.sizeOf294
  v232:=Tryz.zeroValue294
  t233:=Tryz.underlying295
  a233:=Tryz.isAgg295
  z233:=Tryz.sizeOf295
  v233:=Tryz.zeroValue295
  g15:=by kernel_rfl
  g16:=by kernel_rfl
  g17:=by kernel_rfl
  g18:=by kernel_rfl
  g19:=by kernel_rfl
  t80:=Tryz.underlying69
  a80:=Tryz.isAgg69
  z80:=Tryz.sizeOf69
  v80:=Tryz.zeroValue69
  i0:=by kernel_rfl
  i2:=by kernel_rfl
  i3:=by kernel_rfl
  i4:=by kernel_rfl
  i5:=by kernel_rfl
  i9:=by kernel_rfl
  i20:=by kernel_rfl
  i21:=by kernel_rfl
  i37:=by kernel_rfl
  i46:=by kernel_rfl
  i51:=by kernel_rfl
  i53:=by kernel_rfl
  i75:=by kernel_rfl
  i76:=by kernel_rfl
  i80:=by kernel_rfl
  i85:=by kernel_rfl
  i127:=by kernel_rfl
  i143:=by kernel_rfl
  i145:=by kernel_rfl
  i167:=by kernel_rfl
  i168:=by kernel_rfl
  i171:=by kernel_rfl
  i173:=by kernel_rfl
  i175:=by kernel_rfl
  i210:=by kernel_rfl
  i212:=by kernel_rfl
  i232:=by kernel_rfl
  i233:=by kernel_rfl
  m15:=by kernel_rfl
  m16:=by kernel_rfl
  m17:=by kernel_rfl
  m18:=by kernel_rfl
  m19:=by kernel_rfl
  c0:=by kernel_rfl
  c2:=by kernel_rfl
  c3:=by kernel_rfl
  c4:=by kernel_rfl
  c5:=by kernel_rfl
  c9:=by kernel_rfl
  c20:=by kernel_rfl
  c21:=by kernel_rfl
  c37:=by kernel_rfl
  c46:=by kernel_rfl
  c51:=by kernel_rfl
  c53:=by kernel_rfl
  c75:=by kernel_rfl
  c76:=by kernel_rfl
  c80:=by kernel_rfl
  c85:=by kernel_rfl
  c127:=by kernel_rfl
  c143:=by kernel_rfl
  c145:=by kernel_rfl
  c167:=by kernel_rfl
  c168:=by kernel_rfl
  c171:=by kernel_rfl
  c173:=by kernel_rfl
  c175:=by kernel_rfl
  c210:=by kernel_rfl
  c212:=by kernel_rfl
  c213:=by kernel_rfl
  c232:=by kernel_rfl
  c233:=by kernel_rfl}
end Go.Proofs
namespace Go.Proofs.YtlnfjkdacimblaaGreatDoor
open Go.Abs
theorem atoi_cT (s:ByteArray) (hs:s.size < 1099511627776) (H:Heap):ACalls Tryz.prog 134 [sv s] H (fun r H'=>r=.tup [iv (atoiE s).1,.pv (atoiE s).2]∧H'=H) :=
 Go.Abs.atoi_c Tryz.atoiL (G1:=2) (G2:=3) (by unfold gtab;exact .tail _ (.tail _ (.head _))) (by kernel_rfl) (by unfold gtab;exact .tail _ (.head _)) (by kernel_rfl) s hs H
end Go.Proofs.YtlnfjkdacimblaaGreatDoor
end
namespace Go.Proofs.YtlnfjkdacimblaaGreatDoor
open Go.Abs
section
theorem rows_ofY {α:Type} (f:α→List PV) (l:List α):l.map (fun e=>(f e).map AV.pv)=(l.map f).map (·.map .pv):=by rw [List.map_map];rfl
theorem take_rows {α:Type} (f:α→List PV) (l:List α):((l.map f).take (0+l.length)).drop 0=l.map f:=by rw [Nat.zero_add,List.drop_zero];exact List.take_of_length_le (by rw [List.length_map];exact Nat.le_refl _)
end
end Go.Proofs.YtlnfjkdacimblaaGreatDoor
namespace Go.Abs
open Go.Proofs
section
section
variable {P:Program} {N:Nat} {o:Oper} {E:Env} {H:Heap} {t t':TypeId} {x:Operand}
theorem opd_ne_nil (ho:o.op=.binOp .neq t x (.const .nilIface) t') (ht:P.underlying t=some (.interface (P.methodsAt t))) (hx:aeval E x=some (.pv nilI)):OpD P N o E H (.pv (.bool false)) H :=
 .of_run fun a w I ι _ he=>⟨.bool false,by
  have e1:a.eval x=.nilIface:=(aeval_rel he hx).sat_inv
  have e2:a.eval (.const .nilIface)=.nilIface:=rfl
  simp only [execOp,ho,e1,e2,eqGuard,Sem.run_bind,Sem.run_pure,Result.andThen_ok,run_neq_nil_nil _ _ ht,Bool.or_true,if_true,Bool.not_true,Bool.false_eq_true,if_false],.pv (.bool _)⟩
theorem opd_ne_err (ho:o.op=.binOp .neq t x (.const .nilIface) t') (ht:P.underlying t=some (.interface (P.methodsAt t))) (hx:aeval E x=some (.pv errI)):OpD P N o E H (.pv (.bool true)) H :=
 .of_run fun a w I ι _ he=>⟨.bool true,by
  obtain ⟨q,p,e1⟩:isErr (a.eval x):=(aeval_rel he hx).sat_inv
  have e2:a.eval (.const .nilIface)=.nilIface:=rfl
  simp only [execOp,ho,e1,e2,eqGuard,Sem.run_bind,Sem.run_pure,Result.andThen_ok,run_neq_held_nil _ _ _ _ ht]
  rfl,.pv (.bool _)⟩
end
end
end Go.Abs
namespace Go.Proofs.YtlnfjkdacimblaaGreatDoor
open Go.Abs
section
theorem number_c (s:ByteArray) (H:Heap) (hs:s.size < 1099511627776):ACalls Tryz.prog 82 [sv s] H (fun r H'=>r=iv (numV s.data.toList)∧H'=H):=by
 refine ACalls.pure ?_ (by simp) H
 have hA:=atoi_cT s hs
 unfold atoiE at hA
 unfold numV
 cases h:Lib.atoiAll s.data.toList with
 | ok v =>
  simp only [h] at hA
  refine Bd Tryz.func82 rfl Tryz.ntmps82<|Sq<|Rg<|Dd as'<|Zz<|Sq<|Rg<|Dd mv'<|Dd (by exact opr_call rfl rfl Tryz.call134 rfl (hA _))<|Dd mv'<|Dd ex'<|Dd ex'<|Dd as'<|Dd as'<|Zz<|Sq<|Sq<|Rg<|Dd mv'<|Dd (by exact opd_ne_nil rfl Tryz.underlying65 rfl)<|Zz ?_
  refine Cn (fun hc1=>?_) fun hc1=>?_
  ·cases hc1
  skip
  refine awp_skip<|Sq<|Rg<|Dd mv'<|Dd as'<|Zz<|awp_ret ?_
  refine Rt ?_
  exact⟨rfl,rfl⟩
 | range =>
  simp only [h] at hA
  refine Bd Tryz.func82 rfl Tryz.ntmps82<|Sq<|Rg<|Dd as'<|Zz<|Sq<|Rg<|Dd mv'<|Dd (by exact opr_call rfl rfl Tryz.call134 rfl (hA _))<|Dd mv'<|Dd ex'<|Dd ex'<|Dd as'<|Dd as'<|Zz<|Sq<|Sq<|Rg<|Dd mv'<|Dd (by exact opd_ne_err rfl Tryz.underlying65 rfl)<|Zz ?_
  refine Cn (fun hc1=>?_) fun hc1=>?_
  ·skip
   refine Sq<|Rg<|Dd as'<|Zz<|awp_ret ?_
   refine Rt ?_
   exact⟨rfl,rfl⟩
  cases hc1
 | _ =>
  simp only [h] at hA
  refine Bd Tryz.func82 rfl Tryz.ntmps82<|Sq<|Rg<|Dd as'<|Zz<|Sq<|Rg<|Dd mv'<|Dd (by exact opr_call rfl rfl Tryz.call134 rfl (hA _))<|Dd mv'<|Dd ex'<|Dd ex'<|Dd as'<|Dd as'<|Zz<|Sq<|Sq<|Rg<|Dd mv'<|Dd (by exact opd_ne_err rfl Tryz.underlying65 rfl)<|Zz ?_
  refine Cn (fun hc1=>?_) fun hc1=>?_
  ·skip
   refine Sq<|Rg<|Dd as'<|Zz<|awp_ret ?_
   refine Rt ?_
   exact⟨rfl,rfl⟩
  cases hc1
end
section
theorem unqL_datY:∀ (l:List UInt8) (p:List UInt8×Nat),unqL l=some p→p.1.length≤l.length
 | [],p,h=>by cases h
 | [c],p,h=>by
  rw [unqL] at h
  split at h
  ·cases h;exact Nat.zero_le _
  cases h
 | c :: e :: r, p, h => by
  rw [unqL] at h
  split at h
  ·cases h;exact Nat.zero_le _
  split at h
  ·cases h
  split at h
  ·cases hg:gUnesc e with
   | none=>rw [hg] at h;cases h
   | some b =>
    rw [hg] at h
    cases hu:unqL r with
    | none=>rw [hu] at h;cases h
    | some q =>
     rw [hu] at h;cases h
     have:=unqL_datY r q hu
     show q.1.length+1≤r.length+1+1
     omega
  cases hu:unqL (e::r)with
  | none=>rw [hu] at h;cases h
  | some q =>
   rw [hu] at h;cases h
   have:=unqL_datY (e::r) q hu
   show q.1.length+1≤r.length+1+1
   rw [List.length_cons] at this
   omega
theorem extract_sizeY (s:ByteArray) (i j:Nat):(s.extract i j).size≤s.size:=by
 rw [← size_list,extract_list,List.length_take,List.length_drop,size_list]
 omega
theorem unq_sizeY (s:ByteArray):(gUnq s).1.size≤s.size:=by
 rw [gUnq]
 cases h:unqL (s.data.toList.drop 1)with
 | none=>exact Nat.zero_le _
 | some p =>
  have:=unqL_datY _ _ h
  rw [List.length_drop,size_list] at this
  show (⟨p.1.toArray⟩:ByteArray).size≤_
  rw [← size_list]
  show p.1.length≤_
  omega
theorem step_sizeY {s:ByteArray} {i:Nat} {f:GFound} {j:Nat} (h:gStep s i=(some f,j)):f.text.size≤s.size:=by
 rw [gStep] at h
 split at h
 ·cases h
 split at h
 ·cases h
 split at h
 ·cases h;exact extract_sizeY _ _ _
 split at h
 ·cases h;exact extract_sizeY _ _ _
 split at h
 ·cases h
  rw [gStr]
  split
  ·have h1:=unq_sizeY (s.extract i s.size)
   have h2:=extract_sizeY s i s.size
   show (gUnq (s.extract i s.size)).1.size≤_
   omega
  exact Nat.zero_le _
 split at h
 ·cases h;exact extract_sizeY _ _ _
 cases h;exact Nat.zero_le _
theorem toks_sizeY (s:ByteArray):∀ (n i:Nat) (f:GFound),f∈gToks s n i→f.text.size≤s.size
 | 0,_,_,h=>by cases h
 | n+1,i,f,h=>by
  rw [gToks] at h
  split at h
  ·split at h
   ·exact toks_sizeY s n _ f h
   rename_i g j hg
   rcases List.mem_cons.1 h with rfl|h
   ·exact step_sizeY hg
   split at h
   ·exact toks_sizeY s n _ f h
   cases h
  cases h
theorem run_memY:∀ (ds acc:List GFound) (f:GFound),f∈(lexRun acc ds).1→f∈acc∨f∈ds
 | [],acc,f,h=>.inl h
 | d::ds,acc,f,h=>by
  rw [lexRun] at h
  split at h
  ·cases h
  split at h
  ·cases h
  rcases run_memY ds _ f h with h|h
  ·rcases List.mem_append.1 h with h|h
   ·exact .inl h
   rw [List.mem_singleton] at h
   subst h
   exact .inr List.mem_cons_self
  exact .inr (List.mem_cons_of_mem _ h)
theorem lex_sizeY (s:ByteArray) (f:GFound) (h:f∈(gLex s).1):f.text.size≤s.size:=by
 rw [gLex] at h
 split at h
 ·cases h
 rcases run_memY _ _ f h with h|h
 ·cases h
 exact toks_sizeY s _ _ f h
theorem pad4_mem {T:List GFound} {n:Nat} (h:∀ f∈T,f.text.size≤n):∀ f∈pad4 T,f.text.size≤n:=fun f hf=>by
 rw [pad4] at hf
 rcases List.mem_append.1 hf with h1|h1
 ·exact h f h1
 rw [(List.mem_replicate.1 h1).2]
 exact Nat.zero_le _
theorem tagsR_mem:∀ (T:List GFound) (n:Nat),(∀ f∈T,f.text.size≤n)→(tagsR T).length≤T.length∧∀ t∈tagsR T,t.key.size≤n∧t.val.size≤n
 | [],n,_=>by simp [tagsR]
 | [a],n,_=>by simp [tagsR]
 | [a,b],n,_=>by simp [tagsR]
 | a::b::c::r,n,h=>by
  obtain ⟨i1,i2⟩:=tagsR_mem r n fun f hf=>h f (by simp [hf])
  rw [tagsR]
  refine⟨by simp only [List.length_cons];omega,fun t ht=>?_⟩
  rcases List.mem_cons.1 ht with rfl|ht
  ·exact⟨h a (by simp),h c (by simp)⟩
  exact i2 t ht
theorem pad4_len (T:List GFound):(pad4 T).length≤T.length+4:=by rw [pad4,List.length_append,List.length_replicate];omega
theorem readO_ok {T:List GFound} {n:Nat} (h:∀ f∈T,f.text.size≤n) (hn:n < 4611686018427387904) (hl:T.length < 549755813888):okO (gReadO T):=by
 have hp:=pad4_mem h
 have hpl:=pad4_len T
 have hg:∀ i,((pad4 T).getD i noF).text.size≤n:=fun i=>by
  rw [List.getD_eq_getElem?_getD]
  cases e:(pad4 T)[i]? with
  | none=>exact Nat.zero_le _
  | some f=>exact hp f (List.mem_of_getElem? e)
 have ht:∀ k,okTags (tagsR ((pad4 T).drop k)):=fun k=>by
  obtain ⟨a,b⟩:=tagsR_mem ((pad4 T).drop k) n fun f hf=>hp f (List.mem_of_mem_drop hf)
  rw [List.length_drop] at a
  exact⟨by omega,fun t htt=>by have:=b t htt;omega⟩
 rw [gReadO]
 split
 ·exact⟨Nat.lt_of_le_of_lt (hg 1) hn,ht _,by show 0 < _;omega,fun s hs=>by cases hs⟩
 split
 ·exact⟨by decide,⟨by decide,fun t h=>by cases h⟩,by decide,fun s hs=>by cases hs⟩
 refine⟨Nat.lt_of_le_of_lt (hg 1) hn,ht _,?_,fun s hs=>?_⟩
 ·show (List.map _ _).length < _
  rw [List.length_map,List.length_drop,List.length_take]
  omega
 obtain ⟨f,hf,rfl⟩:=List.mem_map.1 hs
 have:=hp f (List.mem_of_mem_take (List.mem_of_mem_drop hf))
 omega
theorem split_word (c:UInt8):∀ {l w:List UInt8},w∈splitC c l→w.length≤l.length
 | [],w,h=>by
  rw [splitC,List.mem_singleton] at h
  rw [h]
  exact Nat.le_refl _
 | b::l,w,h=>by
  have hp:=splitC_pos c l
  rw [splitC] at h
  cases e:splitC c l with
  | nil=>rw [e] at hp;exact absurd hp (Nat.lt_irrefl 0)
  | cons x r =>
   have ih:∀ y∈x::r,y.length≤l.length:=fun y hy=>split_word c (by rw [e];exact hy)
   rw [e] at h
   rw [List.length_cons]
   split at h
   ·rcases List.mem_cons.1 h with rfl|h
    ·exact Nat.zero_le _
    exact Nat.le_succ_of_le (ih w h)
   rcases List.mem_cons.1 h with rfl|h
   ·exact Nat.succ_le_succ (ih _ List.mem_cons_self)
   exact Nat.le_succ_of_le (ih w (List.mem_cons_of_mem _ h))
theorem parseO_ok {s:ByteArray} (hs:s.size < 1099511627776):okO (gReadO (gLex s).1):=readO_ok (fun f hf=>lex_sizeY s f hf) (by omega) (lex_toks_len s hs)
end
section
theorem encStr_rlY (l:List ByteArray):∀ r∈l.map encStr,r.length=1:=fun r hr=>by
 obtain ⟨s,_,rfl⟩:=List.mem_map.1 hr
 rfl
theorem and_t {p q:Prop} [Decidable p] [Decidable q] (h:(decide p&&decide q)=true):p∧q:=by simpa using h
theorem and_f {p q:Prop} [Decidable p] [Decidable q] (h:(decide p&&decide q)=false):¬ (p∧q):=by
 intro h2
 simp [h2] at h
/-! ### change.read -/
end
section
def eRows (l:List GEdit):List (List AV):=l.map fun e=>(encEdit e).map AV.pv
theorem eRows_len (l:List GEdit):(eRows l).length=l.length:=List.length_map _
theorem eRows_app (l:List GEdit) (e:GEdit):eRows l++[(encEdit e).map AV.pv]=eRows (l++[e]):=by rw [eRows,eRows,List.map_append];rfl
theorem eRows_clo (H:Heap) (l:List GEdit):∀ r∈eRows l,∀ a∈r,Clo H a:=by
 intro r hr a ha
 obtain ⟨d,_,rfl⟩:=List.mem_map.1 hr
 obtain ⟨p,_,rfl⟩:=List.mem_map.1 ha
 simp
theorem lB_clo (H:Heap) (s:ByteArray):∀ r∈(lB s).rows,∀ a∈r,Clo H a:=by
 intro r hr a ha
 simp only [lB,bx,List.mem_singleton] at hr
 subst hr
 rw [List.mem_singleton] at ha
 subst ha
 simp
/-- What change.Parse keeps of its frame. -/
def pcE (t:ByteArray):Env:=[(0,sv t),(4,.ref 4 0 0 0)]
def lnE (t:ByteArray) (k:Nat):GEdit:=gReadE (trimB (lineA (restA t k))).data.toList
def lnsE (t:ByteArray) (k:Nat):List GEdit:=(List.range k).map (lnE t)
theorem lnsE_next (t:ByteArray) (k:Nat):lnsE t (k+1)=lnsE t k++[lnE t k]:=by rw [lnsE,List.range_succ,List.map_append];rfl
theorem lnsE_len (t:ByteArray) (k:Nat):(lnsE t k).length=k:=by rw [lnsE,List.length_map,List.length_range]
theorem lnsE_all (t:ByteArray):lnsE t (linesS t).length=(linesC t.data.toList).map fun s=>gReadE (Lib.trimSuffix s [10]):=by
 refine List.ext_getElem? fun k=>?_
 rw [lnsE,List.getElem?_map,List.getElem?_map]
 by_cases h:k < (linesS t).length
 ·have h1:=(line_at h).1
  rw [linesS,List.getElem?_map] at h1
  cases e:(linesC t.data.toList)[k]? with
  | none=>rw [e] at h1;cases h1
  | some w =>
   rw [e] at h1
   have h1:ofY w=lineA (restA t k):=Option.some.inj h1
   rw [List.getElem?_range h,Option.map_some,Option.map_some,lnE,← h1,trimB_eq,ofL_list]
   congr 3
 have h2:(linesC t.data.toList)[k]?=none:=by
  rw [linesS,List.length_map] at h
  exact List.getElem?_eq_none (by omega)
 rw [h2,List.getElem?_eq_none (by simpa using h)]
 rfl
def pcK (t s:ByteArray) (k:Nat):Heap:=[(933,lB s),(905,⟨k,15,51,eRows (lnsE t k)⟩),(4,bx 1 22 [.osl 905 k 0 k])]
theorem get_shY {a b c:Ob} {K:Heap} (j:Nat):Heap.get ((904,b)::(933,a)::K) j=Heap.get ((933,a)::(904,b)::(933,c)::K) j:=by
 by_cases h1:j=904
 ·subst h1;rfl
 by_cases h2:j=933
 ·subst h2;rfl
 rw [get_cons_other _ _ h1,get_cons_other _ _ h2,get_cons_other _ _ h2,get_cons_other _ _ h1,get_cons_other _ _ h2]
theorem trimB_size (s:ByteArray):(trimB s).size≤s.size:=by
 rw [trimB]
 split
 ·rw [← size_list,exL,List.length_take,List.length_drop,size_list];omega
 exact Nat.le_refl _
theorem lineA_size (s:ByteArray):(lineA s).size≤s.size:=by
 rw [lineA]
 split
 ·exact Nat.le_refl _
 rw [← size_list,exL,List.length_take,List.length_drop,size_list];omega
theorem lineA_small {t:ByteArray} {k:Nat} (h:k≤(linesS t).length):(trimB (lineA (restA t k))).size≤t.size:=Nat.le_trans (trimB_size _) (Nat.le_trans (lineA_size _) (rest_drop t k h).2)
theorem ofL_small {w:List UInt8} {n:Nat} (h:w.length≤n) (hn:n < 4611686018427387904):(ofL w).size < 4611686018427387904:=by rw [ofL_size];omega
theorem gParseO_ok {s:ByteArray} (hs:s.size < 1099511627776):okO (gParseO s).1:=by
 rw [gParseO]
 split
 ·exact⟨by decide,⟨by decide,fun t h=>by cases h⟩,by decide,fun s hs=>by cases hs⟩
 split
 ·exact parseO_ok hs
 exact⟨by decide,⟨by decide,fun t h=>by cases h⟩,by decide,fun s hs=>by cases hs⟩
theorem zObj_ok:okO zObj:=⟨by decide,⟨by decide,fun t h=>by cases h⟩,by decide,fun s hs=>by cases hs⟩
theorem nilr_ok:([]:List ByteArray).length < 4611686018427387904∧∀ s∈([]:List ByteArray),s.size < 4611686018427387904:=⟨by decide,fun s hs=>by cases hs⟩
theorem sNil_small:sNil.size < 4611686018427387904:=by decide
theorem gReadE_ok {s:List UInt8} (hs:s.length≤20000):okE (gReadE s):=by
 have hw:∀ i,(ofL ((splitC 32 s).getD i [])).size < 4611686018427387904:=fun i=>by
  refine ofL_small (n:=20000) ?_ (by decide)
  rw [List.getD_eq_getElem?_getD]
  cases e:(splitC 32 s)[i]? with
  | none=>exact Nat.zero_le _
  | some w=>exact Nat.le_trans (split_word 32 (List.mem_of_getElem? e)) hs
 have hz:∀ (op x y:Int),okE ⟨op,sNil,sNil,sNil,x,y,sNil,sNil,[],zObj⟩:=fun op x y=>⟨⟨sNil_small,sNil_small,sNil_small,sNil_small⟩,nilr_ok,zObj_ok⟩
 rw [gReadE,readW]
 split
 ·exact⟨⟨sNil_small,sNil_small,sNil_small,sNil_small⟩,nilr_ok,gParseO_ok (by rw [ofL_size,List.length_drop];omega)⟩
 split
 ·exact⟨⟨hw 1,sNil_small,sNil_small,sNil_small⟩,nilr_ok,zObj_ok⟩
 split
 ·split
  ·exact⟨⟨hw 1,sNil_small,sNil_small,hw 2⟩,nilr_ok,zObj_ok⟩
  exact hz _ _ _
 split
 ·refine⟨⟨hw 1,sNil_small,sNil_small,sNil_small⟩,⟨?_,fun x hx=>?_⟩,zObj_ok⟩
  ·show (List.map _ _).length < _
   have:=List.count_le_length (l:=s) (a:=32)
   rw [List.length_map,List.length_drop,splitC_len]
   omega
  obtain ⟨w,hw2,rfl⟩:=List.mem_map.1 hx
  exact ofL_small (n:=20000) (Nat.le_trans (split_word 32 (List.mem_of_mem_drop hw2)) hs) (by decide)
 split
 ·exact⟨⟨hw 1,sNil_small,sNil_small,sNil_small⟩,nilr_ok,zObj_ok⟩
 split
 ·exact⟨⟨hw 1,hw 3,hw 2,sNil_small⟩,nilr_ok,zObj_ok⟩
 split
 ·exact⟨⟨hw 1,hw 2,sNil_small,sNil_small⟩,nilr_ok,zObj_ok⟩
 exact hz _ _ _
theorem lines_len:∀ {t:ByteArray} {n:Nat},t.size≤n→(linesS t).length≤n
 | t,0,h=>by rw [lines_nil (by omega)];exact Nat.le_refl _
 | t,n+1,h=>by
  by_cases hp:0 < t.size
  ·rw [(lines_cons hp).1,List.length_cons]
   refine Nat.succ_le_succ (lines_len (n:=n) ?_)
   rw [nextA]
   split
   ·exact Nat.zero_le _
   next h1 =>
   obtain ⟨w,r,e1,e2,e3,e4,e5,e6⟩:=ix_at h1
   rw [e3,Int.toNat_natCast,← szY,e5]
   omega
  rw [lines_nil hp];exact Nat.zero_le _
end
end Go.Proofs.YtlnfjkdacimblaaGreatDoor
