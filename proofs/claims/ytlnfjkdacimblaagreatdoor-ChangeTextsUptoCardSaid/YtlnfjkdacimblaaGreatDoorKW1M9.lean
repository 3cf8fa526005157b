/-
  PLAIN: the text of a change set is read back. Conditions: none.
  CONTRACT: object.Text. Conditions: the argument's sizes.
  PLAIN: the text of a change set is read back: each line, the whole. Conditions: none.
  PLAIN: the words of a line as the code cuts them. Conditions: none.
  CONTRACTS: change.line. Conditions: the edit is valid.
  PLAIN: the text of a change set is read back as a whole; different ones have different texts. Conditions: none.
  CONTRACTS: strings.Builder beside other objects, change.Text. Conditions: sizes.
  CONTRACTS: lexer.Lex, the tokens owned by the caller. Conditions: lengths below 2^40. (Printed by gen/y15.py out of XT6.)
  THE ABSTRACT LOGIC, 41: calls that only make new blocks. Conditions: each rule's own premises.
  THE ABSTRACT LOGIC, 42: strconv.Atoi, the library's contracts carried over; an error held against nil. Conditions: each rule's own premises.
  CONTRACT: strconv.Atoi. Conditions: lengths below 2^40.
  CONTRACTS: slices.IndexFunc at tokens, object.read. Conditions: lengths below 2^39.
  THE ABSTRACT LOGIC, 43: an error held against nil. Conditions: each rule's own premises.
  CONTRACT: change.number. Conditions: lengths below 2^40.
  PLAIN: the sizes of tokens; what they read as is of a moderate size. Conditions: none.
-/
import Derived.Test.YtlnfjkdacimblaaGreatDoorKW1M8
import Derived.Below
import Derived.Shelf.Strconv.ErrVarAll
import Derived.Shelf.Strconv.AtoiAll
import Derived.Shelf.LaysC
import Derived.Ground.NamesProg
import Derived.WideLaws
set_option linter.unusedVariables false
set_option linter.unusedSimpArgs false
set_option maxRecDepth 100000
set_option maxHeartbeats 2000000
namespace Go.Proofs.YtlnfjkdacimblaaGreatDoor
open Go.Abs
section
def ofL (l:List UInt8):ByteArray:=⟨l.toArray⟩
theorem ofL_list (l:List UInt8):(ofL l).data.toList=l:=by simp [ofL]
theorem ofL_of (s:ByteArray):ofL s.data.toList=s:=ba_ext (ofL_list _)
theorem ofL_size (l:List UInt8):(ofL l).size=l.length:=by rw [← size_list,ofL_list]
/-- What object.Parse makes of a text. -/
def gParseO (s:ByteArray):GObj×Int:=if 20000 < s.size then(zObj,2)else if(gLex s).2.1=0∧gObjT (gReadO (gLex s).1)=(s,0)then(gReadO (gLex s).1,0)else(zObj,5)
theorem objT_ok {o:GObj} (h:(gObjT o).2=0):gObj o=true∧gObjT o=(objB o,0)∧(objB o).size≤20000:=by
  rw [gObjT] at h ⊢
  by_cases hg:gObj o=true
  · rw [if_pos hg] at h ⊢
    by_cases h1:0 < o.tags.length∧(gText o.tags).2≠0
    · rw [if_pos h1] at h
      exact absurd h h1.2
    · rw [if_neg h1] at h ⊢
      by_cases h2:20000 < (objB o).size
      · rw [if_pos h2] at h;cases h
      · rw [if_neg h2]
        exact⟨hg,rfl,by omega⟩
  · rw [if_neg hg] at h;cases h
theorem parse_objT {o:GObj} (h:(gObjT o).2=0):gParseO (gObjT o).1=(o,0):=by
  obtain ⟨hg,ht,hs⟩:=objT_ok h
  obtain ⟨T,hT,h1,h2,h3⟩:=read_obj hg
  have hlex:gLex (objB o)=(T,0,0):=by
    rw [gLex,if_neg (by omega),hT _ (by rw [← size_list];exact Nat.le_succ _),lexRun_ok T [] h1 (by rw [List.length_nil];omega),List.nil_append]
  rw [ht,gParseO,if_neg (by show ¬ 20000 < (objB o).size;omega)]
  show (if(gLex (objB o)).2.1=0∧gObjT (gReadO (gLex (objB o)).1)=(objB o,0)then(gReadO (gLex (objB o)).1,(0:Int))else(zObj,5))=(o,0)
  rw [hlex]
  show (if(0:Int)=0∧gObjT (gReadO T)=(objB o,0)then(gReadO T,(0:Int))else(zObj,5))=(o,0)
  rw [h3,if_pos ⟨rfl,ht⟩]
/-! ### lines -/
def wPut:List UInt8:=[112,117,116]
def wMove:List UInt8:=[109,111,118,101]
def wTag:List UInt8:=[116,97,103]
def wRefs:List UInt8:=[114,101,102,115]
def wDrop:List UInt8:=[100,114,111,112]
def wSplit:List UInt8:=[115,112,108,105,116]
def wJoin:List UInt8:=[106,111,105,110]
/-- The words of the line of an edit that puts no object. -/
def lineW (e:GEdit):List (List UInt8) :=
  if e.op=2 then[wMove,e.id.data.toList,Lib.itoa e.x,Lib.itoa e.y] else if e.op=3 then[wTag,e.id.data.toList,e.key.data.toList,gQuote e.val.data.toList]
  else if e.op=4 then wRefs::e.id.data.toList::bs e.refs else if e.op=5 then[wDrop,e.id.data.toList]
  else if e.op=6 then[wSplit,e.id.data.toList,e.node.data.toList,e.other.data.toList] else[wJoin,e.id.data.toList,e.other.data.toList]
def lineY (e:GEdit):List UInt8:=if e.op=1 then wPut++32::(gObjT e.obj).1.data.toList else gJoinS [32] (lineW e)
def lineErr (e:GEdit):Int:=if e.op=1 then(gObjT e.obj).2 else 0
def textF:List UInt8→List GEdit→List UInt8×Int
  | acc,[]=>(acc,0)
  | acc,e::r=>if lineErr e≠0∨20000 < (acc++(lineY e++[10])).length then([],2)else textF (acc++(lineY e++[10])) r
/-- The text of a change set, or why it has none. -/
def gTextC (l:List GEdit):ByteArray×Int:=if gChange l then(ofL (textF [] l).1,(textF [] l).2)else(sNil,1)
def numV (s:List UInt8):Int:=match Lib.atoiAll s with
  | .ok v=>v
  | _ => -1
def eNone:GEdit:=⟨0,sNil,sNil,sNil,0,0,sNil,sNil,[],zObj⟩
/-- The edit that the words of a line seem to be. -/
def readW (w:List (List UInt8)) (word rest:List UInt8):GEdit :=
  if word=wPut then⟨1,sNil,sNil,sNil,0,0,sNil,sNil,[],(gParseO (ofL rest)).1⟩
  else if word=wMove∧w.length=4 then⟨2,ofL (w.getD 1 []),sNil,sNil,numV (w.getD 2 []),numV (w.getD 3 []),sNil,sNil,[],zObj⟩
  else if word=wTag∧3 < w.length then(match (gLex (ofL (gJoinS [32] (w.drop 3)))).1 with
    | [f]=>⟨3,ofL (w.getD 1 []),sNil,sNil,0,0,ofL (w.getD 2 []),f.text,[],zObj⟩
    | _=>eNone)
  else if word=wRefs∧1 < w.length then⟨4,ofL (w.getD 1 []),sNil,sNil,0,0,sNil,sNil,(w.drop 2).map ofL,zObj⟩
  else if word=wDrop∧w.length=2 then⟨5,ofL (w.getD 1 []),sNil,sNil,0,0,sNil,sNil,[],zObj⟩
  else if word=wSplit∧w.length=4 then⟨6,ofL (w.getD 1 []),ofL (w.getD 3 []),ofL (w.getD 2 []),0,0,sNil,sNil,[],zObj⟩
  else if word=wJoin∧w.length=3 then⟨7,ofL (w.getD 1 []),ofL (w.getD 2 []),sNil,0,0,sNil,sNil,[],zObj⟩
  else eNone
def gReadE (s:List UInt8):GEdit:=readW (splitC 32 s) ((splitC 32 s).headD []) (s.drop (((splitC 32 s).headD []).length+1))
/-- The change set of a text. -/
def gParseC (t:ByteArray):List GEdit×Int :=
  if 20000 < t.size then([],2)else if gTextC ((linesC t.data.toList).map fun s=>gReadE (Lib.trimSuffix s [10]))=(t,0)then((linesC t.data.toList).map fun s=>gReadE (Lib.trimSuffix s [10]),0)else([],5)
/-! ### no blank, no end of a line -/
theorem name_free {k:ByteArray} (hk:gName k=true) {b:UInt8} (hb:b∈k.data.toList):cls (b.toNat:Int)=3∨cls (b.toNat:Int)=4∨cls (b.toNat:Int)=5:=by
  obtain ⟨j,hj⟩:=List.mem_iff_getElem?.1 hb
  have hlt:=(List.getElem?_eq_some_iff.1 hj).1
  rw [size_list] at hlt
  have h:=(name_chars hk).2.2.2 j hlt
  have e:byteAt k j=(b.toNat:Int):=by rw [byteAt,hj];rfl
  rwa [e] at h
theorem name_no {k:ByteArray} (hk:gName k=true):(32:UInt8)∉k.data.toList∧(10:UInt8)∉k.data.toList:=by
  constructor
  · intro h
    have:=name_free hk h
    revert this
    decide
  · intro h
    have:=name_free hk h
    revert this
    decide
theorem itoa_no {x:Int} (h:0≤x):(32:UInt8)∉Lib.itoa x∧(10:UInt8)∉Lib.itoa x:=by
  rw [itoa_nat x h]
  constructor
  · intro h
    have:=(digits_mem _ h).1
    revert this
    decide
  · intro h
    have:=(digits_mem _ h).1
    revert this
    decide
theorem quote_no (l:List UInt8):(10:UInt8)∉gQuote l:=by
  rw [gQuote]
  simp only [List.mem_cons,List.mem_append,List.mem_flatMap,List.not_mem_nil,or_false,not_or]
  refine⟨by decide,?_,by decide⟩
  rintro⟨b,_,h⟩
  rw [gEsc] at h
  by_cases h1:b=10
  · rw [if_pos h1] at h
    revert h
    decide
  · rw [if_neg h1] at h
    by_cases h2:b=34∨b=92
    · rw [if_pos h2] at h
      simp only [List.mem_cons,List.not_mem_nil,or_false] at h
      rcases h with h|h
      · revert h;decide
      · exact h1 h.symm
    · rw [if_neg h2,List.mem_singleton] at h
      exact h1 h.symm
theorem joinS_no {b:UInt8} (hb:b≠32):∀ {l:List (List UInt8)},(∀ w∈l,b∉w)→b∉gJoinS [32] l
  | [],_,h=>by cases h
  | x :: l, hl, h => by
    rw [gJoinS] at h
    rcases List.mem_append.1 h with h|h
    · exact hl x List.mem_cons_self h
    · obtain ⟨y,hy,h⟩:=List.mem_flatMap.1 h
      rcases List.mem_append.1 h with h|h
      · rw [List.mem_singleton] at h;exact hb h
      · exact hl y (List.mem_cons_of_mem _ hy) h
theorem more_no {l:List GTag} (h:∀ t,t∈l→gName t.key=true):(10:UInt8)∉moreL l:=by
  intro hm
  obtain ⟨t,ht,hm⟩:=List.mem_flatMap.1 hm
  rw [lineL] at hm
  simp only [List.mem_cons,List.mem_append] at hm
  rcases hm with h1|h1|h1|h1
  · revert h1;decide
  · exact(name_no (h t ht)).2 h1
  · revert h1;decide
  · exact quote_no _ h1
theorem obj_no {o:GObj} (hg:gObj o=true):(10:UInt8)∉objL o:=by
  obtain ⟨hr,ht,htg,hid,_⟩:=gObj_len hg
  obtain ⟨hx,hy,_,_⟩:=at_xy hg
  have hkey:∀ t,t∈o.tags→gName t.key=true:=fun t h=>((gTags_iff.1 htg).1 t h).1
  intro h
  rw [objL,objHead] at h
  simp only [List.mem_cons,List.mem_append] at h
  rcases h with(h|h|h|h|h)|h
  · exact(name_no (word_name (kind_of hg)).1).2 h
  · revert h;decide
  · exact(name_no hid).2 h
  · revert h;decide
  · split at h
    · simp only [List.mem_cons,List.mem_append] at h
      rcases h with h|h|h
      · exact(itoa_no hx.1).2 h
      · revert h;decide
      · exact(itoa_no hy.1).2 h
    · simp only [List.mem_cons,List.mem_append,List.not_mem_nil,or_false] at h
      rcases h with h|h|h
      · revert h;decide
      · refine joinS_no (by decide) (fun w hw=>?_) h
        obtain ⟨s,hs,rfl⟩:=List.mem_map.1 hw
        exact(name_no (refs_names hg s hs)).2
      · revert h;decide
  · exact more_no hkey h
end
section
abbrev oB (o:GObj):Heap:=[(1,bx 6 49 ((encObj o).map .pv))]
theorem putW_ne {l:List UInt8} (h:l≠[]) (s:ByteArray):putW l s=l++32::s.data.toList:=by rw [putW,if_neg h]
theorem put1 (K:Heap) (s:ByteArray) (hl:s.size < 70368744177663):ACalls Tryz.prog 121 [.ref 2001 0 0 0,sv s] (bldW 0 [] false++K) (fun r H'=>r=.tup []∧H'=bldW 1 s.data.toList true++K):=by
 have h:=put_cK K 0 [] false s (by rw [List.length_nil];omega)
 rwa [if_pos rfl,show putW [] s=s.data.toList from rfl] at h
theorem put2 (K:Heap) (g:Nat) (l:List UInt8) (s:ByteArray) (h0:l≠[]) (hl:l.length+s.size < 70368744177663):ACalls Tryz.prog 121 [.ref 2001 0 0 0,sv s] (bldW g l true++K) (fun r H'=>r=.tup []∧H'=bldW (g+2) (l++32::s.data.toList) true++K):=by
 have h:=put_cK K g l true s hl
 rwa [if_neg h0,putW_ne h0] at h
theorem strW_cK (K:Heap) (g:Nat) (l:List UInt8) (u:Bool) (hl:l.length < 70368744177664):ACalls Tryz.prog 35 [.ref 2001 0 0 0] (bldW g l u++K) (fun r H'=>r=sv ⟨l.toArray⟩∧H'=bEndW g l u++(bldW g l u++K)) :=
 ACalls.frame (strW_c g l u hl) subW (Closed.ofL ⟨(by exact bObW_clo rfl rfl),(by exact brows_clo _ _),trivial⟩) (by simp;rfl) (fun id h=>.inl (by
  simp only [bEndW,bldW,Heap.get] at h ⊢
  cases e1:Nat.beq 2001 id with
  | true=>rfl
  | false =>
   cases e2:Nat.beq 2002 id with
   | true=>rfl
   | false=>rw [e1,e2] at h;cases h))
theorem objT_tags {o:GObj} (hg:gObj o=true) (h:0 < o.tags.length∧(gText o.tags).2≠0):gObjT o=(sNil,(gText o.tags).2):=by rw [gObjT,if_pos hg,if_pos h]
theorem objT_long {o:GObj} {L:List UInt8} (hg:gObj o=true) (h:¬ (0 < o.tags.length∧(gText o.tags).2≠0)) (hL:objL o=L) (h2:20000 < L.length):gObjT o=(sNil,2):=by
 have hs:(objB o).size=L.length:=by rw [← hL,← size_list];rfl
 rw [gObjT,if_pos hg,if_neg h,if_pos (by rw [hs];exact h2)]
theorem objT_fine {o:GObj} {L:List UInt8} (hg:gObj o=true) (h:¬ (0 < o.tags.length∧(gText o.tags).2≠0)) (hL:objL o=L) (h2:¬ 20000 < L.length):gObjT o=(⟨L.toArray⟩,0):=by
 have hs:(objB o).size=L.length:=by rw [← hL,← size_list];rfl
 rw [gObjT,if_pos hg,if_neg h,if_neg (by rw [hs];exact h2),objB,hL]
theorem text_more {l:List GTag} (h0:0 < l.length) (h:(gText l).2=0):32::(gText l).1.data.toList=moreL l∧(gText l).1.size≤20000:=by
 rw [gText] at h ⊢
 by_cases h1:gTags l=true
 ·rw [if_pos h1] at h ⊢
  by_cases h2:20000 < (gTagS l).size
  ·rw [if_pos h2] at h;cases h
  rw [if_neg h2]
  refine⟨?_,by show (gTagS l).size≤_;omega⟩
  cases l with
  | nil=>exact absurd h0 (Nat.lt_irrefl 0)
  | cons t l =>
   show 32::(gTagS (t::l)).data.toList=_
   rw [tagS_list]
   simp [moreL]
 rw [if_neg h1] at h;cases h
theorem flat_size:∀ l:List ByteArray,(l.flatMap fun k=>32::k.data.toList).length=l.length+sizes l
 | []=>rfl
 | k::l=>by
  have ih:=flat_size l
  rw [List.flatMap_cons,List.length_append,List.length_cons,List.length_cons,ih,size_list,sizes,sizes,List.map_cons,List.sum_cons]
  omega
theorem join_size (l:List ByteArray):(gJoinS [32] (bs l)).length≤l.length+sizes l:=by
 cases l with
 | nil=>exact Nat.zero_le _
 | cons k l =>
  rw [joinS_cons,List.length_append,flat_size,size_list,List.length_cons,sizes,sizes,List.map_cons,List.sum_cons]
  omega
theorem objText_c (o:GObj) (H:Heap) (ho:okO o):ACalls Tryz.prog 67 [av (encObj o)] H (fun r H'=>r=.tup [sv (gObjT o).1,iv (gObjT o).2]∧H'=H):=by
 refine ACalls.pure ?_ (by simp) H
 refine Bd Tryz.func67 rfl Tryz.ntmps67<|Sq<|Rg<|Dd (by exact opd_box (id:=1) rfl rfl rfl rfl rfl)<|Dd as'<|Dd as'<|Zz<|Sq<|Sq<|Rg<|Dd (ln' Tryz.isAgg49 Tryz.sizeOf49)<|Dd (by exact opr_call rfl rfl Tryz.call91 rfl (objValid_c o _ ho))<|Dd no'<|Zz ?_
 refine Cn (fun hc1=>?_) fun hc1=>?_
 ·have hg:gObj o=false:=by rw [← Bool.not_eq_true'];exact hc1
  have e:gObjT o=(sNil,1):=by rw [gObjT,if_neg (by rw [hg];decide)]
  rw [e]
  refine Sq<|Rg<|Dd as'<|Dd as'<|Zz<|awp_ret ?_
  refine Ru ?_
  exact⟨rfl,rfl⟩
 have hg:gObj o=true:=by rw [← Bool.not_eq_false'];exact hc1
 obtain ⟨hr,ht,htg,hid,_⟩:=gObj_len hg
 obtain ⟨hx,hy,hn,hz⟩:=at_xy hg
 have hw:=(word_name (kind_of hg)).1
 have hws:=gName_size hw
 have his:=gName_size hid
 have hwp:=(name_chars hw).1
 have hw0:(gWord o.kind).data.toList≠[]:=fun e=>by have:=congrArg List.length e;rw [size_list,List.length_nil] at this;omega
 refine awp_skip<|Sq<|Rg<|Dd (by exact x_alloc (id:=2001) rfl zoN159 rfl rfl)<|Zz<|Sq ?_
 refine AWp.ent (E':=[(1,.ref 1 0 0 0),(2,sv sNil),(3,iv 0),(4,.ref 2001 0 0 0)]) (H':=[(2002,⟨0,1,5,[]⟩),(2001,bObW (.osl 2002 0 0 0) false),(1,bx 6 49 ((encObj o).map .pv))]) (Ent.nz 2002 1 5 rfl rfl ⟨⟨_,rfl,(by exact Nz.same (by(simp;rfl)))⟩,⟨_,rfl,(by exact Nz.same (by(simp;done)))⟩,⟨_,rfl,(by exact Nz.same (by(simp;done)))⟩,⟨_,rfl,(by exact Nz.same (by(simp;rfl)))⟩,trivial⟩ ⟨⟨_,rfl,rfl,rfl,rfl,(by exact .inr ⟨_,_,rfl,rfl,(by repeat(first|exact trivial|refine⟨(by first|exact Nz.own|exact Nz.same (by(simp;done))),?_⟩))⟩)⟩,⟨_,rfl,rfl,rfl,rfl,(by exact .inl ⟨rfl,(by(simp;done))⟩)⟩,trivial⟩ trivial) ?_
 refine AWp.ent (E':=[(1,.ref 1 0 0 0),(2,sv sNil),(3,iv 0),(4,.ref 2001 0 0 0)]) (H':=bldW 0 [] false++oB o) (Ent.get (fun _=>rfl) (fun j=>get_swap (by decide) j)) ?_
 refine Rg<|Dd (fr' fo49_1)<|Dd (l1' Tryz.isAgg3)<|Dd (by exact opr_call rfl rfl Tryz.call122 rfl (word_c o.kind _))<|Dd (by exact opr_call rfl rfl Tryz.call121 rfl (put1 (oB o) (gWord o.kind) (by omega)))<|Zz<|Sq<|Rg<|Dd (fr' fo49_0)<|Dd (l1' Tryz.isAgg9)<|Dd (by exact opr_call rfl rfl Tryz.call121 rfl (put2 (oB o) 1 (gWord o.kind).data.toList o.id hw0 (by rw [size_list];omega)))<|Zz<|Sq<|Sq ?_
 obtain ⟨L1,hL1⟩:∃ L,L=(gWord o.kind).data.toList++32::o.id.data.toList:=⟨_,rfl⟩
 have hn1:L1≠[]:=by rw [hL1];simp
 have hl1:L1.length≤49:=by rw [hL1,List.length_append,List.length_cons,size_list,size_list];omega
 rw [← hL1]
 by_cases hk:o.kind=1
 ·have six:(itoaB o.x).size≤7:=by rw [← size_list];show (Lib.itoa o.x).length≤7;rw [itoa_nat _ hx.1];exact digits_small (by omega) (by decide)
  have siy:(itoaB o.y).size≤7:=by rw [← size_list];show (Lib.itoa o.y).length≤7;rw [itoa_nat _ hy.1];exact digits_small (by omega) (by decide)
  obtain ⟨L2,hL2⟩:∃ L,L=L1++32::(itoaB o.x).data.toList:=⟨_,rfl⟩
  have hn2:L2≠[]:=by rw [hL2];simp
  have hl2:L2.length≤57:=by rw [hL2,List.length_append,List.length_cons,size_list];omega
  have p2:=put2 (oB o) (1+2) L1 (itoaB o.x) hn1 (by omega)
  rw [← hL2] at p2
  obtain ⟨L3,hL3⟩:∃ L,L=L2++32::(itoaB o.y).data.toList:=⟨_,rfl⟩
  have hn3:L3≠[]:=by rw [hL3];simp
  have hl3:L3.length≤200000:=by rw [hL3,List.length_append,List.length_cons,size_list];omega
  have p3:=put2 (oB o) (1+2+2) L2 (itoaB o.y) hn2 (by omega)
  rw [← hL3] at p3
  have hH:objHead o=L3:=by
   rw [objHead,if_pos hk,hL3,hL2,hL1]
   show _=(_++32::Lib.itoa o.x)++32::Lib.itoa o.y
   simp
  refine Rg<|Dd (fr' fo49_1)<|Dd (l1' Tryz.isAgg3)<|Dd eql'<|Zz ?_
  refine Cn (fun hc2=>?_) fun hc2=>?_
  ·skip
   refine Sq<|Rg<|Dd (fr' fo49_2)<|Dd (fr' fo45_0)<|Dd (l1' Tryz.isAgg3)<|Dd (by exact opr_call rfl rfl Tryz.call68 rfl (itoa_cT o.x (by omega) (by omega) _))<|Dd (by exact opr_call rfl rfl Tryz.call121 rfl (p2))<|Zz<|Rg<|Dd (fr' fo49_2)<|Dd (fr' fo45_1)<|Dd (l1' Tryz.isAgg3)<|Dd (by exact opr_call rfl rfl Tryz.call68 rfl (itoa_cT o.y (by omega) (by omega) _))<|Dd (by exact opr_call rfl rfl Tryz.call121 rfl (p3))<|Zz<|Sq<|Sq<|Rg<|Dd (fr' fo49_4)<|Dd (l1' Tryz.isAgg47)<|Dd (ll' Tryz.underlying47)<|Dd gt'<|Zz ?_
   refine Cn (fun hc3=>?_) fun hc3=>?_
   ·skip
    have htp:0 < o.tags.length:=by have:=of_decide_eq_true hc3;rw [List.length_map] at this;omega
    refine Sq<|Rg<|Dd (fr' fo49_4)<|Dd (l1' Tryz.isAgg47)<|Dd (by exact opr_call rfl rfl Tryz.call123 rfl (tagText_c o.tags _ ho.2.1))<|Dd mv'<|Dd ex'<|Dd ex'<|Dd as'<|Dd as'<|Zz<|Sq<|Sq<|Rg<|Dd mv'<|Dd ne'<|Zz ?_
    refine Cn (fun hc4=>?_) fun hc4=>?_
    ·skip
     have hte:(gText o.tags).2≠0:=by have hq:=hc4;rw [Bool.not_eq_true',decide_eq_false_iff_not] at hq;exact hq
     rw [objT_tags hg ⟨htp,hte⟩]
     refine Sq<|Rg<|Dd mv'<|Dd as'<|Dd as'<|Zz<|awp_ret ?_
     refine Ru ?_
     exact⟨rfl,rfl⟩
    skip
    have hte:(gText o.tags).2=0:=by have hq:=hc4;rw [Bool.not_eq_false',decide_eq_true_eq] at hq;exact hq
    have hlen2:(L3++32::(gText o.tags).1.data.toList).length≤300000:=by have:=hl3;have:=(text_more htp hte).2;rw [List.length_append,List.length_cons,size_list];omega
    have hLL:objL o=L3++32::(gText o.tags).1.data.toList:=by rw [(text_more htp hte).1,objL,hH]
    refine awp_skip<|Rg<|Dd mv'<|Dd (by exact opr_call rfl rfl Tryz.call121 rfl (put2 (oB o) (1+2+2+2) L3 (gText o.tags).1 hn3 (by have:=hl3;have:=(text_more htp hte).2;omega)))<|Zz<|Sq<|Sq<|Rg<|Dd (fr' fo159_0)<|Dd (by exact opr_call rfl rfl Tryz.call34 rfl (lenW_cK (oB o) ((1+2+2+2)+2) (L3++32::(gText o.tags).1.data.toList) true))<|Dd gt'<|Zz ?_
    refine Cn (fun hc5=>?_) fun hc5=>?_
    ·skip
     have hlong:=of_decide_eq_true hc5
     rw [objT_long hg (fun h=>h.2 hte) hLL (by omega)]
     refine Sq<|Rg<|Dd as'<|Dd as'<|Zz<|awp_ret ?_
     refine Ru ?_
     exact⟨rfl,rfl⟩
    skip
    have hlong:=of_decide_eq_false hc5
    rw [objT_fine hg (fun h=>h.2 hte) hLL (by omega)]
    refine awp_skip<|Sq<|Rg<|Dd (fr' fo159_0)<|Dd (by exact opr_call rfl rfl Tryz.call35 rfl (strW_cK (oB o) ((1+2+2+2)+2) (L3++32::(gText o.tags).1.data.toList) true (by have:=hlen2;omega)))<|Dd as'<|Dd as'<|Zz<|awp_ret ?_
    refine Ru ?_
    exact⟨rfl,rfl⟩
   skip
   have htp:¬ 0 < o.tags.length:=by have:=of_decide_eq_false hc3;rw [List.length_map] at this;omega
   have hLL:objL o=L3:=by rw [objL,hH,List.length_eq_zero_iff.1 (by omega:o.tags.length=0)];exact List.append_nil _
   refine awp_skip<|Sq<|Sq<|Rg<|Dd (fr' fo159_0)<|Dd (by exact opr_call rfl rfl Tryz.call34 rfl (lenW_cK (oB o) (1+2+2+2) L3 true))<|Dd gt'<|Zz ?_
   refine Cn (fun hc6=>?_) fun hc6=>?_
   ·skip
    have hlong:=of_decide_eq_true hc6
    rw [objT_long hg (fun h=>htp h.1) hLL (by omega)]
    refine Sq<|Rg<|Dd as'<|Dd as'<|Zz<|awp_ret ?_
    refine Ru ?_
    exact⟨rfl,rfl⟩
   skip
   have hlong:=of_decide_eq_false hc6
   rw [objT_fine hg (fun h=>htp h.1) hLL (by omega)]
   refine awp_skip<|Sq<|Rg<|Dd (fr' fo159_0)<|Dd (by exact opr_call rfl rfl Tryz.call35 rfl (strW_cK (oB o) (1+2+2+2) L3 true (by have:=hl3;omega)))<|Dd as'<|Dd as'<|Zz<|awp_ret ?_
   refine Ru ?_
   exact⟨rfl,rfl⟩
  skip
  exact absurd hk (of_decide_eq_false hc2)
 have hsz:sizes o.refs≤24*o.refs.length:=sizes_bound (fun s hs=>gName_size (refs_names hg s hs))
 have hjl:=join_size o.refs
 obtain ⟨J,hJ⟩:∃ J:ByteArray,J=⟨(gJoinS [32] (bs o.refs)).toArray⟩:=⟨_,rfl⟩
 have hj:∀ H,ACalls Tryz.prog 71 [.pv (slStrs o.refs),sv ⟨#[32]⟩] H (fun x H'=>x=sv J∧H'=H):=fun H=>by
  rw [hJ]
  exact joins_c o.refs ⟨#[32]⟩ H (by decide) (by show 1*_+_+_ < _;omega)
 have hJl:J.data.toList=gJoinS [32] (bs o.refs):=by rw [hJ]
 obtain ⟨L3,hL3⟩:∃ L,L=L1++32::((⟨#[40]⟩:ByteArray)++J++⟨#[41]⟩).data.toList:=⟨_,rfl⟩
 have hQ:((⟨#[40]⟩:ByteArray)++J++⟨#[41]⟩).data.toList=40::(gJoinS [32] (bs o.refs)++[41]):=by rw [← hJl];simp
 have hQs:((⟨#[40]⟩:ByteArray)++J++⟨#[41]⟩).size≤60000:=by rw [← size_list,hQ,List.length_cons,List.length_append,List.length_singleton];omega
 have hJs:J.size≤52000:=by rw [← size_list,hJl];omega
 have h40:(⟨#[40]⟩:ByteArray).size=1:=rfl
 have h41:(⟨#[41]⟩:ByteArray).size=1:=rfl
 have hAs:((⟨#[40]⟩:ByteArray)++J).size=1+J.size:=by rw [ByteArray.size_append,h40]
 have hn3:L3≠[]:=by rw [hL3];simp
 have hl3:L3.length≤200000:=by rw [hL3,List.length_append,List.length_cons,size_list];omega
 have p3:=put2 (oB o) (1+2) L1 ((⟨#[40]⟩:ByteArray)++J++⟨#[41]⟩) hn1 (by omega)
 rw [← hL3] at p3
 have hH:objHead o=L3:=by
  rw [objHead,if_neg hk,hL3,hL1,hQ]
  simp
 refine Rg<|Dd (fr' fo49_1)<|Dd (l1' Tryz.isAgg3)<|Dd eql'<|Zz ?_
 refine Cn (fun hc7=>?_) fun hc7=>?_
 ·skip
  exact absurd (of_decide_eq_true hc7) hk
 skip
 refine Rg<|Dd (fr' fo49_3)<|Dd (l1' Tryz.isAgg46)<|Dd (by exact opr_call rfl rfl Tryz.call71 rfl (hj _))<|Dd (by exact opd_sadd rfl rfl rfl (by omega) rfl)<|Dd (by exact opd_sadd rfl rfl rfl (by omega) rfl)<|Dd (by exact opr_call rfl rfl Tryz.call121 rfl (p3))<|Zz<|Sq<|Sq<|Rg<|Dd (fr' fo49_4)<|Dd (l1' Tryz.isAgg47)<|Dd (ll' Tryz.underlying47)<|Dd gt'<|Zz ?_
 refine Cn (fun hc8=>?_) fun hc8=>?_
 ·skip
  have htp:0 < o.tags.length:=by have:=of_decide_eq_true hc8;rw [List.length_map] at this;omega
  refine Sq<|Rg<|Dd (fr' fo49_4)<|Dd (l1' Tryz.isAgg47)<|Dd (by exact opr_call rfl rfl Tryz.call123 rfl (tagText_c o.tags _ ho.2.1))<|Dd mv'<|Dd ex'<|Dd ex'<|Dd as'<|Dd as'<|Zz<|Sq<|Sq<|Rg<|Dd mv'<|Dd ne'<|Zz ?_
  refine Cn (fun hc9=>?_) fun hc9=>?_
  ·skip
   have hte:(gText o.tags).2≠0:=by have hq:=hc9;rw [Bool.not_eq_true',decide_eq_false_iff_not] at hq;exact hq
   rw [objT_tags hg ⟨htp,hte⟩]
   refine Sq<|Rg<|Dd mv'<|Dd as'<|Dd as'<|Zz<|awp_ret ?_
   refine Ru ?_
   exact⟨rfl,rfl⟩
  skip
  have hte:(gText o.tags).2=0:=by have hq:=hc9;rw [Bool.not_eq_false',decide_eq_true_eq] at hq;exact hq
  have hlen2:(L3++32::(gText o.tags).1.data.toList).length≤300000:=by have:=hl3;have:=(text_more htp hte).2;rw [List.length_append,List.length_cons,size_list];omega
  have hLL:objL o=L3++32::(gText o.tags).1.data.toList:=by rw [(text_more htp hte).1,objL,hH]
  refine awp_skip<|Rg<|Dd mv'<|Dd (by exact opr_call rfl rfl Tryz.call121 rfl (put2 (oB o) (1+2+2) L3 (gText o.tags).1 hn3 (by have:=hl3;have:=(text_more htp hte).2;omega)))<|Zz<|Sq<|Sq<|Rg<|Dd (fr' fo159_0)<|Dd (by exact opr_call rfl rfl Tryz.call34 rfl (lenW_cK (oB o) ((1+2+2)+2) (L3++32::(gText o.tags).1.data.toList) true))<|Dd gt'<|Zz ?_
  refine Cn (fun hc10=>?_) fun hc10=>?_
  ·skip
   have hlong:=of_decide_eq_true hc10
   rw [objT_long hg (fun h=>h.2 hte) hLL (by omega)]
   refine Sq<|Rg<|Dd as'<|Dd as'<|Zz<|awp_ret ?_
   refine Ru ?_
   exact⟨rfl,rfl⟩
  skip
  have hlong:=of_decide_eq_false hc10
  rw [objT_fine hg (fun h=>h.2 hte) hLL (by omega)]
  refine awp_skip<|Sq<|Rg<|Dd (fr' fo159_0)<|Dd (by exact opr_call rfl rfl Tryz.call35 rfl (strW_cK (oB o) ((1+2+2)+2) (L3++32::(gText o.tags).1.data.toList) true (by have:=hlen2;omega)))<|Dd as'<|Dd as'<|Zz<|awp_ret ?_
  refine Ru ?_
  exact⟨rfl,rfl⟩
 skip
 have htp:¬ 0 < o.tags.length:=by have:=of_decide_eq_false hc8;rw [List.length_map] at this;omega
 have hLL:objL o=L3:=by rw [objL,hH,List.length_eq_zero_iff.1 (by omega:o.tags.length=0)];exact List.append_nil _
 refine awp_skip<|Sq<|Sq<|Rg<|Dd (fr' fo159_0)<|Dd (by exact opr_call rfl rfl Tryz.call34 rfl (lenW_cK (oB o) (1+2+2) L3 true))<|Dd gt'<|Zz ?_
 refine Cn (fun hc11=>?_) fun hc11=>?_
 ·skip
  have hlong:=of_decide_eq_true hc11
  rw [objT_long hg (fun h=>htp h.1) hLL (by omega)]
  refine Sq<|Rg<|Dd as'<|Dd as'<|Zz<|awp_ret ?_
  refine Ru ?_
  exact⟨rfl,rfl⟩
 skip
 have hlong:=of_decide_eq_false hc11
 rw [objT_fine hg (fun h=>htp h.1) hLL (by omega)]
 refine awp_skip<|Sq<|Rg<|Dd (fr' fo159_0)<|Dd (by exact opr_call rfl rfl Tryz.call35 rfl (strW_cK (oB o) (1+2+2) L3 true (by have:=hl3;omega)))<|Dd as'<|Dd as'<|Zz<|awp_ret ?_
 refine Ru ?_
 exact⟨rfl,rfl⟩
end
section
theorem split_join:∀ {l:List (List UInt8)} {w:List UInt8},(32:UInt8)∉w→(∀ x∈l,(32:UInt8)∉x)→splitC 32 (gJoinS [32] (w::l))=w::l
 | [],w,h,_=>by rw [gJoinS,List.flatMap_nil,List.append_nil];exact splitC_free h
 | a::l,w,h,hl=>by
  have e:gJoinS [32] (w::a::l)=w++32::gJoinS [32] (a::l):=by rw [gJoinS,List.flatMap_cons,gJoinS];simp
  rw [e,splitC_app h,split_join (hl a List.mem_cons_self) fun x hx=>hl x (List.mem_cons_of_mem _ hx)]
theorem join_split:∀ l:List UInt8,gJoinS [32] (splitC 32 l)=l
 | []=>rfl
 | b::l=>by
  have ih:=join_split l
  have hp:=splitC_pos 32 l
  rw [splitC]
  cases e:splitC 32 l with
  | nil=>rw [e] at hp;exact absurd hp (Nat.lt_irrefl 0)
  | cons x r =>
   rw [e,gJoinS] at ih
   by_cases h:b=32
   ·rw [if_pos h,gJoinS,List.flatMap_cons,List.nil_append,List.append_assoc,ih,h];rfl
   rw [if_neg h,gJoinS,List.headD_cons,List.tail_cons,List.cons_append,ih]
theorem numV_itoa {x:Int} (h:0≤x) (h2:x < 1000000000000000000):numV (Lib.itoa x)=x:=by rw [numV,atoiAll_itoa h h2]
theorem bs_ofL (l:List ByteArray):(bs l).map ofL=l:=by
 rw [bs,List.map_map]
 exact(List.map_congr_left fun s _=>ofL_of s).trans (List.map_id _)
theorem escY_len:∀ l:List UInt8,(l.flatMap gEsc).length≤2*l.length
 | []=>Nat.le_refl _
 | b::l=>by
  have ih:=escY_len l
  have h:(gEsc b).length≤2:=by
   rw [gEsc]
   split
   ·exact Nat.le_refl _
   split
   ·exact Nat.le_refl _
   exact Nat.le_succ _
  rw [List.flatMap_cons,List.length_append,List.length_cons]
  omega
theorem lex_quote {v:ByteArray} (hv:v.size≤200):(gLex (ofL (gQuote v.data.toList))).1=[⟨3,v,0,0⟩]:=by
 have h0:(ofL (gQuote v.data.toList)).data.toList.drop 0=gQuote v.data.toList++[]:=by rw [ofL_list,List.append_nil];rfl
 have hl:(gQuote v.data.toList).length≤402:=by
  have:=escY_len v.data.toList
  rw [size_list] at this
  rw [gQuote,List.length_cons,List.length_append,List.length_singleton]
  omega
 have hq:0 < (gQuote v.data.toList).length:=by rw [gQuote,List.length_cons];omega
 have hT:=all_tok (step_str h0) rfl (lt_of_drop h0 hq) hq (all_nil (drop_app h0))
 rw [gLex,if_neg (by rw [ofL_size];omega),hT _ (by rw [ofL_size,List.append_nil];exact Nat.le_succ _),lexRun_ok _ [] (by intro f hf;rw [List.mem_singleton] at hf;subst hf;rfl) (by simp)]
 rfl
theorem head_of {w:List UInt8} {r:List (List UInt8)}:(w::r).headD []=w:=rfl
/-- The line of an edit is read as the edit. -/
theorem read_line {e:GEdit} (hv:gEditV e=true) (he:lineErr e=0):gReadE (lineY e)=e∧(10:UInt8)∉lineY e:=by
 obtain ⟨⟨o1,o7⟩,hok,hx⟩:=gEditV_iff.1 hv
 rw [lineErr] at he
 by_cases p1:e.op=1
 ·rw [if_pos p1] at he
  obtain ⟨hg,ht,_⟩:=objT_ok he
  have hp:=parse_objT he
  rw [xOf,if_pos p1,p1] at hx
  rw [lineY,if_pos p1]
  constructor
  ·rw [gReadE,splitC_app (by decide),head_of,readW,if_pos rfl]
   show (⟨1,sNil,sNil,sNil,0,0,sNil,sNil,[],(gParseO (ofL (gObjT e.obj).1.data.toList)).1⟩:GEdit)=e
   rw [ofL_of,hp]
   exact hx
  rw [ht]
  intro h
  rcases List.mem_append.1 h with h|h
  ·revert h;decide
  rcases List.mem_cons.1 h with h|h
  ·revert h;decide
  exact obj_no hg h
 rw [okOf,if_neg p1,Bool.and_eq_true] at hok
 obtain ⟨hid,hok⟩:=hok
 have i1:=name_no hid
 rw [lineY,if_neg p1]
 by_cases p2:e.op=2
 ·rw [if_pos p2] at hok
  have hxy:(0≤e.x∧e.x < 1048576)∧0≤e.y∧e.y < 1048576:=by
   rw [onP] at hok
   simp only [Bool.and_eq_true,decide_eq_true_eq] at hok
   omega
  rw [xOf,if_neg p1,if_pos p2,p2] at hx
  rw [lineW,if_pos p2]
  have n1:=itoa_no hxy.1.1
  have n2:=itoa_no hxy.2.1
  refine⟨?_,joinS_no (by decide) ?_⟩
  ·rw [gReadE,split_join (by decide) (by intro w hw;simp only [List.mem_cons,List.not_mem_nil,or_false] at hw;rcases hw with rfl|rfl|rfl;all_goals first|exact i1.1|exact n1.1|exact n2.1),head_of,readW,if_neg (by decide),if_pos ⟨rfl,rfl⟩]
   show (⟨2,ofL e.id.data.toList,sNil,sNil,numV (Lib.itoa e.x),numV (Lib.itoa e.y),sNil,sNil,[],zObj⟩:GEdit)=e
   rw [ofL_of,numV_itoa hxy.1.1 (by omega),numV_itoa hxy.2.1 (by omega)]
   exact hx
  intro w hw
  simp only [List.mem_cons,List.not_mem_nil,or_false] at hw
  rcases hw with rfl|rfl|rfl|rfl
  all_goals first|exact(by decide)|exact i1.2|exact n1.2|exact n2.2
 by_cases p3:e.op=3
 ·rw [if_neg p2,if_pos p3,Bool.and_eq_true,decide_eq_true_eq] at hok
  have k1:=name_no hok.1
  rw [xOf,if_neg p1,if_neg p2,if_pos p3,p3] at hx
  rw [lineW,if_neg p2,if_pos p3]
  refine⟨?_,joinS_no (by decide) ?_⟩
  ·have hj:gJoinS [32] [wTag,e.id.data.toList,e.key.data.toList,gQuote e.val.data.toList]=wTag++32::(e.id.data.toList++32::(e.key.data.toList++32::gQuote e.val.data.toList)):=by simp [gJoinS]
   have hs:=splitC_pos 32 (gQuote e.val.data.toList)
   rw [hj,gReadE,splitC_app (by decide),splitC_app i1.1,splitC_app k1.1,head_of,readW,if_neg (by decide),if_neg (fun h=>absurd h.1 (by decide)),if_pos ⟨rfl,by simp only [List.length_cons];omega⟩]
   show (match (gLex (ofL (gJoinS [32] (splitC 32 (gQuote e.val.data.toList))))).1 with
    | [f]=>(⟨3,ofL e.id.data.toList,sNil,sNil,0,0,ofL e.key.data.toList,f.text,[],zObj⟩:GEdit)
    | _=>eNone)=e
   rw [join_split,lex_quote (by omega),ofL_of,ofL_of]
   exact hx
  intro w hw
  simp only [List.mem_cons,List.not_mem_nil,or_false] at hw
  rcases hw with rfl|rfl|rfl|rfl
  all_goals first|exact(by decide)|exact i1.2|exact k1.2|exact quote_no _
 by_cases p4:e.op=4
 ·rw [if_neg p2,if_neg p3,if_pos p4,Bool.and_eq_true,Bool.and_eq_true,List.all_eq_true] at hok
  have hr:=hok.2
  rw [xOf,if_neg p1,if_neg p2,if_neg p3,if_pos p4,p4] at hx
  rw [lineW,if_neg p2,if_neg p3,if_pos p4]
  have hb:∀ (b:UInt8),(b=32∨b=10)→∀ w∈bs e.refs,b∉w:=by
   intro b hb w hw
   obtain ⟨s,hs,rfl⟩:=List.mem_map.1 hw
   have:=name_no (hr s hs)
   rcases hb with rfl|rfl
   all_goals first|exact this.1|exact this.2
  refine⟨?_,joinS_no (by decide) ?_⟩
  ·rw [gReadE,split_join (by decide) (by intro w hw;rcases List.mem_cons.1 hw with rfl|hw;all_goals first|exact i1.1|exact hb 32 (.inl rfl) w hw),head_of,readW,if_neg (by decide),if_neg (fun h=>absurd h.1 (by decide)),if_neg (fun h=>absurd h.1 (by decide)),if_pos ⟨rfl,by simp only [List.length_cons];omega⟩]
   show (⟨4,ofL e.id.data.toList,sNil,sNil,0,0,sNil,sNil,(bs e.refs).map ofL,zObj⟩:GEdit)=e
   rw [ofL_of,bs_ofL]
   exact hx
  intro w hw
  rcases List.mem_cons.1 hw with rfl|hw
  ·decide
  rcases List.mem_cons.1 hw with rfl|hw
  all_goals first|exact i1.2|exact hb 10 (.inr rfl) w hw
 by_cases p5:e.op=5
 ·rw [xOf,if_neg p1,if_neg p2,if_neg p3,if_neg p4,if_pos p5,p5] at hx
  rw [lineW,if_neg p2,if_neg p3,if_neg p4,if_pos p5]
  refine⟨?_,joinS_no (by decide) ?_⟩
  ·rw [gReadE,split_join (by decide) (by intro w hw;rw [List.mem_singleton] at hw;subst hw;exact i1.1),head_of,readW,if_neg (by decide),if_neg (fun h=>absurd h.1 (by decide)),if_neg (fun h=>absurd h.1 (by decide)),if_neg (fun h=>absurd h.1 (by decide)),if_pos ⟨rfl,rfl⟩]
   show (⟨5,ofL e.id.data.toList,sNil,sNil,0,0,sNil,sNil,[],zObj⟩:GEdit)=e
   rw [ofL_of]
   exact hx
  intro w hw
  simp only [List.mem_cons,List.not_mem_nil,or_false] at hw
  rcases hw with rfl|rfl
  all_goals first|exact(by decide)|exact i1.2
 by_cases p6:e.op=6
 ·rw [if_neg p2,if_neg p3,if_neg p4,if_neg p5,if_pos p6,Bool.and_eq_true] at hok
  have k1:=name_no hok.1
  have k2:=name_no hok.2
  rw [xOf,if_neg p1,if_neg p2,if_neg p3,if_neg p4,if_neg p5,if_pos p6,p6] at hx
  rw [lineW,if_neg p2,if_neg p3,if_neg p4,if_neg p5,if_pos p6]
  refine⟨?_,joinS_no (by decide) ?_⟩
  ·rw [gReadE,split_join (by decide) (by intro w hw;simp only [List.mem_cons,List.not_mem_nil,or_false] at hw;rcases hw with rfl|rfl|rfl;all_goals first|exact i1.1|exact k1.1|exact k2.1),head_of,readW,if_neg (by decide),if_neg (fun h=>absurd h.1 (by decide)),if_neg (fun h=>absurd h.1 (by decide)),if_neg (fun h=>absurd h.1 (by decide)),if_neg (fun h=>absurd h.1 (by decide)),if_pos ⟨rfl,rfl⟩]
   show (⟨6,ofL e.id.data.toList,ofL e.other.data.toList,ofL e.node.data.toList,0,0,sNil,sNil,[],zObj⟩:GEdit)=e
   rw [ofL_of,ofL_of,ofL_of]
   exact hx
  intro w hw
  simp only [List.mem_cons,List.not_mem_nil,or_false] at hw
  rcases hw with rfl|rfl|rfl|rfl
  all_goals first|exact(by decide)|exact i1.2|exact k1.2|exact k2.2
 have p7:e.op=7:=by omega
 rw [if_neg p2,if_neg p3,if_neg p4,if_neg p5,if_neg p6] at hok
 have k2:=name_no hok
 rw [xOf,if_neg p1,if_neg p2,if_neg p3,if_neg p4,if_neg p5,if_neg p6,p7] at hx
 rw [lineW,if_neg p2,if_neg p3,if_neg p4,if_neg p5,if_neg p6]
 refine⟨?_,joinS_no (by decide) ?_⟩
 ·rw [gReadE,split_join (by decide) (by intro w hw;simp only [List.mem_cons,List.not_mem_nil,or_false] at hw;rcases hw with rfl|rfl;all_goals first|exact i1.1|exact k2.1),head_of,readW,if_neg (by decide),if_neg (fun h=>absurd h.1 (by decide)),if_neg (fun h=>absurd h.1 (by decide)),if_neg (fun h=>absurd h.1 (by decide)),if_neg (fun h=>absurd h.1 (by decide)),if_neg (fun h=>absurd h.1 (by decide)),if_pos ⟨rfl,rfl⟩]
  show (⟨7,ofL e.id.data.toList,ofL e.other.data.toList,sNil,0,0,sNil,sNil,[],zObj⟩:GEdit)=e
  rw [ofL_of,ofL_of]
  exact hx
 intro w hw
 simp only [List.mem_cons,List.not_mem_nil,or_false] at hw
 rcases hw with rfl|rfl|rfl
 all_goals first|exact(by decide)|exact i1.2|exact k2.2
end
section
theorem trim_nlB (w:List UInt8):Lib.trimSuffix (w++[10]) [10]=w:=by
  rw [Lib.trimSuffix,Lib.hasSuffix,if_pos (List.isSuffixOf_iff_suffix.2 ⟨w,rfl⟩)]
  simp
theorem trimB_eq (s:ByteArray):trimB s=ofL (Lib.trimSuffix s.data.toList [10]):=by
  have hz:=szY s
  rw [trimB]
  cases h:endsNl s with
  | true =>
    rw [endsNl,Bool.and_eq_true,decide_eq_true_eq,decide_eq_true_eq] at h
    obtain ⟨h1,h2⟩:=h
    have h3:s.data.toList.drop (s.size - 1)=[10]:=by
      have:=congrArg (fun x=>x.data.toList) h2
      rw [exL] at this
      refine Eq.trans ?_ (show sNl.data.toList=[10] from rfl)
      rw [← this]
      exact(List.take_of_length_le (by rw [List.length_drop];omega)).symm
    have h4:s.data.toList=s.data.toList.take (s.size - 1)++[10]:=by rw [← h3,List.take_append_drop]
    refine eqL ?_
    rw [if_pos rfl,exL,ofL_list,h4,trim_nlB,List.drop_zero,Nat.sub_zero,← h4]
  | false =>
    rw [if_neg (by decide),Lib.trimSuffix,if_neg,ofL_of]
    intro hp
    obtain ⟨w,hw⟩:=List.isSuffixOf_iff_suffix.1 (show ([10]:List UInt8).isSuffixOf s.data.toList=true from hp)
    have hl:s.size=w.length+1:=by rw [← hz,← hw,List.length_append,List.length_singleton]
    have:endsNl s=true:=by
      rw [endsNl,Bool.and_eq_true,decide_eq_true_eq,decide_eq_true_eq]
      refine⟨by omega,eqL ?_⟩
      rw [exL,← hw,show s.size - 1=w.length by omega,List.drop_left]
      exact List.take_of_length_le (by rw [List.length_singleton];omega)
    rw [h] at this
    cases this
theorem cutV_eq (s:ByteArray):∃ b,cutV s=.tup [sv (ofL ((splitC 32 s.data.toList).headD [])),sv (ofL (s.data.toList.drop (((splitC 32 s.data.toList).headD []).length+1))),bv b]:=by
  rw [cutV]
  by_cases h:Lib.indexByte s.data.toList 32 = -1
  · refine⟨false,?_⟩
    rw [if_pos h,splitC_free (index_free.1 h),List.headD_cons,List.drop_eq_nil_of_le (Nat.le_succ _),ofL_of]
    rfl
  · obtain ⟨w,r,e1,e2,e3⟩:=index_at h
    refine⟨true,?_⟩
    obtain ⟨a1,a2⟩:=ofY_at e1
    have hd:s.data.toList.drop (w.length+1)=r:=by
      rw [e1,show w++32::r=(w++[32])++r by simp,show w.length+1=(w++[(32:UInt8)]).length by simp,List.drop_left]
    have hsp:(splitC 32 s.data.toList).headD []=w:=by rw [e1,splitC_app e2];rfl
    rw [if_neg h,hsp,hd,e3,Int.toNat_natCast,a1,show s.extract (w.length+1) s.size=ofL r from eqL (by rw [a2,ofL_list])]
    rfl
theorem split_get (s:ByteArray) (i:Nat) (h:i < (splitS s).length):(splitS s)[i]?=some (ofL ((splitC 32 s.data.toList).getD i [])):=by
  rw [splitS,List.length_map] at h
  rw [splitS,List.getElem?_map,List.getElem?_eq_getElem h,List.getD_eq_getElem?_getD,List.getElem?_eq_getElem h]
  rfl
theorem split_len (s:ByteArray):(splitS s).length=(splitC 32 s.data.toList).length:=List.length_map _
theorem ofL_eq {a b:List UInt8}:ofL a=ofL b↔a=b:=⟨fun h=>by rw [← ofL_list a,h,ofL_list],fun h=>by rw [h]⟩
end
section
theorem encStr_rl (l:List ByteArray):∀ r∈l.map encStr,r.length=1:=fun r hr=>by
 obtain ⟨s,_,rfl⟩:=List.mem_map.1 hr
 rfl
theorem sizes_cons (s:ByteArray) (l:List ByteArray):sizes (s::l)=s.size+sizes l:=by rw [sizes,sizes,List.map_cons,List.sum_cons]
theorem join_out {e:GEdit} {ws:List ByteArray} (h1:e.op≠1) (h:bs ws=lineW e):(⟨(gJoinS [32] (bs ws)).toArray⟩:ByteArray)++⟨#[10]⟩=ofL (lineY e++[10]):=eqL (by
 rw [ofL_list,lineY,if_neg h1,← h]
 simp)
theorem put_out {e:GEdit} (h1:e.op=1):(⟨#[112,117,116,32]⟩:ByteArray)++(gObjT e.obj).1++⟨#[10]⟩=ofL (lineY e++[10]):=eqL (by
 rw [ofL_list,lineY,if_pos h1]
 simp [wPut])
theorem objT_size {o:GObj}:(gObjT o).1.size≤20000:=by
 rw [gObjT]
 split
 ·split
  ·exact Nat.zero_le _
  split
  ·exact Nat.zero_le _
  show (objB o).size≤_;omega
 exact Nat.zero_le _
theorem line_c (e:GEdit) (H:Heap) (he:okE e) (hv:gEditV e=true):ACalls Tryz.prog 32 [av (encEdit e)] H (fun r H'=>r=.tup [sv (ofL (lineY e++[10])),iv (lineErr e)]∧H'=H):=by
 refine ACalls.pure ?_ (by simp) H
 obtain ⟨⟨o1,o2⟩,o3,o4⟩:=gEditV_iff.1 hv
 rw [okOf] at o3
 have hval:=gEditV_val hv
 have hs0:sizes []=0:=rfl
 refine Bd Tryz.func32 rfl Tryz.ntmps32<|Sq<|Rg<|Dd (by exact opd_box (id:=1) rfl rfl rfl rfl rfl)<|Dd as'<|Dd as'<|Zz<|Sq<|Rg<|Dd as'<|Zz<|Sq<|Sq<|Rg<|Dd (fr' fo51_0)<|Dd (l1' Tryz.isAgg3)<|Zz<|awp_block<|Sq<|Rg<|Dd eql'<|Dd as'<|Zz ?_
 refine Cn (fun hc1=>?_) fun hc1=>?_
 ·skip
  have h1:e.op=1:=of_decide_eq_true hc1
  have hos:=objT_size (o:=e.obj)
  have h4:(⟨#[112,117,116,32]⟩:ByteArray).size=4:=rfl
  have h10:(⟨#[10]⟩:ByteArray).size=1:=rfl
  have h4s:((⟨#[112,117,116,32]⟩:ByteArray)++(gObjT e.obj).1).size=4+(gObjT e.obj).1.size:=by rw [ByteArray.size_append];rfl
  refine Sq<|Rg<|Dd (fr' fo51_8)<|Dd (ln' Tryz.isAgg49 Tryz.sizeOf49)<|Dd (by exact opr_call rfl rfl Tryz.call67 rfl (objText_c e.obj _ he.2.2))<|Dd mv'<|Dd ex'<|Dd ex'<|Dd as'<|Dd as'<|Zz<|Sq<|Rg<|Dd mv'<|Dd (by exact opd_sadd rfl rfl rfl (by omega) rfl)<|Dd (by exact opd_sadd rfl rfl rfl (by omega) rfl)<|Dd mv'<|Dd as'<|Dd as'<|Zz<|awp_ret ?_
  refine Ru ?_
  rw [put_out h1,show lineErr e=(gObjT e.obj).2 from if_pos h1]
  exact⟨rfl,rfl⟩
 skip
 have h1:e.op≠1:=of_decide_eq_false hc1
 rw [if_neg h1,Bool.and_eq_true] at o3
 obtain ⟨o5,o6⟩:=o3
 have hid:=gName_size o5
 refine Sq<|Rg<|Dd eql'<|Dd as'<|Zz ?_
 refine Cn (fun hc2=>?_) fun hc2=>?_
 ·skip
  have h2:e.op=2:=of_decide_eq_true hc2
  rw [if_pos h2,onP,Bool.and_eq_true,decide_eq_true_eq,decide_eq_true_eq] at o6
  have hx:0≤e.x∧e.x < 1048576:=by omega
  have hy:0≤e.y∧e.y < 1048576:=by omega
  have six:(itoaB e.x).size≤7:=by rw [← size_list];show (Lib.itoa e.x).length≤7;rw [itoa_nat _ hx.1];exact digits_small (by omega) (by decide)
  have siy:(itoaB e.y).size≤7:=by rw [← size_list];show (Lib.itoa e.y).length≤7;rw [itoa_nat _ hy.1];exact digits_small (by omega) (by decide)
  have hw0:(⟨#[109,111,118,101]⟩:ByteArray).size=4:=rfl
  refine awp_drawc follows ?_
  refine Cq (fr' fo51_1)<|Cq (l1' Tryz.isAgg9)<|Cq (fr' fo51_4)<|Cq (fr' fo45_0)<|Cq (l1' Tryz.isAgg3)<|Cq (by exact opr_call rfl rfl Tryz.call68 rfl (itoa_cT e.x (by omega) (by omega) _))<|Cq (fr' fo51_4)<|Cq (fr' fo45_1)<|Cq (l1' Tryz.isAgg3)<|Cq (by exact opr_call rfl rfl Tryz.call68 rfl (itoa_cT e.y (by omega) (by omega) _))<|Cq (by exact x_buildSlice (([⟨#[109,111,118,101]⟩,e.id,itoaB e.x,itoaB e.y]:List ByteArray).map encStr) rfl so46 rfl rfl rfl rfl rfl (encStr_rl _))<|Cq as' ?_
  refine dc_nil ⟨by kernel_rfl,?_⟩
  refine Sq<|Rg<|Dd mv' ?_
  have hw:bs [⟨#[109,111,118,101]⟩,e.id,itoaB e.x,itoaB e.y]=lineW e:=by
   rw [lineW]
   (rw [if_pos h2];rfl)
  have hne:e.op≠1:=by omega
  have hj:∀ H,ACalls Tryz.prog 71 [.pv (slStrs [⟨#[109,111,118,101]⟩,e.id,itoaB e.x,itoaB e.y]),sv ⟨#[32]⟩] H (fun x H'=>x=sv ⟨(gJoinS [32] (bs [⟨#[109,111,118,101]⟩,e.id,itoaB e.x,itoaB e.y])).toArray⟩∧H'=H):=fun H=>joins_c [⟨#[109,111,118,101]⟩,e.id,itoaB e.x,itoaB e.y] ⟨#[32]⟩ H (by decide) (by show 1*_+_+_ < _;simp only [sizes_cons,List.length_cons,List.length_nil];omega)
  have hjs:(⟨(gJoinS [32] (bs [⟨#[109,111,118,101]⟩,e.id,itoaB e.x,itoaB e.y])).toArray⟩:ByteArray).size≤70000:=by
   show (gJoinS [32] (bs [⟨#[109,111,118,101]⟩,e.id,itoaB e.x,itoaB e.y])).length≤_
   have:=join_size [⟨#[109,111,118,101]⟩,e.id,itoaB e.x,itoaB e.y]
   simp only [sizes_cons,List.length_cons,List.length_nil] at this
   omega
  have h10:(⟨#[10]⟩:ByteArray).size=1:=rfl
  refine Dd (by exact opr_call rfl rfl Tryz.call71 rfl (hj _))<|Dd (by exact opd_sadd rfl rfl rfl (by omega) rfl)<|Dd as'<|Dd as'<|Zz<|awp_ret ?_
  refine Ru ?_
  rw [join_out hne hw,show lineErr e=0 from if_neg hne]
  exact⟨rfl,rfl⟩
 skip
 have h2:e.op≠2:=of_decide_eq_false hc2
 rw [if_neg h2] at o6
 refine Sq<|Rg<|Dd eql'<|Dd as'<|Zz ?_
 refine Cn (fun hc3=>?_) fun hc3=>?_
 ·skip
  have h3:e.op=3:=of_decide_eq_true hc3
  rw [if_pos h3,Bool.and_eq_true,decide_eq_true_eq] at o6
  have hks:=gName_size o6.1
  have hq:=quote_size e.val
  have hw0:(⟨#[116,97,103]⟩:ByteArray).size=3:=rfl
  refine awp_drawc follows ?_
  refine Cq (fr' fo51_1)<|Cq (l1' Tryz.isAgg9)<|Cq (fr' fo51_5)<|Cq (l1' Tryz.isAgg9)<|Cq (fr' fo51_6)<|Cq (l1' Tryz.isAgg9)<|Cq (by exact opr_call rfl rfl Tryz.call69 rfl (quote_c e.val _ (by omega)))<|Cq (by exact x_buildSlice (([⟨#[116,97,103]⟩,e.id,e.key,⟨(gQuote e.val.data.toList).toArray⟩]:List ByteArray).map encStr) rfl so46 rfl rfl rfl rfl rfl (encStr_rl _))<|Cq as' ?_
  refine dc_nil ⟨by kernel_rfl,?_⟩
  refine Sq<|Rg<|Dd mv' ?_
  have hw:bs [⟨#[116,97,103]⟩,e.id,e.key,⟨(gQuote e.val.data.toList).toArray⟩]=lineW e:=by
   rw [lineW]
   (rw [if_neg h2,if_pos h3];rfl)
  have hne:e.op≠1:=by omega
  have hj:∀ H,ACalls Tryz.prog 71 [.pv (slStrs [⟨#[116,97,103]⟩,e.id,e.key,⟨(gQuote e.val.data.toList).toArray⟩]),sv ⟨#[32]⟩] H (fun x H'=>x=sv ⟨(gJoinS [32] (bs [⟨#[116,97,103]⟩,e.id,e.key,⟨(gQuote e.val.data.toList).toArray⟩])).toArray⟩∧H'=H):=fun H=>joins_c [⟨#[116,97,103]⟩,e.id,e.key,⟨(gQuote e.val.data.toList).toArray⟩] ⟨#[32]⟩ H (by decide) (by show 1*_+_+_ < _;simp only [sizes_cons,List.length_cons,List.length_nil];omega)
  have hjs:(⟨(gJoinS [32] (bs [⟨#[116,97,103]⟩,e.id,e.key,⟨(gQuote e.val.data.toList).toArray⟩])).toArray⟩:ByteArray).size≤70000:=by
   show (gJoinS [32] (bs [⟨#[116,97,103]⟩,e.id,e.key,⟨(gQuote e.val.data.toList).toArray⟩])).length≤_
   have:=join_size [⟨#[116,97,103]⟩,e.id,e.key,⟨(gQuote e.val.data.toList).toArray⟩]
   simp only [sizes_cons,List.length_cons,List.length_nil] at this
   omega
  have h10:(⟨#[10]⟩:ByteArray).size=1:=rfl
  refine Dd (by exact opr_call rfl rfl Tryz.call71 rfl (hj _))<|Dd (by exact opd_sadd rfl rfl rfl (by omega) rfl)<|Dd as'<|Dd as'<|Zz<|awp_ret ?_
  refine Ru ?_
  rw [join_out hne hw,show lineErr e=0 from if_neg hne]
  exact⟨rfl,rfl⟩
 skip
 have h3:e.op≠3:=of_decide_eq_false hc3
 rw [if_neg h3] at o6
 refine Sq<|Rg<|Dd eql'<|Dd as'<|Zz ?_
 refine Cn (fun hc4=>?_) fun hc4=>?_
 ·skip
  have h4:e.op=4:=of_decide_eq_true hc4
  rw [if_pos h4,Bool.and_eq_true,Bool.and_eq_true,decide_eq_true_eq,decide_eq_true_eq,List.all_eq_true] at o6
  obtain ⟨⟨r1,r2⟩,r3⟩:=o6
  have hrs:sizes e.refs≤24*e.refs.length:=sizes_bound (fun s hs=>gName_size (r3 s hs))
  have hw0:(⟨#[114,101,102,115]⟩:ByteArray).size=4:=rfl
  have hfl:(([[⟨#[114,101,102,115]⟩,e.id],e.refs]:List (List ByteArray)).flatten).length < 1099511627776:=by simp;omega
  refine Rg<|Dd (fr' fo51_1)<|Dd (l1' Tryz.isAgg9)<|Dd (by exact x_buildSlice (([⟨#[114,101,102,115]⟩,e.id]:List ByteArray).map encStr) rfl so46 rfl rfl rfl rfl rfl (encStr_rl _))<|Dd (fr' fo51_7)<|Dd (l1' Tryz.isAgg46)<|Dd (by exact x_buildSlice (([[⟨#[114,101,102,115]⟩,e.id],e.refs]:List (List ByteArray)).map (fun l=>[.sl (l.map encStr)])) rfl so163 rfl rfl rfl rfl rfl (by simp))<|Dd (by exact opr_call rfl rfl Tryz.call70 rfl (concat_ByteArray [[⟨#[114,101,102,115]⟩,e.id],e.refs] _ (by show 2 < _;omega) hfl))<|Dd as'<|Zz<|Sq<|Rg<|Dd mv' ?_
  rw [show ([[⟨#[114,101,102,115]⟩,e.id],e.refs]:List (List ByteArray)).flatten=⟨#[114,101,102,115]⟩::e.id::e.refs by simp]
  have hw:bs (⟨#[114,101,102,115]⟩::e.id::e.refs)=lineW e:=by
   rw [lineW]
   (rw [if_neg h2,if_neg h3,if_pos h4];rfl)
  have hne:e.op≠1:=by omega
  have hj:∀ H,ACalls Tryz.prog 71 [.pv (slStrs (⟨#[114,101,102,115]⟩::e.id::e.refs)),sv ⟨#[32]⟩] H (fun x H'=>x=sv ⟨(gJoinS [32] (bs (⟨#[114,101,102,115]⟩::e.id::e.refs))).toArray⟩∧H'=H):=fun H=>joins_c (⟨#[114,101,102,115]⟩::e.id::e.refs) ⟨#[32]⟩ H (by decide) (by show 1*_+_+_ < _;simp only [sizes_cons,List.length_cons,List.length_nil];omega)
  have hjs:(⟨(gJoinS [32] (bs (⟨#[114,101,102,115]⟩::e.id::e.refs))).toArray⟩:ByteArray).size≤70000:=by
   show (gJoinS [32] (bs (⟨#[114,101,102,115]⟩::e.id::e.refs))).length≤_
   have:=join_size (⟨#[114,101,102,115]⟩::e.id::e.refs)
   simp only [sizes_cons,List.length_cons,List.length_nil] at this
   omega
  have h10:(⟨#[10]⟩:ByteArray).size=1:=rfl
  refine Dd (by exact opr_call rfl rfl Tryz.call71 rfl (hj _))<|Dd (by exact opd_sadd rfl rfl rfl (by omega) rfl)<|Dd as'<|Dd as'<|Zz<|awp_ret ?_
  refine Ru ?_
  rw [join_out hne hw,show lineErr e=0 from if_neg hne]
  exact⟨rfl,rfl⟩
 skip
 have h4:e.op≠4:=of_decide_eq_false hc4
 rw [if_neg h4] at o6
 refine Sq<|Rg<|Dd eql'<|Dd as'<|Zz ?_
 refine Cn (fun hc5=>?_) fun hc5=>?_
 ·skip
  have h5:e.op=5:=of_decide_eq_true hc5
  have hw0:(⟨#[100,114,111,112]⟩:ByteArray).size=4:=rfl
  refine Rg<|Dd (fr' fo51_1)<|Dd (l1' Tryz.isAgg9)<|Dd (by exact x_buildSlice (([⟨#[100,114,111,112]⟩,e.id]:List ByteArray).map encStr) rfl so46 rfl rfl rfl rfl rfl (encStr_rl _))<|Dd as'<|Zz<|Sq<|Rg<|Dd mv' ?_
  have hw:bs [⟨#[100,114,111,112]⟩,e.id]=lineW e:=by
   rw [lineW]
   (rw [if_neg h2,if_neg h3,if_neg h4,if_pos h5];rfl)
  have hne:e.op≠1:=by omega
  have hj:∀ H,ACalls Tryz.prog 71 [.pv (slStrs [⟨#[100,114,111,112]⟩,e.id]),sv ⟨#[32]⟩] H (fun x H'=>x=sv ⟨(gJoinS [32] (bs [⟨#[100,114,111,112]⟩,e.id])).toArray⟩∧H'=H):=fun H=>joins_c [⟨#[100,114,111,112]⟩,e.id] ⟨#[32]⟩ H (by decide) (by show 1*_+_+_ < _;simp only [sizes_cons,List.length_cons,List.length_nil];omega)
  have hjs:(⟨(gJoinS [32] (bs [⟨#[100,114,111,112]⟩,e.id])).toArray⟩:ByteArray).size≤70000:=by
   show (gJoinS [32] (bs [⟨#[100,114,111,112]⟩,e.id])).length≤_
   have:=join_size [⟨#[100,114,111,112]⟩,e.id]
   simp only [sizes_cons,List.length_cons,List.length_nil] at this
   omega
  have h10:(⟨#[10]⟩:ByteArray).size=1:=rfl
  refine Dd (by exact opr_call rfl rfl Tryz.call71 rfl (hj _))<|Dd (by exact opd_sadd rfl rfl rfl (by omega) rfl)<|Dd as'<|Dd as'<|Zz<|awp_ret ?_
  refine Ru ?_
  rw [join_out hne hw,show lineErr e=0 from if_neg hne]
  exact⟨rfl,rfl⟩
 skip
 have h5:e.op≠5:=of_decide_eq_false hc5
 rw [if_neg h5] at o6
 refine Sq<|Rg<|Dd eql'<|Dd as'<|Zz ?_
 refine Cn (fun hc6=>?_) fun hc6=>?_
 ·skip
  have h6:e.op=6:=of_decide_eq_true hc6
  rw [if_pos h6,Bool.and_eq_true] at o6
  have hns:=gName_size o6.1
  have hos:=gName_size o6.2
  have hw0:(⟨#[115,112,108,105,116]⟩:ByteArray).size=5:=rfl
  refine Rg<|Dd (fr' fo51_1)<|Dd (l1' Tryz.isAgg9)<|Dd (fr' fo51_3)<|Dd (l1' Tryz.isAgg9)<|Dd (fr' fo51_2)<|Dd (l1' Tryz.isAgg9)<|Dd (by exact x_buildSlice (([⟨#[115,112,108,105,116]⟩,e.id,e.node,e.other]:List ByteArray).map encStr) rfl so46 rfl rfl rfl rfl rfl (encStr_rl _))<|Dd as'<|Zz<|Sq<|Rg<|Dd mv' ?_
  have hw:bs [⟨#[115,112,108,105,116]⟩,e.id,e.node,e.other]=lineW e:=by
   rw [lineW]
   (rw [if_neg h2,if_neg h3,if_neg h4,if_neg h5,if_pos h6];rfl)
  have hne:e.op≠1:=by omega
  have hj:∀ H,ACalls Tryz.prog 71 [.pv (slStrs [⟨#[115,112,108,105,116]⟩,e.id,e.node,e.other]),sv ⟨#[32]⟩] H (fun x H'=>x=sv ⟨(gJoinS [32] (bs [⟨#[115,112,108,105,116]⟩,e.id,e.node,e.other])).toArray⟩∧H'=H):=fun H=>joins_c [⟨#[115,112,108,105,116]⟩,e.id,e.node,e.other] ⟨#[32]⟩ H (by decide) (by show 1*_+_+_ < _;simp only [sizes_cons,List.length_cons,List.length_nil];omega)
  have hjs:(⟨(gJoinS [32] (bs [⟨#[115,112,108,105,116]⟩,e.id,e.node,e.other])).toArray⟩:ByteArray).size≤70000:=by
   show (gJoinS [32] (bs [⟨#[115,112,108,105,116]⟩,e.id,e.node,e.other])).length≤_
   have:=join_size [⟨#[115,112,108,105,116]⟩,e.id,e.node,e.other]
   simp only [sizes_cons,List.length_cons,List.length_nil] at this
   omega
  have h10:(⟨#[10]⟩:ByteArray).size=1:=rfl
  refine Dd (by exact opr_call rfl rfl Tryz.call71 rfl (hj _))<|Dd (by exact opd_sadd rfl rfl rfl (by omega) rfl)<|Dd as'<|Dd as'<|Zz<|awp_ret ?_
  refine Ru ?_
  rw [join_out hne hw,show lineErr e=0 from if_neg hne]
  exact⟨rfl,rfl⟩
 skip
 have h6:e.op≠6:=of_decide_eq_false hc6
 rw [if_neg h6] at o6
 have hos:=gName_size o6
 have hw0:(⟨#[106,111,105,110]⟩:ByteArray).size=4:=rfl
 refine Rg<|Dd (fr' fo51_1)<|Dd (l1' Tryz.isAgg9)<|Dd (fr' fo51_2)<|Dd (l1' Tryz.isAgg9)<|Dd (by exact x_buildSlice (([⟨#[106,111,105,110]⟩,e.id,e.other]:List ByteArray).map encStr) rfl so46 rfl rfl rfl rfl rfl (encStr_rl _))<|Dd as'<|Zz<|Sq<|Rg<|Dd mv' ?_
 have hw:bs [⟨#[106,111,105,110]⟩,e.id,e.other]=lineW e:=by
  rw [lineW]
  (rw [if_neg h2,if_neg h3,if_neg h4,if_neg h5,if_neg h6];rfl)
 have hne:e.op≠1:=by omega
 have hj:∀ H,ACalls Tryz.prog 71 [.pv (slStrs [⟨#[106,111,105,110]⟩,e.id,e.other]),sv ⟨#[32]⟩] H (fun x H'=>x=sv ⟨(gJoinS [32] (bs [⟨#[106,111,105,110]⟩,e.id,e.other])).toArray⟩∧H'=H):=fun H=>joins_c [⟨#[106,111,105,110]⟩,e.id,e.other] ⟨#[32]⟩ H (by decide) (by show 1*_+_+_ < _;simp only [sizes_cons,List.length_cons,List.length_nil];omega)
 have hjs:(⟨(gJoinS [32] (bs [⟨#[106,111,105,110]⟩,e.id,e.other])).toArray⟩:ByteArray).size≤70000:=by
  show (gJoinS [32] (bs [⟨#[106,111,105,110]⟩,e.id,e.other])).length≤_
  have:=join_size [⟨#[106,111,105,110]⟩,e.id,e.other]
  simp only [sizes_cons,List.length_cons,List.length_nil] at this
  omega
 have h10:(⟨#[10]⟩:ByteArray).size=1:=rfl
 refine Dd (by exact opr_call rfl rfl Tryz.call71 rfl (hj _))<|Dd (by exact opd_sadd rfl rfl rfl (by omega) rfl)<|Dd as'<|Dd as'<|Zz<|awp_ret ?_
 refine Ru ?_
 rw [join_out hne hw,show lineErr e=0 from if_neg hne]
 exact⟨rfl,rfl⟩
end
section
theorem textF_ok:∀ {l:List GEdit} {acc:List UInt8},(textF acc l).2=0→(∀ e∈l,lineErr e=0)∧textF acc l=(acc++l.flatMap fun e=>lineY e++[10],0)∧(acc.length≤20000→(textF acc l).1.length≤20000)
  | [],acc,_=>⟨(fun e h=>by cases h),by rw [textF,List.flatMap_nil,List.append_nil],fun h=>h⟩
  | e :: l, acc, h => by
    rw [textF] at h ⊢
    by_cases h1:lineErr e≠0∨20000 < (acc++(lineY e++[10])).length
    · rw [if_pos h1] at h;cases h
    · rw [if_neg h1] at h ⊢
      rw [not_or,Classical.not_not] at h1
      obtain ⟨i1,i2,i3⟩:=textF_ok h
      refine⟨fun x hx=>?_,by rw [i2,List.flatMap_cons,List.append_assoc],fun _=>i3 (by omega)⟩
      rcases List.mem_cons.1 hx with rfl|hx
      · exact h1.1
      · exact i1 x hx
theorem gChange_of {l:List GEdit} (h:gChange l=true):l≠[]∧∀ e∈l,gEditV e=true:=by
  rw [gChange,Bool.and_eq_true,Bool.and_eq_true,decide_eq_true_eq,Bool.not_eq_true',List.any_eq_false] at h
  refine⟨fun e=>by rw [e] at h;exact absurd h.1.1 (by decide),fun e he=>?_⟩
  have:=h.2 e he
  simpa using this
theorem trim_nl (w:List UInt8):Lib.trimSuffix (w++[10]) [10]=w:=by
  rw [Lib.trimSuffix,Lib.hasSuffix,if_pos (List.isSuffixOf_iff_suffix.2 ⟨w,rfl⟩)]
  simp
/-- Texts that could be made are read back. -/
theorem parse_textC {l:List GEdit} (h:(gTextC l).2=0):gParseC (gTextC l).1=(l,0):=by
  have hc:gChange l=true:=by
    rw [gTextC] at h
    split at h
    · assumption
    · cases h
  obtain ⟨hne,hv⟩:=gChange_of hc
  rw [gTextC,if_pos hc] at h
  obtain ⟨h1,h2,h3⟩:=textF_ok h
  rw [List.nil_append] at h2
  have h4:=h3 (Nat.zero_le _)
  have ht:gTextC l=(ofL (l.flatMap fun e=>lineY e++[10]),0):=by rw [gTextC,if_pos hc,h2]
  have hsz:(ofL (l.flatMap fun e=>lineY e++[10])).size≤20000:=by rw [ofL_size];rw [h2] at h4;exact h4
  have hl:(linesC (ofL (l.flatMap fun e=>lineY e++[10])).data.toList).map (fun s=>gReadE (Lib.trimSuffix s [10]))=l:=by
    have hj:=linesC_joined (ls:=l.map lineY) (fun w hw=>by
      obtain ⟨e,he,rfl⟩:=List.mem_map.1 hw
      exact(read_line (hv e he) (h1 e he)).2)
    rw [List.flatMap_map] at hj
    rw [ofL_list,hj,List.map_map,List.map_map]
    refine(List.map_congr_left fun e he=>?_).trans (List.map_id l)
    show gReadE (Lib.trimSuffix (lineY e++[10]) [10])=e
    rw [trim_nl]
    exact(read_line (hv e he) (h1 e he)).1
  rw [ht,gParseC,if_neg (by show ¬ 20000 < (ofL (l.flatMap fun e=>lineY e++[10])).size;omega)]
  show (if gTextC ((linesC (ofL (l.flatMap fun e=>lineY e++[10])).data.toList).map fun s=>gReadE (Lib.trimSuffix s [10]))=(ofL (l.flatMap fun e=>lineY e++[10]),0)then((linesC (ofL (l.flatMap fun e=>lineY e++[10])).data.toList).map (fun s=>gReadE (Lib.trimSuffix s [10])),(0:Int))else([],5))=(l,0)
  rw [hl,if_pos ht]
theorem text_inj {l m:List GEdit} (h1:(gTextC l).2=0) (h2:(gTextC m).2=0):(gTextC l).1=(gTextC m).1↔l=m:=by
  constructor
  · intro h
    have e1:=parse_textC h1
    have e2:=parse_textC h2
    rw [h,e2] at e1
    exact((Prod.mk.injEq _ _ _ _).mp e1).1.symm
  · intro h;rw [h]
/-- What is accepted is the text of what is returned, which is valid. -/
theorem parse_ok {t:ByteArray} (h:(gParseC t).2=0):gTextC (gParseC t).1=(t,0)∧gChange (gParseC t).1=true:=by
  rw [gParseC] at h ⊢
  by_cases h1:20000 < t.size
  · rw [if_pos h1] at h;cases h
  · rw [if_neg h1] at h ⊢
    split at h
    · rename_i h2
      rw [if_pos h2]
      refine⟨h2,?_⟩
      rw [gTextC] at h2
      split at h2
      · assumption
      · injection h2 with _ h3;cases h3
    · cases h
theorem parse_bad {t:ByteArray} (h:(gParseC t).2≠0):(gParseC t).1=[]:=by
  rw [gParseC] at h ⊢
  by_cases h1:20000 < t.size
  · rw [if_pos h1]
  · rw [if_neg h1] at h ⊢
    split at h
    · exact absurd rfl h
    · rename_i h2
      rw [if_neg h2]
end
section
theorem lenB_c (g:Nat) (l:List UInt8) (u:Bool):ACalls Tryz.prog 34 [.ref 2001 0 0 0] (bld g l u) (fun r H'=>r=iv (l.length:Int)∧H'=bld g l u):=by
 refine Bd Tryz.func34 rfl Tryz.ntmps34<|Sq<|Rg<|Dd as'<|Zz<|Sq<|Rg<|Dd mv'<|Dd nc'<|Dd (fr' fo62_1)<|Dd (l1' Tryz.isAgg52)<|Dd (by exact opd_len_osl rfl Tryz.underlying52 rfl rfl rfl)<|Dd as'<|Zz<|awp_ret ?_
 refine aret1 (H':=(bld g l u)) (.inr rfl) rfl (rval_tmp rfl) Fin.refl ?_
 exact⟨rfl,rfl⟩
abbrev bldA (l:List UInt8) (g:Nat) (u:Bool):Ob:=bObT (.osl 2002 g 0 l.length) u
abbrev bldD (l:List UInt8) (g:Nat):Ob:=⟨g,1,5,brows l⟩
theorem keysB {g g':Nat} {l l':List UInt8} {u u':Bool} {id:Nat} (h:(Heap.get (bld g l u) id).isSome=true):(Heap.get (bld g' l' u') id).isSome=true:=keys2 h
theorem keysE {g:Nat} {l:List UInt8} {u u':Bool} {id:Nat} (h:(Heap.get (bEnd g l u) id).isSome=true):(Heap.get (bld g l u) id).isSome=true:=by
 simp only [bEnd,bld,Heap.get] at h ⊢
 cases e1:Nat.beq 2001 id with
 | true=>rfl
 | false =>
  cases e2:Nat.beq 2002 id with
  | true=>rfl
  | false=>rw [e1,e2] at h;cases h
theorem wrB_f {H:Heap} {g:Nat} {l:List UInt8} {u:Bool} (s:ByteArray) (h1:H.get 2001=some (bldA l g u)) (h2:H.get 2002=some (bldD l g)) (hl:l.length+s.size < 70368744177664):ACalls Tryz.prog 33 [.ref 2001 0 0 0,sv s] H (fun r H'=>r=.tup [iv (s.size:Int),.pv nilI]∧H'=bld (g+1) (l++s.data.toList) true++H) :=
 ACalls.frame (writeString_c g l u s hl) (Sub.of2 h1 h2) (Closed.ofL ⟨(by exact bOb_cloT rfl rfl),(by exact brows_clo _ _),trivial⟩) (by simp;rfl) (fun id h=>.inl (keysB h))
theorem lenB_f {H:Heap} {g:Nat} {l:List UInt8} {u:Bool} (h1:H.get 2001=some (bldA l g u)) (h2:H.get 2002=some (bldD l g)):ACalls Tryz.prog 34 [.ref 2001 0 0 0] H (fun r H'=>r=iv (l.length:Int)∧H'=H) :=
 ACalls.frameS (lenB_c g l u) (Sub.of2 h1 h2) (Closed.ofL ⟨(by exact bOb_cloT rfl rfl),(by exact brows_clo _ _),trivial⟩) (by simp;rfl)
theorem strB_f {H:Heap} {g:Nat} {l:List UInt8} {u:Bool} (h1:H.get 2001=some (bldA l g u)) (h2:H.get 2002=some (bldD l g)) (hl:l.length < 70368744177664):ACalls Tryz.prog 35 [.ref 2001 0 0 0] H (fun r H'=>r=sv ⟨l.toArray⟩∧H'=bEnd g l u++H) :=
 ACalls.frame (str_c g l u hl) (Sub.of2 h1 h2) (Closed.ofL ⟨(by exact bOb_cloT rfl rfl),(by exact brows_clo _ _),trivial⟩) (by simp;rfl) (fun id h=>.inl (keysE (u':=u) h))
def uK:Nat→Bool
 | 0=>false
 | _+1=>true
def accC (l:List GEdit) (k:Nat):List UInt8:=(l.take k).flatMap fun e=>lineY e++[10]
theorem accC_next {l:List GEdit} {k:Nat} {e:GEdit} (h:l[k]?=some e):accC l (k+1)=accC l k++(lineY e++[10]):=by
 rw [accC,List.take_add_one,h,List.flatMap_append]
 simp [accC]
theorem lineY_len {e:GEdit} (he:gEditV e=true):(lineY e).length≤100000:=by
 obtain ⟨⟨o1,o2⟩,o3,o4⟩:=gEditV_iff.1 he
 rw [okOf] at o3
 have hval:=gEditV_val he
 by_cases h1:e.op=1
 ·rw [lineY,if_pos h1,List.length_append,List.length_cons,size_list]
  have:=objT_size (o:=e.obj)
  show 3+_≤_
  omega
 rw [if_neg h1,Bool.and_eq_true] at o3
 obtain ⟨o5,o6⟩:=o3
 have hid:=gName_size o5
 have key:∀ ws:List ByteArray,bs ws=lineW e→ws.length+sizes ws≤100000→(lineY e).length≤100000:=fun ws h h2=>by
  rw [lineY,if_neg h1,← h]
  exact Nat.le_trans (join_size ws) h2
 by_cases h2:e.op=2
 ·rw [if_pos h2,onP,Bool.and_eq_true,decide_eq_true_eq,decide_eq_true_eq] at o6
  have six:(itoaB e.x).size≤7:=by rw [← size_list];show (Lib.itoa e.x).length≤7;rw [itoa_nat _ (by omega)];exact digits_small (by omega) (by decide)
  have siy:(itoaB e.y).size≤7:=by rw [← size_list];show (Lib.itoa e.y).length≤7;rw [itoa_nat _ (by omega)];exact digits_small (by omega) (by decide)
  have hw0:(⟨#[109,111,118,101]⟩:ByteArray).size=4:=rfl
  exact key [⟨#[109,111,118,101]⟩,e.id,itoaB e.x,itoaB e.y] (by rw [lineW,if_pos h2];rfl) (by simp only [sizes_cons,List.length_cons,List.length_nil,show sizes []=0 from rfl];omega)
 rw [if_neg h2] at o6
 by_cases h3:e.op=3
 ·rw [if_pos h3,Bool.and_eq_true] at o6
  have hks:=gName_size o6.1
  have hq:=quote_size e.val
  have hw0:(⟨#[116,97,103]⟩:ByteArray).size=3:=rfl
  exact key [⟨#[116,97,103]⟩,e.id,e.key,⟨(gQuote e.val.data.toList).toArray⟩] (by rw [lineW,if_neg h2,if_pos h3];rfl) (by simp only [sizes_cons,List.length_cons,List.length_nil,show sizes []=0 from rfl];omega)
 rw [if_neg h3] at o6
 by_cases h4:e.op=4
 ·rw [if_pos h4,Bool.and_eq_true,Bool.and_eq_true,decide_eq_true_eq,decide_eq_true_eq,List.all_eq_true] at o6
  obtain ⟨⟨r1,r2⟩,r3⟩:=o6
  have hrs:sizes e.refs≤24*e.refs.length:=sizes_bound (fun s hs=>gName_size (r3 s hs))
  have hw0:(⟨#[114,101,102,115]⟩:ByteArray).size=4:=rfl
  exact key (⟨#[114,101,102,115]⟩::e.id::e.refs) (by rw [lineW,if_neg h2,if_neg h3,if_pos h4];rfl) (by simp only [sizes_cons,List.length_cons];omega)
 rw [if_neg h4] at o6
 by_cases h5:e.op=5
 ·have hw0:(⟨#[100,114,111,112]⟩:ByteArray).size=4:=rfl
  exact key [⟨#[100,114,111,112]⟩,e.id] (by rw [lineW,if_neg h2,if_neg h3,if_neg h4,if_pos h5];rfl) (by simp only [sizes_cons,List.length_cons,List.length_nil,show sizes []=0 from rfl];omega)
 rw [if_neg h5] at o6
 by_cases h6:e.op=6
 ·rw [if_pos h6,Bool.and_eq_true] at o6
  have hns:=gName_size o6.1
  have hos:=gName_size o6.2
  have hw0:(⟨#[115,112,108,105,116]⟩:ByteArray).size=5:=rfl
  exact key [⟨#[115,112,108,105,116]⟩,e.id,e.node,e.other] (by rw [lineW,if_neg h2,if_neg h3,if_neg h4,if_neg h5,if_pos h6];rfl) (by simp only [sizes_cons,List.length_cons,List.length_nil,show sizes []=0 from rfl];omega)
 rw [if_neg h6] at o6
 have hos:=gName_size o6
 have hw0:(⟨#[106,111,105,110]⟩:ByteArray).size=4:=rfl
 exact key [⟨#[106,111,105,110]⟩,e.id,e.other] (by rw [lineW,if_neg h2,if_neg h3,if_neg h4,if_neg h5,if_neg h6];rfl) (by simp only [sizes_cons,List.length_cons,List.length_nil,show sizes []=0 from rfl];omega)
theorem textC_c (l:List GEdit) (H:Heap) (hl:l.length < 4611686018427387904) (he:∀ e∈l,okE e):ACalls Tryz.prog 11 [.pv (slEdits l)] H (fun r H'=>r=.tup [sv (gTextC l).1,iv (gTextC l).2]∧H'=H):=by
 refine ACalls.pure ?_ (by simp) H
 have hml:(l.map encEdit).length=l.length:=List.length_map _
 refine Bd Tryz.func11 rfl Tryz.ntmps11<|Sq<|Rg<|Dd as'<|Dd as'<|Zz<|Sq<|Sq<|Rg<|Dd mv'<|Dd (by exact opr_call rfl rfl Tryz.call15 rfl (changeValid_c l _ hl he))<|Dd no'<|Zz ?_
 refine Cn (fun hc1=>?_) fun hc1=>?_
 ·skip
  have hg:gChange l=false:=by have h:=hc1;rwa [Bool.not_eq_true'] at h
  rw [show gTextC l=(sNil,1)by rw [gTextC,hg];rfl]
  refine Sq<|Rg<|Dd as'<|Dd as'<|Zz<|awp_ret ?_
  refine Ru ?_
  exact⟨rfl,rfl⟩
 skip
 have hg:gChange l=true:=by have h:=hc1;rwa [Bool.not_eq_false'] at h
 have hv:=(gChange_of hg).2
 have hT:gTextC l=(ofL (textF [] l).1,(textF [] l).2):=by rw [gTextC,if_pos hg]
 refine awp_skip<|Sq<|Rg<|Dd (by exact x_alloc (id:=2001) rfl zoN62 rfl rfl)<|Zz<|Sq<|Sq ?_
 refine AWp.ent (E':=[(0,.pv (slEdits l)),(4,.ref 2001 0 0 0)]) (H':=[(2002,⟨0,1,5,[]⟩),(2001,bObT (.osl 2002 0 0 0) false)]) (Ent.nz 2002 1 5 rfl rfl ⟨⟨_,rfl,(by exact Nz.same (by(simp;done)))⟩,⟨_,rfl,(by exact Nz.same (by(simp;rfl)))⟩,trivial⟩ ⟨⟨_,rfl,rfl,rfl,rfl,(by exact .inr ⟨_,_,rfl,rfl,(by repeat(first|exact trivial|refine⟨(by first|exact Nz.own|exact Nz.same (by(simp;done))),?_⟩))⟩)⟩,trivial⟩ trivial) ?_
 refine Rg<|Dd mv'<|Dd (ll' Tryz.underlying22)<|Dd mv'<|Zz<|awp_block ?_
 refine awp_loop (σ:=Nat) (fun k=>([(4,.ref 2001 0 0 0),(12,.pv (slEdits l)),(13,iv ((l.map encEdit).length:Int)),(14,iv (k:Int))],[(2001,bldA (accC l k) k (uK k)),(2002,bldD (accC l k) k)])) (fun k=>k≤l.length∧textF [] l=textF (accC l k) (l.drop k)∧(accC l k).length≤20000) (fun k=>l.length - k) 0 ⟨Nat.zero_le _,rfl,Nat.zero_le _⟩ ?_ ?_
 ·exact(Ent.wk (Ea<|Eb<|Eb<|Eb<|trivial) (Hc (bOb_cloT rfl rfl)<|Hc (brows_clo _ _)<|trivial) trivial)
 rintro k ⟨hk,hF,hA⟩
 refine Sq<|Rg<|Dd lss'<|Zz<|Sq ?_
 refine Cn (fun hc2=>?_) fun hc2=>?_
 ·skip
  have hlt:k < l.length:=by have:=of_decide_eq_true hc2;omega
  obtain ⟨e,hke⟩:=get_of_lt hlt
  have hi:=map_get (f:=encEdit) hke
  have hem:=List.mem_of_getElem? hke
  have hnx:=accC_next hke
  have hYl:=lineY_len (hv e hem)
  have hdr:l.drop k=e::l.drop (k+1):=by
   rw [List.drop_eq_getElem_cons hlt]
   rw [List.getElem?_eq_getElem hlt] at hke
   cases hke
   rfl
  rw [hdr,textF] at hF
  have hsz:(ofL (lineY e++[10])).size=(lineY e).length+1:=by rw [ofL_size,List.length_append];rfl
  have hbl:bld (k+1) (accC l k++(ofL (lineY e++[10])).data.toList) true=bld (k+1) (accC l (k+1)) true:=by rw [ofL_list,hnx]
  have hnl:(accC l (k+1)).length=(accC l k).length+((lineY e).length+1):=by rw [hnx,List.length_append,List.length_append];rfl
  have hw:∀ H,H.get 2001=some (bldA (accC l k) k (uK k))→H.get 2002=some (bldD (accC l k) k)→ACalls Tryz.prog 33 [.ref 2001 0 0 0,sv (ofL (lineY e++[10]))] H (fun r H'=>r=.tup [iv ((ofL (lineY e++[10])).size:Int),.pv nilI]∧H'=bld (k+1) (accC l (k+1)) true++H):=fun H h1 h2=>by
   have:=wrB_f (H:=H) (ofL (lineY e++[10])) h1 h2 (by omega)
   rwa [hbl] at this
  refine awp_skip<|Sq<|awp_block<|Sq<|Rg<|Dd (xp' so22)<|Dd (by exact opd_loadn_pad rfl Tryz.isAgg51 Tryz.sizeOf51 rfl (by omega) rfl rfl)<|Dd (by exact x_alloc (id:=6) rfl zo51 rfl rfl)<|Uu (sa' Tryz.sizeOf51)<|Zz<|Sq<|Rg<|Dd (ln' Tryz.isAgg51 Tryz.sizeOf51)<|Dd (by exact opr_call rfl rfl Tryz.call32 rfl (line_c e _ (he e hem) (hv e hem)))<|Dd mv'<|Dd ex'<|Dd ex'<|Dd as'<|Dd as'<|Zz<|Sq<|Rg<|Dd mv'<|Dd (by exact opr_call rfl rfl Tryz.call33 rfl (hw _ rfl rfl))<|Zz<|Sq ?_
  refine awp_bool (t:=30) (n:=7) (X:=!decide (lineErr e=0)||decide ((20000:Int) < ((accC l (k+1)).length:Int))) ?_ ?_
  ·all_goals refine Dd mv' ?_
   all_goals refine Dd ne' ?_
   all_goals refine Dd mv' ?_
   all_goals refine Sp 27 (fun h27=>?_) fun h27=>?_
   all_goals try contradiction
   all_goals first|refine Fo ?_|refine On (by exact opr_call rfl rfl Tryz.call34 rfl (lenB_f (l:=accC l (k+1)) (g:=k+1) (u:=true) rfl rfl)) ?_
   all_goals first|refine Fo ?_|refine On gt' ?_
   all_goals refine Dd pk' ?_
   all_goals refine al_nil ?_
   all_goals(exact⟨⟨_,rfl,by(simp only [*,Zo];done)⟩,rfl,rfl,rfl⟩)
  refine Cn (fun hc3=>?_) fun hc3=>?_
  ·skip
   have hbad:lineErr e≠0∨20000 < (accC l k++(lineY e++[10])).length:=by have h:=hc3;rw [← hnx];simp only [Bool.or_eq_true,Bool.not_eq_true',decide_eq_false_iff_not,decide_eq_true_eq] at h;omega
   rw [if_pos hbad] at hF
   rw [hT,hF]
   refine Sq<|Rg<|Dd as'<|Dd as'<|Zz<|awp_ret ?_
   refine Ru ?_
   exact⟨rfl,rfl⟩
  skip
  have hfine:¬ (lineErr e≠0∨20000 < (accC l k++(lineY e++[10])).length):=by have h:=hc3;rw [← hnx];simp only [Bool.or_eq_false_iff,Bool.not_eq_false',decide_eq_false_iff_not,decide_eq_true_eq] at h;omega
  rw [if_neg hfine,← hnx] at hF
  rw [← hnx] at hfine
  refine awp_skip<|Rg<|Dd ad'<|Dd mv'<|Zz ?_
  exact⟨k+1,⟨hlt,hF,by omega⟩,by omega,(Ent.wk (Ea<|Eb<|Eb<|Eb<|trivial) (Hc (bOb_cloT rfl rfl)<|Hc (brows_clo _ _)<|trivial) trivial)⟩
 skip
 have hge:k=l.length:=by have:=of_decide_eq_false hc2;omega
 subst hge
 rw [List.drop_length,textF] at hF
 rw [hT,hF]
 refine awp_exit<|Sq<|Rg<|Dd (by exact opr_call rfl rfl Tryz.call35 rfl (strB_f (l:=accC l l.length) (g:=l.length) (u:=uK l.length) rfl rfl (by omega)))<|Dd as'<|Dd as'<|Zz<|awp_ret ?_
 refine Ru ?_
 exact⟨rfl,rfl⟩
end
section
theorem lexO_c (s:ByteArray) (hs:s.size < 1099511627776) (hok:(gLex s).2.1=0):ACalls Tryz.prog 83 [sv s] [] (fun r H'=>r=.tup [.osl 905 (gLex s).1.length 0 (gLex s).1.length,iv 0,iv (gLex s).2.2]∧H'=[(905,⟨(gLex s).1.length,3,137,tkRows (gLex s).1⟩)]):=by
 refine Bd Tryz.func83 rfl Tryz.ntmps83<|Sq<|Rg<|Dd (by exact x_alloc (id:=2) rfl zo133 rfl rfl)<|Dd (by exact x_alloc (id:=3) rfl zo25 rfl rfl)<|Dd (by exact x_alloc (id:=4) rfl zo3 rfl rfl)<|Zz<|Sq<|Sq<|Rg<|Dd mv'<|Dd (ls' Tryz.underlying9)<|Dd gt'<|Zz ?_
 refine Cn (fun hc1=>?_) fun hc1=>?_
 ·have e:gLex s=([],2,-1):=by rw [gLex,if_pos (by have:=of_decide_eq_true hc1;omega)]
  rw [e] at hok
  exact absurd hok (by decide)
 have hsz:¬ 20000 < s.size:=by have:=of_decide_eq_false hc1;omega
 obtain ⟨ds,hds⟩:∃ ds,ds=gToks s (s.size+1) 0:=⟨_,rfl⟩
 have hg:gLex s=lexRun [] ds:=by rw [gLex,if_neg hsz,hds]
 refine awp_skip<|Sq<|Rg<|Dd (by exact x_alloc (id:=5) rfl zoN133 rfl rfl)<|Zz<|Sq<|Sq<|Rg<|Dd mv'<|Dd (by exact opr_call rfl rfl Tryz.call135 rfl (tokens_c s _ rfl rfl rfl (Closed.ofL ⟨(by(simp;done)),(by(simp;done)),(by(simp;done)),(by(simp;done)),trivial⟩)))<|Zz<|awp_block ?_
 refine AWp.ent (E':=[(2,.ref 2 0 0 0),(3,.ref 3 0 0 0),(4,.ref 4 0 0 0),(5,.ref 5 0 0 0),(11,.clo 185 [.ref 921 0 0 0,.ref 924 0 0 0])]) (H':=[(905,⟨0,3,137,[]⟩),(5,bx 1 133 [.osl 905 0 0 0]),(924,tA),(923,tC),(921,tS s),(4,bx 1 3 [iv 0]),(3,bx 1 25 [iv 0]),(2,bx 1 133 [.pv (.sl [])])]) ?_ ?_
 ·exact(Ent.nz 905 3 137 rfl rfl ⟨⟨_,rfl,(by exact Nz.same (by(simp;rfl)))⟩,⟨_,rfl,(by exact Nz.same (by(simp;rfl)))⟩,⟨_,rfl,(by exact Nz.same (by(simp;rfl)))⟩,⟨_,rfl,(by exact Nz.same (by(simp;rfl)))⟩,⟨_,rfl,(by exact Nz.same (by(simp;exact⟨rfl,rfl⟩)))⟩,trivial⟩ ⟨⟨_,rfl,rfl,rfl,rfl,(by exact .inr ⟨_,_,rfl,rfl,(by repeat(first|exact trivial|refine⟨(by exact Nz.own),?_⟩))⟩)⟩,⟨_,rfl,rfl,rfl,rfl,(by exact .inl ⟨rfl,(by exact tA_clo rfl rfl)⟩)⟩,⟨_,rfl,rfl,rfl,rfl,(by exact .inl ⟨rfl,(by exact clsA_clo _)⟩)⟩,⟨_,rfl,rfl,rfl,rfl,(by exact .inl ⟨rfl,(by exact tS_clo _ _)⟩)⟩,⟨_,rfl,rfl,rfl,rfl,(by exact .inl ⟨rfl,(by(simp;done))⟩)⟩,⟨_,rfl,rfl,rfl,rfl,(by exact .inl ⟨rfl,(by(simp;done))⟩)⟩,⟨_,rfl,rfl,rfl,rfl,(by exact .inl ⟨rfl,(by(simp;done))⟩)⟩,trivial⟩ trivial)
 have hdl:ds.length≤s.size+1:=by rw [hds];exact toks_len s _ _
 obtain ⟨j,hj⟩:∃ j,j=scan (okAt ds) ds.length 0:=⟨_,rfl⟩
 have hj1:j≤ds.length:=by have:=(scan_le (okAt ds) ds.length 0).2;omega
 have hj2:∀ k,k < j→okAt ds k=true:=fun k hk=>scan_all (okAt ds) ds.length 0 k (Nat.zero_le _) (by rw [← hj];exact hk)
 have hj3:j < ds.length→okAt ds j=false:=fun h=>by have:=scan_stop (okAt ds) ds.length 0 (by omega);rwa [← hj] at this
 have hrun:=lexRun_to hj1 hj2
 refine awp_range (id:=904) (p:=12) lexE rfl Tryz.call185 rfl rfl (by simp [lexE];exact⟨rfl,rfl,rfl,rfl⟩) ?_
 intro x hx1 hx2 hx3 hx4 hx5 hx6
 have hround:∀ (k:Nat) (d:GFound),ds[k]?=some d→k≤j →
   CallsV Tryz.prog (.yld 904 0) [.agg ((encFound d).map .pv)] ((904,LR x lexE)::(926,tF d)::kL s (ds.take k) (.pv (.sl [])) 0 0) (fun r H'=>r=bv (okAt ds k)∧H'=(if okAt ds k then(904,LR x lexE)::(926,tF d)::kL s (ds.take (k+1)) (.pv (.sl [])) 0 0 else(904,LR (left x .ret) lexE)::(926,tF d)::kL s (ds.take k) (.pv (.sl [])) (if d.err≠0 then d.err else 2) d.pos)):=by
  intro k d hd hkj
  have hok:=okAt_iff hd
  have hkl:k < ds.length:=(List.getElem?_eq_some_iff.1 hd).1
  have htl:(ds.take k).length=k:=by rw [List.length_take];omega
  have hnx:ds.take (k+1)=ds.take k++[d]:=by rw [List.take_add_one,hd];rfl
  refine .inl ⟨904,0,rfl,?_⟩
  refine ycalls [(2,.ref 2 0 0 0),(3,.ref 3 0 0 0),(4,.ref 4 0 0 0),(5,.ref 5 0 0 0),(6,.ref 907 0 0 0)] ((907,tF d)::(926,tF d)::kL s (ds.take k) (.pv (.sl [])) 0 0) hx1 hx2 hx3 hx4 hx5 hx6 rfl rfl rfl ?_ ?_
  ·skip
   refine Rg<|Dd (by exact x_alloc (id:=907) rfl zo174 rfl rfl)<|Uu (sa' Tryz.sizeOf174)<|Zz ?_
   exact(Ent.wk (Ea<|Ea<|Ea<|Ea<|Ea<|trivial) (Hc (LR_clo (by simp [lexE];exact⟨rfl,rfl,rfl,rfl⟩))<|Hc (tF_clo _ _)<|Hc (tF_clo _ _)<|Hc (tkRows_clo _ _)<|Ha<|Hc (tA_clo rfl rfl)<|Hc (clsA_clo _)<|Hc (tS_clo _ _)<|Hb<|Hb<|Hb<|trivial) ⟨rfl,rfl,rfl,rfl,rfl,rfl,rfl,rfl,rfl,rfl,trivial⟩)
  skip
  refine awp_block<|Sq<|awp_block<|Sq<|Rg<|Dd (fr' fo174_1)<|Dd (l1' Tryz.isAgg25)<|Dd ne'<|Dd as'<|Zz ?_
  refine Cn (fun hc2=>?_) fun hc2=>?_
  ·have he:d.err≠0:=by have h:=hc2;rw [Bool.not_eq_true',decide_eq_false_iff_not] at h;exact h
   have h0:okAt ds k=false:=by rw [hok,decide_eq_false he];rfl
   rw [h0,if_neg (by decide),if_pos he]
   refine Sq ?_
   refine awp_drawc follows ?_
   refine Cr [907] (fun _ h=>fh fo174_1 h)<|Cr [907] (fun _ h=>lh Tryz.isAgg25 h)<|Cr [907] (fun _ h=>fh fo174_0 h)<|Cr [907] (fun _ h=>fh fo137_2 h)<|Cr [907] (fun _ h=>lh Tryz.isAgg3 h)<|Cp [2] (fun H1 hH=>by exact x_store_all rfl Tryz.sizeOf133 rfl rfl rfl rfl ((hH _ rfl).trans rfl) rfl rfl rfl)<|Cp [3] (fun H1 hH=>by exact x_store_all rfl Tryz.sizeOf25 rfl rfl rfl rfl ((hH _ rfl).trans rfl) rfl rfl rfl)<|Cp [4] (fun H1 hH=>by exact x_store_all rfl Tryz.sizeOf3 rfl rfl rfl rfl ((hH _ rfl).trans rfl) rfl rfl rfl) ?_
   refine dc_nil ⟨by kernel_rfl,?_⟩
   refine awp_ret ?_
   exact⟨(926,tF d)::kL s (ds.take k) (.pv (.sl [])) d.err d.pos,(Ent.wk trivial (Hc (LR_clo (by simp [lexE];exact⟨rfl,rfl,rfl,rfl⟩))<|Hc (tF_clo _ _)<|Hc (tkRows_clo _ _)<|Ha<|Hc (tA_clo rfl rfl)<|Hc (clsA_clo _)<|Hc (tS_clo _ _)<|Hb<|Hb<|Hb<|trivial) ⟨rfl,rfl,rfl,rfl,rfl,rfl,rfl,rfl,rfl,rfl,trivial⟩),rfl,rfl⟩
  have he:d.err=0:=by have h:=hc2;rw [Bool.not_eq_false',decide_eq_true_eq] at h;exact h
  refine Sq<|Rg<|Dd (l1' Tryz.isAgg133)<|Dd (by exact opd_len_osl rfl Tryz.underlying133 rfl rfl rfl)<|Dd eql'<|Dd as'<|Zz ?_
  refine Cn (fun hc3=>?_) fun hc3=>?_
  ·have hk5:k=5000:=by have:=of_decide_eq_true hc3;omega
   have h0:okAt ds k=false:=by rw [hok,decide_eq_true he,decide_eq_true hk5];rfl
   rw [h0,if_neg (by decide),if_neg (fun h=>h he)]
   refine Sq ?_
   refine awp_drawc follows ?_
   refine Cr [907] (fun _ h=>fh fo174_0 h)<|Cr [907] (fun _ h=>fh fo137_2 h)<|Cr [907] (fun _ h=>lh Tryz.isAgg3 h)<|Cp [2] (fun H1 hH=>by exact x_store_all rfl Tryz.sizeOf133 rfl rfl rfl rfl ((hH _ rfl).trans rfl) rfl rfl rfl)<|Cp [3] (fun H1 hH=>by exact x_store_all rfl Tryz.sizeOf25 rfl rfl rfl rfl ((hH _ rfl).trans rfl) rfl rfl rfl)<|Cp [4] (fun H1 hH=>by exact x_store_all rfl Tryz.sizeOf3 rfl rfl rfl rfl ((hH _ rfl).trans rfl) rfl rfl rfl) ?_
   refine dc_nil ⟨by kernel_rfl,?_⟩
   refine awp_ret ?_
   exact⟨(926,tF d)::kL s (ds.take k) (.pv (.sl [])) 2 d.pos,(Ent.wk trivial (Hc (LR_clo (by simp [lexE];exact⟨rfl,rfl,rfl,rfl⟩))<|Hc (tF_clo _ _)<|Hc (tkRows_clo _ _)<|Ha<|Hc (tA_clo rfl rfl)<|Hc (clsA_clo _)<|Hc (tS_clo _ _)<|Hb<|Hb<|Hb<|trivial) ⟨rfl,rfl,rfl,rfl,rfl,rfl,rfl,rfl,rfl,rfl,trivial⟩),rfl,rfl⟩
  have hk5:¬ k=5000:=by have:=of_decide_eq_false hc3;omega
  have h0:okAt ds k=true:=by rw [hok,decide_eq_true he,decide_eq_false hk5];rfl
  rw [h0,if_pos rfl,hnx,kL_app]
  refine awp_skip<|Rg<|Dd (l1' Tryz.isAgg133)<|Dd (fr' fo174_0)<|Dd (ln' Tryz.isAgg137 Tryz.sizeOf137)<|Dd (by exact x_buildSlice [encTok d] rfl so133 rfl rfl rfl rfl rfl (by intro r hr;rw [List.mem_singleton] at hr;subst hr;rfl))<|Dd (by exact x_append (ps:=[encTok d]) rfl so133 ei137 rfl rfl rfl rfl rfl (tkRows_len _) rfl (by intro r hr;rw [List.mem_singleton] at hr;subst hr;rfl) (m:=1) rfl (by omega) rfl (tkRows_app (ds.take k) d))<|Uu (sa' Tryz.sizeOf133)<|Zz ?_
  exact⟨(926,tF d)::[(905,⟨(ds.take k).length+1,3,137,tkRows (ds.take k++[d])⟩),(5,bx 1 133 [.osl 905 ((ds.take k).length+1) 0 ((ds.take k).length+1)]),(924,tA),(923,tC),(921,tS s),(4,bx 1 3 [iv 0]),(3,bx 1 25 [iv 0]),(2,bx 1 133 [.pv (.sl [])])],(Ent.wk trivial (Hc (LR_clo (by simp [lexE];exact⟨rfl,rfl,rfl,rfl⟩))<|Hc (tF_clo _ _)<|Hc (tkRows_clo _ _)<|Ha<|Hc (tA_clo rfl rfl)<|Hc (clsA_clo _)<|Hc (tS_clo _ _)<|Hb<|Hb<|Hb<|trivial) ⟨rfl,rfl,rfl,rfl,rfl,rfl,rfl,rfl,rfl,rfl,trivial⟩),rfl,rfl⟩
 rcases Nat.lt_or_ge j ds.length with hlt|hge
 ·obtain ⟨f,hf⟩:=get_of_lt hlt
  have hbad:=hj3 hlt
  have hdj:ds.drop j=f::ds.drop (j+1):=by
   rw [List.drop_eq_getElem_cons hlt]
   rw [List.getElem?_eq_getElem hlt] at hf
   cases hf;rfl
  have hres:gLex s=([],(if f.err≠0 then f.err else 2),(f.pos:Int)):=by
   rw [hg,hrun,hdj,lexRun]
   split
   ·rfl
   rename_i he
   have he0:f.err=0:=by
    by_cases h:f.err=0
    ·exact h
    exact absurd h he
   rw [okAt_iff hf,decide_eq_true he0,Bool.true_and,Bool.not_eq_false',decide_eq_true_eq] at hbad
   rw [if_pos (by rw [List.length_take];omega)]
  rw [hres] at hok
  have hok:(if f.err≠0 then f.err else 2)=0:=hok
  split at hok
  ·next h=>exact absurd hok h
  exact absurd hok (by decide)
 have hje:j=ds.length:=Nat.le_antisymm hj1 hge
 rw [hje,List.take_length,List.drop_length] at hrun
 rw [hg,hrun,lexRun]
 refine(tokens2_c s (.yld 904 0) (fun k=>(904,LR x lexE)::kL s (ds.take k) (.pv (.sl [])) 0 0) (okAt ds) ds.length hs (fun k=>rfl) (fun k=>rfl) (fun k=>rfl) (fun k=>rfl) (fun k=>(Closed.ofL ⟨(by exact LR_clo (by simp [lexE];exact⟨rfl,rfl,rfl,rfl⟩)),(by exact tkRows_clo _ _),(by(simp;rfl)),(by exact tA_clo rfl rfl),(by exact clsA_clo _),(by exact tS_clo _ _),(by(simp;done)),(by(simp;done)),(by(simp;done)),trivial⟩)) (fun k=>by simp;rfl) (by rw [← hds];exact Nat.le_refl _) (fun k hk=>hj2 k (by omega)) (.inl (by rw [← hds])) ?_).mono ?_
 ·rw [← hds]
  intro k d hd hk
  have hr:=hround k d hd (by omega)
  have hok:=hj2 k (by omega)
  rw [hok,if_pos rfl] at hr
  rw [hok]
  exact CallsV.congrG hr (fun j=>get_swap (by decide) j) (fun j=>get_swap (by decide) j)
 rintro r H' ⟨rfl,rfl⟩
 rw [List.take_length]
 refine⟨x,_,rfl,by rw [hx1];decide,rfl,fun z=>?_⟩
 rw [hx2]
 refine Sq<|Rg<|Dd (l1' Tryz.isAgg133)<|Uu (sa' Tryz.sizeOf133)<|Uu (sa' Tryz.sizeOf25)<|Uu (sa' Tryz.sizeOf3)<|Zz<|awp_ret ?_
 refine aret3 (H':=[(905,⟨ds.length,3,137,tkRows ds⟩)]) (.inr rfl) rfl (rval_cell1 rfl Tryz.isAgg133 rfl rfl rfl rfl) (rval_cell1 rfl Tryz.isAgg25 rfl rfl rfl rfl) (rval_cell1 rfl Tryz.isAgg3 rfl rfl rfl rfl) (Fin.wk (by(simp;rfl)) (Hc (tkRows_clo _ _)<|trivial) trivial) ?_
 exact⟨rfl,rfl⟩
theorem lexO_f (s:ByteArray) (H:Heap) (hs:s.size < 1099511627776) (hok:(gLex s).2.1=0) (hH:H.get 905=none):ACalls Tryz.prog 83 [sv s] H (fun r H'=>r=.tup [.osl 905 (gLex s).1.length 0 (gLex s).1.length,iv 0,iv (gLex s).2.2]∧H'=(905,⟨(gLex s).1.length,3,137,tkRows (gLex s).1⟩)::H) :=
 ACalls.frame (lexO_c s hs hok) (fun _ _ h=>by cases h) (fun _ _ h=>by cases h) (by simp) (fun id h=>.inr (by
  by_cases e:id=905
  ·rw [e];exact hH
  rw [get_cons_other _ _ e] at h;cases h))
end
end Go.Proofs.YtlnfjkdacimblaaGreatDoor
namespace Go.Abs
open Go.RowKit
section
/-- A call of the library that keeps all blocks that were there. -/
theorem Rel.below {I:Nat→Prop} {ι:Plc} {H:Heap} {w w':World} (hb:Below w.heap.size w w') (hr:Rel I ι H w):Rel I ι H w'∧Step I ι H w I ι H w':=by
  have hk:∀ b,b < w.heap.size→w'.heap[b]?=w.heap[b]?:=hb.block
  have hst:Step I ι H w I ι H w':=by
    refine⟨hb.os,hb.tape,hb.output,hb.size,fun a ha _=>?_,fun _ h=>h,fun _ h=>.inl h,fun _ h=>.inl h,fun b hb _=>hk b hb,fun _ o h=>⟨o,h,Nat.le_refl _,fun _=>⟨rfl,rfl,fun _=>Nat.le_refl _⟩⟩⟩
    unfold World.frozen?
    rw [hk _ ha]
  refine⟨⟨fun b h=>?_,fun j o hj=>?_,hr.inj,hst.glob hr⟩,hst⟩
  · have:=hr.imm b h
    have:=hb.size
    omega
  · exact(hr.obj j o hj).keep rfl (fun b c _ hb=>⟨hk b hb,fun h=>h⟩) (fun r _ a _ v hv=>hv.mono hr hst)
end
end Go.Abs
namespace Go.Abs
open Go.Proofs
section
def isErr (v:Value):Prop:=∃ t p,v=.iface t p
abbrev errI:PV:=.sat isErr
/-- What Atoi answers. -/
def atoiE (s:ByteArray):Int×PV:=match Lib.atoiAll s.data.toList with
  | .ok v=>(v,nilI)
  | .range=>(Lib.atoiSat s.data.toList,errI)
  | _=>(0,errI)
theorem atoi_c {P:Program} {ρ:Shelf.Ren} (L:LaysC.n172 P ρ) {G1 G2:Nat} (hg1:(G1,GV.face)∈gtab) (hn1:P.globalNamed "strconv.ErrSyntax" = some G1) (hg2:(G2,GV.face)∈gtab) (hn2:P.globalNamed "strconv.ErrRange" = some G2) (s:ByteArray) (hs:s.size < 1099511627776) (H:Heap) :
    ACalls P (ρ.f 172) [.pv (.str s)] H (fun r H'=>r=.tup [.pv (.int .i64 (atoiE s).1),.pv (atoiE s).2]∧H'=H):=by
  intro I ι w vs hr hvl hv
  obtain ⟨v,rfl⟩:∃ v,vs=#[v]:=by
    match vs,hvl with
    | ⟨[v]⟩,_=>exact⟨v,rfl⟩
  have e1:=(hv 0 v _ rfl rfl).str_inv
  subst e1
  have hvar:∀ (name:String) (G:Nat),(G,GV.face)∈gtab→P.globalNamed name=some G→∃ t p,w.var? P name=some #[.iface t p]:=fun name G hg hn=>by
    obtain ⟨_,cs,t,f,h2,q,p,h3⟩:=hr.glob _ hg
    subst h3
    exact⟨q,p,by simp only [World.var?,hn,Option.bind_some,h2]⟩
  have fin:∀ (n:Int) (x:Value) (a:PV) (w':World),RowKit.Below w.heap.size w w'→(∀ I H,VRel w' I ι H x (.pv a))→∃ r H' I' ι' v',(Ending.returned (.tuple #[.int .i64 n,x]))=.returned v'∧(r=.tup [.pv (.int .i64 n),.pv a]∧H'=H)∧VRel w' I' ι' H' v' r∧Rel I' ι' H' w'∧Step I ι H w I' ι' H' w':=fun n x a w' hb hx=>by
    obtain ⟨k1,k2⟩:=Rel.below hb hr
    refine⟨_,_,I,ι,_,rfl,⟨rfl,rfl⟩,.tup rfl fun i v b h1 h2=>?_,k1,k2⟩
    match i,h1,h2 with
    | 0,h1,h2=>cases h1;cases h2;exact .pv (.int _ _)
    | 1,h1,h2=>cases h1;cases h2;exact hx _ _
    | i+2,h1,h2=>simp at h1
  rw [atoiE]
  cases h:Lib.atoiAll s.data.toList with
  | ok n =>
    refine(Any.strconv_Atoi_ok L s (by omega) n h w).mono ?_
    rintro e w' ⟨rfl,hw⟩
    have hb:RowKit.Below w.heap.size w w':=by
      rcases hw with rfl|⟨t,rfl⟩
      · exact RowKit.Below.refl _ _
      · exact Lib.bytesWorld_below w _ t
    exact fin n .nilIface nilI w' hb (fun _ _=>.pv (.sat rfl rfl))
  | range =>
    obtain ⟨t,p,hq⟩:=hvar _ G2 hg2 hn2
    refine(Any.strconv_Atoi_range_var L s (by omega) h t p w hq).mono ?_
    rintro e w' ⟨N,rfl,_,_,hb⟩
    exact fin _ _ errI w' hb (fun _ _=>.pv (.sat rfl ⟨_,_,rfl⟩))
  | _ =>
    obtain ⟨t,p,hq⟩:=hvar _ G1 hg1 hn1
    refine(Any.strconv_Atoi_syntax_var L s (by omega) h t p w hq).mono ?_
    rintro e w' ⟨N,rfl,_,_,hb⟩
    exact fin 0 _ errI w' hb (fun _ _=>.pv (.sat rfl ⟨_,_,rfl⟩))
end
end Go.Abs
section
namespace Go.Proofs
open Go.RowKit Go.Sort Go.Shelf
def Tryz.atoiL_ren:Go.Shelf.Ren:=⟨fun|172=>134|244=>181|245=>182|247=>231|279=>232|280=>233|281=>234|282=>235|287=>254|316=>255|171=>68|205=>256|321=>263|322=>264|243=>124|246=>172|283=>220|284=>221|285=>222|286=>223|129=>201|317=>248|318=>249|319=>250|320=>251|337=>261|338=>262|n=>n,fun|9=>9|3=>3|75=>65|76=>66|4=>4|5=>5|167=>257|37=>52|0=>0|85=>258|2=>2|168=>260|53=>235|175=>277|46=>186|210=>280|127=>123|145=>292|143=>290|21=>21|171=>250|173=>252|212=>272|51=>233|20=>20|213=>273|232=>294|233=>295|80=>69|n=>n,fun|15=>2|16=>3|17=>1|18=>6|19=>7|n=>n⟩
theorem Tryz.atoiL:Go.Proofs.LaysC.n172 Tryz.prog Tryz.atoiL_ren:={
 mixed:=by kernel_rfl
 f129:=Tryz.func201.trans (congrArg some (by kernel_rfl))
 f171:=Tryz.func68.trans (congrArg some (by kernel_rfl))
 f172:=Tryz.func134.trans (congrArg some (by kernel_rfl))
 f205:=Tryz.func256.trans (congrArg some (by kernel_rfl))
 f243:=Tryz.func124.trans (congrArg some (by kernel_rfl))
 f244:=Tryz.func181.trans (congrArg some (by kernel_rfl))
 f245:=Tryz.func182.trans (congrArg some (by kernel_rfl))
 f246:=Tryz.func172.trans (congrArg some (by kernel_rfl))
 f247:=Tryz.func231.trans (congrArg some (by kernel_rfl))
 f279:=Tryz.func232.trans (congrArg some (by kernel_rfl))
 f280:=Tryz.func233.trans (congrArg some (by kernel_rfl))
 f281:=Tryz.func234.trans (congrArg some (by kernel_rfl))
 f282:=Tryz.func235.trans (congrArg some (by kernel_rfl))
 f283:=Tryz.func220.trans (congrArg some (by kernel_rfl))
 f284:=Tryz.func221.trans (congrArg some (by kernel_rfl))
 f285:=Tryz.func222.trans (congrArg some (by kernel_rfl))
 f286:=Tryz.func223.trans (congrArg some (by kernel_rfl))
 f287:=Tryz.func254.trans (congrArg some (by kernel_rfl))
 f316:=Tryz.func255.trans (congrArg some (by kernel_rfl))
 f317:=Tryz.func248.trans (congrArg some (by kernel_rfl))
 f318:=Tryz.func249.trans (congrArg some (by kernel_rfl))
 f319:=Tryz.func250.trans (congrArg some (by kernel_rfl))
 f320:=Tryz.func251.trans (congrArg some (by kernel_rfl))
 f321:=Tryz.func263.trans (congrArg some (by kernel_rfl))
 f322:=Tryz.func264.trans (congrArg some (by kernel_rfl))
 f337:=Tryz.func261.trans (congrArg some (by kernel_rfl))
 f338:=Tryz.func262.trans (congrArg some (by kernel_rfl))
 t0:=Tryz.underlying0
 a0:=Tryz.isAgg0
 z0:=Tryz.sizeOf0
 v0:=Tryz.zeroValue0
 t2:=Tryz.underlying2
 a2:=Tryz.isAgg2
 z2:=Tryz.sizeOf2
 v2:=Tryz.zeroValue2
 t3:=Tryz.underlying3
 a3:=Tryz.isAgg3
 z3:=Tryz.sizeOf3
 v3:=Tryz.zeroValue3
 t4:=Tryz.underlying4
 a4:=Tryz.isAgg4
 z4:=Tryz.sizeOf4
 v4:=Tryz.zeroValue4
 t5:=Tryz.underlying5
 a5:=Tryz.isAgg5
 z5:=Tryz.sizeOf5
 v5:=Tryz.zeroValue5
 t9:=Tryz.underlying9
 a9:=Tryz.isAgg9
 z9:=Tryz.sizeOf9
 v9:=Tryz.zeroValue9
 t20:=Tryz.underlying20
 a20:=Tryz.isAgg20
 z20:=Tryz.sizeOf20
 v20:=Tryz.zeroValue20
 t21:=Tryz.underlying21
 a21:=Tryz.isAgg21
 z21:=Tryz.sizeOf21
 v21:=Tryz.zeroValue21
 t37:=Tryz.underlying52
 a37:=Tryz.isAgg52
 z37:=Tryz.sizeOf52
 v37:=Tryz.zeroValue52
 t46:=Tryz.underlying186
 a46:=Tryz.isAgg186
 z46:=Tryz.sizeOf186
 v46:=Tryz.zeroValue186
 t51:=Tryz.underlying233
 a51:=Tryz.isAgg233
 z51:=Tryz.sizeOf233
 v51:=Tryz.zeroValue233
 t53:=Tryz.underlying235
 a53:=Tryz.isAgg235
 z53:=Tryz.sizeOf235
 v53:=Tryz.zeroValue235
 t75:=Tryz.underlying65
 a75:=Tryz.isAgg65
 z75:=Tryz.sizeOf65
 v75:=Tryz.zeroValue65
 t76:=Tryz.underlying66
 a76:=Tryz.isAgg66
 z76:=Tryz.sizeOf66
 v76:=Tryz.zeroValue66
 t85:=Tryz.underlying258
 a85:=Tryz.isAgg258
 z85:=Tryz.sizeOf258
 v85:=Tryz.zeroValue258
 t127:=Tryz.underlying123
 a127:=Tryz.isAgg123
 z127:=Tryz.sizeOf123
 v127:=Tryz.zeroValue123
 t143:=Tryz.underlying290
 a143:=Tryz.isAgg290
 z143:=Tryz.sizeOf290
 v143:=Tryz.zeroValue290
 t145:=Tryz.underlying292
 a145:=Tryz.isAgg292
 z145:=Tryz.sizeOf292
 v145:=Tryz.zeroValue292
 t167:=Tryz.underlying257
 a167:=Tryz.isAgg257
 z167:=Tryz.sizeOf257
 v167:=Tryz.zeroValue257
 t168:=Tryz.underlying260
 a168:=Tryz.isAgg260
 z168:=Tryz.sizeOf260
 v168:=Tryz.zeroValue260
 t171:=Tryz.underlying250
 a171:=Tryz.isAgg250
 z171:=Tryz.sizeOf250
 v171:=Tryz.zeroValue250
 t173:=Tryz.underlying252
 a173:=Tryz.isAgg252
 z173:=Tryz.sizeOf252
 v173:=Tryz.zeroValue252
 t175:=Tryz.underlying277
 a175:=Tryz.isAgg277
 z175:=Tryz.sizeOf277
 v175:=Tryz.zeroValue277
 t210:=Tryz.underlying280
 a210:=Tryz.isAgg280
 z210:=Tryz.sizeOf280
 v210:=Tryz.zeroValue280
 t212:=Tryz.underlying272
 a212:=Tryz.isAgg272
 z212:=Tryz.sizeOf272
 v212:=Tryz.zeroValue272
 t213:=Tryz.underlying273
 a213:=Tryz.isAgg273
 z213:=Tryz.sizeOf273
 t232:=Tryz.underlying294
 a232:=Tryz.isAgg294
 z232:=Tryz.sizeOf294
 v232:=Tryz.zeroValue294
 t233:=Tryz.underlying295
 a233:=Tryz.isAgg295
 z233:=Tryz.sizeOf295
 v233:=Tryz.zeroValue295
 g15:=by kernel_rfl
 g16:=by kernel_rfl
 g17:=by kernel_rfl
 g18:=by kernel_rfl
 g19:=by kernel_rfl
 t80:=Tryz.underlying69
 a80:=Tryz.isAgg69
 z80:=Tryz.sizeOf69
 v80:=Tryz.zeroValue69
 i0:=by kernel_rfl
 i2:=by kernel_rfl
 i3:=by kernel_rfl
 i4:=by kernel_rfl
 i5:=by kernel_rfl
 i9:=by kernel_rfl
 i20:=by kernel_rfl
 i21:=by kernel_rfl
 i37:=by kernel_rfl
 i46:=by kernel_rfl
 i51:=by kernel_rfl
 i53:=by kernel_rfl
 i75:=by kernel_rfl
 i76:=by kernel_rfl
 i80:=by kernel_rfl
 i85:=by kernel_rfl
 i127:=by kernel_rfl
 i143:=by kernel_rfl
 i145:=by kernel_rfl
 i167:=by kernel_rfl
 i168:=by kernel_rfl
 i171:=by kernel_rfl
 i173:=by kernel_rfl
 i175:=by kernel_rfl
 i210:=by kernel_rfl
 i212:=by kernel_rfl
 i232:=by kernel_rfl
 i233:=by kernel_rfl
 m15:=by kernel_rfl
 m16:=by kernel_rfl
 m17:=by kernel_rfl
 m18:=by kernel_rfl
 m19:=by kernel_rfl
 c0:=by kernel_rfl
 c2:=by kernel_rfl
 c3:=by kernel_rfl
 c4:=by kernel_rfl
 c5:=by kernel_rfl
 c9:=by kernel_rfl
 c20:=by kernel_rfl
 c21:=by kernel_rfl
 c37:=by kernel_rfl
 c46:=by kernel_rfl
 c51:=by kernel_rfl
 c53:=by kernel_rfl
 c75:=by kernel_rfl
 c76:=by kernel_rfl
 c80:=by kernel_rfl
 c85:=by kernel_rfl
 c127:=by kernel_rfl
 c143:=by kernel_rfl
 c145:=by kernel_rfl
 c167:=by kernel_rfl
 c168:=by kernel_rfl
 c171:=by kernel_rfl
 c173:=by kernel_rfl
 c175:=by kernel_rfl
 c210:=by kernel_rfl
 c212:=by kernel_rfl
 c213:=by kernel_rfl
 c232:=by kernel_rfl
 c233:=by kernel_rfl}
end Go.Proofs
namespace Go.Proofs.YtlnfjkdacimblaaGreatDoor
open Go.Abs
theorem atoi_cT (s:ByteArray) (hs:s.size < 1099511627776) (H:Heap):ACalls Tryz.prog 134 [sv s] H (fun r H'=>r=.tup [iv (atoiE s).1,.pv (atoiE s).2]∧H'=H) :=
 Go.Abs.atoi_c Tryz.atoiL (G1:=2) (G2:=3) (by unfold gtab;exact .tail _ (.tail _ (.head _))) (by kernel_rfl) (by unfold gtab;exact .tail _ (.head _)) (by kernel_rfl) s hs H
end Go.Proofs.YtlnfjkdacimblaaGreatDoor
end
namespace Go.Proofs.YtlnfjkdacimblaaGreatDoor
open Go.Abs
section
theorem rows_ofY {α:Type} (f:α→List PV) (l:List α):l.map (fun e=>(f e).map AV.pv)=(l.map f).map (·.map .pv):=by rw [List.map_map];rfl
theorem take_rows {α:Type} (f:α→List PV) (l:List α):((l.map f).take (0+l.length)).drop 0=l.map f:=by rw [Nat.zero_add,List.drop_zero];exact List.take_of_length_le (by rw [List.length_map];exact Nat.le_refl _)
theorem isClose_c (f:GFound) (H:Heap):ACalls Tryz.prog 180 [av (encTok f)] H (fun r H'=>r=bv (isClose f)∧H'=H):=by
 refine ACalls.pure ?_ (by simp) H
 refine Bd Tryz.func180 rfl Tryz.ntmps180<|Sq<|Rg<|Dd (by exact opd_box (id:=1) rfl rfl rfl rfl rfl)<|Dd as'<|Zz<|Sq ?_
 refine awp_bool (t:=2) (n:=10) (X:=isClose f) ?_ ?_
 ·all_goals refine Dd (fr' fo137_1) ?_
  all_goals refine Dd (l1' Tryz.isAgg9) ?_
  all_goals refine Dd se' ?_
  all_goals refine Dd mv' ?_
  all_goals refine Sp 6 (fun h6=>?_) fun h6=>?_
  all_goals try contradiction
  all_goals first|refine Fo ?_|refine On (fr' fo137_0) ?_
  all_goals first|refine Fo ?_|refine On (l1' Tryz.isAgg3) ?_
  all_goals first|refine Fo ?_|refine On eql' ?_
  all_goals refine Dd pk' ?_
  all_goals refine Dd as' ?_
  all_goals refine al_nil ?_
  all_goals(exact⟨⟨_,rfl,by(simp only [isClose, *];rfl)⟩,rfl,rfl,rfl⟩)
 refine awp_ret ?_
 refine Rt ?_
 exact⟨rfl,rfl⟩
theorem indexFunc_GFound (l:List GFound) (H:Heap) (hl:l.length < 4611686018427387904) :
  ACalls Tryz.prog 179 [.pv (slToks l),.pv (.fn 180)] H (fun r H'=>r=iv (gidx isClose l)∧H'=H):=by
 refine ACalls.pure ?_ (by simp) H
 have hml:(l.map encTok).length=l.length:=List.length_map _
 refine Bd Tryz.func179 rfl Tryz.ntmps179<|Sq<|Rg<|Dd as'<|Zz<|Sq<|Sq<|Rg<|Dd mv'<|Dd (ll' Tryz.underlying133)<|Dd mv'<|Zz<|awp_block ?_
 refine awp_loop (σ:=Nat) (fun k=>([(0,.pv (slToks l)),(1,.pv (.fn 180)),(7,iv ((l.map encTok).length:Int)),(8,iv (k:Int))],[])) (fun k=>k≤l.length∧∀ j,j < k→∀ b,l[j]?=some b→isClose b=false) (fun k=>l.length - k) 0 ⟨by omega,by omega⟩ ?_ ?_
 ·exact E0
 rintro k ⟨hk,hno⟩
 refine Sq<|Rg<|Dd lss'<|Zz<|Sq ?_
 refine Cn (fun hc1=>?_) fun hc1=>?_
 ·have hlt:k < l.length:=by have:=of_decide_eq_true hc1;omega
  obtain ⟨o,ho⟩:=get_of_lt hlt
  have hi:=map_get (f:=encTok) ho
  refine awp_skip<|Sq<|awp_block<|Sq<|Rg<|Dd mv'<|Dd as'<|Zz<|Sq<|Rg<|Dd mv'<|Dd mv'<|Dd mv'<|Dd (xp' so133)<|Dd (by exact opd_loadn_pad rfl Tryz.isAgg137 Tryz.sizeOf137 rfl (by omega) (by simp only [Zl,encTag,encObj,encStr,encInt,encTok];rfl) rfl)<|Dd (by exact opr_callV rfl rfl rfl (CallsV.fn Tryz.call180 (isClose_c o _)))<|Zz ?_
  refine Cn (fun hc2=>?_) fun hc2=>?_
  ·skip
   refine Sq<|Rg<|Dd mv'<|Dd as'<|Zz<|awp_ret ?_
   refine Rt ?_
   exact⟨by rw [gidx,fidx_some hno ho hc2],rfl⟩
  skip
  refine awp_skip<|Rg<|Dd ad'<|Dd mv'<|Zz ?_
  exact⟨k+1,⟨by omega,pre_succ hno ho hc2⟩,by omega,E0⟩
 have hge:k=l.length:=by have:=of_decide_eq_false hc1;omega
 subst hge
 refine awp_exit<|Sq<|Rg<|Dd as'<|Zz<|awp_ret ?_
 refine Rt ?_
 exact⟨by rw [gidx,fidx_none hno],rfl⟩
/-- The tokens so far, and as many empty ones. -/
def padT (T:List GFound) (k:Nat):List GFound:=T++List.replicate k noF
theorem padT_len (T:List GFound) (k:Nat):(padT T k).length=T.length+k:=by rw [padT,List.length_append,List.length_replicate]
theorem padT_app (T:List GFound) (k:Nat):tkRows (padT T k)++[(encTok noF).map AV.pv]=tkRows (padT T (k+1)):=by
 rw [tkRows_app,padT,padT,List.replicate_succ',List.append_assoc]
def kF (s:ByteArray):Nat→Int
 | 0=>0
 | j+1=>if gWord ((j+1:Nat):Int)=s then((j+1:Nat):Int)else kF s j
theorem kF_five (s:ByteArray):kF s 5=kindW s:=by
 simp only [kF,kindW,eq_comm (a:=s)]
 rfl
theorem tagsR_eq:∀ l:List GFound,tagsR l=firstTags l (l.length / 3)
 | []=>by simp [tagsR,firstTags]
 | [a]=>by simp [tagsR,firstTags]
 | [a,b]=>by simp [tagsR,firstTags]
 | a::b::c::r=>by
  rw [tagsR,tagsR_eq r]
  have h1:(a::b::c::r).length=r.length+3:=rfl
  rw [h1,Nat.add_div_right _ (by decide),firstTags,firstTags,List.range_succ_eq_map,List.map_cons,List.map_map]
  rfl
theorem atV_eq (s:ByteArray):atV s=(atoiE s).1:=by
 rw [atV,atoiE]
 cases h:Lib.atoiAll s.data.toList<;>rfl
abbrev oR (id:ByteArray) (k x y:Int) (n m:Nat):Ob:=bx 6 49 [sv id,iv k,iv x,iv y,.osl 906 n 0 n,.osl 907 m 0 m]
theorem oR_clo {H:Heap} {id:ByteArray} {k x y:Int} {n m:Nat} (h1:(H.get 906).isSome=true) (h2:(H.get 907).isSome=true):∀ r∈(oR id k x y n m).rows,∀ a∈r,Clo H a:=by
 intro r hr a ha
 simp only [bx,List.mem_singleton] at hr
 subst hr
 simp only [List.mem_cons,List.not_mem_nil,or_false] at ha
 rcases ha with rfl|rfl|rfl|rfl|rfl|rfl
 ·simp
 ·simp
 ·simp
 ·simp
 ·simp [h1]
 simp [h2]
def tOb (L:List GFound):Ob:=⟨L.length,3,137,tkRows L⟩
def rH (L:List GFound) (id:ByteArray) (k x y:Int) (R:List ByteArray) (G:List GTag):Heap:=[(907,⟨G.length,2,117,tgRowsT G⟩),(906,⟨R.length,1,9,wRows R⟩),(3,oR id k x y R.length G.length),(905,tOb L),(2,bx 6 49 ((encObj zObj).map .pv))]
abbrev rE (L:List GFound):Env:=[(0,.osl 905 L.length 0 L.length),(2,.ref 2 0 0 0),(3,.ref 3 0 0 0)]
theorem rH_R (L:List GFound) (id:ByteArray) (k x y:Int) (R:List ByteArray) (s:ByteArray) (G:List GTag):rH L id k x y (R++[s]) G=[(907,⟨G.length,2,117,tgRowsT G⟩),(906,⟨R.length+1,1,9,wRows (R++[s])⟩),(3,oR id k x y (R.length+1) G.length),(905,tOb L),(2,bx 6 49 ((encObj zObj).map .pv))]:=by simp [rH]
theorem rH_G (L:List GFound) (id:ByteArray) (k x y:Int) (R:List ByteArray) (t:GTag) (G:List GTag):rH L id k x y R (G++[t])=[(907,⟨G.length+1,2,117,tgRowsT (G++[t])⟩),(906,⟨R.length,1,9,wRows R⟩),(3,oR id k x y R.length (G.length+1)),(905,tOb L),(2,bx 6 49 ((encObj zObj).map .pv))]:=by simp [rH]
theorem tk_row {L:List GFound} {i:Nat} {f:GFound} (h:L[i]?=some f):(tkRows L)[i]?=some [iv f.kind,sv f.text,iv (f.pos:Int)]:=by rw [tkRows,List.getElem?_map,h];rfl
theorem read_c (T:List GFound) (hl:T.length < 549755813888) (hsz:∀ f∈pad4 T,f.text.size < 1099511627776):ACalls Tryz.prog 133 [.osl 905 T.length 0 T.length] [(905,tOb T)] (fun r H'=>r=av (encObj (gReadO T))∧H'=[(905,tOb (pad4 T))]):=by
 refine Bd Tryz.func133 rfl Tryz.ntmps133<|Sq<|Rg<|Dd (by exact x_alloc (id:=2) rfl zo49 rfl rfl)<|Zz<|Sq<|awp_block ?_
 refine awp_loop (σ:=Nat) (fun k=>([(0,.osl 905 (padT T k).length 0 (padT T k).length),(2,.ref 2 0 0 0)],[(905,tOb (padT T k)),(2,bx 6 49 ((encObj zObj).map .pv))])) (fun k=>k≤4 - T.length) (fun k=>4 - T.length - k) 0 (Nat.zero_le _) ?_ ?_
 ·rw [show padT T 0=T by simp [padT]]
  exact(Ent.wk (Ea<|Ea<|trivial) (Hc (tkRows_clo _ _)<|Hb<|trivial) ⟨rfl,trivial⟩)
 rintro k hk
 have hpl:=padT_len T k
 unfold tOb
 refine Sq<|Sq<|Rg<|Dd mv'<|Dd (by exact opd_len_osl rfl Tryz.underlying133 rfl rfl rfl)<|Dd lss'<|Zz ?_
 refine Cn (fun hc1=>?_) fun hc1=>?_
 ·skip
  have hlt:T.length+k < 4:=by have:=of_decide_eq_true hc1;rw [hpl] at this;omega
  refine awp_skip<|awp_block<|Rg<|Dd mv'<|Dd (bu' bo137)<|Dd (by exact x_buildSlice [encTok noF] rfl so133 rfl rfl rfl rfl rfl (by intro r hr;rw [List.mem_singleton] at hr;subst hr;rfl))<|Dd (by exact x_append (ps:=[encTok noF]) rfl so133 ei137 rfl rfl rfl rfl rfl (tkRows_len _) rfl (by intro r hr;rw [List.mem_singleton] at hr;subst hr;rfl) (m:=1) rfl (by omega) rfl (padT_app T k))<|Dd as'<|Zz ?_
  refine⟨k+1,by omega,by omega,?_⟩
  rw [show (padT T (k+1)).length=(padT T k).length+1 by rw [padT_len,padT_len];omega]
  exact(Ent.wk (Ea<|Ea<|trivial) (Hc (tkRows_clo _ _)<|Hb<|trivial) ⟨rfl,trivial⟩)
 skip
 have hge:4≤T.length+k:=by have:=of_decide_eq_false hc1;rw [hpl] at this;omega
 obtain rfl:k=4 - T.length:=by omega
 obtain ⟨L,hL⟩:∃ L,L=padT T (4 - T.length):=⟨_,rfl⟩
 have hLp:pad4 T=L:=by rw [hL];rfl
 have hLl:4≤L.length∧L.length < 549755813893:=by rw [hL,padT_len];omega
 rw [hLp] at hsz
 rw [hLp,← hL]
 clear hpl
 obtain ⟨t0,ht0⟩:=get_of_lt (show 0 < L.length by omega)
 obtain ⟨t1,ht1⟩:=get_of_lt (show 1 < L.length by omega)
 obtain ⟨t2,ht2⟩:=get_of_lt (show 2 < L.length by omega)
 obtain ⟨t3,ht3⟩:=get_of_lt (show 3 < L.length by omega)
 have hr0:=tk_row ht0
 have hr1:=tk_row ht1
 have hr2:=tk_row ht2
 have hr3:=tk_row ht3
 have hd:∀ {i:Nat} {f:GFound},L[i]?=some f→L.getD i noF=f:=fun {i f} h=>by rw [List.getD_eq_getElem?_getD,h];rfl
 have hR:=gReadO.eq_1 T
 rw [hLp,hd ht0,hd ht1,hd ht2,hd ht3] at hR
 refine awp_exit<|Sq<|Rg<|Dd mv'<|Dd (by exact x_index_osl rfl so133 rfl rfl rfl rfl rfl (by omega) (by exact Int.toNat_natCast _) (show 1 < L.length by omega) rfl)<|Dd (fr' fo137_1)<|Dd (by exact opd_load1_ref rfl Tryz.isAgg9 rfl rfl rfl hr1 rfl)<|Dd (bu' boN49)<|Dd (by exact x_alloc (id:=3) rfl zoN49 rfl rfl)<|Uu (sa' Tryz.sizeOf49)<|Zz<|Sq<|Sq ?_
 refine AWp.ent (E':=rE L) (H':=[(906,⟨0,1,9,[]⟩),(3,bx 6 49 [sv t1.text,iv 0,iv 0,iv 0,.osl 906 0 0 0,.pv .nils]),(905,tOb L),(2,bx 6 49 ((encObj zObj).map .pv))]) (Ent.nz 906 1 9 rfl rfl ⟨⟨_,rfl,(by exact Nz.same (by(simp;rfl)))⟩,⟨_,rfl,(by exact Nz.same (by(simp;rfl)))⟩,⟨_,rfl,(by exact Nz.same (by(simp;rfl)))⟩,trivial⟩ ⟨⟨_,rfl,rfl,rfl,rfl,(by exact .inr ⟨_,_,rfl,rfl,(by repeat(first|exact trivial|refine⟨(by first|exact Nz.own|exact Nz.same (by(simp;done))),?_⟩))⟩)⟩,⟨_,rfl,rfl,rfl,rfl,(by exact .inl ⟨rfl,(by exact tkRows_clo _ _)⟩)⟩,⟨_,rfl,rfl,rfl,rfl,(by exact .inl ⟨rfl,(by(simp;done))⟩)⟩,trivial⟩ ⟨rfl,trivial⟩) ?_
 refine AWp.ent (E':=rE L) (H':=rH L t1.text 0 0 0 [] []) (Ent.nz 907 2 117 rfl rfl ⟨⟨_,rfl,(by exact Nz.same (by(simp;rfl)))⟩,⟨_,rfl,(by exact Nz.same (by(simp;rfl)))⟩,⟨_,rfl,(by exact Nz.same (by(simp;rfl)))⟩,trivial⟩ ⟨⟨_,rfl,rfl,rfl,rfl,(by exact .inl ⟨rfl,(by exact wRows_clo _ _)⟩)⟩,⟨_,rfl,rfl,rfl,rfl,(by exact .inr ⟨_,_,rfl,rfl,(by repeat(first|exact trivial|refine⟨(by first|exact Nz.own|exact Nz.same (by first|(simp;done)|(simp;rfl))),?_⟩))⟩)⟩,⟨_,rfl,rfl,rfl,rfl,(by exact .inl ⟨rfl,(by exact tkRows_clo _ _)⟩)⟩,⟨_,rfl,rfl,rfl,rfl,(by exact .inl ⟨rfl,(by(simp;done))⟩)⟩,trivial⟩ ⟨rfl,trivial⟩) ?_
 refine Rg<|Dd as'<|Zz<|awp_block ?_
 refine awp_loop (σ:=Nat) (fun j=>(rE L++[(4,iv ((j+1:Nat):Int))],rH L t1.text (kF t0.text j) 0 0 [] [])) (fun j=>j≤5) (fun j=>5 - j) 0 (Nat.zero_le _) ?_ ?_
 ·exact(Ent.wk (Ea<|Ea<|Ea<|Eb<|trivial) (Hc (tgRows_clo _ _)<|Hc (wRows_clo _ _)<|Hc (by(simp;exact⟨rfl,rfl⟩))<|Hc (tkRows_clo _ _)<|Hb<|trivial) ⟨rfl,trivial⟩)
 rintro j hj
 refine Sq<|Sq<|Rg<|Dd mv'<|Dd le'<|Zz ?_
 refine Cn (fun hc2=>?_) fun hc2=>?_
 ·skip
  have hj5:j < 5:=by have:=of_decide_eq_true hc2;omega
  refine awp_skip<|Sq<|awp_block<|Sq ?_
  refine awp_drawc follows ?_
  refine Cq mv'<|Cq (by exact opr_call rfl rfl Tryz.call122 rfl (word_c ((j+1:Nat):Int) _))<|Cq mv'<|Cq (by exact x_index_osl rfl so133 rfl rfl rfl rfl rfl (by omega) (by exact Int.toNat_natCast _) (show 0 < L.length by omega) rfl)<|Cq (fr' fo137_1)<|Cq (by exact opd_load1_ref rfl Tryz.isAgg9 rfl rfl rfl hr0 rfl)<|Cq se' ?_
  refine dc_nil ⟨by kernel_rfl,?_⟩
  refine Cn (fun hc3=>?_) fun hc3=>?_
  ·skip
   have hw:gWord ((j+1:Nat):Int)=t0.text:=of_decide_eq_true hc3
   refine Rg<|Dd mv'<|Dd (fr' fo49_1)<|Uu (by exact x_store1 rfl Tryz.sizeOf3 rfl rfl rfl rfl rfl rfl (by simp only [List.length_cons,List.length_nil];omega) (by simp only [Zl,encTag,encObj,encStr,encInt,encTok];rfl) (by simp only [Zl,encTag,encObj,encStr,encInt,encTok];rfl))<|Zz<|Rg<|Dd mv'<|Dd ad'<|Dd as'<|Zz ?_
   refine⟨j+1,by omega,by omega,?_⟩
   rw [show kF t0.text (j+1)=((j+1:Nat):Int)by rw [kF,if_pos hw]]
   exact(Ent.wk (Ea<|Ea<|Ea<|Eb<|trivial) (Hc (tgRows_clo _ _)<|Hc (wRows_clo _ _)<|Hc (by(simp;exact⟨rfl,rfl⟩))<|Hc (tkRows_clo _ _)<|Hb<|trivial) ⟨rfl,trivial⟩)
  skip
  have hw:gWord ((j+1:Nat):Int)≠t0.text:=of_decide_eq_false hc3
  refine awp_skip<|Rg<|Dd mv'<|Dd ad'<|Dd as'<|Zz ?_
  refine⟨j+1,by omega,by omega,?_⟩
  rw [show kF t0.text (j+1)=kF t0.text j by rw [kF,if_neg hw]]
  exact(Ent.wk (Ea<|Ea<|Ea<|Eb<|trivial) (Hc (tgRows_clo _ _)<|Hc (wRows_clo _ _)<|Hc (by(simp;exact⟨rfl,rfl⟩))<|Hc (tkRows_clo _ _)<|Hb<|trivial) ⟨rfl,trivial⟩)
 skip
 have hj5:j=5:=by have:=of_decide_eq_false hc2;omega
 subst hj5
 rw [kF_five]
 obtain ⟨kd,hkd⟩:∃ kd,kd=kindW t0.text:=⟨_,rfl⟩
 rw [← hkd] at hR ⊢
 have htk:(tkRows L).length=L.length:=tkRows_len L
 refine awp_exit<|Sq<|Rg<|Dd mv'<|Dd (by exact x_slice_osl (l:=4) (h:=L.length) rfl so133 rfl rfl rfl rfl rfl rfl (by omega) (by omega) rfl rfl)<|Dd as'<|Zz<|Sq<|Sq<|Rg<|Dd (fr' fo49_1)<|Dd (l1' Tryz.isAgg3)<|Dd eql'<|Zz ?_
 refine Cn (fun hc4=>?_) fun hc4=>?_
 ·skip
  have hk1:kd=1:=of_decide_eq_true hc4
  have hR2:gReadO T=⟨t1.text,1,atV t2.text,atV t3.text,[],tagsR (L.drop 4)⟩:=by rw [hR,if_pos hk1]
  subst hk1
  refine Sq<|Rg<|Dd mv'<|Dd (by exact x_index_osl rfl so133 rfl rfl rfl rfl rfl (by omega) (by exact Int.toNat_natCast _) (show 2 < L.length by omega) rfl)<|Dd (fr' fo137_1)<|Dd (by exact opd_load1_ref rfl Tryz.isAgg9 rfl rfl rfl hr2 rfl)<|Dd (by exact opr_call rfl rfl Tryz.call134 rfl (atoi_cT t2.text (hsz _ (List.mem_of_getElem? ht2)) _))<|Dd mv'<|Dd ex'<|Dd ex'<|Dd (fr' fo49_2)<|Dd (fr' fo45_0)<|Uu (by exact x_store1 rfl Tryz.sizeOf3 rfl rfl rfl rfl rfl rfl (by simp only [List.length_cons,List.length_nil];omega) (by simp only [Zl,encTag,encObj,encStr,encInt,encTok];rfl) (by simp only [Zl,encTag,encObj,encStr,encInt,encTok];rfl))<|Zz<|Rg<|Dd mv'<|Dd (by exact x_index_osl rfl so133 rfl rfl rfl rfl rfl (by omega) (by exact Int.toNat_natCast _) (show 3 < L.length by omega) rfl)<|Dd (fr' fo137_1)<|Dd (by exact opd_load1_ref rfl Tryz.isAgg9 rfl rfl rfl hr3 rfl)<|Dd (by exact opr_call rfl rfl Tryz.call134 rfl (atoi_cT t3.text (hsz _ (List.mem_of_getElem? ht3)) _)) ?_
  refine Dd mv'<|Dd ex'<|Dd ex'<|Dd (fr' fo49_2)<|Dd (fr' fo45_1)<|Uu (by exact x_store1 rfl Tryz.sizeOf3 rfl rfl rfl rfl rfl rfl (by simp only [List.length_cons,List.length_nil];omega) (by simp only [Zl,encTag,encObj,encStr,encInt,encTok];rfl) (by simp only [Zl,encTag,encObj,encStr,encInt,encTok];rfl))<|Zz<|Sq<|awp_block ?_
  obtain ⟨D,hD⟩:∃ D,D=L.drop 4:=⟨_,rfl⟩
  have hDl:D.length=L.length - 4:=by rw [hD,List.length_drop]
  refine awp_loop (σ:=Nat) (fun j=>(rE L++[(5,.osl 905 L.length (4+3*j) (L.length - 4 - 3*j))],rH L t1.text 1 (atoiE t2.text).1 (atoiE t3.text).1 ([]:List ByteArray) (firstTags D j))) (fun j=>3*j≤D.length) (fun j=>D.length - 3*j) 0 (Nat.zero_le _) ?_ ?_
  ·exact(Ent.wk (Ea<|Ea<|Ea<|Ea<|trivial) (Hc (tgRows_clo _ _)<|Hc (wRows_clo _ _)<|Hc (by(simp;exact⟨rfl,rfl⟩))<|Hc (tkRows_clo _ _)<|Hb<|trivial) ⟨rfl,trivial⟩)
  rintro j hj
  have hnx:=firstTags_next D j
  have hfl:=firstTags_len D j
  refine Sq<|Sq<|Rg<|Dd mv'<|Dd (by exact opd_len_osl rfl Tryz.underlying133 rfl rfl rfl)<|Dd gt'<|Zz ?_
  refine Cn (fun hc5=>?_) fun hc5=>?_
  ·skip
   have hlt:3*j+2 < D.length:=by have:=of_decide_eq_true hc5;omega
   obtain ⟨f0,hf0⟩:∃ f,L[4+3*j]?=some f:=get_of_lt (by omega)
   obtain ⟨f2,hf2⟩:∃ f,L[4+3*j+2]?=some f:=get_of_lt (by omega)
   have hr0:=tk_row hf0
   have hr2:=tk_row hf2
   have hta:tagAt D j=⟨f0.text,f2.text⟩:=by
    rw [tagAt,hD,List.getElem?_drop,List.getElem?_drop,hf0,show 4+(3*j+2)=4+3*j+2 from rfl,hf2]
    rfl
   refine awp_skip<|Sq<|awp_block ?_
   refine awp_drawc follows ?_
   refine dc_cons (r:=⟨_,none,[]⟩) (DStep.plain rfl (fun H1 hH=>by exact(by exact opd_field_ref rfl fo49_4 rfl ((hH _ rfl).trans rfl) rfl rfl))) rfl ?_
   refine dc_cons (r:=⟨_,none,[]⟩) (DStep.plain rfl (fun H1 hH=>by exact(by exact opd_load1_ref rfl Tryz.isAgg47 rfl ((hH _ rfl).trans rfl) rfl rfl rfl))) rfl ?_
   refine dc_cons (r:=⟨_,none,[]⟩) (DStep.plain rfl (fun H1 hH=>by exact opd_move rfl rfl)) rfl ?_
   refine dc_cons (r:=⟨_,none,[]⟩) (DStep.plain rfl (fun H1 hH=>by exact(by exact x_index_osl rfl so133 rfl ((hH _ rfl).trans rfl) rfl rfl rfl (by omega) (by exact Int.toNat_natCast _) (show 0 < L.length - 4 - 3*j by omega) rfl))) rfl ?_
   refine dc_cons (r:=⟨_,none,[]⟩) (DStep.plain rfl (fun H1 hH=>by exact(by exact opd_field_ref rfl fo137_1 rfl ((hH _ rfl).trans rfl) rfl rfl))) rfl ?_
   refine dc_cons (r:=⟨_,none,[]⟩) (DStep.plain rfl (fun H1 hH=>by exact(by exact opd_load1_ref rfl Tryz.isAgg9 rfl ((hH _ rfl).trans rfl) rfl hr0 rfl))) rfl ?_
   refine dc_cons (r:=⟨_,none,[]⟩) (DStep.plain rfl (fun H1 hH=>by exact opd_move rfl rfl)) rfl ?_
   refine dc_cons (r:=⟨_,none,[]⟩) (DStep.plain rfl (fun H1 hH=>by exact(by exact x_index_osl rfl so133 rfl ((hH _ rfl).trans rfl) rfl rfl rfl (by omega) (by exact Int.toNat_natCast _) (show 2 < L.length - 4 - 3*j by omega) rfl))) rfl ?_
   refine dc_cons (r:=⟨_,none,[]⟩) (DStep.plain rfl (fun H1 hH=>by exact(by exact opd_field_ref rfl fo137_1 rfl ((hH _ rfl).trans rfl) rfl rfl))) rfl ?_
   refine dc_cons (r:=⟨_,none,[]⟩) (DStep.plain rfl (fun H1 hH=>by exact(by exact opd_load1_ref rfl Tryz.isAgg9 rfl ((hH _ rfl).trans rfl) rfl hr2 rfl))) rfl ?_
   refine dc_cons (r:=⟨_,none,[]⟩) (DStep.plain rfl (fun H1 hH=>by exact x_build rfl bo117 rfl rfl)) rfl ?_
   refine dc_cons (r:=⟨_,none,[]⟩) (DStep.plain rfl (fun H1 hH=>by exact(by exact x_buildSlice [encTag ⟨f0.text,f2.text⟩] rfl so47 rfl rfl rfl rfl rfl (by intro r hr;rw [List.mem_singleton] at hr;subst hr;rfl)))) rfl ?_
   refine dc_cons (r:=⟨_,none,[_]⟩) (DStep.plain rfl (fun H1 hH=>by exact x_append (ps:=[encTag ⟨f0.text,f2.text⟩]) rfl so47 ei117 rfl ((hH _ rfl).trans rfl) rfl rfl rfl (tgRows_len _) rfl (by intro r hr;rw [List.mem_singleton] at hr;subst hr;rfl) (m:=1) rfl (by omega) rfl (tgRows_app (firstTags D j) ⟨f0.text,f2.text⟩))) rfl ?_
   refine dc_cons (r:=⟨_,none,[]⟩) (DStep.plain rfl (fun H1 hH=>by exact(by exact opd_field_ref rfl fo49_4 rfl ((hH _ rfl).trans rfl) rfl rfl))) rfl ?_
   refine dc_cons (r:=⟨_,none,[_]⟩) (DStep.plain rfl (fun H1 hH=>by exact(by exact x_store1 rfl Tryz.sizeOf47 rfl rfl rfl ((hH _ rfl).trans rfl) rfl rfl (by simp only [List.length_cons,List.length_nil];omega) (by simp only [Zl,encTag,encObj,encStr,encInt,encTok];rfl) (by simp only [Zl,encTag,encObj,encStr,encInt,encTok];rfl)))) rfl ?_
   refine dc_nil ⟨by kernel_rfl,?_⟩
   refine Rg<|Dd mv'<|Dd (by exact x_slice_osl (l:=3) (h:=(L.length - 4 - 3*j)) rfl so133 rfl rfl rfl rfl rfl rfl (by omega) (by omega) rfl rfl)<|Dd as'<|Zz ?_
   refine⟨j+1,by omega,by omega,?_⟩
   dsimp only
   rw [hnx,hta,rH_G]
   exact(Ent.wk (Ea<|Ea<|Ea<|Ea<|trivial) (Hc (tgRows_clo _ _)<|Hc (wRows_clo _ _)<|Hc (by(simp;exact⟨rfl,rfl⟩))<|Hc (tkRows_clo _ _)<|Hb<|trivial) ⟨rfl,trivial⟩)
  skip
  have hge:D.length < 3*j+3:=by have:=of_decide_eq_false hc5;omega
  have hdj:D.length / 3=j:=by omega
  have hG:tagsR D=firstTags D j:=by rw [tagsR_eq,hdj]
  refine awp_exit<|Sq ?_
  refine AWp.ent (Ent.fzG (id:=907) (E':=rE L) (H':=[(906,⟨(([]:List ByteArray)).length,1,9,wRows (([]:List ByteArray))⟩),(3,bx 6 49 [sv (t1.text),iv (1),iv ((atoiE t2.text).1),iv ((atoiE t3.text).1),.osl 906 (([]:List ByteArray)).length 0 (([]:List ByteArray)).length,.pv (slTags (firstTags D j))]),(905,tOb L),(2,bx 6 49 ((encObj zObj).map .pv))]) ((firstTags D j).map encTag) rfl (rows_ofY encTag _) ?_ rfl ?_ ?_) ?_
  ·intro p hp
   simp only [List.mem_cons,List.not_mem_nil,or_false] at hp
   rcases hp with rfl|rfl|rfl<;>exact⟨_,rfl,.same (by simp;rfl)⟩
  ·exact⟨⟨_,rfl,rfl,rfl,rfl,fzr_same (wRows_clo _ _)⟩,⟨_,rfl,rfl,rfl,rfl,fzr_one rfl (fz_cons (.same (by simp)) (fz_cons (.same (by simp)) (fz_cons (.same (by simp)) (fz_cons (.same (by simp)) (fz_cons (.same (by simp;rfl)) (fz_cons (.osl (take_rows encTag _)) fz_nil))))))⟩,⟨_,rfl,rfl,rfl,rfl,fzr_same (tkRows_clo _ _)⟩,⟨_,rfl,rfl,rfl,rfl,fzr_same (by simp)⟩,trivial⟩
  ·exact⟨rfl,trivial⟩
  refine AWp.ent (Ent.fzG (id:=906) (E':=rE L) (H':=[(3,bx 6 49 [sv (t1.text),iv (1),iv ((atoiE t2.text).1),iv ((atoiE t3.text).1),.pv (slStrs (([]:List ByteArray))),.pv (slTags (firstTags D j))]),(905,tOb L),(2,bx 6 49 ((encObj zObj).map .pv))]) ((([]:List ByteArray)).map encStr) rfl (wRows_enc _) ?_ rfl ?_ ?_) ?_
  ·intro p hp
   simp only [List.mem_cons,List.not_mem_nil,or_false] at hp
   rcases hp with rfl|rfl|rfl<;>exact⟨_,rfl,.same (by simp;rfl)⟩
  ·exact⟨⟨_,rfl,rfl,rfl,rfl,fzr_one rfl (fz_cons (.same (by simp)) (fz_cons (.same (by simp)) (fz_cons (.same (by simp)) (fz_cons (.same (by simp)) (fz_cons (.osl (take_rows encStr _)) (fz_cons (.same (by simp)) fz_nil))))))⟩,⟨_,rfl,rfl,rfl,rfl,fzr_same (tkRows_clo _ _)⟩,⟨_,rfl,rfl,rfl,rfl,fzr_same (by simp)⟩,trivial⟩
  ·exact⟨rfl,trivial⟩
  refine Rg<|Dd (by exact opd_loadn_ref rfl Tryz.isAgg49 Tryz.sizeOf49 rfl rfl rfl rfl (by simp only [Zl,encTag,encObj,encStr,encInt,encTok];rfl) rfl)<|Uu (sa' Tryz.sizeOf49)<|Zz<|awp_ret ?_
  refine aret1 (H':=[(905,tOb L)]) (.inr rfl) rfl (rval_cell rfl Tryz.isAgg49 Tryz.sizeOf49 rfl rfl rfl (by simp only [Zl,encTag,encObj,encStr,encInt,encTok];rfl) rfl) (Fin.wk (by(simp;done)) (Hc (tkRows_clo _ _)<|trivial) ⟨rfl,trivial⟩) ?_
  refine⟨?_,rfl⟩
  rw [(show gReadO T=⟨t1.text,1,(atoiE t2.text).1,(atoiE t3.text).1,[],tagsR (L.drop 4)⟩by rw [hR2,atV_eq,atV_eq]),← hD,hG]
  rfl
 skip
 have hk1:kd≠1:=of_decide_eq_false hc4
 rw [if_neg hk1] at hR
 have hIx:=indexFunc_GFound L [] (by omega)
 have hIr:∀ H,H.get 905=some (tOb L)→ACalls Tryz.prog 179 [.osl 905 L.length 0 L.length,.pv (.fn 180)] H (fun r H'=>r=iv (gidx isClose L)∧H'=H):=fun H hH =>
  RO.calls (RO.lend (id:=905) (H1:=[]) (L.map encTok) (RO.of hIx rfl) hH (rows_ofY encTok L) rfl
   (fz_cons (.osl (take_rows encTok L)) (fz_cons (.same (by simp)) fz_nil)) (fun _ _ h=>by cases h) (fun _ _ h=>by cases h) rfl)
 refine Sq<|Rg<|Dd mv'<|Dd (by exact opr_call rfl rfl Tryz.call179 rfl (hIr _ rfl))<|Dd as'<|Zz<|Sq<|Sq<|Rg<|Dd mv'<|Dd lss'<|Zz ?_
 refine Cn (fun hc6=>?_) fun hc6=>?_
 ·skip
  have hlo:gidx isClose L < 3:=of_decide_eq_true hc6
  rw [if_pos hlo] at hR
  rw [hR]
  refine Sq<|Rg<|Dd (bu' bo49)<|Uu (sa' Tryz.sizeOf49)<|Zz<|awp_ret ?_
  refine aret1 (H':=[(905,tOb L)]) (.inr rfl) rfl (rval_cell rfl Tryz.isAgg49 Tryz.sizeOf49 rfl rfl rfl (by simp only [Zl,encTag,encObj,encStr,encInt,encTok];rfl) rfl) (Fin.wk (by(simp;done)) (Hc (tkRows_clo _ _)<|trivial) ⟨rfl,trivial⟩) ?_
  exact⟨rfl,rfl⟩
 skip
 have hlo:¬ gidx isClose L < 3:=of_decide_eq_false hc6
 rw [if_neg hlo] at hR
 obtain ⟨q,hq,hqL⟩:∃ q:Nat,gidx isClose L=(q:Int)∧q < L.length:=by
  rcases gidx_cases isClose L with⟨e1,_⟩|⟨q,o,e1,e2,_⟩
  ·rw [e1] at hlo;exact absurd (by decide) hlo
  exact⟨q,e1,(List.getElem?_eq_some_iff.1 e2).1⟩
 rw [hq] at hR hlo ⊢
 rw [Int.toNat_natCast] at hR
 have hq3:3≤q:=by omega
 obtain ⟨M,hM⟩:∃ M,M=(L.take q).drop 3:=⟨_,rfl⟩
 have hMl:M.length=q - 3:=by rw [hM,List.length_drop,List.length_take];omega
 rw [← hM] at hR
 refine awp_skip<|Sq<|Sq<|Rg<|Dd mv'<|Dd mv'<|Dd (by exact x_slice_osl (l:=3) (h:=q) rfl so133 rfl rfl rfl rfl rfl rfl (by omega) (by omega) rfl rfl)<|Dd (by exact opd_len_osl rfl Tryz.underlying133 rfl rfl rfl)<|Dd mv'<|Zz<|awp_block ?_
 refine awp_loop (σ:=Nat) (fun i=>(rE L++[(5,.osl 905 L.length 4 (L.length - 4)),(6,iv (q:Int)),(66,.osl 905 L.length 3 (q - 3)),(67,iv ((q - 3:Nat):Int)),(68,iv (i:Int))],rH L t1.text kd 0 0 ((M.take i).map GFound.text) [])) (fun i=>i≤M.length) (fun i=>M.length - i) 0 (Nat.zero_le _) ?_ ?_
 ·exact(Ent.wk (Ea<|Ea<|Ea<|Ea<|Eb<|Ea<|Eb<|Eb<|trivial) (Hc (tgRows_clo _ _)<|Hc (wRows_clo _ _)<|Hc (by(simp;exact⟨rfl,rfl⟩))<|Hc (tkRows_clo _ _)<|Hb<|trivial) ⟨rfl,trivial⟩)
 rintro i hi
 refine Sq<|Rg<|Dd lss'<|Zz<|Sq ?_
 refine Cn (fun hc7=>?_) fun hc7=>?_
 ·skip
  have hiq:i < q - 3:=by have:=of_decide_eq_true hc7;omega
  obtain ⟨f,hf⟩:=get_of_lt (show i < M.length by omega)
  have hfL:L[3+i]?=some f:=by
   rw [hM,List.getElem?_drop,List.getElem?_take_of_lt (by omega)] at hf
   exact hf
  have hrf:=tk_row hfL
  have hMt:(M.take (i+1)).map GFound.text=(M.take i).map GFound.text++[f.text]:=by rw [List.take_add_one,hf,List.map_append];rfl
  have hRl:((M.take i).map GFound.text).length=i:=by rw [List.length_map,List.length_take];omega
  refine awp_skip<|Sq<|awp_block<|Sq<|Rg<|Dd (by exact x_index_osl rfl so133 rfl rfl rfl rfl rfl (by omega) (by exact Int.toNat_natCast _) (by omega) rfl)<|Dd (by exact opd_loadn_ref rfl Tryz.isAgg137 Tryz.sizeOf137 rfl rfl rfl hrf (by simp only [Zl,encTag,encObj,encStr,encInt,encTok];rfl) rfl)<|Dd (by exact x_alloc (id:=8) rfl zo137 rfl rfl)<|Uu (sa' Tryz.sizeOf137)<|Zz<|Rg<|Dd (fr' fo49_3)<|Dd (l1' Tryz.isAgg46)<|Dd (fr' fo137_1)<|Dd (l1' Tryz.isAgg9)<|Dd (by exact x_buildSlice [encStr f.text] rfl so46 rfl rfl rfl rfl rfl (by intro r hr;rw [List.mem_singleton] at hr;subst hr;rfl))<|Dd (by exact x_append (ps:=[encStr f.text]) rfl so46 ei9 rfl rfl rfl rfl rfl (wRows_len _) rfl (by intro r hr;rw [List.mem_singleton] at hr;subst hr;rfl) (m:=1) rfl (by omega) rfl (wRows_app ((M.take i).map GFound.text) f.text))<|Dd (fr' fo49_3)<|Uu (by exact x_store1 rfl Tryz.sizeOf46 rfl rfl rfl rfl rfl rfl (by simp only [List.length_cons,List.length_nil];omega) (by simp only [Zl,encTag,encObj,encStr,encInt,encTok];rfl) (by simp only [Zl,encTag,encObj,encStr,encInt,encTok];rfl)) ?_
  refine Zz<|Rg<|Dd ad'<|Dd mv'<|Zz ?_
  refine⟨i+1,by omega,by omega,?_⟩
  dsimp only
  rw [hMt,rH_R]
  exact(Ent.wk (Ea<|Ea<|Ea<|Ea<|Eb<|Ea<|Eb<|Eb<|trivial) (Hc (tgRows_clo _ _)<|Hc (wRows_clo _ _)<|Hc (by(simp;exact⟨rfl,rfl⟩))<|Hc (tkRows_clo _ _)<|Hb<|trivial) ⟨rfl,trivial⟩)
 skip
 have hiq:i=q - 3:=by have:=of_decide_eq_false hc7;omega
 have hMi:M.take i=M:=List.take_of_length_le (by omega)
 rw [hMi]
 refine awp_exit<|Rg<|Dd mv'<|Dd mv'<|Dd (by exact opd_add rfl rfl rfl (show IntKind.i64.wrap ((q:Int)+1)=((q+1:Nat):Int)by rw [IntKind.wrap_i64];omega))<|Dd (by exact x_slice_osl (l:=(q+1)) (h:=L.length) rfl so133 rfl rfl rfl rfl rfl rfl (by omega) (by omega) rfl rfl)<|Dd as'<|Zz<|Sq<|awp_block ?_
 rw [← Nat.zero_add (q+1)] at hR
 obtain ⟨D,hD⟩:∃ D,D=L.drop (0+(q+1)):=⟨_,rfl⟩
 have hDl:D.length=L.length - (0+(q+1)):=by rw [hD,List.length_drop]
 refine awp_loop (σ:=Nat) (fun j=>(rE L++[(5,.osl 905 L.length ((0+(q+1))+3*j) (L.length - (q+1) - 3*j))],rH L t1.text kd 0 0 (M.map GFound.text) (firstTags D j))) (fun j=>3*j≤D.length) (fun j=>D.length - 3*j) 0 (Nat.zero_le _) ?_ ?_
 ·exact(Ent.wk (Ea<|Ea<|Ea<|Ea<|trivial) (Hc (tgRows_clo _ _)<|Hc (wRows_clo _ _)<|Hc (by(simp;exact⟨rfl,rfl⟩))<|Hc (tkRows_clo _ _)<|Hb<|trivial) ⟨rfl,trivial⟩)
 rintro j hj
 have hnx:=firstTags_next D j
 have hfl:=firstTags_len D j
 refine Sq<|Sq<|Rg<|Dd mv'<|Dd (by exact opd_len_osl rfl Tryz.underlying133 rfl rfl rfl)<|Dd gt'<|Zz ?_
 refine Cn (fun hc8=>?_) fun hc8=>?_
 ·skip
  have hlt:3*j+2 < D.length:=by have:=of_decide_eq_true hc8;omega
  obtain ⟨f0,hf0⟩:∃ f,L[(0+(q+1))+3*j]?=some f:=get_of_lt (by omega)
  obtain ⟨f2,hf2⟩:∃ f,L[(0+(q+1))+3*j+2]?=some f:=get_of_lt (by omega)
  have hr0:=tk_row hf0
  have hr2:=tk_row hf2
  have hta:tagAt D j=⟨f0.text,f2.text⟩:=by
   rw [tagAt,hD,List.getElem?_drop,List.getElem?_drop,hf0,show (0+(q+1))+(3*j+2)=(0+(q+1))+3*j+2 from rfl,hf2]
   rfl
  refine awp_skip<|Sq<|awp_block ?_
  refine awp_drawc follows ?_
  refine dc_cons (r:=⟨_,none,[]⟩) (DStep.plain rfl (fun H1 hH=>by exact(by exact opd_field_ref rfl fo49_4 rfl ((hH _ rfl).trans rfl) rfl rfl))) rfl ?_
  refine dc_cons (r:=⟨_,none,[]⟩) (DStep.plain rfl (fun H1 hH=>by exact(by exact opd_load1_ref rfl Tryz.isAgg47 rfl ((hH _ rfl).trans rfl) rfl rfl rfl))) rfl ?_
  refine dc_cons (r:=⟨_,none,[]⟩) (DStep.plain rfl (fun H1 hH=>by exact opd_move rfl rfl)) rfl ?_
  refine dc_cons (r:=⟨_,none,[]⟩) (DStep.plain rfl (fun H1 hH=>by exact(by exact x_index_osl rfl so133 rfl ((hH _ rfl).trans rfl) rfl rfl rfl (by omega) (by exact Int.toNat_natCast _) (show 0 < L.length - (q+1) - 3*j by omega) rfl))) rfl ?_
  refine dc_cons (r:=⟨_,none,[]⟩) (DStep.plain rfl (fun H1 hH=>by exact(by exact opd_field_ref rfl fo137_1 rfl ((hH _ rfl).trans rfl) rfl rfl))) rfl ?_
  refine dc_cons (r:=⟨_,none,[]⟩) (DStep.plain rfl (fun H1 hH=>by exact(by exact opd_load1_ref rfl Tryz.isAgg9 rfl ((hH _ rfl).trans rfl) rfl hr0 rfl))) rfl ?_
  refine dc_cons (r:=⟨_,none,[]⟩) (DStep.plain rfl (fun H1 hH=>by exact opd_move rfl rfl)) rfl ?_
  refine dc_cons (r:=⟨_,none,[]⟩) (DStep.plain rfl (fun H1 hH=>by exact(by exact x_index_osl rfl so133 rfl ((hH _ rfl).trans rfl) rfl rfl rfl (by omega) (by exact Int.toNat_natCast _) (show 2 < L.length - (q+1) - 3*j by omega) rfl))) rfl ?_
  refine dc_cons (r:=⟨_,none,[]⟩) (DStep.plain rfl (fun H1 hH=>by exact(by exact opd_field_ref rfl fo137_1 rfl ((hH _ rfl).trans rfl) rfl rfl))) rfl ?_
  refine dc_cons (r:=⟨_,none,[]⟩) (DStep.plain rfl (fun H1 hH=>by exact(by exact opd_load1_ref rfl Tryz.isAgg9 rfl ((hH _ rfl).trans rfl) rfl hr2 rfl))) rfl ?_
  refine dc_cons (r:=⟨_,none,[]⟩) (DStep.plain rfl (fun H1 hH=>by exact x_build rfl bo117 rfl rfl)) rfl ?_
  refine dc_cons (r:=⟨_,none,[]⟩) (DStep.plain rfl (fun H1 hH=>by exact(by exact x_buildSlice [encTag ⟨f0.text,f2.text⟩] rfl so47 rfl rfl rfl rfl rfl (by intro r hr;rw [List.mem_singleton] at hr;subst hr;rfl)))) rfl ?_
  refine dc_cons (r:=⟨_,none,[_]⟩) (DStep.plain rfl (fun H1 hH=>by exact x_append (ps:=[encTag ⟨f0.text,f2.text⟩]) rfl so47 ei117 rfl ((hH _ rfl).trans rfl) rfl rfl rfl (tgRows_len _) rfl (by intro r hr;rw [List.mem_singleton] at hr;subst hr;rfl) (m:=1) rfl (by omega) rfl (tgRows_app (firstTags D j) ⟨f0.text,f2.text⟩))) rfl ?_
  refine dc_cons (r:=⟨_,none,[]⟩) (DStep.plain rfl (fun H1 hH=>by exact(by exact opd_field_ref rfl fo49_4 rfl ((hH _ rfl).trans rfl) rfl rfl))) rfl ?_
  refine dc_cons (r:=⟨_,none,[_]⟩) (DStep.plain rfl (fun H1 hH=>by exact(by exact x_store1 rfl Tryz.sizeOf47 rfl rfl rfl ((hH _ rfl).trans rfl) rfl rfl (by simp only [List.length_cons,List.length_nil];omega) (by simp only [Zl,encTag,encObj,encStr,encInt,encTok];rfl) (by simp only [Zl,encTag,encObj,encStr,encInt,encTok];rfl)))) rfl ?_
  refine dc_nil ⟨by kernel_rfl,?_⟩
  refine Rg<|Dd mv'<|Dd (by exact x_slice_osl (l:=3) (h:=(L.length - (q+1) - 3*j)) rfl so133 rfl rfl rfl rfl rfl rfl (by omega) (by omega) rfl rfl)<|Dd as'<|Zz ?_
  refine⟨j+1,by omega,by omega,?_⟩
  dsimp only
  rw [hnx,hta,rH_G]
  exact(Ent.wk (Ea<|Ea<|Ea<|Ea<|trivial) (Hc (tgRows_clo _ _)<|Hc (wRows_clo _ _)<|Hc (by(simp;exact⟨rfl,rfl⟩))<|Hc (tkRows_clo _ _)<|Hb<|trivial) ⟨rfl,trivial⟩)
 skip
 have hge:D.length < 3*j+3:=by have:=of_decide_eq_false hc8;omega
 have hdj:D.length / 3=j:=by omega
 have hG:tagsR D=firstTags D j:=by rw [tagsR_eq,hdj]
 refine awp_exit<|Sq ?_
 refine AWp.ent (Ent.fzG (id:=907) (E':=rE L) (H':=[(906,⟨((M.map GFound.text)).length,1,9,wRows ((M.map GFound.text))⟩),(3,bx 6 49 [sv (t1.text),iv (kd),iv (0),iv (0),.osl 906 ((M.map GFound.text)).length 0 ((M.map GFound.text)).length,.pv (slTags (firstTags D j))]),(905,tOb L),(2,bx 6 49 ((encObj zObj).map .pv))]) ((firstTags D j).map encTag) rfl (rows_ofY encTag _) ?_ rfl ?_ ?_) ?_
 ·intro p hp
  simp only [List.mem_cons,List.not_mem_nil,or_false] at hp
  rcases hp with rfl|rfl|rfl<;>exact⟨_,rfl,.same (by simp;rfl)⟩
 ·exact⟨⟨_,rfl,rfl,rfl,rfl,fzr_same (wRows_clo _ _)⟩,⟨_,rfl,rfl,rfl,rfl,fzr_one rfl (fz_cons (.same (by simp)) (fz_cons (.same (by simp)) (fz_cons (.same (by simp)) (fz_cons (.same (by simp)) (fz_cons (.same (by simp;rfl)) (fz_cons (.osl (take_rows encTag _)) fz_nil))))))⟩,⟨_,rfl,rfl,rfl,rfl,fzr_same (tkRows_clo _ _)⟩,⟨_,rfl,rfl,rfl,rfl,fzr_same (by simp)⟩,trivial⟩
 ·exact⟨rfl,trivial⟩
 refine AWp.ent (Ent.fzG (id:=906) (E':=rE L) (H':=[(3,bx 6 49 [sv (t1.text),iv (kd),iv (0),iv (0),.pv (slStrs ((M.map GFound.text))),.pv (slTags (firstTags D j))]),(905,tOb L),(2,bx 6 49 ((encObj zObj).map .pv))]) (((M.map GFound.text)).map encStr) rfl (wRows_enc _) ?_ rfl ?_ ?_) ?_
 ·intro p hp
  simp only [List.mem_cons,List.not_mem_nil,or_false] at hp
  rcases hp with rfl|rfl|rfl<;>exact⟨_,rfl,.same (by simp;rfl)⟩
 ·exact⟨⟨_,rfl,rfl,rfl,rfl,fzr_one rfl (fz_cons (.same (by simp)) (fz_cons (.same (by simp)) (fz_cons (.same (by simp)) (fz_cons (.same (by simp)) (fz_cons (.osl (take_rows encStr _)) (fz_cons (.same (by simp)) fz_nil))))))⟩,⟨_,rfl,rfl,rfl,rfl,fzr_same (tkRows_clo _ _)⟩,⟨_,rfl,rfl,rfl,rfl,fzr_same (by simp)⟩,trivial⟩
 ·exact⟨rfl,trivial⟩
 refine Rg<|Dd (by exact opd_loadn_ref rfl Tryz.isAgg49 Tryz.sizeOf49 rfl rfl rfl rfl (by simp only [Zl,encTag,encObj,encStr,encInt,encTok];rfl) rfl)<|Uu (sa' Tryz.sizeOf49)<|Zz<|awp_ret ?_
 refine aret1 (H':=[(905,tOb L)]) (.inr rfl) rfl (rval_cell rfl Tryz.isAgg49 Tryz.sizeOf49 rfl rfl rfl (by simp only [Zl,encTag,encObj,encStr,encInt,encTok];rfl) rfl) (Fin.wk (by(simp;done)) (Hc (tkRows_clo _ _)<|trivial) ⟨rfl,trivial⟩) ?_
 refine⟨?_,rfl⟩
 rw [hR,← hD,hG]
 rfl
end
end Go.Proofs.YtlnfjkdacimblaaGreatDoor
namespace Go.Abs
open Go.Proofs
section
section
variable {P:Program} {N:Nat} {o:Oper} {E:Env} {H:Heap} {t t':TypeId} {x:Operand}
theorem opd_ne_nil (ho:o.op=.binOp .neq t x (.const .nilIface) t') (ht:P.underlying t=some (.interface (P.methodsAt t))) (hx:aeval E x=some (.pv nilI)):OpD P N o E H (.pv (.bool false)) H :=
  .of_run fun a w I ι _ he=>⟨.bool false,by
    have e1:a.eval x=.nilIface:=(aeval_rel he hx).sat_inv
    have e2:a.eval (.const .nilIface)=.nilIface:=rfl
    simp only [execOp,ho,e1,e2,eqGuard,Sem.run_bind,Sem.run_pure,Result.andThen_ok,run_neq_nil_nil _ _ ht,Bool.or_true,if_true,Bool.not_true,Bool.false_eq_true,if_false],.pv (.bool _)⟩
theorem opd_ne_err (ho:o.op=.binOp .neq t x (.const .nilIface) t') (ht:P.underlying t=some (.interface (P.methodsAt t))) (hx:aeval E x=some (.pv errI)):OpD P N o E H (.pv (.bool true)) H :=
  .of_run fun a w I ι _ he=>⟨.bool true,by
    obtain ⟨q,p,e1⟩:isErr (a.eval x):=(aeval_rel he hx).sat_inv
    have e2:a.eval (.const .nilIface)=.nilIface:=rfl
    simp only [execOp,ho,e1,e2,eqGuard,Sem.run_bind,Sem.run_pure,Result.andThen_ok,run_neq_held_nil _ _ _ _ ht]
    rfl,.pv (.bool _)⟩
end
end
end Go.Abs
namespace Go.Proofs.YtlnfjkdacimblaaGreatDoor
open Go.Abs
section
theorem number_c (s:ByteArray) (H:Heap) (hs:s.size < 1099511627776):ACalls Tryz.prog 82 [sv s] H (fun r H'=>r=iv (numV s.data.toList)∧H'=H):=by
 refine ACalls.pure ?_ (by simp) H
 have hA:=atoi_cT s hs
 unfold atoiE at hA
 unfold numV
 cases h:Lib.atoiAll s.data.toList with
 | ok v =>
  simp only [h] at hA
  refine Bd Tryz.func82 rfl Tryz.ntmps82<|Sq<|Rg<|Dd as'<|Zz<|Sq<|Rg<|Dd mv'<|Dd (by exact opr_call rfl rfl Tryz.call134 rfl (hA _))<|Dd mv'<|Dd ex'<|Dd ex'<|Dd as'<|Dd as'<|Zz<|Sq<|Sq<|Rg<|Dd mv'<|Dd (by exact opd_ne_nil rfl Tryz.underlying65 rfl)<|Zz ?_
  refine Cn (fun hc1=>?_) fun hc1=>?_
  ·cases hc1
  skip
  refine awp_skip<|Sq<|Rg<|Dd mv'<|Dd as'<|Zz<|awp_ret ?_
  refine Rt ?_
  exact⟨rfl,rfl⟩
 | range =>
  simp only [h] at hA
  refine Bd Tryz.func82 rfl Tryz.ntmps82<|Sq<|Rg<|Dd as'<|Zz<|Sq<|Rg<|Dd mv'<|Dd (by exact opr_call rfl rfl Tryz.call134 rfl (hA _))<|Dd mv'<|Dd ex'<|Dd ex'<|Dd as'<|Dd as'<|Zz<|Sq<|Sq<|Rg<|Dd mv'<|Dd (by exact opd_ne_err rfl Tryz.underlying65 rfl)<|Zz ?_
  refine Cn (fun hc1=>?_) fun hc1=>?_
  ·skip
   refine Sq<|Rg<|Dd as'<|Zz<|awp_ret ?_
   refine Rt ?_
   exact⟨rfl,rfl⟩
  cases hc1
 | _ =>
  simp only [h] at hA
  refine Bd Tryz.func82 rfl Tryz.ntmps82<|Sq<|Rg<|Dd as'<|Zz<|Sq<|Rg<|Dd mv'<|Dd (by exact opr_call rfl rfl Tryz.call134 rfl (hA _))<|Dd mv'<|Dd ex'<|Dd ex'<|Dd as'<|Dd as'<|Zz<|Sq<|Sq<|Rg<|Dd mv'<|Dd (by exact opd_ne_err rfl Tryz.underlying65 rfl)<|Zz ?_
  refine Cn (fun hc1=>?_) fun hc1=>?_
  ·skip
   refine Sq<|Rg<|Dd as'<|Zz<|awp_ret ?_
   refine Rt ?_
   exact⟨rfl,rfl⟩
  cases hc1
end
section
theorem unqL_datY:∀ (l:List UInt8) (p:List UInt8×Nat),unqL l=some p→p.1.length≤l.length
  | [],p,h=>by cases h
  | [c],p,h=>by
    rw [unqL] at h
    split at h
    · cases h;exact Nat.zero_le _
    · cases h
  | c :: e :: r, p, h => by
    rw [unqL] at h
    split at h
    · cases h;exact Nat.zero_le _
    · split at h
      · cases h
      · split at h
        · cases hg:gUnesc e with
          | none=>rw [hg] at h;cases h
          | some b =>
            rw [hg] at h
            cases hu:unqL r with
            | none=>rw [hu] at h;cases h
            | some q =>
              rw [hu] at h;cases h
              have:=unqL_datY r q hu
              show q.1.length+1≤r.length+1+1
              omega
        · cases hu:unqL (e::r)with
          | none=>rw [hu] at h;cases h
          | some q =>
            rw [hu] at h;cases h
            have:=unqL_datY (e::r) q hu
            show q.1.length+1≤r.length+1+1
            rw [List.length_cons] at this
            omega
theorem extract_sizeY (s:ByteArray) (i j:Nat):(s.extract i j).size≤s.size:=by
  rw [← size_list,extract_list,List.length_take,List.length_drop,size_list]
  omega
theorem unq_sizeY (s:ByteArray):(gUnq s).1.size≤s.size:=by
  rw [gUnq]
  cases h:unqL (s.data.toList.drop 1)with
  | none=>exact Nat.zero_le _
  | some p =>
    have:=unqL_datY _ _ h
    rw [List.length_drop,size_list] at this
    show (⟨p.1.toArray⟩:ByteArray).size≤_
    rw [← size_list]
    show p.1.length≤_
    omega
theorem step_sizeY {s:ByteArray} {i:Nat} {f:GFound} {j:Nat} (h:gStep s i=(some f,j)):f.text.size≤s.size:=by
  rw [gStep] at h
  split at h
  · cases h
  · split at h
    · cases h
    · split at h
      · cases h;exact extract_sizeY _ _ _
      · split at h
        · cases h;exact extract_sizeY _ _ _
        · split at h
          · cases h
            rw [gStr]
            split
            · have h1:=unq_sizeY (s.extract i s.size)
              have h2:=extract_sizeY s i s.size
              show (gUnq (s.extract i s.size)).1.size≤_
              omega
            · exact Nat.zero_le _
          · split at h
            · cases h;exact extract_sizeY _ _ _
            · cases h;exact Nat.zero_le _
theorem toks_sizeY (s:ByteArray):∀ (n i:Nat) (f:GFound),f∈gToks s n i→f.text.size≤s.size
  | 0,_,_,h=>by cases h
  | n + 1, i, f, h => by
    rw [gToks] at h
    split at h
    · split at h
      · exact toks_sizeY s n _ f h
      · rename_i g j hg
        rcases List.mem_cons.1 h with rfl|h
        · exact step_sizeY hg
        · split at h
          · exact toks_sizeY s n _ f h
          · cases h
    · cases h
theorem run_memY:∀ (ds acc:List GFound) (f:GFound),f∈(lexRun acc ds).1→f∈acc∨f∈ds
  | [],acc,f,h=>.inl h
  | d :: ds, acc, f, h => by
    rw [lexRun] at h
    split at h
    · cases h
    · split at h
      · cases h
      · rcases run_memY ds _ f h with h|h
        · rcases List.mem_append.1 h with h|h
          · exact .inl h
          · rw [List.mem_singleton] at h
            subst h
            exact .inr List.mem_cons_self
        · exact .inr (List.mem_cons_of_mem _ h)
theorem lex_sizeY (s:ByteArray) (f:GFound) (h:f∈(gLex s).1):f.text.size≤s.size:=by
  rw [gLex] at h
  split at h
  · cases h
  · rcases run_memY _ _ f h with h|h
    · cases h
    · exact toks_sizeY s _ _ f h
theorem pad4_mem {T:List GFound} {n:Nat} (h:∀ f∈T,f.text.size≤n):∀ f∈pad4 T,f.text.size≤n:=fun f hf=>by
  rw [pad4] at hf
  rcases List.mem_append.1 hf with h1|h1
  · exact h f h1
  · rw [(List.mem_replicate.1 h1).2]
    exact Nat.zero_le _
theorem tagsR_mem:∀ (T:List GFound) (n:Nat),(∀ f∈T,f.text.size≤n)→(tagsR T).length≤T.length∧∀ t∈tagsR T,t.key.size≤n∧t.val.size≤n
  | [],n,_=>by simp [tagsR]
  | [a],n,_=>by simp [tagsR]
  | [a,b],n,_=>by simp [tagsR]
  | a::b::c::r,n,h=>by
    obtain ⟨i1,i2⟩:=tagsR_mem r n fun f hf=>h f (by simp [hf])
    rw [tagsR]
    refine⟨by simp only [List.length_cons];omega,fun t ht=>?_⟩
    rcases List.mem_cons.1 ht with rfl|ht
    · exact⟨h a (by simp),h c (by simp)⟩
    · exact i2 t ht
theorem pad4_len (T:List GFound):(pad4 T).length≤T.length+4:=by rw [pad4,List.length_append,List.length_replicate];omega
theorem readO_ok {T:List GFound} {n:Nat} (h:∀ f∈T,f.text.size≤n) (hn:n < 4611686018427387904) (hl:T.length < 549755813888):okO (gReadO T):=by
  have hp:=pad4_mem h
  have hpl:=pad4_len T
  have hg:∀ i,((pad4 T).getD i noF).text.size≤n:=fun i=>by
    rw [List.getD_eq_getElem?_getD]
    cases e:(pad4 T)[i]? with
    | none=>exact Nat.zero_le _
    | some f=>exact hp f (List.mem_of_getElem? e)
  have ht:∀ k,okTags (tagsR ((pad4 T).drop k)):=fun k=>by
    obtain ⟨a,b⟩:=tagsR_mem ((pad4 T).drop k) n fun f hf=>hp f (List.mem_of_mem_drop hf)
    rw [List.length_drop] at a
    exact⟨by omega,fun t htt=>by have:=b t htt;omega⟩
  rw [gReadO]
  split
  · exact⟨Nat.lt_of_le_of_lt (hg 1) hn,ht _,by show 0 < _;omega,fun s hs=>by cases hs⟩
  · split
    · exact⟨by decide,⟨by decide,fun t h=>by cases h⟩,by decide,fun s hs=>by cases hs⟩
    · refine⟨Nat.lt_of_le_of_lt (hg 1) hn,ht _,?_,fun s hs=>?_⟩
      · show (List.map _ _).length < _
        rw [List.length_map,List.length_drop,List.length_take]
        omega
      · obtain ⟨f,hf,rfl⟩:=List.mem_map.1 hs
        have:=hp f (List.mem_of_mem_take (List.mem_of_mem_drop hf))
        omega
theorem split_word (c:UInt8):∀ {l w:List UInt8},w∈splitC c l→w.length≤l.length
  | [],w,h=>by
    rw [splitC,List.mem_singleton] at h
    rw [h]
    exact Nat.le_refl _
  | b :: l, w, h => by
    have hp:=splitC_pos c l
    rw [splitC] at h
    cases e:splitC c l with
    | nil=>rw [e] at hp;exact absurd hp (Nat.lt_irrefl 0)
    | cons x r =>
      have ih:∀ y∈x::r,y.length≤l.length:=fun y hy=>split_word c (by rw [e];exact hy)
      rw [e] at h
      rw [List.length_cons]
      split at h
      · rcases List.mem_cons.1 h with rfl|h
        · exact Nat.zero_le _
        · exact Nat.le_succ_of_le (ih w h)
      · rcases List.mem_cons.1 h with rfl|h
        · exact Nat.succ_le_succ (ih _ List.mem_cons_self)
        · exact Nat.le_succ_of_le (ih w (List.mem_cons_of_mem _ h))
theorem parseO_ok {s:ByteArray} (hs:s.size < 1099511627776):okO (gReadO (gLex s).1):=readO_ok (fun f hf=>lex_sizeY s f hf) (by omega) (lex_toks_len s hs)
end
end Go.Proofs.YtlnfjkdacimblaaGreatDoor
