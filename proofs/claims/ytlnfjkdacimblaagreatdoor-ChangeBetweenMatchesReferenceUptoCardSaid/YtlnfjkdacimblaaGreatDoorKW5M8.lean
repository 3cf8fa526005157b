/-
  CONTRACTS: lexer.tokens and what it yields. Conditions: lengths below 2^40.
  CONTRACTS: lexer.Lex. Conditions: lengths below 2^40.
  CONTRACTS: slices.Chunk, tag.Parse. Conditions: lengths below 2^40.
  TAGS MERGED, plain: three values for each key, as objects. Conditions: none.
  CONTRACTS: slices.Index, Contains at strings; tag.Merge. Conditions: lengths below 2^40.
  TAGS, plain: tags by their lookups; what tag.Set does to them. Conditions: none.
  PLAIN: runs of edits of one kind. Conditions: none.
  THE TEXT OF TAGS IS LEXED BACK, plain. Conditions: none.
  PLAIN: texts cut at a byte; lines; where a byte stands first. Conditions: none.
  PLAIN: decimal digits: what Itoa writes Atoi reads. Conditions: none.
  THE ABSTRACT LOGIC, 36: strconv.Itoa and math/bits.Mul64, the library's contracts carried over; the table of the door. Conditions: each rule's own premises.
  PLAIN: the text of an object, and what its tokens read as. Conditions: none.
  PLAIN: what differs between two maps; a possible edit changes at most two objects, which it names. Conditions: none.
  PLAIN: the objects that a change set needs make a closed map, in which the same evidence is found. Conditions: none.
  PLAIN: the edits between two maps lead from the one to the other. Conditions: none.
  THE ABSTRACT LOGIC, 39: how often a byte stands in a text. Conditions: each rule's own premises.
  CONTRACTS: strings.Index, Cut, Count of a blank; strings.TrimSuffix of an end of a line. Conditions: lengths below 2^40.
  CONTRACTS: strings.Split at a blank. Conditions: lengths below 2^40.
  CONTRACTS: strings.Lines, where the loop goes on to the end. Conditions: lengths below 2^40.
  THE ABSTRACT LOGIC, 38: a box is frozen: a pointer to what is never written again; such pointers and nil. Conditions: each rule's own premises.
  CONTRACTS: change.layers and what it returns. Conditions: at most 2^40 objects.
  CONTRACT: change.renewed. Conditions: closed maps of at most 2^40 objects.
  PLAIN: the edits between two maps lead from the one to the other. Conditions: none.
  CONTRACT: strconv.Itoa. Conditions: numbers of 64 bits.
  PLAIN: the text of a change set is read back. Conditions: none.
  CONTRACT: object.Text. Conditions: the argument's sizes.
  PLAIN: the words of a line as the code cuts them. Conditions: none.
  CONTRACTS: change.line. Conditions: the edit is valid.
  PLAIN: the text of a change set is read back as a whole; different ones have different texts. Conditions: none.
-/
import Derived.Test.YtlnfjkdacimblaaGreatDoorKW5M7
import Derived.Lib.Bytealg
import Derived.Lib.Strings
import Derived.Lib.AtoiTie
import Derived.Lib.ItoaMem
import Derived.Lib.ItoaLen
import Derived.Shelf.Strconv.Itoa3
import Derived.Shelf.Bits.Mul64
import Derived.Shelf.LaysM
import Derived.Ground.NamesProg
set_option linter.unusedVariables false
set_option linter.unusedSimpArgs false
set_option maxRecDepth 100000
set_option maxHeartbeats 2000000
namespace Go.Proofs.YtlnfjkdacimblaaGreatDoor
open Go.Abs
section
/-- The class of the byte at a place. -/
def atC (s:ByteArray) (i:Nat):Int:=if i < s.size then cls (byteAt s i)else 0
def tS (s:ByteArray):Ob:=bx 1 9 [sv s]
def tC:Ob:=bx 256 214 clsAgg
def tA:Ob:=bx 1 216 [.clo 184 [.ref 921 0 0 0,.ref 923 0 0 0]]
theorem at1_cT (s:ByteArray) (i:Nat) (H:Heap) (h1:H.get 921=some (tS s)) (h2:H.get 923=some tC) (hi:i < 4611686018427387904) (hs:s.size < 4611686018427387904) :
  ACalls Tryz.prog 184 [iv (i:Int),.ref 921 0 0 0,.ref 923 0 0 0] H (fun r H'=>r=.pv (.int .u8 (atC s i))∧H'=H):=by
 refine Bd Tryz.func184 rfl Tryz.ntmps184<|Sq<|Rg<|Dd as'<|Zz<|Sq<|Sq<|Rg<|Dd mv'<|Dd (by exact opd_load1_ref rfl Tryz.isAgg9 rfl h1 rfl rfl rfl)<|Dd (ls' Tryz.underlying9)<|Dd ge'<|Zz ?_
 refine Cn (fun hc1=>?_) fun hc1=>?_
 ·have e:atC s i=0:=by rw [atC,if_neg (by have:=of_decide_eq_true hc1;omega)]
  rw [e]
  refine Sq<|Rg<|Dd as'<|Zz<|awp_ret ?_
  refine aret1 (H':=H) (.inr rfl) rfl (rval_tmp rfl) Fin.refl ?_
  exact⟨rfl,rfl⟩
 have hlt:i < s.size:=by have:=of_decide_eq_false hc1;omega
 have e:atC s i=cls (byteAt s i):=by rw [atC,if_pos hlt]
 rw [e]
 refine awp_skip<|Sq<|Rg<|Dd (by exact opd_load1_ref rfl Tryz.isAgg9 rfl h1 rfl rfl rfl)<|Dd mv'<|Dd (by exact opd_index_str rfl Tryz.underlying9 rfl rfl (by omega) (by exact Int.toNat_natCast _) (by omega) rfl)<|Dd (by exact opd_index_arr (m:=(byteAt s i).toNat) (k2:=(byteAt s i).toNat) rfl Tryz.underlying214 Tryz.sizeOf5 rfl h2 rfl rfl (byteAt_nn s i) rfl (byteAt_lt s i) (by omega))<|Dd (by exact opd_load1_ref rfl Tryz.isAgg5 rfl h2 rfl rfl (clsAt s i))<|Dd as'<|Zz<|awp_ret ?_
 refine aret1 (H':=H) (.inr rfl) rfl (rval_tmp rfl) Fin.refl ?_
 exact⟨rfl,rfl⟩
theorem tokens_c (s:ByteArray) (H:Heap) (h1:H.get 921=none) (h2:H.get 923=none) (h3:H.get 924=none) (hc:Closed H) :
  ACalls Tryz.prog 135 [sv s] H (fun r H'=>r=.clo 185 [.ref 921 0 0 0,.ref 924 0 0 0]∧H'=(924,tA)::(923,tC)::(921,tS s)::H):=by
 have h2':Heap.get ((921,tS s)::H) 923=none:=h2
 refine Bd Tryz.func135 rfl Tryz.ntmps135<|Sq<|Rg<|Dd (by exact opd_box (id:=921) rfl rfl rfl rfl h1)<|Dd as'<|Zz<|Sq<|Rg<|Dd (by exact opr_call rfl rfl Tryz.call183 rfl (classes_c _))<|Dd (by exact x_alloc (id:=923) rfl zoCls rfl h2)<|Uu (by exact x_store_all rfl Tryz.sizeOf214 rfl rfl rfl rfl rfl rfl rfl (by simp))<|Zz<|Sq<|Rg<|Dd (by exact opd_makeFunc rfl rfl)<|Dd (by exact x_alloc (id:=924) rfl zo216 rfl h3)<|Uu (sa' Tryz.sizeOf216)<|Zz<|Sq<|Rg<|Dd (by exact opd_makeFunc rfl rfl)<|Dd as'<|Zz<|awp_ret ?_
 refine aret1 (H':=((924,tA)::(923,tC)::(921,tS s)::H)) (.inr rfl) rfl (rval_tmp rfl) (Fin.get' (fun j=>by simp only [Heap.get];cases Nat.beq 924 j<;>cases Nat.beq 923 j<;>rfl)) ?_
 exact⟨rfl,rfl⟩
/-! ### what is yielded -/
def scan (p:Nat→Bool):Nat→Nat→Nat
 | 0,i=>i
 | n+1,i=>if p i then scan p n (i+1)else i
theorem scan_le (p:Nat→Bool):∀ (n i:Nat),i≤scan p n i∧scan p n i≤i+n
 | 0,i=>⟨Nat.le_refl _,Nat.le_refl _⟩
 | n+1,i=>by
  rw [scan]
  split
  ·have:=scan_le p n (i+1)
   omega
  omega
theorem scan_all (p:Nat→Bool):∀ (n i:Nat),∀ j,i≤j→j < scan p n i→p j=true
 | 0,i,j,h1,h2=>by rw [scan] at h2;omega
 | n+1,i,j,h1,h2=>by
  rw [scan] at h2
  split at h2
  ·by_cases e:j=i
   ·subst e;assumption
   exact scan_all p n (i+1) j (by omega) h2
  omega
theorem scan_stop (p:Nat→Bool):∀ (n i:Nat),scan p n i < i+n→p (scan p n i)=false
 | 0,i,h=>by rw [scan] at h;omega
 | n+1,i,h=>by
  rw [scan] at h ⊢
  split at h
  ·rename_i hp
   rw [if_pos hp]
   exact scan_stop p n (i+1) (by omega)
  rename_i hp
  rw [if_neg hp]
  exact Bool.not_eq_true _▸hp
/-- Where a scan ends. -/
theorem scan_eq (p:Nat→Bool) {n i j:Nat} (h1:i≤j) (h2:j≤i+n) (h3:∀ k,i≤k→k < j→p k=true) (h4:p j=false∨j=i+n):scan p n i=j:=by
 obtain ⟨l1,l2⟩:=scan_le p n i
 rcases Nat.lt_trichotomy (scan p n i) j with h|h|h
 ·have:=scan_stop p n i (by omega)
  rw [h3 _ l1 h] at this;cases this
 ·exact h
 have:=scan_all p n i j h1 h
 rcases h4 with h4|h4
 ·rw [h4] at this;cases this
 omega
def pLine (s:ByteArray) (j:Nat):Bool:=decide (j < s.size)&&!decide (byteAt s j=10)
def pWord (s:ByteArray) (j:Nat):Bool:=decide (atC s j=3)||decide (atC s j=4)||decide (atC s j=5)
def pDig (s:ByteArray) (j:Nat):Bool:=decide (atC s j=4)
def lineEnd (s:ByteArray) (i:Nat):Nat:=scan (pLine s) (s.size - i) i
def wordEnd (s:ByteArray) (i:Nat):Nat:=scan (pWord s) (s.size - i) i
def digEnd (s:ByteArray) (i:Nat):Nat:=scan (pDig s) (s.size - i) i
/-- A token, or an error. -/
structure GFound where
 kind:Int
 text:ByteArray
 pos:Nat
 err:Int
def encFound (f:GFound):List PV:=[.int .i64 f.kind,.str f.text,.int .i64 f.pos,.int .i64 f.err]
def noTok (i:Nat):GFound:=⟨0,sNil,i,3⟩
def gWordT (s:ByteArray) (i j:Nat):GFound:=⟨1,s.extract i j,i,if 24 < j - i then 2 else 0⟩
def gNumT (s:ByteArray) (i j:Nat):GFound:=⟨2,s.extract i j,i,if decide (7 < j - i)||decide (atC s j=3)||decide (atC s j=5)then 4 else 0⟩
def gStr (s:ByteArray) (i:Nat):GFound×Nat:=if 0 < (gUnq (s.extract i s.size)).2 then(⟨3,(gUnq (s.extract i s.size)).1,i,0⟩,i+(gUnq (s.extract i s.size)).2.toNat)else(noTok i,i)
/-- What begins at a place, and where it goes on. -/
def gStep (s:ByteArray) (i:Nat):Option GFound×Nat :=
 if atC s i=1 then(none,i+1)else if atC s i=2 then(none,lineEnd s i)else if atC s i=3 then(some (gWordT s i (wordEnd s i)),wordEnd s i)
 else if atC s i=4 then(some (gNumT s i (digEnd s i)),digEnd s i)else if atC s i=7 then(some (gStr s i).1,(gStr s i).2)
 else if atC s i=6 then(some ⟨4,s.extract i (i+1),i,0⟩,i+1)else(some (noTok i),i)
def gToks (s:ByteArray):Nat→Nat→List GFound
 | 0,_=>[]
 | n+1,i=>if i < s.size then(match gStep s i with
  | (none,j)=>gToks s n j
  | (some f,j)=>f::(if f.err=0 then gToks s n j else[]))else[]
theorem unqL_len:∀ (l:List UInt8) (p:List UInt8×Nat),unqL l=some p→p.2≤l.length
 | [],p,h=>by cases h
 | [c],p,h=>by
  rw [unqL] at h
  split at h
  ·cases h;exact Nat.le_refl _
  cases h
 | c :: e :: r, p, h => by
  rw [unqL] at h
  split at h
  ·cases h;exact Nat.le_add_left _ _
  split at h
  ·cases h
  split at h
  ·cases hg:gUnesc e with
   | none=>rw [hg] at h;cases h
   | some b =>
    rw [hg] at h
    cases hu:unqL r with
    | none=>rw [hu] at h;cases h
    | some q =>
     rw [hu] at h;cases h
     have:=unqL_len r q hu
     show q.2+2≤r.length+1+1
     omega
  cases hu:unqL (e::r)with
  | none=>rw [hu] at h;cases h
  | some q =>
   rw [hu] at h;cases h
   have:=unqL_len (e::r) q hu
   show q.2+1≤r.length+1+1
   rw [List.length_cons] at this
   omega
theorem gUnq_len (s:ByteArray):0≤(gUnq s).2∧(gUnq s).2≤s.size:=by
 have hl:s.data.toList.length=s.size:=by simp
 unfold gUnq
 cases hu:unqL (s.data.toList.drop 1)with
 | none=>exact⟨Int.le_refl _,Int.natCast_nonneg _⟩
 | some p =>
  have:=unqL_len _ p hu
  rw [List.length_drop,hl] at this
  refine⟨Int.natCast_nonneg _,?_⟩
  show ((p.2+1:Nat):Int)≤_
  have h0:0 < s.size:=by
   cases h0:s.data.toList with
   | nil=>rw [h0] at hu;cases hu
   | cons a l=>rw [h0] at hl;rw [← hl];exact Nat.succ_pos _
  omega
theorem atC_range (s:ByteArray) (i:Nat) (h:atC s i≠0):i < s.size:=by
 by_cases e:i < s.size
 ·exact e
 exact absurd (if_neg e) h
def tF (f:GFound):Ob:=bx 4 174 ((encFound f).map .pv)
theorem tF_clo (H:Heap) (f:GFound):∀ r∈(tF f).rows,∀ a∈r,Clo H a:=by
 intro r hr a ha
 simp only [tF,bx,List.mem_singleton] at hr
 subst hr
 obtain ⟨p,_,rfl⟩:=List.mem_map.1 ha
 simp
theorem head_ofT {α:Type} {l m:List α} {k:Nat} {d:α} (h:l.drop k=d::m):l[k]?=some d∧l.drop (k+1)=m:=by
 refine⟨?_,?_⟩
 ·have:=congrArg (·[0]?) h
  simpa using this
 rw [← List.drop_drop,h];rfl
theorem step_go {s:ByteArray} {i j:Nat} {f:GFound} (h:gStep s i=(some f,j)) (he:f.err=0) (hi:i < s.size):i < j∧j≤s.size:=by
 have hfirst:∀ (p:Nat→Bool),p i=true→i < scan p (s.size - i) i∧scan p (s.size - i) i≤s.size:=fun p hp=>by
  obtain ⟨l1,l2⟩:=scan_le p (s.size - i) i
  refine⟨?_,by omega⟩
  rcases Nat.lt_or_ge i (scan p (s.size - i) i)with h|h
  ·exact h
  have h3:=scan_stop p (s.size - i) i (by omega)
  rw [show scan p (s.size - i) i=i by omega,hp] at h3
  cases h3
 unfold gStep at h
 split at h
 ·cases h
 split at h
 ·cases h
 split at h
 ·rename_i e3
  cases h
  exact hfirst _ (by rw [pWord,e3];rfl)
 split at h
 ·rename_i e4
  cases h
  exact hfirst _ (by rw [pDig,e4];rfl)
 split at h
 ·have hul:=gUnq_len (s.extract i s.size)
  have hexs:(s.extract i s.size).size≤s.size - i:=by rw [ByteArray.size_extract];omega
  unfold gStr at h
  split at h
  ·rename_i hpos
   cases h
   show i < i+(gUnq (s.extract i s.size)).2.toNat∧i+(gUnq (s.extract i s.size)).2.toNat≤s.size
   omega
  cases h
  cases he
 split at h
 ·cases h
  exact⟨Nat.lt_succ_self _,hi⟩
 cases h
 cases he
theorem ltD {i n:Nat} (h:decide ((i:Int) < (n:Int))=true):i < n:=by
 have:=of_decide_eq_true h
 omega
theorem tokens2_c (s:ByteArray) (fv:AV) (Hs:Nat→Heap) (cont:Nat→Bool) (m:Nat) (hs:s.size < 1099511627776) (h1:∀ k,(Hs k).get 921=some (tS s)) (h2:∀ k,(Hs k).get 923=some tC) (h3:∀ k,(Hs k).get 924=some tA) (h6:∀ k,(Hs k).get 926=none) (hcl:∀ k,Closed (Hs k)) (hf:∀ k,Clo (Hs k) fv)
  (hm:m≤(gToks s (s.size+1) 0).length) (hall:∀ k,k+1 < m→cont k=true) (hend:m=(gToks s (s.size+1) 0).length∨(0 < m∧cont (m - 1)=false))
  (hy:∀ k d,(gToks s (s.size+1) 0)[k]?=some d→k < m→CallsV Tryz.prog fv [.agg ((encFound d).map .pv)] ((926,tF d)::Hs k) (fun r H'=>r=bv (cont k)∧H'=(926,tF d)::Hs (k+1))) :
  ACalls Tryz.prog 185 [fv,.ref 921 0 0 0,.ref 924 0 0 0] (Hs 0) (fun r H'=>r=.tup []∧H'=Hs m):=by
 obtain ⟨ds,hds⟩:∃ ds,ds=gToks s (s.size+1) 0:=⟨_,rfl⟩
 rw [← hds] at hy hm hend
 have hat:∀ (k i:Nat) (f:GFound),i≤s.size+1→CallsV Tryz.prog (.clo 184 [.ref 921 0 0 0,.ref 923 0 0 0]) [iv (i:Int)] ((926,tF f)::Hs k) (fun r H'=>r=.pv (.int .u8 (atC s i))∧H'=(926,tF f)::Hs k):=fun k i f hi =>
  CallsV.clo Tryz.call184 (at1_cT s i ((926,tF f)::Hs k) (h1 k) (h2 k) (by omega) (by omega))
 have hfree:∀ (G0:Heap) (k i:Nat) (E:Env) (o:Ob),G0=Hs 0→E.get 0=some fv→E.get 1=some (.ref 921 0 0 0)→E.get 2=some (.ref 924 0 0 0)→E.get 4=some (iv (i:Int)) →
   Ent G0 E ((926,o)::Hs k) [(0,fv),(1,.ref 921 0 0 0),(2,.ref 924 0 0 0),(4,iv (i:Int))] (Hs k):=fun G0 k i E o hG q0 q1 q2 q4=>by
  subst hG
  exact Ent.front (K:=Hs k) [(926,o)] [] ⟨⟨_,q0,rfl⟩,hf k,⟨_,q1,rfl⟩,(by rw [clo_ref];show ((Hs k).get 921).isSome=true;rw [h1];rfl),⟨_,q2,rfl⟩,(by rw [clo_ref];show ((Hs k).get 924).isSome=true;rw [h3];rfl),⟨_,q4,rfl⟩,(by simp),trivial⟩ (by simp [h6]) (by simp) (by simp) (hcl k) (by simp [h6])
 refine Bd Tryz.func185 rfl Tryz.ntmps185<|awp_scope<|Sq<|Rg<|Dd as'<|Zz<|Sq<|awp_label<|awp_block ?_
 refine awp_loop2 (fun(i k:Nat)=>([(0,fv),(1,.ref 921 0 0 0),(2,.ref 924 0 0 0),(4,iv (i:Int))],Hs k)) (fun i k=>i≤s.size∧k≤m∧(k=0∨cont (k - 1)=true)∧∃ n,s.size - i < n∧ds.drop k=gToks s n i) (fun i k=>s.size - i) 0 0 ⟨Nat.zero_le _,Nat.zero_le _,.inl rfl,s.size+1,Nat.lt_succ_self _,by rw [List.drop_zero,hds]⟩ ?_ ?_
 ·exact E0
 rintro i k ⟨hi,hkm,hkc,n,hn,hinv⟩
 refine Sq<|Sq<|Rg<|Dd mv'<|Dd (by exact opd_load1_ref rfl Tryz.isAgg9 rfl (h1 k) rfl rfl rfl)<|Dd (ls' Tryz.underlying9)<|Dd lss'<|Zz ?_
 refine Cn (fun hc1=>?_) fun hc1=>?_
 ·have hlt:i < s.size:=by have:=of_decide_eq_true hc1;omega
  obtain ⟨n,rfl⟩:∃ n',n=n'+1:=⟨n - 1,by omega⟩
  rw [gToks,if_pos hlt] at hinv
  refine awp_skip<|awp_block<|Sq<|Rg<|Dd mv'<|Dd as'<|Zz<|Sq<|Rg<|Dd mv'<|Dd (bu' bo137)<|Dd (bu' bo174)<|Dd (by exact x_alloc (id:=926) rfl zo174 rfl (h6 k))<|Uu (sa' Tryz.sizeOf174)<|Zz ?_
  refine awp_seq_ex (fun(a:GFound×Nat)=>([(0,fv),(1,.ref 921 0 0 0),(2,.ref 924 0 0 0),(4,iv (a.2:Int)),(6,.ref 926 0 0 0)],(926,tF a.1)::Hs k)) (fun a=>gStep s i=(some a.1,a.2)) ?_ ?_
  ·skip
   refine Sq ?_
   refine AWp.ent (E':=[(0,fv),(1,.ref 921 0 0 0),(2,.ref 924 0 0 0),(4,iv (i:Int)),(5,iv (i:Int)),(6,.ref 926 0 0 0)]) (H':=(926,tF (noTok i))::Hs k) (Ent.get' ⟨⟨_,rfl,rfl⟩,⟨_,rfl,rfl⟩,⟨_,rfl,rfl⟩,⟨_,rfl,rfl⟩,⟨_,rfl,rfl⟩,⟨_,rfl,rfl⟩,trivial⟩ (fun j=>get_dup 926 (tF (noTok i)) _ (Hs k) j)) ?_
   refine Rg<|Dd (by exact opd_load1_ref rfl Tryz.isAgg216 rfl (h3 k) rfl rfl rfl)<|Dd mv'<|Dd (by exact opr_callV rfl rfl rfl (hat k i (noTok i) (by omega)))<|Zz<|awp_block<|Sq<|Rg<|Dd eql'<|Dd as'<|Zz ?_
   refine Cn (fun hc2=>?_) fun hc2=>?_
   ·have e1:atC s i=1:=of_decide_eq_true hc2
    have hst:gStep s i=(none,i+1):=by rw [gStep,if_pos e1]
    rw [hst] at hinv
    refine Sq<|Rg<|Dd mv'<|Dd ad'<|Dd as'<|Zz<|awp_exit ?_
    exact⟨i+1,k,⟨by omega,hkm,hkc,n,by omega,hinv⟩,by omega,hfree _ _ _ _ _ rfl rfl rfl rfl rfl⟩
   have n1:atC s i≠1:=of_decide_eq_false hc2
   refine Sq<|Rg<|Dd eql'<|Dd as'<|Zz ?_
   refine Cn (fun hc3=>?_) fun hc3=>?_
   ·have e2:atC s i=2:=of_decide_eq_true hc3
    have hst:gStep s i=(none,lineEnd s i):=by rw [gStep,if_neg n1,if_pos e2]
    rw [hst] at hinv
    refine Sq<|awp_block ?_
    refine awp_loop (σ:=Nat) (fun j=>([(0,fv),(1,.ref 921 0 0 0),(2,.ref 924 0 0 0),(4,iv (j:Int))],(926,tF (noTok i))::Hs k)) (fun j=>i≤j∧j≤s.size∧∀ q,i≤q→q < j→pLine s q=true) (fun j=>s.size - j) i ⟨Nat.le_refl _,hi,fun q h1 h2=>by omega⟩ ?_ ?_
    ·exact E0
    rintro j ⟨hij,hj,hpre⟩
    refine Sq<|Sq ?_
    refine awp_bool (t:=37) (n:=11) (X:=pLine s j) ?_ ?_
    ·all_goals refine Dd mv' ?_
     all_goals refine Dd (by exact opd_load1_ref rfl Tryz.isAgg9 rfl (h1 k) rfl rfl rfl) ?_
     all_goals refine Dd (ls' Tryz.underlying9) ?_
     all_goals refine Dd lss' ?_
     all_goals refine Dd mv' ?_
     all_goals refine Sp 32 (fun h32=>?_) fun h32=>?_
     all_goals try contradiction
     all_goals first|refine Fo ?_|refine On (by exact opd_load1_ref rfl Tryz.isAgg9 rfl (h1 k) rfl rfl rfl) ?_
     all_goals first|refine Fo ?_|refine On mv' ?_
     all_goals first|refine Fo ?_|refine On (by exact opd_index_str rfl Tryz.underlying9 rfl rfl (by omega) (by exact Int.toNat_natCast _) (ltD h32) rfl) ?_
     all_goals first|refine Fo ?_|refine On ne' ?_
     all_goals refine Dd pk' ?_
     all_goals refine al_nil ?_
     all_goals(exact⟨⟨_,rfl,by first|(simp_all [pLine];done)|(simp_all [pLine];omega)⟩,rfl,rfl,rfl⟩)
    refine Cn (fun hc4=>?_) fun hc4=>?_
    ·have hjs:j < s.size:=by
      have h:=hc4
      rw [pLine,Bool.and_eq_true,decide_eq_true_eq] at h
      exact h.1
     refine awp_skip<|awp_block<|Rg<|Dd mv'<|Dd ad'<|Dd as'<|Zz ?_
     exact⟨j+1,⟨by omega,by omega,fun q q1 q2=>by
      by_cases e:q=j
      ·subst e;exact hc4
      exact hpre q q1 (by omega)⟩,by omega,E0⟩
    have hle:lineEnd s i=j:=scan_eq _ hij (by omega) hpre (.inl hc4)
    have hgt:i < j:=by
     rcases Nat.lt_or_ge i j with h|h
     ·exact h
     have hji:j=i:=by omega
     subst hji
     rw [pLine,decide_eq_true hlt,Bool.true_and,Bool.not_eq_false',decide_eq_true_eq] at hc4
     rw [atC,if_pos hlt,hc4] at e2
     exact absurd e2 (by decide)
    rw [hle] at hinv
    refine awp_exit<|awp_exit ?_
    exact⟨j,k,⟨hj,hkm,hkc,n,by omega,hinv⟩,by omega,hfree _ _ _ _ _ rfl rfl rfl rfl rfl⟩
   have n2:atC s i≠2:=of_decide_eq_false hc3
   refine Sq<|Rg<|Dd eql'<|Dd as'<|Zz ?_
   refine Cn (fun hc5=>?_) fun hc5=>?_
   ·have e3:atC s i=3:=of_decide_eq_true hc5
    refine Sq<|Sq<|Rg<|Dd (by exact opd_load1_ref rfl Tryz.isAgg216 rfl (h3 k) rfl rfl rfl)<|Dd mv'<|Dd (by exact opr_callV rfl rfl rfl (hat k i (noTok i) (by omega)))<|Dd as'<|Zz<|awp_block ?_
    refine awp_loop (σ:=Nat) (fun j=>([(0,fv),(1,.ref 921 0 0 0),(2,.ref 924 0 0 0),(4,iv (j:Int)),(5,iv (i:Int)),(6,.ref 926 0 0 0),(7,.pv (.int .u8 (atC s j)))],(926,tF (noTok i))::Hs k)) (fun j=>i≤j∧j≤s.size∧∀ q,i≤q→q < j→pWord s q=true) (fun j=>s.size - j) i ⟨Nat.le_refl _,hi,fun q h1 h2=>by omega⟩ ?_ ?_
    ·exact E0
    rintro j ⟨hij,hj,hpre⟩
    refine Sq<|Sq ?_
    refine awp_bool (t:=54) (n:=12) (X:=pWord s j) ?_ ?_
    ·all_goals refine Dd mv' ?_
     all_goals refine Dd eql' ?_
     all_goals refine Dd mv' ?_
     all_goals refine Sp 47 (fun h47=>?_) fun h47=>?_
     all_goals try contradiction
     all_goals first|refine Fo ?_|refine On mv' ?_
     all_goals first|refine Fo ?_|refine On eql' ?_
     all_goals refine Dd pk' ?_
     all_goals refine Dd mv' ?_
     all_goals refine Sp 51 (fun h51=>?_) fun h51=>?_
     all_goals try contradiction
     all_goals first|refine Fo ?_|refine On mv' ?_
     all_goals first|refine Fo ?_|refine On eql' ?_
     all_goals refine Dd pk' ?_
     all_goals refine al_nil ?_
     all_goals(exact⟨⟨_,rfl,by(simp only [pWord, *];rfl)⟩,rfl,rfl,rfl⟩)
    refine Cn (fun hc6=>?_) fun hc6=>?_
    ·have hjs:j < s.size:=atC_range s j (fun e=>by rw [pWord,e] at hc6;cases hc6)
     refine awp_skip<|Sq<|awp_block<|Rg<|Dd mv'<|Dd ad'<|Dd as'<|Zz<|Rg<|Dd (by exact opd_load1_ref rfl Tryz.isAgg216 rfl (h3 k) rfl rfl rfl)<|Dd mv'<|Dd (by exact opr_callV rfl rfl rfl (hat k (j+1) (noTok i) (by omega)))<|Dd as'<|Zz ?_
     exact⟨j+1,⟨by omega,by omega,fun q q1 q2=>by
      by_cases e:q=j
      ·subst e;exact hc6
      exact hpre q q1 (by omega)⟩,by omega,E0⟩
    have hle:wordEnd s i=j:=scan_eq _ hij (by omega) hpre (.inl hc6)
    have hst:gStep s i=(some (gWordT s i j),j):=by rw [gStep,if_neg n1,if_neg n2,if_pos e3,hle]
    refine awp_exit<|Sq ?_
    refine awp_drawc follows ?_
    refine Cr [921] (fun H1 hH=>by exact opd_load1_ref rfl Tryz.isAgg9 rfl ((hH _ rfl).trans (h1 k)) rfl rfl rfl)<|Cr [] (fun _ _=>mv')<|Cr [] (fun _ _=>mv')<|Cr [] (fun H1 hH=>by exact opd_slice_str (l:=i) (h:=j) rfl Tryz.underlying9 rfl rfl rfl (by omega) (by omega) rfl)<|Cr [926] (fun _ h=>fh fo174_0 h)<|Cr [926] (fun _ h=>fh fo137_0 h)<|Cp [926] (fun H1 hH=>by exact x_store1 rfl Tryz.sizeOf3 rfl rfl rfl ((hH _ rfl).trans rfl) rfl rfl (Nat.le_of_ble_eq_true rfl) rfl rfl)<|Cr [926] (fun _ h=>fh fo174_0 h)<|Cr [926] (fun _ h=>fh fo137_1 h)<|Cp [926] (fun H1 hH=>by exact x_store1 rfl Tryz.sizeOf9 rfl rfl rfl ((hH _ rfl).trans rfl) rfl rfl (Nat.le_of_ble_eq_true rfl) rfl rfl)<|Cr [926] (fun _ h=>fh fo174_1 h)<|Cp [926] (fun H1 hH=>by exact x_store1 rfl Tryz.sizeOf25 rfl rfl rfl ((hH _ rfl).trans rfl) rfl rfl (Nat.le_of_ble_eq_true rfl) rfl rfl) ?_
    refine dc_nil ⟨by kernel_rfl,?_⟩
    refine Sq<|Rg<|Dd mv'<|Dd mv'<|Dd (by exact opd_sub rfl rfl rfl (show IntKind.i64.wrap ((j:Int) - (i:Int))=((j - i:Nat):Int)by rw [IntKind.wrap_i64];omega))<|Dd gt'<|Zz ?_
    refine Cn (fun hc7=>?_) fun hc7=>?_
    ·have hE:gWordT s i j=⟨1,s.extract i j,i,2⟩:=by rw [gWordT,if_pos (by have:=of_decide_eq_true hc7;omega)]
     rw [hE] at hst
     refine Rg<|Dd (fr' fo174_1)<|Uu (by exact x_store1 rfl Tryz.sizeOf25 rfl rfl rfl rfl rfl rfl (Nat.le_of_ble_eq_true rfl) rfl rfl)<|Zz ?_
     exact⟨(⟨1,s.extract i j,i,2⟩,j),hst,Ent.get' ⟨⟨_,rfl,rfl⟩,⟨_,rfl,rfl⟩,⟨_,rfl,rfl⟩,⟨_,rfl,rfl⟩,⟨_,rfl,rfl⟩,trivial⟩ (fun q=>get_dups [_,_,_,_] (by simp) q)⟩
    have hE:gWordT s i j=⟨1,s.extract i j,i,0⟩:=by rw [gWordT,if_neg (by have:=of_decide_eq_false hc7;omega)]
    rw [hE] at hst
    refine awp_skip ?_
    exact⟨(⟨1,s.extract i j,i,0⟩,j),hst,Ent.get' ⟨⟨_,rfl,rfl⟩,⟨_,rfl,rfl⟩,⟨_,rfl,rfl⟩,⟨_,rfl,rfl⟩,⟨_,rfl,rfl⟩,trivial⟩ (fun q=>get_dups [_,_,_] (by simp) q)⟩
   have n3:atC s i≠3:=of_decide_eq_false hc5
   refine Sq<|Rg<|Dd eql'<|Dd as'<|Zz ?_
   refine Cn (fun hc8=>?_) fun hc8=>?_
   ·have e4:atC s i=4:=of_decide_eq_true hc8
    refine Sq<|awp_block ?_
    refine awp_loop (σ:=Nat) (fun j=>([(0,fv),(1,.ref 921 0 0 0),(2,.ref 924 0 0 0),(4,iv (j:Int)),(5,iv (i:Int)),(6,.ref 926 0 0 0)],(926,tF (noTok i))::Hs k)) (fun j=>i≤j∧j≤s.size∧∀ q,i≤q→q < j→pDig s q=true) (fun j=>s.size - j) i ⟨Nat.le_refl _,hi,fun q h1 h2=>by omega⟩ ?_ ?_
    ·exact E0
    rintro j ⟨hij,hj,hpre⟩
    refine Sq<|Sq<|Rg<|Dd (by exact opd_load1_ref rfl Tryz.isAgg216 rfl (h3 k) rfl rfl rfl)<|Dd mv'<|Dd (by exact opr_callV rfl rfl rfl (hat k j (noTok i) (by omega)))<|Dd eql'<|Zz ?_
    refine Cn (fun hc9=>?_) fun hc9=>?_
    ·have hjs:j < s.size:=atC_range s j (fun e=>by rw [e] at hc9;cases hc9)
     refine awp_skip<|awp_block<|Rg<|Dd mv'<|Dd ad'<|Dd as'<|Zz ?_
     exact⟨j+1,⟨by omega,by omega,fun q q1 q2=>by
      by_cases e:q=j
      ·subst e;exact hc9
      exact hpre q q1 (by omega)⟩,by omega,E0⟩
    have hle:digEnd s i=j:=scan_eq _ hij (by omega) hpre (.inl hc9)
    have hst:gStep s i=(some (gNumT s i j),j):=by rw [gStep,if_neg n1,if_neg n2,if_neg n3,if_pos e4,hle]
    refine awp_exit<|Sq ?_
    refine awp_drawc follows ?_
    refine Cr [921] (fun H1 hH=>by exact opd_load1_ref rfl Tryz.isAgg9 rfl ((hH _ rfl).trans (h1 k)) rfl rfl rfl)<|Cr [] (fun _ _=>mv')<|Cr [] (fun _ _=>mv')<|Cr [] (fun H1 hH=>by exact opd_slice_str (l:=i) (h:=j) rfl Tryz.underlying9 rfl rfl rfl (by omega) (by omega) rfl)<|Cr [926] (fun _ h=>fh fo174_0 h)<|Cr [926] (fun _ h=>fh fo137_0 h)<|Cp [926] (fun H1 hH=>by exact x_store1 rfl Tryz.sizeOf3 rfl rfl rfl ((hH _ rfl).trans rfl) rfl rfl (Nat.le_of_ble_eq_true rfl) rfl rfl)<|Cr [926] (fun _ h=>fh fo174_0 h)<|Cr [926] (fun _ h=>fh fo137_1 h)<|Cp [926] (fun H1 hH=>by exact x_store1 rfl Tryz.sizeOf9 rfl rfl rfl ((hH _ rfl).trans rfl) rfl rfl (Nat.le_of_ble_eq_true rfl) rfl rfl)<|Cr [926] (fun _ h=>fh fo174_1 h)<|Cp [926] (fun H1 hH=>by exact x_store1 rfl Tryz.sizeOf25 rfl rfl rfl ((hH _ rfl).trans rfl) rfl rfl (Nat.le_of_ble_eq_true rfl) rfl rfl) ?_
    refine dc_nil ⟨by kernel_rfl,?_⟩
    refine Sq ?_
    refine AWp.ent (E':=[(0,fv),(1,.ref 921 0 0 0),(2,.ref 924 0 0 0),(4,iv (j:Int)),(5,iv (i:Int)),(6,.ref 926 0 0 0)]) (H':=(926,tF ⟨2,s.extract i j,i,0⟩)::Hs k) (Ent.get' ⟨⟨_,rfl,rfl⟩,⟨_,rfl,rfl⟩,⟨_,rfl,rfl⟩,⟨_,rfl,rfl⟩,⟨_,rfl,rfl⟩,⟨_,rfl,rfl⟩,trivial⟩ (fun q=>get_dups [_,_,_] (by simp) q)) ?_
    have h7:decide (7 < ((j - i:Nat):Int))=decide (7 < j - i):=by rw [Bool.eq_iff_iff,decide_eq_true_eq,decide_eq_true_eq];omega
    refine Rg<|Dd (by exact opd_load1_ref rfl Tryz.isAgg216 rfl (h3 k) rfl rfl rfl)<|Dd mv'<|Dd (by exact opr_callV rfl rfl rfl (hat k j ⟨2,s.extract i j,i,0⟩ (by omega)))<|Dd as'<|Zz<|Sq ?_
    refine awp_bool (t:=105) (n:=14) (X:=decide (7 < ((j - i:Nat):Int))||decide (atC s j=3)||decide (atC s j=5)) ?_ ?_
    ·all_goals refine Dd mv' ?_
     all_goals refine Dd mv' ?_
     all_goals refine Dd (by exact opd_sub rfl rfl rfl (show IntKind.i64.wrap ((j:Int) - (i:Int))=((j - i:Nat):Int)by rw [IntKind.wrap_i64];omega)) ?_
     all_goals refine Dd gt' ?_
     all_goals refine Dd mv' ?_
     all_goals refine Sp 98 (fun h98=>?_) fun h98=>?_
     all_goals try contradiction
     all_goals first|refine Fo ?_|refine On mv' ?_
     all_goals first|refine Fo ?_|refine On eql' ?_
     all_goals refine Dd pk' ?_
     all_goals refine Dd mv' ?_
     all_goals refine Sp 102 (fun h102=>?_) fun h102=>?_
     all_goals try contradiction
     all_goals first|refine Fo ?_|refine On mv' ?_
     all_goals first|refine Fo ?_|refine On eql' ?_
     all_goals refine Dd pk' ?_
     all_goals refine al_nil ?_
     all_goals(exact⟨⟨_,rfl,by first|(simp_all [pWord];done)|(simp_all;omega)⟩,rfl,rfl,rfl⟩)
    refine Cn (fun hc10=>?_) fun hc10=>?_
    ·have hE:gNumT s i j=⟨2,s.extract i j,i,4⟩:=by rw [gNumT,← h7,hc10];rfl
     rw [hE] at hst
     refine Rg<|Dd (fr' fo174_1)<|Uu (by exact x_store1 rfl Tryz.sizeOf25 rfl rfl rfl rfl rfl rfl (Nat.le_of_ble_eq_true rfl) rfl rfl)<|Zz ?_
     exact⟨(⟨2,s.extract i j,i,4⟩,j),hst,Ent.get' ⟨⟨_,rfl,rfl⟩,⟨_,rfl,rfl⟩,⟨_,rfl,rfl⟩,⟨_,rfl,rfl⟩,⟨_,rfl,rfl⟩,trivial⟩ (fun q=>get_dups [_] (by simp) q)⟩
    have hE:gNumT s i j=⟨2,s.extract i j,i,0⟩:=by rw [gNumT,← h7,hc10];rfl
    rw [hE] at hst
    refine awp_skip ?_
    exact⟨(⟨2,s.extract i j,i,0⟩,j),hst,E0⟩
   have n4:atC s i≠4:=of_decide_eq_false hc8
   refine Sq<|Rg<|Dd eql'<|Dd as'<|Zz ?_
   refine Cn (fun hc11=>?_) fun hc11=>?_
   ·have e7:atC s i=7:=of_decide_eq_true hc11
    have hst:gStep s i=(some (gStr s i).1,(gStr s i).2):=by rw [gStep,if_neg n1,if_neg n2,if_neg n3,if_neg n4,if_pos e7]
    have hexs:(s.extract i s.size).size≤s.size - i:=by rw [ByteArray.size_extract];omega
    have hun:=fun H=>unquoted_c (s.extract i s.size) H (by omega)
    have hul:=gUnq_len (s.extract i s.size)
    obtain ⟨u,hu⟩:∃ u,u=gUnq (s.extract i s.size):=⟨_,rfl⟩
    have hgs:gStr s i=if 0 < u.2 then(⟨3,u.1,i,0⟩,i+u.2.toNat)else(noTok i,i):=by rw [gStr,← hu]
    rw [← hu] at hun hul
    obtain ⟨ut,un⟩:=u
    simp only at hun hul hgs
    refine Sq<|Rg<|Dd (by exact opd_load1_ref rfl Tryz.isAgg9 rfl (h1 k) rfl rfl rfl)<|Dd mv'<|Dd (by exact opd_slice_str (l:=i) (h:=s.size) rfl Tryz.underlying9 rfl rfl rfl (by omega) (by omega) rfl)<|Dd (by exact opr_call rfl rfl Tryz.call186 rfl (hun _))<|Dd mv'<|Dd ex'<|Dd ex'<|Dd as'<|Dd as'<|Zz<|Sq<|Sq<|Rg<|Dd mv'<|Dd gt'<|Zz ?_
    refine Cn (fun hc12=>?_) fun hc12=>?_
    ·rw [hgs,if_pos (of_decide_eq_true hc12)] at hst
     refine Rg<|Dd mv'<|Dd (fr' fo174_0)<|Dd (fr' fo137_0)<|Uu (by exact x_store1 rfl Tryz.sizeOf3 rfl rfl rfl rfl rfl rfl (Nat.le_of_ble_eq_true rfl) rfl rfl)<|Dd (fr' fo174_0)<|Dd (fr' fo137_1)<|Uu (by exact x_store1 rfl Tryz.sizeOf9 rfl rfl rfl rfl rfl rfl (Nat.le_of_ble_eq_true rfl) rfl rfl)<|Dd (fr' fo174_1)<|Uu (by exact x_store1 rfl Tryz.sizeOf25 rfl rfl rfl rfl rfl rfl (Nat.le_of_ble_eq_true rfl) rfl rfl)<|Zz<|Rg<|Dd mv'<|Dd mv'<|Dd (by exact opd_add rfl rfl rfl (show IntKind.i64.wrap ((i:Int)+un)=((i+un.toNat:Nat):Int)by rw [IntKind.wrap_i64];omega))<|Dd as'<|Zz ?_
     exact⟨(⟨3,ut,i,0⟩,i+un.toNat),hst,Ent.get' ⟨⟨_,rfl,rfl⟩,⟨_,rfl,rfl⟩,⟨_,rfl,rfl⟩,⟨_,rfl,rfl⟩,⟨_,rfl,rfl⟩,trivial⟩ (fun q=>get_dups [_,_,_] (by simp) q)⟩
    have hu0:=of_decide_eq_false hc12
    rw [hgs,if_neg hu0] at hst
    have e0:i+un.toNat=i:=by omega
    refine awp_skip<|Rg<|Dd mv'<|Dd mv'<|Dd (by exact opd_add rfl rfl rfl (show IntKind.i64.wrap ((i:Int)+un)=((i+un.toNat:Nat):Int)by rw [IntKind.wrap_i64];omega))<|Dd as'<|Zz ?_
    rw [e0]
    exact⟨(noTok i,i),hst,E0⟩
   have n7:atC s i≠7:=of_decide_eq_false hc11
   refine Sq<|Rg<|Dd eql'<|Dd as'<|Zz ?_
   refine Cn (fun hc13=>?_) fun hc13=>?_
   ·have e6:atC s i=6:=of_decide_eq_true hc13
    have hst:gStep s i=(some ⟨4,s.extract i (i+1),i,0⟩,i+1):=by rw [gStep,if_neg n1,if_neg n2,if_neg n3,if_neg n4,if_neg n7,if_pos e6]
    refine Sq<|Rg<|Dd mv'<|Dd ad'<|Dd as'<|Zz ?_
    refine awp_drawc follows ?_
    refine Cr [921] (fun H1 hH=>by exact opd_load1_ref rfl Tryz.isAgg9 rfl ((hH _ rfl).trans (h1 k)) rfl rfl rfl)<|Cr [] (fun _ _=>mv')<|Cr [] (fun _ _=>mv')<|Cr [] (fun H1 hH=>by exact opd_slice_str (l:=i) (h:=(i+1)) rfl Tryz.underlying9 rfl rfl rfl (by omega) (by omega) rfl)<|Cr [926] (fun _ h=>fh fo174_0 h)<|Cr [926] (fun _ h=>fh fo137_0 h)<|Cp [926] (fun H1 hH=>by exact x_store1 rfl Tryz.sizeOf3 rfl rfl rfl ((hH _ rfl).trans rfl) rfl rfl (Nat.le_of_ble_eq_true rfl) rfl rfl)<|Cr [926] (fun _ h=>fh fo174_0 h)<|Cr [926] (fun _ h=>fh fo137_1 h)<|Cp [926] (fun H1 hH=>by exact x_store1 rfl Tryz.sizeOf9 rfl rfl rfl ((hH _ rfl).trans rfl) rfl rfl (Nat.le_of_ble_eq_true rfl) rfl rfl)<|Cr [926] (fun _ h=>fh fo174_1 h)<|Cp [926] (fun H1 hH=>by exact x_store1 rfl Tryz.sizeOf25 rfl rfl rfl ((hH _ rfl).trans rfl) rfl rfl (Nat.le_of_ble_eq_true rfl) rfl rfl) ?_
    refine dc_nil ⟨by kernel_rfl,?_⟩
    exact⟨(⟨4,s.extract i (i+1),i,0⟩,i+1),hst,Ent.get' ⟨⟨_,rfl,rfl⟩,⟨_,rfl,rfl⟩,⟨_,rfl,rfl⟩,⟨_,rfl,rfl⟩,⟨_,rfl,rfl⟩,trivial⟩ (fun q=>get_dups [_,_,_] (by simp) q)⟩
   have n6:atC s i≠6:=of_decide_eq_false hc13
   have hst:gStep s i=(some (noTok i),i):=by rw [gStep,if_neg n1,if_neg n2,if_neg n3,if_neg n4,if_neg n7,if_neg n6]
   refine awp_skip ?_
   exact⟨(noTok i,i),hst,E0⟩
  rintro⟨f,j⟩ hst
  rw [hst] at hinv
  simp only at hinv hst
  obtain ⟨hk1,hk2⟩:=head_ofT hinv
  have hkl:=(List.getElem?_eq_some_iff.1 hk1).1
  have hkm2:k < m:=by
   rcases Nat.lt_or_ge k m with h|h
   ·exact h
   have hkem:k=m:=Nat.le_antisymm hkm h
   subst hkem
   rcases hend with h|⟨h,h'⟩
   ·omega
   rcases hkc with h2|h2
   ·omega
   rw [h2] at h';cases h'
  have hstop:ds.length=k+1∨cont k=false→k+1=m:=fun h=>by
   rcases h with h|h
   ·omega
   rcases Nat.lt_or_ge (k+1) m with h3|h3
   ·rw [hall k h3] at h;cases h
   omega
  have hyk:=hy k f hk1 hkm2
  cases hck:cont k with
  | false =>
   have hkk:=hstop (.inr hck)
   rw [hck] at hyk
   refine Sq<|Rg<|Dd mv'<|Dd (ln' Tryz.isAgg174 Tryz.sizeOf174)<|Dd (by exact opr_callV rfl rfl rfl (hyk))<|Dd no'<|Dd mv' ?_
   refine al_off rfl rfl rfl (by rfl) rfl ?_
   refine al_off rfl rfl rfl (by rfl) rfl ?_
   refine al_off rfl rfl rfl (by rfl) rfl ?_
   refine Dd pk'<|Zz ?_
   refine Cn (fun hc14=>?_) fun hc14=>?_
   ·skip
    refine awp_ret ?_
    rw [← hkk]
    exact aret0 (H':=Hs (k+1)) (.inr rfl) rfl (Fin.pops' [(926,tF f)] (by simp) (hcl _) (by simp [h6]) (by simp [h6])) ⟨rfl,rfl⟩
   skip
   cases hc14
  | true =>
   rw [hck] at hyk
   refine Sq<|Rg<|Dd mv'<|Dd (ln' Tryz.isAgg174 Tryz.sizeOf174)<|Dd (by exact opr_callV rfl rfl rfl (hyk))<|Dd no'<|Dd mv' ?_
   refine al_ond rfl rfl rfl (by rfl) rfl rfl (by exact opd_field_ref rfl fo174_1 rfl rfl rfl rfl) ?_
   refine al_ond rfl rfl rfl (by rfl) rfl rfl (by exact opd_load1_ref rfl Tryz.isAgg25 rfl rfl rfl rfl rfl) ?_
   refine al_ond rfl rfl rfl (by rfl) rfl rfl (by exact opd_neq rfl rfl rfl) ?_
   refine Dd pk'<|Zz ?_
   refine Cn (fun hc15=>?_) fun hc15=>?_
   ·have hne:f.err≠0:=by
     have h:=hc15
     simpa using h
    rw [if_neg hne] at hk2
    have hkk:=hstop (.inl (by have:=List.drop_eq_nil_iff.1 hk2;omega))
    refine awp_ret ?_
    rw [← hkk]
    exact aret0 (H':=Hs (k+1)) (.inr rfl) rfl (Fin.pops' [(926,tF f)] (by simp) (hcl _) (by simp [h6]) (by simp [h6])) ⟨rfl,rfl⟩
   have he0:f.err=0:=by
    have h:=hc15
    simpa using h
   obtain ⟨g1,g2⟩:=step_go hst he0 hlt
   rw [if_pos he0] at hk2
   refine awp_skip ?_
   exact⟨j,k+1,⟨g2,hkm2,.inr hck,n,by omega,hk2⟩,by omega,hfree _ _ _ _ _ rfl rfl rfl rfl rfl⟩
 have hge:s.size≤i:=by have:=of_decide_eq_false hc1;omega
 have hnil:gToks s n i=[]:=by
  cases n with
  | zero=>rfl
  | succ n=>rw [gToks,if_neg (by omega)]
 rw [hnil] at hinv
 have hkd:=List.drop_eq_nil_iff.1 hinv
 have hkk:k=m:=by omega
 refine awp_exit ?_
 rw [← hkk]
 exact aret0 (H':=Hs k) (.inl rfl) rfl Fin.refl ⟨rfl,rfl⟩
end
section
def encTok (f:GFound):List PV:=[.int .i64 f.kind,.str f.text,.int .i64 f.pos]
def slToks (l:List GFound):PV:=.sl (l.map encTok)
def tkRows (l:List GFound):List (List AV):=l.map fun f=>(encTok f).map AV.pv
theorem tkRows_len (l:List GFound):(tkRows l).length=l.length:=List.length_map _
theorem tkRows_app (l:List GFound) (f:GFound):tkRows l++[(encTok f).map AV.pv]=tkRows (l++[f]):=by rw [tkRows,tkRows,List.map_append];rfl
theorem tkRows_clo (H:Heap) (l:List GFound):∀ r∈tkRows l,∀ a∈r,Clo H a:=by
 intro r hr a ha
 obtain ⟨d,_,rfl⟩:=List.mem_map.1 hr
 obtain ⟨p,_,rfl⟩:=List.mem_map.1 ha
 simp
theorem tA_clo {H:Heap} (h1:(H.get 921).isSome=true) (h2:(H.get 923).isSome=true):∀ r∈tA.rows,∀ a∈r,Clo H a:=by
 intro r hr a ha
 simp only [tA,bx,List.mem_singleton] at hr
 subst hr
 rw [List.mem_singleton] at ha
 subst ha
 simp [h1,h2]
theorem tS_clo (H:Heap) (s:ByteArray):∀ r∈(tS s).rows,∀ a∈r,Clo H a:=by
 intro r hr a ha
 simp only [tS,bx,List.mem_singleton] at hr
 subst hr
 rw [List.mem_singleton] at ha
 subst ha
 simp
def lexRun:List GFound→List GFound→List GFound×Int×Int
 | acc,[]=>(acc,0,0)
 | acc,f::r=>if f.err≠0 then([],f.err,f.pos)else if acc.length=5000 then([],2,f.pos)else lexRun (acc++[f]) r
/-- The tokens of a text, or an error and its place. -/
def gLex (s:ByteArray):List GFound×Int×Int:=if 20000 < s.size then([],2,-1)else lexRun [] (gToks s (s.size+1) 0)
def okAt (ds:List GFound) (k:Nat):Bool:=match ds[k]? with
 | some f=>decide (f.err=0)&&!decide (k=5000)
 | none=>true
theorem lexRun_to {ds:List GFound}:∀ {k:Nat},k≤ds.length→(∀ j,j < k→okAt ds j=true)→lexRun [] ds=lexRun (ds.take k) (ds.drop k)
 | 0,_,_=>rfl
 | k+1,hk,h=>by
  rw [lexRun_to (Nat.le_of_succ_le hk) (fun j hj=>h j (by omega))]
  have hd:ds.drop k=ds[k]::ds.drop (k+1):=List.drop_eq_getElem_cons hk
  have hok:=h k (Nat.lt_succ_self k)
  rw [okAt,List.getElem?_eq_getElem hk] at hok
  simp only [Bool.and_eq_true,decide_eq_true_eq,Bool.not_eq_true',decide_eq_false_iff_not] at hok
  have htl:(ds.take k).length=k:=by rw [List.length_take];omega
  rw [hd,lexRun,if_neg (fun h=>h hok.1),if_neg (by rw [htl];exact hok.2),List.take_add_one,List.getElem?_eq_getElem hk]
  rfl
theorem toks_len (s:ByteArray):∀ (n i:Nat),(gToks s n i).length≤n
 | 0,_=>Nat.zero_le _
 | n+1,i=>by
  rw [gToks]
  split
  ·split
   ·exact Nat.le_succ_of_le (toks_len s n _)
   rw [List.length_cons]
   split
   ·exact Nat.succ_le_succ (toks_len s n _)
   exact Nat.succ_le_succ (Nat.zero_le _)
  exact Nat.zero_le _
def kL (s:ByteArray) (L:List GFound) (a:AV) (e p:Int):Heap:=[(905,⟨L.length,3,137,tkRows L⟩),(5,bx 1 133 [.osl 905 L.length 0 L.length]),(924,tA),(923,tC),(921,tS s),(4,bx 1 3 [iv p]),(3,bx 1 25 [iv e]),(2,bx 1 133 [a])]
theorem kL_app (s:ByteArray) (L:List GFound) (f:GFound) (a:AV) (e p:Int):kL s (L++[f]) a e p=[(905,⟨L.length+1,3,137,tkRows (L++[f])⟩),(5,bx 1 133 [.osl 905 (L.length+1) 0 (L.length+1)]),(924,tA),(923,tC),(921,tS s),(4,bx 1 3 [iv p]),(3,bx 1 25 [iv e]),(2,bx 1 133 [a])]:=by simp [kL]
/-- What a range over the tokens keeps of the frame. -/
def lexE:Env:=[(2,.ref 2 0 0 0),(3,.ref 3 0 0 0),(4,.ref 4 0 0 0),(5,.ref 5 0 0 0)]
theorem okAt_iff {ds:List GFound} {k:Nat} {f:GFound} (h:ds[k]?=some f):okAt ds k=(decide (f.err=0)&&!decide (k=5000)):=by rw [okAt,h]
theorem lex_c (s:ByteArray) (H:Heap) (hs:s.size < 1099511627776):ACalls Tryz.prog 83 [sv s] H (fun r H'=>r=.tup [.pv (slToks (gLex s).1),iv (gLex s).2.1,iv (gLex s).2.2]∧H'=H):=by
 refine ACalls.pure ?_ (by simp) H
 refine Bd Tryz.func83 rfl Tryz.ntmps83<|Sq<|Rg<|Dd (by exact x_alloc (id:=2) rfl zo133 rfl rfl)<|Dd (by exact x_alloc (id:=3) rfl zo25 rfl rfl)<|Dd (by exact x_alloc (id:=4) rfl zo3 rfl rfl)<|Zz<|Sq<|Sq<|Rg<|Dd mv'<|Dd (ls' Tryz.underlying9)<|Dd gt'<|Zz ?_
 refine Cn (fun hc1=>?_) fun hc1=>?_
 ·have e:gLex s=([],2,-1):=by rw [gLex,if_pos (by have:=of_decide_eq_true hc1;omega)]
  rw [e]
  refine Sq<|Rg<|Uu (sa' Tryz.sizeOf133)<|Uu (sa' Tryz.sizeOf25)<|Uu (sa' Tryz.sizeOf3)<|Zz<|awp_ret ?_
  refine aret3 (H':=[]) (.inr rfl) rfl (rval_cell1 rfl Tryz.isAgg133 rfl rfl rfl rfl) (rval_cell1 rfl Tryz.isAgg25 rfl rfl rfl rfl) (rval_cell1 rfl Tryz.isAgg3 rfl rfl rfl rfl) (Fin.wk (by simp) trivial trivial) ?_
  exact⟨rfl,rfl⟩
 have hsz:¬ 20000 < s.size:=by have:=of_decide_eq_false hc1;omega
 obtain ⟨ds,hds⟩:∃ ds,ds=gToks s (s.size+1) 0:=⟨_,rfl⟩
 have hg:gLex s=lexRun [] ds:=by rw [gLex,if_neg hsz,hds]
 refine awp_skip<|Sq<|Rg<|Dd (by exact x_alloc (id:=5) rfl zoN133 rfl rfl)<|Zz<|Sq<|Sq<|Rg<|Dd mv'<|Dd (by exact opr_call rfl rfl Tryz.call135 rfl (tokens_c s _ rfl rfl rfl (Closed.ofL ⟨(by(simp;done)),(by(simp;done)),(by(simp;done)),(by(simp;done)),trivial⟩)))<|Zz<|awp_block ?_
 refine AWp.ent (E':=[(2,.ref 2 0 0 0),(3,.ref 3 0 0 0),(4,.ref 4 0 0 0),(5,.ref 5 0 0 0),(11,.clo 185 [.ref 921 0 0 0,.ref 924 0 0 0])]) (H':=[(905,⟨0,3,137,[]⟩),(5,bx 1 133 [.osl 905 0 0 0]),(924,tA),(923,tC),(921,tS s),(4,bx 1 3 [iv 0]),(3,bx 1 25 [iv 0]),(2,bx 1 133 [.pv (.sl [])])]) ?_ ?_
 ·exact(Ent.nz 905 3 137 rfl rfl ⟨⟨_,rfl,(by exact Nz.same (by(simp;rfl)))⟩,⟨_,rfl,(by exact Nz.same (by(simp;rfl)))⟩,⟨_,rfl,(by exact Nz.same (by(simp;rfl)))⟩,⟨_,rfl,(by exact Nz.same (by(simp;rfl)))⟩,⟨_,rfl,(by exact Nz.same (by(simp;exact⟨rfl,rfl⟩)))⟩,trivial⟩ ⟨⟨_,rfl,rfl,rfl,rfl,(by exact .inr ⟨_,_,rfl,rfl,(by repeat(first|exact trivial|refine⟨(by exact Nz.own),?_⟩))⟩)⟩,⟨_,rfl,rfl,rfl,rfl,(by exact .inl ⟨rfl,(by exact tA_clo rfl rfl)⟩)⟩,⟨_,rfl,rfl,rfl,rfl,(by exact .inl ⟨rfl,(by exact clsA_clo _)⟩)⟩,⟨_,rfl,rfl,rfl,rfl,(by exact .inl ⟨rfl,(by exact tS_clo _ _)⟩)⟩,⟨_,rfl,rfl,rfl,rfl,(by exact .inl ⟨rfl,(by(simp;done))⟩)⟩,⟨_,rfl,rfl,rfl,rfl,(by exact .inl ⟨rfl,(by(simp;done))⟩)⟩,⟨_,rfl,rfl,rfl,rfl,(by exact .inl ⟨rfl,(by(simp;done))⟩)⟩,trivial⟩ trivial)
 have hdl:ds.length≤s.size+1:=by rw [hds];exact toks_len s _ _
 obtain ⟨j,hj⟩:∃ j,j=scan (okAt ds) ds.length 0:=⟨_,rfl⟩
 have hj1:j≤ds.length:=by have:=(scan_le (okAt ds) ds.length 0).2;omega
 have hj2:∀ k,k < j→okAt ds k=true:=fun k hk=>scan_all (okAt ds) ds.length 0 k (Nat.zero_le _) (by rw [← hj];exact hk)
 have hj3:j < ds.length→okAt ds j=false:=fun h=>by have:=scan_stop (okAt ds) ds.length 0 (by omega);rwa [← hj] at this
 have hrun:=lexRun_to hj1 hj2
 refine awp_range (id:=904) (p:=12) lexE rfl Tryz.call185 rfl rfl (by simp [lexE];exact⟨rfl,rfl,rfl,rfl⟩) ?_
 intro x hx1 hx2 hx3 hx4 hx5 hx6
 have hround:∀ (k:Nat) (d:GFound),ds[k]?=some d→k≤j →
   CallsV Tryz.prog (.yld 904 0) [.agg ((encFound d).map .pv)] ((904,LR x lexE)::(926,tF d)::kL s (ds.take k) (.pv (.sl [])) 0 0) (fun r H'=>r=bv (okAt ds k)∧H'=(if okAt ds k then(904,LR x lexE)::(926,tF d)::kL s (ds.take (k+1)) (.pv (.sl [])) 0 0 else(904,LR (left x .ret) lexE)::(926,tF d)::kL s (ds.take k) (.pv (.sl [])) (if d.err≠0 then d.err else 2) d.pos)):=by
  intro k d hd hkj
  have hok:=okAt_iff hd
  have hkl:k < ds.length:=(List.getElem?_eq_some_iff.1 hd).1
  have htl:(ds.take k).length=k:=by rw [List.length_take];omega
  have hnx:ds.take (k+1)=ds.take k++[d]:=by rw [List.take_add_one,hd];rfl
  refine .inl ⟨904,0,rfl,?_⟩
  refine ycalls [(2,.ref 2 0 0 0),(3,.ref 3 0 0 0),(4,.ref 4 0 0 0),(5,.ref 5 0 0 0),(6,.ref 907 0 0 0)] ((907,tF d)::(926,tF d)::kL s (ds.take k) (.pv (.sl [])) 0 0) hx1 hx2 hx3 hx4 hx5 hx6 rfl rfl rfl ?_ ?_
  ·skip
   refine Rg<|Dd (by exact x_alloc (id:=907) rfl zo174 rfl rfl)<|Uu (sa' Tryz.sizeOf174)<|Zz ?_
   exact(Ent.wk (Ea<|Ea<|Ea<|Ea<|Ea<|trivial) (Hc (LR_clo (by simp [lexE];exact⟨rfl,rfl,rfl,rfl⟩))<|Hc (tF_clo _ _)<|Hc (tF_clo _ _)<|Hc (tkRows_clo _ _)<|Ha<|Hc (tA_clo rfl rfl)<|Hc (clsA_clo _)<|Hc (tS_clo _ _)<|Hb<|Hb<|Hb<|trivial) ⟨rfl,rfl,rfl,rfl,rfl,rfl,rfl,rfl,rfl,rfl,trivial⟩)
  skip
  refine awp_block<|Sq<|awp_block<|Sq<|Rg<|Dd (fr' fo174_1)<|Dd (l1' Tryz.isAgg25)<|Dd ne'<|Dd as'<|Zz ?_
  refine Cn (fun hc2=>?_) fun hc2=>?_
  ·have he:d.err≠0:=by have h:=hc2;rw [Bool.not_eq_true',decide_eq_false_iff_not] at h;exact h
   have h0:okAt ds k=false:=by rw [hok,decide_eq_false he];rfl
   rw [h0,if_neg (by decide),if_pos he]
   refine Sq ?_
   refine awp_drawc follows ?_
   refine Cr [907] (fun _ h=>fh fo174_1 h)<|Cr [907] (fun _ h=>lh Tryz.isAgg25 h)<|Cr [907] (fun _ h=>fh fo174_0 h)<|Cr [907] (fun _ h=>fh fo137_2 h)<|Cr [907] (fun _ h=>lh Tryz.isAgg3 h)<|Cp [2] (fun H1 hH=>by exact x_store_all rfl Tryz.sizeOf133 rfl rfl rfl rfl ((hH _ rfl).trans rfl) rfl rfl rfl)<|Cp [3] (fun H1 hH=>by exact x_store_all rfl Tryz.sizeOf25 rfl rfl rfl rfl ((hH _ rfl).trans rfl) rfl rfl rfl)<|Cp [4] (fun H1 hH=>by exact x_store_all rfl Tryz.sizeOf3 rfl rfl rfl rfl ((hH _ rfl).trans rfl) rfl rfl rfl) ?_
   refine dc_nil ⟨by kernel_rfl,?_⟩
   refine awp_ret ?_
   exact⟨(926,tF d)::kL s (ds.take k) (.pv (.sl [])) d.err d.pos,(Ent.wk trivial (Hc (LR_clo (by simp [lexE];exact⟨rfl,rfl,rfl,rfl⟩))<|Hc (tF_clo _ _)<|Hc (tkRows_clo _ _)<|Ha<|Hc (tA_clo rfl rfl)<|Hc (clsA_clo _)<|Hc (tS_clo _ _)<|Hb<|Hb<|Hb<|trivial) ⟨rfl,rfl,rfl,rfl,rfl,rfl,rfl,rfl,rfl,rfl,trivial⟩),rfl,rfl⟩
  have he:d.err=0:=by have h:=hc2;rw [Bool.not_eq_false',decide_eq_true_eq] at h;exact h
  refine Sq<|Rg<|Dd (l1' Tryz.isAgg133)<|Dd (by exact opd_len_osl rfl Tryz.underlying133 rfl rfl rfl)<|Dd eql'<|Dd as'<|Zz ?_
  refine Cn (fun hc3=>?_) fun hc3=>?_
  ·have hk5:k=5000:=by have:=of_decide_eq_true hc3;omega
   have h0:okAt ds k=false:=by rw [hok,decide_eq_true he,decide_eq_true hk5];rfl
   rw [h0,if_neg (by decide),if_neg (fun h=>h he)]
   refine Sq ?_
   refine awp_drawc follows ?_
   refine Cr [907] (fun _ h=>fh fo174_0 h)<|Cr [907] (fun _ h=>fh fo137_2 h)<|Cr [907] (fun _ h=>lh Tryz.isAgg3 h)<|Cp [2] (fun H1 hH=>by exact x_store_all rfl Tryz.sizeOf133 rfl rfl rfl rfl ((hH _ rfl).trans rfl) rfl rfl rfl)<|Cp [3] (fun H1 hH=>by exact x_store_all rfl Tryz.sizeOf25 rfl rfl rfl rfl ((hH _ rfl).trans rfl) rfl rfl rfl)<|Cp [4] (fun H1 hH=>by exact x_store_all rfl Tryz.sizeOf3 rfl rfl rfl rfl ((hH _ rfl).trans rfl) rfl rfl rfl) ?_
   refine dc_nil ⟨by kernel_rfl,?_⟩
   refine awp_ret ?_
   exact⟨(926,tF d)::kL s (ds.take k) (.pv (.sl [])) 2 d.pos,(Ent.wk trivial (Hc (LR_clo (by simp [lexE];exact⟨rfl,rfl,rfl,rfl⟩))<|Hc (tF_clo _ _)<|Hc (tkRows_clo _ _)<|Ha<|Hc (tA_clo rfl rfl)<|Hc (clsA_clo _)<|Hc (tS_clo _ _)<|Hb<|Hb<|Hb<|trivial) ⟨rfl,rfl,rfl,rfl,rfl,rfl,rfl,rfl,rfl,rfl,trivial⟩),rfl,rfl⟩
  have hk5:¬ k=5000:=by have:=of_decide_eq_false hc3;omega
  have h0:okAt ds k=true:=by rw [hok,decide_eq_true he,decide_eq_false hk5];rfl
  rw [h0,if_pos rfl,hnx,kL_app]
  refine awp_skip<|Rg<|Dd (l1' Tryz.isAgg133)<|Dd (fr' fo174_0)<|Dd (ln' Tryz.isAgg137 Tryz.sizeOf137)<|Dd (by exact x_buildSlice [encTok d] rfl so133 rfl rfl rfl rfl rfl (by intro r hr;rw [List.mem_singleton] at hr;subst hr;rfl))<|Dd (by exact x_append (ps:=[encTok d]) rfl so133 ei137 rfl rfl rfl rfl rfl (tkRows_len _) rfl (by intro r hr;rw [List.mem_singleton] at hr;subst hr;rfl) (m:=1) rfl (by omega) rfl (tkRows_app (ds.take k) d))<|Uu (sa' Tryz.sizeOf133)<|Zz ?_
  exact⟨(926,tF d)::[(905,⟨(ds.take k).length+1,3,137,tkRows (ds.take k++[d])⟩),(5,bx 1 133 [.osl 905 ((ds.take k).length+1) 0 ((ds.take k).length+1)]),(924,tA),(923,tC),(921,tS s),(4,bx 1 3 [iv 0]),(3,bx 1 25 [iv 0]),(2,bx 1 133 [.pv (.sl [])])],(Ent.wk trivial (Hc (LR_clo (by simp [lexE];exact⟨rfl,rfl,rfl,rfl⟩))<|Hc (tF_clo _ _)<|Hc (tkRows_clo _ _)<|Ha<|Hc (tA_clo rfl rfl)<|Hc (clsA_clo _)<|Hc (tS_clo _ _)<|Hb<|Hb<|Hb<|trivial) ⟨rfl,rfl,rfl,rfl,rfl,rfl,rfl,rfl,rfl,rfl,trivial⟩),rfl,rfl⟩
 rcases Nat.lt_or_ge j ds.length with hlt|hge
 ·obtain ⟨f,hf⟩:=get_of_lt hlt
  have hbad:=hj3 hlt
  have hdj:ds.drop j=f::ds.drop (j+1):=by
   rw [List.drop_eq_getElem_cons hlt]
   rw [List.getElem?_eq_getElem hlt] at hf
   cases hf;rfl
  have hres:gLex s=([],(if f.err≠0 then f.err else 2),(f.pos:Int)):=by
   rw [hg,hrun,hdj,lexRun]
   split
   ·rfl
   rename_i he
   have he0:f.err=0:=by
    by_cases h:f.err=0
    ·exact h
    exact absurd h he
   rw [okAt_iff hf,decide_eq_true he0,Bool.true_and,Bool.not_eq_false',decide_eq_true_eq] at hbad
   rw [if_pos (by rw [List.length_take];omega)]
  rw [hres]
  refine(tokens2_c s (.yld 904 0) (fun k=>if k≤j then(904,LR x lexE)::kL s (ds.take k) (.pv (.sl [])) 0 0 else(904,LR (left x .ret) lexE)::kL s (ds.take j) (.pv (.sl [])) (if f.err≠0 then f.err else 2) f.pos) (okAt ds) (j+1) hs (fun k=>?_) (fun k=>?_) (fun k=>?_) (fun k=>?_) (fun k=>?_) (fun k=>?_) (by rw [← hds];exact hlt) (fun k hk=>hj2 k (by omega)) (.inr ⟨Nat.succ_pos _,by rw [Nat.add_sub_cancel];exact hbad⟩) ?_).mono ?_
  ·split<;>rfl
  ·split<;>rfl
  ·split<;>rfl
  ·split<;>rfl
  ·split
   ·exact(Closed.ofL ⟨(by exact LR_clo (by simp [lexE];exact⟨rfl,rfl,rfl,rfl⟩)),(by exact tkRows_clo _ _),(by(simp;rfl)),(by exact tA_clo rfl rfl),(by exact clsA_clo _),(by exact tS_clo _ _),(by(simp;done)),(by(simp;done)),(by(simp;done)),trivial⟩)
   exact(Closed.ofL ⟨(by exact LR_clo (by simp [lexE];exact⟨rfl,rfl,rfl,rfl⟩)),(by exact tkRows_clo _ _),(by(simp;rfl)),(by exact tA_clo rfl rfl),(by exact clsA_clo _),(by exact tS_clo _ _),(by(simp;done)),(by(simp;done)),(by(simp;done)),trivial⟩)
  ·split<;>(simp;rfl)
  ·rw [← hds]
   intro k d hd hk
   have hr:=hround k d hd (by omega)
   rw [if_pos (by omega)]
   by_cases hkj:k=j
   ·subst hkj
    rw [hf] at hd
    cases hd
    rw [hbad,if_neg (by decide)] at hr
    rw [if_neg (by omega),hbad]
    exact CallsV.congrG hr (fun j=>get_swap (by decide) j) (fun j=>get_swap (by decide) j)
   have hok:=hj2 k (by omega)
   rw [hok,if_pos rfl] at hr
   rw [if_pos (by omega),hok]
   exact CallsV.congrG hr (fun j=>get_swap (by decide) j) (fun j=>get_swap (by decide) j)
  rintro r H' ⟨rfl,rfl⟩
  rw [if_neg (by omega)]
  refine⟨left x .ret,_,rfl,by simp [left],rfl,fun z=>?_⟩
  show ARet _ _ _ _ _ _ _
  refine aret3 (H':=[]) (.inr rfl) rfl (rval_cell1 rfl Tryz.isAgg133 rfl rfl rfl rfl) (rval_cell1 rfl Tryz.isAgg25 rfl rfl rfl rfl) (rval_cell1 rfl Tryz.isAgg3 rfl rfl rfl rfl) (Fin.wk (by simp) trivial trivial) ?_
  exact⟨rfl,rfl⟩
 have hje:j=ds.length:=Nat.le_antisymm hj1 hge
 rw [hje,List.take_length,List.drop_length] at hrun
 rw [hg,hrun,lexRun]
 refine(tokens2_c s (.yld 904 0) (fun k=>(904,LR x lexE)::kL s (ds.take k) (.pv (.sl [])) 0 0) (okAt ds) ds.length hs (fun k=>rfl) (fun k=>rfl) (fun k=>rfl) (fun k=>rfl) (fun k=>(Closed.ofL ⟨(by exact LR_clo (by simp [lexE];exact⟨rfl,rfl,rfl,rfl⟩)),(by exact tkRows_clo _ _),(by(simp;rfl)),(by exact tA_clo rfl rfl),(by exact clsA_clo _),(by exact tS_clo _ _),(by(simp;done)),(by(simp;done)),(by(simp;done)),trivial⟩)) (fun k=>by simp;rfl) (by rw [← hds];exact Nat.le_refl _) (fun k hk=>hj2 k (by omega)) (.inl (by rw [← hds])) ?_).mono ?_
 ·rw [← hds]
  intro k d hd hk
  have hr:=hround k d hd (by omega)
  have hok:=hj2 k (by omega)
  rw [hok,if_pos rfl] at hr
  rw [hok]
  exact CallsV.congrG hr (fun j=>get_swap (by decide) j) (fun j=>get_swap (by decide) j)
 rintro r H' ⟨rfl,rfl⟩
 rw [List.take_length]
 refine⟨x,_,rfl,by rw [hx1];decide,rfl,fun z=>?_⟩
 rw [hx2]
 refine Sq<|Rg<|Dd (l1' Tryz.isAgg133)<|Uu (sa' Tryz.sizeOf133)<|Uu (sa' Tryz.sizeOf25)<|Uu (sa' Tryz.sizeOf3)<|Zz<|awp_ret ?_
 refine aret3 (H':=[]) (.inr rfl) rfl (rval_cell1 rfl Tryz.isAgg133 rfl rfl rfl rfl) (rval_cell1 rfl Tryz.isAgg25 rfl rfl rfl rfl) (rval_cell1 rfl Tryz.isAgg3 rfl rfl rfl rfl) (Fin.fz (r':=.tup [.pv (slToks ds),iv 0,iv 0]) (id:=905) (ob:=⟨ds.length,3,137,tkRows ds⟩) (ds.map encTok) rfl (by rw [List.map_map];rfl) (.tup rfl (fz_cons (.osl (qs:=ds.map encTok) (by rw [Nat.zero_add,List.drop_zero];exact List.take_of_length_le (Nat.le_of_eq (List.length_map encTok)))) (fz_cons (.same (by simp)) (fz_cons (.same (by simp)) fz_nil)))) rfl trivial trivial) ?_
 exact⟨rfl,rfl⟩
end
section
theorem lexRun_len:∀ (r acc:List GFound),(lexRun acc r).1.length≤acc.length+r.length
 | [],acc=>Nat.le_refl _
 | f::r,acc=>by
  rw [lexRun]
  split
  ·exact Nat.zero_le _
  split
  ·exact Nat.zero_le _
  have:=lexRun_len r (acc++[f])
  rw [List.length_append,List.length_singleton] at this
  rw [List.length_cons]
  omega
theorem lex_toks_len (s:ByteArray) (h:s.size < 1099511627776):(gLex s).1.length < 549755813888:=by
 unfold gLex
 split
 ·decide
 have h1:=lexRun_len (gToks s (s.size+1) 0) []
 have h2:=toks_len s (s.size+1) 0
 rw [List.length_nil] at h1
 omega
end
end Go.Proofs.YtlnfjkdacimblaaGreatDoor
section
namespace Go.Proofs.YtlnfjkdacimblaaGreatDoor
open Go.Abs
/-- What the three sides have for a key. -/
structure M3 where
 k:ByteArray
 b:ByteArray
 o:ByteArray
 t:ByteArray
/-! ### the objects -/
end Go.Proofs.YtlnfjkdacimblaaGreatDoor
namespace Go.Abs
end Go.Abs
namespace Go.Proofs.YtlnfjkdacimblaaGreatDoor
open Go.Abs
end Go.Proofs.YtlnfjkdacimblaaGreatDoor
end
namespace Go.Proofs.YtlnfjkdacimblaaGreatDoor
open Go.Abs
section
/-- The value of a key, and whether it is a conflict. -/
def m1 (p:M3):ByteArray×Bool:=if p.t=p.o then(p.o,false)else if p.t=p.b then(p.o,false)else if p.o=p.b then(p.t,false)else(p.b,true)
end
section
theorem asc_inj {l:List GTag} (ha:asc GTag.key l) {a b:GTag} (h1:a∈l) (h2:b∈l) (e:a.key=b.key):a=b:=by
 obtain ⟨i,hi⟩:=List.mem_iff_getElem?.1 h1
 obtain ⟨j,hj⟩:=List.mem_iff_getElem?.1 h2
 rcases Nat.lt_trichotomy i j with h|h|h
 ·have:=asc_get ha h hi hj
  rw [e,slt_irr] at this;cases this
 ·subst h
  rw [hi] at hj;exact Option.some.inj hj
 have:=asc_get ha h hj hi
 rw [e,slt_irr] at this;cases this
theorem gGet_mem {l:List GTag} {k v:ByteArray} (h:gGet l k=some v):(⟨k,v⟩:GTag)∈l:=by
 rw [gGet,Option.map_eq_some_iff] at h
 obtain ⟨t,ht,rfl⟩:=h
 have h1:=List.find?_some ht
 have h2:=List.mem_of_find?_eq_some ht
 have e:=of_decide_eq_true h1
 obtain ⟨a,b⟩:=t
 subst e
 exact h2
theorem gGet_of {l:List GTag} (ha:asc GTag.key l) {k v:ByteArray} (h:(⟨k,v⟩:GTag)∈l):gGet l k=some v:=by
 cases hf:l.find? (fun t=>decide (t.key=k))with
 | none =>
  have:=List.find?_eq_none.1 hf _ h
  simp at this
 | some t =>
  have h0:=List.find?_some hf
  have h1:t.key=k:=of_decide_eq_true h0
  have h2:=List.mem_of_find?_eq_some hf
  have:=asc_inj ha h2 h h1
  subst this
  rw [gGet,hf]
  rfl
end
section
instance decMemB (s:ByteArray) (l:List ByteArray):Decidable (s∈l):=decidable_of_iff (inB l s=true) inB_iff
def dropE (s:ByteArray):GEdit:=⟨5,s,sNil,sNil,0,0,sNil,sNil,[],zObj⟩
def putE (o:GObj):GEdit:=⟨1,sNil,sNil,sNil,0,0,sNil,sNil,[],o⟩
def moveE (s:ByteArray) (x y:Int):GEdit:=⟨2,s,sNil,sNil,x,y,sNil,sNil,[],zObj⟩
def refsE (s:ByteArray) (r:List ByteArray):GEdit:=⟨4,s,sNil,sNil,0,0,sNil,sNil,r,zObj⟩
def tagE (s k v:ByteArray):GEdit:=⟨3,s,sNil,sNil,0,0,k,v,[],zObj⟩
end
section
theorem size_list (s:ByteArray):s.data.toList.length=s.size:=by simp
theorem ba_ext {a b:ByteArray} (h:a.data.toList=b.data.toList):a=b:=by
 cases a with|mk a=>cases b with|mk b=>cases a;cases b;simp at h;rw [h]
theorem extract_list (s:ByteArray) (i j:Nat):(s.extract i j).data.toList=(s.data.toList.drop i).take (j - i):=by
 rw [ByteArray.data_extract,Array.toList_extract,List.extract_eq_take_drop]
/-! ### one word -/
/-! ### the text -/
def lineL (t:GTag):List UInt8:=t.key.data.toList++61::gQuote t.val.data.toList
def moreL (l:List GTag):List UInt8:=l.flatMap fun t=>32::lineL t
end
end Go.Proofs.YtlnfjkdacimblaaGreatDoor
namespace Go.Abs
section
/-- The pieces between the bytes c. -/
def splitC (c:UInt8):List UInt8→List (List UInt8)
 | []=>[[]]
 | b::l=>if b=c then[]::splitC c l else((b::(splitC c l).headD [])::(splitC c l).tail)
theorem splitC_pos (c:UInt8) (l:List UInt8):0 < (splitC c l).length:=by
 cases l with
 | nil=>exact Nat.zero_lt_one
 | cons b l=>rw [splitC];split<;>simp
theorem splitC_free {c:UInt8}:∀ {w:List UInt8},c∉w→splitC c w=[w]
 | [],_=>rfl
 | b::w,h=>by
  rw [List.mem_cons,not_or] at h
  rw [splitC,if_neg (fun e=>h.1 e.symm),splitC_free h.2]
  rfl
theorem splitC_app {c:UInt8} {l:List UInt8}:∀ {w:List UInt8},c∉w→splitC c (w++c::l)=w::splitC c l
 | [],_=>by rw [List.nil_append,splitC,if_pos rfl]
 | b::w,h=>by
  rw [List.mem_cons,not_or] at h
  rw [List.cons_append,splitC,if_neg (fun e=>h.1 e.symm),splitC_app h.2]
  rfl
theorem splitC_len (c:UInt8):∀ l:List UInt8,(splitC c l).length=l.count c+1
 | []=>rfl
 | b::l=>by
  have ih:=splitC_len c l
  rw [splitC]
  by_cases h:b=c
  ·rw [if_pos h,List.length_cons,ih,h,List.count_cons_self]
  rw [if_neg h,List.length_cons,List.length_tail,ih,List.count_cons_of_ne h];omega
/-- Lines: pieces that end behind each byte 10. -/
def linesC:List UInt8→List (List UInt8)
 | []=>[]
 | b::l=>if b=10 then[10]::linesC l else match linesC l with
  | []=>[[b]]
  | w::r=>(b::w)::r
theorem linesC_app {l:List UInt8}:∀ {w:List UInt8},(10:UInt8)∉w→linesC (w++10::l)=(w++[10])::linesC l
 | [],_=>by rw [List.nil_append,linesC,if_pos rfl];rfl
 | b::w,h=>by
  rw [List.mem_cons,not_or] at h
  rw [List.cons_append,linesC,if_neg (fun e=>h.1 e.symm),linesC_app h.2]
  rfl
theorem linesC_free:∀ {w:List UInt8},(10:UInt8)∉w→w≠[]→linesC w=[w]
 | [],_,h=>absurd rfl h
 | b::w,h,_=>by
  rw [List.mem_cons,not_or] at h
  rw [linesC,if_neg (fun e=>h.1 e.symm)]
  by_cases e:w=[]
  ·subst e;rfl
  rw [linesC_free h.2 e]
/-- Where the first byte c stands. -/
theorem index_free {c:UInt8}:∀ {l:List UInt8},Lib.indexByte l c = -1↔c∉l
 | []=>by simp [Lib.indexByte]
 | b::l=>by
  have ih:=index_free (c:=c) (l:=l)
  have hg:=Lib.indexByte_ge l c
  rw [Lib.indexByte]
  by_cases h:b=c
  ·subst h;simp
  simp only [beq_iff_eq,h,if_false,List.mem_cons,not_or]
  constructor
  ·intro h2
   split at h2
   ·exact⟨fun e=>h e.symm,ih.1 (by assumption)⟩
   omega
  rintro⟨_,h2⟩
  rw [ih.2 h2];rfl
theorem index_at {c:UInt8}:∀ {l:List UInt8},Lib.indexByte l c ≠ -1→∃ w r,l=w++c::r∧c∉w∧Lib.indexByte l c=(w.length:Int)
 | [],h=>absurd rfl h
 | b::l,h=>by
  by_cases e:b=c
  ·subst e
   exact⟨[],l,rfl,by simp,by simp [Lib.indexByte]⟩
  have e1:Lib.indexByte l c ≠ -1:=fun e2=>h (by rw [Lib.indexByte];simp [e,e2])
  obtain ⟨w,r,h1,h2,h3⟩:=index_at e1
  refine⟨b::w,r,by rw [h1];rfl,by rw [List.mem_cons,not_or];exact⟨fun x=>e x.symm,h2⟩,?_⟩
  rw [Lib.indexByte]
  simp only [beq_iff_eq,e,if_false,e1,h3,List.length_cons]
  rw [if_neg (by omega)]
  push_cast
  rfl
end
end Go.Abs
namespace Go.Abs
open Go.Lib
section
theorem itoa_nat (n:Int) (h:0≤n):itoa n=decDigits n.toNat:=by rw [itoa,if_neg (by omega)]
/-- A number of at most seven digits. -/
theorem digits_small:∀ {k u:Nat},u < 10 ^ k→0 < k→(decDigits u).length≤k
 | 0,_,_,h=>absurd h (Nat.lt_irrefl 0)
 | k+1,u,h,_=>by
  rw [decDigits]
  split
  ·simp
  rename_i h1
  rw [List.length_append,List.length_singleton]
  have hk:0 < k:=by
   rcases Nat.eq_zero_or_pos k with e|e
   ·subst e;omega
   exact e
  have hd:u / 10 < 10 ^ k:=by rw [Nat.pow_succ] at h;omega
  have:=digits_small hd hk
  omega
end
end Go.Abs
namespace Go.Abs
open Go.Proofs
section
/-- A number's decimal digits. -/
def itoaB (n:Int):ByteArray:=⟨(Lib.itoa n).toArray⟩
theorem itoa_c {P:Program} {ρ:Shelf.Ren} (L:LaysM.n171 P ρ) {G:Nat} (hg:(G,GV.ints .u64 Lib.pow10Tab)∈gtab) (hn:P.globalNamed "internal/strconv.uint64pow10" = some G) (n:Int) (h0 : -9223372036854775808≤n) (h1:n≤9223372036854775807) (H:Heap) :
  ACalls P (ρ.f 171) [.pv (.int .i64 n)] H (fun r H'=>r=.pv (.str (itoaB n))∧H'=H):=by
 intro I ι w vs hr hvl hv
 obtain ⟨v,rfl⟩:∃ v,vs=#[v]:=by
  match vs,hvl with
  | ⟨[v]⟩,_=>exact⟨v,rfl⟩
 have e1:=(hv 0 v _ rfl rfl).int_inv
 subst e1
 have htab:Lib.TabIs P w "internal/strconv.uint64pow10" .u64 Lib.pow10Tab:=by
  obtain ⟨_,cs,t,f,h2,h3⟩:=hr.glob _ hg
  have h3':cs=(Lib.pow10Tab.map fun z=>Value.int .u64 z).toArray:=h3
  subst h3'
  simp only [Lib.TabIs,World.var?,hn,Option.bind_some,h2]
 refine(Any.strconv_Itoa L n h0 h1 w htab).mono ?_
 rintro e w' ⟨rfl,k,os,rfl⟩
 obtain ⟨k1,k2⟩:=Rel.drawn (w':=w.drewN k) hr rfl rfl rfl rfl
 obtain ⟨m1,m2⟩:=Rel.grown os k1
 exact⟨_,_,I,ι,_,rfl,⟨rfl,rfl⟩,.pv (.str _),m1,k2.trans m2⟩
end
end Go.Abs
namespace Go.Proofs.YtlnfjkdacimblaaGreatDoor
open Go.Abs
section
/-- The text of an object, as bytes. -/
def objHead (o:GObj):List UInt8:=(gWord o.kind).data.toList++32::(o.id.data.toList++32::(if o.kind=1 then Lib.itoa o.x++32::Lib.itoa o.y else 40::(gJoinS [32] (bs o.refs)++[41])))
def objL (o:GObj):List UInt8:=objHead o++moreL o.tags
def objB (o:GObj):ByteArray:=⟨(objL o).toArray⟩
/-- The text of an object, or why it has none. -/
def gObjT (o:GObj):ByteArray×Int:=if gObj o then(if 0 < o.tags.length∧(gText o.tags).2≠0 then(sNil,(gText o.tags).2)else if 20000 < (objB o).size then(sNil,2)else(objB o,0))else(sNil,1)
/-- What Atoi makes of a word. -/
def atV (s:ByteArray):Int:=match Lib.atoiAll s.data.toList with
 | .ok v=>v
 | .range=>Lib.atoiSat s.data.toList
 | _=>0
def noF:GFound:=⟨0,sNil,0,0⟩
def pad4 (T:List GFound):List GFound:=T++List.replicate (4 - T.length) noF
def kindW (s:ByteArray):Int:=if s=gWord 5 then 5 else if s=gWord 4 then 4 else if s=gWord 3 then 3 else if s=gWord 2 then 2 else if s=gWord 1 then 1 else 0
def isClose (f:GFound):Bool:=decide (f.text=⟨#[41]⟩)&&decide (f.kind=4)
def tagsR:List GFound→List GTag
 | a::_::c::r=>⟨a.text,c.text⟩::tagsR r
 | _=>[]
/-- The object that tokens seem to be. -/
def gReadO (T:List GFound):GObj :=
 if kindW ((pad4 T).getD 0 noF).text=1 then⟨((pad4 T).getD 1 noF).text,1,atV ((pad4 T).getD 2 noF).text,atV ((pad4 T).getD 3 noF).text,[],tagsR ((pad4 T).drop 4)⟩
 else if gidx isClose (pad4 T) < 3 then zObj
 else⟨((pad4 T).getD 1 noF).text,kindW ((pad4 T).getD 0 noF).text,0,0,(((pad4 T).take (gidx isClose (pad4 T)).toNat).drop 3).map GFound.text,tagsR ((pad4 T).drop ((gidx isClose (pad4 T)).toNat+1))⟩
theorem joinS_cons (k:ByteArray) (l:List ByteArray):gJoinS [32] (bs (k::l))=k.data.toList++l.flatMap (fun k=>32::k.data.toList):=by
 rw [bs,List.map_cons,gJoinS,List.flatMap_map]
 rfl
end
section
theorem nodup_len {α:Type} [DecidableEq α]:∀ {l s:List α},l.Pairwise (fun a b=>a≠b)→(∀ x,x∈l→x∈s)→l.length≤s.length
 | [],s,_,_=>Nat.zero_le _
 | x::l,s,hp,hs=>by
  obtain ⟨h1,h2⟩:=List.pairwise_cons.1 hp
  have hx:=hs x List.mem_cons_self
  have h3:=nodup_len (s:=s.erase x) h2 (fun y hy=>(List.mem_erase_of_ne (fun e=>h1 y hy e.symm)).2 (hs y (List.mem_cons_of_mem _ hy)))
  rw [List.length_erase_of_mem hx] at h3
  have:=List.length_pos_of_mem hx
  show l.length+1≤s.length
  omega
end
section
theorem gObj_node {o:GObj} (h:gObj o=true) (hk:o.kind=1):o.refs=[]:=by
 rw [gObj,Bool.and_eq_true,Bool.and_eq_true,gKind,if_pos hk,Bool.and_eq_true,decide_eq_true_iff] at h
 exact List.eq_nil_of_length_eq_zero (by have:=h.2.2.1;omega)
/-- What an object refers to is of a lesser kind. -/
theorem ref_kind {m:List GObj} (hc:closedB m=true) {o p:GObj} (ho:o∈m) (hp:p∈m) (hs:p.id∈o.refs):(p.kind=1∧2≤o.kind)∨(p.kind=2∧4≤o.kind):=by
 have hg:=closed_gMap hc
 obtain ⟨g1,g2,_⟩:=gMap_iff.1 hg
 obtain ⟨i,hi⟩:=List.mem_iff_getElem?.1 hs
 have h:=(closed_iff.1 hc).2 o ho i _ hi
 rw [kindOf_look,mem_look g2 hp] at h
 have h:=Option.some.inj h
 have hk:=gObj_kind (g1 o ho)
 by_cases h4:4≤o.kind
 ·rw [gWanted] at h
  split at h
  ·exact .inr ⟨h,h4⟩
  exact .inl ⟨h,by omega⟩
 rw [gWanted_low (by omega)] at h
 refine .inl ⟨h,?_⟩
 by_cases h1:o.kind=1
 ·rw [gObj_node (g1 o ho) h1] at hs;cases hs
 omega
end
section
/-! ### tags -/
def tagDel (p o:GObj):List GTag:=p.tags.filter fun t=>decide (gGet o.tags t.key=none)
def inT (l:List GTag) (t:GTag):Bool:=l.any fun x=>decide (t.key=x.key)&&decide (t.val=x.val)
theorem inT_iff {l:List GTag} {t:GTag}:inT l t=true↔t∈l:=by
 rw [inT,List.any_eq_true]
 constructor
 ·rintro⟨x,hx,h⟩
  rw [Bool.and_eq_true,decide_eq_true_eq,decide_eq_true_eq] at h
  obtain ⟨k,v⟩:=t
  obtain ⟨k2,v2⟩:=x
  simp only at h
  rw [h.1,h.2]
  exact hx
 intro h
 exact⟨t,h,by simp⟩
def tagNew (p o:GObj):List GTag:=o.tags.filter fun t=>!inT p.tags t
def tagL (p o:GObj):List (ByteArray×ByteArray):=(tagDel p o).map (fun t=>(t.key,sNil))++(tagNew p o).map (fun t=>(t.key,t.val))
/-! ### layers -/
def zs (down:Bool):List Int:=if down then[2,1,0] else[0,1,2]
def layL (m:List GObj) (down:Bool):List GObj:=(zs down).flatMap fun z=>m.filter fun o=>decide (o.kind.tdiv 2=z)
theorem mem_layL {m:List GObj} {d:Bool} (hk:∀ o∈m,1≤o.kind∧o.kind≤5) {o:GObj}:o∈layL m d↔o∈m:=by
 rw [layL,List.mem_flatMap]
 constructor
 ·rintro⟨z,_,h⟩
  exact(List.mem_filter.1 h).1
 intro h
 obtain ⟨h1,h2⟩:=hk o h
 refine⟨o.kind.tdiv 2,?_,List.mem_filter.2 ⟨h,decide_eq_true rfl⟩⟩
 have h3:o.kind=1∨o.kind=2∨o.kind=3∨o.kind=4∨o.kind=5:=by omega
 rcases h3 with e|e|e|e|e<;>rw [e]<;>cases d<;>decide
theorem lay_pair {m:List GObj} (hu:ups m) {R:Int→Int→Prop} (hR:∀ z,R z z):∀ {Z:List Int},Z.Pairwise (fun a b=>a≠b∧R a b)→(Z.flatMap fun z=>m.filter fun o=>decide (o.kind.tdiv 2=z)).Pairwise (fun x y=>x.id≠y.id∧R (x.kind.tdiv 2) (y.kind.tdiv 2))
 | [],_=>List.Pairwise.nil
 | z::Z,h=>by
  rw [List.pairwise_cons] at h
  rw [List.flatMap_cons,List.pairwise_append]
  refine⟨?_,lay_pair hu hR h.2,fun x hx y hy=>?_⟩
  ·have h1:(m.filter fun o=>decide (o.kind.tdiv 2=z)).Pairwise (fun x y=>slt x.id y.id=true):=List.Pairwise.filter _ hu
   refine List.Pairwise.imp_of_mem (fun {x y} hx hy hxy=>?_) h1
   have e1:=of_decide_eq_true (List.mem_filter.1 hx).2
   have e2:=of_decide_eq_true (List.mem_filter.1 hy).2
   rw [e1,e2]
   exact⟨(fun e=>by rw [e,slt_irr] at hxy;cases hxy),hR z⟩
  obtain ⟨z2,hz2,hy2⟩:=List.mem_flatMap.1 hy
  have e1:=of_decide_eq_true (List.mem_filter.1 hx).2
  have e2:=of_decide_eq_true (List.mem_filter.1 hy2).2
  rw [e1,e2]
  obtain ⟨h3,h4⟩:=h.1 z2 hz2
  refine⟨fun e=>h3 ?_,h4⟩
  have a1:=mem_look hu (List.mem_filter.1 hx).1
  have a2:=mem_look hu (List.mem_filter.1 hy2).1
  rw [e,a2] at a1
  cases a1
  rw [← e1,← e2]
theorem lay_up {m:List GObj} (hu:ups m):(layL m false).Pairwise (fun x y=>x.id≠y.id∧x.kind.tdiv 2≤y.kind.tdiv 2):=lay_pair hu (R:=fun a b=>a≤b) (fun _=>Int.le_refl _) (Z:=[0,1,2]) (by decide)
theorem tdiv_low {p o:Int} (h:(p=1∧2≤o)∨(p=2∧4≤o)) (ho:o≤5):p.tdiv 2 < o.tdiv 2:=by
 have h3:o=2∨o=3∨o=4∨o=5:=by omega
 rcases h with⟨rfl,h⟩|⟨rfl,h⟩
 ·rcases h3 with rfl|rfl|rfl|rfl<;>decide
 rcases h3 with rfl|rfl|rfl|rfl<;>first|decide|omega
theorem ref_low {m:List GObj} (hc:closedB m=true) {o p:GObj} (ho:o∈m) (hp:p∈m) (hs:p.id∈o.refs):p.kind.tdiv 2 < o.kind.tdiv 2:=tdiv_low (ref_kind hc ho hp hs) (gObj_kind ((gMap_iff.1 (closed_gMap hc)).1 o ho)).2
/-! ### what has to be renewed -/
def direct (b:List GObj) (o:GObj):Bool:=match look b o.id with
 | some p=>!decide (p.kind=o.kind)||(decide (o.kind=5)&&!decide (o.refs=p.refs))
 | none=>false
def rnB (b:List GObj) (X:List ByteArray) (o:GObj):Bool:=direct b o||o.refs.any (inB X)
def rnL (b:List GObj):List ByteArray→List GObj→List ByteArray
 | X,[]=>X
 | X,o::L=>rnL b (if rnB b X o then X++[o.id] else X) L
def renewed (a b:List GObj):List ByteArray:=rnL b [] (layL a false)
theorem rnL_app (b:List GObj):∀ (L1 L2:List GObj) (X:List ByteArray),rnL b X (L1++L2)=rnL b (rnL b X L1) L2
 | [],_,_=>rfl
 | o::L1,L2,X=>rnL_app b L1 L2 _
theorem rnL_keep (b:List GObj):∀ (L:List GObj) {X:List ByteArray} {s:ByteArray},s∈X→s∈rnL b X L
 | [],_,_,h=>h
 | o::L,X,s,h=>rnL_keep b L (by split;exact List.mem_append_left _ h;exact h)
theorem rnL_from (b:List GObj):∀ (L:List GObj) {X:List ByteArray} {s:ByteArray},s∈rnL b X L→s∈X∨∃ o∈L,o.id=s
 | [],_,_,h=>.inl h
 | o::L,X,s,h=>by
  rcases rnL_from b L h with h1|⟨x,hx,e⟩
  ·split at h1
   ·rcases List.mem_append.1 h1 with h2|h2
    ·exact .inl h2
    exact .inr ⟨o,List.mem_cons_self,(List.mem_singleton.1 h2).symm⟩
   exact .inl h1
  exact .inr ⟨x,List.mem_cons_of_mem _ hx,e⟩
theorem renewed_sub {a b:List GObj} (hk:∀ o∈a,1≤o.kind∧o.kind≤5) {s:ByteArray} (h:s∈renewed a b):∃ o∈a,o.id=s:=by
 rcases rnL_from b _ h with h1|⟨o,ho,e⟩
 ·cases h1
 exact⟨o,(mem_layL hk).1 ho,e⟩
/-- An object is renewed if it has to be, or if one that it refers to is. -/
theorem renewed_iff {a b:List GObj} (hc:closedB a=true) {o:GObj} (ho:o∈a):o.id∈renewed a b↔direct b o=true∨∃ s∈o.refs,s∈renewed a b:=by
 obtain ⟨g1,hu,_⟩:=gMap_iff.1 (closed_gMap hc)
 have hk:∀ o∈a,1≤o.kind∧o.kind≤5:=fun o ho=>gObj_kind (g1 o ho)
 obtain ⟨L1,L2,hL⟩:=List.append_of_mem ((mem_layL (d:=false) hk).2 ho)
 have hp:=lay_up hu
 rw [hL,List.pairwise_append,List.pairwise_cons] at hp
 obtain ⟨_,⟨q1,_⟩,q2⟩:=hp
 have hX:renewed a b=rnL b (if rnB b (rnL b [] L1) o then rnL b [] L1++[o.id] else rnL b [] L1) L2:=by rw [renewed,hL,rnL_app];rfl
 have hin:∀ s,s∈o.refs→(s∈renewed a b↔s∈rnL b [] L1):=fun s hs=>by
  obtain ⟨i,hi⟩:=List.mem_iff_getElem?.1 hs
  have hr:=(closed_iff.1 hc).2 o ho i s hi
  rw [kindOf_look] at hr
  cases hl:look a s with
  | none=>rw [hl] at hr;cases hr
  | some p =>
   have hpm:=look_mem hl
   have hid:=look_id hl
   have hlow:=ref_low hc ho hpm (hid▸hs)
   have hno:∀ y∈o::L2,y.id≠s:=fun y hy e=>by
    have hym:y∈a:=(mem_layL (d:=false) hk).1 (by rw [hL];exact List.mem_append_right _ hy)
    have h1:=mem_look hu hym
    rw [e,hl] at h1
    cases h1
    rcases List.mem_cons.1 hy with e2|h2
    ·subst e2;exact absurd hlow (Int.lt_irrefl _)
    have:=(q1 _ h2).2;omega
   constructor
   ·intro h
    rw [hX] at h
    rcases rnL_from b L2 h with h1|⟨y,hy,e⟩
    ·split at h1
     ·rcases List.mem_append.1 h1 with h2|h2
      ·exact h2
      exact absurd (List.mem_singleton.1 h2).symm (hno o List.mem_cons_self)
     exact h1
    exact absurd e (hno y (List.mem_cons_of_mem _ hy))
   intro h
   rw [hX]
   refine rnL_keep b L2 ?_
   split
   ·exact List.mem_append_left _ h
   exact h
 have hself:o.id∈renewed a b↔rnB b (rnL b [] L1) o=true:=by
  rw [hX]
  constructor
  ·intro h
   by_cases hb:rnB b (rnL b [] L1) o=true
   ·exact hb
   rw [if_neg hb] at h
   rcases rnL_from b L2 h with h1|⟨y,hy,e⟩
   ·rcases rnL_from b L1 h1 with h2|⟨y,hy,e⟩
    ·cases h2
    exact absurd e (q2 y hy o List.mem_cons_self).1
   exact absurd e.symm (q1 y hy).1
  intro hb
  rw [if_pos hb]
  exact rnL_keep b L2 (List.mem_append_right _ (List.mem_singleton.2 rfl))
 rw [hself,rnB,Bool.or_eq_true,List.any_eq_true]
 refine or_congr Iff.rfl ⟨?_,?_⟩
 ·rintro⟨s,hs,h⟩
  exact⟨s,hs,(hin s hs).2 (inB_iff.1 h)⟩
 rintro⟨s,hs,h⟩
 exact⟨s,hs,inB_iff.2 ((hin s hs).1 h)⟩
end
end Go.Proofs.YtlnfjkdacimblaaGreatDoor
namespace Go.Abs
section
section
variable {P:Program} {H:Heap}
theorem ext_count (s:ByteArray) (c:Int):ExtR P Extern.BytealgCount.count H [.pv (.str s),.pv (.int .u8 c)] (.pv (.int .i64 ((Lib.countByte s.data.toList c.toNat.toUInt8:Nat):Int))):=by
 intro w I ι cs hl h
 obtain ⟨u,v,rfl,h1,h2⟩:=two_vals hl h
 rw [h1.str_inv,h2.int_inv]
 exact⟨_,Lib.run_countString s c w,.pv (.int _ _)⟩
end
end
end Go.Abs
namespace Go.Proofs.YtlnfjkdacimblaaGreatDoor
open Go.Abs
section
abbrev sSp:ByteArray:=⟨#[32]⟩
theorem slIndex_c (s:ByteArray) (H:Heap):ACalls Tryz.prog 178 [sv s,sv sSp] H (fun r H'=>r=iv (Lib.indexByte s.data.toList 32)∧H'=H):=by
 refine ACalls.pure ?_ (by simp) H
 refine Bd Tryz.func178 rfl Tryz.ntmps178<|Sq<|Rg<|Dd as'<|Zz<|Sq<|Rg<|Dd mv'<|Dd (ls' Tryz.underlying9)<|Dd as'<|Zz<|Sq<|awp_block<|Sq ?_
 refine awp_bool (t:=16) (n:=9) (X:=decide (sSp=s)) ?_ ?_
 ·all_goals refine Dd mv' ?_
  all_goals refine Dd eql' ?_
  all_goals refine Dd mv' ?_
  all_goals refine Sp 19 (fun h19=>?_) fun h19=>?_
  all_goals try contradiction
  all_goals(refine al_ond rfl rfl rfl rfl rfl rfl (by exact opd_move rfl rfl) ?_)
  all_goals(refine al_ond rfl rfl rfl rfl rfl rfl (by exact opd_move rfl rfl) ?_)
  all_goals(refine al_ond rfl rfl rfl rfl rfl rfl (by exact opd_seql rfl rfl rfl) ?_)
  all_goals refine Dd pk' ?_
  all_goals refine Dd as' ?_
  all_goals refine al_nil ?_
  all_goals(exact⟨⟨_,rfl,by rfl⟩,rfl,rfl,rfl⟩)
 refine Cn (fun hc1=>?_) fun hc1=>?_
 ·have hs:=of_decide_eq_true hc1
  subst hs
  refine Sq<|Rg<|Dd as'<|Zz<|awp_ret ?_
  refine Rt ?_
  exact⟨rfl,rfl⟩
 skip
 refine Sq<|Rg<|Dd mv'<|Dd eql'<|Dd as'<|Zz ?_
 refine Cn (fun hc2=>?_) fun hc2=>?_
 ·skip
  refine Sq<|Rg<|Dd mv'<|Dd mv'<|Dd (by exact opd_index_str rfl Tryz.underlying9 rfl rfl (by omega) (by exact Int.toNat_natCast _) (show 0 < (⟨#[32]⟩:ByteArray).size from Nat.zero_lt_one) rfl)<|Dd (by exact opr_call rfl rfl Tryz.call130 rfl (slIndexByte_c s 32 _))<|Dd as'<|Zz<|awp_ret ?_
  refine Rt ?_
  exact⟨rfl,rfl⟩
 cases hc2
theorem index_c (s:ByteArray) (H:Heap):ACalls Tryz.prog 177 [sv s,sv sSp] H (fun r H'=>r=iv (Lib.indexByte s.data.toList 32)∧H'=H):=by
 refine ACalls.pure ?_ (by simp) H
 refine Bd Tryz.func177 rfl Tryz.ntmps177<|Sq<|Rg<|Dd as'<|Zz<|Sq<|Rg<|Dd mv'<|Dd mv'<|Dd (by exact opr_call rfl rfl Tryz.call178 rfl (slIndex_c s _))<|Dd as'<|Zz<|awp_ret ?_
 refine Rt ?_
 exact⟨rfl,rfl⟩
/-- What stands ahead of the first blank, what behind it, and whether there is one. -/
def cutV (s:ByteArray):AV:=if Lib.indexByte s.data.toList 32 = -1 then .tup [sv s,sv ⟨#[]⟩,bv false] else .tup [sv (s.extract 0 (Lib.indexByte s.data.toList 32).toNat),sv (s.extract ((Lib.indexByte s.data.toList 32).toNat+1) s.size),bv true]
theorem slCut_c (s:ByteArray) (H:Heap) (hs:s.size < 1099511627776):ACalls Tryz.prog 132 [sv s,sv sSp] H (fun r H'=>r=cutV s∧H'=H):=by
 refine ACalls.pure ?_ (by simp) H
 have hI:=fun H=>slIndex_c s H
 rw [cutV]
 rcases Classical.em (Lib.indexByte s.data.toList 32 = -1)with h1|h1
 ·rw [if_pos h1]
  simp only [h1] at hI
  refine Bd Tryz.func132 rfl Tryz.ntmps132<|Sq<|Rg<|Dd as'<|Dd as'<|Dd as'<|Zz<|Sq<|Sq<|Rg<|Dd mv'<|Dd mv'<|Dd (by exact opr_call rfl rfl Tryz.call178 rfl (hI _))<|Dd as'<|Zz<|Sq<|Rg<|Dd mv'<|Dd ge'<|Zz ?_
  refine Cn (fun hc1=>?_) fun hc1=>?_
  ·cases hc1
  skip
  refine awp_skip<|Sq<|Rg<|Dd mv'<|Dd as'<|Dd as'<|Dd as'<|Zz<|awp_ret ?_
  refine aret3 (H':=[]) (.inr rfl) rfl (rval_tmp rfl) (rval_tmp rfl) (rval_tmp rfl) (Fin.wk (by simp) trivial trivial) ?_
  exact⟨rfl,rfl⟩
 rw [if_neg h1]
 obtain ⟨w,r,e1,e2,e3⟩:=index_at h1
 simp only [e3] at hI
 rw [e3,Int.toNat_natCast]
 have hl:w.length+1+r.length=s.size:=by rw [← show s.data.toList.length=s.size by simp,e1,List.length_append,List.length_cons];omega
 refine Bd Tryz.func132 rfl Tryz.ntmps132<|Sq<|Rg<|Dd as'<|Dd as'<|Dd as'<|Zz<|Sq<|Sq<|Rg<|Dd mv'<|Dd mv'<|Dd (by exact opr_call rfl rfl Tryz.call178 rfl (hI _))<|Dd as'<|Zz<|Sq<|Rg<|Dd mv'<|Dd ge'<|Zz ?_
 refine Cn (fun hc1=>?_) fun hc1=>?_
 ·skip
  refine Sq ?_
  refine awp_drawc follows ?_
  refine Cq mv'<|Cq mv'<|Cq (by exact opd_slice_str (l:=0) (h:=(w.length)) rfl Tryz.underlying9 rfl rfl rfl (by omega) (by omega) rfl)<|Cq mv'<|Cq mv'<|Cq mv'<|Cq (ls' Tryz.underlying9)<|Cq (by exact opd_add rfl rfl rfl (show IntKind.i64.wrap ((w.length:Int)+1)=((w.length+1:Nat):Int)by rw [IntKind.wrap_i64];omega))<|Cq (by exact opd_slice_str (l:=(w.length+1)) (h:=s.size) rfl Tryz.underlying9 rfl rfl rfl (by omega) (by omega) rfl)<|Cq as'<|Cq as'<|Cq as' ?_
  refine dc_nil ⟨by kernel_rfl,?_⟩
  refine awp_ret ?_
  refine aret3 (H':=[]) (.inr rfl) rfl (rval_tmp rfl) (rval_tmp rfl) (rval_tmp rfl) (Fin.wk (by simp) trivial trivial) ?_
  exact⟨rfl,rfl⟩
 have hx:=of_decide_eq_false hc1
 omega
theorem cut_c (s:ByteArray) (H:Heap) (hs:s.size < 1099511627776):ACalls Tryz.prog 80 [sv s,sv sSp] H (fun r H'=>r=cutV s∧H'=H):=by
 refine ACalls.pure ?_ (by simp) H
 have hC:=fun H=>slCut_c s H hs
 rw [cutV] at *
 rcases Classical.em (Lib.indexByte s.data.toList 32 = -1)with h1|h1
 ·simp only [cutV,if_pos h1] at hC ⊢
  refine Bd Tryz.func80 rfl Tryz.ntmps80<|Sq<|Rg<|Dd as'<|Dd as'<|Dd as'<|Zz<|Sq<|Rg<|Dd mv'<|Dd mv'<|Dd (by exact opr_call rfl rfl Tryz.call132 rfl (hC _))<|Dd ex'<|Dd ex'<|Dd ex'<|Dd as'<|Dd as'<|Dd as'<|Zz<|awp_ret ?_
  refine aret3 (H':=[]) (.inr rfl) rfl (rval_tmp rfl) (rval_tmp rfl) (rval_tmp rfl) (Fin.wk (by simp) trivial trivial) ?_
  exact⟨rfl,rfl⟩
 simp only [cutV,if_neg h1] at hC ⊢
 refine Bd Tryz.func80 rfl Tryz.ntmps80<|Sq<|Rg<|Dd as'<|Dd as'<|Dd as'<|Zz<|Sq<|Rg<|Dd mv'<|Dd mv'<|Dd (by exact opr_call rfl rfl Tryz.call132 rfl (hC _))<|Dd ex'<|Dd ex'<|Dd ex'<|Dd as'<|Dd as'<|Dd as'<|Zz<|awp_ret ?_
 refine aret3 (H':=[]) (.inr rfl) rfl (rval_tmp rfl) (rval_tmp rfl) (rval_tmp rfl) (Fin.wk (by simp) trivial trivial) ?_
 exact⟨rfl,rfl⟩
abbrev sNl:ByteArray:=⟨#[10]⟩
def endsNl (s:ByteArray):Bool:=decide ((1:Int)≤(s.size:Int))&&decide (s.extract (s.size - 1) s.size=sNl)
def trimB (s:ByteArray):ByteArray:=if endsNl s then s.extract 0 (s.size - 1)else s
theorem hasSuffix_c (s:ByteArray) (H:Heap) (hs:s.size < 1099511627776):ACalls Tryz.prog 136 [sv s,sv sNl] H (fun r H'=>r=bv (endsNl s)∧H'=H):=by
 refine ACalls.pure ?_ (by simp) H
 refine Bd Tryz.func136 rfl Tryz.ntmps136<|Sq<|Rg<|Dd as'<|Zz<|Sq ?_
 refine awp_bool (t:=4) (n:=18) (X:=endsNl s) ?_ ?_
 ·all_goals refine Dd mv' ?_
  all_goals refine Dd (ls' Tryz.underlying9) ?_
  all_goals refine Dd mv' ?_
  all_goals refine Dd (ls' Tryz.underlying9) ?_
  all_goals refine Dd ge' ?_
  all_goals refine Dd mv' ?_
  all_goals refine Sp 10 (fun h10=>?_) fun h10=>?_
  all_goals try contradiction
  all_goals first|refine Fo ?_|refine On mv' ?_
  all_goals first|refine Fo ?_|refine On mv' ?_
  all_goals first|refine Fo ?_|refine On (ls' Tryz.underlying9) ?_
  all_goals first|refine Fo ?_|refine On mv' ?_
  all_goals first|refine Fo ?_|refine On (ls' Tryz.underlying9) ?_
  all_goals first|refine Fo ?_|refine On (by exact opd_sub rfl rfl rfl (show IntKind.i64.wrap ((s.size:Int) - 1)=((s.size - 1:Nat):Int)by have h11:(1:Int)≤(s.size:Int):=of_decide_eq_true h10;rw [IntKind.wrap_i64];omega)) ?_
  all_goals first|refine Fo ?_|refine On (by exact opd_slice_str (l:=(s.size - 1)) (h:=s.size) rfl Tryz.underlying9 rfl rfl rfl (by omega) (by omega) rfl) ?_
  all_goals first|refine Fo ?_|refine On mv' ?_
  all_goals first|refine Fo ?_|refine On se' ?_
  all_goals refine Dd pk' ?_
  all_goals refine Dd as' ?_
  all_goals refine al_nil ?_
  all_goals(exact⟨⟨_,rfl,by(simp only [endsNl];rw [show decide ((1:Int)≤(s.size:Int))=_ from h10];rfl)⟩,rfl,rfl,rfl⟩)
 refine awp_ret ?_
 refine Rt ?_
 exact⟨rfl,rfl⟩
theorem slTrim_c (s:ByteArray) (H:Heap) (hs:s.size < 1099511627776):ACalls Tryz.prog 84 [sv s,sv sNl] H (fun r H'=>r=sv (trimB s)∧H'=H):=by
 refine ACalls.pure ?_ (by simp) H
 refine Bd Tryz.func84 rfl Tryz.ntmps84<|Sq<|Rg<|Dd as'<|Zz<|Sq<|Sq<|Rg<|Dd mv'<|Dd mv'<|Dd (by exact opr_call rfl rfl Tryz.call136 rfl (hasSuffix_c s _ hs))<|Zz ?_
 refine Cn (fun hc1=>?_) fun hc1=>?_
 ·have h1:1≤s.size:=by
   have h:=hc1
   rw [endsNl,Bool.and_eq_true,decide_eq_true_eq] at h
   omega
  rw [trimB,if_pos hc1]
  refine Sq<|Rg<|Dd mv'<|Dd mv'<|Dd (ls' Tryz.underlying9)<|Dd mv'<|Dd (ls' Tryz.underlying9)<|Dd (by exact opd_sub rfl rfl rfl (show IntKind.i64.wrap ((s.size:Int) - 1)=((s.size - 1:Nat):Int)by rw [IntKind.wrap_i64];omega))<|Dd (by exact opd_slice_str (l:=0) (h:=(s.size - 1)) rfl Tryz.underlying9 rfl rfl rfl (by omega) (by omega) rfl)<|Dd as'<|Zz<|awp_ret ?_
  refine Rt ?_
  exact⟨rfl,rfl⟩
 rw [trimB,if_neg (by rw [hc1];decide)]
 refine awp_skip<|Sq<|Rg<|Dd mv'<|Dd as'<|Zz<|awp_ret ?_
 refine Rt ?_
 exact⟨rfl,rfl⟩
theorem trim_c (s:ByteArray) (H:Heap) (hs:s.size < 1099511627776):ACalls Tryz.prog 39 [sv s,sv sNl] H (fun r H'=>r=sv (trimB s)∧H'=H):=by
 refine ACalls.pure ?_ (by simp) H
 refine Bd Tryz.func39 rfl Tryz.ntmps39<|Sq<|Rg<|Dd as'<|Zz<|Sq<|Rg<|Dd mv'<|Dd mv'<|Dd (by exact opr_call rfl rfl Tryz.call84 rfl (slTrim_c s _ hs))<|Dd as'<|Zz<|awp_ret ?_
 refine Rt ?_
 exact⟨rfl,rfl⟩
theorem count_c (s:ByteArray) (H:Heap):ACalls Tryz.prog 176 [sv s,sv sSp] H (fun r H'=>r=iv ((s.data.toList.count 32:Nat):Int)∧H'=H):=by
 refine ACalls.pure ?_ (by simp) H
 refine Bd Tryz.func176 rfl Tryz.ntmps176<|Sq<|Rg<|Dd as'<|Zz<|Sq<|Sq<|Rg<|Dd mv'<|Dd (ls' Tryz.underlying9)<|Dd eql'<|Zz ?_
 refine Cn (fun hc1=>?_) fun hc1=>?_
 ·cases hc1
 skip
 refine awp_skip<|Sq<|Sq<|Rg<|Dd mv'<|Dd (ls' Tryz.underlying9)<|Dd eql'<|Zz ?_
 refine Cn (fun hc2=>?_) fun hc2=>?_
 ·skip
  refine Sq<|Rg<|Dd mv'<|Dd mv'<|Dd (by exact opd_index_str rfl Tryz.underlying9 rfl rfl (by omega) (by exact Int.toNat_natCast _) (show 0 < (⟨#[32]⟩:ByteArray).size from Nat.zero_lt_one) rfl)<|Dd (by exact opd_ext rfl rfl Tryz.func227 rfl rfl rfl rfl rfl (ext_count s 32))<|Dd as'<|Zz<|awp_ret ?_
  refine Rt ?_
  exact⟨rfl,rfl⟩
 cases hc2
end
section
/-- The pieces of a text between its blanks. -/
def ofY (l:List UInt8):ByteArray:=⟨l.toArray⟩
def splitS (s:ByteArray):List ByteArray:=(splitC 32 s.data.toList).map ofY
def spRows (D:List ByteArray) (m:Nat):List (List AV):=D.map (fun e=>(encStr e).map AV.pv)++List.replicate m [sv ⟨#[]⟩]
theorem spRows_at (D:List ByteArray) (m:Nat):(spRows D (m+1))[D.length]?=some [sv ⟨#[]⟩]:=by
 rw [spRows,List.getElem?_append_right (by rw [List.length_map];exact Nat.le_refl _),List.length_map,Nat.sub_self];rfl
theorem splitS_one {s:ByteArray} (h:(splitS s).length=1):splitS s=[s]:=by
 rw [splitS,List.length_map,splitC_len] at h
 have h0:(32:UInt8)∉s.data.toList:=List.count_eq_zero.1 (by omega)
 rw [splitS,splitC_free h0]
 rfl
theorem spRows_set (D:List ByteArray) (m:Nat) (x:ByteArray):(spRows D (m+1)).set D.length [sv x]=spRows (D++[x]) m:=by
 unfold spRows
 rw [List.set_append_right _ _ (by rw [List.length_map];exact Nat.le_refl _),List.length_map,Nat.sub_self,List.map_append,List.append_assoc];rfl
theorem spRows_clo (H:Heap) (D:List ByteArray) (m:Nat):∀ r∈spRows D m,∀ a∈r,Clo H a:=by
 intro r hr a ha
 rcases List.mem_append.1 hr with hr|hr
 ·obtain ⟨d,_,rfl⟩:=List.mem_map.1 hr
  obtain ⟨p,_,rfl⟩:=List.mem_map.1 ha
  simp
 rw [List.eq_of_mem_replicate hr,List.mem_singleton] at ha
 subst ha
 simp
theorem exL (s:ByteArray) (i j:Nat):(s.extract i j).data.toList=(s.data.toList.drop i).take (j - i):=by
 rw [ByteArray.data_extract,Array.toList_extract,List.extract_eq_take_drop]
theorem eqL {a b:ByteArray} (h:a.data.toList=b.data.toList):a=b:=by
 cases a;cases b;simp_all [Array.toList_inj]
theorem ofY_at {s:ByteArray} {w r:List UInt8} (h:s.data.toList=w++32::r):s.extract 0 w.length=ofY w∧(s.extract (w.length+1) s.size).data.toList=r:=by
 have hl:s.size=w.length+1+r.length:=by
  show s.data.size=_
  rw [← Array.length_toList,h,List.length_append,List.length_cons];omega
 constructor
 ·refine eqL ?_
  rw [exL,List.drop_zero,Nat.sub_zero,h,List.take_left]
  simp [ofY]
 rw [exL,h,hl,show w++32::r=(w++[32])++r by simp,show w.length+1=(w++[(32:UInt8)]).length by simp,List.drop_left]
 exact List.take_of_length_le (by omega)
theorem finY {H1:Heap} {id g n:Nat} {ob:Ob} (ps:List (List PV)) (hH:H1.get id=some ob) (hg:ob.g=g) (hps:ob.rows=ps.map (·.map .pv)) (hn:ps.length=n):Fin [] H1 (.osl id g 0 n) [] (.pv (.sl ps)):=by
 subst hg hn
 exact Fin.fz (id:=id) (ob:=ob) ps hH hps (.osl (by rw [Nat.zero_add,List.drop_zero,List.take_length])) rfl trivial trivial
theorem genSplit_c (s0:ByteArray) (H:Heap) (hs:s0.size < 1099511627776):ACalls Tryz.prog 131 [sv s0,sv sSp,iv 0,iv (-1)] H (fun r H'=>r=.pv (slStrs (splitS s0))∧H'=H):=by
 refine ACalls.pure ?_ (by simp) H
 obtain ⟨N,hN⟩:∃ N,N=s0.data.toList.count 32:=⟨_,rfl⟩
 have hNs:N≤s0.size:=by rw [hN];exact Nat.le_trans List.count_le_length (by simp)
 have hC:=fun H=>count_c s0 H
 rw [← hN] at hC
 have hlen:(splitC 32 s0.data.toList).length=N+1:=by rw [splitC_len,hN]
 refine Bd Tryz.func131 rfl Tryz.ntmps131<|Sq<|Rg<|Dd as'<|Zz<|Sq<|Sq<|Rg<|Dd mv'<|Dd eql'<|Zz ?_
 refine Cn (fun hc1=>?_) fun hc1=>?_
 ·cases hc1
 skip
 refine awp_skip<|Sq<|Sq<|Rg<|Dd mv'<|Dd se'<|Zz ?_
 refine Cn (fun hc2=>?_) fun hc2=>?_
 ·have:=of_decide_eq_true hc2
  cases this
 skip
 refine awp_skip<|Sq<|Sq<|Rg<|Dd mv'<|Dd lss'<|Zz ?_
 refine Cn (fun hc3=>?_) fun hc3=>?_
 ·skip
  refine Rg<|Dd mv'<|Dd mv'<|Dd (by exact opr_call rfl rfl Tryz.call176 rfl (hC _))<|Dd (by exact opd_add rfl rfl rfl (show IntKind.i64.wrap ((N:Int)+1)=((N+1:Nat):Int)by rw [IntKind.wrap_i64];omega))<|Dd as'<|Zz<|Sq<|Rg<|Dd mv'<|Dd mv'<|Dd (ls' Tryz.underlying9)<|Dd (by exact opd_add rfl rfl rfl (show IntKind.i64.wrap ((s0.size:Int)+1)=((s0.size+1:Nat):Int)by rw [IntKind.wrap_i64];omega))<|Dd (by exact opd_min (r:=((N+1:Nat):Int)) rfl rfl rfl (by omega))<|Dd as'<|Zz<|Sq<|Rg<|Dd mv'<|Dd (by exact x_makeSlice (id:=31) rfl so46 ei9 zo9 rfl rfl rfl (by omega) (by omega) (by exact Int.toNat_natCast _) (by exact Int.toNat_natCast _) (by omega) rfl)<|Dd as'<|Zz<|Sq<|Rg<|Dd mv'<|Dd (by exact opd_sub rfl rfl rfl (show IntKind.i64.wrap (((N+1:Nat):Int) - 1)=(N:Int)by rw [IntKind.wrap_i64];omega))<|Dd as'<|Zz<|Sq<|Rg<|Dd as'<|Zz<|Sq<|awp_block ?_
  refine awp_loop2 (fun(D:List ByteArray) (rest:ByteArray)=>([(0,sv rest),(1,sv sSp),(2,iv 0),(3,iv (N:Int)),(8,.pv (.sl [])),(9,.osl 31 0 0 (N+1)),(10,iv (D.length:Int))],[(31,⟨0,1,9,spRows D (N+1 - D.length)⟩)])) (fun D rest=>splitS s0=D++splitS rest∧rest.size≤s0.size) (fun D rest=>N - D.length) [] s0 ⟨rfl,Nat.le_refl _⟩ ?_ ?_
  ·exact(Ent.wk (Eb<|Eb<|Eb<|Eb<|Eb<|Ea<|Eb<|trivial) (Hc (spRows_clo _ _ _)<|trivial) trivial)
  rintro D rest ⟨hD,hr⟩
  have hln:D.length+(splitS rest).length=N+1:=by
   have:=congrArg List.length hD
   rw [List.length_append,splitS,List.length_map,hlen] at this
   exact this.symm
  have hpos:0 < (splitS rest).length:=by rw [splitS,List.length_map];exact splitC_pos _ _
  obtain ⟨m,hm⟩:∃ m,N+1 - D.length=m+1:=⟨N - D.length,by omega⟩
  have hI:=fun H=>index_c rest H
  rw [hm]
  rcases Nat.lt_or_ge D.length N with hlt|hge
  ·have h1:Lib.indexByte rest.data.toList 32 ≠ -1:=fun h=>by
    have h2:=splitC_free (index_free.1 h)
    rw [splitS,h2] at hln
    have:D.length+1=N+1:=hln
    omega
   obtain ⟨w,r,e1,e2,e3⟩:=index_at h1
   obtain ⟨x1,x2⟩:=ofY_at e1
   have hl:w.length+1+r.length=rest.size:=by rw [← show rest.data.toList.length=rest.size by simp,e1,List.length_append,List.length_cons];omega
   have hsp:splitS rest=rest.extract 0 w.length::splitS (rest.extract (w.length+1) rest.size):=by
    rw [splitS,e1,splitC_app e2,List.map_cons,x1,splitS,x2]
   simp only [e3] at hI
   refine Sq<|Sq<|Rg<|Dd mv'<|Dd mv'<|Dd lss'<|Zz ?_
   refine Cn (fun hc4=>?_) fun hc4=>?_
   ·skip
    refine awp_skip<|awp_block<|Sq<|Rg<|Dd mv'<|Dd mv'<|Dd (by exact opr_call rfl rfl Tryz.call177 rfl (hI _))<|Dd as'<|Zz<|Sq<|Sq<|Rg<|Dd mv'<|Dd lss'<|Zz ?_
    refine Cn (fun hc5=>?_) fun hc5=>?_
    ·have:=of_decide_eq_true hc5
     omega
    skip
    refine awp_skip<|Sq<|Rg<|Dd mv'<|Dd mv'<|Dd mv'<|Dd mv'<|Dd mv'<|Dd (by exact opd_add rfl rfl rfl (show IntKind.i64.wrap ((w.length:Int)+0)=(w.length:Int)by rw [IntKind.wrap_i64];omega))<|Dd (by exact opd_slice_str (l:=0) (h:=w.length) rfl Tryz.underlying9 rfl rfl rfl (by omega) (by omega) rfl)<|Dd (by exact x_index_osl rfl so46 rfl rfl rfl rfl rfl (by omega) (by exact Int.toNat_natCast _) (by omega) (Nat.zero_add _))<|Uu (by exact x_store1 rfl Tryz.sizeOf9 rfl rfl rfl rfl rfl (spRows_at D m) Nat.zero_lt_one rfl (spRows_set D m _))<|Zz<|Sq<|Rg<|Dd mv'<|Dd mv'<|Dd mv'<|Dd (ls' Tryz.underlying9)<|Dd (by exact opd_add rfl rfl rfl (show IntKind.i64.wrap ((w.length:Int)+1)=((w.length+1:Nat):Int)by rw [IntKind.wrap_i64];omega))<|Dd (by exact opd_slice_str (l:=(w.length+1)) (h:=rest.size) rfl Tryz.underlying9 rfl rfl rfl (by omega) (by omega) rfl)<|Dd as'<|Zz<|Rg<|Dd mv' ?_
    refine Dd (by exact opd_add rfl rfl rfl (show IntKind.i64.wrap ((D.length:Int)+1)=((D.length+1:Nat):Int)by rw [IntKind.wrap_i64];omega))<|Dd as'<|Zz ?_
    have e5:(D++[rest.extract 0 w.length]).length=D.length+1:=by simp
    have hsz:(rest.extract (w.length+1) rest.size).size≤s0.size:=by rw [← show (rest.extract (w.length+1) rest.size).data.toList.length=(rest.extract (w.length+1) rest.size).size by simp,x2];omega
    refine⟨D++[rest.extract 0 w.length],rest.extract (w.length+1) rest.size,⟨by rw [hD,hsp,List.append_assoc];rfl,hsz⟩,by rw [e5];omega,?_⟩
    rw [e5,show N+1 - (D.length+1)=m by omega]
    exact(Ent.wk (Eb<|Eb<|Eb<|Eb<|Eb<|Ea<|Eb<|trivial) (Hc (spRows_clo _ _ _)<|trivial) trivial)
   have:=of_decide_eq_false hc4
   omega
  have hDN:D.length=N:=by omega
  have hone:splitS rest=[rest]:=splitS_one (by omega)
  have hm0:m=0:=by omega
  subst hm0
  refine Sq<|Sq<|Rg<|Dd mv'<|Dd mv'<|Dd lss'<|Zz ?_
  refine Cn (fun hc6=>?_) fun hc6=>?_
  ·skip
   have:=of_decide_eq_true hc6
   omega
  skip
  refine awp_exit<|Sq<|Rg<|Dd mv'<|Dd mv'<|Dd mv'<|Dd (by exact x_index_osl rfl so46 rfl rfl rfl rfl rfl (by omega) (by exact Int.toNat_natCast _) (by omega) (Nat.zero_add _))<|Uu (by exact x_store1 rfl Tryz.sizeOf9 rfl rfl rfl rfl rfl (spRows_at D 0) Nat.zero_lt_one rfl (spRows_set D 0 _))<|Zz<|Sq<|Rg<|Dd mv'<|Dd mv'<|Dd (by exact opd_add rfl rfl rfl (show IntKind.i64.wrap ((D.length:Int)+1)=((D.length+1:Nat):Int)by rw [IntKind.wrap_i64];omega))<|Dd (by exact x_slice_osl (l:=0) (h:=(D.length+1)) rfl so46 rfl rfl rfl rfl rfl rfl (by omega) (by omega) rfl rfl)<|Dd as'<|Zz<|awp_ret ?_
  have hps:(D++[rest]).map encStr=(splitS s0).map encStr:=by rw [hD,hone]
  refine aret1 (H':=[]) (.inr rfl) rfl (rval_tmp rfl) (finY (id:=31) ((D++[rest]).map encStr) rfl rfl (by show spRows (D++[rest]) 0=_;rw [spRows,List.replicate_zero,List.append_nil,List.map_map];rfl) (by simp)) ⟨?_,rfl⟩
  rw [slStrs,hps]
 cases hc3
theorem splitSp_c (s:ByteArray) (H:Heap) (hs:s.size < 1099511627776):ACalls Tryz.prog 79 [sv s,sv sSp] H (fun r H'=>r=.pv (slStrs (splitS s))∧H'=H):=by
 refine ACalls.pure ?_ (by simp) H
 refine Bd Tryz.func79 rfl Tryz.ntmps79<|Sq<|Rg<|Dd as'<|Zz<|Sq<|Rg<|Dd mv'<|Dd mv'<|Dd (by exact opr_call rfl rfl Tryz.call131 rfl (genSplit_c s _ hs))<|Dd as'<|Zz<|awp_ret ?_
 refine Rt ?_
 exact⟨rfl,rfl⟩
end
section
/-- The first line of a text, and what follows. -/
def lineA (t:ByteArray):ByteArray:=if Lib.indexByte t.data.toList 10 = -1 then t else t.extract 0 ((Lib.indexByte t.data.toList 10).toNat+1)
def nextA (t:ByteArray):ByteArray:=if Lib.indexByte t.data.toList 10 = -1 then⟨#[]⟩else t.extract ((Lib.indexByte t.data.toList 10).toNat+1) t.size
def restA (s:ByteArray):Nat→ByteArray
 | 0=>s
 | k+1=>nextA (restA s k)
def linesS (s:ByteArray):List ByteArray:=(linesC s.data.toList).map ofY
theorem ofY_self (s:ByteArray):ofY s.data.toList=s:=eqL (by simp [ofY])
theorem szY (s:ByteArray):s.data.toList.length=s.size:=by simp
theorem ix_at {t:ByteArray} (h:Lib.indexByte t.data.toList 10 ≠ -1):∃ w r,t.data.toList=w++10::r∧(10:UInt8)∉w∧Lib.indexByte t.data.toList 10=(w.length:Int)∧t.extract 0 (w.length+1)=ofY (w++[10])∧(t.extract (w.length+1) t.size).data.toList=r∧w.length+1+r.length=t.size:=by
 obtain ⟨w,r,e1,e2,e3⟩:=index_at h
 have hl:w.length+1+r.length=t.size:=by rw [← szY,e1,List.length_append,List.length_cons];omega
 have e4:t.data.toList=(w++[10])++r:=by rw [e1];simp
 refine⟨w,r,e1,e2,e3,eqL ?_,?_,hl⟩
 ·rw [exL,List.drop_zero,Nat.sub_zero,e4,show w.length+1=(w++[(10:UInt8)]).length by simp,List.take_left]
  simp [ofY]
 rw [exL,e4,show w.length+1=(w++[(10:UInt8)]).length by simp,List.drop_left]
 exact List.take_of_length_le (by rw [List.length_append,List.length_singleton];omega)
theorem lines_nil {t:ByteArray} (h:¬ 0 < t.size):linesS t=[]:=by
 have:t.data.toList=[]:=List.length_eq_zero_iff.1 (by rw [szY];omega)
 rw [linesS,this];rfl
theorem lines_cons {t:ByteArray} (h:0 < t.size):linesS t=lineA t::linesS (nextA t)∧(nextA t).size≤t.size:=by
 rw [lineA,nextA]
 by_cases h1:Lib.indexByte t.data.toList 10 = -1
 ·rw [if_pos h1,if_pos h1]
  refine⟨?_,Nat.zero_le _⟩
  rw [linesS,linesC_free (index_free.1 h1) (fun e=>by rw [← szY,e] at h;exact absurd h (Nat.lt_irrefl 0))]
  show [ofY t.data.toList]=_
  rw [ofY_self]
  rfl
 rw [if_neg h1,if_neg h1]
 obtain ⟨w,r,e1,e2,e3,e4,e5,e6⟩:=ix_at h1
 rw [e3,Int.toNat_natCast,e4]
 refine⟨?_,by rw [← szY,e5];omega⟩
 rw [linesS,e1,linesC_app e2,List.map_cons,linesS,e5]
theorem rest_drop (s:ByteArray):∀ k,k≤(linesS s).length→linesS (restA s k)=(linesS s).drop k∧(restA s k).size≤s.size
 | 0,_=>⟨rfl,Nat.le_refl _⟩
 | k+1,h=>by
  obtain ⟨i1,i2⟩:=rest_drop s k (Nat.le_of_succ_le h)
  have hp:0 < (restA s k).size:=by
   rcases Nat.lt_or_ge 0 (restA s k).size with h1|h1
   ·exact h1
   have h2:=lines_nil (t:=restA s k) (by omega)
   rw [h2] at i1
   have:=congrArg List.length i1
   rw [List.length_drop,List.length_nil] at this
   omega
  obtain ⟨j1,j2⟩:=lines_cons hp
  rw [j1] at i1
  refine⟨?_,Nat.le_trans j2 i2⟩
  show linesS (nextA (restA s k))=_
  have:=congrArg List.tail i1
  rw [List.tail_cons,List.tail_drop] at this
  exact this
theorem line_at {s:ByteArray} {k:Nat} (h:k < (linesS s).length):(linesS s)[k]?=some (lineA (restA s k))∧0 < (restA s k).size:=by
 obtain ⟨i1,i2⟩:=rest_drop s k (Nat.le_of_lt h)
 have hp:0 < (restA s k).size:=by
  rcases Nat.lt_or_ge 0 (restA s k).size with h1|h1
  ·exact h1
  have h2:=lines_nil (t:=restA s k) (by omega)
  rw [h2] at i1
  have:=congrArg List.length i1
  rw [List.length_drop,List.length_nil] at this
  omega
 refine⟨?_,hp⟩
 rw [(lines_cons hp).1] at i1
 have:=congrArg List.head? i1
 rw [List.head?_cons,List.head?_drop] at this
 exact this.symm
def lB (s:ByteArray):Ob:=bx 1 9 [sv s]
theorem lines_c (s:ByteArray) (H:Heap) (h1:H.get 933=none):ACalls Tryz.prog 37 [sv s] H (fun r H'=>r=.clo 77 [.ref 933 0 0 0]∧H'=(933,lB s)::H):=by
 refine Bd Tryz.func37 rfl Tryz.ntmps37<|Sq<|Rg<|Dd (by exact opd_box (id:=933) rfl rfl rfl rfl h1)<|Dd as'<|Zz<|Sq<|Rg<|Dd (by exact opd_makeFunc rfl rfl)<|Dd as'<|Zz<|awp_ret ?_
 refine aret1 (H':=((933,lB s)::H)) (.inr rfl) rfl (rval_tmp rfl) Fin.refl ?_
 exact⟨rfl,rfl⟩
theorem lines1_c (s:ByteArray) (fv:AV) (Hs:Nat→Heap) (hs:s.size < 1099511627776) (h1:∀ k,(Hs k).get 933=some (lB (restA s k)))
  (hy:∀ k,k < (linesS s).length→CallsV Tryz.prog fv [sv (lineA (restA s k))] ((933,lB (restA s (k+1)))::Hs k) (fun r H'=>r=bv true∧H'=Hs (k+1))) :
  ACalls Tryz.prog 77 [fv,.ref 933 0 0 0] (Hs 0) (fun r H'=>r=.tup []∧H'=Hs (linesS s).length):=by
 refine Bd Tryz.func77 rfl Tryz.ntmps77<|awp_block ?_
 refine awp_loop (σ:=Nat) (fun k=>([(0,fv),(1,.ref 933 0 0 0)],Hs k)) (fun k=>k≤(linesS s).length) (fun k=>(linesS s).length - k) 0 (Nat.zero_le _) ?_ ?_
 ·exact E0
 rintro k hk
 obtain ⟨i1,i2⟩:=rest_drop s k hk
 have hI:=fun H=>indexByte_c (restA s k) 10 H
 have hnx:restA s (k+1)=nextA (restA s k):=rfl
 refine Sq<|Sq<|Rg<|Dd (by exact opd_load1_ref rfl Tryz.isAgg9 rfl (h1 k) rfl rfl rfl)<|Dd (ls' Tryz.underlying9)<|Dd gt'<|Zz ?_
 refine Cn (fun hc1=>?_) fun hc1=>?_
 ·have hp:0 < (restA s k).size:=by have:=of_decide_eq_true hc1;omega
  have hlt:k < (linesS s).length:=by
   rcases Nat.lt_or_ge k (linesS s).length with h|h
   ·exact h
   rw [(lines_cons hp).1,List.drop_eq_nil_of_le h] at i1;cases i1
  have hyk:=hy k hlt
  rw [hnx,nextA,lineA] at hyk
  rcases Classical.em (Lib.indexByte (restA s k).data.toList 10 = -1)with e0|e0
  ·rw [if_pos e0,if_pos e0] at hyk
   have hI2:∀ H,ACalls Tryz.prog 78 [sv (restA s k),.pv (.int .u8 10)] H (fun r H'=>r=iv (-1)∧H'=H):=fun H=>by
    have:=hI H
    rwa [show Lib.indexByte (restA s k).data.toList ((10:Int).toNat.toUInt8) = -1 from e0] at this
   refine awp_skip<|awp_block<|Sq<|Rg<|Dd as'<|Zz<|Sq<|Sq<|Rg<|Dd (by exact opd_load1_ref rfl Tryz.isAgg9 rfl (h1 k) rfl rfl rfl)<|Dd (by exact opr_call rfl rfl Tryz.call78 rfl (hI2 _))<|Dd as'<|Zz<|Sq<|Rg<|Dd mv'<|Dd ge'<|Zz ?_
   refine Cn (fun hc2=>?_) fun hc2=>?_
   ·cases hc2
   skip
   refine Rg<|Dd (by exact opd_load1_ref rfl Tryz.isAgg9 rfl (h1 k) rfl rfl rfl)<|Dd as'<|Uu (by exact x_store_all rfl Tryz.sizeOf9 rfl rfl rfl rfl (h1 k) rfl rfl rfl)<|Zz<|Sq<|Rg<|Dd mv'<|Dd mv'<|Dd (by exact opr_callV rfl rfl rfl (hyk))<|Dd no'<|Zz ?_
   refine Cn (fun hc3=>?_) fun hc3=>?_
   ·cases hc3
   skip
   refine awp_skip ?_
   exact⟨k+1,by omega,by omega,E0⟩
  rw [if_neg e0,if_neg e0] at hyk
  obtain ⟨w,r,e1,e2,e3,e4,e5,e6⟩:=ix_at e0
  rw [e3,Int.toNat_natCast] at hyk
  have hI2:∀ H,ACalls Tryz.prog 78 [sv (restA s k),.pv (.int .u8 10)] H (fun r H'=>r=iv (w.length:Int)∧H'=H):=fun H=>by
   have:=hI H
   rwa [show Lib.indexByte (restA s k).data.toList ((10:Int).toNat.toUInt8)=(w.length:Int)from e3] at this
  refine awp_skip<|awp_block<|Sq<|Rg<|Dd as'<|Zz<|Sq<|Sq<|Rg<|Dd (by exact opd_load1_ref rfl Tryz.isAgg9 rfl (h1 k) rfl rfl rfl)<|Dd (by exact opr_call rfl rfl Tryz.call78 rfl (hI2 _))<|Dd as'<|Zz<|Sq<|Rg<|Dd mv'<|Dd ge'<|Zz ?_
  refine Cn (fun hc4=>?_) fun hc4=>?_
  ·skip
   refine awp_drawc follows ?_
   refine Cr [933] (fun H1 hH=>by exact opd_load1_ref rfl Tryz.isAgg9 rfl ((hH _ rfl).trans (h1 k)) rfl rfl rfl)<|Cr [] (fun _ _=>mv')<|Cr [] (fun H1 hH=>by exact opd_add rfl rfl rfl (show IntKind.i64.wrap ((w.length:Int)+1)=((w.length+1:Nat):Int)by rw [IntKind.wrap_i64];omega))<|Cr [] (fun H1 hH=>by exact opd_slice_str (l:=0) (h:=(w.length+1)) rfl Tryz.underlying9 rfl rfl rfl (by omega) (by omega) rfl)<|Cr [933] (fun H1 hH=>by exact opd_load1_ref rfl Tryz.isAgg9 rfl ((hH _ rfl).trans (h1 k)) rfl rfl rfl)<|Cr [] (fun _ _=>mv')<|Cr [] (fun H1 hH=>by exact opd_add rfl rfl rfl (show IntKind.i64.wrap ((w.length:Int)+1)=((w.length+1:Nat):Int)by rw [IntKind.wrap_i64];omega))<|Cr [] (fun H1 hH=>by exact opd_slice_str (l:=(w.length+1)) (h:=(restA s k).size) rfl Tryz.underlying9 rfl rfl rfl (by omega) (by omega) rfl)<|Cr [] (fun _ _=>as')<|Cp [933] (fun H1 hH=>by exact x_store_all rfl Tryz.sizeOf9 rfl rfl rfl rfl ((hH _ rfl).trans (h1 k)) rfl rfl rfl) ?_
   refine dc_nil ⟨by kernel_rfl,?_⟩
   refine Sq<|Rg<|Dd mv'<|Dd mv'<|Dd (by exact opr_callV rfl rfl rfl (hyk))<|Dd no'<|Zz ?_
   refine Cn (fun hc5=>?_) fun hc5=>?_
   ·cases hc5
   skip
   refine awp_skip ?_
   exact⟨k+1,by omega,by omega,E0⟩
  skip
  have:=of_decide_eq_false hc4
  omega
 have hn:¬ 0 < (restA s k).size:=by have:=of_decide_eq_false hc1;omega
 have hge:k=(linesS s).length:=by
  rw [lines_nil hn] at i1
  have:=congrArg List.length i1
  rw [List.length_nil,List.length_drop] at this
  omega
 subst hge
 refine awp_exit ?_
 exact aret0 (H':=Hs (linesS s).length) (.inl rfl) rfl Fin.refl ⟨rfl,rfl⟩
end
end Go.Proofs.YtlnfjkdacimblaaGreatDoor
namespace Go.Abs
section
/-- A slot's box is frozen. -/
theorem Ent.fzP {G0:Heap} {E E':Env} {H H':Heap} {id g t:Nat} {ob:Ob} (row:List PV) (ht:E.get t=some (.ref id g 0 0)) (hH:H.get id=some ob) (hg:ob.g=g) (hrow:ob.rows=[row.map .pv]) (hz:ob.sz=row.length) (h0:0 < row.length)
  (hE:∀ p∈E',p=(t,.pad [row] 0 0)∨(E.get p.1=some p.2∧Clo H' p.2)) (hno:H'.get id=none) (hs:Sub H' H) (hc:Closed H') (hk:Kept G0 H' H):Ent G0 E H E' H':=by
 intro G hG N a w hst
 obtain ⟨I,ι,hr,hs',he⟩:=hst.rel
 subst hG
 refine⟨hst.defers,hst.size,_,ι,hr.freeze hs hc hH hno,hs'.freeze hs hk hH,fun u v hu=>?_⟩
 rcases hE _ (mem_of_get hu)with e|⟨e1,e2⟩
 ·obtain ⟨rfl,rfl⟩:=Prod.mk.inj e
  obtain ⟨c,hc1,hv⟩:=he _ _ ht
  refine⟨c,hc1,?_⟩
  obtain ⟨b,cap,h1,h2⟩:=ref_ptr hv hH hg
  obtain ⟨p1,p2,⟨b',cap',cs,f1,f2,f3,f4,f5,f5',f6⟩|⟨f1,_⟩⟩:=(hr.obj id ob hH).cells (by omega)
  rotate_left
  ·rw [h1] at f1;cases f1
  rw [h1] at f1;cases f1
  have hcells:∀ (i:Nat) (r:List PV),[row][i]?=some r→∀ (k:Nat) (p:PV),r[k]?=some p→∃ u,cs[i*ob.sz+k]?=some u∧VRel w I ι H u (.pv p):=fun i r hi k p hk=>by
   cases i with
   | succ i=>simp at hi
   | zero =>
    obtain rfl:row=r:=by simpa using hi
    obtain ⟨u,q1,_,q3⟩:=f6 0 (row.map .pv) (by rw [hrow];rfl) k (.pv p) (by rw [List.getElem?_map,hk];rfl)
    exact⟨u,q1,q3⟩
  have hI:ImmPlus I ι id b:=.inr ⟨cap,h1⟩
  have hlen:∀ r∈[row],r.length=ob.sz:=fun r hr'=>by rw [List.mem_singleton] at hr';rw [hr',hz]
  have hcell:∀ (i:Nat) (r:List PV),[row][i]?=some r→∀ (k:Nat) (p:PV),r[k]?=some p→w.cell? ⟨b,0+i*ob.sz+k,none⟩=some ((cs[i*ob.sz+k]?).getD undef):=fun i r hi k p hk=>by
   obtain ⟨u,q1,_⟩:=hcells i r hi k p hk
   rw [Nat.zero_add,cell_of_row w b _ cs ob.ty (0,0) f2,q1]
   rfl
  have hrep:∀ (i:Nat) (r:List PV),[row][i]?=some r→∀ (k:Nat) (p:PV),r[k]?=some p→PRep w (ImmPlus I ι id) ((cs[i*ob.sz+k]?).getD undef) p:=fun i r hi k p hk=>by
   obtain ⟨u,q1,q2⟩:=hcells i r hi k p hk
   rw [q1]
   exact q2.pv_inv.mono (fun _ _=>rfl) (fun _ h=>.inl h)
  have hsl:PRep w (ImmPlus I ι id) (.slice (some ⟨b,0,none⟩) [row].length cap) (.sl [row]) :=
   .sl b 0 cap ob.sz [row] (fun i k=>(cs[i*ob.sz+k]?).getD undef) hI (by omega) hlen (by rw [hrow] at f5;simpa using f5) hcell hrep
  have e:c=.pointer (some ⟨b,0+0*ob.sz+0,none⟩):=by rw [h2];simp
  rw [e]
  exact .pad b 0 cap ob.sz hsl (by omega) hlen (fun i k=>(cs[i*ob.sz+k]?).getD undef) hI hcell hrep
 obtain ⟨c,hc1,hv⟩:=he _ _ e1
 exact⟨c,hc1,(hv.restrict hs e2).mono' (fun _ _=>rfl) (fun _ h=>.inl h) (fun _ o h=>⟨o,h,Nat.le_refl _,fun _=>⟨rfl,rfl,fun _=>Nat.le_refl _⟩⟩)⟩
end
end Go.Abs
namespace Go.Proofs.YtlnfjkdacimblaaGreatDoor
open Go.Abs
section
def zOf (d:Bool) (z:Nat):Int:=if d then 2 - (z:Int)else(z:Int)
theorem zs_get (d:Bool):∀ z,z < 3→(zs d)[z]?=some (zOf d z)
 | 0,_=>by cases d<;>rfl
 | 1,_=>by cases d<;>rfl
 | 2,_=>by cases d<;>rfl
theorem zs_len (d:Bool):(zs d).length=3:=by cases d<;>rfl
def inZ (d:Bool) (z:Nat) (o:GObj):Bool:=decide (o.kind.tdiv 2=zOf d z)
def layY (m:List GObj) (d:Bool) (z:Nat):List GObj:=((zs d).take z).flatMap fun z=>m.filter fun o=>decide (o.kind.tdiv 2=z)
def layK (m:List GObj) (d:Bool) (z i:Nat):Nat:=(layY m d z).length+((m.take i).filter (inZ d z)).length
theorem layY_succ (m:List GObj) (d:Bool) {z:Nat} (h:z < 3):layY m d (z+1)=layY m d z++m.filter (inZ d z):=by
 rw [layY,List.take_add_one,zs_get d z h,Option.toList_some,List.flatMap_append,layY,List.flatMap_cons,List.flatMap_nil,List.append_nil]
 rfl
theorem layY_all (m:List GObj) (d:Bool):layY m d 3=layL m d:=by
 rw [layY,List.take_of_length_le (by rw [zs_len];exact Nat.le_refl _)]
 rfl
theorem layY_pre (m:List GObj) (d:Bool):∀ n z,z+n=3→∃ r,layL m d=layY m d z++r
 | 0,z,h=>⟨[],by rw [List.append_nil,← layY_all];congr 1;omega⟩
 | n+1,z,h=>by
  obtain ⟨r,hr⟩:=layY_pre m d n (z+1) (by omega)
  exact⟨m.filter (inZ d z)++r,by rw [hr,layY_succ m d (by omega),List.append_assoc]⟩
theorem filter_at {m:List GObj} {p:GObj→Bool} {i:Nat} {o:GObj} (h:m[i]?=some o) (hp:p o=true):(m.filter p)[((m.take i).filter p).length]?=some o:=by
 have hi:=(List.getElem?_eq_some_iff.1 h).1
 have e:m=m.take i++o::m.drop (i+1):=by
  have h2:=List.take_append_drop i m
  rw [List.drop_eq_getElem_cons hi] at h2
  rw [List.getElem?_eq_getElem hi] at h
  rw [Option.some.inj h] at h2
  exact h2.symm
 have e2:m.filter p=(m.take i).filter p++o::(m.drop (i+1)).filter p:=by
  rw [e,List.filter_append,List.filter_cons_of_pos hp,← e]
 rw [e2,List.getElem?_append_right (Nat.le_refl _),Nat.sub_self]
 rfl
theorem lay_at {m:List GObj} {d:Bool} {z i:Nat} {o:GObj} (hz:z < 3) (h:m[i]?=some o) (hp:inZ d z o=true):(layL m d)[layK m d z i]?=some o:=by
 obtain ⟨r,hr⟩:=layY_pre m d (2 - z) (z+1) (by omega)
 have hf:=filter_at h hp
 have hl:=(List.getElem?_eq_some_iff.1 hf).1
 rw [hr,layY_succ m d hz,layK,List.append_assoc,List.getElem?_append_right (Nat.le_add_right _ _),Nat.add_sub_cancel_left,List.getElem?_append_left hl]
 exact hf
theorem layK_yes {m:List GObj} {d:Bool} {z i:Nat} {o:GObj} (h:m[i]?=some o) (hp:inZ d z o=true):layK m d z (i+1)=layK m d z i+1:=by
 rw [layK,List.take_add_one,h,Option.toList_some,List.filter_append,List.filter_cons_of_pos hp,List.length_append]
 show _+(_+1)=_
 rw [layK];omega
theorem layK_no {m:List GObj} {d:Bool} {z i:Nat} {o:GObj} (h:m[i]?=some o) (hp:inZ d z o=false):layK m d z (i+1)=layK m d z i:=by
 rw [layK,List.take_add_one,h,Option.toList_some,List.filter_append,List.filter_cons_of_neg (by rw [hp];decide),List.length_append]
 show _+(_+0)=_
 rw [layK];omega
theorem layK_end (m:List GObj) (d:Bool) {z:Nat} (hz:z < 3):layK m d z m.length=layK m d (z+1) 0:=by
 rw [layK,List.take_length,layK,layY_succ m d hz,List.length_append,List.take_zero]
 rfl
theorem layK_all (m:List GObj) (d:Bool):layK m d 3 0=(layL m d).length:=by
 rw [layK,layY_all,List.take_zero]
 rfl
def dB (d:Bool):Ob:=bx 1 4 [bv d]
def mB (m:List GObj):Ob:=bx 1 38 [.pv (slObjs m)]
theorem dB_clo (H:Heap) (d:Bool):∀ r∈(dB d).rows,∀ a∈r,Clo H a:=by
 intro r hr a ha
 simp only [dB,bx,List.mem_singleton] at hr
 subst hr
 rw [List.mem_singleton] at ha
 subst ha
 simp
theorem mB_clo (H:Heap) (m:List GObj):∀ r∈(mB m).rows,∀ a∈r,Clo H a:=by
 intro r hr a ha
 simp only [mB,bx,List.mem_singleton] at hr
 subst hr
 rw [List.mem_singleton] at ha
 subst ha
 simp
theorem layers_c (m:List GObj) (d:Bool) (H:Heap) (h1:H.get 931=none) (h2:H.get 932=none):ACalls Tryz.prog 53 [.agg [.pv (slObjs m)],bv d] H (fun r H'=>r=.clo 103 [.ref 932 0 0 0,.ref 931 0 0 0]∧H'=(932,dB d)::(931,mB m)::H):=by
 have h2':Heap.get ((931,mB m)::H) 932=none:=h2
 refine Bd Tryz.func53 rfl Tryz.ntmps53<|Sq<|Rg<|Dd (by exact opd_box (id:=931) rfl rfl rfl rfl h1)<|Dd (by exact opd_box (id:=932) rfl rfl rfl rfl h2')<|Dd as'<|Zz<|Sq<|Rg<|Dd (by exact opd_makeFunc rfl rfl)<|Dd as'<|Zz<|awp_ret ?_
 refine aret1 (H':=((932,dB d)::(931,mB m)::H)) (.inr rfl) rfl (rval_tmp rfl) Fin.refl ?_
 exact⟨rfl,rfl⟩
theorem kd_wrap {k:Int} (h1:1≤k) (h2:k≤5):IntKind.i64.wrap (k.tdiv 2)=k.tdiv 2:=by
 have h3:k=1∨k=2∨k=3∨k=4∨k=5:=by omega
 rcases h3 with e|e|e|e|e<;>rw [e]<;>decide
theorem sub_934 {K:Heap} {o1 o2:Ob} (h:K.get 934=none):Sub K ((934,o1)::(934,o2)::K):=fun id o e=>by
 by_cases h1:id=934
 ·subst h1;rw [h] at e;cases e
 rw [get_cons_other _ _ h1,get_cons_other _ _ h1];exact e
theorem kept_934 {G K:Heap} {o1 o2:Ob} (h:G.get 934=none):Kept G K ((934,o1)::(934,o2)::K):=fun id e=>by
 by_cases h1:id=934
 ·subst h1;rw [h] at e;cases e
 rw [get_cons_other _ _ h1,get_cons_other _ _ h1]
theorem layers1_c (m:List GObj) (d:Bool) (fv:AV) (Hs:Nat→Heap) (hm:m.length < 1099511627776) (hk:∀ o∈m,1≤o.kind∧o.kind≤5) (h1:∀ k,(Hs k).get 931=some (mB m)) (h2:∀ k,(Hs k).get 932=some (dB d)) (h3:∀ k,(Hs k).get 934=none) (hcl:∀ k,Closed (Hs k))
  (hfv:∀ k,Clo (Hs k) fv)
  (hy:∀ k o,(layL m d)[k]?=some o→CallsV Tryz.prog fv [av (encObj o)] (Hs k) (fun r H'=>r=bv true∧H'=Hs (k+1))) :
  ACalls Tryz.prog 103 [fv,.ref 932 0 0 0,.ref 931 0 0 0] (Hs 0) (fun r H'=>r=.tup []∧H'=Hs (layL m d).length):=by
 have hml:(m.map encObj).length=m.length:=List.length_map _
 refine Bd Tryz.func103 rfl Tryz.ntmps103<|Sq<|Rg<|Dd mv'<|Zz<|awp_block ?_
 refine awp_loop (σ:=Nat) (fun z=>([(0,fv),(1,.ref 932 0 0 0),(2,.ref 931 0 0 0),(7,iv (z:Int))],Hs (layK m d z 0))) (fun z=>z≤3) (fun z=>3 - z) 0 (by omega) ?_ ?_
 ·exact E0
 rintro z hz
 refine Sq<|Rg<|Dd lss'<|Zz<|Sq ?_
 refine Cn (fun hc1=>?_) fun hc1=>?_
 ·skip
  have hz3:z < 3:=by have:=of_decide_eq_true hc1;omega
  refine awp_skip<|Sq<|awp_block<|Sq<|Rg<|Dd mv'<|Dd as'<|Zz ?_
  refine awp_seq_ex (fun(_:Unit)=>([(0,fv),(1,.ref 932 0 0 0),(2,.ref 931 0 0 0),(7,iv (z:Int)),(4,iv (zOf d z))],Hs (layK m d z 0))) (fun _=>True) ?_ ?_
  ·skip
   refine Sq<|Rg<|Dd (by exact opd_load1_ref rfl Tryz.isAgg4 rfl (h2 _) rfl rfl rfl)<|Zz ?_
   refine Cn (fun hc2=>?_) fun hc2=>?_
   ·skip
    have hd:d=true:=hc2
    refine Rg<|Dd mv'<|Dd (by exact opd_sub rfl rfl rfl (show IntKind.i64.wrap (2 - (z:Int))=zOf d z by rw [IntKind.wrap_i64,zOf,if_pos hd];omega))<|Dd as'<|Zz ?_
    exact⟨(),trivial,E0⟩
   skip
   have hd:d=false:=hc2
   have e:zOf d z=(z:Int):=by rw [zOf,if_neg (by rw [hd];decide)]
   rw [e]
   refine awp_skip ?_
   exact⟨(),trivial,E0⟩
  rintro _ _
  refine Sq<|Rg<|Dd (by exact opd_field_ref rfl fo38_0 rfl (h1 _) rfl rfl)<|Dd (by exact opd_load1_ref rfl Tryz.isAgg36 rfl (h1 _) rfl rfl rfl)<|Dd (ll' Tryz.underlying36)<|Dd mv'<|Zz<|awp_block ?_
  refine awp_loop (σ:=Nat) (fun i=>([(0,fv),(1,.ref 932 0 0 0),(2,.ref 931 0 0 0),(7,iv (z:Int)),(4,iv (zOf d z)),(14,.pv (slObjs m)),(15,iv ((m.map encObj).length:Int)),(16,iv (i:Int))],Hs (layK m d z i))) (fun i=>i≤m.length) (fun i=>m.length - i) 0 (Nat.zero_le _) ?_ ?_
  ·exact E0
  rintro i hi
  refine Sq<|Rg<|Dd lss'<|Zz<|Sq ?_
  refine Cn (fun hc3=>?_) fun hc3=>?_
  ·skip
   have hlt:i < m.length:=by have:=of_decide_eq_true hc3;omega
   obtain ⟨o,ho⟩:=get_of_lt hlt
   have hio:=map_get (f:=encObj) ho
   obtain ⟨hk1,hk5⟩:=hk o (List.mem_of_getElem? ho)
   refine awp_skip<|Sq<|awp_block<|Sq<|Rg<|Dd (xp' so36)<|Dd (by exact opd_loadn_pad rfl Tryz.isAgg49 Tryz.sizeOf49 rfl (by omega) (by simp only [Zl,encTag,encObj,encStr,encEdit,encInt];rfl) rfl)<|Dd (by exact x_alloc (id:=934) rfl zo49 rfl (h3 _))<|Uu (sa' Tryz.sizeOf49)<|Zz<|Sq ?_
   refine AWp.ent (Ent.fzP (t:=6) (id:=934) (E':=[(6,.pad [encObj o] 0 0),(0,fv),(1,.ref 932 0 0 0),(2,.ref 931 0 0 0),(7,iv (z:Int)),(4,iv (zOf d z)),(14,.pv (slObjs m)),(15,iv ((m.map encObj).length:Int)),(16,iv (i:Int))]) (H':=Hs (layK m d z i)) (encObj o) rfl rfl rfl rfl rfl (Nat.zero_lt_succ _) ?_ (h3 _) (sub_934 (h3 _)) (hcl _) (kept_934 (h3 0))) ?_
   ·intro p hp
    simp only [List.mem_cons,List.not_mem_nil,or_false] at hp
    rcases hp with rfl|rfl|rfl|rfl|rfl|rfl|rfl|rfl|rfl
    ·exact .inl rfl
    ·exact .inr ⟨rfl,hfv _⟩
    ·exact .inr ⟨rfl,.ref (by rw [h2];rfl)⟩
    ·exact .inr ⟨rfl,.ref (by rw [h1];rfl)⟩
    ·exact .inr ⟨rfl,.pv _⟩
    ·exact .inr ⟨rfl,.pv _⟩
    ·exact .inr ⟨rfl,.pv _⟩
    ·exact .inr ⟨rfl,.pv _⟩
    exact .inr ⟨rfl,.pv _⟩
   skip
   cases hz:inZ d z o with
   | true =>
    have hz':decide (o.kind.tdiv 2=zOf d z)=true:=hz
    refine Rg<|Dd (fp' fo49_1)<|Dd (lp' Tryz.isAgg3 (hi:=rfl))<|Dd (by exact opd_quo rfl rfl rfl (by decide) (kd_wrap hk1 hk5))<|Dd mv'<|Dd eql'<|Dd mv' ?_
    refine al_ond rfl rfl rfl (by assumption) rfl rfl (by exact opd_move rfl rfl) ?_
    refine al_ond rfl rfl rfl (by assumption) rfl rfl (by exact opd_loadn_pad rfl Tryz.isAgg49 Tryz.sizeOf49 rfl rfl (by simp only [Zl,encTag,encObj,encStr,encEdit,encInt];rfl) rfl) ?_
    refine al_ond rfl rfl rfl (by assumption) rfl rfl (by exact opr_callV rfl rfl rfl (hy (layK m d z i) o (lay_at hz3 ho hz))) ?_
    refine al_ond rfl rfl rfl (by assumption) rfl rfl (by exact opd_not rfl rfl) ?_
    refine Dd pt'<|Zz ?_
    refine Cn (fun hc4=>?_) fun hc4=>?_
    ·skip
     cases hc4
    skip
    refine awp_skip<|Rg<|Dd ad'<|Dd mv'<|Zz ?_
    refine⟨i+1,by omega,by omega,?_⟩
    rw [layK_yes ho hz]
    exact E0
   | false =>
    have hz':decide (o.kind.tdiv 2=zOf d z)=false:=hz
    refine Rg<|Dd (fp' fo49_1)<|Dd (lp' Tryz.isAgg3 (hi:=rfl))<|Dd (by exact opd_quo rfl rfl rfl (by decide) (kd_wrap hk1 hk5))<|Dd mv'<|Dd eql'<|Dd mv' ?_
    refine al_off rfl rfl rfl (by assumption) rfl ?_
    refine al_off rfl rfl rfl (by assumption) rfl ?_
    refine al_off rfl rfl rfl (by assumption) rfl ?_
    refine al_off rfl rfl rfl (by assumption) rfl ?_
    refine Dd pf'<|Zz ?_
    refine Cn (fun hc5=>?_) fun hc5=>?_
    ·skip
     cases hc5
    skip
    refine awp_skip<|Rg<|Dd ad'<|Dd mv'<|Zz ?_
    refine⟨i+1,by omega,by omega,?_⟩
    rw [layK_no ho hz]
    exact E0
  skip
  have hge:i=m.length:=by have:=of_decide_eq_false hc3;omega
  subst hge
  rw [layK_end m d hz3]
  refine awp_exit<|Rg<|Dd ad'<|Dd mv'<|Zz ?_
  exact⟨z+1,by omega,by omega,E0⟩
 skip
 have hge:z=3:=by have:=of_decide_eq_false hc1;omega
 subst hge
 rw [← layK_all]
 refine awp_exit ?_
 exact aret0 (H':=Hs (layK m d 3 0)) (.inl rfl) rfl Fin.refl ⟨rfl,rfl⟩
end
section
def rnE:Env:=[(2,.ref 2 0 0 0),(3,.ref 3 0 0 0),(5,.ref 5 0 0 0)]
def rnB0:Ob:=bx 1 89 [.mp 10 0]
def rnH (a b:List GObj) (X:List ByteArray):Heap:=[(10,sob X),(5,bx 1 89 [.mp 10 0]),(932,dB false),(931,mB a),(3,mB b),(2,mB a)]
theorem any_range (l:List ByteArray) (q:ByteArray→Bool):(List.range l.length).any (fun k=>((l[k]?).map q).getD false)=l.any q:=by
 rw [Bool.eq_iff_iff,List.any_eq_true,List.any_eq_true]
 constructor
 ·rintro⟨k,hk,h⟩
  have hl:=List.mem_range.1 hk
  rw [List.getElem?_eq_getElem hl] at h
  exact⟨_,List.getElem_mem hl,h⟩
 rintro⟨s,hs,h⟩
 obtain ⟨k,hk⟩:=List.mem_iff_getElem?.1 hs
 exact⟨k,List.mem_range.2 (List.getElem?_eq_some_iff.1 hk).1,by rw [hk];exact h⟩
theorem containsQ (fv:AV) (l:List ByteArray) (q:ByteArray→Bool) (H:Heap) (hl:l.length < 4611686018427387904) (hf:∀ s,CallsV Tryz.prog fv [sv s] H (fun r H'=>r=bv (q s)∧H'=H)) :
  ACalls Tryz.prog 101 [.pv (slStrs l),fv] H (fun r H'=>r=bv (l.any q)∧H'=H):=by
 have h:=containsFuncS fv l (fun k=>((l[k]?).map q).getD false) (fun _=>H) hl (fun k s hs=>by rw [hs];exact hf s)
 rw [any_range] at h
 exact h
theorem renewed1_c (X:List ByteArray) (s:ByteArray) (H:Heap) (h5:H.get 5=some rnB0) (h10:H.get 10=some (sob X)):ACalls Tryz.prog 102 [sv s,.ref 5 0 0 0] H (fun r H'=>r=bv (inB X s)∧H'=H):=by
 refine Bd Tryz.func102 rfl Tryz.ntmps102<|Sq<|Rg<|Dd as'<|Zz<|Sq<|Rg<|Dd (by exact opd_load1_ref rfl Tryz.isAgg89 rfl h5 rfl rfl rfl)<|Dd mv'<|Dd (by exact x_lookup_set rfl Tryz.underlying89 Tryz.underlying9 rfl h10 rfl rfl rfl Tryz.zeroValue4 (.inl rfl))<|Dd as'<|Zz<|awp_ret ?_
 refine aret1 (H':=H) (.inr rfl) rfl (rval_tmp rfl) Fin.refl ?_
 exact⟨rfl,rfl⟩
theorem rn_take {b:List GObj} {L:List GObj} {k:Nat} {o:GObj} (h:L[k]?=some o):rnL b [] (L.take (k+1))=if rnB b (rnL b [] (L.take k)) o then rnL b [] (L.take k)++[o.id] else rnL b [] (L.take k):=by
 rw [List.take_add_one,h,Option.toList_some,rnL_app]
 rfl
theorem rn_new {a b:List GObj} (hu:ups a) {k:Nat} {o:GObj} (h:(layL a false)[k]?=some o):inB (rnL b [] ((layL a false).take k)) o.id=false:=by
 cases hb:inB (rnL b [] ((layL a false).take k)) o.id with
 | false=>rfl
 | true =>
  rcases rnL_from b _ (inB_iff.1 hb)with h1|⟨p,hp,hi⟩
  ·cases h1
  obtain ⟨j,hj⟩:=List.mem_iff_getElem?.1 hp
  have hjk:j < k:=by
   have:=(List.getElem?_eq_some_iff.1 hj).1
   rw [List.length_take] at this;omega
  rw [List.getElem?_take_of_lt hjk] at hj
  have hp2:=lay_up hu
  rw [List.pairwise_iff_getElem] at hp2
  obtain ⟨q1,q2⟩:=List.getElem?_eq_some_iff.1 hj
  obtain ⟨q3,q4⟩:=List.getElem?_eq_some_iff.1 h
  have:=(hp2 j k q1 q3 hjk).1
  rw [q2,q4] at this
  exact absurd hi this
theorem renewed_c (a b:List GObj) (ha:closedB a=true) (hal:a.length < 1099511627776) (hbl:b.length < 1099511627776) :
  ACalls Tryz.prog 52 [.agg [.pv (slObjs a)],.agg [.pv (slObjs b)]] [] (fun r H'=>r=.mp 10 0∧H'=[(10,sob (renewed a b))]):=by
 have hg:=gMap_iff.1 (closed_gMap ha)
 have hkd:∀ o∈a,1≤o.kind∧o.kind≤5:=fun o ho=>gObj_kind (hg.1 o ho)
 obtain ⟨L,hL⟩:∃ L,L=layL a false:=⟨_,rfl⟩
 refine Bd Tryz.func52 rfl Tryz.ntmps52<|Sq<|Rg<|Dd (by exact opd_box (id:=2) rfl rfl rfl rfl rfl)<|Dd (by exact opd_box (id:=3) rfl rfl rfl rfl rfl)<|Dd as'<|Zz<|Sq<|Rg<|Dd (by exact opd_makeMap (id:=10) strK rfl rfl)<|Dd (by exact x_alloc (id:=5) rfl zo89 rfl rfl)<|Uu (sa' Tryz.sizeOf89)<|Zz<|Sq<|Sq<|Rg<|Dd (by exact opd_loadn_ref rfl Tryz.isAgg38 Tryz.sizeOf38 rfl rfl rfl rfl (by simp only [Zl,encTag,encObj,encStr,encEdit,encInt];rfl) rfl)<|Dd (by exact opr_call rfl rfl Tryz.call53 rfl (layers_c a false _ rfl rfl))<|Zz<|awp_block ?_
 refine AWp.ent (E':=[(2,.ref 2 0 0 0),(3,.ref 3 0 0 0),(5,.ref 5 0 0 0),(12,.clo 103 [.ref 932 0 0 0,.ref 931 0 0 0])]) (H':=rnH a b []) (Ent.wk (Ea<|Ea<|Ea<|Ec (by(simp;exact⟨rfl,rfl⟩))<|trivial) (Hc (sobN_clo _ _)<|Ha<|Hc (dB_clo _ _)<|Hc (mB_clo _ _)<|Hc (mB_clo _ _)<|Hc (mB_clo _ _)<|trivial) trivial) ?_
 refine awp_range (id:=904) (p:=13) rnE rfl Tryz.call103 rfl rfl (by simp [rnE];exact⟨rfl,rfl,rfl⟩) ?_
 intro x hx1 hx2 hx3 hx4 hx5 hx6
 have hround:∀ k o,L[k]?=some o→CallsV Tryz.prog (.yld 904 0) [av (encObj o)] ((904,LR x rnE)::rnH a b (rnL b [] (L.take k))) (fun r H'=>r=bv true∧H'=(904,LR x rnE)::rnH a b (rnL b [] (L.take (k+1)))):=by
  intro k o ho
  have hst:=rn_take (b:=b) ho
  have hnew:inB (rnL b [] (L.take k)) o.id=false:=by rw [hL] at ho ⊢;exact rn_new hg.2.1 ho
  obtain ⟨X,hX⟩:∃ X,X=rnL b [] (L.take k):=⟨_,rfl⟩
  rw [← hX] at hst hnew ⊢
  have hoa:o∈a:=by
   have:=List.mem_of_getElem? ho
   rw [hL] at this
   exact(mem_layL hkd).1 this
  have hor:o.refs.length < 4611686018427387904:=by
   have:=(gObj_len (hg.1 o hoa)).1
   omega
  refine .inl ⟨904,0,rfl,?_⟩
  refine ycalls [(2,.ref 2 0 0 0),(3,.ref 3 0 0 0),(5,.ref 5 0 0 0),(6,.ref 6 0 0 0)] ((6,bx 6 49 ((encObj o).map .pv))::rnH a b X) hx1 hx2 hx3 hx4 hx5 hx6 rfl rfl rfl ?_ ?_
  ·skip
   refine Rg<|Dd (by exact x_alloc (id:=6) rfl zo49 rfl rfl)<|Uu (sa' Tryz.sizeOf49)<|Zz ?_
   exact(Ent.wk (Ea<|Ea<|Ea<|Ea<|trivial) (Hc (LR_clo (by simp [rnE];exact⟨rfl,rfl,rfl⟩))<|Hb<|Hc (sobN_clo _ _)<|Ha<|Hc (dB_clo _ _)<|Hc (mB_clo _ _)<|Hc (mB_clo _ _)<|Hc (mB_clo _ _)<|trivial) ⟨rfl,rfl,rfl,rfl,rfl,rfl,rfl,trivial⟩)
  skip
  rcases gidx_cases (idIs o.id) b with⟨e1,e2⟩|⟨q,p,e1,e2,e3⟩
  ·have hdir:direct b o=(false||false):=by rw [direct,show look b o.id=none from e2];rfl
   have hF:∀ H,ACalls Tryz.prog 54 [.agg [.pv (slObjs b)],sv o.id] H (fun r H'=>r=iv (-1)∧H'=H):=fun H=>by have:=find_c b o.id H (by omega);rw [e1] at this;exact this
   refine awp_block<|Sq<|Rg<|Dd (by exact opd_loadn_ref rfl Tryz.isAgg38 Tryz.sizeOf38 rfl rfl rfl rfl (by simp only [Zl,encTag,encObj,encStr,encEdit,encInt];rfl) rfl)<|Dd (fr' fo49_0)<|Dd (l1' Tryz.isAgg9)<|Dd (by exact opr_call rfl rfl Tryz.call54 rfl (hF _))<|Dd as'<|Zz<|Sq ?_
   refine awp_drawc follows ?_
   refine Cq mv'<|Cq ge'<|Cq mv'<|Ot<|Ot<|Ot<|Ot<|Ot<|Ot<|Ot<|Ot<|Ot<|Cq pk'<|Cq as' ?_
   refine dc_nil ⟨by kernel_rfl,?_⟩
   refine Sq ?_
   refine awp_drawc follows ?_
   refine Cq mv'<|Cq ge'<|Cq mv'<|Ot<|Ot<|Ot<|Cq pk'<|Cq mv'<|Ot<|Ot<|Ot<|Ot<|Ot<|Ot<|Ot<|Ot<|Ot<|Ot<|Cq pk'<|Cq as' ?_
   refine dc_nil ⟨by kernel_rfl,?_⟩
   refine Sq ?_
   refine awp_bool (t:=59) (n:=12) (X:=(false||false)||o.refs.any (inB X)) ?_ ?_
   ·all_goals refine Dd mv' ?_
    all_goals refine Dd mv' ?_
    all_goals refine Sp 51 (fun h51=>?_) fun h51=>?_
    all_goals try contradiction
    all_goals(refine al_ond rfl rfl rfl rfl rfl rfl (by exact opd_move rfl rfl) ?_)
    all_goals refine Dd pk' ?_
    all_goals refine Dd mv' ?_
    all_goals refine Sp 54 (fun h54=>?_) fun h54=>?_
    all_goals try contradiction
    all_goals(refine al_ond rfl rfl rfl rfl rfl rfl (by exact opd_field_ref rfl fo49_3 rfl rfl rfl rfl) ?_)
    all_goals(refine al_ond rfl rfl rfl rfl rfl rfl (by exact opd_load1_ref rfl Tryz.isAgg46 rfl rfl rfl rfl rfl) ?_)
    all_goals(refine al_ond rfl rfl rfl rfl rfl rfl (by exact opd_makeFunc rfl rfl) ?_)
    all_goals(refine al_ond rfl rfl rfl rfl rfl rfl (by exact opr_call rfl rfl Tryz.call101 rfl (containsQ _ o.refs (inB X) _ hor (fun s=>CallsV.clo Tryz.call102 (renewed1_c X s _ rfl rfl)))) ?_)
    all_goals refine Dd pk' ?_
    all_goals refine al_nil ?_
    all_goals(exact⟨⟨_,rfl,by rfl⟩,rfl,rfl,rfl⟩)
   refine Cn (fun hc1=>?_) fun hc1=>?_
   ·skip
    have hB:rnB b X o=true:=by rw [rnB,hdir];exact hc1
    rw [if_pos hB] at hst
    refine Rg<|Dd (l1' Tryz.isAgg89)<|Dd (fr' fo49_0)<|Dd (l1' Tryz.isAgg9)<|Uu (by exact x_put_set (.inl rfl) Tryz.underlying89 Tryz.underlying9 rfl rfl rfl rfl rfl rfl rfl)<|Zz ?_
    have hsp:sput X o.id=X++[o.id]:=by rw [sput,if_neg (by rw [hnew];decide)]
    exact⟨rnH a b (sput X o.id),(Ent.wk trivial (Hc (LR_clo (by simp [rnE];exact⟨rfl,rfl,rfl⟩))<|Hc (sobN_clo _ _)<|Ha<|Hc (dB_clo _ _)<|Hc (mB_clo _ _)<|Hc (mB_clo _ _)<|Hc (mB_clo _ _)<|trivial) ⟨rfl,rfl,rfl,rfl,rfl,rfl,rfl,trivial⟩),rfl,by rw [hst,hsp]⟩
   skip
   have hB:rnB b X o=false:=by rw [rnB,hdir];exact hc1
   rw [if_neg (by rw [hB];decide)] at hst
   refine awp_skip ?_
   exact⟨rnH a b X,(Ent.wk trivial (Hc (LR_clo (by simp [rnE];exact⟨rfl,rfl,rfl⟩))<|Hc (sobN_clo _ _)<|Ha<|Hc (dB_clo _ _)<|Hc (mB_clo _ _)<|Hc (mB_clo _ _)<|Hc (mB_clo _ _)<|trivial) ⟨rfl,rfl,rfl,rfl,rfl,rfl,rfl,trivial⟩),rfl,by rw [hst]⟩
  have hdir:direct b o=(!decide (p.kind=o.kind)||(decide (o.kind=5)&&!decide (o.refs=p.refs))):=by rw [direct,show look b o.id=some p from e3]
  have hbi:=map_get (f:=encObj) e2
  have hq:=(List.getElem?_eq_some_iff.1 e2).1
  have hF:∀ H,ACalls Tryz.prog 54 [.agg [.pv (slObjs b)],sv o.id] H (fun r H'=>r=iv (q:Int)∧H'=H):=fun H=>by have:=find_c b o.id H (by omega);rw [e1] at this;exact this
  have h0:decide ((0:Int)≤(q:Int))=true:=decide_eq_true (by omega)
  refine awp_block<|Sq<|Rg<|Dd (by exact opd_loadn_ref rfl Tryz.isAgg38 Tryz.sizeOf38 rfl rfl rfl rfl (by simp only [Zl,encTag,encObj,encStr,encEdit,encInt];rfl) rfl)<|Dd (fr' fo49_0)<|Dd (l1' Tryz.isAgg9)<|Dd (by exact opr_call rfl rfl Tryz.call54 rfl (hF _))<|Dd as'<|Zz<|Sq ?_
  refine awp_mergeR (t:=8) (n:=14) (X:=!decide (p.kind=o.kind)) ?_ ?_
  ·refine awp_drawc follows ?_
   refine Cq mv'<|Cq ge'<|Cq mv'<|Nt (fr' fo38_0)<|Nt (l1' Tryz.isAgg36)<|Nt mv'<|Nt (xp' so36)<|Nt (fp' fo49_1)<|Nt (lp' Tryz.isAgg3)<|Nt (fr' fo49_1)<|Nt (l1' Tryz.isAgg3)<|Nt ne'<|Cq pk'<|Cq as' ?_
   refine dc_nil ⟨by kernel_rfl,?_⟩
   exact⟨rfl,⟨_,rfl,by rfl⟩,rfl,rfl,rfl⟩
  refine Sq ?_
  refine awp_mergeR (t:=9) (n:=20) (X:=decide (o.kind=5)&&!decide (o.refs=p.refs)) ?_ ?_
  ·cases hg38:(decide (o.kind=5):Bool)
   ·refine awp_drawc follows ?_
    refine Cq mv'<|Cq ge'<|Cq mv'<|Nt (fr' fo49_1)<|Nt (l1' Tryz.isAgg3)<|Nt eql'<|Cq pk'<|Cq mv'<|Ot<|Ot<|Ot<|Ot<|Ot<|Ot<|Ot<|Ot<|Ot<|Ot<|Cq pf'<|Cq as' ?_
    refine dc_nil ⟨by kernel_rfl,?_⟩
    exact⟨rfl,⟨_,rfl,by rfl⟩,rfl,rfl,rfl⟩
   refine awp_drawc follows ?_
   refine Cq mv'<|Cq ge'<|Cq mv'<|Nt (fr' fo49_1)<|Nt (l1' Tryz.isAgg3)<|Nt eql'<|Cq pk'<|Cq mv'<|Nt (fr' fo49_3)<|Nt (l1' Tryz.isAgg46)<|Nt (fr' fo38_0)<|Nt (l1' Tryz.isAgg36)<|Nt mv'<|Nt (xp' so36)<|Nt (fp' fo49_3)<|Nt (lp' Tryz.isAgg46)<|Nt (by exact opr_call rfl rfl Tryz.call100 rfl (eqStrs_c o.refs p.refs _ hor))<|Nt no'<|Cq pt'<|Cq as' ?_
   refine dc_nil ⟨by kernel_rfl,?_⟩
   exact⟨rfl,⟨_,rfl,by rfl⟩,rfl,rfl,rfl⟩
  refine Sq ?_
  refine awp_bool (t:=59) (n:=12) (X:=((!decide (p.kind=o.kind))||(decide (o.kind=5)&&!decide (o.refs=p.refs)))||o.refs.any (inB X)) ?_ ?_
  ·all_goals refine Dd mv' ?_
   all_goals refine Dd mv' ?_
   all_goals refine Sp 51 (fun h51=>?_) fun h51=>?_
   all_goals try contradiction
   all_goals first|refine Fo ?_|refine On mv' ?_
   all_goals refine Dd pk' ?_
   all_goals refine Dd mv' ?_
   all_goals refine Sp 54 (fun h54=>?_) fun h54=>?_
   all_goals try contradiction
   all_goals first|refine Fo ?_|refine On (fr' fo49_3) ?_
   all_goals first|refine Fo ?_|refine On (l1' Tryz.isAgg46) ?_
   all_goals first|refine Fo ?_|refine On (by exact opd_makeFunc rfl rfl) ?_
   all_goals first|refine Fo ?_|refine On (by exact opr_call rfl rfl Tryz.call101 rfl (containsQ _ o.refs (inB X) _ hor (fun s=>CallsV.clo Tryz.call102 (renewed1_c X s _ rfl rfl)))) ?_
   all_goals refine Dd pk' ?_
   all_goals refine al_nil ?_
   all_goals(exact⟨⟨_,rfl,by(simp_all;done)⟩,rfl,rfl,rfl⟩)
  refine Cn (fun hc2=>?_) fun hc2=>?_
  ·skip
   have hB:rnB b X o=true:=by rw [rnB,hdir];exact hc2
   rw [if_pos hB] at hst
   refine Rg<|Dd (l1' Tryz.isAgg89)<|Dd (fr' fo49_0)<|Dd (l1' Tryz.isAgg9)<|Uu (by exact x_put_set (.inl rfl) Tryz.underlying89 Tryz.underlying9 rfl rfl rfl rfl rfl rfl rfl)<|Zz ?_
   have hsp:sput X o.id=X++[o.id]:=by rw [sput,if_neg (by rw [hnew];decide)]
   exact⟨rnH a b (sput X o.id),(Ent.wk trivial (Hc (LR_clo (by simp [rnE];exact⟨rfl,rfl,rfl⟩))<|Hc (sobN_clo _ _)<|Ha<|Hc (dB_clo _ _)<|Hc (mB_clo _ _)<|Hc (mB_clo _ _)<|Hc (mB_clo _ _)<|trivial) ⟨rfl,rfl,rfl,rfl,rfl,rfl,rfl,trivial⟩),rfl,by rw [hst,hsp]⟩
  skip
  have hB:rnB b X o=false:=by rw [rnB,hdir];exact hc2
  rw [if_neg (by rw [hB];decide)] at hst
  refine awp_skip ?_
  exact⟨rnH a b X,(Ent.wk trivial (Hc (LR_clo (by simp [rnE];exact⟨rfl,rfl,rfl⟩))<|Hc (sobN_clo _ _)<|Ha<|Hc (dB_clo _ _)<|Hc (mB_clo _ _)<|Hc (mB_clo _ _)<|Hc (mB_clo _ _)<|trivial) ⟨rfl,rfl,rfl,rfl,rfl,rfl,rfl,trivial⟩),rfl,by rw [hst]⟩
 refine(layers1_c a false (.yld 904 0) (fun k=>(904,LR x rnE)::rnH a b (rnL b [] (L.take k))) hal hkd (fun k=>rfl) (fun k=>rfl) (fun k=>rfl) (fun k=>(Closed.ofL ⟨(by exact LR_clo (by simp [rnE];exact⟨rfl,rfl,rfl⟩)),(by exact sobN_clo _ _),(by(simp;rfl)),(by exact dB_clo _ _),(by exact mB_clo _ _),(by exact mB_clo _ _),(by exact mB_clo _ _),trivial⟩)) (fun k=>by simp;rfl) (fun k o h=>hround k o (by rw [hL];exact h))).mono ?_
 rintro r H' ⟨rfl,rfl⟩
 refine⟨x,_,rfl,by rw [hx1];decide,rfl,fun z=>?_⟩
 rw [hx2]
 have hfin:rnL b [] (L.take (layL a false).length)=renewed a b:=by rw [hL,List.take_length];rfl
 rw [hfin]
 refine Sq<|Rg<|Dd (l1' Tryz.isAgg89)<|Dd as'<|Zz<|awp_ret ?_
 refine aret1 (H':=[(10,sob (renewed a b))]) (.inr rfl) rfl (rval_tmp rfl) (Fin.wk (by(simp;rfl)) (Hc (sobN_clo _ _)<|trivial) trivial) ?_
 exact⟨rfl,rfl⟩
end
section
def bFirst (a b:List GObj):List GObj:=(layL a true).filter fun o=>inB (renewed a b) o.id
def bLast (a b:List GObj):List GObj:=(layL a true).filter fun o=>!inB (renewed a b) o.id&&(look b o.id).isNone
def bPuts (a b:List GObj):List GObj:=(layL b false).filter fun o=>inB (renewed a b) o.id||(look a o.id).isNone
def bBoth (a b:List GObj):List (GObj×GObj):=b.filterMap fun o=>match look a o.id with
 | some p=>if inB (renewed a b) o.id then none else some (p,o)
 | none=>none
def stMove (k:GObj×GObj):List GEdit:=if k.1.x=k.2.x∧k.1.y=k.2.y then[] else[moveE k.1.id k.2.x k.2.y]
def stRefs (k:GObj×GObj):List GEdit:=if k.1.refs=k.2.refs then[] else[refsE k.1.id k.2.refs]
def stTags (k:GObj×GObj):List GEdit:=(tagL k.1 k.2).map fun p=>tagE k.1.id p.1 p.2
def betL (a b:List GObj):List GEdit:=(bFirst a b).map (fun o=>dropE o.id)++((bPuts a b).map putE++((bBoth a b).flatMap stMove++((bBoth a b).flatMap stRefs++((bBoth a b).flatMap stTags++(bLast a b).map fun o=>dropE o.id))))
/-- The edits between two maps, or why there are none. -/
def gBetween (a b:List GObj):List GEdit×Int:=if !closedB a||!closedB b then([],1)else if 200 < (betL a b).length then([],2)else(betL a b,0)
theorem mem_both {a b:List GObj} {k:GObj×GObj}:k∈bBoth a b↔k.2∈b∧look a k.2.id=some k.1∧k.2.id∉renewed a b:=by
 rw [bBoth,List.mem_filterMap]
 constructor
 ·rintro⟨o,ho,h⟩
  split at h
  ·next p hp =>
   split at h
   ·cases h
   next hx =>
   cases h
   exact⟨ho,hp,fun h=>hx (inB_iff.2 h)⟩
  cases h
 rintro⟨h1,h2,h3⟩
 refine⟨k.2,h1,?_⟩
 rw [h2]
 simp only
 rw [if_neg fun h=>h3 (inB_iff.1 h)]
section
variable {a b:List GObj}
/-- The lookups behind drops and puts. -/
def mid (a b:List GObj) (s:ByteArray):Option GObj:=if s∈renewed a b∨look a s=none then look b s else look a s
def c1 (k:GObj×GObj):GObj:=⟨k.1.id,k.1.kind,k.2.x,k.2.y,k.1.refs,k.1.tags⟩
def c2 (k:GObj×GObj):GObj:=⟨k.1.id,k.1.kind,k.2.x,k.2.y,k.2.refs,k.1.tags⟩
def c3 (k:GObj×GObj):GObj:=⟨k.1.id,k.1.kind,k.2.x,k.2.y,k.2.refs,k.2.tags⟩
end
end
end Go.Proofs.YtlnfjkdacimblaaGreatDoor
section
namespace Go.Proofs
open Go.RowKit Go.Sort Go.Shelf
def Tryz.itoaL_ren:Go.Shelf.Ren:=⟨fun|171=>68|243=>124|246=>172|283=>220|284=>221|285=>222|286=>223|129=>201|317=>248|318=>249|319=>250|320=>251|337=>261|338=>262|n=>n,fun|3=>3|9=>9|2=>2|4=>4|171=>250|0=>0|53=>235|37=>52|5=>5|173=>252|212=>272|51=>233|20=>20|213=>273|46=>186|232=>294|233=>295|n=>n,fun|17=>1|18=>6|19=>7|n=>n⟩
theorem Tryz.itoaL:Go.Proofs.LaysM.n171 Tryz.prog Tryz.itoaL_ren:={
  mixed:=by kernel_rfl
  f129:=Tryz.func201.trans (congrArg some (by kernel_rfl))
  f171:=Tryz.func68.trans (congrArg some (by kernel_rfl))
  f243:=Tryz.func124.trans (congrArg some (by kernel_rfl))
  f246:=Tryz.func172.trans (congrArg some (by kernel_rfl))
  f283:=Tryz.func220.trans (congrArg some (by kernel_rfl))
  f284:=Tryz.func221.trans (congrArg some (by kernel_rfl))
  f285:=Tryz.func222.trans (congrArg some (by kernel_rfl))
  f286:=Tryz.func223.trans (congrArg some (by kernel_rfl))
  f317:=Tryz.func248.trans (congrArg some (by kernel_rfl))
  f318:=Tryz.func249.trans (congrArg some (by kernel_rfl))
  f319:=Tryz.func250.trans (congrArg some (by kernel_rfl))
  f320:=Tryz.func251.trans (congrArg some (by kernel_rfl))
  f337:=Tryz.func261.trans (congrArg some (by kernel_rfl))
  f338:=Tryz.func262.trans (congrArg some (by kernel_rfl))
  t0:=Tryz.underlying0
  a0:=Tryz.isAgg0
  z0:=Tryz.sizeOf0
  v0:=Tryz.zeroValue0
  t2:=Tryz.underlying2
  a2:=Tryz.isAgg2
  z2:=Tryz.sizeOf2
  v2:=Tryz.zeroValue2
  t3:=Tryz.underlying3
  a3:=Tryz.isAgg3
  z3:=Tryz.sizeOf3
  v3:=Tryz.zeroValue3
  t4:=Tryz.underlying4
  a4:=Tryz.isAgg4
  z4:=Tryz.sizeOf4
  v4:=Tryz.zeroValue4
  t5:=Tryz.underlying5
  a5:=Tryz.isAgg5
  z5:=Tryz.sizeOf5
  v5:=Tryz.zeroValue5
  t9:=Tryz.underlying9
  a9:=Tryz.isAgg9
  z9:=Tryz.sizeOf9
  v9:=Tryz.zeroValue9
  t20:=Tryz.underlying20
  a20:=Tryz.isAgg20
  z20:=Tryz.sizeOf20
  v20:=Tryz.zeroValue20
  t37:=Tryz.underlying52
  a37:=Tryz.isAgg52
  z37:=Tryz.sizeOf52
  v37:=Tryz.zeroValue52
  t46:=Tryz.underlying186
  a46:=Tryz.isAgg186
  z46:=Tryz.sizeOf186
  v46:=Tryz.zeroValue186
  t51:=Tryz.underlying233
  a51:=Tryz.isAgg233
  z51:=Tryz.sizeOf233
  v51:=Tryz.zeroValue233
  t53:=Tryz.underlying235
  a53:=Tryz.isAgg235
  z53:=Tryz.sizeOf235
  v53:=Tryz.zeroValue235
  t171:=Tryz.underlying250
  a171:=Tryz.isAgg250
  z171:=Tryz.sizeOf250
  v171:=Tryz.zeroValue250
  t173:=Tryz.underlying252
  a173:=Tryz.isAgg252
  z173:=Tryz.sizeOf252
  v173:=Tryz.zeroValue252
  t212:=Tryz.underlying272
  a212:=Tryz.isAgg272
  z212:=Tryz.sizeOf272
  v212:=Tryz.zeroValue272
  t213:=Tryz.underlying273
  a213:=Tryz.isAgg273
  z213:=Tryz.sizeOf273
  t232:=Tryz.underlying294
  a232:=Tryz.isAgg294
  z232:=Tryz.sizeOf294
  v232:=Tryz.zeroValue294
  t233:=Tryz.underlying295
  a233:=Tryz.isAgg295
  z233:=Tryz.sizeOf295
  v233:=Tryz.zeroValue295
  g17:=by kernel_rfl
  g18:=by kernel_rfl
  g19:=by kernel_rfl
  i0:=by kernel_rfl
  i2:=by kernel_rfl
  i3:=by kernel_rfl
  i4:=by kernel_rfl
  i5:=by kernel_rfl
  i9:=by kernel_rfl
  i20:=by kernel_rfl
  i37:=by kernel_rfl
  i46:=by kernel_rfl
  i51:=by kernel_rfl
  i53:=by kernel_rfl
  i171:=by kernel_rfl
  i173:=by kernel_rfl
  i212:=by kernel_rfl
  i232:=by kernel_rfl
  i233:=by kernel_rfl
  m17:=by kernel_rfl
  m18:=by kernel_rfl
  m19:=by kernel_rfl}
end Go.Proofs
namespace Go.Proofs.YtlnfjkdacimblaaGreatDoor
open Go.Abs
theorem itoa_cT (n:Int) (h0 : -9223372036854775808≤n) (h1:n≤9223372036854775807) (H:Heap):ACalls Tryz.prog 68 [iv n] H (fun r H'=>r=sv (itoaB n)∧H'=H) :=
 Go.Abs.itoa_c Tryz.itoaL (G:=1) (by unfold gtab;exact .head _) (by kernel_rfl) n h0 h1 H
end Go.Proofs.YtlnfjkdacimblaaGreatDoor
end
namespace Go.Proofs.YtlnfjkdacimblaaGreatDoor
open Go.Abs
section
def ofL (l:List UInt8):ByteArray:=⟨l.toArray⟩
theorem ofL_list (l:List UInt8):(ofL l).data.toList=l:=by simp [ofL]
theorem ofL_of (s:ByteArray):ofL s.data.toList=s:=ba_ext (ofL_list _)
theorem ofL_size (l:List UInt8):(ofL l).size=l.length:=by rw [← size_list,ofL_list]
/-- What object.Parse makes of a text. -/
def gParseO (s:ByteArray):GObj×Int:=if 20000 < s.size then(zObj,2)else if(gLex s).2.1=0∧gObjT (gReadO (gLex s).1)=(s,0)then(gReadO (gLex s).1,0)else(zObj,5)
/-! ### lines -/
def wPut:List UInt8:=[112,117,116]
def wMove:List UInt8:=[109,111,118,101]
def wTag:List UInt8:=[116,97,103]
def wRefs:List UInt8:=[114,101,102,115]
def wDrop:List UInt8:=[100,114,111,112]
def wSplit:List UInt8:=[115,112,108,105,116]
def wJoin:List UInt8:=[106,111,105,110]
/-- The words of the line of an edit that puts no object. -/
def lineW (e:GEdit):List (List UInt8) :=
 if e.op=2 then[wMove,e.id.data.toList,Lib.itoa e.x,Lib.itoa e.y] else if e.op=3 then[wTag,e.id.data.toList,e.key.data.toList,gQuote e.val.data.toList]
 else if e.op=4 then wRefs::e.id.data.toList::bs e.refs else if e.op=5 then[wDrop,e.id.data.toList]
 else if e.op=6 then[wSplit,e.id.data.toList,e.node.data.toList,e.other.data.toList] else[wJoin,e.id.data.toList,e.other.data.toList]
def lineY (e:GEdit):List UInt8:=if e.op=1 then wPut++32::(gObjT e.obj).1.data.toList else gJoinS [32] (lineW e)
def lineErr (e:GEdit):Int:=if e.op=1 then(gObjT e.obj).2 else 0
def textF:List UInt8→List GEdit→List UInt8×Int
 | acc,[]=>(acc,0)
 | acc,e::r=>if lineErr e≠0∨20000 < (acc++(lineY e++[10])).length then([],2)else textF (acc++(lineY e++[10])) r
/-- The text of a change set, or why it has none. -/
def gTextC (l:List GEdit):ByteArray×Int:=if gChange l then(ofL (textF [] l).1,(textF [] l).2)else(sNil,1)
def numV (s:List UInt8):Int:=match Lib.atoiAll s with
 | .ok v=>v
 | _ => -1
def eNone:GEdit:=⟨0,sNil,sNil,sNil,0,0,sNil,sNil,[],zObj⟩
/-- The edit that the words of a line seem to be. -/
def readW (w:List (List UInt8)) (word rest:List UInt8):GEdit :=
 if word=wPut then⟨1,sNil,sNil,sNil,0,0,sNil,sNil,[],(gParseO (ofL rest)).1⟩
 else if word=wMove∧w.length=4 then⟨2,ofL (w.getD 1 []),sNil,sNil,numV (w.getD 2 []),numV (w.getD 3 []),sNil,sNil,[],zObj⟩
 else if word=wTag∧3 < w.length then(match (gLex (ofL (gJoinS [32] (w.drop 3)))).1 with
  | [f]=>⟨3,ofL (w.getD 1 []),sNil,sNil,0,0,ofL (w.getD 2 []),f.text,[],zObj⟩
  | _=>eNone)
 else if word=wRefs∧1 < w.length then⟨4,ofL (w.getD 1 []),sNil,sNil,0,0,sNil,sNil,(w.drop 2).map ofL,zObj⟩
 else if word=wDrop∧w.length=2 then⟨5,ofL (w.getD 1 []),sNil,sNil,0,0,sNil,sNil,[],zObj⟩
 else if word=wSplit∧w.length=4 then⟨6,ofL (w.getD 1 []),ofL (w.getD 3 []),ofL (w.getD 2 []),0,0,sNil,sNil,[],zObj⟩
 else if word=wJoin∧w.length=3 then⟨7,ofL (w.getD 1 []),ofL (w.getD 2 []),sNil,0,0,sNil,sNil,[],zObj⟩
 else eNone
def gReadE (s:List UInt8):GEdit:=readW (splitC 32 s) ((splitC 32 s).headD []) (s.drop (((splitC 32 s).headD []).length+1))
/-- The change set of a text. -/
def gParseC (t:ByteArray):List GEdit×Int :=
 if 20000 < t.size then([],2)else if gTextC ((linesC t.data.toList).map fun s=>gReadE (Lib.trimSuffix s [10]))=(t,0)then((linesC t.data.toList).map fun s=>gReadE (Lib.trimSuffix s [10]),0)else([],5)
/-! ### no blank, no end of a line -/
end
section
theorem flat_size:∀ l:List ByteArray,(l.flatMap fun k=>32::k.data.toList).length=l.length+sizes l
 | []=>rfl
 | k::l=>by
  have ih:=flat_size l
  rw [List.flatMap_cons,List.length_append,List.length_cons,List.length_cons,ih,size_list,sizes,sizes,List.map_cons,List.sum_cons]
  omega
theorem join_size (l:List ByteArray):(gJoinS [32] (bs l)).length≤l.length+sizes l:=by
 cases l with
 | nil=>exact Nat.zero_le _
 | cons k l =>
  rw [joinS_cons,List.length_append,flat_size,size_list,List.length_cons,sizes,sizes,List.map_cons,List.sum_cons]
  omega
end
section
theorem trim_nlB (w:List UInt8):Lib.trimSuffix (w++[10]) [10]=w:=by
 rw [Lib.trimSuffix,Lib.hasSuffix,if_pos (List.isSuffixOf_iff_suffix.2 ⟨w,rfl⟩)]
 simp
theorem trimB_eq (s:ByteArray):trimB s=ofL (Lib.trimSuffix s.data.toList [10]):=by
 have hz:=szY s
 rw [trimB]
 cases h:endsNl s with
 | true =>
  rw [endsNl,Bool.and_eq_true,decide_eq_true_eq,decide_eq_true_eq] at h
  obtain ⟨h1,h2⟩:=h
  have h3:s.data.toList.drop (s.size - 1)=[10]:=by
   have:=congrArg (fun x=>x.data.toList) h2
   rw [exL] at this
   refine Eq.trans ?_ (show sNl.data.toList=[10] from rfl)
   rw [← this]
   exact(List.take_of_length_le (by rw [List.length_drop];omega)).symm
  have h4:s.data.toList=s.data.toList.take (s.size - 1)++[10]:=by rw [← h3,List.take_append_drop]
  refine eqL ?_
  rw [if_pos rfl,exL,ofL_list,h4,trim_nlB,List.drop_zero,Nat.sub_zero,← h4]
 | false =>
  rw [if_neg (by decide),Lib.trimSuffix,if_neg,ofL_of]
  intro hp
  obtain ⟨w,hw⟩:=List.isSuffixOf_iff_suffix.1 (show ([10]:List UInt8).isSuffixOf s.data.toList=true from hp)
  have hl:s.size=w.length+1:=by rw [← hz,← hw,List.length_append,List.length_singleton]
  have:endsNl s=true:=by
   rw [endsNl,Bool.and_eq_true,decide_eq_true_eq,decide_eq_true_eq]
   refine⟨by omega,eqL ?_⟩
   rw [exL,← hw,show s.size - 1=w.length by omega,List.drop_left]
   exact List.take_of_length_le (by rw [List.length_singleton];omega)
  rw [h] at this
  cases this
theorem cutV_eq (s:ByteArray):∃ b,cutV s=.tup [sv (ofL ((splitC 32 s.data.toList).headD [])),sv (ofL (s.data.toList.drop (((splitC 32 s.data.toList).headD []).length+1))),bv b]:=by
 rw [cutV]
 by_cases h:Lib.indexByte s.data.toList 32 = -1
 ·refine⟨false,?_⟩
  rw [if_pos h,splitC_free (index_free.1 h),List.headD_cons,List.drop_eq_nil_of_le (Nat.le_succ _),ofL_of]
  rfl
 obtain ⟨w,r,e1,e2,e3⟩:=index_at h
 refine⟨true,?_⟩
 obtain ⟨a1,a2⟩:=ofY_at e1
 have hd:s.data.toList.drop (w.length+1)=r:=by
  rw [e1,show w++32::r=(w++[32])++r by simp,show w.length+1=(w++[(32:UInt8)]).length by simp,List.drop_left]
 have hsp:(splitC 32 s.data.toList).headD []=w:=by rw [e1,splitC_app e2];rfl
 rw [if_neg h,hsp,hd,e3,Int.toNat_natCast,a1,show s.extract (w.length+1) s.size=ofL r from eqL (by rw [a2,ofL_list])]
 rfl
theorem split_get (s:ByteArray) (i:Nat) (h:i < (splitS s).length):(splitS s)[i]?=some (ofL ((splitC 32 s.data.toList).getD i [])):=by
 rw [splitS,List.length_map] at h
 rw [splitS,List.getElem?_map,List.getElem?_eq_getElem h,List.getD_eq_getElem?_getD,List.getElem?_eq_getElem h]
 rfl
theorem split_len (s:ByteArray):(splitS s).length=(splitC 32 s.data.toList).length:=List.length_map _
theorem ofL_eq {a b:List UInt8}:ofL a=ofL b↔a=b:=⟨fun h=>by rw [← ofL_list a,h,ofL_list],fun h=>by rw [h]⟩
end
section
theorem encStr_rl (l:List ByteArray):∀ r∈l.map encStr,r.length=1:=fun r hr=>by
 obtain ⟨s,_,rfl⟩:=List.mem_map.1 hr
 rfl
theorem sizes_cons (s:ByteArray) (l:List ByteArray):sizes (s::l)=s.size+sizes l:=by rw [sizes,sizes,List.map_cons,List.sum_cons]
theorem join_out {e:GEdit} {ws:List ByteArray} (h1:e.op≠1) (h:bs ws=lineW e):(⟨(gJoinS [32] (bs ws)).toArray⟩:ByteArray)++⟨#[10]⟩=ofL (lineY e++[10]):=eqL (by
 rw [ofL_list,lineY,if_neg h1,← h]
 simp)
theorem put_out {e:GEdit} (h1:e.op=1):(⟨#[112,117,116,32]⟩:ByteArray)++(gObjT e.obj).1++⟨#[10]⟩=ofL (lineY e++[10]):=eqL (by
 rw [ofL_list,lineY,if_pos h1]
 simp [wPut])
theorem objT_size {o:GObj}:(gObjT o).1.size≤20000:=by
 rw [gObjT]
 split
 ·split
  ·exact Nat.zero_le _
  split
  ·exact Nat.zero_le _
  show (objB o).size≤_;omega
 exact Nat.zero_le _
end
section
theorem gChange_of {l:List GEdit} (h:gChange l=true):l≠[]∧∀ e∈l,gEditV e=true:=by
 rw [gChange,Bool.and_eq_true,Bool.and_eq_true,decide_eq_true_eq,Bool.not_eq_true',List.any_eq_false] at h
 refine⟨fun e=>by rw [e] at h;exact absurd h.1.1 (by decide),fun e he=>?_⟩
 have:=h.2 e he
 simpa using this
end
end Go.Proofs.YtlnfjkdacimblaaGreatDoor
