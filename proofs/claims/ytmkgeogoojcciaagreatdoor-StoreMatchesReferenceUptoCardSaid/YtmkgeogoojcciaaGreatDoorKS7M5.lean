/-
  Parts of the proof: rules of an abstract program logic, contracts of functions, plain laws. Conditions: each theorem's own.
-/
import Derived.Test.YtmkgeogoojcciaaGreatDoorKS7M4
import Derived.Lib.ItoaLen
import Derived.Lib.Bytealg
import Derived.Lib.Strings
import Derived.Lib.AtoiTie
import Derived.Lib.ItoaMem
import Derived.Below
import Derived.Shelf.Strings.Repeat
import Derived.Shelf.Strconv.ErrVarAll
import Derived.Shelf.Strconv.AtoiAll
import Derived.Shelf.LaysC
import Derived.Ground.NamesProg
import Derived.WideLaws
set_option linter.unusedVariables false
set_option linter.unusedSimpArgs false
set_option maxRecDepth 100000
set_option maxHeartbeats 8000000
namespace Go.Proofs
theorem H5:type_of% Tryz.call102:=Tryz.call102
theorem N3:type_of% Tryz.call29:=Tryz.call29
theorem NZ:type_of% Tryz.call59:=Tryz.call59
theorem CH:type_of% Tryz.call81:=Tryz.call81
theorem vP:type_of% Tryz.call98:=Tryz.call98
theorem aHJ:type_of% Tryz.func147:=Tryz.func147
theorem mL:type_of% Tryz.isAgg77:=Tryz.isAgg77
theorem sQ:type_of% Tryz.isAgg78:=Tryz.isAgg78
theorem kN:type_of% Tryz.isAgg96:=Tryz.isAgg96
theorem aG3:type_of% Tryz.ntmps147:=Tryz.ntmps147
theorem mK:type_of% Tryz.underlying132:=Tryz.underlying132
theorem dN:type_of% Tryz.underlying29:=Tryz.underlying29
theorem Y2:type_of% Tryz.underlying78:=Tryz.underlying78
end Go.Proofs
namespace Go.Proofs.YtmkgeogoojcciaaGreatDoor
open Go.Proofs.Tryz
open Go.Abs
theorem nO:∀ (x y:List UInt8),Op.bytesLess x y=decide (x < y)
 | [],[]=>by simp [Op.bytesLess]
 | _::_,[]=>by simp [Op.bytesLess]
 | [],_::_=>by simp [Op.bytesLess]
 | a::x,b::y=>by
  rw [Op.bytesLess,nO x y];simp only [List.cons_lt_cons_iff];by_cases h1:a < b<;>by_cases h2:a=b<;>by_cases h3:x < y<;>simp [h1,h2,h3]
theorem xH (s:ByteArray):lI s s=false:=by unfold lI;rw [nO];exact decide_eq_false (List.lt_irrefl _)
theorem xG {a b:ByteArray} (h1:lI a b=false) (h2:lI b a=false):a=b:=by
 unfold lI at h1 h2;rw [nO] at h1 h2;have e:a.toList=b.toList:=List.le_antisymm (List.not_lt.1 (aHo h2)) (List.not_lt.1 (aHo h1));have:=BL a b;rw [e] at this
 simpa using this.symm
theorem mP {a b c:ByteArray} (h1:lI a b=true) (h2:lI b c=true):lI a c=true:=by unfold lI at *;rw [nO] at *;exact decide_eq_true (List.lt_trans (aHn h1) (aHn h2))
theorem lC {l:List ByteArray} {s:ByteArray}:inB l s=true↔s∈l:=by
 unfold inB;rw [List.any_eq_true];constructor
 ·rintro⟨a,h1,h2⟩;rw [← aHn h2];exact h1
 intro h;exact⟨s,h,decide_eq_true rfl⟩
def asc {α:Type} (f:α→ByteArray) (l:List α):Prop:=l.Pairwise (fun a b=>lI (f a) (f b)=true)
theorem TL {α:Type} {f:α→ByteArray}:∀ {a b:List α},asc f a→asc f b→(∀ x,x∈a↔x∈b)→a=b
 | [],[],_,_,_=>rfl
 | [],y::b,_,_,h=>by have:=(h y).2 List.mem_cons_self;cases this
 | x::a,[],_,_,h=>by have:=(h x).1 List.mem_cons_self;cases this
 | x::a,y::b,ha,hb,h=>by
  obtain ⟨ha1,ha2⟩:=List.pairwise_cons.1 ha;obtain ⟨hb1,hb2⟩:=List.pairwise_cons.1 hb;have hxy:x=y:=by
   rcases aID.1 ((h x).1 List.mem_cons_self)with e|e
   ·exact e
   rcases aID.1 ((h y).2 List.mem_cons_self)with e'|e'
   ·exact e'.symm
   have h1:=hb1 x e;have h2:=ha1 y e';have:=mP h1 h2;rw [xH] at this;cases this
  subst hxy;rw [TL ha2 hb2 (fun z=>⟨fun hz=>?_,fun hz=>?_⟩)]
  ·rcases aID.1 ((h z).1 (List.mem_cons_of_mem _ hz))with e|e
   ·subst e;have:=ha1 z hz;rw [xH] at this;cases this
   exact e
  rcases aID.1 ((h z).2 (List.mem_cons_of_mem _ hz))with e|e
  ·subst e;have:=hb1 z hz;rw [xH] at this;cases this
  exact e
def uM (s:ByteArray):ByteArray:=fL (s.size:Int)++⟨#[58]⟩++s
def aT (l:List ByteArray):List UInt8:=l.flatMap fun s=>(uM s).data.toList
theorem zW {n:Int} (h0 : -9223372036854775808≤n) (h1:n≤9223372036854775807):(fL n).size≤21:=by
 have:=Lib.itoa_length_le n h0 h1;show (Lib.itoa n).toArray.size≤21
 simpa using this
theorem rU (s:ByteArray):(uM s).size=(fL (s.size:Int)).size+1+s.size:=by rw [uM,ByteArray.size_append,ByteArray.size_append];rfl
theorem BO (l:List ByteArray) (s:ByteArray):aT (l++[s])=aT l++(uM s).data.toList:=by rw [aT,aT,List.flatMap_append,List.flatMap_cons,List.flatMap_nil,List.append_nil]
theorem GY:∀ (l:List ByteArray) (k:Nat),(aT (l.take k)).length≤(aT l).length:=fun l k=>by
 have h:aT l=aT (l.take k)++aT (l.drop k):=by rw [aT,aT,aT,← List.flatMap_append,List.take_append_drop]
 rw [h,aHs];omega
theorem bW {α:Type} {l:List α} {k:Nat} {a:α} (h:l[k]?=some a):l.take (k+1)=l.take k++[a]:=by rw [List.take_add_one,h,Option.toList_some]
theorem wA (s:ByteArray):s.data.toList.length=s.size:=by simp
theorem wQ:∀ l:List ByteArray,l.length≤(aT l).length
 | []=>aHx _
 | s::r=>by
  have ih:=wQ r;have h:aT (s::r)=(uM s).data.toList++aT r:=by rw [aT,List.flatMap_cons];rfl
  rw [h,aHs,aHt,wA,rU];omega
end Go.Proofs.YtmkgeogoojcciaaGreatDoor
namespace Go.Abs
theorem GZ {c:UInt8}:∀ {l:List UInt8},Lib.indexByte l c = -1↔c∉l
 | []=>by simp [Lib.indexByte]
 | b::l=>by
  have ih:=GZ (c:=c) (l:=l);have hg:=Lib.indexByte_ge l c;rw [Lib.indexByte];by_cases h:b=c
  ·subst h;simp
  simp only [beq_iff_eq,h,if_false,aID,not_or];constructor
  ·intro h2
   split at h2
   ·exact⟨fun e=>h e.symm,ih.1 (by assumption)⟩
   omega
  rintro⟨_,h2⟩;rw [ih.2 h2];rfl
theorem G3 {c:UInt8}:∀ {l:List UInt8},Lib.indexByte l c ≠ -1→∃ w r,l=w++c::r∧c∉w∧Lib.indexByte l c=(w.length:Int)
 | [],h=>absurd rfl h
 | b::l,h=>by
  by_cases e:b=c
  ·subst e;exact⟨[],l,rfl,by simp,by simp [Lib.indexByte]⟩
  have e1:Lib.indexByte l c ≠ -1:=fun e2=>h (by rw [Lib.indexByte];simp [e,e2]);obtain ⟨w,r,h1,h2,h3⟩:=G3 e1;refine⟨b::w,r,by rw [h1];rfl,by rw [aID,not_or];exact⟨fun x=>e x.symm,h2⟩,?_⟩;rw [Lib.indexByte];simp only [beq_iff_eq,e,if_false,e1,h3,aHt];rw [aHp (by omega)]
  push_cast
  rfl
end Go.Abs
namespace Go.Proofs.YtmkgeogoojcciaaGreatDoor
open Go.Proofs.Tryz
open Go.Abs
theorem eqL {a b:ByteArray} (h:a.data.toList=b.data.toList):a=b:=by cases a;cases b;simp_all [Array.toList_inj]
def eA (l:List ByteArray):List (List AV):=l.map fun s=>[.pv (.str s)]
theorem eX (l:List ByteArray):(eA l).length=l.length:=aHr _
theorem oA (l:List ByteArray) (s:ByteArray):eA l++[[.pv (.str s)]]=eA (l++[s]):=by rw [eA,eA,List.map_append];rfl
theorem dK (H:aE) (l:List ByteArray):∀ r∈eA l,∀ a∈r,Clo H a:=by intro r hr a ha;obtain ⟨b,_,rfl⟩:=List.mem_map.1 hr;rw [aHu] at ha;subst ha;simp
theorem kV (l:List ByteArray):eA l=(l.map encStr).map (·.map .pv):=by rw [List.map_map];rfl
end Go.Proofs.YtmkgeogoojcciaaGreatDoor
namespace Go.Abs
theorem fZ {P:Program} {G0:aE} {N:Nat} {Q:Exit→bZ→aE→Prop} {E:bZ} {H:aE} {x y:Code} {α:Type} (S:α→bZ×aE) (J:α→Prop)
  (h:iF P G0 N x (sG (fun E1 H1=>∃ a,J a∧cC G0 E1 H1 (S a).1 (S a).2) Q) E H) (h':∀ a,J a→iF P G0 N y Q (S a).1 (S a).2):iF P G0 N (.seq x y) Q E H :=
 B7 (h.mono fun e E1 H1 q=>by
  cases e with
  | normal =>
   obtain ⟨a,ha,he⟩:=q;exact iF.ent he (h' a ha)
  | _=>exact q)
theorem aCX {H:aE} {x:Go.Loop} {E0:bZ} (h:∀ p∈E0,Clo H p.2):∀ r∈(LR x E0).rows,∀ a∈r,Clo H a:=by
 intro r hr a ha;simp only [LR,aID,aIH,or_false] at hr;rcases hr with rfl|rfl
 ·rw [aHu] at ha;subst ha;simp
 obtain ⟨p,hp,rfl⟩:=List.mem_map.1 ha;exact h p hp
def KE (A B:aE):List Nat→Prop
 | []=>True
 | j::r=>A.get j=B.get j∧KE A B r
theorem KE.spec {A B:aE}:∀ {l:List Nat},KE A B l→∀ j∈l,A.get j=B.get j
 | i::r,h,j,hj=>by
  rcases aID.1 hj with rfl|hj
  ·exact h.1
  exact KE.spec h.2 j hj
theorem VI {D:aE} {j:Nat} (h:j∉D.map (·.1)):D.get j=none:=by
 cases hg:D.get j with
 | none=>rfl
 | some o=>exact absurd (List.mem_map.2 ⟨_,eM hg,rfl⟩) h
theorem tS (A B:aE) {K:aE} (h:KE A B (A.map (·.1)++B.map (·.1))) (j:Nat):aE.get (A++K) j=aE.get (B++K) j:=by
 rw [iR,iR];have e:A.get j=B.get j:=by
  by_cases hj:j∈A.map (·.1)++B.map (·.1)
  ·exact h.spec j hj
  rw [List.mem_append,not_or] at hj;rw [VI hj.1,VI hj.2]
 rw [e]
end Go.Abs
namespace Go.Proofs.YtmkgeogoojcciaaGreatDoor
open Go.Proofs.Tryz
open Go.Abs
structure GFound where
 kind:Int
 text:ByteArray
 pos:Nat
 err:Int
def aHQ (l:List GFound) (k:Nat):List GFound:=(l.drop (3*k)).take 3
theorem dP (s:ByteArray):s.data.toList.length=s.size:=by simp
theorem gE {a b:ByteArray} (h:a.data.toList=b.data.toList):a=b:=by cases a with|mk a=>cases b with|mk b=>cases a;cases b;simp at h;rw [h]
theorem dS (s:ByteArray) (i j:Nat):(s.extract i j).data.toList=(s.data.toList.drop i).take (j - i):=by rw [ByteArray.data_extract,Array.toList_extract,List.extract_eq_take_drop]
theorem wU {s:ByteArray} {i:Nat}:(s.extract i s.size).data.toList=s.data.toList.drop i:=by rw [dS];exact List.take_of_length_le (by rw [aIG,dP];exact aHx _)
end Go.Proofs.YtmkgeogoojcciaaGreatDoor
namespace Go.Abs
open Go.Lib
theorem VT {d:Nat} (h:d < 10):digitVal (UInt8.ofNat (48+d))=some d:=by
 have e:(UInt8.ofNat (48+d)).toNat=48+d:=by rw [UInt8.toNat_ofNat'];omega
 rw [digitVal,e,aHq (by omega)];congr 1;omega
theorem vB {b:UInt8} {d:Nat} (hb:digitVal b=some d):∀ (l:List UInt8) (acc:Nat),decFrom acc (l++[b])=(decFrom acc l).map fun n=>n*10+d
 | [],acc=>by
  simp [decFrom,hb]
 | c::l,acc=>by
  rw [List.cons_append,decFrom,decFrom];cases h:digitVal c with
  | none=>rfl
  | some x=>exact vB hb l _
theorem qB (u:Nat):decDigits u≠[]:=by
 rw [decDigits]
 split
 ·simp
 simp
theorem iY (u:Nat):decFrom 0 (decDigits u)=some u:=by
 induction u using Nat.strongRecOn with
 | ind u ih =>
  rw [decDigits]
  split
  ·rename_i h;rw [← List.nil_append [_],vB (VT h)];simp [decFrom]
  rename_i h;rw [vB (VT (Nat.mod_lt u (by decide))),ih (u / 10) (by omega)];simp only [Option.map_some];congr 1;omega
theorem rA {b:UInt8}:∀ (u:Nat),b∈decDigits u→48≤b.toNat∧b.toNat≤57:=by
 intro u
 induction u using Nat.strongRecOn with
 | ind u ih =>
  rw [decDigits]
  split
  ·rename_i h;intro hb;rw [aHu] at hb;subst hb;rw [UInt8.toNat_ofNat'];omega
  rename_i h;intro hb;rcases List.mem_append.1 hb with hb|hb
  ·exact ih (u / 10) (by omega) hb
  rw [aHu] at hb;subst hb;rw [UInt8.toNat_ofNat'];omega
theorem aBD (n:Int) (h:0≤n):itoa n=decDigits n.toNat:=by rw [itoa,aHp (by omega)]
theorem dT:∀ {k u:Nat},u < 10 ^ k→0 < k→(decDigits u).length≤k
 | 0,_,_,h=>absurd h (Nat.lt_irrefl 0)
 | k+1,u,h,_=>by
  rw [decDigits]
  split
  ·simp
  rename_i h1;rw [aHs,List.length_singleton];have hk:0 < k:=by
   rcases Nat.eq_zero_or_pos k with e|e
   ·subst e;omega
   exact e
  have hd:u / 10 < 10 ^ k:=by rw [Nat.pow_succ] at h;omega
  have:=dT hd hk;omega
end Go.Abs
namespace Go.Proofs.YtmkgeogoojcciaaGreatDoor
open Go.Proofs.Tryz
open Go.Abs
def nm (i:Nat):ByteArray:=⟨#[110,49+UInt8.ofNat i]⟩
def ofL (l:List UInt8):ByteArray:=⟨l.toArray⟩
theorem bB (l:List UInt8):(ofL l).data.toList=l:=by simp [ofL]
theorem MP (s:ByteArray):ofL s.data.toList=s:=gE (bB _)
theorem bO (l:List UInt8):(ofL l).size=l.length:=by rw [← dP,bB]
inductive Arm where
 | never
 | off (a w b:Int)
 | on (a w b:Int)
structure DSt where
 cells:List ByteArray
 q:List (Nat×ByteArray)
 off:Bool
 arm:Arm
 gq:Nat
 ga:Nat
def lO (p:Nat×ByteArray):List PV:=[.int .i64 ((64*p.1:Nat):Int),.int .i64 ((64*(p.1+1):Nat):Int),.str p.2]
def flat (l:List ByteArray):List UInt8:=l.flatMap (fun c=>c.data.toList)
abbrev vK (l:List (Nat×ByteArray)):List (List AV):=l.map (fun e=>(lO e).map .pv)
def aCI (ga:Nat):Arm→AV
 | .never=>.pv .nilp
 | .off _ _ _=>.pv .nilp
 | .on _ _ _=>.ref 1003 ga 0 0
def mI:Arm→List (List AV)
 | .never=>[]
 | .off a w b=>[[iv a,iv w,iv b]]
 | .on a w b=>[[iv a,iv w,iv b]]
abbrev mY (s:DSt):List AV:=[.osl 1001 0 0 (64*s.cells.length),.osl 1002 s.gq 0 s.q.length,bv s.off,aCI s.ga s.arm]
abbrev bN (s:DSt):aE:=[(1000,⟨0,4,80,[mY s]⟩),(1001,⟨0,1,5,bP (flat s.cells)⟩),(1002,⟨s.gq,3,103,vK s.q⟩),(1003,⟨s.ga,3,100,mI s.arm⟩)]
theorem aG (s:List UInt8) (H:aE):∀ r∈bP s,∀ a∈r,Clo H a:=by intro r hr a ha;obtain ⟨b,_,rfl⟩:=List.mem_map.1 hr;rw [aHu.1 ha];exact .pv _
theorem aP (a:Arm) (H:aE):∀ r∈mI a,∀ x∈r,Clo H x:=by intro r hr x hx;cases a<;>simp [mI] at hr<;>subst hr<;>simp at hx<;>(rcases hx with rfl|rfl|rfl<;>exact .pv _)
theorem aM (s:DSt) (H:aE) (h1:(H.get 1001).isSome=true) (h2:(H.get 1002).isSome=true) (h3:(H.get 1003).isSome=true):∀ r∈[mY s],∀ a∈r,Clo H a:=by
 intro r hr a ha;rw [aHu.1 hr] at ha;simp only [mY,aID,aIH,or_false] at ha;rcases ha with rfl|rfl|rfl|rfl
 ·exact .osl h1
 ·exact .osl h2
 ·exact .pv _
 cases s.arm<;>first|exact .pv _|exact .ref h3
theorem nM (s:DSt):bT (bN s):=bT.of (fun p hp=>by
 simp only [bN,aID,aIH,or_false] at hp;rcases hp with rfl|rfl|rfl|rfl
 ·exact aM s _ rfl rfl rfl
 ·exact aG _ _
 ·exact aD _ _ _
 exact aP _ _)
structure DOk (s:DSt):Prop where
 n1:1≤s.cells.length
 n2:s.cells.length≤8000
 c:∀ c,c∈s.cells→c.size=64
 q:∀ p,p∈s.q→p.1 < s.cells.length∧p.2.size=64
 ql:s.q.length≤1048576
theorem kL (c:ByteArray):c.data.toList.length=c.size:=Array.length_toList
theorem oG (c:ByteArray) (l:List ByteArray):flat (c::l)=c.data.toList++flat l:=rfl
theorem mU {l:List ByteArray} (h:∀ c,c∈l→c.size=64):(flat l).length=64*l.length:=by
 induction l with
 | nil=>rfl
 | cons c l ih =>
  rw [oG,aHs,kL,h c (by simp),ih (fun c hc=>h c (by simp [hc])),aHt];omega
theorem wT (a b:List ByteArray):flat (a++b)=flat a++flat b:=List.flatMap_append
theorem KM {l:List ByteArray} (h:∀ c,c∈l→c.size=64) {k:Nat} {c:ByteArray} (hk:l[k]?=some c) :
  (flat l).take (64*k)=flat (l.take k)∧((flat l).drop (64*k)).take 64=c.data.toList∧(flat l).drop (64*k+64)=flat (l.drop (k+1)):=by
 obtain ⟨hlt,he⟩:=aHv.1 hk;have hsplit:flat l=flat (l.take k)++(c.data.toList++flat (l.drop (k+1))):=by
  conv=>lhs;rw [← List.take_append_drop k l,List.drop_eq_getElem_cons hlt,he]
  rw [wT,oG]
 have h1:(flat (l.take k)).length=64*k:=by
  rw [mU (fun c hc=>h c (List.mem_of_mem_take hc)),aIF];congr 1;omega
 have h2:c.data.toList.length=64:=by rw [kL];exact h c (aIB hk)
 refine⟨?_,?_,?_⟩
 ·rw [hsplit,← h1,List.take_left]
 ·rw [hsplit,← h1,List.drop_left,← h2,List.take_left]
 rw [hsplit,← List.drop_drop,← h1,List.drop_left,← h2,List.drop_left]
def tJ (t c:ByteArray):ByteArray:=⟨(t.data.toList++c.data.toList.drop t.size).toArray⟩
theorem XD {t c:ByteArray} (ht:t.size≤c.size):(tJ t c).size=c.size:=by show (t.data.toList++c.data.toList.drop t.size).toArray.size=c.size;rw [List.size_toArray,aHs,aIG,kL,kL];omega
theorem XF {t c:ByteArray} (ht:t.size=64) (hc:c.size=64):tJ t c=t:=by unfold tJ;rw [List.drop_of_length_le (by rw [kL];omega),List.append_nil]
theorem aAG {l:List ByteArray} (h:∀ c,c∈l→c.size=64) {k:Nat} {c t:ByteArray} (hk:l[k]?=some c) (ht:t.size≤64) :
  (flat l).take (64*k)++(t.data.toList.take t.size++(flat l).drop (64*k+t.size))=flat (l.set k (tJ t c)):=by
 obtain ⟨hlt,he⟩:=aHv.1 hk;obtain ⟨p1,p2,p3⟩:=KM h hk;have hset:l.set k (tJ t c)=l.take k++(tJ t c::l.drop (k+1)):=by rw [List.set_eq_take_append_cons_drop,aHq hlt]
 rw [hset,wT,oG,p1];congr 1;rw [show t.data.toList.take t.size=t.data.toList from List.take_of_length_le (by rw [kL];omega)];show _=(t.data.toList++c.data.toList.drop t.size)++flat (l.drop (k+1));rw [List.append_assoc];congr 1;have e1:(flat l).drop (64*k)=c.data.toList++flat (l.drop (k+1)):=by
  rw [← List.take_append_drop 64 ((flat l).drop (64*k)),p2,List.drop_drop,p3]
 have h2:c.data.toList.length=64:=by rw [kL];exact h c (aIB hk)
 rw [← List.drop_drop,e1,List.drop_append_of_le_length (by omega)]
def fK (s:DSt) (k:Int):Bool:=decide (0≤k)&&decide (k < (s.cells.length:Int))
def pC (s:DSt) (k:Int):List AV:=if fK s k then[iv (64*k),iv (64*(k+1))] else[iv 0,iv 0]
theorem UT (s:DSt) (k:Int) (hs:DOk s) :
  aK Tryz.prog 59 [.ref 1000 0 0 0,iv k] (bN s) (fun r H'=>r=.tup [.agg (pC s k),bv (fK s k)]∧H'=bN s):=by
 have hq:IntKind.i64.wrap (((64*s.cells.length:Nat):Int).tdiv 64)=(s.cells.length:Int):=by
  have h2:=hs.n2;have e:((64*s.cells.length:Nat):Int).tdiv 64=(s.cells.length:Int):=by
   rw [Int.tdiv_eq_ediv_of_nonneg (by omega)];omega
  rw [e,eS (by omega) (by omega)]
 have h2:=hs.n2;refine Bd func59 rfl ntmps59<|Sr<|Dd (by exact dW (id:=4) rfl AR rfl rfl)<|Dd aR<|Zz<|Sq<|Sq ?_;refine cQ (t:=21) (n:=18) (X:=!fK s k) ?_ ?_
 ·all_goals refine Dd aB ?_
  all_goals refine Dd (by exact bR rfl dN rfl rfl rfl rfl)<|Dm ?_
  all_goals refine Sp 8 (fun h8=>?_) fun h8=>?_
  all_goals try contradiction
  all_goals refine On aB<|On cP<|Dd cX<|Dm ?_
  all_goals refine Sp 12 (fun h12=>?_) fun h12=>?_
  all_goals try contradiction
  all_goals first|refine Fo<|Fo<|Fo<|Fo<|Fo<|Fo<|Fo<|Fo ?_|refine On aB<|On aB<|On dY<|On (cI HA)<|On (cW gL)<|On (by exact cM rfl cL rfl rfl rfl)<|On (by exact nH rfl rfl rfl (by decide) hq)<|On CD ?_
  all_goals refine Dd cX<|Zz ?_
  all_goals(exact⟨⟨_,rfl,by(rw [fK,Bool.eq_iff_iff];simp at h12 ⊢;omega)⟩,rfl,rfl,rfl⟩)
 refine Cn ?_ ?_<;>intro hc1
 ·have e:fK s k=false:=by simpa using hc1
  refine Sr<|Dd (RA aBq)<|Uu (vJ sizeOf96)<|Dd aR<|Zz<|aH ?_;refine fF (H':=bN s) (.inr rfl) rfl (mR rfl kN sizeOf96 rfl rfl rfl (by simp only [Zl];rfl) rfl) (aI rfl) (Fin.wk (by(simp;done)) (Hc (aM _ _ rfl rfl rfl)<|Hc (aG _ _)<|Hc (aD _ _ _)<|Hc (aP _ _)<|trivial) ⟨rfl,rfl,rfl,rfl,trivial⟩) ?_;exact⟨by simp [pC,e],rfl⟩
 have e:fK s k=true:=by simpa using hc1
 obtain ⟨h0,h1⟩:0≤k∧k < (s.cells.length:Int):=by simpa [fK] using e
 have m1:IntKind.i64.wrap (k*64)=64*k:=by rw [eS (by omega) (by omega)];omega
 have m2:IntKind.i64.wrap ((k+1)*64)=64*(k+1):=by rw [eS (by omega) (by omega)];omega
 refine aF<|Sr<|Dd aB<|Dd (by exact fG rfl rfl rfl m1)<|Dd aB<|Dd rL<|Dd (by exact fG rfl rfl rfl m2)<|Dd (by exact LI rfl aBq rfl (rfl:_=some [iv (64*k),iv (64*(k+1))]))<|Uu (vJ sizeOf96)<|Dd aR<|Zz<|aH ?_;refine fF (H':=bN s) (.inr rfl) rfl (mR rfl kN sizeOf96 rfl rfl rfl (by simp only [Zl];rfl) rfl) (aI rfl) (Fin.wk (by(simp;done)) (Hc (aM _ _ rfl rfl rfl)<|Hc (aG _ _)<|Hc (aD _ _ _)<|Hc (aP _ _)<|trivial) ⟨rfl,rfl,rfl,rfl,trivial⟩) ?_;exact⟨by simp [pC,e],rfl⟩
def atE (s:DSt) (k:Int):Int:=if s.off then 22 else if fK s k then 0 else 1
def TK (s:DSt) (k:Int):List AV:=if s.off then[iv 0,iv 0] else pC s k
theorem KU (s s':DSt) (H:aE):∀ id,((bN s').get id).isSome=true→((bN s).get id).isSome=true∨H.get id=none:=by intro id h;left;simp only [bN,aE.get] at h ⊢;cases e0:Nat.beq 1000 id<;>cases e1:Nat.beq 1001 id<;>cases e2:Nat.beq 1002 id<;>cases e3:Nat.beq 1003 id<;>simp [e0,e1,e2,e3] at h ⊢
theorem cG {f:FuncId} {args:List AV} {s s':DSt} {r0:AV} (h:aK Tryz.prog f args (bN s) (fun r H'=>r=r0∧H'=bN s')) (H:aE) (hs:lZ H (bN s)) (ha:∀ a∈args,Clo (bN s) a) :
  aK Tryz.prog f args H (fun r H'=>r=r0∧H'=bN s'++H):=h.frame hs.sub (nM s) ha (KU s s' H)
theorem O9 (s:DSt) (k:Int) (hs:DOk s) (e:fK s k=false):aK Tryz.prog 59 [.ref 1000 0 0 0,iv k] (bN s) (fun r H'=>r=.tup [.agg [iv 0,iv 0],bv false]∧H'=bN s):=by
 have h:=UT s k hs;have es:pC s k=[iv 0,iv 0]:=by simp [pC,e]
 rw [es,e] at h;exact h
theorem J2 (s:DSt) (k:Int) (hs:DOk s) (e:fK s k=true):aK Tryz.prog 59 [.ref 1000 0 0 0,iv k] (bN s) (fun r H'=>r=.tup [.agg [iv (64*k),iv (64*(k+1))],bv true]∧H'=bN s):=by
 have h:=UT s k hs;have es:pC s k=[iv (64*k),iv (64*(k+1))]:=by simp [pC,e]
 rw [es,e] at h;exact h
theorem aCD (s:DSt) (k:Int) (hs:DOk s) :
  aK Tryz.prog 81 [.ref 1000 0 0 0,iv k] (bN s) (fun r H'=>r=.tup [.agg (TK s k),iv (atE s k)]∧H'=bN s):=by
 refine Bd func81 rfl ntmps81<|Sr<|Dd (by exact dW (id:=4) rfl AR rfl rfl)<|Dd aR<|Zz<|Sq<|Sq ?_;refine cQ (t:=15) (n:=9) (X:=s.off) ?_ ?_
 ·all_goals refine Dd aB ?_
  all_goals refine Dd (by exact wG rfl dN rfl rfl rfl rfl)<|Dm ?_
  all_goals refine Sp 10 (fun h10=>?_) fun h10=>?_
  all_goals try contradiction
  all_goals refine On aB<|On dY<|On (cI wS)<|On (cW cK)<|Dd cX<|Zz ?_
  all_goals(exact⟨⟨_,rfl,by rfl⟩,rfl,rfl,rfl⟩)
 refine Cn ?_ ?_<;>intro hc1
 ·refine Sr<|Dd (RA aBq)<|Uu (vJ sizeOf96)<|Dd aR<|Zz<|aH ?_;refine fF (H':=bN s) (.inr rfl) rfl (mR rfl kN sizeOf96 rfl rfl rfl (by simp only [Zl];rfl) rfl) (aI rfl) (Fin.wk (by(simp;done)) (Hc (aM _ _ rfl rfl rfl)<|Hc (aG _ _)<|Hc (aD _ _ _)<|Hc (aP _ _)<|trivial) ⟨rfl,rfl,rfl,rfl,trivial⟩) ?_;exact⟨by simp [TK,atE,hc1],rfl⟩
 cases e:fK s k
 ·refine aF<|Sr<|Dd aB<|Dd aB<|Dd (by exact aA rfl rfl NZ rfl (cG (O9 s k hs e) _ ⟨rfl,rfl,rfl,rfl,trivial⟩ (by simp;rfl)))<|Dd aB<|Dd eC<|Dd eC<|Dd (by exact dW (id:=6) rfl AR rfl rfl)<|Uu (vJ sizeOf96)<|Dd aR<|Zz<|Sq<|Sr<|Dd aB<|Dd pY<|Zz ?_;refine Cn ?_ ?_<;>intro hc2
  ·refine Sr<|Dd (RA aBq)<|Uu (vJ sizeOf96)<|Dd aR<|Zz<|aH ?_;refine fF (H':=bN s) (.inr rfl) rfl (mR rfl kN sizeOf96 rfl rfl rfl (by simp only [Zl];rfl) rfl) (aI rfl) (Fin.wk (by(simp;done)) (Hc (aM _ _ rfl rfl rfl)<|Hc (aG _ _)<|Hc (aD _ _ _)<|Hc (aP _ _)<|trivial) ⟨rfl,rfl,rfl,rfl,trivial⟩) ?_;exact⟨by simp [TK,atE,hc1,e,pC],rfl⟩
  cases hc2
 refine aF<|Sr<|Dd aB<|Dd aB<|Dd (by exact aA rfl rfl NZ rfl (cG (J2 s k hs e) _ ⟨rfl,rfl,rfl,rfl,trivial⟩ (by simp;rfl)))<|Dd aB<|Dd eC<|Dd eC<|Dd (by exact dW (id:=6) rfl AR rfl rfl)<|Uu (vJ sizeOf96)<|Dd aR<|Zz<|Sq<|Sr<|Dd aB<|Dd pY<|Zz ?_;refine Cn ?_ ?_<;>intro hc3
 ·cases hc3
 refine aF<|Sr<|Dd (by exact eW rfl kN sizeOf96 rfl rfl rfl rfl (by simp only [Zl];rfl) rfl)<|Uu (vJ sizeOf96)<|Dd aR<|Zz<|aH ?_;refine fF (H':=bN s) (.inr rfl) rfl (mR rfl kN sizeOf96 rfl rfl rfl (by simp only [Zl];rfl) rfl) (aI rfl) (Fin.wk (by(simp;done)) (Hc (aM _ _ rfl rfl rfl)<|Hc (aG _ _)<|Hc (aD _ _ _)<|Hc (aP _ _)<|trivial) ⟨rfl,rfl,rfl,rfl,trivial⟩) ?_;exact⟨by simp [TK,atE,hc1,e,pC],rfl⟩
end Go.Proofs.YtmkgeogoojcciaaGreatDoor
namespace Go.Abs
open Go.RowKit
theorem Rel.below {I:Nat→Prop} {ι:eE} {H:aE} {w w':World} (hb:Below w.heap.size w w') (hr:Rel I ι H w):Rel I ι H w'∧Step I ι H w I ι H w':=by
 have hk:∀ b,b < w.heap.size→w'.heap[b]?=w.heap[b]?:=hb.block;have hst:Step I ι H w I ι H w':=by
  refine⟨hb.os,hb.tape,hb.output,hb.size,fun a ha _=>?_,fun _ h=>h,fun _ h=>.inl h,fun _ h=>.inl h,fun b hb _=>hk b hb,fun _ o h=>⟨o,h,aHx _,fun _=>⟨rfl,rfl,fun _=>aHx _⟩⟩⟩;unfold World.frozen?;rw [hk _ ha]
 refine⟨⟨fun b h=>?_,fun j o hj=>?_,hr.inj,hst.glob hr⟩,hst⟩
 ·have:=hr.imm b h;have:=hb.size;omega
 exact(hr.obj j o hj).keep rfl (fun b c _ hb=>⟨hk b hb,fun h=>h⟩) (fun r _ a _ v hv=>hv.mono hr hst)
end Go.Abs
section
namespace Go.Proofs
open Go.RowKit Go.Sort Go.Shelf
def aHe:Go.Shelf.Ren:=⟨fun|105=>130|212=>132|99=>159|165=>160|166=>86|170=>161|169=>88|263=>165|264=>166|206=>182|240=>116|241=>183|276=>143|277=>195|n=>n,fun|9=>9|3=>3|4=>4|20=>20|0=>0|46=>150|109=>170|5=>5|72=>138|76=>133|51=>191|146=>199|53=>93|148=>201|70=>136|37=>50|75=>132|127=>158|164=>179|80=>46|n=>n,fun|n=>n⟩
theorem aHj:Go.Proofs.Lays.n105 Tryz.prog aHe:={
  mixed:=by kernel_rfl
  f99:=Tryz.func159.trans (congrArg some (by kernel_rfl))
  f105:=Tryz.func130.trans (congrArg some (by kernel_rfl))
  f165:=Tryz.func160.trans (congrArg some (by kernel_rfl))
  f166:=Tryz.func86.trans (congrArg some (by kernel_rfl))
  f169:=Tryz.func88.trans (congrArg some (by kernel_rfl))
  f170:=Tryz.func161.trans (congrArg some (by kernel_rfl))
  f206:=Tryz.func182.trans (congrArg some (by kernel_rfl))
  f212:=Tryz.func132.trans (congrArg some (by kernel_rfl))
  f240:=Tryz.func116.trans (congrArg some (by kernel_rfl))
  f241:=Tryz.func183.trans (congrArg some (by kernel_rfl))
  f263:=Tryz.func165.trans (congrArg some (by kernel_rfl))
  f264:=Tryz.func166.trans (congrArg some (by kernel_rfl))
  f276:=Tryz.func143.trans (congrArg some (by kernel_rfl))
  f277:=Tryz.func195.trans (congrArg some (by kernel_rfl))
  t0:=EL
  a0:=aC5
  z0:=Y6
  v0:=ID
  t3:=cJ
  a3:=aL
  z3:=Tryz.sizeOf3
  v3:=qO
  t4:=lS
  a4:=cK
  z4:=Tryz.sizeOf4
  v4:=IC
  t5:=bV
  a5:=rM
  z5:=eL
  v5:=mZ
  t9:=aC
  a9:=aQ
  z9:=Tryz.sizeOf9
  v9:=gM
  t20:=Y5
  a20:=aHH
  z20:=aG1
  v20:=aCS
  t37:=cL
  a37:=gL
  z37:=Tryz.sizeOf50
  v37:=aCQ
  t46:=iD
  a46:=DQ
  z46:=AN
  v46:=sL
  t51:=AJ
  a51:=RC
  z51:=NW
  v51:=CF
  t53:=fQ
  a53:=sP
  z53:=qC
  v53:=pA
  t70:=mJ
  a70:=RD
  z70:=aF5
  v70:=Tryz.zeroValue136
  t72:=TR
  a72:=Tryz.isAgg138
  z72:=Tryz.sizeOf138
  v72:=Tryz.zeroValue138
  t75:=mK
  a75:=Tryz.isAgg132
  z75:=Tryz.sizeOf132
  v75:=Tryz.zeroValue132
  t76:=Tryz.underlying133
  a76:=Tryz.isAgg133
  z76:=Tryz.sizeOf133
  v76:=Tryz.zeroValue133
  t109:=Tryz.underlying170
  a109:=Tryz.isAgg170
  z109:=Tryz.sizeOf170
  v109:=Tryz.zeroValue170
  t127:=AK
  a127:=Tryz.isAgg158
  z127:=Tryz.sizeOf158
  v127:=Tryz.zeroValue158
  t146:=Tryz.underlying199
  a146:=Tryz.isAgg199
  z146:=Tryz.sizeOf199
  v146:=Tryz.zeroValue199
  t148:=Tryz.underlying201
  a148:=Tryz.isAgg201
  z148:=Tryz.sizeOf201
  v148:=Tryz.zeroValue201
  t164:=TQ
  a164:=Tryz.isAgg179
  z164:=Tryz.sizeOf179
  v164:=Tryz.zeroValue179}
end Go.Proofs
namespace Go.Proofs.YtmkgeogoojcciaaGreatDoor
open Go.Proofs.Tryz
open Go.Abs Go.Lib
theorem aDH:Builder.Extra Tryz.prog aHe:=⟨⟨by kernel_rfl,by kernel_rfl⟩,bV,rM,eL,mZ,by kernel_rfl,by kernel_rfl,by kernel_rfl,by decide⟩
def R2 (s:ByteArray) (n:Nat):ByteArray:=⟨(Lib.repeatL s.data.toList n).toArray⟩
theorem O1 (s:ByteArray) (n:Nat) (hl:s.size*n≤140737488355328) (hn:n≤9223372036854775807) (H:aE):aK Tryz.prog 130 [sv s,iv (n:Int)] H (fun r H'=>r=sv (R2 s n)∧H'=H):=by
 intro I ι w vs hr hvl hv;obtain ⟨v,u,rfl⟩:∃ v u,vs=#[v,u]:=by
  match vs,hvl with
  | ⟨[v,u]⟩,_=>exact⟨v,u,rfl⟩
 have e1:=(hv 0 v _ rfl rfl).str_inv;have e2:=(hv 1 u _ rfl rfl).int_inv;subst e1 e2;refine(Any.strings_Repeat aHj aDH s n w hn hl).mono ?_;rintro e w' ⟨rfl,hb⟩;obtain ⟨k1,k2⟩:=Rel.below hb hr;exact⟨_,_,I,ι,_,rfl,⟨rfl,rfl⟩,.pv (.str _),k1,k2⟩
theorem lB (n:Nat):(fL (n:Int)).data.toList=decDigits n:=by show (Lib.itoa (n:Int)).toArray.toList=_;rw [aBD _ (Int.natCast_nonneg n),aIC]
theorem F4 (b:UInt8):∀ n,Lib.repeatL [b] n=List.replicate n b
 | 0=>rfl
 | n+1=>by rw [Lib.repeatL,F4 b n,List.replicate_succ];rfl
theorem CU (b:UInt8) (n:Nat):(R2 ⟨#[b]⟩ n).data.toList=List.replicate n b:=F4 b n
theorem JW (b:UInt8) (n:Nat):(R2 ⟨#[b]⟩ n).size=n:=by rw [← dP,CU,List.length_replicate]
def dg (n w:Nat):List UInt8:=List.replicate (w - (decDigits n).length) 48++decDigits n
theorem jT {n w:Nat} (h:(decDigits n).length≤w):(dg n w).length=w:=by rw [dg,aHs,List.length_replicate];omega
theorem tT (n w:Nat) (hn:n < 1000000000000) (hw:w≤1000) (H:aE):aK Tryz.prog 102 [iv (n:Int),iv (w:Int)] H (fun r H'=>r=sv (ofL (dg n w))∧H'=H):=by
 refine Pu ?_;have hz:=lB n;have hsz:(fL (n:Int)).size=(decDigits n).length:=by rw [← dP,hz]
 have hd21:(fL (n:Int)).size≤21:=zW (by omega) (by omega);obtain ⟨k,hk⟩:∃ k,k=w - (decDigits n).length:=⟨_,rfl⟩;have hmx:max (0:Int) ((w:Int) - ((fL (n:Int)).size:Int))=((k:Nat):Int):=by rw [hsz,hk];omega
 have hks:(R2 ⟨#[48]⟩ k).size=k:=JW 48 k;have e:R2 ⟨#[48]⟩ k++fL (n:Int)=ofL (dg n w):=eqL (by
  rw [bB,ByteArray.data_append,Array.toList_append,CU,hz,dg,hk])
 rw [← e];clear e;exact Bd func102 rfl ntmps102<|Sr<|Dd aR<|Zz<|Sr<|Dd aB<|Dd (by exact aA rfl rfl vP rfl (uX (n:Int) (by omega) (by omega) _))<|Dd aR<|Zz<|Sr<|Dd aB<|Dd aB<|Dd (mD aC)<|Dd (by exact dG rfl rfl rfl (by exact eS (by omega) (by omega)))<|Dd (by exact BF rfl rfl rfl hmx)<|Dd (by exact aA rfl rfl call130 rfl (O1 ⟨#[48]⟩ k (by show 1*k≤_;omega) (by omega) _))<|Dd aB<|Dd (by exact fA rfl rfl rfl (by omega) rfl)<|Dd aR<|Zz<|aH<|Rt<|Qq
def zB (n:Nat):List UInt8:=List.replicate n 0
theorem vF (H:aE):aK Tryz.prog 43 [] H (fun r H'=>r=sv (ofL (zB 64))∧H'=H):=by
 refine Pu ?_;have hb:((List.replicate 64 [AV.pv (.int .u8 0)]).drop 0).take 64=bP (zB 64):=by
  rw [List.drop_zero,List.take_of_length_le (by simp),bP,zB,List.map_replicate];rfl
 refine Bd func43 rfl ntmps43<|Sr<|Dd aR<|Zz<|Sr<|Dd (by exact jG (id:=901) rfl sZ X8 zo5 rfl rfl rfl (by decide) (by decide) rfl rfl (by decide) rfl)<|Dd (by exact fM rfl cL bV aC rfl rfl rfl rfl hb rfl)<|Dd aR<|Zz<|aH ?_;refine bI (H':=[]) (.inr rfl) rfl (aI rfl) (Fin.wk (r:=sv (ofL (zB 64))) (by simp) trivial trivial) ?_;exact Qq
def LM (l:List UInt8):List UInt8:=tR (HG (I7 l.length) l)
theorem QD (l:List UInt8):QE (ofL l)=ofL (LM l):=by rw [QE,bB,bO];rfl
theorem nD (l:List UInt8):(LM l).length=16:=by simp [LM,tR]
def oU (c:List UInt8):List UInt8:=c++zB (48 - c.length)
theorem GF {c:List UInt8} (h:c.length≤48):(oU c).length=48:=by rw [oU,aHs,zB,List.length_replicate];omega
def pR (place:Nat) (c:List UInt8):List UInt8:=LM (dg place 8++oU c)++oU c
theorem JQ {place:Nat} {c:List UInt8} (h:c.length≤48):(pR place c).length=64:=by rw [pR,aHs,nD,GF h]
theorem wW (n w:Nat) (hn:n < 1000000000000):(dg n w).length≤w+21:=by
 have hz:=lB n;have hsz:(fL (n:Int)).size=(decDigits n).length:=by rw [← dP,hz]
 have hd21:(fL (n:Int)).size≤21:=zW (by omega) (by omega);rw [dg,aHs,List.length_replicate];omega
theorem BH (a b:List UInt8):ofL a++ofL b=ofL (a++b):=eqL (by
 rw [bB,ByteArray.data_append,Array.toList_append,bB,bB])
theorem FT (place:Nat) (c:List UInt8) (hp:place < 1000000000000) (hc:c.length≤48) (H:aE):aK Tryz.prog 101 [iv (place:Int),sv (ofL c)] H (fun r H'=>r=sv (ofL (pR place c))∧H'=H):=by
 refine Pu ?_;have hcs:(ofL c).size=c.length:=bO c;have hks:(R2 ⟨#[0]⟩ (48 - c.length)).size=48 - c.length:=JW 0 _;have hpad:ofL c++R2 ⟨#[0]⟩ (48 - c.length)=ofL (oU c):=eqL (by
  rw [bB,ByteArray.data_append,Array.toList_append,CU,bB];rfl)
 have hpl:(ofL (oU c)).size=48:=by rw [bO,GF hc]
 have hdl:(ofL (dg place 8)).size≤29:=by rw [bO];exact wW place 8 hp
 have hs16:(ofL (LM (dg place 8++oU c))).size=16:=by rw [bO,nD]
 have hsub:IntKind.i64.wrap (48 - ((ofL c).size:Int))=((48 - c.length:Nat):Int):=by rw [hcs,eS (by omega) (by omega)];omega
 have hsum:∀ H,aK Tryz.prog 131 [sv (ofL (dg place 8++oU c))] H (fun r H'=>r=sv (ofL (LM (dg place 8++oU c)))∧H'=H):=fun H=>by
  have:=aFs (ofL (dg place 8++oU c)) H (by rw [bO,aHs,GF hc];have:=wW place 8 hp;omega)
  rwa [QD] at this
 have e1:ofL (dg place 8)++ofL (oU c)=ofL (dg place 8++oU c):=BH _ _;have e2:ofL (LM (dg place 8++oU c))++ofL (oU c)=ofL (pR place c):=BH _ _;exact Bd func101 rfl ntmps101<|Sr<|Dd aR<|Zz<|Sr<|Dd aB<|Dd aB<|Dd (mD aC)<|Dd (by exact dG rfl rfl rfl hsub)<|Dd (by exact aA rfl rfl call130 rfl (O1 ⟨#[0]⟩ (48 - c.length) (by show 1*_≤_;omega) (by omega) _))<|Dd (by exact fA rfl rfl rfl (by omega) hpad)<|Dd aR<|Zz<|Sr<|Dd aB<|Dd (by exact aA rfl rfl H5 rfl (tT place 8 hp (by omega) _))<|Dd aB<|Dd (by exact fA rfl rfl rfl (by omega) e1)<|Dd (by exact aA rfl rfl call131 rfl (hsum _))<|Dd aB<|Dd (by exact fA rfl rfl rfl (by omega) e2)<|Dd aR<|Zz<|aH<|Rt<|Qq
end Go.Proofs.YtmkgeogoojcciaaGreatDoor
end
namespace Go.Abs
open Go.Proofs
def aE3 (v:Value):Prop:=∃ t p,v=.iface t p
abbrev X4:PV:=.sat aE3
def xB (s:ByteArray):Int×PV:=match Lib.atoiAll s.data.toList with
 | .ok v=>(v,SS)
 | .range=>(Lib.atoiSat s.data.toList,X4)
 | _=>(0,X4)
theorem atoi_c {P:Program} {ρ:Shelf.Ren} (L:LaysC.n172 P ρ) {G1 G2:Nat} (hg1:(G1,GV.face)∈M6) (hn1:P.globalNamed "strconv.ErrSyntax" = some G1) (hg2:(G2,GV.face)∈M6) (hn2:P.globalNamed "strconv.ErrRange" = some G2) (s:ByteArray) (hs:s.size < 1099511627776) (H:aE) :
  aK P (ρ.f 172) [.pv (.str s)] H (fun r H'=>r=.tup [.pv (.int .i64 (xB s).1),.pv (xB s).2]∧H'=H):=by
 intro I ι w vs hr hvl hv;obtain ⟨v,rfl⟩:∃ v,vs=#[v]:=by
  match vs,hvl with
  | ⟨[v]⟩,_=>exact⟨v,rfl⟩
 have e1:=(hv 0 v _ rfl rfl).str_inv;subst e1;have hvar:∀ (name:String) (G:Nat),(G,GV.face)∈M6→P.globalNamed name=some G→∃ t p,w.var? P name=some #[.iface t p]:=fun name G hg hn=>by
  obtain ⟨_,cs,t,f,h2,q,p,h3⟩:=hr.glob _ hg;subst h3;exact⟨q,p,by simp only [World.var?,hn,Option.bind_some,h2]⟩
 have fin:∀ (n:Int) (x:Value) (a:PV) (w':World),RowKit.Below w.heap.size w w'→(∀ I H,VRel w' I ι H x (.pv a))→∃ r H' I' ι' v',(Ending.returned (.tuple #[.int .i64 n,x]))=.returned v'∧(r=.tup [.pv (.int .i64 n),.pv a]∧H'=H)∧VRel w' I' ι' H' v' r∧Rel I' ι' H' w'∧Step I ι H w I' ι' H' w':=fun n x a w' hb hx=>by
  obtain ⟨k1,k2⟩:=Rel.below hb hr;refine⟨_,_,I,ι,_,rfl,⟨rfl,rfl⟩,.tup rfl fun i v b h1 h2=>?_,k1,k2⟩
  match i,h1,h2 with
  | 0,h1,h2=>cases h1;cases h2;exact .pv (.int _ _)
  | 1,h1,h2=>cases h1;cases h2;exact hx _ _
  | i+2,h1,h2=>simp at h1
 rw [xB];cases h:Lib.atoiAll s.data.toList with
 | ok n =>
  refine(Any.strconv_Atoi_ok L s (by omega) n h w).mono ?_;rintro e w' ⟨rfl,hw⟩;have hb:RowKit.Below w.heap.size w w':=by
   rcases hw with rfl|⟨t,rfl⟩
   ·exact RowKit.Below.refl _ _
   exact Lib.bytesWorld_below w _ t
  exact fin n .nilIface SS w' hb (fun _ _=>.pv (.sat rfl rfl))
 | range =>
  obtain ⟨t,p,hq⟩:=hvar _ G2 hg2 hn2;refine(Any.strconv_Atoi_range_var L s (by omega) h t p w hq).mono ?_;rintro e w' ⟨N,rfl,_,_,hb⟩;exact fin _ _ X4 w' hb (fun _ _=>.pv (.sat rfl ⟨_,_,rfl⟩))
 | _ =>
  obtain ⟨t,p,hq⟩:=hvar _ G1 hg1 hn1;refine(Any.strconv_Atoi_syntax_var L s (by omega) h t p w hq).mono ?_;rintro e w' ⟨N,rfl,_,_,hb⟩;exact fin 0 _ X4 w' hb (fun _ _=>.pv (.sat rfl ⟨_,_,rfl⟩))
end Go.Abs
section
namespace Go.Proofs
open Go.RowKit Go.Sort Go.Shelf
def aHg:Go.Shelf.Ren:=⟨fun|172=>82|244=>114|245=>115|247=>138|279=>139|280=>140|281=>141|282=>142|287=>168|316=>169|171=>98|205=>170|321=>184|322=>185|243=>128|246=>158|283=>178|284=>179|285=>180|286=>181|129=>157|317=>191|318=>192|319=>193|320=>194|337=>198|338=>199|n=>n,fun|9=>9|3=>3|75=>132|76=>133|4=>4|5=>5|167=>173|37=>50|0=>0|85=>174|2=>2|168=>176|53=>93|175=>203|46=>150|210=>206|127=>158|145=>222|143=>220|21=>21|171=>215|173=>217|212=>229|51=>191|20=>20|213=>230|232=>234|233=>235|80=>46|n=>n,fun|15=>0|16=>1|17=>3|18=>4|19=>5|n=>n⟩
theorem aHl:Go.Proofs.LaysC.n172 Tryz.prog aHg:={
  mixed:=by kernel_rfl
  f129:=Tryz.func157.trans (congrArg some (by kernel_rfl))
  f171:=Tryz.func98.trans (congrArg some (by kernel_rfl))
  f172:=Tryz.func82.trans (congrArg some (by kernel_rfl))
  f205:=Tryz.func170.trans (congrArg some (by kernel_rfl))
  f243:=Tryz.func128.trans (congrArg some (by kernel_rfl))
  f244:=Tryz.func114.trans (congrArg some (by kernel_rfl))
  f245:=Tryz.func115.trans (congrArg some (by kernel_rfl))
  f246:=Tryz.func158.trans (congrArg some (by kernel_rfl))
  f247:=Tryz.func138.trans (congrArg some (by kernel_rfl))
  f279:=Tryz.func139.trans (congrArg some (by kernel_rfl))
  f280:=Tryz.func140.trans (congrArg some (by kernel_rfl))
  f281:=Tryz.func141.trans (congrArg some (by kernel_rfl))
  f282:=Tryz.func142.trans (congrArg some (by kernel_rfl))
  f283:=Tryz.func178.trans (congrArg some (by kernel_rfl))
  f284:=Tryz.func179.trans (congrArg some (by kernel_rfl))
  f285:=Tryz.func180.trans (congrArg some (by kernel_rfl))
  f286:=Tryz.func181.trans (congrArg some (by kernel_rfl))
  f287:=Tryz.func168.trans (congrArg some (by kernel_rfl))
  f316:=Tryz.func169.trans (congrArg some (by kernel_rfl))
  f317:=Tryz.func191.trans (congrArg some (by kernel_rfl))
  f318:=Tryz.func192.trans (congrArg some (by kernel_rfl))
  f319:=Tryz.func193.trans (congrArg some (by kernel_rfl))
  f320:=Tryz.func194.trans (congrArg some (by kernel_rfl))
  f321:=Tryz.func184.trans (congrArg some (by kernel_rfl))
  f322:=Tryz.func185.trans (congrArg some (by kernel_rfl))
  f337:=Tryz.func198.trans (congrArg some (by kernel_rfl))
  f338:=Tryz.func199.trans (congrArg some (by kernel_rfl))
  t0:=EL
  a0:=aC5
  z0:=Y6
  v0:=ID
  t2:=Tryz.underlying2
  a2:=Tryz.isAgg2
  z2:=Tryz.sizeOf2
  v2:=Tryz.zeroValue2
  t3:=cJ
  a3:=aL
  z3:=Tryz.sizeOf3
  v3:=qO
  t4:=lS
  a4:=cK
  z4:=Tryz.sizeOf4
  v4:=IC
  t5:=bV
  a5:=rM
  z5:=eL
  v5:=mZ
  t9:=aC
  a9:=aQ
  z9:=Tryz.sizeOf9
  v9:=gM
  t20:=Y5
  a20:=aHH
  z20:=aG1
  v20:=aCS
  t21:=Tryz.underlying21
  a21:=Tryz.isAgg21
  z21:=Tryz.sizeOf21
  v21:=Tryz.zeroValue21
  t37:=cL
  a37:=gL
  z37:=Tryz.sizeOf50
  v37:=aCQ
  t46:=iD
  a46:=DQ
  z46:=AN
  v46:=sL
  t51:=AJ
  a51:=RC
  z51:=NW
  v51:=CF
  t53:=fQ
  a53:=sP
  z53:=qC
  v53:=pA
  t75:=mK
  a75:=Tryz.isAgg132
  z75:=Tryz.sizeOf132
  v75:=Tryz.zeroValue132
  t76:=Tryz.underlying133
  a76:=Tryz.isAgg133
  z76:=Tryz.sizeOf133
  v76:=Tryz.zeroValue133
  t85:=Tryz.underlying174
  a85:=Tryz.isAgg174
  z85:=Tryz.sizeOf174
  v85:=Tryz.zeroValue174
  t127:=AK
  a127:=Tryz.isAgg158
  z127:=Tryz.sizeOf158
  v127:=Tryz.zeroValue158
  t143:=Tryz.underlying220
  a143:=Tryz.isAgg220
  z143:=Tryz.sizeOf220
  v143:=Tryz.zeroValue220
  t145:=Tryz.underlying222
  a145:=Tryz.isAgg222
  z145:=Tryz.sizeOf222
  v145:=Tryz.zeroValue222
  t167:=Tryz.underlying173
  a167:=Tryz.isAgg173
  z167:=Tryz.sizeOf173
  v167:=Tryz.zeroValue173
  t168:=Tryz.underlying176
  a168:=Tryz.isAgg176
  z168:=Tryz.sizeOf176
  v168:=Tryz.zeroValue176
  t171:=Tryz.underlying215
  a171:=Tryz.isAgg215
  z171:=Tryz.sizeOf215
  v171:=Tryz.zeroValue215
  t173:=Tryz.underlying217
  a173:=Tryz.isAgg217
  z173:=Tryz.sizeOf217
  v173:=Tryz.zeroValue217
  t175:=Tryz.underlying203
  a175:=Tryz.isAgg203
  z175:=Tryz.sizeOf203
  v175:=Tryz.zeroValue203
  t210:=Tryz.underlying206
  a210:=Tryz.isAgg206
  z210:=Tryz.sizeOf206
  v210:=Tryz.zeroValue206
  t212:=Tryz.underlying229
  a212:=Tryz.isAgg229
  z212:=Tryz.sizeOf229
  v212:=Tryz.zeroValue229
  t213:=Tryz.underlying230
  a213:=Tryz.isAgg230
  z213:=Tryz.sizeOf230
  t232:=Tryz.underlying234
  a232:=Tryz.isAgg234
  z232:=Tryz.sizeOf234
  v232:=Tryz.zeroValue234
  t233:=Tryz.underlying235
  a233:=Tryz.isAgg235
  z233:=Tryz.sizeOf235
  v233:=Tryz.zeroValue235
  g15:=by kernel_rfl
  g16:=by kernel_rfl
  g17:=by kernel_rfl
  g18:=by kernel_rfl
  g19:=by kernel_rfl
  t80:=Tryz.underlying46
  a80:=Tryz.isAgg46
  z80:=Tryz.sizeOf46
  v80:=Tryz.zeroValue46
  i0:=by kernel_rfl
  i2:=by kernel_rfl
  i3:=by kernel_rfl
  i4:=by kernel_rfl
  i5:=by kernel_rfl
  i9:=by kernel_rfl
  i20:=by kernel_rfl
  i21:=by kernel_rfl
  i37:=by kernel_rfl
  i46:=by kernel_rfl
  i51:=by kernel_rfl
  i53:=by kernel_rfl
  i75:=by kernel_rfl
  i76:=by kernel_rfl
  i80:=by kernel_rfl
  i85:=by kernel_rfl
  i127:=by kernel_rfl
  i143:=by kernel_rfl
  i145:=by kernel_rfl
  i167:=by kernel_rfl
  i168:=by kernel_rfl
  i171:=by kernel_rfl
  i173:=by kernel_rfl
  i175:=by kernel_rfl
  i210:=by kernel_rfl
  i212:=by kernel_rfl
  i232:=by kernel_rfl
  i233:=by kernel_rfl
  m15:=by kernel_rfl
  m16:=by kernel_rfl
  m17:=by kernel_rfl
  m18:=by kernel_rfl
  m19:=by kernel_rfl
  c0:=by kernel_rfl
  c2:=by kernel_rfl
  c3:=by kernel_rfl
  c4:=by kernel_rfl
  c5:=by kernel_rfl
  c9:=by kernel_rfl
  c20:=by kernel_rfl
  c21:=by kernel_rfl
  c37:=by kernel_rfl
  c46:=by kernel_rfl
  c51:=by kernel_rfl
  c53:=by kernel_rfl
  c75:=by kernel_rfl
  c76:=by kernel_rfl
  c80:=by kernel_rfl
  c85:=by kernel_rfl
  c127:=by kernel_rfl
  c143:=by kernel_rfl
  c145:=by kernel_rfl
  c167:=by kernel_rfl
  c168:=by kernel_rfl
  c171:=by kernel_rfl
  c173:=by kernel_rfl
  c175:=by kernel_rfl
  c210:=by kernel_rfl
  c212:=by kernel_rfl
  c213:=by kernel_rfl
  c232:=by kernel_rfl
  c233:=by kernel_rfl}
end Go.Proofs
namespace Go.Proofs.YtmkgeogoojcciaaGreatDoor
open Go.Proofs.Tryz
open Go.Abs
theorem aEL (s:ByteArray) (hs:s.size < 1099511627776) (H:aE):aK Tryz.prog 82 [sv s] H (fun r H'=>r=.tup [iv (xB s).1,.pv (xB s).2]∧H'=H) :=Go.Abs.atoi_c aHl (G1:=0) (G2:=1) (by unfold M6;exact .tail _ (.tail _ (.head _))) (by kernel_rfl) (by unfold M6;exact .tail _ (.head _)) (by kernel_rfl) s hs H
end Go.Proofs.YtmkgeogoojcciaaGreatDoor
end
namespace Go.Abs
open Go.Proofs
section
section
variable {P:Program} {N:Nat} {o:Oper} {E:bZ} {H:aE} {t t':TypeId} {x:Operand}
theorem SJ (ho:o.op=.binOp .neq t x (.const .nilIface) t') (ht:P.underlying t=some (.interface (P.methodsAt t))) (hx:aS E x=some (.pv SS)):bS P N o E H (.pv (.bool false)) H :=.of_run fun a w I ι _ he=>⟨.bool false,by
  have e1:a.eval x=.nilIface:=(aN he hx).sat_inv;have e2:a.eval (.const .nilIface)=.nilIface:=rfl;simp only [execOp,ho,e1,e2,eqGuard,Sem.run_bind,Sem.run_pure,Result.andThen_ok,run_neq_nil_nil _ _ ht,Bool.or_true,if_true,Bool.not_true,Bool.false_eq_true,if_false],.pv (.bool _)⟩
theorem SK (ho:o.op=.binOp .neq t x (.const .nilIface) t') (ht:P.underlying t=some (.interface (P.methodsAt t))) (hx:aS E x=some (.pv X4)):bS P N o E H (.pv (.bool true)) H :=.of_run fun a w I ι _ he=>⟨.bool true,by
  obtain ⟨q,p,e1⟩:aE3 (a.eval x):=(aN he hx).sat_inv;have e2:a.eval (.const .nilIface)=.nilIface:=rfl;simp only [execOp,ho,e1,e2,eqGuard,Sem.run_bind,Sem.run_pure,Result.andThen_ok,run_neq_held_nil _ _ _ _ ht];rfl,.pv (.bool _)⟩
end
end
end Go.Abs
namespace Go.Proofs.YtmkgeogoojcciaaGreatDoor
open Go.Proofs.Tryz
open Go.Abs
abbrev JL (n:Nat):List AV:=[iv ((64*n:Nat):Int),iv ((64*(n+1):Nat):Int)]
theorem OP (n:Nat):[iv (64*(n:Int)),iv (64*((n:Int)+1))]=JL n:=by
 have e1:64*(n:Int)=((64*n:Nat):Int):=by omega
 have e2:64*((n:Int)+1)=((64*(n+1):Nat):Int):=by omega
 rw [e1,e2]
theorem fY {s:DSt} {n:Nat}:fK s (n:Int)=decide (n < s.cells.length):=by unfold fK;rw [Bool.eq_iff_iff];simp
theorem mQ (s:DSt) (k:Int):fK s k=false∨∃ n:Nat,k=(n:Int)∧n < s.cells.length:=by
 cases h:fK s k with
 | false=>exact .inl rfl
 | true =>
  obtain ⟨h0,h1⟩:0≤k∧k < (s.cells.length:Int):=by simpa [fK] using h
  exact .inr ⟨k.toNat,by omega,by omega⟩
theorem aCC (s:DSt) (k:Int) (hs:DOk s) (e:s.off=true):aK Tryz.prog 81 [.ref 1000 0 0 0,iv k] (bN s) (fun r H'=>r=.tup [.agg [iv 0,iv 0],iv 22]∧H'=bN s):=by have h:=aCD s k hs;simp only [TK,atE,e,if_true] at h;exact h
theorem aE8 (s:DSt) (k:Int) (hs:DOk s) (e:s.off=false) (e2:fK s k=false):aK Tryz.prog 81 [.ref 1000 0 0 0,iv k] (bN s) (fun r H'=>r=.tup [.agg [iv 0,iv 0],iv 1]∧H'=bN s):=by have h:=aCD s k hs;simp only [TK,atE,e,e2,pC,Bool.false_eq_true,if_false] at h;exact h
theorem aCB (s:DSt) (n:Nat) (hs:DOk s) (e:s.off=false) (e2:n < s.cells.length):aK Tryz.prog 81 [.ref 1000 0 0 0,iv (n:Int)] (bN s) (fun r H'=>r=.tup [.agg (JL n),iv 0]∧H'=bN s):=by
 have h:=aCD s n hs;have e3:fK s (n:Int)=true:=by rw [fY];simpa using e2
 simp only [TK,atE,e,e3,pC,Bool.false_eq_true,if_false,if_true,OP] at h;exact h
theorem XE (s:DSt) (hs:DOk s) {n:Nat} {c t:ByteArray} (hc:s.cells[n]?=some c) (ht:t.size≤64) :
  (bP (flat s.cells)).take (64*n)++(bP (t.data.toList.take t.size)++(bP (flat s.cells)).drop (64*n+t.size))=bP (flat (s.cells.set n (tJ t c))):=by
 rw [← aAG hs.c hc ht];simp only [bP,List.map_append,List.map_take,List.map_drop]
abbrev dH (r:List AV) (l:List ByteArray) (s:DSt):aE:=[(1000,⟨0,4,80,[r]⟩),(1001,⟨0,1,5,bP (flat l)⟩),(1002,⟨s.gq,3,103,vK s.q⟩),(1003,⟨s.ga,3,100,mI s.arm⟩)]
theorem aEV (s:DSt) (n:Nat) (c t:ByteArray) (hs:DOk s) (hc:s.cells[n]?=some c) (ht:t.size≤64) :
  aK Tryz.prog 61 [.ref 1000 0 0 0,.agg (JL n),sv t] (bN s) (fun r H'=>r=.tup []∧H'=bN {s with cells:=s.cells.set n (tJ t c)}):=by
 have hlt:=(aHv.1 hc).1;have hfl:=mU hs.c;have hmin:min t.size (64*(n+1) - 64*n)=t.size:=by omega
 have hrows:(bP (flat s.cells)).take (0+64*n)++(bP (t.data.toList.take t.size)++(bP (flat s.cells)).drop (0+64*n+t.size))=bP (flat (s.cells.set n (tJ t c))):=by
  rw [aIJ];exact XE s hs hc ht
 have hlen:(s.cells.set n (tJ t c)).length=s.cells.length:=List.length_set;refine Bd func61 rfl ntmps61<|Sr<|Dd (by exact jQ (id:=4) rfl rfl rfl rfl rfl)<|Zz<|bF follows<|Cr [1000] (fun _ _=>aB)<|Cr [1000] (fun H1 hH=>by exact bK rfl rfl ((hH _ rfl).trans rfl) rfl)<|Cr [1000] (fun _ h=>fh HA h)<|Cr [1000] (fun _ h=>lh gL h)<|Cr [4] (fun _ h=>fh G9 h)<|Cr [4] (fun _ h=>lh aL h)<|Cr [4] (fun _ h=>fh aBT h)<|Cr [4] (fun _ h=>lh aL h)<|Cr [1001] (fun H1 hH=>by exact jF (l:=(64*n)) (h:=(64*(n+1))) rfl sZ rfl ((hH _ rfl).trans rfl) rfl rfl rfl rfl (by omega) (by omega) rfl rfl)<|Cr [] (fun _ _=>aB)<|Cp [1001] (fun H1 hH=>by exact RG rfl sZ rfl ((hH _ rfl).trans rfl) rfl rfl rfl hmin hrows)<|cA<|Kr ?_;refine eQ (H':=dH (mY s) (s.cells.set n (tJ t c)) s) (by exact .inl rfl) rfl  (Fin.wk (by(simp;done)) (Hc (aM _ _ rfl rfl rfl)<|Hc (aG _ _)<|Hc (aD _ _ _)<|Hc (aP _ _)<|trivial) ⟨rfl,rfl,rfl,rfl,trivial⟩) ?_;exact⟨rfl,by simp only [bN,dH,mY,hlen]⟩
theorem xE {α:Type} {l:List α} {i:Nat} {a:α} (h:l[i]?=some a):l.take (i+1)=l.take i++[a]:=by rw [List.take_add_one,h];rfl
def dL (cells:List ByteArray) (l:List (Nat×ByteArray)):List ByteArray:=l.foldl (fun cs p=>cs.set p.1 p.2) cells
theorem iT (l:List (Nat×ByteArray)):∀ cells:List ByteArray,(dL cells l).length=cells.length:=by
 induction l with
 | nil=>intro cells;rfl
 | cons p l ih=>intro cells;show (dL (cells.set p.1 p.2) l).length=_;rw [ih,List.length_set]
theorem DY (cells:List ByteArray) (l:List (Nat×ByteArray)) (p:Nat×ByteArray):dL cells (l++[p])=(dL cells l).set p.1 p.2:=by unfold dL;rw [List.foldl_append];rfl
theorem DZ {l:List (Nat×ByteArray)} (hl:∀ p,p∈l→p.2.size=64):∀ {cells:List ByteArray},(∀ c,c∈cells→c.size=64)→∀ c,c∈dL cells l→c.size=64:=by
 induction l with
 | nil=>intro cells h;exact h
 | cons p l ih =>
  intro cells h;exact ih (fun p hp=>hl p (by simp [hp])) (fun c hc=>by
   rcases List.mem_or_eq_of_mem_set hc with e|e
   ·exact h c e
   rw [e];exact hl p (by simp))
theorem MC {s:DSt} (hs:DOk s) (m:Nat):DOk {s with cells:=dL s.cells (s.q.take m)} :=⟨by simpa [iT] using hs.n1,by simpa [iT] using hs.n2,DZ (fun p hp=>(hs.q p (List.mem_of_mem_take hp)).2) hs.c,fun p hp=>by simpa [iT] using hs.q p hp,hs.ql⟩
theorem aEq (s:DSt) (n:Nat) (t:ByteArray) (hs:DOk s) (hn:n < s.cells.length) (ht:t.size=64) :
  aK Tryz.prog 61 [.ref 1000 0 0 0,.agg (JL n),sv t] (bN s) (fun r H'=>r=.tup []∧H'=bN {s with cells:=s.cells.set n t}):=by
 obtain ⟨c,hc⟩:=aY hn;have h:=aEV s n c t hs hc (by omega);rw [XF ht (hs.c c (aIB hc))] at h;exact h
theorem OU (s:DSt) (m:Nat) (hs:DOk s) (hm:m≤s.q.length) :
  aK Tryz.prog 60 [.ref 1000 0 0 0,.osl 1002 s.gq 0 m] (bN s) (fun r H'=>r=.tup []∧H'=bN {s with cells:=dL s.cells (s.q.take m)}):=by
 have hql:=hs.ql;refine Bd func60 rfl ntmps60<|Sr<|Dd aB<|Dd (by exact cM rfl sN rfl rfl rfl)<|Dd aB<|Zz<|aJ ?_;refine bG (σ:=Nat) (fun i=>([(0,.ref 1000 0 0 0),(6,.osl 1002 s.gq 0 m),(7,iv (m:Int)),(8,iv (i:Int))],bN {s with cells:=dL s.cells (s.q.take i)})) (fun i=>i≤m) (fun i=>m - i) 0 (by omega) ?_ ?_
 ·exact(cC.wk (Ea<|Ea<|Eb<|Eb<|trivial) (Hc (aM _ _ rfl rfl rfl)<|Hc (aG _ _)<|Hc (aD _ _ _)<|Hc (aP _ _)<|trivial) ⟨rfl,rfl,rfl,rfl,trivial⟩)
 rintro i hi;refine Sr<|Dd cP<|Zz<|Sq ?_;refine Cn ?_ ?_<;>intro hc1
 ·have hlt:i < m:=by have:=aHn hc1;omega
  obtain ⟨p,hp⟩:=aY (show i < s.q.length by omega);have hpe:(vK s.q)[0+i]?=some ((lO p).map .pv):=by rw [aIJ,aIL,hp];rfl
  obtain ⟨hp1,hp2⟩:=hs.q p (aIB hp);have hset:=aEq {s with cells:=dL s.cells (s.q.take i)} p.1 p.2 (MC hs i) (by simpa [iT] using hp1) hp2;have hn:dL s.cells (s.q.take (i+1))=(dL s.cells (s.q.take i)).set p.1 p.2:=by rw [xE hp,DY]
  rw [← hn] at hset;refine aF<|Sq<|aJ<|Sr<|Dd (by exact dE rfl RN rfl rfl rfl rfl rfl (by omega) (by exact aIC _) (by omega) rfl)<|Dd (by exact eW rfl isAgg103 AO rfl rfl rfl hpe (by simp only [Zl,lO];rfl) rfl)<|Dd (by exact dW (id:=5) rfl aES rfl rfl)<|Uu (vJ AO)<|Zz<|Rg<|Dd aB<|Dd (cI ND)<|Dd (ln' kN sizeOf96)<|Dd (cI NC)<|Dd (cW aQ)<|Dd (by exact aA rfl rfl call61 rfl (cG hset _ ⟨rfl,rfl,rfl,rfl,trivial⟩ (by(simp;rfl))))<|Zz<|Rg<|Dd rL<|Dd aB<|Zz ?_;refine⟨i+1,by omega,by omega,?_⟩;exact(cC.wk (Ea<|Ea<|Eb<|Eb<|trivial) (Hc (aM _ _ rfl rfl rfl)<|Hc (aG _ _)<|Hc (aD _ _ _)<|Hc (aP _ _)<|trivial) ⟨rfl,rfl,rfl,rfl,trivial⟩)
 have hge:i=m:=by have:¬ _:=aHo hc1;omega
 subst hge;refine aV ?_;refine eQ (H':=bN {s with cells:=dL s.cells (s.q.take i)}) (by exact .inl rfl) rfl  (Fin.wk (by(simp;done)) (Hc (aM _ _ rfl rfl rfl)<|Hc (aG _ _)<|Hc (aD _ _ _)<|Hc (aP _ _)<|trivial) ⟨rfl,rfl,rfl,rfl,trivial⟩) ?_;exact Qq
def qZ:Arm→Arm
 | .never=>.never
 | .off a w b=>.off a w b
 | .on a w b=>.off a w b
theorem AE (a:Arm):mI (qZ a)=mI a:=by cases a<;>rfl
theorem AD (g:Nat) (a:Arm):aCI g (qZ a)=.pv .nilp:=by cases a<;>rfl
def IE (cells:List ByteArray) (b:Int):Option (Nat×ByteArray)→List ByteArray
 | none=>cells
 | some p=>if 0 < b then cells.set p.1 (tJ (p.2.extract 0 (min b 64).toNat) ((cells[p.1]?).getD ⟨#[]⟩))else cells
def yZ (s:DSt) (w:Int):Nat:=min w.toNat s.q.length
def lY (s:DSt) (w b:Int):List ByteArray:=IE (dL s.cells (s.q.take (yZ s w))) b (s.q[yZ s w]?)
def fV (s:DSt) (w b:Int):DSt:=if s.off then s else {s with cells:=lY s w b,q:=[],off:=true,arm:=qZ s.arm,gq:=s.gq+1}
theorem ZY (cells:List ByteArray) (b:Int) (p:Option (Nat×ByteArray)):(IE cells b p).length=cells.length:=by
 unfold IE;split
 ·rfl
 split<;>simp
theorem DH (s:DSt) (w b:Int):(lY s w b).length=s.cells.length:=by rw [lY,ZY,iT]
abbrev VO (s:DSt) (l:List ByteArray):aE:=[(1000,⟨0,4,80,[[.osl 1001 0 0 (64*l.length),.osl 1002 (s.gq+1) 0 0,bv true,.pv .nilp]]⟩),(1001,⟨0,1,5,bP (flat l)⟩),(1002,⟨s.gq+1,3,103,[]⟩),(1003,⟨s.ga,3,100,mI s.arm⟩)]
theorem aBY (s:DSt) (w b:Int) (h:s.off=false):VO s (lY s w b)=bN (fV s w b):=by simp only [fV,h,Bool.false_eq_true,if_false,bN,mY,AE,AD,List.length_nil,List.map_nil]
theorem HD {t:ByteArray} {k:Nat} (h:k≤t.size):(t.extract 0 k).size=k:=by simp;omega
theorem NH (s:DSt) (w b:Int) (hs:DOk s) :
  aK Tryz.prog 29 [.ref 1000 0 0 0,iv w,iv b] (bN s) (fun r H'=>r=.tup []∧H'=bN (fV s w b)):=by
 have hql:=hs.ql;obtain ⟨m,hm⟩:∃ m,m=yZ s w:=⟨_,rfl⟩;have hmw:min (max w 0) (s.q.length:Int)=(m:Int):=by rw [hm];unfold yZ;omega
 have hml:m≤s.q.length:=by rw [hm];unfold yZ;omega
 have hpo:=MC hs m;refine Bd func29 rfl ntmps29<|Sq<|Sq ?_;refine cQ (t:=16) (n:=9) (X:=s.off) ?_ ?_
 ·all_goals refine Dd aB ?_
  all_goals refine Dd (by exact bR rfl dN rfl rfl rfl rfl)<|Dm ?_
  all_goals refine Sp 11 (fun h11=>?_) fun h11=>?_
  all_goals try contradiction
  all_goals refine On aB<|On dY<|On (cI wS)<|On (cW cK)<|Dd cX<|Zz ?_
  all_goals(exact⟨⟨_,rfl,by rfl⟩,rfl,rfl,rfl⟩)
 refine Cn ?_ ?_<;>intro hc1
 ·refine aH ?_;refine eQ (H':=bN s) (.inr rfl) rfl  (Fin.wk (by(simp;done)) (Hc (aM _ _ rfl rfl rfl)<|Hc (aG _ _)<|Hc (aD _ _ _)<|Hc (aP _ _)<|trivial) ⟨rfl,rfl,rfl,rfl,trivial⟩) ?_;exact⟨rfl,by simp [fV,hc1]⟩
 have hdf:=aBY s w b hc1;refine aF<|Sr<|Dd aB<|Dd (by exact BF rfl rfl rfl rfl)<|Dd aB<|Dd dY<|Dd (cI nK)<|Dd (cW mL)<|Dd (by exact cM rfl sN rfl rfl rfl)<|Dd (by exact uN rfl rfl rfl hmw)<|Dd aR<|Zz<|Sr<|Dd aB<|Dd aB<|Dd dY<|Dd (cI nK)<|Dd (cW mL)<|Dd aB<|Dd (by exact jF (l:=0) (h:=m) rfl RN rfl rfl rfl rfl rfl rfl (by omega) (by omega) rfl rfl)<|Dd (by exact aA rfl rfl call60 rfl (cG (OU s m hs hml) _ ⟨rfl,rfl,rfl,rfl,trivial⟩ (by(simp;exact⟨rfl,rfl⟩))))<|Zz<|Sq<|Sr<|Dd aB<|Dd aB<|Dd dY<|Dd (cI nK)<|Dd (cW mL)<|Dd (by exact cM rfl sN rfl rfl rfl)<|Dd cP<|Zz ?_;refine Cn ?_ ?_<;>intro hc2
 ·have hlt:m < s.q.length:=Int.ofNat_lt.1 (aHn hc2);obtain ⟨p,hp⟩:=aY hlt;have hpe:(vK s.q)[0+m]?=some ((lO p).map .pv):=by rw [aIJ,aIL,hp];rfl
  obtain ⟨hp1,hp2⟩:=hs.q p (aIB hp);have hkm:min (max b 0) 64=((min b 64).toNat:Int):=by omega
  have hkl:(min b 64).toNat≤64:=by omega
  refine Sr<|Dd aB<|Dd dY<|Dd (cI nK)<|Dd (cW mL)<|Dd aB<|Dd (by exact dE rfl RN rfl rfl rfl rfl rfl (by omega) (by exact aIC _) (by omega) rfl)<|Dd (by exact eW rfl isAgg103 AO rfl rfl rfl hpe (by simp only [Zl,lO];rfl) rfl)<|Dd (by exact dW (id:=7) rfl aES rfl rfl)<|Uu (vJ AO)<|Zz<|Sr<|Dd aB<|Dd (by exact BF rfl rfl rfl rfl)<|Dd (by exact uN rfl rfl rfl hkm)<|Dd aR<|Zz<|Sr<|Dd aB<|Dd yP<|Zz ?_;refine Cn ?_ ?_<;>intro hc3
  ·have hb:0 < b:=by have:=aHn hc3;omega
   obtain ⟨c,hc⟩:=aY (show p.1 < (dL s.cells (s.q.take m)).length by rw [iT];exact hp1);have hts:(p.2.extract 0 (min b 64).toNat).size≤64:=by rw [HD (by omega)];exact hkl
   have hset:=aEV {s with cells:=dL s.cells (s.q.take m)} p.1 c (p.2.extract 0 (min b 64).toNat) hpo hc hts;have hfc:lY s w b=(dL s.cells (s.q.take m)).set p.1 (tJ (p.2.extract 0 (min b 64).toNat) c):=by
    rw [lY,← hm,hp];simp only [IE,aHq hb,hc,Option.getD_some]
   rw [hfc] at hdf;refine bF follows<|Cr [] (fun _ _=>aB)<|Cr [7] (fun _ h=>fh ND h)<|Cr [7] (fun H1 hH=>by exact eW rfl kN sizeOf96 rfl ((hH _ rfl).trans rfl) rfl rfl rfl rfl)<|Cr [7] (fun _ h=>fh NC h)<|Cr [7] (fun _ h=>lh aQ h)<|Cr [] (fun _ _=>aB)<|Cr [] (fun H1 hH=>by exact bQ (l:=0) (h:=(min b 64).toNat) rfl aC rfl rfl rfl (by omega) (by omega) rfl) ?_;refine dI (r:=⟨_,some [1000,1001,1002,1003],_⟩) (DStep.plain rfl (fun H1 hH=>by exact aA rfl rfl call61 rfl (cG hset _ ⟨(hH 1000 rfl).trans rfl,(hH 1001 rfl).trans rfl,(hH 1002 rfl).trans rfl,(hH 1003 rfl).trans rfl,trivial⟩ (by simp;rfl)))) rfl ?_;refine cA<|Kr<|Sr<|Dd aB<|Dd dY<|Dd (cI nK)<|Uu (by exact gT (q:=1002) (sz:=3) (ty:=103) rfl sizeOf77 rfl rfl rfl rfl rfl rfl rfl rfl (by simp) (by simp only [mY,List.set_cons_succ,List.set_cons_zero];rfl) (by simp only [List.set_cons_zero];rfl))<|Zz<|Sr<|Dd aB<|Dd dY<|Dd (cI wS)<|Uu (by exact bU rfl sizeOf4 rfl rfl rfl rfl rfl rfl (by simp only [aHt,List.length_nil];omega) (by simp only [Zl,lO];rfl) (by simp only [Zl,lO];rfl))<|Zz<|Rg<|Dd aB<|Dd dY<|Dd (cI oF)<|Uu (by exact bU rfl sizeOf78 rfl rfl rfl rfl rfl rfl (by simp only [aHt,List.length_nil];omega) (by simp only [Zl,lO];rfl) (by simp only [Zl,lO];rfl))<|Zz ?_;refine eQ (H':=VO s ((dL s.cells (s.q.take m)).set p.1 (tJ (p.2.extract 0 (min b 64).toNat) c))) (by exact .inl rfl) rfl  (Fin.wk (by(simp;done)) (Hc (by(simp;exact⟨rfl,rfl⟩))<|Hc (aG _ _)<|Hb<|Hc (aP _ _)<|trivial) ⟨rfl,rfl,rfl,rfl,trivial⟩) ?_;exact⟨rfl,hdf⟩
  have hb:¬ 0 < b:=by have:¬ _:=aHo hc3;omega
  have hfc:lY s w b=dL s.cells (s.q.take m):=by
   rw [lY,← hm,hp];simp only [IE,aHp hb]
  rw [hfc] at hdf;refine aF<|Sr<|Dd aB<|Dd dY<|Dd (cI nK)<|Uu (by exact gT (q:=1002) (sz:=3) (ty:=103) rfl sizeOf77 rfl rfl rfl rfl rfl rfl rfl rfl (by simp) (by simp only [mY,List.set_cons_succ,List.set_cons_zero];rfl) (by simp only [List.set_cons_zero];rfl))<|Zz<|Sr<|Dd aB<|Dd dY<|Dd (cI wS)<|Uu (by exact bU rfl sizeOf4 rfl rfl rfl rfl rfl rfl (by simp only [aHt,List.length_nil];omega) (by simp only [Zl,lO];rfl) (by simp only [Zl,lO];rfl))<|Zz<|Rg<|Dd aB<|Dd dY<|Dd (cI oF)<|Uu (by exact bU rfl sizeOf78 rfl rfl rfl rfl rfl rfl (by simp only [aHt,List.length_nil];omega) (by simp only [Zl,lO];rfl) (by simp only [Zl,lO];rfl))<|Zz ?_;refine eQ (H':=VO s (dL s.cells (s.q.take m))) (by exact .inl rfl) rfl  (Fin.wk (by(simp;done)) (Hc (by(simp;exact⟨rfl,rfl⟩))<|Hc (aG _ _)<|Hb<|Hc (aP _ _)<|trivial) ⟨rfl,rfl,rfl,rfl,trivial⟩) ?_;exact⟨rfl,hdf⟩
 have hge:s.q.length≤m:=Nat.not_lt.1 (fun h=>aHo hc2 (Int.ofNat_lt.2 h));have hfc:lY s w b=dL s.cells (s.q.take m):=by
  rw [lY,← hm,List.getElem?_eq_none hge];rfl
 rw [hfc] at hdf;refine aF<|Sr<|Dd aB<|Dd dY<|Dd (cI nK)<|Uu (by exact gT (q:=1002) (sz:=3) (ty:=103) rfl sizeOf77 rfl rfl rfl rfl rfl rfl rfl rfl (by simp) (by simp only [mY,List.set_cons_succ,List.set_cons_zero];rfl) (by simp only [List.set_cons_zero];rfl))<|Zz<|Sr<|Dd aB<|Dd dY<|Dd (cI wS)<|Uu (by exact bU rfl sizeOf4 rfl rfl rfl rfl rfl rfl (by simp only [aHt,List.length_nil];omega) (by simp only [Zl,lO];rfl) (by simp only [Zl,lO];rfl))<|Zz<|Rg<|Dd aB<|Dd dY<|Dd (cI oF)<|Uu (by exact bU rfl sizeOf78 rfl rfl rfl rfl rfl rfl (by simp only [aHt,List.length_nil];omega) (by simp only [Zl,lO];rfl) (by simp only [Zl,lO];rfl))<|Zz ?_;refine eQ (H':=VO s (dL s.cells (s.q.take m))) (by exact .inl rfl) rfl  (Fin.wk (by(simp;done)) (Hc (by(simp;exact⟨rfl,rfl⟩))<|Hc (aG _ _)<|Hb<|Hc (aP _ _)<|trivial) ⟨rfl,rfl,rfl,rfl,trivial⟩) ?_;exact⟨rfl,hdf⟩
theorem V8 {cells:List ByteArray} (hc:∀ c,c∈cells→c.size=64) {b:Int} {p:Option (Nat×ByteArray)} (hp:∀ x,p=some x→x.1 < cells.length∧x.2.size=64):∀ c,c∈IE cells b p→c.size=64:=by
 unfold IE
 split
 ·exact hc
 next x =>
 obtain ⟨h1,h2⟩:=hp x rfl
 split
 ·intro c hm;rcases List.mem_or_eq_of_mem_set hm with h|h
  ·exact hc c h
  obtain ⟨d,hd⟩:=aY h1;have hd2:=hc d (aIB hd);have e1:(x.2.extract 0 (min b 64).toNat).size=(min b 64).toNat:=HD (by omega);rw [h,hd,Option.getD_some,XD (by omega),hd2]
 exact hc
theorem VN {s:DSt} (hs:DOk s) (w b:Int):DOk (fV s w b):=by
 unfold fV
 split
 ·exact hs
 refine⟨by simpa [DH] using hs.n1,by simpa [DH] using hs.n2,?_,by simp,by simp⟩;refine V8 (DZ (fun p hp=>(hs.q p (List.mem_of_mem_take hp)).2) hs.c) (fun x hx=>?_);rw [iT];exact hs.q x (aIB hx)
def eK (s:DSt):DSt:=match s.arm with
 | .on a w b=>if 0 < a then {s with arm:=.on (a - 1) w b} else fV s w b
 | _=>s
def eG (s:DSt):Int:=match s.arm with
 | .on a w b=>if 0 < a then 0 else 22
 | _=>0
def HW (s:DSt):Prop:=∀ a w b,s.arm=.on a w b→a≤9223372036854775807
theorem QG (s:DSt) (hs:DOk s) (ha:HW s) :
  aK Tryz.prog 147 [.ref 1000 0 0 0] (bN s) (fun r H'=>r=iv (eG s)∧H'=bN (eK s)):=by
 obtain ⟨cells,q,off,arm,gq,ga⟩:=s;cases arm with
 | never =>
  refine Bd aHJ rfl aG3<|Sr<|Dd aR<|Zz<|Sq<|Sr<|Dd aB<|Dd dY<|Dd (cI oF)<|Dd (cW sQ)<|Dd (by exact dF rfl Y2 rfl rfl)<|Zz ?_;refine Cn ?_ ?_<;>intro hc1
  ·refine Sr<|Dd aR<|Zz<|aH ?_;refine bI (H':=bN ⟨cells,q,off,.never,gq,ga⟩) (.inr rfl) rfl (aI rfl) (Fin.wk (by(simp;done)) (Hc (aM _ _ rfl rfl rfl)<|Hc (aG _ _)<|Hc (aD _ _ _)<|Hc (aP .never _)<|trivial) ⟨rfl,rfl,rfl,rfl,trivial⟩) ?_;exact Qq
  cases hc1
 | off a w b =>
  refine Bd aHJ rfl aG3<|Sr<|Dd aR<|Zz<|Sq<|Sr<|Dd aB<|Dd dY<|Dd (cI oF)<|Dd (cW sQ)<|Dd (by exact dF rfl Y2 rfl rfl)<|Zz ?_;refine Cn ?_ ?_<;>intro hc1
  ·refine Sr<|Dd aR<|Zz<|aH ?_;refine bI (H':=bN ⟨cells,q,off,.off a w b,gq,ga⟩) (.inr rfl) rfl (aI rfl) (Fin.wk (by(simp;done)) (Hc (aM _ _ rfl rfl rfl)<|Hc (aG _ _)<|Hc (aD _ _ _)<|Hc (aP (.off _ _ _) _)<|trivial) ⟨rfl,rfl,rfl,rfl,trivial⟩) ?_;exact Qq
  cases hc1
 | on a w b =>
  have ha':=ha a w b rfl;refine Bd aHJ rfl aG3<|Sr<|Dd aR<|Zz<|Sq<|Sr<|Dd aB<|Dd dY<|Dd (cI oF)<|Dd (cW sQ)<|Dd (by exact bR rfl Y2 rfl rfl rfl rfl)<|Zz ?_;refine Cn ?_ ?_<;>intro hc1
  ·cases hc1
  refine aF<|Sq<|Sr<|Dd aB<|Dd dY<|Dd (cI oF)<|Dd (cW sQ)<|Dd dY<|Dd (cI NE)<|Dd (cW aL)<|Dd yP<|Zz ?_;refine Cn ?_ ?_<;>intro hc2
  ·have h0:0 < a:=aHn hc2;refine Sr<|Dd aB<|Dd dY<|Dd (cI oF)<|Dd (cW sQ)<|Dd dY<|Dd (cI NE)<|Dd (cW aL)<|Dd (by exact dG rfl rfl rfl (by exact eS (by omega) (by omega)))<|Dd dY<|Dd (cI NE)<|Uu (by exact bU (r:=[iv a,iv w,iv b]) rfl sizeOf3 rfl rfl rfl rfl rfl rfl (by simp) rfl rfl)<|Zz<|Sr<|Dd aR<|Zz<|aH ?_;refine bI (H':=bN ⟨cells,q,off,.on (a - 1) w b,gq,ga⟩) (.inr rfl) rfl (aI rfl) (Fin.wk (by(simp;done)) (Hc (aM _ _ rfl rfl rfl)<|Hc (aG _ _)<|Hc (aD _ _ _)<|Hc (aP (.off _ _ _) _)<|trivial) ⟨rfl,rfl,rfl,rfl,trivial⟩) ?_;exact⟨by simp [eG,h0],by simp only [eK,aHq h0]⟩
  have h0:¬ 0 < a:=aHo hc2;refine aF<|Sq<|bF follows<|Cr [1000] (fun _ _=>aB)<|Cr [1000] (fun _ _=>aB)<|Cr [1000] (fun H1 hH=>by exact bK rfl rfl ((hH _ rfl).trans rfl) rfl)<|Cr [1000] (fun _ h=>fh oF h)<|Cr [1000] (fun _ h=>lh sQ h)<|Cr [1003] (fun H1 hH=>by exact bK rfl rfl ((hH _ rfl).trans rfl) rfl)<|Cr [1003] (fun _ h=>fh aDq h)<|Cr [1003] (fun _ h=>lh aL h)<|Cr [1000] (fun _ _=>aB)<|Cr [1000] (fun H1 hH=>by exact bK rfl rfl ((hH _ rfl).trans rfl) rfl)<|Cr [1000] (fun _ h=>fh oF h)<|Cr [1000] (fun _ h=>lh sQ h)<|Cr [1003] (fun H1 hH=>by exact bK rfl rfl ((hH _ rfl).trans rfl) rfl)<|Cr [1003] (fun _ h=>fh aDp h)<|Cr [1003] (fun _ h=>lh aL h) ?_;refine dI (r:=⟨_,some [1000,1001,1002,1003],_⟩) (DStep.plain rfl (fun H1 hH=>by exact aA rfl rfl N3 rfl (cG (NH ⟨cells,q,off,.on a w b,gq,ga⟩ w b hs) _ ⟨(hH 1000 rfl).trans rfl,(hH 1001 rfl).trans rfl,(hH 1002 rfl).trans rfl,(hH 1003 rfl).trans rfl,trivial⟩ (by(simp;rfl))))) rfl ?_;refine cA<|Kr<|Sr<|Dd aR<|Zz<|aH ?_;refine bI (H':=bN (fV ⟨cells,q,off,.on a w b,gq,ga⟩ w b)) (.inr rfl) rfl (aI rfl) (Fin.wk (by(simp;done)) (Hc (aM _ _ rfl rfl rfl)<|Hc (aG _ _)<|Hc (aD _ _ _)<|Hc (aP _ _)<|trivial) ⟨rfl,rfl,rfl,rfl,trivial⟩) ?_;exact⟨by simp [eG,h0],by simp only [eK,aHp h0]⟩
def iS (s:DSt) (n:Nat) (t:ByteArray):DSt:={s with q:=s.q++[(n,t)],gq:=s.gq+1}
theorem xD {s:DSt} (hs:DOk s) {n:Nat} {t:ByteArray} (hn:n < s.cells.length) (ht:t.size=64) (hq:s.q.length < 1048576):DOk (iS s n t) :=⟨hs.n1,hs.n2,hs.c,fun p hp=>by
  rcases List.mem_append.1 hp with h|h
  ·exact hs.q p h
  rw [aHu.1 h];exact⟨hn,ht⟩,by show (s.q++[(n,t)]).length≤_;simp;omega⟩
def gR (s:DSt) (k:Int) (t:ByteArray):DSt:=if s.off then s else if fK s k&&decide (t.size=64)then eK (iS s k.toNat t)else s
def gK (s:DSt) (k:Int) (t:ByteArray):Int:=if s.off then 22 else if fK s k&&decide (t.size=64)then eG (iS s k.toNat t)else 1
theorem aB2 (s:DSt) (p:Nat×ByteArray):s.q.length+1=(s.q++[p]).length:=by simp
theorem aCo (s:DSt) (k:Int) (t:ByteArray) (hs:DOk s) (ha:HW s) (hq:s.q.length < 1048576) :
  aK Tryz.prog 121 [.ref 1000 0 0 0,iv k,sv t] (bN s) (fun r H'=>r=iv (gK s k t)∧H'=bN (gR s k t)):=by
 refine Bd func121 rfl ntmps121 ?_;cases e:s.off with
 | true =>
  refine Sr<|Dd aR<|Zz<|Sr<|Dd aB<|Dd aB<|Dd (by exact aA rfl rfl CH rfl (cG (aCC s k hs e) _ ⟨rfl,rfl,rfl,rfl,trivial⟩ (by simp;rfl)))<|Dd aB<|Dd eC<|Dd eC<|Dd (by exact dW (id:=7) rfl AR rfl rfl)<|Uu (vJ sizeOf96)<|Dd aR<|Zz<|Sq<|Sr<|Dd aB<|Dd tM<|Zz ?_;refine Cn ?_ ?_<;>intro hc1
  ·refine Sr<|Dd aB<|Dd aR<|Zz<|aH ?_;refine bI (H':=bN s) (.inr rfl) rfl (aI rfl) (Fin.wk (by(simp;done)) (Hc (aM _ _ rfl rfl rfl)<|Hc (aG _ _)<|Hc (aD _ _ _)<|Hc (aP _ _)<|trivial) ⟨rfl,rfl,rfl,rfl,trivial⟩) ?_;exact⟨by simp [gK,e],by simp [gR,e]⟩
  cases hc1
 | false =>
  rcases mQ s k with e2|⟨n,rfl,hn⟩
  ·refine Sr<|Dd aR<|Zz<|Sr<|Dd aB<|Dd aB<|Dd (by exact aA rfl rfl CH rfl (cG (aE8 s k hs e e2) _ ⟨rfl,rfl,rfl,rfl,trivial⟩ (by simp;rfl)))<|Dd aB<|Dd eC<|Dd eC<|Dd (by exact dW (id:=7) rfl AR rfl rfl)<|Uu (vJ sizeOf96)<|Dd aR<|Zz<|Sq<|Sr<|Dd aB<|Dd tM<|Zz ?_;refine Cn ?_ ?_<;>intro hc2
   ·refine Sr<|Dd aB<|Dd aR<|Zz<|aH ?_;refine bI (H':=bN s) (.inr rfl) rfl (aI rfl) (Fin.wk (by(simp;done)) (Hc (aM _ _ rfl rfl rfl)<|Hc (aG _ _)<|Hc (aD _ _ _)<|Hc (aP _ _)<|trivial) ⟨rfl,rfl,rfl,rfl,trivial⟩) ?_;exact⟨by simp [gK,e,e2],by simp [gR,e,e2]⟩
   cases hc2
  have e2:fK s (n:Int)=true:=by rw [fY];simpa using hn
  refine Sr<|Dd aR<|Zz<|Sr<|Dd aB<|Dd aB<|Dd (by exact aA rfl rfl CH rfl (cG (aCB s n hs e hn) _ ⟨rfl,rfl,rfl,rfl,trivial⟩ (by simp;rfl)))<|Dd aB<|Dd eC<|Dd eC<|Dd (by exact dW (id:=7) rfl AR rfl rfl)<|Uu (vJ sizeOf96)<|Dd aR<|Zz<|Sq<|Sr<|Dd aB<|Dd tM<|Zz ?_;refine Cn ?_ ?_<;>intro hc3
  ·cases hc3
  refine aF<|Sq<|Sr<|Dd aB<|Dd (mD aC)<|Dd tM<|Zz ?_;refine Cn ?_ ?_<;>intro hc4
  ·have ht:¬ t.size=64:=by
    have:(!decide ((t.size:Int)=64))=true:=hc4;simp at this;omega
   refine Sr<|Dd aR<|Zz<|aH ?_;refine bI (H':=bN s) (.inr rfl) rfl (aI rfl) (Fin.wk (by(simp;done)) (Hc (aM _ _ rfl rfl rfl)<|Hc (aG _ _)<|Hc (aD _ _ _)<|Hc (aP _ _)<|trivial) ⟨rfl,rfl,rfl,rfl,trivial⟩) ?_;exact⟨by simp [gK,e,e2,ht],by simp [gR,e,e2,ht]⟩
  have ht:t.size=64:=by
   have:(!decide ((t.size:Int)=64))=false:=hc4;simp at this;omega
  have hw:=xD hs hn ht hq;have hfin:gR s n t=eK (iS s n t):=by simp [gR,e,e2,ht]
  have hfe:gK s n t=eG (iS s n t):=by simp [gK,e,e2,ht]
  refine aF<|Sq<|bF follows<|Cr [1000] (fun _ _=>aB)<|Cr [1000] (fun _ _=>aB)<|Cr [1000] (fun H1 hH=>by exact bK rfl rfl ((hH _ rfl).trans rfl) rfl)<|Cr [1000] (fun _ h=>fh nK h)<|Cr [1000] (fun _ h=>lh mL h)<|Cr [7] (fun H1 hH=>by exact eW rfl kN sizeOf96 rfl ((hH _ rfl).trans rfl) rfl rfl (by simp only [Zl,lO,mI,mY];rfl) rfl)<|Cr [] (fun _ _=>aB)<|Cr [] (fun _ _=>(RA aGW))<|Cr [] (fun H1 hH=>by exact bD [lO (n,t)] rfl RN rfl rfl rfl rfl rfl (by simp [lO]))<|Cp [1002] (fun H1 hH=>by exact dV rfl RN aGL rfl ((hH _ rfl).trans rfl) rfl rfl rfl (aHr _) rfl (by simp [lO]) (rfl:_=1) (by omega) (aB2 s (n,t)) (List.map_append (l₂:=[(n,t)])).symm)<|Cr [1000] (fun H1 hH=>by exact bK rfl rfl ((hH _ rfl).trans rfl) rfl)<|Cr [1000] (fun _ h=>fh nK h) ?_;refine Cp [1000,1002] (fun H1 hH=>by exact bU rfl sizeOf77 rfl rfl rfl ((hH _ rfl).trans rfl) rfl rfl (by simp only [aHt,List.length_nil];omega) (by simp only [Zl,lO,mI,mY];rfl) (by simp only [Zl,lO,mI,mY];rfl))<|cA<|Kr<|Sr<|Dd aB<|Dd (by exact aA rfl rfl call147 rfl (cG (QG (iS s n t) hw (fun a w b h=>ha a w b h)) _ ⟨rfl,rfl,rfl,rfl,trivial⟩ (by simp;rfl)))<|Dd aR<|Zz<|aH ?_;refine bI (H':=bN (eK (iS s n t))) (.inr rfl) rfl (aI rfl) (Fin.wk (by(simp;done)) (Hc (aM _ _ rfl rfl rfl)<|Hc (aG _ _)<|Hc (aD _ _ _)<|Hc (aP _ _)<|trivial) ⟨rfl,rfl,rfl,rfl,trivial⟩) ?_;exact⟨by rw [hfe],by rw [hfin]⟩
theorem HL {s:DSt} (hs:DOk s):DOk (eK s):=by
 unfold eK
 split
 ·split
  ·exact⟨hs.n1,hs.n2,hs.c,hs.q,hs.ql⟩
  exact VN hs _ _
 exact hs
def AF (s:DSt):DSt:={s with cells:=dL s.cells s.q,q:=[],gq:=s.gq+1}
def jJ (s:DSt):DSt:=if s.off then s else if eG s=0 then AF (eK s)else eK s
def mG (s:DSt):Int:=if s.off then 22 else eG s
theorem aEj (s:DSt) (hs:DOk s) (ha:HW s) :
  aK Tryz.prog 122 [.ref 1000 0 0 0] (bN s) (fun r H'=>r=iv (mG s)∧H'=bN (jJ s)):=by
 have hc:=HL hs;have hset:=OU (eK s) (eK s).q.length hc (aHx _);rw [List.take_length] at hset;refine Bd func122 rfl ntmps122<|Sr<|Dd aR<|Zz<|Sq<|Sr<|Dd aB<|Dd (by exact bR rfl dN rfl rfl rfl rfl)<|Zz ?_;refine Cn ?_ ?_<;>intro hc1
 ·cases hc1
 refine aF<|Sq<|Sr<|Dd aB<|Dd dY<|Dd (cI wS)<|Dd (cW cK)<|Zz ?_;refine Cn ?_ ?_<;>intro hc2
 ·have e:s.off=true:=hc2;refine Sr<|Dd aR<|Zz<|aH ?_;refine bI (H':=bN s) (.inr rfl) rfl (aI rfl) (Fin.wk (by(simp;done)) (Hc (aM _ _ rfl rfl rfl)<|Hc (aG _ _)<|Hc (aD _ _ _)<|Hc (aP _ _)<|trivial) ⟨rfl,rfl,rfl,rfl,trivial⟩) ?_;exact⟨by simp [mG,e],by simp [jJ,e]⟩
 have e:s.off=false:=hc2;refine aF<|Sq<|Sr<|Dd aB<|Dd (by exact aA rfl rfl call147 rfl (cG (QG s hs ha) _ ⟨rfl,rfl,rfl,rfl,trivial⟩ (by simp;rfl)))<|Dd aR<|Zz<|Sr<|Dd aB<|Dd tM<|Zz ?_;refine Cn ?_ ?_<;>intro hc3
 ·have e2:¬ eG s=0:=by
   have:(!decide (eG s=0))=true:=hc3
   simpa using this
  refine Sr<|Dd aB<|Dd aR<|Zz<|aH ?_;refine bI (H':=bN (eK s)) (.inr rfl) rfl (aI rfl) (Fin.wk (by(simp;done)) (Hc (aM _ _ rfl rfl rfl)<|Hc (aG _ _)<|Hc (aD _ _ _)<|Hc (aP _ _)<|trivial) ⟨rfl,rfl,rfl,rfl,trivial⟩) ?_;exact⟨by simp [mG,e],by simp [jJ,e,e2]⟩
 have e2:eG s=0:=by
  have:(!decide (eG s=0))=false:=hc3
  simpa using this
 refine aF<|Sr<|Dd aB<|Dd aB<|Dd dY<|Dd (cI nK)<|Dd (cW mL)<|Dd (by exact aA rfl rfl call60 rfl (cG hset _ ⟨rfl,rfl,rfl,rfl,trivial⟩ (by(simp;exact⟨rfl,rfl⟩))))<|Zz<|Sr<|Dd aB<|Dd dY<|Dd (cI nK)<|Uu (by exact gT (q:=1002) (sz:=3) (ty:=103) rfl sizeOf77 rfl rfl rfl rfl rfl rfl rfl rfl (by simp) (by simp only [mY,List.set_cons_succ,List.set_cons_zero];rfl) (by simp only [List.set_cons_zero];rfl))<|Zz<|Sr<|Dd aR<|Zz<|aH ?_;refine bI (H':=bN (AF (eK s))) (.inr rfl) rfl (aI rfl) (Fin.wk (by(simp;done)) (Hc (aM _ _ rfl rfl rfl)<|Hc (aG _ _)<|Hc (aD _ _ _)<|Hc (aP _ _)<|trivial) ⟨rfl,rfl,rfl,rfl,trivial⟩) ?_;exact⟨by simp [mG,e,e2],by simp [jJ,e,e2]⟩
def oH (s:DSt):DSt:={s with off:=false,arm:=qZ s.arm}
theorem WC (s:DSt):([(1000,⟨0,4,80,[[.osl 1001 0 0 (64*s.cells.length),.osl 1002 s.gq 0 s.q.length,bv false,.pv .nilp]]⟩),(1001,⟨0,1,5,bP (flat s.cells)⟩),(1002,⟨s.gq,3,103,vK s.q⟩),(1003,⟨s.ga,3,100,mI s.arm⟩)]:aE)=bN (oH s):=by simp only [oH,bN,mY,AE,AD]
theorem LP (s:DSt):aK Tryz.prog 30 [.ref 1000 0 0 0] (bN s) (fun r H'=>r=.tup []∧H'=bN (oH s)):=by
 rw [← WC s];refine Bd func30 rfl ntmps30<|Sr<|Dd aB<|Dd (by exact wG rfl dN rfl rfl rfl rfl)<|Zz ?_;refine Cn ?_ ?_<;>intro hc1
 ·refine Sr<|Dd aB<|Dd dY<|Dd (cI wS)<|Uu (by exact bU rfl sizeOf4 rfl rfl rfl rfl rfl rfl (by simp only [aHt,List.length_nil];omega) (by simp only [Zl,lO,mI,mY];rfl) (by simp only [Zl,lO,mI,mY];rfl))<|Zz<|Rg<|Dd aB<|Dd dY<|Dd (cI oF)<|Uu (by exact bU rfl sizeOf78 rfl rfl rfl rfl rfl rfl (by simp only [aHt,List.length_nil];omega) (by simp only [Zl,lO,mI,mY];rfl) (by simp only [Zl,lO,mI,mY];rfl))<|Zz ?_;refine eQ (H':=[(1000,⟨0,4,80,[[.osl 1001 0 0 (64*s.cells.length),.osl 1002 s.gq 0 s.q.length,bv false,.pv .nilp]]⟩),(1001,⟨0,1,5,bP (flat s.cells)⟩),(1002,⟨s.gq,3,103,vK s.q⟩),(1003,⟨s.ga,3,100,mI s.arm⟩)]) (by exact .inl rfl) rfl  (Fin.wk (by(simp;done)) (Hc (by(simp;exact⟨rfl,rfl⟩))<|Hc (aG _ _)<|Hc (aD _ _ _)<|Hc (aP _ _)<|trivial) ⟨rfl,rfl,rfl,rfl,trivial⟩) ?_;exact Qq
 cases hc1
def pL (s:DSt) (a w b:Int):DSt:=if s.off then s else if 0≤a then {s with arm:=.on a w b,ga:=s.ga+1} else {s with arm:=qZ s.arm}
theorem aEM (s:DSt):([(1000,⟨0,4,80,[[.osl 1001 0 0 (64*s.cells.length),.osl 1002 s.gq 0 s.q.length,bv s.off,.pv .nilp]]⟩),(1001,⟨0,1,5,bP (flat s.cells)⟩),(1002,⟨s.gq,3,103,vK s.q⟩),(1003,⟨s.ga,3,100,mI s.arm⟩)]:aE)=bN {s with arm:=qZ s.arm}:=by simp only [bN,mY,AE,AD]
theorem aCG (s:DSt) (a w b:Int):aK Tryz.prog 28 [.ref 1000 0 0 0,iv a,iv w,iv b] (bN s) (fun r H'=>r=.tup []∧H'=bN (pL s a w b)):=by
 refine Bd func28 rfl ntmps28<|Sq<|Sq ?_;refine cQ (t:=15) (n:=9) (X:=s.off) ?_ ?_
 ·all_goals refine Dd aB ?_
  all_goals refine Dd (by exact bR rfl dN rfl rfl rfl rfl)<|Dm ?_
  all_goals refine Sp 10 (fun h10=>?_) fun h10=>?_
  all_goals try contradiction
  all_goals refine On aB<|On dY<|On (cI wS)<|On (cW cK)<|Dd cX<|Zz ?_
  all_goals(exact⟨⟨_,rfl,by rfl⟩,rfl,rfl,rfl⟩)
 refine Cn ?_ ?_<;>intro hc1
 ·refine aH ?_;refine eQ (H':=bN s) (.inr rfl) rfl  (Fin.wk (by(simp;done)) (Hc (aM _ _ rfl rfl rfl)<|Hc (aG _ _)<|Hc (aD _ _ _)<|Hc (aP _ _)<|trivial) ⟨rfl,rfl,rfl,rfl,trivial⟩) ?_;exact⟨rfl,by simp [pL,hc1]⟩
 refine aF<|Sr<|Dd aB<|Dd dY<|Dd (cI oF)<|Uu (by exact bU rfl sizeOf78 rfl rfl rfl rfl rfl rfl (by simp only [aHt,List.length_nil];omega) (by simp only [Zl,lO,mI,mY];rfl) (by simp only [Zl,lO,mI,mY];rfl))<|Zz<|Sr<|Dd aB<|Dd CD<|Zz ?_;refine Cn ?_ ?_<;>intro hc2
 ·have h0:0≤a:=aHn hc2;refine Rg<|Dd aB<|Dd aB<|Dd aB<|Dd aB<|Dd (by exact LI rfl aGX rfl (rfl:_=some [iv a,iv w,iv b]))<|Dd (by exact IV (id:=1003) rfl rfl rfl rfl rfl rfl)<|Dd dY<|Dd (cI oF)<|Uu (by exact bU rfl sizeOf78 rfl rfl rfl rfl rfl rfl (by simp only [aHt,List.length_nil];omega) (by simp only [Zl,lO,mI,mY];rfl) (by simp only [Zl,lO,mI,mY];rfl))<|Zz ?_;refine eQ (H':=bN {s with arm:=.on a w b,ga:=s.ga+1}) (by exact .inl rfl) rfl  (Fin.wk (by(simp;done)) (Hc (aM _ _ rfl rfl rfl)<|Hc (aG _ _)<|Hc (aD _ _ _)<|Hc (aP (.off _ _ _) _)<|trivial) ⟨rfl,rfl,rfl,rfl,trivial⟩) ?_;exact⟨rfl,by simp [pL,hc1,h0]⟩
 have h0:¬ 0≤a:=aHo hc2;refine aF ?_;refine eQ (H':=[(1000,⟨0,4,80,[[.osl 1001 0 0 (64*s.cells.length),.osl 1002 s.gq 0 s.q.length,bv s.off,.pv .nilp]]⟩),(1001,⟨0,1,5,bP (flat s.cells)⟩),(1002,⟨s.gq,3,103,vK s.q⟩),(1003,⟨s.ga,3,100,mI s.arm⟩)]) (by exact .inl rfl) rfl  (Fin.wk (by(simp;done)) (Hc (by(simp;exact⟨rfl,rfl⟩))<|Hc (aG _ _)<|Hc (aD _ _ _)<|Hc (aP _ _)<|trivial) ⟨rfl,rfl,rfl,rfl,trivial⟩) ?_;exact⟨rfl,by rw [aEM];simp only [pL,hc1,h0,Bool.false_eq_true,if_false]⟩
def pS (n:Nat) (p:Nat×ByteArray):Bool:=decide (p.1=n)
def cH (s:DSt) (n:Nat):ByteArray:=((s.q.reverse.find? (pS n)).map (·.2)).getD ((s.cells[n]?).getD ⟨#[]⟩)
theorem aBV {q:List (Nat×ByteArray)} {n j:Nat} {p:Nat×ByteArray} (hp:q[j]?=some p) (h1:pS n p=true) (h2:∀ i,j < i→∀ x,q[i]?=some x→pS n x=false):q.reverse.find? (pS n)=some p:=by
 obtain ⟨hlt,he⟩:=aHv.1 hp;have hs:q=q.take j++(p::q.drop (j+1)):=by
  conv=>lhs;rw [← List.take_append_drop j q,List.drop_eq_getElem_cons hlt,he]
 have hn:(q.drop (j+1)).reverse.find? (pS n)=none:=by
  rw [List.find?_eq_none];intro x hx;rw [List.mem_reverse] at hx;obtain ⟨i,hi⟩:=aIM.1 hx;rw [List.getElem?_drop] at hi;simp [h2 (j+1+i) (by omega) x hi]
 rw [hs,List.reverse_append,List.reverse_cons,List.append_assoc,List.find?_append,hn];simp [h1]
theorem IY {q:List (Nat×ByteArray)} {n:Nat} (h2:∀ (i:Nat) (x:Nat×ByteArray),q[i]?=some x→pS n x=false):q.reverse.find? (pS n)=none:=by rw [List.find?_eq_none];intro x hx;rw [List.mem_reverse] at hx;obtain ⟨i,hi⟩:=aIM.1 hx;simp [h2 i x hi]
theorem aBs (c:ByteArray):(⟨c.data.toList.toArray⟩:ByteArray)=c:=by cases c;simp
def sC (s:DSt) (k:Int):ByteArray:=if s.off then⟨#[]⟩else if fK s k then cH s k.toNat else⟨#[]⟩
def fS (s:DSt) (k:Int):Int:=if s.off then 22 else if fK s k then 0 else 1
theorem L9 (s:DSt) (k:Int) (hs:DOk s) :
  aK Tryz.prog 41 [.ref 1000 0 0 0,iv k] (bN s) (fun r H'=>r=.tup [sv (sC s k),iv (fS s k)]∧H'=bN s):=by
 have hql:=hs.ql;refine Bd func41 rfl ntmps41 ?_;cases e:s.off with
 | true =>
  refine Sr<|Dd aR<|Dd aR<|Zz<|Sr<|Dd aB<|Dd aB<|Dd (by exact aA rfl rfl CH rfl (cG (aCC s k hs e) _ ⟨rfl,rfl,rfl,rfl,trivial⟩ (by simp;rfl)))<|Dd aB<|Dd eC<|Dd eC<|Dd (by exact dW (id:=6) rfl AR rfl rfl)<|Uu (vJ sizeOf96)<|Dd aR<|Zz<|Sq<|Sr<|Dd aB<|Dd tM<|Zz ?_;refine Cn ?_ ?_<;>intro hc1
  ·refine Sr<|Dd aB<|Dd aR<|Dd aR<|Zz<|aH ?_;refine fF (H':=bN s) (.inr rfl) rfl (aI rfl) (aI rfl) (Fin.wk (by(simp;done)) (Hc (aM _ _ rfl rfl rfl)<|Hc (aG _ _)<|Hc (aD _ _ _)<|Hc (aP _ _)<|trivial) ⟨rfl,rfl,rfl,rfl,trivial⟩) ?_;exact⟨by simp [sC,fS,e],rfl⟩
  cases hc1
 | false =>
  rcases mQ s k with e2|⟨n,rfl,hn⟩
  ·refine Sr<|Dd aR<|Dd aR<|Zz<|Sr<|Dd aB<|Dd aB<|Dd (by exact aA rfl rfl CH rfl (cG (aE8 s k hs e e2) _ ⟨rfl,rfl,rfl,rfl,trivial⟩ (by simp;rfl)))<|Dd aB<|Dd eC<|Dd eC<|Dd (by exact dW (id:=6) rfl AR rfl rfl)<|Uu (vJ sizeOf96)<|Dd aR<|Zz<|Sq<|Sr<|Dd aB<|Dd tM<|Zz ?_;refine Cn ?_ ?_<;>intro hc2
   ·refine Sr<|Dd aB<|Dd aR<|Dd aR<|Zz<|aH ?_;refine fF (H':=bN s) (.inr rfl) rfl (aI rfl) (aI rfl) (Fin.wk (by(simp;done)) (Hc (aM _ _ rfl rfl rfl)<|Hc (aG _ _)<|Hc (aD _ _ _)<|Hc (aP _ _)<|trivial) ⟨rfl,rfl,rfl,rfl,trivial⟩) ?_;exact⟨by simp [sC,fS,e,e2],rfl⟩
   cases hc2
  have e2:fK s (n:Int)=true:=by rw [fY];simpa using hn
  have h1:sC s n=cH s n:=by simp [sC,e,e2]
  have h2:fS s n=0:=by simp [fS,e,e2]
  rw [h1,h2];refine Sr<|Dd aR<|Dd aR<|Zz<|Sr<|Dd aB<|Dd aB<|Dd (by exact aA rfl rfl CH rfl (cG (aCB s n hs e hn) _ ⟨rfl,rfl,rfl,rfl,trivial⟩ (by simp;rfl)))<|Dd aB<|Dd eC<|Dd eC<|Dd (by exact dW (id:=6) rfl AR rfl rfl)<|Uu (vJ sizeOf96)<|Dd aR<|Zz<|Sq<|Sr<|Dd aB<|Dd tM<|Zz ?_;refine Cn ?_ ?_<;>intro hc3
  ·cases hc3
  refine aF<|Sq<|Sr<|Dd aB<|Dd dY<|Dd (cI nK)<|Dd (cW mL)<|Dd (by exact cM rfl sN rfl rfl rfl)<|Dd (by exact dG rfl rfl rfl (by exact eS (by omega) (by omega)))<|Dd aR<|Zz<|aJ ?_;refine bG (σ:=Nat) (fun j=>([(0,.ref 1000 0 0 0),(6,.ref 6 0 0 0),(8,iv ((j:Int) - 1))],(6,bx 2 96 (JL n))::bN s)) (fun j=>j≤s.q.length∧∀ i,j≤i→∀ x,s.q[i]?=some x→pS n x=false) (fun j=>j) s.q.length
   ⟨aHx _,fun i hi x hx=>by have:=(aHv.1 hx).1;omega⟩ ?_ ?_
  ·exact(cC.wk (Ea<|Ea<|Eb<|trivial) (Hb<|Hc (aM _ _ rfl rfl rfl)<|Hc (aG _ _)<|Hc (aD _ _ _)<|Hc (aP _ _)<|trivial) ⟨rfl,rfl,rfl,rfl,trivial⟩)
  rintro j ⟨hj,hpre⟩;cases j with
  | succ j =>
   have ej:((j+1:Nat):Int) - 1=(j:Int):=by omega
   rw [ej];refine Sq<|Sr<|Dd aB<|Dd CD<|Zz ?_;refine Cn ?_ ?_<;>intro hc4
   ·obtain ⟨p,hp⟩:=aY (show j < s.q.length by omega);have hpe:(vK s.q)[j]?=some ((lO p).map .pv):=by rw [aIL,hp];rfl
    have hm:decide (((64*p.1:Nat):Int)=((64*n:Nat):Int))=pS n p:=by
     unfold pS;rw [Bool.eq_iff_iff];simp;omega
    refine aF<|Sq<|aJ<|Sq<|bF follows<|Cq aB<|Cq dY<|Cq (cI nK)<|Cq (cW mL)<|Cq aB<|Cq (by exact dE rfl RN rfl rfl rfl rfl rfl (by omega) (by exact aIC _) (by omega) (aIJ _))<|Cq (cI ND)<|Cq (cI G9)<|Cq (by exact bH rfl aL rfl rfl rfl hpe rfl)<|Cq (cI G9)<|Cq (cW aL)<|Cq eP<|cA<|Kr ?_;refine Cn ?_ ?_<;>intro hc5
    ·rw [hm] at hc5;refine Sr<|Dd aB<|Dd dY<|Dd (cI nK)<|Dd (cW mL)<|Dd aB<|Dd (by exact dE rfl RN rfl rfl rfl rfl rfl (by omega) (by exact aIC _) (by omega) (aIJ _))<|Dd (cI NC)<|Dd (by exact bH rfl aQ rfl rfl rfl hpe rfl)<|Dd aR<|Dd aR<|Zz<|aH ?_;refine fF (H':=bN s) (.inr rfl) rfl (aI rfl) (aI rfl) (Fin.wk (by(simp;done)) (Hc (aM _ _ rfl rfl rfl)<|Hc (aG _ _)<|Hc (aD _ _ _)<|Hc (aP _ _)<|trivial) ⟨rfl,rfl,rfl,rfl,trivial⟩) ?_;refine⟨?_,rfl⟩;rw [cH,aBV hp hc5 (fun i hi x hx=>hpre i (by omega) x hx)];rfl
    rw [hm] at hc5;refine aF<|Rg<|Dd aB<|Dd (by exact dG rfl rfl rfl (eS (by omega) (by omega)))<|Da ?_;refine⟨j,⟨by omega,fun i hi x hx=>?_⟩,by omega,(cC.wk (Ea<|Ea<|Eb<|trivial) (Hb<|Hc (aM _ _ rfl rfl rfl)<|Hc (aG _ _)<|Hc (aD _ _ _)<|Hc (aP _ _)<|trivial) ⟨rfl,rfl,rfl,rfl,trivial⟩)⟩;by_cases he:i=j
    ·subst he;rw [hp] at hx;cases hx;exact hc5
    exact hpre i (by omega) x hx
   have:¬ (0:Int)≤(j:Int):=aHo hc4;omega
  | zero =>
   have hz:s.q.reverse.find? (pS n)=none:=IY (fun i x hx=>hpre i (aII _) x hx);obtain ⟨c,hc⟩:=aY hn;have hd:cH s n=c:=by rw [cH,hz,hc];rfl
   obtain ⟨_,p2,_⟩:=KM hs.c hc;have hb:((bP (flat s.cells)).drop (0+64*n)).take (64*(n+1) - 64*n)=bP c.data.toList:=by
    rw [← p2,aIJ,show 64*(n+1) - 64*n=64 by omega];simp only [bP,List.map_take,List.map_drop]
   have hfl:=mU hs.c;rw [hd];refine Sq<|Sr<|Dd aB<|Dd CD<|Zz ?_;refine Cn ?_ ?_<;>intro hc6
   ·have:(0:Int)≤((0:Nat):Int) - 1:=aHn hc6;omega
   refine aV<|Sq<|bF follows<|Cq aB<|Cq dY<|Cq (cI HA)<|Cq (cW gL)<|Cq (cI G9)<|Cq (cW aL)<|Cq (cI aBT)<|Cq (cW aL)<|Cq (by exact jF (l:=(64*n)) (h:=(64*(n+1))) rfl sZ rfl rfl rfl rfl rfl rfl (by omega) (by omega) rfl rfl)<|Cq (by exact fM rfl cL bV aC rfl rfl rfl rfl hb rfl)<|Cq aR<|Cq aR<|cA<|Kr<|aH ?_;refine fF (H':=bN s) (.inr rfl) rfl (aI rfl) (aI rfl) (Fin.wk (by(simp;done)) (Hc (aM _ _ rfl rfl rfl)<|Hc (aG _ _)<|Hc (aD _ _ _)<|Hc (aP _ _)<|trivial) ⟨rfl,rfl,rfl,rfl,trivial⟩) ?_;exact⟨by rw [aBs],rfl⟩
def sK (s:DSt):ByteArray:=⟨(flat s.cells).toArray⟩
theorem UL (s:DSt) (hs:DOk s):aK Tryz.prog 22 [.ref 1000 0 0 0] (bN s) (fun r H'=>r=sv (sK s)∧H'=bN s):=by
 have hb:((bP (flat s.cells)).drop 0).take (64*s.cells.length)=bP (flat s.cells):=by
  rw [List.drop_zero,List.take_of_length_le (by simp [bP,mU hs.c])]
 refine Bd func22 rfl ntmps22<|Sr<|Dd aR<|Zz<|Sq<|Sr<|Dd aB<|Dd (by exact bR rfl dN rfl rfl rfl rfl)<|Zz ?_;refine Cn ?_ ?_<;>intro hc1
 ·cases hc1
 refine aF<|Sr<|Dd aB<|Dd dY<|Dd (cI HA)<|Dd (cW gL)<|Dd (by exact fM rfl cL bV aC rfl rfl rfl rfl hb rfl)<|Dd aR<|Zz<|aH ?_;refine bI (H':=bN s) (.inr rfl) rfl (aI rfl) (Fin.wk (by(simp;done)) (Hc (aM _ _ rfl rfl rfl)<|Hc (aG _ _)<|Hc (aD _ _ _)<|Hc (aP _ _)<|trivial) ⟨rfl,rfl,rfl,rfl,trivial⟩) ?_;exact Qq
def flip (c:ByteArray) (i m:Nat):ByteArray:=⟨(c.data.toList.set i (((c.data.toList[i]?).getD 0) ^^^ UInt8.ofNat m)).toArray⟩
theorem X0 (c:ByteArray) (i m:Nat):(flip c i m).size=c.size:=by show (List.toArray _).size=_;rw [List.size_toArray,List.length_set,kL]
theorem KL (c:ByteArray) (i m:Nat):(flip c i m).data.toList=c.data.toList.set i (((c.data.toList[i]?).getD 0) ^^^ UInt8.ofNat m):=by simp [flip]
theorem ZM (x:UInt8) (m:Nat) (hm:m < 256):bits .xor .u8 (x.toNat:Int) (m:Int)=((x ^^^ UInt8.ofNat m).toNat:Int):=by
 have h1:x.toNat < 2 ^ 8:=x.toNat_lt;have h2:(x.toNat ^^^ m) < 2 ^ 8:=Nat.xor_lt_two_pow h1 (by omega);have e1:(BitVec.ofInt 8 (x.toNat:Int) ^^^ BitVec.ofInt 8 (m:Int)).toNat=x.toNat ^^^ m:=by
  rw [BitVec.ofInt_natCast,BitVec.ofInt_natCast,BitVec.toNat_xor,BitVec.toNat_ofNat,BitVec.toNat_ofNat,Nat.mod_eq_of_lt h1,Nat.mod_eq_of_lt (by omega)]
 have e2:(x ^^^ UInt8.ofNat m).toNat=x.toNat ^^^ m:=by
  rw [UInt8.toNat_xor,UInt8.toNat_ofNat',Nat.mod_eq_of_lt (by omega)]
 unfold bits;show IntKind.u8.wrap ((BitVec.ofInt 8 (x.toNat:Int) ^^^ BitVec.ofInt 8 (m:Int)).toNat:Int)=_;rw [e1,e2,wu8 (by omega) (by omega)]
def lF (s:DSt) (k p m:Int):Bool:=fK s k&&(decide (0≤p)&&decide (p < 64)&&decide (0 < m)&&decide (m < 256))
def rC (s:DSt) (k p m:Int):DSt:=if lF s k p m then {s with cells:=s.cells.set k.toNat (flip ((s.cells[k.toNat]?).getD ⟨#[]⟩) p.toNat m.toNat)} else s
theorem aAF {l:List ByteArray} (h:∀ c,c∈l→c.size=64) {k i:Nat} {c:ByteArray} (hk:l[k]?=some c) (hi:i < 64) (b:UInt8) (d:ByteArray) (hd:d.data.toList=c.data.toList.set i b) :
  (flat l).set (64*k+i) b=flat (l.set k d)∧(flat l)[64*k+i]?=c.data.toList[i]?:=by
 obtain ⟨hlt,he⟩:=aHv.1 hk;have hsplit:flat l=flat (l.take k)++(c.data.toList++flat (l.drop (k+1))):=by
  conv=>lhs;rw [← List.take_append_drop k l,List.drop_eq_getElem_cons hlt,he]
  rw [wT,oG]
 have h1:(flat (l.take k)).length=64*k:=by
  rw [mU (fun c hc=>h c (List.mem_of_mem_take hc)),aIF];congr 1;omega
 have h2:c.data.toList.length=64:=by rw [kL];exact h c (aIB hk)
 have hset:l.set k d=l.take k++(d::l.drop (k+1)):=by rw [List.set_eq_take_append_cons_drop,aHq hlt]
 constructor
 ·rw [hset,wT,oG,hsplit,List.set_append_right _ _ (by omega),h1,List.set_append_left _ _ (by omega),hd,show 64*k+i - 64*k=i by omega]
 rw [hsplit,List.getElem?_append_right (by omega),h1,List.getElem?_append_left (by omega),show 64*k+i - 64*k=i by omega]
theorem SC (s:DSt) (n:Nat) (hs:DOk s) (e:n < s.cells.length):aK Tryz.prog 59 [.ref 1000 0 0 0,iv (n:Int)] (bN s) (fun r H'=>r=.tup [.agg (JL n),bv true]∧H'=bN s):=by have h:=J2 s n hs (by rw [fY];simpa using e);rw [OP] at h;exact h
theorem aAU (s:DSt) (k p m:Int) (hs:DOk s) :
  aK Tryz.prog 27 [.ref 1000 0 0 0,iv k,iv p,iv m] (bN s) (fun r H'=>r=.tup []∧H'=bN (rC s k p m)):=by
 refine Bd func27 rfl ntmps27 ?_;rcases mQ s k with e|⟨n,rfl,hn⟩
 ·refine Sr<|Dd aB<|Dd aB<|Dd (by exact aA rfl rfl NZ rfl (cG (O9 s k hs e) _ ⟨rfl,rfl,rfl,rfl,trivial⟩ (by simp;rfl)))<|Dd aB<|Dd eC<|Dd eC<|Dd (by exact dW (id:=8) rfl AR rfl rfl)<|Uu (vJ sizeOf96)<|Dd aR<|Zz<|Sq ?_;refine cQ (t:=32) (n:=21) (X:=false) ?_ ?_
  ·all_goals refine Dd aB ?_
   all_goals refine Dm ?_
   all_goals refine Sp 17 (fun h17=>?_) fun h17=>?_
   all_goals try contradiction
   all_goals refine Fo<|Fo<|Dd cX<|Dm ?_
   all_goals refine Sp 21 (fun h21=>?_) fun h21=>?_
   all_goals try contradiction
   all_goals refine Fo<|Fo<|Dd cX<|Dm ?_
   all_goals refine Sp 25 (fun h25=>?_) fun h25=>?_
   all_goals try contradiction
   all_goals refine Fo<|Fo<|Dd cX<|Dm ?_
   all_goals refine Sp 29 (fun h29=>?_) fun h29=>?_
   all_goals try contradiction
   all_goals refine Fo<|Fo<|Dd cX<|Zz ?_
   all_goals(exact⟨⟨_,rfl,by rfl⟩,rfl,rfl,rfl⟩)
  refine Cn ?_ ?_<;>intro hc1
  ·cases hc1
  refine aF ?_;refine eQ (H':=bN s) (by exact .inl rfl) rfl  (Fin.wk (by(simp;done)) (Hc (aM _ _ rfl rfl rfl)<|Hc (aG _ _)<|Hc (aD _ _ _)<|Hc (aP _ _)<|trivial) ⟨rfl,rfl,rfl,rfl,trivial⟩) ?_;exact⟨rfl,by simp [rC,lF,e]⟩
 have e:fK s (n:Int)=true:=by rw [fY];simpa using hn
 refine Sr<|Dd aB<|Dd aB<|Dd (by exact aA rfl rfl NZ rfl (cG (SC s n hs hn) _ ⟨rfl,rfl,rfl,rfl,trivial⟩ (by simp;rfl)))<|Dd aB<|Dd eC<|Dd eC<|Dd (by exact dW (id:=8) rfl AR rfl rfl)<|Uu (vJ sizeOf96)<|Dd aR<|Zz<|Sq ?_;refine cQ (t:=32) (n:=21) (X:=decide (0≤p)&&decide (p < 64)&&decide (0 < m)&&decide (m < 256)) ?_ ?_
 ·all_goals refine Dd aB ?_
  all_goals refine Dm ?_
  all_goals refine Sp 17 (fun h17=>?_) fun h17=>?_
  all_goals try contradiction
  all_goals refine On aB<|On CD<|Dd cX<|Dm ?_
  all_goals refine Sp 21 (fun h21=>?_) fun h21=>?_
  all_goals try contradiction
  all_goals first|refine Fo<|Fo ?_|refine On aB<|On cP ?_
  all_goals refine Dd cX<|Dm ?_
  all_goals refine Sp 25 (fun h25=>?_) fun h25=>?_
  all_goals try contradiction
  all_goals first|refine Fo<|Fo ?_|refine On aB<|On yP ?_
  all_goals refine Dd cX<|Dm ?_
  all_goals refine Sp 29 (fun h29=>?_) fun h29=>?_
  all_goals try contradiction
  all_goals first|refine Fo<|Fo ?_|refine On aB<|On cP ?_
  all_goals refine Dd cX<|Zz ?_
  all_goals(exact⟨⟨_,rfl,by(simp only [*,Zo];done)⟩,rfl,rfl,rfl⟩)
 refine Cn ?_ ?_<;>intro hc2
 ·have hro:lF s n p m=true:=by rw [lF,e,hc2];rfl
  obtain ⟨⟨⟨h1,h2⟩,h3⟩,h4⟩:((0≤p∧p < 64)∧0 < m)∧m < 256:=by simpa using hc2
  obtain ⟨i,rfl⟩:∃ i:Nat,p=(i:Int):=⟨p.toNat,by omega⟩;obtain ⟨x,rfl⟩:∃ x:Nat,m=(x:Int):=⟨m.toNat,by omega⟩;obtain ⟨c,hc⟩:=aY hn;have hcs:=hs.c c (aIB hc);have hfl:=mU hs.c;obtain ⟨y,hy⟩:=aY (l:=c.data.toList) (k:=i) (by rw [kL];omega);have hfl2:=KL c i x;rw [hy,Option.getD_some] at hfl2;obtain ⟨p1,p2⟩:=aAF hs.c hc (show i < 64 by omega) (y ^^^ UInt8.ofNat x) (flip c i x) hfl2;have hw:IntKind.i64.wrap (((64*n:Nat):Int)+(i:Int))=((64*n+i:Nat):Int):=by
   have:=hs.n2;rw [eS (by omega) (by omega)];omega
  have hrow:(bP (flat s.cells))[64*n+i]?=some [.pv (.int .u8 y.toNat)]:=by
   rw [bP,aIL,p2,hy];rfl
  have hx:=ZM y x (by omega);have hset:(bP (flat s.cells)).set (64*n+i) [.pv (.int .u8 (y ^^^ UInt8.ofNat x).toNat)]=bP (flat (s.cells.set n (flip c i x))):=by
   rw [← p1];exact List.map_set.symm
  have hlen:(s.cells.set n (flip c i x)).length=s.cells.length:=List.length_set;have hu:IntKind.u8.wrap (x:Int)=(x:Int):=wu8 (by omega) (by omega);have hdr:rC s n i x={s with cells:=s.cells.set n (flip c i x)}:=by simp [rC,hro,hc]
  refine bF follows<|Cr [1000] (fun _ _=>aB)<|Cr [1000] (fun H1 hH=>by exact bK rfl rfl ((hH _ rfl).trans rfl) rfl)<|Cr [1000] (fun _ h=>fh HA h)<|Cr [1000] (fun _ h=>lh gL h)<|Cr [8] (fun _ h=>fh G9 h)<|Cr [8] (fun _ h=>lh aL h)<|Cr [] (fun _ _=>aB)<|Cr [] (fun H1 hH=>by exact bA rfl rfl rfl hw)<|Cr [1001] (fun H1 hH=>by exact dE rfl sZ rfl ((hH _ rfl).trans rfl) rfl rfl rfl (by omega) (by exact aIC _) (by omega) (aIJ _))<|Cr [1001] (fun H1 hH=>by exact bH rfl rM rfl ((hH _ rfl).trans rfl) rfl hrow rfl)<|Cr [] (fun _ _=>aB)<|Cr [] (fun H1 hH=>by exact eO rfl cJ bV rfl hu)<|Cr [] (fun H1 hH=>by exact jX rfl (by simp) rfl rfl hx)<|Cr [1001] (fun H1 hH=>by exact dE rfl sZ rfl ((hH _ rfl).trans rfl) rfl rfl rfl (by omega) (by exact aIC _) (by omega) (aIJ _)) ?_;refine Cp [1001] (fun H1 hH=>by exact bU rfl eL rfl rfl rfl ((hH 1001 rfl).trans rfl) rfl hrow (by simp) rfl hset)<|cA<|Kr ?_;refine eQ (H':=dH (mY s) (s.cells.set n (flip c i x)) s) (by exact .inl rfl) rfl  (Fin.wk (by(simp;done)) (Hc (aM _ _ rfl rfl rfl)<|Hc (aG _ _)<|Hc (aD _ _ _)<|Hc (aP _ _)<|trivial) ⟨rfl,rfl,rfl,rfl,trivial⟩) ?_;exact⟨rfl,by rw [hdr];simp only [bN,dH,mY,hlen]⟩
 have hro:lF s n p m=false:=by rw [lF,e,hc2];rfl
 refine aF ?_;refine eQ (H':=bN s) (by exact .inl rfl) rfl  (Fin.wk (by(simp;done)) (Hc (aM _ _ rfl rfl rfl)<|Hc (aG _ _)<|Hc (aD _ _ _)<|Hc (aP _ _)<|trivial) ⟨rfl,rfl,rfl,rfl,trivial⟩) ?_;exact⟨rfl,by simp [rC,hro]⟩
abbrev z64:ByteArray:=⟨(List.replicate 64 0).toArray⟩
def pK (n:Nat):DSt:=⟨List.replicate n z64,[],false,.never,0,0⟩
theorem aDv {n:Nat} (h1:1≤n) (h2:n≤8000):DOk (pK n) :=⟨by simpa [pK] using h1,by simpa [pK] using h2,fun c hc=>by rw [List.eq_of_mem_replicate hc];rfl,fun p hp=>(by cases hp),(by simp [pK])⟩
theorem aFp (n:Nat):bP (flat (List.replicate n z64))=List.replicate (64*n) [.pv (.int .u8 0)]:=by
 have:flat (List.replicate n z64)=List.replicate (64*n) 0:=by
  induction n with
  | zero=>rfl
  | succ n ih =>
   rw [List.replicate_succ,oG,ih];show List.replicate 64 0++List.replicate (64*n) 0=_;rw [List.replicate_append_replicate];congr 1;omega
 rw [this,bP,List.map_replicate];rfl
abbrev aGB (n:Nat):aE:=[(1000,⟨0,4,80,[[.osl 1001 0 0 (64*n),.osl 1002 0 0 0,bv false,.pv .nilp]]⟩),(1001,⟨0,1,5,List.replicate (64*n) [.pv (.int .u8 0)]⟩),(1002,⟨0,3,103,[]⟩),(1003,⟨0,3,100,[]⟩)]
theorem aD0 (n:Nat):aGB n=bN (pK n):=by simp only [bN,pK,mY,aFp,List.length_replicate,aCI,mI,List.length_nil,List.map_nil]
theorem aAs (n:Nat) (h1:1≤n) (h2:n≤8000):aK Tryz.prog 13 [iv (n:Int)] [] (fun r H'=>r=.ref 1000 0 0 0∧H'=bN (pK n)):=by
 have hw:IntKind.i64.wrap ((n:Int)*64)=((64*n:Nat):Int):=by rw [eS (by omega) (by omega)];omega
 rw [← aD0];refine Bd func13 rfl ntmps13<|Sr<|Dd aR<|Zz<|Sq<|Sq ?_;refine cQ (t:=8) (n:=7) (X:=false) ?_ ?_
 ·all_goals refine Dd aB ?_
  all_goals refine Dd cP<|Dm ?_
  all_goals refine Sp 5 (fun h5=>?_) fun h5=>?_
  all_goals try contradiction
  all_goals first|refine Fo<|Fo ?_|refine On aB<|On yP ?_
  all_goals refine Dd cX<|Zz ?_
  all_goals(exact⟨⟨_,rfl,by(simp_all;omega)⟩,rfl,rfl,rfl⟩)
 refine Cn ?_ ?_<;>intro hc1
 ·cases hc1
 refine aF<|Sr<|Dd aB<|Dd (by exact fG rfl rfl rfl hw)<|Dd (by exact jG (id:=1001) rfl sZ X8 zo5 rfl rfl rfl (by omega) (by omega) (by exact aIC _) (by exact aIC _) (by omega) rfl)<|Dd (RA aGT)<|Dd (by exact jQ (id:=1000) rfl rfl rfl rfl rfl)<|Dd aR<|Zz<|aH ?_;refine bI (H':=aGB n) (.inr rfl) rfl (aI rfl) (Fin.trans (H':=[(1002,⟨0,3,103,[]⟩),(1000,⟨0,4,80,[[.osl 1001 0 0 (64*n),.osl 1002 0 0 0,bv false,.pv .nilp]]⟩),(1001,⟨0,1,5,List.replicate (64*n) [.pv (.int .u8 0)]⟩)]) (r':=.ref 1000 0 0 0) (Fin.of_ent (cC.nz 1002 3 103 rfl rfl ⟨⟨_,rfl,(by exact Nz.same (by(simp;rfl)))⟩,trivial⟩ ⟨⟨_,rfl,rfl,rfl,rfl,(by exact .inr ⟨_,_,rfl,rfl,(by repeat(first|exact trivial|refine⟨(by first|exact Nz.own|exact Nz.same (by first|(simp;done)|(simp;rfl))),?_⟩))⟩)⟩,⟨_,rfl,rfl,rfl,rfl,(by exact .inl ⟨rfl,(by(simp;done))⟩)⟩,trivial⟩ trivial)) (Fin.trans (H':=[(1003,⟨0,3,100,[]⟩),(1002,⟨0,3,103,[]⟩),(1000,⟨0,4,80,[[.osl 1001 0 0 (64*n),.osl 1002 0 0 0,bv false,.pv .nilp]]⟩),(1001,⟨0,1,5,List.replicate (64*n) [.pv (.int .u8 0)]⟩)]) (r':=.ref 1000 0 0 0) (Fin.of_ent (cC.nz 1003 3 100 rfl rfl ⟨⟨_,rfl,(by exact Nz.same (by(simp;rfl)))⟩,trivial⟩ ⟨⟨_,rfl,rfl,rfl,rfl,(by exact .inl ⟨rfl,(by(simp;done))⟩)⟩,⟨_,rfl,rfl,rfl,rfl,(by exact .inl ⟨rfl,(by(simp;exact⟨rfl,rfl⟩))⟩)⟩,⟨_,rfl,rfl,rfl,rfl,(by exact .inl ⟨rfl,(by(simp;done))⟩)⟩,trivial⟩ trivial)) (Fin.wk (by(simp;rfl)) (Hc (by(simp;exact⟨rfl,rfl⟩))<|Hb<|Hb<|Hb<|trivial) trivial))) ?_;exact Qq
theorem aDZ (n:Int) (H:aE) (h:n < 1∨8000 < n):aK Tryz.prog 13 [iv n] H (fun r H'=>r=.pv .nilp∧H'=H):=by
 refine Pu ?_;refine Bd func13 rfl ntmps13<|Sr<|Dd aR<|Zz<|Sq<|Sq ?_;refine cQ (t:=8) (n:=7) (X:=true) ?_ ?_
 ·all_goals refine Dd aB ?_
  all_goals refine Dd cP<|Dm ?_
  all_goals refine Sp 5 (fun h5=>?_) fun h5=>?_
  all_goals try contradiction
  all_goals first|refine Fo<|Fo ?_|refine On aB<|On yP ?_
  all_goals refine Dd cX<|Zz ?_
  all_goals(exact⟨⟨_,rfl,by first|rfl|(simp at *;omega)⟩,rfl,rfl,rfl⟩)
 refine Cn ?_ ?_<;>intro hc1
 ·exact Sr<|Dd aR<|Zz<|aH<|Rt<|Qq
 cases hc1
theorem aDY (w b:Int) (H:aE):aK Tryz.prog 29 [.pv .nilp,iv w,iv b] H (fun r H'=>r=.tup []∧H'=H):=by
 refine Pu ?_;refine Bd func29 rfl ntmps29<|Sq<|Sq ?_;refine cQ (t:=16) (n:=9) (X:=true) ?_ ?_
 ·all_goals refine Dd aB ?_
  all_goals refine Dd (by exact dF rfl dN rfl rfl)<|Dm ?_
  all_goals refine Sp 11 (fun h11=>?_) fun h11=>?_
  all_goals try contradiction
  all_goals refine Fo<|Fo<|Fo<|Fo<|Dd cX<|Zz ?_
  all_goals(exact⟨⟨_,rfl,by rfl⟩,rfl,rfl,rfl⟩)
 refine Cn ?_ ?_<;>intro hc1
 ·refine aH ?_;refine eQ (H':=[]) (.inr rfl) rfl  (Fin.wk (by simp) trivial trivial) ?_;exact Qq
 cases hc1
theorem aAq (H:aE):aK Tryz.prog 30 [.pv .nilp] H (fun r H'=>r=.tup []∧H'=H):=by
 refine Pu ?_;refine Bd func30 rfl ntmps30<|Sr<|Dd aB<|Dd (by exact D3 rfl dN rfl rfl)<|Zz ?_;refine Cn ?_ ?_<;>intro hc1
 ·cases hc1
 refine aF ?_;refine eQ (H':=[]) (by exact .inl rfl) rfl  (Fin.wk (by simp) trivial trivial) ?_;exact Qq
theorem aFG (a w b:Int) (H:aE):aK Tryz.prog 28 [.pv .nilp,iv a,iv w,iv b] H (fun r H'=>r=.tup []∧H'=H):=by
 refine Pu ?_;refine Bd func28 rfl ntmps28<|Sq<|Sq ?_;refine cQ (t:=15) (n:=9) (X:=true) ?_ ?_
 ·all_goals refine Dd aB ?_
  all_goals refine Dd (by exact dF rfl dN rfl rfl)<|Dm ?_
  all_goals refine Sp 10 (fun h10=>?_) fun h10=>?_
  all_goals try contradiction
  all_goals refine Fo<|Fo<|Fo<|Fo<|Dd cX<|Zz ?_
  all_goals(exact⟨⟨_,rfl,by rfl⟩,rfl,rfl,rfl⟩)
 refine Cn ?_ ?_<;>intro hc1
 ·refine aH ?_;refine eQ (H':=[]) (.inr rfl) rfl  (Fin.wk (by simp) trivial trivial) ?_;exact Qq
 cases hc1
theorem aAr (k:Int) (H:aE):aK Tryz.prog 59 [.pv .nilp,iv k] H (fun r H'=>r=.tup [.agg [iv 0,iv 0],bv false]∧H'=H):=by
 refine Pu ?_;refine Bd func59 rfl ntmps59<|Sr<|Dd (by exact dW (id:=4) rfl AR rfl rfl)<|Dd aR<|Zz<|Sq<|Sq ?_;refine cQ (t:=21) (n:=18) (X:=true) ?_ ?_
 ·all_goals refine Dd aB ?_
  all_goals refine Dd (by exact dF rfl dN rfl rfl)<|Dm ?_
  all_goals refine Sp 8 (fun h8=>?_) fun h8=>?_
  all_goals try contradiction
  all_goals refine Fo<|Fo<|Dd cX<|Dm ?_
  all_goals refine Sp 12 (fun h12=>?_) fun h12=>?_
  all_goals try contradiction
  all_goals refine Fo<|Fo<|Fo<|Fo<|Fo<|Fo<|Fo<|Fo<|Dd cX<|Zz ?_
  all_goals(exact⟨⟨_,rfl,by rfl⟩,rfl,rfl,rfl⟩)
 refine Cn ?_ ?_<;>intro hc1
 ·refine Sr<|Dd (RA aBq)<|Uu (vJ sizeOf96)<|Dd aR<|Zz<|aH ?_;refine fF (H':=[]) (.inr rfl) rfl (mR rfl kN sizeOf96 rfl rfl rfl (by simp only [Zl,lO,mI,mY];rfl) rfl) (aI rfl) (Fin.wk (by simp) trivial trivial) ?_;exact Qq
 cases hc1
theorem aFE (k p m:Int) (H:aE):aK Tryz.prog 27 [.pv .nilp,iv k,iv p,iv m] H (fun r H'=>r=.tup []∧H'=H):=by
 refine Pu ?_;refine Bd func27 rfl ntmps27<|Sr<|Dd aB<|Dd aB<|Dd (by exact aA rfl rfl NZ rfl (aAr k _))<|Dd aB<|Dd eC<|Dd eC<|Dd (by exact dW (id:=8) rfl AR rfl rfl)<|Uu (vJ sizeOf96)<|Dd aR<|Zz<|Sq ?_;refine cQ (t:=32) (n:=21) (X:=false) ?_ ?_
 ·all_goals refine Dd aB ?_
  all_goals refine Dm ?_
  all_goals refine Sp 17 (fun h17=>?_) fun h17=>?_
  all_goals try contradiction
  all_goals refine Fo<|Fo<|Dd cX<|Dm ?_
  all_goals refine Sp 21 (fun h21=>?_) fun h21=>?_
  all_goals try contradiction
  all_goals refine Fo<|Fo<|Dd cX<|Dm ?_
  all_goals refine Sp 25 (fun h25=>?_) fun h25=>?_
  all_goals try contradiction
  all_goals refine Fo<|Fo<|Dd cX<|Dm ?_
  all_goals refine Sp 29 (fun h29=>?_) fun h29=>?_
  all_goals try contradiction
  all_goals refine Fo<|Fo<|Dd cX<|Zz ?_
  all_goals(exact⟨⟨_,rfl,by rfl⟩,rfl,rfl,rfl⟩)
 refine Cn ?_ ?_<;>intro hc1
 ·cases hc1
 refine aF ?_;refine eQ (H':=[]) (by exact .inl rfl) rfl  (Fin.wk (by simp) trivial trivial) ?_;exact Qq
theorem aFF (H:aE):aK Tryz.prog 22 [.pv .nilp] H (fun r H'=>r=sv sNil∧H'=H):=by
 refine Pu ?_;refine Bd func22 rfl ntmps22<|Sr<|Dd aR<|Zz<|Sq<|Sr<|Dd aB<|Dd (by exact dF rfl dN rfl rfl)<|Zz ?_;refine Cn ?_ ?_<;>intro hc1
 ·exact Sr<|Dd aR<|Zz<|aH<|Rt<|Qq
 cases hc1
theorem YQ (a:List UInt8) (t:ByteArray):(⟨a.toArray⟩:ByteArray)++t=⟨(a++t.data.toList).toArray⟩:=by apply ByteArray.ext;rw [ByteArray.data_append];simp
end Go.Proofs.YtmkgeogoojcciaaGreatDoor
namespace Go.Abs
section
section
variable {α:Type}
def jI (κ:KeyKind α) (l:List (α×AV×Nat)):List (List AV):=l.map fun p=>[.pv (κ.pv p.1),p.2.1,.pv (.int .i64 (p.2.2:Int))]
def M7 (l:List (α×AV×Nat)):List (α×AV):=l.map fun p=>(p.1,p.2.1)
theorem BS (κ:KeyKind α) (l:List (α×AV×Nat)):(jI κ l).length=l.length:=by simp [jI]
theorem KG {κ:KeyKind α} {l:List (α×AV×Nat)} {i:Nat} {r:List AV}:(jI κ l)[i]?=some r↔∃ p,l[i]?=some p∧r=[.pv (κ.pv p.1),p.2.1,.pv (.int .i64 (p.2.2:Int))]:=by
 rw [jI,aIL];cases l[i]? with
 | none=>simp
 | some p=>simp [eq_comm]
structure GMapAt (w:World) (I:Nat→Prop) (ι:eE) (H:aE) (κ:KeyKind α) (l:List (α×AV×Nat)) (c:Nat) (es:Array MapEntry):Prop where
 size:es.size=l.length
 rel:∀ (i:Nat) (p:α×AV×Nat),l[i]?=some p→∃ e,es[i]?=some e∧e.born=p.2.2∧e.key=κ.val p.1∧VRel w I ι H e.val p.2.1
 lt:∀ (i:Nat) (e:MapEntry),es[i]?=some e→e.born < c
 inc:∀ (i j:Nat) (e e':MapEntry),i < j→es[i]?=some e→es[j]?=some e'→e.born < e'.born
theorem rZ {w:World} {I:Nat→Prop} {ι:eE} {H:aE} {id b:Nat} {ob:Ob} {κ:KeyKind α} {l:List (α×AV×Nat)} (h:gS w I ι H id ob) (hz:ob.sz=0) (hι:ι id=some (b,0)) (hrows:ob.rows=jI κ l) :
  ∃ es,w.heap[b]?=some (.map es ob.ty)∧¬ I b∧GMapAt w I ι H κ l ob.ty es:=by
 obtain ⟨_,b',es,e1,e2,e3,e4,e5,e6,e7⟩:=h.map hz hι;rw [hι] at e1;cases e1;refine⟨es,e2,e3,⟨by rw [e4,hrows,BS],fun i p hp=>?_,e5,e6⟩⟩;obtain ⟨e,k,a,n,q1,q2,q3,q4,q5⟩:=e7 i _ (by rw [hrows];exact KG.2 ⟨p,hp,rfl⟩);cases q2;exact⟨e,q1,by injection q5.int_inv with _ hh;omega,κ.rel _ _ _ _ q3.pv_inv,q4⟩
theorem Rel.gremap {I:Nat→Prop} {ι:eE} {H H':aE} {w:World} {id b c:Nat} {ob ob':Ob} {κ:KeyKind α} {l:List (α×AV×Nat)} {es0 es':Array MapEntry} {c0:Nat} (hr:Rel I ι H w) (hH:H.get id=some ob) (hι:ι id=some (b,0)) (hz:ob.sz=0) (hb:w.heap[b]?=some (.map es0 c0)) (hg:ob'.g=ob.g) (hz':ob'.sz=0) (hty:ob'.ty=c) (hrows:ob'.rows=jI κ l)
  (hm:GMapAt w I ι H κ l c es') (h1:H'.get id=some ob') (h2:∀ j,j≠id→H'.get j=H.get j):Rel I ι H' (World.setObj w b (.map es' c))∧Step I ι H w I ι H' (World.setObj w b (.map es' c)):=by
 refine hr.rewrite hH hι hz hb rfl rfl hg hz' (fun _ hs1 hI hmono=>?_) h1 h2;refine .inr (.inl ⟨hz',b,es',hι,by rw [hty];exact hs1,hI,by rw [hm.size,hrows,BS],fun i e hi=>by rw [hty];exact hm.lt i e hi,hm.inc,fun i r hr'=>?_⟩);rw [hrows] at hr';obtain ⟨p,hp,rfl⟩:=KG.1 hr';obtain ⟨e,q1,q2,q3,q4⟩:=hm.rel i p hp;exact⟨e,_,_,_,q1,rfl,by rw [q3];exact .pv (κ.rep _ _ p.1),hmono _ _ q4,by rw [q2];exact .pv (.int _ _)⟩
variable [DecidableEq α]
def BT:List (α×AV×Nat)→α→AV→Nat→List (α×AV×Nat)
 | [],k,v,c=>[(k,v,c)]
 | (k',a,n)::r,k,v,c=>if k'=k then(k,v,n)::r else(k',a,n)::BT r k v c
def BW:List (α×AV×Nat)→α→List (α×AV×Nat)
 | [],_=>[]
 | (k',a,n)::r,k=>if k'=k then r else(k',a,n)::BW r k
def G7 (l:List (α×AV×Nat)) (k:α) (c:Nat):Nat:=if(pH (M7 l) k).isSome then c else c+1
theorem P6 {w:World} {I:Nat→Prop} {ι:eE} {H:aE} (κ:KeyKind α) (k:α):∀ (l:List (α×AV×Nat)) (es:List MapEntry) (i:Nat),es.length=l.length→(∀ (i:Nat) (p:α×AV×Nat),l[i]?=some p→∃ e,es[i]?=some e∧e.key=κ.val p.1∧VRel w I ι H e.val p.2.1) →
  (Instr.findNow κ.d (κ.val k) es i=some none∧pH (M7 l) k=none∧(∀ v c,BT l k v c=l++[(k,v,c)])∧BW l k=l) ∨
  ∃ j e a n,Instr.findNow κ.d (κ.val k) es i=some (some (i+j,e.val))∧es[j]?=some e∧e.key=κ.val k∧pH (M7 l) k=some a∧VRel w I ι H e.val a∧l[j]?=some (k,a,n)∧(∀ v c,BT l k v c=l.set j (k,v,n))∧BW l k=l.eraseIdx j
 | [],[],i,_,_=>.inl ⟨rfl,rfl,fun _ _=>rfl,rfl⟩
 | (k',a,n)::l,e::es,i,hl,hr=>by
  obtain ⟨e0,z1,z2,z3⟩:=hr 0 (k',a,n) rfl;cases z1;obtain ⟨r,hr1,hiff⟩:=MapKept.sameNow_of_keys (κ.is k) (show MapKept.IsKey κ.d e.key by rw [z2];exact κ.is k');by_cases hk:k'=k
  ·subst hk;have hrt:r=true:=hiff.2 z2.symm;subst hrt;exact .inr ⟨0,e,a,n,by simp [Instr.findNow,hr1],rfl,z2,by simp [pH,M7],z3,rfl,fun v c=>by simp [BT],by simp [BW]⟩
  have hrf:r=false:=by
   cases r with
   | false=>rfl
   | true=>exact absurd (κ.inj _ _ ((hiff.1 rfl).trans z2)).symm hk
  subst hrf;rcases P6 κ k l es (i+1) (by simpa using hl) (fun i p hp=>hr (i+1) p hp)with⟨h1,h2,h3,h4⟩|⟨j,e',a',n',h1,h2,h3,h4,h5,h6,h7,h8⟩
  ·exact .inl ⟨by simp [Instr.findNow,hr1,h1],by simpa [pH,M7,hk] using h2,fun v c=>by simp [BT,hk,h3],by simp [BW,hk,h4]⟩
  exact .inr ⟨j+1,e',a',n',by simp [Instr.findNow,hr1,h1];omega,by simpa using h2,h3,by simpa [pH,M7,hk] using h4,h5,by simpa using h6,fun v c=>by simp [BT,hk,h7],by simp [BW,hk,h8]⟩
section
variable {P:Program} {N:Nat} {o:Oper} {E:bZ} {H:aE} {T kt et:TypeId} {x y z:Operand} {κ:KeyKind α} {l:List (α×AV×Nat)} {id g:Nat} {ob:Ob} {k:α}
theorem BU {w:World} {I:Nat→Prop} {ι:eE} {c:Nat} {es:Array MapEntry} (h:GMapAt w I ι H κ l c es) (k:α) :
  (Instr.findNow κ.d (κ.val k) es.toList 0=some none∧pH (M7 l) k=none∧(∀ v c,BT l k v c=l++[(k,v,c)])∧BW l k=l) ∨
  ∃ j e a n,Instr.findNow κ.d (κ.val k) es.toList 0=some (some (0+j,e.val))∧es.toList[j]?=some e∧e.key=κ.val k∧pH (M7 l) k=some a∧VRel w I ι H e.val a∧l[j]?=some (k,a,n)∧(∀ v c,BT l k v c=l.set j (k,v,n))∧BW l k=l.eraseIdx j :=
 P6 κ k l es.toList 0 (by simpa using h.size) (fun i p hp=>let ⟨e,q1,_,q3⟩:=h.rel i p hp;⟨e,by simpa using q1,q3⟩)
theorem aBS {zv:Value} {v0:AV} (ho:o.op=.lookup T x y false) (hT:P.underlying T=some (.map kt et)) (hd:P.underlying kt=some κ.d) (hx:aS E x=some (.mp id g)) (hH:H.get id=some ob) (hg:ob.g=g)
  (hrows:ob.rows=jI κ l) (hy:aS E y=some (.pv (κ.pv k))) (hz:∀ w,(zeroValue et).run P w=.ok zv w) (hv:ZV zv v0):bS P N o E H ((pH (M7 l) k).getD v0) H :=
 .of_run fun a w I ι hr he=>by
  obtain ⟨hsz,b,hι,hvx⟩:=wJ (aN he hx) hH hg;obtain ⟨es,e2,e3,e4⟩:=rZ (hr.obj id ob hH) hsz hι hrows;have hvy:=A0 (aN he hy);rcases BU e4 k with⟨h1,h2,h3,_⟩|⟨j,e,a',n,h1,h2,h3,h4,h5,_⟩
  ·refine⟨zv,?_,by rw [h2];exact hv.rel⟩;simp only [execOp,ho,hvx,hvy];simp [Instr.lookup,run_underlying hT,MapKept.run_getObj_map e2,MapKept.run_checkKey hd (κ.is k),MapKept.run_findKey hd h1,hz]
  refine⟨e.val,?_,by rw [h4];exact h5⟩;simp only [execOp,ho,hvx,hvy];simp [Instr.lookup,run_underlying hT,MapKept.run_getObj_map e2,MapKept.run_checkKey hd (κ.is k),MapKept.run_findKey hd h1]
theorem D7 {zv:Value} {v0:AV} (ho:o.op=.lookup T x y true) (hT:P.underlying T=some (.map kt et)) (hd:P.underlying kt=some κ.d) (hx:aS E x=some (.mp id g)) (hH:H.get id=some ob) (hg:ob.g=g)
  (hrows:ob.rows=jI κ l) (hy:aS E y=some (.pv (κ.pv k))) (hz:∀ w,(zeroValue et).run P w=.ok zv w) (hv:ZV zv v0):bS P N o E H (.tup [(pH (M7 l) k).getD v0,.pv (.bool (pH (M7 l) k).isSome)]) H :=
 .of_run fun a w I ι hr he=>by
  obtain ⟨hsz,b,hι,hvx⟩:=wJ (aN he hx) hH hg;obtain ⟨es,e2,e3,e4⟩:=rZ (hr.obj id ob hH) hsz hι hrows;have hvy:=A0 (aN he hy);have two:∀ {u:Value} {a:AV} {c:Bool},VRel w I ι H u a→VRel w I ι H (.tuple #[u,.bool c]) (.tup [a,.pv (.bool c)]):=fun {u a c} hu=>.tup rfl (fun i v q hv hq=>by
   match i with
   | 0=>simp at hv hq;subst hv hq;exact hu
   | 1=>simp at hv hq;subst hv hq;exact .pv (.bool _)
   | i+2=>simp at hv)
  rcases BU e4 k with⟨h1,h2,h3,_⟩|⟨j,e,a',n,h1,h2,h3,h4,h5,_⟩
  ·refine⟨.tuple #[zv,.bool false],?_,by rw [h2];exact two hv.rel⟩;simp only [execOp,ho,hvx,hvy];simp [Instr.lookup,run_underlying hT,MapKept.run_getObj_map e2,MapKept.run_checkKey hd (κ.is k),MapKept.run_findKey hd h1,hz]
  refine⟨.tuple #[e.val,.bool true],?_,by rw [h4];exact two h5⟩;simp only [execOp,ho,hvx,hvy];simp [Instr.lookup,run_underlying hT,MapKept.run_getObj_map e2,MapKept.run_checkKey hd (κ.is k),MapKept.run_findKey hd h1]
theorem oY {v:AV} {c c':Nat} {l':List (α×AV×Nat)} (ho:o.op=.mapUpdate T x y z∨o.op=.insert T x y z) (hT:P.underlying T=some (.map kt et)) (hd:P.underlying kt=some κ.d) (hx:aS E x=some (.mp id g)) (hH:H.get id=some ob) (hg:ob.g=g)
  (hty:ob.ty=c) (hrows:ob.rows=jI κ l) (hy:aS E y=some (.pv (κ.pv k))) (hz:aS E z=some v) (hl:BT l k v c=l') (hc:G7 l k c=c'):bS P N o E H .any ((id,⟨g,ob.sz,c',jI κ l'⟩)::H):=by
 intro a w I ι _ _ hr he K Q hkk;obtain ⟨hsz,b,hι,hvx⟩:=wJ (aN he hx) hH hg;obtain ⟨es,e2,e3,e4⟩:=rZ (hr.obj id ob hH) hsz hι hrows;rw [hty] at e2 e4;have hvy:=A0 (aN he hy);have hvz:=aN he hz;subst hl hc hg;have fin:∀ es',(Instr.mapUpdate T (a.eval x) (a.eval y) (a.eval z)).run P w=.ok () (World.setObj w b (.map es' (G7 l k c)))→GMapAt w I ι H κ (BT l k v c) (G7 l k c) es'→o.wpW P a w K Q:=by
  intro es' hrun hm;obtain ⟨k2,k3⟩:=Rel.gremap (H':=(id,⟨ob.g,ob.sz,G7 l k c,jI κ (BT l k v c)⟩)::H) (ob':=⟨ob.g,ob.sz,G7 l k c,jI κ (BT l k v c)⟩) hr hH hι hsz e2 rfl hsz rfl rfl hm (get_cons_same _ _ _) (fun j hj=>get_cons_other _ _ hj);unfold Oper.wpW execOp;rcases ho with ho|ho
  ·simp only [ho,Sem.run_bind,hrun,Result.andThen_ok,Sem.run_pure];exact hkk _ _ I ι _ _ ⟨rfl,rfl⟩ (.any _) k2 k3
  simp only [ho,Sem.run_bind,hrun,Result.andThen_ok,Sem.run_pure];exact hkk _ _ I ι _ _ ⟨rfl,rfl⟩ (.any _) k2 k3
 rcases BU e4 k with⟨h1,h2,h3,_⟩|⟨j,e,a',n,h1,h2,h3,h4,h5,h6,h7,h8⟩
 ·have hcl:G7 l k c=c+1:=by rw [G7,h2];rfl
  refine fin (es.push {key:=κ.val k,val:=a.eval z,born:=c}) ?_ ⟨?_,?_,?_,?_⟩
  ·simp [Instr.mapUpdate,hvx,hvy,run_underlying hT,MapKept.run_getObj_map e2,MapKept.run_checkKey hd (κ.is k),MapKept.run_findKey hd h1,MapKept.run_setObj_map _ e2,World.setObj,hcl]
  ·rw [h3];simp [e4.size]
  ·intro i p hp;rw [h3] at hp;by_cases hi:i < l.length
   ·rw [List.getElem?_append_left hi] at hp;obtain ⟨e,q1,q2⟩:=e4.rel i p hp;exact⟨e,by rw [Array.getElem?_push,aHp (by rw [e4.size];omega)];exact q1,q2⟩
   rw [List.getElem?_append_right (by omega)] at hp;cases hil:i - l.length with
   | zero =>
    rw [hil] at hp;cases hp;exact⟨_,by rw [Array.getElem?_push,aHq (by rw [e4.size];omega)],rfl,rfl,hvz⟩
   | succ m=>rw [hil] at hp;simp at hp
  ·intro i e hi;rw [Array.getElem?_push] at hi
   split at hi
   ·cases hi;show c < _;omega
   have:=e4.lt i e hi;omega
  intro i j' e e' hij hi hj;have hjs:j' < es.size+1:=by
   have:=(Array.getElem?_eq_some_iff.1 hj).1
   simpa using this
  rw [Array.getElem?_push,aHp (by omega)] at hi;rw [Array.getElem?_push] at hj
  split at hj
  ·cases hj;exact e4.lt i e hi
  exact e4.inc i j' e e' hij hi hj
 have hj:es[j]?=some e:=by simpa using h2
 have hjl:j < es.size:=(Array.getElem?_eq_some_iff.1 hj).1;have hcl:G7 l k c=c:=by rw [G7,h4];rfl
 have hbe:e.born=n:=by
  obtain ⟨e',q1,q2,_⟩:=e4.rel j _ h6;rw [hj] at q1;cases q1;exact q2
 have hmod:∀ (i:Nat) (x:MapEntry),(es.modify j fun e=>{e with key:=κ.val k,val:=a.eval z})[i]?=some x→∃ y,es[i]?=some y∧y.born=x.born:=by
  intro i x hx;rw [Array.getElem?_modify] at hx
  split at hx
  ·next hij =>
   subst hij;rw [hj] at hx;cases hx;exact⟨e,hj,rfl⟩
  exact⟨x,hx,rfl⟩
 refine fin (es.modify j fun e=>{e with key:=κ.val k,val:=a.eval z}) ?_ ⟨?_,?_,?_,?_⟩
 ·simp [Instr.mapUpdate,hvx,hvy,run_underlying hT,MapKept.run_getObj_map e2,MapKept.run_checkKey hd (κ.is k),MapKept.run_findKey hd h1,hj,h3,MapKept.run_keyThatStays (κ.is k),MapKept.run_setObj_map _ e2,World.setObj,hcl]
 ·rw [h7];simp [e4.size]
 ·intro i p hp;rw [h7] at hp;by_cases e0:i=j
  ·subst e0;rw [List.getElem?_set_self (by rw [← e4.size];exact hjl)] at hp;cases hp;exact⟨{e with key:=κ.val k,val:=a.eval z},by rw [Array.getElem?_modify,aHq rfl,hj];rfl,hbe,rfl,hvz⟩
  rw [List.getElem?_set_ne (Ne.symm e0)] at hp;obtain ⟨e',q1,q2⟩:=e4.rel i p hp;exact⟨e',by rw [Array.getElem?_modify,aHp (Ne.symm e0)];exact q1,q2⟩
 ·intro i x hx;obtain ⟨y,y1,y2⟩:=hmod i x hx;rw [← y2,hcl];exact e4.lt i y y1
 intro i i' x x' hii hx hx';obtain ⟨y,y1,y2⟩:=hmod i x hx;obtain ⟨y',y3,y4⟩:=hmod i' x' hx';rw [← y2,← y4];exact e4.inc i i' y y' hii y1 y3
theorem X5 {β:Type} {l:List β} {j i:Nat}:(l.eraseIdx j)[i]?=if i < j then l[i]? else l[i+1]?:=List.getElem?_eraseIdx
theorem P7 {c:Nat} {l':List (α×AV×Nat)} (ho:o.op=.call {callee:=.builtin .delete,args:=#[x,y],argTypes:=#[T,kt]}) (hT:P.underlying T=some (.map kt et)) (hd:P.underlying kt=some κ.d) (hx:aS E x=some (.mp id g)) (hH:H.get id=some ob) (hg:ob.g=g)
  (hty:ob.ty=c) (hrows:ob.rows=jI κ l) (hy:aS E y=some (.pv (κ.pv k))) (hl:BW l k=l'):bS P N o E H .any ((id,⟨g,ob.sz,c,jI κ l'⟩)::H):=by
 intro a w I ι _ _ hr he K Q hkk;obtain ⟨hsz,b,hι,hvx⟩:=wJ (aN he hx) hH hg;obtain ⟨es,e2,e3,e4⟩:=rZ (hr.obj id ob hH) hsz hι hrows;rw [hty] at e2 e4;have hvy:=A0 (aN he hy);subst hl hg;have fin:∀ es',(execOp a.eval o).run P w=.ok (.value (.tuple #[])) (World.setObj w b (.map es' c))→GMapAt w I ι H κ (BW l k) c es'→o.wpW P a w K Q:=by
  intro es' hrun hm;obtain ⟨k2,k3⟩:=Rel.gremap (H':=(id,⟨ob.g,ob.sz,c,jI κ (BW l k)⟩)::H) (ob':=⟨ob.g,ob.sz,c,jI κ (BW l k)⟩) hr hH hι hsz e2 rfl hsz rfl rfl hm (get_cons_same _ _ _) (fun j hj=>get_cons_other _ _ hj);unfold Oper.wpW;rw [hrun];exact hkk _ _ I ι _ _ ⟨rfl,rfl⟩ (.any _) k2 k3
 rcases BU e4 k with⟨h1,h2,h3,h4⟩|⟨j,e,a',n,h1,h2,h3,h4,h5,h6,h7,h8⟩
 ·refine fin es ?_ (by rw [h4];exact e4);unfold execOp;simp only [ho,resolve,invoke,builtin,Sem.run_bind,Sem.run_pure,Result.andThen_ok,List.map_toArray,List.map_cons,List.map_nil,hvx,hvy];simp [Builtin.delete_,run_underlying hT,MapKept.run_getObj_map e2,MapKept.run_checkKey hd (κ.is k),MapKept.run_findKey hd h1,MapKept.run_setObj_map _ e2,World.setObj]
 have hj:es[j]?=some e:=by simpa using h2
 have hjl:j < es.size:=(Array.getElem?_eq_some_iff.1 hj).1;have her:es.eraseIdxIfInBounds j=es.eraseIdx j hjl:=by rw [Array.eraseIdxIfInBounds,dif_pos hjl]
 have hget:∀ i:Nat,(es.eraseIdx j hjl)[i]?=if i < j then es[i]? else es[i+1]?:=fun i=>Array.getElem?_eraseIdx ..
 refine fin (es.eraseIdx j hjl) ?_ ⟨?_,?_,?_,?_⟩
 ·unfold execOp;simp only [ho,resolve,invoke,builtin,Sem.run_bind,Sem.run_pure,Result.andThen_ok,List.map_toArray,List.map_cons,List.map_nil,hvx,hvy];simp [Builtin.delete_,run_underlying hT,MapKept.run_getObj_map e2,MapKept.run_checkKey hd (κ.is k),MapKept.run_findKey hd h1,MapKept.run_setObj_map _ e2,World.setObj,her]
 ·rw [h8,List.length_eraseIdx,aHq (by rw [← e4.size];exact hjl),← e4.size];simp
 ·intro i p hp;rw [h8,X5] at hp;rw [hget]
  split at hp
  ·next hi=>rw [aHq hi];exact e4.rel i p hp
  next hi=>rw [aHp hi];exact e4.rel (i+1) p hp
 ·intro i x hx;rw [hget] at hx
  split at hx
  ·exact e4.lt _ x hx
  exact e4.lt _ x hx
 intro i i' x x' hii hx hx';rw [hget] at hx hx'
 split at hx<;>split at hx'
 ·exact e4.inc _ _ x x' hii hx hx'
 ·exact e4.inc _ _ x x' (by omega) hx hx'
 ·omega
 exact e4.inc _ _ x x' (by omega) hx hx'
end
end
section
variable {α:Type} {P:Program} {N:Nat} {o:Oper} {E:bZ} {H:aE} {T kt et:TypeId} {x y z:Operand} {κ:KeyKind α} {l:List (α×AV×Nat)} {id g q gq since last c:Nat} {ob oq:Ob} {seen:List Nat}
theorem D8 (ho:o.op=.call {callee:=.builtin .len,args:=#[x],argTypes:=#[T]}) (hT:P.underlying T=some (.map kt et)) (hx:aS E x=some (.mp id g)) (hH:H.get id=some ob) (hg:ob.g=g) (hrows:ob.rows=jI κ l) :
  bS P N o E H (.pv (.int .i64 l.length)) H :=
 .of_run fun a w I ι hr he=>by
  obtain ⟨hsz,b,hι,hvx⟩:=wJ (aN he hx) hH hg;obtain ⟨es,e2,e3,e4⟩:=rZ (hr.obj id ob hH) hsz hι hrows;refine⟨.int .i64 l.length,?_,.pv (.int _ _)⟩;simp [execOp,ho,resolve,invoke,builtin,hvx,Builtin.len_,run_underlying hT,MapKept.run_getObj_map e2,goInt,e4.size]
theorem E4 (ho:o.op=.range T x) (hT:P.underlying T=some (.map kt et)) (hx:aS E x=some (.mp id g)) (hH:H.get id=some ob) (hg:ob.g=g) (hrows:ob.rows=jI κ l) (hty:ob.ty=c) (hq:H.get q=none) :
  bS P N o E H (.it q 0) ((q,⟨0,0,0,gU (.mp id g) c c []⟩)::H):=by
 intro a w I ι _ _ hr he K Q hk;have hvx0:=aN he hx;obtain ⟨hsz,b,hι,hvx⟩:=wJ hvx0 hH hg;obtain ⟨es,e2,e3,e4⟩:=rZ (hr.obj id ob hH) hsz hι hrows;rw [hty] at e2;obtain ⟨k2,k3⟩:=Rel.placeX (H':=(q,⟨0,0,0,gU (.mp id g) c c []⟩)::H) (id:=q) (cap:=1) (ob':=⟨0,0,0,gU (.mp id g) c c []⟩) (x:=.mapIter (some b) c #[] c) (w':=w.alloc (.mapIter (some b) c #[] c)) hr rfl rfl rfl rfl
  (fun o ho=>by rw [hq] at ho;cases ho) (fun hnew hI hmono=>.inr (.inr (.inl ⟨rfl,w.heap.size,some b,c,#[],c,by simp,hnew,hI,rfl,⟨_,_,_,rfl,by rw [← hvx];exact hmono _ _ hvx0,.pv (.int _ _),.pv (.int _ _)⟩,fun i r hr'=>by simp [gU] at hr'⟩)))
  (get_cons_same _ _ _) (fun j hj=>get_cons_other _ _ hj)
 have hrun:(execOp a.eval o).run P w=.ok (.value (.pointer (some ⟨w.heap.size,0,none⟩))) (w.alloc (.mapIter (some b) c #[] c)):=by
  simp only [execOp,ho,hvx];simp [Instr.range,run_underlying hT,MapKept.run_getObj_map e2]
 unfold Oper.wpW;rw [hrun];exact hk _ _ I _ _ _ ⟨rfl,rfl⟩ (.it ⟨0,0,0,gU (.mp id g) c c []⟩ (get_cons_same _ _ _) (aHx _) rfl fun _=>⟨rfl,w.heap.size,by simp,rfl⟩) k2 k3
theorem aBP {w:World} {I:Nat→Prop} {ι:eE} {es:Array MapEntry} (h:GMapAt w I ι H κ l c es) :
  ((leftOf es seen.toArray).size=0→∀ p∈l,p.2.2∈seen)∧∀ e∈(leftOf es seen.toArray).toList,∃ (i:Nat) (p:α×AV×Nat),l[i]?=some p∧p.2.2∉seen∧e.born=p.2.2∧e.key=κ.val p.1∧VRel w I ι H e.val p.2.1:=by
 constructor
 ·intro h0 p hp;obtain ⟨i,hi⟩:=aIM.1 hp;obtain ⟨e,q1,q2,_⟩:=h.rel i p hi;have h1:leftOf es seen.toArray=#[]:=Array.eq_empty_of_size_eq_zero h0;rw [leftOf,Array.filter_eq_empty_iff] at h1;have:=h1 e (Array.mem_of_getElem? q1);simp only [aIK,Bool.not_eq_false,List.contains_toArray,List.contains_eq_mem,aHy] at this;rw [← q2];simpa using this
 intro e he;simp only [leftOf,Array.toList_filter,List.mem_filter,aIK,List.contains_toArray,List.contains_eq_mem,aHz] at he;obtain ⟨h1,h2⟩:=he;obtain ⟨i,hi⟩:=aIM.1 h1;have hi':es[i]?=some e:=by simpa using hi
 have hlt:i < l.length:=by rw [← h.size];exact(Array.getElem?_eq_some_iff.1 hi').1
 obtain ⟨e',z1,z2,z3⟩:=h.rel i l[i] (aHw hlt);rw [hi'] at z1;cases z1;exact⟨i,l[i],aHw hlt,by rw [← z2];exact h2,z2,z3⟩
theorem M9 (ho:o.op=.next x false) (hx:aS E x=some (.it q gq)) (hQ:H.get q=some oq) (hgq:oq.g=gq) (hrq:oq.rows=gU (.mp id g) since last seen) (hH:H.get id=some ob) (hg:ob.g=g) (hrows:ob.rows=jI κ l) (hty:ob.ty=c)
  (hold:c≤since) (hlast:since≤last) :
  TU P N o E H (fun r H'=>(r=.tup [.pv (.bool false)]∧H'=H∧∀ p∈l,p.2.2∈seen)∨∃ (i:Nat) (p:α×AV×Nat),l[i]?=some p∧p.2.2∉seen∧r=.tup [.pv (.bool true),.pv (κ.pv p.1),p.2.1]∧H'=(q,⟨gq,0,oq.ty,gU (.mp id g) since c (seen++[p.2.2])⟩)::H):=by
 intro a w I ι _ _ hr he K Q hk;obtain ⟨hsz,b,hι,hvx⟩:=S0 (aN he hx) hQ hgq;obtain ⟨bm,hιm,hmz,hbq,hI⟩:=VF (hr.obj q oq hQ) hsz hι hrq hH hg;obtain ⟨es,e2,e3,e4⟩:=rZ (hr.obj id ob hH) hmz hιm hrows;rw [hty] at e2 e4;have hold':∀ x∈es.toList,x.born < since:=fun x hx=>by
  obtain ⟨i,hi⟩:=aIM.1 hx;have:=e4.lt i x (by simpa using hi);omega
 obtain ⟨l1,l2⟩:=aBP (seen:=seen) e4;rcases aAM (P:=P) w o.type b bm since last seen.toArray es c hbq e2 hold' hlast with⟨h0,hrun⟩|⟨e,he',d,hrun⟩
 ·unfold Oper.wpW execOp;simp only [ho,hvx,Sem.run_bind,hrun,Result.andThen_ok,Sem.run_pure];refine hk _ _ I ι _ _ (.inl ⟨rfl,rfl,l1 h0⟩) (.tup rfl (fun i v c hv hc=>?_)) hr (Step.refl _ _ _ _)
  match i with
  | 0=>simp at hv hc;subst hv hc;exact .pv (.bool _)
  | i+1=>simp at hv
 obtain ⟨i,p,hip,hni,hbn,hkey,hval⟩:=l2 e he';obtain ⟨r1,r2⟩:=hr.drawn (w':={w with drawn:=d}) rfl rfl rfl rfl;have hq2:aE.get ((q,⟨gq,0,oq.ty,gU (.mp id g) since c (seen++[p.2.2])⟩)::H) q=some ⟨gq,0,oq.ty,gU (.mp id g) since c (seen++[p.2.2])⟩:=get_cons_same _ _ _;have hmp:VRel {w with drawn:=d} I ι H (.map (some bm)) (.mp id g):=.mp ob hH (by omega) rfl fun _=>⟨hmz,bm,hιm,rfl⟩;obtain ⟨k2,k3⟩:=Rel.rewrite (H':=(q,⟨gq,0,oq.ty,gU (.mp id g) since c (seen++[p.2.2])⟩)::H) (ob':=⟨gq,0,oq.ty,gU (.mp id g) since c (seen++[p.2.2])⟩) (x:=.mapIter (some bm) since (seen.toArray.push e.born) c) r1 hQ hι hsz hbq rfl rfl hgq.symm rfl
  (fun _ hs1 hI' hmono=>.inr (.inr (.inl ⟨rfl,b,some bm,since,seen.toArray.push e.born,c,hι,hs1,hI',by simp [gU],⟨_,_,_,rfl,hmono _ _ hmp,.pv (.int _ _),.pv (.int _ _)⟩,fun j r hj=>by
   simp only [gU,List.getElem?_cons_succ,aIL] at hj;obtain ⟨n,hn,rfl⟩:=Option.map_eq_some_iff.1 hj;refine⟨n,_,?_,rfl,.pv (.int _ _)⟩;rw [hbn]
   simpa using hn⟩))) hq2 (fun j hj=>get_cons_other _ _ hj)
 unfold Oper.wpW execOp;simp only [ho,hvx,Sem.run_bind,hrun,Result.andThen_ok,Sem.run_pure];refine hk _ _ I ι _ _ (.inr ⟨i,p,hip,hni,rfl,rfl⟩) (.tup rfl (fun j v c hv hc=>?_)) k2 (r2.trans k3)
 match j with
 | 0=>simp at hv hc;subst hv hc;exact .pv (.bool _)
 | 1=>simp at hv hc;subst hv hc;rw [hkey];exact .pv (κ.rep _ _ _)
 | 2=>simp at hv hc;subst hv hc;exact(hval.mono hr r2).mono r1 k3
 | j+3=>simp at hv
theorem E5 {i:Nat} {p:α×AV×Nat} (ho:o.op=.entry x) (hx:aS E x=some (.it q gq)) (hQ:H.get q=some oq) (hgq:oq.g=gq) (hrq:oq.rows=gU (.mp id g) since c (seen++[p.2.2])) (hH:H.get id=some ob) (hg:ob.g=g) (hrows:ob.rows=jI κ l) (hty:ob.ty=c)
  (hip:l[i]?=some p):bS P N o E H (.tup [.pv (κ.pv p.1),p.2.1]) H :=
 .of_run fun a w I ι hr he=>by
  obtain ⟨hsz,b,hι,hvx⟩:=S0 (aN he hx) hQ hgq;obtain ⟨bm,hιm,hmz,hbq,hI⟩:=VF (hr.obj q oq hQ) hsz hι hrq hH hg;obtain ⟨es,e2,e3,e4⟩:=rZ (hr.obj id ob hH) hmz hιm hrows;rw [hty] at e2;obtain ⟨e,q1,q2,q3,q4⟩:=e4.rel i p hip;have hf:es.find? (·.born == p.2.2)=some e:=by
   rw [← Array.find?_toList,← q2];refine find_born e es.toList ?_ (by simpa using Array.mem_of_getElem? q1);refine List.pairwise_iff_getElem.2 fun j k hj hk hjk=>?_;have hk':k < es.size:=by simpa using hk
   have z:=e4.inc j k _ _ hjk (Array.getElem?_eq_getElem (by omega)) (Array.getElem?_eq_getElem hk');simp only [List.getElem_map,Array.getElem_toList];omega
  refine⟨.tuple #[e.key,e.val],?_,.tup rfl (fun j v c hv hc=>?_)⟩
  ·simp only [execOp,ho,hvx];simp [Instr.entry,getObj,Sem.run,hbq,e2,hf]
  match j with
  | 0=>simp at hv hc;subst hv hc;rw [q3];exact .pv (κ.rep _ _ _)
  | 1=>simp at hv hc;subst hv hc;exact q4
  | j+2=>simp at hv
end
end
end Go.Abs
