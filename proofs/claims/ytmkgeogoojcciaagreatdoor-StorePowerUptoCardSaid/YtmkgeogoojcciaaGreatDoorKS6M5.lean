/-
  Parts of the proof: rules of an abstract program logic, contracts of functions, plain laws. Conditions: each theorem's own.
-/
import Derived.Test.YtmkgeogoojcciaaGreatDoorKS6M4
import Derived.Lib.ItoaLen
import Derived.Lib.Bytealg
import Derived.Lib.Strings
import Derived.Lib.AtoiTie
import Derived.Lib.ItoaMem
import Derived.Below
import Derived.Shelf.Strings.Repeat
import Derived.Shelf.Strconv.ErrVarAll
import Derived.Shelf.Strconv.AtoiAll
import Derived.Shelf.LaysC
import Derived.Ground.NamesProg
import Derived.WideLaws
set_option linter.unusedVariables false
set_option linter.unusedSimpArgs false
set_option maxRecDepth 100000
set_option maxHeartbeats 8000000
namespace Go.Proofs
theorem aA4:type_of% Tryz.call101:=Tryz.call101
theorem BZ:type_of% Tryz.call102:=Tryz.call102
theorem wJ:type_of% Tryz.call81:=Tryz.call81
theorem qH:type_of% Tryz.call98:=Tryz.call98
theorem aA1:type_of% Tryz.func147:=Tryz.func147
theorem jL:type_of% Tryz.isAgg77:=Tryz.isAgg77
theorem oC:type_of% Tryz.isAgg78:=Tryz.isAgg78
theorem jK:type_of% Tryz.isAgg96:=Tryz.isAgg96
theorem Z1:type_of% Tryz.ntmps147:=Tryz.ntmps147
theorem jJ:type_of% Tryz.underlying132:=Tryz.underlying132
theorem fN:type_of% Tryz.underlying29:=Tryz.underlying29
theorem PT:type_of% Tryz.underlying78:=Tryz.underlying78
end Go.Proofs
namespace Go.Proofs.YtmkgeogoojcciaaGreatDoor
open Go.Proofs.Tryz
open Go.Abs
theorem kJ:∀ (x y:List UInt8),Op.bytesLess x y=decide (x < y)
 | [],[]=>by simp [Op.bytesLess]
 | _::_,[]=>by simp [Op.bytesLess]
 | [],_::_=>by simp [Op.bytesLess]
 | a::x,b::y=>by
  rw [Op.bytesLess,kJ x y];simp only [List.cons_lt_cons_iff];by_cases h1:a < b<;>by_cases h2:a=b<;>by_cases h3:x < y<;>simp [h1,h2,h3]
theorem LV (s:ByteArray):mQ s s=false:=by unfold mQ;rw [kJ];exact decide_eq_false (List.lt_irrefl _)
theorem yY {a b:ByteArray} (h1:mQ a b=false) (h2:mQ b a=false):a=b:=by
 unfold mQ at h1 h2;rw [kJ] at h1 h2;have e:a.toList=b.toList:=List.le_antisymm (List.not_lt.1 (aBD h2)) (List.not_lt.1 (aBD h1));have:=A1 a b;rw [e] at this
 simpa using this.symm
theorem wT {a b c:ByteArray} (h1:mQ a b=true) (h2:mQ b c=true):mQ a c=true:=by unfold mQ at *;rw [kJ] at *;exact decide_eq_true (List.lt_trans (aBC h1) (aBC h2))
theorem iG {l:List ByteArray} {s:ByteArray}:VX l s=true↔s∈l:=by
 unfold VX;rw [List.any_eq_true];constructor
 ·rintro⟨a,h1,h2⟩;rw [← aBC h2];exact h1
 intro h;exact⟨s,h,decide_eq_true rfl⟩
def pC (s:ByteArray):ByteArray:=dS (s.size:Int)++⟨#[58]⟩++s
def aR (l:List ByteArray):List UInt8:=l.flatMap fun s=>(pC s).data.toList
theorem tX {n:Int} (h0 : -9223372036854775808≤n) (h1:n≤9223372036854775807):(dS n).size≤21:=by
 have:=Lib.itoa_length_le n h0 h1;show (Lib.itoa n).toArray.size≤21
 simpa using this
theorem nH (s:ByteArray):(pC s).size=(dS (s.size:Int)).size+1+s.size:=by rw [pC,ByteArray.size_append,ByteArray.size_append];rfl
theorem vP (l:List ByteArray) (s:ByteArray):aR (l++[s])=aR l++(pC s).data.toList:=by rw [aR,aR,List.flatMap_append,List.flatMap_cons,List.flatMap_nil,List.append_nil]
theorem A4:∀ (l:List ByteArray) (k:Nat),(aR (l.take k)).length≤(aR l).length:=fun l k=>by
 have h:aR l=aR (l.take k)++aR (l.drop k):=by rw [aR,aR,aR,← List.flatMap_append,List.take_append_drop]
 rw [h,aBH];omega
theorem dK {α:Type} {l:List α} {k:Nat} {a:α} (h:l[k]?=some a):l.take (k+1)=l.take k++[a]:=by rw [List.take_add_one,h,Option.toList_some]
theorem qQ (s:ByteArray):s.data.toList.length=s.size:=by simp
theorem rG:∀ l:List ByteArray,l.length≤(aR l).length
 | []=>aBM _
 | s::r=>by
  have ih:=rG r;have h:aR (s::r)=(pC s).data.toList++aR r:=by rw [aR,List.flatMap_cons];rfl
  rw [h,aBH,aBI,qQ,nH];omega
end Go.Proofs.YtmkgeogoojcciaaGreatDoor
namespace Go.Abs
theorem A5 {c:UInt8}:∀ {l:List UInt8},Lib.indexByte l c = -1↔c∉l
 | []=>by simp [Lib.indexByte]
 | b::l=>by
  have ih:=A5 (c:=c) (l:=l);have hg:=Lib.indexByte_ge l c;rw [Lib.indexByte];by_cases h:b=c
  ·subst h;simp
  simp only [beq_iff_eq,h,if_false,aBS,not_or];constructor
  ·intro h2
   split at h2
   ·exact⟨fun e=>h e.symm,ih.1 (by assumption)⟩
   omega
  rintro⟨_,h2⟩;rw [ih.2 h2];rfl
theorem A6 {c:UInt8}:∀ {l:List UInt8},Lib.indexByte l c ≠ -1→∃ w r,l=w++c::r∧c∉w∧Lib.indexByte l c=(w.length:Int)
 | [],h=>absurd rfl h
 | b::l,h=>by
  by_cases e:b=c
  ·subst e;exact⟨[],l,rfl,by simp,by simp [Lib.indexByte]⟩
  have e1:Lib.indexByte l c ≠ -1:=fun e2=>h (by rw [Lib.indexByte];simp [e,e2]);obtain ⟨w,r,h1,h2,h3⟩:=A6 e1;refine⟨b::w,r,by rw [h1];rfl,by rw [aBS,not_or];exact⟨fun x=>e x.symm,h2⟩,?_⟩;rw [Lib.indexByte];simp only [beq_iff_eq,e,if_false,e1,h3,aBI];rw [aBE (by omega)]
  push_cast
  rfl
end Go.Abs
namespace Go.Proofs.YtmkgeogoojcciaaGreatDoor
open Go.Proofs.Tryz
open Go.Abs
theorem eqL {a b:ByteArray} (h:a.data.toList=b.data.toList):a=b:=by cases a;cases b;simp_all [Array.toList_inj]
def dE (l:List ByteArray):List (List AV):=l.map fun s=>[.pv (.str s)]
theorem fE (l:List ByteArray):(dE l).length=l.length:=aBG _
theorem mE (l:List ByteArray) (s:ByteArray):dE l++[[.pv (.str s)]]=dE (l++[s]):=by rw [dE,dE,List.map_append];rfl
theorem fT (H:aA) (l:List ByteArray):∀ r∈dE l,∀ a∈r,Clo H a:=by intro r hr a ha;obtain ⟨b,_,rfl⟩:=List.mem_map.1 hr;rw [aBJ] at ha;subst ha;simp
theorem kS (l:List ByteArray):dE l=(l.map encStr).map (·.map .pv):=by rw [List.map_map];rfl
end Go.Proofs.YtmkgeogoojcciaaGreatDoor
namespace Go.Abs
theorem lF {P:Program} {G0:aA} {N:Nat} {Q:Exit→bH→aA→Prop} {E:bH} {H:aA} {x y:Code} {α:Type} (S:α→bH×aA) (J:α→Prop)
  (h:gM P G0 N x (rV (fun E1 H1=>∃ a,J a∧cA G0 E1 H1 (S a).1 (S a).2) Q) E H) (h':∀ a,J a→gM P G0 N y Q (S a).1 (S a).2):gM P G0 N (.seq x y) Q E H :=
 M0 (h.mono fun e E1 H1 q=>by
  cases e with
  | normal =>
   obtain ⟨a,ha,he⟩:=q;exact gM.ent he (h' a ha)
  | _=>exact q)
theorem T8 {H:aA} {x:Go.Loop} {E0:bH} (h:∀ p∈E0,Clo H p.2):∀ r∈(LR x E0).rows,∀ a∈r,Clo H a:=by
 intro r hr a ha;simp only [LR,aBS,aBW,or_false] at hr;rcases hr with rfl|rfl
 ·rw [aBJ] at ha;subst ha;simp
 obtain ⟨p,hp,rfl⟩:=List.mem_map.1 ha;exact h p hp
def KE (A B:aA):List Nat→Prop
 | []=>True
 | j::r=>A.get j=B.get j∧KE A B r
theorem KE.spec {A B:aA}:∀ {l:List Nat},KE A B l→∀ j∈l,A.get j=B.get j
 | i::r,h,j,hj=>by
  rcases aBS.1 hj with rfl|hj
  ·exact h.1
  exact KE.spec h.2 j hj
theorem MM {D:aA} {j:Nat} (h:j∉D.map (·.1)):D.get j=none:=by
 cases hg:D.get j with
 | none=>rfl
 | some o=>exact absurd (List.mem_map.2 ⟨_,cU hg,rfl⟩) h
theorem oQ (A B:aA) {K:aA} (h:KE A B (A.map (·.1)++B.map (·.1))) (j:Nat):aA.get (A++K) j=aA.get (B++K) j:=by
 rw [fM,fM];have e:A.get j=B.get j:=by
  by_cases hj:j∈A.map (·.1)++B.map (·.1)
  ·exact h.spec j hj
  rw [List.mem_append,not_or] at hj;rw [MM hj.1,MM hj.2]
 rw [e]
end Go.Abs
namespace Go.Proofs.YtmkgeogoojcciaaGreatDoor
open Go.Proofs.Tryz
open Go.Abs
structure GFound where
 kind:Int
 text:ByteArray
 pos:Nat
 err:Int
def aA9 (l:List GFound) (k:Nat):List GFound:=(l.drop (3*k)).take 3
theorem dR (s:ByteArray):s.data.toList.length=s.size:=by simp
theorem lE {a b:ByteArray} (h:a.data.toList=b.data.toList):a=b:=by cases a with|mk a=>cases b with|mk b=>cases a;cases b;simp at h;rw [h]
theorem eJ (s:ByteArray) (i j:Nat):(s.extract i j).data.toList=(s.data.toList.drop i).take (j - i):=by rw [ByteArray.data_extract,Array.toList_extract,List.extract_eq_take_drop]
theorem rL {s:ByteArray} {i:Nat}:(s.extract i s.size).data.toList=s.data.toList.drop i:=by rw [eJ];exact List.take_of_length_le (by rw [aBV,dR];exact aBM _)
end Go.Proofs.YtmkgeogoojcciaaGreatDoor
namespace Go.Abs
open Go.Lib
theorem MV {d:Nat} (h:d < 10):digitVal (UInt8.ofNat (48+d))=some d:=by
 have e:(UInt8.ofNat (48+d)).toNat=48+d:=by rw [UInt8.toNat_ofNat'];omega
 rw [digitVal,e,aBF (by omega)];congr 1;omega
theorem pM {b:UInt8} {d:Nat} (hb:digitVal b=some d):∀ (l:List UInt8) (acc:Nat),decFrom acc (l++[b])=(decFrom acc l).map fun n=>n*10+d
 | [],acc=>by
  simp [decFrom,hb]
 | c::l,acc=>by
  rw [List.cons_append,decFrom,decFrom];cases h:digitVal c with
  | none=>rfl
  | some x=>exact pM hb l _
theorem pN (u:Nat):decDigits u≠[]:=by
 rw [decDigits]
 split
 ·simp
 simp
theorem mY (u:Nat):decFrom 0 (decDigits u)=some u:=by
 induction u using Nat.strongRecOn with
 | ind u ih =>
  rw [decDigits]
  split
  ·rename_i h;rw [← List.nil_append [_],pM (MV h)];simp [decFrom]
  rename_i h;rw [pM (MV (Nat.mod_lt u (by decide))),ih (u / 10) (by omega)];simp only [Option.map_some];congr 1;omega
theorem pL {b:UInt8}:∀ (u:Nat),b∈decDigits u→48≤b.toNat∧b.toNat≤57:=by
 intro u
 induction u using Nat.strongRecOn with
 | ind u ih =>
  rw [decDigits]
  split
  ·rename_i h;intro hb;rw [aBJ] at hb;subst hb;rw [UInt8.toNat_ofNat'];omega
  rename_i h;intro hb;rcases List.mem_append.1 hb with hb|hb
  ·exact ih (u / 10) (by omega) hb
  rw [aBJ] at hb;subst hb;rw [UInt8.toNat_ofNat'];omega
theorem R6 (n:Int) (h:0≤n):itoa n=decDigits n.toNat:=by rw [itoa,aBE (by omega)]
theorem eA:∀ {k u:Nat},u < 10 ^ k→0 < k→(decDigits u).length≤k
 | 0,_,_,h=>absurd h (Nat.lt_irrefl 0)
 | k+1,u,h,_=>by
  rw [decDigits]
  split
  ·simp
  rename_i h1;rw [aBH,List.length_singleton];have hk:0 < k:=by
   rcases Nat.eq_zero_or_pos k with e|e
   ·subst e;omega
   exact e
  have hd:u / 10 < 10 ^ k:=by rw [Nat.pow_succ] at h;omega
  have:=eA hd hk;omega
end Go.Abs
namespace Go.Proofs.YtmkgeogoojcciaaGreatDoor
open Go.Proofs.Tryz
open Go.Abs
def nm (i:Nat):ByteArray:=⟨#[110,49+UInt8.ofNat i]⟩
def ofL (l:List UInt8):ByteArray:=⟨l.toArray⟩
theorem bC (l:List UInt8):(ofL l).data.toList=l:=by simp [ofL]
theorem KB (s:ByteArray):ofL s.data.toList=s:=lE (bC _)
theorem bY (l:List UInt8):(ofL l).size=l.length:=by rw [← dR,bC]
inductive Arm where
 | never
 | off (a w b:Int)
 | on (a w b:Int)
structure DSt where
 cells:List ByteArray
 q:List (Nat×ByteArray)
 off:Bool
 arm:Arm
 gq:Nat
 ga:Nat
def iZ (p:Nat×ByteArray):List PV:=[.int .i64 ((64*p.1:Nat):Int),.int .i64 ((64*(p.1+1):Nat):Int),.str p.2]
def flat (l:List ByteArray):List UInt8:=l.flatMap (fun c=>c.data.toList)
abbrev pU (l:List (Nat×ByteArray)):List (List AV):=l.map (fun e=>(iZ e).map .pv)
def TP (ga:Nat):Arm→AV
 | .never=>.pv .nilp
 | .off _ _ _=>.pv .nilp
 | .on _ _ _=>.ref 1003 ga 0 0
def jQ:Arm→List (List AV)
 | .never=>[]
 | .off a w b=>[[iv a,iv w,iv b]]
 | .on a w b=>[[iv a,iv w,iv b]]
abbrev lB (s:DSt):List AV:=[.osl 1001 0 0 (64*s.cells.length),.osl 1002 s.gq 0 s.q.length,bv s.off,TP s.ga s.arm]
abbrev aY (s:DSt):aA:=[(1000,⟨0,4,80,[lB s]⟩),(1001,⟨0,1,5,bG (flat s.cells)⟩),(1002,⟨s.gq,3,103,pU s.q⟩),(1003,⟨s.ga,3,100,jQ s.arm⟩)]
theorem aC (s:List UInt8) (H:aA):∀ r∈bG s,∀ a∈r,Clo H a:=by intro r hr a ha;obtain ⟨b,_,rfl⟩:=List.mem_map.1 hr;rw [aBJ.1 ha];exact .pv _
theorem aJ (a:Arm) (H:aA):∀ r∈jQ a,∀ x∈r,Clo H x:=by intro r hr x hx;cases a<;>simp [jQ] at hr<;>subst hr<;>simp at hx<;>(rcases hx with rfl|rfl|rfl<;>exact .pv _)
theorem aE (s:DSt) (H:aA) (h1:(H.get 1001).isSome=true) (h2:(H.get 1002).isSome=true) (h3:(H.get 1003).isSome=true):∀ r∈[lB s],∀ a∈r,Clo H a:=by
 intro r hr a ha;rw [aBJ.1 hr] at ha;simp only [lB,aBS,aBW,or_false] at ha;rcases ha with rfl|rfl|rfl|rfl
 ·exact .osl h1
 ·exact .osl h2
 ·exact .pv _
 cases s.arm<;>first|exact .pv _|exact .ref h3
theorem vY (s:DSt):bM (aY s):=bM.of (fun p hp=>by
 simp only [aY,aBS,aBW,or_false] at hp;rcases hp with rfl|rfl|rfl|rfl
 ·exact aE s _ rfl rfl rfl
 ·exact aC _ _
 ·exact aK _ _ _
 exact aJ _ _)
structure DOk (s:DSt):Prop where
 n1:1≤s.cells.length
 n2:s.cells.length≤8000
 c:∀ c,c∈s.cells→c.size=64
 q:∀ p,p∈s.q→p.1 < s.cells.length∧p.2.size=64
 ql:s.q.length≤1048576
theorem pR (c:ByteArray):c.data.toList.length=c.size:=Array.length_toList
theorem sN (c:ByteArray) (l:List ByteArray):flat (c::l)=c.data.toList++flat l:=rfl
theorem oR {l:List ByteArray} (h:∀ c,c∈l→c.size=64):(flat l).length=64*l.length:=by
 induction l with
 | nil=>rfl
 | cons c l ih =>
  rw [sN,aBH,pR,h c (by simp),ih (fun c hc=>h c (by simp [hc])),aBI];omega
theorem IA (a b:List ByteArray):flat (a++b)=flat a++flat b:=List.flatMap_append
theorem DZ {l:List ByteArray} (h:∀ c,c∈l→c.size=64) {k:Nat} {c:ByteArray} (hk:l[k]?=some c) :
  (flat l).take (64*k)=flat (l.take k)∧((flat l).drop (64*k)).take 64=c.data.toList∧(flat l).drop (64*k+64)=flat (l.drop (k+1)):=by
 obtain ⟨hlt,he⟩:=aBK.1 hk;have hsplit:flat l=flat (l.take k)++(c.data.toList++flat (l.drop (k+1))):=by
  conv=>lhs;rw [← List.take_append_drop k l,List.drop_eq_getElem_cons hlt,he]
  rw [IA,sN]
 have h1:(flat (l.take k)).length=64*k:=by
  rw [oR (fun c hc=>h c (List.mem_of_mem_take hc)),aBU];congr 1;omega
 have h2:c.data.toList.length=64:=by rw [pR];exact h c (aBQ hk)
 refine⟨?_,?_,?_⟩
 ·rw [hsplit,← h1,List.take_left]
 ·rw [hsplit,← h1,List.drop_left,← h2,List.take_left]
 rw [hsplit,← List.drop_drop,← h1,List.drop_left,← h2,List.drop_left]
def kY (t c:ByteArray):ByteArray:=⟨(t.data.toList++c.data.toList.drop t.size).toArray⟩
theorem OB {t c:ByteArray} (ht:t.size≤c.size):(kY t c).size=c.size:=by show (t.data.toList++c.data.toList.drop t.size).toArray.size=c.size;rw [List.size_toArray,aBH,aBV,pR,pR];omega
theorem OD {t c:ByteArray} (ht:t.size=64) (hc:c.size=64):kY t c=t:=by unfold kY;rw [List.drop_of_length_le (by rw [pR];omega),List.append_nil]
theorem Q3 {l:List ByteArray} (h:∀ c,c∈l→c.size=64) {k:Nat} {c t:ByteArray} (hk:l[k]?=some c) (ht:t.size≤64) :
  (flat l).take (64*k)++(t.data.toList.take t.size++(flat l).drop (64*k+t.size))=flat (l.set k (kY t c)):=by
 obtain ⟨hlt,he⟩:=aBK.1 hk;obtain ⟨p1,p2,p3⟩:=DZ h hk;have hset:l.set k (kY t c)=l.take k++(kY t c::l.drop (k+1)):=by rw [List.set_eq_take_append_cons_drop,aBF hlt]
 rw [hset,IA,sN,p1];congr 1;rw [show t.data.toList.take t.size=t.data.toList from List.take_of_length_le (by rw [pR];omega)];show _=(t.data.toList++c.data.toList.drop t.size)++flat (l.drop (k+1));rw [List.append_assoc];congr 1;have e1:(flat l).drop (64*k)=c.data.toList++flat (l.drop (k+1)):=by
  rw [← List.take_append_drop 64 ((flat l).drop (64*k)),p2,List.drop_drop,p3]
 have h2:c.data.toList.length=64:=by rw [pR];exact h c (aBQ hk)
 rw [← List.drop_drop,e1,List.drop_append_of_le_length (by omega)]
def fU (s:DSt) (k:Int):Bool:=decide (0≤k)&&decide (k < (s.cells.length:Int))
def lR (s:DSt) (k:Int):List AV:=if fU s k then[iv (64*k),iv (64*(k+1))] else[iv 0,iv 0]
theorem L3 (s:DSt) (k:Int) (hs:DOk s) :
  aL Tryz.prog 59 [.ref 1000 0 0 0,iv k] (aY s) (fun r H'=>r=.tup [.agg (lR s k),bv (fU s k)]∧H'=aY s):=by
 have hq:IntKind.i64.wrap (((64*s.cells.length:Nat):Int).tdiv 64)=(s.cells.length:Int):=by
  have h2:=hs.n2;have e:((64*s.cells.length:Nat):Int).tdiv 64=(s.cells.length:Int):=by
   rw [Int.tdiv_eq_ediv_of_nonneg (by omega)];omega
  rw [e,jS (by omega) (by omega)]
 have h2:=hs.n2;refine Bd func59 rfl ntmps59<|Sr<|Dd (by exact cR (id:=4) rfl B6 rfl rfl)<|Dd aS<|Zz<|Sq<|Sq ?_;refine dL (t:=21) (n:=18) (X:=!fU s k) ?_ ?_
 ·all_goals refine Dd aF ?_
  all_goals refine Dd (by exact cY rfl fN rfl rfl rfl rfl)<|Dm ?_
  all_goals refine Sp 8 (fun h8=>?_) fun h8=>?_
  all_goals try contradiction
  all_goals refine On aF<|On dZ<|Dd iM<|Dm ?_
  all_goals refine Sp 12 (fun h12=>?_) fun h12=>?_
  all_goals try contradiction
  all_goals first|refine Fo<|Fo<|Fo<|Fo<|Fo<|Fo<|Fo<|Fo ?_|refine On aF<|On aF<|On fP<|On (dV FX)<|On (eG eX)<|On (by exact dO rfl cE rfl rfl rfl)<|On (by exact pD rfl rfl rfl (by decide) hq)<|On UE ?_
  all_goals refine Dd iM<|Zz ?_
  all_goals(exact⟨⟨_,rfl,by(rw [fU,Bool.eq_iff_iff];simp at h12 ⊢;omega)⟩,rfl,rfl,rfl⟩)
 refine Cn ?_ ?_<;>intro hc1
 ·have e:fU s k=false:=by simpa using hc1
  refine Sr<|Dd (P3 WI)<|Uu (sS sizeOf96)<|Dd aS<|Zz<|aM ?_;refine gQ (H':=aY s) (.inr rfl) rfl (kX rfl jK sizeOf96 rfl rfl rfl (by simp only [Zl];rfl) rfl) (aH rfl) (Fin.wk (by(simp;done)) (Hc (aE _ _ rfl rfl rfl)<|Hc (aC _ _)<|Hc (aK _ _ _)<|Hc (aJ _ _)<|trivial) ⟨rfl,rfl,rfl,rfl,trivial⟩) ?_;exact⟨by simp [lR,e],rfl⟩
 have e:fU s k=true:=by simpa using hc1
 obtain ⟨h0,h1⟩:0≤k∧k < (s.cells.length:Int):=by simpa [fU] using e
 have m1:IntKind.i64.wrap (k*64)=64*k:=by rw [jS (by omega) (by omega)];omega
 have m2:IntKind.i64.wrap ((k+1)*64)=64*(k+1):=by rw [jS (by omega) (by omega)];omega
 refine aG<|Sr<|Dd aF<|Dd (by exact jB rfl rfl rfl m1)<|Dd aF<|Dd oE<|Dd (by exact jB rfl rfl rfl m2)<|Dd (by exact EJ rfl WI rfl (rfl:_=some [iv (64*k),iv (64*(k+1))]))<|Uu (sS sizeOf96)<|Dd aS<|Zz<|aM ?_;refine gQ (H':=aY s) (.inr rfl) rfl (kX rfl jK sizeOf96 rfl rfl rfl (by simp only [Zl];rfl) rfl) (aH rfl) (Fin.wk (by(simp;done)) (Hc (aE _ _ rfl rfl rfl)<|Hc (aC _ _)<|Hc (aK _ _ _)<|Hc (aJ _ _)<|trivial) ⟨rfl,rfl,rfl,rfl,trivial⟩) ?_;exact⟨by simp [lR,e],rfl⟩
def YI (s:DSt) (k:Int):Int:=if s.off then 22 else if fU s k then 0 else 1
def LB (s:DSt) (k:Int):List AV:=if s.off then[iv 0,iv 0] else lR s k
theorem O1 (s s':DSt) (H:aA):∀ id,((aY s').get id).isSome=true→((aY s).get id).isSome=true∨H.get id=none:=by intro id h;left;simp only [aY,aA.get] at h ⊢;cases e0:Nat.beq 1000 id<;>cases e1:Nat.beq 1001 id<;>cases e2:Nat.beq 1002 id<;>cases e3:Nat.beq 1003 id<;>simp [e0,e1,e2,e3] at h ⊢
theorem cK {f:FuncId} {args:List AV} {s s':DSt} {r0:AV} (h:aL Tryz.prog f args (aY s) (fun r H'=>r=r0∧H'=aY s')) (H:aA) (hs:JI H (aY s)) (ha:∀ a∈args,Clo (aY s) a) :
  aL Tryz.prog f args H (fun r H'=>r=r0∧H'=aY s'++H):=h.frame hs.sub (vY s) ha (O1 s s' H)
theorem RI (s:DSt) (k:Int) (hs:DOk s) (e:fU s k=false):aL Tryz.prog 59 [.ref 1000 0 0 0,iv k] (aY s) (fun r H'=>r=.tup [.agg [iv 0,iv 0],bv false]∧H'=aY s):=by
 have h:=L3 s k hs;have es:lR s k=[iv 0,iv 0]:=by simp [lR,e]
 rw [es,e] at h;exact h
theorem N4 (s:DSt) (k:Int) (hs:DOk s) (e:fU s k=true):aL Tryz.prog 59 [.ref 1000 0 0 0,iv k] (aY s) (fun r H'=>r=.tup [.agg [iv (64*k),iv (64*(k+1))],bv true]∧H'=aY s):=by
 have h:=L3 s k hs;have es:lR s k=[iv (64*k),iv (64*(k+1))]:=by simp [lR,e]
 rw [es,e] at h;exact h
theorem TN (s:DSt) (k:Int) (hs:DOk s) :
  aL Tryz.prog 81 [.ref 1000 0 0 0,iv k] (aY s) (fun r H'=>r=.tup [.agg (LB s k),iv (YI s k)]∧H'=aY s):=by
 refine Bd func81 rfl ntmps81<|Sr<|Dd (by exact cR (id:=4) rfl B6 rfl rfl)<|Dd aS<|Zz<|Sq<|Sq ?_;refine dL (t:=15) (n:=9) (X:=s.off) ?_ ?_
 ·all_goals refine Dd aF ?_
  all_goals refine Dd (by exact yD rfl fN rfl rfl rfl rfl)<|Dm ?_
  all_goals refine Sp 10 (fun h10=>?_) fun h10=>?_
  all_goals try contradiction
  all_goals refine On aF<|On fP<|On (dV rI)<|On (eG dM)<|Dd iM<|Zz ?_
  all_goals(exact⟨⟨_,rfl,by rfl⟩,rfl,rfl,rfl⟩)
 refine Cn ?_ ?_<;>intro hc1
 ·refine Sr<|Dd (P3 WI)<|Uu (sS sizeOf96)<|Dd aS<|Zz<|aM ?_;refine gQ (H':=aY s) (.inr rfl) rfl (kX rfl jK sizeOf96 rfl rfl rfl (by simp only [Zl];rfl) rfl) (aH rfl) (Fin.wk (by(simp;done)) (Hc (aE _ _ rfl rfl rfl)<|Hc (aC _ _)<|Hc (aK _ _ _)<|Hc (aJ _ _)<|trivial) ⟨rfl,rfl,rfl,rfl,trivial⟩) ?_;exact⟨by simp [LB,YI,hc1],rfl⟩
 cases e:fU s k
 ·refine aG<|Sr<|Dd aF<|Dd aF<|Dd (by exact aB rfl rfl call59 rfl (cK (RI s k hs e) _ ⟨rfl,rfl,rfl,rfl,trivial⟩ (by simp;rfl)))<|Dd aF<|Dd eP<|Dd eP<|Dd (by exact cR (id:=6) rfl B6 rfl rfl)<|Uu (sS sizeOf96)<|Dd aS<|Zz<|Sq<|Sr<|Dd aF<|Dd yE<|Zz ?_;refine Cn ?_ ?_<;>intro hc2
  ·refine Sr<|Dd (P3 WI)<|Uu (sS sizeOf96)<|Dd aS<|Zz<|aM ?_;refine gQ (H':=aY s) (.inr rfl) rfl (kX rfl jK sizeOf96 rfl rfl rfl (by simp only [Zl];rfl) rfl) (aH rfl) (Fin.wk (by(simp;done)) (Hc (aE _ _ rfl rfl rfl)<|Hc (aC _ _)<|Hc (aK _ _ _)<|Hc (aJ _ _)<|trivial) ⟨rfl,rfl,rfl,rfl,trivial⟩) ?_;exact⟨by simp [LB,YI,hc1,e,lR],rfl⟩
  cases hc2
 refine aG<|Sr<|Dd aF<|Dd aF<|Dd (by exact aB rfl rfl call59 rfl (cK (N4 s k hs e) _ ⟨rfl,rfl,rfl,rfl,trivial⟩ (by simp;rfl)))<|Dd aF<|Dd eP<|Dd eP<|Dd (by exact cR (id:=6) rfl B6 rfl rfl)<|Uu (sS sizeOf96)<|Dd aS<|Zz<|Sq<|Sr<|Dd aF<|Dd yE<|Zz ?_;refine Cn ?_ ?_<;>intro hc3
 ·cases hc3
 refine aG<|Sr<|Dd (by exact dC rfl jK sizeOf96 rfl rfl rfl rfl (by simp only [Zl];rfl) rfl)<|Uu (sS sizeOf96)<|Dd aS<|Zz<|aM ?_;refine gQ (H':=aY s) (.inr rfl) rfl (kX rfl jK sizeOf96 rfl rfl rfl (by simp only [Zl];rfl) rfl) (aH rfl) (Fin.wk (by(simp;done)) (Hc (aE _ _ rfl rfl rfl)<|Hc (aC _ _)<|Hc (aK _ _ _)<|Hc (aJ _ _)<|trivial) ⟨rfl,rfl,rfl,rfl,trivial⟩) ?_;exact⟨by simp [LB,YI,hc1,e,lR],rfl⟩
end Go.Proofs.YtmkgeogoojcciaaGreatDoor
namespace Go.Abs
open Go.RowKit
theorem Rel.below {I:Nat→Prop} {ι:cN} {H:aA} {w w':World} (hb:Below w.heap.size w w') (hr:Rel I ι H w):Rel I ι H w'∧Step I ι H w I ι H w':=by
 have hk:∀ b,b < w.heap.size→w'.heap[b]?=w.heap[b]?:=hb.block;have hst:Step I ι H w I ι H w':=by
  refine⟨hb.os,hb.tape,hb.output,hb.size,fun a ha _=>?_,fun _ h=>h,fun _ h=>.inl h,fun _ h=>.inl h,fun b hb _=>hk b hb,fun _ o h=>⟨o,h,aBM _,fun _=>⟨rfl,rfl,fun _=>aBM _⟩⟩⟩;unfold World.frozen?;rw [hk _ ha]
 refine⟨⟨fun b h=>?_,fun j o hj=>?_,hr.inj,hst.glob hr⟩,hst⟩
 ·have:=hr.imm b h;have:=hb.size;omega
 exact(hr.obj j o hj).keep rfl (fun b c _ hb=>⟨hk b hb,fun h=>h⟩) (fun r _ a _ v hv=>hv.mono hr hst)
end Go.Abs
section
namespace Go.Proofs
open Go.RowKit Go.Sort Go.Shelf
def aAt:Go.Shelf.Ren:=⟨fun|105=>130|212=>132|99=>159|165=>160|166=>86|170=>161|169=>88|263=>165|264=>166|206=>182|240=>116|241=>183|276=>143|277=>195|n=>n,fun|9=>9|3=>3|4=>4|20=>20|0=>0|46=>150|109=>170|5=>5|72=>138|76=>133|51=>191|146=>199|53=>93|148=>201|70=>136|37=>50|75=>132|127=>158|164=>179|80=>46|n=>n,fun|n=>n⟩
theorem aAy:Go.Proofs.Lays.n105 Tryz.prog aAt:={
  mixed:=by kernel_rfl
  f99:=Tryz.func159.trans (congrArg some (by kernel_rfl))
  f105:=Tryz.func130.trans (congrArg some (by kernel_rfl))
  f165:=Tryz.func160.trans (congrArg some (by kernel_rfl))
  f166:=Tryz.func86.trans (congrArg some (by kernel_rfl))
  f169:=Tryz.func88.trans (congrArg some (by kernel_rfl))
  f170:=Tryz.func161.trans (congrArg some (by kernel_rfl))
  f206:=Tryz.func182.trans (congrArg some (by kernel_rfl))
  f212:=Tryz.func132.trans (congrArg some (by kernel_rfl))
  f240:=Tryz.func116.trans (congrArg some (by kernel_rfl))
  f241:=Tryz.func183.trans (congrArg some (by kernel_rfl))
  f263:=Tryz.func165.trans (congrArg some (by kernel_rfl))
  f264:=Tryz.func166.trans (congrArg some (by kernel_rfl))
  f276:=Tryz.func143.trans (congrArg some (by kernel_rfl))
  f277:=Tryz.func195.trans (congrArg some (by kernel_rfl))
  t0:=yV
  a0:=UF
  z0:=PY
  v0:=B5
  t3:=cC
  a3:=aU
  z3:=Tryz.sizeOf3
  v3:=mN
  t4:=yU
  a4:=dM
  z4:=Tryz.sizeOf4
  v4:=B4
  t5:=bX
  a5:=qF
  z5:=cZ
  v5:=jR
  t9:=aI
  a9:=aV
  z9:=Tryz.sizeOf9
  v9:=eE
  t20:=PX
  a20:=aA0
  z20:=Z0
  v20:=T4
  t37:=cE
  a37:=eX
  z37:=Tryz.sizeOf50
  v37:=T1
  t46:=eU
  a46:=xW
  z46:=uP
  v46:=nX
  t51:=uM
  a51:=I9
  z51:=GF
  v51:=wI
  t53:=gS
  a53:=oB
  z53:=mC
  v53:=lP
  t70:=jI
  a70:=JA
  z70:=YN
  v70:=Tryz.zeroValue136
  t72:=LH
  a72:=Tryz.isAgg138
  z72:=Tryz.sizeOf138
  v72:=Tryz.zeroValue138
  t75:=jJ
  a75:=Tryz.isAgg132
  z75:=Tryz.sizeOf132
  v75:=Tryz.zeroValue132
  t76:=Tryz.underlying133
  a76:=Tryz.isAgg133
  z76:=Tryz.sizeOf133
  v76:=Tryz.zeroValue133
  t109:=Tryz.underlying170
  a109:=Tryz.isAgg170
  z109:=Tryz.sizeOf170
  v109:=Tryz.zeroValue170
  t127:=uN
  a127:=Tryz.isAgg158
  z127:=Tryz.sizeOf158
  v127:=Tryz.zeroValue158
  t146:=Tryz.underlying199
  a146:=Tryz.isAgg199
  z146:=Tryz.sizeOf199
  v146:=Tryz.zeroValue199
  t148:=Tryz.underlying201
  a148:=Tryz.isAgg201
  z148:=Tryz.sizeOf201
  v148:=Tryz.zeroValue201
  t164:=LG
  a164:=Tryz.isAgg179
  z164:=Tryz.sizeOf179
  v164:=Tryz.zeroValue179}
end Go.Proofs
namespace Go.Proofs.YtmkgeogoojcciaaGreatDoor
open Go.Proofs.Tryz
open Go.Abs Go.Lib
theorem UY:Builder.Extra Tryz.prog aAt:=⟨⟨by kernel_rfl,by kernel_rfl⟩,bX,qF,cZ,jR,by kernel_rfl,by kernel_rfl,by kernel_rfl,by decide⟩
def JW (s:ByteArray) (n:Nat):ByteArray:=⟨(Lib.repeatL s.data.toList n).toArray⟩
theorem HB (s:ByteArray) (n:Nat) (hl:s.size*n≤140737488355328) (hn:n≤9223372036854775807) (H:aA):aL Tryz.prog 130 [sv s,iv (n:Int)] H (fun r H'=>r=sv (JW s n)∧H'=H):=by
 intro I ι w vs hr hvl hv;obtain ⟨v,u,rfl⟩:∃ v u,vs=#[v,u]:=by
  match vs,hvl with
  | ⟨[v,u]⟩,_=>exact⟨v,u,rfl⟩
 have e1:=(hv 0 v _ rfl rfl).str_inv;have e2:=(hv 1 u _ rfl rfl).int_inv;subst e1 e2;refine(Any.strings_Repeat aAy UY s n w hn hl).mono ?_;rintro e w' ⟨rfl,hb⟩;obtain ⟨k1,k2⟩:=Rel.below hb hr;exact⟨_,_,I,ι,_,rfl,⟨rfl,rfl⟩,.pv (.str _),k1,k2⟩
theorem mJ (n:Nat):(dS (n:Int)).data.toList=decDigits n:=by show (Lib.itoa (n:Int)).toArray.toList=_;rw [R6 _ (Int.natCast_nonneg n),aBR]
theorem AG (b:UInt8):∀ n,Lib.repeatL [b] n=List.replicate n b
 | 0=>rfl
 | n+1=>by rw [Lib.repeatL,AG b n,List.replicate_succ];rfl
theorem wW (b:UInt8) (n:Nat):(JW ⟨#[b]⟩ n).data.toList=List.replicate n b:=AG b n
theorem C9 (b:UInt8) (n:Nat):(JW ⟨#[b]⟩ n).size=n:=by rw [← dR,wW,List.length_replicate]
def dg (n w:Nat):List UInt8:=List.replicate (w - (decDigits n).length) 48++decDigits n
theorem jG {n w:Nat} (h:(decDigits n).length≤w):(dg n w).length=w:=by rw [dg,aBH,List.length_replicate];omega
theorem oS (n w:Nat) (hn:n < 1000000000000) (hw:w≤1000) (H:aA):aL Tryz.prog 102 [iv (n:Int),iv (w:Int)] H (fun r H'=>r=sv (ofL (dg n w))∧H'=H):=by
 refine Pu ?_;have hz:=mJ n;have hsz:(dS (n:Int)).size=(decDigits n).length:=by rw [← dR,hz]
 have hd21:(dS (n:Int)).size≤21:=tX (by omega) (by omega);obtain ⟨k,hk⟩:∃ k,k=w - (decDigits n).length:=⟨_,rfl⟩;have hmx:max (0:Int) ((w:Int) - ((dS (n:Int)).size:Int))=((k:Nat):Int):=by rw [hsz,hk];omega
 have hks:(JW ⟨#[48]⟩ k).size=k:=C9 48 k;have e:JW ⟨#[48]⟩ k++dS (n:Int)=ofL (dg n w):=eqL (by
  rw [bC,ByteArray.data_append,Array.toList_append,wW,hz,dg,hk])
 rw [← e];clear e;exact Bd func102 rfl ntmps102<|Sr<|Dd aS<|Zz<|Sr<|Dd aF<|Dd (by exact aB rfl rfl qH rfl (pJ (n:Int) (by omega) (by omega) _))<|Dd aS<|Zz<|Sr<|Dd aF<|Dd aF<|Dd (CO aI)<|Dd (by exact eF rfl rfl rfl (by exact jS (by omega) (by omega)))<|Dd (by exact FA rfl rfl rfl hmx)<|Dd (by exact aB rfl rfl call130 rfl (HB ⟨#[48]⟩ k (by show 1*k≤_;omega) (by omega) _))<|Dd aF<|Dd (by exact jZ rfl rfl rfl (by omega) rfl)<|Dd aS<|Zz<|aM<|Rt<|Qq
def zB (n:Nat):List UInt8:=List.replicate n 0
theorem pQ (H:aA):aL Tryz.prog 43 [] H (fun r H'=>r=sv (ofL (zB 64))∧H'=H):=by
 refine Pu ?_;have hb:((List.replicate 64 [AV.pv (.int .u8 0)]).drop 0).take 64=bG (zB 64):=by
  rw [List.drop_zero,List.take_of_length_le (by simp),bG,zB,List.map_replicate];rfl
 refine Bd func43 rfl ntmps43<|Sr<|Dd aS<|Zz<|Sr<|Dd (by exact lJ (id:=901) rfl G5 ZM Z6 rfl rfl rfl (by decide) (by decide) rfl rfl (by decide) rfl)<|Dd (by exact iT rfl cE bX aI rfl rfl rfl rfl hb rfl)<|Dd aS<|Zz<|aM ?_;refine bF (H':=[]) (.inr rfl) rfl (aH rfl) (Fin.wk (r:=sv (ofL (zB 64))) (by simp) trivial trivial) ?_;exact Qq
def wR (l:List UInt8):List UInt8:=CP (xK (O2 l.length) l)
theorem SW (l:List UInt8):SX (ofL l)=ofL (wR l):=by rw [SX,bC,bY];rfl
theorem lL (l:List UInt8):(wR l).length=16:=by simp [wR,CP]
def nD (c:List UInt8):List UInt8:=c++zB (48 - c.length)
theorem qX {c:List UInt8} (h:c.length≤48):(nD c).length=48:=by rw [nD,aBH,zB,List.length_replicate];omega
def gN (place:Nat) (c:List UInt8):List UInt8:=wR (dg place 8++nD c)++nD c
theorem wV {place:Nat} {c:List UInt8} (h:c.length≤48):(gN place c).length=64:=by rw [gN,aBH,lL,qX h]
theorem rO (n w:Nat) (hn:n < 1000000000000):(dg n w).length≤w+21:=by
 have hz:=mJ n;have hsz:(dS (n:Int)).size=(decDigits n).length:=by rw [← dR,hz]
 have hd21:(dS (n:Int)).size≤21:=tX (by omega) (by omega);rw [dg,aBH,List.length_replicate];omega
theorem vK (a b:List UInt8):ofL a++ofL b=ofL (a++b):=eqL (by
 rw [bC,ByteArray.data_append,Array.toList_append,bC,bC])
theorem AC (place:Nat) (c:List UInt8) (hp:place < 1000000000000) (hc:c.length≤48) (H:aA):aL Tryz.prog 101 [iv (place:Int),sv (ofL c)] H (fun r H'=>r=sv (ofL (gN place c))∧H'=H):=by
 refine Pu ?_;have hcs:(ofL c).size=c.length:=bY c;have hks:(JW ⟨#[0]⟩ (48 - c.length)).size=48 - c.length:=C9 0 _;have hpad:ofL c++JW ⟨#[0]⟩ (48 - c.length)=ofL (nD c):=eqL (by
  rw [bC,ByteArray.data_append,Array.toList_append,wW,bC];rfl)
 have hpl:(ofL (nD c)).size=48:=by rw [bY,qX hc]
 have hdl:(ofL (dg place 8)).size≤29:=by rw [bY];exact rO place 8 hp
 have hs16:(ofL (wR (dg place 8++nD c))).size=16:=by rw [bY,lL]
 have hsub:IntKind.i64.wrap (48 - ((ofL c).size:Int))=((48 - c.length:Nat):Int):=by rw [hcs,jS (by omega) (by omega)];omega
 have hsum:∀ H,aL Tryz.prog 131 [sv (ofL (dg place 8++nD c))] H (fun r H'=>r=sv (ofL (wR (dg place 8++nD c)))∧H'=H):=fun H=>by
  have:=Y8 (ofL (dg place 8++nD c)) H (by rw [bY,aBH,qX hc];have:=rO place 8 hp;omega)
  rwa [SW] at this
 have e1:ofL (dg place 8)++ofL (nD c)=ofL (dg place 8++nD c):=vK _ _;have e2:ofL (wR (dg place 8++nD c))++ofL (nD c)=ofL (gN place c):=vK _ _;exact Bd func101 rfl ntmps101<|Sr<|Dd aS<|Zz<|Sr<|Dd aF<|Dd aF<|Dd (CO aI)<|Dd (by exact eF rfl rfl rfl hsub)<|Dd (by exact aB rfl rfl call130 rfl (HB ⟨#[0]⟩ (48 - c.length) (by show 1*_≤_;omega) (by omega) _))<|Dd (by exact jZ rfl rfl rfl (by omega) hpad)<|Dd aS<|Zz<|Sr<|Dd aF<|Dd (by exact aB rfl rfl BZ rfl (oS place 8 hp (by omega) _))<|Dd aF<|Dd (by exact jZ rfl rfl rfl (by omega) e1)<|Dd (by exact aB rfl rfl call131 rfl (hsum _))<|Dd aF<|Dd (by exact jZ rfl rfl rfl (by omega) e2)<|Dd aS<|Zz<|aM<|Rt<|Qq
end Go.Proofs.YtmkgeogoojcciaaGreatDoor
end
namespace Go.Abs
open Go.Proofs
def W4 (v:Value):Prop:=∃ t p,v=.iface t p
abbrev OY:PV:=.sat W4
def rT (s:ByteArray):Int×PV:=match Lib.atoiAll s.data.toList with
 | .ok v=>(v,KG)
 | .range=>(Lib.atoiSat s.data.toList,OY)
 | _=>(0,OY)
theorem atoi_c {P:Program} {ρ:Shelf.Ren} (L:LaysC.n172 P ρ) {G1 G2:Nat} (hg1:(G1,GV.face)∈FU) (hn1:P.globalNamed "strconv.ErrSyntax" = some G1) (hg2:(G2,GV.face)∈FU) (hn2:P.globalNamed "strconv.ErrRange" = some G2) (s:ByteArray) (hs:s.size < 1099511627776) (H:aA) :
  aL P (ρ.f 172) [.pv (.str s)] H (fun r H'=>r=.tup [.pv (.int .i64 (rT s).1),.pv (rT s).2]∧H'=H):=by
 intro I ι w vs hr hvl hv;obtain ⟨v,rfl⟩:∃ v,vs=#[v]:=by
  match vs,hvl with
  | ⟨[v]⟩,_=>exact⟨v,rfl⟩
 have e1:=(hv 0 v _ rfl rfl).str_inv;subst e1;have hvar:∀ (name:String) (G:Nat),(G,GV.face)∈FU→P.globalNamed name=some G→∃ t p,w.var? P name=some #[.iface t p]:=fun name G hg hn=>by
  obtain ⟨_,cs,t,f,h2,q,p,h3⟩:=hr.glob _ hg;subst h3;exact⟨q,p,by simp only [World.var?,hn,Option.bind_some,h2]⟩
 have fin:∀ (n:Int) (x:Value) (a:PV) (w':World),RowKit.Below w.heap.size w w'→(∀ I H,VRel w' I ι H x (.pv a))→∃ r H' I' ι' v',(Ending.returned (.tuple #[.int .i64 n,x]))=.returned v'∧(r=.tup [.pv (.int .i64 n),.pv a]∧H'=H)∧VRel w' I' ι' H' v' r∧Rel I' ι' H' w'∧Step I ι H w I' ι' H' w':=fun n x a w' hb hx=>by
  obtain ⟨k1,k2⟩:=Rel.below hb hr;refine⟨_,_,I,ι,_,rfl,⟨rfl,rfl⟩,.tup rfl fun i v b h1 h2=>?_,k1,k2⟩
  match i,h1,h2 with
  | 0,h1,h2=>cases h1;cases h2;exact .pv (.int _ _)
  | 1,h1,h2=>cases h1;cases h2;exact hx _ _
  | i+2,h1,h2=>simp at h1
 rw [rT];cases h:Lib.atoiAll s.data.toList with
 | ok n =>
  refine(Any.strconv_Atoi_ok L s (by omega) n h w).mono ?_;rintro e w' ⟨rfl,hw⟩;have hb:RowKit.Below w.heap.size w w':=by
   rcases hw with rfl|⟨t,rfl⟩
   ·exact RowKit.Below.refl _ _
   exact Lib.bytesWorld_below w _ t
  exact fin n .nilIface KG w' hb (fun _ _=>.pv (.sat rfl rfl))
 | range =>
  obtain ⟨t,p,hq⟩:=hvar _ G2 hg2 hn2;refine(Any.strconv_Atoi_range_var L s (by omega) h t p w hq).mono ?_;rintro e w' ⟨N,rfl,_,_,hb⟩;exact fin _ _ OY w' hb (fun _ _=>.pv (.sat rfl ⟨_,_,rfl⟩))
 | _ =>
  obtain ⟨t,p,hq⟩:=hvar _ G1 hg1 hn1;refine(Any.strconv_Atoi_syntax_var L s (by omega) h t p w hq).mono ?_;rintro e w' ⟨N,rfl,_,_,hb⟩;exact fin 0 _ OY w' hb (fun _ _=>.pv (.sat rfl ⟨_,_,rfl⟩))
end Go.Abs
section
namespace Go.Proofs
open Go.RowKit Go.Sort Go.Shelf
def aAv:Go.Shelf.Ren:=⟨fun|172=>82|244=>114|245=>115|247=>138|279=>139|280=>140|281=>141|282=>142|287=>168|316=>169|171=>98|205=>170|321=>184|322=>185|243=>128|246=>158|283=>178|284=>179|285=>180|286=>181|129=>157|317=>191|318=>192|319=>193|320=>194|337=>198|338=>199|n=>n,fun|9=>9|3=>3|75=>132|76=>133|4=>4|5=>5|167=>173|37=>50|0=>0|85=>174|2=>2|168=>176|53=>93|175=>203|46=>150|210=>206|127=>158|145=>222|143=>220|21=>21|171=>215|173=>217|212=>229|51=>191|20=>20|213=>230|232=>234|233=>235|80=>46|n=>n,fun|15=>0|16=>1|17=>3|18=>4|19=>5|n=>n⟩
theorem aBB:Go.Proofs.LaysC.n172 Tryz.prog aAv:={
  mixed:=by kernel_rfl
  f129:=Tryz.func157.trans (congrArg some (by kernel_rfl))
  f171:=Tryz.func98.trans (congrArg some (by kernel_rfl))
  f172:=Tryz.func82.trans (congrArg some (by kernel_rfl))
  f205:=Tryz.func170.trans (congrArg some (by kernel_rfl))
  f243:=Tryz.func128.trans (congrArg some (by kernel_rfl))
  f244:=Tryz.func114.trans (congrArg some (by kernel_rfl))
  f245:=Tryz.func115.trans (congrArg some (by kernel_rfl))
  f246:=Tryz.func158.trans (congrArg some (by kernel_rfl))
  f247:=Tryz.func138.trans (congrArg some (by kernel_rfl))
  f279:=Tryz.func139.trans (congrArg some (by kernel_rfl))
  f280:=Tryz.func140.trans (congrArg some (by kernel_rfl))
  f281:=Tryz.func141.trans (congrArg some (by kernel_rfl))
  f282:=Tryz.func142.trans (congrArg some (by kernel_rfl))
  f283:=Tryz.func178.trans (congrArg some (by kernel_rfl))
  f284:=Tryz.func179.trans (congrArg some (by kernel_rfl))
  f285:=Tryz.func180.trans (congrArg some (by kernel_rfl))
  f286:=Tryz.func181.trans (congrArg some (by kernel_rfl))
  f287:=Tryz.func168.trans (congrArg some (by kernel_rfl))
  f316:=Tryz.func169.trans (congrArg some (by kernel_rfl))
  f317:=Tryz.func191.trans (congrArg some (by kernel_rfl))
  f318:=Tryz.func192.trans (congrArg some (by kernel_rfl))
  f319:=Tryz.func193.trans (congrArg some (by kernel_rfl))
  f320:=Tryz.func194.trans (congrArg some (by kernel_rfl))
  f321:=Tryz.func184.trans (congrArg some (by kernel_rfl))
  f322:=Tryz.func185.trans (congrArg some (by kernel_rfl))
  f337:=Tryz.func198.trans (congrArg some (by kernel_rfl))
  f338:=Tryz.func199.trans (congrArg some (by kernel_rfl))
  t0:=yV
  a0:=UF
  z0:=PY
  v0:=B5
  t2:=Tryz.underlying2
  a2:=Tryz.isAgg2
  z2:=Tryz.sizeOf2
  v2:=Tryz.zeroValue2
  t3:=cC
  a3:=aU
  z3:=Tryz.sizeOf3
  v3:=mN
  t4:=yU
  a4:=dM
  z4:=Tryz.sizeOf4
  v4:=B4
  t5:=bX
  a5:=qF
  z5:=cZ
  v5:=jR
  t9:=aI
  a9:=aV
  z9:=Tryz.sizeOf9
  v9:=eE
  t20:=PX
  a20:=aA0
  z20:=Z0
  v20:=T4
  t21:=Tryz.underlying21
  a21:=Tryz.isAgg21
  z21:=Tryz.sizeOf21
  v21:=Tryz.zeroValue21
  t37:=cE
  a37:=eX
  z37:=Tryz.sizeOf50
  v37:=T1
  t46:=eU
  a46:=xW
  z46:=uP
  v46:=nX
  t51:=uM
  a51:=I9
  z51:=GF
  v51:=wI
  t53:=gS
  a53:=oB
  z53:=mC
  v53:=lP
  t75:=jJ
  a75:=Tryz.isAgg132
  z75:=Tryz.sizeOf132
  v75:=Tryz.zeroValue132
  t76:=Tryz.underlying133
  a76:=Tryz.isAgg133
  z76:=Tryz.sizeOf133
  v76:=Tryz.zeroValue133
  t85:=Tryz.underlying174
  a85:=Tryz.isAgg174
  z85:=Tryz.sizeOf174
  v85:=Tryz.zeroValue174
  t127:=uN
  a127:=Tryz.isAgg158
  z127:=Tryz.sizeOf158
  v127:=Tryz.zeroValue158
  t143:=Tryz.underlying220
  a143:=Tryz.isAgg220
  z143:=Tryz.sizeOf220
  v143:=Tryz.zeroValue220
  t145:=Tryz.underlying222
  a145:=Tryz.isAgg222
  z145:=Tryz.sizeOf222
  v145:=Tryz.zeroValue222
  t167:=Tryz.underlying173
  a167:=Tryz.isAgg173
  z167:=Tryz.sizeOf173
  v167:=Tryz.zeroValue173
  t168:=Tryz.underlying176
  a168:=Tryz.isAgg176
  z168:=Tryz.sizeOf176
  v168:=Tryz.zeroValue176
  t171:=Tryz.underlying215
  a171:=Tryz.isAgg215
  z171:=Tryz.sizeOf215
  v171:=Tryz.zeroValue215
  t173:=Tryz.underlying217
  a173:=Tryz.isAgg217
  z173:=Tryz.sizeOf217
  v173:=Tryz.zeroValue217
  t175:=Tryz.underlying203
  a175:=Tryz.isAgg203
  z175:=Tryz.sizeOf203
  v175:=Tryz.zeroValue203
  t210:=Tryz.underlying206
  a210:=Tryz.isAgg206
  z210:=Tryz.sizeOf206
  v210:=Tryz.zeroValue206
  t212:=Tryz.underlying229
  a212:=Tryz.isAgg229
  z212:=Tryz.sizeOf229
  v212:=Tryz.zeroValue229
  t213:=Tryz.underlying230
  a213:=Tryz.isAgg230
  z213:=Tryz.sizeOf230
  t232:=Tryz.underlying234
  a232:=Tryz.isAgg234
  z232:=Tryz.sizeOf234
  v232:=Tryz.zeroValue234
  t233:=Tryz.underlying235
  a233:=Tryz.isAgg235
  z233:=Tryz.sizeOf235
  v233:=Tryz.zeroValue235
  g15:=by kernel_rfl
  g16:=by kernel_rfl
  g17:=by kernel_rfl
  g18:=by kernel_rfl
  g19:=by kernel_rfl
  t80:=Tryz.underlying46
  a80:=Tryz.isAgg46
  z80:=Tryz.sizeOf46
  v80:=Tryz.zeroValue46
  i0:=by kernel_rfl
  i2:=by kernel_rfl
  i3:=by kernel_rfl
  i4:=by kernel_rfl
  i5:=by kernel_rfl
  i9:=by kernel_rfl
  i20:=by kernel_rfl
  i21:=by kernel_rfl
  i37:=by kernel_rfl
  i46:=by kernel_rfl
  i51:=by kernel_rfl
  i53:=by kernel_rfl
  i75:=by kernel_rfl
  i76:=by kernel_rfl
  i80:=by kernel_rfl
  i85:=by kernel_rfl
  i127:=by kernel_rfl
  i143:=by kernel_rfl
  i145:=by kernel_rfl
  i167:=by kernel_rfl
  i168:=by kernel_rfl
  i171:=by kernel_rfl
  i173:=by kernel_rfl
  i175:=by kernel_rfl
  i210:=by kernel_rfl
  i212:=by kernel_rfl
  i232:=by kernel_rfl
  i233:=by kernel_rfl
  m15:=by kernel_rfl
  m16:=by kernel_rfl
  m17:=by kernel_rfl
  m18:=by kernel_rfl
  m19:=by kernel_rfl
  c0:=by kernel_rfl
  c2:=by kernel_rfl
  c3:=by kernel_rfl
  c4:=by kernel_rfl
  c5:=by kernel_rfl
  c9:=by kernel_rfl
  c20:=by kernel_rfl
  c21:=by kernel_rfl
  c37:=by kernel_rfl
  c46:=by kernel_rfl
  c51:=by kernel_rfl
  c53:=by kernel_rfl
  c75:=by kernel_rfl
  c76:=by kernel_rfl
  c80:=by kernel_rfl
  c85:=by kernel_rfl
  c127:=by kernel_rfl
  c143:=by kernel_rfl
  c145:=by kernel_rfl
  c167:=by kernel_rfl
  c168:=by kernel_rfl
  c171:=by kernel_rfl
  c173:=by kernel_rfl
  c175:=by kernel_rfl
  c210:=by kernel_rfl
  c212:=by kernel_rfl
  c213:=by kernel_rfl
  c232:=by kernel_rfl
  c233:=by kernel_rfl}
end Go.Proofs
namespace Go.Proofs.YtmkgeogoojcciaaGreatDoor
open Go.Proofs.Tryz
open Go.Abs
theorem WK (s:ByteArray) (hs:s.size < 1099511627776) (H:aA):aL Tryz.prog 82 [sv s] H (fun r H'=>r=.tup [iv (rT s).1,.pv (rT s).2]∧H'=H) :=Go.Abs.atoi_c aBB (G1:=0) (G2:=1) (by unfold FU;exact .tail _ (.tail _ (.head _))) (by kernel_rfl) (by unfold FU;exact .tail _ (.head _)) (by kernel_rfl) s hs H
end Go.Proofs.YtmkgeogoojcciaaGreatDoor
end
namespace Go.Abs
open Go.Proofs
section
section
variable {P:Program} {N:Nat} {o:Oper} {E:bH} {H:aA} {t t':TypeId} {x:Operand}
theorem J5 (ho:o.op=.binOp .neq t x (.const .nilIface) t') (ht:P.underlying t=some (.interface (P.methodsAt t))) (hx:aP E x=some (.pv KG)):cD P N o E H (.pv (.bool false)) H :=.of_run fun a w I ι _ he=>⟨.bool false,by
  have e1:a.eval x=.nilIface:=(aD he hx).sat_inv;have e2:a.eval (.const .nilIface)=.nilIface:=rfl;simp only [execOp,ho,e1,e2,eqGuard,Sem.run_bind,Sem.run_pure,Result.andThen_ok,run_neq_nil_nil _ _ ht,Bool.or_true,if_true,Bool.not_true,Bool.false_eq_true,if_false],.pv (.bool _)⟩
theorem J6 (ho:o.op=.binOp .neq t x (.const .nilIface) t') (ht:P.underlying t=some (.interface (P.methodsAt t))) (hx:aP E x=some (.pv OY)):cD P N o E H (.pv (.bool true)) H :=.of_run fun a w I ι _ he=>⟨.bool true,by
  obtain ⟨q,p,e1⟩:W4 (a.eval x):=(aD he hx).sat_inv;have e2:a.eval (.const .nilIface)=.nilIface:=rfl;simp only [execOp,ho,e1,e2,eqGuard,Sem.run_bind,Sem.run_pure,Result.andThen_ok,run_neq_held_nil _ _ _ _ ht];rfl,.pv (.bool _)⟩
end
end
end Go.Abs
namespace Go.Proofs.YtmkgeogoojcciaaGreatDoor
open Go.Proofs.Tryz
open Go.Abs
abbrev G3 (n:Nat):List AV:=[iv ((64*n:Nat):Int),iv ((64*(n+1):Nat):Int)]
theorem QW (n:Nat):[iv (64*(n:Int)),iv (64*((n:Int)+1))]=G3 n:=by
 have e1:64*(n:Int)=((64*n:Nat):Int):=by omega
 have e2:64*((n:Int)+1)=((64*(n+1):Nat):Int):=by omega
 rw [e1,e2]
theorem kW {s:DSt} {n:Nat}:fU s (n:Int)=decide (n < s.cells.length):=by unfold fU;rw [Bool.eq_iff_iff];simp
theorem qT (s:DSt) (k:Int):fU s k=false∨∃ n:Nat,k=(n:Int)∧n < s.cells.length:=by
 cases h:fU s k with
 | false=>exact .inl rfl
 | true =>
  obtain ⟨h0,h1⟩:0≤k∧k < (s.cells.length:Int):=by simpa [fU] using h
  exact .inr ⟨k.toNat,by omega,by omega⟩
theorem TM (s:DSt) (k:Int) (hs:DOk s) (e:s.off=true):aL Tryz.prog 81 [.ref 1000 0 0 0,iv k] (aY s) (fun r H'=>r=.tup [.agg [iv 0,iv 0],iv 22]∧H'=aY s):=by have h:=TN s k hs;simp only [LB,YI,e,if_true] at h;exact h
theorem W6 (s:DSt) (k:Int) (hs:DOk s) (e:s.off=false) (e2:fU s k=false):aL Tryz.prog 81 [.ref 1000 0 0 0,iv k] (aY s) (fun r H'=>r=.tup [.agg [iv 0,iv 0],iv 1]∧H'=aY s):=by have h:=TN s k hs;simp only [LB,YI,e,e2,lR,Bool.false_eq_true,if_false] at h;exact h
theorem TL (s:DSt) (n:Nat) (hs:DOk s) (e:s.off=false) (e2:n < s.cells.length):aL Tryz.prog 81 [.ref 1000 0 0 0,iv (n:Int)] (aY s) (fun r H'=>r=.tup [.agg (G3 n),iv 0]∧H'=aY s):=by
 have h:=TN s n hs;have e3:fU s (n:Int)=true:=by rw [kW];simpa using e2
 simp only [LB,YI,e,e3,lR,Bool.false_eq_true,if_false,if_true,QW] at h;exact h
theorem OC (s:DSt) (hs:DOk s) {n:Nat} {c t:ByteArray} (hc:s.cells[n]?=some c) (ht:t.size≤64) :
  (bG (flat s.cells)).take (64*n)++(bG (t.data.toList.take t.size)++(bG (flat s.cells)).drop (64*n+t.size))=bG (flat (s.cells.set n (kY t c))):=by
 rw [← Q3 hs.c hc ht];simp only [bG,List.map_append,List.map_take,List.map_drop]
abbrev dH (r:List AV) (l:List ByteArray) (s:DSt):aA:=[(1000,⟨0,4,80,[r]⟩),(1001,⟨0,1,5,bG (flat l)⟩),(1002,⟨s.gq,3,103,pU s.q⟩),(1003,⟨s.ga,3,100,jQ s.arm⟩)]
theorem WT (s:DSt) (n:Nat) (c t:ByteArray) (hs:DOk s) (hc:s.cells[n]?=some c) (ht:t.size≤64) :
  aL Tryz.prog 61 [.ref 1000 0 0 0,.agg (G3 n),sv t] (aY s) (fun r H'=>r=.tup []∧H'=aY {s with cells:=s.cells.set n (kY t c)}):=by
 have hlt:=(aBK.1 hc).1;have hfl:=oR hs.c;have hmin:min t.size (64*(n+1) - 64*n)=t.size:=by omega
 have hrows:(bG (flat s.cells)).take (0+64*n)++(bG (t.data.toList.take t.size)++(bG (flat s.cells)).drop (0+64*n+t.size))=bG (flat (s.cells.set n (kY t c))):=by
  rw [aBY];exact OC s hs hc ht
 have hlen:(s.cells.set n (kY t c)).length=s.cells.length:=List.length_set;refine Bd func61 rfl ntmps61<|Sr<|Dd (by exact gO (id:=4) rfl rfl rfl rfl rfl)<|Zz<|bR follows<|Cr [1000] (fun _ _=>aF)<|Cr [1000] (fun H1 hH=>by exact bV rfl rfl ((hH _ rfl).trans rfl) rfl)<|Cr [1000] (fun _ h=>fh FX h)<|Cr [1000] (fun _ h=>lh eX h)<|Cr [4] (fun _ h=>fh FW h)<|Cr [4] (fun _ h=>lh aU h)<|Cr [4] (fun _ h=>fh SJ h)<|Cr [4] (fun _ h=>lh aU h)<|Cr [1001] (fun H1 hH=>by exact fX (l:=(64*n)) (h:=(64*(n+1))) rfl G5 rfl ((hH _ rfl).trans rfl) rfl rfl rfl rfl (by omega) (by omega) rfl rfl)<|Cr [] (fun _ _=>aF)<|Cp [1001] (fun H1 hH=>by exact JC rfl G5 rfl ((hH _ rfl).trans rfl) rfl rfl rfl hmin hrows)<|dG<|Kr ?_;refine iK (H':=dH (lB s) (s.cells.set n (kY t c)) s) (by exact .inl rfl) rfl  (Fin.wk (by(simp;done)) (Hc (aE _ _ rfl rfl rfl)<|Hc (aC _ _)<|Hc (aK _ _ _)<|Hc (aJ _ _)<|trivial) ⟨rfl,rfl,rfl,rfl,trivial⟩) ?_;exact⟨rfl,by simp only [aY,dH,lB,hlen]⟩
theorem NH {α:Type} {l:List α} {i:Nat} {a:α} (h:l[i]?=some a):l.take (i+1)=l.take i++[a]:=by rw [List.take_add_one,h];rfl
def dF (cells:List ByteArray) (l:List (Nat×ByteArray)):List ByteArray:=l.foldl (fun cs p=>cs.set p.1 p.2) cells
theorem gY (l:List (Nat×ByteArray)):∀ cells:List ByteArray,(dF cells l).length=cells.length:=by
 induction l with
 | nil=>intro cells;rfl
 | cons p l ih=>intro cells;show (dF (cells.set p.1 p.2) l).length=_;rw [ih,List.length_set]
theorem HF (cells:List ByteArray) (l:List (Nat×ByteArray)) (p:Nat×ByteArray):dF cells (l++[p])=(dF cells l).set p.1 p.2:=by unfold dF;rw [List.foldl_append];rfl
theorem yA {l:List (Nat×ByteArray)} (hl:∀ p,p∈l→p.2.size=64):∀ {cells:List ByteArray},(∀ c,c∈cells→c.size=64)→∀ c,c∈dF cells l→c.size=64:=by
 induction l with
 | nil=>intro cells h;exact h
 | cons p l ih =>
  intro cells h;exact ih (fun p hp=>hl p (by simp [hp])) (fun c hc=>by
   rcases List.mem_or_eq_of_mem_set hc with e|e
   ·exact h c e
   rw [e];exact hl p (by simp))
theorem JZ {s:DSt} (hs:DOk s) (m:Nat):DOk {s with cells:=dF s.cells (s.q.take m)} :=⟨by simpa [gY] using hs.n1,by simpa [gY] using hs.n2,yA (fun p hp=>(hs.q p (List.mem_of_mem_take hp)).2) hs.c,fun p hp=>by simpa [gY] using hs.q p hp,hs.ql⟩
theorem XL (s:DSt) (n:Nat) (t:ByteArray) (hs:DOk s) (hn:n < s.cells.length) (ht:t.size=64) :
  aL Tryz.prog 61 [.ref 1000 0 0 0,.agg (G3 n),sv t] (aY s) (fun r H'=>r=.tup []∧H'=aY {s with cells:=s.cells.set n t}):=by
 obtain ⟨c,hc⟩:=aZ hn;have h:=WT s n c t hs hc (by omega);rw [OD ht (hs.c c (aBQ hc))] at h;exact h
theorem G8 (s:DSt) (m:Nat) (hs:DOk s) (hm:m≤s.q.length) :
  aL Tryz.prog 60 [.ref 1000 0 0 0,.osl 1002 s.gq 0 m] (aY s) (fun r H'=>r=.tup []∧H'=aY {s with cells:=dF s.cells (s.q.take m)}):=by
 have hql:=hs.ql;refine Bd func60 rfl ntmps60<|Sr<|Dd aF<|Dd (by exact dO rfl nZ rfl rfl rfl)<|Dd aF<|Zz<|aN ?_;refine bJ (σ:=Nat) (fun i=>([(0,.ref 1000 0 0 0),(6,.osl 1002 s.gq 0 m),(7,iv (m:Int)),(8,iv (i:Int))],aY {s with cells:=dF s.cells (s.q.take i)})) (fun i=>i≤m) (fun i=>m - i) 0 (by omega) ?_ ?_
 ·exact(cA.wk (Ea<|Ea<|Eb<|Eb<|trivial) (Hc (aE _ _ rfl rfl rfl)<|Hc (aC _ _)<|Hc (aK _ _ _)<|Hc (aJ _ _)<|trivial) ⟨rfl,rfl,rfl,rfl,trivial⟩)
 rintro i hi;refine Sr<|Dd dZ<|Zz<|Sq ?_;refine Cn ?_ ?_<;>intro hc1
 ·have hlt:i < m:=by have:=aBC hc1;omega
  obtain ⟨p,hp⟩:=aZ (show i < s.q.length by omega);have hpe:(pU s.q)[0+i]?=some ((iZ p).map .pv):=by rw [aBY,aB0,hp];rfl
  obtain ⟨hp1,hp2⟩:=hs.q p (aBQ hp);have hset:=XL {s with cells:=dF s.cells (s.q.take i)} p.1 p.2 (JZ hs i) (by simpa [gY] using hp1) hp2;have hn:dF s.cells (s.q.take (i+1))=(dF s.cells (s.q.take i)).set p.1 p.2:=by rw [NH hp,HF]
  rw [← hn] at hset;refine aG<|Sq<|aN<|Sr<|Dd (by exact eL rfl JO rfl rfl rfl rfl rfl (by omega) (by exact aBR _) (by omega) rfl)<|Dd (by exact dC rfl isAgg103 uQ rfl rfl rfl hpe (by simp only [Zl,iZ];rfl) rfl)<|Dd (by exact cR (id:=5) rfl WQ rfl rfl)<|Uu (sS uQ)<|Zz<|Rg<|Dd aF<|Dd (dV FZ)<|Dd (VL jK sizeOf96)<|Dd (dV FY)<|Dd (eG aV)<|Dd (by exact aB rfl rfl call61 rfl (cK hset _ ⟨rfl,rfl,rfl,rfl,trivial⟩ (by(simp;rfl))))<|Zz<|Rg<|Dd oE<|Dd aF<|Zz ?_;refine⟨i+1,by omega,by omega,?_⟩;exact(cA.wk (Ea<|Ea<|Eb<|Eb<|trivial) (Hc (aE _ _ rfl rfl rfl)<|Hc (aC _ _)<|Hc (aK _ _ _)<|Hc (aJ _ _)<|trivial) ⟨rfl,rfl,rfl,rfl,trivial⟩)
 have hge:i=m:=by have:¬ _:=aBD hc1;omega
 subst hge;refine bE ?_;refine iK (H':=aY {s with cells:=dF s.cells (s.q.take i)}) (by exact .inl rfl) rfl  (Fin.wk (by(simp;done)) (Hc (aE _ _ rfl rfl rfl)<|Hc (aC _ _)<|Hc (aK _ _ _)<|Hc (aJ _ _)<|trivial) ⟨rfl,rfl,rfl,rfl,trivial⟩) ?_;exact Qq
def uG:Arm→Arm
 | .never=>.never
 | .off a w b=>.off a w b
 | .on a w b=>.off a w b
theorem uF (a:Arm):jQ (uG a)=jQ a:=by cases a<;>rfl
theorem uE (g:Nat) (a:Arm):TP g (uG a)=.pv .nilp:=by cases a<;>rfl
def GS (cells:List ByteArray) (b:Int):Option (Nat×ByteArray)→List ByteArray
 | none=>cells
 | some p=>if 0 < b then cells.set p.1 (kY (p.2.extract 0 (min b 64).toNat) ((cells[p.1]?).getD ⟨#[]⟩))else cells
def BH (s:DSt) (w:Int):Nat:=min w.toNat s.q.length
def mW (s:DSt) (w b:Int):List ByteArray:=GS (dF s.cells (s.q.take (BH s w))) b (s.q[BH s w]?)
def iI (s:DSt) (w b:Int):DSt:=if s.off then s else {s with cells:=mW s w b,q:=[],off:=true,arm:=uG s.arm,gq:=s.gq+1}
theorem QL (cells:List ByteArray) (b:Int) (p:Option (Nat×ByteArray)):(GS cells b p).length=cells.length:=by
 unfold GS;split
 ·rfl
 split<;>simp
theorem xJ (s:DSt) (w b:Int):(mW s w b).length=s.cells.length:=by rw [mW,QL,gY]
abbrev MQ (s:DSt) (l:List ByteArray):aA:=[(1000,⟨0,4,80,[[.osl 1001 0 0 (64*l.length),.osl 1002 (s.gq+1) 0 0,bv true,.pv .nilp]]⟩),(1001,⟨0,1,5,bG (flat l)⟩),(1002,⟨s.gq+1,3,103,[]⟩),(1003,⟨s.ga,3,100,jQ s.arm⟩)]
theorem SP (s:DSt) (w b:Int) (h:s.off=false):MQ s (mW s w b)=aY (iI s w b):=by simp only [iI,h,Bool.false_eq_true,if_false,aY,lB,uF,uE,List.length_nil,List.map_nil]
theorem IB {t:ByteArray} {k:Nat} (h:k≤t.size):(t.extract 0 k).size=k:=by simp;omega
theorem SO (s:DSt) (w b:Int) (hs:DOk s) :
  aL Tryz.prog 29 [.ref 1000 0 0 0,iv w,iv b] (aY s) (fun r H'=>r=.tup []∧H'=aY (iI s w b)):=by
 have hql:=hs.ql;obtain ⟨m,hm⟩:∃ m,m=BH s w:=⟨_,rfl⟩;have hmw:min (max w 0) (s.q.length:Int)=(m:Int):=by rw [hm];unfold BH;omega
 have hml:m≤s.q.length:=by rw [hm];unfold BH;omega
 have hpo:=JZ hs m;refine Bd func29 rfl ntmps29<|Sq<|Sq ?_;refine dL (t:=16) (n:=9) (X:=s.off) ?_ ?_
 ·all_goals refine Dd aF ?_
  all_goals refine Dd (by exact cY rfl fN rfl rfl rfl rfl)<|Dm ?_
  all_goals refine Sp 11 (fun h11=>?_) fun h11=>?_
  all_goals try contradiction
  all_goals refine On aF<|On fP<|On (dV rI)<|On (eG dM)<|Dd iM<|Zz ?_
  all_goals(exact⟨⟨_,rfl,by rfl⟩,rfl,rfl,rfl⟩)
 refine Cn ?_ ?_<;>intro hc1
 ·refine aM ?_;refine iK (H':=aY s) (.inr rfl) rfl  (Fin.wk (by(simp;done)) (Hc (aE _ _ rfl rfl rfl)<|Hc (aC _ _)<|Hc (aK _ _ _)<|Hc (aJ _ _)<|trivial) ⟨rfl,rfl,rfl,rfl,trivial⟩) ?_;exact⟨rfl,by simp [iI,hc1]⟩
 have hdf:=SP s w b hc1;refine aG<|Sr<|Dd aF<|Dd (by exact FA rfl rfl rfl rfl)<|Dd aF<|Dd fP<|Dd (dV kE)<|Dd (eG jL)<|Dd (by exact dO rfl nZ rfl rfl rfl)<|Dd (by exact zE rfl rfl rfl hmw)<|Dd aS<|Zz<|Sr<|Dd aF<|Dd aF<|Dd fP<|Dd (dV kE)<|Dd (eG jL)<|Dd aF<|Dd (by exact fX (l:=0) (h:=m) rfl JO rfl rfl rfl rfl rfl rfl (by omega) (by omega) rfl rfl)<|Dd (by exact aB rfl rfl call60 rfl (cK (G8 s m hs hml) _ ⟨rfl,rfl,rfl,rfl,trivial⟩ (by(simp;exact⟨rfl,rfl⟩))))<|Zz<|Sq<|Sr<|Dd aF<|Dd aF<|Dd fP<|Dd (dV kE)<|Dd (eG jL)<|Dd (by exact dO rfl nZ rfl rfl rfl)<|Dd dZ<|Zz ?_;refine Cn ?_ ?_<;>intro hc2
 ·have hlt:m < s.q.length:=Int.ofNat_lt.1 (aBC hc2);obtain ⟨p,hp⟩:=aZ hlt;have hpe:(pU s.q)[0+m]?=some ((iZ p).map .pv):=by rw [aBY,aB0,hp];rfl
  obtain ⟨hp1,hp2⟩:=hs.q p (aBQ hp);have hkm:min (max b 0) 64=((min b 64).toNat:Int):=by omega
  have hkl:(min b 64).toNat≤64:=by omega
  refine Sr<|Dd aF<|Dd fP<|Dd (dV kE)<|Dd (eG jL)<|Dd aF<|Dd (by exact eL rfl JO rfl rfl rfl rfl rfl (by omega) (by exact aBR _) (by omega) rfl)<|Dd (by exact dC rfl isAgg103 uQ rfl rfl rfl hpe (by simp only [Zl,iZ];rfl) rfl)<|Dd (by exact cR (id:=7) rfl WQ rfl rfl)<|Uu (sS uQ)<|Zz<|Sr<|Dd aF<|Dd (by exact FA rfl rfl rfl rfl)<|Dd (by exact zE rfl rfl rfl hkm)<|Dd aS<|Zz<|Sr<|Dd aF<|Dd DU<|Zz ?_;refine Cn ?_ ?_<;>intro hc3
  ·have hb:0 < b:=by have:=aBC hc3;omega
   obtain ⟨c,hc⟩:=aZ (show p.1 < (dF s.cells (s.q.take m)).length by rw [gY];exact hp1);have hts:(p.2.extract 0 (min b 64).toNat).size≤64:=by rw [IB (by omega)];exact hkl
   have hset:=WT {s with cells:=dF s.cells (s.q.take m)} p.1 c (p.2.extract 0 (min b 64).toNat) hpo hc hts;have hfc:mW s w b=(dF s.cells (s.q.take m)).set p.1 (kY (p.2.extract 0 (min b 64).toNat) c):=by
    rw [mW,← hm,hp];simp only [GS,aBF hb,hc,Option.getD_some]
   rw [hfc] at hdf;refine bR follows<|Cr [] (fun _ _=>aF)<|Cr [7] (fun _ h=>fh FZ h)<|Cr [7] (fun H1 hH=>by exact dC rfl jK sizeOf96 rfl ((hH _ rfl).trans rfl) rfl rfl rfl rfl)<|Cr [7] (fun _ h=>fh FY h)<|Cr [7] (fun _ h=>lh aV h)<|Cr [] (fun _ _=>aF)<|Cr [] (fun H1 hH=>by exact dB (l:=0) (h:=(min b 64).toNat) rfl aI rfl rfl rfl (by omega) (by omega) rfl) ?_;refine cB (r:=⟨_,some [1000,1001,1002,1003],_⟩) (DStep.plain rfl (fun H1 hH=>by exact aB rfl rfl call61 rfl (cK hset _ ⟨(hH 1000 rfl).trans rfl,(hH 1001 rfl).trans rfl,(hH 1002 rfl).trans rfl,(hH 1003 rfl).trans rfl,trivial⟩ (by simp;rfl)))) rfl ?_;refine dG<|Kr<|Sr<|Dd aF<|Dd fP<|Dd (dV kE)<|Uu (by exact lG (q:=1002) (sz:=3) (ty:=103) rfl sizeOf77 rfl rfl rfl rfl rfl rfl rfl rfl (by simp) (by simp only [lB,List.set_cons_succ,List.set_cons_zero];rfl) (by simp only [List.set_cons_zero];rfl))<|Zz<|Sr<|Dd aF<|Dd fP<|Dd (dV rI)<|Uu (by exact cX rfl sizeOf4 rfl rfl rfl rfl rfl rfl (by simp only [aBI,List.length_nil];omega) (by simp only [Zl,iZ];rfl) (by simp only [Zl,iZ];rfl))<|Zz<|Rg<|Dd aF<|Dd fP<|Dd (dV kZ)<|Uu (by exact cX rfl sizeOf78 rfl rfl rfl rfl rfl rfl (by simp only [aBI,List.length_nil];omega) (by simp only [Zl,iZ];rfl) (by simp only [Zl,iZ];rfl))<|Zz ?_;refine iK (H':=MQ s ((dF s.cells (s.q.take m)).set p.1 (kY (p.2.extract 0 (min b 64).toNat) c))) (by exact .inl rfl) rfl  (Fin.wk (by(simp;done)) (Hc (by(simp;exact⟨rfl,rfl⟩))<|Hc (aC _ _)<|Hb<|Hc (aJ _ _)<|trivial) ⟨rfl,rfl,rfl,rfl,trivial⟩) ?_;exact⟨rfl,hdf⟩
  have hb:¬ 0 < b:=by have:¬ _:=aBD hc3;omega
  have hfc:mW s w b=dF s.cells (s.q.take m):=by
   rw [mW,← hm,hp];simp only [GS,aBE hb]
  rw [hfc] at hdf;refine aG<|Sr<|Dd aF<|Dd fP<|Dd (dV kE)<|Uu (by exact lG (q:=1002) (sz:=3) (ty:=103) rfl sizeOf77 rfl rfl rfl rfl rfl rfl rfl rfl (by simp) (by simp only [lB,List.set_cons_succ,List.set_cons_zero];rfl) (by simp only [List.set_cons_zero];rfl))<|Zz<|Sr<|Dd aF<|Dd fP<|Dd (dV rI)<|Uu (by exact cX rfl sizeOf4 rfl rfl rfl rfl rfl rfl (by simp only [aBI,List.length_nil];omega) (by simp only [Zl,iZ];rfl) (by simp only [Zl,iZ];rfl))<|Zz<|Rg<|Dd aF<|Dd fP<|Dd (dV kZ)<|Uu (by exact cX rfl sizeOf78 rfl rfl rfl rfl rfl rfl (by simp only [aBI,List.length_nil];omega) (by simp only [Zl,iZ];rfl) (by simp only [Zl,iZ];rfl))<|Zz ?_;refine iK (H':=MQ s (dF s.cells (s.q.take m))) (by exact .inl rfl) rfl  (Fin.wk (by(simp;done)) (Hc (by(simp;exact⟨rfl,rfl⟩))<|Hc (aC _ _)<|Hb<|Hc (aJ _ _)<|trivial) ⟨rfl,rfl,rfl,rfl,trivial⟩) ?_;exact⟨rfl,hdf⟩
 have hge:s.q.length≤m:=Nat.not_lt.1 (fun h=>aBD hc2 (Int.ofNat_lt.2 h));have hfc:mW s w b=dF s.cells (s.q.take m):=by
  rw [mW,← hm,List.getElem?_eq_none hge];rfl
 rw [hfc] at hdf;refine aG<|Sr<|Dd aF<|Dd fP<|Dd (dV kE)<|Uu (by exact lG (q:=1002) (sz:=3) (ty:=103) rfl sizeOf77 rfl rfl rfl rfl rfl rfl rfl rfl (by simp) (by simp only [lB,List.set_cons_succ,List.set_cons_zero];rfl) (by simp only [List.set_cons_zero];rfl))<|Zz<|Sr<|Dd aF<|Dd fP<|Dd (dV rI)<|Uu (by exact cX rfl sizeOf4 rfl rfl rfl rfl rfl rfl (by simp only [aBI,List.length_nil];omega) (by simp only [Zl,iZ];rfl) (by simp only [Zl,iZ];rfl))<|Zz<|Rg<|Dd aF<|Dd fP<|Dd (dV kZ)<|Uu (by exact cX rfl sizeOf78 rfl rfl rfl rfl rfl rfl (by simp only [aBI,List.length_nil];omega) (by simp only [Zl,iZ];rfl) (by simp only [Zl,iZ];rfl))<|Zz ?_;refine iK (H':=MQ s (dF s.cells (s.q.take m))) (by exact .inl rfl) rfl  (Fin.wk (by(simp;done)) (Hc (by(simp;exact⟨rfl,rfl⟩))<|Hc (aC _ _)<|Hb<|Hc (aJ _ _)<|trivial) ⟨rfl,rfl,rfl,rfl,trivial⟩) ?_;exact⟨rfl,hdf⟩
theorem NE {cells:List ByteArray} (hc:∀ c,c∈cells→c.size=64) {b:Int} {p:Option (Nat×ByteArray)} (hp:∀ x,p=some x→x.1 < cells.length∧x.2.size=64):∀ c,c∈GS cells b p→c.size=64:=by
 unfold GS
 split
 ·exact hc
 next x =>
 obtain ⟨h1,h2⟩:=hp x rfl
 split
 ·intro c hm;rcases List.mem_or_eq_of_mem_set hm with h|h
  ·exact hc c h
  obtain ⟨d,hd⟩:=aZ h1;have hd2:=hc d (aBQ hd);have e1:(x.2.extract 0 (min b 64).toNat).size=(min b 64).toNat:=IB (by omega);rw [h,hd,Option.getD_some,OB (by omega),hd2]
 exact hc
theorem MP {s:DSt} (hs:DOk s) (w b:Int):DOk (iI s w b):=by
 unfold iI
 split
 ·exact hs
 refine⟨by simpa [xJ] using hs.n1,by simpa [xJ] using hs.n2,?_,by simp,by simp⟩;refine NE (yA (fun p hp=>(hs.q p (List.mem_of_mem_take hp)).2) hs.c) (fun x hx=>?_);rw [gY];exact hs.q x (aBQ hx)
def dX (s:DSt):DSt:=match s.arm with
 | .on a w b=>if 0 < a then {s with arm:=.on (a - 1) w b} else iI s w b
 | _=>s
def eW (s:DSt):Int:=match s.arm with
 | .on a w b=>if 0 < a then 0 else 22
 | _=>0
def M1 (s:DSt):Prop:=∀ a w b,s.arm=.on a w b→a≤9223372036854775807
theorem IE (s:DSt) (hs:DOk s) (ha:M1 s) :
  aL Tryz.prog 147 [.ref 1000 0 0 0] (aY s) (fun r H'=>r=iv (eW s)∧H'=aY (dX s)):=by
 obtain ⟨cells,q,off,arm,gq,ga⟩:=s;cases arm with
 | never =>
  refine Bd aA1 rfl Z1<|Sr<|Dd aS<|Zz<|Sq<|Sr<|Dd aF<|Dd fP<|Dd (dV kZ)<|Dd (eG oC)<|Dd (by exact qZ rfl PT rfl rfl)<|Zz ?_;refine Cn ?_ ?_<;>intro hc1
  ·refine Sr<|Dd aS<|Zz<|aM ?_;refine bF (H':=aY ⟨cells,q,off,.never,gq,ga⟩) (.inr rfl) rfl (aH rfl) (Fin.wk (by(simp;done)) (Hc (aE _ _ rfl rfl rfl)<|Hc (aC _ _)<|Hc (aK _ _ _)<|Hc (aJ .never _)<|trivial) ⟨rfl,rfl,rfl,rfl,trivial⟩) ?_;exact Qq
  cases hc1
 | off a w b =>
  refine Bd aA1 rfl Z1<|Sr<|Dd aS<|Zz<|Sq<|Sr<|Dd aF<|Dd fP<|Dd (dV kZ)<|Dd (eG oC)<|Dd (by exact qZ rfl PT rfl rfl)<|Zz ?_;refine Cn ?_ ?_<;>intro hc1
  ·refine Sr<|Dd aS<|Zz<|aM ?_;refine bF (H':=aY ⟨cells,q,off,.off a w b,gq,ga⟩) (.inr rfl) rfl (aH rfl) (Fin.wk (by(simp;done)) (Hc (aE _ _ rfl rfl rfl)<|Hc (aC _ _)<|Hc (aK _ _ _)<|Hc (aJ (.off _ _ _) _)<|trivial) ⟨rfl,rfl,rfl,rfl,trivial⟩) ?_;exact Qq
  cases hc1
 | on a w b =>
  have ha':=ha a w b rfl;refine Bd aA1 rfl Z1<|Sr<|Dd aS<|Zz<|Sq<|Sr<|Dd aF<|Dd fP<|Dd (dV kZ)<|Dd (eG oC)<|Dd (by exact cY rfl PT rfl rfl rfl rfl)<|Zz ?_;refine Cn ?_ ?_<;>intro hc1
  ·cases hc1
  refine aG<|Sq<|Sr<|Dd aF<|Dd fP<|Dd (dV kZ)<|Dd (eG oC)<|Dd fP<|Dd (dV F0)<|Dd (eG aU)<|Dd DU<|Zz ?_;refine Cn ?_ ?_<;>intro hc2
  ·have h0:0 < a:=aBC hc2;refine Sr<|Dd aF<|Dd fP<|Dd (dV kZ)<|Dd (eG oC)<|Dd fP<|Dd (dV F0)<|Dd (eG aU)<|Dd (by exact eF rfl rfl rfl (by exact jS (by omega) (by omega)))<|Dd fP<|Dd (dV F0)<|Uu (by exact cX (r:=[iv a,iv w,iv b]) rfl sizeOf3 rfl rfl rfl rfl rfl rfl (by simp) rfl rfl)<|Zz<|Sr<|Dd aS<|Zz<|aM ?_;refine bF (H':=aY ⟨cells,q,off,.on (a - 1) w b,gq,ga⟩) (.inr rfl) rfl (aH rfl) (Fin.wk (by(simp;done)) (Hc (aE _ _ rfl rfl rfl)<|Hc (aC _ _)<|Hc (aK _ _ _)<|Hc (aJ (.off _ _ _) _)<|trivial) ⟨rfl,rfl,rfl,rfl,trivial⟩) ?_;exact⟨by simp [eW,h0],by simp only [dX,aBF h0]⟩
  have h0:¬ 0 < a:=aBD hc2;refine aG<|Sq<|bR follows<|Cr [1000] (fun _ _=>aF)<|Cr [1000] (fun _ _=>aF)<|Cr [1000] (fun H1 hH=>by exact bV rfl rfl ((hH _ rfl).trans rfl) rfl)<|Cr [1000] (fun _ h=>fh kZ h)<|Cr [1000] (fun _ h=>lh oC h)<|Cr [1003] (fun H1 hH=>by exact bV rfl rfl ((hH _ rfl).trans rfl) rfl)<|Cr [1003] (fun _ h=>fh V1 h)<|Cr [1003] (fun _ h=>lh aU h)<|Cr [1000] (fun _ _=>aF)<|Cr [1000] (fun H1 hH=>by exact bV rfl rfl ((hH _ rfl).trans rfl) rfl)<|Cr [1000] (fun _ h=>fh kZ h)<|Cr [1000] (fun _ h=>lh oC h)<|Cr [1003] (fun H1 hH=>by exact bV rfl rfl ((hH _ rfl).trans rfl) rfl)<|Cr [1003] (fun _ h=>fh V0 h)<|Cr [1003] (fun _ h=>lh aU h) ?_;refine cB (r:=⟨_,some [1000,1001,1002,1003],_⟩) (DStep.plain rfl (fun H1 hH=>by exact aB rfl rfl call29 rfl (cK (SO ⟨cells,q,off,.on a w b,gq,ga⟩ w b hs) _ ⟨(hH 1000 rfl).trans rfl,(hH 1001 rfl).trans rfl,(hH 1002 rfl).trans rfl,(hH 1003 rfl).trans rfl,trivial⟩ (by(simp;rfl))))) rfl ?_;refine dG<|Kr<|Sr<|Dd aS<|Zz<|aM ?_;refine bF (H':=aY (iI ⟨cells,q,off,.on a w b,gq,ga⟩ w b)) (.inr rfl) rfl (aH rfl) (Fin.wk (by(simp;done)) (Hc (aE _ _ rfl rfl rfl)<|Hc (aC _ _)<|Hc (aK _ _ _)<|Hc (aJ _ _)<|trivial) ⟨rfl,rfl,rfl,rfl,trivial⟩) ?_;exact⟨by simp [eW,h0],by simp only [dX,aBE h0]⟩
def kR (s:DSt) (n:Nat) (t:ByteArray):DSt:={s with q:=s.q++[(n,t)],gq:=s.gq+1}
theorem wP {s:DSt} (hs:DOk s) {n:Nat} {t:ByteArray} (hn:n < s.cells.length) (ht:t.size=64) (hq:s.q.length < 1048576):DOk (kR s n t) :=⟨hs.n1,hs.n2,hs.c,fun p hp=>by
  rcases List.mem_append.1 hp with h|h
  ·exact hs.q p h
  rw [aBJ.1 h];exact⟨hn,ht⟩,by show (s.q++[(n,t)]).length≤_;simp;omega⟩
def kG (s:DSt) (k:Int) (t:ByteArray):DSt:=if s.off then s else if fU s k&&decide (t.size=64)then dX (kR s k.toNat t)else s
def jC (s:DSt) (k:Int) (t:ByteArray):Int:=if s.off then 22 else if fU s k&&decide (t.size=64)then eW (kR s k.toNat t)else 1
theorem X8 (s:DSt) (p:Nat×ByteArray):s.q.length+1=(s.q++[p]).length:=by simp
theorem UP (s:DSt) (k:Int) (t:ByteArray) (hs:DOk s) (ha:M1 s) (hq:s.q.length < 1048576) :
  aL Tryz.prog 121 [.ref 1000 0 0 0,iv k,sv t] (aY s) (fun r H'=>r=iv (jC s k t)∧H'=aY (kG s k t)):=by
 refine Bd func121 rfl ntmps121 ?_;cases e:s.off with
 | true =>
  refine Sr<|Dd aS<|Zz<|Sr<|Dd aF<|Dd aF<|Dd (by exact aB rfl rfl wJ rfl (cK (TM s k hs e) _ ⟨rfl,rfl,rfl,rfl,trivial⟩ (by simp;rfl)))<|Dd aF<|Dd eP<|Dd eP<|Dd (by exact cR (id:=7) rfl B6 rfl rfl)<|Uu (sS sizeOf96)<|Dd aS<|Zz<|Sq<|Sr<|Dd aF<|Dd uT<|Zz ?_;refine Cn ?_ ?_<;>intro hc1
  ·refine Sr<|Dd aF<|Dd aS<|Zz<|aM ?_;refine bF (H':=aY s) (.inr rfl) rfl (aH rfl) (Fin.wk (by(simp;done)) (Hc (aE _ _ rfl rfl rfl)<|Hc (aC _ _)<|Hc (aK _ _ _)<|Hc (aJ _ _)<|trivial) ⟨rfl,rfl,rfl,rfl,trivial⟩) ?_;exact⟨by simp [jC,e],by simp [kG,e]⟩
  cases hc1
 | false =>
  rcases qT s k with e2|⟨n,rfl,hn⟩
  ·refine Sr<|Dd aS<|Zz<|Sr<|Dd aF<|Dd aF<|Dd (by exact aB rfl rfl wJ rfl (cK (W6 s k hs e e2) _ ⟨rfl,rfl,rfl,rfl,trivial⟩ (by simp;rfl)))<|Dd aF<|Dd eP<|Dd eP<|Dd (by exact cR (id:=7) rfl B6 rfl rfl)<|Uu (sS sizeOf96)<|Dd aS<|Zz<|Sq<|Sr<|Dd aF<|Dd uT<|Zz ?_;refine Cn ?_ ?_<;>intro hc2
   ·refine Sr<|Dd aF<|Dd aS<|Zz<|aM ?_;refine bF (H':=aY s) (.inr rfl) rfl (aH rfl) (Fin.wk (by(simp;done)) (Hc (aE _ _ rfl rfl rfl)<|Hc (aC _ _)<|Hc (aK _ _ _)<|Hc (aJ _ _)<|trivial) ⟨rfl,rfl,rfl,rfl,trivial⟩) ?_;exact⟨by simp [jC,e,e2],by simp [kG,e,e2]⟩
   cases hc2
  have e2:fU s (n:Int)=true:=by rw [kW];simpa using hn
  refine Sr<|Dd aS<|Zz<|Sr<|Dd aF<|Dd aF<|Dd (by exact aB rfl rfl wJ rfl (cK (TL s n hs e hn) _ ⟨rfl,rfl,rfl,rfl,trivial⟩ (by simp;rfl)))<|Dd aF<|Dd eP<|Dd eP<|Dd (by exact cR (id:=7) rfl B6 rfl rfl)<|Uu (sS sizeOf96)<|Dd aS<|Zz<|Sq<|Sr<|Dd aF<|Dd uT<|Zz ?_;refine Cn ?_ ?_<;>intro hc3
  ·cases hc3
  refine aG<|Sq<|Sr<|Dd aF<|Dd (CO aI)<|Dd uT<|Zz ?_;refine Cn ?_ ?_<;>intro hc4
  ·have ht:¬ t.size=64:=by
    have:(!decide ((t.size:Int)=64))=true:=hc4;simp at this;omega
   refine Sr<|Dd aS<|Zz<|aM ?_;refine bF (H':=aY s) (.inr rfl) rfl (aH rfl) (Fin.wk (by(simp;done)) (Hc (aE _ _ rfl rfl rfl)<|Hc (aC _ _)<|Hc (aK _ _ _)<|Hc (aJ _ _)<|trivial) ⟨rfl,rfl,rfl,rfl,trivial⟩) ?_;exact⟨by simp [jC,e,e2,ht],by simp [kG,e,e2,ht]⟩
  have ht:t.size=64:=by
   have:(!decide ((t.size:Int)=64))=false:=hc4;simp at this;omega
  have hw:=wP hs hn ht hq;have hfin:kG s n t=dX (kR s n t):=by simp [kG,e,e2,ht]
  have hfe:jC s n t=eW (kR s n t):=by simp [jC,e,e2,ht]
  refine aG<|Sq<|bR follows<|Cr [1000] (fun _ _=>aF)<|Cr [1000] (fun _ _=>aF)<|Cr [1000] (fun H1 hH=>by exact bV rfl rfl ((hH _ rfl).trans rfl) rfl)<|Cr [1000] (fun _ h=>fh kE h)<|Cr [1000] (fun _ h=>lh jL h)<|Cr [7] (fun H1 hH=>by exact dC rfl jK sizeOf96 rfl ((hH _ rfl).trans rfl) rfl rfl (by simp only [Zl,iZ,jQ,lB];rfl) rfl)<|Cr [] (fun _ _=>aF)<|Cr [] (fun _ _=>(P3 ZW))<|Cr [] (fun H1 hH=>by exact bL [iZ (n,t)] rfl JO rfl rfl rfl rfl rfl (by simp [iZ]))<|Cp [1002] (fun H1 hH=>by exact eD rfl JO ZN rfl ((hH _ rfl).trans rfl) rfl rfl rfl (aBG _) rfl (by simp [iZ]) (rfl:_=1) (by omega) (X8 s (n,t)) (List.map_append (l₂:=[(n,t)])).symm)<|Cr [1000] (fun H1 hH=>by exact bV rfl rfl ((hH _ rfl).trans rfl) rfl)<|Cr [1000] (fun _ h=>fh kE h) ?_;refine Cp [1000,1002] (fun H1 hH=>by exact cX rfl sizeOf77 rfl rfl rfl ((hH _ rfl).trans rfl) rfl rfl (by simp only [aBI,List.length_nil];omega) (by simp only [Zl,iZ,jQ,lB];rfl) (by simp only [Zl,iZ,jQ,lB];rfl))<|dG<|Kr<|Sr<|Dd aF<|Dd (by exact aB rfl rfl call147 rfl (cK (IE (kR s n t) hw (fun a w b h=>ha a w b h)) _ ⟨rfl,rfl,rfl,rfl,trivial⟩ (by simp;rfl)))<|Dd aS<|Zz<|aM ?_;refine bF (H':=aY (dX (kR s n t))) (.inr rfl) rfl (aH rfl) (Fin.wk (by(simp;done)) (Hc (aE _ _ rfl rfl rfl)<|Hc (aC _ _)<|Hc (aK _ _ _)<|Hc (aJ _ _)<|trivial) ⟨rfl,rfl,rfl,rfl,trivial⟩) ?_;exact⟨by rw [hfe],by rw [hfin]⟩
theorem IH {s:DSt} (hs:DOk s):DOk (dX s):=by
 unfold dX
 split
 ·split
  ·exact⟨hs.n1,hs.n2,hs.c,hs.q,hs.ql⟩
  exact MP hs _ _
 exact hs
def xM (s:DSt):DSt:={s with cells:=dF s.cells s.q,q:=[],gq:=s.gq+1}
def kH (s:DSt):DSt:=if s.off then s else if eW s=0 then xM (dX s)else dX s
def nW (s:DSt):Int:=if s.off then 22 else eW s
theorem XF (s:DSt) (hs:DOk s) (ha:M1 s) :
  aL Tryz.prog 122 [.ref 1000 0 0 0] (aY s) (fun r H'=>r=iv (nW s)∧H'=aY (kH s)):=by
 have hc:=IH hs;have hset:=G8 (dX s) (dX s).q.length hc (aBM _);rw [List.take_length] at hset;refine Bd func122 rfl ntmps122<|Sr<|Dd aS<|Zz<|Sq<|Sr<|Dd aF<|Dd (by exact cY rfl fN rfl rfl rfl rfl)<|Zz ?_;refine Cn ?_ ?_<;>intro hc1
 ·cases hc1
 refine aG<|Sq<|Sr<|Dd aF<|Dd fP<|Dd (dV rI)<|Dd (eG dM)<|Zz ?_;refine Cn ?_ ?_<;>intro hc2
 ·have e:s.off=true:=hc2;refine Sr<|Dd aS<|Zz<|aM ?_;refine bF (H':=aY s) (.inr rfl) rfl (aH rfl) (Fin.wk (by(simp;done)) (Hc (aE _ _ rfl rfl rfl)<|Hc (aC _ _)<|Hc (aK _ _ _)<|Hc (aJ _ _)<|trivial) ⟨rfl,rfl,rfl,rfl,trivial⟩) ?_;exact⟨by simp [nW,e],by simp [kH,e]⟩
 have e:s.off=false:=hc2;refine aG<|Sq<|Sr<|Dd aF<|Dd (by exact aB rfl rfl call147 rfl (cK (IE s hs ha) _ ⟨rfl,rfl,rfl,rfl,trivial⟩ (by simp;rfl)))<|Dd aS<|Zz<|Sr<|Dd aF<|Dd uT<|Zz ?_;refine Cn ?_ ?_<;>intro hc3
 ·have e2:¬ eW s=0:=by
   have:(!decide (eW s=0))=true:=hc3
   simpa using this
  refine Sr<|Dd aF<|Dd aS<|Zz<|aM ?_;refine bF (H':=aY (dX s)) (.inr rfl) rfl (aH rfl) (Fin.wk (by(simp;done)) (Hc (aE _ _ rfl rfl rfl)<|Hc (aC _ _)<|Hc (aK _ _ _)<|Hc (aJ _ _)<|trivial) ⟨rfl,rfl,rfl,rfl,trivial⟩) ?_;exact⟨by simp [nW,e],by simp [kH,e,e2]⟩
 have e2:eW s=0:=by
  have:(!decide (eW s=0))=false:=hc3
  simpa using this
 refine aG<|Sr<|Dd aF<|Dd aF<|Dd fP<|Dd (dV kE)<|Dd (eG jL)<|Dd (by exact aB rfl rfl call60 rfl (cK hset _ ⟨rfl,rfl,rfl,rfl,trivial⟩ (by(simp;exact⟨rfl,rfl⟩))))<|Zz<|Sr<|Dd aF<|Dd fP<|Dd (dV kE)<|Uu (by exact lG (q:=1002) (sz:=3) (ty:=103) rfl sizeOf77 rfl rfl rfl rfl rfl rfl rfl rfl (by simp) (by simp only [lB,List.set_cons_succ,List.set_cons_zero];rfl) (by simp only [List.set_cons_zero];rfl))<|Zz<|Sr<|Dd aS<|Zz<|aM ?_;refine bF (H':=aY (xM (dX s))) (.inr rfl) rfl (aH rfl) (Fin.wk (by(simp;done)) (Hc (aE _ _ rfl rfl rfl)<|Hc (aC _ _)<|Hc (aK _ _ _)<|Hc (aJ _ _)<|trivial) ⟨rfl,rfl,rfl,rfl,trivial⟩) ?_;exact⟨by simp [nW,e,e2],by simp [kH,e,e2]⟩
def uH (s:DSt):DSt:={s with off:=false,arm:=uG s.arm}
theorem NJ (s:DSt):([(1000,⟨0,4,80,[[.osl 1001 0 0 (64*s.cells.length),.osl 1002 s.gq 0 s.q.length,bv false,.pv .nilp]]⟩),(1001,⟨0,1,5,bG (flat s.cells)⟩),(1002,⟨s.gq,3,103,pU s.q⟩),(1003,⟨s.ga,3,100,jQ s.arm⟩)]:aA)=aY (uH s):=by simp only [uH,aY,lB,uF,uE]
theorem UV (s:DSt):aL Tryz.prog 30 [.ref 1000 0 0 0] (aY s) (fun r H'=>r=.tup []∧H'=aY (uH s)):=by
 rw [← NJ s];refine Bd func30 rfl ntmps30<|Sr<|Dd aF<|Dd (by exact yD rfl fN rfl rfl rfl rfl)<|Zz ?_;refine Cn ?_ ?_<;>intro hc1
 ·refine Sr<|Dd aF<|Dd fP<|Dd (dV rI)<|Uu (by exact cX rfl sizeOf4 rfl rfl rfl rfl rfl rfl (by simp only [aBI,List.length_nil];omega) (by simp only [Zl,iZ,jQ,lB];rfl) (by simp only [Zl,iZ,jQ,lB];rfl))<|Zz<|Rg<|Dd aF<|Dd fP<|Dd (dV kZ)<|Uu (by exact cX rfl sizeOf78 rfl rfl rfl rfl rfl rfl (by simp only [aBI,List.length_nil];omega) (by simp only [Zl,iZ,jQ,lB];rfl) (by simp only [Zl,iZ,jQ,lB];rfl))<|Zz ?_;refine iK (H':=[(1000,⟨0,4,80,[[.osl 1001 0 0 (64*s.cells.length),.osl 1002 s.gq 0 s.q.length,bv false,.pv .nilp]]⟩),(1001,⟨0,1,5,bG (flat s.cells)⟩),(1002,⟨s.gq,3,103,pU s.q⟩),(1003,⟨s.ga,3,100,jQ s.arm⟩)]) (by exact .inl rfl) rfl  (Fin.wk (by(simp;done)) (Hc (by(simp;exact⟨rfl,rfl⟩))<|Hc (aC _ _)<|Hc (aK _ _ _)<|Hc (aJ _ _)<|trivial) ⟨rfl,rfl,rfl,rfl,trivial⟩) ?_;exact Qq
 cases hc1
def BO (s:DSt) (a w b:Int):DSt:=if s.off then s else if 0≤a then {s with arm:=.on a w b,ga:=s.ga+1} else {s with arm:=uG s.arm}
theorem WL (s:DSt):([(1000,⟨0,4,80,[[.osl 1001 0 0 (64*s.cells.length),.osl 1002 s.gq 0 s.q.length,bv s.off,.pv .nilp]]⟩),(1001,⟨0,1,5,bG (flat s.cells)⟩),(1002,⟨s.gq,3,103,pU s.q⟩),(1003,⟨s.ga,3,100,jQ s.arm⟩)]:aA)=aY {s with arm:=uG s.arm}:=by simp only [aY,lB,uF,uE]
theorem ZY (s:DSt) (a w b:Int):aL Tryz.prog 28 [.ref 1000 0 0 0,iv a,iv w,iv b] (aY s) (fun r H'=>r=.tup []∧H'=aY (BO s a w b)):=by
 refine Bd func28 rfl ntmps28<|Sq<|Sq ?_;refine dL (t:=15) (n:=9) (X:=s.off) ?_ ?_
 ·all_goals refine Dd aF ?_
  all_goals refine Dd (by exact cY rfl fN rfl rfl rfl rfl)<|Dm ?_
  all_goals refine Sp 10 (fun h10=>?_) fun h10=>?_
  all_goals try contradiction
  all_goals refine On aF<|On fP<|On (dV rI)<|On (eG dM)<|Dd iM<|Zz ?_
  all_goals(exact⟨⟨_,rfl,by rfl⟩,rfl,rfl,rfl⟩)
 refine Cn ?_ ?_<;>intro hc1
 ·refine aM ?_;refine iK (H':=aY s) (.inr rfl) rfl  (Fin.wk (by(simp;done)) (Hc (aE _ _ rfl rfl rfl)<|Hc (aC _ _)<|Hc (aK _ _ _)<|Hc (aJ _ _)<|trivial) ⟨rfl,rfl,rfl,rfl,trivial⟩) ?_;exact⟨rfl,by simp [BO,hc1]⟩
 refine aG<|Sr<|Dd aF<|Dd fP<|Dd (dV kZ)<|Uu (by exact cX rfl sizeOf78 rfl rfl rfl rfl rfl rfl (by simp only [aBI,List.length_nil];omega) (by simp only [Zl,iZ,jQ,lB];rfl) (by simp only [Zl,iZ,jQ,lB];rfl))<|Zz<|Sr<|Dd aF<|Dd UE<|Zz ?_;refine Cn ?_ ?_<;>intro hc2
 ·have h0:0≤a:=aBC hc2;refine Rg<|Dd aF<|Dd aF<|Dd aF<|Dd aF<|Dd (by exact EJ rfl ZX rfl (rfl:_=some [iv a,iv w,iv b]))<|Dd (by exact CM (id:=1003) rfl rfl rfl rfl rfl rfl)<|Dd fP<|Dd (dV kZ)<|Uu (by exact cX rfl sizeOf78 rfl rfl rfl rfl rfl rfl (by simp only [aBI,List.length_nil];omega) (by simp only [Zl,iZ,jQ,lB];rfl) (by simp only [Zl,iZ,jQ,lB];rfl))<|Zz ?_;refine iK (H':=aY {s with arm:=.on a w b,ga:=s.ga+1}) (by exact .inl rfl) rfl  (Fin.wk (by(simp;done)) (Hc (aE _ _ rfl rfl rfl)<|Hc (aC _ _)<|Hc (aK _ _ _)<|Hc (aJ (.off _ _ _) _)<|trivial) ⟨rfl,rfl,rfl,rfl,trivial⟩) ?_;exact⟨rfl,by simp [BO,hc1,h0]⟩
 have h0:¬ 0≤a:=aBD hc2;refine aG ?_;refine iK (H':=[(1000,⟨0,4,80,[[.osl 1001 0 0 (64*s.cells.length),.osl 1002 s.gq 0 s.q.length,bv s.off,.pv .nilp]]⟩),(1001,⟨0,1,5,bG (flat s.cells)⟩),(1002,⟨s.gq,3,103,pU s.q⟩),(1003,⟨s.ga,3,100,jQ s.arm⟩)]) (by exact .inl rfl) rfl  (Fin.wk (by(simp;done)) (Hc (by(simp;exact⟨rfl,rfl⟩))<|Hc (aC _ _)<|Hc (aK _ _ _)<|Hc (aJ _ _)<|trivial) ⟨rfl,rfl,rfl,rfl,trivial⟩) ?_;exact⟨rfl,by rw [WL];simp only [BO,hc1,h0,Bool.false_eq_true,if_false]⟩
def pW (n:Nat) (p:Nat×ByteArray):Bool:=decide (p.1=n)
def bP (s:DSt) (n:Nat):ByteArray:=((s.q.reverse.find? (pW n)).map (·.2)).getD ((s.cells[n]?).getD ⟨#[]⟩)
theorem SL {q:List (Nat×ByteArray)} {n j:Nat} {p:Nat×ByteArray} (hp:q[j]?=some p) (h1:pW n p=true) (h2:∀ i,j < i→∀ x,q[i]?=some x→pW n x=false):q.reverse.find? (pW n)=some p:=by
 obtain ⟨hlt,he⟩:=aBK.1 hp;have hs:q=q.take j++(p::q.drop (j+1)):=by
  conv=>lhs;rw [← List.take_append_drop j q,List.drop_eq_getElem_cons hlt,he]
 have hn:(q.drop (j+1)).reverse.find? (pW n)=none:=by
  rw [List.find?_eq_none];intro x hx;rw [List.mem_reverse] at hx;obtain ⟨i,hi⟩:=aB1.1 hx;rw [List.getElem?_drop] at hi;simp [h2 (j+1+i) (by omega) x hi]
 rw [hs,List.reverse_append,List.reverse_cons,List.append_assoc,List.find?_append,hn];simp [h1]
theorem CR {q:List (Nat×ByteArray)} {n:Nat} (h2:∀ (i:Nat) (x:Nat×ByteArray),q[i]?=some x→pW n x=false):q.reverse.find? (pW n)=none:=by rw [List.find?_eq_none];intro x hx;rw [List.mem_reverse] at hx;obtain ⟨i,hi⟩:=aB1.1 hx;simp [h2 i x hi]
theorem YH (c:ByteArray):(⟨c.data.toList.toArray⟩:ByteArray)=c:=by cases c;simp
def BM (s:DSt) (k:Int):ByteArray:=if s.off then⟨#[]⟩else if fU s k then bP s k.toNat else⟨#[]⟩
def pP (s:DSt) (k:Int):Int:=if s.off then 22 else if fU s k then 0 else 1
theorem RB (s:DSt) (k:Int) (hs:DOk s) :
  aL Tryz.prog 41 [.ref 1000 0 0 0,iv k] (aY s) (fun r H'=>r=.tup [sv (BM s k),iv (pP s k)]∧H'=aY s):=by
 have hql:=hs.ql;refine Bd func41 rfl ntmps41 ?_;cases e:s.off with
 | true =>
  refine Sr<|Dd aS<|Dd aS<|Zz<|Sr<|Dd aF<|Dd aF<|Dd (by exact aB rfl rfl wJ rfl (cK (TM s k hs e) _ ⟨rfl,rfl,rfl,rfl,trivial⟩ (by simp;rfl)))<|Dd aF<|Dd eP<|Dd eP<|Dd (by exact cR (id:=6) rfl B6 rfl rfl)<|Uu (sS sizeOf96)<|Dd aS<|Zz<|Sq<|Sr<|Dd aF<|Dd uT<|Zz ?_;refine Cn ?_ ?_<;>intro hc1
  ·refine Sr<|Dd aF<|Dd aS<|Dd aS<|Zz<|aM ?_;refine gQ (H':=aY s) (.inr rfl) rfl (aH rfl) (aH rfl) (Fin.wk (by(simp;done)) (Hc (aE _ _ rfl rfl rfl)<|Hc (aC _ _)<|Hc (aK _ _ _)<|Hc (aJ _ _)<|trivial) ⟨rfl,rfl,rfl,rfl,trivial⟩) ?_;exact⟨by simp [BM,pP,e],rfl⟩
  cases hc1
 | false =>
  rcases qT s k with e2|⟨n,rfl,hn⟩
  ·refine Sr<|Dd aS<|Dd aS<|Zz<|Sr<|Dd aF<|Dd aF<|Dd (by exact aB rfl rfl wJ rfl (cK (W6 s k hs e e2) _ ⟨rfl,rfl,rfl,rfl,trivial⟩ (by simp;rfl)))<|Dd aF<|Dd eP<|Dd eP<|Dd (by exact cR (id:=6) rfl B6 rfl rfl)<|Uu (sS sizeOf96)<|Dd aS<|Zz<|Sq<|Sr<|Dd aF<|Dd uT<|Zz ?_;refine Cn ?_ ?_<;>intro hc2
   ·refine Sr<|Dd aF<|Dd aS<|Dd aS<|Zz<|aM ?_;refine gQ (H':=aY s) (.inr rfl) rfl (aH rfl) (aH rfl) (Fin.wk (by(simp;done)) (Hc (aE _ _ rfl rfl rfl)<|Hc (aC _ _)<|Hc (aK _ _ _)<|Hc (aJ _ _)<|trivial) ⟨rfl,rfl,rfl,rfl,trivial⟩) ?_;exact⟨by simp [BM,pP,e,e2],rfl⟩
   cases hc2
  have e2:fU s (n:Int)=true:=by rw [kW];simpa using hn
  have h1:BM s n=bP s n:=by simp [BM,e,e2]
  have h2:pP s n=0:=by simp [pP,e,e2]
  rw [h1,h2];refine Sr<|Dd aS<|Dd aS<|Zz<|Sr<|Dd aF<|Dd aF<|Dd (by exact aB rfl rfl wJ rfl (cK (TL s n hs e hn) _ ⟨rfl,rfl,rfl,rfl,trivial⟩ (by simp;rfl)))<|Dd aF<|Dd eP<|Dd eP<|Dd (by exact cR (id:=6) rfl B6 rfl rfl)<|Uu (sS sizeOf96)<|Dd aS<|Zz<|Sq<|Sr<|Dd aF<|Dd uT<|Zz ?_;refine Cn ?_ ?_<;>intro hc3
  ·cases hc3
  refine aG<|Sq<|Sr<|Dd aF<|Dd fP<|Dd (dV kE)<|Dd (eG jL)<|Dd (by exact dO rfl nZ rfl rfl rfl)<|Dd (by exact eF rfl rfl rfl (by exact jS (by omega) (by omega)))<|Dd aS<|Zz<|aN ?_;refine bJ (σ:=Nat) (fun j=>([(0,.ref 1000 0 0 0),(6,.ref 6 0 0 0),(8,iv ((j:Int) - 1))],(6,bx 2 96 (G3 n))::aY s)) (fun j=>j≤s.q.length∧∀ i,j≤i→∀ x,s.q[i]?=some x→pW n x=false) (fun j=>j) s.q.length
   ⟨aBM _,fun i hi x hx=>by have:=(aBK.1 hx).1;omega⟩ ?_ ?_
  ·exact(cA.wk (Ea<|Ea<|Eb<|trivial) (Hb<|Hc (aE _ _ rfl rfl rfl)<|Hc (aC _ _)<|Hc (aK _ _ _)<|Hc (aJ _ _)<|trivial) ⟨rfl,rfl,rfl,rfl,trivial⟩)
  rintro j ⟨hj,hpre⟩;cases j with
  | succ j =>
   have ej:((j+1:Nat):Int) - 1=(j:Int):=by omega
   rw [ej];refine Sq<|Sr<|Dd aF<|Dd UE<|Zz ?_;refine Cn ?_ ?_<;>intro hc4
   ·obtain ⟨p,hp⟩:=aZ (show j < s.q.length by omega);have hpe:(pU s.q)[j]?=some ((iZ p).map .pv):=by rw [aB0,hp];rfl
    have hm:decide (((64*p.1:Nat):Int)=((64*n:Nat):Int))=pW n p:=by
     unfold pW;rw [Bool.eq_iff_iff];simp;omega
    refine aG<|Sq<|aN<|Sq<|bR follows<|Cq aF<|Cq fP<|Cq (dV kE)<|Cq (eG jL)<|Cq aF<|Cq (by exact eL rfl JO rfl rfl rfl rfl rfl (by omega) (by exact aBR _) (by omega) (aBY _))<|Cq (dV FZ)<|Cq (dV FW)<|Cq (by exact aX rfl aU rfl rfl rfl hpe rfl)<|Cq (dV FW)<|Cq (eG aU)<|Cq iY<|dG<|Kr ?_;refine Cn ?_ ?_<;>intro hc5
    ·rw [hm] at hc5;refine Sr<|Dd aF<|Dd fP<|Dd (dV kE)<|Dd (eG jL)<|Dd aF<|Dd (by exact eL rfl JO rfl rfl rfl rfl rfl (by omega) (by exact aBR _) (by omega) (aBY _))<|Dd (dV FY)<|Dd (by exact aX rfl aV rfl rfl rfl hpe rfl)<|Dd aS<|Dd aS<|Zz<|aM ?_;refine gQ (H':=aY s) (.inr rfl) rfl (aH rfl) (aH rfl) (Fin.wk (by(simp;done)) (Hc (aE _ _ rfl rfl rfl)<|Hc (aC _ _)<|Hc (aK _ _ _)<|Hc (aJ _ _)<|trivial) ⟨rfl,rfl,rfl,rfl,trivial⟩) ?_;refine⟨?_,rfl⟩;rw [bP,SL hp hc5 (fun i hi x hx=>hpre i (by omega) x hx)];rfl
    rw [hm] at hc5;refine aG<|Rg<|Dd aF<|Dd (by exact eF rfl rfl rfl (jS (by omega) (by omega)))<|Da ?_;refine⟨j,⟨by omega,fun i hi x hx=>?_⟩,by omega,(cA.wk (Ea<|Ea<|Eb<|trivial) (Hb<|Hc (aE _ _ rfl rfl rfl)<|Hc (aC _ _)<|Hc (aK _ _ _)<|Hc (aJ _ _)<|trivial) ⟨rfl,rfl,rfl,rfl,trivial⟩)⟩;by_cases he:i=j
    ·subst he;rw [hp] at hx;cases hx;exact hc5
    exact hpre i (by omega) x hx
   have:¬ (0:Int)≤(j:Int):=aBD hc4;omega
  | zero =>
   have hz:s.q.reverse.find? (pW n)=none:=CR (fun i x hx=>hpre i (aBX _) x hx);obtain ⟨c,hc⟩:=aZ hn;have hd:bP s n=c:=by rw [bP,hz,hc];rfl
   obtain ⟨_,p2,_⟩:=DZ hs.c hc;have hb:((bG (flat s.cells)).drop (0+64*n)).take (64*(n+1) - 64*n)=bG c.data.toList:=by
    rw [← p2,aBY,show 64*(n+1) - 64*n=64 by omega];simp only [bG,List.map_take,List.map_drop]
   have hfl:=oR hs.c;rw [hd];refine Sq<|Sr<|Dd aF<|Dd UE<|Zz ?_;refine Cn ?_ ?_<;>intro hc6
   ·have:(0:Int)≤((0:Nat):Int) - 1:=aBC hc6;omega
   refine bE<|Sq<|bR follows<|Cq aF<|Cq fP<|Cq (dV FX)<|Cq (eG eX)<|Cq (dV FW)<|Cq (eG aU)<|Cq (dV SJ)<|Cq (eG aU)<|Cq (by exact fX (l:=(64*n)) (h:=(64*(n+1))) rfl G5 rfl rfl rfl rfl rfl rfl (by omega) (by omega) rfl rfl)<|Cq (by exact iT rfl cE bX aI rfl rfl rfl rfl hb rfl)<|Cq aS<|Cq aS<|dG<|Kr<|aM ?_;refine gQ (H':=aY s) (.inr rfl) rfl (aH rfl) (aH rfl) (Fin.wk (by(simp;done)) (Hc (aE _ _ rfl rfl rfl)<|Hc (aC _ _)<|Hc (aK _ _ _)<|Hc (aJ _ _)<|trivial) ⟨rfl,rfl,rfl,rfl,trivial⟩) ?_;exact⟨by rw [YH],rfl⟩
def oT (s:DSt):ByteArray:=⟨(flat s.cells).toArray⟩
theorem WX (s:DSt) (hs:DOk s):aL Tryz.prog 22 [.ref 1000 0 0 0] (aY s) (fun r H'=>r=sv (oT s)∧H'=aY s):=by
 have hb:((bG (flat s.cells)).drop 0).take (64*s.cells.length)=bG (flat s.cells):=by
  rw [List.drop_zero,List.take_of_length_le (by simp [bG,oR hs.c])]
 refine Bd func22 rfl ntmps22<|Sr<|Dd aS<|Zz<|Sq<|Sr<|Dd aF<|Dd (by exact cY rfl fN rfl rfl rfl rfl)<|Zz ?_;refine Cn ?_ ?_<;>intro hc1
 ·cases hc1
 refine aG<|Sr<|Dd aF<|Dd fP<|Dd (dV FX)<|Dd (eG eX)<|Dd (by exact iT rfl cE bX aI rfl rfl rfl rfl hb rfl)<|Dd aS<|Zz<|aM ?_;refine bF (H':=aY s) (.inr rfl) rfl (aH rfl) (Fin.wk (by(simp;done)) (Hc (aE _ _ rfl rfl rfl)<|Hc (aC _ _)<|Hc (aK _ _ _)<|Hc (aJ _ _)<|trivial) ⟨rfl,rfl,rfl,rfl,trivial⟩) ?_;exact Qq
abbrev z64:ByteArray:=⟨(List.replicate 64 0).toArray⟩
def nE (n:Nat):DSt:=⟨List.replicate n z64,[],false,.never,0,0⟩
theorem V5 {n:Nat} (h1:1≤n) (h2:n≤8000):DOk (nE n) :=⟨by simpa [nE] using h1,by simpa [nE] using h2,fun c hc=>by rw [List.eq_of_mem_replicate hc];rfl,fun p hp=>(by cases hp),(by simp [nE])⟩
theorem Y7 (n:Nat):bG (flat (List.replicate n z64))=List.replicate (64*n) [.pv (.int .u8 0)]:=by
 have:flat (List.replicate n z64)=List.replicate (64*n) 0:=by
  induction n with
  | zero=>rfl
  | succ n ih =>
   rw [List.replicate_succ,sN,ih];show List.replicate 64 0++List.replicate (64*n) 0=_;rw [List.replicate_append_replicate];congr 1;omega
 rw [this,bG,List.map_replicate];rfl
abbrev ZE (n:Nat):aA:=[(1000,⟨0,4,80,[[.osl 1001 0 0 (64*n),.osl 1002 0 0 0,bv false,.pv .nilp]]⟩),(1001,⟨0,1,5,List.replicate (64*n) [.pv (.int .u8 0)]⟩),(1002,⟨0,3,103,[]⟩),(1003,⟨0,3,100,[]⟩)]
theorem VD (n:Nat):ZE n=aY (nE n):=by simp only [aY,nE,lB,Y7,List.length_replicate,TP,jQ,List.length_nil,List.map_nil]
theorem RV (n:Nat) (h1:1≤n) (h2:n≤8000):aL Tryz.prog 13 [iv (n:Int)] [] (fun r H'=>r=.ref 1000 0 0 0∧H'=aY (nE n)):=by
 have hw:IntKind.i64.wrap ((n:Int)*64)=((64*n:Nat):Int):=by rw [jS (by omega) (by omega)];omega
 rw [← VD];refine Bd func13 rfl ntmps13<|Sr<|Dd aS<|Zz<|Sq<|Sq ?_;refine dL (t:=8) (n:=7) (X:=false) ?_ ?_
 ·all_goals refine Dd aF ?_
  all_goals refine Dd dZ<|Dm ?_
  all_goals refine Sp 5 (fun h5=>?_) fun h5=>?_
  all_goals try contradiction
  all_goals first|refine Fo<|Fo ?_|refine On aF<|On DU ?_
  all_goals refine Dd iM<|Zz ?_
  all_goals(exact⟨⟨_,rfl,by(simp_all;omega)⟩,rfl,rfl,rfl⟩)
 refine Cn ?_ ?_<;>intro hc1
 ·cases hc1
 refine aG<|Sr<|Dd aF<|Dd (by exact jB rfl rfl rfl hw)<|Dd (by exact lJ (id:=1001) rfl G5 ZM Z6 rfl rfl rfl (by omega) (by omega) (by exact aBR _) (by exact aBR _) (by omega) rfl)<|Dd (P3 ZU)<|Dd (by exact gO (id:=1000) rfl rfl rfl rfl rfl)<|Dd aS<|Zz<|aM ?_;refine bF (H':=ZE n) (.inr rfl) rfl (aH rfl) (Fin.trans (H':=[(1002,⟨0,3,103,[]⟩),(1000,⟨0,4,80,[[.osl 1001 0 0 (64*n),.osl 1002 0 0 0,bv false,.pv .nilp]]⟩),(1001,⟨0,1,5,List.replicate (64*n) [.pv (.int .u8 0)]⟩)]) (r':=.ref 1000 0 0 0) (Fin.of_ent (cA.nz 1002 3 103 rfl rfl ⟨⟨_,rfl,(by exact Nz.same (by(simp;rfl)))⟩,trivial⟩ ⟨⟨_,rfl,rfl,rfl,rfl,(by exact .inr ⟨_,_,rfl,rfl,(by repeat(first|exact trivial|refine⟨(by first|exact Nz.own|exact Nz.same (by first|(simp;done)|(simp;rfl))),?_⟩))⟩)⟩,⟨_,rfl,rfl,rfl,rfl,(by exact .inl ⟨rfl,(by(simp;done))⟩)⟩,trivial⟩ trivial)) (Fin.trans (H':=[(1003,⟨0,3,100,[]⟩),(1002,⟨0,3,103,[]⟩),(1000,⟨0,4,80,[[.osl 1001 0 0 (64*n),.osl 1002 0 0 0,bv false,.pv .nilp]]⟩),(1001,⟨0,1,5,List.replicate (64*n) [.pv (.int .u8 0)]⟩)]) (r':=.ref 1000 0 0 0) (Fin.of_ent (cA.nz 1003 3 100 rfl rfl ⟨⟨_,rfl,(by exact Nz.same (by(simp;rfl)))⟩,trivial⟩ ⟨⟨_,rfl,rfl,rfl,rfl,(by exact .inl ⟨rfl,(by(simp;done))⟩)⟩,⟨_,rfl,rfl,rfl,rfl,(by exact .inl ⟨rfl,(by(simp;exact⟨rfl,rfl⟩))⟩)⟩,⟨_,rfl,rfl,rfl,rfl,(by exact .inl ⟨rfl,(by(simp;done))⟩)⟩,trivial⟩ trivial)) (Fin.wk (by(simp;rfl)) (Hc (by(simp;exact⟨rfl,rfl⟩))<|Hb<|Hb<|Hb<|trivial) trivial))) ?_;exact Qq
end Go.Proofs.YtmkgeogoojcciaaGreatDoor
namespace Go.Abs
section
section
variable {α:Type}
def fZ (κ:KeyKind α) (l:List (α×AV×Nat)):List (List AV):=l.map fun p=>[.pv (κ.pv p.1),p.2.1,.pv (.int .i64 (p.2.2:Int))]
def H6 (l:List (α×AV×Nat)):List (α×AV):=l.map fun p=>(p.1,p.2.1)
theorem vS (κ:KeyKind α) (l:List (α×AV×Nat)):(fZ κ l).length=l.length:=by simp [fZ]
theorem DV {κ:KeyKind α} {l:List (α×AV×Nat)} {i:Nat} {r:List AV}:(fZ κ l)[i]?=some r↔∃ p,l[i]?=some p∧r=[.pv (κ.pv p.1),p.2.1,.pv (.int .i64 (p.2.2:Int))]:=by
 rw [fZ,aB0];cases l[i]? with
 | none=>simp
 | some p=>simp [eq_comm]
structure GMapAt (w:World) (I:Nat→Prop) (ι:cN) (H:aA) (κ:KeyKind α) (l:List (α×AV×Nat)) (c:Nat) (es:Array MapEntry):Prop where
 size:es.size=l.length
 rel:∀ (i:Nat) (p:α×AV×Nat),l[i]?=some p→∃ e,es[i]?=some e∧e.born=p.2.2∧e.key=κ.val p.1∧VRel w I ι H e.val p.2.1
 lt:∀ (i:Nat) (e:MapEntry),es[i]?=some e→e.born < c
 inc:∀ (i j:Nat) (e e':MapEntry),i < j→es[i]?=some e→es[j]?=some e'→e.born < e'.born
theorem nN {w:World} {I:Nat→Prop} {ι:cN} {H:aA} {id b:Nat} {ob:Ob} {κ:KeyKind α} {l:List (α×AV×Nat)} (h:eK w I ι H id ob) (hz:ob.sz=0) (hι:ι id=some (b,0)) (hrows:ob.rows=fZ κ l) :
  ∃ es,w.heap[b]?=some (.map es ob.ty)∧¬ I b∧GMapAt w I ι H κ l ob.ty es:=by
 obtain ⟨_,b',es,e1,e2,e3,e4,e5,e6,e7⟩:=h.map hz hι;rw [hι] at e1;cases e1;refine⟨es,e2,e3,⟨by rw [e4,hrows,vS],fun i p hp=>?_,e5,e6⟩⟩;obtain ⟨e,k,a,n,q1,q2,q3,q4,q5⟩:=e7 i _ (by rw [hrows];exact DV.2 ⟨p,hp,rfl⟩);cases q2;exact⟨e,q1,by injection q5.int_inv with _ hh;omega,κ.rel _ _ _ _ q3.pv_inv,q4⟩
theorem Rel.gremap {I:Nat→Prop} {ι:cN} {H H':aA} {w:World} {id b c:Nat} {ob ob':Ob} {κ:KeyKind α} {l:List (α×AV×Nat)} {es0 es':Array MapEntry} {c0:Nat} (hr:Rel I ι H w) (hH:H.get id=some ob) (hι:ι id=some (b,0)) (hz:ob.sz=0) (hb:w.heap[b]?=some (.map es0 c0)) (hg:ob'.g=ob.g) (hz':ob'.sz=0) (hty:ob'.ty=c) (hrows:ob'.rows=fZ κ l)
  (hm:GMapAt w I ι H κ l c es') (h1:H'.get id=some ob') (h2:∀ j,j≠id→H'.get j=H.get j):Rel I ι H' (World.setObj w b (.map es' c))∧Step I ι H w I ι H' (World.setObj w b (.map es' c)):=by
 refine hr.rewrite hH hι hz hb rfl rfl hg hz' (fun _ hs1 hI hmono=>?_) h1 h2;refine .inr (.inl ⟨hz',b,es',hι,by rw [hty];exact hs1,hI,by rw [hm.size,hrows,vS],fun i e hi=>by rw [hty];exact hm.lt i e hi,hm.inc,fun i r hr'=>?_⟩);rw [hrows] at hr';obtain ⟨p,hp,rfl⟩:=DV.1 hr';obtain ⟨e,q1,q2,q3,q4⟩:=hm.rel i p hp;exact⟨e,_,_,_,q1,rfl,by rw [q3];exact .pv (κ.rep _ _ p.1),hmono _ _ q4,by rw [q2];exact .pv (.int _ _)⟩
variable [DecidableEq α]
def vT:List (α×AV×Nat)→α→AV→Nat→List (α×AV×Nat)
 | [],k,v,c=>[(k,v,c)]
 | (k',a,n)::r,k,v,c=>if k'=k then(k,v,n)::r else(k',a,n)::vT r k v c
def vX:List (α×AV×Nat)→α→List (α×AV×Nat)
 | [],_=>[]
 | (k',a,n)::r,k=>if k'=k then r else(k',a,n)::vX r k
def BC (l:List (α×AV×Nat)) (k:α) (c:Nat):Nat:=if(mU (H6 l) k).isSome then c else c+1
theorem H8 {w:World} {I:Nat→Prop} {ι:cN} {H:aA} (κ:KeyKind α) (k:α):∀ (l:List (α×AV×Nat)) (es:List MapEntry) (i:Nat),es.length=l.length→(∀ (i:Nat) (p:α×AV×Nat),l[i]?=some p→∃ e,es[i]?=some e∧e.key=κ.val p.1∧VRel w I ι H e.val p.2.1) →
  (Instr.findNow κ.d (κ.val k) es i=some none∧mU (H6 l) k=none∧(∀ v c,vT l k v c=l++[(k,v,c)])∧vX l k=l) ∨
  ∃ j e a n,Instr.findNow κ.d (κ.val k) es i=some (some (i+j,e.val))∧es[j]?=some e∧e.key=κ.val k∧mU (H6 l) k=some a∧VRel w I ι H e.val a∧l[j]?=some (k,a,n)∧(∀ v c,vT l k v c=l.set j (k,v,n))∧vX l k=l.eraseIdx j
 | [],[],i,_,_=>.inl ⟨rfl,rfl,fun _ _=>rfl,rfl⟩
 | (k',a,n)::l,e::es,i,hl,hr=>by
  obtain ⟨e0,z1,z2,z3⟩:=hr 0 (k',a,n) rfl;cases z1;obtain ⟨r,hr1,hiff⟩:=MapKept.sameNow_of_keys (κ.is k) (show MapKept.IsKey κ.d e.key by rw [z2];exact κ.is k');by_cases hk:k'=k
  ·subst hk;have hrt:r=true:=hiff.2 z2.symm;subst hrt;exact .inr ⟨0,e,a,n,by simp [Instr.findNow,hr1],rfl,z2,by simp [mU,H6],z3,rfl,fun v c=>by simp [vT],by simp [vX]⟩
  have hrf:r=false:=by
   cases r with
   | false=>rfl
   | true=>exact absurd (κ.inj _ _ ((hiff.1 rfl).trans z2)).symm hk
  subst hrf;rcases H8 κ k l es (i+1) (by simpa using hl) (fun i p hp=>hr (i+1) p hp)with⟨h1,h2,h3,h4⟩|⟨j,e',a',n',h1,h2,h3,h4,h5,h6,h7,h8⟩
  ·exact .inl ⟨by simp [Instr.findNow,hr1,h1],by simpa [mU,H6,hk] using h2,fun v c=>by simp [vT,hk,h3],by simp [vX,hk,h4]⟩
  exact .inr ⟨j+1,e',a',n',by simp [Instr.findNow,hr1,h1];omega,by simpa using h2,h3,by simpa [mU,H6,hk] using h4,h5,by simpa using h6,fun v c=>by simp [vT,hk,h7],by simp [vX,hk,h8]⟩
section
variable {P:Program} {N:Nat} {o:Oper} {E:bH} {H:aA} {T kt et:TypeId} {x y z:Operand} {κ:KeyKind α} {l:List (α×AV×Nat)} {id g:Nat} {ob:Ob} {k:α}
theorem vU {w:World} {I:Nat→Prop} {ι:cN} {c:Nat} {es:Array MapEntry} (h:GMapAt w I ι H κ l c es) (k:α) :
  (Instr.findNow κ.d (κ.val k) es.toList 0=some none∧mU (H6 l) k=none∧(∀ v c,vT l k v c=l++[(k,v,c)])∧vX l k=l) ∨
  ∃ j e a n,Instr.findNow κ.d (κ.val k) es.toList 0=some (some (0+j,e.val))∧es.toList[j]?=some e∧e.key=κ.val k∧mU (H6 l) k=some a∧VRel w I ι H e.val a∧l[j]?=some (k,a,n)∧(∀ v c,vT l k v c=l.set j (k,v,n))∧vX l k=l.eraseIdx j :=
 H8 κ k l es.toList 0 (by simpa using h.size) (fun i p hp=>let ⟨e,q1,_,q3⟩:=h.rel i p hp;⟨e,by simpa using q1,q3⟩)
theorem SI {zv:Value} {v0:AV} (ho:o.op=.lookup T x y false) (hT:P.underlying T=some (.map kt et)) (hd:P.underlying kt=some κ.d) (hx:aP E x=some (.mp id g)) (hH:H.get id=some ob) (hg:ob.g=g)
  (hrows:ob.rows=fZ κ l) (hy:aP E y=some (.pv (κ.pv k))) (hz:∀ w,(zeroValue et).run P w=.ok zv w) (hv:ZV zv v0):cD P N o E H ((mU (H6 l) k).getD v0) H :=
 .of_run fun a w I ι hr he=>by
  obtain ⟨hsz,b,hι,hvx⟩:=rC (aD he hx) hH hg;obtain ⟨es,e2,e3,e4⟩:=nN (hr.obj id ob hH) hsz hι hrows;have hvy:=uZ (aD he hy);rcases vU e4 k with⟨h1,h2,h3,_⟩|⟨j,e,a',n,h1,h2,h3,h4,h5,_⟩
  ·refine⟨zv,?_,by rw [h2];exact hv.rel⟩;simp only [execOp,ho,hvx,hvy];simp [Instr.lookup,run_underlying hT,MapKept.run_getObj_map e2,MapKept.run_checkKey hd (κ.is k),MapKept.run_findKey hd h1,hz]
  refine⟨e.val,?_,by rw [h4];exact h5⟩;simp only [execOp,ho,hvx,hvy];simp [Instr.lookup,run_underlying hT,MapKept.run_getObj_map e2,MapKept.run_checkKey hd (κ.is k),MapKept.run_findKey hd h1]
theorem H9 {zv:Value} {v0:AV} (ho:o.op=.lookup T x y true) (hT:P.underlying T=some (.map kt et)) (hd:P.underlying kt=some κ.d) (hx:aP E x=some (.mp id g)) (hH:H.get id=some ob) (hg:ob.g=g)
  (hrows:ob.rows=fZ κ l) (hy:aP E y=some (.pv (κ.pv k))) (hz:∀ w,(zeroValue et).run P w=.ok zv w) (hv:ZV zv v0):cD P N o E H (.tup [(mU (H6 l) k).getD v0,.pv (.bool (mU (H6 l) k).isSome)]) H :=
 .of_run fun a w I ι hr he=>by
  obtain ⟨hsz,b,hι,hvx⟩:=rC (aD he hx) hH hg;obtain ⟨es,e2,e3,e4⟩:=nN (hr.obj id ob hH) hsz hι hrows;have hvy:=uZ (aD he hy);have two:∀ {u:Value} {a:AV} {c:Bool},VRel w I ι H u a→VRel w I ι H (.tuple #[u,.bool c]) (.tup [a,.pv (.bool c)]):=fun {u a c} hu=>.tup rfl (fun i v q hv hq=>by
   match i with
   | 0=>simp at hv hq;subst hv hq;exact hu
   | 1=>simp at hv hq;subst hv hq;exact .pv (.bool _)
   | i+2=>simp at hv)
  rcases vU e4 k with⟨h1,h2,h3,_⟩|⟨j,e,a',n,h1,h2,h3,h4,h5,_⟩
  ·refine⟨.tuple #[zv,.bool false],?_,by rw [h2];exact two hv.rel⟩;simp only [execOp,ho,hvx,hvy];simp [Instr.lookup,run_underlying hT,MapKept.run_getObj_map e2,MapKept.run_checkKey hd (κ.is k),MapKept.run_findKey hd h1,hz]
  refine⟨.tuple #[e.val,.bool true],?_,by rw [h4];exact two h5⟩;simp only [execOp,ho,hvx,hvy];simp [Instr.lookup,run_underlying hT,MapKept.run_getObj_map e2,MapKept.run_checkKey hd (κ.is k),MapKept.run_findKey hd h1]
theorem hU {v:AV} {c c':Nat} {l':List (α×AV×Nat)} (ho:o.op=.mapUpdate T x y z∨o.op=.insert T x y z) (hT:P.underlying T=some (.map kt et)) (hd:P.underlying kt=some κ.d) (hx:aP E x=some (.mp id g)) (hH:H.get id=some ob) (hg:ob.g=g)
  (hty:ob.ty=c) (hrows:ob.rows=fZ κ l) (hy:aP E y=some (.pv (κ.pv k))) (hz:aP E z=some v) (hl:vT l k v c=l') (hc:BC l k c=c'):cD P N o E H .any ((id,⟨g,ob.sz,c',fZ κ l'⟩)::H):=by
 intro a w I ι _ _ hr he K Q hkk;obtain ⟨hsz,b,hι,hvx⟩:=rC (aD he hx) hH hg;obtain ⟨es,e2,e3,e4⟩:=nN (hr.obj id ob hH) hsz hι hrows;rw [hty] at e2 e4;have hvy:=uZ (aD he hy);have hvz:=aD he hz;subst hl hc hg;have fin:∀ es',(Instr.mapUpdate T (a.eval x) (a.eval y) (a.eval z)).run P w=.ok () (World.setObj w b (.map es' (BC l k c)))→GMapAt w I ι H κ (vT l k v c) (BC l k c) es'→o.wpW P a w K Q:=by
  intro es' hrun hm;obtain ⟨k2,k3⟩:=Rel.gremap (H':=(id,⟨ob.g,ob.sz,BC l k c,fZ κ (vT l k v c)⟩)::H) (ob':=⟨ob.g,ob.sz,BC l k c,fZ κ (vT l k v c)⟩) hr hH hι hsz e2 rfl hsz rfl rfl hm (get_cons_same _ _ _) (fun j hj=>get_cons_other _ _ hj);unfold Oper.wpW execOp;rcases ho with ho|ho
  ·simp only [ho,Sem.run_bind,hrun,Result.andThen_ok,Sem.run_pure];exact hkk _ _ I ι _ _ ⟨rfl,rfl⟩ (.any _) k2 k3
  simp only [ho,Sem.run_bind,hrun,Result.andThen_ok,Sem.run_pure];exact hkk _ _ I ι _ _ ⟨rfl,rfl⟩ (.any _) k2 k3
 rcases vU e4 k with⟨h1,h2,h3,_⟩|⟨j,e,a',n,h1,h2,h3,h4,h5,h6,h7,h8⟩
 ·have hcl:BC l k c=c+1:=by rw [BC,h2];rfl
  refine fin (es.push {key:=κ.val k,val:=a.eval z,born:=c}) ?_ ⟨?_,?_,?_,?_⟩
  ·simp [Instr.mapUpdate,hvx,hvy,run_underlying hT,MapKept.run_getObj_map e2,MapKept.run_checkKey hd (κ.is k),MapKept.run_findKey hd h1,MapKept.run_setObj_map _ e2,World.setObj,hcl]
  ·rw [h3];simp [e4.size]
  ·intro i p hp;rw [h3] at hp;by_cases hi:i < l.length
   ·rw [List.getElem?_append_left hi] at hp;obtain ⟨e,q1,q2⟩:=e4.rel i p hp;exact⟨e,by rw [Array.getElem?_push,aBE (by rw [e4.size];omega)];exact q1,q2⟩
   rw [List.getElem?_append_right (by omega)] at hp;cases hil:i - l.length with
   | zero =>
    rw [hil] at hp;cases hp;exact⟨_,by rw [Array.getElem?_push,aBF (by rw [e4.size];omega)],rfl,rfl,hvz⟩
   | succ m=>rw [hil] at hp;simp at hp
  ·intro i e hi;rw [Array.getElem?_push] at hi
   split at hi
   ·cases hi;show c < _;omega
   have:=e4.lt i e hi;omega
  intro i j' e e' hij hi hj;have hjs:j' < es.size+1:=by
   have:=(Array.getElem?_eq_some_iff.1 hj).1
   simpa using this
  rw [Array.getElem?_push,aBE (by omega)] at hi;rw [Array.getElem?_push] at hj
  split at hj
  ·cases hj;exact e4.lt i e hi
  exact e4.inc i j' e e' hij hi hj
 have hj:es[j]?=some e:=by simpa using h2
 have hjl:j < es.size:=(Array.getElem?_eq_some_iff.1 hj).1;have hcl:BC l k c=c:=by rw [BC,h4];rfl
 have hbe:e.born=n:=by
  obtain ⟨e',q1,q2,_⟩:=e4.rel j _ h6;rw [hj] at q1;cases q1;exact q2
 have hmod:∀ (i:Nat) (x:MapEntry),(es.modify j fun e=>{e with key:=κ.val k,val:=a.eval z})[i]?=some x→∃ y,es[i]?=some y∧y.born=x.born:=by
  intro i x hx;rw [Array.getElem?_modify] at hx
  split at hx
  ·next hij =>
   subst hij;rw [hj] at hx;cases hx;exact⟨e,hj,rfl⟩
  exact⟨x,hx,rfl⟩
 refine fin (es.modify j fun e=>{e with key:=κ.val k,val:=a.eval z}) ?_ ⟨?_,?_,?_,?_⟩
 ·simp [Instr.mapUpdate,hvx,hvy,run_underlying hT,MapKept.run_getObj_map e2,MapKept.run_checkKey hd (κ.is k),MapKept.run_findKey hd h1,hj,h3,MapKept.run_keyThatStays (κ.is k),MapKept.run_setObj_map _ e2,World.setObj,hcl]
 ·rw [h7];simp [e4.size]
 ·intro i p hp;rw [h7] at hp;by_cases e0:i=j
  ·subst e0;rw [List.getElem?_set_self (by rw [← e4.size];exact hjl)] at hp;cases hp;exact⟨{e with key:=κ.val k,val:=a.eval z},by rw [Array.getElem?_modify,aBF rfl,hj];rfl,hbe,rfl,hvz⟩
  rw [List.getElem?_set_ne (Ne.symm e0)] at hp;obtain ⟨e',q1,q2⟩:=e4.rel i p hp;exact⟨e',by rw [Array.getElem?_modify,aBE (Ne.symm e0)];exact q1,q2⟩
 ·intro i x hx;obtain ⟨y,y1,y2⟩:=hmod i x hx;rw [← y2,hcl];exact e4.lt i y y1
 intro i i' x x' hii hx hx';obtain ⟨y,y1,y2⟩:=hmod i x hx;obtain ⟨y',y3,y4⟩:=hmod i' x' hx';rw [← y2,← y4];exact e4.inc i i' y y' hii y1 y3
theorem OZ {β:Type} {l:List β} {j i:Nat}:(l.eraseIdx j)[i]?=if i < j then l[i]? else l[i+1]?:=List.getElem?_eraseIdx
theorem BD {c:Nat} {l':List (α×AV×Nat)} (ho:o.op=.call {callee:=.builtin .delete,args:=#[x,y],argTypes:=#[T,kt]}) (hT:P.underlying T=some (.map kt et)) (hd:P.underlying kt=some κ.d) (hx:aP E x=some (.mp id g)) (hH:H.get id=some ob) (hg:ob.g=g)
  (hty:ob.ty=c) (hrows:ob.rows=fZ κ l) (hy:aP E y=some (.pv (κ.pv k))) (hl:vX l k=l'):cD P N o E H .any ((id,⟨g,ob.sz,c,fZ κ l'⟩)::H):=by
 intro a w I ι _ _ hr he K Q hkk;obtain ⟨hsz,b,hι,hvx⟩:=rC (aD he hx) hH hg;obtain ⟨es,e2,e3,e4⟩:=nN (hr.obj id ob hH) hsz hι hrows;rw [hty] at e2 e4;have hvy:=uZ (aD he hy);subst hl hg;have fin:∀ es',(execOp a.eval o).run P w=.ok (.value (.tuple #[])) (World.setObj w b (.map es' c))→GMapAt w I ι H κ (vX l k) c es'→o.wpW P a w K Q:=by
  intro es' hrun hm;obtain ⟨k2,k3⟩:=Rel.gremap (H':=(id,⟨ob.g,ob.sz,c,fZ κ (vX l k)⟩)::H) (ob':=⟨ob.g,ob.sz,c,fZ κ (vX l k)⟩) hr hH hι hsz e2 rfl hsz rfl rfl hm (get_cons_same _ _ _) (fun j hj=>get_cons_other _ _ hj);unfold Oper.wpW;rw [hrun];exact hkk _ _ I ι _ _ ⟨rfl,rfl⟩ (.any _) k2 k3
 rcases vU e4 k with⟨h1,h2,h3,h4⟩|⟨j,e,a',n,h1,h2,h3,h4,h5,h6,h7,h8⟩
 ·refine fin es ?_ (by rw [h4];exact e4);unfold execOp;simp only [ho,resolve,invoke,builtin,Sem.run_bind,Sem.run_pure,Result.andThen_ok,List.map_toArray,List.map_cons,List.map_nil,hvx,hvy];simp [Builtin.delete_,run_underlying hT,MapKept.run_getObj_map e2,MapKept.run_checkKey hd (κ.is k),MapKept.run_findKey hd h1,MapKept.run_setObj_map _ e2,World.setObj]
 have hj:es[j]?=some e:=by simpa using h2
 have hjl:j < es.size:=(Array.getElem?_eq_some_iff.1 hj).1;have her:es.eraseIdxIfInBounds j=es.eraseIdx j hjl:=by rw [Array.eraseIdxIfInBounds,dif_pos hjl]
 have hget:∀ i:Nat,(es.eraseIdx j hjl)[i]?=if i < j then es[i]? else es[i+1]?:=fun i=>Array.getElem?_eraseIdx ..
 refine fin (es.eraseIdx j hjl) ?_ ⟨?_,?_,?_,?_⟩
 ·unfold execOp;simp only [ho,resolve,invoke,builtin,Sem.run_bind,Sem.run_pure,Result.andThen_ok,List.map_toArray,List.map_cons,List.map_nil,hvx,hvy];simp [Builtin.delete_,run_underlying hT,MapKept.run_getObj_map e2,MapKept.run_checkKey hd (κ.is k),MapKept.run_findKey hd h1,MapKept.run_setObj_map _ e2,World.setObj,her]
 ·rw [h8,List.length_eraseIdx,aBF (by rw [← e4.size];exact hjl),← e4.size];simp
 ·intro i p hp;rw [h8,OZ] at hp;rw [hget]
  split at hp
  ·next hi=>rw [aBF hi];exact e4.rel i p hp
  next hi=>rw [aBE hi];exact e4.rel (i+1) p hp
 ·intro i x hx;rw [hget] at hx
  split at hx
  ·exact e4.lt _ x hx
  exact e4.lt _ x hx
 intro i i' x x' hii hx hx';rw [hget] at hx hx'
 split at hx<;>split at hx'
 ·exact e4.inc _ _ x x' hii hx hx'
 ·exact e4.inc _ _ x x' (by omega) hx hx'
 ·omega
 exact e4.inc _ _ x x' (by omega) hx hx'
end
end
section
variable {α:Type} {P:Program} {N:Nat} {o:Oper} {E:bH} {H:aA} {T kt et:TypeId} {x y z:Operand} {κ:KeyKind α} {l:List (α×AV×Nat)} {id g q gq since last c:Nat} {ob oq:Ob} {seen:List Nat}
theorem yH (ho:o.op=.call {callee:=.builtin .len,args:=#[x],argTypes:=#[T]}) (hT:P.underlying T=some (.map kt et)) (hx:aP E x=some (.mp id g)) (hH:H.get id=some ob) (hg:ob.g=g) (hrows:ob.rows=fZ κ l) :
  cD P N o E H (.pv (.int .i64 l.length)) H :=
 .of_run fun a w I ι hr he=>by
  obtain ⟨hsz,b,hι,hvx⟩:=rC (aD he hx) hH hg;obtain ⟨es,e2,e3,e4⟩:=nN (hr.obj id ob hH) hsz hι hrows;refine⟨.int .i64 l.length,?_,.pv (.int _ _)⟩;simp [execOp,ho,resolve,invoke,builtin,hvx,Builtin.len_,run_underlying hT,MapKept.run_getObj_map e2,goInt,e4.size]
theorem zI (ho:o.op=.range T x) (hT:P.underlying T=some (.map kt et)) (hx:aP E x=some (.mp id g)) (hH:H.get id=some ob) (hg:ob.g=g) (hrows:ob.rows=fZ κ l) (hty:ob.ty=c) (hq:H.get q=none) :
  cD P N o E H (.it q 0) ((q,⟨0,0,0,eM (.mp id g) c c []⟩)::H):=by
 intro a w I ι _ _ hr he K Q hk;have hvx0:=aD he hx;obtain ⟨hsz,b,hι,hvx⟩:=rC hvx0 hH hg;obtain ⟨es,e2,e3,e4⟩:=nN (hr.obj id ob hH) hsz hι hrows;rw [hty] at e2;obtain ⟨k2,k3⟩:=Rel.placeX (H':=(q,⟨0,0,0,eM (.mp id g) c c []⟩)::H) (id:=q) (cap:=1) (ob':=⟨0,0,0,eM (.mp id g) c c []⟩) (x:=.mapIter (some b) c #[] c) (w':=w.alloc (.mapIter (some b) c #[] c)) hr rfl rfl rfl rfl
  (fun o ho=>by rw [hq] at ho;cases ho) (fun hnew hI hmono=>.inr (.inr (.inl ⟨rfl,w.heap.size,some b,c,#[],c,by simp,hnew,hI,rfl,⟨_,_,_,rfl,by rw [← hvx];exact hmono _ _ hvx0,.pv (.int _ _),.pv (.int _ _)⟩,fun i r hr'=>by simp [eM] at hr'⟩)))
  (get_cons_same _ _ _) (fun j hj=>get_cons_other _ _ hj)
 have hrun:(execOp a.eval o).run P w=.ok (.value (.pointer (some ⟨w.heap.size,0,none⟩))) (w.alloc (.mapIter (some b) c #[] c)):=by
  simp only [execOp,ho,hvx];simp [Instr.range,run_underlying hT,MapKept.run_getObj_map e2]
 unfold Oper.wpW;rw [hrun];exact hk _ _ I _ _ _ ⟨rfl,rfl⟩ (.it ⟨0,0,0,eM (.mp id g) c c []⟩ (get_cons_same _ _ _) (aBM _) rfl fun _=>⟨rfl,w.heap.size,by simp,rfl⟩) k2 k3
theorem SF {w:World} {I:Nat→Prop} {ι:cN} {es:Array MapEntry} (h:GMapAt w I ι H κ l c es) :
  ((leftOf es seen.toArray).size=0→∀ p∈l,p.2.2∈seen)∧∀ e∈(leftOf es seen.toArray).toList,∃ (i:Nat) (p:α×AV×Nat),l[i]?=some p∧p.2.2∉seen∧e.born=p.2.2∧e.key=κ.val p.1∧VRel w I ι H e.val p.2.1:=by
 constructor
 ·intro h0 p hp;obtain ⟨i,hi⟩:=aB1.1 hp;obtain ⟨e,q1,q2,_⟩:=h.rel i p hi;have h1:leftOf es seen.toArray=#[]:=Array.eq_empty_of_size_eq_zero h0;rw [leftOf,Array.filter_eq_empty_iff] at h1;have:=h1 e (Array.mem_of_getElem? q1);simp only [Bool.not_eq_true',Bool.not_eq_false,List.contains_toArray,List.contains_eq_mem,aBN] at this;rw [← q2];simpa using this
 intro e he;simp only [leftOf,Array.toList_filter,List.mem_filter,Bool.not_eq_true',List.contains_toArray,List.contains_eq_mem,aBO] at he;obtain ⟨h1,h2⟩:=he;obtain ⟨i,hi⟩:=aB1.1 h1;have hi':es[i]?=some e:=by simpa using hi
 have hlt:i < l.length:=by rw [← h.size];exact(Array.getElem?_eq_some_iff.1 hi').1
 obtain ⟨e',z1,z2,z3⟩:=h.rel i l[i] (aBL hlt);rw [hi'] at z1;cases z1;exact⟨i,l[i],aBL hlt,by rw [← z2];exact h2,z2,z3⟩
theorem FV (ho:o.op=.next x false) (hx:aP E x=some (.it q gq)) (hQ:H.get q=some oq) (hgq:oq.g=gq) (hrq:oq.rows=eM (.mp id g) since last seen) (hH:H.get id=some ob) (hg:ob.g=g) (hrows:ob.rows=fZ κ l) (hty:ob.ty=c)
  (hold:c≤since) (hlast:since≤last) :
  P4 P N o E H (fun r H'=>(r=.tup [.pv (.bool false)]∧H'=H∧∀ p∈l,p.2.2∈seen)∨∃ (i:Nat) (p:α×AV×Nat),l[i]?=some p∧p.2.2∉seen∧r=.tup [.pv (.bool true),.pv (κ.pv p.1),p.2.1]∧H'=(q,⟨gq,0,oq.ty,eM (.mp id g) since c (seen++[p.2.2])⟩)::H):=by
 intro a w I ι _ _ hr he K Q hk;obtain ⟨hsz,b,hι,hvx⟩:=KN (aD he hx) hQ hgq;obtain ⟨bm,hιm,hmz,hbq,hI⟩:=MK (hr.obj q oq hQ) hsz hι hrq hH hg;obtain ⟨es,e2,e3,e4⟩:=nN (hr.obj id ob hH) hmz hιm hrows;rw [hty] at e2 e4;have hold':∀ x∈es.toList,x.born < since:=fun x hx=>by
  obtain ⟨i,hi⟩:=aB1.1 hx;have:=e4.lt i x (by simpa using hi);omega
 obtain ⟨l1,l2⟩:=SF (seen:=seen) e4;rcases Q7 (P:=P) w o.type b bm since last seen.toArray es c hbq e2 hold' hlast with⟨h0,hrun⟩|⟨e,he',d,hrun⟩
 ·unfold Oper.wpW execOp;simp only [ho,hvx,Sem.run_bind,hrun,Result.andThen_ok,Sem.run_pure];refine hk _ _ I ι _ _ (.inl ⟨rfl,rfl,l1 h0⟩) (.tup rfl (fun i v c hv hc=>?_)) hr (Step.refl _ _ _ _)
  match i with
  | 0=>simp at hv hc;subst hv hc;exact .pv (.bool _)
  | i+1=>simp at hv
 obtain ⟨i,p,hip,hni,hbn,hkey,hval⟩:=l2 e he';obtain ⟨r1,r2⟩:=hr.drawn (w':={w with drawn:=d}) rfl rfl rfl rfl;have hq2:aA.get ((q,⟨gq,0,oq.ty,eM (.mp id g) since c (seen++[p.2.2])⟩)::H) q=some ⟨gq,0,oq.ty,eM (.mp id g) since c (seen++[p.2.2])⟩:=get_cons_same _ _ _;have hmp:VRel {w with drawn:=d} I ι H (.map (some bm)) (.mp id g):=.mp ob hH (by omega) rfl fun _=>⟨hmz,bm,hιm,rfl⟩;obtain ⟨k2,k3⟩:=Rel.rewrite (H':=(q,⟨gq,0,oq.ty,eM (.mp id g) since c (seen++[p.2.2])⟩)::H) (ob':=⟨gq,0,oq.ty,eM (.mp id g) since c (seen++[p.2.2])⟩) (x:=.mapIter (some bm) since (seen.toArray.push e.born) c) r1 hQ hι hsz hbq rfl rfl hgq.symm rfl
  (fun _ hs1 hI' hmono=>.inr (.inr (.inl ⟨rfl,b,some bm,since,seen.toArray.push e.born,c,hι,hs1,hI',by simp [eM],⟨_,_,_,rfl,hmono _ _ hmp,.pv (.int _ _),.pv (.int _ _)⟩,fun j r hj=>by
   simp only [eM,List.getElem?_cons_succ,aB0] at hj;obtain ⟨n,hn,rfl⟩:=Option.map_eq_some_iff.1 hj;refine⟨n,_,?_,rfl,.pv (.int _ _)⟩;rw [hbn]
   simpa using hn⟩))) hq2 (fun j hj=>get_cons_other _ _ hj)
 unfold Oper.wpW execOp;simp only [ho,hvx,Sem.run_bind,hrun,Result.andThen_ok,Sem.run_pure];refine hk _ _ I ι _ _ (.inr ⟨i,p,hip,hni,rfl,rfl⟩) (.tup rfl (fun j v c hv hc=>?_)) k2 (r2.trans k3)
 match j with
 | 0=>simp at hv hc;subst hv hc;exact .pv (.bool _)
 | 1=>simp at hv hc;subst hv hc;rw [hkey];exact .pv (κ.rep _ _ _)
 | 2=>simp at hv hc;subst hv hc;exact(hval.mono hr r2).mono r1 k3
 | j+3=>simp at hv
theorem zJ {i:Nat} {p:α×AV×Nat} (ho:o.op=.entry x) (hx:aP E x=some (.it q gq)) (hQ:H.get q=some oq) (hgq:oq.g=gq) (hrq:oq.rows=eM (.mp id g) since c (seen++[p.2.2])) (hH:H.get id=some ob) (hg:ob.g=g) (hrows:ob.rows=fZ κ l) (hty:ob.ty=c)
  (hip:l[i]?=some p):cD P N o E H (.tup [.pv (κ.pv p.1),p.2.1]) H :=
 .of_run fun a w I ι hr he=>by
  obtain ⟨hsz,b,hι,hvx⟩:=KN (aD he hx) hQ hgq;obtain ⟨bm,hιm,hmz,hbq,hI⟩:=MK (hr.obj q oq hQ) hsz hι hrq hH hg;obtain ⟨es,e2,e3,e4⟩:=nN (hr.obj id ob hH) hmz hιm hrows;rw [hty] at e2;obtain ⟨e,q1,q2,q3,q4⟩:=e4.rel i p hip;have hf:es.find? (·.born == p.2.2)=some e:=by
   rw [← Array.find?_toList,← q2];refine find_born e es.toList ?_ (by simpa using Array.mem_of_getElem? q1);refine List.pairwise_iff_getElem.2 fun j k hj hk hjk=>?_;have hk':k < es.size:=by simpa using hk
   have z:=e4.inc j k _ _ hjk (Array.getElem?_eq_getElem (by omega)) (Array.getElem?_eq_getElem hk');simp only [List.getElem_map,Array.getElem_toList];omega
  refine⟨.tuple #[e.key,e.val],?_,.tup rfl (fun j v c hv hc=>?_)⟩
  ·simp only [execOp,ho,hvx];simp [Instr.entry,getObj,Sem.run,hbq,e2,hf]
  match j with
  | 0=>simp at hv hc;subst hv hc;rw [q3];exact .pv (κ.rep _ _ _)
  | 1=>simp at hv hc;subst hv hc;exact q4
  | j+2=>simp at hv
end
end
end Go.Abs
section
namespace Go.Abs
section
variable {P:Program} {N:Nat} {o:Oper} {E:bH} {H:aA} {t t':TypeId} {x:Operand}
abbrev X7 (b:Bool):PV:=bif b then OY else KG
theorem vF {b:Bool} (ho:o.op=.binOp .neq t x (.const .nilIface) t') (ht:P.underlying t=some (.interface (P.methodsAt t))) (hx:aP E x=some (.pv (X7 b))):cD P N o E H (.pv (.bool b)) H:=by
 cases b
 ·exact J5 ho ht hx
 exact J6 ho ht hx
end
def dP (s:ByteArray):Int:=(rT s).1
def iJ (s:ByteArray):Bool:=match Lib.atoiAll s.data.toList with
 | .ok _=>false
 | _=>true
theorem TK (s:ByteArray):rT s=(dP s,X7 (iJ s)):=by rw [dP,iJ,rT];cases Lib.atoiAll s.data.toList<;>rfl
end Go.Abs
namespace Go.Proofs.YtmkgeogoojcciaaGreatDoor
open Go.Proofs.Tryz
open Go.Abs Go.Lib
theorem zP (s:ByteArray) (hs:s.size < 1099511627776) (H:aA):aL Tryz.prog 82 [sv s] H (fun r H'=>r=.tup [iv (dP s),.pv (X7 (iJ s))]∧H'=H):=by
 have:=WK s hs H
 rwa [TK] at this
def bS (l:List (ByteArray×ByteArray×Nat)):List (ByteArray×AV×Nat):=l.map fun p=>(p.1,sv p.2.1,p.2.2)
abbrev bK (l:List (ByteArray×ByteArray×Nat)) (c:Nat):Ob:=⟨0,0,c,fZ fA (bS l)⟩
abbrev cI (k a n:Nat) (b:Bool):Ob:=⟨0,6,72,[[.ref 1000 0 0 0,iv (k:Int),iv (a:Int),iv (n:Int),.mp 1101 0,bv b]]⟩
abbrev sH (s:DSt) (o:Ob) (m:Ob):aA:=[(1000,⟨0,4,80,[lB s]⟩),(1001,⟨0,1,5,bG (flat s.cells)⟩),(1002,⟨s.gq,3,103,pU s.q⟩),(1003,⟨s.ga,3,100,jQ s.arm⟩),(1100,o),(1101,m)]
theorem aQ (l:List (ByteArray×ByteArray×Nat)) (c:Nat) (H:aA):∀ r∈(bK l c).rows,∀ a∈r,Clo H a:=by intro r hr a ha;obtain ⟨p,hp,rfl⟩:=List.mem_map.1 hr;obtain ⟨q,_,rfl⟩:=List.mem_map.1 hp;simp only [aBS,aBW,or_false] at ha;rcases ha with rfl|rfl|rfl<;>exact .pv _
theorem bI {H:aA} {k a n:Nat} {b:Bool} (h1:(H.get 1000).isSome=true) (h2:(H.get 1101).isSome=true):∀ r∈(cI k a n b).rows,∀ x∈r,Clo H x:=by
 intro r hr x hx;rw [aBJ.1 hr] at hx;simp only [aBS,aBW,or_false] at hx;rcases hx with rfl|rfl|rfl|rfl|rfl|rfl
 ·exact .ref h1
 ·exact .pv _
 ·exact .pv _
 ·exact .pv _
 ·exact .mp h2
 exact .pv _
theorem V3 {f:FuncId} {args:List AV} {s s':DSt} {r0:AV} {o m:Ob} (h:aL Tryz.prog f args (aY s) (fun r H'=>r=r0∧H'=aY s')) (ha:∀ a∈args,Clo (aY s) a):aL Tryz.prog f args (sH s o m) (fun r H'=>r=r0∧H'=sH s' o m) :=(cK h (sH s o m) ⟨rfl,rfl,rfl,rfl,trivial⟩ ha).congrH (fun j=>by
  simp only [sH,aY,aA.get,List.cons_append,List.nil_append];cases e0:Nat.beq 1000 j<;>cases e1:Nat.beq 1001 j<;>cases e2:Nat.beq 1002 j<;>cases e3:Nat.beq 1003 j<;>simp [e0,e1,e2,e3])
theorem rY (s:DSt) (k a n:Nat) (b:Bool) (l:List (ByteArray×ByteArray×Nat)) (c:Nat):bM (sH s (cI k a n b) (bK l c)):=bM.of (fun p hp=>by
 simp only [sH,aBS,aBW,or_false] at hp;rcases hp with rfl|rfl|rfl|rfl|rfl|rfl
 ·exact aE s _ rfl rfl rfl
 ·exact aC _ _
 ·exact aK _ _ _
 ·exact aJ _ _
 ·exact bI rfl rfl
 exact aQ _ _ _)
def iW (place a n:Nat):List UInt8:=gN place (dg a 1++dg n 7)
theorem mX (n:Nat) {w:Nat} (h:n < 10 ^ w) (hw:0 < w):(decDigits n).length≤w:=eA h hw
theorem FT (place a n:Nat) (hp:place < 1000000000000) (ha:a < 10) (hn:n < 1000000000000) (H:aA):aL Tryz.prog 83 [iv (place:Int),.agg [iv (a:Int),iv (n:Int)]] H (fun r H'=>r=sv (ofL (iW place a n))∧H'=H):=by
 refine Pu ?_;have h1:(ofL (dg a 1)).size=1:=by rw [bY,jG (mX a (by omega) (by omega))]
 have h2:(ofL (dg n 7)).size≤28:=by rw [bY];exact rO n 7 hn
 have h3:(dg a 1++dg n 7).length≤48:=by rw [aBH];rw [bY] at h1 h2;omega
 have e1:ofL (dg a 1)++ofL (dg n 7)=ofL (dg a 1++dg n 7):=vK _ _;exact Bd func83 rfl ntmps83<|Sr<|Dd (by exact gO (id:=3) rfl rfl rfl rfl rfl)<|Dd aS<|Zz<|Sq<|bR follows<|Cq aF<|Cq (dV uC)<|Cq (eG aU)<|Cq (by exact aB rfl rfl BZ rfl (oS a 1 (by omega) (by omega) _))<|Cq (dV nV)<|Cq (eG aU)<|Cq (by exact aB rfl rfl BZ rfl (oS n 7 hn (by omega) _))<|Cq (by exact jZ rfl rfl rfl (by omega) e1)<|Cq (by exact aB rfl rfl aA4 rfl (AC place (dg a 1++dg n 7) hp h3 _))<|Cq aS<|dG<|Kr<|aM<|Rt<|Qq
end Go.Proofs.YtmkgeogoojcciaaGreatDoor
end
