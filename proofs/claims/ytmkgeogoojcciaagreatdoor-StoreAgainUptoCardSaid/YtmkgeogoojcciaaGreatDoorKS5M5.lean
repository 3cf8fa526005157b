/-
  Parts of the proof: rules of an abstract program logic, contracts of functions, plain laws. Conditions: each theorem's own.
-/
import Derived.Test.YtmkgeogoojcciaaGreatDoorKS5M4
import Derived.Lib.ItoaLen
import Derived.Lib.Bytealg
import Derived.Lib.Strings
import Derived.Lib.AtoiTie
import Derived.Lib.ItoaMem
import Derived.Below
import Derived.Shelf.Strings.Repeat
import Derived.Shelf.Strconv.ErrVarAll
import Derived.Shelf.Strconv.AtoiAll
import Derived.Shelf.LaysC
import Derived.Ground.NamesProg
import Derived.WideLaws
set_option linter.unusedVariables false
set_option linter.unusedSimpArgs false
set_option maxRecDepth 100000
set_option maxHeartbeats 8000000
namespace Go.Proofs
theorem aAH:type_of% Tryz.call101:=Tryz.call101
theorem AW:type_of% Tryz.call102:=Tryz.call102
theorem aAX:type_of% Tryz.call29:=Tryz.call29
theorem TV:type_of% Tryz.call59:=Tryz.call59
theorem vK:type_of% Tryz.call81:=Tryz.call81
theorem pL:type_of% Tryz.call98:=Tryz.call98
theorem aAE:type_of% Tryz.func147:=Tryz.func147
theorem iR:type_of% Tryz.isAgg77:=Tryz.isAgg77
theorem nK:type_of% Tryz.isAgg78:=Tryz.isAgg78
theorem iQ:type_of% Tryz.isAgg96:=Tryz.isAgg96
theorem ZD:type_of% Tryz.ntmps147:=Tryz.ntmps147
theorem iP:type_of% Tryz.underlying132:=Tryz.underlying132
theorem fC:type_of% Tryz.underlying29:=Tryz.underlying29
theorem O8:type_of% Tryz.underlying78:=Tryz.underlying78
end Go.Proofs
namespace Go.Proofs.YtmkgeogoojcciaaGreatDoor
open Go.Proofs.Tryz
open Go.Abs
theorem jN:∀ (x y:List UInt8),Op.bytesLess x y=decide (x < y)
 | [],[]=>by simp [Op.bytesLess]
 | _::_,[]=>by simp [Op.bytesLess]
 | [],_::_=>by simp [Op.bytesLess]
 | a::x,b::y=>by
  rw [Op.bytesLess,jN x y];simp only [List.cons_lt_cons_iff];by_cases h1:a < b<;>by_cases h2:a=b<;>by_cases h3:x < y<;>simp [h1,h2,h3]
theorem KX (s:ByteArray):sE s s=false:=by unfold sE;rw [jN];exact decide_eq_false (List.lt_irrefl _)
theorem DN {a b:ByteArray} (h1:sE a b=false) (h2:sE b a=false):a=b:=by
 unfold sE at h1 h2;rw [jN] at h1 h2;have e:a.toList=b.toList:=List.le_antisymm (List.not_lt.1 (aAf h2)) (List.not_lt.1 (aAf h1));have:=zM a b;rw [e] at this
 simpa using this.symm
theorem B7 {a b c:ByteArray} (h1:sE a b=true) (h2:sE b c=true):sE a c=true:=by unfold sE at *;rw [jN] at *;exact decide_eq_true (List.lt_trans (aAe h1) (aAe h2))
theorem jJ {l:List ByteArray} {s:ByteArray}:VC l s=true↔s∈l:=by
 unfold VC;rw [List.any_eq_true];constructor
 ·rintro⟨a,h1,h2⟩;rw [← aAe h2];exact h1
 intro h;exact⟨s,h,decide_eq_true rfl⟩
def oG (s:ByteArray):ByteArray:=dN (s.size:Int)++⟨#[58]⟩++s
def aT (l:List ByteArray):List UInt8:=l.flatMap fun s=>(oG s).data.toList
theorem sR {n:Int} (h0 : -9223372036854775808≤n) (h1:n≤9223372036854775807):(dN n).size≤21:=by
 have:=Lib.itoa_length_le n h0 h1;show (Lib.itoa n).toArray.size≤21
 simpa using this
theorem mP (s:ByteArray):(oG s).size=(dN (s.size:Int)).size+1+s.size:=by rw [oG,ByteArray.size_append,ByteArray.size_append];rfl
theorem uO (l:List ByteArray) (s:ByteArray):aT (l++[s])=aT l++(oG s).data.toList:=by rw [aT,aT,List.flatMap_append,List.flatMap_cons,List.flatMap_nil,List.append_nil]
theorem zQ:∀ (l:List ByteArray) (k:Nat),(aT (l.take k)).length≤(aT l).length:=fun l k=>by
 have h:aT l=aT (l.take k)++aT (l.drop k):=by rw [aT,aT,aT,← List.flatMap_append,List.take_append_drop]
 rw [h,aAj];omega
theorem dK {α:Type} {l:List α} {k:Nat} {a:α} (h:l[k]?=some a):l.take (k+1)=l.take k++[a]:=by rw [List.take_add_one,h,Option.toList_some]
theorem pR (s:ByteArray):s.data.toList.length=s.size:=by simp
theorem qE:∀ l:List ByteArray,l.length≤(aT l).length
 | []=>aAo _
 | s::r=>by
  have ih:=qE r;have h:aT (s::r)=(oG s).data.toList++aT r:=by rw [aT,List.flatMap_cons];rfl
  rw [h,aAj,aAk,pR,mP];omega
end Go.Proofs.YtmkgeogoojcciaaGreatDoor
namespace Go.Abs
theorem zT {c:UInt8}:∀ {l:List UInt8},Lib.indexByte l c = -1↔c∉l
 | []=>by simp [Lib.indexByte]
 | b::l=>by
  have ih:=zT (c:=c) (l:=l);have hg:=Lib.indexByte_ge l c;rw [Lib.indexByte];by_cases h:b=c
  ·subst h;simp
  simp only [beq_iff_eq,h,if_false,aAu,not_or];constructor
  ·intro h2
   split at h2
   ·exact⟨fun e=>h e.symm,ih.1 (by assumption)⟩
   omega
  rintro⟨_,h2⟩;rw [ih.2 h2];rfl
theorem zU {c:UInt8}:∀ {l:List UInt8},Lib.indexByte l c ≠ -1→∃ w r,l=w++c::r∧c∉w∧Lib.indexByte l c=(w.length:Int)
 | [],h=>absurd rfl h
 | b::l,h=>by
  by_cases e:b=c
  ·subst e;exact⟨[],l,rfl,by simp,by simp [Lib.indexByte]⟩
  have e1:Lib.indexByte l c ≠ -1:=fun e2=>h (by rw [Lib.indexByte];simp [e,e2]);obtain ⟨w,r,h1,h2,h3⟩:=zU e1;refine⟨b::w,r,by rw [h1];rfl,by rw [aAu,not_or];exact⟨fun x=>e x.symm,h2⟩,?_⟩;rw [Lib.indexByte];simp only [beq_iff_eq,e,if_false,e1,h3,aAk];rw [aAg (by omega)]
  push_cast
  rfl
end Go.Abs
namespace Go.Proofs.YtmkgeogoojcciaaGreatDoor
open Go.Proofs.Tryz
open Go.Abs
theorem Z2 {a b:ByteArray} (h:a.data.toList=b.data.toList):a=b:=by cases a;cases b;simp_all [Array.toList_inj]
def cY (l:List ByteArray):List (List AV):=l.map fun s=>[.pv (.str s)]
theorem fU (l:List ByteArray):(cY l).length=l.length:=aAi _
theorem lR (l:List ByteArray) (s:ByteArray):cY l++[[.pv (.str s)]]=cY (l++[s]):=by rw [cY,cY,List.map_append];rfl
theorem gL (H:aA) (l:List ByteArray):∀ r∈cY l,∀ a∈r,Clo H a:=by intro r hr a ha;obtain ⟨b,_,rfl⟩:=List.mem_map.1 hr;rw [aAl] at ha;subst ha;simp
theorem nO (l:List ByteArray):cY l=(l.map encStr).map (·.map .pv):=by rw [List.map_map];rfl
end Go.Proofs.YtmkgeogoojcciaaGreatDoor
namespace Go.Abs
theorem oU {P:Program} {G0:aA} {N:Nat} {Q:Exit→bH→aA→Prop} {E:bH} {H:aA} {x y:Code} {α:Type} (S:α→bH×aA) (J:α→Prop)
  (h:gA P G0 N x (qS (fun E1 H1=>∃ a,J a∧cA G0 E1 H1 (S a).1 (S a).2) Q) E H) (h':∀ a,J a→gA P G0 N y Q (S a).1 (S a).2):gA P G0 N (.seq x y) Q E H :=
 ME (h.mono fun e E1 H1 q=>by
  cases e with
  | normal =>
   obtain ⟨a,ha,he⟩:=q;exact gA.ent he (h' a ha)
  | _=>exact q)
theorem TJ {H:aA} {x:Go.Loop} {E0:bH} (h:∀ p∈E0,Clo H p.2):∀ r∈(LR x E0).rows,∀ a∈r,Clo H a:=by
 intro r hr a ha;simp only [LR,aAu,aAy,or_false] at hr;rcases hr with rfl|rfl
 ·rw [aAl] at ha;subst ha;simp
 obtain ⟨p,hp,rfl⟩:=List.mem_map.1 ha;exact h p hp
def KE (A B:aA):List Nat→Prop
 | []=>True
 | j::r=>A.get j=B.get j∧KE A B r
theorem KE.spec {A B:aA}:∀ {l:List Nat},KE A B l→∀ j∈l,A.get j=B.get j
 | i::r,h,j,hj=>by
  rcases aAu.1 hj with rfl|hj
  ·exact h.1
  exact KE.spec h.2 j hj
theorem L0 {D:aA} {j:Nat} (h:j∉D.map (·.1)):D.get j=none:=by
 cases hg:D.get j with
 | none=>rfl
 | some o=>exact absurd (List.mem_map.2 ⟨_,cM hg,rfl⟩) h
theorem nW (A B:aA) {K:aA} (h:KE A B (A.map (·.1)++B.map (·.1))) (j:Nat):aA.get (A++K) j=aA.get (B++K) j:=by
 rw [eK,eK];have e:A.get j=B.get j:=by
  by_cases hj:j∈A.map (·.1)++B.map (·.1)
  ·exact h.spec j hj
  rw [List.mem_append,not_or] at hj;rw [L0 hj.1,L0 hj.2]
 rw [e]
end Go.Abs
namespace Go.Proofs.YtmkgeogoojcciaaGreatDoor
open Go.Proofs.Tryz
open Go.Abs
structure GFound where
 kind:Int
 text:ByteArray
 pos:Nat
 err:Int
def aAL (l:List GFound) (k:Nat):List GFound:=(l.drop (3*k)).take 3
theorem dL (s:ByteArray):s.data.toList.length=s.size:=by simp
theorem kJ {a b:ByteArray} (h:a.data.toList=b.data.toList):a=b:=by cases a with|mk a=>cases b with|mk b=>cases a;cases b;simp at h;rw [h]
theorem fB (s:ByteArray) (i j:Nat):(s.extract i j).data.toList=(s.data.toList.drop i).take (j - i):=by rw [ByteArray.data_extract,Array.toList_extract,List.extract_eq_take_drop]
theorem qI {s:ByteArray} {i:Nat}:(s.extract i s.size).data.toList=s.data.toList.drop i:=by rw [fB];exact List.take_of_length_le (by rw [aAx,dL];exact aAo _)
end Go.Proofs.YtmkgeogoojcciaaGreatDoor
namespace Go.Abs
open Go.Lib
theorem L9 {d:Nat} (h:d < 10):digitVal (UInt8.ofNat (48+d))=some d:=by
 have e:(UInt8.ofNat (48+d)).toNat=48+d:=by rw [UInt8.toNat_ofNat'];omega
 rw [digitVal,e,aAh (by omega)];congr 1;omega
theorem oP {b:UInt8} {d:Nat} (hb:digitVal b=some d):∀ (l:List UInt8) (acc:Nat),decFrom acc (l++[b])=(decFrom acc l).map fun n=>n*10+d
 | [],acc=>by
  simp [decFrom,hb]
 | c::l,acc=>by
  rw [List.cons_append,decFrom,decFrom];cases h:digitVal c with
  | none=>rfl
  | some x=>exact oP hb l _
theorem oQ (u:Nat):decDigits u≠[]:=by
 rw [decDigits]
 split
 ·simp
 simp
theorem mG (u:Nat):decFrom 0 (decDigits u)=some u:=by
 induction u using Nat.strongRecOn with
 | ind u ih =>
  rw [decDigits]
  split
  ·rename_i h;rw [← List.nil_append [_],oP (L9 h)];simp [decFrom]
  rename_i h;rw [oP (L9 (Nat.mod_lt u (by decide))),ih (u / 10) (by omega)];simp only [Option.map_some];congr 1;omega
theorem oO {b:UInt8}:∀ (u:Nat),b∈decDigits u→48≤b.toNat∧b.toNat≤57:=by
 intro u
 induction u using Nat.strongRecOn with
 | ind u ih =>
  rw [decDigits]
  split
  ·rename_i h;intro hb;rw [aAl] at hb;subst hb;rw [UInt8.toNat_ofNat'];omega
  rename_i h;intro hb;rcases List.mem_append.1 hb with hb|hb
  ·exact ih (u / 10) (by omega) hb
  rw [aAl] at hb;subst hb;rw [UInt8.toNat_ofNat'];omega
theorem RG (n:Int) (h:0≤n):itoa n=decDigits n.toNat:=by rw [itoa,aAg (by omega)]
theorem dS:∀ {k u:Nat},u < 10 ^ k→0 < k→(decDigits u).length≤k
 | 0,_,_,h=>absurd h (Nat.lt_irrefl 0)
 | k+1,u,h,_=>by
  rw [decDigits]
  split
  ·simp
  rename_i h1;rw [aAj,List.length_singleton];have hk:0 < k:=by
   rcases Nat.eq_zero_or_pos k with e|e
   ·subst e;omega
   exact e
  have hd:u / 10 < 10 ^ k:=by rw [Nat.pow_succ] at h;omega
  have:=dS hd hk;omega
end Go.Abs
namespace Go.Proofs.YtmkgeogoojcciaaGreatDoor
open Go.Proofs.Tryz
open Go.Abs
def nm (i:Nat):ByteArray:=⟨#[110,49+UInt8.ofNat i]⟩
def ofL (l:List UInt8):ByteArray:=⟨l.toArray⟩
theorem bC (l:List UInt8):(ofL l).data.toList=l:=by simp [ofL]
theorem JG (s:ByteArray):ofL s.data.toList=s:=kJ (bC _)
theorem bU (l:List UInt8):(ofL l).size=l.length:=by rw [← dL,bC]
inductive Arm where
 | never
 | off (a w b:Int)
 | on (a w b:Int)
structure DSt where
 cells:List ByteArray
 q:List (Nat×ByteArray)
 off:Bool
 arm:Arm
 gq:Nat
 ga:Nat
def iD (p:Nat×ByteArray):List PV:=[.int .i64 ((64*p.1:Nat):Int),.int .i64 ((64*(p.1+1):Nat):Int),.str p.2]
def flat (l:List ByteArray):List UInt8:=l.flatMap (fun c=>c.data.toList)
abbrev oX (l:List (Nat×ByteArray)):List (List AV):=l.map (fun e=>(iD e).map .pv)
def KF (ga:Nat):Arm→AV
 | .never=>.pv .nilp
 | .off _ _ _=>.pv .nilp
 | .on _ _ _=>.ref 1003 ga 0 0
def iE:Arm→List (List AV)
 | .never=>[]
 | .off a w b=>[[iv a,iv w,iv b]]
 | .on a w b=>[[iv a,iv w,iv b]]
abbrev jC (s:DSt):List AV:=[.osl 1001 0 0 (64*s.cells.length),.osl 1002 s.gq 0 s.q.length,bv s.off,KF s.ga s.arm]
abbrev aU (s:DSt):aA:=[(1000,⟨0,4,80,[jC s]⟩),(1001,⟨0,1,5,bA (flat s.cells)⟩),(1002,⟨s.gq,3,103,oX s.q⟩),(1003,⟨s.ga,3,100,iE s.arm⟩)]
theorem aC (s:List UInt8) (H:aA):∀ r∈bA s,∀ a∈r,Clo H a:=by intro r hr a ha;obtain ⟨b,_,rfl⟩:=List.mem_map.1 hr;rw [aAl.1 ha];exact .pv _
theorem aG (a:Arm) (H:aA):∀ r∈iE a,∀ x∈r,Clo H x:=by intro r hr x hx;cases a<;>simp [iE] at hr<;>subst hr<;>simp at hx<;>(rcases hx with rfl|rfl|rfl<;>exact .pv _)
theorem aE (s:DSt) (H:aA) (h1:(H.get 1001).isSome=true) (h2:(H.get 1002).isSome=true) (h3:(H.get 1003).isSome=true):∀ r∈[jC s],∀ a∈r,Clo H a:=by
 intro r hr a ha;rw [aAl.1 hr] at ha;simp only [jC,aAu,aAy,or_false] at ha;rcases ha with rfl|rfl|rfl|rfl
 ·exact .osl h1
 ·exact .osl h2
 ·exact .pv _
 cases s.arm<;>first|exact .pv _|exact .ref h3
theorem lL (s:DSt):bF (aU s):=bF.of (fun p hp=>by
 simp only [aU,aAu,aAy,or_false] at hp;rcases hp with rfl|rfl|rfl|rfl
 ·exact aE s _ rfl rfl rfl
 ·exact aC _ _
 ·exact aI _ _ _
 exact aG _ _)
structure DOk (s:DSt):Prop where
 n1:1≤s.cells.length
 n2:s.cells.length≤8000
 c:∀ c,c∈s.cells→c.size=64
 q:∀ p,p∈s.q→p.1 < s.cells.length∧p.2.size=64
 ql:s.q.length≤1048576
theorem kM (c:ByteArray):c.data.toList.length=c.size:=Array.length_toList
theorem lW (c:ByteArray) (l:List ByteArray):flat (c::l)=c.data.toList++flat l:=rfl
theorem kF {l:List ByteArray} (h:∀ c,c∈l→c.size=64):(flat l).length=64*l.length:=by
 induction l with
 | nil=>rfl
 | cons c l ih =>
  rw [lW,aAj,kM,h c (by simp),ih (fun c hc=>h c (by simp [hc])),aAk];omega
theorem uY (a b:List ByteArray):flat (a++b)=flat a++flat b:=List.flatMap_append
theorem CW {l:List ByteArray} (h:∀ c,c∈l→c.size=64) {k:Nat} {c:ByteArray} (hk:l[k]?=some c) :
  (flat l).take (64*k)=flat (l.take k)∧((flat l).drop (64*k)).take 64=c.data.toList∧(flat l).drop (64*k+64)=flat (l.drop (k+1)):=by
 obtain ⟨hlt,he⟩:=aAm.1 hk;have hsplit:flat l=flat (l.take k)++(c.data.toList++flat (l.drop (k+1))):=by
  conv=>lhs;rw [← List.take_append_drop k l,List.drop_eq_getElem_cons hlt,he]
  rw [uY,lW]
 have h1:(flat (l.take k)).length=64*k:=by
  rw [kF (fun c hc=>h c (List.mem_of_mem_take hc)),aAw];congr 1;omega
 have h2:c.data.toList.length=64:=by rw [kM];exact h c (aAs hk)
 refine⟨?_,?_,?_⟩
 ·rw [hsplit,← h1,List.take_left]
 ·rw [hsplit,← h1,List.drop_left,← h2,List.take_left]
 rw [hsplit,← List.drop_drop,← h1,List.drop_left,← h2,List.drop_left]
def pG (t c:ByteArray):ByteArray:=⟨(t.data.toList++c.data.toList.drop t.size).toArray⟩
theorem NL {t c:ByteArray} (ht:t.size≤c.size):(pG t c).size=c.size:=by show (t.data.toList++c.data.toList.drop t.size).toArray.size=c.size;rw [List.size_toArray,aAj,aAx,kM,kM];omega
theorem NN {t c:ByteArray} (ht:t.size=64) (hc:c.size=64):pG t c=t:=by unfold pG;rw [List.drop_of_length_le (by rw [kM];omega),List.append_nil]
theorem QH {l:List ByteArray} (h:∀ c,c∈l→c.size=64) {k:Nat} {c t:ByteArray} (hk:l[k]?=some c) (ht:t.size≤64) :
  (flat l).take (64*k)++(t.data.toList.take t.size++(flat l).drop (64*k+t.size))=flat (l.set k (pG t c)):=by
 obtain ⟨hlt,he⟩:=aAm.1 hk;obtain ⟨p1,p2,p3⟩:=CW h hk;have hset:l.set k (pG t c)=l.take k++(pG t c::l.drop (k+1)):=by rw [List.set_eq_take_append_cons_drop,aAh hlt]
 rw [hset,uY,lW,p1];congr 1;rw [show t.data.toList.take t.size=t.data.toList from List.take_of_length_le (by rw [kM];omega)];show _=(t.data.toList++c.data.toList.drop t.size)++flat (l.drop (k+1));rw [List.append_assoc];congr 1;have e1:(flat l).drop (64*k)=c.data.toList++flat (l.drop (k+1)):=by
  rw [← List.take_append_drop 64 ((flat l).drop (64*k)),p2,List.drop_drop,p3]
 have h2:c.data.toList.length=64:=by rw [kM];exact h c (aAs hk)
 rw [← List.drop_drop,e1,List.drop_append_of_le_length (by omega)]
def eX (s:DSt) (k:Int):Bool:=decide (0≤k)&&decide (k < (s.cells.length:Int))
def lA (s:DSt) (k:Int):List AV:=if eX s k then[iv (64*k),iv (64*(k+1))] else[iv 0,iv 0]
theorem LD (s:DSt) (k:Int) (hs:DOk s) :
  aH Tryz.prog 59 [.ref 1000 0 0 0,iv k] (aU s) (fun r H'=>r=.tup [.agg (lA s k),bv (eX s k)]∧H'=aU s):=by
 have hq:IntKind.i64.wrap (((64*s.cells.length:Nat):Int).tdiv 64)=(s.cells.length:Int):=by
  have h2:=hs.n2;have e:((64*s.cells.length:Nat):Int).tdiv 64=(s.cells.length:Int):=by
   rw [Int.tdiv_eq_ediv_of_nonneg (by omega)];omega
  rw [e,iU (by omega) (by omega)]
 have h2:=hs.n2;refine Bd func59 rfl ntmps59<|Sr<|Dd (by exact cC (id:=4) rfl xK rfl rfl)<|Dd aS<|Zz<|Sq<|Sq ?_;refine cV (t:=21) (n:=18) (X:=!eX s k) ?_ ?_
 ·all_goals refine Dd aF ?_
  all_goals refine Dd (by exact cG rfl fC rfl rfl rfl rfl)<|Dm ?_
  all_goals refine Sp 8 (fun h8=>?_) fun h8=>?_
  all_goals try contradiction
  all_goals refine On aF<|On dX<|Dd fV<|Dm ?_
  all_goals refine Sp 12 (fun h12=>?_) fun h12=>?_
  all_goals try contradiction
  all_goals first|refine Fo<|Fo<|Fo<|Fo<|Fo<|Fo<|Fo<|Fo ?_|refine On aF<|On aF<|On fF<|On (dO AB)<|On (eA dZ)<|On (by exact dE rfl bY rfl rfl rfl)<|On (by exact oH rfl rfl rfl (by decide) hq)<|On RS ?_
  all_goals refine Dd fV<|Zz ?_
  all_goals(exact⟨⟨_,rfl,by(rw [eX,Bool.eq_iff_iff];simp at h12 ⊢;omega)⟩,rfl,rfl,rfl⟩)
 refine Cn ?_ ?_<;>intro hc1
 ·have e:eX s k=false:=by simpa using hc1
  refine Sr<|Dd (PI VX)<|Uu (pS sizeOf96)<|Dd aS<|Zz<|aM ?_;refine fZ (H':=aU s) (.inr rfl) rfl (jZ rfl iQ sizeOf96 rfl rfl rfl (by simp only [Zl];rfl) rfl) (aJ rfl) (Fin.wk (by(simp;done)) (Hc (aE _ _ rfl rfl rfl)<|Hc (aC _ _)<|Hc (aI _ _ _)<|Hc (aG _ _)<|trivial) ⟨rfl,rfl,rfl,rfl,trivial⟩) ?_;exact⟨by simp [lA,e],rfl⟩
 have e:eX s k=true:=by simpa using hc1
 obtain ⟨h0,h1⟩:0≤k∧k < (s.cells.length:Int):=by simpa [eX] using e
 have m1:IntKind.i64.wrap (k*64)=64*k:=by rw [iU (by omega) (by omega)];omega
 have m2:IntKind.i64.wrap ((k+1)*64)=64*(k+1):=by rw [iU (by omega) (by omega)];omega
 refine aK<|Sr<|Dd aF<|Dd (by exact iF rfl rfl rfl m1)<|Dd aF<|Dd pE<|Dd (by exact iF rfl rfl rfl m2)<|Dd (by exact DG rfl VX rfl (rfl:_=some [iv (64*k),iv (64*(k+1))]))<|Uu (pS sizeOf96)<|Dd aS<|Zz<|aM ?_;refine fZ (H':=aU s) (.inr rfl) rfl (jZ rfl iQ sizeOf96 rfl rfl rfl (by simp only [Zl];rfl) rfl) (aJ rfl) (Fin.wk (by(simp;done)) (Hc (aE _ _ rfl rfl rfl)<|Hc (aC _ _)<|Hc (aI _ _ _)<|Hc (aG _ _)<|trivial) ⟨rfl,rfl,rfl,rfl,trivial⟩) ?_;exact⟨by simp [lA,e],rfl⟩
def XT (s:DSt) (k:Int):Int:=if s.off then 22 else if eX s k then 0 else 1
def KD (s:DSt) (k:Int):List AV:=if s.off then[iv 0,iv 0] else lA s k
theorem OE (s s':DSt) (H:aA):∀ id,((aU s').get id).isSome=true→((aU s).get id).isSome=true∨H.get id=none:=by intro id h;left;simp only [aU,aA.get] at h ⊢;cases e0:Nat.beq 1000 id<;>cases e1:Nat.beq 1001 id<;>cases e2:Nat.beq 1002 id<;>cases e3:Nat.beq 1003 id<;>simp [e0,e1,e2,e3] at h ⊢
theorem cB {f:FuncId} {args:List AV} {s s':DSt} {r0:AV} (h:aH Tryz.prog f args (aU s) (fun r H'=>r=r0∧H'=aU s')) (H:aA) (hs:DJ H (aU s)) (ha:∀ a∈args,Clo (aU s) a) :
  aH Tryz.prog f args H (fun r H'=>r=r0∧H'=aU s'++H):=h.frame hs.sub (lL s) ha (OE s s' H)
theorem GA (s:DSt) (k:Int) (hs:DOk s) (e:eX s k=false):aH Tryz.prog 59 [.ref 1000 0 0 0,iv k] (aU s) (fun r H'=>r=.tup [.agg [iv 0,iv 0],bv false]∧H'=aU s):=by
 have h:=LD s k hs;have es:lA s k=[iv 0,iv 0]:=by simp [lA,e]
 rw [es,e] at h;exact h
theorem CG (s:DSt) (k:Int) (hs:DOk s) (e:eX s k=true):aH Tryz.prog 59 [.ref 1000 0 0 0,iv k] (aU s) (fun r H'=>r=.tup [.agg [iv (64*k),iv (64*(k+1))],bv true]∧H'=aU s):=by
 have h:=LD s k hs;have es:lA s k=[iv (64*k),iv (64*(k+1))]:=by simp [lA,e]
 rw [es,e] at h;exact h
theorem S0 (s:DSt) (k:Int) (hs:DOk s) :
  aH Tryz.prog 81 [.ref 1000 0 0 0,iv k] (aU s) (fun r H'=>r=.tup [.agg (KD s k),iv (XT s k)]∧H'=aU s):=by
 refine Bd func81 rfl ntmps81<|Sr<|Dd (by exact cC (id:=4) rfl xK rfl rfl)<|Dd aS<|Zz<|Sq<|Sq ?_;refine cV (t:=15) (n:=9) (X:=s.off) ?_ ?_
 ·all_goals refine Dd aF ?_
  all_goals refine Dd (by exact xB rfl fC rfl rfl rfl rfl)<|Dm ?_
  all_goals refine Sp 10 (fun h10=>?_) fun h10=>?_
  all_goals try contradiction
  all_goals refine On aF<|On fF<|On (dO qH)<|On (eA dD)<|Dd fV<|Zz ?_
  all_goals(exact⟨⟨_,rfl,by rfl⟩,rfl,rfl,rfl⟩)
 refine Cn ?_ ?_<;>intro hc1
 ·refine Sr<|Dd (PI VX)<|Uu (pS sizeOf96)<|Dd aS<|Zz<|aM ?_;refine fZ (H':=aU s) (.inr rfl) rfl (jZ rfl iQ sizeOf96 rfl rfl rfl (by simp only [Zl];rfl) rfl) (aJ rfl) (Fin.wk (by(simp;done)) (Hc (aE _ _ rfl rfl rfl)<|Hc (aC _ _)<|Hc (aI _ _ _)<|Hc (aG _ _)<|trivial) ⟨rfl,rfl,rfl,rfl,trivial⟩) ?_;exact⟨by simp [KD,XT,hc1],rfl⟩
 cases e:eX s k
 ·refine aK<|Sr<|Dd aF<|Dd aF<|Dd (by exact aB rfl rfl TV rfl (cB (GA s k hs e) _ ⟨rfl,rfl,rfl,rfl,trivial⟩ (by simp;rfl)))<|Dd aF<|Dd dY<|Dd dY<|Dd (by exact cC (id:=6) rfl xK rfl rfl)<|Uu (pS sizeOf96)<|Dd aS<|Zz<|Sq<|Sr<|Dd aF<|Dd A2<|Zz ?_;refine Cn ?_ ?_<;>intro hc2
  ·refine Sr<|Dd (PI VX)<|Uu (pS sizeOf96)<|Dd aS<|Zz<|aM ?_;refine fZ (H':=aU s) (.inr rfl) rfl (jZ rfl iQ sizeOf96 rfl rfl rfl (by simp only [Zl];rfl) rfl) (aJ rfl) (Fin.wk (by(simp;done)) (Hc (aE _ _ rfl rfl rfl)<|Hc (aC _ _)<|Hc (aI _ _ _)<|Hc (aG _ _)<|trivial) ⟨rfl,rfl,rfl,rfl,trivial⟩) ?_;exact⟨by simp [KD,XT,hc1,e,lA],rfl⟩
  cases hc2
 refine aK<|Sr<|Dd aF<|Dd aF<|Dd (by exact aB rfl rfl TV rfl (cB (CG s k hs e) _ ⟨rfl,rfl,rfl,rfl,trivial⟩ (by simp;rfl)))<|Dd aF<|Dd dY<|Dd dY<|Dd (by exact cC (id:=6) rfl xK rfl rfl)<|Uu (pS sizeOf96)<|Dd aS<|Zz<|Sq<|Sr<|Dd aF<|Dd A2<|Zz ?_;refine Cn ?_ ?_<;>intro hc3
 ·cases hc3
 refine aK<|Sr<|Dd (by exact dA rfl iQ sizeOf96 rfl rfl rfl rfl (by simp only [Zl];rfl) rfl)<|Uu (pS sizeOf96)<|Dd aS<|Zz<|aM ?_;refine fZ (H':=aU s) (.inr rfl) rfl (jZ rfl iQ sizeOf96 rfl rfl rfl (by simp only [Zl];rfl) rfl) (aJ rfl) (Fin.wk (by(simp;done)) (Hc (aE _ _ rfl rfl rfl)<|Hc (aC _ _)<|Hc (aI _ _ _)<|Hc (aG _ _)<|trivial) ⟨rfl,rfl,rfl,rfl,trivial⟩) ?_;exact⟨by simp [KD,XT,hc1,e,lA],rfl⟩
end Go.Proofs.YtmkgeogoojcciaaGreatDoor
namespace Go.Abs
open Go.RowKit
theorem Rel.below {I:Nat→Prop} {ι:cF} {H:aA} {w w':World} (hb:Below w.heap.size w w') (hr:Rel I ι H w):Rel I ι H w'∧Step I ι H w I ι H w':=by
 have hk:∀ b,b < w.heap.size→w'.heap[b]?=w.heap[b]?:=hb.block;have hst:Step I ι H w I ι H w':=by
  refine⟨hb.os,hb.tape,hb.output,hb.size,fun a ha _=>?_,fun _ h=>h,fun _ h=>.inl h,fun _ h=>.inl h,fun b hb _=>hk b hb,fun _ o h=>⟨o,h,aAo _,fun _=>⟨rfl,rfl,fun _=>aAo _⟩⟩⟩;unfold World.frozen?;rw [hk _ ha]
 refine⟨⟨fun b h=>?_,fun j o hj=>?_,hr.inj,hst.glob hr⟩,hst⟩
 ·have:=hr.imm b h;have:=hb.size;omega
 exact(hr.obj j o hj).keep rfl (fun b c _ hb=>⟨hk b hb,fun h=>h⟩) (fun r _ a _ v hv=>hv.mono hr hst)
end Go.Abs
section
namespace Go.Proofs
open Go.RowKit Go.Sort Go.Shelf
def aA4:Go.Shelf.Ren:=⟨fun|105=>130|212=>132|99=>159|165=>160|166=>86|170=>161|169=>88|263=>165|264=>166|206=>182|240=>116|241=>183|276=>143|277=>195|n=>n,fun|9=>9|3=>3|4=>4|20=>20|0=>0|46=>150|109=>170|5=>5|72=>138|76=>133|51=>191|146=>199|53=>93|148=>201|70=>136|37=>50|75=>132|127=>158|164=>179|80=>46|n=>n,fun|n=>n⟩
theorem aAa:Go.Proofs.Lays.n105 Tryz.prog aA4:={
  mixed:=by kernel_rfl
  f99:=Tryz.func159.trans (congrArg some (by kernel_rfl))
  f105:=Tryz.func130.trans (congrArg some (by kernel_rfl))
  f165:=Tryz.func160.trans (congrArg some (by kernel_rfl))
  f166:=Tryz.func86.trans (congrArg some (by kernel_rfl))
  f169:=Tryz.func88.trans (congrArg some (by kernel_rfl))
  f170:=Tryz.func161.trans (congrArg some (by kernel_rfl))
  f206:=Tryz.func182.trans (congrArg some (by kernel_rfl))
  f212:=Tryz.func132.trans (congrArg some (by kernel_rfl))
  f240:=Tryz.func116.trans (congrArg some (by kernel_rfl))
  f241:=Tryz.func183.trans (congrArg some (by kernel_rfl))
  f263:=Tryz.func165.trans (congrArg some (by kernel_rfl))
  f264:=Tryz.func166.trans (congrArg some (by kernel_rfl))
  f276:=Tryz.func143.trans (congrArg some (by kernel_rfl))
  f277:=Tryz.func195.trans (congrArg some (by kernel_rfl))
  t0:=xP
  a0:=TR
  z0:=PC
  v0:=A4
  t3:=bT
  a3:=aQ
  z3:=Tryz.sizeOf3
  v3:=lY
  t4:=kZ
  a4:=dD
  z4:=Tryz.sizeOf4
  v4:=A3
  t5:=bQ
  a5:=mM
  z5:=cL
  v5:=jD
  t9:=aL
  a9:=aX
  z9:=Tryz.sizeOf9
  v9:=fE
  t20:=PB
  a20:=aAD
  z20:=ZC
  v20:=TF
  t37:=bY
  a37:=dZ
  z37:=Tryz.sizeOf50
  v37:=TD
  t46:=eO
  a46:=wS
  z46:=tL
  v46:=nD
  t51:=tH
  a51:=H5
  z51:=FC
  v51:=vJ
  t53:=gD
  a53:=nJ
  z53:=lP
  v53:=kY
  t70:=iO
  a70:=H6
  z70:=XX
  v70:=Tryz.zeroValue136
  t72:=KK
  a72:=Tryz.isAgg138
  z72:=Tryz.sizeOf138
  v72:=Tryz.zeroValue138
  t75:=iP
  a75:=Tryz.isAgg132
  z75:=Tryz.sizeOf132
  v75:=Tryz.zeroValue132
  t76:=Tryz.underlying133
  a76:=Tryz.isAgg133
  z76:=Tryz.sizeOf133
  v76:=Tryz.zeroValue133
  t109:=Tryz.underlying170
  a109:=Tryz.isAgg170
  z109:=Tryz.sizeOf170
  v109:=Tryz.zeroValue170
  t127:=tI
  a127:=Tryz.isAgg158
  z127:=Tryz.sizeOf158
  v127:=Tryz.zeroValue158
  t146:=Tryz.underlying199
  a146:=Tryz.isAgg199
  z146:=Tryz.sizeOf199
  v146:=Tryz.zeroValue199
  t148:=Tryz.underlying201
  a148:=Tryz.isAgg201
  z148:=Tryz.sizeOf201
  v148:=Tryz.zeroValue201
  t164:=KJ
  a164:=Tryz.isAgg179
  z164:=Tryz.sizeOf179
  v164:=Tryz.zeroValue179}
end Go.Proofs
namespace Go.Proofs.YtmkgeogoojcciaaGreatDoor
open Go.Proofs.Tryz
open Go.Abs Go.Lib
theorem UF:Builder.Extra Tryz.prog aA4:=⟨⟨by kernel_rfl,by kernel_rfl⟩,bQ,mM,cL,jD,by kernel_rfl,by kernel_rfl,by kernel_rfl,by decide⟩
def IT (s:ByteArray) (n:Nat):ByteArray:=⟨(Lib.repeatL s.data.toList n).toArray⟩
theorem F3 (s:ByteArray) (n:Nat) (hl:s.size*n≤140737488355328) (hn:n≤9223372036854775807) (H:aA):aH Tryz.prog 130 [sv s,iv (n:Int)] H (fun r H'=>r=sv (IT s n)∧H'=H):=by
 intro I ι w vs hr hvl hv;obtain ⟨v,u,rfl⟩:∃ v u,vs=#[v,u]:=by
  match vs,hvl with
  | ⟨[v,u]⟩,_=>exact⟨v,u,rfl⟩
 have e1:=(hv 0 v _ rfl rfl).str_inv;have e2:=(hv 1 u _ rfl rfl).int_inv;subst e1 e2;refine(Any.strings_Repeat aAa UF s n w hn hl).mono ?_;rintro e w' ⟨rfl,hb⟩;obtain ⟨k1,k2⟩:=Rel.below hb hr;exact⟨_,_,I,ι,_,rfl,⟨rfl,rfl⟩,.pv (.str _),k1,k2⟩
theorem lV (n:Nat):(dN (n:Int)).data.toList=decDigits n:=by show (Lib.itoa (n:Int)).toArray.toList=_;rw [RG _ (Int.natCast_nonneg n),aAt]
theorem yW (b:UInt8):∀ n,Lib.repeatL [b] n=List.replicate n b
 | 0=>rfl
 | n+1=>by rw [Lib.repeatL,yW b n,List.replicate_succ];rfl
theorem vU (b:UInt8) (n:Nat):(IT ⟨#[b]⟩ n).data.toList=List.replicate n b:=yW b n
theorem CA (b:UInt8) (n:Nat):(IT ⟨#[b]⟩ n).size=n:=by rw [← dL,vU,List.length_replicate]
def dg (n w:Nat):List UInt8:=List.replicate (w - (decDigits n).length) 48++decDigits n
theorem lF {n w:Nat} (h:(decDigits n).length≤w):(dg n w).length=w:=by rw [dg,aAj,List.length_replicate];omega
theorem nZ (n w:Nat) (hn:n < 1000000000000) (hw:w≤1000) (H:aA):aH Tryz.prog 102 [iv (n:Int),iv (w:Int)] H (fun r H'=>r=sv (ofL (dg n w))∧H'=H):=by
 refine Pu ?_;have hz:=lV n;have hsz:(dN (n:Int)).size=(decDigits n).length:=by rw [← dL,hz]
 have hd21:(dN (n:Int)).size≤21:=sR (by omega) (by omega);obtain ⟨k,hk⟩:∃ k,k=w - (decDigits n).length:=⟨_,rfl⟩;have hmx:max (0:Int) ((w:Int) - ((dN (n:Int)).size:Int))=((k:Nat):Int):=by rw [hsz,hk];omega
 have hks:(IT ⟨#[48]⟩ k).size=k:=CA 48 k;have e:IT ⟨#[48]⟩ k++dN (n:Int)=ofL (dg n w):=Z2 (by
  rw [bC,ByteArray.data_append,Array.toList_append,vU,hz,dg,hk])
 rw [← e];clear e;exact Bd func102 rfl ntmps102<|Sr<|Dd aS<|Zz<|Sr<|Dd aF<|Dd (by exact aB rfl rfl pL rfl (oN (n:Int) (by omega) (by omega) _))<|Dd aS<|Zz<|Sr<|Dd aF<|Dd aF<|Dd (BP aL)<|Dd (by exact eC rfl rfl rfl (by exact iU (by omega) (by omega)))<|Dd (by exact D2 rfl rfl rfl hmx)<|Dd (by exact aB rfl rfl call130 rfl (F3 ⟨#[48]⟩ k (by show 1*k≤_;omega) (by omega) _))<|Dd aF<|Dd (by exact jG rfl rfl rfl (by omega) rfl)<|Dd aS<|Zz<|aM<|Rt<|Qq
def zB (n:Nat):List UInt8:=List.replicate n 0
theorem oS (H:aA):aH Tryz.prog 43 [] H (fun r H'=>r=sv (ofL (zB 64))∧H'=H):=by
 refine Pu ?_;have hb:((List.replicate 64 [AV.pv (.int .u8 0)]).drop 0).take 64=bA (zB 64):=by
  rw [List.drop_zero,List.take_of_length_le (by simp),bA,zB,List.map_replicate];rfl
 refine Bd func43 rfl ntmps43<|Sr<|Dd aS<|Zz<|Sr<|Dd (by exact kN (id:=901) rfl A6 YX ZI rfl rfl rfl (by decide) (by decide) rfl rfl (by decide) rfl)<|Dd (by exact iB rfl bY bQ aL rfl rfl rfl rfl hb rfl)<|Dd aS<|Zz<|aM ?_;refine bD (H':=[]) (.inr rfl) rfl (aJ rfl) (Fin.wk (r:=sv (ofL (zB 64))) (by simp) trivial trivial) ?_;exact Qq
def ID (l:List UInt8):List UInt8:=JT (G9 (OH l.length) l)
theorem R6 (l:List UInt8):R7 (ofL l)=ofL (ID l):=by rw [R7,bC,bU];rfl
theorem tS (l:List UInt8):(ID l).length=16:=by simp [ID,JT]
def rL (c:List UInt8):List UInt8:=c++zB (48 - c.length)
theorem yZ {c:List UInt8} (h:c.length≤48):(rL c).length=48:=by rw [rL,aAj,zB,List.length_replicate];omega
def oW (place:Nat) (c:List UInt8):List UInt8:=ID (dg place 8++rL c)++rL c
theorem B8 {place:Nat} {c:List UInt8} (h:c.length≤48):(oW place c).length=64:=by rw [oW,aAj,tS,yZ h]
theorem qL (n w:Nat) (hn:n < 1000000000000):(dg n w).length≤w+21:=by
 have hz:=lV n;have hsz:(dN (n:Int)).size=(decDigits n).length:=by rw [← dL,hz]
 have hd21:(dN (n:Int)).size≤21:=sR (by omega) (by omega);rw [dg,aAj,List.length_replicate];omega
theorem uK (a b:List UInt8):ofL a++ofL b=ofL (a++b):=Z2 (by
 rw [bC,ByteArray.data_append,Array.toList_append,bC,bC])
theorem yR (place:Nat) (c:List UInt8) (hp:place < 1000000000000) (hc:c.length≤48) (H:aA):aH Tryz.prog 101 [iv (place:Int),sv (ofL c)] H (fun r H'=>r=sv (ofL (oW place c))∧H'=H):=by
 refine Pu ?_;have hcs:(ofL c).size=c.length:=bU c;have hks:(IT ⟨#[0]⟩ (48 - c.length)).size=48 - c.length:=CA 0 _;have hpad:ofL c++IT ⟨#[0]⟩ (48 - c.length)=ofL (rL c):=Z2 (by
  rw [bC,ByteArray.data_append,Array.toList_append,vU,bC];rfl)
 have hpl:(ofL (rL c)).size=48:=by rw [bU,yZ hc]
 have hdl:(ofL (dg place 8)).size≤29:=by rw [bU];exact qL place 8 hp
 have hs16:(ofL (ID (dg place 8++rL c))).size=16:=by rw [bU,tS]
 have hsub:IntKind.i64.wrap (48 - ((ofL c).size:Int))=((48 - c.length:Nat):Int):=by rw [hcs,iU (by omega) (by omega)];omega
 have hsum:∀ H,aH Tryz.prog 131 [sv (ofL (dg place 8++rL c))] H (fun r H'=>r=sv (ofL (ID (dg place 8++rL c)))∧H'=H):=fun H=>by
  have:=YH (ofL (dg place 8++rL c)) H (by rw [bU,aAj,yZ hc];have:=qL place 8 hp;omega)
  rwa [R6] at this
 have e1:ofL (dg place 8)++ofL (rL c)=ofL (dg place 8++rL c):=uK _ _;have e2:ofL (ID (dg place 8++rL c))++ofL (rL c)=ofL (oW place c):=uK _ _;exact Bd func101 rfl ntmps101<|Sr<|Dd aS<|Zz<|Sr<|Dd aF<|Dd aF<|Dd (BP aL)<|Dd (by exact eC rfl rfl rfl hsub)<|Dd (by exact aB rfl rfl call130 rfl (F3 ⟨#[0]⟩ (48 - c.length) (by show 1*_≤_;omega) (by omega) _))<|Dd (by exact jG rfl rfl rfl (by omega) hpad)<|Dd aS<|Zz<|Sr<|Dd aF<|Dd (by exact aB rfl rfl AW rfl (nZ place 8 hp (by omega) _))<|Dd aF<|Dd (by exact jG rfl rfl rfl (by omega) e1)<|Dd (by exact aB rfl rfl call131 rfl (hsum _))<|Dd aF<|Dd (by exact jG rfl rfl rfl (by omega) e2)<|Dd aS<|Zz<|aM<|Rt<|Qq
end Go.Proofs.YtmkgeogoojcciaaGreatDoor
end
namespace Go.Abs
open Go.Proofs
def WH (v:Value):Prop:=∃ t p,v=.iface t p
abbrev OB:PV:=.sat WH
def qP (s:ByteArray):Int×PV:=match Lib.atoiAll s.data.toList with
 | .ok v=>(v,JK)
 | .range=>(Lib.atoiSat s.data.toList,OB)
 | _=>(0,OB)
theorem atoi_c {P:Program} {ρ:Shelf.Ren} (L:LaysC.n172 P ρ) {G1 G2:Nat} (hg1:(G1,GV.face)∈EN) (hn1:P.globalNamed "strconv.ErrSyntax" = some G1) (hg2:(G2,GV.face)∈EN) (hn2:P.globalNamed "strconv.ErrRange" = some G2) (s:ByteArray) (hs:s.size < 1099511627776) (H:aA) :
  aH P (ρ.f 172) [.pv (.str s)] H (fun r H'=>r=.tup [.pv (.int .i64 (qP s).1),.pv (qP s).2]∧H'=H):=by
 intro I ι w vs hr hvl hv;obtain ⟨v,rfl⟩:∃ v,vs=#[v]:=by
  match vs,hvl with
  | ⟨[v]⟩,_=>exact⟨v,rfl⟩
 have e1:=(hv 0 v _ rfl rfl).str_inv;subst e1;have hvar:∀ (name:String) (G:Nat),(G,GV.face)∈EN→P.globalNamed name=some G→∃ t p,w.var? P name=some #[.iface t p]:=fun name G hg hn=>by
  obtain ⟨_,cs,t,f,h2,q,p,h3⟩:=hr.glob _ hg;subst h3;exact⟨q,p,by simp only [World.var?,hn,Option.bind_some,h2]⟩
 have fin:∀ (n:Int) (x:Value) (a:PV) (w':World),RowKit.Below w.heap.size w w'→(∀ I H,VRel w' I ι H x (.pv a))→∃ r H' I' ι' v',(Ending.returned (.tuple #[.int .i64 n,x]))=.returned v'∧(r=.tup [.pv (.int .i64 n),.pv a]∧H'=H)∧VRel w' I' ι' H' v' r∧Rel I' ι' H' w'∧Step I ι H w I' ι' H' w':=fun n x a w' hb hx=>by
  obtain ⟨k1,k2⟩:=Rel.below hb hr;refine⟨_,_,I,ι,_,rfl,⟨rfl,rfl⟩,.tup rfl fun i v b h1 h2=>?_,k1,k2⟩
  match i,h1,h2 with
  | 0,h1,h2=>cases h1;cases h2;exact .pv (.int _ _)
  | 1,h1,h2=>cases h1;cases h2;exact hx _ _
  | i+2,h1,h2=>simp at h1
 rw [qP];cases h:Lib.atoiAll s.data.toList with
 | ok n =>
  refine(Any.strconv_Atoi_ok L s (by omega) n h w).mono ?_;rintro e w' ⟨rfl,hw⟩;have hb:RowKit.Below w.heap.size w w':=by
   rcases hw with rfl|⟨t,rfl⟩
   ·exact RowKit.Below.refl _ _
   exact Lib.bytesWorld_below w _ t
  exact fin n .nilIface JK w' hb (fun _ _=>.pv (.sat rfl rfl))
 | range =>
  obtain ⟨t,p,hq⟩:=hvar _ G2 hg2 hn2;refine(Any.strconv_Atoi_range_var L s (by omega) h t p w hq).mono ?_;rintro e w' ⟨N,rfl,_,_,hb⟩;exact fin _ _ OB w' hb (fun _ _=>.pv (.sat rfl ⟨_,_,rfl⟩))
 | _ =>
  obtain ⟨t,p,hq⟩:=hvar _ G1 hg1 hn1;refine(Any.strconv_Atoi_syntax_var L s (by omega) h t p w hq).mono ?_;rintro e w' ⟨N,rfl,_,_,hb⟩;exact fin 0 _ OB w' hb (fun _ _=>.pv (.sat rfl ⟨_,_,rfl⟩))
end Go.Abs
section
namespace Go.Proofs
open Go.RowKit Go.Sort Go.Shelf
def aA7:Go.Shelf.Ren:=⟨fun|172=>82|244=>114|245=>115|247=>138|279=>139|280=>140|281=>141|282=>142|287=>168|316=>169|171=>98|205=>170|321=>184|322=>185|243=>128|246=>158|283=>178|284=>179|285=>180|286=>181|129=>157|317=>191|318=>192|319=>193|320=>194|337=>198|338=>199|n=>n,fun|9=>9|3=>3|75=>132|76=>133|4=>4|5=>5|167=>173|37=>50|0=>0|85=>174|2=>2|168=>176|53=>93|175=>203|46=>150|210=>206|127=>158|145=>222|143=>220|21=>21|171=>215|173=>217|212=>229|51=>191|20=>20|213=>230|232=>234|233=>235|80=>46|n=>n,fun|15=>0|16=>1|17=>3|18=>4|19=>5|n=>n⟩
theorem aAd:Go.Proofs.LaysC.n172 Tryz.prog aA7:={
  mixed:=by kernel_rfl
  f129:=Tryz.func157.trans (congrArg some (by kernel_rfl))
  f171:=Tryz.func98.trans (congrArg some (by kernel_rfl))
  f172:=Tryz.func82.trans (congrArg some (by kernel_rfl))
  f205:=Tryz.func170.trans (congrArg some (by kernel_rfl))
  f243:=Tryz.func128.trans (congrArg some (by kernel_rfl))
  f244:=Tryz.func114.trans (congrArg some (by kernel_rfl))
  f245:=Tryz.func115.trans (congrArg some (by kernel_rfl))
  f246:=Tryz.func158.trans (congrArg some (by kernel_rfl))
  f247:=Tryz.func138.trans (congrArg some (by kernel_rfl))
  f279:=Tryz.func139.trans (congrArg some (by kernel_rfl))
  f280:=Tryz.func140.trans (congrArg some (by kernel_rfl))
  f281:=Tryz.func141.trans (congrArg some (by kernel_rfl))
  f282:=Tryz.func142.trans (congrArg some (by kernel_rfl))
  f283:=Tryz.func178.trans (congrArg some (by kernel_rfl))
  f284:=Tryz.func179.trans (congrArg some (by kernel_rfl))
  f285:=Tryz.func180.trans (congrArg some (by kernel_rfl))
  f286:=Tryz.func181.trans (congrArg some (by kernel_rfl))
  f287:=Tryz.func168.trans (congrArg some (by kernel_rfl))
  f316:=Tryz.func169.trans (congrArg some (by kernel_rfl))
  f317:=Tryz.func191.trans (congrArg some (by kernel_rfl))
  f318:=Tryz.func192.trans (congrArg some (by kernel_rfl))
  f319:=Tryz.func193.trans (congrArg some (by kernel_rfl))
  f320:=Tryz.func194.trans (congrArg some (by kernel_rfl))
  f321:=Tryz.func184.trans (congrArg some (by kernel_rfl))
  f322:=Tryz.func185.trans (congrArg some (by kernel_rfl))
  f337:=Tryz.func198.trans (congrArg some (by kernel_rfl))
  f338:=Tryz.func199.trans (congrArg some (by kernel_rfl))
  t0:=xP
  a0:=TR
  z0:=PC
  v0:=A4
  t2:=Tryz.underlying2
  a2:=Tryz.isAgg2
  z2:=Tryz.sizeOf2
  v2:=Tryz.zeroValue2
  t3:=bT
  a3:=aQ
  z3:=Tryz.sizeOf3
  v3:=lY
  t4:=kZ
  a4:=dD
  z4:=Tryz.sizeOf4
  v4:=A3
  t5:=bQ
  a5:=mM
  z5:=cL
  v5:=jD
  t9:=aL
  a9:=aX
  z9:=Tryz.sizeOf9
  v9:=fE
  t20:=PB
  a20:=aAD
  z20:=ZC
  v20:=TF
  t21:=Tryz.underlying21
  a21:=Tryz.isAgg21
  z21:=Tryz.sizeOf21
  v21:=Tryz.zeroValue21
  t37:=bY
  a37:=dZ
  z37:=Tryz.sizeOf50
  v37:=TD
  t46:=eO
  a46:=wS
  z46:=tL
  v46:=nD
  t51:=tH
  a51:=H5
  z51:=FC
  v51:=vJ
  t53:=gD
  a53:=nJ
  z53:=lP
  v53:=kY
  t75:=iP
  a75:=Tryz.isAgg132
  z75:=Tryz.sizeOf132
  v75:=Tryz.zeroValue132
  t76:=Tryz.underlying133
  a76:=Tryz.isAgg133
  z76:=Tryz.sizeOf133
  v76:=Tryz.zeroValue133
  t85:=Tryz.underlying174
  a85:=Tryz.isAgg174
  z85:=Tryz.sizeOf174
  v85:=Tryz.zeroValue174
  t127:=tI
  a127:=Tryz.isAgg158
  z127:=Tryz.sizeOf158
  v127:=Tryz.zeroValue158
  t143:=Tryz.underlying220
  a143:=Tryz.isAgg220
  z143:=Tryz.sizeOf220
  v143:=Tryz.zeroValue220
  t145:=Tryz.underlying222
  a145:=Tryz.isAgg222
  z145:=Tryz.sizeOf222
  v145:=Tryz.zeroValue222
  t167:=Tryz.underlying173
  a167:=Tryz.isAgg173
  z167:=Tryz.sizeOf173
  v167:=Tryz.zeroValue173
  t168:=Tryz.underlying176
  a168:=Tryz.isAgg176
  z168:=Tryz.sizeOf176
  v168:=Tryz.zeroValue176
  t171:=Tryz.underlying215
  a171:=Tryz.isAgg215
  z171:=Tryz.sizeOf215
  v171:=Tryz.zeroValue215
  t173:=Tryz.underlying217
  a173:=Tryz.isAgg217
  z173:=Tryz.sizeOf217
  v173:=Tryz.zeroValue217
  t175:=Tryz.underlying203
  a175:=Tryz.isAgg203
  z175:=Tryz.sizeOf203
  v175:=Tryz.zeroValue203
  t210:=Tryz.underlying206
  a210:=Tryz.isAgg206
  z210:=Tryz.sizeOf206
  v210:=Tryz.zeroValue206
  t212:=Tryz.underlying229
  a212:=Tryz.isAgg229
  z212:=Tryz.sizeOf229
  v212:=Tryz.zeroValue229
  t213:=Tryz.underlying230
  a213:=Tryz.isAgg230
  z213:=Tryz.sizeOf230
  t232:=Tryz.underlying234
  a232:=Tryz.isAgg234
  z232:=Tryz.sizeOf234
  v232:=Tryz.zeroValue234
  t233:=Tryz.underlying235
  a233:=Tryz.isAgg235
  z233:=Tryz.sizeOf235
  v233:=Tryz.zeroValue235
  g15:=by kernel_rfl
  g16:=by kernel_rfl
  g17:=by kernel_rfl
  g18:=by kernel_rfl
  g19:=by kernel_rfl
  t80:=Tryz.underlying46
  a80:=Tryz.isAgg46
  z80:=Tryz.sizeOf46
  v80:=Tryz.zeroValue46
  i0:=by kernel_rfl
  i2:=by kernel_rfl
  i3:=by kernel_rfl
  i4:=by kernel_rfl
  i5:=by kernel_rfl
  i9:=by kernel_rfl
  i20:=by kernel_rfl
  i21:=by kernel_rfl
  i37:=by kernel_rfl
  i46:=by kernel_rfl
  i51:=by kernel_rfl
  i53:=by kernel_rfl
  i75:=by kernel_rfl
  i76:=by kernel_rfl
  i80:=by kernel_rfl
  i85:=by kernel_rfl
  i127:=by kernel_rfl
  i143:=by kernel_rfl
  i145:=by kernel_rfl
  i167:=by kernel_rfl
  i168:=by kernel_rfl
  i171:=by kernel_rfl
  i173:=by kernel_rfl
  i175:=by kernel_rfl
  i210:=by kernel_rfl
  i212:=by kernel_rfl
  i232:=by kernel_rfl
  i233:=by kernel_rfl
  m15:=by kernel_rfl
  m16:=by kernel_rfl
  m17:=by kernel_rfl
  m18:=by kernel_rfl
  m19:=by kernel_rfl
  c0:=by kernel_rfl
  c2:=by kernel_rfl
  c3:=by kernel_rfl
  c4:=by kernel_rfl
  c5:=by kernel_rfl
  c9:=by kernel_rfl
  c20:=by kernel_rfl
  c21:=by kernel_rfl
  c37:=by kernel_rfl
  c46:=by kernel_rfl
  c51:=by kernel_rfl
  c53:=by kernel_rfl
  c75:=by kernel_rfl
  c76:=by kernel_rfl
  c80:=by kernel_rfl
  c85:=by kernel_rfl
  c127:=by kernel_rfl
  c143:=by kernel_rfl
  c145:=by kernel_rfl
  c167:=by kernel_rfl
  c168:=by kernel_rfl
  c171:=by kernel_rfl
  c173:=by kernel_rfl
  c175:=by kernel_rfl
  c210:=by kernel_rfl
  c212:=by kernel_rfl
  c213:=by kernel_rfl
  c232:=by kernel_rfl
  c233:=by kernel_rfl}
end Go.Proofs
namespace Go.Proofs.YtmkgeogoojcciaaGreatDoor
open Go.Proofs.Tryz
open Go.Abs
theorem VZ (s:ByteArray) (hs:s.size < 1099511627776) (H:aA):aH Tryz.prog 82 [sv s] H (fun r H'=>r=.tup [iv (qP s).1,.pv (qP s).2]∧H'=H) :=Go.Abs.atoi_c aAd (G1:=0) (G2:=1) (by unfold EN;exact .tail _ (.tail _ (.head _))) (by kernel_rfl) (by unfold EN;exact .tail _ (.head _)) (by kernel_rfl) s hs H
end Go.Proofs.YtmkgeogoojcciaaGreatDoor
end
namespace Go.Abs
open Go.Proofs
section
section
variable {P:Program} {N:Nat} {o:Oper} {E:bH} {H:aA} {t t':TypeId} {x:Operand}
theorem JA (ho:o.op=.binOp .neq t x (.const .nilIface) t') (ht:P.underlying t=some (.interface (P.methodsAt t))) (hx:aN E x=some (.pv JK)):bW P N o E H (.pv (.bool false)) H :=.of_run fun a w I ι _ he=>⟨.bool false,by
  have e1:a.eval x=.nilIface:=(aD he hx).sat_inv;have e2:a.eval (.const .nilIface)=.nilIface:=rfl;simp only [execOp,ho,e1,e2,eqGuard,Sem.run_bind,Sem.run_pure,Result.andThen_ok,run_neq_nil_nil _ _ ht,Bool.or_true,if_true,Bool.not_true,Bool.false_eq_true,if_false],.pv (.bool _)⟩
theorem JB (ho:o.op=.binOp .neq t x (.const .nilIface) t') (ht:P.underlying t=some (.interface (P.methodsAt t))) (hx:aN E x=some (.pv OB)):bW P N o E H (.pv (.bool true)) H :=.of_run fun a w I ι _ he=>⟨.bool true,by
  obtain ⟨q,p,e1⟩:WH (a.eval x):=(aD he hx).sat_inv;have e2:a.eval (.const .nilIface)=.nilIface:=rfl;simp only [execOp,ho,e1,e2,eqGuard,Sem.run_bind,Sem.run_pure,Result.andThen_ok,run_neq_held_nil _ _ _ _ ht];rfl,.pv (.bool _)⟩
end
end
end Go.Abs
namespace Go.Proofs.YtmkgeogoojcciaaGreatDoor
open Go.Proofs.Tryz
open Go.Abs
abbrev B4 (n:Nat):List AV:=[iv ((64*n:Nat):Int),iv ((64*(n+1):Nat):Int)]
theorem FV (n:Nat):[iv (64*(n:Int)),iv (64*((n:Int)+1))]=B4 n:=by
 have e1:64*(n:Int)=((64*n:Nat):Int):=by omega
 have e2:64*((n:Int)+1)=((64*(n+1):Nat):Int):=by omega
 rw [e1,e2]
theorem gM {s:DSt} {n:Nat}:eX s (n:Int)=decide (n < s.cells.length):=by unfold eX;rw [Bool.eq_iff_iff];simp
theorem kQ (s:DSt) (k:Int):eX s k=false∨∃ n:Nat,k=(n:Int)∧n < s.cells.length:=by
 cases h:eX s k with
 | false=>exact .inl rfl
 | true =>
  obtain ⟨h0,h1⟩:0≤k∧k < (s.cells.length:Int):=by simpa [eX] using h
  exact .inr ⟨k.toNat,by omega,by omega⟩
theorem SZ (s:DSt) (k:Int) (hs:DOk s) (e:s.off=true):aH Tryz.prog 81 [.ref 1000 0 0 0,iv k] (aU s) (fun r H'=>r=.tup [.agg [iv 0,iv 0],iv 22]∧H'=aU s):=by have h:=S0 s k hs;simp only [KD,XT,e,if_true] at h;exact h
theorem WJ (s:DSt) (k:Int) (hs:DOk s) (e:s.off=false) (e2:eX s k=false):aH Tryz.prog 81 [.ref 1000 0 0 0,iv k] (aU s) (fun r H'=>r=.tup [.agg [iv 0,iv 0],iv 1]∧H'=aU s):=by have h:=S0 s k hs;simp only [KD,XT,e,e2,lA,Bool.false_eq_true,if_false] at h;exact h
theorem SY (s:DSt) (n:Nat) (hs:DOk s) (e:s.off=false) (e2:n < s.cells.length):aH Tryz.prog 81 [.ref 1000 0 0 0,iv (n:Int)] (aU s) (fun r H'=>r=.tup [.agg (B4 n),iv 0]∧H'=aU s):=by
 have h:=S0 s n hs;have e3:eX s (n:Int)=true:=by rw [gM];simpa using e2
 simp only [KD,XT,e,e3,lA,Bool.false_eq_true,if_false,if_true,FV] at h;exact h
theorem NM (s:DSt) (hs:DOk s) {n:Nat} {c t:ByteArray} (hc:s.cells[n]?=some c) (ht:t.size≤64) :
  (bA (flat s.cells)).take (64*n)++(bA (t.data.toList.take t.size)++(bA (flat s.cells)).drop (64*n+t.size))=bA (flat (s.cells.set n (pG t c))):=by
 rw [← QH hs.c hc ht];simp only [bA,List.map_append,List.map_take,List.map_drop]
abbrev dH (r:List AV) (l:List ByteArray) (s:DSt):aA:=[(1000,⟨0,4,80,[r]⟩),(1001,⟨0,1,5,bA (flat l)⟩),(1002,⟨s.gq,3,103,oX s.q⟩),(1003,⟨s.ga,3,100,iE s.arm⟩)]
theorem V9 (s:DSt) (n:Nat) (c t:ByteArray) (hs:DOk s) (hc:s.cells[n]?=some c) (ht:t.size≤64) :
  aH Tryz.prog 61 [.ref 1000 0 0 0,.agg (B4 n),sv t] (aU s) (fun r H'=>r=.tup []∧H'=aU {s with cells:=s.cells.set n (pG t c)}):=by
 have hlt:=(aAm.1 hc).1;have hfl:=kF hs.c;have hmin:min t.size (64*(n+1) - 64*n)=t.size:=by omega
 have hrows:(bA (flat s.cells)).take (0+64*n)++(bA (t.data.toList.take t.size)++(bA (flat s.cells)).drop (0+64*n+t.size))=bA (flat (s.cells.set n (pG t c))):=by
  rw [aBA];exact NM s hs hc ht
 have hlen:(s.cells.set n (pG t c)).length=s.cells.length:=List.length_set;refine Bd func61 rfl ntmps61<|Sr<|Dd (by exact gR (id:=4) rfl rfl rfl rfl rfl)<|Zz<|bO follows<|Cr [1000] (fun _ _=>aF)<|Cr [1000] (fun H1 hH=>by exact bN rfl rfl ((hH _ rfl).trans rfl) rfl)<|Cr [1000] (fun _ h=>fh AB h)<|Cr [1000] (fun _ h=>lh dZ h)<|Cr [4] (fun _ h=>fh AA h)<|Cr [4] (fun _ h=>lh aQ h)<|Cr [4] (fun _ h=>fh RU h)<|Cr [4] (fun _ h=>lh aQ h)<|Cr [1001] (fun H1 hH=>by exact fJ (l:=(64*n)) (h:=(64*(n+1))) rfl A6 rfl ((hH _ rfl).trans rfl) rfl rfl rfl rfl (by omega) (by omega) rfl rfl)<|Cr [] (fun _ _=>aF)<|Cp [1001] (fun H1 hH=>by exact H8 rfl A6 rfl ((hH _ rfl).trans rfl) rfl rfl rfl hmin hrows)<|dC<|Kr ?_;refine fS (H':=dH (jC s) (s.cells.set n (pG t c)) s) (by exact .inl rfl) rfl  (Fin.wk (by(simp;done)) (Hc (aE _ _ rfl rfl rfl)<|Hc (aC _ _)<|Hc (aI _ _ _)<|Hc (aG _ _)<|trivial) ⟨rfl,rfl,rfl,rfl,trivial⟩) ?_;exact⟨rfl,by simp only [aU,dH,jC,hlen]⟩
theorem MR {α:Type} {l:List α} {i:Nat} {a:α} (h:l[i]?=some a):l.take (i+1)=l.take i++[a]:=by rw [List.take_add_one,h];rfl
def cS (cells:List ByteArray) (l:List (Nat×ByteArray)):List ByteArray:=l.foldl (fun cs p=>cs.set p.1 p.2) cells
theorem gH (l:List (Nat×ByteArray)):∀ cells:List ByteArray,(cS cells l).length=cells.length:=by
 induction l with
 | nil=>intro cells;rfl
 | cons p l ih=>intro cells;show (cS (cells.set p.1 p.2) l).length=_;rw [ih,List.length_set]
theorem F9 (cells:List ByteArray) (l:List (Nat×ByteArray)) (p:Nat×ByteArray):cS cells (l++[p])=(cS cells l).set p.1 p.2:=by unfold cS;rw [List.foldl_append];rfl
theorem wW {l:List (Nat×ByteArray)} (hl:∀ p,p∈l→p.2.size=64):∀ {cells:List ByteArray},(∀ c,c∈cells→c.size=64)→∀ c,c∈cS cells l→c.size=64:=by
 induction l with
 | nil=>intro cells h;exact h
 | cons p l ih =>
  intro cells h;exact ih (fun p hp=>hl p (by simp [hp])) (fun c hc=>by
   rcases List.mem_or_eq_of_mem_set hc with e|e
   ·exact h c e
   rw [e];exact hl p (by simp))
theorem IX {s:DSt} (hs:DOk s) (m:Nat):DOk {s with cells:=cS s.cells (s.q.take m)} :=⟨by simpa [gH] using hs.n1,by simpa [gH] using hs.n2,wW (fun p hp=>(hs.q p (List.mem_of_mem_take hp)).2) hs.c,fun p hp=>by simpa [gH] using hs.q p hp,hs.ql⟩
theorem WZ (s:DSt) (n:Nat) (t:ByteArray) (hs:DOk s) (hn:n < s.cells.length) (ht:t.size=64) :
  aH Tryz.prog 61 [.ref 1000 0 0 0,.agg (B4 n),sv t] (aU s) (fun r H'=>r=.tup []∧H'=aU {s with cells:=s.cells.set n t}):=by
 obtain ⟨c,hc⟩:=aZ hn;have h:=V9 s n c t hs hc (by omega);rw [NN ht (hs.c c (aAs hc))] at h;exact h
theorem FZ (s:DSt) (m:Nat) (hs:DOk s) (hm:m≤s.q.length) :
  aH Tryz.prog 60 [.ref 1000 0 0 0,.osl 1002 s.gq 0 m] (aU s) (fun r H'=>r=.tup []∧H'=aU {s with cells:=cS s.cells (s.q.take m)}):=by
 have hql:=hs.ql;refine Bd func60 rfl ntmps60<|Sr<|Dd aF<|Dd (by exact dE rfl nF rfl rfl rfl)<|Dd aF<|Zz<|aO ?_;refine bL (σ:=Nat) (fun i=>([(0,.ref 1000 0 0 0),(6,.osl 1002 s.gq 0 m),(7,iv (m:Int)),(8,iv (i:Int))],aU {s with cells:=cS s.cells (s.q.take i)})) (fun i=>i≤m) (fun i=>m - i) 0 (by omega) ?_ ?_
 ·exact(cA.wk (Ea<|Ea<|Eb<|Eb<|trivial) (Hc (aE _ _ rfl rfl rfl)<|Hc (aC _ _)<|Hc (aI _ _ _)<|Hc (aG _ _)<|trivial) ⟨rfl,rfl,rfl,rfl,trivial⟩)
 rintro i hi;refine Sr<|Dd dX<|Zz<|Sq ?_;refine Cn ?_ ?_<;>intro hc1
 ·have hlt:i < m:=by have:=aAe hc1;omega
  obtain ⟨p,hp⟩:=aZ (show i < s.q.length by omega);have hpe:(oX s.q)[0+i]?=some ((iD p).map .pv):=by rw [aBA,aBC,hp];rfl
  obtain ⟨hp1,hp2⟩:=hs.q p (aAs hp);have hset:=WZ {s with cells:=cS s.cells (s.q.take i)} p.1 p.2 (IX hs i) (by simpa [gH] using hp1) hp2;have hn:cS s.cells (s.q.take (i+1))=(cS s.cells (s.q.take i)).set p.1 p.2:=by rw [MR hp,F9]
  rw [← hn] at hset;refine aK<|Sq<|aO<|Sr<|Dd (by exact dM rfl IJ rfl rfl rfl rfl rfl (by omega) (by exact aAt _) (by omega) rfl)<|Dd (by exact dA rfl isAgg103 tM rfl rfl rfl hpe (by simp only [Zl,iD];rfl) rfl)<|Dd (by exact cC (id:=5) rfl V6 rfl rfl)<|Uu (pS tM)<|Zz<|Rg<|Dd aF<|Dd (dO ET)<|Dd (UZ iQ sizeOf96)<|Dd (dO ES)<|Dd (eA aX)<|Dd (by exact aB rfl rfl call61 rfl (cB hset _ ⟨rfl,rfl,rfl,rfl,trivial⟩ (by(simp;rfl))))<|Zz<|Rg<|Dd pE<|Dd aF<|Zz ?_;refine⟨i+1,by omega,by omega,?_⟩;exact(cA.wk (Ea<|Ea<|Eb<|Eb<|trivial) (Hc (aE _ _ rfl rfl rfl)<|Hc (aC _ _)<|Hc (aI _ _ _)<|Hc (aG _ _)<|trivial) ⟨rfl,rfl,rfl,rfl,trivial⟩)
 have hge:i=m:=by have:¬ _:=aAf hc1;omega
 subst hge;refine bI ?_;refine fS (H':=aU {s with cells:=cS s.cells (s.q.take i)}) (by exact .inl rfl) rfl  (Fin.wk (by(simp;done)) (Hc (aE _ _ rfl rfl rfl)<|Hc (aC _ _)<|Hc (aI _ _ _)<|Hc (aG _ _)<|trivial) ⟨rfl,rfl,rfl,rfl,trivial⟩) ?_;exact Qq
def sZ:Arm→Arm
 | .never=>.never
 | .off a w b=>.off a w b
 | .on a w b=>.off a w b
theorem sY (a:Arm):iE (sZ a)=iE a:=by cases a<;>rfl
theorem sX (g:Nat) (a:Arm):KF g (sZ a)=.pv .nilp:=by cases a<;>rfl
def FN (cells:List ByteArray) (b:Int):Option (Nat×ByteArray)→List ByteArray
 | none=>cells
 | some p=>if 0 < b then cells.set p.1 (pG (p.2.extract 0 (min b 64).toNat) ((cells[p.1]?).getD ⟨#[]⟩))else cells
def AF (s:DSt) (w:Int):Nat:=min w.toNat s.q.length
def nX (s:DSt) (w b:Int):List ByteArray:=FN (cS s.cells (s.q.take (AF s w))) b (s.q[AF s w]?)
def iY (s:DSt) (w b:Int):DSt:=if s.off then s else {s with cells:=nX s w b,q:=[],off:=true,arm:=sZ s.arm,gq:=s.gq+1}
theorem P0 (cells:List ByteArray) (b:Int) (p:Option (Nat×ByteArray)):(FN cells b p).length=cells.length:=by
 unfold FN;split
 ·rfl
 split<;>simp
theorem wI (s:DSt) (w b:Int):(nX s w b).length=s.cells.length:=by rw [nX,P0,gH]
abbrev L4 (s:DSt) (l:List ByteArray):aA:=[(1000,⟨0,4,80,[[.osl 1001 0 0 (64*l.length),.osl 1002 (s.gq+1) 0 0,bv true,.pv .nilp]]⟩),(1001,⟨0,1,5,bA (flat l)⟩),(1002,⟨s.gq+1,3,103,[]⟩),(1003,⟨s.ga,3,100,iE s.arm⟩)]
theorem R0 (s:DSt) (w b:Int) (h:s.off=false):L4 s (nX s w b)=aU (iY s w b):=by simp only [iY,h,Bool.false_eq_true,if_false,aU,jC,sY,sX,List.length_nil,List.map_nil]
theorem G7 {t:ByteArray} {k:Nat} (h:k≤t.size):(t.extract 0 k).size=k:=by simp;omega
theorem J2 (s:DSt) (w b:Int) (hs:DOk s) :
  aH Tryz.prog 29 [.ref 1000 0 0 0,iv w,iv b] (aU s) (fun r H'=>r=.tup []∧H'=aU (iY s w b)):=by
 have hql:=hs.ql;obtain ⟨m,hm⟩:∃ m,m=AF s w:=⟨_,rfl⟩;have hmw:min (max w 0) (s.q.length:Int)=(m:Int):=by rw [hm];unfold AF;omega
 have hml:m≤s.q.length:=by rw [hm];unfold AF;omega
 have hpo:=IX hs m;refine Bd func29 rfl ntmps29<|Sq<|Sq ?_;refine cV (t:=16) (n:=9) (X:=s.off) ?_ ?_
 ·all_goals refine Dd aF ?_
  all_goals refine Dd (by exact cG rfl fC rfl rfl rfl rfl)<|Dm ?_
  all_goals refine Sp 11 (fun h11=>?_) fun h11=>?_
  all_goals try contradiction
  all_goals refine On aF<|On fF<|On (dO qH)<|On (eA dD)<|Dd fV<|Zz ?_
  all_goals(exact⟨⟨_,rfl,by rfl⟩,rfl,rfl,rfl⟩)
 refine Cn ?_ ?_<;>intro hc1
 ·refine aM ?_;refine fS (H':=aU s) (.inr rfl) rfl  (Fin.wk (by(simp;done)) (Hc (aE _ _ rfl rfl rfl)<|Hc (aC _ _)<|Hc (aI _ _ _)<|Hc (aG _ _)<|trivial) ⟨rfl,rfl,rfl,rfl,trivial⟩) ?_;exact⟨rfl,by simp [iY,hc1]⟩
 have hdf:=R0 s w b hc1;refine aK<|Sr<|Dd aF<|Dd (by exact D2 rfl rfl rfl rfl)<|Dd aF<|Dd fF<|Dd (dO jK)<|Dd (eA iR)<|Dd (by exact dE rfl nF rfl rfl rfl)<|Dd (by exact xW rfl rfl rfl hmw)<|Dd aS<|Zz<|Sr<|Dd aF<|Dd aF<|Dd fF<|Dd (dO jK)<|Dd (eA iR)<|Dd aF<|Dd (by exact fJ (l:=0) (h:=m) rfl IJ rfl rfl rfl rfl rfl rfl (by omega) (by omega) rfl rfl)<|Dd (by exact aB rfl rfl call60 rfl (cB (FZ s m hs hml) _ ⟨rfl,rfl,rfl,rfl,trivial⟩ (by(simp;exact⟨rfl,rfl⟩))))<|Zz<|Sq<|Sr<|Dd aF<|Dd aF<|Dd fF<|Dd (dO jK)<|Dd (eA iR)<|Dd (by exact dE rfl nF rfl rfl rfl)<|Dd dX<|Zz ?_;refine Cn ?_ ?_<;>intro hc2
 ·have hlt:m < s.q.length:=Int.ofNat_lt.1 (aAe hc2);obtain ⟨p,hp⟩:=aZ hlt;have hpe:(oX s.q)[0+m]?=some ((iD p).map .pv):=by rw [aBA,aBC,hp];rfl
  obtain ⟨hp1,hp2⟩:=hs.q p (aAs hp);have hkm:min (max b 0) 64=((min b 64).toNat:Int):=by omega
  have hkl:(min b 64).toNat≤64:=by omega
  refine Sr<|Dd aF<|Dd fF<|Dd (dO jK)<|Dd (eA iR)<|Dd aF<|Dd (by exact dM rfl IJ rfl rfl rfl rfl rfl (by omega) (by exact aAt _) (by omega) rfl)<|Dd (by exact dA rfl isAgg103 tM rfl rfl rfl hpe (by simp only [Zl,iD];rfl) rfl)<|Dd (by exact cC (id:=7) rfl V6 rfl rfl)<|Uu (pS tM)<|Zz<|Sr<|Dd aF<|Dd (by exact D2 rfl rfl rfl rfl)<|Dd (by exact xW rfl rfl rfl hkm)<|Dd aS<|Zz<|Sr<|Dd aF<|Dd BR<|Zz ?_;refine Cn ?_ ?_<;>intro hc3
  ·have hb:0 < b:=by have:=aAe hc3;omega
   obtain ⟨c,hc⟩:=aZ (show p.1 < (cS s.cells (s.q.take m)).length by rw [gH];exact hp1);have hts:(p.2.extract 0 (min b 64).toNat).size≤64:=by rw [G7 (by omega)];exact hkl
   have hset:=V9 {s with cells:=cS s.cells (s.q.take m)} p.1 c (p.2.extract 0 (min b 64).toNat) hpo hc hts;have hfc:nX s w b=(cS s.cells (s.q.take m)).set p.1 (pG (p.2.extract 0 (min b 64).toNat) c):=by
    rw [nX,← hm,hp];simp only [FN,aAh hb,hc,Option.getD_some]
   rw [hfc] at hdf;refine bO follows<|Cr [] (fun _ _=>aF)<|Cr [7] (fun _ h=>fh ET h)<|Cr [7] (fun H1 hH=>by exact dA rfl iQ sizeOf96 rfl ((hH _ rfl).trans rfl) rfl rfl rfl rfl)<|Cr [7] (fun _ h=>fh ES h)<|Cr [7] (fun _ h=>lh aX h)<|Cr [] (fun _ _=>aF)<|Cr [] (fun H1 hH=>by exact cR (l:=0) (h:=(min b 64).toNat) rfl aL rfl rfl rfl (by omega) (by omega) rfl) ?_;refine cD (r:=⟨_,some [1000,1001,1002,1003],_⟩) (DStep.plain rfl (fun H1 hH=>by exact aB rfl rfl call61 rfl (cB hset _ ⟨(hH 1000 rfl).trans rfl,(hH 1001 rfl).trans rfl,(hH 1002 rfl).trans rfl,(hH 1003 rfl).trans rfl,trivial⟩ (by simp;rfl)))) rfl ?_;refine dC<|Kr<|Sr<|Dd aF<|Dd fF<|Dd (dO jK)<|Uu (by exact kK (q:=1002) (sz:=3) (ty:=103) rfl sizeOf77 rfl rfl rfl rfl rfl rfl rfl rfl (by simp) (by simp only [jC,List.set_cons_succ,List.set_cons_zero];rfl) (by simp only [List.set_cons_zero];rfl))<|Zz<|Sr<|Dd aF<|Dd fF<|Dd (dO qH)<|Uu (by exact cN rfl sizeOf4 rfl rfl rfl rfl rfl rfl (by simp only [aAk,List.length_nil];omega) (by simp only [Zl,iD];rfl) (by simp only [Zl,iD];rfl))<|Zz<|Rg<|Dd aF<|Dd fF<|Dd (dO kD)<|Uu (by exact cN rfl sizeOf78 rfl rfl rfl rfl rfl rfl (by simp only [aAk,List.length_nil];omega) (by simp only [Zl,iD];rfl) (by simp only [Zl,iD];rfl))<|Zz ?_;refine fS (H':=L4 s ((cS s.cells (s.q.take m)).set p.1 (pG (p.2.extract 0 (min b 64).toNat) c))) (by exact .inl rfl) rfl  (Fin.wk (by(simp;done)) (Hc (by(simp;exact⟨rfl,rfl⟩))<|Hc (aC _ _)<|Hb<|Hc (aG _ _)<|trivial) ⟨rfl,rfl,rfl,rfl,trivial⟩) ?_;exact⟨rfl,hdf⟩
  have hb:¬ 0 < b:=by have:¬ _:=aAf hc3;omega
  have hfc:nX s w b=cS s.cells (s.q.take m):=by
   rw [nX,← hm,hp];simp only [FN,aAg hb]
  rw [hfc] at hdf;refine aK<|Sr<|Dd aF<|Dd fF<|Dd (dO jK)<|Uu (by exact kK (q:=1002) (sz:=3) (ty:=103) rfl sizeOf77 rfl rfl rfl rfl rfl rfl rfl rfl (by simp) (by simp only [jC,List.set_cons_succ,List.set_cons_zero];rfl) (by simp only [List.set_cons_zero];rfl))<|Zz<|Sr<|Dd aF<|Dd fF<|Dd (dO qH)<|Uu (by exact cN rfl sizeOf4 rfl rfl rfl rfl rfl rfl (by simp only [aAk,List.length_nil];omega) (by simp only [Zl,iD];rfl) (by simp only [Zl,iD];rfl))<|Zz<|Rg<|Dd aF<|Dd fF<|Dd (dO kD)<|Uu (by exact cN rfl sizeOf78 rfl rfl rfl rfl rfl rfl (by simp only [aAk,List.length_nil];omega) (by simp only [Zl,iD];rfl) (by simp only [Zl,iD];rfl))<|Zz ?_;refine fS (H':=L4 s (cS s.cells (s.q.take m))) (by exact .inl rfl) rfl  (Fin.wk (by(simp;done)) (Hc (by(simp;exact⟨rfl,rfl⟩))<|Hc (aC _ _)<|Hb<|Hc (aG _ _)<|trivial) ⟨rfl,rfl,rfl,rfl,trivial⟩) ?_;exact⟨rfl,hdf⟩
 have hge:s.q.length≤m:=Nat.not_lt.1 (fun h=>aAf hc2 (Int.ofNat_lt.2 h));have hfc:nX s w b=cS s.cells (s.q.take m):=by
  rw [nX,← hm,List.getElem?_eq_none hge];rfl
 rw [hfc] at hdf;refine aK<|Sr<|Dd aF<|Dd fF<|Dd (dO jK)<|Uu (by exact kK (q:=1002) (sz:=3) (ty:=103) rfl sizeOf77 rfl rfl rfl rfl rfl rfl rfl rfl (by simp) (by simp only [jC,List.set_cons_succ,List.set_cons_zero];rfl) (by simp only [List.set_cons_zero];rfl))<|Zz<|Sr<|Dd aF<|Dd fF<|Dd (dO qH)<|Uu (by exact cN rfl sizeOf4 rfl rfl rfl rfl rfl rfl (by simp only [aAk,List.length_nil];omega) (by simp only [Zl,iD];rfl) (by simp only [Zl,iD];rfl))<|Zz<|Rg<|Dd aF<|Dd fF<|Dd (dO kD)<|Uu (by exact cN rfl sizeOf78 rfl rfl rfl rfl rfl rfl (by simp only [aAk,List.length_nil];omega) (by simp only [Zl,iD];rfl) (by simp only [Zl,iD];rfl))<|Zz ?_;refine fS (H':=L4 s (cS s.cells (s.q.take m))) (by exact .inl rfl) rfl  (Fin.wk (by(simp;done)) (Hc (by(simp;exact⟨rfl,rfl⟩))<|Hc (aC _ _)<|Hb<|Hc (aG _ _)<|trivial) ⟨rfl,rfl,rfl,rfl,trivial⟩) ?_;exact⟨rfl,hdf⟩
theorem MP {cells:List ByteArray} (hc:∀ c,c∈cells→c.size=64) {b:Int} {p:Option (Nat×ByteArray)} (hp:∀ x,p=some x→x.1 < cells.length∧x.2.size=64):∀ c,c∈FN cells b p→c.size=64:=by
 unfold FN
 split
 ·exact hc
 next x =>
 obtain ⟨h1,h2⟩:=hp x rfl
 split
 ·intro c hm;rcases List.mem_or_eq_of_mem_set hm with h|h
  ·exact hc c h
  obtain ⟨d,hd⟩:=aZ h1;have hd2:=hc d (aAs hd);have e1:(x.2.extract 0 (min b 64).toNat).size=(min b 64).toNat:=G7 (by omega);rw [h,hd,Option.getD_some,NL (by omega),hd2]
 exact hc
theorem L3 {s:DSt} (hs:DOk s) (w b:Int):DOk (iY s w b):=by
 unfold iY
 split
 ·exact hs
 refine⟨by simpa [wI] using hs.n1,by simpa [wI] using hs.n2,?_,by simp,by simp⟩;refine MP (wW (fun p hp=>(hs.q p (List.mem_of_mem_take hp)).2) hs.c) (fun x hx=>?_);rw [gH];exact hs.q x (aAs hx)
def dR (s:DSt):DSt:=match s.arm with
 | .on a w b=>if 0 < a then {s with arm:=.on (a - 1) w b} else iY s w b
 | _=>s
def eQ (s:DSt):Int:=match s.arm with
 | .on a w b=>if 0 < a then 0 else 22
 | _=>0
def MF (s:DSt):Prop:=∀ a w b,s.arm=.on a w b→a≤9223372036854775807
theorem HA (s:DSt) (hs:DOk s) (ha:MF s) :
  aH Tryz.prog 147 [.ref 1000 0 0 0] (aU s) (fun r H'=>r=iv (eQ s)∧H'=aU (dR s)):=by
 obtain ⟨cells,q,off,arm,gq,ga⟩:=s;cases arm with
 | never =>
  refine Bd aAE rfl ZD<|Sr<|Dd aS<|Zz<|Sq<|Sr<|Dd aF<|Dd fF<|Dd (dO kD)<|Dd (eA nK)<|Dd (by exact iW rfl O8 rfl rfl)<|Zz ?_;refine Cn ?_ ?_<;>intro hc1
  ·refine Sr<|Dd aS<|Zz<|aM ?_;refine bD (H':=aU ⟨cells,q,off,.never,gq,ga⟩) (.inr rfl) rfl (aJ rfl) (Fin.wk (by(simp;done)) (Hc (aE _ _ rfl rfl rfl)<|Hc (aC _ _)<|Hc (aI _ _ _)<|Hc (aG .never _)<|trivial) ⟨rfl,rfl,rfl,rfl,trivial⟩) ?_;exact Qq
  cases hc1
 | off a w b =>
  refine Bd aAE rfl ZD<|Sr<|Dd aS<|Zz<|Sq<|Sr<|Dd aF<|Dd fF<|Dd (dO kD)<|Dd (eA nK)<|Dd (by exact iW rfl O8 rfl rfl)<|Zz ?_;refine Cn ?_ ?_<;>intro hc1
  ·refine Sr<|Dd aS<|Zz<|aM ?_;refine bD (H':=aU ⟨cells,q,off,.off a w b,gq,ga⟩) (.inr rfl) rfl (aJ rfl) (Fin.wk (by(simp;done)) (Hc (aE _ _ rfl rfl rfl)<|Hc (aC _ _)<|Hc (aI _ _ _)<|Hc (aG (.off _ _ _) _)<|trivial) ⟨rfl,rfl,rfl,rfl,trivial⟩) ?_;exact Qq
  cases hc1
 | on a w b =>
  have ha':=ha a w b rfl;refine Bd aAE rfl ZD<|Sr<|Dd aS<|Zz<|Sq<|Sr<|Dd aF<|Dd fF<|Dd (dO kD)<|Dd (eA nK)<|Dd (by exact cG rfl O8 rfl rfl rfl rfl)<|Zz ?_;refine Cn ?_ ?_<;>intro hc1
  ·cases hc1
  refine aK<|Sq<|Sr<|Dd aF<|Dd fF<|Dd (dO kD)<|Dd (eA nK)<|Dd fF<|Dd (dO EU)<|Dd (eA aQ)<|Dd BR<|Zz ?_;refine Cn ?_ ?_<;>intro hc2
  ·have h0:0 < a:=aAe hc2;refine Sr<|Dd aF<|Dd fF<|Dd (dO kD)<|Dd (eA nK)<|Dd fF<|Dd (dO EU)<|Dd (eA aQ)<|Dd (by exact eC rfl rfl rfl (by exact iU (by omega) (by omega)))<|Dd fF<|Dd (dO EU)<|Uu (by exact cN (r:=[iv a,iv w,iv b]) rfl sizeOf3 rfl rfl rfl rfl rfl rfl (by simp) rfl rfl)<|Zz<|Sr<|Dd aS<|Zz<|aM ?_;refine bD (H':=aU ⟨cells,q,off,.on (a - 1) w b,gq,ga⟩) (.inr rfl) rfl (aJ rfl) (Fin.wk (by(simp;done)) (Hc (aE _ _ rfl rfl rfl)<|Hc (aC _ _)<|Hc (aI _ _ _)<|Hc (aG (.off _ _ _) _)<|trivial) ⟨rfl,rfl,rfl,rfl,trivial⟩) ?_;exact⟨by simp [eQ,h0],by simp only [dR,aAh h0]⟩
  have h0:¬ 0 < a:=aAf hc2;refine aK<|Sq<|bO follows<|Cr [1000] (fun _ _=>aF)<|Cr [1000] (fun _ _=>aF)<|Cr [1000] (fun H1 hH=>by exact bN rfl rfl ((hH _ rfl).trans rfl) rfl)<|Cr [1000] (fun _ h=>fh kD h)<|Cr [1000] (fun _ h=>lh nK h)<|Cr [1003] (fun H1 hH=>by exact bN rfl rfl ((hH _ rfl).trans rfl) rfl)<|Cr [1003] (fun _ h=>fh VH h)<|Cr [1003] (fun _ h=>lh aQ h)<|Cr [1000] (fun _ _=>aF)<|Cr [1000] (fun H1 hH=>by exact bN rfl rfl ((hH _ rfl).trans rfl) rfl)<|Cr [1000] (fun _ h=>fh kD h)<|Cr [1000] (fun _ h=>lh nK h)<|Cr [1003] (fun H1 hH=>by exact bN rfl rfl ((hH _ rfl).trans rfl) rfl)<|Cr [1003] (fun _ h=>fh VG h)<|Cr [1003] (fun _ h=>lh aQ h) ?_;refine cD (r:=⟨_,some [1000,1001,1002,1003],_⟩) (DStep.plain rfl (fun H1 hH=>by exact aB rfl rfl aAX rfl (cB (J2 ⟨cells,q,off,.on a w b,gq,ga⟩ w b hs) _ ⟨(hH 1000 rfl).trans rfl,(hH 1001 rfl).trans rfl,(hH 1002 rfl).trans rfl,(hH 1003 rfl).trans rfl,trivial⟩ (by(simp;rfl))))) rfl ?_;refine dC<|Kr<|Sr<|Dd aS<|Zz<|aM ?_;refine bD (H':=aU (iY ⟨cells,q,off,.on a w b,gq,ga⟩ w b)) (.inr rfl) rfl (aJ rfl) (Fin.wk (by(simp;done)) (Hc (aE _ _ rfl rfl rfl)<|Hc (aC _ _)<|Hc (aI _ _ _)<|Hc (aG _ _)<|trivial) ⟨rfl,rfl,rfl,rfl,trivial⟩) ?_;exact⟨by simp [eQ,h0],by simp only [dR,aAg h0]⟩
def jV (s:DSt) (n:Nat) (t:ByteArray):DSt:={s with q:=s.q++[(n,t)],gq:=s.gq+1}
theorem vS {s:DSt} (hs:DOk s) {n:Nat} {t:ByteArray} (hn:n < s.cells.length) (ht:t.size=64) (hq:s.q.length < 1048576):DOk (jV s n t) :=⟨hs.n1,hs.n2,hs.c,fun p hp=>by
  rcases List.mem_append.1 hp with h|h
  ·exact hs.q p h
  rw [aAl.1 h];exact⟨hn,ht⟩,by show (s.q++[(n,t)]).length≤_;simp;omega⟩
def jL (s:DSt) (k:Int) (t:ByteArray):DSt:=if s.off then s else if eX s k&&decide (t.size=64)then dR (jV s k.toNat t)else s
def iI (s:DSt) (k:Int) (t:ByteArray):Int:=if s.off then 22 else if eX s k&&decide (t.size=64)then eQ (jV s k.toNat t)else 1
theorem XJ (s:DSt) (p:Nat×ByteArray):s.q.length+1=(s.q++[p]).length:=by simp
theorem T4 (s:DSt) (k:Int) (t:ByteArray) (hs:DOk s) (ha:MF s) (hq:s.q.length < 1048576) :
  aH Tryz.prog 121 [.ref 1000 0 0 0,iv k,sv t] (aU s) (fun r H'=>r=iv (iI s k t)∧H'=aU (jL s k t)):=by
 refine Bd func121 rfl ntmps121 ?_;cases e:s.off with
 | true =>
  refine Sr<|Dd aS<|Zz<|Sr<|Dd aF<|Dd aF<|Dd (by exact aB rfl rfl vK rfl (cB (SZ s k hs e) _ ⟨rfl,rfl,rfl,rfl,trivial⟩ (by simp;rfl)))<|Dd aF<|Dd dY<|Dd dY<|Dd (by exact cC (id:=7) rfl xK rfl rfl)<|Uu (pS sizeOf96)<|Dd aS<|Zz<|Sq<|Sr<|Dd aF<|Dd wB<|Zz ?_;refine Cn ?_ ?_<;>intro hc1
  ·refine Sr<|Dd aF<|Dd aS<|Zz<|aM ?_;refine bD (H':=aU s) (.inr rfl) rfl (aJ rfl) (Fin.wk (by(simp;done)) (Hc (aE _ _ rfl rfl rfl)<|Hc (aC _ _)<|Hc (aI _ _ _)<|Hc (aG _ _)<|trivial) ⟨rfl,rfl,rfl,rfl,trivial⟩) ?_;exact⟨by simp [iI,e],by simp [jL,e]⟩
  cases hc1
 | false =>
  rcases kQ s k with e2|⟨n,rfl,hn⟩
  ·refine Sr<|Dd aS<|Zz<|Sr<|Dd aF<|Dd aF<|Dd (by exact aB rfl rfl vK rfl (cB (WJ s k hs e e2) _ ⟨rfl,rfl,rfl,rfl,trivial⟩ (by simp;rfl)))<|Dd aF<|Dd dY<|Dd dY<|Dd (by exact cC (id:=7) rfl xK rfl rfl)<|Uu (pS sizeOf96)<|Dd aS<|Zz<|Sq<|Sr<|Dd aF<|Dd wB<|Zz ?_;refine Cn ?_ ?_<;>intro hc2
   ·refine Sr<|Dd aF<|Dd aS<|Zz<|aM ?_;refine bD (H':=aU s) (.inr rfl) rfl (aJ rfl) (Fin.wk (by(simp;done)) (Hc (aE _ _ rfl rfl rfl)<|Hc (aC _ _)<|Hc (aI _ _ _)<|Hc (aG _ _)<|trivial) ⟨rfl,rfl,rfl,rfl,trivial⟩) ?_;exact⟨by simp [iI,e,e2],by simp [jL,e,e2]⟩
   cases hc2
  have e2:eX s (n:Int)=true:=by rw [gM];simpa using hn
  refine Sr<|Dd aS<|Zz<|Sr<|Dd aF<|Dd aF<|Dd (by exact aB rfl rfl vK rfl (cB (SY s n hs e hn) _ ⟨rfl,rfl,rfl,rfl,trivial⟩ (by simp;rfl)))<|Dd aF<|Dd dY<|Dd dY<|Dd (by exact cC (id:=7) rfl xK rfl rfl)<|Uu (pS sizeOf96)<|Dd aS<|Zz<|Sq<|Sr<|Dd aF<|Dd wB<|Zz ?_;refine Cn ?_ ?_<;>intro hc3
  ·cases hc3
  refine aK<|Sq<|Sr<|Dd aF<|Dd (BP aL)<|Dd wB<|Zz ?_;refine Cn ?_ ?_<;>intro hc4
  ·have ht:¬ t.size=64:=by
    have:(!decide ((t.size:Int)=64))=true:=hc4;simp at this;omega
   refine Sr<|Dd aS<|Zz<|aM ?_;refine bD (H':=aU s) (.inr rfl) rfl (aJ rfl) (Fin.wk (by(simp;done)) (Hc (aE _ _ rfl rfl rfl)<|Hc (aC _ _)<|Hc (aI _ _ _)<|Hc (aG _ _)<|trivial) ⟨rfl,rfl,rfl,rfl,trivial⟩) ?_;exact⟨by simp [iI,e,e2,ht],by simp [jL,e,e2,ht]⟩
  have ht:t.size=64:=by
   have:(!decide ((t.size:Int)=64))=false:=hc4;simp at this;omega
  have hw:=vS hs hn ht hq;have hfin:jL s n t=dR (jV s n t):=by simp [jL,e,e2,ht]
  have hfe:iI s n t=eQ (jV s n t):=by simp [iI,e,e2,ht]
  refine aK<|Sq<|bO follows<|Cr [1000] (fun _ _=>aF)<|Cr [1000] (fun _ _=>aF)<|Cr [1000] (fun H1 hH=>by exact bN rfl rfl ((hH _ rfl).trans rfl) rfl)<|Cr [1000] (fun _ h=>fh jK h)<|Cr [1000] (fun _ h=>lh iR h)<|Cr [7] (fun H1 hH=>by exact dA rfl iQ sizeOf96 rfl ((hH _ rfl).trans rfl) rfl rfl (by simp only [Zl,iD,iE,jC];rfl) rfl)<|Cr [] (fun _ _=>aF)<|Cr [] (fun _ _=>(PI Y7))<|Cr [] (fun H1 hH=>by exact bJ [iD (n,t)] rfl IJ rfl rfl rfl rfl rfl (by simp [iD]))<|Cp [1002] (fun H1 hH=>by exact fQ rfl IJ YY rfl ((hH _ rfl).trans rfl) rfl rfl rfl (aAi _) rfl (by simp [iD]) (rfl:_=1) (by omega) (XJ s (n,t)) (List.map_append (l₂:=[(n,t)])).symm)<|Cr [1000] (fun H1 hH=>by exact bN rfl rfl ((hH _ rfl).trans rfl) rfl)<|Cr [1000] (fun _ h=>fh jK h) ?_;refine Cp [1000,1002] (fun H1 hH=>by exact cN rfl sizeOf77 rfl rfl rfl ((hH _ rfl).trans rfl) rfl rfl (by simp only [aAk,List.length_nil];omega) (by simp only [Zl,iD,iE,jC];rfl) (by simp only [Zl,iD,iE,jC];rfl))<|dC<|Kr<|Sr<|Dd aF<|Dd (by exact aB rfl rfl call147 rfl (cB (HA (jV s n t) hw (fun a w b h=>ha a w b h)) _ ⟨rfl,rfl,rfl,rfl,trivial⟩ (by simp;rfl)))<|Dd aS<|Zz<|aM ?_;refine bD (H':=aU (dR (jV s n t))) (.inr rfl) rfl (aJ rfl) (Fin.wk (by(simp;done)) (Hc (aE _ _ rfl rfl rfl)<|Hc (aC _ _)<|Hc (aI _ _ _)<|Hc (aG _ _)<|trivial) ⟨rfl,rfl,rfl,rfl,trivial⟩) ?_;exact⟨by rw [hfe],by rw [hfin]⟩
theorem HF {s:DSt} (hs:DOk s):DOk (dR s):=by
 unfold dR
 split
 ·split
  ·exact⟨hs.n1,hs.n2,hs.c,hs.q,hs.ql⟩
  exact L3 hs _ _
 exact hs
def wJ (s:DSt):DSt:={s with cells:=cS s.cells s.q,q:=[],gq:=s.gq+1}
def jM (s:DSt):DSt:=if s.off then s else if eQ s=0 then wJ (dR s)else dR s
def nB (s:DSt):Int:=if s.off then 22 else eQ s
theorem WT (s:DSt) (hs:DOk s) (ha:MF s) :
  aH Tryz.prog 122 [.ref 1000 0 0 0] (aU s) (fun r H'=>r=iv (nB s)∧H'=aU (jM s)):=by
 have hc:=HF hs;have hset:=FZ (dR s) (dR s).q.length hc (aAo _);rw [List.take_length] at hset;refine Bd func122 rfl ntmps122<|Sr<|Dd aS<|Zz<|Sq<|Sr<|Dd aF<|Dd (by exact cG rfl fC rfl rfl rfl rfl)<|Zz ?_;refine Cn ?_ ?_<;>intro hc1
 ·cases hc1
 refine aK<|Sq<|Sr<|Dd aF<|Dd fF<|Dd (dO qH)<|Dd (eA dD)<|Zz ?_;refine Cn ?_ ?_<;>intro hc2
 ·have e:s.off=true:=hc2;refine Sr<|Dd aS<|Zz<|aM ?_;refine bD (H':=aU s) (.inr rfl) rfl (aJ rfl) (Fin.wk (by(simp;done)) (Hc (aE _ _ rfl rfl rfl)<|Hc (aC _ _)<|Hc (aI _ _ _)<|Hc (aG _ _)<|trivial) ⟨rfl,rfl,rfl,rfl,trivial⟩) ?_;exact⟨by simp [nB,e],by simp [jM,e]⟩
 have e:s.off=false:=hc2;refine aK<|Sq<|Sr<|Dd aF<|Dd (by exact aB rfl rfl call147 rfl (cB (HA s hs ha) _ ⟨rfl,rfl,rfl,rfl,trivial⟩ (by simp;rfl)))<|Dd aS<|Zz<|Sr<|Dd aF<|Dd wB<|Zz ?_;refine Cn ?_ ?_<;>intro hc3
 ·have e2:¬ eQ s=0:=by
   have:(!decide (eQ s=0))=true:=hc3
   simpa using this
  refine Sr<|Dd aF<|Dd aS<|Zz<|aM ?_;refine bD (H':=aU (dR s)) (.inr rfl) rfl (aJ rfl) (Fin.wk (by(simp;done)) (Hc (aE _ _ rfl rfl rfl)<|Hc (aC _ _)<|Hc (aI _ _ _)<|Hc (aG _ _)<|trivial) ⟨rfl,rfl,rfl,rfl,trivial⟩) ?_;exact⟨by simp [nB,e],by simp [jM,e,e2]⟩
 have e2:eQ s=0:=by
  have:(!decide (eQ s=0))=false:=hc3
  simpa using this
 refine aK<|Sr<|Dd aF<|Dd aF<|Dd fF<|Dd (dO jK)<|Dd (eA iR)<|Dd (by exact aB rfl rfl call60 rfl (cB hset _ ⟨rfl,rfl,rfl,rfl,trivial⟩ (by(simp;exact⟨rfl,rfl⟩))))<|Zz<|Sr<|Dd aF<|Dd fF<|Dd (dO jK)<|Uu (by exact kK (q:=1002) (sz:=3) (ty:=103) rfl sizeOf77 rfl rfl rfl rfl rfl rfl rfl rfl (by simp) (by simp only [jC,List.set_cons_succ,List.set_cons_zero];rfl) (by simp only [List.set_cons_zero];rfl))<|Zz<|Sr<|Dd aS<|Zz<|aM ?_;refine bD (H':=aU (wJ (dR s))) (.inr rfl) rfl (aJ rfl) (Fin.wk (by(simp;done)) (Hc (aE _ _ rfl rfl rfl)<|Hc (aC _ _)<|Hc (aI _ _ _)<|Hc (aG _ _)<|trivial) ⟨rfl,rfl,rfl,rfl,trivial⟩) ?_;exact⟨by simp [nB,e,e2],by simp [jM,e,e2]⟩
def mH (s:DSt):DSt:={s with off:=false,arm:=sZ s.arm}
theorem MT (s:DSt):([(1000,⟨0,4,80,[[.osl 1001 0 0 (64*s.cells.length),.osl 1002 s.gq 0 s.q.length,bv false,.pv .nilp]]⟩),(1001,⟨0,1,5,bA (flat s.cells)⟩),(1002,⟨s.gq,3,103,oX s.q⟩),(1003,⟨s.ga,3,100,iE s.arm⟩)]:aA)=aU (mH s):=by simp only [mH,aU,jC,sY,sX]
theorem qV (s:DSt):aH Tryz.prog 30 [.ref 1000 0 0 0] (aU s) (fun r H'=>r=.tup []∧H'=aU (mH s)):=by
 rw [← MT s];refine Bd func30 rfl ntmps30<|Sr<|Dd aF<|Dd (by exact xB rfl fC rfl rfl rfl rfl)<|Zz ?_;refine Cn ?_ ?_<;>intro hc1
 ·refine Sr<|Dd aF<|Dd fF<|Dd (dO qH)<|Uu (by exact cN rfl sizeOf4 rfl rfl rfl rfl rfl rfl (by simp only [aAk,List.length_nil];omega) (by simp only [Zl,iD,iE,jC];rfl) (by simp only [Zl,iD,iE,jC];rfl))<|Zz<|Rg<|Dd aF<|Dd fF<|Dd (dO kD)<|Uu (by exact cN rfl sizeOf78 rfl rfl rfl rfl rfl rfl (by simp only [aAk,List.length_nil];omega) (by simp only [Zl,iD,iE,jC];rfl) (by simp only [Zl,iD,iE,jC];rfl))<|Zz ?_;refine fS (H':=[(1000,⟨0,4,80,[[.osl 1001 0 0 (64*s.cells.length),.osl 1002 s.gq 0 s.q.length,bv false,.pv .nilp]]⟩),(1001,⟨0,1,5,bA (flat s.cells)⟩),(1002,⟨s.gq,3,103,oX s.q⟩),(1003,⟨s.ga,3,100,iE s.arm⟩)]) (by exact .inl rfl) rfl  (Fin.wk (by(simp;done)) (Hc (by(simp;exact⟨rfl,rfl⟩))<|Hc (aC _ _)<|Hc (aI _ _ _)<|Hc (aG _ _)<|trivial) ⟨rfl,rfl,rfl,rfl,trivial⟩) ?_;exact Qq
 cases hc1
def HB (s:DSt) (a w b:Int):DSt:=if s.off then s else if 0≤a then {s with arm:=.on a w b,ga:=s.ga+1} else {s with arm:=sZ s.arm}
theorem V0 (s:DSt):([(1000,⟨0,4,80,[[.osl 1001 0 0 (64*s.cells.length),.osl 1002 s.gq 0 s.q.length,bv s.off,.pv .nilp]]⟩),(1001,⟨0,1,5,bA (flat s.cells)⟩),(1002,⟨s.gq,3,103,oX s.q⟩),(1003,⟨s.ga,3,100,iE s.arm⟩)]:aA)=aU {s with arm:=sZ s.arm}:=by simp only [aU,jC,sY,sX]
theorem Y9 (s:DSt) (a w b:Int):aH Tryz.prog 28 [.ref 1000 0 0 0,iv a,iv w,iv b] (aU s) (fun r H'=>r=.tup []∧H'=aU (HB s a w b)):=by
 refine Bd func28 rfl ntmps28<|Sq<|Sq ?_;refine cV (t:=15) (n:=9) (X:=s.off) ?_ ?_
 ·all_goals refine Dd aF ?_
  all_goals refine Dd (by exact cG rfl fC rfl rfl rfl rfl)<|Dm ?_
  all_goals refine Sp 10 (fun h10=>?_) fun h10=>?_
  all_goals try contradiction
  all_goals refine On aF<|On fF<|On (dO qH)<|On (eA dD)<|Dd fV<|Zz ?_
  all_goals(exact⟨⟨_,rfl,by rfl⟩,rfl,rfl,rfl⟩)
 refine Cn ?_ ?_<;>intro hc1
 ·refine aM ?_;refine fS (H':=aU s) (.inr rfl) rfl  (Fin.wk (by(simp;done)) (Hc (aE _ _ rfl rfl rfl)<|Hc (aC _ _)<|Hc (aI _ _ _)<|Hc (aG _ _)<|trivial) ⟨rfl,rfl,rfl,rfl,trivial⟩) ?_;exact⟨rfl,by simp [HB,hc1]⟩
 refine aK<|Sr<|Dd aF<|Dd fF<|Dd (dO kD)<|Uu (by exact cN rfl sizeOf78 rfl rfl rfl rfl rfl rfl (by simp only [aAk,List.length_nil];omega) (by simp only [Zl,iD,iE,jC];rfl) (by simp only [Zl,iD,iE,jC];rfl))<|Zz<|Sr<|Dd aF<|Dd RS<|Zz ?_;refine Cn ?_ ?_<;>intro hc2
 ·have h0:0≤a:=aAe hc2;refine Rg<|Dd aF<|Dd aF<|Dd aF<|Dd aF<|Dd (by exact DG rfl Y8 rfl (rfl:_=some [iv a,iv w,iv b]))<|Dd (by exact BM (id:=1003) rfl rfl rfl rfl rfl rfl)<|Dd fF<|Dd (dO kD)<|Uu (by exact cN rfl sizeOf78 rfl rfl rfl rfl rfl rfl (by simp only [aAk,List.length_nil];omega) (by simp only [Zl,iD,iE,jC];rfl) (by simp only [Zl,iD,iE,jC];rfl))<|Zz ?_;refine fS (H':=aU {s with arm:=.on a w b,ga:=s.ga+1}) (by exact .inl rfl) rfl  (Fin.wk (by(simp;done)) (Hc (aE _ _ rfl rfl rfl)<|Hc (aC _ _)<|Hc (aI _ _ _)<|Hc (aG (.off _ _ _) _)<|trivial) ⟨rfl,rfl,rfl,rfl,trivial⟩) ?_;exact⟨rfl,by simp [HB,hc1,h0]⟩
 have h0:¬ 0≤a:=aAf hc2;refine aK ?_;refine fS (H':=[(1000,⟨0,4,80,[[.osl 1001 0 0 (64*s.cells.length),.osl 1002 s.gq 0 s.q.length,bv s.off,.pv .nilp]]⟩),(1001,⟨0,1,5,bA (flat s.cells)⟩),(1002,⟨s.gq,3,103,oX s.q⟩),(1003,⟨s.ga,3,100,iE s.arm⟩)]) (by exact .inl rfl) rfl  (Fin.wk (by(simp;done)) (Hc (by(simp;exact⟨rfl,rfl⟩))<|Hc (aC _ _)<|Hc (aI _ _ _)<|Hc (aG _ _)<|trivial) ⟨rfl,rfl,rfl,rfl,trivial⟩) ?_;exact⟨rfl,by rw [V0];simp only [HB,hc1,h0,Bool.false_eq_true,if_false]⟩
def oZ (n:Nat) (p:Nat×ByteArray):Bool:=decide (p.1=n)
def bM (s:DSt) (n:Nat):ByteArray:=((s.q.reverse.find? (oZ n)).map (·.2)).getD ((s.cells[n]?).getD ⟨#[]⟩)
theorem RX {q:List (Nat×ByteArray)} {n j:Nat} {p:Nat×ByteArray} (hp:q[j]?=some p) (h1:oZ n p=true) (h2:∀ i,j < i→∀ x,q[i]?=some x→oZ n x=false):q.reverse.find? (oZ n)=some p:=by
 obtain ⟨hlt,he⟩:=aAm.1 hp;have hs:q=q.take j++(p::q.drop (j+1)):=by
  conv=>lhs;rw [← List.take_append_drop j q,List.drop_eq_getElem_cons hlt,he]
 have hn:(q.drop (j+1)).reverse.find? (oZ n)=none:=by
  rw [List.find?_eq_none];intro x hx;rw [List.mem_reverse] at hx;obtain ⟨i,hi⟩:=aBD.1 hx;rw [List.getElem?_drop] at hi;simp [h2 (j+1+i) (by omega) x hi]
 rw [hs,List.reverse_append,List.reverse_cons,List.append_assoc,List.find?_append,hn];simp [h1]
theorem BT {q:List (Nat×ByteArray)} {n:Nat} (h2:∀ (i:Nat) (x:Nat×ByteArray),q[i]?=some x→oZ n x=false):q.reverse.find? (oZ n)=none:=by rw [List.find?_eq_none];intro x hx;rw [List.mem_reverse] at hx;obtain ⟨i,hi⟩:=aBD.1 hx;simp [h2 i x hi]
theorem XS (c:ByteArray):(⟨c.data.toList.toArray⟩:ByteArray)=c:=by cases c;simp
def AH (s:DSt) (k:Int):ByteArray:=if s.off then⟨#[]⟩else if eX s k then bM s k.toNat else⟨#[]⟩
def oR (s:DSt) (k:Int):Int:=if s.off then 22 else if eX s k then 0 else 1
theorem QN (s:DSt) (k:Int) (hs:DOk s) :
  aH Tryz.prog 41 [.ref 1000 0 0 0,iv k] (aU s) (fun r H'=>r=.tup [sv (AH s k),iv (oR s k)]∧H'=aU s):=by
 have hql:=hs.ql;refine Bd func41 rfl ntmps41 ?_;cases e:s.off with
 | true =>
  refine Sr<|Dd aS<|Dd aS<|Zz<|Sr<|Dd aF<|Dd aF<|Dd (by exact aB rfl rfl vK rfl (cB (SZ s k hs e) _ ⟨rfl,rfl,rfl,rfl,trivial⟩ (by simp;rfl)))<|Dd aF<|Dd dY<|Dd dY<|Dd (by exact cC (id:=6) rfl xK rfl rfl)<|Uu (pS sizeOf96)<|Dd aS<|Zz<|Sq<|Sr<|Dd aF<|Dd wB<|Zz ?_;refine Cn ?_ ?_<;>intro hc1
  ·refine Sr<|Dd aF<|Dd aS<|Dd aS<|Zz<|aM ?_;refine fZ (H':=aU s) (.inr rfl) rfl (aJ rfl) (aJ rfl) (Fin.wk (by(simp;done)) (Hc (aE _ _ rfl rfl rfl)<|Hc (aC _ _)<|Hc (aI _ _ _)<|Hc (aG _ _)<|trivial) ⟨rfl,rfl,rfl,rfl,trivial⟩) ?_;exact⟨by simp [AH,oR,e],rfl⟩
  cases hc1
 | false =>
  rcases kQ s k with e2|⟨n,rfl,hn⟩
  ·refine Sr<|Dd aS<|Dd aS<|Zz<|Sr<|Dd aF<|Dd aF<|Dd (by exact aB rfl rfl vK rfl (cB (WJ s k hs e e2) _ ⟨rfl,rfl,rfl,rfl,trivial⟩ (by simp;rfl)))<|Dd aF<|Dd dY<|Dd dY<|Dd (by exact cC (id:=6) rfl xK rfl rfl)<|Uu (pS sizeOf96)<|Dd aS<|Zz<|Sq<|Sr<|Dd aF<|Dd wB<|Zz ?_;refine Cn ?_ ?_<;>intro hc2
   ·refine Sr<|Dd aF<|Dd aS<|Dd aS<|Zz<|aM ?_;refine fZ (H':=aU s) (.inr rfl) rfl (aJ rfl) (aJ rfl) (Fin.wk (by(simp;done)) (Hc (aE _ _ rfl rfl rfl)<|Hc (aC _ _)<|Hc (aI _ _ _)<|Hc (aG _ _)<|trivial) ⟨rfl,rfl,rfl,rfl,trivial⟩) ?_;exact⟨by simp [AH,oR,e,e2],rfl⟩
   cases hc2
  have e2:eX s (n:Int)=true:=by rw [gM];simpa using hn
  have h1:AH s n=bM s n:=by simp [AH,e,e2]
  have h2:oR s n=0:=by simp [oR,e,e2]
  rw [h1,h2];refine Sr<|Dd aS<|Dd aS<|Zz<|Sr<|Dd aF<|Dd aF<|Dd (by exact aB rfl rfl vK rfl (cB (SY s n hs e hn) _ ⟨rfl,rfl,rfl,rfl,trivial⟩ (by simp;rfl)))<|Dd aF<|Dd dY<|Dd dY<|Dd (by exact cC (id:=6) rfl xK rfl rfl)<|Uu (pS sizeOf96)<|Dd aS<|Zz<|Sq<|Sr<|Dd aF<|Dd wB<|Zz ?_;refine Cn ?_ ?_<;>intro hc3
  ·cases hc3
  refine aK<|Sq<|Sr<|Dd aF<|Dd fF<|Dd (dO jK)<|Dd (eA iR)<|Dd (by exact dE rfl nF rfl rfl rfl)<|Dd (by exact eC rfl rfl rfl (by exact iU (by omega) (by omega)))<|Dd aS<|Zz<|aO ?_;refine bL (σ:=Nat) (fun j=>([(0,.ref 1000 0 0 0),(6,.ref 6 0 0 0),(8,iv ((j:Int) - 1))],(6,bx 2 96 (B4 n))::aU s)) (fun j=>j≤s.q.length∧∀ i,j≤i→∀ x,s.q[i]?=some x→oZ n x=false) (fun j=>j) s.q.length
   ⟨aAo _,fun i hi x hx=>by have:=(aAm.1 hx).1;omega⟩ ?_ ?_
  ·exact(cA.wk (Ea<|Ea<|Eb<|trivial) (Hb<|Hc (aE _ _ rfl rfl rfl)<|Hc (aC _ _)<|Hc (aI _ _ _)<|Hc (aG _ _)<|trivial) ⟨rfl,rfl,rfl,rfl,trivial⟩)
  rintro j ⟨hj,hpre⟩;cases j with
  | succ j =>
   have ej:((j+1:Nat):Int) - 1=(j:Int):=by omega
   rw [ej];refine Sq<|Sr<|Dd aF<|Dd RS<|Zz ?_;refine Cn ?_ ?_<;>intro hc4
   ·obtain ⟨p,hp⟩:=aZ (show j < s.q.length by omega);have hpe:(oX s.q)[j]?=some ((iD p).map .pv):=by rw [aBC,hp];rfl
    have hm:decide (((64*p.1:Nat):Int)=((64*n:Nat):Int))=oZ n p:=by
     unfold oZ;rw [Bool.eq_iff_iff];simp;omega
    refine aK<|Sq<|aO<|Sq<|bO follows<|Cq aF<|Cq fF<|Cq (dO jK)<|Cq (eA iR)<|Cq aF<|Cq (by exact dM rfl IJ rfl rfl rfl rfl rfl (by omega) (by exact aAt _) (by omega) (aBA _))<|Cq (dO ET)<|Cq (dO AA)<|Cq (by exact aY rfl aQ rfl rfl rfl hpe rfl)<|Cq (dO AA)<|Cq (eA aQ)<|Cq hU<|dC<|Kr ?_;refine Cn ?_ ?_<;>intro hc5
    ·rw [hm] at hc5;refine Sr<|Dd aF<|Dd fF<|Dd (dO jK)<|Dd (eA iR)<|Dd aF<|Dd (by exact dM rfl IJ rfl rfl rfl rfl rfl (by omega) (by exact aAt _) (by omega) (aBA _))<|Dd (dO ES)<|Dd (by exact aY rfl aX rfl rfl rfl hpe rfl)<|Dd aS<|Dd aS<|Zz<|aM ?_;refine fZ (H':=aU s) (.inr rfl) rfl (aJ rfl) (aJ rfl) (Fin.wk (by(simp;done)) (Hc (aE _ _ rfl rfl rfl)<|Hc (aC _ _)<|Hc (aI _ _ _)<|Hc (aG _ _)<|trivial) ⟨rfl,rfl,rfl,rfl,trivial⟩) ?_;refine⟨?_,rfl⟩;rw [bM,RX hp hc5 (fun i hi x hx=>hpre i (by omega) x hx)];rfl
    rw [hm] at hc5;refine aK<|Rg<|Dd aF<|Dd (by exact eC rfl rfl rfl (iU (by omega) (by omega)))<|Da ?_;refine⟨j,⟨by omega,fun i hi x hx=>?_⟩,by omega,(cA.wk (Ea<|Ea<|Eb<|trivial) (Hb<|Hc (aE _ _ rfl rfl rfl)<|Hc (aC _ _)<|Hc (aI _ _ _)<|Hc (aG _ _)<|trivial) ⟨rfl,rfl,rfl,rfl,trivial⟩)⟩;by_cases he:i=j
    ·subst he;rw [hp] at hx;cases hx;exact hc5
    exact hpre i (by omega) x hx
   have:¬ (0:Int)≤(j:Int):=aAf hc4;omega
  | zero =>
   have hz:s.q.reverse.find? (oZ n)=none:=BT (fun i x hx=>hpre i (aAz _) x hx);obtain ⟨c,hc⟩:=aZ hn;have hd:bM s n=c:=by rw [bM,hz,hc];rfl
   obtain ⟨_,p2,_⟩:=CW hs.c hc;have hb:((bA (flat s.cells)).drop (0+64*n)).take (64*(n+1) - 64*n)=bA c.data.toList:=by
    rw [← p2,aBA,show 64*(n+1) - 64*n=64 by omega];simp only [bA,List.map_take,List.map_drop]
   have hfl:=kF hs.c;rw [hd];refine Sq<|Sr<|Dd aF<|Dd RS<|Zz ?_;refine Cn ?_ ?_<;>intro hc6
   ·have:(0:Int)≤((0:Nat):Int) - 1:=aAe hc6;omega
   refine bI<|Sq<|bO follows<|Cq aF<|Cq fF<|Cq (dO AB)<|Cq (eA dZ)<|Cq (dO AA)<|Cq (eA aQ)<|Cq (dO RU)<|Cq (eA aQ)<|Cq (by exact fJ (l:=(64*n)) (h:=(64*(n+1))) rfl A6 rfl rfl rfl rfl rfl rfl (by omega) (by omega) rfl rfl)<|Cq (by exact iB rfl bY bQ aL rfl rfl rfl rfl hb rfl)<|Cq aS<|Cq aS<|dC<|Kr<|aM ?_;refine fZ (H':=aU s) (.inr rfl) rfl (aJ rfl) (aJ rfl) (Fin.wk (by(simp;done)) (Hc (aE _ _ rfl rfl rfl)<|Hc (aC _ _)<|Hc (aI _ _ _)<|Hc (aG _ _)<|trivial) ⟨rfl,rfl,rfl,rfl,trivial⟩) ?_;exact⟨by rw [XS],rfl⟩
def lN (s:DSt):ByteArray:=⟨(flat s.cells).toArray⟩
theorem F5 (s:DSt) (hs:DOk s):aH Tryz.prog 22 [.ref 1000 0 0 0] (aU s) (fun r H'=>r=sv (lN s)∧H'=aU s):=by
 have hb:((bA (flat s.cells)).drop 0).take (64*s.cells.length)=bA (flat s.cells):=by
  rw [List.drop_zero,List.take_of_length_le (by simp [bA,kF hs.c])]
 refine Bd func22 rfl ntmps22<|Sr<|Dd aS<|Zz<|Sq<|Sr<|Dd aF<|Dd (by exact cG rfl fC rfl rfl rfl rfl)<|Zz ?_;refine Cn ?_ ?_<;>intro hc1
 ·cases hc1
 refine aK<|Sr<|Dd aF<|Dd fF<|Dd (dO AB)<|Dd (eA dZ)<|Dd (by exact iB rfl bY bQ aL rfl rfl rfl rfl hb rfl)<|Dd aS<|Zz<|aM ?_;refine bD (H':=aU s) (.inr rfl) rfl (aJ rfl) (Fin.wk (by(simp;done)) (Hc (aE _ _ rfl rfl rfl)<|Hc (aC _ _)<|Hc (aI _ _ _)<|Hc (aG _ _)<|trivial) ⟨rfl,rfl,rfl,rfl,trivial⟩) ?_;exact Qq
def flip (c:ByteArray) (i m:Nat):ByteArray:=⟨(c.data.toList.set i (((c.data.toList[i]?).getD 0) ^^^ UInt8.ofNat m)).toArray⟩
theorem N6 (c:ByteArray) (i m:Nat):(flip c i m).size=c.size:=by show (List.toArray _).size=_;rw [List.size_toArray,List.length_set,kM]
theorem N7 (c:ByteArray) (i m:Nat):(flip c i m).data.toList=c.data.toList.set i (((c.data.toList[i]?).getD 0) ^^^ UInt8.ofNat m):=by simp [flip]
theorem WO (x:UInt8) (m:Nat) (hm:m < 256):bits .xor .u8 (x.toNat:Int) (m:Int)=((x ^^^ UInt8.ofNat m).toNat:Int):=by
 have h1:x.toNat < 2 ^ 8:=x.toNat_lt;have h2:(x.toNat ^^^ m) < 2 ^ 8:=Nat.xor_lt_two_pow h1 (by omega);have e1:(BitVec.ofInt 8 (x.toNat:Int) ^^^ BitVec.ofInt 8 (m:Int)).toNat=x.toNat ^^^ m:=by
  rw [BitVec.ofInt_natCast,BitVec.ofInt_natCast,BitVec.toNat_xor,BitVec.toNat_ofNat,BitVec.toNat_ofNat,Nat.mod_eq_of_lt h1,Nat.mod_eq_of_lt (by omega)]
 have e2:(x ^^^ UInt8.ofNat m).toNat=x.toNat ^^^ m:=by
  rw [UInt8.toNat_xor,UInt8.toNat_ofNat',Nat.mod_eq_of_lt (by omega)]
 unfold bits;show IntKind.u8.wrap ((BitVec.ofInt 8 (x.toNat:Int) ^^^ BitVec.ofInt 8 (m:Int)).toNat:Int)=_;rw [e1,e2,ZL (by omega) (by omega)]
def yV (s:DSt) (k p m:Int):Bool:=eX s k&&(decide (0≤p)&&decide (p < 64)&&decide (0 < m)&&decide (m < 256))
def EX (s:DSt) (k p m:Int):DSt:=if yV s k p m then {s with cells:=s.cells.set k.toNat (flip ((s.cells[k.toNat]?).getD ⟨#[]⟩) p.toNat m.toNat)} else s
theorem QG {l:List ByteArray} (h:∀ c,c∈l→c.size=64) {k i:Nat} {c:ByteArray} (hk:l[k]?=some c) (hi:i < 64) (b:UInt8) (d:ByteArray) (hd:d.data.toList=c.data.toList.set i b) :
  (flat l).set (64*k+i) b=flat (l.set k d)∧(flat l)[64*k+i]?=c.data.toList[i]?:=by
 obtain ⟨hlt,he⟩:=aAm.1 hk;have hsplit:flat l=flat (l.take k)++(c.data.toList++flat (l.drop (k+1))):=by
  conv=>lhs;rw [← List.take_append_drop k l,List.drop_eq_getElem_cons hlt,he]
  rw [uY,lW]
 have h1:(flat (l.take k)).length=64*k:=by
  rw [kF (fun c hc=>h c (List.mem_of_mem_take hc)),aAw];congr 1;omega
 have h2:c.data.toList.length=64:=by rw [kM];exact h c (aAs hk)
 have hset:l.set k d=l.take k++(d::l.drop (k+1)):=by rw [List.set_eq_take_append_cons_drop,aAh hlt]
 constructor
 ·rw [hset,uY,lW,hsplit,List.set_append_right _ _ (by omega),h1,List.set_append_left _ _ (by omega),hd,show 64*k+i - 64*k=i by omega]
 rw [hsplit,List.getElem?_append_right (by omega),h1,List.getElem?_append_left (by omega),show 64*k+i - 64*k=i by omega]
theorem IZ (s:DSt) (n:Nat) (hs:DOk s) (e:n < s.cells.length):aH Tryz.prog 59 [.ref 1000 0 0 0,iv (n:Int)] (aU s) (fun r H'=>r=.tup [.agg (B4 n),bv true]∧H'=aU s):=by have h:=CG s n hs (by rw [gM];simpa using e);rw [FV] at h;exact h
theorem YJ (s:DSt) (k p m:Int) (hs:DOk s) :
  aH Tryz.prog 27 [.ref 1000 0 0 0,iv k,iv p,iv m] (aU s) (fun r H'=>r=.tup []∧H'=aU (EX s k p m)):=by
 refine Bd func27 rfl ntmps27 ?_;rcases kQ s k with e|⟨n,rfl,hn⟩
 ·refine Sr<|Dd aF<|Dd aF<|Dd (by exact aB rfl rfl TV rfl (cB (GA s k hs e) _ ⟨rfl,rfl,rfl,rfl,trivial⟩ (by simp;rfl)))<|Dd aF<|Dd dY<|Dd dY<|Dd (by exact cC (id:=8) rfl xK rfl rfl)<|Uu (pS sizeOf96)<|Dd aS<|Zz<|Sq ?_;refine cV (t:=32) (n:=21) (X:=false) ?_ ?_
  ·all_goals refine Dd aF ?_
   all_goals refine Dm ?_
   all_goals refine Sp 17 (fun h17=>?_) fun h17=>?_
   all_goals try contradiction
   all_goals refine Fo<|Fo<|Dd fV<|Dm ?_
   all_goals refine Sp 21 (fun h21=>?_) fun h21=>?_
   all_goals try contradiction
   all_goals refine Fo<|Fo<|Dd fV<|Dm ?_
   all_goals refine Sp 25 (fun h25=>?_) fun h25=>?_
   all_goals try contradiction
   all_goals refine Fo<|Fo<|Dd fV<|Dm ?_
   all_goals refine Sp 29 (fun h29=>?_) fun h29=>?_
   all_goals try contradiction
   all_goals refine Fo<|Fo<|Dd fV<|Zz ?_
   all_goals(exact⟨⟨_,rfl,by rfl⟩,rfl,rfl,rfl⟩)
  refine Cn ?_ ?_<;>intro hc1
  ·cases hc1
  refine aK ?_;refine fS (H':=aU s) (by exact .inl rfl) rfl  (Fin.wk (by(simp;done)) (Hc (aE _ _ rfl rfl rfl)<|Hc (aC _ _)<|Hc (aI _ _ _)<|Hc (aG _ _)<|trivial) ⟨rfl,rfl,rfl,rfl,trivial⟩) ?_;exact⟨rfl,by simp [EX,yV,e]⟩
 have e:eX s (n:Int)=true:=by rw [gM];simpa using hn
 refine Sr<|Dd aF<|Dd aF<|Dd (by exact aB rfl rfl TV rfl (cB (IZ s n hs hn) _ ⟨rfl,rfl,rfl,rfl,trivial⟩ (by simp;rfl)))<|Dd aF<|Dd dY<|Dd dY<|Dd (by exact cC (id:=8) rfl xK rfl rfl)<|Uu (pS sizeOf96)<|Dd aS<|Zz<|Sq ?_;refine cV (t:=32) (n:=21) (X:=decide (0≤p)&&decide (p < 64)&&decide (0 < m)&&decide (m < 256)) ?_ ?_
 ·all_goals refine Dd aF ?_
  all_goals refine Dm ?_
  all_goals refine Sp 17 (fun h17=>?_) fun h17=>?_
  all_goals try contradiction
  all_goals refine On aF<|On RS<|Dd fV<|Dm ?_
  all_goals refine Sp 21 (fun h21=>?_) fun h21=>?_
  all_goals try contradiction
  all_goals first|refine Fo<|Fo ?_|refine On aF<|On dX ?_
  all_goals refine Dd fV<|Dm ?_
  all_goals refine Sp 25 (fun h25=>?_) fun h25=>?_
  all_goals try contradiction
  all_goals first|refine Fo<|Fo ?_|refine On aF<|On BR ?_
  all_goals refine Dd fV<|Dm ?_
  all_goals refine Sp 29 (fun h29=>?_) fun h29=>?_
  all_goals try contradiction
  all_goals first|refine Fo<|Fo ?_|refine On aF<|On dX ?_
  all_goals refine Dd fV<|Zz ?_
  all_goals(exact⟨⟨_,rfl,by(simp only [*,Zo];done)⟩,rfl,rfl,rfl⟩)
 refine Cn ?_ ?_<;>intro hc2
 ·have hro:yV s n p m=true:=by rw [yV,e,hc2];rfl
  obtain ⟨⟨⟨h1,h2⟩,h3⟩,h4⟩:((0≤p∧p < 64)∧0 < m)∧m < 256:=by simpa using hc2
  obtain ⟨i,rfl⟩:∃ i:Nat,p=(i:Int):=⟨p.toNat,by omega⟩;obtain ⟨x,rfl⟩:∃ x:Nat,m=(x:Int):=⟨m.toNat,by omega⟩;obtain ⟨c,hc⟩:=aZ hn;have hcs:=hs.c c (aAs hc);have hfl:=kF hs.c;obtain ⟨y,hy⟩:=aZ (l:=c.data.toList) (k:=i) (by rw [kM];omega);have hfl2:=N7 c i x;rw [hy,Option.getD_some] at hfl2;obtain ⟨p1,p2⟩:=QG hs.c hc (show i < 64 by omega) (y ^^^ UInt8.ofNat x) (flip c i x) hfl2;have hw:IntKind.i64.wrap (((64*n:Nat):Int)+(i:Int))=((64*n+i:Nat):Int):=by
   have:=hs.n2;rw [iU (by omega) (by omega)];omega
  have hrow:(bA (flat s.cells))[64*n+i]?=some [.pv (.int .u8 y.toNat)]:=by
   rw [bA,aBC,p2,hy];rfl
  have hx:=WO y x (by omega);have hset:(bA (flat s.cells)).set (64*n+i) [.pv (.int .u8 (y ^^^ UInt8.ofNat x).toNat)]=bA (flat (s.cells.set n (flip c i x))):=by
   rw [← p1];exact List.map_set.symm
  have hlen:(s.cells.set n (flip c i x)).length=s.cells.length:=List.length_set;have hu:IntKind.u8.wrap (x:Int)=(x:Int):=ZL (by omega) (by omega);have hdr:EX s n i x={s with cells:=s.cells.set n (flip c i x)}:=by simp [EX,hro,hc]
  refine bO follows<|Cr [1000] (fun _ _=>aF)<|Cr [1000] (fun H1 hH=>by exact bN rfl rfl ((hH _ rfl).trans rfl) rfl)<|Cr [1000] (fun _ h=>fh AB h)<|Cr [1000] (fun _ h=>lh dZ h)<|Cr [8] (fun _ h=>fh AA h)<|Cr [8] (fun _ h=>lh aQ h)<|Cr [] (fun _ _=>aF)<|Cr [] (fun H1 hH=>by exact cH rfl rfl rfl hw)<|Cr [1001] (fun H1 hH=>by exact dM rfl A6 rfl ((hH _ rfl).trans rfl) rfl rfl rfl (by omega) (by exact aAt _) (by omega) (aBA _))<|Cr [1001] (fun H1 hH=>by exact aY rfl mM rfl ((hH _ rfl).trans rfl) rfl hrow rfl)<|Cr [] (fun _ _=>aF)<|Cr [] (fun H1 hH=>by exact eD rfl bT bQ rfl hu)<|Cr [] (fun H1 hH=>by exact mC rfl (by simp) rfl rfl hx)<|Cr [1001] (fun H1 hH=>by exact dM rfl A6 rfl ((hH _ rfl).trans rfl) rfl rfl rfl (by omega) (by exact aAt _) (by omega) (aBA _)) ?_;refine Cp [1001] (fun H1 hH=>by exact cN rfl cL rfl rfl rfl ((hH 1001 rfl).trans rfl) rfl hrow (by simp) rfl hset)<|dC<|Kr ?_;refine fS (H':=dH (jC s) (s.cells.set n (flip c i x)) s) (by exact .inl rfl) rfl  (Fin.wk (by(simp;done)) (Hc (aE _ _ rfl rfl rfl)<|Hc (aC _ _)<|Hc (aI _ _ _)<|Hc (aG _ _)<|trivial) ⟨rfl,rfl,rfl,rfl,trivial⟩) ?_;exact⟨rfl,by rw [hdr];simp only [aU,dH,jC,hlen]⟩
 have hro:yV s n p m=false:=by rw [yV,e,hc2];rfl
 refine aK ?_;refine fS (H':=aU s) (by exact .inl rfl) rfl  (Fin.wk (by(simp;done)) (Hc (aE _ _ rfl rfl rfl)<|Hc (aC _ _)<|Hc (aI _ _ _)<|Hc (aG _ _)<|trivial) ⟨rfl,rfl,rfl,rfl,trivial⟩) ?_;exact⟨rfl,by simp [EX,hro]⟩
abbrev z64:ByteArray:=⟨(List.replicate 64 0).toArray⟩
def nC (n:Nat):DSt:=⟨List.replicate n z64,[],false,.never,0,0⟩
theorem VL {n:Nat} (h1:1≤n) (h2:n≤8000):DOk (nC n) :=⟨by simpa [nC] using h1,by simpa [nC] using h2,fun c hc=>by rw [List.eq_of_mem_replicate hc];rfl,fun p hp=>(by cases hp),(by simp [nC])⟩
theorem YG (n:Nat):bA (flat (List.replicate n z64))=List.replicate (64*n) [.pv (.int .u8 0)]:=by
 have:flat (List.replicate n z64)=List.replicate (64*n) 0:=by
  induction n with
  | zero=>rfl
  | succ n ih =>
   rw [List.replicate_succ,lW,ih];show List.replicate 64 0++List.replicate (64*n) 0=_;rw [List.replicate_append_replicate];congr 1;omega
 rw [this,bA,List.map_replicate];rfl
abbrev YO (n:Nat):aA:=[(1000,⟨0,4,80,[[.osl 1001 0 0 (64*n),.osl 1002 0 0 0,bv false,.pv .nilp]]⟩),(1001,⟨0,1,5,List.replicate (64*n) [.pv (.int .u8 0)]⟩),(1002,⟨0,3,103,[]⟩),(1003,⟨0,3,100,[]⟩)]
theorem UT (n:Nat):YO n=aU (nC n):=by simp only [aU,nC,jC,YG,List.length_replicate,KF,iE,List.length_nil,List.map_nil]
theorem Q5 (n:Nat) (h1:1≤n) (h2:n≤8000):aH Tryz.prog 13 [iv (n:Int)] [] (fun r H'=>r=.ref 1000 0 0 0∧H'=aU (nC n)):=by
 have hw:IntKind.i64.wrap ((n:Int)*64)=((64*n:Nat):Int):=by rw [iU (by omega) (by omega)];omega
 rw [← UT];refine Bd func13 rfl ntmps13<|Sr<|Dd aS<|Zz<|Sq<|Sq ?_;refine cV (t:=8) (n:=7) (X:=false) ?_ ?_
 ·all_goals refine Dd aF ?_
  all_goals refine Dd dX<|Dm ?_
  all_goals refine Sp 5 (fun h5=>?_) fun h5=>?_
  all_goals try contradiction
  all_goals first|refine Fo<|Fo ?_|refine On aF<|On BR ?_
  all_goals refine Dd fV<|Zz ?_
  all_goals(exact⟨⟨_,rfl,by(simp_all;omega)⟩,rfl,rfl,rfl⟩)
 refine Cn ?_ ?_<;>intro hc1
 ·cases hc1
 refine aK<|Sr<|Dd aF<|Dd (by exact iF rfl rfl rfl hw)<|Dd (by exact kN (id:=1001) rfl A6 YX ZI rfl rfl rfl (by omega) (by omega) (by exact aAt _) (by exact aAt _) (by omega) rfl)<|Dd (PI Y6)<|Dd (by exact gR (id:=1000) rfl rfl rfl rfl rfl)<|Dd aS<|Zz<|aM ?_;refine bD (H':=YO n) (.inr rfl) rfl (aJ rfl) (Fin.trans (H':=[(1002,⟨0,3,103,[]⟩),(1000,⟨0,4,80,[[.osl 1001 0 0 (64*n),.osl 1002 0 0 0,bv false,.pv .nilp]]⟩),(1001,⟨0,1,5,List.replicate (64*n) [.pv (.int .u8 0)]⟩)]) (r':=.ref 1000 0 0 0) (Fin.of_ent (cA.nz 1002 3 103 rfl rfl ⟨⟨_,rfl,(by exact Nz.same (by(simp;rfl)))⟩,trivial⟩ ⟨⟨_,rfl,rfl,rfl,rfl,(by exact .inr ⟨_,_,rfl,rfl,(by repeat(first|exact trivial|refine⟨(by first|exact Nz.own|exact Nz.same (by first|(simp;done)|(simp;rfl))),?_⟩))⟩)⟩,⟨_,rfl,rfl,rfl,rfl,(by exact .inl ⟨rfl,(by(simp;done))⟩)⟩,trivial⟩ trivial)) (Fin.trans (H':=[(1003,⟨0,3,100,[]⟩),(1002,⟨0,3,103,[]⟩),(1000,⟨0,4,80,[[.osl 1001 0 0 (64*n),.osl 1002 0 0 0,bv false,.pv .nilp]]⟩),(1001,⟨0,1,5,List.replicate (64*n) [.pv (.int .u8 0)]⟩)]) (r':=.ref 1000 0 0 0) (Fin.of_ent (cA.nz 1003 3 100 rfl rfl ⟨⟨_,rfl,(by exact Nz.same (by(simp;rfl)))⟩,trivial⟩ ⟨⟨_,rfl,rfl,rfl,rfl,(by exact .inl ⟨rfl,(by(simp;done))⟩)⟩,⟨_,rfl,rfl,rfl,rfl,(by exact .inl ⟨rfl,(by(simp;exact⟨rfl,rfl⟩))⟩)⟩,⟨_,rfl,rfl,rfl,rfl,(by exact .inl ⟨rfl,(by(simp;done))⟩)⟩,trivial⟩ trivial)) (Fin.wk (by(simp;rfl)) (Hc (by(simp;exact⟨rfl,rfl⟩))<|Hb<|Hb<|Hb<|trivial) trivial))) ?_;exact Qq
end Go.Proofs.YtmkgeogoojcciaaGreatDoor
namespace Go.Abs
section
section
variable {α:Type}
def fL (κ:KeyKind α) (l:List (α×AV×Nat)):List (List AV):=l.map fun p=>[.pv (κ.pv p.1),p.2.1,.pv (.int .i64 (p.2.2:Int))]
def GZ (l:List (α×AV×Nat)):List (α×AV):=l.map fun p=>(p.1,p.2.1)
theorem uR (κ:KeyKind α) (l:List (α×AV×Nat)):(fL κ l).length=l.length:=by simp [fL]
theorem CR {κ:KeyKind α} {l:List (α×AV×Nat)} {i:Nat} {r:List AV}:(fL κ l)[i]?=some r↔∃ p,l[i]?=some p∧r=[.pv (κ.pv p.1),p.2.1,.pv (.int .i64 (p.2.2:Int))]:=by
 rw [fL,aBC];cases l[i]? with
 | none=>simp
 | some p=>simp [eq_comm]
structure GMapAt (w:World) (I:Nat→Prop) (ι:cF) (H:aA) (κ:KeyKind α) (l:List (α×AV×Nat)) (c:Nat) (es:Array MapEntry):Prop where
 size:es.size=l.length
 rel:∀ (i:Nat) (p:α×AV×Nat),l[i]?=some p→∃ e,es[i]?=some e∧e.born=p.2.2∧e.key=κ.val p.1∧VRel w I ι H e.val p.2.1
 lt:∀ (i:Nat) (e:MapEntry),es[i]?=some e→e.born < c
 inc:∀ (i j:Nat) (e e':MapEntry),i < j→es[i]?=some e→es[j]?=some e'→e.born < e'.born
theorem mS {w:World} {I:Nat→Prop} {ι:cF} {H:aA} {id b:Nat} {ob:Ob} {κ:KeyKind α} {l:List (α×AV×Nat)} (h:eE w I ι H id ob) (hz:ob.sz=0) (hι:ι id=some (b,0)) (hrows:ob.rows=fL κ l) :
  ∃ es,w.heap[b]?=some (.map es ob.ty)∧¬ I b∧GMapAt w I ι H κ l ob.ty es:=by
 obtain ⟨_,b',es,e1,e2,e3,e4,e5,e6,e7⟩:=h.map hz hι;rw [hι] at e1;cases e1;refine⟨es,e2,e3,⟨by rw [e4,hrows,uR],fun i p hp=>?_,e5,e6⟩⟩;obtain ⟨e,k,a,n,q1,q2,q3,q4,q5⟩:=e7 i _ (by rw [hrows];exact CR.2 ⟨p,hp,rfl⟩);cases q2;exact⟨e,q1,by injection q5.int_inv with _ hh;omega,κ.rel _ _ _ _ q3.pv_inv,q4⟩
theorem Rel.gremap {I:Nat→Prop} {ι:cF} {H H':aA} {w:World} {id b c:Nat} {ob ob':Ob} {κ:KeyKind α} {l:List (α×AV×Nat)} {es0 es':Array MapEntry} {c0:Nat} (hr:Rel I ι H w) (hH:H.get id=some ob) (hι:ι id=some (b,0)) (hz:ob.sz=0) (hb:w.heap[b]?=some (.map es0 c0)) (hg:ob'.g=ob.g) (hz':ob'.sz=0) (hty:ob'.ty=c) (hrows:ob'.rows=fL κ l)
  (hm:GMapAt w I ι H κ l c es') (h1:H'.get id=some ob') (h2:∀ j,j≠id→H'.get j=H.get j):Rel I ι H' (World.setObj w b (.map es' c))∧Step I ι H w I ι H' (World.setObj w b (.map es' c)):=by
 refine hr.rewrite hH hι hz hb rfl rfl hg hz' (fun _ hs1 hI hmono=>?_) h1 h2;refine .inr (.inl ⟨hz',b,es',hι,by rw [hty];exact hs1,hI,by rw [hm.size,hrows,uR],fun i e hi=>by rw [hty];exact hm.lt i e hi,hm.inc,fun i r hr'=>?_⟩);rw [hrows] at hr';obtain ⟨p,hp,rfl⟩:=CR.1 hr';obtain ⟨e,q1,q2,q3,q4⟩:=hm.rel i p hp;exact⟨e,_,_,_,q1,rfl,by rw [q3];exact .pv (κ.rep _ _ p.1),hmono _ _ q4,by rw [q2];exact .pv (.int _ _)⟩
variable [DecidableEq α]
def uS:List (α×AV×Nat)→α→AV→Nat→List (α×AV×Nat)
 | [],k,v,c=>[(k,v,c)]
 | (k',a,n)::r,k,v,c=>if k'=k then(k,v,n)::r else(k',a,n)::uS r k v c
def uW:List (α×AV×Nat)→α→List (α×AV×Nat)
 | [],_=>[]
 | (k',a,n)::r,k=>if k'=k then r else(k',a,n)::uW r k
def zY (l:List (α×AV×Nat)) (k:α) (c:Nat):Nat:=if(mE (GZ l) k).isSome then c else c+1
theorem G4 {w:World} {I:Nat→Prop} {ι:cF} {H:aA} (κ:KeyKind α) (k:α):∀ (l:List (α×AV×Nat)) (es:List MapEntry) (i:Nat),es.length=l.length→(∀ (i:Nat) (p:α×AV×Nat),l[i]?=some p→∃ e,es[i]?=some e∧e.key=κ.val p.1∧VRel w I ι H e.val p.2.1) →
  (Instr.findNow κ.d (κ.val k) es i=some none∧mE (GZ l) k=none∧(∀ v c,uS l k v c=l++[(k,v,c)])∧uW l k=l) ∨
  ∃ j e a n,Instr.findNow κ.d (κ.val k) es i=some (some (i+j,e.val))∧es[j]?=some e∧e.key=κ.val k∧mE (GZ l) k=some a∧VRel w I ι H e.val a∧l[j]?=some (k,a,n)∧(∀ v c,uS l k v c=l.set j (k,v,n))∧uW l k=l.eraseIdx j
 | [],[],i,_,_=>.inl ⟨rfl,rfl,fun _ _=>rfl,rfl⟩
 | (k',a,n)::l,e::es,i,hl,hr=>by
  obtain ⟨e0,z1,z2,z3⟩:=hr 0 (k',a,n) rfl;cases z1;obtain ⟨r,hr1,hiff⟩:=MapKept.sameNow_of_keys (κ.is k) (show MapKept.IsKey κ.d e.key by rw [z2];exact κ.is k');by_cases hk:k'=k
  ·subst hk;have hrt:r=true:=hiff.2 z2.symm;subst hrt;exact .inr ⟨0,e,a,n,by simp [Instr.findNow,hr1],rfl,z2,by simp [mE,GZ],z3,rfl,fun v c=>by simp [uS],by simp [uW]⟩
  have hrf:r=false:=by
   cases r with
   | false=>rfl
   | true=>exact absurd (κ.inj _ _ ((hiff.1 rfl).trans z2)).symm hk
  subst hrf;rcases G4 κ k l es (i+1) (by simpa using hl) (fun i p hp=>hr (i+1) p hp)with⟨h1,h2,h3,h4⟩|⟨j,e',a',n',h1,h2,h3,h4,h5,h6,h7,h8⟩
  ·exact .inl ⟨by simp [Instr.findNow,hr1,h1],by simpa [mE,GZ,hk] using h2,fun v c=>by simp [uS,hk,h3],by simp [uW,hk,h4]⟩
  exact .inr ⟨j+1,e',a',n',by simp [Instr.findNow,hr1,h1];omega,by simpa using h2,h3,by simpa [mE,GZ,hk] using h4,h5,by simpa using h6,fun v c=>by simp [uS,hk,h7],by simp [uW,hk,h8]⟩
section
variable {P:Program} {N:Nat} {o:Oper} {E:bH} {H:aA} {T kt et:TypeId} {x y z:Operand} {κ:KeyKind α} {l:List (α×AV×Nat)} {id g:Nat} {ob:Ob} {k:α}
theorem uT {w:World} {I:Nat→Prop} {ι:cF} {c:Nat} {es:Array MapEntry} (h:GMapAt w I ι H κ l c es) (k:α) :
  (Instr.findNow κ.d (κ.val k) es.toList 0=some none∧mE (GZ l) k=none∧(∀ v c,uS l k v c=l++[(k,v,c)])∧uW l k=l) ∨
  ∃ j e a n,Instr.findNow κ.d (κ.val k) es.toList 0=some (some (0+j,e.val))∧es.toList[j]?=some e∧e.key=κ.val k∧mE (GZ l) k=some a∧VRel w I ι H e.val a∧l[j]?=some (k,a,n)∧(∀ v c,uS l k v c=l.set j (k,v,n))∧uW l k=l.eraseIdx j :=
 G4 κ k l es.toList 0 (by simpa using h.size) (fun i p hp=>let ⟨e,q1,_,q3⟩:=h.rel i p hp;⟨e,by simpa using q1,q3⟩)
theorem RT {zv:Value} {v0:AV} (ho:o.op=.lookup T x y false) (hT:P.underlying T=some (.map kt et)) (hd:P.underlying kt=some κ.d) (hx:aN E x=some (.mp id g)) (hH:H.get id=some ob) (hg:ob.g=g)
  (hrows:ob.rows=fL κ l) (hy:aN E y=some (.pv (κ.pv k))) (hz:∀ w,(zeroValue et).run P w=.ok zv w) (hv:ZV zv v0):bW P N o E H ((mE (GZ l) k).getD v0) H :=
 .of_run fun a w I ι hr he=>by
  obtain ⟨hsz,b,hι,hvx⟩:=qA (aD he hx) hH hg;obtain ⟨es,e2,e3,e4⟩:=mS (hr.obj id ob hH) hsz hι hrows;have hvy:=tZ (aD he hy);rcases uT e4 k with⟨h1,h2,h3,_⟩|⟨j,e,a',n,h1,h2,h3,h4,h5,_⟩
  ·refine⟨zv,?_,by rw [h2];exact hv.rel⟩;simp only [execOp,ho,hvx,hvy];simp [Instr.lookup,run_underlying hT,MapKept.run_getObj_map e2,MapKept.run_checkKey hd (κ.is k),MapKept.run_findKey hd h1,hz]
  refine⟨e.val,?_,by rw [h4];exact h5⟩;simp only [execOp,ho,hvx,hvy];simp [Instr.lookup,run_underlying hT,MapKept.run_getObj_map e2,MapKept.run_checkKey hd (κ.is k),MapKept.run_findKey hd h1]
theorem G5 {zv:Value} {v0:AV} (ho:o.op=.lookup T x y true) (hT:P.underlying T=some (.map kt et)) (hd:P.underlying kt=some κ.d) (hx:aN E x=some (.mp id g)) (hH:H.get id=some ob) (hg:ob.g=g)
  (hrows:ob.rows=fL κ l) (hy:aN E y=some (.pv (κ.pv k))) (hz:∀ w,(zeroValue et).run P w=.ok zv w) (hv:ZV zv v0):bW P N o E H (.tup [(mE (GZ l) k).getD v0,.pv (.bool (mE (GZ l) k).isSome)]) H :=
 .of_run fun a w I ι hr he=>by
  obtain ⟨hsz,b,hι,hvx⟩:=qA (aD he hx) hH hg;obtain ⟨es,e2,e3,e4⟩:=mS (hr.obj id ob hH) hsz hι hrows;have hvy:=tZ (aD he hy);have two:∀ {u:Value} {a:AV} {c:Bool},VRel w I ι H u a→VRel w I ι H (.tuple #[u,.bool c]) (.tup [a,.pv (.bool c)]):=fun {u a c} hu=>.tup rfl (fun i v q hv hq=>by
   match i with
   | 0=>simp at hv hq;subst hv hq;exact hu
   | 1=>simp at hv hq;subst hv hq;exact .pv (.bool _)
   | i+2=>simp at hv)
  rcases uT e4 k with⟨h1,h2,h3,_⟩|⟨j,e,a',n,h1,h2,h3,h4,h5,_⟩
  ·refine⟨.tuple #[zv,.bool false],?_,by rw [h2];exact two hv.rel⟩;simp only [execOp,ho,hvx,hvy];simp [Instr.lookup,run_underlying hT,MapKept.run_getObj_map e2,MapKept.run_checkKey hd (κ.is k),MapKept.run_findKey hd h1,hz]
  refine⟨.tuple #[e.val,.bool true],?_,by rw [h4];exact two h5⟩;simp only [execOp,ho,hvx,hvy];simp [Instr.lookup,run_underlying hT,MapKept.run_getObj_map e2,MapKept.run_checkKey hd (κ.is k),MapKept.run_findKey hd h1]
theorem kV {v:AV} {c c':Nat} {l':List (α×AV×Nat)} (ho:o.op=.mapUpdate T x y z∨o.op=.insert T x y z) (hT:P.underlying T=some (.map kt et)) (hd:P.underlying kt=some κ.d) (hx:aN E x=some (.mp id g)) (hH:H.get id=some ob) (hg:ob.g=g)
  (hty:ob.ty=c) (hrows:ob.rows=fL κ l) (hy:aN E y=some (.pv (κ.pv k))) (hz:aN E z=some v) (hl:uS l k v c=l') (hc:zY l k c=c'):bW P N o E H .any ((id,⟨g,ob.sz,c',fL κ l'⟩)::H):=by
 intro a w I ι _ _ hr he K Q hkk;obtain ⟨hsz,b,hι,hvx⟩:=qA (aD he hx) hH hg;obtain ⟨es,e2,e3,e4⟩:=mS (hr.obj id ob hH) hsz hι hrows;rw [hty] at e2 e4;have hvy:=tZ (aD he hy);have hvz:=aD he hz;subst hl hc hg;have fin:∀ es',(Instr.mapUpdate T (a.eval x) (a.eval y) (a.eval z)).run P w=.ok () (World.setObj w b (.map es' (zY l k c)))→GMapAt w I ι H κ (uS l k v c) (zY l k c) es'→o.wpW P a w K Q:=by
  intro es' hrun hm;obtain ⟨k2,k3⟩:=Rel.gremap (H':=(id,⟨ob.g,ob.sz,zY l k c,fL κ (uS l k v c)⟩)::H) (ob':=⟨ob.g,ob.sz,zY l k c,fL κ (uS l k v c)⟩) hr hH hι hsz e2 rfl hsz rfl rfl hm (get_cons_same _ _ _) (fun j hj=>get_cons_other _ _ hj);unfold Oper.wpW execOp;rcases ho with ho|ho
  ·simp only [ho,Sem.run_bind,hrun,Result.andThen_ok,Sem.run_pure];exact hkk _ _ I ι _ _ ⟨rfl,rfl⟩ (.any _) k2 k3
  simp only [ho,Sem.run_bind,hrun,Result.andThen_ok,Sem.run_pure];exact hkk _ _ I ι _ _ ⟨rfl,rfl⟩ (.any _) k2 k3
 rcases uT e4 k with⟨h1,h2,h3,_⟩|⟨j,e,a',n,h1,h2,h3,h4,h5,h6,h7,h8⟩
 ·have hcl:zY l k c=c+1:=by rw [zY,h2];rfl
  refine fin (es.push {key:=κ.val k,val:=a.eval z,born:=c}) ?_ ⟨?_,?_,?_,?_⟩
  ·simp [Instr.mapUpdate,hvx,hvy,run_underlying hT,MapKept.run_getObj_map e2,MapKept.run_checkKey hd (κ.is k),MapKept.run_findKey hd h1,MapKept.run_setObj_map _ e2,World.setObj,hcl]
  ·rw [h3];simp [e4.size]
  ·intro i p hp;rw [h3] at hp;by_cases hi:i < l.length
   ·rw [List.getElem?_append_left hi] at hp;obtain ⟨e,q1,q2⟩:=e4.rel i p hp;exact⟨e,by rw [Array.getElem?_push,aAg (by rw [e4.size];omega)];exact q1,q2⟩
   rw [List.getElem?_append_right (by omega)] at hp;cases hil:i - l.length with
   | zero =>
    rw [hil] at hp;cases hp;exact⟨_,by rw [Array.getElem?_push,aAh (by rw [e4.size];omega)],rfl,rfl,hvz⟩
   | succ m=>rw [hil] at hp;simp at hp
  ·intro i e hi;rw [Array.getElem?_push] at hi
   split at hi
   ·cases hi;show c < _;omega
   have:=e4.lt i e hi;omega
  intro i j' e e' hij hi hj;have hjs:j' < es.size+1:=by
   have:=(Array.getElem?_eq_some_iff.1 hj).1
   simpa using this
  rw [Array.getElem?_push,aAg (by omega)] at hi;rw [Array.getElem?_push] at hj
  split at hj
  ·cases hj;exact e4.lt i e hi
  exact e4.inc i j' e e' hij hi hj
 have hj:es[j]?=some e:=by simpa using h2
 have hjl:j < es.size:=(Array.getElem?_eq_some_iff.1 hj).1;have hcl:zY l k c=c:=by rw [zY,h4];rfl
 have hbe:e.born=n:=by
  obtain ⟨e',q1,q2,_⟩:=e4.rel j _ h6;rw [hj] at q1;cases q1;exact q2
 have hmod:∀ (i:Nat) (x:MapEntry),(es.modify j fun e=>{e with key:=κ.val k,val:=a.eval z})[i]?=some x→∃ y,es[i]?=some y∧y.born=x.born:=by
  intro i x hx;rw [Array.getElem?_modify] at hx
  split at hx
  ·next hij =>
   subst hij;rw [hj] at hx;cases hx;exact⟨e,hj,rfl⟩
  exact⟨x,hx,rfl⟩
 refine fin (es.modify j fun e=>{e with key:=κ.val k,val:=a.eval z}) ?_ ⟨?_,?_,?_,?_⟩
 ·simp [Instr.mapUpdate,hvx,hvy,run_underlying hT,MapKept.run_getObj_map e2,MapKept.run_checkKey hd (κ.is k),MapKept.run_findKey hd h1,hj,h3,MapKept.run_keyThatStays (κ.is k),MapKept.run_setObj_map _ e2,World.setObj,hcl]
 ·rw [h7];simp [e4.size]
 ·intro i p hp;rw [h7] at hp;by_cases e0:i=j
  ·subst e0;rw [List.getElem?_set_self (by rw [← e4.size];exact hjl)] at hp;cases hp;exact⟨{e with key:=κ.val k,val:=a.eval z},by rw [Array.getElem?_modify,aAh rfl,hj];rfl,hbe,rfl,hvz⟩
  rw [List.getElem?_set_ne (Ne.symm e0)] at hp;obtain ⟨e',q1,q2⟩:=e4.rel i p hp;exact⟨e',by rw [Array.getElem?_modify,aAg (Ne.symm e0)];exact q1,q2⟩
 ·intro i x hx;obtain ⟨y,y1,y2⟩:=hmod i x hx;rw [← y2,hcl];exact e4.lt i y y1
 intro i i' x x' hii hx hx';obtain ⟨y,y1,y2⟩:=hmod i x hx;obtain ⟨y',y3,y4⟩:=hmod i' x' hx';rw [← y2,← y4];exact e4.inc i i' y y' hii y1 y3
theorem OC {β:Type} {l:List β} {j i:Nat}:(l.eraseIdx j)[i]?=if i < j then l[i]? else l[i+1]?:=List.getElem?_eraseIdx
theorem G6 {c:Nat} {l':List (α×AV×Nat)} (ho:o.op=.call {callee:=.builtin .delete,args:=#[x,y],argTypes:=#[T,kt]}) (hT:P.underlying T=some (.map kt et)) (hd:P.underlying kt=some κ.d) (hx:aN E x=some (.mp id g)) (hH:H.get id=some ob) (hg:ob.g=g)
  (hty:ob.ty=c) (hrows:ob.rows=fL κ l) (hy:aN E y=some (.pv (κ.pv k))) (hl:uW l k=l'):bW P N o E H .any ((id,⟨g,ob.sz,c,fL κ l'⟩)::H):=by
 intro a w I ι _ _ hr he K Q hkk;obtain ⟨hsz,b,hι,hvx⟩:=qA (aD he hx) hH hg;obtain ⟨es,e2,e3,e4⟩:=mS (hr.obj id ob hH) hsz hι hrows;rw [hty] at e2 e4;have hvy:=tZ (aD he hy);subst hl hg;have fin:∀ es',(execOp a.eval o).run P w=.ok (.value (.tuple #[])) (World.setObj w b (.map es' c))→GMapAt w I ι H κ (uW l k) c es'→o.wpW P a w K Q:=by
  intro es' hrun hm;obtain ⟨k2,k3⟩:=Rel.gremap (H':=(id,⟨ob.g,ob.sz,c,fL κ (uW l k)⟩)::H) (ob':=⟨ob.g,ob.sz,c,fL κ (uW l k)⟩) hr hH hι hsz e2 rfl hsz rfl rfl hm (get_cons_same _ _ _) (fun j hj=>get_cons_other _ _ hj);unfold Oper.wpW;rw [hrun];exact hkk _ _ I ι _ _ ⟨rfl,rfl⟩ (.any _) k2 k3
 rcases uT e4 k with⟨h1,h2,h3,h4⟩|⟨j,e,a',n,h1,h2,h3,h4,h5,h6,h7,h8⟩
 ·refine fin es ?_ (by rw [h4];exact e4);unfold execOp;simp only [ho,resolve,invoke,builtin,Sem.run_bind,Sem.run_pure,Result.andThen_ok,List.map_toArray,List.map_cons,List.map_nil,hvx,hvy];simp [Builtin.delete_,run_underlying hT,MapKept.run_getObj_map e2,MapKept.run_checkKey hd (κ.is k),MapKept.run_findKey hd h1,MapKept.run_setObj_map _ e2,World.setObj]
 have hj:es[j]?=some e:=by simpa using h2
 have hjl:j < es.size:=(Array.getElem?_eq_some_iff.1 hj).1;have her:es.eraseIdxIfInBounds j=es.eraseIdx j hjl:=by rw [Array.eraseIdxIfInBounds,dif_pos hjl]
 have hget:∀ i:Nat,(es.eraseIdx j hjl)[i]?=if i < j then es[i]? else es[i+1]?:=fun i=>Array.getElem?_eraseIdx ..
 refine fin (es.eraseIdx j hjl) ?_ ⟨?_,?_,?_,?_⟩
 ·unfold execOp;simp only [ho,resolve,invoke,builtin,Sem.run_bind,Sem.run_pure,Result.andThen_ok,List.map_toArray,List.map_cons,List.map_nil,hvx,hvy];simp [Builtin.delete_,run_underlying hT,MapKept.run_getObj_map e2,MapKept.run_checkKey hd (κ.is k),MapKept.run_findKey hd h1,MapKept.run_setObj_map _ e2,World.setObj,her]
 ·rw [h8,List.length_eraseIdx,aAh (by rw [← e4.size];exact hjl),← e4.size];simp
 ·intro i p hp;rw [h8,OC] at hp;rw [hget]
  split at hp
  ·next hi=>rw [aAh hi];exact e4.rel i p hp
  next hi=>rw [aAg hi];exact e4.rel (i+1) p hp
 ·intro i x hx;rw [hget] at hx
  split at hx
  ·exact e4.lt _ x hx
  exact e4.lt _ x hx
 intro i i' x x' hii hx hx';rw [hget] at hx hx'
 split at hx<;>split at hx'
 ·exact e4.inc _ _ x x' hii hx hx'
 ·exact e4.inc _ _ x x' (by omega) hx hx'
 ·omega
 exact e4.inc _ _ x x' (by omega) hx hx'
end
end
section
variable {α:Type} {P:Program} {N:Nat} {o:Oper} {E:bH} {H:aA} {T kt et:TypeId} {x y z:Operand} {κ:KeyKind α} {l:List (α×AV×Nat)} {id g q gq since last c:Nat} {ob oq:Ob} {seen:List Nat}
theorem xD (ho:o.op=.call {callee:=.builtin .len,args:=#[x],argTypes:=#[T]}) (hT:P.underlying T=some (.map kt et)) (hx:aN E x=some (.mp id g)) (hH:H.get id=some ob) (hg:ob.g=g) (hrows:ob.rows=fL κ l) :
  bW P N o E H (.pv (.int .i64 l.length)) H :=
 .of_run fun a w I ι hr he=>by
  obtain ⟨hsz,b,hι,hvx⟩:=qA (aD he hx) hH hg;obtain ⟨es,e2,e3,e4⟩:=mS (hr.obj id ob hH) hsz hι hrows;refine⟨.int .i64 l.length,?_,.pv (.int _ _)⟩;simp [execOp,ho,resolve,invoke,builtin,hvx,Builtin.len_,run_underlying hT,MapKept.run_getObj_map e2,goInt,e4.size]
theorem EP (ho:o.op=.range T x) (hT:P.underlying T=some (.map kt et)) (hx:aN E x=some (.mp id g)) (hH:H.get id=some ob) (hg:ob.g=g) (hrows:ob.rows=fL κ l) (hty:ob.ty=c) (hq:H.get q=none) :
  bW P N o E H (.it q 0) ((q,⟨0,0,0,eJ (.mp id g) c c []⟩)::H):=by
 intro a w I ι _ _ hr he K Q hk;have hvx0:=aD he hx;obtain ⟨hsz,b,hι,hvx⟩:=qA hvx0 hH hg;obtain ⟨es,e2,e3,e4⟩:=mS (hr.obj id ob hH) hsz hι hrows;rw [hty] at e2;obtain ⟨k2,k3⟩:=Rel.placeX (H':=(q,⟨0,0,0,eJ (.mp id g) c c []⟩)::H) (id:=q) (cap:=1) (ob':=⟨0,0,0,eJ (.mp id g) c c []⟩) (x:=.mapIter (some b) c #[] c) (w':=w.alloc (.mapIter (some b) c #[] c)) hr rfl rfl rfl rfl
  (fun o ho=>by rw [hq] at ho;cases ho) (fun hnew hI hmono=>.inr (.inr (.inl ⟨rfl,w.heap.size,some b,c,#[],c,by simp,hnew,hI,rfl,⟨_,_,_,rfl,by rw [← hvx];exact hmono _ _ hvx0,.pv (.int _ _),.pv (.int _ _)⟩,fun i r hr'=>by simp [eJ] at hr'⟩)))
  (get_cons_same _ _ _) (fun j hj=>get_cons_other _ _ hj)
 have hrun:(execOp a.eval o).run P w=.ok (.value (.pointer (some ⟨w.heap.size,0,none⟩))) (w.alloc (.mapIter (some b) c #[] c)):=by
  simp only [execOp,ho,hvx];simp [Instr.range,run_underlying hT,MapKept.run_getObj_map e2]
 unfold Oper.wpW;rw [hrun];exact hk _ _ I _ _ _ ⟨rfl,rfl⟩ (.it ⟨0,0,0,eJ (.mp id g) c c []⟩ (get_cons_same _ _ _) (aAo _) rfl fun _=>⟨rfl,w.heap.size,by simp,rfl⟩) k2 k3
theorem RP {w:World} {I:Nat→Prop} {ι:cF} {es:Array MapEntry} (h:GMapAt w I ι H κ l c es) :
  ((leftOf es seen.toArray).size=0→∀ p∈l,p.2.2∈seen)∧∀ e∈(leftOf es seen.toArray).toList,∃ (i:Nat) (p:α×AV×Nat),l[i]?=some p∧p.2.2∉seen∧e.born=p.2.2∧e.key=κ.val p.1∧VRel w I ι H e.val p.2.1:=by
 constructor
 ·intro h0 p hp;obtain ⟨i,hi⟩:=aBD.1 hp;obtain ⟨e,q1,q2,_⟩:=h.rel i p hi;have h1:leftOf es seen.toArray=#[]:=Array.eq_empty_of_size_eq_zero h0;rw [leftOf,Array.filter_eq_empty_iff] at h1;have:=h1 e (Array.mem_of_getElem? q1);simp only [Bool.not_eq_true',Bool.not_eq_false,List.contains_toArray,List.contains_eq_mem,aAp] at this;rw [← q2];simpa using this
 intro e he;simp only [leftOf,Array.toList_filter,List.mem_filter,Bool.not_eq_true',List.contains_toArray,List.contains_eq_mem,aAq] at he;obtain ⟨h1,h2⟩:=he;obtain ⟨i,hi⟩:=aBD.1 h1;have hi':es[i]?=some e:=by simpa using hi
 have hlt:i < l.length:=by rw [← h.size];exact(Array.getElem?_eq_some_iff.1 hi').1
 obtain ⟨e',z1,z2,z3⟩:=h.rel i l[i] (aAn hlt);rw [hi'] at z1;cases z1;exact⟨i,l[i],aAn hlt,by rw [← z2];exact h2,z2,z3⟩
theorem JW (ho:o.op=.next x false) (hx:aN E x=some (.it q gq)) (hQ:H.get q=some oq) (hgq:oq.g=gq) (hrq:oq.rows=eJ (.mp id g) since last seen) (hH:H.get id=some ob) (hg:ob.g=g) (hrows:ob.rows=fL κ l) (hty:ob.ty=c)
  (hold:c≤since) (hlast:since≤last) :
  PJ P N o E H (fun r H'=>(r=.tup [.pv (.bool false)]∧H'=H∧∀ p∈l,p.2.2∈seen)∨∃ (i:Nat) (p:α×AV×Nat),l[i]?=some p∧p.2.2∉seen∧r=.tup [.pv (.bool true),.pv (κ.pv p.1),p.2.1]∧H'=(q,⟨gq,0,oq.ty,eJ (.mp id g) since c (seen++[p.2.2])⟩)::H):=by
 intro a w I ι _ _ hr he K Q hk;obtain ⟨hsz,b,hι,hvx⟩:=JR (aD he hx) hQ hgq;obtain ⟨bm,hιm,hmz,hbq,hI⟩:=LY (hr.obj q oq hQ) hsz hι hrq hH hg;obtain ⟨es,e2,e3,e4⟩:=mS (hr.obj id ob hH) hmz hιm hrows;rw [hty] at e2 e4;have hold':∀ x∈es.toList,x.born < since:=fun x hx=>by
  obtain ⟨i,hi⟩:=aBD.1 hx;have:=e4.lt i x (by simpa using hi);omega
 obtain ⟨l1,l2⟩:=RP (seen:=seen) e4;rcases QJ (P:=P) w o.type b bm since last seen.toArray es c hbq e2 hold' hlast with⟨h0,hrun⟩|⟨e,he',d,hrun⟩
 ·unfold Oper.wpW execOp;simp only [ho,hvx,Sem.run_bind,hrun,Result.andThen_ok,Sem.run_pure];refine hk _ _ I ι _ _ (.inl ⟨rfl,rfl,l1 h0⟩) (.tup rfl (fun i v c hv hc=>?_)) hr (Step.refl _ _ _ _)
  match i with
  | 0=>simp at hv hc;subst hv hc;exact .pv (.bool _)
  | i+1=>simp at hv
 obtain ⟨i,p,hip,hni,hbn,hkey,hval⟩:=l2 e he';obtain ⟨r1,r2⟩:=hr.drawn (w':={w with drawn:=d}) rfl rfl rfl rfl;have hq2:aA.get ((q,⟨gq,0,oq.ty,eJ (.mp id g) since c (seen++[p.2.2])⟩)::H) q=some ⟨gq,0,oq.ty,eJ (.mp id g) since c (seen++[p.2.2])⟩:=get_cons_same _ _ _;have hmp:VRel {w with drawn:=d} I ι H (.map (some bm)) (.mp id g):=.mp ob hH (by omega) rfl fun _=>⟨hmz,bm,hιm,rfl⟩;obtain ⟨k2,k3⟩:=Rel.rewrite (H':=(q,⟨gq,0,oq.ty,eJ (.mp id g) since c (seen++[p.2.2])⟩)::H) (ob':=⟨gq,0,oq.ty,eJ (.mp id g) since c (seen++[p.2.2])⟩) (x:=.mapIter (some bm) since (seen.toArray.push e.born) c) r1 hQ hι hsz hbq rfl rfl hgq.symm rfl
  (fun _ hs1 hI' hmono=>.inr (.inr (.inl ⟨rfl,b,some bm,since,seen.toArray.push e.born,c,hι,hs1,hI',by simp [eJ],⟨_,_,_,rfl,hmono _ _ hmp,.pv (.int _ _),.pv (.int _ _)⟩,fun j r hj=>by
   simp only [eJ,List.getElem?_cons_succ,aBC] at hj;obtain ⟨n,hn,rfl⟩:=Option.map_eq_some_iff.1 hj;refine⟨n,_,?_,rfl,.pv (.int _ _)⟩;rw [hbn]
   simpa using hn⟩))) hq2 (fun j hj=>get_cons_other _ _ hj)
 unfold Oper.wpW execOp;simp only [ho,hvx,Sem.run_bind,hrun,Result.andThen_ok,Sem.run_pure];refine hk _ _ I ι _ _ (.inr ⟨i,p,hip,hni,rfl,rfl⟩) (.tup rfl (fun j v c hv hc=>?_)) k2 (r2.trans k3)
 match j with
 | 0=>simp at hv hc;subst hv hc;exact .pv (.bool _)
 | 1=>simp at hv hc;subst hv hc;rw [hkey];exact .pv (κ.rep _ _ _)
 | 2=>simp at hv hc;subst hv hc;exact(hval.mono hr r2).mono r1 k3
 | j+3=>simp at hv
theorem EQ {i:Nat} {p:α×AV×Nat} (ho:o.op=.entry x) (hx:aN E x=some (.it q gq)) (hQ:H.get q=some oq) (hgq:oq.g=gq) (hrq:oq.rows=eJ (.mp id g) since c (seen++[p.2.2])) (hH:H.get id=some ob) (hg:ob.g=g) (hrows:ob.rows=fL κ l) (hty:ob.ty=c)
  (hip:l[i]?=some p):bW P N o E H (.tup [.pv (κ.pv p.1),p.2.1]) H :=
 .of_run fun a w I ι hr he=>by
  obtain ⟨hsz,b,hι,hvx⟩:=JR (aD he hx) hQ hgq;obtain ⟨bm,hιm,hmz,hbq,hI⟩:=LY (hr.obj q oq hQ) hsz hι hrq hH hg;obtain ⟨es,e2,e3,e4⟩:=mS (hr.obj id ob hH) hmz hιm hrows;rw [hty] at e2;obtain ⟨e,q1,q2,q3,q4⟩:=e4.rel i p hip;have hf:es.find? (·.born == p.2.2)=some e:=by
   rw [← Array.find?_toList,← q2];refine find_born e es.toList ?_ (by simpa using Array.mem_of_getElem? q1);refine List.pairwise_iff_getElem.2 fun j k hj hk hjk=>?_;have hk':k < es.size:=by simpa using hk
   have z:=e4.inc j k _ _ hjk (Array.getElem?_eq_getElem (by omega)) (Array.getElem?_eq_getElem hk');simp only [List.getElem_map,Array.getElem_toList];omega
  refine⟨.tuple #[e.key,e.val],?_,.tup rfl (fun j v c hv hc=>?_)⟩
  ·simp only [execOp,ho,hvx];simp [Instr.entry,getObj,Sem.run,hbq,e2,hf]
  match j with
  | 0=>simp at hv hc;subst hv hc;rw [q3];exact .pv (κ.rep _ _ _)
  | 1=>simp at hv hc;subst hv hc;exact q4
  | j+2=>simp at hv
end
end
end Go.Abs
section
namespace Go.Abs
section
variable {P:Program} {N:Nat} {o:Oper} {E:bH} {H:aA} {t t':TypeId} {x:Operand}
abbrev XI (b:Bool):PV:=bif b then OB else JK
theorem uF {b:Bool} (ho:o.op=.binOp .neq t x (.const .nilIface) t') (ht:P.underlying t=some (.interface (P.methodsAt t))) (hx:aN E x=some (.pv (XI b))):bW P N o E H (.pv (.bool b)) H:=by
 cases b
 ·exact JA ho ht hx
 exact JB ho ht hx
end
def dF (s:ByteArray):Int:=(qP s).1
def gV (s:ByteArray):Bool:=match Lib.atoiAll s.data.toList with
 | .ok _=>false
 | _=>true
theorem SX (s:ByteArray):qP s=(dF s,XI (gV s)):=by rw [dF,gV,qP];cases Lib.atoiAll s.data.toList<;>rfl
end Go.Abs
namespace Go.Proofs.YtmkgeogoojcciaaGreatDoor
open Go.Proofs.Tryz
open Go.Abs Go.Lib
theorem yF (s:ByteArray) (hs:s.size < 1099511627776) (H:aA):aH Tryz.prog 82 [sv s] H (fun r H'=>r=.tup [iv (dF s),.pv (XI (gV s))]∧H'=H):=by
 have:=VZ s hs H
 rwa [SX] at this
def bR (l:List (ByteArray×ByteArray×Nat)):List (ByteArray×AV×Nat):=l.map fun p=>(p.1,sv p.2.1,p.2.2)
abbrev bB (l:List (ByteArray×ByteArray×Nat)) (c:Nat):Ob:=⟨0,0,c,fL fR (bR l)⟩
abbrev bV (k a n:Nat) (b:Bool):Ob:=⟨0,6,72,[[.ref 1000 0 0 0,iv (k:Int),iv (a:Int),iv (n:Int),.mp 1101 0,bv b]]⟩
abbrev sH (s:DSt) (o:Ob) (m:Ob):aA:=[(1000,⟨0,4,80,[jC s]⟩),(1001,⟨0,1,5,bA (flat s.cells)⟩),(1002,⟨s.gq,3,103,oX s.q⟩),(1003,⟨s.ga,3,100,iE s.arm⟩),(1100,o),(1101,m)]
theorem aR (l:List (ByteArray×ByteArray×Nat)) (c:Nat) (H:aA):∀ r∈(bB l c).rows,∀ a∈r,Clo H a:=by intro r hr a ha;obtain ⟨p,hp,rfl⟩:=List.mem_map.1 hr;obtain ⟨q,_,rfl⟩:=List.mem_map.1 hp;simp only [aAu,aAy,or_false] at ha;rcases ha with rfl|rfl|rfl<;>exact .pv _
theorem bG {H:aA} {k a n:Nat} {b:Bool} (h1:(H.get 1000).isSome=true) (h2:(H.get 1101).isSome=true):∀ r∈(bV k a n b).rows,∀ x∈r,Clo H x:=by
 intro r hr x hx;rw [aAl.1 hr] at hx;simp only [aAu,aAy,or_false] at hx;rcases hx with rfl|rfl|rfl|rfl|rfl|rfl
 ·exact .ref h1
 ·exact .pv _
 ·exact .pv _
 ·exact .pv _
 ·exact .mp h2
 exact .pv _
theorem iH {f:FuncId} {args:List AV} {s s':DSt} {r0:AV} {o m:Ob} (h:aH Tryz.prog f args (aU s) (fun r H'=>r=r0∧H'=aU s')) (ha:∀ a∈args,Clo (aU s) a):aH Tryz.prog f args (sH s o m) (fun r H'=>r=r0∧H'=sH s' o m) :=(cB h (sH s o m) ⟨rfl,rfl,rfl,rfl,trivial⟩ ha).congrH (fun j=>by
  simp only [sH,aU,aA.get,List.cons_append,List.nil_append];cases e0:Nat.beq 1000 j<;>cases e1:Nat.beq 1001 j<;>cases e2:Nat.beq 1002 j<;>cases e3:Nat.beq 1003 j<;>simp [e0,e1,e2,e3])
theorem qW (s:DSt) (k a n:Nat) (b:Bool) (l:List (ByteArray×ByteArray×Nat)) (c:Nat):bF (sH s (bV k a n b) (bB l c)):=bF.of (fun p hp=>by
 simp only [sH,aAu,aAy,or_false] at hp;rcases hp with rfl|rfl|rfl|rfl|rfl|rfl
 ·exact aE s _ rfl rfl rfl
 ·exact aC _ _
 ·exact aI _ _ _
 ·exact aG _ _
 ·exact bG rfl rfl
 exact aR _ _ _)
def CQ (place a n:Nat):List UInt8:=oW place (dg a 1++dg n 7)
theorem pA (n:Nat) {w:Nat} (h:n < 10 ^ w) (hw:0 < w):(decDigits n).length≤w:=dS h hw
theorem EL (place a n:Nat) (hp:place < 1000000000000) (ha:a < 10) (hn:n < 1000000000000) (H:aA):aH Tryz.prog 83 [iv (place:Int),.agg [iv (a:Int),iv (n:Int)]] H (fun r H'=>r=sv (ofL (CQ place a n))∧H'=H):=by
 refine Pu ?_;have h1:(ofL (dg a 1)).size=1:=by rw [bU,lF (pA a (by omega) (by omega))]
 have h2:(ofL (dg n 7)).size≤28:=by rw [bU];exact qL n 7 hn
 have h3:(dg a 1++dg n 7).length≤48:=by rw [aAj];rw [bU] at h1 h2;omega
 have e1:ofL (dg a 1)++ofL (dg n 7)=ofL (dg a 1++dg n 7):=uK _ _;exact Bd func83 rfl ntmps83<|Sr<|Dd (by exact gR (id:=3) rfl rfl rfl rfl rfl)<|Dd aS<|Zz<|Sq<|bO follows<|Cq aF<|Cq (dO sV)<|Cq (eA aQ)<|Cq (by exact aB rfl rfl AW rfl (nZ a 1 (by omega) (by omega) _))<|Cq (dO nA)<|Cq (eA aQ)<|Cq (by exact aB rfl rfl AW rfl (nZ n 7 hn (by omega) _))<|Cq (by exact jG rfl rfl rfl (by omega) e1)<|Cq (by exact aB rfl rfl aAH rfl (yR place (dg a 1++dg n 7) hp h3 _))<|Cq aS<|dC<|Kr<|aM<|Rt<|Qq
end Go.Proofs.YtmkgeogoojcciaaGreatDoor
end
