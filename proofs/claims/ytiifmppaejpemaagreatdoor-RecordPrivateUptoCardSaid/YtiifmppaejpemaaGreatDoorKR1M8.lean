/-
  Parts of the proof: rules of an abstract program logic, contracts of functions, plain laws. Conditions: each theorem's own.
-/
import Derived.Test.YtiifmppaejpemaaGreatDoorKR1M7
import Derived.Lib.Bytealg
import Derived.Lib.Strings
import Derived.Lib.AtoiTie
import Derived.Lib.ItoaMem
import Derived.Lib.ItoaLen
import Derived.Shelf.LaysC
import Derived.Ground.NamesProg
set_option linter.unusedVariables false
set_option linter.unusedSimpArgs false
set_option maxRecDepth 100000
set_option maxHeartbeats 8000000
namespace Go.Proofs
theorem tV:type_of% Tryz.call118:=Tryz.call118
theorem aAi:type_of% Tryz.call160:=Tryz.call160
theorem KI:type_of% Tryz.call195:=Tryz.call195
theorem tQ:type_of% Tryz.call240:=Tryz.call240
theorem aAf:type_of% Tryz.func117:=Tryz.func117
theorem aAd:type_of% Tryz.func160:=Tryz.func160
theorem aKi:type_of% Tryz.func166:=Tryz.func166
theorem mK:type_of% Tryz.isAgg23:=Tryz.isAgg23
theorem TR:type_of% Tryz.ntmps117:=Tryz.ntmps117
theorem TP:type_of% Tryz.ntmps160:=Tryz.ntmps160
theorem aJf:type_of% Tryz.ntmps166:=Tryz.ntmps166
theorem mJ:type_of% Tryz.underlying142:=Tryz.underlying142
end Go.Proofs
namespace Go.Abs
def eD (c:UInt8):List UInt8→List (List UInt8)
 | []=>[[]]
 | b::l=>if b=c then[]::eD c l else((b::(eD c l).headD [])::(eD c l).tail)
theorem vJ (c:UInt8) (l:List UInt8):0 < (eD c l).length:=by
 cases l with
 | nil=>exact Nat.zero_lt_one
 | cons b l=>rw [eD];split<;>simp
theorem oY {c:UInt8}:∀ {w:List UInt8},c∉w→eD c w=[w]
 | [],_=>rfl
 | b::w,h=>by
  rw [aL1,not_or] at h;rw [eD,aLN (fun e=>h.1 e.symm),oY h.2];rfl
theorem kX {c:UInt8} {l:List UInt8}:∀ {w:List UInt8},c∉w→eD c (w++c::l)=w::eD c l
 | [],_=>by rw [List.nil_append,eD,aLO rfl]
 | b::w,h=>by
  rw [aL1,not_or] at h;rw [List.cons_append,eD,aLN (fun e=>h.1 e.symm),kX h.2];rfl
theorem qV (c:UInt8):∀ l:List UInt8,(eD c l).length=l.count c+1
 | []=>rfl
 | b::l=>by
  have ih:=qV c l;rw [eD];by_cases h:b=c
  ·rw [aLO h,aLR,ih,h,List.count_cons_self]
  rw [aLN h,aLR,List.length_tail,ih,List.count_cons_of_ne h];omega
def iU:List UInt8→List (List UInt8)
 | []=>[]
 | b::l=>if b=10 then[10]::iU l else match iU l with
  | []=>[[b]]
  | w::r=>(b::w)::r
theorem BD {l:List UInt8}:∀ {w:List UInt8},(10:UInt8)∉w→iU (w++10::l)=(w++[10])::iU l
 | [],_=>by rw [List.nil_append,iU,aLO rfl];rfl
 | b::w,h=>by
  rw [aL1,not_or] at h;rw [List.cons_append,iU,aLN (fun e=>h.1 e.symm),BD h.2];rfl
theorem FZ:∀ {w:List UInt8},(10:UInt8)∉w→w≠[]→iU w=[w]
 | [],_,h=>absurd rfl h
 | b::w,h,_=>by
  rw [aL1,not_or] at h;rw [iU,aLN (fun e=>h.1 e.symm)];by_cases e:w=[]
  ·subst e;rfl
  rw [FZ h.2 e]
theorem AW:∀ {ls:List (List UInt8)},(∀ w∈ls,(10:UInt8)∉w)→iU (ls.flatMap (·++[10]))=ls.map (·++[10])
 | [],_=>rfl
 | w::ls,h=>by
  rw [List.flatMap_cons,List.append_assoc,List.singleton_append,BD (h w List.mem_cons_self),AW fun x hx=>h x (List.mem_cons_of_mem _ hx)];rfl
theorem rK {c:UInt8}:∀ {l:List UInt8},Lib.indexByte l c = -1↔c∉l
 | []=>by simp [Lib.indexByte]
 | b::l=>by
  have ih:=rK (c:=c) (l:=l);have hg:=Lib.indexByte_ge l c;rw [Lib.indexByte];by_cases h:b=c
  ·subst h;simp
  simp only [beq_iff_eq,h,if_false,aL1,not_or];constructor
  ·intro h2
   split at h2
   ·exact⟨fun e=>h e.symm,ih.1 (by assumption)⟩
   omega
  rintro⟨_,h2⟩;rw [ih.2 h2];rfl
theorem rL {c:UInt8}:∀ {l:List UInt8},Lib.indexByte l c ≠ -1→∃ w r,l=w++c::r∧c∉w∧Lib.indexByte l c=(w.length:Int)
 | [],h=>absurd rfl h
 | b::l,h=>by
  by_cases e:b=c
  ·subst e;exact⟨[],l,rfl,by simp,by simp [Lib.indexByte]⟩
  have e1:Lib.indexByte l c ≠ -1:=fun e2=>h (by rw [Lib.indexByte];simp [e,e2]);obtain ⟨w,r,h1,h2,h3⟩:=rL e1;refine⟨b::w,r,by rw [h1];rfl,by rw [aL1,not_or];exact⟨fun x=>e x.symm,h2⟩,?_⟩;rw [Lib.indexByte];simp only [beq_iff_eq,e,if_false,e1,h3,aLR];rw [aLN (by omega)]
  push_cast
  rfl
end Go.Abs
namespace Go.Abs
open Go.Lib
theorem YD {d:Nat} (h:d < 10):digitVal (UInt8.ofNat (48+d))=some d:=by
 have e:(UInt8.ofNat (48+d)).toNat=48+d:=by rw [UInt8.toNat_ofNat'];omega
 rw [digitVal,e,aLO (by omega)];congr 1;omega
theorem wL {b:UInt8} {d:Nat} (hb:digitVal b=some d):∀ (l:List UInt8) (acc:Nat),decFrom acc (l++[b])=(decFrom acc l).map fun n=>n*10+d
 | [],acc=>by
  simp [decFrom,hb]
 | c::l,acc=>by
  rw [List.cons_append,decFrom,decFrom];cases h:digitVal c with
  | none=>rfl
  | some x=>exact wL hb l _
theorem qL (u:Nat):decDigits u≠[]:=by
 rw [decDigits]
 split
 ·simp
 simp
theorem yZ (u:Nat):decFrom 0 (decDigits u)=some u:=by
 induction u using Nat.strongRecOn with
 | ind u ih =>
  rw [decDigits]
  split
  ·rename_i h;rw [← List.nil_append [_],wL (YD h)];simp [decFrom]
  rename_i h;rw [wL (YD (Nat.mod_lt u (by decide))),ih (u / 10) (by omega)];simp only [Option.map_some];congr 1;omega
theorem oH {b:UInt8}:∀ (u:Nat),b∈decDigits u→48≤b.toNat∧b.toNat≤57:=by
 intro u
 induction u using Nat.strongRecOn with
 | ind u ih =>
  rw [decDigits]
  split
  ·rename_i h;intro hb;rw [aLS] at hb;subst hb;rw [UInt8.toNat_ofNat'];omega
  rename_i h;intro hb;rcases List.mem_append.1 hb with hb|hb
  ·exact ih (u / 10) (by omega) hb
  rw [aLS] at hb;subst hb;rw [UInt8.toNat_ofNat'];omega
theorem lE (n:Int) (h:0≤n):itoa n=decDigits n.toNat:=by rw [itoa,aLN (by omega)]
theorem aA5 {n:Int} (h:0≤n):atoi (itoa n)=some n:=by
 rw [lE n h];obtain ⟨u,hu⟩:∃ u,u=n.toNat:=⟨_,rfl⟩;rw [← hu];have hd:=yZ u;have hm:∀ b∈decDigits u,48≤b.toNat∧b.toNat≤57:=fun b=>oH u;cases e:decDigits u with
 | nil=>exact absurd e (qL u)
 | cons b r =>
  have hb:=hm b (by rw [e];exact List.mem_cons_self);have e2:decNat (b::r)=some u:=by rw [decNat,← e,hd];simp [qL]
  unfold atoi;simp only [e2];have h43:b≠43:=fun h=>by rw [h] at hb;exact absurd hb.1 (by decide)
  have h45:b≠45:=fun h=>by rw [h] at hb;exact absurd hb.1 (by decide)
  split<;>simp_all
  omega
theorem fR:∀ {k u:Nat},u < 10 ^ k→0 < k→(decDigits u).length≤k
 | 0,_,_,h=>absurd h (Nat.lt_irrefl 0)
 | k+1,u,h,_=>by
  rw [decDigits]
  split
  ·simp
  rename_i h1;rw [aLQ,List.length_singleton];have hk:0 < k:=by
   rcases Nat.eq_zero_or_pos k with e|e
   ·subst e;omega
   exact e
  have hd:u / 10 < 10 ^ k:=by rw [Nat.pow_succ] at h;omega
  have:=fR hd hk;omega
theorem wN {n:Int} (h:0≤n) (h2:n < 1000000000000000000):atoiAll (itoa n)=.ok n:=by
 have hl:(itoa n).length≤18:=by
  rw [lE n h];exact fR (by omega) (by decide)
 rw [atoiAll_short _ hl,aA5 h];rfl
end Go.Abs
namespace Go.Proofs.YtiifmppaejpemaaGreatDoor
open Go.Proofs.Tryz
open Go.Abs
def sN (o:GObj):List UInt8:=(fQ o.kind).data.toList++32::(o.id.data.toList++32::(if o.kind=1 then Lib.itoa o.x++32::Lib.itoa o.y else 40::(cG [32] (bs o.refs)++[41])))
def vS (o:GObj):List UInt8:=sN o++pF o.tags
def xG (o:GObj):ByteArray:=⟨(vS o).toArray⟩
def iF (o:GObj):ByteArray×Int:=if mH o then(if 0 < o.tags.length∧(fZ o.tags).2≠0 then(sNil,(fZ o.tags).2)else if 20000 < (xG o).size then(sNil,2)else(xG o,0))else(sNil,1)
def atV (s:ByteArray):Int:=match Lib.atoiAll s.data.toList with
 | .ok v=>v
 | .range=>Lib.atoiSat s.data.toList
 | _=>0
def Z0:GFound:=⟨0,sNil,0,0⟩
def pC (T:List GFound):List GFound:=T++List.replicate (4 - T.length) Z0
def F0 (s:ByteArray):Int:=if s=fQ 5 then 5 else if s=fQ 4 then 4 else if s=fQ 3 then 3 else if s=fQ 2 then 2 else if s=fQ 1 then 1 else 0
def gC (f:GFound):Bool:=decide (f.text=⟨#[41]⟩)&&decide (f.kind=4)
def lX:List GFound→List GTag
 | a::_::c::r=>⟨a.text,c.text⟩::lX r
 | _=>[]
theorem HZ:∀ {T:List GFound} {l:List GTag},vF T=some l→lX T=l
 | [],l,h=>by rw [vF] at h;cases h;rfl
 | [_],l,h=>by rw [vF] at h<;>(cases h;done)
 | [_,_],l,h=>by rw [vF] at h<;>(cases h;done)
 | a::b::c::r,l,h=>by
  rw [vF] at h;cases e:vF r with
  | none=>rw [e] at h;cases h
  | some q =>
   rw [e] at h;cases h;rw [lX,HZ e]
def kI (T:List GFound):GObj :=if F0 ((pC T).getD 0 Z0).text=1 then⟨((pC T).getD 1 Z0).text,1,atV ((pC T).getD 2 Z0).text,atV ((pC T).getD 3 Z0).text,[],lX ((pC T).drop 4)⟩
 else if tD gC (pC T) < 3 then zObj
 else⟨((pC T).getD 1 Z0).text,F0 ((pC T).getD 0 Z0).text,0,0,(((pC T).take (tD gC (pC T)).toNat).drop 3).map GFound.text,lX ((pC T).drop ((tD gC (pC T)).toNat+1))⟩
def B3 (s:ByteArray) (i:Nat) (r:List UInt8) (T:List GFound):Prop:=∀ n,r.length≤n→lF s n i=T
theorem DM {s:ByteArray} {i j:Nat} {w r:List UInt8} {f:GFound} {T:List GFound} (hs:gS s i=(some f,j)) (hf:f.err=0) (hi:i < s.size) (hw:0 < w.length) (hT:B3 s j r T):B3 s i (w++r) (f::T):=by intro n hn;rw [aLQ] at hn;obtain ⟨m,rfl⟩:∃ m,n=m+1:=⟨n - 1,by omega⟩;rw [lF,aLO hi,hs];show f::(if f.err=0 then lF s m j else[])=_;rw [aLO hf,hT m (by omega)]
theorem BV {s:ByteArray} {i:Nat} {r:List UInt8} {T:List GFound} (h:s.data.toList.drop i=32::r) (hT:B3 s (i+1) r T):B3 s i (32::r) T:=by intro n hn;rw [aLR] at hn;obtain ⟨m,rfl⟩:∃ m,n=m+1:=⟨n - 1,by omega⟩;rw [lF,aLO (uT h).1,aDw h];exact hT m (by omega)
theorem all_nil {s:ByteArray} {i:Nat} (h:s.data.toList.drop i=[]):B3 s i [] []:=by
 intro n _;have hge:¬ i < s.size:=by
  have:=List.drop_eq_nil_iff.1 h;rw [bA] at this;omega
 cases n with
 | zero=>rfl
 | succ n=>rw [lF,aLN hge]
theorem rF {s:ByteArray} {i:Nat} {w r:List UInt8} (h:s.data.toList.drop i=w++r) (hw:0 < w.length):i < s.size:=by
 rcases Nat.lt_or_ge i s.size with h1|h1
 ·exact h1
 rw [List.drop_eq_nil_of_le (by rw [bA];exact h1)] at h;have:=congrArg List.length h;rw [List.length_nil,aLQ] at this;omega
def B9 (r:List UInt8):Prop:=∀ c r',r=c::r'→DG (c.toNat:Int)≠3∧DG (c.toNat:Int)≠4∧DG (c.toNat:Int)≠5
theorem Y4:B9 []:=fun c r' h=>by cases h
theorem oX (r:List UInt8):B9 (32::r):=fun c r' h=>by cases h;exact⟨by decide,by decide,by decide⟩
theorem Q3 (r:List UInt8):B9 (41::r):=fun c r' h=>by cases h;exact⟨by decide,by decide,by decide⟩
theorem rU {s k:ByteArray} {i:Nat} {r:List UInt8} {T:List GFound} (h:s.data.toList.drop i=k.data.toList++r) (hk:bI k=true) (hr:B9 r) (hT:B3 s (i+k.size) r T):B3 s i (k.data.toList++r) (⟨1,k,i,0⟩::T):=by have hp:=(vV hk).1;exact DM (Y5 h hk hr) rfl (rF h (by rw [bA];exact hp)) (by rw [bA];exact hp) hT
theorem QC {s:ByteArray} {i:Nat} {r:List UInt8} {c:UInt8} {T:List GFound} (h:s.data.toList.drop i=c::r) (hc:DG (c.toNat:Int)=6) (hT:B3 s (i+1) r T):B3 s i (c::r) (⟨4,⟨#[c]⟩,i,0⟩::T):=by
 have ha:qM s i=6:=by rw [BU h];exact hc
 have hx:=yX (w:=[c]) (r:=r) h;have hs:gS s i=(some ⟨4,⟨#[c]⟩,i,0⟩,i+1):=by
  rw [gS,aLN (by rw [ha];decide),aLN (by rw [ha];decide),aLN (by rw [ha];decide),aLN (by rw [ha];decide),aLN (by rw [ha];decide),aLO ha];rw [List.length_singleton] at hx;rw [hx]
 exact DM (w:=[c]) hs rfl (uT h).1 Nat.zero_lt_one hT
theorem aFQ:∀ b:UInt8,48≤b.toNat→b.toNat≤57→DG (b.toNat:Int)=4:=by
 intro b h1 h2;have h:∀ n:Fin 256,48≤n.val→n.val≤57→DG (n.val:Int)=4:=by decide +kernel
 exact h ⟨b.toNat,b.toNat_lt⟩ h1 h2
theorem YK {s:ByteArray} {i:Nat} {x:Int} {r:List UInt8} {T:List GFound} (h:s.data.toList.drop i=Lib.itoa x++r) (h0:0≤x) (h1:x < 10000000) (hr:B9 r) (hT:B3 s (i+(Lib.itoa x).length) r T):B3 s i (Lib.itoa x++r) (⟨2,bK x,i,0⟩::T):=by
 have hw:=lE x h0;have hne:0 < (Lib.itoa x).length:=by rw [hw];exact List.length_pos_iff.2 (qL _)
 have hle:(Lib.itoa x).length≤7:=by rw [hw];exact fR (by omega) (by decide)
 have hat:∀ j,j < (Lib.itoa x).length→qM s (i+j)=4:=fun j hj=>by
  have hc:=aLU hj;rw [BU (YC h hc)];have hm:(Lib.itoa x)[j]∈Lib.decDigits x.toNat:=by rw [← hw];exact List.getElem_mem hj
  obtain ⟨d1,d2⟩:=oH _ hm;exact aFQ _ d1 d2
 have hlen:i+(Lib.itoa x).length≤s.size:=by
  have:=congrArg List.length h;rw [aL4,aLQ,bA] at this;have:=rF h hne;omega
 have ha0:qM s i=4:=hat 0 hne;have hd:=gU h;have hstop:qM s (i+(Lib.itoa x).length)≠3∧qM s (i+(Lib.itoa x).length)≠4∧qM s (i+(Lib.itoa x).length)≠5:=by
  cases r with
  | nil=>rw [YI hd];exact⟨by decide,by decide,by decide⟩
  | cons c r'=>rw [BU hd];exact hr c r' rfl
 have hend:PZ s i=i+(Lib.itoa x).length:=by
  refine CF (ZR s) (by omega) (by omega) (fun j h1 h2=>?_) (.inl ?_)
  ·have:=hat (j - i) (by omega);rw [show i+(j - i)=j by omega] at this;rw [ZR,this];rfl
  rw [ZR,decide_eq_false hstop.2.1]
 have hs:gS s i=(some ⟨2,bK x,i,0⟩,i+(Lib.itoa x).length):=by
  rw [gS,aLN (by rw [ha0];decide),aLN (by rw [ha0];decide),aLN (by rw [ha0];decide),aLO ha0,hend,JU,yX h,decide_eq_false hstop.1,decide_eq_false hstop.2.2,decide_eq_false (by omega)];rfl
 exact DM hs rfl (rF h hne) hne hT
theorem KG {s:ByteArray}:∀ (l:List GTag) (i:Nat),(∀ t,t∈l→bI t.key=true)→s.data.toList.drop i=pF l→∃ T,B3 s i (pF l) T∧TJ T l
 | [],i,_,h=>⟨[],all_nil h,rfl,(fun f hf=>by cases hf),rfl⟩
 | t::l,i,hk,h=>by
  have hm:pF (t::l)=32::(t.key.data.toList++61::(dT t.val.data.toList++pF l)):=by
   rw [pF,List.flatMap_cons,M9];simp [pF]
  rw [hm] at h ⊢;have h1:=(uT h).2.2;have h2:=gU h1;rw [bA] at h2;have h3:=(uT h2).2.2;have h4:=gU h3;obtain ⟨T,hT,hR⟩:=KG l _ (fun t ht=>hk t (List.mem_cons_of_mem _ ht)) h4;have hq:0 < (dT t.val.data.toList).length:=by rw [dT,aLR];omega
  have b3:=DM (Q4 h3) rfl (rF h3 hq) hq hT;have b2:=QC h2 (by decide) b3;have b1:=rU h1 (hk t List.mem_cons_self) (fun c r' e=>by cases e;exact⟨by decide,by decide,by decide⟩) b2;exact⟨_,BV h b1,TJ.cons hR rfl rfl rfl⟩
theorem HB {o:GObj} (h:mH o=true):o.kind=1∨o.kind=2∨o.kind=3∨o.kind=4∨o.kind=5:=by have:=aAH h;omega
theorem D1 {k:Int} (h:k=1∨k=2∨k=3∨k=4∨k=5):bI (fQ k)=true∧F0 (fQ k)=k:=by
 rcases h with rfl|rfl|rfl|rfl|rfl
 ·exact⟨by kernel_rfl,by decide⟩
 ·exact⟨by kernel_rfl,by decide⟩
 ·exact⟨by kernel_rfl,by decide⟩
 ·exact⟨by kernel_rfl,by decide⟩
 exact⟨by kernel_rfl,by decide⟩
theorem A7 {o:GObj} (h:mH o=true):∀ s∈o.refs,bI s=true:=fun s hs=>by
 rw [mH,aLY,aLY,aL8,aL8] at h;obtain ⟨i,hi⟩:=aLa.1 hs;have hlt:=(aLT.1 hi).1;have h1:=List.any_eq_false.1 h.2.1 i (List.mem_range.2 hlt);rw [zJ,hi] at h1;simp only [VQ,Bool.or_eq_true,not_or,Bool.not_eq_true,Bool.not_eq_false'] at h1;exact h1.2
theorem aDG {o:GObj} (h:mH o=true):(0≤o.x∧o.x < 1048576)∧(0≤o.y∧o.y < 1048576)∧(o.kind=1→o.refs=[])∧(o.kind≠1→o.x=0∧o.y=0):=by
 rw [mH,aLY,aLY] at h;have h:=h.2.2;unfold NG at h
 split at h
 ·rename_i h1;rw [aLY,gOn] at h;simp only [aLY,aLW] at h;refine⟨by omega,by omega,fun _=>List.length_eq_zero_iff.1 (by omega),fun e=>absurd h1 e⟩
 rename_i h1
 split at h<;>simp only [aLY,aLW] at h<;>exact⟨by omega,by omega,fun e=>absurd e h1,fun _=>by omega⟩
theorem TG {s:ByteArray}:∀ (l:List ByteArray) (i:Nat) (r:List UInt8) (T:List GFound),(∀ k,k∈l→bI k=true)→s.data.toList.drop i=l.flatMap (fun k=>32::k.data.toList)++r→B9 r →
  B3 s (i+(l.flatMap fun k=>32::k.data.toList).length) r T→∃ R:List GFound,B3 s i (l.flatMap (fun k=>32::k.data.toList)++r) (R++T)∧R.map GFound.text=l∧∀ f∈R,f.kind=1∧f.err=0
 | [],i,r,T,_,h,_,hT=>⟨[],hT,rfl,(fun f hf=>by cases hf)⟩
 | k::l,i,r,T,hk,h,hr,hT=>by
  have hm:(k::l).flatMap (fun k=>32::k.data.toList)++r=32::(k.data.toList++(l.flatMap (fun k=>32::k.data.toList)++r)):=by
   rw [List.flatMap_cons];simp
  have hln:((k::l).flatMap fun k=>32::k.data.toList).length=1+k.size+(l.flatMap fun k=>32::k.data.toList).length:=by
   rw [List.flatMap_cons,aLQ,aLR,bA];omega
  rw [hm] at h ⊢;have h1:=(uT h).2.2;have h2:=gU h1;rw [bA] at h2;obtain ⟨R,hR,e1,e2⟩:=TG l (i+1+k.size) r T (fun x hx=>hk x (List.mem_cons_of_mem _ hx)) h2 hr (by rw [hln] at hT;rw [show i+1+k.size+(l.flatMap fun k=>32::k.data.toList).length=i+(1+k.size+(l.flatMap fun k=>32::k.data.toList).length)by omega];exact hT);have hst:B9 (l.flatMap (fun k=>32::k.data.toList)++r):=by
   cases l with
   | nil=>exact hr
   | cons a l=>rw [List.flatMap_cons];exact oX _
  refine⟨⟨1,k,i+1,0⟩::R,BV h (rU h1 (hk k List.mem_cons_self) hst hR),by rw [List.map_cons,e1],fun f hf=>?_⟩;rcases aL1.1 hf with rfl|hf
  ·exact⟨rfl,rfl⟩
  exact e2 f hf
theorem JM (k:ByteArray) (l:List ByteArray):cG [32] (bs (k::l))=k.data.toList++l.flatMap (fun k=>32::k.data.toList):=by rw [bs,List.map_cons,cG,List.flatMap_map];rfl
theorem aC5 {α:Type} {p:α→Bool} {c:α} {B:List α}:∀ {A:List α},(∀ a,a∈A→p a=false)→p c=true→tD p (A++c::B)=(A.length:Int):=by
 intro A hA hc;have h:(A++c::B).findIdx? p=some A.length:=by
  induction A with
  | nil=>rw [List.nil_append,List.findIdx?_cons,aLO hc];rfl
  | cons a A ih =>
   rw [List.cons_append,List.findIdx?_cons,aLN (by rw [hA a List.mem_cons_self];decide),ih fun x hx=>hA x (List.mem_cons_of_mem _ hx)];rfl
 rw [tD,h]
theorem T9 (l:List GTag):B9 (pF l):=by
 cases l with
 | nil=>exact Y4
 | cons t l=>rw [pF,List.flatMap_cons];exact oX _
theorem TE {x:Int} (h:0≤x) (h2:x < 1000000000000000000):atV (bK x)=x:=by rw [atV];show (match Lib.atoiAll (Lib.itoa x)with|.ok v=>v|.range=>_|_=>0)=x;rw [wN h h2]
theorem ZH {o:GObj} (h:mH o=true) (hk:o.kind≠1):∃ k l,o.refs=k::l:=by
 have hk5:=HB h;rw [mH,aLY,aL8,NH,tE] at h;have h1:=h.1;simp only [aLb,Bool.not_eq_false',aLX] at h1;have h4:=h1.1.2;have hl:1≤BI o.kind:=by
  rcases hk5 with e|e|e|e|e
  ·exact absurd e hk
  ·rw [e];decide
  ·rw [e];decide
  ·rw [e];decide
  rw [e];decide
 cases e:o.refs with
 | nil=>rw [e] at h4;exact absurd (show ((([]:List ByteArray).length:Nat):Int) < BI o.kind by show (0:Int) < _;omega) h4
 | cons k l=>exact⟨k,l,rfl⟩
theorem XN {T:List GFound} (h:4≤T.length):pC T=T:=by rw [pC,show 4 - T.length=0 by omega,List.replicate_zero,List.append_nil]
theorem ZZ (o:GObj):(xG o).data.toList.drop 0=vS o:=rfl
theorem XP {o:GObj} {i:ByteArray} {k x y:Int} {r:List ByteArray} {t:List GTag} (h1:o.id=i) (h2:o.kind=k) (h3:o.x=x) (h4:o.y=y) (h5:o.refs=r) (h6:o.tags=t):(⟨i,k,x,y,r,t⟩:GObj)=o:=by subst h1 h2 h3 h4 h5 h6;rfl
theorem aB1 {o:GObj} (hg:mH o=true):∃ T,B3 (xG o) 0 (vS o) T∧(∀ f,f∈T→f.err=0)∧T.length≤5000∧kI T=o:=by
 obtain ⟨hr,ht,htg,hid,_⟩:=JT hg;obtain ⟨hx,hy,hn,hz⟩:=aDG hg;obtain ⟨hw,hkw⟩:=D1 (HB hg);have hkey:∀ t,t∈o.tags→bI t.key=true:=fun t h=>((AA.1 htg).1 t h).1;have h0:=ZZ o;by_cases hk:o.kind=1
 ·have e:vS o=(fQ o.kind).data.toList++32::(o.id.data.toList++32::(Lib.itoa o.x++32::(Lib.itoa o.y++pF o.tags))):=by
   rw [vS,sN,aLO hk];simp
  rw [e] at h0 ⊢;have h1:=gU h0;rw [bA] at h1;have h2:=(uT h1).2.2;have h3:=gU h2;rw [bA] at h3;have h4:=(uT h3).2.2;have h5:=gU h4;have h6:=(uT h5).2.2;have h7:=gU h6;obtain ⟨T,hT,r1,r2,r3⟩:=KG o.tags _ hkey h7;have b:=rU h0 hw (oX _) (BV h1 (rU h2 hid (oX _) (BV h3 (YK h4 hx.1 (by omega) (oX _) (BV h5 (YK h6 hy.1 (by omega) (T9 _) hT))))));refine⟨_,b,fun f hf=>?_,?_,?_⟩
  ·simp only [aL1] at hf;rcases hf with rfl|rfl|rfl|rfl|hf
   ·rfl
   ·rfl
   ·rfl
   ·rfl
   exact r2 f hf
  ·simp only [aLR];omega
  rw [kI,XN (by simp only [aLR];omega)];simp only [List.getD_cons_zero,List.getD_cons_succ,List.drop_succ_cons,List.drop_zero];rw [hkw,aLO hk,HZ r1,TE hx.1 (by omega),TE hy.1 (by omega)];exact XP rfl hk rfl rfl (hn hk) rfl
 obtain ⟨k,l,hkl⟩:=ZH hg hk;have hnm:=A7 hg;rw [hkl] at hnm;have e:vS o=(fQ o.kind).data.toList++32::(o.id.data.toList++32::(40::(k.data.toList++(l.flatMap (fun k=>32::k.data.toList)++41::pF o.tags)))):=by
  rw [vS,sN,aLN hk,hkl,JM];simp
 rw [e] at h0 ⊢;have h1:=gU h0;rw [bA] at h1;have h2:=(uT h1).2.2;have h3:=gU h2;rw [bA] at h3;have h4:=(uT h3).2.2;have h5:=(uT h4).2.2;have h6:=gU h5;rw [bA] at h6;have h7:=gU h6;have h8:=(uT h7).2.2;obtain ⟨T,hT,r1,r2,r3⟩:=KG o.tags _ hkey h8;have hcl:=QC h7 (by decide) hT;obtain ⟨R,hR,q1,q2⟩:=TG l _ _ _ (fun x hx=>hnm x (List.mem_cons_of_mem _ hx)) h6 (Q3 _) hcl;have hst:B9 (l.flatMap (fun k=>32::k.data.toList)++41::pF o.tags):=by
  cases l with
  | nil=>exact Q3 _
  | cons a l=>rw [List.flatMap_cons];exact oX _
 have b:=rU h0 hw (oX _) (BV h1 (rU h2 hid (oX _) (BV h3 (QC h4 (by decide) (rU h5 (hnm k List.mem_cons_self) hst hR)))));have hRl:R.length=l.length:=by rw [← q1,aLP]
 have hrl:o.refs.length=l.length+1:=by rw [hkl,aLR]
 refine⟨_,b,fun f hf=>?_,?_,?_⟩
 ·simp only [aL1,List.mem_append] at hf;rcases hf with rfl|rfl|rfl|rfl|hf|rfl|hf
  ·rfl
  ·rfl
  ·rfl
  ·rfl
  ·exact(q2 f hf).2
  ·rfl
  exact r2 f hf
 ·simp only [aLR,aLQ];omega
 obtain ⟨A,hA⟩:∃ A:List GFound,A=⟨1,fQ o.kind,0,0⟩::⟨1,o.id,0+(fQ o.kind).size+1,0⟩::⟨4,⟨#[40]⟩,0+(fQ o.kind).size+1+o.id.size+1,0⟩::⟨1,k,0+(fQ o.kind).size+1+o.id.size+1+1,0⟩::R:=⟨_,rfl⟩;have hAl:A.length=R.length+4:=by rw [hA];rfl
 have hAc:∀ a,a∈A→gC a=false:=by
  intro a ha;rw [hA] at ha;simp only [aL1] at ha;rcases ha with rfl|rfl|rfl|rfl|ha
  ·rw [gC,decide_eq_false (show ¬ ((1:Int)=4)by decide),Bool.and_false]
  ·rw [gC,decide_eq_false (show ¬ ((1:Int)=4)by decide),Bool.and_false]
  ·rfl
  ·rw [gC,decide_eq_false (show ¬ ((1:Int)=4)by decide),Bool.and_false]
  rw [gC,(q2 a ha).1,decide_eq_false (show ¬ ((1:Int)=4)by decide),Bool.and_false]
 have hdrop:∀ c:GFound,(A++c::T).drop (A.length+1)=T:=fun c=>by
  rw [show A++c::T=(A++[c])++T by simp,show A.length+1=(A++[c]).length by simp,List.drop_left]
 have hx:=fun j=>aC5 (p:=gC) (c:=⟨4,⟨#[41]⟩,j,0⟩) (B:=T) hAc rfl;have hTT:∀ j,(⟨1,fQ o.kind,0,0⟩::⟨1,o.id,0+(fQ o.kind).size+1,0⟩::⟨4,⟨#[40]⟩,0+(fQ o.kind).size+1+o.id.size+1,0⟩::⟨1,k,0+(fQ o.kind).size+1+o.id.size+1+1,0⟩::(R++⟨4,⟨#[41]⟩,j,0⟩::T):List GFound)=A++⟨4,⟨#[41]⟩,j,0⟩::T:=fun j=>by rw [hA];rfl
 rw [kI,hTT,XN (by rw [aLQ,hAl];omega),hx,aLN (by rw [hA];show ¬ F0 (fQ o.kind)=1;rw [hkw];exact hk),aLN (by rw [hAl];omega),aL0,List.take_left,hdrop,HZ r1];obtain ⟨z1,z2⟩:=hz hk;refine XP ?_ ?_ z1 z2 ?_ rfl
 ·rw [hA];rfl
 ·rw [hA];show o.kind=F0 (fQ o.kind);rw [hkw]
 rw [hkl,hA];show k::l=k::R.map GFound.text;rw [q1]
def ofL (l:List UInt8):ByteArray:=⟨l.toArray⟩
theorem dV (l:List UInt8):(ofL l).data.toList=l:=by simp [ofL]
theorem mF (s:ByteArray):ofL s.data.toList=s:=zD (dV _)
theorem fY (l:List UInt8):(ofL l).size=l.length:=by rw [← bA,dV]
def oP (s:ByteArray):GObj×Int:=if 20000 < s.size then(zObj,2)else if(gN s).2.1=0∧iF (kI (gN s).1)=(s,0)then(kI (gN s).1,0)else(zObj,5)
theorem XQ {o:GObj} (h:(iF o).2=0):mH o=true∧iF o=(xG o,0)∧(xG o).size≤20000:=by
 rw [iF] at h ⊢;by_cases hg:mH o=true
 ·rw [aLO hg] at h ⊢;by_cases h1:0 < o.tags.length∧(fZ o.tags).2≠0
  ·rw [aLO h1] at h;exact absurd h h1.2
  rw [aLN h1] at h ⊢;by_cases h2:20000 < (xG o).size
  ·rw [aLO h2] at h;cases h
  rw [aLN h2];exact⟨hg,rfl,by omega⟩
 rw [aLN hg] at h;cases h
theorem UT {o:GObj} (h:(iF o).2=0):oP (iF o).1=(o,0):=by
 obtain ⟨hg,ht,hs⟩:=XQ h;obtain ⟨T,hT,h1,h2,h3⟩:=aB1 hg;have hlex:gN (xG o)=(T,0,0):=by
  rw [gN,aLN (by omega),hT _ (by rw [← bA];exact Nat.le_succ _),ER T [] h1 (by rw [List.length_nil];omega),List.nil_append]
 rw [ht,oP,aLN (by show ¬ 20000 < (xG o).size;omega)];show (if(gN (xG o)).2.1=0∧iF (kI (gN (xG o)).1)=(xG o,0)then(kI (gN (xG o)).1,(0:Int))else(zObj,5))=(o,0);rw [hlex];show (if(0:Int)=0∧iF (kI T)=(xG o,0)then(kI T,(0:Int))else(zObj,5))=(o,0);rw [h3,aLO ⟨rfl,ht⟩]
def aAw:List UInt8:=[112,117,116]
def WY:List UInt8:=[109,111,118,101]
def YW:List UInt8:=[116,97,103]
def WX:List UInt8:=[114,101,102,115]
def W0:List UInt8:=[100,114,111,112]
def OB:List UInt8:=[115,112,108,105,116]
def WZ:List UInt8:=[106,111,105,110]
def iV (e:GEdit):List (List UInt8) :=if e.op=2 then[WY,e.id.data.toList,Lib.itoa e.x,Lib.itoa e.y] else if e.op=3 then[YW,e.id.data.toList,e.key.data.toList,dT e.val.data.toList]
 else if e.op=4 then WX::e.id.data.toList::bs e.refs else if e.op=5 then[W0,e.id.data.toList]
 else if e.op=6 then[OB,e.id.data.toList,e.node.data.toList,e.other.data.toList] else[WZ,e.id.data.toList,e.other.data.toList]
def fL (e:GEdit):List UInt8:=if e.op=1 then aAw++32::(iF e.obj).1.data.toList else cG [32] (iV e)
def iO (e:GEdit):Int:=if e.op=1 then(iF e.obj).2 else 0
def sH:List UInt8→List GEdit→List UInt8×Int
 | acc,[]=>(acc,0)
 | acc,e::r=>if iO e≠0∨20000 < (acc++(fL e++[10])).length then([],2)else sH (acc++(fL e++[10])) r
def fX (l:List GEdit):ByteArray×Int:=if sR l then(ofL (sH [] l).1,(sH [] l).2)else(sNil,1)
def LI (s:List UInt8):Int:=match Lib.atoiAll s with
 | .ok v=>v
 | _ => -1
def SV:GEdit:=⟨0,sNil,sNil,sNil,0,0,sNil,sNil,[],zObj⟩
def yB (w:List (List UInt8)) (word rest:List UInt8):GEdit :=if word=aAw then⟨1,sNil,sNil,sNil,0,0,sNil,sNil,[],(oP (ofL rest)).1⟩
 else if word=WY∧w.length=4 then⟨2,ofL (w.getD 1 []),sNil,sNil,LI (w.getD 2 []),LI (w.getD 3 []),sNil,sNil,[],zObj⟩
 else if word=YW∧3 < w.length then(match (gN (ofL (cG [32] (w.drop 3)))).1 with
  | [f]=>⟨3,ofL (w.getD 1 []),sNil,sNil,0,0,ofL (w.getD 2 []),f.text,[],zObj⟩
  | _=>SV)
 else if word=WX∧1 < w.length then⟨4,ofL (w.getD 1 []),sNil,sNil,0,0,sNil,sNil,(w.drop 2).map ofL,zObj⟩
 else if word=W0∧w.length=2 then⟨5,ofL (w.getD 1 []),sNil,sNil,0,0,sNil,sNil,[],zObj⟩
 else if word=OB∧w.length=4 then⟨6,ofL (w.getD 1 []),ofL (w.getD 3 []),ofL (w.getD 2 []),0,0,sNil,sNil,[],zObj⟩
 else if word=WZ∧w.length=3 then⟨7,ofL (w.getD 1 []),ofL (w.getD 2 []),sNil,0,0,sNil,sNil,[],zObj⟩
 else SV
def gT (s:List UInt8):GEdit:=yB (eD 32 s) ((eD 32 s).headD []) (s.drop (((eD 32 s).headD []).length+1))
def kN (t:ByteArray):List GEdit×Int :=if 20000 < t.size then([],2)else if fX ((iU t.data.toList).map fun s=>gT (Lib.trimSuffix s [10]))=(t,0)then((iU t.data.toList).map fun s=>gT (Lib.trimSuffix s [10]),0)else([],5)
theorem M5 {k:ByteArray} (hk:bI k=true) {b:UInt8} (hb:b∈k.data.toList):DG (b.toNat:Int)=3∨DG (b.toNat:Int)=4∨DG (b.toNat:Int)=5:=by
 obtain ⟨j,hj⟩:=aLa.1 hb;have hlt:=(aLT.1 hj).1;rw [bA] at hlt;have h:=(vV hk).2.2.2 j hlt;have e:dU k j=(b.toNat:Int):=by rw [dU,hj];rfl
 rwa [e] at h
theorem oN {k:ByteArray} (hk:bI k=true):(32:UInt8)∉k.data.toList∧(10:UInt8)∉k.data.toList:=by
 constructor
 ·intro h;have:=M5 hk h;revert this;decide
 intro h;have:=M5 hk h;revert this;decide
theorem HC {x:Int} (h:0≤x):(32:UInt8)∉Lib.itoa x∧(10:UInt8)∉Lib.itoa x:=by
 rw [lE x h];constructor
 ·intro h;have:=(oH _ h).1;revert this;decide
 intro h;have:=(oH _ h).1;revert this;decide
theorem RK (l:List UInt8):(10:UInt8)∉dT l:=by
 rw [dT];simp only [aL1,List.mem_append,List.mem_flatMap,aL5,or_false,not_or];refine⟨by decide,?_,by decide⟩;rintro⟨b,_,h⟩;rw [nK] at h;by_cases h1:b=10
 ·rw [aLO h1] at h;revert h;decide
 rw [aLN h1] at h;by_cases h2:b=34∨b=92
 ·rw [aLO h2] at h;simp only [aL1,aL5,or_false] at h;rcases h with h|h
  ·revert h;decide
  exact h1 h.symm
 rw [aLN h2,aLS] at h;exact h1 h.symm
theorem rI {b:UInt8} (hb:b≠32):∀ {l:List (List UInt8)},(∀ w∈l,b∉w)→b∉cG [32] l
 | [],_,h=>by cases h
 | x::l,hl,h=>by
  rw [cG] at h;rcases List.mem_append.1 h with h|h
  ·exact hl x List.mem_cons_self h
  obtain ⟨y,hy,h⟩:=List.mem_flatMap.1 h;rcases List.mem_append.1 h with h|h
  ·rw [aLS] at h;exact hb h
  exact hl y (List.mem_cons_of_mem _ hy) h
theorem aEm {l:List GTag} (h:∀ t,t∈l→bI t.key=true):(10:UInt8)∉pF l:=by
 intro hm;obtain ⟨t,ht,hm⟩:=List.mem_flatMap.1 hm;rw [M9] at hm;simp only [aL1,List.mem_append] at hm;rcases hm with h1|h1|h1|h1
 ·revert h1;decide
 ·exact(oN (h t ht)).2 h1
 ·revert h1;decide
 exact RK _ h1
theorem aHJ {o:GObj} (hg:mH o=true):(10:UInt8)∉vS o:=by
 obtain ⟨hr,ht,htg,hid,_⟩:=JT hg;obtain ⟨hx,hy,_,_⟩:=aDG hg;have hkey:∀ t,t∈o.tags→bI t.key=true:=fun t h=>((AA.1 htg).1 t h).1;intro h;rw [vS,sN] at h;simp only [aL1,List.mem_append] at h;rcases h with(h|h|h|h|h)|h
 ·exact(oN (D1 (HB hg)).1).2 h
 ·revert h;decide
 ·exact(oN hid).2 h
 ·revert h;decide
 ·split at h
  ·simp only [aL1,List.mem_append] at h;rcases h with h|h|h
   ·exact(HC hx.1).2 h
   ·revert h;decide
   exact(HC hy.1).2 h
  simp only [aL1,List.mem_append,aL5,or_false] at h;rcases h with h|h|h
  ·revert h;decide
  ·refine rI (by decide) (fun w hw=>?_) h;obtain ⟨s,hs,rfl⟩:=List.mem_map.1 hw;exact(oN (A7 hg s hs)).2
  revert h;decide
 exact aEm hkey h
abbrev oB (o:GObj):aA:=[(1,bx 6 153 ((bH o).map .pv))]
theorem aE6 {l:List UInt8} (h:l≠[]) (s:ByteArray):ZM l s=l++32::s.data.toList:=by rw [ZM,aLN h]
theorem aKQ (K:aA) (s:ByteArray) (hl:s.size < 70368744177663):aG Tryz.prog 240 [.ref 2001 0 0 0,sv s] (lU 0 [] false++K) (fun r H'=>r=.tup []∧H'=lU 1 s.data.toList true++K):=by
 have h:=aB9 K 0 [] false s (by rw [List.length_nil];omega)
 rwa [aLO rfl,show ZM [] s=s.data.toList from rfl] at h
theorem ZN (K:aA) (g:Nat) (l:List UInt8) (s:ByteArray) (h0:l≠[]) (hl:l.length+s.size < 70368744177663):aG Tryz.prog 240 [.ref 2001 0 0 0,sv s] (lU g l true++K) (fun r H'=>r=.tup []∧H'=lU (g+2) (l++32::s.data.toList) true++K):=by
 have h:=aB9 K g l true s hl
 rwa [aLN h0,aE6 h0] at h
theorem GT (K:aA) (g:Nat) (l:List UInt8) (u:Bool) (hl:l.length < 70368744177664):aG Tryz.prog 116 [.ref 2001 0 0 0] (lU g l u++K) (fun r H'=>r=sv ⟨l.toArray⟩∧H'=TB g l u++(lU g l u++K)) :=aG.frame (aG6 g l u hl) aG5 (cY.ofL ⟨(by exact J8 rfl rfl),(by exact dG _ _),trivial⟩) (by simp;rfl) (fun id h=>.inl (by
  simp only [TB,lU,aA.get] at h ⊢;cases e1:Nat.beq 2001 id with
  | true=>rfl
  | false =>
   cases e2:Nat.beq 2002 id with
   | true=>rfl
   | false=>rw [e1,e2] at h;cases h))
theorem M1 {o:GObj} (hg:mH o=true) (h:0 < o.tags.length∧(fZ o.tags).2≠0):iF o=(sNil,(fZ o.tags).2):=by rw [iF,aLO hg,aLO h]
theorem zT {o:GObj} {L:List UInt8} (hg:mH o=true) (h:¬ (0 < o.tags.length∧(fZ o.tags).2≠0)) (hL:vS o=L) (h2:20000 < L.length):iF o=(sNil,2):=by
 have hs:(xG o).size=L.length:=by rw [← hL,← bA];rfl
 rw [iF,aLO hg,aLN h,aLO (by rw [hs];exact h2)]
theorem zU {o:GObj} {L:List UInt8} (hg:mH o=true) (h:¬ (0 < o.tags.length∧(fZ o.tags).2≠0)) (hL:vS o=L) (h2:¬ 20000 < L.length):iF o=(⟨L.toArray⟩,0):=by
 have hs:(xG o).size=L.length:=by rw [← hL,← bA];rfl
 rw [iF,aLO hg,aLN h,aLN (by rw [hs];exact h2),xG,hL]
theorem qP {l:List GTag} (h0:0 < l.length) (h:(fZ l).2=0):32::(fZ l).1.data.toList=pF l∧(fZ l).1.size≤20000:=by
 rw [fZ] at h ⊢;by_cases h1:wX l=true
 ·rw [aLO h1] at h ⊢;by_cases h2:20000 < (F6 l).size
  ·rw [aLO h2] at h;cases h
  rw [aLN h2];refine⟨?_,by show (F6 l).size≤_;omega⟩;cases l with
  | nil=>exact absurd h0 (Nat.lt_irrefl 0)
  | cons t l =>
   show 32::(F6 (t::l)).data.toList=_;rw [Y2];simp [pF]
 rw [aLN h1] at h;cases h
theorem NJ:∀ l:List ByteArray,(l.flatMap fun k=>32::k.data.toList).length=l.length+cV l
 | []=>rfl
 | k::l=>by
  have ih:=NJ l;rw [List.flatMap_cons,aLQ,aLR,aLR,ih,bA,cV,cV,List.map_cons,List.sum_cons];omega
theorem lK (l:List ByteArray):(cG [32] (bs l)).length≤l.length+cV l:=by
 cases l with
 | nil=>exact aL6 _
 | cons k l =>
  rw [JM,aLQ,NJ,bA,aLR,cV,cV,List.map_cons,List.sum_cons];omega
theorem M0 (o:GObj) (H:aA) (ho:okO o):aG Tryz.prog 203 [av (bH o)] H (fun r H'=>r=.tup [sv (iF o).1,iv (iF o).2]∧H'=H):=by
 refine Pu ?_;refine Bd func203 rfl ntmps203<|Sr<|Dd (by exact bZ (id:=1) rfl rfl rfl rfl rfl)<|Dd aP<|Dd aP<|Zz<|Sq<|Sr<|Dd (pN cM sizeOf153)<|Dd (by exact aB rfl rfl call239 rfl (JA o _ ho))<|Dd lI<|Zz ?_;refine Cn ?_ ?_<;>intro hc1
 ·have hg:mH o=false:=by rw [← aL8];exact hc1
  have e:iF o=(sNil,1):=by rw [iF,aLN (by rw [hg];decide)]
  rw [e];exact Sr<|Dd aP<|Dd aP<|Zz<|aC<|Ru<|Qq
 have hg:mH o=true:=by rw [← Bool.not_eq_false'];exact hc1
 obtain ⟨hr,ht,htg,hid,_⟩:=JT hg;obtain ⟨hx,hy,hn,hz⟩:=aDG hg;have hw:=(D1 (HB hg)).1;have hws:=eE hw;have his:=eE hid;have hwp:=(vV hw).1;have hw0:(fQ o.kind).data.toList≠[]:=fun e=>by have:=congrArg List.length e;rw [bA,List.length_nil] at this;omega
 refine aE<|Sr<|Dd (by exact bE (id:=2001) rfl aGV rfl rfl)<|Zz<|Sq ?_;refine fE.ent (E':=[(1,.ref 1 0 0 0),(2,sv sNil),(3,iv 0),(4,.ref 2001 0 0 0)]) (H':=[(2002,⟨0,1,5,[]⟩),(2001,BR (.osl 2002 0 0 0) false),(1,bx 6 153 ((bH o).map .pv))]) (cC.nz 2002 1 5 rfl rfl ⟨⟨_,rfl,(by exact Nz.same (by(simp;rfl)))⟩,⟨_,rfl,(by exact Nz.same (by(simp;done)))⟩,⟨_,rfl,(by exact Nz.same (by(simp;done)))⟩,⟨_,rfl,(by exact Nz.same (by(simp;rfl)))⟩,trivial⟩ ⟨⟨_,rfl,rfl,rfl,rfl,(by exact .inr ⟨_,_,rfl,rfl,(by repeat(first|exact trivial|refine⟨(by first|exact Nz.own|exact Nz.same (by(simp;done))),?_⟩))⟩)⟩,⟨_,rfl,rfl,rfl,rfl,(by exact .inl ⟨rfl,(by(simp;done))⟩)⟩,trivial⟩ trivial) ?_;refine fE.ent (E':=[(1,.ref 1 0 0 0),(2,sv sNil),(3,iv 0),(4,.ref 2001 0 0 0)]) (H':=lU 0 [] false++oB o) (cC.get (fun _=>rfl) (fun j=>lZ (by decide) j)) ?_;refine Rg<|Dd (bB gE)<|Dd (bL isAgg3)<|Dd (by exact aB rfl rfl tR rfl (A1 o.kind _))<|Dd (by exact aB rfl rfl tQ rfl (aKQ (oB o) (fQ o.kind) (by omega)))<|Zz<|Sr<|Dd (bB oQ)<|Dd (bL isAgg9)<|Dd (by exact aB rfl rfl tQ rfl (ZN (oB o) 1 (fQ o.kind).data.toList o.id hw0 (by rw [bA];omega)))<|Zz<|Sq<|Sq ?_;obtain ⟨L1,hL1⟩:∃ L,L=(fQ o.kind).data.toList++32::o.id.data.toList:=⟨_,rfl⟩;have hn1:L1≠[]:=by rw [hL1];simp
 have hl1:L1.length≤49:=by rw [hL1,aLQ,aLR,bA,bA];omega
 rw [← hL1];by_cases hk:o.kind=1
 ·have six:(bK o.x).size≤7:=by rw [← bA];show (Lib.itoa o.x).length≤7;rw [lE _ hx.1];exact fR (by omega) (by decide)
  have siy:(bK o.y).size≤7:=by rw [← bA];show (Lib.itoa o.y).length≤7;rw [lE _ hy.1];exact fR (by omega) (by decide)
  obtain ⟨L2,hL2⟩:∃ L,L=L1++32::(bK o.x).data.toList:=⟨_,rfl⟩;have hn2:L2≠[]:=by rw [hL2];simp
  have hl2:L2.length≤57:=by rw [hL2,aLQ,aLR,bA];omega
  have p2:=ZN (oB o) (1+2) L1 (bK o.x) hn1 (by omega);rw [← hL2] at p2;obtain ⟨L3,hL3⟩:∃ L,L=L2++32::(bK o.y).data.toList:=⟨_,rfl⟩;have hn3:L3≠[]:=by rw [hL3];simp
  have hl3:L3.length≤200000:=by rw [hL3,aLQ,aLR,bA];omega
  have p3:=ZN (oB o) (1+2+2) L2 (bK o.y) hn2 (by omega);rw [← hL3] at p3;have hH:sN o=L3:=by
   rw [sN,aLO hk,hL3,hL2,hL1];show _=(_++32::Lib.itoa o.x)++32::Lib.itoa o.y;simp
  refine Rg<|Dd (bB gE)<|Dd (bL isAgg3)<|Dd dC<|Zz ?_;refine Cn ?_ ?_<;>intro hc2
  ·refine Sr<|Dd (bB nQ)<|Dd (bB tH)<|Dd (bL isAgg3)<|Dd (by exact aB rfl rfl mM rfl (qG o.x (by omega) (by omega) _))<|Dd (by exact aB rfl rfl tQ rfl (p2))<|Zz<|Rg<|Dd (bB nQ)<|Dd (bB tG)<|Dd (bL isAgg3)<|Dd (by exact aB rfl rfl mM rfl (qG o.y (by omega) (by omega) _))<|Dd (by exact aB rfl rfl tQ rfl (p3))<|Zz<|Sq<|Sr<|Dd (bB fK)<|Dd (bL cT)<|Dd (fW cK)<|Dd mU<|Zz ?_;refine Cn ?_ ?_<;>intro hc3
   ·have htp:0 < o.tags.length:=by have:=aLL hc3;rw [aLP] at this;omega
    refine Sr<|Dd (bB fK)<|Dd (bL cT)<|Dd (by exact aB rfl rfl call241 rfl (ME o.tags _ ho.2.1))<|Dd aI<|Dd eS<|Dd eS<|Dd aP<|Dd aP<|Zz<|Sq<|Sr<|Dd aI<|Dd yM<|Zz ?_;refine Cn ?_ ?_<;>intro hc4
    ·have hte:(fZ o.tags).2≠0:=by have hq:=hc4;rw [aL8,aLX] at hq;exact hq
     rw [M1 hg ⟨htp,hte⟩];exact Sr<|Dd aI<|Dd aP<|Dd aP<|Zz<|aC<|Ru<|Qq
    have hte:(fZ o.tags).2=0:=by have hq:=hc4;rw [Bool.not_eq_false',aLW] at hq;exact hq
    have hlen2:(L3++32::(fZ o.tags).1.data.toList).length≤300000:=by have:=hl3;have:=(qP htp hte).2;rw [aLQ,aLR,bA];omega
    have hLL:vS o=L3++32::(fZ o.tags).1.data.toList:=by rw [(qP htp hte).1,vS,hH]
    refine aE<|Rg<|Dd aI<|Dd (by exact aB rfl rfl tQ rfl (ZN (oB o) (1+2+2+2) L3 (fZ o.tags).1 hn3 (by have:=hl3;have:=(qP htp hte).2;omega)))<|Zz<|Sq<|Sr<|Dd (bB lL)<|Dd (by exact aB rfl rfl tT rfl (HA (oB o) ((1+2+2+2)+2) (L3++32::(fZ o.tags).1.data.toList) true))<|Dd mU<|Zz ?_;refine Cn ?_ ?_<;>intro hc5
    ·have hlong:=aLL hc5;rw [zT hg (fun h=>h.2 hte) hLL (by omega)];exact Sr<|Dd aP<|Dd aP<|Zz<|aC<|Ru<|Qq
    have hlong:=aLM hc5;rw [zU hg (fun h=>h.2 hte) hLL (by omega)];exact aE<|Sr<|Dd (bB lL)<|Dd (by exact aB rfl rfl kU rfl (GT (oB o) ((1+2+2+2)+2) (L3++32::(fZ o.tags).1.data.toList) true (by have:=hlen2;omega)))<|Dd aP<|Dd aP<|Zz<|aC<|Ru<|Qq
   have htp:¬ 0 < o.tags.length:=by have:=aLM hc3;rw [aLP] at this;omega
   have hLL:vS o=L3:=by rw [vS,hH,List.length_eq_zero_iff.1 (by omega:o.tags.length=0)];exact List.append_nil _
   refine aE<|Sq<|Sr<|Dd (bB lL)<|Dd (by exact aB rfl rfl tT rfl (HA (oB o) (1+2+2+2) L3 true))<|Dd mU<|Zz ?_;refine Cn ?_ ?_<;>intro hc6
   ·have hlong:=aLL hc6;rw [zT hg (fun h=>htp h.1) hLL (by omega)];exact Sr<|Dd aP<|Dd aP<|Zz<|aC<|Ru<|Qq
   have hlong:=aLM hc6;rw [zU hg (fun h=>htp h.1) hLL (by omega)];exact aE<|Sr<|Dd (bB lL)<|Dd (by exact aB rfl rfl kU rfl (GT (oB o) (1+2+2+2) L3 true (by have:=hl3;omega)))<|Dd aP<|Dd aP<|Zz<|aC<|Ru<|Qq
  exact absurd hk (aLM hc2)
 have hsz:cV o.refs≤24*o.refs.length:=pA (fun s hs=>eE (A7 hg s hs));have hjl:=lK o.refs;obtain ⟨J,hJ⟩:∃ J:ByteArray,J=⟨(cG [32] (bs o.refs)).toArray⟩:=⟨_,rfl⟩;have hj:∀ H,aG Tryz.prog 168 [.pv (aU o.refs),sv ⟨#[32]⟩] H (fun x H'=>x=sv J∧H'=H):=fun H=>by
  rw [hJ];exact qE o.refs ⟨#[32]⟩ H (by decide) (by show 1*_+_+_ < _;omega)
 have hJl:J.data.toList=cG [32] (bs o.refs):=by rw [hJ]
 obtain ⟨L3,hL3⟩:∃ L,L=L1++32::((⟨#[40]⟩:ByteArray)++J++⟨#[41]⟩).data.toList:=⟨_,rfl⟩;have hQ:((⟨#[40]⟩:ByteArray)++J++⟨#[41]⟩).data.toList=40::(cG [32] (bs o.refs)++[41]):=by rw [← hJl];simp
 have hQs:((⟨#[40]⟩:ByteArray)++J++⟨#[41]⟩).size≤60000:=by rw [← bA,hQ,aLR,aLQ,List.length_singleton];omega
 have hJs:J.size≤52000:=by rw [← bA,hJl];omega
 have h40:(⟨#[40]⟩:ByteArray).size=1:=rfl;have h41:(⟨#[41]⟩:ByteArray).size=1:=rfl;have hAs:((⟨#[40]⟩:ByteArray)++J).size=1+J.size:=by rw [ByteArray.size_append,h40]
 have hn3:L3≠[]:=by rw [hL3];simp
 have hl3:L3.length≤200000:=by rw [hL3,aLQ,aLR,bA];omega
 have p3:=ZN (oB o) (1+2) L1 ((⟨#[40]⟩:ByteArray)++J++⟨#[41]⟩) hn1 (by omega);rw [← hL3] at p3;have hH:sN o=L3:=by
  rw [sN,aLN hk,hL3,hL1,hQ];simp
 refine Rg<|Dd (bB gE)<|Dd (bL isAgg3)<|Dd dC<|Zz ?_;refine Cn ?_ ?_<;>intro hc7
 ·exact absurd (aLL hc7) hk
 refine Rg<|Dd (bB gD)<|Dd (bL aJ)<|Dd (by exact aB rfl rfl mL rfl (hj _))<|Dd (by exact gP rfl rfl rfl (by omega) rfl)<|Dd (by exact gP rfl rfl rfl (by omega) rfl)<|Dd (by exact aB rfl rfl tQ rfl (p3))<|Zz<|Sq<|Sr<|Dd (bB fK)<|Dd (bL cT)<|Dd (fW cK)<|Dd mU<|Zz ?_;refine Cn ?_ ?_<;>intro hc8
 ·have htp:0 < o.tags.length:=by have:=aLL hc8;rw [aLP] at this;omega
  refine Sr<|Dd (bB fK)<|Dd (bL cT)<|Dd (by exact aB rfl rfl call241 rfl (ME o.tags _ ho.2.1))<|Dd aI<|Dd eS<|Dd eS<|Dd aP<|Dd aP<|Zz<|Sq<|Sr<|Dd aI<|Dd yM<|Zz ?_;refine Cn ?_ ?_<;>intro hc9
  ·have hte:(fZ o.tags).2≠0:=by have hq:=hc9;rw [aL8,aLX] at hq;exact hq
   rw [M1 hg ⟨htp,hte⟩];exact Sr<|Dd aI<|Dd aP<|Dd aP<|Zz<|aC<|Ru<|Qq
  have hte:(fZ o.tags).2=0:=by have hq:=hc9;rw [Bool.not_eq_false',aLW] at hq;exact hq
  have hlen2:(L3++32::(fZ o.tags).1.data.toList).length≤300000:=by have:=hl3;have:=(qP htp hte).2;rw [aLQ,aLR,bA];omega
  have hLL:vS o=L3++32::(fZ o.tags).1.data.toList:=by rw [(qP htp hte).1,vS,hH]
  refine aE<|Rg<|Dd aI<|Dd (by exact aB rfl rfl tQ rfl (ZN (oB o) (1+2+2) L3 (fZ o.tags).1 hn3 (by have:=hl3;have:=(qP htp hte).2;omega)))<|Zz<|Sq<|Sr<|Dd (bB lL)<|Dd (by exact aB rfl rfl tT rfl (HA (oB o) ((1+2+2)+2) (L3++32::(fZ o.tags).1.data.toList) true))<|Dd mU<|Zz ?_;refine Cn ?_ ?_<;>intro hc10
  ·have hlong:=aLL hc10;rw [zT hg (fun h=>h.2 hte) hLL (by omega)];exact Sr<|Dd aP<|Dd aP<|Zz<|aC<|Ru<|Qq
  have hlong:=aLM hc10;rw [zU hg (fun h=>h.2 hte) hLL (by omega)];exact aE<|Sr<|Dd (bB lL)<|Dd (by exact aB rfl rfl kU rfl (GT (oB o) ((1+2+2)+2) (L3++32::(fZ o.tags).1.data.toList) true (by have:=hlen2;omega)))<|Dd aP<|Dd aP<|Zz<|aC<|Ru<|Qq
 have htp:¬ 0 < o.tags.length:=by have:=aLM hc8;rw [aLP] at this;omega
 have hLL:vS o=L3:=by rw [vS,hH,List.length_eq_zero_iff.1 (by omega:o.tags.length=0)];exact List.append_nil _
 refine aE<|Sq<|Sr<|Dd (bB lL)<|Dd (by exact aB rfl rfl tT rfl (HA (oB o) (1+2+2) L3 true))<|Dd mU<|Zz ?_;refine Cn ?_ ?_<;>intro hc11
 ·have hlong:=aLL hc11;rw [zT hg (fun h=>htp h.1) hLL (by omega)];exact Sr<|Dd aP<|Dd aP<|Zz<|aC<|Ru<|Qq
 have hlong:=aLM hc11;rw [zU hg (fun h=>htp h.1) hLL (by omega)];exact aE<|Sr<|Dd (bB lL)<|Dd (by exact aB rfl rfl kU rfl (GT (oB o) (1+2+2) L3 true (by have:=hl3;omega)))<|Dd aP<|Dd aP<|Zz<|aC<|Ru<|Qq
theorem oA:∀ {l:List (List UInt8)} {w:List UInt8},(32:UInt8)∉w→(∀ x∈l,(32:UInt8)∉x)→eD 32 (cG [32] (w::l))=w::l
 | [],w,h,_=>by rw [cG,List.flatMap_nil,List.append_nil];exact oY h
 | a::l,w,h,hl=>by
  have e:cG [32] (w::a::l)=w++32::cG [32] (a::l):=by rw [cG,List.flatMap_cons,cG];simp
  rw [e,kX h,oA (hl a List.mem_cons_self) fun x hx=>hl x (List.mem_cons_of_mem _ hx)]
theorem JL:∀ l:List UInt8,cG [32] (eD 32 l)=l
 | []=>rfl
 | b::l=>by
  have ih:=JL l;have hp:=vJ 32 l;rw [eD];cases e:eD 32 l with
  | nil=>rw [e] at hp;exact absurd hp (Nat.lt_irrefl 0)
  | cons x r =>
   rw [e,cG] at ih;by_cases h:b=32
   ·rw [aLO h,cG,List.flatMap_cons,List.nil_append,List.append_assoc,ih,h];rfl
   rw [aLN h,cG,List.headD_cons,List.tail_cons,List.cons_append,ih]
theorem M3 {x:Int} (h:0≤x) (h2:x < 1000000000000000000):LI (Lib.itoa x)=x:=by rw [LI,wN h h2]
theorem aHe (l:List ByteArray):(bs l).map ofL=l:=by rw [bs,List.map_map];exact(List.map_congr_left fun s _=>mF s).trans (List.map_id _)
theorem SM:∀ l:List UInt8,(l.flatMap nK).length≤2*l.length
 | []=>aLV _
 | b::l=>by
  have ih:=SM l;have h:(nK b).length≤2:=by
   rw [nK]
   split
   ·exact aLV _
   split
   ·exact aLV _
   exact Nat.le_succ _
  rw [List.flatMap_cons,aLQ,aLR];omega
theorem Z8 {v:ByteArray} (hv:v.size≤200):(gN (ofL (dT v.data.toList))).1=[⟨3,v,0,0⟩]:=by
 have h0:(ofL (dT v.data.toList)).data.toList.drop 0=dT v.data.toList++[]:=by rw [dV,List.append_nil];rfl
 have hl:(dT v.data.toList).length≤402:=by
  have:=SM v.data.toList;rw [bA] at this;rw [dT,aLR,aLQ,List.length_singleton];omega
 have hq:0 < (dT v.data.toList).length:=by rw [dT,aLR];omega
 have hT:=DM (Q4 h0) rfl (rF h0 hq) hq (all_nil (gU h0));rw [gN,aLN (by rw [fY];omega),hT _ (by rw [fY,List.append_nil];exact Nat.le_succ _),ER _ [] (by intro f hf;rw [aLS] at hf;subst hf;rfl) (by simp)];rfl
theorem wC {w:List UInt8} {r:List (List UInt8)}:(w::r).headD []=w:=rfl
theorem MP {e:GEdit} (hv:fJ e=true) (he:iO e=0):gT (fL e)=e∧(10:UInt8)∉fL e:=by
 obtain ⟨⟨o1,o7⟩,hok,hx⟩:=wE.1 hv;rw [iO] at he;by_cases p1:e.op=1
 ·rw [aLO p1] at he;obtain ⟨hg,ht,_⟩:=XQ he;have hp:=UT he;rw [GG,aLO p1,p1] at hx;rw [fL,aLO p1];constructor
  ·rw [gT,kX (by decide),wC,yB,aLO rfl];show (⟨1,sNil,sNil,sNil,0,0,sNil,sNil,[],(oP (ofL (iF e.obj).1.data.toList)).1⟩:GEdit)=e;rw [mF,hp];exact hx
  rw [ht];intro h;rcases List.mem_append.1 h with h|h
  ·revert h;decide
  rcases aL1.1 h with h|h
  ·revert h;decide
  exact aHJ hg h
 rw [uE,aLN p1,aLY] at hok;obtain ⟨hid,hok⟩:=hok;have i1:=oN hid;rw [fL,aLN p1];by_cases p2:e.op=2
 ·rw [aLO p2] at hok;have hxy:(0≤e.x∧e.x < 1048576)∧0≤e.y∧e.y < 1048576:=by
   rw [onP] at hok;simp only [aLY,aLW] at hok;omega
  rw [GG,aLN p1,aLO p2,p2] at hx;rw [iV,aLO p2];have n1:=HC hxy.1.1;have n2:=HC hxy.2.1;refine⟨?_,rI (by decide) ?_⟩
  ·rw [gT,oA (by decide) (by intro w hw;simp only [aL1,aL5,or_false] at hw;rcases hw with rfl|rfl|rfl;all_goals first|exact i1.1|exact n1.1|exact n2.1),wC,yB,aLN (by decide),aLO ⟨rfl,rfl⟩];show (⟨2,ofL e.id.data.toList,sNil,sNil,LI (Lib.itoa e.x),LI (Lib.itoa e.y),sNil,sNil,[],zObj⟩:GEdit)=e;rw [mF,M3 hxy.1.1 (by omega),M3 hxy.2.1 (by omega)];exact hx
  intro w hw;simp only [aL1,aL5,or_false] at hw;rcases hw with rfl|rfl|rfl|rfl;all_goals first|exact(by decide)|exact i1.2|exact n1.2|exact n2.2
 by_cases p3:e.op=3
 ·rw [aLN p2,aLO p3,aLY,aLW] at hok;have k1:=oN hok.1;rw [GG,aLN p1,aLN p2,aLO p3,p3] at hx;rw [iV,aLN p2,aLO p3];refine⟨?_,rI (by decide) ?_⟩
  ·have hj:cG [32] [YW,e.id.data.toList,e.key.data.toList,dT e.val.data.toList]=YW++32::(e.id.data.toList++32::(e.key.data.toList++32::dT e.val.data.toList)):=by simp [cG]
   have hs:=vJ 32 (dT e.val.data.toList);rw [hj,gT,kX (by decide),kX i1.1,kX k1.1,wC,yB,aLN (by decide),aLN (fun h=>absurd h.1 (by decide)),aLO ⟨rfl,by simp only [aLR];omega⟩];show (match (gN (ofL (cG [32] (eD 32 (dT e.val.data.toList))))).1 with
    | [f]=>(⟨3,ofL e.id.data.toList,sNil,sNil,0,0,ofL e.key.data.toList,f.text,[],zObj⟩:GEdit)
    | _=>SV)=e
   rw [JL,Z8 (by omega),mF,mF];exact hx
  intro w hw;simp only [aL1,aL5,or_false] at hw;rcases hw with rfl|rfl|rfl|rfl;all_goals first|exact(by decide)|exact i1.2|exact k1.2|exact RK _
 by_cases p4:e.op=4
 ·rw [aLN p2,aLN p3,aLO p4,aLY,aLY,List.all_eq_true] at hok;have hr:=hok.2;rw [GG,aLN p1,aLN p2,aLN p3,aLO p4,p4] at hx;rw [iV,aLN p2,aLN p3,aLO p4];have hb:∀ (b:UInt8),(b=32∨b=10)→∀ w∈bs e.refs,b∉w:=by
   intro b hb w hw;obtain ⟨s,hs,rfl⟩:=List.mem_map.1 hw;have:=oN (hr s hs);rcases hb with rfl|rfl;all_goals first|exact this.1|exact this.2
  refine⟨?_,rI (by decide) ?_⟩
  ·rw [gT,oA (by decide) (by intro w hw;rcases aL1.1 hw with rfl|hw;all_goals first|exact i1.1|exact hb 32 (.inl rfl) w hw),wC,yB,aLN (by decide),aLN (fun h=>absurd h.1 (by decide)),aLN (fun h=>absurd h.1 (by decide)),aLO ⟨rfl,by simp only [aLR];omega⟩];show (⟨4,ofL e.id.data.toList,sNil,sNil,0,0,sNil,sNil,(bs e.refs).map ofL,zObj⟩:GEdit)=e;rw [mF,aHe];exact hx
  intro w hw;rcases aL1.1 hw with rfl|hw
  ·decide
  rcases aL1.1 hw with rfl|hw;all_goals first|exact i1.2|exact hb 10 (.inr rfl) w hw
 by_cases p5:e.op=5
 ·rw [GG,aLN p1,aLN p2,aLN p3,aLN p4,aLO p5,p5] at hx;rw [iV,aLN p2,aLN p3,aLN p4,aLO p5];refine⟨?_,rI (by decide) ?_⟩
  ·rw [gT,oA (by decide) (by intro w hw;rw [aLS] at hw;subst hw;exact i1.1),wC,yB,aLN (by decide),aLN (fun h=>absurd h.1 (by decide)),aLN (fun h=>absurd h.1 (by decide)),aLN (fun h=>absurd h.1 (by decide)),aLO ⟨rfl,rfl⟩];show (⟨5,ofL e.id.data.toList,sNil,sNil,0,0,sNil,sNil,[],zObj⟩:GEdit)=e;rw [mF];exact hx
  intro w hw;simp only [aL1,aL5,or_false] at hw;rcases hw with rfl|rfl;all_goals first|exact(by decide)|exact i1.2
 by_cases p6:e.op=6
 ·rw [aLN p2,aLN p3,aLN p4,aLN p5,aLO p6,aLY] at hok;have k1:=oN hok.1;have k2:=oN hok.2;rw [GG,aLN p1,aLN p2,aLN p3,aLN p4,aLN p5,aLO p6,p6] at hx;rw [iV,aLN p2,aLN p3,aLN p4,aLN p5,aLO p6];refine⟨?_,rI (by decide) ?_⟩
  ·rw [gT,oA (by decide) (by intro w hw;simp only [aL1,aL5,or_false] at hw;rcases hw with rfl|rfl|rfl;all_goals first|exact i1.1|exact k1.1|exact k2.1),wC,yB,aLN (by decide),aLN (fun h=>absurd h.1 (by decide)),aLN (fun h=>absurd h.1 (by decide)),aLN (fun h=>absurd h.1 (by decide)),aLN (fun h=>absurd h.1 (by decide)),aLO ⟨rfl,rfl⟩];show (⟨6,ofL e.id.data.toList,ofL e.other.data.toList,ofL e.node.data.toList,0,0,sNil,sNil,[],zObj⟩:GEdit)=e;rw [mF,mF,mF];exact hx
  intro w hw;simp only [aL1,aL5,or_false] at hw;rcases hw with rfl|rfl|rfl|rfl;all_goals first|exact(by decide)|exact i1.2|exact k1.2|exact k2.2
 have p7:e.op=7:=by omega
 rw [aLN p2,aLN p3,aLN p4,aLN p5,aLN p6] at hok;have k2:=oN hok;rw [GG,aLN p1,aLN p2,aLN p3,aLN p4,aLN p5,aLN p6,p7] at hx;rw [iV,aLN p2,aLN p3,aLN p4,aLN p5,aLN p6];refine⟨?_,rI (by decide) ?_⟩
 ·rw [gT,oA (by decide) (by intro w hw;simp only [aL1,aL5,or_false] at hw;rcases hw with rfl|rfl;all_goals first|exact i1.1|exact k2.1),wC,yB,aLN (by decide),aLN (fun h=>absurd h.1 (by decide)),aLN (fun h=>absurd h.1 (by decide)),aLN (fun h=>absurd h.1 (by decide)),aLN (fun h=>absurd h.1 (by decide)),aLN (fun h=>absurd h.1 (by decide)),aLO ⟨rfl,rfl⟩];show (⟨7,ofL e.id.data.toList,ofL e.other.data.toList,sNil,0,0,sNil,sNil,[],zObj⟩:GEdit)=e;rw [mF,mF];exact hx
 intro w hw;simp only [aL1,aL5,or_false] at hw;rcases hw with rfl|rfl|rfl;all_goals first|exact(by decide)|exact i1.2|exact k2.2
end Go.Proofs.YtiifmppaejpemaaGreatDoor
namespace Go.Abs
section
section
variable {P:Program} {H:aA}
theorem aAI (s:ByteArray) (c:Int):aFn P Extern.BytealgCount.count H [.pv (.str s),.pv (.int .u8 c)] (.pv (.int .i64 ((Lib.countByte s.data.toList c.toNat.toUInt8:Nat):Int))):=by intro w I ι cs hl h;obtain ⟨u,v,rfl,h1,h2⟩:=QZ hl h;rw [h1.str_inv,h2.int_inv];exact⟨_,Lib.run_countString s c w,.pv (.int _ _)⟩
end
end
end Go.Abs
namespace Go.Proofs.YtiifmppaejpemaaGreatDoor
open Go.Proofs.Tryz
open Go.Abs
abbrev sSp:ByteArray:=⟨#[32]⟩
theorem MK (s:ByteArray) (H:aA):aG Tryz.prog 195 [sv s,sv sSp] H (fun r H'=>r=iv (Lib.indexByte s.data.toList 32)∧H'=H):=by
 refine Pu ?_;refine Bd func195 rfl ntmps195<|Sr<|Dd aP<|Zz<|Sr<|Dd aI<|Dd (nV underlying9)<|Dd aP<|Zz<|Sq<|aF<|Sq ?_;refine bC (t:=16) (n:=9) (X:=decide (sSp=s)) ?_ ?_
 ·all_goals refine Dd aI ?_
  all_goals refine Dd dC<|Dm ?_
  all_goals refine Sp 19 (fun h19=>?_) fun h19=>?_
  all_goals try contradiction
  all_goals refine On aI<|On aI<|On AJ<|Dd cL<|Da ?_
  all_goals(exact⟨⟨_,rfl,by rfl⟩,rfl,rfl,rfl⟩)
 refine Cn ?_ ?_<;>intro hc1
 ·have hs:=aLL hc1;subst hs;exact Sr<|Dd aP<|Zz<|aC<|Rt<|Qq
 refine Sr<|Dd aI<|Dd dC<|Da ?_;refine Cn ?_ ?_<;>intro hc2
 ·exact Sr<|Dd aI<|Dd aI<|Dd (by exact eH rfl underlying9 rfl rfl (by omega) (by exact aL0 _) (show 0 < (⟨#[32]⟩:ByteArray).size from Nat.zero_lt_one) rfl)<|Dd (by exact aB rfl rfl aKj rfl (sW s 32 _))<|Dd aP<|Zz<|aC<|Rt<|Qq
 cases hc2
theorem aFD (s:ByteArray) (H:aA):aG Tryz.prog 235 [sv s,sv sSp] H (fun r H'=>r=iv (Lib.indexByte s.data.toList 32)∧H'=H):=by refine Pu ?_;exact Bd func235 rfl ntmps235<|Sr<|Dd aP<|Zz<|Sr<|Dd aI<|Dd aI<|Dd (by exact aB rfl rfl KI rfl (MK s _))<|Dd aP<|Zz<|aC<|Rt<|Qq
def S1 (s:ByteArray):AV:=if Lib.indexByte s.data.toList 32 = -1 then .tup [sv s,sv ⟨#[]⟩,bv false] else .tup [sv (s.extract 0 (Lib.indexByte s.data.toList 32).toNat),sv (s.extract ((Lib.indexByte s.data.toList 32).toNat+1) s.size),bv true]
theorem aEC (s:ByteArray) (H:aA) (hs:s.size < 1099511627776):aG Tryz.prog 160 [sv s,sv sSp] H (fun r H'=>r=S1 s∧H'=H):=by
 refine Pu ?_;have hI:=fun H=>MK s H;rw [S1];rcases Classical.em (Lib.indexByte s.data.toList 32 = -1)with h1|h1
 ·rw [aLO h1];simp only [h1] at hI;refine Bd aAd rfl TP<|Sr<|Dd aP<|Dd aP<|Dd aP<|Zz<|Sq<|Sr<|Dd aI<|Dd aI<|Dd (by exact aB rfl rfl KI rfl (hI _))<|Dd aP<|Zz<|Sr<|Dd aI<|Dd JS<|Zz ?_;refine Cn ?_ ?_<;>intro hc1
  ·cases hc1
  refine aE<|Sr<|Dd aI<|Dd aP<|Dd aP<|Dd aP<|Zz<|aC ?_;refine xE (H':=[]) (.inr rfl) rfl (aT rfl) (aT rfl) (aT rfl) (Fin.wk (by simp) trivial trivial) ?_;exact Qq
 rw [aLN h1];obtain ⟨w,r,e1,e2,e3⟩:=rL h1;simp only [e3] at hI;rw [e3,aL0];have hl:w.length+1+r.length=s.size:=by rw [← show s.data.toList.length=s.size by simp,e1,aLQ,aLR];omega
 refine Bd aAd rfl TP<|Sr<|Dd aP<|Dd aP<|Dd aP<|Zz<|Sq<|Sr<|Dd aI<|Dd aI<|Dd (by exact aB rfl rfl KI rfl (hI _))<|Dd aP<|Zz<|Sr<|Dd aI<|Dd JS<|Zz ?_;refine Cn ?_ ?_<;>intro hc1
 ·refine Sq<|aQ follows<|Cq aI<|Cq aI<|Cq (by exact cJ (l:=0) (h:=(w.length)) rfl underlying9 rfl rfl rfl (by omega) (by omega) rfl)<|Cq aI<|Cq aI<|Cq aI<|Cq (nV underlying9)<|Cq (by exact cA rfl rfl rfl (show IntKind.i64.wrap ((w.length:Int)+1)=((w.length+1:Nat):Int)by rw [IntKind.wrap_i64];omega))<|Cq (by exact cJ (l:=(w.length+1)) (h:=s.size) rfl underlying9 rfl rfl rfl (by omega) (by omega) rfl)<|Cq aP<|Cq aP<|Cq aP<|bJ<|Kr<|aC ?_;refine xE (H':=[]) (.inr rfl) rfl (aT rfl) (aT rfl) (aT rfl) (Fin.wk (by simp) trivial trivial) ?_;exact Qq
 have hx:=aLM hc1;omega
theorem aJ5 (s:ByteArray) (H:aA) (hs:s.size < 1099511627776):aG Tryz.prog 117 [sv s,sv sSp] H (fun r H'=>r=S1 s∧H'=H):=by
 refine Pu ?_;have hC:=fun H=>aEC s H hs;rw [S1] at *;rcases Classical.em (Lib.indexByte s.data.toList 32 = -1)with h1|h1
 ·simp only [S1,aLO h1] at hC ⊢;refine Bd aAf rfl TR<|Sr<|Dd aP<|Dd aP<|Dd aP<|Zz<|Sr<|Dd aI<|Dd aI<|Dd (by exact aB rfl rfl aAi rfl (hC _))<|Dd eS<|Dd eS<|Dd eS<|Dd aP<|Dd aP<|Dd aP<|Zz<|aC ?_;refine xE (H':=[]) (.inr rfl) rfl (aT rfl) (aT rfl) (aT rfl) (Fin.wk (by simp) trivial trivial) ?_;exact Qq
 simp only [S1,aLN h1] at hC ⊢;refine Bd aAf rfl TR<|Sr<|Dd aP<|Dd aP<|Dd aP<|Zz<|Sr<|Dd aI<|Dd aI<|Dd (by exact aB rfl rfl aAi rfl (hC _))<|Dd eS<|Dd eS<|Dd eS<|Dd aP<|Dd aP<|Dd aP<|Zz<|aC ?_;refine xE (H':=[]) (.inr rfl) rfl (aT rfl) (aT rfl) (aT rfl) (Fin.wk (by simp) trivial trivial) ?_;exact Qq
abbrev sNl:ByteArray:=⟨#[10]⟩
def wJ (s:ByteArray):Bool:=decide ((1:Int)≤(s.size:Int))&&decide (s.extract (s.size - 1) s.size=sNl)
def xV (s:ByteArray):ByteArray:=if wJ s then s.extract 0 (s.size - 1)else s
theorem SE (s:ByteArray) (H:aA) (hs:s.size < 1099511627776):aG Tryz.prog 206 [sv s,sv sNl] H (fun r H'=>r=bv (wJ s)∧H'=H):=by
 refine Pu ?_;refine Bd func206 rfl ntmps206<|Sr<|Dd aP<|Zz<|Sq ?_;refine bC (t:=4) (n:=18) (X:=wJ s) ?_ ?_
 ·all_goals refine Dd aI ?_
  all_goals refine Dd (nV underlying9)<|Dd aI<|Dd (nV underlying9)<|Dd JS<|Dm ?_
  all_goals refine Sp 10 (fun h10=>?_) fun h10=>?_
  all_goals try contradiction
  all_goals first|refine Fo<|Fo<|Fo<|Fo<|Fo<|Fo<|Fo<|Fo<|Fo ?_|refine On aI<|On aI<|On (nV underlying9)<|On aI<|On (nV underlying9)<|On (by exact eB rfl rfl rfl (show IntKind.i64.wrap ((s.size:Int) - 1)=((s.size - 1:Nat):Int)by have h11:(1:Int)≤(s.size:Int):=aLL h10;rw [IntKind.wrap_i64];omega))<|On (by exact cJ (l:=(s.size - 1)) (h:=s.size) rfl underlying9 rfl rfl rfl (by omega) (by omega) rfl)<|On aI<|On AJ ?_
  all_goals refine Dd cL<|Da ?_
  all_goals(exact⟨⟨_,rfl,by(simp only [wJ];rw [show decide ((1:Int)≤(s.size:Int))=_ from h10];rfl)⟩,rfl,rfl,rfl⟩)
 exact aC<|Rt<|Qq
theorem aBO (s:ByteArray) (H:aA) (hs:s.size < 1099511627776):aG Tryz.prog 169 [sv s,sv sNl] H (fun r H'=>r=sv (xV s)∧H'=H):=by
 refine Pu ?_;refine Bd func169 rfl ntmps169<|Sr<|Dd aP<|Zz<|Sq<|Sr<|Dd aI<|Dd aI<|Dd (by exact aB rfl rfl call206 rfl (SE s _ hs))<|Zz ?_;refine Cn ?_ ?_<;>intro hc1
 ·have h1:1≤s.size:=by
   have h:=hc1;rw [wJ,aLY,aLW] at h;omega
  rw [xV,aLO hc1];exact Sr<|Dd aI<|Dd aI<|Dd (nV underlying9)<|Dd aI<|Dd (nV underlying9)<|Dd (by exact eB rfl rfl rfl (show IntKind.i64.wrap ((s.size:Int) - 1)=((s.size - 1:Nat):Int)by rw [IntKind.wrap_i64];omega))<|Dd (by exact cJ (l:=0) (h:=(s.size - 1)) rfl underlying9 rfl rfl rfl (by omega) (by omega) rfl)<|Dd aP<|Zz<|aC<|Rt<|Qq
 rw [xV,aLN (by rw [hc1];decide)];exact aE<|Sr<|Dd aI<|Dd aP<|Zz<|aC<|Rt<|Qq
theorem T1 (s:ByteArray) (H:aA) (hs:s.size < 1099511627776):aG Tryz.prog 121 [sv s,sv sNl] H (fun r H'=>r=sv (xV s)∧H'=H):=by refine Pu ?_;exact Bd func121 rfl ntmps121<|Sr<|Dd aP<|Zz<|Sr<|Dd aI<|Dd aI<|Dd (by exact aB rfl rfl call169 rfl (aBO s _ hs))<|Dd aP<|Zz<|aC<|Rt<|Qq
theorem aFX (s:ByteArray) (H:aA):aG Tryz.prog 234 [sv s,sv sSp] H (fun r H'=>r=iv ((s.data.toList.count 32:Nat):Int)∧H'=H):=by
 refine Pu ?_;refine Bd func234 rfl ntmps234<|Sr<|Dd aP<|Zz<|Sq<|Sr<|Dd aI<|Dd (nV underlying9)<|Dd dC<|Zz ?_;refine Cn ?_ ?_<;>intro hc1
 ·cases hc1
 refine aE<|Sq<|Sr<|Dd aI<|Dd (nV underlying9)<|Dd dC<|Zz ?_;refine Cn ?_ ?_<;>intro hc2
 ·exact Sr<|Dd aI<|Dd aI<|Dd (by exact eH rfl underlying9 rfl rfl (by omega) (by exact aL0 _) (show 0 < (⟨#[32]⟩:ByteArray).size from Nat.zero_lt_one) rfl)<|Dd (by exact G5 rfl rfl func264 rfl rfl rfl rfl rfl (aAI s 32))<|Dd aP<|Zz<|aC<|Rt<|Qq
 cases hc2
def ofY (l:List UInt8):ByteArray:=⟨l.toArray⟩
def cX (s:ByteArray):List ByteArray:=(eD 32 s.data.toList).map ofY
def vK (D:List ByteArray) (m:Nat):List (List AV):=D.map (fun e=>(encStr e).map AV.pv)++List.replicate m [sv ⟨#[]⟩]
theorem MI (D:List ByteArray) (m:Nat):(vK D (m+1))[D.length]?=some [sv ⟨#[]⟩]:=by rw [vK,List.getElem?_append_right (by rw [aLP];exact aLV _),aLP,Nat.sub_self];rfl
theorem UB {s:ByteArray} (h:(cX s).length=1):cX s=[s]:=by rw [cX,aLP,qV] at h;have h0:(32:UInt8)∉s.data.toList:=List.count_eq_zero.1 (by omega);rw [cX,oY h0];rfl
theorem IB (D:List ByteArray) (m:Nat) (x:ByteArray):(vK D (m+1)).set D.length [sv x]=vK (D++[x]) m:=by unfold vK;rw [List.set_append_right _ _ (by rw [aLP];exact aLV _),aLP,Nat.sub_self,List.map_append,List.append_assoc];rfl
theorem IC (H:aA) (D:List ByteArray) (m:Nat):∀ r∈vK D m,∀ a∈r,Clo H a:=by
 intro r hr a ha;rcases List.mem_append.1 hr with hr|hr
 ·obtain ⟨d,_,rfl⟩:=List.mem_map.1 hr;obtain ⟨p,_,rfl⟩:=List.mem_map.1 ha;simp
 rw [List.eq_of_mem_replicate hr,aLS] at ha;subst ha;simp
theorem exL (s:ByteArray) (i j:Nat):(s.extract i j).data.toList=(s.data.toList.drop i).take (j - i):=by rw [ByteArray.data_extract,Array.toList_extract,List.extract_eq_take_drop]
theorem eqL {a b:ByteArray} (h:a.data.toList=b.data.toList):a=b:=by cases a;cases b;simp_all [Array.toList_inj]
theorem aCA {s:ByteArray} {w r:List UInt8} (h:s.data.toList=w++32::r):s.extract 0 w.length=ofY w∧(s.extract (w.length+1) s.size).data.toList=r:=by
 have hl:s.size=w.length+1+r.length:=by
  show s.data.size=_;rw [← Array.length_toList,h,aLQ,aLR];omega
 constructor
 ·refine eqL ?_;rw [exL,List.drop_zero,Nat.sub_zero,h,List.take_left];simp [ofY]
 rw [exL,h,hl,show w++32::r=(w++[32])++r by simp,show w.length+1=(w++[(32:UInt8)]).length by simp,List.drop_left];exact List.take_of_length_le (by omega)
theorem aK6 {H1:aA} {id g n:Nat} {ob:Ob} (ps:List (List PV)) (hH:H1.get id=some ob) (hg:ob.g=g) (hps:ob.rows=ps.map (·.map .pv)) (hn:ps.length=n):Fin [] H1 (.osl id g 0 n) [] (.pv (.sl ps)):=by subst hg hn;exact Fin.fz (id:=id) (ob:=ob) ps hH hps (.osl (by rw [aL7,List.drop_zero,List.take_length])) rfl trivial trivial
theorem VP (s0:ByteArray) (H:aA) (hs:s0.size < 1099511627776):aG Tryz.prog 201 [sv s0,sv sSp,iv 0,iv (-1)] H (fun r H'=>r=.pv (aU (cX s0))∧H'=H):=by
 refine Pu ?_;obtain ⟨N,hN⟩:∃ N,N=s0.data.toList.count 32:=⟨_,rfl⟩;have hNs:N≤s0.size:=by rw [hN];exact Nat.le_trans List.count_le_length (by simp)
 have hC:=fun H=>aFX s0 H;rw [← hN] at hC;have hlen:(eD 32 s0.data.toList).length=N+1:=by rw [qV,hN]
 refine Bd func201 rfl ntmps201<|Sr<|Dd aP<|Zz<|Sq<|Sr<|Dd aI<|Dd dC<|Zz ?_;refine Cn ?_ ?_<;>intro hc1
 ·cases hc1
 refine aE<|Sq<|Sr<|Dd aI<|Dd AJ<|Zz ?_;refine Cn ?_ ?_<;>intro hc2
 ·have:=aLL hc2;cases this
 refine aE<|Sq<|Sr<|Dd aI<|Dd dI<|Zz ?_;refine Cn ?_ ?_<;>intro hc3
 ·refine Rg<|Dd aI<|Dd aI<|Dd (by exact aB rfl rfl call234 rfl (hC _))<|Dd (by exact cA rfl rfl rfl (show IntKind.i64.wrap ((N:Int)+1)=((N+1:Nat):Int)by rw [IntKind.wrap_i64];omega))<|Dd aP<|Zz<|Sr<|Dd aI<|Dd aI<|Dd (nV underlying9)<|Dd (by exact cA rfl rfl rfl (show IntKind.i64.wrap ((s0.size:Int)+1)=((s0.size+1:Nat):Int)by rw [IntKind.wrap_i64];omega))<|Dd (by exact GZ (r:=((N+1:Nat):Int)) rfl rfl rfl (by omega))<|Dd aP<|Zz<|Sr<|Dd aI<|Dd (by exact FL (id:=31) rfl cO TN zo9 rfl rfl rfl (by omega) (by omega) (by exact aL0 _) (by exact aL0 _) (by omega) rfl)<|Dd aP<|Zz<|Sr<|Dd aI<|Dd (by exact eB rfl rfl rfl (show IntKind.i64.wrap (((N+1:Nat):Int) - 1)=(N:Int)by rw [IntKind.wrap_i64];omega))<|Dd aP<|Zz<|Sr<|Dd aP<|Zz<|Sq<|aF ?_;refine jB (fun(D:List ByteArray) (rest:ByteArray)=>([(0,sv rest),(1,sv sSp),(2,iv 0),(3,iv (N:Int)),(8,.pv (.sl [])),(9,.osl 31 0 0 (N+1)),(10,iv (D.length:Int))],[(31,⟨0,1,9,vK D (N+1 - D.length)⟩)])) (fun D rest=>cX s0=D++cX rest∧rest.size≤s0.size) (fun D rest=>N - D.length) [] s0 ⟨rfl,aLV _⟩ ?_ ?_
  ·exact(cC.wk (Eb<|Eb<|Eb<|Eb<|Eb<|Ea<|Eb<|trivial) (Hc (IC _ _ _)<|trivial) trivial)
  rintro D rest ⟨hD,hr⟩;have hln:D.length+(cX rest).length=N+1:=by
   have:=congrArg List.length hD;rw [aLQ,cX,aLP,hlen] at this;exact this.symm
  have hpos:0 < (cX rest).length:=by rw [cX,aLP];exact vJ _ _
  obtain ⟨m,hm⟩:∃ m,N+1 - D.length=m+1:=⟨N - D.length,by omega⟩;have hI:=fun H=>aFD rest H;rw [hm];rcases Nat.lt_or_ge D.length N with hlt|hge
  ·have h1:Lib.indexByte rest.data.toList 32 ≠ -1:=fun h=>by
    have h2:=oY (rK.1 h);rw [cX,h2] at hln;have:D.length+1=N+1:=hln;omega
   obtain ⟨w,r,e1,e2,e3⟩:=rL h1;obtain ⟨x1,x2⟩:=aCA e1;have hl:w.length+1+r.length=rest.size:=by rw [← show rest.data.toList.length=rest.size by simp,e1,aLQ,aLR];omega
   have hsp:cX rest=rest.extract 0 w.length::cX (rest.extract (w.length+1) rest.size):=by
    rw [cX,e1,kX e2,List.map_cons,x1,cX,x2]
   simp only [e3] at hI;refine Sq<|Sr<|Dd aI<|Dd aI<|Dd dI<|Zz ?_;refine Cn ?_ ?_<;>intro hc4
   ·refine aE<|aF<|Sr<|Dd aI<|Dd aI<|Dd (by exact aB rfl rfl call235 rfl (hI _))<|Dd aP<|Zz<|Sq<|Sr<|Dd aI<|Dd dI<|Zz ?_;refine Cn ?_ ?_<;>intro hc5
    ·have:=aLL hc5;omega
    refine aE<|Sr<|Dd aI<|Dd aI<|Dd aI<|Dd aI<|Dd aI<|Dd (by exact cA rfl rfl rfl (show IntKind.i64.wrap ((w.length:Int)+0)=(w.length:Int)by rw [IntKind.wrap_i64];omega))<|Dd (by exact cJ (l:=0) (h:=w.length) rfl underlying9 rfl rfl rfl (by omega) (by omega) rfl)<|Dd (by exact dH rfl cO rfl rfl rfl rfl rfl (by omega) (by exact aL0 _) (by omega) (aL7 _))<|Uu (by exact aZ rfl sizeOf9 rfl rfl rfl rfl rfl (MI D m) Nat.zero_lt_one rfl (IB D m _))<|Zz<|Sr<|Dd aI<|Dd aI<|Dd aI<|Dd (nV underlying9)<|Dd (by exact cA rfl rfl rfl (show IntKind.i64.wrap ((w.length:Int)+1)=((w.length+1:Nat):Int)by rw [IntKind.wrap_i64];omega))<|Dd (by exact cJ (l:=(w.length+1)) (h:=rest.size) rfl underlying9 rfl rfl rfl (by omega) (by omega) rfl)<|Dd aP<|Zz<|Rg<|Dm ?_;refine Dd (by exact cA rfl rfl rfl (show IntKind.i64.wrap ((D.length:Int)+1)=((D.length+1:Nat):Int)by rw [IntKind.wrap_i64];omega))<|Da ?_;have e5:(D++[rest.extract 0 w.length]).length=D.length+1:=by simp
    have hsz:(rest.extract (w.length+1) rest.size).size≤s0.size:=by rw [← show (rest.extract (w.length+1) rest.size).data.toList.length=(rest.extract (w.length+1) rest.size).size by simp,x2];omega
    refine⟨D++[rest.extract 0 w.length],rest.extract (w.length+1) rest.size,⟨by rw [hD,hsp,List.append_assoc];rfl,hsz⟩,by rw [e5];omega,?_⟩;rw [e5,show N+1 - (D.length+1)=m by omega];exact(cC.wk (Eb<|Eb<|Eb<|Eb<|Eb<|Ea<|Eb<|trivial) (Hc (IC _ _ _)<|trivial) trivial)
   have:=aLM hc4;omega
  have hDN:D.length=N:=by omega
  have hone:cX rest=[rest]:=UB (by omega);have hm0:m=0:=by omega
  subst hm0;refine Sq<|Sr<|Dd aI<|Dd aI<|Dd dI<|Zz ?_;refine Cn ?_ ?_<;>intro hc6
  ·have:=aLL hc6;omega
  refine bG<|Sr<|Dd aI<|Dd aI<|Dd aI<|Dd (by exact dH rfl cO rfl rfl rfl rfl rfl (by omega) (by exact aL0 _) (by omega) (aL7 _))<|Uu (by exact aZ rfl sizeOf9 rfl rfl rfl rfl rfl (MI D 0) Nat.zero_lt_one rfl (IB D 0 _))<|Zz<|Sr<|Dd aI<|Dd aI<|Dd (by exact cA rfl rfl rfl (show IntKind.i64.wrap ((D.length:Int)+1)=((D.length+1:Nat):Int)by rw [IntKind.wrap_i64];omega))<|Dd (by exact gF (l:=0) (h:=(D.length+1)) rfl cO rfl rfl rfl rfl rfl rfl (by omega) (by omega) rfl rfl)<|Dd aP<|Zz<|aC ?_;have hps:(D++[rest]).map encStr=(cX s0).map encStr:=by rw [hD,hone]
  refine dF (H':=[]) (.inr rfl) rfl (aT rfl) (aK6 (id:=31) ((D++[rest]).map encStr) rfl rfl (by show vK (D++[rest]) 0=_;rw [vK,List.replicate_zero,List.append_nil,List.map_map];rfl) (by simp)) ⟨?_,rfl⟩;rw [aU,hps]
 cases hc3
theorem Y9 (s:ByteArray) (H:aA) (hs:s.size < 1099511627776):aG Tryz.prog 164 [sv s,sv sSp] H (fun r H'=>r=.pv (aU (cX s))∧H'=H):=by refine Pu ?_;exact Bd func164 rfl ntmps164<|Sr<|Dd aP<|Zz<|Sr<|Dd aI<|Dd aI<|Dd (by exact aB rfl rfl call201 rfl (VP s _ hs))<|Dd aP<|Zz<|aC<|Rt<|Qq
def rG (t:ByteArray):ByteArray:=if Lib.indexByte t.data.toList 10 = -1 then t else t.extract 0 ((Lib.indexByte t.data.toList 10).toNat+1)
def FX (t:ByteArray):ByteArray:=if Lib.indexByte t.data.toList 10 = -1 then⟨#[]⟩else t.extract ((Lib.indexByte t.data.toList 10).toNat+1) t.size
def eX (s:ByteArray):Nat→ByteArray
 | 0=>s
 | k+1=>FX (eX s k)
def fG (s:ByteArray):List ByteArray:=(iU s.data.toList).map ofY
theorem aBz (s:ByteArray):ofY s.data.toList=s:=eqL (by simp [ofY])
theorem szY (s:ByteArray):s.data.toList.length=s.size:=by simp
theorem aCX {t:ByteArray} (h:Lib.indexByte t.data.toList 10 ≠ -1):∃ w r,t.data.toList=w++10::r∧(10:UInt8)∉w∧Lib.indexByte t.data.toList 10=(w.length:Int)∧t.extract 0 (w.length+1)=ofY (w++[10])∧(t.extract (w.length+1) t.size).data.toList=r∧w.length+1+r.length=t.size:=by
 obtain ⟨w,r,e1,e2,e3⟩:=rL h;have hl:w.length+1+r.length=t.size:=by rw [← szY,e1,aLQ,aLR];omega
 have e4:t.data.toList=(w++[10])++r:=by rw [e1];simp
 refine⟨w,r,e1,e2,e3,eqL ?_,?_,hl⟩
 ·rw [exL,List.drop_zero,Nat.sub_zero,e4,show w.length+1=(w++[(10:UInt8)]).length by simp,List.take_left];simp [ofY]
 rw [exL,e4,show w.length+1=(w++[(10:UInt8)]).length by simp,List.drop_left];exact List.take_of_length_le (by rw [aLQ,List.length_singleton];omega)
theorem uL {t:ByteArray} (h:¬ 0 < t.size):fG t=[]:=by have:t.data.toList=[]:=List.length_eq_zero_iff.1 (by rw [szY];omega);rw [fG,this];rfl
theorem vX {t:ByteArray} (h:0 < t.size):fG t=rG t::fG (FX t)∧(FX t).size≤t.size:=by
 rw [rG,FX];by_cases h1:Lib.indexByte t.data.toList 10 = -1
 ·rw [aLO h1,aLO h1];refine⟨?_,aL6 _⟩;rw [fG,FZ (rK.1 h1) (fun e=>by rw [← szY,e] at h;exact absurd h (Nat.lt_irrefl 0))];show [ofY t.data.toList]=_;rw [aBz];rfl
 rw [aLN h1,aLN h1];obtain ⟨w,r,e1,e2,e3,e4,e5,e6⟩:=aCX h1;rw [e3,aL0,e4];refine⟨?_,by rw [← szY,e5];omega⟩;rw [fG,e1,BD e2,List.map_cons,fG,e5]
theorem uB (s:ByteArray):∀ k,k≤(fG s).length→fG (eX s k)=(fG s).drop k∧(eX s k).size≤s.size
 | 0,_=>⟨rfl,aLV _⟩
 | k+1,h=>by
  obtain ⟨i1,i2⟩:=uB s k (Nat.le_of_succ_le h);have hp:0 < (eX s k).size:=by
   rcases Nat.lt_or_ge 0 (eX s k).size with h1|h1
   ·exact h1
   have h2:=uL (t:=eX s k) (by omega);rw [h2] at i1;have:=congrArg List.length i1;rw [aL4,List.length_nil] at this;omega
  obtain ⟨j1,j2⟩:=vX hp;rw [j1] at i1;refine⟨?_,Nat.le_trans j2 i2⟩;show fG (FX (eX s k))=_;have:=congrArg List.tail i1;rw [List.tail_cons,List.tail_drop] at this;exact this
theorem aEx {s:ByteArray} {k:Nat} (h:k < (fG s).length):(fG s)[k]?=some (rG (eX s k))∧0 < (eX s k).size:=by
 obtain ⟨i1,i2⟩:=uB s k (Nat.le_of_lt h);have hp:0 < (eX s k).size:=by
  rcases Nat.lt_or_ge 0 (eX s k).size with h1|h1
  ·exact h1
  have h2:=uL (t:=eX s k) (by omega);rw [h2] at i1;have:=congrArg List.length i1;rw [aL4,List.length_nil] at this;omega
 refine⟨?_,hp⟩;rw [(vX hp).1] at i1;have:=congrArg List.head? i1;rw [List.head?_cons,List.head?_drop] at this;exact this.symm
def lB (s:ByteArray):Ob:=bx 1 9 [sv s]
theorem aEw (s:ByteArray) (H:aA) (h1:H.get 933=none):aG Tryz.prog 119 [sv s] H (fun r H'=>r=.clo 163 [.ref 933 0 0 0]∧H'=(933,lB s)::H):=by refine Bd func119 rfl ntmps119<|Sr<|Dd (by exact bZ (id:=933) rfl rfl rfl rfl h1)<|Dd aP<|Zz<|Sr<|Dd (by exact eY rfl rfl)<|Dd aP<|Zz<|aC ?_;refine dF (H':=((933,lB s)::H)) (.inr rfl) rfl (aT rfl) Fin.refl ?_;exact Qq
theorem aCM (s:ByteArray) (fv:AV) (Hs:Nat→aA) (hs:s.size < 1099511627776) (h1:∀ k,(Hs k).get 933=some (lB (eX s k)))
  (hy:∀ k,k < (fG s).length→cB Tryz.prog fv [sv (rG (eX s k))] ((933,lB (eX s (k+1)))::Hs k) (fun r H'=>r=bv true∧H'=Hs (k+1))) :
  aG Tryz.prog 163 [fv,.ref 933 0 0 0] (Hs 0) (fun r H'=>r=.tup []∧H'=Hs (fG s).length):=by
 refine Bd func163 rfl ntmps163<|aF ?_;refine bR (σ:=Nat) (fun k=>([(0,fv),(1,.ref 933 0 0 0)],Hs k)) (fun k=>k≤(fG s).length) (fun k=>(fG s).length - k) 0 (aL6 _) ?_ ?_
 ·exact E0
 rintro k hk;obtain ⟨i1,i2⟩:=uB s k hk;have hI:=fun H=>mT (eX s k) 10 H;have hnx:eX s (k+1)=FX (eX s k):=rfl;refine Sq<|Sr<|Dd (by exact aK rfl isAgg9 rfl (h1 k) rfl rfl rfl)<|Dd (nV underlying9)<|Dd mU<|Zz ?_;refine Cn ?_ ?_<;>intro hc1
 ·have hp:0 < (eX s k).size:=by have:=aLL hc1;omega
  have hlt:k < (fG s).length:=by
   rcases Nat.lt_or_ge k (fG s).length with h|h
   ·exact h
   rw [(vX hp).1,List.drop_eq_nil_of_le h] at i1;cases i1
  have hyk:=hy k hlt;rw [hnx,FX,rG] at hyk;rcases Classical.em (Lib.indexByte (eX s k).data.toList 10 = -1)with e0|e0
  ·rw [aLO e0,aLO e0] at hyk;have hI2:∀ H,aG Tryz.prog 150 [sv (eX s k),.pv (.int .u8 10)] H (fun r H'=>r=iv (-1)∧H'=H):=fun H=>by
    have:=hI H
    rwa [show Lib.indexByte (eX s k).data.toList ((10:Int).toNat.toUInt8) = -1 from e0] at this
   refine aE<|aF<|Sr<|Dd aP<|Zz<|Sq<|Sr<|Dd (by exact aK rfl isAgg9 rfl (h1 k) rfl rfl rfl)<|Dd (by exact aB rfl rfl tU rfl (hI2 _))<|Dd aP<|Zz<|Sr<|Dd aI<|Dd JS<|Zz ?_;refine Cn ?_ ?_<;>intro hc2
   ·cases hc2
   refine Rg<|Dd (by exact aK rfl isAgg9 rfl (h1 k) rfl rfl rfl)<|Dd aP<|Uu (by exact bQ rfl sizeOf9 rfl rfl rfl rfl (h1 k) rfl rfl rfl)<|Zz<|Sr<|Dd aI<|Dd aI<|Dd (by exact bY rfl rfl rfl (hyk))<|Dd lI<|Zz ?_;refine Cn ?_ ?_<;>intro hc3
   ·cases hc3
   refine aE ?_;exact⟨k+1,by omega,by omega,E0⟩
  rw [aLN e0,aLN e0] at hyk;obtain ⟨w,r,e1,e2,e3,e4,e5,e6⟩:=aCX e0;rw [e3,aL0] at hyk;have hI2:∀ H,aG Tryz.prog 150 [sv (eX s k),.pv (.int .u8 10)] H (fun r H'=>r=iv (w.length:Int)∧H'=H):=fun H=>by
   have:=hI H
   rwa [show Lib.indexByte (eX s k).data.toList ((10:Int).toNat.toUInt8)=(w.length:Int)from e3] at this
  refine aE<|aF<|Sr<|Dd aP<|Zz<|Sq<|Sr<|Dd (by exact aK rfl isAgg9 rfl (h1 k) rfl rfl rfl)<|Dd (by exact aB rfl rfl tU rfl (hI2 _))<|Dd aP<|Zz<|Sr<|Dd aI<|Dd JS<|Zz ?_;refine Cn ?_ ?_<;>intro hc4
  ·refine aQ follows<|Cr [933] (fun H1 hH=>by exact aK rfl isAgg9 rfl ((hH _ rfl).trans (h1 k)) rfl rfl rfl)<|Cr [] (fun _ _=>aI)<|Cr [] (fun H1 hH=>by exact cA rfl rfl rfl (show IntKind.i64.wrap ((w.length:Int)+1)=((w.length+1:Nat):Int)by rw [IntKind.wrap_i64];omega))<|Cr [] (fun H1 hH=>by exact cJ (l:=0) (h:=(w.length+1)) rfl underlying9 rfl rfl rfl (by omega) (by omega) rfl)<|Cr [933] (fun H1 hH=>by exact aK rfl isAgg9 rfl ((hH _ rfl).trans (h1 k)) rfl rfl rfl)<|Cr [] (fun _ _=>aI)<|Cr [] (fun H1 hH=>by exact cA rfl rfl rfl (show IntKind.i64.wrap ((w.length:Int)+1)=((w.length+1:Nat):Int)by rw [IntKind.wrap_i64];omega))<|Cr [] (fun H1 hH=>by exact cJ (l:=(w.length+1)) (h:=(eX s k).size) rfl underlying9 rfl rfl rfl (by omega) (by omega) rfl)<|Cr [] (fun _ _=>aP) ?_;refine Cp [933] (fun H1 hH=>by exact bQ rfl sizeOf9 rfl rfl rfl rfl ((hH _ rfl).trans (h1 k)) rfl rfl rfl)<|bJ<|Kr<|Sr<|Dd aI<|Dd aI<|Dd (by exact bY rfl rfl rfl (hyk))<|Dd lI<|Zz ?_;refine Cn ?_ ?_<;>intro hc5
   ·cases hc5
   refine aE ?_;exact⟨k+1,by omega,by omega,E0⟩
  have:=aLM hc4;omega
 have hn:¬ 0 < (eX s k).size:=by have:=aLM hc1;omega
 have hge:k=(fG s).length:=by
  rw [uL hn] at i1;have:=congrArg List.length i1;rw [List.length_nil,aL4] at this;omega
 subst hge;refine bG ?_;exact pK (H':=Hs (fG s).length) (.inl rfl) rfl Fin.refl ⟨rfl,rfl⟩
theorem aBC (w:List UInt8):Lib.trimSuffix (w++[10]) [10]=w:=by rw [Lib.trimSuffix,Lib.hasSuffix,aLO (List.isSuffixOf_iff_suffix.2 ⟨w,rfl⟩)];simp
theorem aBE (s:ByteArray):xV s=ofL (Lib.trimSuffix s.data.toList [10]):=by
 have hz:=szY s;rw [xV];cases h:wJ s with
 | true =>
  rw [wJ,aLY,aLW,aLW] at h;obtain ⟨h1,h2⟩:=h;have h3:s.data.toList.drop (s.size - 1)=[10]:=by
   have:=congrArg (fun x=>x.data.toList) h2;rw [exL] at this;refine Eq.trans ?_ (show sNl.data.toList=[10] from rfl);rw [← this];exact(List.take_of_length_le (by rw [aL4];omega)).symm
  have h4:s.data.toList=s.data.toList.take (s.size - 1)++[10]:=by rw [← h3,List.take_append_drop]
  refine eqL ?_;rw [aLO rfl,exL,dV,h4,aBC,List.drop_zero,Nat.sub_zero,← h4]
 | false =>
  rw [aLN (by decide),Lib.trimSuffix,aLN,mF];intro hp;obtain ⟨w,hw⟩:=List.isSuffixOf_iff_suffix.1 (show ([10]:List UInt8).isSuffixOf s.data.toList=true from hp);have hl:s.size=w.length+1:=by rw [← hz,← hw,aLQ,List.length_singleton]
  have:wJ s=true:=by
   rw [wJ,aLY,aLW,aLW];refine⟨by omega,eqL ?_⟩;rw [exL,← hw,show s.size - 1=w.length by omega,List.drop_left];exact List.take_of_length_le (by rw [List.length_singleton];omega)
  rw [h] at this;cases this
theorem aFV (s:ByteArray):∃ b,S1 s=.tup [sv (ofL ((eD 32 s.data.toList).headD [])),sv (ofL (s.data.toList.drop (((eD 32 s.data.toList).headD []).length+1))),bv b]:=by
 rw [S1];by_cases h:Lib.indexByte s.data.toList 32 = -1
 ·refine⟨false,?_⟩;rw [aLO h,oY (rK.1 h),List.headD_cons,List.drop_eq_nil_of_le (Nat.le_succ _),mF];rfl
 obtain ⟨w,r,e1,e2,e3⟩:=rL h;refine⟨true,?_⟩;obtain ⟨a1,a2⟩:=aCA e1;have hd:s.data.toList.drop (w.length+1)=r:=by
  rw [e1,show w++32::r=(w++[32])++r by simp,show w.length+1=(w++[(32:UInt8)]).length by simp,List.drop_left]
 have hsp:(eD 32 s.data.toList).headD []=w:=by rw [e1,kX e2];rfl
 rw [aLN h,hsp,hd,e3,aL0,a1,show s.extract (w.length+1) s.size=ofL r from eqL (by rw [a2,dV])];rfl
theorem Y8 (s:ByteArray) (i:Nat) (h:i < (cX s).length):(cX s)[i]?=some (ofL ((eD 32 s.data.toList).getD i [])):=by rw [cX,aLP] at h;rw [cX,aL9,aLU h,List.getD_eq_getElem?_getD,aLU h];rfl
theorem Y7 (s:ByteArray):(cX s).length=(eD 32 s.data.toList).length:=aLP _
theorem nJ {a b:List UInt8}:ofL a=ofL b↔a=b:=⟨fun h=>by rw [← dV a,h,dV],fun h=>by rw [h]⟩
theorem dY (s:ByteArray) (l:List ByteArray):cV (s::l)=s.size+cV l:=by rw [cV,cV,List.map_cons,List.sum_cons]
theorem uO {e:GEdit} {ws:List ByteArray} (h1:e.op≠1) (h:bs ws=iV e):(⟨(cG [32] (bs ws)).toArray⟩:ByteArray)++⟨#[10]⟩=ofL (fL e++[10]):=eqL (by
 rw [dV,fL,aLN h1,← h];simp)
theorem aE5 {e:GEdit} (h1:e.op=1):(⟨#[112,117,116,32]⟩:ByteArray)++(iF e.obj).1++⟨#[10]⟩=ofL (fL e++[10]):=eqL (by
 rw [dV,fL,aLO h1];simp [aAw])
theorem M2 {o:GObj}:(iF o).1.size≤20000:=by
 rw [iF]
 split
 ·split
  ·exact aL6 _
  split
  ·exact aL6 _
  show (xG o).size≤_;omega
 exact aL6 _
theorem aHO (e:GEdit) (H:aA) (he:QP e) (hv:fJ e=true):aG Tryz.prog 171 [av (aY e)] H (fun r H'=>r=.tup [sv (ofL (fL e++[10])),iv (iO e)]∧H'=H):=by
 refine Pu ?_;obtain ⟨⟨o1,o2⟩,o3,o4⟩:=wE.1 hv;rw [uE] at o3;have hval:=JV hv;have hs0:cV []=0:=rfl;refine Bd func171 rfl ntmps171<|Sr<|Dd (by exact bZ (id:=1) rfl rfl rfl rfl rfl)<|Dd aP<|Dd aP<|Zz<|Sr<|Dd aP<|Zz<|Sq<|Sr<|Dd (bB wG)<|Dd (bL isAgg3)<|Zz<|aF<|Sr<|Dd dC<|Da ?_;refine Cn ?_ ?_<;>intro hc1
 ·have h1:e.op=1:=aLL hc1;have hos:=M2 (o:=e.obj);have h4:(⟨#[112,117,116,32]⟩:ByteArray).size=4:=rfl;have h10:(⟨#[10]⟩:ByteArray).size=1:=rfl;have h4s:((⟨#[112,117,116,32]⟩:ByteArray)++(iF e.obj).1).size=4+(iF e.obj).1.size:=by rw [ByteArray.size_append];rfl
  refine Sr<|Dd (bB qJ)<|Dd (pN cM sizeOf153)<|Dd (by exact aB rfl rfl call203 rfl (M0 e.obj _ he.2.2))<|Dd aI<|Dd eS<|Dd eS<|Dd aP<|Dd aP<|Zz<|Sr<|Dd aI<|Dd (by exact gP rfl rfl rfl (by omega) rfl)<|Dd (by exact gP rfl rfl rfl (by omega) rfl)<|Dd aI<|Dd aP<|Dd aP<|Zz<|aC<|Ru ?_;rw [aE5 h1,show iO e=(iF e.obj).2 from aLO h1];exact Qq
 have h1:e.op≠1:=aLM hc1;rw [aLN h1,aLY] at o3;obtain ⟨o5,o6⟩:=o3;have hid:=eE o5;refine Sr<|Dd dC<|Da ?_;refine Cn ?_ ?_<;>intro hc2
 ·have h2:e.op=2:=aLL hc2;rw [aLO h2,onP,aLY,aLW,aLW] at o6;have hx:0≤e.x∧e.x < 1048576:=by omega
  have hy:0≤e.y∧e.y < 1048576:=by omega
  have six:(bK e.x).size≤7:=by rw [← bA];show (Lib.itoa e.x).length≤7;rw [lE _ hx.1];exact fR (by omega) (by decide)
  have siy:(bK e.y).size≤7:=by rw [← bA];show (Lib.itoa e.y).length≤7;rw [lE _ hy.1];exact fR (by omega) (by decide)
  have hw0:(⟨#[109,111,118,101]⟩:ByteArray).size=4:=rfl;refine aQ follows<|Cq (bB kQ)<|Cq (bL isAgg9)<|Cq (bB hY)<|Cq (bB tH)<|Cq (bL isAgg3)<|Cq (by exact aB rfl rfl mM rfl (qG e.x (by omega) (by omega) _))<|Cq (bB hY)<|Cq (bB tG)<|Cq (bL isAgg3)<|Cq (by exact aB rfl rfl mM rfl (qG e.y (by omega) (by omega) _))<|Cq (by exact aS (([⟨#[109,111,118,101]⟩,e.id,bK e.x,bK e.y]:List ByteArray).map encStr) rfl cO rfl rfl rfl rfl rfl (mW _))<|Cq aP<|bJ<|Kr<|Sr<|Dm ?_;have hw:bs [⟨#[109,111,118,101]⟩,e.id,bK e.x,bK e.y]=iV e:=by
   rw [iV]
   (rw [aLO h2];rfl)
  have hne:e.op≠1:=by omega
  have hj:∀ H,aG Tryz.prog 168 [.pv (aU [⟨#[109,111,118,101]⟩,e.id,bK e.x,bK e.y]),sv ⟨#[32]⟩] H (fun x H'=>x=sv ⟨(cG [32] (bs [⟨#[109,111,118,101]⟩,e.id,bK e.x,bK e.y])).toArray⟩∧H'=H):=fun H=>qE [⟨#[109,111,118,101]⟩,e.id,bK e.x,bK e.y] ⟨#[32]⟩ H (by decide) (by show 1*_+_+_ < _;simp only [dY,aLR,List.length_nil];omega);have hjs:(⟨(cG [32] (bs [⟨#[109,111,118,101]⟩,e.id,bK e.x,bK e.y])).toArray⟩:ByteArray).size≤70000:=by
   show (cG [32] (bs [⟨#[109,111,118,101]⟩,e.id,bK e.x,bK e.y])).length≤_;have:=lK [⟨#[109,111,118,101]⟩,e.id,bK e.x,bK e.y];simp only [dY,aLR,List.length_nil] at this;omega
  have h10:(⟨#[10]⟩:ByteArray).size=1:=rfl;refine Dd (by exact aB rfl rfl mL rfl (hj _))<|Dd (by exact gP rfl rfl rfl (by omega) rfl)<|Dd aP<|Dd aP<|Zz<|aC<|Ru ?_;rw [uO hne hw,show iO e=0 from aLN hne];exact Qq
 have h2:e.op≠2:=aLM hc2;rw [aLN h2] at o6;refine Sr<|Dd dC<|Da ?_;refine Cn ?_ ?_<;>intro hc3
 ·have h3:e.op=3:=aLL hc3;rw [aLO h3,aLY,aLW] at o6;have hks:=eE o6.1;have hq:=vP e.val;have hw0:(⟨#[116,97,103]⟩:ByteArray).size=3:=rfl;refine aQ follows<|Cq (bB kQ)<|Cq (bL isAgg9)<|Cq (bB kP)<|Cq (bL isAgg9)<|Cq (bB lM)<|Cq (bL isAgg9)<|Cq (by exact aB rfl rfl call210 rfl (XK e.val _ (by omega)))<|Cq (by exact aS (([⟨#[116,97,103]⟩,e.id,e.key,⟨(dT e.val.data.toList).toArray⟩]:List ByteArray).map encStr) rfl cO rfl rfl rfl rfl rfl (mW _))<|Cq aP<|bJ<|Kr<|Sr<|Dm ?_;have hw:bs [⟨#[116,97,103]⟩,e.id,e.key,⟨(dT e.val.data.toList).toArray⟩]=iV e:=by
   rw [iV]
   (rw [aLN h2,aLO h3];rfl)
  have hne:e.op≠1:=by omega
  have hj:∀ H,aG Tryz.prog 168 [.pv (aU [⟨#[116,97,103]⟩,e.id,e.key,⟨(dT e.val.data.toList).toArray⟩]),sv ⟨#[32]⟩] H (fun x H'=>x=sv ⟨(cG [32] (bs [⟨#[116,97,103]⟩,e.id,e.key,⟨(dT e.val.data.toList).toArray⟩])).toArray⟩∧H'=H):=fun H=>qE [⟨#[116,97,103]⟩,e.id,e.key,⟨(dT e.val.data.toList).toArray⟩] ⟨#[32]⟩ H (by decide) (by show 1*_+_+_ < _;simp only [dY,aLR,List.length_nil];omega);have hjs:(⟨(cG [32] (bs [⟨#[116,97,103]⟩,e.id,e.key,⟨(dT e.val.data.toList).toArray⟩])).toArray⟩:ByteArray).size≤70000:=by
   show (cG [32] (bs [⟨#[116,97,103]⟩,e.id,e.key,⟨(dT e.val.data.toList).toArray⟩])).length≤_;have:=lK [⟨#[116,97,103]⟩,e.id,e.key,⟨(dT e.val.data.toList).toArray⟩];simp only [dY,aLR,List.length_nil] at this;omega
  have h10:(⟨#[10]⟩:ByteArray).size=1:=rfl;refine Dd (by exact aB rfl rfl mL rfl (hj _))<|Dd (by exact gP rfl rfl rfl (by omega) rfl)<|Dd aP<|Dd aP<|Zz<|aC<|Ru ?_;rw [uO hne hw,show iO e=0 from aLN hne];exact Qq
 have h3:e.op≠3:=aLM hc3;rw [aLN h3] at o6;refine Sr<|Dd dC<|Da ?_;refine Cn ?_ ?_<;>intro hc4
 ·have h4:e.op=4:=aLL hc4;rw [aLO h4,aLY,aLY,aLW,aLW,List.all_eq_true] at o6;obtain ⟨⟨r1,r2⟩,r3⟩:=o6;have hrs:cV e.refs≤24*e.refs.length:=pA (fun s hs=>eE (r3 s hs));have hw0:(⟨#[114,101,102,115]⟩:ByteArray).size=4:=rfl;have hfl:(([[⟨#[114,101,102,115]⟩,e.id],e.refs]:List (List ByteArray)).flatten).length < 1099511627776:=by simp;omega
  refine Rg<|Dd (bB kQ)<|Dd (bL isAgg9)<|Dd (by exact aS (([⟨#[114,101,102,115]⟩,e.id]:List ByteArray).map encStr) rfl cO rfl rfl rfl rfl rfl (mW _))<|Dd (bB eR)<|Dd (bL aJ)<|Dd (by exact aS (([[⟨#[114,101,102,115]⟩,e.id],e.refs]:List (List ByteArray)).map (fun l=>[.sl (l.map encStr)])) rfl FP rfl rfl rfl rfl rfl (by simp))<|Dd (by exact aB rfl rfl call211 rfl (E6 [[⟨#[114,101,102,115]⟩,e.id],e.refs] _ (by show 2 < _;omega) hfl))<|Dd aP<|Zz<|Sr<|Dm ?_;rw [show ([[⟨#[114,101,102,115]⟩,e.id],e.refs]:List (List ByteArray)).flatten=⟨#[114,101,102,115]⟩::e.id::e.refs by simp];have hw:bs (⟨#[114,101,102,115]⟩::e.id::e.refs)=iV e:=by
   rw [iV]
   (rw [aLN h2,aLN h3,aLO h4];rfl)
  have hne:e.op≠1:=by omega
  have hj:∀ H,aG Tryz.prog 168 [.pv (aU (⟨#[114,101,102,115]⟩::e.id::e.refs)),sv ⟨#[32]⟩] H (fun x H'=>x=sv ⟨(cG [32] (bs (⟨#[114,101,102,115]⟩::e.id::e.refs))).toArray⟩∧H'=H):=fun H=>qE (⟨#[114,101,102,115]⟩::e.id::e.refs) ⟨#[32]⟩ H (by decide) (by show 1*_+_+_ < _;simp only [dY,aLR,List.length_nil];omega);have hjs:(⟨(cG [32] (bs (⟨#[114,101,102,115]⟩::e.id::e.refs))).toArray⟩:ByteArray).size≤70000:=by
   show (cG [32] (bs (⟨#[114,101,102,115]⟩::e.id::e.refs))).length≤_;have:=lK (⟨#[114,101,102,115]⟩::e.id::e.refs);simp only [dY,aLR,List.length_nil] at this;omega
  have h10:(⟨#[10]⟩:ByteArray).size=1:=rfl;refine Dd (by exact aB rfl rfl mL rfl (hj _))<|Dd (by exact gP rfl rfl rfl (by omega) rfl)<|Dd aP<|Dd aP<|Zz<|aC<|Ru ?_;rw [uO hne hw,show iO e=0 from aLN hne];exact Qq
 have h4:e.op≠4:=aLM hc4;rw [aLN h4] at o6;refine Sr<|Dd dC<|Da ?_;refine Cn ?_ ?_<;>intro hc5
 ·have h5:e.op=5:=aLL hc5;have hw0:(⟨#[100,114,111,112]⟩:ByteArray).size=4:=rfl;refine Rg<|Dd (bB kQ)<|Dd (bL isAgg9)<|Dd (by exact aS (([⟨#[100,114,111,112]⟩,e.id]:List ByteArray).map encStr) rfl cO rfl rfl rfl rfl rfl (mW _))<|Dd aP<|Zz<|Sr<|Dm ?_;have hw:bs [⟨#[100,114,111,112]⟩,e.id]=iV e:=by
   rw [iV]
   (rw [aLN h2,aLN h3,aLN h4,aLO h5];rfl)
  have hne:e.op≠1:=by omega
  have hj:∀ H,aG Tryz.prog 168 [.pv (aU [⟨#[100,114,111,112]⟩,e.id]),sv ⟨#[32]⟩] H (fun x H'=>x=sv ⟨(cG [32] (bs [⟨#[100,114,111,112]⟩,e.id])).toArray⟩∧H'=H):=fun H=>qE [⟨#[100,114,111,112]⟩,e.id] ⟨#[32]⟩ H (by decide) (by show 1*_+_+_ < _;simp only [dY,aLR,List.length_nil];omega);have hjs:(⟨(cG [32] (bs [⟨#[100,114,111,112]⟩,e.id])).toArray⟩:ByteArray).size≤70000:=by
   show (cG [32] (bs [⟨#[100,114,111,112]⟩,e.id])).length≤_;have:=lK [⟨#[100,114,111,112]⟩,e.id];simp only [dY,aLR,List.length_nil] at this;omega
  have h10:(⟨#[10]⟩:ByteArray).size=1:=rfl;refine Dd (by exact aB rfl rfl mL rfl (hj _))<|Dd (by exact gP rfl rfl rfl (by omega) rfl)<|Dd aP<|Dd aP<|Zz<|aC<|Ru ?_;rw [uO hne hw,show iO e=0 from aLN hne];exact Qq
 have h5:e.op≠5:=aLM hc5;rw [aLN h5] at o6;refine Sr<|Dd dC<|Da ?_;refine Cn ?_ ?_<;>intro hc6
 ·have h6:e.op=6:=aLL hc6;rw [aLO h6,aLY] at o6;have hns:=eE o6.1;have hos:=eE o6.2;have hw0:(⟨#[115,112,108,105,116]⟩:ByteArray).size=5:=rfl;refine Rg<|Dd (bB kQ)<|Dd (bL isAgg9)<|Dd (bB nP)<|Dd (bL isAgg9)<|Dd (bB iG)<|Dd (bL isAgg9)<|Dd (by exact aS (([⟨#[115,112,108,105,116]⟩,e.id,e.node,e.other]:List ByteArray).map encStr) rfl cO rfl rfl rfl rfl rfl (mW _))<|Dd aP<|Zz<|Sr<|Dm ?_;have hw:bs [⟨#[115,112,108,105,116]⟩,e.id,e.node,e.other]=iV e:=by
   rw [iV]
   (rw [aLN h2,aLN h3,aLN h4,aLN h5,aLO h6];rfl)
  have hne:e.op≠1:=by omega
  have hj:∀ H,aG Tryz.prog 168 [.pv (aU [⟨#[115,112,108,105,116]⟩,e.id,e.node,e.other]),sv ⟨#[32]⟩] H (fun x H'=>x=sv ⟨(cG [32] (bs [⟨#[115,112,108,105,116]⟩,e.id,e.node,e.other])).toArray⟩∧H'=H):=fun H=>qE [⟨#[115,112,108,105,116]⟩,e.id,e.node,e.other] ⟨#[32]⟩ H (by decide) (by show 1*_+_+_ < _;simp only [dY,aLR,List.length_nil];omega);have hjs:(⟨(cG [32] (bs [⟨#[115,112,108,105,116]⟩,e.id,e.node,e.other])).toArray⟩:ByteArray).size≤70000:=by
   show (cG [32] (bs [⟨#[115,112,108,105,116]⟩,e.id,e.node,e.other])).length≤_;have:=lK [⟨#[115,112,108,105,116]⟩,e.id,e.node,e.other];simp only [dY,aLR,List.length_nil] at this;omega
  have h10:(⟨#[10]⟩:ByteArray).size=1:=rfl;refine Dd (by exact aB rfl rfl mL rfl (hj _))<|Dd (by exact gP rfl rfl rfl (by omega) rfl)<|Dd aP<|Dd aP<|Zz<|aC<|Ru ?_;rw [uO hne hw,show iO e=0 from aLN hne];exact Qq
 have h6:e.op≠6:=aLM hc6;rw [aLN h6] at o6;have hos:=eE o6;have hw0:(⟨#[106,111,105,110]⟩:ByteArray).size=4:=rfl;refine Rg<|Dd (bB kQ)<|Dd (bL isAgg9)<|Dd (bB iG)<|Dd (bL isAgg9)<|Dd (by exact aS (([⟨#[106,111,105,110]⟩,e.id,e.other]:List ByteArray).map encStr) rfl cO rfl rfl rfl rfl rfl (mW _))<|Dd aP<|Zz<|Sr<|Dm ?_;have hw:bs [⟨#[106,111,105,110]⟩,e.id,e.other]=iV e:=by
  rw [iV]
  (rw [aLN h2,aLN h3,aLN h4,aLN h5,aLN h6];rfl)
 have hne:e.op≠1:=by omega
 have hj:∀ H,aG Tryz.prog 168 [.pv (aU [⟨#[106,111,105,110]⟩,e.id,e.other]),sv ⟨#[32]⟩] H (fun x H'=>x=sv ⟨(cG [32] (bs [⟨#[106,111,105,110]⟩,e.id,e.other])).toArray⟩∧H'=H):=fun H=>qE [⟨#[106,111,105,110]⟩,e.id,e.other] ⟨#[32]⟩ H (by decide) (by show 1*_+_+_ < _;simp only [dY,aLR,List.length_nil];omega);have hjs:(⟨(cG [32] (bs [⟨#[106,111,105,110]⟩,e.id,e.other])).toArray⟩:ByteArray).size≤70000:=by
  show (cG [32] (bs [⟨#[106,111,105,110]⟩,e.id,e.other])).length≤_;have:=lK [⟨#[106,111,105,110]⟩,e.id,e.other];simp only [dY,aLR,List.length_nil] at this;omega
 have h10:(⟨#[10]⟩:ByteArray).size=1:=rfl;refine Dd (by exact aB rfl rfl mL rfl (hj _))<|Dd (by exact gP rfl rfl rfl (by omega) rfl)<|Dd aP<|Dd aP<|Zz<|aC<|Ru ?_;rw [uO hne hw,show iO e=0 from aLN hne];exact Qq
theorem Q1:∀ {l:List GEdit} {acc:List UInt8},(sH acc l).2=0→(∀ e∈l,iO e=0)∧sH acc l=(acc++l.flatMap fun e=>fL e++[10],0)∧(acc.length≤20000→(sH acc l).1.length≤20000)
 | [],acc,_=>⟨(fun e h=>by cases h),by rw [sH,List.flatMap_nil,List.append_nil],fun h=>h⟩
 | e::l,acc,h=>by
  rw [sH] at h ⊢;by_cases h1:iO e≠0∨20000 < (acc++(fL e++[10])).length
  ·rw [aLO h1] at h;cases h
  rw [aLN h1] at h ⊢;rw [not_or,Classical.not_not] at h1;obtain ⟨i1,i2,i3⟩:=Q1 h;refine⟨fun x hx=>?_,by rw [i2,List.flatMap_cons,List.append_assoc],fun _=>i3 (by omega)⟩;rcases aL1.1 hx with rfl|hx
  ·exact h1.1
  exact i1 x hx
theorem JW {l:List GEdit} (h:sR l=true):l≠[]∧∀ e∈l,fJ e=true:=by
 rw [sR,aLY,aLY,aLW,aL8,List.any_eq_false] at h;refine⟨fun e=>by rw [e] at h;exact absurd h.1.1 (by decide),fun e he=>?_⟩;have:=h.2 e he
 simpa using this
theorem aDr (w:List UInt8):Lib.trimSuffix (w++[10]) [10]=w:=by rw [Lib.trimSuffix,Lib.hasSuffix,aLO (List.isSuffixOf_iff_suffix.2 ⟨w,rfl⟩)];simp
theorem FR {l:List GEdit} (h:(fX l).2=0):kN (fX l).1=(l,0):=by
 have hc:sR l=true:=by
  rw [fX] at h
  split at h
  ·assumption
  cases h
 obtain ⟨hne,hv⟩:=JW hc;rw [fX,aLO hc] at h;obtain ⟨h1,h2,h3⟩:=Q1 h;rw [List.nil_append] at h2;have h4:=h3 (aL6 _);have ht:fX l=(ofL (l.flatMap fun e=>fL e++[10]),0):=by rw [fX,aLO hc,h2]
 have hsz:(ofL (l.flatMap fun e=>fL e++[10])).size≤20000:=by rw [fY];rw [h2] at h4;exact h4
 have hl:(iU (ofL (l.flatMap fun e=>fL e++[10])).data.toList).map (fun s=>gT (Lib.trimSuffix s [10]))=l:=by
  have hj:=AW (ls:=l.map fL) (fun w hw=>by
   obtain ⟨e,he,rfl⟩:=List.mem_map.1 hw;exact(MP (hv e he) (h1 e he)).2)
  rw [List.flatMap_map] at hj;rw [dV,hj,List.map_map,List.map_map];refine(List.map_congr_left fun e he=>?_).trans (List.map_id l);show gT (Lib.trimSuffix (fL e++[10]) [10])=e;rw [aDr];exact(MP (hv e he) (h1 e he)).1
 rw [ht,kN,aLN (by show ¬ 20000 < (ofL (l.flatMap fun e=>fL e++[10])).size;omega)];show (if fX ((iU (ofL (l.flatMap fun e=>fL e++[10])).data.toList).map fun s=>gT (Lib.trimSuffix s [10]))=(ofL (l.flatMap fun e=>fL e++[10]),0)then((iU (ofL (l.flatMap fun e=>fL e++[10])).data.toList).map (fun s=>gT (Lib.trimSuffix s [10])),(0:Int))else([],5))=(l,0);rw [hl,aLO ht]
theorem aHT (g:Nat) (l:List UInt8) (u:Bool):aG Tryz.prog 172 [.ref 2001 0 0 0] (rY g l u) (fun r H'=>r=iv (l.length:Int)∧H'=rY g l u):=by refine Bd func172 rfl ntmps172<|Sr<|Dd aP<|Zz<|Sr<|Dd aI<|Dd xJ<|Dd (bB eV)<|Dd (bL cN)<|Dd (by exact dS rfl cE rfl rfl rfl)<|Dd aP<|Zz<|aC ?_;refine dF (H':=(rY g l u)) (.inr rfl) rfl (aT rfl) Fin.refl ?_;exact Qq
abbrev aDA (l:List UInt8) (g:Nat) (u:Bool):Ob:=tM (.osl 2002 g 0 l.length) u
abbrev aCz (l:List UInt8) (g:Nat):Ob:=⟨g,1,5,eP l⟩
theorem aJR {g g':Nat} {l l':List UInt8} {u u':Bool} {id:Nat} (h:(aA.get (rY g l u) id).isSome=true):(aA.get (rY g' l' u') id).isSome=true:=X1 h
theorem aJQ {g:Nat} {l:List UInt8} {u u':Bool} {id:Nat} (h:(aA.get (aA0 g l u) id).isSome=true):(aA.get (rY g l u) id).isSome=true:=by
 simp only [aA0,rY,aA.get] at h ⊢;cases e1:Nat.beq 2001 id with
 | true=>rfl
 | false =>
  cases e2:Nat.beq 2002 id with
  | true=>rfl
  | false=>rw [e1,e2] at h;cases h
theorem aIQ {H:aA} {g:Nat} {l:List UInt8} {u:Bool} (s:ByteArray) (h1:H.get 2001=some (aDA l g u)) (h2:H.get 2002=some (aCz l g)) (hl:l.length+s.size < 70368744177664):aG Tryz.prog 114 [.ref 2001 0 0 0,sv s] H (fun r H'=>r=.tup [iv (s.size:Int),.pv EL]∧H'=rY (g+1) (l++s.data.toList) true++H) :=aG.frame (gG g l u s hl) (Sub.of2 h1 h2) (cY.ofL ⟨(by exact eQ rfl rfl),(by exact dG _ _),trivial⟩) (by simp;rfl) (fun id h=>.inl (aJR h))
theorem aHS {H:aA} {g:Nat} {l:List UInt8} {u:Bool} (h1:H.get 2001=some (aDA l g u)) (h2:H.get 2002=some (aCz l g)):aG Tryz.prog 172 [.ref 2001 0 0 0] H (fun r H'=>r=iv (l.length:Int)∧H'=H) :=aG.frameS (aHT g l u) (Sub.of2 h1 h2) (cY.ofL ⟨(by exact eQ rfl rfl),(by exact dG _ _),trivial⟩) (by simp;rfl)
theorem aG7 {H:aA} {g:Nat} {l:List UInt8} {u:Bool} (h1:H.get 2001=some (aDA l g u)) (h2:H.get 2002=some (aCz l g)) (hl:l.length < 70368744177664):aG Tryz.prog 116 [.ref 2001 0 0 0] H (fun r H'=>r=sv ⟨l.toArray⟩∧H'=aA0 g l u++H) :=aG.frame (MH g l u hl) (Sub.of2 h1 h2) (cY.ofL ⟨(by exact eQ rfl rfl),(by exact dG _ _),trivial⟩) (by simp;rfl) (fun id h=>.inl (aJQ (u':=u) h))
def uK:Nat→Bool
 | 0=>false
 | _+1=>true
def uV (l:List GEdit) (k:Nat):List UInt8:=(l.take k).flatMap fun e=>fL e++[10]
theorem aA9 {l:List GEdit} {k:Nat} {e:GEdit} (h:l[k]?=some e):uV l (k+1)=uV l k++(fL e++[10]):=by rw [uV,List.take_add_one,h,List.flatMap_append];simp [uV]
theorem Z5 {e:GEdit} (he:fJ e=true):(fL e).length≤100000:=by
 obtain ⟨⟨o1,o2⟩,o3,o4⟩:=wE.1 he;rw [uE] at o3;have hval:=JV he;by_cases h1:e.op=1
 ·rw [fL,aLO h1,aLQ,aLR,bA];have:=M2 (o:=e.obj);show 3+_≤_;omega
 rw [aLN h1,aLY] at o3;obtain ⟨o5,o6⟩:=o3;have hid:=eE o5;have key:∀ ws:List ByteArray,bs ws=iV e→ws.length+cV ws≤100000→(fL e).length≤100000:=fun ws h h2=>by
  rw [fL,aLN h1,← h];exact Nat.le_trans (lK ws) h2
 by_cases h2:e.op=2
 ·rw [aLO h2,onP,aLY,aLW,aLW] at o6;have six:(bK e.x).size≤7:=by rw [← bA];show (Lib.itoa e.x).length≤7;rw [lE _ (by omega)];exact fR (by omega) (by decide)
  have siy:(bK e.y).size≤7:=by rw [← bA];show (Lib.itoa e.y).length≤7;rw [lE _ (by omega)];exact fR (by omega) (by decide)
  have hw0:(⟨#[109,111,118,101]⟩:ByteArray).size=4:=rfl;exact key [⟨#[109,111,118,101]⟩,e.id,bK e.x,bK e.y] (by rw [iV,aLO h2];rfl) (by simp only [dY,aLR,List.length_nil,show cV []=0 from rfl];omega)
 rw [aLN h2] at o6;by_cases h3:e.op=3
 ·rw [aLO h3,aLY] at o6;have hks:=eE o6.1;have hq:=vP e.val;have hw0:(⟨#[116,97,103]⟩:ByteArray).size=3:=rfl;exact key [⟨#[116,97,103]⟩,e.id,e.key,⟨(dT e.val.data.toList).toArray⟩] (by rw [iV,aLN h2,aLO h3];rfl) (by simp only [dY,aLR,List.length_nil,show cV []=0 from rfl];omega)
 rw [aLN h3] at o6;by_cases h4:e.op=4
 ·rw [aLO h4,aLY,aLY,aLW,aLW,List.all_eq_true] at o6;obtain ⟨⟨r1,r2⟩,r3⟩:=o6;have hrs:cV e.refs≤24*e.refs.length:=pA (fun s hs=>eE (r3 s hs));have hw0:(⟨#[114,101,102,115]⟩:ByteArray).size=4:=rfl;exact key (⟨#[114,101,102,115]⟩::e.id::e.refs) (by rw [iV,aLN h2,aLN h3,aLO h4];rfl) (by simp only [dY,aLR];omega)
 rw [aLN h4] at o6;by_cases h5:e.op=5
 ·have hw0:(⟨#[100,114,111,112]⟩:ByteArray).size=4:=rfl;exact key [⟨#[100,114,111,112]⟩,e.id] (by rw [iV,aLN h2,aLN h3,aLN h4,aLO h5];rfl) (by simp only [dY,aLR,List.length_nil,show cV []=0 from rfl];omega)
 rw [aLN h5] at o6;by_cases h6:e.op=6
 ·rw [aLO h6,aLY] at o6;have hns:=eE o6.1;have hos:=eE o6.2;have hw0:(⟨#[115,112,108,105,116]⟩:ByteArray).size=5:=rfl;exact key [⟨#[115,112,108,105,116]⟩,e.id,e.node,e.other] (by rw [iV,aLN h2,aLN h3,aLN h4,aLN h5,aLO h6];rfl) (by simp only [dY,aLR,List.length_nil,show cV []=0 from rfl];omega)
 rw [aLN h6] at o6;have hos:=eE o6;have hw0:(⟨#[106,111,105,110]⟩:ByteArray).size=4:=rfl;exact key [⟨#[106,111,105,110]⟩,e.id,e.other] (by rw [iV,aLN h2,aLN h3,aLN h4,aLN h5,aLN h6];rfl) (by simp only [dY,aLR,List.length_nil,show cV []=0 from rfl];omega)
theorem W7 (l:List GEdit) (H:aA) (hl:l.length < 4611686018427387904) (he:∀ e∈l,QP e):aG Tryz.prog 122 [.pv (iN l)] H (fun r H'=>r=.tup [sv (fX l).1,iv (fX l).2]∧H'=H):=by
 refine Pu ?_;have hml:(l.map aY).length=l.length:=aLP _;refine Bd func122 rfl ntmps122<|Sr<|Dd aP<|Dd aP<|Zz<|Sq<|Sr<|Dd aI<|Dd (by exact aB rfl rfl call170 rfl (LV l _ hl he))<|Dd lI<|Zz ?_;refine Cn ?_ ?_<;>intro hc1
 ·have hg:sR l=false:=by have h:=hc1;rwa [aL8] at h
  rw [show fX l=(sNil,1)by rw [fX,hg];rfl];exact Sr<|Dd aP<|Dd aP<|Zz<|aC<|Ru<|Qq
 have hg:sR l=true:=by have h:=hc1;rwa [Bool.not_eq_false'] at h
 have hv:=(JW hg).2;have hT:fX l=(ofL (sH [] l).1,(sH [] l).2):=by rw [fX,aLO hg]
 refine aE<|Sr<|Dd (by exact bE (id:=2001) rfl D0 rfl rfl)<|Zz<|Sq<|Sq ?_;refine fE.ent (E':=[(0,.pv (iN l)),(4,.ref 2001 0 0 0)]) (H':=[(2002,⟨0,1,5,[]⟩),(2001,tM (.osl 2002 0 0 0) false)]) (cC.nz 2002 1 5 rfl rfl ⟨⟨_,rfl,(by exact Nz.same (by(simp;done)))⟩,⟨_,rfl,(by exact Nz.same (by(simp;rfl)))⟩,trivial⟩ ⟨⟨_,rfl,rfl,rfl,rfl,(by exact .inr ⟨_,_,rfl,rfl,(by repeat(first|exact trivial|refine⟨(by first|exact Nz.own|exact Nz.same (by(simp;done))),?_⟩))⟩)⟩,trivial⟩ trivial) ?_;refine Rg<|Dd aI<|Dd (fW dD)<|Dd aI<|Zz<|aF ?_;refine bR (σ:=Nat) (fun k=>([(4,.ref 2001 0 0 0),(12,.pv (iN l)),(13,iv ((l.map aY).length:Int)),(14,iv (k:Int))],[(2001,aDA (uV l k) k (uK k)),(2002,aCz (uV l k) k)])) (fun k=>k≤l.length∧sH [] l=sH (uV l k) (l.drop k)∧(uV l k).length≤20000) (fun k=>l.length - k) 0 ⟨aL6 _,rfl,aL6 _⟩ ?_ ?_
 ·exact(cC.wk (Ea<|Eb<|Eb<|Eb<|trivial) (Hc (eQ rfl rfl)<|Hc (dG _ _)<|trivial) trivial)
 rintro k ⟨hk,hF,hA⟩;refine Sr<|Dd dI<|Zz<|Sq ?_;refine Cn ?_ ?_<;>intro hc2
 ·have hlt:k < l.length:=by have:=aLL hc2;omega
  obtain ⟨e,hke⟩:=bD hlt;have hi:=cI (f:=aY) hke;have hem:=aLZ hke;have hnx:=aA9 hke;have hYl:=Z5 (hv e hem);have hdr:l.drop k=e::l.drop (k+1):=by
   rw [List.drop_eq_getElem_cons hlt];rw [aLU hlt] at hke;cases hke;rfl
  rw [hdr,sH] at hF;have hsz:(ofL (fL e++[10])).size=(fL e).length+1:=by rw [fY,aLQ];rfl
  have hbl:rY (k+1) (uV l k++(ofL (fL e++[10])).data.toList) true=rY (k+1) (uV l (k+1)) true:=by rw [dV,hnx]
  have hnl:(uV l (k+1)).length=(uV l k).length+((fL e).length+1):=by rw [hnx,aLQ,aLQ];rfl
  have hw:∀ H,H.get 2001=some (aDA (uV l k) k (uK k))→H.get 2002=some (aCz (uV l k) k)→aG Tryz.prog 114 [.ref 2001 0 0 0,sv (ofL (fL e++[10]))] H (fun r H'=>r=.tup [iv ((ofL (fL e++[10])).size:Int),.pv EL]∧H'=rY (k+1) (uV l (k+1)) true++H):=fun H h1 h2=>by
   have:=aIQ (H:=H) (ofL (fL e++[10])) h1 h2 (by omega)
   rwa [hbl] at this
  refine aE<|Sq<|aF<|Sr<|Dd (xT UE)<|Dd (by exact cP rfl bT aV rfl (by omega) rfl rfl)<|Dd (by exact bE (id:=6) rfl WS rfl rfl)<|Uu (jK aV)<|Zz<|Sr<|Dd (pN bT aV)<|Dd (by exact aB rfl rfl call171 rfl (aHO e _ (he e hem) (hv e hem)))<|Dd aI<|Dd eS<|Dd eS<|Dd aP<|Dd aP<|Zz<|Sr<|Dd aI<|Dd (by exact aB rfl rfl kV rfl (hw _ rfl rfl))<|Zz<|Sq ?_;refine bC (t:=30) (n:=7) (X:=!decide (iO e=0)||decide ((20000:Int) < ((uV l (k+1)).length:Int))) ?_ ?_
  ·all_goals refine Dd aI ?_
   all_goals refine Dd yM<|Dm ?_
   all_goals refine Sp 27 (fun h27=>?_) fun h27=>?_
   all_goals try contradiction
   all_goals first|refine Fo<|Fo ?_|refine On (by exact aB rfl rfl tT rfl (aHS (l:=uV l (k+1)) (g:=k+1) (u:=true) rfl rfl))<|On mU ?_
   all_goals refine Dd cL<|Zz ?_
   all_goals(exact⟨⟨_,rfl,by(simp only [*,Zo];done)⟩,rfl,rfl,rfl⟩)
  refine Cn ?_ ?_<;>intro hc3
  ·have hbad:iO e≠0∨20000 < (uV l k++(fL e++[10])).length:=by have h:=hc3;rw [← hnx];simp only [Bool.or_eq_true,aL8,aLX,aLW] at h;omega
   rw [aLO hbad] at hF;rw [hT,hF];exact Sr<|Dd aP<|Dd aP<|Zz<|aC<|Ru<|Qq
  have hfine:¬ (iO e≠0∨20000 < (uV l k++(fL e++[10])).length):=by have h:=hc3;rw [← hnx];simp only [aLb,Bool.not_eq_false',aLX,aLW] at h;omega
  rw [aLN hfine,← hnx] at hF;rw [← hnx] at hfine;refine aE<|Rg<|Dd pL<|Dd aI<|Zz ?_;exact⟨k+1,⟨hlt,hF,by omega⟩,by omega,(cC.wk (Ea<|Eb<|Eb<|Eb<|trivial) (Hc (eQ rfl rfl)<|Hc (dG _ _)<|trivial) trivial)⟩
 have hge:k=l.length:=by have:=aLM hc2;omega
 subst hge;rw [List.drop_length,sH] at hF;rw [hT,hF];exact bG<|Sr<|Dd (by exact aB rfl rfl kU rfl (aG7 (l:=uV l l.length) (g:=l.length) (u:=uK l.length) rfl rfl (by omega)))<|Dd aP<|Dd aP<|Zz<|aC<|Ru<|Qq
theorem RP (s:ByteArray):(lP s).data.toList=(bK (s.size:Int)).data.toList++[58]++s.data.toList:=by rw [lP,ByteArray.data_append,ByteArray.data_append,Array.toList_append,Array.toList_append]
theorem NC (l:List ByteArray) (H:aA) (hl:(aO l).length < 35184372088832):aG Tryz.prog 47 [.pv (aU l)] H (fun r H'=>r=sv ⟨(aO l).toArray⟩∧H'=H):=by
 refine Pu ?_;have hml:(l.map encStr).length=l.length:=aLP _;have hll:=yO l;refine Bd func47 rfl ntmps47<|Sr<|Dd aP<|Zz<|Sr<|Dd (by exact bE (id:=2001) rfl D0 rfl rfl)<|Zz<|Sq<|Sq ?_;refine fE.ent (E':=[(0,.pv (aU l)),(3,.ref 2001 0 0 0)]) (H':=rY 0 [] false) (cC.bld0 ⟨⟨_,rfl,.same (by simp)⟩,⟨_,rfl,.same (by simp;rfl)⟩,trivial⟩) ?_;refine Rg<|Dd aI<|Dd (fW underlying77)<|Dd aI<|Zz<|aF ?_;refine N1 (fun(k g:Nat) (u:Bool)=>([(3,.ref 2001 0 0 0),(6,.pv (aU l)),(7,iv ((l.map encStr).length:Int)),(8,iv (k:Int))],rY g (aO (l.take k)) u)) (fun k g u=>k≤l.length) (fun k g u=>l.length - k) 0 0 false (aL6 _) ?_ ?_
 ·exact(cC.wk (Ea<|Eb<|Eb<|Eb<|trivial) (Hc (eQ rfl rfl)<|Hc (dG _ _)<|trivial) trivial)
 intro k g u hk;have hle:=wB l k;refine Sr<|Dd dI<|Zz<|Sq ?_;refine Cn ?_ ?_<;>intro hc1
 ·have hlt:k < l.length:=by have:=aLL hc1;omega
  obtain ⟨s,hs⟩:=bD hlt;have hi:=cI (f:=encStr) hs;have hle2:=wB l (k+1);rw [zN hs,qF,aLQ,kY,mQ] at hle2;have hsz:s.size < 35184372088832:=by omega
  have hnx:aO (l.take (k+1))=aO (l.take k)++(bK (s.size:Int)).data.toList++[58]++s.data.toList:=by
   rw [zN hs,qF,RP,List.append_assoc,List.append_assoc,List.append_assoc]
  have hl1:(aO (l.take k)++(bK (s.size:Int)).data.toList).length=(aO (l.take k)).length+(bK (s.size:Int)).size:=by rw [aLQ,kY]
  have hl2:(aO (l.take k)++(bK (s.size:Int)).data.toList++[58]).length=(aO (l.take k)).length+(bK (s.size:Int)).size+1:=by rw [aLQ,hl1];rfl
  refine aE<|Sq<|aF<|Sr<|Dd (by exact bM rfl UD rfl rfl (by omega) (by exact aL0 _) hi rfl)<|Dd (pG isAgg9 (hi:=hi))<|Dd aP<|Zz<|Sr<|Dd aI<|Dd (nV underlying9)<|Dd (by exact aB rfl rfl mM rfl (qG (s.size:Int) (by omega) (by omega) _))<|Dd (by exact aB rfl rfl kV rfl (gG g (aO (l.take k)) u (bK (s.size:Int)) (by omega)))<|Zz<|Sr<|Dd (by exact aB rfl rfl jE rfl (gH (g+1) (aO (l.take k)++(bK (s.size:Int)).data.toList) true 58 (by omega)))<|Zz<|Rg<|Dd aI<|Dd (by exact aB rfl rfl kV rfl (gG (g+1+1) (aO (l.take k)++(bK (s.size:Int)).data.toList++[58]) true s (by omega)))<|Zz<|Rg<|Dd (by exact cA rfl rfl rfl (show IntKind.i64.wrap ((k:Int)+1)=((k+1:Nat):Int)by rw [pO (by omega) (by omega)];omega)) ?_;refine Dd aI<|Zz ?_;refine⟨k+1,g+1+1+1,true,by omega,by omega,?_⟩;rw [hnx];exact(cC.wk (Ea<|Eb<|Eb<|Eb<|trivial) (Hc (eQ rfl rfl)<|Hc (dG _ _)<|trivial) trivial)
 have hge:k=l.length:=by have:=aLM hc1;omega
 subst hge;rw [List.take_length];exact bG<|Sr<|Dd (by exact aB rfl rfl kU rfl (MH g (aO l) u (by omega)))<|Dd aP<|Zz<|aC<|Rt<|Qq
def jM (l:List GEdit):ByteArray×Bool:=if l.length=0 then(sNil,true)else((fX l).1,decide ((fX l).2=0))
theorem W6 (l:List GEdit) (H:aA) (hl:l.length < 1099511627776) (he:∀ e∈l,QP e):aG Tryz.prog 76 [.pv (iN l)] H (fun r H'=>r=.tup [sv (jM l).1,bv (jM l).2]∧H'=H):=by
 refine Pu ?_;have hml:(l.map aY).length=l.length:=aLP _;have htx:=fun H=>W7 l H (by omega) he;have e0:l.length=0→jM l=(sNil,true):=fun h=>by rw [jM,aLO h]
 have e1:l.length≠0→jM l=((fX l).1,decide ((fX l).2=0)):=fun h=>by rw [jM,aLN h]
 obtain ⟨T,hT⟩:∃ T,T=fX l:=⟨_,rfl⟩;rw [← hT] at htx e1;refine Bd func76 rfl ntmps76<|Sr<|Dd aP<|Dd aP<|Zz<|Sq<|Sr<|Dd aI<|Dd (fW dD)<|Dd dC<|Zz ?_;refine Cn ?_ ?_<;>intro hc1
 ·have h0:l.length=0:=by have:=aLL hc1;omega
  rw [e0 h0];exact Sr<|Dd aP<|Dd aP<|Zz<|aC<|Ru<|Qq
 have h0:l.length≠0:=by have:=aLM hc1;omega
 rw [e1 h0];exact aE<|Sr<|Dd aI<|Dd (by exact aB rfl rfl call122 rfl (htx _))<|Dd aI<|Dd eS<|Dd eS<|Dd aP<|Dd aP<|Zz<|Sr<|Dd aI<|Dd aI<|Dd dC<|Dd aP<|Dd aP<|Zz<|aC<|Ru<|Qq
def UN:ByteArray:=⟨#[114,101,99,111,114,100]⟩
def D9 (r:GRec) (T:ByteArray):List IV:=[.t UN,.n r.kind,.n r.author,.n r.number,.n r.clock,.t r.branch,.l r.parents,.t T,.t r.target,.b r.yes,.n r.order,.t r.from']
def gQ (r:GRec):Prop:=(oO r.kind∧oO r.author∧oO r.number∧oO r.clock∧oO r.order)∧(r.branch.size < 1099511627776∧r.target.size < 1099511627776∧r.from'.size < 1099511627776)∧LH r.parents∧(r.edits.length < 1099511627776∧∀ e∈r.edits,QP e)∧pQ r.sl∧PA r.priv
theorem aE7 {r:GRec} (h:gQ r) (T:ByteArray):∀ v∈D9 r T,okI v:=by
 obtain ⟨⟨a1,a2,a3,a4,a5⟩,_,b1,_⟩:=h;intro v hv;simp only [D9,aL1,aL5,or_false] at hv;rcases hv with rfl|rfl|rfl|rfl|rfl|rfl|rfl|rfl|rfl|rfl|rfl|rfl
 ·exact trivial
 ·exact a1
 ·exact a2
 ·exact a3
 ·exact a4
 ·exact trivial
 ·exact b1.1
 ·exact trivial
 ·exact trivial
 ·exact trivial
 ·exact a5
 exact trivial
theorem RL {r:GRec} (T:ByteArray):(tJ (D9 r T)).length=r.parents.length+12:=by simp [D9,tJ,fI]
def nU (r:GRec):List ByteArray:=tJ (D9 r (jM r.edits).1)
def RM (r:GRec):Nat:=VU (D9 r (jM r.edits).1)
theorem MS (r:GRec) (hr:gQ r) (hp:r.parents.length < 549755813888):aG Tryz.prog 45 [av (bP r)] [] (fun x H'=>x=.osl 971 (RM r) 0 (nU r).length∧H'=[(971,⟨RM r,1,9,dO (nU r)⟩)]):=by
 have htx:=fun H=>W6 r.edits H hr.2.2.2.1.1 hr.2.2.2.1.2;rw [nU,RM];obtain ⟨T,hT⟩:∃ T,T=(jM r.edits).1:=⟨_,rfl⟩;obtain ⟨b,hb⟩:∃ b,b=(jM r.edits).2:=⟨_,rfl⟩;rw [← hT,← hb] at htx;rw [← hT];have hlen:=RL (r:=r) T;have hadd:=WO (D9 r T) (aE7 hr T) 0 [] (show 12 < 1099511627776 by decide) (by rw [hlen,List.length_nil];omega);rw [aL7,List.nil_append] at hadd;refine Bd func45 rfl ntmps45<|Sr<|Dd (by exact bZ (id:=1) rfl rfl rfl rfl rfl)<|Dd aP<|Zz<|Sr<|Dd (by exact bE (id:=970) rfl aID rfl rfl)<|Zz<|Sr<|Dd (bB BK)<|Dd (bL mK)<|Dd (by exact aB rfl rfl call76 rfl (htx _))<|Dd aI<|Dd eS<|Dd eS<|Dd aP<|Dd aP<|Zz<|Sq ?_;refine fE.ent (E':=[(1,.ref 1 0 0 0),(3,.ref 970 0 0 0),(4,sv T)]) (H':=(971,⟨0,1,9,[]⟩)::(970,bx 1 77 [.osl 971 0 0 0])::(1,bx 21 30 ((bP r).map .pv))::[]) ?_ ?_
 ·exact(cC.nz 971 1 9 rfl rfl ⟨⟨_,rfl,(by exact Nz.same (by(simp;rfl)))⟩,⟨_,rfl,(by exact Nz.same (by(simp;rfl)))⟩,⟨_,rfl,(by exact Nz.same (by(simp;done)))⟩,trivial⟩ ⟨⟨_,rfl,rfl,rfl,rfl,(by exact .inr ⟨_,_,rfl,rfl,(by repeat(first|exact trivial|refine⟨(by exact Nz.own),?_⟩))⟩)⟩,⟨_,rfl,rfl,rfl,rfl,(by exact .inl ⟨rfl,(by(simp;done))⟩)⟩,trivial⟩ trivial)
 refine Rg<|Dd (by exact eC (p:=.str UN) rfl (cF underlying9 rfl) rfl)<|Dd (bB BL)<|Dd (bL isAgg3)<|Dd (by exact eC (p:=.int .i64 r.kind) rfl (cF underlying3 rfl) rfl)<|Dd (bB yT)<|Dd (bL isAgg3)<|Dd (by exact eC (p:=.int .i64 r.author) rfl (cF underlying3 rfl) rfl)<|Dd (bB pT)<|Dd (bL isAgg3)<|Dd (by exact eC (p:=.int .i64 r.number) rfl (cF underlying3 rfl) rfl)<|Dd (bB yS)<|Dd (bL isAgg3)<|Dd (by exact eC (p:=.int .i64 r.clock) rfl (cF underlying3 rfl) rfl)<|Dd (bB yR)<|Dd (bL isAgg9)<|Dd (by exact eC (p:=.str r.branch) rfl (cF underlying9 rfl) rfl)<|Dd (bB oG)<|Dd (bL aJ)<|Dd (by exact eC (p:=aU r.parents) rfl (cF aD rfl) rfl)<|Dd aI<|Dd (by exact eC (p:=.str T) rfl (cF underlying9 rfl) rfl) ?_;refine Dd (bB yQ)<|Dd (bL isAgg9)<|Dd (by exact eC (p:=.str r.target) rfl (cF underlying9 rfl) rfl)<|Dd (bB EX)<|Dd (bL rZ)<|Dd (by exact eC (p:=.bool r.yes) rfl (cF dN rfl) rfl)<|Dd (bB BJ)<|Dd (bL isAgg3)<|Dd (by exact eC (p:=.int .i64 r.order) rfl (cF underlying3 rfl) rfl)<|Dd (bB wF)<|Dd (bL isAgg9)<|Dd (by exact eC (p:=.str r.from') rfl (cF underlying9 rfl) rfl)<|Dd (by exact aS ((D9 r T).map tK) rfl sJ rfl rfl rfl rfl rfl (J0 (D9 r T)))<|Dd (by exact aB rfl rfl sA rfl (TH hadd ⟨rfl,rfl,trivial⟩ (by simp;rfl)))<|Zz<|Sr<|Dd (bL AM)<|Dd aP<|Zz<|aC ?_;refine dF (H':=[(971,⟨VU (D9 r T),1,9,dO (tJ (D9 r T))⟩)]) (.inr rfl) rfl (aT rfl) (Fin.wk (by(simp;rfl)) (Hc (bV _ _)<|trivial) trivial) ?_;exact Qq
end Go.Proofs.YtiifmppaejpemaaGreatDoor
section
namespace Go.Proofs
open Go.RowKit Go.Sort Go.Shelf
def aLG:Go.Shelf.Ren:=⟨fun|172=>118|244=>161|245=>162|247=>196|279=>197|280=>198|281=>199|282=>200|287=>230|316=>231|171=>113|205=>232|321=>261|322=>262|243=>158|246=>193|283=>223|284=>224|285=>225|286=>226|129=>256|317=>255|318=>257|319=>258|320=>259|337=>274|338=>275|n=>n,fun|9=>9|3=>3|75=>142|76=>143|4=>4|5=>5|167=>211|37=>124|0=>0|85=>212|2=>2|168=>214|53=>126|175=>240|46=>128|210=>243|127=>185|145=>274|143=>272|21=>21|171=>235|173=>238|212=>264|51=>265|20=>20|213=>266|232=>284|233=>285|80=>80|n=>n,fun|15=>1|16=>2|17=>5|18=>6|19=>7|n=>n⟩
theorem aLI:Go.Proofs.LaysC.n172 Tryz.prog aLG:={
  mixed:=by kernel_rfl
  f129:=Tryz.func256.trans (congrArg some (by kernel_rfl))
  f171:=Tryz.func113.trans (congrArg some (by kernel_rfl))
  f172:=Tryz.func118.trans (congrArg some (by kernel_rfl))
  f205:=Tryz.func232.trans (congrArg some (by kernel_rfl))
  f243:=Tryz.func158.trans (congrArg some (by kernel_rfl))
  f244:=Tryz.func161.trans (congrArg some (by kernel_rfl))
  f245:=Tryz.func162.trans (congrArg some (by kernel_rfl))
  f246:=Tryz.func193.trans (congrArg some (by kernel_rfl))
  f247:=Tryz.func196.trans (congrArg some (by kernel_rfl))
  f279:=Tryz.func197.trans (congrArg some (by kernel_rfl))
  f280:=Tryz.func198.trans (congrArg some (by kernel_rfl))
  f281:=Tryz.func199.trans (congrArg some (by kernel_rfl))
  f282:=Tryz.func200.trans (congrArg some (by kernel_rfl))
  f283:=Tryz.func223.trans (congrArg some (by kernel_rfl))
  f284:=Tryz.func224.trans (congrArg some (by kernel_rfl))
  f285:=Tryz.func225.trans (congrArg some (by kernel_rfl))
  f286:=Tryz.func226.trans (congrArg some (by kernel_rfl))
  f287:=Tryz.func230.trans (congrArg some (by kernel_rfl))
  f316:=Tryz.func231.trans (congrArg some (by kernel_rfl))
  f317:=Tryz.func255.trans (congrArg some (by kernel_rfl))
  f318:=Tryz.func257.trans (congrArg some (by kernel_rfl))
  f319:=Tryz.func258.trans (congrArg some (by kernel_rfl))
  f320:=Tryz.func259.trans (congrArg some (by kernel_rfl))
  f321:=Tryz.func261.trans (congrArg some (by kernel_rfl))
  f322:=Tryz.func262.trans (congrArg some (by kernel_rfl))
  f337:=Tryz.func274.trans (congrArg some (by kernel_rfl))
  f338:=Tryz.func275.trans (congrArg some (by kernel_rfl))
  t0:=aDV
  a0:=aKy
  z0:=aKf
  v0:=aFl
  t2:=Tryz.underlying2
  a2:=Tryz.isAgg2
  z2:=Tryz.sizeOf2
  v2:=Tryz.zeroValue2
  t3:=Tryz.underlying3
  a3:=Tryz.isAgg3
  z3:=Tryz.sizeOf3
  v3:=zI
  t4:=dN
  a4:=rZ
  z4:=Tryz.sizeOf4
  v4:=zH
  t5:=jL
  a5:=xM
  z5:=bS
  v5:=KO
  t9:=Tryz.underlying9
  a9:=Tryz.isAgg9
  z9:=Tryz.sizeOf9
  v9:=qS
  t20:=DX
  a20:=pM
  z20:=aJd
  v20:=aDU
  t21:=Tryz.underlying21
  a21:=Tryz.isAgg21
  z21:=Tryz.sizeOf21
  v21:=Tryz.zeroValue21
  t37:=cE
  a37:=cN
  z37:=lW
  v37:=Tryz.zeroValue124
  t46:=B0
  a46:=TU
  z46:=QH
  v46:=DU
  t51:=Tryz.underlying265
  a51:=Tryz.isAgg265
  z51:=Tryz.sizeOf265
  v51:=Tryz.zeroValue265
  t53:=rX
  a53:=FI
  z53:=B2
  v53:=DV
  t75:=mJ
  a75:=Tryz.isAgg142
  z75:=Tryz.sizeOf142
  v75:=Tryz.zeroValue142
  t76:=Tryz.underlying143
  a76:=Tryz.isAgg143
  z76:=Tryz.sizeOf143
  v76:=Tryz.zeroValue143
  t85:=Tryz.underlying212
  a85:=Tryz.isAgg212
  z85:=Tryz.sizeOf212
  v85:=Tryz.zeroValue212
  t127:=rV
  a127:=Tryz.isAgg185
  z127:=Tryz.sizeOf185
  v127:=Tryz.zeroValue185
  t143:=Tryz.underlying272
  a143:=Tryz.isAgg272
  z143:=Tryz.sizeOf272
  v143:=Tryz.zeroValue272
  t145:=Tryz.underlying274
  a145:=Tryz.isAgg274
  z145:=Tryz.sizeOf274
  v145:=Tryz.zeroValue274
  t167:=Tryz.underlying211
  a167:=Tryz.isAgg211
  z167:=Tryz.sizeOf211
  v167:=Tryz.zeroValue211
  t168:=Tryz.underlying214
  a168:=Tryz.isAgg214
  z168:=Tryz.sizeOf214
  v168:=Tryz.zeroValue214
  t171:=Tryz.underlying235
  a171:=Tryz.isAgg235
  z171:=Tryz.sizeOf235
  v171:=Tryz.zeroValue235
  t173:=Tryz.underlying238
  a173:=Tryz.isAgg238
  z173:=Tryz.sizeOf238
  v173:=Tryz.zeroValue238
  t175:=Tryz.underlying240
  a175:=Tryz.isAgg240
  z175:=Tryz.sizeOf240
  v175:=Tryz.zeroValue240
  t210:=Tryz.underlying243
  a210:=Tryz.isAgg243
  z210:=Tryz.sizeOf243
  v210:=Tryz.zeroValue243
  t212:=Tryz.underlying264
  a212:=Tryz.isAgg264
  z212:=Tryz.sizeOf264
  v212:=Tryz.zeroValue264
  t213:=Tryz.underlying266
  a213:=Tryz.isAgg266
  z213:=Tryz.sizeOf266
  t232:=Tryz.underlying284
  a232:=Tryz.isAgg284
  z232:=Tryz.sizeOf284
  v232:=Tryz.zeroValue284
  t233:=Tryz.underlying285
  a233:=Tryz.isAgg285
  z233:=Tryz.sizeOf285
  v233:=Tryz.zeroValue285
  g15:=by kernel_rfl
  g16:=by kernel_rfl
  g17:=by kernel_rfl
  g18:=by kernel_rfl
  g19:=by kernel_rfl
  t80:=Tryz.underlying80
  a80:=Tryz.isAgg80
  z80:=Tryz.sizeOf80
  v80:=Tryz.zeroValue80
  i0:=by kernel_rfl
  i2:=by kernel_rfl
  i3:=by kernel_rfl
  i4:=by kernel_rfl
  i5:=by kernel_rfl
  i9:=by kernel_rfl
  i20:=by kernel_rfl
  i21:=by kernel_rfl
  i37:=by kernel_rfl
  i46:=by kernel_rfl
  i51:=by kernel_rfl
  i53:=by kernel_rfl
  i75:=by kernel_rfl
  i76:=by kernel_rfl
  i80:=by kernel_rfl
  i85:=by kernel_rfl
  i127:=by kernel_rfl
  i143:=by kernel_rfl
  i145:=by kernel_rfl
  i167:=by kernel_rfl
  i168:=by kernel_rfl
  i171:=by kernel_rfl
  i173:=by kernel_rfl
  i175:=by kernel_rfl
  i210:=by kernel_rfl
  i212:=by kernel_rfl
  i232:=by kernel_rfl
  i233:=by kernel_rfl
  m15:=by kernel_rfl
  m16:=by kernel_rfl
  m17:=by kernel_rfl
  m18:=by kernel_rfl
  m19:=by kernel_rfl
  c0:=by kernel_rfl
  c2:=by kernel_rfl
  c3:=by kernel_rfl
  c4:=by kernel_rfl
  c5:=by kernel_rfl
  c9:=by kernel_rfl
  c20:=by kernel_rfl
  c21:=by kernel_rfl
  c37:=by kernel_rfl
  c46:=by kernel_rfl
  c51:=by kernel_rfl
  c53:=by kernel_rfl
  c75:=by kernel_rfl
  c76:=by kernel_rfl
  c80:=by kernel_rfl
  c85:=by kernel_rfl
  c127:=by kernel_rfl
  c143:=by kernel_rfl
  c145:=by kernel_rfl
  c167:=by kernel_rfl
  c168:=by kernel_rfl
  c171:=by kernel_rfl
  c173:=by kernel_rfl
  c175:=by kernel_rfl
  c210:=by kernel_rfl
  c212:=by kernel_rfl
  c213:=by kernel_rfl
  c232:=by kernel_rfl
  c233:=by kernel_rfl}
end Go.Proofs
namespace Go.Proofs.YtiifmppaejpemaaGreatDoor
open Go.Proofs.Tryz
open Go.Abs
theorem HJ (s:ByteArray) (hs:s.size < 1099511627776) (H:aA):aG Tryz.prog 118 [sv s] H (fun r H'=>r=.tup [iv (lO s).1,.pv (lO s).2]∧H'=H) :=Go.Abs.atoi_c aLI (G1:=1) (G2:=2) (by unfold PT;exact .tail _ (.tail _ (.head _))) (by kernel_rfl) (by unfold PT;exact .tail _ (.head _)) (by kernel_rfl) s hs H
end Go.Proofs.YtiifmppaejpemaaGreatDoor
end
namespace Go.Proofs.YtiifmppaejpemaaGreatDoor
open Go.Proofs.Tryz
open Go.Abs
theorem R1 (s:ByteArray) (H:aA) (hs:s.size < 1099511627776):aG Tryz.prog 166 [sv s] H (fun r H'=>r=iv (LI s.data.toList)∧H'=H):=by
 refine Pu ?_;have hA:=HJ s hs;unfold lO at hA;unfold LI;cases h:Lib.atoiAll s.data.toList with
 | ok v =>
  simp only [h] at hA;refine Bd aKi rfl aJf<|Sr<|Dd aP<|Zz<|Sr<|Dd aI<|Dd (by exact aB rfl rfl tV rfl (hA _))<|Dd aI<|Dd eS<|Dd eS<|Dd aP<|Dd aP<|Zz<|Sq<|Sr<|Dd aI<|Dd (by exact IW rfl mJ rfl)<|Zz ?_;refine Cn ?_ ?_<;>intro hc1
  ·cases hc1
  exact aE<|Sr<|Dd aI<|Dd aP<|Zz<|aC<|Rt<|Qq
 | range =>
  simp only [h] at hA;refine Bd aKi rfl aJf<|Sr<|Dd aP<|Zz<|Sr<|Dd aI<|Dd (by exact aB rfl rfl tV rfl (hA _))<|Dd aI<|Dd eS<|Dd eS<|Dd aP<|Dd aP<|Zz<|Sq<|Sr<|Dd aI<|Dd (by exact A8 rfl mJ rfl)<|Zz ?_;refine Cn ?_ ?_<;>intro hc1
  ·exact Sr<|Dd aP<|Zz<|aC<|Rt<|Qq
  cases hc1
 | _ =>
  simp only [h] at hA;refine Bd aKi rfl aJf<|Sr<|Dd aP<|Zz<|Sr<|Dd aI<|Dd (by exact aB rfl rfl tV rfl (hA _))<|Dd aI<|Dd eS<|Dd eS<|Dd aP<|Dd aP<|Zz<|Sq<|Sr<|Dd aI<|Dd (by exact A8 rfl mJ rfl)<|Zz ?_;refine Cn ?_ ?_<;>intro hc1
  ·exact Sr<|Dd aP<|Zz<|aC<|Rt<|Qq
  cases hc1
end Go.Proofs.YtiifmppaejpemaaGreatDoor
