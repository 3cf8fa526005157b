/-
  Parts of the proof: rules of an abstract program logic, contracts of functions, plain laws. Conditions: each theorem's own.
-/
import Derived.Test.YtiifmppaejpemaaGreatDoorKR4M7
import Derived.Lib.Bytealg
import Derived.Lib.Strings
import Derived.Lib.AtoiTie
import Derived.Lib.ItoaMem
import Derived.Lib.ItoaLen
import Derived.Shelf.LaysC
import Derived.Ground.NamesProg
set_option linter.unusedVariables false
set_option linter.unusedSimpArgs false
set_option maxRecDepth 100000
set_option maxHeartbeats 8000000
namespace Go.Proofs
theorem tZ:type_of% Tryz.call118:=Tryz.call118
theorem aAl:type_of% Tryz.call160:=Tryz.call160
theorem KH:type_of% Tryz.call195:=Tryz.call195
theorem tV:type_of% Tryz.call240:=Tryz.call240
theorem aAi:type_of% Tryz.func117:=Tryz.func117
theorem aAg:type_of% Tryz.func160:=Tryz.func160
theorem aKp:type_of% Tryz.func166:=Tryz.func166
theorem mM:type_of% Tryz.isAgg23:=Tryz.isAgg23
theorem TU:type_of% Tryz.ntmps117:=Tryz.ntmps117
theorem TS:type_of% Tryz.ntmps160:=Tryz.ntmps160
theorem aJk:type_of% Tryz.ntmps166:=Tryz.ntmps166
theorem mL:type_of% Tryz.underlying142:=Tryz.underlying142
end Go.Proofs
namespace Go.Abs
def eE (c:UInt8):List UInt8→List (List UInt8)
 | []=>[[]]
 | b::l=>if b=c then[]::eE c l else((b::(eE c l).headD [])::(eE c l).tail)
theorem vO (c:UInt8) (l:List UInt8):0 < (eE c l).length:=by
 cases l with
 | nil=>exact Nat.zero_lt_one
 | cons b l=>rw [eE];split<;>simp
theorem oZ {c:UInt8}:∀ {w:List UInt8},c∉w→eE c w=[w]
 | [],_=>rfl
 | b::w,h=>by
  rw [aL5,not_or] at h;rw [eE,aLR (fun e=>h.1 e.symm),oZ h.2];rfl
theorem kW {c:UInt8} {l:List UInt8}:∀ {w:List UInt8},c∉w→eE c (w++c::l)=w::eE c l
 | [],_=>by rw [List.nil_append,eE,aLS rfl]
 | b::w,h=>by
  rw [aL5,not_or] at h;rw [List.cons_append,eE,aLR (fun e=>h.1 e.symm),kW h.2];rfl
theorem qX (c:UInt8):∀ l:List UInt8,(eE c l).length=l.count c+1
 | []=>rfl
 | b::l=>by
  have ih:=qX c l;rw [eE];by_cases h:b=c
  ·rw [aLS h,aLV,ih,h,List.count_cons_self]
  rw [aLR h,aLV,List.length_tail,ih,List.count_cons_of_ne h];omega
def iU:List UInt8→List (List UInt8)
 | []=>[]
 | b::l=>if b=10 then[10]::iU l else match iU l with
  | []=>[[b]]
  | w::r=>(b::w)::r
theorem BJ {l:List UInt8}:∀ {w:List UInt8},(10:UInt8)∉w→iU (w++10::l)=(w++[10])::iU l
 | [],_=>by rw [List.nil_append,iU,aLS rfl];rfl
 | b::w,h=>by
  rw [aL5,not_or] at h;rw [List.cons_append,iU,aLR (fun e=>h.1 e.symm),BJ h.2];rfl
theorem F1:∀ {w:List UInt8},(10:UInt8)∉w→w≠[]→iU w=[w]
 | [],_,h=>absurd rfl h
 | b::w,h,_=>by
  rw [aL5,not_or] at h;rw [iU,aLR (fun e=>h.1 e.symm)];by_cases e:w=[]
  ·subst e;rfl
  rw [F1 h.2 e]
theorem A3:∀ {ls:List (List UInt8)},(∀ w∈ls,(10:UInt8)∉w)→iU (ls.flatMap (·++[10]))=ls.map (·++[10])
 | [],_=>rfl
 | w::ls,h=>by
  rw [List.flatMap_cons,List.append_assoc,List.singleton_append,BJ (h w List.mem_cons_self),A3 fun x hx=>h x (List.mem_cons_of_mem _ hx)];rfl
theorem rO {c:UInt8}:∀ {l:List UInt8},Lib.indexByte l c = -1↔c∉l
 | []=>by simp [Lib.indexByte]
 | b::l=>by
  have ih:=rO (c:=c) (l:=l);have hg:=Lib.indexByte_ge l c;rw [Lib.indexByte];by_cases h:b=c
  ·subst h;simp
  simp only [beq_iff_eq,h,if_false,aL5,not_or];constructor
  ·intro h2
   split at h2
   ·exact⟨fun e=>h e.symm,ih.1 (by assumption)⟩
   omega
  rintro⟨_,h2⟩;rw [ih.2 h2];rfl
theorem rP {c:UInt8}:∀ {l:List UInt8},Lib.indexByte l c ≠ -1→∃ w r,l=w++c::r∧c∉w∧Lib.indexByte l c=(w.length:Int)
 | [],h=>absurd rfl h
 | b::l,h=>by
  by_cases e:b=c
  ·subst e;exact⟨[],l,rfl,by simp,by simp [Lib.indexByte]⟩
  have e1:Lib.indexByte l c ≠ -1:=fun e2=>h (by rw [Lib.indexByte];simp [e,e2]);obtain ⟨w,r,h1,h2,h3⟩:=rP e1;refine⟨b::w,r,by rw [h1];rfl,by rw [aL5,not_or];exact⟨fun x=>e x.symm,h2⟩,?_⟩;rw [Lib.indexByte];simp only [beq_iff_eq,e,if_false,e1,h3,aLV];rw [aLR (by omega)]
  push_cast
  rfl
end Go.Abs
namespace Go.Abs
open Go.Lib
theorem YE {d:Nat} (h:d < 10):digitVal (UInt8.ofNat (48+d))=some d:=by
 have e:(UInt8.ofNat (48+d)).toNat=48+d:=by rw [UInt8.toNat_ofNat'];omega
 rw [digitVal,e,aLS (by omega)];congr 1;omega
theorem wR {b:UInt8} {d:Nat} (hb:digitVal b=some d):∀ (l:List UInt8) (acc:Nat),decFrom acc (l++[b])=(decFrom acc l).map fun n=>n*10+d
 | [],acc=>by
  simp [decFrom,hb]
 | c::l,acc=>by
  rw [List.cons_append,decFrom,decFrom];cases h:digitVal c with
  | none=>rfl
  | some x=>exact wR hb l _
theorem qN (u:Nat):decDigits u≠[]:=by
 rw [decDigits]
 split
 ·simp
 simp
theorem zG (u:Nat):decFrom 0 (decDigits u)=some u:=by
 induction u using Nat.strongRecOn with
 | ind u ih =>
  rw [decDigits]
  split
  ·rename_i h;rw [← List.nil_append [_],wR (YE h)];simp [decFrom]
  rename_i h;rw [wR (YE (Nat.mod_lt u (by decide))),ih (u / 10) (by omega)];simp only [Option.map_some];congr 1;omega
theorem oF {b:UInt8}:∀ (u:Nat),b∈decDigits u→48≤b.toNat∧b.toNat≤57:=by
 intro u
 induction u using Nat.strongRecOn with
 | ind u ih =>
  rw [decDigits]
  split
  ·rename_i h;intro hb;rw [aLW] at hb;subst hb;rw [UInt8.toNat_ofNat'];omega
  rename_i h;intro hb;rcases List.mem_append.1 hb with hb|hb
  ·exact ih (u / 10) (by omega) hb
  rw [aLW] at hb;subst hb;rw [UInt8.toNat_ofNat'];omega
theorem lD (n:Int) (h:0≤n):itoa n=decDigits n.toNat:=by rw [itoa,aLR (by omega)]
theorem aA8 {n:Int} (h:0≤n):atoi (itoa n)=some n:=by
 rw [lD n h];obtain ⟨u,hu⟩:∃ u,u=n.toNat:=⟨_,rfl⟩;rw [← hu];have hd:=zG u;have hm:∀ b∈decDigits u,48≤b.toNat∧b.toNat≤57:=fun b=>oF u;cases e:decDigits u with
 | nil=>exact absurd e (qN u)
 | cons b r =>
  have hb:=hm b (by rw [e];exact List.mem_cons_self);have e2:decNat (b::r)=some u:=by rw [decNat,← e,hd];simp [qN]
  unfold atoi;simp only [e2];have h43:b≠43:=fun h=>by rw [h] at hb;exact absurd hb.1 (by decide)
  have h45:b≠45:=fun h=>by rw [h] at hb;exact absurd hb.1 (by decide)
  split<;>simp_all
  omega
theorem fS:∀ {k u:Nat},u < 10 ^ k→0 < k→(decDigits u).length≤k
 | 0,_,_,h=>absurd h (Nat.lt_irrefl 0)
 | k+1,u,h,_=>by
  rw [decDigits]
  split
  ·simp
  rename_i h1;rw [aLU,List.length_singleton];have hk:0 < k:=by
   rcases Nat.eq_zero_or_pos k with e|e
   ·subst e;omega
   exact e
  have hd:u / 10 < 10 ^ k:=by rw [Nat.pow_succ] at h;omega
  have:=fS hd hk;omega
theorem wT {n:Int} (h:0≤n) (h2:n < 1000000000000000000):atoiAll (itoa n)=.ok n:=by
 have hl:(itoa n).length≤18:=by
  rw [lD n h];exact fS (by omega) (by decide)
 rw [atoiAll_short _ hl,aA8 h];rfl
end Go.Abs
namespace Go.Proofs.YtiifmppaejpemaaGreatDoor
open Go.Proofs.Tryz
open Go.Abs
def sQ (o:GObj):List UInt8:=(fQ o.kind).data.toList++32::(o.id.data.toList++32::(if o.kind=1 then Lib.itoa o.x++32::Lib.itoa o.y else 40::(cH [32] (bs o.refs)++[41])))
def vY (o:GObj):List UInt8:=sQ o++pG o.tags
def xO (o:GObj):ByteArray:=⟨(vY o).toArray⟩
def iF (o:GObj):ByteArray×Int:=if mJ o then(if 0 < o.tags.length∧(gA o.tags).2≠0 then(sNil,(gA o.tags).2)else if 20000 < (xO o).size then(sNil,2)else(xO o,0))else(sNil,1)
def atV (s:ByteArray):Int:=match Lib.atoiAll s.data.toList with
 | .ok v=>v
 | .range=>Lib.atoiSat s.data.toList
 | _=>0
def Z3:GFound:=⟨0,sNil,0,0⟩
def pD (T:List GFound):List GFound:=T++List.replicate (4 - T.length) Z3
def F3 (s:ByteArray):Int:=if s=fQ 5 then 5 else if s=fQ 4 then 4 else if s=fQ 3 then 3 else if s=fQ 2 then 2 else if s=fQ 1 then 1 else 0
def gE (f:GFound):Bool:=decide (f.text=⟨#[41]⟩)&&decide (f.kind=4)
def lX:List GFound→List GTag
 | a::_::c::r=>⟨a.text,c.text⟩::lX r
 | _=>[]
theorem H4:∀ {T:List GFound} {l:List GTag},vL T=some l→lX T=l
 | [],l,h=>by rw [vL] at h;cases h;rfl
 | [_],l,h=>by rw [vL] at h<;>(cases h;done)
 | [_,_],l,h=>by rw [vL] at h<;>(cases h;done)
 | a::b::c::r,l,h=>by
  rw [vL] at h;cases e:vL r with
  | none=>rw [e] at h;cases h
  | some q =>
   rw [e] at h;cases h;rw [lX,H4 e]
def kI (T:List GFound):GObj :=if F3 ((pD T).getD 0 Z3).text=1 then⟨((pD T).getD 1 Z3).text,1,atV ((pD T).getD 2 Z3).text,atV ((pD T).getD 3 Z3).text,[],lX ((pD T).drop 4)⟩
 else if tH gE (pD T) < 3 then zObj
 else⟨((pD T).getD 1 Z3).text,F3 ((pD T).getD 0 Z3).text,0,0,(((pD T).take (tH gE (pD T)).toNat).drop 3).map GFound.text,lX ((pD T).drop ((tH gE (pD T)).toNat+1))⟩
def B9 (s:ByteArray) (i:Nat) (r:List UInt8) (T:List GFound):Prop:=∀ n,r.length≤n→lE s n i=T
theorem DQ {s:ByteArray} {i j:Nat} {w r:List UInt8} {f:GFound} {T:List GFound} (hs:gT s i=(some f,j)) (hf:f.err=0) (hi:i < s.size) (hw:0 < w.length) (hT:B9 s j r T):B9 s i (w++r) (f::T):=by intro n hn;rw [aLU] at hn;obtain ⟨m,rfl⟩:∃ m,n=m+1:=⟨n - 1,by omega⟩;rw [lE,aLS hi,hs];show f::(if f.err=0 then lE s m j else[])=_;rw [aLS hf,hT m (by omega)]
theorem B1 {s:ByteArray} {i:Nat} {r:List UInt8} {T:List GFound} (h:s.data.toList.drop i=32::r) (hT:B9 s (i+1) r T):B9 s i (32::r) T:=by intro n hn;rw [aLV] at hn;obtain ⟨m,rfl⟩:∃ m,n=m+1:=⟨n - 1,by omega⟩;rw [lE,aLS (uY h).1,aEA h];exact hT m (by omega)
theorem all_nil {s:ByteArray} {i:Nat} (h:s.data.toList.drop i=[]):B9 s i [] []:=by
 intro n _;have hge:¬ i < s.size:=by
  have:=List.drop_eq_nil_iff.1 h;rw [aY] at this;omega
 cases n with
 | zero=>rfl
 | succ n=>rw [lE,aLR hge]
theorem rK {s:ByteArray} {i:Nat} {w r:List UInt8} (h:s.data.toList.drop i=w++r) (hw:0 < w.length):i < s.size:=by
 rcases Nat.lt_or_ge i s.size with h1|h1
 ·exact h1
 rw [List.drop_eq_nil_of_le (by rw [aY];exact h1)] at h;have:=congrArg List.length h;rw [List.length_nil,aLU] at this;omega
def CE (r:List UInt8):Prop:=∀ c r',r=c::r'→DK (c.toNat:Int)≠3∧DK (c.toNat:Int)≠4∧DK (c.toNat:Int)≠5
theorem Y6:CE []:=fun c r' h=>by cases h
theorem oY (r:List UInt8):CE (32::r):=fun c r' h=>by cases h;exact⟨by decide,by decide,by decide⟩
theorem Q1 (r:List UInt8):CE (41::r):=fun c r' h=>by cases h;exact⟨by decide,by decide,by decide⟩
theorem rX {s k:ByteArray} {i:Nat} {r:List UInt8} {T:List GFound} (h:s.data.toList.drop i=k.data.toList++r) (hk:bI k=true) (hr:CE r) (hT:B9 s (i+k.size) r T):B9 s i (k.data.toList++r) (⟨1,k,i,0⟩::T):=by have hp:=(wB hk).1;exact DQ (Y7 h hk hr) rfl (rK h (by rw [aY];exact hp)) (by rw [aY];exact hp) hT
theorem P8 {s:ByteArray} {i:Nat} {r:List UInt8} {c:UInt8} {T:List GFound} (h:s.data.toList.drop i=c::r) (hc:DK (c.toNat:Int)=6) (hT:B9 s (i+1) r T):B9 s i (c::r) (⟨4,⟨#[c]⟩,i,0⟩::T):=by
 have ha:qO s i=6:=by rw [B0 h];exact hc
 have hx:=zD (w:=[c]) (r:=r) h;have hs:gT s i=(some ⟨4,⟨#[c]⟩,i,0⟩,i+1):=by
  rw [gT,aLR (by rw [ha];decide),aLR (by rw [ha];decide),aLR (by rw [ha];decide),aLR (by rw [ha];decide),aLR (by rw [ha];decide),aLS ha];rw [List.length_singleton] at hx;rw [hx]
 exact DQ (w:=[c]) hs rfl (uY h).1 Nat.zero_lt_one hT
theorem aFU:∀ b:UInt8,48≤b.toNat→b.toNat≤57→DK (b.toNat:Int)=4:=by
 intro b h1 h2;have h:∀ n:Fin 256,48≤n.val→n.val≤57→DK (n.val:Int)=4:=by decide +kernel
 exact h ⟨b.toNat,b.toNat_lt⟩ h1 h2
theorem YL {s:ByteArray} {i:Nat} {x:Int} {r:List UInt8} {T:List GFound} (h:s.data.toList.drop i=Lib.itoa x++r) (h0:0≤x) (h1:x < 10000000) (hr:CE r) (hT:B9 s (i+(Lib.itoa x).length) r T):B9 s i (Lib.itoa x++r) (⟨2,bL x,i,0⟩::T):=by
 have hw:=lD x h0;have hne:0 < (Lib.itoa x).length:=by rw [hw];exact List.length_pos_iff.2 (qN _)
 have hle:(Lib.itoa x).length≤7:=by rw [hw];exact fS (by omega) (by decide)
 have hat:∀ j,j < (Lib.itoa x).length→qO s (i+j)=4:=fun j hj=>by
  have hc:=aLY hj;rw [B0 (YD h hc)];have hm:(Lib.itoa x)[j]∈Lib.decDigits x.toNat:=by rw [← hw];exact List.getElem_mem hj
  obtain ⟨d1,d2⟩:=oF _ hm;exact aFU _ d1 d2
 have hlen:i+(Lib.itoa x).length≤s.size:=by
  have:=congrArg List.length h;rw [aL8,aLU,aY] at this;have:=rK h hne;omega
 have ha0:qO s i=4:=hat 0 hne;have hd:=gV h;have hstop:qO s (i+(Lib.itoa x).length)≠3∧qO s (i+(Lib.itoa x).length)≠4∧qO s (i+(Lib.itoa x).length)≠5:=by
  cases r with
  | nil=>rw [YJ hd];exact⟨by decide,by decide,by decide⟩
  | cons c r'=>rw [B0 hd];exact hr c r' rfl
 have hend:PW s i=i+(Lib.itoa x).length:=by
  refine CK (ZT s) (by omega) (by omega) (fun j h1 h2=>?_) (.inl ?_)
  ·have:=hat (j - i) (by omega);rw [show i+(j - i)=j by omega] at this;rw [ZT,this];rfl
  rw [ZT,decide_eq_false hstop.2.1]
 have hs:gT s i=(some ⟨2,bL x,i,0⟩,i+(Lib.itoa x).length):=by
  rw [gT,aLR (by rw [ha0];decide),aLR (by rw [ha0];decide),aLR (by rw [ha0];decide),aLS ha0,hend,JT,zD h,decide_eq_false hstop.1,decide_eq_false hstop.2.2,decide_eq_false (by omega)];rfl
 exact DQ hs rfl (rK h hne) hne hT
theorem KF {s:ByteArray}:∀ (l:List GTag) (i:Nat),(∀ t,t∈l→bI t.key=true)→s.data.toList.drop i=pG l→∃ T,B9 s i (pG l) T∧TM T l
 | [],i,_,h=>⟨[],all_nil h,rfl,(fun f hf=>by cases hf),rfl⟩
 | t::l,i,hk,h=>by
  have hm:pG (t::l)=32::(t.key.data.toList++61::(dT t.val.data.toList++pG l)):=by
   rw [pG,List.flatMap_cons,M9];simp [pG]
  rw [hm] at h ⊢;have h1:=(uY h).2.2;have h2:=gV h1;rw [aY] at h2;have h3:=(uY h2).2.2;have h4:=gV h3;obtain ⟨T,hT,hR⟩:=KF l _ (fun t ht=>hk t (List.mem_cons_of_mem _ ht)) h4;have hq:0 < (dT t.val.data.toList).length:=by rw [dT,aLV];omega
  have b3:=DQ (Q2 h3) rfl (rK h3 hq) hq hT;have b2:=P8 h2 (by decide) b3;have b1:=rX h1 (hk t List.mem_cons_self) (fun c r' e=>by cases e;exact⟨by decide,by decide,by decide⟩) b2;exact⟨_,B1 h b1,TM.cons hR rfl rfl rfl⟩
theorem HB {o:GObj} (h:mJ o=true):o.kind=1∨o.kind=2∨o.kind=3∨o.kind=4∨o.kind=5:=by have:=aAK h;omega
theorem D4 {k:Int} (h:k=1∨k=2∨k=3∨k=4∨k=5):bI (fQ k)=true∧F3 (fQ k)=k:=by
 rcases h with rfl|rfl|rfl|rfl|rfl
 ·exact⟨by kernel_rfl,by decide⟩
 ·exact⟨by kernel_rfl,by decide⟩
 ·exact⟨by kernel_rfl,by decide⟩
 ·exact⟨by kernel_rfl,by decide⟩
 exact⟨by kernel_rfl,by decide⟩
theorem BE {o:GObj} (h:mJ o=true):∀ s∈o.refs,bI s=true:=fun s hs=>by
 rw [mJ,aL2,aL2,aLc,aLc] at h;obtain ⟨i,hi⟩:=aLe.1 hs;have hlt:=(aLX.1 hi).1;have h1:=List.any_eq_false.1 h.2.1 i (List.mem_range.2 hlt);rw [zQ,hi] at h1;simp only [VU,Bool.or_eq_true,not_or,Bool.not_eq_true,Bool.not_eq_false'] at h1;exact h1.2
theorem aDK {o:GObj} (h:mJ o=true):(0≤o.x∧o.x < 1048576)∧(0≤o.y∧o.y < 1048576)∧(o.kind=1→o.refs=[])∧(o.kind≠1→o.x=0∧o.y=0):=by
 rw [mJ,aL2,aL2] at h;have h:=h.2.2;unfold NG at h
 split at h
 ·rename_i h1;rw [aL2,gOn] at h;simp only [aL2,aL0] at h;refine⟨by omega,by omega,fun _=>List.length_eq_zero_iff.1 (by omega),fun e=>absurd h1 e⟩
 rename_i h1
 split at h<;>simp only [aL2,aL0] at h<;>exact⟨by omega,by omega,fun e=>absurd e h1,fun _=>by omega⟩
theorem TJ {s:ByteArray}:∀ (l:List ByteArray) (i:Nat) (r:List UInt8) (T:List GFound),(∀ k,k∈l→bI k=true)→s.data.toList.drop i=l.flatMap (fun k=>32::k.data.toList)++r→CE r →
  B9 s (i+(l.flatMap fun k=>32::k.data.toList).length) r T→∃ R:List GFound,B9 s i (l.flatMap (fun k=>32::k.data.toList)++r) (R++T)∧R.map GFound.text=l∧∀ f∈R,f.kind=1∧f.err=0
 | [],i,r,T,_,h,_,hT=>⟨[],hT,rfl,(fun f hf=>by cases hf)⟩
 | k::l,i,r,T,hk,h,hr,hT=>by
  have hm:(k::l).flatMap (fun k=>32::k.data.toList)++r=32::(k.data.toList++(l.flatMap (fun k=>32::k.data.toList)++r)):=by
   rw [List.flatMap_cons];simp
  have hln:((k::l).flatMap fun k=>32::k.data.toList).length=1+k.size+(l.flatMap fun k=>32::k.data.toList).length:=by
   rw [List.flatMap_cons,aLU,aLV,aY];omega
  rw [hm] at h ⊢;have h1:=(uY h).2.2;have h2:=gV h1;rw [aY] at h2;obtain ⟨R,hR,e1,e2⟩:=TJ l (i+1+k.size) r T (fun x hx=>hk x (List.mem_cons_of_mem _ hx)) h2 hr (by rw [hln] at hT;rw [show i+1+k.size+(l.flatMap fun k=>32::k.data.toList).length=i+(1+k.size+(l.flatMap fun k=>32::k.data.toList).length)by omega];exact hT);have hst:CE (l.flatMap (fun k=>32::k.data.toList)++r):=by
   cases l with
   | nil=>exact hr
   | cons a l=>rw [List.flatMap_cons];exact oY _
  refine⟨⟨1,k,i+1,0⟩::R,B1 h (rX h1 (hk k List.mem_cons_self) hst hR),by rw [List.map_cons,e1],fun f hf=>?_⟩;rcases aL5.1 hf with rfl|hf
  ·exact⟨rfl,rfl⟩
  exact e2 f hf
theorem JM (k:ByteArray) (l:List ByteArray):cH [32] (bs (k::l))=k.data.toList++l.flatMap (fun k=>32::k.data.toList):=by rw [bs,List.map_cons,cH,List.flatMap_map];rfl
theorem aC9 {α:Type} {p:α→Bool} {c:α} {B:List α}:∀ {A:List α},(∀ a,a∈A→p a=false)→p c=true→tH p (A++c::B)=(A.length:Int):=by
 intro A hA hc;have h:(A++c::B).findIdx? p=some A.length:=by
  induction A with
  | nil=>rw [List.nil_append,List.findIdx?_cons,aLS hc];rfl
  | cons a A ih =>
   rw [List.cons_append,List.findIdx?_cons,aLR (by rw [hA a List.mem_cons_self];decide),ih fun x hx=>hA x (List.mem_cons_of_mem _ hx)];rfl
 rw [tH,h]
theorem UD (l:List GTag):CE (pG l):=by
 cases l with
 | nil=>exact Y6
 | cons t l=>rw [pG,List.flatMap_cons];exact oY _
theorem TH {x:Int} (h:0≤x) (h2:x < 1000000000000000000):atV (bL x)=x:=by rw [atV];show (match Lib.atoiAll (Lib.itoa x)with|.ok v=>v|.range=>_|_=>0)=x;rw [wT h h2]
theorem ZJ {o:GObj} (h:mJ o=true) (hk:o.kind≠1):∃ k l,o.refs=k::l:=by
 have hk5:=HB h;rw [mJ,aL2,aLc,NH,tI] at h;have h1:=h.1;simp only [aLf,Bool.not_eq_false',aL1] at h1;have h4:=h1.1.2;have hl:1≤BP o.kind:=by
  rcases hk5 with e|e|e|e|e
  ·exact absurd e hk
  ·rw [e];decide
  ·rw [e];decide
  ·rw [e];decide
  rw [e];decide
 cases e:o.refs with
 | nil=>rw [e] at h4;exact absurd (show ((([]:List ByteArray).length:Nat):Int) < BP o.kind by show (0:Int) < _;omega) h4
 | cons k l=>exact⟨k,l,rfl⟩
theorem XQ {T:List GFound} (h:4≤T.length):pD T=T:=by rw [pD,show 4 - T.length=0 by omega,List.replicate_zero,List.append_nil]
theorem Z2 (o:GObj):(xO o).data.toList.drop 0=vY o:=rfl
theorem XS {o:GObj} {i:ByteArray} {k x y:Int} {r:List ByteArray} {t:List GTag} (h1:o.id=i) (h2:o.kind=k) (h3:o.x=x) (h4:o.y=y) (h5:o.refs=r) (h6:o.tags=t):(⟨i,k,x,y,r,t⟩:GObj)=o:=by subst h1 h2 h3 h4 h5 h6;rfl
theorem aB6 {o:GObj} (hg:mJ o=true):∃ T,B9 (xO o) 0 (vY o) T∧(∀ f,f∈T→f.err=0)∧T.length≤5000∧kI T=o:=by
 obtain ⟨hr,ht,htg,hid,_⟩:=JS hg;obtain ⟨hx,hy,hn,hz⟩:=aDK hg;obtain ⟨hw,hkw⟩:=D4 (HB hg);have hkey:∀ t,t∈o.tags→bI t.key=true:=fun t h=>((AI.1 htg).1 t h).1;have h0:=Z2 o;by_cases hk:o.kind=1
 ·have e:vY o=(fQ o.kind).data.toList++32::(o.id.data.toList++32::(Lib.itoa o.x++32::(Lib.itoa o.y++pG o.tags))):=by
   rw [vY,sQ,aLS hk];simp
  rw [e] at h0 ⊢;have h1:=gV h0;rw [aY] at h1;have h2:=(uY h1).2.2;have h3:=gV h2;rw [aY] at h3;have h4:=(uY h3).2.2;have h5:=gV h4;have h6:=(uY h5).2.2;have h7:=gV h6;obtain ⟨T,hT,r1,r2,r3⟩:=KF o.tags _ hkey h7;have b:=rX h0 hw (oY _) (B1 h1 (rX h2 hid (oY _) (B1 h3 (YL h4 hx.1 (by omega) (oY _) (B1 h5 (YL h6 hy.1 (by omega) (UD _) hT))))));refine⟨_,b,fun f hf=>?_,?_,?_⟩
  ·simp only [aL5] at hf;rcases hf with rfl|rfl|rfl|rfl|hf
   ·rfl
   ·rfl
   ·rfl
   ·rfl
   exact r2 f hf
  ·simp only [aLV];omega
  rw [kI,XQ (by simp only [aLV];omega)];simp only [List.getD_cons_zero,List.getD_cons_succ,List.drop_succ_cons,List.drop_zero];rw [hkw,aLS hk,H4 r1,TH hx.1 (by omega),TH hy.1 (by omega)];exact XS rfl hk rfl rfl (hn hk) rfl
 obtain ⟨k,l,hkl⟩:=ZJ hg hk;have hnm:=BE hg;rw [hkl] at hnm;have e:vY o=(fQ o.kind).data.toList++32::(o.id.data.toList++32::(40::(k.data.toList++(l.flatMap (fun k=>32::k.data.toList)++41::pG o.tags)))):=by
  rw [vY,sQ,aLR hk,hkl,JM];simp
 rw [e] at h0 ⊢;have h1:=gV h0;rw [aY] at h1;have h2:=(uY h1).2.2;have h3:=gV h2;rw [aY] at h3;have h4:=(uY h3).2.2;have h5:=(uY h4).2.2;have h6:=gV h5;rw [aY] at h6;have h7:=gV h6;have h8:=(uY h7).2.2;obtain ⟨T,hT,r1,r2,r3⟩:=KF o.tags _ hkey h8;have hcl:=P8 h7 (by decide) hT;obtain ⟨R,hR,q1,q2⟩:=TJ l _ _ _ (fun x hx=>hnm x (List.mem_cons_of_mem _ hx)) h6 (Q1 _) hcl;have hst:CE (l.flatMap (fun k=>32::k.data.toList)++41::pG o.tags):=by
  cases l with
  | nil=>exact Q1 _
  | cons a l=>rw [List.flatMap_cons];exact oY _
 have b:=rX h0 hw (oY _) (B1 h1 (rX h2 hid (oY _) (B1 h3 (P8 h4 (by decide) (rX h5 (hnm k List.mem_cons_self) hst hR)))));have hRl:R.length=l.length:=by rw [← q1,aLT]
 have hrl:o.refs.length=l.length+1:=by rw [hkl,aLV]
 refine⟨_,b,fun f hf=>?_,?_,?_⟩
 ·simp only [aL5,List.mem_append] at hf;rcases hf with rfl|rfl|rfl|rfl|hf|rfl|hf
  ·rfl
  ·rfl
  ·rfl
  ·rfl
  ·exact(q2 f hf).2
  ·rfl
  exact r2 f hf
 ·simp only [aLV,aLU];omega
 obtain ⟨A,hA⟩:∃ A:List GFound,A=⟨1,fQ o.kind,0,0⟩::⟨1,o.id,0+(fQ o.kind).size+1,0⟩::⟨4,⟨#[40]⟩,0+(fQ o.kind).size+1+o.id.size+1,0⟩::⟨1,k,0+(fQ o.kind).size+1+o.id.size+1+1,0⟩::R:=⟨_,rfl⟩;have hAl:A.length=R.length+4:=by rw [hA];rfl
 have hAc:∀ a,a∈A→gE a=false:=by
  intro a ha;rw [hA] at ha;simp only [aL5] at ha;rcases ha with rfl|rfl|rfl|rfl|ha
  ·rw [gE,decide_eq_false (show ¬ ((1:Int)=4)by decide),Bool.and_false]
  ·rw [gE,decide_eq_false (show ¬ ((1:Int)=4)by decide),Bool.and_false]
  ·rfl
  ·rw [gE,decide_eq_false (show ¬ ((1:Int)=4)by decide),Bool.and_false]
  rw [gE,(q2 a ha).1,decide_eq_false (show ¬ ((1:Int)=4)by decide),Bool.and_false]
 have hdrop:∀ c:GFound,(A++c::T).drop (A.length+1)=T:=fun c=>by
  rw [show A++c::T=(A++[c])++T by simp,show A.length+1=(A++[c]).length by simp,List.drop_left]
 have hx:=fun j=>aC9 (p:=gE) (c:=⟨4,⟨#[41]⟩,j,0⟩) (B:=T) hAc rfl;have hTT:∀ j,(⟨1,fQ o.kind,0,0⟩::⟨1,o.id,0+(fQ o.kind).size+1,0⟩::⟨4,⟨#[40]⟩,0+(fQ o.kind).size+1+o.id.size+1,0⟩::⟨1,k,0+(fQ o.kind).size+1+o.id.size+1+1,0⟩::(R++⟨4,⟨#[41]⟩,j,0⟩::T):List GFound)=A++⟨4,⟨#[41]⟩,j,0⟩::T:=fun j=>by rw [hA];rfl
 rw [kI,hTT,XQ (by rw [aLU,hAl];omega),hx,aLR (by rw [hA];show ¬ F3 (fQ o.kind)=1;rw [hkw];exact hk),aLR (by rw [hAl];omega),aL4,List.take_left,hdrop,H4 r1];obtain ⟨z1,z2⟩:=hz hk;refine XS ?_ ?_ z1 z2 ?_ rfl
 ·rw [hA];rfl
 ·rw [hA];show o.kind=F3 (fQ o.kind);rw [hkw]
 rw [hkl,hA];show k::l=k::R.map GFound.text;rw [q1]
def ofL (l:List UInt8):ByteArray:=⟨l.toArray⟩
theorem dW (l:List UInt8):(ofL l).data.toList=l:=by simp [ofL]
theorem jS (s:ByteArray):ofL s.data.toList=s:=zK (dW _)
theorem fU (l:List UInt8):(ofL l).size=l.length:=by rw [← aY,dW]
def oQ (s:ByteArray):GObj×Int:=if 20000 < s.size then(zObj,2)else if(gP s).2.1=0∧iF (kI (gP s).1)=(s,0)then(kI (gP s).1,0)else(zObj,5)
theorem XT {o:GObj} (h:(iF o).2=0):mJ o=true∧iF o=(xO o,0)∧(xO o).size≤20000:=by
 rw [iF] at h ⊢;by_cases hg:mJ o=true
 ·rw [aLS hg] at h ⊢;by_cases h1:0 < o.tags.length∧(gA o.tags).2≠0
  ·rw [aLS h1] at h;exact absurd h h1.2
  rw [aLR h1] at h ⊢;by_cases h2:20000 < (xO o).size
  ·rw [aLS h2] at h;cases h
  rw [aLR h2];exact⟨hg,rfl,by omega⟩
 rw [aLR hg] at h;cases h
theorem UX {o:GObj} (h:(iF o).2=0):oQ (iF o).1=(o,0):=by
 obtain ⟨hg,ht,hs⟩:=XT h;obtain ⟨T,hT,h1,h2,h3⟩:=aB6 hg;have hlex:gP (xO o)=(T,0,0):=by
  rw [gP,aLR (by omega),hT _ (by rw [← aY];exact Nat.le_succ _),ET T [] h1 (by rw [List.length_nil];omega),List.nil_append]
 rw [ht,oQ,aLR (by show ¬ 20000 < (xO o).size;omega)];show (if(gP (xO o)).2.1=0∧iF (kI (gP (xO o)).1)=(xO o,0)then(kI (gP (xO o)).1,(0:Int))else(zObj,5))=(o,0);rw [hlex];show (if(0:Int)=0∧iF (kI T)=(xO o,0)then(kI T,(0:Int))else(zObj,5))=(o,0);rw [h3,aLS ⟨rfl,ht⟩]
def aAz:List UInt8:=[112,117,116]
def W1:List UInt8:=[109,111,118,101]
def YX:List UInt8:=[116,97,103]
def W0:List UInt8:=[114,101,102,115]
def W3:List UInt8:=[100,114,111,112]
def OB:List UInt8:=[115,112,108,105,116]
def W2:List UInt8:=[106,111,105,110]
def iV (e:GEdit):List (List UInt8) :=if e.op=2 then[W1,e.id.data.toList,Lib.itoa e.x,Lib.itoa e.y] else if e.op=3 then[YX,e.id.data.toList,e.key.data.toList,dT e.val.data.toList]
 else if e.op=4 then W0::e.id.data.toList::bs e.refs else if e.op=5 then[W3,e.id.data.toList]
 else if e.op=6 then[OB,e.id.data.toList,e.node.data.toList,e.other.data.toList] else[W2,e.id.data.toList,e.other.data.toList]
def fL (e:GEdit):List UInt8:=if e.op=1 then aAz++32::(iF e.obj).1.data.toList else cH [32] (iV e)
def iP (e:GEdit):Int:=if e.op=1 then(iF e.obj).2 else 0
def sL:List UInt8→List GEdit→List UInt8×Int
 | acc,[]=>(acc,0)
 | acc,e::r=>if iP e≠0∨20000 < (acc++(fL e++[10])).length then([],2)else sL (acc++(fL e++[10])) r
def fZ (l:List GEdit):ByteArray×Int:=if sU l then(ofL (sL [] l).1,(sL [] l).2)else(sNil,1)
def LI (s:List UInt8):Int:=match Lib.atoiAll s with
 | .ok v=>v
 | _ => -1
def SY:GEdit:=⟨0,sNil,sNil,sNil,0,0,sNil,sNil,[],zObj⟩
def yH (w:List (List UInt8)) (word rest:List UInt8):GEdit :=if word=aAz then⟨1,sNil,sNil,sNil,0,0,sNil,sNil,[],(oQ (ofL rest)).1⟩
 else if word=W1∧w.length=4 then⟨2,ofL (w.getD 1 []),sNil,sNil,LI (w.getD 2 []),LI (w.getD 3 []),sNil,sNil,[],zObj⟩
 else if word=YX∧3 < w.length then(match (gP (ofL (cH [32] (w.drop 3)))).1 with
  | [f]=>⟨3,ofL (w.getD 1 []),sNil,sNil,0,0,ofL (w.getD 2 []),f.text,[],zObj⟩
  | _=>SY)
 else if word=W0∧1 < w.length then⟨4,ofL (w.getD 1 []),sNil,sNil,0,0,sNil,sNil,(w.drop 2).map ofL,zObj⟩
 else if word=W3∧w.length=2 then⟨5,ofL (w.getD 1 []),sNil,sNil,0,0,sNil,sNil,[],zObj⟩
 else if word=OB∧w.length=4 then⟨6,ofL (w.getD 1 []),ofL (w.getD 3 []),ofL (w.getD 2 []),0,0,sNil,sNil,[],zObj⟩
 else if word=W2∧w.length=3 then⟨7,ofL (w.getD 1 []),ofL (w.getD 2 []),sNil,0,0,sNil,sNil,[],zObj⟩
 else SY
def gU (s:List UInt8):GEdit:=yH (eE 32 s) ((eE 32 s).headD []) (s.drop (((eE 32 s).headD []).length+1))
def kN (t:ByteArray):List GEdit×Int :=if 20000 < t.size then([],2)else if fZ ((iU t.data.toList).map fun s=>gU (Lib.trimSuffix s [10]))=(t,0)then((iU t.data.toList).map fun s=>gU (Lib.trimSuffix s [10]),0)else([],5)
theorem M5 {k:ByteArray} (hk:bI k=true) {b:UInt8} (hb:b∈k.data.toList):DK (b.toNat:Int)=3∨DK (b.toNat:Int)=4∨DK (b.toNat:Int)=5:=by
 obtain ⟨j,hj⟩:=aLe.1 hb;have hlt:=(aLX.1 hj).1;rw [aY] at hlt;have h:=(wB hk).2.2.2 j hlt;have e:dU k j=(b.toNat:Int):=by rw [dU,hj];rfl
 rwa [e] at h
theorem oO {k:ByteArray} (hk:bI k=true):(32:UInt8)∉k.data.toList∧(10:UInt8)∉k.data.toList:=by
 constructor
 ·intro h;have:=M5 hk h;revert this;decide
 intro h;have:=M5 hk h;revert this;decide
theorem HC {x:Int} (h:0≤x):(32:UInt8)∉Lib.itoa x∧(10:UInt8)∉Lib.itoa x:=by
 rw [lD x h];constructor
 ·intro h;have:=(oF _ h).1;revert this;decide
 intro h;have:=(oF _ h).1;revert this;decide
theorem RK (l:List UInt8):(10:UInt8)∉dT l:=by
 rw [dT];simp only [aL5,List.mem_append,List.mem_flatMap,aL9,or_false,not_or];refine⟨by decide,?_,by decide⟩;rintro⟨b,_,h⟩;rw [nJ] at h;by_cases h1:b=10
 ·rw [aLS h1] at h;revert h;decide
 rw [aLR h1] at h;by_cases h2:b=34∨b=92
 ·rw [aLS h2] at h;simp only [aL5,aL9,or_false] at h;rcases h with h|h
  ·revert h;decide
  exact h1 h.symm
 rw [aLR h2,aLW] at h;exact h1 h.symm
theorem rM {b:UInt8} (hb:b≠32):∀ {l:List (List UInt8)},(∀ w∈l,b∉w)→b∉cH [32] l
 | [],_,h=>by cases h
 | x::l,hl,h=>by
  rw [cH] at h;rcases List.mem_append.1 h with h|h
  ·exact hl x List.mem_cons_self h
  obtain ⟨y,hy,h⟩:=List.mem_flatMap.1 h;rcases List.mem_append.1 h with h|h
  ·rw [aLW] at h;exact hb h
  exact hl y (List.mem_cons_of_mem _ hy) h
theorem aEq {l:List GTag} (h:∀ t,t∈l→bI t.key=true):(10:UInt8)∉pG l:=by
 intro hm;obtain ⟨t,ht,hm⟩:=List.mem_flatMap.1 hm;rw [M9] at hm;simp only [aL5,List.mem_append] at hm;rcases hm with h1|h1|h1|h1
 ·revert h1;decide
 ·exact(oO (h t ht)).2 h1
 ·revert h1;decide
 exact RK _ h1
theorem aHO {o:GObj} (hg:mJ o=true):(10:UInt8)∉vY o:=by
 obtain ⟨hr,ht,htg,hid,_⟩:=JS hg;obtain ⟨hx,hy,_,_⟩:=aDK hg;have hkey:∀ t,t∈o.tags→bI t.key=true:=fun t h=>((AI.1 htg).1 t h).1;intro h;rw [vY,sQ] at h;simp only [aL5,List.mem_append] at h;rcases h with(h|h|h|h|h)|h
 ·exact(oO (D4 (HB hg)).1).2 h
 ·revert h;decide
 ·exact(oO hid).2 h
 ·revert h;decide
 ·split at h
  ·simp only [aL5,List.mem_append] at h;rcases h with h|h|h
   ·exact(HC hx.1).2 h
   ·revert h;decide
   exact(HC hy.1).2 h
  simp only [aL5,List.mem_append,aL9,or_false] at h;rcases h with h|h|h
  ·revert h;decide
  ·refine rM (by decide) (fun w hw=>?_) h;obtain ⟨s,hs,rfl⟩:=List.mem_map.1 hw;exact(oO (BE hg s hs)).2
  revert h;decide
 exact aEq hkey h
abbrev oB (o:GObj):aB:=[(1,bx 6 153 ((bH o).map .pv))]
theorem aEa {l:List UInt8} (h:l≠[]) (s:ByteArray):ZO l s=l++32::s.data.toList:=by rw [ZO,aLR h]
theorem aKV (K:aB) (s:ByteArray) (hl:s.size < 70368744177663):aH Tryz.prog 240 [.ref 2001 0 0 0,sv s] (lU 0 [] false++K) (fun r H'=>r=.tup []∧H'=lU 1 s.data.toList true++K):=by
 have h:=aBc K 0 [] false s (by rw [List.length_nil];omega)
 rwa [aLS rfl,show ZO [] s=s.data.toList from rfl] at h
theorem ZP (K:aB) (g:Nat) (l:List UInt8) (s:ByteArray) (h0:l≠[]) (hl:l.length+s.size < 70368744177663):aH Tryz.prog 240 [.ref 2001 0 0 0,sv s] (lU g l true++K) (fun r H'=>r=.tup []∧H'=lU (g+2) (l++32::s.data.toList) true++K):=by
 have h:=aBc K g l true s hl
 rwa [aLR h0,aEa h0] at h
theorem GT (K:aB) (g:Nat) (l:List UInt8) (u:Bool) (hl:l.length < 70368744177664):aH Tryz.prog 116 [.ref 2001 0 0 0] (lU g l u++K) (fun r H'=>r=sv ⟨l.toArray⟩∧H'=TE g l u++(lU g l u++K)) :=aH.frame (aGb g l u hl) aGa (cZ.ofL ⟨(by exact J7 rfl rfl),(by exact dG _ _),trivial⟩) (by simp;rfl) (fun id h=>.inl (by
  simp only [TE,lU,aB.get] at h ⊢;cases e1:Nat.beq 2001 id with
  | true=>rfl
  | false =>
   cases e2:Nat.beq 2002 id with
   | true=>rfl
   | false=>rw [e1,e2] at h;cases h))
theorem M1 {o:GObj} (hg:mJ o=true) (h:0 < o.tags.length∧(gA o.tags).2≠0):iF o=(sNil,(gA o.tags).2):=by rw [iF,aLS hg,aLS h]
theorem AB {o:GObj} {L:List UInt8} (hg:mJ o=true) (h:¬ (0 < o.tags.length∧(gA o.tags).2≠0)) (hL:vY o=L) (h2:20000 < L.length):iF o=(sNil,2):=by
 have hs:(xO o).size=L.length:=by rw [← hL,← aY];rfl
 rw [iF,aLS hg,aLR h,aLS (by rw [hs];exact h2)]
theorem AC {o:GObj} {L:List UInt8} (hg:mJ o=true) (h:¬ (0 < o.tags.length∧(gA o.tags).2≠0)) (hL:vY o=L) (h2:¬ 20000 < L.length):iF o=(⟨L.toArray⟩,0):=by
 have hs:(xO o).size=L.length:=by rw [← hL,← aY];rfl
 rw [iF,aLS hg,aLR h,aLR (by rw [hs];exact h2),xO,hL]
theorem qR {l:List GTag} (h0:0 < l.length) (h:(gA l).2=0):32::(gA l).1.data.toList=pG l∧(gA l).1.size≤20000:=by
 rw [gA] at h ⊢;by_cases h1:xD l=true
 ·rw [aLS h1] at h ⊢;by_cases h2:20000 < (F7 l).size
  ·rw [aLS h2] at h;cases h
  rw [aLR h2];refine⟨?_,by show (F7 l).size≤_;omega⟩;cases l with
  | nil=>exact absurd h0 (Nat.lt_irrefl 0)
  | cons t l =>
   show 32::(F7 (t::l)).data.toList=_;rw [Y4];simp [pG]
 rw [aLR h1] at h;cases h
theorem NJ:∀ l:List ByteArray,(l.flatMap fun k=>32::k.data.toList).length=l.length+cV l
 | []=>rfl
 | k::l=>by
  have ih:=NJ l;rw [List.flatMap_cons,aLU,aLV,aLV,ih,aY,cV,cV,List.map_cons,List.sum_cons];omega
theorem lJ (l:List ByteArray):(cH [32] (bs l)).length≤l.length+cV l:=by
 cases l with
 | nil=>exact aLa _
 | cons k l =>
  rw [JM,aLU,NJ,aY,aLV,cV,cV,List.map_cons,List.sum_cons];omega
theorem M0 (o:GObj) (H:aB) (ho:okO o):aH Tryz.prog 203 [av (bH o)] H (fun r H'=>r=.tup [sv (iF o).1,iv (iF o).2]∧H'=H):=by
 refine Pu ?_;refine Bd func203 rfl ntmps203<|Sr<|Dd (by exact bZ (id:=1) rfl rfl rfl rfl rfl)<|Dd aP<|Dd aP<|Zz<|Sq<|Sr<|Dd (pZ cN sizeOf153)<|Dd (by exact aA rfl rfl call239 rfl (JA o _ ho))<|Dd lI<|Zz ?_;refine Cn ?_ ?_<;>intro hc1
 ·have hg:mJ o=false:=by rw [← aLc];exact hc1
  have e:iF o=(sNil,1):=by rw [iF,aLR (by rw [hg];decide)]
  rw [e];exact Sr<|Dd aP<|Dd aP<|Zz<|aC<|Ru<|Qq
 have hg:mJ o=true:=by rw [← Bool.not_eq_false'];exact hc1
 obtain ⟨hr,ht,htg,hid,_⟩:=JS hg;obtain ⟨hx,hy,hn,hz⟩:=aDK hg;have hw:=(D4 (HB hg)).1;have hws:=eF hw;have his:=eF hid;have hwp:=(wB hw).1;have hw0:(fQ o.kind).data.toList≠[]:=fun e=>by have:=congrArg List.length e;rw [aY,List.length_nil] at this;omega
 refine aE<|Sr<|Dd (by exact bC (id:=2001) rfl aG0 rfl rfl)<|Zz<|Sq ?_;refine fE.ent (E':=[(1,.ref 1 0 0 0),(2,sv sNil),(3,iv 0),(4,.ref 2001 0 0 0)]) (H':=[(2002,⟨0,1,5,[]⟩),(2001,BX (.osl 2002 0 0 0) false),(1,bx 6 153 ((bH o).map .pv))]) (cD.nz 2002 1 5 rfl rfl ⟨⟨_,rfl,(by exact Nz.same (by(simp;rfl)))⟩,⟨_,rfl,(by exact Nz.same (by(simp;done)))⟩,⟨_,rfl,(by exact Nz.same (by(simp;done)))⟩,⟨_,rfl,(by exact Nz.same (by(simp;rfl)))⟩,trivial⟩ ⟨⟨_,rfl,rfl,rfl,rfl,(by exact .inr ⟨_,_,rfl,rfl,(by repeat(first|exact trivial|refine⟨(by first|exact Nz.own|exact Nz.same (by(simp;done))),?_⟩))⟩)⟩,⟨_,rfl,rfl,rfl,rfl,(by exact .inl ⟨rfl,(by(simp;done))⟩)⟩,trivial⟩ trivial) ?_;refine fE.ent (E':=[(1,.ref 1 0 0 0),(2,sv sNil),(3,iv 0),(4,.ref 2001 0 0 0)]) (H':=lU 0 [] false++oB o) (cD.get (fun _=>rfl) (fun j=>mA (by decide) j)) ?_;refine Rg<|Dd (bB gG)<|Dd (bK isAgg3)<|Dd (by exact aA rfl rfl tW rfl (A8 o.kind _))<|Dd (by exact aA rfl rfl tV rfl (aKV (oB o) (fQ o.kind) (by omega)))<|Zz<|Sr<|Dd (bB oS)<|Dd (bK isAgg9)<|Dd (by exact aA rfl rfl tV rfl (ZP (oB o) 1 (fQ o.kind).data.toList o.id hw0 (by rw [aY];omega)))<|Zz<|Sq<|Sq ?_;obtain ⟨L1,hL1⟩:∃ L,L=(fQ o.kind).data.toList++32::o.id.data.toList:=⟨_,rfl⟩;have hn1:L1≠[]:=by rw [hL1];simp
 have hl1:L1.length≤49:=by rw [hL1,aLU,aLV,aY,aY];omega
 rw [← hL1];by_cases hk:o.kind=1
 ·have six:(bL o.x).size≤7:=by rw [← aY];show (Lib.itoa o.x).length≤7;rw [lD _ hx.1];exact fS (by omega) (by decide)
  have siy:(bL o.y).size≤7:=by rw [← aY];show (Lib.itoa o.y).length≤7;rw [lD _ hy.1];exact fS (by omega) (by decide)
  obtain ⟨L2,hL2⟩:∃ L,L=L1++32::(bL o.x).data.toList:=⟨_,rfl⟩;have hn2:L2≠[]:=by rw [hL2];simp
  have hl2:L2.length≤57:=by rw [hL2,aLU,aLV,aY];omega
  have p2:=ZP (oB o) (1+2) L1 (bL o.x) hn1 (by omega);rw [← hL2] at p2;obtain ⟨L3,hL3⟩:∃ L,L=L2++32::(bL o.y).data.toList:=⟨_,rfl⟩;have hn3:L3≠[]:=by rw [hL3];simp
  have hl3:L3.length≤200000:=by rw [hL3,aLU,aLV,aY];omega
  have p3:=ZP (oB o) (1+2+2) L2 (bL o.y) hn2 (by omega);rw [← hL3] at p3;have hH:sQ o=L3:=by
   rw [sQ,aLS hk,hL3,hL2,hL1];show _=(_++32::Lib.itoa o.x)++32::Lib.itoa o.y;simp
  refine Rg<|Dd (bB gG)<|Dd (bK isAgg3)<|Dd cY<|Zz ?_;refine Cn ?_ ?_<;>intro hc2
  ·refine Sr<|Dd (bB nP)<|Dd (bB tK)<|Dd (bK isAgg3)<|Dd (by exact aA rfl rfl mO rfl (qH o.x (by omega) (by omega) _))<|Dd (by exact aA rfl rfl tV rfl (p2))<|Zz<|Rg<|Dd (bB nP)<|Dd (bB tJ)<|Dd (bK isAgg3)<|Dd (by exact aA rfl rfl mO rfl (qH o.y (by omega) (by omega) _))<|Dd (by exact aA rfl rfl tV rfl (p3))<|Zz<|Sq<|Sr<|Dd (bB fK)<|Dd (bK cU)<|Dd (fY cM)<|Dd mI<|Zz ?_;refine Cn ?_ ?_<;>intro hc3
   ·have htp:0 < o.tags.length:=by have:=aLP hc3;rw [aLT] at this;omega
    refine Sr<|Dd (bB fK)<|Dd (bK cU)<|Dd (by exact aA rfl rfl call241 rfl (ME o.tags _ ho.2.1))<|Dd aF<|Dd dV<|Dd dV<|Dd aP<|Dd aP<|Zz<|Sq<|Sr<|Dd aF<|Dd uL<|Zz ?_;refine Cn ?_ ?_<;>intro hc4
    ·have hte:(gA o.tags).2≠0:=by have hq:=hc4;rw [aLc,aL1] at hq;exact hq
     rw [M1 hg ⟨htp,hte⟩];exact Sr<|Dd aF<|Dd aP<|Dd aP<|Zz<|aC<|Ru<|Qq
    have hte:(gA o.tags).2=0:=by have hq:=hc4;rw [Bool.not_eq_false',aL0] at hq;exact hq
    have hlen2:(L3++32::(gA o.tags).1.data.toList).length≤300000:=by have:=hl3;have:=(qR htp hte).2;rw [aLU,aLV,aY];omega
    have hLL:vY o=L3++32::(gA o.tags).1.data.toList:=by rw [(qR htp hte).1,vY,hH]
    refine aE<|Rg<|Dd aF<|Dd (by exact aA rfl rfl tV rfl (ZP (oB o) (1+2+2+2) L3 (gA o.tags).1 hn3 (by have:=hl3;have:=(qR htp hte).2;omega)))<|Zz<|Sq<|Sr<|Dd (bB lL)<|Dd (by exact aA rfl rfl tX rfl (HA (oB o) ((1+2+2+2)+2) (L3++32::(gA o.tags).1.data.toList) true))<|Dd mI<|Zz ?_;refine Cn ?_ ?_<;>intro hc5
    ·have hlong:=aLP hc5;rw [AB hg (fun h=>h.2 hte) hLL (by omega)];exact Sr<|Dd aP<|Dd aP<|Zz<|aC<|Ru<|Qq
    have hlong:=aLQ hc5;rw [AC hg (fun h=>h.2 hte) hLL (by omega)];exact aE<|Sr<|Dd (bB lL)<|Dd (by exact aA rfl rfl kU rfl (GT (oB o) ((1+2+2+2)+2) (L3++32::(gA o.tags).1.data.toList) true (by have:=hlen2;omega)))<|Dd aP<|Dd aP<|Zz<|aC<|Ru<|Qq
   have htp:¬ 0 < o.tags.length:=by have:=aLQ hc3;rw [aLT] at this;omega
   have hLL:vY o=L3:=by rw [vY,hH,List.length_eq_zero_iff.1 (by omega:o.tags.length=0)];exact List.append_nil _
   refine aE<|Sq<|Sr<|Dd (bB lL)<|Dd (by exact aA rfl rfl tX rfl (HA (oB o) (1+2+2+2) L3 true))<|Dd mI<|Zz ?_;refine Cn ?_ ?_<;>intro hc6
   ·have hlong:=aLP hc6;rw [AB hg (fun h=>htp h.1) hLL (by omega)];exact Sr<|Dd aP<|Dd aP<|Zz<|aC<|Ru<|Qq
   have hlong:=aLQ hc6;rw [AC hg (fun h=>htp h.1) hLL (by omega)];exact aE<|Sr<|Dd (bB lL)<|Dd (by exact aA rfl rfl kU rfl (GT (oB o) (1+2+2+2) L3 true (by have:=hl3;omega)))<|Dd aP<|Dd aP<|Zz<|aC<|Ru<|Qq
  exact absurd hk (aLQ hc2)
 have hsz:cV o.refs≤24*o.refs.length:=pB (fun s hs=>eF (BE hg s hs));have hjl:=lJ o.refs;obtain ⟨J,hJ⟩:∃ J:ByteArray,J=⟨(cH [32] (bs o.refs)).toArray⟩:=⟨_,rfl⟩;have hj:∀ H,aH Tryz.prog 168 [.pv (aU o.refs),sv ⟨#[32]⟩] H (fun x H'=>x=sv J∧H'=H):=fun H=>by
  rw [hJ];exact qF o.refs ⟨#[32]⟩ H (by decide) (by show 1*_+_+_ < _;omega)
 have hJl:J.data.toList=cH [32] (bs o.refs):=by rw [hJ]
 obtain ⟨L3,hL3⟩:∃ L,L=L1++32::((⟨#[40]⟩:ByteArray)++J++⟨#[41]⟩).data.toList:=⟨_,rfl⟩;have hQ:((⟨#[40]⟩:ByteArray)++J++⟨#[41]⟩).data.toList=40::(cH [32] (bs o.refs)++[41]):=by rw [← hJl];simp
 have hQs:((⟨#[40]⟩:ByteArray)++J++⟨#[41]⟩).size≤60000:=by rw [← aY,hQ,aLV,aLU,List.length_singleton];omega
 have hJs:J.size≤52000:=by rw [← aY,hJl];omega
 have h40:(⟨#[40]⟩:ByteArray).size=1:=rfl;have h41:(⟨#[41]⟩:ByteArray).size=1:=rfl;have hAs:((⟨#[40]⟩:ByteArray)++J).size=1+J.size:=by rw [ByteArray.size_append,h40]
 have hn3:L3≠[]:=by rw [hL3];simp
 have hl3:L3.length≤200000:=by rw [hL3,aLU,aLV,aY];omega
 have p3:=ZP (oB o) (1+2) L1 ((⟨#[40]⟩:ByteArray)++J++⟨#[41]⟩) hn1 (by omega);rw [← hL3] at p3;have hH:sQ o=L3:=by
  rw [sQ,aLR hk,hL3,hL1,hQ];simp
 refine Rg<|Dd (bB gG)<|Dd (bK isAgg3)<|Dd cY<|Zz ?_;refine Cn ?_ ?_<;>intro hc7
 ·exact absurd (aLP hc7) hk
 refine Rg<|Dd (bB gF)<|Dd (bK aJ)<|Dd (by exact aA rfl rfl mN rfl (hj _))<|Dd (by exact gR rfl rfl rfl (by omega) rfl)<|Dd (by exact gR rfl rfl rfl (by omega) rfl)<|Dd (by exact aA rfl rfl tV rfl (p3))<|Zz<|Sq<|Sr<|Dd (bB fK)<|Dd (bK cU)<|Dd (fY cM)<|Dd mI<|Zz ?_;refine Cn ?_ ?_<;>intro hc8
 ·have htp:0 < o.tags.length:=by have:=aLP hc8;rw [aLT] at this;omega
  refine Sr<|Dd (bB fK)<|Dd (bK cU)<|Dd (by exact aA rfl rfl call241 rfl (ME o.tags _ ho.2.1))<|Dd aF<|Dd dV<|Dd dV<|Dd aP<|Dd aP<|Zz<|Sq<|Sr<|Dd aF<|Dd uL<|Zz ?_;refine Cn ?_ ?_<;>intro hc9
  ·have hte:(gA o.tags).2≠0:=by have hq:=hc9;rw [aLc,aL1] at hq;exact hq
   rw [M1 hg ⟨htp,hte⟩];exact Sr<|Dd aF<|Dd aP<|Dd aP<|Zz<|aC<|Ru<|Qq
  have hte:(gA o.tags).2=0:=by have hq:=hc9;rw [Bool.not_eq_false',aL0] at hq;exact hq
  have hlen2:(L3++32::(gA o.tags).1.data.toList).length≤300000:=by have:=hl3;have:=(qR htp hte).2;rw [aLU,aLV,aY];omega
  have hLL:vY o=L3++32::(gA o.tags).1.data.toList:=by rw [(qR htp hte).1,vY,hH]
  refine aE<|Rg<|Dd aF<|Dd (by exact aA rfl rfl tV rfl (ZP (oB o) (1+2+2) L3 (gA o.tags).1 hn3 (by have:=hl3;have:=(qR htp hte).2;omega)))<|Zz<|Sq<|Sr<|Dd (bB lL)<|Dd (by exact aA rfl rfl tX rfl (HA (oB o) ((1+2+2)+2) (L3++32::(gA o.tags).1.data.toList) true))<|Dd mI<|Zz ?_;refine Cn ?_ ?_<;>intro hc10
  ·have hlong:=aLP hc10;rw [AB hg (fun h=>h.2 hte) hLL (by omega)];exact Sr<|Dd aP<|Dd aP<|Zz<|aC<|Ru<|Qq
  have hlong:=aLQ hc10;rw [AC hg (fun h=>h.2 hte) hLL (by omega)];exact aE<|Sr<|Dd (bB lL)<|Dd (by exact aA rfl rfl kU rfl (GT (oB o) ((1+2+2)+2) (L3++32::(gA o.tags).1.data.toList) true (by have:=hlen2;omega)))<|Dd aP<|Dd aP<|Zz<|aC<|Ru<|Qq
 have htp:¬ 0 < o.tags.length:=by have:=aLQ hc8;rw [aLT] at this;omega
 have hLL:vY o=L3:=by rw [vY,hH,List.length_eq_zero_iff.1 (by omega:o.tags.length=0)];exact List.append_nil _
 refine aE<|Sq<|Sr<|Dd (bB lL)<|Dd (by exact aA rfl rfl tX rfl (HA (oB o) (1+2+2) L3 true))<|Dd mI<|Zz ?_;refine Cn ?_ ?_<;>intro hc11
 ·have hlong:=aLP hc11;rw [AB hg (fun h=>htp h.1) hLL (by omega)];exact Sr<|Dd aP<|Dd aP<|Zz<|aC<|Ru<|Qq
 have hlong:=aLQ hc11;rw [AC hg (fun h=>htp h.1) hLL (by omega)];exact aE<|Sr<|Dd (bB lL)<|Dd (by exact aA rfl rfl kU rfl (GT (oB o) (1+2+2) L3 true (by have:=hl3;omega)))<|Dd aP<|Dd aP<|Zz<|aC<|Ru<|Qq
theorem nZ:∀ {l:List (List UInt8)} {w:List UInt8},(32:UInt8)∉w→(∀ x∈l,(32:UInt8)∉x)→eE 32 (cH [32] (w::l))=w::l
 | [],w,h,_=>by rw [cH,List.flatMap_nil,List.append_nil];exact oZ h
 | a::l,w,h,hl=>by
  have e:cH [32] (w::a::l)=w++32::cH [32] (a::l):=by rw [cH,List.flatMap_cons,cH];simp
  rw [e,kW h,nZ (hl a List.mem_cons_self) fun x hx=>hl x (List.mem_cons_of_mem _ hx)]
theorem JL:∀ l:List UInt8,cH [32] (eE 32 l)=l
 | []=>rfl
 | b::l=>by
  have ih:=JL l;have hp:=vO 32 l;rw [eE];cases e:eE 32 l with
  | nil=>rw [e] at hp;exact absurd hp (Nat.lt_irrefl 0)
  | cons x r =>
   rw [e,cH] at ih;by_cases h:b=32
   ·rw [aLS h,cH,List.flatMap_cons,List.nil_append,List.append_assoc,ih,h];rfl
   rw [aLR h,cH,List.headD_cons,List.tail_cons,List.cons_append,ih]
theorem M3 {x:Int} (h:0≤x) (h2:x < 1000000000000000000):LI (Lib.itoa x)=x:=by rw [LI,wT h h2]
theorem aHl (l:List ByteArray):(bs l).map ofL=l:=by rw [bs,List.map_map];exact(List.map_congr_left fun s _=>jS s).trans (List.map_id _)
theorem SP:∀ l:List UInt8,(l.flatMap nJ).length≤2*l.length
 | []=>aLZ _
 | b::l=>by
  have ih:=SP l;have h:(nJ b).length≤2:=by
   rw [nJ]
   split
   ·exact aLZ _
   split
   ·exact aLZ _
   exact Nat.le_succ _
  rw [List.flatMap_cons,aLU,aLV];omega
theorem aAB {v:ByteArray} (hv:v.size≤200):(gP (ofL (dT v.data.toList))).1=[⟨3,v,0,0⟩]:=by
 have h0:(ofL (dT v.data.toList)).data.toList.drop 0=dT v.data.toList++[]:=by rw [dW,List.append_nil];rfl
 have hl:(dT v.data.toList).length≤402:=by
  have:=SP v.data.toList;rw [aY] at this;rw [dT,aLV,aLU,List.length_singleton];omega
 have hq:0 < (dT v.data.toList).length:=by rw [dT,aLV];omega
 have hT:=DQ (Q2 h0) rfl (rK h0 hq) hq (all_nil (gV h0));rw [gP,aLR (by rw [fU];omega),hT _ (by rw [fU,List.append_nil];exact Nat.le_succ _),ET _ [] (by intro f hf;rw [aLW] at hf;subst hf;rfl) (by simp)];rfl
theorem wI {w:List UInt8} {r:List (List UInt8)}:(w::r).headD []=w:=rfl
theorem MP {e:GEdit} (hv:fJ e=true) (he:iP e=0):gU (fL e)=e∧(10:UInt8)∉fL e:=by
 obtain ⟨⟨o1,o7⟩,hok,hx⟩:=wL.1 hv;rw [iP] at he;by_cases p1:e.op=1
 ·rw [aLS p1] at he;obtain ⟨hg,ht,_⟩:=XT he;have hp:=UX he;rw [GH,aLS p1,p1] at hx;rw [fL,aLS p1];constructor
  ·rw [gU,kW (by decide),wI,yH,aLS rfl];show (⟨1,sNil,sNil,sNil,0,0,sNil,sNil,[],(oQ (ofL (iF e.obj).1.data.toList)).1⟩:GEdit)=e;rw [jS,hp];exact hx
  rw [ht];intro h;rcases List.mem_append.1 h with h|h
  ·revert h;decide
  rcases aL5.1 h with h|h
  ·revert h;decide
  exact aHO hg h
 rw [uI,aLR p1,aL2] at hok;obtain ⟨hid,hok⟩:=hok;have i1:=oO hid;rw [fL,aLR p1];by_cases p2:e.op=2
 ·rw [aLS p2] at hok;have hxy:(0≤e.x∧e.x < 1048576)∧0≤e.y∧e.y < 1048576:=by
   rw [onP] at hok;simp only [aL2,aL0] at hok;omega
  rw [GH,aLR p1,aLS p2,p2] at hx;rw [iV,aLS p2];have n1:=HC hxy.1.1;have n2:=HC hxy.2.1;refine⟨?_,rM (by decide) ?_⟩
  ·rw [gU,nZ (by decide) (by intro w hw;simp only [aL5,aL9,or_false] at hw;rcases hw with rfl|rfl|rfl;all_goals first|exact i1.1|exact n1.1|exact n2.1),wI,yH,aLR (by decide),aLS ⟨rfl,rfl⟩];show (⟨2,ofL e.id.data.toList,sNil,sNil,LI (Lib.itoa e.x),LI (Lib.itoa e.y),sNil,sNil,[],zObj⟩:GEdit)=e;rw [jS,M3 hxy.1.1 (by omega),M3 hxy.2.1 (by omega)];exact hx
  intro w hw;simp only [aL5,aL9,or_false] at hw;rcases hw with rfl|rfl|rfl|rfl;all_goals first|exact(by decide)|exact i1.2|exact n1.2|exact n2.2
 by_cases p3:e.op=3
 ·rw [aLR p2,aLS p3,aL2,aL0] at hok;have k1:=oO hok.1;rw [GH,aLR p1,aLR p2,aLS p3,p3] at hx;rw [iV,aLR p2,aLS p3];refine⟨?_,rM (by decide) ?_⟩
  ·have hj:cH [32] [YX,e.id.data.toList,e.key.data.toList,dT e.val.data.toList]=YX++32::(e.id.data.toList++32::(e.key.data.toList++32::dT e.val.data.toList)):=by simp [cH]
   have hs:=vO 32 (dT e.val.data.toList);rw [hj,gU,kW (by decide),kW i1.1,kW k1.1,wI,yH,aLR (by decide),aLR (fun h=>absurd h.1 (by decide)),aLS ⟨rfl,by simp only [aLV];omega⟩];show (match (gP (ofL (cH [32] (eE 32 (dT e.val.data.toList))))).1 with
    | [f]=>(⟨3,ofL e.id.data.toList,sNil,sNil,0,0,ofL e.key.data.toList,f.text,[],zObj⟩:GEdit)
    | _=>SY)=e
   rw [JL,aAB (by omega),jS,jS];exact hx
  intro w hw;simp only [aL5,aL9,or_false] at hw;rcases hw with rfl|rfl|rfl|rfl;all_goals first|exact(by decide)|exact i1.2|exact k1.2|exact RK _
 by_cases p4:e.op=4
 ·rw [aLR p2,aLR p3,aLS p4,aL2,aL2,List.all_eq_true] at hok;have hr:=hok.2;rw [GH,aLR p1,aLR p2,aLR p3,aLS p4,p4] at hx;rw [iV,aLR p2,aLR p3,aLS p4];have hb:∀ (b:UInt8),(b=32∨b=10)→∀ w∈bs e.refs,b∉w:=by
   intro b hb w hw;obtain ⟨s,hs,rfl⟩:=List.mem_map.1 hw;have:=oO (hr s hs);rcases hb with rfl|rfl;all_goals first|exact this.1|exact this.2
  refine⟨?_,rM (by decide) ?_⟩
  ·rw [gU,nZ (by decide) (by intro w hw;rcases aL5.1 hw with rfl|hw;all_goals first|exact i1.1|exact hb 32 (.inl rfl) w hw),wI,yH,aLR (by decide),aLR (fun h=>absurd h.1 (by decide)),aLR (fun h=>absurd h.1 (by decide)),aLS ⟨rfl,by simp only [aLV];omega⟩];show (⟨4,ofL e.id.data.toList,sNil,sNil,0,0,sNil,sNil,(bs e.refs).map ofL,zObj⟩:GEdit)=e;rw [jS,aHl];exact hx
  intro w hw;rcases aL5.1 hw with rfl|hw
  ·decide
  rcases aL5.1 hw with rfl|hw;all_goals first|exact i1.2|exact hb 10 (.inr rfl) w hw
 by_cases p5:e.op=5
 ·rw [GH,aLR p1,aLR p2,aLR p3,aLR p4,aLS p5,p5] at hx;rw [iV,aLR p2,aLR p3,aLR p4,aLS p5];refine⟨?_,rM (by decide) ?_⟩
  ·rw [gU,nZ (by decide) (by intro w hw;rw [aLW] at hw;subst hw;exact i1.1),wI,yH,aLR (by decide),aLR (fun h=>absurd h.1 (by decide)),aLR (fun h=>absurd h.1 (by decide)),aLR (fun h=>absurd h.1 (by decide)),aLS ⟨rfl,rfl⟩];show (⟨5,ofL e.id.data.toList,sNil,sNil,0,0,sNil,sNil,[],zObj⟩:GEdit)=e;rw [jS];exact hx
  intro w hw;simp only [aL5,aL9,or_false] at hw;rcases hw with rfl|rfl;all_goals first|exact(by decide)|exact i1.2
 by_cases p6:e.op=6
 ·rw [aLR p2,aLR p3,aLR p4,aLR p5,aLS p6,aL2] at hok;have k1:=oO hok.1;have k2:=oO hok.2;rw [GH,aLR p1,aLR p2,aLR p3,aLR p4,aLR p5,aLS p6,p6] at hx;rw [iV,aLR p2,aLR p3,aLR p4,aLR p5,aLS p6];refine⟨?_,rM (by decide) ?_⟩
  ·rw [gU,nZ (by decide) (by intro w hw;simp only [aL5,aL9,or_false] at hw;rcases hw with rfl|rfl|rfl;all_goals first|exact i1.1|exact k1.1|exact k2.1),wI,yH,aLR (by decide),aLR (fun h=>absurd h.1 (by decide)),aLR (fun h=>absurd h.1 (by decide)),aLR (fun h=>absurd h.1 (by decide)),aLR (fun h=>absurd h.1 (by decide)),aLS ⟨rfl,rfl⟩];show (⟨6,ofL e.id.data.toList,ofL e.other.data.toList,ofL e.node.data.toList,0,0,sNil,sNil,[],zObj⟩:GEdit)=e;rw [jS,jS,jS];exact hx
  intro w hw;simp only [aL5,aL9,or_false] at hw;rcases hw with rfl|rfl|rfl|rfl;all_goals first|exact(by decide)|exact i1.2|exact k1.2|exact k2.2
 have p7:e.op=7:=by omega
 rw [aLR p2,aLR p3,aLR p4,aLR p5,aLR p6] at hok;have k2:=oO hok;rw [GH,aLR p1,aLR p2,aLR p3,aLR p4,aLR p5,aLR p6,p7] at hx;rw [iV,aLR p2,aLR p3,aLR p4,aLR p5,aLR p6];refine⟨?_,rM (by decide) ?_⟩
 ·rw [gU,nZ (by decide) (by intro w hw;simp only [aL5,aL9,or_false] at hw;rcases hw with rfl|rfl;all_goals first|exact i1.1|exact k2.1),wI,yH,aLR (by decide),aLR (fun h=>absurd h.1 (by decide)),aLR (fun h=>absurd h.1 (by decide)),aLR (fun h=>absurd h.1 (by decide)),aLR (fun h=>absurd h.1 (by decide)),aLR (fun h=>absurd h.1 (by decide)),aLS ⟨rfl,rfl⟩];show (⟨7,ofL e.id.data.toList,ofL e.other.data.toList,sNil,0,0,sNil,sNil,[],zObj⟩:GEdit)=e;rw [jS,jS];exact hx
 intro w hw;simp only [aL5,aL9,or_false] at hw;rcases hw with rfl|rfl|rfl;all_goals first|exact(by decide)|exact i1.2|exact k2.2
end Go.Proofs.YtiifmppaejpemaaGreatDoor
namespace Go.Abs
section
section
variable {P:Program} {H:aB}
theorem aAL (s:ByteArray) (c:Int):aFs P Extern.BytealgCount.count H [.pv (.str s),.pv (.int .u8 c)] (.pv (.int .i64 ((Lib.countByte s.data.toList c.toNat.toUInt8:Nat):Int))):=by intro w I ι cs hl h;obtain ⟨u,v,rfl,h1,h2⟩:=QW hl h;rw [h1.str_inv,h2.int_inv];exact⟨_,Lib.run_countString s c w,.pv (.int _ _)⟩
end
end
end Go.Abs
namespace Go.Proofs.YtiifmppaejpemaaGreatDoor
open Go.Proofs.Tryz
open Go.Abs
abbrev sSp:ByteArray:=⟨#[32]⟩
theorem MK (s:ByteArray) (H:aB):aH Tryz.prog 195 [sv s,sv sSp] H (fun r H'=>r=iv (Lib.indexByte s.data.toList 32)∧H'=H):=by
 refine Pu ?_;refine Bd func195 rfl ntmps195<|Sr<|Dd aP<|Zz<|Sr<|Dd aF<|Dd (nT underlying9)<|Dd aP<|Zz<|Sq<|aG<|Sq ?_;refine bD (t:=16) (n:=9) (X:=decide (sSp=s)) ?_ ?_
 ·all_goals refine Dd aF ?_
  all_goals refine Dd cY<|Dm ?_
  all_goals refine Sp 19 (fun h19=>?_) fun h19=>?_
  all_goals try contradiction
  all_goals refine On aF<|On aF<|On zZ<|Dd cE<|Da ?_
  all_goals(exact⟨⟨_,rfl,by rfl⟩,rfl,rfl,rfl⟩)
 refine Cn ?_ ?_<;>intro hc1
 ·have hs:=aLP hc1;subst hs;exact Sr<|Dd aP<|Zz<|aC<|Rt<|Qq
 refine Sr<|Dd aF<|Dd cY<|Da ?_;refine Cn ?_ ?_<;>intro hc2
 ·exact Sr<|Dd aF<|Dd aF<|Dd (by exact eI rfl underlying9 rfl rfl (by omega) (by exact aL4 _) (show 0 < (⟨#[32]⟩:ByteArray).size from Nat.zero_lt_one) rfl)<|Dd (by exact aA rfl rfl aKq rfl (sZ s 32 _))<|Dd aP<|Zz<|aC<|Rt<|Qq
 cases hc2
theorem aFH (s:ByteArray) (H:aB):aH Tryz.prog 235 [sv s,sv sSp] H (fun r H'=>r=iv (Lib.indexByte s.data.toList 32)∧H'=H):=by refine Pu ?_;exact Bd func235 rfl ntmps235<|Sr<|Dd aP<|Zz<|Sr<|Dd aF<|Dd aF<|Dd (by exact aA rfl rfl KH rfl (MK s _))<|Dd aP<|Zz<|aC<|Rt<|Qq
def S4 (s:ByteArray):AV:=if Lib.indexByte s.data.toList 32 = -1 then .tup [sv s,sv ⟨#[]⟩,bv false] else .tup [sv (s.extract 0 (Lib.indexByte s.data.toList 32).toNat),sv (s.extract ((Lib.indexByte s.data.toList 32).toNat+1) s.size),bv true]
theorem aEG (s:ByteArray) (H:aB) (hs:s.size < 1099511627776):aH Tryz.prog 160 [sv s,sv sSp] H (fun r H'=>r=S4 s∧H'=H):=by
 refine Pu ?_;have hI:=fun H=>MK s H;rw [S4];rcases Classical.em (Lib.indexByte s.data.toList 32 = -1)with h1|h1
 ·rw [aLS h1];simp only [h1] at hI;refine Bd aAg rfl TS<|Sr<|Dd aP<|Dd aP<|Dd aP<|Zz<|Sq<|Sr<|Dd aF<|Dd aF<|Dd (by exact aA rfl rfl KH rfl (hI _))<|Dd aP<|Zz<|Sr<|Dd aF<|Dd JR<|Zz ?_;refine Cn ?_ ?_<;>intro hc1
  ·cases hc1
  refine aE<|Sr<|Dd aF<|Dd aP<|Dd aP<|Dd aP<|Zz<|aC ?_;refine xL (H':=[]) (.inr rfl) rfl (aT rfl) (aT rfl) (aT rfl) (Fin.wk (by simp) trivial trivial) ?_;exact Qq
 rw [aLR h1];obtain ⟨w,r,e1,e2,e3⟩:=rP h1;simp only [e3] at hI;rw [e3,aL4];have hl:w.length+1+r.length=s.size:=by rw [← show s.data.toList.length=s.size by simp,e1,aLU,aLV];omega
 refine Bd aAg rfl TS<|Sr<|Dd aP<|Dd aP<|Dd aP<|Zz<|Sq<|Sr<|Dd aF<|Dd aF<|Dd (by exact aA rfl rfl KH rfl (hI _))<|Dd aP<|Zz<|Sr<|Dd aF<|Dd JR<|Zz ?_;refine Cn ?_ ?_<;>intro hc1
 ·refine Sq<|aQ follows<|Cq aF<|Cq aF<|Cq (by exact cK (l:=0) (h:=(w.length)) rfl underlying9 rfl rfl rfl (by omega) (by omega) rfl)<|Cq aF<|Cq aF<|Cq aF<|Cq (nT underlying9)<|Cq (by exact cA rfl rfl rfl (show IntKind.i64.wrap ((w.length:Int)+1)=((w.length+1:Nat):Int)by rw [IntKind.wrap_i64];omega))<|Cq (by exact cK (l:=(w.length+1)) (h:=s.size) rfl underlying9 rfl rfl rfl (by omega) (by omega) rfl)<|Cq aP<|Cq aP<|Cq aP<|bJ<|Kr<|aC ?_;refine xL (H':=[]) (.inr rfl) rfl (aT rfl) (aT rfl) (aT rfl) (Fin.wk (by simp) trivial trivial) ?_;exact Qq
 have hx:=aLQ hc1;omega
theorem aJa (s:ByteArray) (H:aB) (hs:s.size < 1099511627776):aH Tryz.prog 117 [sv s,sv sSp] H (fun r H'=>r=S4 s∧H'=H):=by
 refine Pu ?_;have hC:=fun H=>aEG s H hs;rw [S4] at *;rcases Classical.em (Lib.indexByte s.data.toList 32 = -1)with h1|h1
 ·simp only [S4,aLS h1] at hC ⊢;refine Bd aAi rfl TU<|Sr<|Dd aP<|Dd aP<|Dd aP<|Zz<|Sr<|Dd aF<|Dd aF<|Dd (by exact aA rfl rfl aAl rfl (hC _))<|Dd dV<|Dd dV<|Dd dV<|Dd aP<|Dd aP<|Dd aP<|Zz<|aC ?_;refine xL (H':=[]) (.inr rfl) rfl (aT rfl) (aT rfl) (aT rfl) (Fin.wk (by simp) trivial trivial) ?_;exact Qq
 simp only [S4,aLR h1] at hC ⊢;refine Bd aAi rfl TU<|Sr<|Dd aP<|Dd aP<|Dd aP<|Zz<|Sr<|Dd aF<|Dd aF<|Dd (by exact aA rfl rfl aAl rfl (hC _))<|Dd dV<|Dd dV<|Dd dV<|Dd aP<|Dd aP<|Dd aP<|Zz<|aC ?_;refine xL (H':=[]) (.inr rfl) rfl (aT rfl) (aT rfl) (aT rfl) (Fin.wk (by simp) trivial trivial) ?_;exact Qq
abbrev sNl:ByteArray:=⟨#[10]⟩
def wQ (s:ByteArray):Bool:=decide ((1:Int)≤(s.size:Int))&&decide (s.extract (s.size - 1) s.size=sNl)
def yB (s:ByteArray):ByteArray:=if wQ s then s.extract 0 (s.size - 1)else s
theorem SH (s:ByteArray) (H:aB) (hs:s.size < 1099511627776):aH Tryz.prog 206 [sv s,sv sNl] H (fun r H'=>r=bv (wQ s)∧H'=H):=by
 refine Pu ?_;refine Bd func206 rfl ntmps206<|Sr<|Dd aP<|Zz<|Sq ?_;refine bD (t:=4) (n:=18) (X:=wQ s) ?_ ?_
 ·all_goals refine Dd aF ?_
  all_goals refine Dd (nT underlying9)<|Dd aF<|Dd (nT underlying9)<|Dd JR<|Dm ?_
  all_goals refine Sp 10 (fun h10=>?_) fun h10=>?_
  all_goals try contradiction
  all_goals first|refine Fo<|Fo<|Fo<|Fo<|Fo<|Fo<|Fo<|Fo<|Fo ?_|refine On aF<|On aF<|On (nT underlying9)<|On aF<|On (nT underlying9)<|On (by exact eB rfl rfl rfl (show IntKind.i64.wrap ((s.size:Int) - 1)=((s.size - 1:Nat):Int)by have h11:(1:Int)≤(s.size:Int):=aLP h10;rw [IntKind.wrap_i64];omega))<|On (by exact cK (l:=(s.size - 1)) (h:=s.size) rfl underlying9 rfl rfl rfl (by omega) (by omega) rfl)<|On aF<|On zZ ?_
  all_goals refine Dd cE<|Da ?_
  all_goals(exact⟨⟨_,rfl,by(simp only [wQ];rw [show decide ((1:Int)≤(s.size:Int))=_ from h10];rfl)⟩,rfl,rfl,rfl⟩)
 exact aC<|Rt<|Qq
theorem aBT (s:ByteArray) (H:aB) (hs:s.size < 1099511627776):aH Tryz.prog 169 [sv s,sv sNl] H (fun r H'=>r=sv (yB s)∧H'=H):=by
 refine Pu ?_;refine Bd func169 rfl ntmps169<|Sr<|Dd aP<|Zz<|Sq<|Sr<|Dd aF<|Dd aF<|Dd (by exact aA rfl rfl call206 rfl (SH s _ hs))<|Zz ?_;refine Cn ?_ ?_<;>intro hc1
 ·have h1:1≤s.size:=by
   have h:=hc1;rw [wQ,aL2,aL0] at h;omega
  rw [yB,aLS hc1];exact Sr<|Dd aF<|Dd aF<|Dd (nT underlying9)<|Dd aF<|Dd (nT underlying9)<|Dd (by exact eB rfl rfl rfl (show IntKind.i64.wrap ((s.size:Int) - 1)=((s.size - 1:Nat):Int)by rw [IntKind.wrap_i64];omega))<|Dd (by exact cK (l:=0) (h:=(s.size - 1)) rfl underlying9 rfl rfl rfl (by omega) (by omega) rfl)<|Dd aP<|Zz<|aC<|Rt<|Qq
 rw [yB,aLR (by rw [hc1];decide)];exact aE<|Sr<|Dd aF<|Dd aP<|Zz<|aC<|Rt<|Qq
theorem T5 (s:ByteArray) (H:aB) (hs:s.size < 1099511627776):aH Tryz.prog 121 [sv s,sv sNl] H (fun r H'=>r=sv (yB s)∧H'=H):=by refine Pu ?_;exact Bd func121 rfl ntmps121<|Sr<|Dd aP<|Zz<|Sr<|Dd aF<|Dd aF<|Dd (by exact aA rfl rfl call169 rfl (aBT s _ hs))<|Dd aP<|Zz<|aC<|Rt<|Qq
theorem aF1 (s:ByteArray) (H:aB):aH Tryz.prog 234 [sv s,sv sSp] H (fun r H'=>r=iv ((s.data.toList.count 32:Nat):Int)∧H'=H):=by
 refine Pu ?_;refine Bd func234 rfl ntmps234<|Sr<|Dd aP<|Zz<|Sq<|Sr<|Dd aF<|Dd (nT underlying9)<|Dd cY<|Zz ?_;refine Cn ?_ ?_<;>intro hc1
 ·cases hc1
 refine aE<|Sq<|Sr<|Dd aF<|Dd (nT underlying9)<|Dd cY<|Zz ?_;refine Cn ?_ ?_<;>intro hc2
 ·exact Sr<|Dd aF<|Dd aF<|Dd (by exact eI rfl underlying9 rfl rfl (by omega) (by exact aL4 _) (show 0 < (⟨#[32]⟩:ByteArray).size from Nat.zero_lt_one) rfl)<|Dd (by exact G5 rfl rfl func264 rfl rfl rfl rfl rfl (aAL s 32))<|Dd aP<|Zz<|aC<|Rt<|Qq
 cases hc2
def ofY (l:List UInt8):ByteArray:=⟨l.toArray⟩
def cX (s:ByteArray):List ByteArray:=(eE 32 s.data.toList).map ofY
def vP (D:List ByteArray) (m:Nat):List (List AV):=D.map (fun e=>(encStr e).map AV.pv)++List.replicate m [sv ⟨#[]⟩]
theorem MI (D:List ByteArray) (m:Nat):(vP D (m+1))[D.length]?=some [sv ⟨#[]⟩]:=by rw [vP,List.getElem?_append_right (by rw [aLT];exact aLZ _),aLT,Nat.sub_self];rfl
theorem UF {s:ByteArray} (h:(cX s).length=1):cX s=[s]:=by rw [cX,aLT,qX] at h;have h0:(32:UInt8)∉s.data.toList:=List.count_eq_zero.1 (by omega);rw [cX,oZ h0];rfl
theorem IC (D:List ByteArray) (m:Nat) (x:ByteArray):(vP D (m+1)).set D.length [sv x]=vP (D++[x]) m:=by unfold vP;rw [List.set_append_right _ _ (by rw [aLT];exact aLZ _),aLT,Nat.sub_self,List.map_append,List.append_assoc];rfl
theorem ID (H:aB) (D:List ByteArray) (m:Nat):∀ r∈vP D m,∀ a∈r,Clo H a:=by
 intro r hr a ha;rcases List.mem_append.1 hr with hr|hr
 ·obtain ⟨d,_,rfl⟩:=List.mem_map.1 hr;obtain ⟨p,_,rfl⟩:=List.mem_map.1 ha;simp
 rw [List.eq_of_mem_replicate hr,aLW] at ha;subst ha;simp
theorem exL (s:ByteArray) (i j:Nat):(s.extract i j).data.toList=(s.data.toList.drop i).take (j - i):=by rw [ByteArray.data_extract,Array.toList_extract,List.extract_eq_take_drop]
theorem eqL {a b:ByteArray} (h:a.data.toList=b.data.toList):a=b:=by cases a;cases b;simp_all [Array.toList_inj]
theorem aCD {s:ByteArray} {w r:List UInt8} (h:s.data.toList=w++32::r):s.extract 0 w.length=ofY w∧(s.extract (w.length+1) s.size).data.toList=r:=by
 have hl:s.size=w.length+1+r.length:=by
  show s.data.size=_;rw [← Array.length_toList,h,aLU,aLV];omega
 constructor
 ·refine eqL ?_;rw [exL,List.drop_zero,Nat.sub_zero,h,List.take_left];simp [ofY]
 rw [exL,h,hl,show w++32::r=(w++[32])++r by simp,show w.length+1=(w++[(32:UInt8)]).length by simp,List.drop_left];exact List.take_of_length_le (by omega)
theorem aKd {H1:aB} {id g n:Nat} {ob:Ob} (ps:List (List PV)) (hH:H1.get id=some ob) (hg:ob.g=g) (hps:ob.rows=ps.map (·.map .pv)) (hn:ps.length=n):Fin [] H1 (.osl id g 0 n) [] (.pv (.sl ps)):=by subst hg hn;exact Fin.fz (id:=id) (ob:=ob) ps hH hps (.osl (by rw [aLb,List.drop_zero,List.take_length])) rfl trivial trivial
theorem VT (s0:ByteArray) (H:aB) (hs:s0.size < 1099511627776):aH Tryz.prog 201 [sv s0,sv sSp,iv 0,iv (-1)] H (fun r H'=>r=.pv (aU (cX s0))∧H'=H):=by
 refine Pu ?_;obtain ⟨N,hN⟩:∃ N,N=s0.data.toList.count 32:=⟨_,rfl⟩;have hNs:N≤s0.size:=by rw [hN];exact Nat.le_trans List.count_le_length (by simp)
 have hC:=fun H=>aF1 s0 H;rw [← hN] at hC;have hlen:(eE 32 s0.data.toList).length=N+1:=by rw [qX,hN]
 refine Bd func201 rfl ntmps201<|Sr<|Dd aP<|Zz<|Sq<|Sr<|Dd aF<|Dd cY<|Zz ?_;refine Cn ?_ ?_<;>intro hc1
 ·cases hc1
 refine aE<|Sq<|Sr<|Dd aF<|Dd zZ<|Zz ?_;refine Cn ?_ ?_<;>intro hc2
 ·have:=aLP hc2;cases this
 refine aE<|Sq<|Sr<|Dd aF<|Dd dK<|Zz ?_;refine Cn ?_ ?_<;>intro hc3
 ·refine Rg<|Dd aF<|Dd aF<|Dd (by exact aA rfl rfl call234 rfl (hC _))<|Dd (by exact cA rfl rfl rfl (show IntKind.i64.wrap ((N:Int)+1)=((N+1:Nat):Int)by rw [IntKind.wrap_i64];omega))<|Dd aP<|Zz<|Sr<|Dd aF<|Dd aF<|Dd (nT underlying9)<|Dd (by exact cA rfl rfl rfl (show IntKind.i64.wrap ((s0.size:Int)+1)=((s0.size+1:Nat):Int)by rw [IntKind.wrap_i64];omega))<|Dd (by exact GZ (r:=((N+1:Nat):Int)) rfl rfl rfl (by omega))<|Dd aP<|Zz<|Sr<|Dd aF<|Dd (by exact FN (id:=31) rfl cP TQ zo9 rfl rfl rfl (by omega) (by omega) (by exact aL4 _) (by exact aL4 _) (by omega) rfl)<|Dd aP<|Zz<|Sr<|Dd aF<|Dd (by exact eB rfl rfl rfl (show IntKind.i64.wrap (((N+1:Nat):Int) - 1)=(N:Int)by rw [IntKind.wrap_i64];omega))<|Dd aP<|Zz<|Sr<|Dd aP<|Zz<|Sq<|aG ?_;refine jB (fun(D:List ByteArray) (rest:ByteArray)=>([(0,sv rest),(1,sv sSp),(2,iv 0),(3,iv (N:Int)),(8,.pv (.sl [])),(9,.osl 31 0 0 (N+1)),(10,iv (D.length:Int))],[(31,⟨0,1,9,vP D (N+1 - D.length)⟩)])) (fun D rest=>cX s0=D++cX rest∧rest.size≤s0.size) (fun D rest=>N - D.length) [] s0 ⟨rfl,aLZ _⟩ ?_ ?_
  ·exact(cD.wk (Eb<|Eb<|Eb<|Eb<|Eb<|Ea<|Eb<|trivial) (Hc (ID _ _ _)<|trivial) trivial)
  rintro D rest ⟨hD,hr⟩;have hln:D.length+(cX rest).length=N+1:=by
   have:=congrArg List.length hD;rw [aLU,cX,aLT,hlen] at this;exact this.symm
  have hpos:0 < (cX rest).length:=by rw [cX,aLT];exact vO _ _
  obtain ⟨m,hm⟩:∃ m,N+1 - D.length=m+1:=⟨N - D.length,by omega⟩;have hI:=fun H=>aFH rest H;rw [hm];rcases Nat.lt_or_ge D.length N with hlt|hge
  ·have h1:Lib.indexByte rest.data.toList 32 ≠ -1:=fun h=>by
    have h2:=oZ (rO.1 h);rw [cX,h2] at hln;have:D.length+1=N+1:=hln;omega
   obtain ⟨w,r,e1,e2,e3⟩:=rP h1;obtain ⟨x1,x2⟩:=aCD e1;have hl:w.length+1+r.length=rest.size:=by rw [← show rest.data.toList.length=rest.size by simp,e1,aLU,aLV];omega
   have hsp:cX rest=rest.extract 0 w.length::cX (rest.extract (w.length+1) rest.size):=by
    rw [cX,e1,kW e2,List.map_cons,x1,cX,x2]
   simp only [e3] at hI;refine Sq<|Sr<|Dd aF<|Dd aF<|Dd dK<|Zz ?_;refine Cn ?_ ?_<;>intro hc4
   ·refine aE<|aG<|Sr<|Dd aF<|Dd aF<|Dd (by exact aA rfl rfl call235 rfl (hI _))<|Dd aP<|Zz<|Sq<|Sr<|Dd aF<|Dd dK<|Zz ?_;refine Cn ?_ ?_<;>intro hc5
    ·have:=aLP hc5;omega
    refine aE<|Sr<|Dd aF<|Dd aF<|Dd aF<|Dd aF<|Dd aF<|Dd (by exact cA rfl rfl rfl (show IntKind.i64.wrap ((w.length:Int)+0)=(w.length:Int)by rw [IntKind.wrap_i64];omega))<|Dd (by exact cK (l:=0) (h:=w.length) rfl underlying9 rfl rfl rfl (by omega) (by omega) rfl)<|Dd (by exact dI rfl cP rfl rfl rfl rfl rfl (by omega) (by exact aL4 _) (by omega) (aLb _))<|Uu (by exact bA rfl sizeOf9 rfl rfl rfl rfl rfl (MI D m) Nat.zero_lt_one rfl (IC D m _))<|Zz<|Sr<|Dd aF<|Dd aF<|Dd aF<|Dd (nT underlying9)<|Dd (by exact cA rfl rfl rfl (show IntKind.i64.wrap ((w.length:Int)+1)=((w.length+1:Nat):Int)by rw [IntKind.wrap_i64];omega))<|Dd (by exact cK (l:=(w.length+1)) (h:=rest.size) rfl underlying9 rfl rfl rfl (by omega) (by omega) rfl)<|Dd aP<|Zz<|Rg<|Dm ?_;refine Dd (by exact cA rfl rfl rfl (show IntKind.i64.wrap ((D.length:Int)+1)=((D.length+1:Nat):Int)by rw [IntKind.wrap_i64];omega))<|Da ?_;have e5:(D++[rest.extract 0 w.length]).length=D.length+1:=by simp
    have hsz:(rest.extract (w.length+1) rest.size).size≤s0.size:=by rw [← show (rest.extract (w.length+1) rest.size).data.toList.length=(rest.extract (w.length+1) rest.size).size by simp,x2];omega
    refine⟨D++[rest.extract 0 w.length],rest.extract (w.length+1) rest.size,⟨by rw [hD,hsp,List.append_assoc];rfl,hsz⟩,by rw [e5];omega,?_⟩;rw [e5,show N+1 - (D.length+1)=m by omega];exact(cD.wk (Eb<|Eb<|Eb<|Eb<|Eb<|Ea<|Eb<|trivial) (Hc (ID _ _ _)<|trivial) trivial)
   have:=aLQ hc4;omega
  have hDN:D.length=N:=by omega
  have hone:cX rest=[rest]:=UF (by omega);have hm0:m=0:=by omega
  subst hm0;refine Sq<|Sr<|Dd aF<|Dd aF<|Dd dK<|Zz ?_;refine Cn ?_ ?_<;>intro hc6
  ·have:=aLP hc6;omega
  refine bG<|Sr<|Dd aF<|Dd aF<|Dd aF<|Dd (by exact dI rfl cP rfl rfl rfl rfl rfl (by omega) (by exact aL4 _) (by omega) (aLb _))<|Uu (by exact bA rfl sizeOf9 rfl rfl rfl rfl rfl (MI D 0) Nat.zero_lt_one rfl (IC D 0 _))<|Zz<|Sr<|Dd aF<|Dd aF<|Dd (by exact cA rfl rfl rfl (show IntKind.i64.wrap ((D.length:Int)+1)=((D.length+1:Nat):Int)by rw [IntKind.wrap_i64];omega))<|Dd (by exact gH (l:=0) (h:=(D.length+1)) rfl cP rfl rfl rfl rfl rfl rfl (by omega) (by omega) rfl rfl)<|Dd aP<|Zz<|aC ?_;have hps:(D++[rest]).map encStr=(cX s0).map encStr:=by rw [hD,hone]
  refine dF (H':=[]) (.inr rfl) rfl (aT rfl) (aKd (id:=31) ((D++[rest]).map encStr) rfl rfl (by show vP (D++[rest]) 0=_;rw [vP,List.replicate_zero,List.append_nil,List.map_map];rfl) (by simp)) ⟨?_,rfl⟩;rw [aU,hps]
 cases hc3
theorem ZB (s:ByteArray) (H:aB) (hs:s.size < 1099511627776):aH Tryz.prog 164 [sv s,sv sSp] H (fun r H'=>r=.pv (aU (cX s))∧H'=H):=by refine Pu ?_;exact Bd func164 rfl ntmps164<|Sr<|Dd aP<|Zz<|Sr<|Dd aF<|Dd aF<|Dd (by exact aA rfl rfl call201 rfl (VT s _ hs))<|Dd aP<|Zz<|aC<|Rt<|Qq
def rL (t:ByteArray):ByteArray:=if Lib.indexByte t.data.toList 10 = -1 then t else t.extract 0 ((Lib.indexByte t.data.toList 10).toNat+1)
def FZ (t:ByteArray):ByteArray:=if Lib.indexByte t.data.toList 10 = -1 then⟨#[]⟩else t.extract ((Lib.indexByte t.data.toList 10).toNat+1) t.size
def eY (s:ByteArray):Nat→ByteArray
 | 0=>s
 | k+1=>FZ (eY s k)
def fG (s:ByteArray):List ByteArray:=(iU s.data.toList).map ofY
theorem aCC (s:ByteArray):ofY s.data.toList=s:=eqL (by simp [ofY])
theorem szY (s:ByteArray):s.data.toList.length=s.size:=by simp
theorem aC0 {t:ByteArray} (h:Lib.indexByte t.data.toList 10 ≠ -1):∃ w r,t.data.toList=w++10::r∧(10:UInt8)∉w∧Lib.indexByte t.data.toList 10=(w.length:Int)∧t.extract 0 (w.length+1)=ofY (w++[10])∧(t.extract (w.length+1) t.size).data.toList=r∧w.length+1+r.length=t.size:=by
 obtain ⟨w,r,e1,e2,e3⟩:=rP h;have hl:w.length+1+r.length=t.size:=by rw [← szY,e1,aLU,aLV];omega
 have e4:t.data.toList=(w++[10])++r:=by rw [e1];simp
 refine⟨w,r,e1,e2,e3,eqL ?_,?_,hl⟩
 ·rw [exL,List.drop_zero,Nat.sub_zero,e4,show w.length+1=(w++[(10:UInt8)]).length by simp,List.take_left];simp [ofY]
 rw [exL,e4,show w.length+1=(w++[(10:UInt8)]).length by simp,List.drop_left];exact List.take_of_length_le (by rw [aLU,List.length_singleton];omega)
theorem uQ {t:ByteArray} (h:¬ 0 < t.size):fG t=[]:=by have:t.data.toList=[]:=List.length_eq_zero_iff.1 (by rw [szY];omega);rw [fG,this];rfl
theorem wD {t:ByteArray} (h:0 < t.size):fG t=rL t::fG (FZ t)∧(FZ t).size≤t.size:=by
 rw [rL,FZ];by_cases h1:Lib.indexByte t.data.toList 10 = -1
 ·rw [aLS h1,aLS h1];refine⟨?_,aLa _⟩;rw [fG,F1 (rO.1 h1) (fun e=>by rw [← szY,e] at h;exact absurd h (Nat.lt_irrefl 0))];show [ofY t.data.toList]=_;rw [aCC];rfl
 rw [aLR h1,aLR h1];obtain ⟨w,r,e1,e2,e3,e4,e5,e6⟩:=aC0 h1;rw [e3,aL4,e4];refine⟨?_,by rw [← szY,e5];omega⟩;rw [fG,e1,BJ e2,List.map_cons,fG,e5]
theorem uF (s:ByteArray):∀ k,k≤(fG s).length→fG (eY s k)=(fG s).drop k∧(eY s k).size≤s.size
 | 0,_=>⟨rfl,aLZ _⟩
 | k+1,h=>by
  obtain ⟨i1,i2⟩:=uF s k (Nat.le_of_succ_le h);have hp:0 < (eY s k).size:=by
   rcases Nat.lt_or_ge 0 (eY s k).size with h1|h1
   ·exact h1
   have h2:=uQ (t:=eY s k) (by omega);rw [h2] at i1;have:=congrArg List.length i1;rw [aL8,List.length_nil] at this;omega
  obtain ⟨j1,j2⟩:=wD hp;rw [j1] at i1;refine⟨?_,Nat.le_trans j2 i2⟩;show fG (FZ (eY s k))=_;have:=congrArg List.tail i1;rw [List.tail_cons,List.tail_drop] at this;exact this
theorem aFB {s:ByteArray} {k:Nat} (h:k < (fG s).length):(fG s)[k]?=some (rL (eY s k))∧0 < (eY s k).size:=by
 obtain ⟨i1,i2⟩:=uF s k (Nat.le_of_lt h);have hp:0 < (eY s k).size:=by
  rcases Nat.lt_or_ge 0 (eY s k).size with h1|h1
  ·exact h1
  have h2:=uQ (t:=eY s k) (by omega);rw [h2] at i1;have:=congrArg List.length i1;rw [aL8,List.length_nil] at this;omega
 refine⟨?_,hp⟩;rw [(wD hp).1] at i1;have:=congrArg List.head? i1;rw [List.head?_cons,List.head?_drop] at this;exact this.symm
def lB (s:ByteArray):Ob:=bx 1 9 [sv s]
theorem aFA (s:ByteArray) (H:aB) (h1:H.get 933=none):aH Tryz.prog 119 [sv s] H (fun r H'=>r=.clo 163 [.ref 933 0 0 0]∧H'=(933,lB s)::H):=by refine Bd func119 rfl ntmps119<|Sr<|Dd (by exact bZ (id:=933) rfl rfl rfl rfl h1)<|Dd aP<|Zz<|Sr<|Dd (by exact eZ rfl rfl)<|Dd aP<|Zz<|aC ?_;refine dF (H':=((933,lB s)::H)) (.inr rfl) rfl (aT rfl) Fin.refl ?_;exact Qq
theorem aCP (s:ByteArray) (fv:AV) (Hs:Nat→aB) (hs:s.size < 1099511627776) (h1:∀ k,(Hs k).get 933=some (lB (eY s k)))
  (hy:∀ k,k < (fG s).length→cC Tryz.prog fv [sv (rL (eY s k))] ((933,lB (eY s (k+1)))::Hs k) (fun r H'=>r=bv true∧H'=Hs (k+1))) :
  aH Tryz.prog 163 [fv,.ref 933 0 0 0] (Hs 0) (fun r H'=>r=.tup []∧H'=Hs (fG s).length):=by
 refine Bd func163 rfl ntmps163<|aG ?_;refine bQ (σ:=Nat) (fun k=>([(0,fv),(1,.ref 933 0 0 0)],Hs k)) (fun k=>k≤(fG s).length) (fun k=>(fG s).length - k) 0 (aLa _) ?_ ?_
 ·exact E0
 rintro k hk;obtain ⟨i1,i2⟩:=uF s k hk;have hI:=fun H=>mV (eY s k) 10 H;have hnx:eY s (k+1)=FZ (eY s k):=rfl;refine Sq<|Sr<|Dd (by exact aK rfl isAgg9 rfl (h1 k) rfl rfl rfl)<|Dd (nT underlying9)<|Dd mI<|Zz ?_;refine Cn ?_ ?_<;>intro hc1
 ·have hp:0 < (eY s k).size:=by have:=aLP hc1;omega
  have hlt:k < (fG s).length:=by
   rcases Nat.lt_or_ge k (fG s).length with h|h
   ·exact h
   rw [(wD hp).1,List.drop_eq_nil_of_le h] at i1;cases i1
  have hyk:=hy k hlt;rw [hnx,FZ,rL] at hyk;rcases Classical.em (Lib.indexByte (eY s k).data.toList 10 = -1)with e0|e0
  ·rw [aLS e0,aLS e0] at hyk;have hI2:∀ H,aH Tryz.prog 150 [sv (eY s k),.pv (.int .u8 10)] H (fun r H'=>r=iv (-1)∧H'=H):=fun H=>by
    have:=hI H
    rwa [show Lib.indexByte (eY s k).data.toList ((10:Int).toNat.toUInt8) = -1 from e0] at this
   refine aE<|aG<|Sr<|Dd aP<|Zz<|Sq<|Sr<|Dd (by exact aK rfl isAgg9 rfl (h1 k) rfl rfl rfl)<|Dd (by exact aA rfl rfl tY rfl (hI2 _))<|Dd aP<|Zz<|Sr<|Dd aF<|Dd JR<|Zz ?_;refine Cn ?_ ?_<;>intro hc2
   ·cases hc2
   refine Rg<|Dd (by exact aK rfl isAgg9 rfl (h1 k) rfl rfl rfl)<|Dd aP<|Uu (by exact bT rfl sizeOf9 rfl rfl rfl rfl (h1 k) rfl rfl rfl)<|Zz<|Sr<|Dd aF<|Dd aF<|Dd (by exact bY rfl rfl rfl (hyk))<|Dd lI<|Zz ?_;refine Cn ?_ ?_<;>intro hc3
   ·cases hc3
   refine aE ?_;exact⟨k+1,by omega,by omega,E0⟩
  rw [aLR e0,aLR e0] at hyk;obtain ⟨w,r,e1,e2,e3,e4,e5,e6⟩:=aC0 e0;rw [e3,aL4] at hyk;have hI2:∀ H,aH Tryz.prog 150 [sv (eY s k),.pv (.int .u8 10)] H (fun r H'=>r=iv (w.length:Int)∧H'=H):=fun H=>by
   have:=hI H
   rwa [show Lib.indexByte (eY s k).data.toList ((10:Int).toNat.toUInt8)=(w.length:Int)from e3] at this
  refine aE<|aG<|Sr<|Dd aP<|Zz<|Sq<|Sr<|Dd (by exact aK rfl isAgg9 rfl (h1 k) rfl rfl rfl)<|Dd (by exact aA rfl rfl tY rfl (hI2 _))<|Dd aP<|Zz<|Sr<|Dd aF<|Dd JR<|Zz ?_;refine Cn ?_ ?_<;>intro hc4
  ·refine aQ follows<|Cr [933] (fun H1 hH=>by exact aK rfl isAgg9 rfl ((hH _ rfl).trans (h1 k)) rfl rfl rfl)<|Cr [] (fun _ _=>aF)<|Cr [] (fun H1 hH=>by exact cA rfl rfl rfl (show IntKind.i64.wrap ((w.length:Int)+1)=((w.length+1:Nat):Int)by rw [IntKind.wrap_i64];omega))<|Cr [] (fun H1 hH=>by exact cK (l:=0) (h:=(w.length+1)) rfl underlying9 rfl rfl rfl (by omega) (by omega) rfl)<|Cr [933] (fun H1 hH=>by exact aK rfl isAgg9 rfl ((hH _ rfl).trans (h1 k)) rfl rfl rfl)<|Cr [] (fun _ _=>aF)<|Cr [] (fun H1 hH=>by exact cA rfl rfl rfl (show IntKind.i64.wrap ((w.length:Int)+1)=((w.length+1:Nat):Int)by rw [IntKind.wrap_i64];omega))<|Cr [] (fun H1 hH=>by exact cK (l:=(w.length+1)) (h:=(eY s k).size) rfl underlying9 rfl rfl rfl (by omega) (by omega) rfl)<|Cr [] (fun _ _=>aP) ?_;refine Cp [933] (fun H1 hH=>by exact bT rfl sizeOf9 rfl rfl rfl rfl ((hH _ rfl).trans (h1 k)) rfl rfl rfl)<|bJ<|Kr<|Sr<|Dd aF<|Dd aF<|Dd (by exact bY rfl rfl rfl (hyk))<|Dd lI<|Zz ?_;refine Cn ?_ ?_<;>intro hc5
   ·cases hc5
   refine aE ?_;exact⟨k+1,by omega,by omega,E0⟩
  have:=aLQ hc4;omega
 have hn:¬ 0 < (eY s k).size:=by have:=aLQ hc1;omega
 have hge:k=(fG s).length:=by
  rw [uQ hn] at i1;have:=congrArg List.length i1;rw [List.length_nil,aL8] at this;omega
 subst hge;refine bG ?_;exact pL (H':=Hs (fG s).length) (.inl rfl) rfl Fin.refl ⟨rfl,rfl⟩
theorem aBF (w:List UInt8):Lib.trimSuffix (w++[10]) [10]=w:=by rw [Lib.trimSuffix,Lib.hasSuffix,aLS (List.isSuffixOf_iff_suffix.2 ⟨w,rfl⟩)];simp
theorem aBH (s:ByteArray):yB s=ofL (Lib.trimSuffix s.data.toList [10]):=by
 have hz:=szY s;rw [yB];cases h:wQ s with
 | true =>
  rw [wQ,aL2,aL0,aL0] at h;obtain ⟨h1,h2⟩:=h;have h3:s.data.toList.drop (s.size - 1)=[10]:=by
   have:=congrArg (fun x=>x.data.toList) h2;rw [exL] at this;refine Eq.trans ?_ (show sNl.data.toList=[10] from rfl);rw [← this];exact(List.take_of_length_le (by rw [aL8];omega)).symm
  have h4:s.data.toList=s.data.toList.take (s.size - 1)++[10]:=by rw [← h3,List.take_append_drop]
  refine eqL ?_;rw [aLS rfl,exL,dW,h4,aBF,List.drop_zero,Nat.sub_zero,← h4]
 | false =>
  rw [aLR (by decide),Lib.trimSuffix,aLR,jS];intro hp;obtain ⟨w,hw⟩:=List.isSuffixOf_iff_suffix.1 (show ([10]:List UInt8).isSuffixOf s.data.toList=true from hp);have hl:s.size=w.length+1:=by rw [← hz,← hw,aLU,List.length_singleton]
  have:wQ s=true:=by
   rw [wQ,aL2,aL0,aL0];refine⟨by omega,eqL ?_⟩;rw [exL,← hw,show s.size - 1=w.length by omega,List.drop_left];exact List.take_of_length_le (by rw [List.length_singleton];omega)
  rw [h] at this;cases this
theorem aFZ (s:ByteArray):∃ b,S4 s=.tup [sv (ofL ((eE 32 s.data.toList).headD [])),sv (ofL (s.data.toList.drop (((eE 32 s.data.toList).headD []).length+1))),bv b]:=by
 rw [S4];by_cases h:Lib.indexByte s.data.toList 32 = -1
 ·refine⟨false,?_⟩;rw [aLS h,oZ (rO.1 h),List.headD_cons,List.drop_eq_nil_of_le (Nat.le_succ _),jS];rfl
 obtain ⟨w,r,e1,e2,e3⟩:=rP h;refine⟨true,?_⟩;obtain ⟨a1,a2⟩:=aCD e1;have hd:s.data.toList.drop (w.length+1)=r:=by
  rw [e1,show w++32::r=(w++[32])++r by simp,show w.length+1=(w++[(32:UInt8)]).length by simp,List.drop_left]
 have hsp:(eE 32 s.data.toList).headD []=w:=by rw [e1,kW e2];rfl
 rw [aLR h,hsp,hd,e3,aL4,a1,show s.extract (w.length+1) s.size=ofL r from eqL (by rw [a2,dW])];rfl
theorem ZA (s:ByteArray) (i:Nat) (h:i < (cX s).length):(cX s)[i]?=some (ofL ((eE 32 s.data.toList).getD i [])):=by rw [cX,aLT] at h;rw [cX,aLd,aLY h,List.getD_eq_getElem?_getD,aLY h];rfl
theorem Y9 (s:ByteArray):(cX s).length=(eE 32 s.data.toList).length:=aLT _
theorem nI {a b:List UInt8}:ofL a=ofL b↔a=b:=⟨fun h=>by rw [← dW a,h,dW],fun h=>by rw [h]⟩
theorem dY (s:ByteArray) (l:List ByteArray):cV (s::l)=s.size+cV l:=by rw [cV,cV,List.map_cons,List.sum_cons]
theorem uT {e:GEdit} {ws:List ByteArray} (h1:e.op≠1) (h:bs ws=iV e):(⟨(cH [32] (bs ws)).toArray⟩:ByteArray)++⟨#[10]⟩=ofL (fL e++[10]):=eqL (by
 rw [dW,fL,aLR h1,← h];simp)
theorem aE9 {e:GEdit} (h1:e.op=1):(⟨#[112,117,116,32]⟩:ByteArray)++(iF e.obj).1++⟨#[10]⟩=ofL (fL e++[10]):=eqL (by
 rw [dW,fL,aLS h1];simp [aAz])
theorem M2 {o:GObj}:(iF o).1.size≤20000:=by
 rw [iF]
 split
 ·split
  ·exact aLa _
  split
  ·exact aLa _
  show (xO o).size≤_;omega
 exact aLa _
theorem aHU (e:GEdit) (H:aB) (he:QM e) (hv:fJ e=true):aH Tryz.prog 171 [av (aZ e)] H (fun r H'=>r=.tup [sv (ofL (fL e++[10])),iv (iP e)]∧H'=H):=by
 refine Pu ?_;obtain ⟨⟨o1,o2⟩,o3,o4⟩:=wL.1 hv;rw [uI] at o3;have hval:=JU hv;have hs0:cV []=0:=rfl;refine Bd func171 rfl ntmps171<|Sr<|Dd (by exact bZ (id:=1) rfl rfl rfl rfl rfl)<|Dd aP<|Dd aP<|Zz<|Sr<|Dd aP<|Zz<|Sq<|Sr<|Dd (bB wN)<|Dd (bK isAgg3)<|Zz<|aG<|Sr<|Dd cY<|Da ?_;refine Cn ?_ ?_<;>intro hc1
 ·have h1:e.op=1:=aLP hc1;have hos:=M2 (o:=e.obj);have h4:(⟨#[112,117,116,32]⟩:ByteArray).size=4:=rfl;have h10:(⟨#[10]⟩:ByteArray).size=1:=rfl;have h4s:((⟨#[112,117,116,32]⟩:ByteArray)++(iF e.obj).1).size=4+(iF e.obj).1.size:=by rw [ByteArray.size_append];rfl
  refine Sr<|Dd (bB qK)<|Dd (pZ cN sizeOf153)<|Dd (by exact aA rfl rfl call203 rfl (M0 e.obj _ he.2.2))<|Dd aF<|Dd dV<|Dd dV<|Dd aP<|Dd aP<|Zz<|Sr<|Dd aF<|Dd (by exact gR rfl rfl rfl (by omega) rfl)<|Dd (by exact gR rfl rfl rfl (by omega) rfl)<|Dd aF<|Dd aP<|Dd aP<|Zz<|aC<|Ru ?_;rw [aE9 h1,show iP e=(iF e.obj).2 from aLS h1];exact Qq
 have h1:e.op≠1:=aLQ hc1;rw [aLR h1,aL2] at o3;obtain ⟨o5,o6⟩:=o3;have hid:=eF o5;refine Sr<|Dd cY<|Da ?_;refine Cn ?_ ?_<;>intro hc2
 ·have h2:e.op=2:=aLP hc2;rw [aLS h2,onP,aL2,aL0,aL0] at o6;have hx:0≤e.x∧e.x < 1048576:=by omega
  have hy:0≤e.y∧e.y < 1048576:=by omega
  have six:(bL e.x).size≤7:=by rw [← aY];show (Lib.itoa e.x).length≤7;rw [lD _ hx.1];exact fS (by omega) (by decide)
  have siy:(bL e.y).size≤7:=by rw [← aY];show (Lib.itoa e.y).length≤7;rw [lD _ hy.1];exact fS (by omega) (by decide)
  have hw0:(⟨#[109,111,118,101]⟩:ByteArray).size=4:=rfl;refine aQ follows<|Cq (bB kQ)<|Cq (bK isAgg9)<|Cq (bB iA)<|Cq (bB tK)<|Cq (bK isAgg3)<|Cq (by exact aA rfl rfl mO rfl (qH e.x (by omega) (by omega) _))<|Cq (bB iA)<|Cq (bB tJ)<|Cq (bK isAgg3)<|Cq (by exact aA rfl rfl mO rfl (qH e.y (by omega) (by omega) _))<|Cq (by exact aS (([⟨#[109,111,118,101]⟩,e.id,bL e.x,bL e.y]:List ByteArray).map encStr) rfl cP rfl rfl rfl rfl rfl (mX _))<|Cq aP<|bJ<|Kr<|Sr<|Dm ?_;have hw:bs [⟨#[109,111,118,101]⟩,e.id,bL e.x,bL e.y]=iV e:=by
   rw [iV]
   (rw [aLS h2];rfl)
  have hne:e.op≠1:=by omega
  have hj:∀ H,aH Tryz.prog 168 [.pv (aU [⟨#[109,111,118,101]⟩,e.id,bL e.x,bL e.y]),sv ⟨#[32]⟩] H (fun x H'=>x=sv ⟨(cH [32] (bs [⟨#[109,111,118,101]⟩,e.id,bL e.x,bL e.y])).toArray⟩∧H'=H):=fun H=>qF [⟨#[109,111,118,101]⟩,e.id,bL e.x,bL e.y] ⟨#[32]⟩ H (by decide) (by show 1*_+_+_ < _;simp only [dY,aLV,List.length_nil];omega);have hjs:(⟨(cH [32] (bs [⟨#[109,111,118,101]⟩,e.id,bL e.x,bL e.y])).toArray⟩:ByteArray).size≤70000:=by
   show (cH [32] (bs [⟨#[109,111,118,101]⟩,e.id,bL e.x,bL e.y])).length≤_;have:=lJ [⟨#[109,111,118,101]⟩,e.id,bL e.x,bL e.y];simp only [dY,aLV,List.length_nil] at this;omega
  have h10:(⟨#[10]⟩:ByteArray).size=1:=rfl;refine Dd (by exact aA rfl rfl mN rfl (hj _))<|Dd (by exact gR rfl rfl rfl (by omega) rfl)<|Dd aP<|Dd aP<|Zz<|aC<|Ru ?_;rw [uT hne hw,show iP e=0 from aLR hne];exact Qq
 have h2:e.op≠2:=aLQ hc2;rw [aLR h2] at o6;refine Sr<|Dd cY<|Da ?_;refine Cn ?_ ?_<;>intro hc3
 ·have h3:e.op=3:=aLP hc3;rw [aLS h3,aL2,aL0] at o6;have hks:=eF o6.1;have hq:=vU e.val;have hw0:(⟨#[116,97,103]⟩:ByteArray).size=3:=rfl;refine aQ follows<|Cq (bB kQ)<|Cq (bK isAgg9)<|Cq (bB kP)<|Cq (bK isAgg9)<|Cq (bB lM)<|Cq (bK isAgg9)<|Cq (by exact aA rfl rfl call210 rfl (XN e.val _ (by omega)))<|Cq (by exact aS (([⟨#[116,97,103]⟩,e.id,e.key,⟨(dT e.val.data.toList).toArray⟩]:List ByteArray).map encStr) rfl cP rfl rfl rfl rfl rfl (mX _))<|Cq aP<|bJ<|Kr<|Sr<|Dm ?_;have hw:bs [⟨#[116,97,103]⟩,e.id,e.key,⟨(dT e.val.data.toList).toArray⟩]=iV e:=by
   rw [iV]
   (rw [aLR h2,aLS h3];rfl)
  have hne:e.op≠1:=by omega
  have hj:∀ H,aH Tryz.prog 168 [.pv (aU [⟨#[116,97,103]⟩,e.id,e.key,⟨(dT e.val.data.toList).toArray⟩]),sv ⟨#[32]⟩] H (fun x H'=>x=sv ⟨(cH [32] (bs [⟨#[116,97,103]⟩,e.id,e.key,⟨(dT e.val.data.toList).toArray⟩])).toArray⟩∧H'=H):=fun H=>qF [⟨#[116,97,103]⟩,e.id,e.key,⟨(dT e.val.data.toList).toArray⟩] ⟨#[32]⟩ H (by decide) (by show 1*_+_+_ < _;simp only [dY,aLV,List.length_nil];omega);have hjs:(⟨(cH [32] (bs [⟨#[116,97,103]⟩,e.id,e.key,⟨(dT e.val.data.toList).toArray⟩])).toArray⟩:ByteArray).size≤70000:=by
   show (cH [32] (bs [⟨#[116,97,103]⟩,e.id,e.key,⟨(dT e.val.data.toList).toArray⟩])).length≤_;have:=lJ [⟨#[116,97,103]⟩,e.id,e.key,⟨(dT e.val.data.toList).toArray⟩];simp only [dY,aLV,List.length_nil] at this;omega
  have h10:(⟨#[10]⟩:ByteArray).size=1:=rfl;refine Dd (by exact aA rfl rfl mN rfl (hj _))<|Dd (by exact gR rfl rfl rfl (by omega) rfl)<|Dd aP<|Dd aP<|Zz<|aC<|Ru ?_;rw [uT hne hw,show iP e=0 from aLR hne];exact Qq
 have h3:e.op≠3:=aLQ hc3;rw [aLR h3] at o6;refine Sr<|Dd cY<|Da ?_;refine Cn ?_ ?_<;>intro hc4
 ·have h4:e.op=4:=aLP hc4;rw [aLS h4,aL2,aL2,aL0,aL0,List.all_eq_true] at o6;obtain ⟨⟨r1,r2⟩,r3⟩:=o6;have hrs:cV e.refs≤24*e.refs.length:=pB (fun s hs=>eF (r3 s hs));have hw0:(⟨#[114,101,102,115]⟩:ByteArray).size=4:=rfl;have hfl:(([[⟨#[114,101,102,115]⟩,e.id],e.refs]:List (List ByteArray)).flatten).length < 1099511627776:=by simp;omega
  refine Rg<|Dd (bB kQ)<|Dd (bK isAgg9)<|Dd (by exact aS (([⟨#[114,101,102,115]⟩,e.id]:List ByteArray).map encStr) rfl cP rfl rfl rfl rfl rfl (mX _))<|Dd (bB eS)<|Dd (bK aJ)<|Dd (by exact aS (([[⟨#[114,101,102,115]⟩,e.id],e.refs]:List (List ByteArray)).map (fun l=>[.sl (l.map encStr)])) rfl FR rfl rfl rfl rfl rfl (by simp))<|Dd (by exact aA rfl rfl call211 rfl (E8 [[⟨#[114,101,102,115]⟩,e.id],e.refs] _ (by show 2 < _;omega) hfl))<|Dd aP<|Zz<|Sr<|Dm ?_;rw [show ([[⟨#[114,101,102,115]⟩,e.id],e.refs]:List (List ByteArray)).flatten=⟨#[114,101,102,115]⟩::e.id::e.refs by simp];have hw:bs (⟨#[114,101,102,115]⟩::e.id::e.refs)=iV e:=by
   rw [iV]
   (rw [aLR h2,aLR h3,aLS h4];rfl)
  have hne:e.op≠1:=by omega
  have hj:∀ H,aH Tryz.prog 168 [.pv (aU (⟨#[114,101,102,115]⟩::e.id::e.refs)),sv ⟨#[32]⟩] H (fun x H'=>x=sv ⟨(cH [32] (bs (⟨#[114,101,102,115]⟩::e.id::e.refs))).toArray⟩∧H'=H):=fun H=>qF (⟨#[114,101,102,115]⟩::e.id::e.refs) ⟨#[32]⟩ H (by decide) (by show 1*_+_+_ < _;simp only [dY,aLV,List.length_nil];omega);have hjs:(⟨(cH [32] (bs (⟨#[114,101,102,115]⟩::e.id::e.refs))).toArray⟩:ByteArray).size≤70000:=by
   show (cH [32] (bs (⟨#[114,101,102,115]⟩::e.id::e.refs))).length≤_;have:=lJ (⟨#[114,101,102,115]⟩::e.id::e.refs);simp only [dY,aLV,List.length_nil] at this;omega
  have h10:(⟨#[10]⟩:ByteArray).size=1:=rfl;refine Dd (by exact aA rfl rfl mN rfl (hj _))<|Dd (by exact gR rfl rfl rfl (by omega) rfl)<|Dd aP<|Dd aP<|Zz<|aC<|Ru ?_;rw [uT hne hw,show iP e=0 from aLR hne];exact Qq
 have h4:e.op≠4:=aLQ hc4;rw [aLR h4] at o6;refine Sr<|Dd cY<|Da ?_;refine Cn ?_ ?_<;>intro hc5
 ·have h5:e.op=5:=aLP hc5;have hw0:(⟨#[100,114,111,112]⟩:ByteArray).size=4:=rfl;refine Rg<|Dd (bB kQ)<|Dd (bK isAgg9)<|Dd (by exact aS (([⟨#[100,114,111,112]⟩,e.id]:List ByteArray).map encStr) rfl cP rfl rfl rfl rfl rfl (mX _))<|Dd aP<|Zz<|Sr<|Dm ?_;have hw:bs [⟨#[100,114,111,112]⟩,e.id]=iV e:=by
   rw [iV]
   (rw [aLR h2,aLR h3,aLR h4,aLS h5];rfl)
  have hne:e.op≠1:=by omega
  have hj:∀ H,aH Tryz.prog 168 [.pv (aU [⟨#[100,114,111,112]⟩,e.id]),sv ⟨#[32]⟩] H (fun x H'=>x=sv ⟨(cH [32] (bs [⟨#[100,114,111,112]⟩,e.id])).toArray⟩∧H'=H):=fun H=>qF [⟨#[100,114,111,112]⟩,e.id] ⟨#[32]⟩ H (by decide) (by show 1*_+_+_ < _;simp only [dY,aLV,List.length_nil];omega);have hjs:(⟨(cH [32] (bs [⟨#[100,114,111,112]⟩,e.id])).toArray⟩:ByteArray).size≤70000:=by
   show (cH [32] (bs [⟨#[100,114,111,112]⟩,e.id])).length≤_;have:=lJ [⟨#[100,114,111,112]⟩,e.id];simp only [dY,aLV,List.length_nil] at this;omega
  have h10:(⟨#[10]⟩:ByteArray).size=1:=rfl;refine Dd (by exact aA rfl rfl mN rfl (hj _))<|Dd (by exact gR rfl rfl rfl (by omega) rfl)<|Dd aP<|Dd aP<|Zz<|aC<|Ru ?_;rw [uT hne hw,show iP e=0 from aLR hne];exact Qq
 have h5:e.op≠5:=aLQ hc5;rw [aLR h5] at o6;refine Sr<|Dd cY<|Da ?_;refine Cn ?_ ?_<;>intro hc6
 ·have h6:e.op=6:=aLP hc6;rw [aLS h6,aL2] at o6;have hns:=eF o6.1;have hos:=eF o6.2;have hw0:(⟨#[115,112,108,105,116]⟩:ByteArray).size=5:=rfl;refine Rg<|Dd (bB kQ)<|Dd (bK isAgg9)<|Dd (bB nO)<|Dd (bK isAgg9)<|Dd (bB iG)<|Dd (bK isAgg9)<|Dd (by exact aS (([⟨#[115,112,108,105,116]⟩,e.id,e.node,e.other]:List ByteArray).map encStr) rfl cP rfl rfl rfl rfl rfl (mX _))<|Dd aP<|Zz<|Sr<|Dm ?_;have hw:bs [⟨#[115,112,108,105,116]⟩,e.id,e.node,e.other]=iV e:=by
   rw [iV]
   (rw [aLR h2,aLR h3,aLR h4,aLR h5,aLS h6];rfl)
  have hne:e.op≠1:=by omega
  have hj:∀ H,aH Tryz.prog 168 [.pv (aU [⟨#[115,112,108,105,116]⟩,e.id,e.node,e.other]),sv ⟨#[32]⟩] H (fun x H'=>x=sv ⟨(cH [32] (bs [⟨#[115,112,108,105,116]⟩,e.id,e.node,e.other])).toArray⟩∧H'=H):=fun H=>qF [⟨#[115,112,108,105,116]⟩,e.id,e.node,e.other] ⟨#[32]⟩ H (by decide) (by show 1*_+_+_ < _;simp only [dY,aLV,List.length_nil];omega);have hjs:(⟨(cH [32] (bs [⟨#[115,112,108,105,116]⟩,e.id,e.node,e.other])).toArray⟩:ByteArray).size≤70000:=by
   show (cH [32] (bs [⟨#[115,112,108,105,116]⟩,e.id,e.node,e.other])).length≤_;have:=lJ [⟨#[115,112,108,105,116]⟩,e.id,e.node,e.other];simp only [dY,aLV,List.length_nil] at this;omega
  have h10:(⟨#[10]⟩:ByteArray).size=1:=rfl;refine Dd (by exact aA rfl rfl mN rfl (hj _))<|Dd (by exact gR rfl rfl rfl (by omega) rfl)<|Dd aP<|Dd aP<|Zz<|aC<|Ru ?_;rw [uT hne hw,show iP e=0 from aLR hne];exact Qq
 have h6:e.op≠6:=aLQ hc6;rw [aLR h6] at o6;have hos:=eF o6;have hw0:(⟨#[106,111,105,110]⟩:ByteArray).size=4:=rfl;refine Rg<|Dd (bB kQ)<|Dd (bK isAgg9)<|Dd (bB iG)<|Dd (bK isAgg9)<|Dd (by exact aS (([⟨#[106,111,105,110]⟩,e.id,e.other]:List ByteArray).map encStr) rfl cP rfl rfl rfl rfl rfl (mX _))<|Dd aP<|Zz<|Sr<|Dm ?_;have hw:bs [⟨#[106,111,105,110]⟩,e.id,e.other]=iV e:=by
  rw [iV]
  (rw [aLR h2,aLR h3,aLR h4,aLR h5,aLR h6];rfl)
 have hne:e.op≠1:=by omega
 have hj:∀ H,aH Tryz.prog 168 [.pv (aU [⟨#[106,111,105,110]⟩,e.id,e.other]),sv ⟨#[32]⟩] H (fun x H'=>x=sv ⟨(cH [32] (bs [⟨#[106,111,105,110]⟩,e.id,e.other])).toArray⟩∧H'=H):=fun H=>qF [⟨#[106,111,105,110]⟩,e.id,e.other] ⟨#[32]⟩ H (by decide) (by show 1*_+_+_ < _;simp only [dY,aLV,List.length_nil];omega);have hjs:(⟨(cH [32] (bs [⟨#[106,111,105,110]⟩,e.id,e.other])).toArray⟩:ByteArray).size≤70000:=by
  show (cH [32] (bs [⟨#[106,111,105,110]⟩,e.id,e.other])).length≤_;have:=lJ [⟨#[106,111,105,110]⟩,e.id,e.other];simp only [dY,aLV,List.length_nil] at this;omega
 have h10:(⟨#[10]⟩:ByteArray).size=1:=rfl;refine Dd (by exact aA rfl rfl mN rfl (hj _))<|Dd (by exact gR rfl rfl rfl (by omega) rfl)<|Dd aP<|Dd aP<|Zz<|aC<|Ru ?_;rw [uT hne hw,show iP e=0 from aLR hne];exact Qq
theorem QZ:∀ {l:List GEdit} {acc:List UInt8},(sL acc l).2=0→(∀ e∈l,iP e=0)∧sL acc l=(acc++l.flatMap fun e=>fL e++[10],0)∧(acc.length≤20000→(sL acc l).1.length≤20000)
 | [],acc,_=>⟨(fun e h=>by cases h),by rw [sL,List.flatMap_nil,List.append_nil],fun h=>h⟩
 | e::l,acc,h=>by
  rw [sL] at h ⊢;by_cases h1:iP e≠0∨20000 < (acc++(fL e++[10])).length
  ·rw [aLS h1] at h;cases h
  rw [aLR h1] at h ⊢;rw [not_or,Classical.not_not] at h1;obtain ⟨i1,i2,i3⟩:=QZ h;refine⟨fun x hx=>?_,by rw [i2,List.flatMap_cons,List.append_assoc],fun _=>i3 (by omega)⟩;rcases aL5.1 hx with rfl|hx
  ·exact h1.1
  exact i1 x hx
theorem JV {l:List GEdit} (h:sU l=true):l≠[]∧∀ e∈l,fJ e=true:=by
 rw [sU,aL2,aL2,aL0,aLc,List.any_eq_false] at h;refine⟨fun e=>by rw [e] at h;exact absurd h.1.1 (by decide),fun e he=>?_⟩;have:=h.2 e he
 simpa using this
theorem aDv (w:List UInt8):Lib.trimSuffix (w++[10]) [10]=w:=by rw [Lib.trimSuffix,Lib.hasSuffix,aLS (List.isSuffixOf_iff_suffix.2 ⟨w,rfl⟩)];simp
theorem FT {l:List GEdit} (h:(fZ l).2=0):kN (fZ l).1=(l,0):=by
 have hc:sU l=true:=by
  rw [fZ] at h
  split at h
  ·assumption
  cases h
 obtain ⟨hne,hv⟩:=JV hc;rw [fZ,aLS hc] at h;obtain ⟨h1,h2,h3⟩:=QZ h;rw [List.nil_append] at h2;have h4:=h3 (aLa _);have ht:fZ l=(ofL (l.flatMap fun e=>fL e++[10]),0):=by rw [fZ,aLS hc,h2]
 have hsz:(ofL (l.flatMap fun e=>fL e++[10])).size≤20000:=by rw [fU];rw [h2] at h4;exact h4
 have hl:(iU (ofL (l.flatMap fun e=>fL e++[10])).data.toList).map (fun s=>gU (Lib.trimSuffix s [10]))=l:=by
  have hj:=A3 (ls:=l.map fL) (fun w hw=>by
   obtain ⟨e,he,rfl⟩:=List.mem_map.1 hw;exact(MP (hv e he) (h1 e he)).2)
  rw [List.flatMap_map] at hj;rw [dW,hj,List.map_map,List.map_map];refine(List.map_congr_left fun e he=>?_).trans (List.map_id l);show gU (Lib.trimSuffix (fL e++[10]) [10])=e;rw [aDv];exact(MP (hv e he) (h1 e he)).1
 rw [ht,kN,aLR (by show ¬ 20000 < (ofL (l.flatMap fun e=>fL e++[10])).size;omega)];show (if fZ ((iU (ofL (l.flatMap fun e=>fL e++[10])).data.toList).map fun s=>gU (Lib.trimSuffix s [10]))=(ofL (l.flatMap fun e=>fL e++[10]),0)then((iU (ofL (l.flatMap fun e=>fL e++[10])).data.toList).map (fun s=>gU (Lib.trimSuffix s [10])),(0:Int))else([],5))=(l,0);rw [hl,aLS ht]
theorem aHZ (g:Nat) (l:List UInt8) (u:Bool):aH Tryz.prog 172 [.ref 2001 0 0 0] (sC g l u) (fun r H'=>r=iv (l.length:Int)∧H'=sC g l u):=by refine Bd func172 rfl ntmps172<|Sr<|Dd aP<|Zz<|Sr<|Dd aF<|Dd xQ<|Dd (bB eW)<|Dd (bK cO)<|Dd (by exact dS rfl cF rfl rfl rfl)<|Dd aP<|Zz<|aC ?_;refine dF (H':=(sC g l u)) (.inr rfl) rfl (aT rfl) Fin.refl ?_;exact Qq
abbrev aDE (l:List UInt8) (g:Nat) (u:Bool):Ob:=tQ (.osl 2002 g 0 l.length) u
abbrev aDD (l:List UInt8) (g:Nat):Ob:=⟨g,1,5,eQ l⟩
theorem aJX {g g':Nat} {l l':List UInt8} {u u':Bool} {id:Nat} (h:(aB.get (sC g l u) id).isSome=true):(aB.get (sC g' l' u') id).isSome=true:=X4 h
theorem aJW {g:Nat} {l:List UInt8} {u u':Bool} {id:Nat} (h:(aB.get (aA3 g l u) id).isSome=true):(aB.get (sC g l u) id).isSome=true:=by
 simp only [aA3,sC,aB.get] at h ⊢;cases e1:Nat.beq 2001 id with
 | true=>rfl
 | false =>
  cases e2:Nat.beq 2002 id with
  | true=>rfl
  | false=>rw [e1,e2] at h;cases h
theorem aIX {H:aB} {g:Nat} {l:List UInt8} {u:Bool} (s:ByteArray) (h1:H.get 2001=some (aDE l g u)) (h2:H.get 2002=some (aDD l g)) (hl:l.length+s.size < 70368744177664):aH Tryz.prog 114 [.ref 2001 0 0 0,sv s] H (fun r H'=>r=.tup [iv (s.size:Int),.pv EN]∧H'=sC (g+1) (l++s.data.toList) true++H) :=aH.frame (gJ g l u s hl) (Sub.of2 h1 h2) (cZ.ofL ⟨(by exact eR rfl rfl),(by exact dG _ _),trivial⟩) (by simp;rfl) (fun id h=>.inl (aJX h))
theorem aHY {H:aB} {g:Nat} {l:List UInt8} {u:Bool} (h1:H.get 2001=some (aDE l g u)) (h2:H.get 2002=some (aDD l g)):aH Tryz.prog 172 [.ref 2001 0 0 0] H (fun r H'=>r=iv (l.length:Int)∧H'=H) :=aH.frameS (aHZ g l u) (Sub.of2 h1 h2) (cZ.ofL ⟨(by exact eR rfl rfl),(by exact dG _ _),trivial⟩) (by simp;rfl)
theorem aGc {H:aB} {g:Nat} {l:List UInt8} {u:Bool} (h1:H.get 2001=some (aDE l g u)) (h2:H.get 2002=some (aDD l g)) (hl:l.length < 70368744177664):aH Tryz.prog 116 [.ref 2001 0 0 0] H (fun r H'=>r=sv ⟨l.toArray⟩∧H'=aA3 g l u++H) :=aH.frame (MH g l u hl) (Sub.of2 h1 h2) (cZ.ofL ⟨(by exact eR rfl rfl),(by exact dG _ _),trivial⟩) (by simp;rfl) (fun id h=>.inl (aJW (u':=u) h))
def uK:Nat→Bool
 | 0=>false
 | _+1=>true
def vA (l:List GEdit) (k:Nat):List UInt8:=(l.take k).flatMap fun e=>fL e++[10]
theorem aAc {l:List GEdit} {k:Nat} {e:GEdit} (h:l[k]?=some e):vA l (k+1)=vA l k++(fL e++[10]):=by rw [vA,List.take_add_one,h,List.flatMap_append];simp [vA]
theorem Z8 {e:GEdit} (he:fJ e=true):(fL e).length≤100000:=by
 obtain ⟨⟨o1,o2⟩,o3,o4⟩:=wL.1 he;rw [uI] at o3;have hval:=JU he;by_cases h1:e.op=1
 ·rw [fL,aLS h1,aLU,aLV,aY];have:=M2 (o:=e.obj);show 3+_≤_;omega
 rw [aLR h1,aL2] at o3;obtain ⟨o5,o6⟩:=o3;have hid:=eF o5;have key:∀ ws:List ByteArray,bs ws=iV e→ws.length+cV ws≤100000→(fL e).length≤100000:=fun ws h h2=>by
  rw [fL,aLR h1,← h];exact Nat.le_trans (lJ ws) h2
 by_cases h2:e.op=2
 ·rw [aLS h2,onP,aL2,aL0,aL0] at o6;have six:(bL e.x).size≤7:=by rw [← aY];show (Lib.itoa e.x).length≤7;rw [lD _ (by omega)];exact fS (by omega) (by decide)
  have siy:(bL e.y).size≤7:=by rw [← aY];show (Lib.itoa e.y).length≤7;rw [lD _ (by omega)];exact fS (by omega) (by decide)
  have hw0:(⟨#[109,111,118,101]⟩:ByteArray).size=4:=rfl;exact key [⟨#[109,111,118,101]⟩,e.id,bL e.x,bL e.y] (by rw [iV,aLS h2];rfl) (by simp only [dY,aLV,List.length_nil,show cV []=0 from rfl];omega)
 rw [aLR h2] at o6;by_cases h3:e.op=3
 ·rw [aLS h3,aL2] at o6;have hks:=eF o6.1;have hq:=vU e.val;have hw0:(⟨#[116,97,103]⟩:ByteArray).size=3:=rfl;exact key [⟨#[116,97,103]⟩,e.id,e.key,⟨(dT e.val.data.toList).toArray⟩] (by rw [iV,aLR h2,aLS h3];rfl) (by simp only [dY,aLV,List.length_nil,show cV []=0 from rfl];omega)
 rw [aLR h3] at o6;by_cases h4:e.op=4
 ·rw [aLS h4,aL2,aL2,aL0,aL0,List.all_eq_true] at o6;obtain ⟨⟨r1,r2⟩,r3⟩:=o6;have hrs:cV e.refs≤24*e.refs.length:=pB (fun s hs=>eF (r3 s hs));have hw0:(⟨#[114,101,102,115]⟩:ByteArray).size=4:=rfl;exact key (⟨#[114,101,102,115]⟩::e.id::e.refs) (by rw [iV,aLR h2,aLR h3,aLS h4];rfl) (by simp only [dY,aLV];omega)
 rw [aLR h4] at o6;by_cases h5:e.op=5
 ·have hw0:(⟨#[100,114,111,112]⟩:ByteArray).size=4:=rfl;exact key [⟨#[100,114,111,112]⟩,e.id] (by rw [iV,aLR h2,aLR h3,aLR h4,aLS h5];rfl) (by simp only [dY,aLV,List.length_nil,show cV []=0 from rfl];omega)
 rw [aLR h5] at o6;by_cases h6:e.op=6
 ·rw [aLS h6,aL2] at o6;have hns:=eF o6.1;have hos:=eF o6.2;have hw0:(⟨#[115,112,108,105,116]⟩:ByteArray).size=5:=rfl;exact key [⟨#[115,112,108,105,116]⟩,e.id,e.node,e.other] (by rw [iV,aLR h2,aLR h3,aLR h4,aLR h5,aLS h6];rfl) (by simp only [dY,aLV,List.length_nil,show cV []=0 from rfl];omega)
 rw [aLR h6] at o6;have hos:=eF o6;have hw0:(⟨#[106,111,105,110]⟩:ByteArray).size=4:=rfl;exact key [⟨#[106,111,105,110]⟩,e.id,e.other] (by rw [iV,aLR h2,aLR h3,aLR h4,aLR h5,aLR h6];rfl) (by simp only [dY,aLV,List.length_nil,show cV []=0 from rfl];omega)
theorem XA (l:List GEdit) (H:aB) (hl:l.length < 4611686018427387904) (he:∀ e∈l,QM e):aH Tryz.prog 122 [.pv (iO l)] H (fun r H'=>r=.tup [sv (fZ l).1,iv (fZ l).2]∧H'=H):=by
 refine Pu ?_;have hml:(l.map aZ).length=l.length:=aLT _;refine Bd func122 rfl ntmps122<|Sr<|Dd aP<|Dd aP<|Zz<|Sq<|Sr<|Dd aF<|Dd (by exact aA rfl rfl call170 rfl (LV l _ hl he))<|Dd lI<|Zz ?_;refine Cn ?_ ?_<;>intro hc1
 ·have hg:sU l=false:=by have h:=hc1;rwa [aLc] at h
  rw [show fZ l=(sNil,1)by rw [fZ,hg];rfl];exact Sr<|Dd aP<|Dd aP<|Zz<|aC<|Ru<|Qq
 have hg:sU l=true:=by have h:=hc1;rwa [Bool.not_eq_false'] at h
 have hv:=(JV hg).2;have hT:fZ l=(ofL (sL [] l).1,(sL [] l).2):=by rw [fZ,aLS hg]
 refine aE<|Sr<|Dd (by exact bC (id:=2001) rfl D3 rfl rfl)<|Zz<|Sq<|Sq ?_;refine fE.ent (E':=[(0,.pv (iO l)),(4,.ref 2001 0 0 0)]) (H':=[(2002,⟨0,1,5,[]⟩),(2001,tQ (.osl 2002 0 0 0) false)]) (cD.nz 2002 1 5 rfl rfl ⟨⟨_,rfl,(by exact Nz.same (by(simp;done)))⟩,⟨_,rfl,(by exact Nz.same (by(simp;rfl)))⟩,trivial⟩ ⟨⟨_,rfl,rfl,rfl,rfl,(by exact .inr ⟨_,_,rfl,rfl,(by repeat(first|exact trivial|refine⟨(by first|exact Nz.own|exact Nz.same (by(simp;done))),?_⟩))⟩)⟩,trivial⟩ trivial) ?_;refine Rg<|Dd aF<|Dd (fY dD)<|Dd aF<|Zz<|aG ?_;refine bQ (σ:=Nat) (fun k=>([(4,.ref 2001 0 0 0),(12,.pv (iO l)),(13,iv ((l.map aZ).length:Int)),(14,iv (k:Int))],[(2001,aDE (vA l k) k (uK k)),(2002,aDD (vA l k) k)])) (fun k=>k≤l.length∧sL [] l=sL (vA l k) (l.drop k)∧(vA l k).length≤20000) (fun k=>l.length - k) 0 ⟨aLa _,rfl,aLa _⟩ ?_ ?_
 ·exact(cD.wk (Ea<|Eb<|Eb<|Eb<|trivial) (Hc (eR rfl rfl)<|Hc (dG _ _)<|trivial) trivial)
 rintro k ⟨hk,hF,hA⟩;refine Sr<|Dd dK<|Zz<|Sq ?_;refine Cn ?_ ?_<;>intro hc2
 ·have hlt:k < l.length:=by have:=aLP hc2;omega
  obtain ⟨e,hke⟩:=bE hlt;have hi:=cJ (f:=aZ) hke;have hem:=aL3 hke;have hnx:=aAc hke;have hYl:=Z8 (hv e hem);have hdr:l.drop k=e::l.drop (k+1):=by
   rw [List.drop_eq_getElem_cons hlt];rw [aLY hlt] at hke;cases hke;rfl
  rw [hdr,sL] at hF;have hsz:(ofL (fL e++[10])).size=(fL e).length+1:=by rw [fU,aLU];rfl
  have hbl:sC (k+1) (vA l k++(ofL (fL e++[10])).data.toList) true=sC (k+1) (vA l (k+1)) true:=by rw [dW,hnx]
  have hnl:(vA l (k+1)).length=(vA l k).length+((fL e).length+1):=by rw [hnx,aLU,aLU];rfl
  have hw:∀ H,H.get 2001=some (aDE (vA l k) k (uK k))→H.get 2002=some (aDD (vA l k) k)→aH Tryz.prog 114 [.ref 2001 0 0 0,sv (ofL (fL e++[10]))] H (fun r H'=>r=.tup [iv ((ofL (fL e++[10])).size:Int),.pv EN]∧H'=sC (k+1) (vA l (k+1)) true++H):=fun H h1 h2=>by
   have:=aIX (H:=H) (ofL (fL e++[10])) h1 h2 (by omega)
   rwa [hbl] at this
  refine aE<|Sq<|aG<|Sr<|Dd (xZ UI)<|Dd (by exact cQ rfl bS aV rfl (by omega) rfl rfl)<|Dd (by exact bC (id:=6) rfl WV rfl rfl)<|Uu (iH aV)<|Zz<|Sr<|Dd (pZ bS aV)<|Dd (by exact aA rfl rfl call171 rfl (aHU e _ (he e hem) (hv e hem)))<|Dd aF<|Dd dV<|Dd dV<|Dd aP<|Dd aP<|Zz<|Sr<|Dd aF<|Dd (by exact aA rfl rfl kV rfl (hw _ rfl rfl))<|Zz<|Sq ?_;refine bD (t:=30) (n:=7) (X:=!decide (iP e=0)||decide ((20000:Int) < ((vA l (k+1)).length:Int))) ?_ ?_
  ·all_goals refine Dd aF ?_
   all_goals refine Dd uL<|Dm ?_
   all_goals refine Sp 27 (fun h27=>?_) fun h27=>?_
   all_goals try contradiction
   all_goals first|refine Fo<|Fo ?_|refine On (by exact aA rfl rfl tX rfl (aHY (l:=vA l (k+1)) (g:=k+1) (u:=true) rfl rfl))<|On mI ?_
   all_goals refine Dd cE<|Zz ?_
   all_goals(exact⟨⟨_,rfl,by(simp only [*,Zo];done)⟩,rfl,rfl,rfl⟩)
  refine Cn ?_ ?_<;>intro hc3
  ·have hbad:iP e≠0∨20000 < (vA l k++(fL e++[10])).length:=by have h:=hc3;rw [← hnx];simp only [Bool.or_eq_true,aLc,aL1,aL0] at h;omega
   rw [aLS hbad] at hF;rw [hT,hF];exact Sr<|Dd aP<|Dd aP<|Zz<|aC<|Ru<|Qq
  have hfine:¬ (iP e≠0∨20000 < (vA l k++(fL e++[10])).length):=by have h:=hc3;rw [← hnx];simp only [aLf,Bool.not_eq_false',aL1,aL0] at h;omega
  rw [aLR hfine,← hnx] at hF;rw [← hnx] at hfine;refine aE<|Rg<|Dd pM<|Dd aF<|Zz ?_;exact⟨k+1,⟨hlt,hF,by omega⟩,by omega,(cD.wk (Ea<|Eb<|Eb<|Eb<|trivial) (Hc (eR rfl rfl)<|Hc (dG _ _)<|trivial) trivial)⟩
 have hge:k=l.length:=by have:=aLQ hc2;omega
 subst hge;rw [List.drop_length,sL] at hF;rw [hT,hF];exact bG<|Sr<|Dd (by exact aA rfl rfl kU rfl (aGc (l:=vA l l.length) (g:=l.length) (u:=uK l.length) rfl rfl (by omega)))<|Dd aP<|Dd aP<|Zz<|aC<|Ru<|Qq
theorem RP (s:ByteArray):(lP s).data.toList=(bL (s.size:Int)).data.toList++[58]++s.data.toList:=by rw [lP,ByteArray.data_append,ByteArray.data_append,Array.toList_append,Array.toList_append]
theorem NC (l:List ByteArray) (H:aB) (hl:(aO l).length < 35184372088832):aH Tryz.prog 47 [.pv (aU l)] H (fun r H'=>r=sv ⟨(aO l).toArray⟩∧H'=H):=by
 refine Pu ?_;have hml:(l.map encStr).length=l.length:=aLT _;have hll:=yU l;refine Bd func47 rfl ntmps47<|Sr<|Dd aP<|Zz<|Sr<|Dd (by exact bC (id:=2001) rfl D3 rfl rfl)<|Zz<|Sq<|Sq ?_;refine fE.ent (E':=[(0,.pv (aU l)),(3,.ref 2001 0 0 0)]) (H':=sC 0 [] false) (cD.bld0 ⟨⟨_,rfl,.same (by simp)⟩,⟨_,rfl,.same (by simp;rfl)⟩,trivial⟩) ?_;refine Rg<|Dd aF<|Dd (fY underlying77)<|Dd aF<|Zz<|aG ?_;refine N1 (fun(k g:Nat) (u:Bool)=>([(3,.ref 2001 0 0 0),(6,.pv (aU l)),(7,iv ((l.map encStr).length:Int)),(8,iv (k:Int))],sC g (aO (l.take k)) u)) (fun k g u=>k≤l.length) (fun k g u=>l.length - k) 0 0 false (aLa _) ?_ ?_
 ·exact(cD.wk (Ea<|Eb<|Eb<|Eb<|trivial) (Hc (eR rfl rfl)<|Hc (dG _ _)<|trivial) trivial)
 intro k g u hk;have hle:=wH l k;refine Sr<|Dd dK<|Zz<|Sq ?_;refine Cn ?_ ?_<;>intro hc1
 ·have hlt:k < l.length:=by have:=aLP hc1;omega
  obtain ⟨s,hs⟩:=bE hlt;have hi:=cJ (f:=encStr) hs;have hle2:=wH l (k+1);rw [zX hs,qG,aLU,kX,mS] at hle2;have hsz:s.size < 35184372088832:=by omega
  have hnx:aO (l.take (k+1))=aO (l.take k)++(bL (s.size:Int)).data.toList++[58]++s.data.toList:=by
   rw [zX hs,qG,RP,List.append_assoc,List.append_assoc,List.append_assoc]
  have hl1:(aO (l.take k)++(bL (s.size:Int)).data.toList).length=(aO (l.take k)).length+(bL (s.size:Int)).size:=by rw [aLU,kX]
  have hl2:(aO (l.take k)++(bL (s.size:Int)).data.toList++[58]).length=(aO (l.take k)).length+(bL (s.size:Int)).size+1:=by rw [aLU,hl1];rfl
  refine aE<|Sq<|aG<|Sr<|Dd (by exact bN rfl UH rfl rfl (by omega) (by exact aL4 _) hi rfl)<|Dd (pH isAgg9 (hi:=hi))<|Dd aP<|Zz<|Sr<|Dd aF<|Dd (nT underlying9)<|Dd (by exact aA rfl rfl mO rfl (qH (s.size:Int) (by omega) (by omega) _))<|Dd (by exact aA rfl rfl kV rfl (gJ g (aO (l.take k)) u (bL (s.size:Int)) (by omega)))<|Zz<|Sr<|Dd (by exact aA rfl rfl jE rfl (gK (g+1) (aO (l.take k)++(bL (s.size:Int)).data.toList) true 58 (by omega)))<|Zz<|Rg<|Dd aF<|Dd (by exact aA rfl rfl kV rfl (gJ (g+1+1) (aO (l.take k)++(bL (s.size:Int)).data.toList++[58]) true s (by omega)))<|Zz<|Rg<|Dd (by exact cA rfl rfl rfl (show IntKind.i64.wrap ((k:Int)+1)=((k+1:Nat):Int)by rw [pO (by omega) (by omega)];omega)) ?_;refine Dd aF<|Zz ?_;refine⟨k+1,g+1+1+1,true,by omega,by omega,?_⟩;rw [hnx];exact(cD.wk (Ea<|Eb<|Eb<|Eb<|trivial) (Hc (eR rfl rfl)<|Hc (dG _ _)<|trivial) trivial)
 have hge:k=l.length:=by have:=aLQ hc1;omega
 subst hge;rw [List.take_length];exact bG<|Sr<|Dd (by exact aA rfl rfl kU rfl (MH g (aO l) u (by omega)))<|Dd aP<|Zz<|aC<|Rt<|Qq
def jL (l:List GEdit):ByteArray×Bool:=if l.length=0 then(sNil,true)else((fZ l).1,decide ((fZ l).2=0))
theorem W9 (l:List GEdit) (H:aB) (hl:l.length < 1099511627776) (he:∀ e∈l,QM e):aH Tryz.prog 76 [.pv (iO l)] H (fun r H'=>r=.tup [sv (jL l).1,bv (jL l).2]∧H'=H):=by
 refine Pu ?_;have hml:(l.map aZ).length=l.length:=aLT _;have htx:=fun H=>XA l H (by omega) he;have e0:l.length=0→jL l=(sNil,true):=fun h=>by rw [jL,aLS h]
 have e1:l.length≠0→jL l=((fZ l).1,decide ((fZ l).2=0)):=fun h=>by rw [jL,aLR h]
 obtain ⟨T,hT⟩:∃ T,T=fZ l:=⟨_,rfl⟩;rw [← hT] at htx e1;refine Bd func76 rfl ntmps76<|Sr<|Dd aP<|Dd aP<|Zz<|Sq<|Sr<|Dd aF<|Dd (fY dD)<|Dd cY<|Zz ?_;refine Cn ?_ ?_<;>intro hc1
 ·have h0:l.length=0:=by have:=aLP hc1;omega
  rw [e0 h0];exact Sr<|Dd aP<|Dd aP<|Zz<|aC<|Ru<|Qq
 have h0:l.length≠0:=by have:=aLQ hc1;omega
 rw [e1 h0];exact aE<|Sr<|Dd aF<|Dd (by exact aA rfl rfl call122 rfl (htx _))<|Dd aF<|Dd dV<|Dd dV<|Dd aP<|Dd aP<|Zz<|Sr<|Dd aF<|Dd aF<|Dd cY<|Dd aP<|Dd aP<|Zz<|aC<|Ru<|Qq
def UR:ByteArray:=⟨#[114,101,99,111,114,100]⟩
def EC (r:GRec) (T:ByteArray):List IV:=[.t UR,.n r.kind,.n r.author,.n r.number,.n r.clock,.t r.branch,.l r.parents,.t T,.t r.target,.b r.yes,.n r.order,.t r.from']
def iE (r:GRec):Prop:=(oP r.kind∧oP r.author∧oP r.number∧oP r.clock∧oP r.order)∧(r.branch.size < 1099511627776∧r.target.size < 1099511627776∧r.from'.size < 1099511627776)∧LH r.parents∧(r.edits.length < 1099511627776∧∀ e∈r.edits,QM e)∧rI r.sl∧VC r.priv
theorem aEb {r:GRec} (h:iE r) (T:ByteArray):∀ v∈EC r T,okI v:=by
 obtain ⟨⟨a1,a2,a3,a4,a5⟩,_,b1,_⟩:=h;intro v hv;simp only [EC,aL5,aL9,or_false] at hv;rcases hv with rfl|rfl|rfl|rfl|rfl|rfl|rfl|rfl|rfl|rfl|rfl|rfl
 ·exact trivial
 ·exact a1
 ·exact a2
 ·exact a3
 ·exact a4
 ·exact trivial
 ·exact b1.1
 ·exact trivial
 ·exact trivial
 ·exact trivial
 ·exact a5
 exact trivial
theorem RL {r:GRec} (T:ByteArray):(tN (EC r T)).length=r.parents.length+12:=by simp [EC,tN,fI]
def oD (r:GRec):List ByteArray:=tN (EC r (jL r.edits).1)
def RM (r:GRec):Nat:=VY (EC r (jL r.edits).1)
theorem MS (r:GRec) (hr:iE r) (hp:r.parents.length < 549755813888):aH Tryz.prog 45 [av (bM r)] [] (fun x H'=>x=.osl 971 (RM r) 0 (oD r).length∧H'=[(971,⟨RM r,1,9,dO (oD r)⟩)]):=by
 have htx:=fun H=>W9 r.edits H hr.2.2.2.1.1 hr.2.2.2.1.2;rw [oD,RM];obtain ⟨T,hT⟩:∃ T,T=(jL r.edits).1:=⟨_,rfl⟩;obtain ⟨b,hb⟩:∃ b,b=(jL r.edits).2:=⟨_,rfl⟩;rw [← hT,← hb] at htx;rw [← hT];have hlen:=RL (r:=r) T;have hadd:=WR (EC r T) (aEb hr T) 0 [] (show 12 < 1099511627776 by decide) (by rw [hlen,List.length_nil];omega);rw [aLb,List.nil_append] at hadd;refine Bd func45 rfl ntmps45<|Sr<|Dd (by exact bZ (id:=1) rfl rfl rfl rfl rfl)<|Dd aP<|Zz<|Sr<|Dd (by exact bC (id:=970) rfl aIK rfl rfl)<|Zz<|Sr<|Dd (bB BR)<|Dd (bK mM)<|Dd (by exact aA rfl rfl call76 rfl (htx _))<|Dd aF<|Dd dV<|Dd dV<|Dd aP<|Dd aP<|Zz<|Sq ?_;refine fE.ent (E':=[(1,.ref 1 0 0 0),(3,.ref 970 0 0 0),(4,sv T)]) (H':=(971,⟨0,1,9,[]⟩)::(970,bx 1 77 [.osl 971 0 0 0])::(1,bx 21 30 ((bM r).map .pv))::[]) ?_ ?_
 ·exact(cD.nz 971 1 9 rfl rfl ⟨⟨_,rfl,(by exact Nz.same (by(simp;rfl)))⟩,⟨_,rfl,(by exact Nz.same (by(simp;rfl)))⟩,⟨_,rfl,(by exact Nz.same (by(simp;done)))⟩,trivial⟩ ⟨⟨_,rfl,rfl,rfl,rfl,(by exact .inr ⟨_,_,rfl,rfl,(by repeat(first|exact trivial|refine⟨(by exact Nz.own),?_⟩))⟩)⟩,⟨_,rfl,rfl,rfl,rfl,(by exact .inl ⟨rfl,(by(simp;done))⟩)⟩,trivial⟩ trivial)
 refine Rg<|Dd (by exact eC (p:=.str UR) rfl (cG underlying9 rfl) rfl)<|Dd (bB tL)<|Dd (bK isAgg3)<|Dd (by exact eC (p:=.int .i64 r.kind) rfl (cG underlying3 rfl) rfl)<|Dd (bB yZ)<|Dd (bK isAgg3)<|Dd (by exact eC (p:=.int .i64 r.author) rfl (cG underlying3 rfl) rfl)<|Dd (bB pT)<|Dd (bK isAgg3)<|Dd (by exact eC (p:=.int .i64 r.number) rfl (cG underlying3 rfl) rfl)<|Dd (bB yY)<|Dd (bK isAgg3)<|Dd (by exact eC (p:=.int .i64 r.clock) rfl (cG underlying3 rfl) rfl)<|Dd (bB yX)<|Dd (bK isAgg9)<|Dd (by exact eC (p:=.str r.branch) rfl (cG underlying9 rfl) rfl)<|Dd (bB oE)<|Dd (bK aJ)<|Dd (by exact eC (p:=aU r.parents) rfl (cG aD rfl) rfl)<|Dd aF<|Dd (by exact eC (p:=.str T) rfl (cG underlying9 rfl) rfl) ?_;refine Dd (bB yW)<|Dd (bK isAgg9)<|Dd (by exact eC (p:=.str r.target) rfl (cG underlying9 rfl) rfl)<|Dd (bB EZ)<|Dd (bK sD)<|Dd (by exact eC (p:=.bool r.yes) rfl (cG cL rfl) rfl)<|Dd (bB BQ)<|Dd (bK isAgg3)<|Dd (by exact eC (p:=.int .i64 r.order) rfl (cG underlying3 rfl) rfl)<|Dd (bB wM)<|Dd (bK isAgg9)<|Dd (by exact eC (p:=.str r.from') rfl (cG underlying9 rfl) rfl)<|Dd (by exact aS ((EC r T).map tO) rfl sN rfl rfl rfl rfl rfl (JZ (EC r T)))<|Dd (by exact aA rfl rfl sE rfl (TK hadd ⟨rfl,rfl,trivial⟩ (by simp;rfl)))<|Zz<|Sr<|Dd (bK AT)<|Dd aP<|Zz<|aC ?_;refine dF (H':=[(971,⟨VY (EC r T),1,9,dO (tN (EC r T))⟩)]) (.inr rfl) rfl (aT rfl) (Fin.wk (by(simp;rfl)) (Hc (bV _ _)<|trivial) trivial) ?_;exact Qq
end Go.Proofs.YtiifmppaejpemaaGreatDoor
section
namespace Go.Proofs
open Go.RowKit Go.Sort Go.Shelf
def aLI:Go.Shelf.Ren:=⟨fun|172=>118|244=>161|245=>162|247=>196|279=>197|280=>198|281=>199|282=>200|287=>230|316=>231|171=>113|205=>232|321=>261|322=>262|243=>158|246=>193|283=>223|284=>224|285=>225|286=>226|129=>256|317=>255|318=>257|319=>258|320=>259|337=>274|338=>275|n=>n,fun|9=>9|3=>3|75=>142|76=>143|4=>4|5=>5|167=>211|37=>124|0=>0|85=>212|2=>2|168=>214|53=>126|175=>240|46=>128|210=>243|127=>185|145=>274|143=>272|21=>21|171=>235|173=>238|212=>264|51=>265|20=>20|213=>266|232=>284|233=>285|80=>80|n=>n,fun|15=>1|16=>2|17=>5|18=>6|19=>7|n=>n⟩
theorem aLN:Go.Proofs.LaysC.n172 Tryz.prog aLI:={
  mixed:=by kernel_rfl
  f129:=Tryz.func256.trans (congrArg some (by kernel_rfl))
  f171:=Tryz.func113.trans (congrArg some (by kernel_rfl))
  f172:=Tryz.func118.trans (congrArg some (by kernel_rfl))
  f205:=Tryz.func232.trans (congrArg some (by kernel_rfl))
  f243:=Tryz.func158.trans (congrArg some (by kernel_rfl))
  f244:=Tryz.func161.trans (congrArg some (by kernel_rfl))
  f245:=Tryz.func162.trans (congrArg some (by kernel_rfl))
  f246:=Tryz.func193.trans (congrArg some (by kernel_rfl))
  f247:=Tryz.func196.trans (congrArg some (by kernel_rfl))
  f279:=Tryz.func197.trans (congrArg some (by kernel_rfl))
  f280:=Tryz.func198.trans (congrArg some (by kernel_rfl))
  f281:=Tryz.func199.trans (congrArg some (by kernel_rfl))
  f282:=Tryz.func200.trans (congrArg some (by kernel_rfl))
  f283:=Tryz.func223.trans (congrArg some (by kernel_rfl))
  f284:=Tryz.func224.trans (congrArg some (by kernel_rfl))
  f285:=Tryz.func225.trans (congrArg some (by kernel_rfl))
  f286:=Tryz.func226.trans (congrArg some (by kernel_rfl))
  f287:=Tryz.func230.trans (congrArg some (by kernel_rfl))
  f316:=Tryz.func231.trans (congrArg some (by kernel_rfl))
  f317:=Tryz.func255.trans (congrArg some (by kernel_rfl))
  f318:=Tryz.func257.trans (congrArg some (by kernel_rfl))
  f319:=Tryz.func258.trans (congrArg some (by kernel_rfl))
  f320:=Tryz.func259.trans (congrArg some (by kernel_rfl))
  f321:=Tryz.func261.trans (congrArg some (by kernel_rfl))
  f322:=Tryz.func262.trans (congrArg some (by kernel_rfl))
  f337:=Tryz.func274.trans (congrArg some (by kernel_rfl))
  f338:=Tryz.func275.trans (congrArg some (by kernel_rfl))
  t0:=aDZ
  a0:=aLE
  z0:=aKm
  v0:=aFq
  t2:=Tryz.underlying2
  a2:=Tryz.isAgg2
  z2:=Tryz.sizeOf2
  v2:=Tryz.zeroValue2
  t3:=Tryz.underlying3
  a3:=Tryz.isAgg3
  z3:=Tryz.sizeOf3
  v3:=zP
  t4:=cL
  a4:=sD
  z4:=Tryz.sizeOf4
  v4:=zO
  t5:=jK
  a5:=xS
  z5:=bR
  v5:=KN
  t9:=Tryz.underlying9
  a9:=Tryz.isAgg9
  z9:=Tryz.sizeOf9
  v9:=qU
  t20:=D1
  a20:=pN
  z20:=aJi
  v20:=aDY
  t21:=Tryz.underlying21
  a21:=Tryz.isAgg21
  z21:=Tryz.sizeOf21
  v21:=Tryz.zeroValue21
  t37:=cF
  a37:=cO
  z37:=lW
  v37:=Tryz.zeroValue124
  t46:=B6
  a46:=TY
  z46:=QD
  v46:=DY
  t51:=Tryz.underlying265
  a51:=Tryz.isAgg265
  z51:=Tryz.sizeOf265
  v51:=Tryz.zeroValue265
  t53:=sA
  a53:=FK
  z53:=B8
  v53:=DZ
  t75:=mL
  a75:=Tryz.isAgg142
  z75:=Tryz.sizeOf142
  v75:=Tryz.zeroValue142
  t76:=Tryz.underlying143
  a76:=Tryz.isAgg143
  z76:=Tryz.sizeOf143
  v76:=Tryz.zeroValue143
  t85:=Tryz.underlying212
  a85:=Tryz.isAgg212
  z85:=Tryz.sizeOf212
  v85:=Tryz.zeroValue212
  t127:=rY
  a127:=Tryz.isAgg185
  z127:=Tryz.sizeOf185
  v127:=Tryz.zeroValue185
  t143:=Tryz.underlying272
  a143:=Tryz.isAgg272
  z143:=Tryz.sizeOf272
  v143:=Tryz.zeroValue272
  t145:=Tryz.underlying274
  a145:=Tryz.isAgg274
  z145:=Tryz.sizeOf274
  v145:=Tryz.zeroValue274
  t167:=Tryz.underlying211
  a167:=Tryz.isAgg211
  z167:=Tryz.sizeOf211
  v167:=Tryz.zeroValue211
  t168:=Tryz.underlying214
  a168:=Tryz.isAgg214
  z168:=Tryz.sizeOf214
  v168:=Tryz.zeroValue214
  t171:=Tryz.underlying235
  a171:=Tryz.isAgg235
  z171:=Tryz.sizeOf235
  v171:=Tryz.zeroValue235
  t173:=Tryz.underlying238
  a173:=Tryz.isAgg238
  z173:=Tryz.sizeOf238
  v173:=Tryz.zeroValue238
  t175:=Tryz.underlying240
  a175:=Tryz.isAgg240
  z175:=Tryz.sizeOf240
  v175:=Tryz.zeroValue240
  t210:=Tryz.underlying243
  a210:=Tryz.isAgg243
  z210:=Tryz.sizeOf243
  v210:=Tryz.zeroValue243
  t212:=Tryz.underlying264
  a212:=Tryz.isAgg264
  z212:=Tryz.sizeOf264
  v212:=Tryz.zeroValue264
  t213:=Tryz.underlying266
  a213:=Tryz.isAgg266
  z213:=Tryz.sizeOf266
  t232:=Tryz.underlying284
  a232:=Tryz.isAgg284
  z232:=Tryz.sizeOf284
  v232:=Tryz.zeroValue284
  t233:=Tryz.underlying285
  a233:=Tryz.isAgg285
  z233:=Tryz.sizeOf285
  v233:=Tryz.zeroValue285
  g15:=by kernel_rfl
  g16:=by kernel_rfl
  g17:=by kernel_rfl
  g18:=by kernel_rfl
  g19:=by kernel_rfl
  t80:=Tryz.underlying80
  a80:=Tryz.isAgg80
  z80:=Tryz.sizeOf80
  v80:=Tryz.zeroValue80
  i0:=by kernel_rfl
  i2:=by kernel_rfl
  i3:=by kernel_rfl
  i4:=by kernel_rfl
  i5:=by kernel_rfl
  i9:=by kernel_rfl
  i20:=by kernel_rfl
  i21:=by kernel_rfl
  i37:=by kernel_rfl
  i46:=by kernel_rfl
  i51:=by kernel_rfl
  i53:=by kernel_rfl
  i75:=by kernel_rfl
  i76:=by kernel_rfl
  i80:=by kernel_rfl
  i85:=by kernel_rfl
  i127:=by kernel_rfl
  i143:=by kernel_rfl
  i145:=by kernel_rfl
  i167:=by kernel_rfl
  i168:=by kernel_rfl
  i171:=by kernel_rfl
  i173:=by kernel_rfl
  i175:=by kernel_rfl
  i210:=by kernel_rfl
  i212:=by kernel_rfl
  i232:=by kernel_rfl
  i233:=by kernel_rfl
  m15:=by kernel_rfl
  m16:=by kernel_rfl
  m17:=by kernel_rfl
  m18:=by kernel_rfl
  m19:=by kernel_rfl
  c0:=by kernel_rfl
  c2:=by kernel_rfl
  c3:=by kernel_rfl
  c4:=by kernel_rfl
  c5:=by kernel_rfl
  c9:=by kernel_rfl
  c20:=by kernel_rfl
  c21:=by kernel_rfl
  c37:=by kernel_rfl
  c46:=by kernel_rfl
  c51:=by kernel_rfl
  c53:=by kernel_rfl
  c75:=by kernel_rfl
  c76:=by kernel_rfl
  c80:=by kernel_rfl
  c85:=by kernel_rfl
  c127:=by kernel_rfl
  c143:=by kernel_rfl
  c145:=by kernel_rfl
  c167:=by kernel_rfl
  c168:=by kernel_rfl
  c171:=by kernel_rfl
  c173:=by kernel_rfl
  c175:=by kernel_rfl
  c210:=by kernel_rfl
  c212:=by kernel_rfl
  c213:=by kernel_rfl
  c232:=by kernel_rfl
  c233:=by kernel_rfl}
end Go.Proofs
namespace Go.Proofs.YtiifmppaejpemaaGreatDoor
open Go.Proofs.Tryz
open Go.Abs
theorem HJ (s:ByteArray) (hs:s.size < 1099511627776) (H:aB):aH Tryz.prog 118 [sv s] H (fun r H'=>r=.tup [iv (lO s).1,.pv (lO s).2]∧H'=H) :=Go.Abs.atoi_c aLN (G1:=1) (G2:=2) (by unfold PO;exact .tail _ (.tail _ (.head _))) (by kernel_rfl) (by unfold PO;exact .tail _ (.head _)) (by kernel_rfl) s hs H
end Go.Proofs.YtiifmppaejpemaaGreatDoor
end
namespace Go.Proofs.YtiifmppaejpemaaGreatDoor
open Go.Proofs.Tryz
open Go.Abs
theorem R3 (s:ByteArray) (H:aB) (hs:s.size < 1099511627776):aH Tryz.prog 166 [sv s] H (fun r H'=>r=iv (LI s.data.toList)∧H'=H):=by
 refine Pu ?_;have hA:=HJ s hs;unfold lO at hA;unfold LI;cases h:Lib.atoiAll s.data.toList with
 | ok v =>
  simp only [h] at hA;refine Bd aKp rfl aJk<|Sr<|Dd aP<|Zz<|Sr<|Dd aF<|Dd (by exact aA rfl rfl tZ rfl (hA _))<|Dd aF<|Dd dV<|Dd dV<|Dd aP<|Dd aP<|Zz<|Sq<|Sr<|Dd aF<|Dd (by exact IX rfl mL rfl)<|Zz ?_;refine Cn ?_ ?_<;>intro hc1
  ·cases hc1
  exact aE<|Sr<|Dd aF<|Dd aP<|Zz<|aC<|Rt<|Qq
 | range =>
  simp only [h] at hA;refine Bd aKp rfl aJk<|Sr<|Dd aP<|Zz<|Sr<|Dd aF<|Dd (by exact aA rfl rfl tZ rfl (hA _))<|Dd aF<|Dd dV<|Dd dV<|Dd aP<|Dd aP<|Zz<|Sq<|Sr<|Dd aF<|Dd (by exact BF rfl mL rfl)<|Zz ?_;refine Cn ?_ ?_<;>intro hc1
  ·exact Sr<|Dd aP<|Zz<|aC<|Rt<|Qq
  cases hc1
 | _ =>
  simp only [h] at hA;refine Bd aKp rfl aJk<|Sr<|Dd aP<|Zz<|Sr<|Dd aF<|Dd (by exact aA rfl rfl tZ rfl (hA _))<|Dd aF<|Dd dV<|Dd dV<|Dd aP<|Dd aP<|Zz<|Sq<|Sr<|Dd aF<|Dd (by exact BF rfl mL rfl)<|Zz ?_;refine Cn ?_ ?_<;>intro hc1
  ·exact Sr<|Dd aP<|Zz<|aC<|Rt<|Qq
  cases hc1
end Go.Proofs.YtiifmppaejpemaaGreatDoor
