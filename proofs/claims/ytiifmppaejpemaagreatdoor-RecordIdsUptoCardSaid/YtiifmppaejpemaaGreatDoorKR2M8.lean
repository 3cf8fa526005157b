/-
  Parts of the proof: rules of an abstract program logic, contracts of functions, plain laws. Conditions: each theorem's own.
-/
import Derived.Test.YtiifmppaejpemaaGreatDoorKR2M7
import Derived.Lib.Bytealg
import Derived.Lib.Strings
import Derived.Lib.AtoiTie
import Derived.Lib.ItoaMem
import Derived.Lib.ItoaLen
import Derived.Shelf.LaysC
import Derived.Ground.NamesProg
set_option linter.unusedVariables false
set_option linter.unusedSimpArgs false
set_option maxRecDepth 100000
set_option maxHeartbeats 8000000
namespace Go.Proofs
theorem wM:type_of% Tryz.call118:=Tryz.call118
theorem aCW:type_of% Tryz.call160:=Tryz.call160
theorem NB:type_of% Tryz.call195:=Tryz.call195
theorem wG:type_of% Tryz.call240:=Tryz.call240
theorem aCT:type_of% Tryz.func117:=Tryz.func117
theorem aCR:type_of% Tryz.func160:=Tryz.func160
theorem aNQ:type_of% Tryz.func166:=Tryz.func166
theorem kI:type_of% Tryz.isAgg23:=Tryz.isAgg23
theorem WQ:type_of% Tryz.ntmps117:=Tryz.ntmps117
theorem WO:type_of% Tryz.ntmps160:=Tryz.ntmps160
theorem aMD:type_of% Tryz.ntmps166:=Tryz.ntmps166
theorem oL:type_of% Tryz.underlying142:=Tryz.underlying142
end Go.Proofs
namespace Go.Abs
def fC (c:UInt8):List UInt8→List (List UInt8)
 | []=>[[]]
 | b::l=>if b=c then[]::fC c l else((b::(fC c l).headD [])::(fC c l).tail)
theorem yG (c:UInt8) (l:List UInt8):0 < (fC c l).length:=by
 cases l with
 | nil=>exact Nat.zero_lt_one
 | cons b l=>rw [fC];split<;>simp
theorem qZ {c:UInt8}:∀ {w:List UInt8},c∉w→fC c w=[w]
 | [],_=>rfl
 | b::w,h=>by
  rw [aOL,not_or] at h;rw [fC,aNx (fun e=>h.1 e.symm),qZ h.2];rfl
theorem mM {c:UInt8} {l:List UInt8}:∀ {w:List UInt8},c∉w→fC c (w++c::l)=w::fC c l
 | [],_=>by rw [List.nil_append,fC,aNy rfl]
 | b::w,h=>by
  rw [aOL,not_or] at h;rw [List.cons_append,fC,aNx (fun e=>h.1 e.symm),mM h.2];rfl
theorem tD (c:UInt8):∀ l:List UInt8,(fC c l).length=l.count c+1
 | []=>rfl
 | b::l=>by
  have ih:=tD c l;rw [fC];by_cases h:b=c
  ·rw [aNy h,aOB,ih,h,List.count_cons_self]
  rw [aNx h,aOB,List.length_tail,ih,List.count_cons_of_ne h];omega
def kB:List UInt8→List (List UInt8)
 | []=>[]
 | b::l=>if b=10 then[10]::kB l else match kB l with
  | []=>[[b]]
  | w::r=>(b::w)::r
theorem DQ {l:List UInt8}:∀ {w:List UInt8},(10:UInt8)∉w→kB (w++10::l)=(w++[10])::kB l
 | [],_=>by rw [List.nil_append,kB,aNy rfl];rfl
 | b::w,h=>by
  rw [aOL,not_or] at h;rw [List.cons_append,kB,aNx (fun e=>h.1 e.symm),DQ h.2];rfl
theorem IL:∀ {w:List UInt8},(10:UInt8)∉w→w≠[]→kB w=[w]
 | [],_,h=>absurd rfl h
 | b::w,h,_=>by
  rw [aOL,not_or] at h;rw [kB,aNx (fun e=>h.1 e.symm)];by_cases e:w=[]
  ·subst e;rfl
  rw [IL h.2 e]
theorem DA:∀ {ls:List (List UInt8)},(∀ w∈ls,(10:UInt8)∉w)→kB (ls.flatMap (·++[10]))=ls.map (·++[10])
 | [],_=>rfl
 | w::ls,h=>by
  rw [List.flatMap_cons,List.append_assoc,List.singleton_append,DQ (h w List.mem_cons_self),DA fun x hx=>h x (List.mem_cons_of_mem _ hx)];rfl
theorem uB {c:UInt8}:∀ {l:List UInt8},Lib.indexByte l c = -1↔c∉l
 | []=>by simp [Lib.indexByte]
 | b::l=>by
  have ih:=uB (c:=c) (l:=l);have hg:=Lib.indexByte_ge l c;rw [Lib.indexByte];by_cases h:b=c
  ·subst h;simp
  simp only [beq_iff_eq,h,if_false,aOL,not_or];constructor
  ·intro h2
   split at h2
   ·exact⟨fun e=>h e.symm,ih.1 (by assumption)⟩
   omega
  rintro⟨_,h2⟩;rw [ih.2 h2];rfl
theorem uC {c:UInt8}:∀ {l:List UInt8},Lib.indexByte l c ≠ -1→∃ w r,l=w++c::r∧c∉w∧Lib.indexByte l c=(w.length:Int)
 | [],h=>absurd rfl h
 | b::l,h=>by
  by_cases e:b=c
  ·subst e;exact⟨[],l,rfl,by simp,by simp [Lib.indexByte]⟩
  have e1:Lib.indexByte l c ≠ -1:=fun e2=>h (by rw [Lib.indexByte];simp [e,e2]);obtain ⟨w,r,h1,h2,h3⟩:=uC e1;refine⟨b::w,r,by rw [h1];rfl,by rw [aOL,not_or];exact⟨fun x=>e x.symm,h2⟩,?_⟩;rw [Lib.indexByte];simp only [beq_iff_eq,e,if_false,e1,h3,aOB];rw [aNx (by omega)]
  push_cast
  rfl
end Go.Abs
namespace Go.Abs
open Go.Lib
theorem aA4 {d:Nat} (h:d < 10):digitVal (UInt8.ofNat (48+d))=some d:=by
 have e:(UInt8.ofNat (48+d)).toNat=48+d:=by rw [UInt8.toNat_ofNat'];omega
 rw [digitVal,e,aNy (by omega)];congr 1;omega
theorem zK {b:UInt8} {d:Nat} (hb:digitVal b=some d):∀ (l:List UInt8) (acc:Nat),decFrom acc (l++[b])=(decFrom acc l).map fun n=>n*10+d
 | [],acc=>by
  simp [decFrom,hb]
 | c::l,acc=>by
  rw [List.cons_append,decFrom,decFrom];cases h:digitVal c with
  | none=>rfl
  | some x=>exact zK hb l _
theorem sS (u:Nat):decDigits u≠[]:=by
 rw [decDigits]
 split
 ·simp
 simp
theorem BT (u:Nat):decFrom 0 (decDigits u)=some u:=by
 induction u using Nat.strongRecOn with
 | ind u ih =>
  rw [decDigits]
  split
  ·rename_i h;rw [← List.nil_append [_],zK (aA4 h)];simp [decFrom]
  rename_i h;rw [zK (aA4 (Nat.mod_lt u (by decide))),ih (u / 10) (by omega)];simp only [Option.map_some];congr 1;omega
theorem qM {b:UInt8}:∀ (u:Nat),b∈decDigits u→48≤b.toNat∧b.toNat≤57:=by
 intro u
 induction u using Nat.strongRecOn with
 | ind u ih =>
  rw [decDigits]
  split
  ·rename_i h;intro hb;rw [aOC] at hb;subst hb;rw [UInt8.toNat_ofNat'];omega
  rename_i h;intro hb;rcases List.mem_append.1 hb with hb|hb
  ·exact ih (u / 10) (by omega) hb
  rw [aOC] at hb;subst hb;rw [UInt8.toNat_ofNat'];omega
theorem iA (n:Int) (h:0≤n):itoa n=decDigits n.toNat:=by rw [itoa,aNx (by omega)]
theorem aCK {n:Int} (h:0≤n):atoi (itoa n)=some n:=by
 rw [iA n h];obtain ⟨u,hu⟩:∃ u,u=n.toNat:=⟨_,rfl⟩;rw [← hu];have hd:=BT u;have hm:∀ b∈decDigits u,48≤b.toNat∧b.toNat≤57:=fun b=>qM u;cases e:decDigits u with
 | nil=>exact absurd e (sS u)
 | cons b r =>
  have hb:=hm b (by rw [e];exact List.mem_cons_self);have e2:decNat (b::r)=some u:=by rw [decNat,← e,hd];simp [sS]
  unfold atoi;simp only [e2];have h43:b≠43:=fun h=>by rw [h] at hb;exact absurd hb.1 (by decide)
  have h45:b≠45:=fun h=>by rw [h] at hb;exact absurd hb.1 (by decide)
  split<;>simp_all
  omega
theorem dU:∀ {k u:Nat},u < 10 ^ k→0 < k→(decDigits u).length≤k
 | 0,_,_,h=>absurd h (Nat.lt_irrefl 0)
 | k+1,u,h,_=>by
  rw [decDigits]
  split
  ·simp
  rename_i h1;rw [aOA,List.length_singleton];have hk:0 < k:=by
   rcases Nat.eq_zero_or_pos k with e|e
   ·subst e;omega
   exact e
  have hd:u / 10 < 10 ^ k:=by rw [Nat.pow_succ] at h;omega
  have:=dU hd hk;omega
theorem zO {n:Int} (h:0≤n) (h2:n < 1000000000000000000):atoiAll (itoa n)=.ok n:=by
 have hl:(itoa n).length≤18:=by
  rw [iA n h];exact dU (by omega) (by decide)
 rw [atoiAll_short _ hl,aCK h];rfl
end Go.Abs
namespace Go.Proofs.YtiifmppaejpemaaGreatDoor
open Go.Proofs.Tryz
open Go.Abs
def mA (o:GObj):List UInt8:=(eL o.kind).data.toList++32::(o.id.data.toList++32::(if o.kind=1 then Lib.itoa o.x++32::Lib.itoa o.y else 40::(bS [32] (bs o.refs)++[41])))
def sI (o:GObj):List UInt8:=mA o++nV o.tags
def tQ (o:GObj):ByteArray:=⟨(sI o).toArray⟩
def fJ (o:GObj):ByteArray×Int:=if kR o then(if 0 < o.tags.length∧(gY o.tags).2≠0 then(sNil,(gY o.tags).2)else if 20000 < (tQ o).size then(sNil,2)else(tQ o,0))else(sNil,1)
def atV (s:ByteArray):Int:=match Lib.atoiAll s.data.toList with
 | .ok v=>v
 | .range=>Lib.atoiSat s.data.toList
 | _=>0
def noF:GFound:=⟨0,sNil,0,0⟩
def rC (T:List GFound):List GFound:=T++List.replicate (4 - T.length) noF
def IM (s:ByteArray):Int:=if s=eL 5 then 5 else if s=eL 4 then 4 else if s=eL 3 then 3 else if s=eL 2 then 2 else if s=eL 1 then 1 else 0
def iF (f:GFound):Bool:=decide (f.text=⟨#[41]⟩)&&decide (f.kind=4)
def nT:List GFound→List GTag
 | a::_::c::r=>⟨a.text,c.text⟩::nT r
 | _=>[]
theorem KP:∀ {T:List GFound} {l:List GTag},yD T=some l→nT T=l
 | [],l,h=>by rw [yD] at h;cases h;rfl
 | [_],l,h=>by rw [yD] at h<;>(cases h;done)
 | [_,_],l,h=>by rw [yD] at h<;>(cases h;done)
 | a::b::c::r,l,h=>by
  rw [yD] at h;cases e:yD r with
  | none=>rw [e] at h;cases h
  | some q =>
   rw [e] at h;cases h;rw [nT,KP e]
def lV (T:List GFound):GObj :=if IM ((rC T).getD 0 noF).text=1 then⟨((rC T).getD 1 noF).text,1,atV ((rC T).getD 2 noF).text,atV ((rC T).getD 3 noF).text,[],nT ((rC T).drop 4)⟩
 else if vY iF (rC T) < 3 then zObj
 else⟨((rC T).getD 1 noF).text,IM ((rC T).getD 0 noF).text,0,0,(((rC T).take (vY iF (rC T)).toNat).drop 3).map GFound.text,nT ((rC T).drop ((vY iF (rC T)).toNat+1))⟩
def EB (s:ByteArray) (i:Nat) (r:List UInt8) (T:List GFound):Prop:=∀ n,r.length≤n→mT s n i=T
theorem F7 {s:ByteArray} {i j:Nat} {w r:List UInt8} {f:GFound} {T:List GFound} (hs:iP s i=(some f,j)) (hf:f.err=0) (hi:i < s.size) (hw:0 < w.length) (hT:EB s j r T):EB s i (w++r) (f::T):=by intro n hn;rw [aOA] at hn;obtain ⟨m,rfl⟩:∃ m,n=m+1:=⟨n - 1,by omega⟩;rw [mT,aNy hi,hs];show f::(if f.err=0 then mT s m j else[])=_;rw [aNy hf,hT m (by omega)]
theorem D3 {s:ByteArray} {i:Nat} {r:List UInt8} {T:List GFound} (h:s.data.toList.drop i=32::r) (hT:EB s (i+1) r T):EB s i (32::r) T:=by intro n hn;rw [aOB] at hn;obtain ⟨m,rfl⟩:∃ m,n=m+1:=⟨n - 1,by omega⟩;rw [mT,aNy (xP h).1,aGB h];exact hT m (by omega)
theorem all_nil {s:ByteArray} {i:Nat} (h:s.data.toList.drop i=[]):EB s i [] []:=by
 intro n _;have hge:¬ i < s.size:=by
  have:=List.drop_eq_nil_iff.1 h;rw [aW] at this;omega
 cases n with
 | zero=>rfl
 | succ n=>rw [mT,aNx hge]
theorem tU {s:ByteArray} {i:Nat} {w r:List UInt8} (h:s.data.toList.drop i=w++r) (hw:0 < w.length):i < s.size:=by
 rcases Nat.lt_or_ge i s.size with h1|h1
 ·exact h1
 rw [List.drop_eq_nil_of_le (by rw [aW];exact h1)] at h;have:=congrArg List.length h;rw [List.length_nil,aOA] at this;omega
def EL (r:List UInt8):Prop:=∀ c r',r=c::r'→BX (c.toNat:Int)≠3∧BX (c.toNat:Int)≠4∧BX (c.toNat:Int)≠5
theorem aAw:EL []:=fun c r' h=>by cases h
theorem qY (r:List UInt8):EL (32::r):=fun c r' h=>by cases h;exact⟨by decide,by decide,by decide⟩
theorem TQ (r:List UInt8):EL (41::r):=fun c r' h=>by cases h;exact⟨by decide,by decide,by decide⟩
theorem uN {s k:ByteArray} {i:Nat} {r:List UInt8} {T:List GFound} (h:s.data.toList.drop i=k.data.toList++r) (hk:bP k=true) (hr:EL r) (hT:EB s (i+k.size) r T):EB s i (k.data.toList++r) (⟨1,k,i,0⟩::T):=by have hp:=(yS hk).1;exact F7 (aAx h hk hr) rfl (tU h (by rw [aW];exact hp)) (by rw [aW];exact hp) hT
theorem S1 {s:ByteArray} {i:Nat} {r:List UInt8} {c:UInt8} {T:List GFound} (h:s.data.toList.drop i=c::r) (hc:BX (c.toNat:Int)=6) (hT:EB s (i+1) r T):EB s i (c::r) (⟨4,⟨#[c]⟩,i,0⟩::T):=by
 have ha:sT s i=6:=by rw [D2 h];exact hc
 have hx:=BR (w:=[c]) (r:=r) h;have hs:iP s i=(some ⟨4,⟨#[c]⟩,i,0⟩,i+1):=by
  rw [iP,aNx (by rw [ha];decide),aNx (by rw [ha];decide),aNx (by rw [ha];decide),aNx (by rw [ha];decide),aNx (by rw [ha];decide),aNy ha];rw [List.length_singleton] at hx;rw [hx]
 exact F7 (w:=[c]) hs rfl (xP h).1 Nat.zero_lt_one hT
theorem aHZ:∀ b:UInt8,48≤b.toNat→b.toNat≤57→BX (b.toNat:Int)=4:=by
 intro b h1 h2;have h:∀ n:Fin 256,48≤n.val→n.val≤57→BX (n.val:Int)=4:=by decide +kernel
 exact h ⟨b.toNat,b.toNat_lt⟩ h1 h2
theorem aAc {s:ByteArray} {i:Nat} {x:Int} {r:List UInt8} {T:List GFound} (h:s.data.toList.drop i=Lib.itoa x++r) (h0:0≤x) (h1:x < 10000000) (hr:EL r) (hT:EB s (i+(Lib.itoa x).length) r T):EB s i (Lib.itoa x++r) (⟨2,aT x,i,0⟩::T):=by
 have hw:=iA x h0;have hne:0 < (Lib.itoa x).length:=by rw [hw];exact List.length_pos_iff.2 (sS _)
 have hle:(Lib.itoa x).length≤7:=by rw [hw];exact dU (by omega) (by decide)
 have hat:∀ j,j < (Lib.itoa x).length→sT s (i+j)=4:=fun j hj=>by
  have hc:=aOE hj;rw [D2 (aA3 h hc)];have hm:(Lib.itoa x)[j]∈Lib.decDigits x.toNat:=by rw [← hw];exact List.getElem_mem hj
  obtain ⟨d1,d2⟩:=qM _ hm;exact aHZ _ d1 d2
 have hlen:i+(Lib.itoa x).length≤s.size:=by
  have:=congrArg List.length h;rw [aOO,aOA,aW] at this;have:=tU h hne;omega
 have ha0:sT s i=4:=hat 0 hne;have hd:=iS h;have hstop:sT s (i+(Lib.itoa x).length)≠3∧sT s (i+(Lib.itoa x).length)≠4∧sT s (i+(Lib.itoa x).length)≠5:=by
  cases r with
  | nil=>rw [aAa hd];exact⟨by decide,by decide,by decide⟩
  | cons c r'=>rw [D2 hd];exact hr c r' rfl
 have hend:SN s i=i+(Lib.itoa x).length:=by
  refine ER (aBW s) (by omega) (by omega) (fun j h1 h2=>?_) (.inl ?_)
  ·have:=hat (j - i) (by omega);rw [show i+(j - i)=j by omega] at this;rw [aBW,this];rfl
  rw [aBW,decide_eq_false hstop.2.1]
 have hs:iP s i=(some ⟨2,aT x,i,0⟩,i+(Lib.itoa x).length):=by
  rw [iP,aNx (by rw [ha0];decide),aNx (by rw [ha0];decide),aNx (by rw [ha0];decide),aNy ha0,hend,MK,BR h,decide_eq_false hstop.1,decide_eq_false hstop.2.2,decide_eq_false (by omega)];rfl
 exact F7 hs rfl (tU h hne) hne hT
theorem M9 {s:ByteArray}:∀ (l:List GTag) (i:Nat),(∀ t,t∈l→bP t.key=true)→s.data.toList.drop i=nV l→∃ T,EB s i (nV l) T∧WK T l
 | [],i,_,h=>⟨[],all_nil h,rfl,(fun f hf=>by cases hf),rfl⟩
 | t::l,i,hk,h=>by
  have hm:nV (t::l)=32::(t.key.data.toList++61::(eC t.val.data.toList++nV l)):=by
   rw [nV,List.flatMap_cons,P1];simp [nV]
  rw [hm] at h ⊢;have h1:=(xP h).2.2;have h2:=iS h1;rw [aW] at h2;have h3:=(xP h2).2.2;have h4:=iS h3;obtain ⟨T,hT,hR⟩:=M9 l _ (fun t ht=>hk t (List.mem_cons_of_mem _ ht)) h4;have hq:0 < (eC t.val.data.toList).length:=by rw [eC,aOB];omega
  have b3:=F7 (TR h3) rfl (tU h3 hq) hq hT;have b2:=S1 h2 (by decide) b3;have b1:=uN h1 (hk t List.mem_cons_self) (fun c r' e=>by cases e;exact⟨by decide,by decide,by decide⟩) b2;exact⟨_,D3 h b1,WK.cons hR rfl rfl rfl⟩
theorem FQ {o:GObj} (h:kR o=true):o.kind=1∨o.kind=2∨o.kind=3∨o.kind=4∨o.kind=5:=by have:=aBk h;omega
theorem B5 {k:Int} (h:k=1∨k=2∨k=3∨k=4∨k=5):bP (eL k)=true∧IM (eL k)=k:=by
 rcases h with rfl|rfl|rfl|rfl|rfl
 ·exact⟨by kernel_rfl,by decide⟩
 ·exact⟨by kernel_rfl,by decide⟩
 ·exact⟨by kernel_rfl,by decide⟩
 ·exact⟨by kernel_rfl,by decide⟩
 exact⟨by kernel_rfl,by decide⟩
theorem tJ {o:GObj} (h:kR o=true):∀ s∈o.refs,bP s=true:=fun s hs=>by
 rw [kR,aOI,aOI,aOS,aOS] at h;obtain ⟨i,hi⟩:=aOU.1 hs;have hlt:=(aOD.1 hi).1;have h1:=List.any_eq_false.1 h.2.1 i (List.mem_range.2 hlt);rw [pC,hi] at h1;simp only [HL,Bool.or_eq_true,not_or,Bool.not_eq_true,Bool.not_eq_false'] at h1;exact h1.2
theorem aA9 {o:GObj} (h:kR o=true):(0≤o.x∧o.x < 1048576)∧(0≤o.y∧o.y < 1048576)∧(o.kind=1→o.refs=[])∧(o.kind≠1→o.x=0∧o.y=0):=by
 rw [kR,aOI,aOI] at h;have h:=h.2.2;unfold MM at h
 split at h
 ·rename_i h1;rw [aOI,U7] at h;simp only [aOI,aOG] at h;refine⟨by omega,by omega,fun _=>List.length_eq_zero_iff.1 (by omega),fun e=>absurd h1 e⟩
 rename_i h1
 split at h<;>simp only [aOI,aOG] at h<;>exact⟨by omega,by omega,fun e=>absurd e h1,fun _=>by omega⟩
theorem WH {s:ByteArray}:∀ (l:List ByteArray) (i:Nat) (r:List UInt8) (T:List GFound),(∀ k,k∈l→bP k=true)→s.data.toList.drop i=l.flatMap (fun k=>32::k.data.toList)++r→EL r →
  EB s (i+(l.flatMap fun k=>32::k.data.toList).length) r T→∃ R:List GFound,EB s i (l.flatMap (fun k=>32::k.data.toList)++r) (R++T)∧R.map GFound.text=l∧∀ f∈R,f.kind=1∧f.err=0
 | [],i,r,T,_,h,_,hT=>⟨[],hT,rfl,(fun f hf=>by cases hf)⟩
 | k::l,i,r,T,hk,h,hr,hT=>by
  have hm:(k::l).flatMap (fun k=>32::k.data.toList)++r=32::(k.data.toList++(l.flatMap (fun k=>32::k.data.toList)++r)):=by
   rw [List.flatMap_cons];simp
  have hln:((k::l).flatMap fun k=>32::k.data.toList).length=1+k.size+(l.flatMap fun k=>32::k.data.toList).length:=by
   rw [List.flatMap_cons,aOA,aOB,aW];omega
  rw [hm] at h ⊢;have h1:=(xP h).2.2;have h2:=iS h1;rw [aW] at h2;obtain ⟨R,hR,e1,e2⟩:=WH l (i+1+k.size) r T (fun x hx=>hk x (List.mem_cons_of_mem _ hx)) h2 hr (by rw [hln] at hT;rw [show i+1+k.size+(l.flatMap fun k=>32::k.data.toList).length=i+(1+k.size+(l.flatMap fun k=>32::k.data.toList).length)by omega];exact hT);have hst:EL (l.flatMap (fun k=>32::k.data.toList)++r):=by
   cases l with
   | nil=>exact hr
   | cons a l=>rw [List.flatMap_cons];exact qY _
  refine⟨⟨1,k,i+1,0⟩::R,D3 h (uN h1 (hk k List.mem_cons_self) hst hR),by rw [List.map_cons,e1],fun f hf=>?_⟩;rcases aOL.1 hf with rfl|hf
  ·exact⟨rfl,rfl⟩
  exact e2 f hf
theorem yZ (k:ByteArray) (l:List ByteArray):bS [32] (bs (k::l))=k.data.toList++l.flatMap (fun k=>32::k.data.toList):=by rw [bs,List.map_cons,bS,List.flatMap_map];rfl
theorem aE2 {α:Type} {p:α→Bool} {c:α} {B:List α}:∀ {A:List α},(∀ a,a∈A→p a=false)→p c=true→vY p (A++c::B)=(A.length:Int):=by
 intro A hA hc;have h:(A++c::B).findIdx? p=some A.length:=by
  induction A with
  | nil=>rw [List.nil_append,List.findIdx?_cons,aNy hc];rfl
  | cons a A ih =>
   rw [List.cons_append,List.findIdx?_cons,aNx (by rw [hA a List.mem_cons_self];decide),ih fun x hx=>hA x (List.mem_cons_of_mem _ hx)];rfl
 rw [vY,h]
theorem W4 (l:List GTag):EL (nV l):=by
 cases l with
 | nil=>exact aAw
 | cons t l=>rw [nV,List.flatMap_cons];exact qY _
theorem WF {x:Int} (h:0≤x) (h2:x < 1000000000000000000):atV (aT x)=x:=by rw [atV];show (match Lib.atoiAll (Lib.itoa x)with|.ok v=>v|.range=>_|_=>0)=x;rw [zO h h2]
theorem aBL {o:GObj} (h:kR o=true) (hk:o.kind≠1):∃ k l,o.refs=k::l:=by
 have hk5:=FQ h;rw [kR,aOI,aOS,IR,rR] at h;have h1:=h.1;simp only [aOV,Bool.not_eq_false',aOH] at h1;have h4:=h1.1.2;have hl:1≤BK o.kind:=by
  rcases hk5 with e|e|e|e|e
  ·exact absurd e hk
  ·rw [e];decide
  ·rw [e];decide
  ·rw [e];decide
  rw [e];decide
 cases e:o.refs with
 | nil=>rw [e] at h4;exact absurd (show ((([]:List ByteArray).length:Nat):Int) < BK o.kind by show (0:Int) < _;omega) h4
 | cons k l=>exact⟨k,l,rfl⟩
theorem aAE {T:List GFound} (h:4≤T.length):rC T=T:=by rw [rC,show 4 - T.length=0 by omega,List.replicate_zero,List.append_nil]
theorem aB4 (o:GObj):(tQ o).data.toList.drop 0=sI o:=rfl
theorem aAG {o:GObj} {i:ByteArray} {k x y:Int} {r:List ByteArray} {t:List GTag} (h1:o.id=i) (h2:o.kind=k) (h3:o.x=x) (h4:o.y=y) (h5:o.refs=r) (h6:o.tags=t):(⟨i,k,x,y,r,t⟩:GObj)=o:=by subst h1 h2 h3 h4 h5 h6;rfl
theorem aDK {o:GObj} (hg:kR o=true):∃ T,EB (tQ o) 0 (sI o) T∧(∀ f,f∈T→f.err=0)∧T.length≤5000∧lV T=o:=by
 obtain ⟨hr,ht,htg,hid,_⟩:=BJ hg;obtain ⟨hx,hy,hn,hz⟩:=aA9 hg;obtain ⟨hw,hkw⟩:=B5 (FQ hg);have hkey:∀ t,t∈o.tags→bP t.key=true:=fun t h=>((xO.1 htg).1 t h).1;have h0:=aB4 o;by_cases hk:o.kind=1
 ·have e:sI o=(eL o.kind).data.toList++32::(o.id.data.toList++32::(Lib.itoa o.x++32::(Lib.itoa o.y++nV o.tags))):=by
   rw [sI,mA,aNy hk];simp
  rw [e] at h0 ⊢;have h1:=iS h0;rw [aW] at h1;have h2:=(xP h1).2.2;have h3:=iS h2;rw [aW] at h3;have h4:=(xP h3).2.2;have h5:=iS h4;have h6:=(xP h5).2.2;have h7:=iS h6;obtain ⟨T,hT,r1,r2,r3⟩:=M9 o.tags _ hkey h7;have b:=uN h0 hw (qY _) (D3 h1 (uN h2 hid (qY _) (D3 h3 (aAc h4 hx.1 (by omega) (qY _) (D3 h5 (aAc h6 hy.1 (by omega) (W4 _) hT))))));refine⟨_,b,fun f hf=>?_,?_,?_⟩
  ·simp only [aOL] at hf;rcases hf with rfl|rfl|rfl|rfl|hf
   ·rfl
   ·rfl
   ·rfl
   ·rfl
   exact r2 f hf
  ·simp only [aOB];omega
  rw [lV,aAE (by simp only [aOB];omega)];simp only [List.getD_cons_zero,List.getD_cons_succ,List.drop_succ_cons,List.drop_zero];rw [hkw,aNy hk,KP r1,WF hx.1 (by omega),WF hy.1 (by omega)];exact aAG rfl hk rfl rfl (hn hk) rfl
 obtain ⟨k,l,hkl⟩:=aBL hg hk;have hnm:=tJ hg;rw [hkl] at hnm;have e:sI o=(eL o.kind).data.toList++32::(o.id.data.toList++32::(40::(k.data.toList++(l.flatMap (fun k=>32::k.data.toList)++41::nV o.tags)))):=by
  rw [sI,mA,aNx hk,hkl,yZ];simp
 rw [e] at h0 ⊢;have h1:=iS h0;rw [aW] at h1;have h2:=(xP h1).2.2;have h3:=iS h2;rw [aW] at h3;have h4:=(xP h3).2.2;have h5:=(xP h4).2.2;have h6:=iS h5;rw [aW] at h6;have h7:=iS h6;have h8:=(xP h7).2.2;obtain ⟨T,hT,r1,r2,r3⟩:=M9 o.tags _ hkey h8;have hcl:=S1 h7 (by decide) hT;obtain ⟨R,hR,q1,q2⟩:=WH l _ _ _ (fun x hx=>hnm x (List.mem_cons_of_mem _ hx)) h6 (TQ _) hcl;have hst:EL (l.flatMap (fun k=>32::k.data.toList)++41::nV o.tags):=by
  cases l with
  | nil=>exact TQ _
  | cons a l=>rw [List.flatMap_cons];exact qY _
 have b:=uN h0 hw (qY _) (D3 h1 (uN h2 hid (qY _) (D3 h3 (S1 h4 (by decide) (uN h5 (hnm k List.mem_cons_self) hst hR)))));have hRl:R.length=l.length:=by rw [← q1,aNz]
 have hrl:o.refs.length=l.length+1:=by rw [hkl,aOB]
 refine⟨_,b,fun f hf=>?_,?_,?_⟩
 ·simp only [aOL,List.mem_append] at hf;rcases hf with rfl|rfl|rfl|rfl|hf|rfl|hf
  ·rfl
  ·rfl
  ·rfl
  ·rfl
  ·exact(q2 f hf).2
  ·rfl
  exact r2 f hf
 ·simp only [aOB,aOA];omega
 obtain ⟨A,hA⟩:∃ A:List GFound,A=⟨1,eL o.kind,0,0⟩::⟨1,o.id,0+(eL o.kind).size+1,0⟩::⟨4,⟨#[40]⟩,0+(eL o.kind).size+1+o.id.size+1,0⟩::⟨1,k,0+(eL o.kind).size+1+o.id.size+1+1,0⟩::R:=⟨_,rfl⟩;have hAl:A.length=R.length+4:=by rw [hA];rfl
 have hAc:∀ a,a∈A→iF a=false:=by
  intro a ha;rw [hA] at ha;simp only [aOL] at ha;rcases ha with rfl|rfl|rfl|rfl|ha
  ·rw [iF,decide_eq_false (show ¬ ((1:Int)=4)by decide),Bool.and_false]
  ·rw [iF,decide_eq_false (show ¬ ((1:Int)=4)by decide),Bool.and_false]
  ·rfl
  ·rw [iF,decide_eq_false (show ¬ ((1:Int)=4)by decide),Bool.and_false]
  rw [iF,(q2 a ha).1,decide_eq_false (show ¬ ((1:Int)=4)by decide),Bool.and_false]
 have hdrop:∀ c:GFound,(A++c::T).drop (A.length+1)=T:=fun c=>by
  rw [show A++c::T=(A++[c])++T by simp,show A.length+1=(A++[c]).length by simp,List.drop_left]
 have hx:=fun j=>aE2 (p:=iF) (c:=⟨4,⟨#[41]⟩,j,0⟩) (B:=T) hAc rfl;have hTT:∀ j,(⟨1,eL o.kind,0,0⟩::⟨1,o.id,0+(eL o.kind).size+1,0⟩::⟨4,⟨#[40]⟩,0+(eL o.kind).size+1+o.id.size+1,0⟩::⟨1,k,0+(eL o.kind).size+1+o.id.size+1+1,0⟩::(R++⟨4,⟨#[41]⟩,j,0⟩::T):List GFound)=A++⟨4,⟨#[41]⟩,j,0⟩::T:=fun j=>by rw [hA];rfl
 rw [lV,hTT,aAE (by rw [aOA,hAl];omega),hx,aNx (by rw [hA];show ¬ IM (eL o.kind)=1;rw [hkw];exact hk),aNx (by rw [hAl];omega),aOK,List.take_left,hdrop,KP r1];obtain ⟨z1,z2⟩:=hz hk;refine aAG ?_ ?_ z1 z2 ?_ rfl
 ·rw [hA];rfl
 ·rw [hA];show o.kind=IM (eL o.kind);rw [hkw]
 rw [hkl,hA];show k::l=k::R.map GFound.text;rw [q1]
def ofL (l:List UInt8):ByteArray:=⟨l.toArray⟩
theorem cZ (l:List UInt8):(ofL l).data.toList=l:=by simp [ofL]
theorem oG (s:ByteArray):ofL s.data.toList=s:=rW (cZ _)
theorem dA (l:List UInt8):(ofL l).size=l.length:=by rw [← aW,cZ]
def qU (s:ByteArray):GObj×Int:=if 20000 < s.size then(zObj,2)else if(iN s).2.1=0∧fJ (lV (iN s).1)=(s,0)then(lV (iN s).1,0)else(zObj,5)
theorem aAH {o:GObj} (h:(fJ o).2=0):kR o=true∧fJ o=(tQ o,0)∧(tQ o).size≤20000:=by
 rw [fJ] at h ⊢;by_cases hg:kR o=true
 ·rw [aNy hg] at h ⊢;by_cases h1:0 < o.tags.length∧(gY o.tags).2≠0
  ·rw [aNy h1] at h;exact absurd h h1.2
  rw [aNx h1] at h ⊢;by_cases h2:20000 < (tQ o).size
  ·rw [aNy h2] at h;cases h
  rw [aNx h2];exact⟨hg,rfl,by omega⟩
 rw [aNx hg] at h;cases h
theorem XN {o:GObj} (h:(fJ o).2=0):qU (fJ o).1=(o,0):=by
 obtain ⟨hg,ht,hs⟩:=aAH h;obtain ⟨T,hT,h1,h2,h3⟩:=aDK hg;have hlex:iN (tQ o)=(T,0,0):=by
  rw [iN,aNx (by omega),hT _ (by rw [← aW];exact Nat.le_succ _),HF T [] h1 (by rw [List.length_nil];omega),List.nil_append]
 rw [ht,qU,aNx (by show ¬ 20000 < (tQ o).size;omega)];show (if(iN (tQ o)).2.1=0∧fJ (lV (iN (tQ o)).1)=(tQ o,0)then(lV (iN (tQ o)).1,(0:Int))else(zObj,5))=(o,0);rw [hlex];show (if(0:Int)=0∧fJ (lV T)=(tQ o,0)then(lV T,(0:Int))else(zObj,5))=(o,0);rw [h3,aNy ⟨rfl,ht⟩]
def aAq:List UInt8:=[112,117,116]
def ZI:List UInt8:=[109,111,118,101]
def aAn:List UInt8:=[116,97,103]
def ZE:List UInt8:=[114,101,102,115]
def ZK:List UInt8:=[100,114,111,112]
def Q4:List UInt8:=[115,112,108,105,116]
def ZJ:List UInt8:=[106,111,105,110]
def fZ (e:GEdit):List (List UInt8) :=if e.op=2 then[ZI,e.id.data.toList,Lib.itoa e.x,Lib.itoa e.y] else if e.op=3 then[aAn,e.id.data.toList,e.key.data.toList,eC e.val.data.toList]
 else if e.op=4 then ZE::e.id.data.toList::bs e.refs else if e.op=5 then[ZK,e.id.data.toList]
 else if e.op=6 then[Q4,e.id.data.toList,e.node.data.toList,e.other.data.toList] else[ZJ,e.id.data.toList,e.other.data.toList]
def fA (e:GEdit):List UInt8:=if e.op=1 then aAq++32::(fJ e.obj).1.data.toList else bS [32] (fZ e)
def fG (e:GEdit):Int:=if e.op=1 then(fJ e.obj).2 else 0
def oP:List UInt8→List GEdit→List UInt8×Int
 | acc,[]=>(acc,0)
 | acc,e::r=>if fG e≠0∨20000 < (acc++(fA e++[10])).length then([],2)else oP (acc++(fA e++[10])) r
def fR (l:List GEdit):ByteArray×Int:=if jN l then(ofL (oP [] l).1,(oP [] l).2)else(sNil,1)
def N6 (s:List UInt8):Int:=match Lib.atoiAll s with
 | .ok v=>v
 | _ => -1
def VN:GEdit:=⟨0,sNil,sNil,sNil,0,0,sNil,sNil,[],zObj⟩
def A4 (w:List (List UInt8)) (word rest:List UInt8):GEdit :=if word=aAq then⟨1,sNil,sNil,sNil,0,0,sNil,sNil,[],(qU (ofL rest)).1⟩
 else if word=ZI∧w.length=4 then⟨2,ofL (w.getD 1 []),sNil,sNil,N6 (w.getD 2 []),N6 (w.getD 3 []),sNil,sNil,[],zObj⟩
 else if word=aAn∧3 < w.length then(match (iN (ofL (bS [32] (w.drop 3)))).1 with
  | [f]=>⟨3,ofL (w.getD 1 []),sNil,sNil,0,0,ofL (w.getD 2 []),f.text,[],zObj⟩
  | _=>VN)
 else if word=ZE∧1 < w.length then⟨4,ofL (w.getD 1 []),sNil,sNil,0,0,sNil,sNil,(w.drop 2).map ofL,zObj⟩
 else if word=ZK∧w.length=2 then⟨5,ofL (w.getD 1 []),sNil,sNil,0,0,sNil,sNil,[],zObj⟩
 else if word=Q4∧w.length=4 then⟨6,ofL (w.getD 1 []),ofL (w.getD 3 []),ofL (w.getD 2 []),0,0,sNil,sNil,[],zObj⟩
 else if word=ZJ∧w.length=3 then⟨7,ofL (w.getD 1 []),ofL (w.getD 2 []),sNil,0,0,sNil,sNil,[],zObj⟩
 else VN
def iQ (s:List UInt8):GEdit:=A4 (fC 32 s) ((fC 32 s).headD []) (s.drop (((fC 32 s).headD []).length+1))
def mC (t:ByteArray):List GEdit×Int :=if 20000 < t.size then([],2)else if fR ((kB t.data.toList).map fun s=>iQ (Lib.trimSuffix s [10]))=(t,0)then((kB t.data.toList).map fun s=>iQ (Lib.trimSuffix s [10]),0)else([],5)
theorem PW {k:ByteArray} (hk:bP k=true) {b:UInt8} (hb:b∈k.data.toList):BX (b.toNat:Int)=3∨BX (b.toNat:Int)=4∨BX (b.toNat:Int)=5:=by
 obtain ⟨j,hj⟩:=aOU.1 hb;have hlt:=(aOD.1 hj).1;rw [aW] at hlt;have h:=(yS hk).2.2.2 j hlt;have e:dB k j=(b.toNat:Int):=by rw [dB,hj];rfl
 rwa [e] at h
theorem qS {k:ByteArray} (hk:bP k=true):(32:UInt8)∉k.data.toList∧(10:UInt8)∉k.data.toList:=by
 constructor
 ·intro h;have:=PW hk h;revert this;decide
 intro h;have:=PW hk h;revert this;decide
theorem J4 {x:Int} (h:0≤x):(32:UInt8)∉Lib.itoa x∧(10:UInt8)∉Lib.itoa x:=by
 rw [iA x h];constructor
 ·intro h;have:=(qM _ h).1;revert this;decide
 intro h;have:=(qM _ h).1;revert this;decide
theorem UA (l:List UInt8):(10:UInt8)∉eC l:=by
 rw [eC];simp only [aOL,List.mem_append,List.mem_flatMap,aOP,or_false,not_or];refine⟨by decide,?_,by decide⟩;rintro⟨b,_,h⟩;rw [mV] at h;by_cases h1:b=10
 ·rw [aNy h1] at h;revert h;decide
 rw [aNx h1] at h;by_cases h2:b=34∨b=92
 ·rw [aNy h2] at h;simp only [aOL,aOP,or_false] at h;rcases h with h|h
  ·revert h;decide
  exact h1 h.symm
 rw [aNx h2,aOC] at h;exact h1 h.symm
theorem tZ {b:UInt8} (hb:b≠32):∀ {l:List (List UInt8)},(∀ w∈l,b∉w)→b∉bS [32] l
 | [],_,h=>by cases h
 | x::l,hl,h=>by
  rw [bS] at h;rcases List.mem_append.1 h with h|h
  ·exact hl x List.mem_cons_self h
  obtain ⟨y,hy,h⟩:=List.mem_flatMap.1 h;rcases List.mem_append.1 h with h|h
  ·rw [aOC] at h;exact hb h
  exact hl y (List.mem_cons_of_mem _ hy) h
theorem aGu {l:List GTag} (h:∀ t,t∈l→bP t.key=true):(10:UInt8)∉nV l:=by
 intro hm;obtain ⟨t,ht,hm⟩:=List.mem_flatMap.1 hm;rw [P1] at hm;simp only [aOL,List.mem_append] at hm;rcases hm with h1|h1|h1|h1
 ·revert h1;decide
 ·exact(qS (h t ht)).2 h1
 ·revert h1;decide
 exact UA _ h1
theorem aJ3 {o:GObj} (hg:kR o=true):(10:UInt8)∉sI o:=by
 obtain ⟨hr,ht,htg,hid,_⟩:=BJ hg;obtain ⟨hx,hy,_,_⟩:=aA9 hg;have hkey:∀ t,t∈o.tags→bP t.key=true:=fun t h=>((xO.1 htg).1 t h).1;intro h;rw [sI,mA] at h;simp only [aOL,List.mem_append] at h;rcases h with(h|h|h|h|h)|h
 ·exact(qS (B5 (FQ hg)).1).2 h
 ·revert h;decide
 ·exact(qS hid).2 h
 ·revert h;decide
 ·split at h
  ·simp only [aOL,List.mem_append] at h;rcases h with h|h|h
   ·exact(J4 hx.1).2 h
   ·revert h;decide
   exact(J4 hy.1).2 h
  simp only [aOL,List.mem_append,aOP,or_false] at h;rcases h with h|h|h
  ·revert h;decide
  ·refine tZ (by decide) (fun w hw=>?_) h;obtain ⟨s,hs,rfl⟩:=List.mem_map.1 hw;exact(qS (tJ hg s hs)).2
  revert h;decide
 exact aGu hkey h
abbrev oB (o:GObj):aB:=[(1,bx 6 153 ((bQ o).map .pv))]
theorem aGb {l:List UInt8} (h:l≠[]) (s:ByteArray):aBQ l s=l++32::s.data.toList:=by rw [aBQ,aNx h]
theorem aMi (K:aB) (s:ByteArray) (hl:s.size < 70368744177663):aI Tryz.prog 240 [.ref 2001 0 0 0,sv s] (nP 0 [] false++K) (fun r H'=>r=.tup []∧H'=nP 1 s.data.toList true++K):=by
 have h:=aDY K 0 [] false s (by rw [List.length_nil];omega)
 rwa [aNy rfl,show aBQ [] s=s.data.toList from rfl] at h
theorem aBR (K:aB) (g:Nat) (l:List UInt8) (s:ByteArray) (h0:l≠[]) (hl:l.length+s.size < 70368744177663):aI Tryz.prog 240 [.ref 2001 0 0 0,sv s] (nP g l true++K) (fun r H'=>r=.tup []∧H'=nP (g+2) (l++32::s.data.toList) true++K):=by
 have h:=aDY K g l true s hl
 rwa [aNx h0,aGb h0] at h
theorem JM (K:aB) (g:Nat) (l:List UInt8) (u:Bool) (hl:l.length < 70368744177664):aI Tryz.prog 116 [.ref 2001 0 0 0] (nP g l u++K) (fun r H'=>r=sv ⟨l.toArray⟩∧H'=WC g l u++(nP g l u++K)) :=aI.frame (aIn g l u hl) aIm (eG.ofL ⟨(by exact M0 rfl rfl),(by exact eK _ _),trivial⟩) (by simp;rfl) (fun id h=>.inl (by
  simp only [WC,nP,aB.get] at h ⊢;cases e1:Nat.beq 2001 id with
  | true=>rfl
  | false =>
   cases e2:Nat.beq 2002 id with
   | true=>rfl
   | false=>rw [e1,e2] at h;cases h))
theorem PR {o:GObj} (hg:kR o=true) (h:0 < o.tags.length∧(gY o.tags).2≠0):fJ o=(sNil,(gY o.tags).2):=by rw [fJ,aNy hg,aNy h]
theorem CE {o:GObj} {L:List UInt8} (hg:kR o=true) (h:¬ (0 < o.tags.length∧(gY o.tags).2≠0)) (hL:sI o=L) (h2:20000 < L.length):fJ o=(sNil,2):=by
 have hs:(tQ o).size=L.length:=by rw [← hL,← aW];rfl
 rw [fJ,aNy hg,aNx h,aNy (by rw [hs];exact h2)]
theorem CF {o:GObj} {L:List UInt8} (hg:kR o=true) (h:¬ (0 < o.tags.length∧(gY o.tags).2≠0)) (hL:sI o=L) (h2:¬ 20000 < L.length):fJ o=(⟨L.toArray⟩,0):=by
 have hs:(tQ o).size=L.length:=by rw [← hL,← aW];rfl
 rw [fJ,aNy hg,aNx h,aNx (by rw [hs];exact h2),tQ,hL]
theorem sV {l:List GTag} (h0:0 < l.length) (h:(gY l).2=0):32::(gY l).1.data.toList=nV l∧(gY l).1.size≤20000:=by
 rw [gY] at h ⊢;by_cases h1:pN l=true
 ·rw [aNy h1] at h ⊢;by_cases h2:20000 < (IQ l).size
  ·rw [aNy h2] at h;cases h
  rw [aNx h2];refine⟨?_,by show (IQ l).size≤_;omega⟩;cases l with
  | nil=>exact absurd h0 (Nat.lt_irrefl 0)
  | cons t l =>
   show 32::(IQ (t::l)).data.toList=_;rw [OX];simp [nV]
 rw [aNx h1] at h;cases h
theorem CM:∀ l:List ByteArray,(l.flatMap fun k=>32::k.data.toList).length=l.length+cV l
 | []=>rfl
 | k::l=>by
  have ih:=CM l;rw [List.flatMap_cons,aOA,aOB,aOB,ih,aW,cV,cV,List.map_cons,List.sum_cons];omega
theorem eW (l:List ByteArray):(bS [32] (bs l)).length≤l.length+cV l:=by
 cases l with
 | nil=>exact aOQ _
 | cons k l =>
  rw [yZ,aOA,CM,aW,aOB,cV,cV,List.map_cons,List.sum_cons];omega
theorem PO (o:GObj) (H:aB) (ho:okO o):aI Tryz.prog 203 [av (bQ o)] H (fun r H'=>r=.tup [sv (fJ o).1,iv (fJ o).2]∧H'=H):=by
 refine Pu ?_;refine Bd func203 rfl ntmps203<|Sr<|Dd (by exact cH (id:=1) rfl rfl rfl rfl rfl)<|Dd aN<|Dd aN<|Zz<|Sq<|Sr<|Dd (rQ cU sizeOf153)<|Dd (by exact aA rfl rfl call239 rfl (LO o _ ho))<|Dd jS<|Zz ?_;refine Cn ?_ ?_<;>intro hc1
 ·have hg:kR o=false:=by rw [← aOS];exact hc1
  have e:fJ o=(sNil,1):=by rw [fJ,aNx (by rw [hg];decide)]
  rw [e];exact Sr<|Dd aN<|Dd aN<|Zz<|aC<|Ru<|Qq
 have hg:kR o=true:=by rw [← Bool.not_eq_false'];exact hc1
 obtain ⟨hr,ht,htg,hid,_⟩:=BJ hg;obtain ⟨hx,hy,hn,hz⟩:=aA9 hg;have hw:=(B5 (FQ hg)).1;have hws:=dG hw;have his:=dG hid;have hwp:=(yS hw).1;have hw0:(eL o.kind).data.toList≠[]:=fun e=>by have:=congrArg List.length e;rw [aW,List.length_nil] at this;omega
 refine aD<|Sr<|Dd (by exact bU (id:=2001) rfl aIa rfl rfl)<|Zz<|Sq ?_;refine gK.ent (E':=[(1,.ref 1 0 0 0),(2,sv sNil),(3,iv 0),(4,.ref 2001 0 0 0)]) (H':=[(2002,⟨0,1,5,[]⟩),(2001,D1 (.osl 2002 0 0 0) false),(1,bx 6 153 ((bQ o).map .pv))]) (cY.nz 2002 1 5 rfl rfl ⟨⟨_,rfl,(by exact Nz.same (by(simp;rfl)))⟩,⟨_,rfl,(by exact Nz.same (by(simp;done)))⟩,⟨_,rfl,(by exact Nz.same (by(simp;done)))⟩,⟨_,rfl,(by exact Nz.same (by(simp;rfl)))⟩,trivial⟩ ⟨⟨_,rfl,rfl,rfl,rfl,(by exact .inr ⟨_,_,rfl,rfl,(by repeat(first|exact trivial|refine⟨(by first|exact Nz.own|exact Nz.same (by(simp;done))),?_⟩))⟩)⟩,⟨_,rfl,rfl,rfl,rfl,(by exact .inl ⟨rfl,(by(simp;done))⟩)⟩,trivial⟩ trivial) ?_;refine gK.ent (E':=[(1,.ref 1 0 0 0),(2,sv sNil),(3,iv 0),(4,.ref 2001 0 0 0)]) (H':=nP 0 [] false++oB o) (cY.get (fun _=>rfl) (fun j=>nX (by decide) j)) ?_;refine Rg<|Dd (aV dX)<|Dd (bM isAgg3)<|Dd (by exact aA rfl rfl wH rfl (DG o.kind _))<|Dd (by exact aA rfl rfl wG rfl (aMi (oB o) (eL o.kind) (by omega)))<|Zz<|Sr<|Dd (aV nE)<|Dd (bM isAgg9)<|Dd (by exact aA rfl rfl wG rfl (aBR (oB o) 1 (eL o.kind).data.toList o.id hw0 (by rw [aW];omega)))<|Zz<|Sq<|Sq ?_;obtain ⟨L1,hL1⟩:∃ L,L=(eL o.kind).data.toList++32::o.id.data.toList:=⟨_,rfl⟩;have hn1:L1≠[]:=by rw [hL1];simp
 have hl1:L1.length≤49:=by rw [hL1,aOA,aOB,aW,aW];omega
 rw [← hL1];by_cases hk:o.kind=1
 ·have six:(aT o.x).size≤7:=by rw [← aW];show (Lib.itoa o.x).length≤7;rw [iA _ hx.1];exact dU (by omega) (by decide)
  have siy:(aT o.y).size≤7:=by rw [← aW];show (Lib.itoa o.y).length≤7;rw [iA _ hy.1];exact dU (by omega) (by decide)
  obtain ⟨L2,hL2⟩:∃ L,L=L1++32::(aT o.x).data.toList:=⟨_,rfl⟩;have hn2:L2≠[]:=by rw [hL2];simp
  have hl2:L2.length≤57:=by rw [hL2,aOA,aOB,aW];omega
  have p2:=aBR (oB o) (1+2) L1 (aT o.x) hn1 (by omega);rw [← hL2] at p2;obtain ⟨L3,hL3⟩:∃ L,L=L2++32::(aT o.y).data.toList:=⟨_,rfl⟩;have hn3:L3≠[]:=by rw [hL3];simp
  have hl3:L3.length≤200000:=by rw [hL3,aOA,aOB,aW];omega
  have p3:=aBR (oB o) (1+2+2) L2 (aT o.y) hn2 (by omega);rw [← hL3] at p3;have hH:mA o=L3:=by
   rw [mA,aNy hk,hL3,hL2,hL1];show _=(_++32::Lib.itoa o.x)++32::Lib.itoa o.y;simp
  refine Rg<|Dd (aV dX)<|Dd (bM isAgg3)<|Dd cT<|Zz ?_;refine Cn ?_ ?_<;>intro hc2
  ·refine Sr<|Dd (aV lD)<|Dd (aV pS)<|Dd (bM isAgg3)<|Dd (by exact aA rfl rfl oO rfl (sM o.x (by omega) (by omega) _))<|Dd (by exact aA rfl rfl wG rfl (p2))<|Zz<|Rg<|Dd (aV lD)<|Dd (aV pR)<|Dd (bM isAgg3)<|Dd (by exact aA rfl rfl oO rfl (sM o.y (by omega) (by omega) _))<|Dd (by exact aA rfl rfl wG rfl (p3))<|Zz<|Sq<|Sr<|Dd (aV eU)<|Dd (bM cM)<|Dd (fY cS)<|Dd jE<|Zz ?_;refine Cn ?_ ?_<;>intro hc3
   ·have htp:0 < o.tags.length:=by have:=aNv hc3;rw [aNz] at this;omega
    refine Sr<|Dd (aV eU)<|Dd (bM cM)<|Dd (by exact aA rfl rfl call241 rfl (OW o.tags _ ho.2.1))<|Dd aF<|Dd fL<|Dd fL<|Dd aN<|Dd aN<|Zz<|Sq<|Sr<|Dd aF<|Dd AI<|Zz ?_;refine Cn ?_ ?_<;>intro hc4
    ·have hte:(gY o.tags).2≠0:=by have hq:=hc4;rw [aOS,aOH] at hq;exact hq
     rw [PR hg ⟨htp,hte⟩];exact Sr<|Dd aF<|Dd aN<|Dd aN<|Zz<|aC<|Ru<|Qq
    have hte:(gY o.tags).2=0:=by have hq:=hc4;rw [Bool.not_eq_false',aOG] at hq;exact hq
    have hlen2:(L3++32::(gY o.tags).1.data.toList).length≤300000:=by have:=hl3;have:=(sV htp hte).2;rw [aOA,aOB,aW];omega
    have hLL:sI o=L3++32::(gY o.tags).1.data.toList:=by rw [(sV htp hte).1,sI,hH]
    refine aD<|Rg<|Dd aF<|Dd (by exact aA rfl rfl wG rfl (aBR (oB o) (1+2+2+2) L3 (gY o.tags).1 hn3 (by have:=hl3;have:=(sV htp hte).2;omega)))<|Zz<|Sq<|Sr<|Dd (aV nB)<|Dd (by exact aA rfl rfl wJ rfl (J3 (oB o) ((1+2+2+2)+2) (L3++32::(gY o.tags).1.data.toList) true))<|Dd jE<|Zz ?_;refine Cn ?_ ?_<;>intro hc5
    ·have hlong:=aNv hc5;rw [CE hg (fun h=>h.2 hte) hLL (by omega)];exact Sr<|Dd aN<|Dd aN<|Zz<|aC<|Ru<|Qq
    have hlong:=aNw hc5;rw [CF hg (fun h=>h.2 hte) hLL (by omega)];exact aD<|Sr<|Dd (aV nB)<|Dd (by exact aA rfl rfl mJ rfl (JM (oB o) ((1+2+2+2)+2) (L3++32::(gY o.tags).1.data.toList) true (by have:=hlen2;omega)))<|Dd aN<|Dd aN<|Zz<|aC<|Ru<|Qq
   have htp:¬ 0 < o.tags.length:=by have:=aNw hc3;rw [aNz] at this;omega
   have hLL:sI o=L3:=by rw [sI,hH,List.length_eq_zero_iff.1 (by omega:o.tags.length=0)];exact List.append_nil _
   refine aD<|Sq<|Sr<|Dd (aV nB)<|Dd (by exact aA rfl rfl wJ rfl (J3 (oB o) (1+2+2+2) L3 true))<|Dd jE<|Zz ?_;refine Cn ?_ ?_<;>intro hc6
   ·have hlong:=aNv hc6;rw [CE hg (fun h=>htp h.1) hLL (by omega)];exact Sr<|Dd aN<|Dd aN<|Zz<|aC<|Ru<|Qq
   have hlong:=aNw hc6;rw [CF hg (fun h=>htp h.1) hLL (by omega)];exact aD<|Sr<|Dd (aV nB)<|Dd (by exact aA rfl rfl mJ rfl (JM (oB o) (1+2+2+2) L3 true (by have:=hl3;omega)))<|Dd aN<|Dd aN<|Zz<|aC<|Ru<|Qq
  exact absurd hk (aNw hc2)
 have hsz:cV o.refs≤24*o.refs.length:=mN (fun s hs=>dG (tJ hg s hs));have hjl:=eW o.refs;obtain ⟨J,hJ⟩:∃ J:ByteArray,J=⟨(bS [32] (bs o.refs)).toArray⟩:=⟨_,rfl⟩;have hj:∀ H,aI Tryz.prog 168 [.pv (aX o.refs),sv ⟨#[32]⟩] H (fun x H'=>x=sv J∧H'=H):=fun H=>by
  rw [hJ];exact sK o.refs ⟨#[32]⟩ H (by decide) (by show 1*_+_+_ < _;omega)
 have hJl:J.data.toList=bS [32] (bs o.refs):=by rw [hJ]
 obtain ⟨L3,hL3⟩:∃ L,L=L1++32::((⟨#[40]⟩:ByteArray)++J++⟨#[41]⟩).data.toList:=⟨_,rfl⟩;have hQ:((⟨#[40]⟩:ByteArray)++J++⟨#[41]⟩).data.toList=40::(bS [32] (bs o.refs)++[41]):=by rw [← hJl];simp
 have hQs:((⟨#[40]⟩:ByteArray)++J++⟨#[41]⟩).size≤60000:=by rw [← aW,hQ,aOB,aOA,List.length_singleton];omega
 have hJs:J.size≤52000:=by rw [← aW,hJl];omega
 have h40:(⟨#[40]⟩:ByteArray).size=1:=rfl;have h41:(⟨#[41]⟩:ByteArray).size=1:=rfl;have hAs:((⟨#[40]⟩:ByteArray)++J).size=1+J.size:=by rw [ByteArray.size_append,h40]
 have hn3:L3≠[]:=by rw [hL3];simp
 have hl3:L3.length≤200000:=by rw [hL3,aOA,aOB,aW];omega
 have p3:=aBR (oB o) (1+2) L1 ((⟨#[40]⟩:ByteArray)++J++⟨#[41]⟩) hn1 (by omega);rw [← hL3] at p3;have hH:mA o=L3:=by
  rw [mA,aNx hk,hL3,hL1,hQ];simp
 refine Rg<|Dd (aV dX)<|Dd (bM isAgg3)<|Dd cT<|Zz ?_;refine Cn ?_ ?_<;>intro hc7
 ·exact absurd (aNv hc7) hk
 refine Rg<|Dd (aV dO)<|Dd (bM aH)<|Dd (by exact aA rfl rfl oN rfl (hj _))<|Dd (by exact cD rfl rfl rfl (by omega) rfl)<|Dd (by exact cD rfl rfl rfl (by omega) rfl)<|Dd (by exact aA rfl rfl wG rfl (p3))<|Zz<|Sq<|Sr<|Dd (aV eU)<|Dd (bM cM)<|Dd (fY cS)<|Dd jE<|Zz ?_;refine Cn ?_ ?_<;>intro hc8
 ·have htp:0 < o.tags.length:=by have:=aNv hc8;rw [aNz] at this;omega
  refine Sr<|Dd (aV eU)<|Dd (bM cM)<|Dd (by exact aA rfl rfl call241 rfl (OW o.tags _ ho.2.1))<|Dd aF<|Dd fL<|Dd fL<|Dd aN<|Dd aN<|Zz<|Sq<|Sr<|Dd aF<|Dd AI<|Zz ?_;refine Cn ?_ ?_<;>intro hc9
  ·have hte:(gY o.tags).2≠0:=by have hq:=hc9;rw [aOS,aOH] at hq;exact hq
   rw [PR hg ⟨htp,hte⟩];exact Sr<|Dd aF<|Dd aN<|Dd aN<|Zz<|aC<|Ru<|Qq
  have hte:(gY o.tags).2=0:=by have hq:=hc9;rw [Bool.not_eq_false',aOG] at hq;exact hq
  have hlen2:(L3++32::(gY o.tags).1.data.toList).length≤300000:=by have:=hl3;have:=(sV htp hte).2;rw [aOA,aOB,aW];omega
  have hLL:sI o=L3++32::(gY o.tags).1.data.toList:=by rw [(sV htp hte).1,sI,hH]
  refine aD<|Rg<|Dd aF<|Dd (by exact aA rfl rfl wG rfl (aBR (oB o) (1+2+2) L3 (gY o.tags).1 hn3 (by have:=hl3;have:=(sV htp hte).2;omega)))<|Zz<|Sq<|Sr<|Dd (aV nB)<|Dd (by exact aA rfl rfl wJ rfl (J3 (oB o) ((1+2+2)+2) (L3++32::(gY o.tags).1.data.toList) true))<|Dd jE<|Zz ?_;refine Cn ?_ ?_<;>intro hc10
  ·have hlong:=aNv hc10;rw [CE hg (fun h=>h.2 hte) hLL (by omega)];exact Sr<|Dd aN<|Dd aN<|Zz<|aC<|Ru<|Qq
  have hlong:=aNw hc10;rw [CF hg (fun h=>h.2 hte) hLL (by omega)];exact aD<|Sr<|Dd (aV nB)<|Dd (by exact aA rfl rfl mJ rfl (JM (oB o) ((1+2+2)+2) (L3++32::(gY o.tags).1.data.toList) true (by have:=hlen2;omega)))<|Dd aN<|Dd aN<|Zz<|aC<|Ru<|Qq
 have htp:¬ 0 < o.tags.length:=by have:=aNw hc8;rw [aNz] at this;omega
 have hLL:sI o=L3:=by rw [sI,hH,List.length_eq_zero_iff.1 (by omega:o.tags.length=0)];exact List.append_nil _
 refine aD<|Sq<|Sr<|Dd (aV nB)<|Dd (by exact aA rfl rfl wJ rfl (J3 (oB o) (1+2+2) L3 true))<|Dd jE<|Zz ?_;refine Cn ?_ ?_<;>intro hc11
 ·have hlong:=aNv hc11;rw [CE hg (fun h=>htp h.1) hLL (by omega)];exact Sr<|Dd aN<|Dd aN<|Zz<|aC<|Ru<|Qq
 have hlong:=aNw hc11;rw [CF hg (fun h=>htp h.1) hLL (by omega)];exact aD<|Sr<|Dd (aV nB)<|Dd (by exact aA rfl rfl mJ rfl (JM (oB o) (1+2+2) L3 true (by have:=hl3;omega)))<|Dd aN<|Dd aN<|Zz<|aC<|Ru<|Qq
theorem qH:∀ {l:List (List UInt8)} {w:List UInt8},(32:UInt8)∉w→(∀ x∈l,(32:UInt8)∉x)→fC 32 (bS [32] (w::l))=w::l
 | [],w,h,_=>by rw [bS,List.flatMap_nil,List.append_nil];exact qZ h
 | a::l,w,h,hl=>by
  have e:bS [32] (w::a::l)=w++32::bS [32] (a::l):=by rw [bS,List.flatMap_cons,bS];simp
  rw [e,mM h,qH (hl a List.mem_cons_self) fun x hx=>hl x (List.mem_cons_of_mem _ hx)]
theorem MD:∀ l:List UInt8,bS [32] (fC 32 l)=l
 | []=>rfl
 | b::l=>by
  have ih:=MD l;have hp:=yG 32 l;rw [fC];cases e:fC 32 l with
  | nil=>rw [e] at hp;exact absurd hp (Nat.lt_irrefl 0)
  | cons x r =>
   rw [e,bS] at ih;by_cases h:b=32
   ·rw [aNy h,bS,List.flatMap_cons,List.nil_append,List.append_assoc,ih,h];rfl
   rw [aNx h,bS,List.headD_cons,List.tail_cons,List.cons_append,ih]
theorem PS {x:Int} (h:0≤x) (h2:x < 1000000000000000000):N6 (Lib.itoa x)=x:=by rw [N6,zO h h2]
theorem aKD (l:List ByteArray):(bs l).map ofL=l:=by rw [bs,List.map_map];exact(List.map_congr_left fun s _=>oG s).trans (List.map_id _)
theorem VE:∀ l:List UInt8,(l.flatMap mV).length≤2*l.length
 | []=>aOF _
 | b::l=>by
  have ih:=VE l;have h:(mV b).length≤2:=by
   rw [mV]
   split
   ·exact aOF _
   split
   ·exact aOF _
   exact Nat.le_succ _
  rw [List.flatMap_cons,aOA,aOB];omega
theorem aBb {v:ByteArray} (hv:v.size≤200):(iN (ofL (eC v.data.toList))).1=[⟨3,v,0,0⟩]:=by
 have h0:(ofL (eC v.data.toList)).data.toList.drop 0=eC v.data.toList++[]:=by rw [cZ,List.append_nil];rfl
 have hl:(eC v.data.toList).length≤402:=by
  have:=VE v.data.toList;rw [aW] at this;rw [eC,aOB,aOA,List.length_singleton];omega
 have hq:0 < (eC v.data.toList).length:=by rw [eC,aOB];omega
 have hT:=F7 (TR h0) rfl (tU h0 hq) hq (all_nil (iS h0));rw [iN,aNx (by rw [dA];omega),hT _ (by rw [dA,List.append_nil];exact Nat.le_succ _),HF _ [] (by intro f hf;rw [aOC] at hf;subst hf;rfl) (by simp)];rfl
theorem zA {w:List UInt8} {r:List (List UInt8)}:(w::r).headD []=w:=rfl
theorem O9 {e:GEdit} (hv:dP e=true) (he:fG e=0):iQ (fA e)=e∧(10:UInt8)∉fA e:=by
 obtain ⟨⟨o1,o7⟩,hok,hx⟩:=uD.1 hv;rw [fG] at he;by_cases p1:e.op=1
 ·rw [aNy p1] at he;obtain ⟨hg,ht,_⟩:=aAH he;have hp:=XN he;rw [C1,aNy p1,p1] at hx;rw [fA,aNy p1];constructor
  ·rw [iQ,mM (by decide),zA,A4,aNy rfl];show (⟨1,sNil,sNil,sNil,0,0,sNil,sNil,[],(qU (ofL (fJ e.obj).1.data.toList)).1⟩:GEdit)=e;rw [oG,hp];exact hx
  rw [ht];intro h;rcases List.mem_append.1 h with h|h
  ·revert h;decide
  rcases aOL.1 h with h|h
  ·revert h;decide
  exact aJ3 hg h
 rw [pY,aNx p1,aOI] at hok;obtain ⟨hid,hok⟩:=hok;have i1:=qS hid;rw [fA,aNx p1];by_cases p2:e.op=2
 ·rw [aNy p2] at hok;have hxy:(0≤e.x∧e.x < 1048576)∧0≤e.y∧e.y < 1048576:=by
   rw [onP] at hok;simp only [aOI,aOG] at hok;omega
  rw [C1,aNx p1,aNy p2,p2] at hx;rw [fZ,aNy p2];have n1:=J4 hxy.1.1;have n2:=J4 hxy.2.1;refine⟨?_,tZ (by decide) ?_⟩
  ·rw [iQ,qH (by decide) (by intro w hw;simp only [aOL,aOP,or_false] at hw;rcases hw with rfl|rfl|rfl;all_goals first|exact i1.1|exact n1.1|exact n2.1),zA,A4,aNx (by decide),aNy ⟨rfl,rfl⟩];show (⟨2,ofL e.id.data.toList,sNil,sNil,N6 (Lib.itoa e.x),N6 (Lib.itoa e.y),sNil,sNil,[],zObj⟩:GEdit)=e;rw [oG,PS hxy.1.1 (by omega),PS hxy.2.1 (by omega)];exact hx
  intro w hw;simp only [aOL,aOP,or_false] at hw;rcases hw with rfl|rfl|rfl|rfl;all_goals first|exact(by decide)|exact i1.2|exact n1.2|exact n2.2
 by_cases p3:e.op=3
 ·rw [aNx p2,aNy p3,aOI,aOG] at hok;have k1:=qS hok.1;rw [C1,aNx p1,aNx p2,aNy p3,p3] at hx;rw [fZ,aNx p2,aNy p3];refine⟨?_,tZ (by decide) ?_⟩
  ·have hj:bS [32] [aAn,e.id.data.toList,e.key.data.toList,eC e.val.data.toList]=aAn++32::(e.id.data.toList++32::(e.key.data.toList++32::eC e.val.data.toList)):=by simp [bS]
   have hs:=yG 32 (eC e.val.data.toList);rw [hj,iQ,mM (by decide),mM i1.1,mM k1.1,zA,A4,aNx (by decide),aNx (fun h=>absurd h.1 (by decide)),aNy ⟨rfl,by simp only [aOB];omega⟩];show (match (iN (ofL (bS [32] (fC 32 (eC e.val.data.toList))))).1 with
    | [f]=>(⟨3,ofL e.id.data.toList,sNil,sNil,0,0,ofL e.key.data.toList,f.text,[],zObj⟩:GEdit)
    | _=>VN)=e
   rw [MD,aBb (by omega),oG,oG];exact hx
  intro w hw;simp only [aOL,aOP,or_false] at hw;rcases hw with rfl|rfl|rfl|rfl;all_goals first|exact(by decide)|exact i1.2|exact k1.2|exact UA _
 by_cases p4:e.op=4
 ·rw [aNx p2,aNx p3,aNy p4,aOI,aOI,List.all_eq_true] at hok;have hr:=hok.2;rw [C1,aNx p1,aNx p2,aNx p3,aNy p4,p4] at hx;rw [fZ,aNx p2,aNx p3,aNy p4];have hb:∀ (b:UInt8),(b=32∨b=10)→∀ w∈bs e.refs,b∉w:=by
   intro b hb w hw;obtain ⟨s,hs,rfl⟩:=List.mem_map.1 hw;have:=qS (hr s hs);rcases hb with rfl|rfl;all_goals first|exact this.1|exact this.2
  refine⟨?_,tZ (by decide) ?_⟩
  ·rw [iQ,qH (by decide) (by intro w hw;rcases aOL.1 hw with rfl|hw;all_goals first|exact i1.1|exact hb 32 (.inl rfl) w hw),zA,A4,aNx (by decide),aNx (fun h=>absurd h.1 (by decide)),aNx (fun h=>absurd h.1 (by decide)),aNy ⟨rfl,by simp only [aOB];omega⟩];show (⟨4,ofL e.id.data.toList,sNil,sNil,0,0,sNil,sNil,(bs e.refs).map ofL,zObj⟩:GEdit)=e;rw [oG,aKD];exact hx
  intro w hw;rcases aOL.1 hw with rfl|hw
  ·decide
  rcases aOL.1 hw with rfl|hw;all_goals first|exact i1.2|exact hb 10 (.inr rfl) w hw
 by_cases p5:e.op=5
 ·rw [C1,aNx p1,aNx p2,aNx p3,aNx p4,aNy p5,p5] at hx;rw [fZ,aNx p2,aNx p3,aNx p4,aNy p5];refine⟨?_,tZ (by decide) ?_⟩
  ·rw [iQ,qH (by decide) (by intro w hw;rw [aOC] at hw;subst hw;exact i1.1),zA,A4,aNx (by decide),aNx (fun h=>absurd h.1 (by decide)),aNx (fun h=>absurd h.1 (by decide)),aNx (fun h=>absurd h.1 (by decide)),aNy ⟨rfl,rfl⟩];show (⟨5,ofL e.id.data.toList,sNil,sNil,0,0,sNil,sNil,[],zObj⟩:GEdit)=e;rw [oG];exact hx
  intro w hw;simp only [aOL,aOP,or_false] at hw;rcases hw with rfl|rfl;all_goals first|exact(by decide)|exact i1.2
 by_cases p6:e.op=6
 ·rw [aNx p2,aNx p3,aNx p4,aNx p5,aNy p6,aOI] at hok;have k1:=qS hok.1;have k2:=qS hok.2;rw [C1,aNx p1,aNx p2,aNx p3,aNx p4,aNx p5,aNy p6,p6] at hx;rw [fZ,aNx p2,aNx p3,aNx p4,aNx p5,aNy p6];refine⟨?_,tZ (by decide) ?_⟩
  ·rw [iQ,qH (by decide) (by intro w hw;simp only [aOL,aOP,or_false] at hw;rcases hw with rfl|rfl|rfl;all_goals first|exact i1.1|exact k1.1|exact k2.1),zA,A4,aNx (by decide),aNx (fun h=>absurd h.1 (by decide)),aNx (fun h=>absurd h.1 (by decide)),aNx (fun h=>absurd h.1 (by decide)),aNx (fun h=>absurd h.1 (by decide)),aNy ⟨rfl,rfl⟩];show (⟨6,ofL e.id.data.toList,ofL e.other.data.toList,ofL e.node.data.toList,0,0,sNil,sNil,[],zObj⟩:GEdit)=e;rw [oG,oG,oG];exact hx
  intro w hw;simp only [aOL,aOP,or_false] at hw;rcases hw with rfl|rfl|rfl|rfl;all_goals first|exact(by decide)|exact i1.2|exact k1.2|exact k2.2
 have p7:e.op=7:=by omega
 rw [aNx p2,aNx p3,aNx p4,aNx p5,aNx p6] at hok;have k2:=qS hok;rw [C1,aNx p1,aNx p2,aNx p3,aNx p4,aNx p5,aNx p6,p7] at hx;rw [fZ,aNx p2,aNx p3,aNx p4,aNx p5,aNx p6];refine⟨?_,tZ (by decide) ?_⟩
 ·rw [iQ,qH (by decide) (by intro w hw;simp only [aOL,aOP,or_false] at hw;rcases hw with rfl|rfl;all_goals first|exact i1.1|exact k2.1),zA,A4,aNx (by decide),aNx (fun h=>absurd h.1 (by decide)),aNx (fun h=>absurd h.1 (by decide)),aNx (fun h=>absurd h.1 (by decide)),aNx (fun h=>absurd h.1 (by decide)),aNx (fun h=>absurd h.1 (by decide)),aNy ⟨rfl,rfl⟩];show (⟨7,ofL e.id.data.toList,ofL e.other.data.toList,sNil,0,0,sNil,sNil,[],zObj⟩:GEdit)=e;rw [oG,oG];exact hx
 intro w hw;simp only [aOL,aOP,or_false] at hw;rcases hw with rfl|rfl|rfl;all_goals first|exact(by decide)|exact i1.2|exact k2.2
end Go.Proofs.YtiifmppaejpemaaGreatDoor
namespace Go.Abs
section
section
variable {P:Program} {H:aB}
theorem aBl (s:ByteArray) (c:Int):aHx P Extern.BytealgCount.count H [.pv (.str s),.pv (.int .u8 c)] (.pv (.int .i64 ((Lib.countByte s.data.toList c.toNat.toUInt8:Nat):Int))):=by intro w I ι cs hl h;obtain ⟨u,v,rfl,h1,h2⟩:=TM hl h;rw [h1.str_inv,h2.int_inv];exact⟨_,Lib.run_countString s c w,.pv (.int _ _)⟩
end
end
end Go.Abs
namespace Go.Proofs.YtiifmppaejpemaaGreatDoor
open Go.Proofs.Tryz
open Go.Abs
abbrev sSp:ByteArray:=⟨#[32]⟩
theorem O3 (s:ByteArray) (H:aB):aI Tryz.prog 195 [sv s,sv sSp] H (fun r H'=>r=iv (Lib.indexByte s.data.toList 32)∧H'=H):=by
 refine Pu ?_;refine Bd func195 rfl ntmps195<|Sr<|Dd aN<|Zz<|Sr<|Dd aF<|Dd (lH underlying9)<|Dd aN<|Zz<|Sq<|aG<|Sq ?_;refine bA (t:=16) (n:=9) (X:=decide (sSp=s)) ?_ ?_
 ·all_goals refine Dd aF ?_
  all_goals refine Dd cT<|Dm ?_
  all_goals refine Sp 19 (fun h19=>?_) fun h19=>?_
  all_goals try contradiction
  all_goals refine On aF<|On aF<|On yJ<|Dd cW<|Da ?_
  all_goals(exact⟨⟨_,rfl,by rfl⟩,rfl,rfl,rfl⟩)
 refine Cn ?_ ?_<;>intro hc1
 ·have hs:=aNv hc1;subst hs;exact Sr<|Dd aN<|Zz<|aC<|Rt<|Qq
 refine Sr<|Dd aF<|Dd cT<|Da ?_;refine Cn ?_ ?_<;>intro hc2
 ·exact Sr<|Dd aF<|Dd aF<|Dd (by exact dV rfl underlying9 rfl rfl (by omega) (by exact aOK _) (show 0 < (⟨#[32]⟩:ByteArray).size from Nat.zero_lt_one) rfl)<|Dd (by exact aA rfl rfl aNT rfl (vT s 32 _))<|Dd aN<|Zz<|aC<|Rt<|Qq
 cases hc2
theorem aHL (s:ByteArray) (H:aB):aI Tryz.prog 235 [sv s,sv sSp] H (fun r H'=>r=iv (Lib.indexByte s.data.toList 32)∧H'=H):=by refine Pu ?_;exact Bd func235 rfl ntmps235<|Sr<|Dd aN<|Zz<|Sr<|Dd aF<|Dd aF<|Dd (by exact aA rfl rfl NB rfl (O3 s _))<|Dd aN<|Zz<|aC<|Rt<|Qq
def VS (s:ByteArray):AV:=if Lib.indexByte s.data.toList 32 = -1 then .tup [sv s,sv ⟨#[]⟩,bv false] else .tup [sv (s.extract 0 (Lib.indexByte s.data.toList 32).toNat),sv (s.extract ((Lib.indexByte s.data.toList 32).toNat+1) s.size),bv true]
theorem aGF (s:ByteArray) (H:aB) (hs:s.size < 1099511627776):aI Tryz.prog 160 [sv s,sv sSp] H (fun r H'=>r=VS s∧H'=H):=by
 refine Pu ?_;have hI:=fun H=>O3 s H;rw [VS];rcases Classical.em (Lib.indexByte s.data.toList 32 = -1)with h1|h1
 ·rw [aNy h1];simp only [h1] at hI;refine Bd aCR rfl WO<|Sr<|Dd aN<|Dd aN<|Dd aN<|Zz<|Sq<|Sr<|Dd aF<|Dd aF<|Dd (by exact aA rfl rfl NB rfl (hI _))<|Dd aN<|Zz<|Sr<|Dd aF<|Dd DT<|Zz ?_;refine Cn ?_ ?_<;>intro hc1
  ·cases hc1
  refine aD<|Sr<|Dd aF<|Dd aN<|Dd aN<|Dd aN<|Zz<|aC ?_;refine AE (H':=[]) (.inr rfl) rfl (aY rfl) (aY rfl) (aY rfl) (Fin.wk (by simp) trivial trivial) ?_;exact Qq
 rw [aNx h1];obtain ⟨w,r,e1,e2,e3⟩:=uC h1;simp only [e3] at hI;rw [e3,aOK];have hl:w.length+1+r.length=s.size:=by rw [← show s.data.toList.length=s.size by simp,e1,aOA,aOB];omega
 refine Bd aCR rfl WO<|Sr<|Dd aN<|Dd aN<|Dd aN<|Zz<|Sq<|Sr<|Dd aF<|Dd aF<|Dd (by exact aA rfl rfl NB rfl (hI _))<|Dd aN<|Zz<|Sr<|Dd aF<|Dd DT<|Zz ?_;refine Cn ?_ ?_<;>intro hc1
 ·refine Sq<|aO follows<|Cq aF<|Cq aF<|Cq (by exact cO (l:=0) (h:=(w.length)) rfl underlying9 rfl rfl rfl (by omega) (by omega) rfl)<|Cq aF<|Cq aF<|Cq aF<|Cq (lH underlying9)<|Cq (by exact cI rfl rfl rfl (show IntKind.i64.wrap ((w.length:Int)+1)=((w.length+1:Nat):Int)by rw [IntKind.wrap_i64];omega))<|Cq (by exact cO (l:=(w.length+1)) (h:=s.size) rfl underlying9 rfl rfl rfl (by omega) (by omega) rfl)<|Cq aN<|Cq aN<|Cq aN<|bL<|Kr<|aC ?_;refine AE (H':=[]) (.inr rfl) rfl (aY rfl) (aY rfl) (aY rfl) (Fin.wk (by simp) trivial trivial) ?_;exact Qq
 have hx:=aNw hc1;omega
theorem aLs (s:ByteArray) (H:aB) (hs:s.size < 1099511627776):aI Tryz.prog 117 [sv s,sv sSp] H (fun r H'=>r=VS s∧H'=H):=by
 refine Pu ?_;have hC:=fun H=>aGF s H hs;rw [VS] at *;rcases Classical.em (Lib.indexByte s.data.toList 32 = -1)with h1|h1
 ·simp only [VS,aNy h1] at hC ⊢;refine Bd aCT rfl WQ<|Sr<|Dd aN<|Dd aN<|Dd aN<|Zz<|Sr<|Dd aF<|Dd aF<|Dd (by exact aA rfl rfl aCW rfl (hC _))<|Dd fL<|Dd fL<|Dd fL<|Dd aN<|Dd aN<|Dd aN<|Zz<|aC ?_;refine AE (H':=[]) (.inr rfl) rfl (aY rfl) (aY rfl) (aY rfl) (Fin.wk (by simp) trivial trivial) ?_;exact Qq
 simp only [VS,aNx h1] at hC ⊢;refine Bd aCT rfl WQ<|Sr<|Dd aN<|Dd aN<|Dd aN<|Zz<|Sr<|Dd aF<|Dd aF<|Dd (by exact aA rfl rfl aCW rfl (hC _))<|Dd fL<|Dd fL<|Dd fL<|Dd aN<|Dd aN<|Dd aN<|Zz<|aC ?_;refine AE (H':=[]) (.inr rfl) rfl (aY rfl) (aY rfl) (aY rfl) (Fin.wk (by simp) trivial trivial) ?_;exact Qq
abbrev sNl:ByteArray:=⟨#[10]⟩
def zJ (s:ByteArray):Bool:=decide ((1:Int)≤(s.size:Int))&&decide (s.extract (s.size - 1) s.size=sNl)
def AZ (s:ByteArray):ByteArray:=if zJ s then s.extract 0 (s.size - 1)else s
theorem U3 (s:ByteArray) (H:aB) (hs:s.size < 1099511627776):aI Tryz.prog 206 [sv s,sv sNl] H (fun r H'=>r=bv (zJ s)∧H'=H):=by
 refine Pu ?_;refine Bd func206 rfl ntmps206<|Sr<|Dd aN<|Zz<|Sq ?_;refine bA (t:=4) (n:=18) (X:=zJ s) ?_ ?_
 ·all_goals refine Dd aF ?_
  all_goals refine Dd (lH underlying9)<|Dd aF<|Dd (lH underlying9)<|Dd DT<|Dm ?_
  all_goals refine Sp 10 (fun h10=>?_) fun h10=>?_
  all_goals try contradiction
  all_goals first|refine Fo<|Fo<|Fo<|Fo<|Fo<|Fo<|Fo<|Fo<|Fo ?_|refine On aF<|On aF<|On (lH underlying9)<|On aF<|On (lH underlying9)<|On (by exact eQ rfl rfl rfl (show IntKind.i64.wrap ((s.size:Int) - 1)=((s.size - 1:Nat):Int)by have h11:(1:Int)≤(s.size:Int):=aNv h10;rw [IntKind.wrap_i64];omega))<|On (by exact cO (l:=(s.size - 1)) (h:=s.size) rfl underlying9 rfl rfl rfl (by omega) (by omega) rfl)<|On aF<|On yJ ?_
  all_goals refine Dd cW<|Da ?_
  all_goals(exact⟨⟨_,rfl,by(simp only [zJ];rw [show decide ((1:Int)≤(s.size:Int))=_ from h10];rfl)⟩,rfl,rfl,rfl⟩)
 exact aC<|Rt<|Qq
theorem aCw (s:ByteArray) (H:aB) (hs:s.size < 1099511627776):aI Tryz.prog 169 [sv s,sv sNl] H (fun r H'=>r=sv (AZ s)∧H'=H):=by
 refine Pu ?_;refine Bd func169 rfl ntmps169<|Sr<|Dd aN<|Zz<|Sq<|Sr<|Dd aF<|Dd aF<|Dd (by exact aA rfl rfl call206 rfl (U3 s _ hs))<|Zz ?_;refine Cn ?_ ?_<;>intro hc1
 ·have h1:1≤s.size:=by
   have h:=hc1;rw [zJ,aOI,aOG] at h;omega
  rw [AZ,aNy hc1];exact Sr<|Dd aF<|Dd aF<|Dd (lH underlying9)<|Dd aF<|Dd (lH underlying9)<|Dd (by exact eQ rfl rfl rfl (show IntKind.i64.wrap ((s.size:Int) - 1)=((s.size - 1:Nat):Int)by rw [IntKind.wrap_i64];omega))<|Dd (by exact cO (l:=0) (h:=(s.size - 1)) rfl underlying9 rfl rfl rfl (by omega) (by omega) rfl)<|Dd aN<|Zz<|aC<|Rt<|Qq
 rw [AZ,aNx (by rw [hc1];decide)];exact aD<|Sr<|Dd aF<|Dd aN<|Zz<|aC<|Rt<|Qq
theorem WY (s:ByteArray) (H:aB) (hs:s.size < 1099511627776):aI Tryz.prog 121 [sv s,sv sNl] H (fun r H'=>r=sv (AZ s)∧H'=H):=by refine Pu ?_;exact Bd func121 rfl ntmps121<|Sr<|Dd aN<|Zz<|Sr<|Dd aF<|Dd aF<|Dd (by exact aA rfl rfl call169 rfl (aCw s _ hs))<|Dd aN<|Zz<|aC<|Rt<|Qq
theorem aH6 (s:ByteArray) (H:aB):aI Tryz.prog 234 [sv s,sv sSp] H (fun r H'=>r=iv ((s.data.toList.count 32:Nat):Int)∧H'=H):=by
 refine Pu ?_;refine Bd func234 rfl ntmps234<|Sr<|Dd aN<|Zz<|Sq<|Sr<|Dd aF<|Dd (lH underlying9)<|Dd cT<|Zz ?_;refine Cn ?_ ?_<;>intro hc1
 ·cases hc1
 refine aD<|Sq<|Sr<|Dd aF<|Dd (lH underlying9)<|Dd cT<|Zz ?_;refine Cn ?_ ?_<;>intro hc2
 ·exact Sr<|Dd aF<|Dd aF<|Dd (by exact dV rfl underlying9 rfl rfl (by omega) (by exact aOK _) (show 0 < (⟨#[32]⟩:ByteArray).size from Nat.zero_lt_one) rfl)<|Dd (by exact JY rfl rfl func264 rfl rfl rfl rfl rfl (aBl s 32))<|Dd aN<|Zz<|aC<|Rt<|Qq
 cases hc2
def ofY (l:List UInt8):ByteArray:=⟨l.toArray⟩
def eF (s:ByteArray):List ByteArray:=(fC 32 s.data.toList).map ofY
def yH (D:List ByteArray) (m:Nat):List (List AV):=D.map (fun e=>(encStr e).map AV.pv)++List.replicate m [sv ⟨#[]⟩]
theorem O1 (D:List ByteArray) (m:Nat):(yH D (m+1))[D.length]?=some [sv ⟨#[]⟩]:=by rw [yH,List.getElem?_append_right (by rw [aNz];exact aOF _),aNz,Nat.sub_self];rfl
theorem W7 {s:ByteArray} (h:(eF s).length=1):eF s=[s]:=by rw [eF,aNz,tD] at h;have h0:(32:UInt8)∉s.data.toList:=List.count_eq_zero.1 (by omega);rw [eF,qZ h0];rfl
theorem KV (D:List ByteArray) (m:Nat) (x:ByteArray):(yH D (m+1)).set D.length [sv x]=yH (D++[x]) m:=by unfold yH;rw [List.set_append_right _ _ (by rw [aNz];exact aOF _),aNz,Nat.sub_self,List.map_append,List.append_assoc];rfl
theorem KW (H:aB) (D:List ByteArray) (m:Nat):∀ r∈yH D m,∀ a∈r,Clo H a:=by
 intro r hr a ha;rcases List.mem_append.1 hr with hr|hr
 ·obtain ⟨d,_,rfl⟩:=List.mem_map.1 hr;obtain ⟨p,_,rfl⟩:=List.mem_map.1 ha;simp
 rw [List.eq_of_mem_replicate hr,aOC] at ha;subst ha;simp
theorem exL (s:ByteArray) (i j:Nat):(s.extract i j).data.toList=(s.data.toList.drop i).take (j - i):=by rw [ByteArray.data_extract,Array.toList_extract,List.extract_eq_take_drop]
theorem eqL {a b:ByteArray} (h:a.data.toList=b.data.toList):a=b:=by cases a;cases b;simp_all [Array.toList_inj]
theorem aDt {s:ByteArray} {w r:List UInt8} (h:s.data.toList=w++32::r):s.extract 0 w.length=ofY w∧(s.extract (w.length+1) s.size).data.toList=r:=by
 have hl:s.size=w.length+1+r.length:=by
  show s.data.size=_;rw [← Array.length_toList,h,aOA,aOB];omega
 constructor
 ·refine eqL ?_;rw [exL,List.drop_zero,Nat.sub_zero,h,List.take_left];simp [ofY]
 rw [exL,h,hl,show w++32::r=(w++[32])++r by simp,show w.length+1=(w++[(32:UInt8)]).length by simp,List.drop_left];exact List.take_of_length_le (by omega)
theorem aNC {H1:aB} {id g n:Nat} {ob:Ob} (ps:List (List PV)) (hH:H1.get id=some ob) (hg:ob.g=g) (hps:ob.rows=ps.map (·.map .pv)) (hn:ps.length=n):Fin [] H1 (.osl id g 0 n) [] (.pv (.sl ps)):=by subst hg hn;exact Fin.fz (id:=id) (ob:=ob) ps hH hps (.osl (by rw [aOR,List.drop_zero,List.take_length])) rfl trivial trivial
theorem YK (s0:ByteArray) (H:aB) (hs:s0.size < 1099511627776):aI Tryz.prog 201 [sv s0,sv sSp,iv 0,iv (-1)] H (fun r H'=>r=.pv (aX (eF s0))∧H'=H):=by
 refine Pu ?_;obtain ⟨N,hN⟩:∃ N,N=s0.data.toList.count 32:=⟨_,rfl⟩;have hNs:N≤s0.size:=by rw [hN];exact Nat.le_trans List.count_le_length (by simp)
 have hC:=fun H=>aH6 s0 H;rw [← hN] at hC;have hlen:(fC 32 s0.data.toList).length=N+1:=by rw [tD,hN]
 refine Bd func201 rfl ntmps201<|Sr<|Dd aN<|Zz<|Sq<|Sr<|Dd aF<|Dd cT<|Zz ?_;refine Cn ?_ ?_<;>intro hc1
 ·cases hc1
 refine aD<|Sq<|Sr<|Dd aF<|Dd yJ<|Zz ?_;refine Cn ?_ ?_<;>intro hc2
 ·have:=aNv hc2;cases this
 refine aD<|Sq<|Sr<|Dd aF<|Dd dK<|Zz ?_;refine Cn ?_ ?_<;>intro hc3
 ·refine Rg<|Dd aF<|Dd aF<|Dd (by exact aA rfl rfl call234 rfl (hC _))<|Dd (by exact cI rfl rfl rfl (show IntKind.i64.wrap ((N:Int)+1)=((N+1:Nat):Int)by rw [IntKind.wrap_i64];omega))<|Dd aN<|Zz<|Sr<|Dd aF<|Dd aF<|Dd (lH underlying9)<|Dd (by exact cI rfl rfl rfl (show IntKind.i64.wrap ((s0.size:Int)+1)=((s0.size+1:Nat):Int)by rw [IntKind.wrap_i64];omega))<|Dd (by exact JV (r:=((N+1:Nat):Int)) rfl rfl rfl (by omega))<|Dd aN<|Zz<|Sr<|Dd aF<|Dd (by exact AX (id:=31) rfl cA EC zo9 rfl rfl rfl (by omega) (by omega) (by exact aOK _) (by exact aOK _) (by omega) rfl)<|Dd aN<|Zz<|Sr<|Dd aF<|Dd (by exact eQ rfl rfl rfl (show IntKind.i64.wrap (((N+1:Nat):Int) - 1)=(N:Int)by rw [IntKind.wrap_i64];omega))<|Dd aN<|Zz<|Sr<|Dd aN<|Zz<|Sq<|aG ?_;refine jI (fun(D:List ByteArray) (rest:ByteArray)=>([(0,sv rest),(1,sv sSp),(2,iv 0),(3,iv (N:Int)),(8,.pv (.sl [])),(9,.osl 31 0 0 (N+1)),(10,iv (D.length:Int))],[(31,⟨0,1,9,yH D (N+1 - D.length)⟩)])) (fun D rest=>eF s0=D++eF rest∧rest.size≤s0.size) (fun D rest=>N - D.length) [] s0 ⟨rfl,aOF _⟩ ?_ ?_
  ·exact(cY.wk (Eb<|Eb<|Eb<|Eb<|Eb<|Ea<|Eb<|trivial) (Hc (KW _ _ _)<|trivial) trivial)
  rintro D rest ⟨hD,hr⟩;have hln:D.length+(eF rest).length=N+1:=by
   have:=congrArg List.length hD;rw [aOA,eF,aNz,hlen] at this;exact this.symm
  have hpos:0 < (eF rest).length:=by rw [eF,aNz];exact yG _ _
  obtain ⟨m,hm⟩:∃ m,N+1 - D.length=m+1:=⟨N - D.length,by omega⟩;have hI:=fun H=>aHL rest H;rw [hm];rcases Nat.lt_or_ge D.length N with hlt|hge
  ·have h1:Lib.indexByte rest.data.toList 32 ≠ -1:=fun h=>by
    have h2:=qZ (uB.1 h);rw [eF,h2] at hln;have:D.length+1=N+1:=hln;omega
   obtain ⟨w,r,e1,e2,e3⟩:=uC h1;obtain ⟨x1,x2⟩:=aDt e1;have hl:w.length+1+r.length=rest.size:=by rw [← show rest.data.toList.length=rest.size by simp,e1,aOA,aOB];omega
   have hsp:eF rest=rest.extract 0 w.length::eF (rest.extract (w.length+1) rest.size):=by
    rw [eF,e1,mM e2,List.map_cons,x1,eF,x2]
   simp only [e3] at hI;refine Sq<|Sr<|Dd aF<|Dd aF<|Dd dK<|Zz ?_;refine Cn ?_ ?_<;>intro hc4
   ·refine aD<|aG<|Sr<|Dd aF<|Dd aF<|Dd (by exact aA rfl rfl call235 rfl (hI _))<|Dd aN<|Zz<|Sq<|Sr<|Dd aF<|Dd dK<|Zz ?_;refine Cn ?_ ?_<;>intro hc5
    ·have:=aNv hc5;omega
    refine aD<|Sr<|Dd aF<|Dd aF<|Dd aF<|Dd aF<|Dd aF<|Dd (by exact cI rfl rfl rfl (show IntKind.i64.wrap ((w.length:Int)+0)=(w.length:Int)by rw [IntKind.wrap_i64];omega))<|Dd (by exact cO (l:=0) (h:=w.length) rfl underlying9 rfl rfl rfl (by omega) (by omega) rfl)<|Dd (by exact dI rfl cA rfl rfl rfl rfl rfl (by omega) (by exact aOK _) (by omega) (aOR _))<|Uu (by exact bH rfl sizeOf9 rfl rfl rfl rfl rfl (O1 D m) Nat.zero_lt_one rfl (KV D m _))<|Zz<|Sr<|Dd aF<|Dd aF<|Dd aF<|Dd (lH underlying9)<|Dd (by exact cI rfl rfl rfl (show IntKind.i64.wrap ((w.length:Int)+1)=((w.length+1:Nat):Int)by rw [IntKind.wrap_i64];omega))<|Dd (by exact cO (l:=(w.length+1)) (h:=rest.size) rfl underlying9 rfl rfl rfl (by omega) (by omega) rfl)<|Dd aN<|Zz<|Rg<|Dm ?_;refine Dd (by exact cI rfl rfl rfl (show IntKind.i64.wrap ((D.length:Int)+1)=((D.length+1:Nat):Int)by rw [IntKind.wrap_i64];omega))<|Da ?_;have e5:(D++[rest.extract 0 w.length]).length=D.length+1:=by simp
    have hsz:(rest.extract (w.length+1) rest.size).size≤s0.size:=by rw [← show (rest.extract (w.length+1) rest.size).data.toList.length=(rest.extract (w.length+1) rest.size).size by simp,x2];omega
    refine⟨D++[rest.extract 0 w.length],rest.extract (w.length+1) rest.size,⟨by rw [hD,hsp,List.append_assoc];rfl,hsz⟩,by rw [e5];omega,?_⟩;rw [e5,show N+1 - (D.length+1)=m by omega];exact(cY.wk (Eb<|Eb<|Eb<|Eb<|Eb<|Ea<|Eb<|trivial) (Hc (KW _ _ _)<|trivial) trivial)
   have:=aNw hc4;omega
  have hDN:D.length=N:=by omega
  have hone:eF rest=[rest]:=W7 (by omega);have hm0:m=0:=by omega
  subst hm0;refine Sq<|Sr<|Dd aF<|Dd aF<|Dd dK<|Zz ?_;refine Cn ?_ ?_<;>intro hc6
  ·have:=aNv hc6;omega
  refine bC<|Sr<|Dd aF<|Dd aF<|Dd aF<|Dd (by exact dI rfl cA rfl rfl rfl rfl rfl (by omega) (by exact aOK _) (by omega) (aOR _))<|Uu (by exact bH rfl sizeOf9 rfl rfl rfl rfl rfl (O1 D 0) Nat.zero_lt_one rfl (KV D 0 _))<|Zz<|Sr<|Dd aF<|Dd aF<|Dd (by exact cI rfl rfl rfl (show IntKind.i64.wrap ((D.length:Int)+1)=((D.length+1:Nat):Int)by rw [IntKind.wrap_i64];omega))<|Dd (by exact iG (l:=0) (h:=(D.length+1)) rfl cA rfl rfl rfl rfl rfl rfl (by omega) (by omega) rfl rfl)<|Dd aN<|Zz<|aC ?_;have hps:(D++[rest]).map encStr=(eF s0).map encStr:=by rw [hD,hone]
  refine dY (H':=[]) (.inr rfl) rfl (aY rfl) (aNC (id:=31) ((D++[rest]).map encStr) rfl rfl (by show yH (D++[rest]) 0=_;rw [yH,List.replicate_zero,List.append_nil,List.map_map];rfl) (by simp)) ⟨?_,rfl⟩;rw [aX,hps]
 cases hc3
theorem aBB (s:ByteArray) (H:aB) (hs:s.size < 1099511627776):aI Tryz.prog 164 [sv s,sv sSp] H (fun r H'=>r=.pv (aX (eF s))∧H'=H):=by refine Pu ?_;exact Bd func164 rfl ntmps164<|Sr<|Dd aN<|Zz<|Sr<|Dd aF<|Dd aF<|Dd (by exact aA rfl rfl call201 rfl (YK s _ hs))<|Dd aN<|Zz<|aC<|Rt<|Qq
def tW (t:ByteArray):ByteArray:=if Lib.indexByte t.data.toList 10 = -1 then t else t.extract 0 ((Lib.indexByte t.data.toList 10).toNat+1)
def IJ (t:ByteArray):ByteArray:=if Lib.indexByte t.data.toList 10 = -1 then⟨#[]⟩else t.extract ((Lib.indexByte t.data.toList 10).toNat+1) t.size
def gB (s:ByteArray):Nat→ByteArray
 | 0=>s
 | k+1=>IJ (gB s k)
def gN (s:ByteArray):List ByteArray:=(kB s.data.toList).map ofY
theorem aDs (s:ByteArray):ofY s.data.toList=s:=eqL (by simp [ofY])
theorem szY (s:ByteArray):s.data.toList.length=s.size:=by simp
theorem aER {t:ByteArray} (h:Lib.indexByte t.data.toList 10 ≠ -1):∃ w r,t.data.toList=w++10::r∧(10:UInt8)∉w∧Lib.indexByte t.data.toList 10=(w.length:Int)∧t.extract 0 (w.length+1)=ofY (w++[10])∧(t.extract (w.length+1) t.size).data.toList=r∧w.length+1+r.length=t.size:=by
 obtain ⟨w,r,e1,e2,e3⟩:=uC h;have hl:w.length+1+r.length=t.size:=by rw [← szY,e1,aOA,aOB];omega
 have e4:t.data.toList=(w++[10])++r:=by rw [e1];simp
 refine⟨w,r,e1,e2,e3,eqL ?_,?_,hl⟩
 ·rw [exL,List.drop_zero,Nat.sub_zero,e4,show w.length+1=(w++[(10:UInt8)]).length by simp,List.take_left];simp [ofY]
 rw [exL,e4,show w.length+1=(w++[(10:UInt8)]).length by simp,List.drop_left];exact List.take_of_length_le (by rw [aOA,List.length_singleton];omega)
theorem xG {t:ByteArray} (h:¬ 0 < t.size):gN t=[]:=by have:t.data.toList=[]:=List.length_eq_zero_iff.1 (by rw [szY];omega);rw [gN,this];rfl
theorem yU {t:ByteArray} (h:0 < t.size):gN t=tW t::gN (IJ t)∧(IJ t).size≤t.size:=by
 rw [tW,IJ];by_cases h1:Lib.indexByte t.data.toList 10 = -1
 ·rw [aNy h1,aNy h1];refine⟨?_,aOQ _⟩;rw [gN,IL (uB.1 h1) (fun e=>by rw [← szY,e] at h;exact absurd h (Nat.lt_irrefl 0))];show [ofY t.data.toList]=_;rw [aDs];rfl
 rw [aNx h1,aNx h1];obtain ⟨w,r,e1,e2,e3,e4,e5,e6⟩:=aER h1;rw [e3,aOK,e4];refine⟨?_,by rw [← szY,e5];omega⟩;rw [gN,e1,DQ e2,List.map_cons,gN,e5]
theorem wV (s:ByteArray):∀ k,k≤(gN s).length→gN (gB s k)=(gN s).drop k∧(gB s k).size≤s.size
 | 0,_=>⟨rfl,aOF _⟩
 | k+1,h=>by
  obtain ⟨i1,i2⟩:=wV s k (Nat.le_of_succ_le h);have hp:0 < (gB s k).size:=by
   rcases Nat.lt_or_ge 0 (gB s k).size with h1|h1
   ·exact h1
   have h2:=xG (t:=gB s k) (by omega);rw [h2] at i1;have:=congrArg List.length i1;rw [aOO,List.length_nil] at this;omega
  obtain ⟨j1,j2⟩:=yU hp;rw [j1] at i1;refine⟨?_,Nat.le_trans j2 i2⟩;show gN (IJ (gB s k))=_;have:=congrArg List.tail i1;rw [List.tail_cons,List.tail_drop] at this;exact this
theorem aHF {s:ByteArray} {k:Nat} (h:k < (gN s).length):(gN s)[k]?=some (tW (gB s k))∧0 < (gB s k).size:=by
 obtain ⟨i1,i2⟩:=wV s k (Nat.le_of_lt h);have hp:0 < (gB s k).size:=by
  rcases Nat.lt_or_ge 0 (gB s k).size with h1|h1
  ·exact h1
  have h2:=xG (t:=gB s k) (by omega);rw [h2] at i1;have:=congrArg List.length i1;rw [aOO,List.length_nil] at this;omega
 refine⟨?_,hp⟩;rw [(yU hp).1] at i1;have:=congrArg List.head? i1;rw [List.head?_cons,List.head?_drop] at this;exact this.symm
def lB (s:ByteArray):Ob:=bx 1 9 [sv s]
theorem aHE (s:ByteArray) (H:aB) (h1:H.get 933=none):aI Tryz.prog 119 [sv s] H (fun r H'=>r=.clo 163 [.ref 933 0 0 0]∧H'=(933,lB s)::H):=by refine Bd func119 rfl ntmps119<|Sr<|Dd (by exact cH (id:=933) rfl rfl rfl rfl h1)<|Dd aN<|Zz<|Sr<|Dd (by exact gC rfl rfl)<|Dd aN<|Zz<|aC ?_;refine dY (H':=((933,lB s)::H)) (.inr rfl) rfl (aY rfl) Fin.refl ?_;exact Qq
theorem aEG (s:ByteArray) (fv:AV) (Hs:Nat→aB) (hs:s.size < 1099511627776) (h1:∀ k,(Hs k).get 933=some (lB (gB s k)))
  (hy:∀ k,k < (gN s).length→dD Tryz.prog fv [sv (tW (gB s k))] ((933,lB (gB s (k+1)))::Hs k) (fun r H'=>r=bv true∧H'=Hs (k+1))) :
  aI Tryz.prog 163 [fv,.ref 933 0 0 0] (Hs 0) (fun r H'=>r=.tup []∧H'=Hs (gN s).length):=by
 refine Bd func163 rfl ntmps163<|aG ?_;refine bT (σ:=Nat) (fun k=>([(0,fv),(1,.ref 933 0 0 0)],Hs k)) (fun k=>k≤(gN s).length) (fun k=>(gN s).length - k) 0 (aOQ _) ?_ ?_
 ·exact E0
 rintro k hk;obtain ⟨i1,i2⟩:=wV s k hk;have hI:=fun H=>oX (gB s k) 10 H;have hnx:gB s (k+1)=IJ (gB s k):=rfl;refine Sq<|Sr<|Dd (by exact aK rfl isAgg9 rfl (h1 k) rfl rfl rfl)<|Dd (lH underlying9)<|Dd jE<|Zz ?_;refine Cn ?_ ?_<;>intro hc1
 ·have hp:0 < (gB s k).size:=by have:=aNv hc1;omega
  have hlt:k < (gN s).length:=by
   rcases Nat.lt_or_ge k (gN s).length with h|h
   ·exact h
   rw [(yU hp).1,List.drop_eq_nil_of_le h] at i1;cases i1
  have hyk:=hy k hlt;rw [hnx,IJ,tW] at hyk;rcases Classical.em (Lib.indexByte (gB s k).data.toList 10 = -1)with e0|e0
  ·rw [aNy e0,aNy e0] at hyk;have hI2:∀ H,aI Tryz.prog 150 [sv (gB s k),.pv (.int .u8 10)] H (fun r H'=>r=iv (-1)∧H'=H):=fun H=>by
    have:=hI H
    rwa [show Lib.indexByte (gB s k).data.toList ((10:Int).toNat.toUInt8) = -1 from e0] at this
   refine aD<|aG<|Sr<|Dd aN<|Zz<|Sq<|Sr<|Dd (by exact aK rfl isAgg9 rfl (h1 k) rfl rfl rfl)<|Dd (by exact aA rfl rfl wL rfl (hI2 _))<|Dd aN<|Zz<|Sr<|Dd aF<|Dd DT<|Zz ?_;refine Cn ?_ ?_<;>intro hc2
   ·cases hc2
   refine Rg<|Dd (by exact aK rfl isAgg9 rfl (h1 k) rfl rfl rfl)<|Dd aN<|Uu (by exact cJ rfl sizeOf9 rfl rfl rfl rfl (h1 k) rfl rfl rfl)<|Zz<|Sr<|Dd aF<|Dd aF<|Dd (by exact cR rfl rfl rfl (hyk))<|Dd jS<|Zz ?_;refine Cn ?_ ?_<;>intro hc3
   ·cases hc3
   refine aD ?_;exact⟨k+1,by omega,by omega,E0⟩
  rw [aNx e0,aNx e0] at hyk;obtain ⟨w,r,e1,e2,e3,e4,e5,e6⟩:=aER e0;rw [e3,aOK] at hyk;have hI2:∀ H,aI Tryz.prog 150 [sv (gB s k),.pv (.int .u8 10)] H (fun r H'=>r=iv (w.length:Int)∧H'=H):=fun H=>by
   have:=hI H
   rwa [show Lib.indexByte (gB s k).data.toList ((10:Int).toNat.toUInt8)=(w.length:Int)from e3] at this
  refine aD<|aG<|Sr<|Dd aN<|Zz<|Sq<|Sr<|Dd (by exact aK rfl isAgg9 rfl (h1 k) rfl rfl rfl)<|Dd (by exact aA rfl rfl wL rfl (hI2 _))<|Dd aN<|Zz<|Sr<|Dd aF<|Dd DT<|Zz ?_;refine Cn ?_ ?_<;>intro hc4
  ·refine aO follows<|Cr [933] (fun H1 hH=>by exact aK rfl isAgg9 rfl ((hH _ rfl).trans (h1 k)) rfl rfl rfl)<|Cr [] (fun _ _=>aF)<|Cr [] (fun H1 hH=>by exact cI rfl rfl rfl (show IntKind.i64.wrap ((w.length:Int)+1)=((w.length+1:Nat):Int)by rw [IntKind.wrap_i64];omega))<|Cr [] (fun H1 hH=>by exact cO (l:=0) (h:=(w.length+1)) rfl underlying9 rfl rfl rfl (by omega) (by omega) rfl)<|Cr [933] (fun H1 hH=>by exact aK rfl isAgg9 rfl ((hH _ rfl).trans (h1 k)) rfl rfl rfl)<|Cr [] (fun _ _=>aF)<|Cr [] (fun H1 hH=>by exact cI rfl rfl rfl (show IntKind.i64.wrap ((w.length:Int)+1)=((w.length+1:Nat):Int)by rw [IntKind.wrap_i64];omega))<|Cr [] (fun H1 hH=>by exact cO (l:=(w.length+1)) (h:=(gB s k).size) rfl underlying9 rfl rfl rfl (by omega) (by omega) rfl)<|Cr [] (fun _ _=>aN) ?_;refine Cp [933] (fun H1 hH=>by exact cJ rfl sizeOf9 rfl rfl rfl rfl ((hH _ rfl).trans (h1 k)) rfl rfl rfl)<|bL<|Kr<|Sr<|Dd aF<|Dd aF<|Dd (by exact cR rfl rfl rfl (hyk))<|Dd jS<|Zz ?_;refine Cn ?_ ?_<;>intro hc5
   ·cases hc5
   refine aD ?_;exact⟨k+1,by omega,by omega,E0⟩
  have:=aNw hc4;omega
 have hn:¬ 0 < (gB s k).size:=by have:=aNw hc1;omega
 have hge:k=(gN s).length:=by
  rw [xG hn] at i1;have:=congrArg List.length i1;rw [List.length_nil,aOO] at this;omega
 subst hge;refine bC ?_;exact rL (H':=Hs (gN s).length) (.inl rfl) rfl Fin.refl ⟨rfl,rfl⟩
theorem aCl (w:List UInt8):Lib.trimSuffix (w++[10]) [10]=w:=by rw [Lib.trimSuffix,Lib.hasSuffix,aNy (List.isSuffixOf_iff_suffix.2 ⟨w,rfl⟩)];simp
theorem aCn (s:ByteArray):AZ s=ofL (Lib.trimSuffix s.data.toList [10]):=by
 have hz:=szY s;rw [AZ];cases h:zJ s with
 | true =>
  rw [zJ,aOI,aOG,aOG] at h;obtain ⟨h1,h2⟩:=h;have h3:s.data.toList.drop (s.size - 1)=[10]:=by
   have:=congrArg (fun x=>x.data.toList) h2;rw [exL] at this;refine Eq.trans ?_ (show sNl.data.toList=[10] from rfl);rw [← this];exact(List.take_of_length_le (by rw [aOO];omega)).symm
  have h4:s.data.toList=s.data.toList.take (s.size - 1)++[10]:=by rw [← h3,List.take_append_drop]
  refine eqL ?_;rw [aNy rfl,exL,cZ,h4,aCl,List.drop_zero,Nat.sub_zero,← h4]
 | false =>
  rw [aNx (by decide),Lib.trimSuffix,aNx,oG];intro hp;obtain ⟨w,hw⟩:=List.isSuffixOf_iff_suffix.1 (show ([10]:List UInt8).isSuffixOf s.data.toList=true from hp);have hl:s.size=w.length+1:=by rw [← hz,← hw,aOA,List.length_singleton]
  have:zJ s=true:=by
   rw [zJ,aOI,aOG,aOG];refine⟨by omega,eqL ?_⟩;rw [exL,← hw,show s.size - 1=w.length by omega,List.drop_left];exact List.take_of_length_le (by rw [List.length_singleton];omega)
  rw [h] at this;cases this
theorem aH4 (s:ByteArray):∃ b,VS s=.tup [sv (ofL ((fC 32 s.data.toList).headD [])),sv (ofL (s.data.toList.drop (((fC 32 s.data.toList).headD []).length+1))),bv b]:=by
 rw [VS];by_cases h:Lib.indexByte s.data.toList 32 = -1
 ·refine⟨false,?_⟩;rw [aNy h,qZ (uB.1 h),List.headD_cons,List.drop_eq_nil_of_le (Nat.le_succ _),oG];rfl
 obtain ⟨w,r,e1,e2,e3⟩:=uC h;refine⟨true,?_⟩;obtain ⟨a1,a2⟩:=aDt e1;have hd:s.data.toList.drop (w.length+1)=r:=by
  rw [e1,show w++32::r=(w++[32])++r by simp,show w.length+1=(w++[(32:UInt8)]).length by simp,List.drop_left]
 have hsp:(fC 32 s.data.toList).headD []=w:=by rw [e1,mM e2];rfl
 rw [aNx h,hsp,hd,e3,aOK,a1,show s.extract (w.length+1) s.size=ofL r from eqL (by rw [a2,cZ])];rfl
theorem aBA (s:ByteArray) (i:Nat) (h:i < (eF s).length):(eF s)[i]?=some (ofL ((fC 32 s.data.toList).getD i [])):=by rw [eF,aNz] at h;rw [eF,aOT,aOE h,List.getD_eq_getElem?_getD,aOE h];rfl
theorem aAz (s:ByteArray):(eF s).length=(fC 32 s.data.toList).length:=aNz _
theorem pM {a b:List UInt8}:ofL a=ofL b↔a=b:=⟨fun h=>by rw [← cZ a,h,cZ],fun h=>by rw [h]⟩
theorem cC (s:ByteArray) (l:List ByteArray):cV (s::l)=s.size+cV l:=by rw [cV,cV,List.map_cons,List.sum_cons]
theorem tY {e:GEdit} {ws:List ByteArray} (h1:e.op≠1) (h:bs ws=fZ e):(⟨(bS [32] (bs ws)).toArray⟩:ByteArray)++⟨#[10]⟩=ofL (fA e++[10]):=eqL (by
 rw [cZ,fA,aNx h1,← h];simp)
theorem aGa {e:GEdit} (h1:e.op=1):(⟨#[112,117,116,32]⟩:ByteArray)++(fJ e.obj).1++⟨#[10]⟩=ofL (fA e++[10]):=eqL (by
 rw [cZ,fA,aNy h1];simp [aAq])
theorem G7 {o:GObj}:(fJ o).1.size≤20000:=by
 rw [fJ]
 split
 ·split
  ·exact aOQ _
  split
  ·exact aOQ _
  show (tQ o).size≤_;omega
 exact aOQ _
theorem aJ8 (e:GEdit) (H:aB) (he:LM e) (hv:dP e=true):aI Tryz.prog 171 [av (aU e)] H (fun r H'=>r=.tup [sv (ofL (fA e++[10])),iv (fG e)]∧H'=H):=by
 refine Pu ?_;obtain ⟨⟨o1,o2⟩,o3,o4⟩:=uD.1 hv;rw [pY] at o3;have hval:=DV hv;have hs0:cV []=0:=rfl;refine Bd func171 rfl ntmps171<|Sr<|Dd (by exact cH (id:=1) rfl rfl rfl rfl rfl)<|Dd aN<|Dd aN<|Zz<|Sr<|Dd aN<|Zz<|Sq<|Sr<|Dd (aV fT)<|Dd (bM isAgg3)<|Zz<|aG<|Sr<|Dd cT<|Da ?_;refine Cn ?_ ?_<;>intro hc1
 ·have h1:e.op=1:=aNv hc1;have hos:=G7 (o:=e.obj);have h4:(⟨#[112,117,116,32]⟩:ByteArray).size=4:=rfl;have h10:(⟨#[10]⟩:ByteArray).size=1:=rfl;have h4s:((⟨#[112,117,116,32]⟩:ByteArray)++(fJ e.obj).1).size=4+(fJ e.obj).1.size:=by rw [ByteArray.size_append];rfl
  refine Sr<|Dd (aV nD)<|Dd (rQ cU sizeOf153)<|Dd (by exact aA rfl rfl call203 rfl (PO e.obj _ he.2.2))<|Dd aF<|Dd fL<|Dd fL<|Dd aN<|Dd aN<|Zz<|Sr<|Dd aF<|Dd (by exact cD rfl rfl rfl (by omega) rfl)<|Dd (by exact cD rfl rfl rfl (by omega) rfl)<|Dd aF<|Dd aN<|Dd aN<|Zz<|aC<|Ru ?_;rw [aGa h1,show fG e=(fJ e.obj).2 from aNy h1];exact Qq
 have h1:e.op≠1:=aNw hc1;rw [aNx h1,aOI] at o3;obtain ⟨o5,o6⟩:=o3;have hid:=dG o5;refine Sr<|Dd cT<|Da ?_;refine Cn ?_ ?_<;>intro hc2
 ·have h2:e.op=2:=aNv hc2;rw [aNy h2,onP,aOI,aOG,aOG] at o6;have hx:0≤e.x∧e.x < 1048576:=by omega
  have hy:0≤e.y∧e.y < 1048576:=by omega
  have six:(aT e.x).size≤7:=by rw [← aW];show (Lib.itoa e.x).length≤7;rw [iA _ hx.1];exact dU (by omega) (by decide)
  have siy:(aT e.y).size≤7:=by rw [← aW];show (Lib.itoa e.y).length≤7;rw [iA _ hy.1];exact dU (by omega) (by decide)
  have hw0:(⟨#[109,111,118,101]⟩:ByteArray).size=4:=rfl;refine aO follows<|Cq (aV gG)<|Cq (bM isAgg9)<|Cq (aV gF)<|Cq (aV pS)<|Cq (bM isAgg3)<|Cq (by exact aA rfl rfl oO rfl (sM e.x (by omega) (by omega) _))<|Cq (aV gF)<|Cq (aV pR)<|Cq (bM isAgg3)<|Cq (by exact aA rfl rfl oO rfl (sM e.y (by omega) (by omega) _))<|Cq (by exact aR (([⟨#[109,111,118,101]⟩,e.id,aT e.x,aT e.y]:List ByteArray).map encStr) rfl cA rfl rfl rfl rfl rfl (gR _))<|Cq aN<|bL<|Kr<|Sr<|Dm ?_;have hw:bs [⟨#[109,111,118,101]⟩,e.id,aT e.x,aT e.y]=fZ e:=by
   rw [fZ]
   (rw [aNy h2];rfl)
  have hne:e.op≠1:=by omega
  have hj:∀ H,aI Tryz.prog 168 [.pv (aX [⟨#[109,111,118,101]⟩,e.id,aT e.x,aT e.y]),sv ⟨#[32]⟩] H (fun x H'=>x=sv ⟨(bS [32] (bs [⟨#[109,111,118,101]⟩,e.id,aT e.x,aT e.y])).toArray⟩∧H'=H):=fun H=>sK [⟨#[109,111,118,101]⟩,e.id,aT e.x,aT e.y] ⟨#[32]⟩ H (by decide) (by show 1*_+_+_ < _;simp only [cC,aOB,List.length_nil];omega);have hjs:(⟨(bS [32] (bs [⟨#[109,111,118,101]⟩,e.id,aT e.x,aT e.y])).toArray⟩:ByteArray).size≤70000:=by
   show (bS [32] (bs [⟨#[109,111,118,101]⟩,e.id,aT e.x,aT e.y])).length≤_;have:=eW [⟨#[109,111,118,101]⟩,e.id,aT e.x,aT e.y];simp only [cC,aOB,List.length_nil] at this;omega
  have h10:(⟨#[10]⟩:ByteArray).size=1:=rfl;refine Dd (by exact aA rfl rfl oN rfl (hj _))<|Dd (by exact cD rfl rfl rfl (by omega) rfl)<|Dd aN<|Dd aN<|Zz<|aC<|Ru ?_;rw [tY hne hw,show fG e=0 from aNx hne];exact Qq
 have h2:e.op≠2:=aNw hc2;rw [aNx h2] at o6;refine Sr<|Dd cT<|Da ?_;refine Cn ?_ ?_<;>intro hc3
 ·have h3:e.op=3:=aNv hc3;rw [aNy h3,aOI,aOG] at o6;have hks:=dG o6.1;have hq:=oF e.val;have hw0:(⟨#[116,97,103]⟩:ByteArray).size=3:=rfl;refine aO follows<|Cq (aV gG)<|Cq (bM isAgg9)<|Cq (aV jB)<|Cq (bM isAgg9)<|Cq (aV jO)<|Cq (bM isAgg9)<|Cq (by exact aA rfl rfl call210 rfl (aAC e.val _ (by omega)))<|Cq (by exact aR (([⟨#[116,97,103]⟩,e.id,e.key,⟨(eC e.val.data.toList).toArray⟩]:List ByteArray).map encStr) rfl cA rfl rfl rfl rfl rfl (gR _))<|Cq aN<|bL<|Kr<|Sr<|Dm ?_;have hw:bs [⟨#[116,97,103]⟩,e.id,e.key,⟨(eC e.val.data.toList).toArray⟩]=fZ e:=by
   rw [fZ]
   (rw [aNx h2,aNy h3];rfl)
  have hne:e.op≠1:=by omega
  have hj:∀ H,aI Tryz.prog 168 [.pv (aX [⟨#[116,97,103]⟩,e.id,e.key,⟨(eC e.val.data.toList).toArray⟩]),sv ⟨#[32]⟩] H (fun x H'=>x=sv ⟨(bS [32] (bs [⟨#[116,97,103]⟩,e.id,e.key,⟨(eC e.val.data.toList).toArray⟩])).toArray⟩∧H'=H):=fun H=>sK [⟨#[116,97,103]⟩,e.id,e.key,⟨(eC e.val.data.toList).toArray⟩] ⟨#[32]⟩ H (by decide) (by show 1*_+_+_ < _;simp only [cC,aOB,List.length_nil];omega);have hjs:(⟨(bS [32] (bs [⟨#[116,97,103]⟩,e.id,e.key,⟨(eC e.val.data.toList).toArray⟩])).toArray⟩:ByteArray).size≤70000:=by
   show (bS [32] (bs [⟨#[116,97,103]⟩,e.id,e.key,⟨(eC e.val.data.toList).toArray⟩])).length≤_;have:=eW [⟨#[116,97,103]⟩,e.id,e.key,⟨(eC e.val.data.toList).toArray⟩];simp only [cC,aOB,List.length_nil] at this;omega
  have h10:(⟨#[10]⟩:ByteArray).size=1:=rfl;refine Dd (by exact aA rfl rfl oN rfl (hj _))<|Dd (by exact cD rfl rfl rfl (by omega) rfl)<|Dd aN<|Dd aN<|Zz<|aC<|Ru ?_;rw [tY hne hw,show fG e=0 from aNx hne];exact Qq
 have h3:e.op≠3:=aNw hc3;rw [aNx h3] at o6;refine Sr<|Dd cT<|Da ?_;refine Cn ?_ ?_<;>intro hc4
 ·have h4:e.op=4:=aNv hc4;rw [aNy h4,aOI,aOI,aOG,aOG,List.all_eq_true] at o6;obtain ⟨⟨r1,r2⟩,r3⟩:=o6;have hrs:cV e.refs≤24*e.refs.length:=mN (fun s hs=>dG (r3 s hs));have hw0:(⟨#[114,101,102,115]⟩:ByteArray).size=4:=rfl;have hfl:(([[⟨#[114,101,102,115]⟩,e.id],e.refs]:List (List ByteArray)).flatten).length < 1099511627776:=by simp;omega
  refine Rg<|Dd (aV gG)<|Dd (bM isAgg9)<|Dd (by exact aR (([⟨#[114,101,102,115]⟩,e.id]:List ByteArray).map encStr) rfl cA rfl rfl rfl rfl rfl (gR _))<|Dd (aV eT)<|Dd (bM aH)<|Dd (by exact aR (([[⟨#[114,101,102,115]⟩,e.id],e.refs]:List (List ByteArray)).map (fun l=>[.sl (l.map encStr)])) rfl ID rfl rfl rfl rfl rfl (by simp))<|Dd (by exact aA rfl rfl call211 rfl (HR [[⟨#[114,101,102,115]⟩,e.id],e.refs] _ (by show 2 < _;omega) hfl))<|Dd aN<|Zz<|Sr<|Dm ?_;rw [show ([[⟨#[114,101,102,115]⟩,e.id],e.refs]:List (List ByteArray)).flatten=⟨#[114,101,102,115]⟩::e.id::e.refs by simp];have hw:bs (⟨#[114,101,102,115]⟩::e.id::e.refs)=fZ e:=by
   rw [fZ]
   (rw [aNx h2,aNx h3,aNy h4];rfl)
  have hne:e.op≠1:=by omega
  have hj:∀ H,aI Tryz.prog 168 [.pv (aX (⟨#[114,101,102,115]⟩::e.id::e.refs)),sv ⟨#[32]⟩] H (fun x H'=>x=sv ⟨(bS [32] (bs (⟨#[114,101,102,115]⟩::e.id::e.refs))).toArray⟩∧H'=H):=fun H=>sK (⟨#[114,101,102,115]⟩::e.id::e.refs) ⟨#[32]⟩ H (by decide) (by show 1*_+_+_ < _;simp only [cC,aOB,List.length_nil];omega);have hjs:(⟨(bS [32] (bs (⟨#[114,101,102,115]⟩::e.id::e.refs))).toArray⟩:ByteArray).size≤70000:=by
   show (bS [32] (bs (⟨#[114,101,102,115]⟩::e.id::e.refs))).length≤_;have:=eW (⟨#[114,101,102,115]⟩::e.id::e.refs);simp only [cC,aOB,List.length_nil] at this;omega
  have h10:(⟨#[10]⟩:ByteArray).size=1:=rfl;refine Dd (by exact aA rfl rfl oN rfl (hj _))<|Dd (by exact cD rfl rfl rfl (by omega) rfl)<|Dd aN<|Dd aN<|Zz<|aC<|Ru ?_;rw [tY hne hw,show fG e=0 from aNx hne];exact Qq
 have h4:e.op≠4:=aNw hc4;rw [aNx h4] at o6;refine Sr<|Dd cT<|Da ?_;refine Cn ?_ ?_<;>intro hc5
 ·have h5:e.op=5:=aNv hc5;have hw0:(⟨#[100,114,111,112]⟩:ByteArray).size=4:=rfl;refine Rg<|Dd (aV gG)<|Dd (bM isAgg9)<|Dd (by exact aR (([⟨#[100,114,111,112]⟩,e.id]:List ByteArray).map encStr) rfl cA rfl rfl rfl rfl rfl (gR _))<|Dd aN<|Zz<|Sr<|Dm ?_;have hw:bs [⟨#[100,114,111,112]⟩,e.id]=fZ e:=by
   rw [fZ]
   (rw [aNx h2,aNx h3,aNx h4,aNy h5];rfl)
  have hne:e.op≠1:=by omega
  have hj:∀ H,aI Tryz.prog 168 [.pv (aX [⟨#[100,114,111,112]⟩,e.id]),sv ⟨#[32]⟩] H (fun x H'=>x=sv ⟨(bS [32] (bs [⟨#[100,114,111,112]⟩,e.id])).toArray⟩∧H'=H):=fun H=>sK [⟨#[100,114,111,112]⟩,e.id] ⟨#[32]⟩ H (by decide) (by show 1*_+_+_ < _;simp only [cC,aOB,List.length_nil];omega);have hjs:(⟨(bS [32] (bs [⟨#[100,114,111,112]⟩,e.id])).toArray⟩:ByteArray).size≤70000:=by
   show (bS [32] (bs [⟨#[100,114,111,112]⟩,e.id])).length≤_;have:=eW [⟨#[100,114,111,112]⟩,e.id];simp only [cC,aOB,List.length_nil] at this;omega
  have h10:(⟨#[10]⟩:ByteArray).size=1:=rfl;refine Dd (by exact aA rfl rfl oN rfl (hj _))<|Dd (by exact cD rfl rfl rfl (by omega) rfl)<|Dd aN<|Dd aN<|Zz<|aC<|Ru ?_;rw [tY hne hw,show fG e=0 from aNx hne];exact Qq
 have h5:e.op≠5:=aNw hc5;rw [aNx h5] at o6;refine Sr<|Dd cT<|Da ?_;refine Cn ?_ ?_<;>intro hc6
 ·have h6:e.op=6:=aNv hc6;rw [aNy h6,aOI] at o6;have hns:=dG o6.1;have hos:=dG o6.2;have hw0:(⟨#[115,112,108,105,116]⟩:ByteArray).size=5:=rfl;refine Rg<|Dd (aV gG)<|Dd (bM isAgg9)<|Dd (aV lC)<|Dd (bM isAgg9)<|Dd (aV gO)<|Dd (bM isAgg9)<|Dd (by exact aR (([⟨#[115,112,108,105,116]⟩,e.id,e.node,e.other]:List ByteArray).map encStr) rfl cA rfl rfl rfl rfl rfl (gR _))<|Dd aN<|Zz<|Sr<|Dm ?_;have hw:bs [⟨#[115,112,108,105,116]⟩,e.id,e.node,e.other]=fZ e:=by
   rw [fZ]
   (rw [aNx h2,aNx h3,aNx h4,aNx h5,aNy h6];rfl)
  have hne:e.op≠1:=by omega
  have hj:∀ H,aI Tryz.prog 168 [.pv (aX [⟨#[115,112,108,105,116]⟩,e.id,e.node,e.other]),sv ⟨#[32]⟩] H (fun x H'=>x=sv ⟨(bS [32] (bs [⟨#[115,112,108,105,116]⟩,e.id,e.node,e.other])).toArray⟩∧H'=H):=fun H=>sK [⟨#[115,112,108,105,116]⟩,e.id,e.node,e.other] ⟨#[32]⟩ H (by decide) (by show 1*_+_+_ < _;simp only [cC,aOB,List.length_nil];omega);have hjs:(⟨(bS [32] (bs [⟨#[115,112,108,105,116]⟩,e.id,e.node,e.other])).toArray⟩:ByteArray).size≤70000:=by
   show (bS [32] (bs [⟨#[115,112,108,105,116]⟩,e.id,e.node,e.other])).length≤_;have:=eW [⟨#[115,112,108,105,116]⟩,e.id,e.node,e.other];simp only [cC,aOB,List.length_nil] at this;omega
  have h10:(⟨#[10]⟩:ByteArray).size=1:=rfl;refine Dd (by exact aA rfl rfl oN rfl (hj _))<|Dd (by exact cD rfl rfl rfl (by omega) rfl)<|Dd aN<|Dd aN<|Zz<|aC<|Ru ?_;rw [tY hne hw,show fG e=0 from aNx hne];exact Qq
 have h6:e.op≠6:=aNw hc6;rw [aNx h6] at o6;have hos:=dG o6;have hw0:(⟨#[106,111,105,110]⟩:ByteArray).size=4:=rfl;refine Rg<|Dd (aV gG)<|Dd (bM isAgg9)<|Dd (aV gO)<|Dd (bM isAgg9)<|Dd (by exact aR (([⟨#[106,111,105,110]⟩,e.id,e.other]:List ByteArray).map encStr) rfl cA rfl rfl rfl rfl rfl (gR _))<|Dd aN<|Zz<|Sr<|Dm ?_;have hw:bs [⟨#[106,111,105,110]⟩,e.id,e.other]=fZ e:=by
  rw [fZ]
  (rw [aNx h2,aNx h3,aNx h4,aNx h5,aNx h6];rfl)
 have hne:e.op≠1:=by omega
 have hj:∀ H,aI Tryz.prog 168 [.pv (aX [⟨#[106,111,105,110]⟩,e.id,e.other]),sv ⟨#[32]⟩] H (fun x H'=>x=sv ⟨(bS [32] (bs [⟨#[106,111,105,110]⟩,e.id,e.other])).toArray⟩∧H'=H):=fun H=>sK [⟨#[106,111,105,110]⟩,e.id,e.other] ⟨#[32]⟩ H (by decide) (by show 1*_+_+_ < _;simp only [cC,aOB,List.length_nil];omega);have hjs:(⟨(bS [32] (bs [⟨#[106,111,105,110]⟩,e.id,e.other])).toArray⟩:ByteArray).size≤70000:=by
  show (bS [32] (bs [⟨#[106,111,105,110]⟩,e.id,e.other])).length≤_;have:=eW [⟨#[106,111,105,110]⟩,e.id,e.other];simp only [cC,aOB,List.length_nil] at this;omega
 have h10:(⟨#[10]⟩:ByteArray).size=1:=rfl;refine Dd (by exact aA rfl rfl oN rfl (hj _))<|Dd (by exact cD rfl rfl rfl (by omega) rfl)<|Dd aN<|Dd aN<|Zz<|aC<|Ru ?_;rw [tY hne hw,show fG e=0 from aNx hne];exact Qq
theorem TO:∀ {l:List GEdit} {acc:List UInt8},(oP acc l).2=0→(∀ e∈l,fG e=0)∧oP acc l=(acc++l.flatMap fun e=>fA e++[10],0)∧(acc.length≤20000→(oP acc l).1.length≤20000)
 | [],acc,_=>⟨(fun e h=>by cases h),by rw [oP,List.flatMap_nil,List.append_nil],fun h=>h⟩
 | e::l,acc,h=>by
  rw [oP] at h ⊢;by_cases h1:fG e≠0∨20000 < (acc++(fA e++[10])).length
  ·rw [aNy h1] at h;cases h
  rw [aNx h1] at h ⊢;rw [not_or,Classical.not_not] at h1;obtain ⟨i1,i2,i3⟩:=TO h;refine⟨fun x hx=>?_,by rw [i2,List.flatMap_cons,List.append_assoc],fun _=>i3 (by omega)⟩;rcases aOL.1 hx with rfl|hx
  ·exact h1.1
  exact i1 x hx
theorem MN {l:List GEdit} (h:jN l=true):l≠[]∧∀ e∈l,dP e=true:=by
 rw [jN,aOI,aOI,aOG,aOS,List.any_eq_false] at h;refine⟨fun e=>by rw [e] at h;exact absurd h.1.1 (by decide),fun e he=>?_⟩;have:=h.2 e he
 simpa using this
theorem aFw (w:List UInt8):Lib.trimSuffix (w++[10]) [10]=w:=by rw [Lib.trimSuffix,Lib.hasSuffix,aNy (List.isSuffixOf_iff_suffix.2 ⟨w,rfl⟩)];simp
theorem IE {l:List GEdit} (h:(fR l).2=0):mC (fR l).1=(l,0):=by
 have hc:jN l=true:=by
  rw [fR] at h
  split at h
  ·assumption
  cases h
 obtain ⟨hne,hv⟩:=MN hc;rw [fR,aNy hc] at h;obtain ⟨h1,h2,h3⟩:=TO h;rw [List.nil_append] at h2;have h4:=h3 (aOQ _);have ht:fR l=(ofL (l.flatMap fun e=>fA e++[10]),0):=by rw [fR,aNy hc,h2]
 have hsz:(ofL (l.flatMap fun e=>fA e++[10])).size≤20000:=by rw [dA];rw [h2] at h4;exact h4
 have hl:(kB (ofL (l.flatMap fun e=>fA e++[10])).data.toList).map (fun s=>iQ (Lib.trimSuffix s [10]))=l:=by
  have hj:=DA (ls:=l.map fA) (fun w hw=>by
   obtain ⟨e,he,rfl⟩:=List.mem_map.1 hw;exact(O9 (hv e he) (h1 e he)).2)
  rw [List.flatMap_map] at hj;rw [cZ,hj,List.map_map,List.map_map];refine(List.map_congr_left fun e he=>?_).trans (List.map_id l);show iQ (Lib.trimSuffix (fA e++[10]) [10])=e;rw [aFw];exact(O9 (hv e he) (h1 e he)).1
 rw [ht,mC,aNx (by show ¬ 20000 < (ofL (l.flatMap fun e=>fA e++[10])).size;omega)];show (if fR ((kB (ofL (l.flatMap fun e=>fA e++[10])).data.toList).map fun s=>iQ (Lib.trimSuffix s [10]))=(ofL (l.flatMap fun e=>fA e++[10]),0)then((kB (ofL (l.flatMap fun e=>fA e++[10])).data.toList).map (fun s=>iQ (Lib.trimSuffix s [10])),(0:Int))else([],5))=(l,0);rw [hl,aNy ht]
theorem aJd (g:Nat) (l:List UInt8) (u:Bool):aI Tryz.prog 172 [.ref 2001 0 0 0] (uR g l u) (fun r H'=>r=iv (l.length:Int)∧H'=uR g l u):=by refine Bd func172 rfl ntmps172<|Sr<|Dd aN<|Zz<|Sr<|Dd aF<|Dd AJ<|Dd (aV fX)<|Dd (bM dR)<|Dd (by exact eE rfl dC rfl rfl rfl)<|Dd aN<|Zz<|aC ?_;refine dY (H':=(uR g l u)) (.inr rfl) rfl (aY rfl) Fin.refl ?_;exact Qq
abbrev aEv (l:List UInt8) (g:Nat) (u:Bool):Ob:=wC (.osl 2002 g 0 l.length) u
abbrev aEu (l:List UInt8) (g:Nat):Ob:=⟨g,1,5,eN l⟩
theorem aLg {g g':Nat} {l l':List UInt8} {u u':Bool} {id:Nat} (h:(aB.get (uR g l u) id).isSome=true):(aB.get (uR g' l' u') id).isSome=true:=aAT h
theorem aLf {g:Nat} {l:List UInt8} {u u':Bool} {id:Nat} (h:(aB.get (aCF g l u) id).isSome=true):(aB.get (uR g l u) id).isSome=true:=by
 simp only [aCF,uR,aB.get] at h ⊢;cases e1:Nat.beq 2001 id with
 | true=>rfl
 | false =>
  cases e2:Nat.beq 2002 id with
  | true=>rfl
  | false=>rw [e1,e2] at h;cases h
theorem aKe {H:aB} {g:Nat} {l:List UInt8} {u:Bool} (s:ByteArray) (h1:H.get 2001=some (aEv l g u)) (h2:H.get 2002=some (aEu l g)) (hl:l.length+s.size < 70368744177664):aI Tryz.prog 114 [.ref 2001 0 0 0,sv s] H (fun r H'=>r=.tup [iv (s.size:Int),.pv G8]∧H'=uR (g+1) (l++s.data.toList) true++H) :=aI.frame (iH g l u s hl) (Sub.of2 h1 h2) (eG.ofL ⟨(by exact fS rfl rfl),(by exact eK _ _),trivial⟩) (by simp;rfl) (fun id h=>.inl (aLg h))
theorem aJc {H:aB} {g:Nat} {l:List UInt8} {u:Bool} (h1:H.get 2001=some (aEv l g u)) (h2:H.get 2002=some (aEu l g)):aI Tryz.prog 172 [.ref 2001 0 0 0] H (fun r H'=>r=iv (l.length:Int)∧H'=H) :=aI.frameS (aJd g l u) (Sub.of2 h1 h2) (eG.ofL ⟨(by exact fS rfl rfl),(by exact eK _ _),trivial⟩) (by simp;rfl)
theorem aIo {H:aB} {g:Nat} {l:List UInt8} {u:Bool} (h1:H.get 2001=some (aEv l g u)) (h2:H.get 2002=some (aEu l g)) (hl:l.length < 70368744177664):aI Tryz.prog 116 [.ref 2001 0 0 0] H (fun r H'=>r=sv ⟨l.toArray⟩∧H'=aCF g l u++H) :=aI.frame (O0 g l u hl) (Sub.of2 h1 h2) (eG.ofL ⟨(by exact fS rfl rfl),(by exact eK _ _),trivial⟩) (by simp;rfl) (fun id h=>.inl (aLf (u':=u) h))
def uK:Nat→Bool
 | 0=>false
 | _+1=>true
def nF (l:List GEdit) (k:Nat):List UInt8:=(l.take k).flatMap fun e=>fA e++[10]
theorem QY {l:List GEdit} {k:Nat} {e:GEdit} (h:l[k]?=some e):nF l (k+1)=nF l k++(fA e++[10]):=by rw [nF,List.take_add_one,h,List.flatMap_append];simp [nF]
theorem P0 {e:GEdit} (he:dP e=true):(fA e).length≤100000:=by
 obtain ⟨⟨o1,o2⟩,o3,o4⟩:=uD.1 he;rw [pY] at o3;have hval:=DV he;by_cases h1:e.op=1
 ·rw [fA,aNy h1,aOA,aOB,aW];have:=G7 (o:=e.obj);show 3+_≤_;omega
 rw [aNx h1,aOI] at o3;obtain ⟨o5,o6⟩:=o3;have hid:=dG o5;have key:∀ ws:List ByteArray,bs ws=fZ e→ws.length+cV ws≤100000→(fA e).length≤100000:=fun ws h h2=>by
  rw [fA,aNx h1,← h];exact Nat.le_trans (eW ws) h2
 by_cases h2:e.op=2
 ·rw [aNy h2,onP,aOI,aOG,aOG] at o6;have six:(aT e.x).size≤7:=by rw [← aW];show (Lib.itoa e.x).length≤7;rw [iA _ (by omega)];exact dU (by omega) (by decide)
  have siy:(aT e.y).size≤7:=by rw [← aW];show (Lib.itoa e.y).length≤7;rw [iA _ (by omega)];exact dU (by omega) (by decide)
  have hw0:(⟨#[109,111,118,101]⟩:ByteArray).size=4:=rfl;exact key [⟨#[109,111,118,101]⟩,e.id,aT e.x,aT e.y] (by rw [fZ,aNy h2];rfl) (by simp only [cC,aOB,List.length_nil,show cV []=0 from rfl];omega)
 rw [aNx h2] at o6;by_cases h3:e.op=3
 ·rw [aNy h3,aOI] at o6;have hks:=dG o6.1;have hq:=oF e.val;have hw0:(⟨#[116,97,103]⟩:ByteArray).size=3:=rfl;exact key [⟨#[116,97,103]⟩,e.id,e.key,⟨(eC e.val.data.toList).toArray⟩] (by rw [fZ,aNx h2,aNy h3];rfl) (by simp only [cC,aOB,List.length_nil,show cV []=0 from rfl];omega)
 rw [aNx h3] at o6;by_cases h4:e.op=4
 ·rw [aNy h4,aOI,aOI,aOG,aOG,List.all_eq_true] at o6;obtain ⟨⟨r1,r2⟩,r3⟩:=o6;have hrs:cV e.refs≤24*e.refs.length:=mN (fun s hs=>dG (r3 s hs));have hw0:(⟨#[114,101,102,115]⟩:ByteArray).size=4:=rfl;exact key (⟨#[114,101,102,115]⟩::e.id::e.refs) (by rw [fZ,aNx h2,aNx h3,aNy h4];rfl) (by simp only [cC,aOB];omega)
 rw [aNx h4] at o6;by_cases h5:e.op=5
 ·have hw0:(⟨#[100,114,111,112]⟩:ByteArray).size=4:=rfl;exact key [⟨#[100,114,111,112]⟩,e.id] (by rw [fZ,aNx h2,aNx h3,aNx h4,aNy h5];rfl) (by simp only [cC,aOB,List.length_nil,show cV []=0 from rfl];omega)
 rw [aNx h5] at o6;by_cases h6:e.op=6
 ·rw [aNy h6,aOI] at o6;have hns:=dG o6.1;have hos:=dG o6.2;have hw0:(⟨#[115,112,108,105,116]⟩:ByteArray).size=5:=rfl;exact key [⟨#[115,112,108,105,116]⟩,e.id,e.node,e.other] (by rw [fZ,aNx h2,aNx h3,aNx h4,aNx h5,aNy h6];rfl) (by simp only [cC,aOB,List.length_nil,show cV []=0 from rfl];omega)
 rw [aNx h6] at o6;have hos:=dG o6;have hw0:(⟨#[106,111,105,110]⟩:ByteArray).size=4:=rfl;exact key [⟨#[106,111,105,110]⟩,e.id,e.other] (by rw [fZ,aNx h2,aNx h3,aNx h4,aNx h5,aNx h6];rfl) (by simp only [cC,aOB,List.length_nil,show cV []=0 from rfl];omega)
theorem ZQ (l:List GEdit) (H:aB) (hl:l.length < 4611686018427387904) (he:∀ e∈l,LM e):aI Tryz.prog 122 [.pv (hU l)] H (fun r H'=>r=.tup [sv (fR l).1,iv (fR l).2]∧H'=H):=by
 refine Pu ?_;have hml:(l.map aU).length=l.length:=aNz _;refine Bd func122 rfl ntmps122<|Sr<|Dd aN<|Dd aN<|Zz<|Sq<|Sr<|Dd aF<|Dd (by exact aA rfl rfl call170 rfl (OJ l _ hl he))<|Dd jS<|Zz ?_;refine Cn ?_ ?_<;>intro hc1
 ·have hg:jN l=false:=by have h:=hc1;rwa [aOS] at h
  rw [show fR l=(sNil,1)by rw [fR,hg];rfl];exact Sr<|Dd aN<|Dd aN<|Zz<|aC<|Ru<|Qq
 have hg:jN l=true:=by have h:=hc1;rwa [Bool.not_eq_false'] at h
 have hv:=(MN hg).2;have hT:fR l=(ofL (oP [] l).1,(oP [] l).2):=by rw [fR,aNy hg]
 refine aD<|Sr<|Dd (by exact bU (id:=2001) rfl GL rfl rfl)<|Zz<|Sq<|Sq ?_;refine gK.ent (E':=[(0,.pv (hU l)),(4,.ref 2001 0 0 0)]) (H':=[(2002,⟨0,1,5,[]⟩),(2001,wC (.osl 2002 0 0 0) false)]) (cY.nz 2002 1 5 rfl rfl ⟨⟨_,rfl,(by exact Nz.same (by(simp;done)))⟩,⟨_,rfl,(by exact Nz.same (by(simp;rfl)))⟩,trivial⟩ ⟨⟨_,rfl,rfl,rfl,rfl,(by exact .inr ⟨_,_,rfl,rfl,(by repeat(first|exact trivial|refine⟨(by first|exact Nz.own|exact Nz.same (by(simp;done))),?_⟩))⟩)⟩,trivial⟩ trivial) ?_;refine Rg<|Dd aF<|Dd (fY cX)<|Dd aF<|Zz<|aG ?_;refine bT (σ:=Nat) (fun k=>([(4,.ref 2001 0 0 0),(12,.pv (hU l)),(13,iv ((l.map aU).length:Int)),(14,iv (k:Int))],[(2001,aEv (nF l k) k (uK k)),(2002,aEu (nF l k) k)])) (fun k=>k≤l.length∧oP [] l=oP (nF l k) (l.drop k)∧(nF l k).length≤20000) (fun k=>l.length - k) 0 ⟨aOQ _,rfl,aOQ _⟩ ?_ ?_
 ·exact(cY.wk (Ea<|Eb<|Eb<|Eb<|trivial) (Hc (fS rfl rfl)<|Hc (eK _ _)<|trivial) trivial)
 rintro k ⟨hk,hF,hA⟩;refine Sr<|Dd dK<|Zz<|Sq ?_;refine Cn ?_ ?_<;>intro hc2
 ·have hlt:k < l.length:=by have:=aNv hc2;omega
  obtain ⟨e,hke⟩:=aZ hlt;have hi:=cP (f:=aU) hke;have hem:=aOJ hke;have hnx:=QY hke;have hYl:=P0 (hv e hem);have hdr:l.drop k=e::l.drop (k+1):=by
   rw [List.drop_eq_getElem_cons hlt];rw [aOE hlt] at hke;cases hke;rfl
  rw [hdr,oP] at hF;have hsz:(ofL (fA e++[10])).size=(fA e).length+1:=by rw [dA,aOA];rfl
  have hbl:uR (k+1) (nF l k++(ofL (fA e++[10])).data.toList) true=uR (k+1) (nF l (k+1)) true:=by rw [cZ,hnx]
  have hnl:(nF l (k+1)).length=(nF l k).length+((fA e).length+1):=by rw [hnx,aOA,aOA];rfl
  have hw:∀ H,H.get 2001=some (aEv (nF l k) k (uK k))→H.get 2002=some (aEu (nF l k) k)→aI Tryz.prog 114 [.ref 2001 0 0 0,sv (ofL (fA e++[10]))] H (fun r H'=>r=.tup [iv ((ofL (fA e++[10])).size:Int),.pv G8]∧H'=uR (k+1) (nF l (k+1)) true++H):=fun H h1 h2=>by
   have:=aKe (H:=H) (ofL (fA e++[10])) h1 h2 (by omega)
   rwa [hbl] at this
  refine aD<|Sq<|aG<|Sr<|Dd (lN RD)<|Dd (by exact dL rfl bZ aS rfl (by omega) rfl rfl)<|Dd (by exact bU (id:=6) rfl OM rfl rfl)<|Uu (kQ aS)<|Zz<|Sr<|Dd (rQ bZ aS)<|Dd (by exact aA rfl rfl call171 rfl (aJ8 e _ (he e hem) (hv e hem)))<|Dd aF<|Dd fL<|Dd fL<|Dd aN<|Dd aN<|Zz<|Sr<|Dd aF<|Dd (by exact aA rfl rfl mK rfl (hw _ rfl rfl))<|Zz<|Sq ?_;refine bA (t:=30) (n:=7) (X:=!decide (fG e=0)||decide ((20000:Int) < ((nF l (k+1)).length:Int))) ?_ ?_
  ·all_goals refine Dd aF ?_
   all_goals refine Dd AI<|Dm ?_
   all_goals refine Sp 27 (fun h27=>?_) fun h27=>?_
   all_goals try contradiction
   all_goals first|refine Fo<|Fo ?_|refine On (by exact aA rfl rfl wJ rfl (aJc (l:=nF l (k+1)) (g:=k+1) (u:=true) rfl rfl))<|On jE ?_
   all_goals refine Dd cW<|Zz ?_
   all_goals(exact⟨⟨_,rfl,by(simp only [*,Zo];done)⟩,rfl,rfl,rfl⟩)
  refine Cn ?_ ?_<;>intro hc3
  ·have hbad:fG e≠0∨20000 < (nF l k++(fA e++[10])).length:=by have h:=hc3;rw [← hnx];simp only [Bool.or_eq_true,aOS,aOH,aOG] at h;omega
   rw [aNy hbad] at hF;rw [hT,hF];exact Sr<|Dd aN<|Dd aN<|Zz<|aC<|Ru<|Qq
  have hfine:¬ (fG e≠0∨20000 < (nF l k++(fA e++[10])).length):=by have h:=hc3;rw [← hnx];simp only [aOV,Bool.not_eq_false',aOH,aOG] at h;omega
  rw [aNx hfine,← hnx] at hF;rw [← hnx] at hfine;refine aD<|Rg<|Dd lR<|Dd aF<|Zz ?_;exact⟨k+1,⟨hlt,hF,by omega⟩,by omega,(cY.wk (Ea<|Eb<|Eb<|Eb<|trivial) (Hc (fS rfl rfl)<|Hc (eK _ _)<|trivial) trivial)⟩
 have hge:k=l.length:=by have:=aNw hc2;omega
 subst hge;rw [List.drop_length,oP] at hF;rw [hT,hF];exact bC<|Sr<|Dd (by exact aA rfl rfl mJ rfl (aIo (l:=nF l l.length) (g:=l.length) (u:=uK l.length) rfl rfl (by omega)))<|Dd aN<|Dd aN<|Zz<|aC<|Ru<|Qq
theorem UF (s:ByteArray):(nJ s).data.toList=(aT (s.size:Int)).data.toList++[58]++s.data.toList:=by rw [nJ,ByteArray.data_append,ByteArray.data_append,Array.toList_append,Array.toList_append]
theorem P4 (l:List ByteArray) (H:aB) (hl:(aM l).length < 35184372088832):aI Tryz.prog 47 [.pv (aX l)] H (fun r H'=>r=sv ⟨(aM l).toArray⟩∧H'=H):=by
 refine Pu ?_;have hml:(l.map encStr).length=l.length:=aNz _;have hll:=BF l;refine Bd func47 rfl ntmps47<|Sr<|Dd aN<|Zz<|Sr<|Dd (by exact bU (id:=2001) rfl GL rfl rfl)<|Zz<|Sq<|Sq ?_;refine gK.ent (E':=[(0,.pv (aX l)),(3,.ref 2001 0 0 0)]) (H':=uR 0 [] false) (cY.bld0 ⟨⟨_,rfl,.same (by simp)⟩,⟨_,rfl,.same (by simp;rfl)⟩,trivial⟩) ?_;refine Rg<|Dd aF<|Dd (fY underlying77)<|Dd aF<|Zz<|aG ?_;refine HW (fun(k g:Nat) (u:Bool)=>([(3,.ref 2001 0 0 0),(6,.pv (aX l)),(7,iv ((l.map encStr).length:Int)),(8,iv (k:Int))],uR g (aM (l.take k)) u)) (fun k g u=>k≤l.length) (fun k g u=>l.length - k) 0 0 false (aOQ _) ?_ ?_
 ·exact(cY.wk (Ea<|Eb<|Eb<|Eb<|trivial) (Hc (fS rfl rfl)<|Hc (eK _ _)<|trivial) trivial)
 intro k g u hk;have hle:=yY l k;refine Sr<|Dd dK<|Zz<|Sq ?_;refine Cn ?_ ?_<;>intro hc1
 ·have hlt:k < l.length:=by have:=aNv hc1;omega
  obtain ⟨s,hs⟩:=aZ hlt;have hi:=cP (f:=encStr) hs;have hle2:=yY l (k+1);rw [sX hs,sL,aOA,mO,oU] at hle2;have hsz:s.size < 35184372088832:=by omega
  have hnx:aM (l.take (k+1))=aM (l.take k)++(aT (s.size:Int)).data.toList++[58]++s.data.toList:=by
   rw [sX hs,sL,UF,List.append_assoc,List.append_assoc,List.append_assoc]
  have hl1:(aM (l.take k)++(aT (s.size:Int)).data.toList).length=(aM (l.take k)).length+(aT (s.size:Int)).size:=by rw [aOA,mO]
  have hl2:(aM (l.take k)++(aT (s.size:Int)).data.toList++[58]).length=(aM (l.take k)).length+(aT (s.size:Int)).size+1:=by rw [aOA,hl1];rfl
  refine aD<|Sq<|aG<|Sr<|Dd (by exact bW rfl W9 rfl rfl (by omega) (by exact aOK _) hi rfl)<|Dd (jA isAgg9 (hi:=hi))<|Dd aN<|Zz<|Sr<|Dd aF<|Dd (lH underlying9)<|Dd (by exact aA rfl rfl oO rfl (sM (s.size:Int) (by omega) (by omega) _))<|Dd (by exact aA rfl rfl mK rfl (iH g (aM (l.take k)) u (aT (s.size:Int)) (by omega)))<|Zz<|Sr<|Dd (by exact aA rfl rfl kJ rfl (iI (g+1) (aM (l.take k)++(aT (s.size:Int)).data.toList) true 58 (by omega)))<|Zz<|Rg<|Dd aF<|Dd (by exact aA rfl rfl mK rfl (iH (g+1+1) (aM (l.take k)++(aT (s.size:Int)).data.toList++[58]) true s (by omega)))<|Zz<|Rg<|Dd (by exact cI rfl rfl rfl (show IntKind.i64.wrap ((k:Int)+1)=((k+1:Nat):Int)by rw [pB (by omega) (by omega)];omega)) ?_;refine Dd aF<|Zz ?_;refine⟨k+1,g+1+1+1,true,by omega,by omega,?_⟩;rw [hnx];exact(cY.wk (Ea<|Eb<|Eb<|Eb<|trivial) (Hc (fS rfl rfl)<|Hc (eK _ _)<|trivial) trivial)
 have hge:k=l.length:=by have:=aNw hc1;omega
 subst hge;rw [List.take_length];exact bC<|Sr<|Dd (by exact aA rfl rfl mJ rfl (O0 g (aM l) u (by omega)))<|Dd aN<|Zz<|aC<|Rt<|Qq
def jJ (l:List GEdit):ByteArray×Bool:=if l.length=0 then(sNil,true)else((fR l).1,decide ((fR l).2=0))
theorem ZP (l:List GEdit) (H:aB) (hl:l.length < 1099511627776) (he:∀ e∈l,LM e):aI Tryz.prog 76 [.pv (hU l)] H (fun r H'=>r=.tup [sv (jJ l).1,bv (jJ l).2]∧H'=H):=by
 refine Pu ?_;have hml:(l.map aU).length=l.length:=aNz _;have htx:=fun H=>ZQ l H (by omega) he;have e0:l.length=0→jJ l=(sNil,true):=fun h=>by rw [jJ,aNy h]
 have e1:l.length≠0→jJ l=((fR l).1,decide ((fR l).2=0)):=fun h=>by rw [jJ,aNx h]
 obtain ⟨T,hT⟩:∃ T,T=fR l:=⟨_,rfl⟩;rw [← hT] at htx e1;refine Bd func76 rfl ntmps76<|Sr<|Dd aN<|Dd aN<|Zz<|Sq<|Sr<|Dd aF<|Dd (fY cX)<|Dd cT<|Zz ?_;refine Cn ?_ ?_<;>intro hc1
 ·have h0:l.length=0:=by have:=aNv hc1;omega
  rw [e0 h0];exact Sr<|Dd aN<|Dd aN<|Zz<|aC<|Ru<|Qq
 have h0:l.length≠0:=by have:=aNw hc1;omega
 rw [e1 h0];exact aD<|Sr<|Dd aF<|Dd (by exact aA rfl rfl call122 rfl (htx _))<|Dd aF<|Dd fL<|Dd fL<|Dd aN<|Dd aN<|Zz<|Sr<|Dd aF<|Dd aF<|Dd cT<|Dd aN<|Dd aN<|Zz<|aC<|Ru<|Qq
def T6:ByteArray:=⟨#[114,101,99,111,114,100]⟩
def CW (r:GRec) (T:ByteArray):List IV:=[.t T6,.n r.kind,.n r.author,.n r.number,.n r.clock,.t r.branch,.l r.parents,.t T,.t r.target,.b r.yes,.n r.order,.t r.from']
def jG (r:GRec):Prop:=(qT r.kind∧qT r.author∧qT r.number∧qT r.clock∧qT r.order)∧(r.branch.size < 1099511627776∧r.target.size < 1099511627776∧r.from'.size < 1099511627776)∧N5 r.parents∧(r.edits.length < 1099511627776∧∀ e∈r.edits,LM e)∧tP r.sl∧X3 r.priv
theorem aGc {r:GRec} (h:jG r) (T:ByteArray):∀ v∈CW r T,okI v:=by
 obtain ⟨⟨a1,a2,a3,a4,a5⟩,_,b1,_⟩:=h;intro v hv;simp only [CW,aOL,aOP,or_false] at hv;rcases hv with rfl|rfl|rfl|rfl|rfl|rfl|rfl|rfl|rfl|rfl|rfl|rfl
 ·exact trivial
 ·exact a1
 ·exact a2
 ·exact a3
 ·exact a4
 ·exact trivial
 ·exact b1.1
 ·exact trivial
 ·exact trivial
 ·exact trivial
 ·exact a5
 exact trivial
theorem UC {r:GRec} (T:ByteArray):(vN (CW r T)).length=r.parents.length+12:=by simp [CW,vN,fI]
def gX (r:GRec):List ByteArray:=vN (CW r (jJ r.edits).1)
def UD (r:GRec):Nat:=YN (CW r (jJ r.edits).1)
theorem PF (r:GRec) (hr:jG r) (hp:r.parents.length < 549755813888):aI Tryz.prog 45 [av (cF r)] [] (fun x H'=>x=.osl 971 (UD r) 0 (gX r).length∧H'=[(971,⟨UD r,1,9,dS (gX r)⟩)]):=by
 have htx:=fun H=>ZP r.edits H hr.2.2.2.1.1 hr.2.2.2.1.2;rw [gX,UD];obtain ⟨T,hT⟩:∃ T,T=(jJ r.edits).1:=⟨_,rfl⟩;obtain ⟨b,hb⟩:∃ b,b=(jJ r.edits).2:=⟨_,rfl⟩;rw [← hT,← hb] at htx;rw [← hT];have hlen:=UC (r:=r) T;have hadd:=Y7 (CW r T) (aGc hr T) 0 [] (show 12 < 1099511627776 by decide) (by rw [hlen,List.length_nil];omega);rw [aOR,List.nil_append] at hadd;refine Bd func45 rfl ntmps45<|Sr<|Dd (by exact cH (id:=1) rfl rfl rfl rfl rfl)<|Dd aN<|Zz<|Sr<|Dd (by exact bU (id:=970) rfl aK1 rfl rfl)<|Zz<|Sr<|Dd (aV zD)<|Dd (bM kI)<|Dd (by exact aA rfl rfl call76 rfl (htx _))<|Dd aF<|Dd fL<|Dd fL<|Dd aN<|Dd aN<|Zz<|Sq ?_;refine gK.ent (E':=[(1,.ref 1 0 0 0),(3,.ref 970 0 0 0),(4,sv T)]) (H':=(971,⟨0,1,9,[]⟩)::(970,bx 1 77 [.osl 971 0 0 0])::(1,bx 21 30 ((cF r).map .pv))::[]) ?_ ?_
 ·exact(cY.nz 971 1 9 rfl rfl ⟨⟨_,rfl,(by exact Nz.same (by(simp;rfl)))⟩,⟨_,rfl,(by exact Nz.same (by(simp;rfl)))⟩,⟨_,rfl,(by exact Nz.same (by(simp;done)))⟩,trivial⟩ ⟨⟨_,rfl,rfl,rfl,rfl,(by exact .inr ⟨_,_,rfl,rfl,(by repeat(first|exact trivial|refine⟨(by exact Nz.own),?_⟩))⟩)⟩,⟨_,rfl,rfl,rfl,rfl,(by exact .inl ⟨rfl,(by(simp;done))⟩)⟩,trivial⟩ trivial)
 refine Rg<|Dd (by exact fB (p:=.str T6) rfl (dM underlying9 rfl) rfl)<|Dd (aV BM)<|Dd (bM isAgg3)<|Dd (by exact fB (p:=.int .i64 r.kind) rfl (dM underlying3 rfl) rfl)<|Dd (aV zG)<|Dd (bM isAgg3)<|Dd (by exact fB (p:=.int .i64 r.author) rfl (dM underlying3 rfl) rfl)<|Dd (aV qL)<|Dd (bM isAgg3)<|Dd (by exact fB (p:=.int .i64 r.number) rfl (dM underlying3 rfl) rfl)<|Dd (aV zF)<|Dd (bM isAgg3)<|Dd (by exact fB (p:=.int .i64 r.clock) rfl (dM underlying3 rfl) rfl)<|Dd (aV zE)<|Dd (bM isAgg9)<|Dd (by exact fB (p:=.str r.branch) rfl (dM underlying9 rfl) rfl)<|Dd (aV oI)<|Dd (bM aH)<|Dd (by exact fB (p:=aX r.parents) rfl (dM aE rfl) rfl)<|Dd aF<|Dd (by exact fB (p:=.str T) rfl (dM underlying9 rfl) rfl) ?_;refine Dd (aV rS)<|Dd (bM isAgg9)<|Dd (by exact fB (p:=.str r.target) rfl (dM underlying9 rfl) rfl)<|Dd (aV BL)<|Dd (bM oC)<|Dd (by exact fB (p:=.bool r.yes) rfl (dM dZ rfl) rfl)<|Dd (aV uE)<|Dd (bM isAgg3)<|Dd (by exact fB (p:=.int .i64 r.order) rfl (dM underlying3 rfl) rfl)<|Dd (aV pT)<|Dd (bM isAgg9)<|Dd (by exact fB (p:=.str r.from') rfl (dM underlying9 rfl) rfl)<|Dd (by exact aR ((CW r T).map wA) rfl vB rfl rfl rfl rfl rfl (MS (CW r T)))<|Dd (by exact aA rfl rfl uS rfl (WI hadd ⟨rfl,rfl,trivial⟩ (by simp;rfl)))<|Zz<|Sr<|Dd (bM CY)<|Dd aN<|Zz<|aC ?_;refine dY (H':=[(971,⟨YN (CW r T),1,9,dS (vN (CW r T))⟩)]) (.inr rfl) rfl (aY rfl) (Fin.wk (by(simp;rfl)) (Hc (cL _ _)<|trivial) trivial) ?_;exact Qq
end Go.Proofs.YtiifmppaejpemaaGreatDoor
section
namespace Go.Proofs
open Go.RowKit Go.Sort Go.Shelf
def aNp:Go.Shelf.Ren:=⟨fun|172=>118|244=>161|245=>162|247=>196|279=>197|280=>198|281=>199|282=>200|287=>230|316=>231|171=>113|205=>232|321=>261|322=>262|243=>158|246=>193|283=>223|284=>224|285=>225|286=>226|129=>256|317=>255|318=>257|319=>258|320=>259|337=>274|338=>275|n=>n,fun|9=>9|3=>3|75=>142|76=>143|4=>4|5=>5|167=>211|37=>124|0=>0|85=>212|2=>2|168=>214|53=>126|175=>240|46=>128|210=>243|127=>185|145=>274|143=>272|21=>21|171=>235|173=>238|212=>264|51=>265|20=>20|213=>266|232=>284|233=>285|80=>80|n=>n,fun|15=>1|16=>2|17=>5|18=>6|19=>7|n=>n⟩
theorem aNt:Go.Proofs.LaysC.n172 Tryz.prog aNp:={
  mixed:=by kernel_rfl
  f129:=Tryz.func256.trans (congrArg some (by kernel_rfl))
  f171:=Tryz.func113.trans (congrArg some (by kernel_rfl))
  f172:=Tryz.func118.trans (congrArg some (by kernel_rfl))
  f205:=Tryz.func232.trans (congrArg some (by kernel_rfl))
  f243:=Tryz.func158.trans (congrArg some (by kernel_rfl))
  f244:=Tryz.func161.trans (congrArg some (by kernel_rfl))
  f245:=Tryz.func162.trans (congrArg some (by kernel_rfl))
  f246:=Tryz.func193.trans (congrArg some (by kernel_rfl))
  f247:=Tryz.func196.trans (congrArg some (by kernel_rfl))
  f279:=Tryz.func197.trans (congrArg some (by kernel_rfl))
  f280:=Tryz.func198.trans (congrArg some (by kernel_rfl))
  f281:=Tryz.func199.trans (congrArg some (by kernel_rfl))
  f282:=Tryz.func200.trans (congrArg some (by kernel_rfl))
  f283:=Tryz.func223.trans (congrArg some (by kernel_rfl))
  f284:=Tryz.func224.trans (congrArg some (by kernel_rfl))
  f285:=Tryz.func225.trans (congrArg some (by kernel_rfl))
  f286:=Tryz.func226.trans (congrArg some (by kernel_rfl))
  f287:=Tryz.func230.trans (congrArg some (by kernel_rfl))
  f316:=Tryz.func231.trans (congrArg some (by kernel_rfl))
  f317:=Tryz.func255.trans (congrArg some (by kernel_rfl))
  f318:=Tryz.func257.trans (congrArg some (by kernel_rfl))
  f319:=Tryz.func258.trans (congrArg some (by kernel_rfl))
  f320:=Tryz.func259.trans (congrArg some (by kernel_rfl))
  f321:=Tryz.func261.trans (congrArg some (by kernel_rfl))
  f322:=Tryz.func262.trans (congrArg some (by kernel_rfl))
  f337:=Tryz.func274.trans (congrArg some (by kernel_rfl))
  f338:=Tryz.func275.trans (congrArg some (by kernel_rfl))
  t0:=aFY
  a0:=aNk
  z0:=aNN
  v0:=aHv
  t2:=Tryz.underlying2
  a2:=Tryz.isAgg2
  z2:=Tryz.sizeOf2
  v2:=Tryz.zeroValue2
  t3:=Tryz.underlying3
  a3:=Tryz.isAgg3
  z3:=Tryz.sizeOf3
  v3:=B3
  t4:=dZ
  a4:=oC
  z4:=Tryz.sizeOf4
  v4:=mG
  t5:=iV
  a5:=AN
  z5:=cG
  v5:=B2
  t9:=Tryz.underlying9
  a9:=Tryz.isAgg9
  z9:=Tryz.sizeOf9
  v9:=sZ
  t20:=GI
  a20:=rM
  z20:=aMB
  v20:=aFX
  t21:=Tryz.underlying21
  a21:=Tryz.isAgg21
  z21:=Tryz.sizeOf21
  v21:=Tryz.zeroValue21
  t37:=dC
  a37:=dR
  z37:=nR
  v37:=Tryz.zeroValue124
  t46:=D8
  a46:=WT
  z46:=S6
  v46:=GF
  t51:=Tryz.underlying265
  a51:=Tryz.isAgg265
  z51:=Tryz.sizeOf265
  v51:=Tryz.zeroValue265
  t53:=oM
  a53:=H7
  z53:=EA
  v53:=GG
  t75:=oL
  a75:=Tryz.isAgg142
  z75:=Tryz.sizeOf142
  v75:=Tryz.zeroValue142
  t76:=Tryz.underlying143
  a76:=Tryz.isAgg143
  z76:=Tryz.sizeOf143
  v76:=Tryz.zeroValue143
  t85:=Tryz.underlying212
  a85:=Tryz.isAgg212
  z85:=Tryz.sizeOf212
  v85:=Tryz.zeroValue212
  t127:=uO
  a127:=Tryz.isAgg185
  z127:=Tryz.sizeOf185
  v127:=Tryz.zeroValue185
  t143:=Tryz.underlying272
  a143:=Tryz.isAgg272
  z143:=Tryz.sizeOf272
  v143:=Tryz.zeroValue272
  t145:=Tryz.underlying274
  a145:=Tryz.isAgg274
  z145:=Tryz.sizeOf274
  v145:=Tryz.zeroValue274
  t167:=Tryz.underlying211
  a167:=Tryz.isAgg211
  z167:=Tryz.sizeOf211
  v167:=Tryz.zeroValue211
  t168:=Tryz.underlying214
  a168:=Tryz.isAgg214
  z168:=Tryz.sizeOf214
  v168:=Tryz.zeroValue214
  t171:=Tryz.underlying235
  a171:=Tryz.isAgg235
  z171:=Tryz.sizeOf235
  v171:=Tryz.zeroValue235
  t173:=Tryz.underlying238
  a173:=Tryz.isAgg238
  z173:=Tryz.sizeOf238
  v173:=Tryz.zeroValue238
  t175:=Tryz.underlying240
  a175:=Tryz.isAgg240
  z175:=Tryz.sizeOf240
  v175:=Tryz.zeroValue240
  t210:=Tryz.underlying243
  a210:=Tryz.isAgg243
  z210:=Tryz.sizeOf243
  v210:=Tryz.zeroValue243
  t212:=Tryz.underlying264
  a212:=Tryz.isAgg264
  z212:=Tryz.sizeOf264
  v212:=Tryz.zeroValue264
  t213:=Tryz.underlying266
  a213:=Tryz.isAgg266
  z213:=Tryz.sizeOf266
  t232:=Tryz.underlying284
  a232:=Tryz.isAgg284
  z232:=Tryz.sizeOf284
  v232:=Tryz.zeroValue284
  t233:=Tryz.underlying285
  a233:=Tryz.isAgg285
  z233:=Tryz.sizeOf285
  v233:=Tryz.zeroValue285
  g15:=by kernel_rfl
  g16:=by kernel_rfl
  g17:=by kernel_rfl
  g18:=by kernel_rfl
  g19:=by kernel_rfl
  t80:=Tryz.underlying80
  a80:=Tryz.isAgg80
  z80:=Tryz.sizeOf80
  v80:=Tryz.zeroValue80
  i0:=by kernel_rfl
  i2:=by kernel_rfl
  i3:=by kernel_rfl
  i4:=by kernel_rfl
  i5:=by kernel_rfl
  i9:=by kernel_rfl
  i20:=by kernel_rfl
  i21:=by kernel_rfl
  i37:=by kernel_rfl
  i46:=by kernel_rfl
  i51:=by kernel_rfl
  i53:=by kernel_rfl
  i75:=by kernel_rfl
  i76:=by kernel_rfl
  i80:=by kernel_rfl
  i85:=by kernel_rfl
  i127:=by kernel_rfl
  i143:=by kernel_rfl
  i145:=by kernel_rfl
  i167:=by kernel_rfl
  i168:=by kernel_rfl
  i171:=by kernel_rfl
  i173:=by kernel_rfl
  i175:=by kernel_rfl
  i210:=by kernel_rfl
  i212:=by kernel_rfl
  i232:=by kernel_rfl
  i233:=by kernel_rfl
  m15:=by kernel_rfl
  m16:=by kernel_rfl
  m17:=by kernel_rfl
  m18:=by kernel_rfl
  m19:=by kernel_rfl
  c0:=by kernel_rfl
  c2:=by kernel_rfl
  c3:=by kernel_rfl
  c4:=by kernel_rfl
  c5:=by kernel_rfl
  c9:=by kernel_rfl
  c20:=by kernel_rfl
  c21:=by kernel_rfl
  c37:=by kernel_rfl
  c46:=by kernel_rfl
  c51:=by kernel_rfl
  c53:=by kernel_rfl
  c75:=by kernel_rfl
  c76:=by kernel_rfl
  c80:=by kernel_rfl
  c85:=by kernel_rfl
  c127:=by kernel_rfl
  c143:=by kernel_rfl
  c145:=by kernel_rfl
  c167:=by kernel_rfl
  c168:=by kernel_rfl
  c171:=by kernel_rfl
  c173:=by kernel_rfl
  c175:=by kernel_rfl
  c210:=by kernel_rfl
  c212:=by kernel_rfl
  c213:=by kernel_rfl
  c232:=by kernel_rfl
  c233:=by kernel_rfl}
end Go.Proofs
namespace Go.Proofs.YtiifmppaejpemaaGreatDoor
open Go.Proofs.Tryz
open Go.Abs
theorem KA (s:ByteArray) (hs:s.size < 1099511627776) (H:aB):aI Tryz.prog 118 [sv s] H (fun r H'=>r=.tup [iv (nI s).1,.pv (nI s).2]∧H'=H) :=Go.Abs.atoi_c aNt (G1:=1) (G2:=2) (by unfold SJ;exact .tail _ (.tail _ (.head _))) (by kernel_rfl) (by unfold SJ;exact .tail _ (.head _)) (by kernel_rfl) s hs H
end Go.Proofs.YtiifmppaejpemaaGreatDoor
end
namespace Go.Proofs.YtiifmppaejpemaaGreatDoor
open Go.Proofs.Tryz
open Go.Abs
theorem US (s:ByteArray) (H:aB) (hs:s.size < 1099511627776):aI Tryz.prog 166 [sv s] H (fun r H'=>r=iv (N6 s.data.toList)∧H'=H):=by
 refine Pu ?_;have hA:=KA s hs;unfold nI at hA;unfold N6;cases h:Lib.atoiAll s.data.toList with
 | ok v =>
  simp only [h] at hA;refine Bd aNQ rfl aMD<|Sr<|Dd aN<|Zz<|Sr<|Dd aF<|Dd (by exact aA rfl rfl wM rfl (hA _))<|Dd aF<|Dd fL<|Dd fL<|Dd aN<|Dd aN<|Zz<|Sq<|Sr<|Dd aF<|Dd (by exact LH rfl oL rfl)<|Zz ?_;refine Cn ?_ ?_<;>intro hc1
  ·cases hc1
  exact aD<|Sr<|Dd aF<|Dd aN<|Zz<|aC<|Rt<|Qq
 | range =>
  simp only [h] at hA;refine Bd aNQ rfl aMD<|Sr<|Dd aN<|Zz<|Sr<|Dd aF<|Dd (by exact aA rfl rfl wM rfl (hA _))<|Dd aF<|Dd fL<|Dd fL<|Dd aN<|Dd aN<|Zz<|Sq<|Sr<|Dd aF<|Dd (by exact DM rfl oL rfl)<|Zz ?_;refine Cn ?_ ?_<;>intro hc1
  ·exact Sr<|Dd aN<|Zz<|aC<|Rt<|Qq
  cases hc1
 | _ =>
  simp only [h] at hA;refine Bd aNQ rfl aMD<|Sr<|Dd aN<|Zz<|Sr<|Dd aF<|Dd (by exact aA rfl rfl wM rfl (hA _))<|Dd aF<|Dd fL<|Dd fL<|Dd aN<|Dd aN<|Zz<|Sq<|Sr<|Dd aF<|Dd (by exact DM rfl oL rfl)<|Zz ?_;refine Cn ?_ ?_<;>intro hc1
  ·exact Sr<|Dd aN<|Zz<|aC<|Rt<|Qq
  cases hc1
end Go.Proofs.YtiifmppaejpemaaGreatDoor
