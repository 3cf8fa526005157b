/-
  Parts of the proof: rules of an abstract program logic, contracts of functions, plain laws. Conditions: each theorem's own.
-/
import Derived.Test.YtmdicgjnmfolfaaGreatDoorKR5M7
import Derived.Lib.Bytealg
import Derived.Lib.Strings
import Derived.Lib.AtoiTie
import Derived.Lib.ItoaMem
import Derived.Lib.ItoaLen
import Derived.Shelf.LaysC
import Derived.Ground.NamesProg
set_option linter.unusedVariables false
set_option linter.unusedSimpArgs false
set_option maxRecDepth 100000
set_option maxHeartbeats 8000000
namespace Go.Proofs
open Tryz
theorem vW:type_of% call114:=call114
theorem aC0:type_of% call150:=call150
theorem MX:type_of% call188:=call188
theorem vS:type_of% call234:=call234
theorem aCX:type_of% func113:=func113
theorem aCV:type_of% func150:=func150
theorem aNP:type_of% func156:=func156
theorem nS:type_of% isAgg23:=isAgg23
theorem WS:type_of% ntmps113:=ntmps113
theorem WQ:type_of% ntmps150:=ntmps150
theorem aMD:type_of% ntmps156:=ntmps156
theorem nQ:type_of% underlying139:=underlying139
end Go.Proofs
namespace Go.Abs
def eO(c:UInt8):List UInt8->List (List UInt8)
 | []=>[[]]
 |b::l=>if b=c then[]::eO c l else((b::(eO c l).headD [])::(eO c l).tail)
theorem xK(c:UInt8)(l:List UInt8):0<(eO c l).length:=by
 cases l with
 |nil=>exact Nat.zero_lt_one
 |cons b l=>rw[eO];split<;>simp
theorem qI{c:UInt8}:∀ {w:List UInt8},c∉w->eO c w=[w]
 | [],_=>rfl
 |b::w,h=>by
  rw[aOH,not_or]at h;rw[eO,aNt (fun e=>h.1 e.symm),qI h.2];rfl
theorem lU{c:UInt8}{l:List UInt8}:∀ {w:List UInt8},c∉w->eO c (w++c::l)=w::eO c l
 | [],_=>by rw[List.nil_append,eO,aNu rfl]
 |b::w,h=>by
  rw[aOH,not_or]at h;rw[List.cons_append,eO,aNt (fun e=>h.1 e.symm),lU h.2];rfl
theorem sS(c:UInt8):∀l:List UInt8,(eO c l).length=l.count c+1
 | []=>rfl
 |b::l=>by
  have ih:=sS c l;rw[eO];by_cases h:b=c
  ·rw[aNu h,aNx,ih,h,List.count_cons_self]
  rw[aNt h,aNx,List.length_tail,ih,List.count_cons_of_ne h];omega
def jL:List UInt8->List (List UInt8)
 | []=>[]
 |b::l=>if b=10 then[10]::jL l else match jL l with
  | []=>[[b]]
  |w::r=>(b::w)::r
theorem CX{l:List UInt8}:∀ {w:List UInt8},(10:UInt8)∉w->jL (w++10::l)=(w++[10])::jL l
 | [],_=>by rw[List.nil_append,jL,aNu rfl];rfl
 |b::w,h=>by
  rw[aOH,not_or]at h;rw[List.cons_append,jL,aNt (fun e=>h.1 e.symm),CX h.2];rfl
theorem HR:∀ {w:List UInt8},(10:UInt8)∉w->w≠[]->jL w=[w]
 | [],_,h=>absurd rfl h
 |b::w,h,_=>by
  rw[aOH,not_or]at h;rw[jL,aNt (fun e=>h.1 e.symm)];by_cases e:w=[]
  ·subst e;rfl
  rw[HR h.2 e]
theorem CE:∀ {ls:List (List UInt8)},(∀w∈ls,(10:UInt8)∉w)->jL (ls.flatMap (·++[10]))=ls.map (·++[10])
 | [],_=>rfl
 |w::ls,h=>by
  rw[List.flatMap_cons,List.append_assoc,List.singleton_append,CX (h w List.mem_cons_self),CE fun x hx=>h x (List.mem_cons_of_mem _ hx)];rfl
theorem tL{c:UInt8}:∀ {l:List UInt8},Lib.indexByte l c = -1↔c∉l
 | []=>by simp[Lib.indexByte]
 | b::l=>by
  have ih:=tL (c:=c) (l:=l);have hg:=Lib.indexByte_ge l c;rw[Lib.indexByte];by_cases h:b=c
  ·subst h;simp
  simp only[beq_iff_eq,h,if_false,aOH,not_or];constructor
  ·intro h2
   split at h2
   ·exact⟨fun e=>h e.symm,ih.1 (by assumption)⟩
   omega
  rintro⟨_,h2⟩;rw[ih.2 h2];rfl
theorem tM{c:UInt8}:∀ {l:List UInt8},Lib.indexByte l c ≠ -1->∃w r,l=w++c::r/\c∉w/\Lib.indexByte l c=(w.length:Int)
 | [],h=>absurd rfl h
 |b::l,h=>by
  by_cases e:b=c
  ·subst e;exact⟨[],l,rfl,by simp,by simp[Lib.indexByte]⟩
  have e1:Lib.indexByte l c ≠ -1:=fun e2=>h (by rw[Lib.indexByte];simp[e,e2]);obtain ⟨w,r,h1,h2,h3⟩:=tM e1;refine⟨b::w,r,by rw[h1];rfl,by rw[aOH,not_or];exact⟨fun x=>e x.symm,h2⟩,?_⟩;rw[Lib.indexByte];simp only[beq_iff_eq,e,if_false,e1,h3,aNx];rw[aNt (by omega)]
  push_cast
  rfl
end Go.Abs
namespace Go.Abs
open Go.Lib
theorem aA4{d:Nat}(h:d<10):digitVal (UInt8.ofNat (48+d))=some d:=by
 have e:(UInt8.ofNat (48+d)).toNat=48+d:=by rw[UInt8.toNat_ofNat'];omega
 rw[digitVal,e,aNu (by omega)];congr 1;omega
theorem yP{b:UInt8}{d:Nat}(hb:digitVal b=some d):∀(l:List UInt8) (acc:Nat),decFrom acc (l++[b])=(decFrom acc l).map fun n=>n*10+d
 | [],acc=>by
  simp[decFrom,hb]
 |c::l,acc=>by
  rw[List.cons_append,decFrom,decFrom];cases h:digitVal c with
  |none=>rfl
  |some x=>exact yP hb l _
theorem sD(u:Nat):decDigits u≠[]:=by
 rw[decDigits]
 split
 ·simp
 simp
theorem A5(u:Nat):decFrom 0 (decDigits u)=some u:=by
 induction u using Nat.strongRecOn with
 |ind u ih =>
  rw[decDigits]
  split
  ·rename_i h;rw[<-List.nil_append [_],yP (aA4 h)];simp[decFrom]
  rename_i h;rw[yP (aA4 (Nat.mod_lt u (by decide))),ih (u / 10) (by omega)];simp only[Option.map_some];congr 1;omega
theorem pO{b:UInt8}:∀(u:Nat),b∈decDigits u->48<=b.toNat/\b.toNat<=57:=by
 intro u
 induction u using Nat.strongRecOn with
 |ind u ih =>
  rw[decDigits]
  split
  ·rename_i h;intro hb;rw[aNy]at hb;subst hb;rw[UInt8.toNat_ofNat'];omega
  rename_i h;intro hb;rcases List.mem_append.1 hb with hb|hb
  ·exact ih (u / 10) (by omega) hb
  rw[aNy]at hb;subst hb;rw[UInt8.toNat_ofNat'];omega
theorem mB(n:Int)(h:0<=n):itoa n=decDigits n.toNat:=by rw[itoa,aNt (by omega)]
theorem aCN{n:Int}(h:0<=n):atoi (itoa n)=some n:=by
 rw[mB n h];obtain ⟨u,hu⟩:∃u,u=n.toNat:=⟨_,rfl⟩;rw[<-hu];have hd:=A5 u;have hm:∀b∈decDigits u,48<=b.toNat/\b.toNat<=57:=fun b=>pO u;cases e:decDigits u with
 |nil=>exact absurd e (sD u)
 |cons b r =>
  have hb:=hm b (by rw[e];exact List.mem_cons_self);have e2:decNat (b::r)=some u:=by rw[decNat,<-e,hd];simp[sD]
  unfold atoi;simp only[e2];have h43:b≠43:=fun h=>by rw[h]at hb;exact absurd hb.1 (by decide)
  have h45:b≠45:=fun h=>by rw[h]at hb;exact absurd hb.1 (by decide)
  split<;>simp_all
  omega
theorem eV:∀ {k u:Nat},u<10 ^ k->0<k->(decDigits u).length<=k
 |0,_,_,h=>absurd h (Nat.lt_irrefl 0)
 | k+1,u,h,_=>by
  rw[decDigits]
  split
  ·simp
  rename_i h1;rw[aNw,List.length_singleton];have hk:0<k:=by
   rcases Nat.eq_zero_or_pos k with e|e
   ·subst e;omega
   exact e
  have hd:u / 10<10 ^ k:=by rw[Nat.pow_succ]at h;omega
  have:=eV hd hk;omega
theorem yS{n:Int}(h:0<=n)(h2:n<1000000000000000000):atoiAll (itoa n)=.ok n:=by
 have hl:(itoa n).length<=18:=by
  rw[mB n h];exact eV (by omega) (by decide)
 rw[atoiAll_short _ hl,aCN h];rfl
end Go.Abs
namespace Go.Proofs.YtmdicgjnmfolfaaGreatDoor
open Go.Proofs.Tryz
open Go.Abs
variable{s k:ByteArray}{i:Nat}{w r L:List UInt8}{T:List GFound}{x:Int}{o:GObj}{b:UInt8}{l:List GTag}
def uQ(o:GObj):List UInt8:=(gF o.kind).data.toList++32::(o.id.data.toList++32::(if o.kind=1 then Lib.itoa o.x++32::Lib.itoa o.y else 40::(cM [32] (bs o.refs)++[41])))
def xV(o:GObj):List UInt8:=uQ o++qO o.tags
def zL(o:GObj):ByteArray:=⟨(xV o).toArray⟩
def iV(o:GObj):ByteArray×Int:=if nN o then(if 0<o.tags.length/\(gM o.tags).2≠0 then(sNil,(gM o.tags).2)else if 20000<(zL o).size then(sNil,2)else(zL o,0))else(sNil,1)
def atV(s:ByteArray):Int:=match Lib.atoiAll s.data.toList with
 |.ok v=>v
 |.range=>Lib.atoiSat s.data.toList
 |_=>0
def noF:GFound:=⟨0,sNil,0,0⟩
def qM(T:List GFound):List GFound:=T++List.replicate (4 - T.length) noF
def HS(s:ByteArray):Int:=if s=gF 5 then 5 else if s=gF 4 then 4 else if s=gF 3 then 3 else if s=gF 2 then 2 else if s=gF 1 then 1 else 0
def gP(f:GFound):Bool:=decide (f.text=⟨#[41]⟩)&&decide (f.kind=4)
def mZ:List GFound->List GTag
 |a::_::c::r=>⟨a.text,c.text⟩::mZ r
 |_=>[]
theorem JY:∀ {T:List GFound} {l:List GTag},xG T=some l->mZ T=l
 | [],l,h=>by rw[xG]at h;cases h;rfl
 | [_],l,h=>by rw[xG]at h<;>(cases h;done)
 | [_,_],l,h=>by rw[xG]at h<;>(cases h;done)
 | a::b::c::r,l,h=>by
  rw[xG]at h;cases e:xG r with
  |none=>rw[e]at h;cases h
  |some q =>
   rw[e]at h;cases h;rw[mZ,JY e]
def lE(T:List GFound):GObj :=if HS ((qM T).getD 0 noF).text=1 then⟨((qM T).getD 1 noF).text,1,atV ((qM T).getD 2 noF).text,atV ((qM T).getD 3 noF).text,[],mZ ((qM T).drop 4)⟩
 else if vE gP (qM T)<3 then zObj
 else⟨((qM T).getD 1 noF).text,HS ((qM T).getD 0 noF).text,0,0,(((qM T).take (vE gP (qM T)).toNat).drop 3).map GFound.text,mZ ((qM T).drop ((vE gP (qM T)).toNat+1))⟩
def DO(s:ByteArray)(i:Nat)(r:List UInt8)(T:List GFound):Prop:=∀n,r.length<=n->mC s n i=T
theorem FH{j:Nat}{f:GFound}(hs:iE s i=(some f,j))(hf:f.err=0)(hi:i<s.size)(hw:0<w.length)(hT:DO s j r T):DO s i (w++r) (f::T):=by intro n hn;rw[aNw]at hn;obtain ⟨m,rfl⟩:∃m,n=m+1:=⟨n - 1,by omega⟩;rw[mC,aNu hi,hs];show f::(if f.err=0 then mC s m j else[])=_;rw[aNu hf,hT m (by omega)]
theorem DG(h:s.data.toList.drop i=32::r)(hT:DO s (i+1) r T):DO s i (32::r) T:=by intro n hn;rw[aNx]at hn;obtain ⟨m,rfl⟩:∃m,n=m+1:=⟨n - 1,by omega⟩;rw[mC,aNu (wW h).1,aFy h];exact hT m (by omega)
theorem all_nil(h:s.data.toList.drop i=[]):DO s i [] []:=by
 intro n _;have hge:¬ i<s.size:=by
  have:=List.drop_eq_nil_iff.1 h;rw[bB]at this;omega
 cases n with
 |zero=>rfl
 |succ n=>rw[mC,aNt hge]
theorem tI(h:s.data.toList.drop i=w++r)(hw:0<w.length):i<s.size:=by
 rcases Nat.lt_or_ge i s.size with h1|h1
 ·exact h1
 rw[List.drop_eq_nil_of_le (by rw[bB];exact h1)]at h;have:=congrArg List.length h;rw[List.length_nil,aNw]at this;omega
def DU(r:List UInt8):Prop:=∀c r',r=c::r'->E9 (c.toNat:Int)≠3/\E9 (c.toNat:Int)≠4/\E9 (c.toNat:Int)≠5
theorem aAz:DU []:=fun c r' h=>by cases h
theorem qG(r:List UInt8):DU (32::r):=fun c r' h=>by cases h;exact⟨by decide,by decide,by decide⟩
theorem TO(r:List UInt8):DU (41::r):=fun c r' h=>by cases h;exact⟨by decide,by decide,by decide⟩
theorem tY(h:s.data.toList.drop i=k.data.toList++r)(hk:bO k=true)(hr:DU r)(hT:DO s (i+k.size) r T):DO s i (k.data.toList++r) (⟨1,k,i,0⟩::T):=by have hp:=(xZ hk).1;exact FH (aBA h hk hr) rfl (tI h (by rw[bB];exact hp)) (by rw[bB];exact hp) hT
theorem SU{c:UInt8}(h:s.data.toList.drop i=c::r)(hc:E9 (c.toNat:Int)=6)(hT:DO s (i+1) r T):DO s i (c::r) (⟨4,⟨#[c]⟩,i,0⟩::T):=by
 have ha:sE s i=6:=by rw[DF h];exact hc
 have hx:=A3 (w:=[c]) (r:=r) h;have hs:iE s i=(some ⟨4,⟨#[c]⟩,i,0⟩,i+1):=by
  rw[iE,aNt (by rw[ha];decide),aNt (by rw[ha];decide),aNt (by rw[ha];decide),aNt (by rw[ha];decide),aNt (by rw[ha];decide),aNu ha];rw[List.length_singleton]at hx;rw[hx]
 exact FH (w:=[c]) hs rfl (wW h).1 Nat.zero_lt_one hT
theorem aHZ:∀b:UInt8,48<=b.toNat->b.toNat<=57->E9 (b.toNat:Int)=4:=by
 intro b h1 h2;have h:∀n:Fin 256,48<=n.val->n.val<=57->E9 (n.val:Int)=4:=by decide +kernel
 exact h ⟨b.toNat,b.toNat_lt⟩ h1 h2
theorem aAf(h:s.data.toList.drop i=Lib.itoa x++r)(h0:0<=x)(h1:x<10000000)(hr:DU r)(hT:DO s (i+(Lib.itoa x).length) r T):DO s i (Lib.itoa x++r) (⟨2,bI x,i,0⟩::T):=by
 have hw:=mB x h0;have hne:0<(Lib.itoa x).length:=by rw[hw];exact List.length_pos_iff.2 (sD _)
 have hle:(Lib.itoa x).length<=7:=by rw[hw];exact eV (by omega) (by decide)
 have hat:∀j,j<(Lib.itoa x).length->sE s (i+j)=4:=fun j hj=>by
  have hc:=aOA hj;rw[DF (aA3 h hc)];have hm:(Lib.itoa x)[j]∈Lib.decDigits x.toNat:=by rw[<-hw];exact List.getElem_mem hj
  obtain ⟨d1,d2⟩:=pO _ hm;exact aHZ _ d1 d2
 have hlen:i+(Lib.itoa x).length<=s.size:=by
  have:=congrArg List.length h;rw[aOK,aNw,bB]at this;have:=tI h hne;omega
 have ha0:sE s i=4:=hat 0 hne;have hd:=iH h;have hstop:sE s (i+(Lib.itoa x).length)≠3/\sE s (i+(Lib.itoa x).length)≠4/\sE s (i+(Lib.itoa x).length)≠5:=by
  cases r with
  |nil=>rw[aAd hd];exact⟨by decide,by decide,by decide⟩
  |cons c r'=>rw[DF hd];exact hr c r' rfl
 have hend:SG s i=i+(Lib.itoa x).length:=by
  refine D0 (aB1 s) (by omega) (by omega) (fun j h1 h2=>?_) (.inl ?_)
  ·have:=hat (j - i) (by omega);rw[show i+(j - i)=j by omega]at this;rw[aB1,this];rfl
  rw[aB1,decide_eq_false hstop.2.1]
 have hs:iE s i=(some ⟨2,bI x,i,0⟩,i+(Lib.itoa x).length):=by
  rw[iE,aNt (by rw[ha0];decide),aNt (by rw[ha0];decide),aNt (by rw[ha0];decide),aNu ha0,hend,LP,A3 h,decide_eq_false hstop.1,decide_eq_false hstop.2.2,decide_eq_false (by omega)];rfl
 exact FH hs rfl (tI h hne) hne hT
theorem MU{s:ByteArray}:∀(l:List GTag) (i:Nat),(∀t,t∈l->bO t.key=true)->s.data.toList.drop i=qO l->∃T,DO s i (qO l) T/\WN T l
 | [],i,_,h=>⟨[],all_nil h,rfl,(fun f hf=>by cases hf),rfl⟩
 | t::l,i,hk,h=>by
  have hm:qO (t::l)=32::(t.key.data.toList++61::(eC t.val.data.toList++qO l)):=by
   rw[qO,List.flatMap_cons,PJ];simp[qO]
  rw[hm]at h |-;have h1:=(wW h).2.2;have h2:=iH h1;rw[bB]at h2;have h3:=(wW h2).2.2;have h4:=iH h3;obtain ⟨T,hT,hR⟩:=MU l _ (fun t ht=>hk t (List.mem_cons_of_mem _ ht)) h4;have hq:0<(eC t.val.data.toList).length:=by rw[eC,aNx];omega
  have b3:=FH (TP h3) rfl (tI h3 hq) hq hT;have b2:=SU h2 (by decide) b3;have b1:=tY h1 (hk t List.mem_cons_self) (fun c r' e=>by cases e;exact⟨by decide,by decide,by decide⟩) b2;exact⟨_,DG h b1,WN.cons hR rfl rfl rfl⟩
theorem JA(h:nN o=true):o.kind=1\/o.kind=2\/o.kind=3\/o.kind=4\/o.kind=5:=by have:=aBq h;omega
theorem FV{k:Int}(h:k=1\/k=2\/k=3\/k=4\/k=5):bO (gF k)=true/\HS (gF k)=k:=by
 rcases h with rfl|rfl|rfl|rfl|rfl
 ·exact⟨by kernel_rfl,by decide⟩
 ·exact⟨by kernel_rfl,by decide⟩
 ·exact⟨by kernel_rfl,by decide⟩
 ·exact⟨by kernel_rfl,by decide⟩
 exact⟨by kernel_rfl,by decide⟩
theorem CR(h:nN o=true):∀s∈o.refs,bO s=true:=fun s hs=>by
 rw[nN,aOE,aOE,aOO,aOO]at h;obtain ⟨i,hi⟩:=aOQ.1 hs;have hlt:=(aNz.1 hi).1;have h1:=List.any_eq_false.1 h.2.1 i (List.mem_range.2 hlt);rw[BC,hi]at h1;simp only[YS,Bool.or_eq_true,not_or,Bool.not_eq_true,Bool.not_eq_false']at h1;exact h1.2
theorem aFG(h:nN o=true):(0<=o.x/\o.x<1048576)/\(0<=o.y/\o.y<1048576)/\(o.kind=1->o.refs=[])/\(o.kind≠1->o.x=0/\o.y=0):=by
 rw[nN,aOE,aOE]at h;have h:=h.2.2;unfold PY at h
 split at h
 ·rename_i h1;rw[aOE,gOn]at h;simp only[aOE,aOC]at h;refine⟨by omega,by omega,fun _=>List.length_eq_zero_iff.1 (by omega),fun e=>absurd h1 e⟩
 rename_i h1
 split at h<;>simp only[aOE,aOC]at h<;>exact⟨by omega,by omega,fun e=>absurd e h1,fun _=>by omega⟩
theorem WK{s:ByteArray}:∀(l:List ByteArray) (i:Nat) (r:List UInt8) (T:List GFound),(∀k,k∈l->bO k=true)->s.data.toList.drop i=l.flatMap (fun k=>32::k.data.toList)++r->DU r ->
  DO s (i+(l.flatMap fun k=>32::k.data.toList).length) r T->∃R:List GFound,DO s i (l.flatMap (fun k=>32::k.data.toList)++r) (R++T)/\R.map GFound.text=l/\∀f∈R,f.kind=1/\f.err=0
 | [],i,r,T,_,h,_,hT=>⟨[],hT,rfl,(fun f hf=>by cases hf)⟩
 | k::l,i,r,T,hk,h,hr,hT=>by
  have hm:(k::l).flatMap (fun k=>32::k.data.toList)++r=32::(k.data.toList++(l.flatMap (fun k=>32::k.data.toList)++r)):=by
   rw[List.flatMap_cons];simp
  have hln:((k::l).flatMap fun k=>32::k.data.toList).length=1+k.size+(l.flatMap fun k=>32::k.data.toList).length:=by
   rw[List.flatMap_cons,aNw,aNx,bB];omega
  rw[hm]at h |-;have h1:=(wW h).2.2;have h2:=iH h1;rw[bB]at h2;obtain ⟨R,hR,e1,e2⟩:=WK l (i+1+k.size) r T (fun x hx=>hk x (List.mem_cons_of_mem _ hx)) h2 hr (by rw[hln]at hT;rw[show i+1+k.size+(l.flatMap fun k=>32::k.data.toList).length=i+(1+k.size+(l.flatMap fun k=>32::k.data.toList).length)by omega];exact hT);have hst:DU (l.flatMap (fun k=>32::k.data.toList)++r):=by
   cases l with
   |nil=>exact hr
   |cons a l=>rw[List.flatMap_cons];exact qG _
  refine⟨⟨1,k,i+1,0⟩::R,DG h (tY h1 (hk k List.mem_cons_self) hst hR),by rw[List.map_cons,e1],fun f hf=>?_⟩;rcases aOH.1 hf with rfl|hf
  ·exact⟨rfl,rfl⟩
  exact e2 f hf
theorem LG(k:ByteArray)(l:List ByteArray):cM [32] (bs (k::l))=k.data.toList++l.flatMap (fun k=>32::k.data.toList):=by rw[bs,List.map_cons,cM,List.flatMap_map];rfl
theorem aE3{α:Type}{p:α->Bool}{c:α}{B:List α}:∀ {A:List α},(∀a,a∈A->p a=false)->p c=true->vE p (A++c::B)=(A.length:Int):=by
 intro A hA hc;have h:(A++c::B).findIdx? p=some A.length:=by
  induction A with
  |nil=>rw[List.nil_append,List.findIdx?_cons,aNu hc];rfl
  |cons a A ih =>
   rw[List.cons_append,List.findIdx?_cons,aNt (by rw[hA a List.mem_cons_self];decide),ih fun x hx=>hA x (List.mem_cons_of_mem _ hx)];rfl
 rw[vE,h]
theorem W8(l:List GTag):DU (qO l):=by
 cases l with
 |nil=>exact aAz
 |cons t l=>rw[qO,List.flatMap_cons];exact qG _
theorem WI(h:0<=x)(h2:x<1000000000000000000):atV (bI x)=x:=by rw[atV];show (match Lib.atoiAll (Lib.itoa x)with|.ok v=>v|.range=>_|_=>0)=x;rw[yS h h2]
theorem aBQ(h:nN o=true)(hk:o.kind≠1):∃k l,o.refs=k::l:=by
 have hk5:=JA h;rw[nN,aOE,aOO,PZ,vF]at h;have h1:=h.1;simp only[aOR,Bool.not_eq_false',aOD]at h1;have h4:=h1.1.2;have hl:1<=C2 o.kind:=by
  rcases hk5 with e|e|e|e|e
  ·exact absurd e hk
  ·rw[e];decide
  ·rw[e];decide
  ·rw[e];decide
  rw[e];decide
 cases e:o.refs with
 |nil=>rw[e]at h4;exact absurd (show ((([]:List ByteArray).length:Nat):Int)<C2 o.kind by show (0:Int)<_;omega) h4
 |cons k l=>exact⟨k,l,rfl⟩
theorem aAF(h:4<=T.length):qM T=T:=by rw[qM,show 4 - T.length=0 by omega,List.replicate_zero,List.append_nil]
theorem aB9(o:GObj):(zL o).data.toList.drop 0=xV o:=rfl
theorem aAH{i:ByteArray}{k y:Int}{r:List ByteArray}{t:List GTag}(h1:o.id=i)(h2:o.kind=k)(h3:o.x=x)(h4:o.y=y)(h5:o.refs=r)(h6:o.tags=t):(⟨i,k,x,y,r,t⟩:GObj)=o:=by subst h1 h2 h3 h4 h5 h6;rfl
theorem aDS(hg:nN o=true):∃T,DO (zL o) 0 (xV o) T/\(∀f,f∈T->f.err=0)/\T.length<=5000/\lE T=o:=by
 obtain ⟨hr,ht,htg,hid,_⟩:=LO hg;obtain ⟨hx,hy,hn,hz⟩:=aFG hg;obtain ⟨hw,hkw⟩:=FV (JA hg);have hkey:∀t,t∈o.tags->bO t.key=true:=fun t h=>((BT.1 htg).1 t h).1;have h0:=aB9 o;by_cases hk:o.kind=1
 ·have e:xV o=(gF o.kind).data.toList++32::(o.id.data.toList++32::(Lib.itoa o.x++32::(Lib.itoa o.y++qO o.tags))):=by
   rw[xV,uQ,aNu hk];simp
  rw[e]at h0 |-;have h1:=iH h0;rw[bB]at h1;have h2:=(wW h1).2.2;have h3:=iH h2;rw[bB]at h3;have h4:=(wW h3).2.2;have h5:=iH h4;have h6:=(wW h5).2.2;have h7:=iH h6;obtain ⟨T,hT,r1,r2,r3⟩:=MU o.tags _ hkey h7;have b:=tY h0 hw (qG _) (DG h1 (tY h2 hid (qG _) (DG h3 (aAf h4 hx.1 (by omega) (qG _) (DG h5 (aAf h6 hy.1 (by omega) (W8 _) hT))))));refine⟨_,b,fun f hf=>?_,?_,?_⟩
  ·simp only[aOH]at hf;rcases hf with rfl|rfl|rfl|rfl|hf
   ·rfl
   ·rfl
   ·rfl
   ·rfl
   exact r2 f hf
  ·simp only[aNx];omega
  rw[lE,aAF (by simp only[aNx];omega)];simp only[List.getD_cons_zero,List.getD_cons_succ,List.drop_succ_cons,List.drop_zero];rw[hkw,aNu hk,JY r1,WI hx.1 (by omega),WI hy.1 (by omega)];exact aAH rfl hk rfl rfl (hn hk) rfl
 obtain ⟨k,l,hkl⟩:=aBQ hg hk;have hnm:=CR hg;rw[hkl]at hnm;have e:xV o=(gF o.kind).data.toList++32::(o.id.data.toList++32::(40::(k.data.toList++(l.flatMap (fun k=>32::k.data.toList)++41::qO o.tags)))):=by
  rw[xV,uQ,aNt hk,hkl,LG];simp
 rw[e]at h0 |-;have h1:=iH h0;rw[bB]at h1;have h2:=(wW h1).2.2;have h3:=iH h2;rw[bB]at h3;have h4:=(wW h3).2.2;have h5:=(wW h4).2.2;have h6:=iH h5;rw[bB]at h6;have h7:=iH h6;have h8:=(wW h7).2.2;obtain ⟨T,hT,r1,r2,r3⟩:=MU o.tags _ hkey h8;have hcl:=SU h7 (by decide) hT;obtain ⟨R,hR,q1,q2⟩:=WK l _ _ _ (fun x hx=>hnm x (List.mem_cons_of_mem _ hx)) h6 (TO _) hcl;have hst:DU (l.flatMap (fun k=>32::k.data.toList)++41::qO o.tags):=by
  cases l with
  |nil=>exact TO _
  |cons a l=>rw[List.flatMap_cons];exact qG _
 have b:=tY h0 hw (qG _) (DG h1 (tY h2 hid (qG _) (DG h3 (SU h4 (by decide) (tY h5 (hnm k List.mem_cons_self) hst hR)))));have hRl:R.length=l.length:=by rw[<-q1,aNv]
 have hrl:o.refs.length=l.length+1:=by rw[hkl,aNx]
 refine⟨_,b,fun f hf=>?_,?_,?_⟩
 ·simp only[aOH,List.mem_append]at hf;rcases hf with rfl|rfl|rfl|rfl|hf|rfl|hf
  ·rfl
  ·rfl
  ·rfl
  ·rfl
  ·exact(q2 f hf).2
  ·rfl
  exact r2 f hf
 ·simp only[aNx,aNw];omega
 obtain ⟨A,hA⟩:∃A:List GFound,A=⟨1,gF o.kind,0,0⟩::⟨1,o.id,0+(gF o.kind).size+1,0⟩::⟨4,⟨#[40]⟩,0+(gF o.kind).size+1+o.id.size+1,0⟩::⟨1,k,0+(gF o.kind).size+1+o.id.size+1+1,0⟩::R:=⟨_,rfl⟩;have hAl:A.length=R.length+4:=by rw[hA];rfl
 have hAc:∀a,a∈A->gP a=false:=by
  intro a ha;rw[hA]at ha;simp only[aOH]at ha;rcases ha with rfl|rfl|rfl|rfl|ha
  ·rw[gP,decide_eq_false (show ¬ ((1:Int)=4)by decide),Bool.and_false]
  ·rw[gP,decide_eq_false (show ¬ ((1:Int)=4)by decide),Bool.and_false]
  ·rfl
  ·rw[gP,decide_eq_false (show ¬ ((1:Int)=4)by decide),Bool.and_false]
  rw[gP,(q2 a ha).1,decide_eq_false (show ¬ ((1:Int)=4)by decide),Bool.and_false]
 have hdrop:∀c:GFound,(A++c::T).drop (A.length+1)=T:=fun c=>by
  rw[show A++c::T=(A++[c])++T by simp,show A.length+1=(A++[c]).length by simp,List.drop_left]
 have hx:=fun j=>aE3 (p:=gP) (c:=⟨4,⟨#[41]⟩,j,0⟩) (B:=T) hAc rfl;have hTT:∀j,(⟨1,gF o.kind,0,0⟩::⟨1,o.id,0+(gF o.kind).size+1,0⟩::⟨4,⟨#[40]⟩,0+(gF o.kind).size+1+o.id.size+1,0⟩::⟨1,k,0+(gF o.kind).size+1+o.id.size+1+1,0⟩::(R++⟨4,⟨#[41]⟩,j,0⟩::T):List GFound)=A++⟨4,⟨#[41]⟩,j,0⟩::T:=fun j=>by rw[hA];rfl
 rw[lE,hTT,aAF (by rw[aNw,hAl];omega),hx,aNt (by rw[hA];show ¬ HS (gF o.kind)=1;rw[hkw];exact hk),aNt (by rw[hAl];omega),aOG,List.take_left,hdrop,JY r1];obtain ⟨z1,z2⟩:=hz hk;refine aAH ?_ ?_ z1 z2 ?_ rfl
 ·rw[hA];rfl
 ·rw[hA];show o.kind=HS (gF o.kind);rw[hkw]
 rw[hkl,hA];show k::l=k::R.map GFound.text;rw[q1]
def ofL(l:List UInt8):ByteArray:=⟨l.toArray⟩
theorem cO(l:List UInt8):(ofL l).data.toList=l:=by simp[ofL]
theorem nL(s:ByteArray):ofL s.data.toList=s:=rG (cO _)
theorem eF(l:List UInt8):(ofL l).size=l.length:=by rw[<-bB,cO]
def qA(s:ByteArray):GObj×Int:=if 20000<s.size then(zObj,2)else if(hY s).2.1=0/\iV (lE (hY s).1)=(s,0)then(lE (hY s).1,0)else(zObj,5)
theorem aAI(h:(iV o).2=0):nN o=true/\iV o=(zL o,0)/\(zL o).size<=20000:=by
 rw[iV]at h |-;by_cases hg:nN o=true
 ·rw[aNu hg]at h |-;by_cases h1:0<o.tags.length/\(gM o.tags).2≠0
  ·rw[aNu h1]at h;exact absurd h h1.2
  rw[aNt h1]at h |-;by_cases h2:20000<(zL o).size
  ·rw[aNu h2]at h;cases h
  rw[aNt h2];exact⟨hg,rfl,by omega⟩
 rw[aNt hg]at h;cases h
theorem XU(h:(iV o).2=0):qA (iV o).1=(o,0):=by
 obtain ⟨hg,ht,hs⟩:=aAI h;obtain ⟨T,hT,h1,h2,h3⟩:=aDS hg;have hlex:hY (zL o)=(T,0,0):=by
  rw[hY,aNt (by omega),hT _ (by rw[<-bB];exact Nat.le_succ _),GI T [] h1 (by rw[List.length_nil];omega),List.nil_append]
 rw[ht,qA,aNt (by show ¬ 20000<(zL o).size;omega)];show (if(hY (zL o)).2.1=0/\iV (lE (hY (zL o)).1)=(zL o,0)then(lE (hY (zL o)).1,(0:Int))else(zObj,5))=(o,0);rw[hlex];show (if(0:Int)=0/\iV (lE T)=(zL o,0)then(lE T,(0:Int))else(zObj,5))=(o,0);rw[h3,aNu ⟨rfl,ht⟩]
def aCg:List UInt8:=[112,117,116]
def ZO:List UInt8:=[109,111,118,101]
def aAq:List UInt8:=[116,97,103]
def ZN:List UInt8:=[114,101,102,115]
def ZQ:List UInt8:=[100,114,111,112]
def QU:List UInt8:=[115,112,108,105,116]
def ZP:List UInt8:=[106,111,105,110]
def jM(e:GEdit):List (List UInt8) :=if e.op=2 then[ZO,e.id.data.toList,Lib.itoa e.x,Lib.itoa e.y]else if e.op=3 then[aAq,e.id.data.toList,e.key.data.toList,eC e.val.data.toList]
 else if e.op=4 then ZN::e.id.data.toList::bs e.refs else if e.op=5 then[ZQ,e.id.data.toList]
 else if e.op=6 then[QU,e.id.data.toList,e.node.data.toList,e.other.data.toList]else[ZP,e.id.data.toList,e.other.data.toList]
def gA(e:GEdit):List UInt8:=if e.op=1 then aCg++32::(iV e.obj).1.data.toList else cM [32] (jM e)
def jG(e:GEdit):Int:=if e.op=1 then(iV e.obj).2 else 0
def uJ:List UInt8->List GEdit->List UInt8×Int
 |acc,[]=>(acc,0)
 |acc,e::r=>if jG e≠0\/20000<(acc++(gA e++[10])).length then([],2)else uJ (acc++(gA e++[10])) r
def gL(l:List GEdit):ByteArray×Int:=if uW l then(ofL (uJ [] l).1,(uJ [] l).2)else(sNil,1)
def NY(s:List UInt8):Int:=match Lib.atoiAll s with
 |.ok v=>v
 |_ => -1
def VO:GEdit:=⟨0,sNil,sNil,sNil,0,0,sNil,sNil,[],zObj⟩
def AG(w:List (List UInt8))(word rest:List UInt8):GEdit :=if word=aCg then⟨1,sNil,sNil,sNil,0,0,sNil,sNil,[],(qA (ofL rest)).1⟩
 else if word=ZO/\w.length=4 then⟨2,ofL (w.getD 1 []),sNil,sNil,NY (w.getD 2 []),NY (w.getD 3 []),sNil,sNil,[],zObj⟩
 else if word=aAq/\3<w.length then(match (hY (ofL (cM [32] (w.drop 3)))).1 with
  | [f]=>⟨3,ofL (w.getD 1 []),sNil,sNil,0,0,ofL (w.getD 2 []),f.text,[],zObj⟩
  |_=>VO)
 else if word=ZN/\1<w.length then⟨4,ofL (w.getD 1 []),sNil,sNil,0,0,sNil,sNil,(w.drop 2).map ofL,zObj⟩
 else if word=ZQ/\w.length=2 then⟨5,ofL (w.getD 1 []),sNil,sNil,0,0,sNil,sNil,[],zObj⟩
 else if word=QU/\w.length=4 then⟨6,ofL (w.getD 1 []),ofL (w.getD 3 []),ofL (w.getD 2 []),0,0,sNil,sNil,[],zObj⟩
 else if word=ZP/\w.length=3 then⟨7,ofL (w.getD 1 []),ofL (w.getD 2 []),sNil,0,0,sNil,sNil,[],zObj⟩
 else VO
def iF(s:List UInt8):GEdit:=AG (eO 32 s) ((eO 32 s).headD []) (s.drop (((eO 32 s).headD []).length+1))
def lI(t:ByteArray):List GEdit×Int :=if 20000<t.size then([],2)else if gL ((jL t.data.toList).map fun s=>iF (Lib.trimSuffix s [10]))=(t,0)then((jL t.data.toList).map fun s=>iF (Lib.trimSuffix s [10]),0)else([],5)
theorem PB(hk:bO k=true)(hb:b∈k.data.toList):E9 (b.toNat:Int)=3\/E9 (b.toNat:Int)=4\/E9 (b.toNat:Int)=5:=by
 obtain ⟨j,hj⟩:=aOQ.1 hb;have hlt:=(aNz.1 hj).1;rw[bB]at hlt;have h:=(xZ hk).2.2.2 j hlt;have e:cZ k j=(b.toNat:Int):=by rw[cZ,hj];rfl
 rwa [e]at h
theorem pX(hk:bO k=true):(32:UInt8)∉k.data.toList/\(10:UInt8)∉k.data.toList:=by
 constructor
 ·intro h;have:=PB hk h;revert this;decide
 intro h;have:=PB hk h;revert this;decide
theorem JB(h:0<=x):(32:UInt8)∉Lib.itoa x/\(10:UInt8)∉Lib.itoa x:=by
 rw[mB x h];constructor
 ·intro h;have:=(pO _ h).1;revert this;decide
 intro h;have:=(pO _ h).1;revert this;decide
theorem T8(l:List UInt8):(10:UInt8)∉eC l:=by
 rw[eC];simp only[aOH,List.mem_append,List.mem_flatMap,aOL,or_false,not_or];refine⟨by decide,?_,by decide⟩;rintro⟨b,_,h⟩;rw[oU]at h;by_cases h1:b=10
 ·rw[aNu h1]at h;revert h;decide
 rw[aNt h1]at h;by_cases h2:b=34\/b=92
 ·rw[aNu h2]at h;simp only[aOH,aOL,or_false]at h;rcases h with h|h
  ·revert h;decide
  exact h1 h.symm
 rw[aNt h2,aNy]at h;exact h1 h.symm
theorem tK(hb:b≠32):∀ {l:List (List UInt8)},(∀w∈l,b∉w)->b∉cM [32] l
 | [],_,h=>by cases h
 |x::l,hl,h=>by
  rw[cM]at h;rcases List.mem_append.1 h with h|h
  ·exact hl x List.mem_cons_self h
  obtain ⟨y,hy,h⟩:=List.mem_flatMap.1 h;rcases List.mem_append.1 h with h|h
  ·rw[aNy]at h;exact hb h
  exact hl y (List.mem_cons_of_mem _ hy) h
theorem aGp(h:∀t,t∈l->bO t.key=true):(10:UInt8)∉qO l:=by
 intro hm;obtain ⟨t,ht,hm⟩:=List.mem_flatMap.1 hm;rw[PJ]at hm;simp only[aOH,List.mem_append]at hm;rcases hm with h1|h1|h1|h1
 ·revert h1;decide
 ·exact(pX (h t ht)).2 h1
 ·revert h1;decide
 exact T8 _ h1
theorem aJ1(hg:nN o=true):(10:UInt8)∉xV o:=by
 obtain ⟨hr,ht,htg,hid,_⟩:=LO hg;obtain ⟨hx,hy,_,_⟩:=aFG hg;have hkey:∀t,t∈o.tags->bO t.key=true:=fun t h=>((BT.1 htg).1 t h).1;intro h;rw[xV,uQ]at h;simp only[aOH,List.mem_append]at h;rcases h with(h|h|h|h|h)|h
 ·exact(pX (FV (JA hg)).1).2 h
 ·revert h;decide
 ·exact(pX hid).2 h
 ·revert h;decide
 ·split at h
  ·simp only[aOH,List.mem_append]at h;rcases h with h|h|h
   ·exact(JB hx.1).2 h
   ·revert h;decide
   exact(JB hy.1).2 h
  simp only[aOH,List.mem_append,aOL,or_false]at h;rcases h with h|h|h
  ·revert h;decide
  ·refine tK (by decide) (fun w hw=>?_) h;obtain ⟨s,hs,rfl⟩:=List.mem_map.1 hw;exact(pX (CR hg s hs)).2
  revert h;decide
 exact aGp hkey h
abbrev oB(o:GObj):aB:=[(1,bx 6 151 ((bN o).map .pv))]
theorem aG7{l:List UInt8}(h:l≠[])(s:ByteArray):aBW l s=l++32::s.data.toList:=by rw[aBW,aNt h]
theorem aMh(K:aB)(s:ByteArray)(hl:s.size<70368744177663):aH Tryz.prog 234 [.ref 2001 0 0 0,sv s] (mV 0 [] false++K) (fun r H'=>r=.tup []/\H'=mV 1 s.data.toList true++K):=by
 have h:=aD2 K 0 [] false s (by rw[List.length_nil];omega)
 rwa [aNu rfl,show aBW [] s=s.data.toList from rfl]at h
theorem aBX(K:aB)(g:Nat)(l:List UInt8)(s:ByteArray)(h0:l≠[])(hl:l.length+s.size<70368744177663):aH Tryz.prog 234 [.ref 2001 0 0 0,sv s] (mV g l true++K) (fun r H'=>r=.tup []/\H'=mV (g+2) (l++32::s.data.toList) true++K):=by
 have h:=aD2 K g l true s hl
 rwa [aNt h0,aG7 h0]at h
theorem IR(K:aB)(g:Nat)(l:List UInt8)(u:Bool)(hl:l.length<70368744177664):aH Tryz.prog 111 [.ref 2001 0 0 0] (mV g l u++K) (fun r H'=>r=sv ⟨l.toArray⟩/\H'=WF g l u++(mV g l u++K)) :=aH.frame (aIk g l u hl) aIj (dF.ofL ⟨(by exact MM rfl rfl),(by exact dO _ _),trivial⟩) (by simp;rfl) (fun id h=>.inl (by
  simp only[WF,mV,aB.get]at h |-;cases e1:Nat.beq 2001 id with
  |true=>rfl
  |false =>
   cases e2:Nat.beq 2002 id with
   |true=>rfl
   |false=>rw[e1,e2]at h;cases h))
theorem O6(hg:nN o=true)(h:0<o.tags.length/\(gM o.tags).2≠0):iV o=(sNil,(gM o.tags).2):=by rw[iV,aNu hg,aNu h]
theorem BJ(hg:nN o=true)(h:¬ (0<o.tags.length/\(gM o.tags).2≠0))(hL:xV o=L)(h2:20000<L.length):iV o=(sNil,2):=by
 have hs:(zL o).size=L.length:=by rw[<-hL,<-bB];rfl
 rw[iV,aNu hg,aNt h,aNu (by rw[hs];exact h2)]
theorem BK(hg:nN o=true)(h:¬ (0<o.tags.length/\(gM o.tags).2≠0))(hL:xV o=L)(h2:¬ 20000<L.length):iV o=(⟨L.toArray⟩,0):=by
 have hs:(zL o).size=L.length:=by rw[<-hL,<-bB];rfl
 rw[iV,aNu hg,aNt h,aNt (by rw[hs];exact h2),zL,hL]
theorem sH(h0:0<l.length)(h:(gM l).2=0):32::(gM l).1.data.toList=qO l/\(gM l).1.size<=20000:=by
 rw[gM]at h |-;by_cases h1:zD l=true
 ·rw[aNu h1]at h |-;by_cases h2:20000<(HV l).size
  ·rw[aNu h2]at h;cases h
  rw[aNt h2];refine⟨?_,by show (HV l).size<=_;omega⟩;cases l with
  |nil=>exact absurd h0 (Nat.lt_irrefl 0)
  |cons t l =>
   show 32::(HV (t::l)).data.toList=_;rw[aAw];simp[qO]
 rw[aNt h1]at h;cases h
theorem P0:∀l:List ByteArray,(l.flatMap fun k=>32::k.data.toList).length=l.length+dA l
 | []=>rfl
 |k::l=>by
  have ih:=P0 l;rw[List.flatMap_cons,aNw,aNx,aNx,ih,bB,dA,dA,List.map_cons,List.sum_cons];omega
theorem mI(l:List ByteArray):(cM [32] (bs l)).length<=l.length+dA l:=by
 cases l with
 |nil=>exact aOM _
 |cons k l =>
  rw[LG,aNw,P0,bB,aNx,dA,dA,List.map_cons,List.sum_cons];omega
theorem O5(o:GObj)(H:aB)(ho:okO o):aH Tryz.prog 196 [av (bN o)] H (fun r H'=>r=.tup [sv (iV o).1,iv (iV o).2]/\H'=H):=by
 refine Pu ?_;refine Bd func196 rfl ntmps196<|Sr<|Dd (by exact cE (id:=1) rfl rfl rfl rfl rfl)<|Dd aM<|Dd aM<|Zz<|Sq<|Sr<|Dd (rC cR sizeOf151)<|Dd (by exact aA rfl rfl call233 rfl (KX o _ ho))<|Dd mT<|Zz ?_;refine Cn ?_ ?_<;>intro hc1
 ·have hg:nN o=false:=by rw[<-aOO];exact hc1
  have e:iV o=(sNil,1):=by rw[iV,aNt (by rw[hg];decide)]
  rw[e];exact Sr<|Dd aM<|Dd aM<|Zz<|aE<|Ru<|Qq
 have hg:nN o=true:=by rw[<-Bool.not_eq_false'];exact hc1
 obtain ⟨hr,ht,htg,hid,_⟩:=LO hg;obtain ⟨hx,hy,hn,hz⟩:=aFG hg;have hw:=(FV (JA hg)).1;have hws:=eQ hw;have his:=eQ hid;have hwp:=(xZ hw).1;have hw0:(gF o.kind).data.toList≠[]:=fun e=>by have:=congrArg List.length e;rw[bB,List.length_nil]at this;omega
 refine aF<|Sr<|Dd (by exact bM (id:=2001) rfl aI6 rfl rfl)<|Zz<|Sq ?_;refine fL.ent (E':=[(1,.ref 1 0 0 0),(2,sv sNil),(3,iv 0),(4,.ref 2001 0 0 0)]) (H':=[(2002,⟨0,1,5,[]⟩),(2001,DB (.osl 2002 0 0 0) false),(1,bx 6 151 ((bN o).map .pv))]) (cD.nz 2002 1 5 rfl rfl ⟨⟨_,rfl,(by exact Nz.same (by(simp;rfl)))⟩,⟨_,rfl,(by exact Nz.same (by(simp;done)))⟩,⟨_,rfl,(by exact Nz.same (by(simp;done)))⟩,⟨_,rfl,(by exact Nz.same (by(simp;rfl)))⟩,trivial⟩ ⟨⟨_,rfl,rfl,rfl,rfl,(by exact .inr ⟨_,_,rfl,rfl,(by repeat(first|exact trivial|refine⟨(by first|exact Nz.own|exact Nz.same (by(simp;done))),?_⟩))⟩)⟩,⟨_,rfl,rfl,rfl,rfl,(by exact .inl ⟨rfl,(by(simp;done))⟩)⟩,trivial⟩ trivial) ?_;refine fL.ent (E':=[(1,.ref 1 0 0 0),(2,sv sNil),(3,iv 0),(4,.ref 2001 0 0 0)]) (H':=mV 0 [] false++oB o) (cD.get (fun _=>rfl) (fun j=>nB (by decide) j)) ?_;refine Rg<|Dd (bE gR)<|Dd (bQ isAgg3)<|Dd (by exact aA rfl rfl vT rfl (CL o.kind _))<|Dd (by exact aA rfl rfl vS rfl (aMh (oB o) (gF o.kind) (by omega)))<|Zz<|Sr<|Dd (bE qB)<|Dd (bQ isAgg9)<|Dd (by exact aA rfl rfl vS rfl (aBX (oB o) 1 (gF o.kind).data.toList o.id hw0 (by rw[bB];omega)))<|Zz<|Sq<|Sq ?_;obtain ⟨L1,hL1⟩:∃L,L=(gF o.kind).data.toList++32::o.id.data.toList:=⟨_,rfl⟩;have hn1:L1≠[]:=by rw[hL1];simp
 have hl1:L1.length<=49:=by rw[hL1,aNw,aNx,bB,bB];omega
 rw[<-hL1];by_cases hk:o.kind=1
 ·have six:(bI o.x).size<=7:=by rw[<-bB];show (Lib.itoa o.x).length<=7;rw[mB _ hx.1];exact eV (by omega) (by decide)
  have siy:(bI o.y).size<=7:=by rw[<-bB];show (Lib.itoa o.y).length<=7;rw[mB _ hy.1];exact eV (by omega) (by decide)
  obtain ⟨L2,hL2⟩:∃L,L=L1++32::(bI o.x).data.toList:=⟨_,rfl⟩;have hn2:L2≠[]:=by rw[hL2];simp
  have hl2:L2.length<=57:=by rw[hL2,aNw,aNx,bB];omega
  have p2:=aBX (oB o) (1+2) L1 (bI o.x) hn1 (by omega);rw[<-hL2]at p2;obtain ⟨L3,hL3⟩:∃L,L=L2++32::(bI o.y).data.toList:=⟨_,rfl⟩;have hn3:L3≠[]:=by rw[hL3];simp
  have hl3:L3.length<=200000:=by rw[hL3,aNw,aNx,bB];omega
  have p3:=aBX (oB o) (1+2+2) L2 (bI o.y) hn2 (by omega);rw[<-hL3]at p3;have hH:uQ o=L3:=by
   rw[uQ,aNu hk,hL3,hL2,hL1];show _=(_++32::Lib.itoa o.x)++32::Lib.itoa o.y;simp
  refine Rg<|Dd (bE gR)<|Dd (bQ isAgg3)<|Dd dK<|Zz ?_;refine Cn ?_ ?_<;>intro hc2
  ·refine Sr<|Dd (bE oY)<|Dd (bE vI)<|Dd (bQ isAgg3)<|Dd (by exact aA rfl rfl nU rfl (rX o.x (by omega) (by omega) _))<|Dd (by exact aA rfl rfl vS rfl (p2))<|Zz<|Rg<|Dd (bE oY)<|Dd (bE vG)<|Dd (bQ isAgg3)<|Dd (by exact aA rfl rfl nU rfl (rX o.y (by omega) (by omega) _))<|Dd (by exact aA rfl rfl vS rfl (p3))<|Zz<|Sq<|Sr<|Dd (bE fY)<|Dd (bQ cY)<|Dd (fZ cQ)<|Dd mN<|Zz ?_;refine Cn ?_ ?_<;>intro hc3
   ·have htp:0<o.tags.length:=by have:=aNr hc3;rw[aNv]at this;omega
    refine Sr<|Dd (bE fY)<|Dd (bQ cY)<|Dd (by exact aA rfl rfl call235 rfl (OI o.tags _ ho.2.1))<|Dd aG<|Dd eZ<|Dd eZ<|Dd aM<|Dd aM<|Zz<|Sq<|Sr<|Dd aG<|Dd zW<|Zz ?_;refine Cn ?_ ?_<;>intro hc4
    ·have hte:(gM o.tags).2≠0:=by have hq:=hc4;rw[aOO,aOD]at hq;exact hq
     rw[O6 hg ⟨htp,hte⟩];exact Sr<|Dd aG<|Dd aM<|Dd aM<|Zz<|aE<|Ru<|Qq
    have hte:(gM o.tags).2=0:=by have hq:=hc4;rw[Bool.not_eq_false',aOC]at hq;exact hq
    have hlen2:(L3++32::(gM o.tags).1.data.toList).length<=300000:=by have:=hl3;have:=(sH htp hte).2;rw[aNw,aNx,bB];omega
    have hLL:xV o=L3++32::(gM o.tags).1.data.toList:=by rw[(sH htp hte).1,xV,hH]
    refine aF<|Rg<|Dd aG<|Dd (by exact aA rfl rfl vS rfl (aBX (oB o) (1+2+2+2) L3 (gM o.tags).1 hn3 (by have:=hl3;have:=(sH htp hte).2;omega)))<|Zz<|Sq<|Sr<|Dd (bE mJ)<|Dd (by exact aA rfl rfl vU rfl (I9 (oB o) ((1+2+2+2)+2) (L3++32::(gM o.tags).1.data.toList) true))<|Dd mN<|Zz ?_;refine Cn ?_ ?_<;>intro hc5
    ·have hlong:=aNr hc5;rw[BJ hg (fun h=>h.2 hte) hLL (by omega)];exact Sr<|Dd aM<|Dd aM<|Zz<|aE<|Ru<|Qq
    have hlong:=aNs hc5;rw[BK hg (fun h=>h.2 hte) hLL (by omega)];exact aF<|Sr<|Dd (bE mJ)<|Dd (by exact aA rfl rfl lP rfl (IR (oB o) ((1+2+2+2)+2) (L3++32::(gM o.tags).1.data.toList) true (by have:=hlen2;omega)))<|Dd aM<|Dd aM<|Zz<|aE<|Ru<|Qq
   have htp:¬ 0<o.tags.length:=by have:=aNs hc3;rw[aNv]at this;omega
   have hLL:xV o=L3:=by rw[xV,hH,List.length_eq_zero_iff.1 (by omega:o.tags.length=0)];exact List.append_nil _
   refine aF<|Sq<|Sr<|Dd (bE mJ)<|Dd (by exact aA rfl rfl vU rfl (I9 (oB o) (1+2+2+2) L3 true))<|Dd mN<|Zz ?_;refine Cn ?_ ?_<;>intro hc6
   ·have hlong:=aNr hc6;rw[BJ hg (fun h=>htp h.1) hLL (by omega)];exact Sr<|Dd aM<|Dd aM<|Zz<|aE<|Ru<|Qq
   have hlong:=aNs hc6;rw[BK hg (fun h=>htp h.1) hLL (by omega)];exact aF<|Sr<|Dd (bE mJ)<|Dd (by exact aA rfl rfl lP rfl (IR (oB o) (1+2+2+2) L3 true (by have:=hl3;omega)))<|Dd aM<|Dd aM<|Zz<|aE<|Ru<|Qq
  exact absurd hk (aNs hc2)
 have hsz:dA o.refs<=24*o.refs.length:=qK (fun s hs=>eQ (CR hg s hs));have hjl:=mI o.refs;obtain ⟨J,hJ⟩:∃J:ByteArray,J=⟨(cM [32] (bs o.refs)).toArray⟩:=⟨_,rfl⟩;have hj:∀H,aH Tryz.prog 158 [.pv (aS o.refs),sv ⟨#[32]⟩] H (fun x H'=>x=sv J/\H'=H):=fun H=>by
  rw[hJ];exact rV o.refs ⟨#[32]⟩ H (by decide) (by show 1*_+_+_<_;omega)
 have hJl:J.data.toList=cM [32] (bs o.refs):=by rw[hJ]
 obtain ⟨L3,hL3⟩:∃L,L=L1++32::((⟨#[40]⟩:ByteArray)++J++⟨#[41]⟩).data.toList:=⟨_,rfl⟩;have hQ:((⟨#[40]⟩:ByteArray)++J++⟨#[41]⟩).data.toList=40::(cM [32] (bs o.refs)++[41]):=by rw[<-hJl];simp
 have hQs:((⟨#[40]⟩:ByteArray)++J++⟨#[41]⟩).size<=60000:=by rw[<-bB,hQ,aNx,aNw,List.length_singleton];omega
 have hJs:J.size<=52000:=by rw[<-bB,hJl];omega
 have h40:(⟨#[40]⟩:ByteArray).size=1:=rfl;have h41:(⟨#[41]⟩:ByteArray).size=1:=rfl;have hAs:((⟨#[40]⟩:ByteArray)++J).size=1+J.size:=by rw[ByteArray.size_append,h40]
 have hn3:L3≠[]:=by rw[hL3];simp
 have hl3:L3.length<=200000:=by rw[hL3,aNw,aNx,bB];omega
 have p3:=aBX (oB o) (1+2) L1 ((⟨#[40]⟩:ByteArray)++J++⟨#[41]⟩) hn1 (by omega);rw[<-hL3]at p3;have hH:uQ o=L3:=by
  rw[uQ,aNt hk,hL3,hL1,hQ];simp
 refine Rg<|Dd (bE gR)<|Dd (bQ isAgg3)<|Dd dK<|Zz ?_;refine Cn ?_ ?_<;>intro hc7
 ·exact absurd (aNr hc7) hk
 refine Rg<|Dd (bE gQ)<|Dd (bQ aJ)<|Dd (by exact aA rfl rfl nT rfl (hj _))<|Dd (by exact gJ rfl rfl rfl (by omega) rfl)<|Dd (by exact gJ rfl rfl rfl (by omega) rfl)<|Dd (by exact aA rfl rfl vS rfl (p3))<|Zz<|Sq<|Sr<|Dd (bE fY)<|Dd (bQ cY)<|Dd (fZ cQ)<|Dd mN<|Zz ?_;refine Cn ?_ ?_<;>intro hc8
 ·have htp:0<o.tags.length:=by have:=aNr hc8;rw[aNv]at this;omega
  refine Sr<|Dd (bE fY)<|Dd (bQ cY)<|Dd (by exact aA rfl rfl call235 rfl (OI o.tags _ ho.2.1))<|Dd aG<|Dd eZ<|Dd eZ<|Dd aM<|Dd aM<|Zz<|Sq<|Sr<|Dd aG<|Dd zW<|Zz ?_;refine Cn ?_ ?_<;>intro hc9
  ·have hte:(gM o.tags).2≠0:=by have hq:=hc9;rw[aOO,aOD]at hq;exact hq
   rw[O6 hg ⟨htp,hte⟩];exact Sr<|Dd aG<|Dd aM<|Dd aM<|Zz<|aE<|Ru<|Qq
  have hte:(gM o.tags).2=0:=by have hq:=hc9;rw[Bool.not_eq_false',aOC]at hq;exact hq
  have hlen2:(L3++32::(gM o.tags).1.data.toList).length<=300000:=by have:=hl3;have:=(sH htp hte).2;rw[aNw,aNx,bB];omega
  have hLL:xV o=L3++32::(gM o.tags).1.data.toList:=by rw[(sH htp hte).1,xV,hH]
  refine aF<|Rg<|Dd aG<|Dd (by exact aA rfl rfl vS rfl (aBX (oB o) (1+2+2) L3 (gM o.tags).1 hn3 (by have:=hl3;have:=(sH htp hte).2;omega)))<|Zz<|Sq<|Sr<|Dd (bE mJ)<|Dd (by exact aA rfl rfl vU rfl (I9 (oB o) ((1+2+2)+2) (L3++32::(gM o.tags).1.data.toList) true))<|Dd mN<|Zz ?_;refine Cn ?_ ?_<;>intro hc10
  ·have hlong:=aNr hc10;rw[BJ hg (fun h=>h.2 hte) hLL (by omega)];exact Sr<|Dd aM<|Dd aM<|Zz<|aE<|Ru<|Qq
  have hlong:=aNs hc10;rw[BK hg (fun h=>h.2 hte) hLL (by omega)];exact aF<|Sr<|Dd (bE mJ)<|Dd (by exact aA rfl rfl lP rfl (IR (oB o) ((1+2+2)+2) (L3++32::(gM o.tags).1.data.toList) true (by have:=hlen2;omega)))<|Dd aM<|Dd aM<|Zz<|aE<|Ru<|Qq
 have htp:¬ 0<o.tags.length:=by have:=aNs hc8;rw[aNv]at this;omega
 have hLL:xV o=L3:=by rw[xV,hH,List.length_eq_zero_iff.1 (by omega:o.tags.length=0)];exact List.append_nil _
 refine aF<|Sq<|Sr<|Dd (bE mJ)<|Dd (by exact aA rfl rfl vU rfl (I9 (oB o) (1+2+2) L3 true))<|Dd mN<|Zz ?_;refine Cn ?_ ?_<;>intro hc11
 ·have hlong:=aNr hc11;rw[BJ hg (fun h=>htp h.1) hLL (by omega)];exact Sr<|Dd aM<|Dd aM<|Zz<|aE<|Ru<|Qq
 have hlong:=aNs hc11;rw[BK hg (fun h=>htp h.1) hLL (by omega)];exact aF<|Sr<|Dd (bE mJ)<|Dd (by exact aA rfl rfl lP rfl (IR (oB o) (1+2+2) L3 true (by have:=hl3;omega)))<|Dd aM<|Dd aM<|Zz<|aE<|Ru<|Qq
theorem pH:∀ {l:List (List UInt8)} {w:List UInt8},(32:UInt8)∉w->(∀x∈l,(32:UInt8)∉x)->eO 32 (cM [32] (w::l))=w::l
 | [],w,h,_=>by rw[cM,List.flatMap_nil,List.append_nil];exact qI h
 |a::l,w,h,hl=>by
  have e:cM [32] (w::a::l)=w++32::cM [32] (a::l):=by rw[cM,List.flatMap_cons,cM];simp
  rw[e,lU h,pH (hl a List.mem_cons_self) fun x hx=>hl x (List.mem_cons_of_mem _ hx)]
theorem LF:∀l:List UInt8,cM [32] (eO 32 l)=l
 | []=>rfl
 | b::l=>by
  have ih:=LF l;have hp:=xK 32 l;rw[eO];cases e:eO 32 l with
  |nil=>rw[e]at hp;exact absurd hp (Nat.lt_irrefl 0)
  |cons x r =>
   rw[e,cM]at ih;by_cases h:b=32
   ·rw[aNu h,cM,List.flatMap_cons,List.nil_append,List.append_assoc,ih,h];rfl
   rw[aNt h,cM,List.headD_cons,List.tail_cons,List.cons_append,ih]
theorem O8(h:0<=x)(h2:x<1000000000000000000):NY (Lib.itoa x)=x:=by rw[NY,yS h h2]
theorem aKB(l:List ByteArray):(bs l).map ofL=l:=by rw[bs,List.map_map];exact(List.map_congr_left fun s _=>nL s).trans (List.map_id _)
theorem VG:∀l:List UInt8,(l.flatMap oU).length<=2*l.length
 | []=>aOB _
 | b::l=>by
  have ih:=VG l;have h:(oU b).length<=2:=by
   rw[oU]
   split
   ·exact aOB _
   split
   ·exact aOB _
   exact Nat.le_succ _
  rw[List.flatMap_cons,aNw,aNx];omega
theorem aBh{v:ByteArray}(hv:v.size<=200):(hY (ofL (eC v.data.toList))).1=[⟨3,v,0,0⟩]:=by
 have h0:(ofL (eC v.data.toList)).data.toList.drop 0=eC v.data.toList++[]:=by rw[cO,List.append_nil];rfl
 have hl:(eC v.data.toList).length<=402:=by
  have:=VG v.data.toList;rw[bB]at this;rw[eC,aNx,aNw,List.length_singleton];omega
 have hq:0<(eC v.data.toList).length:=by rw[eC,aNx];omega
 have hT:=FH (TP h0) rfl (tI h0 hq) hq (all_nil (iH h0));rw[hY,aNt (by rw[eF];omega),hT _ (by rw[eF,List.append_nil];exact Nat.le_succ _),GI _ [] (by intro f hf;rw[aNy]at hf;subst hf;rfl) (by simp)];rfl
theorem yH{r:List (List UInt8)}:(w::r).headD []=w:=rfl
theorem OU{e:GEdit}(hv:fX e=true)(he:jG e=0):iF (gA e)=e/\(10:UInt8)∉gA e:=by
 obtain ⟨⟨o1,o7⟩,hok,hx⟩:=yJ.1 hv;rw[jG]at he;by_cases p1:e.op=1
 ·rw[aNu p1]at he;obtain ⟨hg,ht,_⟩:=aAI he;have hp:=XU he;rw[IA,aNu p1,p1]at hx;rw[gA,aNu p1];constructor
  ·rw[iF,lU (by decide),yH,AG,aNu rfl];show (⟨1,sNil,sNil,sNil,0,0,sNil,sNil,[],(qA (ofL (iV e.obj).1.data.toList)).1⟩:GEdit)=e;rw[nL,hp];exact hx
  rw[ht];intro h;rcases List.mem_append.1 h with h|h
  ·revert h;decide
  rcases aOH.1 h with h|h
  ·revert h;decide
  exact aJ1 hg h
 rw[wF,aNt p1,aOE]at hok;obtain ⟨hid,hok⟩:=hok;have i1:=pX hid;rw[gA,aNt p1];by_cases p2:e.op=2
 ·rw[aNu p2]at hok;have hxy:(0<=e.x/\e.x<1048576)/\0<=e.y/\e.y<1048576:=by
   rw[onP]at hok;simp only[aOE,aOC]at hok;omega
  rw[IA,aNt p1,aNu p2,p2]at hx;rw[jM,aNu p2];have n1:=JB hxy.1.1;have n2:=JB hxy.2.1;refine⟨?_,tK (by decide) ?_⟩
  ·rw[iF,pH (by decide) (by intro w hw;simp only[aOH,aOL,or_false]at hw;rcases hw with rfl|rfl|rfl;all_goals first|exact i1.1|exact n1.1|exact n2.1),yH,AG,aNt (by decide),aNu ⟨rfl,rfl⟩];show (⟨2,ofL e.id.data.toList,sNil,sNil,NY (Lib.itoa e.x),NY (Lib.itoa e.y),sNil,sNil,[],zObj⟩:GEdit)=e;rw[nL,O8 hxy.1.1 (by omega),O8 hxy.2.1 (by omega)];exact hx
  intro w hw;simp only[aOH,aOL,or_false]at hw;rcases hw with rfl|rfl|rfl|rfl;all_goals first|exact(by decide)|exact i1.2|exact n1.2|exact n2.2
 by_cases p3:e.op=3
 ·rw[aNt p2,aNu p3,aOE,aOC]at hok;have k1:=pX hok.1;rw[IA,aNt p1,aNt p2,aNu p3,p3]at hx;rw[jM,aNt p2,aNu p3];refine⟨?_,tK (by decide) ?_⟩
  ·have hj:cM [32] [aAq,e.id.data.toList,e.key.data.toList,eC e.val.data.toList]=aAq++32::(e.id.data.toList++32::(e.key.data.toList++32::eC e.val.data.toList)):=by simp[cM]
   have hs:=xK 32 (eC e.val.data.toList);rw[hj,iF,lU (by decide),lU i1.1,lU k1.1,yH,AG,aNt (by decide),aNt (fun h=>absurd h.1 (by decide)),aNu ⟨rfl,by simp only[aNx];omega⟩];show (match (hY (ofL (cM [32] (eO 32 (eC e.val.data.toList))))).1 with
    | [f]=>(⟨3,ofL e.id.data.toList,sNil,sNil,0,0,ofL e.key.data.toList,f.text,[],zObj⟩:GEdit)
    |_=>VO)=e
   rw[LF,aBh (by omega),nL,nL];exact hx
  intro w hw;simp only[aOH,aOL,or_false]at hw;rcases hw with rfl|rfl|rfl|rfl;all_goals first|exact(by decide)|exact i1.2|exact k1.2|exact T8 _
 by_cases p4:e.op=4
 ·rw[aNt p2,aNt p3,aNu p4,aOE,aOE,List.all_eq_true]at hok;have hr:=hok.2;rw[IA,aNt p1,aNt p2,aNt p3,aNu p4,p4]at hx;rw[jM,aNt p2,aNt p3,aNu p4];have hb:∀(b:UInt8),(b=32\/b=10)->∀w∈bs e.refs,b∉w:=by
   intro b hb w hw;obtain ⟨s,hs,rfl⟩:=List.mem_map.1 hw;have:=pX (hr s hs);rcases hb with rfl|rfl;all_goals first|exact this.1|exact this.2
  refine⟨?_,tK (by decide) ?_⟩
  ·rw[iF,pH (by decide) (by intro w hw;rcases aOH.1 hw with rfl|hw;all_goals first|exact i1.1|exact hb 32 (.inl rfl) w hw),yH,AG,aNt (by decide),aNt (fun h=>absurd h.1 (by decide)),aNt (fun h=>absurd h.1 (by decide)),aNu ⟨rfl,by simp only[aNx];omega⟩];show (⟨4,ofL e.id.data.toList,sNil,sNil,0,0,sNil,sNil,(bs e.refs).map ofL,zObj⟩:GEdit)=e;rw[nL,aKB];exact hx
  intro w hw;rcases aOH.1 hw with rfl|hw
  ·decide
  rcases aOH.1 hw with rfl|hw;all_goals first|exact i1.2|exact hb 10 (.inr rfl) w hw
 by_cases p5:e.op=5
 ·rw[IA,aNt p1,aNt p2,aNt p3,aNt p4,aNu p5,p5]at hx;rw[jM,aNt p2,aNt p3,aNt p4,aNu p5];refine⟨?_,tK (by decide) ?_⟩
  ·rw[iF,pH (by decide) (by intro w hw;rw[aNy]at hw;subst hw;exact i1.1),yH,AG,aNt (by decide),aNt (fun h=>absurd h.1 (by decide)),aNt (fun h=>absurd h.1 (by decide)),aNt (fun h=>absurd h.1 (by decide)),aNu ⟨rfl,rfl⟩];show (⟨5,ofL e.id.data.toList,sNil,sNil,0,0,sNil,sNil,[],zObj⟩:GEdit)=e;rw[nL];exact hx
  intro w hw;simp only[aOH,aOL,or_false]at hw;rcases hw with rfl|rfl;all_goals first|exact(by decide)|exact i1.2
 by_cases p6:e.op=6
 ·rw[aNt p2,aNt p3,aNt p4,aNt p5,aNu p6,aOE]at hok;have k1:=pX hok.1;have k2:=pX hok.2;rw[IA,aNt p1,aNt p2,aNt p3,aNt p4,aNt p5,aNu p6,p6]at hx;rw[jM,aNt p2,aNt p3,aNt p4,aNt p5,aNu p6];refine⟨?_,tK (by decide) ?_⟩
  ·rw[iF,pH (by decide) (by intro w hw;simp only[aOH,aOL,or_false]at hw;rcases hw with rfl|rfl|rfl;all_goals first|exact i1.1|exact k1.1|exact k2.1),yH,AG,aNt (by decide),aNt (fun h=>absurd h.1 (by decide)),aNt (fun h=>absurd h.1 (by decide)),aNt (fun h=>absurd h.1 (by decide)),aNt (fun h=>absurd h.1 (by decide)),aNu ⟨rfl,rfl⟩];show (⟨6,ofL e.id.data.toList,ofL e.other.data.toList,ofL e.node.data.toList,0,0,sNil,sNil,[],zObj⟩:GEdit)=e;rw[nL,nL,nL];exact hx
  intro w hw;simp only[aOH,aOL,or_false]at hw;rcases hw with rfl|rfl|rfl|rfl;all_goals first|exact(by decide)|exact i1.2|exact k1.2|exact k2.2
 have p7:e.op=7:=by omega
 rw[aNt p2,aNt p3,aNt p4,aNt p5,aNt p6]at hok;have k2:=pX hok;rw[IA,aNt p1,aNt p2,aNt p3,aNt p4,aNt p5,aNt p6,p7]at hx;rw[jM,aNt p2,aNt p3,aNt p4,aNt p5,aNt p6];refine⟨?_,tK (by decide) ?_⟩
 ·rw[iF,pH (by decide) (by intro w hw;simp only[aOH,aOL,or_false]at hw;rcases hw with rfl|rfl;all_goals first|exact i1.1|exact k2.1),yH,AG,aNt (by decide),aNt (fun h=>absurd h.1 (by decide)),aNt (fun h=>absurd h.1 (by decide)),aNt (fun h=>absurd h.1 (by decide)),aNt (fun h=>absurd h.1 (by decide)),aNt (fun h=>absurd h.1 (by decide)),aNu ⟨rfl,rfl⟩];show (⟨7,ofL e.id.data.toList,ofL e.other.data.toList,sNil,0,0,sNil,sNil,[],zObj⟩:GEdit)=e;rw[nL,nL];exact hx
 intro w hw;simp only[aOH,aOL,or_false]at hw;rcases hw with rfl|rfl|rfl;all_goals first|exact(by decide)|exact i1.2|exact k2.2
end Go.Proofs.YtmdicgjnmfolfaaGreatDoor
namespace Go.Abs
section
section
variable{P:Program}{H:aB}
theorem aBr(s:ByteArray)(c:Int):aHw P Extern.BytealgCount.count H [.pv (.str s),.pv (.int .u8 c)] (.pv (.int .i64 ((Lib.countByte s.data.toList c.toNat.toUInt8:Nat):Int))):=by intro w I ι cs hl h;obtain ⟨u,v,rfl,h1,h2⟩:=TK hl h;rw[h1.str_inv,h2.int_inv];exact⟨_,Lib.run_countString s c w,.pv (.int _ _)⟩
end
end
end Go.Abs
namespace Go.Proofs.YtmdicgjnmfolfaaGreatDoor
open Go.Proofs.Tryz
open Go.Abs
variable{s t:ByteArray}{r:GRec}{id g k:Nat}{e:GEdit}{l:List UInt8}{u:Bool}{H:aB}
abbrev sSp:ByteArray:=⟨#[32]⟩
theorem OP(s:ByteArray)(H:aB):aH Tryz.prog 188 [sv s,sv sSp] H (fun r H'=>r=iv (Lib.indexByte s.data.toList 32)/\H'=H):=by
 refine Pu ?_;refine Bd func188 rfl ntmps188<|Sr<|Dd aM<|Zz<|Sr<|Dd aG<|Dd (nF underlying9)<|Dd aM<|Zz<|Sq<|aD<|Sq ?_;refine bF (t:=16) (n:=9) (X:=decide (sSp=s)) ?_ ?_
 ·all_goals refine Dd aG ?_
  all_goals refine Dd dK<|Dm ?_
  all_goals refine Sp 19 (fun h19=>?_) fun h19=>?_
  all_goals try contradiction
  all_goals refine On aG<|On aG<|On B3<|Dd cN<|Da ?_
  all_goals(exact⟨⟨_,rfl,by rfl⟩,rfl,rfl,rfl⟩)
 refine Cn ?_ ?_<;>intro hc1
 ·have hs:=aNr hc1;subst hs;exact Sr<|Dd aM<|Zz<|aE<|Rt<|Qq
 refine Sr<|Dd aG<|Dd dK<|Da ?_;refine Cn ?_ ?_<;>intro hc2
 ·exact Sr<|Dd aG<|Dd aG<|Dd (by exact dW rfl underlying9 rfl rfl (by omega) (by exact aOG _) (show 0<(⟨#[32]⟩:ByteArray).size from Nat.zero_lt_one) rfl)<|Dd (by exact aA rfl rfl aNQ rfl (vB s 32 _))<|Dd aM<|Zz<|aE<|Rt<|Qq
 cases hc2
theorem aHJ(s:ByteArray)(H:aB):aH Tryz.prog 229 [sv s,sv sSp] H (fun r H'=>r=iv (Lib.indexByte s.data.toList 32)/\H'=H):=by refine Pu ?_;exact Bd func229 rfl ntmps229<|Sr<|Dd aM<|Zz<|Sr<|Dd aG<|Dd aG<|Dd (by exact aA rfl rfl MX rfl (OP s _))<|Dd aM<|Zz<|aE<|Rt<|Qq
def VT(s:ByteArray):AV:=if Lib.indexByte s.data.toList 32 = -1 then .tup [sv s,sv ⟨#[]⟩,bv false]else .tup [sv (s.extract 0 (Lib.indexByte s.data.toList 32).toNat),sv (s.extract ((Lib.indexByte s.data.toList 32).toNat+1) s.size),bv true]
theorem aGE(s:ByteArray)(H:aB)(hs:s.size<1099511627776):aH Tryz.prog 150 [sv s,sv sSp] H (fun r H'=>r=VT s/\H'=H):=by
 refine Pu ?_;have hI:=fun H=>OP s H;rw[VT];rcases Classical.em (Lib.indexByte s.data.toList 32 = -1)with h1|h1
 ·rw[aNu h1];simp only[h1]at hI;refine Bd aCV rfl WQ<|Sr<|Dd aM<|Dd aM<|Dd aM<|Zz<|Sq<|Sr<|Dd aG<|Dd aG<|Dd (by exact aA rfl rfl MX rfl (hI _))<|Dd aM<|Zz<|Sr<|Dd aG<|Dd LN<|Zz ?_;refine Cn ?_ ?_<;>intro hc1
  ·cases hc1
  refine aF<|Sr<|Dd aG<|Dd aM<|Dd aM<|Dd aM<|Zz<|aE ?_;refine zI (H':=[]) (.inr rfl) rfl (aW rfl) (aW rfl) (aW rfl) (Fin.wk (by simp) trivial trivial) ?_;exact Qq
 rw[aNt h1];obtain ⟨w,r,e1,e2,e3⟩:=tM h1;simp only[e3]at hI;rw[e3,aOG];have hl:w.length+1+r.length=s.size:=by rw[<-show s.data.toList.length=s.size by simp,e1,aNw,aNx];omega
 refine Bd aCV rfl WQ<|Sr<|Dd aM<|Dd aM<|Dd aM<|Zz<|Sq<|Sr<|Dd aG<|Dd aG<|Dd (by exact aA rfl rfl MX rfl (hI _))<|Dd aM<|Zz<|Sr<|Dd aG<|Dd LN<|Zz ?_;refine Cn ?_ ?_<;>intro hc1
 ·refine Sq<|aP follows<|Cq aG<|Cq aG<|Cq (by exact cI (l:=0) (h:=(w.length)) rfl underlying9 rfl rfl rfl (by omega) (by omega) rfl)<|Cq aG<|Cq aG<|Cq aG<|Cq (nF underlying9)<|Cq (by exact bG rfl rfl rfl (show IntKind.i64.wrap ((w.length:Int)+1)=((w.length+1:Nat):Int)by rw[IntKind.wrap_i64];omega))<|Cq (by exact cI (l:=(w.length+1)) (h:=s.size) rfl underlying9 rfl rfl rfl (by omega) (by omega) rfl)<|Cq aM<|Cq aM<|Cq aM<|bK<|Kr<|aE ?_;refine zI (H':=[]) (.inr rfl) rfl (aW rfl) (aW rfl) (aW rfl) (Fin.wk (by simp) trivial trivial) ?_;exact Qq
 have hx:=aNs hc1;omega
theorem aLt(s:ByteArray)(H:aB)(hs:s.size<1099511627776):aH Tryz.prog 113 [sv s,sv sSp] H (fun r H'=>r=VT s/\H'=H):=by
 refine Pu ?_;have hC:=fun H=>aGE s H hs;rw[VT]at *;rcases Classical.em (Lib.indexByte s.data.toList 32 = -1)with h1|h1
 ·simp only[VT,aNu h1]at hC |-;refine Bd aCX rfl WS<|Sr<|Dd aM<|Dd aM<|Dd aM<|Zz<|Sr<|Dd aG<|Dd aG<|Dd (by exact aA rfl rfl aC0 rfl (hC _))<|Dd eZ<|Dd eZ<|Dd eZ<|Dd aM<|Dd aM<|Dd aM<|Zz<|aE ?_;refine zI (H':=[]) (.inr rfl) rfl (aW rfl) (aW rfl) (aW rfl) (Fin.wk (by simp) trivial trivial) ?_;exact Qq
 simp only[VT,aNt h1]at hC |-;refine Bd aCX rfl WS<|Sr<|Dd aM<|Dd aM<|Dd aM<|Zz<|Sr<|Dd aG<|Dd aG<|Dd (by exact aA rfl rfl aC0 rfl (hC _))<|Dd eZ<|Dd eZ<|Dd eZ<|Dd aM<|Dd aM<|Dd aM<|Zz<|aE ?_;refine zI (H':=[]) (.inr rfl) rfl (aW rfl) (aW rfl) (aW rfl) (Fin.wk (by simp) trivial trivial) ?_;exact Qq
abbrev sNl:ByteArray:=⟨#[10]⟩
def yO(s:ByteArray):Bool:=decide ((1:Int)<=(s.size:Int))&&decide (s.extract (s.size - 1) s.size=sNl)
def AC(s:ByteArray):ByteArray:=if yO s then s.extract 0 (s.size - 1)else s
theorem U7(s:ByteArray)(H:aB)(hs:s.size<1099511627776):aH Tryz.prog 199 [sv s,sv sNl] H (fun r H'=>r=bv (yO s)/\H'=H):=by
 refine Pu ?_;refine Bd func199 rfl ntmps199<|Sr<|Dd aM<|Zz<|Sq ?_;refine bF (t:=4) (n:=18) (X:=yO s) ?_ ?_
 ·all_goals refine Dd aG ?_
  all_goals refine Dd (nF underlying9)<|Dd aG<|Dd (nF underlying9)<|Dd LN<|Dm ?_
  all_goals refine Sp 10 (fun h10=>?_) fun h10=>?_
  all_goals try contradiction
  all_goals first|refine Fo<|Fo<|Fo<|Fo<|Fo<|Fo<|Fo<|Fo<|Fo ?_|refine On aG<|On aG<|On (nF underlying9)<|On aG<|On (nF underlying9)<|On (by exact dN rfl rfl rfl (show IntKind.i64.wrap ((s.size:Int) - 1)=((s.size - 1:Nat):Int)by have h11:(1:Int)<=(s.size:Int):=aNr h10;rw[IntKind.wrap_i64];omega))<|On (by exact cI (l:=(s.size - 1)) (h:=s.size) rfl underlying9 rfl rfl rfl (by omega) (by omega) rfl)<|On aG<|On B3 ?_
  all_goals refine Dd cN<|Da ?_
  all_goals(exact⟨⟨_,rfl,by(simp only[yO];rw[show decide ((1:Int)<=(s.size:Int))=_ from h10];rfl)⟩,rfl,rfl,rfl⟩)
 exact aE<|Rt<|Qq
theorem aDA(s:ByteArray)(H:aB)(hs:s.size<1099511627776):aH Tryz.prog 159 [sv s,sv sNl] H (fun r H'=>r=sv (AC s)/\H'=H):=by
 refine Pu ?_;refine Bd func159 rfl ntmps159<|Sr<|Dd aM<|Zz<|Sq<|Sr<|Dd aG<|Dd aG<|Dd (by exact aA rfl rfl call199 rfl (U7 s _ hs))<|Zz ?_;refine Cn ?_ ?_<;>intro hc1
 ·have h1:1<=s.size:=by
   have h:=hc1;rw[yO,aOE,aOC]at h;omega
  rw[AC,aNu hc1];exact Sr<|Dd aG<|Dd aG<|Dd (nF underlying9)<|Dd aG<|Dd (nF underlying9)<|Dd (by exact dN rfl rfl rfl (show IntKind.i64.wrap ((s.size:Int) - 1)=((s.size - 1:Nat):Int)by rw[IntKind.wrap_i64];omega))<|Dd (by exact cI (l:=0) (h:=(s.size - 1)) rfl underlying9 rfl rfl rfl (by omega) (by omega) rfl)<|Dd aM<|Zz<|aE<|Rt<|Qq
 rw[AC,aNt (by rw[hc1];decide)];exact aF<|Sr<|Dd aG<|Dd aM<|Zz<|aE<|Rt<|Qq
theorem W1(s:ByteArray)(H:aB)(hs:s.size<1099511627776):aH Tryz.prog 117 [sv s,sv sNl] H (fun r H'=>r=sv (AC s)/\H'=H):=by refine Pu ?_;exact Bd func117 rfl ntmps117<|Sr<|Dd aM<|Zz<|Sr<|Dd aG<|Dd aG<|Dd (by exact aA rfl rfl call159 rfl (aDA s _ hs))<|Dd aM<|Zz<|aE<|Rt<|Qq
theorem aH6(s:ByteArray)(H:aB):aH Tryz.prog 228 [sv s,sv sSp] H (fun r H'=>r=iv ((s.data.toList.count 32:Nat):Int)/\H'=H):=by
 refine Pu ?_;refine Bd func228 rfl ntmps228<|Sr<|Dd aM<|Zz<|Sq<|Sr<|Dd aG<|Dd (nF underlying9)<|Dd dK<|Zz ?_;refine Cn ?_ ?_<;>intro hc1
 ·cases hc1
 refine aF<|Sq<|Sr<|Dd aG<|Dd (nF underlying9)<|Dd dK<|Zz ?_;refine Cn ?_ ?_<;>intro hc2
 ·exact Sr<|Dd aG<|Dd aG<|Dd (by exact dW rfl underlying9 rfl rfl (by omega) (by exact aOG _) (show 0<(⟨#[32]⟩:ByteArray).size from Nat.zero_lt_one) rfl)<|Dd (by exact IZ rfl rfl func260 rfl rfl rfl rfl rfl (aBr s 32))<|Dd aM<|Zz<|aE<|Rt<|Qq
 cases hc2
def ofY(l:List UInt8):ByteArray:=⟨l.toArray⟩
def dD(s:ByteArray):List ByteArray:=(eO 32 s.data.toList).map ofY
def xL(D:List ByteArray)(m:Nat):List (List AV):=D.map (fun e=>(encStr e).map AV.pv)++List.replicate m [sv ⟨#[]⟩]
theorem ON(D:List ByteArray)(m:Nat):(xL D (m+1))[D.length]?=some [sv ⟨#[]⟩]:=by rw[xL,List.getElem?_append_right (by rw[aNv];exact aOB _),aNv,Nat.sub_self];rfl
theorem XA(h:(dD s).length=1):dD s=[s]:=by rw[dD,aNv,sS]at h;have h0:(32:UInt8)∉s.data.toList:=List.count_eq_zero.1 (by omega);rw[dD,qI h0];rfl
theorem J5(D:List ByteArray)(m:Nat)(x:ByteArray):(xL D (m+1)).set D.length [sv x]=xL (D++[x]) m:=by unfold xL;rw[List.set_append_right _ _ (by rw[aNv];exact aOB _),aNv,Nat.sub_self,List.map_append,List.append_assoc];rfl
theorem J6(H:aB)(D:List ByteArray)(m:Nat):∀r∈xL D m,∀a∈r,Clo H a:=by
 intro r hr a ha;rcases List.mem_append.1 hr with hr|hr
 ·obtain ⟨d,_,rfl⟩:=List.mem_map.1 hr;obtain ⟨p,_,rfl⟩:=List.mem_map.1 ha;simp
 rw[List.eq_of_mem_replicate hr,aNy]at ha;subst ha;simp
theorem exL(s:ByteArray)(i j:Nat):(s.extract i j).data.toList=(s.data.toList.drop i).take (j - i):=by rw[ByteArray.data_extract,Array.toList_extract,List.extract_eq_take_drop]
theorem eqL{a b:ByteArray}(h:a.data.toList=b.data.toList):a=b:=by cases a;cases b;simp_all[Array.toList_inj]
theorem aDt{w r:List UInt8}(h:s.data.toList=w++32::r):s.extract 0 w.length=ofY w/\(s.extract (w.length+1) s.size).data.toList=r:=by
 have hl:s.size=w.length+1+r.length:=by
  show s.data.size=_;rw[<-Array.length_toList,h,aNw,aNx];omega
 constructor
 ·refine eqL ?_;rw[exL,List.drop_zero,Nat.sub_zero,h,List.take_left];simp[ofY]
 rw[exL,h,hl,show w++32::r=(w++[32])++r by simp,show w.length+1=(w++[(32:UInt8)]).length by simp,List.drop_left];exact List.take_of_length_le (by omega)
theorem aNB{H1:aB}{n:Nat}{ob:Ob}(ps:List (List PV))(hH:H1.get id=some ob)(hg:ob.g=g)(hps:ob.rows=ps.map (·.map .pv))(hn:ps.length=n):Fin [] H1 (.osl id g 0 n) [] (.pv (.sl ps)):=by subst hg hn;exact Fin.fz (id:=id) (ob:=ob) ps hH hps (.osl (by rw[aON,List.drop_zero,List.take_length])) rfl trivial trivial
theorem YR(s0:ByteArray)(H:aB)(hs:s0.size<1099511627776):aH Tryz.prog 194 [sv s0,sv sSp,iv 0,iv (-1)] H (fun r H'=>r=.pv (aS (dD s0))/\H'=H):=by
 refine Pu ?_;obtain ⟨N,hN⟩:∃N,N=s0.data.toList.count 32:=⟨_,rfl⟩;have hNs:N<=s0.size:=by rw[hN];exact Nat.le_trans List.count_le_length (by simp)
 have hC:=fun H=>aH6 s0 H;rw[<-hN]at hC;have hlen:(eO 32 s0.data.toList).length=N+1:=by rw[sS,hN]
 refine Bd func194 rfl ntmps194<|Sr<|Dd aM<|Zz<|Sq<|Sr<|Dd aG<|Dd dK<|Zz ?_;refine Cn ?_ ?_<;>intro hc1
 ·cases hc1
 refine aF<|Sq<|Sr<|Dd aG<|Dd B3<|Zz ?_;refine Cn ?_ ?_<;>intro hc2
 ·have:=aNr hc2;cases this
 refine aF<|Sq<|Sr<|Dd aG<|Dd cP<|Zz ?_;refine Cn ?_ ?_<;>intro hc3
 ·refine Rg<|Dd aG<|Dd aG<|Dd (by exact aA rfl rfl call228 rfl (hC _))<|Dd (by exact bG rfl rfl rfl (show IntKind.i64.wrap ((N:Int)+1)=((N+1:Nat):Int)by rw[IntKind.wrap_i64];omega))<|Dd aM<|Zz<|Sr<|Dd aG<|Dd aG<|Dd (nF underlying9)<|Dd (by exact bG rfl rfl rfl (show IntKind.i64.wrap ((s0.size:Int)+1)=((s0.size+1:Nat):Int)by rw[IntKind.wrap_i64];omega))<|Dd (by exact IX (r:=((N+1:Nat):Int)) rfl rfl rfl (by omega))<|Dd aM<|Zz<|Sr<|Dd aG<|Dd (by exact AA (id:=31) rfl bT CH zo9 rfl rfl rfl (by omega) (by omega) (by exact aOG _) (by exact aOG _) (by omega) rfl)<|Dd aM<|Zz<|Sr<|Dd aG<|Dd (by exact dN rfl rfl rfl (show IntKind.i64.wrap (((N+1:Nat):Int) - 1)=(N:Int)by rw[IntKind.wrap_i64];omega))<|Dd aM<|Zz<|Sr<|Dd aM<|Zz<|Sq<|aD ?_;refine iA (fun(D:List ByteArray) (rest:ByteArray)=>([(0,sv rest),(1,sv sSp),(2,iv 0),(3,iv (N:Int)),(8,.pv (.sl [])),(9,.osl 31 0 0 (N+1)),(10,iv (D.length:Int))],[(31,⟨0,1,9,xL D (N+1 - D.length)⟩)])) (fun D rest=>dD s0=D++dD rest/\rest.size<=s0.size) (fun D rest=>N - D.length) [] s0 ⟨rfl,aOB _⟩ ?_ ?_
  ·exact(cD.wk (Eb<|Eb<|Eb<|Eb<|Eb<|Ea<|Eb<|trivial) (Hc (J6 _ _ _)<|trivial) trivial)
  rintro D rest ⟨hD,hr⟩;have hln:D.length+(dD rest).length=N+1:=by
   have:=congrArg List.length hD;rw[aNw,dD,aNv,hlen]at this;exact this.symm
  have hpos:0<(dD rest).length:=by rw[dD,aNv];exact xK _ _
  obtain ⟨m,hm⟩:∃m,N+1 - D.length=m+1:=⟨N - D.length,by omega⟩;have hI:=fun H=>aHJ rest H;rw[hm];rcases Nat.lt_or_ge D.length N with hlt|hge
  ·have h1:Lib.indexByte rest.data.toList 32 ≠ -1:=fun h=>by
    have h2:=qI (tL.1 h);rw[dD,h2]at hln;have:D.length+1=N+1:=hln;omega
   obtain ⟨w,r,e1,e2,e3⟩:=tM h1;obtain ⟨x1,x2⟩:=aDt e1;have hl:w.length+1+r.length=rest.size:=by rw[<-show rest.data.toList.length=rest.size by simp,e1,aNw,aNx];omega
   have hsp:dD rest=rest.extract 0 w.length::dD (rest.extract (w.length+1) rest.size):=by
    rw[dD,e1,lU e2,List.map_cons,x1,dD,x2]
   simp only[e3]at hI;refine Sq<|Sr<|Dd aG<|Dd aG<|Dd cP<|Zz ?_;refine Cn ?_ ?_<;>intro hc4
   ·refine aF<|aD<|Sr<|Dd aG<|Dd aG<|Dd (by exact aA rfl rfl call229 rfl (hI _))<|Dd aM<|Zz<|Sq<|Sr<|Dd aG<|Dd cP<|Zz ?_;refine Cn ?_ ?_<;>intro hc5
    ·have:=aNr hc5;omega
    refine aF<|Sr<|Dd aG<|Dd aG<|Dd aG<|Dd aG<|Dd aG<|Dd (by exact bG rfl rfl rfl (show IntKind.i64.wrap ((w.length:Int)+0)=(w.length:Int)by rw[IntKind.wrap_i64];omega))<|Dd (by exact cI (l:=0) (h:=w.length) rfl underlying9 rfl rfl rfl (by omega) (by omega) rfl)<|Dd (by exact dP rfl bT rfl rfl rfl rfl rfl (by omega) (by exact aOG _) (by omega) (aON _))<|Uu (by exact bD rfl sizeOf9 rfl rfl rfl rfl rfl (ON D m) Nat.zero_lt_one rfl (J5 D m _))<|Zz<|Sr<|Dd aG<|Dd aG<|Dd aG<|Dd (nF underlying9)<|Dd (by exact bG rfl rfl rfl (show IntKind.i64.wrap ((w.length:Int)+1)=((w.length+1:Nat):Int)by rw[IntKind.wrap_i64];omega))<|Dd (by exact cI (l:=(w.length+1)) (h:=rest.size) rfl underlying9 rfl rfl rfl (by omega) (by omega) rfl)<|Dd aM<|Zz<|Rg<|Dm ?_;refine Dd (by exact bG rfl rfl rfl (show IntKind.i64.wrap ((D.length:Int)+1)=((D.length+1:Nat):Int)by rw[IntKind.wrap_i64];omega))<|Da ?_;have e5:(D++[rest.extract 0 w.length]).length=D.length+1:=by simp
    have hsz:(rest.extract (w.length+1) rest.size).size<=s0.size:=by rw[<-show (rest.extract (w.length+1) rest.size).data.toList.length=(rest.extract (w.length+1) rest.size).size by simp,x2];omega
    refine⟨D++[rest.extract 0 w.length],rest.extract (w.length+1) rest.size,⟨by rw[hD,hsp,List.append_assoc];rfl,hsz⟩,by rw[e5];omega,?_⟩;rw[e5,show N+1 - (D.length+1)=m by omega];exact(cD.wk (Eb<|Eb<|Eb<|Eb<|Eb<|Ea<|Eb<|trivial) (Hc (J6 _ _ _)<|trivial) trivial)
   have:=aNs hc4;omega
  have hDN:D.length=N:=by omega
  have hone:dD rest=[rest]:=XA (by omega);have hm0:m=0:=by omega
  subst hm0;refine Sq<|Sr<|Dd aG<|Dd aG<|Dd cP<|Zz ?_;refine Cn ?_ ?_<;>intro hc6
  ·have:=aNr hc6;omega
  refine aY<|Sr<|Dd aG<|Dd aG<|Dd aG<|Dd (by exact dP rfl bT rfl rfl rfl rfl rfl (by omega) (by exact aOG _) (by omega) (aON _))<|Uu (by exact bD rfl sizeOf9 rfl rfl rfl rfl rfl (ON D 0) Nat.zero_lt_one rfl (J5 D 0 _))<|Zz<|Sr<|Dd aG<|Dd aG<|Dd (by exact bG rfl rfl rfl (show IntKind.i64.wrap ((D.length:Int)+1)=((D.length+1:Nat):Int)by rw[IntKind.wrap_i64];omega))<|Dd (by exact gS (l:=0) (h:=(D.length+1)) rfl bT rfl rfl rfl rfl rfl rfl (by omega) (by omega) rfl rfl)<|Dd aM<|Zz<|aE ?_;have hps:(D++[rest]).map encStr=(dD s0).map encStr:=by rw[hD,hone]
  refine dC (H':=[]) (.inr rfl) rfl (aW rfl) (aNB (id:=31) ((D++[rest]).map encStr) rfl rfl (by show xL (D++[rest]) 0=_;rw[xL,List.replicate_zero,List.append_nil,List.map_map];rfl) (by simp)) ⟨?_,rfl⟩;rw[aS,hps]
 cases hc3
theorem aBE(s:ByteArray)(H:aB)(hs:s.size<1099511627776):aH Tryz.prog 154 [sv s,sv sSp] H (fun r H'=>r=.pv (aS (dD s))/\H'=H):=by refine Pu ?_;exact Bd func154 rfl ntmps154<|Sr<|Dd aM<|Zz<|Sr<|Dd aG<|Dd aG<|Dd (by exact aA rfl rfl call194 rfl (YR s _ hs))<|Dd aM<|Zz<|aE<|Rt<|Qq
def tJ(t:ByteArray):ByteArray:=if Lib.indexByte t.data.toList 10 = -1 then t else t.extract 0 ((Lib.indexByte t.data.toList 10).toNat+1)
def HP(t:ByteArray):ByteArray:=if Lib.indexByte t.data.toList 10 = -1 then⟨#[]⟩else t.extract ((Lib.indexByte t.data.toList 10).toNat+1) t.size
def fN(s:ByteArray):Nat->ByteArray
 |0=>s
 |k+1=>HP (fN s k)
def fW(s:ByteArray):List ByteArray:=(jL s.data.toList).map ofY
theorem aDs(s:ByteArray):ofY s.data.toList=s:=eqL (by simp[ofY])
theorem szY(s:ByteArray):s.data.toList.length=s.size:=by simp
theorem aES(h:Lib.indexByte t.data.toList 10 ≠ -1):∃w r,t.data.toList=w++10::r/\(10:UInt8)∉w/\Lib.indexByte t.data.toList 10=(w.length:Int)/\t.extract 0 (w.length+1)=ofY (w++[10])/\(t.extract (w.length+1) t.size).data.toList=r/\w.length+1+r.length=t.size:=by
 obtain ⟨w,r,e1,e2,e3⟩:=tM h;have hl:w.length+1+r.length=t.size:=by rw[<-szY,e1,aNw,aNx];omega
 have e4:t.data.toList=(w++[10])++r:=by rw[e1];simp
 refine⟨w,r,e1,e2,e3,eqL ?_,?_,hl⟩
 ·rw[exL,List.drop_zero,Nat.sub_zero,e4,show w.length+1=(w++[(10:UInt8)]).length by simp,List.take_left];simp[ofY]
 rw[exL,e4,show w.length+1=(w++[(10:UInt8)]).length by simp,List.drop_left];exact List.take_of_length_le (by rw[aNw,List.length_singleton];omega)
theorem wN(h:¬ 0<t.size):fW t=[]:=by have:t.data.toList=[]:=List.length_eq_zero_iff.1 (by rw[szY];omega);rw[fW,this];rfl
theorem yB(h:0<t.size):fW t=tJ t::fW (HP t)/\(HP t).size<=t.size:=by
 rw[tJ,HP];by_cases h1:Lib.indexByte t.data.toList 10 = -1
 ·rw[aNu h1,aNu h1];refine⟨?_,aOM _⟩;rw[fW,HR (tL.1 h1) (fun e=>by rw[<-szY,e]at h;exact absurd h (Nat.lt_irrefl 0))];show [ofY t.data.toList]=_;rw[aDs];rfl
 rw[aNt h1,aNt h1];obtain ⟨w,r,e1,e2,e3,e4,e5,e6⟩:=aES h1;rw[e3,aOG,e4];refine⟨?_,by rw[<-szY,e5];omega⟩;rw[fW,e1,CX e2,List.map_cons,fW,e5]
theorem wC(s:ByteArray):∀k,k<=(fW s).length->fW (fN s k)=(fW s).drop k/\(fN s k).size<=s.size
 |0,_=>⟨rfl,aOB _⟩
 | k+1,h=>by
  obtain ⟨i1,i2⟩:=wC s k (Nat.le_of_succ_le h);have hp:0<(fN s k).size:=by
   rcases Nat.lt_or_ge 0 (fN s k).size with h1|h1
   ·exact h1
   have h2:=wN (t:=fN s k) (by omega);rw[h2]at i1;have:=congrArg List.length i1;rw[aOK,List.length_nil]at this;omega
  obtain ⟨j1,j2⟩:=yB hp;rw[j1]at i1;refine⟨?_,Nat.le_trans j2 i2⟩;show fW (HP (fN s k))=_;have:=congrArg List.tail i1;rw[List.tail_cons,List.tail_drop]at this;exact this
theorem aHC(h:k<(fW s).length):(fW s)[k]?=some (tJ (fN s k))/\0<(fN s k).size:=by
 obtain ⟨i1,i2⟩:=wC s k (Nat.le_of_lt h);have hp:0<(fN s k).size:=by
  rcases Nat.lt_or_ge 0 (fN s k).size with h1|h1
  ·exact h1
  have h2:=wN (t:=fN s k) (by omega);rw[h2]at i1;have:=congrArg List.length i1;rw[aOK,List.length_nil]at this;omega
 refine⟨?_,hp⟩;rw[(yB hp).1]at i1;have:=congrArg List.head? i1;rw[List.head?_cons,List.head?_drop]at this;exact this.symm
def lB(s:ByteArray):Ob:=bx 1 9 [sv s]
theorem aHB(s:ByteArray)(H:aB)(h1:H.get 933=none):aH Tryz.prog 115 [sv s] H (fun r H'=>r=.clo 153 [.ref 933 0 0 0]/\H'=(933,lB s)::H):=by refine Bd func115 rfl ntmps115<|Sr<|Dd (by exact cE (id:=933) rfl rfl rfl rfl h1)<|Dd aM<|Zz<|Sr<|Dd (by exact fO rfl rfl)<|Dd aM<|Zz<|aE ?_;refine dC (H':=((933,lB s)::H)) (.inr rfl) rfl (aW rfl) Fin.refl ?_;exact Qq
theorem aEG(s:ByteArray)(fv:AV)(Hs:Nat->aB)(hs:s.size<1099511627776)(h1:∀k,(Hs k).get 933=some (lB (fN s k)))
  (hy:∀k,k<(fW s).length->cK Tryz.prog fv [sv (tJ (fN s k))] ((933,lB (fN s (k+1)))::Hs k) (fun r H'=>r=bv true/\H'=Hs (k+1))) :
  aH Tryz.prog 153 [fv,.ref 933 0 0 0] (Hs 0) (fun r H'=>r=.tup []/\H'=Hs (fW s).length):=by
 refine Bd func153 rfl ntmps153<|aD ?_;refine bL (σ:=Nat) (fun k=>([(0,fv),(1,.ref 933 0 0 0)],Hs k)) (fun k=>k<=(fW s).length) (fun k=>(fW s).length - k) 0 (aOM _) ?_ ?_
 ·exact E0
 rintro k hk;obtain ⟨i1,i2⟩:=wC s k hk;have hI:=fun H=>oC (fN s k) 10 H;have hnx:fN s (k+1)=HP (fN s k):=rfl;refine Sq<|Sr<|Dd (by exact aK rfl isAgg9 rfl (h1 k) rfl rfl rfl)<|Dd (nF underlying9)<|Dd mN<|Zz ?_;refine Cn ?_ ?_<;>intro hc1
 ·have hp:0<(fN s k).size:=by have:=aNr hc1;omega
  have hlt:k<(fW s).length:=by
   rcases Nat.lt_or_ge k (fW s).length with h|h
   ·exact h
   rw[(yB hp).1,List.drop_eq_nil_of_le h]at i1;cases i1
  have hyk:=hy k hlt;rw[hnx,HP,tJ]at hyk;rcases Classical.em (Lib.indexByte (fN s k).data.toList 10 = -1)with e0|e0
  ·rw[aNu e0,aNu e0]at hyk;have hI2:∀H,aH Tryz.prog 140 [sv (fN s k),.pv (.int .u8 10)] H (fun r H'=>r=iv (-1)/\H'=H):=fun H=>by
    have:=hI H
    rwa [show Lib.indexByte (fN s k).data.toList ((10:Int).toNat.toUInt8) = -1 from e0]at this
   refine aF<|aD<|Sr<|Dd aM<|Zz<|Sq<|Sr<|Dd (by exact aK rfl isAgg9 rfl (h1 k) rfl rfl rfl)<|Dd (by exact aA rfl rfl vV rfl (hI2 _))<|Dd aM<|Zz<|Sr<|Dd aG<|Dd LN<|Zz ?_;refine Cn ?_ ?_<;>intro hc2
   ·cases hc2
   refine Rg<|Dd (by exact aK rfl isAgg9 rfl (h1 k) rfl rfl rfl)<|Dd aM<|Uu (by exact bX rfl sizeOf9 rfl rfl rfl rfl (h1 k) rfl rfl rfl)<|Zz<|Sr<|Dd aG<|Dd aG<|Dd (by exact cC rfl rfl rfl (hyk))<|Dd mT<|Zz ?_;refine Cn ?_ ?_<;>intro hc3
   ·cases hc3
   refine aF ?_;exact⟨k+1,by omega,by omega,E0⟩
  rw[aNt e0,aNt e0]at hyk;obtain ⟨w,r,e1,e2,e3,e4,e5,e6⟩:=aES e0;rw[e3,aOG]at hyk;have hI2:∀H,aH Tryz.prog 140 [sv (fN s k),.pv (.int .u8 10)] H (fun r H'=>r=iv (w.length:Int)/\H'=H):=fun H=>by
   have:=hI H
   rwa [show Lib.indexByte (fN s k).data.toList ((10:Int).toNat.toUInt8)=(w.length:Int)from e3]at this
  refine aF<|aD<|Sr<|Dd aM<|Zz<|Sq<|Sr<|Dd (by exact aK rfl isAgg9 rfl (h1 k) rfl rfl rfl)<|Dd (by exact aA rfl rfl vV rfl (hI2 _))<|Dd aM<|Zz<|Sr<|Dd aG<|Dd LN<|Zz ?_;refine Cn ?_ ?_<;>intro hc4
  ·refine aP follows<|Cr [933] (fun H1 hH=>by exact aK rfl isAgg9 rfl ((hH _ rfl).trans (h1 k)) rfl rfl rfl)<|Cr [] (fun _ _=>aG)<|Cr [] (fun H1 hH=>by exact bG rfl rfl rfl (show IntKind.i64.wrap ((w.length:Int)+1)=((w.length+1:Nat):Int)by rw[IntKind.wrap_i64];omega))<|Cr [] (fun H1 hH=>by exact cI (l:=0) (h:=(w.length+1)) rfl underlying9 rfl rfl rfl (by omega) (by omega) rfl)<|Cr [933] (fun H1 hH=>by exact aK rfl isAgg9 rfl ((hH _ rfl).trans (h1 k)) rfl rfl rfl)<|Cr [] (fun _ _=>aG)<|Cr [] (fun H1 hH=>by exact bG rfl rfl rfl (show IntKind.i64.wrap ((w.length:Int)+1)=((w.length+1:Nat):Int)by rw[IntKind.wrap_i64];omega))<|Cr [] (fun H1 hH=>by exact cI (l:=(w.length+1)) (h:=(fN s k).size) rfl underlying9 rfl rfl rfl (by omega) (by omega) rfl)<|Cr [] (fun _ _=>aM) ?_;refine Cp [933] (fun H1 hH=>by exact bX rfl sizeOf9 rfl rfl rfl rfl ((hH _ rfl).trans (h1 k)) rfl rfl rfl)<|bK<|Kr<|Sr<|Dd aG<|Dd aG<|Dd (by exact cC rfl rfl rfl (hyk))<|Dd mT<|Zz ?_;refine Cn ?_ ?_<;>intro hc5
   ·cases hc5
   refine aF ?_;exact⟨k+1,by omega,by omega,E0⟩
  have:=aNs hc4;omega
 have hn:¬ 0<(fN s k).size:=by have:=aNs hc1;omega
 have hge:k=(fW s).length:=by
  rw[wN hn]at i1;have:=congrArg List.length i1;rw[List.length_nil,aOK]at this;omega
 subst hge;refine aY ?_;exact qU (H':=Hs (fW s).length) (.inl rfl) rfl Fin.refl ⟨rfl,rfl⟩
theorem aCn(w:List UInt8):Lib.trimSuffix (w++[10]) [10]=w:=by rw[Lib.trimSuffix,Lib.hasSuffix,aNu (List.isSuffixOf_iff_suffix.2 ⟨w,rfl⟩)];simp
theorem aCp(s:ByteArray):AC s=ofL (Lib.trimSuffix s.data.toList [10]):=by
 have hz:=szY s;rw[AC];cases h:yO s with
 | true =>
  rw[yO,aOE,aOC,aOC]at h;obtain ⟨h1,h2⟩:=h;have h3:s.data.toList.drop (s.size - 1)=[10]:=by
   have:=congrArg (fun x=>x.data.toList) h2;rw[exL]at this;refine Eq.trans ?_ (show sNl.data.toList=[10]from rfl);rw[<-this];exact(List.take_of_length_le (by rw[aOK];omega)).symm
  have h4:s.data.toList=s.data.toList.take (s.size - 1)++[10]:=by rw[<-h3,List.take_append_drop]
  refine eqL ?_;rw[aNu rfl,exL,cO,h4,aCn,List.drop_zero,Nat.sub_zero,<-h4]
 | false =>
  rw[aNt (by decide),Lib.trimSuffix,aNt,nL];intro hp;obtain ⟨w,hw⟩:=List.isSuffixOf_iff_suffix.1 (show ([10]:List UInt8).isSuffixOf s.data.toList=true from hp);have hl:s.size=w.length+1:=by rw[<-hz,<-hw,aNw,List.length_singleton]
  have:yO s=true:=by
   rw[yO,aOE,aOC,aOC];refine⟨by omega,eqL ?_⟩;rw[exL,<-hw,show s.size - 1=w.length by omega,List.drop_left];exact List.take_of_length_le (by rw[List.length_singleton];omega)
  rw[h]at this;cases this
theorem aH4(s:ByteArray):∃b,VT s=.tup [sv (ofL ((eO 32 s.data.toList).headD [])),sv (ofL (s.data.toList.drop (((eO 32 s.data.toList).headD []).length+1))),bv b]:=by
 rw[VT];by_cases h:Lib.indexByte s.data.toList 32 = -1
 ·refine⟨false,?_⟩;rw[aNu h,qI (tL.1 h),List.headD_cons,List.drop_eq_nil_of_le (Nat.le_succ _),nL];rfl
 obtain ⟨w,r,e1,e2,e3⟩:=tM h;refine⟨true,?_⟩;obtain ⟨a1,a2⟩:=aDt e1;have hd:s.data.toList.drop (w.length+1)=r:=by
  rw[e1,show w++32::r=(w++[32])++r by simp,show w.length+1=(w++[(32:UInt8)]).length by simp,List.drop_left]
 have hsp:(eO 32 s.data.toList).headD []=w:=by rw[e1,lU e2];rfl
 rw[aNt h,hsp,hd,e3,aOG,a1,show s.extract (w.length+1) s.size=ofL r from eqL (by rw[a2,cO])];rfl
theorem aBD(s:ByteArray)(i:Nat)(h:i<(dD s).length):(dD s)[i]?=some (ofL ((eO 32 s.data.toList).getD i [])):=by rw[dD,aNv]at h;rw[dD,aOP,aOA h,List.getD_eq_getElem?_getD,aOA h];rfl
theorem aBC(s:ByteArray):(dD s).length=(eO 32 s.data.toList).length:=aNv _
theorem oT{a b:List UInt8}:ofL a=ofL b↔a=b:=⟨fun h=>by rw[<-cO a,h,cO],fun h=>by rw[h]⟩
theorem eI(s:ByteArray)(l:List ByteArray):dA (s::l)=s.size+dA l:=by rw[dA,dA,List.map_cons,List.sum_cons]
theorem wP{ws:List ByteArray}(h1:e.op≠1)(h:bs ws=jM e):(⟨(cM [32] (bs ws)).toArray⟩:ByteArray)++⟨#[10]⟩=ofL (gA e++[10]):=eqL (by
 rw[cO,gA,aNt h1,<-h];simp)
theorem aG6(h1:e.op=1):(⟨#[112,117,116,32]⟩:ByteArray)++(iV e.obj).1++⟨#[10]⟩=ofL (gA e++[10]):=eqL (by
 rw[cO,gA,aNu h1];simp[aCg])
theorem O7{o:GObj}:(iV o).1.size<=20000:=by
 rw[iV]
 split
 ·split
  ·exact aOM _
  split
  ·exact aOM _
  show (zL o).size<=_;omega
 exact aOM _
theorem aJ6(e:GEdit)(H:aB)(he:S9 e)(hv:fX e=true):aH Tryz.prog 161 [av (bC e)] H (fun r H'=>r=.tup [sv (ofL (gA e++[10])),iv (jG e)]/\H'=H):=by
 refine Pu ?_;obtain ⟨⟨o1,o2⟩,o3,o4⟩:=yJ.1 hv;rw[wF]at o3;have hval:=LQ hv;have hs0:dA []=0:=rfl;refine Bd func161 rfl ntmps161<|Sr<|Dd (by exact cE (id:=1) rfl rfl rfl rfl rfl)<|Dd aM<|Dd aM<|Zz<|Sr<|Dd aM<|Zz<|Sq<|Sr<|Dd (bE yL)<|Dd (bQ isAgg3)<|Zz<|aD<|Sr<|Dd dK<|Da ?_;refine Cn ?_ ?_<;>intro hc1
 ·have h1:e.op=1:=aNr hc1;have hos:=O7 (o:=e.obj);have h4:(⟨#[112,117,116,32]⟩:ByteArray).size=4:=rfl;have h10:(⟨#[10]⟩:ByteArray).size=1:=rfl;have h4s:((⟨#[112,117,116,32]⟩:ByteArray)++(iV e.obj).1).size=4+(iV e.obj).1.size:=by rw[ByteArray.size_append];rfl
  refine Sr<|Dd (bE rZ)<|Dd (rC cR sizeOf151)<|Dd (by exact aA rfl rfl call196 rfl (O5 e.obj _ he.2.2))<|Dd aG<|Dd eZ<|Dd eZ<|Dd aM<|Dd aM<|Zz<|Sr<|Dd aG<|Dd (by exact gJ rfl rfl rfl (by omega) rfl)<|Dd (by exact gJ rfl rfl rfl (by omega) rfl)<|Dd aG<|Dd aM<|Dd aM<|Zz<|aE<|Ru ?_;rw[aG6 h1,show jG e=(iV e.obj).2 from aNu h1];exact Qq
 have h1:e.op≠1:=aNs hc1;rw[aNt h1,aOE]at o3;obtain ⟨o5,o6⟩:=o3;have hid:=eQ o5;refine Sr<|Dd dK<|Da ?_;refine Cn ?_ ?_<;>intro hc2
 ·have h2:e.op=2:=aNr hc2;rw[aNu h2,onP,aOE,aOC,aOC]at o6;have hx:0<=e.x/\e.x<1048576:=by omega
  have hy:0<=e.y/\e.y<1048576:=by omega
  have six:(bI e.x).size<=7:=by rw[<-bB];show (Lib.itoa e.x).length<=7;rw[mB _ hx.1];exact eV (by omega) (by decide)
  have siy:(bI e.y).size<=7:=by rw[<-bB];show (Lib.itoa e.y).length<=7;rw[mB _ hy.1];exact eV (by omega) (by decide)
  have hw0:(⟨#[109,111,118,101]⟩:ByteArray).size=4:=rfl;refine aP follows<|Cq (bE lL)<|Cq (bQ isAgg9)<|Cq (bE iP)<|Cq (bE vI)<|Cq (bQ isAgg3)<|Cq (by exact aA rfl rfl nU rfl (rX e.x (by omega) (by omega) _))<|Cq (bE iP)<|Cq (bE vG)<|Cq (bQ isAgg3)<|Cq (by exact aA rfl rfl nU rfl (rX e.y (by omega) (by omega) _))<|Cq (by exact aQ (([⟨#[109,111,118,101]⟩,e.id,bI e.x,bI e.y]:List ByteArray).map encStr) rfl bT rfl rfl rfl rfl rfl (oE _))<|Cq aM<|bK<|Kr<|Sr<|Dm ?_;have hw:bs [⟨#[109,111,118,101]⟩,e.id,bI e.x,bI e.y]=jM e:=by
   rw[jM]
   (rw[aNu h2];rfl)
  have hne:e.op≠1:=by omega
  have hj:∀H,aH Tryz.prog 158 [.pv (aS [⟨#[109,111,118,101]⟩,e.id,bI e.x,bI e.y]),sv ⟨#[32]⟩] H (fun x H'=>x=sv ⟨(cM [32] (bs [⟨#[109,111,118,101]⟩,e.id,bI e.x,bI e.y])).toArray⟩/\H'=H):=fun H=>rV [⟨#[109,111,118,101]⟩,e.id,bI e.x,bI e.y] ⟨#[32]⟩ H (by decide) (by show 1*_+_+_<_;simp only[eI,aNx,List.length_nil];omega);have hjs:(⟨(cM [32] (bs [⟨#[109,111,118,101]⟩,e.id,bI e.x,bI e.y])).toArray⟩:ByteArray).size<=70000:=by
   show (cM [32] (bs [⟨#[109,111,118,101]⟩,e.id,bI e.x,bI e.y])).length<=_;have:=mI [⟨#[109,111,118,101]⟩,e.id,bI e.x,bI e.y];simp only[eI,aNx,List.length_nil]at this;omega
  have h10:(⟨#[10]⟩:ByteArray).size=1:=rfl;refine Dd (by exact aA rfl rfl nT rfl (hj _))<|Dd (by exact gJ rfl rfl rfl (by omega) rfl)<|Dd aM<|Dd aM<|Zz<|aE<|Ru ?_;rw[wP hne hw,show jG e=0 from aNt hne];exact Qq
 have h2:e.op≠2:=aNs hc2;rw[aNt h2]at o6;refine Sr<|Dd dK<|Da ?_;refine Cn ?_ ?_<;>intro hc3
 ·have h3:e.op=3:=aNr hc3;rw[aNu h3,aOE,aOC]at o6;have hks:=eQ o6.1;have hq:=xQ e.val;have hw0:(⟨#[116,97,103]⟩:ByteArray).size=3:=rfl;refine aP follows<|Cq (bE lL)<|Cq (bQ isAgg9)<|Cq (bE lK)<|Cq (bQ isAgg9)<|Cq (bE mK)<|Cq (bQ isAgg9)<|Cq (by exact aA rfl rfl call203 rfl (aAC e.val _ (by omega)))<|Cq (by exact aQ (([⟨#[116,97,103]⟩,e.id,e.key,⟨(eC e.val.data.toList).toArray⟩]:List ByteArray).map encStr) rfl bT rfl rfl rfl rfl rfl (oE _))<|Cq aM<|bK<|Kr<|Sr<|Dm ?_;have hw:bs [⟨#[116,97,103]⟩,e.id,e.key,⟨(eC e.val.data.toList).toArray⟩]=jM e:=by
   rw[jM]
   (rw[aNt h2,aNu h3];rfl)
  have hne:e.op≠1:=by omega
  have hj:∀H,aH Tryz.prog 158 [.pv (aS [⟨#[116,97,103]⟩,e.id,e.key,⟨(eC e.val.data.toList).toArray⟩]),sv ⟨#[32]⟩] H (fun x H'=>x=sv ⟨(cM [32] (bs [⟨#[116,97,103]⟩,e.id,e.key,⟨(eC e.val.data.toList).toArray⟩])).toArray⟩/\H'=H):=fun H=>rV [⟨#[116,97,103]⟩,e.id,e.key,⟨(eC e.val.data.toList).toArray⟩] ⟨#[32]⟩ H (by decide) (by show 1*_+_+_<_;simp only[eI,aNx,List.length_nil];omega);have hjs:(⟨(cM [32] (bs [⟨#[116,97,103]⟩,e.id,e.key,⟨(eC e.val.data.toList).toArray⟩])).toArray⟩:ByteArray).size<=70000:=by
   show (cM [32] (bs [⟨#[116,97,103]⟩,e.id,e.key,⟨(eC e.val.data.toList).toArray⟩])).length<=_;have:=mI [⟨#[116,97,103]⟩,e.id,e.key,⟨(eC e.val.data.toList).toArray⟩];simp only[eI,aNx,List.length_nil]at this;omega
  have h10:(⟨#[10]⟩:ByteArray).size=1:=rfl;refine Dd (by exact aA rfl rfl nT rfl (hj _))<|Dd (by exact gJ rfl rfl rfl (by omega) rfl)<|Dd aM<|Dd aM<|Zz<|aE<|Ru ?_;rw[wP hne hw,show jG e=0 from aNt hne];exact Qq
 have h3:e.op≠3:=aNs hc3;rw[aNt h3]at o6;refine Sr<|Dd dK<|Da ?_;refine Cn ?_ ?_<;>intro hc4
 ·have h4:e.op=4:=aNr hc4;rw[aNu h4,aOE,aOE,aOC,aOC,List.all_eq_true]at o6;obtain ⟨⟨r1,r2⟩,r3⟩:=o6;have hrs:dA e.refs<=24*e.refs.length:=qK (fun s hs=>eQ (r3 s hs));have hw0:(⟨#[114,101,102,115]⟩:ByteArray).size=4:=rfl;have hfl:(([[⟨#[114,101,102,115]⟩,e.id],e.refs]:List (List ByteArray)).flatten).length<1099511627776:=by simp;omega
  refine Rg<|Dd (bE lL)<|Dd (bQ isAgg9)<|Dd (by exact aQ (([⟨#[114,101,102,115]⟩,e.id]:List ByteArray).map encStr) rfl bT rfl rfl rfl rfl rfl (oE _))<|Dd (bE fC)<|Dd (bQ aJ)<|Dd (by exact aQ (([[⟨#[114,101,102,115]⟩,e.id],e.refs]:List (List ByteArray)).map (fun l=>[.sl (l.map encStr)])) rfl HJ rfl rfl rfl rfl rfl (by simp))<|Dd (by exact aA rfl rfl call204 rfl (GX [[⟨#[114,101,102,115]⟩,e.id],e.refs] _ (by show 2<_;omega) hfl))<|Dd aM<|Zz<|Sr<|Dm ?_;rw[show ([[⟨#[114,101,102,115]⟩,e.id],e.refs]:List (List ByteArray)).flatten=⟨#[114,101,102,115]⟩::e.id::e.refs by simp];have hw:bs (⟨#[114,101,102,115]⟩::e.id::e.refs)=jM e:=by
   rw[jM]
   (rw[aNt h2,aNt h3,aNu h4];rfl)
  have hne:e.op≠1:=by omega
  have hj:∀H,aH Tryz.prog 158 [.pv (aS (⟨#[114,101,102,115]⟩::e.id::e.refs)),sv ⟨#[32]⟩] H (fun x H'=>x=sv ⟨(cM [32] (bs (⟨#[114,101,102,115]⟩::e.id::e.refs))).toArray⟩/\H'=H):=fun H=>rV (⟨#[114,101,102,115]⟩::e.id::e.refs) ⟨#[32]⟩ H (by decide) (by show 1*_+_+_<_;simp only[eI,aNx,List.length_nil];omega);have hjs:(⟨(cM [32] (bs (⟨#[114,101,102,115]⟩::e.id::e.refs))).toArray⟩:ByteArray).size<=70000:=by
   show (cM [32] (bs (⟨#[114,101,102,115]⟩::e.id::e.refs))).length<=_;have:=mI (⟨#[114,101,102,115]⟩::e.id::e.refs);simp only[eI,aNx,List.length_nil]at this;omega
  have h10:(⟨#[10]⟩:ByteArray).size=1:=rfl;refine Dd (by exact aA rfl rfl nT rfl (hj _))<|Dd (by exact gJ rfl rfl rfl (by omega) rfl)<|Dd aM<|Dd aM<|Zz<|aE<|Ru ?_;rw[wP hne hw,show jG e=0 from aNt hne];exact Qq
 have h4:e.op≠4:=aNs hc4;rw[aNt h4]at o6;refine Sr<|Dd dK<|Da ?_;refine Cn ?_ ?_<;>intro hc5
 ·have h5:e.op=5:=aNr hc5;have hw0:(⟨#[100,114,111,112]⟩:ByteArray).size=4:=rfl;refine Rg<|Dd (bE lL)<|Dd (bQ isAgg9)<|Dd (by exact aQ (([⟨#[100,114,111,112]⟩,e.id]:List ByteArray).map encStr) rfl bT rfl rfl rfl rfl rfl (oE _))<|Dd aM<|Zz<|Sr<|Dm ?_;have hw:bs [⟨#[100,114,111,112]⟩,e.id]=jM e:=by
   rw[jM]
   (rw[aNt h2,aNt h3,aNt h4,aNu h5];rfl)
  have hne:e.op≠1:=by omega
  have hj:∀H,aH Tryz.prog 158 [.pv (aS [⟨#[100,114,111,112]⟩,e.id]),sv ⟨#[32]⟩] H (fun x H'=>x=sv ⟨(cM [32] (bs [⟨#[100,114,111,112]⟩,e.id])).toArray⟩/\H'=H):=fun H=>rV [⟨#[100,114,111,112]⟩,e.id] ⟨#[32]⟩ H (by decide) (by show 1*_+_+_<_;simp only[eI,aNx,List.length_nil];omega);have hjs:(⟨(cM [32] (bs [⟨#[100,114,111,112]⟩,e.id])).toArray⟩:ByteArray).size<=70000:=by
   show (cM [32] (bs [⟨#[100,114,111,112]⟩,e.id])).length<=_;have:=mI [⟨#[100,114,111,112]⟩,e.id];simp only[eI,aNx,List.length_nil]at this;omega
  have h10:(⟨#[10]⟩:ByteArray).size=1:=rfl;refine Dd (by exact aA rfl rfl nT rfl (hj _))<|Dd (by exact gJ rfl rfl rfl (by omega) rfl)<|Dd aM<|Dd aM<|Zz<|aE<|Ru ?_;rw[wP hne hw,show jG e=0 from aNt hne];exact Qq
 have h5:e.op≠5:=aNs hc5;rw[aNt h5]at o6;refine Sr<|Dd dK<|Da ?_;refine Cn ?_ ?_<;>intro hc6
 ·have h6:e.op=6:=aNr hc6;rw[aNu h6,aOE]at o6;have hns:=eQ o6.1;have hos:=eQ o6.2;have hw0:(⟨#[115,112,108,105,116]⟩:ByteArray).size=5:=rfl;refine Rg<|Dd (bE lL)<|Dd (bQ isAgg9)<|Dd (bE oX)<|Dd (bQ isAgg9)<|Dd (bE iW)<|Dd (bQ isAgg9)<|Dd (by exact aQ (([⟨#[115,112,108,105,116]⟩,e.id,e.node,e.other]:List ByteArray).map encStr) rfl bT rfl rfl rfl rfl rfl (oE _))<|Dd aM<|Zz<|Sr<|Dm ?_;have hw:bs [⟨#[115,112,108,105,116]⟩,e.id,e.node,e.other]=jM e:=by
   rw[jM]
   (rw[aNt h2,aNt h3,aNt h4,aNt h5,aNu h6];rfl)
  have hne:e.op≠1:=by omega
  have hj:∀H,aH Tryz.prog 158 [.pv (aS [⟨#[115,112,108,105,116]⟩,e.id,e.node,e.other]),sv ⟨#[32]⟩] H (fun x H'=>x=sv ⟨(cM [32] (bs [⟨#[115,112,108,105,116]⟩,e.id,e.node,e.other])).toArray⟩/\H'=H):=fun H=>rV [⟨#[115,112,108,105,116]⟩,e.id,e.node,e.other] ⟨#[32]⟩ H (by decide) (by show 1*_+_+_<_;simp only[eI,aNx,List.length_nil];omega);have hjs:(⟨(cM [32] (bs [⟨#[115,112,108,105,116]⟩,e.id,e.node,e.other])).toArray⟩:ByteArray).size<=70000:=by
   show (cM [32] (bs [⟨#[115,112,108,105,116]⟩,e.id,e.node,e.other])).length<=_;have:=mI [⟨#[115,112,108,105,116]⟩,e.id,e.node,e.other];simp only[eI,aNx,List.length_nil]at this;omega
  have h10:(⟨#[10]⟩:ByteArray).size=1:=rfl;refine Dd (by exact aA rfl rfl nT rfl (hj _))<|Dd (by exact gJ rfl rfl rfl (by omega) rfl)<|Dd aM<|Dd aM<|Zz<|aE<|Ru ?_;rw[wP hne hw,show jG e=0 from aNt hne];exact Qq
 have h6:e.op≠6:=aNs hc6;rw[aNt h6]at o6;have hos:=eQ o6;have hw0:(⟨#[106,111,105,110]⟩:ByteArray).size=4:=rfl;refine Rg<|Dd (bE lL)<|Dd (bQ isAgg9)<|Dd (bE iW)<|Dd (bQ isAgg9)<|Dd (by exact aQ (([⟨#[106,111,105,110]⟩,e.id,e.other]:List ByteArray).map encStr) rfl bT rfl rfl rfl rfl rfl (oE _))<|Dd aM<|Zz<|Sr<|Dm ?_;have hw:bs [⟨#[106,111,105,110]⟩,e.id,e.other]=jM e:=by
  rw[jM]
  (rw[aNt h2,aNt h3,aNt h4,aNt h5,aNt h6];rfl)
 have hne:e.op≠1:=by omega
 have hj:∀H,aH Tryz.prog 158 [.pv (aS [⟨#[106,111,105,110]⟩,e.id,e.other]),sv ⟨#[32]⟩] H (fun x H'=>x=sv ⟨(cM [32] (bs [⟨#[106,111,105,110]⟩,e.id,e.other])).toArray⟩/\H'=H):=fun H=>rV [⟨#[106,111,105,110]⟩,e.id,e.other] ⟨#[32]⟩ H (by decide) (by show 1*_+_+_<_;simp only[eI,aNx,List.length_nil];omega);have hjs:(⟨(cM [32] (bs [⟨#[106,111,105,110]⟩,e.id,e.other])).toArray⟩:ByteArray).size<=70000:=by
  show (cM [32] (bs [⟨#[106,111,105,110]⟩,e.id,e.other])).length<=_;have:=mI [⟨#[106,111,105,110]⟩,e.id,e.other];simp only[eI,aNx,List.length_nil]at this;omega
 have h10:(⟨#[10]⟩:ByteArray).size=1:=rfl;refine Dd (by exact aA rfl rfl nT rfl (hj _))<|Dd (by exact gJ rfl rfl rfl (by omega) rfl)<|Dd aM<|Dd aM<|Zz<|aE<|Ru ?_;rw[wP hne hw,show jG e=0 from aNt hne];exact Qq
theorem TM:∀ {l:List GEdit} {acc:List UInt8},(uJ acc l).2=0->(∀e∈l,jG e=0)/\uJ acc l=(acc++l.flatMap fun e=>gA e++[10],0)/\(acc.length<=20000->(uJ acc l).1.length<=20000)
 | [],acc,_=>⟨(fun e h=>by cases h),by rw[uJ,List.flatMap_nil,List.append_nil],fun h=>h⟩
 |e::l,acc,h=>by
  rw[uJ]at h |-;by_cases h1:jG e≠0\/20000<(acc++(gA e++[10])).length
  ·rw[aNu h1]at h;cases h
  rw[aNt h1]at h |-;rw[not_or,Classical.not_not]at h1;obtain ⟨i1,i2,i3⟩:=TM h;refine⟨fun x hx=>?_,by rw[i2,List.flatMap_cons,List.append_assoc],fun _=>i3 (by omega)⟩;rcases aOH.1 hx with rfl|hx
  ·exact h1.1
  exact i1 x hx
theorem LS{l:List GEdit}(h:uW l=true):l≠[]/\∀e∈l,fX e=true:=by
 rw[uW,aOE,aOE,aOC,aOO,List.any_eq_false]at h;refine⟨fun e=>by rw[e]at h;exact absurd h.1.1 (by decide),fun e he=>?_⟩;have:=h.2 e he
 simpa using this
theorem aFt(w:List UInt8):Lib.trimSuffix (w++[10]) [10]=w:=by rw[Lib.trimSuffix,Lib.hasSuffix,aNu (List.isSuffixOf_iff_suffix.2 ⟨w,rfl⟩)];simp
theorem HK{l:List GEdit}(h:(gL l).2=0):lI (gL l).1=(l,0):=by
 have hc:uW l=true:=by
  rw[gL]at h
  split at h
  ·assumption
  cases h
 obtain ⟨hne,hv⟩:=LS hc;rw[gL,aNu hc]at h;obtain ⟨h1,h2,h3⟩:=TM h;rw[List.nil_append]at h2;have h4:=h3 (aOM _);have ht:gL l=(ofL (l.flatMap fun e=>gA e++[10]),0):=by rw[gL,aNu hc,h2]
 have hsz:(ofL (l.flatMap fun e=>gA e++[10])).size<=20000:=by rw[eF];rw[h2]at h4;exact h4
 have hl:(jL (ofL (l.flatMap fun e=>gA e++[10])).data.toList).map (fun s=>iF (Lib.trimSuffix s [10]))=l:=by
  have hj:=CE (ls:=l.map gA) (fun w hw=>by
   obtain ⟨e,he,rfl⟩:=List.mem_map.1 hw;exact(OU (hv e he) (h1 e he)).2)
  rw[List.flatMap_map]at hj;rw[cO,hj,List.map_map,List.map_map];refine(List.map_congr_left fun e he=>?_).trans (List.map_id l);show iF (Lib.trimSuffix (gA e++[10]) [10])=e;rw[aFt];exact(OU (hv e he) (h1 e he)).1
 rw[ht,lI,aNt (by show ¬ 20000<(ofL (l.flatMap fun e=>gA e++[10])).size;omega)];show (if gL ((jL (ofL (l.flatMap fun e=>gA e++[10])).data.toList).map fun s=>iF (Lib.trimSuffix s [10]))=(ofL (l.flatMap fun e=>gA e++[10]),0)then((jL (ofL (l.flatMap fun e=>gA e++[10])).data.toList).map (fun s=>iF (Lib.trimSuffix s [10])),(0:Int))else([],5))=(l,0);rw[hl,aNu ht]
theorem aJb(g:Nat)(l:List UInt8)(u:Bool):aH Tryz.prog 162 [.ref 2001 0 0 0] (uB g l u) (fun r H'=>r=iv (l.length:Int)/\H'=uB g l u):=by refine Bd func162 rfl ntmps162<|Sr<|Dd aM<|Zz<|Sr<|Dd aG<|Dd zN<|Dd (bE fK)<|Dd (bQ cS)<|Dd (by exact eB rfl cJ rfl rfl rfl)<|Dd aM<|Zz<|aE ?_;refine dC (H':=(uB g l u)) (.inr rfl) rfl (aW rfl) Fin.refl ?_;exact Qq
abbrev aFA(l:List UInt8)(g:Nat)(u:Bool):Ob:=vO (.osl 2002 g 0 l.length) u
abbrev aEz(l:List UInt8)(g:Nat):Ob:=⟨g,1,5,dQ l⟩
theorem aLf{g':Nat}{l':List UInt8}{u':Bool}(h:(aB.get (uB g l u) id).isSome=true):(aB.get (uB g' l' u') id).isSome=true:=aAT h
theorem aLe{u u':Bool}(h:(aB.get (aCI g l u) id).isSome=true):(aB.get (uB g l u) id).isSome=true:=by
 simp only[aCI,uB,aB.get]at h |-;cases e1:Nat.beq 2001 id with
 |true=>rfl
 |false =>
  cases e2:Nat.beq 2002 id with
  |true=>rfl
  |false=>rw[e1,e2]at h;cases h
theorem aKe(s:ByteArray)(h1:H.get 2001=some (aFA l g u))(h2:H.get 2002=some (aEz l g))(hl:l.length+s.size<70368744177664):aH Tryz.prog 109 [.ref 2001 0 0 0,sv s] H (fun r H'=>r=.tup [iv (s.size:Int),.pv GB]/\H'=uB (g+1) (l++s.data.toList) true++H) :=aH.frame (gT g l u s hl) (Sub.of2 h1 h2) (dF.ofL ⟨(by exact fB rfl rfl),(by exact dO _ _),trivial⟩) (by simp;rfl) (fun id h=>.inl (aLf h))
theorem aJa(h1:H.get 2001=some (aFA l g u))(h2:H.get 2002=some (aEz l g)):aH Tryz.prog 162 [.ref 2001 0 0 0] H (fun r H'=>r=iv (l.length:Int)/\H'=H) :=aH.frameS (aJb g l u) (Sub.of2 h1 h2) (dF.ofL ⟨(by exact fB rfl rfl),(by exact dO _ _),trivial⟩) (by simp;rfl)
theorem aIl(h1:H.get 2001=some (aFA l g u))(h2:H.get 2002=some (aEz l g))(hl:l.length<70368744177664):aH Tryz.prog 111 [.ref 2001 0 0 0] H (fun r H'=>r=sv ⟨l.toArray⟩/\H'=aCI g l u++H) :=aH.frame (OL g l u hl) (Sub.of2 h1 h2) (dF.ofL ⟨(by exact fB rfl rfl),(by exact dO _ _),trivial⟩) (by simp;rfl) (fun id h=>.inl (aLe (u':=u) h))
def uK:Nat->Bool
 |0=>false
 |_+1=>true
def wY(l:List GEdit)(k:Nat):List UInt8:=(l.take k).flatMap fun e=>gA e++[10]
theorem aCQ{l:List GEdit}(h:l[k]?=some e):wY l (k+1)=wY l k++(gA e++[10]):=by rw[wY,List.take_add_one,h,List.flatMap_append];simp[wY]
theorem aBe(he:fX e=true):(gA e).length<=100000:=by
 obtain ⟨⟨o1,o2⟩,o3,o4⟩:=yJ.1 he;rw[wF]at o3;have hval:=LQ he;by_cases h1:e.op=1
 ·rw[gA,aNu h1,aNw,aNx,bB];have:=O7 (o:=e.obj);show 3+_<=_;omega
 rw[aNt h1,aOE]at o3;obtain ⟨o5,o6⟩:=o3;have hid:=eQ o5;have key:∀ws:List ByteArray,bs ws=jM e->ws.length+dA ws<=100000->(gA e).length<=100000:=fun ws h h2=>by
  rw[gA,aNt h1,<-h];exact Nat.le_trans (mI ws) h2
 by_cases h2:e.op=2
 ·rw[aNu h2,onP,aOE,aOC,aOC]at o6;have six:(bI e.x).size<=7:=by rw[<-bB];show (Lib.itoa e.x).length<=7;rw[mB _ (by omega)];exact eV (by omega) (by decide)
  have siy:(bI e.y).size<=7:=by rw[<-bB];show (Lib.itoa e.y).length<=7;rw[mB _ (by omega)];exact eV (by omega) (by decide)
  have hw0:(⟨#[109,111,118,101]⟩:ByteArray).size=4:=rfl;exact key [⟨#[109,111,118,101]⟩,e.id,bI e.x,bI e.y] (by rw[jM,aNu h2];rfl) (by simp only[eI,aNx,List.length_nil,show dA []=0 from rfl];omega)
 rw[aNt h2]at o6;by_cases h3:e.op=3
 ·rw[aNu h3,aOE]at o6;have hks:=eQ o6.1;have hq:=xQ e.val;have hw0:(⟨#[116,97,103]⟩:ByteArray).size=3:=rfl;exact key [⟨#[116,97,103]⟩,e.id,e.key,⟨(eC e.val.data.toList).toArray⟩] (by rw[jM,aNt h2,aNu h3];rfl) (by simp only[eI,aNx,List.length_nil,show dA []=0 from rfl];omega)
 rw[aNt h3]at o6;by_cases h4:e.op=4
 ·rw[aNu h4,aOE,aOE,aOC,aOC,List.all_eq_true]at o6;obtain ⟨⟨r1,r2⟩,r3⟩:=o6;have hrs:dA e.refs<=24*e.refs.length:=qK (fun s hs=>eQ (r3 s hs));have hw0:(⟨#[114,101,102,115]⟩:ByteArray).size=4:=rfl;exact key (⟨#[114,101,102,115]⟩::e.id::e.refs) (by rw[jM,aNt h2,aNt h3,aNu h4];rfl) (by simp only[eI,aNx];omega)
 rw[aNt h4]at o6;by_cases h5:e.op=5
 ·have hw0:(⟨#[100,114,111,112]⟩:ByteArray).size=4:=rfl;exact key [⟨#[100,114,111,112]⟩,e.id] (by rw[jM,aNt h2,aNt h3,aNt h4,aNu h5];rfl) (by simp only[eI,aNx,List.length_nil,show dA []=0 from rfl];omega)
 rw[aNt h5]at o6;by_cases h6:e.op=6
 ·rw[aNu h6,aOE]at o6;have hns:=eQ o6.1;have hos:=eQ o6.2;have hw0:(⟨#[115,112,108,105,116]⟩:ByteArray).size=5:=rfl;exact key [⟨#[115,112,108,105,116]⟩,e.id,e.node,e.other] (by rw[jM,aNt h2,aNt h3,aNt h4,aNt h5,aNu h6];rfl) (by simp only[eI,aNx,List.length_nil,show dA []=0 from rfl];omega)
 rw[aNt h6]at o6;have hos:=eQ o6;have hw0:(⟨#[106,111,105,110]⟩:ByteArray).size=4:=rfl;exact key [⟨#[106,111,105,110]⟩,e.id,e.other] (by rw[jM,aNt h2,aNt h3,aNt h4,aNt h5,aNt h6];rfl) (by simp only[eI,aNx,List.length_nil,show dA []=0 from rfl];omega)
theorem ZX(l:List GEdit)(H:aB)(hl:l.length<4611686018427387904)(he:∀e∈l,S9 e):aH Tryz.prog 118 [.pv (jF l)] H (fun r H'=>r=.tup [sv (gL l).1,iv (gL l).2]/\H'=H):=by
 refine Pu ?_;have hml:(l.map bC).length=l.length:=aNv _;refine Bd func118 rfl ntmps118<|Sr<|Dd aM<|Dd aM<|Zz<|Sq<|Sr<|Dd aG<|Dd (by exact aA rfl rfl call160 rfl (N8 l _ hl he))<|Dd mT<|Zz ?_;refine Cn ?_ ?_<;>intro hc1
 ·have hg:uW l=false:=by have h:=hc1;rwa [aOO]at h
  rw[show gL l=(sNil,1)by rw[gL,hg];rfl];exact Sr<|Dd aM<|Dd aM<|Zz<|aE<|Ru<|Qq
 have hg:uW l=true:=by have h:=hc1;rwa [Bool.not_eq_false']at h
 have hv:=(LS hg).2;have hT:gL l=(ofL (uJ [] l).1,(uJ [] l).2):=by rw[gL,aNu hg]
 refine aF<|Sr<|Dd (by exact bM (id:=2001) rfl FU rfl rfl)<|Zz<|Sq<|Sq ?_;refine fL.ent (E':=[(0,.pv (jF l)),(4,.ref 2001 0 0 0)]) (H':=[(2002,⟨0,1,5,[]⟩),(2001,vO (.osl 2002 0 0 0) false)]) (cD.nz 2002 1 5 rfl rfl ⟨⟨_,rfl,(by exact Nz.same (by(simp;done)))⟩,⟨_,rfl,(by exact Nz.same (by(simp;rfl)))⟩,trivial⟩ ⟨⟨_,rfl,rfl,rfl,rfl,(by exact .inr ⟨_,_,rfl,rfl,(by repeat(first|exact trivial|refine⟨(by first|exact Nz.own|exact Nz.same (by(simp;done))),?_⟩))⟩)⟩,trivial⟩ trivial) ?_;refine Rg<|Dd aG<|Dd (fZ dL)<|Dd aG<|Zz<|aD ?_;refine bL (σ:=Nat) (fun k=>([(4,.ref 2001 0 0 0),(12,.pv (jF l)),(13,iv ((l.map bC).length:Int)),(14,iv (k:Int))],[(2001,aFA (wY l k) k (uK k)),(2002,aEz (wY l k) k)])) (fun k=>k<=l.length/\uJ [] l=uJ (wY l k) (l.drop k)/\(wY l k).length<=20000) (fun k=>l.length - k) 0 ⟨aOM _,rfl,aOM _⟩ ?_ ?_
 ·exact(cD.wk (Ea<|Eb<|Eb<|Eb<|trivial) (Hc (fB rfl rfl)<|Hc (dO _ _)<|trivial) trivial)
 rintro k ⟨hk,hF,hA⟩;refine Sr<|Dd cP<|Zz<|Sq ?_;refine Cn ?_ ?_<;>intro hc2
 ·have hlt:k<l.length:=by have:=aNr hc2;omega
  obtain ⟨e,hke⟩:=aV hlt;have hi:=cA (f:=bC) hke;have hem:=aOF hke;have hnx:=aCQ hke;have hYl:=aBe (hv e hem);have hdr:l.drop k=e::l.drop (k+1):=by
   rw[List.drop_eq_getElem_cons hlt];rw[aOA hlt]at hke;cases hke;rfl
  rw[hdr,uJ]at hF;have hsz:(ofL (gA e++[10])).size=(gA e).length+1:=by rw[eF,aNw];rfl
  have hbl:uB (k+1) (wY l k++(ofL (gA e++[10])).data.toList) true=uB (k+1) (wY l (k+1)) true:=by rw[cO,hnx]
  have hnl:(wY l (k+1)).length=(wY l k).length+((gA e).length+1):=by rw[hnx,aNw,aNw];rfl
  have hw:∀H,H.get 2001=some (aFA (wY l k) k (uK k))->H.get 2002=some (aEz (wY l k) k)->aH Tryz.prog 109 [.ref 2001 0 0 0,sv (ofL (gA e++[10]))] H (fun r H'=>r=.tup [iv ((ofL (gA e++[10])).size:Int),.pv GB]/\H'=uB (k+1) (wY l (k+1)) true++H):=fun H h1 h2=>by
   have:=aKe (H:=H) (ofL (gA e++[10])) h1 h2 (by omega)
   rwa [hbl]at this
  refine aF<|Sq<|aD<|Sr<|Dd (zV XD)<|Dd (by exact cU rfl bW bA rfl (by omega) rfl rfl)<|Dd (by exact bM (id:=6) rfl ZJ rfl rfl)<|Uu (kG bA)<|Zz<|Sr<|Dd (rC bW bA)<|Dd (by exact aA rfl rfl call161 rfl (aJ6 e _ (he e hem) (hv e hem)))<|Dd aG<|Dd eZ<|Dd eZ<|Dd aM<|Dd aM<|Zz<|Sr<|Dd aG<|Dd (by exact aA rfl rfl lQ rfl (hw _ rfl rfl))<|Zz<|Sq ?_;refine bF (t:=30) (n:=7) (X:=!decide (jG e=0)||decide ((20000:Int)<((wY l (k+1)).length:Int))) ?_ ?_
  ·all_goals refine Dd aG ?_
   all_goals refine Dd zW<|Dm ?_
   all_goals refine Sp 27 (fun h27=>?_) fun h27=>?_
   all_goals try contradiction
   all_goals first|refine Fo<|Fo ?_|refine On (by exact aA rfl rfl vU rfl (aJa (l:=wY l (k+1)) (g:=k+1) (u:=true) rfl rfl))<|On mN ?_
   all_goals refine Dd cN<|Zz ?_
   all_goals(exact⟨⟨_,rfl,by(simp only[*,Zo];done)⟩,rfl,rfl,rfl⟩)
  refine Cn ?_ ?_<;>intro hc3
  ·have hbad:jG e≠0\/20000<(wY l k++(gA e++[10])).length:=by have h:=hc3;rw[<-hnx];simp only[Bool.or_eq_true,aOO,aOD,aOC]at h;omega
   rw[aNu hbad]at hF;rw[hT,hF];exact Sr<|Dd aM<|Dd aM<|Zz<|aE<|Ru<|Qq
  have hfine:¬ (jG e≠0\/20000<(wY l k++(gA e++[10])).length):=by have h:=hc3;rw[<-hnx];simp only[aOR,Bool.not_eq_false',aOD,aOC]at h;omega
  rw[aNt hfine,<-hnx]at hF;rw[<-hnx]at hfine;refine aF<|Rg<|Dd qV<|Dd aG<|Zz ?_;exact⟨k+1,⟨hlt,hF,by omega⟩,by omega,(cD.wk (Ea<|Eb<|Eb<|Eb<|trivial) (Hc (fB rfl rfl)<|Hc (dO _ _)<|trivial) trivial)⟩
 have hge:k=l.length:=by have:=aNs hc2;omega
 subst hge;rw[List.drop_length,uJ]at hF;rw[hT,hF];exact aY<|Sr<|Dd (by exact aA rfl rfl lP rfl (aIl (l:=wY l l.length) (g:=l.length) (u:=uK l.length) rfl rfl (by omega)))<|Dd aM<|Dd aM<|Zz<|aE<|Ru<|Qq
theorem UC(s:ByteArray):(mP s).data.toList=(bI (s.size:Int)).data.toList++[58]++s.data.toList:=by rw[mP,ByteArray.data_append,ByteArray.data_append,Array.toList_append,Array.toList_append]
theorem PR(l:List ByteArray)(H:aB)(hl:(aL l).length<35184372088832):aH Tryz.prog 41 [.pv (aS l)] H (fun r H'=>r=sv ⟨(aL l).toArray⟩/\H'=H):=by
 refine Pu ?_;have hml:(l.map encStr).length=l.length:=aNv _;have hll:=AT l;refine Bd func41 rfl ntmps41<|Sr<|Dd aM<|Zz<|Sr<|Dd (by exact bM (id:=2001) rfl FU rfl rfl)<|Zz<|Sq<|Sq ?_;refine fL.ent (E':=[(0,.pv (aS l)),(3,.ref 2001 0 0 0)]) (H':=uB 0 [] false) (cD.bld0 ⟨⟨_,rfl,.same (by simp)⟩,⟨_,rfl,.same (by simp;rfl)⟩,trivial⟩) ?_;refine Rg<|Dd aG<|Dd (fZ underlying72)<|Dd aG<|Zz<|aD ?_;refine QJ (fun(k g:Nat) (u:Bool)=>([(3,.ref 2001 0 0 0),(6,.pv (aS l)),(7,iv ((l.map encStr).length:Int)),(8,iv (k:Int))],uB g (aL (l.take k)) u)) (fun k g u=>k<=l.length) (fun k g u=>l.length - k) 0 0 false (aOM _) ?_ ?_
 ·exact(cD.wk (Ea<|Eb<|Eb<|Eb<|trivial) (Hc (fB rfl rfl)<|Hc (dO _ _)<|trivial) trivial)
 intro k g u hk;have hle:=yG l k;refine Sr<|Dd cP<|Zz<|Sq ?_;refine Cn ?_ ?_<;>intro hc1
 ·have hlt:k<l.length:=by have:=aNr hc1;omega
  obtain ⟨s,hs⟩:=aV hlt;have hi:=cA (f:=encStr) hs;have hle2:=yG l (k+1);rw[kY hs,rW,aNw,lV,nY]at hle2;have hsz:s.size<35184372088832:=by omega
  have hnx:aL (l.take (k+1))=aL (l.take k)++(bI (s.size:Int)).data.toList++[58]++s.data.toList:=by
   rw[kY hs,rW,UC,List.append_assoc,List.append_assoc,List.append_assoc]
  have hl1:(aL (l.take k)++(bI (s.size:Int)).data.toList).length=(aL (l.take k)).length+(bI (s.size:Int)).size:=by rw[aNw,lV]
  have hl2:(aL (l.take k)++(bI (s.size:Int)).data.toList++[58]).length=(aL (l.take k)).length+(bI (s.size:Int)).size+1:=by rw[aNw,hl1];rfl
  refine aF<|Sq<|aD<|Sr<|Dd (by exact aT rfl XC rfl rfl (by omega) (by exact aOG _) hi rfl)<|Dd (kS isAgg9 (hi:=hi))<|Dd aM<|Zz<|Sr<|Dd aG<|Dd (nF underlying9)<|Dd (by exact aA rfl rfl nU rfl (rX (s.size:Int) (by omega) (by omega) _))<|Dd (by exact aA rfl rfl lQ rfl (gT g (aL (l.take k)) u (bI (s.size:Int)) (by omega)))<|Zz<|Sr<|Dd (by exact aA rfl rfl jU rfl (gU (g+1) (aL (l.take k)++(bI (s.size:Int)).data.toList) true 58 (by omega)))<|Zz<|Rg<|Dd aG<|Dd (by exact aA rfl rfl lQ rfl (gT (g+1+1) (aL (l.take k)++(bI (s.size:Int)).data.toList++[58]) true s (by omega)))<|Zz<|Rg<|Dd (by exact bG rfl rfl rfl (show IntKind.i64.wrap ((k:Int)+1)=((k+1:Nat):Int)by rw[iY (by omega) (by omega)];omega)) ?_;refine Dd aG<|Zz ?_;refine⟨k+1,g+1+1+1,true,by omega,by omega,?_⟩;rw[hnx];exact(cD.wk (Ea<|Eb<|Eb<|Eb<|trivial) (Hc (fB rfl rfl)<|Hc (dO _ _)<|trivial) trivial)
 have hge:k=l.length:=by have:=aNs hc1;omega
 subst hge;rw[List.take_length];exact aY<|Sr<|Dd (by exact aA rfl rfl lP rfl (OL g (aL l) u (by omega)))<|Dd aM<|Zz<|aE<|Rt<|Qq
def kA(l:List GEdit):ByteArray×Bool:=if l.length=0 then(sNil,true)else((gL l).1,decide ((gL l).2=0))
theorem ZW(l:List GEdit)(H:aB)(hl:l.length<1099511627776)(he:∀e∈l,S9 e):aH Tryz.prog 72 [.pv (jF l)] H (fun r H'=>r=.tup [sv (kA l).1,bv (kA l).2]/\H'=H):=by
 refine Pu ?_;have hml:(l.map bC).length=l.length:=aNv _;have htx:=fun H=>ZX l H (by omega) he;have e0:l.length=0->kA l=(sNil,true):=fun h=>by rw[kA,aNu h]
 have e1:l.length≠0->kA l=((gL l).1,decide ((gL l).2=0)):=fun h=>by rw[kA,aNt h]
 obtain ⟨T,hT⟩:∃T,T=gL l:=⟨_,rfl⟩;rw[<-hT]at htx e1;refine Bd func72 rfl ntmps72<|Sr<|Dd aM<|Dd aM<|Zz<|Sq<|Sr<|Dd aG<|Dd (fZ dL)<|Dd dK<|Zz ?_;refine Cn ?_ ?_<;>intro hc1
 ·have h0:l.length=0:=by have:=aNr hc1;omega
  rw[e0 h0];exact Sr<|Dd aM<|Dd aM<|Zz<|aE<|Ru<|Qq
 have h0:l.length≠0:=by have:=aNs hc1;omega
 rw[e1 h0];exact aF<|Sr<|Dd aG<|Dd (by exact aA rfl rfl call118 rfl (htx _))<|Dd aG<|Dd eZ<|Dd eZ<|Dd aM<|Dd aM<|Zz<|Sr<|Dd aG<|Dd aG<|Dd dK<|Dd aM<|Dd aM<|Zz<|aE<|Ru<|Qq
def XM:ByteArray:=⟨#[114,101,99,111,114,100]⟩
def F4(r:GRec)(T:ByteArray):List IV:=[.t XM,.n r.kind,.n r.author,.n r.number,.n r.clock,.t r.branch,.l r.parents,.t T,.t r.target,.b r.yes,.n r.order,.t r.from']
def iT(r:GRec):Prop:=(pZ r.kind/\pZ r.author/\pZ r.number/\pZ r.clock/\pZ r.order)/\(r.branch.size<1099511627776/\r.target.size<1099511627776/\r.from'.size<1099511627776)/\KV r.parents/\(r.edits.length<1099511627776/\∀e∈r.edits,S9 e)/\qY r.sl/\YA r.priv
theorem aG8(h:iT r)(T:ByteArray):∀v∈F4 r T,okI v:=by
 obtain ⟨⟨a1,a2,a3,a4,a5⟩,_,b1,_⟩:=h;intro v hv;simp only[F4,aOH,aOL,or_false]at hv;rcases hv with rfl|rfl|rfl|rfl|rfl|rfl|rfl|rfl|rfl|rfl|rfl|rfl
 ·exact trivial
 ·exact a1
 ·exact a2
 ·exact a3
 ·exact a4
 ·exact trivial
 ·exact b1.1
 ·exact trivial
 ·exact trivial
 ·exact trivial
 ·exact a5
 exact trivial
theorem T9(T:ByteArray):(vK (F4 r T)).length=r.parents.length+12:=by simp[F4,vK,fI]
def pL(r:GRec):List ByteArray:=vK (F4 r (kA r.edits).1)
def UA(r:GRec):Nat:=YW (F4 r (kA r.edits).1)
theorem OX(r:GRec)(hr:iT r)(hp:r.parents.length<549755813888):aH Tryz.prog 39 [av (bU r)] [] (fun x H'=>x=.osl 971 (UA r) 0 (pL r).length/\H'=[(971,⟨UA r,1,9,bP (pL r)⟩)]):=by
 have htx:=fun H=>ZW r.edits H hr.2.2.2.1.1 hr.2.2.2.1.2;rw[pL,UA];obtain ⟨T,hT⟩:∃T,T=(kA r.edits).1:=⟨_,rfl⟩;obtain ⟨b,hb⟩:∃b,b=(kA r.edits).2:=⟨_,rfl⟩;rw[<-hT,<-hb]at htx;rw[<-hT];have hlen:=T9 (r:=r) T;have hadd:=ZF (F4 r T) (aG8 hr T) 0 [] (show 12<1099511627776 by decide) (by rw[hlen,List.length_nil];omega);rw[aON,List.nil_append]at hadd;refine Bd func39 rfl ntmps39<|Sr<|Dd (by exact cE (id:=1) rfl rfl rfl rfl rfl)<|Dd aM<|Zz<|Sr<|Dd (by exact bM (id:=970) rfl aK1 rfl rfl)<|Zz<|Sr<|Dd (bE C4)<|Dd (bQ nS)<|Dd (by exact aA rfl rfl call72 rfl (htx _))<|Dd aG<|Dd eZ<|Dd eZ<|Dd aM<|Dd aM<|Zz<|Sq ?_;refine fL.ent (E':=[(1,.ref 1 0 0 0),(3,.ref 970 0 0 0),(4,sv T)]) (H':=(971,⟨0,1,9,[]⟩)::(970,bx 1 72 [.osl 971 0 0 0])::(1,bx 21 30 ((bU r).map .pv))::[]) ?_ ?_
 ·exact(cD.nz 971 1 9 rfl rfl ⟨⟨_,rfl,(by exact Nz.same (by(simp;rfl)))⟩,⟨_,rfl,(by exact Nz.same (by(simp;rfl)))⟩,⟨_,rfl,(by exact Nz.same (by(simp;done)))⟩,trivial⟩ ⟨⟨_,rfl,rfl,rfl,rfl,(by exact .inr ⟨_,_,rfl,rfl,(by repeat(first|exact trivial|refine⟨(by exact Nz.own),?_⟩))⟩)⟩,⟨_,rfl,rfl,rfl,rfl,(by exact .inl ⟨rfl,(by(simp;done))⟩)⟩,trivial⟩ trivial)
 refine Rg<|Dd (by exact eM (p:=.str XM) rfl (cL underlying9 rfl) rfl)<|Dd (bE C5)<|Dd (bQ isAgg3)<|Dd (by exact eM (p:=.int .i64 r.kind) rfl (cL underlying3 rfl) rfl)<|Dd (bE tO)<|Dd (bQ isAgg3)<|Dd (by exact eM (p:=.int .i64 r.author) rfl (cL underlying3 rfl) rfl)<|Dd (bE pN)<|Dd (bQ isAgg3)<|Dd (by exact eM (p:=.int .i64 r.number) rfl (cL underlying3 rfl) rfl)<|Dd (bE AZ)<|Dd (bQ isAgg3)<|Dd (by exact eM (p:=.int .i64 r.clock) rfl (cL underlying3 rfl) rfl)<|Dd (bE AY)<|Dd (bQ isAgg9)<|Dd (by exact eM (p:=.str r.branch) rfl (cL underlying9 rfl) rfl)<|Dd (bE pM)<|Dd (bQ aJ)<|Dd (by exact eM (p:=aS r.parents) rfl (cL aC rfl) rfl)<|Dd aG<|Dd (by exact eM (p:=.str T) rfl (cL underlying9 rfl) rfl) ?_;refine Dd (bE AX)<|Dd (bQ isAgg9)<|Dd (by exact eM (p:=.str r.target) rfl (cL underlying9 rfl) rfl)<|Dd (bE GP)<|Dd (bQ uC)<|Dd (by exact eM (p:=.bool r.yes) rfl (cL dV rfl) rfl)<|Dd (bE C3)<|Dd (bQ isAgg3)<|Dd (by exact eM (p:=.int .i64 r.order) rfl (cL underlying3 rfl) rfl)<|Dd (bE yK)<|Dd (bQ isAgg9)<|Dd (by exact eM (p:=.str r.from') rfl (cL underlying9 rfl) rfl)<|Dd (by exact aQ ((F4 r T).map vL) rfl uM rfl rfl rfl rfl rfl (LZ (F4 r T)))<|Dd (by exact aA rfl rfl uD rfl (WL hadd ⟨rfl,rfl,trivial⟩ (by simp;rfl)))<|Zz<|Sr<|Dd (bQ B6)<|Dd aM<|Zz<|aE ?_;refine dC (H':=[(971,⟨YW (F4 r T),1,9,bP (vK (F4 r T))⟩)]) (.inr rfl) rfl (aW rfl) (Fin.wk (by(simp;rfl)) (Hc (aU _ _)<|trivial) trivial) ?_;exact Qq
end Go.Proofs.YtmdicgjnmfolfaaGreatDoor
section
namespace Go.Proofs
open Go.RowKit Go.Sort Go.Shelf
def aNk:Go.Shelf.Ren:=⟨fun|172=>114|244=>151|245=>152|247=>189|279=>190|280=>191|281=>192|282=>193|287=>224|316=>225|171=>108|205=>226|321=>257|322=>258|243=>146|246=>181|283=>215|284=>216|285=>217|286=>218|129=>250|317=>249|318=>251|319=>252|320=>253|337=>271|338=>272|n=>n,fun|9=>9|3=>3|75=>139|76=>140|4=>4|5=>5|167=>206|37=>124|0=>0|85=>207|2=>2|168=>209|53=>122|175=>237|46=>125|210=>240|127=>174|145=>268|143=>266|21=>21|171=>230|173=>233|212=>257|51=>258|20=>20|213=>259|232=>282|233=>283|80=>75|n=>n,fun|15=>1|16=>2|17=>3|18=>6|19=>7|n=>n⟩
theorem aNp:Go.Proofs.LaysC.n172 Tryz.prog aNk:={
  mixed:=by kernel_rfl
  f129:=Tryz.func250.trans (congrArg some (by kernel_rfl))
  f171:=Tryz.func108.trans (congrArg some (by kernel_rfl))
  f172:=Tryz.func114.trans (congrArg some (by kernel_rfl))
  f205:=Tryz.func226.trans (congrArg some (by kernel_rfl))
  f243:=Tryz.func146.trans (congrArg some (by kernel_rfl))
  f244:=Tryz.func151.trans (congrArg some (by kernel_rfl))
  f245:=Tryz.func152.trans (congrArg some (by kernel_rfl))
  f246:=Tryz.func181.trans (congrArg some (by kernel_rfl))
  f247:=Tryz.func189.trans (congrArg some (by kernel_rfl))
  f279:=Tryz.func190.trans (congrArg some (by kernel_rfl))
  f280:=Tryz.func191.trans (congrArg some (by kernel_rfl))
  f281:=Tryz.func192.trans (congrArg some (by kernel_rfl))
  f282:=Tryz.func193.trans (congrArg some (by kernel_rfl))
  f283:=Tryz.func215.trans (congrArg some (by kernel_rfl))
  f284:=Tryz.func216.trans (congrArg some (by kernel_rfl))
  f285:=Tryz.func217.trans (congrArg some (by kernel_rfl))
  f286:=Tryz.func218.trans (congrArg some (by kernel_rfl))
  f287:=Tryz.func224.trans (congrArg some (by kernel_rfl))
  f316:=Tryz.func225.trans (congrArg some (by kernel_rfl))
  f317:=Tryz.func249.trans (congrArg some (by kernel_rfl))
  f318:=Tryz.func251.trans (congrArg some (by kernel_rfl))
  f319:=Tryz.func252.trans (congrArg some (by kernel_rfl))
  f320:=Tryz.func253.trans (congrArg some (by kernel_rfl))
  f321:=Tryz.func257.trans (congrArg some (by kernel_rfl))
  f322:=Tryz.func258.trans (congrArg some (by kernel_rfl))
  f337:=Tryz.func271.trans (congrArg some (by kernel_rfl))
  f338:=Tryz.func272.trans (congrArg some (by kernel_rfl))
  t0:=aFV
  a0:=aNc
  z0:=aNN
  v0:=aHu
  t2:=Tryz.underlying2
  a2:=Tryz.isAgg2
  z2:=Tryz.sizeOf2
  v2:=Tryz.zeroValue2
  t3:=Tryz.underlying3
  a3:=Tryz.isAgg3
  z3:=Tryz.sizeOf3
  v3:=sP
  t4:=dV
  a4:=uC
  z4:=Tryz.sizeOf4
  v4:=BB
  t5:=dU
  a5:=zO
  z5:=bV
  v5:=BA
  t9:=Tryz.underlying9
  a9:=Tryz.isAgg9
  z9:=Tryz.sizeOf9
  v9:=sO
  t20:=FS
  a20:=qW
  z20:=aMB
  v20:=aFU
  t21:=Tryz.underlying21
  a21:=Tryz.isAgg21
  z21:=Tryz.sizeOf21
  v21:=Tryz.zeroValue21
  t37:=cJ
  a37:=cS
  z37:=mX
  v37:=Tryz.zeroValue124
  t46:=DL
  a46:=WV
  z46:=SZ
  v46:=FP
  t51:=Tryz.underlying258
  a51:=Tryz.isAgg258
  z51:=Tryz.sizeOf258
  v51:=Tryz.zeroValue258
  t53:=iL
  a53:=HD
  z53:=DN
  v53:=FQ
  t75:=nQ
  a75:=Tryz.isAgg139
  z75:=Tryz.sizeOf139
  v75:=Tryz.zeroValue139
  t76:=Tryz.underlying140
  a76:=Tryz.isAgg140
  z76:=Tryz.sizeOf140
  v76:=Tryz.zeroValue140
  t85:=Tryz.underlying207
  a85:=Tryz.isAgg207
  z85:=Tryz.sizeOf207
  v85:=Tryz.zeroValue207
  t127:=tZ
  a127:=Tryz.isAgg174
  z127:=Tryz.sizeOf174
  v127:=Tryz.zeroValue174
  t143:=Tryz.underlying266
  a143:=Tryz.isAgg266
  z143:=Tryz.sizeOf266
  v143:=Tryz.zeroValue266
  t145:=Tryz.underlying268
  a145:=Tryz.isAgg268
  z145:=Tryz.sizeOf268
  v145:=Tryz.zeroValue268
  t167:=Tryz.underlying206
  a167:=Tryz.isAgg206
  z167:=Tryz.sizeOf206
  v167:=Tryz.zeroValue206
  t168:=Tryz.underlying209
  a168:=Tryz.isAgg209
  z168:=Tryz.sizeOf209
  v168:=Tryz.zeroValue209
  t171:=Tryz.underlying230
  a171:=Tryz.isAgg230
  z171:=Tryz.sizeOf230
  v171:=Tryz.zeroValue230
  t173:=Tryz.underlying233
  a173:=Tryz.isAgg233
  z173:=Tryz.sizeOf233
  v173:=Tryz.zeroValue233
  t175:=Tryz.underlying237
  a175:=Tryz.isAgg237
  z175:=Tryz.sizeOf237
  v175:=Tryz.zeroValue237
  t210:=Tryz.underlying240
  a210:=Tryz.isAgg240
  z210:=Tryz.sizeOf240
  v210:=Tryz.zeroValue240
  t212:=Tryz.underlying257
  a212:=Tryz.isAgg257
  z212:=Tryz.sizeOf257
  v212:=Tryz.zeroValue257
  t213:=Tryz.underlying259
  a213:=Tryz.isAgg259
  z213:=Tryz.sizeOf259
  t232:=Tryz.underlying282
  a232:=Tryz.isAgg282
  z232:=Tryz.sizeOf282
  v232:=Tryz.zeroValue282
  t233:=Tryz.underlying283
  a233:=Tryz.isAgg283
  z233:=Tryz.sizeOf283
  v233:=Tryz.zeroValue283
  g15:=by kernel_rfl
  g16:=by kernel_rfl
  g17:=by kernel_rfl
  g18:=by kernel_rfl
  g19:=by kernel_rfl
  t80:=Tryz.underlying75
  a80:=Tryz.isAgg75
  z80:=Tryz.sizeOf75
  v80:=Tryz.zeroValue75
  i0:=by kernel_rfl
  i2:=by kernel_rfl
  i3:=by kernel_rfl
  i4:=by kernel_rfl
  i5:=by kernel_rfl
  i9:=by kernel_rfl
  i20:=by kernel_rfl
  i21:=by kernel_rfl
  i37:=by kernel_rfl
  i46:=by kernel_rfl
  i51:=by kernel_rfl
  i53:=by kernel_rfl
  i75:=by kernel_rfl
  i76:=by kernel_rfl
  i80:=by kernel_rfl
  i85:=by kernel_rfl
  i127:=by kernel_rfl
  i143:=by kernel_rfl
  i145:=by kernel_rfl
  i167:=by kernel_rfl
  i168:=by kernel_rfl
  i171:=by kernel_rfl
  i173:=by kernel_rfl
  i175:=by kernel_rfl
  i210:=by kernel_rfl
  i212:=by kernel_rfl
  i232:=by kernel_rfl
  i233:=by kernel_rfl
  m15:=by kernel_rfl
  m16:=by kernel_rfl
  m17:=by kernel_rfl
  m18:=by kernel_rfl
  m19:=by kernel_rfl
  c0:=by kernel_rfl
  c2:=by kernel_rfl
  c3:=by kernel_rfl
  c4:=by kernel_rfl
  c5:=by kernel_rfl
  c9:=by kernel_rfl
  c20:=by kernel_rfl
  c21:=by kernel_rfl
  c37:=by kernel_rfl
  c46:=by kernel_rfl
  c51:=by kernel_rfl
  c53:=by kernel_rfl
  c75:=by kernel_rfl
  c76:=by kernel_rfl
  c80:=by kernel_rfl
  c85:=by kernel_rfl
  c127:=by kernel_rfl
  c143:=by kernel_rfl
  c145:=by kernel_rfl
  c167:=by kernel_rfl
  c168:=by kernel_rfl
  c171:=by kernel_rfl
  c173:=by kernel_rfl
  c175:=by kernel_rfl
  c210:=by kernel_rfl
  c212:=by kernel_rfl
  c213:=by kernel_rfl
  c232:=by kernel_rfl
  c233:=by kernel_rfl}
end Go.Proofs
namespace Go.Proofs.YtmdicgjnmfolfaaGreatDoor
open Go.Proofs.Tryz
open Go.Abs
theorem JI(s:ByteArray)(hs:s.size<1099511627776)(H:aB):aH Tryz.prog 114 [sv s] H (fun r H'=>r=.tup [iv (mO s).1,.pv (mO s).2]/\H'=H) :=Go.Abs.atoi_c aNp (G1:=1) (G2:=2) (by unfold R8;exact .tail _ (.tail _ (.head _))) (by kernel_rfl) (by unfold R8;exact .tail _ (.head _)) (by kernel_rfl) s hs H
end Go.Proofs.YtmdicgjnmfolfaaGreatDoor
end
namespace Go.Proofs.YtmdicgjnmfolfaaGreatDoor
open Go.Proofs.Tryz
open Go.Abs
theorem UQ(s:ByteArray)(H:aB)(hs:s.size<1099511627776):aH Tryz.prog 156 [sv s] H (fun r H'=>r=iv (NY s.data.toList)/\H'=H):=by
 refine Pu ?_;have hA:=JI s hs;unfold mO at hA;unfold NY;cases h:Lib.atoiAll s.data.toList with
 |ok v =>
  simp only[h]at hA;refine Bd aNP rfl aMD<|Sr<|Dd aM<|Zz<|Sr<|Dd aG<|Dd (by exact aA rfl rfl vW rfl (hA _))<|Dd aG<|Dd eZ<|Dd eZ<|Dd aM<|Dd aM<|Zz<|Sq<|Sr<|Dd aG<|Dd (by exact KP rfl nQ rfl)<|Zz ?_;refine Cn ?_ ?_<;>intro hc1
  ·cases hc1
  exact aF<|Sr<|Dd aG<|Dd aM<|Zz<|aE<|Rt<|Qq
 |range =>
  simp only[h]at hA;refine Bd aNP rfl aMD<|Sr<|Dd aM<|Zz<|Sr<|Dd aG<|Dd (by exact aA rfl rfl vW rfl (hA _))<|Dd aG<|Dd eZ<|Dd eZ<|Dd aM<|Dd aM<|Zz<|Sq<|Sr<|Dd aG<|Dd (by exact CT rfl nQ rfl)<|Zz ?_;refine Cn ?_ ?_<;>intro hc1
  ·exact Sr<|Dd aM<|Zz<|aE<|Rt<|Qq
  cases hc1
 |_ =>
  simp only[h]at hA;refine Bd aNP rfl aMD<|Sr<|Dd aM<|Zz<|Sr<|Dd aG<|Dd (by exact aA rfl rfl vW rfl (hA _))<|Dd aG<|Dd eZ<|Dd eZ<|Dd aM<|Dd aM<|Zz<|Sq<|Sr<|Dd aG<|Dd (by exact CT rfl nQ rfl)<|Zz ?_;refine Cn ?_ ?_<;>intro hc1
  ·exact Sr<|Dd aM<|Zz<|aE<|Rt<|Qq
  cases hc1
end Go.Proofs.YtmdicgjnmfolfaaGreatDoor
