/-
  Parts of the proof: rules of a program logic, contracts, plain laws. Conditions: each theorem's own.
-/
import Derived.Test.YtmdicgjnmfolfaaGreatDoorKR7M11
set_option linter.unusedVariables false
set_option linter.unusedSimpArgs false
set_option maxRecDepth 100000
set_option maxHeartbeats 8000000
namespace Go.Proofs
open Tryz
theorem aBu:type_of% call112:=call112
theorem aBo:type_of% call166:=call166
theorem aBk:type_of% call207:=call207
theorem jB:type_of% call99:=call99
end Go.Proofs
namespace Go.Proofs.YtmdicgjnmfolfaaGreatDoor
open Go.Proofs.Tryz
open Go.Abs Go.Lib
def wb(s:ByteArray)(k:Nat):Bool:=!(decide (bH s k<48)||decide (57<bH s k))
def WA(s:ByteArray):Nat->Int
 |0=>0
 |k+1=>10*WA s k+(bH s k - 48)
def HW(s:ByteArray):Int:=if s.size=0 then -1 else if(List.range s.size).all (wb s)&&decide (s.size<=7)then WA s s.size else -1
theorem ml{s}:∀ {k},(∀j,j<k->wb s j=true)->0<=WA s k/\WA s k<10 ^ k
 |0,_=>⟨Int.le_refl 0,by show 0<1;omega⟩
 |k+1,h=>by
  obtain ⟨h1,h2⟩:=ml (k:=k) fun j hj=>h j (by omega);have a:=h k (by omega);rw[wb,aCy,aDB,aCn,aCn]at a;rw[WA];omega
theorem Yl{k}(h:k<=7):(10:Int) ^ k<=10000000:=by
 have a:k=0\/k=1\/k=2\/k=3\/k=4\/k=5\/k=6\/k=7:=by omega
 rcases a with rfl|rfl|rfl|rfl|rfl|rfl|rfl|rfl<;>decide
theorem TE(s:ByteArray)(H:aG)(hs:s.size<1099511627776):RC 165 [sv s] (iv (HW s)) H:=by
 refine Pu ?_;refine Bd func165 rfl ntmps165<|Sz aH<|Sz aH<|Sq<|Sz aH<|aE ?_;refine bJ (σ:=Nat) (fun k=>([(0,sv s),(3,iv (WA s k)),(4,iv (k:Int))],[])) (fun k=>k<=s.size/\(∀j,j<k->wb s j=true)/\(0<k->s.size<=7)) (fun k=>s.size - k) 0 ⟨aCw _,fun j q=>absurd q (Nat.not_lt_zero _),fun h=>absurd h (Nat.lt_irrefl 0)⟩ ?_ ?_
 ·exact Wk
 rintro k ⟨hk,t,h7⟩;refine Sq<|Sd aC<|Dd aC<|Dd (gF underlying9)<|Zd cJ ?_;refine Cn ?_ ?_<;>intro d
 ·have hlt:k<s.size:=by have:=aCb d;omega
  refine aA<|Sq<|aE<|Sq<|Sq ?_;refine aQ (t:=25) (n:=17) (X:=(decide (bH s k<48)||decide (57<bH s k))||decide (7<(s.size:Int))) ?_ ?_
  ·all_goals refine Dd aC ?_
   all_goals refine Dd aC<|Dd (ky underlying9)<|Dd cJ<|Dm ?_<;>(refine Sp 15 (fun p=>?_) fun p=>?_)<;>(first|contradiction|refine Fo<|Fo<|Fo<|Fo ?_|refine On aC<|On aC<|On (ky underlying9)<|On gX ?_)<;>refine Dd cD<|Dm ?_<;>(refine Sp 21 (fun o=>?_) fun o=>?_)<;>(first|contradiction|refine Fo<|Fo<|Fo ?_|refine On aC<|On (gF underlying9)<|On gX ?_)<;>refine Zd cD ?_<;>(exact⟨⟨_,rfl,by grind⟩,rfl,rfl,rfl⟩)
  refine Cn ?_ ?_<;>intro c
  ·have hbad:wb s k=false\/7<s.size:=by have h:=c;rw[wb];simp only[Bool.or_eq_true,aCm]at h;rcases h with h|h;exact .inl (by grind);exact .inr (by omega)
   have f:HW s = -1:=by
    rw[HW,aCd (by omega),aCd ?_]
    grind
   rw[f];exact Sz aH<|aB<|Rt<|Qq
  have b:wb s k=true/\s.size<=7:=by have h:=c;rw[aDB,aCn]at h;exact⟨by rw[wb,h.1];rfl,by omega⟩
  have hbd:=ml t;have hp:=Yl (k:=k) (by omega);have m:=b.1;rw[wb,aCy,aDB,aCn,aCn]at m;have n:∀j,j<k+1->wb s j=true:=fun j q=>by
   grind
  refine aA<|Rd aC<|Dd (by exact iY rfl rfl rfl (by exact lI (by omega) (by omega)))<|Dd aC<|Dd aC<|Dd (ky underlying9)<|Dd (by exact dB rfl rfl rfl (by exact wu8 (by omega) (by omega)))<|Dd (by exact fA rfl eB underlying3 rfl (by exact lI (by omega) (by omega)))<|Dd iF<|Zd aH<|Rd aC<|Dd iF<|Da ?_;exact⟨k+1,⟨by omega,n,fun _=>b.2⟩,by omega,Wk⟩
 have l:k=s.size:=by have:=aCc d;omega
 subst l;refine aS<|Sq<|Sd aC<|Zd vF ?_;refine Cn ?_ ?_<;>intro g
 ·have i:s=⟨#[]⟩:=aCb g;have f:HW s = -1:=by rw[i];rfl
  rw[f];exact Sz aH<|aB<|Rt<|Qq
 have i:s.size≠0:=fun e=>aCc g (ja (List.length_eq_zero_iff.1 (by simp_all)));have f:HW s=WA s s.size:=by
  rw[HW,aCd i,aCe ?_]
  grind
 rw[f];exact aA<|Sd aC<|Zd aH<|aB<|Rt<|Qq
def HV(s:ByteArray):Nat->Int
 |0=>0
 |k+1=>10*HV s k+IntKind.u8.wrap (bH s k - 48)
theorem Pk(x):0<=IntKind.u8.wrap x/\IntKind.u8.wrap x<=255:=by have:IntKind.u8.wrap x=x % 256:=rfl;omega
theorem ZA(s):∀k,k<=7->0<=HV s k/\HV s k+255<=255*10 ^ k
 |0,_=>⟨Int.le_refl 0,by show 0+255<=255*1;omega⟩
 |k+1,h=>by
  obtain ⟨h1,h2⟩:=ZA s k (by omega);have h3:=Pk (bH s k - 48);rw[HV];omega
theorem O5(s:ByteArray)(H:aG)(hs:s.size<1099511627776):RC 206 [sv s] (iv (HV s (min s.size 7))) H:=by
 refine Pu ?_;refine Bd func206 rfl ntmps206<|Sz aH<|Sz aH<|Sq<|Sz aH<|aE ?_;refine bJ (σ:=Nat) (fun k=>([(0,sv s),(3,iv (HV s k)),(4,iv (k:Int))],[])) (fun k=>k<=s.size/\k<=7) (fun k=>s.size - k) 0 ⟨aCw _,aCw _⟩ ?_ ?_
 ·exact Wk
 rintro k ⟨hk,d⟩;refine Sq<|Sq ?_;refine aQ (t:=12) (n:=9) (X:=decide ((k:Int)<(s.size:Int))&&decide ((k:Int)<7)) ?_ ?_
 ·all_goals refine Dd aC ?_
  all_goals refine Dd aC<|Dd (gF underlying9)<|Dd cJ<|Dm ?_<;>(refine Sp 9 (fun e=>?_) fun e=>?_)<;>(first|contradiction|refine Fo<|Fo ?_|refine On aC<|On cJ ?_)<;>refine Zd cD ?_<;>(exact⟨⟨_,rfl,by grind⟩,rfl,rfl,rfl⟩)
 refine Cn ?_ ?_<;>intro c
 ·have b:k<s.size/\k<7:=by have h:=c;rw[aCo,aCm,aCm]at h;omega
  obtain ⟨b,hl7⟩:=b;have hbd:=ZA s k d;have hp:=Yl d;have hw:=Pk (bH s k - 48);refine aA<|Sq<|aE<|Rd aC<|Dd (by exact iY rfl rfl rfl (by exact lI (by omega) (by omega)))<|Dd aC<|Dd aC<|Dd (ky underlying9)<|Dd (by exact dB rfl rfl rfl rfl)<|Dd (by exact fA rfl eB underlying3 rfl (by exact lI (by omega) (by omega)))<|Dd iF<|Zd aH<|Rd aC<|Dd iF<|Da ?_;exact⟨k+1,⟨by omega,by omega⟩,by omega,Wk⟩
 have hge:k=min s.size 7:=by have h:=c;rw[Bool.and_eq_false_iff,aCn,aCn]at h;omega
 refine aS<|Sd aC<|Zd aH<|aB<|Rt ?_
 simp_all
def el(s:ByteArray)(f:Nat):List ByteArray:=(dP 32 (s.data.toList.drop f)).map ofL
theorem qt(s):cL s=el s 0:=rfl
theorem Eo{s}{f i}(hf:f<=i)(hi:i<s.size):s.data.toList.drop f=(s.data.toList.drop f).take (i - f)++oE s i::s.data.toList.drop (i+1):=by
 have hl:=bC s;have a:(s.data.toList.drop f).drop (i - f)=oE s i::s.data.toList.drop (i+1):=by
  rw[List.drop_drop,show f+(i - f)=i by omega,List.drop_eq_getElem_cons _];rw[oE,aCk (by omega)];rfl
 rw[<-a,List.take_append_drop]
theorem Rq{s}{f i}(d:f<=i)(hi:i<s.size)(e:oE s i=32)(b:32∉(s.data.toList.drop f).take (i - f)):el s f=ofL ((s.data.toList.drop f).take (i - f))::el s (i+1):=by have h:=Eo d hi;rw[e]at h;have c:=congrArg (fun l=>(dP 32 l).map ofL) h;simp[jI b,List.map_cons]at c;exact c
theorem Jf{s}{f}(a:32∉s.data.toList.drop f):el s f=[ofL (s.data.toList.drop f)]:=by rw[el,qW a];rfl
theorem Lj{s}{f i}(hf:f<=i)(hi:i<s.size)(b:oE s i≠32)(hno:32∉(s.data.toList.drop f).take (i - f)):32∉(s.data.toList.drop f).take (i+1 - f):=by
 rw[show i+1 - f=(i - f)+1 by omega,List.take_add_one,];intro h;rcases List.mem_append.1 h with h|h
 ·grind
 exact b (by rw[oE];simp_all)
theorem zp(s:ByteArray)(H:aG)(hs:s.size<1000000000):RC 163 [sv s] (.pv (aU (cL s))) H:=by
 refine Pu ?_;have hl:=bC s;refine Bd func163 rfl ntmps163<|Sz aH<|Sz (by exact fF (id:=906) (sz:=1) (ty:=9) rfl rfl rfl)<|Sz aH<|Sq<|Sz aH<|aE ?_;refine A6 (fun(i f:Nat) (a:List ByteArray)=>([(0,sv s),(3,.osl 906 a.length 0 a.length),(4,iv (f:Int)),(5,iv (i:Int))],[(906,⟨a.length,1,9,RQ a⟩)])) (fun i f a=>i<=s.size+1/\f<=i/\a.length<=i/\(i<=s.size->cL s=a++el s f/\(32:UInt8)∉(s.data.toList.drop f).take (i - f))/\(i=s.size+1->cL s=a)) (fun i _ _=>s.size+1 - i) 0 0 [] ⟨by omega,aCl _,aCl _,fun _=>⟨qt s,by simp⟩,fun h=>by omega⟩ ?_ ?_
 ·exact(cQ.wk (Eb<|Ea<|Eb<|Eb<|trivial) (Hc (lD _ _)<|trivial) trivial)
 rintro i f a ⟨hi,x,hol,hA,hB⟩;refine Sq<|Sd aC<|Dd aC<|Dd (gF underlying9)<|Zd GP ?_;refine Cn ?_ ?_<;>intro o
 ·have d:i<=s.size:=by have:=aCb o;omega
  obtain ⟨k,g⟩:=hA d;have j:bH s i=((oE s i).toNat:Int):=sO s i;refine aA<|Sq<|aE<|Sq ?_;refine aQ (t:=21) (n:=11) (X:=decide ((i:Int)=(s.size:Int))||decide (bH s i=32)) ?_ ?_
  ·all_goals refine Dd aC ?_
   all_goals refine Dd aC<|Dd (gF underlying9)<|Dd cF<|Dm ?_<;>(refine Sp 16 (fun m=>?_) fun m=>?_)<;>(first|contradiction|refine Fo<|Fo<|Fo<|Fo ?_|refine On aC<|On aC<|On (by exact cR rfl underlying9 rfl rfl (by omega) (by exact aCq _) (by have:=aCc m;omega) rfl)<|On cF ?_)<;>refine Zd cD ?_<;>(exact⟨⟨_,rfl,by simp_all⟩,rfl,rfl,rfl⟩)
  refine Cn ?_ ?_<;>intro l
  ·have t:i=s.size\/bH s i=32:=by have h:=l;rw[Bool.or_eq_true,aCm,aCm]at h;rcases h with h|h;exact .inl (by omega);exact .inr h
   obtain ⟨w,q⟩:∃w,w=ofL ((s.data.toList.drop f).take (i - f)):=⟨_,rfl⟩;have z:s.extract f i=w:=by rw[q];exact ja (by rw[jS,dD])
   have v:(a++[w]).length=a.length+1:=by simp_all
   have hN:(i+1<=s.size->cL s=(a++[w])++el s (i+1)/\(32:UInt8)∉(s.data.toList.drop (i+1)).take (i+1 - (i+1)))/\(i+1=s.size+1->cL s=a++[w]):=by
    constructor
    ·intro h;have u:oE s i=32:=by
      rcases t with e|e
      ·omega
      rw[j]at e;exact UInt8.toNat_inj.1 (by grind)
     refine⟨?_,by simp_all⟩;rw[k,Rq x (by omega) u g,q,List.append_assoc];rfl
    intro h;have e:(s.data.toList.drop f).take (i - f)=s.data.toList.drop f:=List.take_of_length_le (by rw[aCu];omega);rw[e]at g q;rw[k,Jf g,q]
   refine Sd aC<|Dd aC<|Dd aC<|Dd aC<|Dd (by exact cB (l:=f) (h:=i) rfl underlying9 rfl rfl rfl x d z)<|Dd (by exact aN [encStr w] rfl bT rfl rfl rfl rfl rfl (by intro r p;rw[aCi]at p;subst p;rfl))<|Dd (by exact cG (ps:=[encStr w]) rfl bT zT rfl rfl rfl rfl rfl (VU _) rfl (by intro r p;rw[aCi]at p;subst p;rfl) (m:=1) rfl (by omega) rfl (VW _ w))<|Zd aH<|Rd aC<|Dd iF<|Zd aH<|Rd aC<|Dd iF<|Da ?_;refine⟨i+1,i+1,a++[w],⟨by omega,aCl _,by omega,hN.1,hN.2⟩,by omega,?_⟩;rw[v];exact(cQ.wk (Eb<|Ea<|Eb<|Eb<|trivial) (Hc (lD _ _)<|trivial) trivial)
  have t:i<s.size/\bH s i≠32:=by have h:=l;rw[aDB,aCn,aCn]at h;exact⟨by omega,h.2⟩
  have u:oE s i≠32:=fun e=>t.2 (by rw[j,e];rfl);have n:=Lj x t.1 u g;refine aA<|Rd aC<|Dd iF<|Da ?_;exact⟨i+1,f,a,⟨by omega,by omega,by omega,fun _=>⟨k,n⟩,fun h=>by omega⟩,by omega,(cQ.wk (Eb<|Ea<|Eb<|Eb<|trivial) (Hc (lD _ _)<|trivial) trivial)⟩
 have d:i=s.size+1:=by have:=aCc o;omega
 have y:=hB d;rw[y];refine aS<|Sd aC<|Zd aH<|aB ?_;refine dA (H':=[]) (.inr rfl) rfl (aJ rfl) (Fin.fz (id:=906) (a.map encStr) rfl (zd _) (.osl (kX encStr _)) rfl trivial trivial) ?_;exact Qq
def xu(b c:GFound):Bool:=decide (b.text=⟨#[61]⟩)&&decide (c.kind=3)
abbrev Ty(a c:GFound):GTag:=⟨a.text,c.text⟩
def JJ:List GTag->List GFound->List GTag×Bool
 |acc,[]=>(acc,true)
 |acc,a::b::c::r=>if xu b c then JJ (acc++[Ty a c]) r else([],false)
 |_,[_]=>([],false)
 |_,[_,_]=>([],false)
theorem Fin.tg2{H1}{id g n}{ob}(l)(v)(b:H1.get id=some ob)(c:ob.g=g)(a:ob.rows=rM l)(d:n=l.length)(e:Clo [] v):
  Fin [] H1 (.tup [.osl id g 0 n,v]) [] (.tup [.pv (oG l),v]):=by
 subst c d;exact Fin.fz _ b (a.trans (by rw[List.map_map];rfl)) (.tup rfl (cA (.osl (kX _ l)) (cA (.same e) mD))) rfl trivial trivial
theorem aAT{T:List GFound}{i}{a b c}(k:T[i]?=some a)(d:T[i+1]?=some b)(h:T[i+2]?=some c):T.drop i=a::b::c::T.drop (i+3):=by obtain ⟨m,j⟩:=aCj.1 k;obtain ⟨l,f⟩:=aCj.1 d;obtain ⟨e,g⟩:=aCj.1 h;rw[List.drop_eq_getElem_cons m,List.drop_eq_getElem_cons l,List.drop_eq_getElem_cons e,j,f,g]
theorem rp{acc}{T}(a:0<T.length)(h:T.length<3):JJ acc T=([],false):=by
 match T with
 | []=>exact absurd a (Nat.lt_irrefl 0)
 | [_]=>rfl
 | [_,_]=>rfl
 |_::_::_::_=>rw[aCh,aCh,aCh]at h;omega
theorem J3(T:List GFound)(H:aG)(hT:T.length<1000000000):RC 207 [.pv (BP T)] (.tup [.pv (oG (JJ [] T).1),bv (JJ [] T).2]) H:=by
 refine Pu ?_;have hmT:(T.map encTok).length=T.length:=aCf _;refine Bd func207 rfl ntmps207<|Sd aH<|Zd aH<|Sz (by exact fF (id:=906) (sz:=2) (ty:=199) rfl rfl rfl)<|Sq<|Sz aH<|aE ?_;refine fZ (fun(i:Nat) (A:List GTag)=>([(0,.pv (BP T)),(4,.osl 906 A.length 0 A.length),(5,iv (i:Int))],[(906,⟨A.length,2,199,rM A⟩)])) (fun i A=>i<=T.length/\A.length<=i/\JJ [] T=JJ A (T.drop i)) (fun i _=>T.length - i) 0 [] ⟨aCw _,aCl _,rfl⟩ ?_ ?_
 ·exact(cQ.wk (Eb<|Ea<|Eb<|trivial) (Hc (kC _ _)<|trivial) trivial)
 rintro i A ⟨hi,hA,g⟩;refine Sq<|Sd aC<|Dd aC<|Dd (eR cN)<|Zd cJ ?_;refine Cn ?_ ?_<;>intro l
 ·have t:i<T.length:=by have:=aCb l;omega
  obtain ⟨a,B⟩:=aT t;have hia:=cE (f:=encTok) B;by_cases E:i+2<T.length
  ·obtain ⟨b,C⟩:=aT (l:=T) (k:=i+1) (by omega);obtain ⟨c,z⟩:=aT E;have p:=cE (f:=encTok) C;have o:=cE (f:=encTok) z;have q:=aAT B C z;rw[q,JJ]at g;have x:¬ (decide (((T.map encTok).length:Int)<=(i:Int)+2)=true):=by grind
   refine aA<|Sq<|aE<|Sq<|Sq ?_;refine aQ (t:=34) (n:=25) (X:=!xu b c) ?_ ?_
   ·all_goals refine Dd aC ?_
    all_goals refine Dd iF<|Dd aC<|Dd (eR cN)<|Dd CX<|Dm ?_<;>(refine Sp 17 (fun k=>?_) fun k=>?_)<;>(try contradiction)<;>refine On aC<|On aC<|On iF<|On (by exact bP rfl gR rfl rfl (by omega) (show ((i:Int)+1).toNat=i+1 by omega) p rfl)<|On (C2 gU)<|On (fO isAgg9)<|On DH<|Dd cD<|Dm ?_<;>(refine Sp 26 (fun j=>?_) fun j=>?_)<;>(first|contradiction|refine Fo<|Fo<|Fo<|Fo<|Fo<|Fo<|Fo ?_|refine On aC<|On aC<|On iF<|On (by exact bP rfl gR rfl rfl (by omega) (show ((i:Int)+2).toNat=i+2 by omega) o rfl)<|On (C2 uA)<|On (fO isAgg3)<|On rI ?_)<;>refine Zd cD ?_<;>(exact⟨⟨_,rfl,by(rw[xu];simp_all)⟩,rfl,rfl,rfl⟩)
   refine Cn ?_ ?_<;>intro n
   ·have v:xu b c=false:=by have h:=n;rwa [aCy]at h
    rw[v,aCd (by simp)]at g;rw[g];refine Sd aH<|Zd aH<|aB ?_;refine iN (H':=[]) (.inr rfl) rfl (aJ rfl) (aJ rfl) (Fin.wk (r:=.tup [.pv (oG []),bv false]) (by simp) trivial trivial) ?_;exact Qq
   have v:xu b c=true:=by have h:=n;rwa [Bool.not_eq_false']at h
   rw[v,aCe rfl]at g;have s:(A++[Ty a c]).length=A.length+1:=by simp_all
   refine aA<|aL follows<|Cs (fun _ _=>aC)<|Cs (fun _ _=>aC)<|Cs (fun _ _=>aC)<|Cs (fun _ _=>(jE gR))<|Cs (fun _ _=>(C2 gU))<|Cs (fun _ _=>(fO isAgg9))<|Cs (fun _ _=>aC)<|Cs (fun _ _=>aC)<|Cs (fun _ _=>iF)<|Cs (fun D u=>by exact bP rfl gR rfl rfl (by omega) (show ((i:Int)+2).toNat=i+2 by omega) o rfl)<|Cs (fun _ _=>(C2 gU))<|Cs (fun _ _=>(fO isAgg9))<|Cs (fun _ _=>(nP Fl))<|Cs (fun D u=>by exact aN [bM (Ty a c)] rfl jX rfl rfl rfl rfl rfl (by intro r m;rw[aCi]at m;subst m;rfl)) ?_;refine gW (r:=⟨_,none,[_]⟩) (DStep.plain rfl (fun D u=>by exact cG (ps:=[bM (Ty a c)]) rfl jX Em rfl ((u _ rfl).trans rfl) rfl rfl rfl (F9 _) rfl (by intro r m;rw[aCi]at m;subst m;rfl) (m:=1) rfl (by omega) rfl (GA _ (Ty a c)))) rfl ?_;refine Cs (fun _ _=>aH)<|bF<|Kr<|Rd aC<|Dd iF<|Da ?_;refine⟨i+3,A++[Ty a c],⟨by omega,by omega,g⟩,by omega,?_⟩;rw[s];exact(cQ.wk (Eb<|Ea<|Eb<|trivial) (Hc (kC _ _)<|trivial) trivial)
  have hS:JJ [] T=([],false):=by rw[g];exact rp (by rw[aCu];omega) (by rw[aCu];omega)
  have x:¬ (decide (((T.map encTok).length:Int)<=(i:Int)+2)=false):=by rw[aCn];omega
  rw[hS];refine aA<|Sq<|aE<|Sq<|Sq ?_;refine aQ (t:=34) (n:=25) (X:=true) ?_ ?_
  ·all_goals refine Dd aC ?_
   all_goals refine Dd iF<|Dd aC<|Dd (eR cN)<|Dd CX<|Dm ?_<;>(refine Sp 17 (fun k=>?_) fun k=>?_)<;>(try contradiction)<;>refine Fo<|Fo<|Fo<|Fo<|Fo<|Fo<|Fo<|Dd cD<|Dm ?_<;>(refine Sp 26 (fun j=>?_) fun j=>?_)<;>(try contradiction)<;>refine Fo<|Fo<|Fo<|Fo<|Fo<|Fo<|Fo<|Zd cD ?_<;>(exact⟨⟨_,rfl,by rfl⟩,rfl,rfl,rfl⟩)
  refine Cn ?_ ?_<;>intro y
  ·refine Sd aH<|Zd aH<|aB ?_;refine iN (H':=[]) (.inr rfl) rfl (aJ rfl) (aJ rfl) (Fin.wk (r:=.tup [.pv (oG []),bv false]) (by simp) trivial trivial) ?_;exact Qq
  cases y
 have w:i=T.length:=by have:=aCc l;omega
 rw[w,List.drop_length,JJ]at g;rw[g];refine aS<|Sd aC<|Dd aH<|Zd aH<|aB ?_;refine iN (H':=[]) (.inr rfl) rfl (aJ rfl) (aJ rfl) (Fin.tg2 A (bv true) rfl rfl rfl rfl (by simp)) ?_;exact Qq
end Go.Proofs.YtmdicgjnmfolfaaGreatDoor
namespace Go.Proofs.YtmdicgjnmfolfaaGreatDoor
open Go.Proofs.Tryz
open Go.Abs
theorem ue(l):F1 l=(l.map aZ).map (·.map .pv):=by rw[List.map_map];rfl
end Go.Proofs.YtmdicgjnmfolfaaGreatDoor
namespace Go.Proofs.YtmdicgjnmfolfaaGreatDoor
open Go.Proofs.Tryz
open Go.Abs Go.Lib
def C8(rE:ByteArray->GEdit)(s:ByteArray):Nat->Nat×List GEdit
 |0=>(0,[])
 |i+1=>if decide (bH s i=10)then(i+1,(C8 rE s i).2++[rE (s.extract (C8 rE s i).1 i)])else C8 rE s i
theorem zx(rE)(s):∀i,(C8 rE s i).1<=i/\(C8 rE s i).2.length<=i
 |0=>⟨aCl _,aCl _⟩
 |i+1=>by
  obtain ⟨h1,h2⟩:=zx rE s i;rw[C8]
  grind
theorem ZC(rE)(s)(i):∀d,(C8 rE s i).2.length<=(C8 rE s (i+d)).2.length
 |0=>aCl _
 |d+1=>by
  refine Nat.le_trans (ZC _ s i d) ?_;rw[show i+(d+1)=(i+d)+1 by omega,C8]
  grind
theorem NC{rE}{s}{Q:GEdit->Prop}(h:∀x,x.size<=s.size->Q (rE x)):∀i,∀e∈(C8 rE s i).2,Q e
 |0,e,b=>by cases b
 | i+1,e,b=>by
  rw[C8]at b
  split at b
  ·rcases List.mem_append.1 b with c|c
   ·exact NC h i e c
   rw[aCi.1 c];exact h _ (fL s _ _)
  exact NC h i e b
def Uq(rE:ByteArray->GEdit)(t:ByteArray):List GEdit×Int:=if 20000<t.size then([],2)else if dS (C8 rE t t.size).2=(t,0)then((C8 rE t t.size).2,0)else([],5)
theorem rq{rE:ByteArray->GEdit}(E:∀x:ByteArray,x.size<=20000->KD (rE x)/\(rE x).refs.length<1099511627776)(J:∀(x:ByteArray) (H:aG),x.size<=20000->RC 119 [sv x] (av (aZ (rE x))) H)(t:ByteArray)(H:aG)(hs:t.size<1000000000):
  RC 59 [sv t] (.tup [.pv (fX (Uq rE t).1),iv (Uq rE t).2]) H:=by
 refine Pu ?_;refine Bd func59 rfl ntmps59<|Sd aH<|Zd aH<|Sq<|Sd aC<|Dd (gF underlying9)<|Zd gX ?_;refine Cn ?_ ?_<;>intro n
 ·have C:20000<t.size:=by have:=aCb n;omega
  rw[Uq,aCe C];refine Sd aH<|Zd aH<|aB ?_;refine iN (H':=[]) (.inr rfl) rfl (aJ rfl) (aJ rfl) (Fin.wk (r:=.tup [.pv (fX []),iv 2]) (by simp) trivial trivial) ?_;exact Qq
 have C:¬ 20000<t.size:=by have:=aCc n;omega
 rw[Uq,aCd C];refine aA<|Sz (by exact fF (id:=905) (sz:=15) (ty:=153) rfl rfl rfl)<|Sz aH<|Sq<|Sz aH<|aE ?_;refine bJ (σ:=Nat) (fun i=>([(0,sv t),(4,.osl 905 (C8 rE t i).2.length 0 (C8 rE t i).2.length),(5,iv ((C8 rE t i).1:Int)),(6,iv (i:Int))],[(905,⟨(C8 rE t i).2.length,15,153,F1 (C8 rE t i).2⟩)])) (fun i=>i<=t.size) (fun i=>t.size - i) 0 (aCw _) ?_ ?_
 ·exact(cQ.wk (Eb<|Ea<|Eb<|Eb<|trivial) (Hc (wJ _ _)<|trivial) trivial)
 rintro i N;obtain ⟨I,D⟩:=zx rE t i;have c:C8 rE t (i+1)=if decide (bH t i=10)then(i+1,(C8 rE t i).2++[rE (t.extract (C8 rE t i).1 i)])else C8 rE t i:=rfl;have m:=ZC rE t i (t.size - i);rw[show i+(t.size - i)=t.size by omega]at m;have d:=NC (rE:=rE) (s:=t) (Q:=fun e=>KD e/\e.refs.length<1099511627776) (fun x w=>E x (by omega)) i;rcases l:C8 rE t i with⟨f,L⟩;simp only[l]at I D c m d |-;refine Sq<|Sq ?_;refine aQ (t:=20) (n:=10) (X:=decide ((i:Int)<(t.size:Int))&&decide ((L.length:Int)<=200)) ?_ ?_
 ·all_goals refine Dd aC ?_
  all_goals refine Dd aC<|Dd (gF underlying9)<|Dd cJ<|Dm ?_<;>(refine Sp 16 (fun y=>?_) fun y=>?_)<;>(first|contradiction|refine Fo<|Fo<|Fo ?_|refine On aC<|On (by exact dU rfl cT rfl rfl rfl)<|On GP ?_)<;>refine Zd cD ?_<;>(exact⟨⟨_,rfl,by grind⟩,rfl,rfl,rfl⟩)
 refine Cn ?_ ?_<;>intro u
 ·have hlt:i<t.size:=by have h:=u;rw[aCo,aCm]at h;omega
  refine aA<|Sq<|aE<|Sd aC<|Dd aC<|Dd (ky underlying9)<|Zd cF ?_;refine Cn ?_ ?_<;>intro q
  ·have F:decide (bH t i=10)=true:=q;rw[F,aCe rfl]at c;obtain ⟨x,w⟩:∃x,x=t.extract f i:=⟨_,rfl⟩;have z:x.size<=20000:=by rw[w];have:=fL t f i;omega
   rw[<-w]at c;have G:(L++[rE x]).length=L.length+1:=by simp_all
   refine Sd aC<|Dd aC<|Dd aC<|Dd aC<|Dd (by exact cB (l:=f) (h:=i) rfl underlying9 rfl rfl rfl I N w.symm)<|Dd (kc call119 (J x _ z))<|Dd (by exact aN [aZ (rE x)] rfl OP rfl rfl rfl rfl rfl (by intro r s;rw[aCi]at s;subst s;rfl))<|Dd (by exact cG (ps:=[aZ (rE x)]) rfl OP Qf rfl rfl rfl rfl rfl (UQ _) rfl (by intro r s;rw[aCi]at s;subst s;rfl) (m:=1) rfl (by omega) rfl (UR L (rE x)))<|Zd aH<|Rd aC<|Dd iF<|Zd aH<|Rd aC<|Dd iF<|Da ?_;refine⟨i+1,by omega,by omega,?_⟩;rw[c];simp only;rw[G];exact(cQ.wk (Eb<|Ea<|Eb<|Eb<|trivial) (Hc (wJ _ _)<|trivial) trivial)
  have F:decide (bH t i=10)=false:=q;rw[F,aCd (by simp)]at c;refine aA<|Rd aC<|Dd iF<|Da ?_;refine⟨i+1,by omega,by omega,?_⟩;rw[c];exact(cQ.wk (Eb<|Ea<|Eb<|Eb<|trivial) (Hc (wJ _ _)<|trivial) trivial)
 have j:i=t.size\/200<L.length:=by have h:=u;rw[Bool.and_eq_false_iff,aCn,aCn]at h;omega
 have v:(if dS (C8 rE t t.size).2=(t,0)then((C8 rE t t.size).2,(0:Int))else([],5))=if dS L=(t,0)then(L,0)else([],5):=by
  rcases j with e|e
  ·rw[<-e,l]
  have o:∀M:List GEdit,200<M.length->¬ dS M=(t,0):=fun M hM h=>by
   rw[dS]at h
   split at h
   ·next K=>have:=(MA K).2.1;omega
   have:=congrArg Prod.snd h;cases this
  rw[aCd (o _ (by omega)),aCd (o _ e)]
 rw[v];refine gC.ent (cQ.fzG (id:=905) (E':=[(0,sv t),(4,.pv (fX L))]) (H':=[]) (L.map aZ) rfl (ue L) ?_ rfl ?_ ?_) ?_
 ·intro p l;simp only[aCr,aCv,or_false]at l;rcases l with rfl|rfl
  ·exact⟨_,rfl,.same (by simp;try rfl)⟩
  exact⟨_,rfl,.osl (kX aZ L)⟩
 ·exact trivial
 ·exact trivial
 refine aS<|Sd aC<|Dd (kc aBu (O2 L _ (by omega) (fun e h=>(d e h).1) (fun e h=>(d e h).2)))<|Dd aC<|Dd eG<|Dd eG<|Dd aH<|Zd aH<|Sq<|Sq ?_;refine aQ (t:=48) (n:=8) (X:=!decide ((dS L).2=0)||!decide ((dS L).1=t)) ?_ ?_
 ·all_goals refine Dd aC ?_
  all_goals refine Dd rI<|Dm ?_<;>(refine Sp 44 (fun k=>?_) fun k=>?_)<;>(first|contradiction|refine Fo<|Fo<|Fo ?_|refine On aC<|On aC<|On DH ?_)<;>refine Zd cD ?_<;>(exact⟨⟨_,rfl,by(rw[k];rfl)⟩,rfl,rfl,rfl⟩)
 refine Cn ?_ ?_<;>intro g
 ·have A:dS L≠(t,0):=fun e=>by have h:=g;rw[e]at h;simp at h
  rw[aCd A];refine Sd aH<|Zd aH<|aB ?_;refine iN (H':=[]) (.inr rfl) rfl (aJ rfl) (aJ rfl) (Fin.wk (r:=.tup [.pv (fX []),iv 5]) (by simp) trivial trivial) ?_;exact Qq
 have B:dS L=(t,0):=by have h:=g;simp only[aDB,Bool.not_eq_false',aCm]at h;exact Prod.ext h.2 h.1
 rw[aCe B];exact aA<|Sd aC<|Dd aH<|Zd aH<|aB<|Ru<|Qq
end Go.Proofs.YtmdicgjnmfolfaaGreatDoor
namespace Go.Proofs.YtmdicgjnmfolfaaGreatDoor
open Go.Proofs.Tryz
open Go.Abs
theorem ZN{s}{i}(hi:i<s.size)(h:mG s i=2):uF s i=true:=by rw[mG,aCe hi]at h;have a:=(W3 s i).2.1;rw[h]at a;have e:=aCb (a.trans rfl);rw[uF,decide_eq_true hi,e];rfl
theorem JV{s}{i j}(h:eN s i=(none,j))(hi:i<s.size):i<j/\j<=s.size:=by
 rw[eN]at h
 split at h
 ·grind
 split at h
 ·rename_i b;cases h;have a:=ZN hi b;obtain ⟨l1,l2⟩:=EP (uF s) (s.size - i) i;rw[EY];refine⟨?_,by omega⟩;rcases Nat.lt_or_ge i _ with h|h
  ·exact h
  have e:xZ (uF s) (s.size - i) i=i:=by omega
  have:=wF (uF s) (s.size - i) i (by omega);rw[e,a]at this;cases this
 grind
theorem EJ(s):∀(n m i),s.size - i<n->s.size - i<m->jM s n i=jM s m i
 |0,_,_,h,_=>by omega
 |_+1,0,_,_,h=>by omega
 | n + 1, m + 1, i, h1, h2 => by
  rw[jM,jM];by_cases b:i<s.size
  ·rw[aCe b,aCe b];cases d:eN s i with
   | mk o j =>
    cases o with
    |none =>
     have:=JV d b;exact EJ s n m j (by omega) (by omega)
    |some f =>
     show f::_=f::_;congr 1;by_cases c:f.err=0
     ·have:=M5 d c b;rw[aCe c,aCe c];exact EJ s n m j (by omega) (by omega)
     simp_all
  grind
def FE(s:ByteArray)(i:Nat):List GFound:=jM s (s.size+1) i
theorem SR{s}{i j}(hi:i<s.size)(h:eN s i=(none,j)):FE s i=FE s j:=by have:=JV h hi;rw[FE,jM,aCe hi,h];exact EJ s _ _ j (by omega) (by omega)
theorem qf{s}{i j}{f}(hi:i<s.size)(h:eN s i=(some f,j))(a:f.err=0):FE s i=f::FE s j:=by have:=M5 h a hi;rw[FE,jM,aCe hi,h];show f::(if f.err=0 then _ else _)=_;rw[aCe a];congr 1;exact EJ s _ _ j (by omega) (by omega)
theorem xq{s}{i j}{f}(hi:i<s.size)(h:eN s i=(some f,j))(he:f.err≠0):FE s i=[f]:=by
 rw[FE,jM]
 simp_all
theorem xr{s}{i}(hi:¬ i<s.size):FE s i=[]:=by rw[FE,jM,aCd hi]
theorem oh(s:ByteArray)(e:Nat)(H:aG)(hs:s.size<1099511627776)(C:e<=s.size):aW Tryz.prog 208 [sv s,iv (e:Int)] H (fun r H'=>∃j,r=iv ((j:Nat):Int)/\e<=j/\j<=s.size/\FE s e=FE s j/\(j<s.size->mG s j≠1/\mG s j≠2)/\H'=H):=by
 refine Bd func208 rfl ntmps208<|Sz aH<|Sq<|aE ?_;refine bJ (σ:=Nat) (fun i=>([(0,sv s),(1,iv (i:Int))],H)) (fun i=>e<=i/\i<=s.size/\FE s e=FE s i) (fun i=>s.size - i) e ⟨aCl _,C,rfl⟩ ?_ ?_
 ·exact E0
 rintro i ⟨hge,B,d⟩;refine Sq<|Sd aC<|Dd aC<|Dd (gF underlying9)<|Zd cJ ?_;refine Cn ?_ ?_<;>intro o
 ·have b:i<s.size:=by have:=aCb o;omega
  have x:mG s i=xN (bH s i):=by rw[mG,aCe b]
  obtain ⟨z,y,_⟩:=W3 s i;rw[<-x]at z y;refine aA<|aE<|Sd aC<|Dd aC<|Dd (ky underlying9)<|Zd (by exact bL rfl rfl aBj rfl (Dp ⟨#[32,9,10]⟩ (bH s i) _ (by decide))) ?_;refine Cn ?_ ?_<;>intro t
  ·have u:mG s i=1:=aCb (z.symm.trans t);have c:eN s i=(none,i+1):=by rw[eN,aCe u]
   refine Rd aC<|Dd iF<|Da ?_;exact⟨i+1,⟨by omega,b,d.trans (SR b c)⟩,by omega,E0⟩
  have u:mG s i≠1:=aCc (z.symm.trans t);refine Sd aC<|Dd aC<|Dd (ky underlying9)<|Zd cF ?_;refine Cn ?_ ?_<;>intro q
  ·have v:mG s i=2:=aCb (y.symm.trans q);have c:eN s i=(none,EY s i):=by rw[eN,aCd u,aCe v]
   refine aE ?_;refine bJ (σ:=Nat) (fun k=>([(0,sv s),(1,iv (k:Int))],H)) (fun k=>i<=k/\k<=s.size/\∀j,i<=j->j<k->uF s j=true) (fun k=>s.size - k) i ⟨aCl _,B,fun j u v=>by omega⟩ ?_ ?_
   ·exact E0
   rintro k ⟨w,D,p⟩;refine Sq<|Sq ?_;refine aQ (t:=28) (n:=11) (X:=decide ((k:Int)<(s.size:Int))&&!decide (bH s k=10)) ?_ ?_
   ·all_goals refine Dd aC ?_
    all_goals refine Dd aC<|Dd (gF underlying9)<|Dd cJ<|Dm ?_<;>(refine Sp 23 (fun g=>?_) fun g=>?_)<;>(first|contradiction|refine Fo<|Fo<|Fo<|Fo ?_|refine On aC<|On aC<|On (by exact cR rfl underlying9 rfl rfl (by omega) (by exact aCq _) (by have:=aCb g;omega) rfl)<|On rI ?_)<;>refine Zd cD ?_<;>(exact⟨⟨_,rfl,by grind⟩,rfl,rfl,rfl⟩)
   refine Cn ?_ ?_<;>intro f
   ·have h:=f;rw[aCo,aCm]at h;have l:k<s.size:=by omega
    have hp:uF s k=true:=by rw[uF,decide_eq_true l,Bool.true_and];grind
    refine aA<|aE<|Rd aC<|Dd iF<|Da ?_;refine⟨k+1,⟨by omega,l,fun j u v=>?_⟩,by omega,E0⟩
    grind
   have n:EY s i=k:=by
    refine yG (uF s) w (by omega) p ?_;rcases Nat.lt_or_ge k s.size with h|h
    ·left;have A:=f;rw[decide_eq_true (show (k:Int)<(s.size:Int)by omega),Bool.true_and]at A;rw[uF,A,Bool.and_false]
    omega
   rw[n]at c;have hgo:=JV c b;refine aS ?_;exact⟨k,⟨by omega,D,d.trans (SR b c)⟩,by omega,E0⟩
  have v:mG s i≠2:=aCc (y.symm.trans q);refine Sd aC<|Zd aH<|aB ?_;refine dA (H':=H) (.inr rfl) rfl (aJ rfl) Fin.refl ?_
  grind
 have m:i=s.size:=by have:=aCc o;omega
 subst m;refine aS<|Sd aC<|Zd aH<|aB ?_;refine dA (H':=H) (.inr rfl) rfl (aJ rfl) Fin.refl ?_
 grind
def Qx:GFound:=⟨0,sNil,0,0⟩
def Bt(s:ByteArray)(i:Nat):GFound×Int×Int:=match eN s i with
 |(some f,j)=>if f.err=0 then(f,(j:Int),0)else(Qx,0,f.err)
 |(none,_)=>(Qx,0,0)
theorem II{s}{i j}{f}(h:eN s i=(some f,j))(he:f.err=0):Bt s i=(f,(j:Int),0):=by
 rw[Bt]
 simp_all
theorem PO{s}{i j}{f}(h:eN s i=(some f,j))(he:f.err≠0):Bt s i=(Qx,0,f.err):=by
 rw[Bt]
 simp_all
theorem TM{s}{k}(h:k<s.size):uE s k=vz (bH s k):=by
 obtain ⟨c1,c2,c3⟩:=QR s k;have a:mG s k=xN (bH s k):=by rw[mG,aCe h]
 rw[uE,a,c1,c2,c3];rfl
theorem ZO{s}{k}(h:k<s.size):ML s k=xF (bH s k):=by
 obtain ⟨c1,c2,c3⟩:=QR s k;have a:mG s k=xN (bH s k):=by rw[mG,aCe h]
 rw[ML,a,c2]
def Yh(p:GFound×Int×Int):AV:=.tup [av (encTok p.1),iv p.2.1,iv p.2.2]
theorem Jb{s}{i:Nat}{H}(b:s.size<1099511627776)(hi:i<s.size)(a:nG (s.data.toList.drop (i+1))=none):RC 245 [sv s,iv i] (.tup [sv sNil,iv 0,bv false]) H:=by
 have:=lq s i H b hi
 rwa [a]at this
theorem Ja{s}{i:Nat}{H}{p}(b:s.size<1099511627776)(hi:i<s.size)(c:nG (s.data.toList.drop (i+1))=some p):RC 245 [sv s,iv i] (.tup [sv ⟨p.1.toArray⟩,iv ((i+(p.2+1):Nat)),bv true]) H:=by
 have:=lq s i H b hi;rw[c]at this;have e:wN (some p) [] (i+1)=(⟨p.1.toArray⟩,((i+(p.2+1)):Int)):=by
  show ((⟨([]++p.1).toArray⟩:ByteArray),((i+1+p.2):Int))=_
  grind
 rw[e]at this;exact this
theorem Bw(s:ByteArray)(i:Nat)(H:aG)(hs:s.size<1099511627776)(hi:i<s.size)(hn1:mG s i≠1)(hn2:mG s i≠2):RC 209 [sv s,iv (i:Int)] (Yh (Bt s i)) H:=by
 refine aW.pure ?_ (by simp[Yh]) H;have V:mG s i=xN (bH s i):=by rw[mG,aCe hi]
 obtain ⟨c1,c2,c3⟩:=QR s i;obtain ⟨q1,q2,T,Z,q5⟩:=W3 s i;rw[<-V]at c1 c2 c3 q1 q2 T Z;refine Bd func209 rfl ntmps209<|Sd (kl 4 jx)<|Dd aH<|Zd aH<|Sd aC<|Dd iF<|Zd aH<|Sd aC<|Dd aC<|Dd (by exact cR rfl underlying9 rfl rfl (by omega) (by rfl) hi rfl)<|Zd aH<|Sq<|Sd aC<|Zd (kc aBs (J4 (bH s i) _)) ?_;refine Cn ?_ ?_<;>intro E
 ·have h3:mG s i=3:=aCb (c1.trans E);have hst:eN s i=(some (zE s i (BD s i)),BD s i):=by rw[eN,aCd hn1,aCd hn2,aCe h3]
  refine Sq<|aE ?_;refine bJ (σ:=Nat) (fun k=>([(0,sv s),(1,iv (i:Int)),(4,.ref 4 0 0 0),(7,iv (k:Int))],[(4,bx 3 187 [iv 0,sv sNil,iv 0])])) (fun k=>i<k/\k<=s.size/\∀j,i<=j->j<k->uE s j=true) (fun k=>s.size - k) (i+1) ⟨Nat.lt_succ_self _,hi,fun j O S=>?_⟩ ?_ ?_
  ·obtain rfl:j=i:=by omega
   rw[uE,h3];rfl
  ·exact Wk
  rintro k ⟨hik,hk,hall⟩;refine Sq<|Sq ?_;refine aQ (t:=28) (n:=11) (X:=decide ((k:Int)<(s.size:Int))&&vz (bH s k)) ?_ ?_
  ·all_goals refine Dd aC ?_
   all_goals refine Dd aC<|Dd (gF underlying9)<|Dd cJ<|Dm ?_<;>(refine Sp 23 (fun D=>?_) fun D=>?_)<;>(first|contradiction|refine Fo<|Fo<|Fo<|Fo ?_|refine On aC<|On aC<|On (by exact cR rfl underlying9 rfl rfl (by omega) (by exact aCq _) (by have:=aCb D;omega) rfl)<|On (kc aBt (V4 (bH s k) _)) ?_)<;>refine Zd cD ?_<;>(exact⟨⟨_,rfl,by grind⟩,rfl,rfl,rfl⟩)
  refine Cn ?_ ?_<;>intro L
  ·have h:=L;rw[aCo,aCm]at h;have hkl:k<s.size:=by omega
   have hp:uE s k=true:=by rw[TM hkl];grind
   refine aA<|aE<|Rd aC<|Dd iF<|Da ?_;refine⟨k+1,⟨by omega,hkl,fun j O S=>?_⟩,by omega,Wk⟩
   grind
  have hend:BD s i=k:=by
   refine yG (uE s) (Nat.le_of_lt hik) (by omega) hall ?_;rcases Nat.lt_or_ge k s.size with h|h
   ·left;have N:=L;rw[decide_eq_true (show (k:Int)<(s.size:Int)by omega),Bool.true_and]at N;rw[TM h,N]
   omega
  rw[hend]at hst;have hsub:IntKind.i64.wrap ((k:Int) - (i:Int))=((k - i:Nat):Int):=by rw[IntKind.wrap_i64];omega
  refine aS<|Sq<|Sd aC<|Dd aC<|Dd (by exact dB rfl rfl rfl hsub)<|Zd gX ?_;refine Cn ?_ ?_<;>intro I
  ·have h24:24<k - i:=by have:=aCb I;omega
   have hb:=PO hst (by show (if 24<k - i then(2:Int)else 0)≠0;omega);have X:(zE s i k).err=2:=aCe h24;rw[X]at hb;rw[hb];refine Sd (nP F4)<|Uu (iP sizeOf187)<|Dd aH<|Zd aH<|aB ?_;refine lH (H':=[]) (.inr rfl) rfl (BT iK sizeOf187) (aJ rfl) (aJ rfl) (Fin.wk (r:=.tup [.agg [iv 0,sv sNil,iv 0],iv 0,iv 2]) (by simp) trivial trivial) ?_;exact Qq
  have h24:¬ 24<k - i:=by have:=aCc I;omega
  have X:(zE s i k).err=0:=aCd h24;rw[II hst X];refine aA<|Sd aC<|Dd aC<|Dd aC<|Dd (by exact cB (l:=i) (h:=k) rfl underlying9 rfl rfl rfl (by omega) (by omega) rfl)<|Dd aC<|Dd (nP F4)<|Dd aC<|Uu (iP sizeOf187)<|Dd aH<|Zd aH<|aB ?_;refine lH (H':=[]) (.inr rfl) rfl (BT iK sizeOf187) (aJ rfl) (aJ rfl) (Fin.wk (r:=.tup [.agg [iv 1,sv (s.extract i k),iv (i:Int)],iv ((k:Nat):Int),iv 0]) (by simp) trivial trivial) ?_;exact Qq
 have h3:mG s i≠3:=aCc (c1.trans E);refine aA<|Sq<|Sd aC<|Zd (kc aBn (O7 (bH s i) _)) ?_;refine Cn ?_ ?_<;>intro hc4
 ·have h4:mG s i=4:=aCb (c2.trans hc4);have hst:eN s i=(some (FZ s i (GX s i)),GX s i):=by rw[eN,aCd hn1,aCd hn2,aCd h3,aCe h4]
  refine Sq<|aE ?_;refine bJ (σ:=Nat) (fun k=>([(0,sv s),(1,iv (i:Int)),(4,.ref 4 0 0 0),(7,iv (k:Int))],[(4,bx 3 187 [iv 0,sv sNil,iv 0])])) (fun k=>i<k/\k<=s.size/\∀j,i<=j->j<k->ML s j=true) (fun k=>s.size - k) (i+1) ⟨Nat.lt_succ_self _,hi,fun j O S=>?_⟩ ?_ ?_
  ·obtain rfl:j=i:=by omega
   rw[ML,h4];rfl
  ·exact Wk
  rintro k ⟨hik,hk,hall⟩;refine Sq<|Sq ?_;refine aQ (t:=54) (n:=11) (X:=decide ((k:Int)<(s.size:Int))&&xF (bH s k)) ?_ ?_
  ·all_goals refine Dd aC ?_
   all_goals refine Dd aC<|Dd (gF underlying9)<|Dd cJ<|Dm ?_<;>(refine Sp 49 (fun h49=>?_) fun h49=>?_)<;>(first|contradiction|refine Fo<|Fo<|Fo<|Fo ?_|refine On aC<|On aC<|On (by exact cR rfl underlying9 rfl rfl (by omega) (by exact aCq _) (by have:=aCb h49;omega) rfl)<|On (kc aBn (O7 (bH s k) _)) ?_)<;>refine Zd cD ?_<;>(exact⟨⟨_,rfl,by(rw[h49];rfl)⟩,rfl,rfl,rfl⟩)
  refine Cn ?_ ?_<;>intro K
  ·have h:=K;rw[aCo,aCm]at h;have hkl:k<s.size:=by omega
   have hp:ML s k=true:=by rw[ZO hkl];exact h.2
   refine aA<|aE<|Rd aC<|Dd iF<|Da ?_;refine⟨k+1,⟨by omega,hkl,fun j O S=>?_⟩,by omega,Wk⟩;rcases Nat.lt_or_ge j k with h|h
   ·exact hall j O h
   obtain rfl:j=k:=by omega
   exact hp
  have hstop:k<s.size->xF (bH s k)=false:=fun h=>by
   have N:=K
   rwa [decide_eq_true (show (k:Int)<(s.size:Int)by omega),Bool.true_and]at N
  have hend:GX s i=k:=by
   refine yG (ML s) (Nat.le_of_lt hik) (by omega) hall ?_;rcases Nat.lt_or_ge k s.size with h|h
   ·left;rw[ZO h,hstop h]
   right;omega
  rw[hend]at hst;have hsub:IntKind.i64.wrap ((k:Int) - (i:Int))=((k - i:Nat):Int):=by rw[IntKind.wrap_i64];omega
  have hw:(decide ((k:Int)<(s.size:Int))&&vz (bH s k))=(decide (mG s k=3)||decide (mG s k=5)):=by
   rcases Nat.lt_or_ge k s.size with h|h
   ·obtain ⟨d1,d2,d3⟩:=QR s k;rw[mG,aCe h,d1,d3,vz,hstop h,Bool.or_false,decide_eq_true (show (k:Int)<(s.size:Int)by omega),Bool.true_and]
   rw[mG,aCd (by omega),decide_eq_false (show ¬ (k:Int)<(s.size:Int)by omega)];rfl
  refine aS<|Sq<|Sq ?_;refine aQ (t:=72) (n:=18) (X:=decide (7<((k - i:Nat):Int))||(decide ((k:Int)<(s.size:Int))&&vz (bH s k))) ?_ ?_
  ·all_goals refine Dd aC ?_
   all_goals refine Dd aC<|Dd (by exact dB rfl rfl rfl hsub)<|Dd gX<|Dm ?_<;>(refine Sp 61 (fun h61=>?_) fun h61=>?_)<;>(first|contradiction|refine Fo<|Fo<|Fo<|Fo<|Fo ?_|refine On aC<|On aC<|On (gF underlying9)<|On cJ<|On aC ?_)<;>(first|refine Sp 66 (fun h66=>?_) fun h66=>?_|refine kI (t:=66) rfl ?_)<;>(first|contradiction|refine Fo ?_|refine Fu ?_|refine On aC ?_)<;>(first|refine Fo ?_|refine Fu ?_|refine On aC ?_)<;>(first|refine Fo ?_|refine Fu ?_|refine On (by exact cR rfl underlying9 rfl rfl (by omega) (by exact aCq _) (by have:=aCb h66;omega) rfl) ?_)<;>(first|refine Fo ?_|refine Fu ?_|refine On (kc aBt (V4 (bH s k) _)) ?_)<;>(first|refine Fo ?_|refine On cD ?_)<;>refine Zd cD ?_<;>(exact⟨⟨_,rfl,by first|(rw[h61];rfl)|(rw[h61,h66];rfl)⟩,rfl,rfl,rfl⟩)
  refine Cn ?_ ?_<;>intro F
  ·have M:(FZ s i k).err=4:=by
    have h:=F;rw[hw,<-Bool.or_assoc]at h;have R:decide (7<((k - i:Nat):Int))=decide (7<k - i):=by rw[Bool.eq_iff_iff,aCm,aCm];omega
    rw[R]at h;exact aCe h
   have hb:=PO hst (by rw[M];decide);rw[M]at hb;rw[hb];refine Sd (nP F4)<|Uu (iP sizeOf187)<|Dd aH<|Zd aH<|aB ?_;refine lH (H':=[]) (.inr rfl) rfl (BT iK sizeOf187) (aJ rfl) (aJ rfl) (Fin.wk (r:=.tup [.agg [iv 0,sv sNil,iv 0],iv 0,iv 4]) (by simp) trivial trivial) ?_;exact Qq
  have M:(FZ s i k).err=0:=by
   have h:=F;rw[hw,<-Bool.or_assoc]at h;have R:decide (7<((k - i:Nat):Int))=decide (7<k - i):=by rw[Bool.eq_iff_iff,aCm,aCm];omega
   rw[R]at h;exact aCd (by rw[h];simp)
  rw[II hst M];refine aA<|Sd aC<|Dd aC<|Dd aC<|Dd (by exact cB (l:=i) (h:=k) rfl underlying9 rfl rfl rfl (by omega) (by omega) rfl)<|Dd aC<|Dd (nP F4)<|Dd aC<|Uu (iP sizeOf187)<|Dd aH<|Zd aH<|aB ?_;refine lH (H':=[]) (.inr rfl) rfl (BT iK sizeOf187) (aJ rfl) (aJ rfl) (Fin.wk (r:=.tup [.agg [iv 2,sv (s.extract i k),iv (i:Int)],iv ((k:Nat):Int),iv 0]) (by simp) trivial trivial) ?_;exact Qq
 have h4:mG s i≠4:=aCc (c2.trans hc4);refine aA<|Sq<|Sd aC<|Zd cF ?_;refine Cn ?_ ?_<;>intro G
 ·have P:mG s i=7:=aCb (Z.symm.trans G);have hst:eN s i=(some (DY s i).1,(DY s i).2):=by rw[eN,aCd hn1,aCd hn2,aCd h3,aCd h4,aCe P]
  have J:(s.extract i s.size).data.toList.drop 1=s.data.toList.drop (i+1):=by rw[uL,List.drop_drop]
  cases Q:nG (s.data.toList.drop (i+1))with
  |none =>
   have hun:zF (s.extract i s.size)=(sNil,0):=by rw[zF,J,Q]
   have U:DY s i=(uH i,i):=by rw[DY,hun];rfl
   rw[U]at hst;have hb:=PO hst (by show (3:Int)≠0;decide);rw[hb];refine Sd aC<|Dd aC<|Dd (kc call245 (Jb hs hi Q))<|Dd aC<|Dd eG<|Dd eG<|Dd eG<|Dd aH<|Dd aH<|Zd aH<|Sq<|Sd aC<|Zd iJ ?_;refine Cn ?_ ?_<;>intro W
   ·refine Sd (nP F4)<|Uu (iP sizeOf187)<|Dd aH<|Zd aH<|aB ?_;refine lH (H':=[]) (.inr rfl) rfl (BT iK sizeOf187) (aJ rfl) (aJ rfl) (Fin.wk (r:=.tup [.agg [iv 0,sv sNil,iv 0],iv 0,iv 3]) (by simp) trivial trivial) ?_;exact Qq
   ((cases W;done))
  | some p =>
   have hun:zF (s.extract i s.size)=(⟨p.1.toArray⟩,((p.2+1:Nat):Int)):=by rw[zF,J,Q]
   have U:DY s i=(⟨3,⟨p.1.toArray⟩,i,0⟩,i+(p.2+1)):=by
    rw[DY,hun,aCe (by show (0:Int)<((_:Nat):Int);omega)];rfl
   rw[U]at hst;rw[II hst rfl];refine Sd aC<|Dd aC<|Dd (kc call245 (Ja hs hi Q))<|Dd aC<|Dd eG<|Dd eG<|Dd eG<|Dd aH<|Dd aH<|Zd aH<|Sq<|Sd aC<|Zd iJ ?_;refine Cn ?_ ?_<;>intro Y
   ·((cases Y;done))
   refine aA<|Sd aC<|Dd aC<|Dd (nP F4)<|Dd aC<|Uu (iP sizeOf187)<|Dd aH<|Zd aH<|aB ?_;refine lH (H':=[]) (.inr rfl) rfl (BT iK sizeOf187) (aJ rfl) (aJ rfl) (Fin.wk (r:=.tup [.agg [iv 3,sv (⟨p.1.toArray⟩),iv (i:Int)],iv ((i+(p.2+1):Nat):Int),iv 0]) (by simp) trivial trivial) ?_;exact Qq
 have P:mG s i≠7:=aCc (Z.symm.trans G);refine aA<|Sq<|Sd aC<|Dd (by exact bL rfl rfl aBj rfl (Dp ⟨#[59,44,46,58,40,41,123,125,91,93,61,60,62,47,45]⟩ (bH s i) _ (by decide)))<|Zd iJ ?_;refine Cn ?_ ?_<;>intro hc10
 ·have h6:mG s i≠6:=by
   have h:(!P7 ⟨#[59,44,46,58,40,41,123,125,91,93,61,60,62,47,45]⟩ (bH s i))=true:=hc10;rw[T]at h
   simpa using h
  have hst:eN s i=(some (uH i),i):=by rw[eN,aCd hn1,aCd hn2,aCd h3,aCd h4,aCd P,aCd h6]
  have hb:=PO hst (by show (3:Int)≠0;decide);rw[hb];refine Sd (nP F4)<|Uu (iP sizeOf187)<|Dd aH<|Zd aH<|aB ?_;refine lH (H':=[]) (.inr rfl) rfl (BT iK sizeOf187) (aJ rfl) (aJ rfl) (Fin.wk (r:=.tup [.agg [iv 0,sv sNil,iv 0],iv 0,iv 3]) (by simp) trivial trivial) ?_;exact Qq
 have h6:mG s i=6:=by
  have h:(!P7 ⟨#[59,44,46,58,40,41,123,125,91,93,61,60,62,47,45]⟩ (bH s i))=false:=hc10;rw[T]at h
  simpa using h
 have hst:eN s i=(some ⟨4,s.extract i (i+1),i,0⟩,i+1):=by rw[eN,aCd hn1,aCd hn2,aCd h3,aCd h4,aCd P,aCe h6]
 rw[II hst rfl];refine aA<|Sd aC<|Dd aC<|Dd aC<|Dd (by exact cB (l:=i) (h:=(i+1)) rfl underlying9 rfl rfl rfl (by omega) (by omega) rfl)<|Dd aC<|Dd (nP F4)<|Dd aC<|Uu (iP sizeOf187)<|Dd aH<|Zd aH<|aB ?_;refine lH (H':=[]) (.inr rfl) rfl (BT iK sizeOf187) (aJ rfl) (aJ rfl) (Fin.wk (r:=.tup [.agg [iv 4,sv (s.extract i (i+1)),iv (i:Int)],iv ((i+1:Nat):Int),iv 0]) (by simp) trivial trivial) ?_;exact Qq
theorem xy{s}{i j}{f}(h:eN s i=(some f,j)):f.pos=i:=by
 rw[eN]at h
 split at h
 ·cases h
 split at h
 ·cases h
 split at h
 ·cases h;rfl
 split at h
 ·cases h;rfl
 split at h
 ·cases h;rw[DY]
  split<;>rfl
 split at h<;>(cases h;rfl)
theorem Jd{s}{i}(b:mG s i≠1)(a:mG s i≠2):∃f j,eN s i=(some f,j):=by
 rw[eN,aCd b,aCd a]
 split
 ·simp_all
 split
 ·simp_all
 split
 ·simp_all
 split<;>exact⟨_,_,rfl⟩
theorem nk(s:ByteArray)(H:aG)(D:s.size<1099511627776):RC 166 [sv s] (.tup [.pv (BP (eX s).1),iv (eX s).2.1,iv (eX s).2.2]) H:=by
 refine Pu ?_;refine Bd func166 rfl ntmps166<|Sd aH<|Dd aH<|Zd aH<|Sq<|Sd aC<|Dd (gF underlying9)<|Zd gX ?_;refine Cn ?_ ?_<;>intro p
 ·have e:eX s=([],2,-1):=by rw[eX,aCe (by have:=aCb p;omega)]
  rw[e];refine Sd aH<|Dd aH<|Zd aH<|aB ?_;refine lH (H':=[]) (.inr rfl) rfl (aJ rfl) (aJ rfl) (aJ rfl) (Fin.wk (by simp) trivial trivial) ?_;exact Qq
 have v:¬ 20000<s.size:=by have:=aCc p;omega
 have O:eX s=jP [] (FE s 0):=by rw[eX,aCd v];rfl
 obtain ⟨g,t⟩:∃g,g=eX s:=⟨_,rfl⟩;rw[<-t]at O |-;refine aA<|Sz (by exact fF (id:=905) (sz:=3) (ty:=187) rfl rfl rfl)<|Sr<|Dm ?_;refine Gq rfl rfl (bL rfl rfl call208 rfl (oh s 0 _ D (aCw _))) ?_;rintro r H' ⟨N,rfl,hj1,C,hj3,B,rfl⟩;refine Zd aH<|Sq<|aE ?_;refine fZ (fun(j:Nat) (L:List GFound)=>([(0,sv s),(5,.osl 905 L.length 0 L.length),(6,iv (j:Int))],[(905,⟨L.length,3,187,kT L⟩)])) (fun j L=>j<=s.size/\L.length<=5000/\g=jP L (FE s j)/\(j<s.size->mG s j≠1/\mG s j≠2)) (fun j L=>s.size - j) N [] ⟨C,aCw _,by simp_all,B⟩ ?_ ?_
 ·exact(cQ.wk (Eb<|Ea<|Eb<|trivial) (Hc (cP _ _)<|trivial) trivial)
 rintro j L ⟨hj,hL,b,E⟩;refine Sq<|Sd aC<|Dd aC<|Dd (gF underlying9)<|Zd cJ ?_;refine Cn ?_ ?_<;>intro o
 ·have d:j<s.size:=by have:=aCb o;omega
  obtain ⟨G,F⟩:=E d;obtain ⟨f,e,c⟩:=Jd G F;have l:=Bw s j [(905,⟨L.length,3,187,kT L⟩)] D d G F;have m:=xy c;by_cases k:f.err=0
  ·rw[II c k]at l;have w:=M5 c k d;have x:=qf d c k;rw[x]at b;refine aA<|aE<|Sd aC<|Dd aC<|Dd (kc call209 (l))<|Dd aC<|Dd eG<|Dd eG<|Dd eG<|Dd (kl 7 jx)<|Uu (iP sizeOf187)<|Dd aH<|Zd aH<|Sq<|Sd aC<|Zd rI ?_;refine Cn ?_ ?_<;>intro A
   ·((cases A;done))
   refine aA<|Sq<|Sd aC<|Dd (by exact dU rfl cN rfl rfl rfl)<|Zd cF ?_;refine Cn ?_ ?_<;>intro n
   ·have z:L.length=5000:=by have:=aCb n;omega
    have i:g=([],2,(j:Int)):=by rw[b,jP,aCd (fun h=>h k),aCe z,m]
    rw[i];refine Sd aC<|Dd aH<|Dd aH<|Zd aH<|aB ?_;refine lH (H':=[]) (.inr rfl) rfl (aJ rfl) (aJ rfl) (aJ rfl) (Fin.wk (by simp) trivial trivial) ?_;exact Qq
   have z:¬ L.length=5000:=by have:=aCc n;omega
   rw[jP,aCd (fun h=>h k),aCd z]at b;refine aA<|Sd aC<|Dd (by exact aM rfl iK sizeOf187 rfl rfl rfl rfl (by simp only[Zl,encTok];rfl) rfl)<|Dd (by exact aN [encTok f] rfl gR rfl rfl rfl rfl rfl (by intro r i;rw[aCi]at i;subst i;rfl))<|Dd (by exact cG (ps:=[encTok f]) rfl gR ov rfl rfl rfl rfl rfl (wP _) rfl (by intro r i;rw[aCi]at i;subst i;rfl) (m:=1) rfl (by omega) rfl (BI L f))<|Zd aH<|Rd aC<|Dm ?_;refine Gq rfl rfl (bL rfl rfl call208 rfl (oh s e _ D w.2)) ?_;rintro r H' ⟨M,rfl,g1,Q,J,K,rfl⟩;refine Da ?_;refine⟨M,L++[f],⟨Q,by grind,by rw[b,J],K⟩,by omega,?_⟩;dsimp only;rw[aCg,List.length_singleton];exact(cQ.wk (Eb<|Ea<|Eb<|trivial) (Hc (cP _ _)<|trivial) trivial)
  have P:(!decide (f.err=0))=true:=by rw[decide_eq_false k];rfl
  rw[PO c k]at l;have i:g=([],f.err,(j:Int)):=by rw[b,xq d c k,jP,aCe k,m]
  rw[i];refine aA<|aE<|Sd aC<|Dd aC<|Dd (kc call209 (l))<|Dd aC<|Dd eG<|Dd eG<|Dd eG<|Dd (kl 7 jx)<|Uu (iP sizeOf187)<|Dd aH<|Zd aH<|Sq<|Sd aC<|Zd (by exact cK.valY (by exact vQ rfl rfl rfl) (P)) ?_;refine Cn ?_ ?_<;>intro y
  ·refine Sd aC<|Dd aC<|Dd aH<|Dd aH<|Zd aH<|aB ?_;refine lH (H':=[]) (.inr rfl) rfl (aJ rfl) (aJ rfl) (aJ rfl) (Fin.wk (by simp) trivial trivial) ?_;exact Qq
  ((cases y;done))
 have u:¬ j<s.size:=by have:=aCc o;omega
 rw[xr u,jP]at b;rw[b];refine aS<|Sq ?_;refine gC.ent (cQ.fz (id:=905) (E':=[(5,.pv (BP L))]) (H':=[]) (L.map encTok) rfl (by rw[List.map_map];rfl)
  (by intro q I;rw[aCi]at I;subst I;exact⟨_,rfl,.osl (by rw[aCx,List.drop_zero,List.take_of_length_le (by rw[aCf];exact aCl _)])⟩) rfl trivial trivial) ?_
 refine Rd aC<|Dd aH<|Dd aH<|Zd aH<|aB ?_;refine lH (H':=[]) (.inr rfl) rfl (aJ rfl) (aJ rfl) (aJ rfl) Fin.refl ?_;exact Qq
end Go.Proofs.YtmdicgjnmfolfaaGreatDoor
namespace Go.Proofs.YtmdicgjnmfolfaaGreatDoor
open Go.Proofs.Tryz
open Go.Abs Go.Lib
def wW(s:ByteArray)(i:Nat):ByteArray:=(cL s).getD i sNil
def lZ(s:ByteArray):ByteArray:=s.extract ((wW s 0).size+(wW s 1).size+(wW s 2).size+3) s.size
def GF(s:ByteArray):Bool:=(decide ((eX (lZ s)).2.1=0)&&decide ((eX (lZ s)).1.length=1))&&decide (((eX (lZ s)).1.getD 0 IL).kind=3)
def my(rP:ByteArray->GObj)(s:ByteArray):GEdit :=if wW s 0=ofL wPut/\4<s.size then⟨1,sNil,sNil,sNil,0,0,sNil,sNil,[],rP (s.extract 4 s.size)⟩
 else if wW s 0=ofL HF/\(cL s).length=4 then⟨2,wW s 1,sNil,sNil,HW (wW s 2),HW (wW s 3),sNil,sNil,[],zObj⟩
 else if(wW s 0=ofL zW/\4<=(cL s).length)/\GF s=true then⟨3,wW s 1,sNil,sNil,0,0,wW s 2,((eX (lZ s)).1.getD 0 IL).text,[],zObj⟩
 else if wW s 0=ofL HE/\2<=(cL s).length then⟨4,wW s 1,sNil,sNil,0,0,sNil,sNil,(cL s).drop 2,zObj⟩
 else if wW s 0=ofL HH/\(cL s).length=2 then⟨5,wW s 1,sNil,sNil,0,0,sNil,sNil,[],zObj⟩
 else if wW s 0=ofL BE/\(cL s).length=4 then⟨6,wW s 1,wW s 3,wW s 2,0,0,sNil,sNil,[],zObj⟩
 else if wW s 0=ofL HG/\(cL s).length=3 then⟨7,wW s 1,wW s 2,sNil,0,0,sNil,sNil,[],zObj⟩
 else MB
theorem Rb{s}{i}(h:i<(cL s).length):((cL s).map encStr)[i]?=some (encStr (wW s i)):=by rw[aCz,wW,List.getD_eq_getElem?_getD,aCk h];rfl
theorem EG(s)(i):(wW s i).size<=s.size:=by
 rw[wW,List.getD_eq_getElem?_getD];cases e:(cL s)[i]? with
 |none=>exact aCw _
 |some w =>
  have b:=aCp e;obtain ⟨x,c,rfl⟩:=List.mem_map.1 b;have:=pZ _ c;rw[bC]at this;show (ofL x).size<=_;rw[cM];omega
theorem GB(c):∀l,((dP c l).map List.length).sum+(dP c l).length=l.length+1
 | []=>rfl
 | b::l=>by
  have ih:=GB c l;have a:=qB c l;rw[dP]
  split
  ·rw[List.map_cons,List.sum_cons,aCh,aCh];show 0+_+_=_;omega
  cases e:dP c l with
  |nil=>rw[e]at a;exact absurd a (Nat.lt_irrefl 0)
  |cons x r =>
   grind
theorem Ut{s}(h:4<=(cL s).length):(wW s 0).size+(wW s 1).size+(wW s 2).size+3<=s.size:=by
 have j:=GB 32 s.data.toList;have g:∀i,wW s i=ofL ((dP _ _).getD i _):=fun i=>by
  rw[wW,cL,List.getD_eq_getElem?_getD,List.getD_eq_getElem?_getD,aCz];cases (dP _ _)[i]?<;>rfl
 rw[g,g,g];rw[cL,aCf]at h
 match e:dP _ _ with
 | []=>rw[e]at h;exact absurd h (by simp)
 | [_]=>rw[e]at h;simp only[aCh,List.length_nil]at h;omega
 | [_,_]=>rw[e]at h;simp only[aCh,List.length_nil]at h;omega
 | [_,_,_]=>rw[e]at h;simp only[aCh,List.length_nil]at h;omega
 |a::b::c::d::r =>
  rw[e]at j;simp[List.map_cons,List.sum_cons,aCh]at j;show a.length+b.length+c.length+3<=_;omega
end Go.Proofs.YtmdicgjnmfolfaaGreatDoor
namespace Go.Proofs.YtmdicgjnmfolfaaGreatDoor
open Go.Proofs.Tryz
open Go.Abs
variable{rP:ByteArray->GObj}
def tK(T:List GFound):Int:=CW (T.getD 0 IL).text
def yY(T:List GFound):List ByteArray:=((T.drop 3).takeWhile fun f=>decide (f.kind=1)).map GFound.text
def O6(T:List GFound):Bool:=decide ((T.getD 2 IL).kind=2)&&decide ((T.getD 3 IL).kind=2)
def X3(s:ByteArray):Int:=HV s (min s.size 7)
def rT(T:List GFound):List GTag×Bool:=if tK T=1 then JJ [] (T.drop 4)else JJ [] (T.drop (3+(yY T).length+1))
def tG(T:List GFound):GObj:=if tK T=1 then⟨(T.getD 1 IL).text,1,X3 (T.getD 2 IL).text,X3 (T.getD 3 IL).text,[],(rT T).1⟩else⟨(T.getD 1 IL).text,tK T,0,0,yY T,(rT T).1⟩
def Kc(s:ByteArray):GObj×Int:=if 20000<s.size then(zObj,2)else if(eX s).2.1=0/\4<=(eX s).1.length then
 (if tK (eX s).1=1/\O6 (eX s).1=false then(zObj,5)else if(rT (eX s).1).2=true/\eS (tG (eX s).1)=(s,0)then(tG (eX s).1,0)else(zObj,5))else(zObj,5)
theorem Y9{s}(hd:∀b∈s.data.toList,48<=b.toNat/\b.toNat<=57):∀k,k<=s.size->∃n,Lib.decFrom 0 (s.data.toList.take k)=some n/\WA s k=n/\HV s k=n
 |0,_=>⟨0,rfl,rfl,rfl⟩
 |k+1,h=>by
  obtain ⟨n,i,g,f⟩:=Y9 hd k (by omega);obtain ⟨b,d⟩:∃b,s.data.toList[k]?=some b:=aT (by rw[bC];omega);have j:=hd b (aCp d);have e:Lib.digitVal b=some (b.toNat - 48):=by rw[Lib.digitVal,aCe j]
  have c:bH s k=(b.toNat):=by rw[bH,d];rfl
  refine⟨n*10+(b.toNat - 48),Lib.decFrom_take _ k 0 n b _ i d e,?_,?_⟩
  ·rw[WA,g];omega
  rw[HV,f,c];show 10*n+((b.toNat:Int) - 48) % 256=_;omega
theorem ic{x}(b:0<=x):(aY x).data.toList=Lib.decDigits x.toNat:=by show (Lib.itoa x).toArray.toList=_;rw[jL _ b]
theorem ES{x:Int}(p:0<=x)(h1:x<10000000):HW (aY x)=x/\X3 (aY x)=x:=by
 have h:=ic p;have i:∀b∈(aY x).data.toList,48<=b.toNat/\b.toNat<=57:=fun b e=>by rw[h]at e;exact qL _ e
 have d:(aY x).size=(Lib.decDigits x.toNat).length:=by rw[<-bC,h]
 have hpos:0<(aY x).size:=by rw[d];exact List.length_pos_iff.2 (sL _)
 have l:(aY x).size<=7:=by rw[d];exact dF (by omega) (by decide)
 obtain ⟨n,k,m,o⟩:=Y9 i (aY x).size (aCl _);rw[List.take_of_length_le (by simp_all),h,oN]at k;cases k;have g:(List.range (aY x).size).all (wb (aY x))=true:=by
  rw[List.all_eq_true];intro j hj;obtain ⟨b,e⟩:∃b,(aY x).data.toList[j]?=some b:=aT (by simp_all);have hm:=i b (aCp e);have f:bH (aY x) j=(b.toNat:Int):=by rw[bH,e];rfl
  rw[wb,f,decide_eq_false (by omega),decide_eq_false (by omega)];rfl
 constructor
 ·rw[HW,g,decide_eq_true l,Bool.and_true,aCe rfl,m];omega
 rw[X3,Nat.min_eq_left l,o];omega
theorem LA{s:ByteArray}:∀(l:List GTag) (i:Nat),(∀t,t∈l->bS t.key=true)->s.data.toList.drop i=mR l->∃T,EC s i (mR l) T/\RM T l/\∀acc,JJ acc T=(acc++l,true)
 | [],i,_,h=>⟨[],all_nil h,⟨rfl,(fun f w=>by cases w),rfl⟩,fun acc=>by rw[JJ,List.append_nil]⟩
 | t::l,i,d,h=>by
  have u:mR (t::l)=32::(t.key.data.toList++61::(cX t.val.data.toList++mR l)):=by
   rw[mR,List.flatMap_cons,PZ];simp[mR]
  rw[u]at h |-;have g:=(oZ h).2.2;have b:=eY g;have a:=(oZ b).2.2;have o:=eY a;obtain ⟨T,r,q,p⟩:=LA l _ (fun t n=>d t (List.mem_cons_of_mem _ n)) o;have j:0<(cX t.val.data.toList).length:=by rw[cX,aCh];omega
  have v:=CO (HN a) rfl (qG a j) j r;have m:=FC b (by decide) v;have k:=mH g (d t List.mem_cons_self) (fun c r' e=>by cases e;exact⟨by decide,by decide,by decide⟩) m;refine⟨_,tP h k,RM.cons q rfl rfl rfl,fun acc=>?_⟩;rw[JJ,p,List.append_assoc];rfl
theorem qg{α:Type}{p}{A B}{c:α}(h:∀a∈A,p a=true)(hc:p c=false):(A++c::B).takeWhile p=A:=by simp_all
theorem rj{o:GObj}(A:nA o=true):∃T,EC (C1 o) 0 (rG o) T/\(∀f,f∈T->f.err=0)/\T.length<=5000/\4<=T.length/\¬ (tK T=1/\O6 T=false)/\(rT T).2=true/\tG T=o:=by
 obtain ⟨hr,ht,M,D,_⟩:=A0 A;obtain ⟨q,V,hn,hz⟩:=cg A;obtain ⟨X,E⟩:=zU (E4 A);have r:∀t,t∈o.tags->bS t.key=true:=fun t h=>((wI.1 M).1 t h).1;have y:=TT o;by_cases n:o.kind=1
 ·have e:rG o=(dZ o.kind).data.toList++32::(o.id.data.toList++32::(Lib.itoa o.x++32::(Lib.itoa o.y++mR o.tags))):=by
   rw[rG,lF,aCe n];simp
  rw[e]at y |-;have u:=eY y;rw[bC]at u;have z:=(oZ u).2.2;have s:=eY z;rw[bC]at s;have B:=(oZ s).2.2;have F:=eY B;have w:=(oZ F).2.2;have J:=eY w;obtain ⟨T,Q,⟨r1,N,r3⟩,I⟩:=LA o.tags _ r J;have b:=mH y X (lC _) (tP u (mH z D (lC _) (tP s (NZ B q.1 (by omega) (lC _) (tP F (NZ w V.1 (by omega) (OH _) Q))))));have g:∀(a b c d:GFound) (R:List GFound),tK (⟨1,dZ o.kind,0,0⟩::b::c::d::R)=1:=fun a b c d R=>by
   show CW (dZ o.kind)=1;rw[E,n]
  refine⟨_,b,fun f m=>?_,?_,?_,?_,?_,?_⟩
  ·simp only[aCr]at m;rcases m with rfl|rfl|rfl|rfl|m
   ·rfl
   ·rfl
   ·rfl
   ·rfl
   exact N f m
  ·simp only[aCh];omega
  ·simp only[aCh];omega
  ·rintro⟨-,h⟩;simp[O6]at h
  ·rw[rT,aCe (g IL _ _ _ _)];show (JJ [] T).2=true;rw[I]
  rw[tG,aCe (g IL _ _ _ _),rT,aCe (g IL _ _ _ _)];show (⟨o.id,1,X3 (aY o.x),X3 (aY o.y),[],(JJ [] T).1⟩:GObj)=o;rw[I,(ES q.1 (by omega)).2,(ES V.1 (by omega)).2];exact NL rfl n rfl rfl (hn n) rfl
 obtain ⟨k,l,p⟩:=TB A n;have v:=tD A;rw[p]at v;have e:rG o=(dZ o.kind).data.toList++32::(o.id.data.toList++32::(40::(k.data.toList++(l.flatMap (fun k=>32::k.data.toList)++41::mR o.tags)))):=by
  rw[rG,lF,aCd n,p,xE];simp
 rw[e]at y |-;have u:=eY y;rw[bC]at u;have z:=(oZ u).2.2;have s:=eY z;rw[bC]at s;have B:=(oZ s).2.2;have F:=(oZ B).2.2;have w:=eY F;rw[bC]at w;have J:=eY w;have h8:=(oZ J).2.2;obtain ⟨T,Q,⟨r1,N,r3⟩,I⟩:=LA o.tags _ r h8;have O:=FC J (by decide) Q;obtain ⟨R,hR,U,W⟩:=RE l _ _ _ (fun x q=>v x (List.mem_cons_of_mem _ q)) w (HM _) O;have K:FP (l.flatMap (fun k=>32::k.data.toList)++41::mR o.tags):=by
  cases l with
  |nil=>exact HM _
  |cons a l=>rw[List.flatMap_cons];exact lC _
 have b:=mH y X (lC _) (tP u (mH z D (lC _) (tP s (FC B (by decide) (mH F (v k List.mem_cons_self) K hR)))));have hRl:R.length=l.length:=by rw[<-U,aCf]
 have hrl:o.refs.length=l.length+1:=by rw[p,aCh]
 have g:∀(b c d:GFound) (Z:List GFound),tK (⟨1,dZ o.kind,0,0⟩::b::c::d::Z)=o.kind:=fun b c d Z=>by
  show CW (dZ o.kind)=_;exact E
 have H:∀(a b c d:GFound) (j:Nat),d.kind=1->yY (a::b::c::d::(R++⟨4,⟨#[41]⟩,j,0⟩::T))=d.text::R.map GFound.text:=fun a b c d j S=>by
  show (((d::R)++⟨4,⟨#[41]⟩,j,0⟩::T).takeWhile _).map GFound.text=_;rw[qg (fun x q=>?_) (by rfl)]
  ·rfl
  rcases aCr.1 q with rfl|q
  ·exact decide_eq_true S
  exact decide_eq_true (W x q).1
 have G:∀(b c d:GFound) (j:Nat),d.kind=1->rT (⟨1,dZ o.kind,0,0⟩::b::c::d::(R++⟨4,⟨#[41]⟩,j,0⟩::T))=(o.tags,true):=fun b c d j S=>by
  rw[rT,aCd (by rw[g];exact n),H _ _ _ _ _ S];have L:∀a b c:GFound,(a::b::c::d::(R++⟨4,⟨#[41]⟩,j,0⟩::T)).drop (3+(d.text::R.map GFound.text).length+1)=T:=fun a b c=>by
   rw[show 3+(d.text::R.map GFound.text).length+1=(a::b::c::d::(R++[⟨4,⟨#[41]⟩,j,0⟩])).length by simp;omega,show a::b::c::d::(R++⟨4,⟨#[41]⟩,j,0⟩::T)=(a::b::c::d::(R++[⟨4,⟨#[41]⟩,j,0⟩]))++T by simp];exact List.drop_left
  rw[L,I];rfl
 refine⟨_,b,fun f m=>?_,?_,?_,?_,?_,?_⟩
 ·simp only[aCr,List.mem_append]at m;rcases m with rfl|rfl|rfl|rfl|m|rfl|m
  ·rfl
  ·rfl
  ·rfl
  ·rfl
  ·exact(W f m).2
  ·rfl
  exact N f m
 ·simp only[aCh,aCg];omega
 ·simp only[aCh,aCg];omega
 ·rintro⟨h,-⟩;rw[g]at h;exact n h
 ·rw[G _ _ _ _ rfl]
 obtain ⟨Y,z2⟩:=hz n;rw[tG,aCd (by rw[g];exact n),G _ _ _ _ rfl,H _ _ _ _ _ rfl,g];refine NL rfl rfl Y z2 ?_ rfl;rw[p,U]
theorem ZD{o}(h:(eS o).2=0):Kc (eS o).1=(o,0):=by
 obtain ⟨c,d,hs⟩:=NM h;obtain ⟨T,b,a,h2,h3,h4,h5,h6⟩:=rj c;have hlex:eX (C1 o)=(T,0,0):=by
  rw[eX,aCd (by omega),b _ (by exact Nat.le_succ _),KM T _ a (by simp_all),List.nil_append]
 rw[d];show Kc (C1 o)=(o,0);rw[Kc,aCd (by omega)]
 simp_all
theorem Lh{a b}(h:ofL a=ofL b):a=b:=by have:=congrArg (fun x=>x.data.toList) h;exact this
theorem qA(l):cL (ofL l)=(dP 32 l).map ofL:=rfl
theorem F7(l)(i):wW (ofL l) i=ofL ((dP 32 l).getD i []):=by rw[wW,qA,List.getD_eq_getElem?_getD,List.getD_eq_getElem?_getD,aCz];cases (dP _ l)[i]?<;>rfl
theorem gy{v}(hv:v.size<=200):eX (ofL (cX v.data.toList))=([⟨3,v,0,0⟩],0,0):=by
 have b:(ofL (cX v.data.toList)).data.toList.drop 0=cX v.data.toList++[]:=by rw[List.append_nil];rfl
 have hl:(cX v.data.toList).length<=402:=by
  have:=QF v.data.toList;rw[bC]at this;rw[cX,aCh,aCg,List.length_singleton];omega
 have c:0<(cX v.data.toList).length:=by rw[cX,aCh];omega
 have d:=CO (HN b) rfl (qG b c) c (all_nil (eY b));rw[eX,aCd (by rw[cM];omega),d _ (by rw[cM,List.append_nil];omega)];rfl
theorem IX{l}{k}:(ofL l).extract k (ofL l).size=ofL (l.drop k):=pD (by rw[uL,dD,dD])
theorem OZ(J:∀o,(eS o).2=0->rP (eS o).1=o){e:GEdit}(K:dT e=true)(A:fG e=0):my rP (ofL (fD e))=e:=by
 obtain ⟨⟨o1,o7⟩,c,j⟩:=tI.1 K;rw[fG]at A;have d:∀ {a b:List UInt8},a≠b->∀ {p:Prop},¬ (ofL a=ofL b/\p):=fun h p M=>h (Lh M.1);by_cases m:e.op=1
 ·rw[aCe m]at A;obtain ⟨hg,N,_⟩:=NM A;have H:=J _ A;rw[BC,aCe m,m]at j;rw[fD,aCe m];have hpos:0<(eS e.obj).1.data.toList.length:=by
   rw[N];show 0<(rG e.obj).length;rw[rG,lF,aCg,aCg,aCh];omega
  have I:wW (ofL (wPut++32::(eS e.obj).1.data.toList)) 0=ofL wPut:=by
   rfl
  rw[my,I,aCe ⟨rfl,by rw[cM,aCg,aCh];show 4<3+_;omega⟩,IX];show (⟨1,sNil,sNil,sNil,0,0,sNil,sNil,[],rP (ofL (eS e.obj).1.data.toList)⟩:GEdit)=e;rw[hY,H];exact j
 rw[rY,aCd m,aCo]at c;obtain ⟨C,c⟩:=c;have y:=lU C;rw[fD,aCd m];by_cases f:e.op=2
 ·rw[aCe f]at c;have r:(0<=e.x/\e.x<1048576)/\0<=e.y/\e.y<1048576:=by
   rw[Bl]at c
   grind
  rw[BC,aCd m,aCe f,f]at j;rw[fV,aCe f];have n1:=E6 r.1.1;have n2:=E6 r.2.1;have i:dP 32 (bU [32] [HF,e.id.data.toList,Lib.itoa e.x,Lib.itoa e.y])=[HF,e.id.data.toList,Lib.itoa e.x,Lib.itoa e.y]:=kE (by decide) (by simp_all);simp only[my,F7,qA,i,List.getD_cons_zero,List.getD_cons_succ];rw[aCd (d (by decide)),aCe ⟨trivial,rfl⟩,hY];show (⟨2,e.id,sNil,sNil,HW (aY e.x),HW (aY e.y),sNil,sNil,[],zObj⟩:GEdit)=e;rw[(ES r.1.1 (by omega)).1,(ES r.2.1 (by omega)).1];exact j
 by_cases g:e.op=3
 ·rw[aCd f,aCe g,aCo,aCm]at c;have B:=lU c.1;rw[BC,aCd m,aCd f,aCe g,g]at j;rw[fV,aCd f,aCe g];have F:bU [32] [zW,e.id.data.toList,e.key.data.toList,cX e.val.data.toList]=zW++32::(e.id.data.toList++32::(e.key.data.toList++32::cX e.val.data.toList)):=by simp[bU]
  have hsp:=qB 32 (cX e.val.data.toList);have i:dP 32 (bU [32] [zW,e.id.data.toList,e.key.data.toList,cX e.val.data.toList])=zW::e.id.data.toList::e.key.data.toList::dP 32 (cX e.val.data.toList):=by
   rw[F,jI (by decide),jI y.1,jI B.1]
  have n:lZ (ofL (bU [32] [zW,e.id.data.toList,e.key.data.toList,cX e.val.data.toList]))=ofL (cX e.val.data.toList):=by
   rw[lZ,IX];simp only[F7,i,List.getD_cons_zero,List.getD_cons_succ,cM];rw[F];congr 1;have:zW++32::(e.id.data.toList++32::(e.key.data.toList++32::cX e.val.data.toList))=(zW++32::(e.id.data.toList++32::(e.key.data.toList++[32])))++cX e.val.data.toList:=by simp
   rw[this,show zW.length+e.id.data.toList.length+e.key.data.toList.length+3=(zW++32::(e.id.data.toList++32::(e.key.data.toList++[32]))).length by grind];exact List.drop_left
  have z:=gy (v:=e.val) (by omega);have D:GF (ofL (bU [32] [zW,e.id.data.toList,e.key.data.toList,cX e.val.data.toList]))=true:=by
   rw[GF,n,z];rfl
  simp only[my,F7,qA,i,List.getD_cons_zero,List.getD_cons_succ,n,D,z];rw[aCd (d (by decide)),aCd (d (by decide)),aCe ⟨⟨trivial,by grind⟩,trivial⟩,hY,hY];exact j
 by_cases l:e.op=4
 ·rw[aCd f,aCd g,aCe l,aCo,aCo,List.all_eq_true]at c;have L:=c.2;rw[BC,aCd m,aCd f,aCd g,aCe l,l]at j;rw[fV,aCd f,aCd g,aCe l];have i:dP 32 (bU [32] (HE::e.id.data.toList::bs e.refs))=HE::e.id.data.toList::bs e.refs:=kE (by decide) (by
   intro w k;rcases aCr.1 k with rfl|k
   ·exact y.1
   obtain ⟨s,i,rfl⟩:=List.mem_map.1 k;exact(lU (L s i)).1)
  simp only[my,F7,qA,i,List.getD_cons_zero,List.getD_cons_succ];rw[aCd (d (by decide)),aCd (d (by decide)),aCd (fun h=>d (by decide) h.1),aCe ⟨trivial,by simp only[aCf,aCh];omega⟩,hY];show (⟨4,e.id,sNil,sNil,0,0,sNil,sNil,(bs e.refs).map ofL,zObj⟩:GEdit)=e;rw[Fi];exact j
 by_cases q:e.op=5
 ·rw[BC,aCd m,aCd f,aCd g,aCd l,aCe q,q]at j;rw[fV,aCd f,aCd g,aCd l,aCe q];have i:dP 32 (bU [32] [HH,e.id.data.toList])=[HH,e.id.data.toList]:=kE (by decide) (by intro w k;rw[aCi]at k;subst k;exact y.1);simp only[my,F7,qA,i,List.getD_cons_zero,List.getD_cons_succ];rw[aCd (d (by decide)),aCd (d (by decide)),aCd (fun h=>d (by decide) h.1),aCd (d (by decide)),aCe ⟨trivial,rfl⟩,hY];exact j
 by_cases x:e.op=6
 ·rw[aCd f,aCd g,aCd l,aCd q,aCe x,aCo]at c;have B:=lU c.1;have E:=lU c.2;rw[BC,aCd m,aCd f,aCd g,aCd l,aCd q,aCe x,x]at j;rw[fV,aCd f,aCd g,aCd l,aCd q,aCe x];have i:dP 32 (bU [32] [BE,e.id.data.toList,e.node.data.toList,e.other.data.toList])=[BE,e.id.data.toList,e.node.data.toList,e.other.data.toList]:=kE (by decide) (by intro w k;simp only[aCr,aCv,or_false]at k;rcases k with rfl|rfl|rfl;all_goals first|exact y.1|exact B.1|exact E.1);simp only[my,F7,qA,i,List.getD_cons_zero,List.getD_cons_succ];rw[aCd (d (by decide)),aCd (d (by decide)),aCd (fun h=>d (by decide) h.1),aCd (d (by decide)),aCd (d (by decide)),aCe ⟨trivial,rfl⟩,hY,hY,hY];exact j
 have G:e.op=7:=by omega
 rw[aCd f,aCd g,aCd l,aCd q,aCd x]at c;have E:=lU c;rw[BC,aCd m,aCd f,aCd g,aCd l,aCd q,aCd x,G]at j;rw[fV,aCd f,aCd g,aCd l,aCd q,aCd x];have i:dP 32 (bU [32] [HG,e.id.data.toList,e.other.data.toList])=[HG,e.id.data.toList,e.other.data.toList]:=kE (by decide) (by intro w k;simp only[aCr,aCv,or_false]at k;rcases k with rfl|rfl;all_goals first|exact y.1|exact E.1);simp only[my,F7,qA,i,List.getD_cons_zero,List.getD_cons_succ];rw[aCd (d (by decide)),aCd (d (by decide)),aCd (fun h=>d (by decide) h.1),aCd (d (by decide)),aCd (d (by decide)),aCd (d (by decide)),aCe ⟨trivial,rfl⟩,hY,hY];exact j
theorem ZB{rE:ByteArray->GEdit}{s:ByteArray}{A w:List UInt8}{r:List UInt8}{acc:List GEdit}(i:s.data.toList=A++(w++r))(f:(10:UInt8)∉w)(h:C8 rE s A.length=(A.length,acc)):∀j,j<=w.length->C8 rE s (A.length+j)=(A.length,acc)
 |0,_=>h
 |j+1,hj=>by
  have g:=ZB i f h j (by omega);have k:s.data.toList[A.length+j]?=w[j]?:=by grind
  obtain ⟨b,c⟩:∃b,w[j]?=some b:=aT (by omega);have d:b≠10:=fun e=>f (by grind);have a:bH s (A.length+j)=(b.toNat:Int):=by rw[bH,k,c];rfl
  rw[show A.length+(j+1)=(A.length+j)+1 by omega,C8,a,aCd ?_,g];rw[aCm];intro e;exact d (UInt8.toNat_inj.1 (by show b.toNat=10;omega))
theorem zw{rE}{s}{A w}{r}{acc}(b:s.data.toList=A++(w++10::r))(c:10∉w)(h:C8 rE s A.length=(A.length,acc)):C8 rE s (A.length+w.length+1)=(A.length+w.length+1,acc++[rE (ofL w)]):=by
 have e:=ZB b c h _ (aCl _);have f:s.data.toList[A.length+w.length]?=some 10:=by simp_all
 have a:bH s (A.length+w.length)=10:=by rw[bH,f];rfl
 have d:s.extract _ _=ofL w:=yR (by rw[b,List.drop_left]);rw[C8,a,e,aCe (show decide _=true by decide),d]
theorem TD{rE}{s:ByteArray}:∀(l) (A) (acc),s.data.toList=A++l.flatMap (fun e=>fD e++[10])->(∀e∈l,(10:UInt8)∉fD e/\rE (ofL (fD e))=e)->C8 rE s A.length=(A.length,acc)->C8 rE s s.size=(s.size,acc++l)
 | [],A,acc,b,_,h=>by
  rw[List.flatMap_nil,List.append_nil]at b;rw[<-bC,b,h,List.append_nil]
 | e::l,A,acc,b,c,h=>by
  rw[List.flatMap_cons,List.append_assoc]at b;obtain ⟨d,h2⟩:=c e List.mem_cons_self;have hn:=zw b d h;have hAl:(A++(fD e++[10])).length=A.length+(fD e).length+1:=by
   grind
  have:=TD (rE:=rE) (s:=s) l (A++(fD e++[10])) (acc++[e]) (by simp_all) (fun x f=>c x (List.mem_cons_of_mem _ f)) (by simp_all);rw[this,List.append_assoc];rfl
theorem Dt{rE}(k:∀e,dT e=true->fG e=0->rE (ofL (fD e))=e)(t):Uq rE t=gT t:=by
 have key:∀l,dS l=(t,0)->(C8 rE t t.size).2=l:=fun l h=>by
  have a:(dS l).2=0:=by rw[h]
  have g:kP l=true:=by
   rw[dS]at a
   grind
  obtain ⟨hne,d⟩:=GU g;rw[dS,aCe g]at h a;obtain ⟨f,i,h3⟩:=OA a;rw[List.nil_append]at i;rw[i]at h;have j:t=ofL _:=(congrArg Prod.fst h).symm;have:=TD (s:=t) l [] [] (by rw[j];rfl) (fun e b=>⟨(J1 (d e b) (f e b)).2,k e (d e b) (f e b)⟩) rfl;rw[this];rfl
 rw[Uq];by_cases c:20000<t.size
 ·rw[aCe c,gT,aCe c]
 rw[aCd c];by_cases h:dS (C8 rE t t.size).2=(t,0)
 ·rw[aCe h];have a:(dS (C8 rE t t.size).2).2=0:=by rw[h]
  have:=DK a;rw[h]at this;exact this.symm
 rw[gT,aCd c]
 grind
theorem fi(n):∀(T) (acc),(∀f∈T,f.text.size<=n)->(∀t∈acc,t.key.size<=n/\t.val.size<=n)->(JJ acc T).1.length<=acc.length+T.length/\∀t∈(JJ acc T).1,t.key.size<=n/\t.val.size<=n
 | [],acc,_,h=>by
  rw[JJ]
  simp_all
 | [a],acc,_,h=>by
  rw[JJ]
  simp_all
 | [a,b],acc,_,h=>by
  rw[JJ]
  simp_all
 | a::b::c::r,acc,e,h=>by
  rw[JJ]
  split
  ·have d:=fi n r (acc++[Ty a c]) (fun f hf=>e f (by grind)) (fun t ht=>by
    grind)
   rw[aCg,List.length_singleton]at d;simp[aCh];exact⟨by omega,d.2⟩
  simp_all
theorem xt{T:List _}{n}(h:∀f∈T,f.text.size<=n)(i):(T.getD i IL).text.size<=n:=by
 rw[List.getD_eq_getElem?_getD];cases e:T[i]? with
 |none=>exact aCw _
 |some f=>grind
theorem oF:ZU zObj:=⟨by decide,⟨by decide,fun t h=>by cases h⟩,by decide,fun s a=>by cases a⟩
theorem mu{T:List GFound}{n:Nat}(hn:n<1099511627776)(d:∀f∈T,f.text.size<=n)(hl:T.length<549755813888):ZU (tG T):=by
 have b:GJ (rT T).1:=by
  rw[rT]
  split
  ·have h:=fi n (T.drop 4) [] (fun f c=>d f (List.mem_of_mem_drop c)) (fun t a=>by cases a);rw[aCu,List.length_nil]at h;exact⟨by omega,fun t a=>⟨by have:=(h.2 t a).1;omega,by have:=(h.2 t a).2;omega⟩⟩
  have h:=fi n (T.drop (3+(yY T).length+1)) [] (fun f c=>d f (List.mem_of_mem_drop c)) (fun t a=>by cases a);rw[aCu,List.length_nil]at h;exact⟨by omega,fun t a=>⟨by have:=(h.2 t a).1;omega,by have:=(h.2 t a).2;omega⟩⟩
 have hid:=xt d 1;rw[tG]
 split
 ·exact⟨by grind,b,by simp_all,fun s e=>by cases e⟩
 refine⟨by grind,b,?_,fun s e=>?_⟩
 ·have:=(List.takeWhile_sublist (l:=T.drop 3) fun f=>decide (f.kind=1)).length_le;rw[yY,aCf];rw[aCu]at this;omega
 obtain ⟨f,c,rfl⟩:=List.mem_map.1 (show s∈yY T from e);have:=d f (List.mem_of_mem_drop ((List.takeWhile_sublist _).subset c));omega
theorem zy{s}(a:s.size<1099511627776):ZU (Kc s).1:=by
 rw[Kc]
 split
 ·exact oF
 split
 ·split
  ·exact oF
  split
  ·exact mu a (fun f b=>EZ s f b) (vT s a)
  exact oF
 exact oF
theorem ek(s):(cL s).length<=s.size+1:=by have a:=GB 32 s.data.toList;rw[bC]at a;rw[cL,aCf];omega
theorem YQ{s w}(h:w∈cL s):w.size<=s.size:=by obtain ⟨x,a,rfl⟩:=List.mem_map.1 h;have:=pZ _ a;rw[bC]at this;show (ofL x).size<=_;rw[cM];omega
theorem DT{f x y}{id b node key d}{refs}{c}(m:id.size<=20000)(j:b.size<=20000)(g:node.size<=20000)(h:key.size<=20000)(e:refs.length<=20001)(l:∀s∈refs,s.size<=20000)(k:ZU c):
  KD ⟨f,id,b,node,x,y,key,d,refs,c⟩/\(⟨f,id,b,node,x,y,key,d,refs,c⟩:GEdit).refs.length<1099511627776 :=
 ⟨⟨⟨Nat.lt_of_le_of_lt m (by simp),Nat.lt_of_le_of_lt j (by simp),Nat.lt_of_le_of_lt g (by simp),Nat.lt_of_le_of_lt h (by simp)⟩,⟨Nat.lt_of_le_of_lt e (by simp),fun s i=>Nat.lt_of_le_of_lt (l s i) (by simp)⟩,k⟩,Nat.lt_of_le_of_lt e (by simp)⟩
theorem Ae(f:∀x:ByteArray,x.size<=20000->ZU (rP x)){s:ByteArray}(e:s.size<=20000):KD (my rP s)/\(my rP s).refs.length<1099511627776:=by
 have b:=fun i=>Nat.le_trans (EG s i) e;have a:(sNil:ByteArray).size<=20000:=aCw _;have d:([]:List ByteArray).length<=20001:=aCw _;have c:∀s∈([]:List ByteArray),s.size<=20000:=fun s h=>by cases h
 rw[my]
 split
 ·exact DT a a a a d c (f _ (Nat.le_trans (fL s _ _) e))
 split
 ·exact DT (b 1) a a a d c oF
 split
 ·exact DT (b 1) a a (b 2) d c oF
 split
 ·exact DT (b 1) a a a (by rw[aCu];have:=ek s;omega) (fun w g=>Nat.le_trans (YQ (List.mem_of_mem_drop g)) e) oF
 split
 ·exact DT (b 1) a a a d c oF
 split
 ·exact DT (b 1) (b 3) (b 2) a d c oF
 split
 ·exact DT (b 1) (b 2) a a d c oF
 exact DT a a a a d c oF
abbrev oQ(id:ByteArray)(k x y:Int)(n:Nat):Ob:=bx 6 151 [sv id,iv k,iv x,iv y,.osl 906 n 0 n,.pv .nils]
def qH(id:ByteArray)(k x y:Int)(R:List ByteArray):aG:=[(906,⟨R.length,1,9,cH R⟩),(7,oQ id k x y R.length),(2,bx 6 151 ((bG zObj).map .pv))]
abbrev qE(s:ByteArray)(T:List GFound):dC:=[(0,sv s),(2,.ref 2 0 0 0),(4,.pv (BP T)),(7,.ref 7 0 0 0)]
theorem aBK(id)(k x y)(R)(s):qH id k x y (R++[s])=[(906,⟨R.length+1,1,9,cH (R++[s])⟩),(7,oQ id k x y (R.length+1)),(2,bx 6 151 ((bG zObj).map .pv))]:=by simp[qH]
theorem xm{α:Type}{p}:∀ {l:List α} {i},i<=(l.takeWhile p).length->(l.length<=i->(l.takeWhile p).length=i)/\∀a,l[i]?=some a->(p a=true->i<(l.takeWhile p).length)/\(p a=false->(l.takeWhile p).length=i)
 | [],i,h=>⟨fun _=>by simp_all,fun a ha=>by grind⟩
 | b::l,i,h=>by
  rw[List.takeWhile_cons]at h |-;by_cases hb:p b=true
  ·cases i with
   |zero=>simp_all
   |succ i =>
    obtain ⟨h1,h2⟩:=xm (l:=l) (p:=p) (i:=i) (by simp_all)
    simp_all
  simp_all
theorem P1{s}(h:s.size<=20000):(eX s).1.length<100000:=by
 unfold eX
 split
 ·decide
 have a:=GO (jM s (s.size+1) 0) [];have h2:=zZ s (s.size+1) 0;rw[List.length_nil]at a;omega
theorem fj(s:ByteArray)(H:aG)(hs:s.size<=20000):RC 164 [sv s] (.tup [av (bG (Kc s).1),iv (Kc s).2]) H:=by
 refine Pu ?_;have hlen:=vT s (by omega);have hlen2:=P1 hs;have hsz:=fun f hf=>EZ s f hf;have u:=mu (n:=s.size) (by omega) hsz hlen;have hlx:=fun H=>nk s H (by omega);rw[Kc,aCd (by omega)];obtain ⟨T,hT⟩:∃T,T=(eX s).1:=⟨_,rfl⟩;obtain ⟨er,her⟩:∃e,e=(eX s).2.1:=⟨_,rfl⟩;obtain ⟨pp,hpp⟩:∃e,e=(eX s).2.2:=⟨_,rfl⟩;simp only[<-hT,<-her,<-hpp]at hlen hlen2 hsz u hlx |-;clear hT her hpp;have hmT:(T.map encTok).length=T.length:=aCf _;refine Bd func164 rfl ntmps164<|Sd (kl 2 SM)<|Zd aH<|Sq<|Sd aC<|Dd (gF underlying9)<|Zd gX ?_;refine Cn ?_ ?_<;>intro hc1
 ·exact absurd (aCb hc1) (by omega)
 refine aA<|Sd aC<|Dd (kc aBo (hlx _))<|Dd aC<|Dd eG<|Dd eG<|Dd eG<|Dd aH<|Dd aH<|Zd aH<|Sq<|Sq ?_;refine aQ (t:=30) (n:=8) (X:=!decide (er=0)||decide (((T.map encTok).length:Int)<4)) ?_ ?_
 ·all_goals refine Dd aC ?_
  all_goals refine Dd rI<|Dm ?_<;>(refine Sp 26 (fun h26=>?_) fun h26=>?_)<;>(try(with_reducible contradiction))<;>(first|refine Fo<|Fo<|Fo ?_|refine On aC<|On (eR cN)<|On cJ ?_)<;>refine Zd cD ?_<;>(exact⟨⟨_,rfl,by simp_all⟩,rfl,rfl,rfl⟩)
 refine Cn ?_ ?_<;>intro hc2
 ·have hb:=hc2;rw[aCd (fun e=>by grind)];refine Sd (nP D7)<|Uu (iP sizeOf151)<|Zd aH<|aB ?_;refine iN (H':=[]) (.inr rfl) rfl (BT bZ sizeOf151) (aJ rfl) (Fin.wk (r:=.tup [av (bG zObj),iv 5]) (by simp) trivial trivial) ?_;exact Qq
 have hb:=hc2;rw[aDB,Bool.not_eq_false',aCm,aCn]at hb;have h4:4<=T.length:=by omega
 rw[aCe ⟨hb.1,h4⟩];obtain ⟨t0,ht0⟩:=aT (show 0<T.length by omega);obtain ⟨t,ht1⟩:=aT (show 1<T.length by omega);obtain ⟨t2,ht2⟩:=aT (show 2<T.length by omega);obtain ⟨t3,ht3⟩:=aT (show 3<T.length by omega);have i0:=cE (f:=encTok) ht0;have i1:=cE (f:=encTok) ht1;have i2:=cE (f:=encTok) ht2;have i3:=cE (f:=encTok) ht3;have hd:∀ {i:Nat} {f:GFound},T[i]?=some f->T.getD i IL=f:=fun {i f} h=>by simp_all
 have d1:=hd ht1;have d2:=hd ht2;have d3:=hd ht3;have q:tK T=CW t0.text:=by rw[tK,hd ht0]
 refine aA<|Sd aC<|Dd (jE gR)<|Dd (C2 gU)<|Dd (fO isAgg9)<|Dd (nP Fk)<|Dd (kl 7 wi)<|Uu (iP sizeOf151)<|Zz<|Sq<|Sq ?_;refine gC.ent (E':=qE s T) (H':=qH t.text 0 0 0 []) (cQ.nz 906 1 9 rfl rfl ⟨⟨_,rfl,(by exact Nz.same (by(simp;done)))⟩,⟨_,rfl,(by exact Nz.same (by(simp;rfl)))⟩,⟨_,rfl,(by exact Nz.same (by(simp;done)))⟩,⟨_,rfl,(by exact Nz.same (by(simp;rfl)))⟩,trivial⟩ ⟨⟨_,rfl,rfl,rfl,rfl,(by exact .inr ⟨_,_,rfl,rfl,(by repeat(first|exact trivial|refine⟨(by first|exact Nz.own|exact Nz.same (by(simp;done))),?_⟩))⟩)⟩,⟨_,rfl,rfl,rfl,rfl,(by exact .inl ⟨rfl,(by(simp;done))⟩)⟩,trivial⟩ trivial) ?_;refine Rg<|Zd aH<|aE ?_;refine bJ (σ:=Nat) (fun j=>(qE s T++[(8,iv ((j+1:Nat):Int))],qH t.text (kF t0.text j) 0 0 [])) (fun j=>j<=5) (fun j=>5 - j) 0 (aCw _) ?_ ?_
 ·exact(cQ.wk (Eb<|Ea<|Eb<|Ea<|Eb<|trivial) (Hc (bQ _ _)<|Ha<|Hb<|trivial) trivial)
 rintro j hj;refine Sq<|Sd aC<|Zd GP ?_;refine Cn ?_ ?_<;>intro hc3
 ·have hj5:j<5:=by have:=aCb hc3;omega
  refine aA<|Sq<|aE<|Sq<|aL follows<|Cq aC<|Cq (jE gR)<|Cq (C2 gU)<|Cq (fO isAgg9)<|Cq aC<|Cq (kc vp (ER ((j+1:Nat):Int) _))<|Cq vF<|bF<|Kr ?_;refine Cn ?_ ?_<;>intro hc4
  ·have hw:t0.text=dZ ((j+1:Nat):Int):=aCb hc4;refine Rd aC<|Dd (aV dW)<|Uu (by exact cV rfl sizeOf3 rfl rfl rfl rfl rfl rfl (by simp only[aCh,List.length_nil];omega) (by simp only[Zl,bM,bG,encStr,fS,encTok];rfl) (by simp only[Zl,bM,bG,encStr,fS,encTok];rfl))<|Zz<|Rd aC<|Dd iF<|Da ?_;refine⟨j+1,by omega,by omega,?_⟩;rw[show kF t0.text (j+1)=((j+1:Nat):Int)by rw[kF,aCe hw.symm]];exact(cQ.wk (Eb<|Ea<|Eb<|Ea<|Eb<|trivial) (Hc (bQ _ _)<|Ha<|Hb<|trivial) trivial)
  have hw:t0.text≠dZ ((j+1:Nat):Int):=aCc hc4;refine aA<|Rd aC<|Dd iF<|Da ?_;refine⟨j+1,by omega,by omega,?_⟩;rw[show kF t0.text (j+1)=kF t0.text j by rw[kF,aCd (Ne.symm hw)]];exact(cQ.wk (Eb<|Ea<|Eb<|Ea<|Eb<|trivial) (Hc (bQ _ _)<|Ha<|Hb<|trivial) trivial)
 have hj5:j=5:=by have:=aCc hc3;omega
 subst hj5;rw[nx];obtain ⟨x,hkd⟩:∃x,x=CW t0.text:=⟨_,rfl⟩;rw[<-hkd]at q |-;clear hkd;refine aS<|Sz aH<|Sq<|Sd (aV dW)<|Dd (bD isAgg3)<|Zd cF ?_;refine Cn ?_ ?_<;>intro hc5
 ·have z:x=1:=aCb hc5;subst z;have z2:t2.text.size<=20000:=Nat.le_trans (hsz _ (aCp ht2)) hs;have z3:t3.text.size<=20000:=Nat.le_trans (hsz _ (aCp ht3)) hs;refine Sq<|Sq ?_;refine aQ (t:=64) (n:=13) (X:=!decide (t2.kind=2)||!decide (t3.kind=2)) ?_ ?_
  ·all_goals refine Dd aC ?_
   all_goals refine Dd (jE gR)<|Dd (C2 uA)<|Dd (fO isAgg3)<|Dd rI<|Dm ?_<;>(refine Sp 58 (fun h58=>?_) fun h58=>?_)<;>(try(with_reducible contradiction))<;>(first|refine Fo<|Fo<|Fo<|Fo<|Fo ?_|refine On aC<|On (jE gR)<|On (C2 uA)<|On (fO isAgg3)<|On rI ?_)<;>refine Zd cD ?_<;>(exact⟨⟨_,rfl,by(simp only[*,Zo];done)⟩,rfl,rfl,rfl⟩)
  refine Cn ?_ ?_<;>intro hc6
  ·have hq:=hc6;rw[aCe ⟨q,by rw[O6,d2,d3];revert hq;cases decide (t2.kind=2)<;>cases decide (t3.kind=2)<;>decide⟩];refine Sd (nP D7)<|Uu (iP sizeOf151)<|Zd aH<|aB ?_;refine iN (H':=[]) (.inr rfl) rfl (BT bZ sizeOf151) (aJ rfl) (Fin.wk (r:=.tup [av (bG zObj),iv 5]) (by simp) trivial trivial) ?_;exact Qq
  have hq:=hc6;rw[aCd (fun e=>by have h2:=e.2;rw[O6,d2,d3]at h2;revert hq h2;cases decide (t2.kind=2)<;>cases decide (t3.kind=2)<;>decide)];have v:min ((4:Nat):Int) ((T.map encTok).length:Int)=((min (4) T.length:Nat):Int):=by rw[hmT];omega
  have hrl3:∀r∈T.map encTok,r.length=3:=fun r hr=>by
   obtain ⟨f,_,rfl⟩:=List.mem_map.1 hr;rfl
  have y:((T.map encTok).take (T.map encTok).length).drop (min (4) T.length)=(T.drop (4)).map encTok:=by
   rw[List.take_length,List.map_drop];rcases Nat.le_total (4) T.length with h|h
   ·rw[Nat.min_eq_left h]
   rw[Nat.min_eq_right h,List.drop_of_length_le (by rw[hmT];exact aCl _),List.drop_of_length_le (by rw[hmT];exact h)]
  have hml:min (4) T.length<=(T.map encTok).length:=by rw[hmT];exact Nat.min_le_right _ _
  have w:=fun H=>J3 (T.drop (4)) H (by rw[aCu];omega);have hTG:=(show rT T=JJ [] (T.drop 4)by rw[rT,aCe q]);have hOT:=(show tG T=⟨t.text,1,X3 t2.text,X3 t3.text,[],(rT T).1⟩by rw[tG,aCe q,d1,d2,d3]);obtain ⟨G,hG⟩:∃G,G=JJ [] (T.drop (4)):=⟨_,rfl⟩;rw[hOT,hTG]at u;rw[hOT,hTG];simp only[<-hG]at w u |-;clear hG hTG hOT;refine aA<|aL follows<|Cr [] (fun _ _=>aC)<|Cr [] (fun _ _=>(jE gR))<|Cr [] (fun _ _=>(C2 gU))<|Cr [] (fun _ _=>(fO isAgg9))<|Cr [] (fun H1 hH=>by exact bL rfl rfl call206 rfl (O5 t2.text _ (by omega)))<|Cr [] (fun _ _=>aC)<|Cr [] (fun _ _=>(jE gR))<|Cr [] (fun _ _=>(C2 gU))<|Cr [] (fun _ _=>(fO isAgg9))<|Cr [] (fun H1 hH=>by exact bL rfl rfl call206 rfl (O5 t3.text _ (by omega)))<|Cr [] (fun _ _=>(nP SK))<|Cr [7] (fun _ h=>fh lV h)<|Cp [7] (fun H1 hH=>by exact mT rfl sizeOf68 rfl rfl rfl rfl ((hH _ rfl).trans rfl) rfl rfl (by simp only[aCh,List.length_nil];omega) (by simp only[Zl,bM,bG,encStr,fS,encTok];rfl) (by simp only[Zl,bM,bG,encStr,fS,encTok];rfl))<|bF<|Kr<|Sq ?_;refine gC.ent (cQ.fzG (id:=906) (E':=qE s T++[(9,iv ((4:Nat):Int))]) (H':=[(7,bx 6 151 [sv (t.text),iv (1),iv ((X3 t2.text)),iv ((X3 t3.text)),.pv (aU (([]:List ByteArray))),.pv .nils]),(2,bx 6 151 ((bG zObj).map .pv))]) ((([]:List ByteArray)).map encStr) rfl (eO _) ?_ rfl ?_ ?_) ?_
  ·intro p hp;simp only[List.cons_append,List.nil_append,aCr,aCv,or_false]at hp;rcases hp with rfl|rfl|rfl|rfl|rfl<;>exact⟨_,rfl,.same (by simp;try rfl)⟩
  ·exact⟨⟨_,rfl,rfl,rfl,rfl,nB rfl (cA (.same (by simp)) (cA (.same (by simp)) (cA (.same (by simp)) (cA (.same (by simp)) (cA (.osl (kX encStr _)) (cA (.same (by simp)) mD))))))⟩,⟨_,rfl,rfl,rfl,rfl,gA (by simp)⟩,trivial⟩
  ·exact trivial
  refine Rd aC<|Dd aC<|Dd aC<|Dd (eR cN)<|Dd (by exact BZ rfl rfl rfl v)<|Dd (by exact mU (l:=(min (4) T.length)) (h:=((T.map encTok).length)) rfl gR rfl (by assumption) rfl rfl (by omega) (by omega) y)<|Dd (kc aBk (w _))<|Dd aC<|Dd eG<|Dd eG<|Dd aH<|Zd aH<|Sd aC<|Dd (aV eT)<|Uu (by exact cV rfl sizeOf149 rfl rfl rfl rfl rfl rfl (by simp only[aCh,List.length_nil];omega) (by simp only[Zl,bM,bG,encStr,fS,encTok];rfl) (by simp only[Zl,bM,bG,encStr,fS,encTok];rfl))<|Zz<|Sd (kY bZ sizeOf151)<|Dd (kc vq (BW ⟨t.text,1,(X3 t2.text),(X3 t3.text),([]:List ByteArray),G.1⟩ _ u))<|Dd aC<|Dd eG<|Dd eG<|Dd aH<|Zd aH<|Sq<|Sq ?_;refine aQ (t:=131) (n:=13) (X:=(!G.2||!decide ((eS ⟨t.text,1,(X3 t2.text),(X3 t3.text),([]:List ByteArray),G.1⟩).2=0))||!decide ((eS ⟨t.text,1,(X3 t2.text),(X3 t3.text),([]:List ByteArray),G.1⟩).1=s)) ?_ ?_
  ·all_goals refine Dd aC ?_
   all_goals refine Dd iJ<|Dm ?_<;>(refine Sp 123 (fun h123=>?_) fun h123=>?_)<;>(try(with_reducible contradiction))<;>(first|refine Fo<|Fo ?_|refine On aC<|On rI ?_)<;>refine Dd cD<|Dm ?_<;>(refine Sp 127 (fun h127=>?_) fun h127=>?_)<;>(try(with_reducible contradiction))<;>(first|refine Fo<|Fo<|Fo ?_|refine On aC<|On aC<|On DH ?_)<;>refine Zd cD ?_<;>(exact⟨⟨_,rfl,by first|(rw[h123];rfl)|(rw[h123,h127];rfl)⟩,rfl,rfl,rfl⟩)
  refine Cn ?_ ?_<;>intro hc7
  ·have hq:=hc7;rw[aCd (fun e=>by rw[e.1,e.2]at hq;simp at hq)];refine Sd (nP D7)<|Uu (iP sizeOf151)<|Zd aH<|aB ?_;refine iN (H':=[]) (.inr rfl) rfl (BT bZ sizeOf151) (aJ rfl) (Fin.wk (r:=.tup [av (bG zObj),iv 5]) (by simp) trivial trivial) ?_;exact Qq
  have hq:=hc7;simp only[aDB,Bool.not_eq_false',aCm]at hq;rw[aCe ⟨hq.1.1,Prod.ext hq.2 hq.1.2⟩];refine aA<|Sd (kY bZ sizeOf151)<|Uu (iP sizeOf151)<|Zd aH<|aB ?_;refine iN (H':=[]) (.inr rfl) rfl (BT bZ sizeOf151) (aJ rfl) (Fin.wk (r:=.tup [av (bG ⟨t.text,1,(X3 t2.text),(X3 t3.text),([]:List ByteArray),G.1⟩),iv 0]) (by simp) trivial trivial) ?_;exact Qq
 have z:x≠1:=aCc hc5;rw[aCd (fun e=>z (q.symm.trans e.1))];obtain ⟨M,hM⟩:∃M,M=T.drop 3:=⟨_,rfl⟩;have hMl:M.length=T.length - 3:=by rw[hM,aCu]
 obtain ⟨W,hW⟩:∃W,W=M.takeWhile fun f=>decide (f.kind=1):=⟨_,rfl⟩;have hWM:W=M.take W.length:=by rw[hW];exact List.prefix_iff_eq_take.1 (List.takeWhile_prefix _)
 have hWl:W.length<=M.length:=by rw[hW];exact(List.takeWhile_sublist _).length_le
 have hRf:yY T=W.map GFound.text:=by rw[yY,hW,hM]
 have hg:∀i,i<=W.length->(M.length<=i->W.length=i)/\∀a,M[i]?=some a->(decide (a.kind=1)=true->i<W.length)/\(decide (a.kind=1)=false->W.length=i):=fun i hi=>by
  rw[hW]at hi |-;exact xm hi
 refine Sz aH<|Sq<|aE ?_;refine bJ (σ:=Nat) (fun i=>(qE s T++[(9,iv ((3+i:Nat):Int))],qH t.text x 0 0 ((M.take i).map GFound.text))) (fun i=>i<=W.length) (fun i=>W.length - i) 0 (aCw _) ?_ ?_
 ·exact(cQ.wk (Eb<|Ea<|Eb<|Ea<|Eb<|trivial) (Hc (bQ _ _)<|Ha<|Hb<|trivial) trivial)
 rintro i hi;obtain ⟨g1,g2⟩:=hg i hi;by_cases hin:3+i<T.length
 ·obtain ⟨f,hf⟩:=aT hin;have hfM:M[i]?=some f:=by rw[hM,List.getElem?_drop];exact hf
  have hif:=cE (f:=encTok) hf;obtain ⟨g3,g4⟩:=g2 f hfM;have A:decide (((3+i:Nat):Int)<((T.map encTok).length:Int))=true:=decide_eq_true (by omega);refine Sq<|Sq ?_;refine aQ (t:=89) (n:=13) (X:=decide (f.kind=1)) ?_ ?_
  ·all_goals refine Dd aC ?_
   all_goals refine Dd aC<|Dd (eR cN)<|Dd (by exact cK.valY (by exact iZ rfl rfl rfl) (A))<|Dm ?_<;>(refine Sp 82 (fun h82=>?_) fun h82=>?_)<;>(try(with_reducible contradiction))<;>refine On aC<|On aC<|On (by exact bP rfl gR rfl rfl (by omega) (aCq (3+i)) hif rfl)<|On (C2 uA)<|On (fO isAgg3)<|On cF<|Zd cD ?_<;>(exact⟨⟨_,rfl,by rfl⟩,rfl,rfl,rfl⟩)
  refine Cn ?_ ?_<;>intro hc8
  ·have hk:=g3 hc8;have hMt:(M.take (i+1)).map GFound.text=(M.take i).map GFound.text++[f.text]:=by rw[List.take_add_one,hfM,List.map_append];rfl
   have hRl:((M.take i).map GFound.text).length=i:=by rw[aCf,aCt];omega
   refine aA<|aE<|Sq<|aL follows<|Cs (fun _ h=>fh dQ h)<|Cs (fun _ h=>lh aF h)<|Cs (fun _ _=>aC)<|Cs (fun _ _=>aC)<|Cs (fun H1 hH=>by exact bP rfl gR rfl rfl (by omega) (aCq (3+i)) hif rfl)<|Cs (fun _ _=>(C2 gU))<|Cs (fun _ _=>(fO isAgg9))<|Cs (fun H1 hH=>by exact aN [encStr f.text] rfl bT rfl rfl rfl rfl rfl (by intro r hr;rw[aCi]at hr;subst hr;rfl)) ?_;refine gW (r:=⟨_,none,[_]⟩) (DStep.plain rfl (fun H1 hH=>by exact cG (ps:=[encStr f.text]) rfl bT zT rfl ((hH _ rfl).trans rfl) rfl rfl rfl (fP _) rfl (by intro r hr;rw[aCi]at hr;subst hr;rfl) (m:=1) rfl (by omega) rfl (jZ ((M.take i).map GFound.text) f.text))) rfl ?_;refine Cs (fun _ h=>fh dQ h) ?_;refine gW (r:=⟨_,none,[_]⟩) (DStep.plain rfl (fun H1 hH=>by exact(by exact cV rfl sizeOf22 rfl rfl rfl ((hH _ rfl).trans rfl) rfl rfl (by simp only[aCh,List.length_nil];omega) (by simp only[Zl,bM,bG,encStr,fS,encTok];rfl) (by simp only[Zl,bM,bG,encStr,fS,encTok];rfl)))) rfl ?_;refine bF<|Kr<|Rd aC<|Dd iF<|Da ?_;refine⟨i+1,by omega,by omega,?_⟩;dsimp only;rw[hMt,aBK];exact(cQ.wk (Eb<|Ea<|Eb<|Ea<|Eb<|trivial) (Hc (bQ _ _)<|Ha<|Hb<|trivial) trivial)
  have hk:=g4 hc8;obtain ⟨R,hR⟩:∃R,R=(M.take i).map GFound.text:=⟨_,rfl⟩;have hWR:yY T=R:=by rw[hRf,hWM,hk,hR]
  rw[<-hR];have v:min (((3+i+1):Nat):Int) ((T.map encTok).length:Int)=((min ((3+i+1)) T.length:Nat):Int):=by rw[hmT];omega
  have hrl3:∀r∈T.map encTok,r.length=3:=fun r hr=>by
   obtain ⟨f,_,rfl⟩:=List.mem_map.1 hr;rfl
  have y:((T.map encTok).take (T.map encTok).length).drop (min ((3+i+1)) T.length)=(T.drop ((3+i+1))).map encTok:=by
   rw[List.take_length,List.map_drop];rcases Nat.le_total ((3+i+1)) T.length with h|h
   ·rw[Nat.min_eq_left h]
   rw[Nat.min_eq_right h,List.drop_of_length_le (by rw[hmT];exact aCl _),List.drop_of_length_le (by rw[hmT];exact h)]
  have hml:min ((3+i+1)) T.length<=(T.map encTok).length:=by rw[hmT];exact Nat.min_le_right _ _
  have w:=fun H=>J3 (T.drop ((3+i+1))) H (by rw[aCu];omega);have hTG:=(show rT T=JJ [] (T.drop (3+i+1))by rw[rT,aCd (fun e=>z (q.symm.trans e)),hRf,aCf,hk]);have hOT:=(show tG T=⟨t.text,x,0,0,R,(rT T).1⟩by rw[tG,aCd (fun e=>z (q.symm.trans e)),d1,q,hWR]);obtain ⟨G,hG⟩:∃G,G=JJ [] (T.drop ((3+i+1))):=⟨_,rfl⟩;rw[hOT,hTG]at u;rw[hOT,hTG];simp only[<-hG]at w u |-;clear hG hTG hOT;refine aS<|Rd aC<|Dd iF<|Zd aH<|Sq ?_;refine gC.ent (cQ.fzG (id:=906) (E':=qE s T++[(9,iv (((3+i+1):Nat):Int))]) (H':=[(7,bx 6 151 [sv (t.text),iv (x),iv (0),iv (0),.pv (aU (R)),.pv .nils]),(2,bx 6 151 ((bG zObj).map .pv))]) ((R).map encStr) rfl (eO _) ?_ rfl ?_ ?_) ?_
  ·intro p hp;simp only[List.cons_append,List.nil_append,aCr,aCv,or_false]at hp;rcases hp with rfl|rfl|rfl|rfl|rfl<;>exact⟨_,rfl,.same (by simp;try rfl)⟩
  ·exact⟨⟨_,rfl,rfl,rfl,rfl,nB rfl (cA (.same (by simp)) (cA (.same (by simp)) (cA (.same (by simp)) (cA (.same (by simp)) (cA (.osl (kX encStr _)) (cA (.same (by simp)) mD))))))⟩,⟨_,rfl,rfl,rfl,rfl,gA (by simp)⟩,trivial⟩
  ·exact trivial
  refine Rd aC<|Dd aC<|Dd aC<|Dd (eR cN)<|Dd (by exact BZ rfl rfl rfl v)<|Dd (by exact mU (l:=(min ((3+i+1)) T.length)) (h:=((T.map encTok).length)) rfl gR rfl (by assumption) rfl rfl (by omega) (by omega) y)<|Dd (kc aBk (w _))<|Dd aC<|Dd eG<|Dd eG<|Dd aH<|Zd aH<|Sd aC<|Dd (aV eT)<|Uu (by exact cV rfl sizeOf149 rfl rfl rfl rfl rfl rfl (by simp only[aCh,List.length_nil];omega) (by simp only[Zl,bM,bG,encStr,fS,encTok];rfl) (by simp only[Zl,bM,bG,encStr,fS,encTok];rfl))<|Zz<|Sd (kY bZ sizeOf151)<|Dd (kc vq (BW ⟨t.text,x,0,0,R,G.1⟩ _ u))<|Dd aC<|Dd eG<|Dd eG<|Dd aH<|Zd aH<|Sq<|Sq ?_;refine aQ (t:=131) (n:=13) (X:=(!G.2||!decide ((eS ⟨t.text,x,0,0,R,G.1⟩).2=0))||!decide ((eS ⟨t.text,x,0,0,R,G.1⟩).1=s)) ?_ ?_
  ·all_goals refine Dd aC ?_
   all_goals refine Dd iJ<|Dm ?_<;>(refine Sp 123 (fun h123=>?_) fun h123=>?_)<;>(try(with_reducible contradiction))<;>(first|refine Fo<|Fo ?_|refine On aC<|On rI ?_)<;>refine Dd cD<|Dm ?_<;>(refine Sp 127 (fun h127=>?_) fun h127=>?_)<;>(try(with_reducible contradiction))<;>(first|refine Fo<|Fo<|Fo ?_|refine On aC<|On aC<|On DH ?_)<;>refine Zd cD ?_<;>(exact⟨⟨_,rfl,by first|(rw[h123];rfl)|(rw[h123,h127];rfl)⟩,rfl,rfl,rfl⟩)
  refine Cn ?_ ?_<;>intro hc9
  ·have hq:=hc9;rw[aCd (fun e=>by rw[e.1,e.2]at hq;simp at hq)];refine Sd (nP D7)<|Uu (iP sizeOf151)<|Zd aH<|aB ?_;refine iN (H':=[]) (.inr rfl) rfl (BT bZ sizeOf151) (aJ rfl) (Fin.wk (r:=.tup [av (bG zObj),iv 5]) (by simp) trivial trivial) ?_;exact Qq
  have hq:=hc9;simp only[aDB,Bool.not_eq_false',aCm]at hq;rw[aCe ⟨hq.1.1,Prod.ext hq.2 hq.1.2⟩];refine aA<|Sd (kY bZ sizeOf151)<|Uu (iP sizeOf151)<|Zd aH<|aB ?_;refine iN (H':=[]) (.inr rfl) rfl (BT bZ sizeOf151) (aJ rfl) (Fin.wk (r:=.tup [av (bG ⟨t.text,x,0,0,R,G.1⟩),iv 0]) (by simp) trivial trivial) ?_;exact Qq
 have hk:=g1 (by omega);have A:decide (((3+i:Nat):Int)<((T.map encTok).length:Int))=false:=decide_eq_false (by omega);obtain ⟨R,hR⟩:∃R,R=(M.take i).map GFound.text:=⟨_,rfl⟩;have hWR:yY T=R:=by rw[hRf,hWM,hk,hR]
 rw[<-hR];refine Sq<|Sq ?_;refine aQ (t:=89) (n:=13) (X:=false) ?_ ?_
 ·all_goals refine Dd aC ?_
  all_goals refine Dd aC<|Dd (eR cN)<|Dd (by exact cK.valY (by exact iZ rfl rfl rfl) (A))<|Dm ?_<;>(refine Sp 82 (fun h82=>?_) fun h82=>?_)<;>(try(with_reducible contradiction))<;>refine Fo<|Fo<|Fo<|Fo<|Fo<|Fo<|Zd cD ?_<;>(exact⟨⟨_,rfl,by rfl⟩,rfl,rfl,rfl⟩)
 refine Cn ?_ ?_<;>intro hc10
 ·cases hc10
 have v:min (((3+i+1):Nat):Int) ((T.map encTok).length:Int)=((min ((3+i+1)) T.length:Nat):Int):=by rw[hmT];omega
 have hrl3:∀r∈T.map encTok,r.length=3:=fun r hr=>by
  obtain ⟨f,_,rfl⟩:=List.mem_map.1 hr;rfl
 have y:((T.map encTok).take (T.map encTok).length).drop (min ((3+i+1)) T.length)=(T.drop ((3+i+1))).map encTok:=by
  rw[List.take_length,List.map_drop];rcases Nat.le_total ((3+i+1)) T.length with h|h
  ·rw[Nat.min_eq_left h]
  rw[Nat.min_eq_right h,List.drop_of_length_le (by rw[hmT];exact aCl _),List.drop_of_length_le (by rw[hmT];exact h)]
 have hml:min ((3+i+1)) T.length<=(T.map encTok).length:=by rw[hmT];exact Nat.min_le_right _ _
 have w:=fun H=>J3 (T.drop ((3+i+1))) H (by rw[aCu];omega);have hTG:=(show rT T=JJ [] (T.drop (3+i+1))by rw[rT,aCd (fun e=>z (q.symm.trans e)),hRf,aCf,hk]);have hOT:=(show tG T=⟨t.text,x,0,0,R,(rT T).1⟩by rw[tG,aCd (fun e=>z (q.symm.trans e)),d1,q,hWR]);obtain ⟨G,hG⟩:∃G,G=JJ [] (T.drop ((3+i+1))):=⟨_,rfl⟩;rw[hOT,hTG]at u;rw[hOT,hTG];simp only[<-hG]at w u |-;clear hG hTG hOT;refine aS<|Rd aC<|Dd iF<|Zd aH<|Sq ?_;refine gC.ent (cQ.fzG (id:=906) (E':=qE s T++[(9,iv (((3+i+1):Nat):Int))]) (H':=[(7,bx 6 151 [sv (t.text),iv (x),iv (0),iv (0),.pv (aU (R)),.pv .nils]),(2,bx 6 151 ((bG zObj).map .pv))]) ((R).map encStr) rfl (eO _) ?_ rfl ?_ ?_) ?_
 ·intro p hp;simp only[List.cons_append,List.nil_append,aCr,aCv,or_false]at hp;rcases hp with rfl|rfl|rfl|rfl|rfl<;>exact⟨_,rfl,.same (by simp;try rfl)⟩
 ·exact⟨⟨_,rfl,rfl,rfl,rfl,nB rfl (cA (.same (by simp)) (cA (.same (by simp)) (cA (.same (by simp)) (cA (.same (by simp)) (cA (.osl (kX encStr _)) (cA (.same (by simp)) mD))))))⟩,⟨_,rfl,rfl,rfl,rfl,gA (by simp)⟩,trivial⟩
 ·exact trivial
 refine Rd aC<|Dd aC<|Dd aC<|Dd (eR cN)<|Dd (by exact BZ rfl rfl rfl v)<|Dd (by exact mU (l:=(min ((3+i+1)) T.length)) (h:=((T.map encTok).length)) rfl gR rfl (by assumption) rfl rfl (by omega) (by omega) y)<|Dd (kc aBk (w _))<|Dd aC<|Dd eG<|Dd eG<|Dd aH<|Zd aH<|Sd aC<|Dd (aV eT)<|Uu (by exact cV rfl sizeOf149 rfl rfl rfl rfl rfl rfl (by simp only[aCh,List.length_nil];omega) (by simp only[Zl,bM,bG,encStr,fS,encTok];rfl) (by simp only[Zl,bM,bG,encStr,fS,encTok];rfl))<|Zz<|Sd (kY bZ sizeOf151)<|Dd (kc vq (BW ⟨t.text,x,0,0,R,G.1⟩ _ u))<|Dd aC<|Dd eG<|Dd eG<|Dd aH<|Zd aH<|Sq<|Sq ?_;refine aQ (t:=131) (n:=13) (X:=(!G.2||!decide ((eS ⟨t.text,x,0,0,R,G.1⟩).2=0))||!decide ((eS ⟨t.text,x,0,0,R,G.1⟩).1=s)) ?_ ?_
 ·all_goals refine Dd aC ?_
  all_goals refine Dd iJ<|Dm ?_<;>(refine Sp 123 (fun h123=>?_) fun h123=>?_)<;>(try(with_reducible contradiction))<;>(first|refine Fo<|Fo ?_|refine On aC<|On rI ?_)<;>refine Dd cD<|Dm ?_<;>(refine Sp 127 (fun h127=>?_) fun h127=>?_)<;>(try(with_reducible contradiction))<;>(first|refine Fo<|Fo<|Fo ?_|refine On aC<|On aC<|On DH ?_)<;>refine Zd cD ?_<;>(exact⟨⟨_,rfl,by first|(rw[h123];rfl)|(rw[h123,h127];rfl)⟩,rfl,rfl,rfl⟩)
 refine Cn ?_ ?_<;>intro hc11
 ·have hq:=hc11;rw[aCd (fun e=>by rw[e.1,e.2]at hq;simp at hq)];refine Sd (nP D7)<|Uu (iP sizeOf151)<|Zd aH<|aB ?_;refine iN (H':=[]) (.inr rfl) rfl (BT bZ sizeOf151) (aJ rfl) (Fin.wk (r:=.tup [av (bG zObj),iv 5]) (by simp) trivial trivial) ?_;exact Qq
 have hq:=hc11;simp only[aDB,Bool.not_eq_false',aCm]at hq;rw[aCe ⟨hq.1.1,Prod.ext hq.2 hq.1.2⟩];refine aA<|Sd (kY bZ sizeOf151)<|Uu (iP sizeOf151)<|Zd aH<|aB ?_;refine iN (H':=[]) (.inr rfl) rfl (BT bZ sizeOf151) (aJ rfl) (Fin.wk (r:=.tup [av (bG ⟨t.text,x,0,0,R,G.1⟩),iv 0]) (by simp) trivial trivial) ?_;exact Qq
end Go.Proofs.YtmdicgjnmfolfaaGreatDoor
namespace Go.Proofs.YtmdicgjnmfolfaaGreatDoor
open Go.Proofs.Tryz
open Go.Abs Go.Lib
theorem Ad{rP:ByteArray->GObj}{rX:ByteArray->Int}(hP:∀(x:ByteArray) (H:aG),x.size<=20000->RC 164 [sv x] (.tup [av (bG (rP x)),iv (rX x)]) H)(s:ByteArray)(H:aG)(hs:s.size<=20000):
  RC 119 [sv s] (av (aZ (my rP s))) H:=by
 refine Pu ?_;have hsp:=fun H=>zp s H (by omega);have hw0:∀i,i<(cL s).length->((cL s).map encStr)[i]?=some (encStr (wW s i)):=fun i hi=>Rb hi;have hf0:4<=(cL s).length->(wW s 0).size+(wW s 1).size+(wW s 2).size+3<=s.size:=Ut;have hpos:0<(cL s).length:=by rw[cL,aCf];exact qB _ _
 rw[my];obtain ⟨L,hL⟩:∃L,L=cL s:=⟨_,rfl⟩;simp only[<-hL]at hsp hw0 hf0 hpos |-;clear hL;have hml:(L.map encStr).length=L.length:=aCf _;have i0:=hw0 0 hpos;refine Bd func119 rfl ntmps119<|Sz (kl 2 N2)<|Sd aC<|Dd (kc call163 (hsp _))<|Zd aH<|Sd aC<|Dd (eR aD)<|Zd aH<|Sq<|Sq ?_;refine aQ (t:=22) (n:=10) (X:=decide (wW s 0=⟨#[112,117,116]⟩)&&decide ((4:Int)<(s.size:Int))) ?_ ?_
 ·all_goals refine Dd aC ?_
  all_goals refine Dd (jE bT)<|Dd (fO isAgg9)<|Dd vF<|Dm ?_<;>(refine Sp 18 (fun h18=>?_) fun h18=>?_)<;>(first|contradiction|refine Fo<|Fo<|Fo ?_|refine On aC<|On (gF underlying9)<|On gX ?_)<;>refine Zd cD ?_<;>(exact⟨⟨_,rfl,by(simp only[*,Zo];done)⟩,rfl,rfl,rfl⟩)
 refine Cn ?_ ?_<;>intro hc1
 ·have h1:wW s 0=ofL wPut/\_:=yU hc1;rw[aCe ⟨h1.1,by omega⟩];refine Sd aC<|Dd (by exact cB (l:=4) (h:=s.size) rfl underlying9 rfl rfl rfl (by omega) (aCl _) rfl)<|Dd (kc call164 (hP (s.extract 4 s.size) _ (Nat.le_trans (fL s 4 s.size) hs)))<|Dd aC<|Dd eG<|Dd eG<|Dd (kl 5 SM)<|Uu (iP sizeOf151)<|Zd aH<|Sd (by exact aM rfl bZ sizeOf151 rfl rfl rfl rfl (by simp only[Zl,bM,bG,encStr,aZ,fS,encTok];rfl) rfl)<|Dd (nP sX)<|Uu (iP aR)<|Zz<|aB ?_;refine dA (H':=[]) (.inr rfl) rfl (BT bW aR) (Fin.wk (r:=av (aZ ⟨1,sNil,sNil,sNil,0,0,sNil,sNil,[],rP (s.extract 4 s.size)⟩)) (by simp) trivial trivial) ?_;exact Qq
 have h1:¬ (wW s 0=ofL wPut/\_):=yV hc1;rw[aCd (fun h=>h1 ⟨h.1,by omega⟩)];refine aA<|Sq<|Sq ?_;refine aQ (t:=38) (n:=9) (X:=decide (wW s 0=⟨#[109,111,118,101]⟩)&&decide (((L.map encStr).length:Int)=4)) ?_ ?_
 ·all_goals refine Dd aC ?_
  all_goals refine Dd (jE bT)<|Dd (fO isAgg9)<|Dd vF<|Dm ?_<;>(refine Sp 35 (fun h35=>?_) fun h35=>?_)<;>(first|contradiction|refine Fo<|Fo ?_|refine On aC<|On cF ?_)<;>refine Zd cD ?_<;>(exact⟨⟨_,rfl,by(simp only[*,Zo];done)⟩,rfl,rfl,rfl⟩)
 refine Cn ?_ ?_<;>intro hc2
 ·have h2:wW s 0=ofL HF/\_:=yU hc2;rw[aCe ⟨h2.1,by omega⟩];have i1:=hw0 1 (by omega);have i2:=hw0 2 (by omega);have i3:=hw0 3 (by omega);have z2:=EG s 2;have z3:=EG s 3;refine Sq<|aL follows<|Cr [] (fun _ _=>aC)<|Cr [] (fun _ _=>(jE bT))<|Cr [] (fun _ _=>(fO isAgg9))<|Cr [] (fun _ _=>aC)<|Cr [] (fun _ _=>(jE bT))<|Cr [] (fun _ _=>(fO isAgg9))<|Cr [] (fun H1 hH=>by exact bL rfl rfl call165 rfl (TE (wW s 2) _ (by omega)))<|Cr [] (fun _ _=>aC)<|Cr [] (fun _ _=>(jE bT))<|Cr [] (fun _ _=>(fO isAgg9))<|Cr [] (fun H1 hH=>by exact bL rfl rfl call165 rfl (TE (wW s 3) _ (by omega)))<|Cr [] (fun _ _=>(nP SK))<|Cr [] (fun _ _=>(nP sX))<|Cp [2] (fun _ h=>sa aR h)<|bF<|Kr<|aB ?_;refine dA (H':=[]) (.inr rfl) rfl (BT bW aR) (Fin.wk (r:=av (aZ ⟨2,wW s 1,sNil,sNil,HW (wW s 2),HW (wW s 3),sNil,sNil,[],zObj⟩)) (by simp) trivial trivial) ?_;exact Qq
 have h2:¬ (wW s 0=ofL HF/\_):=yV hc2;rw[aCd (fun h=>h2 ⟨h.1,by omega⟩)];refine aA ?_;refine eV (fun(_:Unit)=>([(0,sv s),(2,.ref 2 0 0 0),(3,.pv (aU L)),(4,iv ((L.map encStr).length:Int))],[(2,bx 15 153 ((aZ MB).map .pv))])) (fun _=>¬ ((wW s 0=ofL zW/\4<=L.length)/\GF s=true)) ?_ ?_
 ·refine Sq ?_;refine aQ (t:=59) (n:=9) (X:=decide (wW s 0=⟨#[116,97,103]⟩)&&decide ((4:Int)<=((L.map encStr).length:Int))) ?_ ?_
  ·all_goals refine Dd aC ?_
   all_goals refine Dd (jE bT)<|Dd (fO isAgg9)<|Dd vF<|Dm ?_<;>(refine Sp 56 (fun h56=>?_) fun h56=>?_)<;>(try(with_reducible contradiction))<;>(first|refine Fo<|Fo ?_|refine On aC<|On CX ?_)<;>refine Zd cD ?_<;>(exact⟨⟨_,rfl,by(simp only[*,Zo];done)⟩,rfl,rfl,rfl⟩)
  refine Cn ?_ ?_<;>intro hc3
  ·have h3:wW s 0=ofL zW/\_:=yU hc3;have i1:=hw0 1 (by omega);have i2:=hw0 2 (by omega);have z0:=EG s 0;have z1:=EG s 1;have z2:=EG s 2;have hf3:=hf0 (by omega);have hrs:(lZ s).size<=s.size:=fL s _ _;have hlx:=fun H=>nk (lZ s) H (by omega);have hto:GF s=((decide ((eX (lZ s)).2.1=0)&&decide ((eX (lZ s)).1.length=1))&&decide (((eX (lZ s)).1.getD 0 IL).kind=3)):=rfl;obtain ⟨R,hR⟩:∃R,R=lZ s:=⟨_,rfl⟩;have hRx:s.extract ((wW s 0).size+(wW s 1).size+(wW s 2).size+3) s.size=R:=by rw[hR];rfl
   rw[<-hR]at hlx hto;obtain ⟨T,hT⟩:∃T,T=(eX R).1:=⟨_,rfl⟩;obtain ⟨er,her⟩:∃e,e=(eX R).2.1:=⟨_,rfl⟩;obtain ⟨pp,hpp⟩:∃e,e=(eX R).2.2:=⟨_,rfl⟩;have hTr:T=(eX (lZ s)).1:=by rw[hT,hR]
   simp only[<-hT,<-her,<-hpp]at hlx hto;clear hT her hpp hR;have hmT:(T.map encTok).length=T.length:=aCf _;clear h1 h2;by_cases hone:T.length=1
   ·obtain ⟨t,ht⟩:=List.length_eq_one_iff.1 hone;have hi0:(T.map encTok)[0]?=some [.int .i64 t.kind,.str t.text,.int .i64 t.pos]:=by rw[ht];rfl
    have hg0:T.getD 0 IL=t:=by rw[ht];rfl
    rw[hg0,decide_eq_true hone,Bool.and_true]at hto;have hon2:decide (((T.map encTok).length:Int)=1)=true:=decide_eq_true (by omega);refine Sq<|aL follows<|Cq aC<|Cq aC<|Cq (jE bT)<|Cq (fO isAgg9)<|Cq (gF underlying9)<|Cq aC<|Cq (jE bT)<|Cq (fO isAgg9)<|Cq (gF underlying9)<|Cq iF<|Cq aC<|Cq (jE bT)<|Cq (fO isAgg9)<|Cq (gF underlying9)<|Cq iF<|Cq iF<|Cq (by exact cB (l:=(wW s 0).size+(wW s 1).size+(wW s 2).size+3) (h:=s.size) rfl underlying9 rfl rfl rfl hf3 (aCl _) hRx)<|Cq (kc aBo (hlx _))<|Cq aC<|Cq eG<|Cq eG<|Cq eG<|Cq aH<|Cq aH<|Cq aH<|bF<|Kr<|Sq ?_;refine aQ (t:=95) (n:=16) (X:=decide (er=0)&&decide (t.kind=3)) ?_ ?_
    ·all_goals refine Dd aC ?_
     all_goals refine Dd cF<|Dm ?_<;>(refine Sp 84 (fun h84=>?_) fun h84=>?_)<;>(try(with_reducible contradiction))<;>(first|refine Fo<|Fo<|Fo ?_|refine On aC<|On (eR cN)<|On (by exact cK.valY (by exact gS rfl rfl rfl) (hon2)) ?_)<;>refine Dd cD<|Dm ?_<;>(refine Sp 89 (fun h89=>?_) fun h89=>?_)<;>(try(with_reducible contradiction))<;>(first|refine Fo<|Fo<|Fo<|Fo<|Fo ?_|refine On aC<|On (by exact bP rfl gR rfl rfl (by omega) (show (0:Int).toNat=0 from rfl) hi0 rfl)<|On (C2 uA)<|On (fO isAgg3)<|On cF ?_)<;>refine Zd cD ?_<;>(exact⟨⟨_,rfl,by(simp only[*,Zo];done)⟩,rfl,rfl,rfl⟩)
    refine Cn ?_ ?_<;>intro hc4
    ·have hq:GF s=true:=hto.trans hc4;rw[aCe ⟨⟨h3.1,by omega⟩,hq⟩,<-hTr,hg0];refine Sq<|aL follows<|Cr [] (fun _ _=>aC)<|Cr [] (fun H1 hH=>by exact bP rfl bT rfl rfl (by omega) (show (1:Int).toNat=1 from rfl) i1 rfl)<|Cr [] (fun _ _=>(fO isAgg9))<|Cr [] (fun _ _=>aC)<|Cr [] (fun H1 hH=>by exact bP rfl bT rfl rfl (by omega) (show (2:Int).toNat=2 from rfl) i2 rfl)<|Cr [] (fun _ _=>(fO isAgg9))<|Cr [] (fun _ _=>aC)<|Cr [] (fun H1 hH=>by exact bP rfl gR rfl rfl (by omega) (show (0:Int).toNat=0 from rfl) hi0 rfl)<|Cr [] (fun _ _=>(C2 gU))<|Cr [] (fun _ _=>(fO isAgg9))<|Cr [] (fun _ _=>(nP sX))<|Cp [2] (fun _ h=>sa aR h)<|bF<|Kr<|aB ?_;refine dA (H':=[]) (.inr rfl) rfl (BT bW aR) (Fin.wk (r:=av (aZ ⟨3,wW s 1,sNil,sNil,0,0,wW s 2,t.text,[],zObj⟩)) (by simp) trivial trivial) ?_;exact Qq
    have hq:GF s=false:=hto.trans hc4;refine aA ?_;exact⟨(),(fun h=>by have:=h.2;rw[hq]at this;cases this),Wk⟩
   have hon2:decide (((T.map encTok).length:Int)=1)=false:=decide_eq_false (by omega);rw[decide_eq_false hone,Bool.and_false,Bool.false_and]at hto;refine Sq<|aL follows<|Cq aC<|Cq aC<|Cq (jE bT)<|Cq (fO isAgg9)<|Cq (gF underlying9)<|Cq aC<|Cq (jE bT)<|Cq (fO isAgg9)<|Cq (gF underlying9)<|Cq iF<|Cq aC<|Cq (jE bT)<|Cq (fO isAgg9)<|Cq (gF underlying9)<|Cq iF<|Cq iF<|Cq (by exact cB (l:=(wW s 0).size+(wW s 1).size+(wW s 2).size+3) (h:=s.size) rfl underlying9 rfl rfl rfl hf3 (aCl _) hRx)<|Cq (kc aBo (hlx _))<|Cq aC<|Cq eG<|Cq eG<|Cq eG<|Cq aH<|Cq aH<|Cq aH<|bF<|Kr<|Sq ?_;refine aQ (t:=95) (n:=16) (X:=false) ?_ ?_
   ·all_goals refine Dd aC ?_
    all_goals refine Dd cF<|Dm ?_<;>(refine Sp 84 (fun h84=>?_) fun h84=>?_)<;>(try(with_reducible contradiction))<;>(first|refine Fo<|Fo<|Fo ?_|refine On aC<|On (eR cN)<|On (by exact cK.valY (by exact gS rfl rfl rfl) (hon2)) ?_)<;>refine Dd cD<|Dm ?_<;>(refine Sp 89 (fun h89=>?_) fun h89=>?_)<;>(try(with_reducible contradiction))<;>refine Fo<|Fo<|Fo<|Fo<|Fo<|Zd cD ?_<;>(exact⟨⟨_,rfl,by rfl⟩,rfl,rfl,rfl⟩)
   refine Cn ?_ ?_<;>intro hc5
   ·cases hc5
   refine aA ?_;exact⟨(),(fun h=>by have:=h.2;rw[hto]at this;cases this),Wk⟩
  have h3:¬ (wW s 0=ofL zW/\_):=yV hc3;refine aA ?_;exact⟨(),(fun h=>h3 ⟨h.1.1,by omega⟩),Wk⟩
 rintro _ hno;rw[aCd hno];clear h1 h2 hno;refine Sq<|Sq ?_;refine aQ (t:=114) (n:=9) (X:=decide (wW s 0=⟨#[114,101,102,115]⟩)&&decide ((2:Int)<=((L.map encStr).length:Int))) ?_ ?_
 ·all_goals refine Dd aC ?_
  all_goals refine Dd (jE bT)<|Dd (fO isAgg9)<|Dd vF<|Dm ?_<;>(refine Sp 111 (fun h111=>?_) fun h111=>?_)<;>(try(with_reducible contradiction))<;>(first|refine Fo<|Fo ?_|refine On aC<|On CX ?_)<;>refine Zd cD ?_<;>(exact⟨⟨_,rfl,by(simp only[*,Zo];done)⟩,rfl,rfl,rfl⟩)
 refine Cn ?_ ?_<;>intro hc6
 ·have h4:wW s 0=ofL HE/\_:=yU hc6;rw[aCe ⟨h4.1,by omega⟩];have i1:=hw0 1 (by omega);refine Sq<|aL follows<|Cr [] (fun _ _=>aC)<|Cr [] (fun _ _=>(jE bT))<|Cr [] (fun _ _=>(fO isAgg9))<|Cr [] (fun _ _=>aC)<|Cr [] (fun H1 hH=>by exact mU (l:=2) (h:=(L.map encStr).length) (rows':=(L.drop 2).map encStr) rfl bT rfl (GW _) rfl rfl (by omega) (aCl _) (by rw[List.take_length];exact List.map_drop.symm))<|Cr [] (fun _ _=>(nP sX))<|Cp [2] (fun _ h=>sa aR h)<|bF<|Kr<|aB ?_;refine dA (H':=[]) (.inr rfl) rfl (BT bW aR) (Fin.wk (r:=av (aZ ⟨4,wW s 1,sNil,sNil,0,0,sNil,sNil,L.drop 2,zObj⟩)) (by simp) trivial trivial) ?_;exact Qq
 have h4:¬ (wW s 0=ofL HE/\_):=yV hc6;rw[aCd (fun h=>h4 ⟨h.1,by omega⟩)];refine aA<|Sq<|Sq ?_;refine aQ (t:=128) (n:=9) (X:=decide (wW s 0=⟨#[100,114,111,112]⟩)&&decide (((L.map encStr).length:Int)=2)) ?_ ?_
 ·all_goals refine Dd aC ?_
  all_goals refine Dd (jE bT)<|Dd (fO isAgg9)<|Dd vF<|Dm ?_<;>(refine Sp 125 (fun h125=>?_) fun h125=>?_)<;>(try(with_reducible contradiction))<;>(first|refine Fo<|Fo ?_|refine On aC<|On cF ?_)<;>refine Zd cD ?_<;>(exact⟨⟨_,rfl,by(simp only[*,Zo];done)⟩,rfl,rfl,rfl⟩)
 refine Cn ?_ ?_<;>intro hc7
 ·have h5:wW s 0=ofL HH/\_:=yU hc7;rw[aCe ⟨h5.1,by omega⟩];have i1:=hw0 1 (by omega);refine Sd aC<|Dd (jE bT)<|Dd (fO isAgg9)<|Dd (nP sX)<|Uu (iP aR)<|Zz<|aB ?_;refine dA (H':=[]) (.inr rfl) rfl (BT bW aR) (Fin.wk (r:=av (aZ ⟨5,wW s 1,sNil,sNil,0,0,sNil,sNil,[],zObj⟩)) (by simp) trivial trivial) ?_;exact Qq
 have h5:¬ (wW s 0=ofL HH/\_):=yV hc7;rw[aCd (fun h=>h5 ⟨h.1,by omega⟩)];refine aA<|Sq<|Sq ?_;refine aQ (t:=140) (n:=9) (X:=decide (wW s 0=⟨#[115,112,108,105,116]⟩)&&decide (((L.map encStr).length:Int)=4)) ?_ ?_
 ·all_goals refine Dd aC ?_
  all_goals refine Dd (jE bT)<|Dd (fO isAgg9)<|Dd vF<|Dm ?_<;>(refine Sp 137 (fun h137=>?_) fun h137=>?_)<;>(try(with_reducible contradiction))<;>(first|refine Fo<|Fo ?_|refine On aC<|On cF ?_)<;>refine Zd cD ?_<;>(exact⟨⟨_,rfl,by(simp only[*,Zo];done)⟩,rfl,rfl,rfl⟩)
 refine Cn ?_ ?_<;>intro hc8
 ·have h6:wW s 0=ofL BE/\_:=yU hc8;rw[aCe ⟨h6.1,by omega⟩];have i1:=hw0 1 (by omega);have i2:=hw0 2 (by omega);have i3:=hw0 3 (by omega);refine Sq<|aL follows<|Cr [] (fun _ _=>aC)<|Cr [] (fun _ _=>(jE bT))<|Cr [] (fun _ _=>(fO isAgg9))<|Cr [] (fun _ _=>aC)<|Cr [] (fun _ _=>(jE bT))<|Cr [] (fun _ _=>(fO isAgg9))<|Cr [] (fun _ _=>aC)<|Cr [] (fun _ _=>(jE bT))<|Cr [] (fun _ _=>(fO isAgg9))<|Cr [] (fun _ _=>(nP sX))<|Cp [2] (fun _ h=>sa aR h)<|bF<|Kr<|aB ?_;refine dA (H':=[]) (.inr rfl) rfl (BT bW aR) (Fin.wk (r:=av (aZ ⟨6,wW s 1,wW s 3,wW s 2,0,0,sNil,sNil,[],zObj⟩)) (by simp) trivial trivial) ?_;exact Qq
 have h6:¬ (wW s 0=ofL BE/\_):=yV hc8;rw[aCd (fun h=>h6 ⟨h.1,by omega⟩)];refine aA<|Sq<|Sq ?_;refine aQ (t:=158) (n:=9) (X:=decide (wW s 0=⟨#[106,111,105,110]⟩)&&decide (((L.map encStr).length:Int)=3)) ?_ ?_
 ·all_goals refine Dd aC ?_
  all_goals refine Dd (jE bT)<|Dd (fO isAgg9)<|Dd vF<|Dm ?_<;>(refine Sp 155 (fun h155=>?_) fun h155=>?_)<;>(try(with_reducible contradiction))<;>(first|refine Fo<|Fo ?_|refine On aC<|On cF ?_)<;>refine Zd cD ?_<;>(exact⟨⟨_,rfl,by(simp only[*,Zo];done)⟩,rfl,rfl,rfl⟩)
 refine Cn ?_ ?_<;>intro hc9
 ·have h7:wW s 0=ofL HG/\_:=yU hc9;rw[aCe ⟨h7.1,by omega⟩];have i1:=hw0 1 (by omega);have i2:=hw0 2 (by omega);refine Sq<|aL follows<|Cr [] (fun _ _=>aC)<|Cr [] (fun _ _=>(jE bT))<|Cr [] (fun _ _=>(fO isAgg9))<|Cr [] (fun _ _=>aC)<|Cr [] (fun _ _=>(jE bT))<|Cr [] (fun _ _=>(fO isAgg9))<|Cr [] (fun _ _=>(nP sX))<|Cp [2] (fun _ h=>sa aR h)<|bF<|Kr<|aB ?_;refine dA (H':=[]) (.inr rfl) rfl (BT bW aR) (Fin.wk (r:=av (aZ ⟨7,wW s 1,wW s 2,sNil,0,0,sNil,sNil,[],zObj⟩)) (by simp) trivial trivial) ?_;exact Qq
 have h7:¬ (wW s 0=ofL HG/\_):=yV hc9;rw[aCd (fun h=>h7 ⟨h.1,by omega⟩)];refine aA<|Sd (nP sX)<|Uu (iP aR)<|Zz<|aB ?_;refine dA (H':=[]) (.inr rfl) rfl (BT bW aR) (Fin.wk (r:=av (aZ MB)) (by simp) trivial trivial) ?_;exact Qq
theorem UY(s)(H):∀r∈fE s,∀a∈r,Clo H a:=by intro r d a c;obtain ⟨b,_,rfl⟩:=List.mem_map.1 d;rw[aCi.1 c];exact .pv _
abbrev TX:ByteArray:=⟨#[48,49,50,51,52,53,54,55,56,57]⟩
theorem Rl:∀q:Fin 10,(TX.extract q.1 (q.1+1)).data.toList=[UInt8.ofNat (48+q.1)]:=fun q=>by
 revert q;decide
theorem xl{q}(h:q<10):TX.extract q (q+1)=ofL [UInt8.ofNat (48+q)]:=pD (by rw[Rl ⟨q,h⟩,dD])
theorem Br(a b):ofL a++ofL b=ofL (a++b):=pD (rfl)
def XC(v:Nat):List UInt8:=if v=0 then[]else decDigits v
theorem ug{v}(h:0<v)(t):XC (v / 10)++(UInt8.ofNat (48+v % 10)::t)=XC v++t:=by
 have e:XC v=decDigits v:=aCd (by omega);rw[e,decDigits];by_cases a:v<10
 ·rw[dif_pos a,XC,aCe (by omega),Nat.mod_eq_of_lt a];rfl
 rw[dif_neg a,XC,aCd (by omega),List.append_assoc];rfl
theorem jd(n):XC (n / 10)++[UInt8.ofNat (48+n % 10)]=decDigits n:=by
 rw[decDigits];by_cases a:n<10
 ·rw[dif_pos a,XC,aCe (by omega),Nat.mod_eq_of_lt a];rfl
 rw[dif_neg a,XC,aCd (by omega)]
theorem Y7(n:Nat)(hn:n<9223372036854775808)(H:aG):RC 142 [uv n] (sv (ofL (decDigits n))) H:=by
 refine Pu ?_;have step:∀v:Nat,v<18446744073709551616->((v:Nat):Int).tmod 10=((v % 10:Nat):Int)/\IntKind.u64.wrap (((v:Nat):Int).tdiv 10)=((v / 10:Nat):Int)/\IntKind.u64.wrap (((v % 10:Nat):Int)+1)=((v % 10+1:Nat):Int)/\v % 10<10/\v % 10+1<=TX.size:=fun v z=>by
  refine⟨by rfl,by rw[Int.tdiv_eq_ediv_of_nonneg (by omega),IntKind.wrap_u64];omega,by rw[IntKind.wrap_u64];omega,Nat.mod_lt _ (by decide),?_⟩;have:TX.size=10:=rfl;omega
 obtain ⟨l,y,u,w,p⟩:=step n (by omega);have e:=xl w;have b:=jd n;obtain ⟨g,i⟩:∃g,g=n % 10:=⟨_,rfl⟩;rw[<-i]at l u w p e b;refine Bd func142 rfl ntmps142<|Sz aH<|Sd aC<|Dd (by exact tX rfl rfl rfl (by decide) l)<|Dd aC<|Dd (by exact tX rfl rfl rfl (by decide) l)<|Dd (ka u)<|Dd (by exact cB (l:=g) (h:=g+1) rfl underlying9 rfl rfl rfl (by omega) p e)<|Zd aH<|Sq<|Sd aC<|Dd (by exact vP rfl rfl rfl (by decide) y)<|Zd aH<|aE ?_;refine fZ (fun(v:Nat) (t:List UInt8)=>([(0,uv v),(3,sv (ofL t))],[])) (fun v t=>v<9223372036854775808/\XC v++t=decDigits n) (fun v t=>v) (n / 10) [UInt8.ofNat (48+g)] ⟨by omega,b⟩ ?_ ?_
 ·exact Wk
 rintro v t ⟨z,d⟩;obtain ⟨j,x,s,q,o⟩:=step v (by omega);have e:=xl q;have hlen:t.length<=21:=by
  have B:=congrArg List.length d;rw[aCg]at B;have h2:=dF (k:=19) (u:=n) (by omega) (by decide);omega
 by_cases A:0<v
 ·have c:=ug A t;rw[d]at c;obtain ⟨g,i⟩:∃g,g=v % 10:=⟨_,rfl⟩;rw[<-i]at j s q o e c;refine Sq<|Sd aC<|Zd gX ?_;refine Cn ?_ ?_<;>intro f
  ·refine aA<|Sq<|aE<|Rd aC<|Dd (by exact tX rfl rfl rfl (by decide) j)<|Dd aC<|Dd (by exact tX rfl rfl rfl (by decide) j)<|Dd (ka s)<|Dd (by exact cB (l:=g) (h:=g+1) rfl underlying9 rfl rfl rfl (by omega) o e)<|Dd aC<|Dd (by exact fM rfl rfl rfl (by rw[cM,cM,List.length_singleton];omega) (Br [UInt8.ofNat (48+g)] t))<|Zd aH<|Rd aC<|Dd (by exact vP rfl rfl rfl (by decide) x)<|Da ?_;exact⟨v / 10,UInt8.ofNat (48+g)::t,⟨by omega,c⟩,by omega,Wk⟩
  (have h:=aCc f;omega)
 have k:v=0:=by omega
 subst k;have C:t=decDigits n:=d;subst C;refine Sq<|Sd aC<|Zd gX ?_;refine Cn ?_ ?_<;>intro m
 ·cases m
 exact aS<|Sd aC<|Zd aH<|aB<|Rt<|Qq
theorem O0(n:Nat)(d:n<9223372036854775808)(H):RC 99 [iv n] (sv (ofL (decDigits n))) H:=by
 refine Pu ?_;have c:=fun H=>Y7 n d H;refine Bd func99 rfl ntmps99<|Sz aH<|Sq<|Sd aC<|Zd cJ ?_;refine Cn ?_ ?_<;>intro b
 ·(have h:=aCb b;omega)
 exact aA<|Sd aC<|Dd (fA rfl underlying3 iU rfl (YI (by omega)))<|Dd (bL rfl rfl call142 rfl (c _))<|Zd aH<|aB<|Rt<|Qq
def HJ(L:List ByteArray):Nat:=(L.map fun s=>s.size+21).sum
theorem qh(L)(s):HJ (L++[s])=HJ L+(s.size+21):=by rw[HJ,List.map_append,List.sum_append];rfl
theorem lp:∀ {L},(∀s∈L,s.size<=100000000)->HJ L<=L.length*100000021
 | [],_=>aCw _
 |s::r,h=>by
  have ih:=lp (fun x a=>h x (List.mem_cons_of_mem _ a));show s.size+21+HJ r<=_
  grind
theorem T7:∀ {L},(∀s∈L,s.size<=100000000)->(aP L).length<=HJ L
 | [],_=>aCw _
 |s::r,h=>by
  have ih:=T7 (fun x a=>h x (List.mem_cons_of_mem _ a));have hs:=h s List.mem_cons_self;have hd:=dF (k:=9) (u:=s.size) (by omega) (by simp);rw[mS,aCg,aCh,aCg,bC];show _<=s.size+21+HJ r;omega
theorem Z9(L)(s):aP (L++[s])=(aP L++decDigits s.size)++[58]++s.data.toList:=by
 rw[aa,mS];show aP L++(decDigits _++58::(s.data.toList++[]))=_
 simp_all
theorem S8(L:List ByteArray)(hL:L.length<=100000)(t:∀s∈L,s.size<=100000000)(H:aG):RC 45 [.pv (aU L)] (sv (ofL (aP L))) H:=by
 refine Pu ?_;have hml:(L.map encStr).length=L.length:=aCf _;have f:∀i,HJ (L.take i)<=10000002100000:=fun i=>by
  have h1:=lp (L:=L.take i) (fun s h=>t s (List.mem_of_mem_take h));have B:(L.take i).length<=100000:=by grind
  have h3:=Nat.mul_le_mul_right 100000021 B;omega
 have n:∀i,(aP (L.take i)).length<=HJ (L.take i):=fun i=>T7 fun s h=>t s (List.mem_of_mem_take h);refine Bd func45 rfl ntmps45<|Sz aH<|Sz aH<|Sq<|Sz aH<|aE ?_;refine bJ (σ:=Nat) (fun i=>([(0,.pv (aU L)),(3,iv (HJ (L.take i):Int)),(4,iv (i:Int))],[])) (fun i=>i<=L.length) (fun i=>L.length - i) 0 (aCw _) ?_ ?_
 ·exact Wk
 intro i A;have y:=f i;refine Sq<|Sd aC<|Dd aC<|Dd (eR aD)<|Zd cJ ?_;refine Cn ?_ ?_<;>intro q
 ·have g:i<L.length:=by have:=aCb q;omega
  obtain ⟨s,c⟩:=aT g;have e:=cE (f:=encStr) c;have w:=t s (aCp c);have d:HJ (L.take (i+1))=HJ (L.take i)+(s.size+21):=by rw[kA c,qh]
  refine aA<|Sq<|aE<|Rd aC<|Dd aC<|Dd aC<|Dd (by exact bP rfl bT rfl rfl (by omega) (by rfl) e rfl)<|Dd (fO isAgg9)<|Dd (gF underlying9)<|Dd (by exact eA rfl rfl rfl (show IntKind.i64.wrap ((s.size:Int)+21)=((s.size+21:Nat):Int)by rw[lI (by omega) (by omega)];omega))<|Dd (by exact eA rfl rfl rfl (show IntKind.i64.wrap ((HJ (L.take i):Int)+((s.size+21:Nat):Int))=((HJ (L.take (i+1)):Nat):Int)by rw[d,lI (by omega) (by omega)];omega))<|Zd aH<|Rd aC<|Dd kp<|Da ?_;exact⟨i+1,by omega,by omega,Wk⟩
 have j:i=L.length:=by have:=aCc q;omega
 refine aS<|Sd aC<|Dd (by exact DB (id:=905) rfl AA Qe zo5 rfl rfl rfl (by omega) (by omega) (by exact aCq _) (by exact aCq _) (by omega) rfl)<|Zd aH<|Sq<|Sz aH<|aE ?_;refine bJ (σ:=Nat) (fun i=>([(0,.pv (aU L)),(5,.osl 905 (3*i) 0 (aP (L.take i)).length),(6,iv (i:Int))],[(905,⟨3*i,1,5,fE (aP (L.take i))⟩)])) (fun i=>i<=L.length) (fun i=>L.length - i) 0 (aCw _) ?_ ?_
 ·exact(cQ.wk (Eb<|Ea<|Eb<|trivial) (Hc (UY _ _)<|trivial) trivial)
 clear j y A;intro i A;have y:=f i;have z:=n i;have hb2:=f (i+1);have hj2:=n (i+1);refine Sq<|Sd aC<|Dd aC<|Dd (eR aD)<|Zd cJ ?_;refine Cn ?_ ?_<;>intro k
 ·have g:i<L.length:=by have:=aCb k;omega
  obtain ⟨s,c⟩:=aT g;have e:=cE (f:=encStr) c;have w:=t s (aCp c);have l:=fun H=>O0 s.size (by omega) H;have d:aP (L.take (i+1))=(aP (L.take i)++decDigits s.size)++[58]++s.data.toList:=by rw[kA c,Z9]
  have hdl:=dF (k:=9) (u:=s.size) (by omega) (by decide);obtain ⟨J,u⟩:∃J,J=aP (L.take i):=⟨_,rfl⟩;rw[<-u]at d z |-;have m:=cM (decDigits s.size);have v:(fE (J++decDigits s.size)).length=J.length+(decDigits s.size).length:=by rw[rC,aCg]
  have x:(fE ((J++decDigits s.size)++[58])).length=J.length+(decDigits s.size).length+1:=by rw[rC,aCg,aCg];rfl
  refine aA<|Sq<|aE<|Sd aC<|Dd aC<|Dd aC<|Dd (kx bT e)<|Dd (fO isAgg9)<|Dd (gF underlying9)<|Dd (kc jB (l _))<|Dd (by exact vM (rows':=fE (J++decDigits s.size)) (k:=J.length+(decDigits s.size).length) rfl AA underlying9 Qe MY rfl rfl rfl rfl rfl (rC J) rfl (by rw[m];omega) (by rw[m]) (by rw[dD];exact tO J (decDigits s.size)))<|Zd aH<|Sd aC<|Dd (by exact aN [[.int .u8 58]] rfl AA rfl rfl rfl rfl rfl (by simp))<|Dd (by exact cG (k:=J.length+(decDigits s.size).length+1) (ps:=[[.int .u8 58]]) rfl AA Qe rfl rfl rfl rfl rfl v rfl (by simp) (m:=1) rfl (by omega) rfl (tO (J++decDigits s.size) [58]))<|Zd aH<|Rd aC<|Dd aC<|Dm ?_;refine Dd (jE bT)<|Dd (fO isAgg9 (hi:=e))<|Dd (by exact vM (k:=J.length+(decDigits s.size).length+1+s.size) rfl AA underlying9 Qe MY rfl rfl rfl rfl rfl x rfl (by omega) rfl (tO ((J++decDigits s.size)++[58]) s.data.toList))<|Zd aH<|Rd aC<|Dd kp<|Da ?_;refine⟨i+1,by omega,by omega,?_⟩;rw[d];have o:(J++decDigits s.size++[58]++s.data.toList).length=J.length+(decDigits s.size).length+1+s.size:=by
   rw[aCg,aCg,aCg,bC];rfl
  rw[o];exact(cQ.wk (Eb<|Ea<|Eb<|trivial) (Hc (UY _ _)<|trivial) trivial)
 have j:i=L.length:=by have:=aCc k;omega
 subst j;rw[List.take_length]at z |-;obtain ⟨J,u⟩:∃J,J=aP L:=⟨_,rfl⟩;rw[<-u];have p:((fE J).drop 0).take J.length=fE J:=by rw[List.drop_zero,List.take_of_length_le (by rw[rC];exact aCl _)]
 exact aS<|Sd aC<|Dd (by exact R4 rfl dG eB underlying9 rfl rfl rfl rfl p rfl)<|Zd aH<|aB<|Rt<|Qq
end Go.Proofs.YtmdicgjnmfolfaaGreatDoor
