/-
  Parts of the proof: rules of a program logic, contracts, plain laws. Conditions: each theorem's own.
-/
import Derived.Test.YtmdicgjnmfolfaaGreatDoorKR7M9
set_option linter.unusedVariables false
set_option linter.unusedSimpArgs false
set_option maxRecDepth 100000
set_option maxHeartbeats 8000000
namespace Go.Proofs
open Tryz
theorem aBp:type_of% call157:=call157
theorem Hy:type_of% call88:=call88
end Go.Proofs
namespace Go.Proofs.YtmdicgjnmfolfaaGreatDoor
open Go.Proofs.Tryz
open Go.Abs
variable{α:Type}{i:Nat}
theorem HT(f:α->List _)(l:List _):l.map (fun e=>(f e).map AV.pv)=(l.map f).map (·.map .pv):=by simp
theorem kX(f:α->List PV)(l:List _):((l.map f).take (0+l.length)).drop 0=l.map f:=List.take_of_length_le (by simp)
theorem tn(f)(H):RC 232 [av (encTok f)] (bv (jQ f)) H:=by
 refine Pu ?_;refine Bd func232 rfl ntmps232<|Sd (rW (id:=1) rfl rfl rfl rfl rfl)<|Zd aH<|Sq ?_;refine aQ (t:=2) (n:=10) (X:=jQ f) ?_ ?_
 ·all_goals refine Dd (aV gU) ?_
  all_goals refine Dd (bD isAgg9)<|Dd vF<|Dm ?_<;>(refine Sp 6 (fun b=>?_) fun b=>?_)<;>(first|refine Fo<|Fo<|Fo ?_|refine On (aV uA)<|On (bD isAgg3)<|On cF ?_)<;>refine Dd cD<|Da ?_<;>(exact⟨⟨_,rfl,by(simp only[jQ, *];rfl)⟩,rfl,rfl,rfl⟩)
 exact aB<|Rt<|Qq
theorem KQ(l)(H:aG)(hl:l.length<4611686018427387904):
  RC 231 [.pv (BP l),.pv (.fn 232)] (iv (zD jQ l)) H:=by
 refine Pu ?_;have hml:(l.map encTok).length=l.length:=aCf _;refine Bd func231 rfl ntmps231<|Sz aH<|Sq<|Sd aC<|Dd (eR cN)<|Zd aC<|aE ?_;refine bJ (σ:=Nat) (fun k=>([(0,.pv (BP l)),(1,.pv (.fn 232)),(7,iv ((l.map encTok).length:Int)),(8,iv (k:Int))],[])) (fun k=>k<=l.length/\∀j,j<k->∀b,l[j]?=some b->jQ b=false) (fun k=>l.length - k) 0 ⟨by omega,by omega⟩ ?_ ?_
 ·exact E0
 rintro k ⟨hk,d⟩;refine Sz cJ<|Sq ?_;refine Cn ?_ ?_<;>intro f
 ·have i:k<l.length:=by have:=aCb f;omega
  obtain ⟨o,h⟩:=aT i;have hi:=cE (f:=encTok) h;refine aA<|Sq<|aE<|Sd aC<|Zd aH<|Sd aC<|Dd aC<|Dd aC<|Dd (jE gR)<|Dd (by exact dM rfl iK sizeOf187 rfl (by omega) (rfl) rfl)<|Zd (by exact cW rfl rfl rfl (dI.fn call232 (tn o _))) ?_;refine Cn ?_ ?_<;>intro e
  ·refine Sd aC<|Zd aH<|aB<|Rt ?_;exact⟨by rw[zD,UK d h e],rfl⟩
  refine aA<|Rd iF<|Zd aC ?_;exact⟨k+1,⟨by omega,wV d h e⟩,by omega,E0⟩
 have g:k=l.length:=by have:=aCc f;omega
 subst g;refine aS<|Sz aH<|aB<|Rt ?_;exact⟨by rw[zD,UL d],rfl⟩
def H8(T:List GFound)(k:Nat):List GFound:=T++List.replicate k IL
theorem H7(T)(k):(H8 T k).length=T.length+k:=by rw[H8,aCg,List.length_replicate]
theorem Av(T)(k):kT (H8 T k)++[(encTok IL).map AV.pv]=kT (H8 T (k+1)):=by rw[BI,H8,H8,List.replicate_succ',List.append_assoc]
def kF(s:ByteArray):Nat->Int
 |0=>0
 |j+1=>if dZ ((j+1:Nat):Int)=s then((j+1:Nat):Int)else kF s j
theorem nx(s):kF s 5=CW s:=by simp only[kF,CW,eq_comm];rfl
theorem OD:∀l,qU l=eZ l (l.length / 3)
 | []=>rfl
 | [a]=>by simp[qU,eZ]
 | [a,b]=>by simp[qU,eZ]
 |a::b::c::r=>by
  rw[qU,OD r];have d:(a::b::c::r).length=r.length+3:=rfl;rw[d,Nat.add_div_right _ (by simp),eZ,eZ,List.range_succ_eq_map,List.map_cons,List.map_map];rfl
theorem Gh(s):Vr s=(oY s).1:=by rw[Vr,oY];all_goals grind
abbrev oR(id:ByteArray)(k x y:Int)(n m:Nat):Ob:=bx 6 151 [sv id,iv k,iv x,iv y,.osl 906 n 0 n,.osl 907 m 0 m]
def X1(L:List GFound):Ob:=⟨L.length,3,187,kT L⟩
def rH(L:List GFound)(id:ByteArray)(k x y:Int)(R:List ByteArray)(G:List GTag):aG:=[(907,⟨G.length,2,199,rM G⟩),(906,⟨R.length,1,9,cH R⟩),(3,oR id k x y R.length G.length),(905,X1 L),(2,bx 6 151 ((bG zObj).map .pv))]
abbrev rE(L:List GFound):dC:=[(0,.osl 905 L.length 0 L.length),(2,.ref 2 0 0 0),(3,.ref 3 0 0 0)]
theorem aBJ(L)(id)(k x y)(R)(s)(G):rH L id k x y (R++[s]) G=[(907,⟨G.length,2,199,rM G⟩),(906,⟨R.length+1,1,9,cH (R++[s])⟩),(3,oR id k x y (R.length+1) G.length),(905,X1 L),(2,bx 6 151 ((bG zObj).map .pv))]:=by simp[rH]
theorem Yj(L)(id)(k x y)(R)(t)(G):rH L id k x y R (G++[t])=[(907,⟨G.length+1,2,199,rM (G++[t])⟩),(906,⟨R.length,1,9,cH R⟩),(3,oR id k x y R.length (G.length+1)),(905,X1 L),(2,bx 6 151 ((bG zObj).map .pv))]:=by simp[rH]
theorem BH{L}{f}(h:L[i]?=some f):(kT L)[i]?=some [iv f.kind,sv f.text,iv (f.pos)]:=by rw[kT,aCz,h];rfl
theorem Sa(T:List GFound)(hl:T.length<549755813888)(F:∀f∈uT T,f.text.size<1099511627776):aW Tryz.prog 195 [.osl 905 T.length 0 T.length] [(905,X1 T)] (fun r H'=>r=av (bG (sG T))/\H'=[(905,X1 (uT T))]):=by
 refine Bd func195 rfl ntmps195<|Sz (kl 2 SM)<|Sq<|aE ?_;refine bJ (σ:=Nat) (fun k=>([(0,.osl 905 (H8 T k).length 0 (H8 T k).length),(2,.ref 2 0 0 0)],[(905,X1 (H8 T k)),(2,bx 6 151 ((bG zObj).map .pv))])) (fun k=>k<=4 - T.length) (fun k=>4 - T.length - k) 0 (aCw _) ?_ ?_
 ·rw[show H8 T 0=T by simp[H8]];exact(cQ.wk (Ea<|Ea<|trivial) (Hc (cP _ _)<|Hb<|trivial) ⟨rfl,trivial⟩)
 rintro k hk;have K:=H7 T k;unfold X1;refine Sq<|Sd aC<|Dd (by exact dU rfl cN rfl rfl rfl)<|Zd cJ ?_;refine Cn ?_ ?_<;>intro Y
 ·have Z:T.length+k<4:=by have:=aCb Y;rw[K]at this;omega
  refine aA<|aE<|Rd aC<|Dd (nP F4)<|Dd (by exact aN [encTok IL] rfl gR rfl rfl rfl rfl rfl (by intro r hr;rw[aCi]at hr;subst hr;rfl))<|Dd (by exact cG (ps:=[encTok IL]) rfl gR ov rfl rfl rfl rfl rfl (wP _) rfl (by intro r hr;rw[aCi]at hr;subst hr;rfl) (m:=1) rfl (by omega) rfl (Av T k))<|Da ?_;refine⟨k+1,by omega,by omega,?_⟩;rw[show (H8 T (k+1)).length=(H8 T k).length+1 by rw[H7,H7];omega];exact(cQ.wk (Ea<|Ea<|trivial) (Hc (cP _ _)<|Hb<|trivial) ⟨rfl,trivial⟩)
 have W:4<=T.length+k:=by have:=aCc Y;rw[K]at this;omega
 obtain rfl:k=4 - T.length:=by omega
 obtain ⟨L,hL⟩:∃L,L=H8 T (4 - T.length):=⟨_,rfl⟩;have G:uT T=L:=by rw[hL];rfl
 have hLl:4<=L.length/\L.length<549755813893:=by rw[hL,H7];omega
 rw[G]at F;rw[G,<-hL];clear K;obtain ⟨I,V⟩:=aT (show 0<L.length by omega);obtain ⟨t1,ht1⟩:=aT (show 1<L.length by omega);obtain ⟨P,J⟩:=aT (show 2<L.length by omega);obtain ⟨Q,O⟩:=aT (show 3<L.length by omega);have w:=BH V;have hr1:=BH ht1;have s:=BH J;have hr3:=BH O;have hd:∀ {i:Nat} {f:GFound},L[i]?=some f->L.getD i IL=f:=fun {i f} h=>by rw[List.getD_eq_getElem?_getD,h];rfl
 have hR:=sG.eq_1 T;rw[G,hd V,hd ht1,hd J,hd O]at hR;refine aS<|Sd aC<|Dd (by exact dN rfl gR rfl rfl rfl rfl rfl (by omega) (by exact aCq _) (show 1<L.length by omega) rfl)<|Dd (aV gU)<|Dd (by exact bA rfl isAgg9 rfl rfl rfl hr1 rfl)<|Dd (nP Fk)<|Dd (kl 3 wi)<|Uu (iP sizeOf151)<|Zz<|Sq<|Sq ?_;refine gC.ent (E':=rE L) (H':=[(906,⟨0,1,9,[]⟩),(3,bx 6 151 [sv t1.text,iv 0,iv 0,iv 0,.osl 906 0 0 0,.pv .nils]),(905,X1 L),(2,bx 6 151 ((bG zObj).map .pv))]) (cQ.nz 906 1 9 rfl rfl ⟨⟨_,rfl,(by exact Nz.same (by(simp;rfl)))⟩,⟨_,rfl,(by exact Nz.same (by(simp;rfl)))⟩,⟨_,rfl,(by exact Nz.same (by(simp;rfl)))⟩,trivial⟩ ⟨⟨_,rfl,rfl,rfl,rfl,(by exact .inr ⟨_,_,rfl,rfl,(by repeat(first|exact trivial|refine⟨(by first|exact Nz.own|exact Nz.same (by(simp;done))),?_⟩))⟩)⟩,⟨_,rfl,rfl,rfl,rfl,(by exact .inl ⟨rfl,(by exact cP _ _)⟩)⟩,⟨_,rfl,rfl,rfl,rfl,(by exact .inl ⟨rfl,(by(simp;done))⟩)⟩,trivial⟩ ⟨rfl,trivial⟩) ?_;refine gC.ent (E':=rE L) (H':=rH L t1.text 0 0 0 [] []) (cQ.nz 907 2 199 rfl rfl ⟨⟨_,rfl,(by exact Nz.same (by(simp;rfl)))⟩,⟨_,rfl,(by exact Nz.same (by(simp;rfl)))⟩,⟨_,rfl,(by exact Nz.same (by(simp;rfl)))⟩,trivial⟩ ⟨⟨_,rfl,rfl,rfl,rfl,(by exact .inl ⟨rfl,(by exact bQ _ _)⟩)⟩,⟨_,rfl,rfl,rfl,rfl,(by exact .inr ⟨_,_,rfl,rfl,(by repeat(first|exact trivial|refine⟨(by first|exact Nz.own|exact Nz.same (by first|(simp;done)|(simp;rfl))),?_⟩))⟩)⟩,⟨_,rfl,rfl,rfl,rfl,(by exact .inl ⟨rfl,(by exact cP _ _)⟩)⟩,⟨_,rfl,rfl,rfl,rfl,(by exact .inl ⟨rfl,(by(simp;done))⟩)⟩,trivial⟩ ⟨rfl,trivial⟩) ?_;refine Rg<|Zd aH<|aE ?_;refine bJ (σ:=Nat) (fun j=>(rE L++[(4,iv ((j+1:Nat):Int))],rH L t1.text (kF I.text j) 0 0 [] [])) (fun j=>j<=5) (fun j=>5 - j) 0 (aCw _) ?_ ?_
 ·exact(cQ.wk (Ea<|Ea<|Ea<|Eb<|trivial) (Hc (kC _ _)<|Hc (bQ _ _)<|Hc (by(simp;exact⟨rfl,rfl⟩))<|Hc (cP _ _)<|Hb<|trivial) ⟨rfl,trivial⟩)
 rintro j hj;refine Sq<|Sd aC<|Zd GP ?_;refine Cn ?_ ?_<;>intro X
 ·have hj5:j<5:=by have:=aCb X;omega
  refine aA<|Sq<|aE<|Sq<|aL follows<|Cq aC<|Cq (kc zM (F6 ((j+1:Nat):Int) _))<|Cq aC<|Cq (by exact dN rfl gR rfl rfl rfl rfl rfl (by omega) (by exact aCq _) (show 0<L.length by omega) rfl)<|Cq (aV gU)<|Cq (by exact bA rfl isAgg9 rfl rfl rfl w rfl)<|Cq vF<|bF<|Kr ?_;refine Cn ?_ ?_<;>intro hc3
  ·have hw:dZ ((j+1:Nat):Int)=I.text:=aCb hc3;refine Rd aC<|Dd (aV dW)<|Uu (by exact cV rfl sizeOf3 rfl rfl rfl rfl rfl rfl (by simp only[aCh,List.length_nil];omega) (by simp only[Zl,bM,bG,encStr,fS,encTok];rfl) (by simp only[Zl,bM,bG,encStr,fS,encTok];rfl))<|Zz<|Rd aC<|Dd iF<|Da ?_;refine⟨j+1,by omega,by omega,?_⟩;rw[show kF I.text (j+1)=((j+1:Nat):Int)by rw[kF,aCe hw]];exact(cQ.wk (Ea<|Ea<|Ea<|Eb<|trivial) (Hc (kC _ _)<|Hc (bQ _ _)<|Hc (by(simp;exact⟨rfl,rfl⟩))<|Hc (cP _ _)<|Hb<|trivial) ⟨rfl,trivial⟩)
  have hw:dZ ((j+1:Nat):Int)≠I.text:=aCc hc3;refine aA<|Rd aC<|Dd iF<|Da ?_;refine⟨j+1,by omega,by omega,?_⟩;rw[show kF I.text (j+1)=kF I.text j by rw[kF,aCd hw]];exact(cQ.wk (Ea<|Ea<|Ea<|Eb<|trivial) (Hc (kC _ _)<|Hc (bQ _ _)<|Hc (by(simp;exact⟨rfl,rfl⟩))<|Hc (cP _ _)<|Hb<|trivial) ⟨rfl,trivial⟩)
 have hj5:j=5:=by have:=aCc X;omega
 subst hj5;rw[nx];obtain ⟨A,hkd⟩:∃A,A=CW I.text:=⟨_,rfl⟩;rw[<-hkd]at hR |-;have htk:(kT L).length=L.length:=wP L;refine aS<|Sd aC<|Dd (by exact jU (l:=4) (h:=L.length) rfl gR rfl rfl rfl rfl rfl rfl (by omega) (by omega) rfl rfl)<|Zd aH<|Sq<|Sd (aV dW)<|Dd (bD isAgg3)<|Zd cF ?_;refine Cn ?_ ?_<;>intro R
 ·have z:A=1:=aCb R;have hR2:sG T=⟨t1.text,1,Vr P.text,Vr Q.text,[],qU (L.drop 4)⟩:=by rw[hR,aCe z]
  subst z;refine Sd aC<|Dd (by exact dN rfl gR rfl rfl rfl rfl rfl (by omega) (by exact aCq _) (show 2<L.length by omega) rfl)<|Dd (aV gU)<|Dd (by exact bA rfl isAgg9 rfl rfl rfl s rfl)<|Dd (kc zQ (NX P.text (F _ (aCp J)) _))<|Dd aC<|Dd eG<|Dd eG<|Dd (aV lV)<|Dd (aV pC)<|Uu (by exact cV rfl sizeOf3 rfl rfl rfl rfl rfl rfl (by simp only[aCh,List.length_nil];omega) (by simp only[Zl,bM,bG,encStr,fS,encTok];rfl) (by simp only[Zl,bM,bG,encStr,fS,encTok];rfl))<|Zz<|Rd aC<|Dd (by exact dN rfl gR rfl rfl rfl rfl rfl (by omega) (by exact aCq _) (show 3<L.length by omega) rfl)<|Dd (aV gU)<|Dd (by exact bA rfl isAgg9 rfl rfl rfl hr3 rfl)<|Dd (kc zQ (NX Q.text (F _ (aCp O)) _)) ?_;refine Dd aC<|Dd eG<|Dd eG<|Dd (aV lV)<|Dd (aV pB)<|Uu (by exact cV rfl sizeOf3 rfl rfl rfl rfl rfl rfl (by simp only[aCh,List.length_nil];omega) (by simp only[Zl,bM,bG,encStr,fS,encTok];rfl) (by simp only[Zl,bM,bG,encStr,fS,encTok];rfl))<|Zz<|Sq<|aE ?_;obtain ⟨D,E⟩:∃D,D=L.drop 4:=⟨_,rfl⟩;have hDl:D.length=L.length - 4:=by rw[E,aCu]
  refine bJ (σ:=Nat) (fun j=>(rE L++[(5,.osl 905 L.length (4+3*j) (L.length - 4 - 3*j))],rH L t1.text 1 (oY P.text).1 (oY Q.text).1 ([]:List ByteArray) (eZ D j))) (fun j=>3*j<=D.length) (fun j=>D.length - 3*j) 0 (aCw _) ?_ ?_
  ·exact(cQ.wk (Ea<|Ea<|Ea<|Ea<|trivial) (Hc (kC _ _)<|Hc (bQ _ _)<|Hc (by(simp;exact⟨rfl,rfl⟩))<|Hc (cP _ _)<|Hb<|trivial) ⟨rfl,trivial⟩)
  rintro j hj;have C:=D1 D j;have hfl:=F0 D j;refine Sq<|Sd aC<|Dd (by exact dU rfl cN rfl rfl rfl)<|Zd gX ?_;refine Cn ?_ ?_<;>intro hc5
  ·have Z:3*j+2<D.length:=by have:=aCb hc5;omega
   obtain ⟨y,u⟩:∃f,L[4+3*j]?=some f:=aT (by omega);obtain ⟨x,v⟩:∃f,L[4+3*j+2]?=some f:=aT (by omega);have w:=BH u;have s:=BH v;have B:SZ D j=⟨y.text,x.text⟩:=by
    rw[SZ,E,List.getElem?_drop,List.getElem?_drop,u,show 4+(3*j+2)=4+3*j+2 from rfl,v];rfl
   refine aA<|Sq<|aE<|aL follows<|Cs (fun _ h=>fh eT h)<|Cs (fun _ h=>lh cU h)<|Cs (fun _ _=>aC)<|Cs (fun H1 hH=>by exact dN rfl gR rfl ((hH _ rfl).trans rfl) rfl rfl rfl (by omega) (by exact aCq _) (show 0<L.length - 4 - 3*j by omega) rfl)<|Cs (fun _ h=>fh gU h)<|Cs (fun H1 hH=>by exact bA rfl isAgg9 rfl ((hH _ rfl).trans rfl) rfl w rfl)<|Cs (fun _ _=>aC)<|Cs (fun H1 hH=>by exact dN rfl gR rfl ((hH _ rfl).trans rfl) rfl rfl rfl (by omega) (by exact aCq _) (show 2<L.length - 4 - 3*j by omega) rfl)<|Cs (fun _ h=>fh gU h)<|Cs (fun H1 hH=>by exact bA rfl isAgg9 rfl ((hH _ rfl).trans rfl) rfl s rfl)<|Cs (fun _ _=>(nP Fl))<|Cs (fun H1 hH=>by exact aN [bM ⟨y.text,x.text⟩] rfl jX rfl rfl rfl rfl rfl (by intro r hr;rw[aCi]at hr;subst hr;rfl)) ?_;refine gW (r:=⟨_,none,[_]⟩) (DStep.plain rfl (fun H1 hH=>by exact cG (ps:=[bM ⟨y.text,x.text⟩]) rfl jX Em rfl ((hH _ rfl).trans rfl) rfl rfl rfl (F9 _) rfl (by intro r hr;rw[aCi]at hr;subst hr;rfl) (m:=1) rfl (by omega) rfl (GA (eZ D j) ⟨y.text,x.text⟩))) rfl ?_;refine Cs (fun _ h=>fh eT h) ?_;refine gW (r:=⟨_,none,[_]⟩) (DStep.plain rfl (fun H1 hH=>by exact(by exact cV rfl sizeOf149 rfl rfl rfl ((hH _ rfl).trans rfl) rfl rfl (by simp only[aCh,List.length_nil];omega) (by simp only[Zl,bM,bG,encStr,fS,encTok];rfl) (by simp only[Zl,bM,bG,encStr,fS,encTok];rfl)))) rfl ?_;refine bF<|Kr<|Rd aC<|Dd (by exact jU (l:=3) (h:=(L.length - 4 - 3*j)) rfl gR rfl rfl rfl rfl rfl rfl (by omega) (by omega) rfl rfl)<|Da ?_;refine⟨j+1,by omega,by omega,?_⟩;dsimp only;rw[C,B,Yj];exact(cQ.wk (Ea<|Ea<|Ea<|Ea<|trivial) (Hc (kC _ _)<|Hc (bQ _ _)<|Hc (by(simp;exact⟨rfl,rfl⟩))<|Hc (cP _ _)<|Hb<|trivial) ⟨rfl,trivial⟩)
  have W:D.length<3*j+3:=by have:=aCc hc5;omega
  have N:D.length / 3=j:=by omega
  have hG:qU D=eZ D j:=by rw[OD,N]
  refine aS<|Sq ?_;refine gC.ent (cQ.fzG (id:=907) (E':=rE L) (H':=[(906,⟨(([]:List ByteArray)).length,1,9,cH (([]:List ByteArray))⟩),(3,bx 6 151 [sv (t1.text),iv (1),iv ((oY P.text).1),iv ((oY Q.text).1),.osl 906 (([]:List ByteArray)).length 0 (([]:List ByteArray)).length,.pv (oG (eZ D j))]),(905,X1 L),(2,bx 6 151 ((bG zObj).map .pv))]) ((eZ D j).map bM) rfl (HT bM _) ?_ rfl ?_ ?_) ?_
  ·intro p t;simp only[aCr,aCv,or_false]at t;rcases t with rfl|rfl|rfl<;>exact⟨_,rfl,.same (by simp;rfl)⟩
  ·exact⟨⟨_,rfl,rfl,rfl,rfl,gA (bQ _ _)⟩,⟨_,rfl,rfl,rfl,rfl,nB rfl (cA (.same (by simp)) (cA (.same (by simp)) (cA (.same (by simp)) (cA (.same (by simp)) (cA (.same (by simp;rfl)) (cA (.osl (kX bM _)) mD))))))⟩,⟨_,rfl,rfl,rfl,rfl,gA (cP _ _)⟩,⟨_,rfl,rfl,rfl,rfl,gA (by simp)⟩,trivial⟩
  ·exact⟨rfl,trivial⟩
  refine gC.ent (cQ.fzG (id:=906) (E':=rE L) (H':=[(3,bx 6 151 [sv (t1.text),iv (1),iv ((oY P.text).1),iv ((oY Q.text).1),.pv (aU (([]:List ByteArray))),.pv (oG (eZ D j))]),(905,X1 L),(2,bx 6 151 ((bG zObj).map .pv))]) ((([]:List ByteArray)).map encStr) rfl (eO _) ?_ rfl ?_ ?_) ?_
  ·intro p t;simp only[aCr,aCv,or_false]at t;rcases t with rfl|rfl|rfl<;>exact⟨_,rfl,.same (by simp;rfl)⟩
  ·exact⟨⟨_,rfl,rfl,rfl,rfl,nB rfl (cA (.same (by simp)) (cA (.same (by simp)) (cA (.same (by simp)) (cA (.same (by simp)) (cA (.osl (kX encStr _)) (cA (.same (by simp)) mD))))))⟩,⟨_,rfl,rfl,rfl,rfl,gA (cP _ _)⟩,⟨_,rfl,rfl,rfl,rfl,gA (by simp)⟩,trivial⟩
  ·exact⟨rfl,trivial⟩
  refine Rd (by exact aM rfl bZ sizeOf151 rfl rfl rfl rfl (by simp only[Zl,bM,bG,encStr,fS,encTok];rfl) rfl)<|Uu (iP sizeOf151)<|Zz<|aB ?_;refine dA (H':=[(905,X1 L)]) (.inr rfl) rfl (eU rfl bZ sizeOf151 rfl rfl rfl (by simp only[Zl,bM,bG,encStr,fS,encTok];rfl) rfl) (Fin.wk (by(simp;done)) (Hc (cP _ _)<|trivial) ⟨rfl,trivial⟩) ?_;refine⟨?_,rfl⟩;rw[(show sG T=⟨t1.text,1,(oY P.text).1,(oY Q.text).1,[],qU (L.drop 4)⟩by rw[hR2,Gh,Gh]),<-E,hG];rfl
 have z:A≠1:=aCc R;rw[aCd z]at hR;have hIx:=KQ L [] (by omega);have hIr:∀H,H.get 905=some (X1 L)->RC 231 [.osl 905 L.length 0 L.length,.pv (.fn 232)] (iv (zD jQ L)) H:=fun H hH =>
  RO.calls (RO.lend (id:=905) (H1:=[]) (L.map encTok) (RO.of hIx rfl) hH (HT encTok L) rfl
   (cA (.osl (kX encTok L)) (cA (.same (by simp)) mD)) (fun _ _ h=>by cases h) (fun _ _ h=>by cases h) rfl)
 refine Sd aC<|Dd (kc call231 (hIr _ rfl))<|Zd aH<|Sq<|Sd aC<|Zd cJ ?_;refine Cn ?_ ?_<;>intro S
 ·have hlo:zD jQ L<3:=aCb S;rw[aCe hlo]at hR;rw[hR];refine Sd (nP D7)<|Uu (iP sizeOf151)<|Zz<|aB ?_;refine dA (H':=[(905,X1 L)]) (.inr rfl) rfl (eU rfl bZ sizeOf151 rfl rfl rfl (by simp only[Zl,bM,bG,encStr,fS,encTok];rfl) rfl) (Fin.wk (by(simp;done)) (Hc (cP _ _)<|trivial) ⟨rfl,trivial⟩) ?_;exact Qq
 have hlo:¬ zD jQ L<3:=aCc S;rw[aCd hlo]at hR;obtain ⟨q,hq,hqL⟩:∃q:Nat,zD jQ L=(q:Int)/\q<L.length:=by
  rcases iq jQ L with⟨e1,_⟩|⟨q,o,e1,e2,_⟩
  ·rw[e1]at hlo;exact absurd (by decide) hlo
  exact⟨q,e1,(aCj.1 e2).1⟩
 rw[hq]at hR hlo |-;rw[aCq]at hR;have hq3:3<=q:=by omega
 obtain ⟨M,hM⟩:∃M,M=(L.take q).drop 3:=⟨_,rfl⟩;have hMl:M.length=q - 3:=by rw[hM,aCu,aCt];omega
 rw[<-hM]at hR;refine aA<|Sq<|Sd aC<|Dd aC<|Dd (by exact jU (l:=3) (h:=q) rfl gR rfl rfl rfl rfl rfl rfl (by omega) (by omega) rfl rfl)<|Dd (by exact dU rfl cN rfl rfl rfl)<|Zd aC<|aE ?_;refine bJ (σ:=Nat) (fun i=>(rE L++[(5,.osl 905 L.length 4 (L.length - 4)),(6,iv (q:Int)),(66,.osl 905 L.length 3 (q - 3)),(67,iv ((q - 3:Nat):Int)),(68,iv (i:Int))],rH L t1.text A 0 0 ((M.take i).map GFound.text) [])) (fun i=>i<=M.length) (fun i=>M.length - i) 0 (aCw _) ?_ ?_
 ·exact(cQ.wk (Ea<|Ea<|Ea<|Ea<|Eb<|Ea<|Eb<|Eb<|trivial) (Hc (kC _ _)<|Hc (bQ _ _)<|Hc (by(simp;exact⟨rfl,rfl⟩))<|Hc (cP _ _)<|Hb<|trivial) ⟨rfl,trivial⟩)
 rintro i hi;refine Sz cJ<|Sq ?_;refine Cn ?_ ?_<;>intro U
 ·have hiq:i<q - 3:=by have:=aCb U;omega
  obtain ⟨f,hf⟩:=aT (show i<M.length by omega);have hfL:L[3+i]?=some f:=by
   rw[hM,List.getElem?_drop,List.getElem?_take_of_lt (by omega)]at hf;exact hf
  have hrf:=BH hfL;have hMt:(M.take (i+1)).map GFound.text=(M.take i).map GFound.text++[f.text]:=by rw[List.take_add_one,hf,List.map_append];rfl
  have hRl:((M.take i).map GFound.text).length=i:=by rw[aCf,aCt];omega
  refine aA<|Sq<|aE<|Sd (by exact dN rfl gR rfl rfl rfl rfl rfl (by omega) (by exact aCq _) (by omega) rfl)<|Dd (by exact aM rfl iK sizeOf187 rfl rfl rfl hrf (by simp only[Zl,bM,bG,encStr,fS,encTok];rfl) rfl)<|Dd (kl 8 jx)<|Uu (iP sizeOf187)<|Zz<|Rd (aV dQ)<|Dd (bD aF)<|Dd (aV gU)<|Dd (bD isAgg9)<|Dd (by exact aN [encStr f.text] rfl bT rfl rfl rfl rfl rfl (by intro r hr;rw[aCi]at hr;subst hr;rfl))<|Dd (by exact cG (ps:=[encStr f.text]) rfl bT zT rfl rfl rfl rfl rfl (fP _) rfl (by intro r hr;rw[aCi]at hr;subst hr;rfl) (m:=1) rfl (by omega) rfl (jZ ((M.take i).map GFound.text) f.text))<|Dd (aV dQ)<|Uu (by exact cV rfl sizeOf22 rfl rfl rfl rfl rfl rfl (by simp only[aCh,List.length_nil];omega) (by simp only[Zl,bM,bG,encStr,fS,encTok];rfl) (by simp only[Zl,bM,bG,encStr,fS,encTok];rfl)) ?_;refine Zz<|Rd iF<|Zd aC ?_;refine⟨i+1,by omega,by omega,?_⟩;dsimp only;rw[hMt,aBJ];exact(cQ.wk (Ea<|Ea<|Ea<|Ea<|Eb<|Ea<|Eb<|Eb<|trivial) (Hc (kC _ _)<|Hc (bQ _ _)<|Hc (by(simp;exact⟨rfl,rfl⟩))<|Hc (cP _ _)<|Hb<|trivial) ⟨rfl,trivial⟩)
 have hiq:i=q - 3:=by have:=aCc U;omega
 have hMi:M.take i=M:=List.take_of_length_le (by omega);rw[hMi];refine aS<|Rd aC<|Dd aC<|Dd kp<|Dd (by exact jU (l:=(q+1)) (h:=L.length) rfl gR rfl rfl rfl rfl rfl rfl (by omega) (by omega) rfl rfl)<|Zd aH<|Sq<|aE ?_;rw[<-aCx (q+1)]at hR;obtain ⟨D,E⟩:∃D,D=L.drop (0+(q+1)):=⟨_,rfl⟩;have hDl:D.length=L.length - (0+(q+1)):=by rw[E,aCu]
 refine bJ (σ:=Nat) (fun j=>(rE L++[(5,.osl 905 L.length ((0+(q+1))+3*j) (L.length - (q+1) - 3*j))],rH L t1.text A 0 0 (M.map GFound.text) (eZ D j))) (fun j=>3*j<=D.length) (fun j=>D.length - 3*j) 0 (aCw _) ?_ ?_
 ·exact(cQ.wk (Ea<|Ea<|Ea<|Ea<|trivial) (Hc (kC _ _)<|Hc (bQ _ _)<|Hc (by(simp;exact⟨rfl,rfl⟩))<|Hc (cP _ _)<|Hb<|trivial) ⟨rfl,trivial⟩)
 rintro j hj;have C:=D1 D j;have hfl:=F0 D j;refine Sq<|Sd aC<|Dd (by exact dU rfl cN rfl rfl rfl)<|Zd gX ?_;refine Cn ?_ ?_<;>intro hc8
 ·have Z:3*j+2<D.length:=by have:=aCb hc8;omega
  obtain ⟨y,u⟩:∃f,L[(0+(q+1))+3*j]?=some f:=aT (by omega);obtain ⟨x,v⟩:∃f,L[(0+(q+1))+3*j+2]?=some f:=aT (by omega);have w:=BH u;have s:=BH v;have B:SZ D j=⟨y.text,x.text⟩:=by
   rw[SZ,E,List.getElem?_drop,List.getElem?_drop,u,show (0+(q+1))+(3*j+2)=(0+(q+1))+3*j+2 from rfl,v];rfl
  refine aA<|Sq<|aE<|aL follows<|Cs (fun _ h=>fh eT h)<|Cs (fun _ h=>lh cU h)<|Cs (fun _ _=>aC)<|Cs (fun H1 hH=>by exact dN rfl gR rfl ((hH _ rfl).trans rfl) rfl rfl rfl (by omega) (by exact aCq _) (show 0<L.length - (q+1) - 3*j by omega) rfl)<|Cs (fun _ h=>fh gU h)<|Cs (fun H1 hH=>by exact bA rfl isAgg9 rfl ((hH _ rfl).trans rfl) rfl w rfl)<|Cs (fun _ _=>aC)<|Cs (fun H1 hH=>by exact dN rfl gR rfl ((hH _ rfl).trans rfl) rfl rfl rfl (by omega) (by exact aCq _) (show 2<L.length - (q+1) - 3*j by omega) rfl)<|Cs (fun _ h=>fh gU h)<|Cs (fun H1 hH=>by exact bA rfl isAgg9 rfl ((hH _ rfl).trans rfl) rfl s rfl)<|Cs (fun _ _=>(nP Fl))<|Cs (fun H1 hH=>by exact aN [bM ⟨y.text,x.text⟩] rfl jX rfl rfl rfl rfl rfl (by intro r hr;rw[aCi]at hr;subst hr;rfl)) ?_;refine gW (r:=⟨_,none,[_]⟩) (DStep.plain rfl (fun H1 hH=>by exact cG (ps:=[bM ⟨y.text,x.text⟩]) rfl jX Em rfl ((hH _ rfl).trans rfl) rfl rfl rfl (F9 _) rfl (by intro r hr;rw[aCi]at hr;subst hr;rfl) (m:=1) rfl (by omega) rfl (GA (eZ D j) ⟨y.text,x.text⟩))) rfl ?_;refine Cs (fun _ h=>fh eT h) ?_;refine gW (r:=⟨_,none,[_]⟩) (DStep.plain rfl (fun H1 hH=>by exact(by exact cV rfl sizeOf149 rfl rfl rfl ((hH _ rfl).trans rfl) rfl rfl (by simp only[aCh,List.length_nil];omega) (by simp only[Zl,bM,bG,encStr,fS,encTok];rfl) (by simp only[Zl,bM,bG,encStr,fS,encTok];rfl)))) rfl ?_;refine bF<|Kr<|Rd aC<|Dd (by exact jU (l:=3) (h:=(L.length - (q+1) - 3*j)) rfl gR rfl rfl rfl rfl rfl rfl (by omega) (by omega) rfl rfl)<|Da ?_;refine⟨j+1,by omega,by omega,?_⟩;dsimp only;rw[C,B,Yj];exact(cQ.wk (Ea<|Ea<|Ea<|Ea<|trivial) (Hc (kC _ _)<|Hc (bQ _ _)<|Hc (by(simp;exact⟨rfl,rfl⟩))<|Hc (cP _ _)<|Hb<|trivial) ⟨rfl,trivial⟩)
 have W:D.length<3*j+3:=by have:=aCc hc8;omega
 have N:D.length / 3=j:=by omega
 have hG:qU D=eZ D j:=by rw[OD,N]
 refine aS<|Sq ?_;refine gC.ent (cQ.fzG (id:=907) (E':=rE L) (H':=[(906,⟨((M.map GFound.text)).length,1,9,cH ((M.map GFound.text))⟩),(3,bx 6 151 [sv (t1.text),iv (A),iv (0),iv (0),.osl 906 ((M.map GFound.text)).length 0 ((M.map GFound.text)).length,.pv (oG (eZ D j))]),(905,X1 L),(2,bx 6 151 ((bG zObj).map .pv))]) ((eZ D j).map bM) rfl (HT bM _) ?_ rfl ?_ ?_) ?_
 ·intro p t;simp only[aCr,aCv,or_false]at t;rcases t with rfl|rfl|rfl<;>exact⟨_,rfl,.same (by simp;rfl)⟩
 ·exact⟨⟨_,rfl,rfl,rfl,rfl,gA (bQ _ _)⟩,⟨_,rfl,rfl,rfl,rfl,nB rfl (cA (.same (by simp)) (cA (.same (by simp)) (cA (.same (by simp)) (cA (.same (by simp)) (cA (.same (by simp;rfl)) (cA (.osl (kX bM _)) mD))))))⟩,⟨_,rfl,rfl,rfl,rfl,gA (cP _ _)⟩,⟨_,rfl,rfl,rfl,rfl,gA (by simp)⟩,trivial⟩
 ·exact⟨rfl,trivial⟩
 refine gC.ent (cQ.fzG (id:=906) (E':=rE L) (H':=[(3,bx 6 151 [sv (t1.text),iv (A),iv (0),iv (0),.pv (aU ((M.map GFound.text))),.pv (oG (eZ D j))]),(905,X1 L),(2,bx 6 151 ((bG zObj).map .pv))]) (((M.map GFound.text)).map encStr) rfl (eO _) ?_ rfl ?_ ?_) ?_
 ·intro p t;simp only[aCr,aCv,or_false]at t;rcases t with rfl|rfl|rfl<;>exact⟨_,rfl,.same (by simp;rfl)⟩
 ·exact⟨⟨_,rfl,rfl,rfl,rfl,nB rfl (cA (.same (by simp)) (cA (.same (by simp)) (cA (.same (by simp)) (cA (.same (by simp)) (cA (.osl (kX encStr _)) (cA (.same (by simp)) mD))))))⟩,⟨_,rfl,rfl,rfl,rfl,gA (cP _ _)⟩,⟨_,rfl,rfl,rfl,rfl,gA (by simp)⟩,trivial⟩
 ·exact⟨rfl,trivial⟩
 refine Rd (by exact aM rfl bZ sizeOf151 rfl rfl rfl rfl (by simp only[Zl,bM,bG,encStr,fS,encTok];rfl) rfl)<|Uu (iP sizeOf151)<|Zz<|aB ?_;refine dA (H':=[(905,X1 L)]) (.inr rfl) rfl (eU rfl bZ sizeOf151 rfl rfl rfl (by simp only[Zl,bM,bG,encStr,fS,encTok];rfl) rfl) (Fin.wk (by(simp;done)) (Hc (cP _ _)<|trivial) ⟨rfl,trivial⟩) ?_;refine⟨?_,rfl⟩;rw[hR,<-E,hG];rfl
theorem JT:∀(l) (p),nG l=some p->p.1.length<=l.length
 | [],p,h=>by cases h
 | [c],p,h=>by
  rw[nG]at h
  grind
 | c :: e :: r, p, h => by
  rw[nG]at h
  split at h
  ·grind
  split at h
  ·cases h
  split at h
  ·cases g:sD e with
   |none=>simp_all
   | some b =>
    rw[g]at h;cases f:nG r with
    |none=>simp_all
    |some q =>
     rw[f]at h;cases h;have:=JT r q f;show q.1.length+1<=r.length+1+1;omega
  cases f:nG (e::r)with
  |none=>simp_all
  |some q =>
   rw[f]at h;cases h;have:=JT _ q f
   simp_all
theorem fL(s:ByteArray)(i j):(s.extract i j).size<=s.size:=by rw[<-bC,jS,aCt,aCu,bC];omega
theorem qe(s):(zF s).1.size<=s.size:=by
 rw[zF];cases h:nG _ with
 |none=>exact aCw _
 |some p =>
  have:=JT _ _ h;rw[aCu,bC]at this;rw[<-bC]
  grind
theorem eh{s}{f:GFound}{j:Nat}(h:eN s i=(some f,j)):f.text.size<=s.size:=by
 rw[eN]at h
 split at h
 ·cases h
 split at h
 ·cases h
 split at h
 ·cases h;exact fL _ _ _
 split at h
 ·cases h;exact fL _ _ _
 split at h
 ·cases h;rw[DY]
  split
  ·have h1:=qe (s.extract i s.size);have h2:=fL s i s.size;show (zF _).1.size<=_;omega
  exact aCw _
 split at h
 ·cases h;exact fL _ _ _
 cases h;exact aCw _
theorem F8(s):∀(n i) (f),f∈jM s n i->f.text.size<=s.size
 |0,_,_,h=>by cases h
 | n+1,i,f,h=>by
  rw[jM]at h
  split at h
  ·split at h
   ·exact F8 s n _ f h
   rename_i g j b;rcases aCr.1 h with rfl|h
   ·exact eh b
   split at h
   ·exact F8 s n _ f h
   cases h
  cases h
theorem YY:∀(a acc) (f),f∈(jP acc a).1->f∈acc\/f∈a
 | [],acc,f,h=>.inl h
 |d::a,acc,f,h=>by
  rw[jP]at h
  split at h
  ·cases h
  split at h
  ·cases h
  rcases YY _ _ f h with h|h;all_goals grind
theorem EZ(s)(f)(h:f∈(eX s).1):f.text.size<=s.size:=by
 rw[eX]at h
 split at h
 ·cases h
 rcases YY _ _ f h with h|h
 ·cases h
 exact F8 s _ _ f h
theorem ZM{T}{n}(h:∀f∈T,f.text.size<=n):∀f∈uT T,f.text.size<=n:=fun f b=>by
 rcases List.mem_append.1 b with a|a
 ·simp_all
 rw[(List.mem_replicate.1 a).2];exact aCw _
theorem SS:∀(T) (n),(∀f∈T,f.text.size<=n)->(qU T).length<=T.length/\∀t∈qU T,t.key.size<=n/\t.val.size<=n
 | [],n,_=>by simp[qU]
 | [a],n,_=>by simp[qU]
 | [a,b],n,_=>by simp[qU]
 |a::b::c::r,n,h=>by
  obtain ⟨i1,i2⟩:=SS r n fun f hf=>h f (by grind);rw[qU]
  grind
theorem Ax(T):(uT T).length<=T.length+4:=by rw[uT,aCg,List.length_replicate];omega
theorem zj{T:List GFound}{n:Nat}(h:∀f∈T,f.text.size<=n)(m:n<4611686018427387904)(hl:T.length<549755813888):ZU (sG T):=by
 have o:=ZM h;have hpl:=Ax T;have l:∀i,((uT T).getD i IL).text.size<=n:=fun i=>by
  rw[List.getD_eq_getElem?_getD];cases e:(uT T)[i]? with
  |none=>exact aCw _
  |some f=>grind
 have j:∀k,GJ (qU ((uT T).drop k)):=fun k=>by
  obtain ⟨a,b⟩:=SS ((uT T).drop k) n fun f p=>o f (List.mem_of_mem_drop p);rw[aCu]at a;exact⟨by omega,fun t g=>by have:=b t g;omega⟩
 rw[sG]
 split
 ·exact⟨Nat.lt_of_le_of_lt (l 1) m,j _,by simp_all,fun s d=>by cases d⟩
 split
 ·exact⟨by decide,⟨by decide,fun t h=>by cases h⟩,by decide,fun s d=>by cases d⟩
 refine⟨Nat.lt_of_le_of_lt (l 1) m,j _,?_,fun s d=>?_⟩;all_goals grind
theorem pZ(c):∀ {l w},w∈dP c l->w.length<=l.length
 | [],w,h=>by
  rw[dP]at h
  simp_all
 | b::l,w,h=>by
  have d:=qB c l;rw[dP]at h;cases e:dP c l with
  |nil=>rw[e]at d;exact absurd d (Nat.lt_irrefl 0)
  | cons x r =>
   have a:∀y∈x::r,y.length<=l.length:=fun y hy=>pZ c (by simp_all);rw[e]at h
   split at h
   ·rcases aCr.1 h with rfl|h
    ·exact aCw _
    exact Nat.le_succ_of_le (a w h)
   rcases aCr.1 h with rfl|h
   ·exact Nat.succ_le_succ (a _ List.mem_cons_self)
   exact Nat.le_succ_of_le (a w (List.mem_cons_of_mem _ h))
theorem TK{s}(a:s.size<1099511627776):ZU (sG (eX s).1):=zj (fun f b=>EZ s f b) (by omega) (vT s a)
theorem GW(l:List _):∀r∈l.map encStr,r.length=1:=fun r a=>by
 obtain ⟨s,_,rfl⟩:=List.mem_map.1 a;rfl
theorem yU{p q}[Decidable p][Decidable q](h:(decide p&&decide q)=true):p/\q:=by simp_all
theorem yV{p q}[Decidable p][Decidable q](h:(decide p&&decide q)=false):¬ (p/\q):=by simp_all
theorem Iy{H}{id}{o}(h:H.get id=some o):Sub [(id,o)] H:=fun j x a=>by
 by_cases e:j=id
 ·subst e;rw[get_cons_same]at a
  simp_all
 rw[get_cons_other _ _ e]at a;cases a
theorem Bk{id j}{a b}(h:(aG.get [(id,a)] j).isSome=true):(aG.get [(id,b)] j).isSome=true:=by
 by_cases e:j=id
 ·subst e;rw[get_cons_same];rfl
 rw[get_cons_other _ _ e]at h;cases h
theorem gp(s:ByteArray)(H:aG)(g:s.size<1099511627776):RC 155 [sv s] (.tup [av (bG (tZ s).1),iv (tZ s).2]) H:=by
 refine Pu ?_;have c:=vT s g;have l:=ZM (EZ s);have d:=TK g;rw[tZ];refine Bd func155 rfl ntmps155<|Sd (kl 2 SM)<|Zd aH<|Sq<|Sd aC<|Dd (gF underlying9)<|Zd gX ?_;refine Cn ?_ ?_<;>intro i
 ·have q:20000<s.size:=by have:=aCb i;omega
  rw[aCe q];refine Sd (nP D7)<|Uu (iP sizeOf151)<|Zd aH<|aB ?_;refine iN (H':=[]) (.inr rfl) rfl (BT bZ sizeOf151) (aJ rfl) (Fin.wk (r:=.tup [av (bG zObj),iv 2]) (by simp) trivial trivial) ?_;exact Qq
 have q:¬ 20000<s.size:=by have:=aCc i;omega
 rw[aCd q];by_cases n:(eX s).2.1=0
 ·have e:=fun H h=>Ue s H g n h;obtain ⟨T,w⟩:∃T,T=(eX s).1:=⟨_,rfl⟩;rw[<-w]at c l d |-;simp only[<-w]at e;have k:∀H,H.get 905=some (X1 T)->aW Tryz.prog 195 [.osl 905 T.length 0 T.length] H (fun r H'=>r=av (bG (sG T))/\H'=[(905,X1 (uT T))]++H):=fun H x =>
   aW.frame (Sa T c (fun f y=>Nat.lt_of_le_of_lt (l f y) g)) (Iy x) (eE.ofL ⟨cP _ _,trivial⟩) (by intro a v;rw[aCi]at v;subst v;simp[aG.get]) (fun id h=>.inl (Bk h))
  obtain ⟨o,z⟩:∃o,o=sG T:=⟨_,rfl⟩;rw[<-z]at k d |-;refine aA<|Sd aC<|Dd (kc aBp (e _ rfl))<|Dd aC<|Dd eG<|Dd eG<|Dd eG<|Dd aH<|Dd aH<|Zd aH<|Sq<|Sd aC<|Zd cF ?_;refine Cn ?_ ?_<;>intro u
  ·refine Sd aC<|Dd (kc call195 (k _ rfl))<|Dd (kl 7 SM)<|Uu (iP sizeOf151)<|Zz<|Sd (kY bZ sizeOf151)<|Dd (kc call196 (TR o _ d))<|Dd aC<|Dd eG<|Dd eG<|Dd aH<|Zd aH<|Sq ?_;refine aQ (t:=35) (n:=8) (X:=decide ((eS o).2=0)&&decide ((eS o).1=s)) ?_ ?_
   ·all_goals refine Dd aC ?_
    all_goals refine Dd cF<|Dm ?_<;>(refine Sp 31 (fun p=>?_) fun p=>?_)<;>(first|contradiction|refine Fo<|Fo<|Fo ?_|refine On aC<|On aC<|On vF ?_)<;>refine Zd cD ?_<;>(exact⟨⟨_,rfl,by simp_all⟩,rfl,rfl,rfl⟩)
   refine Cn ?_ ?_<;>intro j
   ·have m:=yU j;rw[aCe ⟨n,Prod.ext m.2 m.1⟩];refine Sd (kY bZ sizeOf151)<|Uu (iP sizeOf151)<|Zd aH<|aB ?_;refine iN (H':=[]) (.inr rfl) rfl (BT bZ sizeOf151) (aJ rfl) (Fin.wk (r:=.tup [av (bG o),iv 0]) (by simp) trivial trivial) ?_;exact Qq
   have m:=yV j;rw[aCd (fun h=>m ⟨congrArg Prod.snd h.2,congrArg Prod.fst h.2⟩)];refine aA<|Sd (nP D7)<|Uu (iP sizeOf151)<|Zd aH<|aB ?_;refine iN (H':=[]) (.inr rfl) rfl (BT bZ sizeOf151) (aJ rfl) (Fin.wk (r:=.tup [av (bG zObj),iv 5]) (by simp) trivial trivial) ?_;exact Qq
  exact absurd rfl (aCc u)
 refine aA<|Sd aC<|Dd (kc aBp (Qb s _ g))<|Dd aC<|Dd eG<|Dd eG<|Dd eG<|Dd aH<|Dd aH<|Zd aH<|Sq<|Sd aC<|Zd cF ?_;refine Cn ?_ ?_<;>intro t
 ·exact absurd (aCb t) n
 refine aA<|Sd (nP D7)<|Uu (iP sizeOf151)<|Zd aH<|aB ?_;rw[aCd (fun h=>n h.1)];refine iN (H':=[]) (.inr rfl) rfl (BT bZ sizeOf151) (aJ rfl) (Fin.wk (r:=.tup [av (bG zObj),iv 5]) (by simp) trivial trivial) ?_;exact Qq
theorem Jz(s:ByteArray)(H:aG)(hs:s.size<=20000):RC 116 [sv s] (av (aZ (mZ s.data.toList))) H:=by
 refine Pu ?_;have X:=bC s;obtain ⟨W,p⟩:∃W,W=dP 32 s.data.toList:=⟨_,rfl⟩;obtain ⟨w0,E⟩:∃w,w=W.headD []:=⟨_,rfl⟩;obtain ⟨B,z⟩:∃r,r=s.data.toList.drop (w0.length+1):=⟨_,rfl⟩;have hrl:B.length<=s.size:=by simp_all
 have hg:mZ s.data.toList=DJ W w0 B:=by rw[mZ,<-p,<-E,<-z]
 have Z:∃b,∀H,RC 113 [sv s,sv Ht] (.tup [sv (ofL w0),sv (ofL B),bv b]) H:=by
  obtain ⟨b,hb⟩:=Ni s;rw[<-p,<-E,<-z]at hb;exact⟨b,fun H=>by rw[<-hb];exact aA0 s H (by omega)⟩
 obtain ⟨b,Z⟩:=Z;have hSl:(cL s).length=W.length:=by rw[qn,p]
 have hml:((cL s).map encStr).length=W.length:=by simp_all
 have hSg:∀i,i<W.length->((cL s).map encStr)[i]?=some [.str (ofL (W.getD i []))]:=fun i hi=>by
  rw[p];exact cE (f:=encStr) (qo s i (by omega))
 have R:∀i,(ofL (W.getD i [])).size<=s.size:=fun i=>by
  rw[cM,List.getD_eq_getElem?_getD];cases e:W[i]? with
  |none=>simp_all
  |some w =>
   have:=pZ 32 (l:=s.data.toList) (w:=w) (by grind);rw[X]at this;exact this
 have hWl:W.length<=s.size+1:=by
  rw[p,wQ];have:=List.count_le_length (l:=s.data.toList) (a:=32);omega
 have hjl:((cL s).drop 3).length<=20001:=by grind
 have hjs:cZ ((cL s).drop 3)<=20000*((cL s).drop 3).length:=oH (fun w hw=>by
  have I:=List.mem_of_mem_drop hw;rw[cL,<-p]at I;obtain ⟨x,hx,rfl⟩:=List.mem_map.1 I;have:=pZ 32 (l:=s.data.toList) (w:=x) (by simp_all);show (ofL x).size<=_;rw[cM];omega)
 rw[hg,DJ];refine Bd func116 rfl ntmps116<|Sz (kl 2 N2)<|Sd aC<|Dd (kc call154 (qp s _ (by omega)))<|Zd aH<|Sd aC<|Dd (kc call113 (Z _))<|Dd aC<|Dd eG<|Dd eG<|Dd eG<|Dd aH<|Dd aH<|Zd aH<|Sq<|aE<|Sd aC<|Dd vF<|Da ?_;refine Cn ?_ ?_<;>intro N
 ·have h1:w0=wPut:=sB.1 (aCb N);rw[aCe h1];refine Sd aC<|Dd (kc call155 (gp (ofL B) _ (by rw[cM];omega)))<|Dd aC<|Dd eG<|Dd eG<|Dd (kl 7 SM)<|Uu (iP sizeOf151)<|Zd aH<|Sd (kY bZ sizeOf151)<|Dd (nP sX)<|Uu (iP aR)<|Zz<|aB ?_;refine dA (H':=[]) (.inr rfl) rfl (BT bW aR) (Fin.wk (r:=av (aZ ⟨1,sNil,sNil,sNil,0,0,sNil,sNil,[],(tZ (ofL B)).1⟩)) (by simp) trivial trivial) ?_;exact Qq
 have h1:¬ w0=wPut:=fun e=>aCc N (sB.2 e);rw[aCd h1];refine Sq ?_;refine aQ (t:=30) (n:=9) (X:=decide (ofL w0=⟨#[109,111,118,101]⟩)&&decide ((((cL s).map encStr).length:Int)=4)) ?_ ?_
 ·all_goals refine Dd aC ?_
  all_goals refine Dd vF<|Dm ?_<;>(refine Sp 33 (fun h33=>?_) fun h33=>?_)<;>(first|contradiction|refine Fo<|Fo<|Fo ?_|refine On aC<|On (eR aD)<|On cF ?_)<;>refine Dd cD<|Da ?_<;>(exact⟨⟨_,rfl,by(simp_all;done)⟩,rfl,rfl,rfl⟩)
 refine Cn ?_ ?_<;>intro A
 ·have F:ofL w0=ofL HF/\_:=yU A;rw[sB,hml]at F;rw[aCe ⟨F.1,by omega⟩];have G:=hSg 1 (by omega);have i2:=hSg 2 (by omega);have i3:=hSg 3 (by omega);have s2:=R 2;have s3:=R 3;refine Sq<|aL follows<|Cr [] (fun _ _=>aC)<|Cr [] (fun _ _=>(jE bT))<|Cr [] (fun _ _=>(fO isAgg9))<|Cr [] (fun _ _=>aC)<|Cr [] (fun _ _=>(jE bT))<|Cr [] (fun _ _=>(fO isAgg9))<|Cr [] (fun q hH=>by exact bL rfl rfl call156 rfl (Z2 (ofL (W.getD 2 [])) _ (by omega)))<|Cr [] (fun _ _=>aC)<|Cr [] (fun _ _=>(jE bT))<|Cr [] (fun _ _=>(fO isAgg9))<|Cr [] (fun q hH=>by exact bL rfl rfl call156 rfl (Z2 (ofL (W.getD 3 [])) _ (by omega)))<|Cr [] (fun _ _=>(nP SK))<|Cr [] (fun _ _=>(nP sX))<|Cp [2] (fun _ h=>sa aR h)<|bF<|Kr<|aB ?_;refine dA (H':=[]) (.inr rfl) rfl (BT bW aR) (Fin.wk (r:=av (aZ ⟨2,ofL (W.getD 1 []),sNil,sNil,R8 (W.getD 2 []),R8 (W.getD 3 []),sNil,sNil,[],zObj⟩)) (by simp) trivial trivial) ?_;exact Qq
 have F:¬ (ofL w0=ofL HF/\_):=yV A;rw[sB,hml]at F;rw[aCd (fun h=>F ⟨h.1,by omega⟩)];refine Sq ?_;refine aQ (t:=51) (n:=9) (X:=decide (ofL w0=⟨#[116,97,103]⟩)&&decide ((3:Int)<(((cL s).map encStr).length:Int))) ?_ ?_
 ·all_goals refine Dd aC ?_
  all_goals refine Dd vF<|Dm ?_<;>(refine Sp 54 (fun h54=>?_) fun h54=>?_)<;>(first|contradiction|refine Fo<|Fo<|Fo ?_|refine On aC<|On (eR aD)<|On gX ?_)<;>refine Dd cD<|Da ?_<;>(exact⟨⟨_,rfl,by(simp_all;done)⟩,rfl,rfl,rfl⟩)
 refine Cn ?_ ?_<;>intro T
 ·have K:ofL w0=ofL zW/\_:=yU T;rw[sB,hml]at K;rw[aCe ⟨K.1,by omega⟩];have G:=hSg 1 (by omega);have i2:=hSg 2 (by omega);have O:bs ((cL s).drop 3)=W.drop 3:=by
   rw[bs,cL,<-p,List.map_drop,List.map_map];congr 1;exact(List.map_congr_left fun x _=>dD x).trans (List.map_id _)
  have hj:∀H,RC 158 [.pv (aU ((cL s).drop 3)),sv ⟨#[32]⟩] (sv (ofL (bU [32] (W.drop 3)))) H:=fun H=>by
   have:=vV ((cL s).drop 3) ⟨#[32]⟩ H (by decide) (by show 1*_+_+_<_;omega);rw[O]at this;exact this
  have Q:(ofL (bU [32] (W.drop 3))).size<1099511627776:=by
   have:=fK ((cL s).drop 3);rw[O]at this;rw[cM];omega
  obtain ⟨J,hJ⟩:∃J,J=ofL (bU [32] (W.drop 3)):=⟨_,rfl⟩;rw[<-hJ]at Q |-;simp only[<-hJ]at hj;have htl:((eX J).1.map encTok).length=(eX J).1.length:=aCf _;refine Sd aC<|Dd (by exact mU (l:=3) (h:=((cL s).map encStr).length) (rows':=((cL s).drop 3).map encStr) rfl bT rfl (GW _) rfl rfl (by omega) (aCl _) (by rw[List.take_length];exact List.map_drop.symm))<|Dd (kc qQ (hj _))<|Dd (kc aBp (Qb J _ Q))<|Dd aC<|Dd eG<|Dd eG<|Dd eG<|Dd aH<|Dd aH<|Zd aH<|Sd aC<|Dd (eR cN)<|Zd cF ?_;refine Cn ?_ ?_<;>intro t
  ·have h4:(eX J).1.length=1:=by have:=aCb t;omega
   obtain ⟨f,U⟩:=List.length_eq_one_iff.1 h4;rw[U];have hf0:([f].map encTok)[0]?=some [.int .i64 f.kind,.str f.text,.int .i64 f.pos]:=rfl;refine Sq<|aL follows<|Cr [] (fun _ _=>aC)<|Cr [] (fun _ _=>(jE bT))<|Cr [] (fun _ _=>(fO isAgg9))<|Cr [] (fun _ _=>aC)<|Cr [] (fun _ _=>(jE bT))<|Cr [] (fun _ _=>(fO isAgg9))<|Cr [] (fun _ _=>aC)<|Cr [] (fun _ _=>(jE gR))<|Cr [] (fun _ _=>(C2 gU))<|Cr [] (fun _ _=>(fO isAgg9))<|Cr [] (fun _ _=>(nP sX))<|Cp [2] (fun _ h=>sa aR h)<|bF<|Kr<|aB ?_;refine dA (H':=[]) (.inr rfl) rfl (BT bW aR) (Fin.wk (r:=av (aZ ⟨3,ofL (W.getD 1 []),sNil,sNil,0,0,ofL (W.getD 2 []),f.text,[],zObj⟩)) (by simp) trivial trivial) ?_;exact Qq
  have h4:(eX J).1.length≠1:=by have:=aCc t;omega
  split
  ·next f U=>rw[U]at h4;exact absurd rfl h4
  refine aA<|Sd (nP sX)<|Uu (iP aR)<|Zz<|aB ?_;refine dA (H':=[]) (.inr rfl) rfl (BT bW aR) (Fin.wk (r:=av (aZ MB)) (by simp) trivial trivial) ?_;exact Qq
 have K:¬ (ofL w0=ofL zW/\_):=yV T;rw[sB,hml]at K;rw[aCd (fun h=>K ⟨h.1,by omega⟩)];refine Sq ?_;refine aQ (t:=81) (n:=9) (X:=decide (ofL w0=⟨#[114,101,102,115]⟩)&&decide ((1:Int)<(((cL s).map encStr).length:Int))) ?_ ?_
 ·all_goals refine Dd aC ?_
  all_goals refine Dd vF<|Dm ?_<;>(refine Sp 84 (fun V=>?_) fun V=>?_)<;>(first|contradiction|refine Fo<|Fo<|Fo ?_|refine On aC<|On (eR aD)<|On gX ?_)<;>refine Dd cD<|Da ?_<;>(exact⟨⟨_,rfl,by(simp_all;done)⟩,rfl,rfl,rfl⟩)
 refine Cn ?_ ?_<;>intro D
 ·have h4:ofL w0=ofL HE/\_:=yU D;rw[sB,hml]at h4;rw[aCe ⟨h4.1,by omega⟩];have G:=hSg 1 (by omega);refine Sq<|aL follows<|Cr [] (fun _ _=>aC)<|Cr [] (fun _ _=>(jE bT))<|Cr [] (fun _ _=>(fO isAgg9))<|Cr [] (fun _ _=>aC)<|Cr [] (fun q hH=>by exact mU (l:=2) (h:=((cL s).map encStr).length) (rows':=((W.drop 2).map ofL).map encStr) rfl bT rfl (GW _) rfl rfl (by omega) (aCl _) (by rw[List.take_length,cL,<-p,List.map_drop,List.map_drop];rfl))<|Cr [] (fun _ _=>(nP sX))<|Cp [2] (fun _ h=>sa aR h)<|bF<|Kr<|aB ?_;refine dA (H':=[]) (.inr rfl) rfl (BT bW aR) (Fin.wk (r:=av (aZ ⟨4,ofL (W.getD 1 []),sNil,sNil,0,0,sNil,sNil,(W.drop 2).map ofL,zObj⟩)) (by simp) trivial trivial) ?_;exact Qq
 have h4:¬ (ofL w0=ofL HE/\_):=yV D;rw[sB,hml]at h4;rw[aCd (fun h=>h4 ⟨h.1,by omega⟩)];refine Sq ?_;refine aQ (t:=95) (n:=9) (X:=decide (ofL w0=⟨#[100,114,111,112]⟩)&&decide ((((cL s).map encStr).length:Int)=2)) ?_ ?_
 ·all_goals refine Dd aC ?_
  all_goals refine Dd vF<|Dm ?_<;>(refine Sp 98 (fun Y=>?_) fun Y=>?_)<;>(first|contradiction|refine Fo<|Fo<|Fo ?_|refine On aC<|On (eR aD)<|On cF ?_)<;>refine Dd cD<|Da ?_<;>(exact⟨⟨_,rfl,by(simp_all;done)⟩,rfl,rfl,rfl⟩)
 refine Cn ?_ ?_<;>intro L
 ·have v:ofL w0=ofL HH/\_:=yU L;rw[sB,hml]at v;rw[aCe ⟨v.1,by omega⟩];have G:=hSg 1 (by omega);refine Sd aC<|Dd (jE bT)<|Dd (fO isAgg9)<|Dd (nP sX)<|Uu (iP aR)<|Zz<|aB ?_;refine dA (H':=[]) (.inr rfl) rfl (BT bW aR) (Fin.wk (r:=av (aZ ⟨5,ofL (W.getD 1 []),sNil,sNil,0,0,sNil,sNil,[],zObj⟩)) (by simp) trivial trivial) ?_;exact Qq
 have v:¬ (ofL w0=ofL HH/\_):=yV L;rw[sB,hml]at v;rw[aCd (fun h=>v ⟨h.1,by omega⟩)];refine Sq ?_;refine aQ (t:=107) (n:=9) (X:=decide (ofL w0=⟨#[115,112,108,105,116]⟩)&&decide ((((cL s).map encStr).length:Int)=4)) ?_ ?_
 ·all_goals refine Dd aC ?_
  all_goals refine Dd vF<|Dm ?_<;>(refine Sp 110 (fun P=>?_) fun P=>?_)<;>(first|contradiction|refine Fo<|Fo<|Fo ?_|refine On aC<|On (eR aD)<|On cF ?_)<;>refine Dd cD<|Da ?_<;>(exact⟨⟨_,rfl,by(simp_all;done)⟩,rfl,rfl,rfl⟩)
 refine Cn ?_ ?_<;>intro y
 ·have M:ofL w0=ofL BE/\_:=yU y;rw[sB,hml]at M;rw[aCe ⟨M.1,by omega⟩];have G:=hSg 1 (by omega);have i2:=hSg 2 (by omega);have i3:=hSg 3 (by omega);refine Sq<|aL follows<|Cr [] (fun _ _=>aC)<|Cr [] (fun _ _=>(jE bT))<|Cr [] (fun _ _=>(fO isAgg9))<|Cr [] (fun _ _=>aC)<|Cr [] (fun _ _=>(jE bT))<|Cr [] (fun _ _=>(fO isAgg9))<|Cr [] (fun _ _=>aC)<|Cr [] (fun _ _=>(jE bT))<|Cr [] (fun _ _=>(fO isAgg9))<|Cr [] (fun _ _=>(nP sX))<|Cp [2] (fun _ h=>sa aR h)<|bF<|Kr<|aB ?_;refine dA (H':=[]) (.inr rfl) rfl (BT bW aR) (Fin.wk (r:=av (aZ ⟨6,ofL (W.getD 1 []),ofL (W.getD 3 []),ofL (W.getD 2 []),0,0,sNil,sNil,[],zObj⟩)) (by simp) trivial trivial) ?_;exact Qq
 have M:¬ (ofL w0=ofL BE/\_):=yV y;rw[sB,hml]at M;rw[aCd (fun h=>M ⟨h.1,by omega⟩)];refine Sq ?_;refine aQ (t:=125) (n:=9) (X:=decide (ofL w0=⟨#[106,111,105,110]⟩)&&decide ((((cL s).map encStr).length:Int)=3)) ?_ ?_
 ·all_goals refine Dd aC ?_
  all_goals refine Dd vF<|Dm ?_<;>(refine Sp 128 (fun C=>?_) fun C=>?_)<;>(first|contradiction|refine Fo<|Fo<|Fo ?_|refine On aC<|On (eR aD)<|On cF ?_)<;>refine Dd cD<|Da ?_<;>(exact⟨⟨_,rfl,by(simp_all;done)⟩,rfl,rfl,rfl⟩)
 refine Cn ?_ ?_<;>intro S
 ·have u:ofL w0=ofL HG/\_:=yU S;rw[sB,hml]at u;rw[aCe ⟨u.1,by omega⟩];have G:=hSg 1 (by omega);have i2:=hSg 2 (by omega);refine Sq<|aL follows<|Cr [] (fun _ _=>aC)<|Cr [] (fun _ _=>(jE bT))<|Cr [] (fun _ _=>(fO isAgg9))<|Cr [] (fun _ _=>aC)<|Cr [] (fun _ _=>(jE bT))<|Cr [] (fun _ _=>(fO isAgg9))<|Cr [] (fun _ _=>(nP sX))<|Cp [2] (fun _ h=>sa aR h)<|bF<|Kr<|aB ?_;refine dA (H':=[]) (.inr rfl) rfl (BT bW aR) (Fin.wk (r:=av (aZ ⟨7,ofL (W.getD 1 []),ofL (W.getD 2 []),sNil,0,0,sNil,sNil,[],zObj⟩)) (by simp) trivial trivial) ?_;exact Qq
 have u:¬ (ofL w0=ofL HG/\_):=yV S;rw[sB,hml]at u;rw[aCd (fun h=>u ⟨h.1,by omega⟩)];refine aA<|Sd (nP sX)<|Uu (iP aR)<|Zz<|aB ?_;refine dA (H':=[]) (.inr rfl) rfl (BT bW aR) (Fin.wk (r:=av (aZ MB)) (by simp) trivial trivial) ?_;exact Qq
def F1(l:List GEdit):List (List AV):=l.map fun e=>(aZ e).map AV.pv
theorem UQ(l):(F1 l).length=l.length:=aCf _
theorem UR(l)(e):F1 l++[(aZ e).map AV.pv]=F1 (l++[e]):=by rw[F1,F1,List.map_append];rfl
theorem wJ(H)(l):∀r∈F1 l,∀a∈r,Clo H a:=by intro r c a b;obtain ⟨d,_,rfl⟩:=List.mem_map.1 c;obtain ⟨p,_,rfl⟩:=List.mem_map.1 b;simp
theorem WZ(H)(s):∀r∈(lB s).rows,∀a∈r,Clo H a:=by intro r c a b;simp[lB,bx,aCi]at c;subst c;rw[aCi]at b;subst b;simp
def Ss(t:ByteArray):dC:=[(0,sv t),(4,.ref 4 0 0 0)]
def Ub(t:ByteArray)(k:Nat):GEdit:=mZ (DE (yM (jD t k))).data.toList
def MP(t:ByteArray)(k:Nat):List GEdit:=(List.range k).map (Ub t)
theorem tf(t)(k):MP t (k+1)=MP t k++[Ub t k]:=by rw[MP,List.range_succ,List.map_append];rfl
theorem PX(t)(k):(MP t k).length=k:=by rw[MP,aCf,List.length_range]
theorem PY(t):MP t (iR t).length=(qI t.data.toList).map fun s=>mZ (Lib.trimSuffix s [10]):=by
 refine List.ext_getElem? fun k=>?_;rw[MP,aCz,aCz];by_cases h:k<(iR t).length
 ·have b:=(Mf h).1;rw[iR,aCz]at b;cases e:(qI _)[k]? with
  |none=>rw[e]at b;cases b
  |some w =>
   rw[e]at b;have b:=Option.some.inj b;rw[List.getElem?_range h,Option.map_some,Ub,<-b,xp];congr 3
 have c:(qI t.data.toList)[k]?=none:=by
  rw[iR]at h
  simp_all
 rw[c,List.getElem?_eq_none (by simp_all)];rfl
def Yn(t s:ByteArray)(k:Nat):aG:=[(933,lB s),(905,⟨k,15,153,F1 (MP t k)⟩),(4,bx 1 23 [.osl 905 k 0 k])]
theorem Mq{a b c}{K:aG}(j):aG.get ((904,b)::(933,a)::K) j=aG.get ((933,a)::(904,b)::(933,c)::K) j:=by
 by_cases e:j=904
 ·subst e;rfl
 by_cases d:j=933
 ·subst d;rfl
 rw[get_cons_other _ _ e,get_cons_other _ _ d,get_cons_other _ _ d,get_cons_other _ _ e,get_cons_other _ _ d]
theorem dy(s):(DE s).size<=s.size:=by
 rw[DE]
 split
 all_goals simp_all
theorem P0(s):(yM s).size<=s.size:=by
 rw[yM]
 split
 ·omega
 rw[<-bC,Uw,aCt,aCu,bC];omega
theorem DV{t}{k}(h:k<=(iR t).length):(DE (yM (jD t k))).size<=t.size:=Nat.le_trans (dy _) (Nat.le_trans (P0 _) (AD t k h).2)
theorem TQ{w}{n}(h:w.length<=n)(hn:n<4611686018427387904):(ofL w).size<4611686018427387904:=by rw[cM];omega
theorem ix{s}(a:s.size<1099511627776):ZU (tZ s).1:=by
 rw[tZ]
 split
 ·exact⟨by decide,⟨by decide,fun t h=>by cases h⟩,by decide,fun s a=>by cases a⟩
 split
 ·exact TK a
 exact⟨by decide,⟨by decide,fun t h=>by cases h⟩,by decide,fun s a=>by cases a⟩
theorem BA:ZU zObj:=⟨by decide,⟨by decide,fun t h=>by cases h⟩,by decide,fun s a=>by cases a⟩
theorem B0:([]:List ByteArray).length<4611686018427387904/\∀s∈([]:List ByteArray),s.size<4611686018427387904:=⟨by simp,fun s a=>by cases a⟩
theorem eK:sNil.size<4611686018427387904:=by decide
theorem UG{s:List UInt8}(f:s.length<=20000):KD (mZ s):=by
 have a:∀i,(ofL ((dP 32 s).getD i [])).size<4611686018427387904:=fun i=>by
  refine TQ (n:=20000) ?_ (by decide);rw[List.getD_eq_getElem?_getD];cases e:(dP 32 s)[i]? with
  |none=>simp_all
  |some w=>exact Nat.le_trans (pZ 32 (aCp e)) f
 have c:∀(d x y:Int),KD ⟨d,sNil,sNil,sNil,x,y,sNil,sNil,[],zObj⟩:=fun d x y=>⟨⟨eK,eK,eK,eK⟩,B0,BA⟩;rw[mZ,DJ]
 split
 ·exact⟨⟨eK,eK,eK,eK⟩,B0,ix (by rw[cM,aCu];omega)⟩
 split
 ·exact⟨⟨a 1,eK,eK,eK⟩,B0,BA⟩
 split
 ·split
  ·exact⟨⟨a 1,eK,eK,a 2⟩,B0,BA⟩
  exact c _ _ _
 split
 ·refine⟨⟨a 1,eK,eK,eK⟩,⟨?_,fun x g=>?_⟩,BA⟩
  ·have:=List.count_le_length (l:=s) (a:=32);rw[aCf,aCu,wQ];omega
  obtain ⟨w,b,rfl⟩:=List.mem_map.1 g;exact TQ (n:=20000) (Nat.le_trans (pZ 32 (List.mem_of_mem_drop b)) f) (by decide)
 split
 ·exact⟨⟨a 1,eK,eK,eK⟩,B0,BA⟩
 split
 ·exact⟨⟨a 1,a 3,a 2,eK⟩,B0,BA⟩
 split
 ·exact⟨⟨a 1,a 2,eK,eK⟩,B0,BA⟩
 exact c _ _ _
theorem KJ:∀ {t} {n},t.size<=n->(iR t).length<=n
 |t,0,h=>by rw[AQ (by omega)];simp_all
 | t,n+1,h=>by
  by_cases a:0<t.size
  ·rw[(B4 a).1];refine Nat.succ_le_succ (KJ ?_);rw[PS]
   split
   ·exact aCw _
   next d =>
   obtain ⟨w,r,e1,e2,c,e4,b,e6⟩:=Cy d;rw[c,aCq,<-szY,b];omega
  rw[AQ a];simp_all
theorem Ar(t:ByteArray)(H:aG)(M:t.size<1099511627776):RC 50 [sv t] (.tup [.pv (fX (gT t).1),iv (gT t).2]) H:=by
 refine Pu ?_;rw[gT,<-PY];refine Bd func50 rfl ntmps50<|Sd aH<|Zd aH<|Sq<|Sd aC<|Dd (gF underlying9)<|Zd gX ?_;refine Cn ?_ ?_<;>intro g
 ·have v:20000<t.size:=by have:=aCb g;omega
  rw[aCe v];exact Sd aH<|Zd aH<|aB<|Ru<|Qq
 have v:¬ 20000<t.size:=by have:=aCc g;omega
 rw[aCd v];refine aA<|Sz (kl 4 Ws)<|Sq<|Sd aC<|Zd (kc call115 (Me t _ rfl))<|aE ?_;obtain ⟨n,K⟩:∃n,n=(iR t).length:=⟨_,rfl⟩;have hnl:n<=20000:=by rw[K];exact KJ (by omega)
 refine gC.ent (E':=[(0,sv t),(4,.ref 4 0 0 0),(12,.clo 153 [.ref 933 0 0 0])]) (H':=[(905,⟨0,15,153,[]⟩),(933,lB t),(4,bx 1 23 [.osl 905 0 0 0])]) ?_ ?_
 ·exact(cQ.nz 905 15 153 rfl rfl ⟨⟨_,rfl,(by exact Nz.same (by(simp;done)))⟩,⟨_,rfl,(by exact Nz.same (by(simp;rfl)))⟩,⟨_,rfl,(by exact Nz.same (by(simp;rfl)))⟩,trivial⟩ ⟨⟨_,rfl,rfl,rfl,rfl,(by exact .inl ⟨rfl,(by exact WZ _ _)⟩)⟩,⟨_,rfl,rfl,rfl,rfl,(by exact .inr ⟨_,_,rfl,rfl,(by repeat(first|exact trivial|refine⟨(by exact Nz.own),?_⟩))⟩)⟩,trivial⟩ trivial)
 refine gC.ent (E':=[(0,sv t),(4,.ref 4 0 0 0),(12,.clo 153 [.ref 933 0 0 0])]) (H':=Yn t t 0) (cQ.wk (Eb<|Ea<|Ea<|trivial) (Hc (WZ _ _)<|Hc (wJ _ _)<|Ha<|trivial) trivial) ?_;refine FA (id:=904) (p:=13) (Ss t) rfl call153 rfl rfl (by simp[Ss];exact⟨rfl,rfl⟩) ?_;intro x D i B o q y;have b:∀k,k<n->dI Tryz.prog (.yld 904 0) [sv (yM (jD t k))] ((904,LR x (Ss t))::Yn t (jD t (k+1)) k) (fun r H'=>r=bv true/\H'=(904,LR x (Ss t))::Yn t (jD t (k+1)) (k+1)):=by
  intro k E;have w:=tf t k;have G:=PX t k;have hls:=DV (t:=t) (k:=k) (by omega);have hla:(yM (jD t k)).size<=t.size:=Nat.le_trans (P0 _) (AD t k (by omega)).2;refine .inl ⟨904,0,rfl,?_⟩;refine VB [(0,sv t),(4,.ref 4 0 0 0),(5,sv (yM (jD t k)))] (Yn t (jD t (k+1)) k) D i B o q y rfl rfl rfl ?_ ?_
  ·refine Rg<|Da ?_;exact(cQ.wk (Eb<|Ea<|Eb<|trivial) (Hc (mL (by simp[Ss];rfl))<|Hc (WZ _ _)<|Hc (wJ _ _)<|Ha<|trivial) ⟨rfl,rfl,rfl,rfl,trivial⟩)
  refine aE<|aL follows<|Cs (fun _ h=>lh jJ h)<|Cs (fun _ _=>aC)<|Cs (fun m c=>by exact bL rfl rfl call117 rfl (dx (yM (jD t k)) _ (by omega)))<|Cs (fun m c=>by exact bL rfl rfl call116 rfl (Jz (DE (yM (jD t k))) _ (by omega)))<|Cs (fun m c=>by exact aN [aZ (Ub t k)] rfl OP rfl rfl rfl rfl rfl (by intro r f;rw[aCi]at f;subst f;rfl)) ?_;refine gW (r:=⟨_,none,[_]⟩) (DStep.plain rfl (fun m c=>by exact cG (ps:=[aZ (Ub t k)]) rfl OP Qf rfl ((c _ rfl).trans rfl) rfl rfl rfl ((UQ _).trans G) rfl (by intro r f;rw[aCi]at f;subst f;rfl) (m:=1) rfl (by omega) rfl (UR (MP t k) (Ub t k)))) rfl ?_;refine gW (r:=⟨_,none,[_]⟩) (DStep.plain rfl (fun m c=>by exact(by exact kZ rfl sizeOf23 rfl rfl rfl rfl ((c _ rfl).trans rfl) rfl rfl rfl))) rfl ?_;refine bF<|Kr ?_;exact⟨[(933,lB (jD t (k+1))),(905,⟨k+1,15,153,F1 (MP t k++[Ub t k])⟩),(4,bx 1 23 [.osl 905 (k+1) 0 (k+1)])],(cQ.wk trivial (Hc (mL (by simp[Ss];rfl))<|Hc (WZ _ _)<|Hc (wJ _ _)<|Ha<|trivial) ⟨rfl,rfl,rfl,rfl,trivial⟩),rfl,by rw[<-w];rfl⟩
 refine(Ci t (.yld 904 0) (fun k=>(904,LR x (Ss t))::Yn t (jD t k) k) M (fun k=>rfl) (fun k E=>?_)).mono ?_
 ·exact dI.congrG (b k (by omega)) (fun j=>Mq j) (fun j=>rfl)
 rintro r H' ⟨rfl,rfl⟩;refine⟨x,_,rfl,by simp_all,rfl,fun z=>?_⟩;rw[i];obtain ⟨L,l⟩:∃L,L=MP t n:=⟨_,rfl⟩;have C:L.length=n:=by rw[l];exact PX t n
 rw[<-K,<-l];have u:∀e∈L,KD e:=fun e J=>by
  rw[l,MP]at J;obtain ⟨k,E,rfl⟩:=List.mem_map.1 J;have:=DV (t:=t) (k:=k) (by have:=List.mem_range.1 E;omega);exact UG (by rw[bC];omega)
 refine Sq<|Sq ?_;refine gC.ent (cQ.fzG (id:=905) (E':=[(0,sv t),(4,.ref 4 0 0 0)]) (H':=[(4,bx 1 23 [.pv (fX L)])]) (L.map aZ) rfl (by rw[l];exact HT aZ _) ?_ rfl ?_ ?_) ?_
 ·intro p I;simp only[aCr,aCv,or_false]at I;rcases I with rfl|rfl<;>exact⟨_,rfl,.same (by simp;try rfl)⟩
 ·exact⟨⟨_,rfl,rfl,rfl,rfl,nB rfl (cA (.osl (by rw[<-C];exact kX aZ L)) mD)⟩,trivial⟩
 ·exact trivial
 refine Rd (bD jJ)<|Dd (kc call118 (lj L _ (by omega) u))<|Dd aC<|Dd eG<|Dd eG<|Dd aH<|Zd aH<|Sq ?_;refine aQ (t:=31) (n:=8) (X:=!decide ((dS L).2=0)||!decide ((dS L).1=t)) ?_ ?_
 ·all_goals refine Dd aC ?_
  all_goals refine Dd rI<|Dm ?_<;>(refine Sp 27 (fun A=>?_) fun A=>?_)<;>(first|contradiction|refine Fo<|Fo<|Fo ?_|refine On aC<|On aC<|On DH ?_)<;>refine Zd cD ?_<;>(exact⟨⟨_,rfl,by(simp_all;done)⟩,rfl,rfl,rfl⟩)
 refine Cn ?_ ?_<;>intro d
 ·have s:dS L≠(t,0):=fun e=>by have h:=d;rw[e]at h;simp at h
  rw[aCd s];exact Sd aH<|Zd aH<|aB<|Ru<|Qq
 have F:dS L=(t,0):=by have h:=d;simp only[aDB,Bool.not_eq_false',aCm]at h;exact Prod.ext h.2 h.1
 rw[aCe F];exact aA<|Sd (bD jJ)<|Dd aH<|Zd aH<|aB<|Ru<|Qq
end Go.Proofs.YtmdicgjnmfolfaaGreatDoor
namespace Go.Proofs.YtmdicgjnmfolfaaGreatDoor
open Go.Proofs.Tryz
open Go.Abs Go.Lib
variable{α:Type}
theorem PB(t):∀e∈(gT t).1,KD e:=by
 intro e a;rw[gT]at a
 split at a
 ·cases a
 next hs =>
 split at a
 ·rw[<-PY]at a;obtain ⟨k,b,rfl⟩:=List.mem_map.1 a;have:=DV (t:=t) (k:=k) (by have:=List.mem_range.1 b;omega);exact UG (by rw[bC];omega)
 cases a
theorem LN(t):(gT t).1.length<=20000:=by
 rw[gT]
 split
 ·simp_all
 next hs =>
 split
 ·rw[<-PY,PX];exact KJ (by omega)
 simp_all
def J2{α:Type}(f:List UInt8->Option (α×List UInt8))(d:α)(l:List UInt8):α×List UInt8:=(f l).getD (d,l)
def p0(t:List UInt8):=J2 nZ sNil t
def p1(t:List UInt8):=J2 wG 0 (p0 t).2
def p2(t:List UInt8):=J2 wG 0 (p1 t).2
def p3(t:List UInt8):=J2 wG 0 (p2 t).2
def p4(t:List UInt8):=J2 wG 0 (p3 t).2
def p5(t:List UInt8):=J2 nZ sNil (p4 t).2
def p6(t:List UInt8):=J2 (B6 nZ) [] (p5 t).2
def p7(t:List UInt8):=J2 nZ sNil (p6 t).2
def p8(t:List UInt8):=J2 nZ sNil (p7 t).2
def p9(t:List UInt8):=J2 nZ sNil (p8 t).2
def dc(t:List UInt8):=J2 wG 0 (p9 t).2
def db(t:List UInt8):=J2 nZ sNil (dc t).2
def ZP(t:List UInt8):=J2 qu zS (db t).2
def da(t:List UInt8):=J2 nZ sNil (ZP t).2
def cz(t:List UInt8):=J2 nZ sNil (da t).2
def cy(t:List UInt8):=J2 (B6 nZ) [] (cz t).2
def cx(t:List UInt8):=J2 (B6 PA) [] (cy t).2
def Hv(t:List UInt8):=J2 qu zS (cx t).2
def AM:ByteArray:=⟨#[49]⟩
def HU(t:List UInt8):GRec:=⟨(p1 t).1,(p2 t).1,(p3 t).1,(p4 t).1,(p5 t).1,(p6 t).1,(gT (p7 t).1).1,(p8 t).1,decide ((p9 t).1=AM),(dc t).1,(db t).1,(ZP t).1,⟨(da t).1,(cz t).1,(cy t).1,(cx t).1,(Hv t).1⟩⟩
def WQ(t:List UInt8):List Bool:=[(nZ t).isSome,(wG (p0 t).2).isSome,(wG (p1 t).2).isSome,(wG (p2 t).2).isSome,(wG (p3 t).2).isSome,(nZ (p4 t).2).isSome,((B6 nZ) (p5 t).2).isSome,(nZ (p6 t).2).isSome,(nZ (p7 t).2).isSome,(nZ (p8 t).2).isSome,(wG (p9 t).2).isSome,(nZ (dc t).2).isSome,(qu (db t).2).isSome,(nZ (ZP t).2).isSome,(nZ (da t).2).isSome,((B6 nZ) (cz t).2).isSome,((B6 PA) (cy t).2).isSome,(qu (cx t).2).isSome]
def vR(t:List UInt8):Bool:=(WQ t).all id
def eW(t:List UInt8):GRec×Int:=if 20000<t.length then(zR,2)else if vR t=true/\lA (HU t)=(ofL t,0)then(HU t,0)else(zR,5)
theorem kM{f}{d}{l}{e:α->AV}:((f l).map fun p=>(e p.1,p.2)).getD (e d,l)=(e (J2 f d l).1,(J2 f d l).2):=by rw[J2];cases f l<;>rfl
theorem nR{f}{d:α}{l}(h:∀p q,f l=some (p,q)->q.length<l.length):(J2 f d l).2.length<=l.length:=by
 rw[J2];cases e:f l with
 |none=>simp_all
 |some p=>grind
theorem VL{l q}{s}(h:qu l=some (s,q)):q.length<l.length/\pL s.idx/\(s.sig.length<=l.length/\∀x∈s.sig,x.size<=l.length)/\(s.path.length<=l.length/\∀x∈s.path,x.size<=l.length):=by
 rw[qu]at h;cases e:wG l with
 |none=>simp_all
 | some p =>
  obtain ⟨i,r⟩:=p;have g:=jO e;rw[e]at h;simp at h;cases d:B6 _ r with
  |none=>rw[d]at h;cases h
  | some p =>
   obtain ⟨a,r2⟩:=p;have j:=yN d;rw[d]at h;simp at h;cases c:B6 _ _ with
   |none=>rw[c]at h;cases h
   |some p =>
    have f:=yN c;rw[c]at h;cases h;exact⟨by omega,g.2,⟨by grind,fun x b=>by have:=j.2 x b;omega⟩,by grind,fun x b=>by have:=f.2 x b;omega⟩
theorem vI{f}{d}{l}(Q:α->Prop)(hd:Q d)(h:∀p q,f l=some (p,q)->Q p):Q (J2 f d l).1:=by
 rw[J2];cases e:f l with
 |none=>exact hd
 |some p=>grind
theorem Be(t):(p0 t).2.length<=t.length:=nR (fun p q h=>by have:=kO h;omega)
theorem Bc(t):(p1 t).2.length<=t.length:=Nat.le_trans (nR (fun p q h=>(jO h).1)) (Be t)
theorem Bb(t):(p2 t).2.length<=t.length:=Nat.le_trans (nR (fun p q h=>(jO h).1)) (Bc t)
theorem Ba(t):(p3 t).2.length<=t.length:=Nat.le_trans (nR (fun p q h=>(jO h).1)) (Bb t)
theorem ga(t):(p4 t).2.length<=t.length:=Nat.le_trans (nR (fun p q h=>(jO h).1)) (Ba t)
theorem fy(t):(p5 t).2.length<=t.length:=Nat.le_trans (nR (fun p q h=>by have:=kO h;omega)) (ga t)
theorem fx(t):(p6 t).2.length<=t.length:=Nat.le_trans (nR (fun p q h=>by have:=(yN h).1;omega)) (fy t)
theorem fw(t):(p7 t).2.length<=t.length:=Nat.le_trans (nR (fun p q h=>by have:=kO h;omega)) (fx t)
theorem Az(t):(p8 t).2.length<=t.length:=Nat.le_trans (nR (fun p q h=>by have:=kO h;omega)) (fw t)
theorem Ay(t):(p9 t).2.length<=t.length:=Nat.le_trans (nR (fun p q h=>by have:=kO h;omega)) (Az t)
theorem WK(t):(dc t).2.length<=t.length:=Nat.le_trans (nR (fun p q h=>(jO h).1)) (Ay t)
theorem WJ(t):(db t).2.length<=t.length:=Nat.le_trans (nR (fun p q h=>by have:=kO h;omega)) (WK t)
theorem WI(t):(ZP t).2.length<=t.length:=Nat.le_trans (nR (fun p q h=>(VL h).1)) (WJ t)
theorem WH(t):(da t).2.length<=t.length:=Nat.le_trans (nR (fun p q h=>by have:=kO h;omega)) (WI t)
theorem WG(t):(cz t).2.length<=t.length:=Nat.le_trans (nR (fun p q h=>by have:=kO h;omega)) (WH t)
theorem WF(t):(cy t).2.length<=t.length:=Nat.le_trans (nR (fun p q h=>by have:=(yN h).1;omega)) (WG t)
theorem WE(t):(cx t).2.length<=t.length:=Nat.le_trans (nR (fun p q h=>by have:=(nj h).1;omega)) (WF t)
theorem Ks(t):(Hv t).2.length<=t.length:=Nat.le_trans (nR (fun p q h=>(VL h).1)) (WE t)
theorem yh{l q}{s}{n}(h:qu l=some (s,q))(hn:l.length<=n):pL s.idx/\(s.sig.length<=n/\∀x∈s.sig,x.size<=n)/\(s.path.length<=n/\∀x∈s.path,x.size<=n):=by
 obtain ⟨_,h1,h2,h3⟩:=VL h
 grind
theorem Xa(t:List UInt8):pL zS.idx/\(zS.sig.length<=t.length/\∀x∈zS.sig,x.size<=t.length)/\(zS.path.length<=t.length/\∀x∈zS.path,x.size<=t.length):=by simp[zS,pL]
theorem Ze(t):(pL) (p1 t).1:=vI _ (⟨by simp,by simp⟩) (fun p q h=>(jO h).2)
theorem Zb(t):(pL) (p2 t).1:=vI _ (⟨by simp,by simp⟩) (fun p q h=>(jO h).2)
theorem Yz(t):(pL) (p3 t).1:=vI _ (⟨by simp,by simp⟩) (fun p q h=>(jO h).2)
theorem Yx(t):(pL) (p4 t).1:=vI _ (⟨by simp,by simp⟩) (fun p q h=>(jO h).2)
theorem Yv(t):(fun s=>s.size<=t.length) (p5 t).1:=by exact vI (f:=nZ) (fun s=>s.size<=t.length) ((aCw _)) (fun p q h=>by have:=kO h;have:=ga t;omega)
theorem Yt(t):(fun l=>l.length<=t.length/\∀x∈l,x.size<=t.length) (p6 t).1:=by exact vI (f:=(B6 nZ)) (fun l=>l.length<=t.length/\∀x∈l,x.size<=t.length) (⟨aCw _,by simp⟩) (fun p q h=>by have a:=yN h;have h2:=fy t;exact⟨by omega,fun x b=>by have:=a.2 x b;omega⟩)
theorem Yr(t):(fun s=>s.size<=t.length) (p7 t).1:=by exact vI (f:=nZ) (fun s=>s.size<=t.length) ((aCw _)) (fun p q h=>by have:=kO h;have:=fx t;omega)
theorem Yp(t):(fun s=>s.size<=t.length) (p8 t).1:=by exact vI (f:=nZ) (fun s=>s.size<=t.length) ((aCw _)) (fun p q h=>by have:=kO h;have:=fw t;omega)
theorem Tk(t):(pL) (dc t).1:=vI _ (⟨by simp,by simp⟩) (fun p q h=>(jO h).2)
theorem Ti(t):(fun s=>s.size<=t.length) (db t).1:=by exact vI (f:=nZ) (fun s=>s.size<=t.length) ((aCw _)) (fun p q h=>by have:=kO h;have:=WK t;omega)
theorem Tg(t):(fun s=>pL s.idx/\(s.sig.length<=t.length/\∀x∈s.sig,x.size<=t.length)/\(s.path.length<=t.length/\∀x∈s.path,x.size<=t.length)) (ZP t).1:=by unfold ZP;exact vI (fun s:GSeal=>pL _/\(s.sig.length<=t.length/\∀x∈s.sig,x.size<=t.length)/\(s.path.length<=t.length/\∀x∈s.path,x.size<=t.length)) (Xa t) (fun p q h=>yh h (WJ t))
theorem Te(t):(fun s=>s.size<=t.length) (da t).1:=by exact vI (f:=nZ) (fun s=>s.size<=t.length) ((aCw _)) (fun p q h=>by have:=kO h;have:=WI t;omega)
theorem Tc(t):(fun s=>s.size<=t.length) (cz t).1:=by exact vI (f:=nZ) (fun s=>s.size<=t.length) ((aCw _)) (fun p q h=>by have:=kO h;have:=WH t;omega)
theorem Ta(t):(fun l=>l.length<=t.length/\∀x∈l,x.size<=t.length) (cy t).1:=by exact vI (f:=(B6 nZ)) (fun l=>l.length<=t.length/\∀x∈l,x.size<=t.length) (⟨aCw _,by simp⟩) (fun p q h=>by have a:=yN h;have h2:=WG t;exact⟨by omega,fun x b=>by have:=a.2 x b;omega⟩)
theorem Sx(t):(fun l=>l.length<=t.length/\∀q∈l,pL q.1/\pL q.2) (cx t).1:=by exact vI (f:=(B6 PA)) (fun l=>l.length<=t.length/\∀q∈l,pL q.1/\pL q.2) (⟨aCw _,by simp⟩) (fun p q h=>by have a:=nj h;have h2:=WF t;exact⟨by omega,a.2⟩)
theorem Sv(t):(fun s=>pL s.idx/\(s.sig.length<=t.length/\∀x∈s.sig,x.size<=t.length)/\(s.path.length<=t.length/\∀x∈s.path,x.size<=t.length)) (Hv t).1:=by unfold Hv;exact vI (fun s:GSeal=>pL _/\(s.sig.length<=t.length/\∀x∈s.sig,x.size<=t.length)/\(s.path.length<=t.length/\∀x∈s.path,x.size<=t.length)) (Xa t) (fun p q h=>yh h (WE t))
theorem zf{N:Nat}(hN:N<=20000){k a n c t:Int}{u s v nm w:ByteArray}{pa m:List ByteArray}{i:List GEdit}{y:Bool}{sl ps:GSeal}{f}(B:pL k)(I:pL a)(D:pL n)(H:pL c)(o:pL t)(h5:u.size<=N)(h8:s.size<=N)(h11:v.size<=N)(h13:nm.size<=N)(h14:w.size<=N)
  (r:pa.length<=N/\∀x∈pa,x.size<=N) (p:m.length<=N/\∀x∈m,x.size<=N) (h16:f.length<=N/\∀q∈f,pL q.1/\pL q.2) (he:i.length<=20000) (j:∀e∈i,KD e)
  (d:pL sl.idx/\(sl.sig.length<=N/\∀x∈sl.sig,x.size<=N)/\(sl.path.length<=N/\∀x∈sl.path,x.size<=N)) (g:pL ps.idx/\(ps.sig.length<=N/\∀x∈ps.sig,x.size<=N)/\(ps.path.length<=N/\∀x∈ps.path,x.size<=N)) :
  gE ⟨k,a,n,c,u,pa,i,s,y,t,v,sl,⟨nm,w,m,f,ps⟩⟩/\pa.length<549755813888:=by
 have b:∀ {l:List ByteArray},(l.length<=N/\∀x∈l,x.size<=N)->FH l:=fun h=>⟨by omega,fun x G=>by have:=h.2 x G;omega⟩;obtain ⟨z,C,E⟩:=d;obtain ⟨J,A,F⟩:=g;exact⟨⟨⟨B,I,D,H,o⟩,⟨by grind,by grind,by grind⟩,b r,⟨by grind,j⟩,⟨z,b C,b E⟩,by grind,by grind,b p,by grind,J,b A,b F⟩,by have:=r.1;omega⟩
theorem Y5{t}(a:t.length<=20000):gE (HU t)/\(HU t).parents.length<549755813888 :=zf a (Ze t) (Zb t) (Yz t) (Yx t) (Tk t) (Yv t) (Yp t) (Ti t) (Te t) (Tc t) (Yt t) (Ta t) (Sx t) (LN _) (PB _) (Tg t) (Sv t)
theorem eI{β:Type}{o:Option _}{g:α->β}:(o.map g=none↔o.isSome=false)/\((o.map g).isSome=o.isSome):=by simp
theorem nS{t}{b}(h:b∈WQ t)(hb:b=false):vR t=false:=by
 rw[vR]
 simp_all
theorem aBV(t):(IK t).getD (sv sNil,t)=(sv (p0 t).1,(p0 t).2):=by exact kM
theorem Zq(t)(h:IK t=none):vR t=false:=nS (List.mem_of_getElem? (i:=0) rfl) (eI.1.1 h)
theorem aBU(t):(DR (p0 t).2).getD (iv 0,(p0 t).2)=(iv (p1 t).1,(p1 t).2):=by exact kM
theorem Zf(t)(h:DR (p0 t).2=none):vR t=false:=nS (List.mem_of_getElem? (i:=1) rfl) (eI.1.1 h)
theorem aBT(t):(DR (p1 t).2).getD (iv 0,(p1 t).2)=(iv (p2 t).1,(p2 t).2):=by exact kM
theorem Zc(t)(h:DR (p1 t).2=none):vR t=false:=nS (List.mem_of_getElem? (i:=2) rfl) (eI.1.1 h)
theorem aBS(t):(DR (p2 t).2).getD (iv 0,(p2 t).2)=(iv (p3 t).1,(p3 t).2):=by exact kM
theorem Za(t)(h:DR (p2 t).2=none):vR t=false:=nS (List.mem_of_getElem? (i:=3) rfl) (eI.1.1 h)
theorem aBR(t):(DR (p3 t).2).getD (iv 0,(p3 t).2)=(iv (p4 t).1,(p4 t).2):=by exact kM
theorem Yy(t)(h:DR (p3 t).2=none):vR t=false:=nS (List.mem_of_getElem? (i:=4) rfl) (eI.1.1 h)
theorem aBQ(t):(IK (p4 t).2).getD (sv sNil,(p4 t).2)=(sv (p5 t).1,(p5 t).2):=by exact kM
theorem Yw(t)(h:IK (p4 t).2=none):vR t=false:=nS (List.mem_of_getElem? (i:=5) rfl) (eI.1.1 h)
theorem aBP(t):(ti (p5 t).2).getD (.pv (aU []),(p5 t).2)=(.pv (aU (p6 t).1),(p6 t).2):=by exact kM (e:=fun v=>.pv _)
theorem Yu(t)(h:ti (p5 t).2=none):vR t=false:=nS (List.mem_of_getElem? (i:=6) rfl) (eI.1.1 h)
theorem aBO(t):(IK (p6 t).2).getD (sv sNil,(p6 t).2)=(sv (p7 t).1,(p7 t).2):=by exact kM
theorem Ys(t)(h:IK (p6 t).2=none):vR t=false:=nS (List.mem_of_getElem? (i:=7) rfl) (eI.1.1 h)
theorem aBN(t):(IK (p7 t).2).getD (sv sNil,(p7 t).2)=(sv (p8 t).1,(p8 t).2):=by exact kM
theorem Yq(t)(h:IK (p7 t).2=none):vR t=false:=nS (List.mem_of_getElem? (i:=8) rfl) (eI.1.1 h)
theorem aBM(t):(IK (p8 t).2).getD (sv sNil,(p8 t).2)=(sv (p9 t).1,(p9 t).2):=by exact kM
theorem Yo(t)(h:IK (p8 t).2=none):vR t=false:=nS (List.mem_of_getElem? (i:=9) rfl) (eI.1.1 h)
theorem Zp(t):(DR (p9 t).2).getD (iv 0,(p9 t).2)=(iv (dc t).1,(dc t).2):=by exact kM
theorem Tl(t)(h:DR (p9 t).2=none):vR t=false:=nS (List.mem_of_getElem? (i:=10) rfl) (eI.1.1 h)
theorem Zn(t):(IK (dc t).2).getD (sv sNil,(dc t).2)=(sv (db t).1,(db t).2):=by exact kM
theorem Tj(t)(h:IK (dc t).2=none):vR t=false:=nS (List.mem_of_getElem? (i:=11) rfl) (eI.1.1 h)
theorem Zm(t):(Jk (db t).2).getD (av (iM zS),(db t).2)=(av (iM (ZP t).1),(ZP t).2):=by exact kM (e:=fun v=>av _)
theorem Th(t)(h:Jk (db t).2=none):vR t=false:=nS (List.mem_of_getElem? (i:=12) rfl) (eI.1.1 h)
theorem Zk(t):(IK (ZP t).2).getD (sv sNil,(ZP t).2)=(sv (da t).1,(da t).2):=by exact kM
theorem Tf(t)(h:IK (ZP t).2=none):vR t=false:=nS (List.mem_of_getElem? (i:=13) rfl) (eI.1.1 h)
theorem Zj(t):(IK (da t).2).getD (sv sNil,(da t).2)=(sv (cz t).1,(cz t).2):=by exact kM
theorem Td(t)(h:IK (da t).2=none):vR t=false:=nS (List.mem_of_getElem? (i:=14) rfl) (eI.1.1 h)
theorem Zi(t):(ti (cz t).2).getD (.pv (aU []),(cz t).2)=(.pv (aU (cy t).1),(cy t).2):=by exact kM (e:=fun v=>.pv _)
theorem Tb(t)(h:ti (cz t).2=none):vR t=false:=nS (List.mem_of_getElem? (i:=15) rfl) (eI.1.1 h)
theorem Zh(t):(Z7 (cy t).2).getD (.pv (vE []),(cy t).2)=(.pv (vE (cx t).1),(cx t).2):=by exact kM (e:=fun v=>.pv _)
theorem Sy(t)(h:Z7 (cy t).2=none):vR t=false:=nS (List.mem_of_getElem? (i:=16) rfl) (eI.1.1 h)
theorem Zg(t):(Jk (cx t).2).getD (av (iM zS),(cx t).2)=(av (iM (Hv t).1),(Hv t).2):=by exact kM (e:=fun v=>av _)
theorem Sw(t)(h:Jk (cx t).2=none):vR t=false:=nS (List.mem_of_getElem? (i:=17) rfl) (eI.1.1 h)
theorem Lf(t)(r:(IK t).isSome=true)(o:(DR (p0 t).2).isSome=true)(s:(DR (p1 t).2).isSome=true)(p:(DR (p2 t).2).isSome=true)(l:(DR (p3 t).2).isSome=true)(q:(IK (p4 t).2).isSome=true)(j:(ti (p5 t).2).isSome=true)(n:(IK (p6 t).2).isSome=true)(m:(IK (p7 t).2).isSome=true)(k:(IK (p8 t).2).isSome=true)(g:(DR (p9 t).2).isSome=true)(c:(IK (dc t).2).isSome=true)(h:(Jk (db t).2).isSome=true)(f:(IK (ZP t).2).isSome=true)(b:(IK (da t).2).isSome=true)(i:(ti (cz t).2).isSome=true)(d:(Z7 (cy t).2).isSome=true)(e:(Jk (cx t).2).isSome=true):vR t=true:=by unfold vR WQ;simp[List.all_cons,List.all_nil,id,Bool.and_true,aCo];exact⟨eI.2▸r,eI.2▸o,eI.2▸s,eI.2▸p,eI.2▸l,eI.2▸q,eI.2▸j,eI.2▸n,eI.2▸m,eI.2▸k,eI.2▸g,eI.2▸c,eI.2▸h,eI.2▸f,eI.2▸b,eI.2▸i,eI.2▸d,eI.2▸e⟩
end Go.Proofs.YtmdicgjnmfolfaaGreatDoor
namespace Go.Proofs.YtmdicgjnmfolfaaGreatDoor
open Go.Proofs.Tryz
open Go.Abs
theorem XZ.mono{P}{F}{args}{H}{u}{K b}(h:XZ P F args H u K)(f:∀H,K H->b H):XZ P F args H u b :=fun I ι w vs d j g=>(h I _ w _ d j g).mono fun _ _ _ ⟨v,c,i,a,e,s,q,r⟩=>⟨v,c,i,a,e,s,f _ q,r⟩
def PQ(t:List UInt8)(r:AV)(H:aG):Prop:=r=.tup [av (cC (eW t).1),iv (eW t).2]/\H=[]
abbrev dE:dC:=[(2,.ref 2 0 0 0),(3,.ref 3 0 0 0)]
theorem bk(x)(e){t}(hg:eW t=(x,e)):∃r,(∀(a) (w) (I) (ι),Rel I ι (fu x e) w->kS w I ι (fu x e) dE a->∃v,(results f12 a.tmps).run Tryz.prog w=.ok v w/\VRel w I ι (fu x e) v r)/\∃r' H3,Fin [] (fu x e) r H3 r'/\PQ t r' H3 :=⟨.tup [av (cC x),iv e],aBI rfl (BT aX aK) (gZ rfl mI rfl rfl rfl rfl),_,[],Fin.wk (by simp) trivial trivial,by rw[PQ];simp_all⟩
theorem qZ{t}{i}{e}{H2}(m:¬ 20000<t.length)(hok:vR t=false)(r:i=GL)(j:e.get 2=some (.ref 2 0 0 0))(q:e.get 3=some (.ref 3 0 0 0))(p:∃o,H2.get 2=some o/\lW o rAJ)(l:∃o,H2.get 3=some o/\lW o eAJ):
  px Tryz.prog f12 [] (fu zR 0) 46 Wm (PQ t) (.panic i) e H2:=by
 subst r;have w:eW t=(zR,5):=by rw[eW,aCd m,aCd (by simp_all)]
 refine⟨.panicking GL,dE,pAJ,.inr ⟨GL,rfl,rfl⟩,cQ.toAny (fun u v s=>?_) (fun id o' c=>?_) (fun id n=>?_),XZ.mono So fun H k=>by subst k;exact bk zR 5 w⟩
 ·have a:=iA s;simp only[aCr,aCv,or_false,Prod.mk.injEq]at a;rcases a with⟨rfl,rfl⟩|⟨rfl,rfl⟩
  ·exact⟨j,by simp;rfl⟩
  exact⟨q,by simp;rfl⟩
 ·have a:=dY c;simp[aCr,aCv,or_false,Prod.mk.injEq]at a;rcases a with⟨rfl,rfl⟩|⟨rfl,rfl⟩
  ·obtain ⟨o,d,f⟩:=l;exact⟨o,d,f,by simp⟩
  obtain ⟨o,d,f⟩:=p;exact⟨o,d,f,by simp⟩
 by_cases h:3=id
 ·subst h;rfl
 by_cases g:2=id
 ·subst g;rfl
 simp[aG.get,kV h,kV g]at n
theorem TJ{t}{x}{e}{b}{H2}(f:eW t=(x,e))(c:cQ (fu zR 0) b H2 dE (fu x e)):px Tryz.prog f12 [] (fu zR 0) 46 Wm (PQ t) .ret b H2 :=⟨.returning,dE,fu x e,.inl ⟨.inr rfl,rfl⟩,c,XZ.mono (Sn x e) fun H d=>by subst d;exact bk x e f⟩
theorem NB{x}{o}(h:lW (vy x) o):lW o rAJ:=⟨h.1.symm,h.2.1.symm,h.2.2.1.symm,h.2.2.2.symm⟩
theorem EN{e}{o}(h:lW (wa e) o):lW o eAJ:=⟨h.1.symm,h.2.1.symm,h.2.2.1.symm,h.2.2.2.symm⟩
theorem VO(x):lW (vy x) rAJ:=⟨rfl,rfl,rfl,rfl⟩
theorem VN(e):lW (wa e) eAJ:=⟨rfl,rfl,rfl,rfl⟩
theorem ZK(t:List UInt8)(hts:t.length<1099511627776)(H:aG):RC 12 [sv (ofL t)] (.tup [av (cC (eW t).1),iv (eW t).2]) H:=by
 refine aW.pure (show aW Tryz.prog 12 [sv (ofL t)] [] (PQ t)from ?_) (by simp) H;have hls:(ofL t).size=t.length:=cM t;refine aW.bodyD func12 rfl ntmps12 (aCs rfl) ?_;refine ox ?_;refine Rd (kl 2 HC)<|Zd (kl 3 Qu) ?_;refine ox ?_;refine Sd aC<|Dd (gF underlying9)<|Zd gX ?_;refine Cn ?_ ?_<;>intro x
 ·have C:20000<t.length:=by have:=aCb x;omega
  have hg:eW t=(zR,2):=by rw[eW,aCe C]
  refine Sd (nP QV)<|Uu (iP aK)<|Uu (iP sizeOf41)<|Zz<|aB ?_;refine iN (H':=[]) (.inr rfl) rfl (eU rfl aX aK rfl rfl rfl (by simp only[Zl,encStr];rfl) rfl) (gZ rfl mI rfl rfl rfl rfl) (Fin.wk (by simp[cC,RH]) trivial trivial) ?_;rw[PQ,hg];exact Qq
 have C:¬ 20000<t.length:=by have:=aCc x;omega
 refine aA ?_;refine uf (F:=46) (cs:=Wm) rfl rfl rfl rfl rfl rfl rfl rfl rfl call46 ?_;refine gC.mono (Q:=px Tryz.prog f12 [] (fu zR 0) 46 Wm (PQ t)) ?_ (fun _ _ _ h=>h);have t0:=aBV t;have n0:=Zq t;have c0:=Be t;have t1:=aBU t;have n1:=Zf t;have c1:=Bc t;have t2:=aBT t;have n2:=Zc t;have c2:=Bb t;have t3:=aBS t;have n3:=Za t;have c3:=Ba t;have t4:=aBR t;have n4:=Yy t;have c4:=ga t;have t5:=aBQ t;have n5:=Yw t;have c5:=fy t;have t6:=aBP t;have n6:=Yu t;have c6:=fx t;have t7:=aBO t;have n7:=Ys t;have c7:=fw t;have t8:=aBN t;have n8:=Yq t;have c8:=Az t;have t9:=aBM t;have n9:=Yo t;have c9:=Ay t;have t10:=Zp t;have n10:=Tl t;have c10:=WK t;have t11:=Zn t;have n11:=Tj t;have c11:=WJ t;have t12:=Zm t;have n12:=Th t;have c12:=WI t;have t13:=Zk t;have n13:=Tf t;have c13:=WH t;have t14:=Zj t;have n14:=Td t;have c14:=WG t;have t15:=Zi t;have n15:=Tb t;have c15:=WF t;have t16:=Zh t;have n16:=Sy t;have c16:=WE t;have t17:=Zg t;have n17:=Sw t;have c17:=Ks t;have yes:=Lf t;have o:=Y5 (t:=t) (by omega);have y:HU t=⟨(p1 t).1,(p2 t).1,(p3 t).1,(p4 t).1,(p5 t).1,(p6 t).1,(gT (p7 t).1).1,(p8 t).1,decide ((p9 t).1=AM),(dc t).1,(db t).1,(ZP t).1,⟨(da t).1,(cz t).1,(cy t).1,(cx t).1,(Hv t).1⟩⟩:=rfl;have s7:(p7 t).1.size<=t.length:=Yr t;have u:eW t=if vR t=true/\lA (HU t)=(ofL t,0)then(HU t,0)else(zR,5):=by rw[eW,aCd C]
 rw[y]at o u;obtain ⟨V0,hV0⟩:∃v,v=(p0 t).1:=⟨_,rfl⟩;obtain ⟨L0,hL0⟩:∃v,v=(p0 t).2:=⟨_,rfl⟩;obtain ⟨F,hV1⟩:∃v,v=(p1 t).1:=⟨_,rfl⟩;obtain ⟨L1,hL1⟩:∃v,v=(p1 t).2:=⟨_,rfl⟩;obtain ⟨E,hV2⟩:∃v,v=(p2 t).1:=⟨_,rfl⟩;obtain ⟨L2,hL2⟩:∃v,v=(p2 t).2:=⟨_,rfl⟩;obtain ⟨I,hV3⟩:∃v,v=(p3 t).1:=⟨_,rfl⟩;obtain ⟨L3,hL3⟩:∃v,v=(p3 t).2:=⟨_,rfl⟩;obtain ⟨G,hV4⟩:∃v,v=(p4 t).1:=⟨_,rfl⟩;obtain ⟨L4,hL4⟩:∃v,v=(p4 t).2:=⟨_,rfl⟩;obtain ⟨N,hV5⟩:∃v,v=(p5 t).1:=⟨_,rfl⟩;obtain ⟨L5,hL5⟩:∃v,v=(p5 t).2:=⟨_,rfl⟩;obtain ⟨M,hV6⟩:∃v,v=(p6 t).1:=⟨_,rfl⟩;obtain ⟨L6,hL6⟩:∃v,v=(p6 t).2:=⟨_,rfl⟩;obtain ⟨V7,hV7⟩:∃v,v=(p7 t).1:=⟨_,rfl⟩;obtain ⟨L7,hL7⟩:∃v,v=(p7 t).2:=⟨_,rfl⟩;obtain ⟨V8,hV8⟩:∃v,v=(p8 t).1:=⟨_,rfl⟩;obtain ⟨L8,hL8⟩:∃v,v=(p8 t).2:=⟨_,rfl⟩;obtain ⟨V9,hV9⟩:∃v,v=(p9 t).1:=⟨_,rfl⟩;obtain ⟨L9,hL9⟩:∃v,v=(p9 t).2:=⟨_,rfl⟩;obtain ⟨n,P⟩:∃v,v=(dc t).1:=⟨_,rfl⟩;obtain ⟨L10,hL10⟩:∃v,v=(dc t).2:=⟨_,rfl⟩;obtain ⟨V11,hV11⟩:∃v,v=(db t).1:=⟨_,rfl⟩;obtain ⟨L11,Q⟩:∃v,v=(db t).2:=⟨_,rfl⟩;obtain ⟨p,T⟩:∃v,v=(ZP t).1:=⟨_,rfl⟩;obtain ⟨L12,hL12⟩:∃v,v=(ZP t).2:=⟨_,rfl⟩;obtain ⟨B,R⟩:∃v,v=(da t).1:=⟨_,rfl⟩;obtain ⟨L13,X⟩:∃v,v=(da t).2:=⟨_,rfl⟩;obtain ⟨w,W⟩:∃v,v=(cz t).1:=⟨_,rfl⟩;obtain ⟨L14,hL14⟩:∃v,v=(cz t).2:=⟨_,rfl⟩;obtain ⟨z,Y⟩:∃v,v=(cy t).1:=⟨_,rfl⟩;obtain ⟨L15,O⟩:∃v,v=(cy t).2:=⟨_,rfl⟩;obtain ⟨s,S⟩:∃v,v=(cx t).1:=⟨_,rfl⟩;obtain ⟨L16,hL16⟩:∃v,v=(cx t).2:=⟨_,rfl⟩;obtain ⟨J,Z⟩:∃v,v=(Hv t).1:=⟨_,rfl⟩;obtain ⟨L17,V⟩:∃v,v=(Hv t).2:=⟨_,rfl⟩;simp only[<-hV0,<-hL0,<-hV1,<-hL1,<-hV2,<-hL2,<-hV3,<-hL3,<-hV4,<-hL4,<-hV5,<-hL5,<-hV6,<-hL6,<-hV7,<-hL7,<-hV8,<-hL8,<-hV9,<-hL9,<-P,<-hL10,<-hV11,<-Q,<-T,<-hL12,<-R,<-X,<-W,<-hL14,<-Y,<-O,<-S,<-hL16,<-Z,<-V]at t0 n0 c0 t1 n1 c1 t2 n2 c2 t3 n3 c3 t4 n4 c4 t5 n5 c5 t6 n6 c6 t7 n7 c7 t8 n8 c8 t9 n9 c9 t10 n10 c10 t11 n11 c11 t12 n12 c12 t13 n13 c13 t14 n14 c14 t15 n15 c15 t16 n16 c16 t17 n17 c17 yes o u s7;clear y hV0 hL0 hV1 hL1 hV2 hL2 hV3 hL3 hV4 hL4 hV5 hL5 hV6 hL6 hV7 hL7 hV8 hL8 hV9 hL9 P hL10 hV11 Q T hL12 R X W hL14 Y O S hL16 Z V;have hpc:=fun H=>Ar V7 H (by omega);obtain ⟨PE,hPE⟩:∃v,v=gT V7:=⟨_,rfl⟩;rw[<-hPE]at hpc o u;clear hPE;obtain ⟨U,EE⟩:=PE;simp only at hpc o u;have htx:=fun H=>M2 ⟨F,E,I,G,N,M,U,V8,decide (V9=AM),n,V11,p,⟨B,w,z,s,J⟩⟩ o.1 o.2 H;obtain ⟨TX,hTX⟩:∃v,v=lA ⟨F,E,I,G,N,M,U,V8,decide (V9=AM),n,V11,p,⟨B,w,z,s,J⟩⟩:=⟨_,rfl⟩;rw[<-hTX]at htx u;clear hTX o;refine Sd aC<|Dd (nP aBb)<|Dd (kb 980)<|Dd (kl 4 aAx)<|Uu (iP sizeOf82)<|Zz<|Sq ?_;refine gC.ent (E':=[(0,sv (ofL t)),(2,.ref 2 0 0 0),(3,.ref 3 0 0 0),(4,.ref 4 0 0 0)]) (H':=[(980,cw t),(4,inO),(3,wa 0),(2,vy zR)]) (cQ.wk (Eb<|Ea<|Ea<|Ea<|trivial) (Hb<|Ha<|Hb<|Hb<|trivial) ⟨rfl,rfl,trivial⟩) ?_;refine gG ?_;refine iI rfl rfl rfl (by exact bA rfl eD rfl rfl rfl rfl rfl) ?_
 refine XN rfl rfl rfl (by exact eF rfl rfl mP rfl (((zB t (by omega)).tot t0 rfl (fN _)).mono (PP':=fun ch H'=>vR t=false/\ch=GL/\∃q,H'=mM q++_) (fun _ _ h=>h) (fun ch H' ⟨e,e2,e3⟩=>⟨n0 e,e2,e3⟩))) (fun ch H' h=>by obtain ⟨e,e2,q,rfl⟩:=h;exact qZ C e e2 rfl rfl ⟨_,rfl,VO _⟩ ⟨_,rfl,VN _⟩) (fun h16=>?_);refine NY ?_;refine Sq ?_;refine gC.ent (E':=[(0,sv (ofL t)),(2,.ref 2 0 0 0),(3,.ref 3 0 0 0),(4,.ref 4 0 0 0)]) (H':=[(980,cw L0),(4,inO),(3,wa 0),(2,vy zR)]) (cQ.wk (Eb<|Ea<|Ea<|Ea<|trivial) (Hb<|Ha<|Hb<|Hb<|trivial) ⟨rfl,rfl,trivial⟩) ?_;refine xQ (fun ch H1 D=>vR t=false/\ch=GL/\∃q,D=mM q++H1) [2,3] [2,3] [] rfl follows (fun ch E1 H1 D hts hsh hks ⟨e,e2,q,e3⟩=>by subst e3;obtain ⟨o2,k1,k2⟩:=hsh 2 (by simp) _ rfl;obtain ⟨o3,k3,k4⟩:=hsh 3 (by simp) _ rfl;exact qZ C e e2 ((hts 2 (by simp)).trans rfl) ((hts 3 (by simp)).trans rfl) ⟨o2,k1,NB k2⟩ ⟨o3,k3,EN k4⟩) ?_;refine Pr [4] (fun _ h=>lh eD h) ?_;refine uN (r:=⟨_,some [980],mM L1⟩) (.pan rfl (fun H1 hH=>by exact eF rfl rfl jC rfl (((nN L0 (by omega)).tot t1 ((hH 980 rfl).trans rfl) (fN _)).mono (PP':=fun ch H'=>vR t=false/\ch=GL/\∃q,H'=mM q++_) (fun _ _ h=>h) (fun ch H' ⟨e,e2,e3⟩=>⟨n1 e,e2,e3⟩)))) rfl ?_;refine Pr [4] (fun _ h=>lh eD h) ?_;refine uN (r:=⟨_,some [980],mM L2⟩) (.pan rfl (fun H1 hH=>by exact eF rfl rfl jC rfl (((nN L1 (by omega)).tot t2 ((hH 980 rfl).trans rfl) (fN _)).mono (PP':=fun ch H'=>vR t=false/\ch=GL/\∃q,H'=mM q++_) (fun _ _ h=>h) (fun ch H' ⟨e,e2,e3⟩=>⟨n2 e,e2,e3⟩)))) rfl ?_;refine Pr [4] (fun _ h=>lh eD h) ?_;refine uN (r:=⟨_,some [980],mM L3⟩) (.pan rfl (fun H1 hH=>by exact eF rfl rfl jC rfl (((nN L2 (by omega)).tot t3 ((hH 980 rfl).trans rfl) (fN _)).mono (PP':=fun ch H'=>vR t=false/\ch=GL/\∃q,H'=mM q++_) (fun _ _ h=>h) (fun ch H' ⟨e,e2,e3⟩=>⟨n3 e,e2,e3⟩)))) rfl ?_;refine Pr [4] (fun _ h=>lh eD h) ?_;refine uN (r:=⟨_,some [980],mM L4⟩) (.pan rfl (fun H1 hH=>by exact eF rfl rfl jC rfl (((nN L3 (by omega)).tot t4 ((hH 980 rfl).trans rfl) (fN _)).mono (PP':=fun ch H'=>vR t=false/\ch=GL/\∃q,H'=mM q++_) (fun _ _ h=>h) (fun ch H' ⟨e,e2,e3⟩=>⟨n4 e,e2,e3⟩)))) rfl ?_;refine Pr [2] (fun _ h=>fh mF h)<|Pw [2] (fun _ h=>su sizeOf3 h)<|Pr [2] (fun _ h=>fh sJ h)<|Pw [2] (fun _ h=>su sizeOf3 h)<|Pr [2] (fun _ h=>fh mE h)<|Pw [2] (fun _ h=>su sizeOf3 h)<|Pr [2] (fun _ h=>fh uZ h)<|Pw [2] (fun _ h=>su sizeOf3 h) ?_;refine I6 ⟨⟨by kernel_rfl,by rfl,by rfl⟩,fun A=>?_⟩;simp only[XY,true_and,and_true]at A;refine Sq ?_;have f4:=A;refine gC.ent (E':=[(0,sv (ofL t)),(2,.ref 2 0 0 0),(3,.ref 3 0 0 0),(4,.ref 4 0 0 0)]) (H':=[(980,cw L4),(4,inO),(3,wa 0),(2,vy ⟨F,E,I,G,sNil,[],[],sNil,false,0,sNil,zS,⟨sNil,sNil,[],[],zS⟩⟩)]) (cQ.wk (Eb<|Ea<|Ea<|Ea<|trivial) (Hb<|Ha<|Hb<|Hb<|trivial) ⟨rfl,rfl,trivial⟩) ?_
 refine xQ (fun ch H1 D=>vR t=false/\ch=GL/\∃q,D=mM q++H1) [2,3] [2,3] [] rfl follows (fun ch E1 H1 D hts hsh hks ⟨e,e2,q,e3⟩=>by subst e3;obtain ⟨o2,k1,k2⟩:=hsh 2 (by simp) _ rfl;obtain ⟨o3,k3,k4⟩:=hsh 3 (by simp) _ rfl;exact qZ C e e2 ((hts 2 (by simp)).trans rfl) ((hts 3 (by simp)).trans rfl) ⟨o2,k1,NB k2⟩ ⟨o3,k3,EN k4⟩) ?_;refine Pr [4] (fun _ h=>lh eD h) ?_;refine uN (r:=⟨_,some [980],mM L5⟩) (.pan rfl (fun H1 hH=>by exact eF rfl rfl mP rfl (((zB L4 (by omega)).tot t5 ((hH 980 rfl).trans rfl) (fN _)).mono (PP':=fun ch H'=>vR t=false/\ch=GL/\∃q,H'=mM q++_) (fun _ _ h=>h) (fun ch H' ⟨e,e2,e3⟩=>⟨n5 e,e2,e3⟩)))) rfl ?_;refine Pr [4] (fun _ h=>lh eD h)<|Pr [4] (fun _ h=>lh eD h)<|Pr [] (fun H1 hH=>by exact oJ rfl rfl) ?_;refine uN (r:=⟨_,some [980],mM L6⟩) (.pan rfl (fun H1 hH=>by exact eF rfl rfl C6 rfl (((WY L5 (by omega)).tot t6 ((hH 980 rfl).trans rfl) (fN _)).mono (PP':=fun ch H'=>vR t=false/\ch=GL/\∃q,H'=mM q++_) (fun _ _ h=>h) (fun ch H' ⟨e,e2,e3⟩=>⟨n6 e,e2,e3⟩)))) rfl ?_;refine Pr [2] (fun _ h=>fh uY h)<|Pw [2] (fun _ h=>su sizeOf9 h)<|Pr [2] (fun _ h=>fh lM h)<|Pw [2] (fun _ h=>su sizeOf22 h) ?_;refine I6 ⟨⟨by rfl,by rfl,by rfl⟩,fun A=>?_⟩;simp only[XY,true_and,and_true]at A;refine Sq ?_;have f6:=A;refine gC.ent (E':=[(0,sv (ofL t)),(2,.ref 2 0 0 0),(3,.ref 3 0 0 0),(4,.ref 4 0 0 0)]) (H':=[(980,cw L6),(4,inO),(3,wa 0),(2,vy ⟨F,E,I,G,N,M,[],sNil,false,0,sNil,zS,⟨sNil,sNil,[],[],zS⟩⟩)]) (cQ.wk (Eb<|Ea<|Ea<|Ea<|trivial) (Hb<|Ha<|Hb<|Hb<|trivial) ⟨rfl,rfl,trivial⟩) ?_;refine gG ?_;refine iI rfl rfl rfl (by exact bA rfl eD rfl rfl rfl rfl rfl) ?_;refine XN rfl rfl rfl (by exact eF rfl rfl mP rfl (((zB L6 (by omega)).tot t7 rfl (fN _)).mono (PP':=fun ch H'=>vR t=false/\ch=GL/\∃q,H'=mM q++_) (fun _ _ h=>h) (fun ch H' ⟨e,e2,e3⟩=>⟨n7 e,e2,e3⟩))) (fun ch H' h=>by obtain ⟨e,e2,q,rfl⟩:=h;exact qZ C e e2 rfl rfl ⟨_,rfl,VO _⟩ ⟨_,rfl,VN _⟩) (fun h39=>?_);refine iI rfl rfl rfl (kc call50 (hpc _)) ?_;refine iI rfl rfl rfl (by exact gH rfl rfl) ?_;refine iI rfl rfl rfl (by exact uG rfl rfl rfl) ?_;refine iI rfl rfl rfl (by exact uG rfl rfl rfl) ?_;refine iI rfl rfl rfl (by exact nM rfl uX rfl rfl rfl rfl) ?_;refine Gl rfl rfl (ku sizeOf23) ?_;refine NY ?_;refine Sq ?_;refine gC.ent (E':=[(0,sv (ofL t)),(2,.ref 2 0 0 0),(3,.ref 3 0 0 0),(4,.ref 4 0 0 0)]) (H':=[(980,cw L7),(4,inO),(3,wa 0),(2,vy ⟨F,E,I,G,N,M,U,sNil,false,0,sNil,zS,⟨sNil,sNil,[],[],zS⟩⟩)]) (cQ.wk (Eb<|Ea<|Ea<|Ea<|trivial) (Hb<|Ha<|Hb<|Hb<|trivial) ⟨rfl,rfl,trivial⟩) ?_;refine xQ (fun ch H1 D=>vR t=false/\ch=GL/\∃q,D=mM q++H1) [2,3] [2,3] [] rfl follows (fun ch E1 H1 D hts hsh hks ⟨e,e2,q,e3⟩=>by subst e3;obtain ⟨o2,k1,k2⟩:=hsh 2 (by simp) _ rfl;obtain ⟨o3,k3,k4⟩:=hsh 3 (by simp) _ rfl;exact qZ C e e2 ((hts 2 (by simp)).trans rfl) ((hts 3 (by simp)).trans rfl) ⟨o2,k1,NB k2⟩ ⟨o3,k3,EN k4⟩) ?_;refine Pr [4] (fun _ h=>lh eD h) ?_
 refine uN (r:=⟨_,some [980],mM L8⟩) (.pan rfl (fun H1 hH=>by exact eF rfl rfl mP rfl (((zB L7 (by omega)).tot t8 ((hH 980 rfl).trans rfl) (fN _)).mono (PP':=fun ch H'=>vR t=false/\ch=GL/\∃q,H'=mM q++_) (fun _ _ h=>h) (fun ch H' ⟨e,e2,e3⟩=>⟨n8 e,e2,e3⟩)))) rfl ?_;refine Pr [4] (fun _ h=>lh eD h) ?_;refine uN (r:=⟨_,some [980],mM L9⟩) (.pan rfl (fun H1 hH=>by exact eF rfl rfl mP rfl (((zB L8 (by omega)).tot t9 ((hH 980 rfl).trans rfl) (fN _)).mono (PP':=fun ch H'=>vR t=false/\ch=GL/\∃q,H'=mM q++_) (fun _ _ h=>h) (fun ch H' ⟨e,e2,e3⟩=>⟨n9 e,e2,e3⟩)))) rfl ?_;refine Pr [] (fun H1 hH=>by exact AI rfl rfl rfl)<|Pr [4] (fun _ h=>lh eD h) ?_;refine uN (r:=⟨_,some [980],mM L10⟩) (.pan rfl (fun H1 hH=>by exact eF rfl rfl jC rfl (((nN L9 (by omega)).tot t10 ((hH 980 rfl).trans rfl) (fN _)).mono (PP':=fun ch H'=>vR t=false/\ch=GL/\∃q,H'=mM q++_) (fun _ _ h=>h) (fun ch H' ⟨e,e2,e3⟩=>⟨n10 e,e2,e3⟩)))) rfl ?_;refine Pr [4] (fun _ h=>lh eD h) ?_;refine uN (r:=⟨_,some [980],mM L11⟩) (.pan rfl (fun H1 hH=>by exact eF rfl rfl mP rfl (((zB L10 (by omega)).tot t11 ((hH 980 rfl).trans rfl) (fN _)).mono (PP':=fun ch H'=>vR t=false/\ch=GL/\∃q,H'=mM q++_) (fun _ _ h=>h) (fun ch H' ⟨e,e2,e3⟩=>⟨n11 e,e2,e3⟩)))) rfl ?_;refine Pr [2] (fun _ h=>fh uW h)<|Pw [2] (fun _ h=>su sizeOf9 h)<|Pr [2] (fun _ h=>fh CD h)<|Pw [2] (fun _ h=>su sizeOf4 h)<|Pr [2] (fun _ h=>fh tJ h)<|Pw [2] (fun _ h=>su sizeOf3 h)<|Pr [2] (fun _ h=>fh pT h)<|Pw [2] (fun _ h=>su sizeOf9 h) ?_;refine I6 ⟨⟨by kernel_rfl,by rfl,by rfl⟩,fun A=>?_⟩;simp only[XY,true_and,and_true]at A;refine Sq ?_;have K:=A;refine gC.ent (E':=[(0,sv (ofL t)),(2,.ref 2 0 0 0),(3,.ref 3 0 0 0),(4,.ref 4 0 0 0)]) (H':=[(980,cw L11),(4,inO),(3,wa 0),(2,vy ⟨F,E,I,G,N,M,U,V8,decide (V9=AM),n,V11,zS,⟨sNil,sNil,[],[],zS⟩⟩)]) (cQ.wk (Eb<|Ea<|Ea<|Ea<|trivial) (Hb<|Ha<|Hb<|Hb<|trivial) ⟨rfl,rfl,trivial⟩) ?_;refine gG ?_;refine iI rfl rfl rfl (by exact bA rfl eD rfl rfl rfl rfl rfl) ?_;refine XN rfl rfl rfl (by exact eF rfl rfl call51 rfl (((ma L11 (by omega)).tot t12 rfl (fN _)).mono (PP':=fun ch H'=>vR t=false/\ch=GL/\∃q,H'=mM q++_) (fun _ _ h=>h) (fun ch H' ⟨e,e2,e3⟩=>⟨n12 e,e2,e3⟩))) (fun ch H' h=>by obtain ⟨e,e2,q,rfl⟩:=h;exact qZ C e e2 rfl rfl ⟨_,rfl,VO _⟩ ⟨_,rfl,VN _⟩) (fun h58=>?_);refine iI rfl rfl rfl (by exact nM rfl jR rfl rfl rfl rfl) ?_;refine Gl rfl rfl (by exact mT rfl sizeOf25 rfl rfl rfl rfl rfl rfl rfl (aCs rfl) rfl rfl) ?_;refine NY ?_;refine Sq ?_;refine gC.ent (E':=[(0,sv (ofL t)),(2,.ref 2 0 0 0),(3,.ref 3 0 0 0),(4,.ref 4 0 0 0)]) (H':=[(980,cw L12),(4,inO),(3,wa 0),(2,vy ⟨F,E,I,G,N,M,U,V8,decide (V9=AM),n,V11,p,⟨sNil,sNil,[],[],zS⟩⟩)]) (cQ.wk (Eb<|Ea<|Ea<|Ea<|trivial) (Hb<|Ha<|Hb<|Hb<|trivial) ⟨rfl,rfl,trivial⟩) ?_
 refine xQ (fun ch H1 D=>vR t=false/\ch=GL/\∃q,D=mM q++H1) [2,3] [2,3] [] rfl follows (fun ch E1 H1 D hts hsh hks ⟨e,e2,q,e3⟩=>by subst e3;obtain ⟨o2,k1,k2⟩:=hsh 2 (by simp) _ rfl;obtain ⟨o3,k3,k4⟩:=hsh 3 (by simp) _ rfl;exact qZ C e e2 ((hts 2 (by simp)).trans rfl) ((hts 3 (by simp)).trans rfl) ⟨o2,k1,NB k2⟩ ⟨o3,k3,EN k4⟩) ?_;refine Pr [4] (fun _ h=>lh eD h) ?_;refine uN (r:=⟨_,some [980],mM L13⟩) (.pan rfl (fun H1 hH=>by exact eF rfl rfl mP rfl (((zB L12 (by omega)).tot t13 ((hH 980 rfl).trans rfl) (fN _)).mono (PP':=fun ch H'=>vR t=false/\ch=GL/\∃q,H'=mM q++_) (fun _ _ h=>h) (fun ch H' ⟨e,e2,e3⟩=>⟨n13 e,e2,e3⟩)))) rfl ?_;refine Pr [4] (fun _ h=>lh eD h) ?_;refine uN (r:=⟨_,some [980],mM L14⟩) (.pan rfl (fun H1 hH=>by exact eF rfl rfl mP rfl (((zB L13 (by omega)).tot t14 ((hH 980 rfl).trans rfl) (fN _)).mono (PP':=fun ch H'=>vR t=false/\ch=GL/\∃q,H'=mM q++_) (fun _ _ h=>h) (fun ch H' ⟨e,e2,e3⟩=>⟨n14 e,e2,e3⟩)))) rfl ?_;refine Pr [4] (fun _ h=>lh eD h)<|Pr [4] (fun _ h=>lh eD h)<|Pr [] (fun H1 hH=>by exact oJ rfl rfl) ?_;refine uN (r:=⟨_,some [980],mM L15⟩) (.pan rfl (fun H1 hH=>by exact eF rfl rfl C6 rfl (((WY L14 (by omega)).tot t15 ((hH 980 rfl).trans rfl) (fN _)).mono (PP':=fun ch H'=>vR t=false/\ch=GL/\∃q,H'=mM q++_) (fun _ _ h=>h) (fun ch H' ⟨e,e2,e3⟩=>⟨n15 e,e2,e3⟩)))) rfl ?_;refine Pr [4] (fun _ h=>lh eD h)<|Pr [4] (fun H1 hH=>by exact hU rfl rfl) ?_;refine uN (r:=⟨_,some [980,4],mM L16⟩) (.pan rfl (fun H1 hH=>by exact eF rfl rfl call52 rfl (((Md L15 (by omega)).tot t16 ((hH 980 rfl).trans rfl) (RT.sub ⟨(hH 4 rfl).trans rfl,trivial⟩)).mono (PP':=fun ch H'=>vR t=false/\ch=GL/\∃q,H'=mM q++_) (fun _ _ h=>h) (fun ch H' ⟨e,e2,e3⟩=>⟨n16 e,e2,e3⟩)))) rfl ?_;refine Pr [] (fun H1 hH=>by exact MZ rfl Oc rfl rfl)<|Pr [2] (fun _ h=>fh dV h)<|Pw [2] (fun _ h=>sx sizeOf28 h) ?_;refine I6 ⟨⟨by kernel_rfl,by rfl,by rfl⟩,fun A=>?_⟩;simp only[XY,true_and,and_true]at A;refine Sq ?_;have L:=A;refine gC.ent (E':=[(0,sv (ofL t)),(2,.ref 2 0 0 0),(3,.ref 3 0 0 0),(4,.ref 4 0 0 0)]) (H':=[(980,cw L16),(4,inO),(3,wa 0),(2,vy ⟨F,E,I,G,N,M,U,V8,decide (V9=AM),n,V11,p,⟨B,w,z,s,zS⟩⟩)]) (cQ.wk (Eb<|Ea<|Ea<|Ea<|trivial) (Hb<|Ha<|Hb<|Hb<|trivial) ⟨rfl,rfl,trivial⟩) ?_;refine gG ?_;refine iI rfl rfl rfl (by exact bA rfl eD rfl rfl rfl rfl rfl) ?_;refine XN rfl rfl rfl (by exact eF rfl rfl call51 rfl (((ma L16 (by omega)).tot t17 rfl (fN _)).mono (PP':=fun ch H'=>vR t=false/\ch=GL/\∃q,H'=mM q++_) (fun _ _ h=>h) (fun ch H' ⟨e,e2,e3⟩=>⟨n17 e,e2,e3⟩))) (fun ch H' h=>by obtain ⟨e,e2,q,rfl⟩:=h;exact qZ C e e2 rfl rfl ⟨_,rfl,VO _⟩ ⟨_,rfl,VN _⟩) (fun h74=>?_);refine iI rfl rfl rfl (by exact nM rfl dV rfl rfl rfl rfl) ?_;refine iI rfl rfl rfl (by exact nM rfl lN rfl rfl rfl rfl) ?_;refine Gl rfl rfl (by exact mT rfl sizeOf25 rfl rfl rfl rfl rfl rfl rfl (aCs rfl) rfl rfl) ?_;refine NY ?_;refine Sq<|Sq ?_
 refine gC.ent (E':=[(0,sv (ofL t)),(2,.ref 2 0 0 0),(3,.ref 3 0 0 0),(4,.ref 4 0 0 0)]) (H':=[(980,cw L17),(4,inO),(3,wa 0),(2,vy ⟨F,E,I,G,N,M,U,V8,decide (V9=AM),n,V11,p,⟨B,w,z,s,J⟩⟩)]) (cQ.wk (Eb<|Ea<|Ea<|Ea<|trivial) (Hb<|Ha<|Hb<|Hb<|trivial) ⟨rfl,rfl,trivial⟩) ?_;have hokt:=yes h16 f4.1 f4.2.1 f4.2.2.1 f4.2.2.2 f6.1 f6.2 h39 K.1 K.2.1 K.2.2.1 K.2.2.2 h58 L.1 L.2.1 L.2.2.1 L.2.2.2 h74;have hg1:eW t=if TX=(ofL t,0)then(⟨F,E,I,G,N,M,U,V8,decide (V9=AM),n,V11,p,⟨B,w,z,s,J⟩⟩,0)else(zR,5):=by simp_all
 refine Rd (kY aX aK)<|Dd (kc Ic (htx _))<|Dd aC<|Dd eG<|Dd eG<|Dd aH<|Zd aH<|Sq ?_;refine aQ (t:=88) (n:=8) (X:=!decide (TX.2=0)||!decide (TX.1=ofL t)) ?_ ?_
 ·all_goals refine Dd aC ?_
  all_goals refine Dd rI<|Dm ?_<;>(refine Sp 84 (fun h84=>?_) fun h84=>?_)<;>(first|contradiction|refine Fo<|Fo<|Fo ?_|refine On aC<|On aC<|On DH ?_)<;>refine Zd cD ?_<;>(exact⟨⟨_,rfl,by(rw[h84];rfl)⟩,rfl,rfl,rfl⟩)
 refine Cn ?_ ?_<;>intro x
 ·have hne:TX≠(ofL t,0):=by have:=x;rintro rfl;simp at this
  refine Sd (nP QV)<|Uu (iP aK)<|Uu (iP sizeOf41)<|Zz<|aB ?_;exact TJ (by rw[hg1,aCd hne]) (cQ.wk (Ea<|Ea<|trivial) (Hb<|Hb<|trivial) ⟨rfl,rfl,trivial⟩)
 have heq:TX=(ofL t,0):=by have:=x;rw[aDB,Bool.not_eq_false',Bool.not_eq_false',aCm,aCm]at this;exact Prod.ext this.2 this.1
 refine aA<|Sd (kY aX aK)<|Uu (iP aK)<|Uu (iP sizeOf41)<|Zz<|aB ?_;exact TJ (by rw[hg1,aCe heq]) (cQ.wk (Ea<|Ea<|trivial) (Hb<|Hb<|trivial) ⟨rfl,rfl,trivial⟩)
end Go.Proofs.YtmdicgjnmfolfaaGreatDoor
namespace Go.Proofs.YtmdicgjnmfolfaaGreatDoor
open Go.Proofs.Tryz
open Go.Abs Go.Lib
theorem kK{α:Type}{f}{d:α}{l}{p}(h:f l=some p):J2 f d l=p:=by rw[J2,h];rfl
theorem QJ{l}(h:(jK l).2=true):(gT (jK l).1).1=l:=by
 rw[jK]at h |-
 split at h
 ·next a =>
  rw[List.eq_nil_of_length_eq_zero a];rfl
 next a =>
 rw[aCd a];exact congrArg _ (DK (aCb h))
theorem YF(b:Bool):decide (aY (if b then 1 else 0)=AM)=b:=by cases b<;>kernel_rfl
def yn(r:GRec):List ByteArray:=[]
def yo(r:GRec):List ByteArray:=fI (.z r.priv.sl.idx r.priv.sl.sig r.priv.sl.path)++yn r
def yp(r:GRec):List ByteArray:=fI (.p r.priv.trace)++yo r
def yq(r:GRec):List ByteArray:=aY (r.priv.sources.length:Int)::(r.priv.sources++yp r)
def yr(r:GRec):List ByteArray:=r.priv.reason::yq r
def yt(r:GRec):List ByteArray:=r.priv.name::yr r
def yu(r:GRec):List ByteArray:=fI (.z r.sl.idx r.sl.sig r.sl.path)++yt r
def yv(r:GRec):List ByteArray:=r.from'::yu r
def yw(r:GRec):List ByteArray:=aY r.order::yv r
def Xw(r:GRec):List ByteArray:=(aY (if r.yes then 1 else 0))::yw r
def Xx(r:GRec):List ByteArray:=r.target::Xw r
def Xy(r:GRec):List ByteArray:=(jK r.edits).1::Xx r
def Xz(r:GRec):List ByteArray:=aY (r.parents.length:Int)::(r.parents++Xy r)
def Ya(r:GRec):List ByteArray:=r.branch::Xz r
def Yb(r:GRec):List ByteArray:=aY r.clock::Ya r
def Yc(r:GRec):List ByteArray:=aY r.number::Yb r
def Yd(r:GRec):List ByteArray:=aY r.author::Yc r
def Ye(r:GRec):List ByteArray:=aY r.kind::Yd r
def sf0(r:GRec):List ByteArray:=J0::Ye r
theorem Gn(r):iT r=sf0 r:=by simp[iT,pG,uB,J6,HQ,fI,sf0,Ye,Yd,Yc,Yb,Ya,Xz,Xy,Xx,Xw,yw,yv,yu,yt,yr,yq,yp,yo,yn]
theorem rk{r:GRec}(h:VF r):vR (aP (iT r))=true/\HU (aP (iT r))=r:=by
 have hk:=AT h.k;have hau:=h.au;have hnu:=h.nu;have hcl:=h.cl;have hod:=h.order;have hpl:=h.pal;have b:=gO h.sl;have a:=gO h.psl;have s0:=b.i0;have s1:=b.i1;have s2:=b.sl;have s3:=b.pl;have z0:=a.i0;have z1:=a.i1;have z2:=a.sl;have z3:=a.pl;have hso:=h.sol;have htr:=h.trl;have A:=KH h.br;have C:=OB h.tx;have E:=h.target;have F:=h.from
 have D:=h.nm;have z:=h.rs;have f:∀ {l:List ByteArray},(∀t∈l,isJ t=true)->∀t∈l,GC t:=fun Z t y=>Nat.lt_of_le_of_lt (vY (Z t y)) (by decide);rw[Gn];obtain ⟨t,y⟩:∃t,t=aP (sf0 r):=⟨_,rfl⟩;rw[<-y];have N:nZ t=some (J0,aP (Ye r)):=by rw[y];exact lK _ (show J0.size<1000000000000000000 by decide)
 have q0:p0 t=(J0,aP (Ye r)):=kK N;have O:wG (p0 t).2=some (r.kind,aP (Yd r)):=by rw[q0];exact lL _ (by omega) (by omega)
 have H:p1 t=(r.kind,aP (Yd r)):=kK O;have P:wG (p1 t).2=some (r.author,aP (Yc r)):=by rw[H];exact lL _ (by omega) (by omega)
 have T:p2 t=(r.author,aP (Yc r)):=kK P;have M:wG (p2 t).2=some (r.number,aP (Yb r)):=by rw[T];exact lL _ (by omega) (by omega)
 have X:p3 t=(r.number,aP (Yb r)):=kK M;have U:wG (p3 t).2=some (r.clock,aP (Ya r)):=by rw[X];exact lL _ (by omega) (by omega)
 have W:p4 t=(r.clock,aP (Ya r)):=kK U;have R:nZ (p4 t).2=some (r.branch,aP (Xz r)):=by rw[W];exact lK _ (Nat.lt_of_le_of_lt A (by decide))
 have J:p5 t=(r.branch,aP (Xz r)):=kK R;have S:(B6 nZ) (p5 t).2=some (r.parents,aP (Xy r)):=by rw[J];exact B5 _ _ (f h.pa) (by omega)
 have Y:p6 t=(r.parents,aP (Xy r)):=kK S;have Q:nZ (p6 t).2=some ((jK r.edits).1,aP (Xx r)):=by rw[Y];exact lK _ (Nat.lt_of_le_of_lt C (by decide))
 have G:p7 t=((jK r.edits).1,aP (Xx r)):=kK Q;have V:nZ (p7 t).2=some (r.target,aP (Xw r)):=by rw[G];exact lK _ (Nat.lt_of_le_of_lt E (by decide))
 have I:p8 t=(r.target,aP (Xw r)):=kK V;have L:nZ (p8 t).2=some ((aY (if r.yes then 1 else 0)),aP (yw r)):=by rw[I];exact lK _ (LX (by split<;>decide) (by split<;>decide))
 have K:p9 t=((aY (if r.yes then 1 else 0)),aP (yw r)):=kK L;have p:wG (p9 t).2=some (r.order,aP (yv r)):=by rw[K];exact lL _ (by omega) (by omega)
 have s:dc t=(r.order,aP (yv r)):=kK p;have n:nZ (dc t).2=some (r.from',aP (yu r)):=by rw[s];exact lK _ (Nat.lt_of_le_of_lt F (by decide))
 have c:db t=(r.from',aP (yu r)):=kK n;have o:qu (db t).2=some (r.sl,aP (yt r)):=by rw[c];exact OQ _ _ s0 (by omega) (f b.sa) (f b.pa) (by omega) (by omega)
 have u:ZP t=(r.sl,aP (yt r)):=kK o;have v:nZ (ZP t).2=some (r.priv.name,aP (yr r)):=by rw[u];exact lK _ (Nat.lt_of_le_of_lt D (by decide))
 have j:da t=(r.priv.name,aP (yr r)):=kK v;have w:nZ (da t).2=some (r.priv.reason,aP (yq r)):=by rw[j];exact lK _ (Nat.lt_of_le_of_lt z (by decide))
 have i:cz t=(r.priv.reason,aP (yq r)):=kK w;have m:(B6 nZ) (cz t).2=some (r.priv.sources,aP (yp r)):=by rw[i];exact B5 _ _ (fun x hx=>Nat.lt_of_le_of_lt (h.so x hx) (by decide)) (by omega)
 have e:cy t=(r.priv.sources,aP (yp r)):=kK m;have k:(B6 PA) (cy t).2=some (r.priv.trace,aP (yo r)):=by rw[e];exact gx _ _ (fun q hq=>by obtain ⟨⟨a1,a2⟩,a3,a4⟩:=h.tr q hq;exact⟨⟨by omega,by omega⟩,by omega,by omega⟩) (by omega)
 have d:cx t=(r.priv.trace,aP (yo r)):=kK k;have g:qu (cx t).2=some (r.priv.sl,aP (yn r)):=by rw[d];exact OQ _ _ z0 (by omega) (f a.sa) (f a.pa) (by omega) (by omega)
 have B:Hv t=(r.priv.sl,aP (yn r)):=kK g;constructor
 ·unfold vR WQ;rw[N,O,P,M,U,R,S,Q,V,L,p,n,o,v,w,m,k,g];rfl
 unfold HU;rw[H,T,X,W,J,Y,G,I,K,s,c,u,j,i,e,d,B,QJ h.tx,YF]
theorem PC{r}{t}(h:lA r=(ofL t,0)):eW t=(r,0):=by
 have e:=h;rw[lA]at h;by_cases a:eJ r=true
 ·rw[aCe a]at h
  split at h
  ·cases h
  next c =>
  have f:t=aP (iT r):=by
   have:=congrArg (fun p=>p.1.data.toList) h;exact this.symm
  obtain ⟨d,b⟩:=rk (lY a);rw[<-f]at d b c;rw[eW,aCd c,b,aCe ⟨d,e⟩]
 rw[aCd a]at h;cases h
theorem Aq{t}(h:(eW t).2=0):lA (eW t).1=(ofL t,0):=by
 rw[eW]at h |-
 grind
end Go.Proofs.YtmdicgjnmfolfaaGreatDoor
namespace Go.Proofs.YtmdicgjnmfolfaaGreatDoor
open Go.Proofs.Tryz
open Go.Abs
variable{α:Type}
def jn(e:GEdit):Bool:=((decide (300<IntKind.i64.wrap (IntKind.i64.wrap (IntKind.i64.wrap ((e.id.size:Int)+(e.other.size:Int))+(e.node.size:Int))+(e.key.size:Int)))||decide (600<(e.val.size:Int)))||decide (40<((e.refs.map encStr).length:Int)))||F5 e.obj 40
def D8(e:GEdit):Bool:=jn e||e.refs.any (CV 300)
def CG(l:List GEdit)(n:Int):Bool:=decide ((l.length:Int)<=n)&&!l.any D8
theorem Mu(l:List GEdit)(n:Int)(H:aG)(hl:l.length<4611686018427387904)(L:∀e,e∈l->Pv e.obj/\e.refs.length<4611686018427387904):
  RC 107 [.pv (fX l),iv n] (bv (CG l n)) H:=by
 refine Pu ?_;have F:(l.map aZ).length=l.length:=aCf _;have K:CG l n=(decide (((l.map aZ).length:Int)<=n)&&!l.any D8):=by rw[CG,F]
 refine Bd func107 rfl ntmps107<|Sz aH<|Sq<|Sz aH<|aE ?_;refine bJ (σ:=Nat) (fun k=>([(0,.pv (fX l)),(1,iv n),(5,iv (k:Int))],[])) (fun k=>k<=l.length/\∀j,j<k->∀b,l[j]?=some b->D8 b=false) (fun k=>l.length - k) 0 ⟨by omega,by omega⟩ ?_ ?_
 ·exact Wk
 rintro k ⟨hk,i⟩;refine Sq<|Sq ?_;refine aQ (t:=17) (n:=11) (X:=decide ((k:Int)<((l.map aZ).length:Int))&&decide (((l.map aZ).length:Int)<=n)) ?_ ?_
 ·all_goals refine Dd aC ?_
  all_goals refine Dd aC<|Dd (eR cT)<|Dd cJ<|Dm ?_<;>(refine Sp 12 (fun y=>?_) fun y=>?_)<;>(first|contradiction|refine Fo<|Fo<|Fo<|Fo ?_|refine On aC<|On (eR cT)<|On aC<|On GP ?_)<;>refine Zd cD ?_<;>(exact⟨⟨_,rfl,by grind⟩,rfl,rfl,rfl⟩)
 refine Cn ?_ ?_<;>intro g
 ·have h:=g;rw[aCo,aCm]at h;have I:k<l.length:=by have:=h.1;omega
  obtain ⟨e,d⟩:=aT I;have hi:=cE (f:=aZ) d;obtain ⟨C,ho2⟩:=L e (aCp d);have hrl:(e.refs.map encStr).length=e.refs.length:=aCf _;obtain ⟨w,J⟩:∃w,w=IntKind.i64.wrap (IntKind.i64.wrap (IntKind.i64.wrap ((e.id.size:Int)+(e.other.size:Int))+(e.node.size:Int))+(e.key.size:Int)):=⟨_,rfl⟩;have p:jn e=(((decide (300<w)||decide (600<(e.val.size:Int)))||decide (40<((e.refs.map encStr).length:Int)))||!!F5 e.obj 40):=by rw[jn,<-J,Bool.not_not]
  refine aA<|Sq<|aE<|Sd aC<|Dd aC<|Dd (jE OP)<|Dd (by exact dM rfl bW aR rfl (by omega) (by simp only[Zl,bM,bG,encStr,aZ,fS];rfl) rfl)<|Dd (kl 6 N2)<|Uu (iP aR)<|Zz<|Sq<|Sq ?_;refine aQ (t:=57) (n:=37) (X:=((decide (300<w)||decide (600<(e.val.size:Int)))||decide (40<((e.refs.map encStr).length:Int)))||!!F5 e.obj 40) ?_ ?_
  ·all_goals refine Dd (aV iE) ?_
   all_goals refine Dd (bD isAgg9)<|Dd (gF underlying9)<|Dd (aV iL)<|Dd (bD isAgg9)<|Dd (gF underlying9)<|Dd (ka rfl)<|Dd (aV nC)<|Dd (bD isAgg9)<|Dd (gF underlying9)<|Dd (ka rfl)<|Dd (aV kQ)<|Dd (bD isAgg9)<|Dd (gF underlying9)<|Dd (by exact eA rfl rfl rfl (J.symm))<|Dd gX<|Dm ?_<;>(refine Sp 40 (fun B=>?_) fun B=>?_)<;>(first|contradiction|refine Fo<|Fo<|Fo<|Fo ?_|refine On (aV lG)<|On (bD isAgg9)<|On (gF underlying9)<|On gX ?_)<;>refine Dd cD<|Dm ?_<;>(refine Sp 46 (fun x=>?_) fun x=>?_)<;>(first|contradiction|refine Fo<|Fo<|Fo<|Fo ?_|refine On (aV fB)<|On (bD aF)<|On (eR aD)<|On gX ?_)<;>refine Dd cD<|Dm ?_<;>(refine Sp 52 (fun z=>?_) fun z=>?_)<;>(first|contradiction|refine Fo<|Fo<|Fo<|Fo ?_|refine On (aV oV)<|On (kY bZ sizeOf151)<|On (kc call145 (Mv e.obj 40 _ C))<|On iJ ?_)<;>refine Zd cD ?_<;>(exact⟨⟨_,rfl,by grind⟩,rfl,rfl,rfl⟩)
  refine Cn ?_ ?_<;>intro u
  ·have v:D8 e=true:=by rw[D8,p,u];rfl
   have G:CG l n=false:=by grind
   rw[G];exact Sz aH<|aB<|Rt<|Qq
  refine aA<|Sz aH<|aE ?_;refine bJ (σ:=Nat) (fun q=>([(0,.pv (fX l)),(1,iv n),(5,iv (k:Int)),(6,.ref 6 0 0 0),(7,iv (q:Int))],[(6,bx 15 153 ((aZ e).map .pv))])) (fun q=>q<=e.refs.length/\∀j,j<q->∀b,e.refs[j]?=some b->CV 300 b=false) (fun q=>e.refs.length - q) 0 ⟨by omega,by omega⟩ ?_ ?_
  ·exact Wk
  rintro q ⟨hq,m⟩;refine Sq<|Sd aC<|Dd (aV fB)<|Dd (bD aF)<|Dd (eR aD)<|Zd cJ ?_;refine Cn ?_ ?_<;>intro o
  ·have A:q<e.refs.length:=by have:=aCb o;omega
   obtain ⟨s,D⟩:=aT A;have E:=cE (f:=encStr) D;refine aA<|Sq<|aE<|Sd (aV fB)<|Dd (bD aF)<|Dd aC<|Dd (kx bT E)<|Dd (fO isAgg9)<|Dd (gF underlying9)<|Zd gX ?_;refine Cn ?_ ?_<;>intro t
   ·have v:D8 e=true:=by rw[D8,JC (p:=CV 300) D t,Bool.or_true]
    have G:CG l n=false:=by rw[CG,JC (p:=D8) d v];simp
    rw[G];exact Sz aH<|aB<|Rt<|Qq
   refine aA<|Rd aC<|Dd iF<|Da ?_;exact⟨q+1,⟨by omega,wV (p:=CV 300) m D t⟩,by omega,Wk⟩
  have f:q=e.refs.length:=by have:=aCc o;omega
  subst f;have v:D8 e=false:=by rw[D8,p,u,EA m];rfl
  refine aS<|Rd aC<|Dd iF<|Da ?_;exact⟨k+1,⟨by omega,wV (p:=D8) i d v⟩,by omega,Wk⟩
 refine aS<|Sd aC<|Dd (eR cT)<|Dd aC<|Dd GP<|Zd aH<|aB<|Rt ?_;refine⟨?_,rfl⟩;rw[K];have h:=g;rw[Bool.and_eq_false_iff,aCn]at h;rcases h with h|h
 ·have f:k=l.length:=by omega
  subst f;rw[EA i];simp
 rw[h];rfl
theorem QG{a b:List α}{n}(hl:a.length=b.length)(hn:n=a.length)(h:a.take n=b.take n):a=b:=by grind
theorem BJ{a b:List α}{i}{x y}(h:a.take i=b.take i)(c:a[i]?=some x)(d:b[i]?=some y)(e:x=y):a.take (i+1)=b.take (i+1):=by rw[List.take_add_one,List.take_add_one,h,c,d,e]
theorem Bx{a b:List α}{i:Nat}{x y}(hx:a[i]?=some x)(hy:b[i]?=some y)(e:x≠y):a≠b:=fun h=>by
 simp_all
theorem yD(a b:List ByteArray)(H:aG)(ha:a.length<4611686018427387904)(hb:b.length<4611686018427387904):RC 88 [.pv (aU a),.pv (aU b)] (bv (decide (a=b))) H:=by
 refine Pu ?_;have hma:(a.map encStr).length=a.length:=aCf _;have hmb:(b.map encStr).length=b.length:=aCf _;refine Bd func88 rfl ntmps88<|Sz aH<|Sq<|Sd aC<|Dd (eR aD)<|Dd aC<|Dd (eR aD)<|Zd rI ?_;refine Cn ?_ ?_<;>intro k
 ·have f:a≠b:=by have h:=k;intro e;simp_all
  rw[decide_eq_false f];exact Sz aH<|aB<|Rt<|Qq
 have w:a.length=b.length:=by have h:=k;simp only[Bool.not_eq_false',aCm]at h;omega
 refine aA<|Sq<|Sz aH<|aE ?_;refine bJ (σ:=Nat) (fun i=>([(0,.pv (aU a)),(1,.pv (aU b)),(5,iv (i:Int))],[])) (fun i=>i<=a.length/\a.take i=b.take i) (fun i=>a.length - i) 0 ⟨by omega,rfl⟩ ?_ ?_
 ·exact Wk
 rintro i ⟨hi,v⟩;refine Sq<|Sd aC<|Dd aC<|Dd (eR aD)<|Zd cJ ?_;refine Cn ?_ ?_<;>intro m
 ·have n:i<a.length:=by have:=aCb m;omega
  obtain ⟨s,q⟩:=aT n;obtain ⟨u,p⟩:=aT (show i<b.length by omega);have l:=cE (f:=encStr) q;have g:=cE (f:=encStr) p;refine aA<|Sq<|aE<|Sq<|aL follows<|Cq aC<|Cq aC<|Cq (by exact bP rfl bT rfl rfl (by omega) (by rfl) l rfl)<|Cq (fO isAgg9 (hi:=l))<|Cq aC<|Cq aC<|Cq (by exact bP rfl bT rfl rfl (by omega) (by rfl) g rfl)<|Cq (fO isAgg9 (hi:=g))<|Cq DH<|bF<|Kr ?_;refine Cn ?_ ?_<;>intro j
  ·have f:s≠u:=by have h:=j;intro e;simp_all
   rw[decide_eq_false (Bx q p f)];exact Sz aH<|aB<|Rt<|Qq
  have t:s=u:=by have h:=j;simpa using h
  refine aA<|Rd aC<|Dd kp<|Da ?_;exact⟨i+1,⟨by omega,BJ v q p t⟩,by omega,Wk⟩
 have o:i=a.length:=by have:=aCc m;omega
 rw[decide_eq_true (QG w o v)];exact aS<|Sz aH<|aB<|Rt<|Qq
def ZX(s:GSeal):Prop:=s.sig.length<4611686018427387904/\s.path.length<4611686018427387904
theorem ZW{s}(h:tH s):ZX s:=⟨by have:=h.2.1.1;omega,by have:=h.2.2.1;omega⟩
theorem OS(a b:GSeal)(H:aG)(h:ZX a)(i:ZX b):RC 31 [av (iM a),av (iM b)] (bv (decide (a=b))) H:=by
 refine aW.pure ?_ (by simp_all) H;have f:=fun H=>yD a.sig b.sig H h.1 i.1;have e:=fun H=>yD a.path b.path H h.2 i.2;have j:decide (a=b)=((decide (a.idx=b.idx)&&decide (a.sig=b.sig))&&decide (a.path=b.path)):=by
  obtain ⟨a1,a2,a3⟩:=a;obtain ⟨b1,b2,b3⟩:=b
  grind
 rw[j];refine Bd func31 rfl ntmps31<|Sd (kb 2)<|Dd (kb 3)<|Zd aH<|Sq ?_;refine aQ (t:=4) (n:=22) (X:=(decide (a.idx=b.idx)&&decide (a.sig=b.sig))&&decide (a.path=b.path)) ?_ ?_
 ·all_goals refine Dd (aV iC) ?_
  all_goals refine Dd (bD isAgg3)<|Dd (aV iC)<|Dd (bD isAgg3)<|Dd cF<|Dm ?_<;>(refine Sp 10 (fun g=>?_) fun g=>?_)<;>(first|contradiction|refine Fo<|Fo<|Fo<|Fo<|Fo ?_|refine On (aV gD)<|On (bD aF)<|On (aV gD)<|On (bD aF)<|On (kc Hy (f _)) ?_)<;>refine Dd cD<|Dm ?_<;>(refine Sp 17 (fun d=>?_) fun d=>?_)<;>(first|contradiction|refine Fo<|Fo<|Fo<|Fo<|Fo ?_|refine On (aV iB)<|On (bD aF)<|On (aV iB)<|On (bD aF)<|On (kc Hy (e _)) ?_)<;>refine Dd cD<|Da ?_<;>(exact⟨⟨_,rfl,by simp_all⟩,rfl,rfl,rfl⟩)
 exact aB<|Rt<|Qq
def WC(a b:GPriv):Bool:=((decide (a.name=b.name)&&decide (a.reason=b.reason))&&decide (a.sources=b.sources))&&decide (a.trace=b.trace)
def Sm(a b:GPriv):Bool:=((!decide (a.name=b.name)||!decide (a.reason=b.reason))||!decide (a.sources=b.sources))||!decide (((a.trace.map fQ).length:Int)=((b.trace.map fQ).length:Int))
theorem RV(a b:GPriv)(H:aG)(E:a.sources.length<4611686018427387904)(F:b.sources.length<4611686018427387904)(hat:a.trace.length<4611686018427387904):RC 27 [av (nD a),av (nD b)] (bv (WC a b)) H:=by
 refine aW.pure ?_ (by simp_all) H;have q:(a.trace.map fQ).length=a.trace.length:=aCf _;have y:(b.trace.map fQ).length=b.trace.length:=aCf _;have C:=fun H=>yD a.sources b.sources H E F;have hX:Sm a b=(((!decide (a.name=b.name)||!decide (a.reason=b.reason))||!decide (a.sources=b.sources))||!decide (((a.trace.map fQ).length:Int)=((b.trace.map fQ).length:Int))):=rfl;refine Bd func27 rfl ntmps27<|Sd (kb 2)<|Dd (kb 3)<|Zd aH<|Sq<|Sq ?_;refine aQ (t:=34) (n:=32) (X:=Sm a b) ?_ ?_
 ·all_goals refine Dd (aV xK) ?_
  all_goals refine Dd (bD isAgg9)<|Dd (aV xK)<|Dd (bD isAgg9)<|Dd DH<|Dm ?_<;>(refine Sp 11 (fun o=>?_) fun o=>?_)<;>(first|contradiction|refine Fo<|Fo<|Fo<|Fo<|Fo ?_|refine On (aV xJ)<|On (bD isAgg9)<|On (aV xJ)<|On (bD isAgg9)<|On DH ?_)<;>refine Dd cD<|Dm ?_<;>(refine Sp 18 (fun z=>?_) fun z=>?_)<;>(first|contradiction|refine Fo<|Fo<|Fo<|Fo<|Fo<|Fo ?_|refine On (aV qK)<|On (bD aF)<|On (aV qK)<|On (bD aF)<|On (kc Hy (C _))<|On iJ ?_)<;>refine Dd cD<|Dm ?_<;>(refine Sp 26 (fun x=>?_) fun x=>?_)<;>(first|contradiction|refine Fo<|Fo<|Fo<|Fo<|Fo<|Fo<|Fo ?_|refine On (aV lO)<|On (bD eQ)<|On (eR dH)<|On (aV lO)<|On (bD eQ)<|On (eR dH)<|On rI ?_)<;>refine Zd cD ?_<;>(exact⟨⟨_,rfl,by simp_all⟩,rfl,rfl,rfl⟩)
 refine Cn ?_ ?_<;>intro l
 ·have h:=l;have f:WC a b=false:=by
   rw[WC]
   grind
  rw[f];exact Sz aH<|aB<|Rt<|Qq
 have h:=l;simp only[Sm,q,y,aDB,Bool.not_eq_false',aCm]at h;obtain ⟨⟨⟨J,K⟩,I⟩,h4⟩:=h;have G:a.trace.length=b.trace.length:=by omega
 have A:WC a b=decide (a.trace=b.trace):=by rw[WC,decide_eq_true J,decide_eq_true K,decide_eq_true I];rfl
 rw[A];refine aA<|Sq<|Sz aH<|aE ?_;refine bJ (σ:=Nat) (fun i=>([(2,.ref 2 0 0 0),(3,.ref 3 0 0 0),(5,iv (i:Int))],[(3,bx 7 28 ((nD b).map .pv)),(2,bx 7 28 ((nD a).map .pv))])) (fun i=>i<=a.trace.length/\a.trace.take i=b.trace.take i) (fun i=>a.trace.length - i) 0 ⟨by omega,rfl⟩ ?_ ?_
 ·exact Wk
 rintro i ⟨hi,D⟩;refine Sq<|Sd aC<|Dd (aV lO)<|Dd (bD eQ)<|Dd (eR dH)<|Zd cJ ?_;refine Cn ?_ ?_<;>intro g
 ·have t:i<a.trace.length:=by have:=aCb g;omega
  obtain ⟨s,B⟩:=aT t;obtain ⟨u,v⟩:=aT (show i<b.trace.length by omega);have j:=cE (f:=fQ) B;have k:=cE (f:=fQ) v;refine aA<|Sq<|aE<|Sq<|aL follows<|Cq (aV lO)<|Cq (bD eQ)<|Cq aC<|Cq (by exact bP rfl JW rfl rfl (by omega) (by rfl) j rfl)<|Cq (by exact dM rfl dO sizeOf68 rfl j (by simp only[Zl,fQ];rfl) rfl)<|Cq (aV lO)<|Cq (bD eQ)<|Cq aC<|Cq (by exact bP rfl JW rfl rfl (by omega) (by rfl) k rfl)<|Cq (by exact dM rfl dO sizeOf68 rfl k (by simp only[Zl,fQ];rfl) rfl)<|Cq (by exact AJ rfl rfl rfl rfl rfl iV (VR _ _ _ _))<|bF<|Kr ?_;refine Cn ?_ ?_<;>intro m
  ·have f:s≠u:=by have h:=m;intro e;simp_all
   rw[decide_eq_false (Bx B v f)];exact Sz aH<|aB<|Rt<|Qq
  have w:s=u:=by have h:=m;simp at h;exact Prod.ext h.1 h.2
  refine aA<|Rd aC<|Dd kp<|Da ?_;exact⟨i+1,⟨by omega,BJ D B v w⟩,by omega,Wk⟩
 have n:i=a.trace.length:=by have:=aCc g;omega
 rw[decide_eq_true (QG G n D)];exact aS<|Sz aH<|aB<|Rt<|Qq
end Go.Proofs.YtmdicgjnmfolfaaGreatDoor
