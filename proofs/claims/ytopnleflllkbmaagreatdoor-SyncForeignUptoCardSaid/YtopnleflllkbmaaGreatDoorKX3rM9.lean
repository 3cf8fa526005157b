/-
  Parts of the proof. Conditions: each theorem's own.
-/
import Derived.Test.YtopnleflllkbmaaGreatDoorKX3rM8
set_option linter.unusedVariables false
set_option linter.unusedSimpArgs false
set_option maxRecDepth 100000
set_option maxHeartbeats 8000000
open List Nat
namespace Go.Proofs.YtopnleflllkbmaaGreatDoor
open Go.Proofs.Tryz
open Go.Abs Go.Lib
theorem dm(P:List l8):∀r∈P.map DU,r.length=4:=λr hr=>by
 obtain ⟨p,_,rfl⟩:=mem_map.1 hr;rfl
abbrev RT(P:List l8):List (List AV):=yz (P.map DU)
theorem Fin.p52{H1:aF}{id g n:Nat}{ob:Ob}(l:List l8)(v:AV)(hH:H1.get id=some ob)(hg:ob.g=g)(hps:ob.rows=RT l)(hn:n=l.length)(hv:Clo [] v):
  Fin [] H1 (.tup [.osl id g 0 n,v]) [] (.tup [.pv (lk l),v]):=by
 subst hn hg;exact Fin.fz (id:=id) (ob:=ob) (l.map DU) hH hps (.tup Z (bC (.osl (kS DU l)) (bC (.same hv) kK))) Z T_ T_
theorem zg(t:B_)(H:aF)(ht:t.size<1000000):RC 23 [sv t] (.tup [.pv (lk (uB t).1),bv (uB t).2]) H:=by
 refine Pu ?_;have hsp:=λH=>VK t.data.toList H z6;rw[fQ]at hsp;have hy:UT (pL t.data.toList)=true->uB t=([],false):=λh=>by rw[uB,b7 h]
 have hn:UT (pL t.data.toList)=false->∃n r,pL t.data.toList=some (eZ::n::r)/\uB t=EJ (eJ n) r:=λh=>by
  have ⟨n,r,e,_⟩:=ZA h;exact⟨n,r,e,by rw[uB,a8 (by rw[h];decide),e]⟩
 have hsz:∀s∈(pL t.data.toList).getD [],s.size<1000000:=λs hs=>by
  cases h:pL t.data.toList with
  |none=>rw[h]at hs;cases hs
  |some L =>
   rw[h]at hs;have:=(sN _ _ L (g_ _) h).2 s hs;rw[aR]at this;omega
 have hsl:((pL t.data.toList).getD []).length<1000000:=by
  cases h:pL t.data.toList with
  |none=>exact zero_lt_succ _
  |some L =>
   have:=(sN _ _ L (g_ _) h).1;rw[aR]at this;show L.length<_;omega
 generalize pL t.data.toList=z at hsp hy hn hsz hsl;have hX:UT z=((!z.isSome||decide ((((z.getD []).map S_).length:Int)<2))||!decide ((z.getD []).headD a6=eZ)):=rfl;generalize uB t=W at hy hn |-;have ⟨o,ho⟩:∃o,o=z.isSome:=X_;have ⟨L,hL⟩:∃L,L=z.getD []:=X_;have hzL:∀e_,z=some e_->L=e_:=λe_ h=>by rw[hL,h];rfl
 rw[<-ho,<-hL]at hsp hX;rw[<-hL]at hsz hsl;generalize UT z=A_ at hX hy hn;have hn:A_=false->∃n r,L=eZ::n::r/\W=EJ (eJ n) r:=λh=>by
  have ⟨n,r,e1,e2⟩:=hn h;exact⟨n,r,hzL _ e1,e2⟩
 clear ho hL hzL;have h0:¬ (((L.map S_).length:Int)<2)->(L.map S_)[0]?=some (S_ (L.headD a6)):=λh=>by
  cases L with
  |nil=>exact absurd E_ h
  |cons a L=>rfl
 refine Bd func23 Z ntmps23<|O aI<|V aI<|O aA<|Y (kc call58 (hsp _))<|Y aA<|Y dK<|Y dK<|Y aI<|V aI<|S<|S<|aQ (t:=28) (n:=15) (A_:=A_) ?_ ?_
 ·all_goals refine Y aA<|Y iI<|Dm ?_<;>(refine Sp 18 (λh18=>?_) λh18=>?_)<;>(try exact w_)<;>(first|refine M<|M<|M ?_|refine U aA<|U (fW aE)<|U cJ ?_)<;>refine Y cC<|Dm ?_<;>(refine Sp 23 (λh23=>?_) λh23=>?_)<;>(try exact w_)<;>(first|refine M<|M<|M<|M ?_|refine U aA<|U (bU Z bD Z Z X (l_ _) (h0 (b_ h23)) Z)<|U (dV Z N_ Z (h0 (b_ h23)) Z)<|U DZ ?_)<;>refine V cC ?_<;>exact Gj (h:=by rw[hX];first|(rw[h18];rfl)|(rw[h18,h23];rfl))
 refine Cn ?_ ?_<;>intro hc1
 ·rw[hy hc1];refine O aI<|V aI<|aC<|fP (H':=[]) (.inr Z) Z (aH Z) (aH Z) (P_ (r:=.tup [.pv (lk []),bv false])) Qq
 have ⟨n,r0,e1,e2⟩:=hn hc1;subst e1;have hml:((eZ::n::r0).map S_).length=r0.length+2:=j6 _;have hr0:∀s∈r0,s.size<1000000:=λs hs=>hsz s (by simp[hs]);have hnm:=λH=>R7 n.data.toList H (by have:=hsz n H_;rw[aR];omega);rw[fQ]at hnm;have hlt:=F5 n;generalize eJ n=N at hnm e2 hlt;rw[EJ]at e2;simp only[j7]at hsl;have hget:∀(j:Nat) (x:B_),r0[j]?=some x->((eZ::n::r0).map S_)[2+j]?=some (S_ x):=λj x hx=>by
  rw[Nat.add_comm];show (r0.map S_)[j]?=_;rw[r7,hx];rfl
 have hdrop:∀j:Nat,((eZ::n::r0).map S_).drop (2+j)=(r0.drop j).map S_:=λj=>by
  rw[Nat.add_comm];show (r0.map S_).drop j=_;rw[map_drop]
 clear hX hn hy hsz h0 hsp;have ⟨Q,hQ⟩:∃Q,Q=(eZ::n::r0).map S_:=X_;refine aB<|O aA<|Y (bU Z bD Z Z X (l_ _) (show ((eZ::n::r0).map S_)[1]?=some (S_ n)from Z) Z)<|Y (dV Z N_ Z (show ((eZ::n::r0).map S_)[1]?=some (S_ n)from Z) Z)<|Y (kc call59 (hnm _))<|V aI<|Sz (eI (id:=905) (sz:=4) (ty:=92) Z Z Z)<|Sz aI<|S<|Sz aI<|aD<|eU (λ(j:Nat) (P:List l8)=>([(4,.pv (aL (eZ::n::r0))),(6,iv N),(7,.osl 905 P.length 0 P.length),(8,iv ((2+j:Nat):Int)),(9,iv (P.length:Int))],[(905,⟨P.length,4,92,RT P⟩)])) (λj P=>j<=r0.length/\P.length<=j/\P.length<=N.toNat/\UG N.toNat r0=(UG (N.toNat - P.length) (r0.drop j)).map (λq=>(P++q.1,q.2))) (λj P=>r0.length - j) 0 [] ⟨l7 _,g_ _,l7 _,by show _=(UG N.toNat r0).map _;cases UG N.toNat r0<;>rfl⟩ ?_ ?_
 ·exact Wk
 rintro j P ⟨hj,hPj,hPN,hpt⟩;refine S<|O aA<|Y aA<|V cJ<|Cn ?_ ?_<;>intro hc2
 ·have hPN2:P.length<N.toNat:=I_ hc2
  have ⟨m,hm⟩:∃m,N.toNat - P.length=m+1:=⟨N.toNat - P.length - 1,X⟩;rw[hm]at hpt;refine aB<|S<|aD<|S<|O aA<|Y (by exact dB Z Z Z (show IntKind.i64.wrap (((2+j:Nat):Int)+3)=((2+(j+3):Nat):Int)by rw[mE X X];omega))<|Y aA<|Y (fW aE)<|V iP ?_;refine Cn ?_ ?_<;>intro hc3
  ·have hshort:r0.length<j+3:=by have:=b9 hc3;rw[hml]at this;omega
   have hnone:UG (m+1) (r0.drop j)=none:=by
    have hl:(r0.drop j).length<3:=by rw[q6];omega
    generalize r0.drop j=l at hl
    match l,hl with
    | [],_=>rfl
    | [a],_=>rfl
    | [a,b],_=>rfl
   rw[hpt,hnone]at e2;rw[e2];refine O aI<|V aI<|aC<|fP (H':=[]) (.inr Z) Z (aH Z) (aH Z) (P_ (r:=.tup [.pv (lk []),bv false])) Qq
  have hlong:j+3<=r0.length:=by have:=b_ hc3;rw[hml]at this;omega
  have ⟨a,hga⟩:=aS (l:=r0) (k:=j) X;have ⟨b,hgb⟩:=aS (l:=r0) (k:=j+1) X;have ⟨c,hgc⟩:=aS (l:=r0) (k:=j+2) X;have hdr:r0.drop j=a::b::c::r0.drop (j+3):=by
   have ⟨i1,e1⟩:=m9.1 hga;have ⟨i2,e2⟩:=m9.1 hgb;have ⟨i3,e3⟩:=m9.1 hgc;rw[drop_eq_getElem_cons i1,drop_eq_getElem_cons i2,drop_eq_getElem_cons i3,e1,e2,e3]
  have hal:=hr0 a (m8 hga);have hbl:=hr0 b (m8 hgb);have hcl:=hr0 c (m8 hgc);have hia:=hget _ _ hga;have hib:=hget _ _ hgb;have hic:=hget _ _ hgc;have hvl:=F5 b;have hnb:=λH=>R7 b.data.toList H z6;rw[fQ]at hnb;have hda:=λH=>pw a H X;have hij:=λH=>cn c X H;rw[hdr,UG]at hpt;generalize eJ b=v at hpt hnb hvl;generalize rV a=pa at hpt hda;generalize m6 c=jc at hpt hij;have ⟨y_,hY⟩:∃y_,y_=((!pa||decide (v<0))||!jc):=X_;rw[<-hY]at hpt;refine aB<|S<|aM a7<|x_ aA<|x_ aA<|x_ (by exact bU Z bD Z Z X (l_ _) hia Z)<|x_ ((fZ N_ (hi:=hia)))<|x_ aA<|x_ aA<|x_ (by exact dB Z Z Z (show IntKind.i64.wrap (((2+j:Nat):Int)+1)=((2+(j+1):Nat):Int)by rw[mE X X];omega))<|x_ (by exact bU Z bD Z Z X (l_ _) hib Z)<|x_ ((fZ N_ (hi:=hib)))<|x_ (by exact bH Z Z call59 Z (hnb _))<|x_ aA<|x_ aA<|x_ (by exact dB Z Z Z (show IntKind.i64.wrap (((2+j:Nat):Int)+2)=((2+(j+2):Nat):Int)by rw[mE X X];omega)) ?_;refine x_ (by exact bU Z bD Z Z X (l_ _) hic Z)<|x_ ((fZ N_ (hi:=hic)))<|x_ ((oI aEZ))<|Cp [10] (λH1 hH=>by exact CA (id:=10) Z aDk Z ((hH _ Z).trans Z))<|Cp [10] (λ_ h=>sa sizeOf92 h)<|bG<|Kr<|O aA<|Y (by exact dB Z Z Z (show IntKind.i64.wrap (((2+j:Nat):Int)+3)=((2+(j+3):Nat):Int)by rw[mE X X];omega))<|V aI<|S<|S ?_;refine aQ (t:=75) (n:=17) (A_:=y_) ?_ ?_
  ·all_goals refine Y (bA ZS)<|Y (bQ N_)<|Y (kc call60 (hda _))<|Y iI<|Dm ?_<;>(refine Sp 65 (λh65=>?_) λh65=>?_)<;>(try exact w_)<;>(first|refine M<|M<|M ?_|refine U (bA S0)<|U (bQ M_)<|U cJ ?_)<;>refine Y cC<|Dm ?_<;>(refine Sp 70 (λh70=>?_) λh70=>?_)<;>(try exact w_)<;>(first|refine M<|M<|M<|M ?_|refine U (bA Lg)<|U (bQ N_)<|U (kc call37 (hij _))<|U iI ?_)<;>refine V cC ?_<;>exact Gj (h:=by rw[hY];first|(rw[h65];rfl)|(rw[h65,h70];rfl))
  refine Cn ?_ ?_<;>intro hc4
  ·rw[b7 hc4]at hpt;rw[hpt]at e2;rw[e2];refine O aI<|V aI<|aC<|fP (H':=[]) (.inr Z) Z (aH Z) (aH Z) (P_ (r:=.tup [.pv (lk []),bv false])) Qq
  have hYf:y_=false:=hc4;rw[a8 (by rw[hYf];decide)]at hpt;have hv0:0<=v:=by
   rw[hYf]at hY;have:=hY.symm;rw[q8,q8,p_]at this;omega
  obtain ⟨k,rfl⟩:∃k:Nat,v=(k:Int):=⟨v.toNat,X⟩;rw[l_]at hpt;clear hY hnb hda hij;refine aB<|eK (λ(q:List B_×Nat)=>([(4,.pv (aL (eZ::n::r0))),(6,iv N),(7,.osl 905 P.length 0 P.length),(8,iv ((2+q.2:Nat):Int)),(9,iv (P.length:Int)),(10,.ref 10 0 0 0)],[(10,bx 4 92 [sv a,iv (k:Int),sv c,.pv (aL q.1)]),(905,⟨P.length,4,92,RT P⟩)])) (λq=>j+3<=q.2/\q.2<=r0.length/\UG N.toNat r0=((UG m (r0.drop q.2)).map (λz=>(⟨a,k,c,q.1⟩::z.1,z.2))).map (λz=>(P++z.1,z.2))) ?_ ?_
  ·refine O (bA S0)<|Y (bQ M_)<|V G8<|Cn ?_ ?_<;>intro hc5
   ·have h16:(k:Int)<=16:=b9 hc5;rw[b7 h16]at hpt;refine S<|O aA<|Y (bA S0)<|Y (bQ M_)<|Y (by exact dB Z Z Z (show IntKind.i64.wrap (((2+(j+3):Nat):Int)+(k:Int))=((2+(j+3+k):Nat):Int)by rw[mE X X];omega))<|Y aA<|Y (fW aE)<|V iP ?_;refine Cn ?_ ?_<;>intro hc6
    ·have hgt:((r0.drop (j+3)).length:Int)<(k:Int):=by have:=b9 hc6;rw[hml]at this;rw[q6];omega
     rw[b7 hgt]at hpt;rw[hpt]at e2;rw[e2];refine O aI<|V aI<|aC<|fP (H':=[]) (.inr Z) Z (aH Z) (aH Z) (P_ (r:=.tup [.pv (lk []),bv false])) Qq
    have hgt:j+3+k<=r0.length:=by have:=b_ hc6;rw[hml]at this;omega
    rw[a8 m5]at hpt;have hsl2:(((eZ::n::r0).map S_).take (2+(j+3+k))).drop (2+(j+3))=((r0.drop (j+3)).take k).map S_:=by
     rw[drop_take,hdrop,show 2+(j+3+k) - (2+(j+3))=k by omega,map_take]
    have hq:((r0.drop (j+3)).take k).length<=2000:=by rw[q9];omega
    have hrt:=λH=>yo ⟨a,k,c,(r0.drop (j+3)).take k⟩ H hq (λs hs=>hr0 s (mem_of_mem_drop (mem_of_mem_take hs)));rw[drop_drop]at hpt;simp only at hrt;generalize (r0.drop (j+3)).take k=q1 at hpt hsl2 hrt hq;generalize (AI a q1&&decide (yM q1=c))=rb at hpt hrt;refine aB<|O aA<|Y aA<|Y aA<|Y (bA S0)<|Y (bQ M_)<|Y (by exact dB Z Z Z (show IntKind.i64.wrap (((2+(j+3):Nat):Int)+(k:Int))=((2+(j+3+k):Nat):Int)by rw[mE X X];omega))<|Y (by exact eY (l:=2+(j+3)) (h:=2+(j+3+k)) Z bD Z (fY (eZ::n::r0)) Z Z X (by rw[hml];omega) hsl2)<|Y (bA vV)<|Uu (ku sizeOf22)<|Zz<|O aA<|Y (bA S0)<|Y (bQ M_)<|Y (by exact dB Z Z Z (show IntKind.i64.wrap (((2+(j+3):Nat):Int)+(k:Int))=((2+(j+3+k):Nat):Int)by rw[mE X X];omega))<|V aI<|O (by exact aW Z isAgg92 sizeOf92 Z Z Z Z (by simp only[Zl,S_,DU];rfl) Z) ?_;refine Y (kc call61 (hrt _))<|V iI<|Cn ?_ ?_<;>intro hc7
    ·rw[a8 (by have h:=hc7;intro e;rw[e]at h;cases h)]at hpt;rw[hpt]at e2;rw[e2];refine O aI<|V aI<|aC<|fP (H':=[]) (.inr Z) Z (aH Z) (aH Z) (P_ (r:=.tup [.pv (lk []),bv false])) Qq
    rw[b7 (pO hc7)]at hpt;refine aB ?_;exact⟨(q1,j+3+k),⟨by simp only;omega,by simp only;omega,hpt⟩,Wk⟩
   rw[a8 (b_ hc5)]at hpt;refine aB ?_;exact⟨([],j+3),⟨g_ _,hlong,hpt⟩,Wk⟩
  rintro⟨q1,j2⟩ ⟨hj2,hj3,hq⟩;simp only at hj2 hj3 hq;refine Rd aA<|Y (by exact aW Z isAgg92 sizeOf92 Z Z Z Z (by simp only[Zl,S_,DU];rfl) Z)<|Y (aK [DU ⟨a,k,c,q1⟩] Z aBo Z Z Z Z Z (dm [⟨a,k,c,q1⟩]))<|Y (by exact cA (k:=P.length+1) (ps:=[DU ⟨a,k,c,q1⟩]) Z aBo aET Z Z Z Z Z (by rw[JR,j6]) Z (dm [⟨a,k,c,q1⟩]) (m:=1) Z X Z (rows':=RT (P++[⟨a,k,c,q1⟩])) (by rw[RT,RT,map_append,yz,yz,map_append];rfl))<|V aI<|Rd aA<|Y kp<|Da ?_;have hnl:(P++[(⟨a,k,c,q1⟩:l8)]).length=P.length+1:=by rw[j_];rfl
  refine⟨j2,P++[⟨a,k,c,q1⟩],⟨hj3,by rw[hnl];omega,by rw[hnl];omega,?_⟩,X,?_⟩
  ·rw[hq,hnl,show N.toNat - (P.length+1)=m by omega];cases UG m (r0.drop j2)with
   |none=>rfl
   |some z=>simp
  dsimp only;rw[hnl];exact L_
 have hge:N.toNat<=P.length:=J_ hc2
 have hPl:(RT P).length=P.length:=by rw[JR,j6]
 rw[show N.toNat - P.length=0 by omega,UG]at hpt;rw[hpt]at e2;have e3:W=(P,decide (1<=N)&&decide (r0.drop j=[])):=by
  rw[e2];show (P++[],_)=_;rw[append_nil]
 have hdt:decide (r0.drop j=[])=decide (((2+j:Nat):Int)=(((eZ::n::r0).map S_).length:Int)):=by
  rw[hml];exact decide_eq_decide.2 ⟨λh=>by have:=congrArg List.length h;rw[q6]at this;simp at this;omega,λh=>drop_eq_nil_of_le X⟩
 rw[hdt]at e3;rw[e3];by_cases h1:1<=N
 ·have e:decide (1<=N)=true:=decide_eq_true h1;refine aP<|O aA<|Y aA<|Y zU<|Y aA<|Oa aA<|Oa aA<|Oa (fW aE)<|Oa cD<|Y CS<|Y aI<|V aI<|aC ?_;refine fP (H':=[]) (.inr Z) Z (aH Z) (aH Z) (Fin.p52 (id:=905) P (bv (decide (((2+j:Nat):Int)=(((eZ::n::r0).map S_).length:Int)))) Z Z Z Z H_) ?_;exact⟨by rw[e];rfl,Z⟩
 have e:decide (1<=N)=false:=decide_eq_false h1;refine aP<|O aA<|Y aA<|Y zU<|Y aA<|Fa<|Fa<|Fa<|Fa<|Y sC<|Y aI<|V aI<|aC ?_;refine fP (H':=[]) (.inr Z) Z (aH Z) (aH Z) (Fin.p52 (id:=905) P (bv false) Z Z Z Z H_) ?_;exact⟨by rw[e];rfl,Z⟩
theorem jz(t:B_)(H:aF)(ht:t.size<1000000):RC 24 [sv t] (.tup [.pv (aL (vP t)),bv (decide (vP t≠[]))]) H:=by
 refine Pu ?_;have hsp:=λH=>VK t.data.toList H z6;rw[fQ]at hsp;have hy:=bf (t:=t);have hn:=rk (t:=t);have hsz:∀s∈(pL t.data.toList).getD [],s.size<1000000:=λs hs=>by
  cases h:pL t.data.toList with
  |none=>rw[h]at hs;cases hs
  |some L =>
   rw[h]at hs;have:=(sN _ _ L (g_ _) h).2 s hs;rw[aR]at this;omega
 have hsl:((pL t.data.toList).getD []).length<1000000:=by
  cases h:pL t.data.toList with
  |none=>exact zero_lt_succ _
  |some L =>
   have:=(sN _ _ L (g_ _) h).1;rw[aR]at this;show L.length<_;omega
 generalize pL t.data.toList=z at hsp hy hn hsz hsl;have hX:Ej z=(((!z.isSome||decide ((((z.getD []).map S_).length:Int)<2))||!decide ((z.getD []).headD a6=oK))||((z.getD []).drop 1).any oddJ):=rfl;generalize vP t=W at hy hn |-;rw[hX]at hy hn;have ⟨o,ho⟩:∃o,o=z.isSome:=X_;have ⟨L,hL⟩:∃L,L=z.getD []:=X_;rw[<-ho,<-hL]at hsp hy hn;rw[<-hL]at hsz hsl;clear hX ho hL;have hml:(L.map S_).length=L.length:=j6 _;have ⟨A_,hX⟩:∃A_,A_=((!o||decide (((L.map S_).length:Int)<2))||!decide (L.headD a6=oK)):=X_;rw[<-hX]at hy hn;have hm1:(L.map S_).drop 1=(L.drop 1).map S_:=map_drop.symm;have h0:¬ (((L.map S_).length:Int)<2)->(L.map S_)[0]?=some (S_ (L.headD a6)):=λh=>by
  cases L with
  |nil=>exact absurd E_ h
  |cons a L=>rfl
 have hlen:A_=false->2<=L.length:=λh=>by
  rw[hX,q8,q8,p_,hml]at h;omega
 refine Bd func24 Z ntmps24<|O aI<|V aI<|O aA<|Y (kc call58 (hsp _))<|Y aA<|Y dK<|Y dK<|Y aI<|V aI<|S<|S<|aQ (t:=24) (n:=15) (A_:=A_) ?_ ?_
 ·all_goals refine Y aA<|Y iI<|Dm ?_<;>(refine Sp 14 (λh14=>?_) λh14=>?_)<;>(try exact w_)<;>(first|refine M<|M<|M ?_|refine U aA<|U (fW aE)<|U cJ ?_)<;>refine Y cC<|Dm ?_<;>(refine Sp 19 (λh19=>?_) λh19=>?_)<;>(try exact w_)<;>(first|refine M<|M<|M<|M ?_|refine U aA<|U (bU Z bD Z Z X (l_ _) (h0 (b_ h19)) Z)<|U (dV Z N_ Z (h0 (b_ h19)) Z)<|U DZ ?_)<;>refine V cC ?_<;>exact Gj (h:=by rw[hX];first|(rw[h14];rfl)|(rw[h14,h19];rfl))
 refine Cn ?_ ?_<;>intro hc1
 ·rw[hy (by rw[show A_=true from hc1];rfl)];refine O aI<|V aI<|aC<|fP (H':=[]) (.inr Z) Z (aH Z) (aH Z) (P_ (r:=.tup [.pv (aL []),bv false])) Qq
 have hXf:A_=false:=hc1;have h2:=hlen hXf;rw[hXf,Bool.false_or,K4]at hy hn;clear hX h0 hlen hsp;refine aB<|S<|Sz aI<|aD<|bF (σ:=Nat) (λi=>([(4,.pv (aL L)),(6,iv ((i+1:Nat):Int))],[])) (λi=>i+1<=L.length/\∀x∈(L.drop 1).take i,m6 x=true) (λi=>L.length - i) 0 ⟨X,λx h=>by simp at h⟩ ?_ ?_
 ·exact Wk
 rintro i ⟨hi,hall⟩;refine S<|O aA<|Y aA<|Y (fW aE)<|V cJ<|Cn ?_ ?_<;>intro hc2
 ·have hlt:i+1<L.length:=by have:=b9 hc2;rw[hml]at this;omega
  have ⟨x,hx⟩:=aS hlt;have hix:=cE (f:=S_) hx;have hxs:=hsz x (m8 hx);have hx1:(L.drop 1)[i]?=some x:=by rw[getElem?_drop,Nat.add_comm,hx]
  have hij:=λH=>cn x X H;have ⟨jx,hjx⟩:∃jx,jx=m6 x:=X_;rw[<-hjx]at hij;refine aB<|S<|aD<|O aA<|Y aA<|Y (kx bD hix)<|Y (fZ N_ (hi:=hix))<|Y (kc call37 (hij _))<|V iI<|Cn ?_ ?_<;>intro hc3
  ·have hjf:jx=false:=by have h:=hc3;simpa using h
   rw[hy (by
    rw[r8];exact all_eq_false.2 ⟨x,m8 hx1,by rw[<-hjx,hjf];decide⟩)]
   refine O aI<|V aI<|aC<|fP (H':=[]) (.inr Z) Z (aH Z) (aH Z) (P_ (r:=.tup [.pv (aL []),bv false])) Qq
  have hjt:jx=true:=by have h:=hc3;simpa using h
  refine aB<|Rd aA<|Y (by exact dB Z Z Z (show IntKind.i64.wrap (((i+1:Nat):Int)+1)=((i+1+1:Nat):Int)by rw[mE X X];omega))<|Da ?_;refine⟨i+1,⟨X,λy hy'=>?_⟩,X,Wk⟩;rw[fF hx1,mem_append,r6]at hy';rcases hy' with h|rfl
  ·exact hall y h
  rw[<-hjx,hjt]
 have hge:L.length<=i+1:=by have:=b_ hc2;rw[hml]at this;omega
 have hall2:∀x∈L.drop 1,m6 x=true:=λx hx=>hall x (by rw[take_of_length_le m5];exact hx);have hw:W=L.drop 1:=hn (by rw[all_eq_true.2 hall2];rfl);have hne:L.drop 1≠[]:=λe=>by have:=congrArg List.length e;rw[q6]at this;simp at this;omega
 rw[hw,decide_eq_true hne];exact aP<|O aA<|Y (by exact eY (l:=1) (h:=(L.map S_).length) Z bD Z (fY L) Z Z (by rw[hml];omega) (g_ _) (show ((L.map S_).take _).drop 1=(L.drop 1).map S_ by rw[take_length];exact hm1))<|Y aI<|V aI<|aC<|Ru<|Qq
end Go.Proofs.YtopnleflllkbmaaGreatDoor
namespace Go.Abs
section
section
variable{α:Type}
def aEr(κ:KeyKind α)(l:List (α×AV×Nat)):List (List AV):=l.map λp=>[.pv (κ.pv p.1),p.2.1,.pv (.int .i64 (p.2.2:Int))]
variable [DecidableEq α]
end
end
section
section
variable{P:Program}{N:Nat}{o:Oper}{E:cY}{H:aF}{f_ T:TypeId}{x:Operand}{q gq:Nat}{oq:Ob}{s:B_}{k:Nat}
abbrev QB(s:B_)(k:Nat):List (List AV):=[[.pv (.str s),.pv (.int .i64 k)]]
theorem na(ho:o.op=.range T x)(hT:P.underlying T=some .string)(hx:aO E x=some (.pv (.str s)))(hq:H.get q=none):
  cN P N o E H (.it q 0) ((q,⟨0,0,0,QB s 0⟩)::H):=by
 intro a w I ι _ _ hr he K Q hk;have hvx:=(aJ he hx).str_inv;have ⟨k2,k3⟩:=Rel.placeX (H':=(q,⟨0,0,0,QB s 0⟩)::H) (id:=q) (cap:=1) (ob':=⟨0,0,0,QB s 0⟩) (x:=.stringIter s 0) (w':=w.alloc (.stringIter s 0)) hr Z Z Z Z
  (λo ho=>by rw[hq]at ho;cases ho) (λhnew hI hmono=>.inr (.inr (.inr (.inr ⟨Z,w.heap.size,s,0,H_,hnew,hI,Z,_,_,Z,.pv (.str _),.pv (.int _ _)⟩))))
  (get_cons_same _ _ _) (λj hj=>get_cons_other _ _ hj)
 have hrun:(execOp a.eval o).run P w=.ok (.value (.pointer (some ⟨w.heap.size,0,none⟩))) (w.alloc (.stringIter s 0)):=by
  simp only[execOp,ho,hvx];simp[Instr.range,run_underlying hT]
 unfold Oper.wpW;rw[hrun];exact hk _ _ I _ _ _ ⟨Z,Z⟩ (.it ⟨0,0,0,QB s 0⟩ (get_cons_same _ _ _) (g_ _) Z λ_=>⟨Z,w.heap.size,H_,Z⟩) k2 k3
theorem Fh{w:World}{I:Nat->Prop}{ι:lQ}{b:Nat}(e_:Rel I ι H w)(hQ:H.get q=some oq)(hz:oq.sz=0)(hr:oq.rows=QB s k)(t:ι q=some (b,1)):w.heap[b]?=some (.stringIter s k)/\¬ I b:=by
 have ⟨_,b',s',p',e1,e2,e3,e4,m,kk,e5,e6,e7⟩:=(e_.obj q oq hQ).str hz t (by rw[hr];rfl);rw[t]at e1;cases e1;rw[hr]at e5;cases e5;have h1:=e6.str_inv;injection h1 with h1;have h2:=e7.int_inv;injection h2 with _ h2;have h3:p'=k:=X
 subst h1 h3;exact⟨e2,e3⟩
theorem zo{c v:Nat}(ho:o.op=.next x true)(hx:aO E x=some (.it q gq))(hQ:H.get q=some oq)(hg:oq.g=gq)(hr:oq.rows=QB s k)(hk:k<s.size)(hd:Utf8.decode s k=(c,v)):
  cN P N o E H (.tup [.pv (.bool true),.pv (.int .i64 k),.pv (.int .i32 c)]) ((q,⟨gq,0,oq.ty,QB s (k+v)⟩)::H):=by
 intro a w I ι _ _ e_ he K Q hK;have ⟨hz,b,t,F⟩:=Kn (aJ he hx) hQ hg;have ⟨e2,e3⟩:=Fh e_ hQ hz hr t;have hrun:(Instr.next (.pointer (some ⟨b,0,none⟩)) true o.type).run P w=.ok (.tuple #[.bool true,.int .i64 k,.int .i32 c]) (World.setObj w b (.stringIter s (k+v))):=by
  have hs:∀q:Obj,(setObj b q).run P w=.ok () (World.setObj w b q):=λq=>by simp[setObj,Sem.run,e2,World.setObj]
  simp only[Instr.next,getObj,Sem.run_bind,Sem.run,e2,Result.andThen,hk,if_true,hd,hs];rfl
 have ⟨k2,k3⟩:=Rel.rewrite (H':=(q,⟨gq,0,oq.ty,QB s (k+v)⟩)::H) (ob':=⟨gq,0,oq.ty,QB s (k+v)⟩) (x:=.stringIter s (k+v)) e_ hQ t hz e2 Z Z hg.symm Z
  (λ_ hs1 hI' A=>.inr (.inr (.inr (.inr ⟨Z,b,s,k+v,t,hs1,hI',Z,_,_,Z,.pv (.str _),.pv (.int _ _)⟩)))) (get_cons_same _ _ _) (λj hj=>get_cons_other _ _ hj)
 unfold Oper.wpW execOp;simp only[ho,F,Sem.run_bind,hrun,Result.andThen_ok,Sem.run_pure];refine hK _ _ I ι _ _ ⟨Z,Z⟩ (.tup Z (λi u d hv hc=>?_)) k2 k3
 match i with
 |0=>simp at hv hc;subst hv hc;exact .pv (.bool _)
 |1=>simp at hv hc;subst hv hc;exact .pv (.int _ _)
 |2=>simp at hv hc;subst hv hc;exact .pv (.int _ _)
 |i+3=>simp at hv
theorem UH(ho:o.op=.next x true)(hx:aO E x=some (.it q gq))(hQ:H.get q=some oq)(hg:oq.g=gq)(hr:oq.rows=QB s k)(hk:s.size<=k):
  cN P N o E H (.tup [.pv (.bool false)]) H:=by
 intro a w I ι _ _ e_ he K Q hK;have ⟨hz,b,t,F⟩:=Kn (aJ he hx) hQ hg;have ⟨e2,e3⟩:=Fh e_ hQ hz hr t;have hrun:(Instr.next (.pointer (some ⟨b,0,none⟩)) true o.type).run P w=.ok (.tuple #[.bool false]) w:=by
  simp only[Instr.next,getObj,Sem.run_bind,Sem.run,e2,Result.andThen,a8 (show ¬ k<s.size by omega),Sem.run_pure]
 unfold Oper.wpW execOp;simp only[ho,F,Sem.run_bind,hrun,Result.andThen_ok,Sem.run_pure];refine hK _ _ I ι _ _ ⟨Z,Z⟩ (.tup Z (λi u d hv hc=>?_)) e_ (Step.refl _ _ _ _)
 match i with
 |0=>simp at hv hc;subst hv hc;exact .pv (.bool _)
 |i+1=>simp at hv
theorem Y5{n:Int}{j:IntKind}(f:o.op=.convert f_ T x)(hS:P.underlying f_=some (.int j))(g:P.underlying T=some .string)(h:aO E x=some (.pv (.int j n))):cN P N o E H (.pv (.str (Utf8.encode n))) H :=.of_run λa w I ι _ c=>⟨.string (Utf8.encode n),by
  have e:=(aJ c h).int_inv;simp[execOp,f,e,convert,run_underlying hS,run_underlying g,Conv.intToString],.pv (.str _)⟩
end
end
end Go.Abs
namespace Go.Proofs.YtopnleflllkbmaaGreatDoor
open Go.Proofs.Tryz
open Go.Abs Go.Lib
variable{i:B_}{k n:Nat}{p:l8}{o:List (B_×B_)}{A_:List B_}{r:GRep}{H:aF}{L:List (List B_)}
def sM(f_:List B_):List (B_×PV):=f_.map λi=>(i,.bool true)
theorem Yt(f_):(sM f_).map Prod.fst=f_:=by rw[sM,map_map];exact map_id' _
theorem Ys(f_:List B_)(i:B_):(zC (pM (sM f_)) i).getD (bv false)=bv (decide (i∈f_)):=by
 rw[mq,sM,find?_map];show (Option.map _ ((f_.find? λp=>decide (p=i)).map _)).getD _=_;cases h:f_.find? λp=>decide (p=i)with
 |none =>
  rw[decide_eq_false λb=>find?_eq_none.1 h i b (decide_eq_true Z)];rfl
 |some p =>
  have c:=b9 (find?_some (p:=λp=>decide (p=i)) h);subst c;rw[decide_eq_true (mem_of_find?_eq_some h)];rfl
theorem Yr{f_:List B_}(h:i∉f_):wP (pM (sM f_)) i (bv true)=pM (sM (f_++[i])):=by rw[mo (.bool true) (by rw[Yt];exact h),sM,sM,map_append];rfl
abbrev BN(L:List (List B_)):List (List AV):=L.map λw=>[.pv (aL w)]
theorem uC{H}(L):∀r∈BN L,∀a∈r,Clo H a:=H_
instance{H}(L):W_ (H) (BN L):=⟨uC L⟩
theorem rT(L):BN L=(L.map q_).map (·.map AV.pv):=by rw[map_map];rfl
abbrev rpO(A_:List B_)(r:GRep):Ob:=bx 6 84 [.pv (aL A_),.mp 710 0,.osl 721 r.sent.length 0 r.sent.length,.mp 720 0,.osl 722 r.wants.length 0 r.wants.length,.osl 723 r.offers.length 0 r.offers.length]
abbrev UD(A_:List B_)(o:List (B_×B_))(r:GRep):aF:=[(718,rpO A_ r),(710,T8 (tM o)),(720,T8 (sM r.sent)),(721,⟨r.sent.length,1,9,cB (r.sent.map (oN o))⟩),(722,⟨r.wants.length,1,22,BN r.wants⟩),(723,⟨r.offers.length,1,22,BN r.offers⟩)]
theorem Xa{i j l m:Nat}{a b c d e f a' p c' d' o q:Ob}{id:Nat}(h:(aF.get [(k,a),(i,b),(j,c),(l,d),(n,e),(m,f)] id).isSome=true):(aF.get [(k,a'),(i,p),(j,c'),(l,d'),(n,o),(m,q)] id).isSome=true:=by
 simp only[aF.get]at h |-
 grind
theorem Qu(A_:List B_)(o:List (B_×B_))(r:GRep)(i:B_)(p:∀i,i∈o.map Prod.fst↔i∈A_)(f:r.sent.length<2^40):aU Tryz.prog 44 [.ref 718 0 0 0,sv i] (UD A_ o r) (λx H'=>x=.tup []/\H'=UD A_ o ⟨oJ A_ r.sent i,r.wants,r.offers⟩):=by
 obtain ⟨g1,m⟩:=Ff o i;have m:(zC (pM (tM o)) i).isSome=decide (i∈A_):=m.trans (decide_eq_decide.2 (p i));have n:=Ys r.sent i;obtain ⟨b,j⟩:∃b,b=(decide (i∈A_)&&!decide (i∈r.sent)):=X_;rw[oJ,<-j];refine Bd func44 Z ntmps44<|O aA<|Y sE<|Y (bA S2)<|Y (bA po)<|Y (bQ isAgg78)<|Y aA<|Y (by exact cN.eqv (G5 (κ:=JD) Z underlying78 U_ Z Z Z Z Z gQ (.inl Z)) (show AV.tup [(zC (pM (tM o)) i).getD (sv a6),.pv (.bool (zC (pM (tM o)) i).isSome)]=.tup [sv (oN o i),bv (decide (i∈A_))]by grind))<|Y aA<|Y dK<|Y dK<|Y aI<|V aI<|S<|aQ (t:=25) (n:=11) (A_:=b) ?_ ?_
 ·all_goals refine Y aA<|Dm ?_<;>(refine Sp 17 (λh=>?_) λh=>?_)<;>(try exact w_)<;>(first|refine M<|M<|M<|M<|M<|M<|M ?_|refine U aA<|U sE<|U (bA Lh)<|U (bQ isAgg82)<|U aA<|U (by exact cN.eqv (HV (κ:=JD) Z lY U_ Z Z Z Z Z iU (.inl Z)) n)<|U iI ?_)<;>refine V cC ?_<;>exact Gj (h:=by rw[j];(rw[h];rfl))
 refine Cn ?_ ?_<;>intro e
 ·have g:=j.symm.trans e;rw[k_,r8,p_]at g;have l:(cB (r.sent.map (oN o))).length=r.sent.length:=by rw[eS,j6]
  have k:(r.sent++[i]).length=r.sent.length+1:=by rw[j_];rfl
  rw[b7 (show b=true from e)];refine O aA<|Y sE<|Y (bA Lh)<|Y (bQ isAgg82)<|Y aA<|Uu (by exact zD (κ:=JD) (.inl Z) lY U_ Z Z Z Z Z Z Z (Yr g.2))<|Zz<|Rd aA<|Y aA<|Y sE<|Y (bA pn)<|Y (bQ aG)<|Y aA<|Y (by exact aK [[.str (oN o i)]] Z bD Z Z Z Z Z R_)<|Y (by exact cA (k:=r.sent.length+1) (ps:=[[.str (oN o i)]]) Z bD yJ Z Z Z Z Z l Z R_ (m:=1) Z X Z (rows':=cB ((r.sent++[i]).map (oN o))) (by rw[map_append];exact gO _ _))<|Y sE<|Y (bA pn)<|Uu (by exact cQ Z sizeOf22 Z Z Z Z Z Z u1 x3 x3) ?_;refine Zz<|oT (H':=UD A_ o ⟨r.sent++[i],r.wants,r.offers⟩) (.inl Z) Z ?_ ⟨Z,Z⟩;simp only[UD,rpO,k];exact(Fin.wk y4 (Hc (by(simp;exact⟨Z,Z,Z,Z,Z⟩))<|Hc (dQ _)<|Hc (dQ _)<|Hc (aV _ _)<|Hb<|Hb<|T_) ⟨Z,Z,Z,Z,Z,Z,T_⟩)
 rw[a8 (by rw[show b=false from e];decide)];refine aB ?_;exact oT (.inl Z) Z Fin.refl ⟨Z,Z⟩
theorem Wr(b:∀i,i∈o.map Prod.fst↔i∈A_)(c:r.sent.length<2^40)(a:HN H (UD A_ o r)):aU Tryz.prog 44 [.ref 718 0 0 0,sv i] H (λx H'=>x=.tup []/\H'=UD A_ o ⟨oJ A_ r.sent i,r.wants,r.offers⟩++H) :=aU.frame (Qu A_ o r i b c) (HN.sub a) (dG.ofL ⟨(by(simp;exact⟨Z,Z,Z,Z,Z⟩)),(dQ _),(dQ _),(aV _ _),y4,y4,T_⟩) m3 (λid h=>.inl (Xa h))
theorem fi(p):∀(l),AI p l=true->EF l
 | [],_=>List.Pairwise.nil
 | [a],_=>List.pairwise_singleton _ _
 |a::b::r,h=>by
  rw[AI,k_,k_]at h;have d:=fi p _ h.2;refine pairwise_cons.2 ⟨λy c=>?_,d⟩;rcases l9.1 c with rfl|c
  ·grind
  exact tW h.1.2 ((pairwise_cons.1 d).1 y c)
theorem WM:∀(l m:List B_),l.Nodup->(∀x∈l,x∈m)->l.length<=m.length
 | [],m,_,_=>l7 _
 | a::l,m,b,h=>by
  rw[List.nodup_cons]at b;obtain ⟨m1,c,rfl⟩:=append_of_mem (h a mem_cons_self);have d:=WM l (m1++c) b.2 λx hx=>by
   grind
  rw[j_]at d;rw[j7,j_,j7];omega
def qG(A_ s:List B_):Prop:=s.Nodup/\∀i∈s,i∈A_
theorem qG.len{A_ s}(h:qG A_ s):s.length<=A_.length:=WM s A_ h.1 h.2
theorem qG.step{A_ s}(h:qG A_ s)(i):qG A_ (oJ A_ s i):=by
 rw[oJ]
 split
 ·next hc =>
  refine⟨nodup_append.2 ⟨h.1,H_,λx hx y hy e=>?_⟩,λj a=>?_⟩
  ·simp_all
  rcases mem_append.1 a with a|a
  ·exact h.2 j a
  simp_all
 exact h
theorem qG.fold{A_}:∀(l s:List _),qG A_ s->qG A_ (l.foldl (oJ A_) s)
 | [],s,h=>h
 |i::l,s,h=>qG.fold l _ (h.step i)
theorem W6{l:List B_}{s:B_}(f)(h:l[k]?=some s):(l.take (k+1)).filter f=(l.take k).filter f++if f s=true then[s]else[]:=by rw[fF h,filter_append,filter_cons,filter_nil]
theorem aCw(k:Nat)(h:k<16):∃c d,Utf8.decode wz k=(c,1)/\MV[k]?=some d/\Utf8.encode (c:Int)=d/\d.size=1:=by
 have b:∀k:Fin 16,(Utf8.decode wz k.val).2=1/\MV[k.val]?=some (Utf8.encode ((Utf8.decode wz k.val).1:Int))/\(Utf8.encode ((Utf8.decode wz k.val).1:Int)).size=1:=by decide +kernel
 have ⟨g,f,e⟩:=b ⟨k,h⟩;exact⟨(Utf8.decode wz k).1,_,by rw[<-g],f,Z,e⟩
theorem qd(A_:List B_)(o:List (B_×B_))(r:GRep)(p:l8)(hX:∀i,i∈o.map Prod.fst↔i∈A_)(hS:IdS A_)(hp:GoodP p)(hs:qG A_ r.sent)(hw:r.wants.length<549755813888)(ho:r.offers.length<549755813888):
  aU Tryz.prog 46 [.ref 718 0 0 0,av (dC p)] (UD A_ o r) (λx H'=>x=.tup []/\H'=UD A_ o (BZ A_ r p)):=by
 have hlen:=hS.len;have hpre:p.pre.size<=16:=by have:=hp.pre;rw[rV,k_,j0]at this;exact this.1
 have hpo:=λq hq H=>dk A_ q H hS hq;have hsmP:=λH=>JH p H;have hrl:(kE A_ p.pre).length<=A_.length:=List.length_filter_le _ _;have hun:=λH=>bk A_ p.pre H (by omega) hS.srt hS.dig (by omega);have hcS:p.cnt<=16->BZ A_ r p=⟨((kE A_ p.pre).filter λi=>!decide (i∈p.ids)).foldl (oJ A_) r.sent,r.wants++(p.ids.filter λi=>!decide (i∈A_)).map (λi=>[i]),r.offers⟩:=λh=>b7 h;have hcB:¬ p.cnt<=16->BZ A_ r p=if p.cnt=(eG A_ p.pre).cnt/\p.sum=(eG A_ p.pre).sum then r else if(eG A_ p.pre).cnt<=16 then⟨r.sent,r.wants,r.offers++[iS (eG A_ p.pre)]⟩else⟨r.sent,r.wants,r.offers++MV.map λd=>iS (eG A_ (p.pre++d))⟩:=λh=>a8 h
 have hown:(eG A_ p.pre).cnt<1000000/\(eG A_ p.pre).ids.length<=16:=by
  have hg:=xF hS.srt hS.dig hp.pre hlen;refine⟨hg.cnt,?_⟩;by_cases hc:(eG A_ p.pre).cnt<=16
  ·rw[(hg.sml hc).1];exact hc
  rw[hg.big (by omega)];exact l7 _
 have hsmO:=λH=>JH (eG A_ p.pre) H;have hfl:=λH=>M2 (eG A_ p.pre) H X X;have hpo1:=hpo p.pre X;have ⟨W,hW⟩:∃W,W=eG A_ p.pre:=X_;have ⟨R,hR⟩:∃R,R=kE A_ p.pre:=X_;have ⟨d_,hC⟩:∃d_,d_=BZ A_ r p:=X_;rw[<-hW]at hsmO hfl hpo1 hown hcB;rw[<-hR]at hun hcS hrl;rw[<-hC]at hcS hcB |-;clear hW hR hC;have hmR:(R.map S_).length=R.length:=j6 _;have hmI:(p.ids.map S_).length=p.ids.length:=j6 _;refine Bd func46 Z ntmps46<|Sz (kb 3)<|S<|aM a7<|Cr [718] (λ_ _=>aA)<|Cr [718] (λH1 hH=>by exact dN Z Z ((hH _ Z).trans Z) Z)<|Cr [718] (λ_ h=>fh S2 h)<|Cr [718] (λ_ h=>fh IG h)<|Cr [718] (λ_ h=>lh jU h)<|Cr [3] (λ_ h=>fh M0 h)<|Cr [3] (λ_ h=>lh N_ h)<|x_ (by exact bH Z Z call35 Z (hpo1 _))<|Cp [4] (λH1 hH=>by exact CA (id:=4) Z Do Z ((hH _ Z).trans Z))<|Cp [4] (λ_ h=>sa dT h)<|bG<|Kr<|aD<|O u3<|Y (kc call82 (hsmP _))<|Y aI ?_;refine Zz<|Cn ?_ ?_<;>intro hc1
 ·have hc16:p.cnt<=16:=by have:=b9 hc1;omega
  obtain ⟨q1,q2,q3⟩:=hp.sml hc16;have hsrt:=fi _ _ q2;rw[hcS hc16];clear hcS hcB;refine S<|S<|aM a7<|Cq aA<|Cq sE<|Cq (bA S2)<|Cq (bA IG)<|Cq (bQ jU)<|Cq (bA M0)<|Cq (bQ N_)<|Cq (kc call80 (hun _))<|Cq (fW lZ)<|Cq aA<|bG<|Kr<|aD<|bF (σ:=Nat) (λk=>([(0,.ref 718 0 0 0),(3,.ref 3 0 0 0),(54,.pv (aL R)),(55,iv ((R.map S_).length:Int)),(56,iv (k:Int))],(3,bx 4 70 ((dC p).map .pv))::UD A_ o ⟨((R.take k).filter λi=>!decide (i∈p.ids)).foldl (oJ A_) r.sent,r.wants,r.offers⟩)) (λk=>k<=R.length) (λk=>R.length - k) 0 (l7 _) ?_ ?_
  ·exact(cL.wk (Ea<|Ea<|Eb<|Eb<|Eb<|T_) (Hb<|Hc (by(simp;exact⟨Z,Z,Z,Z,Z⟩))<|Hc (dQ _)<|Hc (dQ _)<|Hc (aV _ _)<|Hb<|Hb<|T_) ⟨Z,Z,Z,Z,Z,Z,T_⟩)
  intro k hk;have hso:=(qG.fold ((R.take k).filter λi=>!decide (i∈p.ids)) r.sent hs).len;refine Sz cJ<|S<|Cn ?_ ?_<;>intro hc2
  ·have hlt:k<R.length:=by have:=b9 hc2;omega
   obtain ⟨s,hk2⟩:=aS hlt;have hi:=cE (f:=S_) hk2;have hnx:=W6 (λi=>!decide (i∈p.ids)) hk2;have N:=λH=>Lb p.ids s H (by omega) hsrt;obtain ⟨f_,hSe⟩:∃f_,f_=((R.take k).filter λi=>!decide (i∈p.ids)).foldl (oJ A_) r.sent:=X_;rw[<-hSe]at hso |-;refine aB<|S<|aD<|O (iO QK)<|Y (fZ N_ (hi:=hi))<|V aI<|O (bA E6)<|Y (bQ jU)<|Y aA<|Y (kc call92 (N _))<|V iI<|Cn ?_ ?_<;>intro hc3
   ·have o_:(!decide (s∈p.ids))=true:=hc3;refine Rd aA<|Y aA<|V (kc call44 (Wr (r:=⟨f_,r.wants,r.offers⟩) hX (show f_.length<2^40 by omega) ⟨Z,Z,Z,Z,Z,Z,T_⟩))<|Rd gX<|V aA ?_;refine⟨k+1,by omega,by omega,?_⟩;rw[b7 o_]at hnx;dsimp only;rw[hnx,List.foldl_append,<-hSe];exact(cL.wk (Ea<|Ea<|Eb<|Eb<|Eb<|T_) (Hb<|Hc (by(simp;exact⟨Z,Z,Z,Z,Z⟩))<|Hc (dQ _)<|Hc (dQ _)<|Hc (aV _ _)<|Hb<|Hb<|T_) ⟨Z,Z,Z,Z,Z,Z,T_⟩)
   have o_:(!decide (s∈p.ids))=false:=hc3;refine aB<|Rd gX<|V aA ?_;refine⟨k+1,by omega,by omega,?_⟩;rw[a8 (by rw[o_];decide),List.append_nil]at hnx;dsimp only;rw[hnx,<-hSe];exact(cL.wk (Ea<|Ea<|Eb<|Eb<|Eb<|T_) (Hb<|Hc (by(simp;exact⟨Z,Z,Z,Z,Z⟩))<|Hc (dQ _)<|Hc (dQ _)<|Hc (aV _ _)<|Hb<|Hb<|T_) ⟨Z,Z,Z,Z,Z,Z,T_⟩)
  have L:k=R.length:=by have:=b_ hc2;omega
  subst L;rw[List.take_length];obtain ⟨f_,hSe⟩:∃f_,f_=(R.filter λi=>!decide (i∈p.ids)).foldl (oJ A_) r.sent:=X_;rw[<-hSe];refine aP<|O (bA E6)<|Y (bQ jU)<|Y (fW lZ)<|V aA<|aD<|bF (σ:=Nat) (λk=>([(0,.ref 718 0 0 0),(70,.pv (aL p.ids)),(71,iv ((p.ids.map S_).length:Int)),(72,iv (k:Int))],UD A_ o ⟨f_,r.wants++((p.ids.take k).filter λi=>!decide (i∈A_)).map (λi=>[i]),r.offers⟩)) (λk=>k<=p.ids.length) (λk=>p.ids.length - k) 0 (l7 _) ?_ ?_
  ·simp only[List.take_zero,List.filter_nil,List.map_nil,List.append_nil];exact(cL.wk (Ea<|Eb<|Eb<|Eb<|T_) (Hc (by(simp;exact⟨Z,Z,Z,Z,Z⟩))<|Hc (dQ _)<|Hc (dQ _)<|Hc (aV _ _)<|Hb<|Hb<|T_) ⟨Z,Z,Z,Z,Z,Z,T_⟩)
  intro k hk;have hwl:(r.wants++((p.ids.take k).filter λi=>!decide (i∈A_)).map (λi=>[i])).length<=r.wants.length+16:=by
   have:=List.length_filter_le (λi=>!decide (i∈A_)) (p.ids.take k);rw[j_,j6];rw[q9]at this;omega
  refine Sz cJ<|S<|Cn ?_ ?_<;>intro hc4
  ·have hlt:k<p.ids.length:=by have:=b9 hc4;omega
   obtain ⟨s,hk2⟩:=aS hlt;have hi:=cE (f:=S_) hk2;have hnx:=W6 (λi=>!decide (i∈A_)) hk2;have N:=λH=>Lb A_ s H (by omega) hS.srt;obtain ⟨v_,hVe⟩:∃v_,v_=r.wants++((p.ids.take k).filter λi=>!decide (i∈A_)).map (λi=>[i]):=X_;rw[<-hVe]at hwl |-;have P:(v_++[[s]]).length=v_.length+1:=by rw[j_];rfl
   have hlr:(BN v_).length=v_.length:=j6 _;refine aB<|S<|aD<|O (iO QK)<|Y (fZ N_ (hi:=hi))<|V aI<|O aA<|Y sE<|Y (bA S2)<|Y (bA IG)<|Y (bQ jU)<|Y aA<|Y (kc call92 (N _))<|V iI<|Cn ?_ ?_<;>intro z_
   ·have o_:(!decide (s∈A_))=true:=z_;refine Rd aA<|Y aA<|Y sE<|Y (bA pk)<|Y (bQ isAgg73)<|Y aA<|Y (by exact aK ([s].map S_) Z bD Z Z Z Z Z (fY _))<|Y (by exact aK ([[s]].map q_) Z GK Z Z Z Z Z (pT _))<|Y (by exact cA (n:=v_.length) (k:=v_.length+1) (ps:=[[s]].map q_) Z GK aAn Z Z Z Z Z hlr Z (pT [[s]]) (m:=1) Z (by omega) Z (rows':=BN (v_++[[s]])) (by rw[rT,rT,List.map_append,List.map_append]))<|Y sE<|Y (bA pk)<|Uu (by exact cQ Z sizeOf73 Z Z Z Z Z Z (by simp only[j7,List.length_nil];omega) (by simp only[Zl,S_,dC];rfl) (by simp only[Zl,S_,dC];rfl))<|Zz<|Rd gX<|V aA ?_;refine⟨k+1,by omega,by omega,?_⟩;rw[b7 o_]at hnx;have e:r.wants++((p.ids.take (k+1)).filter λi=>!decide (i∈A_)).map (λi=>[i])=v_++[[s]]:=by rw[hnx,List.map_append,<-List.append_assoc,<-hVe];rfl
    simp only[UD,rpO,e,P];exact(cL.wk (Ea<|Eb<|Eb<|Eb<|T_) (Hc (by(simp;exact⟨Z,Z,Z,Z,Z⟩))<|Hc (dQ _)<|Hc (dQ _)<|Hc (aV _ _)<|Hc (uC _)<|Hb<|T_) ⟨Z,Z,Z,Z,Z,Z,T_⟩)
   have o_:(!decide (s∈A_))=false:=z_;refine aB<|Rd gX<|V aA ?_;refine⟨k+1,by omega,by omega,?_⟩;rw[a8 (by rw[o_];decide),List.append_nil]at hnx;dsimp only;rw[hnx,<-hVe];exact(cL.wk (Ea<|Eb<|Eb<|Eb<|T_) (Hc (by(simp;exact⟨Z,Z,Z,Z,Z⟩))<|Hc (dQ _)<|Hc (dQ _)<|Hc (aV _ _)<|Hb<|Hb<|T_) ⟨Z,Z,Z,Z,Z,Z,T_⟩)
  have L:k=p.ids.length:=by have:=b_ hc4;omega
  subst L;rw[List.take_length];refine aP ?_;exact oT (.inl Z) Z Fin.refl ⟨Z,Z⟩
 have hc16:¬ p.cnt<=16:=by have:=b_ hc1;omega
 have hcB:=hcB hc16;clear hcS;obtain ⟨y_,hY⟩:∃y_,y_=(decide ((p.cnt:Int)=(W.cnt:Int))&&decide (p.sum=W.sum)):=X_;refine S<|aQ (t:=96) (n:=14) (A_:=y_) ?_ ?_
 ·all_goals refine Y (bA E7)<|Y (bQ M_)<|Y (bA E7)<|Y (bQ M_)<|Y cD<|Dm ?_<;>(refine Sp 102 (λh102=>?_) λh102=>?_)<;>(try(with_reducible contradiction))<;>(first|refine M<|M<|M<|M<|M ?_|refine U (bA S3)<|U (bQ N_)<|U (bA S3)<|U (bQ N_)<|U wH ?_)<;>refine Y cC<|Da ?_<;>exact Gj (h:=by rw[hY];(rw[h102];rfl))
 refine Cn ?_ ?_<;>intro hc6
 ·have hYt:=hY.symm.trans hc6;rw[k_,j0,j0]at hYt;rw[b7 ⟨by omega,hYt.2⟩]at hcB;rw[hcB];refine aB ?_;exact oT (H':=UD A_ o r) (.inl Z) Z (Fin.wk (by(simp;done)) (Hc (by(simp;exact⟨Z,Z,Z,Z,Z⟩))<|Hc (dQ _)<|Hc (dQ _)<|Hc (aV _ _)<|Hb<|Hb<|T_) ⟨Z,Z,Z,Z,Z,Z,T_⟩) ⟨Z,Z⟩
 have u_:=hY.symm.trans hc6;rw[a8 (λh=>by rw[decide_eq_true (by omega:(p.cnt:Int)=(W.cnt:Int)),decide_eq_true h.2]at u_;cases u_)]at hcB;refine O (by exact aW Z iJ dT Z Z Z Z (by simp only[Zl,S_,dC];rfl) Z)<|Y (kc call82 (hsmO _))<|Da ?_;refine Cn ?_ ?_<;>intro hc7
 ·have e_:W.cnt<=16:=by have:=b9 hc7;omega
  rw[b7 e_]at hcB;rw[hcB];have hlr:(BN r.offers).length=r.offers.length:=j6 _;have hol:(r.offers++[iS W]).length=r.offers.length+1:=by rw[j_];rfl
  refine aM a7<|Cr [718] (λ_ _=>aA)<|Cr [718] (λ_ _=>aA)<|Cr [718] (λH1 hH=>by exact dN Z Z ((hH _ Z).trans Z) Z)<|Cr [718] (λ_ h=>fh S1 h)<|Cr [718] (λ_ h=>lh isAgg73 h)<|Cr [4] (λH1 hH=>by exact aW Z iJ dT Z ((hH _ Z).trans Z) Z Z (by simp only[Zl,S_,dC];rfl) Z)<|Cr [] (λH1 hH=>by exact bH Z Z call36 Z (hfl _))<|Cr [] (λH1 hH=>by exact aK ([iS W].map q_) Z GK Z Z Z Z Z (pT _))<|Cp [723] (λH1 hH=>by exact cA (n:=r.offers.length) (k:=r.offers.length+1) (ps:=[iS W].map q_) Z GK aAn Z ((hH _ Z).trans Z) Z Z Z hlr Z (pT [iS W]) (m:=1) Z (by omega) Z (rows':=BN (r.offers++[iS W])) (by rw[rT,rT,List.map_append,List.map_append])) ?_;refine Cr [718] (λH1 hH=>by exact dN Z Z ((hH _ Z).trans Z) Z)<|Cr [718] (λ_ h=>fh S1 h)<|Cp [718] (λH1 hH=>by exact cQ Z sizeOf73 Z Z Z ((hH _ Z).trans Z) Z Z (by simp only[j7,List.length_nil];omega) (by simp only[Zl,S_,dC];rfl) (by simp only[Zl,S_,dC];rfl))<|bG<|Kr ?_;refine oT (H':=UD A_ o ⟨r.sent,r.wants,r.offers++[iS W]⟩) (.inl Z) Z ?_ ⟨Z,Z⟩;simp only[UD,rpO,hol];exact(Fin.wk (by(simp;done)) (Hc (by(simp;exact⟨Z,Z,Z,Z,Z⟩))<|Hc (dQ _)<|Hc (dQ _)<|Hc (aV _ _)<|Hb<|Hc (uC _)<|T_) ⟨Z,Z,Z,Z,Z,Z,T_⟩)
 have e_:¬ W.cnt<=16:=by have:=b_ hc7;omega
 rw[a8 e_]at hcB;rw[hcB];refine Sz (by exact na (q:=19) Z U_ Z Z)<|aD<|bF (σ:=Nat) (λk=>([(0,.ref 718 0 0 0),(3,.ref 3 0 0 0),(19,.it 19 0)],(19,⟨0,0,0,QB wz k⟩)::(3,bx 4 70 ((dC p).map .pv))::UD A_ o ⟨r.sent,r.wants,r.offers++(MV.take k).map λd=>iS (eG A_ (p.pre++d))⟩)) (λk=>k<=16) (λk=>16 - k) 0 (l7 _) ?_ ?_
 ·simp only[List.take_zero,List.map_nil,List.append_nil];exact(cL.wk (Ea<|Ea<|Ea<|T_) (Hb<|Hb<|Hc (by(simp;exact⟨Z,Z,Z,Z,Z⟩))<|Hc (dQ _)<|Hc (dQ _)<|Hc (aV _ _)<|Hb<|Hb<|T_) ⟨Z,Z,Z,Z,Z,Z,T_⟩)
 intro k hk;by_cases hlt:k<16
 ·obtain ⟨c,d,d1,d2,d3,d4⟩:=aCw k hlt;have hnx:(MV.take (k+1)).map (λd=>iS (eG A_ (p.pre++d)))=(MV.take k).map (λd=>iS (eG A_ (p.pre++d)))++[iS (eG A_ (p.pre++d))]:=by rw[fF d2,List.map_append];rfl
  have T:(r.offers++(MV.take k).map λd=>iS (eG A_ (p.pre++d))).length<=r.offers.length+16:=by rw[j_,j6,q9];omega
  have hsz:(p.pre++d).size<2^40:=by rw[ByteArray.size_append];omega
  have hpo2:=hpo (p.pre++d) hsz;have hcn:(eG A_ (p.pre++d)).cnt<1000000:=Nat.lt_of_le_of_lt (List.length_filter_le _ _) hlen;have hid:(eG A_ (p.pre++d)).ids.length<=16:=by
   show (if(kE A_ (p.pre++d)).length<=16 then kE A_ (p.pre++d)else[]).length<=16
   split
   ·assumption
   exact l7 _
  have hfl2:=λH=>M2 (eG A_ (p.pre++d)) H X X;have ⟨Q,hQ⟩:∃Q,Q=eG A_ (p.pre++d):=X_;rw[<-hQ]at hpo2 hfl2 hnx;have ⟨v_,hVe⟩:∃v_,v_=r.offers++(MV.take k).map λd=>iS (eG A_ (p.pre++d)):=X_;rw[<-hVe]at T |-;have P:(v_++[iS Q]).length=v_.length+1:=by rw[j_];rfl
  have hlr:(BN v_).length=v_.length:=j6 _;refine O (by exact zo Z Z Z Z Z (show k<wz.size from hlt) d1)<|V dK<|S<|Cn ?_ ?_<;>intro hc8
  ·refine aB<|aD<|O dK<|V aI<|aM a7<|Cr [718] (λ_ _=>aA)<|Cr [718] (λ_ _=>aA)<|Cr [718] (λH1 hH=>by exact dN Z Z ((hH _ Z).trans Z) Z)<|Cr [718] (λ_ h=>fh S1 h)<|Cr [718] (λ_ h=>lh isAgg73 h)<|Cr [718] (λ_ _=>aA)<|Cr [718] (λH1 hH=>by exact dN Z Z ((hH _ Z).trans Z) Z)<|Cr [718] (λ_ h=>fh S2 h)<|Cr [718] (λ_ h=>fh IG h)<|Cr [718] (λ_ h=>lh jU h)<|Cr [3] (λ_ h=>fh M0 h)<|Cr [3] (λ_ h=>lh N_ h)<|Cr [] (λ_ _=>aA)<|Cr [] (λH1 hH=>by exact cN.eqv (Y5 Z underlying21 U_ Z) (by rw[d3]))<|Cr [] (λH1 hH=>by exact fC Z Z Z (by omega) (r:=p.pre++d) Z)<|Cr [] (λH1 hH=>by exact bH Z Z call35 Z (hpo2 _))<|Cr [] (λH1 hH=>by exact bH Z Z call36 Z (hfl2 _)) ?_;refine Cr [] (λH1 hH=>by exact aK ([iS Q].map q_) Z GK Z Z Z Z Z (pT _))<|Cp [723] (λH1 hH=>by exact cA (n:=v_.length) (k:=v_.length+1) (ps:=[iS Q].map q_) Z GK aAn Z ((hH _ Z).trans Z) Z Z Z hlr Z (pT [iS Q]) (m:=1) Z (by omega) Z (rows':=BN (v_++[iS Q])) (by rw[rT,rT,List.map_append,List.map_append]))<|Cr [718] (λH1 hH=>by exact dN Z Z ((hH _ Z).trans Z) Z)<|Cr [718] (λ_ h=>fh S1 h)<|Cp [718] (λH1 hH=>by exact cQ Z sizeOf73 Z Z Z ((hH _ Z).trans Z) Z Z (by simp only[j7,List.length_nil];omega) (by simp only[Zl,S_,dC];rfl) (by simp only[Zl,S_,dC];rfl))<|bG<|Kr ?_;refine⟨k+1,by omega,by omega,?_⟩;have e:r.offers++(MV.take (k+1)).map (λd=>iS (eG A_ (p.pre++d)))=v_++[iS Q]:=by rw[hnx,<-List.append_assoc,<-hVe]
   simp only[UD,rpO,e,P];exact(cL.wk (Ea<|Ea<|Ea<|T_) (Hb<|Hb<|Hc (by(simp;exact⟨Z,Z,Z,Z,Z⟩))<|Hc (dQ _)<|Hc (dQ _)<|Hc (aV _ _)<|Hb<|Hc (uC _)<|T_) ⟨Z,Z,Z,Z,Z,Z,T_⟩)
  cases hc8
 obtain rfl:k=16:=by omega
 refine O (by exact UH Z Z Z Z Z (g_ 16))<|V dK<|S<|Cn ?_ ?_<;>intro hc9
 ·cases hc9
 refine aP ?_;exact oT (H':=UD A_ o ⟨r.sent,r.wants,r.offers++MV.map λd=>iS (eG A_ (p.pre++d))⟩) (.inl Z) Z (Fin.wk (by(simp;done)) (Hc (by(simp;exact⟨Z,Z,Z,Z,Z⟩))<|Hc (dQ _)<|Hc (dQ _)<|Hc (aV _ _)<|Hb<|Hc (uC _)<|T_) ⟨Z,Z,Z,Z,Z,Z,T_⟩) ⟨Z,Z⟩
theorem Lw(d:∀i,i∈o.map Prod.fst↔i∈A_)(hS:IdS A_)(a:GoodP p)(f:qG A_ r.sent)(b:r.wants.length<549755813888)(e:r.offers.length<549755813888)(c:HN H (UD A_ o r)):
  aU Tryz.prog 46 [.ref 718 0 0 0,av (dC p)] H (λx H'=>x=.tup []/\H'=UD A_ o (BZ A_ r p)++H) :=
 aU.frame (qd A_ o r p d hS a f b e) (HN.sub c) (dG.ofL ⟨(by(simp;exact⟨Z,Z,Z,Z,Z⟩)),(dQ _),(dQ _),(aV _ _),y4,y4,T_⟩) (by simp[dC];rfl) (λid h=>.inl (Xa h))
theorem di(T:List (List B_)->B_):∀(n m:Nat) (l:List (List B_)),l.length<=n->l.length<=m->ue T n l=ue T m l
 |0,m,l,h,_=>by
  rw[List.length_eq_zero_iff.1 (Nat.le_zero.1 h)];cases m<;>simp[ue]
 |n+1,0,l,_,h=>by
  rw[List.length_eq_zero_iff.1 (Nat.le_zero.1 h)];simp[ue]
 |n+1,m+1,l,h1,h2=>by
  rw[ue,ue]
  split
  ·rfl
  next a =>
  have hp:=length_pos_iff.2 a;have:=YT T l l.length 1;rw[di T n m _ m5 m5]
theorem Ip(T:List (List B_)->B_){l:List (List B_)}(a:l≠[])(b:De T l l.length 1=n):ue T l.length l=T (l.take n)::ue T (l.drop n).length (l.drop n):=by
 have hp:=length_pos_iff.2 a;have ⟨k,d⟩:∃k,l.length=k+1:=⟨l.length - 1,X⟩;have c:=YT T l l.length 1
 conv=>lhs;rw[d,ue,a8 a]
 rw[b]at c |-;rw[di T k _ _ m5 (g_ _)]
theorem du(f:FuncId)(T:List (List B_)->B_)(l:List (List B_))(hl:l.length<1000000000)(e_:∀i n H,dH Tryz.prog (.pv (.fn f)) [.pv (sO ((l.drop i).take n))] H (λr H'=>r=sv (T ((l.drop i).take n))/\H'=H))(H:aF):
  RC 48 [.pv (sO l),.pv (.fn f)] (.pv (aL (mj T l))) H:=by
 refine Pu<|Bd func48 Z ntmps48<|Sz aI<|Sz (eI (id:=905) (sz:=1) (ty:=9) Z Z Z)<|S<|aD<|eU (λ(i:Nat) (A:List B_)=>([(0,.pv (sO (l.drop i))),(1,.pv (.fn f)),(5,.osl 905 A.length 0 A.length)],[(905,⟨A.length,1,9,cB A⟩)])) (λi A=>i<=l.length/\A.length<=i/\mj T l=A++ue T (l.drop i).length (l.drop i)) (λi A=>l.length - i) 0 [] ⟨l7 _,g_ _,by rw[drop_zero,nil_append];rfl⟩ ?_ ?_
 ·exact L_
 rintro i A ⟨hi,hA,q⟩;have c_:(l.drop i).length=l.length - i:=q6;have o:=λn H=>e_ i n H;have p:∀n,(l.drop i).drop n=l.drop (i+n):=λn=>by rw[drop_drop]
 have ⟨r,m⟩:∃r,r=l.drop i:=X_;rw[<-m]at c_ o q p |-;have hmr:(r.map q_).length=r.length:=j6 _;have z:∀n,((r.map q_).take n).drop 0=(r.take n).map q_:=λn=>by rw[drop_zero,map_take]
 refine S<|O aA<|Y (fW tJ)<|V iP<|Cn ?_ ?_<;>intro y
 ·have g:0<r.length:=I_ y
  have K:r≠[]:=λe=>by rw[e]at g;exact absurd g E_
  refine aB<|aD<|Sz aI<|S<|aD<|bF (σ:=Nat) (λn=>([(0,.pv (sO r)),(1,.pv (.fn f)),(5,.osl 905 A.length 0 A.length),(6,iv (n:Int))],[(905,⟨A.length,1,9,cB A⟩)])) (λn=>1<=n/\n<=r.length/\De T r r.length 1=De T r (r.length+1 - n) n) (λn=>r.length - n) 1 ⟨g_ _,g,by rw[Nat.add_sub_cancel]⟩ ?_ ?_
  ·exact L_
  rintro n ⟨h1,h2,x⟩;have c:De T r (r.length+1 - n) n=if n<r.length/\(T (r.take (n+1))).size<=18000 then De T r (r.length+1 - (n+1)) (n+1)else n:=by
   rw[show r.length+1 - n=(r.length+1 - (n+1))+1 by omega,De]
  rw[c]at x;clear c;have ⟨B,hB⟩:∃B,B=(decide ((n:Int)<((r.map q_).length:Int))&&decide (((T (r.take (n+1))).size:Int)<=18000)):=X_;have G:=λH=>o (n+1) H;refine S<|S<|aQ (t:=23) (n:=15) (A_:=B) ?_ ?_
  ·all_goals refine Y aA<|Y aA<|Y (fW tJ)<|Y cJ<|Dm ?_<;>(refine Sp 14 (λs=>?_) λs=>?_)<;>(first|exact s_|refine M<|M<|M<|M<|M<|M<|M<|M ?_|refine U aA<|U aA<|U aA<|U kp<|U (eY (l:=0) (h:=n+1) Z GK Z (pT r) Z Z (l7 _) (I_ s) (z (n+1)))<|U (dA Z Z Z (G _))<|U (gE U_)<|U G8 ?_)<;>refine V cC ?_<;>exact Gj (h:=by rw[hB];(rw[s];rfl))
  refine Cn ?_ ?_<;>intro t
  ·have I:=hB.symm.trans t;rw[k_,j0,j0]at I;rw[b7 ⟨X,X⟩]at x;refine aB<|aD<|Rd aA<|Y kp<|Da ?_;exact⟨n+1,⟨X,X,x⟩,X,L_⟩
  have u:=hB.symm.trans t;rw[a8 (λh=>by rw[decide_eq_true (by omega:(n:Int)<((r.map q_).length:Int)),decide_eq_true (by omega:((T (r.take (n+1))).size:Int)<=18000)]at u;cases u)]at x;have F:=Ip T K x;have w:(A++[T (r.take n)]).length=A.length+1:=by rw[j_];rfl
  have D:=λH=>o n H;refine aP<|aM a7<|Cr [905] (λ_ _=>aA)<|x_ aA<|x_ aA<|x_ aA<|x_ (by exact eY (l:=0) (h:=n) Z GK Z (pT r) Z Z (l7 _) X (z n))<|x_ (by exact dA Z Z Z (D _))<|x_ (by exact aK [[.str (T (r.take n))]] Z bD Z Z Z Z Z R_)<|Cp [905] (λE d_=>by exact cA (k:=A.length+1) (ps:=[[.str (T (r.take n))]]) Z bD yJ Z ((d_ _ Z).trans Z) Z Z Z (eS _) Z R_ (m:=1) Z X Z (gO _ (T (r.take n))))<|x_ aA<|x_ aA<|x_ (by exact eY (l:=n) (h:=(r.map q_).length) Z GK Z (pT r) Z Z X (g_ _) (show ((r.map q_).take _).drop n=(l.drop (i+n)).map q_ by rw[take_length,<-p,map_drop])) ?_;refine Cr [905] (λ_ _=>aI)<|x_ aI<|bG<|Kr ?_;refine⟨i+n,A++[T (r.take n)],⟨X,by rw[w];omega,?_⟩,X,?_⟩
  ·rw[q,F,p,append_assoc];rfl
  dsimp only;rw[w];exact L_
 have L:r=[]:=length_eq_zero_iff.1 (J_ y);rw[q,L];refine aP<|O aA<|V aI<|aC ?_;refine cR (H':=[]) (.inr Z) Z (aH Z) (Fin.slice0 (id:=905) ((A++[]).map S_) Z Z (by rw[append_nil];exact(eT A)) (by rw[append_nil,j6])) ?_;exact Qq
theorem RI:∀(n:Nat) (l:List B_) (P:List l8),T6 n l=some P->P.length<=l.length/\∀p∈P,GoodP p
 |n,[],P,h=>by
  rw[O4]at h
  simp_all
 |0,a::l,P,h=>by simp[T6]at h
 |n+1,[a],P,h=>by cases h
 |n+1,[a,b],P,h=>by cases h
 | n + 1, a :: b :: c :: r, P, h => by
  rw[T6]at h;have hb:=F5 b
  split at h
  ·next j =>
   rw[k_,k_,j0]at j
   split at h
   ·next k =>
    split at h
    ·next s =>
     obtain ⟨Q,m,rfl⟩:=Option.map_eq_some_iff.1 h;have ⟨q,o⟩:=RI n _ Q m;rw[q6]at q;refine⟨G_,λp f=>?_⟩;rcases l9.1 f with rfl|f
     ·refine⟨j.1.1,by show (eJ b).toNat<_;omega,j.2,λ_=>⟨?_,s.2.1,s.2.2⟩,λi=>?_⟩
      ·show (r.take (eJ b).toNat).length=(eJ b).toNat;rw[q9];omega
      have i:16<(eJ b).toNat:=i;omega
     exact o p f
    cases h
   next k =>
   obtain ⟨Q,m,rfl⟩:=Option.map_eq_some_iff.1 h;have ⟨q,o⟩:=RI n _ Q m;refine⟨by simp only[j7];omega,λp f=>?_⟩;rcases l9.1 f with rfl|f
   ·refine⟨j.1.1,by show (eJ b).toNat<_;omega,j.2,λg=>?_,λ_=>rfl⟩;have g:(eJ b).toNat<=16:=g;omega
   exact o p f
  cases h
theorem zy(t:B_):(xV t).length<=t.size/\∀p∈xV t,GoodP p:=by
 rw[xV]
 split
 ·next o n r c =>
  have b:=(sN _ _ _ (g_ _) c).1;rw[aR]at b;simp only[j7]at b
  split
  ·split
   ·next P e =>
    have ⟨h1,d⟩:=RI _ _ P e
    split
    ·exact⟨X,d⟩
    exact⟨l7 _,λp a=>by cases a⟩
   exact⟨l7 _,λp a=>by cases a⟩
  exact⟨l7 _,λp a=>by cases a⟩
 simp_all
theorem El(t):(vP t).length<=t.size:=by
 rw[vP]
 split
 ·next o i r b =>
  have a:=(sN _ _ _ (g_ _) b).1;rw[aR]at a;simp only[j7]at a
  split
  ·rw[j7];omega
  exact l7 _
 simp_all
structure RepOk(A_:List B_)(n:Nat)(r:GRep):Prop where
 sent:qG A_ r.sent
 wl:r.wants.length<=16*n
 ol:r.offers.length<=16*n
 ws:∀w∈r.wants,w.length<=19/\∀s∈w,s.size<=24
 os:∀w∈r.offers,w.length<=19/\∀s∈w,s.size<=24
theorem vu(hS:IdS A_){q:B_}(e:q.size<=17):(iS (eG A_ q)).length<=19/\∀s∈iS (eG A_ q),s.size<=24:=by
 have f:(eG A_ q).ids.length<=16/\∀s∈(eG A_ q).ids,s.size<=24:=by
  show (if(kE A_ q).length<=16 then kE A_ q else[]).length<=16/\∀s∈(if(kE A_ q).length<=16 then kE A_ q else[]),s.size<=24
  split
  ·exact⟨by assumption,λs b=>by rw[jY (hS.dig s (tf.1 b).1)];decide⟩
  exact⟨l7 _,λs b=>by cases b⟩
 have hc:(kE A_ q).length<1000000:=Nat.lt_of_le_of_lt (length_filter_le _ _) hS.len;refine⟨?_,λs b=>?_⟩
 ·rw[iS,j_];simp only[j7,length_nil];omega
 rw[iS,mem_append]at b;rcases b with b|b
 ·simp only[l9,q7,or_false]at b;rcases b with rfl|rfl|rfl
  ·exact Nat.le_trans e E_
  ·show (aT ((kE A_ q).length:Int)).size<=24;exact Nat.le_trans (nL X X) E_
  show (FD ⟨(aN (kE A_ q)).toArray⟩).size<=24;rw[jY (C3 _)];decide
 exact f.2 s b
theorem RepOk.step(hS:IdS A_)(h:RepOk A_ n r)(g:GoodP p):RepOk A_ (n+1) (BZ A_ r p):=by
 have hpre:p.pre.size<=16:=by have:=g.pre;rw[rV,k_,j0]at this;exact this.1
 have ⟨b,f,k,e,c⟩:=h;rw[BZ]
 split
 ·next q =>
  have ⟨q1,o,_⟩:=g.sml q;refine⟨b.fold _ _,?_,Nat.le_trans k X,λw a=>?_,c⟩
  ·have:=length_filter_le (λi=>!decide (i∈A_)) p.ids;rw[j_,j6];omega
  rcases mem_append.1 a with a|a
  ·exact e w a
  obtain ⟨i,l,rfl⟩:=mem_map.1 a;rw[mem_filter]at l;refine⟨(by decide:1<=19),λs j=>?_⟩;rw[r6]at j;rw[j,jY (KN o i l.1).1];decide
 split
 ·exact⟨b,Nat.le_trans f X,Nat.le_trans k X,e,c⟩
 split
 ·refine⟨b,Nat.le_trans f X,by rw[j_];simp only[j7,length_nil];omega,e,λw a=>?_⟩;rcases mem_append.1 a with a|a
  ·exact c w a
  rw[r6]at a;subst a;exact vu hS X
 refine⟨b,Nat.le_trans f X,by rw[j_,j6,show MV.length=16 from rfl];omega,e,λw a=>?_⟩;rcases mem_append.1 a with a|a
 ·exact c w a
 obtain ⟨d,m,rfl⟩:=mem_map.1 a;have:=(Um d m).1;exact vu hS (by rw[ByteArray.size_append];omega)
theorem gd:∀(L:List (List B_)),(∀w∈L,w.length<=19/\∀s∈w,s.size<=24)->L.flatten.length<=19*L.length/\∀s∈L.flatten,s.size<=24
 | [],_=>⟨g_ _,λs a=>by cases a⟩
 |w::L,h=>by
  obtain ⟨i1,i2⟩:=gd L λw b=>h w (mem_cons_of_mem _ b)
  grind
theorem S5(hl:L.length<=1000000)(h:∀w∈L,w.length<=19/\∀s∈w,s.size<=24):L.flatten.length<549755813888/\(aN (eZ::aT (L.length:Int)::L.flatten)).length<35184372088832/\(aN (oK::L.flatten)).length<35184372088832:=by
 have ⟨h1,c⟩:=gd L h;have d:(aT (L.length:Int)).size<=1000000:=Nat.le_trans (nL X X) E_;refine⟨X,?_,?_⟩
 ·refine Nat.lt_of_le_of_lt (C2 _ λs a=>?_) (by rw[j7,j7];omega);rcases l9.1 a with rfl|a
  ·decide
  rcases l9.1 a with rfl|a
  ·exact d
  have:=c s a;omega
 refine Nat.lt_of_le_of_lt (C2 _ λs a=>?_) (by rw[j7];omega);rcases l9.1 a with rfl|a
 ·decide
 have:=c s a;omega
theorem gb(h:∀w∈L,w.length<=19/\∀s∈w,s.size<=24)(i n:Nat):∀w∈(L.drop i).take n,w.length<=19/\∀s∈w,s.size<=24:=λw a=>h w (mem_of_mem_drop (mem_of_mem_take a))
theorem Se(l:List (List B_))(hl:l.length<=1000000)(h:∀w∈l,w.length<=19/\∀s∈w,s.size<=24)(H:aF):RC 48 [.pv (sO l),.pv (.fn 49)] (.pv (aL (mj qI l))) H :=du 49 qI l X (λi n H=>by
  have hn:((l.drop i).take n).length<=l.length:=G_
  have ⟨c,h2,d⟩:=S5 (L:=(l.drop i).take n) X (gb h i n);exact dH.fn call49 (Xx _ H X c d)) H
theorem Sf(l:List (List B_))(hl:l.length<=1000000)(h:∀w∈l,w.length<=19/\∀s∈w,s.size<=24)(H:aF):RC 48 [.pv (sO l),.pv (.fn 34)] (.pv (aL (mj BK l))) H :=du 34 BK l X (λi n H=>by
  have hn:((l.drop i).take n).length<=l.length:=G_
  have ⟨d,c,h3⟩:=S5 (L:=(l.drop i).take n) X (gb h i n);exact dH.fn call34 (ui _ H X d c)) H
theorem ud(T:List (List B_)->B_)(l:List (List B_)):(mj T l).length<=l.length:=by
 have h:∀(f:Nat) (l:List (List B_)),(ue T f l).length<=l.length:=by
  intro f
  induction f with
  |zero=>exact λl=>l7 _
  |succ f d =>
   intro l;rw[ue]
   split
   ·exact l7 _
   next b =>
   have hp:=length_pos_iff.2 b;have h1:=YT T l l.length 1;have c:=d (l.drop (De T l l.length 1));rw[q6]at c;rw[j7];omega
 exact h _ l
theorem P3(L:List (List B_)):((L.map q_).take (0+L.length)).drop 0=L.map q_:=iW q_ L
theorem kr(o)(f_:List B_):(((f_.map (oN o)).map S_).take (0+f_.length)).drop 0=(f_.map (oN o)).map S_:=by
 have:=iW S_ (f_.map (oN o))
 rwa [j6]at this
theorem ix(L:List B_)(t:B_)(H:aF)(hl:L.length<1000000)(hs:∀t∈L,t.size<1000000000):
  RC 14 [.pv (aL L),sv t] (.tup [.pv (aL (if 20000<t.size then[]else D3 L t)),iv (if 20000<t.size then 2 else 0)]) H:=by
 refine Pu ?_;have hS:=aA5 hl;have hX:∀i,i∈(oD L).map Prod.fst↔i∈qB L:=λi=>(xN _).mem_iff.symm;have A:=Jw L hl hs (H:=[]) Z;have v:=zy t;have hwl:=El t;have hans:D3 L t=([((HQ (qB L) t).sent.map (oN (oD L))),mj qI (HQ (qB L) t).wants,mj BK (HQ (qB L) t).offers]:List (List B_)).flatten:=by rw[D3];simp
 have hrep:HQ (qB L) t=(xV t).foldl (BZ (qB L)) ⟨(vP t).foldl (oJ (qB L)) [],[],[]⟩:=rfl;have n:=λh H=>Eh t H h;have hof:=λh H=>zu t H h;generalize xV t=P at v hrep hof;generalize vP t=v_ at hwl hrep n;generalize qB L=A_ at hS hX A hans hrep;generalize oD L=o at hX A hans;have hXl:=hS.len;have hmV:(v_.map S_).length=v_.length:=j6 _;have hmP:(P.map dC).length=P.length:=j6 _;have x:qG A_ []:=⟨nodup_nil,λi D=>by cases D⟩;refine Bd func14 Z ntmps14<|O aI<|V aI<|S<|O aA<|Y (gE U_)<|V iP<|Cn ?_ ?_<;>intro K
 ·have q:20000<t.size:=I_ K
  rw[b7 q,b7 q];refine O aI<|V aI<|aC<|fP (H':=[]) (.inr Z) Z (aH Z) (aH Z) (P_ (r:=.tup [.pv (aL []),iv 2])) Qq
 have hsm:¬ 20000<t.size:=J_ K
 rw[a8 hsm,a8 hsm];have n:=λH=>n X H;have hof:=λH=>hof X H;refine aB<|O aA<|Y (kc call42 (A))<|Y (uZ (id:=720) JD Z Z)<|Y (oI aDG)<|Y (kb 718)<|V aI<|S<|S ?_;refine gG.ent (E':=[(1,sv t),(6,.ref 718 0 0 0)]) (H':=(721,⟨0,1,9,[]⟩)::(718,bx 6 84 [.pv (aL A_),.mp 710 0,.osl 721 0 0 0,.mp 720 0,.pv .nils,.pv .nils])::(720,T8 [])::(710,T8 (tM o))::[]) ?_ ?_
 ·exact (Q_ 721 1 9)
 refine gG.ent (E':=[(1,sv t),(6,.ref 718 0 0 0)]) (H':=(722,⟨0,1,22,[]⟩)::(721,⟨0,1,9,[]⟩)::(718,bx 6 84 [.pv (aL A_),.mp 710 0,.osl 721 0 0 0,.mp 720 0,.osl 722 0 0 0,.pv .nils])::(720,T8 [])::(710,T8 (tM o))::[]) ?_ ?_
 ·exact (Q_ 722 1 22)
 refine gG.ent (E':=[(1,sv t),(6,.ref 718 0 0 0)]) (H':=(723,⟨0,1,22,[]⟩)::(722,⟨0,1,22,[]⟩)::(721,⟨0,1,9,[]⟩)::(718,bx 6 84 [.pv (aL A_),.mp 710 0,.osl 721 0 0 0,.mp 720 0,.osl 722 0 0 0,.osl 723 0 0 0])::(720,T8 [])::(710,T8 (tM o))::[]) ?_ ?_
 ·exact (Q_ 723 1 22)
 refine Rd aA<|Y (kc call43 (n _))<|Y (fW aE)<|V aA<|aD<|bF (σ:=Nat) (λk=>([(1,sv t),(6,.ref 718 0 0 0),(20,.pv (aL v_)),(21,iv ((v_.map S_).length:Int)),(22,iv (k:Int))],UD A_ o ⟨(v_.take k).foldl (oJ A_) [],[],[]⟩)) (λk=>k<=v_.length) (λk=>v_.length - k) 0 (l7 _) ?_ ?_
 ·exact L_
 intro k hk;have m:=(qG.fold (v_.take k) [] x).len;refine Sz cJ<|S<|Cn ?_ ?_<;>intro E
 ·have z:k<v_.length:=I_ E
  have ⟨s,hk2⟩:=aS z;have D:=cE (f:=S_) hk2;have hnx:(v_.take (k+1)).foldl (oJ A_) []=oJ A_ ((v_.take k).foldl (oJ A_) []) s:=by rw[fF hk2,foldl_append];rfl
  generalize (v_.take k).foldl (oJ A_) []=f_ at m hnx |-;refine aB<|S<|aD<|O (iO bD)<|Y (fZ N_ (hi:=D))<|V aI<|Rd aA<|Y aA<|V (kc call44 (Wr (r:=⟨f_,[],[]⟩) hX (show f_.length<2^40 by omega) ⟨Z,Z,Z,Z,Z,Z,T_⟩))<|Rd gX<|V aA ?_;refine⟨k+1,X,X,?_⟩;dsimp only;rw[hnx];exact L_
 have y:k=v_.length:=J_ E
 subst y;rw[take_length];have m:=qG.fold v_ [] x;have ⟨G,F⟩:∃f_,f_=v_.foldl (oJ A_) []:=X_;rw[<-F]at m hrep |-;clear F;refine aP<|S<|O aA<|Y (kc call45 (hof _))<|Y (fW underlying86)<|V aA<|aD<|bF (σ:=Nat) (λk=>([(6,.ref 718 0 0 0),(31,.pv (CM P)),(32,iv ((P.map dC).length:Int)),(33,iv (k:Int))],UD A_ o ((P.take k).foldl (BZ A_) ⟨G,[],[]⟩))) (λk=>k<=P.length/\RepOk A_ k ((P.take k).foldl (BZ A_) ⟨G,[],[]⟩)) (λk=>P.length - k) 0 ⟨l7 _,⟨m,g_ _,g_ _,(λw hw=>by cases hw),(λw hw=>by cases hw)⟩⟩ ?_ ?_
 ·exact L_
 rintro k ⟨hk,B⟩;refine Sz cJ<|S<|Cn ?_ ?_<;>intro hc3
 ·have z:k<P.length:=I_ hc3
  have ⟨p,hk2⟩:=aS z;have D:=cE (f:=dC) hk2;have hgp:=v.2 p (m8 hk2);have hnx:(P.take (k+1)).foldl (BZ A_) ⟨G,[],[]⟩=BZ A_ ((P.take k).foldl (BZ A_) ⟨G,[],[]⟩) p:=by rw[fF hk2,foldl_append];rfl
  have hRn:=B.step hS hgp;have ⟨hr1,d_,c_,_,_⟩:=B;generalize (P.take k).foldl (BZ A_) ⟨G,[],[]⟩=r at hr1 d_ c_ hRn hnx |-;refine aB<|S<|aD<|O (iO Yn)<|Y (by exact fA Z iJ dT Z D x3 Z)<|Y (kl 10 Do)<|Uu (jA dT)<|Zz<|Rd aA<|Y u3<|V (kc call46 (Lw (r:=r) hX hS hgp hr1 X X ⟨Z,Z,Z,Z,Z,Z,T_⟩))<|Rd gX<|V aA ?_;refine⟨k+1,⟨X,by rw[hnx];exact hRn⟩,X,?_⟩;dsimp only;rw[hnx];exact L_
 have y:k=P.length:=J_ hc3
 subst y;rw[take_length]at B |-;rw[<-hrep]at B |-;rw[hans];clear hans hrep;generalize HQ A_ t=r at B |-;have ⟨hr1,d_,c_,hr4,hr5⟩:=B;have hrs:=hr1.len;have hpw:=λH=>Se r.wants X hr4 H;have hpo:=λH=>Sf r.offers X hr5 H;have hw1:=ud qI r.wants;have ho1:=ud BK r.offers;have hcc:=λH=>kT [r.sent.map (oN o),mj qI r.wants,mj BK r.offers] H (by decide:3<2^40) (by simp only[flatten_cons,flatten_nil,j_,length_nil,j6];omega);refine aP<|S ?_;refine gG.ent (cL.fzG (id:=721) (E':=[(6,.ref 718 0 0 0)]) (H':=[(718,bx 6 84 [.pv (aL A_),.mp 710 0,.pv (aL (r.sent.map (oN o))),.mp 720 0,.osl 722 r.wants.length 0 r.wants.length,.osl 723 r.offers.length 0 r.offers.length]),(710,T8 (tM o)),(720,T8 (sM r.sent)),(722,⟨r.wants.length,1,22,BN r.wants⟩),(723,⟨r.offers.length,1,22,BN r.offers⟩)]) ((r.sent.map (oN o)).map S_) Z (eT _) ?_ Z ?_ ?_) ?_
 ·intro p u;simp only[l9,q7,or_false]at u;rcases u with rfl;exact⟨_,Z,.same m3⟩
 ·exact⟨⟨_,Z,Z,Z,Z,lW Z (bC (.same H_) (bC (.same m3) (bC (.osl (kr o r.sent)) (bC (.same m3) (bC (.same m3) (bC (.same m3) kK))))))⟩,⟨_,Z,Z,Z,Z,eP (dQ _)⟩,⟨_,Z,Z,Z,Z,eP (dQ _)⟩,⟨_,Z,Z,Z,Z,eP (uC _)⟩,⟨_,Z,Z,Z,Z,eP (uC _)⟩,T_⟩
 ·exact T_
 refine gG.ent (cL.fzG (id:=722) (E':=[(6,.ref 718 0 0 0)]) (H':=[(718,bx 6 84 [.pv (aL A_),.mp 710 0,.pv (aL (r.sent.map (oN o))),.mp 720 0,.pv (sO r.wants),.osl 723 r.offers.length 0 r.offers.length]),(710,T8 (tM o)),(720,T8 (sM r.sent)),(723,⟨r.offers.length,1,22,BN r.offers⟩)]) (r.wants.map q_) Z (rT _) ?_ Z ?_ ?_) ?_
 ·intro p u;simp only[l9,q7,or_false]at u;rcases u with rfl;exact⟨_,Z,.same m3⟩
 ·exact⟨⟨_,Z,Z,Z,Z,lW Z (bC (.same H_) (bC (.same m3) (bC (.same H_) (bC (.same m3) (bC (.osl (P3 r.wants)) (bC (.same m3) kK))))))⟩,⟨_,Z,Z,Z,Z,eP (dQ _)⟩,⟨_,Z,Z,Z,Z,eP (dQ _)⟩,⟨_,Z,Z,Z,Z,eP (uC _)⟩,T_⟩
 ·exact T_
 refine gG.ent (cL.fzG (id:=723) (E':=[(6,.ref 718 0 0 0)]) (H':=[(718,bx 6 84 [.pv (aL A_),.mp 710 0,.pv (aL (r.sent.map (oN o))),.mp 720 0,.pv (sO r.wants),.pv (sO r.offers)]),(710,T8 (tM o)),(720,T8 (sM r.sent))]) (r.offers.map q_) Z (rT _) ?_ Z ?_ ?_) ?_
 ·intro p u;simp only[l9,q7,or_false]at u;rcases u with rfl;exact⟨_,Z,.same m3⟩
 ·exact⟨⟨_,Z,Z,Z,Z,lW Z (bC (.same H_) (bC (.same m3) (bC (.same H_) (bC (.same m3) (bC (.same H_) (bC (.osl (P3 r.offers)) kK))))))⟩,⟨_,Z,Z,Z,Z,eP (dQ _)⟩,⟨_,Z,Z,Z,Z,eP (dQ _)⟩,T_⟩
 ·exact T_
 exact aM a7<|Cq aA<|Cq sE<|Cq (bA pn)<|Cq (bQ aG)<|Cq aA<|Cq sE<|Cq (bA pk)<|Cq (bQ isAgg73)<|Cq (kc call48 (hpw _))<|Cq aA<|Cq sE<|Cq (bA S1)<|Cq (bQ isAgg73)<|Cq (kc call48 (hpo _))<|Cq (aK ([r.sent.map (oN o),mj qI r.wants,mj BK r.offers].map q_) Z GK Z Z Z Z Z (pT _))<|Cq (kc call47 (hcc _))<|Cq aI<|Cq aI<|bG<|Kr<|aC<|Ru<|Qq
end Go.Proofs.YtopnleflllkbmaaGreatDoor
namespace Go.Proofs.YtopnleflllkbmaaGreatDoor
open Go.Proofs.Tryz
open Go.Abs
variable{F:FuncId}
def wx(F:FuncId)(caps:List AV)(PR:List B_->Prop)(K:aF):Prop :=∀(yv:AV) (Hs:List B_->aF),(∀e_,Sub K (Hs e_))->(∀e_,(Hs e_).get 946=none)->(∀e_,dG (Hs e_))->(∀e_,Clo (Hs e_) yv) ->
  (∀e_ x,e_.length<2^40->dH Tryz.prog yv [sv x] (Hs e_) (λr H'=>r=bv true/\H'=Hs (e_++[x]))) ->
  (∀o e_ x,e_.length<2^40->dH Tryz.prog yv [sv x] ((946,o)::Hs e_) (λr H'=>r=bv true/\H'=(946,o)::Hs (e_++[x]))) ->
  aU Tryz.prog F (yv::caps) (Hs []) (λr H'=>r=.tup []/\∃e_,PR e_/\H'=Hs e_)
def Ol:cY:=[(2,.ref 942 0 0 0)]
def Pe(e_:List B_)(K:aF):aF:=(945,⟨e_.length,1,9,cB e_⟩)::(942,bx 1 22 [.osl 945 e_.length 0 e_.length])::K
theorem qu(e_)(s)(K:aF):Pe (e_++[s]) K=(945,⟨e_.length+1,1,9,cB (e_++[s])⟩)::(942,bx 1 22 [.osl 945 (e_.length+1) 0 (e_.length+1)])::K:=by simp[Pe]
theorem jv{e_}{K:aF}{x:Go.Loop}(h:dG K):dG ((944,LR x Ol)::Pe e_ K):=by refine dG.app (D:=[(944,LR x Ol),(945,⟨e_.length,1,9,cB e_⟩),(942,bx 1 22 _)]) ?_ h;refine DQ.spec ⟨nT (by simp[Ol];rfl),aV _ _,?_,T_⟩;intro r c a b;simp only[bx,r6]at c;subst c;rw[r6]at b;subst b;exact .osl Z
theorem ql{caps:List AV}{PR:List B_->Prop}(hE:∀(args:Array Value) (w:World),(callFunc F args).run Tryz.prog w=.ok (.enter F args) w)(K:aF)(hS:wx F caps PR K)(k2:K.get 942=none)(k4:K.get 944=none)(k5:K.get 945=none)(k6:K.get 946=none)(hc:dG K)(hcap:Clo K (.clo F caps)):
  aU Tryz.prog 129 [.pv .nils,.clo F caps] K (λr H'=>∃e_,PR e_/\r=.osl 945 e_.length 0 e_.length/\H'=(945,⟨e_.length,1,9,cB e_⟩)::K):=by
 have k2':aF.get ((945,⟨0,1,9,[]⟩)::K) 942=none:=k2;refine Bd func129 Z ntmps129<|TM (t:=0) (id:=945) (sz:=1) (ty:=9) Z k5 rfl<|XO (t:=0) Z Z Z (g_ _)<|O (by exact wL (id:=942) Z Z Z Z k2')<|V aI<|S<|Sz aA<|aD ?_;refine gG.ent (E':=[(2,.ref 942 0 0 0),(6,.clo F caps)]) (H':=Pe [] K) (cL.get' ⟨⟨_,Z,Z⟩,⟨_,Z,Z⟩,T_⟩ (λj=>mR (by decide) j))<|B4 (id:=944) (p:=7) Ol Z hE Z k4 (by simp[Ol];rfl) ?_;intro x hx1 hx2 hx3 hx4 hx5 hx6;refine(hS (.yld 944 0) (λe_=>(944,LR x Ol)::Pe e_ K) (λe_=>?_) (λe_=>k6) (λe_=>jv hc) (λe_=>by simp;rfl) ?_ ?_).mono ?_
 ·refine Sub.app (D:=[(944,LR x Ol),(945,⟨e_.length,1,9,cB e_⟩),(942,bx 1 22 [.osl 945 e_.length 0 e_.length])]) ?_;intro p hp;simp only[l9,q7,or_false]at hp;rcases hp with rfl|rfl|rfl
  ·exact k4
  ·exact k5
  exact k2
 ·intro e_ s hM;refine .inl ⟨944,0,Z,?_⟩;rw[qu];refine LJ [(2,.ref 942 0 0 0),(5,sv s)] (Pe e_ K) hx1 hx2 hx3 hx4 hx5 hx6 Z Z Z ?_ ?_
  ·refine Rg<|Da ?_;exact E0
  refine aD<|Rd (bQ aG)<|Y aA<|Y (by exact aK [[.str s]] Z bD Z Z Z Z Z R_)<|Y (by exact cA (ps:=[[.str s]]) Z bD yJ Z Z Z Z Z (eS _) Z R_ (m:=1) Z (by omega) Z (gO _ s))<|Uu (jA sizeOf22)<|Zz ?_;exact⟨(945,⟨e_.length+1,1,9,cB (e_++[s])⟩)::(942,bx 1 22 [.osl 945 (e_.length+1) 0 (e_.length+1)])::K,cL.get' T_ (λj=>fw [_,_,_] [_,_,_,_,_] (by repeat(first|exact trivial|refine⟨Z,?_⟩)) j),Z,Z⟩
 ·intro o e_ s hM;refine dH.congrG (H1:=(944,LR x Ol)::(946,o)::Pe e_ K) (K1:=(944,LR x Ol)::(946,o)::Pe (e_++[s]) K) (.inl ⟨944,0,Z,?_⟩) (λj=>mR (by decide) j) (λj=>mR (by decide) j);rw[qu];refine LJ [(2,.ref 942 0 0 0),(5,sv s)] ((946,o)::Pe e_ K) hx1 hx2 hx3 hx4 hx5 hx6 Z Z Z ?_ ?_
  ·refine Rg<|Da ?_;exact E0
  refine aD<|Rd (bQ aG)<|Y aA<|Y (by exact aK [[.str s]] Z bD Z Z Z Z Z R_)<|Y (by exact cA (ps:=[[.str s]]) Z bD yJ Z Z Z Z Z (eS _) Z R_ (m:=1) Z (by omega) Z (gO _ s))<|Uu (jA sizeOf22)<|Zz ?_;exact⟨(946,o)::(945,⟨e_.length+1,1,9,cB (e_++[s])⟩)::(942,bx 1 22 [.osl 945 (e_.length+1) 0 (e_.length+1)])::K,cL.get' T_ (λj=>fw [_,_,_,_] [_,_,_,_,_,_] (by repeat(first|exact trivial|refine⟨Z,?_⟩)) j),Z,Z⟩
 rintro r H' ⟨rfl,e_,hM,rfl⟩;refine⟨x,_,Z,by rw[hx1];decide,Z,λz=>?_⟩;rw[hx2];refine O (bQ aG)<|V aI<|aC ?_;refine cR (H':=((945,⟨e_.length,1,9,cB e_⟩)::K)) (.inr Z) Z (aH Z) (Fin.front' [(944,LR z Ol),(945,⟨e_.length,1,9,cB e_⟩),(942,bx 1 22 [.osl 945 e_.length 0 e_.length])] [(945,⟨e_.length,1,9,cB e_⟩)] (.osl Z) (by simp[k2,k4,aF.get]) (by intro p m;rw[List.mem_singleton]at m;subst m;rfl) (DQ.spec ⟨aV _ _,T_⟩) hc (by simp[k2,k4,aF.get])) ?_;exact⟨e_,hM,Z,Z⟩
theorem Lx{b:List AV}{d:List B_->Prop}(e:∀(args:Array Value) (w:World),(callFunc F args).run Tryz.prog w=.ok (.enter F args) w)(K:aF)(hS:wx F b d K)(k2:K.get 942=none)(h:K.get 944=none)(i:K.get 945=none)(f:K.get 946=none)(g:dG K)(c:Clo K (.clo F b)):
  aU Tryz.prog 75 [.clo F b] K (λr H'=>∃e_,d e_/\r=.osl 945 e_.length 0 e_.length/\H'=(945,⟨e_.length,1,9,cB e_⟩)::K):=by
 refine Bd func75 Z ntmps75<|Sz aI<|Sr<|Dm<|qn Z Z (JY Z Z call129 Z (ql e K hS k2 h i f g c)) ?_;rintro r H' ⟨e_,hM,rfl,rfl⟩;refine V aI<|aC<|cR (H':=((945,⟨e_.length,1,9,cB e_⟩)::K)) (.inr Z) Z (aH Z) Fin.refl ?_
 grind
theorem xi(l:List B_)(K:aF)(hl:l.length<2^40)(m:K.get 951=some (bx 1 22 [.pv (aL l)])):wx 77 [.ref 951 0 0 0] (λe_=>e_.Perm l) K:=by
 intro p f n h6 hcl hf h hy1;have o:∀e_,(f e_).get 951=some (bx 1 22 [.pv (aL l)]):=λe_=>n e_ _ _ m;have hml:(l.map S_).length=l.length:=j6 _;refine Bd func77 Z ntmps77<|O (aX Z aG Z (o []) Z Z Z)<|Y (fW aE)<|V aA<|aD<|bF (σ:=Nat) (λi=>([(0,p),(5,.pv (aL l)),(6,iv ((l.map S_).length:Int)),(7,iv (i:Int))],f (l.take i))) (λi=>i<=l.length) (λi=>l.length - i) 0 (l7 _) ?_ ?_
 ·exact E0
 rintro i hi;refine Sz cJ<|S<|Cn ?_ ?_<;>intro c
 ·have g:i<l.length:=I_ c
  have ⟨s,k⟩:=aS g;have his:=cE (f:=S_) k;have d:=h (l.take i) s (by rw[q9];omega);rw[<-fF k]at d;refine aB<|S<|aD<|O (iO bD)<|Y (fZ N_)<|V aI<|O aA<|Y aA<|Y (dA Z Z Z (d))<|V iI<|Cn ?_ ?_<;>intro e
  ·cases e
  refine aB<|Rd gX<|V aA ?_;exact⟨i+1,X,X,E0⟩
 have j:i=l.length:=J_ c
 subst j;refine aP ?_;exact oT (H':=f (l.take l.length)) (.inl Z) Z Fin.refl ⟨Z,_,by rw[take_length],Z⟩
theorem Qk{c:List AV}{L:List B_}(hL:L.length<2^40)(f:∀(args:Array Value) (w:World),(callFunc F args).run Tryz.prog w=.ok (.enter F args) w)(K:aF)(hS:wx F c (λe_=>e_.Perm L) K)(k2:K.get 942=none)(g:K.get 944=none)(k:K.get 945=none)(i:K.get 946=none)(h:dG K)(d:Clo K (.clo F c)):
  aU Tryz.prog 32 [.clo F c] K (λr H'=>r=.osl 945 L.length 0 L.length/\H'=(945,⟨L.length,1,9,fE (jG L)⟩)::K):=by
 refine Bd func32 Z ntmps32<|Sz aI<|Sr<|Dm<|qn Z Z (bH Z Z call75 Z (Lx f K hS k2 g k i h d)) ?_;rintro r H' ⟨e_,b,rfl,rfl⟩;have e:e_.length<2^62:=by rw[b.length_eq];omega
 have hSo:=Ft b;have hln:e_.length=L.length:=b.length_eq;refine V aI<|O aA<|V (kc call76 (xz e_ Z Z e))<|O aA<|V aI<|aC ?_;refine cR (H':=((945,⟨e_.length,1,9,fE (jG e_)⟩)::K)) (.inr Z) Z (aH Z) (Fin.get' (λj=>wV _ _ _ _ j)) ?_
 simp_all
end Go.Proofs.YtopnleflllkbmaaGreatDoor
namespace Go.Proofs.YtopnleflllkbmaaGreatDoor
open Go.Proofs.Tryz
open Go.Abs Go.Lib
variable{l:List B_}{t i:B_}
abbrev Pq(P:List B_):Ob:=bx 1 22 [.pv (aL P)]
theorem xh(P:List B_)(H:aF)(b:H.get 951=none):
  aU Tryz.prog 33 [.pv (aL P)] H (λr H'=>r=.clo 77 [.ref 951 0 0 0]/\H'=(951,Pq P)::H):=by
 refine Bd func33 Z ntmps33<|O (wL (id:=951) Z Z Z Z b)<|V aI<|O (gW Z Z)<|V aI<|aC<|cR (H':=((951,Pq P)::H)) (.inr Z) Z (aH Z) Fin.refl Qq
def Cz(i:Nat):Nat:=if i=901 then 945 else if i=945 then 901 else i
theorem Py(i:Nat):Cz (Cz i)=i:=by
 unfold Cz
 grind
abbrev jm(g:Nat)(l:List B_):Ob:=⟨g,1,9,tN l⟩
theorem YM(ρ:Nat->Nat)(g:Nat)(l:List B_):wI ρ (jm g l)=jm g l:=by
 show (⟨g,1,9,(tN l).map (BC ρ)⟩:Ob)=_;have:∀r∈tN l,BC ρ r=r:=by
  intro r a;obtain ⟨s,_,rfl⟩:=mem_map.1 a;rfl
 rw[map_congr_left this,map_id']
theorem xp(H:aF)(l):∀r∈tN l,∀a∈r,Clo H a:=F_
instance(H:aF)(l):W_ (H) (tN l):=⟨xp H l⟩
theorem qe(L:List B_)(g:Nat)(H:aF)(d:H.get 945=some (jm g L))(f:L.length<2^40):
  aU Tryz.prog 31 [.osl 945 g 0 L.length] H (λr H'=>r=.osl 945 g 0 (fN L).length/\H'=[(945,jm g (fN L++List.replicate (L.length - (fN L).length) a6)),(945,jm g L)]++H):=by
 have j:=XJ L g [(901,jm g L)] Z f;have c:HR Cz [(901,jm g L)]=[(945,jm g L)]:=by
  show [(Cz 901,wI Cz (jm g L))]=_;rw[YM];rfl
 have i:HR Cz [(901,jm g (fN L++List.replicate (L.length - (fN L).length) a6)),(901,jm g L)]=[(945,jm g (fN L++List.replicate (L.length - (fN L).length) a6)),(945,jm g L)]:=by
  show [(Cz 901,wI Cz (jm g (fN L++List.replicate (L.length - (fN L).length) a6))),(Cz 901,wI Cz (jm g L))]=_;rw[YM,YM];rfl
 have k:=aU.ren (ρ:=Cz) Py j (args':=[.osl 945 g 0 L.length]) (r':=.osl 945 g 0 (fN L).length) Z c Z i;refine k.frame (HN.sub ⟨d,T_⟩) (dG.of (λp b=>by
  rw[r6]at b;subst b;exact xp _ _)) m3 (λid h=>.inl ?_)
 simp only[aF.get]at h |-;cases e:Nat.beq 945 id with
 |true=>rfl
 |false=>rw[e]at h;cases h
theorem yc(l:List B_):(jG l).Pairwise (λa b=>lA b a=false):=by
 rw[jG,pairwise_map];refine(pairwise_mergeSort (le:=λ(x y:List UInt8)=>decide (x<=y)) (λa b c e f=>?_) (λa b=>NJ a b) (l.map sb)).imp fun {a b} d=>?_
 ·rw[j0]at *;exact List.le_trans e f
 rw[j0]at d;rw[CK,p_];exact λh=>absurd d (List.not_le.2 h)
def JX(l:List B_):List B_:=fN (jG l)
theorem ee{l}{x}:x∈JX l↔x∈l:=FG.trans (xN l).mem_iff
theorem eb(l):EF (JX l):=KX (yc l)
theorem Jc(l):(JX l).length<=l.length:=by have a:=W2 (jG l);rw[kC]at a;exact a
theorem Sv(P R):(((JX P++R).map S_).take (0+(JX P).length)).drop 0=(JX P).map S_:=F_
theorem WE{l}(h:EF l):JX l=l:=X6 _ _ (eb l) h λx=>ee
def R2(ids:List B_):B_:=if ids.all m6=true then kG (JX ids)else a6
def R3(ids:List B_):Int:=if ids.all m6=true then 0 else 1
theorem Jl(t:B_)(b:t.size<2^40)(H:aF):RC 29 [sv t] (bv (oddJ t)) H:=by refine Pu ?_;exact Bd func29 Z ntmps29<|Sz aI<|O aA<|Y (kc call30 (WY t b _))<|Y iI<|V aI<|aC<|Rt<|Qq
theorem R1(a:List B_)(H:aF)(w:a.length<1000000)(d:∀t∈a,t.size<2^40):RC 12 [.pv (aL a)] (.tup [sv (R2 a),iv (R3 a)]) H:=by
 refine Pu ?_;have v:=λH=>DH 29 a oddJ X (λs z=>dH.fn call29 (Jl s (d s z) [])) H;rw[K4]at v;rw[R2,R3];refine Bd func12 Z ntmps12<|O aI<|V aI<|S<|O aA<|V (kc call28 (v _))<|Cn ?_ ?_<;>intro f
 ·have i:a.all m6=false:=not_not f;rw[a8 (by rw[i];decide),a8 (by rw[i];decide)];refine O aI<|V aI<|aC<|fP (H':=[]) (.inr Z) Z (aH Z) (aH Z) (P_ (r:=.tup [.pv (.str a6),iv 1])) Qq
 have c:a.all m6=true:=pO f;rw[b7 c,b7 c];have hS:IdS (JX a):=⟨eb a,λx y=>all_eq_true.1 c x (ee.1 y),Nat.lt_of_le_of_lt (Jc a) w⟩;have k:=Qk (L:=a) X call77 ((951,Pq a)::[]) (xi a _ X Z) Z Z Z Z (dG.ofL ⟨y4,T_⟩) m3;have q:=xF hS.srt hS.dig (p:=a6) E_ hS.len;have n:=vt q;have j:=ga q;have l:=λH=>dk (JX a) a6 H hS E_;have g:=λH=>M2 (eG (JX a) a6) H (by have:=q.cnt;omega) (by rw[iS,j_]at n;omega);have ⟨F,e⟩:∃F,F=iS (eG (JX a) a6):=X_;have o:=λH=>ui [F] H (by decide:1<2^40) (by simp only[flatten_cons,flatten_nil,append_nil];rw[e];omega) (Nat.lt_of_le_of_lt (xZ _ λs d=>by
  simp only[flatten_cons,flatten_nil,append_nil]at d;rcases l9.1 d with rfl|d
  ·decide
  rcases l9.1 d with rfl|d
  ·exact(by decide +kernel:(aT ((1:Nat):Int)).size<=16)
  rw[e]at d;exact j s d) (by simp only[flatten_cons,flatten_nil,append_nil,j7];rw[e];omega))
 rw[kG,<-e];rw[<-e]at g;refine aB<|O aA<|Y (kc call33 (xh a _ Z))<|Y (kc call32 (k))<|Y (kc call31 (by have h:=qe (jG a) a.length ((945,jm a.length (jG a))::(951,Pq a)::[]) Z (by rw[kC];omega);rw[kC]at h;exact h))<|V aI<|S ?_;refine gG.ent (cL.fzG (id:=945) (E':=[(4,.pv (aL (JX a)))]) (H':=[]) ((JX a++List.replicate (a.length - (fN (jG a)).length) a6).map S_) Z (by rw[map_map];rfl) ?_ Z T_ T_) ?_
 ·intro p u;rw[r6]at u;subst u;exact⟨_,Z,.osl (Sv a _)⟩
 exact Rd aA<|Y (kc call35 (l _))<|Y (kc call36 (g _))<|Y (aK ([F].map q_) Z GK Z Z Z Z Z (pT _))<|Y (kc call34 (o _))<|Y aI<|V aI<|aC<|Ru<|Qq
theorem ym(a b:List B_)(H:aF)(ha:a.length<1000000000)(hb:b.length<1000000000):RC 16 [.pv (aL a),.pv (aL b)] (bv (decide (a=b))) H:=by
 refine Pu ?_;have hma:(a.map S_).length=a.length:=j6 _;have hmb:(b.map S_).length=b.length:=j6 _;refine Bd func16 Z ntmps16<|Sz aI<|S<|O aA<|Y (fW aE)<|Y aA<|Y (fW aE)<|V zB<|Cn ?_ ?_<;>intro g
 ·have m:¬ a.length=b.length:=by have h:=g;simp at h;omega
  have p:decide (a=b)=false:=decide_eq_false λe=>m (by rw[e]);rw[p];exact Sz aI<|aC<|Rt<|Qq
 have m:a.length=b.length:=by have h:=g;simp at h;omega
 refine aB<|S<|Sz aI<|aD<|bF (σ:=Nat) (λk=>([(0,.pv (aL a)),(1,.pv (aL b)),(5,iv (k:Int))],[])) (λk=>k<=a.length/\a.take k=b.take k) (λk=>a.length - k) 0 ⟨l7 _,Z⟩ ?_ ?_
 ·exact Wk
 rintro k ⟨hk,s⟩;refine S<|O aA<|Y aA<|Y (fW aE)<|V cJ<|Cn ?_ ?_<;>intro f
 ·have o:k<a.length:=I_ f
  have ⟨x,l⟩:=aS o;have ⟨y,n⟩:=aS (l:=b) (k:=k) X;have hix:=cE (f:=S_) l;have hiy:=cE (f:=S_) n;refine aB<|S<|aD<|S<|aM a7<|Cq aA<|Cq aA<|Cq (iO bD)<|Cq (fZ N_)<|Cq aA<|Cq aA<|Cq (iO bD)<|Cq (fZ N_)<|Cq DZ<|bG<|Kr<|Cn ?_ ?_<;>intro j
  ·have q:¬ x=y:=by have h:=j;simpa using h
   have p:decide (a=b)=false:=decide_eq_false λe=>q (by rw[e,n]at l;cases l;rfl);rw[p];exact Sz aI<|aC<|Rt<|Qq
  have u:x=y:=by have h:=j;simpa using h
  refine aB<|Rd aA<|Y gX<|Da ?_;refine⟨k+1,⟨X,?_⟩,X,Wk⟩;rw[fF l,fF n,s,u]
 have i:k=a.length:=J_ f
 have t:decide (a=b)=true:=decide_eq_true (by
  rw[<-take_length (l:=a),<-i,s,i,m,take_length])
 rw[t];exact aP<|Sz aI<|aC<|Rt<|Qq
def N8(l:List B_):Nat:=(l.map ByteArray.size).sum
theorem xn{k:Nat}{s:B_}(h:l[k]?=some s):N8 (l.take (k+1))=N8 (l.take k)+s.size:=by rw[fF h,N8,map_append,sum_append];rfl
theorem Pz{m:Nat}(h:∀s∈l,s.size<=m)(k:Nat):N8 (l.take k)<=l.length*m:=by
 have d:∀(l:List B_),(∀s∈l,s.size<=m)->N8 l<=l.length*m:=by
  intro l
  induction l with
  |nil=>exact λ_=>l7 _
  |cons a l c =>
   intro h;have h1:=h a mem_cons_self;have:=c λs b=>h s (mem_cons_of_mem _ b);show a.size+N8 l<=(l.length+1)*m
   grind
 exact Nat.le_trans (d _ λs b=>h s (mem_of_mem_take b)) (mul_le_mul_right _ (by rw[q9];omega))
def Aw(l:List B_)(n:Int):Bool:=decide (((l.map S_).length:Int)<=n)&&decide ((N8 l:Int)<=20000)
theorem aDA(l:List B_)(n:Int)(H:aF)(j:l.length<=1048576)(i:∀s∈l,s.size<=1048576):RC 10 [.pv (aL l),iv n] (bv (Aw l n)) H:=by
 refine Pu ?_;have hml:(l.map S_).length=l.length:=j6 _;have b:=Pz i;have hmul:l.length*1048576<=1048576*1048576:=mul_le_mul_right _ j;refine Bd func10 Z ntmps10<|Sz aI<|Sz aI<|S<|Sz aI<|aD<|bF (σ:=Nat) (λk=>([(0,.pv (aL l)),(1,iv n),(5,iv (N8 (l.take k):Int)),(6,iv (k:Int))],[])) (λk=>k<=l.length) (λk=>l.length - k) 0 (l7 _) ?_ ?_
 ·exact Wk
 intro k hk;have hsk:=b k;refine S<|O aA<|Y aA<|Y (fW aE)<|V cJ<|Cn ?_ ?_<;>intro e
 ·have g:k<l.length:=I_ e
  have ⟨s,c⟩:=aS g;have h:=cE (f:=S_) c;have hnx:=xn c;have hsk1:=b (k+1);refine aB<|S<|aD<|Rd aA<|Y aA<|Y aA<|Y (kx bD h)<|Y (fZ N_ (hi:=h))<|Y (gE U_)<|Y (by exact dB Z Z Z (show IntKind.i64.wrap ((N8 (l.take k):Int)+(s.size:Int))=((N8 (l.take (k+1)):Nat):Int)by rw[mE X X];omega))<|V aI<|Rd aA<|Y kp<|Da ?_;exact⟨k+1,X,X,Wk⟩
 have f:k=l.length:=J_ e
 subst f;rw[take_length];refine aP<|S<|aQ (t:=4) (n:=10) (A_:=Aw l n) ?_ ?_
 ·all_goals refine Y aA<|Y (fW aE)<|Y aA<|Y G8<|Dm ?_<;>(refine Sp 24 (λd=>?_) λd=>?_)<;>(try exact w_)<;>(first|refine M<|M ?_|refine U aA<|U G8 ?_)<;>refine Y cC<|Da ?_<;>exact Gj (h:=by rw[Aw];(rw[d];rfl))
 exact aC<|Rt<|Qq
theorem Lk(h:Aw l 40=true):l.length<=40/\∀s∈l,s.size<=20000:=by
 rw[Aw,k_,j0,j0,j6]at h;refine⟨X,λs b=>?_⟩;have c:∀(l:List B_),∀s∈l,s.size<=N8 l:=by
  intro l
  induction l with
  |nil=>simp_all
  |cons a l ih =>
   intro s b;show s.size<=a.size+N8 l
   grind
 have:=c l s b;omega
def Qw:B_:=⟨#[115,101,99,114,101,116]⟩
def r0W:j8:=⟨5,0,1,1,⟨#[109,97,105,110]⟩,[],[],a6,false,0,a6,zS,⟨a6,a6,[],[],zS⟩⟩
theorem aAR:(NS r0W Qw 1).2=0:=by kernel_rfl
theorem aAT:∃x,NS r0W Qw 1=(x,0):=by have h:=aAR;generalize NS r0W Qw 1=y at *;exact⟨y.1,Prod.ext Z h⟩
theorem aCc:nF r0W:=by have b:qC 0:=⟨E_,H_⟩;have a:qC 1:=⟨E_,E_⟩;exact⟨⟨⟨E_,E_⟩,b,a,a,b⟩,⟨E_,E_,E_⟩,⟨E_,λt h=>by cases h⟩,⟨E_,λt h=>by cases h⟩,okZ,E_,E_,⟨E_,λt h=>by cases h⟩,E_,okZ⟩
theorem Gv:∃t i,IB t=some i/\∀H,RC 27 [] (.tup [sv t,sv i]) H:=by have ⟨x,g⟩:=aAT;have e:=Tv g;have b:=MB (aN (jJ x));rw[e.parse]at b;have c:=λH=>aAS r0W Qw 1 aCc E_ E_ H;rw[g]at c;have d:=λH=>X4 x b.1 b.2 H;rw[e.text]at d;have f:=λH=>vl x b.1 b.2 H;refine⟨a_ (aN (jJ x)),MU x,by rw[IB,cG,e.parse];rfl,λH=>?_⟩;generalize a_ (aN (jJ x))=t at *;generalize MU x=i at *;clear g e b;refine Pu ?_;exact Bd func27 Z ntmps27<|O aI<|V aI<|O (oI TH)<|Y (kc call71 (c _))<|Y aA<|Y dK<|Y dK<|Y (kl 2 jw)<|Uu (jA bL)<|V aI<|O (wQ cT bL)<|Y (kc call72 (d _))<|Y aA<|Y dK<|Y dK<|Y aI<|V aI<|O aA<|Y (wQ cT bL)<|Y (kc call55 (f _))<|Y aI<|V aI<|aC<|Ru<|Qq
theorem ZO{t i}(hi:IB t=some i):qB [t]=[i]:=by
 have h:oD [t]=[(i,t)]:=by
  show mI _ t=_;rw[mI,hi];rfl
 refine X6 _ _ (BS _) (pairwise_singleton _ _) λx=>?_;rw[qB,(xN _).mem_iff,h];rfl
theorem eu{t i}(hi:IB t=some i):oN (oD [t]) i=t:=by
 have h:oD [t]=[(i,t)]:=by
  show mI _ t=_;rw[mI,hi];rfl
 rw[h,oN,find?_cons,decide_eq_true rfl];rfl
theorem vm{i}(hi:m6 i=true):IdS [i]:=⟨pairwise_singleton _ _,(λx hx=>by simp_all),H_⟩
theorem ZP:IdS []:=⟨List.Pairwise.nil,(λx a=>by cases a),H_⟩
theorem tg{A_ y_:List B_}(a:IdS A_):HQ y_ (kG A_)=BZ y_ ⟨[],[],[]⟩ (eG A_ a6):=by rw[HQ,HZ a.srt a.dig a.len,show vP (kG A_)=[]from bg [eG A_ a6] (λp b=>by rw[r6]at b;subst b;exact xF a.srt a.dig E_ a.len) (show 1<1000000 by decide)];rfl
theorem aDV:D3 [] (kG [])=[]:=by
 have:=vv _ [] (λt=>Iff.rfl) H_
 rwa [vj]at this
theorem aDU(hi:IB t=some i):D3 [t] (kG [])=[t]:=by rw[D3,ZO hi,tg ZP,BZ,b7 (show (eG [] a6).cnt<=16 by decide)];show List.map _ (((kE [i] a6).filter λi=>!decide (i∈(eG [] a6).ids)).foldl (oJ [i]) [])++(mj qI _++mj BK [])=_;rw[td,show (eG [] a6).ids=[]from rfl];simp only[filter_cons,filter_nil,q7,decide_false,Bool.not_false,if_true,foldl_cons,foldl_nil];rw[oJ,b7 H_];show [oN (oD [t]) i]++_=_;rw[eu hi];rfl
theorem aDT(a:m6 i=true):D3 [] (kG [i])=[qI [[i]]]:=by rw[D3,vj,tg (vm a),BZ,b7 (show (eG [i] a6).cnt<=16 by show (kE [i] a6).length<=16;rw[td];simp_all)];rfl
theorem aDS(hi:IB t=some i):D3 [t] (qI [[i]])=[t]:=by rw[D3,ZO hi,show qI [[i]]=qI ([i].map λs=>[s])from Z,Hd (λs a=>by rw[r6]at a;rw[a];exact Kv hi) H_];show List.map _ (oJ [i] [] i)++_=_;rw[oJ,b7 H_];show [oN (oD [t]) i]++_=_;rw[eu hi];rfl
theorem aDR(hi:IB t=some i):D3 [t] (kG [i])=[]:=by rw[<-ZO hi];exact vv [t] [t] (λt=>Iff.rfl) (r_ Z)
theorem EQ{A_}(a:IdS A_):¬ 20000<(kG A_).size:=Nat.not_lt.2 (Tb (xF a.srt a.dig E_ a.len))
theorem aAc(H:aF):RC 9 [] (bv true) H:=by
 refine Pu ?_;have ⟨t,i,hid,j⟩:=Gv;have hJ:=Kv hid;have B:t.size<=20000:=by have ⟨r,_,h⟩:=VT hid;exact h
 have c:=vm hJ;have k:∀H,RC 12 [.pv (aL [])] (.tup [sv (kG []),iv 0]) H:=λH=>by
  have:=R1 [] H E_ (λt h=>by cases h);have e:([]:List B_).all m6=true:=rfl
  rwa [R2,R3,b7 e,b7 e,WE List.Pairwise.nil]at this
 have v:∀H,RC 12 [.pv (aL [i])] (.tup [sv (kG [i]),iv 0]) H:=λH=>by
  have:=R1 [i] H (r_ Z) (λt h=>by rw[r6]at h;rw[h,jY hJ];decide);have e:[i].all m6=true:=F_
  rwa [R2,R3,b7 e,b7 e,WE c.srt]at this
 have D:∀H,RC 12 [.pv (aL [⟨#[120]⟩])] (.tup [sv a6,iv 1]) H:=λH=>by
  have:=R1 [⟨#[120]⟩] H E_ (λt h=>by rw[r6]at h;rw[h];decide)
  rwa [R2,R3,a8 E_,a8 E_]at this
 have hA:∀(L:List B_) (t:B_) (R:List B_),L.length<=1->(∀s∈L,s.size<=20000)->¬ 20000<t.size->D3 L t=R->∀H,RC 14 [.pv (aL L),sv t] (.tup [.pv (aL R),iv 0]) H:=λL t R c_ G E F H=>by
  have:=ix L t H X (λt I=>by have:=G t I;omega)
  rwa [a8 E,a8 E,F]at this
 have y:∀s∈([]:List B_),s.size<=20000:=λs h=>by cases h
 have w:∀s∈[t],s.size<=20000:=λs h=>by rw[r6]at h;rw[h];exact B
 have l:=hA [] (kG []) _ E_ y (EQ ZP) aDV;have n:=hA [t] (kG []) _ (r_ Z) w (EQ ZP) (aDU hid);have d:=hA [] (kG [i]) _ E_ y (EQ c) (aDT hJ);have u:=hA [t] (qI [[i]]) _ (r_ Z) w (Nat.not_lt.2 (Ei hJ)) (aDS hid);have o:=hA [t] (kG [i]) _ (r_ Z) w (EQ c) (aDR hid);have d_:∀H,RC 17 [sv t] (.pv (aL [t])) H:=λH=>by
  have:=X3 t H X
  rwa [hid]at this
 have f:∀H,RC 17 [sv (kG [i])] (.pv (aL [])) H:=λH=>by
  have c_:=EQ c;have:=X3 (kG [i]) H X;have e:IB (kG [i])=none:=Uk (P:=[eG [i] a6]) (HZ c.srt c.dig c.len) H_
  rwa [e]at this
 have hS:∀H,RC 16 [.pv (aL [t]),.pv (aL [t])] (bv true) H:=λH=>by
  have:=ym [t] [t] H (r_ Z) (r_ Z)
  rwa [decide_eq_true rfl]at this
 have ⟨m0,g⟩:∃m,m=kG []:=X_;have ⟨m1,p⟩:∃m,m=kG [i]:=X_;have ⟨x,q⟩:∃m,m=qI [[i]]:=X_;rw[<-g]at k l n;rw[<-p]at v d o f;rw[<-q]at d u;clear g p q hA w y c;refine Bd func9 Z ntmps9<|Sz aI<|O (kc call27 (j _))<|Y aA<|Y dK<|Y dK<|Y aI<|V aI<|O (kc call12 (k _))<|Y aA<|Y dK<|Y dK<|Y aI<|V aI<|O aA<|Y (aK ([i].map S_) Z bD Z Z Z Z Z (fY _))<|Y (kc call12 (v _))<|Y aA<|Y dK<|Y dK<|Y aI<|V aI<|O aA<|Y (kc call14 (l _))<|Y aA<|Y dK<|Y dK<|Y aI<|V aI<|O aA<|Y (aK ([t].map S_) Z bD Z Z Z Z Z (fY _))<|Y aA<|Y (kc call14 (n _))<|Y aA<|Y dK<|Y dK<|Y aI<|V aI<|O aA<|Y (kc call14 (d _))<|Y aA<|Y dK<|Y dK<|Y aI<|Y aI<|Zz<|O (aK ([⟨#[120]⟩].map S_) Z bD Z Z Z Z Z (fY _))<|Y (kc call12 (D _))<|Y aA<|Y dK<|Y dK<|Y aI<|V aI<|S<|O aA<|Y (fW aE)<|V (cN.val (J2 Z Z Z) (x6))<|Cn ?_ ?_<;>intro A
 ·cases A
 refine aB<|O aA<|Y (aK ([t].map S_) Z bD Z Z Z Z Z (fY _))<|Y aA<|Y (bU Z bD Z Z X (l_ _) (show ([x].map S_)[0]?=some (S_ x)from Z) Z)<|Y (dV Z N_ Z (show ([x].map S_)[0]?=some (S_ x)from Z) Z)<|Y (kc call14 (u _))<|Y aA<|Y dK<|Y dK<|Y aI<|V aI<|O aA<|Y (aK ([t].map S_) Z bD Z Z Z Z Z (fY _))<|Y aA<|Y (kc call14 (o _))<|Y aA<|Y dK<|Y dK<|Y aI<|V aI<|O aA<|Y cD<|Y aA<|U aA<|U cD<|Y cC<|Y aA<|U aA<|U cD<|Y cC<|Y aA<|U aA<|U (fW aE)<|U cD<|Y cC<|Y aA<|U aA<|U cD<|Y cC<|Y aA<|U aA<|U aA<|U (aK ([t].map S_) Z bD Z Z Z Z Z (fY _)) ?_;exact U (kc call16 (hS _))<|Y cC<|Y aA<|U aA<|U cD<|Y cC<|Y aA<|U aA<|U cD<|Y cC<|Y aA<|U aA<|U cD<|Y cC<|Y aA<|U aA<|U (fW aE)<|U cD<|Y cC<|V aI<|O aA<|Y aA<|U aA<|U cD<|Y cC<|Y aA<|U aA<|U aA<|U (aK ([t].map S_) Z bD Z Z Z Z Z (fY _))<|U (kc call16 (hS _))<|Y cC<|Y aA<|U aA<|U (kc call17 (d_ _))<|U aA<|U (aK ([t].map S_) Z bD Z Z Z Z Z (fY _))<|U (kc call16 (hS _))<|Y cC<|Y aA<|U aA<|U (kc call17 (f _))<|U (fW aE)<|U cD<|Y cC<|V aI<|aC<|Rt<|Qq
theorem aA6(h:(dZ t.data.toList).2=0):IB t=some (MU (dZ t.data.toList).1):=by rw[IB,b7 h]
theorem aA7(h:¬ (dZ t.data.toList).2=0):IB t=none:=by rw[IB,a8 h]
theorem T9(L:List B_)(t:B_)(H:aF)(hl:L.length<=1048576)(hs:∀s∈L,s.size<=1048576)(ht:t.size<=1048576):
  RC 7 [.pv (aL L),sv t] (bv true) H:=by
 refine Pu ?_;have hfe:=λH=>aDA L 40 H hl hs;have hyes:=Lk (l:=L);generalize Aw L 40=f at hfe hyes;have ⟨A_,hX⟩:∃A_,A_=(!f||decide ((21000:Int)<(t.size:Int))):=X_;refine Bd func7 Z ntmps7<|Sz aI<|O (kc call9 (aAc _))<|V aI<|S<|S<|aQ (t:=23) (n:=9) (A_:=A_) ?_ ?_
 ·all_goals refine Y aA<|Y (kc call10 (hfe _))<|Y iI<|Dm ?_<;>(refine Sp 19 (λh19=>?_) λh19=>?_)<;>(try exact w_)<;>(first|refine M<|M<|M ?_|refine U aA<|U (gE U_)<|U iP ?_)<;>refine V cC ?_<;>exact Gj (h:=by rw[hX];(rw[h19];rfl))
 refine Cn ?_ ?_<;>intro hc1
 ·exact O aA<|V aI<|aC<|Rt<|Qq
 have hXf:=hX.symm.trans hc1;rw[q8,Bool.not_eq_false',p_]at hXf;have ⟨x1,x2⟩:=hXf;have ⟨h40,hsz⟩:=hyes x1;clear hyes hfe hX x1;have hpr:=λH=>zg t H X;have hwn:=λH=>jz t H X;have han:=λH=>ix L t H X (λs h=>by have:=hs s h;omega);have htx:=λH=>X3 t H X;have hpa:=λH=>lz t.data.toList z6 H;rw[fQ,pg]at hpa;have hokx:=MB t.data.toList;have hid1:=aA6 (t:=t);have hid2:=aA7 (t:=t);generalize dZ t.data.toList=G at hpa hokx hid1 hid2;have ⟨T,hT⟩:∃T,T=if(IB t).isSome=true then[t]else[]:=X_
 rw[<-hT]at htx;have hT1:decide (G.2=0)=decide (((T.map S_).length:Int)=1):=by
  by_cases h:G.2=0
  ·rw[decide_eq_true h,hT,hid1 h];rfl
  rw[decide_eq_false h,hT,hid2 h];rfl
 have hTg:((T.map S_).length:Int)=1->(T.map S_)[0]?=some (S_ t):=λh=>by
  rw[hT]at h |-
  split at h
  ·rw[b7 (by assumption)];rfl
  cases h
 have hp2:=(ml t).1;have hfin:(uB t).2=false->decide (vP t≠[])=false->D3 L t=[]:=λh1 h2=>by
  rw[hp2]at h1;exact As L (by simpa using h1) (by simpa using h2)
 clear hp2;generalize uB t=P at hpr hfin;generalize decide (vP t≠[])=w at hwn hfin;clear hid1 hid2;have ⟨A,hA⟩:∃A,A=if 20000<t.size then[]else D3 L t:=X_
 have ⟨E,hE⟩:∃E,E=if 20000<t.size then(2:Int)else 0:=X_;rw[<-hA,<-hE]at han;have hA2:P.2=false->w=false->((A.map S_).length:Int)=0:=λh1 h2=>by
  rw[hA,hfin h1 h2,ite_self];rfl
 have hE2:decide (E=2)=decide ((20000:Int)<(t.size:Int)):=by
  by_cases h:20000<t.size
  ·rw[hE,b7 h,decide_eq_true Z,decide_eq_true X]
  rw[hE,a8 h,decide_eq_false (p:=(20000:Int)<(t.size:Int)) X];rfl
 have ⟨o,p⟩:=P;simp only at hpr hA2;clear hfin hA hE;refine aB<|O aA<|Y (kc call23 (hpr _))<|Y aA<|Y dK<|Y dK<|Y aI<|V aI<|O aA<|Y (kc call24 (hwn _))<|Y aA<|Y dK<|Y dK<|Y aI<|V aI<|O aA<|Y aA<|Y (kc call14 (han _))<|Y aA<|Y dK<|Y dK<|Y aI<|V aI<|O aA<|Y (kc call25 (hpa _))<|Y aA<|Y dK<|Y dK<|Y (kl 12 jw)<|Uu (jA bL)<|V aI<|O aA<|Y (kc call17 (htx _))<|V aI<|S<|S<|aQ (t:=65) (n:=20) (A_:=false) ?_ ?_
 ·all_goals refine Y aA<|Y cD<|Y aA<|Y (fW aE)<|Y cD<|Y (Jh Z eH Z Z)<|Dm ?_<;>(refine Sp 54 (λh54=>?_) λh54=>?_)<;>(try exact w_)<;>(first|refine M<|M<|M<|M ?_|refine U aA<|U (fW aE)<|U cD<|U aA ?_)<;>(first|refine Sp 58 (λh58=>?_) λh58=>?_|refine jS (t:=58) Z ?_)<;>(try exact w_)<;>(first|refine M ?_|refine Fu ?_|refine U aA ?_)<;>(first|refine M ?_|refine Fu ?_|refine U (bU Z bD Z Z X (l_ _) (hTg (b9 h58)) Z) ?_)<;>(first|refine M ?_|refine Fu ?_|refine U (dV Z N_ Z (hTg (b9 h58)) Z) ?_)<;>(first|refine M ?_|refine Fu ?_|refine U aA ?_)<;>(first|refine M ?_|refine Fu ?_|refine U DZ ?_)<;>(first|refine M ?_|refine U cC ?_)<;>refine V cC ?_<;>exact Gj (h:=by first|rfl|(simp;done)|(exfalso;rw[hT1]at h54;simp at h54;done))
 refine Cn ?_ ?_<;>intro hc2
 ·cases hc2
 refine aB<|S<|aQ (t:=4) (n:=25) (A_:=true) ?_ ?_
 ·all_goals refine Y aA<|Dm ?_<;>(refine Sp 67 (λh67=>?_) λh67=>?_)<;>(try exact w_)<;>refine U aA<|U aA ?_<;>(refine Sp 69 (λh69=>?_) λh69=>?_)<;>(try exact w_)<;>(first|refine M ?_|refine U aA ?_)<;>refine U cC<|U aA ?_<;>(refine Sp 72 (λh72=>?_) λh72=>?_)<;>(try exact w_)<;>(first|refine M<|M<|M ?_|refine U aA<|U (fW aE)<|U cD ?_)<;>refine U cC<|Y cC<|Dm ?_<;>(refine Sp 78 (λh78=>?_) λh78=>?_)<;>(try exact w_)<;>(first|refine M<|M<|M<|M<|M<|M ?_|refine U aA<|U cD<|U aA<|U (gE U_)<|U iP<|U (RY Z eH Z Z) ?_)<;>refine Y cC<|Da ?_<;>exact Gj (h:=by(simp_all;done))
 exact aC<|Rt<|Qq
end Go.Proofs.YtopnleflllkbmaaGreatDoor
