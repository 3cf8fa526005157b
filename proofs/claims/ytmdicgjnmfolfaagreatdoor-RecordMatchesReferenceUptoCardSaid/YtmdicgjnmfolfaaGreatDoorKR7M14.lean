/-
  Parts of the proof: rules of a program logic, contracts, plain laws. Conditions: each theorem's own.
-/
import Derived.Test.YtmdicgjnmfolfaaGreatDoorKR7M13
set_option linter.unusedVariables false
set_option linter.unusedSimpArgs false
set_option maxRecDepth 100000
set_option maxHeartbeats 8000000
namespace Go.Proofs.YtmdicgjnmfolfaaGreatDoor
open Go.Proofs.Tryz
open Go.Abs Go.Lib
theorem gv(s):(wZ s).getD 0<=300000000:=by
 rw[wZ]
 split
 ·decide
 next h7 =>
 split
 ·have:=KF (l:=s.data.toList) (by simp_all);show R9 _<=_;omega
 decide
theorem Kb{q}(h:q.2=true):∀k,O4 k q=([],q)
 |0=>rfl
 |k+1=>by rw[O4,aCe h]
theorem Up:(gT sNil).1=[]:=by kernel_rfl
theorem fe(t:List UInt8)(hts:t.length<1000000000)(H:aG):RC 13 [sv (ofL t)] (.tup [av (cC (sH t).1),iv (sH t).2]) H:=by
 refine Pu ?_;have hls:(ofL t).size=t.length:=cM t;have hsp:=fun H=>qq t hts H;refine Bd func13 rfl ntmps13<|Sd (kl 2 HC)<|Zd aH<|Sq<|Sd aC<|Dd (gF underlying9)<|Zd gX ?_;refine Cn ?_ ?_<;>intro hc1
 ·have hb:20000<t.length:=by have:=aCb hc1;omega
  rw[show sH t=(zR,2)by rw[sH,aCe hb]];refine Sd (nP QV)<|Uu (iP aK)<|Zd aH<|aB ?_;refine iN (H':=[]) (.inr rfl) rfl (eU rfl aX aK rfl rfl rfl (by simp only[Zl,encStr];rfl) rfl) (aJ rfl) (Fin.wk (by simp[cC]) trivial trivial) ?_;exact Qq
 have hb:¬ 20000<t.length:=by have:=aCc hc1;omega
 rw[Jg]at hsp;have hg:sH t=match MI t with
  |none=>(zR,5)
  |some L=>if jm t L then(zR,5)else(FR L,0):=by rw[sH,aCd hb];all_goals rfl
 have hok:=fun L h=>yb (t:=t) (L:=L) (by omega) h;rw[hg];clear hg;obtain ⟨O,hO⟩:∃O,O=MI t:=⟨_,rfl⟩;rw[<-hO]at hsp hok |-;clear hO;rcases O with _|L
 ·have hsp:∀H,RC 54 [sv (ofL t)] (.tup [.pv (aU []),bv false]) H:=hsp;refine aA<|Sd aC<|Dd (kc call54 (hsp _))<|Dd aC<|Dd eG<|Dd eG<|Dd aH<|Zd aH<|Sq<|Sd aC<|Zd iJ ?_;refine Cn ?_ ?_<;>intro hc2
  ·refine Sd (nP QV)<|Uu (iP aK)<|Zd aH<|aB ?_;refine iN (H':=[]) (.inr rfl) rfl (eU rfl aX aK rfl rfl rfl (by simp only[Zl,encStr];rfl) rfl) (aJ rfl) (Fin.wk (by simp[cC]) trivial trivial) ?_;exact Qq
  cases hc2
 have hsp:∀H,RC 54 [sv (ofL t)] (.tup [.pv (aU L),bv true]) H:=hsp;have hS:=hok L rfl;have W:=zi hS;have hrf:=WD (Hn L).1;have s7:=(wq hS).1;have hpc:=fun H=>Y4 (Hn L).1 H (by omega);have hbd:jm t L↔((HD L).2.2=true\/(Ho L).1≠J0\/lA (FR L)≠(ofL t,0)):=Iff.rfl;rw[FR]at W hbd;have F:=fun H=>me _ W.1 hrf H;dsimp only;rw[FR];have lt40:∀q:RS,jA q->q.1.length<1099511627776:=fun q h=>by have:=h.1;omega
 have k0:=tY (L,false) (lt40 _ hS);have o0:=vJ (q:=(L,false)) hS;have e0:Ho L=rN (L,false):=by rw[Ho]
 obtain ⟨⟨G,Q0⟩,h0⟩:∃p,p=rN (L,false):=⟨_,rfl⟩;rw[<-h0]at k0 o0 e0;dsimp only at k0 o0;have k1:=nO Q0 (lt40 _ o0.2);have o1:=sU (q:=Q0) o0.2;have e1:Pj L=rU Q0:=by rw[Pj,e0]
 obtain ⟨⟨I,Q1⟩,h1⟩:∃p,p=rU Q0:=⟨_,rfl⟩;rw[<-h1]at k1 o1 e1;dsimp only at k1 o1;have k2:=nO Q1 (lt40 _ o1.2);have o2:=sU (q:=Q1) o1.2;have e2:Pi L=rU Q1:=by rw[Pi,e1]
 obtain ⟨⟨M,Q2⟩,h2⟩:∃p,p=rU Q1:=⟨_,rfl⟩;rw[<-h2]at k2 o2 e2;dsimp only at k2 o2;have k3:=nO Q2 (lt40 _ o2.2);have o3:=sU (q:=Q2) o2.2;have e3:Ph L=rU Q2:=by rw[Ph,e2]
 obtain ⟨⟨J,Q3⟩,h3⟩:∃p,p=rU Q2:=⟨_,rfl⟩;rw[<-h3]at k3 o3 e3;dsimp only at k3 o3;have k4:=nO Q3 (lt40 _ o3.2);have o4:=sU (q:=Q3) o3.2;have e4:Pg L=rU Q3:=by rw[Pg,e3]
 obtain ⟨⟨K,Q4⟩,h4⟩:∃p,p=rU Q3:=⟨_,rfl⟩;rw[<-h4]at k4 o4 e4;dsimp only at k4 o4;have k5:=tY Q4 (lt40 _ o4.2);have o5:=vJ (q:=Q4) o4.2;have e5:Pf L=rN Q4:=by rw[Pf,e4]
 obtain ⟨⟨V5,Q5⟩,h5⟩:∃p,p=rN Q4:=⟨_,rfl⟩;rw[<-h5]at k5 o5 e5;dsimp only at k5 o5;have k6:=NN Q5 (lt40 _ o5.2);have o6:=TG (q:=Q5) o5.2;have e6:Ih L=rL Q5:=by rw[Ih,e5]
 obtain ⟨⟨V6,Q6⟩,h6⟩:∃p,p=rL Q5:=⟨_,rfl⟩;rw[<-h6]at k6 o6 e6;dsimp only at k6 o6;have k7:=tY Q6 (lt40 _ o6.2);have o7:=vJ (q:=Q6) o6.2;have e7:Hn L=rN Q6:=by rw[Hn,e6]
 obtain ⟨⟨Y,Q7⟩,h7⟩:∃p,p=rN Q6:=⟨_,rfl⟩;rw[<-h7]at k7 o7 e7;dsimp only at k7 o7;have k8:=tY Q7 (lt40 _ o7.2);have o8:=vJ (q:=Q7) o7.2;have e8:Pe L=rN Q7:=by rw[Pe,e7]
 obtain ⟨⟨V8,Q8⟩,h8⟩:∃p,p=rN Q7:=⟨_,rfl⟩;rw[<-h8]at k8 o8 e8;dsimp only at k8 o8;have k9:=tY Q8 (lt40 _ o8.2);have o9:=vJ (q:=Q8) o8.2;have e9:Pd L=rN Q8:=by rw[Pd,e8]
 obtain ⟨⟨V9,Q9⟩,h9⟩:∃p,p=rN Q8:=⟨_,rfl⟩;rw[<-h9]at k9 o9 e9;dsimp only at k9 o9;have k10:=nO Q9 (lt40 _ o9.2);have o10:=sU (q:=Q9) o9.2;have P:YE L=rU Q9:=by rw[YE,e9]
 obtain ⟨⟨V10,Q10⟩,h10⟩:∃p,p=rU Q9:=⟨_,rfl⟩;rw[<-h10]at k10 o10 P;dsimp only at k10 o10;have k11:=tY Q10 (lt40 _ o10.2);have o11:=vJ (q:=Q10) o10.2;have Q:YD L=rN Q10:=by rw[YD,P]
 obtain ⟨⟨n,D⟩,h11⟩:∃p,p=rN Q10:=⟨_,rfl⟩;rw[<-h11]at k11 o11 Q;dsimp only at k11 o11;have k12:=mb D (lt40 _ o11.2);have o12:=mi (q:=D) o11.2;have R:MG L=rZ D:=by rw[MG,Q]
 obtain ⟨⟨V12,E⟩,h12⟩:∃p,p=rZ D:=⟨_,rfl⟩;rw[<-h12]at k12 o12 R;dsimp only at k12 o12;have k13:=tY E (lt40 _ o12.2);have o13:=vJ (q:=E) o12.2;have e13:YC L=rN E:=by rw[YC,R]
 obtain ⟨⟨z,S⟩,h13⟩:∃p,p=rN E:=⟨_,rfl⟩;rw[<-h13]at k13 o13 e13;dsimp only at k13 o13;have k14:=tY S (lt40 _ o13.2);have V:=vJ (q:=S) o13.2;have Z:YB L=rN S:=by rw[YB,e13]
 obtain ⟨⟨u,U⟩,h14⟩:∃p,p=rN S:=⟨_,rfl⟩;rw[<-h14]at k14 V Z;dsimp only at k14 V;have k15:=NN U (lt40 _ V.2);have C:=TG (q:=U) V.2;have e15:VA L=rL U:=by rw[VA,Z]
 obtain ⟨⟨w,Q15⟩,h15⟩:∃p,p=rL U:=⟨_,rfl⟩;rw[<-h15]at k15 C e15;dsimp only at k15 C;have k16:=nO Q15 (lt40 _ C.2);have u16:=sU C.2;have b16:=gv (rN Q15).1;have B:Hu Q15=O4 (rU Q15).1.toNat (rU Q15).2:=rfl;have b16:(rU Q15).1<=300000000:=b16;obtain ⟨⟨N,QN⟩,hN⟩:∃p,p=rU Q15:=⟨_,rfl⟩;rw[<-hN]at k16 u16 b16 B;dsimp only at k16 u16 b16 B;have o16:=zt (q:=Q15) C.2;have T:U9 L=Hu Q15:=by rw[U9,e15]
 obtain ⟨⟨s,l⟩,h16⟩:∃p,p=Hu Q15:=⟨_,rfl⟩;rw[<-h16]at B o16 T;dsimp only at B o16;have k17:=mb l (lt40 _ o16.2);have o17:=mi (q:=l) o16.2;have e17:HD L=rZ l:=by rw[HD,T]
 obtain ⟨⟨V17,Q17⟩,h17⟩:∃p,p=rZ l:=⟨_,rfl⟩;rw[<-h17]at k17 o17 e17;dsimp only at k17 o17;simp only[e0,e1,e2,e3,e4,e5,e6,e7,e8,e9,P,Q,R,e13,Z,e15,T,e17]at W hrf s7 hpc hbd F |-;clear W hS hok hrf h0 h1 h2 h3 h4 h5 h6 h7 h8 h9 h10 h11 h12 h13 h14 h15 h16 h17 e0 e1 e2 e3 e4 e5 e6 e7 e8 e9 P Q R e13 Z e15 T e17;have hpn:Y=sNil->(gT Y).1=[]:=fun h=>by rw[h];exact Up
 obtain ⟨PE,hPE⟩:∃v,v=gT Y:=⟨_,rfl⟩;rw[<-hPE]at hpc F hbd hpn |-;clear hPE;obtain ⟨ED,EE⟩:=PE;dsimp only at hpc F hbd hpn |-;obtain ⟨TX,hTX⟩:∃v,v=lA ⟨I,M,J,K,V5,V6,ED,V8,decide (V9=AM),V10,n,V12,⟨z,u,w,s,V17⟩⟩:=⟨_,rfl⟩;rw[<-hTX]at F hbd;clear hTX;rw[show J0=⟨#[114,101,99,111,114,100]⟩from rfl]at hbd;refine aA<|Sd aC<|Dd (kc call54 (hsp _))<|Dd aC<|Dd eG<|Dd eG<|Dd aH<|Zd aH<|Sq<|Sd aC<|Zd iJ ?_;refine Cn ?_ ?_<;>intro hc3
 ·cases hc3
 refine aA<|Sd aC<|Dd (nP aBa)<|Dd (kb 980)<|Zd aH<|Sz (kl 7 Wr)<|Sd aC<|Dd (kc pW (k0 _ rfl))<|Zd aH<|Sd aC<|Dd (kc pV (k1 _ rfl))<|Dd (aV mF)<|Uu (ku sizeOf3)<|Zz<|Sd aC<|Dd (kc pV (k2 _ rfl))<|Dd (aV sJ)<|Uu (ku sizeOf3)<|Zz<|Sd aC<|Dd (kc pV (k3 _ rfl))<|Dd (aV mE)<|Uu (ku sizeOf3)<|Zz<|Sd aC<|Dd (kc pV (k4 _ rfl)) ?_;refine Dd (aV uZ)<|Uu (ku sizeOf3)<|Zz<|Sq ?_;refine gC.ent (E':=[(0,sv (ofL t)),(2,.ref 2 0 0 0),(6,mm),(7,.ref 7 0 0 0),(8,sv G)]) (H':=[(980,mw Q4),(7,bx 21 30 [iv I,iv M,iv J,iv K,sv sNil,.pv .nils,.pv .nils,sv sNil,bv false,iv 0,sv sNil,iv 0,.pv .nils,.pv .nils,sv sNil,sv sNil,.pv .nils,.pv .nils,iv 0,.pv .nils,.pv .nils]),(2,bx 21 30 ((cC zR).map .pv))]) Wk ?_;refine Rd aC<|Dd (kc pW (k5 _ rfl))<|Dd (aV uY)<|Uu (by exact cV rfl sizeOf9 rfl rfl rfl rfl rfl rfl (by simp only[aCh,List.length_nil];omega) (by simp only[Zl,encStr];rfl) (by simp only[Zl,encStr];rfl))<|Zz<|Sd aC<|Dd (kc Ia (k6 _ rfl))<|Dd (aV lM)<|Uu (by exact cV rfl sizeOf22 rfl rfl rfl rfl rfl rfl (by simp only[aCh,List.length_nil];omega) (by simp only[Zl,encStr];rfl) (by simp only[Zl,encStr];rfl))<|Zz<|Sq ?_;refine gC.ent (E':=[(0,sv (ofL t)),(2,.ref 2 0 0 0),(6,mm),(7,.ref 7 0 0 0),(8,sv G)]) (H':=[(980,mw Q6),(7,bx 21 30 [iv I,iv M,iv J,iv K,sv V5,.pv (aU V6),.pv .nils,sv sNil,bv false,iv 0,sv sNil,iv 0,.pv .nils,.pv .nils,sv sNil,sv sNil,.pv .nils,.pv .nils,iv 0,.pv .nils,.pv .nils]),(2,bx 21 30 ((cC zR).map .pv))]) Wk ?_;refine Rd aC<|Dd (kc pW (k7 _ rfl))<|Zd aH<|Sd aC<|Dd (kc pW (k8 _ rfl))<|Dd (aV uW)<|Uu (by exact cV rfl sizeOf9 rfl rfl rfl rfl rfl rfl (by simp only[aCh,List.length_nil];omega) (by simp only[Zl,encStr];rfl) (by simp only[Zl,encStr];rfl))<|Zz<|Sd aC<|Dd (kc pW (k9 _ rfl))<|Dd vF<|Dd (aV CD)<|Uu (by exact cV rfl sizeOf4 rfl rfl rfl rfl rfl rfl (by simp only[aCh,List.length_nil];omega) (by simp only[Zl,encStr];rfl) (by simp only[Zl,encStr];rfl))<|Zz<|Sd aC<|Dd (kc pV (k10 _ rfl))<|Dd (aV tJ)<|Uu (by exact cV rfl sizeOf3 rfl rfl rfl rfl rfl rfl (by simp only[aCh,List.length_nil];omega) (by simp only[Zl,encStr];rfl) (by simp only[Zl,encStr];rfl)) ?_;refine Zz<|Sd aC<|Dd (kc pW (k11 _ rfl))<|Dd (aV pT)<|Uu (by exact cV rfl sizeOf9 rfl rfl rfl rfl rfl rfl (by simp only[aCh,List.length_nil];omega) (by simp only[Zl,encStr];rfl) (by simp only[Zl,encStr];rfl))<|Zz<|Sq ?_;refine gC.ent (E':=[(0,sv (ofL t)),(2,.ref 2 0 0 0),(6,mm),(7,.ref 7 0 0 0),(8,sv G),(9,sv Y)]) (H':=[(980,mw D),(7,bx 21 30 [iv I,iv M,iv J,iv K,sv V5,.pv (aU V6),.pv .nils,sv V8,bv (decide (V9=AM)),iv V10,sv n,iv 0,.pv .nils,.pv .nils,sv sNil,sv sNil,.pv .nils,.pv .nils,iv 0,.pv .nils,.pv .nils]),(2,bx 21 30 ((cC zR).map .pv))]) Wk ?_;refine Rd aC<|Dd (kc call58 (k12 _ rfl))<|Dd (aV jR)<|Uu (by exact mT rfl sizeOf25 rfl rfl rfl rfl rfl rfl rfl (by simp only[aCh,List.length_nil];omega) (by simp only[Zl,encStr];rfl) (by simp only[Zl,encStr];rfl))<|Zz<|Sq ?_
 refine gC.ent (E':=[(0,sv (ofL t)),(2,.ref 2 0 0 0),(6,mm),(7,.ref 7 0 0 0),(8,sv G),(9,sv Y)]) (H':=[(980,mw E),(7,bx 21 30 [iv I,iv M,iv J,iv K,sv V5,.pv (aU V6),.pv .nils,sv V8,bv (decide (V9=AM)),iv V10,sv n,iv V12.idx,.pv (aU V12.sig),.pv (aU V12.path),sv sNil,sv sNil,.pv .nils,.pv .nils,iv 0,.pv .nils,.pv .nils]),(2,bx 21 30 ((cC zR).map .pv))]) Wk ?_;refine Rd aC<|Dd (kc pW (k13 _ rfl))<|Dd (aV dV)<|Dd (aV xK)<|Uu (by exact cV rfl sizeOf9 rfl rfl rfl rfl rfl rfl (by simp only[aCh,List.length_nil];omega) (by simp only[Zl,encStr];rfl) (by simp only[Zl,encStr];rfl))<|Zz<|Sd aC<|Dd (kc pW (k14 _ rfl))<|Dd (aV dV)<|Dd (aV xJ)<|Uu (by exact cV rfl sizeOf9 rfl rfl rfl rfl rfl rfl (by simp only[aCh,List.length_nil];omega) (by simp only[Zl,encStr];rfl) (by simp only[Zl,encStr];rfl))<|Zz<|Sd aC<|Dd (kc Ia (k15 _ rfl))<|Dd (aV dV)<|Dd (aV qK)<|Uu (by exact cV rfl sizeOf22 rfl rfl rfl rfl rfl rfl (by simp only[aCh,List.length_nil];omega) (by simp only[Zl,encStr];rfl) (by simp only[Zl,encStr];rfl)) ?_;refine Zz<|Sq ?_;refine gC.ent (E':=[(0,sv (ofL t)),(2,.ref 2 0 0 0),(6,mm),(7,.ref 7 0 0 0),(8,sv G),(9,sv Y)]) (H':=[(980,mw Q15),(7,bx 21 30 [iv I,iv M,iv J,iv K,sv V5,.pv (aU V6),.pv .nils,sv V8,bv (decide (V9=AM)),iv V10,sv n,iv V12.idx,.pv (aU V12.sig),.pv (aU V12.path),sv z,sv u,.pv (aU w),.pv .nils,iv 0,.pv .nils,.pv .nils]),(2,bx 21 30 ((cC zR).map .pv))]) Wk ?_;refine Rd aC<|Dd (kc pV (k16 _ rfl))<|Zd aH<|Sq<|Sq ?_;refine gC.ent (E':=[(0,sv (ofL t)),(2,.ref 2 0 0 0),(6,mm),(7,.ref 7 0 0 0),(8,sv G),(9,sv Y),(10,iv N)]) (H':=(905,⟨0,2,68,[]⟩)::(7,bx 21 30 [iv I,iv M,iv J,iv K,sv V5,.pv (aU V6),.pv (fX []),sv V8,bv (decide (V9=AM)),iv V10,sv n,iv V12.idx,.pv (aU V12.sig),.pv (aU V12.path),sv z,sv u,.pv (aU w),.osl 905 (0) 0 (0),iv 0,.pv (aU []),.pv (aU [])])::(980,mw QN)::(2,bx 21 30 ((cC zR).map .pv))::[]) ?_ ?_
 ·exact(cQ.nz 905 2 68 rfl rfl ⟨⟨_,rfl,(by exact Nz.same (by(simp;done)))⟩,⟨_,rfl,(by exact Nz.same (by(simp;rfl)))⟩,⟨_,rfl,(by exact Nz.same (by(simp;rfl)))⟩,⟨_,rfl,(by exact Nz.same (by(simp;rfl)))⟩,⟨_,rfl,(by exact Nz.same (by(simp;done)))⟩,⟨_,rfl,(by exact Nz.same (by(simp;done)))⟩,⟨_,rfl,(by exact Nz.same (by(simp;done)))⟩,trivial⟩ ⟨⟨_,rfl,rfl,rfl,rfl,(by exact .inr ⟨_,_,rfl,rfl,(by repeat(first|exact trivial|refine⟨(by first|exact Nz.own|exact Nz.weak|exact Nz.same (by(simp;done))),?_⟩))⟩)⟩,⟨_,rfl,rfl,rfl,rfl,(by exact .inl ⟨rfl,(by(simp;done))⟩)⟩,⟨_,rfl,rfl,rfl,rfl,(by exact .inl ⟨rfl,(by(simp;done))⟩)⟩,trivial⟩ trivial)
 refine Rg<|Zd aH<|aE ?_;refine fZ (fun(A:List (Int×Int)) (q:RS)=>([(0,sv (ofL t)),(2,.ref 2 0 0 0),(6,mm),(7,.ref 7 0 0 0),(8,sv G),(9,sv Y),(10,iv N),(11,iv (A.length:Int))],[(905,⟨A.length,2,68,uS A⟩),(7,bx 21 30 [iv I,iv M,iv J,iv K,sv V5,.pv (aU V6),.pv (fX []),sv V8,bv (decide (V9=AM)),iv V10,sv n,iv V12.idx,.pv (aU V12.sig),.pv (aU V12.path),sv z,sv u,.pv (aU w),.osl 905 (A.length) 0 (A.length),iv 0,.pv (aU []),.pv (aU [])]),(980,mw q),(2,bx 21 30 ((cC zR).map .pv))])) (fun A q=>jA q/\A.length<=N.toNat/\(s,l)=(A++(O4 (N.toNat - A.length) q).1,(O4 (N.toNat - A.length) q).2)) (fun A q=>N.toNat - A.length) [] QN ⟨u16.2,aCw _,by rw[B];rfl⟩ ?_ ?_
 ·exact(cQ.wk (Eb<|Ea<|Ea<|Ea<|Eb<|Eb<|Eb<|Eb<|trivial) (Hc (BX _ _)<|Ha<|Hb<|Hb<|trivial) trivial)
 rintro A q ⟨hq,hA,hR⟩;have m1:=nO q (lt40 _ hq);have p1:=sU hq;have m2:=nO (rU q).2 (lt40 _ p1.2);have p2:=sU p1.2;have hstep:q.2=false->∀m,O4 (m+1) q=(((rU q).1,(rU (rU q).2).1)::(O4 m (rU (rU q).2).2).1,(O4 m (rU (rU q).2).2).2):=fun h m=>by rw[O4,aCd (by rw[h];decide)]
 obtain ⟨⟨x,q1⟩,hx⟩:∃p,p=rU q:=⟨_,rfl⟩;rw[<-hx]at m1 m2 p1 p2 hstep;dsimp only at m1 m2 p1 p2 hstep;obtain ⟨⟨y,q2⟩,hy⟩:∃p,p=rU q1:=⟨_,rfl⟩;rw[<-hy]at m2 p2 hstep;dsimp only at m2 p2 hstep;clear hx hy;refine Sq<|Sq ?_;refine aQ (t:=91) (n:=11) (X:=decide ((A.length:Int)<N)&&!q.2) ?_ ?_
 ·all_goals refine Dd aC ?_
  all_goals refine Dd aC<|Dd cJ<|Dm ?_<;>(refine Sp 85 (fun h85=>?_) fun h85=>?_)<;>(first|contradiction|refine Fo<|Fo<|Fo<|Fo<|Fo ?_|refine On aC<|On vS<|On (aV KT)<|On (bD mN)<|On iJ ?_)<;>refine Zd cD ?_<;>(exact⟨⟨_,rfl,by(simp only[*,Zo];done)⟩,rfl,rfl,rfl⟩)
 refine Cn ?_ ?_<;>intro hc4
 ·have o:=hc4;rw[aCo,aCy,aCm]at o;have X:(A++[(x,y)]).length=A.length+1:=by rw[aCg];rfl
  have hR2:(s,l)=((A++[(x,y)])++(O4 (N.toNat - (A.length+1)) q2).1,(O4 (N.toNat - (A.length+1)) q2).2):=by
   rw[hR,show N.toNat - A.length=(N.toNat - (A.length+1))+1 by omega,hstep o.2];simp
  refine aA<|Sq<|aE<|Sz (kl 12 Qt)<|Sd aC<|Dd (kc pV (m1 _ rfl))<|Dd (aV pC)<|Uu (ku sizeOf3)<|Zz<|Sd aC<|Dd (kc pV (m2 _ rfl))<|Dd (aV pB)<|Uu (ku sizeOf3)<|Zz<|Rd (aV dV)<|Dd (aV lO)<|Dd (bD eQ)<|Dd (kY dO sizeOf68)<|Dd (by exact aN [fQ (x,y)] rfl JW rfl rfl rfl rfl rfl (by intro r hr;rw[aCi]at hr;subst hr;rfl))<|Dd (by exact cG (ob:=⟨A.length,2,68,uS A⟩) (k:=A.length+1) (ps:=[fQ (x,y)]) rfl JW aAS rfl rfl rfl rfl rfl (O8 _) rfl (by intro r hr;rw[aCi]at hr;subst hr;rfl) (m:=1) rfl (by omega) rfl (rows':=uS (A++[(x,y)])) (O9 A (x,y))) ?_;refine Dd (aV dV)<|Dd (aV lO)<|Uu (by exact cV rfl sizeOf26 rfl rfl rfl rfl rfl rfl (by simp only[aCh,List.length_nil];omega) (by simp only[Zl,encStr];rfl) (by simp only[Zl,encStr];rfl))<|Zz<|Rd aC<|Dd kp<|Da ?_;refine⟨A++[(x,y)],q2,⟨p2.2,by rw[X];omega,by rw[X];exact hR2⟩,by rw[X];omega,?_⟩;rw[X];exact(cQ.wk (Eb<|Ea<|Ea<|Ea<|Eb<|Eb<|Eb<|Eb<|trivial) (Hc (BX _ _)<|Ha<|Hb<|Hb<|trivial) trivial)
 have o:=hc4;have hend:(s,l)=(A,q):=by
  rw[Bool.and_eq_false_iff,aCn,Bool.not_eq_false']at o;rcases o with h|h
  ·rw[hR,show N.toNat - A.length=0 by omega,O4,List.append_nil]
  rw[hR,Kb h,List.append_nil]
 obtain ⟨rfl,rfl⟩:=Prod.mk.inj hend;clear hR hstep m1 m2 hend;refine gC.ent (cQ.fzG (id:=905) (E':=[(0,sv (ofL t)),(2,.ref 2 0 0 0),(6,mm),(7,.ref 7 0 0 0),(8,sv G),(9,sv Y)]) (H':=[(7,bx 21 30 ((cC ⟨I,M,J,K,V5,V6,[],V8,decide (V9=AM),V10,n,V12,⟨z,u,w,s,zS⟩⟩).map .pv)),(980,mw l),(2,bx 21 30 ((cC zR).map .pv))]) (s.map fQ) rfl rfl ?_ rfl ?_ ?_) ?_
 ·intro p hp;simp only[aCr,aCv,or_false]at hp;rcases hp with rfl|rfl|rfl|rfl|rfl|rfl
  ·exact⟨_,rfl,.same (by(simp;done))⟩
  ·exact⟨_,rfl,.same (by(simp;rfl))⟩
  ·exact⟨_,rfl,.same (by(simp;rfl))⟩
  ·exact⟨_,rfl,.same (by(simp;rfl))⟩
  ·exact⟨_,rfl,.same (by(simp;done))⟩
  exact⟨_,rfl,.same (by(simp;done))⟩
 ·exact⟨⟨_,rfl,rfl,rfl,rfl,nB rfl (cA (.same (by simp)) (cA (.same (by simp)) (cA (.same (by simp)) (cA (.same (by simp)) (cA (.same (by simp)) (cA (.same (by simp)) (cA (.same (by simp)) (cA (.same (by simp)) (cA (.same (by simp)) (cA (.same (by simp)) (cA (.same (by simp)) (cA (.same (by simp)) (cA (.same (by simp)) (cA (.same (by simp)) (cA (.same (by simp)) (cA (.same (by simp)) (cA (.same (by simp)) (cA (.osl (kD fQ _)) (cA (.same (by simp)) (cA (.same (by simp)) (cA (.same (by simp)) mD)))))))))))))))))))))⟩,⟨_,rfl,rfl,rfl,rfl,gA (mv _ _)⟩,⟨_,rfl,rfl,rfl,rfl,gA (by simp[bx,cC])⟩,trivial⟩
 ·exact trivial
 refine aS<|Sd aC<|Dd (kc call58 (k17 _ rfl))<|Dd (aV dV)<|Dd (aV lN)<|Uu (by exact mT rfl sizeOf25 rfl rfl rfl rfl rfl rfl rfl (aCs rfl) rfl rfl)<|Zz ?_;refine eV (fun(_:Unit)=>([(0,sv (ofL t)),(2,.ref 2 0 0 0),(6,mm),(7,.ref 7 0 0 0),(8,sv G)],[(980,mw Q17),(7,bx 21 30 ((cC ⟨I,M,J,K,V5,V6,ED,V8,decide (V9=AM),V10,n,V12,⟨z,u,w,s,V17⟩⟩).map .pv)),(2,bx 21 30 ((cC zR).map .pv))])) (fun _=>True) ?_ ?_
 ·refine Sd aC<|Zd DH ?_;refine Cn ?_ ?_<;>intro hc5
  ·refine Rd aC<|Dd (kc call59 (hpc _))<|Dd aC<|Dd eG<|Dd eG<|Dd (aV uX)<|Uu (ku sizeOf23)<|Zz ?_;exact⟨(),trivial,Wk⟩
  have hn:=hc5;rw[hpn (by rw[Bool.not_eq_false']at hn;exact aCb hn)];refine aA ?_;exact⟨(),trivial,Wk⟩
 rintro _ -;refine Sd (kY aX aK)<|Dd (kc call11 (F _))<|Dd aC<|Dd eG<|Dd eG<|Dd aH<|Zd aH<|Sq<|Sq ?_;refine aQ (t:=141) (n:=20) (X:=((Q17.2||!decide (G=⟨#[114,101,99,111,114,100]⟩))||!decide (TX.2=0))||!decide (TX.1=ofL t)) ?_ ?_
 ·all_goals refine Dd aC ?_
  all_goals refine Dd vS<|Dd (aV KT)<|Dd (bD mN)<|Dm ?_<;>(refine Sp 129 (fun h129=>?_) fun h129=>?_)<;>(first|contradiction|refine Fo<|Fo ?_|refine On aC<|On DH ?_)<;>refine Dd cD<|Dm ?_<;>(refine Sp 133 (fun h133=>?_) fun h133=>?_)<;>(first|contradiction|refine Fo<|Fo ?_|refine On aC<|On rI ?_)<;>refine Dd cD<|Dm ?_<;>(refine Sp 137 (fun h137=>?_) fun h137=>?_)<;>(first|contradiction|refine Fo<|Fo<|Fo ?_|refine On aC<|On aC<|On DH ?_)<;>refine Zd cD ?_<;>(exact⟨⟨_,rfl,by(simp only[*,Zo];done)⟩,rfl,rfl,rfl⟩)
 refine Cn ?_ ?_<;>intro hc6
 ·have o:=hc6;rw[aCe (hbd.2 (by
   simp only[Bool.or_eq_true,aCy,aCn]at o;rcases o with((h|h)|h)|h
   ·exact .inl h
   ·exact .inr (.inl h)
   ·exact .inr (.inr fun e=>h (by rw[e]))
   exact .inr (.inr fun e=>h (by rw[e]))))]
  refine Sd (nP QV)<|Uu (iP aK)<|Zd aH<|aB ?_;refine iN (H':=[]) (.inr rfl) rfl (eU rfl aX aK rfl rfl rfl (by simp only[Zl,encStr];rfl) rfl) (aJ rfl) (Fin.wk (by simp[cC]) trivial trivial) ?_;exact Qq
 have o:=hc6;rw[aCd (fun h=>by
  simp only[aDB,Bool.not_eq_false',aCm]at o;rcases hbd.1 h with h|h|h
  ·rw[h]at o;cases o.1.1.1
  ·exact h o.1.1.2
  exact h (Prod.ext o.2 o.1.2))]
 refine aA<|Sd (kY aX aK)<|Uu (iP aK)<|Zd aH<|aB ?_;refine iN (H':=[]) (.inr rfl) rfl (eU rfl aX aK rfl rfl rfl (by simp only[Zl,encStr];rfl) rfl) (aJ rfl) (Fin.wk (by simp[cC,iM,nD]) trivial trivial) ?_;exact Qq
theorem Nx{t}(h:t.size<=20000):∀k,(yS t k).size<=20000
 |0=>h
 |k+1=>by rw[A3,gP];decide
theorem zn(t)(n:Nat)(H:aG)(e:t.size<=20000)(hn:n<=1000):RC 131 [sv t,iv n] (sv (yS t n)) H:=by
 refine Pu ?_;refine Bd func131 rfl ntmps131<|Sz aH<|Sq<|Sz aH<|aE ?_;refine bJ (fun k=>([(0,sv (yS t k)),(1,iv (n:Int)),(5,iv (k:Int))],[])) (fun k=>k<=n) (fun k=>n - k) 0 (aCw _) ?_ ?_
 ·exact Wk
 intro k hk;have hsz:=Nx e k;have c:=fun H=>VZ (yS t k) (by omega) H;rw[<-A3]at c;refine Sq<|Sd aC<|Dd aC<|Zd cJ ?_;refine Cn ?_ ?_<;>intro b
 ·have hlt:k<n:=by have:=aCb b;omega
  refine aA<|Sq<|aE<|Rd aC<|Dd (bL rfl rfl aCX rfl (c _))<|Zd aH<|Rd aC<|Dd (by exact eA rfl rfl rfl (show IntKind.i64.wrap _=((k+1:Nat):Int)by rw[lI (by omega) (by omega)];omega))<|Da ?_;exact⟨k+1,by omega,by omega,Wk⟩
 have d:k=n:=by have:=aCc b;omega
 subst d;exact aS<|Sd aC<|Zd aH<|aB<|Rt<|Qq
theorem Rx(h:Nat)(H:aG)(hh:h<=60):RC 98 [iv (h:Int)] (iv ((2 ^ h:Nat):Int)) H:=by
 refine Pu ?_;refine Bd func98 rfl ntmps98<|Sz aH<|Sz aH<|Sq<|Sz aH<|aE ?_;refine bJ (σ:=Nat) (fun k=>([(0,iv (h:Int)),(3,iv ((2 ^ k:Nat):Int)),(4,iv (k:Int))],[])) (fun k=>k<=h) (fun k=>h - k) 0 (aCw _) ?_ ?_
 ·exact Wk
 intro k hk;have hp:2 ^ k<=2 ^ 60:=Nat.pow_le_pow_right (by decide) (by omega);have e:2 ^ (k+1)=2*2 ^ k:=by omega
 obtain ⟨q,d⟩:∃q,q=2 ^ k:=⟨_,rfl⟩;rw[<-d];refine Sq<|Sd aC<|Dd aC<|Zd cJ ?_;refine Cn ?_ ?_<;>intro b
 ·have hlt:k<h:=by have:=aCb b;omega
  refine aA<|Sq<|aE<|Rd aC<|Dd (by exact iY rfl rfl rfl (show IntKind.i64.wrap _=((2 ^ (k+1):Nat):Int)by rw[e,lI (by omega) (by omega)];omega))<|Zd aH<|Rd aC<|Dd kp<|Da ?_;exact⟨k+1,by omega,by omega,Wk⟩
 have c:k=h:=by have:=aCc b;omega
 subst c;refine aS<|Sd aC<|Zd aH<|aB<|Rt ?_
 simp_all
end Go.Proofs.YtmdicgjnmfolfaaGreatDoor
namespace Go.Proofs.YtmdicgjnmfolfaaGreatDoor
open Go.Proofs.Tryz
open Go.Abs
def lT(L:List ByteArray):ByteArray:=ofL (aP L)
def ntx(a b:ByteArray):ByteArray:=lT [CT,a,b]
def NIn(S:ByteArray->Prop):ByteArray->List ByteArray->Nat->Prop
 |_,[],_=>True
 |a,o::r,i=>S (if i % 2=1 then ntx o a else ntx a o)/\NIn S (if i % 2=1 then sC o a else sC a o) r (i / 2)
structure Texts(S:ByteArray->Prop)(s m:ByteArray)(h:Nat)(sig path:List ByteArray)(i:Nat):Prop where
 m1:∀i,i<2 ^ h->∀k,k<18->∀j,j<15->S (yS (nQ s i k) j)
 m2:∀i,i<2 ^ h->S (lT (IY s i))
 m3:∀i,i<2 ^ h->NIn S (SC s i) (pH h (oL s h) i) i
 c1:∀k,k<18->∀j,j<15 - (FJ m).getD k 0->S (yS (sig.getD k sNil) j)
 c2:S (lT (nL m sig))
 c3:NIn S (wA (nL m sig)) path i
theorem Ei(m){c}(g:∀t∈c,t.size=16):∀x∈nL m c,x.size=16:=by
 intro x e;rw[nL,aDA]at e;obtain ⟨k,d⟩:=e;rw[List.getElem?_zipWith]at d;cases f:c[k]? with
 |none=>simp_all
 | some a =>
  cases h:(FJ m)[k]? with
  |none=>simp_all
  |some b =>
   rw[f,h]at d;simp at d;rw[<-d];exact QT (g a (aCp f)) _
theorem ub(m){a}(b:a.length=18):(nL m a).length=18:=by rw[nL,List.length_zipWith,b];rfl
end Go.Proofs.YtmdicgjnmfolfaaGreatDoor
namespace Go.Proofs.YtmdicgjnmfolfaaGreatDoor
open Go.Proofs.Tryz
open Go.Abs Go.Lib
def QI(n:Nat):List PV:=[.int .i64 (n:Int)]
def yi(l:List Nat):PV:=.sl (l.map QI)
def xA(l:List Nat):List (List AV):=l.map fun n:Nat=>[iv (n:Int)]
theorem TY(l):xA l=(l.map QI).map (·.map AV.pv):=by rw[List.map_map];rfl
theorem sy(l):(xA l).length=l.length:=aCf _
theorem tb(l m):xA l++(m.map QI).map (·.map AV.pv)=xA (l++m):=by rw[<-TY,xA,xA,xA,List.map_append]
theorem TZ(H)(l):∀r∈xA l,∀a∈r,Clo H a:=by intro r d a c;obtain ⟨b,_,rfl⟩:=List.mem_map.1 d;rw[aCi.1 c];exact .pv _
theorem NV(l:List _):∀r∈l.map QI,r.length=1:=by intro r a;obtain ⟨s,_,rfl⟩:=List.mem_map.1 a;rfl
theorem tp{n}(h:n<16):DX (rK n)/\(if rK n<=57 then rK n - 48 else rK n - 87)=n:=by unfold DX rK;omega
theorem rm(m:ByteArray)(H:aG)(hm:m.size<=20000):RC 102 [sv m] (.pv (yi (FJ m))) H:=by
 refine Pu ?_;have hsz:=gP m;have e:=fun H=>VZ m (by omega) H;have hle:=OX m;refine Bd func102 rfl ntmps102<|Sz aH<|Sd aC<|Dd (kc aCX (e _))<|Zd aH<|Sz (by exact fF (id:=905) (sz:=1) (ty:=3) rfl rfl rfl)<|Sz aH<|Sq<|Sz aH<|aE ?_;refine bJ (σ:=Nat) (fun k=>([(3,sv (tL m)),(4,.osl 905 k 0 k),(5,iv (yJ m k:Int)),(6,iv (k:Int))],[(905,⟨k,1,3,xA ((dJ m).take k)⟩)])) (fun k=>k<=16) (fun k=>16 - k) 0 (aCw _) ?_ ?_
 ·exact(cQ.wk (Eb<|Ea<|Eb<|Eb<|trivial) (Hc (TZ _ _)<|trivial) trivial)
 intro k hk;have f:(xA ((dJ m).take k)).length=k:=by rw[sy,aCt,je];omega
 refine Sq<|Sd aC<|Dd aC<|Dd (gF underlying9)<|Zd cJ ?_;refine Cn ?_ ?_<;>intro g
 ·have d:k<16:=by have:=aCb g;omega
  have l:=B1 (X2 m) k;obtain ⟨o,j⟩:=tp l;have h:=fun H=>oz (rK (LU (X2 m) k)) o H;rw[j]at h;have hr1:=Y3 m k;have hr2:=OW m d;have i:(dJ m).take (k+1)=(dJ m).take k++[LU (X2 m) k]:=kA (jf m d);refine aA<|Sq<|aE<|Sd aC<|Dd aC<|Dd (by exact cR rfl underlying9 rfl rfl (by omega) (aCq _) (by omega) (QU m d))<|Dd (kc aBq (h _))<|Zd aH<|Sd aC<|Dd aC<|Dd (by exact aN ([LU (X2 m) k].map QI) rfl yc rfl rfl rfl rfl rfl (NV _))<|Dd (by exact cG (ob:=⟨k,1,3,xA ((dJ m).take k)⟩) (k:=k+1) (ps:=[LU (X2 m) k].map QI) rfl yc ei3 rfl rfl rfl rfl rfl f rfl (NV _) (m:=1) rfl (by omega) rfl (rows':=xA ((dJ m).take (k+1))) (by rw[i];exact tb _ _))<|Zd aH<|Rd aC<|Dd (by exact eA rfl rfl rfl (show IntKind.i64.wrap ((yJ m k:Int)+15)=((yJ m k+15:Nat):Int)by rw[lI (by omega) (by omega)];omega))<|Dd aC<|Dd (by exact dB rfl rfl rfl (show IntKind.i64.wrap (((yJ m k+15:Nat):Int) - (LU (X2 m) k:Int))=(yJ m (k+1):Int)by rw[lI (by omega) (by omega)];omega)) ?_;refine Zd aH<|Rd aC<|Dd kp<|Da ?_;exact⟨k+1,by omega,by omega,(cQ.wk (Eb<|Ea<|Eb<|Eb<|trivial) (Hc (TZ _ _)<|trivial) trivial)⟩
 have n:k=16:=by have:=aCc g;omega
 subst n;have htk:(dJ m).take 16=dJ m:=List.take_of_length_le (by rw[je];omega);rw[TA];refine aS<|Sd aC<|Dd aC<|Dd (by exact vP rfl rfl rfl (by decide) (show IntKind.i64.wrap (((sT m:Nat):Int).tdiv 16)=((sT m / 16:Nat):Int)by rw[Int.tdiv_eq_ediv_of_nonneg (by omega),lI (by omega) (by omega)];omega))<|Dd aC<|Dd (by exact tX rfl rfl rfl (by decide) (show ((sT m:Nat):Int).tmod 16=((sT m % 16:Nat):Int)by rfl))<|Dd (by exact aN ([sT m / 16,sT m % 16].map QI) rfl yc rfl rfl rfl rfl rfl (NV _))<|Dd (by exact cG (ob:=⟨16,1,3,xA ((dJ m).take 16)⟩) (k:=18) (ps:=[sT m / 16,sT m % 16].map QI) rfl yc ei3 rfl rfl rfl rfl rfl f rfl (NV _) (m:=2) rfl (by omega) rfl (rows':=xA (FJ m)) (by rfl))<|Zd aH<|aB ?_;refine dA (H':=[]) (.inr rfl) rfl (aJ rfl) (Fin.fz (id:=905) (ob:=⟨17,1,3,xA (FJ m)⟩) ((FJ m).map QI) rfl (TY _) (.osl (BK QI _ (NW m))) rfl trivial trivial) ?_;exact Qq
def Eu(m:ByteArray)(k:Nat):Nat:=15 - (FJ m).getD k 0
def El(m:ByteArray)(sig:List ByteArray)(k:Nat):List ByteArray:=(List.range k).map fun j=>yS (sig.getD j sNil) (Eu m j)
theorem Ej(m)(a)(k):El m a (k+1)=El m a k++[yS (a.getD k sNil) (Eu m k)]:=by rw[El,List.range_succ,List.map_append];rfl
theorem XA(m)(a)(k):(El m a k).length=k:=by simp[El]
theorem ot(m){a}(e:a.length=18):El m a 18=nL m a:=by
 refine List.ext_getElem? fun k=>?_;by_cases h:k<18
 ·obtain ⟨x,b⟩:=aT (l:=a) (k:=k) (by omega);obtain ⟨d,c⟩:=aT (l:=FJ m) (h);rw[El,aCz,List.getElem?_range h,nL,List.getElem?_zipWith,b,c];show some (yS _ _)=some _;rw[Eu,List.getD_eq_getElem?_getD,List.getD_eq_getElem?_getD,b,c];rfl
 rw[List.getElem?_eq_none (by rw[XA];omega),List.getElem?_eq_none (by rw[ub m e];omega)]
def T0(m:Int)(s:ByteArray):Bool:=decide ((s.size:Int)<=m)
def aq(l:List ByteArray)(m:Int):Bool:=l.all (T0 m)&&decide (((l.map encStr).length:Int)<=30)
theorem Mw(l:List ByteArray)(m:Int)(H:aG)(t:FH l):RC 38 [.pv (aU l),iv m] (bv (aq l m)) H:=by
 refine Pu ?_;obtain ⟨hl1,hl2⟩:=t;have hml:(l.map encStr).length=l.length:=aCf _;have p:aq l m=(l.all (T0 m)&&decide _):=rfl;refine Bd func38 rfl ntmps38<|Sz aH<|Sq<|Sz aH<|aE ?_;refine bJ (σ:=Nat) (fun k=>([(0,.pv (aU l)),(1,iv m),(5,iv (k:Int))],[])) (fun k=>k<=l.length/\∀j,j<k->∀b,l[j]?=some b->T0 m b=true) (fun k=>l.length - k) 0 ⟨by omega,by omega⟩ ?_ ?_
 ·exact Wk
 rintro k ⟨hk,e⟩;refine Sq<|Sd aC<|Dd aC<|Dd (eR aD)<|Zd cJ ?_;refine Cn ?_ ?_<;>intro d
 ·have n:k<l.length:=by have:=aCb d;omega
  obtain ⟨s,o⟩:=aT n;have q:=cE (f:=encStr) o;have f:=fun h=>CP (p:=T0 m) o h;refine aA<|Sq<|aE<|Sd aC<|Dd aC<|Dd (by exact bP rfl bT rfl rfl (by omega) (by rfl) q rfl)<|Dd (fO isAgg9 (hi:=q))<|Dd (gF underlying9)<|Dd aC<|Zd gX ?_;refine Cn ?_ ?_<;>intro c
  ·have i:T0 m s=false:=decide_eq_false (by have:=aCb c;omega);rw[p,f i];exact Sz aH<|aB<|Rt<|Qq
  have i:T0 m s=true:=decide_eq_true (by have:=aCc c;omega);refine aA<|Rd aC<|Dd kp<|Da ?_;exact⟨k+1,⟨by omega,sZ e o i⟩,by omega,Wk⟩
 have g:k=l.length:=by have:=aCc d;omega
 subst g;rw[p,xR e];exact aS<|Sd aC<|Dd (eR aD)<|Dd GP<|Zd aH<|aB<|Rt<|Qq
def NQ(ks:List ByteArray):Bool:=aq ks 100&&decide (((ks.map encStr).length:Int)<=10)
theorem Cw(w:WRest)(ks)(H:aG)(c:FH ks):RC 9 [av (KX w ks)] (bv (NQ ks)) H:=by
 refine aW.pure ?_ (by simp[KX]) H;have b:=fun H=>Mw ks 100 H c;have hX:NQ ks=(aq ks 100&&decide _):=rfl;obtain ⟨f,hff⟩:∃f,f=aq ks 100:=⟨_,rfl⟩;refine Bd func9 rfl ntmps9<|Sd (kb 1)<|Zd aH<|Sq ?_;refine aQ (t:=2) (n:=11) (X:=NQ ks) ?_ ?_
 ·all_goals refine Dd (aV KV) ?_
  all_goals refine Dd (bD aF)<|Dd (kc call38 (b _))<|Dm ?_<;>(refine Sp 6 (fun d=>?_) fun d=>?_)<;>(first|refine Fo<|Fo<|Fo<|Fo ?_|refine On (aV KV)<|On (bD aF)<|On (eR aD)<|On GP ?_)<;>refine Dd cD<|Da ?_<;>(exact⟨⟨_,rfl,by simp_all⟩,rfl,rfl,rfl⟩)
 exact aB<|Rt<|Qq
theorem Au(a b:ByteArray)(c:Bool)(h:a.size<=20000)(j:b.size<=20000)(H:aG):RC 132 [sv a,sv b,bv c] (sv (if c=true then sC b a else sC a b)) H:=by
 refine Pu ?_;have f:∀x y:ByteArray,x.size<=20000->y.size<=20000->∀H,aW Tryz.prog 79 _ H _:=fun x y hx hy H=>V1 [CT,x,y] (show 3<=2000 by decide) (fun z i=>by
  simp only[aCr,aCv,or_false]at i;rcases i with rfl|rfl|rfl
  ·decide
  all_goals omega) H
 have l:=fun H=>f b a j h H;have k:=fun H=>f a b h j H;cases c
 ·refine Bd func132 rfl ntmps132<|Sz aH<|Sq<|Sz aC ?_;refine Cn ?_ ?_<;>intro e
  ·cases e
  exact aA<|Sd aC<|Dd aC<|Dd (by exact aN ([CT,a,b].map encStr) rfl bT rfl rfl rfl rfl rfl (lP _))<|Dd (kc XT (k _))<|Zd aH<|aB<|Rt<|Qq
 refine Bd func132 rfl ntmps132<|Sz aH<|Sq<|Sz aC ?_;refine Cn ?_ ?_<;>intro e
 ·exact Sd aC<|Dd aC<|Dd (by exact aN ([CT,b,a].map encStr) rfl bT rfl rfl rfl rfl rfl (lP _))<|Dd (kc XT (l _))<|Zd aH<|aB<|Rt<|Qq
 cases e
theorem S7 (key m:ByteArray) (i:Int) (l p:List ByteArray) (H:aG) (hm:m.size<=20000) (hi0 : -4611686018427387904<=i) (hi1:i < 4611686018427387904) (hl:l.length < 1099511627776) (hp:p.length < 1099511627776) (hls:∀ t∈l,t.size < 1099511627776) (hps:∀ t∈p,t.size < 1099511627776) :
    RC 83 [sv key,sv m,av (iM ⟨i,l,p⟩)] (bv (uR key m i l p)) H:=by
  refine aW.pure ?_ (by simp_all) H;have hml:(l.map encStr).length=l.length:=aCf _;have hmp:(p.map encStr).length=p.length:=aCf _;have hdg:=fun H=>rm m H hm;have hd:uR key m i l p=(decide (l.length=18/\p.length<=8)&&l.all isJ&&p.all isJ&&decide (0<=i/\i<2 ^ p.length)&&decide (sI (wA (nL m l)) p i.toNat=key)):=rfl;obtain ⟨V,C⟩:∃V,V=uR key m i l p:=⟨_,rfl⟩;rw[<-C]at hd |-;clear C;have f1:¬ (l.length=18/\p.length<=8)->V=false:=fun h=>by simp_all
  have f2:l.all isJ=false->V=false:=fun h=>by simp_all
  have f3:p.all isJ=false->V=false:=fun h=>by simp_all
  have f4:¬ (0<=i/\i<2 ^ p.length)->V=false:=fun h=>by simp_all
  have hsl:∀t∈l,∀H,RC 128 [sv t] (bv (isJ t)) H:=fun t D H=>mg t (by have:=hls t D;omega) H;have hsp:∀t∈p,∀H,RC 128 [sv t] (bv (isJ t)) H:=fun t D H=>mg t (by have:=hps t D;omega) H;have hpw:p.length<=8->∀H,RC 98 [iv ((p.map encStr).length:Int)] (iv ((2 ^ p.length:Nat):Int)) H:=fun h8 H=>by
    rw[hmp];exact Rx p.length H (by omega)
  refine Bd func83 rfl ntmps83<|Sd (kb 5)<|Zd aH<|Sq<|Sq ?_;refine kH (t:=37) (n:=24) (X:=((!decide (((l.map encStr).length:Int)=18)||decide (8<((p.map encStr).length:Int)))||decide (i<0))||decide (((2 ^ p.length:Nat):Int)<=i)) ?_ ?_
  · cases hg18:(!decide (((l.map encStr).length:Int)=18):Bool)
    · cases hg24:(decide (8<((p.map encStr).length:Int)):Bool)
      · cases hg29:(decide (i<0):Bool)
        · refine aL follows<|Cq (aV gD)<|Cq (bD aF)<|Cq (eR aD)<|Cq rI<|Cq aC<|Nf (aV iB)<|Nf (bD aF)<|Nf (eR aD)<|Nf gX<|Cq nT<|Cq aC<|Nf (aV iC)<|Nf (bD isAgg3)<|Nf cJ<|Cq nT<|Cq aC<|Nf (aV iC)<|Nf (bD isAgg3)<|Nf (aV iB)<|Nf (bD aF)<|Nf (eR aD)<|Nf (kc call98 (hpw (by have:=aCc hg24;omega) _))<|Nf CX<|Cq nT<|bF<|Kr ?_
          exact⟨rfl,⟨_,rfl,by rfl⟩,rfl,rfl,rfl⟩
        · refine aL follows<|Cq (aV gD)<|Cq (bD aF)<|Cq (eR aD)<|Cq rI<|Cq aC<|Nf (aV iB)<|Nf (bD aF)<|Nf (eR aD)<|Nf gX<|Cq nT<|Cq aC<|Nf (aV iC)<|Nf (bD isAgg3)<|Nf cJ<|Cq nT<|Cq aC<|Of<|Of<|Of<|Of<|Of<|Of<|Of<|Cq xX<|bF<|Kr ?_
          exact⟨rfl,⟨_,rfl,by rfl⟩,rfl,rfl,rfl⟩
      · refine aL follows<|Cq (aV gD)<|Cq (bD aF)<|Cq (eR aD)<|Cq rI<|Cq aC<|Nf (aV iB)<|Nf (bD aF)<|Nf (eR aD)<|Nf gX<|Cq nT<|Cq aC<|Of<|Of<|Of<|Cq xX<|Cq aC<|Of<|Of<|Of<|Of<|Of<|Of<|Of<|Cq cD<|bF<|Kr ?_
        exact⟨rfl,⟨_,rfl,by rfl⟩,rfl,rfl,rfl⟩
    · refine aL follows<|Cq (aV gD)<|Cq (bD aF)<|Cq (eR aD)<|Cq rI<|Cq aC<|Of<|Of<|Of<|Of<|Cq xX<|Cq aC<|Of<|Of<|Of<|Cq cD<|Cq aC<|Of<|Of<|Of<|Of<|Of<|Of<|Of<|Cq cD<|bF<|Kr ?_
      exact⟨rfl,⟨_,rfl,by rfl⟩,rfl,rfl,rfl⟩
  refine Cn ?_ ?_<;>intro hc1
  · skip
    have hc:=hc1;have C:V=false:=by
      rw[hml,hmp]at hc;simp only[Bool.or_eq_true,aCy,aCm,aCn]at hc;rcases hc with((h|h)|h)|h
      · exact f1 fun e=>h (by omega)
      · exact f1 fun e=>by omega
      · exact f4 fun e=>by omega
      · exact f4 fun e => by have : i<((2 ^ p.length : Nat) : Int) := by exact_mod_cast e.2
                             omega
    rw[C];exact Sz aH<|aB<|Rt<|Qq
  · skip
    have hc:=hc1;rw[hml,hmp]at hc;simp only[aDB,Bool.not_eq_false',aCm,aCn]at hc;obtain ⟨⟨⟨hl18,hp8⟩,hn0⟩,hn1⟩:=hc;have hp8:p.length<=8:=by omega
    have hl18:l.length=18:=by omega
    obtain ⟨q,rfl⟩:∃q:Nat,i=(q:Int):=⟨i.toNat,by omega⟩;have hq:q<2 ^ p.length:=by omega
    have hq8:=tW hp8;have f5:l.all isJ=true->p.all isJ=true->V=decide (sI (wA (nL m l)) p q=key):=fun h1 h2=>by
      rw[hd,h1,h2,decide_eq_true (show l.length=18/\p.length<=8 from⟨hl18,hp8⟩),decide_eq_true (show 0<=(q:Int)/\(q:Int)<2 ^ p.length from⟨by omega,by exact_mod_cast hq⟩),aCq];rfl
    clear hd f1 f4;refine aA<|Sd aC<|Dd (kc call102 (hdg _))<|Zd aH<|Sz (by exact fF (id:=905) (sz:=1) (ty:=9) rfl rfl rfl)<|Sq<|Sz aH<|aE ?_;refine bJ (σ:=Nat) (fun k=>([(0,sv key),(5,.ref 5 0 0 0),(7,.pv (yi (FJ m))),(8,.osl 905 k 0 k),(9,iv (k:Int))],[(905,⟨k,1,9,cH (El m l k)⟩),(5,bx 3 25 [iv (q:Int),.pv (aU l),.pv (aU p)])])) (fun k=>k<=18/\(l.take k).all isJ=true) (fun k=>18 - k) 0 ⟨aCw _,rfl⟩ ?_ ?_
    · exact(cQ.wk (Eb<|Ea<|Eb<|Ea<|Eb<|trivial) (Hc (bQ _ _)<|Hb<|trivial) trivial)
    · rintro k ⟨hk,hall⟩
      have hel:(cH (El m l k)).length=k:=by rw[fP,XA]
      refine Sq<|Sd aC<|Zd cJ ?_;refine Cn ?_ ?_<;>intro hc2
      · skip
        have R:k<18:=by have:=aCb hc2;omega
        obtain ⟨x,y⟩:=aT (l:=l) (k:=k) (by omega);have w:=aCp y;have hix:=cE (f:=encStr) y;have F:=hsl x w;refine aA<|Sq<|aE<|Sq<|Sd (aV gD)<|Dd (bD aF)<|Dd aC<|Dd (kx bT hix)<|Dd (fO isAgg9 (hi:=hix))<|Dd (kc vt (F _))<|Zd iJ ?_;refine Cn ?_ ?_<;>intro hc3
        · skip
          have B:=not_not hc3;have C:V=false:=f2 (by rw[List.all_eq_false];exact⟨x,w,by rw[B];decide⟩);rw[C];exact Sz aH<|aB<|Rt<|Qq
        · skip
          have B:=nU hc3;have hx16:=pK B;obtain ⟨d,hdd⟩:=aT (l:=FJ m) (k:=k) (by rw[NW];exact R);have hd15:=XB m d (aCp hdd);have hid:=cE (f:=QI) hdd;have hgx:l.getD k sNil=x:=by rw[List.getD_eq_getElem?_getD,y];rfl
          have hgd:Eu m k=15 - d:=by rw[Eu,List.getD_eq_getElem?_getD,hdd];rfl
          have Y:=Ej m l k;rw[hgx,hgd]at Y;have hch:=fun H=>zn x (15 - d) H (by omega) (by omega);have hw:IntKind.i64.wrap (15 - (d:Int))=((15 - d:Nat):Int):=by rw[lI (by omega) (by omega)];omega
          have hall2:(l.take (k+1)).all isJ=true:=by rw[kA y,List.all_append,hall,List.all_cons,B];rfl
          refine aA<|aL follows<|Cr [905] (fun _ _=>aC)<|Cr [5] (fun _ h=>fh gD h)<|Cr [5] (fun _ h=>lh aF h)<|Cr [] (fun _ _=>aC)<|Cr [] (fun H1 hH=>by exact bP rfl bT rfl rfl (by omega) (by exact aCq _) hix rfl)<|Cr [] (fun _ _=>(fO isAgg9 (hi:=hix)))<|Cr [] (fun _ _=>aC)<|Cr [] (fun _ _=>aC)<|Cr [] (fun H1 hH=>by exact bP rfl yc rfl rfl (by omega) (by exact aCq _) hid rfl)<|Cr [] (fun _ _=>(fO isAgg3 (hi:=hid)))<|Cr [] (fun H1 hH=>by exact dB rfl rfl rfl hw)<|Cr [] (fun H1 hH=>by exact bL rfl rfl call131 rfl (hch _))<|Cr [] (fun H1 hH=>by exact aN ([yS x (15 - d)].map encStr) rfl bT rfl rfl rfl rfl rfl (lP _))<|Cp [905] (fun H1 hH=>by exact cG (ob:=⟨k,1,9,cH (El m l k)⟩) (k:=k+1) (ps:=[yS x (15 - d)].map encStr) rfl bT zT rfl ((hH _ rfl).trans rfl) rfl rfl rfl hel rfl (lP _) (m:=1) rfl (by omega) rfl (rows':=cH (El m l (k+1))) (by rw[Y];exact gY _ _)) ?_;refine Cr [905] (fun _ _=>aH)<|bF<|Kr<|Rd aC<|Dd kp<|Da ?_;exact⟨k+1,⟨by omega,hall2⟩,by omega,(cQ.wk (Eb<|Ea<|Eb<|Ea<|Eb<|trivial) (Hc (bQ _ _)<|Hb<|trivial) trivial)⟩
      · skip
        have hge:k=18:=by have:=aCc hc2;omega
        subst hge;have hlall:l.all isJ=true:=by rw[List.take_of_length_le (by omega)]at hall;exact hall
        have f5:=f5 hlall;rw[ot m hl18];have z:∀x∈nL m l,x.size=16:=Ei m (fun t D=>pK (List.all_eq_true.1 hlall t D));have T:(nL m l).length=18:=by rw[<-ot m hl18];exact XA m l 18
        obtain ⟨E,hE⟩:∃E,E=nL m l:=⟨_,rfl⟩;rw[<-hE]at z T f5 |-;have hli:=fun H=>Y2 E (by omega) (fun x y=>by rw[z x y];decide) H 905 ⟨18,1,9,cH E⟩ 18;clear f2;refine aS<|Sq<|Sz aH<|aE ?_;refine bJ (σ:=Nat) (fun k=>([(0,sv key),(5,.ref 5 0 0 0),(8,.osl 905 18 0 18),(10,iv (k:Int))],[(905,⟨18,1,9,cH E⟩),(5,bx 3 25 [iv (q:Int),.pv (aU l),.pv (aU p)])])) (fun k=>k<=p.length/\(p.take k).all isJ=true) (fun k=>p.length - k) 0 ⟨aCw _,rfl⟩ ?_ ?_
        · exact(cQ.wk (Eb<|Ea<|Ea<|Eb<|trivial) (Hc (bQ _ _)<|Hb<|trivial) trivial)
        · rintro k ⟨hk,hall⟩
          refine Sq<|Sd aC<|Dd (aV iB)<|Dd (bD aF)<|Dd (eR aD)<|Zd cJ ?_;refine Cn ?_ ?_<;>intro hc4
          · skip
            have hkp:k<p.length:=by have:=aCb hc4;omega
            obtain ⟨x,y⟩:=aT hkp;have w:=aCp y;have hix:=cE (f:=encStr) y;have F:=hsp x w;refine aA<|Sq<|aE<|Sd (aV iB)<|Dd (bD aF)<|Dd aC<|Dd (kx bT hix)<|Dd (fO isAgg9 (hi:=hix))<|Dd (kc vt (F _))<|Zd iJ ?_;refine Cn ?_ ?_<;>intro S
            · skip
              have B:=not_not S;have C:V=false:=f3 (by rw[List.all_eq_false];exact⟨x,w,by rw[B];decide⟩);rw[C];exact Sz aH<|aB<|Rt<|Qq
            · skip
              have B:=nU S;have hall2:(p.take (k+1)).all isJ=true:=by rw[kA y,List.all_append,hall,List.all_cons,B];rfl
              refine aA<|Rd aC<|Dd kp<|Da ?_;exact⟨k+1,⟨by omega,hall2⟩,by omega,(cQ.wk (Eb<|Ea<|Ea<|Eb<|trivial) (Hc (bQ _ _)<|Hb<|trivial) trivial)⟩
          · skip
            have hge:k=p.length:=by have:=aCc hc4;omega
            subst hge;rw[List.take_length]at hall;have f5:=f5 hall;have hp16:∀t∈p,t.size=16:=fun t D=>pK (List.all_eq_true.1 hall t D);refine aS<|Sd aC<|Dd (kc XT (hli _ rfl rfl rfl T.symm))<|Zd aH<|Sd (aV iC)<|Dd (bD isAgg3)<|Zd aH<|Sq<|Sz aH<|aE ?_;refine A6 (fun(k:Nat) (a:ByteArray) (j:Nat)=>([(0,sv key),(5,.ref 5 0 0 0),(11,sv a),(12,iv (j:Int)),(13,iv (k:Int))],[(5,bx 3 25 [iv (q:Int),.pv (aU l),.pv (aU p)])])) (fun k a j=>k<=p.length/\a.size=16/\j<1099511627776/\sI a (p.drop k) j=sI (wA E) p q) (fun k a j=>p.length - k) 0 (wA E) q ⟨aCw _,gP _,by omega,rfl⟩ ?_ ?_
            · exact Wk
            · rintro k a j ⟨hk,ha,hj,hf⟩
              have W:((j:Nat):Int).tmod 2=((j % 2:Nat):Int):=by rw[Int.tmod_eq_emod_of_nonneg (by omega)];omega
              have Z:IntKind.i64.wrap (((j:Nat):Int).tdiv 2)=((j / 2:Nat):Int):=by rw[Int.tdiv_eq_ediv_of_nonneg (by omega),lI (by omega) (by omega)];omega
              refine Sq<|Sd aC<|Dd (aV iB)<|Dd (bD aF)<|Dd (eR aD)<|Zd cJ ?_;refine Cn ?_ ?_<;>intro Q
              · skip
                have hkp:k<p.length:=by have:=aCb Q;omega
                obtain ⟨o,ho⟩:=aT hkp;have hio:=cE (f:=encStr) ho;have ho16:=hp16 o (aCp ho);have hdr:p.drop k=o::p.drop (k+1):=by
                  obtain ⟨h1,e1⟩:=aCj.1 ho;rw[List.drop_eq_getElem_cons h1,e1]
                have U:=fun H=>Au a o (decide (((j % 2:Nat):Int)=1)) (by omega) (by omega) H;have P:sI (if decide (((j % 2:Nat):Int)=1)=true then sC o a else sC a o) (p.drop (k+1)) (j / 2)=sI (wA E) p q:=by
                  rw[<-hf,hdr,sI];by_cases h:j % 2=1
                  · rw[aCe h,aCe (decide_eq_true (by omega))]
                  · rw[aCd h,aCd (by rw[decide_eq_false (by omega)];decide)]
                have A:(if decide (((j % 2:Nat):Int)=1)=true then sC o a else sC a o).size=16:=by split<;>exact gP _
                obtain ⟨X,hX⟩:∃X,X=(if decide (((j % 2:Nat):Int)=1)=true then sC o a else sC a o):=⟨_,rfl⟩;rw[<-hX]at P A;simp only[<-hX]at U;clear hX;refine aA<|Sq<|aE<|Sd aC<|Dd (aV iB)<|Dd (bD aF)<|Dd aC<|Dd (kx bT hio)<|Dd (fO isAgg9 (hi:=hio))<|Dd aC<|Dd (by exact tX rfl rfl rfl (by decide) W)<|Dd cF<|Dd (kc call132 (U _))<|Zd aH<|Rd aC<|Dd (by exact vP rfl rfl rfl (by decide) Z)<|Zd aH<|Rd aC<|Dd kp<|Da ?_;exact⟨k+1,X,j / 2,⟨by omega,A,by omega,P⟩,by omega,Wk⟩
              · skip
                have hge:k=p.length:=by have:=aCc Q;omega
                subst hge;rw[List.drop_length,sI]at hf;rw[f5,<-hf];exact aS<|Sd aC<|Dd aC<|Dd vF<|Zd aH<|aB<|Rt<|Qq
theorem Ka(r)(H):RC 22 [av (cC r)] (av (cC (sP r))) H:=by refine aW.pure ?_ (by simp) H;refine Bd func22 rfl ntmps22<|Sd (rW (id:=1) rfl rfl rfl rfl rfl)<|Zd (BB (id:=2) rfl HC rfl rfl)<|Sd (nP Oc)<|Dd (aV dV)<|Uu (by exact mT rfl sizeOf28 rfl rfl rfl rfl rfl rfl rfl (aCs rfl) rfl rfl)<|Zz<|Sd (kY aX aK)<|Uu (iP aK)<|Zz<|aB ?_;refine dA (H':=[]) (.inr rfl) rfl (eU rfl aX aK rfl rfl rfl (rfl) rfl) (Fin.wk (by simp[cC]) trivial trivial) ?_;exact Qq
theorem zm(r:GRec)(w:WRest)(ks:List ByteArray)(G:gE r)(t:∀e∈r.edits,e.refs.length<1099511627776)(R:FH ks)(H:aG):RC 20 [av (cC r),av (KX w ks)] (iv (qM r ks)) H:=by
 refine aW.pure ?_ (by simp_all) H;have hkl:(ks.map encStr).length=ks.length:=aCf _;have hks:=R.1;have T:=fun H=>HS r H G t;have hid:=fun H=>ze r H G t;have y:Fc r ks=(!eJ r||decide (((ks.map encStr).length:Int)<=r.author)):=rfl;rw[qM];refine Bd func20 rfl ntmps20<|Sd (kb 2)<|Dd (kb 3)<|Zd aH<|Sq<|Sq ?_;refine aQ (t:=16) (n:=12) (X:=Fc r ks) ?_ ?_
 ·all_goals refine Dd (kY aX aK) ?_
  all_goals refine Dd (kc Ib (T _))<|Dd iJ<|Dm ?_<;>(refine Sp 9 (fun S=>?_) fun S=>?_)<;>(first|contradiction|refine Fo<|Fo<|Fo<|Fo<|Fo<|Fo ?_|refine On (aV sJ)<|On (bD isAgg3)<|On (aV KV)<|On (bD aF)<|On (eR aD)<|On CX ?_)<;>refine Zd cD ?_<;>(exact⟨⟨_,rfl,by simp_all⟩,rfl,rfl,rfl⟩)
 refine Cn ?_ ?_<;>intro v
 ·rw[aCe v];exact Sz aH<|aB<|Rt<|Qq
 have hA:=v;rw[aCd (by simp_all)];rw[y,aDB]at hA;have P:=nU hA.1;have hau:=aCc hA.2;have F:=lY P;have hau0:=F.au;have hnu:=F.nu;have A:=fun H=>Ry r H G t P;have d:=gO F.sl;have c:=gO F.psl;have i0:=d.i0;have i1:=d.i1;have q0:=c.i0;have q1:=c.i1;have hms:(rJ r).size=16:=gP _;have J:=IS r;have q:(ks.map encStr)[r.author.toNat]?=some (encStr (ks.getD r.author.toNat sNil)):=by
  simp_all
 obtain ⟨b,o⟩:∃b,b=ks.getD r.author.toNat sNil:=⟨_,rfl⟩;rw[<-o]at q |-;have g:=fun H=>S7 b (sW r) r.sl.idx r.sl.sig r.sl.path H J (by omega) (by omega) (hV d).2.1.1 (hV d).2.2.1 (hV d).2.1.2 (hV d).2.2.2;have j:=fun H=>S7 b (rJ r) r.priv.sl.idx r.priv.sl.sig r.priv.sl.path H (by omega) (by omega) (by omega) (hV c).2.1.1 (hV c).2.2.1 (hV c).2.1.2 (hV c).2.2.2;have D:=fun H=>uc r.priv H;have E:=fun H=>YA r.priv.sl H (hV c);have B:Hx r b=(!decide (r.sl.idx=2*r.number - 2)||!uR b (sW r) r.sl.idx r.sl.sig r.sl.path):=rfl;have k:Nv r=(gL r.priv&&!qS r.priv.sl):=rfl;have l:Nu r b=(!gL r.priv&&(!decide (r.priv.sl.idx=2*r.number - 1)||!uR b (rJ r) r.priv.sl.idx r.priv.sl.sig r.priv.sl.path)):=rfl;obtain ⟨N,s⟩:∃N,N=uR b (sW r) r.sl.idx r.sl.sig r.sl.path:=⟨_,rfl⟩;obtain ⟨I,p⟩:∃I,I=uR b (rJ r) r.priv.sl.idx r.priv.sl.sig r.priv.sl.path:=⟨_,rfl⟩;obtain ⟨Q,h⟩:∃Q,Q=gL r.priv:=⟨_,rfl⟩;obtain ⟨O,f⟩:∃O,O=qS r.priv.sl:=⟨_,rfl⟩;obtain ⟨i,M⟩:∃i,i=sW r:=⟨_,rfl⟩;obtain ⟨m,L⟩:∃m,m=rJ r:=⟨_,rfl⟩;rw[<-s]at B;rw[<-p]at l;rw[<-h]at k l;rw[<-f]at k;simp only[<-s]at g;simp only[<-p]at j;simp only[<-M]at hid g;simp only[<-L]at A j;simp only[<-h]at D;simp only[<-f]at E;clear s p h f M L o;refine aA<|Sd (aV KV)<|Dd (bD aF)<|Dd (aV sJ)<|Dd (bD isAgg3)<|Dd (by exact bP rfl bT rfl rfl (by omega) (by rfl) q rfl)<|Dd (fO isAgg9 (hi:=q))<|Zd aH<|Sq<|Sq ?_;refine kH (t:=39) (n:=17) (X:=Hx r b) ?_ ?_
 ·cases hg31:(!decide (r.sl.idx=2*r.number - 2):Bool)
  ·refine aL follows<|Cq (aV jR)<|Cq (aV iC)<|Cq (bD isAgg3)<|Cq (aV mE)<|Cq (bD isAgg3)<|Cq (by exact iY rfl rfl rfl (lI (by omega) (by omega)))<|Cq (by exact dB rfl rfl rfl (lI (by omega) (by omega)))<|Cq rI<|Cq aC<|Nf aC<|Nf (kY aX aK)<|Nf (kc aC2 (hid _))<|Nf (aV jR)<|Nf (kY dK sizeOf25)<|Nf (kc call83 (g _))<|Nf iJ<|Cq nT<|bF<|Kr ?_;exact⟨rfl,⟨_,rfl,by simp_all⟩,rfl,rfl,rfl⟩
  refine aL follows<|Cq (aV jR)<|Cq (aV iC)<|Cq (bD isAgg3)<|Cq (aV mE)<|Cq (bD isAgg3)<|Cq (by exact iY rfl rfl rfl (lI (by omega) (by omega)))<|Cq (by exact dB rfl rfl rfl (lI (by omega) (by omega)))<|Cq rI<|Cq aC<|Of<|Of<|Of<|Of<|Of<|Of<|Of<|Cq xX<|bF<|Kr ?_;exact⟨rfl,⟨_,rfl,by simp_all⟩,rfl,rfl,rfl⟩
 refine Cn ?_ ?_<;>intro K
 ·rw[aCe K];exact Sz aH<|aB<|Rt<|Qq
 rw[aCd (by simp_all)];rw[k,l];refine aA<|Sq<|Sd (aV dV)<|Dd (kY iO sizeOf28)<|Zd (kc call30 (D _)) ?_;refine Cn ?_ ?_<;>intro C
 ·rw[C];refine Sq<|Sd (aV dV)<|Dd (aV lN)<|Dd (kY dK sizeOf25)<|Dd (kc call84 (E _))<|Zd iJ ?_;refine Cn ?_ ?_<;>intro u
  ·rw[u];exact Sz aH<|aB<|Rt<|Qq
  rw[u];exact aA<|Sz aH<|aB<|Rt<|Qq
 rw[C];refine aA<|Sq<|Sq ?_;refine kH (t:=66) (n:=19) (X:=!decide (r.priv.sl.idx=2*r.number - 1)||!I) ?_ ?_
 ·cases hg57:(!decide (r.priv.sl.idx=2*r.number - 1):Bool)
  ·refine aL follows<|Cq (aV dV)<|Cq (aV lN)<|Cq (aV iC)<|Cq (bD isAgg3)<|Cq (aV mE)<|Cq (bD isAgg3)<|Cq (by exact iY rfl rfl rfl (lI (by omega) (by omega)))<|Cq (by exact dB rfl rfl rfl (lI (by omega) (by omega)))<|Cq rI<|Cq aC<|Nf aC<|Nf (kY aX aK)<|Nf (kc call29 (A _))<|Nf (aV dV)<|Nf (aV lN)<|Nf (kY dK sizeOf25)<|Nf (kc call83 (j _))<|Nf iJ<|Cq nT<|bF<|Kr ?_;exact⟨rfl,⟨_,rfl,by rfl⟩,rfl,rfl,rfl⟩
  refine aL follows<|Cq (aV dV)<|Cq (aV lN)<|Cq (aV iC)<|Cq (bD isAgg3)<|Cq (aV mE)<|Cq (bD isAgg3)<|Cq (by exact iY rfl rfl rfl (lI (by omega) (by omega)))<|Cq (by exact dB rfl rfl rfl (lI (by omega) (by omega)))<|Cq rI<|Cq aC<|Of<|Of<|Of<|Of<|Of<|Of<|Of<|Of<|Cq xX<|bF<|Kr ?_;exact⟨rfl,⟨_,rfl,by rfl⟩,rfl,rfl,rfl⟩
 refine Cn ?_ ?_<;>intro z
 ·rw[z];exact Sz aH<|aB<|Rt<|Qq
 rw[z];exact aA<|Sz aH<|aB<|Rt<|Qq
theorem Zu:gE zR:=by have a:pL 0:=⟨by simp,by simp⟩;exact⟨⟨a,a,a,a,a⟩,⟨by decide,by decide,by decide⟩,⟨by decide,fun t h=>by cases h⟩,⟨by decide,fun t h=>by cases h⟩,Hw,by decide,by decide,⟨by decide,fun t h=>by cases h⟩,by decide,Hw⟩
theorem se(t):gE (eW t).1:=by
 rw[eW]
 split
 ·exact Zu
 next h =>
 split
 ·exact(Y5 (by omega)).1
 exact Zu
theorem Le{r}(h:gE r):gE (sP r):=by obtain ⟨d,b,e,c,a,_⟩:=h;exact⟨d,b,e,c,a,(⟨by decide,by decide,⟨by simp,fun t h=>by cases h⟩,by simp,Hw⟩:PJ ⟨sNil,sNil,[],[],zS⟩)⟩
theorem S4{r}(h:gE r)(H):RC 18 [av (cC r),av (cC r)] (bv true) H:=by have:=S5 r r H (IG h) (IG h);rw[Y6.2 rfl]at this;exact this
theorem MK(r:GRec)(w:WRest)(ks:List ByteArray)(t:ByteArray)(b:gE r)(A:r.parents.length<549755813888)(E:FH ks)(d:∀e∈r.edits,e.refs.length<1099511627776)(ht:t.size<1000000000)(H:aG):RC 3 [av (cC r),av (KX w ks),sv t] (bv true) H:=by
 refine aW.pure ?_ (by simp_all) H;have j:=fun H=>gz [r] H (show 1<1099511627776 by decide) (fun x P=>by rw[aCi.1 P];exact b);have h:=fun H=>Cw w ks H E;have htl:=bC t;have f:=fun H=>M2 r b A H;have g:=fun H=>me r b d H;have p:∀H,RC 12 [sv t] (.tup [av (cC (eW t.data.toList).1),iv (eW t.data.toList).2]) H:=fun H=>by
  have:=ZK t.data.toList (by omega) H;rw[hY]at this;exact this
 have u:∀H,RC 13 [sv t] (.tup [av (cC (eW t.data.toList).1),iv (eW t.data.toList).2]) H:=fun H=>by
  have:=fe t.data.toList (by omega) H;rw[hY,iw]at this;exact this
 have n:=fun H=>HI r b A H;have l:=fun H=>HS r H b d;have hid:=fun H=>UB r b A H;have k:=fun H=>ze r H b d;have m:=fun H=>I9 r w ks b A E H;have o:=fun H=>zm r w ks b d E H;have z:=fun H=>ph r H;have y:=fun H=>Ka r H;have q:=fun H=>S4 (Le b) H;have s:=fun H=>S4 (se t.data.toList) H;obtain ⟨F,N⟩:∃F,F=UM [r] 5:=⟨_,rfl⟩;obtain ⟨K,J⟩:∃K,K=NQ ks:=⟨_,rfl⟩;obtain ⟨T,L⟩:∃T,T=lA r:=⟨_,rfl⟩;obtain ⟨X,M⟩:∃X,X=eW t.data.toList:=⟨_,rfl⟩;obtain ⟨v,O⟩:∃v,v=eJ r:=⟨_,rfl⟩;obtain ⟨i,I⟩:∃i,i=sW r:=⟨_,rfl⟩;obtain ⟨c,G⟩:∃c,c=qM r ks:=⟨_,rfl⟩;obtain ⟨B,hB⟩:∃B,B=sP r:=⟨_,rfl⟩;rw[<-N]at j;rw[<-J]at h;rw[<-L]at f g;simp only[<-M]at p u s;rw[<-O]at n l;rw[<-I]at hid k;rw[<-G]at m o;rw[<-hB]at z y q;clear N J L M O I G hB;refine Bd func3 rfl ntmps3<|Sd (kb 3)<|Dd (kb 4)<|Zd aH<|Sd (kc call7 (Do _))<|Zd aH<|Sq<|Sq ?_;refine aQ (t:=31) (n:=16) (X:=(!F||!K)||decide (8000<(t.size:Int))) ?_ ?_
 ·all_goals refine Dd (by exact aM rfl aX aK rfl rfl rfl rfl (by simp only[Zl,encStr];rfl) rfl) ?_
  all_goals refine Dd (by exact aN ([r].map cC) rfl Xs rfl rfl rfl rfl rfl (by intro r b;simp only[List.map_cons,List.map_nil,aCr,aCv,or_false]at b;subst b;rfl))<|Dd (kc call8 (j _))<|Dd iJ<|Dm ?_<;>(refine Sp 22 (fun D=>?_) fun D=>?_)<;>(first|contradiction|refine Fo<|Fo<|Fo ?_|refine On (kY FM wC)<|On (kc call9 (h _))<|On iJ ?_)<;>refine Dd cD<|Dm ?_<;>(refine Sp 27 (fun C=>?_) fun C=>?_)<;>(first|contradiction|refine Fo<|Fo<|Fo ?_|refine On aC<|On (gF underlying9)<|On gX ?_)<;>refine Zd cD ?_<;>(exact⟨⟨_,rfl,by simp_all⟩,rfl,rfl,rfl⟩)
 refine Cn ?_ ?_<;>intro hc1
 ·exact Sd aC<|Zd aH<|aB<|Rt<|Qq
 refine aA<|Sd (kY aX aK)<|Dd (kc Ic (f _))<|Dd aC<|Dd eG<|Dd eG<|Dd aH<|Zd aH<|Sd (kY aX aK)<|Dd (kc call11 (g _))<|Dd aC<|Dd eG<|Dd eG<|Dd aH<|Zd aH<|Sd aC<|Dd (kc call12 (p _))<|Dd aC<|Dd eG<|Dd eG<|Dd (kl 12 HC)<|Uu (iP aK)<|Zd aH<|Sd aC<|Dd (kc call13 (u _))<|Dd aC<|Dd eG<|Dd eG<|Dd (kl 14 HC)<|Uu (iP aK)<|Zd aH<|Sq<|aL follows<|Cq (kY aX aK)<|Cq (kc XX (n _))<|Cq (kY aX aK)<|Cq (kc Ib (l _))<|Cq (by exact cK.val (by exact IF rfl eM rfl rfl) ((beq_self_eq_true _))) ?_;refine Cq aC<|Nt (kY aX aK)<|Nt (kc JQ (hid _))<|Nt (kY aX aK)<|Nt (kc aC2 (k _))<|Nt (by exact cK.val (by exact AI rfl rfl rfl) ((decide_eq_true rfl)))<|Cq cD<|Cq aC<|Nt aC<|Nt aC<|Nt (by exact cK.val (by exact AI rfl rfl rfl) ((decide_eq_true rfl)))<|Cq cD<|Cq aC<|Nt aC<|Nt aC<|Nt (by exact cK.val (by exact gS rfl rfl rfl) ((decide_eq_true rfl)))<|Cq cD<|Cq aC<|Nt aC<|Nt aC<|Nt (by exact cK.val (by exact gS rfl rfl rfl) ((decide_eq_true rfl)))<|Cq cD<|Cq aC<|Nt (kY aX aK)<|Nt (kY aX aK)<|Nt (kc aC1 (s _))<|Cq cD<|Cq aH<|bF<|Kr<|Sq<|aL follows<|Cq aC<|Cq aC<|Nt aC<|Cq cD<|Cq aC<|Nt (kY aX aK)<|Nt (kY FM wC) ?_;exact Nt (kc XW (m _))<|Nt (kY aX aK)<|Nt (kY FM wC)<|Nt (kc call20 (o _))<|Nt (by exact cK.val (by exact gS rfl rfl rfl) ((decide_eq_true rfl)))<|Cq cD<|Cq aC<|Nt (kY aX aK)<|Nt (kc call21 (z _))<|Nt (kY aX aK)<|Nt (kc call22 (y _))<|Nt (kc aC1 (q _))<|Cq cD<|Cq aH<|bF<|Kr<|aB<|Rt<|Qq
end Go.Proofs.YtmdicgjnmfolfaaGreatDoor
