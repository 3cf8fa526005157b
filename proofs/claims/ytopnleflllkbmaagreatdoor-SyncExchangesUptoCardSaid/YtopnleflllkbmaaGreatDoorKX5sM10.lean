/-
  Parts of the proof. Conditions: each theorem's own.
-/
import Derived.Test.YtopnleflllkbmaaGreatDoorKX5sM9
set_option linter.unusedVariables false
set_option linter.unusedSimpArgs false
set_option maxRecDepth 100000
set_option maxHeartbeats 8000000
open List Nat
open List renaming length->C
open Option renaming some->N,none->ζ
open Bool renaming true->A,false->η
open ByteArray renaming size->T,data->μ
open Array renaming toList->ν
open Decidable renaming decide->θ
open Go.IntKind renaming i64->ξ
open Go.Proofs.Tryz renaming prog->φ
open List renaming mem_append_right->Â,mem_append_left->Ã,nil_append->Ä
open Go.Proofs.YtopnleflllkbmaaGreatDoor
namespace Go.Proofs.C
open Go.Proofs.Tryz
open Go.Abs Go.Lib
theorem Oi(L:List B_)(I:C L<1000000)(K:∀s∈L,T s<1000000000)(H:aF)(id:Nat)(ob:Ob)(n:Nat)(G:H.get id=N ob)(E:Nat.blt 0 ob.sz=A)(B:ob.rows=bP L)(J:n=C L):aU φ 19 [.osl id ob.g 0 n] H (λr H'=>r=.tup [.pv (aK (cD L)),.pv (aK (DJ L))]/\H'=(id,HW ob)::H):=by
 subst J;refine aU.retire (L.map S_) (YG L _ I K) G E (by rw[B];exact cX _) Z ?_;intro i a P F D
 match i with
 |0 =>
  cases F;cases D;refine .inr ⟨0,C L,Z,?_⟩;rw[fV];rfl
 |n+1=>cases F
theorem PU(D B:List B_)(H:aF)(hl:C D<=1048576)(hs:∀s∈D,T s<=1048576)(κ:C B<=1048576)(hs2:∀s∈B,T s<=1048576):RC 5 [.pv (aK D),.pv (aK B)] (bv A) H:=by
 refine Pu ?_;have d:=λH=>aBD D 40 H hl hs;have j:=mu (l:=D);have g:=λH=>aBD B 40 H κ hs2;have m:=mu (l:=B);generalize ve D 40=f at d j;generalize ve B 40=e at g m;have ⟨A_,hX⟩:∃A_,A_=(!f||!e):=X_;refine Bd func5 Z ntmps5<|Sz aH<|U (kc call9 (aCs _))<|V aH<|S<|S<|aT (t:=24) (n:=9) (A_:=A_) ?_ ?_
 .all_goals refine Y aA<|Y (kc call10 (d _))<|Y iJ<|Dm ?_<;>(refine Sp 20 (λh20=>?_) λh20=>?_)<;>(try exact w_)<;>(first|refine M<|M<|M ?_|refine O aA<|O (kc call10 (g _))<|O iJ ?_)<;>refine V cE ?_<;>exact Gj (h:=by rw[hX];(rw[h20];rfl))
 refine Cn ?_ ?_<;>intro τ
 .exact U aA<|V aH<|aC<|Rt<|Qq
 have L:=hX.symm.trans τ;rw[q_,Bool.not_eq_false',Bool.not_eq_false']at L;have ⟨a40,y⟩:=j L.1;have ⟨b40,z⟩:=m L.2;clear j m d g hX L;have I:∀s∈D,T s<1000000000:=λs h=>by have:=y s h;omega
 have J:∀s∈B,T s<1000000000:=λs h=>by have:=z s h;omega
 have hxl:=qC D;have hyl:=qC B;have c:∀k,k<=19->C (kI D B k).q<=1000:=λk h=>by have:=(Kt (a:=D) (b:=B) X X k h).1;omega
 have G:=λH hs=>j9 D B X X I J c (H:=H) hs;have ⟨l1,l2,_,_⟩:=qk c 19 (h_ _);have ⟨w,x⟩:=ql (a:=D) (b:=B) X X 19 (h_ _);have R:=(aAs (a:=D) (b:=B) X X 19 (h_ _)).2;have W:=Ks (a:=D) (b:=B) X X;have F:¬ wU (mZ (cD D)++mZ (cD B))=A->cD (D++(kI D B 19).ag)=cD (B++(kI D B 19).bg):=λh =>
  Wa (a:=D) (b:=B) X X (kj (nL X) (nL X) h) (h_ _) W
 have o:=λH=>Gs D B H X X I J;generalize uq D B 19=na at G;generalize uo D B 19=nb at G;generalize kI D B 19=s at G l1 l2 w x R F;clear W c;have ⟨ag,bg,ao,bo,q⟩:=s;simp only at G l1 l2 w x R F;have β:=λH=>YG D H X I;have hoB:=λH=>YG B H X J;have K:∀t∈ag++bg,T t<1000000000:=λt h=>(R t h).elim (I t) (J t);have u:∀t∈D++ag,T t<1000000000:=λt h=>(mem_append.1 h).elim (I t) λh=>K t (Ã _ h);have v:∀t∈B++bg,T t<1000000000:=λt h=>(mem_append.1 h).elim (J t) λh=>K t (Â _ h);have hla2:C (D++ag)=C D+C ag:=j7;have hlb2:C (B++bg)=C B+C bg:=j7;have hpl:=qC (D++ag);have hql:=qC (B++bg);have hoP:=λH=>Oi (D++ag) X u H 905 ⟨2,1,9,bP (D++ag)⟩ (C (D++ag));have hoQ:=λH=>Oi (B++bg) X v H 906 ⟨2,1,9,bP (B++bg)⟩ (C (B++bg));have δ:=λH=>lf ag (cD D) H X X (λt h=>K t (Ã _ h)) (λt h=>(w t h).elim λi h=>⟨i,h.1,h.2.2⟩);have γ:=λH=>lf bg (cD B) H X X (λt h=>K t (Â _ h)) (λt h=>(x t h).elim λi h=>⟨i,h.1,h.2.2⟩);have hsm:=λH=>XV (cD (D++ag)) (cD (B++bg)) H X X;generalize wU (mZ (cD D)++mZ (cD B))=Sh at o F;clear w x R K;generalize cD (D++ag)=P at *;generalize cD (B++bg)=Q at *;generalize cD D=Xs at *;generalize cD B=Ys at *;have r:θ (P=Q)=η->Sh=A:=λh=>by
  cases Sh with
  |true=>rfl
  |false=>exact absurd (F E_) (b_ h)
 refine aB<|U aA<|Y (oU aBK)<|Y (kb 701)<|Y aA<|Y (oU aBK)<|Y (kb 702)<|Y aH<|V aH<|S<|S ?_;refine gK.ent (E':=[(0,.pv (aK D)),(1,.pv (aK B)),(5,bv A),(6,.ref 701 0 0 0),(7,.ref 702 0 0 0)]) (H':=(731,⟨0,1,9,[]⟩)::(701,sdO D 731 0 0 0)::(702,bx 3 38 [.pv (aK B),.pv .nils,iv 0])::[]) ?_ ?_
 .exact (Q_ 731 1 9)
 refine gK.ent (E':=[(0,.pv (aK D)),(1,.pv (aK B)),(5,bv A),(6,.ref 701 0 0 0),(7,.ref 702 0 0 0)]) (H':=(732,⟨0,1,9,[]⟩)::(731,Is 0 [])::(701,sdO D 731 0 0 0)::(702,sdO B 732 0 0 0)::[]) ?_ ?_
 .exact (Q_ 732 1 9)
 refine Rd aA<|Y aA<|Y (kc call20 (G _ ⟨Z,Z,Z,Z,T_⟩))<|V iJ<|Cn ?_ ?_<;>intro σ
 .cases σ
 refine aB<|S ?_;refine gK.ent (cJ.fzG (id:=731) (E':=[(0,.pv (aK D)),(1,.pv (aK B)),(5,bv A),(6,.ref 701 0 0 0),(7,.ref 702 0 0 0)]) (H':=[(701,sdF D ag ao),(702,sdO B 732 nb (C bg) bo),(732,Is nb bg)]) (ag.map S_) Z (cX _) ?_ Z ?_ T_) ?_
 .intro p hp;simp only[l9,q8,or_false]at hp;rcases hp with rfl|rfl|rfl|rfl|rfl<;>exact⟨_,Z,.same (by first|(simp;done)|(simp;rfl))⟩
 .exact⟨⟨_,Z,Z,Z,Z,kY Z (bG (.same H_) (bG (.osl (fV S_ ag)) (bG (.same H_) jV)))⟩,⟨_,Z,Z,Z,Z,dF u3⟩,⟨_,Z,Z,Z,Z,dF (aL _ _)⟩,T_⟩
 refine gK.ent (cJ.fzG (id:=732) (E':=[(0,.pv (aK D)),(1,.pv (aK B)),(5,bv A),(6,.ref 701 0 0 0),(7,.ref 702 0 0 0)]) (H':=[(701,sdF D ag ao),(702,sdF B bg bo)]) (bg.map S_) Z (cX _) ?_ Z ?_ T_) ?_
 .intro p hp;simp only[l9,q8,or_false]at hp;rcases hp with rfl|rfl|rfl|rfl|rfl<;>exact⟨_,Z,.same (by first|(simp;done)|(simp;rfl))⟩
 .exact⟨⟨_,Z,Z,Z,Z,dF H_⟩,⟨_,Z,Z,Z,Z,kY Z (bG (.same H_) (bG (.osl (fV S_ bg)) (bG (.same H_) jV)))⟩,T_⟩
 refine Rd aA<|Y (kc call19 (β _))<|Y aA<|Y dK<|Y dK<|Y aH<|V aH<|U aA<|Y (kc call19 (hoB _))<|Y aA<|Y dK<|Y dK<|Y aH<|V aH<|S<|aN a7<|Cp [905] (λH1 E=>by exact eR (id:=905) Z aY Z Z Z Z H_ ((E _ Z).trans Z))<|x_ aA<|Cp [905] (λH1 E=>by exact bU (ob:=⟨0,1,9,[]⟩) (k:=C D) (ps:=D.map S_) Z aY sX Z ((E _ Z).trans Z) Z Z Z Z Z (dV _) (g_ _) X (r8 _) (rows':=bP D) (by rw[Ä];exact(cX _).symm))<|Cr [701] (λ_ _=>aA)<|Cr [701] (λH1 E=>by exact cT Z Z ((E _ Z).trans Z) Z)<|Cr [701] (λ_ h=>fh F8 h)<|Cr [701] (λ_ h=>lh aG h)<|Cp [905] (λH1 E=>by exact bU (ob:=⟨1,1,9,bP D⟩) (k:=C (D++ag)) (ps:=ag.map S_) Z aY sX Z ((E _ Z).trans Z) Z Z Z (dB _) Z (dV _) (g_ _) X X (rows':=bP (D++ag)) (eO _ _)) ?_;refine Cp [905] (λH1 E=>by exact bH Z Z call19 Z ((hoP _ ((E _ Z).trans Z) Z Z Z)))<|Cr [905] (λ_ _=>aA)<|Cr [905] (λ_ _=>dK)<|Cr [905] (λ_ _=>dK)<|x_ aH<|x_ aH<|bF<|Kr<|S<|aN a7<|Cp [906] (λH1 E=>by exact eR (id:=906) Z aY Z Z Z Z H_ ((E _ Z).trans Z))<|x_ aA<|Cp [906] (λH1 E=>by exact bU (ob:=⟨0,1,9,[]⟩) (k:=C B) (ps:=B.map S_) Z aY sX Z ((E _ Z).trans Z) Z Z Z Z Z (dV _) (g_ _) X (r8 _) (rows':=bP B) (by rw[Ä];exact(cX _).symm))<|Cr [702] (λ_ _=>aA)<|Cr [702] (λH1 E=>by exact cT Z Z ((E _ Z).trans Z) Z)<|Cr [702] (λ_ h=>fh F8 h)<|Cr [702] (λ_ h=>lh aG h) ?_;refine Cp [906] (λH1 E=>by exact bU (ob:=⟨1,1,9,bP B⟩) (k:=C (B++bg)) (ps:=bg.map S_) Z aY sX Z ((E _ Z).trans Z) Z Z Z (dB _) Z (dV _) (g_ _) X X (rows':=bP (B++bg)) (eO _ _))<|Cp [906] (λH1 E=>by exact bH Z Z call19 Z ((hoQ _ ((E _ Z).trans Z) Z Z Z)))<|Cr [906] (λ_ _=>aA)<|Cr [906] (λ_ _=>dK)<|Cr [906] (λ_ _=>dK)<|x_ aH<|x_ aH<|bF<|Kr<|S<|U aA<|Y pQ<|Y (bC F8)<|Y (bT aG)<|Y aA<|Y (kc call21 (δ _))<|Y iJ<|Y aA<|O aA<|O pQ<|O (bC F8)<|O (bT aG)<|O aA<|O (kc call21 (γ _))<|O iJ<|V cE ?_;refine Cn ?_ ?_<;>intro ρ
 .cases ρ
 refine aB<|S<|aT (t:=4) (n:=14) (A_:=A) ?_ ?_
 .all_goals refine Y aA<|Dm ?_<;>(refine Sp 87 (λh87=>?_) λh87=>?_)<;>(try exact w_)<;>refine O aA<|O aA<|O (kc call16 (hsm _))<|O aA ?_<;>(refine Sp 91 (λh91=>?_) λh91=>?_)<;>(try exact w_)<;>(first|refine M<|M<|M ?_|refine O aA<|O aA<|O (kc call22 (o _)) ?_)<;>refine O cE<|Y cE<|Da ?_<;>exact Gj (h:=by first|rfl|exact r h91)
 exact aC<|Rt<|Qq
end Go.Proofs.C
