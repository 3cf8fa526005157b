/-
  Parts of the proof. Conditions: each theorem's own.
-/
import Derived.Test.YtopnleflllkbmaaGreatDoorKX4sM8
set_option linter.unusedVariables false
set_option linter.unusedSimpArgs false
set_option maxRecDepth 100000
set_option maxHeartbeats 8000000
open List Nat
open List renaming length->C
open Option renaming some->A,none->ζ
open Bool renaming true->N,false->η
open ByteArray renaming size->T,data->μ
open Array renaming toList->ν
open Decidable renaming decide->θ
open Go.IntKind renaming i64->ξ
open Go.Proofs.Tryz renaming prog->φ
open Go.Proofs.YtopnleflllkbmaaGreatDoor
namespace Go.Proofs.C
open Go.Proofs.Tryz
open Go.Abs Go.Lib
def tZ(p:l8):List PV:=[.str p.pre,.int .i64 (p.cnt:Int),.str p.sum,aL p.ids]
def R7(P:List l8):PV:=.sl (P.map tZ)
theorem Av(p:l8)(H:aF)(hl:C p.ids<=2000)(hs:∀s∈p.ids,T s<1000000):RC 61 [av (tZ p)] (bv (A4 p.pre p.ids&&θ (uI p.ids=p.sum))) H:=by
 refine aW.pure ?_ (by simp[tZ]) H;have ρ:C (p.ids.map S_)=C p.ids:=g_ _;have G:=TU p.pre p.ids;generalize A4 p.pre p.ids=I at G |-;refine Bd func61 Z ntmps61<|O (kb 1)<|V aJ<|S<|Sz aJ<|aD<|bC (σ:=Nat) (λk=>([(1,.ref 1 0 0 0),(3,iv (k:Int))],[(1,bx 4 92 ((tZ p).map .pv))])) (λk=>k<=C p.ids/\∀j x,j<k->p.ids[j]?=A x->(m6 x=N/\uJ p.pre x=N)/\∀(i:Nat) (y:B_),j=i+1->p.ids[i]?=A y->jI y x=N) (λk=>C p.ids - k) 0 ⟨k_ _,λj x h=>by omega⟩ ?_ ?_
 .exact Wk
 rintro k ⟨hk,B⟩;refine S<|O aA<|Y (bD pY)<|Y (bU aG)<|Y (fJ aE)<|V cF<|Cn ?_ ?_<;>intro Q
 .have hlt:k<C p.ids:=I_ Q
  have ⟨x,J⟩:=aR hlt;have hi:=cC (f:=S_) J;have κ:=hs x (m7 J);have ⟨y,hy⟩:∃y,y=p.ids.getD (k - 1) a6:=X_;have K:(0:Int)<(k:Int)->p.ids[k - 1]?=A y:=λh=>by
   have ⟨z,L⟩:=aR (l:=p.ids) (k:=k - 1) X;rw[hy,getD_eq_getElem?_getD,L];rfl
  have g:=λh=>cC (f:=S_) (K h);have D:=λH=>W1 x X H;have E:=λH=>lr x p.pre H;have ⟨a,m⟩:∃a,a=m6 x:=X_;have ⟨b,o⟩:∃b,b=uJ p.pre x:=X_;have c:((!a||!b)||(θ ((0:Int)<(k:Int))&&!jI y x))=η->(m6 x=N/\uJ p.pre x=N)/\∀(i:Nat) (z:B_),k=i+1->p.ids[i]?=A z->jI z x=N:=λh=>by
   rw[r6,r6,Bool.not_eq_false',Bool.not_eq_false',m,o]at h;refine⟨h.1,λi z e L=>?_⟩;have F:(0:Int)<(k:Int):=X
   have w:=h.2;rw[decide_eq_true F,Bool.true_and,Bool.not_eq_false']at w;have:=K F;rw[show k - 1=i by omega,L]at this;cases this;exact w
  have W:((!a||!b)||(θ ((0:Int)<(k:Int))&&!jI y x))=N->I=η:=λh=>by
   cases r:I with
   |false=>rfl
   |true =>
    have ⟨⟨q1,q2⟩,q3⟩:=G.1 r k x J;rw[<-m]at q1;rw[<-o]at q2;rw[q1,q2,Bool.not_true,Bool.or_false,Bool.false_or,l6,j0,r9]at h;have:=q3 (k - 1) y X (K h.1);rw[h.2]at this;cases this
  have ⟨A_,P⟩:∃A_,A_=((!a||!b)||(θ ((0:Int)<(k:Int))&&!jI y x)):=X_;rw[<-P]at c W;rw[<-m]at D;rw[<-o]at E;clear m o;refine aB<|S<|aD<|S<|lL (t:=46) (n:=36) (A_:=A_) ?_ ?_
  .cases a with
   |false =>
    refine aN a7<|Cq (bD pY)<|Cq (bU aG)<|Cq aA<|Cq (kx aZ hi)<|Cq (fK N_ (hi:=hi))<|Cq (kc vJ (D _))<|Cq iE<|Cq aA<|Of<|Of<|Of<|Of<|Of<|Of<|Of<|Of<|Of<|Cq cE<|Cq aA<|Of<|Of<|Of<|Ou<|Ou<|Ou<|Ou<|Ou<|Ou<|Ou<|Ou<|Ou<|Ou<|Ou<|Ou<|Of<|Cq cE<|bG<|Kr ?_;exact⟨Z,⟨_,Z,(by rw[P];rfl)⟩,Z,Z,Z⟩
   | true =>
    cases b with
    |false =>
     refine aN a7<|Cq (bD pY)<|Cq (bU aG)<|Cq aA<|Cq (kx aZ hi)<|Cq (fK N_ (hi:=hi))<|Cq (kc vJ (D _))<|Cq iE<|Cq aA<|Nf (bD pY)<|Nf (bU aG)<|Nf aA<|Nf (kx aZ hi)<|Nf (fK N_ (hi:=hi))<|Nf (bD JI)<|Nf (bU N_)<|Nf (kc call94 (E _))<|Nf iE<|Cq cE<|Cq aA<|Of<|Of<|Of<|Ou<|Ou<|Ou<|Ou<|Ou<|Ou<|Ou<|Ou<|Ou<|Ou<|Ou<|Ou<|Of<|Cq cE<|bG<|Kr ?_;exact⟨Z,⟨_,Z,(by rw[P];rfl)⟩,Z,Z,Z⟩
    |true =>
     by_cases F:(0:Int)<(k:Int)
     .have e:θ ((0:Int)<(k:Int))=N:=decide_eq_true F;refine aN a7<|Cq (bD pY)<|Cq (bU aG)<|Cq aA<|Cq (kx aZ hi)<|Cq (fK N_ (hi:=hi))<|Cq (kc vJ (D _))<|Cq iE<|Cq aA<|Nf (bD pY)<|Nf (bU aG)<|Nf aA<|Nf (kx aZ hi)<|Nf (fK N_ (hi:=hi))<|Nf (bD JI)<|Nf (bU N_)<|Nf (kc call94 (E _))<|Nf iE<|Cq cE<|Cq aA<|Nf aA<|Nf iZ<|Nf aA<|Nt (bD pY)<|Nt (bU aG)<|Nt aA<|Nt (by exact dV Z Z Z (show ξ.wrap ((k:Int) - 1)=((k - 1:Nat):Int)by rw[lZ X X];omega))<|Nt (bS Z aZ Z Z X (l_ _) (g F) Z)<|Nt (eB Z N_ Z (g F) Z) ?_;refine Nt (bD pY)<|Nt (bU aG)<|Nt aA<|Nt (kx aZ hi)<|Nt (fK N_ (hi:=hi))<|Nt (KY Z Z Z)<|Nf BO<|Cq cE<|bG<|Kr ?_;exact⟨Z,⟨_,Z,(by rw[P,e];rfl)⟩,Z,Z,Z⟩
     have e:θ ((0:Int)<(k:Int))=η:=decide_eq_false F;refine aN a7<|Cq (bD pY)<|Cq (bU aG)<|Cq aA<|Cq (kx aZ hi)<|Cq (fK N_ (hi:=hi))<|Cq (kc vJ (D _))<|Cq iE<|Cq aA<|Nf (bD pY)<|Nf (bU aG)<|Nf aA<|Nf (kx aZ hi)<|Nf (fK N_ (hi:=hi))<|Nf (bD JI)<|Nf (bU N_)<|Nf (kc call94 (E _))<|Nf iE<|Cq cE<|Cq aA<|Nf aA<|Nf iZ<|Nf aA<|Ot<|Ot<|Ot<|Ot<|Ot<|Ot<|Ot<|Ot<|Ot<|Ot<|Ot<|Ot<|Nf rD<|Cq cE<|bG<|Kr ?_;exact⟨Z,⟨_,Z,(by rw[P,e];rfl)⟩,Z,Z,Z⟩
  refine Cn ?_ ?_<;>intro R
  .rw[W R];exact Sz aJ<|aC<|Rt<|Qq
  have d:=c R;refine aB<|Rd aA<|Y kp<|Da ?_;refine⟨k+1,⟨X,λj z hj L=>?_⟩,X,Wk⟩;by_cases e:j=k
  .subst e;rw[J]at L;cases L;exact d
  exact B j z X L
 have τ:k=C p.ids:=J_ Q
 have B:∀(j:Nat) (x:B_),p.ids[j]?=A x->(m6 x=N/\uJ p.pre x=N)/\∀(i:Nat) (y:B_),j=i+1->p.ids[i]?=A y->jI y x=N:=λj x J=>B j x (by have:=(m_.1 J).1;omega) J;have q:I=N:=G.2 B;rw[q,Bool.true_and];have u:=λH=>P7 p.ids hl (λs v=>by
  have ⟨j,hj⟩:=s8.1 v;have:=iW (B j s hj).1.1;omega) H
 exact aP<|S<|aN a7<|Cq (bD pY)<|Cq (bU aG)<|Cq (kc call52 (u _))<|Cq (bD sb)<|Cq (bU N_)<|Cq vT<|Cq aJ<|bG<|Kr<|aC<|Rt<|Qq
def VM:Nat->List B_->Option (List l8×List B_)
 |0,l=>A ([],l)
 |n+1,a::b::c::r =>
  if((!qW a||θ (eT b<0))||!m6 c)=N then ζ
  else if eT b<=16 then(if(C r:Int)<eT b then ζ else if(A4 a (r.take (eT b).toNat)&&θ (uI (r.take (eT b).toNat)=c))=N then(VM n (r.drop (eT b).toNat)).map (λq=>(⟨a,(eT b).toNat,c,r.take (eT b).toNat⟩::q.1,q.2))else ζ)
  else(VM n r).map (λq=>(⟨a,(eT b).toNat,c,[]⟩::q.1,q.2))
 |_,_=>ζ
theorem aAc{a:B_}{l:List B_}{P:List l8}(h:SV (a::l)=A P):P≠[]:=by
 match l,h with
 | [],h=>rw[KR H_ H_]at h;cases h
 | [b],h=>rw[KR H_ H_]at h;cases h
 | b::c::r,h =>
  by_cases B:((!qW a||θ (eT b<0))||!m6 c)=N
  .rw[Z4 r B]at h;cases h
  rw[SU r (by simpa using B)]at h;rintro rfl
  split at h
  .split at h
   .cases h
   split at h
   .have ⟨q,_,e⟩:=Option.map_eq_some_iff.1 h;cases e
   cases h
  have ⟨q,_,e⟩:=Option.map_eq_some_iff.1 h;cases e
theorem Z3:∀(n:Nat) (l:List B_) (P:List l8),VM n l=A (P,[])↔SV l=A P/\C P=n
 |0,l,P=>by
  rw[VM];constructor
  .intro h;cases h;exact⟨QD,Z⟩
  rintro⟨B,E⟩;have J:=length_eq_zero_iff.1 E;subst J;cases l with
  |nil=>rfl
  |cons a l=>exact absurd Z (aAc B)
 |n+1,[],P=>by
  rw[show VM (n+1) []=ζ from Z,QD];constructor
  .intro h;cases h
  rintro⟨B,E⟩;cases B;cases E
 |n+1,[a],P=>by
  rw[show VM (n+1) [a]=ζ from Z,KR H_ H_];constructor
  .intro h;cases h
  rintro⟨B,E⟩;cases B
 |n+1,[a,b],P=>by
  rw[show VM (n+1) [a,b]=ζ from Z,KR H_ H_];constructor
  .intro h;cases h
  rintro⟨B,E⟩;cases B
 | n+1,a::b::c::r,P=>by
  rw[VM];by_cases F:((!qW a||θ (eT b<0))||!m6 c)=N
  .rw[b6 F,Z4 r F];constructor
   .intro h;cases h
   rintro⟨B,E⟩;cases B
  rw[a8 F,SU r (by simpa using F)];have key:∀(p:l8) (t:List B_),((VM n t).map (λq=>(p::q.1,q.2))=A (P,[])↔(SV t).map (p::·)=A P/\C P=n+1):=λp t=>by
   rw[Option.map_eq_some_iff,Option.map_eq_some_iff];constructor
   .rintro⟨⟨Q,z⟩,B,E⟩;cases E;have ⟨G,H⟩:=(Z3 n t Q).1 B;exact⟨⟨Q,G,Z⟩,by rw[j6,H]⟩
   rintro⟨⟨Q,G,rfl⟩,H⟩;exact⟨(Q,[]),(Z3 n t Q).2 ⟨G,by simpa using H⟩,Z⟩
  have D:((ζ:Option (List l8×List B_))=A (P,[])↔(ζ:Option (List l8))=A P/\C P=n+1):=⟨(λh=>by cases h),(λh=>by have:=h.1;cases this)⟩
  split
  .next h16 =>
   have I:AX ⟨a,(eT b).toNat,c,r.take (eT b).toNat⟩=(A4 a (r.take (eT b).toNat)&&θ (uI (r.take (eT b).toNat)=c)):=by
    rw[AX,decide_eq_true (show (((⟨a,(eT b).toNat,c,r.take (eT b).toNat⟩:l8).cnt:Nat):Int)<=16 by show ((eT b).toNat:Int)<=16;omega)];rfl
   rw[I]
   split
   .exact D
   split
   .exact key _ _
   exact D
  exact key _ _
def E9(m4:Int)(l:List B_):List l8×Bool:=match VM m4.toNat l with
 |none=>([],η)
 |some (P,t)=>(P,θ (1<=m4)&&θ (t=[]))
def wQ(m:B_):List l8×Bool:=if VZ (qC (ν (μ m)))=N then([],η)else match qC (ν (μ m)) with
 |some (_::n::r)=>E9 (eT n) r
 |_=>([],η)
theorem ph(m:B_):(wQ m).2=θ (wB m≠[])/\((wQ m).2=N->(wQ m).1=wB m):=by
 rw[wQ];by_cases hX:VZ (qC (ν (μ m)))=N
 .rw[b6 hX,ig hX];exact⟨Z,λh=>by cases h⟩
 rw[a8 hX];obtain ⟨n,r,e1,e2⟩:=ar (by simpa using hX);rw[e1,e2];show (E9 (eT n) r).2=_/\((E9 (eT n) r).2=true->(E9 (eT n) r).1=_);have hlt:=GZ n;generalize eT n=v at hlt |-;have hiff:=Z3 v.toNat r;rw[E9];cases hp:VM v.toNat r with
 | none =>
  rw[hp]at hiff;refine⟨?_,λh=>by cases h⟩;symm;apply decide_eq_false;intro h;apply h;cases hq:SV r with
  |none=>rfl
  |some P =>
   show (if(C P:Int)=v then P else[])=[]
   split
   .next e=>have:=(hiff P).2 ⟨hq,X⟩;cases this
   rfl
 | some q =>
  have ⟨P,t⟩:=q;rw[hp]at hiff;show (θ (1<=v)&&θ (t=[]))=_/\((θ (1<=v)&&θ (t=[]))=N->P=_);by_cases ht:t=[]
  .subst ht;have ⟨e1,e2⟩:=(hiff P).1 Z;rw[e1];show (θ (1<=v)&&N)=θ ((if(C P:Int)=v then P else[])≠[])/\_;by_cases h1:1<=v
   .rw[b6 X,decide_eq_true h1];have hP:P≠[]:=λe=>by rw[e]at e2;simp at e2;omega
    refine⟨by rw[decide_eq_true hP];rfl,λ_=>?_⟩;show P=if(C P:Int)=v then P else[]
    rw[b6 X]
   rw[decide_eq_false h1];refine⟨?_,λh=>by cases h⟩;symm;apply decide_eq_false;intro h;apply h
   split
   .next e=>exact length_eq_zero_iff.1 X
   rfl
  rw[decide_eq_false ht,Bool.and_false];refine⟨?_,λh=>by cases h⟩;symm;apply decide_eq_false;intro h;apply h;cases hq:SV r with
  |none=>rfl
  | some Q =>
   show (if(C Q:Int)=v then Q else[])=[]
   split
   .next e =>
    have:=(hiff Q).2 ⟨hq,X⟩;cases this;exact absurd Z ht
   rfl
theorem gm(P:List l8):∀r∈P.map tZ,C r=4:=λr B=>by
 obtain ⟨p,_,rfl⟩:=mem_map.1 B;rfl
abbrev S1(P:List l8):List (List AV):=Bf (P.map tZ)
theorem Fin.p52{H1:aF}{id g n:Nat}{ob:Ob}(l:List l8)(v:AV)(D:H1.get id=A ob)(E:ob.g=g)(B:ob.rows=S1 l)(F:n=C l)(G:Clo [] v):
  Fin [] H1 (.tup [.osl id g 0 n,v]) [] (.tup [.pv (R7 l),v]):=by
 subst F E;exact Fin.fz (id:=id) (ob:=ob) (l.map tZ) D B (.tup Z (bJ (.osl (lE tZ l)) (bJ (.same G) kG))) Z T_ T_
theorem Bl(t:B_)(H:aF)(ht:T t<1000000):RC 23 [sv t] (.tup [.pv (R7 (wQ t).1),bv (wQ t).2]) H:=by
 refine Pu ?_;have G:=λH=>WW (ν (μ t)) H v7;rw[fU]at G;have hy:VZ (qC (ν (μ t)))=N->wQ t=([],η):=λh=>by rw[wQ,b6 h]
 have hn:VZ (qC (ν (μ t)))=η->∃n r,qC (ν (μ t))=A (eR::n::r)/\wQ t=E9 (eT n) r:=λh=>by
  have ⟨n,r,e,_⟩:=ar h;exact⟨n,r,e,by rw[wQ,a8 (by rw[h];decide),e]⟩
 have I:∀s∈(qC (ν (μ t))).getD [],T s<1000000:=λs g=>by
  cases h:qC (ν (μ t)) with
  |none=>rw[h]at g;cases g
  |some L =>
   rw[h]at g;have:=(tI _ _ L (h_ _) h).2 s g;rw[aU]at this;omega
 have γ:C ((qC (ν (μ t))).getD [])<1000000:=by
  cases h:qC (ν (μ t)) with
  |none=>exact zero_lt_succ _
  |some L =>
   have:=(tI _ _ L (h_ _) h).1;rw[aU]at this;show C L<_;omega
 generalize qC (ν (μ t))=z at G hy hn I γ;have hX:VZ z=((!z.isSome||θ ((C ((z.getD []).map S_):Int)<2))||!θ ((z.getD []).headD a6=eR)):=rfl;generalize wQ t=W at hy hn |-;have ⟨o,ho⟩:∃o,o=z.isSome:=X_;have ⟨L,hL⟩:∃L,L=z.getD []:=X_;have hzL:∀e_,z=A e_->L=e_:=λe_ h=>by rw[hL,h];rfl
 rw[<-ho,<-hL]at G hX;rw[<-hL]at I γ;generalize VZ z=A_ at hX hy hn;have hn:A_=η->∃n r,L=eR::n::r/\W=E9 (eT n) r:=λh=>by
  have ⟨n,r,e1,D⟩:=hn h;exact⟨n,r,hzL _ e1,D⟩
 clear ho hL hzL;have h0:¬ ((C (L.map S_):Int)<2)->(L.map S_)[0]?=A (S_ (L.headD a6)):=λh=>by
  cases L with
  |nil=>exact absurd E_ h
  |cons a L=>rfl
 refine Bd func23 Z ntmps23<|O aJ<|V aJ<|O aA<|Y (kc call58 (G _))<|Y aA<|Y dL<|Y dL<|Y aJ<|V aJ<|S<|S<|aT (t:=28) (n:=15) (A_:=A_) ?_ ?_
 .all_goals refine Y aA<|Y iE<|Dm ?_<;>(refine Sp 18 (λh18=>?_) λh18=>?_)<;>(try exact w_)<;>(first|refine M<|M<|M ?_|refine U aA<|U (fJ aE)<|U cF ?_)<;>refine Y cE<|Dm ?_<;>(refine Sp 23 (λβ=>?_) λβ=>?_)<;>(try exact w_)<;>(first|refine M<|M<|M<|M ?_|refine U aA<|U (bS Z aZ Z Z X (l_ _) (h0 (b_ β)) Z)<|U (eB Z N_ Z (h0 (b_ β)) Z)<|U EN ?_)<;>refine V cE ?_<;>exact Gj (h:=by rw[hX];first|(rw[h18];rfl)|(rw[h18,β];rfl))
 refine Cn ?_ ?_<;>intro hc1
 .rw[hy hc1];refine O aJ<|V aJ<|aC<|fO (H':=[]) (.inr Z) Z (aI Z) (aI Z) (P_ (r:=.tup [.pv (R7 []),bv η])) ?_;exact Qq
 have ⟨n,B,e1,D⟩:=hn hc1;subst e1;have E:C ((eR::n::B).map S_)=C B+2:=g_ _;have d:∀s∈B,T s<1000000:=λs g=>I s (by simp[g]);have κ:=λH=>TC (ν (μ n)) H (by have:=I n H_;rw[aU];omega);rw[fU]at κ;have hlt:=GZ n;generalize eT n=m4 at κ D hlt;rw[E9]at D;simp only[j6]at γ;have F:∀(j:Nat) (x:B_),B[j]?=A x->((eR::n::B).map S_)[2+j]?=A (S_ x):=λj x hx=>by
  rw[Nat.add_comm];show (B.map S_)[j]?=_;rw[r7,hx];rfl
 have u:∀j:Nat,((eR::n::B).map S_).drop (2+j)=(B.drop j).map S_:=λj=>by
  rw[Nat.add_comm];show (B.map S_).drop j=_;rw[map_drop]
 clear hX hn hy I h0 G;have ⟨Q,hQ⟩:∃Q,Q=(eR::n::B).map S_:=X_;refine aB<|O aA<|Y (bS Z aZ Z Z X (l_ _) (show ((eR::n::B).map S_)[1]?=A (S_ n)from Z) Z)<|Y (eB Z N_ Z (show ((eR::n::B).map S_)[1]?=A (S_ n)from Z) Z)<|Y (kc call59 (κ _))<|V aJ<|Sz (cZ (id:=905) (sz:=4) (ty:=92) Z Z Z)<|Sz aJ<|S<|Sz aJ<|aD<|dU (λ(j:Nat) (P:List l8)=>([(4,.pv (aL (eR::n::B))),(6,iv m4),(7,.osl 905 (C P) 0 (C P)),(8,iv ((2+j:Nat):Int)),(9,iv (C P:Int))],[(905,⟨C P,4,92,S1 P⟩)])) (λj P=>j<=C B/\C P<=j/\C P<=m4.toNat/\VM m4.toNat B=(VM (m4.toNat - C P) (B.drop j)).map (λq=>(P++q.1,q.2))) (λj P=>C B - j) 0 [] ⟨k_ _,h_ _,k_ _,by show _=(VM m4.toNat B).map _;cases VM m4.toNat B<;>rfl⟩ ?_ ?_
 .exact Wk
 rintro j P ⟨hj,hPj,hPN,hpt⟩;refine S<|O aA<|Y aA<|V cF<|Cn ?_ ?_<;>intro hc2
 .have hPN2:C P<m4.toNat:=I_ hc2
  have ⟨m,hm⟩:∃m,m4.toNat - C P=m+1:=⟨m4.toNat - C P - 1,X⟩;rw[hm]at hpt;refine aB<|S<|aD<|S<|O aA<|Y (by exact dB Z Z Z (show ξ.wrap (((2+j:Nat):Int)+3)=((2+(j+3):Nat):Int)by rw[lZ X X];omega))<|Y aA<|Y (fJ aE)<|V iZ ?_;refine Cn ?_ ?_<;>intro hc3
  .have hshort:C B<j+3:=by have:=b8 hc3;rw[E]at this;omega
   have δ:VM (m+1) (B.drop j)=ζ:=by
    have hl:C (B.drop j)<3:=by rw[q6];omega
    generalize B.drop j=l at hl
    match l,hl with
    | [],_=>rfl
    | [a],_=>rfl
    | [a,b],_=>rfl
   rw[hpt,δ]at D;rw[D];refine O aJ<|V aJ<|aC<|fO (H':=[]) (.inr Z) Z (aI Z) (aI Z) (P_ (r:=.tup [.pv (R7 []),bv η])) ?_;exact Qq
  have ρ:j+3<=C B:=by have:=b_ hc3;rw[E]at this;omega
  have ⟨a,w⟩:=aR (l:=B) (k:=j) X;have ⟨b,y⟩:=aR (l:=B) (k:=j+1) X;have ⟨c,τ⟩:=aR (l:=B) (k:=j+2) X;have hdr:B.drop j=a::b::c::B.drop (j+3):=by
   have ⟨i1,e1⟩:=m_.1 w;have ⟨i2,D⟩:=m_.1 y;have ⟨i3,e3⟩:=m_.1 τ;rw[drop_eq_getElem_cons i1,drop_eq_getElem_cons i2,drop_eq_getElem_cons i3,e1,D,e3]
  have hal:=d a (m7 w);have hbl:=d b (m7 y);have hcl:=d c (m7 τ);have hia:=F _ _ w;have hib:=F _ _ y;have hic:=F _ _ τ;have hvl:=GZ b;have K:=λH=>TC (ν (μ b)) H v7;rw[fU]at K;have p:=λH=>sk a H X;have σ:=λH=>W1 c X H;rw[hdr,VM]at hpt;generalize eT b=v at hpt K hvl;generalize qW a=pa at hpt p;generalize m6 c=jc at hpt σ;have ⟨y_,hY⟩:∃y_,y_=((!pa||θ (v<0))||!jc):=X_;rw[<-hY]at hpt;refine aB<|S<|aN a7<|x_ aA<|x_ aA<|x_ (by exact bS Z aZ Z Z X (l_ _) hia Z)<|x_ ((fK N_ (hi:=hia)))<|x_ aA<|x_ aA<|x_ (by exact dB Z Z Z (show ξ.wrap (((2+j:Nat):Int)+1)=((2+(j+1):Nat):Int)by rw[lZ X X];omega))<|x_ (by exact bS Z aZ Z Z X (l_ _) hib Z)<|x_ ((fK N_ (hi:=hib)))<|x_ (by exact bH Z Z call59 Z (K _))<|x_ aA<|x_ aA<|x_ (by exact dB Z Z Z (show ξ.wrap (((2+j:Nat):Int)+2)=((2+(j+2):Nat):Int)by rw[lZ X X];omega)) ?_;refine x_ (by exact bS Z aZ Z Z X (l_ _) hic Z)<|x_ ((fK N_ (hi:=hic)))<|x_ ((pB aFP))<|Cp [10] (λH1 hH=>by exact CT (id:=10) Z aCR Z ((hH _ Z).trans Z))<|Cp [10] (λ_ h=>sa sizeOf92 h)<|bG<|Kr<|O aA<|Y (by exact dB Z Z Z (show ξ.wrap (((2+j:Nat):Int)+3)=((2+(j+3):Nat):Int)by rw[lZ X X];omega))<|V aJ<|S<|S ?_;refine aT (t:=75) (n:=17) (A_:=y_) ?_ ?_
  .all_goals refine Y (bD JI)<|Y (bU N_)<|Y (kc call60 (p _))<|Y iE<|Dm ?_<;>(refine Sp 65 (λh65=>?_) λh65=>?_)<;>(try exact w_)<;>(first|refine M<|M<|M ?_|refine U (bD FW)<|U (bU M_)<|U cF ?_)<;>refine Y cE<|Dm ?_<;>(refine Sp 70 (λh70=>?_) λh70=>?_)<;>(try exact w_)<;>(first|refine M<|M<|M<|M ?_|refine U (bD sb)<|U (bU N_)<|U (kc vJ (σ _))<|U iE ?_)<;>refine V cE ?_<;>exact Gj (h:=by rw[hY];first|(rw[h65];rfl)|(rw[h65,h70];rfl))
  refine Cn ?_ ?_<;>intro hc4
  .rw[b6 hc4]at hpt;rw[hpt]at D;rw[D];refine O aJ<|V aJ<|aC<|fO (H':=[]) (.inr Z) Z (aI Z) (aI Z) (P_ (r:=.tup [.pv (R7 []),bv η])) ?_;exact Qq
  have hYf:y_=η:=hc4;rw[a8 (by rw[hYf];decide)]at hpt;have hv0:0<=v:=by
   rw[hYf]at hY;have:=hY.symm;rw[r6,r6,n_]at this;omega
  obtain ⟨k,rfl⟩:∃k:Nat,v=(k:Int):=⟨v.toNat,X⟩;rw[l_]at hpt;clear hY K p σ;refine aB<|eU (λ(q:List B_×Nat)=>([(4,.pv (aL (eR::n::B))),(6,iv m4),(7,.osl 905 (C P) 0 (C P)),(8,iv ((2+q.2:Nat):Int)),(9,iv (C P:Int)),(10,.ref 10 0 0 0)],[(10,bx 4 92 [sv a,iv (k:Int),sv c,.pv (aL q.1)]),(905,⟨C P,4,92,S1 P⟩)])) (λq=>j+3<=q.2/\q.2<=C B/\VM m4.toNat B=((VM m (B.drop q.2)).map (λz=>(⟨a,k,c,q.1⟩::z.1,z.2))).map (λz=>(P++z.1,z.2))) ?_ ?_
  .refine O (bD FW)<|Y (bU M_)<|V EQ<|Cn ?_ ?_<;>intro hc5
   .have h16:(k:Int)<=16:=b8 hc5;rw[b6 h16]at hpt;refine S<|O aA<|Y (bD FW)<|Y (bU M_)<|Y (by exact dB Z Z Z (show ξ.wrap (((2+(j+3):Nat):Int)+(k:Int))=((2+(j+3+k):Nat):Int)by rw[lZ X X];omega))<|Y aA<|Y (fJ aE)<|V iZ ?_;refine Cn ?_ ?_<;>intro hc6
    .have hgt:(C (B.drop (j+3)):Int)<(k:Int):=by have:=b8 hc6;rw[E]at this;rw[q6];omega
     rw[b6 hgt]at hpt;rw[hpt]at D;rw[D];refine O aJ<|V aJ<|aC<|fO (H':=[]) (.inr Z) Z (aI Z) (aI Z) (P_ (r:=.tup [.pv (R7 []),bv η])) ?_;exact Qq
    have hgt:j+3+k<=C B:=by have:=b_ hc6;rw[E]at this;omega
    rw[a8 u5]at hpt;have i:(((eR::n::B).map S_).take (2+(j+3+k))).drop (2+(j+3))=((B.drop (j+3)).take k).map S_:=by
     rw[drop_take,u,show 2+(j+3+k) - (2+(j+3))=k by omega,map_take]
    have hq:C ((B.drop (j+3)).take k)<=2000:=by rw[q9];omega
    have f:=λH=>Av ⟨a,k,c,(B.drop (j+3)).take k⟩ H hq (λs g=>d s (mem_of_mem_drop (mem_of_mem_take g)));rw[drop_drop]at hpt;simp only at f;generalize (B.drop (j+3)).take k=J at hpt i f hq;generalize (A4 a J&&θ (uI J=c))=rb at hpt f;refine aB<|O aA<|Y aA<|Y aA<|Y (bD FW)<|Y (bU M_)<|Y (by exact dB Z Z Z (show ξ.wrap (((2+(j+3):Nat):Int)+(k:Int))=((2+(j+3+k):Nat):Int)by rw[lZ X X];omega))<|Y (by exact eG (l:=2+(j+3)) (h:=2+(j+3+k)) Z aZ Z (dX (eR::n::B)) Z Z X (by rw[E];omega) i)<|Y (bD pY)<|Uu (ku sizeOf22)<|Zz<|O aA<|Y (bD FW)<|Y (bU M_)<|Y (by exact dB Z Z Z (show ξ.wrap (((2+(j+3):Nat):Int)+(k:Int))=((2+(j+3+k):Nat):Int)by rw[lZ X X];omega))<|V aJ<|O (by exact aX Z isAgg92 sizeOf92 Z Z Z Z (by simp only[Zl,S_,tZ];rfl) Z) ?_;refine Y (kc call61 (f _))<|V iE<|Cn ?_ ?_<;>intro hc7
    .rw[a8 (by have h:=hc7;intro e;rw[e]at h;cases h)]at hpt;rw[hpt]at D;rw[D];refine O aJ<|V aJ<|aC<|fO (H':=[]) (.inr Z) Z (aI Z) (aI Z) (P_ (r:=.tup [.pv (R7 []),bv η])) ?_;exact Qq
    rw[b6 (pE hc7)]at hpt;refine aB ?_;exact⟨(J,j+3+k),⟨by simp only;omega,by simp only;omega,hpt⟩,Wk⟩
   rw[a8 (b_ hc5)]at hpt;refine aB ?_;exact⟨([],j+3),⟨h_ _,ρ,hpt⟩,Wk⟩
  rintro⟨J,j2⟩ ⟨hj2,hj3,hq⟩;simp only at hj2 hj3 hq;refine Rd aA<|Y (by exact aX Z isAgg92 sizeOf92 Z Z Z Z (by simp only[Zl,S_,tZ];rfl) Z)<|Y (aM [tZ ⟨a,k,c,J⟩] Z aAS Z Z Z Z Z (gm [⟨a,k,c,J⟩]))<|Y (by exact bW (k:=C P+1) (ps:=[tZ ⟨a,k,c,J⟩]) Z aAS aFJ Z Z Z Z Z (by rw[KM,g_]) Z (gm [⟨a,k,c,J⟩]) (m:=1) Z X Z (rows':=S1 (P++[⟨a,k,c,J⟩])) (by rw[S1,S1,map_append,Bf,Bf,map_append];rfl))<|V aJ<|Rd aA<|Y kp<|Da ?_;have R:C (P++[(⟨a,k,c,J⟩:l8)])=C P+1:=by rw[j8];rfl
  refine⟨j2,P++[⟨a,k,c,J⟩],⟨hj3,by rw[R];omega,by rw[R];omega,?_⟩,X,?_⟩
  .rw[hq,R,show m4.toNat - (C P+1)=m by omega];cases VM m (B.drop j2)with
   |none=>rfl
   |some z=>simp
  dsimp only;rw[R];exact L_
 have hge:m4.toNat<=C P:=J_ hc2
 have hPl:C (S1 P)=C P:=by rw[KM,g_]
 rw[show m4.toNat - C P=0 by omega,VM]at hpt;rw[hpt]at D;have e3:W=(P,θ (1<=m4)&&θ (B.drop j=[])):=by
  rw[D];show (P++[],_)=_;rw[append_nil]
 have hdt:θ (B.drop j=[])=θ (((2+j:Nat):Int)=(C ((eR::n::B).map S_):Int)):=by
  rw[E];exact decide_eq_decide.2 ⟨λh=>by have:=congrArg List.length h;rw[q6]at this;simp at this;omega,λh=>drop_eq_nil_of_le X⟩
 rw[hdt]at e3;rw[e3];by_cases h1:1<=m4
 .have e:θ (1<=m4)=N:=decide_eq_true h1;refine aP<|O aA<|Y aA<|Y AN<|Y aA<|Oa aA<|Oa aA<|Oa (fJ aE)<|Oa cG<|Y BO<|Y aJ<|V aJ<|aC ?_;refine fO (H':=[]) (.inr Z) Z (aI Z) (aI Z) (Fin.p52 (id:=905) P (bv (θ (((2+j:Nat):Int)=(C ((eR::n::B).map S_):Int)))) Z Z Z Z H_) ?_;exact⟨by rw[e];rfl,Z⟩
 have e:θ (1<=m4)=η:=decide_eq_false h1;refine aP<|O aA<|Y aA<|Y AN<|Y aA<|Fa<|Fa<|Fa<|Fa<|Y rD<|Y aJ<|V aJ<|aC ?_;refine fO (H':=[]) (.inr Z) Z (aI Z) (aI Z) (Fin.p52 (id:=905) P (bv η) Z Z Z Z H_) ?_;exact⟨by rw[e];rfl,Z⟩
theorem ni(t:B_)(H:aF)(ht:T t<1000000):RC 24 [sv t] (.tup [.pv (aL (vS t)),bv (θ (vS t≠[]))]) H:=by
 refine Pu ?_;have B:=λH=>WW (ν (μ t)) H v7;rw[fU]at B;have F:=ef (t:=t);have K:=um (t:=t);have P:∀s∈(qC (ν (μ t))).getD [],T s<1000000:=λs u=>by
  cases h:qC (ν (μ t)) with
  |none=>rw[h]at u;cases u
  |some L =>
   rw[h]at u;have:=(tI _ _ L (h_ _) h).2 s u;rw[aU]at this;omega
 have k:C ((qC (ν (μ t))).getD [])<1000000:=by
  cases h:qC (ν (μ t)) with
  |none=>exact zero_lt_succ _
  |some L =>
   have:=(tI _ _ L (h_ _) h).1;rw[aU]at this;show C L<_;omega
 generalize qC (ν (μ t))=z at B F K P k;have G:Gs z=(((!z.isSome||θ ((C ((z.getD []).map S_):Int)<2))||!θ ((z.getD []).headD a6=mJ))||((z.getD []).drop 1).any oddJ):=rfl;generalize vS t=W at F K |-;rw[G]at F K;have ⟨o,ho⟩:∃o,o=z.isSome:=X_;have ⟨L,hL⟩:∃L,L=z.getD []:=X_;rw[<-ho,<-hL]at B F K;rw[<-hL]at P k;clear G ho hL;have D:C (L.map S_)=C L:=g_ _;have ⟨A_,G⟩:∃A_,A_=((!o||θ ((C (L.map S_):Int)<2))||!θ (L.headD a6=mJ)):=X_;rw[<-G]at F K;have κ:(L.map S_).drop 1=(L.drop 1).map S_:=map_drop.symm;have w:¬ ((C (L.map S_):Int)<2)->(L.map S_)[0]?=A (S_ (L.headD a6)):=λh=>by
  cases L with
  |nil=>exact absurd E_ h
  |cons a L=>rfl
 have E:A_=η->2<=C L:=λh=>by
  rw[G,r6,r6,n_,D]at h;omega
 refine Bd func24 Z ntmps24<|O aJ<|V aJ<|O aA<|Y (kc call58 (B _))<|Y aA<|Y dL<|Y dL<|Y aJ<|V aJ<|S<|S<|aT (t:=24) (n:=15) (A_:=A_) ?_ ?_
 .all_goals refine Y aA<|Y iE<|Dm ?_<;>(refine Sp 14 (λτ=>?_) λτ=>?_)<;>(try exact w_)<;>(first|refine M<|M<|M ?_|refine U aA<|U (fJ aE)<|U cF ?_)<;>refine Y cE<|Dm ?_<;>(refine Sp 19 (λQ=>?_) λQ=>?_)<;>(try exact w_)<;>(first|refine M<|M<|M<|M ?_|refine U aA<|U (bS Z aZ Z Z X (l_ _) (w (b_ Q)) Z)<|U (eB Z N_ Z (w (b_ Q)) Z)<|U EN ?_)<;>refine V cE ?_<;>exact Gj (h:=by rw[G];first|(rw[τ];rfl)|(rw[τ,Q];rfl))
 refine Cn ?_ ?_<;>intro b
 .rw[F (by rw[show A_=N from b];rfl)];refine O aJ<|V aJ<|aC<|fO (H':=[]) (.inr Z) Z (aI Z) (aI Z) (P_ (r:=.tup [.pv (aL []),bv η])) ?_;exact Qq
 have R:A_=η:=b;have h2:=E R;rw[R,Bool.false_or,MF]at F K;clear G w E B;refine aB<|S<|Sz aJ<|aD<|bC (σ:=Nat) (λi=>([(4,.pv (aL L)),(6,iv ((i+1:Nat):Int))],[])) (λi=>i+1<=C L/\∀x∈(L.drop 1).take i,m6 x=N) (λi=>C L - i) 0 ⟨X,λx h=>by simp at h⟩ ?_ ?_
 .exact Wk
 rintro i ⟨hi,hall⟩;refine S<|O aA<|Y aA<|Y (fJ aE)<|V cF<|Cn ?_ ?_<;>intro c
 .have hlt:i+1<C L:=by have:=b8 c;rw[D]at this;omega
  have ⟨x,m⟩:=aR hlt;have j:=cC (f:=S_) m;have β:=P x (m7 m);have p:(L.drop 1)[i]?=A x:=by rw[getElem?_drop,Nat.add_comm,m]
  have g:=λH=>W1 x X H;have ⟨v,J⟩:∃v,v=m6 x:=X_;rw[<-J]at g;refine aB<|S<|aD<|O aA<|Y aA<|Y (kx aZ j)<|Y (fK N_ (hi:=j))<|Y (kc vJ (g _))<|V iE<|Cn ?_ ?_<;>intro d
  .have hjf:v=η:=by have h:=d;simpa using h
   rw[F (by
    rw[r9];exact all_eq_false.2 ⟨x,m7 p,by rw[<-J,hjf];decide⟩)]
   refine O aJ<|V aJ<|aC<|fO (H':=[]) (.inr Z) Z (aI Z) (aI Z) (P_ (r:=.tup [.pv (aL []),bv η])) ?_;exact Qq
  have ρ:v=N:=by have h:=d;simpa using h
  refine aB<|Rd aA<|Y (by exact dB Z Z Z (show ξ.wrap (((i+1:Nat):Int)+1)=((i+1+1:Nat):Int)by rw[lZ X X];omega))<|Da ?_;refine⟨i+1,⟨X,λy q=>?_⟩,X,Wk⟩;rw[dT p,mem_append,q_]at q;rcases q with h|rfl
  .exact hall y h
  rw[<-J,ρ]
 have γ:C L<=i+1:=by have:=b_ c;rw[D]at this;omega
 have I:∀x∈L.drop 1,m6 x=N:=λx m=>hall x (by rw[take_of_length_le u5];exact m);have hw:W=L.drop 1:=K (by rw[all_eq_true.2 I];rfl);have δ:L.drop 1≠[]:=λe=>by have:=congrArg List.length e;rw[q6]at this;simp at this;omega
 rw[hw,decide_eq_true δ];exact aP<|O aA<|Y (by exact eG (l:=1) (h:=C (L.map S_)) Z aZ Z (dX L) Z Z (by rw[D];omega) (h_ _) (show ((L.map S_).take _).drop 1=(L.drop 1).map S_ by rw[take_length];exact κ))<|Y aJ<|V aJ<|aC<|Ru<|Qq
end Go.Proofs.C
namespace Go.Abs
section
section
variable{α:Type}
def aFi(κ:KeyKind α)(l:List (α×AV×Nat)):List (List AV):=l.map λp=>[.pv (κ.pv p.1),p.2.1,.pv (.int .i64 (p.2.2:Int))]
variable [DecidableEq α]
end
end
section
section
variable{P:Program}{m4:Nat}{o:Oper}{E:dD}{H:aF}{f_ J0:TypeId}{x:Operand}{q gq:Nat}{oq:Ob}{s:B_}{k:Nat}
abbrev RW(s:B_)(k:Nat):List (List AV):=[[.pv (.str s),.pv (.int .i64 k)]]
theorem qa(D:o.op=.range J0 x)(R:P.underlying J0=A .string)(f:aS E x=A (.pv (.str s)))(d:H.get q=ζ):
  cP P m4 o E H (.it q 0) ((q,⟨0,0,0,RW s 0⟩)::H):=by
 intro a w I ι _ _ e W K Q c;have G:=(aK W f).str_inv;have ⟨k2,g⟩:=Rel.placeX (H':=(q,⟨0,0,0,RW s 0⟩)::H) (id:=q) (cap:=1) (ob':=⟨0,0,0,RW s 0⟩) (x:=.stringIter s 0) (w':=w.alloc (.stringIter s 0)) e Z Z Z Z
  (λo D=>by rw[d]at D;cases D) (λJ L F=>.inr (.inr (.inr (.inr ⟨Z,w.heap.size,s,0,H_,J,L,Z,_,_,Z,.pv (.str _),.pv (.int _ _)⟩))))
  (get_cons_same _ _ _) (λj b=>get_cons_other _ _ b)
 have B:(execOp a.eval o).run P w=.ok (.value (.pointer (A ⟨w.heap.size,0,ζ⟩))) (w.alloc (.stringIter s 0)):=by
  simp only[execOp,D,G];simp[Instr.range,run_underlying R]
 unfold Oper.wpW;rw[B];exact c _ _ I _ _ _ ⟨Z,Z⟩ (.it ⟨0,0,0,RW s 0⟩ (get_cons_same _ _ _) (h_ _) Z λ_=>⟨Z,w.heap.size,H_,Z⟩) k2 g
theorem Ho{w:World}{I:Nat->Prop}{ι:mG}{b:Nat}(e_:Rel I ι H w)(R:H.get q=A oq)(W:oq.sz=0)(G:oq.rows=RW s k)(t:ι q=A (b,1)):w.heap[b]?=A (.stringIter s k)/\¬ I b:=by
 have ⟨_,c,e,a,D,J,K,d,m,kk,E,L,P⟩:=(e_.obj q oq R).str W t (by rw[G];rfl);rw[t]at D;cases D;rw[G]at E;cases E;have B:=L.str_inv;injection B with B;have F:=P.int_inv;injection F with _ F;have Q:a=k:=X
 subst B Q;exact⟨J,K⟩
theorem Br{c v:Nat}(p:o.op=.next x N)(z:aS E x=A (.it q gq))(R:H.get q=A oq)(f:oq.g=gq)(r:oq.rows=RW s k)(n:k<T s)(j:Utf8.decode s k=(c,v)):
  cP P m4 o E H (.tup [.pv (.bool N),.pv (.int .i64 k),.pv (.int .i32 c)]) ((q,⟨gq,0,oq.ty,RW s (k+v)⟩)::H):=by
 intro a w I ι _ _ e l K Q h;have ⟨g,b,t,F⟩:=Ml (aK l z) R f;have ⟨J,e3⟩:=Ho e R g r t;have G:(Instr.next (.pointer (A ⟨b,0,ζ⟩)) N o.type).run P w=.ok (.tuple #[.bool N,.int .i64 k,.int .i32 c]) (World.setObj w b (.stringIter s (k+v))):=by
  have y:∀q:Obj,(setObj b q).run P w=.ok () (World.setObj w b q):=λq=>by simp[setObj,Sem.run,J,World.setObj]
  simp only[Instr.next,getObj,Sem.run_bind,Sem.run,J,Result.andThen,n,if_true,j,y];rfl
 have ⟨k2,k3⟩:=Rel.rewrite (H':=(q,⟨gq,0,oq.ty,RW s (k+v)⟩)::H) (ob':=⟨gq,0,oq.ty,RW s (k+v)⟩) (x:=.stringIter s (k+v)) e R t g J Z Z f.symm Z
  (λ_ W L i_=>.inr (.inr (.inr (.inr ⟨Z,b,s,k+v,t,W,L,Z,_,_,Z,.pv (.str _),.pv (.int _ _)⟩)))) (get_cons_same _ _ _) (λj m=>get_cons_other _ _ m)
 unfold Oper.wpW execOp;simp only[p,F,Sem.run_bind,G,Result.andThen_ok,Sem.run_pure];refine h _ _ I ι _ _ ⟨Z,Z⟩ (.tup Z (λi u d B D=>?_)) k2 k3
 match i with
 |0=>simp at B D;subst B D;exact .pv (.bool _)
 |1=>simp at B D;subst B D;exact .pv (.int _ _)
 |2=>simp at B D;subst B D;exact .pv (.int _ _)
 |i+3=>simp at B
theorem VN(f:o.op=.next x N)(h:aS E x=A (.it q gq))(J:H.get q=A oq)(e:oq.g=gq)(g:oq.rows=RW s k)(m:T s<=k):
  cP P m4 o E H (.tup [.pv (.bool η)]) H:=by
 intro a w I ι _ _ G c K Q W;have ⟨j,b,t,F⟩:=Ml (aK c h) J e;have ⟨R,l⟩:=Ho G J j g t;have B:(Instr.next (.pointer (A ⟨b,0,ζ⟩)) N o.type).run P w=.ok (.tuple #[.bool η]) w:=by
  simp only[Instr.next,getObj,Sem.run_bind,Sem.run,R,Result.andThen,a8 (show ¬ k<T s by omega),Sem.run_pure]
 unfold Oper.wpW execOp;simp only[f,F,Sem.run_bind,B,Result.andThen_ok,Sem.run_pure];refine W _ _ I ι _ _ ⟨Z,Z⟩ (.tup Z (λi u d D L=>?_)) G (Step.refl _ _ _ _)
 match i with
 |0=>simp at D L;subst D L;exact .pv (.bool _)
 |i+1=>simp at D
theorem ak{n:Int}{j:IntKind}(f:o.op=.convert f_ J0 x)(B:P.underlying f_=A (.int j))(g:P.underlying J0=A .string)(h:aS E x=A (.pv (.int j n))):cP P m4 o E H (.pv (.str (Utf8.encode n))) H :=.of_run λa w I ι _ c=>⟨.string (Utf8.encode n),by
  have e:=(aK c h).int_inv;simp[execOp,f,e,convert,run_underlying B,run_underlying g,Conv.intToString],.pv (.str _)⟩
end
end
end Go.Abs
namespace Go.Proofs.C
open Go.Proofs.Tryz
open Go.Abs Go.Lib
variable{i:B_}{H:aF}{A_ s:List B_}{o:List (B_×B_)}{r:GRep}{p:l8}{n:Nat}{L:List (List B_)}
def sM(f_:List B_):List (B_×PV):=f_.map λi=>(i,.bool N)
theorem aAY(f_:List B_):(sM f_).map Prod.fst=f_:=by rw[sM,map_map];exact map_id' _
theorem aAX(f_:List B_)(i:B_):(zV (pM (sM f_)) i).getD (bv η)=bv (θ (i∈f_)):=by
 rw[po,sM,find?_map];show (Option.map _ ((f_.find? λp=>θ (p=i)).map _)).getD _=_;cases h:f_.find? λp=>θ (p=i)with
 |none =>
  rw[decide_eq_false λD=>find?_eq_none.1 h i D (decide_eq_true Z)];rfl
 |some p =>
  have B:=b8 (find?_some (p:=λp=>θ (p=i)) h);subst B;rw[decide_eq_true (mem_of_find?_eq_some h)];rfl
theorem aAW{f_:List B_}(h:i∉f_):xM (pM (sM f_)) i (bv N)=pM (sM (f_++[i])):=by rw[pn (.bool N) (by rw[aAY];exact h),sM,sM,map_append];rfl
abbrev sP(L:List (List B_)):List (List AV):=L.map λw=>[.pv (aL w)]
theorem nJ(L:List (List B_)):∀r∈sP L,∀a∈r,Clo H a:=by intro r D a B;obtain ⟨w,_,rfl⟩:=mem_map.1 D;rw[q_]at B;subst B;exact .pv _
instance(L:List (List B_)):W_ (H) (sP L):=⟨nJ L⟩
theorem mF(L:List (List B_)):sP L=(L.map m8).map (·.map AV.pv):=by rw[map_map];rfl
abbrev rpO(A_:List B_)(r:GRep):Ob:=bx 6 84 [.pv (aL A_),.mp 710 0,.osl 721 (C r.sent) 0 (C r.sent),.mp 720 0,.osl 722 (C r.wants) 0 (C r.wants),.osl 723 (C r.offers) 0 (C r.offers)]
abbrev VJ(A_:List B_)(o:List (B_×B_))(r:GRep):aF:=[(718,rpO A_ r),(710,VD (tM o)),(720,VD (sM r.sent)),(721,⟨C r.sent,1,9,bQ (r.sent.map (jF o))⟩),(722,⟨C r.wants,1,22,sP r.wants⟩),(723,⟨C r.offers,1,22,sP r.offers⟩)]
theorem Za{B D E F G H:Nat}{a b c d e f I J K L P Q:Ob}{id:Nat}(h:(aF.get [(B,a),(D,b),(E,c),(F,d),(G,e),(H,f)] id).isSome=N):(aF.get [(B,I),(D,J),(E,K),(F,L),(G,P),(H,Q)] id).isSome=N:=by simp only[aF.get]at h |-;generalize Nat.beq B id=x1,Nat.beq D id=x2,Nat.beq E id=x3,Nat.beq F id=x4,Nat.beq G id=x5,Nat.beq H id=R at h |-;cases x1<;>cases x2<;>cases x3<;>cases x4<;>cases x5<;>cases R<;>first|rfl|exact h
theorem Tf(A_:List B_)(o:List (B_×B_))(r:GRep)(i:B_)(K:∀i,i∈o.map Prod.fst↔i∈A_)(L:C r.sent<2^40):aW φ 44 [.ref 718 0 0 0,sv i] (VJ A_ o r) (λx H'=>x=.tup []/\H'=VJ A_ o ⟨gX A_ r.sent i,r.wants,r.offers⟩):=by
 obtain ⟨H,D⟩:=Hm o i;have D:(zV (pM (tM o)) i).isSome=decide (i∈A_):=D.trans (decide_eq_decide.2 (K i));have I:=aAX r.sent i;obtain ⟨b,E⟩:∃b,b=(decide (i∈A_)&&!decide (i∈r.sent)):=X_;rw[gX,<-E];refine Bd func44 Z ntmps44<|O aA<|Y sW<|Y (bD UB)<|Y (bD sf)<|Y (bU isAgg78)<|Y aA<|Y (by exact cP.eqv (H4 (κ:=J9) Z underlying78 U_ Z Z Z Z Z gW (.inl Z)) (show AV.tup [(zV (pM (tM o)) i).getD (sv a6),.pv (.bool (zV (pM (tM o)) i).isSome)]=.tup [sv (jF o i),bv (decide (i∈A_))]by rw[H,D]))<|Y aA<|Y dL<|Y dL<|Y aJ<|V aJ<|S<|aT (t:=25) (n:=11) (A_:=b) ?_ ?_
 ·all_goals refine Y aA<|Dm ?_<;>(refine Sp 17 (λJ=>?_) λJ=>?_)<;>(try(with_reducible contradiction))<;>(first|refine M<|M<|M<|M<|M<|M<|M ?_|refine U aA<|U sW<|U (bD Ng)<|U (bU isAgg82)<|U aA<|U (by exact cP.eqv (IZ (κ:=J9) Z mQ U_ Z Z Z Z Z jG (.inl Z)) I)<|U iE ?_)<;>refine V cE ?_<;>exact Gj (h:=by rw[E];(rw[J];rfl))
 refine Cn ?_ ?_<;>intro B
 .have hbt:=E.symm.trans B;rw[l6,r9,n_]at hbt;have G:C (bQ (r.sent.map (jF o)))=C r.sent:=by rw[cY,g_]
  have F:C (r.sent++[i])=C r.sent+1:=by rw[j8];rfl
  rw[b6 (show b=true from B)];refine O aA<|Y sW<|Y (bD Ng)<|Y (bU isAgg82)<|Y aA<|Uu (by exact zW (κ:=J9) (.inl Z) mQ U_ Z Z Z Z Z Z Z (aAW hbt.2))<|Zz<|Rd aA<|Y aA<|Y sW<|Y (bD se)<|Y (bU aG)<|Y aA<|Y (by exact aM [[.str (jF o i)]] Z aZ Z Z Z Z Z R_)<|Y (by exact bW (k:=r.sent.length+1) (ps:=[[.str (jF o i)]]) Z aZ sZ Z Z Z Z Z G Z R_ (m:=1) Z X Z (rows':=bQ ((r.sent++[i]).map (jF o))) (by rw[List.map_append];exact gB _ _))<|Y sW<|Y (bD se)<|Uu (by exact cT Z sizeOf22 Z Z Z Z Z Z (by simp only[j6,List.length_nil];omega) (by simp only[Zl,S_,dF];rfl) (by simp only[Zl,S_,dF];rfl)) ?_;refine Zz<|pI (H':=VJ A_ o ⟨r.sent++[i],r.wants,r.offers⟩) (.inl Z) Z ?_ ⟨Z,Z⟩;simp only[VJ,rpO,F];exact(Fin.wk (by(simp;done)) (Hc (by(simp;exact⟨Z,Z,Z,Z,Z⟩))<|Hc (eA _)<|Hc (eA _)<|Hc (aQ _ _)<|Hb<|Hb<|T_) ⟨Z,Z,Z,Z,Z,Z,T_⟩)
 rw[a8 (by rw[show b=η from B];decide)];refine aB ?_;exact pI (.inl Z) Z Fin.refl ⟨Z,Z⟩
theorem Yr(B:∀i,i∈o.map Prod.fst↔i∈A_)(D:C r.sent<2^40)(E:HI H (VJ A_ o r)):aW φ 44 [.ref 718 0 0 0,sv i] H (λx H'=>x=.tup []/\H'=VJ A_ o ⟨gX A_ r.sent i,r.wants,r.offers⟩++H) :=aW.frame (Tf A_ o r i B D) (HI.sub E) (dI.ofL ⟨(by(simp;exact⟨Z,Z,Z,Z,Z⟩)),(eA _),(eA _),(aQ _ _),l5,l5,T_⟩) m3 (λid h=>.inl (Za h))
theorem ji(p:B_):∀(l:List B_),A4 p l=N->zT l
 | [],_=>List.Pairwise.nil
 | [a],_=>List.pairwise_singleton _ _
 |a::b::r,h=>by
  rw[A4,l6,l6]at h;have D:=ji p (b::r) h.2;refine pairwise_cons.2 ⟨λy B=>?_,D⟩;rcases l9.1 B with rfl|B
  .exact h.1.2
  exact rW h.1.2 ((pairwise_cons.1 D).1 y B)
theorem XW:∀(l m:List B_),l.Nodup->(∀x∈l,x∈m)->C l<=C m
 | [],m,_,_=>k_ _
 | a::l,m,hn,h=>by
  rw[List.nodup_cons]at hn;obtain ⟨m1,m2,rfl⟩:=append_of_mem (h a mem_cons_self);have D:=XW l (m1++m2) hn.2 λx B=>by
   rcases mem_append.1 (h x (mem_cons_of_mem _ B))with h|h
   .exact mem_append_left _ h
   rcases l9.1 h with h|h
   .exact absurd (h▸B) hn.1
   exact mem_append_right _ h
  rw[j8]at D;rw[j6,j8,j6];omega
def lN(A_ s:List B_):Prop:=s.Nodup/\∀i∈s,i∈A_
theorem lN.len(h:lN A_ s):C s<=C A_:=XW s A_ h.1 h.2
theorem lN.step(h:lN A_ s)(i:B_):lN A_ (gX A_ s i):=by
 rw[gX]
 split
 .next hc =>
  rw[l6,r9,j0,n_]at hc;refine⟨nodup_append.2 ⟨h.1,H_,λx E y D e=>?_⟩,λj B=>?_⟩
  .rw[q_]at D;exact hc.2 (D▸e▸E)
  rcases mem_append.1 B with B|B
  .exact h.2 j B
  rw[q_]at B;exact B▸hc.1
 exact h
theorem lN.fold:∀(l s:List B_),lN A_ s->lN A_ (l.foldl (gX A_) s)
 | [],s,h=>h
 |i::l,s,h=>lN.fold l _ (h.step i)
theorem HD{l:List B_}{k:Nat}{s:B_}(f:B_->Bool)(h:l[k]?=A s):(l.take (k+1)).filter f=(l.take k).filter f++if f s=N then[s]else[]:=by rw[dT h,filter_append,filter_cons,filter_nil]
theorem aDm(k:Nat)(h:k<16):∃c d,Utf8.decode zd k=(c,1)/\A5[k]?=A d/\Utf8.encode (c:Int)=d/\T d=1:=by
 have key:∀k:Fin 16,(Utf8.decode zd k.val).2=1/\A5[k.val]?=A (Utf8.encode ((Utf8.decode zd k.val).1:Int))/\T (Utf8.encode ((Utf8.decode zd k.val).1:Int))=1:=by decide +kernel
 have ⟨B,D,E⟩:=key ⟨k,h⟩;exact⟨(Utf8.decode zd k).1,_,by rw[<-B],D,Z,E⟩
theorem tc(A_:List B_)(o:List (B_×B_))(r:GRep)(p:l8)(hX:∀i,i∈o.map Prod.fst↔i∈A_)(v:IdS A_)(hp:GoodP p)(hs:lN A_ r.sent)(hw:C r.wants<549755813888)(ho:C r.offers<549755813888):
  aW φ 46 [.ref 718 0 0 0,av (dF p)] (VJ A_ o r) (λx H'=>x=.tup []/\H'=VJ A_ o (nL A_ r p)):=by
 have g:=v.len;have hpre:T p.pre<=16:=by have:=hp.pre;rw[qW,l6,j0]at this;exact this.1
 have hpo:=λq hq H=>gl A_ q H v hq;have hsmP:=λH=>KD p H;have hrl:C (gC A_ p.pre)<=C A_:=length_filter_le _ _;have hun:=λH=>el A_ p.pre H X v.srt v.dig X;have L:p.cnt<=16->nL A_ r p=⟨((gC A_ p.pre).filter λi=>!θ (i∈p.ids)).foldl (gX A_) r.sent,r.wants++(p.ids.filter λi=>!θ (i∈A_)).map (λi=>[i]),r.offers⟩:=λh=>b6 h;have B:¬ p.cnt<=16->nL A_ r p=if p.cnt=(dC A_ p.pre).cnt/\p.sum=(dC A_ p.pre).sum then r else if(dC A_ p.pre).cnt<=16 then⟨r.sent,r.wants,r.offers++[gP (dC A_ p.pre)]⟩else⟨r.sent,r.wants,r.offers++A5.map λd=>gP (dC A_ (p.pre++d))⟩:=λh=>a8 h
 have hown:(dC A_ p.pre).cnt<1000000/\C (dC A_ p.pre).ids<=16:=by
  have hg:=xZ v.srt v.dig hp.pre g;refine⟨hg.cnt,?_⟩;by_cases hc:(dC A_ p.pre).cnt<=16
  .rw[(hg.sml hc).1];exact hc
  rw[hg.big X];exact k_ _
 have u:=λH=>KD (dC A_ p.pre) H;have hfl:=λH=>N3 (dC A_ p.pre) H X X;have j:=hpo p.pre X;generalize dC A_ p.pre=W at u hfl j hown B;generalize gC A_ p.pre=R at hun L hrl;generalize nL A_ r p=d_ at L B |-;have hmR:C (R.map S_)=C R:=g_ _;have hmI:C (p.ids.map S_)=C p.ids:=g_ _;refine Bd func46 Z ntmps46<|Sz (kb 3)<|S<|aN a7<|Cr [718] (λ_ _=>aA)<|Cr [718] (λH1 E=>by exact dW Z Z ((E _ Z).trans Z) Z)<|Cr [718] (λ_ h=>fh UB h)<|Cr [718] (λ_ h=>fh JJ h)<|Cr [718] (λ_ h=>lh kJ h)<|Cr [3] (λ_ h=>fh N0 h)<|Cr [3] (λ_ h=>lh N_ h)<|x_ (by exact bH Z Z call35 Z (j _))<|Cp [4] (λH1 E=>by exact CT (id:=4) Z Fy Z ((E _ Z).trans Z))<|Cp [4] (λ_ h=>sa eE h)<|bG<|Kr<|aD<|O u3<|Y (kc call82 (hsmP _))<|Y aJ ?_;refine Zz<|Cn ?_ ?_<;>intro γ
 .have G:p.cnt<=16:=I_ γ
  have ⟨q1,q2,q3⟩:=hp.sml G;have hsrt:=ji _ _ q2;rw[L G];clear L B;refine S<|S<|aN a7<|Cq aA<|Cq sW<|Cq (bD UB)<|Cq (bD JJ)<|Cq (bU kJ)<|Cq (bD N0)<|Cq (bU N_)<|Cq (kc call80 (hun _))<|Cq (fJ mR)<|Cq aA<|bG<|Kr<|aD<|bC (σ:=Nat) (λk=>([(0,.ref 718 0 0 0),(3,.ref 3 0 0 0),(54,.pv (aL R)),(55,iv (C (R.map S_):Int)),(56,iv (k:Int))],(3,bx 4 70 ((dF p).map .pv))::VJ A_ o ⟨((R.take k).filter λi=>!θ (i∈p.ids)).foldl (gX A_) r.sent,r.wants,r.offers⟩)) (λk=>k<=C R) (λk=>C R - k) 0 (k_ _) ?_ ?_
  .exact L_
  intro k hk;have hso:=(lN.fold ((R.take k).filter λi=>!θ (i∈p.ids)) r.sent hs).len;refine Sz cF<|S<|Cn ?_ ?_<;>intro β
  .have J:k<C R:=I_ β
   have ⟨s,P⟩:=aR J;have hi:=cC (f:=S_) P;have D:=HD (λi=>!θ (i∈p.ids)) P;have κ:=λH=>Mz p.ids s H X hsrt;have ⟨f_,K⟩:∃f_,f_=((R.take k).filter λi=>!θ (i∈p.ids)).foldl (gX A_) r.sent:=X_;rw[<-K]at hso |-;refine aB<|S<|aD<|O (jA R5)<|Y (fK N_ (hi:=hi))<|V aJ<|O (bD FX)<|Y (bU kJ)<|Y aA<|Y (kc call92 (κ _))<|V iE<|Cn ?_ ?_<;>intro hc3
   .have z:(!θ (s∈p.ids))=N:=hc3;refine Rd aA<|Y aA<|V (kc call44 (Yr (r:=⟨f_,r.wants,r.offers⟩) hX (show C f_<2^40 by omega) ⟨Z,Z,Z,Z,Z,Z,T_⟩))<|Rd iH<|V aA ?_;refine⟨k+1,X,X,?_⟩;rw[b6 z]at D;dsimp only;rw[D,foldl_append,<-K];exact L_
   have z:(!θ (s∈p.ids))=η:=hc3;refine aB<|Rd iH<|V aA ?_;refine⟨k+1,X,X,?_⟩;rw[a8 (by rw[z];decide),append_nil]at D;dsimp only;rw[D,<-K];exact L_
  have ρ:k=C R:=J_ β
  subst ρ;rw[take_length];have ⟨f_,K⟩:∃f_,f_=(R.filter λi=>!θ (i∈p.ids)).foldl (gX A_) r.sent:=X_;rw[<-K];refine aP<|O (bD FX)<|Y (bU kJ)<|Y (fJ mR)<|V aA<|aD<|bC (σ:=Nat) (λk=>([(0,.ref 718 0 0 0),(70,.pv (aL p.ids)),(71,iv (C (p.ids.map S_):Int)),(72,iv (k:Int))],VJ A_ o ⟨f_,r.wants++((p.ids.take k).filter λi=>!θ (i∈A_)).map (λi=>[i]),r.offers⟩)) (λk=>k<=C p.ids) (λk=>C p.ids - k) 0 (k_ _) ?_ ?_
  .simp only[take_zero,filter_nil,map_nil,append_nil];exact L_
  intro k hk;have hwl:C (r.wants++((p.ids.take k).filter λi=>!θ (i∈A_)).map (λi=>[i]))<=C r.wants+16:=by
   have:=length_filter_le (λi=>!θ (i∈A_)) (p.ids.take k);rw[j8,g_];rw[q9]at this;omega
  refine Sz cF<|S<|Cn ?_ ?_<;>intro hc4
  .have J:k<C p.ids:=I_ hc4
   have ⟨s,P⟩:=aR J;have hi:=cC (f:=S_) P;have D:=HD (λi=>!θ (i∈A_)) P;have κ:=λH=>Mz A_ s H X v.srt;have ⟨F,I⟩:∃F,F=r.wants++((p.ids.take k).filter λi=>!θ (i∈A_)).map (λi=>[i]):=X_;rw[<-I]at hwl |-;have w:C (F++[[s]])=C F+1:=by rw[j8];rfl
   have a:C (sP F)=C F:=g_ _;refine aB<|S<|aD<|O (jA R5)<|Y (fK N_ (hi:=hi))<|V aJ<|O aA<|Y sW<|Y (bD UB)<|Y (bD JJ)<|Y (bU kJ)<|Y aA<|Y (kc call92 (κ _))<|V iE<|Cn ?_ ?_<;>intro hc5
   ·have z:(!decide (s∈A_))=true:=hc5;refine Rd aA<|Y aA<|Y sW<|Y (bD sc)<|Y (bU isAgg73)<|Y aA<|Y (by exact aM ([s].map S_) Z aZ Z Z Z Z Z (dX _))<|Y (by exact aM ([[s]].map m8) Z uS Z Z Z Z Z (jE _))<|Y (by exact bW (n:=F.length) (k:=F.length+1) (ps:=[[s]].map m8) Z uS Dc Z Z Z Z Z a Z (jE [[s]]) (m:=1) Z X Z (rows':=sP (F++[[s]])) (by rw[mF,mF,List.map_append,List.map_append]))<|Y sW<|Y (bD sc)<|Uu (by exact cT Z sizeOf73 Z Z Z Z Z Z (by simp only[j6,List.length_nil];omega) (by simp only[Zl,S_,dF];rfl) (by simp only[Zl,S_,dF];rfl))<|Zz<|Rd iH<|V aA ?_;refine⟨k+1,X,X,?_⟩;rw[b6 z]at D;have e:r.wants++((p.ids.take (k+1)).filter λi=>!decide (i∈A_)).map (λi=>[i])=F++[[s]]:=by rw[D,List.map_append,<-List.append_assoc,<-I];rfl
    simp only[VJ,rpO,e,w];exact L_
   have z:(!θ (s∈A_))=η:=hc5;refine aB<|Rd iH<|V aA ?_;refine⟨k+1,X,X,?_⟩;rw[a8 (by rw[z];decide),append_nil]at D;dsimp only;rw[D,<-I];exact L_
  have ρ:k=C p.ids:=J_ hc4
  subst ρ;rw[take_length];refine aP ?_;exact pI (.inl Z) Z Fin.refl ⟨Z,Z⟩
 have G:¬ p.cnt<=16:=by have:=b_ γ;omega
 have B:=B G;clear L;have ⟨y_,hY⟩:∃y_,y_=(θ ((p.cnt:Int)=(W.cnt:Int))&&θ (p.sum=W.sum)):=X_;refine S<|aT (t:=96) (n:=14) (A_:=y_) ?_ ?_
 .all_goals refine Y (bD FY)<|Y (bU M_)<|Y (bD FY)<|Y (bU M_)<|Y cG<|Dm ?_<;>(refine Sp 102 (λh102=>?_) λh102=>?_)<;>(try exact w_)<;>(first|refine M<|M<|M<|M<|M ?_|refine U (bD UC)<|U (bU N_)<|U (bD UC)<|U (bU N_)<|U vT ?_)<;>refine Y cE<|Da ?_<;>exact Gj (h:=by rw[hY];(rw[h102];rfl))
 refine Cn ?_ ?_<;>intro hc6
 .have hYt:=hY.symm.trans hc6;rw[l6,j0,j0]at hYt;rw[b6 ⟨X,hYt.2⟩]at B;rw[B];refine aB ?_;exact pI (H':=VJ A_ o r) (.inl Z) Z P_ ⟨Z,Z⟩
 have δ:=hY.symm.trans hc6;rw[a8 (λh=>by rw[decide_eq_true (by omega:(p.cnt:Int)=(W.cnt:Int)),decide_eq_true h.2]at δ;cases δ)]at B;refine O u3<|Y (kc call82 (u _))<|Da ?_;refine Cn ?_ ?_<;>intro hc7
 .have τ:W.cnt<=16:=I_ hc7
  rw[b6 τ]at B;rw[B];have a:C (sP r.offers)=C r.offers:=g_ _;have hol:C (r.offers++[gP W])=C r.offers+1:=by rw[j8];rfl
  refine aN a7<|Cr [718] (λ_ _=>aA)<|Cr [718] (λ_ _=>aA)<|Cr [718] (λH1 E=>by exact dW Z Z ((E _ Z).trans Z) Z)<|Cr [718] (λ_ h=>fh UA h)<|Cr [718] (λ_ h=>lh isAgg73 h)<|Cr [4] (λH1 E=>by exact aX Z iS eE Z ((E _ Z).trans Z) Z Z l4 Z)<|x_ (by exact bH Z Z call36 Z (hfl _))<|x_ (by exact aM ([gP W].map m8) Z uS Z Z Z Z Z (jE _))<|Cp [723] (λH1 E=>by exact bW (n:=C r.offers) (k:=C r.offers+1) (ps:=[gP W].map m8) Z uS Dc Z ((E _ Z).trans Z) Z Z Z a Z (jE [gP W]) (m:=1) Z X Z (rows':=sP (r.offers++[gP W])) (by rw[mF,mF,map_append,map_append])) ?_;refine Cr [718] (λH1 E=>by exact dW Z Z ((E _ Z).trans Z) Z)<|Cr [718] (λ_ h=>fh UA h)<|Cp [718] (λH1 E=>by exact cT Z sizeOf73 Z Z Z ((E _ Z).trans Z) Z Z u1 l4 l4)<|bG<|Kr ?_;refine pI (H':=VJ A_ o ⟨r.sent,r.wants,r.offers++[gP W]⟩) (.inl Z) Z ?_ ⟨Z,Z⟩;simp only[VJ,rpO,hol];exact P_
 have τ:¬ W.cnt<=16:=J_ hc7
 rw[a8 τ]at B;rw[B];refine Sz (qa (q:=19) Z U_ Z Z)<|aD<|bC (σ:=Nat) (λk=>([(0,.ref 718 0 0 0),(3,.ref 3 0 0 0),(19,.it 19 0)],(19,⟨0,0,0,RW zd k⟩)::(3,bx 4 70 ((dF p).map .pv))::VJ A_ o ⟨r.sent,r.wants,r.offers++(A5.take k).map λd=>gP (dC A_ (p.pre++d))⟩)) (λk=>k<=16) (λk=>16 - k) 0 (k_ _) ?_ ?_
 .simp only[take_zero,map_nil,append_nil];exact L_
 intro k hk;by_cases J:k<16
 .have ⟨c,d,d1,d2,d3,d4⟩:=aDm k J;have D:(A5.take (k+1)).map (λd=>gP (dC A_ (p.pre++d)))=(A5.take k).map (λd=>gP (dC A_ (p.pre++d)))++[gP (dC A_ (p.pre++d))]:=by rw[dT d2,map_append];rfl
  have y:C (r.offers++(A5.take k).map λd=>gP (dC A_ (p.pre++d)))<=C r.offers+16:=by rw[j8,g_,q9];omega
  have hsz:T (p.pre++d)<2^40:=by rw[ByteArray.size_append];omega
  have l:=hpo (p.pre++d) hsz;have hcn:(dC A_ (p.pre++d)).cnt<1000000:=Nat.lt_of_le_of_lt (length_filter_le _ _) g;have hid:C (dC A_ (p.pre++d)).ids<=16:=by
   show C (if C (gC A_ (p.pre++d))<=16 then gC A_ (p.pre++d)else[])<=16
   split
   .assumption
   exact k_ _
  have b:=λH=>N3 (dC A_ (p.pre++d)) H X X;generalize dC A_ (p.pre++d)=Q at l b D;have ⟨F,I⟩:∃F,F=r.offers++(A5.take k).map λd=>gP (dC A_ (p.pre++d)):=X_;rw[<-I]at y |-;have w:C (F++[gP Q])=C F+1:=by rw[j8];rfl
  have a:C (sP F)=C F:=g_ _;refine O (Br Z Z Z Z Z (show k<T zd from J) d1)<|V dL<|S<|Cn ?_ ?_<;>intro hc8
  .refine aB<|aD<|O dL<|V aJ<|aN a7<|Cr [718] (λ_ _=>aA)<|Cr [718] (λ_ _=>aA)<|Cr [718] (λH1 E=>by exact dW Z Z ((E _ Z).trans Z) Z)<|Cr [718] (λ_ h=>fh UA h)<|Cr [718] (λ_ h=>lh isAgg73 h)<|Cr [718] (λ_ _=>aA)<|Cr [718] (λH1 E=>by exact dW Z Z ((E _ Z).trans Z) Z)<|Cr [718] (λ_ h=>fh UB h)<|Cr [718] (λ_ h=>fh JJ h)<|Cr [718] (λ_ h=>lh kJ h)<|Cr [3] (λ_ h=>fh N0 h)<|Cr [3] (λ_ h=>lh N_ h)<|x_ aA<|x_ (by exact cP.eqv (ak Z underlying21 U_ Z) (by rw[d3]))<|x_ (by exact fC Z Z Z X (r:=p.pre++d) Z)<|x_ (by exact bH Z Z call35 Z (l _))<|x_ (by exact bH Z Z call36 Z (b _)) ?_;refine x_ (by exact aM ([gP Q].map m8) Z uS Z Z Z Z Z (jE _))<|Cp [723] (λH1 E=>by exact bW (n:=C F) (k:=C F+1) (ps:=[gP Q].map m8) Z uS Dc Z ((E _ Z).trans Z) Z Z Z a Z (jE [gP Q]) (m:=1) Z X Z (rows':=sP (F++[gP Q])) (by rw[mF,mF,map_append,map_append]))<|Cr [718] (λH1 E=>by exact dW Z Z ((E _ Z).trans Z) Z)<|Cr [718] (λ_ h=>fh UA h)<|Cp [718] (λH1 E=>by exact cT Z sizeOf73 Z Z Z ((E _ Z).trans Z) Z Z u1 l4 l4)<|bG<|Kr ?_;refine⟨k+1,X,X,?_⟩;have e:r.offers++(A5.take (k+1)).map (λd=>gP (dC A_ (p.pre++d)))=F++[gP Q]:=by rw[D,<-append_assoc,<-I]
   simp only[VJ,rpO,e,w];exact L_
  cases hc8
 obtain rfl:k=16:=by omega
 refine O (VN Z Z Z Z Z (h_ 16))<|V dL<|S<|Cn ?_ ?_<;>intro hc9
 .cases hc9
 refine aP ?_;exact pI (H':=VJ A_ o ⟨r.sent,r.wants,r.offers++A5.map λd=>gP (dC A_ (p.pre++d))⟩) (.inl Z) Z P_ ⟨Z,Z⟩
theorem Nx(E:∀i,i∈o.map Prod.fst↔i∈A_)(D:IdS A_)(G:GoodP p)(I:lN A_ r.sent)(J:C r.wants<549755813888)(F:C r.offers<549755813888)(B:HI H (VJ A_ o r)):
  aW φ 46 [.ref 718 0 0 0,av (dF p)] H (λx H'=>x=.tup []/\H'=VJ A_ o (nL A_ r p)++H) :=
 aW.frame (tc A_ o r p E D G I J F) (HI.sub B) (dI.ofL ⟨(by(simp;exact⟨Z,Z,Z,Z,Z⟩)),(eA _),(eA _),(aQ _ _),l5,l5,T_⟩) (by simp[dF];rfl) (λid h=>.inl (Za h))
theorem gj(J0:List (List B_)->B_):∀(n m:Nat) (l:List (List B_)),C l<=n->C l<=m->mm J0 n l=mm J0 m l
 |0,m,l,h,_=>by
  rw[List.length_eq_zero_iff.1 (Nat.le_zero.1 h)];cases m<;>simp[mm]
 |n+1,0,l,_,h=>by
  rw[List.length_eq_zero_iff.1 (Nat.le_zero.1 h)];simp[mm]
 |n+1,m+1,l,h1,h2=>by
  rw[mm,mm]
  split
  .rfl
  next B =>
  have D:=length_pos_iff.2 B;have:=Z6 J0 l (C l) 1;rw[gj J0 n m _ u5 u5]
theorem gi(J0:List (List B_)->B_){l:List (List B_)}(B:l≠[])(F:dk J0 l (C l) 1=n):mm J0 (C l) l=J0 (l.take n)::mm J0 (C (l.drop n)) (l.drop n):=by
 have G:=length_pos_iff.2 B;have ⟨k,E⟩:∃k,C l=k+1:=⟨C l - 1,X⟩;have D:=Z6 J0 l (C l) 1
 conv=>lhs;rw[E,mm,a8 B]
 rw[F]at D |-;rw[gj J0 k _ _ u5 (h_ _)]
theorem gw(f:FuncId)(J0:List (List B_)->B_)(l:List (List B_))(q:C l<1000000000)(o:∀i n H,dO φ (.pv (.fn f)) [.pv (iT ((l.drop i).take n))] H (λr H'=>r=sv (J0 ((l.drop i).take n))/\H'=H))(H:aF):
  RC 48 [.pv (iT l),.pv (.fn f)] (.pv (aL (VC J0 l))) H:=by
 refine Pu<|Bd func48 Z ntmps48<|Sz aJ<|Sz (cZ (id:=905) (sz:=1) (ty:=9) Z Z Z)<|S<|aD<|dU (λ(i:Nat) (D:List B_)=>([(0,.pv (iT (l.drop i))),(1,.pv (.fn f)),(5,.osl 905 (C D) 0 (C D))],[(905,⟨C D,1,9,bQ D⟩)])) (λi D=>i<=C l/\C D<=i/\VC J0 l=D++mm J0 (C (l.drop i)) (l.drop i)) (λi D=>C l - i) 0 [] ⟨k_ _,h_ _,by rw[drop_zero,nil_append];rfl⟩ ?_ ?_
 .exact L_
 rintro i D ⟨hi,hA,hpk⟩;have d:C (l.drop i)=C l - i:=q6;have G:=λn H=>o i n H;have F:∀n,(l.drop i).drop n=l.drop (i+n):=λn=>by rw[drop_drop]
 generalize l.drop i=r at d G hpk F |-;have p:C (r.map m8)=C r:=g_ _;have Q:∀n,((r.map m8).take n).drop 0=(r.take n).map m8:=λn=>by rw[drop_zero,map_take]
 refine S<|O aA<|Y (fJ iB)<|V iZ<|Cn ?_ ?_<;>intro J
 .have hpos:0<C r:=I_ J
  have b:r≠[]:=λe=>by rw[e]at hpos;exact absurd hpos E_
  refine aB<|aD<|Sz aJ<|S<|aD<|bC (σ:=Nat) (λn=>([(0,.pv (iT r)),(1,.pv (.fn f)),(5,.osl 905 (C D) 0 (C D)),(6,iv (n:Int))],[(905,⟨C D,1,9,bQ D⟩)])) (λn=>1<=n/\n<=C r/\dk J0 r (C r) 1=dk J0 r (C r+1 - n) n) (λn=>C r - n) 1 ⟨h_ _,hpos,by rw[Nat.add_sub_cancel]⟩ ?_ ?_
  .exact L_
  rintro n ⟨h1,h2,h3⟩;have E:dk J0 r (C r+1 - n) n=if n<C r/\T (J0 (r.take (n+1)))<=18000 then dk J0 r (C r+1 - (n+1)) (n+1)else n:=by
   rw[show C r+1 - n=(C r+1 - (n+1))+1 by omega,dk]
  rw[E]at h3;clear E;have ⟨B,W⟩:∃B,B=(θ ((n:Int)<(C (r.map m8):Int))&&θ ((T (J0 (r.take (n+1))):Int)<=18000)):=X_;have a:=λH=>G (n+1) H;refine S<|S<|aT (t:=23) (n:=15) (A_:=B) ?_ ?_
  .all_goals refine Y aA<|Y aA<|Y (fJ iB)<|Y cF<|Dm ?_<;>(refine Sp 14 (λR=>?_) λR=>?_)<;>(first|exact s_|refine M<|M<|M<|M<|M<|M<|M<|M ?_|refine U aA<|U aA<|U aA<|U kp<|U (eG (l:=0) (h:=n+1) Z uS Z (jE r) Z Z (k_ _) (I_ R) (Q (n+1)))<|U (dH Z Z Z (a _))<|U (gG U_)<|U EQ ?_)<;>refine V cE ?_<;>exact Gj (h:=by rw[W];(rw[R];rfl))
  refine Cn ?_ ?_<;>intro K
  .have hBt:=W.symm.trans K;rw[l6,j0,j0]at hBt;rw[b6 ⟨X,X⟩]at h3;refine aB<|aD<|Rd aA<|Y kp<|Da ?_;exact⟨n+1,⟨X,X,h3⟩,X,L_⟩
  have I:=W.symm.trans K;rw[a8 (λh=>by rw[decide_eq_true (by omega:(n:Int)<(C (r.map m8):Int)),decide_eq_true (by omega:(T (J0 (r.take (n+1))):Int)<=18000)]at I;cases I)]at h3;have c:=gi J0 b h3;have P:C (D++[J0 (r.take n)])=C D+1:=by rw[j8];rfl
  have L:=λH=>G n H;refine aP<|aN a7<|Cr [905] (λ_ _=>aA)<|x_ aA<|x_ aA<|x_ aA<|x_ (by exact eG (l:=0) (h:=n) Z uS Z (jE r) Z Z (k_ _) X (Q n))<|x_ (by exact dH Z Z Z (L _))<|x_ (by exact aM [[.str (J0 (r.take n))]] Z aZ Z Z Z Z Z R_)<|Cp [905] (λH1 j=>by exact bW (k:=C D+1) (ps:=[[.str (J0 (r.take n))]]) Z aZ sZ Z ((j _ Z).trans Z) Z Z Z (cY _) Z R_ (m:=1) Z X Z (gB _ (J0 (r.take n))))<|x_ aA<|x_ aA<|x_ (by exact eG (l:=n) (h:=C (r.map m8)) Z uS Z (jE r) Z Z X (h_ _) (show ((r.map m8).take _).drop n=(l.drop (i+n)).map m8 by rw[take_length,<-F,map_drop])) ?_;refine Cr [905] (λ_ _=>aJ)<|x_ aJ<|bG<|Kr ?_;refine⟨i+n,D++[J0 (r.take n)],⟨X,by rw[P];omega,?_⟩,X,?_⟩
  .rw[hpk,c,F,append_assoc];rfl
  dsimp only;rw[P];exact L_
 have g:r=[]:=length_eq_zero_iff.1 (J_ J);rw[hpk,g];refine aP<|O aA<|V aJ<|aC ?_;refine cN (H':=[]) (.inr Z) Z (aI Z) (Fin.slice0 (id:=905) ((D++[]).map S_) Z Z (by rw[append_nil];exact(dS D)) (by rw[append_nil,g_])) ?_;exact Qq
theorem SP:∀(n:Nat) (l:List B_) (P:List l8),VB n l=A P->C P<=C l/\∀p∈P,GoodP p
 |n,[],P,h=>by
  rw[QC]at h;cases h;exact⟨h_ _,λp B=>by cases B⟩
 |0,a::l,P,h=>by simp[VB]at h
 |n+1,[a],P,h=>by cases h
 |n+1,[a,b],P,h=>by cases h
 | n + 1, a :: b :: c :: r, P, h => by
  rw[VB]at h;have J:=GZ b
  split at h
  .next hc =>
   rw[l6,l6,j0]at hc
   split at h
   .next D =>
    split at h
    .next hg =>
     obtain ⟨Q,E,rfl⟩:=Option.map_eq_some_iff.1 h;have ⟨I,H⟩:=SP n _ Q E;rw[q6]at I;refine⟨by simp only[j6];omega,λp B=>?_⟩;rcases l9.1 B with rfl|B
     .refine⟨hc.1.1,by show (eT b).toNat<_;omega,hc.2,λ_=>⟨?_,hg.2.1,hg.2.2⟩,λF=>?_⟩
      .show C (r.take (eT b).toNat)=(eT b).toNat;rw[q9];omega
      have F:16<(eT b).toNat:=F;omega
     exact H p B
    cases h
   next D =>
   obtain ⟨Q,E,rfl⟩:=Option.map_eq_some_iff.1 h;have ⟨I,H⟩:=SP n _ Q E;refine⟨by simp only[j6];omega,λp B=>?_⟩;rcases l9.1 B with rfl|B
   .refine⟨hc.1.1,by show (eT b).toNat<_;omega,hc.2,λG=>?_,λ_=>rfl⟩;have G:(eT b).toNat<=16:=G;omega
   exact H p B
  cases h
theorem NH(t:B_):C (wB t)<=T t/\∀p∈wB t,GoodP p:=by
 rw[wB]
 split
 .next o n r hz =>
  have D:=(tI _ _ _ (h_ _) hz).1;rw[aU]at D;simp only[j6]at D
  split
  .split
   .next P hP =>
    have ⟨F,E⟩:=SP _ _ P hP
    split
    .exact⟨X,E⟩
    exact⟨k_ _,λp B=>by cases B⟩
   exact⟨k_ _,λp B=>by cases B⟩
  exact⟨k_ _,λp B=>by cases B⟩
 exact⟨k_ _,λp B=>by cases B⟩
theorem eh(t:B_):C (vS t)<=T t:=by
 rw[vS]
 split
 .next o i r hz =>
  have B:=(tI _ _ _ (h_ _) hz).1;rw[aU]at B;simp only[j6]at B
  split
  .rw[j6];omega
  exact k_ _
 exact k_ _
structure RepOk(A_:List B_)(n:Nat)(r:GRep):Prop where
 sent:lN A_ r.sent
 wl:C r.wants<=16*n
 ol:C r.offers<=16*n
 ws:∀w∈r.wants,C w<=19/\∀s∈w,T s<=24
 os:∀w∈r.offers,C w<=19/\∀s∈w,T s<=24
theorem yf(D:IdS A_){q:B_}(E:T q<=17):C (gP (dC A_ q))<=19/\∀s∈gP (dC A_ q),T s<=24:=by
 have hi:C (dC A_ q).ids<=16/\∀s∈(dC A_ q).ids,T s<=24:=by
  show C (if C (gC A_ q)<=16 then gC A_ q else[])<=16/\∀s∈(if C (gC A_ q)<=16 then gC A_ q else[]),T s<=24
  split
  .exact⟨by assumption,λs B=>by rw[iW (D.dig s (P6.1 B).1)];decide⟩
  exact⟨k_ _,λs B=>by cases B⟩
 have F:C (gC A_ q)<1000000:=Nat.lt_of_le_of_lt (length_filter_le _ _) D.len;refine⟨?_,λs B=>?_⟩
 .rw[gP,j8];simp only[j6,length_nil];omega
 rw[gP,mem_append]at B;rcases B with B|B
 .simp only[l9,q8,or_false]at B;rcases B with rfl|rfl|rfl
  .exact Nat.le_trans E E_
  .show T (aV (C (gC A_ q):Int))<=24;exact Nat.le_trans (oE X X) E_
  show T (F4 ⟨(aO (gC A_ q)).toArray⟩)<=24;rw[iW (AM _)];decide
 exact hi.2 s B
theorem RepOk.step(I:IdS A_)(h:RepOk A_ n r)(J:GoodP p):RepOk A_ (n+1) (nL A_ r p):=by
 have K:T p.pre<=16:=by have:=J.pre;rw[qW,l6,j0]at this;exact this.1
 have ⟨D,G,H,E,F⟩:=h;rw[nL]
 split
 .next hc =>
  have ⟨R,Q,_⟩:=J.sml hc;refine⟨D.fold _ _,?_,Nat.le_trans H X,λw B=>?_,F⟩
  .have:=length_filter_le (λi=>!θ (i∈A_)) p.ids;rw[j8,g_];omega
  rcases mem_append.1 B with B|B
  .exact E w B
  obtain ⟨i,hi,rfl⟩:=mem_map.1 B;rw[mem_filter]at hi;refine⟨(by decide:1<=19),λs L=>?_⟩;rw[q_]at L;rw[L,iW (FP Q i hi.1).1];decide
 split
 .exact⟨D,Nat.le_trans G X,Nat.le_trans H X,E,F⟩
 split
 .refine⟨D,Nat.le_trans G X,by rw[j8];simp only[j6,length_nil];omega,E,λw B=>?_⟩;rcases mem_append.1 B with B|B
  .exact F w B
  rw[q_]at B;subst B;exact yf I X
 refine⟨D,Nat.le_trans G X,by rw[j8,g_,show C A5=16 from rfl];omega,E,λw B=>?_⟩;rcases mem_append.1 B with B|B
 .exact F w B
 obtain ⟨d,P,rfl⟩:=mem_map.1 B;have:=(Wp d P).1;exact yf I (by rw[ByteArray.size_append];omega)
theorem LV:∀(L:List (List B_)),(∀w∈L,C w<=19/\∀s∈w,T s<=24)->C L.flatten<=19*C L/\∀s∈L.flatten,T s<=24
 | [],_=>⟨h_ _,λs B=>by cases B⟩
 |w::L,h=>by
  obtain ⟨H,F⟩:=LV L λw E=>h w (mem_cons_of_mem _ E);have ⟨G,D⟩:=h w mem_cons_self;rw[flatten_cons,j8,j6];refine⟨X,λs B=>?_⟩;rcases mem_append.1 B with B|B
  .exact D s B
  exact F s B
theorem UE(F:C L<=1000000)(h:∀w∈L,C w<=19/\∀s∈w,T s<=24):C L.flatten<549755813888/\C (aO (eR::aV (C L:Int)::L.flatten))<35184372088832/\C (aO (mJ::L.flatten))<35184372088832:=by
 have ⟨E,D⟩:=LV L h;have hi:T (aV (C L:Int))<=1000000:=Nat.le_trans (oE X X) E_;refine⟨X,?_,?_⟩
 .refine Nat.lt_of_le_of_lt (DP _ λs B=>?_) (by rw[j6,j6];omega);rcases l9.1 B with rfl|B
  .decide
  rcases l9.1 B with rfl|B
  .exact hi
  have:=D s B;omega
 refine Nat.lt_of_le_of_lt (DP _ λs B=>?_) (by rw[j6];omega);rcases l9.1 B with rfl|B
 .decide
 have:=D s B;omega
theorem jz(h:∀w∈L,C w<=19/\∀s∈w,T s<=24)(i n:Nat):∀w∈(L.drop i).take n,C w<=19/\∀s∈w,T s<=24:=λw B=>h w (mem_of_mem_drop (mem_of_mem_take B))
theorem Uj(l:List (List B_))(F:C l<=1000000)(h:∀w∈l,C w<=19/\∀s∈w,T s<=24)(H:aF):RC 48 [.pv (iT l),.pv (.fn 49)] (.pv (aL (VC lC l))) H :=gw 49 lC l X (λi n H=>by
  have G:C ((l.drop i).take n)<=C l:=by rw[q9,q6];omega
  have ⟨B,E,D⟩:=UE (L:=(l.drop i).take n) X (jz h i n);exact dO.fn call49 (aAB _ H X B D)) H
theorem Uk(l:List (List B_))(F:C l<=1000000)(h:∀w∈l,C w<=19/\∀s∈w,T s<=24)(H:aF):RC 48 [.pv (iT l),.pv (.fn 34)] (.pv (aL (VC sU l))) H :=gw 34 sU l X (λi n H=>by
  have G:C ((l.drop i).take n)<=C l:=by rw[q9,q6];omega
  have ⟨B,D,E⟩:=UE (L:=(l.drop i).take n) X (jz h i n);exact dO.fn call34 (wu _ H X B D)) H
theorem GT(J0:List (List B_)->B_)(l:List (List B_)):C (VC J0 l)<=C l:=by
 have h:∀(f:Nat) (l:List (List B_)),C (mm J0 f l)<=C l:=by
  intro f
  induction f with
  |zero=>exact λl=>k_ _
  |succ f E =>
   intro l;rw[mm]
   split
   .exact k_ _
   next D =>
   have G:=length_pos_iff.2 D;have F:=Z6 J0 l (C l) 1;have B:=E (l.drop (dk J0 l (C l) 1));rw[q6]at B;rw[j6];omega
 exact h _ l
theorem C0(L:List (List B_)):((L.map m8).take (0+C L)).drop 0=L.map m8:=gY m8 L
theorem nt(o:List (B_×B_))(f_:List B_):(((f_.map (jF o)).map S_).take (0+C f_)).drop 0=(f_.map (jF o)).map S_:=by
 have:=gY S_ (f_.map (jF o))
 rwa [g_]at this
theorem me(L:List B_)(t:B_)(H:aF)(hl:C L<1000000)(hs:∀t∈L,T t<1000000000):
  RC 14 [.pv (aL L),sv t] (.tup [.pv (aL (if 20000<T t then[]else BD L t)),iv (if 20000<T t then 2 else 0)]) H:=by
 refine Pu ?_;have v:=rn hl;have w:∀i,i∈(jX L).map Prod.fst↔i∈fL L:=λi=>(pQ _).mem_iff.symm;have b:=Ls L hl hs (H:=[]) Z;have W:=NH t;have κ:=eh t;have E:BD L t=([((xI (fL L) t).sent.map (jF (jX L))),VC lC (xI (fL L) t).wants,VC sU (xI (fL L) t).offers]:List (List B_)).flatten:=by rw[BD];simp
 have B:xI (fL L) t=(wB t).foldl (nL (fL L)) ⟨(vS t).foldl (gX (fL L)) [],[],[]⟩:=rfl;have Q:=λh H=>Gp t H h;have I:=λh H=>Bv t H h;generalize wB t=P at W B I;generalize vS t=D at κ B Q;generalize fL L=A_ at v w b E B;generalize jX L=o at w b E;have δ:=v.len;have β:C (D.map S_)=C D:=g_ _;have γ:C (P.map dF)=C P:=g_ _;have R:lN A_ []:=⟨nodup_nil,λi hi=>by cases hi⟩;refine Bd func14 Z ntmps14<|O aJ<|V aJ<|S<|O aA<|Y (gG U_)<|V iZ<|Cn ?_ ?_<;>intro g
 .have hbig:20000<T t:=I_ g
  rw[b6 hbig,b6 hbig];refine O aJ<|V aJ<|aC<|fO (H':=[]) (.inr Z) Z (aI Z) (aI Z) (P_ (r:=.tup [.pv (aL []),iv 2])) ?_;exact Qq
 have u:¬ 20000<T t:=J_ g
 rw[a8 u,a8 u];have Q:=λH=>Q X H;have I:=λH=>I X H;refine aB<|O aA<|Y (kc call42 (b))<|Y (vZ (id:=720) J9 Z Z)<|Y (pB aDw)<|Y (kb 718)<|V aJ<|S<|S ?_;refine gO.ent (E':=[(1,sv t),(6,.ref 718 0 0 0)]) (H':=(721,⟨0,1,9,[]⟩)::(718,bx 6 84 [.pv (aL A_),.mp 710 0,.osl 721 0 0 0,.mp 720 0,.pv .nils,.pv .nils])::(720,VD [])::(710,VD (tM o))::[]) ?_ ?_
 .exact (Q_ 721 1 9)
 refine gO.ent (E':=[(1,sv t),(6,.ref 718 0 0 0)]) (H':=(722,⟨0,1,22,[]⟩)::(721,⟨0,1,9,[]⟩)::(718,bx 6 84 [.pv (aL A_),.mp 710 0,.osl 721 0 0 0,.mp 720 0,.osl 722 0 0 0,.pv .nils])::(720,VD [])::(710,VD (tM o))::[]) ?_ ?_
 .exact (Q_ 722 1 22)
 refine gO.ent (E':=[(1,sv t),(6,.ref 718 0 0 0)]) (H':=(723,⟨0,1,22,[]⟩)::(722,⟨0,1,22,[]⟩)::(721,⟨0,1,9,[]⟩)::(718,bx 6 84 [.pv (aL A_),.mp 710 0,.osl 721 0 0 0,.mp 720 0,.osl 722 0 0 0,.osl 723 0 0 0])::(720,VD [])::(710,VD (tM o))::[]) ?_ ?_
 .exact (Q_ 723 1 22)
 refine Rd aA<|Y (kc call43 (Q _))<|Y (fJ aE)<|V aA<|aD<|bC (σ:=Nat) (λk=>([(1,sv t),(6,.ref 718 0 0 0),(20,.pv (aL D)),(21,iv (C (D.map S_):Int)),(22,iv (k:Int))],VJ A_ o ⟨(D.take k).foldl (gX A_) [],[],[]⟩)) (λk=>k<=C D) (λk=>C D - k) 0 (k_ _) ?_ ?_
 .exact L_
 intro k hk;have K:=(lN.fold (D.take k) [] R).len;refine Sz cF<|S<|Cn ?_ ?_<;>intro j
 .have hlt:k<C D:=I_ j
  have ⟨s,F⟩:=aR hlt;have hi:=cC (f:=S_) F;have G:(D.take (k+1)).foldl (gX A_) []=gX A_ ((D.take k).foldl (gX A_) []) s:=by rw[dT F,foldl_append];rfl
  generalize (D.take k).foldl (gX A_) []=f_ at K G |-;refine aB<|S<|aD<|O (jA aZ)<|Y (fK N_ (hi:=hi))<|V aJ<|Rd aA<|Y aA<|V (kc call44 (Yr (r:=⟨f_,[],[]⟩) w (show C f_<2^40 by omega) ⟨Z,Z,Z,Z,Z,Z,T_⟩))<|Rd iH<|V aA ?_;refine⟨k+1,X,X,?_⟩;dsimp only;rw[G];exact L_
 have a:k=C D:=J_ j
 subst a;rw[take_length];have K:=lN.fold D [] R;have ⟨c,e⟩:∃f_,f_=D.foldl (gX A_) []:=X_;rw[<-e]at K B |-;clear e;refine aP<|S<|O aA<|Y (kc call45 (I _))<|Y (fJ underlying86)<|V aA<|aD<|bC (σ:=Nat) (λk=>([(6,.ref 718 0 0 0),(31,.pv (C7 P)),(32,iv (C (P.map dF):Int)),(33,iv (k:Int))],VJ A_ o ((P.take k).foldl (nL A_) ⟨c,[],[]⟩))) (λk=>k<=C P/\RepOk A_ k ((P.take k).foldl (nL A_) ⟨c,[],[]⟩)) (λk=>C P - k) 0 ⟨k_ _,⟨K,h_ _,h_ _,(λw hw=>by cases hw),(λw hw=>by cases hw)⟩⟩ ?_ ?_
 .exact L_
 rintro k ⟨hk,hR⟩;refine Sz cF<|S<|Cn ?_ ?_<;>intro l
 .have hlt:k<C P:=I_ l
  have ⟨p,F⟩:=aR hlt;have hi:=cC (f:=dF) F;have m:=W.2 p (m7 F);have G:(P.take (k+1)).foldl (nL A_) ⟨c,[],[]⟩=nL A_ ((P.take k).foldl (nL A_) ⟨c,[],[]⟩) p:=by rw[dT F,foldl_append];rfl
  have d:=hR.step v m;have ⟨J,n,q,_,_⟩:=hR;generalize (P.take k).foldl (nL A_) ⟨c,[],[]⟩=r at J n q d G |-;refine aB<|S<|aD<|O (jA aAR)<|Y (by exact eY Z iS eE Z hi l4 Z)<|Y (kl 10 Fy)<|Uu (jH eE)<|Zz<|Rd aA<|Y u3<|V (kc call46 (Nx (r:=r) w v m J X X ⟨Z,Z,Z,Z,Z,Z,T_⟩))<|Rd iH<|V aA ?_;refine⟨k+1,⟨X,by rw[G];exact d⟩,X,?_⟩;dsimp only;rw[G];exact L_
 have a:k=C P:=J_ l
 subst a;rw[take_length]at hR |-;rw[<-B]at hR |-;rw[E];clear E B;generalize xI A_ t=r at hR |-;have ⟨J,n,q,τ,ρ⟩:=hR;have hrs:=J.len;have z:=λH=>Uj r.wants X τ H;have y:=λH=>Uk r.offers X ρ H;have hw1:=GT lC r.wants;have ho1:=GT sU r.offers;have x:=λH=>lF [r.sent.map (jF o),VC lC r.wants,VC sU r.offers] H (by decide:3<2^40) (by simp only[flatten_cons,flatten_nil,j8,length_nil,g_];omega);refine aP<|S ?_;refine gO.ent (cH.fzG (id:=721) (E':=[(6,.ref 718 0 0 0)]) (H':=[(718,bx 6 84 [.pv (aL A_),.mp 710 0,.pv (aL (r.sent.map (jF o))),.mp 720 0,.osl 722 (C r.wants) 0 (C r.wants),.osl 723 (C r.offers) 0 (C r.offers)]),(710,VD (tM o)),(720,VD (sM r.sent)),(722,⟨C r.wants,1,22,sP r.wants⟩),(723,⟨C r.offers,1,22,sP r.offers⟩)]) ((r.sent.map (jF o)).map S_) Z (dS _) ?_ Z ?_ ?_) ?_
 .intro p hp;simp only[l9,q8,or_false]at hp;rcases hp with rfl;exact⟨_,Z,.same m3⟩
 .exact⟨⟨_,Z,Z,Z,Z,mO Z (bJ (.same H_) (bJ (.same m3) (bJ (.osl (nt o r.sent)) (bJ (.same m3) (bJ (.same m3) (bJ (.same m3) kG))))))⟩,⟨_,Z,Z,Z,Z,eL (eA _)⟩,⟨_,Z,Z,Z,Z,eL (eA _)⟩,⟨_,Z,Z,Z,Z,eL (nJ _)⟩,⟨_,Z,Z,Z,Z,eL (nJ _)⟩,T_⟩
 .exact T_
 refine gO.ent (cH.fzG (id:=722) (E':=[(6,.ref 718 0 0 0)]) (H':=[(718,bx 6 84 [.pv (aL A_),.mp 710 0,.pv (aL (r.sent.map (jF o))),.mp 720 0,.pv (iT r.wants),.osl 723 (C r.offers) 0 (C r.offers)]),(710,VD (tM o)),(720,VD (sM r.sent)),(723,⟨C r.offers,1,22,sP r.offers⟩)]) (r.wants.map m8) Z (mF _) ?_ Z ?_ ?_) ?_
 .intro p hp;simp only[l9,q8,or_false]at hp;rcases hp with rfl;exact⟨_,Z,.same m3⟩
 .exact⟨⟨_,Z,Z,Z,Z,mO Z (bJ (.same H_) (bJ (.same m3) (bJ (.same H_) (bJ (.same m3) (bJ (.osl (C0 r.wants)) (bJ (.same m3) kG))))))⟩,⟨_,Z,Z,Z,Z,eL (eA _)⟩,⟨_,Z,Z,Z,Z,eL (eA _)⟩,⟨_,Z,Z,Z,Z,eL (nJ _)⟩,T_⟩
 .exact T_
 refine gO.ent (cH.fzG (id:=723) (E':=[(6,.ref 718 0 0 0)]) (H':=[(718,bx 6 84 [.pv (aL A_),.mp 710 0,.pv (aL (r.sent.map (jF o))),.mp 720 0,.pv (iT r.wants),.pv (iT r.offers)]),(710,VD (tM o)),(720,VD (sM r.sent))]) (r.offers.map m8) Z (mF _) ?_ Z ?_ ?_) ?_
 .intro p hp;simp only[l9,q8,or_false]at hp;rcases hp with rfl;exact⟨_,Z,.same m3⟩
 .exact⟨⟨_,Z,Z,Z,Z,mO Z (bJ (.same H_) (bJ (.same m3) (bJ (.same H_) (bJ (.same m3) (bJ (.same H_) (bJ (.osl (C0 r.offers)) kG))))))⟩,⟨_,Z,Z,Z,Z,eL (eA _)⟩,⟨_,Z,Z,Z,Z,eL (eA _)⟩,T_⟩
 .exact T_
 exact aN a7<|Cq aA<|Cq sW<|Cq (bD se)<|Cq (bU aG)<|Cq aA<|Cq sW<|Cq (bD sc)<|Cq (bU isAgg73)<|Cq (kc call48 (z _))<|Cq aA<|Cq sW<|Cq (bD UA)<|Cq (bU isAgg73)<|Cq (kc call48 (y _))<|Cq (aM ([r.sent.map (jF o),VC lC r.wants,VC sU r.offers].map m8) Z uS Z Z Z Z Z (jE _))<|Cq (kc call47 (x _))<|Cq aJ<|Cq aJ<|bG<|Kr<|aC<|Ru<|Qq
end Go.Proofs.C
namespace Go.Proofs.C
open Go.Proofs.Tryz
open Go.Abs
variable{F:FuncId}{caps:List AV}{PR:List B_->Prop}
def za(F:FuncId)(caps:List AV)(PR:List B_->Prop)(K:aF):Prop :=∀(E:AV) (D:List B_->aF),(∀B,Sub K (D B))->(∀B,(D B).get 946=ζ)->(∀B,dI (D B))->(∀B,Clo (D B) E) ->
  (∀B x,C B<2^40->dO φ E [sv x] (D B) (λr H'=>r=bv N/\H'=D (B++[x]))) ->
  (∀o B x,C B<2^40->dO φ E [sv x] ((946,o)::D B) (λr H'=>r=bv N/\H'=(946,o)::D (B++[x]))) ->
  aW φ F (E::caps) (D []) (λr H'=>r=.tup []/\∃B,PR B/\H'=D B)
def Qr:dD:=[(2,.ref 942 0 0 0)]
def Rk(e_:List B_)(K:aF):aF:=(945,⟨C e_,1,9,bQ e_⟩)::(942,bx 1 22 [.osl 945 (C e_) 0 (C e_)])::K
theorem tz(e_:List B_)(s:B_)(K:aF):Rk (e_++[s]) K=(945,⟨C e_+1,1,9,bQ (e_++[s])⟩)::(942,bx 1 22 [.osl 945 (C e_+1) 0 (C e_+1)])::K:=by simp[Rk]
theorem ng{e_:List B_}{K:aF}{x:Go.Loop}(h:dI K):dI ((944,LR x Qr)::Rk e_ K):=by refine dI.app (D:=[(944,LR x Qr),(945,⟨C e_,1,9,bQ e_⟩),(942,bx 1 22 [.osl 945 (C e_) 0 (C e_)])]) ?_ h;refine EB.spec ⟨oM (by simp[Qr];rfl),aQ _ _,?_,T_⟩;intro r E a B;simp only[bx,q_]at E;subst E;rw[q_]at B;subst B;exact .osl Z
theorem tl(c:∀(args:Array Value) (w:World),(callFunc F args).run φ w=.ok (.enter F args) w)(K:aF)(d:za F caps PR K)(k2:K.get 942=ζ)(P:K.get 944=ζ)(b:K.get 945=ζ)(e:K.get 946=ζ)(R:dI K)(W:Clo K (.clo F caps)):
  aW φ 129 [.pv .nils,.clo F caps] K (λr H'=>∃B,PR B/\r=.osl 945 (C B) 0 (C B)/\H'=(945,⟨C B,1,9,bQ B⟩)::K):=by
 have Q:aF.get ((945,⟨0,1,9,[]⟩)::K) 942=ζ:=k2;refine Bd func129 Z ntmps129<|UU (t:=0) (id:=945) (sz:=1) (ty:=9) Z b rfl<|YY (t:=0) Z Z Z (h_ _)<|O (tP (id:=942) Z Z Z Z Q)<|V aJ<|S<|Sz aA<|aD ?_;refine gO.ent (E':=[(2,.ref 942 0 0 0),(6,.clo F caps)]) (H':=Rk [] K) (cH.get' ⟨⟨_,Z,Z⟩,⟨_,Z,Z⟩,T_⟩ (λj=>nK E_ j))<|CN (id:=944) (p:=7) Qr Z c Z P (by simp[Qr];rfl) ?_;intro x E G H I J L;refine(d (.yld 944 0) (λB=>(944,LR x Qr)::Rk B K) (λB=>?_) (λB=>e) (λB=>ng R) (λB=>by simp;rfl) ?_ ?_).mono ?_
 .refine Sub.app (D:=[(944,LR x Qr),(945,⟨C B,1,9,bQ B⟩),(942,bx 1 22 [.osl 945 (C B) 0 (C B)])]) ?_;intro p a;simp only[l9,q8,or_false]at a;rcases a with rfl|rfl|rfl
  .exact P
  .exact b
  exact k2
 .intro B s hM;refine .inl ⟨944,0,Z,?_⟩;rw[tz];refine MV [(2,.ref 942 0 0 0),(5,sv s)] (Rk B K) E G H I J L Z Z Z ?_ ?_
  .refine Rg<|Da ?_;exact E0
  refine aD<|Rd (bU aG)<|Y aA<|Y (by exact aM [[.str s]] Z aZ Z Z Z Z Z R_)<|Y (by exact bW (ps:=[[.str s]]) Z aZ sZ Z Z Z Z Z (cY _) Z R_ (m:=1) Z X Z (gB _ s))<|Uu (jH sizeOf22)<|Zz ?_;exact⟨(945,⟨B.length+1,1,9,bQ (B++[s])⟩)::(942,bx 1 22 [.osl 945 (B.length+1) 0 (B.length+1)])::K,cH.get' T_ (λj=>jt [_,_,_] [_,_,_,_,_] (by repeat(first|exact trivial|refine⟨Z,?_⟩)) j),Z,Z⟩
 .intro o B s hM;refine dO.congrG (H1:=(944,LR x Qr)::(946,o)::Rk B K) (K1:=(944,LR x Qr)::(946,o)::Rk (B++[s]) K) (.inl ⟨944,0,Z,?_⟩) (λj=>nK E_ j) (λj=>nK E_ j);rw[tz];refine MV [(2,.ref 942 0 0 0),(5,sv s)] ((946,o)::Rk B K) E G H I J L Z Z Z ?_ ?_
  .refine Rg<|Da ?_;exact E0
  refine aD<|Rd (bU aG)<|Y aA<|Y (by exact aM [[.str s]] Z aZ Z Z Z Z Z R_)<|Y (by exact bW (ps:=[[.str s]]) Z aZ sZ Z Z Z Z Z (cY _) Z R_ (m:=1) Z X Z (gB _ s))<|Uu (jH sizeOf22)<|Zz ?_;exact⟨(946,o)::(945,⟨B.length+1,1,9,bQ (B++[s])⟩)::(942,bx 1 22 [.osl 945 (B.length+1) 0 (B.length+1)])::K,cH.get' T_ (λj=>jt [_,_,_,_] [_,_,_,_,_,_] (by repeat(first|exact trivial|refine⟨Z,?_⟩)) j),Z,Z⟩
 rintro r H' ⟨rfl,B,hM,rfl⟩;refine⟨x,_,Z,by rw[E];decide,Z,λz=>?_⟩;rw[G];refine O (bU aG)<|V aJ<|aC ?_;refine cN (H':=((945,⟨C B,1,9,bQ B⟩)::K)) (.inr Z) Z (aI Z) (Fin.front' [(944,LR z Qr),(945,⟨C B,1,9,bQ B⟩),(942,bx 1 22 [.osl 945 (C B) 0 (C B)])] [(945,⟨C B,1,9,bQ B⟩)] (.osl Z) (by simp[k2,P,aF.get]) (by intro p m;rw[mem_singleton]at m;subst m;rfl) (EB.spec ⟨aQ _ _,T_⟩) R (by simp[k2,P,aF.get])) ?_;exact⟨B,hM,Z,Z⟩
theorem Ny(E:∀(args:Array Value) (w:World),(callFunc F args).run φ w=.ok (.enter F args) w)(K:aF)(G:za F caps PR K)(k2:K.get 942=ζ)(I:K.get 944=ζ)(J:K.get 945=ζ)(L:K.get 946=ζ)(H:dI K)(D:Clo K (.clo F caps)):
  aW φ 75 [.clo F caps] K (λr H'=>∃B,PR B/\r=.osl 945 (C B) 0 (C B)/\H'=(945,⟨C B,1,9,bQ B⟩)::K):=by
 refine Bd func75 Z ntmps75<|Sz aJ<|Sr<|Dm<|tq Z Z (KX Z Z call129 Z (tl E K G k2 I J L H D)) ?_;rintro r H' ⟨B,hM,rfl,rfl⟩;refine V aJ<|aC<|cN (H':=((945,⟨C B,1,9,bQ B⟩)::K)) (.inr Z) Z (aI Z) Fin.refl ?_;exact⟨B,hM,Z,Z⟩
theorem zn(l:List B_)(K:aF)(g:C l<2^40)(P:K.get 951=A (bx 1 22 [.pv (aL l)])):za 77 [.ref 951 0 0 0] (λF=>F.Perm l) K:=by
 intro c E Q d R e I b;have L:∀F,(E F).get 951=A (bx 1 22 [.pv (aL l)]):=λF=>Q F _ _ P;have a:C (l.map S_)=C l:=g_ _;refine Bd func77 Z ntmps77<|O (aY Z aG Z (L []) Z Z Z)<|Y (fJ aE)<|V aA<|aD<|bC (σ:=Nat) (λi=>([(0,c),(5,.pv (aL l)),(6,iv (C (l.map S_):Int)),(7,iv (i:Int))],E (l.take i))) (λi=>i<=C l) (λi=>C l - i) 0 (k_ _) ?_ ?_
 .exact E0
 rintro i hi;refine Sz cF<|S<|Cn ?_ ?_<;>intro B
 .have hlt:i<C l:=I_ B
  have ⟨s,J⟩:=aR hlt;have W:=cC (f:=S_) J;have D:=I (l.take i) s (by rw[q9];omega);rw[<-dT J]at D;refine aB<|S<|aD<|O (jA aZ)<|Y (fK N_)<|V aJ<|O aA<|Y aA<|Y (dH Z Z Z (D))<|V iE<|Cn ?_ ?_<;>intro G
  .cases G
  refine aB<|Rd iH<|V aA ?_;exact⟨i+1,X,X,E0⟩
 have H:i=C l:=J_ B
 subst H;refine aP ?_;exact pI (H':=E (l.take (C l))) (.inl Z) Z Fin.refl ⟨Z,_,by rw[take_length],Z⟩
theorem Sv{L:List B_}(a:C L<2^40)(I:∀(args:Array Value) (w:World),(callFunc F args).run φ w=.ok (.enter F args) w)(K:aF)(J:za F caps (λB=>B.Perm L) K)(k2:K.get 942=ζ)(Q:K.get 944=ζ)(R:K.get 945=ζ)(W:K.get 946=ζ)(P:dI K)(D:Clo K (.clo F caps)):
  aW φ 32 [.clo F caps] K (λr H'=>r=.osl 945 (C L) 0 (C L)/\H'=(945,⟨C L,1,9,fN (jT L)⟩)::K):=by
 refine Bd func32 Z ntmps32<|Sz aJ<|Sr<|Dm<|tq Z Z (bH Z Z call75 Z (Ny I K J k2 Q R W P D)) ?_;rintro r H' ⟨B,hperm,rfl,rfl⟩;have G:C B<2^62:=by rw[hperm.length_eq];omega
 have H:=Hy hperm;have E:C B=C L:=hperm.length_eq;refine V aJ<|O aA<|V (kc call76 (Ah B Z Z G))<|O aA<|V aJ<|aC ?_;refine cN (H':=((945,⟨C B,1,9,fN (jT B)⟩)::K)) (.inr Z) Z (aI Z) (Fin.get' (λj=>xR _ _ _ _ j)) ?_;exact⟨by rw[E],by rw[H,E]⟩
end Go.Proofs.C
namespace Go.Proofs.C
open Go.Proofs.Tryz
open Go.Abs Go.Lib
variable{l A_:List B_}{x s t i:B_}{k:Nat}
abbrev Ry(P:List B_):Ob:=bx 1 22 [.pv (aL P)]
theorem zm(P:List B_)(H:aF)(B:H.get 951=ζ):
  aW φ 33 [.pv (aL P)] H (λr H'=>r=.clo 77 [.ref 951 0 0 0]/\H'=(951,Ry P)::H):=by
 refine Bd func33 Z ntmps33<|O (tP (id:=951) Z Z Z Z B)<|V aJ<|O (iG Z Z)<|V aJ<|aC<|cN (H':=((951,Ry P)::H)) (.inr Z) Z (aI Z) Fin.refl ?_;exact Qq
def Fi(i:Nat):Nat:=if i=901 then 945 else if i=945 then 901 else i
theorem Se(i:Nat):Fi (Fi i)=i:=by
 unfold Fi
 repeat' split
 all_goals omega
abbrev mx(g:Nat)(l:List B_):Ob:=⟨g,1,9,uG l⟩
theorem ZY(ρ:Nat->Nat)(g:Nat)(l:List B_):xJ ρ (mx g l)=mx g l:=by
 show (⟨g,1,9,(uG l).map (BZ ρ)⟩:Ob)=_;have:∀r∈uG l,BZ ρ r=r:=by
  intro r B;obtain ⟨s,_,rfl⟩:=mem_map.1 B;rfl
 rw[map_congr_left this,map_id']
theorem zy(H:aF)(l:List B_):∀r∈uG l,∀a∈r,Clo H a:=by intro r D a B;obtain ⟨s,_,rfl⟩:=mem_map.1 D;rw[S_,map_cons,map_nil,q_]at B;subst B;exact .pv _
instance(H:aF)(l:List B_):W_ (H) (uG l):=⟨zy H l⟩
theorem td(L:List B_)(g:Nat)(H:aF)(G:H.get 945=A (mx g L))(J:C L<2^40):
  aW φ 31 [.osl 945 g 0 (C L)] H (λr H'=>r=.osl 945 g 0 (C (fW L))/\H'=[(945,mx g (fW L++List.replicate (C L - C (fW L)) a6)),(945,mx g L)]++H):=by
 have F:=YT L g [(901,mx g L)] Z J;have D:IU Fi [(901,mx g L)]=[(945,mx g L)]:=by
  show [(Fi 901,xJ Fi (mx g L))]=_;rw[ZY];rfl
 have E:IU Fi [(901,mx g (fW L++List.replicate (C L - C (fW L)) a6)),(901,mx g L)]=[(945,mx g (fW L++List.replicate (C L - C (fW L)) a6)),(945,mx g L)]:=by
  show [(Fi 901,xJ Fi (mx g (fW L++List.replicate (C L - C (fW L)) a6))),(Fi 901,xJ Fi (mx g L))]=_;rw[ZY,ZY];rfl
 have I:=aW.ren (ρ:=Fi) Se F (args':=[.osl 945 g 0 (C L)]) (r':=.osl 945 g 0 (C (fW L))) Z D Z E;refine I.frame (HI.sub ⟨G,T_⟩) (dI.of (λp B=>by
  rw[q_]at B;subst B;exact zy _ _)) m3 (λid h=>.inl ?_)
 simp only[aF.get]at h |-;cases e:Nat.beq 945 id with
 |true=>rfl
 |false=>rw[e]at h;cases h
theorem Ak(l:List B_):(jT l).Pairwise (λa b=>jI b a=η):=by
 rw[jT,pairwise_map];refine(pairwise_mergeSort (le:=λ(x y:List UInt8)=>θ (x<=y)) (λa b c B D=>?_) (λa b=>OK a b) (l.map vc)).imp fun {a b} hab=>?_
 .rw[j0]at *;exact List.le_trans B D
 rw[j0]at hab;rw[C5,n_];exact λh=>absurd hab (List.not_le.2 h)
def mY(l:List B_):List B_:=fW (jT l)
theorem yL:x∈mY l↔x∈l:=F7.trans (pQ l).mem_iff
theorem B5(l:List B_):zT (mY l):=MA (Ak l)
theorem KW(l:List B_):C (mY l)<=C l:=by have B:=YC (jT l);rw[jP]at B;exact B
theorem Uw(P R:List B_):(((mY P++R).map S_).take (0+C (mY P))).drop 0=(mY P).map S_:=by rw[drop_zero,r8,map_append];exact take_left' (g_ _)
theorem Ux{a b:List B_}(h:∀t,t∈a↔t∈b):mY a=mY b:=IP _ _ (B5 a) (B5 b) λx=>by rw[yL,yL];exact h x
theorem XN(h:zT l):mY l=l:=IP _ _ (B5 l) h λx=>yL
def DH(ids:List B_):B_:=if ids.all m6=N then kE (mY ids)else a6
def DI(ids:List B_):Int:=if ids.all m6=N then 0 else 1
theorem Lg(t:B_)(B:T t<2^40)(H:aF):RC 29 [sv t] (bv (oddJ t)) H:=by refine Pu ?_;exact Bd func29 Z ntmps29<|Sz aJ<|O aA<|Y (kc call30 (X8 t B _))<|Y iE<|V aJ<|aC<|Rt<|Qq
theorem K9(ids:List B_)(H:aF)(c:C ids<1000000)(D:∀t∈ids,T t<2^40):RC 12 [.pv (aL ids)] (.tup [sv (DH ids),iv (DI ids)]) H:=by
 refine Pu ?_;have b:=λH=>D2 29 ids oddJ X (λs d=>dO.fn call29 (Lg s (D s d) [])) H;rw[MF]at b;rw[DH,DI];refine Bd func12 Z ntmps12<|O aJ<|V aJ<|S<|O aA<|V (kc call28 (b _))<|Cn ?_ ?_<;>intro G
 .have hno:ids.all m6=η:=not_not G;rw[a8 (by rw[hno];decide),a8 (by rw[hno];decide)];refine O aJ<|V aJ<|aC<|fO (H':=[]) (.inr Z) Z (aI Z) (aI Z) (P_ (r:=.tup [.pv (.str a6),iv 1])) ?_;exact Qq
 have B:ids.all m6=N:=pE G;rw[b6 B,b6 B];have J:IdS (mY ids):=⟨B5 ids,λx e=>all_eq_true.1 B x (yL.1 e),Nat.lt_of_le_of_lt (KW ids) c⟩;have a:=Sv (L:=ids) X call77 ((951,Ry ids)::[]) (zn ids _ X Z) Z Z Z Z (dI.ofL ⟨l5,T_⟩) m3;have K:=xZ J.srt J.dig (p:=a6) E_ J.len;have P:=yd K;have Q:=jw K;have W:=λH=>gl (mY ids) a6 H J E_;have I:=λH=>N3 (dC (mY ids) a6) H (by have:=K.cnt;omega) (by rw[gP,j8]at P;omega);have ⟨F,E⟩:∃F,F=gP (dC (mY ids) a6):=X_;have R:=λH=>wu [F] H (by decide:1<2^40) (by simp only[flatten_cons,flatten_nil,append_nil];rw[E];omega) (Nat.lt_of_le_of_lt (yT _ λs D=>by
  simp only[flatten_cons,flatten_nil,append_nil]at D;rcases l9.1 D with rfl|D
  .decide
  rcases l9.1 D with rfl|D
  .exact(by decide +kernel:T (aV ((1:Nat):Int))<=16)
  rw[E]at D;exact Q s D) (by simp only[flatten_cons,flatten_nil,append_nil,j6];rw[E];omega))
 rw[kE,<-E];rw[<-E]at I;refine aB<|O aA<|Y (kc call33 (zm ids _ Z))<|Y (kc call32 (a))<|Y (kc call31 (by have h:=td (jT ids) (C ids) ((945,mx (C ids) (jT ids))::(951,Ry ids)::[]) Z (by rw[jP];omega);rw[jP]at h;exact h))<|V aJ<|S ?_;refine gO.ent (cH.fzG (id:=945) (E':=[(4,.pv (aL (mY ids)))]) (H':=[]) ((mY ids++List.replicate (C ids - C (fW (jT ids))) a6).map S_) Z (by rw[map_map];rfl) ?_ Z T_ T_) ?_
 .intro p hp;rw[q_]at hp;subst hp;exact⟨_,Z,.osl (Uw ids _)⟩
 exact Rd aA<|Y (kc call35 (W _))<|Y (kc call36 (I _))<|Y (aM ([F].map m8) Z uS Z Z Z Z Z (jE _))<|Y (kc call34 (R _))<|Y aJ<|V aJ<|aC<|Ru<|Qq
theorem M1(a b:List B_)(H:aF)(d:C a<1000000000)(g:C b<1000000000):RC 16 [.pv (aL a),.pv (aL b)] (bv (θ (a=b))) H:=by
 refine Pu ?_;have R:C (a.map S_)=C a:=g_ _;have W:C (b.map S_)=C b:=g_ _;refine Bd func16 Z ntmps16<|Sz aJ<|S<|O aA<|Y (fJ aE)<|Y aA<|Y (fJ aE)<|V yQ<|Cn ?_ ?_<;>intro B
 .have J:¬ C a=C b:=by have h:=B;simp at h;omega
  have I:θ (a=b)=η:=decide_eq_false λe=>J (by rw[e]);rw[I];exact Sz aJ<|aC<|Rt<|Qq
 have J:C a=C b:=by have h:=B;simp at h;omega
 refine aB<|S<|Sz aJ<|aD<|bC (σ:=Nat) (λk=>([(0,.pv (aL a)),(1,.pv (aL b)),(5,iv (k:Int))],[])) (λk=>k<=C a/\a.take k=b.take k) (λk=>C a - k) 0 ⟨k_ _,Z⟩ ?_ ?_
 .exact Wk
 rintro k ⟨hk,hs⟩;refine S<|O aA<|Y aA<|Y (fJ aE)<|V cF<|Cn ?_ ?_<;>intro D
 .have hlt:k<C a:=I_ D
  have ⟨x,G⟩:=aR hlt;have ⟨y,K⟩:=aR (l:=b) (k:=k) X;have P:=cC (f:=S_) G;have Q:=cC (f:=S_) K;refine aB<|S<|aD<|S<|aN a7<|Cq aA<|Cq aA<|Cq (jA aZ)<|Cq (fK N_)<|Cq aA<|Cq aA<|Cq (jA aZ)<|Cq (fK N_)<|Cq EN<|bG<|Kr<|Cn ?_ ?_<;>intro E
  .have hne:¬ x=y:=by have h:=E;simpa using h
   have I:θ (a=b)=η:=decide_eq_false λe=>hne (by rw[e,K]at G;cases G;rfl);rw[I];exact Sz aJ<|aC<|Rt<|Qq
  have L:x=y:=by have h:=E;simpa using h
  refine aB<|Rd aA<|Y iH<|Da ?_;refine⟨k+1,⟨X,?_⟩,X,Wk⟩;rw[dT G,dT K,hs,L]
 have F:k=C a:=J_ D
 have c:θ (a=b)=N:=decide_eq_true (by
  rw[<-take_length (l:=a),<-F,hs,F,J,take_length])
 rw[c];exact aP<|Sz aJ<|aC<|Rt<|Qq
def O9(l:List B_):Nat:=(l.map ByteArray.size).sum
theorem zw(h:l[k]?=A s):O9 (l.take (k+1))=O9 (l.take k)+T s:=by rw[dT h,O9,map_append,sum_append];rfl
theorem Sf{m:Nat}(h:∀s∈l,T s<=m)(k:Nat):O9 (l.take k)<=C l*m:=by
 have D:∀(l:List B_),(∀s∈l,T s<=m)->O9 l<=C l*m:=by
  intro l
  induction l with
  |nil=>exact λ_=>k_ _
  |cons a l E =>
   intro h;have F:=h a mem_cons_self;have:=E λs B=>h s (mem_cons_of_mem _ B);show T a+O9 l<=(C l+1)*m;rw[succ_mul];omega
 exact Nat.le_trans (D _ λs B=>h s (mem_of_mem_take B)) (mul_le_mul_right _ (by rw[q9];omega))
def Cx(l:List B_)(n:Int):Bool:=θ ((C (l.map S_):Int)<=n)&&θ ((O9 l:Int)<=20000)
theorem aDq(l:List B_)(n:Int)(H:aF)(K:C l<=1048576)(Q:∀s∈l,T s<=1048576):RC 10 [.pv (aL l),iv n] (bv (Cx l n)) H:=by
 refine Pu ?_;have L:C (l.map S_)=C l:=g_ _;have B:=Sf Q;have G:C l*1048576<=1048576*1048576:=mul_le_mul_right _ K;refine Bd func10 Z ntmps10<|Sz aJ<|Sz aJ<|S<|Sz aJ<|aD<|bC (σ:=Nat) (λk=>([(0,.pv (aL l)),(1,iv n),(5,iv (O9 (l.take k):Int)),(6,iv (k:Int))],[])) (λk=>k<=C l) (λk=>C l - k) 0 (k_ _) ?_ ?_
 .exact Wk
 intro k W;have R:=B k;refine S<|O aA<|Y aA<|Y (fJ aE)<|V cF<|Cn ?_ ?_<;>intro D
 .have hlt:k<C l:=I_ D
  have ⟨s,E⟩:=aR hlt;have hi:=cC (f:=S_) E;have P:=zw E;have I:=B (k+1);refine aB<|S<|aD<|Rd aA<|Y aA<|Y aA<|Y (kx aZ hi)<|Y (fK N_ (hi:=hi))<|Y (gG U_)<|Y (by exact dB Z Z Z (show ξ.wrap ((O9 (l.take k):Int)+(T s:Int))=((O9 (l.take (k+1)):Nat):Int)by rw[lZ X X];omega))<|V aJ<|Rd aA<|Y kp<|Da ?_;exact⟨k+1,X,X,Wk⟩
 have F:k=C l:=by have:=b_ D;omega
 subst F;rw[take_length];refine aP<|S<|aT (t:=4) (n:=10) (A_:=Cx l n) ?_ ?_
 .all_goals refine Y aA<|Y (fJ aE)<|Y aA<|Y EQ<|Dm ?_<;>(refine Sp 24 (λJ=>?_) λJ=>?_)<;>(try exact w_)<;>(first|refine M<|M ?_|refine U aA<|U EQ ?_)<;>refine Y cE<|Da ?_<;>exact Gj (h:=by rw[Cx];(rw[J];rfl))
 exact aC<|Rt<|Qq
theorem Nk(h:Cx l 40=N):C l<=40/\∀s∈l,T s<=20000:=by
 rw[Cx,l6,j0,j0,g_]at h;refine⟨X,λs B=>?_⟩;have D:∀(l:List B_),∀s∈l,T s<=O9 l:=by
  intro l
  induction l with
  |nil=>intro s B;cases B
  |cons a l E =>
   intro s B;show T s<=T a+O9 l;rcases l9.1 B with rfl|B
   .omega
   have:=E s B;omega
 have:=D l s B;omega
def Th:B_:=⟨#[115,101,99,114,101,116]⟩
def r0W:j_:=⟨5,0,1,1,⟨#[109,97,105,110]⟩,[],[],a6,η,0,a6,zS,⟨a6,a6,[],[],zS⟩⟩
theorem aBK:(OT r0W Th 1).2=0:=by kernel_rfl
theorem aBM:∃x,OT r0W Th 1=(x,0):=by have h:=aBK;generalize OT r0W Th 1=y at *;exact⟨y.1,Prod.ext Z h⟩
theorem aD2:mX r0W:=by have B:qS 0:=⟨E_,E_⟩;have D:qS 1:=⟨E_,E_⟩;exact⟨⟨⟨E_,E_⟩,B,D,D,B⟩,⟨E_,E_,E_⟩,⟨E_,λt h=>by cases h⟩,⟨E_,λt h=>by cases h⟩,okZ,E_,E_,⟨E_,λt h=>by cases h⟩,E_,okZ⟩
theorem Iz:∃t i,ER t=A i/\∀H,RC 27 [] (.tup [sv t,sv i]) H:=by have ⟨x,I⟩:=aBM;have F:=Vx I;have B:=GU (aO (jW x));rw[F.parse]at B;have D:=λH=>aBL r0W Th 1 aD2 E_ E_ H;rw[I]at D;have E:=λH=>ZE x B.1 B.2 H;rw[F.text]at E;have G:=λH=>xv x B.1 B.2 H;refine⟨a_ (aO (jW x)),H9 x,by rw[ER,cJ,F.parse];rfl,λH=>?_⟩;generalize a_ (aO (jW x))=t at *;generalize H9 x=i at *;clear I F B;refine Pu ?_;exact Bd func27 Z ntmps27<|O aJ<|V aJ<|O (pB UP)<|Y (kc call71 (D _))<|Y aA<|Y dL<|Y dL<|Y (kl 2 dt)<|Uu (jH bL)<|V aJ<|O (xD cQ bL)<|Y (kc call72 (E _))<|Y aA<|Y dL<|Y dL<|Y aJ<|V aJ<|O aA<|Y (xD cQ bL)<|Y (kc call55 (G _))<|Y aJ<|V aJ<|aC<|Ru<|Qq
theorem bp(hi:ER t=A i):fL [t]=[i]:=by
 have h:jX [t]=[(i,t)]:=by
  show lS [] t=_;rw[lS,hi];rfl
 refine IP _ _ (qX _) (pairwise_singleton _ _) λx=>?_;rw[fL,(pQ _).mem_iff,h];rfl
theorem iy(hi:ER t=A i):jF (jX [t]) i=t:=by
 have h:jX [t]=[(i,t)]:=by
  show lS [] t=_;rw[lS,hi];rfl
 rw[h,jF,find?_cons,decide_eq_true rfl];rfl
theorem xw(hi:m6 i=N):IdS [i]:=⟨pairwise_singleton _ _,(λx B=>by rw[q_]at B;rw[B];exact hi),(by decide:1<1000000)⟩
theorem bq:IdS []:=⟨List.Pairwise.nil,(λx B=>by cases B),(by decide:0<1000000)⟩
theorem vq{E:List B_}(B:IdS A_):xI E (kE A_)=nL E ⟨[],[],[]⟩ (dC A_ a6):=by rw[xI,I7 B.srt B.dig B.len,show vS (kE A_)=[]from eg [dC A_ a6] (λp D=>by rw[q_]at D;subst D;exact xZ B.srt B.dig E_ B.len) (show 1<1000000 by decide)];rfl
theorem aEL:BD [] (kE [])=[]:=by
 have:=yg [] [] (λt=>Iff.rfl) E_
 rwa [QR]at this
theorem aEK(hi:ER t=A i):BD [t] (kE [])=[t]:=by rw[BD,bp hi,vq bq,nL,b6 (show (dC [] a6).cnt<=16 by decide)];show List.map _ (((gC [i] a6).filter λi=>!θ (i∈(dC [] a6).ids)).foldl (gX [i]) [])++(VC lC _++VC sU [])=_;rw[P5,show (dC [] a6).ids=[]from rfl];simp only[filter_cons,filter_nil,q8,decide_false,Bool.not_false,if_true,foldl_cons,foldl_nil];rw[gX,b6 H_];show [jF (jX [t]) i]++_=_;rw[iy hi];rfl
theorem aEJ(B:m6 i=N):BD [] (kE [i])=[lC [[i]]]:=by
 rw[BD,QR,vq (xw B),nL,b6 (show (dC [i] a6).cnt<=16 by show C (gC [i] a6)<=16;rw[P5];exact r_ Z)];have e:(dC [i] a6).ids=[i]:=by rw[Kk (by rw[P5];exact r_ Z),P5]
 rw[e];simp[gC,VC,mm,dk]
theorem aEI(hi:ER t=A i):BD [t] (lC [[i]])=[t]:=by rw[BD,bp hi,show lC [[i]]=lC ([i].map λs=>[s])from Z,Jd (λs B=>by rw[q_]at B;rw[B];exact Mt hi) H_];show List.map _ (gX [i] [] i)++_=_;rw[gX,b6 H_];show [jF (jX [t]) i]++_=_;rw[iy hi];rfl
theorem aEH(hi:ER t=A i):BD [t] (kE [i])=[]:=by rw[<-bp hi];exact yg [t] [t] (λt=>Iff.rfl) (r_ Z)
theorem FH(B:IdS A_):¬ 20000<T (kE A_):=Nat.not_lt.2 (Vc (xZ B.srt B.dig (p:=a6) E_ B.len))
theorem aB3(H:aF):RC 9 [] (bv N) H:=by
 refine Pu ?_;have ⟨t,i,D,g⟩:=Iz;have Q:=Mt D;have q:T t<=20000:=by have ⟨r,_,h⟩:=W7 D;exact h
 have B:=xw Q;have W:∀H,RC 12 [.pv (aL [])] (.tup [sv (kE []),iv 0]) H:=λH=>by
  have:=K9 [] H E_ (λt h=>by cases h);have e:([]:List B_).all m6=N:=rfl
  rwa [DH,DI,b6 e,b6 e,XN List.Pairwise.nil]at this
 have a:∀H,RC 12 [.pv (aL [i])] (.tup [sv (kE [i]),iv 0]) H:=λH=>by
  have:=K9 [i] H (r_ Z) (λt h=>by rw[q_]at h;rw[h,iW Q];decide);have e:[i].all m6=N:=by rw[all_cons,Q];rfl
  rwa [DH,DI,b6 e,b6 e,XN B.srt]at this
 have l:∀H,RC 12 [.pv (aL [⟨#[120]⟩])] (.tup [sv a6,iv 1]) H:=λH=>by
  have:=K9 [⟨#[120]⟩] H E_ (λt h=>by rw[q_]at h;rw[h];decide)
  rwa [DH,DI,a8 E_,a8 E_]at this
 have F:∀(L:List B_) (t:B_) (R:List B_),C L<=1->(∀s∈L,T s<=20000)->¬ 20000<T t->BD L t=R->∀H,RC 14 [.pv (aL L),sv t] (.tup [.pv (aL R),iv 0]) H:=λL t R v w u x H=>by
  have:=me L t H X (λt y=>by have:=w t y;omega)
  rwa [a8 u,a8 u,x]at this
 have k:∀s∈([]:List B_),T s<=20000:=λs h=>by cases h
 have j:∀s∈[t],T s<=20000:=λs h=>by rw[q_]at h;rw[h];exact q
 have G:=F [] (kE []) _ E_ k (FH bq) aEL;have I:=F [t] (kE []) _ (r_ Z) j (FH bq) (aEK D);have E:=F [] (kE [i]) _ E_ k (FH B) (aEJ Q);have J:=F [t] (lC [[i]]) _ (r_ Z) j (Nat.not_lt.2 (Gq Q)) (aEI D);have K:=F [t] (kE [i]) _ (r_ Z) j (FH B) (aEH D);have o:∀H,RC 17 [sv t] (.pv (aL [t])) H:=λH=>by
  have:=ZD t H X
  rwa [D]at this
 have b:∀H,RC 17 [sv (kE [i])] (.pv (aL [])) H:=λH=>by
  have v:=FH B;have:=ZD (kE [i]) H X;have e:ER (kE [i])=ζ:=Wn (P:=[dC [i] a6]) (I7 B.srt B.dig B.len) H_
  rwa [e]at this
 have n:∀H,RC 16 [.pv (aL [t]),.pv (aL [t])] (bv N) H:=λH=>by
  have:=M1 [t] [t] H (r_ Z) (r_ Z)
  rwa [decide_eq_true rfl]at this
 have ⟨z,c⟩:∃m,m=kE []:=X_;have ⟨m1,d⟩:∃m,m=kE [i]:=X_;have ⟨m2,f⟩:∃m,m=lC [[i]]:=X_;rw[<-c]at W G I;rw[<-d]at a E K b;rw[<-f]at E J;clear c d f F j k B;refine Bd func9 Z ntmps9<|Sz aJ<|O (kc call27 (g _))<|Y aA<|Y dL<|Y dL<|Y aJ<|V aJ<|O (kc call12 (W _))<|Y aA<|Y dL<|Y dL<|Y aJ<|V aJ<|O aA<|Y (aM ([i].map S_) Z aZ Z Z Z Z Z (dX _))<|Y (kc call12 (a _))<|Y aA<|Y dL<|Y dL<|Y aJ<|V aJ<|O aA<|Y (kc call14 (G _))<|Y aA<|Y dL<|Y dL<|Y aJ<|V aJ<|O aA<|Y (aM ([t].map S_) Z aZ Z Z Z Z Z (dX _))<|Y aA<|Y (kc call14 (I _))<|Y aA<|Y dL<|Y dL<|Y aJ<|V aJ<|O aA<|Y (kc call14 (E _))<|Y aA<|Y dL<|Y dL<|Y aJ<|Y aJ<|Zz<|O (aM ([⟨#[120]⟩].map S_) Z aZ Z Z Z Z Z (dX _))<|Y (kc call12 (l _))<|Y aA<|Y dL<|Y dL<|Y aJ<|V aJ<|S<|O aA<|Y (fJ aE)<|V (cP.valY (K0 Z Z Z) (x7))<|Cn ?_ ?_<;>intro p
 .cases p
 refine aB<|O aA<|Y (aM ([t].map S_) Z aZ Z Z Z Z Z (dX _))<|Y aA<|Y (bS Z aZ Z Z X (l_ _) (show ([m2].map S_)[0]?=A (S_ m2)from Z) Z)<|Y (eB Z N_ Z (show ([m2].map S_)[0]?=A (S_ m2)from Z) Z)<|Y (kc call14 (J _))<|Y aA<|Y dL<|Y dL<|Y aJ<|V aJ<|O aA<|Y (aM ([t].map S_) Z aZ Z Z Z Z Z (dX _))<|Y aA<|Y (kc call14 (K _))<|Y aA<|Y dL<|Y dL<|Y aJ<|V aJ<|O aA<|Y cG<|Y aA<|U aA<|U cG<|Y cE<|Y aA<|U aA<|U cG<|Y cE<|Y aA<|U aA<|U (fJ aE)<|U cG<|Y cE<|Y aA<|U aA<|U cG<|Y cE<|Y aA<|U aA<|U aA<|U (aM ([t].map S_) Z aZ Z Z Z Z Z (dX _)) ?_;exact U (kc call16 (n _))<|Y cE<|Y aA<|U aA<|U cG<|Y cE<|Y aA<|U aA<|U cG<|Y cE<|Y aA<|U aA<|U cG<|Y cE<|Y aA<|U aA<|U (fJ aE)<|U cG<|Y cE<|V aJ<|O aA<|Y aA<|U aA<|U cG<|Y cE<|Y aA<|U aA<|U aA<|U (aM ([t].map S_) Z aZ Z Z Z Z Z (dX _))<|U (kc call16 (n _))<|Y cE<|Y aA<|U aA<|U (kc call17 (o _))<|U aA<|U (aM ([t].map S_) Z aZ Z Z Z Z Z (dX _))<|U (kc call16 (n _))<|Y cE<|Y aA<|U aA<|U (kc call17 (b _))<|U (fJ aE)<|U cG<|Y cE<|V aJ<|aC<|Rt<|Qq
def TH(m:Int)(s:B_):Bool:=θ ((T s:Int)<=m)
def kd(l:List B_)(m:Int):Bool:=l.all (TH m)&&θ ((C (l.map S_):Int)<=30)
theorem Nl(l:List B_)(m:Int)(H:aF)(L:ie l):RC 11 [.pv (aL l),iv m] (bv (kd l m)) H:=by
 refine Pu ?_;have ⟨P,J⟩:=L;have Q:C (l.map S_)=C l:=g_ _;have K:kd l m=(l.all (TH m)&&θ ((C (l.map S_):Int)<=30)):=rfl;refine Bd func11 Z ntmps11<|Sz aJ<|S<|Sz aJ<|aD<|bC (σ:=Nat) (λk=>([(0,.pv (aL l)),(1,iv m),(5,iv (k:Int))],[])) (λk=>k<=C l/\∀j,j<k->∀b,l[j]?=A b->TH m b=N) (λk=>C l - k) 0 ⟨X,X⟩ ?_ ?_
 .exact Wk
 rintro k ⟨hk,hno⟩;refine S<|O aA<|Y aA<|Y (fJ aE)<|V cF<|Cn ?_ ?_<;>intro B
 .have hlt:k<C l:=I_ B
  have ⟨s,F⟩:=aR hlt;have hi:=cC (f:=S_) F;have R:=J s (m7 F);have E:=λh=>RB (p:=TH m) F h;refine aB<|S<|aD<|O aA<|Y aA<|Y (kx aZ hi)<|Y (fK N_ (hi:=hi))<|Y (gG U_)<|Y aA<|V iZ<|Cn ?_ ?_<;>intro D
  .have G:TH m s=η:=decide_eq_false (I_ D);rw[K,E G];exact Sz aJ<|aC<|Rt<|Qq
  have G:TH m s=N:=decide_eq_true (J_ D);refine aB<|Rd aA<|Y kp<|Da ?_;exact⟨k+1,⟨X,GG hno F G⟩,X,Wk⟩
 have I:k=C l:=by have:=b_ B;omega
 subst I;rw[K,MG hno];exact aP<|O aA<|Y (fJ aE)<|Y EQ<|V aJ<|aC<|Rt<|Qq
theorem Xx(L:List B_)(t:B_)(K:C L<1000000)(d:T t<=1000000):C (BD L t)<1000000000:=by
 have F:=rn K;have ⟨f,b⟩:=NH t;have G:RepOk (fL L) 0 ⟨(vS t).foldl (gX (fL L)) [],[],[]⟩:=⟨lN.fold _ _ ⟨nodup_nil,(λi hi=>by cases hi)⟩,h_ _,h_ _,(λw D=>by cases D),(λw D=>by cases D)⟩;have h:∀(P:List l8) (n:Nat) (r:GRep),(∀p∈P,GoodP p)->RepOk (fL L) n r->RepOk (fL L) (n+C P) (P.foldl (nL (fL L)) r):=by
  intro P
  induction P with
  |nil=>exact λn r _ h=>h
  |cons p P a =>
   intro n r E h;rw[foldl_cons,j6,show n+(C P+1)=n+1+C P by omega];exact a (n+1) _ (λq R=>E q (mem_cons_of_mem _ R)) (h.step F (E p mem_cons_self))
 have B:=h (wB t) 0 _ b G;rw[r8]at B;have H:=B.sent.len;have I:=B.wl;have J:=B.ol;have c:=F.len;have W:=GT lC (xI (fL L) t).wants;have Q:=GT sU (xI (fL L) t).offers;have e:xI (fL L) t=(wB t).foldl (nL (fL L)) ⟨(vS t).foldl (gX (fL L)) [],[],[]⟩:=rfl;rw[<-e]at H I J;rw[BD,j8,j8,g_];omega
theorem Cy(h:kd l 100=N):C l<=30/\∀s∈l,T s<=100:=by rw[kd,l6,j0,g_]at h;refine⟨X,λs B=>?_⟩;have:=all_eq_true.1 h.1 s B;rw[TH,j0]at this;omega
theorem aBX(h:(dP (ν (μ t))).2=0):ER t=A (H9 (dP (ν (μ t))).1):=by rw[ER,b6 h]
theorem aBY(h:¬ (dP (ν (μ t))).2=0):ER t=ζ:=by rw[ER,a8 h]
theorem W9(l:List B_)(p:B_)(H:aF)(Q:C l<1000000):RC 51 [.pv (aL l),sv p] (.pv (aL (gC l p))) H:=by
 refine Pu ?_;have J:C (l.map S_)=C l:=g_ _;refine Bd func51 Z ntmps51<|Sz aJ<|Sz (cZ (id:=905) (sz:=1) (ty:=9) Z Z Z)<|S<|Sz aJ<|aD<|dU (λ(k:Nat) (B:List B_)=>([(0,.pv (aL l)),(1,sv p),(5,.osl 905 (C B) 0 (C B)),(6,iv (k:Int))],[(905,⟨C B,1,9,bQ B⟩)])) (λk B=>k<=C l/\C B<=k/\B=gC (l.take k) p) (λk B=>C l - k) 0 [] ⟨k_ _,h_ _,Z⟩ ?_ ?_
 .exact L_
 rintro k B ⟨hk,hAk,hA⟩;refine S<|O aA<|Y aA<|Y (fJ aE)<|V cF<|Cn ?_ ?_<;>intro G
 .have hlt:k<C l:=by have:=b8 G;rw[J]at this;omega
  have ⟨x,P⟩:=aR hlt;have E:=cC (f:=S_) P;have F:=λH=>lr x p H;have D:gC (l.take (k+1)) p=if uJ p x=N then B++[x]else B:=by
   rw[dT P,gC,filter_append,<-gC,<-hA];by_cases h:uJ p x=N
   .rw[b6 h,filter_cons_of_pos h];rfl
   rw[a8 h,filter_cons_of_neg h];simp
  generalize uJ p x=b at F D;have K:C (B++[x])=C B+1:=by rw[j8];rfl
  refine aB<|S<|aD<|O aA<|Y aA<|Y (kx aZ E)<|Y (fK N_ (hi:=E))<|Y aA<|V (kc call94 (F _))<|Cn ?_ ?_<;>intro I
  ·rw[b6 I]at D;refine Rd aA<|Y aA<|Y aA<|Y (kx aZ E)<|Y (fK N_ (hi:=E))<|Y (by exact aM [[.str x]] Z aZ Z Z Z Z Z R_)<|Y (by exact bW (ps:=[[.str x]]) Z aZ sZ Z Z Z Z Z (cY _) Z R_ (m:=1) Z X Z (gB B x))<|V aJ<|Rd aA<|Y kp<|Da ?_;refine⟨k+1,B++[x],⟨X,by rw[K];omega,D.symm⟩,X,?_⟩;dsimp only;rw[K];exact(cH.wk (Eb<|Eb<|Ea<|Eb<|T_) (Hc (aQ _ _)<|T_) T_)
  rw[a8 (by rw[show b=η from I];decide)]at D;refine aB<|Rd aA<|Y kp<|Da ?_;exact⟨k+1,B,⟨X,X,D.symm⟩,X,L_⟩
 have L:C l<=k:=by have:=b_ G;rw[J]at this;omega
 rw[take_of_length_le L]at hA;rw[<-hA];refine aP<|O aA<|V aJ<|aC ?_;refine cN (H':=[]) (.inr Z) Z (aI Z) (Fin.slice0 (id:=905) (B.map S_) Z Z (dS B) (g_ _)) ?_;exact Qq
theorem rm(l:List B_)(s:B_)(H:aF)(J:C l<1000000):RC 50 [.pv (aL l),sv s] (bv (θ (s∈l))) H:=by
 refine Pu ?_;have F:C (l.map S_)=C l:=g_ _;refine Bd func50 Z ntmps50<|Sz aJ<|S<|Sz aJ<|aD<|bC (σ:=Nat) (λk=>([(0,.pv (aL l)),(1,sv s),(5,iv (k:Int))],[])) (λk=>k<=C l/\s∉l.take k) (λk=>C l - k) 0 ⟨k_ _,H_⟩ ?_ ?_
 .exact Wk
 rintro k ⟨hk,hnot⟩;refine S<|O aA<|Y aA<|Y (fJ aE)<|V cF<|Cn ?_ ?_<;>intro B
 .have hlt:k<C l:=by have:=b8 B;rw[F]at this;omega
  have ⟨x,I⟩:=aR hlt;have E:=cC (f:=S_) I;refine aB<|S<|aD<|O aA<|Y aA<|Y (kx aZ E)<|Y (fK N_ (hi:=E))<|Y aA<|V vT<|Cn ?_ ?_<;>intro D
  .have e:x=s:=b8 D;rw[decide_eq_true (by rw[<-e];exact m7 I)];exact Sz aJ<|aC<|Rt<|Qq
  have e:¬ x=s:=b_ D;refine aB<|Rd aA<|Y kp<|Da ?_;refine⟨k+1,⟨X,?_⟩,X,Wk⟩;rw[dT I,mem_append,q_];exact λh=>h.elim hnot λh=>e h.symm
 have G:C l<=k:=by have:=b_ B;rw[F]at this;omega
 rw[take_of_length_le G]at hnot;rw[decide_eq_false hnot];exact aP<|Sz aJ<|aC<|Rt<|Qq
theorem YK(l:List B_)(p:B_)(H:aF)(W:C l<=2000)(Q:∀s∈l,T s<=20000):RC 41 [.pv (aL l),sv p] (.pv (aL (gP (dC l p)))) H:=by
 refine Pu ?_;have K:=λH=>W9 l p H X;have L:C (gC l p)<=C l:=length_filter_le _ _;have G:=λH=>P7 (gC l p) X (λs h=>Q s (mem_filter.1 h).1) H;have J:gP (dC l p)=[p,aV (C (gC l p):Int),uI (gC l p)]++(if C (gC l p)<=16 then gC l p else[]):=rfl;rw[J];generalize gC l p=R at K L G |-;clear J;have B:C (R.map S_)=C R:=g_ _;have F:=λH=>UK (C R:Int) X X H;rw[N5,a8 X,l_,<-qG]at F;have D:∀H,RC 84 [iv (C (R.map S_):Int)] (sv (aV (C R:Int))) H:=λH=>by rw[B];exact F H
 generalize aV (C R:Int)=d at D |-;generalize uI R=g at G |-;clear F;refine Bd func41 Z ntmps41<|Sz aJ<|O aA<|Y aA<|Y (kc call51 (K _))<|V aJ<|O aA<|Y aA<|Y (fJ aE)<|Y (kc fZ (D _))<|Y aA<|Y (kc call52 (G _))<|Y (by exact eQ (id:=905) Z aZ Z Z Z Z (by intro r P;simp only[l9,q8,or_false]at P;rcases P with rfl|rfl|rfl<;>rfl) Z)<|V aJ<|S<|O aA<|Y (fJ aE)<|V EQ ?_;refine Cn ?_ ?_<;>intro I
 .have E:C R<=16:=by have:=b8 I;rw[B]at this;omega
  rw[b6 E];refine Rd aA<|Y aA<|Y (by exact bW (ps:=R.map S_) (rows':=bQ ([p,d,g]++R)) Z aZ sZ Z Z Z Z Z Z Z (dX R) (m:=R.length) B X Z (eS [p,d,g] R))<|V aJ<|O aA<|V aJ<|aC ?_;refine cN (H':=[]) (.inr Z) Z (aI Z) (Fin.slice0 (id:=905) (([p,d,g]++R).map S_) Z Z (dS _) (by rw[g_,j8];rfl)) ?_;exact Qq
 have E:¬ C R<=16:=by have:=b_ I;rw[B]at this;omega
 rw[a8 E,append_nil];refine aB<|O aA<|V aJ<|aC ?_;refine cN (H':=[]) (.inr Z) Z (aI Z) (Fin.slice0 (id:=905) ([p,d,g].map S_) Z Z Z Z) ?_;exact Qq
theorem zq(t:B_)(H:aF)(K:T t<1000000000):RC 18 [sv t] (.pv (aL (if(ER t).isSome=N then[t]else[]))) H:=by
 refine Pu ?_;have E:=λH=>SE (ν (μ t)) v7 H;rw[fU,T4]at E;have I:=GU (ν (μ t));have B:=aBX (t:=t);have D:=aBY (t:=t);generalize dP (ν (μ t))=G at E I B D;refine Bd func18 Z ntmps18<|Sz aJ<|O aA<|Y (kc call25 (E _))<|Y aA<|Y dL<|Y dL<|Y (kl 3 dt)<|Uu (jH bL)<|V aJ<|S<|O aA<|V yQ<|Cn ?_ ?_<;>intro F
 .have hne:¬ G.2=0:=by have h:=F;simpa using h
  rw[D hne];refine Sz aJ<|aC<|cN (H':=[]) (.inr Z) Z (aI Z) (P_ (r:=.pv (aL []))) ?_;exact Qq
 have J:G.2=0:=by have h:=F;simpa using h
 rw[B J];refine aB<|O aA<|Y (aM ([t].map S_) Z aZ Z Z Z Z Z v8)<|V aJ<|aC<|cN (H':=[]) (.inr Z) Z (aI Z) (P_ (r:=.pv (aL [t]))) ?_;exact Qq
theorem N1{L:List (List B_)}{x:List B_}(h:L[k]?=A x):(L.take (k+1)).flatten=(L.take k).flatten++x:=by rw[dT h,flatten_append];simp
theorem QV(L:List (List B_))(k:Nat):C (L.take k).flatten<=C L.flatten:=by have h:=congrArg (λl=>C (List.flatten l)) (take_append_drop k L);simp only[flatten_append,j8]at h;omega
theorem Gr(L:List (List B_))(H:aF)(e:C L<100000)(d:C L.flatten<90000)(a:∀s∈L.flatten,T s<=100000000):RC 141 [.pv (iT L)] (sv (lC L)) H:=by
 refine Pu ?_;have I:C (L.map m8)=C L:=g_ _;have b:lC L=a_ (aO ([mJ]++L.flatten)):=rfl;rw[b];refine Bd func141 Z ntmps141<|Sz aJ<|O (eQ (id:=905) Z aZ Z Z Z Z R_ Z)<|V aJ<|S<|Sz aJ<|aD ?_;refine dU (λ(k:Nat) (q:Nat×List B_)=>([(0,.pv (iT L)),(3,.osl 905 q.1 0 (C q.2)),(4,iv (k:Int))],[(905,⟨q.1,1,9,bQ q.2⟩)])) (λk q=>k<=C L/\q.2=[mJ]++(L.take k).flatten) (λk B=>C L - k) 0 (0,[mJ]) ⟨k_ _,Z⟩ ?_ ?_
 .exact L_
 rintro k ⟨g,B⟩ ⟨hk,hA⟩;simp only at hA;have W:C B<=90001:=by
  have:=QV L k;rw[hA,j8,length_singleton];omega
 refine S<|O aA<|Y aA<|Y (fJ iB)<|V cF<|Cn ?_ ?_<;>intro E
 .have hlt:k<C L:=by have:=b8 E;rw[I]at this;omega
  have ⟨x,R⟩:=aR hlt;have G:=cC (f:=m8) R;have Q:C (x.map S_)=C x:=g_ _;have F:=N1 R;have J:=QV L (k+1);have D:C (B++x)=C B+C x:=j8;have c:C x<=90000:=by rw[F,j8]at J;omega
  refine aB<|S<|aD<|Rd aA<|Y aA<|Y aA<|Y (kx uS G)<|Y (fK aG (hi:=G))<|Y (by exact bW (ps:=x.map S_) (rows':=bQ (B++x)) Z aZ sZ Z Z Z Z Z (cY _) Z (dX x) (m:=C x) Q (by show (C B+C x)*16<=_;omega) Z (eS B x))<|V aJ<|Rd aA<|Y kp<|Da ?_;refine⟨k+1,(g+1,B++x),⟨X,by rw[F];simp only;rw[hA,append_assoc]⟩,X,?_⟩;dsimp only;rw[D];exact L_
 have K:C L<=k:=by have:=b_ E;rw[I]at this;omega
 rw[take_of_length_le K]at hA;have P:=λH=>IT B X (λs h=>by
  rw[hA,mem_append,q_]at h;rcases h with rfl|h
  .decide
  exact a s h) H 905 ⟨g,1,9,bQ B⟩ (C B)
 rw[<-hA];exact aP<|O aA<|Y (kc call85 (P _ Z Z Z Z))<|V aJ<|aC<|Rt<|Qq
theorem XQ(L:List (List B_))(H:aF)(o:C L<100000)(n:C L.flatten<90000)(i:∀s∈L.flatten,T s<=100000000):RC 40 [.pv (iT L)] (sv (sU L)) H:=by
 refine Pu ?_;have F:C (L.map m8)=C L:=g_ _;have E:=λH=>UK (C L:Int) X X H;rw[N5,a8 X,l_,<-qG]at E;have D:∀H,RC 84 [iv (C (L.map m8):Int)] (sv (aV (C L:Int))) H:=λH=>by rw[F];exact E H
 have J:T (aV (C L:Int))<=100000000:=by
  have l:C (decDigits (C L))<=7:=cU (k:=7) X E_;rw[qG,cB];omega
 have b:sU L=a_ (aO ([eR,aV (C L:Int)]++L.flatten)):=rfl;rw[b];generalize aV (C L:Int)=d at D J |-;clear E b;refine Bd func40 Z ntmps40<|Sz aJ<|O aA<|Y (fJ iB)<|Y (kc fZ (D _))<|Y (by exact eQ (id:=905) Z aZ Z Z Z Z v6 Z)<|V aJ<|S<|Sz aJ<|aD ?_;refine dU (λ(k:Nat) (q:Nat×List B_)=>([(0,.pv (iT L)),(3,.osl 905 q.1 0 (C q.2)),(4,iv (k:Int))],[(905,⟨q.1,1,9,bQ q.2⟩)])) (λk q=>k<=C L/\q.2=[eR,d]++(L.take k).flatten) (λk B=>C L - k) 0 (0,[eR,d]) ⟨k_ _,Z⟩ ?_ ?_
 .exact L_
 rintro k ⟨g,B⟩ ⟨hk,hA⟩;simp only at hA;have e:C B<=90002:=by
  have:=QV L k;rw[hA,j8];show 2+_<=_;omega
 refine S<|O aA<|Y aA<|Y (fJ iB)<|V cF<|Cn ?_ ?_<;>intro I
 .have hlt:k<C L:=by have:=b8 I;rw[F]at this;omega
  have ⟨x,c⟩:=aR hlt;have P:=cC (f:=m8) c;have a:C (x.map S_)=C x:=g_ _;have K:=N1 c;have Q:=QV L (k+1);have G:C (B++x)=C B+C x:=j8;have j:C x<=90000:=by rw[K,j8]at Q;omega
  refine aB<|S<|aD<|Rd aA<|Y aA<|Y aA<|Y (kx uS P)<|Y (fK aG (hi:=P))<|Y (by exact bW (ps:=x.map S_) (rows':=bQ (B++x)) Z aZ sZ Z Z Z Z Z (cY _) Z (dX x) (m:=C x) a (by show (C B+C x)*16<=_;omega) Z (eS B x))<|V aJ<|Rd aA<|Y kp<|Da ?_;refine⟨k+1,(g+1,B++x),⟨X,by rw[K];simp only;rw[hA,append_assoc]⟩,X,?_⟩;dsimp only;rw[G];exact L_
 have R:C L<=k:=by have:=b_ I;rw[F]at this;omega
 rw[take_of_length_le R]at hA;have W:=λH=>IT B X (λs h=>by
  rw[hA,mem_append]at h;rcases h with h|h
  .simp only[l9,q8,or_false]at h;rcases h with rfl|rfl
   .decide
   exact J
  exact i s h) H 905 ⟨g,1,9,bQ B⟩ (C B)
 rw[<-hA];exact aP<|O aA<|Y (kc call85 (W _ Z Z Z Z))<|V aJ<|aC<|Rt<|Qq
theorem iw(b:Bool)(L:List (List B_))(H:aF)(E:C L<100000)(D:C L.flatten<90000)(F:∀s∈L.flatten,T s<=100000000):RC 96 [.pv (iT L),bv b] (sv (if b=N then sU L else lC L)) H:=by
 refine Pu<|Bd func96 Z ntmps96<|Sz aJ<|S<|Sz aA<|Cn ?_ ?_<;>intro B
 .rw[b6 B];exact O aA<|Y (kc call40 (XQ L _ E D F))<|V aJ<|aC<|Rt<|Qq
 rw[a8 (by rw[show b=η from B];decide)];exact aB<|O aA<|Y (kc call141 (Gr L _ E D F))<|V aJ<|aC<|Rt<|Qq
def qt(b:Bool)(L:List (List B_)):B_:=if b=N then sU L else lC L
theorem jy:∀(R:List (List B_)),(∀e∈R,1<=C e/\C e<=1000)->C R<=C R.flatten
 | [],_=>h_ _
 |e::R,h=>by
  have D:=jy R λx B=>h x (mem_cons_of_mem _ B);have E:=(h e mem_cons_self).1;rw[flatten_cons,j8,j6];omega
theorem Vr(b:Bool)(R:List (List B_)):C R.flatten<=T (qt b R):=by
 rw[qt]
 split
 .rw[sU,cB];have:=FO (eR::aV (C R:Int)::R.flatten);simp only[j6]at this;omega
 rw[lC,cB];have:=FO (mJ::R.flatten);simp only[j6]at this;omega
theorem SZ(b:Bool)(l:List (List B_))(H:aF)(hl:C l<10000000)(y:∀e∈l,1<=C e/\C e<=1000)(hs:∀s∈l.flatten,T s<=100000000):
  RC 53 [.pv (iT l),bv b] (.pv (aL (VC (qt b) l))) H:=by
 have z:∀i n H,C ((l.drop i).take n).flatten<90000->RC 96 [.pv (iT ((l.drop i).take n)),bv b] (sv (qt b ((l.drop i).take n))) H:=λi n H hb =>
  iw b ((l.drop i).take n) H (Nat.lt_of_le_of_lt (jy _ λe h=>y e (mem_of_mem_drop (mem_of_mem_take h))) X) hb λs h=>by
   have ⟨x,hx,v⟩:=mem_flatten.1 h;exact hs s (mem_flatten.2 ⟨x,mem_of_mem_drop (mem_of_mem_take hx),v⟩)
 have c:=Vr b;have u:∀i n,C ((l.drop i).take (n+1)).flatten<=C ((l.drop i).take n).flatten+1000:=λi n=>by
  rcases Nat.lt_or_ge n (C (l.drop i)) with h|h
  .have ⟨e,h2⟩:=aR h;rw[N1 h2,j8];have:=(y e (mem_of_mem_drop (m7 h2))).2;omega
  rw[take_of_length_le h,take_of_length_le X];omega
 refine Pu ?_;have ⟨J0,g⟩:∃J0,J0=qt b:=X_;rw[<-g];simp only[<-g]at z c;clear g;have W:C (l.map m8)=C l:=g_ _;have q:∀i m,((l.map m8).take (i+m)).drop i=((l.drop i).take m).map m8:=λi m=>by
  rw[drop_take,<-map_drop,show i+m - i=m by omega,map_take]
 refine Bd func53 Z ntmps53<|Sz aJ<|Sz (cZ (id:=905) (sz:=1) (ty:=9) Z Z Z)<|Sz aJ<|S<|aD<|dU (λ(i:Nat) (D:List B_)=>([(0,.pv (iT l)),(1,bv b),(5,.osl 905 (C D) 0 (C D)),(6,iv (i:Int))],[(905,⟨C D,1,9,bQ D⟩)])) (λi D=>i<=C l/\C D<=i/\VC J0 l=D++mm J0 (C (l.drop i)) (l.drop i)) (λi D=>C l - i) 0 [] ⟨k_ _,h_ _,Z⟩ ?_ ?_
 .exact L_
 rintro i D ⟨hi,hA,hpk⟩;have J:C (l.drop i)=C l - i:=q6;have I:=λn H h=>z i n H h;have F:=u i;have Q:∀n,(l.drop i).drop n=l.drop (i+n):=λn=>by rw[drop_drop]
 have E:=q i;have ⟨r,p⟩:∃r,r=l.drop i:=X_;rw[<-p]at J hpk;simp only[<-p]at I F Q E;clear p;refine S<|O aA<|Y aA<|Y (fJ iB)<|V cF<|Cn ?_ ?_<;>intro L
 .have hlt:i<C l:=by have:=b8 L;rw[W]at this;omega
  have k:r≠[]:=λe=>by rw[e]at J;simp at J;omega
  refine aB<|aD<|O aA<|Y kp<|V aJ<|S<|aD<|bC (σ:=Nat) (λn=>([(0,.pv (iT l)),(1,bv b),(5,.osl 905 (C D) 0 (C D)),(6,iv (i:Int)),(7,iv ((i+n:Nat):Int))],[(905,⟨C D,1,9,bQ D⟩)])) (λn=>1<=n/\n<=C r/\dk J0 r (C r) 1=dk J0 r (C r+1 - n) n/\(n=1\/T (J0 (r.take n))<=18000)) (λn=>C r - n) 1 ⟨h_ _,X,Z,.inl Z⟩ ?_ ?_
  .exact L_
  rintro n ⟨h1,h2,h3,h4⟩;have τ:C (r.take n).flatten<=18000:=by
   rcases h4 with rfl|h4
   .have:C (r.take 1).flatten<=0+1000:=F 0;omega
   exact Nat.le_trans (c _) h4
  have w:=F n;have G:dk J0 r (C r+1 - n) n=if n<C r/\T (J0 (r.take (n+1)))<=18000 then dk J0 r (C r+1 - (n+1)) (n+1)else n:=by
   rw[show C r+1 - n=(C r+1 - (n+1))+1 by omega,dk]
  rw[G]at h3;clear G;have ⟨B,f⟩:∃B,B=(θ (((i+n:Nat):Int)<(C (l.map m8):Int))&&θ ((T (J0 (r.take (n+1))):Int)<=18000)):=X_;have j:=λH=>I (n+1) H X;refine S<|S<|aT (t:=28) (n:=16) (A_:=B) ?_ ?_
  .all_goals refine Y aA<|Y aA<|Y (fJ iB)<|Y cF<|Dm ?_<;>(refine Sp 18 (λd=>?_) λd=>?_)<;>(try exact w_)<;>(first|refine M<|M<|M<|M<|M<|M<|M<|M<|M ?_|refine U aA<|U aA<|U aA<|U (by exact dB Z Z Z (show ξ.wrap (((i+n:Nat):Int)+1)=((i+(n+1):Nat):Int)by rw[lZ X X];omega))<|U (eG (l:=i) (h:=i+(n+1)) Z uS Z (jE l) Z Z X (I_ d) (E (n+1)))<|U aA<|U (kc call96 (j _))<|U (gG U_)<|U EQ ?_)<;>refine V cE ?_<;>exact Gj (h:=by rw[f];(rw[d];rfl))
  refine Cn ?_ ?_<;>intro P
  .have hBt:=f.symm.trans P;rw[l6,j0,j0]at hBt;rw[b6 ⟨X,X⟩]at h3;refine aB<|aD<|Rd aA<|Y (by exact dB Z Z Z (show ξ.wrap (((i+n:Nat):Int)+1)=((i+(n+1):Nat):Int)by rw[lZ X X];omega))<|Da ?_;exact⟨n+1,⟨X,X,h3,.inr X⟩,X,L_⟩
  have K:=f.symm.trans P;rw[a8 (λh=>by rw[decide_eq_true (by omega:((i+n:Nat):Int)<(C (l.map m8):Int)),decide_eq_true (by omega:(T (J0 (r.take (n+1))):Int)<=18000)]at K;cases K)]at h3;have o:=gi J0 k h3;have a:C (D++[J0 (r.take n)])=C D+1:=by rw[j8];rfl
  have R:=λH=>I n H X;refine aP<|O aA<|Y aA<|Y aA<|Y aA<|Y (by exact eG (l:=i) (h:=i+n) Z uS Z (jE l) Z Z X X (E n))<|Y aA<|Y (kc call96 (R _))<|Y (by exact aM [[.str (J0 (r.take n))]] Z aZ Z Z Z Z Z R_)<|Y (by exact bW (ps:=[[.str (J0 (r.take n))]]) Z aZ sZ Z Z Z Z Z (cY _) Z R_ (m:=1) Z X Z (gB _ (J0 (r.take n))))<|V aJ<|Rd aA<|Da ?_;refine⟨i+n,D++[J0 (r.take n)],⟨X,by rw[a];omega,?_⟩,X,?_⟩
  .rw[hpk,o,Q,append_assoc];rfl
  dsimp only;rw[a];exact L_
 have h0:r=[]:=length_eq_zero_iff.1 (by have:=b_ L;rw[W]at this;omega);rw[hpk,h0];refine aP<|O aA<|V aJ<|aC ?_;refine cN (H':=[]) (.inr Z) Z (aI Z) (Fin.slice0 (id:=905) ((D++[]).map S_) Z Z (by rw[append_nil];exact(dS D)) (by rw[append_nil,g_])) ?_;exact Qq
theorem yc{I:B_}(hsr:zT A_):(wT id A_ I<C A_->(A_[wT id A_ I]?=A I↔I∈A_))/\(¬ wT id A_ I<C A_->I∉A_):=by
 have hjl:=TQ id A_ I;refine⟨λhlt2=>⟨m7,λhm=>?_⟩,λh hm=>?_⟩
 .have hk2:=bu A_ I;rw[decide_eq_true hm]at hk2;have hlo:∀a,a<wT id A_ I->∀o,A_[a]?=A o->jI (id o) I=N:=λa ha o ho=>by
   have:=not_of_lt_findIdx ha;rw[(m_.1 ho).2]at this
   simpa using this
  have ⟨o,ho⟩:=aR hlt2;have hle2:jI (id o) I=η:=by
   have h3:=List.findIdx_getElem (xs:=A_) (p:=λo=>!jI (id o) I) (w:=hlt2);have e:A_[A_.findIdx λo=>!jI (id o) I]'hlt2=o:=(m_.1 ho).2;rw[e]at h3
   simpa using h3
  have:=bz (f:=id) hsr hlo ho hle2;rw[hk2]at this;have e2:o=I:=b8 this.symm;rw[ho,e2]
 have e:wT id A_ I=C A_:=X
 have:=findIdx_eq_length.1 e I hm;rw[show jI (id I) I=jI I I from Z,E6]at this;cases this
theorem qj(ids:List B_)(H:aF)(hl:C ids<=2000)(hs:∀t∈ids,T t<1000000):RC 13 [.pv (aL ids)] (.tup [sv (DH ids),iv (DI ids)]) H:=by
 refine Pu ?_;have p:C (ids.map S_)=C ids:=g_ _;refine Bd func13 Z ntmps13<|O aJ<|V aJ<|Sz aJ<|S<|Sz aJ<|aD<|bC (σ:=Nat) (λk=>([(0,.pv (aL ids)),(4,.pv (aL (mY (ids.take k)))),(5,iv (k:Int))],[])) (λk=>k<=C ids/\∀x∈ids.take k,m6 x=N) (λk=>C ids - k) 0 ⟨k_ _,H_⟩ ?_ ?_
 .dsimp only;rw[take_zero,show mY []=[]from length_eq_zero_iff.1 (le_zero.1 (KW []))];exact Wk
 rintro k ⟨hk,hall⟩;refine S<|O aA<|Y aA<|Y (fJ aE)<|V cF<|Cn ?_ ?_<;>intro c
 .have hlt:k<C ids:=by have:=b8 c;rw[p]at this;omega
  have ⟨I,hI⟩:=aR hlt;have hi:=cC (f:=S_) hI;have δ:=hs I (m7 hI);have m:=λH=>W1 I X H;have Q:∀t,t∈ids.take (k+1)↔t∈ids.take k\/t=I:=λt=>by rw[dT hI,mem_append,q_]
  have w:ξ.wrap ((k:Int)+1)=((k+1:Nat):Int):=by rw[lZ X X];omega
  have W:=KW (ids.take k);rw[q9]at W;have ⟨jx,P⟩:∃jx,jx=m6 I:=X_;rw[<-P]at m;refine aB<|S<|aD<|S<|O aA<|Y aA<|Y (kx aZ hi)<|Y (fK N_ (hi:=hi))<|Y (kc vJ (m _))<|V iE<|Cn ?_ ?_<;>intro d
  .have hjf:jx=η:=by have h:=d;simpa using h
   have κ:ids.all m6=η:=all_eq_false.2 ⟨I,m7 hI,by rw[<-P,hjf];decide⟩;rw[DH,DI,κ];refine O aJ<|V aJ<|aC<|fO (H':=[]) (.inr Z) Z (aI Z) (aI Z) (P_ (r:=.tup [sv a6,iv 1])) ?_;exact Qq
  have ρ:jx=N:=by have h:=d;simpa using h
  have B:∀x∈ids.take (k+1),m6 x=N:=λx b=>by
   rcases(Q x).1 b with h|rfl
   .exact hall x h
   rw[<-P,ρ]
  have L:∀t,t∈mY (ids.take k)↔t∈ids.take k:=λt=>yL;have a:=B5 (ids.take k);have q:I∈mY (ids.take k)->mY (ids.take (k+1))=mY (ids.take k):=λh=>Ux λt=>by
   rw[Q];exact⟨λh2=>h2.elim id λe=>by rw[e];exact(L I).1 h,.inl⟩
  have R:I∉mY (ids.take k)->mY (ids.take (k+1))=(mY (ids.take k)).take (wT id (mY (ids.take k)) I)++I::(mY (ids.take k)).drop (wT id (mY (ids.take k)) I):=λh =>
   IP _ _ (B5 _) (xn a h) λt=>by rw[yL,Q,xo,L];exact or_comm
  generalize mY (ids.take k)=A_ at a q R W |-;have ⟨E,J⟩:=yc (I:=I) a;have v:=λH=>Z5 A_ I H X;have o:=TQ id A_ I;have G:=λH=>TS A_ (wT id A_ I) I H X o;generalize wT id A_ I=j at R v o E J G;have γ:C (A_.map S_)=C A_:=g_ _;have ⟨D,z⟩:∃D,D=!θ (I∈A_):=X_;clear L;refine aB<|O aA<|Y aA<|Y aA<|Y (kx aZ hi)<|Y (fK N_ (hi:=hi))<|Y (kc call38 (v _))<|V aJ<|S<|lL (t:=39) (n:=15) (A_:=D) ?_ ?_
  .by_cases hlt2:j<C A_
   .have ⟨x,b⟩:=aR hlt2;have y:=cC (f:=S_) b;have e1:θ ((j:Int)=(C (A_.map S_):Int))=η:=decide_eq_false X;have e2:(!θ (x=I))=D:=by
     rw[z];refine congrArg _ (decide_eq_decide.2 ?_);rw[<-E hlt2,b];exact⟨λh=>by rw[h],λh=>Option.some.inj h⟩
    refine aN a7<|Cq aA<|Cq aA<|Cq (fJ aE)<|Cq cG<|Cq aA<|Nf aA<|Nf aA<|Nf (kx aZ y)<|Nf (fK N_ (hi:=y))<|Nf aA<|Nf aA<|Nf (kx aZ hi)<|Nf (fK N_ (hi:=hi))<|Nf EN<|Cq rD<|bG<|Kr ?_;exact⟨Z,⟨_,Z,e2⟩,Z,Z,Z⟩
   have e1:θ ((j:Int)=(C (A_.map S_):Int))=N:=decide_eq_true X;have e2:N=D:=by rw[z,decide_eq_false (J hlt2)];rfl
   refine aN a7<|Cq aA<|Cq aA<|Cq (fJ aE)<|Cq cG<|Cq aA<|Of<|Of<|Of<|Of<|Of<|Of<|Of<|Of<|Of<|Cq BO<|bG<|Kr ?_;exact⟨Z,⟨_,Z,e2⟩,Z,Z,Z⟩
  refine Cn ?_ ?_<;>intro g
  .have hm:I∉A_:=by have h:=z.symm.trans g;simpa using h
   refine Rd aA<|Y aA<|Y aA<|Y aA<|Y (kx aZ hi)<|Y (fK N_ (hi:=hi))<|Y (kc call39 (G _))<|V aJ<|Rd aA<|Y (ka w)<|Da ?_;refine⟨k+1,⟨X,B⟩,X,?_⟩;dsimp only;rw[R hm];exact Wk
  have hm:I∈A_:=by have h:=z.symm.trans g;simpa using h
  refine aB<|Rd aA<|Y (ka w)<|Da ?_;refine⟨k+1,⟨X,B⟩,X,?_⟩;dsimp only;rw[q hm];exact Wk
 have τ:C ids<=k:=by have:=b_ c;rw[p]at this;omega
 rw[take_of_length_le τ]at hall |-;have ha:ids.all m6=N:=all_eq_true.2 hall;have W:=KW ids;have K:∀x∈mY ids,T x=16:=λx b=>iW (hall x (yL.1 b));rw[DH,DI,b6 ha,b6 ha,kE];have i:=λH=>YK (mY ids) a6 H X (λs h=>by have:=K s h;omega);have l:gP (dC (mY ids) a6)=[a6,aV (C (gC (mY ids) a6):Int),uI (gC (mY ids) a6)]++(if C (gC (mY ids) a6)<=16 then gC (mY ids) a6 else[]):=rfl;have β:C (gC (mY ids) a6)<=C (mY ids):=length_filter_le _ _;have u:=λH=>XQ [gP (dC (mY ids) a6)] H (r_ Z) (by
  rw[List.flatten_singleton,l,j8]
  split
  .show 3+_<_;omega
  .show 3+0<_;omega) (λs h=>by
  rw[List.flatten_singleton,l,mem_append]at h;rcases h with h|h
  .simp only[l9,q8,or_false]at h;rcases h with rfl|rfl|rfl
   .decide
   .have h2:C (decDigits (C (gC (mY ids) a6)))<=7:=cU (k:=7) X E_;rw[qG,cB];omega
   exact Nat.le_trans (Nat.le_of_eq (iW (AM ⟨(aO (gC (mY ids) a6)).toArray⟩))) E_
  split at h
  .have:=K s (mem_filter.1 h).1;omega
  cases h)
 generalize gP (dC (mY ids) a6)=F at i u |-;exact aP<|O aA<|Y (kc call41 (i _))<|Y (aM ([F].map m8) Z uS Z Z Z Z Z (jE _))<|Y (kc call40 (u _))<|Y aJ<|V aJ<|aC<|Ru<|Qq
theorem WM(h:l[k]?=A x):(bQ l)[k]?=A [.pv (.str x)]:=by rw[bQ,r7,h];rfl
theorem Ms(l:List B_)(s:B_)(I:C l<1000000):aW φ 50 [.osl 905 (C l) 0 (C l),sv s] [(905,⟨C l,1,9,bQ l⟩)] (λr H'=>r=bv (θ (s∈l))/\H'=[(905,⟨C l,1,9,bQ l⟩)]):=by
 have H:=cY l;refine Bd func50 Z ntmps50<|Sz aJ<|S<|Sz aJ<|aD<|bC (σ:=Nat) (λk=>([(0,.osl 905 (C l) 0 (C l)),(1,sv s),(5,iv (k:Int))],[(905,⟨C l,1,9,bQ l⟩)])) (λk=>k<=C l/\s∉l.take k) (λk=>C l - k) 0 ⟨k_ _,H_⟩ ?_ ?_
 .exact L_
 rintro k ⟨hk,hnot⟩;refine S<|O aA<|Y aA<|Y (by exact dQ Z aE Z Z Z)<|V cF<|Cn ?_ ?_<;>intro B
 .have hlt:k<C l:=I_ B
  obtain ⟨x,G⟩:=aR hlt;have F:=WM G;refine aB<|S<|aD<|O aA<|Y aA<|Y (by exact dK (m:=k) Z aZ Z Z Z Z Z X (l_ k) X (r8 k))<|Y (by exact aY Z N_ Z Z Z F Z)<|Y aA<|V vT<|Cn ?_ ?_<;>intro D
  .have e:x=s:=b8 D;rw[decide_eq_true (by rw[<-e];exact m7 G)];refine Sz aJ<|aC<|cN (H':=[(905,⟨C l,1,9,bQ l⟩)]) (.inr Z) Z (aI Z) Fin.refl ?_;exact Qq
  have e:¬ x=s:=b_ D;refine aB<|Rd aA<|Y kp<|Da ?_;refine⟨k+1,⟨X,?_⟩,X,L_⟩;rw[dT G,mem_append,q_];exact λh=>h.elim hnot λh=>e h.symm
 have E:C l<=k:=J_ B
 rw[take_of_length_le E]at hnot;rw[decide_eq_false hnot];refine aP<|Sz aJ<|aC<|cN (H':=[(905,⟨C l,1,9,bQ l⟩)]) (.inr Z) Z (aI Z) Fin.refl ?_;exact Qq
theorem xt(l:List B_)(s:B_)(D:C l<1000000){H:aF}(B:H.get 905=A ⟨C l,1,9,bQ l⟩):RC 50 [.osl 905 (C l) 0 (C l),sv s] (bv (θ (s∈l))) H :=aW.sub (Ms l s D) (HI.sub ⟨B,T_⟩) (dI.ofL ⟨(aQ _ _),T_⟩) m3
theorem NR(B D:List (List B_)):sP B++(D.map m8).map (·.map .pv)=sP (B++D):=by rw[mF,mF,map_append,map_append]
theorem aFF(k:Nat)(h:k<16):∃d,A5[k]?=A d/\(⟨#[48,49,50,51,52,53,54,55,56,57,97,98,99,100,101,102]⟩:B_).extract k (k+1)=d/\T d=1:=by
 have key:∀k:Fin 16,A5[k.val]?=A ((⟨#[48,49,50,51,52,53,54,55,56,57,97,98,99,100,101,102]⟩:B_).extract k.val (k.val+1))/\T ((⟨#[48,49,50,51,52,53,54,55,56,57,97,98,99,100,101,102]⟩:B_).extract k.val (k.val+1))=1:=by decide +kernel
 exact⟨_,(key ⟨k,h⟩).1,Z,(key ⟨k,h⟩).2⟩
theorem aAx{L:List B_}(D:s∈fL L):((yK L).map S_)[wT id (fL L) s]?=A (S_ (jF (jX L) s))/\wT id (fL L) s<C (yK L):=by have ⟨E,F⟩:=yc (I:=s) (qX L);have B:wT id (fL L) s<C (fL L):=Classical.byContradiction λh=>F h D;have h:=(E B).2 D;refine⟨?_,by rw[yK,g_];exact B⟩;rw[yK,map_map,r7,h];rfl
theorem aA1:(∀e∈(xI A_ t).wants,1<=C e)/\∀e∈(xI A_ t).offers,1<=C e:=by
 have D:∀p:l8,1<=C (gP p):=λp=>by rw[gP,j8];exact Nat.le_trans (by decide:1<=3) (Nat.le_add_right 3 _)
 have h:∀(P:List l8) (r:GRep),((∀e∈r.wants,1<=C e)/\∀e∈r.offers,1<=C e)->(∀e∈(P.foldl (nL A_) r).wants,1<=C e)/\∀e∈(P.foldl (nL A_) r).offers,1<=C e:=by
  intro P
  induction P with
  |nil=>exact λr h=>h
  | cons p P ih =>
   intro r h;rw[foldl_cons];refine ih _ ?_;rw[nL]
   split
   .refine⟨λe B=>?_,h.2⟩;rcases mem_append.1 B with B|B
    .exact h.1 e B
    obtain ⟨i,_,rfl⟩:=mem_map.1 B;exact h_ 1
   split
   .exact h
   split
   .refine⟨h.1,λe B=>?_⟩;rcases mem_append.1 B with B|B
    .exact h.2 e B
    rw[q_]at B;rw[B];exact D _
   refine⟨h.1,λe B=>?_⟩;rcases mem_append.1 B with B|B
   .exact h.2 e B
   obtain ⟨d,_,rfl⟩:=mem_map.1 B;exact D _
 exact h _ _ ⟨(λe h=>by cases h),(λe h=>by cases h)⟩
abbrev sO(f_:List B_):Ob:=⟨C f_,1,9,bQ f_⟩
abbrev lO(B:List (List B_)):Ob:=⟨C B,1,22,sP B⟩
abbrev aH(r:GRep):aF:=[(905,sO r.sent),(906,lO r.wants),(907,lO r.offers)]
theorem tp(L:List B_)(t:B_)(H:aF)(hl:C L<1000)(hs:∀t∈L,T t<1000000000)(htt:T t<1000000):
  RC 15 [.pv (aL L),sv t] (.tup [.pv (aL (if 20000<T t then[]else BD L t)),iv (if 20000<T t then 2 else 0)]) H:=by
 refine Pu ?_;have hS:=rn (l:=L) X;have hXl:=FQ L;have how:=λH=>aD1 L H X hs;have hoa:=λs h=>aAx (L:=L) (s:=s) h;have hoff:=NH t;have hwl:=eh t;have γ:BD L t=((xI (fL L) t).sent.map (jF (jX L))++VC lC (xI (fL L) t).wants)++VC sU (xI (fL L) t).offers:=by rw[BD,append_assoc]
 have v:xI (fL L) t=(wB t).foldl (nL (fL L)) ⟨(vS t).foldl (gX (fL L)) [],[],[]⟩:=rfl;have hwa:=λH=>ni t H htt;have hof:=λH=>Bl t H htt;have ⟨po1,po2⟩:=ph t;generalize wQ t=J0 at hof po1 po2;generalize wB t=P at hoff v po1 po2;generalize vS t=g at hwl v hwa;generalize yK L=o_ at how hoa;generalize jX L=o at γ hoa;generalize fL L=A_ at hS hXl how γ v hoa;have hXs:∀s∈A_,T s<=20000:=λs h=>by rw[iW (hS.dig s h)];decide
 have hmV:C (g.map S_)=C g:=g_ _;have hmP:C (P.map tZ)=C P:=g_ _;have hnil:lN A_ []:=⟨nodup_nil,λi hi=>by cases hi⟩;have ⟨W,hW⟩:∃W,W=θ (g≠[]):=X_;rw[<-hW]at hwa;have hW0:W=η->C g=0:=λh=>by
  rw[hW,n_,Classical.not_not]at h;rw[h];rfl
 clear hW;have ⟨J0,b⟩:=J0;have hb0:b=η->C P=0:=λh=>by
  have po1:b=θ (P≠[]):=po1;rw[po1,n_,Classical.not_not]at h;rw[h];rfl
 have hb1:b=N->J0=P:=po2;clear po1 po2;refine Bd func15 Z ntmps15<|O aJ<|V aJ<|S<|O aA<|Y (gG U_)<|V iZ<|Cn ?_ ?_<;>intro hc1
 .have hbig:20000<T t:=I_ hc1
  rw[b6 hbig,b6 hbig];refine O aJ<|V aJ<|aC<|fO (H':=[]) (.inr Z) Z (aI Z) (aI Z) (P_ (r:=.tup [.pv (aL []),iv 2])) ?_;exact Qq
 have hsm:¬ 20000<T t:=J_ hc1
 rw[a8 hsm,a8 hsm];refine aB<|O aA<|Y (kc call19 (how _))<|Y aA<|Y dL<|Y dL<|Y aJ<|V aJ<|Sz (cZ (id:=905) (sz:=1) (ty:=9) Z Z Z)<|Sz (cZ (id:=906) (sz:=1) (ty:=22) Z Z Z)<|Sz (cZ (id:=907) (sz:=1) (ty:=22) Z Z Z)<|O aA<|Y (kc call24 (hwa _))<|Y aA<|Y dL<|Y dL<|Y aJ<|V aJ<|S<|Sz aJ<|aD<|bC (σ:=Nat) (λk=>([(1,sv t),(6,.pv (aL A_)),(7,.pv (aL o_)),(8,.osl 905 (C ((g.take k).foldl (gX A_) [])) 0 (C ((g.take k).foldl (gX A_) []))),(9,.osl 906 0 0 0),(10,.osl 907 0 0 0),(11,.pv (aL g)),(12,bv W),(13,iv (k:Int))],aH ⟨(g.take k).foldl (gX A_) [],[],[]⟩)) (λk=>k<=C g) (λk=>C g - k) 0 (k_ _) ?_ ?_
 .exact L_
 intro k hk;have hso:=(lN.fold (g.take k) [] hnil).len;refine S<|S<|aT (t:=43) (n:=8) (A_:=θ ((k:Int)<(C (g.map S_):Int))) ?_ ?_
 .all_goals refine Y aA<|Dm ?_<;>(refine Sp 38 (λh38=>?_) λh38=>?_)<;>(try exact w_)<;>(first|refine M<|M<|M<|M ?_|refine U aA<|U aA<|U (fJ aE)<|U cF ?_)<;>refine V cE ?_<;>exact Gj (h:=by first|rfl|(symm;exact decide_eq_false (by have:=hW0 h38;omega)))
 refine Cn ?_ ?_<;>intro hc2
 .have hlt:k<C g:=I_ hc2
  have ⟨s,hk2⟩:=aR hlt;have hi:=cC (f:=S_) hk2;have c:(g.take (k+1)).foldl (gX A_) []=gX A_ ((g.take k).foldl (gX A_) []) s:=by rw[dT hk2,foldl_append];rfl
  have ⟨f_,hSe⟩:∃f_,f_=(g.take k).foldl (gX A_) []:=X_;rw[<-hSe]at hso c |-;have κ:=λH=>rm A_ s H X;have hi2:=λ(H:aF) hH=>xt f_ s (H:=H) X hH;rw[gX]at c;have ⟨B,hB⟩:∃B,B=(θ (s∈A_)&&!θ (s∈f_)):=X_;rw[<-hB]at c;have hwl2:C (bQ f_)=C f_:=cY f_;have hnl:C (f_++[s])=C f_+1:=by rw[j8];rfl
  refine aB<|S<|aD<|S<|aT (t:=60) (n:=16) (A_:=B) ?_ ?_
  .all_goals refine Y aA<|Y aA<|Y aA<|Y (kx aZ hi)<|Y (fK N_ (hi:=hi))<|Y (kc call50 (κ _))<|Dm ?_<;>(refine Sp 52 (λh52=>?_) λh52=>?_)<;>(try exact w_)<;>(first|refine M<|M<|M<|M<|M<|M<|M ?_|refine U aA<|U aA<|U aA<|U (kx aZ hi)<|U (fK N_ (hi:=hi))<|U (kc call50 (hi2 _ Z))<|U iE ?_)<;>refine V cE ?_<;>exact Gj (h:=by rw[hB];(rw[h52];rfl))
  refine Cn ?_ ?_<;>intro hc3
  .rw[b6 hc3]at c;refine Rd aA<|Y aA<|Y aA<|Y (kx aZ hi)<|Y (fK N_ (hi:=hi))<|Y (aM ([s].map S_) Z aZ Z Z Z Z Z (dX _))<|Y (bW (ob:=sO f_) (k:=C f_+1) (ps:=[s].map S_) Z aZ sZ Z Z Z Z Z hwl2 Z (dX _) (m:=1) Z X Z (rows':=bQ (f_++[s])) (eS _ _))<|V aJ<|Rd aA<|Y kp<|Da ?_;refine⟨k+1,X,X,?_⟩;dsimp only;rw[c];simp only[aH,sO,hnl];exact L_
  rw[a8 (by rw[show B=η from hc3];decide)]at c;refine aB<|Rd aA<|Y kp<|Da ?_;refine⟨k+1,X,X,?_⟩;dsimp only;rw[c];exact L_
 have a:k=C g:=J_ hc2
 subst a;rw[take_length];have hso:=lN.fold g [] hnil;have ⟨S0,hS0⟩:∃f_,f_=g.foldl (gX A_) []:=X_;rw[<-hS0]at hso v |-;clear hS0;refine aP<|O aA<|Y (kc call23 (hof _))<|Y aA<|Y dL<|Y dL<|Y aJ<|V aJ<|S<|Sz aJ<|aD<|bC (σ:=Nat) (λk=>([(1,sv t),(6,.pv (aL A_)),(7,.pv (aL o_)),(8,.osl 905 (C ((P.take k).foldl (nL A_) ⟨S0,[],[]⟩).sent) 0 (C ((P.take k).foldl (nL A_) ⟨S0,[],[]⟩).sent)),(9,.osl 906 (C ((P.take k).foldl (nL A_) ⟨S0,[],[]⟩).wants) 0 (C ((P.take k).foldl (nL A_) ⟨S0,[],[]⟩).wants)),(10,.osl 907 (C ((P.take k).foldl (nL A_) ⟨S0,[],[]⟩).offers) 0 (C ((P.take k).foldl (nL A_) ⟨S0,[],[]⟩).offers)),(14,.pv (R7 J0)),(15,bv b),(16,iv (k:Int))],aH ((P.take k).foldl (nL A_) ⟨S0,[],[]⟩))) (λk=>k<=C P/\RepOk A_ k ((P.take k).foldl (nL A_) ⟨S0,[],[]⟩)) (λk=>C P - k) 0 ⟨k_ _,⟨hso,h_ _,h_ _,(λw hw=>by cases hw),(λw hw=>by cases hw)⟩⟩ ?_ ?_
 .exact L_
 rintro k ⟨hk,hR⟩;refine S<|S<|aT (t:=79) (n:=8) (A_:=θ ((k:Int)<(C (P.map tZ):Int))) ?_ ?_
 .all_goals refine Y aA<|Dm ?_<;>(refine Sp 74 (λh74=>?_) λh74=>?_)<;>(try exact w_)<;>(first|refine M<|M<|M<|M ?_|refine U aA<|U aA<|U (fJ underlying41)<|U cF ?_)<;>refine V cE ?_<;>exact Gj (h:=by first|(rw[hb1 h74];done)|(symm;exact decide_eq_false (by have:=hb0 h74;omega)))
 refine Cn ?_ ?_<;>intro hc4
 .have hlt:k<C P:=I_ hc4
  have hbt:b=N:=by cases b with|true=>rfl|false=>exact absurd (hb0 rfl) X
  have hTP:=hb1 hbt;subst hTP;have ⟨p,hk2⟩:=aR hlt;have hi:=cC (f:=tZ) hk2;have hgp:=hoff.2 p (m7 hk2);have c:(J0.take (k+1)).foldl (nL A_) ⟨S0,[],[]⟩=nL A_ ((J0.take k).foldl (nL A_) ⟨S0,[],[]⟩) p:=by rw[dT hk2,foldl_append];rfl
  have τ:=hR.step hS hgp;have ⟨u,hr2,hr3,_,_⟩:=hR;generalize (J0.take k).foldl (nL A_) ⟨S0,[],[]⟩=r at u hr2 hr3 τ c |-;have ⟨rs,G,ro⟩:=r;have u:lN A_ rs:=u;have hr2:C G<=16*k:=hr2;have hr3:C ro<=16*k:=hr3;have hpl:C J0<=T t:=hoff.1;have z:p.cnt<=16->nL A_ ⟨rs,G,ro⟩ p=⟨((gC A_ p.pre).filter λi=>!θ (i∈p.ids)).foldl (gX A_) rs,G++(p.ids.filter λi=>!θ (i∈A_)).map (λi=>[i]),ro⟩:=λh=>b6 h;have I:¬ p.cnt<=16->nL A_ ⟨rs,G,ro⟩ p=if p.cnt=(dC A_ p.pre).cnt/\p.sum=(dC A_ p.pre).sum then⟨rs,G,ro⟩else if(dC A_ p.pre).cnt<=16 then⟨rs,G,ro++[gP (dC A_ p.pre)]⟩else⟨rs,G,ro++A5.map λd=>gP (dC A_ (p.pre++d))⟩:=λh=>a8 h;rw[<-c]at z I τ;have hpre:T p.pre<=16:=by have:=hgp.pre;rw[qW,l6,j0]at this;exact this.1
  have hrg:=λH=>W9 A_ p.pre H X;have hen:=λq H=>YK A_ q H X hXs;have hen1:=hen p.pre;have hli:=λH=>P7 (gC A_ p.pre) (Nat.le_trans (length_filter_le _ _) X) (λs h=>hXs s (P6.1 h).1) H;have hrX:∀i,i∈gC A_ p.pre↔i∈A_/\uJ p.pre i=N:=λi=>P6;have hrl:C (gC A_ p.pre)<=C A_:=length_filter_le _ _;have hpc:(dC A_ p.pre).cnt=C (gC A_ p.pre):=rfl;have hps:(dC A_ p.pre).sum=uI (gC A_ p.pre):=rfl;rw[hpc,hps]at I;have ⟨d_,hC⟩:∃d_,d_=(J0.take (k+1)).foldl (nL A_) ⟨S0,[],[]⟩:=X_;rw[<-hC]at z I τ c;generalize gP (dC A_ p.pre)=F at I hen1;generalize gC A_ p.pre=R at hrg hli hrX hrl z I;generalize uI R=D at hli I;clear hpc hps;have hmR:C (R.map S_)=C R:=g_ _;have hmI:C (p.ids.map S_)=C p.ids:=g_ _;have hml:∀(g:List (List B_)),C (sP g)=C g:=λg=>g_ _;have hso:=u.len;refine aB<|S<|aD<|O aA<|Y aA<|Y (kx aAS hi)<|Y (by exact eY Z isAgg92 sizeOf92 Z hi (by simp only[Zl,S_,m8,tZ];rfl) Z)<|Y (kl 911 aCR)<|Uu (jH sizeOf92)<|Zz<|O aA<|Y (bD JI)<|Y (bU N_)<|Y (kc call51 (hrg _))<|V aJ<|S<|O (bD FW)<|Y (bU M_)<|V EQ ?_;refine Cn ?_ ?_<;>intro hc5
  .have β:p.cnt<=16:=I_ hc5
   have ⟨q1,q2,q3⟩:=hgp.sml β;have hall:=FP q2;have z:=z β;clear I hli hen hen1;refine S<|Sz aJ<|aD<|bC (σ:=Nat) (λj=>([(1,sv t),(6,.pv (aL A_)),(7,.pv (aL o_)),(8,.osl 905 (C (((R.take j).filter λi=>!θ (i∈p.ids)).foldl (gX A_) rs)) 0 (C (((R.take j).filter λi=>!θ (i∈p.ids)).foldl (gX A_) rs))),(9,.osl 906 (C G) 0 (C G)),(10,.osl 907 (C ro) 0 (C ro)),(14,.pv (R7 J0)),(15,bv b),(16,iv (k:Int)),(17,.ref 911 0 0 0),(18,.pv (aL R)),(19,iv (j:Int))],(911,bx 4 92 ((tZ p).map .pv))::aH ⟨((R.take j).filter λi=>!θ (i∈p.ids)).foldl (gX A_) rs,G,ro⟩)) (λj=>j<=C R) (λj=>C R - j) 0 (k_ _) ?_ ?_
   .exact L_
   intro j hj;have hso2:=(lN.fold ((R.take j).filter λi=>!θ (i∈p.ids)) rs u).len;refine S<|O aA<|Y aA<|Y (fJ aE)<|V cF<|Cn ?_ ?_<;>intro hc6
   .have hltj:j<C R:=I_ hc6
    have ⟨s,δ⟩:=aR hltj;have J:=cC (f:=S_) δ;have hsX:=((hrX s).1 (m7 δ)).1;have K:=HD (λi=>!θ (i∈p.ids)) δ;have ⟨f_,hSe⟩:∃f_,f_=((R.take j).filter λi=>!θ (i∈p.ids)).foldl (gX A_) rs:=X_;have hnf:((R.take (j+1)).filter λi=>!θ (i∈p.ids)).foldl (gX A_) rs=if(!θ (s∈p.ids)&&!θ (s∈f_))=N then f_++[s]else f_:=by
     rw[K,foldl_append,<-hSe];cases hp:θ (s∈p.ids)with
     |true=>rfl
     |false =>
      show gX A_ f_ s=_;rw[gX,decide_eq_true hsX];rfl
    rw[<-hSe]at hso2 |-;have κ:=λH=>rm p.ids s H X;have hi2:=λ(H:aF) hH=>xt f_ s (H:=H) X hH;have ⟨B,hB⟩:∃B,B=(!θ (s∈p.ids)&&!θ (s∈f_)):=X_;rw[<-hB]at hnf;have hwl2:C (bQ f_)=C f_:=cY f_;have hnl:C (f_++[s])=C f_+1:=by rw[j8];rfl
    refine aB<|S<|aD<|S<|lL (t:=115) (n:=17) (A_:=B) ?_ ?_
    .cases hg107:((!θ (s∈p.ids)):Bool)
     .refine aN a7<|Cq (bD pY)<|Cq (bU aG)<|Cq aA<|Cq aA<|Cq (kx aZ J)<|Cq (fK N_ (hi:=J))<|Cq (kc call50 (κ _))<|Cq iE<|Cq aA<|Ot<|Ot<|Ot<|Ot<|Ot<|Ot<|Ot<|Cq rD<|bG<|Kr ?_;exact⟨Z,⟨_,Z,by rw[hB];(rw[hg107];rfl)⟩,Z,Z,Z⟩
     refine aN a7<|Cq (bD pY)<|Cq (bU aG)<|Cq aA<|Cq aA<|Cq (kx aZ J)<|Cq (fK N_ (hi:=J))<|Cq (kc call50 (κ _))<|Cq iE<|Cq aA<|Nt aA<|Nt aA<|Nt aA<|Nt (kx aZ J)<|Nt (fK N_ (hi:=J))<|Nt (kc call50 (hi2 _ Z))<|Nt iE<|Cq BO<|bG<|Kr ?_;exact⟨Z,⟨_,Z,by rw[hB];(rw[hg107];rfl)⟩,Z,Z,Z⟩
    refine Cn ?_ ?_<;>intro hc7
    .rw[b6 hc7]at hnf;refine Rd aA<|Y aA<|Y aA<|Y (kx aZ J)<|Y (fK N_ (hi:=J))<|Y (aM ([s].map S_) Z aZ Z Z Z Z Z (dX _))<|Y (bW (ob:=sO f_) (k:=C f_+1) (ps:=[s].map S_) Z aZ sZ Z Z Z Z Z hwl2 Z (dX _) (m:=1) Z X Z (rows':=bQ (f_++[s])) (eS _ _))<|V aJ<|Rd aA<|Y kp<|Da ?_;refine⟨j+1,X,X,?_⟩;dsimp only;rw[hnf];simp only[aH,sO,hnl];exact L_
    rw[a8 (by rw[show B=η from hc7];decide)]at hnf;refine aB<|Rd aA<|Y kp<|Da ?_;refine⟨j+1,X,X,?_⟩;dsimp only;rw[hnf];exact L_
   have a:j=C R:=J_ hc6
   subst a;rw[take_length];generalize (R.filter λi=>!θ (i∈p.ids)).foldl (gX A_) rs=f_ at z |-;refine aP<|S<|Sz aJ<|aD<|dU (λ(j:Nat) (E:List (List B_))=>([(1,sv t),(6,.pv (aL A_)),(7,.pv (aL o_)),(8,.osl 905 (C f_) 0 (C f_)),(9,.osl 906 (C E) 0 (C E)),(10,.osl 907 (C ro) 0 (C ro)),(14,.pv (R7 J0)),(15,bv b),(16,iv (k:Int)),(17,.ref 911 0 0 0),(18,.pv (aL R)),(20,iv (j:Int))],(911,bx 4 92 ((tZ p).map .pv))::aH ⟨f_,E,ro⟩)) (λj E=>j<=C p.ids/\C E<=C G+j/\E=G++((p.ids.take j).filter λi=>!θ (i∈A_)).map (λi=>[i])) (λj E=>C p.ids - j) 0 G ⟨k_ _,h_ _,H_⟩ ?_ ?_
   .exact L_
   rintro j E ⟨hj,hUl,hU⟩;refine S<|O aA<|Y (bD pY)<|Y (bU aG)<|Y (fJ aE)<|V cF<|Cn ?_ ?_<;>intro hc8
   .have hltj:j<C p.ids:=I_ hc8
    have ⟨s,δ⟩:=aR hltj;have J:=cC (f:=S_) δ;have hbs:=(hall s (m7 δ)).2;have K:=HD (λi=>!θ (i∈A_)) δ;have κ:=λH=>rm R s H X;have hRX:θ (s∈R)=θ (s∈A_):=decide_eq_decide.2 ((hrX s).trans ⟨λh=>h.1,λh=>⟨h,hbs⟩⟩);rw[hRX]at κ;have ρ:C (E++[[s]])=C E+1:=by rw[j8];rfl
    have hlr:=hml E;refine aB<|S<|aD<|O aA<|Y (bD pY)<|Y (bU aG)<|Y aA<|Y (kx aZ J)<|Y (fK N_ (hi:=J))<|Y (kc call50 (κ _))<|V iE<|Cn ?_ ?_<;>intro hc9
    .have hb:(!θ (s∈A_))=N:=hc9;rw[b6 hb]at K;refine Rd aA<|Y (bD pY)<|Y (bU aG)<|Y aA<|Y (kx aZ J)<|Y (fK N_ (hi:=J))<|Y (aM ([s].map S_) Z aZ Z Z Z Z Z (dX _))<|Y (aM ([[s]].map m8) Z uS Z Z Z Z Z (jE _))<|Y (bW (ob:=lO E) (k:=C E+1) (ps:=[[s]].map m8) Z uS Dc Z Z Z Z Z hlr Z (jE [[s]]) (m:=1) Z X Z (rows':=sP (E++[[s]])) (NR _ _))<|V aJ<|Rd aA<|Y kp<|Da ?_;refine⟨j+1,E++[[s]],⟨X,X,by rw[K,map_append,<-append_assoc,<-hU];rfl⟩,X,?_⟩;simp only[aH,lO,ρ];exact L_
    have hb:(!θ (s∈A_))=η:=hc9;rw[a8 (by rw[hb];decide),append_nil]at K;refine aB<|Rd aA<|Y kp<|Da ?_;exact⟨j+1,E,⟨X,X,by rw[K];exact hU⟩,X,L_⟩
   have a:j=C p.ids:=J_ hc8
   subst a;rw[take_length]at hU;rw[<-hU]at z;subst z;refine aP<|aP<|Rd aA<|Y kp<|Da ?_;refine⟨k+1,⟨X,by rw[<-hC];exact τ⟩,X,?_⟩;dsimp only;rw[<-hC];exact L_
  have β:¬ p.cnt<=16:=J_ hc5
  have I:=I β;clear z;have ⟨y_,hY⟩:∃y_,y_=(θ ((p.cnt:Int)=(C (R.map S_):Int))&&θ (p.sum=D)):=X_;refine aB<|S<|S<|lL (t:=158) (n:=12) (A_:=y_) ?_ ?_
  .cases hg152:(θ ((p.cnt:Int)=(C (R.map S_):Int)):Bool)
   .refine aN a7<|Cq (bD FW)<|Cq (bU M_)<|Cq aA<|Cq (fJ aE)<|Cq cG<|Cq aA<|Ot<|Ot<|Ot<|Ot<|Ot<|Cq rD<|bG<|Kr ?_;exact⟨Z,⟨_,Z,by rw[hY];(rw[hg152];rfl)⟩,Z,Z,Z⟩
   refine aN a7<|Cq (bD FW)<|Cq (bU M_)<|Cq aA<|Cq (fJ aE)<|Cq cG<|Cq aA<|Nt (bD sb)<|Nt (bU N_)<|Nt aA<|Nt (kc call52 (hli _))<|Nt vT<|Cq BO<|bG<|Kr ?_;exact⟨Z,⟨_,Z,by rw[hY];(rw[hg152];rfl)⟩,Z,Z,Z⟩
  refine Cn ?_ ?_<;>intro hc10
  .have hYt:=hY.symm.trans hc10;rw[l6,j0,j0]at hYt;rw[b6 ⟨X,hYt.2⟩]at I;subst I;refine aP<|Rd aA<|Y kp<|Da ?_;refine⟨k+1,⟨X,by rw[<-hC];exact τ⟩,X,?_⟩;dsimp only;rw[<-hC];exact L_
  have hYf:=hY.symm.trans hc10;rw[a8 (λh=>by rw[decide_eq_true (by omega:(p.cnt:Int)=(C (R.map S_):Int)),decide_eq_true h.2]at hYf;cases hYf)]at I;refine aB<|S<|O aA<|Y (fJ aE)<|V EQ<|Cn ?_ ?_<;>intro hc11
  .have hcO:C R<=16:=I_ hc11
   rw[b6 hcO]at I;have ρ:C (ro++[F])=C ro+1:=by rw[j8];rfl
   have hlr:=hml ro;refine O aA<|Y aA<|Y (bD JI)<|Y (bU N_)<|Y (kc call41 (hen1 _))<|Y (aM ([F].map m8) Z uS Z Z Z Z Z (jE _))<|Y (bW (ob:=lO ro) (k:=C ro+1) (ps:=[F].map m8) Z uS Dc Z Z Z Z Z hlr Z (jE [F]) (m:=1) Z X Z (rows':=sP (ro++[F])) (NR _ _))<|V aJ<|aP<|Rd aA<|Y kp<|Da ?_;subst I;refine⟨k+1,⟨X,by rw[<-hC];exact τ⟩,X,?_⟩;dsimp only;rw[<-hC];simp only[aH,lO,ρ];exact L_
  have hcO:¬ C R<=16:=J_ hc11
  rw[a8 hcO]at I;refine aB<|Sz aJ<|aD<|dU (λ(j:Nat) (E:List (List B_))=>([(1,sv t),(6,.pv (aL A_)),(7,.pv (aL o_)),(8,.osl 905 (C rs) 0 (C rs)),(9,.osl 906 (C G) 0 (C G)),(10,.osl 907 (C E) 0 (C E)),(14,.pv (R7 J0)),(15,bv b),(16,iv (k:Int)),(17,.ref 911 0 0 0),(21,iv (j:Int))],(911,bx 4 92 ((tZ p).map .pv))::aH ⟨rs,G,E⟩)) (λj E=>j<=16/\C E=C ro+j/\E=ro++(A5.take j).map λd=>gP (dC A_ (p.pre++d))) (λj E=>16 - j) 0 ro ⟨k_ _,Z,H_⟩ ?_ ?_
  .exact L_
  rintro j E ⟨hj,hUl,hU⟩;refine S<|O aA<|V cF<|Cn ?_ ?_<;>intro hc12
  .have hltj:j<16:=I_ hc12
   have ⟨d,d1,d2,d3⟩:=aFF j hltj;have hen2:=hen (p.pre++d);have K:(A5.take (j+1)).map (λd=>gP (dC A_ (p.pre++d)))=(A5.take j).map (λd=>gP (dC A_ (p.pre++d)))++[gP (dC A_ (p.pre++d))]:=by rw[dT d1,map_append];rfl
   generalize gP (dC A_ (p.pre++d))=Q at hen2 K;have ρ:C (E++[Q])=C E+1:=by rw[j8];rfl
   have hlr:=hml E;refine aB<|S<|aD<|aN a7<|Cr [907] (λ_ _=>aA)<|x_ aA<|Cr [911] (λ_ h=>fh JI h)<|Cr [911] (λ_ h=>lh N_ h)<|x_ aA<|x_ aA<|x_ (by exact dB Z Z Z (show ξ.wrap ((j:Int)+1)=((j+1:Nat):Int)by rw[lZ X X];omega))<|x_ (by exact cP.eqv (bP (l:=j) (h:=j+1) Z U_ Z Z Z X (by show j+1<=16;omega) Z) (by rw[d2]))<|x_ (by exact fC Z Z Z X (r:=p.pre++d) Z)<|x_ (by exact bH Z Z call41 Z (hen2 _))<|x_ (by exact aM ([Q].map m8) Z uS Z Z Z Z Z (jE _))<|Cp [907] (λH1 hH=>by exact bW (ob:=lO E) (k:=C E+1) (ps:=[Q].map m8) Z uS Dc Z ((hH _ Z).trans Z) Z Z Z hlr Z (jE [Q]) (m:=1) Z X Z (rows':=sP (E++[Q])) (NR _ _)) ?_;refine Cr [907] (λ_ _=>aJ)<|bG<|Kr<|Rd aA<|Y kp<|Da ?_;refine⟨j+1,E++[Q],⟨X,X,by rw[K,<-append_assoc,<-hU]⟩,X,?_⟩;simp only[aH,lO,ρ];exact L_
  have a:j=16:=J_ hc12
  subst a;rw[show A5.take 16=A5 from rfl]at hU;rw[<-hU]at I;subst I;refine aP<|Rd aA<|Y kp<|Da ?_;refine⟨k+1,⟨X,by rw[<-hC];exact τ⟩,X,?_⟩;dsimp only;rw[<-hC];exact L_
 have a:k=C P:=J_ hc4
 subst a;rw[take_length]at hR |-;rw[<-v]at hR |-;rw[γ];clear γ v;have hne:=aA1 (A_:=A_) (t:=t);generalize xI A_ t=r at hR hne |-;have ⟨u,hr2,hr3,hr4,hr5⟩:=hR;have ⟨rs,G,ro⟩:=r;have u:lN A_ rs:=u;have hr2:C G<=16*C P:=hr2;have hr3:C ro<=16*C P:=hr3;have hr4:∀w∈G,C w<=19/\∀s∈w,T s<=24:=hr4;have hr5:∀w∈ro,C w<=19/\∀s∈w,T s<=24:=hr5;have hrs:=u.len;have hpl:C P<=T t:=hoff.1;have hrw:∀e∈G,1<=C e/\C e<=1000:=λe h=>⟨hne.1 e h,Nat.le_trans (hr4 e h).1 E_⟩;have hro:∀e∈ro,1<=C e/\C e<=1000:=λe h=>⟨hne.2 e h,Nat.le_trans (hr5 e h).1 E_⟩;have ⟨fw1,fw2⟩:=LV G hr4;have ⟨fo1,fo2⟩:=LV ro hr5;have hpw:=λH=>SZ η G H X hrw (λs h=>Nat.le_trans (fw2 s h) E_);have hpo:=λH=>SZ N ro H X hro (λs h=>Nat.le_trans (fo2 s h) E_);have hw1:=GT lC G;have ho1:=GT sU ro;rw[show qt η=lC from rfl]at hpw;rw[show qt N=sU from rfl]at hpo;refine aP<|Sz (cZ (id:=908) (sz:=1) (ty:=9) Z Z Z)<|S<|Sz aJ<|aD<|dU (λ(j:Nat) (E:List B_)=>([(6,.pv (aL A_)),(7,.pv (aL o_)),(8,.osl 905 (C rs) 0 (C rs)),(9,.osl 906 (C G) 0 (C G)),(10,.osl 907 (C ro) 0 (C ro)),(22,.osl 908 (C E) 0 (C E)),(23,iv (j:Int))],(908,sO E)::aH ⟨rs,G,ro⟩)) (λj E=>j<=C rs/\C E=j/\E=(rs.take j).map (jF o)) (λj E=>C rs - j) 0 [] ⟨k_ _,Z,Z⟩ ?_ ?_
 .exact L_
 rintro j E ⟨hj,hUl,hU⟩;refine S<|O aA<|Y aA<|Y (by exact dQ Z aE Z Z Z)<|V cF<|Cn ?_ ?_<;>intro hc13
 .have hltj:j<C rs:=I_ hc13
  have ⟨s,hs2⟩:=aR hltj;have hix:=WM hs2;have hsX:=u.2 s (m7 hs2);have ⟨a1,a2⟩:=hoa s hsX;have hpl:=λH=>Z5 A_ s H X;have K:(rs.take (j+1)).map (jF o)=E++[jF o s]:=by rw[dT hs2,map_append,<-hU];rfl
  generalize jF o s=y at a1 K;generalize wT id A_ s=m at *;have ρ:C (E++[y])=C E+1:=by rw[j8];rfl
  have hwU:(bQ E).length=E.length:=cY E;refine aB<|S<|aD<|Rd aA<|Y aA<|Y aA<|Y aA<|Y aA<|Y (by exact dK (m:=j) Z aZ Z Z Z Z Z X (l_ j) X (r8 j))<|Y (by exact aY Z N_ Z Z Z hix Z)<|Y (kc call38 (hpl _))<|Y (by exact bS Z aZ Z Z (Int.natCast_nonneg _) (l_ _) a1 Z)<|Y (fK N_ (hi:=a1))<|Y (by exact aM ([y].map S_) Z aZ Z Z Z Z Z (dX _))<|Y (by exact bW (ob:=sO E) (k:=E.length+1) (ps:=[y].map S_) Z aZ sZ Z Z Z Z Z hwU Z (dX _) (m:=1) Z X Z (rows':=bQ (E++[y])) (by exact eS _ _))<|V aJ<|Rd aA<|Y kp<|Da ?_;refine⟨j+1,E++[y],⟨X,X,K.symm⟩,X,?_⟩;simp only[sO,ρ];exact(cH.wk (Eb<|Eb<|Ea<|Ea<|Ea<|Ea<|Eb<|T_) (Hc (aQ _ _)<|Hc (aQ _ _)<|Hb<|Hb<|T_) T_)
 have a:j=C rs:=J_ hc13
 subst a;rw[take_length]at hU;rw[<-hU];refine aP<|S ?_;refine gO.ent (cH.fzG (id:=906) (E':=[(9,.pv (iT G)),(10,.osl 907 (C ro) 0 (C ro)),(22,.osl 908 (C E) 0 (C E))]) (H':=[(908,sO E),(907,lO ro)]) (G.map m8) Z (mF _) ?_ Z ?_ T_) ?_
 .intro p hp;simp only[l9,q8,or_false]at hp;rcases hp with rfl|rfl|rfl
  .exact⟨_,Z,.osl (C0 G)⟩
  .exact⟨_,Z,.same m3⟩
  exact⟨_,Z,.same m3⟩
 .exact⟨⟨_,Z,Z,Z,Z,eL (aQ _ _)⟩,⟨_,Z,Z,Z,Z,eL (nJ _)⟩,T_⟩
 refine gO.ent (cH.fzG (id:=907) (E':=[(9,.pv (iT G)),(10,.pv (iT ro)),(22,.osl 908 (C E) 0 (C E))]) (H':=[(908,sO E)]) (ro.map m8) Z (mF _) ?_ Z ?_ T_) ?_
 .intro p hp;simp only[l9,q8,or_false]at hp;rcases hp with rfl|rfl|rfl
  .exact⟨_,Z,.same H_⟩
  .exact⟨_,Z,.osl (C0 ro)⟩
  exact⟨_,Z,.same m3⟩
 .exact⟨⟨_,Z,Z,Z,Z,eL (aQ _ _)⟩,T_⟩
 have ⟨x,hA1⟩:∃i_,i_=VC lC G:=X_;have ⟨A2,hA2⟩:∃i_,i_=VC sU ro:=X_;rw[<-hA1]at hpw hw1 |-;rw[<-hA2]at hpo ho1 |-;clear hA1 hA2 hU;have hm1:C (x.map S_)=C x:=g_ _;have hm2:C (A2.map S_)=C A2:=g_ _;have hl1:C (E++x)=C E+C x:=j8;have hl2:C ((E++x)++A2)=C (E++x)+C A2:=j8;have hwU:C (bQ E)=C E:=cY E;have hwU1:C (bQ (E++x))=C (E++x):=cY _;refine Rd aA<|Y aA<|Y (kc call53 (hpw _))<|Y (bW (ob:=sO E) (k:=C (E++x)) (ps:=x.map S_) Z aZ sZ Z Z Z Z Z hwU Z (dX _) (m:=C x) hm1 X hl1.symm (rows':=bQ (E++x)) (eS _ _))<|V aJ<|O aA<|Y aA<|Y (kc call53 (hpo _))<|Y (bW (ob:=⟨C E+1,1,9,bQ (E++x)⟩) (k:=C ((E++x)++A2)) (ps:=A2.map S_) Z aZ sZ Z Z Z Z Z hwU1 Z (dX _) (m:=C A2) hm2 X hl2.symm (rows':=bQ ((E++x)++A2)) (eS _ _))<|Y aJ<|V aJ<|aC ?_;refine fO (H':=[]) (.inr Z) Z (aI Z) (aI Z) (Fin.fz (r':=.tup [.pv (aL ((E++x)++A2)),iv 0]) (id:=908) (ob:=⟨C E+1+1,1,9,bQ ((E++x)++A2)⟩) (((E++x)++A2).map S_) Z (dS _) (.tup Z (bJ (.osl (gY S_ ((E++x)++A2))) (bJ (.same H_) kG))) Z T_ T_) ?_;exact Qq
theorem VE(L I:List B_)(t:B_)(H:aF)(hl:C L<=1048576)(hs:∀s∈L,T s<=1048576)(z:C I<=1048576)(m:∀s∈I,T s<=1048576)(ht:T t<=1048576):
  RC 3 [.pv (aL L),.pv (aL I),sv t] (bv N) H:=by
 refine Pu ?_;have J:=λH=>aDq L 40 H hl hs;have B:=Nk (l:=L);have D:=λH=>Nl I 100 H ⟨X,λs h=>by have:=m s h;omega⟩;have K:=Cy (l:=I);generalize Cx L 40=f at J B;generalize kd I 100=e at D K;have ⟨A_,g⟩:∃A_,A_=(((!f||θ ((300:Int)<(C (I.map S_):Int)))||!e)||θ ((21000:Int)<(T t:Int))):=X_;refine Bd func3 Z ntmps3<|Sz aJ<|O (kc call9 (aB3 _))<|V aJ<|S<|S<|aT (t:=34) (n:=21) (A_:=A_) ?_ ?_
 .all_goals refine Y aA<|Y (kc call10 (J _))<|Y iE<|Dm ?_<;>(refine Sp 20 (λP=>?_) λP=>?_)<;>(try exact w_)<;>(first|refine M<|M<|M ?_|refine U aA<|U (fJ aE)<|U iZ ?_)<;>refine Y cE<|Dm ?_<;>(refine Sp 25 (λd=>?_) λd=>?_)<;>(try exact w_)<;>(first|refine M<|M<|M ?_|refine U aA<|U (kc call11 (D _))<|U iE ?_)<;>refine Y cE<|Dm ?_<;>(refine Sp 30 (λx=>?_) λx=>?_)<;>(try exact w_)<;>(first|refine M<|M<|M ?_|refine U aA<|U (gG U_)<|U iZ ?_)<;>refine V cE ?_<;>exact Gj (h:=by rw[g];first|(rw[P];rfl)|(rw[P,d];rfl)|(rw[P,d,x];rfl))
 refine Cn ?_ ?_<;>intro k
 .exact O aA<|V aJ<|aC<|Rt<|Qq
 have R:=g.symm.trans k;rw[r6,r6,r6,Bool.not_eq_false',Bool.not_eq_false',n_,n_]at R;have ⟨⟨⟨x1,x2⟩,w⟩,x4⟩:=R;have ⟨y,a⟩:=B x1;have ⟨τ,b⟩:=K w;clear B K J D g x1 w;have o:=λH=>K9 I H X (λt h=>by have:=b t h;omega);have p:=λH=>qj I H X (λt h=>by have:=b t h;omega);have i:=λH=>me L t H X (λs h=>by have:=a s h;omega);have j:=λH=>tp L t H X (λs h=>by have:=a s h;omega) X;have u:=λH=>ZD t H X;have v:=λH=>zq t H X;have W:C (if 20000<T t then[]else BD L t)<1000000000:=by
  split
  .exact r_ Z
  exact Xx L t X X
 generalize (if 20000<T t then[]else BD L t)=c at *;generalize (if 20000<T t then(2:Int)else 0)=E at *;have Q:C (if(ER t).isSome=N then[t]else[])<1000000000:=by split<;>exact r_ Z
 generalize (if(ER t).isSome=N then[t]else[])=J0 at *;generalize DH I=G at *;generalize DI I=F at *;have q:∀H,RC 16 [.pv (aL c),.pv (aL c)] (bv N) H:=λH=>by
  have:=M1 c c H W W
  rwa [decide_eq_true rfl]at this
 have r:∀H,RC 16 [.pv (aL J0),.pv (aL J0)] (bv N) H:=λH=>by
  have:=M1 J0 J0 H Q Q
  rwa [decide_eq_true rfl]at this
 refine aB<|O aA<|Y (kc call12 (o _))<|Y aA<|Y dL<|Y dL<|Y aJ<|V aJ<|O aA<|Y (kc call13 (p _))<|Y aA<|Y dL<|Y dL<|Y aJ<|V aJ<|O aA<|Y aA<|Y (kc call14 (i _))<|Y aA<|Y dL<|Y dL<|Y aJ<|V aJ<|O aA<|Y aA<|Y (kc call15 (j _))<|Y aA<|Y dL<|Y dL<|Y aJ<|V aJ<|O aA<|Y aA<|U aA<|U aA<|U (cP.val (FD Z Z Z) ((decide_eq_true Z)))<|Y cE<|Y aA<|U aA<|U aA<|U (cP.val (mM Z Z Z) ((decide_eq_true Z)))<|Y cE<|Y aA<|U aA<|U aA<|U (kc call16 (q _))<|Y cE<|Y aA<|U aA<|U aA<|U (cP.val (mM Z Z Z) ((decide_eq_true Z))) ?_;exact Y cE<|Y aA<|U aA<|U (kc call17 (u _))<|U aA<|U (kc call18 (v _))<|U (kc call16 (r _))<|Y cE<|V aJ<|aC<|Rt<|Qq
end Go.Proofs.C
