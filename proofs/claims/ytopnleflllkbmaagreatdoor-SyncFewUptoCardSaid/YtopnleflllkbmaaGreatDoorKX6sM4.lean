/-
  Parts of the proof. Conditions: each theorem's own.
-/
import Derived.Test.YtopnleflllkbmaaGreatDoorKX6sM3
set_option linter.unusedVariables false
set_option linter.unusedSimpArgs false
set_option maxRecDepth 100000
set_option maxHeartbeats 8000000
open List Nat
open List renaming length->C
open Option renaming some->A,none->ζ
open Bool renaming true->T,false->η
open ByteArray renaming size->N,data->μ
open Array renaming toList->ν
open Decidable renaming decide->θ
open Go.IntKind renaming i64->ξ
open Go.Proofs.Tryz renaming prog->φ
open Go.Proofs.YtopnleflllkbmaaGreatDoor
namespace Go.Proofs
open Tryz
theorem wG:type_of% call121:=call121
theorem nP:type_of% isAgg185:=isAgg185
theorem jB:type_of% isAgg189:=isAgg189
theorem nJ:type_of% isAgg25:=isAgg25
theorem hU:type_of% isAgg48:=isAgg48
theorem kI:type_of% isAgg49:=isAgg49
theorem oH:type_of% sizeOf185:=sizeOf185
end Go.Proofs
namespace Go.Proofs.C
open Go.Proofs.Tryz
open Go.Abs
abbrev HXJ:B_:=⟨#[48,49,50,51,52,53,54,55,56,57,97,98,99,100,101,102]⟩
theorem Oq{n}(h:n<16):Lib.indexByte (ν (μ HXJ)) (xN n).toNat.toUInt8=n:=by revert n;decide
theorem uf(m){k}(b:k<16):aZ (F1 m) k=xN (WD (Gz m) k):=by have a:=zb (FI (Gz m) k);have e:(F1 m).data.toList=B8 (Gz m):=rfl;rw[aZ,e,B8,r8,getElem?_range b];show ((UInt8.ofNat _).toNat:Int)=_;rw[UInt8.toNat_ofNat',mod_eq_of_lt X,Int.toNat_of_nonneg a.1]
theorem Pt(m){k}(a:k<16):(dJ m)[k]?=A (WD (Gz m) k):=by rw[dJ,r8,getElem?_range a];rfl
theorem Yu(m){k}(a:k<16):(Hh m).getD k 0=WD (Gz m) k:=by rw[getD_eq_getElem?_getD,Hh,getElem?_append_left (a),Pt m a];rfl
theorem aC1(m):(Hh m).getD 16 0=HQ m / 16:=rfl
theorem aC0(m):(Hh m).getD 17 0=HQ m % 16:=rfl
def KH(m:B_)(k:Nat):Nat:=(((dJ m).take k).map (15 - ·)).sum
theorem pw(m){k}(a:k<16):KH m (k+1)=KH m k+(15 - WD (Gz m) k):=by rw[KH,take_add_one,Pt m a,map_append,sum_append];rfl
theorem Km(m)(k):KH m k<=240:=by
 have h:=RV ((dJ m).take k);have B:C ((dJ m).take k)<=16:=by rw[m_,aC4];omega
 rw[KH];omega
theorem Ch(m):KH m 16=HQ m:=rfl
def rq(m:B_):Ob:=bx 1 9 [sv m]
theorem Ew(m)(H)(b:H.get 961=ζ):aU φ 171 [sv m] H (λr H'=>r=.clo 225 [.ref 961 0 0 0]/\H'=(961,rq m)::H):=by refine Bd func171 Z ntmps171<|U (tL Z Z Z Z b)<|V aH<|U (iC Z Z)<|V aH<|aC ?_;refine cT (.inr Z) Z (aI Z) Fin.refl Qq
theorem Ex(m:B_)(o:AV)(d:Nat->aF)(G:N m<2^40)(u:∀k,(d k).get 961=A (rq m))
  (p:∀k:Nat,k<18->dQ φ o [iv (k:Int),iv (((Hh m).getD k 0:Nat):Int)] (d k) (λr H'=>r=bv T/\H'=d (k+1))) :
  aU φ 225 [o,.ref 961 0 0 0] (d 0) (λr H'=>r=.tup []/\H'=d 18):=by
 have s:=rY m;have g:=λH=>vz m H X;have f:=p 16 E_;have j:=p 17 E_;have B:=gb m;rw[aC1]at f;rw[aC0]at j;refine Bd func225 Z ntmps225<|Sz aH<|U (aX Z N_ Z (u 0) Z Z Z)<|Y (kc call106 (g _))<|V aH<|S<|U aA<|Y (gL U_)<|V aA<|aE<|bF (σ:=Nat) (λk=>([(0,o),(1,.ref 961 0 0 0),(3,iv (KH m k:Int)),(4,sv (F1 m)),(10,iv 16),(11,iv (k:Int))],d k)) (λk=>k<=16) (λk=>16 - k) 0 (l7 _) ?_ ?_
 .rw[s];exact E0
 intro k F;have c:=λ(h:k<16)=>p k X;refine Sz cI<|S<|Cn ?_ ?_<;>intro i
 .have b:k<16:=I_ i
  have c:=c b;rw[Yu m b]at c;have t:=FI (Gz m) k;have D:=Km m k;have E:=pw m b;have e:=λH=>sL HXJ (xN (WD (Gz m) k)) H;rw[Oq t]at e;refine aB<|S<|aE<|U aA<|V aH<|U aA<|Y aA<|Y (cK Z U_ Z Z X (l_ _) X (uf m b))<|Y (kc call199 (e _))<|V aH<|U aA<|Y aA<|Y (by exact dT Z Z Z (show ξ.wrap (15 - (WD (Gz m) k:Int))=((15 - WD (Gz m) k:Nat):Int)by rw[lT X X];omega))<|Y (by exact dD Z Z Z (show ξ.wrap ((KH m k:Int)+((15 - WD (Gz m) k:Nat):Int))=(KH m (k+1):Int)by rw[lT X X];omega))<|V aH<|U aA<|Y aA<|Y aA<|Y (dK Z Z Z (c))<|V iH ?_;refine Cn ?_ ?_<;>intro l
  .cases l
  refine aB<|Rd kp<|V aA ?_;exact⟨k+1,X,X,E0⟩
 have n:k=16:=J_ i
 subst n;rw[Ch];refine aP<|U aA<|Y aA<|Y (by exact C8 Z Z Z E_ (show ξ.wrap (((HQ m:Nat):Int).tdiv 16)=((HQ m / 16:Nat):Int)by rw[Int.tdiv_eq_ediv_of_nonneg X,lT X X];omega))<|V (dK Z Z Z (f)) ?_;refine Cn ?_ ?_<;>intro q
 .refine Rd aA<|Y aA<|Y (by exact xF Z Z Z E_ (show ((HQ m:Nat):Int).tmod 16=((HQ m % 16:Nat):Int)by rw[Int.tmod_eq_emod_of_nonneg X];omega))<|V (dK Z Z Z (j)) ?_;exact pE (H':=d 18) (.inl Z) Z Fin.refl ⟨Z,Z⟩
 cases q
theorem Tl{a b:Nat}(e:a<2^62)(f:b<2^62):bits .xor .i64 a b=((a ^^^ b)):=by have h:=xor_lt_two_pow (n:=62) e f;have d:a % 2 ^ ξ.bits=a:=mod_eq_of_lt (Nat.lt_of_lt_of_le e E_);have c:b % 2 ^ ξ.bits=b:=mod_eq_of_lt (Nat.lt_of_lt_of_le f E_);simp[bits,BitVec.ofInt_natCast,BitVec.toNat_xor,BitVec.toNat_ofNat,d,c];rw[lT X X]
theorem Yw{p}[Decidable p](h:¬ p):AV.pv (.bool (θ p))=bv η:=F_
def Cc(s:B_)(i:Nat)(m:B_)(k:Nat):List B_:=(List.range k).map λk=>O1 (pK s i k) ((Hh m).getD k 0)
theorem Jv(s)(i)(m)(k):Cc s i m (k+1)=Cc s i m k++[O1 (pK s i k) ((Hh m).getD k 0)]:=by rw[Cc,range_succ,map_append];rfl
theorem Uv(s)(i)(m)(k):C (Cc s i m k)=k:=by simp[Cc]
theorem cP.eqJ{P}{r4}{o}{E}{H H2}{v a}(h:cP P r4 o E H v H2)(e:v=a):cP P r4 o E H a H2:=e▸h
def sgE:dG:=[(4,.ref 4 0 0 0),(6,.ref 6 0 0 0),(10,.ref 10 0 0 0)]
def sgT(s:B_)(i:Nat):aF:=[(8,bx 3 48 [iv 0,.pv (.sl []),.pv (.sl [])]),(6,bx 1 3 [iv (i:Int)]),(4,bx 1 9 [sv s])]
def sgK(s:B_)(i:Nat)(m:B_)(L:List B_):aF:=[(905,⟨C L,1,9,bZ L⟩),(10,bx 3 48 [iv (i:Int),.osl 905 (C L) 0 (C L),.pv .nils]),(961,rq m),(8,bx 3 48 [iv 0,.pv (.sl []),.pv (.sl [])]),(6,bx 1 3 [iv (i:Int)]),(4,bx 1 9 [sv s])]
theorem Uw(s)(i)(m)(L)(x):sgK s i m (L++[x])=[(905,⟨C L+1,1,9,bZ (L++[x])⟩),(10,bx 3 48 [iv i,.osl 905 (C L+1) 0 (C L+1),.pv .nils]),(961,rq m),(8,bx 3 48 [iv 0,.pv (.sl []),.pv (.sl [])]),(6,bx 1 3 [iv i]),(4,bx 1 9 [sv s])]:=by simp[sgK]
theorem TL(H)(m):∀r∈(rq m).rows,∀a∈r,Clo H a:=by intro r c a b;simp[rq,bx,q9]at c;subst c;rw[q9]at b;subst b;simp
instance(H)(m):W_ (H) ((rq m).rows):=⟨TL H m⟩
theorem u0{p:Prop}(h:p:=by simp only[Zl,S_];rfl):p:=h
theorem y0{p:Prop}(h:p:=by simp only[j6,length_nil];omega):p:=h
theorem Uq(s m:B_)(h i:Nat)(H:aF)(hs:N s<2^40)(hm:N m<2^40)(K:h<=8)(hi:i<2 ^ h):
  RC 119 [sv s,iv (h:Int),iv (i:Int),sv m] (.tup [.agg [iv (i:Int),.pv (aK (pg s i m)),.pv (aK (yG h (yL s h) i))],iv 0]) H:=by
 refine Pu ?_;have f:=GQ K;have z:=aBD K;have hkeys:=λH=>Xv s h H hs K;have A_:=X7 s h;have n:∀L,L=yG h (yL s h) i->True:=λ_ _=>trivial;refine Bd func119 Z ntmps119<|U (kb 4)<|Y (kb 6)<|Y (kl 8 eg)<|V aH<|S<|S<|aM a7<|Cq aA<|Cq (cP.eqJ (iK Z Z Z) (Yw X))<|Cq aA<|Nf aA<|Nf (cP.eqJ (K5 Z Z Z) (Yw X))<|Cq cD<|Cq aA<|Nf (bQ M_)<|Nf (cP.eqJ (iK Z Z Z) (Yw X))<|Cq cD<|Cq aA<|Nf (bQ M_)<|Nf aA<|Nf (by exact QG Z Z Z X (by simp[IntKind.bits];omega) z)<|Nf (cP.eqJ (jY Z Z Z) (Yw X))<|Cq cD<|bG<|Kr ?_;refine Cn ?_ ?_<;>intro u_
 .cases u_
 refine aB<|U (bQ M_)<|Y (oD aEi)<|Y (kl 10 eg)<|Uu (jG sizeOf48)<|Zz<|S<|U aA<|V (kc call171 (Ew m _ Z))<|aE ?_;refine fW.ent (E':=[(1,iv (h:Int)),(4,.ref 4 0 0 0),(6,.ref 6 0 0 0),(8,.ref 8 0 0 0),(10,.ref 10 0 0 0),(35,.clo 225 [.ref 961 0 0 0])]) (H':=sgK s i m []) ?_ ?_
 .exact (Q_ 905 1 9)
 refine uj (id:=904) (p:=36) (p2:=37) sgE Z call225 Z Z (by simp[sgE];exact⟨Z,Z,Z⟩) ?_;intro x P F τ σ W u4;refine(Ex m (.yld 904 0) (λk=>(904,LR x sgE)::sgK s i m (Cc s i m k)) hm (λk=>rfl) ?_).mono ?_
 .intro k hk;have hd:=aCZ m _ (Ei (d:=0) (by rw[Yv];exact hk));have e_:=λH=>wb s i k H hs X X;have ρ:=Uv s i m k;have D:=Jv s i m k;have c_:=λH=>Ad (pK s i k) ((Hh m).getD k 0) H (by rw[EY];decide) X;generalize (Hh m).getD k 0=d at hd D c_ |-;refine .inl ⟨904,0,Z,?_⟩;refine Tk [(4,.ref 4 0 0 0),(6,.ref 6 0 0 0),(10,.ref 10 0 0 0),(11,iv (k:Int)),(12,iv (d:Int))] (sgK s i m (Cc s i m k)) P F τ σ W u4 Z Z Z Z Z ?_ ?_
  .refine Sz aH<|Rg<|Da ?_;exact(cH.wk (Ea<|Ea<|Ea<|Eb<|Eb<|T_) (Hc (oI (by intro p f;simp only[sgE,l9,q8,or_false]at f;rcases f with rfl|rfl|rfl<;>(simp only[DY];rfl)))<|Hc (aN _ _)<|Ha<|Hc (TL _ _)<|Hb<|Hb<|Hb<|T_) ⟨Z,Z,Z,Z,Z,Z,Z,T_⟩)
  rw[D,Uw];refine aE<|aM a7<|Cr [10] (λ_ h=>fh wQ h)<|Cr [10] (λ_ h=>lh aG h)<|Cr [4] (λ_ h=>lh N_ h)<|Cr [6] (λ_ h=>lh M_ h)<|x_ aA<|x_ (by exact bH Z Z call173 Z (e_ _))<|x_ aA<|x_ (by exact bH Z Z call172 Z (c_ _))<|x_ (by exact aL [[.str (O1 (pK s i k) d)]] Z aY Z Z Z Z Z F_)<|Cp [905] (λn c=>by exact bW (ps:=[[.str (O1 (pK s i k) d)]]) Z aY sW Z ((c _ Z).trans Z) Z Z Z (dI _) Z F_ (m:=1) Z X Z (gT (Cc s i m k) (O1 (pK s i k) d)))<|Cr [10] (λ_ h=>fh wQ h)<|Cp [10] (λn c=>by exact cM Z sizeOf22 Z Z Z ((c _ Z).trans Z) Z Z F_ u0 u0) ?_;refine bG<|Kr ?_;exact⟨[(905,⟨C (Cc s i m k)+1,1,9,bZ (Cc s i m k++[O1 (pK s i k) d])⟩),(10,bx 3 48 [iv (i:Int),.osl 905 (C (Cc s i m k)+1) 0 (C (Cc s i m k)+1),.pv .nils]),(961,rq m),(8,bx 3 48 [iv 0,.pv (.sl []),.pv (.sl [])]),(6,bx 1 3 [iv (i:Int)]),(4,bx 1 9 [sv s])],(cH.wk T_ (Hc (oI (by intro p f;simp only[sgE,l9,q8,or_false]at f;rcases f with rfl|rfl|rfl<;>(simp only[DY];rfl)))<|Hc (aN _ _)<|Ha<|Hc (TL _ _)<|Hb<|Hb<|Hb<|T_) ⟨Z,Z,Z,Z,Z,Z,Z,T_⟩),Z,Z⟩
 rintro r H' ⟨rfl,rfl⟩;refine⟨x,_,Z,F_,Z,λz=>?_⟩;rw[F,show Cc s i m 18=pg s i m from rfl];have ⟨f_,hS⟩:∃f_,f_=pg s i m:=X_;rw[<-hS];have J:C (f_.map S_)=C f_:=g_ _;refine fW.ent (cH.fzG (id:=905) (E':=[(1,iv (h:Int)),(4,.ref 4 0 0 0),(6,.ref 6 0 0 0),(8,.ref 8 0 0 0),(10,.ref 10 0 0 0)]) (H':=(10,bx 3 48 [iv (i:Int),.pv (aK f_),.pv .nils])::sgT s i) (f_.map S_) Z (dA _) ?_ Z ?_ ?_) ?_
 .intro p f;simp only[l9,q8,or_false]at f;rcases f with rfl|rfl|rfl|rfl|rfl
  .exact⟨_,Z,.same H_⟩
  .exact⟨_,Z,.same m3⟩
  .exact⟨_,Z,.same m3⟩
  .exact⟨_,Z,.same m3⟩
  exact⟨_,Z,.same m3⟩
 .refine⟨⟨_,Z,Z,Z,Z,jO Z (bA (.same H_) (bA (.osl ?_) (bA (.same H_) jA)))⟩,⟨_,Z,Z,Z,Z,dC H_⟩,⟨_,Z,Z,Z,Z,dC H_⟩,⟨_,Z,Z,Z,Z,dC H_⟩,T_⟩;rw[r7,drop_zero,<-J,take_length]
 .exact T_
 refine S<|S<|aM a7<|Cq (bQ N_)<|Cq aA<|Cq (kc call174 (hkeys _))<|Cq (bQ M_)<|Cq aH<|Cq aH<|bG<|Kr<|aE ?_;refine fW.ent (E':=[(8,.ref 8 0 0 0),(10,.ref 10 0 0 0),(13,.pv (aK (yL s h))),(14,iv (i:Int))]) (H':=(906,⟨0,1,9,[]⟩)::(10,bx 3 48 [iv (i:Int),.pv (aK f_),.osl 906 0 0 0])::sgT s i) ?_ ?_
 .exact (Q_ 906 1 9)
 refine Y6 (λ(j:Nat) (l:List B_) (q:Nat) (I:List B_)=>([(8,.ref 8 0 0 0),(10,.ref 10 0 0 0),(13,.pv (aK l)),(14,iv (q:Int))],[(906,⟨C I,1,9,bZ I⟩),(10,bx 3 48 [iv (i:Int),.pv (aK f_),.osl 906 (C I) 0 (C I)]),(8,bx 3 48 [iv 0,.pv (.sl []),.pv (.sl [])]),(6,bx 1 3 [iv (i:Int)]),(4,bx 1 9 [sv s])]))
  (λj l q I=>C l=2 ^ j/\q<2 ^ j/\I++yG j l q=yG h (yL s h) i/\(∀t∈l,N t=16)/\j<=8/\C I+j<=8) (λj l q I=>j) h (yL s h) i [] ⟨A_,hi,Z,λt o_=>iJ (X8 s h t o_),K,by rw[length_nil];omega⟩ ?_ ?_
 .exact L_
 rintro j l q I ⟨hl,hq,o,hz,hj,hA⟩;have δ:C (l.map S_)=C l:=g_ _;have γ:=GQ hj;refine S<|U aA<|Y (fM aD)<|V iX<|Cn ?_ ?_<;>intro v
 .have E:1<C l:=I_ v
  obtain ⟨u,rfl⟩:∃u,j=u+1:=by
   cases j with
   |zero=>rw[hl]at E;exact absurd E E_
   |succ u=>exact⟨u,Z⟩
  have G:C l=2*2 ^ u:=by rw[hl,Nat.pow_succ,Nat.mul_comm]
  have β:=GQ (h:=u) X;have Q:q / 2<2 ^ u:=by rw[Nat.pow_succ]at hq;omega
  have hx:=vi q;have d_:q ^^^ 1<C l:=by
   rw[hx]
   split<;>omega
  have g:(l.map S_)[q ^^^ 1]?=A (S_ (l.getD (q ^^^ 1) a6)):=by
   rw[r8,getD_eq_getElem?_getD,n_ d_];rfl
  have w:(I++[l.getD (q ^^^ 1) a6])++yG u (vr l) (q / 2)=yG h (yL s h) i:=by
   rw[<-o,append_assoc];rfl
  have B:=Tl (a:=q) (b:=1) X E_;generalize l.getD (q ^^^ 1) a6=e at g w;generalize q ^^^ 1=y at g B d_;have z_:C (I++[e])=C I+1:=by rw[j8];rfl
  refine aB<|S<|aE<|aM a7<|Cr [10] (λ_ h=>fh wP h)<|Cr [10] (λ_ h=>lh aG h)<|x_ aA<|x_ aA<|x_ (by exact pS Z H_ Z Z B)<|x_ (by exact bP Z aY Z Z X (l_ _) g Z)<|x_ ((fS N_ (hi:=g)))<|x_ (by exact aL [[.str e]] Z aY Z Z Z Z Z R_)<|Cp [906] (λn c=>by exact bW (ps:=[[.str e]]) Z aY sW Z ((c _ Z).trans Z) Z Z Z (dI _) Z R_ (m:=1) Z X Z (gT I e))<|Cr [10] (λ_ h=>fh wP h)<|Cp [10] (λn c=>by exact cM Z sizeOf22 Z Z Z ((c _ Z).trans Z) Z Z y0 u0 u0) ?_;refine bG<|Kr<|Rd aA<|Y (kc call175 (Zt l (2 ^ u) _ G X hz))<|Y aA<|Y (by exact C8 Z Z Z E_ (show ξ.wrap ((q:Int).tdiv 2)=((q / 2:Nat):Int)by rw[Int.tdiv_eq_ediv_of_nonneg X,lT X X];omega))<|Y aH<|Da ?_;refine⟨u,vr l,q / 2,I++[e],⟨PT _ _ G,Q,w,λt o_=>iJ (ZJ _ _ (h_ _) t o_),X,X⟩,X,?_⟩;dsimp only;rw[z_];exact L_
 have κ:C l<=1:=J_ v
 have r4:j=0:=by
  cases j with
  |zero=>rfl
  |succ u =>
   have:2 ^ (u+1)=2*2 ^ u:=by rw[Nat.pow_succ,Nat.mul_comm]
   have:0<2 ^ u:=Nat.two_pow_pos u;omega
 subst r4;have R:I=yG h (yL s h) i:=by rw[<-o,yG,append_nil]
 have y_:C (I.map S_)=C I:=g_ _;rw[<-R];refine aP<|S ?_;refine fW.ent (cH.fzG (id:=906) (E':=[(8,.ref 8 0 0 0),(10,.ref 10 0 0 0)]) (H':=(10,bx 3 48 [iv (i:Int),.pv (aK f_),.pv (aK I)])::sgT s i) (I.map S_) Z (dA _) ?_ Z ?_ ?_) ?_
 .intro p f;simp only[l9,q8,or_false]at f;rcases f with rfl|rfl
  .exact⟨_,Z,.same m3⟩
  exact⟨_,Z,.same m3⟩
 .refine⟨⟨_,Z,Z,Z,Z,jO Z (bA (.same H_) (bA (.same H_) (bA (.osl ?_) jA)))⟩,⟨_,Z,Z,Z,Z,dC H_⟩,⟨_,Z,Z,Z,Z,dC H_⟩,⟨_,Z,Z,Z,Z,dC H_⟩,T_⟩;rw[r7,drop_zero,<-y_,take_length]
 .exact T_
 refine Rd (by exact aW Z hU sizeOf48 Z Z Z Z u0 Z)<|Uu (jG sizeOf48)<|V aH<|aC ?_;refine gD (H':=[]) (.inr Z) Z (fG Z hU sizeOf48 Z Z Z u0 Z) (aI Z) P_ ?_;exact Qq
end Go.Proofs.C
namespace Go.Abs
open Go.RowKit
theorem Rel.below{I}{ι}{H}{w w'}(d:Below w.heap.size w w')(f:Rel I ι H w):Rel I ι H w'/\Step I ι H w I ι H w':=by
 have g:=d.block;have e:Step I ι H w I ι H w':=by
  refine⟨d.os,d.tape,d.output,d.size,λa ha _=>?_,λ_ h=>h,λ_ h=>.inl h,λ_ h=>.inl h,λb d _=>g b d,λ_ o h=>⟨o,h,h_ _,λ_=>⟨Z,Z,λ_=>h_ _⟩⟩⟩;unfold World.frozen?
  simp_all
 refine⟨⟨λb h=>?_,λj o k=>?_,f.inj,e.glob f⟩,e⟩
 ·have:=f.imm b h;have:=d.size;omega
 exact(f.obj j o k).keep Z (λb c _ d=>⟨g b d,λh=>h⟩) (λr _ a _ v i=>i.mono f e)
end Go.Abs
namespace Go.Abs
open Go.Proofs
def aE5(v:Value):Prop:=∃t p,v=.iface t p
abbrev Es:PV:=.sat aE5
def qK(s:B_):Int×PV:=match Lib.atoiAll (ν (μ s)) with
 |.ok v=>(v,NJ)
 |.range=>(Lib.atoiSat (ν (μ s)),Es)
 |_=>(0,Es)
theorem atoi_c{P:Program}{ρ:Shelf.Ren}(L:LaysC.n172 P ρ){G1 G2:Nat}(B:(G1,GV.face)∈kh)(k:P.globalNamed "strconv.ErrSyntax" = A G1)(F:(G2,GV.face)∈kh)(e_:P.globalNamed "strconv.ErrRange" = A G2)(s:B_)(hs:N s<2^40)(H:aF):
  aU P (ρ.f 172) [.pv (.str s)] H (λr H'=>r=.tup [.pv (.int .i64 (qK s).1),.pv (qK s).2]/\H'=H):=by
 intro I D w R Q K f_;obtain ⟨v,rfl⟩:∃v,R=#[v]:=by
  match R,K with
  |⟨[v]⟩,_=>exact⟨v,Z⟩
 have z:=(f_ 0 v _ Z Z).str_inv;subst z;have j:∀(g:String) (G:Nat),(G,GV.face)∈kh->P.globalNamed g=A G->∃t p,w.var? P g=A #[.iface t p]:=λg G A_ z_=>by
  have ⟨_,cs,t,f,l,q,p,v_⟩:=Q.glob _ A_;subst v_;exact⟨q,p,by simp only[World.var?,z_,Option.bind_some,l]⟩
 have m:∀(n:Int) (x:Value) (a:PV) (d:World),RowKit.Below w.heap.size w d->(∀I H,VRel d I D H x (.pv a))->∃r H' E o c,(Ending.returned (.tuple #[.int .i64 n,x]))=.returned c/\(r=.tup [.pv (.int .i64 n),.pv a]/\H'=H)/\VRel d E o H' c r/\Rel E o H' d/\Step I D H w E o H' d:=λn x a d u u_=>by
  have ⟨y_,W⟩:=Rel.below u Q;refine⟨_,_,I,D,_,Z,⟨Z,Z⟩,.tup Z λi v b y l=>?_,y_,W⟩
  match i,y,l with
  |0,y,l=>cases y;cases l;exact .pv (.int _ _)
  |1,y,l=>cases y;cases l;exact u_ _ _
  |i+2,y,l=>simp at y
 rw[qK];cases h:Lib.atoiAll (ν (μ s)) with
 | ok n =>
  refine(Any.strconv_Atoi_ok L s X n h w).mono ?_;rintro e d ⟨rfl,u4⟩;have u:RowKit.Below w.heap.size w d:=by
   rcases u4 with rfl|⟨t,rfl⟩
   .exact RowKit.Below.refl _ _
   exact Lib.bytesWorld_below w _ t
  exact m n .nilIface NJ d u (λ_ _=>.pv (.sat Z Z))
 |range =>
  have ⟨t,p,J⟩:=j _ G2 F e_;refine(Any.strconv_Atoi_range_var L s X h t p w J).mono ?_;rintro e d ⟨r4,rfl,_,_,u⟩;exact m _ _ Es d u (λ_ _=>.pv (.sat Z ⟨_,_,Z⟩))
 |_ =>
  have ⟨t,p,J⟩:=j _ G1 B k;refine(Any.strconv_Atoi_syntax_var L s X h t p w J).mono ?_;rintro e d ⟨r4,rfl,_,_,u⟩;exact m 0 _ Es d u (λ_ _=>.pv (.sat Z ⟨_,_,Z⟩))
theorem oh{P}{ρ}(L:Lays.n160 P ρ)(d:(P.info? (ρ.t 116)).map (λi=>(i.zero,i.size))=some (some (.agg (Array.replicate 256 (.bool false))),256))(s c)(o:s.size<=9223372036854775807)(g:c.size<4294967281)
  (p:∀(j:Nat) b,c.data.toList[j]?=A b->b.toNat<128) (H) :
  aU P (ρ.f 160) [.pv (.str s),.pv (.str c)] H (λr H'=>r=.pv (.str ⟨(Lib.trimS (ν (μ s)) (ν (μ c))).toArray⟩)/\H'=H):=by
 intro I q w h m f k;obtain ⟨v,u,rfl⟩:∃v u,h=#[v,u]:=by
  match h,f with
  |⟨[v,u]⟩,_=>exact⟨v,u,Z⟩
 have x:=(k 0 v _ Z Z).str_inv;have n:=(k 1 u _ Z Z).str_inv;subst x n;refine(Any.strings_Trim_laid L d s c w o g p).mono ?_;rintro e w' ⟨rfl,y⟩;have ⟨t,l⟩:=Rel.below y m;exact⟨_,_,I,q,_,Z,⟨Z,Z⟩,.pv (.str _),t,l⟩
end Go.Abs
section
namespace Go.Proofs
open Go.RowKit Go.Sort Go.Shelf
def aGx:Go.Shelf.Ren:=⟨λ|160=>74|232=>123|231=>122|227=>124|234=>126|233=>125|236=>128|235=>127|228=>176|271=>179|151=>178|197=>177|120=>232|152=>231|260=>230|137=>199|119=>267|224=>268|225=>269|217=>250|266=>279|n=>n,λ|9=>9|4=>4|3=>3|5=>5|117=>150|116=>149|0=>0|124=>153|21=>21|105=>202|46=>157|119=>223|139=>279|138=>278|n=>n,λ|3=>0|4=>1|n=>n⟩
theorem aHD:Go.Proofs.Lays.n160 φ aGx:={
  mixed:=by rfl
  f119:=Tryz.func267.trans C_
  f120:=Tryz.func232.trans C_
  f137:=Tryz.func199.trans C_
  f151:=Tryz.func178.trans C_
  f152:=Tryz.func231.trans C_
  f160:=Tryz.func74.trans C_
  f197:=Tryz.func177.trans C_
  f217:=Tryz.func250.trans C_
  f224:=Tryz.func268.trans C_
  f225:=Tryz.func269.trans C_
  f227:=Tryz.func124.trans C_
  f228:=Tryz.func176.trans C_
  f231:=Tryz.func122.trans C_
  f232:=Tryz.func123.trans C_
  f233:=Tryz.func125.trans C_
  f234:=Tryz.func126.trans C_
  f235:=Tryz.func127.trans C_
  f236:=Tryz.func128.trans C_
  f260:=Tryz.func230.trans C_
  f266:=Tryz.func279.trans C_
  f271:=Tryz.func179.trans C_
  t0:=D7
  a0:=Tryz.isAgg0
  z0:=Tryz.sizeOf0
  v0:=Tryz.zeroValue0
  t3:=Tryz.underlying3
  a3:=Tryz.isAgg3
  z3:=Tryz.sizeOf3
  v3:=sU
  t4:=fB
  a4:=nO
  z4:=Tryz.sizeOf4
  v4:=jC
  t5:=cZ
  a5:=vE
  z5:=cO
  v5:=sT
  t9:=Tryz.underlying9
  a9:=Tryz.isAgg9
  z9:=Tryz.sizeOf9
  v9:=gV
  t21:=Tryz.underlying21
  a21:=Tryz.isAgg21
  z21:=Tryz.sizeOf21
  v21:=Tryz.zeroValue21
  t46:=lK
  a46:=Tryz.isAgg157
  z46:=A9
  v46:=uA
  t105:=Tryz.underlying202
  a105:=Tryz.isAgg202
  z105:=Tryz.sizeOf202
  v105:=Tryz.zeroValue202
  t116:=Tryz.underlying149
  a116:=Tryz.isAgg149
  z116:=Tryz.sizeOf149
  t117:=Tryz.underlying150
  a117:=Tryz.isAgg150
  z117:=Tryz.sizeOf150
  v117:=Tryz.zeroValue150
  t119:=gP
  a119:=Tryz.isAgg223
  z119:=A8
  t124:=Tryz.underlying153
  a124:=Tryz.isAgg153
  z124:=Tryz.sizeOf153
  v124:=Tryz.zeroValue153
  t138:=Tryz.underlying278
  a138:=Tryz.isAgg278
  z138:=Tryz.sizeOf278
  v138:=Tryz.zeroValue278
  t139:=Tryz.underlying279
  a139:=Tryz.isAgg279
  z139:=Tryz.sizeOf279
  v139:=Tryz.zeroValue279
  g3:=by kernel_rfl
  g4:=by kernel_rfl}
end Go.Proofs
namespace Go.Proofs.C
open Go.Proofs.Tryz
open Go.Abs
abbrev Ap:B_:=⟨#[48,49,50,51,52,53,54,55,56,57,97,98,99,100,101,102]⟩
theorem aCI(b):Ap.data.toList.contains b=sS b:=by
 have h:∀n:Fin 256,Ap.data.toList.contains (UInt8.ofNat n.1)=sS (UInt8.ofNat n.1):=by decide +kernel
 have:=h ⟨b.toNat,b.toNat_lt⟩
 simpa using this
theorem A4{α:Type}(p):∀l:List α,l.dropWhile p=[]↔l.all p=T
 | []=>by simp
 |a::r=>by
  rw[List.dropWhile_cons,List.all_cons];cases h:p a with
  |true=>exact A4 p r
  |false=>simp_all
theorem IC{α:Type}{p q}:∀ {l:List α},(l.dropWhile p).all q=T->(∀a,p a=T->q a=T)->l.all q=T
 | [],_,_=>rfl
 | a::r,h,b=>by
  rw[List.dropWhile_cons]at h;cases c:p a with
  |true =>
   rw[c]at h;rw[List.all_cons,b a c];exact IC h b
  |false =>
   simp_all
theorem fe(l):Lib.trimS l (ν (μ Ap))=[]↔l.all sS=T:=by
 have e:=funext aCI;unfold Lib.trimS Lib.trimLeftS Lib.trimRightS;rw[e,A4];constructor
 .intro h;rw[all_reverse]at h;have c:=IC h (λa d=>d)
  rwa [all_reverse]at c
 intro h;have c:=(A4 _ _).2 (by rw[all_reverse];exact h);rw[c];rfl
theorem vt(s)(hs:s.size<2^40)(H):RC 74 [sv s,sv Ap] (sv ⟨(Lib.trimS s.data.toList Ap.data.toList).toArray⟩) H :=oh aHD (Z) s _ X E_ (ascii_of_all (Z)) H
theorem YE(s)(c:N s<2^40)(H):RC 30 [sv s] (bv (m6 s)) H:=by
 refine Pu ?_;have b:=λH=>vt s c H;have f:=fe (ν (μ s));generalize Lib.trimS (ν (μ s)) (ν (μ Ap))=t at b f;have B:m6 s=(θ ((N s:Int)=16)&&θ ((⟨t.toArray⟩)=a6)):=by
  rw[m6]
  grind
 refine Bd func30 Z ntmps30<|Sz aH<|S<|aT (t:=2) (n:=10) (A_:=m6 s) ?_ ?_
 .all_goals refine Y aA<|Y (gL U_)<|Y cF<|Dm ?_<;>(refine Sp 6 (λe=>?_) λe=>?_)<;>(first|refine M<|M<|M ?_|refine O aA<|O (bH Z Z call74 Z (b _))<|O wU ?_)<;>refine Y cD<|Da ?_<;>exact Gj (h:=by simp_all)
 exact aC<|Rt<|Qq
end Go.Proofs.C
end
namespace Go.Proofs.C
open Go.Proofs.Tryz
open Go.Abs
def oddJ(t:B_):Bool:=!m6 t
theorem Fw(l:List B_)(q):((List.range (C l)).any λk=>match l[k]? with|some s=>q s|none=>η)=l.any q:=by
 rw[Bool.eq_iff_iff,any_eq_true,any_eq_true];constructor
 .grind
 rintro⟨s,a,h⟩;have ⟨k,B⟩:=s8.1 a
 grind
theorem QZ(l:List _):l.any oddJ=!l.all m6:=by
 induction l with
 |nil=>rfl
 |cons a r b=>rw[any_cons,all_cons,b,oddJ,Bool.not_and]
end Go.Proofs.C
namespace Go.Abs
open Go.Proofs
section
section
variable{P:Program}{r4:Nat}{o:Oper}{E:dG}{H:aF}{t t':TypeId}{x:Operand}
theorem S7(e:o.op=.binOp .neq t x (.const .nilIface) t')(d:P.underlying t=A (.interface (P.methodsAt t)))(f:aQ E x=A (.pv NJ)):cP P r4 o E H (.pv (.bool η)) H :=.of_run λa w I ι _ b=>⟨.bool _,by
  have c:=(aJ b f).sat_inv;have g:a.eval (.const _)=.nilIface:=rfl;simp[execOp,e,c,g,eqGuard,Sem.run_bind,Sem.run_pure,Result.andThen_ok,run_neq_nil_nil _ _ d,Bool.or_true,if_true,Bool.not_true,Bool.false_eq_true,if_false],.pv (.bool _)⟩
theorem IT(e:o.op=.binOp .neq t x (.const .nilIface) t')(d:P.underlying t=A (.interface (P.methodsAt t)))(f:aQ E x=A (.pv Es)):cP P r4 o E H (.pv (.bool T)) H :=.of_run λa w I ι _ b=>⟨.bool _,by
  have ⟨q,p,c⟩:=(aJ b f).sat_inv;have g:a.eval (.const _)=.nilIface:=rfl;simp only[execOp,e,c,g,eqGuard,Sem.run_bind,Sem.run_pure,Result.andThen_ok,run_neq_held_nil _ _ _ _ d];rfl,.pv (.bool _)⟩
end
end
section
section
variable{P:Program}{r4:Nat}{o:Oper}{E:dG}{H:aF}{t t' it:TypeId}{x:Operand}
theorem VRel.ifc_inv{w}{I}{ι}{v}{p}(h:VRel w I ι H v (.pv (.ifc t p))):∃u,v=.iface t u/\PRep w I u p:=by
 cases h with
 |pv h=>cases h with
  |ifc _ u _ h=>simp_all
theorem VRel.ifa_inv{w}{I}{ι}{v}{ps}(h:VRel w I ι H v (.pv (.ifa t ps))):∃cs,v=.iface t (.agg cs)/\cs.size=C ps/\∀(k:Nat) (c) (p),cs[k]?=A c->ps[k]?=A p->PRep w I c p:=by
 cases h with
 |pv h=>cases h with
  |ifa _ cs _ B h=>grind
theorem gM{p}(b:o.op=.makeInterface t x)(e:P.concrete t=T)(c:aQ E x=A (.pv p)):cP P r4 o E H (.pv (.ifc t p)) H :=.of_run λa w I ι _ d=>⟨.iface t _,by simp[execOp,b,run_makeInterface _ _ _ e],.pv (.ifc _ _ _ (aJ d c).pv_inv)⟩
theorem K3{ps}(f:o.op=.makeInterface t x)(e:P.concrete t=T)(g:aQ E x=A (.agg (ps.map .pv))):cP P r4 o E H (.pv (.ifa t ps)) H :=.of_run λa w I ι _ i=>⟨.iface t (a.eval x),by simp[execOp,f,run_makeInterface _ _ _ e],by
  have h:=aJ i g;generalize a.eval x=c at h;cases h with
  | @agg vs _ hl h1 d =>
   refine .pv (.ifa _ _ _ F_ λk c p b B=>?_);exact(d k c (.pv p) b F_).pv_inv⟩
theorem pn{d}{u}(w)(B:P.underlying t=A d)(D:∀c,d≠.interface c):(Instr.typeAssert (.iface t' u) it t T).run P w=if t'=t then .ok (.tuple #[u,.bool T]) w else((do pure (.tuple #[<-zeroValue t,.bool η])):Sem _).run P w:=by
 unfold Instr.typeAssert;rw[Sem.run_bind,run_underlying B]
 simp_all
theorem F3(h:P.concrete t=T):∃d,P.underlying t=A d/\∀a,d≠.interface a:=by
 unfold Program.concrete at h;cases B:P.underlying t with
 |none=>simp_all
 |some d =>
  grind
theorem yH{p}(h:o.op=.typeAssert x it t T)(j:P.concrete t=T)(k:aQ E x=A (.pv (.ifc t p))):cP P r4 o E H (.tup [.pv p,.pv (.bool T)]) H:=by
 have ⟨d,m,b⟩:=F3 j;refine .of_run λa w I ι _ l=>?_;have ⟨u,f,g⟩:=(aJ l k).ifc_inv;refine⟨.tuple #[u,.bool T],?_,?_⟩
 .simp only[execOp,h,f];rw[Sem.run_bind,pn w m b,b6 rfl];rfl
 exact .tup Z (λi v a e c=>by
  match i with
  |0=>cases e;cases c;exact .pv g
  |1=>cases e;cases c;exact .pv (.bool _)
  |i+2=>simp at c)
theorem S6{ps:List PV}(B:o.op=.typeAssert x it t T)(z:P.concrete t=T)(y:aQ E x=A (.pv (.ifa t ps))):cP P r4 o E H (.tup [.agg (ps.map .pv),.pv (.bool T)]) H:=by
 have ⟨d,s,j⟩:=F3 z;refine .of_run λa w I ι _ D=>?_;have ⟨u,r,G,F⟩:=(aJ D y).ifa_inv;refine⟨.tuple #[.agg u,.bool T],?_,?_⟩
 .simp only[execOp,B,r];rw[Sem.run_bind,pn w s j,b6 rfl];rfl
 have n:∀(k:Nat) (c:Value),u[k]?=A c->∃p,ps[k]?=A p/\PRep w I c p:=λk c e=>by
  have f:k<C ps:=G_
  exact⟨ps[k],n_ f,F k c _ e (n_ f)⟩
 exact .tup Z (λi v a m h=>by
  match i with
  |0 =>
   cases m;cases h;refine .agg F_ (λk c e=>?_) (λk c b e q=>?_)
   .have ⟨p,_,g⟩:=n k c e;exact g.oneCell
   have ⟨p,l,g⟩:=n k c e;rw[r8,l]at q;cases q;exact .pv g
  |1=>cases m;cases h;exact .pv (.bool _)
  |i+2=>simp at h)
theorem aAL{cells}(l:o.op=.typeAssert x it t T)(h:P.concrete t=T)(j:eU P t cells)(b:t'≠t)
  (m:∀(a) (w) (I) (ι),lS w I ι H E a->∃u,a.eval x=.iface t' u):cP P r4 o E H (.tup [.any,.pv (.bool η)]) H:=by
 have ⟨d,p,e⟩:=F3 h;have ⟨z,v0,f,_,_⟩:=j;refine .of_run λa w I ι _ n=>?_;have ⟨u,k⟩:=m a w I _ n;refine⟨.tuple #[z,.bool η],?_,?_⟩
 .simp only[execOp,l,k];rw[Sem.run_bind,pn w p e,a8 b,Sem.run_bind,f w];rfl
 exact .tup Z (λi v a g c=>by
  match i with
  |0=>cases c;exact .any _
  |1=>cases g;cases c;exact .pv (.bool _)
  |i+2=>simp at c)
theorem nF{cells}{p}(f:o.op=.typeAssert x it t T)(c:P.concrete t=T)(d:eU P t cells)(B:Nat.beq t' t=η)(g:aQ E x=A (.pv (.ifc t' p))):cP P r4 o E H (.tup [.any,.pv (.bool η)]) H :=aAL f c d (λe=>by simp_all) (λa w I ι b=>let ⟨u,e,_⟩:=(aJ b g).ifc_inv;⟨u,e⟩)
theorem C7{cells}{ps}(f:o.op=.typeAssert x it t T)(c:P.concrete t=T)(d:eU P t cells)(B:Nat.beq t' t=η)(g:aQ E x=A (.pv (.ifa t' ps))):cP P r4 o E H (.tup [.any,.pv (.bool η)]) H :=aAL f c d (λe=>by simp_all) (λa w I ι b=>let ⟨u,e,_⟩:=(aJ b g).ifa_inv;⟨_,e⟩)
end
end
section
section
variable{P:Program}{r4:Nat}{o:Oper}{E:dG}{H:aF}{u4 T' t:TypeId}{x y:Operand}
theorem MZ{e f:TypeId}{ty:TypeId}{a:Array Value}(w:World)(d:P.underlying u4=A (.slice e))(c:P.underlying T'=A (.slice f)):(Builtin.append_ #[u4,T'] ty a).run P w=(Builtin.append_ #[u4,u4] ty a).run P w:=by
 unfold Builtin.append_;cases B:a[0]? with
 |none=>rfl
 | some s =>
  cases D:a[1]? with
  |none=>rfl
  |some u =>
   cases s<;>simp[Sem.run_bind,run_underlying d,run_underlying c]
theorem NE{e d}{v}{H2}(g:o.op=.call {callee:=.builtin .append,args:=#[x,y],argTypes:=#[u4,T']})(i:P.underlying u4=A (.slice e))(c:P.underlying T'=A (.slice d))
  (h:cP P r4 {o with op:=.call {callee:=.builtin .append,args:=#[x,y],argTypes:=#[u4,u4]}} E H v H2):cP P r4 o E H v H2:=by
 intro a w I ι j m k l K Q f;have b:=h a w I _ j m k l K Q f;unfold Oper.wpW execOp at b |-;simp[g,resolve,invoke,builtin,Sem.run_bind,Sem.run_pure,Result.andThen_ok,map_toArray,map_cons,map_nil,MZ w i c]at b |-;exact b
theorem WO{e z}{id g n m k sz bytes:Nat}{ob}{ps}{rows'}(q:o.op=.call {callee:=.builtin .append,args:=#[x,y],argTypes:=#[u4,T']})(i:P.underlying T'=A (.slice z))(B:fN P u4 e sz)(d:EI P e sz bytes)
  (j:aQ E x=A (.osl id g 0 n)) (u:H.get id=A ob) (w:ob.g=g) (c:ob.sz=sz) (f:ob.ty=e) (s:C ob.rows=n)
  (l:aQ E y=A (.pv (.sl ps))) (h:∀r∈ps,C r=sz) (p:C ps=m) (a:(n+m)*bytes<=140737488355328) (v:n+m=k) (b:ob.rows++ps.map (·.map AV.pv)=rows') :
  cP P r4 o E H (.osl id (g+1) 0 k) ((id,⟨g+1,sz,e,rows'⟩)::H) :=
 NE q B.1 i (bW Z B d j u w c f s l h p a v b)
end
end
end Go.Abs
namespace Go.Proofs.C
open Go.Proofs.Tryz
open Go.Abs
variable{l:List _}
inductive IV where
 |n (x:Int)
 |t (s:B_)
 |b (x:Bool)
 |l (ts:List B_)
 |z (i:Int) (a b:List B_)
 |p (ps:List (Int×Int))
def kN(q:Int×Int):List PV:=[.int .i64 q.1,.int .i64 q.2]
def yD(l:List (Int×Int)):PV:=.sl (l.map kN)
def aFu:IV->PV
 |.n x=>.ifc 3 (.int .i64 x)
 |.t s=>.ifc 9 (.str s)
 |.b x=>.ifc 4 (.bool x)
 |.l ts=>.ifc 22 (aK ts)
 |.z i a b=>.ifa 48 [.int .i64 i,aK a,aK b]
 |.p ps=>.ifc 49 (yD ps)
def A3(v:IV):List PV:=[aFu v]
def fI:IV->List B_
 |.n x=>[aV x]
 |.t s=>[s]
 |.b x=>[aV (if x then 1 else 0)]
 |.l ts=>aV (C ts:Int)::ts
 |.z i a b=>aV i::((aV (C a:Int)::a)++(aV (C b:Int)::b))
 |.p ps=>aV (C ps:Int)::ps.flatMap λq=>[aV q.1,aV q.2]
def gI:IV->Nat
 |.n _=>1
 |.t _=>1
 |.b _=>1
 |.l _=>2
 |.z _ _ _=>5
 |.p ps=>1+2*C ps
def Vg:IV->Nat
 |.n _=>0
 |.t _=>0
 |.b _=>1
 |.l _=>1
 |.z _ _ _=>2
 |.p _=>1
def qP(x:Int):Prop := -9223372036854775808<=x/\x<=9223372036854775807
def okI:IV->Prop
 |.n x=>qP x
 |.t _=>True
 |.b _=>True
 |.l ts=>C ts<2^40
 |.z i a b=>qP i/\C a<2^40/\C b<2^40
 |.p ps=>C ps<2^40/\∀q∈ps,qP q.1/\qP q.2
def zK(l:List IV):List B_:=l.flatMap fI
def zi(l:List IV):Nat:=(l.map gI).sum
theorem Pm{k}{v}(h:l[k]?=A v):zK (l.take (k+1))=zK (l.take k)++fI v:=by rw[take_add_one,h];simp[zK]
theorem Pe{k}{v}(h:l[k]?=A v):zi (l.take (k+1))=zi (l.take k)+gI v:=by rw[zi,take_add_one,h,map_append,sum_append];rfl
theorem aCS(l)(k):C (zK (l.take k))<=C (zK l):=by
 have h:zK l=zK (l.take k)++zK (l.drop k):=by rw[zK,zK,zK,<-flatMap_append,take_append_drop]
 rw[h,j8];omega
def fH(g:Nat)(L:List B_):aF:=[(971,⟨g,1,9,bZ L⟩),(970,bx 1 131 [.osl 971 g 0 (C L)])]
theorem Pn(g)(L)(s):fH (g+1) (L++[s])=[(971,⟨g+1,1,9,bZ (L++[s])⟩),(970,bx 1 131 [.osl 971 (g+1) 0 (C L+1)])]:=by simp[fH]
theorem dY{P:Program}{t}{d}(h:P.underlying t=A d)(B:(match d with|.interface _=>η|_=>T)=T):P.concrete t=T:=by
 unfold Program.concrete
 grind
theorem UJ(l:List _):∀r∈l.map A3,C r=1:=λr a=>by
 obtain ⟨t,_,rfl⟩:=mem_map.1 a;rfl
def Sj(r:Nat):Prop:=∀(l:List IV),(∀v∈l,Vg v<r/\okI v)->∀(g:Nat) (L:List B_),C l<2^40->C L+C (zK l)<2^40 ->
 aU φ 121 [.ref 970 0 0 0,.pv (.sl (l.map A3))] (fH g L) (λr H'=>r=.tup []/\H'=fH (g+zi l) (L++zK l))
def QF(ps:List (Int×Int)):List B_:=ps.flatMap λq=>[aV q.1,aV q.2]
theorem QE:∀ps,C (QF ps)=2*C ps
 | []=>rfl
 |q::r=>by
  have B:=QE r;rw[show QF _=aV _::aV _::QF r from Z,j6,j6,j6];omega
theorem Lo{ps:List _}{j}{q}(h:ps[j]?=A q):QF (ps.take (j+1))=QF (ps.take j)++zK [.n q.1,.n q.2]:=by rw[QF,take_add_one,h,flatMap_append];rfl
theorem mo{args}{g d}{L c}{H}(h:aU φ 121 args (fH g L) (λr H'=>r=.tup []/\H'=fH d c))(e:EX H (fH g L))(f:∀a∈args,Clo (fH g L) a):
  aU φ 121 args H (λr H'=>r=.tup []/\H'=fH d c++H):=aU.frame h (EX.sub e) (dN.ofL ⟨(aN _ _),w8,T_⟩) f (λid h=>.inl (ym h))
theorem eX(B b):bZ B++(b.map S_).map (·.map AV.pv)=bZ (B++b):=by rw[<-dA,bZ,bZ,bZ,map_append]
theorem Uc(a:List _):∀r∈a.map S_,C r=1:=λr b=>by
 obtain ⟨t,_,rfl⟩:=mem_map.1 b;rfl
theorem Yo(g)(D B):fH g (D++B)=[(971,⟨g,1,9,bZ (D++B)⟩),(970,bx 1 131 [.osl 971 g 0 (C D+C B)])]:=by simp[fH]
theorem Rr(r:Nat)(ih:∀q,q<r->Sj q):Sj r:=by
 intro l hl g L hll hLl;have hml:C (l.map A3)=C l:=g_ _;have w:∀(y:Int),qP y->1<r->∀(g':Nat) (f_:List B_),C f_+1<2^40->aU φ 121 [.ref 970 0 0 0,.pv (.sl [A3 (.n y)])] (fH g' f_) (λr H'=>r=.tup []/\H'=fH (g'+1) (f_++[aV y])):=λy u h1 g' f_ hs =>
  ih 1 h1 [.n y] (λv e=>by rw[q9]at e;subst e;exact⟨by simp[Vg],u⟩) g' f_ H_ hs
 refine Bd func121 Z ntmps121<|U aA<|Y (fM underlying200)<|V aA<|aE<|bF (σ:=Nat) (λk=>([(0,.ref 970 0 0 0),(14,.pv (.sl (l.map A3))),(15,iv (C (l.map A3):Int)),(16,iv (k:Int))],fH (g+zi (l.take k)) (L++zK (l.take k)))) (λk=>k<=C l) (λk=>C l - k) 0 (l7 _) ?_ ?_
 .simp only[zK,zi,take_zero,flatMap_nil,map_nil,sum_nil,Nat.add_zero,append_nil];exact L_
 intro k hk;refine Sz cI<|S<|Cn ?_ ?_<;>intro τ
 .have hlt:k<C l:=by have:=b9 τ;omega
  have ⟨v,e⟩:=aR hlt;have ⟨H,e_⟩:=hl v (m7 e);have E:=cC (f:=A3) e;have hfn:=Pm e;have hgn:=Pe e;have y_:=aCS l (k+1);rw[hfn]at y_;have ⟨J,hL1⟩:∃J,J=L++zK (l.take k):=X_;have ⟨d,hg1⟩:∃d,d=g+zi (l.take k):=X_;have D:L++zK (l.take (k+1))=J++fI v:=F_
  have i_:g+zi (l.take (k+1))=d+gI v:=X
  have c:C J+C (fI v)<2^40:=by
   grind
  have o:ξ.wrap ((k:Int)+1)=((k+1:Nat):Int):=by rw[lT X X];omega
  rw[<-hL1,<-hg1];clear hfn hgn y_;cases v with
  |n x =>
   have hx:qP x:=e_;have c:C J+1<2^40:=c;refine aB<|S<|aE<|U (bP Z zU Z Z X x7 E Z)<|Y (fS wE (hi:=E))<|V aH<|Sz aA<|aE<|U (yH Z (dY underlying3 Z) Z)<|Y dO<|V dO<|Cn ?_ ?_<;>intro hc2
   .refine Sz aH<|aM a7<|Cr [970] (λ_ _=>aA)<|Cr [970] (λ_ _=>aA)<|Cr [970] (λA_ I=>by exact cL Z Z ((I _ Z).trans Z) Z)<|Cr [970] (λ_ h=>lh isAgg131 h)<|x_ aA<|x_ (by exact bH Z Z mB Z (qB x hx.1 hx.2 _))<|x_ (by exact aL [[.str (aV x)]] Z R9 Z Z Z Z Z F_)<|Cp [971] (λA_ I=>by exact bW (ps:=[[.str (aV x)]]) Z R9 sW Z ((I _ Z).trans Z) Z Z Z (dI _) Z F_ (m:=1) Z X Z (gT J (aV x)))<|Cr [970] (λA_ I=>by exact cL Z Z ((I _ Z).trans Z) Z)<|Cp [970] (λ_ h=>sa sizeOf131 h) ?_;refine bG<|Kr<|Rd (ka o)<|V aA ?_;refine⟨k+1,X,X,?_⟩;dsimp only;rw[D,i_,show fI (.n x)=[aV x]from Z,show gI (.n x)=1 from Z,Pn];exact L_
   cases hc2
  |t s =>
   have c:C J+1<2^40:=c;refine aB<|S<|aE<|U (bP Z zU Z Z X x7 E Z)<|Y (fS wE (hi:=E))<|V aH<|Sz aA<|aE<|U (nF Z (dY underlying3 Z) zo3 Z Z)<|Y dO<|V dO<|Cn ?_ ?_<;>intro hc3
   .cases hc3
   refine U (yH Z (dY U_ Z) Z)<|Y dO<|V dO<|Cn ?_ ?_<;>intro hc4
   ·refine Sz aH<|Rd aA<|Y aA<|Y pA<|Y (bQ isAgg131)<|Y aA<|Y (by exact aL [[.str s]] Z R9 Z Z Z Z Z F_)<|Y (by exact bW (ps:=[[.str s]]) Z R9 sW Z Z Z Z Z (dI _) Z F_ (m:=1) Z X Z (gT J s))<|Y pA<|Uu (jG sizeOf131)<|Zz<|Rd (ka o)<|V aA ?_;refine⟨k+1,X,X,?_⟩;dsimp only;rw[D,i_,show fI (.t s)=[s]from Z,show gI (.t s)=1 from Z,Pn];exact(cH.wk (Ea<|Eb<|Eb<|Eb<|T_) (Hc (aN _ _)<|Ha<|T_) ⟨Z,Z,T_⟩)
   cases hc4
  |b x =>
   have B:1<r:=H;have c:C J+1<2^40:=c;refine aB<|S<|aE<|U (bP Z zU Z Z X x7 E Z)<|Y (fS wE (hi:=E))<|V aH<|Sz aA<|aE<|U (nF Z (dY underlying3 Z) zo3 Z Z)<|Y dO<|V dO<|Cn ?_ ?_<;>intro hc5
   .cases hc5
   refine U (nF Z (dY U_ Z) Th Z Z)<|Y dO<|V dO<|Cn ?_ ?_<;>intro hc6
   .cases hc6
   refine U (yH Z (dY fB Z) Z)<|Y dO<|V dO<|Cn ?_ ?_<;>intro hc7
   ·refine Sz aH<|Rd aA<|Y (by exact vU (id:=948) Qk Z Z)<|Uu (by exact zO (κ:=Qk) (.inr Z) underlying201 fB Z Z Z Z Z Z Z Z)<|Y aA<|Y aA<|Y (by exact IU (κ:=Qk) Z underlying201 fB Z Z Z Z Z sU (.inl Z))<|Y (by exact gM (p:=.int .i64 (if x then 1 else 0)) Z (dY underlying3 Z) (by cases x<;>rfl))<|Y (by exact aL [A3 (.n (if x then 1 else 0))] Z zU Z Z Z Z Z R_)<|V (by exact bH Z Z wG Z (mo (w (if x then 1 else 0) (by cases x<;>exact⟨E_,E_⟩) B d J c) ⟨Z,Z,T_⟩ m3))<|Rd (ka o)<|V aA ?_;refine⟨k+1,X,X,?_⟩;dsimp only;rw[D,i_,show fI (.b x)=[aV (if x then 1 else 0)]from Z,show gI (.b x)=1 from rfl];exact(cH.wk (Ea<|Eb<|Eb<|Eb<|T_) (Hc (aN _ _)<|Ha<|T_) ⟨Z,Z,T_⟩)
   cases hc7
  |l F =>
   have B:1<r:=H;have c:C J+(C F+1)<2^40:=c;have G:C (F.map S_)=C F:=g_ _;have ⟨y,u⟩:∃y,y=(C (F.map S_):Int):=X_;have r4:qP y:=⟨X,X⟩;have K:J++fI (.l F)=(J++[aV y])++F:=by rw[u,G,append_assoc];rfl
   have P:C (J++[aV y])=C J+1:=by rw[j8];rfl
   refine aB<|S<|aE<|U (kx zU E)<|Y (fS wE (hi:=E))<|V aH<|Sz aA<|aE<|U (nF Z (dY underlying3 Z) zo3 Z Z)<|Y dO<|V dO<|Cn ?_ ?_<;>intro hc8
   .cases hc8
   refine U (nF Z (dY U_ Z) Th Z Z)<|Y dO<|V dO<|Cn ?_ ?_<;>intro hc9
   .cases hc9
   refine U (nF Z (dY fB Z) zo4 Z Z)<|Y dO<|V dO<|Cn ?_ ?_<;>intro ρ
   .cases ρ
   refine U (yH Z (dY aD Z) Z)<|Y dO<|V dO<|Cn ?_ ?_<;>intro δ
   .refine Sz aH<|U aA<|Y aA<|Y (cP.eqJ (lH Z aY.1 Z) (congrArg (λn:Int=>AV.pv (.int .i64 n)) u.symm))<|Y (gM (p:=.int .i64 y) Z (dY underlying3 Z) Z)<|Y (aL [A3 (.n y)] Z zU Z Z Z Z Z R_)<|V (kc wG (mo (w y r4 B d J X) ⟨Z,Z,T_⟩ m3))<|Rd aA<|Y aA<|Y pA<|Y (bQ isAgg131)<|Y aA<|Y (by exact WO (ps:=F.map S_) Z aD R9 sW Z Z Z Z Z (dI _) Z (Uc F) (m:=C F) G (by rw[P];omega) Z (eX (J++[aV y]) F))<|Y pA<|Uu (jG sizeOf131)<|Zz<|Rd (ka o)<|V aA ?_;refine⟨k+1,X,X,?_⟩;dsimp only;rw[D,i_,K,show gI (.l F)=2 from Z,Yo (d+2) (J++[aV y]) F];exact L_
   cases δ
  | z i a b =>
   have h2r:2<r:=H;have ⟨hio,hao,hbo⟩:qP i/\C a<2^40/\C b<2^40:=e_;have e3:zK [.n i,.l a,.l b]=fI (.z i a b):=by simp[zK,fI]
   have h3:=ih 2 h2r [.n i,.l a,.l b] (by
    intro v e;simp only[l9,q8,or_false]at e;rcases e with rfl|rfl|rfl
    .exact⟨by simp[Vg],hio⟩
    .exact⟨by simp[Vg],hao⟩
    exact⟨by simp[Vg],hbo⟩) d J H_ (by rw[e3];exact c)
   rw[e3]at h3;refine aB<|S<|aE<|U (kx zU E)<|Y (fS wE (hi:=E))<|V aH<|Sz aA<|aE<|U (C7 Z (dY underlying3 Z) zo3 Z Z)<|Y dO<|V dO<|Cn ?_ ?_<;>intro γ
   .cases γ
   refine U (C7 Z (dY U_ Z) Th Z Z)<|Y dO<|V dO<|Cn ?_ ?_<;>intro R
   .cases R
   refine U (C7 Z (dY fB Z) zo4 Z Z)<|Y dO<|V dO<|Cn ?_ ?_<;>intro W
   .cases W
   refine U (C7 Z (dY aD Z) aDF Z Z)<|Y dO<|V dO<|Cn ?_ ?_<;>intro v_
   .cases v_
   refine U (S6 (ps:=[.int .i64 i,aK a,aK b]) Z (dY kG Z) Z)<|Y dO<|V dO<|Cn ?_ ?_<;>intro β
   .refine U (kl 10 eg)<|Uu (jG sizeOf48)<|Zz<|Rd aA<|Y (bC DR)<|Y (bQ M_)<|Y (gM (p:=.int .i64 i) Z (dY underlying3 Z) Z)<|Y (bC wQ)<|Y (bQ aG)<|Y (gM (p:=aK a) Z (dY aD Z) Z)<|Y (bC wP)<|Y (bQ aG)<|Y (gM (p:=aK b) Z (dY aD Z) Z)<|Y (by exact aL [A3 (.n i),A3 (.l a),A3 (.l b)] Z zU Z Z Z Z Z (by intro r hr;simp only[l9,q8,or_false]at hr;rcases hr with rfl|rfl|rfl<;>rfl))<|V (kc wG (mo h3 ⟨Z,Z,T_⟩ m3))<|Rd (ka o)<|V aA ?_;refine⟨k+1,X,X,?_⟩;dsimp only;rw[D,i_];exact L_
   cases β
  | p ps =>
   have B:1<r:=H;have ⟨hpl,hpo⟩:C ps<2^40/\∀q∈ps,qP q.1/\qP q.2:=e_;have hfp:∀j,QF (ps.take j)=(ps.take j).flatMap (λq=>[aV q.1,aV q.2]):=λ_=>rfl;have c:C J+(1+2*C ps)<2^40:=by
    have:C (fI (.p ps))=1+2*C ps:=by rw[show fI (.p ps)=aV (C ps:Int)::QF ps from Z,j6,QE];omega
    omega
   have G:C (ps.map kN)=C ps:=g_ _;have ⟨y,u⟩:∃y,y=(C (ps.map kN):Int):=X_;have r4:qP y:=⟨X,X⟩;have K:J++fI (.p ps)=(J++[aV y])++QF ps:=by rw[u,G,append_assoc];rfl
   refine aB<|S<|aE<|U (kx zU E)<|Y (fS wE (hi:=E))<|V aH<|Sz aA<|aE<|U (nF Z (dY underlying3 Z) zo3 Z Z)<|Y dO<|V dO<|Cn ?_ ?_<;>intro Q
   .cases Q
   refine U (nF Z (dY U_ Z) Th Z Z)<|Y dO<|V dO<|Cn ?_ ?_<;>intro z_
   .cases z_
   refine U (nF Z (dY fB Z) zo4 Z Z)<|Y dO<|V dO<|Cn ?_ ?_<;>intro u_
   .cases u_
   refine U (nF Z (dY aD Z) aDF Z Z)<|Y dO<|V dO<|Cn ?_ ?_<;>intro hc20
   .cases hc20
   refine U (nF Z (dY kG Z) eg Z Z)<|Y dO<|V dO<|Cn ?_ ?_<;>intro u4
   .cases u4
   refine U (yH Z (dY gH Z) Z)<|Y dO<|V dO<|Cn ?_ ?_<;>intro hc22
   .refine Sz aH<|U aA<|Y aA<|Y (cP.eqJ (lH Z VM.1 Z) (congrArg (λn:Int=>AV.pv (.int .i64 n)) u.symm))<|Y (gM (p:=.int .i64 y) Z (dY underlying3 Z) Z)<|Y (aL [A3 (.n y)] Z zU Z Z Z Z Z R_)<|V (kc wG (mo (w y r4 B d J X) ⟨Z,Z,T_⟩ m3))<|U aA<|Y (fM gH)<|V aA<|aE ?_;refine bF (σ:=Nat) (λj=>([(0,.ref 970 0 0 0),(14,.pv (.sl (l.map A3))),(15,iv (C (l.map A3):Int)),(16,iv (k:Int)),(95,.pv (yD ps)),(96,iv (C (ps.map kN):Int)),(97,iv (j:Int))],fH (d+1+2*j) ((J++[aV y])++QF (ps.take j)))) (λj=>j<=C ps) (λj=>C ps - j) 0 (l7 _) ?_ ?_
    .rw[show QF (ps.take 0)=[]from Z,append_nil];exact L_
    intro j hj;refine Sz cI<|S<|Cn ?_ ?_<;>intro c_
    .have hjl:j<C ps:=by have:=b9 c_;omega
     have ⟨q,hq⟩:=aR hjl;have hqi:=cC (f:=kN) hq;have ⟨hq1,hq2⟩:=hpo q (m7 hq);have hnx:=Lo hq;have hln:C (J++[aV y]++QF (ps.take j))=C J+1+2*j:=by rw[j8,j8,QE,m_];simp;omega
     have h2:=ih 1 B [.n q.1,.n q.2] (by
      intro v e;simp only[l9,q8,or_false]at e;rcases e with rfl|rfl
      .exact⟨by simp[Vg],hq1⟩
      exact⟨by simp[Vg],hq2⟩) (d+1+2*j) (J++[aV y]++QF (ps.take j)) H_ (by rw[hln];show C J+1+2*j+2<_;omega)
     refine aB<|S<|aE<|U (kx VM hqi)<|Y (by exact fF Z eL sizeOf104 Z hqi u0 Z)<|Y (kl 13 Hr)<|Uu (jG sizeOf104)<|Zz<|Rd aA<|Y (bC nA)<|Y (bQ M_)<|Y (gM (p:=.int .i64 q.1) Z (dY underlying3 Z) Z)<|Y (bC mZ)<|Y (bQ M_)<|Y (gM (p:=.int .i64 q.2) Z (dY underlying3 Z) Z)<|Y (by exact aL [A3 (.n q.1),A3 (.n q.2)] Z zU Z Z Z Z Z (by intro r hr;simp only[l9,q8,or_false]at hr;rcases hr with rfl|rfl<;>rfl))<|V (kc wG (mo h2 ⟨Z,Z,T_⟩ m3))<|Rd kp ?_;refine V aA ?_;refine⟨j+1,X,X,?_⟩;dsimp only;rw[hnx,<-append_assoc,show d+1+2*(j+1)=d+1+2*j+zi [.n q.1,.n q.2]from rfl];exact L_
    have hjg:j=C ps:=by have:=b_ c_;omega
    subst hjg;rw[take_length];refine aP<|Rd (ka o)<|V aA ?_;refine⟨k+1,X,X,?_⟩;dsimp only;rw[D,i_,K,show d+gI (.p ps)=d+1+2*C ps from(Nat.add_assoc _ _ _).symm];exact L_
   cases hc22
 have hge:k=C l:=by have:=b_ τ;omega
 subst hge;rw[take_length];refine aP ?_;exact pE (.inl Z) Z Fin.refl ⟨Z,Z⟩
theorem aCf(r):Sj r:=Nat.strongRecOn r (λr a=>Rr r a)
theorem aDd(v):Vg v<3:=by cases v<;>simp[Vg]
theorem uu(l)(b:∀v∈l,okI v)(g)(L)(a:C l<2^40)(d:C L+C (zK l)<2^40):
  aU φ 121 [.ref 970 0 0 0,.pv (.sl (l.map A3))] (fH g L) (λr H'=>r=.tup []/\H'=fH (g+zi l) (L++zK l)) :=
 aCf 3 l (λv c=>⟨aDd v,b v c⟩) g L a d
structure q6 where
 idx:Int
 sig:List B_
 path:List B_
 deriving DecidableEq
structure GPriv where
 name:B_
 reason:B_
 sources:List B_
 trace:List (Int×Int)
 sl:q6
 deriving DecidableEq
structure j_ where
 kind:Int
 author:Int
 number:Int
 clock:Int
 branch:B_
 parents:List B_
 edits:List b8
 target:B_
 yes:Bool
 order:Int
 from':B_
 sl:q6
 priv:GPriv
def lQ(s:q6):List PV:=[.int .i64 s.idx,aK s.sig,aK s.path]
def xR(p:GPriv):List PV:=[.str p.name,.str p.reason,aK p.sources,yD p.trace,.int .i64 p.sl.idx,aK p.sl.sig,aK p.sl.path]
def eA(r:j_):List PV:=[.int .i64 r.kind,.int .i64 r.author,.int .i64 r.number,.int .i64 r.clock,.str r.branch,aK r.parents,kP r.edits,.str r.target,.bool r.yes,.int .i64 r.order,.str r.from',.int .i64 r.sl.idx,aK r.sl.sig,aK r.sl.path,.str r.priv.name,.str r.priv.reason,aK r.priv.sources,yD r.priv.trace,.int .i64 r.priv.sl.idx,aK r.priv.sl.sig,aK r.priv.sl.path]
def rf(l:List B_):Prop:=C l<2^40/\∀t∈l,N t<2^40
def yJ(s:q6):Prop:=qP s.idx/\rf s.sig/\rf s.path
def re(p:GPriv):Prop:=N p.name<2^40/\N p.reason<2^40/\rf p.sources/\C p.trace<2^40/\yJ p.sl
def aBS(q:B_->Bool)(l:List B_)(k:Nat):Bool:=match l[k]? with|some s=>q s|none=>η
theorem Vt(q)(l):(List.range (C l)).any (aBS q l)=l.any q:=Fw l q
theorem DX(f)(l)(q)(B:C l<2^40)(d:∀s∈l,dQ φ (.pv (.fn f)) [sv s] [] (λr H'=>r=bv (q s)/\H'=[]))(H):
  RC 28 [.pv (aK l),.pv (.fn f)] (bv (l.any q)) H:=by
 refine Pu ?_;have c:=A5 _ l (aBS q l) _ X (λk s b=>by
  rw[aBS,b];exact d s (m7 b))
 rw[Vt]at c;exact c
theorem aCX(t)(b:N t<2^40)(H):RC 212 [sv t] (bv (oddJ t)) H:=by refine Pu ?_;exact Bd func212 Z ntmps212<|Sz aH<|U aA<|Y (bH Z Z call30 Z (YE t b _))<|Y iH<|V aH<|aC<|Rt<|Qq
theorem N3(l)(c:rf l)(H):RC 155 [.pv (aK l)] (bv (l.all m6)) H:=by
 refine Pu ?_;have b:=DX _ l _ c.1 (λs d=>dQ.fn call212 (aCX s (c.2 s d) _)) [];rw[QZ]at b;refine Bd func155 Z ntmps155<|Sz aH<|U aA<|Y (bH Z Z call28 Z (b))<|Y iH<|V aH<|aC<|Rt ?_
 simp_all
def BG(s:q6):Bool:=θ (s.idx=0)&&θ ((C (s.sig.map S_):Int)+(C (s.path.map S_):Int)=0)
theorem aAf(s:q6)(c:yJ s)(H:aF):RC 210 [av (lQ s)] (bv (BG s)) H:=by
 refine Pu ?_;have B:C (s.sig.map S_)<2^40:=by rw[g_];exact c.2.1.1
 have D:C (s.path.map S_)<2^40:=by rw[g_];exact c.2.2.1
 refine Bd func210 Z ntmps210<|U (kb 1)<|V aH<|S<|aT (t:=2) (n:=15) (A_:=BG s) ?_ ?_
 .all_goals refine Y (bC DR)<|Y (bQ M_)<|Y cF<|Dm ?_<;>(refine Sp 6 (λd=>?_) λd=>?_)<;>(first|refine M<|M<|M<|M<|M<|M<|M<|M ?_|refine O (bC wQ)<|O (bQ aG)<|O (fM aD)<|O (bC wP)<|O (bQ aG)<|O (fM aD)<|O (dD Z Z Z (lT X X))<|O cF ?_)<;>refine Y cD<|Da ?_<;>exact Gj (h:=by(rw[BG,d];rfl))
 exact aC<|Rt<|Qq
def lJ(s:q6):Bool:=BG s||(((((θ (0<=s.idx)&&θ (s.idx<256))&&θ ((C (s.sig.map S_):Int)=18))&&θ ((C (s.path.map S_):Int)<=8))&&s.sig.all m6)&&s.path.all m6)
theorem kr(s:q6)(i:yJ s)(H:aF):RC 151 [av (lQ s)] (bv (lJ s)) H:=by
 refine Pu ?_;have l:=λH=>aAf s i H;have j:=λH=>N3 s.sig i.2.1 H;have k:=λH=>N3 s.path i.2.2 H;have ⟨m,b⟩:∃m,m=BG s:=X_;rw[<-b]at l;refine Bd func151 Z ntmps151<|U (kb 1)<|V aH<|S<|aT (t:=2) (n:=41) (A_:=lJ s) ?_ ?_
 .all_goals refine Y (by exact aW Z hU sizeOf48 Z Z Z Z u0 Z) ?_
  all_goals refine Y (kc call210 (l _))<|Dm ?_<;>(refine Sp 5 (λe=>?_) λe=>?_)<;>(first|exact s_|refine M<|M<|M<|M ?_|refine O (bC DR)<|O (bQ M_)<|O AF<|O aA ?_)<;>(first|refine Sp 9 (λg=>?_) λg=>?_|refine kX (t:=9) Z ?_)<;>(first|exact s_|refine M ?_|refine Fu ?_|refine O (bC DR) ?_)<;>(first|refine M ?_|refine Fu ?_|refine O (bQ M_) ?_)<;>(first|refine M ?_|refine Fu ?_|refine O cI ?_)<;>(first|refine M<|M ?_|refine O cD<|O aA ?_)<;>(first|refine Sp 14 (λc=>?_) λc=>?_|refine kX (t:=14) Z ?_)<;>(first|exact s_|refine M ?_|refine Fu ?_|refine O (bC wQ) ?_)<;>(first|refine M ?_|refine Fu ?_|refine O (bQ aG) ?_)<;>(first|refine M ?_|refine Fu ?_|refine O (fM aD) ?_)<;>(first|refine M ?_|refine Fu ?_|refine O cF ?_)<;>(first|refine M<|M ?_|refine O cD<|O aA ?_)<;>(first|refine Sp 20 (λd=>?_) λd=>?_|refine kX (t:=20) Z ?_)<;>(first|exact s_|refine M ?_|refine Fu ?_|refine O (bC wP) ?_)<;>(first|refine M ?_|refine Fu ?_|refine O (bQ aG) ?_)<;>(first|refine M ?_|refine Fu ?_|refine O (fM aD) ?_)<;>(first|refine M ?_|refine Fu ?_|refine O H7 ?_)<;>(first|refine M<|M ?_|refine O cD<|O aA ?_)<;>(first|refine Sp 26 (λf=>?_) λf=>?_|refine kX (t:=26) Z ?_)<;>(first|exact s_|refine M ?_|refine Fu ?_|refine O (bC wQ) ?_)<;>(first|refine M ?_|refine Fu ?_|refine O (bQ aG) ?_)<;>(first|refine M ?_|refine Fu ?_|refine O (kc call155 (j _)) ?_)<;>(first|refine M<|M ?_|refine O cD<|O aA ?_)<;>(first|refine Sp 31 (λh=>?_) λh=>?_|refine kX (t:=31) Z ?_)<;>(first|exact s_|refine M ?_|refine Fu ?_|refine O (bC wP) ?_)<;>(first|refine M ?_|refine Fu ?_|refine O (bQ aG) ?_)<;>(first|refine M ?_|refine Fu ?_|refine O (kc call155 (k _)) ?_)<;>(first|refine M ?_|refine O cD ?_)<;>refine Y cD<|Da ?_<;>exact Gj (h:=by first|(rw[lJ,<-b,e];rfl)|(rw[lJ,<-b,e,g];rfl)|(rw[lJ,<-b,e,g,c];rfl)|(rw[lJ,<-b,e,g,c,d];rfl)|(rw[lJ,<-b,e,g,c,d,f];rfl)|(rw[lJ,<-b,e,g,c,d,f,h];rfl))
 exact aC<|Rt<|Qq
def uX(p:GPriv):Bool:=θ (p.name++p.reason=a6)&&θ ((C (p.sources.map S_):Int)+(C (p.trace.map kN):Int)=0)
theorem Yr(p:GPriv)(d:re p)(H:aF):RC 120 [av (xR p)] (bv (uX p)) H:=by
 refine Pu ?_;have ⟨B,D,e,E,F⟩:=d;have G:C (p.sources.map S_)<2^40:=by rw[g_];exact e.1
 have I:C (p.trace.map kN)<2^40:=F_
 refine Bd func120 Z ntmps120<|U (kb 1)<|V aH<|S<|aT (t:=2) (n:=18) (A_:=uX p) ?_ ?_
 .all_goals refine Y (bC JJ)<|Y (bQ N_)<|Y (bC JI)<|Y (bQ N_)<|Y kq<|Y wU<|Dm ?_<;>(refine Sp 9 (λc=>?_) λc=>?_)<;>(first|refine M<|M<|M<|M<|M<|M<|M<|M ?_|refine O (bC yV)<|O (bQ aG)<|O (fM aD)<|O (bC tV)<|O (bQ kI)<|O (fM gH)<|O (dD Z Z Z (lT X X))<|O cF ?_)<;>refine Y cD<|Da ?_<;>exact Gj (h:=by(rw[uX,c];rfl))
 exact aC<|Rt<|Qq
theorem RH(n a b)(H):RC 146 [iv n,iv a,iv b] (bv (θ (a<=n)&&θ (n<=b))) H:=by
 refine Pu<|Bd func146 Z ntmps146<|Sz aH<|S<|aT (t:=6) (n:=10) (A_:=θ (a<=n)&&θ (n<=b)) ?_ ?_
 .all_goals refine Y aA<|Y aA<|Y AF<|Dm ?_<;>(refine Sp 10 (λd=>?_) λd=>?_)<;>(first|refine M<|M<|M ?_|refine O aA<|O aA<|O H7 ?_)<;>refine Y cD<|Da ?_<;>(exact⟨⟨_,Z,G_⟩,Z,Z,Z⟩)
 exact aC<|Rt<|Qq
def LM(s:B_):Bool:=θ (200<(N s:Int))
theorem aBw(s)(H):RC 148 [sv s] (bv (LM s)) H:=by refine Pu ?_;exact Bd func148 Z ntmps148<|Sz aH<|U aA<|Y (gL U_)<|Y iX<|V aH<|aC<|Rt<|Qq
theorem wi(l)(c:C l<2^40)(H):RC 147 [.pv (aK l)] (bv (!l.any LM)) H:=by refine Pu ?_;have b:=DX _ l _ c (λs B=>dQ.fn call148 (aBw s _)) [];exact Bd func147 Z ntmps147<|Sz aH<|U aA<|Y (bH Z Z call28 Z (b))<|Y iH<|V aH<|aC<|Rt<|Qq
end Go.Proofs.C
namespace Go.Abs
section
section
variable{P:Program}{r4:Nat}{o:Oper}{E:dG}{H:aF}{f_ u4 t:TypeId}{x:Operand}{id g n m:Nat}{ob:Ob}
theorem IW(y:o.op=.convert f_ u4 x)(B:P.underlying f_=A .unsafePointer)(v:P.underlying u4=A (.pointer t))(hi:(P.info? t).map (·.size)=A (n+1))(q:P.cellsOf ob.ty=m+1)(k:aQ E x=A (.ref id g 0 0))(s:H.get id=A ob)(i:ob.g=g)(e:ob.rows≠[])(f:ob.sz=m+1)(J:∀c,liesAt P P.depth ob.ty (c+1) 0 t 1=T):cP P r4 o E H (.ref id g 0 0) H :=.of_run λa w I ι l z=>by
  have h:=aJ z k;have ⟨b,d,r,p,D,F⟩:=M0 l h s i e;have ⟨j,u,G⟩:=B6 hi;refine⟨_,?_,h⟩;simp only[execOp,y,r];have K:d*ob.sz / P.cellsOf ob.ty=(d - 1)+1:=by rw[q,f,Nat.mul_div_cancel _ X];omega
  rw[Sem.run_bind,Lib.run_from_unsafe w _ B v u p G_];rfl
end
end
end Go.Abs
namespace Go.Proofs.C
open Go.Proofs.Tryz
open Go.Abs
variable{s:B_}{i n:Nat}{r:List UInt8}
theorem aEY(c):liesAt φ φ.depth 297 (c+1) 0 161 1=T:=by kernel_rfl
def N9(B:AV)(u:Bool):Ob:=⟨0,2,297,[[mj u,B]]⟩
def qX(g:Nat)(l:List UInt8)(u:Bool):aF:=[(2001,N9 (.osl 2002 g 0 (C l)) u),(2002,⟨g,1,5,fV l⟩)]
theorem UW{H}{g n}{u}(e:(H.get 2001).isSome=T)(f:(H.get 2002).isSome=T):∀r∈(N9 (.osl 2002 g 0 n) u).rows,∀a∈r,Clo H a:=by
 intro r c a d;simp[N9,q9]at c;subst c;simp[l9,q8,or_false]at d;rcases d with rfl|rfl
 .cases u<;>simp[mj,e]
 simp[f]
theorem LZ(b:AV)(u:Bool)(K:aF):aU φ 191 [.ref 2001 0 0 0] ((2001,N9 b u)::K) (λr H'=>r=.tup []/\H'=(2001,N9 b T)::K):=by
 cases u with
 |false =>
  refine Bd func191 Z ntmps191<|U aA<|Y pA<|Y (bC AH)<|Y (bQ isAgg158)<|V (OO Z iF Z Z)<|Cn ?_ ?_<;>intro c
  ·refine Rd aA<|Y aA<|Y (by exact HU (n:=1) Z iF underlying247 x7 Z Z Z (by simp[N9]))<|Y (by exact QH Z Z func239 Z Z Z Z Z (ld (.ref 2001 0 0 0)))<|Y (by exact IW (n:=1) (m:=1) Z underlying247 iF x7 x7 Z Z Z (by simp[N9]) Z aEY)<|Y pA<|Y (bC AH)<|Uu (ku sizeOf158)<|Zz ?_;exact pE (.inl Z) Z (Fin.get' (H':=(2001,N9 b true)::K) (λj=>xO 2001 (N9 b true) (N9 b false) K j)) ⟨Z,Z⟩
  cases c
 |true =>
  refine Bd func191 Z ntmps191<|U aA<|Y pA<|Y (bC AH)<|Y (bQ isAgg158)<|V (by exact ON Z iF Z Z Z Z)<|Cn ?_ ?_<;>intro c
  .cases c
  refine U aA<|Y pA<|Y (bC AH)<|Y (bQ isAgg158)<|Y aA<|V (by exact KZ (n:=1) Z iF x7 Z Z Z Z)<|Cn ?_ ?_<;>intro d
  .cases d
  refine aB ?_;exact pE (.inl Z) Z Fin.refl ⟨Z,Z⟩
theorem mf(g)(l m){n}(h:C m=n):qX (g+1) (l++m) T=[(2001,N9 (.osl 2002 (g+1) 0 (C l+n)) T),(2002,⟨g+1,1,5,fV (l++m)⟩)]:=by subst h;simp[qX]
theorem ZG(g:Nat)(l:List UInt8)(u:Bool)(c:UInt8)(B:l.length<70368744177664):aU Tryz.prog 160 [.ref 2001 0 0 0,.pv (.int .u8 c.toNat)] (qX g l u) (λr H'=>r=.pv NJ/\H'=qX (g+1) (l++[c]) true):=by refine Bd func160 Z ntmps160<|Sz aH<|U aA<|V (kc call191 (LZ _ u _))<|U aA<|Y aA<|Y pA<|Y (bC iO)<|Y (bQ eK)<|Y aA<|Y (by exact aL [[.int .u8 c.toNat]] Z BM Z Z Z Z Z F_)<|Y (by exact bW (ps:=[[.int .u8 c.toNat]]) Z BM ei5 Z Z Z Z Z (sO l) Z F_ (m:=1) Z X Z (vB l [c]))<|Y pA<|Y (bC iO)<|Uu (ku qR)<|Zz<|Sz aH<|aC ?_;rw[mf g l [c] (n:=1) rfl];refine cT (.inr Z) Z (aI Z) (Fin.get' (λj=>LS E_ j)) ?_;exact Qq
theorem EU(g:Nat)(l:List UInt8)(u:Bool)(s:B_)(B:l.length+s.size<70368744177664):aU Tryz.prog 132 [.ref 2001 0 0 0,sv s] (qX g l u) (λr H'=>r=.tup [iv (s.size:Int),.pv NJ]/\H'=qX (g+1) (l++s.data.toList) true):=by refine Bd func132 Z ntmps132<|U aH<|V aH<|U aA<|V (kc call191 (LZ _ u _))<|U aA<|Y aA<|Y pA<|Y (bC iO)<|Y (bQ eK)<|Y aA<|Y (by exact xB Z BM U_ ei5 PO Z Z Z Z Z (sO l) Z X Z (vB l s.data.toList))<|Y pA<|Y (bC iO)<|Uu (ku qR)<|Zz<|U aA<|Y (gL U_)<|Y aH<|V aH<|aC ?_;rw[mf g l s.data.toList (n:=s.size) rfl];refine gD (.inr Z) Z (aI Z) (aI Z) (Fin.get' (λj=>LS E_ j)) ?_;exact Qq
def mi(g:Nat)(l:List UInt8)(u:Bool):aF:=[(2002,⟨g+1,1,5,[]⟩),(2001,N9 (.osl 2002 g 0 (C l)) u)]
theorem aAw(g:Nat)(l:List UInt8)(u:Bool)(B:C l<70368744177664):aU φ 133 [.ref 2001 0 0 0] (qX g l u) (λr H'=>r=sv ⟨l.toArray⟩/\H'=mi g l u):=by
 by_cases e:l=[]
 ·subst e;refine Bd func133 Z ntmps133<|Sz aH<|S<|aM a7<|Cq aA<|Cq pA<|Cq (bC iO)<|Cq (bQ eK)<|Cq (by exact FB Z zG Z Z Z)<|Cq aA<|Cq pA<|Cq (bC iO)<|Cq (bQ eK)<|Cq (by exact dR Z dM Z Z Z)<|Cq (by exact zZ Z Z Z)<|Cq aH<|bG<|Kr<|aC ?_;refine cT (H':=(mi g [] u)) (.inr Z) Z (aI Z) (Fin.trans (Fin.deadO (id:=2002) (k:=g+1) (ob:=⟨g,1,5,fV []⟩) Z (lt_succ_self g) Nat.zero_lt_one Z Z) (Fin.get' (λj=>QT E_ j))) ?_;exact Qq
 have c:0<C l:=length_pos_iff.2 e;refine Bd func133 Z ntmps133<|Sz aH<|S<|aM a7<|Cr [2001] (λ_ _=>aA)<|Cr [2001] (λd b=>by exact cL Z Z ((b _ Z).trans Z) Z)<|Cr [2001] (λ_ h=>fh iO h)<|Cr [2001] (λ_ h=>lh eK h)<|Cr [2002] (λd b=>by exact HW Z Z ((b _ Z).trans Z) Z c)<|Cr [2001] (λ_ _=>aA)<|Cr [2001] (λd b=>by exact cL Z Z ((b _ Z).trans Z) Z)<|Cr [2001] (λ_ h=>fh iO h)<|Cr [2001] (λ_ h=>lh eK h)<|Cr [2002] (λd b=>by exact dR Z dM Z ((b _ Z).trans Z) Z)<|Cp [2001,2002] (λd b=>by exact BW (l:=l) rfl zG x7 rfl rfl ((b _ rfl).trans rfl) rfl rfl rfl rfl rfl c X rfl)<|x_ aH<|bG<|Kr<|aC ?_;refine cT (H':=(mi g l u)) (.inr Z) Z (aI Z) (Fin.get' (λj=>QT E_ j)) ?_;exact Qq
theorem Nq(g)(l)(u):aU Tryz.prog 208 [.ref 2001 0 0 0] (qX g l u) (λr H'=>r=iv (l.length)/\H'=qX g l u):=by refine Bd func208 Z ntmps208<|Sz aH<|U aA<|Y pA<|Y (bC iO)<|Y (bQ eK)<|Y (by exact dR Z dM Z Z Z)<|V aH<|aC ?_;refine cT (.inr Z) Z (aI Z) Fin.refl Qq
def Lm(l:List UInt8)(s:B_):List UInt8:=if l=[]then ν (μ s) else l++32::ν (μ s)
theorem aDi(g:Nat)(l:List UInt8)(u:Bool)(s:B_)(D:C l+N s<70368744177663):aU φ 287 [.ref 2001 0 0 0,sv s] (qX g l u) (λr H'=>r=.tup []/\H'=qX (if l=[]then g+1 else g+2) (Lm l s) T):=by
 have f:=ZG g l u 32 X;have e:=Nq g l u;rw[Lm];by_cases d:l=[]
 .subst d;have c:=EU g [] u s X;rw[b6 Z,b6 rfl];rw[nil_append]at c;refine Bd func287 Z ntmps287<|S<|U aA<|Y pA<|Y (bC qC)<|Y (kc call208 (e))<|V iX<|Cn ?_ ?_<;>intro b
  .cases b
  refine aB<|Rd aA<|Y pA<|Y (bC qC)<|Y aA<|V (kc nM (c)) ?_;exact pE (H':=qX (g+1) (ν (μ s)) T) (.inl Z) Z Fin.refl ⟨Z,Z⟩
 have B:0<C l:=length_pos_iff.2 d;have c:=EU (g+1) (l++[32]) T s G_;rw[a8 d,a8 d];rw[append_assoc]at c;refine Bd func287 Z ntmps287<|S<|U aA<|Y pA<|Y (bC qC)<|Y (kc call208 (e))<|V iX<|Cn ?_ ?_<;>intro b
 .refine Rd aA<|Y pA<|Y (bC qC)<|V (kc nK (f))<|Rd aA<|Y pA<|Y (bC qC)<|Y aA<|V (kc nM (c)) ?_;exact pE (H':=qX (g+2) (l++32::ν (μ s)) T) (.inl Z) Z Fin.refl ⟨Z,Z⟩
 have:=b_ b;omega
theorem aAv{g}{l}{u}{K}:Sub (qX g l u) (qX g l u++K):=by intro j o h;rw[gN,h]
theorem aEZ{g c}{l b}{u u'}{id}(h:(aF.get (qX g l u) id).isSome=T):(aF.get (qX c b u') id).isSome=T:=ym h
theorem aE8{g a}{l b}{u u'}{K}(j):aF.get (qX g l u++(qX a b u'++K)) j=aF.get (qX g l u++K) j:=by exact(LS H_ j).symm
theorem Ll(K)(g)(l)(u)(s)(a:C l+N s<70368744177663):aU φ 287 [.ref 2001 0 0 0,sv s] (qX g l u++K) (λr H'=>r=.tup []/\H'=qX (if l=[]then g+1 else g+2) (Lm l s) T++K) :=(aU.frame (aDi g l u s a) aAv (dN.ofL ⟨(UW Z Z),(eT _ _),T_⟩) m3 (λid h=>.inl (aEZ h))).congrH λj=>(aE8 j).symm
theorem QO(K)(g)(l)(u):aU φ 208 [.ref 2001 0 0 0] (qX g l u++K) (λr H'=>r=iv (C l)/\H'=qX g l u++K) :=(aU.frame (Nq g l u) aAv (dN.ofL ⟨(UW Z Z),(eT _ _),T_⟩) m3 (λid h=>.inl h)).congrH λj=>(aE8 j).symm
def tQ(c:UInt8):Option UInt8:=if c=92 then A 92 else if c=34 then A 34 else if c=110 then A 10 else ζ
def oJ:List UInt8->Option (List UInt8×Nat)
 | []=>ζ
 | [c]=>if c=34 then A ([],1)else ζ
 |c::e::r=>if c=34 then A ([],1)else if c=10 then ζ else if c=92 then(tQ e).bind λb=>(oJ r).map λp=>(b::p.1,p.2+2)else(oJ (e::r)).map λp=>(c::p.1,p.2+1)
def A0(s:B_):B_×Int:=match oJ (s.data.toList.drop 1)with
 |some (d,n)=>(⟨d.toArray⟩,((n+1:Nat):Int))
 |none=>(a6,0)
theorem CQ{r}:oJ (34::r)=A ([],1):=by cases r<;>rfl
theorem MU{r}:oJ (10::r)=ζ:=by cases r<;>rfl
theorem vI{r}{e}:oJ (92::e::r)=(tQ e).bind λb=>(oJ r).map λp=>(b::p.1,p.2+2):=rfl
theorem CR{c}{r}(a:c≠34)(d:c≠10)(b:c≠92):oJ (c::r)=(oJ r).map λp=>(c::p.1,p.2+1):=by
 cases r with
 |nil =>
  show (if c=34 then A _ else ζ)=_;rw[a8 a];rfl
 |cons e r=>rw[oJ,a8 a,a8 d,a8 b]
def yA(o:Option (List UInt8×Nat))(w:List UInt8)(i:Nat):B_×Int:=match o with
 |some (d,n)=>(⟨(w++d).toArray⟩,((i+n:Nat):Int))
 |none=>(a6,0)
theorem BK{o}{w}{b}{i k}:yA (o.map λp=>(b::p.1,p.2+k)) w i=yA o (w++[b]) (i+k):=by
 cases o with
 |none=>rfl
 |some p=>simp[yA,Option.map_some,append_assoc,singleton_append];grind
theorem yW{s}{i}(h:i<N s):s.data.toList.drop i=pI s i::s.data.toList.drop (i+1):=by
 have a:i<C s.data.toList:=F_
 rw[drop_eq_getElem_cons a,pI,n_ _];rfl
theorem CC{i}(h:N s<=i):s.data.toList.drop i=[]:=drop_eq_nil_of_le F_
theorem CG{s}(a:n<256){b}(h:θ (aZ s i=n)=b):θ (pI s i=UInt8.ofNat n)=b:=by rw[<-h,tY,RK a]
theorem Io(c):(Lib.indexByte (⟨#[92,34,110]⟩:B_).data.toList ((c.toNat:Int).toNat.toUInt8) = -1/\tQ c=ζ)\/∃k:Nat,k<3/\Lib.indexByte (⟨#[92,34,110]⟩:B_).data.toList ((c.toNat:Int).toNat.toUInt8)=k/\tQ c=A (pI ⟨#[92,34,10]⟩ k):=by
 have j:((c.toNat:Int).toNat.toUInt8)=c:=H_
 rw[j];by_cases f:c=92
 .subst f;exact .inr ⟨0,E_,E_,E_⟩
 by_cases g:c=34
 .subst g;exact .inr ⟨1,E_,E_,E_⟩
 by_cases e:c=110
 .subst e;exact .inr ⟨2,E_,E_,E_⟩
 refine .inl ⟨?_,by rw[tQ,a8 f,a8 g,a8 e]⟩;have l:(92 == c)=η:=G_
 have i:(34 == c)=η:=G_
 have h:(110 == c)=η:=G_
 simp only[Lib.indexByte,l,i,h];rfl
theorem og(s:B_)(H:aF)(W:N s<2^40):RC 291 [sv s] (.tup [sv (A0 s).1,iv (A0 s).2]) H:=by
 refine Pu ?_;have K:A0 s=yA (oJ (s.data.toList.drop 1)) [] 1:=by
  unfold A0 yA
  grind
 generalize A0 s=c at K |-;refine Bd func291 Z ntmps291<|U aH<|V aH<|Sz (kl 2001 IF)<|S<|S ?_;refine fW.ent (E':=[(0,sv s),(4,.ref 2001 0 0 0)]) (H':=zB 0 [] η) (cH.bld0 ⟨⟨_,Z,.same H_⟩,⟨_,Z,.same m3⟩,T_⟩) ?_;refine Rg<|V aH<|aE<|Y6 (λ(i g:Nat) (w:List UInt8) (u:Bool)=>([(0,sv s),(4,.ref 2001 0 0 0),(5,iv (i:Int))],zB g w u)) (λi g w u=>C w<=i/\i<2199023255552/\c=yA (oJ (s.data.toList.drop i)) w i) (λi g w u=>N s+1 - i) 1 0 [] η ⟨l7 _,E_,K⟩ ?_ ?_
 .exact(cH.wk (Eb<|Ea<|Eb<|T_) (Hc (gO Z Z)<|Hc (eT _ _)<|T_) T_)
 rintro i g w u ⟨hwl,hib,b⟩;refine S<|U aA<|Y aA<|Y (gL U_)<|V cI<|Cn ?_ ?_<;>intro m
 .have B:i<N s:=I_ m
  have j:=yW B;refine aB<|S<|aE<|U aA<|Y aA<|Y (ky U_)<|V aH<|Sz aA<|aE<|U cF<|Da<|Cn ?_ ?_<;>intro Q
  .have f:pI s i=34:=b9 (CG (n:=34) E_ Q);have d:c=(⟨w.toArray⟩,((i+1:Nat):Int)):=by rw[b,j,f,CQ,yA,append_nil]
   rw[d];exact U (kc nL (RW g w u X))<|Y aA<|Y iD<|Y aH<|V aH<|aC<|Ru<|Qq
  have v:pI s i≠34:=b_ (CG (n:=34) E_ Q);refine U cF<|Da<|Cn ?_ ?_<;>intro t
  .have f:pI s i=10:=b9 (CG (n:=10) E_ t);have d:c=(a6,0):=by rw[b,j,f,MU,yA]
   rw[d];exact U aH<|V aH<|aC<|Ru<|Qq
  have p:pI s i≠10:=b_ (CG (n:=10) E_ t);refine U cF<|Da<|Cn ?_ ?_<;>intro k
  .have f:pI s i=92:=b9 (CG (n:=92) E_ k);refine U aA<|Y iD<|V aH<|Sz aH<|S<|U aA<|Y aA<|Y (gL U_)<|V cI<|Cn ?_ ?_<;>intro x
   .have o:i+1<N s:=I_ x
    have y:=yW o;rcases Io (pI s (i+1))with⟨I,E⟩|⟨q,L,I,E⟩
    .have d:c=(a6,0):=by rw[b,j,f,y,vI,E];rfl
     have J:Lib.indexByte (⟨#[92,34,110]⟩:B_).data.toList (aZ s (i+1)).toNat.toUInt8 = -1:=I;rw[d];refine Rd aA<|Y aA<|Y (ky U_)<|Y (kc call199 (sL _ _ _))<|V aH<|S<|U aA<|V cI<|Cn ?_ ?_<;>intro D
     .exact U aH<|V aH<|aC<|Ru<|Qq
     exact absurd (b_ D) F_
    have P:Lib.indexByte (⟨#[92,34,110]⟩:B_).data.toList (aZ s (i+1)).toNat.toUInt8=(q:Int):=I;have G:q<N (⟨#[92,34,10]⟩:B_):=L;refine Rd aA<|Y aA<|Y (ky U_)<|Y (kc call199 (sL _ _ _))<|V aH<|S<|U aA<|V cI<|Cn ?_ ?_<;>intro F
    .exact absurd (b9 F) G_
    refine aB<|Rd aA<|Y (cK Z U_ Z Z F_ F_ G Z)<|V (kc nK (kZ g w u (pI ⟨#[92,34,10]⟩ q) X))<|Rd aA<|Y iD<|Da ?_;refine⟨i+1+1,g+1,w++[pI ⟨#[92,34,10]⟩ q],T,⟨G_,X,?_⟩,X,(cH.wk (Eb<|Ea<|Eb<|T_) (Hc (gO Z Z)<|Hc (eT _ _)<|T_) T_)⟩;rw[b,j,f,y,vI,E];exact BK
   have e:N s<=i+1:=J_ x
   have d:c=(a6,0):=by rw[b,j,f,CC e];rfl
   rw[d];refine aB<|S<|U aA<|V cI<|Cn ?_ ?_<;>intro R
   .exact U aH<|V aH<|aC<|Ru<|Qq
   cases R
  have z:pI s i≠92:=b_ (CG (n:=92) E_ k);refine Rd aA<|V (kc nK (kZ g w u (pI s i) X))<|Rd aA<|Y iD<|Da ?_;refine⟨i+1,g+1,w++[pI s i],T,⟨by rw[j8,length_singleton];omega,X,?_⟩,X,(cH.wk (Eb<|Ea<|Eb<|T_) (Hc (gO Z Z)<|Hc (eT _ _)<|T_) T_)⟩;rw[b,j,CR v p z,BK]
 have e:N s<=i:=J_ m
 have d:c=(a6,0):=by rw[b,CC e];rfl
 rw[d];exact aP<|U aH<|V aH<|aC<|Ru<|Qq
def nH(s:B_)(i:Nat):Int:=if i<N s then yZ (aZ s i)else 0
def tS(s:B_):Ob:=bx 1 9 [sv s]
def tC:Ob:=bx 256 223 wR
def tA:Ob:=bx 1 299 [.clo 289 [.ref 921 0 0 0,.ref 923 0 0 0]]
theorem aCe(s:B_)(i:Nat)(H:aF)(f:H.get 921=A (tS s))(d:H.get 923=A tC)(hi:i<2^62)(B:N s<2^62):
  RC 289 [iv (i:Int),.ref 921 0 0 0,.ref 923 0 0 0] (.pv (.int .u8 (nH s i))) H:=by
 refine Bd func289 Z ntmps289<|Sz aH<|S<|U aA<|Y (aX Z N_ Z f Z Z Z)<|Y (gL U_)<|V AF<|Cn ?_ ?_<;>intro b
 .have e:nH s i=0:=by rw[nH,a8 (I_ b)]
  rw[e];refine Sz aH<|aC<|cT (H':=H) (.inr Z) Z (aI Z) Fin.refl Qq
 have c:i<N s:=J_ b
 have e:nH s i=yZ (aZ s i):=by rw[nH,b6 c]
 rw[e];refine aB<|U (aX Z N_ Z f Z Z Z)<|Y aA<|Y (ky U_)<|Y (eV (k2:=(aZ s i).toNat) Z gP cO Z d Z Z (N6 s i) Z (CE s i) X)<|Y (aX Z vE Z d Z Z (aA2 s i))<|V aH<|aC<|cT (H':=H) (.inr Z) Z (aI Z) Fin.refl Qq
theorem ff(s:B_)(H:aF)(d:H.get 921=ζ)(b:H.get 923=ζ)(c:H.get 924=ζ)(B:dN H):
  aU φ 254 [sv s] H (λr H'=>r=.clo 290 [.ref 921 0 0 0,.ref 924 0 0 0]/\H'=(924,tA)::(923,tC)::(921,tS s)::H):=by
 refine Bd func254 Z ntmps254<|U (tL (id:=921) Z Z Z Z d)<|V aH<|U (kc call211 (Y3 _))<|Y (CN (id:=923) Z uy Z b)<|Uu (mE Z A8 Z Z Z Z Z Z Z H_)<|Zz<|U (iC Z Z)<|Y (CN (id:=924) Z aDE Z c)<|Uu (jG sizeOf299)<|Zz<|U (iC Z Z)<|V aH<|aC ?_;refine cT (H':=((924,tA)::(923,tC)::(921,tS s)::H)) (.inr Z) Z (aI Z) (Fin.get' (λj=>by simp only[aF.get];cases Nat.beq 924 j<;>cases Nat.beq 923 j<;>rfl)) ?_;exact Qq
def zM(p:Nat->Bool):Nat->Nat->Nat
 |0,i=>i
 |n+1,i=>if p i then zM p n (i+1)else i
theorem GL(p):∀(n i),i<=zM p n i/\zM p n i<=i+n
 |0,i=>⟨h_ _,h_ _⟩
 |n+1,i=>by
  rw[zM]
  split
  .have:=GL p n (i+1);omega
  omega
theorem KF(p):∀(n i),∀j,i<=j->j<zM p n i->p j=T
 |0,i,j,b,a=>by rw[zM]at a;omega
 | n+1,i,j,b,a=>by
  rw[zM]at a
  split at a
  .by_cases e:j=i
   .simp_all
   exact KF p n _ j (by omega) a
  omega
theorem xV(p):∀(n i),zM p n i<i+n->p (zM p n i)=η
 |0,i,h=>by rw[zM]at h;omega
 |n+1,i,h=>by
  rw[zM]at h |-
  split at h
  .rename_i a;rw[b6 a];exact xV p n _ (by omega)
  simp_all
theorem zW(p){n i j}(d:i<=j)(B:j<=i+n)(c:∀k,i<=k->k<j->p k=T)(a:p j=η\/j=i+n):zM p n i=j:=by
 have ⟨b,l2⟩:=GL p n i;rcases Nat.lt_trichotomy (zM p n i) j with h|h|h
 .have:=xV p n i X;rw[c _ b h]at this;cases this
 ·exact h
 have:=KF p n i j d h;rcases a with a|a
 .rw[a]at this;cases this
 omega
def vT(s:B_)(j:Nat):Bool:=θ (j<N s)&&!θ (aZ s j=10)
def vS(s:B_)(j:Nat):Bool:=θ (nH s j=3)||θ (nH s j=4)||θ (nH s j=5)
def PB(s:B_)(j:Nat):Bool:=θ (nH s j=4)
def G4(s:B_)(i:Nat):Nat:=zM (vT s) (N s - i) i
def CO(s:B_)(i:Nat):Nat:=zM (vS s) (N s - i) i
def JN(s:B_)(i:Nat):Nat:=zM (PB s) (N s - i) i
structure b7 where
 kind:Int
 text:B_
 pos:Nat
 err:Int
def LX(f:b7):List PV:=[.int .i64 f.kind,.str f.text,.int .i64 f.pos,.int .i64 f.err]
def vW(i:Nat):b7:=⟨0,a6,i,3⟩
def AZ(s:B_)(i j:Nat):b7:=⟨1,s.extract i j,i,if 24<j - i then 2 else 0⟩
def H9(s:B_)(i j:Nat):b7:=⟨2,s.extract i j,i,if θ (7<j - i)||θ (nH s j=3)||θ (nH s j=5)then 4 else 0⟩
def FO(s:B_)(i:Nat):b7×Nat:=if 0<(A0 (s.extract i (N s))).2 then(⟨3,(A0 (s.extract i (N s))).1,i,0⟩,i+(A0 (s.extract i (N s))).2.toNat)else(vW i,i)
def fE(s:B_)(i:Nat):Option b7×Nat :=if nH s i=1 then(ζ,i+1)else if nH s i=2 then(ζ,G4 s i)else if nH s i=3 then(A (AZ s i (CO s i)),CO s i)
 else if nH s i=4 then(A (H9 s i (JN s i)),JN s i)else if nH s i=7 then(A (FO s i).1,(FO s i).2)
 else if nH s i=6 then(A ⟨4,s.extract i (i+1),i,0⟩,i+1)else(A (vW i),i)
def kM(s:B_):Nat->Nat->List b7
 |0,_=>[]
 |n+1,i=>if i<N s then(match fE s i with
  |(ζ,j)=>kM s n j
  |(A f,j)=>f::(if f.err=0 then kM s n j else[]))else[]
theorem RJ:∀(l) (p),oJ l=A p->p.2<=C l
 | [],p,h=>by cases h
 | [c],p,h=>by
  rw[oJ]at h
  grind
 | c :: e :: r, p, h => by
  rw[oJ]at h
  split at h
  ·grind
  split at h
  .cases h
  split at h
  .cases f:tQ e with
   |none=>simp_all
   | some b =>
    rw[f]at h;cases d:oJ r with
    |none=>simp_all
    |some q =>
     rw[d]at h;cases h;have:=RJ r q d;show q.2+2<=C r+1+1;omega
  cases d:oJ (e::r)with
  |none=>simp_all
  |some q =>
   rw[d]at h;cases h;have:=RJ _ q d
   simp_all
theorem ko(s):0<=(A0 s).2/\(A0 s).2<=N s:=by
 have B:C s.data.toList=N s:=rfl;unfold A0;cases b:oJ _ with
 |none=>exact⟨Int.le_refl _,Int.natCast_nonneg _⟩
 | some p =>
  have:=RJ _ p b;rw[p_]at this;refine⟨Int.natCast_nonneg _,?_⟩;show ((p.2+1):Int)<=_;have c:0<N s:=by
   cases c:ν (μ s) with
   |nil=>rw[c]at b;cases b
   |cons a l=>grind
  omega
theorem Y9(s)(i)(h:nH s i≠0):i<N s:=by
 by_cases e:i<N s
 .exact e
 exact absurd (a8 e) h
def tF(f:b7):Ob:=bx 4 266 ((LX f).map .pv)
theorem AO(H)(f):∀r∈(tF f).rows,∀a∈r,Clo H a:=by intro r b a c;simp[tF,bx,q9]at b;subst b;obtain ⟨p,_,rfl⟩:=mem_map.1 c;simp
instance(H)(f):W_ (H) ((tF f).rows):=⟨AO H f⟩
theorem TZ{α:Type}{l m:List α}{k}{d}(h:l.drop k=d::m):l[k]?=A d/\l.drop (k+1)=m:=by
 refine⟨?_,?_⟩
 .have:=congrArg (·[0]?) h
  simpa using this
 rw[<-drop_drop,h];rfl
theorem PY{j:Nat}{f:b7}(h:fE s i=(A f,j))(b:f.err=0)(hi:i<N s):i<j/\j<=N s:=by
 have a:∀(p),p i=T->i<zM p (N s - i) i/\zM p (N s - i) i<=N s:=λp d=>by
  have ⟨l1,l2⟩:=GL p (N s - i) i;refine⟨?_,X⟩;rcases Nat.lt_or_ge i _ with h|h
  .exact h
  have c:=xV p (N s - i) i X;rw[show zM p (N s - i) i=i by omega,d]at c;cases c
 unfold fE at h
 split at h
 .cases h
 split at h
 .cases h
 split at h
 .rename_i g;cases h;exact a _ (by rw[vS,g];rfl)
 split at h
 .rename_i e;cases h;exact a _ (by rw[PB,e];rfl)
 split at h
 .have hul:=ko (s.extract i (N s));have B:N (s.extract i (N s))<=N s - i:=F_
  unfold FO at h
  split at h
  .cases h;omega
  cases h;cases b
 split at h
 ·cases h;exact⟨lt_succ_self _,hi⟩
 cases h;cases b
theorem ltD(h:θ (i<(n:Int))=T):i<n:=I_ h
theorem MW(s:B_)(y:AV)(J:Nat->aF)(L:Nat->Bool)(m:Nat)(hs:N s<2^40)(G:∀k,(J k).get 921=A (tS s))(x:∀k,(J k).get 923=A tC)(u4:∀k,(J k).get 924=A tA)(h6:∀k,(J k).get 926=ζ)(y_:∀k,dN (J k))(hf:∀k,Clo (J k) y)
  (hm:m<=C (kM s (N s+1) 0)) (κ:∀k,k+1<m->L k=T) (f_:m=C (kM s (N s+1) 0)\/(0<m/\L (m - 1)=η))
  (hy:∀k d,(kM s (N s+1) 0)[k]?=A d->k<m->dQ φ y [.agg ((LX d).map .pv)] ((926,tF d)::J k) (λr H'=>r=bv (L k)/\H'=(926,tF d)::J (k+1))) :
  aU φ 290 [y,.ref 921 0 0 0,.ref 924 0 0 0] (J 0) (λr H'=>r=.tup []/\H'=J m):=by
 have ⟨ds,hds⟩:∃ds,ds=kM s (N s+1) 0:=X_;rw[<-hds]at hy hm f_;have D:∀(k i:Nat) (f:b7),i<=N s+1->dQ φ (.clo 289 [.ref 921 0 0 0,.ref 923 0 0 0]) [iv (i:Int)] ((926,tF f)::J k) (λr H'=>r=.pv (.int .u8 (nH s i))/\H'=(926,tF f)::J k):=λk i f hi =>
  dQ.clo call289 (aCe s i ((926,tF f)::J k) (G k) (x k) X X)
 have P:∀(G0:aF) (k i:Nat) (E:dG) (o:Ob),G0=J 0->E.get 0=A y->E.get 1=A (.ref 921 0 0 0)->E.get 2=A (.ref 924 0 0 0)->E.get 4=A (iv (i:Int)) ->
   cH G0 E ((926,o)::J k) [(0,y),(1,.ref 921 0 0 0),(2,.ref 924 0 0 0),(4,iv (i:Int))] (J k):=λG0 k i E o hG q0 A_ q2 q4=>by
  subst hG;exact cH.front (K:=J k) [(926,o)] [] ⟨⟨_,q0,Z⟩,hf k,⟨_,A_,Z⟩,(by rw[DY];simp_all),⟨_,q2,Z⟩,(by rw[DY];simp_all),⟨_,q4,Z⟩,H_,T_⟩ G_ H_ H_ (y_ k) G_
 refine Bd func290 Z ntmps290<|Fp<|Sz aH<|S<|Fq<|aE<|eZ (λ(i k:Nat)=>([(0,y),(1,.ref 921 0 0 0),(2,.ref 924 0 0 0),(4,iv (i:Int))],J k)) (λi k=>i<=s.size/\k<=m/\(k=0\/L (k - 1)=true)/\∃n,s.size - i<n/\ds.drop k=kM s n i) (λi k=>s.size - i) 0 0 ⟨l7 _,l7 _,.inl Z,s.size+1,Nat.lt_succ_self _,F_⟩ ?_ ?_
 .exact E0
 rintro i k ⟨hi,hkm,hkc,n,hn,hinv⟩;refine S<|U aA<|Y (aX Z N_ Z (G k) Z Z Z)<|Y (gL U_)<|V cI<|Cn ?_ ?_<;>intro δ
 .have hlt:i<N s:=I_ δ
  obtain ⟨n,rfl⟩:∃n',n=n'+1:=⟨n - 1,X⟩;rw[kM,b6 hlt]at hinv;refine aB<|aE<|U aA<|V aH<|U aA<|Y (oD IE)<|Y (oD aEk)<|Y (CN (id:=926) Z Hq Z (h6 k))<|Uu (jG sizeOf266)<|Zz<|eR (λ(a:b7×Nat)=>([(0,y),(1,.ref 921 0 0 0),(2,.ref 924 0 0 0),(4,iv (a.2:Int)),(6,.ref 926 0 0 0)],(926,tF a.1)::J k)) (λa=>fE s i=(A a.1,a.2)) ?_ ?_
  .refine S ?_;refine fW.ent (E':=[(0,y),(1,.ref 921 0 0 0),(2,.ref 924 0 0 0),(4,iv (i:Int)),(5,iv (i:Int)),(6,.ref 926 0 0 0)]) (H':=(926,tF (vW i))::J k) (cH.get' ⟨⟨_,Z,Z⟩,⟨_,Z,Z⟩,⟨_,Z,Z⟩,⟨_,Z,Z⟩,⟨_,Z,Z⟩,⟨_,Z,Z⟩,T_⟩ (λj=>xO 926 (tF (vW i)) _ (J k) j))<|Rd (aX Z isAgg299 Z (u4 k) Z Z Z)<|Y aA<|V (dK Z Z Z (D k i (vW i) X))<|aE<|U cF<|Da<|Cn ?_ ?_<;>intro β
   .have e1:nH s i=1:=b9 β;have I:fE s i=(ζ,i+1):=by rw[fE,b6 e1]
    rw[I]at hinv;refine U aA<|Y iD<|V aH<|aP ?_;exact⟨i+1,k,⟨X,hkm,hkc,n,X,hinv⟩,X,P _ _ _ _ _ Z Z Z Z Z⟩
   have n1:nH s i≠1:=b_ β;refine U cF<|Da<|Cn ?_ ?_<;>intro hc3
   .have e2:nH s i=2:=b9 hc3;have I:fE s i=(ζ,G4 s i):=by rw[fE,a8 n1,b6 e2]
    rw[I]at hinv;refine S<|aE<|bF (σ:=Nat) (λj=>([(0,y),(1,.ref 921 0 0 0),(2,.ref 924 0 0 0),(4,iv (j:Int))],(926,tF (vW i))::J k)) (λj=>i<=j/\j<=N s/\∀q,i<=q->q<j->vT s q=T) (λj=>N s - j) i ⟨h_ _,hi,λq G x=>by omega⟩ ?_ ?_
    .exact E0
    rintro j ⟨B,hj,hpre⟩;refine S<|S<|aT (t:=37) (n:=11) (A_:=vT s j) ?_ ?_
    .all_goals refine Y aA<|Y (aX Z N_ Z (G k) Z Z Z)<|Y (gL U_)<|Y cI<|Dm ?_<;>(refine Sp 32 (λh32=>?_) λh32=>?_)<;>(first|exact s_|refine M<|M<|M<|M ?_|refine O (aX Z N_ Z (G k) Z Z Z)<|O aA<|O (cK Z U_ Z Z X (l_ _) (ltD h32) Z)<|O xI ?_)<;>refine V cD ?_<;>exact Gj (h:=by first|(simp_all[vT];done)|(simp_all[vT];omega))
    refine Cn ?_ ?_<;>intro d_
    .have hjs:j<N s:=by
      have h:=d_;rw[vT,l6,k_]at h;exact h.1
     refine aB<|aE<|Rd aA<|Y iD<|Da ?_;exact⟨j+1,⟨X,X,λq A_ q2=>by
      by_cases e:q=j
      .subst e;exact d_
      exact hpre q A_ (by omega)⟩,by omega,E0⟩
    have z:G4 s i=j:=zW _ B X hpre (.inl d_);have hgt:i<j:=by
     rcases Nat.lt_or_ge i j with h|h
     .exact h
     have hji:j=i:=X
     subst hji;rw[vT,decide_eq_true hlt,Bool.true_and,Bool.not_eq_false',k_]at d_;rw[nH,b6 hlt,d_]at e2;exact absurd e2 E_
    rw[z]at hinv;refine aP<|aP ?_;exact⟨j,k,⟨hj,hkm,hkc,n,X,hinv⟩,X,P _ _ _ _ _ Z Z Z Z Z⟩
   have n2:nH s i≠2:=b_ hc3;refine U cF<|Da<|Cn ?_ ?_<;>intro hc5
   .have e3:nH s i=3:=b9 hc5;refine S<|U (aX Z isAgg299 Z (u4 k) Z Z Z)<|Y aA<|Y (dK Z Z Z (D k i (vW i) X))<|V aH<|aE<|bF (σ:=Nat) (λj=>([(0,y),(1,.ref 921 0 0 0),(2,.ref 924 0 0 0),(4,iv (j:Int)),(5,iv (i:Int)),(6,.ref 926 0 0 0),(7,.pv (.int .u8 (nH s j)))],(926,tF (vW i))::J k)) (λj=>i<=j/\j<=N s/\∀q,i<=q->q<j->vS s q=T) (λj=>N s - j) i ⟨h_ _,hi,λq G x=>by omega⟩ ?_ ?_
    .exact E0
    rintro j ⟨B,hj,hpre⟩;refine S<|S<|aT (t:=54) (n:=12) (A_:=vS s j) ?_ ?_
    .all_goals refine Y aA<|Y cF<|Dm ?_<;>(refine Sp 47 (λh47=>?_) λh47=>?_)<;>(first|exact s_|refine M<|M ?_|refine O aA<|O cF ?_)<;>refine Y cD<|Dm ?_<;>(refine Sp 51 (λh51=>?_) λh51=>?_)<;>(first|exact s_|refine M<|M ?_|refine O aA<|O cF ?_)<;>refine V cD ?_<;>exact Gj (h:=by(simp only[vS, *];rfl))
    refine Cn ?_ ?_<;>intro Q
    .have hjs:j<N s:=Y9 s j (λe=>by rw[vS,e]at Q;cases Q);refine aB<|S<|aE<|Rd aA<|Y iD<|V aH<|Rd (aX Z isAgg299 Z (u4 k) Z Z Z)<|Y aA<|Y (dK Z Z Z (D k (j+1) (vW i) X))<|Da ?_;exact⟨j+1,⟨X,X,λq A_ q2=>by
      by_cases e:q=j
      .subst e;exact Q
      exact hpre q A_ (by omega)⟩,by omega,E0⟩
    have z:CO s i=j:=zW _ B X hpre (.inl Q);have I:fE s i=(A (AZ s i j),j):=by rw[fE,a8 n1,a8 n2,b6 e3,z]
    refine aP<|S<|aM a7<|Cr [921] (λx hH=>by exact aX Z N_ Z ((hH _ Z).trans (G k)) Z Z Z)<|x_ aA<|x_ aA<|x_ (by exact bM (l:=i) (h:=j) Z U_ Z Z Z X X Z)<|Cr [926] (λ_ h=>fh pB h)<|Cr [926] (λ_ h=>fh vN h)<|Cp [926] (λ_ h=>su sizeOf3 h)<|Cr [926] (λ_ h=>fh pB h)<|Cr [926] (λ_ h=>fh iN h)<|Cp [926] (λ_ h=>su V_ h)<|Cr [926] (λ_ h=>fh tW h)<|Cp [926] (λ_ h=>su sizeOf25 h) ?_;refine bG<|Kr<|U aA<|Y aA<|Y (by exact dT Z Z Z (show ξ.wrap ((j:Int) - (i:Int))=((j - i:Nat):Int)by rw[IntKind.wrap_i64];omega))<|V iX ?_;refine Cn ?_ ?_<;>intro hc7
    .have z_:AZ s i j=⟨1,s.extract i j,i,2⟩:=by rw[AZ,b6 (I_ hc7)]
     rw[z_]at I;refine Rd (bC tW)<|Uu (ku sizeOf25)<|Zz ?_;exact⟨(⟨1,s.extract i j,i,2⟩,j),I,cH.get' ⟨⟨_,Z,Z⟩,⟨_,Z,Z⟩,⟨_,Z,Z⟩,⟨_,Z,Z⟩,⟨_,Z,Z⟩,T_⟩ (λq=>CA [_,_,_,_] H_ q)⟩
    have z_:AZ s i j=⟨1,s.extract i j,i,0⟩:=by rw[AZ,a8 (J_ hc7)]
    rw[z_]at I;refine aB ?_;exact⟨(⟨1,s.extract i j,i,0⟩,j),I,cH.get' ⟨⟨_,Z,Z⟩,⟨_,Z,Z⟩,⟨_,Z,Z⟩,⟨_,Z,Z⟩,⟨_,Z,Z⟩,T_⟩ (λq=>CA [_,_,_] H_ q)⟩
   have n3:nH s i≠3:=b_ hc5;refine U cF<|Da<|Cn ?_ ?_<;>intro hc8
   .have e4:nH s i=4:=b9 hc8;refine S<|aE<|bF (σ:=Nat) (λj=>([(0,y),(1,.ref 921 0 0 0),(2,.ref 924 0 0 0),(4,iv (j:Int)),(5,iv (i:Int)),(6,.ref 926 0 0 0)],(926,tF (vW i))::J k)) (λj=>i<=j/\j<=N s/\∀q,i<=q->q<j->PB s q=T) (λj=>N s - j) i ⟨h_ _,hi,λq G x=>by omega⟩ ?_ ?_
    .exact E0
    rintro j ⟨B,hj,hpre⟩;refine S<|U (aX Z isAgg299 Z (u4 k) Z Z Z)<|Y aA<|Y (dK Z Z Z (D k j (vW i) X))<|V cF<|Cn ?_ ?_<;>intro b
    .have hjs:j<N s:=Y9 s j (λe=>by rw[e]at b;cases b);refine aB<|aE<|Rd aA<|Y iD<|Da ?_;exact⟨j+1,⟨X,X,λq A_ q2=>by
      by_cases e:q=j
      .subst e;exact b
      exact hpre q A_ (by omega)⟩,by omega,E0⟩
    have z:JN s i=j:=zW _ B X hpre (.inl b);have I:fE s i=(A (H9 s i j),j):=by rw[fE,a8 n1,a8 n2,a8 n3,b6 e4,z]
    refine aP<|S<|aM a7<|Cr [921] (λx hH=>by exact aX Z N_ Z ((hH _ Z).trans (G k)) Z Z Z)<|x_ aA<|x_ aA<|x_ (by exact bM (l:=i) (h:=j) Z U_ Z Z Z X X Z)<|Cr [926] (λ_ h=>fh pB h)<|Cr [926] (λ_ h=>fh vN h)<|Cp [926] (λ_ h=>su sizeOf3 h)<|Cr [926] (λ_ h=>fh pB h)<|Cr [926] (λ_ h=>fh iN h)<|Cp [926] (λ_ h=>su V_ h)<|Cr [926] (λ_ h=>fh tW h)<|Cp [926] (λ_ h=>su sizeOf25 h) ?_;refine bG<|Kr<|S ?_;refine fW.ent (E':=[(0,y),(1,.ref 921 0 0 0),(2,.ref 924 0 0 0),(4,iv (j:Int)),(5,iv (i:Int)),(6,.ref 926 0 0 0)]) (H':=(926,tF ⟨2,s.extract i j,i,0⟩)::J k) (cH.get' ⟨⟨_,Z,Z⟩,⟨_,Z,Z⟩,⟨_,Z,Z⟩,⟨_,Z,Z⟩,⟨_,Z,Z⟩,⟨_,Z,Z⟩,T_⟩ (λq=>CA [_,_,_] H_ q)) ?_;have h7:θ (7<((j - i:Nat):Int))=θ (7<j - i):=by rw[Bool.eq_iff_iff,k_,k_];omega
    refine Rd (aX Z isAgg299 Z (u4 k) Z Z Z)<|Y aA<|Y (dK Z Z Z (D k j ⟨2,s.extract i j,i,0⟩ X))<|V aH<|S<|aT (t:=105) (n:=14) (A_:=θ (7<((j - i:Nat):Int))||θ (nH s j=3)||θ (nH s j=5)) ?_ ?_
    .all_goals refine Y aA<|Y aA<|Y (by exact dT Z Z Z (show ξ.wrap ((j:Int) - (i:Int))=((j - i:Nat):Int)by rw[IntKind.wrap_i64];omega))<|Y iX<|Dm ?_<;>(refine Sp 98 (λh98=>?_) λh98=>?_)<;>(first|exact s_|refine M<|M ?_|refine O aA<|O cF ?_)<;>refine Y cD<|Dm ?_<;>(refine Sp 102 (λh102=>?_) λh102=>?_)<;>(first|exact s_|refine M<|M ?_|refine O aA<|O cF ?_)<;>refine V cD ?_<;>exact Gj (h:=by first|(simp_all[vS];done)|(simp_all;omega))
    refine Cn ?_ ?_<;>intro u_
    .have z_:H9 s i j=⟨2,s.extract i j,i,4⟩:=by rw[H9,<-h7,u_];rfl
     rw[z_]at I;refine Rd (bC tW)<|Uu (ku sizeOf25)<|Zz ?_;exact⟨(⟨2,s.extract i j,i,4⟩,j),I,cH.get' ⟨⟨_,Z,Z⟩,⟨_,Z,Z⟩,⟨_,Z,Z⟩,⟨_,Z,Z⟩,⟨_,Z,Z⟩,T_⟩ (λq=>CA [_] H_ q)⟩
    have z_:H9 s i j=⟨2,s.extract i j,i,0⟩:=by rw[H9,<-h7,u_];rfl
    rw[z_]at I;refine aB ?_;exact⟨(⟨2,s.extract i j,i,0⟩,j),I,E0⟩
   have n4:nH s i≠4:=b_ hc8;refine U cF<|Da<|Cn ?_ ?_<;>intro R
   .have e7:nH s i=7:=b9 R;have I:fE s i=(A (FO s i).1,(FO s i).2):=by rw[fE,a8 n1,a8 n2,a8 n3,a8 n4,b6 e7]
    have hexs:N (s.extract i (N s))<=N s - i:=by rw[ByteArray.size_extract];omega
    have ρ:=λH=>og (s.extract i (N s)) H X;have hul:=ko (s.extract i (N s));have ⟨u,hu⟩:∃u,u=A0 (s.extract i (N s)):=X_;have τ:FO s i=if 0<u.2 then(⟨3,u.1,i,0⟩,i+u.2.toNat)else(vW i,i):=by rw[FO,<-hu]
    rw[<-hu]at ρ hul;have ⟨ut,un⟩:=u;simp only at ρ hul τ;refine U (aX Z N_ Z (G k) Z Z Z)<|Y aA<|Y (bM (l:=i) (h:=N s) Z U_ Z Z Z X X Z)<|Y (kc call291 (ρ _))<|Y aA<|Y dO<|Y dO<|Y aH<|V aH<|S<|U aA<|V iX<|Cn ?_ ?_<;>intro v
    .rw[τ,b6 (b9 v)]at I;refine Rd aA<|Y (bC pB)<|Y (bC vN)<|Uu (ku sizeOf3)<|Y (bC pB)<|Y (bC iN)<|Uu (ku V_)<|Y (bC tW)<|Uu (ku sizeOf25)<|Zz<|Rd aA<|Y aA<|Y (by exact dD Z Z Z (show ξ.wrap ((i:Int)+un)=((i+un.toNat:Nat):Int)by rw[IntKind.wrap_i64];omega))<|Da ?_;exact⟨(⟨3,ut,i,0⟩,i+un.toNat),I,cH.get' ⟨⟨_,Z,Z⟩,⟨_,Z,Z⟩,⟨_,Z,Z⟩,⟨_,Z,Z⟩,⟨_,Z,Z⟩,T_⟩ (λq=>CA [_,_,_] H_ q)⟩
    have hu0:=b_ v;rw[τ,a8 hu0]at I;have e0:i+un.toNat=i:=X
    refine aB<|Rd aA<|Y aA<|Y (by exact dD Z Z Z (show ξ.wrap ((i:Int)+un)=((i+un.toNat:Nat):Int)by rw[IntKind.wrap_i64];omega))<|Da ?_;rw[e0];exact⟨(vW i,i),I,E0⟩
   have n7:nH s i≠7:=b_ R;refine U cF<|Da<|Cn ?_ ?_<;>intro w
   .have e6:nH s i=6:=b9 w;have I:fE s i=(A ⟨4,s.extract i (i+1),i,0⟩,i+1):=by rw[fE,a8 n1,a8 n2,a8 n3,a8 n4,a8 n7,b6 e6]
    refine U aA<|Y iD<|V aH<|aM a7<|Cr [921] (λx hH=>by exact aX Z N_ Z ((hH _ Z).trans (G k)) Z Z Z)<|x_ aA<|x_ aA<|x_ (by exact bM (l:=i) (h:=(i+1)) Z U_ Z Z Z X X Z)<|Cr [926] (λ_ h=>fh pB h)<|Cr [926] (λ_ h=>fh vN h)<|Cp [926] (λ_ h=>su sizeOf3 h)<|Cr [926] (λ_ h=>fh pB h)<|Cr [926] (λ_ h=>fh iN h)<|Cp [926] (λ_ h=>su V_ h)<|Cr [926] (λ_ h=>fh tW h)<|Cp [926] (λ_ h=>su sizeOf25 h) ?_;refine bG<|Kr ?_;exact⟨(⟨4,s.extract i (i+1),i,0⟩,i+1),I,cH.get' ⟨⟨_,Z,Z⟩,⟨_,Z,Z⟩,⟨_,Z,Z⟩,⟨_,Z,Z⟩,⟨_,Z,Z⟩,T_⟩ (λq=>CA [_,_,_] H_ q)⟩
   have n6:nH s i≠6:=b_ w;have I:fE s i=(A (vW i),i):=by rw[fE,a8 n1,a8 n2,a8 n3,a8 n4,a8 n7,a8 n6]
   refine aB ?_;exact⟨(vW i,i),I,E0⟩
  rintro⟨f,j⟩ I;rw[I]at hinv;simp only at hinv I;have ⟨hk1,g⟩:=TZ hinv;have hkl:=(m9.1 hk1).1;have v_:k<m:=by
   rcases Nat.lt_or_ge k m with h|h
   .exact h
   have hkem:k=m:=Nat.le_antisymm hkm h;subst hkem;rcases f_ with h|⟨h,h'⟩
   .omega
   rcases hkc with x|x
   .omega
   rw[x]at h';cases h'
  have F:C ds=k+1\/L k=η->k+1=m:=λh=>by
   rcases h with h|h
   .omega
   rcases Nat.lt_or_ge (k+1) m with u4|u4
   .rw[κ k u4]at h;cases h
   omega
  have p:=hy k f hk1 v_;cases c:L k with
  |false =>
   have i_:=F (.inr c);rw[c]at p;refine U aA<|Y (wY isAgg266 sizeOf266)<|Y (dK Z Z Z (p))<|Y iH<|Y aA<|M<|M<|M<|V cD<|Cn ?_ ?_<;>intro γ
   .refine aC ?_;rw[<-i_];exact pE (H':=J (k+1)) (.inr Z) Z (Fin.pops' [(926,tF f)] H_ (y_ _) (by simp[h6]) (by simp[h6])) ⟨Z,Z⟩
   cases γ
  | true =>
   rw[c]at p;refine U aA<|Y (wY isAgg266 sizeOf266)<|Y (dK Z Z Z (p))<|Y iH<|Y aA<|O (bC tW)<|O (bQ nJ)<|O xI<|V cD<|Cn ?_ ?_<;>intro W
   .have hne:f.err≠0:=by
     have h:=W
     simpa using h
    rw[a8 hne]at g;have i_:=F (.inl (by have:=drop_eq_nil_iff.1 g;omega));refine aC ?_;rw[<-i_];exact pE (H':=J (k+1)) (.inr Z) Z (Fin.pops' [(926,tF f)] H_ (y_ _) (by simp[h6]) (by simp[h6])) ⟨Z,Z⟩
   have he0:f.err=0:=by
    have h:=W
    simpa using h
   have ⟨g1,g2⟩:=PY I he0 hlt;rw[b6 he0]at g;refine aB ?_;exact⟨j,k+1,⟨g2,v_,.inr c,n,X,g⟩,X,P _ _ _ _ _ Z Z Z Z Z⟩
 have hge:N s<=i:=J_ δ
 have hnil:kM s n i=[]:=by
  cases n with
  |zero=>rfl
  |succ n=>rw[kM,a8 X]
 rw[hnil]at hinv;have hkd:=drop_eq_nil_iff.1 hinv;have i_:k=m:=X
 refine aP ?_;rw[<-i_];exact pE (H':=J k) (.inl Z) Z Fin.refl ⟨Z,Z⟩
def K_(f:b7):List PV:=[.int .i64 f.kind,.str f.text,.int .i64 f.pos]
def CY(l:List b7):PV:=.sl (l.map K_)
def lX(l:List b7):List (List AV):=l.map λf=>(K_ f).map AV.pv
theorem yB(l):C (lX l)=C l:=g_ _
theorem CT(l)(f):lX l++[(K_ f).map AV.pv]=lX (l++[f]):=by rw[lX,lX,map_append];rfl
theorem cW(H)(l):∀r∈lX l,∀a∈r,Clo H a:=by intro r c a b;obtain ⟨d,_,rfl⟩:=mem_map.1 c;obtain ⟨p,_,rfl⟩:=mem_map.1 b;simp
instance(H)(l):W_ (H) (lX l):=⟨cW H l⟩
theorem tB{H}(e:(H.get 921).isSome=T)(f:(H.get 923).isSome=T):∀r∈tA.rows,∀a∈r,Clo H a:=by intro r c a d;simp[tA,bx,q9]at c;subst c;rw[q9]at d;subst d;simp[e,f]
theorem sZ(H)(s):∀r∈(tS s).rows,∀a∈r,Clo H a:=by intro r c a b;simp[tS,bx,q9]at c;subst c;rw[q9]at b;subst b;simp
instance(H)(s):W_ (H) ((tS s).rows):=⟨sZ H s⟩
def kT:List b7->List b7->List b7×Int×Int
 |acc,[]=>(acc,0,0)
 |acc,f::r=>if f.err≠0 then([],f.err,f.pos)else if C acc=5000 then([],2,f.pos)else kT (acc++[f]) r
def fO(s:B_):List b7×Int×Int:=if 20000<N s then([],2,-1)else kT [] (kM s (N s+1) 0)
def tN(ds:List b7)(k:Nat):Bool:=match ds[k]? with
 |some f=>θ (f.err=0)&&!θ (k=5000)
 |none=>T
theorem NN{b}:∀ {k},k<=C b->(∀j,j<k->tN b j=T)->kT [] b=kT (b.take k) (b.drop k)
 |0,_,_=>rfl
 |k+1,c,h=>by
  rw[NN (Nat.le_of_succ_le c) (λj D=>h j (by omega))];have d:=drop_eq_getElem_cons c;have a:=h k (lt_succ_self k);rw[tN,n_ c]at a;simp[l6,k_,r9,q7]at a;have B:C (b.take k)=k:=G_
  rw[d,kT,a8 (λh=>h a.1),a8 X,take_add_one,n_ _];rfl
theorem BL(s):∀(n i),C (kM s n i)<=n
 |0,_=>l7 _
 | n+1,i=>by
  rw[kM]
  split
  .split
   .exact Nat.le_succ_of_le (BL s n _)
   split
   .exact Nat.succ_le_succ (BL s n _)
   simp_all
  simp_all
def kL(s:B_)(L:List b7)(a:AV)(e p:Int):aF:=[(905,⟨C L,3,189,lX L⟩),(5,bx 1 185 [.osl 905 (C L) 0 (C L)]),(924,tA),(923,tC),(921,tS s),(4,bx 1 3 [iv p]),(3,bx 1 25 [iv e]),(2,bx 1 185 [a])]
theorem Oc(s)(L)(f)(a)(e p):kL s (L++[f]) a e p=[(905,⟨C L+1,3,189,lX (L++[f])⟩),(5,bx 1 185 [.osl 905 (C L+1) 0 (C L+1)]),(924,tA),(923,tC),(921,tS s),(4,bx 1 3 [iv p]),(3,bx 1 25 [iv e]),(2,bx 1 185 [a])]:=by simp[kL]
def vX:dG:=[(2,.ref 2 0 0 0),(3,.ref 3 0 0 0),(4,.ref 4 0 0 0),(5,.ref 5 0 0 0)]
theorem K8{a}{k}{f}(h:a[k]?=A f):tN a k=(θ (f.err=0)&&!θ (k=5000)):=by rw[tN,h]
theorem l5{p:Prop}(h:p:=by simp[vX];exact⟨Z,Z,Z,Z⟩):p:=h
theorem aAV(s:B_)(H:aF)(n:N s<2^40):RC 203 [sv s] (.tup [.pv (CY (fO s).1),iv (fO s).2.1,iv (fO s).2.2]) H:=by
 refine Pu<|Bd func203 Z ntmps203<|U (kl 2 aAB)<|Y (kl 3 aAe)<|V (kl 4 zo3)<|S<|U aA<|Y (gL U_)<|V iX<|Cn ?_ ?_<;>intro L
 .have e:fO s=([],2,-1):=by rw[fO,b6 (I_ L)]
  rw[e];refine Sr<|Uu (jG oH)<|Uu (jG sizeOf25)<|Uu (jG sizeOf3)<|Zz<|aC<|mK (H':=[]) (.inr Z) Z (iR Z nP Z Z Z Z) (iR Z nJ Z Z Z Z) (iR Z M_ Z Z Z Z) P_ Qq
 have f_:¬ 20000<N s:=by have:=b_ L;omega
 have ⟨ds,E⟩:∃ds,ds=kM s (N s+1) 0:=X_;have y_:fO s=kT [] ds:=by rw[fO,a8 f_,E]
 refine aB<|Sz (kl 5 Hm)<|S<|U aA<|V (kc call254 (ff s _ Z Z Z (dN.ofL ⟨F_,F_,F_,F_,T_⟩)))<|aE ?_;refine fW.ent (E':=[(2,.ref 2 0 0 0),(3,.ref 3 0 0 0),(4,.ref 4 0 0 0),(5,.ref 5 0 0 0),(11,.clo 290 [.ref 921 0 0 0,.ref 924 0 0 0])]) (H':=[(905,⟨0,3,189,[]⟩),(5,bx 1 185 [.osl 905 0 0 0]),(924,tA),(923,tC),(921,tS s),(4,bx 1 3 [iv 0]),(3,bx 1 25 [iv 0]),(2,bx 1 185 [.pv (.sl [])])]) ?_ ?_
 .exact (Q_ 905 3 189)
 have z:C ds<=N s+1:=by rw[E];exact BL s _ _
 have ⟨j,hj⟩:∃j,j=zM (tN ds) (C ds) 0:=X_;have b:j<=C ds:=by have:=(GL (tN ds) (C ds) 0).2;omega
 have I:∀k,k<j->tN ds k=T:=λk g=>KF (tN ds) (C ds) 0 k (l7 _) X;have A_:j<C ds->tN ds j=η:=λh=>by have:=xV (tN ds) (C ds) 0 X;rwa [<-hj]at this
 have t:=NN b I;refine CH (id:=904) (p:=12) vX Z call290 Z Z l5 ?_;intro x c l u_ v_ W R;have G:∀(k:Nat) (d:b7),ds[k]?=A d->k<=j ->
   dQ φ (.yld 904 0) [.agg ((LX d).map .pv)] ((904,LR x vX)::(926,tF d)::kL s (ds.take k) (.pv (.sl [])) 0 0) (λr H'=>r=bv (tN ds k)/\H'=(if tN ds k then(904,LR x vX)::(926,tF d)::kL s (ds.take (k+1)) (.pv (.sl [])) 0 0 else(904,LR (left x .ret) vX)::(926,tF d)::kL s (ds.take k) (.pv (.sl [])) (if d.err≠0 then d.err else 2) d.pos)):=by
  intro k d u D;have B:=K8 u;have τ:k<C ds:=(m9.1 u).1;have σ:C (ds.take k)=k:=by rw[m_];omega
  have i:ds.take (k+1)=ds.take k++[d]:=by rw[List.take_add_one,u];rfl
  refine .inl ⟨904,0,Z,?_⟩;refine MS [(2,.ref 2 0 0 0),(3,.ref 3 0 0 0),(4,.ref 4 0 0 0),(5,.ref 5 0 0 0),(6,.ref 907 0 0 0)] ((907,tF d)::(926,tF d)::kL s (ds.take k) (.pv (.sl [])) 0 0) c l u_ v_ W R Z Z Z ?_ ?_
  .refine Rd (kl 907 Hq)<|Uu (jG sizeOf266)<|Zz ?_;exact(cH.wk (Ea<|Ea<|Ea<|Ea<|Ea<|T_) (Hc (oI l5)<|Hc (AO _ _)<|Hc (AO _ _)<|Hc (cW _ _)<|Ha<|Hc (tB Z Z)<|Hc (kO _)<|Hc (sZ _ _)<|Hb<|Hb<|Hb<|T_) ⟨Z,Z,Z,Z,Z,Z,Z,Z,Z,Z,T_⟩)
  refine aE<|S<|aE<|U (bC tW)<|Y (bQ nJ)<|Y xI<|Da<|Cn ?_ ?_<;>intro y
  .have v:d.err≠0:=by have h:=y;rw[r9,q7]at h;exact h
   have K:tN ds k=η:=by rw[B,decide_eq_false v];rfl
   rw[K,a8 E_,b6 v];refine S<|aM a7<|Cr [907] (λ_ h=>fh tW h)<|Cr [907] (λ_ h=>lh nJ h)<|Cr [907] (λ_ h=>fh pB h)<|Cr [907] (λ_ h=>fh QV h)<|Cr [907] (λ_ h=>lh M_ h)<|Cp [2] (λ_ h=>sa oH h)<|Cp [3] (λ_ h=>sa sizeOf25 h)<|Cp [4] (λ_ h=>sa sizeOf3 h)<|bG<|Kr<|aC ?_;exact⟨(926,tF d)::kL s (ds.take k) (.pv (.sl [])) d.err d.pos,(cH.wk T_ (Hc (oI l5)<|Hc (AO _ _)<|Hc (cW _ _)<|Ha<|Hc (tB Z Z)<|Hc (kO _)<|Hc (sZ _ _)<|Hb<|Hb<|Hb<|T_) ⟨Z,Z,Z,Z,Z,Z,Z,Z,Z,Z,T_⟩),Z,Z⟩
  have v:d.err=0:=by have h:=y;rw[Bool.not_eq_false',k_]at h;exact h
  refine U (bQ nP)<|Y (by exact dR Z cU Z Z Z)<|Y cF<|Da<|Cn ?_ ?_<;>intro a
  .have w:k=5000:=by have:=b9 a;omega
   have K:tN ds k=η:=by rw[B,decide_eq_true v,decide_eq_true w];rfl
   rw[K,a8 E_,a8 (λh=>h v)];refine S<|aM a7<|Cr [907] (λ_ h=>fh pB h)<|Cr [907] (λ_ h=>fh QV h)<|Cr [907] (λ_ h=>lh M_ h)<|Cp [2] (λ_ h=>sa oH h)<|Cp [3] (λ_ h=>sa sizeOf25 h)<|Cp [4] (λ_ h=>sa sizeOf3 h)<|bG<|Kr<|aC ?_;exact⟨(926,tF d)::kL s (ds.take k) (.pv (.sl [])) 2 d.pos,(cH.wk T_ (Hc (oI l5)<|Hc (AO _ _)<|Hc (cW _ _)<|Ha<|Hc (tB Z Z)<|Hc (kO _)<|Hc (sZ _ _)<|Hb<|Hb<|Hb<|T_) ⟨Z,Z,Z,Z,Z,Z,Z,Z,Z,Z,T_⟩),Z,Z⟩
  have w:¬ k=5000:=by have:=b_ a;omega
  have K:tN ds k=T:=by rw[B,decide_eq_true v,decide_eq_false w];rfl
  rw[K,b6 Z,i,Oc];refine aB<|Rd (bQ nP)<|Y (bC pB)<|Y (wY jB sizeOf189)<|Y (by exact aL [K_ d] Z iI Z Z Z Z Z R_)<|Y (by exact bW (ps:=[K_ d]) Z iI zq Z Z Z Z Z (yB _) Z R_ (m:=1) Z X Z (CT (ds.take k) d))<|Uu (jG oH)<|Zz ?_;exact⟨(926,tF d)::[(905,⟨(ds.take k).length+1,3,189,lX (ds.take k++[d])⟩),(5,bx 1 185 [.osl 905 ((ds.take k).length+1) 0 ((ds.take k).length+1)]),(924,tA),(923,tC),(921,tS s),(4,bx 1 3 [iv 0]),(3,bx 1 25 [iv 0]),(2,bx 1 185 [.pv (.sl [])])],(cH.wk T_ (Hc (oI l5)<|Hc (AO _ _)<|Hc (cW _ _)<|Ha<|Hc (tB Z Z)<|Hc (kO _)<|Hc (sZ _ _)<|Hb<|Hb<|Hb<|T_) ⟨Z,Z,Z,Z,Z,Z,Z,Z,Z,Z,T_⟩),Z,Z⟩
 rcases Nat.lt_or_ge j (C ds) with q|hge
 .have ⟨f,hf⟩:=aR q;have F:=A_ q;have Q:ds.drop j=f::ds.drop (j+1):=by
   rw[drop_eq_getElem_cons q];rw[n_ q]at hf;cases hf;rfl
  have o:fO s=([],(if f.err≠0 then f.err else 2),(f.pos:Int)):=by
   rw[y_,t,Q,kT]
   split
   .rfl
   rename_i v;have u4:f.err=0:=by
    by_cases h:f.err=0
    .exact h
    exact absurd h v
   rw[K8 hf,decide_eq_true u4,Bool.true_and,Bool.not_eq_false',k_]at F;rw[b6 (by rw[m_];omega)]
  rw[o];refine(MW s (.yld 904 0) (λk=>if k<=j then(904,LR x vX)::kL s (ds.take k) (.pv (.sl [])) 0 0 else(904,LR (left x .ret) vX)::kL s (ds.take j) (.pv (.sl [])) (if f.err≠0 then f.err else 2) f.pos) (tN ds) (j+1) n (λk=>?_) (λk=>?_) (λk=>?_) (λk=>?_) (λk=>?_) (λk=>?_) (by rw[<-E];exact q) (λk g=>I k X) (.inr ⟨succ_pos _,by rw[Nat.add_sub_cancel];exact F⟩) ?_).mono ?_
  .split<;>rfl
  .split<;>rfl
  .split<;>rfl
  .split<;>rfl
  .split
   .exact(dN.ofL ⟨(by exact oI l5),(cW _ _),w8,(tB Z Z),(kO _),(sZ _ _),m5,m5,m5,T_⟩)
   exact(dN.ofL ⟨(by exact oI l5),(cW _ _),w8,(tB Z Z),(kO _),(sZ _ _),m5,m5,m5,T_⟩)
  .split<;>(simp;rfl)
  .rw[<-E];intro k d u g;have J:=G k d u X;rw[b6 X];by_cases D:k=j
   .subst D;rw[hf]at u;cases u;rw[F,a8 E_]at J;rw[a8 X,F];exact dQ.congrG J (λj=>nG E_ j) (λj=>nG E_ j)
   have B:=I k X;rw[B,b6 rfl]at J;rw[b6 X,B];exact dQ.congrG J (λj=>nG E_ j) (λj=>nG E_ j)
  rintro r H' ⟨rfl,rfl⟩;rw[a8 X];refine⟨left x .ret,_,Z,by simp[left],Z,λz=>?_⟩;show OG _ _ _ _ _ _ _;refine mK (H':=[]) (.inr Z) Z (iR Z nP Z Z Z Z) (iR Z nJ Z Z Z Z) (iR Z M_ Z Z Z Z) P_ Qq
 have P:j=C ds:=Nat.le_antisymm b hge;rw[P,take_length,drop_length]at t;rw[y_,t,kT];refine(MW s (.yld 904 0) (λk=>(904,LR x vX)::kL s (ds.take k) (.pv (.sl [])) 0 0) (tN ds) (C ds) n (λk=>rfl) (λk=>rfl) (λk=>rfl) (λk=>rfl) (λk=>(dN.ofL ⟨(by exact oI l5),(cW _ _),w8,(tB Z Z),(kO _),(sZ _ _),m5,m5,m5,T_⟩)) (λk=>by simp;rfl) (by rw[<-E];exact h_ _) (λk g=>I k X) (.inl (by rw[<-E])) ?_).mono ?_
 .rw[<-E];intro k d u g;have J:=G k d u X;have B:=I k X;rw[B,b6 rfl]at J;rw[B];exact dQ.congrG J (λj=>nG E_ j) (λj=>nG E_ j)
 rintro r H' ⟨rfl,rfl⟩;rw[take_length];refine⟨x,_,Z,by rw[c];decide,Z,λz=>?_⟩;rw[l];refine U (bQ nP)<|Uu (jG oH)<|Uu (jG sizeOf25)<|Uu (jG sizeOf3)<|Zz<|aC ?_;refine mK (H':=[]) (.inr Z) Z (iR Z nP Z Z Z Z) (iR Z nJ Z Z Z Z) (iR Z M_ Z Z Z Z) (Fin.fz (r':=.tup [.pv (CY ds),iv 0,iv 0]) (id:=905) (ob:=⟨C ds,3,189,lX ds⟩) (ds.map K_) Z (by rw[map_map];rfl) (.tup Z (bA (.osl (qs:=ds.map K_) (by rw[r7,drop_zero];exact take_of_length_le (Nat.le_of_eq (g_ K_)))) (bA (.same H_) (bA (.same H_) jA)))) Z T_ T_) ?_;exact Qq
def EW:List b7->Option (List m8)
 | []=>A []
 |a::_::c::r=>(EW r).map λl=>⟨a.text,c.text⟩::l
 |_=>ζ
def W0(l:List b7)(k:Nat):m8:=⟨((l[3*k]?).map b7.text).getD a6,((l[3*k+2]?).map b7.text).getD a6⟩
def fQ(l:List b7)(k:Nat):List m8:=(List.range k).map (W0 l)
theorem FZ(l)(k):fQ l (k+1)=fQ l k++[W0 l k]:=by rw[fQ,range_succ,map_append];rfl
theorem IA(l)(k):C (fQ l k)=k:=by rw[fQ,g_,length_range]
def sY(l:List m8):List (List AV):=l.map λt=>(bU t).map AV.pv
theorem IJ(l):C (sY l)=C l:=g_ _
theorem IK(l)(t):sY l++[(bU t).map AV.pv]=sY (l++[t]):=by rw[sY,sY,map_append];rfl
theorem lE(H)(l):∀r∈sY l,∀a∈r,Clo H a:=by intro r c a b;obtain ⟨d,_,rfl⟩:=mem_map.1 c;obtain ⟨p,_,rfl⟩:=mem_map.1 b;simp
instance(H)(l):W_ (H) (sY l):=⟨lE H l⟩
theorem I9:∀(r acc),C (kT acc r).1<=C acc+C r
 | [],acc=>h_ _
 |f::r,acc=>by
  rw[kT]
  split
  .simp_all
  split
  .simp_all
  have:=I9 r (acc++[f]);rw[j8,length_singleton]at this;rw[j6];omega
theorem xK(s)(h:N s<2^40):C (fO s).1<549755813888:=by
 unfold fO
 split
 .decide
 have a:=I9 (kM s (N s+1) 0) [];have B:=BL s (N s+1) 0;rw[length_nil]at a;omega
theorem aS(s:B_):C s.data.toList=N s:=rfl
theorem mR{a b:B_}(h:ν (μ a)=ν (μ b)):a=b:=by cases a with|mk a=>simp_all
theorem gG(s:B_)(i j):(s.extract i j).data.toList=(s.data.toList.drop i).take (j - i):=H_
theorem qL{s}{i}{c}{r}(h:s.data.toList.drop i=c::r):i<N s/\aZ s i=(c.toNat)/\s.data.toList.drop (i+1)=r:=by have ⟨a,b⟩:=TZ h;refine⟨by rw[<-aS];grind,by rw[aZ,a];rfl,b⟩
theorem JR{s}{i}{c}{r}(h:s.data.toList.drop i=c::r):nH s i=yZ (c.toNat):=by have ⟨a,b,_⟩:=qL h;rw[nH,b6 a,b]
theorem Ah{s}{i}(h:s.data.toList.drop i=[]):nH s i=0:=by have:=drop_eq_nil_iff.1 h;rw[aS]at this;rw[nH,a8 X]
theorem fP{i}{w r}(h:s.data.toList.drop i=w++r):s.data.toList.drop (i+C w)=r:=by rw[<-drop_drop,h,drop_left]
theorem zu{k:Nat}{w r}{c:UInt8}(h:s.data.toList.drop i=w++r)(b:w[k]?=A c):s.data.toList.drop (i+k)=c::((w.drop (k+1))++r):=by
 have a:=(m9.1 b).1;have e:w=w.take k++c::w.drop (k+1):=by
  conv=>lhs;rw[<-take_append_drop k w]
  rw[drop_eq_getElem_cons a,(m9.1 b).2]
 have f:s.data.toList.drop i=w.take k++(c::w.drop (k+1)++r):=by
  grind
 have d:=fP f;rw[m_,Nat.min_eq_left X]at d;exact d
theorem AI{i}{w r}(h:s.data.toList.drop i=w++r):s.extract i (i+C w)=⟨w.toArray⟩:=by
 refine mR ?_
 simp_all
theorem sN{i}:(s.extract i (N s)).data.toList=s.data.toList.drop i:=by rw[gG];exact take_of_length_le H_
theorem DD{k}(h:cJ k=T):0<N k/\N k<=24/\yZ (aZ k 0)=3/\∀j,j<N k->(yZ (aZ k j)=3\/yZ (aZ k j)=4\/yZ (aZ k j)=5):=by
 rw[cJ,l6,l6,r9,r9,any_eq_false,q7,k_]at h;have ⟨i,l,B⟩:=h;have a:0<N k:=by
  rcases eq_zero_or_pos (N k) with e|e
  .refine absurd (mR ?_) l
   simp_all
  exact e
 have f:=λj b=>by
  have:=i j (mem_range.2 b)
  simpa using this
 refine⟨a,X,?_,λj b=>?_⟩
 .have:=f 0 a
  simpa[mh]using this
 have:=f j b;rw[mh]at this;by_cases c:yZ (aZ k j)=3
 .exact .inl c
 by_cases g:yZ (aZ k j)=4
 .exact .inr (.inl g)
 by_cases d:yZ (aZ k j)=5
 .exact .inr (.inr d)
 simp[c,g,d]at this
theorem Xo{k}{j}(h:j<N k):∃c,k.data.toList[j]?=A c/\aZ k j=(c.toNat):=by exact⟨_,n_ h,by rw[aZ,n_ h];rfl⟩
theorem Bl{k:B_}(h:s.data.toList.drop i=ν (μ k)++r)(w:cJ k=T)(x:∀c r',r=c::r'->yZ (c.toNat:Int)≠3/\yZ (c.toNat:Int)≠4/\yZ (c.toNat:Int)≠5):
  fE s i=(A ⟨1,k,i,0⟩,i+N k):=by
 have ⟨a,D,v,b⟩:=DD w;have g:∀j,j<N k->nH s (i+j)=yZ (aZ k j):=λj u=>by
  have ⟨c,p,e⟩:=Xo u;rw[JR (zu h p),e]
 have B:=by
  have:=congrArg List.length h;rw[p_,j8,aS,aS]at this;omega
 have l:nH s i=3:=by
  have:=g 0 a;rw[Nat.add_zero,v]at this;exact this
 have d:CO s i=i+N k:=by
  refine zW (vS s) X X (λj E F=>?_) ?_
  .have:=g (j - i) X;rw[show i+(j - i)=j by omega]at this;rw[vS,this];rcases b (j - i) X with e|e|e<;>rw[e]<;>rfl
  left;have n:=fP h;rw[aS]at n;cases r with
  |nil=>rw[vS,Ah n];rfl
  |cons c r' =>
   have ⟨t,o,q⟩:=x c r' Z;rw[vS,JR n,decide_eq_false t,decide_eq_false o,decide_eq_false q];rfl
 have f:=AI h;rw[aS]at f;have m:(⟨k.data.toList.toArray⟩:B_)=k:=mR H_;rw[fE,a8 X,a8 X,b6 l,d,AZ,f,m,a8 X]
theorem Uf{s}{i}{r}(h:s.data.toList.drop i=32::r):fE s i=(ζ,i+1):=by
 have a:nH s i=1:=by rw[JR h];rfl
 rw[fE,b6 a]
theorem ey:∀(v r),oJ (v.flatMap qV++34::r)=A (v,C (v.flatMap qV)+1)
 | [],r=>CQ
 | b::v,r=>by
  have d:=ey v r;rw[flatMap_cons,append_assoc];by_cases a:b=10
  .have e:qV b=[92,110]:=by rw[qV,b6 a]
   rw[e];show oJ (92::110::(v.flatMap qV++34::r))=_;rw[vI,d,a];show A _=A _
   grind
  by_cases c:b=34\/b=92
  .have e:qV b=[92,b]:=by rw[qV,a8 a,b6 c]
   have g:tQ b=A b:=by
    rcases c with e|e<;>subst e<;>rfl
   rw[e];show oJ (92::b::(v.flatMap qV++34::r))=_;rw[vI,d,g]
   grind
  have e:qV b=[b]:=by rw[qV,a8 a,a8 c]
  have f:b≠34/\b≠92:=⟨λe=>c (.inl e),λe=>c (.inr e)⟩;rw[e];show oJ (b::(v.flatMap qV++34::r))=_;rw[CR f.1 a f.2,d]
  grind
theorem J9{v:B_}(h:s.data.toList.drop i=dB (ν (μ v))++r):fE s i=(A ⟨3,v,i,0⟩,i+C (dB (ν (μ v)))):=by
 have b:s.data.toList.drop i=34::(v.data.toList.flatMap qV++34::r):=by rw[h,dB];simp
 have c:nH s i=7:=by rw[JR b];rfl
 have d:A0 (s.extract i (N s))=(v,((C (v.data.toList.flatMap qV)+1+1:Nat):Int)):=by
  rw[A0,sN,b,drop_succ_cons,drop_zero,ey]
 have e:FO s i=(⟨3,v,i,0⟩,i+C (dB (ν (μ v)))):=by
  rw[FO,d,b6 X];congr 1;congr 1;rw[l_,dB,j6,j8,length_singleton]
 rw[fE,a8 X,a8 X,a8 X,a8 X,b6 c,e]
def TR(t:m8):List UInt8:=ν (μ t.key)++61::dB (ν (μ t.val))
theorem NM(t):(iY t).data.toList=TR t:=by rw[iY,TR];simp
def nT(l:List m8):List UInt8:=l.flatMap λt=>32::TR t
def VE(u4:List b7)(l:List m8):Prop:=EW u4=A l/\(∀f,f∈u4->f.err=0)/\C u4=3*C l
theorem VE.cons{u4}{l}{a b c}(h:VE u4 l)(E:a.err=0)(F:b.err=0)(G:c.err=0):VE (a::b::c::u4) (⟨a.text,c.text⟩::l):=by
 have ⟨d,B,D⟩:=h;refine⟨by rw[EW,d];rfl,λf H=>?_,G_⟩
 grind
theorem WY(t)(l):(YJ (t::l)).data.toList=TR t++nT l:=by show bT _ (bs ((t::l).map _))=_;rw[bs,map_map];show (iY t).data.toList++_=_;rw[NM,flatMap_map];congr 1;congr 1;funext x;show [32]++(iY x).data.toList=_;rw[NM];rfl
theorem NO:∀(u4 acc),(∀f,f∈u4->f.err=0)->C acc+C u4<=5000->kT acc u4=(acc++u4,0,0)
 | [],acc,_,_=>by rw[kT,List.append_nil]
 |f::u4,acc,h,b=>by
  rw[j6]at b;rw[kT,a8 (λe=>e (h f List.mem_cons_self)),a8 (by omega),NO u4 _ (λg a=>h g (List.mem_cons_of_mem _ a)) (by grind),List.append_assoc];rfl
end Go.Proofs.C
namespace Go.Abs
def dV(c:UInt8):List UInt8->List (List UInt8)
 | []=>[[]]
 |b::l=>if b=c then[]::dV c l else((b::(dV c l).headD [])::(dV c l).tail)
theorem rR(c)(l):0<C (dV c l):=by
 cases l with
 |nil=>exact Nat.zero_lt_one
 |cons b l=>rw[dV];all_goals grind
theorem sF{c}:∀ {w},c∉w->dV c w=[w]
 | [],_=>rfl
 |b::w,h=>by
  rw[l9,not_or]at h;rw[dV,a8 (λe=>h.1 e.symm),sF h.2];rfl
theorem kD{c}{l}:∀ {w},c∉w->dV c (w++c::l)=w::dV c l
 | [],_=>by rw[List.nil_append,dV,b6 rfl]
 |b::w,h=>by
  rw[l9,not_or]at h;rw[List.cons_append,dV,a8 (λe=>h.1 e.symm),kD h.2];rfl
theorem yC(c):∀l,C (dV c l)=l.count c+1
 | []=>rfl
 |b::l=>by
  have a:=yC c l;rw[dV];by_cases h:b=c
  .rw[b6 h,j6,a,h,count_cons_self]
  rw[a8 h,j6,length_tail,count_cons_of_ne h];omega
def rW:List UInt8->List (List UInt8)
 | []=>[]
 |b::l=>if b=10 then[10]::rW l else match rW l with
  | []=>[[b]]
  |w::r=>(b::w)::r
theorem I7{l}:∀ {w},10∉w->rW (w++10::l)=(w++[10])::rW l
 | [],_=>rfl
 |b::w,h=>by
  rw[l9,not_or]at h;rw[List.cons_append,rW,a8 (λe=>h.1 e.symm),I7 h.2];rfl
theorem OT:∀ {w},10∉w->w≠[]->rW w=[w]
 | [],_,h=>absurd Z h
 |b::w,h,_=>by
  rw[l9,not_or]at h;rw[rW,a8 (λe=>h.1 e.symm)];by_cases e:w=[]
  .subst e;rfl
  rw[OT h.2 e]
theorem H4:∀ {ls:List _},(∀w∈ls,10∉w)->rW (ls.flatMap (·++[10]))=ls.map (·++[10])
 | [],_=>rfl
 |w::ls,h=>by
  rw[List.flatMap_cons,List.append_assoc,List.singleton_append,I7 (h w List.mem_cons_self),H4 λx a=>h x (List.mem_cons_of_mem _ a)];rfl
theorem yR{c}:∀ {l},Lib.indexByte l c = -1↔c∉l
 | []=>by simp[Lib.indexByte]
 |b::l=>by
  have D:=yR (c:=c) (l:=l);have B:=Lib.indexByte_ge l c;rw[Lib.indexByte];all_goals grind
theorem yS{c}:∀ {l},Lib.indexByte l c ≠ -1->∃w r,l=w++c::r/\c∉w/\Lib.indexByte l c=(C w)
 | [],h=>absurd Z h
 |b::l,h=>by
  by_cases e:b=c
  .subst e;exact⟨[],l,Z,by simp,by simp[Lib.indexByte]⟩
  have d:Lib.indexByte l c ≠ -1:=λF=>h (by rw[Lib.indexByte];simp_all);have ⟨w,r,B,D,E⟩:=yS d;refine⟨b::w,r,F_,G_,?_⟩;rw[Lib.indexByte]
  simp_all
end Go.Abs
namespace Go.Abs
open Go.Lib
theorem zx{d}(h:d<10):digitVal (UInt8.ofNat (48+d))=A d:=by
 have e:(UInt8.ofNat (48+d)).toNat=48+d:=by rw[UInt8.toNat_ofNat'];omega
 rw[digitVal,b6 X];congr 1;omega
theorem DV{b}{d}(a:digitVal b=A d):∀(l) (acc),decFrom acc (l++[b])=(decFrom acc l).map λn=>n*10+d
 | [],acc=>by
  simp[decFrom,a]
 |c::l,acc=>by
  rw[List.cons_append,decFrom,decFrom];cases h:digitVal c with
  |none=>rfl
  |some x=>exact DV a l _
theorem oC(u:Nat):decDigits u≠[]:=by
 rw[decDigits]
 split
 .simp
 simp
theorem jT(u):decFrom 0 (decDigits u)=A u:=by
 induction u using Nat.strongRecOn with
 |ind u B =>
  rw[decDigits]
  split
  .rename_i h;rw[<-nil_append [_],DV (zx h)];simp[decFrom]
  rw[DV (zx (mod_lt u H_))]
  grind
theorem pV{b}:∀(u),b∈decDigits u->48<=b.toNat/\b.toNat<=57:=by
 intro u
 induction u using Nat.strongRecOn with
 |ind u B =>
  rw[decDigits]
  split
  .intro a;rw[q9]at a;subst a;rw[UInt8.toNat_ofNat'];omega
  intro a;rcases mem_append.1 a with a|a
  ·grind
  rw[q9]at a;subst a;rw[UInt8.toNat_ofNat'];omega
theorem kK(n)(h:0<=n):itoa n=decDigits n.toNat:=by rw[itoa,a8 X]
theorem Ft{n}(h:0<=n):atoi (itoa n)=A n:=by
 rw[kK n h];have ⟨u,a⟩:∃u,u=n.toNat:=X_;rw[<-a];have D:=jT u;have E:∀b∈decDigits u,48<=b.toNat/\b.toNat<=57:=λb=>pV u;cases e:decDigits u with
 |nil=>exact absurd e (oC u)
 |cons b r =>
  have c:decNat (b::r)=A u:=by rw[decNat];simp_all
  unfold atoi;simp[c];have B:b≠43:=λh=>by simp_all
  split<;>simp_all
  omega
theorem cX:∀ {k u},u<10 ^ k->0<k->C (decDigits u)<=k
 |0,_,_,h=>absurd h (Nat.lt_irrefl 0)
 | k+1,u,h,_=>by
  rw[decDigits]
  split
  .simp
  rw[j8,List.length_singleton];have b:0<k:=by
   grind
  have a:u / 10<10 ^ k:=X
  have:=cX a b;omega
theorem D4{n}(h:0<=n)(B:n<1000000000000000000):atoiAll (itoa n)=.ok n:=by
 have a:C (itoa n)<=18:=by
  rw[kK n h];exact cX X H_
 rw[atoiAll_short _ a,Ft h];rfl
end Go.Abs
namespace Go.Proofs.C
open Go.Proofs.Tryz
open Go.Abs
variable{s:B_}{α:Type}{o:l8}
def mJ(o:l8):List UInt8:=(eN o.kind).data.toList++32::(ν (μ o.id)++32::(if o.kind=1 then Lib.itoa o.x++32::Lib.itoa o.y else 40::(bT [32] (bs o.refs)++[41])))
def sR(o:l8):List UInt8:=mJ o++nT o.tags
def EL(o:l8):B_:=⟨(sR o).toArray⟩
def fK(o:l8):B_×Int:=if oV o then(if 0<C o.tags/\(kA o.tags).2≠0 then(a6,(kA o.tags).2)else if 20000<N (EL o) then(a6,2)else(EL o,0))else(a6,1)
def atV(s:B_):Int:=match Lib.atoiAll (ν (μ s)) with
 |.ok v=>v
 |.range=>Lib.atoiSat (ν (μ s))
 |_=>0
def LF:b7:=⟨0,a6,0,0⟩
def wJ(u4:List b7):List b7:=u4++List.replicate (4 - C u4) LF
def EC(s:B_):Int:=if s=eN 5 then 5 else if s=eN 4 then 4 else if s=eN 3 then 3 else if s=eN 2 then 2 else if s=eN 1 then 1 else 0
def kU(f:b7):Bool:=θ (f.text=⟨#[41]⟩)&&θ (f.kind=4)
def sD:List b7->List m8
 |a::_::c::r=>⟨a.text,c.text⟩::sD r
 |_=>[]
theorem RQ:∀ {u4} {l},EW u4=A l->sD u4=l
 | [],l,h=>by cases h;rfl
 | [_],l,h=>by rw[EW]at h<;>(simp_all)
 | [_,_],l,h=>by rw[EW]at h<;>(simp_all)
 | a::b::c::r,l,h=>by
  rw[EW]at h;cases e:EW r with
  |none=>simp_all
  |some q =>
   rw[e]at h;cases h;rw[sD,RQ e]
def tT(u4:List b7):l8 :=if EC ((wJ u4).getD 0 LF).text=1 then⟨((wJ u4).getD 1 LF).text,1,atV ((wJ u4).getD 2 LF).text,atV ((wJ u4).getD 3 LF).text,[],sD ((wJ u4).drop 4)⟩
 else if AY kU (wJ u4)<3 then j7
 else⟨((wJ u4).getD 1 LF).text,EC ((wJ u4).getD 0 LF).text,0,0,(((wJ u4).take (AY kU (wJ u4)).toNat).drop 3).map b7.text,sD ((wJ u4).drop ((AY kU (wJ u4)).toNat+1))⟩
def GA(s:B_)(i:Nat)(r:List UInt8)(u4:List b7):Prop:=∀n,C r<=n->kM s n i=u4
theorem D5{s}{i j}{w r}{f}{u4}(d:fE s i=(A f,j))(c:f.err=0)(hi:i<N s)(B:0<C w)(b:GA s j r u4):GA s i (w++r) (f::u4):=by intro n a;rw[j8]at a;obtain ⟨m,rfl⟩:∃m,n=m+1:=⟨n - 1,X⟩;rw[kM,b6 hi,d];show f::(if f.err=0 then kM s m j else[])=_;rw[b6 c,b m X]
theorem vC{s}{i}{r}{u4}(h:s.data.toList.drop i=32::r)(b:GA s (i+1) r u4):GA s i (32::r) u4:=by intro n a;rw[j6]at a;obtain ⟨m,rfl⟩:∃m,n=m+1:=⟨n - 1,X⟩;rw[kM,b6 (qL h).1,Uf h];exact b m X
theorem all_nil{s}{i}(h:s.data.toList.drop i=[]):GA s i [] []:=by
 intro n _;have a:¬ i<N s:=by
  have:=drop_eq_nil_iff.1 h;rw[aS]at this;omega
 cases n with
 |zero=>rfl
 |succ n=>rw[kM,a8 a]
theorem rV{i}{w r}(h:s.data.toList.drop i=w++r)(B:0<C w):i<N s:=by
 rcases Nat.lt_or_ge i _ with a|a
 .exact a
 rw[drop_eq_nil_of_le F_]at h;have:=congrArg List.length h;rw[length_nil,j8]at this;omega
def HO(r:List UInt8):Prop:=∀c r',r=c::r'->yZ (c.toNat:Int)≠3/\yZ (c.toNat:Int)≠4/\yZ (c.toNat:Int)≠5
theorem Bk:HO []:=λc r' h=>by cases h
theorem mF(r):HO (32::r):=λc r' h=>by cases h;exact⟨E_,E_,E_⟩
theorem J8(r):HO (41::r):=λc r' h=>by cases h;exact⟨E_,E_,E_⟩
theorem nI{s k}{i}{r}{u4}(h:s.data.toList.drop i=ν (μ k)++r)(a:cJ k=T)(c:HO r)(b:GA s (i+N k) r u4):GA s i (ν (μ k)++r) (⟨1,k,i,0⟩::u4):=by have B:=(DD a).1;exact D5 (Bl h a c) Z (rV h F_) F_ b
theorem HD{s}{i}{r}{c}{u4}(h:s.data.toList.drop i=c::r)(a:yZ (c.toNat)=6)(b:GA s (i+1) r u4):GA s i (c::r) (⟨4,⟨#[c]⟩,i,0⟩::u4):=by
 have B:nH s i=6:=by rw[JR h];exact a
 have D:=AI (w:=[c]) h;have d:fE s i=(A ⟨4,⟨#[c]⟩,i,0⟩,i+1):=by
  rw[fE]
  simp_all
 exact D5 (w:=[c]) d Z (qL h).1 Nat.zero_lt_one b
theorem Ys:∀b:UInt8,48<=b.toNat->b.toNat<=57->yZ (b.toNat)=4:=by
 intro b a c;have h:∀n:Fin 256,48<=n.val->n.val<=57->yZ (n.val)=4:=by decide +kernel
 exact h _ a c
theorem RB{i:Nat}{x:Int}{r:List UInt8}{u4:List b7}(h:s.data.toList.drop i=Lib.itoa x++r)(E:0<=x)(v:x<10000000)(t:HO r)(w:GA s (i+C (Lib.itoa x)) r u4):GA s i (Lib.itoa x++r) (⟨2,aV x,i,0⟩::u4):=by
 have l:=kK x E;have e:0<C (Lib.itoa x):=by rw[l];exact length_pos_iff.2 (oC _)
 have D:C (Lib.itoa x)<=7:=by rw[l];exact cX X E_
 have f:∀j,j<C (Lib.itoa x)->nH s (i+j)=4:=λj p=>by
  have q:=n_ p;rw[JR (zu h q)];have o:(Lib.itoa x)[j]∈Lib.decDigits x.toNat:=F_
  have ⟨u,z⟩:=pV _ o;exact Ys _ u z
 have B:i+C (Lib.itoa x)<=N s:=by
  have:=congrArg List.length h;rw[p_,j8,aS]at this;have:=rV h e;omega
 have k:nH s i=4:=f 0 e;have m:=fP h;have d:nH s (i+C (Lib.itoa x))≠3/\nH s (i+C (Lib.itoa x))≠4/\nH s (i+C (Lib.itoa x))≠5:=by
  cases r with
  |nil=>rw[Ah m];omega
  |cons c y=>rw[JR m];exact t c y Z
 have g:JN s i=i+C (Lib.itoa x):=by
  refine zW (PB s) X X (λj v F=>?_) (.inl ?_)
  .have:=f (j - i) X;rw[show i+(j - i)=j by omega]at this;rw[PB,this];rfl
  rw[PB,decide_eq_false d.2.1]
 have n:fE s i=(A ⟨2,aV x,i,0⟩,i+C (Lib.itoa x)):=by
  rw[fE,a8 X,a8 X,a8 X,b6 k,g,H9,AI h,decide_eq_false d.1,decide_eq_false d.2.2,decide_eq_false X];rfl
 exact D5 n Z (rV h e) e w
theorem U6{s}:∀(l) (i),(∀t,t∈l->cJ t.key=T)->s.data.toList.drop i=nT l->∃u4,GA s i (nT l) u4/\VE u4 l
 | [],i,_,h=>⟨[],all_nil h,Z,(λf r=>by cases r),Z⟩
 | t::l,i,g,h=>by
  have k:nT (t::l)=32::(ν (μ t.key)++61::(dB (ν (μ t.val))++nT l)):=by
   rw[nT,flatMap_cons,TR];simp[nT]
  rw[k]at h |-;have b:=(qL h).2.2;have j:=fP b;have a:=(qL j).2.2;have v:=fP a;have ⟨u4,o,u⟩:=U6 l _ (λt p=>g t (mem_cons_of_mem _ p)) v;have d:0<C (dB (ν (μ t.val))):=by rw[dB,j6];omega
  have q:=D5 (J9 a) Z (rV a d) d o;have n:=HD j (Z) q;have m:=nI b (g t mem_cons_self) (λc r' e=>by cases e;exact⟨E_,E_,E_⟩) n;exact⟨_,vC h m,VE.cons u Z Z Z⟩
theorem G6{o}(h:oV o=T):o.kind=1\/o.kind=2\/o.kind=3\/o.kind=4\/o.kind=5:=by have:=El h;omega
theorem BH{k}(h:k=1\/k=2\/k=3\/k=4\/k=5):cJ (eN k)=T/\EC (eN k)=k:=by
 rcases h with rfl|rfl|rfl|rfl|rfl
 .exact⟨Z,Z⟩
 .exact⟨Z,Z⟩
 .exact⟨Z,Z⟩
 .exact⟨Z,Z⟩
 exact⟨Z,Z⟩
theorem uP{o}(h:oV o=T):∀s∈o.refs,cJ s=T:=λs d=>by
 rw[oV,l6,l6,r9,r9]at h;have ⟨i,c⟩:=s8.1 d;have b:=(m9.1 c).1;have a:=any_eq_false.1 h.2.1 i (mem_range.2 b);rw[vF,c]at a;simp[NV,Bool.or_eq_true,not_or,Bool.not_eq_true,Bool.not_eq_false']at a;exact a.2
theorem ml{o}(h:oV o=T):(0<=o.x/\o.x<1048576)/\(0<=o.y/\o.y<1048576)/\(o.kind=1->o.refs=[])/\(o.kind≠1->o.x=0/\o.y=0):=by
 rw[oV,l6]at h;unfold T6 at h
 split at h
 .rename_i a;rw[cn]at h;simp only[l6,k_]at h;refine⟨X,X,λ_=>length_eq_zero_iff.1 X,λe=>absurd a e⟩
 rename_i a
 split at h<;>simp[l6,k_]at h<;>exact⟨X,X,λe=>absurd e a,λ_=>by omega⟩
theorem U5{s:B_}:∀(l:List B_) (i:Nat) (r:List UInt8) (u4:List b7),(∀k,k∈l->cJ k=T)->s.data.toList.drop i=l.flatMap (λk=>32::ν (μ k))++r->HO r ->
  GA s (i+C (l.flatMap λk=>32::ν (μ k))) r u4->∃R:List b7,GA s i (l.flatMap (λk=>32::ν (μ k))++r) (R++u4)/\R.map b7.text=l/\∀f∈R,f.kind=1/\f.err=0
 | [],i,r,u4,_,h,_,d=>⟨[],d,Z,(λf o=>by cases o)⟩
 | k::l,i,r,u4,m,h,j,d=>by
  have q:(k::l).flatMap (λk=>32::ν (μ k))++r=32::(ν (μ k)++(l.flatMap (λk=>32::ν (μ k))++r)):=by
   simp_all
  have g:C ((k::l).flatMap λk=>32::ν (μ k))=1+N k+C (l.flatMap λk=>32::ν (μ k)):=by
   rw[flatMap_cons,j8,j6,aS];omega
  rw[q]at h |-;have n:=(qL h).2.2;have p:=fP n;rw[aS]at p;have ⟨R,t,B,D⟩:=U5 l (i+1+N k) r u4 (λx u=>m x (mem_cons_of_mem _ u)) p j (by rw[g]at d;rw[show i+1+N k+C (l.flatMap _)=i+(1+N k+C (l.flatMap λk=>32::ν (μ k)))by omega];exact d);have e:HO (l.flatMap (λk=>32::ν (μ k))++r):=by
   cases l with
   |nil=>exact j
   |cons a l=>exact mF _
  refine⟨⟨1,k,i+1,0⟩::R,vC h (nI n (m k mem_cons_self) e t),F_,λf o=>?_⟩
  grind
theorem yP(k)(l):bT [32] (bs (k::l))=ν (μ k)++l.flatMap (λk=>32::ν (μ k)):=by rw[bs,map_cons,bT,flatMap_map];rfl
theorem Pb{p}{c:α}{B}:∀ {D},(∀a,a∈D->p a=η)->p c=T->AY p (D++c::B)=(C D):=by
 intro D E F;have h:(D++c::B).findIdx? p=A (C D):=by
  grind
 rw[AY,h]
theorem RX(l):HO (nT l):=by
 cases l with
 |nil=>exact Bk
 |cons t l=>exact mF _
theorem mm{x}(h:0<=x)(b:x<1000000000000000000):atV (aV x)=x:=by show (match Lib.atoiAll (Lib.itoa x)with|.ok v=>v|.range=>_|_=>0)=x;rw[D4 h b]
theorem XA{o}(h:oV o=T)(d:o.kind≠1):∃k l,o.refs=k::l:=by
 have a:=G6 h;rw[oV,l6,r9,OX,wM]at h;have c:=h.1;simp only[q_,Bool.not_eq_false',q7]at c;have b:=c.1.2;have B:1<=FQ o.kind:=by
  rcases a with e|e|e|e|e
  .exact absurd e d
  .rw[e];decide
  .rw[e];decide
  .rw[e];decide
  rw[e];decide
 cases e:o.refs with
 |nil=>rw[e]at b;exact absurd (show ((C []:Nat):Int)<FQ _ by show 0<_;omega) b
 |cons k l=>exact⟨k,l,Z⟩
theorem xv{u4}(h:4<=C u4):wJ u4=u4:=by rw[wJ,show 4 - C u4=0 by omega,replicate_zero,append_nil]
theorem XZ(o):(EL o).data.toList.drop 0=sR o:=rfl
theorem QK{i}{k x y}{r}{t}(f:o.id=i)(e:o.kind=k)(b:o.x=x)(d:o.y=y)(a:o.refs=r)(c:o.tags=t):(⟨i,k,x,y,r,t⟩)=o:=by subst f e b d a c;rfl
theorem Kp(B:oV o=T):∃u4,GA (EL o) 0 (sR o) u4/\(∀f,f∈u4->f.err=0)/\C u4<=5000/\tT u4=o:=by
 have ⟨hr,ht,o_,E,_⟩:=CB B;have ⟨w,v_,hn,hz⟩:=ml B;have ⟨A_,G⟩:=BH (G6 B);have m:∀t,t∈o.tags->cJ t.key=T:=λt h=>((xY.1 o_).1 t h).1;have v:=XZ o;by_cases i:o.kind=1
 .have e:sR o=(eN o.kind).data.toList++32::(ν (μ o.id)++32::(Lib.itoa o.x++32::(Lib.itoa o.y++nT o.tags))):=by
   rw[sR,mJ,b6 i];simp
  rw[e]at v |-;have r:=fP v;rw[aS]at r;have y:=(qL r).2.2;have n:=fP y;rw[aS]at n;have z:=(qL n).2.2;have F:=fP z;have u:=(qL F).2.2;have d:=fP u;have ⟨u4,u_,L,r4,r3⟩:=U6 o.tags _ m d;have b:=nI v A_ (mF _) (vC r (nI y E (mF _) (vC n (RB z w.1 X (mF _) (vC F (RB u v_.1 X (RX _) u_))))));refine⟨_,b,λf g=>?_,?_,?_⟩
  .simp only[l9]at g;rcases g with rfl|rfl|rfl|rfl|g
   .rfl
   .rfl
   .rfl
   .rfl
   exact r4 f g
  .simp only[j6];omega
  rw[tT,xv (by simp only[j6];omega)];simp only[getD_cons_zero,getD_cons_succ,drop_succ_cons,drop_zero];rw[G,b6 i,RQ L,mm w.1 X,mm v_.1 X];exact QK Z i Z Z (hn i) Z
 have ⟨k,l,q⟩:=XA B i;have s:=uP B;rw[q]at s;have e:sR o=(eN o.kind).data.toList++32::(ν (μ o.id)++32::(40::(ν (μ k)++(l.flatMap (λk=>32::ν (μ k))++41::nT o.tags)))):=by
  rw[sR,mJ,a8 i,q,yP];simp
 rw[e]at v |-;have r:=fP v;rw[aS]at r;have y:=(qL r).2.2;have n:=fP y;rw[aS]at n;have z:=(qL n).2.2;have F:=(qL z).2.2;have u:=fP F;rw[aS]at u;have d:=fP u;have h8:=(qL d).2.2;have ⟨u4,u_,L,r4,r3⟩:=U6 o.tags _ m h8;have Q:=HD d E_ u_;have ⟨R,hR,q1,W⟩:=U5 l _ _ _ (λx w=>s x (mem_cons_of_mem _ w)) u (J8 _) Q;have K:HO (l.flatMap (λk=>32::ν (μ k))++41::nT o.tags):=by
  cases l with
  |nil=>exact J8 _
  |cons a l=>rw[flatMap_cons];exact mF _
 have b:=nI v A_ (mF _) (vC r (nI y E (mF _) (vC n (HD z E_ (nI F (s k mem_cons_self) K hR)))));have τ:C R=C l:=by rw[<-q1,g_]
 have σ:C o.refs=C l+1:=by rw[q,j6]
 refine⟨_,b,λf g=>?_,?_,?_⟩
 .simp only[l9,mem_append]at g;rcases g with rfl|rfl|rfl|rfl|g|rfl|g
  .rfl
  .rfl
  .rfl
  .rfl
  .exact(W f g).2
  .rfl
  exact r4 f g
 .simp only[j6,j8];omega
 have ⟨J,I⟩:∃J:List b7,J=⟨1,eN o.kind,0,0⟩::⟨1,o.id,0+N (eN o.kind)+1,0⟩::⟨4,⟨#[40]⟩,0+N (eN o.kind)+1+N o.id+1,0⟩::⟨1,k,0+N (eN o.kind)+1+N o.id+1+1,0⟩::R:=X_;have H:C J=C R+4:=by rw[I];rfl
 have e_:∀a,a∈J->kU a=η:=by
  intro a D;rw[I]at D;simp only[l9]at D;rcases D with rfl|rfl|rfl|rfl|D
  .rw[kU,decide_eq_false (show ¬ ((1:Int)=4)by decide),Bool.and_false]
  .rw[kU,decide_eq_false (show ¬ ((1:Int)=4)by decide),Bool.and_false]
  .rfl
  .rw[kU,decide_eq_false (show ¬ ((1:Int)=4)by decide),Bool.and_false]
  rw[kU,(W a D).1,decide_eq_false (show ¬ ((1:Int)=4)by decide),Bool.and_false]
 have p:∀c:b7,(J++c::u4).drop (C J+1)=u4:=λc=>by
  rw[show J++c::u4=(J++[c])++u4 by simp,show C J+1=C (J++[c]) by simp,drop_left]
 have w:=λj=>Pb (p:=kU) (c:=⟨4,⟨#[41]⟩,j,0⟩) (B:=u4) e_ Z;have P:∀j,(⟨1,eN o.kind,0,0⟩::⟨1,o.id,0+N (eN o.kind)+1,0⟩::⟨4,⟨#[40]⟩,0+N (eN o.kind)+1+N o.id+1,0⟩::⟨1,k,0+N (eN o.kind)+1+N o.id+1+1,0⟩::(R++⟨4,⟨#[41]⟩,j,0⟩::u4):List b7)=J++⟨4,⟨#[41]⟩,j,0⟩::u4:=λj=>by rw[I];rfl
 rw[tT,P,xv (by rw[j8,H];omega),w,a8 (by rw[I];show ¬ EC (eN o.kind)=1;rw[G];exact i),a8 (by rw[H];omega),l_,take_left,p,RQ L];have ⟨z_,y_⟩:=hz i;refine QK ?_ ?_ z_ y_ ?_ Z;all_goals simp_all
theorem Vf(f:α->List _)(l:List _):l.map (λe=>(f e).map AV.pv)=(l.map f).map (·.map .pv):=H_
def nm(i:Nat):B_:=⟨#[110,49+UInt8.ofNat i]⟩
def a_(l:List UInt8):B_:=⟨l.toArray⟩
theorem cG(l):(a_ l).data.toList=l:=rfl
theorem gE(s):a_ (ν (μ s))=s:=mR (cG _)
theorem cA(l):N (a_ l)=C l:=rfl
def vM(s:B_):l8×Int:=if 20000<N s then(j7,2)else if(fO s).2.1=0/\fK (tT (fO s).1)=(s,0)then(tT (fO s).1,0)else(j7,5)
theorem QL{o}(h:(fK o).2=0):oV o=T/\fK o=(EL o,0)/\N (EL o)<=20000:=by
 rw[fK]at h |-
 grind
theorem qf{o}(h:(fK o).2=0):vM (fK o).1=(o,0):=by
 have ⟨c,G,F⟩:=QL h;have ⟨u4,b,a,D,E⟩:=Kp c;have B:fO (EL o)=(u4,0,0):=by
  rw[fO,a8 X,b _ (by exact le_succ _),NO u4 _ a F_,nil_append]
 rw[vM]
 simp_all
def wPut:List UInt8:=[112,117,116]
def J1:List UInt8:=[109,111,118,101]
def BJ:List UInt8:=[116,97,103]
def J0:List UInt8:=[114,101,102,115]
def J3:List UInt8:=[100,114,111,112]
def CP:List UInt8:=[115,112,108,105,116]
def J2:List UInt8:=[106,111,105,110]
def gS(e:b8):List (List UInt8) :=if e.op=2 then[J1,ν (μ e.id),Lib.itoa e.x,Lib.itoa e.y]else if e.op=3 then[BJ,ν (μ e.id),ν (μ e.key),dB (ν (μ e.val))]
 else if e.op=4 then J0::ν (μ e.id)::bs e.refs else if e.op=5 then[J3,ν (μ e.id)]
 else if e.op=6 then[CP,ν (μ e.id),ν (μ e.node),ν (μ e.other)]else[J2,ν (μ e.id),ν (μ e.other)]
def fT(e:b8):List UInt8:=if e.op=1 then wPut++32::(fK e.obj).1.data.toList else bT [32] (gS e)
def fX(e:b8):Int:=if e.op=1 then(fK e.obj).2 else 0
def sC:List UInt8->List b8->List UInt8×Int
 |acc,[]=>(acc,0)
 |acc,e::r=>if fX e≠0\/20000<C (acc++(fT e++[10])) then([],2)else sC (acc++(fT e++[10])) r
def eG(l:List b8):B_×Int:=if lP l then(a_ (sC [] l).1,(sC [] l).2)else(a6,1)
def WB(s:List UInt8):Int:=match Lib.atoiAll s with
 |.ok v=>v
 |_ => -1
def OZ:b8:=⟨0,a6,a6,a6,0,0,a6,a6,[],j7⟩
def E6(w:List (List UInt8))(B rest:List UInt8):b8 :=if B=wPut then⟨1,a6,a6,a6,0,0,a6,a6,[],(vM (a_ rest)).1⟩
 else if B=J1/\C w=4 then⟨2,a_ (w.getD 1 []),a6,a6,WB (w.getD 2 []),WB (w.getD 3 []),a6,a6,[],j7⟩
 else if B=BJ/\3<C w then(match (fO (a_ (bT [32] (w.drop 3)))).1 with
  | [f]=>⟨3,a_ (w.getD 1 []),a6,a6,0,0,a_ (w.getD 2 []),f.text,[],j7⟩
  |_=>OZ)
 else if B=J0/\1<C w then⟨4,a_ (w.getD 1 []),a6,a6,0,0,a6,a6,(w.drop 2).map a_,j7⟩
 else if B=J3/\C w=2 then⟨5,a_ (w.getD 1 []),a6,a6,0,0,a6,a6,[],j7⟩
 else if B=CP/\C w=4 then⟨6,a_ (w.getD 1 []),a_ (w.getD 3 []),a_ (w.getD 2 []),0,0,a6,a6,[],j7⟩
 else if B=J2/\C w=3 then⟨7,a_ (w.getD 1 []),a_ (w.getD 2 []),a6,0,0,a6,a6,[],j7⟩
 else OZ
def nZ(s:List UInt8):b8:=E6 (dV 32 s) ((dV 32 s).headD []) (s.drop (C ((dV 32 s).headD [])+1))
def iL(t:B_):List b8×Int :=if 20000<N t then([],2)else if eG ((rW (ν (μ t))).map λs=>nZ (Lib.trimSuffix s [10]))=(t,0)then((rW (ν (μ t))).map λs=>nZ (Lib.trimSuffix s [10]),0)else([],5)
theorem X3{k}(f:cJ k=T){b}(d:b∈ν (μ k)):yZ (b.toNat)=3\/yZ (b.toNat)=4\/yZ (b.toNat)=5:=by
 have ⟨j,c⟩:=s8.1 d;have a:=(m9.1 c).1;have h:=(DD f).2.2.2 j a;have e:aZ k j=(b.toNat):=by rw[aZ,c];rfl
 rwa [e]at h
theorem mX{k}(a:cJ k=T):32∉ν (μ k)/\10∉ν (μ k):=by
 constructor
 .intro h;have:=X3 a h;revert this;decide
 intro h;have:=X3 a h;revert this;decide
theorem G7{x}(h:0<=x):32∉Lib.itoa x/\10∉Lib.itoa x:=by
 rw[kK x h];constructor
 .intro h;have:=(pV _ h).1;revert this;decide
 intro h;have:=(pV _ h).1;revert this;decide
theorem gp(l):10∉dB l:=by
 rw[dB];simp only[l9,mem_append,mem_flatMap,q8,or_false,not_or];refine⟨H_,?_,H_⟩;rintro⟨b,_,h⟩;rw[qV]at h
 grind
theorem yO{b}(B:b≠32):∀ {l},(∀w∈l,b∉w)->b∉bT [32] l
 | [],_,h=>by cases h
 |x::l,hl,h=>by
  rw[bT]at h
  grind
theorem Xi{l}(h:∀t,t∈l->cJ t.key=T):10∉nT l:=by
 intro a;have ⟨t,c,a⟩:=mem_flatMap.1 a;rw[TR]at a;simp only[l9,mem_append]at a;rcases a with b|b|b|b
 .simp_all
 .exact(mX (h t c)).2 b
 .simp_all
 exact gp _ b
theorem aBn(b:oV o=T):10∉sR o:=by
 have ⟨B,D,c,d,_⟩:=CB b;have ⟨g,f,_,_⟩:=ml b;have a:=λt h=>((xY.1 c).1 t h).1;intro h;rw[sR,mJ]at h;simp only[l9,mem_append]at h;rcases h with(h|h|h|h|h)|h
 .exact(mX (BH (G6 b)).1).2 h
 .simp_all
 .exact(mX d).2 h
 .simp_all
 .split at h
  .simp only[l9,mem_append]at h;rcases h with h|h|h
   .exact(G7 g.1).2 h
   .revert h;decide
   exact(G7 f.1).2 h
  simp only[l9,mem_append,q8,or_false]at h;rcases h with h|h|h
  .revert h;decide
  .refine yO E_ (λw e=>?_) h;obtain ⟨s,i,rfl⟩:=mem_map.1 e;exact(mX (uP b s i)).2
  revert h;decide
 exact Xi a h
abbrev oB(o:l8):aF:=[(1,bx 6 135 ((bS o).map .pv))]
theorem Vv{l}(h:l≠[])(s):Lm l s=l++32::ν (μ s):=by rw[Lm,a8 h]
theorem aFb(K)(s)(B:N s<70368744177663):aU φ 287 [.ref 2001 0 0 0,sv s] (qX 0 [] η++K) (λr H'=>r=.tup []/\H'=qX 1 (ν (μ s)) T++K):=by
 have h:=Ll K 0 [] η s F_
 rwa [b6 rfl]at h
theorem Cw(K)(g)(l)(s)(a:l≠[])(b:C l+N s<70368744177663):aU φ 287 [.ref 2001 0 0 0,sv s] (qX g l T++K) (λr H'=>r=.tup []/\H'=qX (g+2) (l++32::ν (μ s)) T++K):=by
 have h:=Ll K g l T s b
 rwa [a8 a,Vv a]at h
theorem PX(K)(g)(l)(u)(a:C l<70368744177664):aU φ 133 [.ref 2001 0 0 0] (qX g l u++K) (λr H'=>r=sv ⟨l.toArray⟩/\H'=mi g l u++(qX g l u++K)) :=aU.frame (aAw g l u a) aAv (dN.ofL ⟨(UW Z Z),(eT _ _),T_⟩) m3 (λid h=>.inl (by
  simp[mi,qX,aF.get]at h |-
  grind))
theorem XY{o}(a:oV o=T)(h:0<C o.tags/\(kA o.tags).2≠0):fK o=(a6,(kA o.tags).2):=by rw[fK,b6 a,b6 h]
theorem GT{o}{L}(b:oV o=T)(h:¬ (0<C o.tags/\(kA o.tags).2≠0))(a:sR o=L)(B:20000<C L):fK o=(a6,2):=by
 have D:N (EL o)=C L:=by rw[<-a];rfl
 rw[fK,b6 b,a8 h,b6 X]
theorem GU{o}{L}(b:oV o=T)(h:¬ (0<C o.tags/\(kA o.tags).2≠0))(a:sR o=L)(B:¬ 20000<C L):fK o=(⟨L.toArray⟩,0):=by
 have D:N (EL o)=C L:=by rw[<-a];rfl
 rw[fK,b6 b,a8 h,a8 X,EL,a]
theorem xU{l}(B:0<C l)(h:(kA l).2=0):32::(kA l).1.data.toList=nT l/\N (kA l).1<=20000:=by
 rw[kA]at h |-;by_cases c:tR l=T
 .rw[b6 c]at h |-;by_cases b:20000<N (YJ l)
  .simp_all
  rw[a8 b];refine⟨?_,F_⟩;cases l with
  |nil=>simp_all
  |cons t l =>
   rw[WY];rfl
 simp_all
theorem HB:∀l,C (l.flatMap λk=>32::ν (μ k))=C l+dF l
 | []=>rfl
 |k::l=>by
  have a:=HB l;rw[flatMap_cons,j8,j6,j6,a,aS,dF,dF,map_cons,sum_cons];omega
theorem gA(l):C (bT [32] (bs l))<=C l+dF l:=by
 cases l with
 |nil=>exact l7 _
 |cons k l =>
  rw[yP,j8,HB,aS,j6,dF,dF,map_cons,sum_cons];omega
theorem i8{p:Prop}(h:p:=by rw[aS];omega):p:=h
theorem XX(o:l8)(H:aF)(f_:nh o):RC 253 [av (bS o)] (.tup [sv (fK o).1,iv (fK o).2]) H:=by
 refine Pu<|Bd func253 Z ntmps253<|U (kb 1)<|Y aH<|V aH<|S<|U (wY cB sizeOf135)<|Y (kc call286 (TD o _ f_))<|V iH<|Cn ?_ ?_<;>intro κ
 .have f:oV o=η:=F_
  have e:fK o=(a6,1):=by rw[fK,a8 F_]
  rw[e];exact U aH<|V aH<|aC<|Ru<|Qq
 have f:oV o=T:=F_
 have ⟨hr,ht,htg,R,_⟩:=CB f;have ⟨hx,hy,hn,hz⟩:=ml f;have y_:=(BH (G6 f)).1;have hws:=dS y_;have δ:=dS R;have hwp:=(DD y_).1;have v_:(eN o.kind).data.toList≠[]:=λe=>by have:=congrArg List.length e;rw[aS,length_nil]at this;omega
 refine aB<|Sz (kl 2001 aAb)<|S ?_;refine fW.ent (E':=[(1,.ref 1 0 0 0),(2,sv a6),(3,iv 0),(4,.ref 2001 0 0 0)]) (H':=[(2002,⟨0,1,5,[]⟩),(2001,N9 (.osl 2002 0 0 0) η),(1,bx 6 135 ((bS o).map .pv))]) (Q_ 2002 1 5) ?_;refine fW.ent (E':=[(1,.ref 1 0 0 0),(2,sv a6),(3,iv 0),(4,.ref 2001 0 0 0)]) (H':=qX 0 [] η++oB o) (cH.get (λ_=>rfl) (λj=>nG E_ j))<|Rd (bC eJ)<|Y (bQ M_)<|Y (kc call283 (IG o.kind _))<|V (kc call287 (aFb (oB o) (eN o.kind) X))<|U (bC rD)<|Y (bQ N_)<|V (kc call287 (Cw (oB o) 1 (eN o.kind).data.toList o.id v_ i8))<|S<|S ?_;have ⟨t,m⟩:∃L,L=(eN o.kind).data.toList++32::ν (μ o.id):=X_;have I:t≠[]:=F_
 have β:C t<=49:=by rw[m,j8,j6,aS,aS];omega
 rw[<-m];by_cases Q:o.kind=1
 .have six:N (aV o.x)<=7:=by rw[<-aS];show C (Lib.itoa o.x)<=7;rw[kK _ hx.1];exact cX X E_
  have siy:N (aV o.y)<=7:=by rw[<-aS];show C (Lib.itoa o.y)<=7;rw[kK _ hy.1];exact cX X E_
  have ⟨P,q⟩:∃L,L=t++32::(aV o.x).data.toList:=X_;have A_:P≠[]:=F_
  have hl2:C P<=57:=by rw[q,j8,j6,aS];omega
  have p2:=Cw (oB o) (1+2) t (aV o.x) I X;rw[<-q]at p2;have ⟨b,d⟩:∃L,L=P++32::(aV o.y).data.toList:=X_;have r:b≠[]:=F_
  have g:C b<=200000:=by rw[d,j8,j6,aS];omega
  have F:=Cw (oB o) (1+2+2) P (aV o.y) A_ X;rw[<-d]at F;have G:mJ o=b:=by
   rw[mJ,b6 Q,d,q,m];show _=(_++32::Lib.itoa o.x)++32::Lib.itoa o.y;simp
  refine Rd (bC eJ)<|Y (bQ M_)<|V cF<|Cn ?_ ?_<;>intro W
  .refine U (bC mY)<|Y (bC nA)<|Y (bQ M_)<|Y (kc mB (qB o.x X X _))<|V (kc call287 (p2))<|Rd (bC mY)<|Y (bC mZ)<|Y (bQ M_)<|Y (kc mB (qB o.y X X _))<|V (kc call287 (F))<|S<|U (bC gF)<|Y (bQ dP)<|Y (fM dU)<|V iX<|Cn ?_ ?_<;>intro r4
   .have a:0<C o.tags:=by have:=b9 r4;rw[g_]at this;omega
    refine U (bC gF)<|Y (bQ dP)<|Y (kc call288 (WX o.tags _ f_.2.1))<|Y aA<|Y dO<|Y dO<|Y aH<|V aH<|S<|U aA<|V xI<|Cn ?_ ?_<;>intro x
    .have J:(kA o.tags).2≠0:=by have l:=x;rw[r9,q7]at l;exact l
     rw[XY f ⟨a,J⟩];exact U aA<|Y aH<|V aH<|aC<|Ru<|Qq
    have J:(kA o.tags).2=0:=by have l:=x;rw[Bool.not_eq_false',k_]at l;exact l
    have i:C (b++32::(kA o.tags).1.data.toList)<=300000:=by have:=g;have:=(xU a J).2;rw[j8,j6,aS];omega
    have c:sR o=b++32::(kA o.tags).1.data.toList:=by rw[(xU a J).1,sR,G]
    refine aB<|Rd aA<|V (kc call287 (Cw (oB o) (1+2+2+2) b (kA o.tags).1 r (by have:=g;have:=(xU a J).2;omega)))<|S<|U (bC qC)<|Y (kc call208 (QO (oB o) ((1+2+2+2)+2) (b++32::(kA o.tags).1.data.toList) T))<|V iX ?_;refine Cn ?_ ?_<;>intro u
    .have B:=b9 u;rw[GT f (λh=>h.2 J) c X];exact U aH<|V aH<|aC<|Ru<|Qq
    have B:=b_ u;rw[GU f (λh=>h.2 J) c X];exact aB<|U (bC qC)<|Y (kc nL (PX (oB o) ((1+2+2+2)+2) (b++32::(kA o.tags).1.data.toList) T (by have:=i;omega)))<|Y aH<|V aH<|aC<|Ru<|Qq
   have a:¬ 0<C o.tags:=by have:=b_ r4;rw[g_]at this;omega
   have c:sR o=b:=by rw[sR,G,length_eq_zero_iff.1 (by omega:C o.tags=0)];exact append_nil _
   refine aB<|S<|U (bC qC)<|Y (kc call208 (QO (oB o) (1+2+2+2) b T))<|V iX<|Cn ?_ ?_<;>intro K
   .have B:=b9 K;rw[GT f (λh=>a h.1) c X];exact U aH<|V aH<|aC<|Ru<|Qq
   have B:=b_ K;rw[GU f (λh=>a h.1) c X];exact aB<|U (bC qC)<|Y (kc nL (PX (oB o) (1+2+2+2) b T (by have:=g;omega)))<|Y aH<|V aH<|aC<|Ru<|Qq
  exact absurd Q (b_ W)
 have hsz:dF o.refs<=24*C o.refs:=pN (λs hs=>dS (uP f s hs));have γ:=gA o.refs;have ⟨k,y⟩:∃k:B_,k=⟨(bT [32] (bs o.refs)).toArray⟩:=X_;have hj:∀H,RC 204 [.pv (aK o.refs),sv ⟨#[32]⟩] (sv k) H:=λH=>by
  rw[y];exact xM o.refs ⟨#[32]⟩ H E_ (by show 1*_+_+_<_;omega)
 have E:ν (μ k)=bT [32] (bs o.refs):=by rw[y]
 have ⟨b,d⟩:∃L,L=t++32::((⟨#[40]⟩:B_)++k++⟨#[41]⟩).data.toList:=X_;have w:((⟨#[40]⟩:B_)++k++⟨#[41]⟩).data.toList=40::(bT [32] (bs o.refs)++[41]):=by rw[<-E];simp
 have ρ:N ((⟨#[40]⟩:B_)++k++⟨#[41]⟩)<=60000:=by rw[<-aS,w,j6,j8,length_singleton];omega
 have σ:N k<=52000:=by rw[<-aS,E];omega
 have u4:N (⟨#[40]⟩:B_)=1:=rfl;have z:N (⟨#[41]⟩:B_)=1:=rfl;have τ:N ((⟨#[40]⟩:B_)++k)=1+N k:=by rw[ByteArray.size_append,u4]
 have r:b≠[]:=by rw[d];simp
 have g:C b<=200000:=by rw[d,j8,j6,aS];omega
 have F:=Cw (oB o) (1+2) t ((⟨#[40]⟩:B_)++k++⟨#[41]⟩) I X;rw[<-d]at F;have G:mJ o=b:=by
  rw[mJ,a8 Q,d,m,w];simp
 refine Rd (bC eJ)<|Y (bQ M_)<|V cF<|Cn ?_ ?_<;>intro u_
 .exact absurd (b9 u_) Q
 refine Rd (bC eI)<|Y (bQ aG)<|Y (kc sA (hj _))<|Y kq<|Y kq<|V (kc call287 (F))<|S<|U (bC gF)<|Y (bQ dP)<|Y (fM dU)<|V iX<|Cn ?_ ?_<;>intro v
 .have a:0<C o.tags:=by have:=b9 v;rw[g_]at this;omega
  refine U (bC gF)<|Y (bQ dP)<|Y (kc call288 (WX o.tags _ f_.2.1))<|Y aA<|Y dO<|Y dO<|Y aH<|V aH<|S<|U aA<|V xI<|Cn ?_ ?_<;>intro D
  .have J:(kA o.tags).2≠0:=by have l:=D;rw[r9,q7]at l;exact l
   rw[XY f ⟨a,J⟩];exact U aA<|Y aH<|V aH<|aC<|Ru<|Qq
  have J:(kA o.tags).2=0:=by have l:=D;rw[Bool.not_eq_false',k_]at l;exact l
  have i:C (b++32::(kA o.tags).1.data.toList)<=300000:=by have:=g;have:=(xU a J).2;rw[j8,j6,aS];omega
  have c:sR o=b++32::(kA o.tags).1.data.toList:=by rw[(xU a J).1,sR,G]
  refine aB<|Rd aA<|V (kc call287 (Cw (oB o) (1+2+2) b (kA o.tags).1 r (by have:=g;have:=(xU a J).2;omega)))<|S<|U (bC qC)<|Y (kc call208 (QO (oB o) ((1+2+2)+2) (b++32::(kA o.tags).1.data.toList) T))<|V iX ?_;refine Cn ?_ ?_<;>intro n
  .have B:=b9 n;rw[GT f (λh=>h.2 J) c X];exact U aH<|V aH<|aC<|Ru<|Qq
  have B:=b_ n;rw[GU f (λh=>h.2 J) c X];exact aB<|U (bC qC)<|Y (kc nL (PX (oB o) ((1+2+2)+2) (b++32::(kA o.tags).1.data.toList) T (by have:=i;omega)))<|Y aH<|V aH<|aC<|Ru<|Qq
 have a:¬ 0<C o.tags:=by have:=b_ v;rw[g_]at this;omega
 have c:sR o=b:=by rw[sR,G,length_eq_zero_iff.1 (by omega:C o.tags=0)];exact append_nil _
 refine aB<|S<|U (bC qC)<|Y (kc call208 (QO (oB o) (1+2+2) b T))<|V iX<|Cn ?_ ?_<;>intro p
 .have B:=b9 p;rw[GT f (λh=>a h.1) c X];exact U aH<|V aH<|aC<|Ru<|Qq
 have B:=b_ p;rw[GU f (λh=>a h.1) c X];exact aB<|U (bC qC)<|Y (kc nL (PX (oB o) (1+2+2) b T (by have:=g;omega)))<|Y aH<|V aH<|aC<|Ru<|Qq
theorem lG:∀ {l} {w},32∉w->(∀x∈l,32∉x)->dV 32 (bT [32] (w::l))=w::l
 | [],w,h,_=>by rw[bT,List.flatMap_nil,List.append_nil];exact sF h
 |a::l,w,h,b=>by
  have e:bT [32] (w::a::l)=w++32::bT _ (a::l):=rfl;rw[e,kD h,lG (b a mem_cons_self) λx c=>b x (mem_cons_of_mem _ c)]
theorem TU:∀l,bT [32] (dV 32 l)=l
 | []=>rfl
 | b::l=>by
  have a:=TU l;have c:=rR 32 l;rw[dV];cases e:dV _ l with
  |nil=>rw[e]at c;exact absurd c (Nat.lt_irrefl 0)
  |cons x r =>
   rw[e,bT]at a;by_cases h:b=32
   .rw[b6 h,bT,flatMap_cons,append_assoc,a,h];rfl
   rw[a8 h,bT,headD_cons,tail_cons,cons_append,a]
theorem X0{x}(h:0<=x)(a:x<1000000000000000000):WB (Lib.itoa x)=x:=by rw[WB,D4 h a]
theorem Qj(l):(bs l).map a_=l:=by rw[bs,map_map];exact(map_congr_left λs _=>gE s).trans (map_id _)
theorem UI:∀l:List _,C (l.flatMap qV)<=2*C l
 | []=>h_ _
 | b::l=>by
  have B:=UI l;have h:C (qV b)<=2:=by
   rw[qV]
   grind
  rw[flatMap_cons,j8,j6];omega
theorem Dz{v}(D:N v<=200):(fO (a_ (dB (ν (μ v))))).1=[⟨3,v,0,0⟩]:=by
 have b:(a_ (dB (ν (μ v)))).data.toList.drop 0=dB (ν (μ v))++[]:=by rw[append_nil];rfl
 have B:C (dB (ν (μ v)))<=402:=by
  have:=UI (ν (μ v));rw[aS]at this;rw[dB,j6,j8,length_singleton];omega
 have c:0<C (dB (ν (μ v))):=by rw[dB,j6];omega
 have d:=D5 (J9 b) Z (rV b c) c (all_nil (fP b));rw[fO,a8 (by rw[cA];omega),d _ (by rw[cA,append_nil];omega)];rfl
theorem DM{w:List UInt8}{r}:(w::r).headD []=w:=rfl
theorem M2{e:b8}(B:gK e=T)(t:fX e=0):nZ (fT e)=e/\(10:UInt8)∉fT e:=by
 have ⟨⟨J,K⟩,c,i⟩:=uW.1 B;rw[fX]at t;by_cases j:e.op=1
 .rw[b6 j]at t;have ⟨E,z,_⟩:=QL t;have G:=qf t;rw[GB,b6 j,j]at i;rw[fT,b6 j];constructor
  .rw[nZ,kD E_,DM,E6,b6 rfl];show (⟨1,a6,a6,a6,0,0,a6,a6,[],(vM (a_ (fK e.obj).1.data.toList)).1⟩:b8)=e;rw[gE,G];exact i
  rw[z];intro h;rcases mem_append.1 h with h|h
  .revert h;decide
  rcases l9.1 h with h|h
  .simp_all
  exact aBn E h
 rw[xH,a8 j,l6]at c;have ⟨u,c⟩:=c;have l:=mX u;rw[fT,a8 j];by_cases d:e.op=2
 .rw[b6 d]at c;have n:(0<=e.x/\e.x<1048576)/\0<=e.y/\e.y<1048576:=by
   rw[ra]at c
   grind
  rw[GB,a8 j,b6 d,d]at i;rw[gS,b6 d];have H:=G7 n.1.1;have I:=G7 n.2.1;refine⟨?_,yO E_ ?_⟩
  .rw[nZ,lG E_ F_,DM,E6,a8 E_,b6 ⟨Z,Z⟩];show (⟨2,a_ (ν (μ e.id)),a6,a6,WB (Lib.itoa e.x),WB (Lib.itoa e.y),a6,a6,[],j7⟩:b8)=e;rw[gE,X0 n.1.1 X,X0 n.2.1 X];exact i
  intro w a;simp only[l9,q8,or_false]at a;rcases a with rfl|rfl|rfl|rfl;all_goals first|exact E_|grind|grind|grind
 by_cases g:e.op=3
 .rw[a8 d,b6 g,l6,k_]at c;have q:=mX c.1;rw[GB,a8 j,a8 d,b6 g,g]at i;rw[gS,a8 d,b6 g];refine⟨?_,yO E_ ?_⟩
  .have D:bT [32] [BJ,ν (μ e.id),ν (μ e.key),dB (ν (μ e.val))]=BJ++32::(ν (μ e.id)++32::(ν (μ e.key)++32::dB (ν (μ e.val)))):=by simp[bT]
   have x:=rR 32 (dB (ν (μ e.val)));rw[D,nZ,kD E_,kD l.1,kD q.1,DM,E6,a8 E_,a8 (λh=>absurd h.1 E_),b6 ⟨Z,F_⟩];show (match (fO (a_ (bT [32] (dV 32 (dB (ν (μ e.val))))))).1 with
    | [f]=>(⟨3,a_ (ν (μ e.id)),a6,a6,0,0,a_ (ν (μ e.key)),f.text,[],j7⟩:b8)
    |_=>OZ)=e
   rw[TU,Dz X,gE,gE];exact i
  intro w a;simp only[l9,q8,or_false]at a;rcases a with rfl|rfl|rfl|rfl;all_goals first|exact E_|exact l.2|exact q.2|exact gp _
 by_cases k:e.op=4
 .rw[a8 d,a8 g,b6 k,l6,l6,all_eq_true]at c;have F:=c.2;rw[GB,a8 j,a8 d,a8 g,b6 k,k]at i;rw[gS,a8 d,a8 g,b6 k];have r:∀(b:UInt8),(b=32\/b=10)->∀w∈bs e.refs,b∉w:=by
   intro b r w a;obtain ⟨s,x,rfl⟩:=mem_map.1 a;have:=mX (F s x);rcases r with rfl|rfl;all_goals first|exact this.1|exact this.2
  refine⟨?_,yO E_ ?_⟩
  .rw[nZ,lG E_ (by intro w a;rcases l9.1 a with rfl|a;all_goals first|exact l.1|exact r 32 (.inl Z) w a),DM,E6,a8 E_,a8 (λh=>absurd h.1 E_),a8 (λh=>absurd h.1 E_),b6 ⟨Z,by simp only[j6];omega⟩];show (⟨4,a_ (ν (μ e.id)),a6,a6,0,0,a6,a6,(bs e.refs).map a_,j7⟩:b8)=e;rw[gE,Qj];exact i
  intro w a;rcases l9.1 a with rfl|a
  .decide
  rcases l9.1 a with rfl|a;all_goals first|exact l.2|exact r 10 (.inr Z) w a
 by_cases m:e.op=5
 .rw[GB,a8 j,a8 d,a8 g,a8 k,b6 m,m]at i;rw[gS,a8 d,a8 g,a8 k,b6 m];refine⟨?_,yO E_ ?_⟩
  .rw[nZ,lG E_ (by intro w a;rw[q9]at a;subst a;exact l.1),DM,E6,a8 E_,a8 (λh=>absurd h.1 E_),a8 (λh=>absurd h.1 E_),a8 (λh=>absurd h.1 E_),b6 ⟨Z,Z⟩];show (⟨5,a_ (ν (μ e.id)),a6,a6,0,0,a6,a6,[],j7⟩:b8)=e;rw[gE];exact i
  intro w a;simp only[l9,q8,or_false]at a;rcases a with rfl|rfl;all_goals first|exact E_|exact l.2
 by_cases o:e.op=6
 .rw[a8 d,a8 g,a8 k,a8 m,b6 o,l6]at c;have q:=mX c.1;have p:=mX c.2;rw[GB,a8 j,a8 d,a8 g,a8 k,a8 m,b6 o,o]at i;rw[gS,a8 d,a8 g,a8 k,a8 m,b6 o];refine⟨?_,yO E_ ?_⟩
  .rw[nZ,lG E_ (by intro w a;simp only[l9,q8,or_false]at a;rcases a with rfl|rfl|rfl;all_goals first|exact l.1|exact q.1|exact p.1),DM,E6,a8 E_,a8 (λh=>absurd h.1 E_),a8 (λh=>absurd h.1 E_),a8 (λh=>absurd h.1 E_),a8 (λh=>absurd h.1 E_),b6 ⟨Z,Z⟩];show (⟨6,a_ (ν (μ e.id)),a_ (ν (μ e.other)),a_ (ν (μ e.node)),0,0,a6,a6,[],j7⟩:b8)=e;rw[gE,gE,gE];exact i
  intro w a;simp only[l9,q8,or_false]at a;rcases a with rfl|rfl|rfl|rfl;all_goals first|exact E_|exact l.2|exact q.2|exact p.2
 have y:e.op=7:=X
 rw[a8 d,a8 g,a8 k,a8 m,a8 o]at c;have p:=mX c;rw[GB,a8 j,a8 d,a8 g,a8 k,a8 m,a8 o,y]at i;rw[gS,a8 d,a8 g,a8 k,a8 m,a8 o];refine⟨?_,yO E_ ?_⟩
 .rw[nZ,lG E_ (by intro w a;simp only[l9,q8,or_false]at a;rcases a with rfl|rfl;all_goals first|exact l.1|exact p.1),DM,E6,a8 E_,a8 (λh=>absurd h.1 E_),a8 (λh=>absurd h.1 E_),a8 (λh=>absurd h.1 E_),a8 (λh=>absurd h.1 E_),a8 (λh=>absurd h.1 E_),b6 ⟨Z,Z⟩];show (⟨7,a_ (ν (μ e.id)),a_ (ν (μ e.other)),a6,0,0,a6,a6,[],j7⟩:b8)=e;rw[gE,gE];exact i
 intro w a;simp only[l9,q8,or_false]at a;rcases a with rfl|rfl|rfl;all_goals first|exact E_|exact l.2|exact p.2
end Go.Proofs.C
namespace Go.Abs
section
section
variable{P:Program}{H:aF}
theorem Ep(s)(c):Zv P Extern.BytealgCount.count H [.pv (.str s),.pv (.int .u8 c)] (.pv (.int .i64 ((Lib.countByte (ν (μ s)) c.toNat.toUInt8)))):=by intro w I ι cs b h;obtain ⟨u,v,rfl,d,e⟩:=fa b h;rw[d.str_inv,e.int_inv];exact⟨_,Lib.run_countString s c w,.pv (.int _ _)⟩
end
end
end Go.Abs
namespace Go.Proofs.C
open Go.Proofs.Tryz
open Go.Abs
abbrev Sv:B_:=⟨#[32]⟩
theorem W2(s)(H:aF):RC 244 [sv s,sv Sv] (iv (Lib.indexByte (ν (μ s)) 32)) H:=by
 refine Pu<|Bd func244 Z ntmps244<|Sz aH<|U aA<|Y (gL U_)<|V aH<|S<|aE<|S<|aT (t:=16) (n:=9) (A_:=θ (Sv=s)) ?_ ?_
 .all_goals refine Y aA<|Y cF<|Dm ?_<;>(refine Sp 19 (λc=>?_) λc=>?_)<;>(try contradiction)<;>refine O aA<|O aA<|O wU<|Y cD<|Da ?_<;>exact Gj (h:=by rfl)
 refine Cn ?_ ?_<;>intro d
 .have e:=b9 d;subst e;exact Sz aH<|aC<|Rt<|Qq
 refine U aA<|Y cF<|Da<|Cn ?_ ?_<;>intro b
 .exact U aA<|Y aA<|Y (cK Z U_ Z Z X x7 (show 0<N (⟨#[32]⟩:B_) from Nat.zero_lt_one) Z)<|Y (kc call250 (AP s 32 _))<|V aH<|aC<|Rt<|Qq
 cases b
theorem Yb(s)(H):RC 282 [sv s,sv Sv] (iv (Lib.indexByte (ν (μ s)) 32)) H:=by refine Pu ?_;exact Bd func282 Z ntmps282<|Sz aH<|U aA<|Y aA<|Y (bH Z Z call244 Z (W2 s _))<|V aH<|aC<|Rt<|Qq
def ua(s:B_):AV:=if Lib.indexByte (ν (μ s)) 32 = -1 then .tup [sv s,sv ⟨#[]⟩,bv η]else .tup [sv (s.extract 0 (Lib.indexByte (ν (μ s)) 32).toNat),sv (s.extract ((Lib.indexByte (ν (μ s)) 32).toNat+1) (N s)),bv T]
theorem Uo(s:B_)(H:aF)(E:N s<2^40):RC 194 [sv s,sv Sv] (ua s) H:=by
 refine Pu ?_;have d:=λH=>W2 s H;rw[ua];rcases Classical.em (Lib.indexByte (ν (μ s)) 32 = -1)with c|c
 .rw[b6 c];simp only[c]at d;refine Bd func194 Z ntmps194<|U aH<|Y aH<|V aH<|S<|U aA<|Y aA<|Y (kc call244 (d _))<|V aH<|U aA<|V AF<|Cn ?_ ?_<;>intro b
  .cases b
  refine aB<|U aA<|Y aH<|Y aH<|V aH<|aC<|mK (H':=[]) (.inr Z) Z (aI Z) (aI Z) (aI Z) P_ Qq
 rw[a8 c];have ⟨w,r,f,B,e⟩:=yS c;simp only[e]at d;rw[e,l_];have D:C w+1+C r=N s:=by rw[<-show C s.data.toList=N s by simp,f,j8,j6];omega
 refine Bd func194 Z ntmps194<|U aH<|Y aH<|V aH<|S<|U aA<|Y aA<|Y (kc call244 (d _))<|V aH<|U aA<|V AF<|Cn ?_ ?_<;>intro b
 .refine S<|aM a7<|Cq aA<|Cq aA<|Cq (bM (l:=0) (h:=(C w)) Z U_ Z Z Z X X Z)<|Cq aA<|Cq aA<|Cq aA<|Cq (gL U_)<|Cq kp<|Cq (bM (l:=(C w+1)) (h:=N s) Z U_ Z Z Z X X Z)<|Cq aH<|Cq aH<|Cq aH<|bG<|Kr<|aC<|mK (H':=[]) (.inr Z) Z (aI Z) (aI Z) (aI Z) P_ Qq
 have F:=b_ b;omega
theorem aEf(s)(H:aF)(d:N s<2^40):RC 137 [sv s,sv Sv] (ua s) H:=by
 refine Pu ?_;have b:=λH=>Uo s H d;rcases Classical.em (Lib.indexByte (ν (μ s)) 32 = -1)with c|c
 .simp only[ua,b6 c]at b |-;refine Bd func137 Z ntmps137<|U aH<|Y aH<|V aH<|U aA<|Y aA<|Y (kc call194 (b _))<|Y dO<|Y dO<|Y dO<|Y aH<|Y aH<|V aH<|aC<|mK (H':=[]) (.inr Z) Z (aI Z) (aI Z) (aI Z) P_ Qq
 simp only[ua,a8 c]at b |-;refine Bd func137 Z ntmps137<|U aH<|Y aH<|V aH<|U aA<|Y aA<|Y (kc call194 (b _))<|Y dO<|Y dO<|Y dO<|Y aH<|Y aH<|V aH<|aC<|mK (H':=[]) (.inr Z) Z (aI Z) (aI Z) (aI Z) P_ Qq
abbrev sNl:B_:=⟨#[10]⟩
def DU(s:B_):Bool:=θ ((1:Int)<=(N s:Int))&&θ (s.extract (N s - 1) (N s)=sNl)
def EV(s:B_):B_:=if DU s then s.extract 0 (N s - 1)else s
theorem kd(s:B_)(H:aF)(D:N s<2^40):RC 256 [sv s,sv sNl] (bv (DU s)) H:=by
 refine Pu<|Bd func256 Z ntmps256<|Sz aH<|S<|aT (t:=4) (n:=18) (A_:=DU s) ?_ ?_
 .all_goals refine Y aA<|Y (gL U_)<|Y aA<|Y (gL U_)<|Y AF<|Dm ?_<;>(refine Sp 10 (λb=>?_) λb=>?_)<;>(first|exact s_|refine M<|M<|M<|M<|M<|M<|M<|M<|M ?_|refine O aA<|O aA<|O (gL U_)<|O aA<|O (gL U_)<|O (by exact dT Z Z Z (show ξ.wrap ((N s:Int) - 1)=((N s - 1:Nat):Int)by have B:(1:Int)<=(N s:Int):=b9 b;rw[IntKind.wrap_i64];omega))<|O (bM (l:=(N s - 1)) (h:=N s) Z U_ Z Z Z X X Z)<|O aA<|O wU ?_)<;>refine Y cD<|Da ?_<;>exact Gj (h:=by(simp only[DU];rw[show θ ((1:Int)<=(N s:Int))=_ from b];rfl))
 exact aC<|Rt<|Qq
theorem Jn(s:B_)(H:aF)(c:N s<2^40):RC 205 [sv s,sv sNl] (sv (EV s)) H:=by
 refine Pu<|Bd func205 Z ntmps205<|Sz aH<|S<|U aA<|Y aA<|V (kc call256 (kd s _ c))<|Cn ?_ ?_<;>intro b
 .have h1:=by
   have h:=b;rw[DU,l6,k_]at h;omega
  rw[EV,b6 b];exact U aA<|Y aA<|Y (gL U_)<|Y aA<|Y (gL U_)<|Y (by exact dT Z Z Z (show ξ.wrap ((N s:Int) - 1)=((N s - 1:Nat):Int)by rw[IntKind.wrap_i64];omega))<|Y (bM (l:=0) Z U_ Z Z Z X X Z)<|V aH<|aC<|Rt<|Qq
 rw[EV,a8 F_];exact aB<|U aA<|V aH<|aC<|Rt<|Qq
theorem oh(s)(H)(b:N s<2^40):RC 144 [sv s,sv sNl] (sv (EV s)) H:=by refine Pu ?_;exact Bd func144 Z ntmps144<|Sz aH<|U aA<|Y aA<|Y (bH Z Z call205 Z (Jn s _ b))<|V aH<|aC<|Rt<|Qq
theorem Yy(s:B_)(H:aF):RC 281 [sv s,sv Sv] (iv ((s.data.toList.count 32:Nat):Int)) H:=by
 refine Pu<|Bd func281 Z ntmps281<|Sz aH<|S<|U aA<|Y (gL U_)<|V cF<|Cn ?_ ?_<;>intro c
 .cases c
 refine aB<|S<|U aA<|Y (gL U_)<|V cF<|Cn ?_ ?_<;>intro b
 .exact U aA<|Y aA<|Y (cK Z U_ Z Z X x7 (show 0<N (⟨#[32]⟩:B_) from Nat.zero_lt_one) Z)<|Y (QH Z Z func304 Z Z Z Z Z (Ep s 32))<|V aH<|aC<|Rt<|Qq
 cases b
def ofY(l:List UInt8):B_:=⟨l.toArray⟩
def cS(s:B_):List B_:=(dV 32 (ν (μ s))).map ofY
def CW(D:List B_)(m:Nat):List (List AV):=D.map (λe=>(S_ e).map AV.pv)++List.replicate m [sv ⟨#[]⟩]
theorem W1(D)(m):(CW D (m+1))[C D]?=A [sv ⟨#[]⟩]:=by rw[CW,getElem?_append_right H_,g_,Nat.sub_self];rfl
theorem ov{s}(h:C (cS s)=1):cS s=[s]:=by rw[cS,g_,yC]at h;have a:32∉ν (μ s):=count_eq_zero.1 X;rw[cS,sF a];rfl
theorem R1(D)(m)(x):(CW D (m+1)).set (C D) [sv x]=CW (D++[x]) m:=by unfold CW;rw[set_append_right _ _ H_,g_,Nat.sub_self,map_append,append_assoc];rfl
theorem R3(H)(D)(m):∀r∈CW D m,∀a∈r,Clo H a:=by
 intro r b a c;rcases mem_append.1 b with b|b
 .obtain ⟨d,_,rfl⟩:=mem_map.1 b;obtain ⟨p,_,rfl⟩:=mem_map.1 c;simp
 rw[eq_of_mem_replicate b,q9]at c;subst c;simp
instance(H)(D)(m):W_ (H) (CW D m):=⟨R3 H D m⟩
theorem exL(s:B_)(i j):(s.extract i j).data.toList=(s.data.toList.drop i).take (j - i):=H_
theorem tn{a b:B_}(h:ν (μ a)=ν (μ b)):a=b:=by cases a;simp_all
theorem Mx{s:B_}{w r}(h:ν (μ s)=w++32::r):s.extract 0 (C w)=ofY w/\(s.extract (C w+1) (N s)).data.toList=r:=by
 have B:N s=C w+1+C r:=by
  show s.data.size=_;rw[<-Array.length_toList,h,j8,j6];omega
 constructor
 .refine tn ?_;rw[exL,drop_zero,Nat.sub_zero,h,take_left];rfl
 simp_all
theorem aFt{H1}{id g n}{ob}(ps)(b:H1.get id=A ob)(c:ob.g=g)(a:ob.rows=ps.map (·.map .pv))(d:C ps=n):Fin [] H1 (.osl id g 0 n) [] (.pv (.sl ps)):=by subst c d;exact Fin.fz _ b a (.osl H_) Z T_ T_
theorem sy(d:B_)(H:aF)(c:N d<2^40):RC 251 [sv d,sv Sv,iv 0,iv (-1)] (.pv (aK (cS d))) H:=by
 refine Pu ?_;obtain ⟨r4,o⟩:∃r4,r4=d.data.toList.count 32:=X_;have Q:r4<=N d:=by rw[o];exact Nat.le_trans List.count_le_length (by simp)
 have x:=λH=>Yy d H;rw[<-o]at x;have e:C (dV 32 (ν (μ d)))=r4+1:=by rw[yC,o]
 refine Bd func251 Z ntmps251<|Sz aH<|S<|U aA<|V cF<|Cn ?_ ?_<;>intro p
 .cases p
 refine aB<|S<|U aA<|V wU<|Cn ?_ ?_<;>intro u
 .have:=b9 u;cases this
 refine aB<|S<|U aA<|V cI<|Cn ?_ ?_<;>intro k
 .refine Rd aA<|Y aA<|Y (kc call281 (x _))<|Y kp<|V aH<|U aA<|Y aA<|Y (gL U_)<|Y kp<|Y (C9 (r:=((r4+1:Nat):Int)) Z Z Z X)<|V aH<|U aA<|Y (ET (id:=31) Z aY sW Th Z Z Z X X (l_ _) (l_ _) X Z)<|V aH<|U aA<|Y (by exact dT Z Z Z (show ξ.wrap (((r4+1:Nat):Int) - 1)=(r4:Int)by rw[IntKind.wrap_i64];omega))<|V aH<|Sz aH<|S<|aE ?_;refine eZ (λ(D:List B_) (a:B_)=>([(0,sv a),(1,sv Sv),(2,iv 0),(3,iv (r4:Int)),(8,.pv (.sl [])),(9,.osl 31 0 0 (r4+1)),(10,iv (C D:Int))],[(31,⟨0,1,9,CW D (r4+1 - C D)⟩)])) (λD a=>cS d=D++cS a/\N a<=N d) (λD a=>r4 - C D) [] d ⟨Z,h_ _⟩ ?_ ?_
  .exact L_
  rintro D a ⟨d_,hr⟩;have g:C D+C (cS a)=r4+1:=by
   have:=congrArg List.length d_;rw[j8,cS,g_,e]at this;exact this.symm
  have K:0<C (cS a):=by rw[cS,g_];exact rR _ _
  have ⟨m,L⟩:∃m,r4+1 - C D=m+1:=⟨r4 - C D,X⟩;have z:=λH=>Yb a H;rw[L];rcases Nat.lt_or_ge (C D) r4 with hlt|hge
  .have E:Lib.indexByte (ν (μ a)) 32 ≠ -1:=λh=>by
    have W:=sF (yR.1 h);rw[cS,W]at g;have:C D+1=r4+1:=g;omega
   have ⟨w,r,q,F,B⟩:=yS E;have ⟨I,y⟩:=Mx q;have b:C w+1+C r=N a:=by rw[<-show C a.data.toList=N a by simp,q,j8,j6];omega
   have R:cS a=a.extract 0 (C w)::cS (a.extract (C w+1) (N a)):=by
    rw[cS,q,kD F,map_cons,I,cS,y]
   simp only[B]at z;refine S<|U aA<|Y aA<|V cI<|Cn ?_ ?_<;>intro v
   .refine aB<|aE<|U aA<|Y aA<|Y (kc call282 (z _))<|V aH<|S<|U aA<|V cI<|Cn ?_ ?_<;>intro l
    .have:=b9 l;omega
    refine aB<|U aA<|Y aA<|Y aA<|Y aA<|Y aA<|Y (by exact dD Z Z Z (show IntKind.i64.wrap ((w.length:Int)+0)=(w.length:Int)by rw[IntKind.wrap_i64];omega))<|Y (by exact bM (l:=0) (h:=w.length) Z U_ Z Z Z X X Z)<|Y (by exact dL Z aY Z Z Z Z Z X (by exact l_ _) X (r7 _))<|Uu (by exact cM Z V_ Z Z Z Z Z (W1 D m) Nat.zero_lt_one Z (R1 D m _))<|Zz<|U aA<|Y aA<|Y aA<|Y (gL U_)<|Y kp<|Y (by exact bM (l:=(w.length+1)) (h:=a.size) Z U_ Z Z Z X X Z)<|V aH<|Rg<|Dm ?_;refine Y kp<|Da ?_;have G:(D++[a.extract 0 w.length]).length=D.length+1:=H_
    have t:N (a.extract (C w+1) (N a))<=N d:=by rw[<-show C (a.extract (C w+1) (N a)).data.toList=N (a.extract (C w+1) (N a)) by simp,y];omega
    refine⟨D++[a.extract 0 (C w)],a.extract (C w+1) (N a),⟨F_,t⟩,X,?_⟩;rw[G,show r4+1 - (C D+1)=m by omega];exact L_
   have:=b_ v;omega
  have P:C D=r4:=by omega
  have J:cS a=[a]:=ov X;have j:m=0:=X
  subst j;refine S<|U aA<|Y aA<|V cI<|Cn ?_ ?_<;>intro n
  .have:=b9 n;omega
  refine aP<|U aA<|Y aA<|Y aA<|Y (by exact dL Z aY Z Z Z Z Z X (by exact l_ _) X (r7 _))<|Uu (by exact cM Z V_ Z Z Z Z Z (W1 D 0) Nat.zero_lt_one Z (R1 D 0 _))<|Zz<|U aA<|Y aA<|Y kp<|Y (by exact kY (l:=0) (h:=(D.length+1)) Z aY Z Z Z Z Z Z X X Z Z)<|V aH<|aC ?_;have s:(D++[a]).map S_=(cS d).map S_:=F_
  refine cT (H':=[]) (.inr Z) Z (aI Z) (aFt (id:=31) ((D++[a]).map S_) Z Z (by show CW (D++[a]) 0=_;rw[CW,replicate_zero,append_nil,map_map];rfl) H_) ⟨?_,Z⟩;rw[aK,s]
 cases k
theorem Bo(s)(H)(b:N s<2^40):RC 200 [sv s,sv Sv] (.pv (aK (cS s))) H:=by refine Pu ?_;exact Bd func200 Z ntmps200<|Sz aH<|U aA<|Y aA<|Y (bH Z Z call251 Z (sy s _ b))<|V aH<|aC<|Rt<|Qq
def AB(t:B_):B_:=if Lib.indexByte (ν (μ t)) 10 = -1 then t else t.extract 0 ((Lib.indexByte (ν (μ t)) 10).toNat+1)
def TK(t:B_):B_:=if Lib.indexByte (ν (μ t)) 10 = -1 then⟨#[]⟩else t.extract ((Lib.indexByte (ν (μ t)) 10).toNat+1) (N t)
def jS(s:B_):Nat->B_
 |0=>s
 |k+1=>TK (jS s k)
def jE(s:B_):List B_:=(rW (ν (μ s))).map ofY
theorem aER(s):ofY (ν (μ s))=s:=tn (Z)
theorem szY(s:B_):C s.data.toList=N s:=rfl
theorem Od{t:B_}(h:Lib.indexByte (ν (μ t)) 10 ≠ -1):∃w r,ν (μ t)=w++10::r/\(10:UInt8)∉w/\Lib.indexByte (ν (μ t)) 10=(C w:Int)/\t.extract 0 (C w+1)=ofY (w++[10])/\(t.extract (C w+1) (N t)).data.toList=r/\C w+1+C r=N t:=by
 have ⟨w,r,d,g,e⟩:=yS h;have f:C w+1+C r=N t:=by rw[<-szY,d,j8,j6];omega
 have c:ν (μ t)=(w++[10])++r:=F_
 refine⟨w,r,d,g,e,tn ?_,?_,f⟩
 .rw[exL,drop_zero,Nat.sub_zero,c,show C w+1=C (w++[(10:UInt8)]) by simp,take_left];rfl
 rw[exL,c,show C w+1=C (w++[(10:UInt8)]) by simp,drop_left];exact take_of_length_le G_
theorem B1{t}(h:¬ 0<N t):jE t=[]:=by have:ν (μ t)=[]:=length_eq_zero_iff.1 F_;rw[jE,this];rfl
theorem DF{t}(h:0<N t):jE t=AB t::jE (TK t)/\N (TK t)<=N t:=by
 rw[AB,TK];by_cases a:Lib.indexByte (ν (μ t)) 10 = -1
 .rw[b6 a,b6 a];refine⟨?_,l7 _⟩;rw[jE,OT (yR.1 a) (λe=>by rw[<-szY]at h;simp_all)];rfl
 rw[a8 a,a8 a];have ⟨w,r,c,f,g,d,b,B⟩:=Od a;rw[g,l_,d];refine⟨?_,H_⟩;rw[jE,c,I7 f,map_cons,jE,b]
theorem BQ(s):∀k,k<=C (jE s)->jE (jS s k)=(jE s).drop k/\N (jS s k)<=N s
 |0,_=>⟨Z,h_ _⟩
 | k+1,h=>by
  obtain ⟨b,d⟩:=BQ s k (le_of_succ_le h);have i:0<N (jS s k):=by
   rcases Nat.lt_or_ge 0 _ with c|c
   .exact c
   have g:=B1 (t:=jS s k) X;rw[g]at b;have:=congrArg List.length b;rw[p_,length_nil]at this;omega
  have ⟨f,e⟩:=DF i;rw[f]at b;refine⟨?_,Nat.le_trans e d⟩;have:=congrArg List.tail b;rw[tail_drop]at this;exact this
theorem Xr{s}{k}(h:k<C (jE s)):(jE s)[k]?=A (AB (jS s k))/\0<N (jS s k):=by
 have ⟨b,B⟩:=BQ s k (Nat.le_of_lt h);have c:0<N (jS s k):=by
  rcases Nat.lt_or_ge 0 _ with d|d
  .exact d
  have e:=B1 (t:=jS s k) X;rw[e]at b;have:=congrArg List.length b;rw[p_,length_nil]at this;omega
 refine⟨?_,c⟩;rw[(DF c).1]at b;have:=congrArg List.head? b;rw[head?_drop]at this;exact this.symm
def lB(s:B_):Ob:=bx 1 9 [sv s]
theorem Xq(s)(H)(b:H.get 933=ζ):aU φ 142 [sv s] H (λr H'=>r=.clo 198 [.ref 933 0 0 0]/\H'=(933,lB s)::H):=by refine Bd func142 Z ntmps142<|U (tL Z Z Z Z b)<|V aH<|U (iC Z Z)<|V aH<|aC ?_;refine cT (.inr Z) Z (aI Z) Fin.refl Qq
theorem Nn(s:B_)(y:AV)(j:Nat->aF)(a:N s<2^40)(f:∀k,(j k).get 933=A (lB (jS s k)))
  (E:∀k,k<C (jE s)->dQ φ y [sv (AB (jS s k))] ((933,lB (jS s (k+1)))::j k) (λr H'=>r=bv T/\H'=j (k+1))) :
  aU φ 198 [y,.ref 933 0 0 0] (j 0) (λr H'=>r=.tup []/\H'=j (C (jE s))):=by
 refine Bd func198 Z ntmps198<|aE<|bF (σ:=Nat) (λk=>([(0,y),(1,.ref 933 0 0 0)],j k)) (λk=>k<=C (jE s)) (λk=>C (jE s) - k) 0 (l7 _) ?_ ?_
 .exact E0
 rintro k F;have ⟨q,b⟩:=BQ s k F;have D:=λH=>sL (jS s k) 10 H;have K:jS s (k+1)=TK (jS s k):=rfl;refine S<|U (aX Z N_ Z (f k) Z Z Z)<|Y (gL U_)<|V iX<|Cn ?_ ?_<;>intro o
 .have I:0<N (jS s k):=I_ o
  have x:k<C (jE s):=by
   rcases Nat.lt_or_ge k (C (jE s)) with h|h
   .exact h
   rw[(DF I).1,drop_eq_nil_of_le h]at q;cases q
  have c:=E k x;rw[K,TK,AB]at c;rcases Classical.em (Lib.indexByte (jS s k).data.toList 10 = -1)with i|i
  .rw[b6 i,b6 i]at c;have l:∀H,RC 199 [sv (jS s k),.pv (.int .u8 10)] (iv (-1)) H:=λH=>by
    have:=D H
    rwa [show Lib.indexByte (jS s k).data.toList ((10:Int).toNat.toUInt8) = -1 from i]at this
   refine aB<|aE<|Sz aH<|S<|U (aX Z N_ Z (f k) Z Z Z)<|Y (kc call199 (l _))<|V aH<|U aA<|V AF<|Cn ?_ ?_<;>intro B
   .cases B
   refine Rd (aX Z N_ Z (f k) Z Z Z)<|Y aH<|Uu (mE Z V_ Z Z Z Z (f k) Z Z Z)<|Zz<|U aA<|Y aA<|Y (dK Z Z Z (c))<|V iH<|Cn ?_ ?_<;>intro u
   .cases u
   refine aB ?_;exact⟨k+1,X,X,E0⟩
  rw[a8 i,a8 i]at c;have ⟨w,r,L,P,J,Q,R,W⟩:=Od i;rw[J,l_]at c;have l:∀H,RC 199 [sv (jS s k),.pv (.int .u8 10)] (iv (C w:Int)) H:=λH=>by
   have:=D H
   rwa [show Lib.indexByte (jS s k).data.toList ((10:Int).toNat.toUInt8)=(C w:Int)from J]at this
  refine aB<|aE<|Sz aH<|S<|U (aX Z N_ Z (f k) Z Z Z)<|Y (kc call199 (l _))<|V aH<|U aA<|V AF<|Cn ?_ ?_<;>intro t
  .refine aM a7<|Cr [933] (λn d=>by exact aX Z N_ Z ((d _ Z).trans (f k)) Z Z Z)<|x_ aA<|x_ (by exact dD Z Z Z (show ξ.wrap ((C w:Int)+1)=((C w+1:Nat):Int)by rw[IntKind.wrap_i64];omega))<|x_ (by exact bM (l:=0) (h:=(C w+1)) Z U_ Z Z Z X X Z)<|Cr [933] (λn d=>by exact aX Z N_ Z ((d _ Z).trans (f k)) Z Z Z)<|x_ aA<|x_ (by exact dD Z Z Z (show ξ.wrap ((C w:Int)+1)=((C w+1:Nat):Int)by rw[IntKind.wrap_i64];omega))<|x_ (by exact bM (l:=(C w+1)) (h:=N (jS s k)) Z U_ Z Z Z X X Z)<|x_ aH ?_;refine Cp [933] (λn d=>by exact mE Z V_ Z Z Z Z ((d _ Z).trans (f k)) Z Z Z)<|bG<|Kr<|U aA<|Y aA<|Y (dK Z Z Z (c))<|V iH ?_;refine Cn ?_ ?_<;>intro z
   .cases z
   refine aB ?_;exact⟨k+1,X,X,E0⟩
  have:=b_ t;omega
 have G:¬ 0<N (jS s k):=J_ o
 have v:k=C (jE s):=by
  rw[B1 G]at q;have:=congrArg List.length q;rw[length_nil,p_]at this;omega
 subst v;refine aP ?_;exact pE (H':=j (C (jE s))) (.inl Z) Z Fin.refl ⟨Z,Z⟩
theorem Is(w):Lib.trimSuffix (w++[10]) [10]=w:=by rw[Lib.trimSuffix,Lib.hasSuffix];simp
theorem It(s:B_):EV s=a_ (Lib.trimSuffix (ν (μ s)) [10]):=by
 have E:=szY s;rw[EV];cases h:DU s with
 | true =>
  rw[DU,l6,k_,k_]at h;have ⟨B,f⟩:=h;have e:s.data.toList.drop (N s - 1)=[10]:=by
   have:=congrArg (λx=>ν (μ x)) f;rw[exL]at this;refine Eq.trans ?_ (show ν (μ sNl)=[10]from Z);rw[<-this];exact(take_of_length_le F_).symm
  have b:ν (μ s)=s.data.toList.take (N s - 1)++[10]:=by rw[<-e,take_append_drop]
  refine tn ?_;rw[b6 Z,exL,cG,b,Is,drop_zero,Nat.sub_zero,<-b]
 | false =>
  rw[a8 E_,Lib.trimSuffix,a8,gE];intro c;have ⟨w,d⟩:=isSuffixOf_iff_suffix.1 (show ([10]:List UInt8).isSuffixOf (ν (μ s))=T from c);have D:N s=C w+1:=G_
  have:DU s=T:=by
   rw[DU,l6,k_,k_];refine⟨X,tn ?_⟩;rw[exL,<-d,show N s - 1=C w by omega,drop_left];exact take_of_length_le (by rw[length_singleton];omega)
  rw[h]at this;cases this
theorem Yx(s):∃b,ua s=.tup [sv (a_ ((dV 32 (ν (μ s))).headD [])),sv (a_ (s.data.toList.drop (C ((dV 32 (ν (μ s))).headD [])+1))),bv b]:=by
 rw[ua];by_cases h:Lib.indexByte (ν (μ s)) 32 = -1
 .refine⟨η,?_⟩;rw[b6 h,sF (yR.1 h),headD_cons,drop_eq_nil_of_le (le_succ _),gE];rfl
 have ⟨w,r,d,e,f⟩:=yS h;refine⟨T,?_⟩;have ⟨j,g⟩:=Mx d;have i:s.data.toList.drop (C w+1)=r:=by
  simp_all
 have c:(dV 32 (ν (μ s))).headD []=w:=by rw[d,kD e];rfl
 rw[a8 h,c,i,f,l_,j,show s.extract _ (N s)=a_ r from tn (by rw[g,cG])];rfl
theorem Bn(s)(i)(h:i<C (cS s)):(cS s)[i]?=A (a_ ((dV 32 (ν (μ s))).getD i [])):=by rw[cS,g_]at h;rw[cS,r8,getD_eq_getElem?_getD,n_ h];rfl
theorem Bm(s):C (cS s)=C (dV 32 (ν (μ s))):=g_ _
theorem tO{a b}:a_ a=a_ b↔a=b:=⟨λh=>by rw[<-cG a,h,cG],λh=>by rw[h]⟩
theorem cN(s)(l):dF (s::l)=N s+dF l:=rfl
theorem yN{e}{a}(b:e.op≠1)(h:bs a=gS e):(⟨(bT [32] (bs a)).toArray⟩)++⟨#[10]⟩=a_ (fT e++[10]):=tn (by
 rw[cG,fT,a8 b,<-h];simp)
theorem Vu{e}(a:e.op=1):(⟨#[112,117,116,32]⟩)++(fK e.obj).1++⟨#[10]⟩=a_ (fT e++[10]):=tn (by
 rw[fT,b6 a];rfl)
theorem NH{o}:N (fK o).1<=20000:=by
 rw[fK]
 split
 .split
  .exact l7 _
  split
  .exact l7 _
  simp_all
 exact l7 _
theorem y5{p:Prop}(h:p:=by show 1*_+_+_<_;simp only[cN,j6,length_nil];omega):p:=h
theorem aBy(e:b8)(H:aF)(k:V4 e)(g:gK e=T):RC 207 [av (bL e)] (.tup [sv (a_ (fT e++[10])),iv (fX e)]) H:=by
 refine Pu ?_;have ⟨⟨o1,o2⟩,F,o4⟩:=uW.1 g;rw[xH]at F;have h:=JE g;have t:dF []=0:=rfl;refine Bd func207 Z ntmps207<|U (kb 1)<|Y aH<|V aH<|Sz aH<|S<|U (bC iU)<|V (bQ M_)<|aE<|U cF<|Da<|Cn ?_ ?_<;>intro i
 .have E:e.op=1:=b9 i;have y:=NH (o:=e.obj);have a:N (⟨#[112,117,116,32]⟩:B_)=4:=rfl;have J:N (⟨#[10]⟩:B_)=1:=rfl;have j:N ((⟨#[112,117,116,32]⟩:B_)++(fK e.obj).1)=4+N (fK e.obj).1:=F_
  refine U (bC vO)<|Y (wY cB sizeOf135)<|Y (kc call253 (XX e.obj _ k.2.2))<|Y aA<|Y dO<|Y dO<|Y aH<|V aH<|U aA<|Y kq<|Y kq<|Y aA<|Y aH<|V aH<|aC<|Ru ?_;rw[Vu E,show fX e=(fK e.obj).2 from b6 E];exact Qq
 have E:e.op≠1:=b_ i;rw[a8 E,l6]at F;have ⟨x,I⟩:=F;have m:=dS x;refine U cF<|Da<|Cn ?_ ?_<;>intro D
 .have R:e.op=2:=b9 D;rw[b6 R,ra,l6,k_,k_]at I;have u:0<=e.x/\e.x<1048576:=X
  have v:0<=e.y/\e.y<1048576:=X
  have six:N (aV e.x)<=7:=by rw[<-aS];show C (Lib.itoa e.x)<=7;rw[kK _ u.1];exact cX X E_
  have τ:N (aV e.y)<=7:=by rw[<-aS];show C (Lib.itoa e.y)<=7;rw[kK _ v.1];exact cX X E_
  have Q:N (⟨#[109,111,118,101]⟩:B_)=4:=rfl;refine aM a7<|Cq (bC kB)<|Cq (bQ N_)<|Cq (bC jP)<|Cq (bC nA)<|Cq (bQ M_)<|Cq (kc mB (qB e.x X X _))<|Cq (bC jP)<|Cq (bC mZ)<|Cq (bQ M_)<|Cq (kc mB (qB e.y X X _))<|Cq (aL (([⟨#[109,111,118,101]⟩,e.id,aV e.x,aV e.y]:List B_).map S_) Z aY Z Z Z Z Z (jF _))<|Cq aH<|bG<|Kr<|Sr<|Dm ?_;have P:bs [⟨#[109,111,118,101]⟩,e.id,aV e.x,aV e.y]=gS e:=by
   rw[gS]
   (rw[b6 R];rfl)
  have G:e.op≠1:=X
  have K:∀H,RC 204 [.pv (aK [⟨#[109,111,118,101]⟩,e.id,aV e.x,aV e.y]),sv ⟨#[32]⟩] (sv ⟨(bT [32] (bs [⟨#[109,111,118,101]⟩,e.id,aV e.x,aV e.y])).toArray⟩) H:=λH=>xM [⟨#[109,111,118,101]⟩,e.id,aV e.x,aV e.y] ⟨#[32]⟩ H E_ y5;have L:N (⟨(bT [32] (bs [⟨#[109,111,118,101]⟩,e.id,aV e.x,aV e.y])).toArray⟩:B_)<=70000:=by
   show C (bT [32] (bs [⟨#[109,111,118,101]⟩,e.id,aV e.x,aV e.y]))<=_;have:=gA [⟨#[109,111,118,101]⟩,e.id,aV e.x,aV e.y];simp only[cN,j6,length_nil]at this;omega
  have J:N (⟨#[10]⟩:B_)=1:=rfl;refine Y (kc sA (K _))<|Y kq<|Y aH<|V aH<|aC<|Ru ?_;rw[yN G P,show fX e=0 from a8 G];exact Qq
 have R:e.op≠2:=b_ D;rw[a8 R]at I;refine U cF<|Da<|Cn ?_ ?_<;>intro B
 .have W:e.op=3:=b9 B;rw[b6 W,l6,k_]at I;have n:=dS I.1;have hq:=rT e.val;have Q:N (⟨#[116,97,103]⟩:B_)=3:=rfl;refine aM a7<|Cq (bC kB)<|Cq (bQ N_)<|Cq (bC oA)<|Cq (bQ N_)<|Cq (bC pC)<|Cq (bQ N_)<|Cq (kc call260 (xk e.val _ X))<|Cq (aL (([⟨#[116,97,103]⟩,e.id,e.key,⟨(dB (ν (μ e.val))).toArray⟩]:List B_).map S_) Z aY Z Z Z Z Z (jF _))<|Cq aH<|bG<|Kr<|Sr<|Dm ?_;have P:bs [⟨#[116,97,103]⟩,e.id,e.key,⟨(dB (ν (μ e.val))).toArray⟩]=gS e:=by
   rw[gS]
   (rw[a8 R,b6 W];rfl)
  have G:e.op≠1:=X
  have K:∀H,RC 204 [.pv (aK [⟨#[116,97,103]⟩,e.id,e.key,⟨(dB (ν (μ e.val))).toArray⟩]),sv ⟨#[32]⟩] (sv ⟨(bT [32] (bs [⟨#[116,97,103]⟩,e.id,e.key,⟨(dB (ν (μ e.val))).toArray⟩])).toArray⟩) H:=λH=>xM [⟨#[116,97,103]⟩,e.id,e.key,⟨(dB (ν (μ e.val))).toArray⟩] ⟨#[32]⟩ H E_ y5;have L:N (⟨(bT [32] (bs [⟨#[116,97,103]⟩,e.id,e.key,⟨(dB (ν (μ e.val))).toArray⟩])).toArray⟩:B_)<=70000:=by
   show C (bT [32] (bs [⟨#[116,97,103]⟩,e.id,e.key,⟨(dB (ν (μ e.val))).toArray⟩]))<=_;have:=gA [⟨#[116,97,103]⟩,e.id,e.key,⟨(dB (ν (μ e.val))).toArray⟩];simp only[cN,j6,length_nil]at this;omega
  have J:N (⟨#[10]⟩:B_)=1:=rfl;refine Y (kc sA (K _))<|Y kq<|Y aH<|V aH<|aC<|Ru ?_;rw[yN G P,show fX e=0 from a8 G];exact Qq
 have W:e.op≠3:=b_ B;rw[a8 W]at I;refine U cF<|Da<|Cn ?_ ?_<;>intro c
 .have a:e.op=4:=b9 c;rw[b6 a,l6,l6,k_,k_,all_eq_true]at I;have ⟨⟨r1,r2⟩,r3⟩:=I;have q:dF e.refs<=24*C e.refs:=pN (λs r=>dS (r3 s r));have Q:N (⟨#[114,101,102,115]⟩:B_)=4:=rfl;have f:C (([[⟨#[114,101,102,115]⟩,e.id],e.refs]:List (List B_)).flatten)<2^40:=G_
  refine Rd (bC kB)<|Y (bQ N_)<|Y (aL (([⟨#[114,101,102,115]⟩,e.id]:List B_).map S_) Z aY Z Z Z Z Z (jF _))<|Y (bC iT)<|Y (bQ aG)<|Y (aL (([[⟨#[114,101,102,115]⟩,e.id],e.refs]:List (List B_)).map (λl=>[.sl (l.map S_)])) Z HG Z Z Z Z Z H_)<|Y (kc call47 (lD [[⟨#[114,101,102,115]⟩,e.id],e.refs] _ F_ f))<|V aH<|Sr<|Dm ?_;rw[show ([[⟨#[114,101,102,115]⟩,e.id],e.refs]:List (List B_)).flatten=⟨#[114,101,102,115]⟩::e.id::e.refs by simp];have P:bs (⟨#[114,101,102,115]⟩::e.id::e.refs)=gS e:=by
   rw[gS]
   (rw[a8 R,a8 W,b6 a];rfl)
  have G:e.op≠1:=X
  have K:∀H,RC 204 [.pv (aK (⟨#[114,101,102,115]⟩::e.id::e.refs)),sv ⟨#[32]⟩] (sv ⟨(bT [32] (bs (⟨#[114,101,102,115]⟩::e.id::e.refs))).toArray⟩) H:=λH=>xM (⟨#[114,101,102,115]⟩::e.id::e.refs) ⟨#[32]⟩ H E_ y5;have L:N (⟨(bT [32] (bs (⟨#[114,101,102,115]⟩::e.id::e.refs))).toArray⟩:B_)<=70000:=by
   show C (bT [32] (bs (⟨#[114,101,102,115]⟩::e.id::e.refs)))<=_;have:=gA (⟨#[114,101,102,115]⟩::e.id::e.refs);simp only[cN,j6,length_nil]at this;omega
  have J:N (⟨#[10]⟩:B_)=1:=rfl;refine Y (kc sA (K _))<|Y kq<|Y aH<|V aH<|aC<|Ru ?_;rw[yN G P,show fX e=0 from a8 G];exact Qq
 have a:e.op≠4:=b_ c;rw[a8 a]at I;refine U cF<|Da<|Cn ?_ ?_<;>intro w
 .have z:e.op=5:=b9 w;have Q:N (⟨#[100,114,111,112]⟩:B_)=4:=rfl;refine Rd (bC kB)<|Y (bQ N_)<|Y (aL (([⟨#[100,114,111,112]⟩,e.id]:List B_).map S_) Z aY Z Z Z Z Z (jF _))<|V aH<|Sr<|Dm ?_;have P:bs [⟨#[100,114,111,112]⟩,e.id]=gS e:=by
   rw[gS]
   (rw[a8 R,a8 W,a8 a,b6 z];rfl)
  have G:e.op≠1:=X
  have K:∀H,RC 204 [.pv (aK [⟨#[100,114,111,112]⟩,e.id]),sv ⟨#[32]⟩] (sv ⟨(bT [32] (bs [⟨#[100,114,111,112]⟩,e.id])).toArray⟩) H:=λH=>xM [⟨#[100,114,111,112]⟩,e.id] ⟨#[32]⟩ H E_ y5;have L:N (⟨(bT [32] (bs [⟨#[100,114,111,112]⟩,e.id])).toArray⟩:B_)<=70000:=by
   show C (bT [32] (bs [⟨#[100,114,111,112]⟩,e.id]))<=_;have:=gA [⟨#[100,114,111,112]⟩,e.id];simp only[cN,j6,length_nil]at this;omega
  have J:N (⟨#[10]⟩:B_)=1:=rfl;refine Y (kc sA (K _))<|Y kq<|Y aH<|V aH<|aC<|Ru ?_;rw[yN G P,show fX e=0 from a8 G];exact Qq
 have z:e.op≠5:=b_ w;rw[a8 z]at I;refine U cF<|Da<|Cn ?_ ?_<;>intro d
 .have b:e.op=6:=b9 d;rw[b6 b,l6]at I;have p:=dS I.1;have y:=dS I.2;have Q:N (⟨#[115,112,108,105,116]⟩:B_)=5:=rfl;refine Rd (bC kB)<|Y (bQ N_)<|Y (bC rC)<|Y (bQ N_)<|Y (bC kV)<|Y (bQ N_)<|Y (aL (([⟨#[115,112,108,105,116]⟩,e.id,e.node,e.other]:List B_).map S_) Z aY Z Z Z Z Z (jF _))<|V aH<|Sr<|Dm ?_;have P:bs [⟨#[115,112,108,105,116]⟩,e.id,e.node,e.other]=gS e:=by
   rw[gS]
   (rw[a8 R,a8 W,a8 a,a8 z,b6 b];rfl)
  have G:e.op≠1:=X
  have K:∀H,RC 204 [.pv (aK [⟨#[115,112,108,105,116]⟩,e.id,e.node,e.other]),sv ⟨#[32]⟩] (sv ⟨(bT [32] (bs [⟨#[115,112,108,105,116]⟩,e.id,e.node,e.other])).toArray⟩) H:=λH=>xM [⟨#[115,112,108,105,116]⟩,e.id,e.node,e.other] ⟨#[32]⟩ H E_ y5;have L:N (⟨(bT [32] (bs [⟨#[115,112,108,105,116]⟩,e.id,e.node,e.other])).toArray⟩:B_)<=70000:=by
   show C (bT [32] (bs [⟨#[115,112,108,105,116]⟩,e.id,e.node,e.other]))<=_;have:=gA [⟨#[115,112,108,105,116]⟩,e.id,e.node,e.other];simp only[cN,j6,length_nil]at this;omega
  have J:N (⟨#[10]⟩:B_)=1:=rfl;refine Y (kc sA (K _))<|Y kq<|Y aH<|V aH<|aC<|Ru ?_;rw[yN G P,show fX e=0 from a8 G];exact Qq
 have b:e.op≠6:=b_ d;rw[a8 b]at I;have y:=dS I;have Q:N (⟨#[106,111,105,110]⟩:B_)=4:=rfl;refine Rd (bC kB)<|Y (bQ N_)<|Y (bC kV)<|Y (bQ N_)<|Y (aL (([⟨#[106,111,105,110]⟩,e.id,e.other]:List B_).map S_) Z aY Z Z Z Z Z (jF _))<|V aH<|Sr<|Dm ?_;have P:bs [⟨#[106,111,105,110]⟩,e.id,e.other]=gS e:=by
  rw[gS]
  (rw[a8 R,a8 W,a8 a,a8 z,a8 b];rfl)
 have G:e.op≠1:=X
 have K:∀H,RC 204 [.pv (aK [⟨#[106,111,105,110]⟩,e.id,e.other]),sv ⟨#[32]⟩] (sv ⟨(bT [32] (bs [⟨#[106,111,105,110]⟩,e.id,e.other])).toArray⟩) H:=λH=>xM [⟨#[106,111,105,110]⟩,e.id,e.other] ⟨#[32]⟩ H E_ y5;have L:N (⟨(bT [32] (bs [⟨#[106,111,105,110]⟩,e.id,e.other])).toArray⟩:B_)<=70000:=by
  show C (bT [32] (bs [⟨#[106,111,105,110]⟩,e.id,e.other]))<=_;have:=gA [⟨#[106,111,105,110]⟩,e.id,e.other];simp only[cN,j6,length_nil]at this;omega
 have J:N (⟨#[10]⟩:B_)=1:=rfl;refine Y (kc sA (K _))<|Y kq<|Y aH<|V aH<|aC<|Ru ?_;rw[yN G P,show fX e=0 from a8 G];exact Qq
theorem RM:∀ {l} {acc},(sC acc l).2=0->(∀e∈l,fX e=0)/\sC acc l=(acc++l.flatMap λe=>fT e++[10],0)/\(C acc<=20000->C (sC acc l).1<=20000)
 | [],acc,_=>⟨(λe h=>by cases h),by rw[sC,List.flatMap_nil,List.append_nil],λh=>h⟩
 |e::l,acc,h=>by
  rw[sC]at h |-;by_cases b:fX e≠0\/20000<C (acc++(fT e++[10]))
  .simp_all
  rw[a8 b]at h |-;obtain ⟨B,D,E⟩:=RM h
  simp_all
theorem JF{l}(h:lP l=T):l≠[]/\∀e∈l,gK e=T:=by
 rw[lP,l6]at h
 grind
theorem Tx(w):Lib.trimSuffix (w++[10]) [10]=w:=by rw[Lib.trimSuffix,Lib.hasSuffix];simp
theorem E8{l}(h:(eG l).2=0):iL (eG l).1=(l,0):=by
 have b:lP l=T:=by
  rw[eG]at h
  grind
 have ⟨B,d⟩:=JF b;rw[eG,b6 b]at h;have ⟨c,f,E⟩:=RM h;rw[nil_append]at f;have j:eG l=(a_ (l.flatMap λe=>fT e++[10]),0):=by rw[eG,b6 b,f]
 have D:N (a_ (l.flatMap λe=>fT e++[10]))<=20000:=by rw[cA];simp_all
 have F:(rW (a_ (l.flatMap λe=>fT e++[10])).data.toList).map (λs=>nZ (Lib.trimSuffix s [10]))=l:=by
  have g:=H4 (λw i=>by
   obtain ⟨e,a,rfl⟩:=mem_map.1 i;exact(M2 (d e a) (c e a)).2)
  rw[flatMap_map]at g;rw[cG,g,map_map,map_map];refine(map_congr_left λe a=>?_).trans (map_id l);show nZ _=e;rw[Tx];exact(M2 (d e a) (c e a)).1
 rw[j,iL]
 simp_all
end Go.Proofs.C
