/-
  Parts of the proof. Conditions: each theorem's own.
-/
import Derived.Test.YtopnleflllkbmaaGreatDoorKX4sM3
set_option linter.unusedVariables false
set_option linter.unusedSimpArgs false
set_option maxRecDepth 100000
set_option maxHeartbeats 8000000
open List Nat
open List renaming length->C
open Option renaming some->A,none->ζ
open Bool renaming true->N,false->η
open ByteArray renaming size->T,data->μ
open Array renaming toList->ν
open Decidable renaming decide->θ
open Go.IntKind renaming i64->ξ
open Go.Proofs.Tryz renaming prog->φ
open Go.Proofs.YtopnleflllkbmaaGreatDoor
namespace Go.Proofs
open Tryz
theorem wN:type_of% call121:=call121
theorem nV:type_of% isAgg185:=isAgg185
theorem jD:type_of% isAgg189:=isAgg189
theorem nP:type_of% isAgg25:=isAgg25
theorem iC:type_of% isAgg48:=isAgg48
theorem kK:type_of% isAgg49:=isAgg49
theorem oL:type_of% sizeOf185:=sizeOf185
end Go.Proofs
namespace Go.Proofs.C
open Go.Proofs.Tryz
open Go.Abs
abbrev HXJ:B_:=⟨#[48,49,50,51,52,53,54,55,56,57,97,98,99,100,101,102]⟩
theorem Mu{n}(h:n<16):Lib.indexByte (ν (μ HXJ)) (xQ n).toNat.toUInt8=n:=by revert n;decide
theorem tg(m){k}(b:k<16):bA (F4 m) k=xQ (V3 (Fj m) k):=by have a:=xx (FK (Fj m) k);have e:(F4 m).data.toList=CE (Fj m):=rfl;rw[bA,e,CE,r7,getElem?_range b];show ((UInt8.ofNat _).toNat:Int)=_;rw[UInt8.toNat_ofNat',mod_eq_of_lt X,Int.toNat_of_nonneg a.1]
theorem Nu(m){k}(a:k<16):(dJ m)[k]?=A (V3 (Fj m) k):=by rw[dJ,r7,getElem?_range a];rfl
theorem Xd(m){k}(a:k<16):(Fq m).getD k 0=V3 (Fj m) k:=by rw[getD_eq_getElem?_getD,Fq,getElem?_append_left (a),Nu m a];rfl
theorem aBj(m):(Fq m).getD 16 0=HS m / 16:=rfl
theorem aBi(m):(Fq m).getD 17 0=HS m % 16:=rfl
def KI(m:B_)(k:Nat):Nat:=(((dJ m).take k).map (15 - ·)).sum
theorem oy(m){k}(a:k<16):KI m (k+1)=KI m k+(15 - V3 (Fj m) k):=by rw[KI,take_add_one,Nu m a,map_append,sum_append];rfl
theorem Jc(m)(k):KI m k<=240:=by
 have h:=RT ((dJ m).take k);have B:C ((dJ m).take k)<=16:=by rw[q9,aBk];omega
 rw[KI];omega
theorem Aw(m):KI m 16=HS m:=rfl
def qu(m:B_):Ob:=bx 1 9 [sv m]
theorem Dg(m)(H)(b:H.get 961=ζ):aW φ 171 [sv m] H (λr H'=>r=.clo 225 [.ref 961 0 0 0]/\H'=(961,qu m)::H):=by refine Bd func171 Z ntmps171<|O (tP Z Z Z Z b)<|V aJ<|O (iG Z Z)<|V aJ<|aC ?_;refine cN (.inr Z) Z (aI Z) Fin.refl ?_;exact Qq
theorem Dh(m:B_)(o:AV)(d:Nat->aF)(G:T m<2^40)(u:∀k,(d k).get 961=A (qu m))
  (p:∀k:Nat,k<18->dO φ o [iv (k:Int),iv (((Fq m).getD k 0:Nat):Int)] (d k) (λr H'=>r=bv N/\H'=d (k+1))) :
  aW φ 225 [o,.ref 961 0 0 0] (d 0) (λr H'=>r=.tup []/\H'=d 18):=by
 have s:=sC m;have g:=λH=>vg m H X;have f:=p 16 E_;have j:=p 17 E_;have B:=fm m;rw[aBj]at f;rw[aBi]at j;refine Bd func225 Z ntmps225<|Sz aJ<|O (aY Z N_ Z (u 0) Z Z Z)<|Y (kc call106 (g _))<|V aJ<|S<|O aA<|Y (gG U_)<|V aA<|aD<|bC (σ:=Nat) (λk=>([(0,o),(1,.ref 961 0 0 0),(3,iv (KI m k:Int)),(4,sv (F4 m)),(10,iv 16),(11,iv (k:Int))],d k)) (λk=>k<=16) (λk=>16 - k) 0 (k_ _) ?_ ?_
 .rw[s];exact E0
 intro k F;have c:=λ(h:k<16)=>p k X;refine Sz cF<|S<|Cn ?_ ?_<;>intro i
 .have b:k<16:=I_ i
  have c:=c b;rw[Xd m b]at c;have t:=FK (Fj m) k;have D:=Jc m k;have E:=oy m b;have e:=λH=>sQ HXJ (xQ (V3 (Fj m) k)) H;rw[Mu t]at e;refine aB<|S<|aD<|O aA<|V aJ<|O aA<|Y aA<|Y (cL Z U_ Z Z X (l_ _) X (tg m b))<|Y (kc call199 (e _))<|V aJ<|O aA<|Y aA<|Y (by exact dV Z Z Z (show ξ.wrap (15 - (V3 (Fj m) k:Int))=((15 - V3 (Fj m) k:Nat):Int)by rw[lZ X X];omega))<|Y (by exact dB Z Z Z (show ξ.wrap ((KI m k:Int)+((15 - V3 (Fj m) k:Nat):Int))=(KI m (k+1):Int)by rw[lZ X X];omega))<|V aJ<|O aA<|Y aA<|Y aA<|Y (dH Z Z Z (c))<|V iE ?_;refine Cn ?_ ?_<;>intro l
  .cases l
  refine aB<|Rd kp<|V aA ?_;exact⟨k+1,X,X,E0⟩
 have n:k=16:=J_ i
 subst n;rw[Aw];refine aP<|O aA<|Y aA<|Y (by exact DF Z Z Z E_ (show ξ.wrap (((HS m:Nat):Int).tdiv 16)=((HS m / 16:Nat):Int)by rw[Int.tdiv_eq_ediv_of_nonneg X,lZ X X];omega))<|V (dH Z Z Z (f)) ?_;refine Cn ?_ ?_<;>intro q
 .refine Rd aA<|Y aA<|Y (by exact AF Z Z Z E_ (show ((HS m:Nat):Int).tmod 16=((HS m % 16:Nat):Int)by rw[Int.tmod_eq_emod_of_nonneg X];omega))<|V (dH Z Z Z (j)) ?_;exact pI (H':=d 18) (.inl Z) Z Fin.refl ⟨Z,Z⟩
 cases q
theorem Rp{a b:Nat}(e:a<2^62)(f:b<2^62):bits .xor .i64 a b=((a ^^^ b)):=by have h:=xor_lt_two_pow (n:=62) e f;have d:a % 2 ^ ξ.bits=a:=mod_eq_of_lt (Nat.lt_of_lt_of_le e E_);have c:b % 2 ^ ξ.bits=b:=mod_eq_of_lt (Nat.lt_of_lt_of_le f E_);simp[bits,BitVec.ofInt_natCast,BitVec.toNat_xor,BitVec.toNat_ofNat,d,c];rw[lZ X X]
theorem Xf{p}[Decidable p](h:¬ p):AV.pv (.bool (θ p))=bv η:=F_
def Ar(s:B_)(i:Nat)(m:B_)(k:Nat):List B_:=(List.range k).map λk=>O2 (pP s i k) ((Fq m).getD k 0)
theorem Ik(s)(i)(m)(k):Ar s i m (k+1)=Ar s i m k++[O2 (pP s i k) ((Fq m).getD k 0)]:=by rw[Ar,range_succ,map_append];rfl
theorem Td(s)(i)(m)(k):C (Ar s i m k)=k:=by simp[Ar]
theorem cP.eqJ{P}{m4}{o}{E}{H H2}{v a}(h:cP P m4 o E H v H2)(e:v=a):cP P m4 o E H a H2:=e▸h
def sgE:dD:=[(4,.ref 4 0 0 0),(6,.ref 6 0 0 0),(10,.ref 10 0 0 0)]
def sgT(s:B_)(i:Nat):aF:=[(8,bx 3 48 [iv 0,.pv (.sl []),.pv (.sl [])]),(6,bx 1 3 [iv (i:Int)]),(4,bx 1 9 [sv s])]
def sgK(s:B_)(i:Nat)(m:B_)(L:List B_):aF:=[(905,⟨C L,1,9,bQ L⟩),(10,bx 3 48 [iv (i:Int),.osl 905 (C L) 0 (C L),.pv .nils]),(961,qu m),(8,bx 3 48 [iv 0,.pv (.sl []),.pv (.sl [])]),(6,bx 1 3 [iv (i:Int)]),(4,bx 1 9 [sv s])]
theorem Te(s)(i)(m)(L)(x):sgK s i m (L++[x])=[(905,⟨C L+1,1,9,bQ (L++[x])⟩),(10,bx 3 48 [iv i,.osl 905 (C L+1) 0 (C L+1),.pv .nils]),(961,qu m),(8,bx 3 48 [iv 0,.pv (.sl []),.pv (.sl [])]),(6,bx 1 3 [iv i]),(4,bx 1 9 [sv s])]:=by simp[sgK]
theorem TG(H)(m):∀r∈(qu m).rows,∀a∈r,Clo H a:=by intro r c a b;simp[qu,bx,q_]at c;subst c;rw[q_]at b;subst b;simp
instance(H)(m):W_ (H) ((qu m).rows):=⟨TG H m⟩
theorem u0{p:Prop}(h:p:=by simp only[Zl,S_];rfl):p:=h
theorem u1{p:Prop}(h:p:=by simp only[j6,length_nil];omega):p:=h
theorem Ta(s m:B_)(h i:Nat)(H:aF)(hs:T s<2^40)(hm:T m<2^40)(K:h<=8)(hi:i<2 ^ h):
  RC 119 [sv s,iv (h:Int),iv (i:Int),sv m] (.tup [.agg [iv (i:Int),.pv (aL (oi s i m)),.pv (aL (yJ h (yR s h) i))],iv 0]) H:=by
 refine Pu ?_;have f:=GS K;have z:=aAV K;have hkeys:=λH=>Wf s h H hs K;have A_:=X2 s h;have n:∀L,L=yJ h (yR s h) i->True:=λ_ _=>trivial;refine Bd func119 Z ntmps119<|O (kb 4)<|Y (kb 6)<|Y (kl 8 du)<|V aJ<|S<|S<|aN a7<|Cq aA<|Cq (cP.eqJ (iM Z Z Z) (Xf X))<|Cq aA<|Nf aA<|Nf (cP.eqJ (K5 Z Z Z) (Xf X))<|Cq cE<|Cq aA<|Nf (bU M_)<|Nf (cP.eqJ (iM Z Z Z) (Xf X))<|Cq cE<|Cq aA<|Nf (bU M_)<|Nf aA<|Nf (by exact QG Z Z Z X (by simp[IntKind.bits];omega) z)<|Nf (cP.eqJ (jZ Z Z Z) (Xf X))<|Cq cE<|bG<|Kr ?_;refine Cn ?_ ?_<;>intro u_
 .cases u_
 refine aB<|O (bU M_)<|Y (pB aDy)<|Y (kl 10 du)<|Uu (jH sizeOf48)<|Zz<|S<|O aA<|V (kc call171 (Dg m _ Z))<|aD ?_;refine gO.ent (E':=[(1,iv (h:Int)),(4,.ref 4 0 0 0),(6,.ref 6 0 0 0),(8,.ref 8 0 0 0),(10,.ref 10 0 0 0),(35,.clo 225 [.ref 961 0 0 0])]) (H':=sgK s i m []) ?_ ?_
 .exact (Q_ 905 1 9)
 refine tk (id:=904) (p:=36) (p2:=37) sgE Z call225 Z Z (by simp[sgE];exact⟨Z,Z,Z⟩) ?_;intro x P F τ σ W J0;refine(Dh m (.yld 904 0) (λk=>(904,LR x sgE)::sgK s i m (Ar s i m k)) hm (λk=>rfl) ?_).mono ?_
 .intro k hk;have hd:=aBh m _ (Ct (d:=0) (by rw[Xe];exact hk));have e_:=λH=>vi s i k H hs X X;have ρ:=Td s i m k;have D:=Ik s i m k;have c_:=λH=>yq (pP s i k) ((Fq m).getD k 0) H (by rw[E5];decide) X;generalize (Fq m).getD k 0=d at hd D c_ |-;refine .inl ⟨904,0,Z,?_⟩;refine Ro [(4,.ref 4 0 0 0),(6,.ref 6 0 0 0),(10,.ref 10 0 0 0),(11,iv (k:Int)),(12,iv (d:Int))] (sgK s i m (Ar s i m k)) P F τ σ W J0 Z Z Z Z Z ?_ ?_
  .refine Sz aJ<|Rg<|Da ?_;exact(cH.wk (Ea<|Ea<|Ea<|Eb<|Eb<|T_) (Hc (oM (by intro p f;simp only[sgE,l9,q8,or_false]at f;rcases f with rfl|rfl|rfl<;>(simp only[D3];rfl)))<|Hc (aQ _ _)<|Ha<|Hc (TG _ _)<|Hb<|Hb<|Hb<|T_) ⟨Z,Z,Z,Z,Z,Z,Z,T_⟩)
  rw[D,Te];refine aD<|aN a7<|Cr [10] (λ_ h=>fh wX h)<|Cr [10] (λ_ h=>lh aG h)<|Cr [4] (λ_ h=>lh N_ h)<|Cr [6] (λ_ h=>lh M_ h)<|x_ aA<|x_ (by exact bH Z Z call173 Z (e_ _))<|x_ aA<|x_ (by exact bH Z Z call172 Z (c_ _))<|x_ (by exact aM [[.str (O2 (pP s i k) d)]] Z aZ Z Z Z Z Z F_)<|Cp [905] (λn c=>by exact bW (ps:=[[.str (O2 (pP s i k) d)]]) Z aZ sZ Z ((c _ Z).trans Z) Z Z Z (cY _) Z F_ (m:=1) Z X Z (gB (Ar s i m k) (O2 (pP s i k) d)))<|Cr [10] (λ_ h=>fh wX h)<|Cp [10] (λn c=>by exact cT Z sizeOf22 Z Z Z ((c _ Z).trans Z) Z Z F_ u0 u0) ?_;refine bG<|Kr ?_;exact⟨[(905,⟨C (Ar s i m k)+1,1,9,bQ (Ar s i m k++[O2 (pP s i k) d])⟩),(10,bx 3 48 [iv (i:Int),.osl 905 (C (Ar s i m k)+1) 0 (C (Ar s i m k)+1),.pv .nils]),(961,qu m),(8,bx 3 48 [iv 0,.pv (.sl []),.pv (.sl [])]),(6,bx 1 3 [iv (i:Int)]),(4,bx 1 9 [sv s])],(cH.wk T_ (Hc (oM (by intro p f;simp only[sgE,l9,q8,or_false]at f;rcases f with rfl|rfl|rfl<;>(simp only[D3];rfl)))<|Hc (aQ _ _)<|Ha<|Hc (TG _ _)<|Hb<|Hb<|Hb<|T_) ⟨Z,Z,Z,Z,Z,Z,Z,T_⟩),Z,Z⟩
 rintro r H' ⟨rfl,rfl⟩;refine⟨x,_,Z,F_,Z,λz=>?_⟩;rw[F,show Ar s i m 18=oi s i m from rfl];have ⟨f_,hS⟩:∃f_,f_=oi s i m:=X_;rw[<-hS];have J:C (f_.map S_)=C f_:=g_ _;refine gO.ent (cH.fzG (id:=905) (E':=[(1,iv (h:Int)),(4,.ref 4 0 0 0),(6,.ref 6 0 0 0),(8,.ref 8 0 0 0),(10,.ref 10 0 0 0)]) (H':=(10,bx 3 48 [iv (i:Int),.pv (aL f_),.pv .nils])::sgT s i) (f_.map S_) Z (dS _) ?_ Z ?_ ?_) ?_
 .intro p f;simp only[l9,q8,or_false]at f;rcases f with rfl|rfl|rfl|rfl|rfl
  .exact⟨_,Z,.same H_⟩
  .exact⟨_,Z,.same m3⟩
  .exact⟨_,Z,.same m3⟩
  .exact⟨_,Z,.same m3⟩
  exact⟨_,Z,.same m3⟩
 .refine⟨⟨_,Z,Z,Z,Z,mO Z (bJ (.same H_) (bJ (.osl ?_) (bJ (.same H_) kG)))⟩,⟨_,Z,Z,Z,Z,eL H_⟩,⟨_,Z,Z,Z,Z,eL H_⟩,⟨_,Z,Z,Z,Z,eL H_⟩,T_⟩;rw[r8,drop_zero,<-J,take_length]
 .exact T_
 refine S<|S<|aN a7<|Cq (bU N_)<|Cq aA<|Cq (kc call174 (hkeys _))<|Cq (bU M_)<|Cq aJ<|Cq aJ<|bG<|Kr<|aD ?_;refine gO.ent (E':=[(8,.ref 8 0 0 0),(10,.ref 10 0 0 0),(13,.pv (aL (yR s h))),(14,iv (i:Int))]) (H':=(906,⟨0,1,9,[]⟩)::(10,bx 3 48 [iv (i:Int),.pv (aL f_),.osl 906 0 0 0])::sgT s i) ?_ ?_
 .exact (Q_ 906 1 9)
 refine YZ (λ(j:Nat) (l:List B_) (q:Nat) (I:List B_)=>([(8,.ref 8 0 0 0),(10,.ref 10 0 0 0),(13,.pv (aL l)),(14,iv (q:Int))],[(906,⟨C I,1,9,bQ I⟩),(10,bx 3 48 [iv (i:Int),.pv (aL f_),.osl 906 (C I) 0 (C I)]),(8,bx 3 48 [iv 0,.pv (.sl []),.pv (.sl [])]),(6,bx 1 3 [iv (i:Int)]),(4,bx 1 9 [sv s])]))
  (λj l q I=>C l=2 ^ j/\q<2 ^ j/\I++yJ j l q=yJ h (yR s h) i/\(∀t∈l,T t=16)/\j<=8/\C I+j<=8) (λj l q I=>j) h (yR s h) i [] ⟨A_,hi,Z,λt o_=>iW (X3 s h t o_),K,by rw[length_nil];omega⟩ ?_ ?_
 .exact L_
 rintro j l q I ⟨hl,hq,o,hz,hj,hA⟩;have δ:C (l.map S_)=C l:=g_ _;have γ:=GS hj;refine S<|O aA<|Y (fJ aE)<|V iZ<|Cn ?_ ?_<;>intro v
 .have E:1<C l:=I_ v
  obtain ⟨u,rfl⟩:∃u,j=u+1:=by
   cases j with
   |zero=>rw[hl]at E;exact absurd E E_
   |succ u=>exact⟨u,Z⟩
  have G:C l=2*2 ^ u:=by rw[hl,Nat.pow_succ,Nat.mul_comm]
  have β:=GS (h:=u) X;have Q:q / 2<2 ^ u:=by rw[Nat.pow_succ]at hq;omega
  have hx:=uk q;have d_:q ^^^ 1<C l:=by
   rw[hx]
   split<;>omega
  have g:(l.map S_)[q ^^^ 1]?=A (S_ (l.getD (q ^^^ 1) a6)):=by
   rw[r7,getD_eq_getElem?_getD,p_ d_];rfl
  have w:(I++[l.getD (q ^^^ 1) a6])++yJ u (va l) (q / 2)=yJ h (yR s h) i:=by
   rw[<-o,append_assoc];rfl
  have B:=Rp (a:=q) (b:=1) X E_;generalize l.getD (q ^^^ 1) a6=e at g w;generalize q ^^^ 1=y at g B d_;have z_:C (I++[e])=C I+1:=by rw[j8];rfl
  refine aB<|S<|aD<|aN a7<|Cr [10] (λ_ h=>fh wV h)<|Cr [10] (λ_ h=>lh aG h)<|x_ aA<|x_ aA<|x_ (by exact pV Z H_ Z Z B)<|x_ (by exact bS Z aZ Z Z X (l_ _) g Z)<|x_ ((fK N_ (hi:=g)))<|x_ (by exact aM [[.str e]] Z aZ Z Z Z Z Z R_)<|Cp [906] (λn c=>by exact bW (ps:=[[.str e]]) Z aZ sZ Z ((c _ Z).trans Z) Z Z Z (cY _) Z R_ (m:=1) Z X Z (gB I e))<|Cr [10] (λ_ h=>fh wV h)<|Cp [10] (λn c=>by exact cT Z sizeOf22 Z Z Z ((c _ Z).trans Z) Z Z u1 u0 u0) ?_;refine bG<|Kr<|Rd aA<|Y (kc call175 (Xz l (2 ^ u) _ G X hz))<|Y aA<|Y (by exact DF Z Z Z E_ (show ξ.wrap ((q:Int).tdiv 2)=((q / 2:Nat):Int)by rw[Int.tdiv_eq_ediv_of_nonneg X,lZ X X];omega))<|Y aJ<|Da ?_;refine⟨u,va l,q / 2,I++[e],⟨PU _ _ G,Q,w,λt o_=>iW (ZC _ _ (h_ _) t o_),X,X⟩,X,?_⟩;dsimp only;rw[z_];exact L_
 have κ:C l<=1:=J_ v
 have m4:j=0:=by
  cases j with
  |zero=>rfl
  |succ u =>
   have:2 ^ (u+1)=2*2 ^ u:=by rw[Nat.pow_succ,Nat.mul_comm]
   have:0<2 ^ u:=Nat.two_pow_pos u;omega
 subst m4;have R:I=yJ h (yR s h) i:=by rw[<-o,yJ,append_nil]
 have y_:C (I.map S_)=C I:=g_ _;rw[<-R];refine aP<|S ?_;refine gO.ent (cH.fzG (id:=906) (E':=[(8,.ref 8 0 0 0),(10,.ref 10 0 0 0)]) (H':=(10,bx 3 48 [iv (i:Int),.pv (aL f_),.pv (aL I)])::sgT s i) (I.map S_) Z (dS _) ?_ Z ?_ ?_) ?_
 .intro p f;simp only[l9,q8,or_false]at f;rcases f with rfl|rfl
  .exact⟨_,Z,.same m3⟩
  exact⟨_,Z,.same m3⟩
 .refine⟨⟨_,Z,Z,Z,Z,mO Z (bJ (.same H_) (bJ (.same H_) (bJ (.osl ?_) kG)))⟩,⟨_,Z,Z,Z,Z,eL H_⟩,⟨_,Z,Z,Z,Z,eL H_⟩,⟨_,Z,Z,Z,Z,eL H_⟩,T_⟩;rw[r8,drop_zero,<-y_,take_length]
 .exact T_
 refine Rd (by exact aX Z iC sizeOf48 Z Z Z Z u0 Z)<|Uu (jH sizeOf48)<|V aJ<|aC ?_;refine fO (H':=[]) (.inr Z) Z (fG Z iC sizeOf48 Z Z Z u0 Z) (aI Z) P_ ?_;exact Qq
end Go.Proofs.C
namespace Go.Abs
open Go.RowKit
theorem Rel.below{I}{ι}{H}{w w'}(d:Below w.heap.size w w')(f:Rel I ι H w):Rel I ι H w'/\Step I ι H w I ι H w':=by
 have g:=d.block;have e:Step I ι H w I ι H w':=by
  refine⟨d.os,d.tape,d.output,d.size,λa ha _=>?_,λ_ h=>h,λ_ h=>.inl h,λ_ h=>.inl h,λb d _=>g b d,λ_ o h=>⟨o,h,h_ _,λ_=>⟨Z,Z,λ_=>h_ _⟩⟩⟩;unfold World.frozen?
  simp_all
 refine⟨⟨λb h=>?_,λj o k=>?_,f.inj,e.glob f⟩,e⟩
 ·have:=f.imm b h;have:=d.size;omega
 exact(f.obj j o k).keep Z (λb c _ d=>⟨g b d,λh=>h⟩) (λr _ a _ v i=>i.mono f e)
end Go.Abs
namespace Go.Abs
open Go.Proofs
def aDk(v:Value):Prop:=∃t p,v=.iface t p
abbrev Db:PV:=.sat aDk
def qN(s:B_):Int×PV:=match Lib.atoiAll (ν (μ s)) with
 |.ok v=>(v,NK)
 |.range=>(Lib.atoiSat (ν (μ s)),Db)
 |_=>(0,Db)
theorem atoi_c{P:Program}{ρ:Shelf.Ren}(L:LaysC.n172 P ρ){G1 G2:Nat}(B:(G1,GV.face)∈jr)(k:P.globalNamed "strconv.ErrSyntax" = A G1)(F:(G2,GV.face)∈jr)(e_:P.globalNamed "strconv.ErrRange" = A G2)(s:B_)(hs:T s<2^40)(H:aF):
  aW P (ρ.f 172) [.pv (.str s)] H (λr H'=>r=.tup [.pv (.int .i64 (qN s).1),.pv (qN s).2]/\H'=H):=by
 intro I D w R Q K f_;obtain ⟨v,rfl⟩:∃v,R=#[v]:=by
  match R,K with
  |⟨[v]⟩,_=>exact⟨v,Z⟩
 have z:=(f_ 0 v _ Z Z).str_inv;subst z;have j:∀(g:String) (G:Nat),(G,GV.face)∈jr->P.globalNamed g=A G->∃t p,w.var? P g=A #[.iface t p]:=λg G A_ z_=>by
  have ⟨_,cs,t,f,l,q,p,v_⟩:=Q.glob _ A_;subst v_;exact⟨q,p,by simp only[World.var?,z_,Option.bind_some,l]⟩
 have m:∀(n:Int) (x:Value) (a:PV) (d:World),RowKit.Below w.heap.size w d->(∀I H,VRel d I D H x (.pv a))->∃r H' E o c,(Ending.returned (.tuple #[.int .i64 n,x]))=.returned c/\(r=.tup [.pv (.int .i64 n),.pv a]/\H'=H)/\VRel d E o H' c r/\Rel E o H' d/\Step I D H w E o H' d:=λn x a d u u_=>by
  have ⟨y_,W⟩:=Rel.below u Q;refine⟨_,_,I,D,_,Z,⟨Z,Z⟩,.tup Z λi v b y l=>?_,y_,W⟩
  match i,y,l with
  |0,y,l=>cases y;cases l;exact .pv (.int _ _)
  |1,y,l=>cases y;cases l;exact u_ _ _
  |i+2,y,l=>simp at y
 rw[qN];cases h:Lib.atoiAll (ν (μ s)) with
 | ok n =>
  refine(Any.strconv_Atoi_ok L s X n h w).mono ?_;rintro e d ⟨rfl,J0⟩;have u:RowKit.Below w.heap.size w d:=by
   rcases J0 with rfl|⟨t,rfl⟩
   .exact RowKit.Below.refl _ _
   exact Lib.bytesWorld_below w _ t
  exact m n .nilIface NK d u (λ_ _=>.pv (.sat Z Z))
 |range =>
  have ⟨t,p,J⟩:=j _ G2 F e_;refine(Any.strconv_Atoi_range_var L s X h t p w J).mono ?_;rintro e d ⟨m4,rfl,_,_,u⟩;exact m _ _ Db d u (λ_ _=>.pv (.sat Z ⟨_,_,Z⟩))
 |_ =>
  have ⟨t,p,J⟩:=j _ G1 B k;refine(Any.strconv_Atoi_syntax_var L s X h t p w J).mono ?_;rintro e d ⟨m4,rfl,_,_,u⟩;exact m 0 _ Db d u (λ_ _=>.pv (.sat Z ⟨_,_,Z⟩))
theorem nq{P}{ρ}(L:Lays.n160 P ρ)(d:(P.info? (ρ.t 116)).map (λi=>(i.zero,i.size))=some (some (.agg (Array.replicate 256 (.bool false))),256))(s c)(o:s.size<=9223372036854775807)(g:c.size<4294967281)
  (p:∀(j:Nat) b,c.data.toList[j]?=A b->b.toNat<128) (H) :
  aW P (ρ.f 160) [.pv (.str s),.pv (.str c)] H (λr H'=>r=.pv (.str ⟨(Lib.trimS (ν (μ s)) (ν (μ c))).toArray⟩)/\H'=H):=by
 intro I q w h m f k;obtain ⟨v,u,rfl⟩:∃v u,h=#[v,u]:=by
  match h,f with
  |⟨[v,u]⟩,_=>exact⟨v,u,Z⟩
 have x:=(k 0 v _ Z Z).str_inv;have n:=(k 1 u _ Z Z).str_inv;subst x n;refine(Any.strings_Trim_laid L d s c w o g p).mono ?_;rintro e w' ⟨rfl,y⟩;have ⟨t,l⟩:=Rel.below y m;exact⟨_,_,I,q,_,Z,⟨Z,Z⟩,.pv (.str _),t,l⟩
end Go.Abs
section
namespace Go.Proofs
open Go.RowKit Go.Sort Go.Shelf
def aGO:Go.Shelf.Ren:=⟨λ|160=>74|232=>123|231=>122|227=>124|234=>126|233=>125|236=>128|235=>127|228=>176|271=>179|151=>178|197=>177|120=>232|152=>231|260=>230|137=>199|119=>267|224=>268|225=>269|217=>250|266=>279|n=>n,λ|9=>9|4=>4|3=>3|5=>5|117=>150|116=>149|0=>0|124=>153|21=>21|105=>202|46=>157|119=>223|139=>279|138=>278|n=>n,λ|3=>0|4=>1|n=>n⟩
theorem aGT:Go.Proofs.Lays.n160 φ aGO:={
  mixed:=by rfl
  f119:=Tryz.func267.trans C_
  f120:=Tryz.func232.trans C_
  f137:=Tryz.func199.trans C_
  f151:=Tryz.func178.trans C_
  f152:=Tryz.func231.trans C_
  f160:=Tryz.func74.trans C_
  f197:=Tryz.func177.trans C_
  f217:=Tryz.func250.trans C_
  f224:=Tryz.func268.trans C_
  f225:=Tryz.func269.trans C_
  f227:=Tryz.func124.trans C_
  f228:=Tryz.func176.trans C_
  f231:=Tryz.func122.trans C_
  f232:=Tryz.func123.trans C_
  f233:=Tryz.func125.trans C_
  f234:=Tryz.func126.trans C_
  f235:=Tryz.func127.trans C_
  f236:=Tryz.func128.trans C_
  f260:=Tryz.func230.trans C_
  f266:=Tryz.func279.trans C_
  f271:=Tryz.func179.trans C_
  t0:=EA
  a0:=Tryz.isAgg0
  z0:=Tryz.sizeOf0
  v0:=Tryz.zeroValue0
  t3:=Tryz.underlying3
  a3:=Tryz.isAgg3
  z3:=Tryz.sizeOf3
  v3:=sY
  t4:=fP
  a4:=nU
  z4:=Tryz.sizeOf4
  v4:=jG
  t5:=dG
  a5:=vI
  z5:=cO
  v5:=sX
  t9:=Tryz.underlying9
  a9:=Tryz.isAgg9
  z9:=Tryz.sizeOf9
  v9:=gW
  t21:=Tryz.underlying21
  a21:=Tryz.isAgg21
  z21:=Tryz.sizeOf21
  v21:=Tryz.zeroValue21
  t46:=lM
  a46:=Tryz.isAgg157
  z46:=BH
  v46:=uD
  t105:=Tryz.underlying202
  a105:=Tryz.isAgg202
  z105:=Tryz.sizeOf202
  v105:=Tryz.zeroValue202
  t116:=Tryz.underlying149
  a116:=Tryz.isAgg149
  z116:=Tryz.sizeOf149
  t117:=Tryz.underlying150
  a117:=Tryz.isAgg150
  z117:=Tryz.sizeOf150
  v117:=Tryz.zeroValue150
  t119:=gS
  a119:=Tryz.isAgg223
  z119:=BG
  t124:=Tryz.underlying153
  a124:=Tryz.isAgg153
  z124:=Tryz.sizeOf153
  v124:=Tryz.zeroValue153
  t138:=Tryz.underlying278
  a138:=Tryz.isAgg278
  z138:=Tryz.sizeOf278
  v138:=Tryz.zeroValue278
  t139:=Tryz.underlying279
  a139:=Tryz.isAgg279
  z139:=Tryz.sizeOf279
  v139:=Tryz.zeroValue279
  g3:=by kernel_rfl
  g4:=by kernel_rfl}
end Go.Proofs
namespace Go.Proofs.C
open Go.Proofs.Tryz
open Go.Abs
abbrev zd:B_:=⟨#[48,49,50,51,52,53,54,55,56,57,97,98,99,100,101,102]⟩
theorem aB1(b):zd.data.toList.contains b=wF b:=by
 have h:∀n:Fin 256,zd.data.toList.contains (UInt8.ofNat n.1)=wF (UInt8.ofNat n.1):=by decide +kernel
 have:=h ⟨b.toNat,b.toNat_lt⟩
 simpa using this
theorem BB{α:Type}(p):∀l:List α,l.dropWhile p=[]↔l.all p=N
 | []=>by simp
 |a::r=>by
  rw[List.dropWhile_cons,List.all_cons];cases h:p a with
  |true=>exact BB p r
  |false=>simp_all
theorem IE{α:Type}{p q}:∀ {l:List α},(l.dropWhile p).all q=N->(∀a,p a=N->q a=N)->l.all q=N
 | [],_,_=>rfl
 | a::r,h,b=>by
  rw[List.dropWhile_cons]at h;cases c:p a with
  |true =>
   rw[c]at h;rw[List.all_cons,b a c];exact IE h b
  |false =>
   simp_all
theorem ep(l):Lib.trimS l (ν (μ zd))=[]↔l.all wF=N:=by
 have e:=funext aB1;unfold Lib.trimS Lib.trimLeftS Lib.trimRightS;rw[e,BB];constructor
 .intro h;rw[all_reverse]at h;have c:=IE h (λa d=>d)
  rwa [all_reverse]at c
 intro h;have c:=(BB _ _).2 (by rw[all_reverse];exact h);rw[c];rfl
theorem vb(s)(hs:s.size<2^40)(H):RC 74 [sv s,sv zd] (sv ⟨(Lib.trimS s.data.toList zd.data.toList).toArray⟩) H :=nq aGT (Z) s _ X E_ (ascii_of_all (Z)) H
theorem X8(s)(c:T s<2^40)(H):RC 30 [sv s] (bv (m6 s)) H:=by
 refine Pu ?_;have b:=λH=>vb s c H;have f:=ep (ν (μ s));generalize Lib.trimS (ν (μ s)) (ν (μ zd))=t at b f;have B:m6 s=(θ ((T s:Int)=16)&&θ ((⟨t.toArray⟩)=a6)):=by
  rw[m6]
  grind
 refine Bd func30 Z ntmps30<|Sz aJ<|S<|aT (t:=2) (n:=10) (A_:=m6 s) ?_ ?_
 .all_goals refine Y aA<|Y (gG U_)<|Y cG<|Dm ?_<;>(refine Sp 6 (λe=>?_) λe=>?_)<;>(first|refine M<|M<|M ?_|refine U aA<|U (bH Z Z call74 Z (b _))<|U vT ?_)<;>refine Y cE<|Da ?_<;>exact Gj (h:=by simp_all)
 exact aC<|Rt<|Qq
end Go.Proofs.C
end
namespace Go.Proofs.C
open Go.Proofs.Tryz
open Go.Abs
def oddJ(t:B_):Bool:=!m6 t
theorem Ed(l:List B_)(q):((List.range (C l)).any λk=>match l[k]? with|some s=>q s|none=>η)=l.any q:=by
 rw[Bool.eq_iff_iff,any_eq_true,any_eq_true];constructor
 .grind
 rintro⟨s,a,h⟩;have ⟨k,B⟩:=s8.1 a
 grind
theorem MF(l:List _):l.any oddJ=!l.all m6:=by
 induction l with
 |nil=>rfl
 |cons a r b=>rw[any_cons,all_cons,b,oddJ,Bool.not_and]
end Go.Proofs.C
namespace Go.Abs
open Go.Proofs
section
section
variable{P:Program}{m4:Nat}{o:Oper}{E:dD}{H:aF}{t t':TypeId}{x:Operand}
theorem S4(e:o.op=.binOp .neq t x (.const .nilIface) t')(d:P.underlying t=A (.interface (P.methodsAt t)))(f:aS E x=A (.pv NK)):cP P m4 o E H (.pv (.bool η)) H :=.of_run λa w I ι _ b=>⟨.bool _,by
  have c:=(aK b f).sat_inv;have g:a.eval (.const _)=.nilIface:=rfl;simp[execOp,e,c,g,eqGuard,Sem.run_bind,Sem.run_pure,Result.andThen_ok,run_neq_nil_nil _ _ d,Bool.or_true,if_true,Bool.not_true,Bool.false_eq_true,if_false],.pv (.bool _)⟩
theorem IY(e:o.op=.binOp .neq t x (.const .nilIface) t')(d:P.underlying t=A (.interface (P.methodsAt t)))(f:aS E x=A (.pv Db)):cP P m4 o E H (.pv (.bool N)) H :=.of_run λa w I ι _ b=>⟨.bool _,by
  have ⟨q,p,c⟩:=(aK b f).sat_inv;have g:a.eval (.const _)=.nilIface:=rfl;simp only[execOp,e,c,g,eqGuard,Sem.run_bind,Sem.run_pure,Result.andThen_ok,run_neq_held_nil _ _ _ _ d];rfl,.pv (.bool _)⟩
end
end
section
section
variable{P:Program}{m4:Nat}{o:Oper}{E:dD}{H:aF}{t t' it:TypeId}{x:Operand}
theorem VRel.ifc_inv{w}{I}{ι}{v}{p}(h:VRel w I ι H v (.pv (.ifc t p))):∃u,v=.iface t u/\PRep w I u p:=by
 cases h with
 |pv h=>cases h with
  |ifc _ u _ h=>simp_all
theorem VRel.ifa_inv{w}{I}{ι}{v}{ps}(h:VRel w I ι H v (.pv (.ifa t ps))):∃cs,v=.iface t (.agg cs)/\cs.size=C ps/\∀(k:Nat) (c) (p),cs[k]?=A c->ps[k]?=A p->PRep w I c p:=by
 cases h with
 |pv h=>cases h with
  |ifa _ cs _ B h=>grind
theorem gQ{p}(b:o.op=.makeInterface t x)(e:P.concrete t=N)(c:aS E x=A (.pv p)):cP P m4 o E H (.pv (.ifc t p)) H :=.of_run λa w I ι _ d=>⟨.iface t _,by simp[execOp,b,run_makeInterface _ _ _ e],.pv (.ifc _ _ _ (aK d c).pv_inv)⟩
theorem K3{ps}(f:o.op=.makeInterface t x)(e:P.concrete t=N)(g:aS E x=A (.agg (ps.map .pv))):cP P m4 o E H (.pv (.ifa t ps)) H :=.of_run λa w I ι _ i=>⟨.iface t (a.eval x),by simp[execOp,f,run_makeInterface _ _ _ e],by
  have h:=aK i g;generalize a.eval x=c at h;cases h with
  | @agg vs _ hl h1 d =>
   refine .pv (.ifa _ _ _ F_ λk c p b B=>?_);exact(d k c (.pv p) b F_).pv_inv⟩
theorem ou{d}{u}(w)(B:P.underlying t=A d)(D:∀c,d≠.interface c):(Instr.typeAssert (.iface t' u) it t N).run P w=if t'=t then .ok (.tuple #[u,.bool N]) w else((do pure (.tuple #[<-zeroValue t,.bool η])):Sem _).run P w:=by
 unfold Instr.typeAssert;rw[Sem.run_bind,run_underlying B]
 simp_all
theorem F6(h:P.concrete t=N):∃d,P.underlying t=A d/\∀a,d≠.interface a:=by
 unfold Program.concrete at h;cases B:P.underlying t with
 |none=>simp_all
 |some d =>
  grind
theorem yM{p}(h:o.op=.typeAssert x it t N)(j:P.concrete t=N)(k:aS E x=A (.pv (.ifc t p))):cP P m4 o E H (.tup [.pv p,.pv (.bool N)]) H:=by
 have ⟨d,m,b⟩:=F6 j;refine .of_run λa w I ι _ l=>?_;have ⟨u,f,g⟩:=(aK l k).ifc_inv;refine⟨.tuple #[u,.bool N],?_,?_⟩
 .simp only[execOp,h,f];rw[Sem.run_bind,ou w m b,b6 rfl];rfl
 exact .tup Z (λi v a e c=>by
  match i with
  |0=>cases e;cases c;exact .pv g
  |1=>cases e;cases c;exact .pv (.bool _)
  |i+2=>simp at c)
theorem S3{ps:List PV}(B:o.op=.typeAssert x it t N)(z:P.concrete t=N)(y:aS E x=A (.pv (.ifa t ps))):cP P m4 o E H (.tup [.agg (ps.map .pv),.pv (.bool N)]) H:=by
 have ⟨d,s,j⟩:=F6 z;refine .of_run λa w I ι _ D=>?_;have ⟨u,r,G,F⟩:=(aK D y).ifa_inv;refine⟨.tuple #[.agg u,.bool N],?_,?_⟩
 .simp only[execOp,B,r];rw[Sem.run_bind,ou w s j,b6 rfl];rfl
 have n:∀(k:Nat) (c:Value),u[k]?=A c->∃p,ps[k]?=A p/\PRep w I c p:=λk c e=>by
  have f:k<C ps:=G_
  exact⟨ps[k],p_ f,F k c _ e (p_ f)⟩
 exact .tup Z (λi v a m h=>by
  match i with
  |0 =>
   cases m;cases h;refine .agg F_ (λk c e=>?_) (λk c b e q=>?_)
   .have ⟨p,_,g⟩:=n k c e;exact g.oneCell
   have ⟨p,l,g⟩:=n k c e;rw[r7,l]at q;cases q;exact .pv g
  |1=>cases m;cases h;exact .pv (.bool _)
  |i+2=>simp at h)
theorem Yq{cells}(l:o.op=.typeAssert x it t N)(h:P.concrete t=N)(j:eX P t cells)(b:t'≠t)
  (m:∀(a) (w) (I) (ι),lX w I ι H E a->∃u,a.eval x=.iface t' u):cP P m4 o E H (.tup [.any,.pv (.bool η)]) H:=by
 have ⟨d,p,e⟩:=F6 h;have ⟨z,v0,f,_,_⟩:=j;refine .of_run λa w I ι _ n=>?_;have ⟨u,k⟩:=m a w I _ n;refine⟨.tuple #[z,.bool η],?_,?_⟩
 .simp only[execOp,l,k];rw[Sem.run_bind,ou w p e,a8 b,Sem.run_bind,f w];rfl
 exact .tup Z (λi v a g c=>by
  match i with
  |0=>cases c;exact .any _
  |1=>cases g;cases c;exact .pv (.bool _)
  |i+2=>simp at c)
theorem nI{cells}{p}(f:o.op=.typeAssert x it t N)(c:P.concrete t=N)(d:eX P t cells)(B:Nat.beq t' t=η)(g:aS E x=A (.pv (.ifc t' p))):cP P m4 o E H (.tup [.any,.pv (.bool η)]) H :=Yq f c d (λe=>by simp_all) (λa w I ι b=>let ⟨u,e,_⟩:=(aK b g).ifc_inv;⟨u,e⟩)
theorem DE{cells}{ps}(f:o.op=.typeAssert x it t N)(c:P.concrete t=N)(d:eX P t cells)(B:Nat.beq t' t=η)(g:aS E x=A (.pv (.ifa t' ps))):cP P m4 o E H (.tup [.any,.pv (.bool η)]) H :=Yq f c d (λe=>by simp_all) (λa w I ι b=>let ⟨u,e,_⟩:=(aK b g).ifa_inv;⟨_,e⟩)
end
end
section
section
variable{P:Program}{m4:Nat}{o:Oper}{E:dD}{H:aF}{J0 T' t:TypeId}{x y:Operand}
theorem M2{e f:TypeId}{ty:TypeId}{a:Array Value}(w:World)(d:P.underlying J0=A (.slice e))(c:P.underlying T'=A (.slice f)):(Builtin.append_ #[J0,T'] ty a).run P w=(Builtin.append_ #[J0,J0] ty a).run P w:=by
 unfold Builtin.append_;cases B:a[0]? with
 |none=>rfl
 | some s =>
  cases D:a[1]? with
  |none=>rfl
  |some u =>
   cases s<;>simp[Sem.run_bind,run_underlying d,run_underlying c]
theorem NE{e d}{v}{H2}(g:o.op=.call {callee:=.builtin .append,args:=#[x,y],argTypes:=#[J0,T']})(i:P.underlying J0=A (.slice e))(c:P.underlying T'=A (.slice d))
  (h:cP P m4 {o with op:=.call {callee:=.builtin .append,args:=#[x,y],argTypes:=#[J0,J0]}} E H v H2):cP P m4 o E H v H2:=by
 intro a w I ι j m k l K Q f;have b:=h a w I _ j m k l K Q f;unfold Oper.wpW execOp at b |-;simp[g,resolve,invoke,builtin,Sem.run_bind,Sem.run_pure,Result.andThen_ok,map_toArray,map_cons,map_nil,M2 w i c]at b |-;exact b
theorem WJ{e z}{id g n m k sz bytes:Nat}{ob}{ps}{rows'}(q:o.op=.call {callee:=.builtin .append,args:=#[x,y],argTypes:=#[J0,T']})(i:P.underlying T'=A (.slice z))(B:fQ P J0 e sz)(d:EI P e sz bytes)
  (j:aS E x=A (.osl id g 0 n)) (u:H.get id=A ob) (w:ob.g=g) (c:ob.sz=sz) (f:ob.ty=e) (s:C ob.rows=n)
  (l:aS E y=A (.pv (.sl ps))) (h:∀r∈ps,C r=sz) (p:C ps=m) (a:(n+m)*bytes<=140737488355328) (v:n+m=k) (b:ob.rows++ps.map (·.map AV.pv)=rows') :
  cP P m4 o E H (.osl id (g+1) 0 k) ((id,⟨g+1,sz,e,rows'⟩)::H) :=
 NE q B.1 i (bW Z B d j u w c f s l h p a v b)
end
end
end Go.Abs
namespace Go.Proofs.C
open Go.Proofs.Tryz
open Go.Abs
variable{l:List _}
inductive IV where
 |n (x:Int)
 |t (s:B_)
 |b (x:Bool)
 |l (ts:List B_)
 |z (i:Int) (a b:List B_)
 |p (ps:List (Int×Int))
def kP(q:Int×Int):List PV:=[.int .i64 q.1,.int .i64 q.2]
def yG(l:List (Int×Int)):PV:=.sl (l.map kP)
def aFI:IV->PV
 |.n x=>.ifc 3 (.int .i64 x)
 |.t s=>.ifc 9 (.str s)
 |.b x=>.ifc 4 (.bool x)
 |.l ts=>.ifc 22 (aL ts)
 |.z i a b=>.ifa 48 [.int .i64 i,aL a,aL b]
 |.p ps=>.ifc 49 (yG ps)
def BA(v:IV):List PV:=[aFI v]
def fI:IV->List B_
 |.n x=>[aV x]
 |.t s=>[s]
 |.b x=>[aV (if x then 1 else 0)]
 |.l ts=>aV (C ts:Int)::ts
 |.z i a b=>aV i::((aV (C a:Int)::a)++(aV (C b:Int)::b))
 |.p ps=>aV (C ps:Int)::ps.flatMap λq=>[aV q.1,aV q.2]
def gI:IV->Nat
 |.n _=>1
 |.t _=>1
 |.b _=>1
 |.l _=>2
 |.z _ _ _=>5
 |.p ps=>1+2*C ps
def Tp:IV->Nat
 |.n _=>0
 |.t _=>0
 |.b _=>1
 |.l _=>1
 |.z _ _ _=>2
 |.p _=>1
def qS(x:Int):Prop := -9223372036854775808<=x/\x<=9223372036854775807
def okI:IV->Prop
 |.n x=>qS x
 |.t _=>True
 |.b _=>True
 |.l ts=>C ts<2^40
 |.z i a b=>qS i/\C a<2^40/\C b<2^40
 |.p ps=>C ps<2^40/\∀q∈ps,qS q.1/\qS q.2
def zQ(l:List IV):List B_:=l.flatMap fI
def ya(l:List IV):Nat:=(l.map gI).sum
theorem Nm{k}{v}(h:l[k]?=A v):zQ (l.take (k+1))=zQ (l.take k)++fI v:=by rw[take_add_one,h];simp[zQ]
theorem Nd{k}{v}(h:l[k]?=A v):ya (l.take (k+1))=ya (l.take k)+gI v:=by rw[ya,take_add_one,h,map_append,sum_append];rfl
theorem aBb(l)(k):C (zQ (l.take k))<=C (zQ l):=by
 have h:zQ l=zQ (l.take k)++zQ (l.drop k):=by rw[zQ,zQ,zQ,<-flatMap_append,take_append_drop]
 rw[h,j8];omega
def fH(g:Nat)(L:List B_):aF:=[(971,⟨g,1,9,bQ L⟩),(970,bx 1 131 [.osl 971 g 0 (C L)])]
theorem Nn(g)(L)(s):fH (g+1) (L++[s])=[(971,⟨g+1,1,9,bQ (L++[s])⟩),(970,bx 1 131 [.osl 971 (g+1) 0 (C L+1)])]:=by simp[fH]
theorem eC{P:Program}{t}{d}(h:P.underlying t=A d)(B:(match d with|.interface _=>η|_=>N)=N):P.concrete t=N:=by
 unfold Program.concrete
 grind
theorem UG(l:List _):∀r∈l.map BA,C r=1:=λr a=>by
 obtain ⟨t,_,rfl⟩:=mem_map.1 a;rfl
def Qo(r:Nat):Prop:=∀(l:List IV),(∀v∈l,Tp v<r/\okI v)->∀(g:Nat) (L:List B_),C l<2^40->C L+C (zQ l)<2^40 ->
 aW φ 121 [.ref 970 0 0 0,.pv (.sl (l.map BA))] (fH g L) (λr H'=>r=.tup []/\H'=fH (g+ya l) (L++zQ l))
def QF(ps:List (Int×Int)):List B_:=ps.flatMap λq=>[aV q.1,aV q.2]
theorem QE:∀ps,C (QF ps)=2*C ps
 | []=>rfl
 |q::r=>by
  have B:=QE r;rw[show QF _=aV _::aV _::QF r from Z,j6,j6,j6];omega
theorem Ke{ps:List _}{j}{q}(h:ps[j]?=A q):QF (ps.take (j+1))=QF (ps.take j)++zQ [.n q.1,.n q.2]:=by rw[QF,take_add_one,h,flatMap_append];rfl
theorem mf{args}{g d}{L c}{H}(h:aW φ 121 args (fH g L) (λr H'=>r=.tup []/\H'=fH d c))(e:HI H (fH g L))(f:∀a∈args,Clo (fH g L) a):
  aW φ 121 args H (λr H'=>r=.tup []/\H'=fH d c++H):=aW.frame h (HI.sub e) (dI.ofL ⟨(aQ _ _),w8,T_⟩) f (λid h=>.inl (xh h))
theorem eS(B b):bQ B++(b.map S_).map (·.map AV.pv)=bQ (B++b):=by rw[<-dS,bQ,bQ,bQ,map_append]
theorem Si(a:List _):∀r∈a.map S_,C r=1:=λr b=>by
 obtain ⟨t,_,rfl⟩:=mem_map.1 b;rfl
theorem Wx(g)(D B):fH g (D++B)=[(971,⟨g,1,9,bQ (D++B)⟩),(970,bx 1 131 [.osl 971 g 0 (C D+C B)])]:=by simp[fH]
theorem v6{p:Prop}(h:p:=by intro r B;simp only[l9,q8,or_false]at B;rcases B with rfl|rfl<;>rfl):p:=h
theorem Qa(r:Nat)(ih:∀q,q<r->Qo q):Qo r:=by
 intro l hl g L hll hLl;have hml:C (l.map BA)=C l:=g_ _;have w:∀(y:Int),qS y->1<r->∀(g':Nat) (f_:List B_),C f_+1<2^40->aW φ 121 [.ref 970 0 0 0,.pv (.sl [BA (.n y)])] (fH g' f_) (λr H'=>r=.tup []/\H'=fH (g'+1) (f_++[aV y])):=λy u h1 g' f_ hs =>
  ih 1 h1 [.n y] (λv e=>by rw[q_]at e;subst e;exact⟨by simp[Tp],u⟩) g' f_ H_ hs
 refine Bd func121 Z ntmps121<|O aA<|Y (fJ underlying200)<|V aA<|aD<|bC (σ:=Nat) (λk=>([(0,.ref 970 0 0 0),(14,.pv (.sl (l.map BA))),(15,iv (C (l.map BA):Int)),(16,iv (k:Int))],fH (g+ya (l.take k)) (L++zQ (l.take k)))) (λk=>k<=C l) (λk=>C l - k) 0 (k_ _) ?_ ?_
 .simp only[zQ,ya,take_zero,flatMap_nil,map_nil,sum_nil,Nat.add_zero,append_nil];exact L_
 intro k hk;refine Sz cF<|S<|Cn ?_ ?_<;>intro τ
 .have hlt:k<C l:=I_ τ
  have ⟨v,e⟩:=aR hlt;have ⟨H,e_⟩:=hl v (m7 e);have E:=cC (f:=BA) e;have hfn:=Nm e;have hgn:=Nd e;have y_:=aBb l (k+1);rw[hfn]at y_;have ⟨J,hL1⟩:∃J,J=L++zQ (l.take k):=X_;have ⟨d,hg1⟩:∃d,d=g+ya (l.take k):=X_;have D:L++zQ (l.take (k+1))=J++fI v:=F_
  have i_:g+ya (l.take (k+1))=d+gI v:=X
  have c:C J+C (fI v)<2^40:=by
   grind
  have o:ξ.wrap ((k:Int)+1)=((k+1:Nat):Int):=by rw[lZ X X];omega
  rw[<-hL1,<-hg1];clear hfn hgn y_;cases v with
  |n x =>
   have hx:qS x:=e_;have c:C J+1<2^40:=c;refine aB<|S<|aD<|O (bS Z AA Z Z X x7 E Z)<|Y (fK wL (hi:=E))<|V aJ<|Sz aA<|aD<|O (yM Z (eC underlying3 Z) Z)<|Y dL<|V dL<|Cn ?_ ?_<;>intro hc2
   .refine Sz aJ<|aN a7<|Cr [970] (λ_ _=>aA)<|Cr [970] (λ_ _=>aA)<|Cr [970] (λA_ I=>by exact dW Z Z ((I _ Z).trans Z) Z)<|Cr [970] (λ_ h=>lh isAgg131 h)<|x_ aA<|x_ (by exact bH Z Z mD Z (qI x hx.1 hx.2 _))<|x_ (by exact aM [[.str (aV x)]] Z R6 Z Z Z Z Z F_)<|Cp [971] (λA_ I=>by exact bW (ps:=[[.str (aV x)]]) Z R6 sZ Z ((I _ Z).trans Z) Z Z Z (cY _) Z F_ (m:=1) Z X Z (gB J (aV x)))<|Cr [970] (λA_ I=>by exact dW Z Z ((I _ Z).trans Z) Z)<|Cp [970] (λ_ h=>sa sizeOf131 h) ?_;refine bG<|Kr<|Rd (ka o)<|V aA ?_;refine⟨k+1,X,X,?_⟩;dsimp only;rw[D,i_,show fI (.n x)=[aV x]from Z,show gI (.n x)=1 from Z,Nn];exact L_
   cases hc2
  |t s =>
   have c:C J+1<2^40:=c;refine aB<|S<|aD<|O (bS Z AA Z Z X x7 E Z)<|Y (fK wL (hi:=E))<|V aJ<|Sz aA<|aD<|O (nI Z (eC underlying3 Z) Zt Z Z)<|Y dL<|V dL<|Cn ?_ ?_<;>intro hc3
   .cases hc3
   refine O (yM Z (eC U_ Z) Z)<|Y dL<|V dL<|Cn ?_ ?_<;>intro hc4
   ·refine Sz aJ<|Rd aA<|Y aA<|Y sW<|Y (bU isAgg131)<|Y aA<|Y (by exact aM [[.str s]] Z R6 Z Z Z Z Z F_)<|Y (by exact bW (ps:=[[.str s]]) Z R6 sZ Z Z Z Z Z (cY _) Z F_ (m:=1) Z X Z (gB J s))<|Y sW<|Uu (jH sizeOf131)<|Zz<|Rd (ka o)<|V aA ?_;refine⟨k+1,X,X,?_⟩;dsimp only;rw[D,i_,show fI (.t s)=[s]from Z,show gI (.t s)=1 from Z,Nn];exact(cH.wk (Ea<|Eb<|Eb<|Eb<|T_) (Hc (aQ _ _)<|Ha<|T_) ⟨Z,Z,T_⟩)
   cases hc4
  |b x =>
   have B:1<r:=H;have c:C J+1<2^40:=c;refine aB<|S<|aD<|O (bS Z AA Z Z X x7 E Z)<|Y (fK wL (hi:=E))<|V aJ<|Sz aA<|aD<|O (nI Z (eC underlying3 Z) Zt Z Z)<|Y dL<|V dL<|Cn ?_ ?_<;>intro hc5
   .cases hc5
   refine O (nI Z (eC U_ Z) Rl Z Z)<|Y dL<|V dL<|Cn ?_ ?_<;>intro hc6
   .cases hc6
   refine O (yM Z (eC fP Z) Z)<|Y dL<|V dL<|Cn ?_ ?_<;>intro hc7
   ·refine Sz aJ<|Rd aA<|Y (by exact vZ (id:=948) Oq Z Z)<|Uu (by exact zW (κ:=Oq) (.inr Z) underlying201 fP Z Z Z Z Z Z Z Z)<|Y aA<|Y aA<|Y (by exact IZ (κ:=Oq) Z underlying201 fP Z Z Z Z Z sY (.inl Z))<|Y (by exact gQ (p:=.int .i64 (if x then 1 else 0)) Z (eC underlying3 Z) (by cases x<;>rfl))<|Y (by exact aM [BA (.n (if x then 1 else 0))] Z AA Z Z Z Z Z R_)<|V (by exact bH Z Z wN Z (mf (w (if x then 1 else 0) (by cases x<;>exact⟨E_,E_⟩) B d J c) ⟨Z,Z,T_⟩ m3))<|Rd (ka o)<|V aA ?_;refine⟨k+1,X,X,?_⟩;dsimp only;rw[D,i_,show fI (.b x)=[aV (if x then 1 else 0)]from Z,show gI (.b x)=1 from rfl];exact(cH.wk (Ea<|Eb<|Eb<|Eb<|T_) (Hc (aQ _ _)<|Ha<|T_) ⟨Z,Z,T_⟩)
   cases hc7
  |l F =>
   have B:1<r:=H;have c:C J+(C F+1)<2^40:=c;have G:C (F.map S_)=C F:=g_ _;have ⟨y,u⟩:∃y,y=(C (F.map S_):Int):=X_;have m4:qS y:=⟨X,X⟩;have K:J++fI (.l F)=(J++[aV y])++F:=by rw[u,G,append_assoc];rfl
   have P:C (J++[aV y])=C J+1:=by rw[j8];rfl
   refine aB<|S<|aD<|O (kx AA E)<|Y (fK wL (hi:=E))<|V aJ<|Sz aA<|aD<|O (nI Z (eC underlying3 Z) Zt Z Z)<|Y dL<|V dL<|Cn ?_ ?_<;>intro hc8
   .cases hc8
   refine O (nI Z (eC U_ Z) Rl Z Z)<|Y dL<|V dL<|Cn ?_ ?_<;>intro hc9
   .cases hc9
   refine O (nI Z (eC fP Z) zo4 Z Z)<|Y dL<|V dL<|Cn ?_ ?_<;>intro ρ
   .cases ρ
   refine O (yM Z (eC aE Z) Z)<|Y dL<|V dL<|Cn ?_ ?_<;>intro δ
   .refine Sz aJ<|O aA<|Y aA<|Y (cP.eqJ (lI Z aZ.1 Z) (congrArg (λn:Int=>AV.pv (.int .i64 n)) u.symm))<|Y (gQ (p:=.int .i64 y) Z (eC underlying3 Z) Z)<|Y (aM [BA (.n y)] Z AA Z Z Z Z Z R_)<|V (kc wN (mf (w y m4 B d J X) ⟨Z,Z,T_⟩ m3))<|Rd aA<|Y aA<|Y sW<|Y (bU isAgg131)<|Y aA<|Y (by exact WJ (ps:=F.map S_) Z aE R6 sZ Z Z Z Z Z (cY _) Z (Si F) (m:=C F) G (by rw[P];omega) Z (eS (J++[aV y]) F))<|Y sW<|Uu (jH sizeOf131)<|Zz<|Rd (ka o)<|V aA ?_;refine⟨k+1,X,X,?_⟩;dsimp only;rw[D,i_,K,show gI (.l F)=2 from Z,Wx (d+2) (J++[aV y]) F];exact L_
   cases δ
  | z i a b =>
   have h2r:2<r:=H;have ⟨hio,hao,hbo⟩:qS i/\C a<2^40/\C b<2^40:=e_;have e3:zQ [.n i,.l a,.l b]=fI (.z i a b):=by simp[zQ,fI]
   have h3:=ih 2 h2r [.n i,.l a,.l b] (by
    intro v e;simp only[l9,q8,or_false]at e;rcases e with rfl|rfl|rfl
    .exact⟨by simp[Tp],hio⟩
    .exact⟨by simp[Tp],hao⟩
    exact⟨by simp[Tp],hbo⟩) d J H_ (by rw[e3];exact c)
   rw[e3]at h3;refine aB<|S<|aD<|O (kx AA E)<|Y (fK wL (hi:=E))<|V aJ<|Sz aA<|aD<|O (DE Z (eC underlying3 Z) Zt Z Z)<|Y dL<|V dL<|Cn ?_ ?_<;>intro γ
   .cases γ
   refine O (DE Z (eC U_ Z) Rl Z Z)<|Y dL<|V dL<|Cn ?_ ?_<;>intro R
   .cases R
   refine O (DE Z (eC fP Z) zo4 Z Z)<|Y dL<|V dL<|Cn ?_ ?_<;>intro W
   .cases W
   refine O (DE Z (eC aE Z) aCV Z Z)<|Y dL<|V dL<|Cn ?_ ?_<;>intro v_
   .cases v_
   refine O (S3 (ps:=[.int .i64 i,aL a,aL b]) Z (eC kI Z) Z)<|Y dL<|V dL<|Cn ?_ ?_<;>intro β
   .refine O (kl 10 du)<|Uu (jH sizeOf48)<|Zz<|Rd aA<|Y (bD DW)<|Y (bU M_)<|Y (gQ (p:=.int .i64 i) Z (eC underlying3 Z) Z)<|Y (bD wX)<|Y (bU aG)<|Y (gQ (p:=aL a) Z (eC aE Z) Z)<|Y (bD wV)<|Y (bU aG)<|Y (gQ (p:=aL b) Z (eC aE Z) Z)<|Y (by exact aM [BA (.n i),BA (.l a),BA (.l b)] Z AA Z Z Z Z Z (by intro r hr;simp only[l9,q8,or_false]at hr;rcases hr with rfl|rfl|rfl<;>rfl))<|V (kc wN (mf h3 ⟨Z,Z,T_⟩ m3))<|Rd (ka o)<|V aA ?_;refine⟨k+1,X,X,?_⟩;dsimp only;rw[D,i_];exact L_
   cases β
  | p ps =>
   have B:1<r:=H;have ⟨hpl,hpo⟩:C ps<2^40/\∀q∈ps,qS q.1/\qS q.2:=e_;have hfp:∀j,QF (ps.take j)=(ps.take j).flatMap (λq=>[aV q.1,aV q.2]):=λ_=>rfl;have c:C J+(1+2*C ps)<2^40:=by
    have:C (fI (.p ps))=1+2*C ps:=by rw[show fI (.p ps)=aV (C ps:Int)::QF ps from Z,j6,QE];omega
    omega
   have G:C (ps.map kP)=C ps:=g_ _;have ⟨y,u⟩:∃y,y=(C (ps.map kP):Int):=X_;have m4:qS y:=⟨X,X⟩;have K:J++fI (.p ps)=(J++[aV y])++QF ps:=by rw[u,G,append_assoc];rfl
   refine aB<|S<|aD<|O (kx AA E)<|Y (fK wL (hi:=E))<|V aJ<|Sz aA<|aD<|O (nI Z (eC underlying3 Z) Zt Z Z)<|Y dL<|V dL<|Cn ?_ ?_<;>intro Q
   .cases Q
   refine O (nI Z (eC U_ Z) Rl Z Z)<|Y dL<|V dL<|Cn ?_ ?_<;>intro z_
   .cases z_
   refine O (nI Z (eC fP Z) zo4 Z Z)<|Y dL<|V dL<|Cn ?_ ?_<;>intro u_
   .cases u_
   refine O (nI Z (eC aE Z) aCV Z Z)<|Y dL<|V dL<|Cn ?_ ?_<;>intro hc20
   .cases hc20
   refine O (nI Z (eC kI Z) du Z Z)<|Y dL<|V dL<|Cn ?_ ?_<;>intro J0
   .cases J0
   refine O (yM Z (eC gL Z) Z)<|Y dL<|V dL<|Cn ?_ ?_<;>intro hc22
   .refine Sz aJ<|O aA<|Y aA<|Y (cP.eqJ (lI Z VH.1 Z) (congrArg (λn:Int=>AV.pv (.int .i64 n)) u.symm))<|Y (gQ (p:=.int .i64 y) Z (eC underlying3 Z) Z)<|Y (aM [BA (.n y)] Z AA Z Z Z Z Z R_)<|V (kc wN (mf (w y m4 B d J X) ⟨Z,Z,T_⟩ m3))<|O aA<|Y (fJ gL)<|V aA<|aD ?_;refine bC (σ:=Nat) (λj=>([(0,.ref 970 0 0 0),(14,.pv (.sl (l.map BA))),(15,iv (C (l.map BA):Int)),(16,iv (k:Int)),(95,.pv (yG ps)),(96,iv (C (ps.map kP):Int)),(97,iv (j:Int))],fH (d+1+2*j) ((J++[aV y])++QF (ps.take j)))) (λj=>j<=C ps) (λj=>C ps - j) 0 (k_ _) ?_ ?_
    .rw[show QF (ps.take 0)=[]from Z,append_nil];exact L_
    intro j hj;refine Sz cF<|S<|Cn ?_ ?_<;>intro c_
    .have hjl:j<C ps:=I_ c_
     have ⟨q,hq⟩:=aR hjl;have hqi:=cC (f:=kP) hq;have ⟨hq1,hq2⟩:=hpo q (m7 hq);have hnx:=Ke hq;have hln:C (J++[aV y]++QF (ps.take j))=C J+1+2*j:=by rw[j8,j8,QE,q9];simp;omega
     have h2:=ih 1 B [.n q.1,.n q.2] (by
      intro v e;simp only[l9,q8,or_false]at e;rcases e with rfl|rfl
      .exact⟨by simp[Tp],hq1⟩
      exact⟨by simp[Tp],hq2⟩) (d+1+2*j) (J++[aV y]++QF (ps.take j)) H_ (by rw[hln];show C J+1+2*j+2<_;omega)
     refine aB<|S<|aD<|O (kx VH hqi)<|Y (by exact eY Z eN sizeOf104 Z hqi u0 Z)<|Y (kl 13 Gb)<|Uu (jH sizeOf104)<|Zz<|Rd aA<|Y (bD nE)<|Y (bU M_)<|Y (gQ (p:=.int .i64 q.1) Z (eC underlying3 Z) Z)<|Y (bD nD)<|Y (bU M_)<|Y (gQ (p:=.int .i64 q.2) Z (eC underlying3 Z) Z)<|Y (by exact aM [BA (.n q.1),BA (.n q.2)] Z AA Z Z Z Z Z v6)<|V (kc wN (mf h2 ⟨Z,Z,T_⟩ m3))<|Rd kp ?_;refine V aA ?_;refine⟨j+1,X,X,?_⟩;dsimp only;rw[hnx,<-append_assoc,show d+1+2*(j+1)=d+1+2*j+ya [.n q.1,.n q.2]from rfl];exact L_
    have hjg:j=C ps:=by have:=b_ c_;omega
    subst hjg;rw[take_length];refine aP<|Rd (ka o)<|V aA ?_;refine⟨k+1,X,X,?_⟩;dsimp only;rw[D,i_,K,show d+gI (.p ps)=d+1+2*C ps from(Nat.add_assoc _ _ _).symm];exact L_
   cases hc22
 have hge:k=C l:=by have:=b_ τ;omega
 subst hge;rw[take_length];refine aP ?_;exact pI (.inl Z) Z Fin.refl ⟨Z,Z⟩
theorem aBv(r):Qo r:=Nat.strongRecOn r (λr a=>Qa r a)
theorem aCs(v):Tp v<3:=by cases v<;>simp[Tp]
theorem tv(l)(b:∀v∈l,okI v)(g)(L)(a:C l<2^40)(d:C L+C (zQ l)<2^40):
  aW φ 121 [.ref 970 0 0 0,.pv (.sl (l.map BA))] (fH g L) (λr H'=>r=.tup []/\H'=fH (g+ya l) (L++zQ l)) :=
 aBv 3 l (λv c=>⟨aCs v,b v c⟩) g L a d
structure q7 where
 idx:Int
 sig:List B_
 path:List B_
 deriving DecidableEq
structure GPriv where
 name:B_
 reason:B_
 sources:List B_
 trace:List (Int×Int)
 sl:q7
 deriving DecidableEq
structure j_ where
 kind:Int
 author:Int
 number:Int
 clock:Int
 branch:B_
 parents:List B_
 edits:List b9
 target:B_
 yes:Bool
 order:Int
 from':B_
 sl:q7
 priv:GPriv
def lV(s:q7):List PV:=[.int .i64 s.idx,aL s.sig,aL s.path]
def xU(p:GPriv):List PV:=[.str p.name,.str p.reason,aL p.sources,yG p.trace,.int .i64 p.sl.idx,aL p.sl.sig,aL p.sl.path]
def eD(r:j_):List PV:=[.int .i64 r.kind,.int .i64 r.author,.int .i64 r.number,.int .i64 r.clock,.str r.branch,aL r.parents,kR r.edits,.str r.target,.bool r.yes,.int .i64 r.order,.str r.from',.int .i64 r.sl.idx,aL r.sl.sig,aL r.sl.path,.str r.priv.name,.str r.priv.reason,aL r.priv.sources,yG r.priv.trace,.int .i64 r.priv.sl.idx,aL r.priv.sl.sig,aL r.priv.sl.path]
def ie(l:List B_):Prop:=C l<2^40/\∀t∈l,T t<2^40
def yO(s:q7):Prop:=qS s.idx/\ie s.sig/\ie s.path
def qi(p:GPriv):Prop:=T p.name<2^40/\T p.reason<2^40/\ie p.sources/\C p.trace<2^40/\yO p.sl
def aA9(q:B_->Bool)(l:List B_)(k:Nat):Bool:=match l[k]? with|some s=>q s|none=>η
theorem Ud(q)(l):(List.range (C l)).any (aA9 q l)=l.any q:=Ed l q
theorem D2(f)(l)(q)(B:C l<2^40)(d:∀s∈l,dO φ (.pv (.fn f)) [sv s] [] (λr H'=>r=bv (q s)/\H'=[]))(H):
  RC 28 [.pv (aL l),.pv (.fn f)] (bv (l.any q)) H:=by
 refine Pu ?_;have c:=BC _ l (aA9 q l) _ X (λk s b=>by
  rw[aA9,b];exact d s (m7 b))
 rw[Ud]at c;exact c
theorem aBf(t)(b:T t<2^40)(H):RC 212 [sv t] (bv (oddJ t)) H:=by refine Pu ?_;exact Bd func212 Z ntmps212<|Sz aJ<|O aA<|Y (bH Z Z call30 Z (X8 t b _))<|Y iE<|V aJ<|aC<|Rt<|Qq
theorem N4(l)(c:ie l)(H):RC 155 [.pv (aL l)] (bv (l.all m6)) H:=by
 refine Pu ?_;have b:=D2 _ l _ c.1 (λs d=>dO.fn call212 (aBf s (c.2 s d) _)) [];rw[MF]at b;refine Bd func155 Z ntmps155<|Sz aJ<|O aA<|Y (bH Z Z call28 Z (b))<|Y iE<|V aJ<|aC<|Rt ?_
 simp_all
def BP(s:q7):Bool:=θ (s.idx=0)&&θ ((C (s.sig.map S_):Int)+(C (s.path.map S_):Int)=0)
theorem Zv(s:q7)(c:yO s)(H:aF):RC 210 [av (lV s)] (bv (BP s)) H:=by
 refine Pu ?_;have B:C (s.sig.map S_)<2^40:=by rw[g_];exact c.2.1.1
 have D:C (s.path.map S_)<2^40:=by rw[g_];exact c.2.2.1
 refine Bd func210 Z ntmps210<|O (kb 1)<|V aJ<|S<|aT (t:=2) (n:=15) (A_:=BP s) ?_ ?_
 .all_goals refine Y (bD DW)<|Y (bU M_)<|Y cG<|Dm ?_<;>(refine Sp 6 (λd=>?_) λd=>?_)<;>(first|refine M<|M<|M<|M<|M<|M<|M<|M ?_|refine U (bD wX)<|U (bU aG)<|U (fJ aE)<|U (bD wV)<|U (bU aG)<|U (fJ aE)<|U (dB Z Z Z (lZ X X))<|U cG ?_)<;>refine Y cE<|Da ?_<;>exact Gj (h:=by(rw[BP,d];rfl))
 exact aC<|Rt<|Qq
def lK(s:q7):Bool:=BP s||(((((θ (0<=s.idx)&&θ (s.idx<256))&&θ ((C (s.sig.map S_):Int)=18))&&θ ((C (s.path.map S_):Int)<=8))&&s.sig.all m6)&&s.path.all m6)
theorem jv(s:q7)(i:yO s)(H:aF):RC 151 [av (lV s)] (bv (lK s)) H:=by
 refine Pu ?_;have l:=λH=>Zv s i H;have j:=λH=>N4 s.sig i.2.1 H;have k:=λH=>N4 s.path i.2.2 H;have ⟨m,b⟩:∃m,m=BP s:=X_;rw[<-b]at l;refine Bd func151 Z ntmps151<|O (kb 1)<|V aJ<|S<|aT (t:=2) (n:=41) (A_:=lK s) ?_ ?_
 .all_goals refine Y (by exact aX Z iC sizeOf48 Z Z Z Z u0 Z) ?_
  all_goals refine Y (kc call210 (l _))<|Dm ?_<;>(refine Sp 5 (λe=>?_) λe=>?_)<;>(first|exact s_|refine M<|M<|M<|M ?_|refine U (bD DW)<|U (bU M_)<|U AN<|U aA ?_)<;>(first|refine Sp 9 (λg=>?_) λg=>?_|refine kX (t:=9) Z ?_)<;>(first|exact s_|refine M ?_|refine Fu ?_|refine U (bD DW) ?_)<;>(first|refine M ?_|refine Fu ?_|refine U (bU M_) ?_)<;>(first|refine M ?_|refine Fu ?_|refine U cF ?_)<;>(first|refine M<|M ?_|refine U cE<|U aA ?_)<;>(first|refine Sp 14 (λc=>?_) λc=>?_|refine kX (t:=14) Z ?_)<;>(first|exact s_|refine M ?_|refine Fu ?_|refine U (bD wX) ?_)<;>(first|refine M ?_|refine Fu ?_|refine U (bU aG) ?_)<;>(first|refine M ?_|refine Fu ?_|refine U (fJ aE) ?_)<;>(first|refine M ?_|refine Fu ?_|refine U cG ?_)<;>(first|refine M<|M ?_|refine U cE<|U aA ?_)<;>(first|refine Sp 20 (λd=>?_) λd=>?_|refine kX (t:=20) Z ?_)<;>(first|exact s_|refine M ?_|refine Fu ?_|refine U (bD wV) ?_)<;>(first|refine M ?_|refine Fu ?_|refine U (bU aG) ?_)<;>(first|refine M ?_|refine Fu ?_|refine U (fJ aE) ?_)<;>(first|refine M ?_|refine Fu ?_|refine U EQ ?_)<;>(first|refine M<|M ?_|refine U cE<|U aA ?_)<;>(first|refine Sp 26 (λf=>?_) λf=>?_|refine kX (t:=26) Z ?_)<;>(first|exact s_|refine M ?_|refine Fu ?_|refine U (bD wX) ?_)<;>(first|refine M ?_|refine Fu ?_|refine U (bU aG) ?_)<;>(first|refine M ?_|refine Fu ?_|refine U (kc call155 (j _)) ?_)<;>(first|refine M<|M ?_|refine U cE<|U aA ?_)<;>(first|refine Sp 31 (λh=>?_) λh=>?_|refine kX (t:=31) Z ?_)<;>(first|exact s_|refine M ?_|refine Fu ?_|refine U (bD wV) ?_)<;>(first|refine M ?_|refine Fu ?_|refine U (bU aG) ?_)<;>(first|refine M ?_|refine Fu ?_|refine U (kc call155 (k _)) ?_)<;>(first|refine M ?_|refine U cE ?_)<;>refine Y cE<|Da ?_<;>exact Gj (h:=by first|(rw[lK,<-b,e];rfl)|(rw[lK,<-b,e,g];rfl)|(rw[lK,<-b,e,g,c];rfl)|(rw[lK,<-b,e,g,c,d];rfl)|(rw[lK,<-b,e,g,c,d,f];rfl)|(rw[lK,<-b,e,g,c,d,f,h];rfl))
 exact aC<|Rt<|Qq
def uZ(p:GPriv):Bool:=θ (p.name++p.reason=a6)&&θ ((C (p.sources.map S_):Int)+(C (p.trace.map kP):Int)=0)
theorem Xa(p:GPriv)(d:qi p)(H:aF):RC 120 [av (xU p)] (bv (uZ p)) H:=by
 refine Pu ?_;have ⟨B,D,e,E,F⟩:=d;have G:C (p.sources.map S_)<2^40:=by rw[g_];exact e.1
 have I:C (p.trace.map kP)<2^40:=F_
 refine Bd func120 Z ntmps120<|O (kb 1)<|V aJ<|S<|aT (t:=2) (n:=18) (A_:=uZ p) ?_ ?_
 .all_goals refine Y (bD JM)<|Y (bU N_)<|Y (bD JL)<|Y (bU N_)<|Y kq<|Y vT<|Dm ?_<;>(refine Sp 9 (λc=>?_) λc=>?_)<;>(first|refine M<|M<|M<|M<|M<|M<|M<|M ?_|refine U (bD zC)<|U (bU aG)<|U (fJ aE)<|U (bD tX)<|U (bU kK)<|U (fJ gL)<|U (dB Z Z Z (lZ X X))<|U cG ?_)<;>refine Y cE<|Da ?_<;>exact Gj (h:=by(rw[uZ,c];rfl))
 exact aC<|Rt<|Qq
theorem RH(n a b)(H):RC 146 [iv n,iv a,iv b] (bv (θ (a<=n)&&θ (n<=b))) H:=by
 refine Pu<|Bd func146 Z ntmps146<|Sz aJ<|S<|aT (t:=6) (n:=10) (A_:=θ (a<=n)&&θ (n<=b)) ?_ ?_
 .all_goals refine Y aA<|Y aA<|Y AN<|Dm ?_<;>(refine Sp 10 (λd=>?_) λd=>?_)<;>(first|refine M<|M<|M ?_|refine U aA<|U aA<|U EQ ?_)<;>refine Y cE<|Da ?_<;>(exact⟨⟨_,Z,G_⟩,Z,Z,Z⟩)
 exact aC<|Rt<|Qq
def LM(s:B_):Bool:=θ (200<(T s:Int))
theorem aBN(s)(H):RC 148 [sv s] (bv (LM s)) H:=by refine Pu ?_;exact Bd func148 Z ntmps148<|Sz aJ<|O aA<|Y (gG U_)<|Y iZ<|V aJ<|aC<|Rt<|Qq
theorem vm(l)(c:C l<2^40)(H):RC 147 [.pv (aL l)] (bv (!l.any LM)) H:=by refine Pu ?_;have b:=D2 _ l _ c (λs B=>dO.fn call148 (aBN s _)) [];exact Bd func147 Z ntmps147<|Sz aJ<|O aA<|Y (bH Z Z call28 Z (b))<|Y iE<|V aJ<|aC<|Rt<|Qq
end Go.Proofs.C
namespace Go.Abs
section
section
variable{P:Program}{m4:Nat}{o:Oper}{E:dD}{H:aF}{f_ J0 t:TypeId}{x:Operand}{id g n m:Nat}{ob:Ob}
theorem I0(y:o.op=.convert f_ J0 x)(B:P.underlying f_=A .unsafePointer)(v:P.underlying J0=A (.pointer t))(hi:(P.info? t).map (·.size)=A (n+1))(q:P.cellsOf ob.ty=m+1)(k:aS E x=A (.ref id g 0 0))(s:H.get id=A ob)(i:ob.g=g)(e:ob.rows≠[])(f:ob.sz=m+1)(J:∀c,liesAt P P.depth ob.ty (c+1) 0 t 1=N):cP P m4 o E H (.ref id g 0 0) H :=.of_run λa w I ι l z=>by
  have h:=aK z k;have ⟨b,d,r,p,D,F⟩:=M4 l h s i e;have ⟨j,u,G⟩:=CD hi;refine⟨_,?_,h⟩;simp only[execOp,y,r];have K:d*ob.sz / P.cellsOf ob.ty=(d - 1)+1:=by rw[q,f,Nat.mul_div_cancel _ X];omega
  rw[Sem.run_bind,Lib.run_from_unsafe w _ B v u p G_];rfl
end
end
end Go.Abs
namespace Go.Proofs.C
open Go.Proofs.Tryz
open Go.Abs
variable{s:B_}{i n:Nat}{r:List UInt8}
theorem aDe(c):liesAt φ φ.depth 297 (c+1) 0 161 1=N:=by kernel_rfl
def OB(B:AV)(u:Bool):Ob:=⟨0,2,297,[[lz u,B]]⟩
def rA(g:Nat)(l:List UInt8)(u:Bool):aF:=[(2001,OB (.osl 2002 g 0 (C l)) u),(2002,⟨g,1,5,fX l⟩)]
theorem US{H}{g n}{u}(e:(H.get 2001).isSome=N)(f:(H.get 2002).isSome=N):∀r∈(OB (.osl 2002 g 0 n) u).rows,∀a∈r,Clo H a:=by
 intro r c a d;simp[OB,q_]at c;subst c;simp[l9,q8,or_false]at d;rcases d with rfl|rfl
 .cases u<;>simp[lz,e]
 simp[f]
theorem LZ(b:AV)(u:Bool)(K:aF):aW φ 191 [.ref 2001 0 0 0] ((2001,OB b u)::K) (λr H'=>r=.tup []/\H'=(2001,OB b N)::K):=by
 cases u with
 |false =>
  refine Bd func191 Z ntmps191<|O aA<|Y sW<|Y (bD AP)<|Y (bU isAgg158)<|V (OP Z iJ Z Z)<|Cn ?_ ?_<;>intro c
  ·refine Rd aA<|Y aA<|Y (by exact HW (n:=1) Z iJ underlying247 x7 Z Z Z (by simp[OB]))<|Y (by exact QH Z Z func239 Z Z Z Z Z (kf (.ref 2001 0 0 0)))<|Y (by exact I0 (n:=1) (m:=1) Z underlying247 iJ x7 x7 Z Z Z (by simp[OB]) Z aDe)<|Y sW<|Y (bD AP)<|Uu (ku sizeOf158)<|Zz ?_;exact pI (.inl Z) Z (Fin.get' (H':=(2001,OB b true)::K) (λj=>xR 2001 (OB b true) (OB b false) K j)) ⟨Z,Z⟩
  cases c
 |true =>
  refine Bd func191 Z ntmps191<|O aA<|Y sW<|Y (bD AP)<|Y (bU isAgg158)<|V (by exact OO Z iJ Z Z Z Z)<|Cn ?_ ?_<;>intro c
  .cases c
  refine O aA<|Y sW<|Y (bD AP)<|Y (bU isAgg158)<|Y aA<|V (by exact KZ (n:=1) Z iJ x7 Z Z Z Z)<|Cn ?_ ?_<;>intro d
  .cases d
  refine aB ?_;exact pI (.inl Z) Z Fin.refl ⟨Z,Z⟩
theorem lq(g)(l m){n}(h:C m=n):rA (g+1) (l++m) N=[(2001,OB (.osl 2002 (g+1) 0 (C l+n)) N),(2002,⟨g+1,1,5,fX (l++m)⟩)]:=by subst h;simp[rA]
theorem Y9(g:Nat)(l:List UInt8)(u:Bool)(c:UInt8)(B:l.length<70368744177664):aW Tryz.prog 160 [.ref 2001 0 0 0,.pv (.int .u8 c.toNat)] (rA g l u) (λr H'=>r=.pv NK/\H'=rA (g+1) (l++[c]) true):=by refine Bd func160 Z ntmps160<|Sz aJ<|O aA<|V (kc call191 (LZ _ u _))<|O aA<|Y aA<|Y sW<|Y (bD iQ)<|Y (bU eM)<|Y aA<|Y (by exact aM [[.int .u8 c.toNat]] Z BV Z Z Z Z Z F_)<|Y (by exact bW (ps:=[[.int .u8 c.toNat]]) Z BV Zb Z Z Z Z Z (sS l) Z F_ (m:=1) Z X Z (vD l [c]))<|Y sW<|Y (bD iQ)<|Uu (ku qU)<|Zz<|Sz aJ<|aC ?_;rw[lq g l [c] (n:=1) rfl];refine cN (.inr Z) Z (aI Z) (Fin.get' (λj=>LQ E_ j)) ?_;exact Qq
theorem EY(g:Nat)(l:List UInt8)(u:Bool)(s:B_)(B:l.length+s.size<70368744177664):aW Tryz.prog 132 [.ref 2001 0 0 0,sv s] (rA g l u) (λr H'=>r=.tup [iv (s.size:Int),.pv NK]/\H'=rA (g+1) (l++s.data.toList) true):=by refine Bd func132 Z ntmps132<|O aJ<|V aJ<|O aA<|V (kc call191 (LZ _ u _))<|O aA<|Y aA<|Y sW<|Y (bD iQ)<|Y (bU eM)<|Y aA<|Y (by exact xG Z BV U_ Zb PS Z Z Z Z Z (sS l) Z X Z (vD l s.data.toList))<|Y sW<|Y (bD iQ)<|Uu (ku qU)<|Zz<|O aA<|Y (gG U_)<|Y aJ<|V aJ<|aC ?_;rw[lq g l s.data.toList (n:=s.size) rfl];refine fO (.inr Z) Z (aI Z) (aI Z) (Fin.get' (λj=>LQ E_ j)) ?_;exact Qq
def ly(g:Nat)(l:List UInt8)(u:Bool):aF:=[(2002,⟨g+1,1,5,[]⟩),(2001,OB (.osl 2002 g 0 (C l)) u)]
theorem aAN(g:Nat)(l:List UInt8)(u:Bool)(B:C l<70368744177664):aW φ 133 [.ref 2001 0 0 0] (rA g l u) (λr H'=>r=sv ⟨l.toArray⟩/\H'=ly g l u):=by
 by_cases e:l=[]
 ·subst e;refine Bd func133 Z ntmps133<|Sz aJ<|S<|aN a7<|Cq aA<|Cq sW<|Cq (bD iQ)<|Cq (bU eM)<|Cq (by exact FC Z zM Z Z Z)<|Cq aA<|Cq sW<|Cq (bD iQ)<|Cq (bU eM)<|Cq (by exact dQ Z dM Z Z Z)<|Cq (by exact AE Z Z Z)<|Cq aJ<|bG<|Kr<|aC ?_;refine cN (H':=(ly g [] u)) (.inr Z) Z (aI Z) (Fin.trans (Fin.deadO (id:=2002) (k:=g+1) (ob:=⟨g,1,5,fX []⟩) Z (lt_succ_self g) Nat.zero_lt_one Z Z) (Fin.get' (λj=>QS E_ j))) ?_;exact Qq
 have c:0<C l:=length_pos_iff.2 e;refine Bd func133 Z ntmps133<|Sz aJ<|S<|aN a7<|Cr [2001] (λ_ _=>aA)<|Cr [2001] (λd b=>by exact dW Z Z ((b _ Z).trans Z) Z)<|Cr [2001] (λ_ h=>fh iQ h)<|Cr [2001] (λ_ h=>lh eM h)<|Cr [2002] (λd b=>by exact HZ Z Z ((b _ Z).trans Z) Z c)<|Cr [2001] (λ_ _=>aA)<|Cr [2001] (λd b=>by exact dW Z Z ((b _ Z).trans Z) Z)<|Cr [2001] (λ_ h=>fh iQ h)<|Cr [2001] (λ_ h=>lh eM h)<|Cr [2002] (λd b=>by exact dQ Z dM Z ((b _ Z).trans Z) Z)<|Cp [2001,2002] (λd b=>by exact B6 (l:=l) rfl zM x7 rfl rfl ((b _ rfl).trans rfl) rfl rfl rfl rfl rfl c X rfl)<|x_ aJ<|bG<|Kr<|aC ?_;refine cN (H':=(ly g l u)) (.inr Z) Z (aI Z) (Fin.get' (λj=>QS E_ j)) ?_;exact Qq
theorem Mb(g)(l)(u):aW Tryz.prog 208 [.ref 2001 0 0 0] (rA g l u) (λr H'=>r=iv (l.length)/\H'=rA g l u):=by refine Bd func208 Z ntmps208<|Sz aJ<|O aA<|Y sW<|Y (bD iQ)<|Y (bU eM)<|Y (by exact dQ Z dM Z Z Z)<|V aJ<|aC ?_;refine cN (.inr Z) Z (aI Z) Fin.refl ?_;exact Qq
def Kc(l:List UInt8)(s:B_):List UInt8:=if l=[]then ν (μ s) else l++32::ν (μ s)
theorem aCx(g:Nat)(l:List UInt8)(u:Bool)(s:B_)(D:C l+T s<70368744177663):aW φ 287 [.ref 2001 0 0 0,sv s] (rA g l u) (λr H'=>r=.tup []/\H'=rA (if l=[]then g+1 else g+2) (Kc l s) N):=by
 have f:=Y9 g l u 32 X;have e:=Mb g l u;rw[Kc];by_cases d:l=[]
 .subst d;have c:=EY g [] u s X;rw[b6 Z,b6 rfl];rw[nil_append]at c;refine Bd func287 Z ntmps287<|S<|O aA<|Y sW<|Y (bD qJ)<|Y (kc call208 (e))<|V iZ<|Cn ?_ ?_<;>intro b
  .cases b
  refine aB<|Rd aA<|Y sW<|Y (bD qJ)<|Y aA<|V (kc nS (c)) ?_;exact pI (H':=rA (g+1) (ν (μ s)) N) (.inl Z) Z Fin.refl ⟨Z,Z⟩
 have B:0<C l:=length_pos_iff.2 d;have c:=EY (g+1) (l++[32]) N s G_;rw[a8 d,a8 d];rw[append_assoc]at c;refine Bd func287 Z ntmps287<|S<|O aA<|Y sW<|Y (bD qJ)<|Y (kc call208 (e))<|V iZ<|Cn ?_ ?_<;>intro b
 .refine Rd aA<|Y sW<|Y (bD qJ)<|V (kc nQ (f))<|Rd aA<|Y sW<|Y (bD qJ)<|Y aA<|V (kc nS (c)) ?_;exact pI (H':=rA (g+2) (l++32::ν (μ s)) N) (.inl Z) Z Fin.refl ⟨Z,Z⟩
 have:=b_ b;omega
theorem aAM{g}{l}{u}{K}:Sub (rA g l u) (rA g l u++K):=by intro j o h;rw[gH,h]
theorem aDf{g c}{l b}{u u'}{id}(h:(aF.get (rA g l u) id).isSome=N):(aF.get (rA c b u') id).isSome=N:=xh h
theorem aDn{g a}{l b}{u u'}{K}(j):aF.get (rA g l u++(rA a b u'++K)) j=aF.get (rA g l u++K) j:=by exact(LQ H_ j).symm
theorem Kb(K)(g)(l)(u)(s)(a:C l+T s<70368744177663):aW φ 287 [.ref 2001 0 0 0,sv s] (rA g l u++K) (λr H'=>r=.tup []/\H'=rA (if l=[]then g+1 else g+2) (Kc l s) N++K) :=(aW.frame (aCx g l u s a) aAM (dI.ofL ⟨(US Z Z),(eW _ _),T_⟩) m3 (λid h=>.inl (aDf h))).congrH λj=>(aDn j).symm
theorem QO(K)(g)(l)(u):aW φ 208 [.ref 2001 0 0 0] (rA g l u++K) (λr H'=>r=iv (C l)/\H'=rA g l u++K) :=(aW.frame (Mb g l u) aAM (dI.ofL ⟨(US Z Z),(eW _ _),T_⟩) m3 (λid h=>.inl h)).congrH λj=>(aDn j).symm
def tT(c:UInt8):Option UInt8:=if c=92 then A 92 else if c=34 then A 34 else if c=110 then A 10 else ζ
def oN:List UInt8->Option (List UInt8×Nat)
 | []=>ζ
 | [c]=>if c=34 then A ([],1)else ζ
 |c::e::r=>if c=34 then A ([],1)else if c=10 then ζ else if c=92 then(tT e).bind λb=>(oN r).map λp=>(b::p.1,p.2+2)else(oN (e::r)).map λp=>(c::p.1,p.2+1)
def A8(s:B_):B_×Int:=match oN (s.data.toList.drop 1)with
 |some (d,n)=>(⟨d.toArray⟩,((n+1:Nat):Int))
 |none=>(a6,0)
theorem CW{r}:oN (34::r)=A ([],1):=by cases r<;>rfl
theorem MW{r}:oN (10::r)=ζ:=by cases r<;>rfl
theorem vL{r}{e}:oN (92::e::r)=(tT e).bind λb=>(oN r).map λp=>(b::p.1,p.2+2):=rfl
theorem CX{c}{r}(a:c≠34)(d:c≠10)(b:c≠92):oN (c::r)=(oN r).map λp=>(c::p.1,p.2+1):=by
 cases r with
 |nil =>
  show (if c=34 then A _ else ζ)=_;rw[a8 a];rfl
 |cons e r=>rw[oN,a8 a,a8 d,a8 b]
def yD(o:Option (List UInt8×Nat))(w:List UInt8)(i:Nat):B_×Int:=match o with
 |some (d,n)=>(⟨(w++d).toArray⟩,((i+n:Nat):Int))
 |none=>(a6,0)
theorem BT{o}{w}{b}{i k}:yD (o.map λp=>(b::p.1,p.2+k)) w i=yD o (w++[b]) (i+k):=by
 cases o with
 |none=>rfl
 |some p=>simp[yD,Option.map_some,append_assoc,singleton_append];grind
theorem zD{s}{i}(h:i<T s):s.data.toList.drop i=pN s i::s.data.toList.drop (i+1):=by
 have a:i<C s.data.toList:=F_
 rw[drop_eq_getElem_cons a,pN,p_ _];rfl
theorem CI{i}(h:T s<=i):s.data.toList.drop i=[]:=drop_eq_nil_of_le F_
theorem CM{s}(a:n<256){b}(h:θ (bA s i=n)=b):θ (pN s i=UInt8.ofNat n)=b:=by rw[<-h,uB,RJ a]
theorem Gx(c):(Lib.indexByte (⟨#[92,34,110]⟩:B_).data.toList ((c.toNat:Int).toNat.toUInt8) = -1/\tT c=ζ)\/∃k:Nat,k<3/\Lib.indexByte (⟨#[92,34,110]⟩:B_).data.toList ((c.toNat:Int).toNat.toUInt8)=k/\tT c=A (pN ⟨#[92,34,10]⟩ k):=by
 have j:((c.toNat:Int).toNat.toUInt8)=c:=H_
 rw[j];by_cases f:c=92
 .subst f;exact .inr ⟨0,E_,E_,E_⟩
 by_cases g:c=34
 .subst g;exact .inr ⟨1,E_,E_,E_⟩
 by_cases e:c=110
 .subst e;exact .inr ⟨2,E_,E_,E_⟩
 refine .inl ⟨?_,by rw[tT,a8 f,a8 g,a8 e]⟩;have l:(92 == c)=η:=G_
 have i:(34 == c)=η:=G_
 have h:(110 == c)=η:=G_
 simp only[Lib.indexByte,l,i,h];rfl
theorem np(s:B_)(H:aF)(W:T s<2^40):RC 291 [sv s] (.tup [sv (A8 s).1,iv (A8 s).2]) H:=by
 refine Pu ?_;have K:A8 s=yD (oN (s.data.toList.drop 1)) [] 1:=by
  unfold A8 yD
  grind
 generalize A8 s=c at K |-;refine Bd func291 Z ntmps291<|O aJ<|V aJ<|Sz (kl 2001 IH)<|S<|S ?_;refine gO.ent (E':=[(0,sv s),(4,.ref 2001 0 0 0)]) (H':=zH 0 [] η) (cH.bld0 ⟨⟨_,Z,.same H_⟩,⟨_,Z,.same m3⟩,T_⟩) ?_;refine Rg<|V aJ<|aD<|YZ (λ(i g:Nat) (w:List UInt8) (u:Bool)=>([(0,sv s),(4,.ref 2001 0 0 0),(5,iv (i:Int))],zH g w u)) (λi g w u=>C w<=i/\i<2199023255552/\c=yD (oN (s.data.toList.drop i)) w i) (λi g w u=>T s+1 - i) 1 0 [] η ⟨k_ _,E_,K⟩ ?_ ?_
 .exact(cH.wk (Eb<|Ea<|Eb<|T_) (Hc (gR Z Z)<|Hc (eW _ _)<|T_) T_)
 rintro i g w u ⟨hwl,hib,b⟩;refine S<|O aA<|Y aA<|Y (gG U_)<|V cF<|Cn ?_ ?_<;>intro m
 .have B:i<T s:=I_ m
  have j:=zD B;refine aB<|S<|aD<|O aA<|Y aA<|Y (ky U_)<|V aJ<|Sz aA<|aD<|O cG<|Da<|Cn ?_ ?_<;>intro Q
  .have f:pN s i=34:=b8 (CM (n:=34) E_ Q);have d:c=(⟨w.toArray⟩,((i+1:Nat):Int)):=by rw[b,j,f,CW,yD,append_nil]
   rw[d];exact O (kc nR (RU g w u X))<|Y aA<|Y iH<|Y aJ<|V aJ<|aC<|Ru<|Qq
  have v:pN s i≠34:=b_ (CM (n:=34) E_ Q);refine O cG<|Da<|Cn ?_ ?_<;>intro t
  .have f:pN s i=10:=b8 (CM (n:=10) E_ t);have d:c=(a6,0):=by rw[b,j,f,MW,yD]
   rw[d];exact O aJ<|V aJ<|aC<|Ru<|Qq
  have p:pN s i≠10:=b_ (CM (n:=10) E_ t);refine O cG<|Da<|Cn ?_ ?_<;>intro k
  .have f:pN s i=92:=b8 (CM (n:=92) E_ k);refine O aA<|Y iH<|V aJ<|Sz aJ<|S<|O aA<|Y aA<|Y (gG U_)<|V cF<|Cn ?_ ?_<;>intro x
   .have o:i+1<T s:=I_ x
    have y:=zD o;rcases Gx (pN s (i+1))with⟨I,E⟩|⟨q,L,I,E⟩
    .have d:c=(a6,0):=by rw[b,j,f,y,vL,E];rfl
     have J:Lib.indexByte (⟨#[92,34,110]⟩:B_).data.toList (bA s (i+1)).toNat.toUInt8 = -1:=I;rw[d];refine Rd aA<|Y aA<|Y (ky U_)<|Y (kc call199 (sQ _ _ _))<|V aJ<|S<|O aA<|V cF<|Cn ?_ ?_<;>intro D
     .exact O aJ<|V aJ<|aC<|Ru<|Qq
     exact absurd (b_ D) F_
    have P:Lib.indexByte (⟨#[92,34,110]⟩:B_).data.toList (bA s (i+1)).toNat.toUInt8=(q:Int):=I;have G:q<T (⟨#[92,34,10]⟩:B_):=L;refine Rd aA<|Y aA<|Y (ky U_)<|Y (kc call199 (sQ _ _ _))<|V aJ<|S<|O aA<|V cF<|Cn ?_ ?_<;>intro F
    .exact absurd (b8 F) G_
    refine aB<|Rd aA<|Y (cL Z U_ Z Z F_ F_ G Z)<|V (kc nQ (lA g w u (pN ⟨#[92,34,10]⟩ q) X))<|Rd aA<|Y iH<|Da ?_;refine⟨i+1+1,g+1,w++[pN ⟨#[92,34,10]⟩ q],N,⟨G_,X,?_⟩,X,(cH.wk (Eb<|Ea<|Eb<|T_) (Hc (gR Z Z)<|Hc (eW _ _)<|T_) T_)⟩;rw[b,j,f,y,vL,E];exact BT
   have e:T s<=i+1:=J_ x
   have d:c=(a6,0):=by rw[b,j,f,CI e];rfl
   rw[d];refine aB<|S<|O aA<|V cF<|Cn ?_ ?_<;>intro R
   .exact O aJ<|V aJ<|aC<|Ru<|Qq
   cases R
  have z:pN s i≠92:=b_ (CM (n:=92) E_ k);refine Rd aA<|V (kc nQ (lA g w u (pN s i) X))<|Rd aA<|Y iH<|Da ?_;refine⟨i+1,g+1,w++[pN s i],N,⟨by rw[j8,length_singleton];omega,X,?_⟩,X,(cH.wk (Eb<|Ea<|Eb<|T_) (Hc (gR Z Z)<|Hc (eW _ _)<|T_) T_)⟩;rw[b,j,CX v p z,BT]
 have e:T s<=i:=J_ m
 have d:c=(a6,0):=by rw[b,CI e];rfl
 rw[d];exact aP<|O aJ<|V aJ<|aC<|Ru<|Qq
def nN(s:B_)(i:Nat):Int:=if i<T s then zF (bA s i)else 0
def tS(s:B_):Ob:=bx 1 9 [sv s]
def tC:Ob:=bx 256 223 wY
def tA:Ob:=bx 1 299 [.clo 289 [.ref 921 0 0 0,.ref 923 0 0 0]]
theorem aBu(s:B_)(i:Nat)(H:aF)(f:H.get 921=A (tS s))(d:H.get 923=A tC)(hi:i<2^62)(B:T s<2^62):
  RC 289 [iv (i:Int),.ref 921 0 0 0,.ref 923 0 0 0] (.pv (.int .u8 (nN s i))) H:=by
 refine Bd func289 Z ntmps289<|Sz aJ<|S<|O aA<|Y (aY Z N_ Z f Z Z Z)<|Y (gG U_)<|V AN<|Cn ?_ ?_<;>intro b
 .have e:nN s i=0:=by rw[nN,a8 (I_ b)]
  rw[e];refine Sz aJ<|aC<|cN (H':=H) (.inr Z) Z (aI Z) Fin.refl ?_;exact Qq
 have c:i<T s:=J_ b
 have e:nN s i=zF (bA s i):=by rw[nN,b6 c]
 rw[e];refine aB<|O (aY Z N_ Z f Z Z Z)<|Y aA<|Y (ky U_)<|Y (eZ (k2:=(bA s i).toNat) Z gS cO Z d Z Z (N8 s i) Z (CK s i) X)<|Y (aY Z vI Z d Z Z (Zg s i))<|V aJ<|aC<|cN (H':=H) (.inr Z) Z (aI Z) Fin.refl ?_;exact Qq
theorem eu(s:B_)(H:aF)(d:H.get 921=ζ)(b:H.get 923=ζ)(c:H.get 924=ζ)(B:dI H):
  aW φ 254 [sv s] H (λr H'=>r=.clo 290 [.ref 921 0 0 0,.ref 924 0 0 0]/\H'=(924,tA)::(923,tC)::(921,tS s)::H):=by
 refine Bd func254 Z ntmps254<|O (tP (id:=921) Z Z Z Z d)<|V aJ<|O (kc call211 (YW _))<|Y (CT (id:=923) Z ua Z b)<|Uu (mH Z BG Z Z Z Z Z Z Z H_)<|Zz<|O (iG Z Z)<|Y (CT (id:=924) Z aCU Z c)<|Uu (jH sizeOf299)<|Zz<|O (iG Z Z)<|V aJ<|aC ?_;refine cN (H':=((924,tA)::(923,tC)::(921,tS s)::H)) (.inr Z) Z (aI Z) (Fin.get' (λj=>by simp only[aF.get];cases Nat.beq 924 j<;>cases Nat.beq 923 j<;>rfl)) ?_;exact Qq
def zU(p:Nat->Bool):Nat->Nat->Nat
 |0,i=>i
 |n+1,i=>if p i then zU p n (i+1)else i
theorem GO(p):∀(n i),i<=zU p n i/\zU p n i<=i+n
 |0,i=>⟨h_ _,h_ _⟩
 |n+1,i=>by
  rw[zU]
  split
  .have:=GO p n (i+1);omega
  omega
theorem KG(p):∀(n i),∀j,i<=j->j<zU p n i->p j=N
 |0,i,j,b,a=>by rw[zU]at a;omega
 | n+1,i,j,b,a=>by
  rw[zU]at a
  split at a
  .by_cases e:j=i
   .simp_all
   exact KG p n _ j (by omega) a
  omega
theorem xY(p):∀(n i),zU p n i<i+n->p (zU p n i)=η
 |0,i,h=>by rw[zU]at h;omega
 |n+1,i,h=>by
  rw[zU]at h |-
  split at h
  .rename_i a;rw[b6 a];exact xY p n _ (by omega)
  simp_all
theorem AB(p){n i j}(d:i<=j)(B:j<=i+n)(c:∀k,i<=k->k<j->p k=N)(a:p j=η\/j=i+n):zU p n i=j:=by
 have ⟨b,l2⟩:=GO p n i;rcases Nat.lt_trichotomy (zU p n i) j with h|h|h
 .have:=xY p n i X;rw[c _ b h]at this;cases this
 ·exact h
 have:=KG p n i j d h;rcases a with a|a
 .rw[a]at this;cases this
 omega
def vY(s:B_)(j:Nat):Bool:=θ (j<T s)&&!θ (bA s j=10)
def vX(s:B_)(j:Nat):Bool:=θ (nN s j=3)||θ (nN s j=4)||θ (nN s j=5)
def PC(s:B_)(j:Nat):Bool:=θ (nN s j=4)
def G7(s:B_)(i:Nat):Nat:=zU (vY s) (T s - i) i
def CU(s:B_)(i:Nat):Nat:=zU (vX s) (T s - i) i
def JQ(s:B_)(i:Nat):Nat:=zU (PC s) (T s - i) i
structure b7 where
 kind:Int
 text:B_
 pos:Nat
 err:Int
def LX(f:b7):List PV:=[.int .i64 f.kind,.str f.text,.int .i64 f.pos,.int .i64 f.err]
def wC(i:Nat):b7:=⟨0,a6,i,3⟩
def A7(s:B_)(i j:Nat):b7:=⟨1,s.extract i j,i,if 24<j - i then 2 else 0⟩
def IB(s:B_)(i j:Nat):b7:=⟨2,s.extract i j,i,if θ (7<j - i)||θ (nN s j=3)||θ (nN s j=5)then 4 else 0⟩
def FR(s:B_)(i:Nat):b7×Nat:=if 0<(A8 (s.extract i (T s))).2 then(⟨3,(A8 (s.extract i (T s))).1,i,0⟩,i+(A8 (s.extract i (T s))).2.toNat)else(wC i,i)
def fF(s:B_)(i:Nat):Option b7×Nat :=if nN s i=1 then(ζ,i+1)else if nN s i=2 then(ζ,G7 s i)else if nN s i=3 then(A (A7 s i (CU s i)),CU s i)
 else if nN s i=4 then(A (IB s i (JQ s i)),JQ s i)else if nN s i=7 then(A (FR s i).1,(FR s i).2)
 else if nN s i=6 then(A ⟨4,s.extract i (i+1),i,0⟩,i+1)else(A (wC i),i)
def kO(s:B_):Nat->Nat->List b7
 |0,_=>[]
 |n+1,i=>if i<T s then(match fF s i with
  |(ζ,j)=>kO s n j
  |(A f,j)=>f::(if f.err=0 then kO s n j else[]))else[]
theorem RI:∀(l) (p),oN l=A p->p.2<=C l
 | [],p,h=>by cases h
 | [c],p,h=>by
  rw[oN]at h
  grind
 | c :: e :: r, p, h => by
  rw[oN]at h
  split at h
  ·grind
  split at h
  .cases h
  split at h
  .cases f:tT e with
   |none=>simp_all
   | some b =>
    rw[f]at h;cases d:oN r with
    |none=>simp_all
    |some q =>
     rw[d]at h;cases h;have:=RI r q d;show q.2+2<=C r+1+1;omega
  cases d:oN (e::r)with
  |none=>simp_all
  |some q =>
   rw[d]at h;cases h;have:=RI _ q d
   simp_all
theorem ju(s):0<=(A8 s).2/\(A8 s).2<=T s:=by
 have B:C s.data.toList=T s:=rfl;unfold A8;cases b:oN _ with
 |none=>exact⟨Int.le_refl _,Int.natCast_nonneg _⟩
 | some p =>
  have:=RI _ p b;rw[q6]at this;refine⟨Int.natCast_nonneg _,?_⟩;show ((p.2+1):Int)<=_;have c:0<T s:=by
   cases c:ν (μ s) with
   |nil=>rw[c]at b;cases b
   |cons a l=>grind
  omega
theorem Y2(s)(i)(h:nN s i≠0):i<T s:=by
 by_cases e:i<T s
 .exact e
 exact absurd (a8 e) h
def tF(f:b7):Ob:=bx 4 266 ((LX f).map .pv)
theorem AU(H)(f):∀r∈(tF f).rows,∀a∈r,Clo H a:=by intro r b a c;simp[tF,bx,q_]at b;subst b;obtain ⟨p,_,rfl⟩:=mem_map.1 c;simp
instance(H)(f):W_ (H) ((tF f).rows):=⟨AU H f⟩
theorem TY{α:Type}{l m:List α}{k}{d}(h:l.drop k=d::m):l[k]?=A d/\l.drop (k+1)=m:=by
 refine⟨?_,?_⟩
 .have:=congrArg (·[0]?) h
  simpa using this
 rw[<-drop_drop,h];rfl
theorem PY{j:Nat}{f:b7}(h:fF s i=(A f,j))(b:f.err=0)(hi:i<T s):i<j/\j<=T s:=by
 have a:∀(p),p i=N->i<zU p (T s - i) i/\zU p (T s - i) i<=T s:=λp d=>by
  have ⟨l1,l2⟩:=GO p (T s - i) i;refine⟨?_,X⟩;rcases Nat.lt_or_ge i _ with h|h
  .exact h
  have c:=xY p (T s - i) i X;rw[show zU p (T s - i) i=i by omega,d]at c;cases c
 unfold fF at h
 split at h
 .cases h
 split at h
 .cases h
 split at h
 .rename_i g;cases h;exact a _ (by rw[vX,g];rfl)
 split at h
 .rename_i e;cases h;exact a _ (by rw[PC,e];rfl)
 split at h
 .have hul:=ju (s.extract i (T s));have B:T (s.extract i (T s))<=T s - i:=F_
  unfold FR at h
  split at h
  .cases h;omega
  cases h;cases b
 split at h
 ·cases h;exact⟨lt_succ_self _,hi⟩
 cases h;cases b
theorem ltD(h:θ (i<(n:Int))=N):i<n:=I_ h
theorem MY(s:B_)(y:AV)(J:Nat->aF)(L:Nat->Bool)(m:Nat)(hs:T s<2^40)(G:∀k,(J k).get 921=A (tS s))(x:∀k,(J k).get 923=A tC)(J0:∀k,(J k).get 924=A tA)(h6:∀k,(J k).get 926=ζ)(y_:∀k,dI (J k))(hf:∀k,Clo (J k) y)
  (hm:m<=C (kO s (T s+1) 0)) (κ:∀k,k+1<m->L k=N) (f_:m=C (kO s (T s+1) 0)\/(0<m/\L (m - 1)=η))
  (hy:∀k d,(kO s (T s+1) 0)[k]?=A d->k<m->dO φ y [.agg ((LX d).map .pv)] ((926,tF d)::J k) (λr H'=>r=bv (L k)/\H'=(926,tF d)::J (k+1))) :
  aW φ 290 [y,.ref 921 0 0 0,.ref 924 0 0 0] (J 0) (λr H'=>r=.tup []/\H'=J m):=by
 have ⟨ds,hds⟩:∃ds,ds=kO s (T s+1) 0:=X_;rw[<-hds]at hy hm f_;have D:∀(k i:Nat) (f:b7),i<=T s+1->dO φ (.clo 289 [.ref 921 0 0 0,.ref 923 0 0 0]) [iv (i:Int)] ((926,tF f)::J k) (λr H'=>r=.pv (.int .u8 (nN s i))/\H'=(926,tF f)::J k):=λk i f hi =>
  dO.clo call289 (aBu s i ((926,tF f)::J k) (G k) (x k) X X)
 have P:∀(G0:aF) (k i:Nat) (E:dD) (o:Ob),G0=J 0->E.get 0=A y->E.get 1=A (.ref 921 0 0 0)->E.get 2=A (.ref 924 0 0 0)->E.get 4=A (iv (i:Int)) ->
   cH G0 E ((926,o)::J k) [(0,y),(1,.ref 921 0 0 0),(2,.ref 924 0 0 0),(4,iv (i:Int))] (J k):=λG0 k i E o hG q0 A_ q2 q4=>by
  subst hG;exact cH.front (K:=J k) [(926,o)] [] ⟨⟨_,q0,Z⟩,hf k,⟨_,A_,Z⟩,(by rw[D3];simp_all),⟨_,q2,Z⟩,(by rw[D3];simp_all),⟨_,q4,Z⟩,H_,T_⟩ G_ H_ H_ (y_ k) G_
 refine Bd func290 Z ntmps290<|Dw<|Sz aJ<|S<|Dx<|aD<|dU (λ(i k:Nat)=>([(0,y),(1,.ref 921 0 0 0),(2,.ref 924 0 0 0),(4,iv (i:Int))],J k)) (λi k=>i<=s.size/\k<=m/\(k=0\/L (k - 1)=true)/\∃n,s.size - i<n/\ds.drop k=kO s n i) (λi k=>s.size - i) 0 0 ⟨k_ _,k_ _,.inl Z,s.size+1,Nat.lt_succ_self _,F_⟩ ?_ ?_
 .exact E0
 rintro i k ⟨hi,hkm,hkc,n,hn,hinv⟩;refine S<|O aA<|Y (aY Z N_ Z (G k) Z Z Z)<|Y (gG U_)<|V cF<|Cn ?_ ?_<;>intro δ
 .have hlt:i<T s:=I_ δ
  obtain ⟨n,rfl⟩:∃n',n=n'+1:=⟨n - 1,X⟩;rw[kO,b6 hlt]at hinv;refine aB<|aD<|O aA<|V aJ<|O aA<|Y (pB IG)<|Y (pB aEA)<|Y (CT (id:=926) Z Ga Z (h6 k))<|Uu (jH sizeOf266)<|Zz<|eU (λ(a:b7×Nat)=>([(0,y),(1,.ref 921 0 0 0),(2,.ref 924 0 0 0),(4,iv (a.2:Int)),(6,.ref 926 0 0 0)],(926,tF a.1)::J k)) (λa=>fF s i=(A a.1,a.2)) ?_ ?_
  .refine S ?_;refine gO.ent (E':=[(0,y),(1,.ref 921 0 0 0),(2,.ref 924 0 0 0),(4,iv (i:Int)),(5,iv (i:Int)),(6,.ref 926 0 0 0)]) (H':=(926,tF (wC i))::J k) (cH.get' ⟨⟨_,Z,Z⟩,⟨_,Z,Z⟩,⟨_,Z,Z⟩,⟨_,Z,Z⟩,⟨_,Z,Z⟩,⟨_,Z,Z⟩,T_⟩ (λj=>xR 926 (tF (wC i)) _ (J k) j))<|Rd (aY Z isAgg299 Z (J0 k) Z Z Z)<|Y aA<|V (dH Z Z Z (D k i (wC i) X))<|aD<|O cG<|Da<|Cn ?_ ?_<;>intro β
   .have e1:nN s i=1:=b8 β;have I:fF s i=(ζ,i+1):=by rw[fF,b6 e1]
    rw[I]at hinv;refine O aA<|Y iH<|V aJ<|aP ?_;exact⟨i+1,k,⟨X,hkm,hkc,n,X,hinv⟩,X,P _ _ _ _ _ Z Z Z Z Z⟩
   have n1:nN s i≠1:=b_ β;refine O cG<|Da<|Cn ?_ ?_<;>intro hc3
   .have e2:nN s i=2:=b8 hc3;have I:fF s i=(ζ,G7 s i):=by rw[fF,a8 n1,b6 e2]
    rw[I]at hinv;refine S<|aD<|bC (σ:=Nat) (λj=>([(0,y),(1,.ref 921 0 0 0),(2,.ref 924 0 0 0),(4,iv (j:Int))],(926,tF (wC i))::J k)) (λj=>i<=j/\j<=T s/\∀q,i<=q->q<j->vY s q=N) (λj=>T s - j) i ⟨h_ _,hi,λq G x=>by omega⟩ ?_ ?_
    .exact E0
    rintro j ⟨B,hj,hpre⟩;refine S<|S<|aT (t:=37) (n:=11) (A_:=vY s j) ?_ ?_
    .all_goals refine Y aA<|Y (aY Z N_ Z (G k) Z Z Z)<|Y (gG U_)<|Y cF<|Dm ?_<;>(refine Sp 32 (λh32=>?_) λh32=>?_)<;>(first|exact s_|refine M<|M<|M<|M ?_|refine U (aY Z N_ Z (G k) Z Z Z)<|U aA<|U (cL Z U_ Z Z X (l_ _) (ltD h32) Z)<|U yQ ?_)<;>refine V cE ?_<;>exact Gj (h:=by first|(simp_all[vY];done)|(simp_all[vY];omega))
    refine Cn ?_ ?_<;>intro d_
    .have hjs:j<T s:=by
      have h:=d_;rw[vY,l6,j0]at h;exact h.1
     refine aB<|aD<|Rd aA<|Y iH<|Da ?_;exact⟨j+1,⟨X,X,λq A_ q2=>by
      by_cases e:q=j
      .subst e;exact d_
      exact hpre q A_ (by omega)⟩,by omega,E0⟩
    have z:G7 s i=j:=AB _ B X hpre (.inl d_);have hgt:i<j:=by
     rcases Nat.lt_or_ge i j with h|h
     .exact h
     have hji:j=i:=X
     subst hji;rw[vY,decide_eq_true hlt,Bool.true_and,Bool.not_eq_false',j0]at d_;rw[nN,b6 hlt,d_]at e2;exact absurd e2 E_
    rw[z]at hinv;refine aP<|aP ?_;exact⟨j,k,⟨hj,hkm,hkc,n,X,hinv⟩,X,P _ _ _ _ _ Z Z Z Z Z⟩
   have n2:nN s i≠2:=b_ hc3;refine O cG<|Da<|Cn ?_ ?_<;>intro hc5
   .have e3:nN s i=3:=b8 hc5;refine S<|O (aY Z isAgg299 Z (J0 k) Z Z Z)<|Y aA<|Y (dH Z Z Z (D k i (wC i) X))<|V aJ<|aD<|bC (σ:=Nat) (λj=>([(0,y),(1,.ref 921 0 0 0),(2,.ref 924 0 0 0),(4,iv (j:Int)),(5,iv (i:Int)),(6,.ref 926 0 0 0),(7,.pv (.int .u8 (nN s j)))],(926,tF (wC i))::J k)) (λj=>i<=j/\j<=T s/\∀q,i<=q->q<j->vX s q=N) (λj=>T s - j) i ⟨h_ _,hi,λq G x=>by omega⟩ ?_ ?_
    .exact E0
    rintro j ⟨B,hj,hpre⟩;refine S<|S<|aT (t:=54) (n:=12) (A_:=vX s j) ?_ ?_
    .all_goals refine Y aA<|Y cG<|Dm ?_<;>(refine Sp 47 (λh47=>?_) λh47=>?_)<;>(first|exact s_|refine M<|M ?_|refine U aA<|U cG ?_)<;>refine Y cE<|Dm ?_<;>(refine Sp 51 (λh51=>?_) λh51=>?_)<;>(first|exact s_|refine M<|M ?_|refine U aA<|U cG ?_)<;>refine V cE ?_<;>exact Gj (h:=by(simp only[vX, *];rfl))
    refine Cn ?_ ?_<;>intro Q
    .have hjs:j<T s:=Y2 s j (λe=>by rw[vX,e]at Q;cases Q);refine aB<|S<|aD<|Rd aA<|Y iH<|V aJ<|Rd (aY Z isAgg299 Z (J0 k) Z Z Z)<|Y aA<|Y (dH Z Z Z (D k (j+1) (wC i) X))<|Da ?_;exact⟨j+1,⟨X,X,λq A_ q2=>by
      by_cases e:q=j
      .subst e;exact Q
      exact hpre q A_ (by omega)⟩,by omega,E0⟩
    have z:CU s i=j:=AB _ B X hpre (.inl Q);have I:fF s i=(A (A7 s i j),j):=by rw[fF,a8 n1,a8 n2,b6 e3,z]
    refine aP<|S<|aN a7<|Cr [921] (λx hH=>by exact aY Z N_ Z ((hH _ Z).trans (G k)) Z Z Z)<|x_ aA<|x_ aA<|x_ (by exact bP (l:=i) (h:=j) Z U_ Z Z Z X X Z)<|Cr [926] (λ_ h=>fh pF h)<|Cr [926] (λ_ h=>fh vQ h)<|Cp [926] (λ_ h=>su sizeOf3 h)<|Cr [926] (λ_ h=>fh pF h)<|Cr [926] (λ_ h=>fh iP h)<|Cp [926] (λ_ h=>su V_ h)<|Cr [926] (λ_ h=>fh tY h)<|Cp [926] (λ_ h=>su sizeOf25 h) ?_;refine bG<|Kr<|O aA<|Y aA<|Y (by exact dV Z Z Z (show ξ.wrap ((j:Int) - (i:Int))=((j - i:Nat):Int)by rw[IntKind.wrap_i64];omega))<|V iZ ?_;refine Cn ?_ ?_<;>intro hc7
    .have z_:A7 s i j=⟨1,s.extract i j,i,2⟩:=by rw[A7,b6 (I_ hc7)]
     rw[z_]at I;refine Rd (bD tY)<|Uu (ku sizeOf25)<|Zz ?_;exact⟨(⟨1,s.extract i j,i,2⟩,j),I,cH.get' ⟨⟨_,Z,Z⟩,⟨_,Z,Z⟩,⟨_,Z,Z⟩,⟨_,Z,Z⟩,⟨_,Z,Z⟩,T_⟩ (λq=>CG [_,_,_,_] H_ q)⟩
    have z_:A7 s i j=⟨1,s.extract i j,i,0⟩:=by rw[A7,a8 (J_ hc7)]
    rw[z_]at I;refine aB ?_;exact⟨(⟨1,s.extract i j,i,0⟩,j),I,cH.get' ⟨⟨_,Z,Z⟩,⟨_,Z,Z⟩,⟨_,Z,Z⟩,⟨_,Z,Z⟩,⟨_,Z,Z⟩,T_⟩ (λq=>CG [_,_,_] H_ q)⟩
   have n3:nN s i≠3:=b_ hc5;refine O cG<|Da<|Cn ?_ ?_<;>intro hc8
   .have e4:nN s i=4:=b8 hc8;refine S<|aD<|bC (σ:=Nat) (λj=>([(0,y),(1,.ref 921 0 0 0),(2,.ref 924 0 0 0),(4,iv (j:Int)),(5,iv (i:Int)),(6,.ref 926 0 0 0)],(926,tF (wC i))::J k)) (λj=>i<=j/\j<=T s/\∀q,i<=q->q<j->PC s q=N) (λj=>T s - j) i ⟨h_ _,hi,λq G x=>by omega⟩ ?_ ?_
    .exact E0
    rintro j ⟨B,hj,hpre⟩;refine S<|O (aY Z isAgg299 Z (J0 k) Z Z Z)<|Y aA<|Y (dH Z Z Z (D k j (wC i) X))<|V cG<|Cn ?_ ?_<;>intro b
    .have hjs:j<T s:=Y2 s j (λe=>by rw[e]at b;cases b);refine aB<|aD<|Rd aA<|Y iH<|Da ?_;exact⟨j+1,⟨X,X,λq A_ q2=>by
      by_cases e:q=j
      .subst e;exact b
      exact hpre q A_ (by omega)⟩,by omega,E0⟩
    have z:JQ s i=j:=AB _ B X hpre (.inl b);have I:fF s i=(A (IB s i j),j):=by rw[fF,a8 n1,a8 n2,a8 n3,b6 e4,z]
    refine aP<|S<|aN a7<|Cr [921] (λx hH=>by exact aY Z N_ Z ((hH _ Z).trans (G k)) Z Z Z)<|x_ aA<|x_ aA<|x_ (by exact bP (l:=i) (h:=j) Z U_ Z Z Z X X Z)<|Cr [926] (λ_ h=>fh pF h)<|Cr [926] (λ_ h=>fh vQ h)<|Cp [926] (λ_ h=>su sizeOf3 h)<|Cr [926] (λ_ h=>fh pF h)<|Cr [926] (λ_ h=>fh iP h)<|Cp [926] (λ_ h=>su V_ h)<|Cr [926] (λ_ h=>fh tY h)<|Cp [926] (λ_ h=>su sizeOf25 h) ?_;refine bG<|Kr<|S ?_;refine gO.ent (E':=[(0,y),(1,.ref 921 0 0 0),(2,.ref 924 0 0 0),(4,iv (j:Int)),(5,iv (i:Int)),(6,.ref 926 0 0 0)]) (H':=(926,tF ⟨2,s.extract i j,i,0⟩)::J k) (cH.get' ⟨⟨_,Z,Z⟩,⟨_,Z,Z⟩,⟨_,Z,Z⟩,⟨_,Z,Z⟩,⟨_,Z,Z⟩,⟨_,Z,Z⟩,T_⟩ (λq=>CG [_,_,_] H_ q)) ?_;have h7:θ (7<((j - i:Nat):Int))=θ (7<j - i):=by rw[Bool.eq_iff_iff,j0,j0];omega
    refine Rd (aY Z isAgg299 Z (J0 k) Z Z Z)<|Y aA<|Y (dH Z Z Z (D k j ⟨2,s.extract i j,i,0⟩ X))<|V aJ<|S<|aT (t:=105) (n:=14) (A_:=θ (7<((j - i:Nat):Int))||θ (nN s j=3)||θ (nN s j=5)) ?_ ?_
    .all_goals refine Y aA<|Y aA<|Y (by exact dV Z Z Z (show ξ.wrap ((j:Int) - (i:Int))=((j - i:Nat):Int)by rw[IntKind.wrap_i64];omega))<|Y iZ<|Dm ?_<;>(refine Sp 98 (λh98=>?_) λh98=>?_)<;>(first|exact s_|refine M<|M ?_|refine U aA<|U cG ?_)<;>refine Y cE<|Dm ?_<;>(refine Sp 102 (λh102=>?_) λh102=>?_)<;>(first|exact s_|refine M<|M ?_|refine U aA<|U cG ?_)<;>refine V cE ?_<;>exact Gj (h:=by first|(simp_all[vX];done)|(simp_all;omega))
    refine Cn ?_ ?_<;>intro u_
    .have z_:IB s i j=⟨2,s.extract i j,i,4⟩:=by rw[IB,<-h7,u_];rfl
     rw[z_]at I;refine Rd (bD tY)<|Uu (ku sizeOf25)<|Zz ?_;exact⟨(⟨2,s.extract i j,i,4⟩,j),I,cH.get' ⟨⟨_,Z,Z⟩,⟨_,Z,Z⟩,⟨_,Z,Z⟩,⟨_,Z,Z⟩,⟨_,Z,Z⟩,T_⟩ (λq=>CG [_] H_ q)⟩
    have z_:IB s i j=⟨2,s.extract i j,i,0⟩:=by rw[IB,<-h7,u_];rfl
    rw[z_]at I;refine aB ?_;exact⟨(⟨2,s.extract i j,i,0⟩,j),I,E0⟩
   have n4:nN s i≠4:=b_ hc8;refine O cG<|Da<|Cn ?_ ?_<;>intro R
   .have e7:nN s i=7:=b8 R;have I:fF s i=(A (FR s i).1,(FR s i).2):=by rw[fF,a8 n1,a8 n2,a8 n3,a8 n4,b6 e7]
    have hexs:T (s.extract i (T s))<=T s - i:=by rw[ByteArray.size_extract];omega
    have ρ:=λH=>np (s.extract i (T s)) H X;have hul:=ju (s.extract i (T s));have ⟨u,hu⟩:∃u,u=A8 (s.extract i (T s)):=X_;have τ:FR s i=if 0<u.2 then(⟨3,u.1,i,0⟩,i+u.2.toNat)else(wC i,i):=by rw[FR,<-hu]
    rw[<-hu]at ρ hul;have ⟨ut,un⟩:=u;simp only at ρ hul τ;refine O (aY Z N_ Z (G k) Z Z Z)<|Y aA<|Y (bP (l:=i) (h:=T s) Z U_ Z Z Z X X Z)<|Y (kc call291 (ρ _))<|Y aA<|Y dL<|Y dL<|Y aJ<|V aJ<|S<|O aA<|V iZ<|Cn ?_ ?_<;>intro v
    .rw[τ,b6 (b8 v)]at I;refine Rd aA<|Y (bD pF)<|Y (bD vQ)<|Uu (ku sizeOf3)<|Y (bD pF)<|Y (bD iP)<|Uu (ku V_)<|Y (bD tY)<|Uu (ku sizeOf25)<|Zz<|Rd aA<|Y aA<|Y (by exact dB Z Z Z (show ξ.wrap ((i:Int)+un)=((i+un.toNat:Nat):Int)by rw[IntKind.wrap_i64];omega))<|Da ?_;exact⟨(⟨3,ut,i,0⟩,i+un.toNat),I,cH.get' ⟨⟨_,Z,Z⟩,⟨_,Z,Z⟩,⟨_,Z,Z⟩,⟨_,Z,Z⟩,⟨_,Z,Z⟩,T_⟩ (λq=>CG [_,_,_] H_ q)⟩
    have hu0:=b_ v;rw[τ,a8 hu0]at I;have e0:i+un.toNat=i:=X
    refine aB<|Rd aA<|Y aA<|Y (by exact dB Z Z Z (show ξ.wrap ((i:Int)+un)=((i+un.toNat:Nat):Int)by rw[IntKind.wrap_i64];omega))<|Da ?_;rw[e0];exact⟨(wC i,i),I,E0⟩
   have n7:nN s i≠7:=b_ R;refine O cG<|Da<|Cn ?_ ?_<;>intro w
   .have e6:nN s i=6:=b8 w;have I:fF s i=(A ⟨4,s.extract i (i+1),i,0⟩,i+1):=by rw[fF,a8 n1,a8 n2,a8 n3,a8 n4,a8 n7,b6 e6]
    refine O aA<|Y iH<|V aJ<|aN a7<|Cr [921] (λx hH=>by exact aY Z N_ Z ((hH _ Z).trans (G k)) Z Z Z)<|x_ aA<|x_ aA<|x_ (by exact bP (l:=i) (h:=(i+1)) Z U_ Z Z Z X X Z)<|Cr [926] (λ_ h=>fh pF h)<|Cr [926] (λ_ h=>fh vQ h)<|Cp [926] (λ_ h=>su sizeOf3 h)<|Cr [926] (λ_ h=>fh pF h)<|Cr [926] (λ_ h=>fh iP h)<|Cp [926] (λ_ h=>su V_ h)<|Cr [926] (λ_ h=>fh tY h)<|Cp [926] (λ_ h=>su sizeOf25 h) ?_;refine bG<|Kr ?_;exact⟨(⟨4,s.extract i (i+1),i,0⟩,i+1),I,cH.get' ⟨⟨_,Z,Z⟩,⟨_,Z,Z⟩,⟨_,Z,Z⟩,⟨_,Z,Z⟩,⟨_,Z,Z⟩,T_⟩ (λq=>CG [_,_,_] H_ q)⟩
   have n6:nN s i≠6:=b_ w;have I:fF s i=(A (wC i),i):=by rw[fF,a8 n1,a8 n2,a8 n3,a8 n4,a8 n7,a8 n6]
   refine aB ?_;exact⟨(wC i,i),I,E0⟩
  rintro⟨f,j⟩ I;rw[I]at hinv;simp only at hinv I;have ⟨hk1,g⟩:=TY hinv;have hkl:=(m_.1 hk1).1;have v_:k<m:=by
   rcases Nat.lt_or_ge k m with h|h
   .exact h
   have hkem:k=m:=Nat.le_antisymm hkm h;subst hkem;rcases f_ with h|⟨h,h'⟩
   .omega
   rcases hkc with x|x
   .omega
   rw[x]at h';cases h'
  have F:C ds=k+1\/L k=η->k+1=m:=λh=>by
   rcases h with h|h
   .omega
   rcases Nat.lt_or_ge (k+1) m with J0|J0
   .rw[κ k J0]at h;cases h
   omega
  have p:=hy k f hk1 v_;cases c:L k with
  |false =>
   have i_:=F (.inr c);rw[c]at p;refine O aA<|Y (xD isAgg266 sizeOf266)<|Y (dH Z Z Z (p))<|Y iE<|Y aA<|M<|M<|M<|V cE<|Cn ?_ ?_<;>intro γ
   .refine aC ?_;rw[<-i_];exact pI (H':=J (k+1)) (.inr Z) Z (Fin.pops' [(926,tF f)] H_ (y_ _) (by simp[h6]) (by simp[h6])) ⟨Z,Z⟩
   cases γ
  | true =>
   rw[c]at p;refine O aA<|Y (xD isAgg266 sizeOf266)<|Y (dH Z Z Z (p))<|Y iE<|Y aA<|U (bD tY)<|U (bU nP)<|U yQ<|V cE<|Cn ?_ ?_<;>intro W
   .have hne:f.err≠0:=by
     have h:=W
     simpa using h
    rw[a8 hne]at g;have i_:=F (.inl (by have:=drop_eq_nil_iff.1 g;omega));refine aC ?_;rw[<-i_];exact pI (H':=J (k+1)) (.inr Z) Z (Fin.pops' [(926,tF f)] H_ (y_ _) (by simp[h6]) (by simp[h6])) ⟨Z,Z⟩
   have he0:f.err=0:=by
    have h:=W
    simpa using h
   have ⟨g1,g2⟩:=PY I he0 hlt;rw[b6 he0]at g;refine aB ?_;exact⟨j,k+1,⟨g2,v_,.inr c,n,X,g⟩,X,P _ _ _ _ _ Z Z Z Z Z⟩
 have hge:T s<=i:=J_ δ
 have hnil:kO s n i=[]:=by
  cases n with
  |zero=>rfl
  |succ n=>rw[kO,a8 X]
 rw[hnil]at hinv;have hkd:=drop_eq_nil_iff.1 hinv;have i_:k=m:=X
 refine aP ?_;rw[<-i_];exact pI (H':=J k) (.inl Z) Z Fin.refl ⟨Z,Z⟩
def K_(f:b7):List PV:=[.int .i64 f.kind,.str f.text,.int .i64 f.pos]
def C6(l:List b7):PV:=.sl (l.map K_)
def mA(l:List b7):List (List AV):=l.map λf=>(K_ f).map AV.pv
theorem yE(l):C (mA l)=C l:=g_ _
theorem CZ(l)(f):mA l++[(K_ f).map AV.pv]=mA (l++[f]):=by rw[mA,mA,map_append];rfl
theorem cV(H)(l):∀r∈mA l,∀a∈r,Clo H a:=by intro r c a b;obtain ⟨d,_,rfl⟩:=mem_map.1 c;obtain ⟨p,_,rfl⟩:=mem_map.1 b;simp
instance(H)(l):W_ (H) (mA l):=⟨cV H l⟩
theorem tG{H}(e:(H.get 921).isSome=N)(f:(H.get 923).isSome=N):∀r∈tA.rows,∀a∈r,Clo H a:=by intro r c a d;simp[tA,bx,q_]at c;subst c;rw[q_]at d;subst d;simp[e,f]
theorem tE(H)(s):∀r∈(tS s).rows,∀a∈r,Clo H a:=by intro r c a b;simp[tS,bx,q_]at c;subst c;rw[q_]at b;subst b;simp
instance(H)(s):W_ (H) ((tS s).rows):=⟨tE H s⟩
def kT:List b7->List b7->List b7×Int×Int
 |acc,[]=>(acc,0,0)
 |acc,f::r=>if f.err≠0 then([],f.err,f.pos)else if C acc=5000 then([],2,f.pos)else kT (acc++[f]) r
def fR(s:B_):List b7×Int×Int:=if 20000<T s then([],2,-1)else kT [] (kO s (T s+1) 0)
def tQ(ds:List b7)(k:Nat):Bool:=match ds[k]? with
 |some f=>θ (f.err=0)&&!θ (k=5000)
 |none=>N
theorem NO{b}:∀ {k},k<=C b->(∀j,j<k->tQ b j=N)->kT [] b=kT (b.take k) (b.drop k)
 |0,_,_=>rfl
 |k+1,c,h=>by
  rw[NO (Nat.le_of_succ_le c) (λj D=>h j (by omega))];have d:=drop_eq_getElem_cons c;have a:=h k (lt_succ_self k);rw[tQ,p_ c]at a;simp[l6,j0,r9,n_]at a;have B:C (b.take k)=k:=G_
  rw[d,kT,a8 (λh=>h a.1),a8 X,take_add_one,p_ _];rfl
theorem BU(s):∀(n i),C (kO s n i)<=n
 |0,_=>k_ _
 | n+1,i=>by
  rw[kO]
  split
  .split
   .exact Nat.le_succ_of_le (BU s n _)
   split
   .exact Nat.succ_le_succ (BU s n _)
   simp_all
  simp_all
def kL(s:B_)(L:List b7)(a:AV)(e p:Int):aF:=[(905,⟨C L,3,189,mA L⟩),(5,bx 1 185 [.osl 905 (C L) 0 (C L)]),(924,tA),(923,tC),(921,tS s),(4,bx 1 3 [iv p]),(3,bx 1 25 [iv e]),(2,bx 1 185 [a])]
theorem Mj(s)(L)(f)(a)(e p):kL s (L++[f]) a e p=[(905,⟨C L+1,3,189,mA (L++[f])⟩),(5,bx 1 185 [.osl 905 (C L+1) 0 (C L+1)]),(924,tA),(923,tC),(921,tS s),(4,bx 1 3 [iv p]),(3,bx 1 25 [iv e]),(2,bx 1 185 [a])]:=by simp[kL]
def wD:dD:=[(2,.ref 2 0 0 0),(3,.ref 3 0 0 0),(4,.ref 4 0 0 0),(5,.ref 5 0 0 0)]
theorem K8{a}{k}{f}(h:a[k]?=A f):tQ a k=(θ (f.err=0)&&!θ (k=5000)):=by rw[tQ,h]
theorem j5{p:Prop}(h:p:=by simp[wD];exact⟨Z,Z,Z,Z⟩):p:=h
theorem Yy(s:B_)(H:aF)(o:T s<2^40):RC 203 [sv s] (.tup [.pv (C6 (fR s).1),iv (fR s).2.1,iv (fR s).2.2]) H:=by
 refine Pu<|Bd func203 Z ntmps203<|O (kl 2 Yg)<|Y (kl 3 Zu)<|V (kl 4 Zt)<|S<|O aA<|Y (gG U_)<|V iZ<|Cn ?_ ?_<;>intro L
 .have e:fR s=([],2,-1):=by rw[fR,b6 (I_ L)]
  rw[e];refine Sr<|Uu (jH oL)<|Uu (jH sizeOf25)<|Uu (jH sizeOf3)<|Zz<|aC<|mP (H':=[]) (.inr Z) Z (iU Z nV Z Z Z Z) (iU Z nP Z Z Z Z) (iU Z M_ Z Z Z Z) P_ ?_;exact Qq
 have f_:¬ 20000<T s:=by have:=b_ L;omega
 have ⟨ds,E⟩:∃ds,ds=kO s (T s+1) 0:=X_;have n:fR s=kT [] ds:=by rw[fR,a8 f_,E]
 refine aB<|Sz (kl 5 Fw)<|S<|O aA<|V (kc call254 (eu s _ Z Z Z (dI.ofL ⟨F_,F_,F_,F_,T_⟩)))<|aD ?_;refine gO.ent (E':=[(2,.ref 2 0 0 0),(3,.ref 3 0 0 0),(4,.ref 4 0 0 0),(5,.ref 5 0 0 0),(11,.clo 290 [.ref 921 0 0 0,.ref 924 0 0 0])]) (H':=[(905,⟨0,3,189,[]⟩),(5,bx 1 185 [.osl 905 0 0 0]),(924,tA),(923,tC),(921,tS s),(4,bx 1 3 [iv 0]),(3,bx 1 25 [iv 0]),(2,bx 1 185 [.pv (.sl [])])]) ?_ ?_
 .exact (Q_ 905 3 189)
 have τ:C ds<=T s+1:=by rw[E];exact BU s _ _
 have ⟨j,hj⟩:∃j,j=zU (tQ ds) (C ds) 0:=X_;have b:j<=C ds:=by have:=(GO (tQ ds) (C ds) 0).2;omega
 have I:∀k,k<j->tQ ds k=N:=λk g=>KG (tQ ds) (C ds) 0 k (k_ _) X;have A_:j<C ds->tQ ds j=η:=λh=>by have:=xY (tQ ds) (C ds) 0 X;rwa [<-hj]at this
 have t:=NO b I;refine CN (id:=904) (p:=12) wD Z call290 Z Z j5 ?_;intro x c l u_ v_ W R;have G:∀(k:Nat) (d:b7),ds[k]?=A d->k<=j ->
   dO φ (.yld 904 0) [.agg ((LX d).map .pv)] ((904,LR x wD)::(926,tF d)::kL s (ds.take k) (.pv (.sl [])) 0 0) (λr H'=>r=bv (tQ ds k)/\H'=(if tQ ds k then(904,LR x wD)::(926,tF d)::kL s (ds.take (k+1)) (.pv (.sl [])) 0 0 else(904,LR (left x .ret) wD)::(926,tF d)::kL s (ds.take k) (.pv (.sl [])) (if d.err≠0 then d.err else 2) d.pos)):=by
  intro k d u D;have B:=K8 u;have σ:k<C ds:=(m_.1 u).1;have ρ:C (ds.take k)=k:=by rw[q9];omega
  have i:ds.take (k+1)=ds.take k++[d]:=by rw[List.take_add_one,u];rfl
  refine .inl ⟨904,0,Z,?_⟩;refine MV [(2,.ref 2 0 0 0),(3,.ref 3 0 0 0),(4,.ref 4 0 0 0),(5,.ref 5 0 0 0),(6,.ref 907 0 0 0)] ((907,tF d)::(926,tF d)::kL s (ds.take k) (.pv (.sl [])) 0 0) c l u_ v_ W R Z Z Z ?_ ?_
  .refine Rd (kl 907 Ga)<|Uu (jH sizeOf266)<|Zz ?_;exact(cH.wk (Ea<|Ea<|Ea<|Ea<|Ea<|T_) (Hc (oM j5)<|Hc (AU _ _)<|Hc (AU _ _)<|Hc (cV _ _)<|Ha<|Hc (tG Z Z)<|Hc (kQ _)<|Hc (tE _ _)<|Hb<|Hb<|Hb<|T_) ⟨Z,Z,Z,Z,Z,Z,Z,Z,Z,Z,T_⟩)
  refine aD<|S<|aD<|O (bD tY)<|Y (bU nP)<|Y yQ<|Da<|Cn ?_ ?_<;>intro y
  .have v:d.err≠0:=by have h:=y;rw[r9,n_]at h;exact h
   have K:tQ ds k=η:=by rw[B,decide_eq_false v];rfl
   rw[K,a8 E_,b6 v];refine S<|aN a7<|Cr [907] (λ_ h=>fh tY h)<|Cr [907] (λ_ h=>lh nP h)<|Cr [907] (λ_ h=>fh pF h)<|Cr [907] (λ_ h=>fh QU h)<|Cr [907] (λ_ h=>lh M_ h)<|Cp [2] (λ_ h=>sa oL h)<|Cp [3] (λ_ h=>sa sizeOf25 h)<|Cp [4] (λ_ h=>sa sizeOf3 h)<|bG<|Kr<|aC ?_;exact⟨(926,tF d)::kL s (ds.take k) (.pv (.sl [])) d.err d.pos,(cH.wk T_ (Hc (oM j5)<|Hc (AU _ _)<|Hc (cV _ _)<|Ha<|Hc (tG Z Z)<|Hc (kQ _)<|Hc (tE _ _)<|Hb<|Hb<|Hb<|T_) ⟨Z,Z,Z,Z,Z,Z,Z,Z,Z,Z,T_⟩),Z,Z⟩
  have v:d.err=0:=by have h:=y;rw[Bool.not_eq_false',j0]at h;exact h
  refine O (bU nV)<|Y (by exact dQ Z cS Z Z Z)<|Y cG<|Da<|Cn ?_ ?_<;>intro a
  .have w:k=5000:=I_ a
   have K:tQ ds k=η:=by rw[B,decide_eq_true v,decide_eq_true w];rfl
   rw[K,a8 E_,a8 (λh=>h v)];refine S<|aN a7<|Cr [907] (λ_ h=>fh pF h)<|Cr [907] (λ_ h=>fh QU h)<|Cr [907] (λ_ h=>lh M_ h)<|Cp [2] (λ_ h=>sa oL h)<|Cp [3] (λ_ h=>sa sizeOf25 h)<|Cp [4] (λ_ h=>sa sizeOf3 h)<|bG<|Kr<|aC ?_;exact⟨(926,tF d)::kL s (ds.take k) (.pv (.sl [])) 2 d.pos,(cH.wk T_ (Hc (oM j5)<|Hc (AU _ _)<|Hc (cV _ _)<|Ha<|Hc (tG Z Z)<|Hc (kQ _)<|Hc (tE _ _)<|Hb<|Hb<|Hb<|T_) ⟨Z,Z,Z,Z,Z,Z,Z,Z,Z,Z,T_⟩),Z,Z⟩
  have w:¬ k=5000:=by have:=b_ a;omega
  have K:tQ ds k=N:=by rw[B,decide_eq_true v,decide_eq_false w];rfl
  rw[K,b6 Z,i,Mj];refine aB<|Rd (bU nV)<|Y (bD pF)<|Y (xD jD sizeOf189)<|Y (by exact aM [K_ d] Z iL Z Z Z Z Z R_)<|Y (by exact bW (ps:=[K_ d]) Z iL yh Z Z Z Z Z (yE _) Z R_ (m:=1) Z X Z (CZ (ds.take k) d))<|Uu (jH oL)<|Zz ?_;exact⟨(926,tF d)::[(905,⟨(ds.take k).length+1,3,189,mA (ds.take k++[d])⟩),(5,bx 1 185 [.osl 905 ((ds.take k).length+1) 0 ((ds.take k).length+1)]),(924,tA),(923,tC),(921,tS s),(4,bx 1 3 [iv 0]),(3,bx 1 25 [iv 0]),(2,bx 1 185 [.pv (.sl [])])],(cH.wk T_ (Hc (oM j5)<|Hc (AU _ _)<|Hc (cV _ _)<|Ha<|Hc (tG Z Z)<|Hc (kQ _)<|Hc (tE _ _)<|Hb<|Hb<|Hb<|T_) ⟨Z,Z,Z,Z,Z,Z,Z,Z,Z,Z,T_⟩),Z,Z⟩
 rcases Nat.lt_or_ge j (C ds) with q|hge
 .have ⟨f,hf⟩:=aR q;have F:=A_ q;have Q:ds.drop j=f::ds.drop (j+1):=by
   rw[drop_eq_getElem_cons q];rw[p_ q]at hf;cases hf;rfl
  have z:fR s=([],(if f.err≠0 then f.err else 2),(f.pos:Int)):=by
   rw[n,t,Q,kT]
   split
   .rfl
   rename_i v;have J0:f.err=0:=by
    by_cases h:f.err=0
    .exact h
    exact absurd h v
   rw[K8 hf,decide_eq_true J0,Bool.true_and,Bool.not_eq_false',j0]at F;rw[b6 (by rw[q9];omega)]
  rw[z];refine(MY s (.yld 904 0) (λk=>if k<=j then(904,LR x wD)::kL s (ds.take k) (.pv (.sl [])) 0 0 else(904,LR (left x .ret) wD)::kL s (ds.take j) (.pv (.sl [])) (if f.err≠0 then f.err else 2) f.pos) (tQ ds) (j+1) o (λk=>?_) (λk=>?_) (λk=>?_) (λk=>?_) (λk=>?_) (λk=>?_) (by rw[<-E];exact q) (λk g=>I k X) (.inr ⟨succ_pos _,by rw[Nat.add_sub_cancel];exact F⟩) ?_).mono ?_
  .split<;>rfl
  .split<;>rfl
  .split<;>rfl
  .split<;>rfl
  .split
   .exact(dI.ofL ⟨(by exact oM j5),(cV _ _),w8,(tG Z Z),(kQ _),(tE _ _),l5,l5,l5,T_⟩)
   exact(dI.ofL ⟨(by exact oM j5),(cV _ _),w8,(tG Z Z),(kQ _),(tE _ _),l5,l5,l5,T_⟩)
  .split<;>(simp;rfl)
  .rw[<-E];intro k d u g;have J:=G k d u X;rw[b6 X];by_cases D:k=j
   .subst D;rw[hf]at u;cases u;rw[F,a8 E_]at J;rw[a8 X,F];exact dO.congrG J (λj=>nK E_ j) (λj=>nK E_ j)
   have B:=I k X;rw[B,b6 rfl]at J;rw[b6 X,B];exact dO.congrG J (λj=>nK E_ j) (λj=>nK E_ j)
  rintro r H' ⟨rfl,rfl⟩;rw[a8 X];refine⟨left x .ret,_,Z,by simp[left],Z,λz=>?_⟩;show OI _ _ _ _ _ _ _;refine mP (H':=[]) (.inr Z) Z (iU Z nV Z Z Z Z) (iU Z nP Z Z Z Z) (iU Z M_ Z Z Z Z) P_ ?_;exact Qq
 have P:j=C ds:=Nat.le_antisymm b hge;rw[P,take_length,drop_length]at t;rw[n,t,kT];refine(MY s (.yld 904 0) (λk=>(904,LR x wD)::kL s (ds.take k) (.pv (.sl [])) 0 0) (tQ ds) (C ds) o (λk=>rfl) (λk=>rfl) (λk=>rfl) (λk=>rfl) (λk=>(dI.ofL ⟨(by exact oM j5),(cV _ _),w8,(tG Z Z),(kQ _),(tE _ _),l5,l5,l5,T_⟩)) (λk=>by simp;rfl) (by rw[<-E];exact h_ _) (λk g=>I k X) (.inl (by rw[<-E])) ?_).mono ?_
 .rw[<-E];intro k d u g;have J:=G k d u X;have B:=I k X;rw[B,b6 rfl]at J;rw[B];exact dO.congrG J (λj=>nK E_ j) (λj=>nK E_ j)
 rintro r H' ⟨rfl,rfl⟩;rw[take_length];refine⟨x,_,Z,by rw[c];decide,Z,λz=>?_⟩;rw[l];refine O (bU nV)<|Uu (jH oL)<|Uu (jH sizeOf25)<|Uu (jH sizeOf3)<|Zz<|aC ?_;refine mP (H':=[]) (.inr Z) Z (iU Z nV Z Z Z Z) (iU Z nP Z Z Z Z) (iU Z M_ Z Z Z Z) (Fin.fz (r':=.tup [.pv (C6 ds),iv 0,iv 0]) (id:=905) (ob:=⟨C ds,3,189,mA ds⟩) (ds.map K_) Z (by rw[map_map];rfl) (.tup Z (bJ (.osl (qs:=ds.map K_) (by rw[r8,drop_zero];exact take_of_length_le (Nat.le_of_eq (g_ K_)))) (bJ (.same H_) (bJ (.same H_) kG)))) Z T_ T_) ?_;exact Qq
def E4:List b7->Option (List m9)
 | []=>A []
 |a::_::c::r=>(E4 r).map λl=>⟨a.text,c.text⟩::l
 |_=>ζ
def WV(l:List b7)(k:Nat):m9:=⟨((l[3*k]?).map b7.text).getD a6,((l[3*k+2]?).map b7.text).getD a6⟩
def fT(l:List b7)(k:Nat):List m9:=(List.range k).map (WV l)
theorem F2(l)(k):fT l (k+1)=fT l k++[WV l k]:=by rw[fT,range_succ,map_append];rfl
theorem IC(l)(k):C (fT l k)=k:=by rw[fT,g_,length_range]
def tD(l:List m9):List (List AV):=l.map λt=>(cA t).map AV.pv
theorem IL(l):C (tD l)=C l:=g_ _
theorem IM(l)(t):tD l++[(cA t).map AV.pv]=tD (l++[t]):=by rw[tD,tD,map_append];rfl
theorem lG(H)(l):∀r∈tD l,∀a∈r,Clo H a:=by intro r c a b;obtain ⟨d,_,rfl⟩:=mem_map.1 c;obtain ⟨p,_,rfl⟩:=mem_map.1 b;simp
instance(H)(l):W_ (H) (tD l):=⟨lG H l⟩
theorem JC:∀(r acc),C (kT acc r).1<=C acc+C r
 | [],acc=>h_ _
 |f::r,acc=>by
  rw[kT]
  split
  .simp_all
  split
  .simp_all
  have:=JC r (acc++[f]);rw[j8,length_singleton]at this;rw[j6];omega
theorem xN(s)(h:T s<2^40):C (fR s).1<549755813888:=by
 unfold fR
 split
 .decide
 have a:=JC (kO s (T s+1) 0) [];have B:=BU s (T s+1) 0;rw[length_nil]at a;omega
theorem aU(s:B_):C s.data.toList=T s:=rfl
theorem nM{a b:B_}(h:ν (μ a)=ν (μ b)):a=b:=by cases a with|mk a=>simp_all
theorem gK(s:B_)(i j):(s.extract i j).data.toList=(s.data.toList.drop i).take (j - i):=H_
theorem qO{s}{i}{c}{r}(h:s.data.toList.drop i=c::r):i<T s/\bA s i=(c.toNat)/\s.data.toList.drop (i+1)=r:=by have ⟨a,b⟩:=TY h;refine⟨by rw[<-aU];grind,by rw[bA,a];rfl,b⟩
theorem JU{s}{i}{c}{r}(h:s.data.toList.drop i=c::r):nN s i=zF (c.toNat):=by have ⟨a,b,_⟩:=qO h;rw[nN,b6 a,b]
theorem yu{s}{i}(h:s.data.toList.drop i=[]):nN s i=0:=by have:=drop_eq_nil_iff.1 h;rw[aU]at this;rw[nN,a8 X]
theorem fS{i}{w r}(h:s.data.toList.drop i=w++r):s.data.toList.drop (i+C w)=r:=by rw[<-drop_drop,h,drop_left]
theorem yj{k:Nat}{w r}{c:UInt8}(h:s.data.toList.drop i=w++r)(b:w[k]?=A c):s.data.toList.drop (i+k)=c::((w.drop (k+1))++r):=by
 have a:=(m_.1 b).1;have e:w=w.take k++c::w.drop (k+1):=by
  conv=>lhs;rw[<-take_append_drop k w]
  rw[drop_eq_getElem_cons a,(m_.1 b).2]
 have f:s.data.toList.drop i=w.take k++(c::w.drop (k+1)++r):=by
  grind
 have d:=fS f;rw[q9,Nat.min_eq_left X]at d;exact d
theorem AQ{i}{w r}(h:s.data.toList.drop i=w++r):s.extract i (i+C w)=⟨w.toArray⟩:=by
 refine nM ?_
 simp_all
theorem sR{i}:(s.extract i (T s)).data.toList=s.data.toList.drop i:=by rw[gK];exact take_of_length_le H_
theorem DK{k}(h:cK k=N):0<T k/\T k<=24/\zF (bA k 0)=3/\∀j,j<T k->(zF (bA k j)=3\/zF (bA k j)=4\/zF (bA k j)=5):=by
 rw[cK,l6,l6,r9,r9,any_eq_false,n_,j0]at h;have ⟨i,l,B⟩:=h;have a:0<T k:=by
  rcases eq_zero_or_pos (T k) with e|e
  .refine absurd (nM ?_) l
   simp_all
  exact e
 have f:=λj b=>by
  have:=i j (mem_range.2 b)
  simpa using this
 refine⟨a,X,?_,λj b=>?_⟩
 .have:=f 0 a
  simpa[lx]using this
 have:=f j b;rw[lx]at this;by_cases c:zF (bA k j)=3
 .exact .inl c
 by_cases g:zF (bA k j)=4
 .exact .inr (.inl g)
 by_cases d:zF (bA k j)=5
 .exact .inr (.inr d)
 simp[c,g,d]at this
theorem Vy{k}{j}(h:j<T k):∃c,k.data.toList[j]?=A c/\bA k j=(c.toNat):=by exact⟨_,p_ h,by rw[bA,p_ h];rfl⟩
theorem Ab{k:B_}(h:s.data.toList.drop i=ν (μ k)++r)(w:cK k=N)(x:∀c r',r=c::r'->zF (c.toNat:Int)≠3/\zF (c.toNat:Int)≠4/\zF (c.toNat:Int)≠5):
  fF s i=(A ⟨1,k,i,0⟩,i+T k):=by
 have ⟨a,D,v,b⟩:=DK w;have g:∀j,j<T k->nN s (i+j)=zF (bA k j):=λj u=>by
  have ⟨c,p,e⟩:=Vy u;rw[JU (yj h p),e]
 have B:=by
  have:=congrArg List.length h;rw[q6,j8,aU,aU]at this;omega
 have l:nN s i=3:=by
  have:=g 0 a;rw[Nat.add_zero,v]at this;exact this
 have d:CU s i=i+T k:=by
  refine AB (vX s) X X (λj E F=>?_) ?_
  .have:=g (j - i) X;rw[show i+(j - i)=j by omega]at this;rw[vX,this];rcases b (j - i) X with e|e|e<;>rw[e]<;>rfl
  left;have n:=fS h;rw[aU]at n;cases r with
  |nil=>rw[vX,yu n];rfl
  |cons c r' =>
   have ⟨t,o,q⟩:=x c r' Z;rw[vX,JU n,decide_eq_false t,decide_eq_false o,decide_eq_false q];rfl
 have f:=AQ h;rw[aU]at f;have m:(⟨k.data.toList.toArray⟩:B_)=k:=nM H_;rw[fF,a8 X,a8 X,b6 l,d,A7,f,m,a8 X]
theorem Sl{s}{i}{r}(h:s.data.toList.drop i=32::r):fF s i=(ζ,i+1):=by
 have a:nN s i=1:=by rw[JU h];rfl
 rw[fF,b6 a]
theorem ek:∀(v r),oN (v.flatMap qY++34::r)=A (v,C (v.flatMap qY)+1)
 | [],r=>CW
 | b::v,r=>by
  have d:=ek v r;rw[flatMap_cons,append_assoc];by_cases a:b=10
  .have e:qY b=[92,110]:=by rw[qY,b6 a]
   rw[e];show oN (92::110::(v.flatMap qY++34::r))=_;rw[vL,d,a];show A _=A _
   grind
  by_cases c:b=34\/b=92
  .have e:qY b=[92,b]:=by rw[qY,a8 a,b6 c]
   have g:tT b=A b:=by
    rcases c with e|e<;>subst e<;>rfl
   rw[e];show oN (92::b::(v.flatMap qY++34::r))=_;rw[vL,d,g]
   grind
  have e:qY b=[b]:=by rw[qY,a8 a,a8 c]
  have f:b≠34/\b≠92:=⟨λe=>c (.inl e),λe=>c (.inr e)⟩;rw[e];show oN (b::(v.flatMap qY++34::r))=_;rw[CX f.1 a f.2,d]
  grind
theorem KB{v:B_}(h:s.data.toList.drop i=cX (ν (μ v))++r):fF s i=(A ⟨3,v,i,0⟩,i+C (cX (ν (μ v)))):=by
 have b:s.data.toList.drop i=34::(v.data.toList.flatMap qY++34::r):=by rw[h,cX];simp
 have c:nN s i=7:=by rw[JU b];rfl
 have d:A8 (s.extract i (T s))=(v,((C (v.data.toList.flatMap qY)+1+1:Nat):Int)):=by
  rw[A8,sR,b,drop_succ_cons,drop_zero,ek]
 have e:FR s i=(⟨3,v,i,0⟩,i+C (cX (ν (μ v)))):=by
  rw[FR,d,b6 X];congr 1;congr 1;rw[l_,cX,j6,j8,length_singleton]
 rw[fF,a8 X,a8 X,a8 X,a8 X,b6 c,e]
def TN(t:m9):List UInt8:=ν (μ t.key)++61::cX (ν (μ t.val))
theorem NN(t):(jB t).data.toList=TN t:=by rw[jB,TN];simp
def nZ(l:List m9):List UInt8:=l.flatMap λt=>32::TN t
def U7(J0:List b7)(l:List m9):Prop:=E4 J0=A l/\(∀f,f∈J0->f.err=0)/\C J0=3*C l
theorem U7.cons{J0}{l}{a b c}(h:U7 J0 l)(E:a.err=0)(F:b.err=0)(G:c.err=0):U7 (a::b::c::J0) (⟨a.text,c.text⟩::l):=by
 have ⟨d,B,D⟩:=h;refine⟨by rw[E4,d];rfl,λf H=>?_,G_⟩
 grind
theorem WT(t)(l):(YD (t::l)).data.toList=TN t++nZ l:=by show bZ _ (bs ((t::l).map _))=_;rw[bs,map_map];show (jB t).data.toList++_=_;rw[NN,flatMap_map];congr 1;congr 1;funext x;show [32]++(jB x).data.toList=_;rw[NN];rfl
theorem NP:∀(J0 acc),(∀f,f∈J0->f.err=0)->C acc+C J0<=5000->kT acc J0=(acc++J0,0,0)
 | [],acc,_,_=>by rw[kT,List.append_nil]
 |f::J0,acc,h,b=>by
  rw[j6]at b;rw[kT,a8 (λe=>e (h f List.mem_cons_self)),a8 (by omega),NP J0 _ (λg a=>h g (List.mem_cons_of_mem _ a)) (by grind),List.append_assoc];rfl
end Go.Proofs.C
namespace Go.Abs
def dZ(c:UInt8):List UInt8->List (List UInt8)
 | []=>[[]]
 |b::l=>if b=c then[]::dZ c l else((b::(dZ c l).headD [])::(dZ c l).tail)
theorem rV(c)(l):0<C (dZ c l):=by
 cases l with
 |nil=>exact Nat.zero_lt_one
 |cons b l=>rw[dZ];all_goals grind
theorem sJ{c}:∀ {w},c∉w->dZ c w=[w]
 | [],_=>rfl
 |b::w,h=>by
  rw[l9,not_or]at h;rw[dZ,a8 (λe=>h.1 e.symm),sJ h.2];rfl
theorem kD{c}{l}:∀ {w},c∉w->dZ c (w++c::l)=w::dZ c l
 | [],_=>by rw[List.nil_append,dZ,b6 rfl]
 |b::w,h=>by
  rw[l9,not_or]at h;rw[List.cons_append,dZ,a8 (λe=>h.1 e.symm),kD h.2];rfl
theorem yF(c):∀l,C (dZ c l)=l.count c+1
 | []=>rfl
 |b::l=>by
  have a:=yF c l;rw[dZ];by_cases h:b=c
  .rw[b6 h,j6,a,h,count_cons_self]
  rw[a8 h,j6,length_tail,count_cons_of_ne h];omega
def sB:List UInt8->List (List UInt8)
 | []=>[]
 |b::l=>if b=10 then[10]::sB l else match sB l with
  | []=>[[b]]
  |w::r=>(b::w)::r
theorem JB{l}:∀ {w},10∉w->sB (w++10::l)=(w++[10])::sB l
 | [],_=>rfl
 |b::w,h=>by
  rw[l9,not_or]at h;rw[List.cons_append,sB,a8 (λe=>h.1 e.symm),JB h.2];rfl
theorem OU:∀ {w},10∉w->w≠[]->sB w=[w]
 | [],_,h=>absurd Z h
 |b::w,h,_=>by
  rw[l9,not_or]at h;rw[sB,a8 (λe=>h.1 e.symm)];by_cases e:w=[]
  .subst e;rfl
  rw[OU h.2 e]
theorem H8:∀ {ls:List _},(∀w∈ls,10∉w)->sB (ls.flatMap (·++[10]))=ls.map (·++[10])
 | [],_=>rfl
 |w::ls,h=>by
  rw[List.flatMap_cons,List.append_assoc,List.singleton_append,JB (h w List.mem_cons_self),H8 λx a=>h x (List.mem_cons_of_mem _ a)];rfl
theorem yY{c}:∀ {l},Lib.indexByte l c = -1↔c∉l
 | []=>by simp[Lib.indexByte]
 |b::l=>by
  have D:=yY (c:=c) (l:=l);have B:=Lib.indexByte_ge l c;rw[Lib.indexByte];all_goals grind
theorem yZ{c}:∀ {l},Lib.indexByte l c ≠ -1->∃w r,l=w++c::r/\c∉w/\Lib.indexByte l c=(C w)
 | [],h=>absurd Z h
 |b::l,h=>by
  by_cases e:b=c
  .subst e;exact⟨[],l,Z,by simp,by simp[Lib.indexByte]⟩
  have d:Lib.indexByte l c ≠ -1:=λF=>h (by rw[Lib.indexByte];simp_all);have ⟨w,r,B,D,E⟩:=yZ d;refine⟨b::w,r,F_,G_,?_⟩;rw[Lib.indexByte]
  simp_all
end Go.Abs
namespace Go.Abs
open Go.Lib
theorem yl{d}(h:d<10):digitVal (UInt8.ofNat (48+d))=A d:=by
 have e:(UInt8.ofNat (48+d)).toNat=48+d:=by rw[UInt8.toNat_ofNat'];omega
 rw[digitVal,b6 X];congr 1;omega
theorem D0{b}{d}(a:digitVal b=A d):∀(l) (acc),decFrom acc (l++[b])=(decFrom acc l).map λn=>n*10+d
 | [],acc=>by
  simp[decFrom,a]
 |c::l,acc=>by
  rw[List.cons_append,decFrom,decFrom];cases h:digitVal c with
  |none=>rfl
  |some x=>exact D0 a l _
theorem oH(u:Nat):decDigits u≠[]:=by
 rw[decDigits]
 split
 .simp
 simp
theorem jV(u):decFrom 0 (decDigits u)=A u:=by
 induction u using Nat.strongRecOn with
 |ind u B =>
  rw[decDigits]
  split
  .rename_i h;rw[<-nil_append [_],D0 (yl h)];simp[decFrom]
  rw[D0 (yl (mod_lt u H_))]
  grind
theorem pZ{b}:∀(u),b∈decDigits u->48<=b.toNat/\b.toNat<=57:=by
 intro u
 induction u using Nat.strongRecOn with
 |ind u B =>
  rw[decDigits]
  split
  .intro a;rw[q_]at a;subst a;rw[UInt8.toNat_ofNat'];omega
  intro a;rcases mem_append.1 a with a|a
  ·grind
  rw[q_]at a;subst a;rw[UInt8.toNat_ofNat'];omega
theorem kN(n)(h:0<=n):itoa n=decDigits n.toNat:=by rw[itoa,a8 X]
theorem Dy{n}(h:0<=n):atoi (itoa n)=A n:=by
 rw[kN n h];have ⟨u,a⟩:∃u,u=n.toNat:=X_;rw[<-a];have D:=jV u;have E:∀b∈decDigits u,48<=b.toNat/\b.toNat<=57:=λb=>pZ u;cases e:decDigits u with
 |nil=>exact absurd e (oH u)
 |cons b r =>
  have c:decNat (b::r)=A u:=by rw[decNat];simp_all
  unfold atoi;simp[c];have B:b≠43:=λh=>by simp_all
  split<;>simp_all
  omega
theorem cU:∀ {k u},u<10 ^ k->0<k->C (decDigits u)<=k
 |0,_,_,h=>absurd h (Nat.lt_irrefl 0)
 | k+1,u,h,_=>by
  rw[decDigits]
  split
  .simp
  rw[j8,List.length_singleton];have b:0<k:=by
   grind
  have a:u / 10<10 ^ k:=X
  have:=cU a b;omega
theorem D7{n}(h:0<=n)(B:n<1000000000000000000):atoiAll (itoa n)=.ok n:=by
 have a:C (itoa n)<=18:=by
  rw[kN n h];exact cU X H_
 rw[atoiAll_short _ a,Dy h];rfl
end Go.Abs
namespace Go.Proofs.C
open Go.Proofs.Tryz
open Go.Abs
variable{s:B_}{α:Type}{o:l7}
def mN(o:l7):List UInt8:=(eP o.kind).data.toList++32::(ν (μ o.id)++32::(if o.kind=1 then Lib.itoa o.x++32::Lib.itoa o.y else 40::(bZ [32] (bs o.refs)++[41])))
def sV(o:l7):List UInt8:=mN o++nZ o.tags
def EP(o:l7):B_:=⟨(sV o).toArray⟩
def fM(o:l7):B_×Int:=if oY o then(if 0<C o.tags/\(kB o.tags).2≠0 then(a6,(kB o.tags).2)else if 20000<T (EP o) then(a6,2)else(EP o,0))else(a6,1)
def atV(s:B_):Int:=match Lib.atoiAll (ν (μ s)) with
 |.ok v=>v
 |.range=>Lib.atoiSat (ν (μ s))
 |_=>0
def LF:b7:=⟨0,a6,0,0⟩
def wR(J0:List b7):List b7:=J0++List.replicate (4 - C J0) LF
def EG(s:B_):Int:=if s=eP 5 then 5 else if s=eP 4 then 4 else if s=eP 3 then 3 else if s=eP 2 then 2 else if s=eP 1 then 1 else 0
def kU(f:b7):Bool:=θ (f.text=⟨#[41]⟩)&&θ (f.kind=4)
def sH:List b7->List m9
 |a::_::c::r=>⟨a.text,c.text⟩::sH r
 |_=>[]
theorem RN:∀ {J0} {l},E4 J0=A l->sH J0=l
 | [],l,h=>by cases h;rfl
 | [_],l,h=>by rw[E4]at h<;>(simp_all)
 | [_,_],l,h=>by rw[E4]at h<;>(simp_all)
 | a::b::c::r,l,h=>by
  rw[E4]at h;cases e:E4 r with
  |none=>simp_all
  |some q =>
   rw[e]at h;cases h;rw[sH,RN e]
def tV(J0:List b7):l7 :=if EG ((wR J0).getD 0 LF).text=1 then⟨((wR J0).getD 1 LF).text,1,atV ((wR J0).getD 2 LF).text,atV ((wR J0).getD 3 LF).text,[],sH ((wR J0).drop 4)⟩
 else if A6 kU (wR J0)<3 then j7
 else⟨((wR J0).getD 1 LF).text,EG ((wR J0).getD 0 LF).text,0,0,(((wR J0).take (A6 kU (wR J0)).toNat).drop 3).map b7.text,sH ((wR J0).drop ((A6 kU (wR J0)).toNat+1))⟩
def GC(s:B_)(i:Nat)(r:List UInt8)(J0:List b7):Prop:=∀n,C r<=n->kO s n i=J0
theorem D8{s}{i j}{w r}{f}{J0}(d:fF s i=(A f,j))(c:f.err=0)(hi:i<T s)(B:0<C w)(b:GC s j r J0):GC s i (w++r) (f::J0):=by intro n a;rw[j8]at a;obtain ⟨m,rfl⟩:∃m,n=m+1:=⟨n - 1,X⟩;rw[kO,b6 hi,d];show f::(if f.err=0 then kO s m j else[])=_;rw[b6 c,b m X]
theorem vE{s}{i}{r}{J0}(h:s.data.toList.drop i=32::r)(b:GC s (i+1) r J0):GC s i (32::r) J0:=by intro n a;rw[j6]at a;obtain ⟨m,rfl⟩:∃m,n=m+1:=⟨n - 1,X⟩;rw[kO,b6 (qO h).1,Sl h];exact b m X
theorem all_nil{s}{i}(h:s.data.toList.drop i=[]):GC s i [] []:=by
 intro n _;have a:¬ i<T s:=by
  have:=drop_eq_nil_iff.1 h;rw[aU]at this;omega
 cases n with
 |zero=>rfl
 |succ n=>rw[kO,a8 a]
theorem sA{i}{w r}(h:s.data.toList.drop i=w++r)(B:0<C w):i<T s:=by
 rcases Nat.lt_or_ge i _ with a|a
 .exact a
 rw[drop_eq_nil_of_le F_]at h;have:=congrArg List.length h;rw[length_nil,j8]at this;omega
def HQ(r:List UInt8):Prop:=∀c r',r=c::r'->zF (c.toNat:Int)≠3/\zF (c.toNat:Int)≠4/\zF (c.toNat:Int)≠5
theorem Aa:HQ []:=λc r' h=>by cases h
theorem mI(r):HQ (32::r):=λc r' h=>by cases h;exact⟨E_,E_,E_⟩
theorem KA(r):HQ (41::r):=λc r' h=>by cases h;exact⟨E_,E_,E_⟩
theorem nO{s k}{i}{r}{J0}(h:s.data.toList.drop i=ν (μ k)++r)(a:cK k=N)(c:HQ r)(b:GC s (i+T k) r J0):GC s i (ν (μ k)++r) (⟨1,k,i,0⟩::J0):=by have B:=(DK a).1;exact D8 (Ab h a c) Z (sA h F_) F_ b
theorem HF{s}{i}{r}{c}{J0}(h:s.data.toList.drop i=c::r)(a:zF (c.toNat)=6)(b:GC s (i+1) r J0):GC s i (c::r) (⟨4,⟨#[c]⟩,i,0⟩::J0):=by
 have B:nN s i=6:=by rw[JU h];exact a
 have D:=AQ (w:=[c]) h;have d:fF s i=(A ⟨4,⟨#[c]⟩,i,0⟩,i+1):=by
  rw[fF]
  simp_all
 exact D8 (w:=[c]) d Z (qO h).1 Nat.zero_lt_one b
theorem Xb:∀b:UInt8,48<=b.toNat->b.toNat<=57->zF (b.toNat)=4:=by
 intro b a c;have h:∀n:Fin 256,48<=n.val->n.val<=57->zF (n.val)=4:=by decide +kernel
 exact h _ a c
theorem RA{i:Nat}{x:Int}{r:List UInt8}{J0:List b7}(h:s.data.toList.drop i=Lib.itoa x++r)(E:0<=x)(v:x<10000000)(t:HQ r)(w:GC s (i+C (Lib.itoa x)) r J0):GC s i (Lib.itoa x++r) (⟨2,aV x,i,0⟩::J0):=by
 have l:=kN x E;have e:0<C (Lib.itoa x):=by rw[l];exact length_pos_iff.2 (oH _)
 have D:C (Lib.itoa x)<=7:=by rw[l];exact cU X E_
 have f:∀j,j<C (Lib.itoa x)->nN s (i+j)=4:=λj p=>by
  have q:=p_ p;rw[JU (yj h q)];have o:(Lib.itoa x)[j]∈Lib.decDigits x.toNat:=F_
  have ⟨u,z⟩:=pZ _ o;exact Xb _ u z
 have B:i+C (Lib.itoa x)<=T s:=by
  have:=congrArg List.length h;rw[q6,j8,aU]at this;have:=sA h e;omega
 have k:nN s i=4:=f 0 e;have m:=fS h;have d:nN s (i+C (Lib.itoa x))≠3/\nN s (i+C (Lib.itoa x))≠4/\nN s (i+C (Lib.itoa x))≠5:=by
  cases r with
  |nil=>rw[yu m];omega
  |cons c y=>rw[JU m];exact t c y Z
 have g:JQ s i=i+C (Lib.itoa x):=by
  refine AB (PC s) X X (λj v F=>?_) (.inl ?_)
  .have:=f (j - i) X;rw[show i+(j - i)=j by omega]at this;rw[PC,this];rfl
  rw[PC,decide_eq_false d.2.1]
 have n:fF s i=(A ⟨2,aV x,i,0⟩,i+C (Lib.itoa x)):=by
  rw[fF,a8 X,a8 X,a8 X,b6 k,g,IB,AQ h,decide_eq_false d.1,decide_eq_false d.2.2,decide_eq_false X];rfl
 exact D8 n Z (sA h e) e w
theorem UZ{s}:∀(l) (i),(∀t,t∈l->cK t.key=N)->s.data.toList.drop i=nZ l->∃J0,GC s i (nZ l) J0/\U7 J0 l
 | [],i,_,h=>⟨[],all_nil h,Z,(λf r=>by cases r),Z⟩
 | t::l,i,g,h=>by
  have k:nZ (t::l)=32::(ν (μ t.key)++61::(cX (ν (μ t.val))++nZ l)):=by
   rw[nZ,flatMap_cons,TN];simp[nZ]
  rw[k]at h |-;have b:=(qO h).2.2;have j:=fS b;have a:=(qO j).2.2;have v:=fS a;have ⟨J0,o,u⟩:=UZ l _ (λt p=>g t (mem_cons_of_mem _ p)) v;have d:0<C (cX (ν (μ t.val))):=by rw[cX,j6];omega
  have q:=D8 (KB a) Z (sA a d) d o;have n:=HF j (Z) q;have m:=nO b (g t mem_cons_self) (λc r' e=>by cases e;exact⟨E_,E_,E_⟩) n;exact⟨_,vE h m,U7.cons u Z Z Z⟩
theorem G9{o}(h:oY o=N):o.kind=1\/o.kind=2\/o.kind=3\/o.kind=4\/o.kind=5:=by have:=Cv h;omega
theorem BQ{k}(h:k=1\/k=2\/k=3\/k=4\/k=5):cK (eP k)=N/\EG (eP k)=k:=by
 rcases h with rfl|rfl|rfl|rfl|rfl
 .exact⟨Z,Z⟩
 .exact⟨Z,Z⟩
 .exact⟨Z,Z⟩
 .exact⟨Z,Z⟩
 exact⟨Z,Z⟩
theorem uU{o}(h:oY o=N):∀s∈o.refs,cK s=N:=λs d=>by
 rw[oY,l6,l6,r9,r9]at h;have ⟨i,c⟩:=s8.1 d;have b:=(m_.1 c).1;have a:=any_eq_false.1 h.2.1 i (mem_range.2 b);rw[vK,c]at a;simp[NW,Bool.or_eq_true,not_or,Bool.not_eq_true,Bool.not_eq_false']at a;exact a.2
theorem ma{o}(h:oY o=N):(0<=o.x/\o.x<1048576)/\(0<=o.y/\o.y<1048576)/\(o.kind=1->o.refs=[])/\(o.kind≠1->o.x=0/\o.y=0):=by
 rw[oY,l6]at h;unfold T6 at h
 split at h
 .rename_i a;rw[ca]at h;simp only[l6,j0]at h;refine⟨X,X,λ_=>length_eq_zero_iff.1 X,λe=>absurd a e⟩
 rename_i a
 split at h<;>simp[l6,j0]at h<;>exact⟨X,X,λe=>absurd e a,λ_=>by omega⟩
theorem UY{s:B_}:∀(l:List B_) (i:Nat) (r:List UInt8) (J0:List b7),(∀k,k∈l->cK k=N)->s.data.toList.drop i=l.flatMap (λk=>32::ν (μ k))++r->HQ r ->
  GC s (i+C (l.flatMap λk=>32::ν (μ k))) r J0->∃R:List b7,GC s i (l.flatMap (λk=>32::ν (μ k))++r) (R++J0)/\R.map b7.text=l/\∀f∈R,f.kind=1/\f.err=0
 | [],i,r,J0,_,h,_,d=>⟨[],d,Z,(λf o=>by cases o)⟩
 | k::l,i,r,J0,m,h,j,d=>by
  have q:(k::l).flatMap (λk=>32::ν (μ k))++r=32::(ν (μ k)++(l.flatMap (λk=>32::ν (μ k))++r)):=by
   simp_all
  have g:C ((k::l).flatMap λk=>32::ν (μ k))=1+T k+C (l.flatMap λk=>32::ν (μ k)):=by
   rw[flatMap_cons,j8,j6,aU];omega
  rw[q]at h |-;have n:=(qO h).2.2;have p:=fS n;rw[aU]at p;have ⟨R,t,B,D⟩:=UY l (i+1+T k) r J0 (λx u=>m x (mem_cons_of_mem _ u)) p j (by rw[g]at d;rw[show i+1+T k+C (l.flatMap _)=i+(1+T k+C (l.flatMap λk=>32::ν (μ k)))by omega];exact d);have e:HQ (l.flatMap (λk=>32::ν (μ k))++r):=by
   cases l with
   |nil=>exact j
   |cons a l=>exact mI _
  refine⟨⟨1,k,i+1,0⟩::R,vE h (nO n (m k mem_cons_self) e t),F_,λf o=>?_⟩
  grind
theorem yW(k)(l):bZ [32] (bs (k::l))=ν (μ k)++l.flatMap (λk=>32::ν (μ k)):=by rw[bs,map_cons,bZ,flatMap_map];rfl
theorem Na{p}{c:α}{B}:∀ {D},(∀a,a∈D->p a=η)->p c=N->A6 p (D++c::B)=(C D):=by
 intro D E F;have h:(D++c::B).findIdx? p=A (C D):=by
  grind
 rw[A6,h]
theorem RV(l):HQ (nZ l):=by
 cases l with
 |nil=>exact Aa
 |cons t l=>exact mI _
theorem mb{x}(h:0<=x)(b:x<1000000000000000000):atV (aV x)=x:=by show (match Lib.atoiAll (Lib.itoa x)with|.ok v=>v|.range=>_|_=>0)=x;rw[D7 h b]
theorem W6{o}(h:oY o=N)(d:o.kind≠1):∃k l,o.refs=k::l:=by
 have a:=G9 h;rw[oY,l6,r9,OY,wU]at h;have c:=h.1;simp only[r6,Bool.not_eq_false',n_]at c;have b:=c.1.2;have B:1<=FT o.kind:=by
  rcases a with e|e|e|e|e
  .exact absurd e d
  .rw[e];decide
  .rw[e];decide
  .rw[e];decide
  rw[e];decide
 cases e:o.refs with
 |nil=>rw[e]at b;exact absurd (show ((C []:Nat):Int)<FT _ by show 0<_;omega) b
 |cons k l=>exact⟨k,l,Z⟩
theorem wq{J0}(h:4<=C J0):wR J0=J0:=by rw[wR,show 4 - C J0=0 by omega,replicate_zero,append_nil]
theorem XU(o):(EP o).data.toList.drop 0=sV o:=rfl
theorem QK{i}{k x y}{r}{t}(f:o.id=i)(e:o.kind=k)(b:o.x=x)(d:o.y=y)(a:o.refs=r)(c:o.tags=t):(⟨i,k,x,y,r,t⟩)=o:=by subst f e b d a c;rfl
theorem Jg(B:oY o=N):∃J0,GC (EP o) 0 (sV o) J0/\(∀f,f∈J0->f.err=0)/\C J0<=5000/\tV J0=o:=by
 have ⟨hr,ht,o_,E,_⟩:=CH B;have ⟨w,v_,hn,hz⟩:=ma B;have ⟨A_,G⟩:=BQ (G9 B);have m:∀t,t∈o.tags->cK t.key=N:=λt h=>((yB.1 o_).1 t h).1;have v:=XU o;by_cases i:o.kind=1
 .have e:sV o=(eP o.kind).data.toList++32::(ν (μ o.id)++32::(Lib.itoa o.x++32::(Lib.itoa o.y++nZ o.tags))):=by
   rw[sV,mN,b6 i];simp
  rw[e]at v |-;have r:=fS v;rw[aU]at r;have y:=(qO r).2.2;have n:=fS y;rw[aU]at n;have z:=(qO n).2.2;have F:=fS z;have u:=(qO F).2.2;have d:=fS u;have ⟨J0,u_,L,m4,r3⟩:=UZ o.tags _ m d;have b:=nO v A_ (mI _) (vE r (nO y E (mI _) (vE n (RA z w.1 X (mI _) (vE F (RA u v_.1 X (RV _) u_))))));refine⟨_,b,λf g=>?_,?_,?_⟩
  .simp only[l9]at g;rcases g with rfl|rfl|rfl|rfl|g
   .rfl
   .rfl
   .rfl
   .rfl
   exact m4 f g
  .simp only[j6];omega
  rw[tV,wq (by simp only[j6];omega)];simp only[getD_cons_zero,getD_cons_succ,drop_succ_cons,drop_zero];rw[G,b6 i,RN L,mb w.1 X,mb v_.1 X];exact QK Z i Z Z (hn i) Z
 have ⟨k,l,q⟩:=W6 B i;have s:=uU B;rw[q]at s;have e:sV o=(eP o.kind).data.toList++32::(ν (μ o.id)++32::(40::(ν (μ k)++(l.flatMap (λk=>32::ν (μ k))++41::nZ o.tags)))):=by
  rw[sV,mN,a8 i,q,yW];simp
 rw[e]at v |-;have r:=fS v;rw[aU]at r;have y:=(qO r).2.2;have n:=fS y;rw[aU]at n;have z:=(qO n).2.2;have F:=(qO z).2.2;have u:=fS F;rw[aU]at u;have d:=fS u;have h8:=(qO d).2.2;have ⟨J0,u_,L,m4,r3⟩:=UZ o.tags _ m h8;have Q:=HF d E_ u_;have ⟨R,hR,q1,W⟩:=UY l _ _ _ (λx w=>s x (mem_cons_of_mem _ w)) u (KA _) Q;have K:HQ (l.flatMap (λk=>32::ν (μ k))++41::nZ o.tags):=by
  cases l with
  |nil=>exact KA _
  |cons a l=>rw[flatMap_cons];exact mI _
 have b:=nO v A_ (mI _) (vE r (nO y E (mI _) (vE n (HF z E_ (nO F (s k mem_cons_self) K hR)))));have τ:C R=C l:=by rw[<-q1,g_]
 have σ:C o.refs=C l+1:=by rw[q,j6]
 refine⟨_,b,λf g=>?_,?_,?_⟩
 .simp only[l9,mem_append]at g;rcases g with rfl|rfl|rfl|rfl|g|rfl|g
  .rfl
  .rfl
  .rfl
  .rfl
  .exact(W f g).2
  .rfl
  exact m4 f g
 .simp only[j6,j8];omega
 have ⟨J,I⟩:∃J:List b7,J=⟨1,eP o.kind,0,0⟩::⟨1,o.id,0+T (eP o.kind)+1,0⟩::⟨4,⟨#[40]⟩,0+T (eP o.kind)+1+T o.id+1,0⟩::⟨1,k,0+T (eP o.kind)+1+T o.id+1+1,0⟩::R:=X_;have H:C J=C R+4:=by rw[I];rfl
 have e_:∀a,a∈J->kU a=η:=by
  intro a D;rw[I]at D;simp only[l9]at D;rcases D with rfl|rfl|rfl|rfl|D
  .rw[kU,decide_eq_false (show ¬ ((1:Int)=4)by decide),Bool.and_false]
  .rw[kU,decide_eq_false (show ¬ ((1:Int)=4)by decide),Bool.and_false]
  .rfl
  .rw[kU,decide_eq_false (show ¬ ((1:Int)=4)by decide),Bool.and_false]
  rw[kU,(W a D).1,decide_eq_false (show ¬ ((1:Int)=4)by decide),Bool.and_false]
 have p:∀c:b7,(J++c::J0).drop (C J+1)=J0:=λc=>by
  rw[show J++c::J0=(J++[c])++J0 by simp,show C J+1=C (J++[c]) by simp,drop_left]
 have w:=λj=>Na (p:=kU) (c:=⟨4,⟨#[41]⟩,j,0⟩) (B:=J0) e_ Z;have P:∀j,(⟨1,eP o.kind,0,0⟩::⟨1,o.id,0+T (eP o.kind)+1,0⟩::⟨4,⟨#[40]⟩,0+T (eP o.kind)+1+T o.id+1,0⟩::⟨1,k,0+T (eP o.kind)+1+T o.id+1+1,0⟩::(R++⟨4,⟨#[41]⟩,j,0⟩::J0):List b7)=J++⟨4,⟨#[41]⟩,j,0⟩::J0:=λj=>by rw[I];rfl
 rw[tV,P,wq (by rw[j8,H];omega),w,a8 (by rw[I];show ¬ EG (eP o.kind)=1;rw[G];exact i),a8 (by rw[H];omega),l_,take_left,p,RN L];have ⟨z_,y_⟩:=hz i;refine QK ?_ ?_ z_ y_ ?_ Z;all_goals simp_all
theorem Tn(f:α->List _)(l:List _):l.map (λe=>(f e).map AV.pv)=(l.map f).map (·.map .pv):=H_
def nm(i:Nat):B_:=⟨#[110,49+UInt8.ofNat i]⟩
def a_(l:List UInt8):B_:=⟨l.toArray⟩
theorem cJ(l):(a_ l).data.toList=l:=rfl
theorem fU(s):a_ (ν (μ s))=s:=nM (cJ _)
theorem cB(l):T (a_ l)=C l:=rfl
def vP(s:B_):l7×Int:=if 20000<T s then(j7,2)else if(fR s).2.1=0/\fM (tV (fR s).1)=(s,0)then(tV (fR s).1,0)else(j7,5)
theorem QL{o}(h:(fM o).2=0):oY o=N/\fM o=(EP o,0)/\T (EP o)<=20000:=by
 rw[fM]at h |-
 grind
theorem pj{o}(h:(fM o).2=0):vP (fM o).1=(o,0):=by
 have ⟨c,G,F⟩:=QL h;have ⟨J0,b,a,D,E⟩:=Jg c;have B:fR (EP o)=(J0,0,0):=by
  rw[fR,a8 X,b _ (by exact le_succ _),NP J0 _ a F_,nil_append]
 rw[vP]
 simp_all
def wPut:List UInt8:=[112,117,116]
def J3:List UInt8:=[109,111,118,101]
def BS:List UInt8:=[116,97,103]
def J2:List UInt8:=[114,101,102,115]
def J5:List UInt8:=[100,114,111,112]
def CV:List UInt8:=[115,112,108,105,116]
def J4:List UInt8:=[106,111,105,110]
def gU(e:b9):List (List UInt8) :=if e.op=2 then[J3,ν (μ e.id),Lib.itoa e.x,Lib.itoa e.y]else if e.op=3 then[BS,ν (μ e.id),ν (μ e.key),cX (ν (μ e.val))]
 else if e.op=4 then J2::ν (μ e.id)::bs e.refs else if e.op=5 then[J5,ν (μ e.id)]
 else if e.op=6 then[CV,ν (μ e.id),ν (μ e.node),ν (μ e.other)]else[J4,ν (μ e.id),ν (μ e.other)]
def fV(e:b9):List UInt8:=if e.op=1 then wPut++32::(fM e.obj).1.data.toList else bZ [32] (gU e)
def fY(e:b9):Int:=if e.op=1 then(fM e.obj).2 else 0
def sF:List UInt8->List b9->List UInt8×Int
 |acc,[]=>(acc,0)
 |acc,e::r=>if fY e≠0\/20000<C (acc++(fV e++[10])) then([],2)else sF (acc++(fV e++[10])) r
def eH(l:List b9):B_×Int:=if lU l then(a_ (sF [] l).1,(sF [] l).2)else(a6,1)
def V1(s:List UInt8):Int:=match Lib.atoiAll s with
 |.ok v=>v
 |_ => -1
def O0:b9:=⟨0,a6,a6,a6,0,0,a6,a6,[],j7⟩
def E8(w:List (List UInt8))(B rest:List UInt8):b9 :=if B=wPut then⟨1,a6,a6,a6,0,0,a6,a6,[],(vP (a_ rest)).1⟩
 else if B=J3/\C w=4 then⟨2,a_ (w.getD 1 []),a6,a6,V1 (w.getD 2 []),V1 (w.getD 3 []),a6,a6,[],j7⟩
 else if B=BS/\3<C w then(match (fR (a_ (bZ [32] (w.drop 3)))).1 with
  | [f]=>⟨3,a_ (w.getD 1 []),a6,a6,0,0,a_ (w.getD 2 []),f.text,[],j7⟩
  |_=>O0)
 else if B=J2/\1<C w then⟨4,a_ (w.getD 1 []),a6,a6,0,0,a6,a6,(w.drop 2).map a_,j7⟩
 else if B=J5/\C w=2 then⟨5,a_ (w.getD 1 []),a6,a6,0,0,a6,a6,[],j7⟩
 else if B=CV/\C w=4 then⟨6,a_ (w.getD 1 []),a_ (w.getD 3 []),a_ (w.getD 2 []),0,0,a6,a6,[],j7⟩
 else if B=J4/\C w=3 then⟨7,a_ (w.getD 1 []),a_ (w.getD 2 []),a6,0,0,a6,a6,[],j7⟩
 else O0
def oF(s:List UInt8):b9:=E8 (dZ 32 s) ((dZ 32 s).headD []) (s.drop (C ((dZ 32 s).headD [])+1))
def iN(t:B_):List b9×Int :=if 20000<T t then([],2)else if eH ((sB (ν (μ t))).map λs=>oF (Lib.trimSuffix s [10]))=(t,0)then((sB (ν (μ t))).map λs=>oF (Lib.trimSuffix s [10]),0)else([],5)
theorem XY{k}(f:cK k=N){b}(d:b∈ν (μ k)):zF (b.toNat)=3\/zF (b.toNat)=4\/zF (b.toNat)=5:=by
 have ⟨j,c⟩:=s8.1 d;have a:=(m_.1 c).1;have h:=(DK f).2.2.2 j a;have e:bA k j=(b.toNat):=by rw[bA,c];rfl
 rwa [e]at h
theorem nB{k}(a:cK k=N):32∉ν (μ k)/\10∉ν (μ k):=by
 constructor
 .intro h;have:=XY a h;revert this;decide
 intro h;have:=XY a h;revert this;decide
theorem HA{x}(h:0<=x):32∉Lib.itoa x/\10∉Lib.itoa x:=by
 rw[kN x h];constructor
 .intro h;have:=(pZ _ h).1;revert this;decide
 intro h;have:=(pZ _ h).1;revert this;decide
theorem gb(l):10∉cX l:=by
 rw[cX];simp only[l9,mem_append,mem_flatMap,q8,or_false,not_or];refine⟨H_,?_,H_⟩;rintro⟨b,_,h⟩;rw[qY]at h
 grind
theorem yV{b}(B:b≠32):∀ {l},(∀w∈l,b∉w)->b∉bZ [32] l
 | [],_,h=>by cases h
 |x::l,hl,h=>by
  rw[bZ]at h
  grind
theorem Vs{l}(h:∀t,t∈l->cK t.key=N):10∉nZ l:=by
 intro a;have ⟨t,c,a⟩:=mem_flatMap.1 a;rw[TN]at a;simp only[l9,mem_append]at a;rcases a with b|b|b|b
 .simp_all
 .exact(nB (h t c)).2 b
 .simp_all
 exact gb _ b
theorem aBE(b:oY o=N):10∉sV o:=by
 have ⟨B,D,c,d,_⟩:=CH b;have ⟨g,f,_,_⟩:=ma b;have a:=λt h=>((yB.1 c).1 t h).1;intro h;rw[sV,mN]at h;simp only[l9,mem_append]at h;rcases h with(h|h|h|h|h)|h
 .exact(nB (BQ (G9 b)).1).2 h
 .simp_all
 .exact(nB d).2 h
 .simp_all
 .split at h
  .simp only[l9,mem_append]at h;rcases h with h|h|h
   .exact(HA g.1).2 h
   .revert h;decide
   exact(HA f.1).2 h
  simp only[l9,mem_append,q8,or_false]at h;rcases h with h|h|h
  .revert h;decide
  .refine yV E_ (λw e=>?_) h;obtain ⟨s,i,rfl⟩:=mem_map.1 e;exact(nB (uU b s i)).2
  revert h;decide
 exact Vs a h
abbrev oB(o:l7):aF:=[(1,bx 6 135 ((bT o).map .pv))]
theorem Uf{l}(h:l≠[])(s):Kc l s=l++32::ν (μ s):=by rw[Kc,a8 h]
theorem aEo(K)(s)(B:T s<70368744177663):aW φ 287 [.ref 2001 0 0 0,sv s] (rA 0 [] η++K) (λr H'=>r=.tup []/\H'=rA 1 (ν (μ s)) N++K):=by
 have h:=Kb K 0 [] η s F_
 rwa [b6 rfl]at h
theorem Bh(K)(g)(l)(s)(a:l≠[])(b:C l+T s<70368744177663):aW φ 287 [.ref 2001 0 0 0,sv s] (rA g l N++K) (λr H'=>r=.tup []/\H'=rA (g+2) (l++32::ν (μ s)) N++K):=by
 have h:=Kb K g l N s b
 rwa [a8 a,Uf a]at h
theorem PX(K)(g)(l)(u)(a:C l<70368744177664):aW φ 133 [.ref 2001 0 0 0] (rA g l u++K) (λr H'=>r=sv ⟨l.toArray⟩/\H'=ly g l u++(rA g l u++K)) :=aW.frame (aAN g l u a) aAM (dI.ofL ⟨(US Z Z),(eW _ _),T_⟩) m3 (λid h=>.inl (by
  simp[ly,rA,aF.get]at h |-
  grind))
theorem XT{o}(a:oY o=N)(h:0<C o.tags/\(kB o.tags).2≠0):fM o=(a6,(kB o.tags).2):=by rw[fM,b6 a,b6 h]
theorem GX{o}{L}(b:oY o=N)(h:¬ (0<C o.tags/\(kB o.tags).2≠0))(a:sV o=L)(B:20000<C L):fM o=(a6,2):=by
 have D:T (EP o)=C L:=by rw[<-a];rfl
 rw[fM,b6 b,a8 h,b6 X]
theorem GY{o}{L}(b:oY o=N)(h:¬ (0<C o.tags/\(kB o.tags).2≠0))(a:sV o=L)(B:¬ 20000<C L):fM o=(⟨L.toArray⟩,0):=by
 have D:T (EP o)=C L:=by rw[<-a];rfl
 rw[fM,b6 b,a8 h,a8 X,EP,a]
theorem xX{l}(B:0<C l)(h:(kB l).2=0):32::(kB l).1.data.toList=nZ l/\T (kB l).1<=20000:=by
 rw[kB]at h |-;by_cases c:tU l=N
 .rw[b6 c]at h |-;by_cases b:20000<T (YD l)
  .simp_all
  rw[a8 b];refine⟨?_,F_⟩;cases l with
  |nil=>simp_all
  |cons t l =>
   rw[WT];rfl
 simp_all
theorem HC:∀l,C (l.flatMap λk=>32::ν (μ k))=C l+dA l
 | []=>rfl
 |k::l=>by
  have a:=HC l;rw[flatMap_cons,j8,j6,j6,a,aU,dA,dA,map_cons,sum_cons];omega
theorem gD(l):C (bZ [32] (bs l))<=C l+dA l:=by
 cases l with
 |nil=>exact k_ _
 |cons k l =>
  rw[yW,j8,HC,aU,j6,dA,dA,map_cons,sum_cons];omega
theorem v7{p:Prop}(h:p:=by rw[aU];omega):p:=h
theorem XS(o:l7)(H:aF)(f_:mw o):RC 253 [av (bT o)] (.tup [sv (fM o).1,iv (fM o).2]) H:=by
 refine Pu<|Bd func253 Z ntmps253<|O (kb 1)<|Y aJ<|V aJ<|S<|O (xD cD sizeOf135)<|Y (kc call286 (S9 o _ f_))<|V iE<|Cn ?_ ?_<;>intro δ
 .have f:oY o=η:=F_
  have e:fM o=(a6,1):=by rw[fM,a8 F_]
  rw[e];exact O aJ<|V aJ<|aC<|Ru<|Qq
 have f:oY o=N:=F_
 have ⟨hr,ht,htg,R,_⟩:=CH f;have ⟨hx,hy,hn,hz⟩:=ma f;have y:=(BQ (G9 f)).1;have hws:=dR y;have γ:=dR R;have hwp:=(DK y).1;have v_:(eP o.kind).data.toList≠[]:=λe=>by have:=congrArg List.length e;rw[aU,length_nil]at this;omega
 refine aB<|Sz (kl 2001 Zr)<|S ?_;refine gO.ent (E':=[(1,.ref 1 0 0 0),(2,sv a6),(3,iv 0),(4,.ref 2001 0 0 0)]) (H':=[(2002,⟨0,1,5,[]⟩),(2001,OB (.osl 2002 0 0 0) η),(1,bx 6 135 ((bT o).map .pv))]) (Q_ 2002 1 5) ?_;refine gO.ent (E':=[(1,.ref 1 0 0 0),(2,sv a6),(3,iv 0),(4,.ref 2001 0 0 0)]) (H':=rA 0 [] η++oB o) (cH.get (λ_=>rfl) (λj=>nK E_ j))<|Rd (bD eK)<|Y (bU M_)<|Y (kc call283 (II o.kind _))<|V (kc call287 (aEo (oB o) (eP o.kind) X))<|O (bD rI)<|Y (bU N_)<|V (kc call287 (Bh (oB o) 1 (eP o.kind).data.toList o.id v_ v7))<|S<|S ?_;have ⟨t,m⟩:∃L,L=(eP o.kind).data.toList++32::ν (μ o.id):=X_;have I:t≠[]:=F_
 have hl1:C t<=49:=by rw[m,j8,j6,aU,aU];omega
 rw[<-m];by_cases Q:o.kind=1
 .have six:T (aV o.x)<=7:=by rw[<-aU];show C (Lib.itoa o.x)<=7;rw[kN _ hx.1];exact cU X E_
  have siy:T (aV o.y)<=7:=by rw[<-aU];show C (Lib.itoa o.y)<=7;rw[kN _ hy.1];exact cU X E_
  have ⟨P,q⟩:∃L,L=t++32::(aV o.x).data.toList:=X_;have A_:P≠[]:=F_
  have hl2:C P<=57:=by rw[q,j8,j6,aU];omega
  have p2:=Bh (oB o) (1+2) t (aV o.x) I X;rw[<-q]at p2;have ⟨b,d⟩:∃L,L=P++32::(aV o.y).data.toList:=X_;have r:b≠[]:=F_
  have g:C b<=200000:=by rw[d,j8,j6,aU];omega
  have F:=Bh (oB o) (1+2+2) P (aV o.y) A_ X;rw[<-d]at F;have G:mN o=b:=by
   rw[mN,b6 Q,d,q,m];show _=(_++32::Lib.itoa o.x)++32::Lib.itoa o.y;simp
  refine Rd (bD eK)<|Y (bU M_)<|V cG<|Cn ?_ ?_<;>intro W
  .refine O (bD nC)<|Y (bD nE)<|Y (bU M_)<|Y (kc mD (qI o.x X X _))<|V (kc call287 (p2))<|Rd (bD nC)<|Y (bD nD)<|Y (bU M_)<|Y (kc mD (qI o.y X X _))<|V (kc call287 (F))<|S<|O (bD gJ)<|Y (bU dN)<|Y (fJ dY)<|V iZ<|Cn ?_ ?_<;>intro m4
   .have a:0<C o.tags:=by have:=b8 m4;rw[g_]at this;omega
    refine O (bD gJ)<|Y (bU dN)<|Y (kc call288 (WS o.tags _ f_.2.1))<|Y aA<|Y dL<|Y dL<|Y aJ<|V aJ<|S<|O aA<|V yQ<|Cn ?_ ?_<;>intro x
    .have J:(kB o.tags).2≠0:=by have l:=x;rw[r9,n_]at l;exact l
     rw[XT f ⟨a,J⟩];exact O aA<|Y aJ<|V aJ<|aC<|Ru<|Qq
    have J:(kB o.tags).2=0:=by have l:=x;rw[Bool.not_eq_false',j0]at l;exact l
    have i:C (b++32::(kB o.tags).1.data.toList)<=300000:=by have:=g;have:=(xX a J).2;rw[j8,j6,aU];omega
    have c:sV o=b++32::(kB o.tags).1.data.toList:=by rw[(xX a J).1,sV,G]
    refine aB<|Rd aA<|V (kc call287 (Bh (oB o) (1+2+2+2) b (kB o.tags).1 r (by have:=g;have:=(xX a J).2;omega)))<|S<|O (bD qJ)<|Y (kc call208 (QO (oB o) ((1+2+2+2)+2) (b++32::(kB o.tags).1.data.toList) N))<|V iZ ?_;refine Cn ?_ ?_<;>intro u
    .have B:=b8 u;rw[GX f (λh=>h.2 J) c X];exact O aJ<|V aJ<|aC<|Ru<|Qq
    have B:=b_ u;rw[GY f (λh=>h.2 J) c X];exact aB<|O (bD qJ)<|Y (kc nR (PX (oB o) ((1+2+2+2)+2) (b++32::(kB o.tags).1.data.toList) N (by have:=i;omega)))<|Y aJ<|V aJ<|aC<|Ru<|Qq
   have a:¬ 0<C o.tags:=by have:=b_ m4;rw[g_]at this;omega
   have c:sV o=b:=by rw[sV,G,length_eq_zero_iff.1 (by omega:C o.tags=0)];exact append_nil _
   refine aB<|S<|O (bD qJ)<|Y (kc call208 (QO (oB o) (1+2+2+2) b N))<|V iZ<|Cn ?_ ?_<;>intro K
   .have B:=b8 K;rw[GX f (λh=>a h.1) c X];exact O aJ<|V aJ<|aC<|Ru<|Qq
   have B:=b_ K;rw[GY f (λh=>a h.1) c X];exact aB<|O (bD qJ)<|Y (kc nR (PX (oB o) (1+2+2+2) b N (by have:=g;omega)))<|Y aJ<|V aJ<|aC<|Ru<|Qq
  exact absurd Q (b_ W)
 have hsz:dA o.refs<=24*C o.refs:=pR (λs hs=>dR (uU f s hs));have β:=gD o.refs;have ⟨k,z⟩:∃k:B_,k=⟨(bZ [32] (bs o.refs)).toArray⟩:=X_;have hj:∀H,RC 204 [.pv (aL o.refs),sv ⟨#[32]⟩] (sv k) H:=λH=>by
  rw[z];exact xP o.refs ⟨#[32]⟩ H E_ (by show 1*_+_+_<_;omega)
 have E:ν (μ k)=bZ [32] (bs o.refs):=by rw[z]
 have ⟨b,d⟩:∃L,L=t++32::((⟨#[40]⟩:B_)++k++⟨#[41]⟩).data.toList:=X_;have w:((⟨#[40]⟩:B_)++k++⟨#[41]⟩).data.toList=40::(bZ [32] (bs o.refs)++[41]):=by rw[<-E];simp
 have κ:T ((⟨#[40]⟩:B_)++k++⟨#[41]⟩)<=60000:=by rw[<-aU,w,j6,j8,length_singleton];omega
 have ρ:T k<=52000:=by rw[<-aU,E];omega
 have J0:T (⟨#[40]⟩:B_)=1:=rfl;have τ:T (⟨#[41]⟩:B_)=1:=rfl;have σ:T ((⟨#[40]⟩:B_)++k)=1+T k:=by rw[ByteArray.size_append,J0]
 have r:b≠[]:=by rw[d];simp
 have g:C b<=200000:=by rw[d,j8,j6,aU];omega
 have F:=Bh (oB o) (1+2) t ((⟨#[40]⟩:B_)++k++⟨#[41]⟩) I X;rw[<-d]at F;have G:mN o=b:=by
  rw[mN,a8 Q,d,m,w];simp
 refine Rd (bD eK)<|Y (bU M_)<|V cG<|Cn ?_ ?_<;>intro u_
 .exact absurd (b8 u_) Q
 refine Rd (bD eJ)<|Y (bU aG)<|Y (kc sD (hj _))<|Y kq<|Y kq<|V (kc call287 (F))<|S<|O (bD gJ)<|Y (bU dN)<|Y (fJ dY)<|V iZ<|Cn ?_ ?_<;>intro v
 .have a:0<C o.tags:=by have:=b8 v;rw[g_]at this;omega
  refine O (bD gJ)<|Y (bU dN)<|Y (kc call288 (WS o.tags _ f_.2.1))<|Y aA<|Y dL<|Y dL<|Y aJ<|V aJ<|S<|O aA<|V yQ<|Cn ?_ ?_<;>intro D
  .have J:(kB o.tags).2≠0:=by have l:=D;rw[r9,n_]at l;exact l
   rw[XT f ⟨a,J⟩];exact O aA<|Y aJ<|V aJ<|aC<|Ru<|Qq
  have J:(kB o.tags).2=0:=by have l:=D;rw[Bool.not_eq_false',j0]at l;exact l
  have i:C (b++32::(kB o.tags).1.data.toList)<=300000:=by have:=g;have:=(xX a J).2;rw[j8,j6,aU];omega
  have c:sV o=b++32::(kB o.tags).1.data.toList:=by rw[(xX a J).1,sV,G]
  refine aB<|Rd aA<|V (kc call287 (Bh (oB o) (1+2+2) b (kB o.tags).1 r (by have:=g;have:=(xX a J).2;omega)))<|S<|O (bD qJ)<|Y (kc call208 (QO (oB o) ((1+2+2)+2) (b++32::(kB o.tags).1.data.toList) N))<|V iZ ?_;refine Cn ?_ ?_<;>intro n
  .have B:=b8 n;rw[GX f (λh=>h.2 J) c X];exact O aJ<|V aJ<|aC<|Ru<|Qq
  have B:=b_ n;rw[GY f (λh=>h.2 J) c X];exact aB<|O (bD qJ)<|Y (kc nR (PX (oB o) ((1+2+2)+2) (b++32::(kB o.tags).1.data.toList) N (by have:=i;omega)))<|Y aJ<|V aJ<|aC<|Ru<|Qq
 have a:¬ 0<C o.tags:=by have:=b_ v;rw[g_]at this;omega
 have c:sV o=b:=by rw[sV,G,length_eq_zero_iff.1 (by omega:C o.tags=0)];exact append_nil _
 refine aB<|S<|O (bD qJ)<|Y (kc call208 (QO (oB o) (1+2+2) b N))<|V iZ<|Cn ?_ ?_<;>intro p
 .have B:=b8 p;rw[GX f (λh=>a h.1) c X];exact O aJ<|V aJ<|aC<|Ru<|Qq
 have B:=b_ p;rw[GY f (λh=>a h.1) c X];exact aB<|O (bD qJ)<|Y (kc nR (PX (oB o) (1+2+2) b N (by have:=g;omega)))<|Y aJ<|V aJ<|aC<|Ru<|Qq
theorem lH:∀ {l} {w},32∉w->(∀x∈l,32∉x)->dZ 32 (bZ [32] (w::l))=w::l
 | [],w,h,_=>by rw[bZ,List.flatMap_nil,List.append_nil];exact sJ h
 |a::l,w,h,b=>by
  have e:bZ [32] (w::a::l)=w++32::bZ _ (a::l):=rfl;rw[e,kD h,lH (b a mem_cons_self) λx c=>b x (mem_cons_of_mem _ c)]
theorem TR:∀l,bZ [32] (dZ 32 l)=l
 | []=>rfl
 | b::l=>by
  have a:=TR l;have c:=rV 32 l;rw[dZ];cases e:dZ _ l with
  |nil=>rw[e]at c;exact absurd c (Nat.lt_irrefl 0)
  |cons x r =>
   rw[e,bZ]at a;by_cases h:b=32
   .rw[b6 h,bZ,flatMap_cons,append_assoc,a,h];rfl
   rw[a8 h,bZ,headD_cons,tail_cons,cons_append,a]
theorem XV{x}(h:0<=x)(a:x<1000000000000000000):V1 (Lib.itoa x)=x:=by rw[V1,D7 h a]
theorem Oo(l):(bs l).map a_=l:=by rw[bs,map_map];exact(map_congr_left λs _=>fU s).trans (map_id _)
theorem UF:∀l:List _,C (l.flatMap qY)<=2*C l
 | []=>h_ _
 | b::l=>by
  have B:=UF l;have h:C (qY b)<=2:=by
   rw[qY]
   grind
  rw[flatMap_cons,j8,j6];omega
theorem Ci{v}(D:T v<=200):(fR (a_ (cX (ν (μ v))))).1=[⟨3,v,0,0⟩]:=by
 have b:(a_ (cX (ν (μ v)))).data.toList.drop 0=cX (ν (μ v))++[]:=by rw[append_nil];rfl
 have B:C (cX (ν (μ v)))<=402:=by
  have:=UF (ν (μ v));rw[aU]at this;rw[cX,j6,j8,length_singleton];omega
 have c:0<C (cX (ν (μ v))):=by rw[cX,j6];omega
 have d:=D8 (KB b) Z (sA b c) c (all_nil (fS b));rw[fR,a8 (by rw[cB];omega),d _ (by rw[cB,append_nil];omega)];rfl
theorem DR{w:List UInt8}{r}:(w::r).headD []=w:=rfl
theorem M5{e:b9}(B:gN e=N)(t:fY e=0):oF (fV e)=e/\(10:UInt8)∉fV e:=by
 have ⟨⟨J,K⟩,c,i⟩:=uY.1 B;rw[fY]at t;by_cases j:e.op=1
 .rw[b6 j]at t;have ⟨E,z,_⟩:=QL t;have G:=pj t;rw[GD,b6 j,j]at i;rw[fV,b6 j];constructor
  .rw[oF,kD E_,DR,E8,b6 rfl];show (⟨1,a6,a6,a6,0,0,a6,a6,[],(vP (a_ (fM e.obj).1.data.toList)).1⟩:b9)=e;rw[fU,G];exact i
  rw[z];intro h;rcases mem_append.1 h with h|h
  .revert h;decide
  rcases l9.1 h with h|h
  .simp_all
  exact aBE E h
 rw[xL,a8 j,l6]at c;have ⟨u,c⟩:=c;have l:=nB u;rw[fV,a8 j];by_cases d:e.op=2
 .rw[b6 d]at c;have n:(0<=e.x/\e.x<1048576)/\0<=e.y/\e.y<1048576:=by
   rw[qh]at c
   grind
  rw[GD,a8 j,b6 d,d]at i;rw[gU,b6 d];have H:=HA n.1.1;have I:=HA n.2.1;refine⟨?_,yV E_ ?_⟩
  .rw[oF,lH E_ F_,DR,E8,a8 E_,b6 ⟨Z,Z⟩];show (⟨2,a_ (ν (μ e.id)),a6,a6,V1 (Lib.itoa e.x),V1 (Lib.itoa e.y),a6,a6,[],j7⟩:b9)=e;rw[fU,XV n.1.1 X,XV n.2.1 X];exact i
  intro w a;simp only[l9,q8,or_false]at a;rcases a with rfl|rfl|rfl|rfl;all_goals first|exact E_|grind|grind|grind
 by_cases g:e.op=3
 .rw[a8 d,b6 g,l6,j0]at c;have q:=nB c.1;rw[GD,a8 j,a8 d,b6 g,g]at i;rw[gU,a8 d,b6 g];refine⟨?_,yV E_ ?_⟩
  .have D:bZ [32] [BS,ν (μ e.id),ν (μ e.key),cX (ν (μ e.val))]=BS++32::(ν (μ e.id)++32::(ν (μ e.key)++32::cX (ν (μ e.val)))):=by simp[bZ]
   have x:=rV 32 (cX (ν (μ e.val)));rw[D,oF,kD E_,kD l.1,kD q.1,DR,E8,a8 E_,a8 (λh=>absurd h.1 E_),b6 ⟨Z,F_⟩];show (match (fR (a_ (bZ [32] (dZ 32 (cX (ν (μ e.val))))))).1 with
    | [f]=>(⟨3,a_ (ν (μ e.id)),a6,a6,0,0,a_ (ν (μ e.key)),f.text,[],j7⟩:b9)
    |_=>O0)=e
   rw[TR,Ci X,fU,fU];exact i
  intro w a;simp only[l9,q8,or_false]at a;rcases a with rfl|rfl|rfl|rfl;all_goals first|exact E_|exact l.2|exact q.2|exact gb _
 by_cases k:e.op=4
 .rw[a8 d,a8 g,b6 k,l6,l6,all_eq_true]at c;have F:=c.2;rw[GD,a8 j,a8 d,a8 g,b6 k,k]at i;rw[gU,a8 d,a8 g,b6 k];have r:∀(b:UInt8),(b=32\/b=10)->∀w∈bs e.refs,b∉w:=by
   intro b r w a;obtain ⟨s,x,rfl⟩:=mem_map.1 a;have:=nB (F s x);rcases r with rfl|rfl;all_goals first|exact this.1|exact this.2
  refine⟨?_,yV E_ ?_⟩
  .rw[oF,lH E_ (by intro w a;rcases l9.1 a with rfl|a;all_goals first|exact l.1|exact r 32 (.inl Z) w a),DR,E8,a8 E_,a8 (λh=>absurd h.1 E_),a8 (λh=>absurd h.1 E_),b6 ⟨Z,by simp only[j6];omega⟩];show (⟨4,a_ (ν (μ e.id)),a6,a6,0,0,a6,a6,(bs e.refs).map a_,j7⟩:b9)=e;rw[fU,Oo];exact i
  intro w a;rcases l9.1 a with rfl|a
  .decide
  rcases l9.1 a with rfl|a;all_goals first|exact l.2|exact r 10 (.inr Z) w a
 by_cases m:e.op=5
 .rw[GD,a8 j,a8 d,a8 g,a8 k,b6 m,m]at i;rw[gU,a8 d,a8 g,a8 k,b6 m];refine⟨?_,yV E_ ?_⟩
  .rw[oF,lH E_ (by intro w a;rw[q_]at a;subst a;exact l.1),DR,E8,a8 E_,a8 (λh=>absurd h.1 E_),a8 (λh=>absurd h.1 E_),a8 (λh=>absurd h.1 E_),b6 ⟨Z,Z⟩];show (⟨5,a_ (ν (μ e.id)),a6,a6,0,0,a6,a6,[],j7⟩:b9)=e;rw[fU];exact i
  intro w a;simp only[l9,q8,or_false]at a;rcases a with rfl|rfl;all_goals first|exact E_|exact l.2
 by_cases o:e.op=6
 .rw[a8 d,a8 g,a8 k,a8 m,b6 o,l6]at c;have q:=nB c.1;have p:=nB c.2;rw[GD,a8 j,a8 d,a8 g,a8 k,a8 m,b6 o,o]at i;rw[gU,a8 d,a8 g,a8 k,a8 m,b6 o];refine⟨?_,yV E_ ?_⟩
  .rw[oF,lH E_ (by intro w a;simp only[l9,q8,or_false]at a;rcases a with rfl|rfl|rfl;all_goals first|exact l.1|exact q.1|exact p.1),DR,E8,a8 E_,a8 (λh=>absurd h.1 E_),a8 (λh=>absurd h.1 E_),a8 (λh=>absurd h.1 E_),a8 (λh=>absurd h.1 E_),b6 ⟨Z,Z⟩];show (⟨6,a_ (ν (μ e.id)),a_ (ν (μ e.other)),a_ (ν (μ e.node)),0,0,a6,a6,[],j7⟩:b9)=e;rw[fU,fU,fU];exact i
  intro w a;simp only[l9,q8,or_false]at a;rcases a with rfl|rfl|rfl|rfl;all_goals first|exact E_|exact l.2|exact q.2|exact p.2
 have y:e.op=7:=X
 rw[a8 d,a8 g,a8 k,a8 m,a8 o]at c;have p:=nB c;rw[GD,a8 j,a8 d,a8 g,a8 k,a8 m,a8 o,y]at i;rw[gU,a8 d,a8 g,a8 k,a8 m,a8 o];refine⟨?_,yV E_ ?_⟩
 .rw[oF,lH E_ (by intro w a;simp only[l9,q8,or_false]at a;rcases a with rfl|rfl;all_goals first|exact l.1|exact p.1),DR,E8,a8 E_,a8 (λh=>absurd h.1 E_),a8 (λh=>absurd h.1 E_),a8 (λh=>absurd h.1 E_),a8 (λh=>absurd h.1 E_),a8 (λh=>absurd h.1 E_),b6 ⟨Z,Z⟩];show (⟨7,a_ (ν (μ e.id)),a_ (ν (μ e.other)),a6,0,0,a6,a6,[],j7⟩:b9)=e;rw[fU,fU];exact i
 intro w a;simp only[l9,q8,or_false]at a;rcases a with rfl|rfl|rfl;all_goals first|exact E_|exact l.2|exact p.2
end Go.Proofs.C
namespace Go.Abs
section
section
variable{P:Program}{H:aF}
theorem Cz(s)(c):Yb P Extern.BytealgCount.count H [.pv (.str s),.pv (.int .u8 c)] (.pv (.int .i64 ((Lib.countByte (ν (μ s)) c.toNat.toUInt8)))):=by intro w I ι cs b h;obtain ⟨u,v,rfl,d,e⟩:=eo b h;rw[d.str_inv,e.int_inv];exact⟨_,Lib.run_countString s c w,.pv (.int _ _)⟩
end
end
end Go.Abs
namespace Go.Proofs.C
open Go.Proofs.Tryz
open Go.Abs
abbrev Qw:B_:=⟨#[32]⟩
theorem WY(s)(H:aF):RC 244 [sv s,sv Qw] (iv (Lib.indexByte (ν (μ s)) 32)) H:=by
 refine Pu<|Bd func244 Z ntmps244<|Sz aJ<|O aA<|Y (gG U_)<|V aJ<|S<|aD<|S<|aT (t:=16) (n:=9) (A_:=θ (Qw=s)) ?_ ?_
 .all_goals refine Y aA<|Y cG<|Dm ?_<;>(refine Sp 19 (λc=>?_) λc=>?_)<;>(try contradiction)<;>refine U aA<|U aA<|U vT<|Y cE<|Da ?_<;>exact Gj (h:=by rfl)
 refine Cn ?_ ?_<;>intro d
 .have e:=b8 d;subst e;exact Sz aJ<|aC<|Rt<|Qq
 refine O aA<|Y cG<|Da<|Cn ?_ ?_<;>intro b
 .exact O aA<|Y aA<|Y (cL Z U_ Z Z X x7 (show 0<T (⟨#[32]⟩:B_) from Nat.zero_lt_one) Z)<|Y (kc call250 (AW s 32 _))<|V aJ<|aC<|Rt<|Qq
 cases b
theorem Wj(s)(H):RC 282 [sv s,sv Qw] (iv (Lib.indexByte (ν (μ s)) 32)) H:=by refine Pu ?_;exact Bd func282 Z ntmps282<|Sz aJ<|O aA<|Y aA<|Y (bH Z Z call244 Z (WY s _))<|V aJ<|aC<|Rt<|Qq
def sy(s:B_):AV:=if Lib.indexByte (ν (μ s)) 32 = -1 then .tup [sv s,sv ⟨#[]⟩,bv η]else .tup [sv (s.extract 0 (Lib.indexByte (ν (μ s)) 32).toNat),sv (s.extract ((Lib.indexByte (ν (μ s)) 32).toNat+1) (T s)),bv N]
theorem Sx(s:B_)(H:aF)(E:T s<2^40):RC 194 [sv s,sv Qw] (sy s) H:=by
 refine Pu ?_;have d:=λH=>WY s H;rw[sy];rcases Classical.em (Lib.indexByte (ν (μ s)) 32 = -1)with c|c
 .rw[b6 c];simp only[c]at d;refine Bd func194 Z ntmps194<|O aJ<|Y aJ<|V aJ<|S<|O aA<|Y aA<|Y (kc call244 (d _))<|V aJ<|O aA<|V AN<|Cn ?_ ?_<;>intro b
  .cases b
  refine aB<|O aA<|Y aJ<|Y aJ<|V aJ<|aC<|mP (H':=[]) (.inr Z) Z (aI Z) (aI Z) (aI Z) P_ ?_;exact Qq
 rw[a8 c];have ⟨w,r,f,B,e⟩:=yZ c;simp only[e]at d;rw[e,l_];have D:C w+1+C r=T s:=by rw[<-show C s.data.toList=T s by simp,f,j8,j6];omega
 refine Bd func194 Z ntmps194<|O aJ<|Y aJ<|V aJ<|S<|O aA<|Y aA<|Y (kc call244 (d _))<|V aJ<|O aA<|V AN<|Cn ?_ ?_<;>intro b
 .refine S<|aN a7<|Cq aA<|Cq aA<|Cq (bP (l:=0) (h:=(C w)) Z U_ Z Z Z X X Z)<|Cq aA<|Cq aA<|Cq aA<|Cq (gG U_)<|Cq kp<|Cq (bP (l:=(C w+1)) (h:=T s) Z U_ Z Z Z X X Z)<|Cq aJ<|Cq aJ<|Cq aJ<|bG<|Kr<|aC<|mP (H':=[]) (.inr Z) Z (aI Z) (aI Z) (aI Z) P_ ?_;exact Qq
 have F:=b_ b;omega
theorem aDv(s)(H:aF)(d:T s<2^40):RC 137 [sv s,sv Qw] (sy s) H:=by
 refine Pu ?_;have b:=λH=>Sx s H d;rcases Classical.em (Lib.indexByte (ν (μ s)) 32 = -1)with c|c
 .simp only[sy,b6 c]at b |-;refine Bd func137 Z ntmps137<|O aJ<|Y aJ<|V aJ<|O aA<|Y aA<|Y (kc call194 (b _))<|Y dL<|Y dL<|Y dL<|Y aJ<|Y aJ<|V aJ<|aC<|mP (H':=[]) (.inr Z) Z (aI Z) (aI Z) (aI Z) P_ ?_;exact Qq
 simp only[sy,a8 c]at b |-;refine Bd func137 Z ntmps137<|O aJ<|Y aJ<|V aJ<|O aA<|Y aA<|Y (kc call194 (b _))<|Y dL<|Y dL<|Y dL<|Y aJ<|Y aJ<|V aJ<|aC<|mP (H':=[]) (.inr Z) Z (aI Z) (aI Z) (aI Z) P_ ?_;exact Qq
abbrev sNl:B_:=⟨#[10]⟩
def DZ(s:B_):Bool:=θ ((1:Int)<=(T s:Int))&&θ (s.extract (T s - 1) (T s)=sNl)
def EZ(s:B_):B_:=if DZ s then s.extract 0 (T s - 1)else s
theorem jm(s:B_)(H:aF)(D:T s<2^40):RC 256 [sv s,sv sNl] (bv (DZ s)) H:=by
 refine Pu<|Bd func256 Z ntmps256<|Sz aJ<|S<|aT (t:=4) (n:=18) (A_:=DZ s) ?_ ?_
 .all_goals refine Y aA<|Y (gG U_)<|Y aA<|Y (gG U_)<|Y AN<|Dm ?_<;>(refine Sp 10 (λb=>?_) λb=>?_)<;>(first|exact s_|refine M<|M<|M<|M<|M<|M<|M<|M<|M ?_|refine U aA<|U aA<|U (gG U_)<|U aA<|U (gG U_)<|U (by exact dV Z Z Z (show ξ.wrap ((T s:Int) - 1)=((T s - 1:Nat):Int)by have B:(1:Int)<=(T s:Int):=b8 b;rw[IntKind.wrap_i64];omega))<|U (bP (l:=(T s - 1)) (h:=T s) Z U_ Z Z Z X X Z)<|U aA<|U vT ?_)<;>refine Y cE<|Da ?_<;>exact Gj (h:=by(simp only[DZ];rw[show θ ((1:Int)<=(T s:Int))=_ from b];rfl))
 exact aC<|Rt<|Qq
theorem Ia(s:B_)(H:aF)(c:T s<2^40):RC 205 [sv s,sv sNl] (sv (EZ s)) H:=by
 refine Pu<|Bd func205 Z ntmps205<|Sz aJ<|S<|O aA<|Y aA<|V (kc call256 (jm s _ c))<|Cn ?_ ?_<;>intro b
 .have h1:=by
   have h:=b;rw[DZ,l6,j0]at h;omega
  rw[EZ,b6 b];exact O aA<|Y aA<|Y (gG U_)<|Y aA<|Y (gG U_)<|Y (by exact dV Z Z Z (show ξ.wrap ((T s:Int) - 1)=((T s - 1:Nat):Int)by rw[IntKind.wrap_i64];omega))<|Y (bP (l:=0) Z U_ Z Z Z X X Z)<|V aJ<|aC<|Rt<|Qq
 rw[EZ,a8 F_];exact aB<|O aA<|V aJ<|aC<|Rt<|Qq
theorem nq(s)(H)(b:T s<2^40):RC 144 [sv s,sv sNl] (sv (EZ s)) H:=by refine Pu ?_;exact Bd func144 Z ntmps144<|Sz aJ<|O aA<|Y aA<|Y (bH Z Z call205 Z (Ia s _ b))<|V aJ<|aC<|Rt<|Qq
theorem Xh(s:B_)(H:aF):RC 281 [sv s,sv Qw] (iv ((s.data.toList.count 32:Nat):Int)) H:=by
 refine Pu<|Bd func281 Z ntmps281<|Sz aJ<|S<|O aA<|Y (gG U_)<|V cG<|Cn ?_ ?_<;>intro c
 .cases c
 refine aB<|S<|O aA<|Y (gG U_)<|V cG<|Cn ?_ ?_<;>intro b
 .exact O aA<|Y aA<|Y (cL Z U_ Z Z X x7 (show 0<T (⟨#[32]⟩:B_) from Nat.zero_lt_one) Z)<|Y (QH Z Z func304 Z Z Z Z Z (Cz s 32))<|V aJ<|aC<|Rt<|Qq
 cases b
def ofY(l:List UInt8):B_:=⟨l.toArray⟩
def cR(s:B_):List B_:=(dZ 32 (ν (μ s))).map ofY
def C3(D:List B_)(m:Nat):List (List AV):=D.map (λe=>(S_ e).map AV.pv)++List.replicate m [sv ⟨#[]⟩]
theorem WX(D)(m):(C3 D (m+1))[C D]?=A [sv ⟨#[]⟩]:=by rw[C3,getElem?_append_right H_,g_,Nat.sub_self];rfl
theorem nw{s}(h:C (cR s)=1):cR s=[s]:=by rw[cR,g_,yF]at h;have a:32∉ν (μ s):=count_eq_zero.1 X;rw[cR,sJ a];rfl
theorem RZ(D)(m)(x):(C3 D (m+1)).set (C D) [sv x]=C3 (D++[x]) m:=by unfold C3;rw[set_append_right _ _ H_,g_,Nat.sub_self,map_append,append_assoc];rfl
theorem R0(H)(D)(m):∀r∈C3 D m,∀a∈r,Clo H a:=by
 intro r b a c;rcases mem_append.1 b with b|b
 .obtain ⟨d,_,rfl⟩:=mem_map.1 b;obtain ⟨p,_,rfl⟩:=mem_map.1 c;simp
 rw[eq_of_mem_replicate b,q_]at c;subst c;simp
instance(H)(D)(m):W_ (H) (C3 D m):=⟨R0 H D m⟩
theorem exL(s:B_)(i j):(s.extract i j).data.toList=(s.data.toList.drop i).take (j - i):=H_
theorem sg{a b:B_}(h:ν (μ a)=ν (μ b)):a=b:=by cases a;simp_all
theorem Lh{s:B_}{w r}(h:ν (μ s)=w++32::r):s.extract 0 (C w)=ofY w/\(s.extract (C w+1) (T s)).data.toList=r:=by
 have B:T s=C w+1+C r:=by
  show s.data.size=_;rw[<-Array.length_toList,h,j8,j6];omega
 constructor
 .refine sg ?_;rw[exL,drop_zero,Nat.sub_zero,h,take_left];rfl
 simp_all
theorem aFH{H1}{id g n}{ob}(ps)(b:H1.get id=A ob)(c:ob.g=g)(a:ob.rows=ps.map (·.map .pv))(d:C ps=n):Fin [] H1 (.osl id g 0 n) [] (.pv (.sl ps)):=by subst c d;exact Fin.fz _ b a (.osl H_) Z T_ T_
theorem ru(d:B_)(H:aF)(c:T d<2^40):RC 251 [sv d,sv Qw,iv 0,iv (-1)] (.pv (aL (cR d))) H:=by
 refine Pu ?_;obtain ⟨m4,o⟩:∃m4,m4=d.data.toList.count 32:=X_;have Q:m4<=T d:=by rw[o];exact Nat.le_trans List.count_le_length (by simp)
 have x:=λH=>Xh d H;rw[<-o]at x;have e:C (dZ 32 (ν (μ d)))=m4+1:=by rw[yF,o]
 refine Bd func251 Z ntmps251<|Sz aJ<|S<|O aA<|V cG<|Cn ?_ ?_<;>intro p
 .cases p
 refine aB<|S<|O aA<|V vT<|Cn ?_ ?_<;>intro u
 .have:=b8 u;cases this
 refine aB<|S<|O aA<|V cF<|Cn ?_ ?_<;>intro k
 .refine Rd aA<|Y aA<|Y (kc call281 (x _))<|Y kp<|V aJ<|O aA<|Y aA<|Y (gG U_)<|Y kp<|Y (DG (r:=((m4+1:Nat):Int)) Z Z Z X)<|V aJ<|O aA<|Y (EX (id:=31) Z aZ sZ Rl Z Z Z X X (l_ _) (l_ _) X Z)<|V aJ<|O aA<|Y (by exact dV Z Z Z (show ξ.wrap (((m4+1:Nat):Int) - 1)=(m4:Int)by rw[IntKind.wrap_i64];omega))<|V aJ<|Sz aJ<|S<|aD ?_;refine dU (λ(D:List B_) (a:B_)=>([(0,sv a),(1,sv Qw),(2,iv 0),(3,iv (m4:Int)),(8,.pv (.sl [])),(9,.osl 31 0 0 (m4+1)),(10,iv (C D:Int))],[(31,⟨0,1,9,C3 D (m4+1 - C D)⟩)])) (λD a=>cR d=D++cR a/\T a<=T d) (λD a=>m4 - C D) [] d ⟨Z,h_ _⟩ ?_ ?_
  .exact L_
  rintro D a ⟨d_,hr⟩;have g:C D+C (cR a)=m4+1:=by
   have:=congrArg List.length d_;rw[j8,cR,g_,e]at this;exact this.symm
  have K:0<C (cR a):=by rw[cR,g_];exact rV _ _
  have ⟨m,L⟩:∃m,m4+1 - C D=m+1:=⟨m4 - C D,X⟩;have z:=λH=>Wj a H;rw[L];rcases Nat.lt_or_ge (C D) m4 with hlt|hge
  .have E:Lib.indexByte (ν (μ a)) 32 ≠ -1:=λh=>by
    have W:=sJ (yY.1 h);rw[cR,W]at g;have:C D+1=m4+1:=g;omega
   have ⟨w,r,q,F,B⟩:=yZ E;have ⟨I,y⟩:=Lh q;have b:C w+1+C r=T a:=by rw[<-show C a.data.toList=T a by simp,q,j8,j6];omega
   have R:cR a=a.extract 0 (C w)::cR (a.extract (C w+1) (T a)):=by
    rw[cR,q,kD F,map_cons,I,cR,y]
   simp only[B]at z;refine S<|O aA<|Y aA<|V cF<|Cn ?_ ?_<;>intro v
   .refine aB<|aD<|O aA<|Y aA<|Y (kc call282 (z _))<|V aJ<|S<|O aA<|V cF<|Cn ?_ ?_<;>intro l
    .have:=b8 l;omega
    refine aB<|O aA<|Y aA<|Y aA<|Y aA<|Y aA<|Y (by exact dB Z Z Z (show IntKind.i64.wrap ((w.length:Int)+0)=(w.length:Int)by rw[IntKind.wrap_i64];omega))<|Y (by exact bP (l:=0) (h:=w.length) Z U_ Z Z Z X X Z)<|Y (by exact dK Z aZ Z Z Z Z Z X (by exact l_ _) X (r8 _))<|Uu (by exact cT Z V_ Z Z Z Z Z (WX D m) Nat.zero_lt_one Z (RZ D m _))<|Zz<|O aA<|Y aA<|Y aA<|Y (gG U_)<|Y kp<|Y (by exact bP (l:=(w.length+1)) (h:=a.size) Z U_ Z Z Z X X Z)<|V aJ<|Rg<|Dm ?_;refine Y kp<|Da ?_;have G:(D++[a.extract 0 w.length]).length=D.length+1:=H_
    have t:T (a.extract (C w+1) (T a))<=T d:=by rw[<-show C (a.extract (C w+1) (T a)).data.toList=T (a.extract (C w+1) (T a)) by simp,y];omega
    refine⟨D++[a.extract 0 (C w)],a.extract (C w+1) (T a),⟨F_,t⟩,X,?_⟩;rw[G,show m4+1 - (C D+1)=m by omega];exact L_
   have:=b_ v;omega
  have P:C D=m4:=by omega
  have J:cR a=[a]:=nw X;have j:m=0:=X
  subst j;refine S<|O aA<|Y aA<|V cF<|Cn ?_ ?_<;>intro n
  .have:=b8 n;omega
  refine aP<|O aA<|Y aA<|Y aA<|Y (by exact dK Z aZ Z Z Z Z Z X (by exact l_ _) X (r8 _))<|Uu (by exact cT Z V_ Z Z Z Z Z (WX D 0) Nat.zero_lt_one Z (RZ D 0 _))<|Zz<|O aA<|Y aA<|Y kp<|Y (by exact kZ (l:=0) (h:=(D.length+1)) Z aZ Z Z Z Z Z Z X X Z Z)<|V aJ<|aC ?_;have s:(D++[a]).map S_=(cR d).map S_:=F_
  refine cN (H':=[]) (.inr Z) Z (aI Z) (aFH (id:=31) ((D++[a]).map S_) Z Z (by show C3 (D++[a]) 0=_;rw[C3,replicate_zero,append_nil,map_map];rfl) H_) ⟨?_,Z⟩;rw[aL,s]
 cases k
theorem Ae(s)(H)(b:T s<2^40):RC 200 [sv s,sv Qw] (.pv (aL (cR s))) H:=by refine Pu ?_;exact Bd func200 Z ntmps200<|Sz aJ<|O aA<|Y aA<|Y (bH Z Z call251 Z (ru s _ b))<|V aJ<|aC<|Rt<|Qq
def AH(t:B_):B_:=if Lib.indexByte (ν (μ t)) 10 = -1 then t else t.extract 0 ((Lib.indexByte (ν (μ t)) 10).toNat+1)
def TF(t:B_):B_:=if Lib.indexByte (ν (μ t)) 10 = -1 then⟨#[]⟩else t.extract ((Lib.indexByte (ν (μ t)) 10).toNat+1) (T t)
def jU(s:B_):Nat->B_
 |0=>s
 |k+1=>TF (jU s k)
def jK(s:B_):List B_:=(sB (ν (μ s))).map ofY
theorem aD7(s):ofY (ν (μ s))=s:=sg (Z)
theorem szY(s:B_):C s.data.toList=T s:=rfl
theorem Mk{t:B_}(h:Lib.indexByte (ν (μ t)) 10 ≠ -1):∃w r,ν (μ t)=w++10::r/\(10:UInt8)∉w/\Lib.indexByte (ν (μ t)) 10=(C w:Int)/\t.extract 0 (C w+1)=ofY (w++[10])/\(t.extract (C w+1) (T t)).data.toList=r/\C w+1+C r=T t:=by
 have ⟨w,r,d,g,e⟩:=yZ h;have f:C w+1+C r=T t:=by rw[<-szY,d,j8,j6];omega
 have c:ν (μ t)=(w++[10])++r:=F_
 refine⟨w,r,d,g,e,sg ?_,?_,f⟩
 .rw[exL,drop_zero,Nat.sub_zero,c,show C w+1=C (w++[(10:UInt8)]) by simp,take_left];rfl
 rw[exL,c,show C w+1=C (w++[(10:UInt8)]) by simp,drop_left];exact take_of_length_le G_
theorem CA{t}(h:¬ 0<T t):jK t=[]:=by have:ν (μ t)=[]:=length_eq_zero_iff.1 F_;rw[jK,this];rfl
theorem DM{t}(h:0<T t):jK t=AH t::jK (TF t)/\T (TF t)<=T t:=by
 rw[AH,TF];by_cases a:Lib.indexByte (ν (μ t)) 10 = -1
 .rw[b6 a,b6 a];refine⟨?_,k_ _⟩;rw[jK,OU (yY.1 a) (λe=>by rw[<-szY]at h;simp_all)];rfl
 rw[a8 a,a8 a];have ⟨w,r,c,f,g,d,b,B⟩:=Mk a;rw[g,l_,d];refine⟨?_,H_⟩;rw[jK,c,JB f,map_cons,jK,b]
theorem BY(s):∀k,k<=C (jK s)->jK (jU s k)=(jK s).drop k/\T (jU s k)<=T s
 |0,_=>⟨Z,h_ _⟩
 | k+1,h=>by
  obtain ⟨b,d⟩:=BY s k (le_of_succ_le h);have i:0<T (jU s k):=by
   rcases Nat.lt_or_ge 0 _ with c|c
   .exact c
   have g:=CA (t:=jU s k) X;rw[g]at b;have:=congrArg List.length b;rw[q6,length_nil]at this;omega
  have ⟨f,e⟩:=DM i;rw[f]at b;refine⟨?_,Nat.le_trans e d⟩;have:=congrArg List.tail b;rw[tail_drop]at this;exact this
theorem Wb{s}{k}(h:k<C (jK s)):(jK s)[k]?=A (AH (jU s k))/\0<T (jU s k):=by
 have ⟨b,B⟩:=BY s k (Nat.le_of_lt h);have c:0<T (jU s k):=by
  rcases Nat.lt_or_ge 0 _ with d|d
  .exact d
  have e:=CA (t:=jU s k) X;rw[e]at b;have:=congrArg List.length b;rw[q6,length_nil]at this;omega
 refine⟨?_,c⟩;rw[(DM c).1]at b;have:=congrArg List.head? b;rw[head?_drop]at this;exact this.symm
def lB(s:B_):Ob:=bx 1 9 [sv s]
theorem Wa(s)(H)(b:H.get 933=ζ):aW φ 142 [sv s] H (λr H'=>r=.clo 198 [.ref 933 0 0 0]/\H'=(933,lB s)::H):=by refine Bd func142 Z ntmps142<|O (tP Z Z Z Z b)<|V aJ<|O (iG Z Z)<|V aJ<|aC ?_;refine cN (.inr Z) Z (aI Z) Fin.refl ?_;exact Qq
theorem Lx(s:B_)(y:AV)(j:Nat->aF)(a:T s<2^40)(f:∀k,(j k).get 933=A (lB (jU s k)))
  (E:∀k,k<C (jK s)->dO φ y [sv (AH (jU s k))] ((933,lB (jU s (k+1)))::j k) (λr H'=>r=bv N/\H'=j (k+1))) :
  aW φ 198 [y,.ref 933 0 0 0] (j 0) (λr H'=>r=.tup []/\H'=j (C (jK s))):=by
 refine Bd func198 Z ntmps198<|aD<|bC (σ:=Nat) (λk=>([(0,y),(1,.ref 933 0 0 0)],j k)) (λk=>k<=C (jK s)) (λk=>C (jK s) - k) 0 (k_ _) ?_ ?_
 .exact E0
 rintro k F;have ⟨q,b⟩:=BY s k F;have D:=λH=>sQ (jU s k) 10 H;have K:jU s (k+1)=TF (jU s k):=rfl;refine S<|O (aY Z N_ Z (f k) Z Z Z)<|Y (gG U_)<|V iZ<|Cn ?_ ?_<;>intro o
 .have I:0<T (jU s k):=I_ o
  have x:k<C (jK s):=by
   rcases Nat.lt_or_ge k (C (jK s)) with h|h
   .exact h
   rw[(DM I).1,drop_eq_nil_of_le h]at q;cases q
  have c:=E k x;rw[K,TF,AH]at c;rcases Classical.em (Lib.indexByte (jU s k).data.toList 10 = -1)with i|i
  .rw[b6 i,b6 i]at c;have l:∀H,RC 199 [sv (jU s k),.pv (.int .u8 10)] (iv (-1)) H:=λH=>by
    have:=D H
    rwa [show Lib.indexByte (jU s k).data.toList ((10:Int).toNat.toUInt8) = -1 from i]at this
   refine aB<|aD<|Sz aJ<|S<|O (aY Z N_ Z (f k) Z Z Z)<|Y (kc call199 (l _))<|V aJ<|O aA<|V AN<|Cn ?_ ?_<;>intro B
   .cases B
   refine Rd (aY Z N_ Z (f k) Z Z Z)<|Y aJ<|Uu (mH Z V_ Z Z Z Z (f k) Z Z Z)<|Zz<|O aA<|Y aA<|Y (dH Z Z Z (c))<|V iE<|Cn ?_ ?_<;>intro u
   .cases u
   refine aB ?_;exact⟨k+1,X,X,E0⟩
  rw[a8 i,a8 i]at c;have ⟨w,r,L,P,J,Q,R,W⟩:=Mk i;rw[J,l_]at c;have l:∀H,RC 199 [sv (jU s k),.pv (.int .u8 10)] (iv (C w:Int)) H:=λH=>by
   have:=D H
   rwa [show Lib.indexByte (jU s k).data.toList ((10:Int).toNat.toUInt8)=(C w:Int)from J]at this
  refine aB<|aD<|Sz aJ<|S<|O (aY Z N_ Z (f k) Z Z Z)<|Y (kc call199 (l _))<|V aJ<|O aA<|V AN<|Cn ?_ ?_<;>intro t
  .refine aN a7<|Cr [933] (λn d=>by exact aY Z N_ Z ((d _ Z).trans (f k)) Z Z Z)<|x_ aA<|x_ (by exact dB Z Z Z (show ξ.wrap ((C w:Int)+1)=((C w+1:Nat):Int)by rw[IntKind.wrap_i64];omega))<|x_ (by exact bP (l:=0) (h:=(C w+1)) Z U_ Z Z Z X X Z)<|Cr [933] (λn d=>by exact aY Z N_ Z ((d _ Z).trans (f k)) Z Z Z)<|x_ aA<|x_ (by exact dB Z Z Z (show ξ.wrap ((C w:Int)+1)=((C w+1:Nat):Int)by rw[IntKind.wrap_i64];omega))<|x_ (by exact bP (l:=(C w+1)) (h:=T (jU s k)) Z U_ Z Z Z X X Z)<|x_ aJ ?_;refine Cp [933] (λn d=>by exact mH Z V_ Z Z Z Z ((d _ Z).trans (f k)) Z Z Z)<|bG<|Kr<|O aA<|Y aA<|Y (dH Z Z Z (c))<|V iE ?_;refine Cn ?_ ?_<;>intro z
   .cases z
   refine aB ?_;exact⟨k+1,X,X,E0⟩
  have:=b_ t;omega
 have G:¬ 0<T (jU s k):=J_ o
 have v:k=C (jK s):=by
  rw[CA G]at q;have:=congrArg List.length q;rw[length_nil,q6]at this;omega
 subst v;refine aP ?_;exact pI (H':=j (C (jK s))) (.inl Z) Z Fin.refl ⟨Z,Z⟩
theorem He(w):Lib.trimSuffix (w++[10]) [10]=w:=by rw[Lib.trimSuffix,Lib.hasSuffix];simp
theorem Hf(s:B_):EZ s=a_ (Lib.trimSuffix (ν (μ s)) [10]):=by
 have E:=szY s;rw[EZ];cases h:DZ s with
 | true =>
  rw[DZ,l6,j0,j0]at h;have ⟨B,f⟩:=h;have e:s.data.toList.drop (T s - 1)=[10]:=by
   have:=congrArg (λx=>ν (μ x)) f;rw[exL]at this;refine Eq.trans ?_ (show ν (μ sNl)=[10]from Z);rw[<-this];exact(take_of_length_le F_).symm
  have b:ν (μ s)=s.data.toList.take (T s - 1)++[10]:=by rw[<-e,take_append_drop]
  refine sg ?_;rw[b6 Z,exL,cJ,b,He,drop_zero,Nat.sub_zero,<-b]
 | false =>
  rw[a8 E_,Lib.trimSuffix,a8,fU];intro c;have ⟨w,d⟩:=isSuffixOf_iff_suffix.1 (show ([10]:List UInt8).isSuffixOf (ν (μ s))=N from c);have D:T s=C w+1:=G_
  have:DZ s=N:=by
   rw[DZ,l6,j0,j0];refine⟨X,sg ?_⟩;rw[exL,<-d,show T s - 1=C w by omega,drop_left];exact take_of_length_le (by rw[length_singleton];omega)
  rw[h]at this;cases this
theorem Xg(s):∃b,sy s=.tup [sv (a_ ((dZ 32 (ν (μ s))).headD [])),sv (a_ (s.data.toList.drop (C ((dZ 32 (ν (μ s))).headD [])+1))),bv b]:=by
 rw[sy];by_cases h:Lib.indexByte (ν (μ s)) 32 = -1
 .refine⟨η,?_⟩;rw[b6 h,sJ (yY.1 h),headD_cons,drop_eq_nil_of_le (le_succ _),fU];rfl
 have ⟨w,r,d,e,f⟩:=yZ h;refine⟨N,?_⟩;have ⟨j,g⟩:=Lh d;have i:s.data.toList.drop (C w+1)=r:=by
  simp_all
 have c:(dZ 32 (ν (μ s))).headD []=w:=by rw[d,kD e];rfl
 rw[a8 h,c,i,f,l_,j,show s.extract _ (T s)=a_ r from sg (by rw[g,cJ])];rfl
theorem Ad(s)(i)(h:i<C (cR s)):(cR s)[i]?=A (a_ ((dZ 32 (ν (μ s))).getD i [])):=by rw[cR,g_]at h;rw[cR,r7,getD_eq_getElem?_getD,p_ h];rfl
theorem Ac(s):C (cR s)=C (dZ 32 (ν (μ s))):=g_ _
theorem tR{a b}:a_ a=a_ b↔a=b:=⟨λh=>by rw[<-cJ a,h,cJ],λh=>by rw[h]⟩
theorem cM(s)(l):dA (s::l)=T s+dA l:=rfl
theorem yU{e}{a}(b:e.op≠1)(h:bs a=gU e):(⟨(bZ [32] (bs a)).toArray⟩)++⟨#[10]⟩=a_ (fV e++[10]):=sg (by
 rw[cJ,fV,a8 b,<-h];simp)
theorem Ue{e}(a:e.op=1):(⟨#[112,117,116,32]⟩)++(fM e.obj).1++⟨#[10]⟩=a_ (fV e++[10]):=sg (by
 rw[fV,b6 a];rfl)
theorem NI{o}:T (fM o).1<=20000:=by
 rw[fM]
 split
 .split
  .exact k_ _
  split
  .exact k_ _
  simp_all
 exact k_ _
theorem r5{p:Prop}(h:p:=by show 1*_+_+_<_;simp only[cM,j6,length_nil];omega):p:=h
theorem aBP(e:b9)(H:aF)(k:VY e)(g:gN e=N):RC 207 [av (bM e)] (.tup [sv (a_ (fV e++[10])),iv (fY e)]) H:=by
 refine Pu ?_;have ⟨⟨o1,o2⟩,F,o4⟩:=uY.1 g;rw[xL]at F;have h:=JG g;have t:dA []=0:=rfl;refine Bd func207 Z ntmps207<|O (kb 1)<|Y aJ<|V aJ<|Sz aJ<|S<|O (bD iY)<|V (bU M_)<|aD<|O cG<|Da<|Cn ?_ ?_<;>intro i
 .have E:e.op=1:=b8 i;have y:=NI (o:=e.obj);have a:T (⟨#[112,117,116,32]⟩:B_)=4:=rfl;have J:T (⟨#[10]⟩:B_)=1:=rfl;have j:T ((⟨#[112,117,116,32]⟩:B_)++(fM e.obj).1)=4+T (fM e.obj).1:=F_
  refine O (bD vR)<|Y (xD cD sizeOf135)<|Y (kc call253 (XS e.obj _ k.2.2))<|Y aA<|Y dL<|Y dL<|Y aJ<|V aJ<|O aA<|Y kq<|Y kq<|Y aA<|Y aJ<|V aJ<|aC<|Ru ?_;rw[Ue E,show fY e=(fM e.obj).2 from b6 E];exact Qq
 have E:e.op≠1:=b_ i;rw[a8 E,l6]at F;have ⟨x,I⟩:=F;have m:=dR x;refine O cG<|Da<|Cn ?_ ?_<;>intro D
 .have R:e.op=2:=b8 D;rw[b6 R,qh,l6,j0,j0]at I;have u:0<=e.x/\e.x<1048576:=X
  have v:0<=e.y/\e.y<1048576:=X
  have six:T (aV e.x)<=7:=by rw[<-aU];show C (Lib.itoa e.x)<=7;rw[kN _ u.1];exact cU X E_
  have τ:T (aV e.y)<=7:=by rw[<-aU];show C (Lib.itoa e.y)<=7;rw[kN _ v.1];exact cU X E_
  have Q:T (⟨#[109,111,118,101]⟩:B_)=4:=rfl;refine aN a7<|Cq (bD kC)<|Cq (bU N_)<|Cq (bD jR)<|Cq (bD nE)<|Cq (bU M_)<|Cq (kc mD (qI e.x X X _))<|Cq (bD jR)<|Cq (bD nD)<|Cq (bU M_)<|Cq (kc mD (qI e.y X X _))<|Cq (aM (([⟨#[109,111,118,101]⟩,e.id,aV e.x,aV e.y]:List B_).map S_) Z aZ Z Z Z Z Z (jL _))<|Cq aJ<|bG<|Kr<|Sr<|Dm ?_;have P:bs [⟨#[109,111,118,101]⟩,e.id,aV e.x,aV e.y]=gU e:=by
   rw[gU]
   (rw[b6 R];rfl)
  have G:e.op≠1:=X
  have K:∀H,RC 204 [.pv (aL [⟨#[109,111,118,101]⟩,e.id,aV e.x,aV e.y]),sv ⟨#[32]⟩] (sv ⟨(bZ [32] (bs [⟨#[109,111,118,101]⟩,e.id,aV e.x,aV e.y])).toArray⟩) H:=λH=>xP [⟨#[109,111,118,101]⟩,e.id,aV e.x,aV e.y] ⟨#[32]⟩ H E_ r5;have L:T (⟨(bZ [32] (bs [⟨#[109,111,118,101]⟩,e.id,aV e.x,aV e.y])).toArray⟩:B_)<=70000:=by
   show C (bZ [32] (bs [⟨#[109,111,118,101]⟩,e.id,aV e.x,aV e.y]))<=_;have:=gD [⟨#[109,111,118,101]⟩,e.id,aV e.x,aV e.y];simp only[cM,j6,length_nil]at this;omega
  have J:T (⟨#[10]⟩:B_)=1:=rfl;refine Y (kc sD (K _))<|Y kq<|Y aJ<|V aJ<|aC<|Ru ?_;rw[yU G P,show fY e=0 from a8 G];exact Qq
 have R:e.op≠2:=b_ D;rw[a8 R]at I;refine O cG<|Da<|Cn ?_ ?_<;>intro B
 .have W:e.op=3:=b8 B;rw[b6 W,l6,j0]at I;have n:=dR I.1;have hq:=rY e.val;have Q:T (⟨#[116,97,103]⟩:B_)=3:=rfl;refine aN a7<|Cq (bD kC)<|Cq (bU N_)<|Cq (bD oG)<|Cq (bU N_)<|Cq (bD pG)<|Cq (bU N_)<|Cq (kc call260 (wh e.val _ X))<|Cq (aM (([⟨#[116,97,103]⟩,e.id,e.key,⟨(cX (ν (μ e.val))).toArray⟩]:List B_).map S_) Z aZ Z Z Z Z Z (jL _))<|Cq aJ<|bG<|Kr<|Sr<|Dm ?_;have P:bs [⟨#[116,97,103]⟩,e.id,e.key,⟨(cX (ν (μ e.val))).toArray⟩]=gU e:=by
   rw[gU]
   (rw[a8 R,b6 W];rfl)
  have G:e.op≠1:=X
  have K:∀H,RC 204 [.pv (aL [⟨#[116,97,103]⟩,e.id,e.key,⟨(cX (ν (μ e.val))).toArray⟩]),sv ⟨#[32]⟩] (sv ⟨(bZ [32] (bs [⟨#[116,97,103]⟩,e.id,e.key,⟨(cX (ν (μ e.val))).toArray⟩])).toArray⟩) H:=λH=>xP [⟨#[116,97,103]⟩,e.id,e.key,⟨(cX (ν (μ e.val))).toArray⟩] ⟨#[32]⟩ H E_ r5;have L:T (⟨(bZ [32] (bs [⟨#[116,97,103]⟩,e.id,e.key,⟨(cX (ν (μ e.val))).toArray⟩])).toArray⟩:B_)<=70000:=by
   show C (bZ [32] (bs [⟨#[116,97,103]⟩,e.id,e.key,⟨(cX (ν (μ e.val))).toArray⟩]))<=_;have:=gD [⟨#[116,97,103]⟩,e.id,e.key,⟨(cX (ν (μ e.val))).toArray⟩];simp only[cM,j6,length_nil]at this;omega
  have J:T (⟨#[10]⟩:B_)=1:=rfl;refine Y (kc sD (K _))<|Y kq<|Y aJ<|V aJ<|aC<|Ru ?_;rw[yU G P,show fY e=0 from a8 G];exact Qq
 have W:e.op≠3:=b_ B;rw[a8 W]at I;refine O cG<|Da<|Cn ?_ ?_<;>intro c
 .have a:e.op=4:=b8 c;rw[b6 a,l6,l6,j0,j0,all_eq_true]at I;have ⟨⟨r1,r2⟩,r3⟩:=I;have q:dA e.refs<=24*C e.refs:=pR (λs r=>dR (r3 s r));have Q:T (⟨#[114,101,102,115]⟩:B_)=4:=rfl;have f:C (([[⟨#[114,101,102,115]⟩,e.id],e.refs]:List (List B_)).flatten)<2^40:=G_
  refine Rd (bD kC)<|Y (bU N_)<|Y (aM (([⟨#[114,101,102,115]⟩,e.id]:List B_).map S_) Z aZ Z Z Z Z Z (jL _))<|Y (bD iX)<|Y (bU aG)<|Y (aM (([[⟨#[114,101,102,115]⟩,e.id],e.refs]:List (List B_)).map (λl=>[.sl (l.map S_)])) Z uS Z Z Z Z Z H_)<|Y (kc call47 (lF [[⟨#[114,101,102,115]⟩,e.id],e.refs] _ F_ f))<|V aJ<|Sr<|Dm ?_;rw[show ([[⟨#[114,101,102,115]⟩,e.id],e.refs]:List (List B_)).flatten=⟨#[114,101,102,115]⟩::e.id::e.refs by simp];have P:bs (⟨#[114,101,102,115]⟩::e.id::e.refs)=gU e:=by
   rw[gU]
   (rw[a8 R,a8 W,b6 a];rfl)
  have G:e.op≠1:=X
  have K:∀H,RC 204 [.pv (aL (⟨#[114,101,102,115]⟩::e.id::e.refs)),sv ⟨#[32]⟩] (sv ⟨(bZ [32] (bs (⟨#[114,101,102,115]⟩::e.id::e.refs))).toArray⟩) H:=λH=>xP (⟨#[114,101,102,115]⟩::e.id::e.refs) ⟨#[32]⟩ H E_ r5;have L:T (⟨(bZ [32] (bs (⟨#[114,101,102,115]⟩::e.id::e.refs))).toArray⟩:B_)<=70000:=by
   show C (bZ [32] (bs (⟨#[114,101,102,115]⟩::e.id::e.refs)))<=_;have:=gD (⟨#[114,101,102,115]⟩::e.id::e.refs);simp only[cM,j6,length_nil]at this;omega
  have J:T (⟨#[10]⟩:B_)=1:=rfl;refine Y (kc sD (K _))<|Y kq<|Y aJ<|V aJ<|aC<|Ru ?_;rw[yU G P,show fY e=0 from a8 G];exact Qq
 have a:e.op≠4:=b_ c;rw[a8 a]at I;refine O cG<|Da<|Cn ?_ ?_<;>intro w
 .have z:e.op=5:=b8 w;have Q:T (⟨#[100,114,111,112]⟩:B_)=4:=rfl;refine Rd (bD kC)<|Y (bU N_)<|Y (aM (([⟨#[100,114,111,112]⟩,e.id]:List B_).map S_) Z aZ Z Z Z Z Z (jL _))<|V aJ<|Sr<|Dm ?_;have P:bs [⟨#[100,114,111,112]⟩,e.id]=gU e:=by
   rw[gU]
   (rw[a8 R,a8 W,a8 a,b6 z];rfl)
  have G:e.op≠1:=X
  have K:∀H,RC 204 [.pv (aL [⟨#[100,114,111,112]⟩,e.id]),sv ⟨#[32]⟩] (sv ⟨(bZ [32] (bs [⟨#[100,114,111,112]⟩,e.id])).toArray⟩) H:=λH=>xP [⟨#[100,114,111,112]⟩,e.id] ⟨#[32]⟩ H E_ r5;have L:T (⟨(bZ [32] (bs [⟨#[100,114,111,112]⟩,e.id])).toArray⟩:B_)<=70000:=by
   show C (bZ [32] (bs [⟨#[100,114,111,112]⟩,e.id]))<=_;have:=gD [⟨#[100,114,111,112]⟩,e.id];simp only[cM,j6,length_nil]at this;omega
  have J:T (⟨#[10]⟩:B_)=1:=rfl;refine Y (kc sD (K _))<|Y kq<|Y aJ<|V aJ<|aC<|Ru ?_;rw[yU G P,show fY e=0 from a8 G];exact Qq
 have z:e.op≠5:=b_ w;rw[a8 z]at I;refine O cG<|Da<|Cn ?_ ?_<;>intro d
 .have b:e.op=6:=b8 d;rw[b6 b,l6]at I;have p:=dR I.1;have y:=dR I.2;have Q:T (⟨#[115,112,108,105,116]⟩:B_)=5:=rfl;refine Rd (bD kC)<|Y (bU N_)<|Y (bD rG)<|Y (bU N_)<|Y (bD kV)<|Y (bU N_)<|Y (aM (([⟨#[115,112,108,105,116]⟩,e.id,e.node,e.other]:List B_).map S_) Z aZ Z Z Z Z Z (jL _))<|V aJ<|Sr<|Dm ?_;have P:bs [⟨#[115,112,108,105,116]⟩,e.id,e.node,e.other]=gU e:=by
   rw[gU]
   (rw[a8 R,a8 W,a8 a,a8 z,b6 b];rfl)
  have G:e.op≠1:=X
  have K:∀H,RC 204 [.pv (aL [⟨#[115,112,108,105,116]⟩,e.id,e.node,e.other]),sv ⟨#[32]⟩] (sv ⟨(bZ [32] (bs [⟨#[115,112,108,105,116]⟩,e.id,e.node,e.other])).toArray⟩) H:=λH=>xP [⟨#[115,112,108,105,116]⟩,e.id,e.node,e.other] ⟨#[32]⟩ H E_ r5;have L:T (⟨(bZ [32] (bs [⟨#[115,112,108,105,116]⟩,e.id,e.node,e.other])).toArray⟩:B_)<=70000:=by
   show C (bZ [32] (bs [⟨#[115,112,108,105,116]⟩,e.id,e.node,e.other]))<=_;have:=gD [⟨#[115,112,108,105,116]⟩,e.id,e.node,e.other];simp only[cM,j6,length_nil]at this;omega
  have J:T (⟨#[10]⟩:B_)=1:=rfl;refine Y (kc sD (K _))<|Y kq<|Y aJ<|V aJ<|aC<|Ru ?_;rw[yU G P,show fY e=0 from a8 G];exact Qq
 have b:e.op≠6:=b_ d;rw[a8 b]at I;have y:=dR I;have Q:T (⟨#[106,111,105,110]⟩:B_)=4:=rfl;refine Rd (bD kC)<|Y (bU N_)<|Y (bD kV)<|Y (bU N_)<|Y (aM (([⟨#[106,111,105,110]⟩,e.id,e.other]:List B_).map S_) Z aZ Z Z Z Z Z (jL _))<|V aJ<|Sr<|Dm ?_;have P:bs [⟨#[106,111,105,110]⟩,e.id,e.other]=gU e:=by
  rw[gU]
  (rw[a8 R,a8 W,a8 a,a8 z,a8 b];rfl)
 have G:e.op≠1:=X
 have K:∀H,RC 204 [.pv (aL [⟨#[106,111,105,110]⟩,e.id,e.other]),sv ⟨#[32]⟩] (sv ⟨(bZ [32] (bs [⟨#[106,111,105,110]⟩,e.id,e.other])).toArray⟩) H:=λH=>xP [⟨#[106,111,105,110]⟩,e.id,e.other] ⟨#[32]⟩ H E_ r5;have L:T (⟨(bZ [32] (bs [⟨#[106,111,105,110]⟩,e.id,e.other])).toArray⟩:B_)<=70000:=by
  show C (bZ [32] (bs [⟨#[106,111,105,110]⟩,e.id,e.other]))<=_;have:=gD [⟨#[106,111,105,110]⟩,e.id,e.other];simp only[cM,j6,length_nil]at this;omega
 have J:T (⟨#[10]⟩:B_)=1:=rfl;refine Y (kc sD (K _))<|Y kq<|Y aJ<|V aJ<|aC<|Ru ?_;rw[yU G P,show fY e=0 from a8 G];exact Qq
theorem RL:∀ {l} {acc},(sF acc l).2=0->(∀e∈l,fY e=0)/\sF acc l=(acc++l.flatMap λe=>fV e++[10],0)/\(C acc<=20000->C (sF acc l).1<=20000)
 | [],acc,_=>⟨(λe h=>by cases h),by rw[sF,List.flatMap_nil,List.append_nil],λh=>h⟩
 |e::l,acc,h=>by
  rw[sF]at h |-;by_cases b:fY e≠0\/20000<C (acc++(fV e++[10]))
  .simp_all
  rw[a8 b]at h |-;obtain ⟨B,D,E⟩:=RL h
  simp_all
theorem JH{l}(h:lU l=N):l≠[]/\∀e∈l,gN e=N:=by
 rw[lU,l6]at h
 grind
theorem Sb(w):Lib.trimSuffix (w++[10]) [10]=w:=by rw[Lib.trimSuffix,Lib.hasSuffix];simp
theorem FA{l}(h:(eH l).2=0):iN (eH l).1=(l,0):=by
 have b:lU l=N:=by
  rw[eH]at h
  grind
 have ⟨B,d⟩:=JH b;rw[eH,b6 b]at h;have ⟨c,f,E⟩:=RL h;rw[nil_append]at f;have j:eH l=(a_ (l.flatMap λe=>fV e++[10]),0):=by rw[eH,b6 b,f]
 have D:T (a_ (l.flatMap λe=>fV e++[10]))<=20000:=by rw[cB];simp_all
 have F:(sB (a_ (l.flatMap λe=>fV e++[10])).data.toList).map (λs=>oF (Lib.trimSuffix s [10]))=l:=by
  have g:=H8 (λw i=>by
   obtain ⟨e,a,rfl⟩:=mem_map.1 i;exact(M5 (d e a) (c e a)).2)
  rw[flatMap_map]at g;rw[cJ,g,map_map,map_map];refine(map_congr_left λe a=>?_).trans (map_id l);show oF _=e;rw[Sb];exact(M5 (d e a) (c e a)).1
 rw[j,iN]
 simp_all
end Go.Proofs.C
