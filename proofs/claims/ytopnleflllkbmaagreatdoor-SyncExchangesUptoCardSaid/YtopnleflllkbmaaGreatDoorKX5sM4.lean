/-
  Parts of the proof. Conditions: each theorem's own.
-/
import Derived.Test.YtopnleflllkbmaaGreatDoorKX5sM3
set_option linter.unusedVariables false
set_option linter.unusedSimpArgs false
set_option maxRecDepth 100000
set_option maxHeartbeats 8000000
open List Nat
open List renaming length->C
open Option renaming some->N,none->ζ
open Bool renaming true->A,false->η
open ByteArray renaming size->T,data->μ
open Array renaming toList->ν
open Decidable renaming decide->θ
open Go.IntKind renaming i64->ξ
open Go.Proofs.Tryz renaming prog->φ
open List renaming length_nil->Â,append_assoc->Ã,append_nil->Ä,length_singleton->Å,take_of_length_le->Æ,flatMap_cons->Ç,map_append->È,drop_zero->É,drop_eq_nil_of_le->Ê,take_length->Ë,mem_cons_of_mem->Ì,take_add_one->Í,mem_append->Î,mem_cons_self->Ï,map_cons->Ð,take_append_drop->Ñ,map_map->Ò,nil_append->Ó,drop_eq_getElem_cons->Ô,drop_left->Õ,all_reverse->Ö,flatMap_map->Ø,map_congr_left->Ù,replicate_zero->Ú,flatMap_append->Û,drop_succ_cons->Ü,take_left->Ý,all_eq_true->Þ,any_eq_true->ß,sum_append->à,range_succ->á,headD_cons->â
theorem À{p:Prop}[Decidable p](h:p):decide p=true:=decide_eq_true h
theorem Á{p:Prop}[Decidable p](h:¬p):decide p=false:=decide_eq_false h
open Go.Proofs.YtopnleflllkbmaaGreatDoor
namespace Go.Proofs
open Tryz
theorem wT:type_of% call121:=call121
theorem nV:type_of% isAgg185:=isAgg185
theorem jF:type_of% isAgg189:=isAgg189
theorem nP:type_of% isAgg25:=isAgg25
theorem iB:type_of% isAgg48:=isAgg48
theorem kN:type_of% isAgg49:=isAgg49
theorem oM:type_of% sizeOf185:=sizeOf185
end Go.Proofs
namespace Go.Proofs.C
open Go.Proofs.Tryz
open Go.Abs
abbrev HXJ:B_:=⟨#[48,49,50,51,52,53,54,55,56,57,97,98,99,100,101,102]⟩
theorem Ql{n}(h:n<16):Lib.indexByte (ν (μ HXJ)) (yB n).toNat.toUInt8=n:=by revert n;decide
theorem vu(m){k}(b:k<16):aZ (lO m) k=yB (W2 (It m) k):=by have a:=Ap (FT (It m) k);have e:(lO m).data.toList=CJ (It m):=rfl;rw[aZ,e,CJ,r7,List.getElem?_range b];show ((UInt8.ofNat _).toNat:Int)=_;rw[UInt8.toNat_ofNat',Nat.mod_eq_of_lt X,Int.toNat_of_nonneg a.1]
theorem Rl(m){k}(a:k<16):(dJ m)[k]?=N (W2 (It m) k):=by rw[dJ,r7,getElem?_range a];rfl
theorem aAM(m){k}(a:k<16):(Bj m).getD k 0=W2 (It m) k:=by rw[getD_eq_getElem?_getD,Bj,getElem?_append_left (a),Rl m a];rfl
theorem aDJ(m):(Bj m).getD 16 0=H9 m / 16:=rfl
theorem aDI(m):(Bj m).getD 17 0=H9 m % 16:=rfl
def KQ(m:B_)(k:Nat):Nat:=(((dJ m).take k).map (15 - ·)).sum
theorem rk(m){k}(a:k<16):KQ m (k+1)=KQ m k+(15 - W2 (It m) k):=by rw[KQ,Í,Rl m a,È,à];rfl
theorem Mf(m)(k):KQ m k<=240:=by
 have h:=SE ((dJ m).take k);have B:C ((dJ m).take k)<=16:=by rw[n_,aDK];omega
 rw[KQ];omega
theorem Dy(m):KQ m 16=H9 m:=rfl
def tu(m:B_):Ob:=bx 1 9 [sv m]
theorem Gp(m)(H)(b:H.get 961=ζ):aU φ 171 [sv m] H (λr H'=>r=.clo 225 [.ref 961 0 0 0]/\H'=(961,tu m)::H):=by refine Bd func171 Z ntmps171<|U (tW Z Z Z Z b)<|V aH<|U (iE Z Z)<|V aH<|aC ?_;refine cR (.inr Z) Z (aI Z) Fin.refl ?_;exact Qq
theorem Gq(m:B_)(o:AV)(d:Nat->aF)(G:T m<2^40)(u:∀k,(d k).get 961=N (tu m))
  (p:∀k:Nat,k<18->dQ φ o [iv (k:Int),iv (((Bj m).getD k 0:Nat):Int)] (d k) (λr H'=>r=bv A/\H'=d (k+1))) :
  aU φ 225 [o,.ref 961 0 0 0] (d 0) (λr H'=>r=.tup []/\H'=d 18):=by
 have s:=sJ m;have g:=λH=>xr m H X;have f:=p 16 E_;have j:=p 17 E_;have B:=ir m;rw[aDJ]at f;rw[aDI]at j;refine Bd func225 Z ntmps225<|Sz aH<|U (aX Z N_ Z (u 0) Z Z Z)<|Y (kc call106 (g _))<|V aH<|S<|U aA<|Y (gQ U_)<|V aA<|aD<|bA (σ:=Nat) (λk=>([(0,o),(1,.ref 961 0 0 0),(3,iv (KQ m k:Int)),(4,sv (lO m)),(10,iv 16),(11,iv (k:Int))],d k)) (λk=>k<=16) (λk=>16 - k) 0 (k_ _) ?_ ?_
 .rw[s];exact E0
 intro k F;have c:=λ(h:k<16)=>p k X;refine Sz cH<|S<|Cn ?_ ?_<;>intro i
 .have b:k<16:=I_ i
  have c:=c b;rw[aAM m b]at c;have t:=FT (It m) k;have D:=Mf m k;have E:=rk m b;have e:=λH=>sV HXJ (yB (W2 (It m) k)) H;rw[Ql t]at e;refine aB<|S<|aD<|U aA<|V aH<|U aA<|Y aA<|Y (cL Z U_ Z Z X (l_ _) X (vu m b))<|Y (kc call199 (e _))<|V aH<|U aA<|Y aA<|Y (by exact dT Z Z Z (show ξ.wrap (15 - (W2 (It m) k:Int))=((15 - W2 (It m) k:Nat):Int)by rw[mI X X];omega))<|Y (by exact dD Z Z Z (show ξ.wrap ((KQ m k:Int)+((15 - W2 (It m) k:Nat):Int))=(KQ m (k+1):Int)by rw[mI X X];omega))<|V aH<|U aA<|Y aA<|Y aA<|Y (dL Z Z Z (c))<|V iJ ?_;refine Cn ?_ ?_<;>intro l
  .cases l
  refine aB<|Rd kp<|V aA ?_;exact⟨k+1,X,X,E0⟩
 have n:k=16:=J_ i
 subst n;rw[Dy];refine aP<|U aA<|Y aA<|Y (by exact DL Z Z Z E_ (show ξ.wrap (((H9 m:Nat):Int).tdiv 16)=((H9 m / 16:Nat):Int)by rw[Int.tdiv_eq_ediv_of_nonneg X,mI X X];omega))<|V (dL Z Z Z (f)) ?_;refine Cn ?_ ?_<;>intro q
 .refine Rd aA<|Y aA<|Y (by exact AO Z Z Z E_ (show ((H9 m:Nat):Int).tmod 16=((H9 m % 16:Nat):Int)by rw[Int.tmod_eq_emod_of_nonneg X];omega))<|V (dL Z Z Z (j)) ?_;exact pL (H':=d 18) (.inl Z) Z Fin.refl ⟨Z,Z⟩
 cases q
theorem Vd{a b:Nat}(e:a<2^62)(f:b<2^62):bits .xor .i64 a b=((a ^^^ b)):=by have h:=Nat.xor_lt_two_pow (n:=62) e f;have d:a % 2 ^ IntKind.i64.bits=a:=Nat.mod_eq_of_lt (Nat.lt_of_lt_of_le e E_);have c:b % 2 ^ IntKind.i64.bits=b:=Nat.mod_eq_of_lt (Nat.lt_of_lt_of_le f E_);simp[bits,BitVec.ofInt_natCast,BitVec.toNat_xor,BitVec.toNat_ofNat,d,c];rw[mI X X]
theorem aAO{p}[Decidable p](h:¬ p):AV.pv (.bool (θ p))=bv η:=F_
def Dt(s:B_)(i:Nat)(m:B_)(k:Nat):List B_:=(List.range k).map λk=>MO (oY s i k) ((Bj m).getD k 0)
theorem Lk(s)(i)(m)(k):Dt s i m (k+1)=Dt s i m k++[MO (oY s i k) ((Bj m).getD k 0)]:=by rw[Dt,á,È];rfl
theorem Wn(s)(i)(m)(k):C (Dt s i m k)=k:=by simp[Dt]
theorem cQ.eqJ{P}{i_}{o}{E}{H H2}{v a}(h:cQ P i_ o E H v H2)(e:v=a):cQ P i_ o E H a H2:=e▸h
def sgE:dG:=[(4,.ref 4 0 0 0),(6,.ref 6 0 0 0),(10,.ref 10 0 0 0)]
def sgT(s:B_)(i:Nat):aF:=[(8,bx 3 48 [iv 0,.pv (.sl []),.pv (.sl [])]),(6,bx 1 3 [iv (i:Int)]),(4,bx 1 9 [sv s])]
def sgK(s:B_)(i:Nat)(m:B_)(L:List B_):aF:=[(905,⟨C L,1,9,bP L⟩),(10,bx 3 48 [iv (i:Int),.osl 905 (C L) 0 (C L),.pv .nils]),(961,tu m),(8,bx 3 48 [iv 0,.pv (.sl []),.pv (.sl [])]),(6,bx 1 3 [iv (i:Int)]),(4,bx 1 9 [sv s])]
theorem Wo(s)(i)(m)(L)(x):sgK s i m (L++[x])=[(905,⟨C L+1,1,9,bP (L++[x])⟩),(10,bx 3 48 [iv i,.osl 905 (C L+1) 0 (C L+1),.pv .nils]),(961,tu m),(8,bx 3 48 [iv 0,.pv (.sl []),.pv (.sl [])]),(6,bx 1 3 [iv i]),(4,bx 1 9 [sv s])]:=by simp[sgK]
theorem T9(H)(m):∀r∈(tu m).rows,∀a∈r,Clo H a:=by intro r c a b;simp[tu,bx,q9]at c;subst c;rw[q9]at b;subst b;simp
instance(H)(m):W_ (H) ((tu m).rows):=⟨T9 H m⟩
theorem u0{p:Prop}(h:p:=by simp only[Zl,S_];rfl):p:=h
theorem y0{p:Prop}(h:p:=by simp only[j6,Â];omega):p:=h
theorem Wj(s m:B_)(h i:Nat)(H:aF)(hs:T s<2^40)(hm:T m<2^40)(K:h<=8)(hi:i<2 ^ h):
  RC 119 [sv s,iv (h:Int),iv (i:Int),sv m] (.tup [.agg [iv (i:Int),.pv (aK (qx s i m)),.pv (aK (xM h (xO s h) i))],iv 0]) H:=by
 refine Pu ?_;have f:=G3 K;have z:=aBm K;have hkeys:=λH=>Zn s h H hs K;have A_:=YV s h;have n:∀L,L=xM h (xO s h) i->True:=λ_ _=>trivial;refine Bd func119 Z ntmps119<|U (kb 4)<|Y (kb 6)<|Y (kl 8 fy)<|V aH<|S<|S<|aN a7<|Cq aA<|Cq (cQ.eqJ (iL Z Z Z) (aAO X))<|Cq aA<|Nf aA<|Nf (cQ.eqJ (LF Z Z Z) (aAO X))<|Cq cE<|Cq aA<|Nf (bT M_)<|Nf (cQ.eqJ (iL Z Z Z) (aAO X))<|Cq cE<|Cq aA<|Nf (bT M_)<|Nf aA<|Nf (by exact RB Z Z Z X (by simp[IntKind.bits];omega) z)<|Nf (cQ.eqJ (kC Z Z Z) (aAO X))<|Cq cE<|bF<|Kr ?_;refine Cn ?_ ?_<;>intro u_
 .cases u_
 refine aB<|U (bT M_)<|Y (oU aF0)<|Y (kl 10 fy)<|Uu (jH sizeOf48)<|Zz<|S<|U aA<|V (kc call171 (Gp m _ Z))<|aD ?_;refine gK.ent (E':=[(1,iv (h:Int)),(4,.ref 4 0 0 0),(6,.ref 6 0 0 0),(8,.ref 8 0 0 0),(10,.ref 10 0 0 0),(35,.clo 225 [.ref 961 0 0 0])]) (H':=sgK s i m []) ?_ ?_
 .exact (Q_ 905 1 9)
 refine vz (id:=904) (p:=36) (p2:=37) sgE Z call225 Z Z (by simp[sgE];exact⟨Z,Z,Z⟩) ?_;intro x P F τ σ W J3;refine(Gq m (.yld 904 0) (λk=>(904,LR x sgE)::sgK s i m (Dt s i m k)) hm (λk=>rfl) ?_).mono ?_
 .intro k hk;have hd:=aDH m _ (Gd (d:=0) (by rw[aAN];exact hk));have e_:=λH=>xw s i k H hs X X;have ρ:=Wn s i m k;have D:=Lk s i m k;have c_:=λH=>Bn (oY s i k) ((Bj m).getD k 0) H (by rw[FC];decide) X;generalize (Bj m).getD k 0=d at hd D c_ |-;refine .inl ⟨904,0,Z,?_⟩;refine Vc [(4,.ref 4 0 0 0),(6,.ref 6 0 0 0),(10,.ref 10 0 0 0),(11,iv (k:Int)),(12,iv (d:Int))] (sgK s i m (Dt s i m k)) P F τ σ W J3 Z Z Z Z Z ?_ ?_
  .refine Sz aH<|Rg<|Da ?_;exact(cJ.wk (Ea<|Ea<|Ea<|Eb<|Eb<|T_) (Hc (oN (by intro p f;simp only[sgE,l9,q8,or_false]at f;rcases f with rfl|rfl|rfl<;>(simp only[D8];rfl)))<|Hc (aL _ _)<|Ha<|Hc (T9 _ _)<|Hb<|Hb<|Hb<|T_) ⟨Z,Z,Z,Z,Z,Z,Z,T_⟩)
  rw[D,Wo];refine aD<|aN a7<|Cr [10] (λ_ h=>fh xG h)<|Cr [10] (λ_ h=>lh aG h)<|Cr [4] (λ_ h=>lh N_ h)<|Cr [6] (λ_ h=>lh M_ h)<|x_ aA<|x_ (by exact bH Z Z call173 Z (e_ _))<|x_ aA<|x_ (by exact bH Z Z call172 Z (c_ _))<|x_ (by exact aM [[.str (MO (oY s i k) d)]] Z aY Z Z Z Z Z F_)<|Cp [905] (λn c=>by exact bU (ps:=[[.str (MO (oY s i k) d)]]) Z aY sX Z ((c _ Z).trans Z) Z Z Z (dB _) Z F_ (m:=1) Z X Z (gP (Dt s i m k) (MO (oY s i k) d)))<|Cr [10] (λ_ h=>fh xG h)<|Cp [10] (λn c=>by exact cM Z sizeOf22 Z Z Z ((c _ Z).trans Z) Z Z F_ u0 u0) ?_;refine bF<|Kr ?_;exact⟨[(905,⟨C (Dt s i m k)+1,1,9,bP (Dt s i m k++[MO (oY s i k) d])⟩),(10,bx 3 48 [iv (i:Int),.osl 905 (C (Dt s i m k)+1) 0 (C (Dt s i m k)+1),.pv .nils]),(961,tu m),(8,bx 3 48 [iv 0,.pv (.sl []),.pv (.sl [])]),(6,bx 1 3 [iv (i:Int)]),(4,bx 1 9 [sv s])],(cJ.wk T_ (Hc (oN (by intro p f;simp only[sgE,l9,q8,or_false]at f;rcases f with rfl|rfl|rfl<;>(simp only[D8];rfl)))<|Hc (aL _ _)<|Ha<|Hc (T9 _ _)<|Hb<|Hb<|Hb<|T_) ⟨Z,Z,Z,Z,Z,Z,Z,T_⟩),Z,Z⟩
 rintro r H' ⟨rfl,rfl⟩;refine⟨x,_,Z,F_,Z,λz=>?_⟩;rw[F,show Dt s i m 18=qx s i m from rfl];have ⟨f_,hS⟩:∃f_,f_=qx s i m:=X_;rw[<-hS];have J:C (f_.map S_)=C f_:=g_ _;refine gK.ent (cJ.fzG (id:=905) (E':=[(1,iv (h:Int)),(4,.ref 4 0 0 0),(6,.ref 6 0 0 0),(8,.ref 8 0 0 0),(10,.ref 10 0 0 0)]) (H':=(10,bx 3 48 [iv (i:Int),.pv (aK f_),.pv .nils])::sgT s i) (f_.map S_) Z (cX _) ?_ Z ?_ ?_) ?_
 .intro p f;simp only[l9,q8,or_false]at f;rcases f with rfl|rfl|rfl|rfl|rfl
  .exact⟨_,Z,.same H_⟩
  .exact⟨_,Z,.same u3⟩
  .exact⟨_,Z,.same u3⟩
  .exact⟨_,Z,.same u3⟩
  exact⟨_,Z,.same u3⟩
 .refine⟨⟨_,Z,Z,Z,Z,kY Z (bG (.same H_) (bG (.osl ?_) (bG (.same H_) jV)))⟩,⟨_,Z,Z,Z,Z,dF H_⟩,⟨_,Z,Z,Z,Z,dF H_⟩,⟨_,Z,Z,Z,Z,dF H_⟩,T_⟩;rw[r8,É,<-J,Ë]
 .exact T_
 refine S<|S<|aN a7<|Cq (bT N_)<|Cq aA<|Cq (kc call174 (hkeys _))<|Cq (bT M_)<|Cq aH<|Cq aH<|bF<|Kr<|aD ?_;refine gK.ent (E':=[(8,.ref 8 0 0 0),(10,.ref 10 0 0 0),(13,.pv (aK (xO s h))),(14,iv (i:Int))]) (H':=(906,⟨0,1,9,[]⟩)::(10,bx 3 48 [iv (i:Int),.pv (aK f_),.osl 906 0 0 0])::sgT s i) ?_ ?_
 .exact (Q_ 906 1 9)
 refine ZR (λ(j:Nat) (l:List B_) (q:Nat) (I:List B_)=>([(8,.ref 8 0 0 0),(10,.ref 10 0 0 0),(13,.pv (aK l)),(14,iv (q:Int))],[(906,⟨C I,1,9,bP I⟩),(10,bx 3 48 [iv (i:Int),.pv (aK f_),.osl 906 (C I) 0 (C I)]),(8,bx 3 48 [iv 0,.pv (.sl []),.pv (.sl [])]),(6,bx 1 3 [iv (i:Int)]),(4,bx 1 9 [sv s])]))
  (λj l q I=>C l=2 ^ j/\q<2 ^ j/\I++xM j l q=xM h (xO s h) i/\(∀t∈l,T t=16)/\j<=8/\C I+j<=8) (λj l q I=>j) h (xO s h) i [] ⟨A_,hi,Z,λt o_=>fR (YW s h t o_),K,by rw[Â];omega⟩ ?_ ?_
 .exact L_
 rintro j l q I ⟨hl,hq,o,hz,hj,hA⟩;have δ:C (l.map S_)=C l:=g_ _;have γ:=G3 hj;refine S<|U aA<|Y (fP aE)<|V jB<|Cn ?_ ?_<;>intro v
 .have E:1<C l:=I_ v
  obtain ⟨u,rfl⟩:∃u,j=u+1:=by
   cases j with
   |zero=>rw[hl]at E;exact absurd E E_
   |succ u=>exact⟨u,Z⟩
  have G:C l=2*2 ^ u:=by rw[hl,Nat.pow_succ,Nat.mul_comm]
  have β:=G3 (h:=u) X;have Q:q / 2<2 ^ u:=by rw[Nat.pow_succ]at hq;omega
  have hx:=xb q;have d_:q ^^^ 1<C l:=by
   rw[hx]
   split<;>omega
  have g:(l.map S_)[q ^^^ 1]?=N (S_ (l.getD (q ^^^ 1) a6)):=by
   rw[r7,getD_eq_getElem?_getD,m_ d_];rfl
  have w:(I++[l.getD (q ^^^ 1) a6])++xM u (xk l) (q / 2)=xM h (xO s h) i:=by
   rw[<-o,Ã];rfl
  have B:=Vd (a:=q) (b:=1) X E_;generalize l.getD (q ^^^ 1) a6=e at g w;generalize q ^^^ 1=y at g B d_;have z_:C (I++[e])=C I+1:=by rw[j7];rfl
  refine aB<|S<|aD<|aN a7<|Cr [10] (λ_ h=>fh xF h)<|Cr [10] (λ_ h=>lh aG h)<|x_ aA<|x_ aA<|x_ (by exact qA Z H_ Z Z B)<|x_ (by exact bQ Z aY Z Z X (l_ _) g Z)<|x_ ((fK N_ (hi:=g)))<|x_ (by exact aM [[.str e]] Z aY Z Z Z Z Z R_)<|Cp [906] (λn c=>by exact bU (ps:=[[.str e]]) Z aY sX Z ((c _ Z).trans Z) Z Z Z (dB _) Z R_ (m:=1) Z X Z (gP I e))<|Cr [10] (λ_ h=>fh xF h)<|Cp [10] (λn c=>by exact cM Z sizeOf22 Z Z Z ((c _ Z).trans Z) Z Z y0 u0 u0) ?_;refine bF<|Kr<|Rd aA<|Y (kc call175 (aAa l (2 ^ u) _ G X hz))<|Y aA<|Y (by exact DL Z Z Z E_ (show ξ.wrap ((q:Int).tdiv 2)=((q / 2:Nat):Int)by rw[Int.tdiv_eq_ediv_of_nonneg X,mI X X];omega))<|Y aH<|Da ?_;refine⟨u,xk l,q / 2,I++[e],⟨QE _ _ G,Q,w,λt o_=>fR (Z7 _ _ (h_ _) t o_),X,X⟩,X,?_⟩;dsimp only;rw[z_];exact L_
 have κ:C l<=1:=J_ v
 have i_:j=0:=by
  cases j with
  |zero=>rfl
  |succ u =>
   have:2 ^ (u+1)=2*2 ^ u:=by rw[Nat.pow_succ,Nat.mul_comm]
   have:0<2 ^ u:=Nat.two_pow_pos u;omega
 subst i_;have R:I=xM h (xO s h) i:=by rw[<-o,xM,Ä]
 have y_:C (I.map S_)=C I:=g_ _;rw[<-R];refine aP<|S ?_;refine gK.ent (cJ.fzG (id:=906) (E':=[(8,.ref 8 0 0 0),(10,.ref 10 0 0 0)]) (H':=(10,bx 3 48 [iv (i:Int),.pv (aK f_),.pv (aK I)])::sgT s i) (I.map S_) Z (cX _) ?_ Z ?_ ?_) ?_
 .intro p f;simp only[l9,q8,or_false]at f;rcases f with rfl|rfl
  .exact⟨_,Z,.same u3⟩
  exact⟨_,Z,.same u3⟩
 .refine⟨⟨_,Z,Z,Z,Z,kY Z (bG (.same H_) (bG (.same H_) (bG (.osl ?_) jV)))⟩,⟨_,Z,Z,Z,Z,dF H_⟩,⟨_,Z,Z,Z,Z,dF H_⟩,⟨_,Z,Z,Z,Z,dF H_⟩,T_⟩;rw[r8,É,<-y_,Ë]
 .exact T_
 refine Rd (by exact aW Z iB sizeOf48 Z Z Z Z u0 Z)<|Uu (jH sizeOf48)<|V aH<|aC ?_;refine gH (H':=[]) (.inr Z) Z (fJ Z iB sizeOf48 Z Z Z u0 Z) (aI Z) P_ ?_;exact Qq
end Go.Proofs.C
namespace Go.Abs
open Go.RowKit
theorem Rel.below{I}{ι}{H}{w w'}(d:Below w.heap.size w w')(f:Rel I ι H w):Rel I ι H w'/\Step I ι H w I ι H w':=by
 have g:=d.block;have e:Step I ι H w I ι H w':=by
  refine⟨d.os,d.tape,d.output,d.size,λa ha _=>?_,λ_ h=>h,λ_ h=>.inl h,λ_ h=>.inl h,λb d _=>g b d,λ_ o h=>⟨o,h,h_ _,λ_=>⟨Z,Z,λ_=>h_ _⟩⟩⟩;unfold World.frozen?
  simp_all
 refine⟨⟨λb h=>?_,λj o k=>?_,f.inj,e.glob f⟩,e⟩
 ·have:=f.imm b h;have:=d.size;omega
 exact(f.obj j o k).keep Z (λb c _ d=>⟨g b d,λh=>h⟩) (λr _ a _ v i=>i.mono f e)
end Go.Abs
namespace Go.Abs
open Go.Proofs
def aFO(v:Value):Prop:=∃t p,v=.iface t p
abbrev Gl:PV:=.sat aFO
def qT(s:B_):Int×PV:=match Lib.atoiAll (ν (μ s)) with
 |.ok v=>(v,N0)
 |.range=>(Lib.atoiSat (ν (μ s)),Gl)
 |_=>(0,Gl)
theorem atoi_c{P:Program}{ρ:Shelf.Ren}(L:LaysC.n172 P ρ){G1 G2:Nat}(B:(G1,GV.face)∈mh)(k:P.globalNamed "strconv.ErrSyntax" = N G1)(F:(G2,GV.face)∈mh)(e_:P.globalNamed "strconv.ErrRange" = N G2)(s:B_)(hs:T s<2^40)(H:aF):
  aU P (ρ.f 172) [.pv (.str s)] H (λr H'=>r=.tup [.pv (.int .i64 (qT s).1),.pv (qT s).2]/\H'=H):=by
 intro I D w R Q K f_;obtain ⟨v,rfl⟩:∃v,R=#[v]:=by
  match R,K with
  |⟨[v]⟩,_=>exact⟨v,Z⟩
 have z:=(f_ 0 v _ Z Z).str_inv;subst z;have j:∀(g:String) (G:Nat),(G,GV.face)∈mh->P.globalNamed g=N G->∃t p,w.var? P g=N #[.iface t p]:=λg G A_ z_=>by
  have ⟨_,cs,t,f,l,q,p,v_⟩:=Q.glob _ A_;subst v_;exact⟨q,p,by simp only[World.var?,z_,Option.bind_some,l]⟩
 have m:∀(n:Int) (x:Value) (a:PV) (d:World),RowKit.Below w.heap.size w d->(∀I H,VRel d I D H x (.pv a))->∃r H' E o c,(Ending.returned (.tuple #[.int .i64 n,x]))=.returned c/\(r=.tup [.pv (.int .i64 n),.pv a]/\H'=H)/\VRel d E o H' c r/\Rel E o H' d/\Step I D H w E o H' d:=λn x a d u u_=>by
  have ⟨y_,W⟩:=Rel.below u Q;refine⟨_,_,I,D,_,Z,⟨Z,Z⟩,.tup Z λi v b y l=>?_,y_,W⟩
  match i,y,l with
  |0,y,l=>cases y;cases l;exact .pv (.int _ _)
  |1,y,l=>cases y;cases l;exact u_ _ _
  |i+2,y,l=>simp at y
 rw[qT];cases h:Lib.atoiAll (ν (μ s)) with
 | ok n =>
  refine(Any.strconv_Atoi_ok L s X n h w).mono ?_;rintro e d ⟨rfl,J3⟩;have u:RowKit.Below w.heap.size w d:=by
   rcases J3 with rfl|⟨t,rfl⟩
   .exact RowKit.Below.refl _ _
   exact Lib.bytesWorld_below w _ t
  exact m n .nilIface N0 d u (λ_ _=>.pv (.sat Z Z))
 |range =>
  have ⟨t,p,J⟩:=j _ G2 F e_;refine(Any.strconv_Atoi_range_var L s X h t p w J).mono ?_;rintro e d ⟨i_,rfl,_,_,u⟩;exact m _ _ Gl d u (λ_ _=>.pv (.sat Z ⟨_,_,Z⟩))
 |_ =>
  have ⟨t,p,J⟩:=j _ G1 B k;refine(Any.strconv_Atoi_syntax_var L s X h t p w J).mono ?_;rintro e d ⟨i_,rfl,_,_,u⟩;exact m 0 _ Gl d u (λ_ _=>.pv (.sat Z ⟨_,_,Z⟩))
theorem qf{P}{ρ}(L:Lays.n160 P ρ)(d:(P.info? (ρ.t 116)).map (λi=>(i.zero,i.size))=some (some (.agg (Array.replicate 256 (.bool false))),256))(s c)(o:s.size<=9223372036854775807)(g:c.size<4294967281)
  (p:∀(j:Nat) b,c.data.toList[j]?=N b->b.toNat<128) (H) :
  aU P (ρ.f 160) [.pv (.str s),.pv (.str c)] H (λr H'=>r=.pv (.str ⟨(Lib.trimS (ν (μ s)) (ν (μ c))).toArray⟩)/\H'=H):=by
 intro I q w h m f k;obtain ⟨v,u,rfl⟩:∃v u,h=#[v,u]:=by
  match h,f with
  |⟨[v,u]⟩,_=>exact⟨v,u,Z⟩
 have x:=(k 0 v _ Z Z).str_inv;have n:=(k 1 u _ Z Z).str_inv;subst x n;refine(Any.strings_Trim_laid L d s c w o g p).mono ?_;rintro e w' ⟨rfl,y⟩;have ⟨t,l⟩:=Rel.below y m;exact⟨_,_,I,q,_,Z,⟨Z,Z⟩,.pv (.str _),t,l⟩
end Go.Abs
section
namespace Go.Proofs
open Go.RowKit Go.Sort Go.Shelf
def aHg:Go.Shelf.Ren:=⟨λ|160=>74|232=>123|231=>122|227=>124|234=>126|233=>125|236=>128|235=>127|228=>176|271=>179|151=>178|197=>177|120=>232|152=>231|260=>230|137=>199|119=>267|224=>268|225=>269|217=>250|266=>279|n=>n,λ|9=>9|4=>4|3=>3|5=>5|117=>150|116=>149|0=>0|124=>153|21=>21|105=>202|46=>157|119=>223|139=>279|138=>278|n=>n,λ|3=>0|4=>1|n=>n⟩
theorem aHm:Go.Proofs.Lays.n160 φ aHg:={
  mixed:=by rfl
  f119:=Tryz.func267.trans C_
  f120:=Tryz.func232.trans C_
  f137:=Tryz.func199.trans C_
  f151:=Tryz.func178.trans C_
  f152:=Tryz.func231.trans C_
  f160:=Tryz.func74.trans C_
  f197:=Tryz.func177.trans C_
  f217:=Tryz.func250.trans C_
  f224:=Tryz.func268.trans C_
  f225:=Tryz.func269.trans C_
  f227:=Tryz.func124.trans C_
  f228:=Tryz.func176.trans C_
  f231:=Tryz.func122.trans C_
  f232:=Tryz.func123.trans C_
  f233:=Tryz.func125.trans C_
  f234:=Tryz.func126.trans C_
  f235:=Tryz.func127.trans C_
  f236:=Tryz.func128.trans C_
  f260:=Tryz.func230.trans C_
  f266:=Tryz.func279.trans C_
  f271:=Tryz.func179.trans C_
  t0:=EH
  a0:=Tryz.isAgg0
  z0:=Tryz.sizeOf0
  v0:=Tryz.zeroValue0
  t3:=Tryz.underlying3
  a3:=Tryz.isAgg3
  z3:=Tryz.sizeOf3
  v3:=tH
  t4:=fO
  a4:=nU
  z4:=Tryz.sizeOf4
  v4:=jG
  t5:=dI
  a5:=vP
  z5:=cO
  v5:=tG
  t9:=Tryz.underlying9
  a9:=Tryz.isAgg9
  z9:=Tryz.sizeOf9
  v9:=gY
  t21:=Tryz.underlying21
  a21:=Tryz.isAgg21
  z21:=Tryz.sizeOf21
  v21:=Tryz.zeroValue21
  t46:=lP
  a46:=Tryz.isAgg157
  z46:=BL
  v46:=uI
  t105:=Tryz.underlying202
  a105:=Tryz.isAgg202
  z105:=Tryz.sizeOf202
  v105:=Tryz.zeroValue202
  t116:=Tryz.underlying149
  a116:=Tryz.isAgg149
  z116:=Tryz.sizeOf149
  t117:=Tryz.underlying150
  a117:=Tryz.isAgg150
  z117:=Tryz.sizeOf150
  v117:=Tryz.zeroValue150
  t119:=gU
  a119:=Tryz.isAgg223
  z119:=BK
  t124:=Tryz.underlying153
  a124:=Tryz.isAgg153
  z124:=Tryz.sizeOf153
  v124:=Tryz.zeroValue153
  t138:=Tryz.underlying278
  a138:=Tryz.isAgg278
  z138:=Tryz.sizeOf278
  v138:=Tryz.zeroValue278
  t139:=Tryz.underlying279
  a139:=Tryz.isAgg279
  z139:=Tryz.sizeOf279
  v139:=Tryz.zeroValue279
  g3:=by kernel_rfl
  g4:=by kernel_rfl}
end Go.Proofs
namespace Go.Proofs.C
open Go.Proofs.Tryz
open Go.Abs
abbrev Bz:B_:=⟨#[48,49,50,51,52,53,54,55,56,57,97,98,99,100,101,102]⟩
theorem aCq(b):Bz.data.toList.contains b=tE b:=by
 have h:∀n:Fin 256,Bz.data.toList.contains (UInt8.ofNat n.1)=tE (UInt8.ofNat n.1):=by decide +kernel
 have:=h ⟨b.toNat,b.toNat_lt⟩
 simpa using this
theorem BG{α:Type}(p):∀l:List α,l.dropWhile p=[]↔l.all p=A
 | []=>by simp
 |a::r=>by
  rw[List.dropWhile_cons,List.all_cons];cases h:p a with
  |true=>exact BG p r
  |false=>simp_all
theorem IN{α:Type}{p q}:∀ {l:List α},(l.dropWhile p).all q=A->(∀a,p a=A->q a=A)->l.all q=A
 | [],_,_=>rfl
 | a::r,h,b=>by
  rw[List.dropWhile_cons]at h;cases c:p a with
  |true =>
   rw[c]at h;rw[List.all_cons,b a c];exact IN h b
  |false =>
   simp_all
theorem gu(l):Lib.trimS l (ν (μ Bz))=[]↔l.all tE=A:=by
 have e:=funext aCq;unfold Lib.trimS Lib.trimLeftS Lib.trimRightS;rw[e,BG];constructor
 .intro h;rw[Ö]at h;have c:=IN h (λa d=>d)
  rwa [Ö]at c
 intro h;have c:=(BG _ _).2 (by rw[Ö];exact h);rw[c];rfl
theorem xl(s)(hs:s.size<2^40)(H):RC 74 [sv s,sv Bz] (sv ⟨(Lib.trimS s.data.toList Bz.data.toList).toArray⟩) H :=qf aHm (Z) s _ X E_ (ascii_of_all (Z)) H
theorem Y1(s)(c:T s<2^40)(H):RC 30 [sv s] (bv (m6 s)) H:=by
 refine Pu ?_;have b:=λH=>xl s c H;have f:=gu (ν (μ s));generalize Lib.trimS (ν (μ s)) (ν (μ Bz))=t at b f;have B:m6 s=(θ ((T s:Int)=16)&&θ ((⟨t.toArray⟩)=a6)):=by
  rw[m6]
  grind
 refine Bd func30 Z ntmps30<|Sz aH<|S<|aT (t:=2) (n:=10) (A_:=m6 s) ?_ ?_
 .all_goals refine Y aA<|Y (gQ U_)<|Y cI<|Dm ?_<;>(refine Sp 6 (λe=>?_) λe=>?_)<;>(first|refine M<|M<|M ?_|refine O aA<|O (bH Z Z call74 Z (b _))<|O wV ?_)<;>refine Y cE<|Da ?_<;>exact Gj (h:=by simp_all)
 exact aC<|Rt<|Qq
end Go.Proofs.C
end
namespace Go.Proofs.C
open Go.Proofs.Tryz
open Go.Abs
def oddJ(t:B_):Bool:=!m6 t
theorem Hn(l:List B_)(q):((List.range (C l)).any λk=>match l[k]? with|some s=>q s|none=>η)=l.any q:=by
 rw[Bool.eq_iff_iff,ß,ß];constructor
 .grind
 rintro⟨s,a,h⟩;have ⟨k,B⟩:=s8.1 a
 grind
theorem RV(l:List _):l.any oddJ=!l.all m6:=by
 induction l with
 |nil=>rfl
 |cons a r b=>rw[any_cons,all_cons,b,oddJ,Bool.not_and]
end Go.Proofs.C
namespace Go.Abs
open Go.Proofs
section
section
variable{P:Program}{i_:Nat}{o:Oper}{E:dG}{H:aF}{t t':TypeId}{x:Operand}
theorem TT(e:o.op=.binOp .neq t x (.const .nilIface) t')(d:P.underlying t=N (.interface (P.methodsAt t)))(f:aR E x=N (.pv N0)):cQ P i_ o E H (.pv (.bool η)) H :=.of_run λa w I ι _ b=>⟨.bool _,by
  have c:=(aJ b f).sat_inv;have g:a.eval (.const _)=.nilIface:=rfl;simp[execOp,e,c,g,eqGuard,Sem.run_bind,Sem.run_pure,Result.andThen_ok,run_neq_nil_nil _ _ d,Bool.or_true,if_true,Bool.not_true,Bool.false_eq_true,if_false],.pv (.bool _)⟩
theorem JA(e:o.op=.binOp .neq t x (.const .nilIface) t')(d:P.underlying t=N (.interface (P.methodsAt t)))(f:aR E x=N (.pv Gl)):cQ P i_ o E H (.pv (.bool A)) H :=.of_run λa w I ι _ b=>⟨.bool _,by
  have ⟨q,p,c⟩:=(aJ b f).sat_inv;have g:a.eval (.const _)=.nilIface:=rfl;simp only[execOp,e,c,g,eqGuard,Sem.run_bind,Sem.run_pure,Result.andThen_ok,run_neq_held_nil _ _ _ _ d];rfl,.pv (.bool _)⟩
end
end
section
section
variable{P:Program}{i_:Nat}{o:Oper}{E:dG}{H:aF}{t t' it:TypeId}{x:Operand}
theorem VRel.ifc_inv{w}{I}{ι}{v}{p}(h:VRel w I ι H v (.pv (.ifc t p))):∃u,v=.iface t u/\PRep w I u p:=by
 cases h with
 |pv h=>cases h with
  |ifc _ u _ h=>simp_all
theorem VRel.ifa_inv{w}{I}{ι}{v}{ps}(h:VRel w I ι H v (.pv (.ifa t ps))):∃cs,v=.iface t (.agg cs)/\cs.size=C ps/\∀(k:Nat) (c) (p),cs[k]?=N c->ps[k]?=N p->PRep w I c p:=by
 cases h with
 |pv h=>cases h with
  |ifa _ cs _ B h=>grind
theorem gR{p}(b:o.op=.makeInterface t x)(e:P.concrete t=A)(c:aR E x=N (.pv p)):cQ P i_ o E H (.pv (.ifc t p)) H :=.of_run λa w I ι _ d=>⟨.iface t _,by simp[execOp,b,run_makeInterface _ _ _ e],.pv (.ifc _ _ _ (aJ d c).pv_inv)⟩
theorem LC{ps}(f:o.op=.makeInterface t x)(e:P.concrete t=A)(g:aR E x=N (.agg (ps.map .pv))):cQ P i_ o E H (.pv (.ifa t ps)) H :=.of_run λa w I ι _ i=>⟨.iface t (a.eval x),by simp[execOp,f,run_makeInterface _ _ _ e],by
  have h:=aJ i g;generalize a.eval x=c at h;cases h with
  | @agg vs _ hl h1 d =>
   refine .pv (.ifa _ _ _ F_ λk c p b B=>?_);exact(d k c (.pv p) b F_).pv_inv⟩
theorem re{d}{u}(w)(B:P.underlying t=N d)(D:∀c,d≠.interface c):(Instr.typeAssert (.iface t' u) it t A).run P w=if t'=t then .ok (.tuple #[u,.bool A]) w else((do pure (.tuple #[<-zeroValue t,.bool η])):Sem _).run P w:=by
 unfold Instr.typeAssert;rw[Sem.run_bind,run_underlying B]
 simp_all
theorem GC(h:P.concrete t=A):∃d,P.underlying t=N d/\∀a,d≠.interface a:=by
 unfold Program.concrete at h;cases B:P.underlying t with
 |none=>simp_all
 |some d =>
  grind
theorem yU{p}(h:o.op=.typeAssert x it t A)(j:P.concrete t=A)(k:aR E x=N (.pv (.ifc t p))):cQ P i_ o E H (.tup [.pv p,.pv (.bool A)]) H:=by
 have ⟨d,m,b⟩:=GC j;refine .of_run λa w I ι _ l=>?_;have ⟨u,f,g⟩:=(aJ l k).ifc_inv;refine⟨.tuple #[u,.bool A],?_,?_⟩
 .simp only[execOp,h,f];rw[Sem.run_bind,re w m b,b6 rfl];rfl
 exact .tup Z (λi v a e c=>by
  match i with
  |0=>cases e;cases c;exact .pv g
  |1=>cases e;cases c;exact .pv (.bool _)
  |i+2=>simp at c)
theorem TR{ps:List PV}(B:o.op=.typeAssert x it t A)(z:P.concrete t=A)(y:aR E x=N (.pv (.ifa t ps))):cQ P i_ o E H (.tup [.agg (ps.map .pv),.pv (.bool A)]) H:=by
 have ⟨d,s,j⟩:=GC z;refine .of_run λa w I ι _ F=>?_;have ⟨u,r,G,D⟩:=(aJ F y).ifa_inv;refine⟨.tuple #[.agg u,.bool A],?_,?_⟩
 .simp only[execOp,B,r];rw[Sem.run_bind,re w s j,b6 rfl];rfl
 have n:∀(k:Nat) (c:Value),u[k]?=N c->∃p,ps[k]?=N p/\PRep w I c p:=λk c e=>by
  have f:k<C ps:=G_
  exact⟨ps[k],m_ f,D k c _ e (m_ f)⟩
 exact .tup Z (λi v a m h=>by
  match i with
  |0 =>
   cases m;cases h;refine .agg F_ (λk c e=>?_) (λk c b e q=>?_)
   .have ⟨p,_,g⟩:=n k c e;exact g.oneCell
   have ⟨p,l,g⟩:=n k c e;rw[r7,l]at q;cases q;exact .pv g
  |1=>cases m;cases h;exact .pv (.bool _)
  |i+2=>simp at h)
theorem aAr{cells}(l:o.op=.typeAssert x it t A)(h:P.concrete t=A)(j:eW P t cells)(b:t'≠t)
  (m:∀(a) (w) (I) (ι),lY w I ι H E a->∃u,a.eval x=.iface t' u):cQ P i_ o E H (.tup [.any,.pv (.bool η)]) H:=by
 have ⟨d,p,e⟩:=GC h;have ⟨z,v0,f,_,_⟩:=j;refine .of_run λa w I ι _ n=>?_;have ⟨u,k⟩:=m a w I _ n;refine⟨.tuple #[z,.bool η],?_,?_⟩
 .simp only[execOp,l,k];rw[Sem.run_bind,re w p e,a8 b,Sem.run_bind,f w];rfl
 exact .tup Z (λi v a g c=>by
  match i with
  |0=>cases c;exact .any _
  |1=>cases g;cases c;exact .pv (.bool _)
  |i+2=>simp at c)
theorem nJ{cells}{p}(f:o.op=.typeAssert x it t A)(c:P.concrete t=A)(d:eW P t cells)(B:Nat.beq t' t=η)(g:aR E x=N (.pv (.ifc t' p))):cQ P i_ o E H (.tup [.any,.pv (.bool η)]) H :=aAr f c d (λe=>by simp_all) (λa w I ι b=>let ⟨u,e,_⟩:=(aJ b g).ifc_inv;⟨u,e⟩)
theorem DK{cells}{ps}(f:o.op=.typeAssert x it t A)(c:P.concrete t=A)(d:eW P t cells)(B:Nat.beq t' t=η)(g:aR E x=N (.pv (.ifa t' ps))):cQ P i_ o E H (.tup [.any,.pv (.bool η)]) H :=aAr f c d (λe=>by simp_all) (λa w I ι b=>let ⟨u,e,_⟩:=(aJ b g).ifa_inv;⟨_,e⟩)
end
end
section
section
variable{P:Program}{i_:Nat}{o:Oper}{E:dG}{H:aF}{J3 T' t:TypeId}{x y:Operand}
theorem NG{e f:TypeId}{ty:TypeId}{a:Array Value}(w:World)(d:P.underlying J3=N (.slice e))(c:P.underlying T'=N (.slice f)):(Builtin.append_ #[J3,T'] ty a).run P w=(Builtin.append_ #[J3,J3] ty a).run P w:=by
 unfold Builtin.append_;cases B:a[0]? with
 |none=>rfl
 | some s =>
  cases D:a[1]? with
  |none=>rfl
  |some u =>
   cases s<;>simp[Sem.run_bind,run_underlying d,run_underlying c]
theorem NU{e d}{v}{H2}(g:o.op=.call {callee:=.builtin .append,args:=#[x,y],argTypes:=#[J3,T']})(i:P.underlying J3=N (.slice e))(c:P.underlying T'=N (.slice d))
  (h:cQ P i_ {o with op:=.call {callee:=.builtin .append,args:=#[x,y],argTypes:=#[J3,J3]}} E H v H2):cQ P i_ o E H v H2:=by
 intro a w I ι j m k l K Q f;have b:=h a w I _ j m k l K Q f;unfold Oper.wpW execOp at b |-;simp[g,resolve,invoke,builtin,Sem.run_bind,Sem.run_pure,Result.andThen_ok,map_toArray,Ð,map_nil,NG w i c]at b |-;exact b
theorem XE{e z}{id g n m k sz bytes:Nat}{ob}{ps}{rows'}(q:o.op=.call {callee:=.builtin .append,args:=#[x,y],argTypes:=#[J3,T']})(i:P.underlying T'=N (.slice z))(B:fQ P J3 e sz)(d:EI P e sz bytes)
  (j:aR E x=N (.osl id g 0 n)) (u:H.get id=N ob) (w:ob.g=g) (c:ob.sz=sz) (f:ob.ty=e) (s:C ob.rows=n)
  (l:aR E y=N (.pv (.sl ps))) (h:∀r∈ps,C r=sz) (p:C ps=m) (a:(n+m)*bytes<=140737488355328) (v:n+m=k) (b:ob.rows++ps.map (·.map AV.pv)=rows') :
  cQ P i_ o E H (.osl id (g+1) 0 k) ((id,⟨g+1,sz,e,rows'⟩)::H) :=
 NU q B.1 i (bU Z B d j u w c f s l h p a v b)
end
end
end Go.Abs
namespace Go.Proofs.C
open Go.Proofs.Tryz
open Go.Abs
variable{l:List _}
inductive IV where
 |n (x:Int)
 |t (s:B_)
 |b (x:Bool)
 |l (ts:List B_)
 |z (i:Int) (a b:List B_)
 |p (ps:List (Int×Int))
def kS(q:Int×Int):List PV:=[.int .i64 q.1,.int .i64 q.2]
def yQ(l:List (Int×Int)):PV:=.sl (l.map kS)
def aGc:IV->PV
 |.n x=>.ifc 3 (.int .i64 x)
 |.t s=>.ifc 9 (.str s)
 |.b x=>.ifc 4 (.bool x)
 |.l ts=>.ifc 22 (aK ts)
 |.z i a b=>.ifa 48 [.int .i64 i,aK a,aK b]
 |.p ps=>.ifc 49 (yQ ps)
def BF(v:IV):List PV:=[aGc v]
def fI:IV->List B_
 |.n x=>[aV x]
 |.t s=>[s]
 |.b x=>[aV (if x then 1 else 0)]
 |.l ts=>aV (C ts:Int)::ts
 |.z i a b=>aV i::((aV (C a:Int)::a)++(aV (C b:Int)::b))
 |.p ps=>aV (C ps:Int)::ps.flatMap λq=>[aV q.1,aV q.2]
def gI:IV->Nat
 |.n _=>1
 |.t _=>1
 |.b _=>1
 |.l _=>2
 |.z _ _ _=>5
 |.p ps=>1+2*C ps
def Wx:IV->Nat
 |.n _=>0
 |.t _=>0
 |.b _=>1
 |.l _=>1
 |.z _ _ _=>2
 |.p _=>1
def qY(x:Int):Prop := -9223372036854775808<=x/\x<=9223372036854775807
def okI:IV->Prop
 |.n x=>qY x
 |.t _=>True
 |.b _=>True
 |.l ts=>C ts<2^40
 |.z i a b=>qY i/\C a<2^40/\C b<2^40
 |.p ps=>C ps<2^40/\∀q∈ps,qY q.1/\qY q.2
def zY(l:List IV):List B_:=l.flatMap fI
def Aw(l:List IV):Nat:=(l.map gI).sum
theorem Rb{k}{v}(h:l[k]?=N v):zY (l.take (k+1))=zY (l.take k)++fI v:=by rw[Í,h];simp[zY]
theorem Qv{k}{v}(h:l[k]?=N v):Aw (l.take (k+1))=Aw (l.take k)+gI v:=by rw[Aw,Í,h,È,à];rfl
theorem aDA(l)(k):C (zY (l.take k))<=C (zY l):=by
 have h:zY l=zY (l.take k)++zY (l.drop k):=by rw[zY,zY,zY,<-Û,Ñ]
 rw[h,j7];omega
def fH(g:Nat)(L:List B_):aF:=[(971,⟨g,1,9,bP L⟩),(970,bx 1 131 [.osl 971 g 0 (C L)])]
theorem Rc(g)(L)(s):fH (g+1) (L++[s])=[(971,⟨g+1,1,9,bP (L++[s])⟩),(970,bx 1 131 [.osl 971 (g+1) 0 (C L+1)])]:=by simp[fH]
theorem dZ{P:Program}{t}{d}(h:P.underlying t=N d)(B:(match d with|.interface _=>η|_=>A)=A):P.concrete t=A:=by
 unfold Program.concrete
 grind
theorem U5(l:List _):∀r∈l.map BF,C r=1:=λr a=>by
 obtain ⟨t,_,rfl⟩:=mem_map.1 a;rfl
def Ue(r:Nat):Prop:=∀(l:List IV),(∀v∈l,Wx v<r/\okI v)->∀(g:Nat) (L:List B_),C l<2^40->C L+C (zY l)<2^40 ->
 aU φ 121 [.ref 970 0 0 0,.pv (.sl (l.map BF))] (fH g L) (λr H'=>r=.tup []/\H'=fH (g+Aw l) (L++zY l))
def QZ(ps:List (Int×Int)):List B_:=ps.flatMap λq=>[aV q.1,aV q.2]
theorem QY:∀ps,C (QZ ps)=2*C ps
 | []=>rfl
 |q::r=>by
  have B:=QY r;rw[show QZ _=aV _::aV _::QZ r from Z,j6,j6,j6];omega
theorem Ni{ps:List _}{j}{q}(h:ps[j]?=N q):QZ (ps.take (j+1))=QZ (ps.take j)++zY [.n q.1,.n q.2]:=by rw[QZ,Í,h,Û];rfl
theorem ov{args}{g d}{L c}{H}(h:aU φ 121 args (fH g L) (λr H'=>r=.tup []/\H'=fH d c))(e:FB H (fH g L))(f:∀a∈args,Clo (fH g L) a):
  aU φ 121 args H (λr H'=>r=.tup []/\H'=fH d c++H):=aU.frame h (FB.sub e) (dO.ofL ⟨(aL _ _),x8,T_⟩) f (λid h=>.inl (Ad h))
theorem eO(B b):bP B++(b.map S_).map (·.map AV.pv)=bP (B++b):=by rw[<-cX,bP,bP,bP,È]
theorem Vu(a:List _):∀r∈a.map S_,C r=1:=λr b=>by
 obtain ⟨t,_,rfl⟩:=mem_map.1 b;rfl
theorem aAG(g)(D B):fH g (D++B)=[(971,⟨g,1,9,bP (D++B)⟩),(970,bx 1 131 [.osl 971 g 0 (C D+C B)])]:=by simp[fH]
theorem To(r:Nat)(ih:∀q,q<r->Ue q):Ue r:=by
 intro l hl g L hll hLl;have hml:C (l.map BF)=C l:=g_ _;have w:∀(y:Int),qY y->1<r->∀(g':Nat) (f_:List B_),C f_+1<2^40->aU φ 121 [.ref 970 0 0 0,.pv (.sl [BF (.n y)])] (fH g' f_) (λr H'=>r=.tup []/\H'=fH (g'+1) (f_++[aV y])):=λy u h1 g' f_ hs =>
  ih 1 h1 [.n y] (λv e=>by rw[q9]at e;subst e;exact⟨by simp[Wx],u⟩) g' f_ H_ hs
 refine Bd func121 Z ntmps121<|U aA<|Y (fP underlying200)<|V aA<|aD<|bA (σ:=Nat) (λk=>([(0,.ref 970 0 0 0),(14,.pv (.sl (l.map BF))),(15,iv (C (l.map BF):Int)),(16,iv (k:Int))],fH (g+Aw (l.take k)) (L++zY (l.take k)))) (λk=>k<=C l) (λk=>C l - k) 0 (k_ _) ?_ ?_
 .simp only[zY,Aw,take_zero,flatMap_nil,map_nil,sum_nil,Nat.add_zero,Ä];exact L_
 intro k hk;refine Sz cH<|S<|Cn ?_ ?_<;>intro τ
 .have hlt:k<C l:=by have:=b9 τ;omega
  have ⟨v,e⟩:=aQ hlt;have ⟨H,e_⟩:=hl v (m7 e);have E:=cA (f:=BF) e;have hfn:=Rb e;have hgn:=Qv e;have y_:=aDA l (k+1);rw[hfn]at y_;have ⟨J,hL1⟩:∃J,J=L++zY (l.take k):=X_;have ⟨d,hg1⟩:∃d,d=g+Aw (l.take k):=X_;have D:L++zY (l.take (k+1))=J++fI v:=F_
  have H4:g+Aw (l.take (k+1))=d+gI v:=X
  have c:C J+C (fI v)<2^40:=by
   grind
  have o:ξ.wrap ((k:Int)+1)=((k+1:Nat):Int):=by rw[mI X X];omega
  rw[<-hL1,<-hg1];clear hfn hgn y_;cases v with
  |n x =>
   have hx:qY x:=e_;have c:C J+1<2^40:=c;refine aB<|S<|aD<|U (bQ Z AG Z Z X y7 E Z)<|Y (fK wR (hi:=E))<|V aH<|Sz aA<|aD<|U (yU Z (dZ underlying3 Z) Z)<|Y dK<|V dK<|Cn ?_ ?_<;>intro hc2
   .refine Sz aH<|aN a7<|Cr [970] (λ_ _=>aA)<|Cr [970] (λ_ _=>aA)<|Cr [970] (λA_ I=>by exact cT Z Z ((I _ Z).trans Z) Z)<|Cr [970] (λ_ h=>lh isAgg131 h)<|x_ aA<|x_ (by exact bH Z Z mE Z (qM x hx.1 hx.2 _))<|x_ (by exact aM [[.str (aV x)]] Z SS Z Z Z Z Z F_)<|Cp [971] (λA_ I=>by exact bU (ps:=[[.str (aV x)]]) Z SS sX Z ((I _ Z).trans Z) Z Z Z (dB _) Z F_ (m:=1) Z X Z (gP J (aV x)))<|Cr [970] (λA_ I=>by exact cT Z Z ((I _ Z).trans Z) Z)<|Cp [970] (λ_ h=>sa sizeOf131 h) ?_;refine bF<|Kr<|Rd (ka o)<|V aA ?_;refine⟨k+1,X,X,?_⟩;dsimp only;rw[D,H4,show fI (.n x)=[aV x]from Z,show gI (.n x)=1 from Z,Rc];exact L_
   cases hc2
  |t s =>
   have c:C J+1<2^40:=c;refine aB<|S<|aD<|U (bQ Z AG Z Z X y7 E Z)<|Y (fK wR (hi:=E))<|V aH<|Sz aA<|aD<|U (nJ Z (dZ underlying3 Z) zo3 Z Z)<|Y dK<|V dK<|Cn ?_ ?_<;>intro hc3
   .cases hc3
   refine U (yU Z (dZ U_ Z) Z)<|Y dK<|V dK<|Cn ?_ ?_<;>intro hc4
   ·refine Sz aH<|Rd aA<|Y aA<|Y pQ<|Y (bT isAgg131)<|Y aA<|Y (by exact aM [[.str s]] Z SS Z Z Z Z Z F_)<|Y (by exact bU (ps:=[[.str s]]) Z SS sX Z Z Z Z Z (dB _) Z F_ (m:=1) Z X Z (gP J s))<|Y pQ<|Uu (jH sizeOf131)<|Zz<|Rd (ka o)<|V aA ?_;refine⟨k+1,X,X,?_⟩;dsimp only;rw[D,H4,show fI (.t s)=[s]from Z,show gI (.t s)=1 from Z,Rc];exact(cJ.wk (Ea<|Eb<|Eb<|Eb<|T_) (Hc (aL _ _)<|Ha<|T_) ⟨Z,Z,T_⟩)
   cases hc4
  |b x =>
   have B:1<r:=H;have c:C J+1<2^40:=c;refine aB<|S<|aD<|U (bQ Z AG Z Z X y7 E Z)<|Y (fK wR (hi:=E))<|V aH<|Sz aA<|aD<|U (nJ Z (dZ underlying3 Z) zo3 Z Z)<|Y dK<|V dK<|Cn ?_ ?_<;>intro hc5
   .cases hc5
   refine U (nJ Z (dZ U_ Z) Uz Z Z)<|Y dK<|V dK<|Cn ?_ ?_<;>intro hc6
   .cases hc6
   refine U (yU Z (dZ fO Z) Z)<|Y dK<|V dK<|Cn ?_ ?_<;>intro hc7
   ·refine Sz aH<|Rd aA<|Y (by exact wD (id:=948) Se Z Z)<|Uu (by exact AC (κ:=Se) (.inr Z) underlying201 fO Z Z Z Z Z Z Z Z)<|Y aA<|Y aA<|Y (by exact JB (κ:=Se) Z underlying201 fO Z Z Z Z Z tH (.inl Z))<|Y (by exact gR (p:=.int .i64 (if x then 1 else 0)) Z (dZ underlying3 Z) (by cases x<;>rfl))<|Y (by exact aM [BF (.n (if x then 1 else 0))] Z AG Z Z Z Z Z R_)<|V (by exact bH Z Z wT Z (ov (w (if x then 1 else 0) (by cases x<;>exact⟨E_,E_⟩) B d J c) ⟨Z,Z,T_⟩ u3))<|Rd (ka o)<|V aA ?_;refine⟨k+1,X,X,?_⟩;dsimp only;rw[D,H4,show fI (.b x)=[aV (if x then 1 else 0)]from Z,show gI (.b x)=1 from rfl];exact(cJ.wk (Ea<|Eb<|Eb<|Eb<|T_) (Hc (aL _ _)<|Ha<|T_) ⟨Z,Z,T_⟩)
   cases hc7
  |l F =>
   have B:1<r:=H;have c:C J+(C F+1)<2^40:=c;have G:C (F.map S_)=C F:=g_ _;have ⟨y,u⟩:∃y,y=(C (F.map S_):Int):=X_;have i_:qY y:=⟨X,X⟩;have K:J++fI (.l F)=(J++[aV y])++F:=by rw[u,G,Ã];rfl
   have P:C (J++[aV y])=C J+1:=by rw[j7];rfl
   refine aB<|S<|aD<|U (kx AG E)<|Y (fK wR (hi:=E))<|V aH<|Sz aA<|aD<|U (nJ Z (dZ underlying3 Z) zo3 Z Z)<|Y dK<|V dK<|Cn ?_ ?_<;>intro hc8
   .cases hc8
   refine U (nJ Z (dZ U_ Z) Uz Z Z)<|Y dK<|V dK<|Cn ?_ ?_<;>intro hc9
   .cases hc9
   refine U (nJ Z (dZ fO Z) zo4 Z Z)<|Y dK<|V dK<|Cn ?_ ?_<;>intro ρ
   .cases ρ
   refine U (yU Z (dZ aE Z) Z)<|Y dK<|V dK<|Cn ?_ ?_<;>intro δ
   .refine Sz aH<|U aA<|Y aA<|Y (cQ.eqJ (lK Z aY.1 Z) (congrArg (λn:Int=>AV.pv (.int .i64 n)) u.symm))<|Y (gR (p:=.int .i64 y) Z (dZ underlying3 Z) Z)<|Y (aM [BF (.n y)] Z AG Z Z Z Z Z R_)<|V (kc wT (ov (w y i_ B d J X) ⟨Z,Z,T_⟩ u3))<|Rd aA<|Y aA<|Y pQ<|Y (bT isAgg131)<|Y aA<|Y (by exact XE (ps:=F.map S_) Z aE SS sX Z Z Z Z Z (dB _) Z (Vu F) (m:=C F) G (by rw[P];omega) Z (eO (J++[aV y]) F))<|Y pQ<|Uu (jH sizeOf131)<|Zz<|Rd (ka o)<|V aA ?_;refine⟨k+1,X,X,?_⟩;dsimp only;rw[D,H4,K,show gI (.l F)=2 from Z,aAG (d+2) (J++[aV y]) F];exact L_
   cases δ
  | z i a b =>
   have h2r:2<r:=H;have ⟨hio,hao,hbo⟩:qY i/\C a<2^40/\C b<2^40:=e_;have e3:zY [.n i,.l a,.l b]=fI (.z i a b):=by simp[zY,fI]
   have h3:=ih 2 h2r [.n i,.l a,.l b] (by
    intro v e;simp only[l9,q8,or_false]at e;rcases e with rfl|rfl|rfl
    .exact⟨by simp[Wx],hio⟩
    .exact⟨by simp[Wx],hao⟩
    exact⟨by simp[Wx],hbo⟩) d J H_ (by rw[e3];exact c)
   rw[e3]at h3;refine aB<|S<|aD<|U (kx AG E)<|Y (fK wR (hi:=E))<|V aH<|Sz aA<|aD<|U (DK Z (dZ underlying3 Z) zo3 Z Z)<|Y dK<|V dK<|Cn ?_ ?_<;>intro γ
   .cases γ
   refine U (DK Z (dZ U_ Z) Uz Z Z)<|Y dK<|V dK<|Cn ?_ ?_<;>intro R
   .cases R
   refine U (DK Z (dZ fO Z) zo4 Z Z)<|Y dK<|V dK<|Cn ?_ ?_<;>intro W
   .cases W
   refine U (DK Z (dZ aE Z) aDo Z Z)<|Y dK<|V dK<|Cn ?_ ?_<;>intro v_
   .cases v_
   refine U (TR (ps:=[.int .i64 i,aK a,aK b]) Z (dZ kK Z) Z)<|Y dK<|V dK<|Cn ?_ ?_<;>intro β
   .refine U (kl 10 fy)<|Uu (jH sizeOf48)<|Zz<|Rd aA<|Y (bC D1)<|Y (bT M_)<|Y (gR (p:=.int .i64 i) Z (dZ underlying3 Z) Z)<|Y (bC xG)<|Y (bT aG)<|Y (gR (p:=aK a) Z (dZ aE Z) Z)<|Y (bC xF)<|Y (bT aG)<|Y (gR (p:=aK b) Z (dZ aE Z) Z)<|Y (by exact aM [BF (.n i),BF (.l a),BF (.l b)] Z AG Z Z Z Z Z (by intro r hr;simp only[l9,q8,or_false]at hr;rcases hr with rfl|rfl|rfl<;>rfl))<|V (kc wT (ov h3 ⟨Z,Z,T_⟩ u3))<|Rd (ka o)<|V aA ?_;refine⟨k+1,X,X,?_⟩;dsimp only;rw[D,H4];exact L_
   cases β
  | p ps =>
   have B:1<r:=H;have ⟨hpl,hpo⟩:C ps<2^40/\∀q∈ps,qY q.1/\qY q.2:=e_;have hfp:∀j,QZ (ps.take j)=(ps.take j).flatMap (λq=>[aV q.1,aV q.2]):=λ_=>rfl;have c:C J+(1+2*C ps)<2^40:=by
    have:C (fI (.p ps))=1+2*C ps:=by rw[show fI (.p ps)=aV (C ps:Int)::QZ ps from Z,j6,QY];omega
    omega
   have G:C (ps.map kS)=C ps:=g_ _;have ⟨y,u⟩:∃y,y=(C (ps.map kS):Int):=X_;have i_:qY y:=⟨X,X⟩;have K:J++fI (.p ps)=(J++[aV y])++QZ ps:=by rw[u,G,Ã];rfl
   refine aB<|S<|aD<|U (kx AG E)<|Y (fK wR (hi:=E))<|V aH<|Sz aA<|aD<|U (nJ Z (dZ underlying3 Z) zo3 Z Z)<|Y dK<|V dK<|Cn ?_ ?_<;>intro Q
   .cases Q
   refine U (nJ Z (dZ U_ Z) Uz Z Z)<|Y dK<|V dK<|Cn ?_ ?_<;>intro z_
   .cases z_
   refine U (nJ Z (dZ fO Z) zo4 Z Z)<|Y dK<|V dK<|Cn ?_ ?_<;>intro u_
   .cases u_
   refine U (nJ Z (dZ aE Z) aDo Z Z)<|Y dK<|V dK<|Cn ?_ ?_<;>intro hc20
   .cases hc20
   refine U (nJ Z (dZ kK Z) fy Z Z)<|Y dK<|V dK<|Cn ?_ ?_<;>intro J3
   .cases J3
   refine U (yU Z (dZ gM Z) Z)<|Y dK<|V dK<|Cn ?_ ?_<;>intro hc22
   .refine Sz aH<|U aA<|Y aA<|Y (cQ.eqJ (lK Z WH.1 Z) (congrArg (λn:Int=>AV.pv (.int .i64 n)) u.symm))<|Y (gR (p:=.int .i64 y) Z (dZ underlying3 Z) Z)<|Y (aM [BF (.n y)] Z AG Z Z Z Z Z R_)<|V (kc wT (ov (w y i_ B d J X) ⟨Z,Z,T_⟩ u3))<|U aA<|Y (fP gM)<|V aA<|aD ?_;refine bA (σ:=Nat) (λj=>([(0,.ref 970 0 0 0),(14,.pv (.sl (l.map BF))),(15,iv (C (l.map BF):Int)),(16,iv (k:Int)),(95,.pv (yQ ps)),(96,iv (C (ps.map kS):Int)),(97,iv (j:Int))],fH (d+1+2*j) ((J++[aV y])++QZ (ps.take j)))) (λj=>j<=C ps) (λj=>C ps - j) 0 (k_ _) ?_ ?_
    .rw[show QZ (ps.take 0)=[]from Z,Ä];exact L_
    intro j hj;refine Sz cH<|S<|Cn ?_ ?_<;>intro c_
    .have hjl:j<C ps:=by have:=b9 c_;omega
     have ⟨q,hq⟩:=aQ hjl;have hqi:=cA (f:=kS) hq;have ⟨hq1,hq2⟩:=hpo q (m7 hq);have hnx:=Ni hq;have hln:C (J++[aV y]++QZ (ps.take j))=C J+1+2*j:=by rw[j7,j7,QY,n_];simp;omega
     have h2:=ih 1 B [.n q.1,.n q.2] (by
      intro v e;simp only[l9,q8,or_false]at e;rcases e with rfl|rfl
      .exact⟨by simp[Wx],hq1⟩
      exact⟨by simp[Wx],hq2⟩) (d+1+2*j) (J++[aV y]++QZ (ps.take j)) H_ (by rw[hln];show C J+1+2*j+2<_;omega)
     refine aB<|S<|aD<|U (kx WH hqi)<|Y (by exact fG Z eM sizeOf104 Z hqi u0 Z)<|Y (kl 13 Je)<|Uu (jH sizeOf104)<|Zz<|Rd aA<|Y (bC nF)<|Y (bT M_)<|Y (gR (p:=.int .i64 q.1) Z (dZ underlying3 Z) Z)<|Y (bC nE)<|Y (bT M_)<|Y (gR (p:=.int .i64 q.2) Z (dZ underlying3 Z) Z)<|Y (by exact aM [BF (.n q.1),BF (.n q.2)] Z AG Z Z Z Z Z (by intro r hr;simp only[l9,q8,or_false]at hr;rcases hr with rfl|rfl<;>rfl))<|V (kc wT (ov h2 ⟨Z,Z,T_⟩ u3))<|Rd kp ?_;refine V aA ?_;refine⟨j+1,X,X,?_⟩;dsimp only;rw[hnx,<-Ã,show d+1+2*(j+1)=d+1+2*j+Aw [.n q.1,.n q.2]from rfl];exact L_
    have hjg:j=C ps:=by have:=b_ c_;omega
    subst hjg;rw[Ë];refine aP<|Rd (ka o)<|V aA ?_;refine⟨k+1,X,X,?_⟩;dsimp only;rw[D,H4,K,show d+gI (.p ps)=d+1+2*C ps from(Nat.add_assoc _ _ _).symm];exact L_
   cases hc22
 have hge:k=C l:=by have:=b_ τ;omega
 subst hge;rw[Ë];refine aP ?_;exact pL (.inl Z) Z Fin.refl ⟨Z,Z⟩
theorem aDX(r):Ue r:=Nat.strongRecOn r (λr a=>To r a)
theorem aEW(v):Wx v<3:=by cases v<;>simp[Wx]
theorem wh(l)(b:∀v∈l,okI v)(g)(L)(a:C l<2^40)(d:C L+C (zY l)<2^40):
  aU φ 121 [.ref 970 0 0 0,.pv (.sl (l.map BF))] (fH g L) (λr H'=>r=.tup []/\H'=fH (g+Aw l) (L++zY l)) :=
 aDX 3 l (λv c=>⟨aEW v,b v c⟩) g L a d
structure p_ where
 idx:Int
 sig:List B_
 path:List B_
 deriving DecidableEq
structure GPriv where
 name:B_
 reason:B_
 sources:List B_
 trace:List (Int×Int)
 sl:p_
 deriving DecidableEq
structure j_ where
 kind:Int
 author:Int
 number:Int
 clock:Int
 branch:B_
 parents:List B_
 edits:List b8
 target:B_
 yes:Bool
 order:Int
 from':B_
 sl:p_
 priv:GPriv
def lW(s:p_):List PV:=[.int .i64 s.idx,aK s.sig,aK s.path]
def yF(p:GPriv):List PV:=[.str p.name,.str p.reason,aK p.sources,yQ p.trace,.int .i64 p.sl.idx,aK p.sl.sig,aK p.sl.path]
def eC(r:j_):List PV:=[.int .i64 r.kind,.int .i64 r.author,.int .i64 r.number,.int .i64 r.clock,.str r.branch,aK r.parents,kU r.edits,.str r.target,.bool r.yes,.int .i64 r.order,.str r.from',.int .i64 r.sl.idx,aK r.sl.sig,aK r.sl.path,.str r.priv.name,.str r.priv.reason,aK r.priv.sources,yQ r.priv.trace,.int .i64 r.priv.sl.idx,aK r.priv.sl.sig,aK r.priv.sl.path]
def th(l:List B_):Prop:=C l<2^40/\∀t∈l,T t<2^40
def yX(s:p_):Prop:=qY s.idx/\th s.sig/\th s.path
def tg(p:GPriv):Prop:=T p.name<2^40/\T p.reason<2^40/\th p.sources/\C p.trace<2^40/\yX p.sl
def aCA(q:B_->Bool)(l:List B_)(k:Nat):Bool:=match l[k]? with|some s=>q s|none=>η
theorem Xk(q)(l):(List.range (C l)).any (aCA q l)=l.any q:=Hn l q
theorem D7(f)(l)(q)(B:C l<2^40)(d:∀s∈l,dQ φ (.pv (.fn f)) [sv s] [] (λr H'=>r=bv (q s)/\H'=[]))(H):
  RC 28 [.pv (aK l),.pv (.fn f)] (bv (l.any q)) H:=by
 refine Pu ?_;have c:=BH _ l (aCA q l) _ X (λk s b=>by
  rw[aCA,b];exact d s (m7 b))
 rw[Xk]at c;exact c
theorem aDF(t)(b:T t<2^40)(H):RC 212 [sv t] (bv (oddJ t)) H:=by refine Pu ?_;exact Bd func212 Z ntmps212<|Sz aH<|U aA<|Y (bH Z Z call30 Z (Y1 t b _))<|Y iJ<|V aH<|aC<|Rt<|Qq
theorem OK(l)(c:th l)(H):RC 155 [.pv (aK l)] (bv (l.all m6)) H:=by
 refine Pu ?_;have b:=D7 _ l _ c.1 (λs d=>dQ.fn call212 (aDF s (c.2 s d) _)) [];rw[RV]at b;refine Bd func155 Z ntmps155<|Sz aH<|U aA<|Y (bH Z Z call28 Z (b))<|Y iJ<|V aH<|aC<|Rt ?_
 simp_all
def BS(s:p_):Bool:=θ (s.idx=0)&&θ ((C (s.sig.map S_):Int)+(C (s.path.map S_):Int)=0)
theorem aBX(s:p_)(c:yX s)(H:aF):RC 210 [av (lW s)] (bv (BS s)) H:=by
 refine Pu ?_;have B:C (s.sig.map S_)<2^40:=by rw[g_];exact c.2.1.1
 have D:C (s.path.map S_)<2^40:=by rw[g_];exact c.2.2.1
 refine Bd func210 Z ntmps210<|U (kb 1)<|V aH<|S<|aT (t:=2) (n:=15) (A_:=BS s) ?_ ?_
 .all_goals refine Y (bC D1)<|Y (bT M_)<|Y cI<|Dm ?_<;>(refine Sp 6 (λd=>?_) λd=>?_)<;>(first|refine M<|M<|M<|M<|M<|M<|M<|M ?_|refine O (bC xG)<|O (bT aG)<|O (fP aE)<|O (bC xF)<|O (bT aG)<|O (fP aE)<|O (dD Z Z Z (mI X X))<|O cI ?_)<;>refine Y cE<|Da ?_<;>exact Gj (h:=by(rw[BS,d];rfl))
 exact aC<|Rt<|Qq
def lN(s:p_):Bool:=BS s||(((((θ (0<=s.idx)&&θ (s.idx<256))&&θ ((C (s.sig.map S_):Int)=18))&&θ ((C (s.path.map S_):Int)<=8))&&s.sig.all m6)&&s.path.all m6)
theorem mm(s:p_)(i:yX s)(H:aF):RC 151 [av (lW s)] (bv (lN s)) H:=by
 refine Pu ?_;have l:=λH=>aBX s i H;have j:=λH=>OK s.sig i.2.1 H;have k:=λH=>OK s.path i.2.2 H;have ⟨m,b⟩:∃m,m=BS s:=X_;rw[<-b]at l;refine Bd func151 Z ntmps151<|U (kb 1)<|V aH<|S<|aT (t:=2) (n:=41) (A_:=lN s) ?_ ?_
 .all_goals refine Y (by exact aW Z iB sizeOf48 Z Z Z Z u0 Z) ?_
  all_goals refine Y (kc call210 (l _))<|Dm ?_<;>(refine Sp 5 (λe=>?_) λe=>?_)<;>(first|exact s_|refine M<|M<|M<|M ?_|refine O (bC D1)<|O (bT M_)<|O AU<|O aA ?_)<;>(first|refine Sp 9 (λg=>?_) λg=>?_|refine lC (t:=9) Z ?_)<;>(first|exact s_|refine M ?_|refine Fu ?_|refine O (bC D1) ?_)<;>(first|refine M ?_|refine Fu ?_|refine O (bT M_) ?_)<;>(first|refine M ?_|refine Fu ?_|refine O cH ?_)<;>(first|refine M<|M ?_|refine O cE<|O aA ?_)<;>(first|refine Sp 14 (λc=>?_) λc=>?_|refine lC (t:=14) Z ?_)<;>(first|exact s_|refine M ?_|refine Fu ?_|refine O (bC xG) ?_)<;>(first|refine M ?_|refine Fu ?_|refine O (bT aG) ?_)<;>(first|refine M ?_|refine Fu ?_|refine O (fP aE) ?_)<;>(first|refine M ?_|refine Fu ?_|refine O cI ?_)<;>(first|refine M<|M ?_|refine O cE<|O aA ?_)<;>(first|refine Sp 20 (λd=>?_) λd=>?_|refine lC (t:=20) Z ?_)<;>(first|exact s_|refine M ?_|refine Fu ?_|refine O (bC xF) ?_)<;>(first|refine M ?_|refine Fu ?_|refine O (bT aG) ?_)<;>(first|refine M ?_|refine Fu ?_|refine O (fP aE) ?_)<;>(first|refine M ?_|refine Fu ?_|refine O HV ?_)<;>(first|refine M<|M ?_|refine O cE<|O aA ?_)<;>(first|refine Sp 26 (λf=>?_) λf=>?_|refine lC (t:=26) Z ?_)<;>(first|exact s_|refine M ?_|refine Fu ?_|refine O (bC xG) ?_)<;>(first|refine M ?_|refine Fu ?_|refine O (bT aG) ?_)<;>(first|refine M ?_|refine Fu ?_|refine O (kc call155 (j _)) ?_)<;>(first|refine M<|M ?_|refine O cE<|O aA ?_)<;>(first|refine Sp 31 (λh=>?_) λh=>?_|refine lC (t:=31) Z ?_)<;>(first|exact s_|refine M ?_|refine Fu ?_|refine O (bC xF) ?_)<;>(first|refine M ?_|refine Fu ?_|refine O (bT aG) ?_)<;>(first|refine M ?_|refine Fu ?_|refine O (kc call155 (k _)) ?_)<;>(first|refine M ?_|refine O cE ?_)<;>refine Y cE<|Da ?_<;>exact Gj (h:=by first|(rw[lN,<-b,e];rfl)|(rw[lN,<-b,e,g];rfl)|(rw[lN,<-b,e,g,c];rfl)|(rw[lN,<-b,e,g,c,d];rfl)|(rw[lN,<-b,e,g,c,d,f];rfl)|(rw[lN,<-b,e,g,c,d,f,h];rfl))
 exact aC<|Rt<|Qq
def vJ(p:GPriv):Bool:=θ (p.name++p.reason=a6)&&θ ((C (p.sources.map S_):Int)+(C (p.trace.map kS):Int)=0)
theorem aAJ(p:GPriv)(d:tg p)(H:aF):RC 120 [av (yF p)] (bv (vJ p)) H:=by
 refine Pu ?_;have ⟨B,D,e,E,F⟩:=d;have G:C (p.sources.map S_)<2^40:=by rw[g_];exact e.1
 have I:C (p.trace.map kS)<2^40:=F_
 refine Bd func120 Z ntmps120<|U (kb 1)<|V aH<|S<|aT (t:=2) (n:=18) (A_:=vJ p) ?_ ?_
 .all_goals refine Y (bC JT)<|Y (bT N_)<|Y (bC JS)<|Y (bT N_)<|Y kq<|Y wV<|Dm ?_<;>(refine Sp 9 (λc=>?_) λc=>?_)<;>(first|refine M<|M<|M<|M<|M<|M<|M<|M ?_|refine O (bC zI)<|O (bT aG)<|O (fP aE)<|O (bC uD)<|O (bT kN)<|O (fP gM)<|O (dD Z Z Z (mI X X))<|O cI ?_)<;>refine Y cE<|Da ?_<;>exact Gj (h:=by(rw[vJ,c];rfl))
 exact aC<|Rt<|Qq
theorem R1(n a b)(H):RC 146 [iv n,iv a,iv b] (bv (θ (a<=n)&&θ (n<=b))) H:=by
 refine Pu<|Bd func146 Z ntmps146<|Sz aH<|S<|aT (t:=6) (n:=10) (A_:=θ (a<=n)&&θ (n<=b)) ?_ ?_
 .all_goals refine Y aA<|Y aA<|Y AU<|Dm ?_<;>(refine Sp 10 (λd=>?_) λd=>?_)<;>(first|refine M<|M<|M ?_|refine O aA<|O aA<|O HV ?_)<;>refine Y cE<|Da ?_<;>(exact⟨⟨_,Z,G_⟩,Z,Z,Z⟩)
 exact aC<|Rt<|Qq
def LY(s:B_):Bool:=θ (200<(T s:Int))
theorem aCe(s)(H):RC 148 [sv s] (bv (LY s)) H:=by refine Pu ?_;exact Bd func148 Z ntmps148<|Sz aH<|U aA<|Y (gQ U_)<|Y jB<|V aH<|aC<|Rt<|Qq
theorem ya(l)(c:C l<2^40)(H):RC 147 [.pv (aK l)] (bv (!l.any LY)) H:=by refine Pu ?_;have b:=D7 _ l _ c (λs B=>dQ.fn call148 (aCe s _)) [];exact Bd func147 Z ntmps147<|Sz aH<|U aA<|Y (bH Z Z call28 Z (b))<|Y iJ<|V aH<|aC<|Rt<|Qq
end Go.Proofs.C
namespace Go.Abs
section
section
variable{P:Program}{i_:Nat}{o:Oper}{E:dG}{H:aF}{f_ J3 t:TypeId}{x:Operand}{id g n m:Nat}{ob:Ob}
theorem JC(y:o.op=.convert f_ J3 x)(B:P.underlying f_=N .unsafePointer)(v:P.underlying J3=N (.pointer t))(hi:(P.info? t).map (·.size)=N (n+1))(q:P.cellsOf ob.ty=m+1)(k:aR E x=N (.ref id g 0 0))(s:H.get id=N ob)(i:ob.g=g)(e:ob.rows≠[])(f:ob.sz=m+1)(J:∀c,liesAt P P.depth ob.ty (c+1) 0 t 1=A):cQ P i_ o E H (.ref id g 0 0) H :=.of_run λa w I ι l z=>by
  have h:=aJ z k;have ⟨b,d,r,p,D,F⟩:=NH l h s i e;have ⟨j,u,G⟩:=CH hi;refine⟨_,?_,h⟩;simp only[execOp,y,r];have K:d*ob.sz / P.cellsOf ob.ty=(d - 1)+1:=by rw[q,f,Nat.mul_div_cancel _ X];omega
  rw[Sem.run_bind,Lib.run_from_unsafe w _ B v u p G_];rfl
end
end
end Go.Abs
namespace Go.Proofs.C
open Go.Proofs.Tryz
open Go.Abs
variable{s:B_}{i n:Nat}{r:List UInt8}
theorem aFH(c):liesAt φ φ.depth 297 (c+1) 0 161 1=A:=by kernel_rfl
def OQ(B:AV)(u:Bool):Ob:=⟨0,2,297,[[oj u,B]]⟩
def rI(g:Nat)(l:List UInt8)(u:Bool):aF:=[(2001,OQ (.osl 2002 g 0 (C l)) u),(2002,⟨g,1,5,fZ l⟩)]
theorem VL{H}{g n}{u}(e:(H.get 2001).isSome=A)(f:(H.get 2002).isSome=A):∀r∈(OQ (.osl 2002 g 0 n) u).rows,∀a∈r,Clo H a:=by
 intro r c a d;simp[OQ,q9]at c;subst c;simp[l9,q8,or_false]at d;rcases d with rfl|rfl
 .cases u<;>simp[oj,e]
 simp[f]
theorem ML(b:AV)(u:Bool)(K:aF):aU φ 191 [.ref 2001 0 0 0] ((2001,OQ b u)::K) (λr H'=>r=.tup []/\H'=(2001,OQ b A)::K):=by
 cases u with
 |false =>
  refine Bd func191 Z ntmps191<|U aA<|Y pQ<|Y (bC AX)<|Y (bT isAgg158)<|V (O5 Z iH Z Z)<|Cn ?_ ?_<;>intro c
  ·refine Rd aA<|Y aA<|Y (by exact ID (n:=1) Z iH underlying247 y7 Z Z Z (by simp[OQ]))<|Y (by exact RD Z Z func239 Z Z Z Z Z (mw (.ref 2001 0 0 0)))<|Y (by exact JC (n:=1) (m:=1) Z underlying247 iH y7 y7 Z Z Z (by simp[OQ]) Z aFH)<|Y pQ<|Y (bC AX)<|Uu (ku sizeOf158)<|Zz ?_;exact pL (.inl Z) Z (Fin.get' (H':=(2001,OQ b true)::K) (λj=>yC 2001 (OQ b true) (OQ b false) K j)) ⟨Z,Z⟩
  cases c
 |true =>
  refine Bd func191 Z ntmps191<|U aA<|Y pQ<|Y (bC AX)<|Y (bT isAgg158)<|V (by exact O4 Z iH Z Z Z Z)<|Cn ?_ ?_<;>intro c
  .cases c
  refine U aA<|Y pQ<|Y (bC AX)<|Y (bT isAgg158)<|Y aA<|V (by exact LA (n:=1) Z iH y7 Z Z Z Z)<|Cn ?_ ?_<;>intro d
  .cases d
  refine aB ?_;exact pL (.inl Z) Z Fin.refl ⟨Z,Z⟩
theorem oc(g)(l m){n}(h:C m=n):rI (g+1) (l++m) A=[(2001,OQ (.osl 2002 (g+1) 0 (C l+n)) A),(2002,⟨g+1,1,5,fZ (l++m)⟩)]:=by subst h;simp[rI]
theorem Z3(g:Nat)(l:List UInt8)(u:Bool)(c:UInt8)(B:l.length<70368744177664):aU Tryz.prog 160 [.ref 2001 0 0 0,.pv (.int .u8 c.toNat)] (rI g l u) (λr H'=>r=.pv N0/\H'=rI (g+1) (l++[c]) true):=by refine Bd func160 Z ntmps160<|Sz aH<|U aA<|V (kc call191 (ML _ u _))<|U aA<|Y aA<|Y pQ<|Y (bC iP)<|Y (bT eL)<|Y aA<|Y (by exact aM [[.int .u8 c.toNat]] Z BY Z Z Z Z Z F_)<|Y (by exact bU (ps:=[[.int .u8 c.toNat]]) Z BY ei5 Z Z Z Z Z (sY l) Z F_ (m:=1) Z X Z (vM l [c]))<|Y pQ<|Y (bC iP)<|Uu (ku rA)<|Zz<|Sz aH<|aC ?_;rw[oc g l [c] (n:=1) rfl];refine cR (.inr Z) Z (aI Z) (Fin.get' (λj=>ME E_ j)) ?_;exact Qq
theorem E7(g:Nat)(l:List UInt8)(u:Bool)(s:B_)(B:l.length+s.size<70368744177664):aU Tryz.prog 132 [.ref 2001 0 0 0,sv s] (rI g l u) (λr H'=>r=.tup [iv (s.size:Int),.pv N0]/\H'=rI (g+1) (l++s.data.toList) true):=by refine Bd func132 Z ntmps132<|U aH<|V aH<|U aA<|V (kc call191 (ML _ u _))<|U aA<|Y aA<|Y pQ<|Y (bC iP)<|Y (bT eL)<|Y aA<|Y (by exact xR Z BY U_ ei5 QA Z Z Z Z Z (sY l) Z X Z (vM l s.data.toList))<|Y pQ<|Y (bC iP)<|Uu (ku rA)<|Zz<|U aA<|Y (gQ U_)<|Y aH<|V aH<|aC ?_;rw[oc g l s.data.toList (n:=s.size) rfl];refine gH (.inr Z) Z (aI Z) (aI Z) (Fin.get' (λj=>ME E_ j)) ?_;exact Qq
def oi(g:Nat)(l:List UInt8)(u:Bool):aF:=[(2002,⟨g+1,1,5,[]⟩),(2001,OQ (.osl 2002 g 0 (C l)) u)]
theorem aBf(g:Nat)(l:List UInt8)(u:Bool)(hl:C l<70368744177664):aU φ 133 [.ref 2001 0 0 0] (rI g l u) (λr H'=>r=sv ⟨l.toArray⟩/\H'=oi g l u):=by
 by_cases e:l=[]
 ·subst e;refine Bd func133 Z ntmps133<|Sz aH<|S<|aN a7<|Cq aA<|Cq pQ<|Cq (bC iP)<|Cq (bT eL)<|Cq (by exact FM Z zU Z Z Z)<|Cq aA<|Cq pQ<|Cq (bC iP)<|Cq (bT eL)<|Cq (by exact eB Z dN Z Z Z)<|Cq (by exact AN Z Z Z)<|Cq aH<|bF<|Kr<|aC ?_;refine cR (H':=(oi g [] u)) (.inr Z) Z (aI Z) (Fin.trans (Fin.deadO (id:=2002) (k:=g+1) (ob:=⟨g,1,5,fZ []⟩) Z (Nat.lt_succ_self g) Nat.zero_lt_one Z Z) (Fin.get' (λj=>RN E_ j))) ?_;exact Qq
 have c:0<C l:=length_pos_iff.2 e;refine Bd func133 Z ntmps133<|Sz aH<|S<|aN a7<|Cr [2001] (λ_ _=>aA)<|Cr [2001] (λd b=>by exact cT Z Z ((b _ Z).trans Z) Z)<|Cr [2001] (λ_ h=>fh iP h)<|Cr [2001] (λ_ h=>lh eL h)<|Cr [2002] (λd b=>by exact IF Z Z ((b _ Z).trans Z) Z c)<|Cr [2001] (λ_ _=>aA)<|Cr [2001] (λd b=>by exact cT Z Z ((b _ Z).trans Z) Z)<|Cr [2001] (λ_ h=>fh iP h)<|Cr [2001] (λ_ h=>lh eL h)<|Cr [2002] (λd b=>by exact eB Z dN Z ((b _ Z).trans Z) Z)<|Cp [2001,2002] (λd b=>by exact B8 (l:=l) rfl zU y7 rfl rfl ((b _ rfl).trans rfl) rfl rfl rfl rfl rfl c X rfl)<|x_ aH<|bF<|Kr<|aC ?_;refine cR (H':=(oi g l u)) (.inr Z) Z (aI Z) (Fin.get' (λj=>RN E_ j)) ?_;exact Qq
theorem Pq(g)(l)(u):aU Tryz.prog 208 [.ref 2001 0 0 0] (rI g l u) (λr H'=>r=iv (l.length)/\H'=rI g l u):=by refine Bd func208 Z ntmps208<|Sz aH<|U aA<|Y pQ<|Y (bC iP)<|Y (bT eL)<|Y (by exact eB Z dN Z Z Z)<|V aH<|aC ?_;refine cR (.inr Z) Z (aI Z) Fin.refl ?_;exact Qq
def Ng(l:List UInt8)(s:B_):List UInt8:=if l=[]then ν (μ s) else l++32::ν (μ s)
theorem aE1(g:Nat)(l:List UInt8)(u:Bool)(s:B_)(D:C l+T s<70368744177663):aU φ 287 [.ref 2001 0 0 0,sv s] (rI g l u) (λr H'=>r=.tup []/\H'=rI (if l=[]then g+1 else g+2) (Ng l s) A):=by
 have f:=Z3 g l u 32 X;have e:=Pq g l u;rw[Ng];by_cases d:l=[]
 .subst d;have c:=E7 g [] u s X;rw[b6 Z,b6 rfl];rw[Ó]at c;refine Bd func287 Z ntmps287<|S<|U aA<|Y pQ<|Y (bC qN)<|Y (kc call208 (e))<|V jB<|Cn ?_ ?_<;>intro b
  .cases b
  refine aB<|Rd aA<|Y pQ<|Y (bC qN)<|Y aA<|V (kc nS (c)) ?_;exact pL (H':=rI (g+1) (ν (μ s)) A) (.inl Z) Z Fin.refl ⟨Z,Z⟩
 have B:0<C l:=length_pos_iff.2 d;have c:=E7 (g+1) (l++[32]) A s G_;rw[a8 d,a8 d];rw[Ã]at c;refine Bd func287 Z ntmps287<|S<|U aA<|Y pQ<|Y (bC qN)<|Y (kc call208 (e))<|V jB<|Cn ?_ ?_<;>intro b
 .refine Rd aA<|Y pQ<|Y (bC qN)<|V (kc nQ (f))<|Rd aA<|Y pQ<|Y (bC qN)<|Y aA<|V (kc nS (c)) ?_;exact pL (H':=rI (g+2) (l++32::ν (μ s)) A) (.inl Z) Z Fin.refl ⟨Z,Z⟩
 have:=b_ b;omega
theorem aBe{g}{l}{u}{K}:Sub (rI g l u) (rI g l u++K):=by intro j o h;rw[gS,h]
theorem aFI{g c}{l b}{u u'}{id}(h:(aF.get (rI g l u) id).isSome=A):(aF.get (rI c b u') id).isSome=A:=Ad h
theorem aFR{g a}{l b}{u u'}{K}(j):aF.get (rI g l u++(rI a b u'++K)) j=aF.get (rI g l u++K) j:=by exact(ME H_ j).symm
theorem Nd(K)(g)(l)(u)(s)(a:C l+T s<70368744177663):aU φ 287 [.ref 2001 0 0 0,sv s] (rI g l u++K) (λr H'=>r=.tup []/\H'=rI (if l=[]then g+1 else g+2) (Ng l s) A++K) :=(aU.frame (aE1 g l u s a) aBe (dO.ofL ⟨(VL Z Z),(eV _ _),T_⟩) u3 (λid h=>.inl (aFI h))).congrH λj=>(aFR j).symm
theorem RK(K)(g)(l)(u):aU φ 208 [.ref 2001 0 0 0] (rI g l u++K) (λr H'=>r=iv (C l)/\H'=rI g l u++K) :=(aU.frame (Pq g l u) aBe (dO.ofL ⟨(VL Z Z),(eV _ _),T_⟩) u3 (λid h=>.inl h)).congrH λj=>(aFR j).symm
def tZ(c:UInt8):Option UInt8:=if c=92 then N 92 else if c=34 then N 34 else if c=110 then N 10 else ζ
def oO:List UInt8->Option (List UInt8×Nat)
 | []=>ζ
 | [c]=>if c=34 then N ([],1)else ζ
 |c::e::r=>if c=34 then N ([],1)else if c=10 then ζ else if c=92 then(tZ e).bind λb=>(oO r).map λp=>(b::p.1,p.2+2)else(oO (e::r)).map λp=>(c::p.1,p.2+1)
def BD(s:B_):B_×Int:=match oO (s.data.toList.drop 1)with
 |some (d,n)=>(⟨d.toArray⟩,((n+1:Nat):Int))
 |none=>(a6,0)
theorem C1{r}:oO (34::r)=N ([],1):=by cases r<;>rfl
theorem M9{r}:oO (10::r)=ζ:=by cases r<;>rfl
theorem vR{r}{e}:oO (92::e::r)=(tZ e).bind λb=>(oO r).map λp=>(b::p.1,p.2+2):=rfl
theorem C2{c}{r}(a:c≠34)(d:c≠10)(b:c≠92):oO (c::r)=(oO r).map λp=>(c::p.1,p.2+1):=by
 cases r with
 |nil =>
  show (if c=34 then N _ else ζ)=_;rw[a8 a];rfl
 |cons e r=>rw[oO,a8 a,a8 d,a8 b]
def yN(o:Option (List UInt8×Nat))(w:List UInt8)(i:Nat):B_×Int:=match o with
 |some (d,n)=>(⟨(w++d).toArray⟩,((i+n:Nat):Int))
 |none=>(a6,0)
theorem BW{o}{w}{b}{i k}:yN (o.map λp=>(b::p.1,p.2+k)) w i=yN o (w++[b]) (i+k):=by
 cases o with
 |none=>rfl
 |some p=>simp[yN,Option.map_some,Ã,singleton_append];grind
theorem zJ{s}{i}(h:i<T s):s.data.toList.drop i=pR s i::s.data.toList.drop (i+1):=by
 have a:i<C s.data.toList:=F_
 rw[Ô a,pR,m_ _];rfl
theorem CN{i}(h:T s<=i):s.data.toList.drop i=[]:=Ê F_
theorem CR{s}(a:n<256){b}(h:θ (aZ s i=n)=b):θ (pR s i=UInt8.ofNat n)=b:=by rw[<-h,uG,R5 a]
theorem Jy(c):(Lib.indexByte (⟨#[92,34,110]⟩:B_).data.toList ((c.toNat:Int).toNat.toUInt8) = -1/\tZ c=ζ)\/∃k:Nat,k<3/\Lib.indexByte (⟨#[92,34,110]⟩:B_).data.toList ((c.toNat:Int).toNat.toUInt8)=k/\tZ c=N (pR ⟨#[92,34,10]⟩ k):=by
 have j:((c.toNat:Int).toNat.toUInt8)=c:=H_
 rw[j];by_cases f:c=92
 .subst f;exact .inr ⟨0,E_,E_,E_⟩
 by_cases g:c=34
 .subst g;exact .inr ⟨1,E_,E_,E_⟩
 by_cases e:c=110
 .subst e;exact .inr ⟨2,E_,E_,E_⟩
 refine .inl ⟨?_,by rw[tZ,a8 f,a8 g,a8 e]⟩;have l:(92 == c)=η:=G_
 have i:(34 == c)=η:=G_
 have h:(110 == c)=η:=G_
 simp only[Lib.indexByte,l,i,h];rfl
theorem qe(s:B_)(H:aF)(W:T s<2^40):RC 291 [sv s] (.tup [sv (BD s).1,iv (BD s).2]) H:=by
 refine Pu ?_;have K:BD s=yN (oO (s.data.toList.drop 1)) [] 1:=by
  unfold BD yN
  grind
 generalize BD s=c at K |-;refine Bd func291 Z ntmps291<|U aH<|V aH<|Sz (kl 2001 IR)<|S<|S ?_;refine gK.ent (E':=[(0,sv s),(4,.ref 2001 0 0 0)]) (H':=zN 0 [] η) (cJ.bld0 ⟨⟨_,Z,.same H_⟩,⟨_,Z,.same u3⟩,T_⟩) ?_;refine Rg<|V aH<|aD<|ZR (λ(i g:Nat) (w:List UInt8) (u:Bool)=>([(0,sv s),(4,.ref 2001 0 0 0),(5,iv (i:Int))],zN g w u)) (λi g w u=>C w<=i/\i<2199023255552/\c=yN (oO (s.data.toList.drop i)) w i) (λi g w u=>T s+1 - i) 1 0 [] η ⟨k_ _,E_,K⟩ ?_ ?_
 .exact(cJ.wk (Eb<|Ea<|Eb<|T_) (Hc (gT Z Z)<|Hc (eV _ _)<|T_) T_)
 rintro i g w u ⟨hwl,hib,b⟩;refine S<|U aA<|Y aA<|Y (gQ U_)<|V cH<|Cn ?_ ?_<;>intro m
 .have B:i<T s:=I_ m
  have j:=zJ B;refine aB<|S<|aD<|U aA<|Y aA<|Y (ky U_)<|V aH<|Sz aA<|aD<|U cI<|Da<|Cn ?_ ?_<;>intro J
  .have f:pR s i=34:=b9 (CR (n:=34) E_ J);have d:c=(⟨w.toArray⟩,((i+1:Nat):Int)):=by rw[b,j,f,C1,yN,Ä]
   rw[d];exact U (kc nR (SG g w u X))<|Y aA<|Y iF<|Y aH<|V aH<|aC<|Ru<|Qq
  have v:pR s i≠34:=b_ (CR (n:=34) E_ J);refine U cI<|Da<|Cn ?_ ?_<;>intro t
  .have f:pR s i=10:=b9 (CR (n:=10) E_ t);have d:c=(a6,0):=by rw[b,j,f,M9,yN]
   rw[d];exact U aH<|V aH<|aC<|Ru<|Qq
  have p:pR s i≠10:=b_ (CR (n:=10) E_ t);refine U cI<|Da<|Cn ?_ ?_<;>intro k
  .have f:pR s i=92:=b9 (CR (n:=92) E_ k);refine U aA<|Y iF<|V aH<|Sz aH<|S<|U aA<|Y aA<|Y (gQ U_)<|V cH<|Cn ?_ ?_<;>intro x
   .have o:i+1<T s:=I_ x
    have y:=zJ o;rcases Jy (pR s (i+1))with⟨I,E⟩|⟨q,L,I,E⟩
    .have d:c=(a6,0):=by rw[b,j,f,y,vR,E];rfl
     have P:Lib.indexByte (⟨#[92,34,110]⟩:B_).data.toList (aZ s (i+1)).toNat.toUInt8 = -1:=I;rw[d];refine Rd aA<|Y aA<|Y (ky U_)<|Y (kc call199 (sV _ _ _))<|V aH<|S<|U aA<|V cH<|Cn ?_ ?_<;>intro D
     .exact U aH<|V aH<|aC<|Ru<|Qq
     exact absurd (b_ D) F_
    have Q:Lib.indexByte (⟨#[92,34,110]⟩:B_).data.toList (aZ s (i+1)).toNat.toUInt8=(q:Int):=I;have G:q<T (⟨#[92,34,10]⟩:B_):=L;refine Rd aA<|Y aA<|Y (ky U_)<|Y (kc call199 (sV _ _ _))<|V aH<|S<|U aA<|V cH<|Cn ?_ ?_<;>intro F
    .exact absurd (b9 F) G_
    refine aB<|Rd aA<|Y (cL Z U_ Z Z F_ F_ G Z)<|V (kc nQ (lE g w u (pR ⟨#[92,34,10]⟩ q) X))<|Rd aA<|Y iF<|Da ?_;refine⟨i+1+1,g+1,w++[pR ⟨#[92,34,10]⟩ q],A,⟨G_,X,?_⟩,X,(cJ.wk (Eb<|Ea<|Eb<|T_) (Hc (gT Z Z)<|Hc (eV _ _)<|T_) T_)⟩;rw[b,j,f,y,vR,E];exact BW
   have e:T s<=i+1:=J_ x
   have d:c=(a6,0):=by rw[b,j,f,CN e];rfl
   rw[d];refine aB<|S<|U aA<|V cH<|Cn ?_ ?_<;>intro R
   .exact U aH<|V aH<|aC<|Ru<|Qq
   cases R
  have z:pR s i≠92:=b_ (CR (n:=92) E_ k);refine Rd aA<|V (kc nQ (lE g w u (pR s i) X))<|Rd aA<|Y iF<|Da ?_;refine⟨i+1,g+1,w++[pR s i],A,⟨by rw[j7,Å];omega,X,?_⟩,X,(cJ.wk (Eb<|Ea<|Eb<|T_) (Hc (gT Z Z)<|Hc (eV _ _)<|T_) T_)⟩;rw[b,j,C2 v p z,BW]
 have e:T s<=i:=J_ m
 have d:c=(a6,0):=by rw[b,CN e];rfl
 rw[d];exact aP<|U aH<|V aH<|aC<|Ru<|Qq
def nN(s:B_)(i:Nat):Int:=if i<T s then zL (aZ s i)else 0
def tS(s:B_):Ob:=bx 1 9 [sv s]
def tC:Ob:=bx 256 223 xH
def tA:Ob:=bx 1 299 [.clo 289 [.ref 921 0 0 0,.ref 923 0 0 0]]
theorem aDV(s:B_)(i:Nat)(H:aF)(f:H.get 921=N (tS s))(d:H.get 923=N tC)(hi:i<2^62)(B:T s<2^62):
  RC 289 [iv (i:Int),.ref 921 0 0 0,.ref 923 0 0 0] (.pv (.int .u8 (nN s i))) H:=by
 refine Bd func289 Z ntmps289<|Sz aH<|S<|U aA<|Y (aX Z N_ Z f Z Z Z)<|Y (gQ U_)<|V AU<|Cn ?_ ?_<;>intro b
 .have e:nN s i=0:=by rw[nN,a8 (I_ b)]
  rw[e];refine Sz aH<|aC<|cR (H':=H) (.inr Z) Z (aI Z) Fin.refl ?_;exact Qq
 have c:i<T s:=J_ b
 have e:nN s i=zL (aZ s i):=by rw[nN,b6 c]
 rw[e];refine aB<|U (aX Z N_ Z f Z Z Z)<|Y aA<|Y (ky U_)<|Y (eX (k2:=(aZ s i).toNat) Z gU cO Z d Z Z (ON s i) Z (CP s i) X)<|Y (aX Z vP Z d Z Z (aBJ s i))<|V aH<|aC<|cR (H':=H) (.inr Z) Z (aI Z) Fin.refl ?_;exact Qq
theorem gv(s:B_)(H:aF)(d:H.get 921=ζ)(b:H.get 923=ζ)(c:H.get 924=ζ)(B:dO H):
  aU φ 254 [sv s] H (λr H'=>r=.clo 290 [.ref 921 0 0 0,.ref 924 0 0 0]/\H'=(924,tA)::(923,tC)::(921,tS s)::H):=by
 refine Bd func254 Z ntmps254<|U (tW (id:=921) Z Z Z Z d)<|V aH<|U (kc call211 (ZO _))<|Y (CY (id:=923) Z wm Z b)<|Uu (mH Z BK Z Z Z Z Z Z Z H_)<|Zz<|U (iE Z Z)<|Y (CY (id:=924) Z aDn Z c)<|Uu (jH sizeOf299)<|Zz<|U (iE Z Z)<|V aH<|aC ?_;refine cR (H':=((924,tA)::(923,tC)::(921,tS s)::H)) (.inr Z) Z (aI Z) (Fin.get' (λj=>by simp only[aF.get];cases Nat.beq 924 j<;>cases Nat.beq 923 j<;>rfl)) ?_;exact Qq
def AA(p:Nat->Bool):Nat->Nat->Nat
 |0,i=>i
 |n+1,i=>if p i then AA p n (i+1)else i
theorem GT(p):∀(n i),i<=AA p n i/\AA p n i<=i+n
 |0,i=>⟨h_ _,h_ _⟩
 |n+1,i=>by
  rw[AA]
  split
  .have:=GT p n (i+1);omega
  omega
theorem KO(p):∀(n i),∀j,i<=j->j<AA p n i->p j=A
 |0,i,j,b,a=>by rw[AA]at a;omega
 | n+1,i,j,b,a=>by
  rw[AA]at a
  split at a
  .by_cases e:j=i
   .simp_all
   exact KO p n _ j (by omega) a
  omega
theorem yJ(p):∀(n i),AA p n i<i+n->p (AA p n i)=η
 |0,i,h=>by rw[AA]at h;omega
 |n+1,i,h=>by
  rw[AA]at h |-
  split at h
  .rename_i a;rw[b6 a];exact yJ p n _ (by omega)
  simp_all
theorem AI(p){n i j}(d:i<=j)(B:j<=i+n)(c:∀k,i<=k->k<j->p k=A)(a:p j=η\/j=i+n):AA p n i=j:=by
 have ⟨b,l2⟩:=GT p n i;rcases Nat.lt_trichotomy (AA p n i) j with h|h|h
 .have:=yJ p n i X;rw[c _ b h]at this;cases this
 ·exact h
 have:=KO p n i j d h;rcases a with a|a
 .rw[a]at this;cases this
 omega
def wC(s:B_)(j:Nat):Bool:=θ (j<T s)&&!θ (aZ s j=10)
def wB(s:B_)(j:Nat):Bool:=θ (nN s j=3)||θ (nN s j=4)||θ (nN s j=5)
def PZ(s:B_)(j:Nat):Bool:=θ (nN s j=4)
def HE(s:B_)(i:Nat):Nat:=AA (wC s) (T s - i) i
def CZ(s:B_)(i:Nat):Nat:=AA (wB s) (T s - i) i
def JX(s:B_)(i:Nat):Nat:=AA (PZ s) (T s - i) i
structure b7 where
 kind:Int
 text:B_
 pos:Nat
 err:Int
def MI(f:b7):List PV:=[.int .i64 f.kind,.str f.text,.int .i64 f.pos,.int .i64 f.err]
def wG(i:Nat):b7:=⟨0,a6,i,3⟩
def BC(s:B_)(i j:Nat):b7:=⟨1,s.extract i j,i,if 24<j - i then 2 else 0⟩
def IK(s:B_)(i j:Nat):b7:=⟨2,s.extract i j,i,if θ (7<j - i)||θ (nN s j=3)||θ (nN s j=5)then 4 else 0⟩
def FY(s:B_)(i:Nat):b7×Nat:=if 0<(BD (s.extract i (T s))).2 then(⟨3,(BD (s.extract i (T s))).1,i,0⟩,i+(BD (s.extract i (T s))).2.toNat)else(wG i,i)
def fF(s:B_)(i:Nat):Option b7×Nat :=if nN s i=1 then(ζ,i+1)else if nN s i=2 then(ζ,HE s i)else if nN s i=3 then(N (BC s i (CZ s i)),CZ s i)
 else if nN s i=4 then(N (IK s i (JX s i)),JX s i)else if nN s i=7 then(N (FY s i).1,(FY s i).2)
 else if nN s i=6 then(N ⟨4,s.extract i (i+1),i,0⟩,i+1)else(N (wG i),i)
def kR(s:B_):Nat->Nat->List b7
 |0,_=>[]
 |n+1,i=>if i<T s then(match fF s i with
  |(ζ,j)=>kR s n j
  |(N f,j)=>f::(if f.err=0 then kR s n j else[]))else[]
theorem R4:∀(l) (p),oO l=N p->p.2<=C l
 | [],p,h=>by cases h
 | [c],p,h=>by
  rw[oO]at h
  grind
 | c :: e :: r, p, h => by
  rw[oO]at h
  split at h
  ·grind
  split at h
  .cases h
  split at h
  .cases f:tZ e with
   |none=>simp_all
   | some b =>
    rw[f]at h;cases d:oO r with
    |none=>simp_all
    |some q =>
     rw[d]at h;cases h;have:=R4 r q d;show q.2+2<=C r+1+1;omega
  cases d:oO (e::r)with
  |none=>simp_all
  |some q =>
   rw[d]at h;cases h;have:=R4 _ q d
   simp_all
theorem ml(s):0<=(BD s).2/\(BD s).2<=T s:=by
 have B:C s.data.toList=T s:=rfl;unfold BD;cases b:oO _ with
 |none=>exact⟨Int.le_refl _,Int.natCast_nonneg _⟩
 | some p =>
  have:=R4 _ p b;rw[q6]at this;refine⟨Int.natCast_nonneg _,?_⟩;show ((p.2+1):Int)<=_;have c:0<T s:=by
   cases c:ν (μ s) with
   |nil=>rw[c]at b;cases b
   |cons a l=>grind
  omega
theorem ZU(s)(i)(h:nN s i≠0):i<T s:=by
 by_cases e:i<T s
 .exact e
 exact absurd (a8 e) h
def tF(f:b7):Ob:=bx 4 266 ((MI f).map .pv)
theorem A2(H)(f):∀r∈(tF f).rows,∀a∈r,Clo H a:=by intro r b a c;simp[tF,bx,q9]at b;subst b;obtain ⟨p,_,rfl⟩:=mem_map.1 c;simp
instance(H)(f):W_ (H) ((tF f).rows):=⟨A2 H f⟩
theorem UN{α:Type}{l m:List α}{k}{d}(h:l.drop k=d::m):l[k]?=N d/\l.drop (k+1)=m:=by
 refine⟨?_,?_⟩
 .have:=congrArg (·[0]?) h
  simpa using this
 rw[<-drop_drop,h];rfl
theorem QI{j:Nat}{f:b7}(h:fF s i=(N f,j))(b:f.err=0)(hi:i<T s):i<j/\j<=T s:=by
 have a:∀(p),p i=A->i<AA p (T s - i) i/\AA p (T s - i) i<=T s:=λp d=>by
  have ⟨l1,l2⟩:=GT p (T s - i) i;refine⟨?_,X⟩;rcases Nat.lt_or_ge i _ with h|h
  .exact h
  have c:=yJ p (T s - i) i X;rw[show AA p (T s - i) i=i by omega,d]at c;cases c
 unfold fF at h
 split at h
 .cases h
 split at h
 .cases h
 split at h
 .rename_i g;cases h;exact a _ (by rw[wB,g];rfl)
 split at h
 .rename_i e;cases h;exact a _ (by rw[PZ,e];rfl)
 split at h
 .have hul:=ml (s.extract i (T s));have hexs:T (s.extract i (T s))<=T s - i:=F_
  unfold FY at h
  split at h
  .cases h;omega
  cases h;cases b
 split at h
 ·cases h;exact⟨Nat.lt_succ_self _,hi⟩
 cases h;cases b
theorem ltD(h:θ (i<(n:Int))=A):i<n:=I_ h
theorem NB(s:B_)(y:AV)(Hs:Nat->aF)(cont:Nat->Bool)(m:Nat)(hs:T s<2^40)(G:∀k,(Hs k).get 921=N (tS s))(h2:∀k,(Hs k).get 923=N tC)(J3:∀k,(Hs k).get 924=N tA)(h6:∀k,(Hs k).get 926=ζ)(y_:∀k,dO (Hs k))(hf:∀k,Clo (Hs k) y)
  (hm:m<=C (kR s (T s+1) 0)) (hall:∀k,k+1<m->cont k=A) (f_:m=C (kR s (T s+1) 0)\/(0<m/\cont (m - 1)=η))
  (hy:∀k d,(kR s (T s+1) 0)[k]?=N d->k<m->dQ φ y [.agg ((MI d).map .pv)] ((926,tF d)::Hs k) (λr H'=>r=bv (cont k)/\H'=(926,tF d)::Hs (k+1))) :
  aU φ 290 [y,.ref 921 0 0 0,.ref 924 0 0 0] (Hs 0) (λr H'=>r=.tup []/\H'=Hs m):=by
 have ⟨ds,hds⟩:∃ds,ds=kR s (T s+1) 0:=X_;rw[<-hds]at hy hm f_;have D:∀(k i:Nat) (f:b7),i<=T s+1->dQ φ (.clo 289 [.ref 921 0 0 0,.ref 923 0 0 0]) [iv (i:Int)] ((926,tF f)::Hs k) (λr H'=>r=.pv (.int .u8 (nN s i))/\H'=(926,tF f)::Hs k):=λk i f hi =>
  dQ.clo call289 (aDV s i ((926,tF f)::Hs k) (G k) (h2 k) X X)
 have hfree:∀(G0:aF) (k i:Nat) (E:dG) (o:Ob),G0=Hs 0->E.get 0=N y->E.get 1=N (.ref 921 0 0 0)->E.get 2=N (.ref 924 0 0 0)->E.get 4=N (iv (i:Int)) ->
   cJ G0 E ((926,o)::Hs k) [(0,y),(1,.ref 921 0 0 0),(2,.ref 924 0 0 0),(4,iv (i:Int))] (Hs k):=λG0 k i E o hG q0 A_ q2 q4=>by
  subst hG;exact cJ.front (K:=Hs k) [(926,o)] [] ⟨⟨_,q0,Z⟩,hf k,⟨_,A_,Z⟩,(by rw[D8];simp_all),⟨_,q2,Z⟩,(by rw[D8];simp_all),⟨_,q4,Z⟩,H_,T_⟩ G_ H_ H_ (y_ k) G_
 refine Bd func290 Z ntmps290<|Hi<|Sz aH<|S<|Hj<|aD<|eN (λ(i k:Nat)=>([(0,y),(1,.ref 921 0 0 0),(2,.ref 924 0 0 0),(4,iv (i:Int))],Hs k)) (λi k=>i<=s.size/\k<=m/\(k=0\/cont (k - 1)=true)/\∃n,s.size - i<n/\ds.drop k=kR s n i) (λi k=>s.size - i) 0 0 ⟨k_ _,k_ _,.inl Z,s.size+1,Nat.lt_succ_self _,F_⟩ ?_ ?_
 .exact E0
 rintro i k ⟨hi,hkm,hkc,n,hn,hinv⟩;refine S<|U aA<|Y (aX Z N_ Z (G k) Z Z Z)<|Y (gQ U_)<|V cH<|Cn ?_ ?_<;>intro hc1
 .have hlt:i<T s:=I_ hc1
  obtain ⟨n,rfl⟩:∃n',n=n'+1:=⟨n - 1,X⟩;rw[kR,b6 hlt]at hinv;refine aB<|aD<|U aA<|V aH<|U aA<|Y (oU IQ)<|Y (oU aF2)<|Y (CY (id:=926) Z Jd Z (h6 k))<|Uu (jH sizeOf266)<|Zz<|eT (λ(a:b7×Nat)=>([(0,y),(1,.ref 921 0 0 0),(2,.ref 924 0 0 0),(4,iv (a.2:Int)),(6,.ref 926 0 0 0)],(926,tF a.1)::Hs k)) (λa=>fF s i=(N a.1,a.2)) ?_ ?_
  .refine S ?_;refine gK.ent (E':=[(0,y),(1,.ref 921 0 0 0),(2,.ref 924 0 0 0),(4,iv (i:Int)),(5,iv (i:Int)),(6,.ref 926 0 0 0)]) (H':=(926,tF (wG i))::Hs k) (cJ.get' ⟨⟨_,Z,Z⟩,⟨_,Z,Z⟩,⟨_,Z,Z⟩,⟨_,Z,Z⟩,⟨_,Z,Z⟩,⟨_,Z,Z⟩,T_⟩ (λj=>yC 926 (tF (wG i)) _ (Hs k) j))<|Rd (aX Z isAgg299 Z (J3 k) Z Z Z)<|Y aA<|V (dL Z Z Z (D k i (wG i) X))<|aD<|U cI<|Da<|Cn ?_ ?_<;>intro hc2
   .have e1:nN s i=1:=b9 hc2;have hst:fF s i=(ζ,i+1):=by rw[fF,b6 e1]
    rw[hst]at hinv;refine U aA<|Y iF<|V aH<|aP ?_;exact⟨i+1,k,⟨X,hkm,hkc,n,X,hinv⟩,X,hfree _ _ _ _ _ Z Z Z Z Z⟩
   have n1:nN s i≠1:=b_ hc2;refine U cI<|Da<|Cn ?_ ?_<;>intro hc3
   .have e2:nN s i=2:=b9 hc3;have hst:fF s i=(ζ,HE s i):=by rw[fF,a8 n1,b6 e2]
    rw[hst]at hinv;refine S<|aD<|bA (σ:=Nat) (λj=>([(0,y),(1,.ref 921 0 0 0),(2,.ref 924 0 0 0),(4,iv (j:Int))],(926,tF (wG i))::Hs k)) (λj=>i<=j/\j<=T s/\∀q,i<=q->q<j->wC s q=A) (λj=>T s - j) i ⟨h_ _,hi,λq G h2=>by omega⟩ ?_ ?_
    .exact E0
    rintro j ⟨B,hj,hpre⟩;refine S<|S<|aT (t:=37) (n:=11) (A_:=wC s j) ?_ ?_
    .all_goals refine Y aA<|Y (aX Z N_ Z (G k) Z Z Z)<|Y (gQ U_)<|Y cH<|Dm ?_<;>(refine Sp 32 (λh32=>?_) λh32=>?_)<;>(first|exact s_|refine M<|M<|M<|M ?_|refine O (aX Z N_ Z (G k) Z Z Z)<|O aA<|O (cL Z U_ Z Z X (l_ _) (ltD h32) Z)<|O xN ?_)<;>refine V cE ?_<;>exact Gj (h:=by first|(simp_all[wC];done)|(simp_all[wC];omega))
    refine Cn ?_ ?_<;>intro d_
    .have hjs:j<T s:=by
      have h:=d_;rw[wC,l7,l6]at h;exact h.1
     refine aB<|aD<|Rd aA<|Y iF<|Da ?_;exact⟨j+1,⟨X,X,λq A_ q2=>by
      by_cases e:q=j
      .subst e;exact d_
      exact hpre q A_ (by omega)⟩,by omega,E0⟩
    have z:HE s i=j:=AI _ B X hpre (.inl d_);have hgt:i<j:=by
     rcases Nat.lt_or_ge i j with h|h
     .exact h
     have hji:j=i:=X
     subst hji;rw[wC,À hlt,Bool.true_and,Bool.not_eq_false',l6]at d_;rw[nN,b6 hlt,d_]at e2;exact absurd e2 E_
    rw[z]at hinv;refine aP<|aP ?_;exact⟨j,k,⟨hj,hkm,hkc,n,X,hinv⟩,X,hfree _ _ _ _ _ Z Z Z Z Z⟩
   have n2:nN s i≠2:=b_ hc3;refine U cI<|Da<|Cn ?_ ?_<;>intro hc5
   .have e3:nN s i=3:=b9 hc5;refine S<|U (aX Z isAgg299 Z (J3 k) Z Z Z)<|Y aA<|Y (dL Z Z Z (D k i (wG i) X))<|V aH<|aD<|bA (σ:=Nat) (λj=>([(0,y),(1,.ref 921 0 0 0),(2,.ref 924 0 0 0),(4,iv (j:Int)),(5,iv (i:Int)),(6,.ref 926 0 0 0),(7,.pv (.int .u8 (nN s j)))],(926,tF (wG i))::Hs k)) (λj=>i<=j/\j<=T s/\∀q,i<=q->q<j->wB s q=A) (λj=>T s - j) i ⟨h_ _,hi,λq G h2=>by omega⟩ ?_ ?_
    .exact E0
    rintro j ⟨B,hj,hpre⟩;refine S<|S<|aT (t:=54) (n:=12) (A_:=wB s j) ?_ ?_
    .all_goals refine Y aA<|Y cI<|Dm ?_<;>(refine Sp 47 (λh47=>?_) λh47=>?_)<;>(first|exact s_|refine M<|M ?_|refine O aA<|O cI ?_)<;>refine Y cE<|Dm ?_<;>(refine Sp 51 (λh51=>?_) λh51=>?_)<;>(first|exact s_|refine M<|M ?_|refine O aA<|O cI ?_)<;>refine V cE ?_<;>exact Gj (h:=by(simp only[wB, *];rfl))
    refine Cn ?_ ?_<;>intro hc6
    .have hjs:j<T s:=ZU s j (λe=>by rw[wB,e]at hc6;cases hc6);refine aB<|S<|aD<|Rd aA<|Y iF<|V aH<|Rd (aX Z isAgg299 Z (J3 k) Z Z Z)<|Y aA<|Y (dL Z Z Z (D k (j+1) (wG i) X))<|Da ?_;exact⟨j+1,⟨X,X,λq A_ q2=>by
      by_cases e:q=j
      .subst e;exact hc6
      exact hpre q A_ (by omega)⟩,by omega,E0⟩
    have z:CZ s i=j:=AI _ B X hpre (.inl hc6);have hst:fF s i=(N (BC s i j),j):=by rw[fF,a8 n1,a8 n2,b6 e3,z]
    refine aP<|S<|aN a7<|Cr [921] (λx hH=>by exact aX Z N_ Z ((hH _ Z).trans (G k)) Z Z Z)<|x_ aA<|x_ aA<|x_ (by exact bM (l:=i) (h:=j) Z U_ Z Z Z X X Z)<|Cr [926] (λ_ h=>fh pI h)<|Cr [926] (λ_ h=>fh vW h)<|Cp [926] (λ_ h=>su sizeOf3 h)<|Cr [926] (λ_ h=>fh pI h)<|Cr [926] (λ_ h=>fh iO h)<|Cp [926] (λ_ h=>su V_ h)<|Cr [926] (λ_ h=>fh uE h)<|Cp [926] (λ_ h=>su sizeOf25 h) ?_;refine bF<|Kr<|U aA<|Y aA<|Y (by exact dT Z Z Z (show ξ.wrap ((j:Int) - (i:Int))=((j - i:Nat):Int)by rw[IntKind.wrap_i64];omega))<|V jB ?_;refine Cn ?_ ?_<;>intro hc7
    .have z_:BC s i j=⟨1,s.extract i j,i,2⟩:=by rw[BC,b6 (I_ hc7)]
     rw[z_]at hst;refine Rd (bC uE)<|Uu (ku sizeOf25)<|Zz ?_;exact⟨(⟨1,s.extract i j,i,2⟩,j),hst,cJ.get' ⟨⟨_,Z,Z⟩,⟨_,Z,Z⟩,⟨_,Z,Z⟩,⟨_,Z,Z⟩,⟨_,Z,Z⟩,T_⟩ (λq=>CL [_,_,_,_] H_ q)⟩
    have z_:BC s i j=⟨1,s.extract i j,i,0⟩:=by rw[BC,a8 (J_ hc7)]
    rw[z_]at hst;refine aB ?_;exact⟨(⟨1,s.extract i j,i,0⟩,j),hst,cJ.get' ⟨⟨_,Z,Z⟩,⟨_,Z,Z⟩,⟨_,Z,Z⟩,⟨_,Z,Z⟩,⟨_,Z,Z⟩,T_⟩ (λq=>CL [_,_,_] H_ q)⟩
   have n3:nN s i≠3:=b_ hc5;refine U cI<|Da<|Cn ?_ ?_<;>intro hc8
   .have e4:nN s i=4:=b9 hc8;refine S<|aD<|bA (σ:=Nat) (λj=>([(0,y),(1,.ref 921 0 0 0),(2,.ref 924 0 0 0),(4,iv (j:Int)),(5,iv (i:Int)),(6,.ref 926 0 0 0)],(926,tF (wG i))::Hs k)) (λj=>i<=j/\j<=T s/\∀q,i<=q->q<j->PZ s q=A) (λj=>T s - j) i ⟨h_ _,hi,λq G h2=>by omega⟩ ?_ ?_
    .exact E0
    rintro j ⟨B,hj,hpre⟩;refine S<|U (aX Z isAgg299 Z (J3 k) Z Z Z)<|Y aA<|Y (dL Z Z Z (D k j (wG i) X))<|V cI<|Cn ?_ ?_<;>intro hc9
    .have hjs:j<T s:=ZU s j (λe=>by rw[e]at hc9;cases hc9);refine aB<|aD<|Rd aA<|Y iF<|Da ?_;exact⟨j+1,⟨X,X,λq A_ q2=>by
      by_cases e:q=j
      .subst e;exact hc9
      exact hpre q A_ (by omega)⟩,by omega,E0⟩
    have z:JX s i=j:=AI _ B X hpre (.inl hc9);have hst:fF s i=(N (IK s i j),j):=by rw[fF,a8 n1,a8 n2,a8 n3,b6 e4,z]
    refine aP<|S<|aN a7<|Cr [921] (λx hH=>by exact aX Z N_ Z ((hH _ Z).trans (G k)) Z Z Z)<|x_ aA<|x_ aA<|x_ (by exact bM (l:=i) (h:=j) Z U_ Z Z Z X X Z)<|Cr [926] (λ_ h=>fh pI h)<|Cr [926] (λ_ h=>fh vW h)<|Cp [926] (λ_ h=>su sizeOf3 h)<|Cr [926] (λ_ h=>fh pI h)<|Cr [926] (λ_ h=>fh iO h)<|Cp [926] (λ_ h=>su V_ h)<|Cr [926] (λ_ h=>fh uE h)<|Cp [926] (λ_ h=>su sizeOf25 h) ?_;refine bF<|Kr<|S ?_;refine gK.ent (E':=[(0,y),(1,.ref 921 0 0 0),(2,.ref 924 0 0 0),(4,iv (j:Int)),(5,iv (i:Int)),(6,.ref 926 0 0 0)]) (H':=(926,tF ⟨2,s.extract i j,i,0⟩)::Hs k) (cJ.get' ⟨⟨_,Z,Z⟩,⟨_,Z,Z⟩,⟨_,Z,Z⟩,⟨_,Z,Z⟩,⟨_,Z,Z⟩,⟨_,Z,Z⟩,T_⟩ (λq=>CL [_,_,_] H_ q)) ?_;have h7:θ (7<((j - i:Nat):Int))=θ (7<j - i):=by rw[Bool.eq_iff_iff,l6,l6];omega
    refine Rd (aX Z isAgg299 Z (J3 k) Z Z Z)<|Y aA<|Y (dL Z Z Z (D k j ⟨2,s.extract i j,i,0⟩ X))<|V aH<|S<|aT (t:=105) (n:=14) (A_:=θ (7<((j - i:Nat):Int))||θ (nN s j=3)||θ (nN s j=5)) ?_ ?_
    .all_goals refine Y aA<|Y aA<|Y (by exact dT Z Z Z (show ξ.wrap ((j:Int) - (i:Int))=((j - i:Nat):Int)by rw[IntKind.wrap_i64];omega))<|Y jB<|Dm ?_<;>(refine Sp 98 (λh98=>?_) λh98=>?_)<;>(first|exact s_|refine M<|M ?_|refine O aA<|O cI ?_)<;>refine Y cE<|Dm ?_<;>(refine Sp 102 (λh102=>?_) λh102=>?_)<;>(first|exact s_|refine M<|M ?_|refine O aA<|O cI ?_)<;>refine V cE ?_<;>exact Gj (h:=by first|(simp_all[wB];done)|(simp_all;omega))
    refine Cn ?_ ?_<;>intro u_
    .have z_:IK s i j=⟨2,s.extract i j,i,4⟩:=by rw[IK,<-h7,u_];rfl
     rw[z_]at hst;refine Rd (bC uE)<|Uu (ku sizeOf25)<|Zz ?_;exact⟨(⟨2,s.extract i j,i,4⟩,j),hst,cJ.get' ⟨⟨_,Z,Z⟩,⟨_,Z,Z⟩,⟨_,Z,Z⟩,⟨_,Z,Z⟩,⟨_,Z,Z⟩,T_⟩ (λq=>CL [_] H_ q)⟩
    have z_:IK s i j=⟨2,s.extract i j,i,0⟩:=by rw[IK,<-h7,u_];rfl
    rw[z_]at hst;refine aB ?_;exact⟨(⟨2,s.extract i j,i,0⟩,j),hst,E0⟩
   have n4:nN s i≠4:=b_ hc8;refine U cI<|Da<|Cn ?_ ?_<;>intro R
   .have e7:nN s i=7:=b9 R;have hst:fF s i=(N (FY s i).1,(FY s i).2):=by rw[fF,a8 n1,a8 n2,a8 n3,a8 n4,b6 e7]
    have hexs:T (s.extract i (T s))<=T s - i:=by rw[ByteArray.size_extract];omega
    have hun:=λH=>qe (s.extract i (T s)) H X;have hul:=ml (s.extract i (T s));have ⟨u,hu⟩:∃u,u=BD (s.extract i (T s)):=X_;have hgs:FY s i=if 0<u.2 then(⟨3,u.1,i,0⟩,i+u.2.toNat)else(wG i,i):=by rw[FY,<-hu]
    rw[<-hu]at hun hul;have ⟨ut,un⟩:=u;simp only at hun hul hgs;refine U (aX Z N_ Z (G k) Z Z Z)<|Y aA<|Y (bM (l:=i) (h:=T s) Z U_ Z Z Z X X Z)<|Y (kc call291 (hun _))<|Y aA<|Y dK<|Y dK<|Y aH<|V aH<|S<|U aA<|V jB<|Cn ?_ ?_<;>intro hc12
    .rw[hgs,b6 (b9 hc12)]at hst;refine Rd aA<|Y (bC pI)<|Y (bC vW)<|Uu (ku sizeOf3)<|Y (bC pI)<|Y (bC iO)<|Uu (ku V_)<|Y (bC uE)<|Uu (ku sizeOf25)<|Zz<|Rd aA<|Y aA<|Y (by exact dD Z Z Z (show ξ.wrap ((i:Int)+un)=((i+un.toNat:Nat):Int)by rw[IntKind.wrap_i64];omega))<|Da ?_;exact⟨(⟨3,ut,i,0⟩,i+un.toNat),hst,cJ.get' ⟨⟨_,Z,Z⟩,⟨_,Z,Z⟩,⟨_,Z,Z⟩,⟨_,Z,Z⟩,⟨_,Z,Z⟩,T_⟩ (λq=>CL [_,_,_] H_ q)⟩
    have hu0:=b_ hc12;rw[hgs,a8 hu0]at hst;have e0:i+un.toNat=i:=X
    refine aB<|Rd aA<|Y aA<|Y (by exact dD Z Z Z (show ξ.wrap ((i:Int)+un)=((i+un.toNat:Nat):Int)by rw[IntKind.wrap_i64];omega))<|Da ?_;rw[e0];exact⟨(wG i,i),hst,E0⟩
   have n7:nN s i≠7:=b_ R;refine U cI<|Da<|Cn ?_ ?_<;>intro hc13
   .have e6:nN s i=6:=b9 hc13;have hst:fF s i=(N ⟨4,s.extract i (i+1),i,0⟩,i+1):=by rw[fF,a8 n1,a8 n2,a8 n3,a8 n4,a8 n7,b6 e6]
    refine U aA<|Y iF<|V aH<|aN a7<|Cr [921] (λx hH=>by exact aX Z N_ Z ((hH _ Z).trans (G k)) Z Z Z)<|x_ aA<|x_ aA<|x_ (by exact bM (l:=i) (h:=(i+1)) Z U_ Z Z Z X X Z)<|Cr [926] (λ_ h=>fh pI h)<|Cr [926] (λ_ h=>fh vW h)<|Cp [926] (λ_ h=>su sizeOf3 h)<|Cr [926] (λ_ h=>fh pI h)<|Cr [926] (λ_ h=>fh iO h)<|Cp [926] (λ_ h=>su V_ h)<|Cr [926] (λ_ h=>fh uE h)<|Cp [926] (λ_ h=>su sizeOf25 h) ?_;refine bF<|Kr ?_;exact⟨(⟨4,s.extract i (i+1),i,0⟩,i+1),hst,cJ.get' ⟨⟨_,Z,Z⟩,⟨_,Z,Z⟩,⟨_,Z,Z⟩,⟨_,Z,Z⟩,⟨_,Z,Z⟩,T_⟩ (λq=>CL [_,_,_] H_ q)⟩
   have n6:nN s i≠6:=b_ hc13;have hst:fF s i=(N (wG i),i):=by rw[fF,a8 n1,a8 n2,a8 n3,a8 n4,a8 n7,a8 n6]
   refine aB ?_;exact⟨(wG i,i),hst,E0⟩
  rintro⟨f,j⟩ hst;rw[hst]at hinv;simp only at hinv hst;have ⟨hk1,hk2⟩:=UN hinv;have hkl:=(m9.1 hk1).1;have v_:k<m:=by
   rcases Nat.lt_or_ge k m with h|h
   .exact h
   have hkem:k=m:=Nat.le_antisymm hkm h;subst hkem;rcases f_ with h|⟨h,h'⟩
   .omega
   rcases hkc with h2|h2
   .omega
   rw[h2]at h';cases h'
  have F:C ds=k+1\/cont k=η->k+1=m:=λh=>by
   rcases h with h|h
   .omega
   rcases Nat.lt_or_ge (k+1) m with J3|J3
   .rw[hall k J3]at h;cases h
   omega
  have hyk:=hy k f hk1 v_;cases hck:cont k with
  |false =>
   have H4:=F (.inr hck);rw[hck]at hyk;refine U aA<|Y (xB isAgg266 sizeOf266)<|Y (dL Z Z Z (hyk))<|Y iJ<|Y aA<|M<|M<|M<|V cE<|Cn ?_ ?_<;>intro hc14
   .refine aC ?_;rw[<-H4];exact pL (H':=Hs (k+1)) (.inr Z) Z (Fin.pops' [(926,tF f)] H_ (y_ _) (by simp[h6]) (by simp[h6])) ⟨Z,Z⟩
   cases hc14
  | true =>
   rw[hck]at hyk;refine U aA<|Y (xB isAgg266 sizeOf266)<|Y (dL Z Z Z (hyk))<|Y iJ<|Y aA<|O (bC uE)<|O (bT nP)<|O xN<|V cE<|Cn ?_ ?_<;>intro W
   .have hne:f.err≠0:=by
     have h:=W
     simpa using h
    rw[a8 hne]at hk2;have H4:=F (.inl (by have:=drop_eq_nil_iff.1 hk2;omega));refine aC ?_;rw[<-H4];exact pL (H':=Hs (k+1)) (.inr Z) Z (Fin.pops' [(926,tF f)] H_ (y_ _) (by simp[h6]) (by simp[h6])) ⟨Z,Z⟩
   have he0:f.err=0:=by
    have h:=W
    simpa using h
   have ⟨g1,g2⟩:=QI hst he0 hlt;rw[b6 he0]at hk2;refine aB ?_;exact⟨j,k+1,⟨g2,v_,.inr hck,n,X,hk2⟩,X,hfree _ _ _ _ _ Z Z Z Z Z⟩
 have hge:T s<=i:=J_ hc1
 have hnil:kR s n i=[]:=by
  cases n with
  |zero=>rfl
  |succ n=>rw[kR,a8 X]
 rw[hnil]at hinv;have hkd:=drop_eq_nil_iff.1 hinv;have H4:k=m:=X
 refine aP ?_;rw[<-H4];exact pL (H':=Hs k) (.inl Z) Z Fin.refl ⟨Z,Z⟩
def K_(f:b7):List PV:=[.int .i64 f.kind,.str f.text,.int .i64 f.pos]
def DA(l:List b7):PV:=.sl (l.map K_)
def mA(l:List b7):List (List AV):=l.map λf=>(K_ f).map AV.pv
theorem yO(l):C (mA l)=C l:=g_ _
theorem C4(l)(f):mA l++[(K_ f).map AV.pv]=mA (l++[f]):=by rw[mA,mA,È];rfl
theorem cV(H)(l):∀r∈mA l,∀a∈r,Clo H a:=by intro r c a b;obtain ⟨d,_,rfl⟩:=mem_map.1 c;obtain ⟨p,_,rfl⟩:=mem_map.1 b;simp
instance(H)(l):W_ (H) (mA l):=⟨cV H l⟩
theorem tO{H}(e:(H.get 921).isSome=A)(f:(H.get 923).isSome=A):∀r∈tA.rows,∀a∈r,Clo H a:=by intro r c a d;simp[tA,bx,q9]at c;subst c;rw[q9]at d;subst d;simp[e,f]
theorem tN(H)(s):∀r∈(tS s).rows,∀a∈r,Clo H a:=by intro r c a b;simp[tS,bx,q9]at c;subst c;rw[q9]at b;subst b;simp
instance(H)(s):W_ (H) ((tS s).rows):=⟨tN H s⟩
def kW:List b7->List b7->List b7×Int×Int
 |acc,[]=>(acc,0,0)
 |acc,f::r=>if f.err≠0 then([],f.err,f.pos)else if C acc=5000 then([],2,f.pos)else kW (acc++[f]) r
def fS(s:B_):List b7×Int×Int:=if 20000<T s then([],2,-1)else kW [] (kR s (T s+1) 0)
def tX(ds:List b7)(k:Nat):Bool:=match ds[k]? with
 |some f=>θ (f.err=0)&&!θ (k=5000)
 |none=>A
theorem N4{b}:∀ {k},k<=C b->(∀j,j<k->tX b j=A)->kW [] b=kW (b.take k) (b.drop k)
 |0,_,_=>rfl
 |k+1,c,h=>by
  rw[N4 (Nat.le_of_succ_le c) (λj hj=>h j (by omega))];have d:=List.drop_eq_getElem_cons c;have a:=h k (Nat.lt_succ_self k);rw[tX,m_ c]at a;simp[l7,l6,r9,q7]at a;have htl:(b.take k).length=k:=G_
  rw[d,kW,a8 (λh=>h a.1),a8 X,Í,m_ _];rfl
theorem BX(s):∀(n i),C (kR s n i)<=n
 |0,_=>k_ _
 | n+1,i=>by
  rw[kR]
  split
  .split
   .exact Nat.le_succ_of_le (BX s n _)
   split
   .exact Nat.succ_le_succ (BX s n _)
   simp_all
  simp_all
def kL(s:B_)(L:List b7)(a:AV)(e p:Int):aF:=[(905,⟨C L,3,189,mA L⟩),(5,bx 1 185 [.osl 905 (C L) 0 (C L)]),(924,tA),(923,tC),(921,tS s),(4,bx 1 3 [iv p]),(3,bx 1 25 [iv e]),(2,bx 1 185 [a])]
theorem Qb(s)(L)(f)(a)(e p):kL s (L++[f]) a e p=[(905,⟨C L+1,3,189,mA (L++[f])⟩),(5,bx 1 185 [.osl 905 (C L+1) 0 (C L+1)]),(924,tA),(923,tC),(921,tS s),(4,bx 1 3 [iv p]),(3,bx 1 25 [iv e]),(2,bx 1 185 [a])]:=by simp[kL]
def wH:dG:=[(2,.ref 2 0 0 0),(3,.ref 3 0 0 0),(4,.ref 4 0 0 0),(5,.ref 5 0 0 0)]
theorem LI{a}{k}{f}(h:a[k]?=N f):tX a k=(θ (f.err=0)&&!θ (k=5000)):=by rw[tX,h]
theorem m5{p:Prop}(h:p:=by simp[wH];exact⟨Z,Z,Z,Z⟩):p:=h
theorem aBA(s:B_)(H:aF)(n:T s<2^40):RC 203 [sv s] (.tup [.pv (DA (fS s).1),iv (fS s).2.1,iv (fS s).2.2]) H:=by
 refine Pu<|Bd func203 Z ntmps203<|U (kl 2 aAh)<|Y (kl 3 aBW)<|V (kl 4 zo3)<|S<|U aA<|Y (gQ U_)<|V jB<|Cn ?_ ?_<;>intro L
 .have e:fS s=([],2,-1):=by rw[fS,b6 (I_ L)]
  rw[e];refine Sr<|Uu (jH oM)<|Uu (jH sizeOf25)<|Uu (jH sizeOf3)<|Zz<|aC<|mP (H':=[]) (.inr Z) Z (iT Z nV Z Z Z Z) (iT Z nP Z Z Z Z) (iT Z M_ Z Z Z Z) P_ ?_;exact Qq
 have f_:¬ 20000<T s:=by have:=b_ L;omega
 have ⟨ds,E⟩:∃ds,ds=kR s (T s+1) 0:=X_;have y_:fS s=kW [] ds:=by rw[fS,a8 f_,E]
 refine aB<|Sz (kl 5 Ja)<|S<|U aA<|V (kc call254 (gv s _ Z Z Z (dO.ofL ⟨F_,F_,F_,F_,T_⟩)))<|aD ?_;refine gK.ent (E':=[(2,.ref 2 0 0 0),(3,.ref 3 0 0 0),(4,.ref 4 0 0 0),(5,.ref 5 0 0 0),(11,.clo 290 [.ref 921 0 0 0,.ref 924 0 0 0])]) (H':=[(905,⟨0,3,189,[]⟩),(5,bx 1 185 [.osl 905 0 0 0]),(924,tA),(923,tC),(921,tS s),(4,bx 1 3 [iv 0]),(3,bx 1 25 [iv 0]),(2,bx 1 185 [.pv (.sl [])])]) ?_ ?_
 .exact (Q_ 905 3 189)
 have z:C ds<=T s+1:=by rw[E];exact BX s _ _
 have ⟨j,hj⟩:∃j,j=AA (tX ds) (C ds) 0:=X_;have b:j<=C ds:=by have:=(GT (tX ds) (C ds) 0).2;omega
 have I:∀k,k<j->tX ds k=A:=λk g=>KO (tX ds) (C ds) 0 k (k_ _) X;have A_:j<C ds->tX ds j=η:=λh=>by have:=yJ (tX ds) (C ds) 0 X;rwa [<-hj]at this
 have t:=N4 b I;refine CS (id:=904) (p:=12) wH Z call290 Z Z m5 ?_;intro x c l u_ v_ W R;have G:∀(k:Nat) (d:b7),ds[k]?=N d->k<=j ->
   dQ φ (.yld 904 0) [.agg ((MI d).map .pv)] ((904,LR x wH)::(926,tF d)::kL s (ds.take k) (.pv (.sl [])) 0 0) (λr H'=>r=bv (tX ds k)/\H'=(if tX ds k then(904,LR x wH)::(926,tF d)::kL s (ds.take (k+1)) (.pv (.sl [])) 0 0 else(904,LR (left x .ret) wH)::(926,tF d)::kL s (ds.take k) (.pv (.sl [])) (if d.err≠0 then d.err else 2) d.pos)):=by
  intro k d u D;have B:=LI u;have τ:k<C ds:=(m9.1 u).1;have σ:C (ds.take k)=k:=by rw[n_];omega
  have i:ds.take (k+1)=ds.take k++[d]:=by rw[List.take_add_one,u];rfl
  refine .inl ⟨904,0,Z,?_⟩;refine M7 [(2,.ref 2 0 0 0),(3,.ref 3 0 0 0),(4,.ref 4 0 0 0),(5,.ref 5 0 0 0),(6,.ref 907 0 0 0)] ((907,tF d)::(926,tF d)::kL s (ds.take k) (.pv (.sl [])) 0 0) c l u_ v_ W R Z Z Z ?_ ?_
  .refine Rd (kl 907 Jd)<|Uu (jH sizeOf266)<|Zz ?_;exact(cJ.wk (Ea<|Ea<|Ea<|Ea<|Ea<|T_) (Hc (oN m5)<|Hc (A2 _ _)<|Hc (A2 _ _)<|Hc (cV _ _)<|Ha<|Hc (tO Z Z)<|Hc (kT _)<|Hc (tN _ _)<|Hb<|Hb<|Hb<|T_) ⟨Z,Z,Z,Z,Z,Z,Z,Z,Z,Z,T_⟩)
  refine aD<|S<|aD<|U (bC uE)<|Y (bT nP)<|Y xN<|Da<|Cn ?_ ?_<;>intro y
  .have v:d.err≠0:=by have h:=y;rw[r9,q7]at h;exact h
   have K:tX ds k=η:=by rw[B,Á v];rfl
   rw[K,a8 E_,b6 v];refine S<|aN a7<|Cr [907] (λ_ h=>fh uE h)<|Cr [907] (λ_ h=>lh nP h)<|Cr [907] (λ_ h=>fh pI h)<|Cr [907] (λ_ h=>fh RQ h)<|Cr [907] (λ_ h=>lh M_ h)<|Cp [2] (λ_ h=>sa oM h)<|Cp [3] (λ_ h=>sa sizeOf25 h)<|Cp [4] (λ_ h=>sa sizeOf3 h)<|bF<|Kr<|aC ?_;exact⟨(926,tF d)::kL s (ds.take k) (.pv (.sl [])) d.err d.pos,(cJ.wk T_ (Hc (oN m5)<|Hc (A2 _ _)<|Hc (cV _ _)<|Ha<|Hc (tO Z Z)<|Hc (kT _)<|Hc (tN _ _)<|Hb<|Hb<|Hb<|T_) ⟨Z,Z,Z,Z,Z,Z,Z,Z,Z,Z,T_⟩),Z,Z⟩
  have v:d.err=0:=by have h:=y;rw[Bool.not_eq_false',l6]at h;exact h
  refine U (bT nV)<|Y (by exact eB Z cU Z Z Z)<|Y cI<|Da<|Cn ?_ ?_<;>intro a
  .have w:k=5000:=by have:=b9 a;omega
   have K:tX ds k=η:=by rw[B,À v,À w];rfl
   rw[K,a8 E_,a8 (λh=>h v)];refine S<|aN a7<|Cr [907] (λ_ h=>fh pI h)<|Cr [907] (λ_ h=>fh RQ h)<|Cr [907] (λ_ h=>lh M_ h)<|Cp [2] (λ_ h=>sa oM h)<|Cp [3] (λ_ h=>sa sizeOf25 h)<|Cp [4] (λ_ h=>sa sizeOf3 h)<|bF<|Kr<|aC ?_;exact⟨(926,tF d)::kL s (ds.take k) (.pv (.sl [])) 2 d.pos,(cJ.wk T_ (Hc (oN m5)<|Hc (A2 _ _)<|Hc (cV _ _)<|Ha<|Hc (tO Z Z)<|Hc (kT _)<|Hc (tN _ _)<|Hb<|Hb<|Hb<|T_) ⟨Z,Z,Z,Z,Z,Z,Z,Z,Z,Z,T_⟩),Z,Z⟩
  have w:¬ k=5000:=by have:=b_ a;omega
  have K:tX ds k=A:=by rw[B,À v,Á w];rfl
  rw[K,b6 Z,i,Qb];refine aB<|Rd (bT nV)<|Y (bC pI)<|Y (xB jF sizeOf189)<|Y (by exact aM [K_ d] Z iK Z Z Z Z Z R_)<|Y (by exact bU (ps:=[K_ d]) Z iK Bc Z Z Z Z Z (yO _) Z R_ (m:=1) Z X Z (C4 (ds.take k) d))<|Uu (jH oM)<|Zz ?_;exact⟨(926,tF d)::[(905,⟨(ds.take k).length+1,3,189,mA (ds.take k++[d])⟩),(5,bx 1 185 [.osl 905 ((ds.take k).length+1) 0 ((ds.take k).length+1)]),(924,tA),(923,tC),(921,tS s),(4,bx 1 3 [iv 0]),(3,bx 1 25 [iv 0]),(2,bx 1 185 [.pv (.sl [])])],(cJ.wk T_ (Hc (oN m5)<|Hc (A2 _ _)<|Hc (cV _ _)<|Ha<|Hc (tO Z Z)<|Hc (kT _)<|Hc (tN _ _)<|Hb<|Hb<|Hb<|T_) ⟨Z,Z,Z,Z,Z,Z,Z,Z,Z,Z,T_⟩),Z,Z⟩
 rcases Nat.lt_or_ge j (C ds) with q|hge
 .have ⟨f,hf⟩:=aQ q;have F:=A_ q;have Q:ds.drop j=f::ds.drop (j+1):=by
   rw[List.drop_eq_getElem_cons q];rw[m_ q]at hf;cases hf;rfl
  have o:fS s=([],(if f.err≠0 then f.err else 2),(f.pos:Int)):=by
   rw[y_,t,Q,kW]
   split
   .rfl
   rename_i v;have J3:f.err=0:=by
    by_cases h:f.err=0
    .exact h
    exact absurd h v
   rw[LI hf,À J3,Bool.true_and,Bool.not_eq_false',l6]at F;rw[b6 (by rw[n_];omega)]
  rw[o];refine(NB s (.yld 904 0) (λk=>if k<=j then(904,LR x wH)::kL s (ds.take k) (.pv (.sl [])) 0 0 else(904,LR (left x .ret) wH)::kL s (ds.take j) (.pv (.sl [])) (if f.err≠0 then f.err else 2) f.pos) (tX ds) (j+1) n (λk=>?_) (λk=>?_) (λk=>?_) (λk=>?_) (λk=>?_) (λk=>?_) (by rw[<-E];exact q) (λk g=>I k X) (.inr ⟨succ_pos _,by rw[Nat.add_sub_cancel];exact F⟩) ?_).mono ?_
  .split<;>rfl
  .split<;>rfl
  .split<;>rfl
  .split<;>rfl
  .split
   .exact(dO.ofL ⟨(by exact oN m5),(cV _ _),x8,(tO Z Z),(kT _),(tN _ _),r5,r5,r5,T_⟩)
   exact(dO.ofL ⟨(by exact oN m5),(cV _ _),x8,(tO Z Z),(kT _),(tN _ _),r5,r5,r5,T_⟩)
  .split<;>(simp;rfl)
  .rw[<-E];intro k d u g;have J:=G k d u X;rw[b6 X];by_cases D:k=j
   .subst D;rw[hf]at u;cases u;rw[F,a8 E_]at J;rw[a8 X,F];exact dQ.congrG J (λj=>nM E_ j) (λj=>nM E_ j)
   have B:=I k X;rw[B,b6 rfl]at J;rw[b6 X,B];exact dQ.congrG J (λj=>nM E_ j) (λj=>nM E_ j)
  rintro r H' ⟨rfl,rfl⟩;rw[a8 X];refine⟨left x .ret,_,Z,by simp[left],Z,λz=>?_⟩;show OX _ _ _ _ _ _ _;refine mP (H':=[]) (.inr Z) Z (iT Z nV Z Z Z Z) (iT Z nP Z Z Z Z) (iT Z M_ Z Z Z Z) P_ ?_;exact Qq
 have P:j=C ds:=Nat.le_antisymm b hge;rw[P,Ë,drop_length]at t;rw[y_,t,kW];refine(NB s (.yld 904 0) (λk=>(904,LR x wH)::kL s (ds.take k) (.pv (.sl [])) 0 0) (tX ds) (C ds) n (λk=>rfl) (λk=>rfl) (λk=>rfl) (λk=>rfl) (λk=>(dO.ofL ⟨(by exact oN m5),(cV _ _),x8,(tO Z Z),(kT _),(tN _ _),r5,r5,r5,T_⟩)) (λk=>by simp;rfl) (by rw[<-E];exact h_ _) (λk g=>I k X) (.inl (by rw[<-E])) ?_).mono ?_
 .rw[<-E];intro k d u g;have J:=G k d u X;have B:=I k X;rw[B,b6 rfl]at J;rw[B];exact dQ.congrG J (λj=>nM E_ j) (λj=>nM E_ j)
 rintro r H' ⟨rfl,rfl⟩;rw[Ë];refine⟨x,_,Z,by rw[c];decide,Z,λz=>?_⟩;rw[l];refine U (bT nV)<|Uu (jH oM)<|Uu (jH sizeOf25)<|Uu (jH sizeOf3)<|Zz<|aC ?_;refine mP (H':=[]) (.inr Z) Z (iT Z nV Z Z Z Z) (iT Z nP Z Z Z Z) (iT Z M_ Z Z Z Z) (Fin.fz (r':=.tup [.pv (DA ds),iv 0,iv 0]) (id:=905) (ob:=⟨C ds,3,189,mA ds⟩) (ds.map K_) Z (by rw[Ò];rfl) (.tup Z (bG (.osl (qs:=ds.map K_) (by rw[r8,É];exact Æ (Nat.le_of_eq (g_ K_)))) (bG (.same H_) (bG (.same H_) jV)))) Z T_ T_) ?_;exact Qq
def E9:List b7->Option (List m8)
 | []=>N []
 |a::_::c::r=>(E9 r).map λl=>⟨a.text,c.text⟩::l
 |_=>ζ
def XQ(l:List b7)(k:Nat):m8:=⟨((l[3*k]?).map b7.text).getD a6,((l[3*k+2]?).map b7.text).getD a6⟩
def fU(l:List b7)(k:Nat):List m8:=(List.range k).map (XQ l)
theorem F9(l)(k):fU l (k+1)=fU l k++[XQ l k]:=by rw[fU,á,È];rfl
theorem IL(l)(k):C (fU l k)=k:=by rw[fU,g_,length_range]
def tL(l:List m8):List (List AV):=l.map λt=>(bZ t).map AV.pv
theorem IW(l):C (tL l)=C l:=g_ _
theorem IX(l)(t):tL l++[(bZ t).map AV.pv]=tL (l++[t]):=by rw[tL,tL,È];rfl
theorem lI(H)(l):∀r∈tL l,∀a∈r,Clo H a:=by intro r c a b;obtain ⟨d,_,rfl⟩:=mem_map.1 c;obtain ⟨p,_,rfl⟩:=mem_map.1 b;simp
instance(H)(l):W_ (H) (tL l):=⟨lI H l⟩
theorem JJ:∀(r acc),C (kW acc r).1<=C acc+C r
 | [],acc=>h_ _
 |f::r,acc=>by
  rw[kW]
  split
  .simp_all
  split
  .simp_all
  have:=JJ r (acc++[f]);rw[j7,Å]at this;rw[j6];omega
theorem xY(s)(h:T s<2^40):C (fS s).1<549755813888:=by
 unfold fS
 split
 .decide
 have a:=JJ (kR s (T s+1) 0) [];have B:=BX s (T s+1) 0;rw[Â]at a;omega
theorem aS(s:B_):C s.data.toList=T s:=rfl
theorem mC{a b:B_}(h:ν (μ a)=ν (μ b)):a=b:=by cases a with|mk a=>simp_all
theorem fW(s:B_)(i j):(s.extract i j).data.toList=(s.data.toList.drop i).take (j - i):=H_
theorem qU{s}{i}{c}{r}(h:s.data.toList.drop i=c::r):i<T s/\aZ s i=(c.toNat)/\s.data.toList.drop (i+1)=r:=by have ⟨a,b⟩:=UN h;refine⟨by rw[<-aS];grind,by rw[aZ,a];rfl,b⟩
theorem J1{s}{i}{c}{r}(h:s.data.toList.drop i=c::r):nN s i=zL (c.toNat):=by have ⟨a,b,_⟩:=qU h;rw[nN,b6 a,b]
theorem Bq{s}{i}(h:s.data.toList.drop i=[]):nN s i=0:=by have:=drop_eq_nil_iff.1 h;rw[aS]at this;rw[nN,a8 X]
theorem fT{i}{w r}(h:s.data.toList.drop i=w++r):s.data.toList.drop (i+C w)=r:=by rw[<-drop_drop,h,Õ]
theorem Bf{k:Nat}{w r}{c:UInt8}(h:s.data.toList.drop i=w++r)(b:w[k]?=N c):s.data.toList.drop (i+k)=c::((w.drop (k+1))++r):=by
 have a:=(m9.1 b).1;have e:w=w.take k++c::w.drop (k+1):=by
  conv=>lhs;rw[<-Ñ k w]
  rw[Ô a,(m9.1 b).2]
 have f:s.data.toList.drop i=w.take k++(c::w.drop (k+1)++r):=by
  grind
 have d:=fT f;rw[n_,Nat.min_eq_left X]at d;exact d
theorem AY{i}{w r}(h:s.data.toList.drop i=w++r):s.extract i (i+C w)=⟨w.toArray⟩:=by
 refine mC ?_
 simp_all
theorem sW{i}:(s.extract i (T s)).data.toList=s.data.toList.drop i:=by rw[fW];exact Æ H_
theorem DO{k}(h:cK k=A):0<T k/\T k<=24/\zL (aZ k 0)=3/\∀j,j<T k->(zL (aZ k j)=3\/zL (aZ k j)=4\/zL (aZ k j)=5):=by
 rw[cK,l7,l7,r9,r9,any_eq_false,q7,l6]at h;have ⟨i,l,B⟩:=h;have a:0<T k:=by
  rcases eq_zero_or_pos (T k) with e|e
  .refine absurd (mC ?_) l
   simp_all
  exact e
 have f:=λj b=>by
  have:=i j (mem_range.2 b)
  simpa using this
 refine⟨a,X,?_,λj b=>?_⟩
 .have:=f 0 a
  simpa[oh]using this
 have:=f j b;rw[oh]at this;by_cases c:zL (aZ k j)=3
 .exact .inl c
 by_cases g:zL (aZ k j)=4
 .exact .inr (.inl g)
 by_cases d:zL (aZ k j)=5
 .exact .inr (.inr d)
 simp[c,g,d]at this
theorem Zf{k}{j}(h:j<T k):∃c,k.data.toList[j]?=N c/\aZ k j=(c.toNat):=by exact⟨_,m_ h,by rw[aZ,m_ h];rfl⟩
theorem Cx{k:B_}(h:s.data.toList.drop i=ν (μ k)++r)(w:cK k=A)(x:∀c r',r=c::r'->zL (c.toNat:Int)≠3/\zL (c.toNat:Int)≠4/\zL (c.toNat:Int)≠5):
  fF s i=(N ⟨1,k,i,0⟩,i+T k):=by
 have ⟨a,D,v,b⟩:=DO w;have g:∀j,j<T k->nN s (i+j)=zL (aZ k j):=λj u=>by
  have ⟨c,p,e⟩:=Zf u;rw[J1 (Bf h p),e]
 have B:=by
  have:=congrArg List.length h;rw[q6,j7,aS,aS]at this;omega
 have l:nN s i=3:=by
  have:=g 0 a;rw[Nat.add_zero,v]at this;exact this
 have d:CZ s i=i+T k:=by
  refine AI (wB s) X X (λj E F=>?_) ?_
  .have:=g (j - i) X;rw[show i+(j - i)=j by omega]at this;rw[wB,this];rcases b (j - i) X with e|e|e<;>rw[e]<;>rfl
  left;have n:=fT h;rw[aS]at n;cases r with
  |nil=>rw[wB,Bq n];rfl
  |cons c r' =>
   have ⟨t,o,q⟩:=x c r' Z;rw[wB,J1 n,Á t,Á o,Á q];rfl
 have f:=AY h;rw[aS]at f;have m:(⟨k.data.toList.toArray⟩:B_)=k:=mC H_;rw[fF,a8 X,a8 X,b6 l,d,BC,f,m,a8 X]
theorem Vx{s}{i}{r}(h:s.data.toList.drop i=32::r):fF s i=(ζ,i+1):=by
 have a:nN s i=1:=by rw[J1 h];rfl
 rw[fF,b6 a]
theorem gm:∀(v r),oO (v.flatMap rF++34::r)=N (v,C (v.flatMap rF)+1)
 | [],r=>C1
 | b::v,r=>by
  have d:=gm v r;rw[Ç,Ã];by_cases a:b=10
  .have e:rF b=[92,110]:=by rw[rF,b6 a]
   rw[e];show oO (92::110::(v.flatMap rF++34::r))=_;rw[vR,d,a];show N _=N _
   grind
  by_cases c:b=34\/b=92
  .have e:rF b=[92,b]:=by rw[rF,a8 a,b6 c]
   have g:tZ b=N b:=by
    rcases c with e|e<;>subst e<;>rfl
   rw[e];show oO (92::b::(v.flatMap rF++34::r))=_;rw[vR,d,g]
   grind
  have e:rF b=[b]:=by rw[rF,a8 a,a8 c]
  have f:b≠34/\b≠92:=⟨λe=>c (.inl e),λe=>c (.inr e)⟩;rw[e];show oO (b::(v.flatMap rF++34::r))=_;rw[C2 f.1 a f.2,d]
  grind
theorem KJ{v:B_}(h:s.data.toList.drop i=cZ (ν (μ v))++r):fF s i=(N ⟨3,v,i,0⟩,i+C (cZ (ν (μ v)))):=by
 have b:s.data.toList.drop i=34::(v.data.toList.flatMap rF++34::r):=by rw[h,cZ];simp
 have c:nN s i=7:=by rw[J1 b];rfl
 have d:BD (s.extract i (T s))=(v,((C (v.data.toList.flatMap rF)+1+1:Nat):Int)):=by
  rw[BD,sW,b,Ü,É,gm]
 have e:FY s i=(⟨3,v,i,0⟩,i+C (cZ (ν (μ v)))):=by
  rw[FY,d,b6 X];congr 1;congr 1;rw[l_,cZ,j6,j7,Å]
 rw[fF,a8 X,a8 X,a8 X,a8 X,b6 c,e]
def UF(t:m8):List UInt8:=ν (μ t.key)++61::cZ (ν (μ t.val))
theorem N3(t):(jC t).data.toList=UF t:=by rw[jC,UF];simp
def nZ(l:List m8):List UInt8:=l.flatMap λt=>32::UF t
def V3(J3:List b7)(l:List m8):Prop:=E9 J3=N l/\(∀f,f∈J3->f.err=0)/\C J3=3*C l
theorem V3.cons{J3}{l}{a b c}(h:V3 J3 l)(E:a.err=0)(F:b.err=0)(G:c.err=0):V3 (a::b::c::J3) (⟨a.text,c.text⟩::l):=by
 have ⟨d,B,D⟩:=h;refine⟨by rw[E9,d];rfl,λf H=>?_,G_⟩
 grind
theorem XO(t)(l):(Y6 (t::l)).data.toList=UF t++nZ l:=by show bW _ (bs ((t::l).map _))=_;rw[bs,Ò];show (jC t).data.toList++_=_;rw[N3,Ø];congr 1;congr 1;funext x;show [32]++(jC x).data.toList=_;rw[N3];rfl
theorem N5:∀(J3 acc),(∀f,f∈J3->f.err=0)->C acc+C J3<=5000->kW acc J3=(acc++J3,0,0)
 | [],acc,_,_=>by rw[kW,List.append_nil]
 |f::J3,acc,h,b=>by
  rw[j6]at b;rw[kW,a8 (λe=>e (h f List.mem_cons_self)),a8 (by omega),N5 J3 _ (λg a=>h g (List.mem_cons_of_mem _ a)) (by grind),List.append_assoc];rfl
end Go.Proofs.C
namespace Go.Abs
def dX(c:UInt8):List UInt8->List (List UInt8)
 | []=>[[]]
 |b::l=>if b=c then[]::dX c l else((b::(dX c l).headD [])::(dX c l).tail)
theorem sD(c)(l):0<C (dX c l):=by
 cases l with
 |nil=>exact Nat.zero_lt_one
 |cons b l=>rw[dX];all_goals grind
theorem sQ{c}:∀ {w},c∉w->dX c w=[w]
 | [],_=>rfl
 |b::w,h=>by
  rw[l9,not_or]at h;rw[dX,a8 (λe=>h.1 e.symm),sQ h.2];rfl
theorem kJ{c}{l}:∀ {w},c∉w->dX c (w++c::l)=w::dX c l
 | [],_=>by rw[List.nil_append,dX,b6 rfl]
 |b::w,h=>by
  rw[l9,not_or]at h;rw[List.cons_append,dX,a8 (λe=>h.1 e.symm),kJ h.2];rfl
theorem yP(c):∀l,C (dX c l)=l.count c+1
 | []=>rfl
 |b::l=>by
  have a:=yP c l;rw[dX];by_cases h:b=c
  .rw[b6 h,j6,a,h,count_cons_self]
  rw[a8 h,j6,length_tail,count_cons_of_ne h];omega
def sI:List UInt8->List (List UInt8)
 | []=>[]
 |b::l=>if b=10 then[10]::sI l else match sI l with
  | []=>[[b]]
  |w::r=>(b::w)::r
theorem JI{l}:∀ {w},10∉w->sI (w++10::l)=(w++[10])::sI l
 | [],_=>rfl
 |b::w,h=>by
  rw[l9,not_or]at h;rw[List.cons_append,sI,a8 (λe=>h.1 e.symm),JI h.2];rfl
theorem O9:∀ {w},10∉w->w≠[]->sI w=[w]
 | [],_,h=>absurd Z h
 |b::w,h,_=>by
  rw[l9,not_or]at h;rw[sI,a8 (λe=>h.1 e.symm)];by_cases e:w=[]
  .subst e;rfl
  rw[O9 h.2 e]
theorem II:∀ {ls:List _},(∀w∈ls,10∉w)->sI (ls.flatMap (·++[10]))=ls.map (·++[10])
 | [],_=>rfl
 |w::ls,h=>by
  rw[List.flatMap_cons,List.append_assoc,List.singleton_append,JI (h w List.mem_cons_self),II λx a=>h x (List.mem_cons_of_mem _ a)];rfl
theorem zE{c}:∀ {l},Lib.indexByte l c = -1↔c∉l
 | []=>by simp[Lib.indexByte]
 |b::l=>by
  have D:=zE (c:=c) (l:=l);have B:=Lib.indexByte_ge l c;rw[Lib.indexByte];all_goals grind
theorem zF{c}:∀ {l},Lib.indexByte l c ≠ -1->∃w r,l=w++c::r/\c∉w/\Lib.indexByte l c=(C w)
 | [],h=>absurd Z h
 |b::l,h=>by
  by_cases e:b=c
  .subst e;exact⟨[],l,Z,by simp,by simp[Lib.indexByte]⟩
  have d:Lib.indexByte l c ≠ -1:=λF=>h (by rw[Lib.indexByte];simp_all);have ⟨w,r,B,D,E⟩:=zF d;refine⟨b::w,r,F_,G_,?_⟩;rw[Lib.indexByte]
  simp_all
end Go.Abs
namespace Go.Abs
open Go.Lib
theorem Bh{d}(h:d<10):digitVal (UInt8.ofNat (48+d))=N d:=by
 have e:(UInt8.ofNat (48+d)).toNat=48+d:=by rw[UInt8.toNat_ofNat'];omega
 rw[digitVal,b6 X];congr 1;omega
theorem D5{b}{d}(a:digitVal b=N d):∀(l) (acc),decFrom acc (l++[b])=(decFrom acc l).map λn=>n*10+d
 | [],acc=>by
  simp[decFrom,a]
 |c::l,acc=>by
  rw[List.cons_append,decFrom,decFrom];cases h:digitVal c with
  |none=>rfl
  |some x=>exact D5 a l _
theorem oI(u:Nat):decDigits u≠[]:=by
 rw[decDigits]
 split
 .simp
 simp
theorem jW(u):decFrom 0 (decDigits u)=N u:=by
 induction u using Nat.strongRecOn with
 |ind u B =>
  rw[decDigits]
  split
  .rename_i h;rw[<-Ó [_],D5 (Bh h)];simp[decFrom]
  rw[D5 (Bh (mod_lt u H_))]
  grind
theorem qF{b}:∀(u),b∈decDigits u->48<=b.toNat/\b.toNat<=57:=by
 intro u
 induction u using Nat.strongRecOn with
 |ind u B =>
  rw[decDigits]
  split
  .intro a;rw[q9]at a;subst a;rw[UInt8.toNat_ofNat'];omega
  intro a;rcases mem_append.1 a with a|a
  ·grind
  rw[q9]at a;subst a;rw[UInt8.toNat_ofNat'];omega
theorem kQ(n)(h:0<=n):itoa n=decDigits n.toNat:=by rw[itoa,a8 X]
theorem Hl{n}(h:0<=n):atoi (itoa n)=N n:=by
 rw[kQ n h];have ⟨u,a⟩:∃u,u=n.toNat:=X_;rw[<-a];have D:=jW u;have E:∀b∈decDigits u,48<=b.toNat/\b.toNat<=57:=λb=>qF u;cases e:decDigits u with
 |nil=>exact absurd e (oI u)
 |cons b r =>
  have c:decNat (b::r)=N u:=by rw[decNat];simp_all
  unfold atoi;simp[c];have B:b≠43:=λh=>by simp_all
  split<;>simp_all
  omega
theorem cY:∀ {k u},u<10 ^ k->0<k->C (decDigits u)<=k
 |0,_,_,h=>absurd h (Nat.lt_irrefl 0)
 | k+1,u,h,_=>by
  rw[decDigits]
  split
  .simp
  rw[j7,List.length_singleton];have b:0<k:=by
   grind
  have a:u / 10<10 ^ k:=X
  have:=cY a b;omega
theorem EC{n}(h:0<=n)(B:n<1000000000000000000):atoiAll (itoa n)=.ok n:=by
 have a:C (itoa n)<=18:=by
  rw[kQ n h];exact cY X H_
 rw[atoiAll_short _ a,Hl h];rfl
end Go.Abs
namespace Go.Proofs.C
open Go.Proofs.Tryz
open Go.Abs
variable{s:B_}{α:Type}{o:l8}
def mN(o:l8):List UInt8:=(eQ o.kind).data.toList++32::(ν (μ o.id)++32::(if o.kind=1 then Lib.itoa o.x++32::Lib.itoa o.y else 40::(bW [32] (bs o.refs)++[41])))
def tD(o:l8):List UInt8:=mN o++nZ o.tags
def ET(o:l8):B_:=⟨(tD o).toArray⟩
def fM(o:l8):B_×Int:=if pB o then(if 0<C o.tags/\(kE o.tags).2≠0 then(a6,(kE o.tags).2)else if 20000<T (ET o) then(a6,2)else(ET o,0))else(a6,1)
def atV(s:B_):Int:=match Lib.atoiAll (ν (μ s)) with
 |.ok v=>v
 |.range=>Lib.atoiSat (ν (μ s))
 |_=>0
def LQ:b7:=⟨0,a6,0,0⟩
def wZ(J3:List b7):List b7:=J3++List.replicate (4 - C J3) LQ
def EN(s:B_):Int:=if s=eQ 5 then 5 else if s=eQ 4 then 4 else if s=eQ 3 then 3 else if s=eQ 2 then 2 else if s=eQ 1 then 1 else 0
def kX(f:b7):Bool:=θ (f.text=⟨#[41]⟩)&&θ (f.kind=4)
def sO:List b7->List m8
 |a::_::c::r=>⟨a.text,c.text⟩::sO r
 |_=>[]
theorem SA:∀ {J3} {l},E9 J3=N l->sO J3=l
 | [],l,h=>by cases h;rfl
 | [_],l,h=>by rw[E9]at h<;>(simp_all)
 | [_,_],l,h=>by rw[E9]at h<;>(simp_all)
 | a::b::c::r,l,h=>by
  rw[E9]at h;cases e:E9 r with
  |none=>simp_all
  |some q =>
   rw[e]at h;cases h;rw[sO,SA e]
def uB(J3:List b7):l8 :=if EN ((wZ J3).getD 0 LQ).text=1 then⟨((wZ J3).getD 1 LQ).text,1,atV ((wZ J3).getD 2 LQ).text,atV ((wZ J3).getD 3 LQ).text,[],sO ((wZ J3).drop 4)⟩
 else if BB kX (wZ J3)<3 then j8
 else⟨((wZ J3).getD 1 LQ).text,EN ((wZ J3).getD 0 LQ).text,0,0,(((wZ J3).take (BB kX (wZ J3)).toNat).drop 3).map b7.text,sO ((wZ J3).drop ((BB kX (wZ J3)).toNat+1))⟩
def GI(s:B_)(i:Nat)(r:List UInt8)(J3:List b7):Prop:=∀n,C r<=n->kR s n i=J3
theorem EF{s}{i j}{w r}{f}{J3}(d:fF s i=(N f,j))(c:f.err=0)(hi:i<T s)(B:0<C w)(b:GI s j r J3):GI s i (w++r) (f::J3):=by intro n a;rw[j7]at a;obtain ⟨m,rfl⟩:∃m,n=m+1:=⟨n - 1,X⟩;rw[kR,b6 hi,d];show f::(if f.err=0 then kR s m j else[])=_;rw[b6 c,b m X]
theorem vN{s}{i}{r}{J3}(h:s.data.toList.drop i=32::r)(b:GI s (i+1) r J3):GI s i (32::r) J3:=by intro n a;rw[j6]at a;obtain ⟨m,rfl⟩:∃m,n=m+1:=⟨n - 1,X⟩;rw[kR,b6 (qU h).1,Vx h];exact b m X
theorem all_nil{s}{i}(h:s.data.toList.drop i=[]):GI s i [] []:=by
 intro n _;have a:¬ i<T s:=by
  have:=drop_eq_nil_iff.1 h;rw[aS]at this;omega
 cases n with
 |zero=>rfl
 |succ n=>rw[kR,a8 a]
theorem sH{i}{w r}(h:s.data.toList.drop i=w++r)(B:0<C w):i<T s:=by
 rcases Nat.lt_or_ge i _ with a|a
 .exact a
 rw[Ê F_]at h;have:=congrArg List.length h;rw[Â,j7]at this;omega
def H7(r:List UInt8):Prop:=∀c r',r=c::r'->zL (c.toNat:Int)≠3/\zL (c.toNat:Int)≠4/\zL (c.toNat:Int)≠5
theorem Cw:H7 []:=λc r' h=>by cases h
theorem mJ(r):H7 (32::r):=λc r' h=>by cases h;exact⟨E_,E_,E_⟩
theorem KI(r):H7 (41::r):=λc r' h=>by cases h;exact⟨E_,E_,E_⟩
theorem nO{s k}{i}{r}{J3}(h:s.data.toList.drop i=ν (μ k)++r)(a:cK k=A)(c:H7 r)(b:GI s (i+T k) r J3):GI s i (ν (μ k)++r) (⟨1,k,i,0⟩::J3):=by have B:=(DO a).1;exact EF (Cx h a c) Z (sH h F_) F_ b
theorem HN{s}{i}{r}{c}{J3}(h:s.data.toList.drop i=c::r)(a:zL (c.toNat)=6)(b:GI s (i+1) r J3):GI s i (c::r) (⟨4,⟨#[c]⟩,i,0⟩::J3):=by
 have B:nN s i=6:=by rw[J1 h];exact a
 have D:=AY (w:=[c]) h;have d:fF s i=(N ⟨4,⟨#[c]⟩,i,0⟩,i+1):=by
  rw[fF]
  simp_all
 exact EF (w:=[c]) d Z (qU h).1 Nat.zero_lt_one b
theorem aAK:∀b:UInt8,48<=b.toNat->b.toNat<=57->zL (b.toNat)=4:=by
 intro b a c;have h:∀n:Fin 256,48<=n.val->n.val<=57->zL (n.val)=4:=by decide +kernel
 exact h _ a c
theorem RX{i:Nat}{x:Int}{r:List UInt8}{J3:List b7}(h:s.data.toList.drop i=Lib.itoa x++r)(D:0<=x)(v:x<10000000)(t:H7 r)(w:GI s (i+C (Lib.itoa x)) r J3):GI s i (Lib.itoa x++r) (⟨2,aV x,i,0⟩::J3):=by
 have l:=kQ x D;have e:0<C (Lib.itoa x):=by rw[l];exact length_pos_iff.2 (oI _)
 have E:C (Lib.itoa x)<=7:=by rw[l];exact cY X E_
 have f:∀j,j<C (Lib.itoa x)->nN s (i+j)=4:=λj p=>by
  have q:=m_ p;rw[J1 (Bf h q)];have o:(Lib.itoa x)[j]∈Lib.decDigits x.toNat:=F_
  have ⟨u,z⟩:=qF _ o;exact aAK _ u z
 have B:i+C (Lib.itoa x)<=T s:=by
  have:=congrArg List.length h;rw[q6,j7,aS]at this;have:=sH h e;omega
 have k:nN s i=4:=f 0 e;have m:=fT h;have d:nN s (i+C (Lib.itoa x))≠3/\nN s (i+C (Lib.itoa x))≠4/\nN s (i+C (Lib.itoa x))≠5:=by
  cases r with
  |nil=>rw[Bq m];omega
  |cons c y=>rw[J1 m];exact t c y Z
 have g:JX s i=i+C (Lib.itoa x):=by
  refine AI (PZ s) X X (λj v F=>?_) (.inl ?_)
  .have:=f (j - i) X;rw[show i+(j - i)=j by omega]at this;rw[PZ,this];rfl
  rw[PZ,Á d.2.1]
 have n:fF s i=(N ⟨2,aV x,i,0⟩,i+C (Lib.itoa x)):=by
  rw[fF,a8 X,a8 X,a8 X,b6 k,g,IK,AY h,Á d.1,Á d.2.2,Á X];rfl
 exact EF n Z (sH h e) e w
theorem VU{s}:∀(l) (i),(∀t,t∈l->cK t.key=A)->s.data.toList.drop i=nZ l->∃J3,GI s i (nZ l) J3/\V3 J3 l
 | [],i,_,h=>⟨[],all_nil h,Z,(λf r=>by cases r),Z⟩
 | t::l,i,g,h=>by
  have k:nZ (t::l)=32::(ν (μ t.key)++61::(cZ (ν (μ t.val))++nZ l)):=by
   rw[nZ,Ç,UF];simp[nZ]
  rw[k]at h |-;have b:=(qU h).2.2;have j:=fT b;have a:=(qU j).2.2;have v:=fT a;have ⟨J3,o,u⟩:=VU l _ (λt p=>g t (Ì _ p)) v;have d:0<C (cZ (ν (μ t.val))):=by rw[cZ,j6];omega
  have q:=EF (KJ a) Z (sH a d) d o;have n:=HN j (Z) q;have m:=nO b (g t Ï) (λc r' e=>by cases e;exact⟨E_,E_,E_⟩) n;exact⟨_,vN h m,V3.cons u Z Z Z⟩
theorem HG{o}(h:pB o=A):o.kind=1\/o.kind=2\/o.kind=3\/o.kind=4\/o.kind=5:=by have:=Gf h;omega
theorem BT{k}(h:k=1\/k=2\/k=3\/k=4\/k=5):cK (eQ k)=A/\EN (eQ k)=k:=by
 rcases h with rfl|rfl|rfl|rfl|rfl
 .exact⟨Z,Z⟩
 .exact⟨Z,Z⟩
 .exact⟨Z,Z⟩
 .exact⟨Z,Z⟩
 exact⟨Z,Z⟩
theorem uX{o}(h:pB o=A):∀s∈o.refs,cK s=A:=λs d=>by
 rw[pB,l7,l7,r9,r9]at h;have ⟨i,c⟩:=s8.1 d;have b:=(m9.1 c).1;have a:=any_eq_false.1 h.2.1 i (mem_range.2 b);rw[vQ,c]at a;simp[OB,Bool.or_eq_true,not_or,Bool.not_eq_true,Bool.not_eq_false']at a;exact a.2
theorem om{o}(h:pB o=A):(0<=o.x/\o.x<1048576)/\(0<=o.y/\o.y<1048576)/\(o.kind=1->o.refs=[])/\(o.kind≠1->o.x=0/\o.y=0):=by
 rw[pB,l7]at h;unfold UT at h
 split at h
 .rename_i a;rw[dw]at h;simp only[l7,l6]at h;refine⟨X,X,λ_=>length_eq_zero_iff.1 X,λe=>absurd a e⟩
 rename_i a
 split at h<;>simp[l7,l6]at h<;>exact⟨X,X,λe=>absurd e a,λ_=>by omega⟩
theorem VT{s:B_}:∀(l:List B_) (i:Nat) (r:List UInt8) (J3:List b7),(∀k,k∈l->cK k=A)->s.data.toList.drop i=l.flatMap (λk=>32::ν (μ k))++r->H7 r ->
  GI s (i+C (l.flatMap λk=>32::ν (μ k))) r J3->∃R:List b7,GI s i (l.flatMap (λk=>32::ν (μ k))++r) (R++J3)/\R.map b7.text=l/\∀f∈R,f.kind=1/\f.err=0
 | [],i,r,J3,_,h,_,d=>⟨[],d,Z,(λf o=>by cases o)⟩
 | k::l,i,r,J3,m,h,j,d=>by
  have q:(k::l).flatMap (λk=>32::ν (μ k))++r=32::(ν (μ k)++(l.flatMap (λk=>32::ν (μ k))++r)):=by
   simp_all
  have g:C ((k::l).flatMap λk=>32::ν (μ k))=1+T k+C (l.flatMap λk=>32::ν (μ k)):=by
   rw[Ç,j7,j6,aS];omega
  rw[q]at h |-;have n:=(qU h).2.2;have p:=fT n;rw[aS]at p;have ⟨R,t,B,D⟩:=VT l (i+1+T k) r J3 (λx u=>m x (Ì _ u)) p j (by rw[g]at d;rw[show i+1+T k+C (l.flatMap _)=i+(1+T k+C (l.flatMap λk=>32::ν (μ k)))by omega];exact d);have e:H7 (l.flatMap (λk=>32::ν (μ k))++r):=by
   cases l with
   |nil=>exact j
   |cons a l=>exact mJ _
  refine⟨⟨1,k,i+1,0⟩::R,vN h (nO n (m k Ï) e t),F_,λf o=>?_⟩
  grind
theorem zC(k)(l):bW [32] (bs (k::l))=ν (μ k)++l.flatMap (λk=>32::ν (μ k)):=by rw[bs,Ð,bW,Ø];rfl
theorem Qs{p}{c:α}{B}:∀ {D},(∀a,a∈D->p a=η)->p c=A->BB p (D++c::B)=(C D):=by
 intro D E F;have h:(D++c::B).findIdx? p=N (C D):=by
  grind
 rw[BB,h]
theorem SH(l):H7 (nZ l):=by
 cases l with
 |nil=>exact Cw
 |cons t l=>exact mJ _
theorem ot{x}(h:0<=x)(b:x<1000000000000000000):atV (aV x)=x:=by show (match Lib.atoiAll (Lib.itoa x)with|.ok v=>v|.range=>_|_=>0)=x;rw[EC h b]
theorem X0{o}(h:pB o=A)(d:o.kind≠1):∃k l,o.refs=k::l:=by
 have a:=HG h;rw[pB,l7,r9,PD,xD]at h;have c:=h.1;simp only[q_,Bool.not_eq_false',q7]at c;have b:=c.1.2;have B:1<=F0 o.kind:=by
  rcases a with e|e|e|e|e
  .exact absurd e d
  .rw[e];decide
  .rw[e];decide
  .rw[e];decide
  rw[e];decide
 cases e:o.refs with
 |nil=>rw[e]at b;exact absurd (show ((C []:Nat):Int)<F0 _ by show 0<_;omega) b
 |cons k l=>exact⟨k,l,Z⟩
theorem zi{J3}(h:4<=C J3):wZ J3=J3:=by rw[wZ,show 4 - C J3=0 by omega,Ú,Ä]
theorem YN(o):(ET o).data.toList.drop 0=tD o:=rfl
theorem RH{i}{k x y}{r}{t}(f:o.id=i)(e:o.kind=k)(b:o.x=x)(d:o.y=y)(a:o.refs=r)(c:o.tags=t):(⟨i,k,x,y,r,t⟩)=o:=by subst f e b d a c;rfl
theorem Mi(B:pB o=A):∃J3,GI (ET o) 0 (tD o) J3/\(∀f,f∈J3->f.err=0)/\C J3<=5000/\uB J3=o:=by
 have ⟨hr,ht,o_,E,_⟩:=CM B;have ⟨w,v_,hn,hz⟩:=om B;have ⟨A_,G⟩:=BT (HG B);have m:∀t,t∈o.tags->cK t.key=A:=λt h=>((yL.1 o_).1 t h).1;have v:=YN o;by_cases i:o.kind=1
 .have e:tD o=(eQ o.kind).data.toList++32::(ν (μ o.id)++32::(Lib.itoa o.x++32::(Lib.itoa o.y++nZ o.tags))):=by
   rw[tD,mN,b6 i];simp
  rw[e]at v |-;have r:=fT v;rw[aS]at r;have y:=(qU r).2.2;have n:=fT y;rw[aS]at n;have z:=(qU n).2.2;have F:=fT z;have u:=(qU F).2.2;have d:=fT u;have ⟨J3,u_,L,i_,r3⟩:=VU o.tags _ m d;have b:=nO v A_ (mJ _) (vN r (nO y E (mJ _) (vN n (RX z w.1 X (mJ _) (vN F (RX u v_.1 X (SH _) u_))))));refine⟨_,b,λf g=>?_,?_,?_⟩
  .simp only[l9]at g;rcases g with rfl|rfl|rfl|rfl|g
   .rfl
   .rfl
   .rfl
   .rfl
   exact i_ f g
  .simp only[j6];omega
  rw[uB,zi (by simp only[j6];omega)];simp only[getD_cons_zero,getD_cons_succ,Ü,É];rw[G,b6 i,SA L,ot w.1 X,ot v_.1 X];exact RH Z i Z Z (hn i) Z
 have ⟨k,l,q⟩:=X0 B i;have s:=uX B;rw[q]at s;have e:tD o=(eQ o.kind).data.toList++32::(ν (μ o.id)++32::(40::(ν (μ k)++(l.flatMap (λk=>32::ν (μ k))++41::nZ o.tags)))):=by
  rw[tD,mN,a8 i,q,zC];simp
 rw[e]at v |-;have r:=fT v;rw[aS]at r;have y:=(qU r).2.2;have n:=fT y;rw[aS]at n;have z:=(qU n).2.2;have F:=(qU z).2.2;have u:=fT F;rw[aS]at u;have d:=fT u;have h8:=(qU d).2.2;have ⟨J3,u_,L,i_,r3⟩:=VU o.tags _ m h8;have Q:=HN d E_ u_;have ⟨R,hR,q1,W⟩:=VT l _ _ _ (λx w=>s x (Ì _ w)) u (KI _) Q;have K:H7 (l.flatMap (λk=>32::ν (μ k))++41::nZ o.tags):=by
  cases l with
  |nil=>exact KI _
  |cons a l=>rw[Ç];exact mJ _
 have b:=nO v A_ (mJ _) (vN r (nO y E (mJ _) (vN n (HN z E_ (nO F (s k Ï) K hR)))));have τ:C R=C l:=by rw[<-q1,g_]
 have σ:C o.refs=C l+1:=by rw[q,j6]
 refine⟨_,b,λf g=>?_,?_,?_⟩
 .simp only[l9,Î]at g;rcases g with rfl|rfl|rfl|rfl|g|rfl|g
  .rfl
  .rfl
  .rfl
  .rfl
  .exact(W f g).2
  .rfl
  exact i_ f g
 .simp only[j6,j7];omega
 have ⟨J,I⟩:∃J:List b7,J=⟨1,eQ o.kind,0,0⟩::⟨1,o.id,0+T (eQ o.kind)+1,0⟩::⟨4,⟨#[40]⟩,0+T (eQ o.kind)+1+T o.id+1,0⟩::⟨1,k,0+T (eQ o.kind)+1+T o.id+1+1,0⟩::R:=X_;have H:C J=C R+4:=by rw[I];rfl
 have e_:∀a,a∈J->kX a=η:=by
  intro a D;rw[I]at D;simp only[l9]at D;rcases D with rfl|rfl|rfl|rfl|D
  .rw[kX,Á (show ¬ ((1:Int)=4)by decide),Bool.and_false]
  .rw[kX,Á (show ¬ ((1:Int)=4)by decide),Bool.and_false]
  .rfl
  .rw[kX,Á (show ¬ ((1:Int)=4)by decide),Bool.and_false]
  rw[kX,(W a D).1,Á (show ¬ ((1:Int)=4)by decide),Bool.and_false]
 have p:∀c:b7,(J++c::J3).drop (C J+1)=J3:=λc=>by
  rw[show J++c::J3=(J++[c])++J3 by simp,show C J+1=C (J++[c]) by simp,Õ]
 have w:=λj=>Qs (p:=kX) (c:=⟨4,⟨#[41]⟩,j,0⟩) (B:=J3) e_ Z;have P:∀j,(⟨1,eQ o.kind,0,0⟩::⟨1,o.id,0+T (eQ o.kind)+1,0⟩::⟨4,⟨#[40]⟩,0+T (eQ o.kind)+1+T o.id+1,0⟩::⟨1,k,0+T (eQ o.kind)+1+T o.id+1+1,0⟩::(R++⟨4,⟨#[41]⟩,j,0⟩::J3):List b7)=J++⟨4,⟨#[41]⟩,j,0⟩::J3:=λj=>by rw[I];rfl
 rw[uB,P,zi (by rw[j7,H];omega),w,a8 (by rw[I];show ¬ EN (eQ o.kind)=1;rw[G];exact i),a8 (by rw[H];omega),l_,Ý,p,SA L];have ⟨z_,y_⟩:=hz i;refine RH ?_ ?_ z_ y_ ?_ Z;all_goals simp_all
theorem Ww(f:α->List _)(l:List _):l.map (λe=>(f e).map AV.pv)=(l.map f).map (·.map .pv):=H_
def nm(i:Nat):B_:=⟨#[110,49+UInt8.ofNat i]⟩
def a_(l:List UInt8):B_:=⟨l.toArray⟩
theorem cG(l):(a_ l).data.toList=l:=rfl
theorem gA(s):a_ (ν (μ s))=s:=mC (cG _)
theorem cB(l):T (a_ l)=C l:=rfl
def vV(s:B_):l8×Int:=if 20000<T s then(j8,2)else if(fS s).2.1=0/\fM (uB (fS s).1)=(s,0)then(uB (fS s).1,0)else(j8,5)
theorem RI{o}(h:(fM o).2=0):pB o=A/\fM o=(ET o,0)/\T (ET o)<=20000:=by
 rw[fM]at h |-
 grind
theorem rv{o}(h:(fM o).2=0):vV (fM o).1=(o,0):=by
 have ⟨c,G,F⟩:=RI h;have ⟨J3,b,a,D,E⟩:=Mi c;have B:fS (ET o)=(J3,0,0):=by
  rw[fS,a8 X,b _ (by exact le_succ _),N5 J3 _ a F_,Ó]
 rw[vV]
 simp_all
def wPut:List UInt8:=[112,117,116]
def KA:List UInt8:=[109,111,118,101]
def BV:List UInt8:=[116,97,103]
def J9:List UInt8:=[114,101,102,115]
def KC:List UInt8:=[100,114,111,112]
def C0:List UInt8:=[115,112,108,105,116]
def KB:List UInt8:=[106,111,105,110]
def gW(e:b8):List (List UInt8) :=if e.op=2 then[KA,ν (μ e.id),Lib.itoa e.x,Lib.itoa e.y]else if e.op=3 then[BV,ν (μ e.id),ν (μ e.key),cZ (ν (μ e.val))]
 else if e.op=4 then J9::ν (μ e.id)::bs e.refs else if e.op=5 then[KC,ν (μ e.id)]
 else if e.op=6 then[C0,ν (μ e.id),ν (μ e.node),ν (μ e.other)]else[KB,ν (μ e.id),ν (μ e.other)]
def fX(e:b8):List UInt8:=if e.op=1 then wPut++32::(fM e.obj).1.data.toList else bW [32] (gW e)
def gC(e:b8):Int:=if e.op=1 then(fM e.obj).2 else 0
def sN:List UInt8->List b8->List UInt8×Int
 |acc,[]=>(acc,0)
 |acc,e::r=>if gC e≠0\/20000<C (acc++(fX e++[10])) then([],2)else sN (acc++(fX e++[10])) r
def eH(l:List b8):B_×Int:=if lV l then(a_ (sN [] l).1,(sN [] l).2)else(a6,1)
def W0(s:List UInt8):Int:=match Lib.atoiAll s with
 |.ok v=>v
 |_ => -1
def PG:b8:=⟨0,a6,a6,a6,0,0,a6,a6,[],j8⟩
def FH(w:List (List UInt8))(B rest:List UInt8):b8 :=if B=wPut then⟨1,a6,a6,a6,0,0,a6,a6,[],(vV (a_ rest)).1⟩
 else if B=KA/\C w=4 then⟨2,a_ (w.getD 1 []),a6,a6,W0 (w.getD 2 []),W0 (w.getD 3 []),a6,a6,[],j8⟩
 else if B=BV/\3<C w then(match (fS (a_ (bW [32] (w.drop 3)))).1 with
  | [f]=>⟨3,a_ (w.getD 1 []),a6,a6,0,0,a_ (w.getD 2 []),f.text,[],j8⟩
  |_=>PG)
 else if B=J9/\1<C w then⟨4,a_ (w.getD 1 []),a6,a6,0,0,a6,a6,(w.drop 2).map a_,j8⟩
 else if B=KC/\C w=2 then⟨5,a_ (w.getD 1 []),a6,a6,0,0,a6,a6,[],j8⟩
 else if B=C0/\C w=4 then⟨6,a_ (w.getD 1 []),a_ (w.getD 3 []),a_ (w.getD 2 []),0,0,a6,a6,[],j8⟩
 else if B=KB/\C w=3 then⟨7,a_ (w.getD 1 []),a_ (w.getD 2 []),a6,0,0,a6,a6,[],j8⟩
 else PG
def oG(s:List UInt8):b8:=FH (dX 32 s) ((dX 32 s).headD []) (s.drop (C ((dX 32 s).headD [])+1))
def iM(t:B_):List b8×Int :=if 20000<T t then([],2)else if eH ((sI (ν (μ t))).map λs=>oG (Lib.trimSuffix s [10]))=(t,0)then((sI (ν (μ t))).map λs=>oG (Lib.trimSuffix s [10]),0)else([],5)
theorem YR{k}(f:cK k=A){b}(d:b∈ν (μ k)):zL (b.toNat)=3\/zL (b.toNat)=4\/zL (b.toNat)=5:=by
 have ⟨j,c⟩:=s8.1 d;have a:=(m9.1 c).1;have h:=(DO f).2.2.2 j a;have e:aZ k j=(b.toNat):=by rw[aZ,c];rfl
 rwa [e]at h
theorem nC{k}(a:cK k=A):32∉ν (μ k)/\10∉ν (μ k):=by
 constructor
 .intro h;have:=YR a h;revert this;decide
 intro h;have:=YR a h;revert this;decide
theorem HH{x}(h:0<=x):32∉Lib.itoa x/\10∉Lib.itoa x:=by
 rw[kQ x h];constructor
 .intro h;have:=(qF _ h).1;revert this;decide
 intro h;have:=(qF _ h).1;revert this;decide
theorem jf(l):10∉cZ l:=by
 rw[cZ];simp only[l9,Î,mem_flatMap,q8,or_false,not_or];refine⟨H_,?_,H_⟩;rintro⟨b,_,h⟩;rw[rF]at h
 grind
theorem zB{b}(B:b≠32):∀ {l},(∀w∈l,b∉w)->b∉bW [32] l
 | [],_,h=>by cases h
 |x::l,hl,h=>by
  rw[bW]at h
  grind
theorem Yy{l}(h:∀t,t∈l->cK t.key=A):10∉nZ l:=by
 intro a;have ⟨t,c,a⟩:=mem_flatMap.1 a;rw[UF]at a;simp only[l9,Î]at a;rcases a with b|b|b|b
 .simp_all
 .exact(nC (h t c)).2 b
 .simp_all
 exact jf _ b
theorem aC5(b:pB o=A):10∉tD o:=by
 have ⟨B,D,c,d,_⟩:=CM b;have ⟨g,f,_,_⟩:=om b;have a:=λt h=>((yL.1 c).1 t h).1;intro h;rw[tD,mN]at h;simp only[l9,Î]at h;rcases h with(h|h|h|h|h)|h
 .exact(nC (BT (HG b)).1).2 h
 .simp_all
 .exact(nC d).2 h
 .simp_all
 .split at h
  .simp only[l9,Î]at h;rcases h with h|h|h
   .exact(HH g.1).2 h
   .revert h;decide
   exact(HH f.1).2 h
  simp only[l9,Î,q8,or_false]at h;rcases h with h|h|h
  .revert h;decide
  .refine zB E_ (λw e=>?_) h;obtain ⟨s,i,rfl⟩:=mem_map.1 e;exact(nC (uX b s i)).2
  revert h;decide
 exact Yy a h
abbrev oB(o:l8):aF:=[(1,bx 6 135 ((bS o).map .pv))]
theorem Xm{l}(h:l≠[])(s):Ng l s=l++32::ν (μ s):=by rw[Ng,a8 h]
theorem aGT(K)(s)(B:T s<70368744177663):aU φ 287 [.ref 2001 0 0 0,sv s] (rI 0 [] η++K) (λr H'=>r=.tup []/\H'=rI 1 (ν (μ s)) A++K):=by
 have h:=Nd K 0 [] η s F_
 rwa [b6 rfl]at h
theorem En(K)(g)(l)(s)(a:l≠[])(b:C l+T s<70368744177663):aU φ 287 [.ref 2001 0 0 0,sv s] (rI g l A++K) (λr H'=>r=.tup []/\H'=rI (g+2) (l++32::ν (μ s)) A++K):=by
 have h:=Nd K g l A s b
 rwa [a8 a,Xm a]at h
theorem QH(K)(g)(l)(u)(a:C l<70368744177664):aU φ 133 [.ref 2001 0 0 0] (rI g l u++K) (λr H'=>r=sv ⟨l.toArray⟩/\H'=oi g l u++(rI g l u++K)) :=aU.frame (aBf g l u a) aBe (dO.ofL ⟨(VL Z Z),(eV _ _),T_⟩) u3 (λid h=>.inl (by
  simp[oi,rI,aF.get]at h |-
  grind))
theorem YM{o}(a:pB o=A)(h:0<C o.tags/\(kE o.tags).2≠0):fM o=(a6,(kE o.tags).2):=by rw[fM,b6 a,b6 h]
theorem G7{o}{L}(b:pB o=A)(h:¬ (0<C o.tags/\(kE o.tags).2≠0))(a:tD o=L)(B:20000<C L):fM o=(a6,2):=by
 have D:T (ET o)=C L:=by rw[<-a];rfl
 rw[fM,b6 b,a8 h,b6 X]
theorem G8{o}{L}(b:pB o=A)(h:¬ (0<C o.tags/\(kE o.tags).2≠0))(a:tD o=L)(B:¬ 20000<C L):fM o=(⟨L.toArray⟩,0):=by
 have D:T (ET o)=C L:=by rw[<-a];rfl
 rw[fM,b6 b,a8 h,a8 X,ET,a]
theorem yI{l}(B:0<C l)(h:(kE l).2=0):32::(kE l).1.data.toList=nZ l/\T (kE l).1<=20000:=by
 rw[kE]at h |-;by_cases c:uA l=A
 .rw[b6 c]at h |-;by_cases b:20000<T (Y6 l)
  .simp_all
  rw[a8 b];refine⟨?_,F_⟩;cases l with
  |nil=>simp_all
  |cons t l =>
   rw[XO];rfl
 simp_all
theorem HK:∀l,C (l.flatMap λk=>32::ν (μ k))=C l+dC l
 | []=>rfl
 |k::l=>by
  have a:=HK l;rw[Ç,j7,j6,j6,a,aS,dC,dC,Ð,sum_cons];omega
theorem gE(l):C (bW [32] (bs l))<=C l+dC l:=by
 cases l with
 |nil=>exact k_ _
 |cons k l =>
  rw[zC,j7,HK,aS,j6,dC,dC,Ð,sum_cons];omega
theorem i8{p:Prop}(h:p:=by rw[aS];omega):p:=h
theorem YL(o:l8)(H:aF)(f_:pn o):RC 253 [av (bS o)] (.tup [sv (fM o).1,iv (fM o).2]) H:=by
 refine Pu<|Bd func253 Z ntmps253<|U (kb 1)<|Y aH<|V aH<|S<|U (xB cC sizeOf135)<|Y (kc call286 (TZ o _ f_))<|V iJ<|Cn ?_ ?_<;>intro κ
 .have f:pB o=η:=F_
  have e:fM o=(a6,1):=by rw[fM,a8 F_]
  rw[e];exact U aH<|V aH<|aC<|Ru<|Qq
 have f:pB o=A:=F_
 have ⟨hr,ht,htg,R,_⟩:=CM f;have ⟨hx,hy,hn,hz⟩:=om f;have y_:=(BT (HG f)).1;have hws:=dR y_;have δ:=dR R;have hwp:=(DO y_).1;have v_:(eQ o.kind).data.toList≠[]:=λe=>by have:=congrArg List.length e;rw[aS,Â]at this;omega
 refine aB<|Sz (kl 2001 aBT)<|S ?_;refine gK.ent (E':=[(1,.ref 1 0 0 0),(2,sv a6),(3,iv 0),(4,.ref 2001 0 0 0)]) (H':=[(2002,⟨0,1,5,[]⟩),(2001,OQ (.osl 2002 0 0 0) η),(1,bx 6 135 ((bS o).map .pv))]) (Q_ 2002 1 5) ?_;refine gK.ent (E':=[(1,.ref 1 0 0 0),(2,sv a6),(3,iv 0),(4,.ref 2001 0 0 0)]) (H':=rI 0 [] η++oB o) (cJ.get (λ_=>rfl) (λj=>nM E_ j))<|Rd (bC eK)<|Y (bT M_)<|Y (kc call283 (IS o.kind _))<|V (kc call287 (aGT (oB o) (eQ o.kind) X))<|U (bC rR)<|Y (bT N_)<|V (kc call287 (En (oB o) 1 (eQ o.kind).data.toList o.id v_ i8))<|S<|S ?_;have ⟨t,m⟩:∃L,L=(eQ o.kind).data.toList++32::ν (μ o.id):=X_;have I:t≠[]:=F_
 have β:C t<=49:=by rw[m,j7,j6,aS,aS];omega
 rw[<-m];by_cases Q:o.kind=1
 .have six:T (aV o.x)<=7:=by rw[<-aS];show C (Lib.itoa o.x)<=7;rw[kQ _ hx.1];exact cY X E_
  have siy:T (aV o.y)<=7:=by rw[<-aS];show C (Lib.itoa o.y)<=7;rw[kQ _ hy.1];exact cY X E_
  have ⟨P,q⟩:∃L,L=t++32::(aV o.x).data.toList:=X_;have A_:P≠[]:=F_
  have hl2:C P<=57:=by rw[q,j7,j6,aS];omega
  have p2:=En (oB o) (1+2) t (aV o.x) I X;rw[<-q]at p2;have ⟨b,d⟩:∃L,L=P++32::(aV o.y).data.toList:=X_;have r:b≠[]:=F_
  have g:C b<=200000:=by rw[d,j7,j6,aS];omega
  have F:=En (oB o) (1+2+2) P (aV o.y) A_ X;rw[<-d]at F;have G:mN o=b:=by
   rw[mN,b6 Q,d,q,m];show _=(_++32::Lib.itoa o.x)++32::Lib.itoa o.y;simp
  refine Rd (bC eK)<|Y (bT M_)<|V cI<|Cn ?_ ?_<;>intro W
  .refine U (bC nD)<|Y (bC nF)<|Y (bT M_)<|Y (kc mE (qM o.x X X _))<|V (kc call287 (p2))<|Rd (bC nD)<|Y (bC nE)<|Y (bT M_)<|Y (kc mE (qM o.y X X _))<|V (kc call287 (F))<|S<|U (bC gL)<|Y (bT dP)<|Y (fP dW)<|V jB<|Cn ?_ ?_<;>intro i_
   .have a:0<C o.tags:=by have:=b9 i_;rw[g_]at this;omega
    refine U (bC gL)<|Y (bT dP)<|Y (kc call288 (XN o.tags _ f_.2.1))<|Y aA<|Y dK<|Y dK<|Y aH<|V aH<|S<|U aA<|V xN<|Cn ?_ ?_<;>intro x
    .have J:(kE o.tags).2≠0:=by have l:=x;rw[r9,q7]at l;exact l
     rw[YM f ⟨a,J⟩];exact U aA<|Y aH<|V aH<|aC<|Ru<|Qq
    have J:(kE o.tags).2=0:=by have l:=x;rw[Bool.not_eq_false',l6]at l;exact l
    have i:C (b++32::(kE o.tags).1.data.toList)<=300000:=by have:=g;have:=(yI a J).2;rw[j7,j6,aS];omega
    have c:tD o=b++32::(kE o.tags).1.data.toList:=by rw[(yI a J).1,tD,G]
    refine aB<|Rd aA<|V (kc call287 (En (oB o) (1+2+2+2) b (kE o.tags).1 r (by have:=g;have:=(yI a J).2;omega)))<|S<|U (bC qN)<|Y (kc call208 (RK (oB o) ((1+2+2+2)+2) (b++32::(kE o.tags).1.data.toList) A))<|V jB ?_;refine Cn ?_ ?_<;>intro u
    .have B:=b9 u;rw[G7 f (λh=>h.2 J) c X];exact U aH<|V aH<|aC<|Ru<|Qq
    have B:=b_ u;rw[G8 f (λh=>h.2 J) c X];exact aB<|U (bC qN)<|Y (kc nR (QH (oB o) ((1+2+2+2)+2) (b++32::(kE o.tags).1.data.toList) A (by have:=i;omega)))<|Y aH<|V aH<|aC<|Ru<|Qq
   have a:¬ 0<C o.tags:=by have:=b_ i_;rw[g_]at this;omega
   have c:tD o=b:=by rw[tD,G,length_eq_zero_iff.1 (by omega:C o.tags=0)];exact Ä _
   refine aB<|S<|U (bC qN)<|Y (kc call208 (RK (oB o) (1+2+2+2) b A))<|V jB<|Cn ?_ ?_<;>intro K
   .have B:=b9 K;rw[G7 f (λh=>a h.1) c X];exact U aH<|V aH<|aC<|Ru<|Qq
   have B:=b_ K;rw[G8 f (λh=>a h.1) c X];exact aB<|U (bC qN)<|Y (kc nR (QH (oB o) (1+2+2+2) b A (by have:=g;omega)))<|Y aH<|V aH<|aC<|Ru<|Qq
  exact absurd Q (b_ W)
 have hsz:dC o.refs<=24*C o.refs:=pV (λs hs=>dR (uX f s hs));have γ:=gE o.refs;have ⟨k,y⟩:∃k:B_,k=⟨(bW [32] (bs o.refs)).toArray⟩:=X_;have hj:∀H,RC 204 [.pv (aK o.refs),sv ⟨#[32]⟩] (sv k) H:=λH=>by
  rw[y];exact yA o.refs ⟨#[32]⟩ H E_ (by show 1*_+_+_<_;omega)
 have E:ν (μ k)=bW [32] (bs o.refs):=by rw[y]
 have ⟨b,d⟩:∃L,L=t++32::((⟨#[40]⟩:B_)++k++⟨#[41]⟩).data.toList:=X_;have w:((⟨#[40]⟩:B_)++k++⟨#[41]⟩).data.toList=40::(bW [32] (bs o.refs)++[41]):=by rw[<-E];simp
 have ρ:T ((⟨#[40]⟩:B_)++k++⟨#[41]⟩)<=60000:=by rw[<-aS,w,j6,j7,Å];omega
 have σ:T k<=52000:=by rw[<-aS,E];omega
 have J3:T (⟨#[40]⟩:B_)=1:=rfl;have z:T (⟨#[41]⟩:B_)=1:=rfl;have τ:T ((⟨#[40]⟩:B_)++k)=1+T k:=by rw[ByteArray.size_append,J3]
 have r:b≠[]:=by rw[d];simp
 have g:C b<=200000:=by rw[d,j7,j6,aS];omega
 have F:=En (oB o) (1+2) t ((⟨#[40]⟩:B_)++k++⟨#[41]⟩) I X;rw[<-d]at F;have G:mN o=b:=by
  rw[mN,a8 Q,d,m,w];simp
 refine Rd (bC eK)<|Y (bT M_)<|V cI<|Cn ?_ ?_<;>intro u_
 .exact absurd (b9 u_) Q
 refine Rd (bC eJ)<|Y (bT aG)<|Y (kc sK (hj _))<|Y kq<|Y kq<|V (kc call287 (F))<|S<|U (bC gL)<|Y (bT dP)<|Y (fP dW)<|V jB<|Cn ?_ ?_<;>intro v
 .have a:0<C o.tags:=by have:=b9 v;rw[g_]at this;omega
  refine U (bC gL)<|Y (bT dP)<|Y (kc call288 (XN o.tags _ f_.2.1))<|Y aA<|Y dK<|Y dK<|Y aH<|V aH<|S<|U aA<|V xN<|Cn ?_ ?_<;>intro D
  .have J:(kE o.tags).2≠0:=by have l:=D;rw[r9,q7]at l;exact l
   rw[YM f ⟨a,J⟩];exact U aA<|Y aH<|V aH<|aC<|Ru<|Qq
  have J:(kE o.tags).2=0:=by have l:=D;rw[Bool.not_eq_false',l6]at l;exact l
  have i:C (b++32::(kE o.tags).1.data.toList)<=300000:=by have:=g;have:=(yI a J).2;rw[j7,j6,aS];omega
  have c:tD o=b++32::(kE o.tags).1.data.toList:=by rw[(yI a J).1,tD,G]
  refine aB<|Rd aA<|V (kc call287 (En (oB o) (1+2+2) b (kE o.tags).1 r (by have:=g;have:=(yI a J).2;omega)))<|S<|U (bC qN)<|Y (kc call208 (RK (oB o) ((1+2+2)+2) (b++32::(kE o.tags).1.data.toList) A))<|V jB ?_;refine Cn ?_ ?_<;>intro n
  .have B:=b9 n;rw[G7 f (λh=>h.2 J) c X];exact U aH<|V aH<|aC<|Ru<|Qq
  have B:=b_ n;rw[G8 f (λh=>h.2 J) c X];exact aB<|U (bC qN)<|Y (kc nR (QH (oB o) ((1+2+2)+2) (b++32::(kE o.tags).1.data.toList) A (by have:=i;omega)))<|Y aH<|V aH<|aC<|Ru<|Qq
 have a:¬ 0<C o.tags:=by have:=b_ v;rw[g_]at this;omega
 have c:tD o=b:=by rw[tD,G,length_eq_zero_iff.1 (by omega:C o.tags=0)];exact Ä _
 refine aB<|S<|U (bC qN)<|Y (kc call208 (RK (oB o) (1+2+2) b A))<|V jB<|Cn ?_ ?_<;>intro p
 .have B:=b9 p;rw[G7 f (λh=>a h.1) c X];exact U aH<|V aH<|aC<|Ru<|Qq
 have B:=b_ p;rw[G8 f (λh=>a h.1) c X];exact aB<|U (bC qN)<|Y (kc nR (QH (oB o) (1+2+2) b A (by have:=g;omega)))<|Y aH<|V aH<|aC<|Ru<|Qq
theorem lJ:∀ {l} {w},32∉w->(∀x∈l,32∉x)->dX 32 (bW [32] (w::l))=w::l
 | [],w,h,_=>by rw[bW,List.flatMap_nil,List.append_nil];exact sQ h
 |a::l,w,h,b=>by
  have e:bW [32] (w::a::l)=w++32::bW _ (a::l):=rfl;rw[e,kJ h,lJ (b a Ï) λx c=>b x (Ì _ c)]
theorem UI:∀l,bW [32] (dX 32 l)=l
 | []=>rfl
 | b::l=>by
  have a:=UI l;have c:=sD 32 l;rw[dX];cases e:dX _ l with
  |nil=>rw[e]at c;exact absurd c (Nat.lt_irrefl 0)
  |cons x r =>
   rw[e,bW]at a;by_cases h:b=32
   .rw[b6 h,bW,Ç,Ã,a,h];rfl
   rw[a8 h,bW,â,tail_cons,cons_append,a]
theorem YO{x}(h:0<=x)(a:x<1000000000000000000):W0 (Lib.itoa x)=x:=by rw[W0,EC h a]
theorem Sc(l):(bs l).map a_=l:=by rw[bs,Ò];exact(Ù λs _=>gA s).trans (map_id _)
theorem U3:∀l:List _,C (l.flatMap rF)<=2*C l
 | []=>h_ _
 | b::l=>by
  have B:=U3 l;have h:C (rF b)<=2:=by
   rw[rF]
   grind
  rw[Ç,j7,j6];omega
theorem Fv{v}(D:T v<=200):(fS (a_ (cZ (ν (μ v))))).1=[⟨3,v,0,0⟩]:=by
 have b:(a_ (cZ (ν (μ v)))).data.toList.drop 0=cZ (ν (μ v))++[]:=by rw[Ä];rfl
 have B:C (cZ (ν (μ v)))<=402:=by
  have:=U3 (ν (μ v));rw[aS]at this;rw[cZ,j6,j7,Å];omega
 have c:0<C (cZ (ν (μ v))):=by rw[cZ,j6];omega
 have d:=EF (KJ b) Z (sH b c) c (all_nil (fT b));rw[fS,a8 (by rw[cB];omega),d _ (by rw[cB,Ä];omega)];rfl
theorem DW{w:List UInt8}{r}:(w::r).headD []=w:=rfl
theorem NJ{e:b8}(B:gO e=A)(t:gC e=0):oG (fX e)=e/\(10:UInt8)∉fX e:=by
 have ⟨⟨J,K⟩,c,i⟩:=vI.1 B;rw[gC]at t;by_cases j:e.op=1
 .rw[b6 j]at t;have ⟨E,z,_⟩:=RI t;have F:=rv t;rw[GJ,b6 j,j]at i;rw[fX,b6 j];constructor
  .rw[oG,kJ E_,DW,FH,b6 rfl];show (⟨1,a6,a6,a6,0,0,a6,a6,[],(vV (a_ (fM e.obj).1.data.toList)).1⟩:b8)=e;rw[gA,F];exact i
  rw[z];intro h;rcases mem_append.1 h with h|h
  .revert h;decide
  rcases l9.1 h with h|h
  .simp_all
  exact aC5 E h
 rw[xW,a8 j,l7]at c;have ⟨u,c⟩:=c;have l:=nC u;rw[fX,a8 j];by_cases d:e.op=2
 .rw[b6 d]at c;have n:(0<=e.x/\e.x<1048576)/\0<=e.y/\e.y<1048576:=by
   rw[tf]at c
   grind
  rw[GJ,a8 j,b6 d,d]at i;rw[gW,b6 d];have H:=HH n.1.1;have I:=HH n.2.1;refine⟨?_,zB E_ ?_⟩
  .rw[oG,lJ E_ F_,DW,FH,a8 E_,b6 ⟨Z,Z⟩];show (⟨2,a_ (ν (μ e.id)),a6,a6,W0 (Lib.itoa e.x),W0 (Lib.itoa e.y),a6,a6,[],j8⟩:b8)=e;rw[gA,YO n.1.1 X,YO n.2.1 X];exact i
  intro w a;simp only[l9,q8,or_false]at a;rcases a with rfl|rfl|rfl|rfl;all_goals first|exact E_|grind|grind|grind
 by_cases g:e.op=3
 .rw[a8 d,b6 g,l7,l6]at c;have q:=nC c.1;rw[GJ,a8 j,a8 d,b6 g,g]at i;rw[gW,a8 d,b6 g];refine⟨?_,zB E_ ?_⟩
  .have D:bW [32] [BV,ν (μ e.id),ν (μ e.key),cZ (ν (μ e.val))]=BV++32::(ν (μ e.id)++32::(ν (μ e.key)++32::cZ (ν (μ e.val)))):=by simp[bW]
   have x:=sD 32 (cZ (ν (μ e.val)));rw[D,oG,kJ E_,kJ l.1,kJ q.1,DW,FH,a8 E_,a8 (λh=>absurd h.1 E_),b6 ⟨Z,F_⟩];show (match (fS (a_ (bW [32] (dX 32 (cZ (ν (μ e.val))))))).1 with
    | [f]=>(⟨3,a_ (ν (μ e.id)),a6,a6,0,0,a_ (ν (μ e.key)),f.text,[],j8⟩:b8)
    |_=>PG)=e
   rw[UI,Fv X,gA,gA];exact i
  intro w a;simp only[l9,q8,or_false]at a;rcases a with rfl|rfl|rfl|rfl;all_goals first|exact E_|exact l.2|exact q.2|exact jf _
 by_cases k:e.op=4
 .rw[a8 d,a8 g,b6 k,l7,l7,Þ]at c;have G:=c.2;rw[GJ,a8 j,a8 d,a8 g,b6 k,k]at i;rw[gW,a8 d,a8 g,b6 k];have r:∀(b:UInt8),(b=32\/b=10)->∀w∈bs e.refs,b∉w:=by
   intro b r w a;obtain ⟨s,x,rfl⟩:=mem_map.1 a;have:=nC (G s x);rcases r with rfl|rfl;all_goals first|exact this.1|exact this.2
  refine⟨?_,zB E_ ?_⟩
  .rw[oG,lJ E_ (by intro w a;rcases l9.1 a with rfl|a;all_goals first|exact l.1|exact r 32 (.inl Z) w a),DW,FH,a8 E_,a8 (λh=>absurd h.1 E_),a8 (λh=>absurd h.1 E_),b6 ⟨Z,by simp only[j6];omega⟩];show (⟨4,a_ (ν (μ e.id)),a6,a6,0,0,a6,a6,(bs e.refs).map a_,j8⟩:b8)=e;rw[gA,Sc];exact i
  intro w a;rcases l9.1 a with rfl|a
  .decide
  rcases l9.1 a with rfl|a;all_goals first|exact l.2|exact r 10 (.inr Z) w a
 by_cases m:e.op=5
 .rw[GJ,a8 j,a8 d,a8 g,a8 k,b6 m,m]at i;rw[gW,a8 d,a8 g,a8 k,b6 m];refine⟨?_,zB E_ ?_⟩
  .rw[oG,lJ E_ (by intro w a;rw[q9]at a;subst a;exact l.1),DW,FH,a8 E_,a8 (λh=>absurd h.1 E_),a8 (λh=>absurd h.1 E_),a8 (λh=>absurd h.1 E_),b6 ⟨Z,Z⟩];show (⟨5,a_ (ν (μ e.id)),a6,a6,0,0,a6,a6,[],j8⟩:b8)=e;rw[gA];exact i
  intro w a;simp only[l9,q8,or_false]at a;rcases a with rfl|rfl;all_goals first|exact E_|exact l.2
 by_cases o:e.op=6
 .rw[a8 d,a8 g,a8 k,a8 m,b6 o,l7]at c;have q:=nC c.1;have p:=nC c.2;rw[GJ,a8 j,a8 d,a8 g,a8 k,a8 m,b6 o,o]at i;rw[gW,a8 d,a8 g,a8 k,a8 m,b6 o];refine⟨?_,zB E_ ?_⟩
  .rw[oG,lJ E_ (by intro w a;simp only[l9,q8,or_false]at a;rcases a with rfl|rfl|rfl;all_goals first|exact l.1|exact q.1|exact p.1),DW,FH,a8 E_,a8 (λh=>absurd h.1 E_),a8 (λh=>absurd h.1 E_),a8 (λh=>absurd h.1 E_),a8 (λh=>absurd h.1 E_),b6 ⟨Z,Z⟩];show (⟨6,a_ (ν (μ e.id)),a_ (ν (μ e.other)),a_ (ν (μ e.node)),0,0,a6,a6,[],j8⟩:b8)=e;rw[gA,gA,gA];exact i
  intro w a;simp only[l9,q8,or_false]at a;rcases a with rfl|rfl|rfl|rfl;all_goals first|exact E_|exact l.2|exact q.2|exact p.2
 have y:e.op=7:=X
 rw[a8 d,a8 g,a8 k,a8 m,a8 o]at c;have p:=nC c;rw[GJ,a8 j,a8 d,a8 g,a8 k,a8 m,a8 o,y]at i;rw[gW,a8 d,a8 g,a8 k,a8 m,a8 o];refine⟨?_,zB E_ ?_⟩
 .rw[oG,lJ E_ (by intro w a;simp only[l9,q8,or_false]at a;rcases a with rfl|rfl;all_goals first|exact l.1|exact p.1),DW,FH,a8 E_,a8 (λh=>absurd h.1 E_),a8 (λh=>absurd h.1 E_),a8 (λh=>absurd h.1 E_),a8 (λh=>absurd h.1 E_),a8 (λh=>absurd h.1 E_),b6 ⟨Z,Z⟩];show (⟨7,a_ (ν (μ e.id)),a_ (ν (μ e.other)),a6,0,0,a6,a6,[],j8⟩:b8)=e;rw[gA,gA];exact i
 intro w a;simp only[l9,q8,or_false]at a;rcases a with rfl|rfl|rfl;all_goals first|exact E_|exact l.2|exact p.2
end Go.Proofs.C
namespace Go.Abs
section
section
variable{P:Program}{H:aF}
theorem Gi(s)(c):aAc P Extern.BytealgCount.count H [.pv (.str s),.pv (.int .u8 c)] (.pv (.int .i64 ((Lib.countByte (ν (μ s)) c.toNat.toUInt8)))):=by intro w I ι cs b h;obtain ⟨u,v,rfl,d,e⟩:=gp b h;rw[d.str_inv,e.int_inv];exact⟨_,Lib.run_countString s c w,.pv (.int _ _)⟩
end
end
end Go.Abs
namespace Go.Proofs.C
open Go.Proofs.Tryz
open Go.Abs
abbrev Ul:B_:=⟨#[32]⟩
theorem XT(s)(H:aF):RC 244 [sv s,sv Ul] (iv (Lib.indexByte (ν (μ s)) 32)) H:=by
 refine Pu<|Bd func244 Z ntmps244<|Sz aH<|U aA<|Y (gQ U_)<|V aH<|S<|aD<|S<|aT (t:=16) (n:=9) (A_:=θ (Ul=s)) ?_ ?_
 .all_goals refine Y aA<|Y cI<|Dm ?_<;>(refine Sp 19 (λc=>?_) λc=>?_)<;>(try contradiction)<;>refine O aA<|O aA<|O wV<|Y cE<|Da ?_<;>exact Gj (h:=by rfl)
 refine Cn ?_ ?_<;>intro d
 .have e:=b9 d;subst e;exact Sz aH<|aC<|Rt<|Qq
 refine U aA<|Y cI<|Da<|Cn ?_ ?_<;>intro b
 .exact U aA<|Y aA<|Y (cL Z U_ Z Z X y7 (show 0<T (⟨#[32]⟩:B_) from Nat.zero_lt_one) Z)<|Y (kc call250 (A3 s 32 _))<|V aH<|aC<|Rt<|Qq
 cases b
theorem Zu(s)(H):RC 282 [sv s,sv Ul] (iv (Lib.indexByte (ν (μ s)) 32)) H:=by refine Pu ?_;exact Bd func282 Z ntmps282<|Sz aH<|U aA<|Y aA<|Y (bH Z Z call244 Z (XT s _))<|V aH<|aC<|Rt<|Qq
def vo(s:B_):AV:=if Lib.indexByte (ν (μ s)) 32 = -1 then .tup [sv s,sv ⟨#[]⟩,bv η]else .tup [sv (s.extract 0 (Lib.indexByte (ν (μ s)) 32).toNat),sv (s.extract ((Lib.indexByte (ν (μ s)) 32).toNat+1) (T s)),bv A]
theorem Wh(s:B_)(H:aF)(E:T s<2^40):RC 194 [sv s,sv Ul] (vo s) H:=by
 refine Pu ?_;have d:=λH=>XT s H;rw[vo];rcases Classical.em (Lib.indexByte (ν (μ s)) 32 = -1)with c|c
 .rw[b6 c];simp only[c]at d;refine Bd func194 Z ntmps194<|U aH<|Y aH<|V aH<|S<|U aA<|Y aA<|Y (kc call244 (d _))<|V aH<|U aA<|V AU<|Cn ?_ ?_<;>intro b
  .cases b
  refine aB<|U aA<|Y aH<|Y aH<|V aH<|aC<|mP (H':=[]) (.inr Z) Z (aI Z) (aI Z) (aI Z) P_ ?_;exact Qq
 rw[a8 c];have ⟨w,r,f,B,e⟩:=zF c;simp only[e]at d;rw[e,l_];have D:C w+1+C r=T s:=by rw[<-show C s.data.toList=T s by simp,f,j7,j6];omega
 refine Bd func194 Z ntmps194<|U aH<|Y aH<|V aH<|S<|U aA<|Y aA<|Y (kc call244 (d _))<|V aH<|U aA<|V AU<|Cn ?_ ?_<;>intro b
 .refine S<|aN a7<|Cq aA<|Cq aA<|Cq (bM (l:=0) (h:=(C w)) Z U_ Z Z Z X X Z)<|Cq aA<|Cq aA<|Cq aA<|Cq (gQ U_)<|Cq kp<|Cq (bM (l:=(C w+1)) (h:=T s) Z U_ Z Z Z X X Z)<|Cq aH<|Cq aH<|Cq aH<|bF<|Kr<|aC<|mP (H':=[]) (.inr Z) Z (aI Z) (aI Z) (aI Z) P_ ?_;exact Qq
 have F:=b_ b;omega
theorem aFX(s)(H:aF)(d:T s<2^40):RC 137 [sv s,sv Ul] (vo s) H:=by
 refine Pu ?_;have b:=λH=>Wh s H d;rcases Classical.em (Lib.indexByte (ν (μ s)) 32 = -1)with c|c
 .simp only[vo,b6 c]at b |-;refine Bd func137 Z ntmps137<|U aH<|Y aH<|V aH<|U aA<|Y aA<|Y (kc call194 (b _))<|Y dK<|Y dK<|Y dK<|Y aH<|Y aH<|V aH<|aC<|mP (H':=[]) (.inr Z) Z (aI Z) (aI Z) (aI Z) P_ ?_;exact Qq
 simp only[vo,a8 c]at b |-;refine Bd func137 Z ntmps137<|U aH<|Y aH<|V aH<|U aA<|Y aA<|Y (kc call194 (b _))<|Y dK<|Y dK<|Y dK<|Y aH<|Y aH<|V aH<|aC<|mP (H':=[]) (.inr Z) Z (aI Z) (aI Z) (aI Z) P_ ?_;exact Qq
abbrev sNl:B_:=⟨#[10]⟩
def D4(s:B_):Bool:=θ ((1:Int)<=(T s:Int))&&θ (s.extract (T s - 1) (T s)=sNl)
def E8(s:B_):B_:=if D4 s then s.extract 0 (T s - 1)else s
theorem mc(s:B_)(H:aF)(D:T s<2^40):RC 256 [sv s,sv sNl] (bv (D4 s)) H:=by
 refine Pu<|Bd func256 Z ntmps256<|Sz aH<|S<|aT (t:=4) (n:=18) (A_:=D4 s) ?_ ?_
 .all_goals refine Y aA<|Y (gQ U_)<|Y aA<|Y (gQ U_)<|Y AU<|Dm ?_<;>(refine Sp 10 (λb=>?_) λb=>?_)<;>(first|exact s_|refine M<|M<|M<|M<|M<|M<|M<|M<|M ?_|refine O aA<|O aA<|O (gQ U_)<|O aA<|O (gQ U_)<|O (by exact dT Z Z Z (show ξ.wrap ((T s:Int) - 1)=((T s - 1:Nat):Int)by have B:(1:Int)<=(T s:Int):=b9 b;rw[IntKind.wrap_i64];omega))<|O (bM (l:=(T s - 1)) (h:=T s) Z U_ Z Z Z X X Z)<|O aA<|O wV ?_)<;>refine Y cE<|Da ?_<;>exact Gj (h:=by(simp only[D4];rw[show θ ((1:Int)<=(T s:Int))=_ from b];rfl))
 exact aC<|Rt<|Qq
theorem Lb(s:B_)(H:aF)(c:T s<2^40):RC 205 [sv s,sv sNl] (sv (E8 s)) H:=by
 refine Pu<|Bd func205 Z ntmps205<|Sz aH<|S<|U aA<|Y aA<|V (kc call256 (mc s _ c))<|Cn ?_ ?_<;>intro b
 .have h1:=by
   have h:=b;rw[D4,l7,l6]at h;omega
  rw[E8,b6 b];exact U aA<|Y aA<|Y (gQ U_)<|Y aA<|Y (gQ U_)<|Y (by exact dT Z Z Z (show ξ.wrap ((T s:Int) - 1)=((T s - 1:Nat):Int)by rw[IntKind.wrap_i64];omega))<|Y (bM (l:=0) Z U_ Z Z Z X X Z)<|V aH<|aC<|Rt<|Qq
 rw[E8,a8 F_];exact aB<|U aA<|V aH<|aC<|Rt<|Qq
theorem qf(s)(H)(b:T s<2^40):RC 144 [sv s,sv sNl] (sv (E8 s)) H:=by refine Pu ?_;exact Bd func144 Z ntmps144<|Sz aH<|U aA<|Y aA<|Y (bH Z Z call205 Z (Lb s _ b))<|V aH<|aC<|Rt<|Qq
theorem aAQ(s:B_)(H:aF):RC 281 [sv s,sv Ul] (iv ((s.data.toList.count 32:Nat):Int)) H:=by
 refine Pu<|Bd func281 Z ntmps281<|Sz aH<|S<|U aA<|Y (gQ U_)<|V cI<|Cn ?_ ?_<;>intro c
 .cases c
 refine aB<|S<|U aA<|Y (gQ U_)<|V cI<|Cn ?_ ?_<;>intro b
 .exact U aA<|Y aA<|Y (cL Z U_ Z Z X y7 (show 0<T (⟨#[32]⟩:B_) from Nat.zero_lt_one) Z)<|Y (RD Z Z func304 Z Z Z Z Z (Gi s 32))<|V aH<|aC<|Rt<|Qq
 cases b
def ofY(l:List UInt8):B_:=⟨l.toArray⟩
def cS(s:B_):List B_:=(dX 32 (ν (μ s))).map ofY
def C8(D:List B_)(m:Nat):List (List AV):=D.map (λe=>(S_ e).map AV.pv)++List.replicate m [sv ⟨#[]⟩]
theorem XR(D)(m):(C8 D (m+1))[C D]?=N [sv ⟨#[]⟩]:=by rw[C8,getElem?_append_right H_,g_,Nat.sub_self];rfl
theorem qn{s}(h:C (cS s)=1):cS s=[s]:=by rw[cS,g_,yP]at h;have a:32∉ν (μ s):=count_eq_zero.1 X;rw[cS,sQ a];rfl
theorem SL(D)(m)(x):(C8 D (m+1)).set (C D) [sv x]=C8 (D++[x]) m:=by unfold C8;rw[set_append_right _ _ H_,g_,Nat.sub_self,È,Ã];rfl
theorem SM(H)(D)(m):∀r∈C8 D m,∀a∈r,Clo H a:=by
 intro r b a c;rcases mem_append.1 b with b|b
 .obtain ⟨d,_,rfl⟩:=mem_map.1 b;obtain ⟨p,_,rfl⟩:=mem_map.1 c;simp
 rw[eq_of_mem_replicate b,q9]at c;subst c;simp
instance(H)(D)(m):W_ (H) (C8 D m):=⟨SM H D m⟩
theorem exL(s:B_)(i j):(s.extract i j).data.toList=(s.data.toList.drop i).take (j - i):=H_
theorem vg{a b:B_}(h:ν (μ a)=ν (μ b)):a=b:=by cases a;simp_all
theorem Oy{s:B_}{w r}(h:ν (μ s)=w++32::r):s.extract 0 (C w)=ofY w/\(s.extract (C w+1) (T s)).data.toList=r:=by
 have B:T s=C w+1+C r:=by
  show s.data.size=_;rw[<-Array.length_toList,h,j7,j6];omega
 constructor
 .refine vg ?_;rw[exL,É,Nat.sub_zero,h,Ý];rfl
 simp_all
theorem aGb{H1}{id g n}{ob}(ps)(b:H1.get id=N ob)(c:ob.g=g)(a:ob.rows=ps.map (·.map .pv))(d:C ps=n):Fin [] H1 (.osl id g 0 n) [] (.pv (.sl ps)):=by subst c d;exact Fin.fz _ b a (.osl H_) Z T_ T_
theorem uu(d:B_)(H:aF)(c:T d<2^40):RC 251 [sv d,sv Ul,iv 0,iv (-1)] (.pv (aK (cS d))) H:=by
 refine Pu ?_;obtain ⟨i_,o⟩:∃i_,i_=d.data.toList.count 32:=X_;have R:i_<=T d:=by rw[o];exact Nat.le_trans List.count_le_length (by simp)
 have x:=λH=>aAQ d H;rw[<-o]at x;have e:C (dX 32 (ν (μ d)))=i_+1:=by rw[yP,o]
 refine Bd func251 Z ntmps251<|Sz aH<|S<|U aA<|V cI<|Cn ?_ ?_<;>intro p
 .cases p
 refine aB<|S<|U aA<|V wV<|Cn ?_ ?_<;>intro u
 .have:=b9 u;cases this
 refine aB<|S<|U aA<|V cH<|Cn ?_ ?_<;>intro k
 .refine Rd aA<|Y aA<|Y (kc call281 (x _))<|Y kp<|V aH<|U aA<|Y aA<|Y (gQ U_)<|Y kp<|Y (DM (r:=((i_+1:Nat):Int)) Z Z Z X)<|V aH<|U aA<|Y (E6 (id:=31) Z aY sX Uz Z Z Z X X (l_ _) (l_ _) X Z)<|V aH<|U aA<|Y (by exact dT Z Z Z (show ξ.wrap (((i_+1:Nat):Int) - 1)=(i_:Int)by rw[IntKind.wrap_i64];omega))<|V aH<|Sz aH<|S<|aD ?_;refine eN (λ(D:List B_) (a:B_)=>([(0,sv a),(1,sv Ul),(2,iv 0),(3,iv (i_:Int)),(8,.pv (.sl [])),(9,.osl 31 0 0 (i_+1)),(10,iv (C D:Int))],[(31,⟨0,1,9,C8 D (i_+1 - C D)⟩)])) (λD a=>cS d=D++cS a/\T a<=T d) (λD a=>i_ - C D) [] d ⟨Z,h_ _⟩ ?_ ?_
  .exact L_
  rintro D a ⟨d_,hr⟩;have g:C D+C (cS a)=i_+1:=by
   have:=congrArg List.length d_;rw[j7,cS,g_,e]at this;exact this.symm
  have K:0<C (cS a):=by rw[cS,g_];exact sD _ _
  have ⟨m,P⟩:∃m,i_+1 - C D=m+1:=⟨i_ - C D,X⟩;have z:=λH=>Zu a H;rw[P];rcases Nat.lt_or_ge (C D) i_ with hlt|hge
  .have E:Lib.indexByte (ν (μ a)) 32 ≠ -1:=λh=>by
    have L:=sQ (zE.1 h);rw[cS,L]at g;have:C D+1=i_+1:=g;omega
   have ⟨w,r,q,F,B⟩:=zF E;have ⟨I,y⟩:=Oy q;have b:C w+1+C r=T a:=by rw[<-show C a.data.toList=T a by simp,q,j7,j6];omega
   have W:cS a=a.extract 0 (C w)::cS (a.extract (C w+1) (T a)):=by
    rw[cS,q,kJ F,Ð,I,cS,y]
   simp only[B]at z;refine S<|U aA<|Y aA<|V cH<|Cn ?_ ?_<;>intro v
   .refine aB<|aD<|U aA<|Y aA<|Y (kc call282 (z _))<|V aH<|S<|U aA<|V cH<|Cn ?_ ?_<;>intro l
    .have:=b9 l;omega
    refine aB<|U aA<|Y aA<|Y aA<|Y aA<|Y aA<|Y (by exact dD Z Z Z (show IntKind.i64.wrap ((w.length:Int)+0)=(w.length:Int)by rw[IntKind.wrap_i64];omega))<|Y (by exact bM (l:=0) (h:=w.length) Z U_ Z Z Z X X Z)<|Y (by exact dS Z aY Z Z Z Z Z X (by exact l_ _) X (r8 _))<|Uu (by exact cM Z V_ Z Z Z Z Z (XR D m) Nat.zero_lt_one Z (SL D m _))<|Zz<|U aA<|Y aA<|Y aA<|Y (gQ U_)<|Y kp<|Y (by exact bM (l:=(w.length+1)) (h:=a.size) Z U_ Z Z Z X X Z)<|V aH<|Rg<|Dm ?_;refine Y kp<|Da ?_;have G:(D++[a.extract 0 w.length]).length=D.length+1:=H_
    have t:T (a.extract (C w+1) (T a))<=T d:=by rw[<-show C (a.extract (C w+1) (T a)).data.toList=T (a.extract (C w+1) (T a)) by simp,y];omega
    refine⟨D++[a.extract 0 (C w)],a.extract (C w+1) (T a),⟨F_,t⟩,X,?_⟩;rw[G,show i_+1 - (C D+1)=m by omega];exact L_
   have:=b_ v;omega
  have Q:C D=i_:=by omega
  have J:cS a=[a]:=qn X;have j:m=0:=X
  subst j;refine S<|U aA<|Y aA<|V cH<|Cn ?_ ?_<;>intro n
  .have:=b9 n;omega
  refine aP<|U aA<|Y aA<|Y aA<|Y (by exact dS Z aY Z Z Z Z Z X (by exact l_ _) X (r8 _))<|Uu (by exact cM Z V_ Z Z Z Z Z (XR D 0) Nat.zero_lt_one Z (SL D 0 _))<|Zz<|U aA<|Y aA<|Y kp<|Y (by exact lD (l:=0) (h:=(D.length+1)) Z aY Z Z Z Z Z Z X X Z Z)<|V aH<|aC ?_;have s:(D++[a]).map S_=(cS d).map S_:=F_
  refine cR (H':=[]) (.inr Z) Z (aI Z) (aGb (id:=31) ((D++[a]).map S_) Z Z (by show C8 (D++[a]) 0=_;rw[C8,Ú,Ä,Ò];rfl) H_) ⟨?_,Z⟩;rw[aK,s]
 cases k
theorem Db(s)(H)(b:T s<2^40):RC 200 [sv s,sv Ul] (.pv (aK (cS s))) H:=by refine Pu ?_;exact Bd func200 Z ntmps200<|Sz aH<|U aA<|Y aA<|Y (bH Z Z call251 Z (uu s _ b))<|V aH<|aC<|Rt<|Qq
def AQ(t:B_):B_:=if Lib.indexByte (ν (μ t)) 10 = -1 then t else t.extract 0 ((Lib.indexByte (ν (μ t)) 10).toNat+1)
def T8(t:B_):B_:=if Lib.indexByte (ν (μ t)) 10 = -1 then⟨#[]⟩else t.extract ((Lib.indexByte (ν (μ t)) 10).toNat+1) (T t)
def jU(s:B_):Nat->B_
 |0=>s
 |k+1=>T8 (jU s k)
def jJ(s:B_):List B_:=(sI (ν (μ s))).map ofY
theorem aFA(s):ofY (ν (μ s))=s:=vg (Z)
theorem szY(s:B_):C s.data.toList=T s:=rfl
theorem Qc{t:B_}(h:Lib.indexByte (ν (μ t)) 10 ≠ -1):∃w r,ν (μ t)=w++10::r/\(10:UInt8)∉w/\Lib.indexByte (ν (μ t)) 10=(C w:Int)/\t.extract 0 (C w+1)=ofY (w++[10])/\(t.extract (C w+1) (T t)).data.toList=r/\C w+1+C r=T t:=by
 have ⟨w,r,d,g,e⟩:=zF h;have f:C w+1+C r=T t:=by rw[<-szY,d,j7,j6];omega
 have c:ν (μ t)=(w++[10])++r:=F_
 refine⟨w,r,d,g,e,vg ?_,?_,f⟩
 .rw[exL,É,Nat.sub_zero,c,show C w+1=C (w++[(10:UInt8)]) by simp,Ý];rfl
 rw[exL,c,show C w+1=C (w++[(10:UInt8)]) by simp,Õ];exact Æ G_
theorem CC{t}(h:¬ 0<T t):jJ t=[]:=by have:ν (μ t)=[]:=length_eq_zero_iff.1 F_;rw[jJ,this];rfl
theorem DQ{t}(h:0<T t):jJ t=AQ t::jJ (T8 t)/\T (T8 t)<=T t:=by
 rw[AQ,T8];by_cases a:Lib.indexByte (ν (μ t)) 10 = -1
 .rw[b6 a,b6 a];refine⟨?_,k_ _⟩;rw[jJ,O9 (zE.1 a) (λe=>by rw[<-szY]at h;simp_all)];rfl
 rw[a8 a,a8 a];have ⟨w,r,c,f,g,d,b,B⟩:=Qc a;rw[g,l_,d];refine⟨?_,H_⟩;rw[jJ,c,JI f,Ð,jJ,b]
theorem B1(s):∀k,k<=C (jJ s)->jJ (jU s k)=(jJ s).drop k/\T (jU s k)<=T s
 |0,_=>⟨Z,h_ _⟩
 | k+1,h=>by
  obtain ⟨b,d⟩:=B1 s k (le_of_succ_le h);have i:0<T (jU s k):=by
   rcases Nat.lt_or_ge 0 _ with c|c
   .exact c
   have g:=CC (t:=jU s k) X;rw[g]at b;have:=congrArg List.length b;rw[q6,Â]at this;omega
  have ⟨f,e⟩:=DQ i;rw[f]at b;refine⟨?_,Nat.le_trans e d⟩;have:=congrArg List.tail b;rw[tail_drop]at this;exact this
theorem Zi{s}{k}(h:k<C (jJ s)):(jJ s)[k]?=N (AQ (jU s k))/\0<T (jU s k):=by
 have ⟨b,B⟩:=B1 s k (Nat.le_of_lt h);have c:0<T (jU s k):=by
  rcases Nat.lt_or_ge 0 _ with d|d
  .exact d
  have e:=CC (t:=jU s k) X;rw[e]at b;have:=congrArg List.length b;rw[q6,Â]at this;omega
 refine⟨?_,c⟩;rw[(DQ c).1]at b;have:=congrArg List.head? b;rw[head?_drop]at this;exact this.symm
def lB(s:B_):Ob:=bx 1 9 [sv s]
theorem Zh(s)(H)(b:H.get 933=ζ):aU φ 142 [sv s] H (λr H'=>r=.clo 198 [.ref 933 0 0 0]/\H'=(933,lB s)::H):=by refine Bd func142 Z ntmps142<|U (tW Z Z Z Z b)<|V aH<|U (iE Z Z)<|V aH<|aC ?_;refine cR (.inr Z) Z (aI Z) Fin.refl ?_;exact Qq
theorem Pn(s:B_)(y:AV)(j:Nat->aF)(a:T s<2^40)(f:∀k,(j k).get 933=N (lB (jU s k)))
  (E:∀k,k<C (jJ s)->dQ φ y [sv (AQ (jU s k))] ((933,lB (jU s (k+1)))::j k) (λr H'=>r=bv A/\H'=j (k+1))) :
  aU φ 198 [y,.ref 933 0 0 0] (j 0) (λr H'=>r=.tup []/\H'=j (C (jJ s))):=by
 refine Bd func198 Z ntmps198<|aD<|bA (σ:=Nat) (λk=>([(0,y),(1,.ref 933 0 0 0)],j k)) (λk=>k<=C (jJ s)) (λk=>C (jJ s) - k) 0 (k_ _) ?_ ?_
 .exact E0
 rintro k F;have ⟨q,b⟩:=B1 s k F;have D:=λH=>sV (jU s k) 10 H;have K:jU s (k+1)=T8 (jU s k):=rfl;refine S<|U (aX Z N_ Z (f k) Z Z Z)<|Y (gQ U_)<|V jB<|Cn ?_ ?_<;>intro o
 .have I:0<T (jU s k):=I_ o
  have x:k<C (jJ s):=by
   rcases Nat.lt_or_ge k (C (jJ s)) with h|h
   .exact h
   rw[(DQ I).1,Ê h]at q;cases q
  have c:=E k x;rw[K,T8,AQ]at c;rcases Classical.em (Lib.indexByte (jU s k).data.toList 10 = -1)with i|i
  .rw[b6 i,b6 i]at c;have l:∀H,RC 199 [sv (jU s k),.pv (.int .u8 10)] (iv (-1)) H:=λH=>by
    have:=D H
    rwa [show Lib.indexByte (jU s k).data.toList ((10:Int).toNat.toUInt8) = -1 from i]at this
   refine aB<|aD<|Sz aH<|S<|U (aX Z N_ Z (f k) Z Z Z)<|Y (kc call199 (l _))<|V aH<|U aA<|V AU<|Cn ?_ ?_<;>intro B
   .cases B
   refine Rd (aX Z N_ Z (f k) Z Z Z)<|Y aH<|Uu (mH Z V_ Z Z Z Z (f k) Z Z Z)<|Zz<|U aA<|Y aA<|Y (dL Z Z Z (c))<|V iJ<|Cn ?_ ?_<;>intro u
   .cases u
   refine aB ?_;exact⟨k+1,X,X,E0⟩
  rw[a8 i,a8 i]at c;have ⟨w,r,L,P,J,Q,R,W⟩:=Qc i;rw[J,l_]at c;have l:∀H,RC 199 [sv (jU s k),.pv (.int .u8 10)] (iv (C w:Int)) H:=λH=>by
   have:=D H
   rwa [show Lib.indexByte (jU s k).data.toList ((10:Int).toNat.toUInt8)=(C w:Int)from J]at this
  refine aB<|aD<|Sz aH<|S<|U (aX Z N_ Z (f k) Z Z Z)<|Y (kc call199 (l _))<|V aH<|U aA<|V AU<|Cn ?_ ?_<;>intro t
  .refine aN a7<|Cr [933] (λn d=>by exact aX Z N_ Z ((d _ Z).trans (f k)) Z Z Z)<|x_ aA<|x_ (by exact dD Z Z Z (show ξ.wrap ((C w:Int)+1)=((C w+1:Nat):Int)by rw[IntKind.wrap_i64];omega))<|x_ (by exact bM (l:=0) (h:=(C w+1)) Z U_ Z Z Z X X Z)<|Cr [933] (λn d=>by exact aX Z N_ Z ((d _ Z).trans (f k)) Z Z Z)<|x_ aA<|x_ (by exact dD Z Z Z (show ξ.wrap ((C w:Int)+1)=((C w+1:Nat):Int)by rw[IntKind.wrap_i64];omega))<|x_ (by exact bM (l:=(C w+1)) (h:=T (jU s k)) Z U_ Z Z Z X X Z)<|x_ aH ?_;refine Cp [933] (λn d=>by exact mH Z V_ Z Z Z Z ((d _ Z).trans (f k)) Z Z Z)<|bF<|Kr<|U aA<|Y aA<|Y (dL Z Z Z (c))<|V iJ ?_;refine Cn ?_ ?_<;>intro z
   .cases z
   refine aB ?_;exact⟨k+1,X,X,E0⟩
  have:=b_ t;omega
 have G:¬ 0<T (jU s k):=J_ o
 have v:k=C (jJ s):=by
  rw[CC G]at q;have:=congrArg List.length q;rw[Â,q6]at this;omega
 subst v;refine aP ?_;exact pL (H':=j (C (jJ s))) (.inl Z) Z Fin.refl ⟨Z,Z⟩
theorem Kc(w):Lib.trimSuffix (w++[10]) [10]=w:=by rw[Lib.trimSuffix,Lib.hasSuffix];simp
theorem Kd(s:B_):E8 s=a_ (Lib.trimSuffix (ν (μ s)) [10]):=by
 have E:=szY s;rw[E8];cases h:D4 s with
 | true =>
  rw[D4,l7,l6,l6]at h;have ⟨B,f⟩:=h;have e:s.data.toList.drop (T s - 1)=[10]:=by
   have:=congrArg (λx=>ν (μ x)) f;rw[exL]at this;refine Eq.trans ?_ (show ν (μ sNl)=[10]from Z);rw[<-this];exact(Æ F_).symm
  have b:ν (μ s)=s.data.toList.take (T s - 1)++[10]:=by rw[<-e,Ñ]
  refine vg ?_;rw[b6 Z,exL,cG,b,Kc,É,Nat.sub_zero,<-b]
 | false =>
  rw[a8 E_,Lib.trimSuffix,a8,gA];intro c;have ⟨w,d⟩:=isSuffixOf_iff_suffix.1 (show ([10]:List UInt8).isSuffixOf (ν (μ s))=A from c);have D:T s=C w+1:=G_
  have:D4 s=A:=by
   rw[D4,l7,l6,l6];refine⟨X,vg ?_⟩;rw[exL,<-d,show T s - 1=C w by omega,Õ];exact Æ (by rw[Å];omega)
  rw[h]at this;cases this
theorem aAP(s):∃b,vo s=.tup [sv (a_ ((dX 32 (ν (μ s))).headD [])),sv (a_ (s.data.toList.drop (C ((dX 32 (ν (μ s))).headD [])+1))),bv b]:=by
 rw[vo];by_cases h:Lib.indexByte (ν (μ s)) 32 = -1
 .refine⟨η,?_⟩;rw[b6 h,sQ (zE.1 h),â,Ê (le_succ _),gA];rfl
 have ⟨w,r,d,e,f⟩:=zF h;refine⟨A,?_⟩;have ⟨j,g⟩:=Oy d;have i:s.data.toList.drop (C w+1)=r:=by
  simp_all
 have c:(dX 32 (ν (μ s))).headD []=w:=by rw[d,kJ e];rfl
 rw[a8 h,c,i,f,l_,j,show s.extract _ (T s)=a_ r from vg (by rw[g,cG])];rfl
theorem Cz(s)(i)(h:i<C (cS s)):(cS s)[i]?=N (a_ ((dX 32 (ν (μ s))).getD i [])):=by rw[cS,g_]at h;rw[cS,r7,getD_eq_getElem?_getD,m_ h];rfl
theorem Cy(s):C (cS s)=C (dX 32 (ν (μ s))):=g_ _
theorem tY{a b}:a_ a=a_ b↔a=b:=⟨λh=>by rw[<-cG a,h,cG],λh=>by rw[h]⟩
theorem cN(s)(l):dC (s::l)=T s+dC l:=rfl
theorem zA{e}{a}(b:e.op≠1)(h:bs a=gW e):(⟨(bW [32] (bs a)).toArray⟩)++⟨#[10]⟩=a_ (fX e++[10]):=vg (by
 rw[cG,fX,a8 b,<-h];simp)
theorem Xl{e}(a:e.op=1):(⟨#[112,117,116,32]⟩)++(fM e.obj).1++⟨#[10]⟩=a_ (fX e++[10]):=vg (by
 rw[fX,b6 a];rfl)
theorem NY{o}:T (fM o).1<=20000:=by
 rw[fM]
 split
 .split
  .exact k_ _
  split
  .exact k_ _
  simp_all
 exact k_ _
theorem u6{p:Prop}(h:p:=by show 1*_+_+_<_;simp only[cN,j6,Â];omega):p:=h
theorem aCg(e:b8)(H:aF)(k:WY e)(h:gO e=A):RC 207 [av (bL e)] (.tup [sv (a_ (fX e++[10])),iv (gC e)]) H:=by
 refine Pu ?_;have ⟨⟨o1,o2⟩,F,o4⟩:=vI.1 h;rw[xW]at F;have i:=JO h;have t:dC []=0:=rfl;refine Bd func207 Z ntmps207<|U (kb 1)<|Y aH<|V aH<|Sz aH<|S<|U (bC iZ)<|V (bT M_)<|aD<|U cI<|Da<|Cn ?_ ?_<;>intro g
 .have E:e.op=1:=b9 g;have y:=NY (o:=e.obj);have a:T (⟨#[112,117,116,32]⟩:B_)=4:=rfl;have J:T (⟨#[10]⟩:B_)=1:=rfl;have j:T ((⟨#[112,117,116,32]⟩:B_)++(fM e.obj).1)=4+T (fM e.obj).1:=F_
  refine U (bC vX)<|Y (xB cC sizeOf135)<|Y (kc call253 (YL e.obj _ k.2.2))<|Y aA<|Y dK<|Y dK<|Y aH<|V aH<|U aA<|Y kq<|Y kq<|Y aA<|Y aH<|V aH<|aC<|Ru ?_;rw[Xl E,show gC e=(fM e.obj).2 from b6 E];exact Qq
 have E:e.op≠1:=b_ g;rw[a8 E,l7]at F;have ⟨x,I⟩:=F;have m:=dR x;refine U cI<|Da<|Cn ?_ ?_<;>intro D
 .have R:e.op=2:=b9 D;rw[b6 R,tf,l7,l6,l6]at I;have u:0<=e.x/\e.x<1048576:=X
  have v:0<=e.y/\e.y<1048576:=X
  have six:T (aV e.x)<=7:=by rw[<-aS];show C (Lib.itoa e.x)<=7;rw[kQ _ u.1];exact cY X E_
  have τ:T (aV e.y)<=7:=by rw[<-aS];show C (Lib.itoa e.y)<=7;rw[kQ _ v.1];exact cY X E_
  have Q:T (⟨#[109,111,118,101]⟩:B_)=4:=rfl;refine aN a7<|Cq (bC kG)<|Cq (bT N_)<|Cq (bC jQ)<|Cq (bC nF)<|Cq (bT M_)<|Cq (kc mE (qM e.x X X _))<|Cq (bC jQ)<|Cq (bC nE)<|Cq (bT M_)<|Cq (kc mE (qM e.y X X _))<|Cq (aM (([⟨#[109,111,118,101]⟩,e.id,aV e.x,aV e.y]:List B_).map S_) Z aY Z Z Z Z Z (jK _))<|Cq aH<|bF<|Kr<|Sr<|Dm ?_;have P:bs [⟨#[109,111,118,101]⟩,e.id,aV e.x,aV e.y]=gW e:=by
   rw[gW]
   (rw[b6 R];rfl)
  have G:e.op≠1:=X
  have K:∀H,RC 204 [.pv (aK [⟨#[109,111,118,101]⟩,e.id,aV e.x,aV e.y]),sv ⟨#[32]⟩] (sv ⟨(bW [32] (bs [⟨#[109,111,118,101]⟩,e.id,aV e.x,aV e.y])).toArray⟩) H:=λH=>yA [⟨#[109,111,118,101]⟩,e.id,aV e.x,aV e.y] ⟨#[32]⟩ H E_ u6;have L:T (⟨(bW [32] (bs [⟨#[109,111,118,101]⟩,e.id,aV e.x,aV e.y])).toArray⟩:B_)<=70000:=by
   show C (bW [32] (bs [⟨#[109,111,118,101]⟩,e.id,aV e.x,aV e.y]))<=_;have:=gE [⟨#[109,111,118,101]⟩,e.id,aV e.x,aV e.y];simp only[cN,j6,Â]at this;omega
  have J:T (⟨#[10]⟩:B_)=1:=rfl;refine Y (kc sK (K _))<|Y kq<|Y aH<|V aH<|aC<|Ru ?_;rw[zA G P,show gC e=0 from a8 G];exact Qq
 have R:e.op≠2:=b_ D;rw[a8 R]at I;refine U cI<|Da<|Cn ?_ ?_<;>intro B
 .have W:e.op=3:=b9 B;rw[b6 W,l7,l6]at I;have n:=dR I.1;have hq:=sF e.val;have Q:T (⟨#[116,97,103]⟩:B_)=3:=rfl;refine aN a7<|Cq (bC kG)<|Cq (bT N_)<|Cq (bC oH)<|Cq (bT N_)<|Cq (bC pJ)<|Cq (bT N_)<|Cq (kc call260 (yz e.val _ X))<|Cq (aM (([⟨#[116,97,103]⟩,e.id,e.key,⟨(cZ (ν (μ e.val))).toArray⟩]:List B_).map S_) Z aY Z Z Z Z Z (jK _))<|Cq aH<|bF<|Kr<|Sr<|Dm ?_;have P:bs [⟨#[116,97,103]⟩,e.id,e.key,⟨(cZ (ν (μ e.val))).toArray⟩]=gW e:=by
   rw[gW]
   (rw[a8 R,b6 W];rfl)
  have G:e.op≠1:=X
  have K:∀H,RC 204 [.pv (aK [⟨#[116,97,103]⟩,e.id,e.key,⟨(cZ (ν (μ e.val))).toArray⟩]),sv ⟨#[32]⟩] (sv ⟨(bW [32] (bs [⟨#[116,97,103]⟩,e.id,e.key,⟨(cZ (ν (μ e.val))).toArray⟩])).toArray⟩) H:=λH=>yA [⟨#[116,97,103]⟩,e.id,e.key,⟨(cZ (ν (μ e.val))).toArray⟩] ⟨#[32]⟩ H E_ u6;have L:T (⟨(bW [32] (bs [⟨#[116,97,103]⟩,e.id,e.key,⟨(cZ (ν (μ e.val))).toArray⟩])).toArray⟩:B_)<=70000:=by
   show C (bW [32] (bs [⟨#[116,97,103]⟩,e.id,e.key,⟨(cZ (ν (μ e.val))).toArray⟩]))<=_;have:=gE [⟨#[116,97,103]⟩,e.id,e.key,⟨(cZ (ν (μ e.val))).toArray⟩];simp only[cN,j6,Â]at this;omega
  have J:T (⟨#[10]⟩:B_)=1:=rfl;refine Y (kc sK (K _))<|Y kq<|Y aH<|V aH<|aC<|Ru ?_;rw[zA G P,show gC e=0 from a8 G];exact Qq
 have W:e.op≠3:=b_ B;rw[a8 W]at I;refine U cI<|Da<|Cn ?_ ?_<;>intro c
 .have a:e.op=4:=b9 c;rw[b6 a,l7,l7,l6,l6,Þ]at I;have ⟨⟨r1,r2⟩,r3⟩:=I;have q:dC e.refs<=24*C e.refs:=pV (λs r=>dR (r3 s r));have Q:T (⟨#[114,101,102,115]⟩:B_)=4:=rfl;have f:C (([[⟨#[114,101,102,115]⟩,e.id],e.refs]:List (List B_)).flatten)<2^40:=G_
  refine Rd (bC kG)<|Y (bT N_)<|Y (aM (([⟨#[114,101,102,115]⟩,e.id]:List B_).map S_) Z aY Z Z Z Z Z (jK _))<|Y (bC iW)<|Y (bT aG)<|Y (aM (([[⟨#[114,101,102,115]⟩,e.id],e.refs]:List (List B_)).map (λl=>[.sl (l.map S_)])) Z HQ Z Z Z Z Z H_)<|Y (kc call47 (lH [[⟨#[114,101,102,115]⟩,e.id],e.refs] _ F_ f))<|V aH<|Sr<|Dm ?_;rw[show ([[⟨#[114,101,102,115]⟩,e.id],e.refs]:List (List B_)).flatten=⟨#[114,101,102,115]⟩::e.id::e.refs by simp];have P:bs (⟨#[114,101,102,115]⟩::e.id::e.refs)=gW e:=by
   rw[gW]
   (rw[a8 R,a8 W,b6 a];rfl)
  have G:e.op≠1:=X
  have K:∀H,RC 204 [.pv (aK (⟨#[114,101,102,115]⟩::e.id::e.refs)),sv ⟨#[32]⟩] (sv ⟨(bW [32] (bs (⟨#[114,101,102,115]⟩::e.id::e.refs))).toArray⟩) H:=λH=>yA (⟨#[114,101,102,115]⟩::e.id::e.refs) ⟨#[32]⟩ H E_ u6;have L:T (⟨(bW [32] (bs (⟨#[114,101,102,115]⟩::e.id::e.refs))).toArray⟩:B_)<=70000:=by
   show C (bW [32] (bs (⟨#[114,101,102,115]⟩::e.id::e.refs)))<=_;have:=gE (⟨#[114,101,102,115]⟩::e.id::e.refs);simp only[cN,j6,Â]at this;omega
  have J:T (⟨#[10]⟩:B_)=1:=rfl;refine Y (kc sK (K _))<|Y kq<|Y aH<|V aH<|aC<|Ru ?_;rw[zA G P,show gC e=0 from a8 G];exact Qq
 have a:e.op≠4:=b_ c;rw[a8 a]at I;refine U cI<|Da<|Cn ?_ ?_<;>intro w
 .have z:e.op=5:=b9 w;have Q:T (⟨#[100,114,111,112]⟩:B_)=4:=rfl;refine Rd (bC kG)<|Y (bT N_)<|Y (aM (([⟨#[100,114,111,112]⟩,e.id]:List B_).map S_) Z aY Z Z Z Z Z (jK _))<|V aH<|Sr<|Dm ?_;have P:bs [⟨#[100,114,111,112]⟩,e.id]=gW e:=by
   rw[gW]
   (rw[a8 R,a8 W,a8 a,b6 z];rfl)
  have G:e.op≠1:=X
  have K:∀H,RC 204 [.pv (aK [⟨#[100,114,111,112]⟩,e.id]),sv ⟨#[32]⟩] (sv ⟨(bW [32] (bs [⟨#[100,114,111,112]⟩,e.id])).toArray⟩) H:=λH=>yA [⟨#[100,114,111,112]⟩,e.id] ⟨#[32]⟩ H E_ u6;have L:T (⟨(bW [32] (bs [⟨#[100,114,111,112]⟩,e.id])).toArray⟩:B_)<=70000:=by
   show C (bW [32] (bs [⟨#[100,114,111,112]⟩,e.id]))<=_;have:=gE [⟨#[100,114,111,112]⟩,e.id];simp only[cN,j6,Â]at this;omega
  have J:T (⟨#[10]⟩:B_)=1:=rfl;refine Y (kc sK (K _))<|Y kq<|Y aH<|V aH<|aC<|Ru ?_;rw[zA G P,show gC e=0 from a8 G];exact Qq
 have z:e.op≠5:=b_ w;rw[a8 z]at I;refine U cI<|Da<|Cn ?_ ?_<;>intro d
 .have b:e.op=6:=b9 d;rw[b6 b,l7]at I;have p:=dR I.1;have y:=dR I.2;have Q:T (⟨#[115,112,108,105,116]⟩:B_)=5:=rfl;refine Rd (bC kG)<|Y (bT N_)<|Y (bC rQ)<|Y (bT N_)<|Y (bC kZ)<|Y (bT N_)<|Y (aM (([⟨#[115,112,108,105,116]⟩,e.id,e.node,e.other]:List B_).map S_) Z aY Z Z Z Z Z (jK _))<|V aH<|Sr<|Dm ?_;have P:bs [⟨#[115,112,108,105,116]⟩,e.id,e.node,e.other]=gW e:=by
   rw[gW]
   (rw[a8 R,a8 W,a8 a,a8 z,b6 b];rfl)
  have G:e.op≠1:=X
  have K:∀H,RC 204 [.pv (aK [⟨#[115,112,108,105,116]⟩,e.id,e.node,e.other]),sv ⟨#[32]⟩] (sv ⟨(bW [32] (bs [⟨#[115,112,108,105,116]⟩,e.id,e.node,e.other])).toArray⟩) H:=λH=>yA [⟨#[115,112,108,105,116]⟩,e.id,e.node,e.other] ⟨#[32]⟩ H E_ u6;have L:T (⟨(bW [32] (bs [⟨#[115,112,108,105,116]⟩,e.id,e.node,e.other])).toArray⟩:B_)<=70000:=by
   show C (bW [32] (bs [⟨#[115,112,108,105,116]⟩,e.id,e.node,e.other]))<=_;have:=gE [⟨#[115,112,108,105,116]⟩,e.id,e.node,e.other];simp only[cN,j6,Â]at this;omega
  have J:T (⟨#[10]⟩:B_)=1:=rfl;refine Y (kc sK (K _))<|Y kq<|Y aH<|V aH<|aC<|Ru ?_;rw[zA G P,show gC e=0 from a8 G];exact Qq
 have b:e.op≠6:=b_ d;rw[a8 b]at I;have y:=dR I;have Q:T (⟨#[106,111,105,110]⟩:B_)=4:=rfl;refine Rd (bC kG)<|Y (bT N_)<|Y (bC kZ)<|Y (bT N_)<|Y (aM (([⟨#[106,111,105,110]⟩,e.id,e.other]:List B_).map S_) Z aY Z Z Z Z Z (jK _))<|V aH<|Sr<|Dm ?_;have P:bs [⟨#[106,111,105,110]⟩,e.id,e.other]=gW e:=by
  rw[gW]
  (rw[a8 R,a8 W,a8 a,a8 z,a8 b];rfl)
 have G:e.op≠1:=X
 have K:∀H,RC 204 [.pv (aK [⟨#[106,111,105,110]⟩,e.id,e.other]),sv ⟨#[32]⟩] (sv ⟨(bW [32] (bs [⟨#[106,111,105,110]⟩,e.id,e.other])).toArray⟩) H:=λH=>yA [⟨#[106,111,105,110]⟩,e.id,e.other] ⟨#[32]⟩ H E_ u6;have L:T (⟨(bW [32] (bs [⟨#[106,111,105,110]⟩,e.id,e.other])).toArray⟩:B_)<=70000:=by
  show C (bW [32] (bs [⟨#[106,111,105,110]⟩,e.id,e.other]))<=_;have:=gE [⟨#[106,111,105,110]⟩,e.id,e.other];simp only[cN,j6,Â]at this;omega
 have J:T (⟨#[10]⟩:B_)=1:=rfl;refine Y (kc sK (K _))<|Y kq<|Y aH<|V aH<|aC<|Ru ?_;rw[zA G P,show gC e=0 from a8 G];exact Qq
theorem R7:∀ {l} {acc},(sN acc l).2=0->(∀e∈l,gC e=0)/\sN acc l=(acc++l.flatMap λe=>fX e++[10],0)/\(C acc<=20000->C (sN acc l).1<=20000)
 | [],acc,_=>⟨(λe h=>by cases h),by rw[sN,List.flatMap_nil,List.append_nil],λh=>h⟩
 |e::l,acc,h=>by
  rw[sN]at h |-;by_cases b:gC e≠0\/20000<C (acc++(fX e++[10]))
  .simp_all
  rw[a8 b]at h |-;obtain ⟨B,D,E⟩:=R7 h
  simp_all
theorem JP{l}(h:lV l=A):l≠[]/\∀e∈l,gO e=A:=by
 rw[lV,l7]at h
 grind
theorem Vp(w):Lib.trimSuffix (w++[10]) [10]=w:=by rw[Lib.trimSuffix,Lib.hasSuffix];simp
theorem FJ{l}(h:(eH l).2=0):iM (eH l).1=(l,0):=by
 have b:lV l=A:=by
  rw[eH]at h
  grind
 have ⟨B,d⟩:=JP b;rw[eH,b6 b]at h;have ⟨c,f,E⟩:=R7 h;rw[Ó]at f;have j:eH l=(a_ (l.flatMap λe=>fX e++[10]),0):=by rw[eH,b6 b,f]
 have D:T (a_ (l.flatMap λe=>fX e++[10]))<=20000:=by rw[cB];simp_all
 have F:(sI (a_ (l.flatMap λe=>fX e++[10])).data.toList).map (λs=>oG (Lib.trimSuffix s [10]))=l:=by
  have g:=II (λw i=>by
   obtain ⟨e,a,rfl⟩:=mem_map.1 i;exact(NJ (d e a) (c e a)).2)
  rw[Ø]at g;rw[cG,g,Ò,Ò];refine(Ù λe a=>?_).trans (map_id l);show oG _=e;rw[Vp];exact(NJ (d e a) (c e a)).1
 rw[j,iM]
 simp_all
end Go.Proofs.C
