/-
  Parts of the proof. Conditions: each theorem's own.
-/
import Derived.Test.YtopnleflllkbmaaGreatDoorKX3rM3
import Derived.Laws.BitsLemmas
import Derived.Below
import Derived.Shelf.Strconv.ErrVarAll
import Derived.Shelf.Strconv.AtoiAll
import Derived.Shelf.LaysC
import Derived.Shelf.Strings.SlTrimAscii
import Derived.WideLaws
import Derived.Laws.Build
import Derived.Lib.Strings
import Derived.Lib.AtoiTie
import Derived.Lib.ItoaMem
set_option linter.unusedVariables false
set_option linter.unusedSimpArgs false
set_option maxRecDepth 100000
set_option maxHeartbeats 8000000
open List Nat
namespace Go.Proofs
open Tryz
theorem vO:type_of% call121:=call121
theorem nB:type_of% isAgg185:=isAgg185
theorem iT:type_of% isAgg189:=isAgg189
theorem mV:type_of% isAgg25:=isAgg25
theorem gT:type_of% isAgg48:=isAgg48
theorem jV:type_of% isAgg49:=isAgg49
theorem nS:type_of% sizeOf185:=sizeOf185
end Go.Proofs
namespace Go.Proofs.YtopnleflllkbmaaGreatDoor
open Go.Proofs.Tryz
open Go.Abs
abbrev HXJ:B_:=⟨#[48,49,50,51,52,53,54,55,56,57,97,98,99,100,101,102]⟩
theorem Kw{n}(h:n<16):Lib.indexByte HXJ.data.toList (wU n).toNat.toUInt8=n:=by revert n;decide
theorem qg(m){k}(b:k<16):aY (FD m) k=wU (UW (Db m) k):=by have a:=vn (ET (Db m) k);have e:(FD m).data.toList=BT (Db m):=rfl;rw[aY,e,BT,r7,getElem?_range b];show ((UInt8.ofNat _).toNat:Int)=_;rw[UInt8.toNat_ofNat',mod_eq_of_lt X,Int.toNat_of_nonneg a.1]
theorem Ls(m){k}(a:k<16):(dJ m)[k]?=some (UW (Db m) k):=by rw[dJ,r7,getElem?_range a];rfl
theorem Vd(m){k}(a:k<16):(Di m).getD k 0=UW (Db m) k:=by rw[getD_eq_getElem?_getD,Di,getElem?_append_left (a),Ls m a];rfl
theorem aAt(m):(Di m).getD 16 0=GU m / 16:=rfl
theorem aAs(m):(Di m).getD 17 0=GU m % 16:=rfl
def JN(m:B_)(k:Nat):Nat:=(((dJ m).take k).map (15 - ·)).sum
theorem mb(m){k}(a:k<16):JN m (k+1)=JN m k+(15 - UW (Db m) k):=by rw[JN,take_add_one,Ls m a,map_append,sum_append];rfl
theorem Gz(m)(k):JN m k<=240:=by
 have h:=P8 ((dJ m).take k);have h2:((dJ m).take k).length<=16:=by rw[q9,aAv];omega
 rw[JN];omega
theorem yp(m):JN m 16=GU m:=rfl
def nx(m:B_):Ob:=bx 1 9 [sv m]
theorem Bb(m)(H)(b:H.get 961=none):aU Tryz.prog 171 [sv m] H (λr H'=>r=.clo 225 [.ref 961 0 0 0]/\H'=(961,nx m)::H):=by refine Bd func171 Z ntmps171<|O (wL Z Z Z Z b)<|V aI<|O (gW Z Z)<|V aI<|aC ?_;refine cR (.inr Z) Z (aH Z) Fin.refl Qq
theorem Bc(m:B_)(o:AV)(d:Nat->aF)(hm:m.size<2^40)(u:∀k,(d k).get 961=some (nx m))
  (p:∀k:Nat,k<18->dH Tryz.prog o [iv (k:Int),iv (((Di m).getD k 0:Nat):Int)] (d k) (λr H'=>r=bv true/\H'=d (k+1))) :
  aU Tryz.prog 225 [o,.ref 961 0 0 0] (d 0) (λr H'=>r=.tup []/\H'=d 18):=by
 have s:=rF m;have g:=λH=>sg m H X;have f:=p 16 E_;have j:=p 17 E_;have hle:=cp m;rw[aAt]at f;rw[aAs]at j;refine Bd func225 Z ntmps225<|Sz aI<|O (aX Z N_ Z (u 0) Z Z Z)<|Y (kc call106 (g _))<|V aI<|S<|O aA<|Y (gE U_)<|V aA<|aD<|bF (σ:=Nat) (λk=>([(0,o),(1,.ref 961 0 0 0),(3,iv (JN m k:Int)),(4,sv (FD m)),(10,iv 16),(11,iv (k:Int))],d k)) (λk=>k<=16) (λk=>16 - k) 0 (l7 _) ?_ ?_
 ·rw[s];exact E0
 intro k hk;have c:=λ(h:k<16)=>p k X;refine Sz cJ<|S<|Cn ?_ ?_<;>intro i
 ·have b:k<16:=I_ i
  have c:=c b;rw[Vd m b]at c;have t:=ET (Db m) k;have hr1:=Gz m k;have hr2:=mb m b;have e:=λH=>rW HXJ (wU (UW (Db m) k)) H;rw[Kw t]at e;refine aB<|S<|aD<|O aA<|V aI<|O aA<|Y aA<|Y (cI Z U_ Z Z X (l_ _) X (qg m b))<|Y (kc call199 (e _))<|V aI<|O aA<|Y aA<|Y (by exact dM Z Z Z (show IntKind.i64.wrap (15 - (UW (Db m) k:Int))=((15 - UW (Db m) k:Nat):Int)by rw[mE X X];omega))<|Y (by exact dB Z Z Z (show IntKind.i64.wrap ((JN m k:Int)+((15 - UW (Db m) k:Nat):Int))=(JN m (k+1):Int)by rw[mE X X];omega))<|V aI<|O aA<|Y aA<|Y aA<|Y (dA Z Z Z (c))<|V iI ?_;refine Cn ?_ ?_<;>intro l
  ·cases l
  refine aB<|Rd kp<|V aA ?_;exact⟨k+1,X,X,E0⟩
 have n:k=16:=J_ i
 subst n;rw[yp];refine aP<|O aA<|Y aA<|Y (by exact CU Z Z Z E_ (show IntKind.i64.wrap (((GU m:Nat):Int).tdiv 16)=((GU m / 16:Nat):Int)by rw[Int.tdiv_eq_ediv_of_nonneg X,mE X X];omega))<|V (dA Z Z Z (f)) ?_;refine Cn ?_ ?_<;>intro q
 ·refine Rd aA<|Y aA<|Y (by exact zM Z Z Z E_ (show ((GU m:Nat):Int).tmod 16=((GU m % 16:Nat):Int)by rw[Int.tmod_eq_emod_of_nonneg X];omega))<|V (dA Z Z Z (j)) ?_;exact oT (H':=d 18) (.inl Z) Z Fin.refl ⟨Z,Z⟩
 cases q
theorem Pj{a b:Nat}(e:a<2^62)(f:b<2^62):bits .xor .i64 a b=((a ^^^ b)):=by have h:=xor_lt_two_pow (n:=62) e f;have d:a % 2 ^ IntKind.i64.bits=a:=mod_eq_of_lt (Nat.lt_of_lt_of_le e E_);have c:b % 2 ^ IntKind.i64.bits=b:=mod_eq_of_lt (Nat.lt_of_lt_of_le f E_);simp[bits,BitVec.ofInt_natCast,BitVec.toNat_xor,BitVec.toNat_ofNat,d,c];rw[mE X X]
theorem Vf{p}[Decidable p](h:¬ p):AV.pv (.bool (decide p))=bv false:=F_
def yk(s:B_)(i:Nat)(m:B_)(k:Nat):List B_:=(List.range k).map λk=>N1 (oZ s i k) ((Di m).getD k 0)
theorem Gg(s)(i)(m)(k):yk s i m (k+1)=yk s i m k++[N1 (oZ s i k) ((Di m).getD k 0)]:=by rw[yk,range_succ,map_append];rfl
theorem Qs(s)(i)(m)(k):(yk s i m k).length=k:=by simp[yk]
theorem cN.eqJ{P}{N}{o}{E}{H H2}{v a}(h:cN P N o E H v H2)(e:v=a):cN P N o E H a H2:=e▸h
def sgE:cY:=[(4,.ref 4 0 0 0),(6,.ref 6 0 0 0),(10,.ref 10 0 0 0)]
def sgT(s:B_)(i:Nat):aF:=[(8,bx 3 48 [iv 0,.pv (.sl []),.pv (.sl [])]),(6,bx 1 3 [iv (i:Int)]),(4,bx 1 9 [sv s])]
def sgK(s:B_)(i:Nat)(m:B_)(L:List B_):aF:=[(905,⟨L.length,1,9,cB L⟩),(10,bx 3 48 [iv (i:Int),.osl 905 L.length 0 L.length,.pv .nils]),(961,nx m),(8,bx 3 48 [iv 0,.pv (.sl []),.pv (.sl [])]),(6,bx 1 3 [iv (i:Int)]),(4,bx 1 9 [sv s])]
theorem Qt(s)(i)(m)(L)(x):sgK s i m (L++[x])=[(905,⟨L.length+1,1,9,cB (L++[x])⟩),(10,bx 3 48 [iv i,.osl 905 (L.length+1) 0 (L.length+1),.pv .nils]),(961,nx m),(8,bx 3 48 [iv 0,.pv (.sl []),.pv (.sl [])]),(6,bx 1 3 [iv i]),(4,bx 1 9 [sv s])]:=by simp[sgK]
theorem SB(H)(m):∀r∈(nx m).rows,∀a∈r,Clo H a:=by intro r c a b;simp[nx,bx,r6]at c;subst c;rw[r6]at b;subst b;simp
instance(H)(m):W_ (H) ((nx m).rows):=⟨SB H m⟩
theorem u0{p:Prop}(h:p:=by simp only[Zl,S_];rfl):p:=h
theorem u1{p:Prop}(h:p:=by simp only[j7,length_nil];omega):p:=h
theorem Qo(s m:B_)(h i:Nat)(H:aF)(hs:s.size<2^40)(hm:m.size<2^40)(K:h<=8)(hi:i<2 ^ h):
  RC 119 [sv s,iv (h:Int),iv (i:Int),sv m] (.tup [.agg [iv (i:Int),.pv (aL (ln s i m)),.pv (aL (xR h (xX s h) i))],iv 0]) H:=by
 refine Pu ?_;have f:=F1 K;have hsh:=Yq K;have hkeys:=λH=>Ud s h H hs K;have A_:=WS s h;have hpath:∀L,L=xR h (xX s h) i->True:=λ_ _=>trivial;refine Bd func119 Z ntmps119<|O (kb 4)<|Y (kb 6)<|Y (kl 8 aq)<|V aI<|S<|S<|aM a7<|Cq aA<|Cq (cN.eqJ (iC Z Z Z) (Vf X))<|Cq aA<|Nf aA<|Nf (cN.eqJ (J5 Z Z Z) (Vf X))<|Cq cC<|Cq aA<|Nf (bQ M_)<|Nf (cN.eqJ (iC Z Z Z) (Vf X))<|Cq cC<|Cq aA<|Nf (bQ M_)<|Nf aA<|Nf (by exact O8 Z Z Z X (by simp[IntKind.bits];omega) hsh)<|Nf (cN.eqJ (jL Z Z Z) (Vf X))<|Cq cC<|bG<|Kr ?_;refine Cn ?_ ?_<;>intro u_
 ·cases u_
 refine aB<|O (bQ M_)<|Y (oI aDI)<|Y (kl 10 aq)<|Uu (jA sizeOf48)<|Zz<|S<|O aA<|V (kc call171 (Bb m _ Z))<|aD ?_;refine gG.ent (E':=[(1,iv (h:Int)),(4,.ref 4 0 0 0),(6,.ref 6 0 0 0),(8,.ref 8 0 0 0),(10,.ref 10 0 0 0),(35,.clo 225 [.ref 961 0 0 0])]) (H':=sgK s i m []) ?_ ?_
 ·exact (Q_ 905 1 9)
 refine qk (id:=904) (p:=36) (p2:=37) sgE Z call225 Z Z (by simp[sgE];exact⟨Z,Z,Z⟩) ?_;intro x P F hx3 hx4 W T;refine(Bc m (.yld 904 0) (λk=>(904,LR x sgE)::sgK s i m (yk s i m k)) hm (λk=>rfl) ?_).mono ?_
 ·intro k hk;have hd:=aAr m _ (Ap (d:=0) (by rw[Ve];exact hk));have e_:=λH=>sj s i k H hs X X;have hfl:=Qs s i m k;have D:=Gg s i m k;have c_:=λH=>wi (oZ s i k) ((Di m).getD k 0) H (by rw[EC];decide) X;generalize (Di m).getD k 0=d at hd D c_ |-;refine .inl ⟨904,0,Z,?_⟩;refine Pi [(4,.ref 4 0 0 0),(6,.ref 6 0 0 0),(10,.ref 10 0 0 0),(11,iv (k:Int)),(12,iv (d:Int))] (sgK s i m (yk s i m k)) P F hx3 hx4 W T Z Z Z Z Z ?_ ?_
  ·refine Sz aI<|Rg<|Da ?_;exact(cL.wk (Ea<|Ea<|Ea<|Eb<|Eb<|T_) (Hc (nT (by intro p f;simp only[sgE,l9,q7,or_false]at f;rcases f with rfl|rfl|rfl<;>(simp only[DI];rfl)))<|Hc (aV _ _)<|Ha<|Hc (SB _ _)<|Hb<|Hb<|Hb<|T_) ⟨Z,Z,Z,Z,Z,Z,Z,T_⟩)
  rw[D,Qt];refine aD<|aM a7<|Cr [10] (λ_ h=>fh vX h)<|Cr [10] (λ_ h=>lh aG h)<|Cr [4] (λ_ h=>lh N_ h)<|Cr [6] (λ_ h=>lh M_ h)<|x_ aA<|x_ (by exact bH Z Z call173 Z (e_ _))<|x_ aA<|x_ (by exact bH Z Z call172 Z (c_ _))<|x_ (by exact aK [[.str (N1 (oZ s i k) d)]] Z bD Z Z Z Z Z F_)<|Cp [905] (λn c=>by exact cA (ps:=[[.str (N1 (oZ s i k) d)]]) Z bD yJ Z ((c _ Z).trans Z) Z Z Z (eS _) Z F_ (m:=1) Z X Z (gO (yk s i m k) (N1 (oZ s i k) d)))<|Cr [10] (λ_ h=>fh vX h)<|Cp [10] (λn c=>by exact cQ Z sizeOf22 Z Z Z ((c _ Z).trans Z) Z Z F_ u0 u0) ?_;refine bG<|Kr ?_;exact⟨[(905,⟨(yk s i m k).length+1,1,9,cB (yk s i m k++[N1 (oZ s i k) d])⟩),(10,bx 3 48 [iv (i:Int),.osl 905 ((yk s i m k).length+1) 0 ((yk s i m k).length+1),.pv .nils]),(961,nx m),(8,bx 3 48 [iv 0,.pv (.sl []),.pv (.sl [])]),(6,bx 1 3 [iv (i:Int)]),(4,bx 1 9 [sv s])],(cL.wk T_ (Hc (nT (by intro p f;simp only[sgE,l9,q7,or_false]at f;rcases f with rfl|rfl|rfl<;>(simp only[DI];rfl)))<|Hc (aV _ _)<|Ha<|Hc (SB _ _)<|Hb<|Hb<|Hb<|T_) ⟨Z,Z,Z,Z,Z,Z,Z,T_⟩),Z,Z⟩
 rintro r H' ⟨rfl,rfl⟩;refine⟨x,_,Z,F_,Z,λz=>?_⟩;rw[F,show yk s i m 18=ln s i m from rfl];have ⟨f_,hS⟩:∃f_,f_=ln s i m:=X_;rw[<-hS];have hol:(f_.map S_).length=f_.length:=j6 _;refine gG.ent (cL.fzG (id:=905) (E':=[(1,iv (h:Int)),(4,.ref 4 0 0 0),(6,.ref 6 0 0 0),(8,.ref 8 0 0 0),(10,.ref 10 0 0 0)]) (H':=(10,bx 3 48 [iv (i:Int),.pv (aL f_),.pv .nils])::sgT s i) (f_.map S_) Z (eT _) ?_ Z ?_ ?_) ?_
 ·intro p f;simp only[l9,q7,or_false]at f;rcases f with rfl|rfl|rfl|rfl|rfl
  ·exact⟨_,Z,.same H_⟩
  ·exact⟨_,Z,.same m3⟩
  ·exact⟨_,Z,.same m3⟩
  ·exact⟨_,Z,.same m3⟩
  exact⟨_,Z,.same m3⟩
 ·refine⟨⟨_,Z,Z,Z,Z,lW Z (bC (.same H_) (bC (.osl ?_) (bC (.same H_) kK)))⟩,⟨_,Z,Z,Z,Z,eP H_⟩,⟨_,Z,Z,Z,Z,eP H_⟩,⟨_,Z,Z,Z,Z,eP H_⟩,T_⟩;rw[r9,drop_zero,<-hol,take_length]
 ·exact T_
 refine S<|S<|aM a7<|Cq (bQ N_)<|Cq aA<|Cq (kc call174 (hkeys _))<|Cq (bQ M_)<|Cq aI<|Cq aI<|bG<|Kr<|aD ?_;refine gG.ent (E':=[(8,.ref 8 0 0 0),(10,.ref 10 0 0 0),(13,.pv (aL (xX s h))),(14,iv (i:Int))]) (H':=(906,⟨0,1,9,[]⟩)::(10,bx 3 48 [iv (i:Int),.pv (aL f_),.osl 906 0 0 0])::sgT s i) ?_ ?_
 ·exact (Q_ 906 1 9)
 refine XP (λ(j:Nat) (l:List B_) (q:Nat) (A:List B_)=>([(8,.ref 8 0 0 0),(10,.ref 10 0 0 0),(13,.pv (aL l)),(14,iv (q:Int))],[(906,⟨A.length,1,9,cB A⟩),(10,bx 3 48 [iv (i:Int),.pv (aL f_),.osl 906 A.length 0 A.length]),(8,bx 3 48 [iv 0,.pv (.sl []),.pv (.sl [])]),(6,bx 1 3 [iv (i:Int)]),(4,bx 1 9 [sv s])]))
  (λj l q A=>l.length=2 ^ j/\q<2 ^ j/\A++xR j l q=xR h (xX s h) i/\(∀t∈l,t.size=16)/\j<=8/\A.length+j<=8) (λj l q A=>j) h (xX s h) i [] ⟨A_,hi,Z,λt o_=>jY (WT s h t o_),K,by rw[length_nil];omega⟩ ?_ ?_
 ·exact L_
 rintro j l q A ⟨hl,hq,o,hz,hj,hA⟩;have hml:(l.map S_).length=l.length:=j6 _;have hpj:=F1 hj;refine S<|O aA<|Y (fW aE)<|V iP<|Cn ?_ ?_<;>intro v
 ·have E:1<l.length:=I_ v
  obtain ⟨u,rfl⟩:∃u,j=u+1:=by
   cases j with
   |zero=>rw[hl]at E;exact absurd E E_
   |succ u=>exact⟨u,Z⟩
  have G:l.length=2*2 ^ u:=by rw[hl,Nat.pow_succ,Nat.mul_comm]
  have hpu:=F1 (h:=u) X;have Q:q / 2<2 ^ u:=by rw[Nat.pow_succ]at hq;omega
  have hx:=rj q;have d_:q ^^^ 1<l.length:=by
   rw[hx]
   split<;>omega
  have g:(l.map S_)[q ^^^ 1]?=some (S_ (l.getD (q ^^^ 1) a6)):=by
   rw[r7,getD_eq_getElem?_getD,m_ d_];rfl
  have w:(A++[l.getD (q ^^^ 1) a6])++xR u (ry l) (q / 2)=xR h (xX s h) i:=by
   rw[<-o,append_assoc];rfl
  have B:=Pj (a:=q) (b:=1) X E_;generalize l.getD (q ^^^ 1) a6=e at g w;generalize q ^^^ 1=y at g B d_;have z_:(A++[e]).length=A.length+1:=by rw[j_];rfl
  refine aB<|S<|aD<|aM a7<|Cr [10] (λ_ h=>fh vW h)<|Cr [10] (λ_ h=>lh aG h)<|x_ aA<|x_ aA<|x_ (by exact pE Z H_ Z Z B)<|x_ (by exact bU Z bD Z Z X (l_ _) g Z)<|x_ ((fZ N_ (hi:=g)))<|x_ (by exact aK [[.str e]] Z bD Z Z Z Z Z R_)<|Cp [906] (λn c=>by exact cA (ps:=[[.str e]]) Z bD yJ Z ((c _ Z).trans Z) Z Z Z (eS _) Z R_ (m:=1) Z X Z (gO A e))<|Cr [10] (λ_ h=>fh vW h)<|Cp [10] (λn c=>by exact cQ Z sizeOf22 Z Z Z ((c _ Z).trans Z) Z Z u1 u0 u0) ?_;refine bG<|Kr<|Rd aA<|Y (kc call175 (Vy l (2 ^ u) _ G X hz))<|Y aA<|Y (by exact CU Z Z Z E_ (show IntKind.i64.wrap ((q:Int).tdiv 2)=((q / 2:Nat):Int)by rw[Int.tdiv_eq_ediv_of_nonneg X,mE X X];omega))<|Y aI<|Da ?_;refine⟨u,ry l,q / 2,A++[e],⟨OO _ _ G,Q,w,λt o_=>jY (X2 _ _ (g_ _) t o_),X,X⟩,X,?_⟩;dsimp only;rw[z_];exact L_
 have hge:l.length<=1:=J_ v
 have N:j=0:=by
  cases j with
  |zero=>rfl
  |succ u =>
   have:2 ^ (u+1)=2*2 ^ u:=by rw[Nat.pow_succ,Nat.mul_comm]
   have:0<2 ^ u:=Nat.two_pow_pos u;omega
 subst N;have R:A=xR h (xX s h) i:=by rw[<-o,xR,append_nil]
 have y_:(A.map S_).length=A.length:=j6 _;rw[<-R];refine aP<|S ?_;refine gG.ent (cL.fzG (id:=906) (E':=[(8,.ref 8 0 0 0),(10,.ref 10 0 0 0)]) (H':=(10,bx 3 48 [iv (i:Int),.pv (aL f_),.pv (aL A)])::sgT s i) (A.map S_) Z (eT _) ?_ Z ?_ ?_) ?_
 ·intro p f;simp only[l9,q7,or_false]at f;rcases f with rfl|rfl
  ·exact⟨_,Z,.same m3⟩
  exact⟨_,Z,.same m3⟩
 ·refine⟨⟨_,Z,Z,Z,Z,lW Z (bC (.same H_) (bC (.same H_) (bC (.osl ?_) kK)))⟩,⟨_,Z,Z,Z,Z,eP H_⟩,⟨_,Z,Z,Z,Z,eP H_⟩,⟨_,Z,Z,Z,Z,eP H_⟩,T_⟩;rw[r9,drop_zero,<-y_,take_length]
 ·exact T_
 refine Rd (by exact aW Z gT sizeOf48 Z Z Z Z u0 Z)<|Uu (jA sizeOf48)<|V aI<|aC ?_;refine fP (H':=[]) (.inr Z) Z (fB Z gT sizeOf48 Z Z Z u0 Z) (aH Z) P_ ?_;exact Qq
end Go.Proofs.YtopnleflllkbmaaGreatDoor
namespace Go.Abs
open Go.RowKit
theorem Rel.below{I}{ι}{H}{w w'}(d:Below w.heap.size w w')(f:Rel I ι H w):Rel I ι H w'/\Step I ι H w I ι H w':=by
 have g:=d.block;have e:Step I ι H w I ι H w':=by
  refine⟨d.os,d.tape,d.output,d.size,λa ha _=>?_,λ_ h=>h,λ_ h=>.inl h,λ_ h=>.inl h,λb d _=>g b d,λ_ o h=>⟨o,h,g_ _,λ_=>⟨Z,Z,λ_=>g_ _⟩⟩⟩;unfold World.frozen?
  simp_all
 refine⟨⟨λb h=>?_,λj o k=>?_,f.inj,e.glob f⟩,e⟩
 ·have:=f.imm b h;have:=d.size;omega
 exact(f.obj j o k).keep Z (λb c _ d=>⟨g b d,λh=>h⟩) (λr _ a _ v i=>i.mono f e)
end Go.Abs
namespace Go.Abs
open Go.Proofs
def aCu(v:Value):Prop:=∃t p,v=.iface t p
abbrev Ay:PV:=.sat aCu
def pW(s:B_):Int×PV:=match Lib.atoiAll s.data.toList with
 |.ok v=>(v,MJ)
 |.range=>(Lib.atoiSat s.data.toList,Ay)
 |_=>(0,Ay)
theorem atoi_c{P:Program}{ρ:Shelf.Ren}(L:LaysC.n172 P ρ){G1 G2:Nat}(B:(G1,GV.face)∈ft)(c_:P.globalNamed "strconv.ErrSyntax" = some G1)(F:(G2,GV.face)∈ft)(e_:P.globalNamed "strconv.ErrRange" = some G2)(s:B_)(hs:s.size<2^40)(H:aF):
  aU P (ρ.f 172) [.pv (.str s)] H (λr H'=>r=.tup [.pv (.int .i64 (pW s).1),.pv (pW s).2]/\H'=H):=by
 intro I D w R Q K f_;obtain ⟨v,rfl⟩:∃v,R=#[v]:=by
  match R,K with
  |⟨[v]⟩,_=>exact⟨v,Z⟩
 have e1:=(f_ 0 v _ Z Z).str_inv;subst e1;have j:∀(g:String) (G:Nat),(G,GV.face)∈ft->P.globalNamed g=some G->∃t p,w.var? P g=some #[.iface t p]:=λg G A_ z_=>by
  have ⟨_,cs,t,f,l,q,p,v_⟩:=Q.glob _ A_;subst v_;exact⟨q,p,by simp only[World.var?,z_,Option.bind_some,l]⟩
 have m:∀(n:Int) (x:Value) (a:PV) (d:World),RowKit.Below w.heap.size w d->(∀I H,VRel d I D H x (.pv a))->∃r H' E o o_,(Ending.returned (.tuple #[.int .i64 n,x]))=.returned o_/\(r=.tup [.pv (.int .i64 n),.pv a]/\H'=H)/\VRel d E o H' o_ r/\Rel E o H' d/\Step I D H w E o H' d:=λn x a d u u_=>by
  have ⟨y_,W⟩:=Rel.below u Q;refine⟨_,_,I,D,_,Z,⟨Z,Z⟩,.tup Z λi v b y l=>?_,y_,W⟩
  match i,y,l with
  |0,y,l=>cases y;cases l;exact .pv (.int _ _)
  |1,y,l=>cases y;cases l;exact u_ _ _
  |i+2,y,l=>simp at y
 rw[pW];cases h:Lib.atoiAll s.data.toList with
 | ok n =>
  refine(Any.strconv_Atoi_ok L s X n h w).mono ?_;rintro e d ⟨rfl,T⟩;have u:RowKit.Below w.heap.size w d:=by
   rcases T with rfl|⟨t,rfl⟩
   ·exact RowKit.Below.refl _ _
   exact Lib.bytesWorld_below w _ t
  exact m n .nilIface MJ d u (λ_ _=>.pv (.sat Z Z))
 |range =>
  have ⟨t,p,A⟩:=j _ G2 F e_;refine(Any.strconv_Atoi_range_var L s X h t p w A).mono ?_;rintro e d ⟨N,rfl,_,_,u⟩;exact m _ _ Ay d u (λ_ _=>.pv (.sat Z ⟨_,_,Z⟩))
 |_ =>
  have ⟨t,p,A⟩:=j _ G1 B c_;refine(Any.strconv_Atoi_syntax_var L s X h t p w A).mono ?_;rintro e d ⟨N,rfl,_,_,u⟩;exact m 0 _ Ay d u (λ_ _=>.pv (.sat Z ⟨_,_,Z⟩))
theorem kh{P}{ρ}(L:Lays.n160 P ρ)(d:(P.info? (ρ.t 116)).map (λi=>(i.zero,i.size))=some (some (.agg (Array.replicate 256 (.bool false))),256))(s c)(o:s.size<=9223372036854775807)(g:c.size<4294967281)
  (p:∀(j:Nat) b,c.data.toList[j]?=some b->b.toNat<128) (H) :
  aU P (ρ.f 160) [.pv (.str s),.pv (.str c)] H (λr H'=>r=.pv (.str ⟨(Lib.trimS s.data.toList c.data.toList).toArray⟩)/\H'=H):=by
 intro I q w h m f k;obtain ⟨v,u,rfl⟩:∃v u,h=#[v,u]:=by
  match h,f with
  |⟨[v,u]⟩,_=>exact⟨v,u,Z⟩
 have x:=(k 0 v _ Z Z).str_inv;have n:=(k 1 u _ Z Z).str_inv;subst x n;refine(Any.strings_Trim_laid L d s c w o g p).mono ?_;rintro e w' ⟨rfl,y⟩;have ⟨t,l⟩:=Rel.below y m;exact⟨_,_,I,q,_,Z,⟨Z,Z⟩,.pv (.str _),t,l⟩
end Go.Abs
section
namespace Go.Proofs
open Go.RowKit Go.Sort Go.Shelf
def aFX:Go.Shelf.Ren:=⟨λ|160=>74|232=>123|231=>122|227=>124|234=>126|233=>125|236=>128|235=>127|228=>176|271=>179|151=>178|197=>177|120=>232|152=>231|260=>230|137=>199|119=>267|224=>268|225=>269|217=>250|266=>279|n=>n,λ|9=>9|4=>4|3=>3|5=>5|117=>150|116=>149|0=>0|124=>153|21=>21|105=>202|46=>157|119=>223|139=>279|138=>278|n=>n,λ|3=>0|4=>1|n=>n⟩
theorem aF2:Go.Proofs.Lays.n160 Tryz.prog aFX:={
  mixed:=by rfl
  f119:=Tryz.func267.trans C_
  f120:=Tryz.func232.trans C_
  f137:=Tryz.func199.trans C_
  f151:=Tryz.func178.trans C_
  f152:=Tryz.func231.trans C_
  f160:=Tryz.func74.trans C_
  f197:=Tryz.func177.trans C_
  f217:=Tryz.func250.trans C_
  f224:=Tryz.func268.trans C_
  f225:=Tryz.func269.trans C_
  f227:=Tryz.func124.trans C_
  f228:=Tryz.func176.trans C_
  f231:=Tryz.func122.trans C_
  f232:=Tryz.func123.trans C_
  f233:=Tryz.func125.trans C_
  f234:=Tryz.func126.trans C_
  f235:=Tryz.func127.trans C_
  f236:=Tryz.func128.trans C_
  f260:=Tryz.func230.trans C_
  f266:=Tryz.func279.trans C_
  f271:=Tryz.func179.trans C_
  t0:=DP
  a0:=Tryz.isAgg0
  z0:=Tryz.sizeOf0
  v0:=Tryz.zeroValue0
  t3:=Tryz.underlying3
  a3:=Tryz.isAgg3
  z3:=Tryz.sizeOf3
  v3:=sH
  t4:=eH
  a4:=nA
  z4:=Tryz.sizeOf4
  v4:=iU
  t5:=cZ
  a5:=uM
  z5:=cM
  v5:=sF
  t9:=Tryz.underlying9
  a9:=Tryz.isAgg9
  z9:=Tryz.sizeOf9
  v9:=gQ
  t21:=Tryz.underlying21
  a21:=Tryz.isAgg21
  z21:=Tryz.sizeOf21
  v21:=Tryz.zeroValue21
  t46:=kZ
  a46:=Tryz.isAgg157
  z46:=AU
  v46:=tH
  t105:=Tryz.underlying202
  a105:=Tryz.isAgg202
  z105:=Tryz.sizeOf202
  v105:=Tryz.zeroValue202
  t116:=Tryz.underlying149
  a116:=Tryz.isAgg149
  z116:=Tryz.sizeOf149
  t117:=Tryz.underlying150
  a117:=Tryz.isAgg150
  z117:=Tryz.sizeOf150
  v117:=Tryz.zeroValue150
  t119:=gK
  a119:=Tryz.isAgg223
  z119:=AT
  t124:=Tryz.underlying153
  a124:=Tryz.isAgg153
  z124:=Tryz.sizeOf153
  v124:=Tryz.zeroValue153
  t138:=Tryz.underlying278
  a138:=Tryz.isAgg278
  z138:=Tryz.sizeOf278
  v138:=Tryz.zeroValue278
  t139:=Tryz.underlying279
  a139:=Tryz.isAgg279
  z139:=Tryz.sizeOf279
  v139:=Tryz.zeroValue279
  g3:=by kernel_rfl
  g4:=by kernel_rfl}
end Go.Proofs
namespace Go.Proofs.YtopnleflllkbmaaGreatDoor
open Go.Proofs.Tryz
open Go.Abs
abbrev wz:B_:=⟨#[48,49,50,51,52,53,54,55,56,57,97,98,99,100,101,102]⟩
theorem aAa(b):wz.data.toList.contains b=vT b:=by
 have h:∀n:Fin 256,wz.data.toList.contains (UInt8.ofNat n.1)=vT (UInt8.ofNat n.1):=by decide +kernel
 have:=h ⟨b.toNat,b.toNat_lt⟩
 simpa using this
theorem AP{α:Type}(p):∀l:List α,l.dropWhile p=[]↔l.all p=true
 | []=>by simp
 |a::r=>by
  rw[List.dropWhile_cons,List.all_cons];cases h:p a with
  |true=>exact AP p r
  |false=>simp_all
theorem HD{α:Type}{p q}:∀ {l:List α},(l.dropWhile p).all q=true->(∀a,p a=true->q a=true)->l.all q=true
 | [],_,_=>rfl
 | a::r,h,b=>by
  rw[List.dropWhile_cons]at h;cases c:p a with
  |true =>
   rw[c]at h;rw[List.all_cons,b a c];exact HD h b
  |false =>
   simp_all
theorem bn(l):Lib.trimS l wz.data.toList=[]↔l.all vT=true:=by
 have e:=funext aAa;unfold Lib.trimS Lib.trimLeftS Lib.trimRightS;rw[e,AP];constructor
 ·intro h;rw[all_reverse]at h;have c:=HD h (λa d=>d)
  rwa [all_reverse]at c
 intro h;have c:=(AP _ _).2 (by rw[all_reverse];exact h);rw[c];rfl
theorem rz(s)(hs:s.size<2^40)(H):RC 74 [sv s,sv wz] (sv ⟨(Lib.trimS s.data.toList wz.data.toList).toArray⟩) H :=kh aF2 (Z) s _ X E_ (ascii_of_all (Z)) H
theorem WY(s)(c:s.size<2^40)(H):RC 30 [sv s] (bv (m6 s)) H:=by
 refine Pu ?_;have b:=λH=>rz s c H;have f:=bn s.data.toList;generalize Lib.trimS s.data.toList wz.data.toList=t at b f;have hb:m6 s=(decide ((s.size:Int)=16)&&decide ((⟨t.toArray⟩)=a6)):=by
  rw[m6]
  grind
 refine Bd func30 Z ntmps30<|Sz aI<|S<|aQ (t:=2) (n:=10) (A_:=m6 s) ?_ ?_
 ·all_goals refine Y aA<|Y (gE U_)<|Y cD<|Dm ?_<;>(refine Sp 6 (λe=>?_) λe=>?_)<;>(first|refine M<|M<|M ?_|refine U aA<|U (bH Z Z call74 Z (b _))<|U wH ?_)<;>refine Y cC<|Da ?_<;>exact Gj (h:=by simp_all)
 exact aC<|Rt<|Qq
end Go.Proofs.YtopnleflllkbmaaGreatDoor
end
namespace Go.Proofs.YtopnleflllkbmaaGreatDoor
open Go.Proofs.Tryz
open Go.Abs
def oddJ(t:B_):Bool:=!m6 t
theorem Bu(l:List B_)(q):((List.range l.length).any λk=>match l[k]? with|some s=>q s|none=>false)=l.any q:=by
 rw[Bool.eq_iff_iff,any_eq_true,any_eq_true];constructor
 ·grind
 rintro⟨s,a,h⟩;have ⟨k,hk⟩:=s8.1 a
 grind
theorem K4(l:List _):l.any oddJ=!l.all m6:=by
 induction l with
 |nil=>rfl
 |cons a r b=>rw[any_cons,all_cons,b,oddJ,Bool.not_and]
end Go.Proofs.YtopnleflllkbmaaGreatDoor
namespace Go.Abs
open Go.Proofs
section
section
variable{P:Program}{N:Nat}{o:Oper}{E:cY}{H:aF}{t t':TypeId}{x:Operand}
theorem RV(e:o.op=.binOp .neq t x (.const .nilIface) t')(d:P.underlying t=some (.interface (P.methodsAt t)))(f:aO E x=some (.pv MJ)):cN P N o E H (.pv (.bool false)) H :=.of_run λa w I ι _ b=>⟨.bool _,by
  have c:=(aJ b f).sat_inv;have g:a.eval (.const _)=.nilIface:=rfl;simp[execOp,e,c,g,eqGuard,Sem.run_bind,Sem.run_pure,Result.andThen_ok,run_neq_nil_nil _ _ d,Bool.or_true,if_true,Bool.not_true,Bool.false_eq_true,if_false],.pv (.bool _)⟩
theorem HU(e:o.op=.binOp .neq t x (.const .nilIface) t')(d:P.underlying t=some (.interface (P.methodsAt t)))(f:aO E x=some (.pv Ay)):cN P N o E H (.pv (.bool true)) H :=.of_run λa w I ι _ b=>⟨.bool _,by
  have ⟨q,p,c⟩:=(aJ b f).sat_inv;have g:a.eval (.const _)=.nilIface:=rfl;simp only[execOp,e,c,g,eqGuard,Sem.run_bind,Sem.run_pure,Result.andThen_ok,run_neq_held_nil _ _ _ _ d];rfl,.pv (.bool _)⟩
end
end
section
section
variable{P:Program}{N:Nat}{o:Oper}{E:cY}{H:aF}{t t' it:TypeId}{x:Operand}
theorem VRel.ifc_inv{w}{I}{ι}{v}{p}(h:VRel w I ι H v (.pv (.ifc t p))):∃u,v=.iface t u/\PRep w I u p:=by
 cases h with
 |pv h=>cases h with
  |ifc _ u _ h=>simp_all
theorem VRel.ifa_inv{w}{I}{ι}{v}{ps}(h:VRel w I ι H v (.pv (.ifa t ps))):∃cs,v=.iface t (.agg cs)/\cs.size=ps.length/\∀(k:Nat) (c) (p),cs[k]?=some c->ps[k]?=some p->PRep w I c p:=by
 cases h with
 |pv h=>cases h with
  |ifa _ cs _ hl h=>grind
theorem gF{p}(b:o.op=.makeInterface t x)(e:P.concrete t=true)(c:aO E x=some (.pv p)):cN P N o E H (.pv (.ifc t p)) H :=.of_run λa w I ι _ d=>⟨.iface t _,by simp[execOp,b,run_makeInterface _ _ _ e],.pv (.ifc _ _ _ (aJ d c).pv_inv)⟩
theorem J3{ps}(f:o.op=.makeInterface t x)(e:P.concrete t=true)(g:aO E x=some (.agg (ps.map .pv))):cN P N o E H (.pv (.ifa t ps)) H :=.of_run λa w I ι _ i=>⟨.iface t (a.eval x),by simp[execOp,f,run_makeInterface _ _ _ e],by
  have h:=aJ i g;generalize a.eval x=c at h;cases h with
  | @agg vs _ hl h1 d =>
   refine .pv (.ifa _ _ _ F_ λk c p b hp=>?_);exact(d k c (.pv p) b F_).pv_inv⟩
theorem lu{d}{u}(w)(hd:P.underlying t=some d)(hni:∀c,d≠.interface c):(Instr.typeAssert (.iface t' u) it t true).run P w=if t'=t then .ok (.tuple #[u,.bool true]) w else((do pure (.tuple #[<-zeroValue t,.bool false])):Sem _).run P w:=by
 unfold Instr.typeAssert;rw[Sem.run_bind,run_underlying hd]
 simp_all
theorem FF(h:P.concrete t=true):∃d,P.underlying t=some d/\∀a,d≠.interface a:=by
 unfold Program.concrete at h;cases hd:P.underlying t with
 |none=>simp_all
 |some d =>
  grind
theorem xS{p}(h:o.op=.typeAssert x it t true)(j:P.concrete t=true)(k:aO E x=some (.pv (.ifc t p))):cN P N o E H (.tup [.pv p,.pv (.bool true)]) H:=by
 have ⟨d,m,b⟩:=FF j;refine .of_run λa w I ι _ l=>?_;have ⟨u,f,g⟩:=(aJ l k).ifc_inv;refine⟨.tuple #[u,.bool true],?_,?_⟩
 ·simp only[execOp,h,f];rw[Sem.run_bind,lu w m b,b7 rfl];rfl
 exact .tup Z (λi v a e c=>by
  match i with
  |0=>cases e;cases c;exact .pv g
  |1=>cases e;cases c;exact .pv (.bool _)
  |i+2=>simp at c)
theorem RU{ps:List PV}(B:o.op=.typeAssert x it t true)(z:P.concrete t=true)(y:aO E x=some (.pv (.ifa t ps))):cN P N o E H (.tup [.agg (ps.map .pv),.pv (.bool true)]) H:=by
 have ⟨d,s,j⟩:=FF z;refine .of_run λa w I ι _ d_=>?_;have ⟨u,r,hl,A⟩:=(aJ d_ y).ifa_inv;refine⟨.tuple #[.agg u,.bool true],?_,?_⟩
 ·simp only[execOp,B,r];rw[Sem.run_bind,lu w s j,b7 rfl];rfl
 have n:∀(k:Nat) (c:Value),u[k]?=some c->∃p,ps[k]?=some p/\PRep w I c p:=λk c e=>by
  have f:k<ps.length:=G_
  exact⟨ps[k],m_ f,A k c _ e (m_ f)⟩
 exact .tup Z (λi v a m h=>by
  match i with
  |0 =>
   cases m;cases h;refine .agg F_ (λk c e=>?_) (λk c b e q=>?_)
   ·have ⟨p,_,g⟩:=n k c e;exact g.oneCell
   have ⟨p,l,g⟩:=n k c e;rw[r7,l]at q;cases q;exact .pv g
  |1=>cases m;cases h;exact .pv (.bool _)
  |i+2=>simp at h)
theorem Wq{cells}(l:o.op=.typeAssert x it t true)(h:P.concrete t=true)(j:eN P t cells)(b:t'≠t)
  (m:∀(a) (w) (I) (ι),lJ w I ι H E a->∃u,a.eval x=.iface t' u):cN P N o E H (.tup [.any,.pv (.bool false)]) H:=by
 have ⟨d,p,e⟩:=FF h;have ⟨z,v0,f,_,_⟩:=j;refine .of_run λa w I ι _ n=>?_;have ⟨u,k⟩:=m a w I _ n;refine⟨.tuple #[z,.bool false],?_,?_⟩
 ·simp only[execOp,l,k];rw[Sem.run_bind,lu w p e,a8 b,Sem.run_bind,f w];rfl
 exact .tup Z (λi v a g c=>by
  match i with
  |0=>cases c;exact .any _
  |1=>cases g;cases c;exact .pv (.bool _)
  |i+2=>simp at c)
theorem mQ{cells}{p}(f:o.op=.typeAssert x it t true)(c:P.concrete t=true)(d:eN P t cells)(hne:Nat.beq t' t=false)(g:aO E x=some (.pv (.ifc t' p))):cN P N o E H (.tup [.any,.pv (.bool false)]) H :=Wq f c d (λe=>by simp_all) (λa w I ι b=>let ⟨u,e,_⟩:=(aJ b g).ifc_inv;⟨u,e⟩)
theorem CT{cells}{ps}(f:o.op=.typeAssert x it t true)(c:P.concrete t=true)(d:eN P t cells)(hne:Nat.beq t' t=false)(g:aO E x=some (.pv (.ifa t' ps))):cN P N o E H (.tup [.any,.pv (.bool false)]) H :=Wq f c d (λe=>by simp_all) (λa w I ι b=>let ⟨u,e,_⟩:=(aJ b g).ifa_inv;⟨_,e⟩)
end
end
section
section
variable{P:Program}{N:Nat}{o:Oper}{E:cY}{H:aF}{T T' t:TypeId}{x y:Operand}
theorem LS{e f:TypeId}{ty:TypeId}{a:Array Value}(w:World)(d:P.underlying T=some (.slice e))(c:P.underlying T'=some (.slice f)):(Builtin.append_ #[T,T'] ty a).run P w=(Builtin.append_ #[T,T] ty a).run P w:=by
 unfold Builtin.append_;cases h0:a[0]? with
 |none=>rfl
 | some s =>
  cases h1:a[1]? with
  |none=>rfl
  |some u =>
   cases s<;>simp[Sem.run_bind,run_underlying d,run_underlying c]
theorem ME{e d}{v}{H2}(g:o.op=.call {callee:=.builtin .append,args:=#[x,y],argTypes:=#[T,T']})(i:P.underlying T=some (.slice e))(c:P.underlying T'=some (.slice d))
  (h:cN P N {o with op:=.call {callee:=.builtin .append,args:=#[x,y],argTypes:=#[T,T]}} E H v H2):cN P N o E H v H2:=by
 intro a w I ι j m k l K Q f;have b:=h a w I _ j m k l K Q f;unfold Oper.wpW execOp at b |-;simp[g,resolve,invoke,builtin,Sem.run_bind,Sem.run_pure,Result.andThen_ok,map_toArray,map_cons,map_nil,LS w i c]at b |-;exact b
theorem U7{e z}{id g n m k sz bytes:Nat}{ob}{ps}{rows'}(q:o.op=.call {callee:=.builtin .append,args:=#[x,y],argTypes:=#[T,T']})(i:P.underlying T'=some (.slice z))(hS:fG P T e sz)(d:EI P e sz bytes)
  (j:aO E x=some (.osl id g 0 n)) (u:H.get id=some ob) (w:ob.g=g) (c:ob.sz=sz) (f:ob.ty=e) (s:ob.rows.length=n)
  (l:aO E y=some (.pv (.sl ps))) (h:∀r∈ps,r.length=sz) (p:ps.length=m) (a:(n+m)*bytes<=140737488355328) (v:n+m=k) (b:ob.rows++ps.map (·.map AV.pv)=rows') :
  cN P N o E H (.osl id (g+1) 0 k) ((id,⟨g+1,sz,e,rows'⟩)::H) :=
 ME q hS.1 i (cA Z hS d j u w c f s l h p a v b)
end
end
end Go.Abs
namespace Go.Proofs.YtopnleflllkbmaaGreatDoor
open Go.Proofs.Tryz
open Go.Abs
variable{l:List _}
inductive IV where
 |n (x:Int)
 |t (s:B_)
 |b (x:Bool)
 |l (ts:List B_)
 |z (i:Int) (a b:List B_)
 |p (ps:List (Int×Int))
def kA(q:Int×Int):List PV:=[.int .i64 q.1,.int .i64 q.2]
def xO(l:List (Int×Int)):PV:=.sl (l.map kA)
def aES:IV->PV
 |.n x=>.ifc 3 (.int .i64 x)
 |.t s=>.ifc 9 (.str s)
 |.b x=>.ifc 4 (.bool x)
 |.l ts=>.ifc 22 (aL ts)
 |.z i a b=>.ifa 48 [.int .i64 i,aL a,aL b]
 |.p ps=>.ifc 49 (xO ps)
def AO(v:IV):List PV:=[aES v]
def fI:IV->List B_
 |.n x=>[aT x]
 |.t s=>[s]
 |.b x=>[aT (if x then 1 else 0)]
 |.l ts=>aT (ts.length:Int)::ts
 |.z i a b=>aT i::((aT (a.length:Int)::a)++(aT (b.length:Int)::b))
 |.p ps=>aT (ps.length:Int)::ps.flatMap λq=>[aT q.1,aT q.2]
def gI:IV->Nat
 |.n _=>1
 |.t _=>1
 |.b _=>1
 |.l _=>2
 |.z _ _ _=>5
 |.p ps=>1+2*ps.length
def Rh:IV->Nat
 |.n _=>0
 |.t _=>0
 |.b _=>1
 |.l _=>1
 |.z _ _ _=>2
 |.p _=>1
def qC(x:Int):Prop := -9223372036854775808<=x/\x<=9223372036854775807
def okI:IV->Prop
 |.n x=>qC x
 |.t _=>True
 |.b _=>True
 |.l ts=>ts.length<2^40
 |.z i a b=>qC i/\a.length<2^40/\b.length<2^40
 |.p ps=>ps.length<2^40/\∀q∈ps,qC q.1/\qC q.2
def yY(l:List IV):List B_:=l.flatMap fI
def vq(l:List IV):Nat:=(l.map gI).sum
theorem Ll{k}{v}(h:l[k]?=some v):yY (l.take (k+1))=yY (l.take k)++fI v:=by rw[take_add_one,h];simp[yY]
theorem Lf{k}{v}(h:l[k]?=some v):vq (l.take (k+1))=vq (l.take k)+gI v:=by rw[vq,take_add_one,h,map_append,sum_append];rfl
theorem aAk(l)(k):(yY (l.take k)).length<=(yY l).length:=by
 have h:yY l=yY (l.take k)++yY (l.drop k):=by rw[yY,yY,yY,<-flatMap_append,take_append_drop]
 rw[h,j_];omega
def fH(g:Nat)(L:List B_):aF:=[(971,⟨g,1,9,cB L⟩),(970,bx 1 131 [.osl 971 g 0 L.length])]
theorem Lm(g)(L)(s):fH (g+1) (L++[s])=[(971,⟨g+1,1,9,cB (L++[s])⟩),(970,bx 1 131 [.osl 971 (g+1) 0 (L.length+1)])]:=by simp[fH]
theorem dR{P:Program}{t}{d}(h:P.underlying t=some d)(hd:(match d with|.interface _=>false|_=>true)=true):P.concrete t=true:=by
 unfold Program.concrete
 grind
theorem S7(l:List _):∀r∈l.map AO,r.length=1:=λr a=>by
 obtain ⟨t,_,rfl⟩:=mem_map.1 a;rfl
def Oi(r:Nat):Prop:=∀(l:List IV),(∀v∈l,Rh v<r/\okI v)->∀(g:Nat) (L:List B_),l.length<2^40->L.length+(yY l).length<2^40 ->
 aU Tryz.prog 121 [.ref 970 0 0 0,.pv (.sl (l.map AO))] (fH g L) (λr H'=>r=.tup []/\H'=fH (g+vq l) (L++yY l))
def O7(ps:List (Int×Int)):List B_:=ps.flatMap λq=>[aT q.1,aT q.2]
theorem O6:∀ps,(O7 ps).length=2*ps.length
 | []=>rfl
 |q::r=>by
  have ih:=O6 r;rw[show O7 _=aT _::aT _::O7 r from Z,j7,j7,j7];omega
theorem Ii{ps:List _}{j}{q}(h:ps[j]?=some q):O7 (ps.take (j+1))=O7 (ps.take j)++yY [.n q.1,.n q.2]:=by rw[O7,take_add_one,h,flatMap_append];rfl
theorem iy{args}{g d}{L c}{H}(h:aU Tryz.prog 121 args (fH g L) (λr H'=>r=.tup []/\H'=fH d c))(e:HN H (fH g L))(f:∀a∈args,Clo (fH g L) a):
  aU Tryz.prog 121 args H (λr H'=>r=.tup []/\H'=fH d c++H):=aU.frame h (HN.sub e) (dG.ofL ⟨(aV _ _),v7,T_⟩) f (λid h=>.inl (va h))
theorem iV(A b):cB A++(b.map S_).map (·.map AV.pv)=cB (A++b):=by rw[<-eT,cB,cB,cB,map_append]
theorem Qb(a:List _):∀r∈a.map S_,r.length=1:=λr b=>by
 obtain ⟨t,_,rfl⟩:=mem_map.1 b;rfl
theorem Ux(g)(A B):fH g (A++B)=[(971,⟨g,1,9,cB (A++B)⟩),(970,bx 1 131 [.osl 971 g 0 (A.length+B.length)])]:=by simp[fH]
theorem Np(r:Nat)(ih:∀q,q<r->Oi q):Oi r:=by
 intro l hl g L hll hLl;have hml:(l.map AO).length=l.length:=j6 _;have one:∀(y:Int),qC y->1<r->∀(g':Nat) (f_:List B_),f_.length+1<2^40->aU Tryz.prog 121 [.ref 970 0 0 0,.pv (.sl [AO (.n y)])] (fH g' f_) (λr H'=>r=.tup []/\H'=fH (g'+1) (f_++[aT y])):=λy o_ h1 g' f_ hs =>
  ih 1 h1 [.n y] (λv d_=>by rw[r6]at d_;subst d_;exact⟨by simp[Rh],o_⟩) g' f_ (by simp) hs
 refine Bd func121 Z ntmps121<|O aA<|Y (fW underlying200)<|V aA<|aD<|bF (σ:=Nat) (λk=>([(0,.ref 970 0 0 0),(14,.pv (.sl (l.map AO))),(15,iv ((l.map AO).length:Int)),(16,iv (k:Int))],fH (g+vq (l.take k)) (L++yY (l.take k)))) (λk=>k<=l.length) (λk=>l.length - k) 0 (l7 _) ?_ ?_
 ·simp only[yY,vq,List.take_zero,List.flatMap_nil,List.map_nil,List.sum_nil,Nat.add_zero,List.append_nil];exact(cL.wk (Ea<|Eb<|Eb<|Eb<|T_) (Hc (aV _ _)<|Ha<|T_) ⟨Z,Z,T_⟩)
 intro k hk;refine Sz cJ<|S<|Cn ?_ ?_<;>intro hc1
 ·have hlt:k<l.length:=by have:=b9 hc1;omega
  obtain ⟨v,d_⟩:=aS hlt;obtain ⟨H,e_⟩:=hl v (m8 d_);have E:=cE (f:=AO) d_;have hfn:=Ll d_;have hgn:=Lf d_;have y_:=aAk l (k+1);rw[hfn]at y_;obtain ⟨L1,hL1⟩:∃L1,L1=L++yY (l.take k):=X_;obtain ⟨g1,hg1⟩:∃g1,g1=g+vq (l.take k):=X_;have D:L++yY (l.take (k+1))=L1++fI v:=by simp_all
  have A:g+vq (l.take (k+1))=g1+gI v:=by omega
  have hsz:L1.length+(fI v).length<2^40:=by
   grind
  have hwk:IntKind.i64.wrap ((k:Int)+1)=((k+1:Nat):Int):=by rw[mE (by omega) (by omega)];omega
  rw[<-hL1,<-hg1];clear hfn hgn y_;cases v with
  |n x =>
   have hx:qC x:=e_;have hsz:L1.length+1<2^40:=hsz;refine aB<|S<|aD<|O (by exact bU Z zH Z Z (by omega) (by rfl) E Z)<|Y (fZ vM (hi:=E))<|V aI<|Sz aA<|aD<|O (by exact xS Z (dR underlying3 Z) Z)<|Y dK<|V dK<|Cn ?_ ?_<;>intro hc2
   ·refine Sz aI<|aM a7<|Cr [970] (λ_ _=>aA)<|Cr [970] (λ_ _=>aA)<|Cr [970] (λA_ I=>by exact dN Z Z ((I _ Z).trans Z) Z)<|Cr [970] (λ_ h=>lh isAgg131 h)<|Cr [] (λ_ _=>aA)<|Cr [] (λA_ I=>by exact bH Z Z lO Z (pQ x hx.1 hx.2 _))<|Cr [] (λA_ I=>by exact aK [[.str (aT x)]] Z QL Z Z Z Z Z (by simp_all))<|Cp [971] (λA_ I=>by exact cA (ps:=[[.str (aT x)]]) Z QL yJ Z ((I _ Z).trans Z) Z Z Z (eS _) Z (by simp_all) (m:=1) Z (by omega) Z (gO L1 (aT x)))<|Cr [970] (λA_ I=>by exact dN Z Z ((I _ Z).trans Z) Z)<|Cp [970] (λ_ h=>sa sizeOf131 h) ?_;refine bG<|Kr<|Rd (ka hwk)<|V aA ?_;refine⟨k+1,by omega,by omega,?_⟩;dsimp only;rw[D,A,show fI (.n x)=[aT x]from Z,show gI (.n x)=1 from Z,Lm];exact(cL.wk (Ea<|Eb<|Eb<|Eb<|T_) (Hc (aV _ _)<|Ha<|T_) ⟨Z,Z,T_⟩)
   cases hc2
  |t s =>
   have hsz:L1.length+1<2^40:=hsz;refine aB<|S<|aD<|O (by exact bU Z zH Z Z (by omega) (by rfl) E Z)<|Y (fZ vM (hi:=E))<|V aI<|Sz aA<|aD<|O (by exact mQ Z (dR underlying3 Z) Xq Z Z)<|Y dK<|V dK<|Cn ?_ ?_<;>intro hc3
   ·cases hc3
   refine O (by exact xS Z (dR U_ Z) Z)<|Y dK<|V dK<|Cn ?_ ?_<;>intro hc4
   ·refine Sz aI<|Rd aA<|Y aA<|Y sE<|Y (bQ isAgg131)<|Y aA<|Y (by exact aK [[.str s]] Z QL Z Z Z Z Z (by simp_all))<|Y (by exact cA (ps:=[[.str s]]) Z QL yJ Z Z Z Z Z (eS _) Z (by simp_all) (m:=1) Z (by omega) Z (gO L1 s))<|Y sE<|Uu (jA sizeOf131)<|Zz<|Rd (ka hwk)<|V aA ?_;refine⟨k+1,by omega,by omega,?_⟩;dsimp only;rw[D,A,show fI (.t s)=[s]from Z,show gI (.t s)=1 from Z,Lm];exact(cL.wk (Ea<|Eb<|Eb<|Eb<|T_) (Hc (aV _ _)<|Ha<|T_) ⟨Z,Z,T_⟩)
   cases hc4
  |b x =>
   have B:1<r:=H;have hsz:L1.length+1<2^40:=hsz;refine aB<|S<|aD<|O (by exact bU Z zH Z Z (by omega) (by rfl) E Z)<|Y (fZ vM (hi:=E))<|V aI<|Sz aA<|aD<|O (by exact mQ Z (dR underlying3 Z) Xq Z Z)<|Y dK<|V dK<|Cn ?_ ?_<;>intro hc5
   ·cases hc5
   refine O (by exact mQ Z (dR U_ Z) Pf Z Z)<|Y dK<|V dK<|Cn ?_ ?_<;>intro hc6
   ·cases hc6
   refine O (by exact xS Z (dR eH Z) Z)<|Y dK<|V dK<|Cn ?_ ?_<;>intro hc7
   ·refine Sz aI<|Rd aA<|Y (by exact uZ (id:=948) Mj Z Z)<|Uu (by exact zD (κ:=Mj) (.inr Z) underlying201 eH Z Z Z Z Z Z Z Z)<|Y aA<|Y aA<|Y (by exact HV (κ:=Mj) Z underlying201 eH Z Z Z Z Z sH (.inl Z))<|Y (by exact gF (p:=.int .i64 (if x then 1 else 0)) Z (dR underlying3 Z) (by cases x<;>rfl))<|Y (by exact aK [AO (.n (if x then 1 else 0))] Z zH Z Z Z Z Z R_)<|V (by exact bH Z Z vO Z (iy (one (if x then 1 else 0) (by cases x<;>exact⟨by decide,by decide⟩) B g1 L1 hsz) ⟨Z,Z,T_⟩ (by simp;rfl)))<|Rd (ka hwk)<|V aA ?_;refine⟨k+1,by omega,by omega,?_⟩;dsimp only;rw[D,A,show fI (.b x)=[aT (if x then 1 else 0)]from Z,show gI (.b x)=1 from rfl];exact(cL.wk (Ea<|Eb<|Eb<|Eb<|T_) (Hc (aV _ _)<|Ha<|T_) ⟨Z,Z,T_⟩)
   cases hc7
  |l F =>
   have B:1<r:=H;have hsz:L1.length+(F.length+1)<2^40:=hsz;have G:(F.map S_).length=F.length:=j6 _;obtain ⟨y,o_⟩:∃y,y=((F.map S_).length:Int):=X_;have N:qC y:=⟨by omega,by omega⟩;have K:L1++fI (.l F)=(L1++[aT y])++F:=by rw[o_,G,List.append_assoc];rfl
   have P:(L1++[aT y]).length=L1.length+1:=by rw[j_];rfl
   refine aB<|S<|aD<|O (kx zH E)<|Y (fZ vM (hi:=E))<|V aI<|Sz aA<|aD<|O (by exact mQ Z (dR underlying3 Z) Xq Z Z)<|Y dK<|V dK<|Cn ?_ ?_<;>intro hc8
   ·cases hc8
   refine O (by exact mQ Z (dR U_ Z) Pf Z Z)<|Y dK<|V dK<|Cn ?_ ?_<;>intro hc9
   ·cases hc9
   refine O (by exact mQ Z (dR eH Z) zo4 Z Z)<|Y dK<|V dK<|Cn ?_ ?_<;>intro hc10
   ·cases hc10
   refine O (by exact xS Z (dR aE Z) Z)<|Y dK<|V dK<|Cn ?_ ?_<;>intro hc11
   ·refine Sz aI<|O aA<|Y aA<|Y (by exact cN.eqJ (kW Z bD.1 Z) (congrArg (λn:Int=>AV.pv (.int .i64 n)) o_.symm))<|Y (by exact gF (p:=.int .i64 y) Z (dR underlying3 Z) Z)<|Y (by exact aK [AO (.n y)] Z zH Z Z Z Z Z R_)<|V (kc vO (iy (one y N B g1 L1 (by omega)) ⟨Z,Z,T_⟩ (by simp;rfl)))<|Rd aA<|Y aA<|Y sE<|Y (bQ isAgg131)<|Y aA<|Y (by exact U7 (ps:=F.map S_) Z aE QL yJ Z Z Z Z Z (eS _) Z (Qb F) (m:=F.length) G (by rw[P];omega) Z (iV (L1++[aT y]) F))<|Y sE<|Uu (jA sizeOf131)<|Zz<|Rd (ka hwk)<|V aA ?_;refine⟨k+1,by omega,by omega,?_⟩;dsimp only;rw[D,A,K,show gI (.l F)=2 from Z,Ux (g1+2) (L1++[aT y]) F];exact(cL.wk (Ea<|Eb<|Eb<|Eb<|T_) (Hc (aV _ _)<|Ha<|T_) ⟨Z,Z,T_⟩)
   cases hc11
  | z i a b =>
   have h2r:2<r:=H;obtain ⟨hio,hao,hbo⟩:qC i/\a.length<2^40/\b.length<2^40:=e_;have e3:yY [.n i,.l a,.l b]=fI (.z i a b):=by simp[yY,fI]
   have h3:=ih 2 h2r [.n i,.l a,.l b] (by
    intro v d_;simp only[l9,q7,or_false]at d_;rcases d_ with rfl|rfl|rfl
    ·exact⟨by simp[Rh],hio⟩
    ·exact⟨by simp[Rh],hao⟩
    exact⟨by simp[Rh],hbo⟩) g1 L1 (by simp) (by rw[e3];exact hsz)
   rw[e3]at h3;refine aB<|S<|aD<|O (kx zH E)<|Y (fZ vM (hi:=E))<|V aI<|Sz aA<|aD<|O (by exact CT Z (dR underlying3 Z) Xq Z Z)<|Y dK<|V dK<|Cn ?_ ?_<;>intro hc12
   ·cases hc12
   refine O (by exact CT Z (dR U_ Z) Pf Z Z)<|Y dK<|V dK<|Cn ?_ ?_<;>intro R
   ·cases R
   refine O (by exact CT Z (dR eH Z) zo4 Z Z)<|Y dK<|V dK<|Cn ?_ ?_<;>intro W
   ·cases W
   refine O (by exact CT Z (dR aE Z) aB5 Z Z)<|Y dK<|V dK<|Cn ?_ ?_<;>intro v_
   ·cases v_
   refine O (by exact RU (ps:=[.int .i64 i,aL a,aL b]) Z (dR jT Z) Z)<|Y dK<|V dK<|Cn ?_ ?_<;>intro hc16
   ·refine O (kl 10 aq)<|Uu (jA sizeOf48)<|Zz<|Rd aA<|Y (bA DA)<|Y (bQ M_)<|Y (by exact gF (p:=.int .i64 i) Z (dR underlying3 Z) Z)<|Y (bA vX)<|Y (bQ aG)<|Y (by exact gF (p:=aL a) Z (dR aE Z) Z)<|Y (bA vW)<|Y (bQ aG)<|Y (by exact gF (p:=aL b) Z (dR aE Z) Z)<|Y (by exact aK [AO (.n i),AO (.l a),AO (.l b)] Z zH Z Z Z Z Z (by intro r hr;simp only[l9,q7,or_false]at hr;rcases hr with rfl|rfl|rfl<;>rfl))<|V (kc vO (iy h3 ⟨Z,Z,T_⟩ (by simp;rfl)))<|Rd (ka hwk)<|V aA ?_;refine⟨k+1,by omega,by omega,?_⟩;dsimp only;rw[D,A];exact(cL.wk (Ea<|Eb<|Eb<|Eb<|T_) (Hc (aV _ _)<|Ha<|T_) ⟨Z,Z,T_⟩)
   cases hc16
  | p ps =>
   have B:1<r:=H;obtain ⟨hpl,hpo⟩:ps.length<2^40/\∀q∈ps,qC q.1/\qC q.2:=e_;have hfp:∀j,O7 (ps.take j)=(ps.take j).flatMap (λq=>[aT q.1,aT q.2]):=λ_=>rfl;have hsz:L1.length+(1+2*ps.length)<2^40:=by
    have:(fI (.p ps)).length=1+2*ps.length:=by rw[show fI (.p ps)=aT (ps.length:Int)::O7 ps from Z,j7,O6];omega
    omega
   have G:(ps.map kA).length=ps.length:=j6 _;obtain ⟨y,o_⟩:∃y,y=((ps.map kA).length:Int):=X_;have N:qC y:=⟨by omega,by omega⟩;have K:L1++fI (.p ps)=(L1++[aT y])++O7 ps:=by rw[o_,G,List.append_assoc];rfl
   refine aB<|S<|aD<|O (kx zH E)<|Y (fZ vM (hi:=E))<|V aI<|Sz aA<|aD<|O (by exact mQ Z (dR underlying3 Z) Xq Z Z)<|Y dK<|V dK<|Cn ?_ ?_<;>intro Q
   ·cases Q
   refine O (by exact mQ Z (dR U_ Z) Pf Z Z)<|Y dK<|V dK<|Cn ?_ ?_<;>intro z_
   ·cases z_
   refine O (by exact mQ Z (dR eH Z) zo4 Z Z)<|Y dK<|V dK<|Cn ?_ ?_<;>intro u_
   ·cases u_
   refine O (by exact mQ Z (dR aE Z) aB5 Z Z)<|Y dK<|V dK<|Cn ?_ ?_<;>intro hc20
   ·cases hc20
   refine O (by exact mQ Z (dR jT Z) aq Z Z)<|Y dK<|V dK<|Cn ?_ ?_<;>intro T
   ·cases T
   refine O (by exact xS Z (dR gC Z) Z)<|Y dK<|V dK<|Cn ?_ ?_<;>intro hc22
   ·refine Sz aI<|O aA<|Y aA<|Y (by exact cN.eqJ (kW Z UB.1 Z) (congrArg (λn:Int=>AV.pv (.int .i64 n)) o_.symm))<|Y (by exact gF (p:=.int .i64 y) Z (dR underlying3 Z) Z)<|Y (by exact aK [AO (.n y)] Z zH Z Z Z Z Z R_)<|V (kc vO (iy (one y N B g1 L1 (by omega)) ⟨Z,Z,T_⟩ (by simp;rfl)))<|O aA<|Y (fW gC)<|V aA<|aD ?_;refine bF (σ:=Nat) (λj=>([(0,.ref 970 0 0 0),(14,.pv (.sl (l.map AO))),(15,iv ((l.map AO).length:Int)),(16,iv (k:Int)),(95,.pv (xO ps)),(96,iv ((ps.map kA).length:Int)),(97,iv (j:Int))],fH (g1+1+2*j) ((L1++[aT y])++O7 (ps.take j)))) (λj=>j<=ps.length) (λj=>ps.length - j) 0 (l7 _) ?_ ?_
    ·rw[show O7 (ps.take 0)=[]from Z,List.append_nil];exact(cL.wk (Ea<|Eb<|Eb<|Eb<|Eb<|Eb<|Eb<|T_) (Hc (aV _ _)<|Ha<|T_) ⟨Z,Z,T_⟩)
    intro j hj;refine Sz cJ<|S<|Cn ?_ ?_<;>intro c_
    ·have hjl:j<ps.length:=by have:=b9 c_;omega
     obtain ⟨q,hq⟩:=aS hjl;have hqi:=cE (f:=kA) hq;obtain ⟨hq1,hq2⟩:=hpo q (m8 hq);have hnx:=Ii hq;have hln:(L1++[aT y]++O7 (ps.take j)).length=L1.length+1+2*j:=by rw[j_,j_,O6,q9];simp;omega
     have h2:=ih 1 B [.n q.1,.n q.2] (by
      intro v d_;simp only[l9,q7,or_false]at d_;rcases d_ with rfl|rfl
      ·exact⟨by simp[Rh],hq1⟩
      exact⟨by simp[Rh],hq2⟩) (g1+1+2*j) (L1++[aT y]++O7 (ps.take j)) (by simp) (by rw[hln];show L1.length+1+2*j+2<_;omega)
     refine aB<|S<|aD<|O (kx UB hqi)<|Y (by exact fA Z eD sizeOf104 Z hqi (by simp only[Zl,S_];rfl) Z)<|Y (kl 13 Dq)<|Uu (jA sizeOf104)<|Zz<|Rd aA<|Y (bA mM)<|Y (bQ M_)<|Y (by exact gF (p:=.int .i64 q.1) Z (dR underlying3 Z) Z)<|Y (bA mL)<|Y (bQ M_)<|Y (by exact gF (p:=.int .i64 q.2) Z (dR underlying3 Z) Z)<|Y (by exact aK [AO (.n q.1),AO (.n q.2)] Z zH Z Z Z Z Z (by intro r hr;simp only[l9,q7,or_false]at hr;rcases hr with rfl|rfl<;>rfl))<|V (kc vO (iy h2 ⟨Z,Z,T_⟩ (by simp;rfl)))<|Rd kp ?_;refine V aA ?_;refine⟨j+1,by omega,by omega,?_⟩;dsimp only;rw[hnx,<-List.append_assoc,show g1+1+2*(j+1)=g1+1+2*j+vq [.n q.1,.n q.2]from rfl];exact(cL.wk (Ea<|Eb<|Eb<|Eb<|Eb<|Eb<|Eb<|T_) (Hc (aV _ _)<|Ha<|T_) ⟨Z,Z,T_⟩)
    have hjg:j=ps.length:=by have:=b_ c_;omega
    subst hjg;rw[List.take_length];refine aP<|Rd (ka hwk)<|V aA ?_;refine⟨k+1,by omega,by omega,?_⟩;dsimp only;rw[D,A,K,show g1+gI (.p ps)=g1+1+2*ps.length from(Nat.add_assoc _ _ _).symm];exact(cL.wk (Ea<|Eb<|Eb<|Eb<|T_) (Hc (aV _ _)<|Ha<|T_) ⟨Z,Z,T_⟩)
   cases hc22
 have hge:k=l.length:=by have:=b_ hc1;omega
 subst hge;rw[List.take_length];refine aP ?_;exact oT (.inl Z) Z Fin.refl ⟨Z,Z⟩
theorem aBG(r):Oi r:=Nat.strongRecOn r (λr a=>Np r a)
theorem aCD(v):Rh v<3:=by cases v<;>simp[Rh]
theorem qq(l)(b:∀v∈l,okI v)(g)(L)(a:l.length<2^40)(d:L.length+(yY l).length<2^40):
  aU Tryz.prog 121 [.ref 970 0 0 0,.pv (.sl (l.map AO))] (fH g L) (λr H'=>r=.tup []/\H'=fH (g+vq l) (L++yY l)) :=
 aBG 3 l (λv c=>⟨aCD v,b v c⟩) g L a d
structure n_ where
 idx:Int
 sig:List B_
 path:List B_
 deriving DecidableEq
structure GPriv where
 name:B_
 reason:B_
 sources:List B_
 trace:List (Int×Int)
 sl:n_
 deriving DecidableEq
structure j8 where
 kind:Int
 author:Int
 number:Int
 clock:Int
 branch:B_
 parents:List B_
 edits:List b8
 target:B_
 yes:Bool
 order:Int
 from':B_
 sl:n_
 priv:GPriv
def lH(s:n_):List PV:=[.int .i64 s.idx,aL s.sig,aL s.path]
def wZ(p:GPriv):List PV:=[.str p.name,.str p.reason,aL p.sources,xO p.trace,.int .i64 p.sl.idx,aL p.sl.sig,aL p.sl.path]
def dX(r:j8):List PV:=[.int .i64 r.kind,.int .i64 r.author,.int .i64 r.number,.int .i64 r.clock,.str r.branch,aL r.parents,kD r.edits,.str r.target,.bool r.yes,.int .i64 r.order,.str r.from',.int .i64 r.sl.idx,aL r.sl.sig,aL r.sl.path,.str r.priv.name,.str r.priv.reason,aL r.priv.sources,xO r.priv.trace,.int .i64 r.priv.sl.idx,aL r.priv.sl.sig,aL r.priv.sl.path]
def nn(l:List B_):Prop:=l.length<2^40/\∀t∈l,t.size<2^40
def xU(s:n_):Prop:=qC s.idx/\nn s.sig/\nn s.path
def nk(p:GPriv):Prop:=p.name.size<2^40/\p.reason.size<2^40/\nn p.sources/\p.trace.length<2^40/\xU p.sl
def Ze(q:B_->Bool)(l:List B_)(k:Nat):Bool:=match l[k]? with|some s=>q s|none=>false
theorem Rx(q)(l):(List.range l.length).any (Ze q l)=l.any q:=Bu l q
theorem DH(f)(l)(q)(hl:l.length<2^40)(d:∀s∈l,dH Tryz.prog (.pv (.fn f)) [sv s] [] (λr H'=>r=bv (q s)/\H'=[]))(H):
  RC 28 [.pv (aL l),.pv (.fn f)] (bv (l.any q)) H:=by
 refine Pu ?_;have c:=AQ _ l (Ze q l) _ X (λk s b=>by
  rw[Ze,b];exact d s (m8 b))
 rw[Rx]at c;exact c
theorem aAp(t)(b:t.size<2^40)(H):RC 212 [sv t] (bv (oddJ t)) H:=by refine Pu ?_;exact Bd func212 Z ntmps212<|Sz aI<|O aA<|Y (bH Z Z call30 Z (WY t b _))<|Y iI<|V aI<|aC<|Rt<|Qq
theorem M4(l)(c:nn l)(H):RC 155 [.pv (aL l)] (bv (l.all m6)) H:=by
 refine Pu ?_;have b:=DH _ l _ c.1 (λs d=>dH.fn call212 (aAp s (c.2 s d) _)) [];rw[K4]at b;refine Bd func155 Z ntmps155<|Sz aI<|O aA<|Y (bH Z Z call28 Z (b))<|Y iI<|V aI<|aC<|Rt ?_
 simp_all
def A2(s:n_):Bool:=decide (s.idx=0)&&decide (((s.sig.map S_).length:Int)+((s.path.map S_).length:Int)=0)
theorem Xs(s:n_)(c:xU s)(H:aF):RC 210 [av (lH s)] (bv (A2 s)) H:=by
 refine Pu ?_;have h1:(s.sig.map S_).length<2^40:=by rw[j6];exact c.2.1.1
 have h2:(s.path.map S_).length<2^40:=by rw[j6];exact c.2.2.1
 refine Bd func210 Z ntmps210<|O (kb 1)<|V aI<|S<|aQ (t:=2) (n:=15) (A_:=A2 s) ?_ ?_
 ·all_goals refine Y (bA DA)<|Y (bQ M_)<|Y cD<|Dm ?_<;>(refine Sp 6 (λd=>?_) λd=>?_)<;>(first|refine M<|M<|M<|M<|M<|M<|M<|M ?_|refine U (bA vX)<|U (bQ aG)<|U (fW aE)<|U (bA vW)<|U (bQ aG)<|U (fW aE)<|U (dB Z Z Z (mE X X))<|U cD ?_)<;>refine Y cC<|Da ?_<;>exact Gj (h:=by(rw[A2,d];rfl))
 exact aC<|Rt<|Qq
def kY(s:n_):Bool:=A2 s||(((((decide (0<=s.idx)&&decide (s.idx<256))&&decide (((s.sig.map S_).length:Int)=18))&&decide (((s.path.map S_).length:Int)<=8))&&s.sig.all m6)&&s.path.all m6)
theorem fy(s:n_)(i:xU s)(H:aF):RC 151 [av (lH s)] (bv (kY s)) H:=by
 refine Pu ?_;have l:=λH=>Xs s i H;have j:=λH=>M4 s.sig i.2.1 H;have k:=λH=>M4 s.path i.2.2 H;have ⟨m,b⟩:∃m,m=A2 s:=X_;rw[<-b]at l;refine Bd func151 Z ntmps151<|O (kb 1)<|V aI<|S<|aQ (t:=2) (n:=41) (A_:=kY s) ?_ ?_
 ·all_goals refine Y (by exact aW Z gT sizeOf48 Z Z Z Z u0 Z) ?_
  all_goals refine Y (kc call210 (l _))<|Dm ?_<;>(refine Sp 5 (λe=>?_) λe=>?_)<;>(first|exact s_|refine M<|M<|M<|M ?_|refine U (bA DA)<|U (bQ M_)<|U zU<|U aA ?_)<;>(first|refine Sp 9 (λg=>?_) λg=>?_|refine jS (t:=9) Z ?_)<;>(first|exact s_|refine M ?_|refine Fu ?_|refine U (bA DA) ?_)<;>(first|refine M ?_|refine Fu ?_|refine U (bQ M_) ?_)<;>(first|refine M ?_|refine Fu ?_|refine U cJ ?_)<;>(first|refine M<|M ?_|refine U cC<|U aA ?_)<;>(first|refine Sp 14 (λc=>?_) λc=>?_|refine jS (t:=14) Z ?_)<;>(first|exact s_|refine M ?_|refine Fu ?_|refine U (bA vX) ?_)<;>(first|refine M ?_|refine Fu ?_|refine U (bQ aG) ?_)<;>(first|refine M ?_|refine Fu ?_|refine U (fW aE) ?_)<;>(first|refine M ?_|refine Fu ?_|refine U cD ?_)<;>(first|refine M<|M ?_|refine U cC<|U aA ?_)<;>(first|refine Sp 20 (λd=>?_) λd=>?_|refine jS (t:=20) Z ?_)<;>(first|exact s_|refine M ?_|refine Fu ?_|refine U (bA vW) ?_)<;>(first|refine M ?_|refine Fu ?_|refine U (bQ aG) ?_)<;>(first|refine M ?_|refine Fu ?_|refine U (fW aE) ?_)<;>(first|refine M ?_|refine Fu ?_|refine U G8 ?_)<;>(first|refine M<|M ?_|refine U cC<|U aA ?_)<;>(first|refine Sp 26 (λf=>?_) λf=>?_|refine jS (t:=26) Z ?_)<;>(first|exact s_|refine M ?_|refine Fu ?_|refine U (bA vX) ?_)<;>(first|refine M ?_|refine Fu ?_|refine U (bQ aG) ?_)<;>(first|refine M ?_|refine Fu ?_|refine U (kc call155 (j _)) ?_)<;>(first|refine M<|M ?_|refine U cC<|U aA ?_)<;>(first|refine Sp 31 (λh=>?_) λh=>?_|refine jS (t:=31) Z ?_)<;>(first|exact s_|refine M ?_|refine Fu ?_|refine U (bA vW) ?_)<;>(first|refine M ?_|refine Fu ?_|refine U (bQ aG) ?_)<;>(first|refine M ?_|refine Fu ?_|refine U (kc call155 (k _)) ?_)<;>(first|refine M ?_|refine U cC ?_)<;>refine Y cC<|Da ?_<;>exact Gj (h:=by first|(rw[kY,<-b,e];rfl)|(rw[kY,<-b,e,g];rfl)|(rw[kY,<-b,e,g,c];rfl)|(rw[kY,<-b,e,g,c,d];rfl)|(rw[kY,<-b,e,g,c,d,f];rfl)|(rw[kY,<-b,e,g,c,d,f,h];rfl))
 exact aC<|Rt<|Qq
def uF(p:GPriv):Bool:=decide (p.name++p.reason=a6)&&decide (((p.sources.map S_).length:Int)+((p.trace.map kA).length:Int)=0)
theorem Va(p:GPriv)(d:nk p)(H:aF):RC 120 [av (wZ p)] (bv (uF p)) H:=by
 refine Pu ?_;have ⟨a1,a2,e,a4,a5⟩:=d;have h1:(p.sources.map S_).length<2^40:=by rw[j6];exact e.1
 have h2:(p.trace.map kA).length<2^40:=F_
 refine Bd func120 Z ntmps120<|O (kb 1)<|V aI<|S<|aQ (t:=2) (n:=18) (A_:=uF p) ?_ ?_
 ·all_goals refine Y (bA IJ)<|Y (bQ N_)<|Y (bA II)<|Y (bQ N_)<|Y kq<|Y wH<|Dm ?_<;>(refine Sp 9 (λc=>?_) λc=>?_)<;>(first|refine M<|M<|M<|M<|M<|M<|M<|M ?_|refine U (bA yI)<|U (bQ aG)<|U (fW aE)<|U (bA sZ)<|U (bQ jV)<|U (fW gC)<|U (dB Z Z Z (mE X X))<|U cD ?_)<;>refine Y cC<|Da ?_<;>exact Gj (h:=by(rw[uF,c];rfl))
 exact aC<|Rt<|Qq
theorem PY(n a b)(H):RC 146 [iv n,iv a,iv b] (bv (decide (a<=n)&&decide (n<=b))) H:=by
 refine Pu<|Bd func146 Z ntmps146<|Sz aI<|S<|aQ (t:=6) (n:=10) (A_:=decide (a<=n)&&decide (n<=b)) ?_ ?_
 ·all_goals refine Y aA<|Y aA<|Y zU<|Dm ?_<;>(refine Sp 10 (λd=>?_) λd=>?_)<;>(first|refine M<|M<|M ?_|refine U aA<|U aA<|U G8 ?_)<;>refine Y cC<|Da ?_<;>(exact⟨⟨_,Z,G_⟩,Z,Z,Z⟩)
 exact aC<|Rt<|Qq
def KK(s:B_):Bool:=decide (200<(s.size:Int))
theorem aAU(s)(H):RC 148 [sv s] (bv (KK s)) H:=by refine Pu ?_;exact Bd func148 Z ntmps148<|Sz aI<|O aA<|Y (gE U_)<|Y iP<|V aI<|aC<|Rt<|Qq
theorem sw(l)(c:l.length<2^40)(H):RC 147 [.pv (aL l)] (bv (!l.any KK)) H:=by refine Pu ?_;have b:=DH _ l _ c (λs hs=>dH.fn call148 (aAU s _)) [];exact Bd func147 Z ntmps147<|Sz aI<|O aA<|Y (bH Z Z call28 Z (b))<|Y iI<|V aI<|aC<|Rt<|Qq
end Go.Proofs.YtopnleflllkbmaaGreatDoor
namespace Go.Abs
section
section
variable{P:Program}{N:Nat}{o:Oper}{E:cY}{H:aF}{f_ T t:TypeId}{x:Operand}{id g n m:Nat}{ob:Ob}
theorem HW(y:o.op=.convert f_ T x)(hS:P.underlying f_=some .unsafePointer)(v:P.underlying T=some (.pointer t))(hi:(P.info? t).map (·.size)=some (n+1))(q:P.cellsOf ob.ty=m+1)(k:aO E x=some (.ref id g 0 0))(s:H.get id=some ob)(i:ob.g=g)(e:ob.rows≠[])(f:ob.sz=m+1)(hl:∀c,liesAt P P.depth ob.ty (c+1) 0 t 1=true):cN P N o E H (.ref id g 0 0) H :=.of_run λa w I ι l z=>by
  have h:=aJ z k;have ⟨b,d,r,p,e3,e4⟩:=LU l h s i e;have ⟨j,u,h2⟩:=BR hi;refine⟨_,?_,h⟩;simp only[execOp,y,r];have hq:d*ob.sz / P.cellsOf ob.ty=(d - 1)+1:=by rw[q,f,Nat.mul_div_cancel _ X];omega
  rw[Sem.run_bind,Lib.run_from_unsafe w _ hS v u p G_];rfl
end
end
end Go.Abs
namespace Go.Proofs.YtopnleflllkbmaaGreatDoor
open Go.Proofs.Tryz
open Go.Abs
variable{s:B_}{i n:Nat}{r:List UInt8}
theorem aCo(c):liesAt Tryz.prog Tryz.prog.depth 297 (c+1) 0 161 1=true:=by kernel_rfl
def NA(buf:AV)(u:Bool):Ob:=⟨0,2,297,[[iq u,buf]]⟩
def qM(g:Nat)(l:List UInt8)(u:Bool):aF:=[(2001,NA (.osl 2002 g 0 l.length) u),(2002,⟨g,1,5,fO l⟩)]
theorem TK{H}{g n}{u}(e:(H.get 2001).isSome=true)(f:(H.get 2002).isSome=true):∀r∈(NA (.osl 2002 g 0 n) u).rows,∀a∈r,Clo H a:=by
 intro r c a d;simp[NA,r6]at c;subst c;simp[l9,q7,or_false]at d;rcases d with rfl|rfl
 ·cases u<;>simp[iq,e]
 simp[f]
theorem KW(b:AV)(u:Bool)(K:aF):aU Tryz.prog 191 [.ref 2001 0 0 0] ((2001,NA b u)::K) (λr H'=>r=.tup []/\H'=(2001,NA b true)::K):=by
 cases u with
 |false =>
  refine Bd func191 Z ntmps191<|O aA<|Y sE<|Y (bA zW)<|Y (bQ isAgg158)<|V (by exact NO Z gZ Z Z)<|Cn ?_ ?_<;>intro c
  ·refine Rd aA<|Y aA<|Y (by exact GZ (n:=1) Z gZ underlying247 (by rfl) Z Z Z (by simp[NA]))<|Y (by exact O9 Z Z func239 Z Z Z Z Z (gh (.ref 2001 0 0 0)))<|Y (by exact HW (n:=1) (m:=1) Z underlying247 gZ (by rfl) (by rfl) Z Z Z (by simp[NA]) Z aCo)<|Y sE<|Y (bA zW)<|Uu (ku sizeOf158)<|Zz ?_;exact oT (.inl Z) Z (Fin.get' (H':=(2001,NA b true)::K) (λj=>wV 2001 (NA b true) (NA b false) K j)) ⟨Z,Z⟩
  cases c
 |true =>
  refine Bd func191 Z ntmps191<|O aA<|Y sE<|Y (bA zW)<|Y (bQ isAgg158)<|V (by exact NN Z gZ Z Z Z Z)<|Cn ?_ ?_<;>intro c
  ·cases c
  refine O aA<|Y sE<|Y (bA zW)<|Y (bQ isAgg158)<|Y aA<|V (by exact J1 (n:=1) Z gZ (by rfl) Z Z Z Z)<|Cn ?_ ?_<;>intro d
  ·cases d
  refine aB ?_;exact oT (.inl Z) Z Fin.refl ⟨Z,Z⟩
theorem ig(g)(l m){n}(h:m.length=n):qM (g+1) (l++m) true=[(2001,NA (.osl 2002 (g+1) 0 (l.length+n)) true),(2002,⟨g+1,1,5,fO (l++m)⟩)]:=by subst h;simp[qM]
theorem XZ(g:Nat)(l:List UInt8)(u:Bool)(c:UInt8)(hl:l.length<70368744177664):aU Tryz.prog 160 [.ref 2001 0 0 0,.pv (.int .u8 c.toNat)] (qM g l u) (λr H'=>r=.pv MJ/\H'=qM (g+1) (l++[c]) true):=by refine Bd func160 Z ntmps160<|Sz aI<|O aA<|V (kc call191 (KW _ u _))<|O aA<|Y aA<|Y sE<|Y (bA iG)<|Y (bQ eC)<|Y aA<|Y (by exact aK [[.int .u8 c.toNat]] Z A8 Z Z Z Z Z (by simp_all))<|Y (by exact cA (ps:=[[.int .u8 c.toNat]]) Z A8 Xb Z Z Z Z Z (sA l) Z (by simp_all) (m:=1) Z (by omega) Z (uI l [c]))<|Y sE<|Y (bA iG)<|Uu (ku qF)<|Zz<|Sz aI<|aC ?_;rw[ig g l [c] (n:=1) rfl];refine cR (.inr Z) Z (aH Z) (Fin.get' (λj=>KQ (by decide) j)) ?_;exact Qq
theorem D9(g:Nat)(l:List UInt8)(u:Bool)(s:B_)(hl:l.length+s.size<70368744177664):aU Tryz.prog 132 [.ref 2001 0 0 0,sv s] (qM g l u) (λr H'=>r=.tup [iv (s.size:Int),.pv MJ]/\H'=qM (g+1) (l++s.data.toList) true):=by refine Bd func132 Z ntmps132<|O aI<|V aI<|O aA<|V (kc call191 (KW _ u _))<|O aA<|Y aA<|Y sE<|Y (bA iG)<|Y (bQ eC)<|Y aA<|Y (by exact wF Z A8 U_ Xb OM Z Z Z Z Z (sA l) Z (by omega) Z (uI l s.data.toList))<|Y sE<|Y (bA iG)<|Uu (ku qF)<|Zz<|O aA<|Y (gE U_)<|Y aI<|V aI<|aC ?_;rw[ig g l s.data.toList (n:=s.size) rfl];refine fP (.inr Z) Z (aH Z) (aH Z) (Fin.get' (λj=>KQ (by decide) j)) ?_;exact Qq
def im(g:Nat)(l:List UInt8)(u:Bool):aF:=[(2002,⟨g+1,1,5,[]⟩),(2001,NA (.osl 2002 g 0 l.length) u)]
theorem Yj(g:Nat)(l:List UInt8)(u:Bool)(hl:l.length<70368744177664):aU Tryz.prog 133 [.ref 2001 0 0 0] (qM g l u) (λr H'=>r=sv ⟨l.toArray⟩/\H'=im g l u):=by
 by_cases e:l=[]
 ·subst e;refine Bd func133 Z ntmps133<|Sz aI<|S<|aM a7<|Cq aA<|Cq sE<|Cq (bA iG)<|Cq (bQ eC)<|Cq (by exact EM Z yU Z Z Z)<|Cq aA<|Cq sE<|Cq (bA iG)<|Cq (bQ eC)<|Cq (by exact dS Z dD Z Z Z)<|Cq (by exact zL Z Z Z)<|Cq aI<|bG<|Kr<|aC ?_;refine cR (H':=(im g [] u)) (.inr Z) Z (aH Z) (Fin.trans (Fin.deadO (id:=2002) (k:=g+1) (ob:=⟨g,1,5,fO []⟩) Z (Nat.lt_succ_self g) Nat.zero_lt_one Z Z) (Fin.get' (λj=>PI (by decide) j))) ?_;exact Qq
 have c:0<l.length:=List.length_pos_iff.2 e;refine Bd func133 Z ntmps133<|Sz aI<|S<|aM a7<|Cr [2001] (λ_ _=>aA)<|Cr [2001] (λd b=>by exact dN Z Z ((b _ Z).trans Z) Z)<|Cr [2001] (λ_ h=>fh iG h)<|Cr [2001] (λ_ h=>lh eC h)<|Cr [2002] (λd b=>by exact G4 Z Z ((b _ Z).trans Z) Z c)<|Cr [2001] (λ_ _=>aA)<|Cr [2001] (λd b=>by exact dN Z Z ((b _ Z).trans Z) Z)<|Cr [2001] (λ_ h=>fh iG h)<|Cr [2001] (λ_ h=>lh eC h)<|Cr [2002] (λd b=>by exact dS Z dD Z ((b _ Z).trans Z) Z)<|Cp [2001,2002] (λd b=>by exact BH (l:=l) rfl yU (by rfl) rfl rfl ((b _ rfl).trans rfl) rfl rfl rfl rfl rfl c X rfl)<|Cr [] (λ_ _=>aI)<|bG<|Kr<|aC ?_;refine cR (H':=(im g l u)) (.inr Z) Z (aH Z) (Fin.get' (λj=>PI E_ j)) ?_;exact Qq
theorem Kd(g)(l)(u):aU Tryz.prog 208 [.ref 2001 0 0 0] (qM g l u) (λr H'=>r=iv (l.length)/\H'=qM g l u):=by refine Bd func208 Z ntmps208<|Sz aI<|O aA<|Y sE<|Y (bA iG)<|Y (bQ eC)<|Y (by exact dS Z dD Z Z Z)<|V aI<|aC ?_;refine cR (.inr Z) Z (aH Z) Fin.refl Qq
def Ig(l:List UInt8)(s:B_):List UInt8:=if l=[]then s.data.toList else l++32::s.data.toList
theorem aCH(g:Nat)(l:List UInt8)(u:Bool)(s:B_)(hl:l.length+s.size<70368744177663):aU Tryz.prog 287 [.ref 2001 0 0 0,sv s] (qM g l u) (λr H'=>r=.tup []/\H'=qM (if l=[]then g+1 else g+2) (Ig l s) true):=by
 have f:=XZ g l u 32 X;have e:=Kd g l u;rw[Ig];by_cases d:l=[]
 ·subst d;have c:=D9 g [] u s X;rw[b7 Z,b7 rfl];rw[nil_append]at c;refine Bd func287 Z ntmps287<|S<|O aA<|Y sE<|Y (bA pR)<|Y (kc call208 (e))<|V iP<|Cn ?_ ?_<;>intro b
  ·cases b
  refine aB<|Rd aA<|Y sE<|Y (bA pR)<|Y aA<|V (kc mY (c)) ?_;exact oT (H':=qM (g+1) s.data.toList true) (.inl Z) Z Fin.refl ⟨Z,Z⟩
 have hpos:0<l.length:=length_pos_iff.2 d;have c:=D9 (g+1) (l++[32]) true s G_;rw[a8 d,a8 d];rw[append_assoc]at c;refine Bd func287 Z ntmps287<|S<|O aA<|Y sE<|Y (bA pR)<|Y (kc call208 (e))<|V iP<|Cn ?_ ?_<;>intro b
 ·refine Rd aA<|Y sE<|Y (bA pR)<|V (kc mW (f))<|Rd aA<|Y sE<|Y (bA pR)<|Y aA<|V (kc mY (c)) ?_;exact oT (H':=qM (g+2) (l++32::s.data.toList) true) (.inl Z) Z Fin.refl ⟨Z,Z⟩
 have:=b_ b;omega
theorem Yi{g}{l}{u}{K}:Sub (qM g l u) (qM g l u++K):=by intro j o h;rw[gH,h]
theorem aCp{g c}{l b}{u u'}{id}(h:(aF.get (qM g l u) id).isSome=true):(aF.get (qM c b u') id).isSome=true:=va h
theorem aCx{g a}{l b}{u u'}{K}(j):aF.get (qM g l u++(qM a b u'++K)) j=aF.get (qM g l u++K) j:=by exact(KQ H_ j).symm
theorem If(K)(g)(l)(u)(s)(a:l.length+s.size<70368744177663):aU Tryz.prog 287 [.ref 2001 0 0 0,sv s] (qM g l u++K) (λr H'=>r=.tup []/\H'=qM (if l=[]then g+1 else g+2) (Ig l s) true++K) :=(aU.frame (aCH g l u s a) Yi (dG.ofL ⟨(TK Z Z),(eM _ _),T_⟩) m3 (λid h=>.inl (aCp h))).congrH λj=>(aCx j).symm
theorem PG(K)(g)(l)(u):aU Tryz.prog 208 [.ref 2001 0 0 0] (qM g l u++K) (λr H'=>r=iv (l.length)/\H'=qM g l u++K) :=(aU.frame (Kd g l u) Yi (dG.ofL ⟨(TK Z Z),(eM _ _),T_⟩) m3 (λid h=>.inl h)).congrH λj=>(aCx j).symm
def sV(c:UInt8):Option UInt8:=if c=92 then some 92 else if c=34 then some 34 else if c=110 then some 10 else none
def nU:List UInt8->Option (List UInt8×Nat)
 | []=>none
 | [c]=>if c=34 then some ([],1)else none
 |c::e::r=>if c=34 then some ([],1)else if c=10 then none else if c=92 then(sV e).bind λb=>(nU r).map λp=>(b::p.1,p.2+2)else(nU (e::r)).map λp=>(c::p.1,p.2+1)
def AM(s:B_):B_×Int:=match nU (s.data.toList.drop 1)with
 |some (d,n)=>(⟨d.toArray⟩,((n+1:Nat):Int))
 |none=>(a6,0)
theorem CD{r}:nU (34::r)=some ([],1):=by cases r<;>rfl
theorem LM{r}:nU (10::r)=none:=by cases r<;>rfl
theorem uO{r}{e}:nU (92::e::r)=(sV e).bind λb=>(nU r).map λp=>(b::p.1,p.2+2):=rfl
theorem CE{c}{r}(a:c≠34)(d:c≠10)(b:c≠92):nU (c::r)=(nU r).map λp=>(c::p.1,p.2+1):=by
 cases r with
 |nil =>
  show (if c=34 then some _ else none)=_;rw[a8 a];rfl
 |cons e r=>rw[nU,a8 a,a8 d,a8 b]
def xK(o:Option (List UInt8×Nat))(w:List UInt8)(i:Nat):B_×Int:=match o with
 |some (d,n)=>(⟨(w++d).toArray⟩,((i+n:Nat):Int))
 |none=>(a6,0)
theorem A6{o}{w}{b}{i k}:xK (o.map λp=>(b::p.1,p.2+k)) w i=xK o (w++[b]) (i+k):=by
 cases o with
 |none=>rfl
 |some p=>simp[xK,Option.map_some,append_assoc,singleton_append];grind
theorem yK{s}{i}(h:i<s.size):s.data.toList.drop i=oX s i::s.data.toList.drop (i+1):=by
 have a:i<s.data.toList.length:=F_
 rw[drop_eq_getElem_cons a,oX,m_ _];rfl
theorem BX{i}(h:s.size<=i):s.data.toList.drop i=[]:=drop_eq_nil_of_le F_
theorem B3{s}(a:n<256){b}(h:decide (aY s i=n)=b):decide (oX s i=UInt8.ofNat n)=b:=by rw[<-h,tE,P0 a]
theorem Er(c):(Lib.indexByte (⟨#[92,34,110]⟩:B_).data.toList ((c.toNat:Int).toNat.toUInt8) = -1/\sV c=none)\/∃k:Nat,k<3/\Lib.indexByte (⟨#[92,34,110]⟩:B_).data.toList ((c.toNat:Int).toNat.toUInt8)=k/\sV c=some (oX ⟨#[92,34,10]⟩ k):=by
 have j:((c.toNat:Int).toNat.toUInt8)=c:=H_
 rw[j];by_cases f:c=92
 ·subst f;exact .inr ⟨0,E_,E_,E_⟩
 by_cases g:c=34
 ·subst g;exact .inr ⟨1,E_,E_,E_⟩
 by_cases e:c=110
 ·subst e;exact .inr ⟨2,E_,E_,E_⟩
 refine .inl ⟨?_,by rw[sV,a8 f,a8 g,a8 e]⟩;have l:(92 == c)=false:=G_
 have i:(34 == c)=false:=G_
 have h:(110 == c)=false:=G_
 simp only[Lib.indexByte,l,i,h];rfl
theorem kg(s:B_)(H:aF)(hs:s.size<2^40):RC 291 [sv s] (.tup [sv (AM s).1,iv (AM s).2]) H:=by
 refine Pu ?_;have K:AM s=xK (nU (s.data.toList.drop 1)) [] 1:=by
  unfold AM xK
  grind
 generalize AM s=c at K |-;refine Bd func291 Z ntmps291<|O aI<|V aI<|Sz (kl 2001 HG)<|S<|S ?_;refine gG.ent (E':=[(0,sv s),(4,.ref 2001 0 0 0)]) (H':=yP 0 [] false) (cL.bld0 ⟨⟨_,Z,.same H_⟩,⟨_,Z,.same m3⟩,T_⟩) ?_;refine Rg<|V aI<|aD<|XP (λ(i g:Nat) (w:List UInt8) (u:Bool)=>([(0,sv s),(4,.ref 2001 0 0 0),(5,iv (i:Int))],yP g w u)) (λi g w u=>w.length<=i/\i<2199023255552/\c=xK (nU (s.data.toList.drop i)) w i) (λi g w u=>s.size+1 - i) 1 0 [] false ⟨l7 _,E_,K⟩ ?_ ?_
 ·exact(cL.wk (Eb<|Ea<|Eb<|T_) (Hc (gJ Z Z)<|Hc (eM _ _)<|T_) T_)
 rintro i g w u ⟨hwl,hib,b⟩;refine S<|O aA<|Y aA<|Y (gE U_)<|V cJ<|Cn ?_ ?_<;>intro m
 ·have B:i<s.size:=I_ m
  have j:=yK B;refine aB<|S<|aD<|O aA<|Y aA<|Y (ky U_)<|V aI<|Sz aA<|aD<|O cD<|Da<|Cn ?_ ?_<;>intro A
  ·have f:oX s i=34:=b9 (B3 (n:=34) E_ A);have d:c=(⟨w.toArray⟩,((i+1:Nat):Int)):=by rw[b,j,f,CD,xK,append_nil]
   rw[d];exact O (kc mX (P9 g w u X))<|Y aA<|Y gX<|Y aI<|V aI<|aC<|Ru<|Qq
  have v:oX s i≠34:=b_ (B3 (n:=34) E_ A);refine O cD<|Da<|Cn ?_ ?_<;>intro t
  ·have f:oX s i=10:=b9 (B3 (n:=10) E_ t);have d:c=(a6,0):=by rw[b,j,f,LM,xK]
   rw[d];exact O aI<|V aI<|aC<|Ru<|Qq
  have p:oX s i≠10:=b_ (B3 (n:=10) E_ t);refine O cD<|Da<|Cn ?_ ?_<;>intro k
  ·have f:oX s i=92:=b9 (B3 (n:=92) E_ k);refine O aA<|Y gX<|V aI<|Sz aI<|S<|O aA<|Y aA<|Y (gE U_)<|V cJ<|Cn ?_ ?_<;>intro x
   ·have o:i+1<s.size:=I_ x
    have y:=yK o;rcases Er (oX s (i+1))with⟨I,E⟩|⟨q,L,I,E⟩
    ·have d:c=(a6,0):=by rw[b,j,f,y,uO,E];rfl
     have hneg:Lib.indexByte (⟨#[92,34,110]⟩:B_).data.toList (aY s (i+1)).toNat.toUInt8 = -1:=I;rw[d];refine Rd aA<|Y aA<|Y (ky U_)<|Y (kc call199 (rW _ _ _))<|V aI<|S<|O aA<|V cJ<|Cn ?_ ?_<;>intro D
     ·exact O aI<|V aI<|aC<|Ru<|Qq
     exact absurd (b_ D) F_
    have hpos:Lib.indexByte (⟨#[92,34,110]⟩:B_).data.toList (aY s (i+1)).toNat.toUInt8=(q:Int):=I;have G:q<(⟨#[92,34,10]⟩:B_).size:=L;refine Rd aA<|Y aA<|Y (ky U_)<|Y (kc call199 (rW _ _ _))<|V aI<|S<|O aA<|V cJ<|Cn ?_ ?_<;>intro F
    ·exact absurd (b9 F) G_
    refine aB<|Rd aA<|Y (cI Z U_ Z Z F_ F_ G Z)<|V (kc mW (kQ g w u (oX ⟨#[92,34,10]⟩ q) X))<|Rd aA<|Y gX<|Da ?_;refine⟨i+1+1,g+1,w++[oX ⟨#[92,34,10]⟩ q],true,⟨G_,X,?_⟩,X,(cL.wk (Eb<|Ea<|Eb<|T_) (Hc (gJ Z Z)<|Hc (eM _ _)<|T_) T_)⟩;rw[b,j,f,y,uO,E];exact A6
   have e:s.size<=i+1:=J_ x
   have d:c=(a6,0):=by rw[b,j,f,BX e];rfl
   rw[d];refine aB<|S<|O aA<|V cJ<|Cn ?_ ?_<;>intro d_
   ·exact O aI<|V aI<|aC<|Ru<|Qq
   cases d_
  have z:oX s i≠92:=b_ (B3 (n:=92) E_ k);refine Rd aA<|V (kc mW (kQ g w u (oX s i) X))<|Rd aA<|Y gX<|Da ?_;refine⟨i+1,g+1,w++[oX s i],true,⟨by rw[j_,length_singleton];omega,X,?_⟩,X,(cL.wk (Eb<|Ea<|Eb<|T_) (Hc (gJ Z Z)<|Hc (eM _ _)<|T_) T_)⟩;rw[b,j,CE v p z,A6]
 have e:s.size<=i:=J_ m
 have d:c=(a6,0):=by rw[b,BX e];rfl
 rw[d];exact aP<|O aI<|V aI<|aC<|Ru<|Qq
def mT(s:B_)(i:Nat):Int:=if i<s.size then yN (aY s i)else 0
def tS(s:B_):Ob:=bx 1 9 [sv s]
def tC:Ob:=bx 256 223 vY
def tA:Ob:=bx 1 299 [.clo 289 [.ref 921 0 0 0,.ref 923 0 0 0]]
theorem aBF(s:B_)(i:Nat)(H:aF)(f:H.get 921=some (tS s))(d:H.get 923=some tC)(hi:i<2^62)(hs:s.size<2^62):
  RC 289 [iv (i:Int),.ref 921 0 0 0,.ref 923 0 0 0] (.pv (.int .u8 (mT s i))) H:=by
 refine Bd func289 Z ntmps289<|Sz aI<|S<|O aA<|Y (aX Z N_ Z f Z Z Z)<|Y (gE U_)<|V zU<|Cn ?_ ?_<;>intro b
 ·have e:mT s i=0:=by rw[mT,a8 (I_ b)]
  rw[e];refine Sz aI<|aC<|cR (H':=H) (.inr Z) Z (aH Z) Fin.refl Qq
 have c:i<s.size:=J_ b
 have e:mT s i=yN (aY s i):=by rw[mT,b7 c]
 rw[e];refine aB<|O (aX Z N_ Z f Z Z Z)<|Y aA<|Y (ky U_)<|Y (eO (k2:=(aY s i).toNat) Z gK cM Z d Z Z (M7 s i) Z (B0 s i) X)<|Y (aX Z uM Z d Z Z (Xf s i))<|V aI<|aC<|cR (H':=H) (.inr Z) Z (aH Z) Fin.refl Qq
theorem bp(s:B_)(H:aF)(d:H.get 921=none)(b:H.get 923=none)(c:H.get 924=none)(hc:dG H):
  aU Tryz.prog 254 [sv s] H (λr H'=>r=.clo 290 [.ref 921 0 0 0,.ref 924 0 0 0]/\H'=(924,tA)::(923,tC)::(921,tS s)::H):=by
 refine Bd func254 Z ntmps254<|O (wL (id:=921) Z Z Z Z d)<|V aI<|O (kc call211 (XM _))<|Y (CA (id:=923) Z qv Z b)<|Uu (lR Z AT Z Z Z Z Z Z Z H_)<|Zz<|O (gW Z Z)<|Y (CA (id:=924) Z aB4 Z c)<|Uu (jA sizeOf299)<|Zz<|O (gW Z Z)<|V aI<|aC ?_;refine cR (H':=((924,tA)::(923,tC)::(921,tS s)::H)) (.inr Z) Z (aH Z) (Fin.get' (λj=>by simp only[aF.get];cases Nat.beq 924 j<;>cases Nat.beq 923 j<;>rfl)) ?_;exact Qq
def zA(p:Nat->Bool):Nat->Nat->Nat
 |0,i=>i
 |n+1,i=>if p i then zA p n (i+1)else i
theorem FX(p):∀(n i),i<=zA p n i/\zA p n i<=i+n
 |0,i=>⟨g_ _,g_ _⟩
 |n+1,i=>by
  rw[zA]
  split
  ·have:=FX p n (i+1);omega
  omega
theorem JJ(p):∀(n i),∀j,i<=j->j<zA p n i->p j=true
 |0,i,j,b,a=>by rw[zA]at a;omega
 | n+1,i,j,b,a=>by
  rw[zA]at a
  split at a
  ·by_cases e:j=i
   ·simp_all
   exact JJ p n _ j (by omega) a
  omega
theorem xE(p):∀(n i),zA p n i<i+n->p (zA p n i)=false
 |0,i,h=>by rw[zA]at h;omega
 |n+1,i,h=>by
  rw[zA]at h |-
  split at h
  ·rename_i a;rw[b7 a];exact xE p n _ (by omega)
  simp_all
theorem zI(p){n i j}(d:i<=j)(h2:j<=i+n)(c:∀k,i<=k->k<j->p k=true)(a:p j=false\/j=i+n):zA p n i=j:=by
 have ⟨b,l2⟩:=FX p n i;rcases Nat.lt_trichotomy (zA p n i) j with h|h|h
 ·have:=xE p n i X;rw[c _ b h]at this;cases this
 ·exact h
 have:=JJ p n i j d h;rcases a with a|a
 ·rw[a]at this;cases this
 omega
def uY(s:B_)(j:Nat):Bool:=decide (j<s.size)&&!decide (aY s j=10)
def uX(s:B_)(j:Nat):Bool:=decide (mT s j=3)||decide (mT s j=4)||decide (mT s j=5)
def OB(s:B_)(j:Nat):Bool:=decide (mT s j=4)
def GA(s:B_)(i:Nat):Nat:=zA (uY s) (s.size - i) i
def CB(s:B_)(i:Nat):Nat:=zA (uX s) (s.size - i) i
def IM(s:B_)(i:Nat):Nat:=zA (OB s) (s.size - i) i
structure b6 where
 kind:Int
 text:B_
 pos:Nat
 err:Int
def KU(f:b6):List PV:=[.int .i64 f.kind,.str f.text,.int .i64 f.pos,.int .i64 f.err]
def vC(i:Nat):b6:=⟨0,a6,i,3⟩
def AK(s:B_)(i j:Nat):b6:=⟨1,s.extract i j,i,if 24<j - i then 2 else 0⟩
def HA(s:B_)(i j:Nat):b6:=⟨2,s.extract i j,i,if decide (7<j - i)||decide (mT s j=3)||decide (mT s j=5)then 4 else 0⟩
def EX(s:B_)(i:Nat):b6×Nat:=if 0<(AM (s.extract i s.size)).2 then(⟨3,(AM (s.extract i s.size)).1,i,0⟩,i+(AM (s.extract i s.size)).2.toNat)else(vC i,i)
def eX(s:B_)(i:Nat):Option b6×Nat :=if mT s i=1 then(none,i+1)else if mT s i=2 then(none,GA s i)else if mT s i=3 then(some (AK s i (CB s i)),CB s i)
 else if mT s i=4 then(some (HA s i (IM s i)),IM s i)else if mT s i=7 then(some (EX s i).1,(EX s i).2)
 else if mT s i=6 then(some ⟨4,s.extract i (i+1),i,0⟩,i+1)else(some (vC i),i)
def jZ(s:B_):Nat->Nat->List b6
 |0,_=>[]
 |n+1,i=>if i<s.size then(match eX s i with
  |(none,j)=>jZ s n j
  |(some f,j)=>f::(if f.err=0 then jZ s n j else[]))else[]
theorem PZ:∀(l) (p),nU l=some p->p.2<=l.length
 | [],p,h=>by cases h
 | [c],p,h=>by
  rw[nU]at h
  grind
 | c :: e :: r, p, h => by
  rw[nU]at h
  split at h
  ·grind
  split at h
  ·cases h
  split at h
  ·cases f:sV e with
   |none=>simp_all
   | some b =>
    rw[f]at h;cases d:nU r with
    |none=>simp_all
    |some q =>
     rw[d]at h;cases h;have:=PZ r q d;show q.2+2<=r.length+1+1;omega
  cases d:nU (e::r)with
  |none=>simp_all
  |some q =>
   rw[d]at h;cases h;have:=PZ _ q d
   simp_all
theorem fx(s):0<=(AM s).2/\(AM s).2<=s.size:=by
 have hl:s.data.toList.length=s.size:=rfl;unfold AM;cases b:nU _ with
 |none=>exact⟨Int.le_refl _,Int.natCast_nonneg _⟩
 | some p =>
  have:=PZ _ p b;rw[q6]at this;refine⟨Int.natCast_nonneg _,?_⟩;show ((p.2+1):Int)<=_;have c:0<s.size:=by
   cases c:s.data.toList with
   |nil=>rw[c]at b;cases b
   |cons a l=>grind
  omega
theorem XS(s)(i)(h:mT s i≠0):i<s.size:=by
 by_cases e:i<s.size
 ·exact e
 exact absurd (a8 e) h
def tF(f:b6):Ob:=bx 4 266 ((KU f).map .pv)
theorem AB(H)(f):∀r∈(tF f).rows,∀a∈r,Clo H a:=by intro r b a c;simp[tF,bx,r6]at b;subst b;obtain ⟨p,_,rfl⟩:=mem_map.1 c;simp
instance(H)(f):W_ (H) ((tF f).rows):=⟨AB H f⟩
theorem SP{α:Type}{l m:List α}{k}{d}(h:l.drop k=d::m):l[k]?=some d/\l.drop (k+1)=m:=by
 refine⟨?_,?_⟩
 ·have:=congrArg (·[0]?) h
  simpa using this
 rw[<-drop_drop,h];rfl
theorem OR{j:Nat}{f:b6}(h:eX s i=(some f,j))(b:f.err=0)(hi:i<s.size):i<j/\j<=s.size:=by
 have a:∀(p),p i=true->i<zA p (s.size - i) i/\zA p (s.size - i) i<=s.size:=λp d=>by
  have ⟨l1,l2⟩:=FX p (s.size - i) i;refine⟨?_,X⟩;rcases Nat.lt_or_ge i _ with h|h
  ·exact h
  have c:=xE p (s.size - i) i X;rw[show zA p (s.size - i) i=i by omega,d]at c;cases c
 unfold eX at h
 split at h
 ·cases h
 split at h
 ·cases h
 split at h
 ·rename_i g;cases h;exact a _ (by rw[uX,g];rfl)
 split at h
 ·rename_i e;cases h;exact a _ (by rw[OB,e];rfl)
 split at h
 ·have hul:=fx (s.extract i s.size);have hexs:(s.extract i s.size).size<=s.size - i:=F_
  unfold EX at h
  split at h
  ·cases h;omega
  cases h;cases b
 split at h
 ·cases h;exact⟨Nat.lt_succ_self _,hi⟩
 cases h;cases b
theorem ltD(h:decide (i<(n:Int))=true):i<n:=I_ h
theorem LO(s:B_)(y:AV)(Hs:Nat->aF)(cont:Nat->Bool)(m:Nat)(hs:s.size<2^40)(G:∀k,(Hs k).get 921=some (tS s))(h2:∀k,(Hs k).get 923=some tC)(T:∀k,(Hs k).get 924=some tA)(h6:∀k,(Hs k).get 926=none)(y_:∀k,dG (Hs k))(hf:∀k,Clo (Hs k) y)
  (hm:m<=(jZ s (s.size+1) 0).length) (hall:∀k,k+1<m->cont k=true) (f_:m=(jZ s (s.size+1) 0).length\/(0<m/\cont (m - 1)=false))
  (hy:∀k d,(jZ s (s.size+1) 0)[k]?=some d->k<m->dH Tryz.prog y [.agg ((KU d).map .pv)] ((926,tF d)::Hs k) (λr H'=>r=bv (cont k)/\H'=(926,tF d)::Hs (k+1))) :
  aU Tryz.prog 290 [y,.ref 921 0 0 0,.ref 924 0 0 0] (Hs 0) (λr H'=>r=.tup []/\H'=Hs m):=by
 have ⟨ds,hds⟩:∃ds,ds=jZ s (s.size+1) 0:=X_;rw[<-hds]at hy hm f_;have D:∀(k i:Nat) (f:b6),i<=s.size+1->dH Tryz.prog (.clo 289 [.ref 921 0 0 0,.ref 923 0 0 0]) [iv (i:Int)] ((926,tF f)::Hs k) (λr H'=>r=.pv (.int .u8 (mT s i))/\H'=(926,tF f)::Hs k):=λk i f hi =>
  dH.clo call289 (aBF s i ((926,tF f)::Hs k) (G k) (h2 k) X X)
 have hfree:∀(G0:aF) (k i:Nat) (E:cY) (o:Ob),G0=Hs 0->E.get 0=some y->E.get 1=some (.ref 921 0 0 0)->E.get 2=some (.ref 924 0 0 0)->E.get 4=some (iv (i:Int)) ->
   cL G0 E ((926,o)::Hs k) [(0,y),(1,.ref 921 0 0 0),(2,.ref 924 0 0 0),(4,iv (i:Int))] (Hs k):=λG0 k i E o hG q0 A_ q2 q4=>by
  subst hG;exact cL.front (K:=Hs k) [(926,o)] [] ⟨⟨_,q0,Z⟩,hf k,⟨_,A_,Z⟩,(by rw[DI];simp_all),⟨_,q2,Z⟩,(by rw[DI];simp_all),⟨_,q4,Z⟩,H_,T_⟩ G_ H_ H_ (y_ k) G_
 refine Bd func290 Z ntmps290<|Bq<|Sz aI<|S<|Br<|aD<|eU (λ(i k:Nat)=>([(0,y),(1,.ref 921 0 0 0),(2,.ref 924 0 0 0),(4,iv (i:Int))],Hs k)) (λi k=>i<=s.size/\k<=m/\(k=0\/cont (k - 1)=true)/\∃n,s.size - i<n/\ds.drop k=jZ s n i) (λi k=>s.size - i) 0 0 ⟨l7 _,l7 _,.inl Z,s.size+1,Nat.lt_succ_self _,by simp_all⟩ ?_ ?_
 ·exact E0
 rintro i k ⟨hi,hkm,hkc,n,hn,hinv⟩;refine S<|O aA<|Y (by exact aX Z N_ Z (G k) Z Z Z)<|Y (gE U_)<|V cJ<|Cn ?_ ?_<;>intro hc1
 ·have hlt:i<s.size:=I_ hc1
  obtain ⟨n,rfl⟩:∃n',n=n'+1:=⟨n - 1,X⟩;rw[jZ,b7 hlt]at hinv;refine aB<|aD<|O aA<|V aI<|O aA<|Y (oI HF)<|Y (oI aDK)<|Y (by exact CA (id:=926) Z Dp Z (h6 k))<|Uu (jA sizeOf266)<|Zz<|eK (λ(a:b6×Nat)=>([(0,y),(1,.ref 921 0 0 0),(2,.ref 924 0 0 0),(4,iv (a.2:Int)),(6,.ref 926 0 0 0)],(926,tF a.1)::Hs k)) (λa=>eX s i=(some a.1,a.2)) ?_ ?_
  ·refine S ?_;refine gG.ent (E':=[(0,y),(1,.ref 921 0 0 0),(2,.ref 924 0 0 0),(4,iv (i:Int)),(5,iv (i:Int)),(6,.ref 926 0 0 0)]) (H':=(926,tF (vC i))::Hs k) (cL.get' ⟨⟨_,Z,Z⟩,⟨_,Z,Z⟩,⟨_,Z,Z⟩,⟨_,Z,Z⟩,⟨_,Z,Z⟩,⟨_,Z,Z⟩,T_⟩ (λj=>wV 926 (tF (vC i)) _ (Hs k) j))<|Rd (by exact aX Z isAgg299 Z (T k) Z Z Z)<|Y aA<|V (by exact dA Z Z Z (D k i (vC i) X))<|aD<|O cD<|Da<|Cn ?_ ?_<;>intro hc2
   ·have e1:mT s i=1:=b9 hc2;have hst:eX s i=(none,i+1):=by rw[eX,b7 e1]
    rw[hst]at hinv;refine O aA<|Y gX<|V aI<|aP ?_;exact⟨i+1,k,⟨X,hkm,hkc,n,X,hinv⟩,X,hfree _ _ _ _ _ Z Z Z Z Z⟩
   have n1:mT s i≠1:=b_ hc2;refine O cD<|Da<|Cn ?_ ?_<;>intro hc3
   ·have e2:mT s i=2:=b9 hc3;have hst:eX s i=(none,GA s i):=by rw[eX,a8 n1,b7 e2]
    rw[hst]at hinv;refine S<|aD<|bF (σ:=Nat) (λj=>([(0,y),(1,.ref 921 0 0 0),(2,.ref 924 0 0 0),(4,iv (j:Int))],(926,tF (vC i))::Hs k)) (λj=>i<=j/\j<=s.size/\∀q,i<=q->q<j->uY s q=true) (λj=>s.size - j) i ⟨g_ _,hi,λq G h2=>by omega⟩ ?_ ?_
    ·exact E0
    rintro j ⟨B,hj,hpre⟩;refine S<|S<|aQ (t:=37) (n:=11) (A_:=uY s j) ?_ ?_
    ·all_goals refine Y aA<|Y (by exact aX Z N_ Z (G k) Z Z Z)<|Y (gE U_)<|Y cJ<|Dm ?_<;>(refine Sp 32 (λh32=>?_) λh32=>?_)<;>(first|exact s_|refine M<|M<|M<|M ?_|refine U (by exact aX Z N_ Z (G k) Z Z Z)<|U aA<|U (by exact cI Z U_ Z Z X (by exact l_ _) (ltD h32) Z)<|U zB ?_)<;>refine V cC ?_<;>exact Gj (h:=by first|(simp_all[uY];done)|(simp_all[uY];omega))
    refine Cn ?_ ?_<;>intro d_
    ·have hjs:j<s.size:=by
      have h:=d_;rw[uY,k_,j0]at h;exact h.1
     refine aB<|aD<|Rd aA<|Y gX<|Da ?_;exact⟨j+1,⟨X,X,λq A_ q2=>by
      by_cases e:q=j
      ·subst e;exact d_
      exact hpre q A_ (by omega)⟩,by omega,E0⟩
    have z:GA s i=j:=zI _ B X hpre (.inl d_);have hgt:i<j:=by
     rcases Nat.lt_or_ge i j with h|h
     ·exact h
     have hji:j=i:=X
     subst hji;rw[uY,decide_eq_true hlt,Bool.true_and,Bool.not_eq_false',j0]at d_;rw[mT,b7 hlt,d_]at e2;exact absurd e2 E_
    rw[z]at hinv;refine aP<|aP ?_;exact⟨j,k,⟨hj,hkm,hkc,n,X,hinv⟩,X,hfree _ _ _ _ _ Z Z Z Z Z⟩
   have n2:mT s i≠2:=b_ hc3;refine O cD<|Da<|Cn ?_ ?_<;>intro hc5
   ·have e3:mT s i=3:=b9 hc5;refine S<|O (by exact aX Z isAgg299 Z (T k) Z Z Z)<|Y aA<|Y (by exact dA Z Z Z (D k i (vC i) X))<|V aI<|aD<|bF (σ:=Nat) (λj=>([(0,y),(1,.ref 921 0 0 0),(2,.ref 924 0 0 0),(4,iv (j:Int)),(5,iv (i:Int)),(6,.ref 926 0 0 0),(7,.pv (.int .u8 (mT s j)))],(926,tF (vC i))::Hs k)) (λj=>i<=j/\j<=s.size/\∀q,i<=q->q<j->uX s q=true) (λj=>s.size - j) i ⟨g_ _,hi,λq G h2=>by omega⟩ ?_ ?_
    ·exact E0
    rintro j ⟨B,hj,hpre⟩;refine S<|S<|aQ (t:=54) (n:=12) (A_:=uX s j) ?_ ?_
    ·all_goals refine Y aA<|Y cD<|Dm ?_<;>(refine Sp 47 (λh47=>?_) λh47=>?_)<;>(first|exact s_|refine M<|M ?_|refine U aA<|U cD ?_)<;>refine Y cC<|Dm ?_<;>(refine Sp 51 (λh51=>?_) λh51=>?_)<;>(first|exact s_|refine M<|M ?_|refine U aA<|U cD ?_)<;>refine V cC ?_<;>exact Gj (h:=by(simp only[uX, *];rfl))
    refine Cn ?_ ?_<;>intro hc6
    ·have hjs:j<s.size:=XS s j (λe=>by rw[uX,e]at hc6;cases hc6);refine aB<|S<|aD<|Rd aA<|Y gX<|V aI<|Rd (by exact aX Z isAgg299 Z (T k) Z Z Z)<|Y aA<|Y (by exact dA Z Z Z (D k (j+1) (vC i) X))<|Da ?_;exact⟨j+1,⟨X,X,λq A_ q2=>by
      by_cases e:q=j
      ·subst e;exact hc6
      exact hpre q A_ (by omega)⟩,by omega,E0⟩
    have z:CB s i=j:=zI _ B X hpre (.inl hc6);have hst:eX s i=(some (AK s i j),j):=by rw[eX,a8 n1,a8 n2,b7 e3,z]
    refine aP<|S<|aM a7<|Cr [921] (λx hH=>by exact aX Z N_ Z ((hH _ Z).trans (G k)) Z Z Z)<|x_ aA<|x_ aA<|x_ (by exact bM (l:=i) (h:=j) Z U_ Z Z Z X X Z)<|Cr [926] (λ_ h=>fh oO h)<|Cr [926] (λ_ h=>fh uT h)<|Cp [926] (λ_ h=>su sizeOf3 h)<|Cr [926] (λ_ h=>fh oO h)<|Cr [926] (λ_ h=>fh iF h)<|Cp [926] (λ_ h=>su V_ h)<|Cr [926] (λ_ h=>fh tB h)<|Cp [926] (λ_ h=>su sizeOf25 h) ?_;refine bG<|Kr<|O aA<|Y aA<|Y (by exact dM Z Z Z (show IntKind.i64.wrap ((j:Int) - (i:Int))=((j - i:Nat):Int)by rw[IntKind.wrap_i64];omega))<|V iP ?_;refine Cn ?_ ?_<;>intro hc7
    ·have z_:AK s i j=⟨1,s.extract i j,i,2⟩:=by rw[AK,b7 (I_ hc7)]
     rw[z_]at hst;refine Rd (bA tB)<|Uu (ku sizeOf25)<|Zz ?_;exact⟨(⟨1,s.extract i j,i,2⟩,j),hst,cL.get' ⟨⟨_,Z,Z⟩,⟨_,Z,Z⟩,⟨_,Z,Z⟩,⟨_,Z,Z⟩,⟨_,Z,Z⟩,T_⟩ (λq=>BV [_,_,_,_] H_ q)⟩
    have z_:AK s i j=⟨1,s.extract i j,i,0⟩:=by rw[AK,a8 (J_ hc7)]
    rw[z_]at hst;refine aB ?_;exact⟨(⟨1,s.extract i j,i,0⟩,j),hst,cL.get' ⟨⟨_,Z,Z⟩,⟨_,Z,Z⟩,⟨_,Z,Z⟩,⟨_,Z,Z⟩,⟨_,Z,Z⟩,T_⟩ (λq=>BV [_,_,_] H_ q)⟩
   have n3:mT s i≠3:=b_ hc5;refine O cD<|Da<|Cn ?_ ?_<;>intro hc8
   ·have e4:mT s i=4:=b9 hc8;refine S<|aD<|bF (σ:=Nat) (λj=>([(0,y),(1,.ref 921 0 0 0),(2,.ref 924 0 0 0),(4,iv (j:Int)),(5,iv (i:Int)),(6,.ref 926 0 0 0)],(926,tF (vC i))::Hs k)) (λj=>i<=j/\j<=s.size/\∀q,i<=q->q<j->OB s q=true) (λj=>s.size - j) i ⟨g_ _,hi,λq G h2=>by omega⟩ ?_ ?_
    ·exact E0
    rintro j ⟨B,hj,hpre⟩;refine S<|O (by exact aX Z isAgg299 Z (T k) Z Z Z)<|Y aA<|Y (by exact dA Z Z Z (D k j (vC i) X))<|V cD<|Cn ?_ ?_<;>intro hc9
    ·have hjs:j<s.size:=XS s j (λe=>by rw[e]at hc9;cases hc9);refine aB<|aD<|Rd aA<|Y gX<|Da ?_;exact⟨j+1,⟨X,X,λq A_ q2=>by
      by_cases e:q=j
      ·subst e;exact hc9
      exact hpre q A_ (by omega)⟩,by omega,E0⟩
    have z:IM s i=j:=zI _ B X hpre (.inl hc9);have hst:eX s i=(some (HA s i j),j):=by rw[eX,a8 n1,a8 n2,a8 n3,b7 e4,z]
    refine aP<|S<|aM a7<|Cr [921] (λx hH=>by exact aX Z N_ Z ((hH _ Z).trans (G k)) Z Z Z)<|x_ aA<|x_ aA<|x_ (by exact bM (l:=i) (h:=j) Z U_ Z Z Z X X Z)<|Cr [926] (λ_ h=>fh oO h)<|Cr [926] (λ_ h=>fh uT h)<|Cp [926] (λ_ h=>su sizeOf3 h)<|Cr [926] (λ_ h=>fh oO h)<|Cr [926] (λ_ h=>fh iF h)<|Cp [926] (λ_ h=>su V_ h)<|Cr [926] (λ_ h=>fh tB h)<|Cp [926] (λ_ h=>su sizeOf25 h) ?_;refine bG<|Kr<|S ?_;refine gG.ent (E':=[(0,y),(1,.ref 921 0 0 0),(2,.ref 924 0 0 0),(4,iv (j:Int)),(5,iv (i:Int)),(6,.ref 926 0 0 0)]) (H':=(926,tF ⟨2,s.extract i j,i,0⟩)::Hs k) (cL.get' ⟨⟨_,Z,Z⟩,⟨_,Z,Z⟩,⟨_,Z,Z⟩,⟨_,Z,Z⟩,⟨_,Z,Z⟩,⟨_,Z,Z⟩,T_⟩ (λq=>BV [_,_,_] H_ q)) ?_;have h7:decide (7<((j - i:Nat):Int))=decide (7<j - i):=by rw[Bool.eq_iff_iff,j0,j0];omega
    refine Rd (by exact aX Z isAgg299 Z (T k) Z Z Z)<|Y aA<|Y (by exact dA Z Z Z (D k j ⟨2,s.extract i j,i,0⟩ X))<|V aI<|S<|aQ (t:=105) (n:=14) (A_:=decide (7<((j - i:Nat):Int))||decide (mT s j=3)||decide (mT s j=5)) ?_ ?_
    ·all_goals refine Y aA<|Y aA<|Y (by exact dM Z Z Z (show IntKind.i64.wrap ((j:Int) - (i:Int))=((j - i:Nat):Int)by rw[IntKind.wrap_i64];omega))<|Y iP<|Dm ?_<;>(refine Sp 98 (λh98=>?_) λh98=>?_)<;>(first|exact s_|refine M<|M ?_|refine U aA<|U cD ?_)<;>refine Y cC<|Dm ?_<;>(refine Sp 102 (λh102=>?_) λh102=>?_)<;>(first|exact s_|refine M<|M ?_|refine U aA<|U cD ?_)<;>refine V cC ?_<;>exact Gj (h:=by first|(simp_all[uX];done)|(simp_all;omega))
    refine Cn ?_ ?_<;>intro u_
    ·have z_:HA s i j=⟨2,s.extract i j,i,4⟩:=by rw[HA,<-h7,u_];rfl
     rw[z_]at hst;refine Rd (bA tB)<|Uu (ku sizeOf25)<|Zz ?_;exact⟨(⟨2,s.extract i j,i,4⟩,j),hst,cL.get' ⟨⟨_,Z,Z⟩,⟨_,Z,Z⟩,⟨_,Z,Z⟩,⟨_,Z,Z⟩,⟨_,Z,Z⟩,T_⟩ (λq=>BV [_] H_ q)⟩
    have z_:HA s i j=⟨2,s.extract i j,i,0⟩:=by rw[HA,<-h7,u_];rfl
    rw[z_]at hst;refine aB ?_;exact⟨(⟨2,s.extract i j,i,0⟩,j),hst,E0⟩
   have n4:mT s i≠4:=b_ hc8;refine O cD<|Da<|Cn ?_ ?_<;>intro R
   ·have e7:mT s i=7:=b9 R;have hst:eX s i=(some (EX s i).1,(EX s i).2):=by rw[eX,a8 n1,a8 n2,a8 n3,a8 n4,b7 e7]
    have hexs:(s.extract i s.size).size<=s.size - i:=by rw[ByteArray.size_extract];omega
    have hun:=λH=>kg (s.extract i s.size) H X;have hul:=fx (s.extract i s.size);have ⟨u,hu⟩:∃u,u=AM (s.extract i s.size):=X_;have hgs:EX s i=if 0<u.2 then(⟨3,u.1,i,0⟩,i+u.2.toNat)else(vC i,i):=by rw[EX,<-hu]
    rw[<-hu]at hun hul;have ⟨ut,un⟩:=u;simp only at hun hul hgs;refine O (by exact aX Z N_ Z (G k) Z Z Z)<|Y aA<|Y (by exact bM (l:=i) (h:=s.size) Z U_ Z Z Z X X Z)<|Y (kc call291 (hun _))<|Y aA<|Y dK<|Y dK<|Y aI<|V aI<|S<|O aA<|V iP<|Cn ?_ ?_<;>intro hc12
    ·rw[hgs,b7 (b9 hc12)]at hst;refine Rd aA<|Y (bA oO)<|Y (bA uT)<|Uu (ku sizeOf3)<|Y (bA oO)<|Y (bA iF)<|Uu (ku V_)<|Y (bA tB)<|Uu (ku sizeOf25)<|Zz<|Rd aA<|Y aA<|Y (by exact dB Z Z Z (show IntKind.i64.wrap ((i:Int)+un)=((i+un.toNat:Nat):Int)by rw[IntKind.wrap_i64];omega))<|Da ?_;exact⟨(⟨3,ut,i,0⟩,i+un.toNat),hst,cL.get' ⟨⟨_,Z,Z⟩,⟨_,Z,Z⟩,⟨_,Z,Z⟩,⟨_,Z,Z⟩,⟨_,Z,Z⟩,T_⟩ (λq=>BV [_,_,_] H_ q)⟩
    have hu0:=b_ hc12;rw[hgs,a8 hu0]at hst;have e0:i+un.toNat=i:=X
    refine aB<|Rd aA<|Y aA<|Y (by exact dB Z Z Z (show IntKind.i64.wrap ((i:Int)+un)=((i+un.toNat:Nat):Int)by rw[IntKind.wrap_i64];omega))<|Da ?_;rw[e0];exact⟨(vC i,i),hst,E0⟩
   have n7:mT s i≠7:=b_ R;refine O cD<|Da<|Cn ?_ ?_<;>intro hc13
   ·have e6:mT s i=6:=b9 hc13;have hst:eX s i=(some ⟨4,s.extract i (i+1),i,0⟩,i+1):=by rw[eX,a8 n1,a8 n2,a8 n3,a8 n4,a8 n7,b7 e6]
    refine O aA<|Y gX<|V aI<|aM a7<|Cr [921] (λx hH=>by exact aX Z N_ Z ((hH _ Z).trans (G k)) Z Z Z)<|x_ aA<|x_ aA<|x_ (by exact bM (l:=i) (h:=(i+1)) Z U_ Z Z Z X X Z)<|Cr [926] (λ_ h=>fh oO h)<|Cr [926] (λ_ h=>fh uT h)<|Cp [926] (λ_ h=>su sizeOf3 h)<|Cr [926] (λ_ h=>fh oO h)<|Cr [926] (λ_ h=>fh iF h)<|Cp [926] (λ_ h=>su V_ h)<|Cr [926] (λ_ h=>fh tB h)<|Cp [926] (λ_ h=>su sizeOf25 h) ?_;refine bG<|Kr ?_;exact⟨(⟨4,s.extract i (i+1),i,0⟩,i+1),hst,cL.get' ⟨⟨_,Z,Z⟩,⟨_,Z,Z⟩,⟨_,Z,Z⟩,⟨_,Z,Z⟩,⟨_,Z,Z⟩,T_⟩ (λq=>BV [_,_,_] H_ q)⟩
   have n6:mT s i≠6:=b_ hc13;have hst:eX s i=(some (vC i),i):=by rw[eX,a8 n1,a8 n2,a8 n3,a8 n4,a8 n7,a8 n6]
   refine aB ?_;exact⟨(vC i,i),hst,E0⟩
  rintro⟨f,j⟩ hst;rw[hst]at hinv;simp only at hinv hst;have ⟨hk1,hk2⟩:=SP hinv;have hkl:=(m9.1 hk1).1;have v_:k<m:=by
   rcases Nat.lt_or_ge k m with h|h
   ·exact h
   have hkem:k=m:=Nat.le_antisymm hkm h;subst hkem;rcases f_ with h|⟨h,h'⟩
   ·omega
   rcases hkc with h2|h2
   ·omega
   rw[h2]at h';cases h'
  have F:ds.length=k+1\/cont k=false->k+1=m:=λh=>by
   rcases h with h|h
   ·omega
   rcases Nat.lt_or_ge (k+1) m with T|T
   ·rw[hall k T]at h;cases h
   omega
  have hyk:=hy k f hk1 v_;cases hck:cont k with
  |false =>
   have A:=F (.inr hck);rw[hck]at hyk;refine O aA<|Y (wQ isAgg266 sizeOf266)<|Y (by exact dA Z Z Z (hyk))<|Y iI<|Y aA<|M<|M<|M<|V cC<|Cn ?_ ?_<;>intro hc14
   ·refine aC ?_;rw[<-A];exact oT (H':=Hs (k+1)) (.inr Z) Z (Fin.pops' [(926,tF f)] H_ (y_ _) (by simp[h6]) (by simp[h6])) ⟨Z,Z⟩
   cases hc14
  | true =>
   rw[hck]at hyk;refine O aA<|Y (wQ isAgg266 sizeOf266)<|Y (by exact dA Z Z Z (hyk))<|Y iI<|Y aA<|U (bA tB)<|U (bQ mV)<|U zB<|V cC<|Cn ?_ ?_<;>intro W
   ·have hne:f.err≠0:=by
     have h:=W
     simpa using h
    rw[a8 hne]at hk2;have A:=F (.inl (by have:=drop_eq_nil_iff.1 hk2;omega));refine aC ?_;rw[<-A];exact oT (H':=Hs (k+1)) (.inr Z) Z (Fin.pops' [(926,tF f)] H_ (y_ _) (by simp[h6]) (by simp[h6])) ⟨Z,Z⟩
   have he0:f.err=0:=by
    have h:=W
    simpa using h
   have ⟨g1,g2⟩:=OR hst he0 hlt;rw[b7 he0]at hk2;refine aB ?_;exact⟨j,k+1,⟨g2,v_,.inr hck,n,X,hk2⟩,X,hfree _ _ _ _ _ Z Z Z Z Z⟩
 have hge:s.size<=i:=J_ hc1
 have hnil:jZ s n i=[]:=by
  cases n with
  |zero=>rfl
  |succ n=>rw[jZ,a8 X]
 rw[hnil]at hinv;have hkd:=drop_eq_nil_iff.1 hinv;have A:k=m:=X
 refine aP ?_;rw[<-A];exact oT (H':=Hs k) (.inl Z) Z Fin.refl ⟨Z,Z⟩
def K_(f:b6):List PV:=[.int .i64 f.kind,.str f.text,.int .i64 f.pos]
def CL(l:List b6):PV:=.sl (l.map K_)
def lL(l:List b6):List (List AV):=l.map λf=>(K_ f).map AV.pv
theorem xL(l):(lL l).length=l.length:=j6 _
theorem CG(l)(f):lL l++[(K_ f).map AV.pv]=lL (l++[f]):=by rw[lL,lL,map_append];rfl
theorem cS(H)(l):∀r∈lL l,∀a∈r,Clo H a:=by intro r c a b;obtain ⟨d,_,rfl⟩:=mem_map.1 c;obtain ⟨p,_,rfl⟩:=mem_map.1 b;simp
instance(H)(l):W_ (H) (lL l):=⟨cS H l⟩
theorem sK{H}(e:(H.get 921).isSome=true)(f:(H.get 923).isSome=true):∀r∈tA.rows,∀a∈r,Clo H a:=by intro r c a d;simp[tA,bx,r6]at c;subst c;rw[r6]at d;subst d;simp[e,f]
theorem sJ(H)(s):∀r∈(tS s).rows,∀a∈r,Clo H a:=by intro r c a b;simp[tS,bx,r6]at c;subst c;rw[r6]at b;subst b;simp
instance(H)(s):W_ (H) ((tS s).rows):=⟨sJ H s⟩
def kI:List b6->List b6->List b6×Int×Int
 |acc,[]=>(acc,0,0)
 |acc,f::r=>if f.err≠0 then([],f.err,f.pos)else if acc.length=5000 then([],2,f.pos)else kI (acc++[f]) r
def fJ(s:B_):List b6×Int×Int:=if 20000<s.size then([],2,-1)else kI [] (jZ s (s.size+1) 0)
def sT(ds:List b6)(k:Nat):Bool:=match ds[k]? with
 |some f=>decide (f.err=0)&&!decide (k=5000)
 |none=>true
theorem MN{b}:∀ {k},k<=b.length->(∀j,j<k->sT b j=true)->kI [] b=kI (b.take k) (b.drop k)
 |0,_,_=>rfl
 |k+1,c,h=>by
  rw[MN (Nat.le_of_succ_le c) (λj hj=>h j (by omega))];have d:=drop_eq_getElem_cons c;have a:=h k (lt_succ_self k);rw[sT,m_ c]at a;simp[k_,j0,r8,p_]at a;have htl:(b.take k).length=k:=G_
  rw[d,kI,a8 (λh=>h a.1),a8 X,take_add_one,m_ _];rfl
theorem A7(s):∀(n i),(jZ s n i).length<=n
 |0,_=>l7 _
 | n+1,i=>by
  rw[jZ]
  split
  ·split
   ·exact Nat.le_succ_of_le (A7 s n _)
   split
   ·exact Nat.succ_le_succ (A7 s n _)
   simp_all
  simp_all
def kL(s:B_)(L:List b6)(a:AV)(e p:Int):aF:=[(905,⟨L.length,3,189,lL L⟩),(5,bx 1 185 [.osl 905 L.length 0 L.length]),(924,tA),(923,tC),(921,tS s),(4,bx 1 3 [iv p]),(3,bx 1 25 [iv e]),(2,bx 1 185 [a])]
theorem Kl(s)(L)(f)(a)(e p):kL s (L++[f]) a e p=[(905,⟨L.length+1,3,189,lL (L++[f])⟩),(5,bx 1 185 [.osl 905 (L.length+1) 0 (L.length+1)]),(924,tA),(923,tC),(921,tS s),(4,bx 1 3 [iv p]),(3,bx 1 25 [iv e]),(2,bx 1 185 [a])]:=by simp[kL]
def vD:cY:=[(2,.ref 2 0 0 0),(3,.ref 3 0 0 0),(4,.ref 4 0 0 0),(5,.ref 5 0 0 0)]
theorem J8{a}{k}{f}(h:a[k]?=some f):sT a k=(decide (f.err=0)&&!decide (k=5000)):=by rw[sT,h]
theorem Wy(s:B_)(H:aF)(z_:s.size<2^40):RC 203 [sv s] (.tup [.pv (CL (fJ s).1),iv (fJ s).2.1,iv (fJ s).2.2]) H:=by
 refine Pu<|Bd func203 Z ntmps203<|O (kl 2 Wf)<|Y (kl 3 Xr)<|V (kl 4 Xq)<|S<|O aA<|Y (gE U_)<|V iP<|Cn ?_ ?_<;>intro hc1
 ·have e:fJ s=([],2,-1):=by rw[fJ,b7 (by have:=b9 hc1;omega)]
  rw[e];refine Sr<|Uu (jA nS)<|Uu (jA sizeOf25)<|Uu (jA sizeOf3)<|Zz<|aC<|lX (H':=[]) (.inr Z) Z (iK Z nB Z Z Z Z) (iK Z mV Z Z Z Z) (iK Z M_ Z Z Z Z) (Fin.wk (by simp) T_ T_) Qq
 have f_:¬ 20000<s.size:=by have:=b_ hc1;omega
 obtain ⟨ds,hds⟩:∃ds,ds=jZ s (s.size+1) 0:=X_;have y_:fJ s=kI [] ds:=by rw[fJ,a8 f_,hds]
 refine aB<|Sz (kl 5 Dl)<|S<|O aA<|V (kc call254 (bp s _ Z Z Z (dG.ofL ⟨(by simp_all),(by simp_all),(by simp_all),(by simp_all),T_⟩)))<|aD ?_;refine gG.ent (E':=[(2,.ref 2 0 0 0),(3,.ref 3 0 0 0),(4,.ref 4 0 0 0),(5,.ref 5 0 0 0),(11,.clo 290 [.ref 921 0 0 0,.ref 924 0 0 0])]) (H':=[(905,⟨0,3,189,[]⟩),(5,bx 1 185 [.osl 905 0 0 0]),(924,tA),(923,tC),(921,tS s),(4,bx 1 3 [iv 0]),(3,bx 1 25 [iv 0]),(2,bx 1 185 [.pv (.sl [])])]) ?_ ?_
 ·exact(cL.nz 905 3 189 Z Z ⟨⟨_,Z,(by exact Nz.same (by(simp;rfl)))⟩,⟨_,Z,(by exact Nz.same (by(simp;rfl)))⟩,⟨_,Z,(by exact Nz.same (by(simp;rfl)))⟩,⟨_,Z,(by exact Nz.same (by(simp;rfl)))⟩,⟨_,Z,(by exact Nz.same (by(simp;exact⟨Z,Z⟩)))⟩,T_⟩ ⟨⟨_,Z,Z,Z,Z,(by exact .inr ⟨_,_,rfl,rfl,(by repeat(first|exact trivial|refine⟨(by exact Nz.own),?_⟩))⟩)⟩,⟨_,Z,Z,Z,Z,(by exact .inl ⟨Z,(by exact sK Z Z)⟩)⟩,⟨_,Z,Z,Z,Z,(by exact .inl ⟨Z,(by exact kB _)⟩)⟩,⟨_,Z,Z,Z,Z,(by exact .inl ⟨Z,(by exact sJ _ _)⟩)⟩,⟨_,Z,Z,Z,Z,(by exact .inl ⟨Z,(by simp_all)⟩)⟩,⟨_,Z,Z,Z,Z,(by exact .inl ⟨Z,(by simp_all)⟩)⟩,⟨_,Z,Z,Z,Z,(by exact .inl ⟨Z,(by simp_all)⟩)⟩,T_⟩ T_)
 have hdl:ds.length<=s.size+1:=by rw[hds];exact A7 s _ _
 obtain ⟨j,hj⟩:∃j,j=zA (sT ds) ds.length 0:=X_;have hj1:j<=ds.length:=by have:=(FX (sT ds) ds.length 0).2;omega
 have hj2:∀k,k<j->sT ds k=true:=λk hk=>JJ (sT ds) ds.length 0 k (l7 _) (by omega);have A_:j<ds.length->sT ds j=false:=λh=>by have:=xE (sT ds) ds.length 0 (by omega);rwa [<-hj]at this
 have t:=MN hj1 hj2;refine B4 (id:=904) (p:=12) vD Z call290 Z Z (by simp[vD];exact⟨Z,Z,Z,Z⟩) ?_;intro x hx1 A u_ v_ W R;have hround:∀(k:Nat) (d:b6),ds[k]?=some d->k<=j ->
   dH Tryz.prog (.yld 904 0) [.agg ((KU d).map .pv)] ((904,LR x vD)::(926,tF d)::kL s (ds.take k) (.pv (.sl [])) 0 0) (λr H'=>r=bv (sT ds k)/\H'=(if sT ds k then(904,LR x vD)::(926,tF d)::kL s (ds.take (k+1)) (.pv (.sl [])) 0 0 else(904,LR (left x .ret) vD)::(926,tF d)::kL s (ds.take k) (.pv (.sl [])) (if d.err≠0 then d.err else 2) d.pos)):=by
  intro k d u D;have hok:=J8 u;have hkl:k<ds.length:=(m9.1 u).1;have htl:(ds.take k).length=k:=by rw[q9];omega
  have hnx:ds.take (k+1)=ds.take k++[d]:=by rw[List.take_add_one,u];rfl
  refine .inl ⟨904,0,Z,?_⟩;refine LJ [(2,.ref 2 0 0 0),(3,.ref 3 0 0 0),(4,.ref 4 0 0 0),(5,.ref 5 0 0 0),(6,.ref 907 0 0 0)] ((907,tF d)::(926,tF d)::kL s (ds.take k) (.pv (.sl [])) 0 0) hx1 A u_ v_ W R Z Z Z ?_ ?_
  ·refine Rd (kl 907 Dp)<|Uu (jA sizeOf266)<|Zz ?_;exact(cL.wk (Ea<|Ea<|Ea<|Ea<|Ea<|T_) (Hc (nT (by simp[vD];exact⟨Z,Z,Z,Z⟩))<|Hc (AB _ _)<|Hc (AB _ _)<|Hc (cS _ _)<|Ha<|Hc (sK Z Z)<|Hc (kB _)<|Hc (sJ _ _)<|Hb<|Hb<|Hb<|T_) ⟨Z,Z,Z,Z,Z,Z,Z,Z,Z,Z,T_⟩)
  refine aD<|S<|aD<|O (bA tB)<|Y (bQ mV)<|Y zB<|Da<|Cn ?_ ?_<;>intro y
  ·have v:d.err≠0:=by have h:=y;rw[r8,p_]at h;exact h
   have h0:sT ds k=false:=by rw[hok,decide_eq_false v];rfl
   rw[h0,a8 (by decide),b7 v];refine S<|aM a7<|Cr [907] (λ_ h=>fh tB h)<|Cr [907] (λ_ h=>lh mV h)<|Cr [907] (λ_ h=>fh oO h)<|Cr [907] (λ_ h=>fh PK h)<|Cr [907] (λ_ h=>lh M_ h)<|Cp [2] (λ_ h=>sa nS h)<|Cp [3] (λ_ h=>sa sizeOf25 h)<|Cp [4] (λ_ h=>sa sizeOf3 h)<|bG<|Kr<|aC ?_;exact⟨(926,tF d)::kL s (ds.take k) (.pv (.sl [])) d.err d.pos,(cL.wk T_ (Hc (nT (by simp[vD];exact⟨Z,Z,Z,Z⟩))<|Hc (AB _ _)<|Hc (cS _ _)<|Ha<|Hc (sK Z Z)<|Hc (kB _)<|Hc (sJ _ _)<|Hb<|Hb<|Hb<|T_) ⟨Z,Z,Z,Z,Z,Z,Z,Z,Z,Z,T_⟩),Z,Z⟩
  have v:d.err=0:=by have h:=y;rw[Bool.not_eq_false',j0]at h;exact h
  refine O (bQ nB)<|Y (by exact dS Z cP Z Z Z)<|Y cD<|Da<|Cn ?_ ?_<;>intro hc3
  ·have w:k=5000:=by have:=b9 hc3;omega
   have h0:sT ds k=false:=by rw[hok,decide_eq_true v,decide_eq_true w];rfl
   rw[h0,a8 (by decide),a8 (λh=>h v)];refine S<|aM a7<|Cr [907] (λ_ h=>fh oO h)<|Cr [907] (λ_ h=>fh PK h)<|Cr [907] (λ_ h=>lh M_ h)<|Cp [2] (λ_ h=>sa nS h)<|Cp [3] (λ_ h=>sa sizeOf25 h)<|Cp [4] (λ_ h=>sa sizeOf3 h)<|bG<|Kr<|aC ?_;exact⟨(926,tF d)::kL s (ds.take k) (.pv (.sl [])) 2 d.pos,(cL.wk T_ (Hc (nT (by simp[vD];exact⟨Z,Z,Z,Z⟩))<|Hc (AB _ _)<|Hc (cS _ _)<|Ha<|Hc (sK Z Z)<|Hc (kB _)<|Hc (sJ _ _)<|Hb<|Hb<|Hb<|T_) ⟨Z,Z,Z,Z,Z,Z,Z,Z,Z,Z,T_⟩),Z,Z⟩
  have w:¬ k=5000:=by have:=b_ hc3;omega
  have h0:sT ds k=true:=by rw[hok,decide_eq_true v,decide_eq_false w];rfl
  rw[h0,b7 Z,hnx,Kl];refine aB<|Rd (bQ nB)<|Y (bA oO)<|Y (wQ iT sizeOf189)<|Y (by exact aK [K_ d] Z iA Z Z Z Z Z R_)<|Y (by exact cA (ps:=[K_ d]) Z iA vw Z Z Z Z Z (xL _) Z R_ (m:=1) Z (by omega) Z (CG (ds.take k) d))<|Uu (jA nS)<|Zz ?_;exact⟨(926,tF d)::[(905,⟨(ds.take k).length+1,3,189,lL (ds.take k++[d])⟩),(5,bx 1 185 [.osl 905 ((ds.take k).length+1) 0 ((ds.take k).length+1)]),(924,tA),(923,tC),(921,tS s),(4,bx 1 3 [iv 0]),(3,bx 1 25 [iv 0]),(2,bx 1 185 [.pv (.sl [])])],(cL.wk T_ (Hc (nT (by simp[vD];exact⟨Z,Z,Z,Z⟩))<|Hc (AB _ _)<|Hc (cS _ _)<|Ha<|Hc (sK Z Z)<|Hc (kB _)<|Hc (sJ _ _)<|Hb<|Hb<|Hb<|T_) ⟨Z,Z,Z,Z,Z,Z,Z,Z,Z,Z,T_⟩),Z,Z⟩
 rcases Nat.lt_or_ge j ds.length with q|hge
 ·obtain ⟨f,hf⟩:=aS q;have hbad:=A_ q;have Q:ds.drop j=f::ds.drop (j+1):=by
   rw[List.drop_eq_getElem_cons q];rw[m_ q]at hf;cases hf;rfl
  have d_:fJ s=([],(if f.err≠0 then f.err else 2),(f.pos:Int)):=by
   rw[y_,t,Q,kI]
   split
   ·rfl
   rename_i v;have T:f.err=0:=by
    by_cases h:f.err=0
    ·exact h
    exact absurd h v
   rw[J8 hf,decide_eq_true T,Bool.true_and,Bool.not_eq_false',j0]at hbad;rw[b7 (by rw[q9];omega)]
  rw[d_];refine(LO s (.yld 904 0) (λk=>if k<=j then(904,LR x vD)::kL s (ds.take k) (.pv (.sl [])) 0 0 else(904,LR (left x .ret) vD)::kL s (ds.take j) (.pv (.sl [])) (if f.err≠0 then f.err else 2) f.pos) (sT ds) (j+1) z_ (λk=>?_) (λk=>?_) (λk=>?_) (λk=>?_) (λk=>?_) (λk=>?_) (by rw[<-hds];exact q) (λk hk=>hj2 k (by omega)) (.inr ⟨Nat.succ_pos _,by rw[Nat.add_sub_cancel];exact hbad⟩) ?_).mono ?_
  ·split<;>rfl
  ·split<;>rfl
  ·split<;>rfl
  ·split<;>rfl
  ·split
   ·exact(dG.ofL ⟨(by exact nT (by simp[vD];exact⟨Z,Z,Z,Z⟩)),(by exact cS _ _),(by(simp;rfl)),(by exact sK Z Z),(by exact kB _),(by exact sJ _ _),(by(simp;done)),(by(simp;done)),(by(simp;done)),T_⟩)
   exact(dG.ofL ⟨(by exact nT (by simp[vD];exact⟨Z,Z,Z,Z⟩)),(by exact cS _ _),(by(simp;rfl)),(by exact sK Z Z),(by exact kB _),(by exact sJ _ _),(by(simp;done)),(by(simp;done)),(by(simp;done)),T_⟩)
  ·split<;>(simp;rfl)
  ·rw[<-hds];intro k d u hk;have hr:=hround k d u (by omega);rw[b7 (by omega)];by_cases D:k=j
   ·subst D;rw[hf]at u;cases u;rw[hbad,a8 (by decide)]at hr;rw[a8 (by omega),hbad];exact dH.congrG hr (λj=>mR (by decide) j) (λj=>mR (by decide) j)
   have hok:=hj2 k (by omega);rw[hok,b7 rfl]at hr;rw[b7 (by omega),hok];exact dH.congrG hr (λj=>mR (by decide) j) (λj=>mR (by decide) j)
  rintro r H' ⟨rfl,rfl⟩;rw[a8 (by omega)];refine⟨left x .ret,_,Z,by simp[left],Z,λz=>?_⟩;show NH _ _ _ _ _ _ _;refine lX (H':=[]) (.inr Z) Z (iK Z nB Z Z Z Z) (iK Z mV Z Z Z Z) (iK Z M_ Z Z Z Z) (Fin.wk (by simp) T_ T_) Qq
 have P:j=ds.length:=Nat.le_antisymm hj1 hge;rw[P,List.take_length,List.drop_length]at t;rw[y_,t,kI];refine(LO s (.yld 904 0) (λk=>(904,LR x vD)::kL s (ds.take k) (.pv (.sl [])) 0 0) (sT ds) ds.length z_ (λk=>rfl) (λk=>rfl) (λk=>rfl) (λk=>rfl) (λk=>(dG.ofL ⟨(by exact nT (by simp[vD];exact⟨Z,Z,Z,Z⟩)),(by exact cS _ _),(by(simp;rfl)),(by exact sK Z Z),(by exact kB _),(by exact sJ _ _),(by(simp;done)),(by(simp;done)),(by(simp;done)),T_⟩)) (λk=>by simp;rfl) (by rw[<-hds];exact g_ _) (λk hk=>hj2 k (by omega)) (.inl (by rw[<-hds])) ?_).mono ?_
 ·rw[<-hds];intro k d u hk;have hr:=hround k d u (by omega);have hok:=hj2 k (by omega);rw[hok,b7 rfl]at hr;rw[hok];exact dH.congrG hr (λj=>mR (by decide) j) (λj=>mR (by decide) j)
 rintro r H' ⟨rfl,rfl⟩;rw[List.take_length];refine⟨x,_,Z,by rw[hx1];decide,Z,λz=>?_⟩;rw[A];refine O (bQ nB)<|Uu (jA nS)<|Uu (jA sizeOf25)<|Uu (jA sizeOf3)<|Zz<|aC ?_;refine lX (H':=[]) (.inr Z) Z (iK Z nB Z Z Z Z) (iK Z mV Z Z Z Z) (iK Z M_ Z Z Z Z) (Fin.fz (r':=.tup [.pv (CL ds),iv 0,iv 0]) (id:=905) (ob:=⟨ds.length,3,189,lL ds⟩) (ds.map K_) Z (by rw[List.map_map];rfl) (.tup Z (bC (.osl (qs:=ds.map K_) (by rw[r9,List.drop_zero];exact List.take_of_length_le (Nat.le_of_eq (j6 K_)))) (bC (.same (by simp)) (bC (.same (by simp)) kK)))) Z T_ T_) ?_;exact Qq
def EB:List b6->Option (List m7)
 | []=>some []
 |a::_::c::r=>(EB r).map λl=>⟨a.text,c.text⟩::l
 |_=>none
def VJ(l:List b6)(k:Nat):m7:=⟨((l[3*k]?).map b6.text).getD a6,((l[3*k+2]?).map b6.text).getD a6⟩
def fL(l:List b6)(k:Nat):List m7:=(List.range k).map (VJ l)
theorem FB(l)(k):fL l (k+1)=fL l k++[VJ l k]:=by rw[fL,range_succ,map_append];rfl
theorem HB(l)(k):(fL l k).length=k:=by rw[fL,j6,length_range]
def sI(l:List m7):List (List AV):=l.map λt=>(bS t).map AV.pv
theorem HK(l):(sI l).length=l.length:=j6 _
theorem HL(l)(t):sI l++[(bS t).map AV.pv]=sI (l++[t]):=by rw[sI,sI,map_append];rfl
theorem kU(H)(l):∀r∈sI l,∀a∈r,Clo H a:=by intro r c a b;obtain ⟨d,_,rfl⟩:=mem_map.1 c;obtain ⟨p,_,rfl⟩:=mem_map.1 b;simp
instance(H)(l):W_ (H) (sI l):=⟨kU H l⟩
theorem H9:∀(r acc),(kI acc r).1.length<=acc.length+r.length
 | [],acc=>g_ _
 |f::r,acc=>by
  rw[kI]
  split
  ·simp_all
  split
  ·simp_all
  have:=H9 r (acc++[f]);rw[j_,length_singleton]at this;rw[j7];omega
theorem wR(s)(h:s.size<2^40):(fJ s).1.length<549755813888:=by
 unfold fJ
 split
 ·decide
 have a:=H9 (jZ s (s.size+1) 0) [];have h2:=A7 s (s.size+1) 0;rw[length_nil]at a;omega
theorem aR(s:B_):s.data.toList.length=s.size:=rfl
theorem mS{a b:B_}(h:a.data.toList=b.data.toList):a=b:=by cases a with|mk a=>simp_all
theorem gB(s:B_)(i j):(s.extract i j).data.toList=(s.data.toList.drop i).take (j - i):=H_
theorem pX{s}{i}{c}{r}(h:s.data.toList.drop i=c::r):i<s.size/\aY s i=(c.toNat)/\s.data.toList.drop (i+1)=r:=by have ⟨a,b⟩:=SP h;refine⟨by rw[<-aR];grind,by rw[aY,a];rfl,b⟩
theorem IR{s}{i}{c}{r}(h:s.data.toList.drop i=c::r):mT s i=yN (c.toNat):=by have ⟨a,b,_⟩:=pX h;rw[mT,b7 a,b]
theorem wo{s}{i}(h:s.data.toList.drop i=[]):mT s i=0:=by have:=drop_eq_nil_iff.1 h;rw[aR]at this;rw[mT,a8 X]
theorem fK{i}{w r}(h:s.data.toList.drop i=w++r):s.data.toList.drop (i+w.length)=r:=by rw[<-drop_drop,h,drop_left]
theorem vz{k:Nat}{w r}{c:UInt8}(h:s.data.toList.drop i=w++r)(b:w[k]?=some c):s.data.toList.drop (i+k)=c::((w.drop (k+1))++r):=by
 have a:=(m9.1 b).1;have e:w=w.take k++c::w.drop (k+1):=by
  conv=>lhs;rw[<-take_append_drop k w]
  rw[drop_eq_getElem_cons a,(m9.1 b).2]
 have f:s.data.toList.drop i=w.take k++(c::w.drop (k+1)++r):=by
  grind
 have d:=fK f;rw[q9,Nat.min_eq_left X]at d;exact d
theorem zX{i}{w r}(h:s.data.toList.drop i=w++r):s.extract i (i+w.length)=⟨w.toArray⟩:=by
 refine mS ?_
 simp_all
theorem rY{i}:(s.extract i s.size).data.toList=s.data.toList.drop i:=by rw[gB];exact take_of_length_le H_
theorem CX{k}(h:cH k=true):0<k.size/\k.size<=24/\yN (aY k 0)=3/\∀j,j<k.size->(yN (aY k j)=3\/yN (aY k j)=4\/yN (aY k j)=5):=by
 rw[cH,k_,k_,r8,r8,any_eq_false,p_,j0]at h;have ⟨i,l,h3⟩:=h;have a:0<k.size:=by
  rcases eq_zero_or_pos k.size with e|e
  ·refine absurd (mS ?_) l
   simp_all
  exact e
 have f:=λj b=>by
  have:=i j (mem_range.2 b)
  simpa using this
 refine⟨a,X,?_,λj b=>?_⟩
 ·have:=f 0 a
  simpa[il]using this
 have:=f j b;rw[il]at this;by_cases c:yN (aY k j)=3
 ·exact .inl c
 by_cases g:yN (aY k j)=4
 ·exact .inr (.inl g)
 by_cases d:yN (aY k j)=5
 ·exact .inr (.inr d)
 simp[c,g,d]at this
theorem Tw{k}{j}(h:j<k.size):∃c,k.data.toList[j]?=some c/\aY k j=(c.toNat):=by exact⟨_,m_ h,by rw[aY,m_ h];rfl⟩
theorem xt{k:B_}(h:s.data.toList.drop i=k.data.toList++r)(w:cH k=true)(x:∀c r',r=c::r'->yN (c.toNat:Int)≠3/\yN (c.toNat:Int)≠4/\yN (c.toNat:Int)≠5):
  eX s i=(some ⟨1,k,i,0⟩,i+k.size):=by
 have ⟨a,hle,v,b⟩:=CX w;have g:∀j,j<k.size->mT s (i+j)=yN (aY k j):=λj u=>by
  have ⟨c,p,e⟩:=Tw u;rw[IR (vz h p),e]
 have hlen:=by
  have:=congrArg List.length h;rw[q6,j_,aR,aR]at this;omega
 have l:mT s i=3:=by
  have:=g 0 a;rw[Nat.add_zero,v]at this;exact this
 have d:CB s i=i+k.size:=by
  refine zI (uX s) X X (λj h1 h2=>?_) ?_
  ·have:=g (j - i) X;rw[show i+(j - i)=j by omega]at this;rw[uX,this];rcases b (j - i) X with e|e|e<;>rw[e]<;>rfl
  left;have n:=fK h;rw[aR]at n;cases r with
  |nil=>rw[uX,wo n];rfl
  |cons c r' =>
   have ⟨t,o,q⟩:=x c r' Z;rw[uX,IR n,decide_eq_false t,decide_eq_false o,decide_eq_false q];rfl
 have f:=zX h;rw[aR]at f;have m:(⟨k.data.toList.toArray⟩:B_)=k:=mS H_;rw[eX,a8 X,a8 X,b7 l,d,AK,f,m,a8 X]
theorem Qe{s}{i}{r}(h:s.data.toList.drop i=32::r):eX s i=(none,i+1):=by
 have a:mT s i=1:=by rw[IR h];rfl
 rw[eX,b7 a]
theorem bj:∀(v r),nU (v.flatMap qK++34::r)=some (v,(v.flatMap qK).length+1)
 | [],r=>CD
 | b::v,r=>by
  have d:=bj v r;rw[flatMap_cons,append_assoc];by_cases a:b=10
  ·have e:qK b=[92,110]:=by rw[qK,b7 a]
   rw[e];show nU (92::110::(v.flatMap qK++34::r))=_;rw[uO,d,a];show some _=some _
   grind
  by_cases c:b=34\/b=92
  ·have e:qK b=[92,b]:=by rw[qK,a8 a,b7 c]
   have g:sV b=some b:=by
    rcases c with e|e<;>subst e<;>rfl
   rw[e];show nU (92::b::(v.flatMap qK++34::r))=_;rw[uO,d,g]
   grind
  have e:qK b=[b]:=by rw[qK,a8 a,a8 c]
  have f:b≠34/\b≠92:=⟨λe=>c (.inl e),λe=>c (.inr e)⟩;rw[e];show nU (b::(v.flatMap qK++34::r))=_;rw[CE f.1 a f.2,d]
  grind
theorem JF{v:B_}(h:s.data.toList.drop i=cW v.data.toList++r):eX s i=(some ⟨3,v,i,0⟩,i+(cW v.data.toList).length):=by
 have b:s.data.toList.drop i=34::(v.data.toList.flatMap qK++34::r):=by rw[h,cW];simp
 have c:mT s i=7:=by rw[IR b];rfl
 have d:AM (s.extract i s.size)=(v,(((v.data.toList.flatMap qK).length+1+1:Nat):Int)):=by
  rw[AM,rY,b,drop_succ_cons,drop_zero,bj]
 have e:EX s i=(⟨3,v,i,0⟩,i+(cW v.data.toList).length):=by
  rw[EX,d,b7 X];congr 1;congr 1;rw[l_,cW,j7,j_,length_singleton]
 rw[eX,a8 X,a8 X,a8 X,a8 X,b7 c,e]
def SH(t:m7):List UInt8:=t.key.data.toList++61::cW t.val.data.toList
theorem MM(t):(iQ t).data.toList=SH t:=by rw[iQ,SH];simp
def nG(l:List m7):List UInt8:=l.flatMap λt=>32::SH t
def T1(T:List b6)(l:List m7):Prop:=EB T=some l/\(∀f,f∈T->f.err=0)/\T.length=3*l.length
theorem T1.cons{T}{l}{a b c}(h:T1 T l)(ha:a.err=0)(hb:b.err=0)(hc:c.err=0):T1 (a::b::c::T) (⟨a.text,c.text⟩::l):=by
 have ⟨d,h2,h3⟩:=h;refine⟨by rw[EB,d];rfl,λf hf=>?_,G_⟩
 grind
theorem VH(t)(l):(W3 (t::l)).data.toList=SH t++nG l:=by show bT _ (bs ((t::l).map _))=_;rw[bs,map_map];show (iQ t).data.toList++_=_;rw[MM,flatMap_map];congr 1;congr 1;funext x;show [32]++(iQ x).data.toList=_;rw[MM];rfl
theorem MO:∀(T acc),(∀f,f∈T->f.err=0)->acc.length+T.length<=5000->kI acc T=(acc++T,0,0)
 | [],acc,_,_=>by rw[kI,List.append_nil]
 |f::T,acc,h,b=>by
  rw[j7]at b;rw[kI,a8 (λe=>e (h f List.mem_cons_self)),a8 (by omega),MO T _ (λg a=>h g (List.mem_cons_of_mem _ a)) (by grind),List.append_assoc];rfl
end Go.Proofs.YtopnleflllkbmaaGreatDoor
namespace Go.Abs
def dP(c:UInt8):List UInt8->List (List UInt8)
 | []=>[[]]
 |b::l=>if b=c then[]::dP c l else((b::(dP c l).headD [])::(dP c l).tail)
theorem rA(c)(l):0<(dP c l).length:=by
 cases l with
 |nil=>exact Nat.zero_lt_one
 |cons b l=>rw[dP];all_goals grind
theorem rO{c}:∀ {w},c∉w->dP c w=[w]
 | [],_=>rfl
 |b::w,h=>by
  rw[l9,not_or]at h;rw[dP,a8 (λe=>h.1 e.symm),rO h.2];rfl
theorem jQ{c}{l}:∀ {w},c∉w->dP c (w++c::l)=w::dP c l
 | [],_=>by rw[List.nil_append,dP,b7 rfl]
 |b::w,h=>by
  rw[l9,not_or]at h;rw[List.cons_append,dP,a8 (λe=>h.1 e.symm),jQ h.2];rfl
theorem xM(c):∀l,(dP c l).length=l.count c+1
 | []=>rfl
 |b::l=>by
  have a:=xM c l;rw[dP];by_cases h:b=c
  ·rw[b7 h,j7,a,h,count_cons_self]
  rw[a8 h,j7,length_tail,count_cons_of_ne h];omega
def rD:List UInt8->List (List UInt8)
 | []=>[]
 |b::l=>if b=10 then[10]::rD l else match rD l with
  | []=>[[b]]
  |w::r=>(b::w)::r
theorem H8{l}:∀ {w},10∉w->rD (w++10::l)=(w++[10])::rD l
 | [],_=>rfl
 |b::w,h=>by
  rw[l9,not_or]at h;rw[List.cons_append,rD,a8 (λe=>h.1 e.symm),H8 h.2];rfl
theorem NT:∀ {w},10∉w->w≠[]->rD w=[w]
 | [],_,h=>absurd Z h
 |b::w,h,_=>by
  rw[l9,not_or]at h;rw[rD,a8 (λe=>h.1 e.symm)];by_cases e:w=[]
  ·subst e;rfl
  rw[NT h.2 e]
theorem G7:∀ {ls:List _},(∀w∈ls,10∉w)->rD (ls.flatMap (·++[10]))=ls.map (·++[10])
 | [],_=>rfl
 |w::ls,h=>by
  rw[List.flatMap_cons,List.append_assoc,List.singleton_append,H8 (h w List.mem_cons_self),G7 λx a=>h x (List.mem_cons_of_mem _ a)];rfl
theorem yE{c}:∀ {l},Lib.indexByte l c = -1↔c∉l
 | []=>by simp[Lib.indexByte]
 |b::l=>by
  have ih:=yE (c:=c) (l:=l);have hg:=Lib.indexByte_ge l c;rw[Lib.indexByte];all_goals grind
theorem yF{c}:∀ {l},Lib.indexByte l c ≠ -1->∃w r,l=w++c::r/\c∉w/\Lib.indexByte l c=(w.length)
 | [],h=>absurd Z h
 |b::l,h=>by
  by_cases e:b=c
  ·subst e;exact⟨[],l,Z,by simp,by simp[Lib.indexByte]⟩
  have d:Lib.indexByte l c ≠ -1:=λe2=>h (by rw[Lib.indexByte];simp_all);have ⟨w,r,h1,h2,h3⟩:=yF d;refine⟨b::w,r,F_,G_,?_⟩;rw[Lib.indexByte]
  simp_all
end Go.Abs
namespace Go.Abs
open Go.Lib
theorem wb{d}(h:d<10):digitVal (UInt8.ofNat (48+d))=some d:=by
 have e:(UInt8.ofNat (48+d)).toNat=48+d:=by rw[UInt8.toNat_ofNat'];omega
 rw[digitVal,b7 X];congr 1;omega
theorem DF{b}{d}(a:digitVal b=some d):∀(l) (acc),decFrom acc (l++[b])=(decFrom acc l).map λn=>n*10+d
 | [],acc=>by
  simp[decFrom,a]
 |c::l,acc=>by
  rw[List.cons_append,decFrom,decFrom];cases h:digitVal c with
  |none=>rfl
  |some x=>exact DF a l _
theorem nO(u:Nat):decDigits u≠[]:=by
 rw[decDigits]
 split
 ·simp
 simp
theorem jI(u):decFrom 0 (decDigits u)=some u:=by
 induction u using Nat.strongRecOn with
 |ind u ih =>
  rw[decDigits]
  split
  ·rename_i h;rw[<-nil_append [_],DF (wb h)];simp[decFrom]
  rw[DF (wb (mod_lt u H_))]
  grind
theorem pH{b}:∀(u),b∈decDigits u->48<=b.toNat/\b.toNat<=57:=by
 intro u
 induction u using Nat.strongRecOn with
 |ind u ih =>
  rw[decDigits]
  split
  ·intro a;rw[r6]at a;subst a;rw[UInt8.toNat_ofNat'];omega
  intro a;rcases mem_append.1 a with a|a
  ·grind
  rw[r6]at a;subst a;rw[UInt8.toNat_ofNat'];omega
theorem jX(n)(h:0<=n):itoa n=decDigits n.toNat:=by rw[itoa,a8 X]
theorem Bs{n}(h:0<=n):atoi (itoa n)=some n:=by
 rw[jX n h];have ⟨u,a⟩:∃u,u=n.toNat:=X_;rw[<-a];have hd:=jI u;have hm:∀b∈decDigits u,48<=b.toNat/\b.toNat<=57:=λb=>pH u;cases e:decDigits u with
 |nil=>exact absurd e (nO u)
 |cons b r =>
  have c:decNat (b::r)=some u:=by rw[decNat];simp_all
  unfold atoi;simp[c];have h43:b≠43:=λh=>by simp_all
  split<;>simp_all
  omega
theorem cV:∀ {k u},u<10 ^ k->0<k->(decDigits u).length<=k
 |0,_,_,h=>absurd h (Nat.lt_irrefl 0)
 | k+1,u,h,_=>by
  rw[decDigits]
  split
  ·simp
  rw[j_,List.length_singleton];have b:0<k:=by
   grind
  have a:u / 10<10 ^ k:=X
  have:=cV a b;omega
theorem DM{n}(h:0<=n)(h2:n<1000000000000000000):atoiAll (itoa n)=.ok n:=by
 have a:(itoa n).length<=18:=by
  rw[jX n h];exact cV X H_
 rw[atoiAll_short _ a,Bs h];rfl
end Go.Abs
namespace Go.Proofs.YtopnleflllkbmaaGreatDoor
open Go.Proofs.Tryz
open Go.Abs
variable{s:B_}{α:Type}{o:l6}
def lV(o:l6):List UInt8:=(eF o.kind).data.toList++32::(o.id.data.toList++32::(if o.kind=1 then Lib.itoa o.x++32::Lib.itoa o.y else 40::(bT [32] (bs o.refs)++[41])))
def sD(o:l6):List UInt8:=lV o++nG o.tags
def D1(o:l6):B_:=⟨(sD o).toArray⟩
def fD(o:l6):B_×Int:=if oF o then(if 0<o.tags.length/\(jN o.tags).2≠0 then(a6,(jN o.tags).2)else if 20000<(D1 o).size then(a6,2)else(D1 o,0))else(a6,1)
def atV(s:B_):Int:=match Lib.atoiAll s.data.toList with
 |.ok v=>v
 |.range=>Lib.atoiSat s.data.toList
 |_=>0
def KD:b6:=⟨0,a6,0,0⟩
def vR(T:List b6):List b6:=T++List.replicate (4 - T.length) KD
def DT(s:B_):Int:=if s=eF 5 then 5 else if s=eF 4 then 4 else if s=eF 3 then 3 else if s=eF 2 then 2 else if s=eF 1 then 1 else 0
def kJ(f:b6):Bool:=decide (f.text=⟨#[41]⟩)&&decide (f.kind=4)
def rK:List b6->List m7
 |a::_::c::r=>⟨a.text,c.text⟩::rK r
 |_=>[]
theorem P4:∀ {T} {l},EB T=some l->rK T=l
 | [],l,h=>by cases h;rfl
 | [_],l,h=>by rw[EB]at h<;>(simp_all)
 | [_,_],l,h=>by rw[EB]at h<;>(simp_all)
 | a::b::c::r,l,h=>by
  rw[EB]at h;cases e:EB r with
  |none=>simp_all
  |some q =>
   rw[e]at h;cases h;rw[rK,P4 e]
def sX(T:List b6):l6 :=if DT ((vR T).getD 0 KD).text=1 then⟨((vR T).getD 1 KD).text,1,atV ((vR T).getD 2 KD).text,atV ((vR T).getD 3 KD).text,[],rK ((vR T).drop 4)⟩
 else if AJ kJ (vR T)<3 then h_
 else⟨((vR T).getD 1 KD).text,DT ((vR T).getD 0 KD).text,0,0,(((vR T).take (AJ kJ (vR T)).toNat).drop 3).map b6.text,rK ((vR T).drop ((AJ kJ (vR T)).toNat+1))⟩
def FL(s:B_)(i:Nat)(r:List UInt8)(T:List b6):Prop:=∀n,r.length<=n->jZ s n i=T
theorem DN{s}{i j}{w r}{f}{T}(d:eX s i=(some f,j))(c:f.err=0)(hi:i<s.size)(hw:0<w.length)(b:FL s j r T):FL s i (w++r) (f::T):=by intro n a;rw[j_]at a;obtain ⟨m,rfl⟩:∃m,n=m+1:=⟨n - 1,X⟩;rw[jZ,b7 hi,d];show f::(if f.err=0 then jZ s m j else[])=_;rw[b7 c,b m X]
theorem uJ{s}{i}{r}{T}(h:s.data.toList.drop i=32::r)(b:FL s (i+1) r T):FL s i (32::r) T:=by intro n a;rw[j7]at a;obtain ⟨m,rfl⟩:∃m,n=m+1:=⟨n - 1,X⟩;rw[jZ,b7 (pX h).1,Qe h];exact b m X
theorem all_nil{s}{i}(h:s.data.toList.drop i=[]):FL s i [] []:=by
 intro n _;have a:¬ i<s.size:=by
  have:=drop_eq_nil_iff.1 h;rw[aR]at this;omega
 cases n with
 |zero=>rfl
 |succ n=>rw[jZ,a8 a]
theorem rC{i}{w r}(h:s.data.toList.drop i=w++r)(hw:0<w.length):i<s.size:=by
 rcases Nat.lt_or_ge i _ with a|a
 ·exact a
 rw[drop_eq_nil_of_le F_]at h;have:=congrArg List.length h;rw[length_nil,j_]at this;omega
def GS(r:List UInt8):Prop:=∀c r',r=c::r'->yN (c.toNat:Int)≠3/\yN (c.toNat:Int)≠4/\yN (c.toNat:Int)≠5
theorem xr:GS []:=λc r' h=>by cases h
theorem lS(r):GS (32::r):=λc r' h=>by cases h;exact⟨E_,E_,E_⟩
theorem JE(r):GS (41::r):=λc r' h=>by cases h;exact⟨E_,E_,E_⟩
theorem mU{s k}{i}{r}{T}(h:s.data.toList.drop i=k.data.toList++r)(a:cH k=true)(c:GS r)(b:FL s (i+k.size) r T):FL s i (k.data.toList++r) (⟨1,k,i,0⟩::T):=by have hp:=(CX a).1;exact DN (xt h a c) Z (rC h F_) F_ b
theorem GH{s}{i}{r}{c}{T}(h:s.data.toList.drop i=c::r)(a:yN (c.toNat)=6)(b:FL s (i+1) r T):FL s i (c::r) (⟨4,⟨#[c]⟩,i,0⟩::T):=by
 have ha:mT s i=6:=by rw[IR h];exact a
 have hx:=zX (w:=[c]) h;have d:eX s i=(some ⟨4,⟨#[c]⟩,i,0⟩,i+1):=by
  rw[eX]
  simp_all
 exact DN (w:=[c]) d Z (pX h).1 Nat.zero_lt_one b
theorem Vb:∀b:UInt8,48<=b.toNat->b.toNat<=57->yN (b.toNat)=4:=by
 intro b a c;have h:∀n:Fin 256,48<=n.val->n.val<=57->yN (n.val)=4:=by decide +kernel
 exact h _ a c
theorem PT{i:Nat}{x:Int}{r:List UInt8}{T:List b6}(h:s.data.toList.drop i=Lib.itoa x++r)(A:0<=x)(v:x<10000000)(t:GS r)(w:FL s (i+(Lib.itoa x).length) r T):FL s i (Lib.itoa x++r) (⟨2,aT x,i,0⟩::T):=by
 have l:=jX x A;have e:0<(Lib.itoa x).length:=by rw[l];exact length_pos_iff.2 (nO _)
 have hle:(Lib.itoa x).length<=7:=by rw[l];exact cV X E_
 have f:∀j,j<(Lib.itoa x).length->mT s (i+j)=4:=λj p=>by
  have q:=m_ p;rw[IR (vz h q)];have o:(Lib.itoa x)[j]∈Lib.decDigits x.toNat:=F_
  have ⟨u,z⟩:=pH _ o;exact Vb _ u z
 have hlen:i+(Lib.itoa x).length<=s.size:=by
  have:=congrArg List.length h;rw[q6,j_,aR]at this;have:=rC h e;omega
 have k:mT s i=4:=f 0 e;have m:=fK h;have d:mT s (i+(Lib.itoa x).length)≠3/\mT s (i+(Lib.itoa x).length)≠4/\mT s (i+(Lib.itoa x).length)≠5:=by
  cases r with
  |nil=>rw[wo m];omega
  |cons c y=>rw[IR m];exact t c y Z
 have g:IM s i=i+(Lib.itoa x).length:=by
  refine zI (OB s) X X (λj v h2=>?_) (.inl ?_)
  ·have:=f (j - i) X;rw[show i+(j - i)=j by omega]at this;rw[OB,this];rfl
  rw[OB,decide_eq_false d.2.1]
 have n:eX s i=(some ⟨2,aT x,i,0⟩,i+(Lib.itoa x).length):=by
  rw[eX,a8 X,a8 X,a8 X,b7 k,g,HA,zX h,decide_eq_false d.1,decide_eq_false d.2.2,decide_eq_false X];rfl
 exact DN n Z (rC h e) e w
theorem TS{s}:∀(l) (i),(∀t,t∈l->cH t.key=true)->s.data.toList.drop i=nG l->∃T,FL s i (nG l) T/\T1 T l
 | [],i,_,h=>⟨[],all_nil h,Z,(λf r=>by cases r),Z⟩
 | t::l,i,g,h=>by
  have k:nG (t::l)=32::(t.key.data.toList++61::(cW t.val.data.toList++nG l)):=by
   rw[nG,flatMap_cons,SH];simp[nG]
  rw[k]at h |-;have b:=(pX h).2.2;have j:=fK b;have a:=(pX j).2.2;have v:=fK a;have ⟨T,o,u⟩:=TS l _ (λt p=>g t (mem_cons_of_mem _ p)) v;have d:0<(cW t.val.data.toList).length:=by rw[cW,j7];omega
  have q:=DN (JF a) Z (rC a d) d o;have n:=GH j (Z) q;have m:=mU b (g t mem_cons_self) (λc r' e=>by cases e;exact⟨E_,E_,E_⟩) n;exact⟨_,uJ h m,T1.cons u Z Z Z⟩
theorem GC{o}(h:oF o=true):o.kind=1\/o.kind=2\/o.kind=3\/o.kind=4\/o.kind=5:=by have:=Ar h;omega
theorem A3{k}(h:k=1\/k=2\/k=3\/k=4\/k=5):cH (eF k)=true/\DT (eF k)=k:=by
 rcases h with rfl|rfl|rfl|rfl|rfl
 ·exact⟨Z,Z⟩
 ·exact⟨Z,Z⟩
 ·exact⟨Z,Z⟩
 ·exact⟨Z,Z⟩
 exact⟨Z,Z⟩
theorem tY{o}(h:oF o=true):∀s∈o.refs,cH s=true:=λs d=>by
 rw[oF,k_,k_,r8,r8]at h;have ⟨i,c⟩:=s8.1 d;have b:=(m9.1 c).1;have a:=any_eq_false.1 h.2.1 i (mem_range.2 b);rw[uN,c]at a;simp[MW,Bool.or_eq_true,not_or,Bool.not_eq_true,Bool.not_eq_false']at a;exact a.2
theorem ir{o}(h:oF o=true):(0<=o.x/\o.x<1048576)/\(0<=o.y/\o.y<1048576)/\(o.kind=1->o.refs=[])/\(o.kind≠1->o.x=0/\o.y=0):=by
 rw[oF,k_]at h;unfold SW at h
 split at h
 ·rename_i a;rw[ZR]at h;simp only[k_,j0]at h;refine⟨X,X,λ_=>length_eq_zero_iff.1 X,λe=>absurd a e⟩
 rename_i a
 split at h<;>simp[k_,j0]at h<;>exact⟨X,X,λe=>absurd e a,λ_=>by omega⟩
theorem TR{s:B_}:∀(l:List B_) (i:Nat) (r:List UInt8) (T:List b6),(∀k,k∈l->cH k=true)->s.data.toList.drop i=l.flatMap (λk=>32::k.data.toList)++r->GS r ->
  FL s (i+(l.flatMap λk=>32::k.data.toList).length) r T->∃R:List b6,FL s i (l.flatMap (λk=>32::k.data.toList)++r) (R++T)/\R.map b6.text=l/\∀f∈R,f.kind=1/\f.err=0
 | [],i,r,T,_,h,_,d=>⟨[],d,Z,(λf o=>by cases o)⟩
 | k::l,i,r,T,m,h,j,d=>by
  have q:(k::l).flatMap (λk=>32::k.data.toList)++r=32::(k.data.toList++(l.flatMap (λk=>32::k.data.toList)++r)):=by
   simp_all
  have g:((k::l).flatMap λk=>32::k.data.toList).length=1+k.size+(l.flatMap λk=>32::k.data.toList).length:=by
   rw[flatMap_cons,j_,j7,aR];omega
  rw[q]at h |-;have n:=(pX h).2.2;have p:=fK n;rw[aR]at p;have ⟨R,t,e1,e2⟩:=TR l (i+1+k.size) r T (λx u=>m x (mem_cons_of_mem _ u)) p j (by rw[g]at d;rw[show i+1+k.size+(l.flatMap _).length=i+(1+k.size+(l.flatMap λk=>32::k.data.toList).length)by omega];exact d);have e:GS (l.flatMap (λk=>32::k.data.toList)++r):=by
   cases l with
   |nil=>exact j
   |cons a l=>exact lS _
  refine⟨⟨1,k,i+1,0⟩::R,uJ h (mU n (m k mem_cons_self) e t),F_,λf o=>?_⟩
  grind
theorem yC(k)(l):bT [32] (bs (k::l))=k.data.toList++l.flatMap (λk=>32::k.data.toList):=by rw[bs,map_cons,bT,flatMap_map];rfl
theorem Lc{p}{c:α}{B}:∀ {A},(∀a,a∈A->p a=false)->p c=true->AJ p (A++c::B)=(A.length):=by
 intro A hA hc;have h:(A++c::B).findIdx? p=some A.length:=by
  grind
 rw[AJ,h]
theorem QA(l):GS (nG l):=by
 cases l with
 |nil=>exact xr
 |cons t l=>exact lS _
theorem iu{x}(h:0<=x)(b:x<1000000000000000000):atV (aT x)=x:=by show (match Lib.atoiAll (Lib.itoa x)with|.ok v=>v|.range=>_|_=>0)=x;rw[DM h b]
theorem VS{o}(h:oF o=true)(d:o.kind≠1):∃k l,o.refs=k::l:=by
 have a:=GC h;rw[oF,k_,r8,NX,vU]at h;have c:=h.1;simp only[q8,Bool.not_eq_false',p_]at c;have b:=c.1.2;have hl:1<=EZ o.kind:=by
  rcases a with e|e|e|e|e
  ·exact absurd e d
  ·rw[e];decide
  ·rw[e];decide
  ·rw[e];decide
  rw[e];decide
 cases e:o.refs with
 |nil=>rw[e]at b;exact absurd (show (([].length:Nat):Int)<EZ _ by show 0<_;omega) b
 |cons k l=>exact⟨k,l,Z⟩
theorem ug{T}(h:4<=T.length):vR T=T:=by rw[vR,show 4 - T.length=0 by omega,replicate_zero,append_nil]
theorem WK(o):(D1 o).data.toList.drop 0=sD o:=rfl
theorem PC{i}{k x y}{r}{t}(f:o.id=i)(e:o.kind=k)(b:o.x=x)(d:o.y=y)(a:o.refs=r)(c:o.tags=t):(⟨i,k,x,y,r,t⟩)=o:=by subst f e b d a c;rfl
theorem Hg(B:oF o=true):∃T,FL (D1 o) 0 (sD o) T/\(∀f,f∈T->f.err=0)/\T.length<=5000/\sX T=o:=by
 have ⟨hr,ht,o_,E,_⟩:=BW B;have ⟨w,v_,hn,hz⟩:=ir B;have ⟨A_,G⟩:=A3 (GC B);have m:∀t,t∈o.tags->cH t.key=true:=λt h=>((xH.1 o_).1 t h).1;have v:=WK o;by_cases i:o.kind=1
 ·have e:sD o=(eF o.kind).data.toList++32::(o.id.data.toList++32::(Lib.itoa o.x++32::(Lib.itoa o.y++nG o.tags))):=by
   rw[sD,lV,b7 i];simp
  rw[e]at v |-;have r:=fK v;rw[aR]at r;have y:=(pX r).2.2;have n:=fK y;rw[aR]at n;have z:=(pX n).2.2;have F:=fK z;have u:=(pX F).2.2;have c_:=fK u;have ⟨T,u_,L,N,r3⟩:=TS o.tags _ m c_;have b:=mU v A_ (lS _) (uJ r (mU y E (lS _) (uJ n (PT z w.1 X (lS _) (uJ F (PT u v_.1 X (QA _) u_))))));refine⟨_,b,λf g=>?_,?_,?_⟩
  ·simp only[l9]at g;rcases g with rfl|rfl|rfl|rfl|g
   ·rfl
   ·rfl
   ·rfl
   ·rfl
   exact N f g
  ·simp only[j7];omega
  rw[sX,ug (by simp only[j7];omega)];simp only[getD_cons_zero,getD_cons_succ,drop_succ_cons,drop_zero];rw[G,b7 i,P4 L,iu w.1 X,iu v_.1 X];exact PC Z i Z Z (hn i) Z
 have ⟨k,l,q⟩:=VS B i;have s:=tY B;rw[q]at s;have e:sD o=(eF o.kind).data.toList++32::(o.id.data.toList++32::(40::(k.data.toList++(l.flatMap (λk=>32::k.data.toList)++41::nG o.tags)))):=by
  rw[sD,lV,a8 i,q,yC];simp
 rw[e]at v |-;have r:=fK v;rw[aR]at r;have y:=(pX r).2.2;have n:=fK y;rw[aR]at n;have z:=(pX n).2.2;have F:=(pX z).2.2;have u:=fK F;rw[aR]at u;have c_:=fK u;have h8:=(pX c_).2.2;have ⟨T,u_,L,N,r3⟩:=TS o.tags _ m h8;have Q:=GH c_ E_ u_;have ⟨R,hR,q1,W⟩:=TR l _ _ _ (λx w=>s x (mem_cons_of_mem _ w)) u (JE _) Q;have K:GS (l.flatMap (λk=>32::k.data.toList)++41::nG o.tags):=by
  cases l with
  |nil=>exact JE _
  |cons a l=>rw[flatMap_cons];exact lS _
 have b:=mU v A_ (lS _) (uJ r (mU y E (lS _) (uJ n (GH z E_ (mU F (s k mem_cons_self) K hR)))));have hRl:R.length=l.length:=by rw[<-q1,j6]
 have hrl:o.refs.length=l.length+1:=by rw[q,j7]
 refine⟨_,b,λf g=>?_,?_,?_⟩
 ·simp only[l9,mem_append]at g;rcases g with rfl|rfl|rfl|rfl|g|rfl|g
  ·rfl
  ·rfl
  ·rfl
  ·rfl
  ·exact(W f g).2
  ·rfl
  exact N f g
 ·simp only[j7,j_];omega
 have ⟨A,I⟩:∃A:List b6,A=⟨1,eF o.kind,0,0⟩::⟨1,o.id,0+(eF o.kind).size+1,0⟩::⟨4,⟨#[40]⟩,0+(eF o.kind).size+1+o.id.size+1,0⟩::⟨1,k,0+(eF o.kind).size+1+o.id.size+1+1,0⟩::R:=X_;have H:A.length=R.length+4:=by rw[I];rfl
 have e_:∀a,a∈A->kJ a=false:=by
  intro a D;rw[I]at D;simp only[l9]at D;rcases D with rfl|rfl|rfl|rfl|D
  ·rw[kJ,decide_eq_false (show ¬ ((1:Int)=4)by decide),Bool.and_false]
  ·rw[kJ,decide_eq_false (show ¬ ((1:Int)=4)by decide),Bool.and_false]
  ·rfl
  ·rw[kJ,decide_eq_false (show ¬ ((1:Int)=4)by decide),Bool.and_false]
  rw[kJ,(W a D).1,decide_eq_false (show ¬ ((1:Int)=4)by decide),Bool.and_false]
 have p:∀c:b6,(A++c::T).drop (A.length+1)=T:=λc=>by
  rw[show A++c::T=(A++[c])++T by simp,show A.length+1=(A++[c]).length by simp,drop_left]
 have w:=λj=>Lc (p:=kJ) (c:=⟨4,⟨#[41]⟩,j,0⟩) (B:=T) e_ Z;have P:∀j,(⟨1,eF o.kind,0,0⟩::⟨1,o.id,0+(eF o.kind).size+1,0⟩::⟨4,⟨#[40]⟩,0+(eF o.kind).size+1+o.id.size+1,0⟩::⟨1,k,0+(eF o.kind).size+1+o.id.size+1+1,0⟩::(R++⟨4,⟨#[41]⟩,j,0⟩::T):List b6)=A++⟨4,⟨#[41]⟩,j,0⟩::T:=λj=>by rw[I];rfl
 rw[sX,P,ug (by rw[j_,H];omega),w,a8 (by rw[I];show ¬ DT (eF o.kind)=1;rw[G];exact i),a8 (by rw[H];omega),l_,take_left,p,P4 L];have ⟨z_,y_⟩:=hz i;refine PC ?_ ?_ z_ y_ ?_ Z;all_goals simp_all
theorem Rc(f:α->List _)(l:List _):l.map (λe=>(f e).map AV.pv)=(l.map f).map (·.map .pv):=H_
def nm(i:Nat):B_:=⟨#[110,49+UInt8.ofNat i]⟩
def a_(l:List UInt8):B_:=⟨l.toArray⟩
theorem cG(l):(a_ l).data.toList=l:=rfl
theorem fQ(s):a_ s.data.toList=s:=mS (cG _)
theorem bZ(l):(a_ l).size=l.length:=rfl
def uS(s:B_):l6×Int:=if 20000<s.size then(h_,2)else if(fJ s).2.1=0/\fD (sX (fJ s).1)=(s,0)then(sX (fJ s).1,0)else(h_,5)
theorem PD{o}(h:(fD o).2=0):oF o=true/\fD o=(D1 o,0)/\(D1 o).size<=20000:=by
 rw[fD]at h |-
 grind
theorem mm{o}(h:(fD o).2=0):uS (fD o).1=(o,0):=by
 have ⟨c,ht,hs⟩:=PD h;have ⟨T,b,a,h2,h3⟩:=Hg c;have hlex:fJ (D1 o)=(T,0,0):=by
  rw[fJ,a8 X,b _ (by exact le_succ _),MO T _ a F_,nil_append]
 rw[uS]
 simp_all
def wPut:List UInt8:=[112,117,116]
def I6:List UInt8:=[109,111,118,101]
def A5:List UInt8:=[116,97,103]
def I0:List UInt8:=[114,101,102,115]
def I9:List UInt8:=[100,114,111,112]
def CC:List UInt8:=[115,112,108,105,116]
def I7:List UInt8:=[106,111,105,110]
def gM(e:b8):List (List UInt8) :=if e.op=2 then[I6,e.id.data.toList,Lib.itoa e.x,Lib.itoa e.y]else if e.op=3 then[A5,e.id.data.toList,e.key.data.toList,cW e.val.data.toList]
 else if e.op=4 then I0::e.id.data.toList::bs e.refs else if e.op=5 then[I9,e.id.data.toList]
 else if e.op=6 then[CC,e.id.data.toList,e.node.data.toList,e.other.data.toList]else[I7,e.id.data.toList,e.other.data.toList]
def fM(e:b8):List UInt8:=if e.op=1 then wPut++32::(fD e.obj).1.data.toList else bT [32] (gM e)
def fR(e:b8):Int:=if e.op=1 then(fD e.obj).2 else 0
def rJ:List UInt8->List b8->List UInt8×Int
 |acc,[]=>(acc,0)
 |acc,e::r=>if fR e≠0\/20000<(acc++(fM e++[10])).length then([],2)else rJ (acc++(fM e++[10])) r
def dW(l:List b8):B_×Int:=if lG l then(a_ (rJ [] l).1,(rJ [] l).2)else(a6,1)
def UU(s:List UInt8):Int:=match Lib.atoiAll s with
 |.ok v=>v
 |_ => -1
def NZ:b8:=⟨0,a6,a6,a6,0,0,a6,a6,[],h_⟩
def EH(w:List (List UInt8))(word rest:List UInt8):b8 :=if word=wPut then⟨1,a6,a6,a6,0,0,a6,a6,[],(uS (a_ rest)).1⟩
 else if word=I6/\w.length=4 then⟨2,a_ (w.getD 1 []),a6,a6,UU (w.getD 2 []),UU (w.getD 3 []),a6,a6,[],h_⟩
 else if word=A5/\3<w.length then(match (fJ (a_ (bT [32] (w.drop 3)))).1 with
  | [f]=>⟨3,a_ (w.getD 1 []),a6,a6,0,0,a_ (w.getD 2 []),f.text,[],h_⟩
  |_=>NZ)
 else if word=I0/\1<w.length then⟨4,a_ (w.getD 1 []),a6,a6,0,0,a6,a6,(w.drop 2).map a_,h_⟩
 else if word=I9/\w.length=2 then⟨5,a_ (w.getD 1 []),a6,a6,0,0,a6,a6,[],h_⟩
 else if word=CC/\w.length=4 then⟨6,a_ (w.getD 1 []),a_ (w.getD 3 []),a_ (w.getD 2 []),0,0,a6,a6,[],h_⟩
 else if word=I7/\w.length=3 then⟨7,a_ (w.getD 1 []),a_ (w.getD 2 []),a6,0,0,a6,a6,[],h_⟩
 else NZ
def nM(s:List UInt8):b8:=EH (dP 32 s) ((dP 32 s).headD []) (s.drop (((dP 32 s).headD []).length+1))
def iD(t:B_):List b8×Int :=if 20000<t.size then([],2)else if dW ((rD t.data.toList).map λs=>nM (Lib.trimSuffix s [10]))=(t,0)then((rD t.data.toList).map λs=>nM (Lib.trimSuffix s [10]),0)else([],5)
theorem WO{k}(f:cH k=true){b}(d:b∈k.data.toList):yN (b.toNat)=3\/yN (b.toNat)=4\/yN (b.toNat)=5:=by
 have ⟨j,c⟩:=s8.1 d;have a:=(m9.1 c).1;have h:=(CX f).2.2.2 j a;have e:aY k j=(b.toNat):=by rw[aY,c];rfl
 rwa [e]at h
theorem mJ{k}(a:cH k=true):32∉k.data.toList/\10∉k.data.toList:=by
 constructor
 ·intro h;have:=WO a h;revert this;decide
 intro h;have:=WO a h;revert this;decide
theorem GD{x}(h:0<=x):32∉Lib.itoa x/\10∉Lib.itoa x:=by
 rw[jX x h];constructor
 ·intro h;have:=(pH _ h).1;revert this;decide
 intro h;have:=(pH _ h).1;revert this;decide
theorem db(l):10∉cW l:=by
 rw[cW];simp only[l9,mem_append,mem_flatMap,q7,or_false,not_or];refine⟨H_,?_,H_⟩;rintro⟨b,_,h⟩;rw[qK]at h
 grind
theorem yB{b}(hb:b≠32):∀ {l},(∀w∈l,b∉w)->b∉bT [32] l
 | [],_,h=>by cases h
 |x::l,hl,h=>by
  rw[bT]at h
  grind
theorem Tq{l}(h:∀t,t∈l->cH t.key=true):10∉nG l:=by
 intro a;have ⟨t,c,a⟩:=mem_flatMap.1 a;rw[SH]at a;simp only[l9,mem_append]at a;rcases a with b|b|b|b
 ·simp_all
 ·exact(mJ (h t c)).2 b
 ·simp_all
 exact db _ b
theorem aAL(b:oF o=true):10∉sD o:=by
 have ⟨hr,ht,c,d,_⟩:=BW b;have ⟨g,f,_,_⟩:=ir b;have a:=λt h=>((xH.1 c).1 t h).1;intro h;rw[sD,lV]at h;simp only[l9,mem_append]at h;rcases h with(h|h|h|h|h)|h
 ·exact(mJ (A3 (GC b)).1).2 h
 ·simp_all
 ·exact(mJ d).2 h
 ·simp_all
 ·split at h
  ·simp only[l9,mem_append]at h;rcases h with h|h|h
   ·exact(GD g.1).2 h
   ·revert h;decide
   exact(GD f.1).2 h
  simp only[l9,mem_append,q7,or_false]at h;rcases h with h|h|h
  ·revert h;decide
  ·refine yB E_ (λw e=>?_) h;obtain ⟨s,i,rfl⟩:=mem_map.1 e;exact(mJ (tY b s i)).2
  revert h;decide
 exact Tq a h
abbrev oB(o:l6):aF:=[(1,bx 6 135 ((bP o).map .pv))]
theorem Rz{l}(h:l≠[])(s):Ig l s=l++32::s.data.toList:=by rw[Ig,a8 h]
theorem aDz(K)(s)(hl:s.size<70368744177663):aU Tryz.prog 287 [.ref 2001 0 0 0,sv s] (qM 0 [] false++K) (λr H'=>r=.tup []/\H'=qM 1 s.data.toList true++K):=by
 have h:=If K 0 [] false s F_
 rwa [b7 rfl]at h
theorem zb(K)(g)(l)(s)(a:l≠[])(b:l.length+s.size<70368744177663):aU Tryz.prog 287 [.ref 2001 0 0 0,sv s] (qM g l true++K) (λr H'=>r=.tup []/\H'=qM (g+2) (l++32::s.data.toList) true++K):=by
 have h:=If K g l true s b
 rwa [a8 a,Rz a]at h
theorem OQ(K)(g)(l)(u)(a:l.length<70368744177664):aU Tryz.prog 133 [.ref 2001 0 0 0] (qM g l u++K) (λr H'=>r=sv ⟨l.toArray⟩/\H'=im g l u++(qM g l u++K)) :=aU.frame (Yj g l u a) Yi (dG.ofL ⟨(TK Z Z),(eM _ _),T_⟩) m3 (λid h=>.inl (by
  simp[im,qM,aF.get]at h |-
  grind))
theorem WJ{o}(a:oF o=true)(h:0<o.tags.length/\(jN o.tags).2≠0):fD o=(a6,(jN o.tags).2):=by rw[fD,b7 a,b7 h]
theorem F3{o}{L}(b:oF o=true)(h:¬ (0<o.tags.length/\(jN o.tags).2≠0))(a:sD o=L)(h2:20000<L.length):fD o=(a6,2):=by
 have hs:(D1 o).size=L.length:=by rw[<-a];rfl
 rw[fD,b7 b,a8 h,b7 X]
theorem F4{o}{L}(b:oF o=true)(h:¬ (0<o.tags.length/\(jN o.tags).2≠0))(a:sD o=L)(h2:¬ 20000<L.length):fD o=(⟨L.toArray⟩,0):=by
 have hs:(D1 o).size=L.length:=by rw[<-a];rfl
 rw[fD,b7 b,a8 h,a8 X,D1,a]
theorem xD{l}(h0:0<l.length)(h:(jN l).2=0):32::(jN l).1.data.toList=nG l/\(jN l).1.size<=20000:=by
 rw[jN]at h |-;by_cases c:sW l=true
 ·rw[b7 c]at h |-;by_cases b:20000<(W3 l).size
  ·simp_all
  rw[a8 b];refine⟨?_,F_⟩;cases l with
  |nil=>simp_all
  |cons t l =>
   rw[VH];rfl
 simp_all
theorem GF:∀l,(l.flatMap λk=>32::k.data.toList).length=l.length+cX l
 | []=>rfl
 |k::l=>by
  have a:=GF l;rw[flatMap_cons,j_,j7,j7,a,aR,cX,cX,map_cons,sum_cons];omega
theorem fT(l):(bT [32] (bs l)).length<=l.length+cX l:=by
 cases l with
 |nil=>exact l7 _
 |cons k l =>
  rw[yC,j_,GF,aR,j7,cX,cX,map_cons,sum_cons];omega
theorem z6{p:Prop}(h:p:=by rw[aR];omega):p:=h
theorem WI(o:l6)(H:aF)(f_:jl o):RC 253 [av (bP o)] (.tup [sv (fD o).1,iv (fD o).2]) H:=by
 refine Pu<|Bd func253 Z ntmps253<|O (kb 1)<|Y aI<|V aI<|S<|O (wQ bW sizeOf135)<|Y (kc call286 (R4 o _ f_))<|V iI<|Cn ?_ ?_<;>intro hc1
 ·have hg:oF o=false:=F_
  have e:fD o=(a6,1):=by rw[fD,a8 F_]
  rw[e];exact O aI<|V aI<|aC<|Ru<|Qq
 have hg:oF o=true:=F_
 have ⟨hr,ht,htg,R,_⟩:=BW hg;have ⟨hx,hy,hn,hz⟩:=ir hg;have y_:=(A3 (GC hg)).1;have hws:=dI y_;have his:=dI R;have hwp:=(CX y_).1;have v_:(eF o.kind).data.toList≠[]:=λe=>by have:=congrArg List.length e;rw[aR,length_nil]at this;omega
 refine aB<|Sz (kl 2001 Xo)<|S ?_;refine gG.ent (E':=[(1,.ref 1 0 0 0),(2,sv a6),(3,iv 0),(4,.ref 2001 0 0 0)]) (H':=[(2002,⟨0,1,5,[]⟩),(2001,NA (.osl 2002 0 0 0) false),(1,bx 6 135 ((bP o).map .pv))]) (Q_ 2002 1 5) ?_;refine gG.ent (E':=[(1,.ref 1 0 0 0),(2,sv a6),(3,iv 0),(4,.ref 2001 0 0 0)]) (H':=qM 0 [] false++oB o) (cL.get (λ_=>rfl) (λj=>mR E_ j))<|Rd (bA eB)<|Y (bQ M_)<|Y (kc call283 (HH o.kind _))<|V (kc call287 (aDz (oB o) (eF o.kind) X))<|O (bA qR)<|Y (bQ N_)<|V (kc call287 (zb (oB o) 1 (eF o.kind).data.toList o.id v_ z6))<|S<|S ?_;have ⟨L1,hL1⟩:∃L,L=(eF o.kind).data.toList++32::o.id.data.toList:=X_;have I:L1≠[]:=F_
 have hl1:L1.length<=49:=by rw[hL1,j_,j7,aR,aR];omega
 rw[<-hL1];by_cases Q:o.kind=1
 ·have Yp:(aT o.x).size<=7:=by rw[<-aR];show (Lib.itoa o.x).length<=7;rw[jX _ hx.1];exact cV X E_
  have siy:(aT o.y).size<=7:=by rw[<-aR];show (Lib.itoa o.y).length<=7;rw[jX _ hy.1];exact cV X E_
  have ⟨P,hL2⟩:∃L,L=L1++32::(aT o.x).data.toList:=X_;have A_:P≠[]:=F_
  have hl2:P.length<=57:=by rw[hL2,j_,j7,aR];omega
  have p2:=zb (oB o) (1+2) L1 (aT o.x) I X;rw[<-hL2]at p2;have ⟨L3,hL3⟩:∃L,L=P++32::(aT o.y).data.toList:=X_;have hn3:L3≠[]:=F_
  have hl3:L3.length<=200000:=by rw[hL3,j_,j7,aR];omega
  have F:=zb (oB o) (1+2+2) P (aT o.y) A_ X;rw[<-hL3]at F;have G:lV o=L3:=by
   rw[lV,b7 Q,hL3,hL2,hL1];show _=(_++32::Lib.itoa o.x)++32::Lib.itoa o.y;simp
  refine Rd (bA eB)<|Y (bQ M_)<|V cD<|Cn ?_ ?_<;>intro W
  ·refine O (bA mK)<|Y (bA mM)<|Y (bQ M_)<|Y (kc lO (pQ o.x X X _))<|V (kc call287 (p2))<|Rd (bA mK)<|Y (bA mL)<|Y (bQ M_)<|Y (kc lO (pQ o.y X X _))<|V (kc call287 (F))<|S<|O (bA gA)<|Y (bQ dF)<|Y (fW dO)<|V iP<|Cn ?_ ?_<;>intro N
   ·have htp:0<o.tags.length:=by have:=b9 N;rw[j6]at this;omega
    refine O (bA gA)<|Y (bQ dF)<|Y (kc call288 (VG o.tags _ f_.2.1))<|Y aA<|Y dK<|Y dK<|Y aI<|V aI<|S<|O aA<|V zB<|Cn ?_ ?_<;>intro o_
    ·have hte:(jN o.tags).2≠0:=by have hq:=o_;rw[r8,p_]at hq;exact hq
     rw[WJ hg ⟨htp,hte⟩];exact O aA<|Y aI<|V aI<|aC<|Ru<|Qq
    have hte:(jN o.tags).2=0:=by have hq:=o_;rw[Bool.not_eq_false',j0]at hq;exact hq
    have hlen2:(L3++32::(jN o.tags).1.data.toList).length<=300000:=by have:=hl3;have:=(xD htp hte).2;rw[j_,j7,aR];omega
    have hLL:sD o=L3++32::(jN o.tags).1.data.toList:=by rw[(xD htp hte).1,sD,G]
    refine aB<|Rd aA<|V (kc call287 (zb (oB o) (1+2+2+2) L3 (jN o.tags).1 hn3 (by have:=hl3;have:=(xD htp hte).2;omega)))<|S<|O (bA pR)<|Y (kc call208 (PG (oB o) ((1+2+2+2)+2) (L3++32::(jN o.tags).1.data.toList) true))<|V iP ?_;refine Cn ?_ ?_<;>intro d_
    ·have hlong:=b9 d_;rw[F3 hg (λh=>h.2 hte) hLL X];exact O aI<|V aI<|aC<|Ru<|Qq
    have hlong:=b_ d_;rw[F4 hg (λh=>h.2 hte) hLL X];exact aB<|O (bA pR)<|Y (kc mX (OQ (oB o) ((1+2+2+2)+2) (L3++32::(jN o.tags).1.data.toList) true (by have:=hlen2;omega)))<|Y aI<|V aI<|aC<|Ru<|Qq
   have htp:¬ 0<o.tags.length:=by have:=b_ N;rw[j6]at this;omega
   have hLL:sD o=L3:=by rw[sD,G,length_eq_zero_iff.1 (by omega:o.tags.length=0)];exact append_nil _
   refine aB<|S<|O (bA pR)<|Y (kc call208 (PG (oB o) (1+2+2+2) L3 true))<|V iP<|Cn ?_ ?_<;>intro K
   ·have hlong:=b9 K;rw[F3 hg (λh=>htp h.1) hLL X];exact O aI<|V aI<|aC<|Ru<|Qq
   have hlong:=b_ K;rw[F4 hg (λh=>htp h.1) hLL X];exact aB<|O (bA pR)<|Y (kc mX (OQ (oB o) (1+2+2+2) L3 true (by have:=hl3;omega)))<|Y aI<|V aI<|aC<|Ru<|Qq
  exact absurd Q (b_ W)
 have hsz:cX o.refs<=24*o.refs.length:=pA (λs hs=>dI (tY hg s hs));have hjl:=fT o.refs;have ⟨c_,z_⟩:∃c_:B_,c_=⟨(bT [32] (bs o.refs)).toArray⟩:=X_;have hj:∀H,RC 204 [.pv (aL o.refs),sv ⟨#[32]⟩] (sv c_) H:=λH=>by
  rw[z_];exact wT o.refs ⟨#[32]⟩ H E_ (by show 1*_+_+_<_;omega)
 have E:c_.data.toList=bT [32] (bs o.refs):=by rw[z_]
 have ⟨L3,hL3⟩:∃L,L=L1++32::((⟨#[40]⟩:B_)++c_++⟨#[41]⟩).data.toList:=X_;have hQ:((⟨#[40]⟩:B_)++c_++⟨#[41]⟩).data.toList=40::(bT [32] (bs o.refs)++[41]):=by rw[<-E];simp
 have hQs:((⟨#[40]⟩:B_)++c_++⟨#[41]⟩).size<=60000:=by rw[<-aR,hQ,j7,j_,length_singleton];omega
 have hJs:c_.size<=52000:=by rw[<-aR,E];omega
 have T:(⟨#[40]⟩:B_).size=1:=rfl;have h41:(⟨#[41]⟩:B_).size=1:=rfl;have hAs:((⟨#[40]⟩:B_)++c_).size=1+c_.size:=by rw[ByteArray.size_append,T]
 have hn3:L3≠[]:=by rw[hL3];simp
 have hl3:L3.length<=200000:=by rw[hL3,j_,j7,aR];omega
 have F:=zb (oB o) (1+2) L1 ((⟨#[40]⟩:B_)++c_++⟨#[41]⟩) I X;rw[<-hL3]at F;have G:lV o=L3:=by
  rw[lV,a8 Q,hL3,hL1,hQ];simp
 refine Rd (bA eB)<|Y (bQ M_)<|V cD<|Cn ?_ ?_<;>intro u_
 ·exact absurd (b9 u_) Q
 refine Rd (bA eA)<|Y (bQ aG)<|Y (kc rG (hj _))<|Y kq<|Y kq<|V (kc call287 (F))<|S<|O (bA gA)<|Y (bQ dF)<|Y (fW dO)<|V iP<|Cn ?_ ?_<;>intro e_
 ·have htp:0<o.tags.length:=by have:=b9 e_;rw[j6]at this;omega
  refine O (bA gA)<|Y (bQ dF)<|Y (kc call288 (VG o.tags _ f_.2.1))<|Y aA<|Y dK<|Y dK<|Y aI<|V aI<|S<|O aA<|V zB<|Cn ?_ ?_<;>intro D
  ·have hte:(jN o.tags).2≠0:=by have hq:=D;rw[r8,p_]at hq;exact hq
   rw[WJ hg ⟨htp,hte⟩];exact O aA<|Y aI<|V aI<|aC<|Ru<|Qq
  have hte:(jN o.tags).2=0:=by have hq:=D;rw[Bool.not_eq_false',j0]at hq;exact hq
  have hlen2:(L3++32::(jN o.tags).1.data.toList).length<=300000:=by have:=hl3;have:=(xD htp hte).2;rw[j_,j7,aR];omega
  have hLL:sD o=L3++32::(jN o.tags).1.data.toList:=by rw[(xD htp hte).1,sD,G]
  refine aB<|Rd aA<|V (kc call287 (zb (oB o) (1+2+2) L3 (jN o.tags).1 hn3 (by have:=hl3;have:=(xD htp hte).2;omega)))<|S<|O (bA pR)<|Y (kc call208 (PG (oB o) ((1+2+2)+2) (L3++32::(jN o.tags).1.data.toList) true))<|V iP ?_;refine Cn ?_ ?_<;>intro hc10
  ·have hlong:=b9 hc10;rw[F3 hg (λh=>h.2 hte) hLL X];exact O aI<|V aI<|aC<|Ru<|Qq
  have hlong:=b_ hc10;rw[F4 hg (λh=>h.2 hte) hLL X];exact aB<|O (bA pR)<|Y (kc mX (OQ (oB o) ((1+2+2)+2) (L3++32::(jN o.tags).1.data.toList) true (by have:=hlen2;omega)))<|Y aI<|V aI<|aC<|Ru<|Qq
 have htp:¬ 0<o.tags.length:=by have:=b_ e_;rw[j6]at this;omega
 have hLL:sD o=L3:=by rw[sD,G,length_eq_zero_iff.1 (by omega:o.tags.length=0)];exact append_nil _
 refine aB<|S<|O (bA pR)<|Y (kc call208 (PG (oB o) (1+2+2) L3 true))<|V iP<|Cn ?_ ?_<;>intro hc11
 ·have hlong:=b9 hc11;rw[F3 hg (λh=>htp h.1) hLL X];exact O aI<|V aI<|aC<|Ru<|Qq
 have hlong:=b_ hc11;rw[F4 hg (λh=>htp h.1) hLL X];exact aB<|O (bA pR)<|Y (kc mX (OQ (oB o) (1+2+2) L3 true (by have:=hl3;omega)))<|Y aI<|V aI<|aC<|Ru<|Qq
theorem kV:∀ {l} {w},32∉w->(∀x∈l,32∉x)->dP 32 (bT [32] (w::l))=w::l
 | [],w,h,_=>by rw[bT,List.flatMap_nil,List.append_nil];exact rO h
 |a::l,w,h,b=>by
  have e:bT [32] (w::a::l)=w++32::bT _ (a::l):=rfl;rw[e,jQ h,kV (b a mem_cons_self) λx c=>b x (mem_cons_of_mem _ c)]
theorem SK:∀l,bT [32] (dP 32 l)=l
 | []=>rfl
 | b::l=>by
  have a:=SK l;have c:=rA 32 l;rw[dP];cases e:dP _ l with
  |nil=>rw[e]at c;exact absurd c (Nat.lt_irrefl 0)
  |cons x r =>
   rw[e,bT]at a;by_cases h:b=32
   ·rw[b7 h,bT,flatMap_cons,append_assoc,a,h];rfl
   rw[a8 h,bT,headD_cons,tail_cons,cons_append,a]
theorem WL{x}(h:0<=x)(a:x<1000000000000000000):UU (Lib.itoa x)=x:=by rw[UU,DM h a]
theorem Mi(l):(bs l).map a_=l:=by rw[bs,map_map];exact(map_congr_left λs _=>fQ s).trans (map_id _)
theorem S6:∀l:List _,(l.flatMap qK).length<=2*l.length
 | []=>g_ _
 | b::l=>by
  have ih:=S6 l;have h:(qK b).length<=2:=by
   rw[qK]
   grind
  rw[flatMap_cons,j_,j7];omega
theorem Aj{v}(hv:v.size<=200):(fJ (a_ (cW v.data.toList))).1=[⟨3,v,0,0⟩]:=by
 have b:(a_ (cW v.data.toList)).data.toList.drop 0=cW v.data.toList++[]:=by rw[append_nil];rfl
 have hl:(cW v.data.toList).length<=402:=by
  have:=S6 v.data.toList;rw[aR]at this;rw[cW,j7,j_,length_singleton];omega
 have c:0<(cW v.data.toList).length:=by rw[cW,j7];omega
 have d:=DN (JF b) Z (rC b c) c (all_nil (fK b));rw[fJ,a8 (by rw[bZ];omega),d _ (by rw[bZ,append_nil];omega)];rfl
theorem C5{w:List UInt8}{r}:(w::r).headD []=w:=rfl
theorem LV{e:b8}(B:fX e=true)(t:fR e=0):nM (fM e)=e/\(10:UInt8)∉fM e:=by
 have ⟨⟨o1,o7⟩,c,i⟩:=uE.1 B;rw[fR]at t;by_cases j:e.op=1
 ·rw[b7 j]at t;have ⟨E,z,_⟩:=PD t;have A:=mm t;rw[FM,b7 j,j]at i;rw[fM,b7 j];constructor
  ·rw[nM,jQ E_,C5,EH,b7 rfl];show (⟨1,a6,a6,a6,0,0,a6,a6,[],(uS (a_ (fD e.obj).1.data.toList)).1⟩:b8)=e;rw[fQ,A];exact i
  rw[z];intro h;rcases mem_append.1 h with h|h
  ·revert h;decide
  rcases l9.1 h with h|h
  ·simp_all
  exact aAL E h
 rw[wN,a8 j,k_]at c;have ⟨u,c⟩:=c;have l:=mJ u;rw[fM,a8 j];by_cases d:e.op=2
 ·rw[b7 d]at c;have n:(0<=e.x/\e.x<1048576)/\0<=e.y/\e.y<1048576:=by
   rw[nj]at c
   grind
  rw[FM,a8 j,b7 d,d]at i;rw[gM,b7 d];have n1:=GD n.1.1;have n2:=GD n.2.1;refine⟨?_,yB E_ ?_⟩
  ·rw[nM,kV E_ F_,C5,EH,a8 E_,b7 ⟨Z,Z⟩];show (⟨2,a_ e.id.data.toList,a6,a6,UU (Lib.itoa e.x),UU (Lib.itoa e.y),a6,a6,[],h_⟩:b8)=e;rw[fQ,WL n.1.1 X,WL n.2.1 X];exact i
  intro w a;simp only[l9,q7,or_false]at a;rcases a with rfl|rfl|rfl|rfl;all_goals first|exact E_|grind|grind|grind
 by_cases g:e.op=3
 ·rw[a8 d,b7 g,k_,j0]at c;have q:=mJ c.1;rw[FM,a8 j,a8 d,b7 g,g]at i;rw[gM,a8 d,b7 g];refine⟨?_,yB E_ ?_⟩
  ·have D:bT [32] [A5,e.id.data.toList,e.key.data.toList,cW e.val.data.toList]=A5++32::(e.id.data.toList++32::(e.key.data.toList++32::cW e.val.data.toList)):=by simp[bT]
   have x:=rA 32 (cW e.val.data.toList);rw[D,nM,jQ E_,jQ l.1,jQ q.1,C5,EH,a8 E_,a8 (λh=>absurd h.1 E_),b7 ⟨Z,F_⟩];show (match (fJ (a_ (bT [32] (dP 32 (cW e.val.data.toList))))).1 with
    | [f]=>(⟨3,a_ e.id.data.toList,a6,a6,0,0,a_ e.key.data.toList,f.text,[],h_⟩:b8)
    |_=>NZ)=e
   rw[SK,Aj X,fQ,fQ];exact i
  intro w a;simp only[l9,q7,or_false]at a;rcases a with rfl|rfl|rfl|rfl;all_goals first|exact E_|exact l.2|exact q.2|exact db _
 by_cases k:e.op=4
 ·rw[a8 d,a8 g,b7 k,k_,k_,all_eq_true]at c;have d_:=c.2;rw[FM,a8 j,a8 d,a8 g,b7 k,k]at i;rw[gM,a8 d,a8 g,b7 k];have r:∀(b:UInt8),(b=32\/b=10)->∀w∈bs e.refs,b∉w:=by
   intro b r w a;obtain ⟨s,x,rfl⟩:=mem_map.1 a;have:=mJ (d_ s x);rcases r with rfl|rfl;all_goals first|exact this.1|exact this.2
  refine⟨?_,yB E_ ?_⟩
  ·rw[nM,kV E_ (by intro w a;rcases l9.1 a with rfl|a;all_goals first|exact l.1|exact r 32 (.inl Z) w a),C5,EH,a8 E_,a8 (λh=>absurd h.1 E_),a8 (λh=>absurd h.1 E_),b7 ⟨Z,by simp only[j7];omega⟩];show (⟨4,a_ e.id.data.toList,a6,a6,0,0,a6,a6,(bs e.refs).map a_,h_⟩:b8)=e;rw[fQ,Mi];exact i
  intro w a;rcases l9.1 a with rfl|a
  ·decide
  rcases l9.1 a with rfl|a;all_goals first|exact l.2|exact r 10 (.inr Z) w a
 by_cases m:e.op=5
 ·rw[FM,a8 j,a8 d,a8 g,a8 k,b7 m,m]at i;rw[gM,a8 d,a8 g,a8 k,b7 m];refine⟨?_,yB E_ ?_⟩
  ·rw[nM,kV E_ (by intro w a;rw[r6]at a;subst a;exact l.1),C5,EH,a8 E_,a8 (λh=>absurd h.1 E_),a8 (λh=>absurd h.1 E_),a8 (λh=>absurd h.1 E_),b7 ⟨Z,Z⟩];show (⟨5,a_ e.id.data.toList,a6,a6,0,0,a6,a6,[],h_⟩:b8)=e;rw[fQ];exact i
  intro w a;simp only[l9,q7,or_false]at a;rcases a with rfl|rfl;all_goals first|exact E_|exact l.2
 by_cases o:e.op=6
 ·rw[a8 d,a8 g,a8 k,a8 m,b7 o,k_]at c;have q:=mJ c.1;have p:=mJ c.2;rw[FM,a8 j,a8 d,a8 g,a8 k,a8 m,b7 o,o]at i;rw[gM,a8 d,a8 g,a8 k,a8 m,b7 o];refine⟨?_,yB E_ ?_⟩
  ·rw[nM,kV E_ (by intro w a;simp only[l9,q7,or_false]at a;rcases a with rfl|rfl|rfl;all_goals first|exact l.1|exact q.1|exact p.1),C5,EH,a8 E_,a8 (λh=>absurd h.1 E_),a8 (λh=>absurd h.1 E_),a8 (λh=>absurd h.1 E_),a8 (λh=>absurd h.1 E_),b7 ⟨Z,Z⟩];show (⟨6,a_ e.id.data.toList,a_ e.other.data.toList,a_ e.node.data.toList,0,0,a6,a6,[],h_⟩:b8)=e;rw[fQ,fQ,fQ];exact i
  intro w a;simp only[l9,q7,or_false]at a;rcases a with rfl|rfl|rfl|rfl;all_goals first|exact E_|exact l.2|exact q.2|exact p.2
 have y:e.op=7:=X
 rw[a8 d,a8 g,a8 k,a8 m,a8 o]at c;have p:=mJ c;rw[FM,a8 j,a8 d,a8 g,a8 k,a8 m,a8 o,y]at i;rw[gM,a8 d,a8 g,a8 k,a8 m,a8 o];refine⟨?_,yB E_ ?_⟩
 ·rw[nM,kV E_ (by intro w a;simp only[l9,q7,or_false]at a;rcases a with rfl|rfl;all_goals first|exact l.1|exact p.1),C5,EH,a8 E_,a8 (λh=>absurd h.1 E_),a8 (λh=>absurd h.1 E_),a8 (λh=>absurd h.1 E_),a8 (λh=>absurd h.1 E_),a8 (λh=>absurd h.1 E_),b7 ⟨Z,Z⟩];show (⟨7,a_ e.id.data.toList,a_ e.other.data.toList,a6,0,0,a6,a6,[],h_⟩:b8)=e;rw[fQ,fQ];exact i
 intro w a;simp only[l9,q7,or_false]at a;rcases a with rfl|rfl|rfl;all_goals first|exact E_|exact l.2|exact p.2
end Go.Proofs.YtopnleflllkbmaaGreatDoor
namespace Go.Abs
section
section
variable{P:Program}{H:aF}
theorem Ax(s)(c):Wa P Extern.BytealgCount.count H [.pv (.str s),.pv (.int .u8 c)] (.pv (.int .i64 ((Lib.countByte s.data.toList c.toNat.toUInt8)))):=by intro w I ι cs b h;obtain ⟨u,v,rfl,d,e⟩:=bl b h;rw[d.str_inv,e.int_inv];exact⟨_,Lib.run_countString s c w,.pv (.int _ _)⟩
end
end
end Go.Abs
namespace Go.Proofs.YtopnleflllkbmaaGreatDoor
open Go.Proofs.Tryz
open Go.Abs
abbrev Ow:B_:=⟨#[32]⟩
theorem VM(s)(H:aF):RC 244 [sv s,sv Ow] (iv (Lib.indexByte s.data.toList 32)) H:=by
 refine Pu<|Bd func244 Z ntmps244<|Sz aI<|O aA<|Y (gE U_)<|V aI<|S<|aD<|S<|aQ (t:=16) (n:=9) (A_:=decide (Ow=s)) ?_ ?_
 ·all_goals refine Y aA<|Y cD<|Dm ?_<;>(refine Sp 19 (λc=>?_) λc=>?_)<;>(try contradiction)<;>refine U aA<|U aA<|U wH<|Y cC<|Da ?_<;>exact Gj (h:=by rfl)
 refine Cn ?_ ?_<;>intro d
 ·have e:=b9 d;subst e;exact Sz aI<|aC<|Rt<|Qq
 refine O aA<|Y cD<|Da<|Cn ?_ ?_<;>intro b
 ·exact O aA<|Y aA<|Y (cI Z U_ Z Z X x6 (show 0<(⟨#[32]⟩:B_).size from Nat.zero_lt_one) Z)<|Y (kc call250 (AC s 32 _))<|V aI<|aC<|Rt<|Qq
 cases b
theorem Uh(s)(H):RC 282 [sv s,sv Ow] (iv (Lib.indexByte s.data.toList 32)) H:=by refine Pu ?_;exact Bd func282 Z ntmps282<|Sz aI<|O aA<|Y aA<|Y (bH Z Z call244 Z (VM s _))<|V aI<|aC<|Rt<|Qq
def qb(s:B_):AV:=if Lib.indexByte s.data.toList 32 = -1 then .tup [sv s,sv ⟨#[]⟩,bv false]else .tup [sv (s.extract 0 (Lib.indexByte s.data.toList 32).toNat),sv (s.extract ((Lib.indexByte s.data.toList 32).toNat+1) s.size),bv true]
theorem Qm(s:B_)(H:aF)(hs:s.size<2^40):RC 194 [sv s,sv Ow] (qb s) H:=by
 refine Pu ?_;have d:=λH=>VM s H;rw[qb];rcases Classical.em (Lib.indexByte s.data.toList 32 = -1)with c|c
 ·rw[b7 c];simp only[c]at d;refine Bd func194 Z ntmps194<|O aI<|Y aI<|V aI<|S<|O aA<|Y aA<|Y (kc call244 (d _))<|V aI<|O aA<|V zU<|Cn ?_ ?_<;>intro b
  ·cases b
  refine aB<|O aA<|Y aI<|Y aI<|V aI<|aC<|lX (H':=[]) (.inr Z) Z (aH Z) (aH Z) (aH Z) P_ Qq
 rw[a8 c];have ⟨w,r,f,e2,e⟩:=yF c;simp only[e]at d;rw[e,l_];have hl:w.length+1+r.length=s.size:=by rw[<-show s.data.toList.length=s.size by simp,f,j_,j7];omega
 refine Bd func194 Z ntmps194<|O aI<|Y aI<|V aI<|S<|O aA<|Y aA<|Y (kc call244 (d _))<|V aI<|O aA<|V zU<|Cn ?_ ?_<;>intro b
 ·refine S<|aM a7<|Cq aA<|Cq aA<|Cq (bM (l:=0) (h:=(w.length)) Z U_ Z Z Z X X Z)<|Cq aA<|Cq aA<|Cq aA<|Cq (gE U_)<|Cq kp<|Cq (bM (l:=(w.length+1)) (h:=s.size) Z U_ Z Z Z X X Z)<|Cq aI<|Cq aI<|Cq aI<|bG<|Kr<|aC<|lX (H':=[]) (.inr Z) Z (aH Z) (aH Z) (aH Z) P_ Qq
 have hx:=b_ b;omega
theorem aDF(s)(H:aF)(d:s.size<2^40):RC 137 [sv s,sv Ow] (qb s) H:=by
 refine Pu ?_;have b:=λH=>Qm s H d;rcases Classical.em (Lib.indexByte s.data.toList 32 = -1)with c|c
 ·simp only[qb,b7 c]at b |-;refine Bd func137 Z ntmps137<|O aI<|Y aI<|V aI<|O aA<|Y aA<|Y (kc call194 (b _))<|Y dK<|Y dK<|Y dK<|Y aI<|Y aI<|V aI<|aC<|lX (H':=[]) (.inr Z) Z (aH Z) (aH Z) (aH Z) P_ Qq
 simp only[qb,a8 c]at b |-;refine Bd func137 Z ntmps137<|O aI<|Y aI<|V aI<|O aA<|Y aA<|Y (kc call194 (b _))<|Y dK<|Y dK<|Y dK<|Y aI<|Y aI<|V aI<|aC<|lX (H':=[]) (.inr Z) Z (aH Z) (aH Z) (aH Z) P_ Qq
abbrev sNl:B_:=⟨#[10]⟩
def DE(s:B_):Bool:=decide ((1:Int)<=(s.size:Int))&&decide (s.extract (s.size - 1) s.size=sNl)
def EA(s:B_):B_:=if DE s then s.extract 0 (s.size - 1)else s
theorem fm(s:B_)(H:aF)(hs:s.size<2^40):RC 256 [sv s,sv sNl] (bv (DE s)) H:=by
 refine Pu<|Bd func256 Z ntmps256<|Sz aI<|S<|aQ (t:=4) (n:=18) (A_:=DE s) ?_ ?_
 ·all_goals refine Y aA<|Y (gE U_)<|Y aA<|Y (gE U_)<|Y zU<|Dm ?_<;>(refine Sp 10 (λb=>?_) λb=>?_)<;>(first|exact s_|refine M<|M<|M<|M<|M<|M<|M<|M<|M ?_|refine U aA<|U aA<|U (gE U_)<|U aA<|U (gE U_)<|U (by exact dM Z Z Z (show IntKind.i64.wrap ((s.size:Int) - 1)=((s.size - 1:Nat):Int)by have h11:(1:Int)<=(s.size:Int):=b9 b;rw[IntKind.wrap_i64];omega))<|U (bM (l:=(s.size - 1)) (h:=s.size) Z U_ Z Z Z X X Z)<|U aA<|U wH ?_)<;>refine Y cC<|Da ?_<;>exact Gj (h:=by(simp only[DE];rw[show decide ((1:Int)<=(s.size:Int))=_ from b];rfl))
 exact aC<|Rt<|Qq
theorem Fw(s:B_)(H:aF)(c:s.size<2^40):RC 205 [sv s,sv sNl] (sv (EA s)) H:=by
 refine Pu<|Bd func205 Z ntmps205<|Sz aI<|S<|O aA<|Y aA<|V (kc call256 (fm s _ c))<|Cn ?_ ?_<;>intro b
 ·have h1:=by
   have h:=b;rw[DE,k_,j0]at h;omega
  rw[EA,b7 b];exact O aA<|Y aA<|Y (gE U_)<|Y aA<|Y (gE U_)<|Y (by exact dM Z Z Z (show IntKind.i64.wrap ((s.size:Int) - 1)=((s.size - 1:Nat):Int)by rw[IntKind.wrap_i64];omega))<|Y (bM (l:=0) Z U_ Z Z Z X X Z)<|V aI<|aC<|Rt<|Qq
 rw[EA,a8 F_];exact aB<|O aA<|V aI<|aC<|Rt<|Qq
theorem kh(s)(H)(b:s.size<2^40):RC 144 [sv s,sv sNl] (sv (EA s)) H:=by refine Pu ?_;exact Bd func144 Z ntmps144<|Sz aI<|O aA<|Y aA<|Y (bH Z Z call205 Z (Fw s _ b))<|V aI<|aC<|Rt<|Qq
theorem Vh(s:B_)(H:aF):RC 281 [sv s,sv Ow] (iv ((s.data.toList.count 32:Nat):Int)) H:=by
 refine Pu<|Bd func281 Z ntmps281<|Sz aI<|S<|O aA<|Y (gE U_)<|V cD<|Cn ?_ ?_<;>intro c
 ·cases c
 refine aB<|S<|O aA<|Y (gE U_)<|V cD<|Cn ?_ ?_<;>intro b
 ·exact O aA<|Y aA<|Y (cI Z U_ Z Z X x6 (show 0<(⟨#[32]⟩:B_).size from Nat.zero_lt_one) Z)<|Y (O9 Z Z func304 Z Z Z Z Z (Ax s 32))<|V aI<|aC<|Rt<|Qq
 cases b
def ofY(l:List UInt8):B_:=⟨l.toArray⟩
def cO(s:B_):List B_:=(dP 32 s.data.toList).map ofY
def CJ(D:List B_)(m:Nat):List (List AV):=D.map (λe=>(S_ e).map AV.pv)++List.replicate m [sv ⟨#[]⟩]
theorem VL(D)(m):(CJ D (m+1))[D.length]?=some [sv ⟨#[]⟩]:=by rw[CJ,getElem?_append_right H_,j6,Nat.sub_self];rfl
theorem kz{s}(h:(cO s).length=1):cO s=[s]:=by rw[cO,j6,xM]at h;have a:32∉s.data.toList:=count_eq_zero.1 X;rw[cO,rO a];rfl
theorem QE(D)(m)(x):(CJ D (m+1)).set D.length [sv x]=CJ (D++[x]) m:=by unfold CJ;rw[set_append_right _ _ H_,j6,Nat.sub_self,map_append,append_assoc];rfl
theorem QF(H)(D)(m):∀r∈CJ D m,∀a∈r,Clo H a:=by
 intro r b a c;rcases mem_append.1 b with b|b
 ·obtain ⟨d,_,rfl⟩:=mem_map.1 b;obtain ⟨p,_,rfl⟩:=mem_map.1 c;simp
 rw[eq_of_mem_replicate b,r6]at c;subst c;simp
instance(H)(D)(m):W_ (H) (CJ D m):=⟨QF H D m⟩
theorem exL(s:B_)(i j):(s.extract i j).data.toList=(s.data.toList.drop i).take (j - i):=H_
theorem pq{a b:B_}(h:a.data.toList=b.data.toList):a=b:=by cases a;simp_all
theorem Jm{s:B_}{w r}(h:s.data.toList=w++32::r):s.extract 0 w.length=ofY w/\(s.extract (w.length+1) s.size).data.toList=r:=by
 have hl:s.size=w.length+1+r.length:=by
  show s.data.size=_;rw[<-Array.length_toList,h,j_,j7];omega
 constructor
 ·refine pq ?_;rw[exL,drop_zero,Nat.sub_zero,h,take_left];rfl
 simp_all
theorem aER{H1}{id g n}{ob}(ps)(b:H1.get id=some ob)(c:ob.g=g)(a:ob.rows=ps.map (·.map .pv))(d:ps.length=n):Fin [] H1 (.osl id g 0 n) [] (.pv (.sl ps)):=by subst c d;exact Fin.fz _ b a (.osl H_) Z T_ T_
theorem pd(d:B_)(H:aF)(hs:d.size<2^40):RC 251 [sv d,sv Ow,iv 0,iv (-1)] (.pv (aL (cO d))) H:=by
 refine Pu ?_;obtain ⟨N,o⟩:∃N,N=d.data.toList.count 32:=X_;have hNs:N<=d.size:=by rw[o];exact Nat.le_trans List.count_le_length (by simp)
 have x:=λH=>Vh d H;rw[<-o]at x;have e:(dP 32 d.data.toList).length=N+1:=by rw[xM,o]
 refine Bd func251 Z ntmps251<|Sz aI<|S<|O aA<|V cD<|Cn ?_ ?_<;>intro p
 ·cases p
 refine aB<|S<|O aA<|V wH<|Cn ?_ ?_<;>intro u
 ·have:=b9 u;cases this
 refine aB<|S<|O aA<|V cJ<|Cn ?_ ?_<;>intro k
 ·refine Rd aA<|Y aA<|Y (kc call281 (x _))<|Y kp<|V aI<|O aA<|Y aA<|Y (gE U_)<|Y kp<|Y (by exact CV (r:=((N+1:Nat):Int)) Z Z Z (by omega))<|V aI<|O aA<|Y (by exact D8 (id:=31) Z bD yJ Pf Z Z Z (by omega) (by omega) (by exact l_ _) (by exact l_ _) (by omega) Z)<|V aI<|O aA<|Y (by exact dM Z Z Z (show IntKind.i64.wrap (((N+1:Nat):Int) - 1)=(N:Int)by rw[IntKind.wrap_i64];omega))<|V aI<|Sz aI<|S<|aD ?_;refine eU (λ(D:List B_) (a:B_)=>([(0,sv a),(1,sv Ow),(2,iv 0),(3,iv (N:Int)),(8,.pv (.sl [])),(9,.osl 31 0 0 (N+1)),(10,iv (D.length:Int))],[(31,⟨0,1,9,CJ D (N+1 - D.length)⟩)])) (λD a=>cO d=D++cO a/\a.size<=d.size) (λD a=>N - D.length) [] d ⟨Z,g_ _⟩ ?_ ?_
  ·exact(cL.wk (Eb<|Eb<|Eb<|Eb<|Eb<|Ea<|Eb<|T_) (Hc (QF _ _ _)<|T_) T_)
  rintro D a ⟨d_,hr⟩;have g:D.length+(cO a).length=N+1:=by
   have:=congrArg List.length d_;rw[j_,cO,j6,e]at this;exact this.symm
  have hpos:0<(cO a).length:=by rw[cO,j6];exact rA _ _
  obtain ⟨m,c_⟩:∃m,N+1 - D.length=m+1:=⟨N - D.length,by omega⟩;have z:=λH=>Uh a H;rw[c_];rcases Nat.lt_or_ge D.length N with hlt|hge
  ·have E:Lib.indexByte a.data.toList 32 ≠ -1:=λh=>by
    have A:=rO (yE.1 h);rw[cO,A]at g;have:D.length+1=N+1:=g;omega
   obtain ⟨w,r,q,F,B⟩:=yF E;obtain ⟨I,y⟩:=Jm q;have hl:w.length+1+r.length=a.size:=by rw[<-show a.data.toList.length=a.size by simp,q,j_,j7];omega
   have hsp:cO a=a.extract 0 w.length::cO (a.extract (w.length+1) a.size):=by
    rw[cO,q,jQ F,List.map_cons,I,cO,y]
   simp only[B]at z;refine S<|O aA<|Y aA<|V cJ<|Cn ?_ ?_<;>intro v
   ·refine aB<|aD<|O aA<|Y aA<|Y (kc call282 (z _))<|V aI<|S<|O aA<|V cJ<|Cn ?_ ?_<;>intro l
    ·have:=b9 l;omega
    refine aB<|O aA<|Y aA<|Y aA<|Y aA<|Y aA<|Y (by exact dB Z Z Z (show IntKind.i64.wrap ((w.length:Int)+0)=(w.length:Int)by rw[IntKind.wrap_i64];omega))<|Y (by exact bM (l:=0) (h:=w.length) Z U_ Z Z Z (by omega) (by omega) Z)<|Y (by exact dL Z bD Z Z Z Z Z (by omega) (by exact l_ _) (by omega) (r9 _))<|Uu (by exact cQ Z V_ Z Z Z Z Z (VL D m) Nat.zero_lt_one Z (QE D m _))<|Zz<|O aA<|Y aA<|Y aA<|Y (gE U_)<|Y kp<|Y (by exact bM (l:=(w.length+1)) (h:=a.size) Z U_ Z Z Z (by omega) (by omega) Z)<|V aI<|Rg<|Dm ?_;refine Y kp<|Da ?_;have G:(D++[a.extract 0 w.length]).length=D.length+1:=by simp
    have t:(a.extract (w.length+1) a.size).size<=d.size:=by rw[<-show (a.extract (w.length+1) a.size).data.toList.length=(a.extract (w.length+1) a.size).size by simp,y];omega
    refine⟨D++[a.extract 0 w.length],a.extract (w.length+1) a.size,⟨by simp_all,t⟩,by omega,?_⟩;rw[G,show N+1 - (D.length+1)=m by omega];exact(cL.wk (Eb<|Eb<|Eb<|Eb<|Eb<|Ea<|Eb<|T_) (Hc (QF _ _ _)<|T_) T_)
   have:=b_ v;omega
  have hDN:D.length=N:=by omega
  have hone:cO a=[a]:=kz (by omega);have j:m=0:=by omega
  subst j;refine S<|O aA<|Y aA<|V cJ<|Cn ?_ ?_<;>intro n
  ·have:=b9 n;omega
  refine aP<|O aA<|Y aA<|Y aA<|Y (by exact dL Z bD Z Z Z Z Z (by omega) (by exact l_ _) (by omega) (r9 _))<|Uu (by exact cQ Z V_ Z Z Z Z Z (VL D 0) Nat.zero_lt_one Z (QE D 0 _))<|Zz<|O aA<|Y aA<|Y kp<|Y (by exact kP (l:=0) (h:=(D.length+1)) Z bD Z Z Z Z Z Z (by omega) (by omega) Z Z)<|V aI<|aC ?_;have s:(D++[a]).map S_=(cO d).map S_:=by simp_all
  refine cR (H':=[]) (.inr Z) Z (aH Z) (aER (id:=31) ((D++[a]).map S_) Z Z (by show CJ (D++[a]) 0=_;rw[CJ,List.replicate_zero,List.append_nil,List.map_map];rfl) (by simp)) ⟨?_,Z⟩;rw[aL,s]
 cases k
theorem xw(s)(H)(b:s.size<2^40):RC 200 [sv s,sv Ow] (.pv (aL (cO s))) H:=by refine Pu ?_;exact Bd func200 Z ntmps200<|Sz aI<|O aA<|Y aA<|Y (bH Z Z call251 Z (pd s _ b))<|V aI<|aC<|Rt<|Qq
def zO(t:B_):B_:=if Lib.indexByte t.data.toList 10 = -1 then t else t.extract 0 ((Lib.indexByte t.data.toList 10).toNat+1)
def SA(t:B_):B_:=if Lib.indexByte t.data.toList 10 = -1 then⟨#[]⟩else t.extract ((Lib.indexByte t.data.toList 10).toNat+1) t.size
def jH(s:B_):Nat->B_
 |0=>s
 |k+1=>SA (jH s k)
def iY(s:B_):List B_:=(rD s.data.toList).map ofY
theorem aCh(s):ofY s.data.toList=s:=pq (Z)
theorem szY(s:B_):s.data.toList.length=s.size:=rfl
theorem Km{t:B_}(h:Lib.indexByte t.data.toList 10 ≠ -1):∃w r,t.data.toList=w++10::r/\(10:UInt8)∉w/\Lib.indexByte t.data.toList 10=(w.length:Int)/\t.extract 0 (w.length+1)=ofY (w++[10])/\(t.extract (w.length+1) t.size).data.toList=r/\w.length+1+r.length=t.size:=by
 have ⟨w,r,d,g,e⟩:=yF h;have f:w.length+1+r.length=t.size:=by rw[<-szY,d,j_,j7];omega
 have c:t.data.toList=(w++[10])++r:=F_
 refine⟨w,r,d,g,e,pq ?_,?_,f⟩
 ·rw[exL,drop_zero,Nat.sub_zero,c,show w.length+1=(w++[(10:UInt8)]).length by simp,take_left];rfl
 rw[exL,c,show w.length+1=(w++[(10:UInt8)]).length by simp,drop_left];exact take_of_length_le G_
theorem BM{t}(h:¬ 0<t.size):iY t=[]:=by have:t.data.toList=[]:=length_eq_zero_iff.1 F_;rw[iY,this];rfl
theorem CZ{t}(h:0<t.size):iY t=zO t::iY (SA t)/\(SA t).size<=t.size:=by
 rw[zO,SA];by_cases a:Lib.indexByte t.data.toList 10 = -1
 ·rw[b7 a,b7 a];refine⟨?_,l7 _⟩;rw[iY,NT (yE.1 a) (λe=>by rw[<-szY]at h;simp_all)];rfl
 rw[a8 a,a8 a];have ⟨w,r,c,f,g,d,b,e6⟩:=Km a;rw[g,l_,d];refine⟨?_,H_⟩;rw[iY,c,H8 f,map_cons,iY,b]
theorem BB(s):∀k,k<=(iY s).length->iY (jH s k)=(iY s).drop k/\(jH s k).size<=s.size
 |0,_=>⟨Z,g_ _⟩
 | k+1,h=>by
  obtain ⟨b,d⟩:=BB s k (le_of_succ_le h);have i:0<(jH s k).size:=by
   rcases Nat.lt_or_ge 0 _ with c|c
   ·exact c
   have g:=BM (t:=jH s k) X;rw[g]at b;have:=congrArg List.length b;rw[q6,length_nil]at this;omega
  have ⟨f,e⟩:=CZ i;rw[f]at b;refine⟨?_,Nat.le_trans e d⟩;have:=congrArg List.tail b;rw[tail_drop]at this;exact this
theorem Tz{s}{k}(h:k<(iY s).length):(iY s)[k]?=some (zO (jH s k))/\0<(jH s k).size:=by
 have ⟨b,i2⟩:=BB s k (Nat.le_of_lt h);have c:0<(jH s k).size:=by
  rcases Nat.lt_or_ge 0 _ with d|d
  ·exact d
  have e:=BM (t:=jH s k) X;rw[e]at b;have:=congrArg List.length b;rw[q6,length_nil]at this;omega
 refine⟨?_,c⟩;rw[(CZ c).1]at b;have:=congrArg List.head? b;rw[head?_drop]at this;exact this.symm
def lB(s:B_):Ob:=bx 1 9 [sv s]
theorem Ty(s)(H)(b:H.get 933=none):aU Tryz.prog 142 [sv s] H (λr H'=>r=.clo 198 [.ref 933 0 0 0]/\H'=(933,lB s)::H):=by refine Bd func142 Z ntmps142<|O (wL Z Z Z Z b)<|V aI<|O (gW Z Z)<|V aI<|aC ?_;refine cR (.inr Z) Z (aH Z) Fin.refl Qq
theorem Ka(s:B_)(y:AV)(j:Nat->aF)(hs:s.size<2^40)(f:∀k,(j k).get 933=some (lB (jH s k)))
  (E:∀k,k<(iY s).length->dH Tryz.prog y [sv (zO (jH s k))] ((933,lB (jH s (k+1)))::j k) (λr H'=>r=bv true/\H'=j (k+1))) :
  aU Tryz.prog 198 [y,.ref 933 0 0 0] (j 0) (λr H'=>r=.tup []/\H'=j (iY s).length):=by
 refine Bd func198 Z ntmps198<|aD<|bF (σ:=Nat) (λk=>([(0,y),(1,.ref 933 0 0 0)],j k)) (λk=>k<=(iY s).length) (λk=>(iY s).length - k) 0 (l7 _) ?_ ?_
 ·exact E0
 rintro k F;have ⟨q,i2⟩:=BB s k F;have D:=λH=>rW (jH s k) 10 H;have A:jH s (k+1)=SA (jH s k):=rfl;refine S<|O (aX Z N_ Z (f k) Z Z Z)<|Y (gE U_)<|V iP<|Cn ?_ ?_<;>intro o
 ·have I:0<(jH s k).size:=I_ o
  have x:k<(iY s).length:=by
   rcases Nat.lt_or_ge k (iY s).length with h|h
   ·exact h
   rw[(CZ I).1,drop_eq_nil_of_le h]at q;cases q
  have c:=E k x;rw[A,SA,zO]at c;rcases Classical.em (Lib.indexByte (jH s k).data.toList 10 = -1)with i|i
  ·rw[b7 i,b7 i]at c;have l:∀H,RC 199 [sv (jH s k),.pv (.int .u8 10)] (iv (-1)) H:=λH=>by
    have:=D H
    rwa [show Lib.indexByte (jH s k).data.toList ((10:Int).toNat.toUInt8) = -1 from i]at this
   refine aB<|aD<|Sz aI<|S<|O (aX Z N_ Z (f k) Z Z Z)<|Y (kc call199 (l _))<|V aI<|O aA<|V zU<|Cn ?_ ?_<;>intro B
   ·cases B
   refine Rd (aX Z N_ Z (f k) Z Z Z)<|Y aI<|Uu (lR Z V_ Z Z Z Z (f k) Z Z Z)<|Zz<|O aA<|Y aA<|Y (dA Z Z Z (c))<|V iI<|Cn ?_ ?_<;>intro u
   ·cases u
   refine aB ?_;exact⟨k+1,X,X,E0⟩
  rw[a8 i,a8 i]at c;have ⟨w,r,e1,e2,d_,e4,e5,e6⟩:=Km i;rw[d_,l_]at c;have l:∀H,RC 199 [sv (jH s k),.pv (.int .u8 10)] (iv (w.length:Int)) H:=λH=>by
   have:=D H
   rwa [show Lib.indexByte (jH s k).data.toList ((10:Int).toNat.toUInt8)=(w.length:Int)from d_]at this
  refine aB<|aD<|Sz aI<|S<|O (aX Z N_ Z (f k) Z Z Z)<|Y (kc call199 (l _))<|V aI<|O aA<|V zU<|Cn ?_ ?_<;>intro t
  ·refine aM a7<|Cr [933] (λn d=>by exact aX Z N_ Z ((d _ Z).trans (f k)) Z Z Z)<|x_ aA<|x_ (by exact dB Z Z Z (show IntKind.i64.wrap ((w.length:Int)+1)=((w.length+1:Nat):Int)by rw[IntKind.wrap_i64];omega))<|x_ (by exact bM (l:=0) (h:=(w.length+1)) Z U_ Z Z Z X X Z)<|Cr [933] (λn d=>by exact aX Z N_ Z ((d _ Z).trans (f k)) Z Z Z)<|x_ aA<|x_ (by exact dB Z Z Z (show IntKind.i64.wrap ((w.length:Int)+1)=((w.length+1:Nat):Int)by rw[IntKind.wrap_i64];omega))<|x_ (by exact bM (l:=(w.length+1)) (h:=(jH s k).size) Z U_ Z Z Z X X Z)<|x_ aI ?_;refine Cp [933] (λn d=>by exact lR Z V_ Z Z Z Z ((d _ Z).trans (f k)) Z Z Z)<|bG<|Kr<|O aA<|Y aA<|Y (dA Z Z Z (c))<|V iI ?_;refine Cn ?_ ?_<;>intro z
   ·cases z
   refine aB ?_;exact⟨k+1,X,X,E0⟩
  have:=b_ t;omega
 have G:¬ 0<(jH s k).size:=J_ o
 have v:k=(iY s).length:=by
  rw[BM G]at q;have:=congrArg List.length q;rw[length_nil,q6]at this;omega
 subst v;refine aP ?_;exact oT (H':=j (iY s).length) (.inl Z) Z Fin.refl ⟨Z,Z⟩
theorem Ew(w):Lib.trimSuffix (w++[10]) [10]=w:=by rw[Lib.trimSuffix,Lib.hasSuffix];simp
theorem Ex(s:B_):EA s=a_ (Lib.trimSuffix s.data.toList [10]):=by
 have hz:=szY s;rw[EA];cases h:DE s with
 | true =>
  rw[DE,k_,j0,j0]at h;have ⟨h1,f⟩:=h;have e:s.data.toList.drop (s.size - 1)=[10]:=by
   have:=congrArg (λx=>x.data.toList) f;rw[exL]at this;refine Eq.trans ?_ (show sNl.data.toList=[10]from Z);rw[<-this];exact(take_of_length_le F_).symm
  have b:s.data.toList=s.data.toList.take (s.size - 1)++[10]:=by rw[<-e,take_append_drop]
  refine pq ?_;rw[b7 Z,exL,cG,b,Ew,drop_zero,Nat.sub_zero,<-b]
 | false =>
  rw[a8 E_,Lib.trimSuffix,a8,fQ];intro c;have ⟨w,d⟩:=isSuffixOf_iff_suffix.1 (show ([10]:List UInt8).isSuffixOf s.data.toList=true from c);have hl:s.size=w.length+1:=G_
  have:DE s=true:=by
   rw[DE,k_,j0,j0];refine⟨X,pq ?_⟩;rw[exL,<-d,show s.size - 1=w.length by omega,drop_left];exact take_of_length_le (by rw[length_singleton];omega)
  rw[h]at this;cases this
theorem Vg(s):∃b,qb s=.tup [sv (a_ ((dP 32 s.data.toList).headD [])),sv (a_ (s.data.toList.drop (((dP 32 s.data.toList).headD []).length+1))),bv b]:=by
 rw[qb];by_cases h:Lib.indexByte s.data.toList 32 = -1
 ·refine⟨false,?_⟩;rw[b7 h,rO (yE.1 h),headD_cons,drop_eq_nil_of_le (le_succ _),fQ];rfl
 have ⟨w,r,d,e,f⟩:=yF h;refine⟨true,?_⟩;have ⟨j,g⟩:=Jm d;have i:s.data.toList.drop (w.length+1)=r:=by
  simp_all
 have c:(dP 32 s.data.toList).headD []=w:=by rw[d,jQ e];rfl
 rw[a8 h,c,i,f,l_,j,show s.extract _ s.size=a_ r from pq (by rw[g,cG])];rfl
theorem xv(s)(i)(h:i<(cO s).length):(cO s)[i]?=some (a_ ((dP 32 s.data.toList).getD i [])):=by rw[cO,j6]at h;rw[cO,r7,getD_eq_getElem?_getD,m_ h];rfl
theorem xu(s):(cO s).length=(dP 32 s.data.toList).length:=j6 _
theorem sU{a b}:a_ a=a_ b↔a=b:=⟨λh=>by rw[<-cG a,h,cG],λh=>by rw[h]⟩
theorem cK(s)(l):cX (s::l)=s.size+cX l:=rfl
theorem yA{e}{a}(b:e.op≠1)(h:bs a=gM e):(⟨(bT [32] (bs a)).toArray⟩)++⟨#[10]⟩=a_ (fM e++[10]):=pq (by
 rw[cG,fM,a8 b,<-h];simp)
theorem Ry{e}(a:e.op=1):(⟨#[112,117,116,32]⟩)++(fD e.obj).1++⟨#[10]⟩=a_ (fM e++[10]):=pq (by
 rw[fM,b7 a];rfl)
theorem MH{o}:(fD o).1.size<=20000:=by
 rw[fD]
 split
 ·split
  ·exact l7 _
  split
  ·exact l7 _
  simp_all
 exact l7 _
theorem l5{p:Prop}(h:p:=by show 1*_+_+_<_;simp only[cK,j7,length_nil];omega):p:=h
theorem aAW(e:b8)(H:aF)(he:US e)(hv:fX e=true):RC 207 [av (bJ e)] (.tup [sv (a_ (fM e++[10])),iv (fR e)]) H:=by
 refine Pu ?_;have ⟨⟨o1,o2⟩,F,o4⟩:=uE.1 hv;rw[wN]at F;have hval:=IE hv;have hs0:cX []=0:=rfl;refine Bd func207 Z ntmps207<|O (kb 1)<|Y aI<|V aI<|Sz aI<|S<|O (bA iN)<|V (bQ M_)<|aD<|O cD<|Da<|Cn ?_ ?_<;>intro A
 ·have E:e.op=1:=b9 A;have y:=MH (o:=e.obj);have h4:(⟨#[112,117,116,32]⟩:B_).size=4:=rfl;have h10:(⟨#[10]⟩:B_).size=1:=rfl;have h4s:((⟨#[112,117,116,32]⟩:B_)++(fD e.obj).1).size=4+(fD e.obj).1.size:=F_
  refine O (bA uU)<|Y (wQ bW sizeOf135)<|Y (kc call253 (WI e.obj _ he.2.2))<|Y aA<|Y dK<|Y dK<|Y aI<|V aI<|O aA<|Y kq<|Y kq<|Y aA<|Y aI<|V aI<|aC<|Ru ?_;rw[Ry E,show fR e=(fD e.obj).2 from b7 E];exact Qq
 have E:e.op≠1:=b_ A;rw[a8 E,k_]at F;have ⟨o5,o6⟩:=F;have hid:=dI o5;refine O cD<|Da<|Cn ?_ ?_<;>intro D
 ·have h2:e.op=2:=b9 D;rw[b7 h2,nj,k_,j0,j0]at o6;have hx:0<=e.x/\e.x<1048576:=X
  have hy:0<=e.y/\e.y<1048576:=X
  have Yp:(aT e.x).size<=7:=by rw[<-aR];show (Lib.itoa e.x).length<=7;rw[jX _ hx.1];exact cV X E_
  have siy:(aT e.y).size<=7:=by rw[<-aR];show (Lib.itoa e.y).length<=7;rw[jX _ hy.1];exact cV X E_
  have hw0:(⟨#[109,111,118,101]⟩:B_).size=4:=rfl;refine aM a7<|Cq (bA jO)<|Cq (bQ N_)<|Cq (bA jE)<|Cq (bA mM)<|Cq (bQ M_)<|Cq (kc lO (pQ e.x X X _))<|Cq (bA jE)<|Cq (bA mL)<|Cq (bQ M_)<|Cq (kc lO (pQ e.y X X _))<|Cq (aK (([⟨#[109,111,118,101]⟩,e.id,aT e.x,aT e.y]:List B_).map S_) Z bD Z Z Z Z Z (iZ _))<|Cq aI<|bG<|Kr<|Sr<|Dm ?_;have hw:bs [⟨#[109,111,118,101]⟩,e.id,aT e.x,aT e.y]=gM e:=by
   rw[gM]
   (rw[b7 h2];rfl)
  have hne:e.op≠1:=X
  have hj:∀H,RC 204 [.pv (aL [⟨#[109,111,118,101]⟩,e.id,aT e.x,aT e.y]),sv ⟨#[32]⟩] (sv ⟨(bT [32] (bs [⟨#[109,111,118,101]⟩,e.id,aT e.x,aT e.y])).toArray⟩) H:=λH=>wT [⟨#[109,111,118,101]⟩,e.id,aT e.x,aT e.y] ⟨#[32]⟩ H E_ l5;have hjs:(⟨(bT [32] (bs [⟨#[109,111,118,101]⟩,e.id,aT e.x,aT e.y])).toArray⟩:B_).size<=70000:=by
   show (bT [32] (bs [⟨#[109,111,118,101]⟩,e.id,aT e.x,aT e.y])).length<=_;have:=fT [⟨#[109,111,118,101]⟩,e.id,aT e.x,aT e.y];simp only[cK,j7,length_nil]at this;omega
  have h10:(⟨#[10]⟩:B_).size=1:=rfl;refine Y (kc rG (hj _))<|Y kq<|Y aI<|V aI<|aC<|Ru ?_;rw[yA hne hw,show fR e=0 from a8 hne];exact Qq
 have h2:e.op≠2:=b_ D;rw[a8 h2]at o6;refine O cD<|Da<|Cn ?_ ?_<;>intro B
 ·have h3:e.op=3:=b9 B;rw[b7 h3,k_,j0]at o6;have hks:=dI o6.1;have hq:=rB e.val;have hw0:(⟨#[116,97,103]⟩:B_).size=3:=rfl;refine aM a7<|Cq (bA jO)<|Cq (bQ N_)<|Cq (bA nN)<|Cq (bQ N_)<|Cq (bA oP)<|Cq (bQ N_)<|Cq (kc call260 (tz e.val _ X))<|Cq (aK (([⟨#[116,97,103]⟩,e.id,e.key,⟨(cW e.val.data.toList).toArray⟩]:List B_).map S_) Z bD Z Z Z Z Z (iZ _))<|Cq aI<|bG<|Kr<|Sr<|Dm ?_;have hw:bs [⟨#[116,97,103]⟩,e.id,e.key,⟨(cW e.val.data.toList).toArray⟩]=gM e:=by
   rw[gM]
   (rw[a8 h2,b7 h3];rfl)
  have hne:e.op≠1:=X
  have hj:∀H,RC 204 [.pv (aL [⟨#[116,97,103]⟩,e.id,e.key,⟨(cW e.val.data.toList).toArray⟩]),sv ⟨#[32]⟩] (sv ⟨(bT [32] (bs [⟨#[116,97,103]⟩,e.id,e.key,⟨(cW e.val.data.toList).toArray⟩])).toArray⟩) H:=λH=>wT [⟨#[116,97,103]⟩,e.id,e.key,⟨(cW e.val.data.toList).toArray⟩] ⟨#[32]⟩ H E_ l5;have hjs:(⟨(bT [32] (bs [⟨#[116,97,103]⟩,e.id,e.key,⟨(cW e.val.data.toList).toArray⟩])).toArray⟩:B_).size<=70000:=by
   show (bT [32] (bs [⟨#[116,97,103]⟩,e.id,e.key,⟨(cW e.val.data.toList).toArray⟩])).length<=_;have:=fT [⟨#[116,97,103]⟩,e.id,e.key,⟨(cW e.val.data.toList).toArray⟩];simp only[cK,j7,length_nil]at this;omega
  have h10:(⟨#[10]⟩:B_).size=1:=rfl;refine Y (kc rG (hj _))<|Y kq<|Y aI<|V aI<|aC<|Ru ?_;rw[yA hne hw,show fR e=0 from a8 hne];exact Qq
 have h3:e.op≠3:=b_ B;rw[a8 h3]at o6;refine O cD<|Da<|Cn ?_ ?_<;>intro hc4
 ·have h4:e.op=4:=b9 hc4;rw[b7 h4,k_,k_,j0,j0,all_eq_true]at o6;have ⟨⟨r1,r2⟩,r3⟩:=o6;have hrs:cX e.refs<=24*e.refs.length:=pA (λs hs=>dI (r3 s hs));have hw0:(⟨#[114,101,102,115]⟩:B_).size=4:=rfl;have hfl:(([[⟨#[114,101,102,115]⟩,e.id],e.refs]:List (List B_)).flatten).length<2^40:=G_
  refine Rd (bA jO)<|Y (bQ N_)<|Y (aK (([⟨#[114,101,102,115]⟩,e.id]:List B_).map S_) Z bD Z Z Z Z Z (iZ _))<|Y (bA iM)<|Y (bQ aG)<|Y (aK (([[⟨#[114,101,102,115]⟩,e.id],e.refs]:List (List B_)).map (λl=>[.sl (l.map S_)])) Z GK Z Z Z Z Z H_)<|Y (kc call47 (kT [[⟨#[114,101,102,115]⟩,e.id],e.refs] _ F_ hfl))<|V aI<|Sr<|Dm ?_;rw[show ([[⟨#[114,101,102,115]⟩,e.id],e.refs]:List (List B_)).flatten=⟨#[114,101,102,115]⟩::e.id::e.refs by simp];have hw:bs (⟨#[114,101,102,115]⟩::e.id::e.refs)=gM e:=by
   rw[gM]
   (rw[a8 h2,a8 h3,b7 h4];rfl)
  have hne:e.op≠1:=X
  have hj:∀H,RC 204 [.pv (aL (⟨#[114,101,102,115]⟩::e.id::e.refs)),sv ⟨#[32]⟩] (sv ⟨(bT [32] (bs (⟨#[114,101,102,115]⟩::e.id::e.refs))).toArray⟩) H:=λH=>wT (⟨#[114,101,102,115]⟩::e.id::e.refs) ⟨#[32]⟩ H E_ l5;have hjs:(⟨(bT [32] (bs (⟨#[114,101,102,115]⟩::e.id::e.refs))).toArray⟩:B_).size<=70000:=by
   show (bT [32] (bs (⟨#[114,101,102,115]⟩::e.id::e.refs))).length<=_;have:=fT (⟨#[114,101,102,115]⟩::e.id::e.refs);simp only[cK,j7,length_nil]at this;omega
  have h10:(⟨#[10]⟩:B_).size=1:=rfl;refine Y (kc rG (hj _))<|Y kq<|Y aI<|V aI<|aC<|Ru ?_;rw[yA hne hw,show fR e=0 from a8 hne];exact Qq
 have h4:e.op≠4:=b_ hc4;rw[a8 h4]at o6;refine O cD<|Da<|Cn ?_ ?_<;>intro w
 ·have z:e.op=5:=b9 w;have hw0:(⟨#[100,114,111,112]⟩:B_).size=4:=rfl;refine Rd (bA jO)<|Y (bQ N_)<|Y (aK (([⟨#[100,114,111,112]⟩,e.id]:List B_).map S_) Z bD Z Z Z Z Z (iZ _))<|V aI<|Sr<|Dm ?_;have hw:bs [⟨#[100,114,111,112]⟩,e.id]=gM e:=by
   rw[gM]
   (rw[a8 h2,a8 h3,a8 h4,b7 z];rfl)
  have hne:e.op≠1:=X
  have hj:∀H,RC 204 [.pv (aL [⟨#[100,114,111,112]⟩,e.id]),sv ⟨#[32]⟩] (sv ⟨(bT [32] (bs [⟨#[100,114,111,112]⟩,e.id])).toArray⟩) H:=λH=>wT [⟨#[100,114,111,112]⟩,e.id] ⟨#[32]⟩ H E_ l5;have hjs:(⟨(bT [32] (bs [⟨#[100,114,111,112]⟩,e.id])).toArray⟩:B_).size<=70000:=by
   show (bT [32] (bs [⟨#[100,114,111,112]⟩,e.id])).length<=_;have:=fT [⟨#[100,114,111,112]⟩,e.id];simp only[cK,j7,length_nil]at this;omega
  have h10:(⟨#[10]⟩:B_).size=1:=rfl;refine Y (kc rG (hj _))<|Y kq<|Y aI<|V aI<|aC<|Ru ?_;rw[yA hne hw,show fR e=0 from a8 hne];exact Qq
 have z:e.op≠5:=b_ w;rw[a8 z]at o6;refine O cD<|Da<|Cn ?_ ?_<;>intro hc6
 ·have d_:e.op=6:=b9 hc6;rw[b7 d_,k_]at o6;have hns:=dI o6.1;have y:=dI o6.2;have hw0:(⟨#[115,112,108,105,116]⟩:B_).size=5:=rfl;refine Rd (bA jO)<|Y (bQ N_)<|Y (bA qQ)<|Y (bQ N_)<|Y (bA kM)<|Y (bQ N_)<|Y (aK (([⟨#[115,112,108,105,116]⟩,e.id,e.node,e.other]:List B_).map S_) Z bD Z Z Z Z Z (iZ _))<|V aI<|Sr<|Dm ?_;have hw:bs [⟨#[115,112,108,105,116]⟩,e.id,e.node,e.other]=gM e:=by
   rw[gM]
   (rw[a8 h2,a8 h3,a8 h4,a8 z,b7 d_];rfl)
  have hne:e.op≠1:=X
  have hj:∀H,RC 204 [.pv (aL [⟨#[115,112,108,105,116]⟩,e.id,e.node,e.other]),sv ⟨#[32]⟩] (sv ⟨(bT [32] (bs [⟨#[115,112,108,105,116]⟩,e.id,e.node,e.other])).toArray⟩) H:=λH=>wT [⟨#[115,112,108,105,116]⟩,e.id,e.node,e.other] ⟨#[32]⟩ H E_ l5;have hjs:(⟨(bT [32] (bs [⟨#[115,112,108,105,116]⟩,e.id,e.node,e.other])).toArray⟩:B_).size<=70000:=by
   show (bT [32] (bs [⟨#[115,112,108,105,116]⟩,e.id,e.node,e.other])).length<=_;have:=fT [⟨#[115,112,108,105,116]⟩,e.id,e.node,e.other];simp only[cK,j7,length_nil]at this;omega
  have h10:(⟨#[10]⟩:B_).size=1:=rfl;refine Y (kc rG (hj _))<|Y kq<|Y aI<|V aI<|aC<|Ru ?_;rw[yA hne hw,show fR e=0 from a8 hne];exact Qq
 have d_:e.op≠6:=b_ hc6;rw[a8 d_]at o6;have y:=dI o6;have hw0:(⟨#[106,111,105,110]⟩:B_).size=4:=rfl;refine Rd (bA jO)<|Y (bQ N_)<|Y (bA kM)<|Y (bQ N_)<|Y (aK (([⟨#[106,111,105,110]⟩,e.id,e.other]:List B_).map S_) Z bD Z Z Z Z Z (iZ _))<|V aI<|Sr<|Dm ?_;have hw:bs [⟨#[106,111,105,110]⟩,e.id,e.other]=gM e:=by
  rw[gM]
  (rw[a8 h2,a8 h3,a8 h4,a8 z,a8 d_];rfl)
 have hne:e.op≠1:=X
 have hj:∀H,RC 204 [.pv (aL [⟨#[106,111,105,110]⟩,e.id,e.other]),sv ⟨#[32]⟩] (sv ⟨(bT [32] (bs [⟨#[106,111,105,110]⟩,e.id,e.other])).toArray⟩) H:=λH=>wT [⟨#[106,111,105,110]⟩,e.id,e.other] ⟨#[32]⟩ H E_ l5;have hjs:(⟨(bT [32] (bs [⟨#[106,111,105,110]⟩,e.id,e.other])).toArray⟩:B_).size<=70000:=by
  show (bT [32] (bs [⟨#[106,111,105,110]⟩,e.id,e.other])).length<=_;have:=fT [⟨#[106,111,105,110]⟩,e.id,e.other];simp only[cK,j7,length_nil]at this;omega
 have h10:(⟨#[10]⟩:B_).size=1:=rfl;refine Y (kc rG (hj _))<|Y kq<|Y aI<|V aI<|aC<|Ru ?_;rw[yA hne hw,show fR e=0 from a8 hne];exact Qq
theorem P1:∀ {l} {acc},(rJ acc l).2=0->(∀e∈l,fR e=0)/\rJ acc l=(acc++l.flatMap λe=>fM e++[10],0)/\(acc.length<=20000->(rJ acc l).1.length<=20000)
 | [],acc,_=>⟨(λe h=>by cases h),by rw[rJ,List.flatMap_nil,List.append_nil],λh=>h⟩
 |e::l,acc,h=>by
  rw[rJ]at h |-;by_cases b:fR e≠0\/20000<(acc++(fM e++[10])).length
  ·simp_all
  rw[a8 b]at h |-;obtain ⟨i1,i2,i3⟩:=P1 h
  simp_all
theorem IF{l}(h:lG l=true):l≠[]/\∀e∈l,fX e=true:=by
 rw[lG,k_]at h
 grind
theorem Pv(w):Lib.trimSuffix (w++[10]) [10]=w:=by rw[Lib.trimSuffix,Lib.hasSuffix];simp
theorem EK{l}(h:(dW l).2=0):iD (dW l).1=(l,0):=by
 have b:lG l=true:=by
  rw[dW]at h
  grind
 have ⟨hne,d⟩:=IF b;rw[dW,b7 b]at h;have ⟨c,f,h3⟩:=P1 h;rw[nil_append]at f;have j:dW l=(a_ (l.flatMap λe=>fM e++[10]),0):=by rw[dW,b7 b,f]
 have hsz:(a_ (l.flatMap λe=>fM e++[10])).size<=20000:=by rw[bZ];simp_all
 have hl:(rD (a_ (l.flatMap λe=>fM e++[10])).data.toList).map (λs=>nM (Lib.trimSuffix s [10]))=l:=by
  have g:=G7 (λw i=>by
   obtain ⟨e,a,rfl⟩:=mem_map.1 i;exact(LV (d e a) (c e a)).2)
  rw[flatMap_map]at g;rw[cG,g,map_map,map_map];refine(map_congr_left λe a=>?_).trans (map_id l);show nM _=e;rw[Pv];exact(LV (d e a) (c e a)).1
 rw[j,iD]
 simp_all
end Go.Proofs.YtopnleflllkbmaaGreatDoor
