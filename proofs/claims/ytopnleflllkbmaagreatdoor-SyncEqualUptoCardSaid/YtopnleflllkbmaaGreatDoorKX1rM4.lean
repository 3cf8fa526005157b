/-
  Parts of the proof. Conditions: each theorem's own.
-/
import Derived.Test.YtopnleflllkbmaaGreatDoorKX1rM3
import Derived.Laws.BitsLemmas
import Derived.Below
import Derived.Shelf.Strconv.ErrVarAll
import Derived.Shelf.Strconv.AtoiAll
import Derived.Shelf.LaysC
import Derived.Shelf.Strings.SlTrimAscii
import Derived.WideLaws
import Derived.Laws.Build
import Derived.Lib.Strings
import Derived.Lib.AtoiTie
import Derived.Lib.ItoaMem
set_option linter.unusedVariables false
set_option linter.unusedSimpArgs false
set_option maxRecDepth 100000
set_option maxHeartbeats 8000000
namespace Go.Proofs
open Tryz
theorem vO:type_of% call121:=call121
theorem Bg:type_of% call155:=call155
theorem Bf:type_of% call194:=call194
theorem AN:type_of% call208:=call208
theorem TD:type_of% call244:=call244
theorem AJ:type_of% call287:=call287
theorem K9:type_of% call30:=call30
theorem K8:type_of% call47:=call47
theorem Ay:type_of% func137:=func137
theorem Aw:type_of% func194:=func194
theorem DN:type_of% isAgg131:=isAgg131
theorem nD:type_of% isAgg185:=isAgg185
theorem iS:type_of% isAgg189:=isAgg189
theorem mX:type_of% isAgg25:=isAgg25
theorem NB:type_of% isAgg299:=isAgg299
theorem gO:type_of% isAgg48:=isAgg48
theorem jV:type_of% isAgg49:=isAgg49
theorem gy:type_of% ntmps137:=ntmps137
theorem gw:type_of% ntmps194:=ntmps194
theorem IM:type_of% sizeOf131:=sizeOf131
theorem nT:type_of% sizeOf185:=sizeOf185
theorem IL:type_of% sizeOf266:=sizeOf266
theorem As:type_of% underlying21:=underlying21
end Go.Proofs
namespace Go.Proofs.YtopnleflllkbmaaGreatDoor
open Go.Proofs.Tryz
open Go.Abs
abbrev HXJ:B_:=⟨#[48,49,50,51,52,53,54,55,56,57,97,98,99,100,101,102]⟩
theorem Jm{n}(h:n<16):Lib.indexByte HXJ.data.toList (wR n).toNat.toUInt8=n:=by revert n;decide
theorem oc(m){k}(b:k<16):aZ (EX m) k=wR (T6 (Bl m) k):=by have a:=uc (EF (Bl m) k);have e:(EX m).data.toList=BJ (Bl m):=rfl;rw[aZ,e,BJ,r6,List.getElem?_range b];show ((UInt8.ofNat _).toNat:Int)=_;rw[UInt8.toNat_ofNat',Nat.mod_eq_of_lt X,Int.toNat_of_nonneg a.1]
theorem Kj(m){k}(a:k<16):(dJ m)[k]?=some (T6 (Bl m) k):=by rw[dJ,r6,List.getElem?_range a];rfl
theorem Ud(m){k}(a:k<16):(Bs m).getD k 0=T6 (Bl m) k:=by rw[List.getD_eq_getElem?_getD,Bs,List.getElem?_append_left (a),Kj m a];rfl
theorem aA0(m):(Bs m).getD 16 0=GK m / 16:=rfl
theorem aAZ(m):(Bs m).getD 17 0=GK m % 16:=rfl
def JF(m:B_)(k:Nat):Nat:=(((dJ m).take k).map (15 - ·)).sum
theorem js(m){k}(a:k<16):JF m (k+1)=JF m k+(15 - T6 (Bl m) k):=by rw[JF,List.take_add_one,Kj m a,List.map_append,List.sum_append];rfl
theorem Fh(m)(k):JF m k<=240:=by
 have h:=P0 ((dJ m).take k);have h2:((dJ m).take k).length<=16:=by rw[q7,aA3];omega
 rw[JF];omega
theorem xh(m):JF m 16=GK m:=rfl
def mc(m:B_):Ob:=bx 1 9 [sv m]
theorem zk(m)(H)(b:H.get 961=none):aS Tryz.prog 171 [sv m] H (fun r H'=>r=.clo 225 [.ref 961 0 0 0]/\H'=(961,mc m)::H):=by refine Bd func171 Z ntmps171<|C (uP Z Z Z Z b)<|O U<|C (gT Z Z)<|O U<|aC ?_;refine cR (.inr Z) Z (aJ Z) Fin.refl Qq
theorem zm(m:B_)(o:AV)(d:Nat->aF)(hm:m.size<2^40)(u:∀k,(d k).get 961=some (mc m))
  (p:∀k:Nat,k<18->dF Tryz.prog o [iv (k:Int),iv (((Bs m).getD k 0:Nat):Int)] (d k) (fun r H'=>r=bv true/\H'=d (k+1))) :
  aS Tryz.prog 225 [o,.ref 961 0 0 0] (d 0) (fun r H'=>r=.tup []/\H'=d 18):=by
 have s:=rG m;have g:=fun H=>qk m H X;have f:=p 16 E_;have j:=p 17 E_;have hle:=aq m;rw[aA0]at f;rw[aAZ]at j;refine Bd func225 Z ntmps225<|Sz U<|C (aX Z N_ Z (u 0) Z Z Z)<|Y (kc Bh (g _))<|O U<|S<|C V<|Y (gR U_)<|O V<|aD<|bC (σ:=Nat) (fun k=>([(0,o),(1,.ref 961 0 0 0),(3,iv (JF m k:Int)),(4,sv (EX m)),(10,iv 16),(11,iv (k:Int))],d k)) (fun k=>k<=16) (fun k=>16 - k) 0 (l6 _) ?_ ?_
 ·rw[s];exact E0
 intro k hk;have c:=fun(h:k<16)=>p k X;refine Sz cM<|S<|Cn ?_ ?_<;>intro i
 ·have b:k<16:=I_ i
  have c:=c b;rw[Ud m b]at c;have t:=EF (Bl m) k;have hr1:=Fh m k;have hr2:=js m b;have e:=fun H=>rW HXJ (wR (T6 (Bl m) k)) H;rw[Jm t]at e;refine aA<|S<|aD<|C V<|O U<|C V<|Y V<|Y (cV Z U_ Z Z X (l8 _) X (oc m b))<|Y (kc AO (e _))<|O U<|C V<|Y V<|Y (by exact dV Z Z Z (show IntKind.i64.wrap (15 - (T6 (Bl m) k:Int))=((15 - T6 (Bl m) k:Nat):Int)by rw[pW X X];omega))<|Y (by exact eQ Z Z Z (show IntKind.i64.wrap ((JF m k:Int)+((15 - T6 (Bl m) k:Nat):Int))=(JF m (k+1):Int)by rw[pW X X];omega))<|O U<|C V<|Y V<|Y V<|Y (cZ Z Z Z (c))<|O iW ?_;refine Cn ?_ ?_<;>intro l
  ·cases l
  refine aA<|Rd kp<|O V ?_;exact⟨k+1,X,X,E0⟩
 have n:k=16:=J_ i
 subst n;rw[xh];refine aP<|C V<|Y V<|Y (by exact CI Z Z Z E_ (show IntKind.i64.wrap (((GK m:Nat):Int).tdiv 16)=((GK m / 16:Nat):Int)by rw[Int.tdiv_eq_ediv_of_nonneg X,pW X X];omega))<|O (cZ Z Z Z (f)) ?_;refine Cn ?_ ?_<;>intro q
 ·refine Rd V<|Y V<|Y (by exact zB Z Z Z E_ (show ((GK m:Nat):Int).tmod 16=((GK m % 16:Nat):Int)by rw[Int.tmod_eq_emod_of_nonneg X];omega))<|O (cZ Z Z Z (j)) ?_;exact oO (H':=d 18) (.inl Z) Z Fin.refl ⟨Z,Z⟩
 cases q
theorem Nr{a b:Nat}(e:a<2^62)(f:b<2^62):bits .xor .i64 a b=((a ^^^ b)):=by have h:=Nat.xor_lt_two_pow (n:=62) e f;have d:a % 2 ^ IntKind.i64.bits=a:=Nat.mod_eq_of_lt (Nat.lt_of_lt_of_le e E_);have c:b % 2 ^ IntKind.i64.bits=b:=Nat.mod_eq_of_lt (Nat.lt_of_lt_of_le f E_);simp[bits,BitVec.ofInt_natCast,BitVec.toNat_xor,BitVec.toNat_ofNat,d,c];rw[pW X X]
theorem Uf{p}[Decidable p](h:¬ p):AV.pv (.bool (decide p))=bv false:=F_
def xd(s:B_)(i:Nat)(m:B_)(k:Nat):List B_:=(List.range k).map fun k=>NW (oW s i k) ((Bs m).getD k 0)
theorem Em(s)(i)(m)(k):xd s i m (k+1)=xd s i m k++[NW (oW s i k) ((Bs m).getD k 0)]:=by rw[xd,List.range_succ,List.map_append];rfl
theorem Pl(s)(i)(m)(k):(xd s i m k).length=k:=by simp[xd]
theorem cL.eqJ{P}{N}{o}{E}{H H2}{v a}(h:cL P N o E H v H2)(e:v=a):cL P N o E H a H2:=e▸h
def sgE:cY:=[(4,.ref 4 0 0 0),(6,.ref 6 0 0 0),(10,.ref 10 0 0 0)]
def sgT(s:B_)(i:Nat):aF:=[(8,bx 3 48 [iv 0,.pv (.sl []),.pv (.sl [])]),(6,bx 1 3 [iv (i:Int)]),(4,bx 1 9 [sv s])]
def sgK(s:B_)(i:Nat)(m:B_)(L:List B_):aF:=[(905,⟨L.length,1,9,bZ L⟩),(10,bx 3 48 [iv (i:Int),.osl 905 L.length 0 L.length,.pv .nils]),(961,mc m),(8,bx 3 48 [iv 0,.pv (.sl []),.pv (.sl [])]),(6,bx 1 3 [iv (i:Int)]),(4,bx 1 9 [sv s])]
theorem Pm(s)(i)(m)(L)(x):sgK s i m (L++[x])=[(905,⟨L.length+1,1,9,bZ (L++[x])⟩),(10,bx 3 48 [iv i,.osl 905 (L.length+1) 0 (L.length+1),.pv .nils]),(961,mc m),(8,bx 3 48 [iv 0,.pv (.sl []),.pv (.sl [])]),(6,bx 1 3 [iv i]),(4,bx 1 9 [sv s])]:=by simp[sgK]
theorem RU(H)(m):∀r∈(mc m).rows,∀a∈r,Clo H a:=by intro r c a b;simp[mc,bx,q9]at c;subst c;rw[q9]at b;subst b;simp
instance(H)(m):W_ (H) ((mc m).rows):=⟨RU H m⟩
theorem Pi(s m:B_)(h i:Nat)(H:aF)(hs:s.size<2^40)(hm:m.size<2^40)(K:h<=8)(hi:i<2 ^ h):
  RC 119 [sv s,iv (h:Int),iv (i:Int),sv m] (.tup [.agg [iv (i:Int),.pv (aL (jh s i m)),.pv (aL (xM h (xR s h) i))],iv 0]) H:=by
 refine Pu ?_;have f:=FP K;have hsh:=Xt K;have hkeys:=fun H=>Te s h H hs K;have A_:=VU s h;have hpath:∀L,L=xM h (xR s h) i->True:=fun _ _=>trivial;refine Bd func119 Z ntmps119<|C (kb 4)<|Y (kb 6)<|Y (kl 8 ZQ)<|O U<|S<|S<|aN a7<|Cq V<|Cq (cL.eqJ (iC Z Z Z) (Uf X))<|Cq V<|Nf V<|Nf (cL.eqJ (JZ Z Z Z) (Uf X))<|Cq cE<|Cq V<|Nf (bS M_)<|Nf (cL.eqJ (iC Z Z Z) (Uf X))<|Cq cE<|Cq V<|Nf (bS M_)<|Nf V<|Nf (by exact OX Z Z Z X (by simp[IntKind.bits];omega) hsh)<|Nf (cL.eqJ (jN Z Z Z) (Uf X))<|Cq cE<|bL<|Kr ?_;refine Cn ?_ ?_<;>intro u_
 ·cases u_
 refine aA<|C (bS M_)<|Y (oN aCf)<|Y (kl 10 ZQ)<|Uu (iZ sizeOf48)<|Zz<|S<|C V<|O (kc call171 (zk m _ Z))<|aD ?_;refine fZ.ent (E':=[(1,iv (h:Int)),(4,.ref 4 0 0 0),(6,.ref 6 0 0 0),(8,.ref 8 0 0 0),(10,.ref 10 0 0 0),(35,.clo 225 [.ref 961 0 0 0])]) (H':=sgK s i m []) ?_ ?_
 ·exact (Q_ 905 1 9)
 refine oj (id:=904) (p:=36) (p2:=37) sgE Z call225 Z Z (by simp[sgE];exact⟨Z,Z,Z⟩) ?_;intro x P F hx3 hx4 W T;refine(zm m (.yld 904 0) (fun k=>(904,LR x sgE)::sgK s i m (xd s i m k)) hm (fun k=>rfl) ?_).mono ?_
 ·intro k hk;have hd:=aAY m _ (za (d:=0) (by rw[Ue];exact hk));have e_:=fun H=>qm s i k H hs X X;have hfl:=Pl s i m k;have D:=Em s i m k;have c_:=fun H=>uz (oW s i k) ((Bs m).getD k 0) H (by rw[D1];decide) X;obtain ⟨d,v_⟩:∃d,d=(Bs m).getD k 0:=X_;rw[<-v_]at hd D c_ |-;refine .inl ⟨904,0,Z,?_⟩;refine Nq [(4,.ref 4 0 0 0),(6,.ref 6 0 0 0),(10,.ref 10 0 0 0),(11,iv (k:Int)),(12,iv (d:Int))] (sgK s i m (xd s i m k)) P F hx3 hx4 W T Z Z Z Z Z ?_ ?_
  ·refine Sz U<|Rg<|Da ?_;exact(cJ.wk (Ea<|Ea<|Ea<|Eb<|Eb<|T_) (Hc (nU (by intro p f;simp only[sgE,l7,n_,or_false]at f;rcases f with rfl|rfl|rfl<;>(simp only[C6];rfl)))<|Hc (aW _ _)<|Ha<|Hc (RU _ _)<|Hb<|Hb<|Hb<|T_) ⟨Z,Z,Z,Z,Z,Z,Z,T_⟩)
  rw[D,Pm];refine aD<|aN a7<|Cr [10] (fun _ h=>fh vU h)<|Cr [10] (fun _ h=>lh aH h)<|Cr [4] (fun _ h=>lh N_ h)<|Cr [6] (fun _ h=>lh M_ h)<|Cr [] (fun _ _=>V)<|Cr [] (fun n c=>by exact bF Z Z call173 Z (e_ _))<|Cr [] (fun _ _=>V)<|Cr [] (fun n c=>by exact bF Z Z call172 Z (c_ _))<|Cr [] (fun n c=>by exact aK [[.str (NW (oW s i k) d)]] Z bH Z Z Z Z Z F_)<|Cp [905] (fun n c=>by exact cA (ps:=[[.str (NW (oW s i k) d)]]) Z bH wB Z ((c _ Z).trans Z) Z Z Z (eE _) Z F_ (m:=1) Z X Z (gP (xd s i m k) (NW (oW s i k) d)))<|Cr [10] (fun _ h=>fh vU h)<|Cp [10] (fun n c=>by exact cQ Z sizeOf22 Z Z Z ((c _ Z).trans Z) Z Z F_ (by simp only[Zl,S_];rfl) (by simp only[Zl,S_];rfl)) ?_;refine bL<|Kr ?_;exact⟨[(905,⟨(xd s i m k).length+1,1,9,bZ (xd s i m k++[NW (oW s i k) d])⟩),(10,bx 3 48 [iv (i:Int),.osl 905 ((xd s i m k).length+1) 0 ((xd s i m k).length+1),.pv .nils]),(961,mc m),(8,bx 3 48 [iv 0,.pv (.sl []),.pv (.sl [])]),(6,bx 1 3 [iv (i:Int)]),(4,bx 1 9 [sv s])],(cJ.wk T_ (Hc (nU (by intro p f;simp only[sgE,l7,n_,or_false]at f;rcases f with rfl|rfl|rfl<;>(simp only[C6];rfl)))<|Hc (aW _ _)<|Ha<|Hc (RU _ _)<|Hb<|Hb<|Hb<|T_) ⟨Z,Z,Z,Z,Z,Z,Z,T_⟩),Z,Z⟩
 rintro r H' ⟨rfl,rfl⟩;refine⟨x,_,Z,F_,Z,fun z=>?_⟩;rw[F,show xd s i m 18=jh s i m from rfl];obtain ⟨f_,hS⟩:∃f_,f_=jh s i m:=X_;rw[<-hS];have hol:(f_.map S_).length=f_.length:=g_ _;refine fZ.ent (cJ.fzG (id:=905) (E':=[(1,iv (h:Int)),(4,.ref 4 0 0 0),(6,.ref 6 0 0 0),(8,.ref 8 0 0 0),(10,.ref 10 0 0 0)]) (H':=(10,bx 3 48 [iv (i:Int),.pv (aL f_),.pv .nils])::sgT s i) (f_.map S_) Z (dU _) ?_ Z ?_ ?_) ?_
 ·intro p f;simp only[l7,n_,or_false]at f;rcases f with rfl|rfl|rfl|rfl|rfl
  ·exact⟨_,Z,.same H_⟩
  ·exact⟨_,Z,.same (by simp;rfl)⟩
  ·exact⟨_,Z,.same (by simp;rfl)⟩
  ·exact⟨_,Z,.same (by simp;rfl)⟩
  exact⟨_,Z,.same (by simp;rfl)⟩
 ·refine⟨⟨_,Z,Z,Z,Z,lZ Z (bG (.same H_) (bG (.osl ?_) (bG (.same H_) kX)))⟩,⟨_,Z,Z,Z,Z,eJ H_⟩,⟨_,Z,Z,Z,Z,eJ H_⟩,⟨_,Z,Z,Z,Z,eJ H_⟩,T_⟩;rw[r7,List.drop_zero,<-hol,List.take_length]
 ·exact T_
 refine S<|S<|aN a7<|Cq (bS N_)<|Cq V<|Cq (kc call174 (hkeys _))<|Cq (bS M_)<|Cq U<|Cq U<|bL<|Kr<|aD ?_;refine fZ.ent (E':=[(8,.ref 8 0 0 0),(10,.ref 10 0 0 0),(13,.pv (aL (xR s h))),(14,iv (i:Int))]) (H':=(906,⟨0,1,9,[]⟩)::(10,bx 3 48 [iv (i:Int),.pv (aL f_),.osl 906 0 0 0])::sgT s i) ?_ ?_
 ·exact (Q_ 906 1 9)
 refine WZ (fun(j:Nat) (l:List B_) (q:Nat) (A:List B_)=>([(8,.ref 8 0 0 0),(10,.ref 10 0 0 0),(13,.pv (aL l)),(14,iv (q:Int))],[(906,⟨A.length,1,9,bZ A⟩),(10,bx 3 48 [iv (i:Int),.pv (aL f_),.osl 906 A.length 0 A.length]),(8,bx 3 48 [iv 0,.pv (.sl []),.pv (.sl [])]),(6,bx 1 3 [iv (i:Int)]),(4,bx 1 9 [sv s])]))
  (fun j l q A=>l.length=2 ^ j/\q<2 ^ j/\A++xM j l q=xM h (xR s h) i/\(∀t∈l,t.size=16)/\j<=8/\A.length+j<=8) (fun j l q A=>j) h (xR s h) i [] ⟨A_,hi,Z,fun t o_=>jY (VV s h t o_),K,by rw[List.length_nil];omega⟩ ?_ ?_
 ·exact L_
 rintro j l q A ⟨hl,hq,o,hz,hj,hA⟩;have hml:(l.map S_).length=l.length:=g_ _;have hpj:=FP hj;refine S<|C V<|Y (fY aE)<|O jK<|Cn ?_ ?_<;>intro v
 ·have E:1<l.length:=I_ v
  obtain ⟨u,rfl⟩:∃u,j=u+1:=by
   cases j with
   |zero=>rw[hl]at E;exact absurd E E_
   |succ u=>exact⟨u,Z⟩
  have G:l.length=2*2 ^ u:=by rw[hl,Nat.pow_succ,Nat.mul_comm]
  have hpu:=FP (h:=u) X;have Q:q / 2<2 ^ u:=by rw[Nat.pow_succ]at hq;omega
  have hx:=pr q;have d_:q ^^^ 1<l.length:=by
   rw[hx]
   split<;>omega
  have g:(l.map S_)[q ^^^ 1]?=some (S_ (l.getD (q ^^^ 1) a6)):=by
   rw[r6,List.getD_eq_getElem?_getD,m8 d_];rfl
  have w:(A++[l.getD (q ^^^ 1) a6])++xM u (qd l) (q / 2)=xM h (xR s h) i:=by
   rw[<-o,List.append_assoc];rfl
  obtain ⟨e,he⟩:∃e,e=l.getD (q ^^^ 1) a6:=X_;obtain ⟨y,hy⟩:∃y,y=q ^^^ 1:=X_;have B:=Nr (a:=q) (b:=1) X E_;rw[<-he]at g w;rw[<-hy]at g B d_;have z_:(A++[e]).length=A.length+1:=by rw[j9];rfl
  refine aA<|S<|aD<|aN a7<|Cr [10] (fun _ h=>fh vT h)<|Cr [10] (fun _ h=>lh aH h)<|Cr [] (fun _ _=>V)<|Cr [] (fun _ _=>V)<|Cr [] (fun n c=>by exact pC Z H_ Z Z B)<|Cr [] (fun n c=>by exact bU Z bH Z Z X (l8 _) g Z)<|Cr [] (fun _ _=>(gG N_ (hi:=g)))<|Cr [] (fun n c=>by exact aK [[.str e]] Z bH Z Z Z Z Z R_)<|Cp [906] (fun n c=>by exact cA (ps:=[[.str e]]) Z bH wB Z ((c _ Z).trans Z) Z Z Z (eE _) Z R_ (m:=1) Z X Z (gP A e))<|Cr [10] (fun _ h=>fh vT h)<|Cp [10] (fun n c=>by exact cQ Z sizeOf22 Z Z Z ((c _ Z).trans Z) Z Z (by simp only[j7,List.length_nil];omega) (by simp only[Zl,S_];rfl) (by simp only[Zl,S_];rfl)) ?_;refine bL<|Kr<|Rd V<|Y (kc call175 (Va l (2 ^ u) _ G X hz))<|Y V<|Y (by exact CI Z Z Z E_ (show IntKind.i64.wrap ((q:Int).tdiv 2)=((q / 2:Nat):Int)by rw[Int.tdiv_eq_ediv_of_nonneg X,pW X X];omega))<|Y U<|Da ?_;refine⟨u,qd l,q / 2,A++[e],⟨OH _ _ G,Q,w,fun t o_=>jY (XD _ _ (j6 _) t o_),X,X⟩,X,?_⟩;dsimp only;rw[z_];exact L_
 have hge:l.length<=1:=J_ v
 have N:j=0:=by
  cases j with
  |zero=>rfl
  |succ u =>
   have:2 ^ (u+1)=2*2 ^ u:=by rw[Nat.pow_succ,Nat.mul_comm]
   have:0<2 ^ u:=Nat.two_pow_pos u;omega
 subst N;have R:A=xM h (xR s h) i:=by rw[<-o,xM,List.append_nil]
 have y_:(A.map S_).length=A.length:=g_ _;rw[<-R];refine aP<|S ?_;refine fZ.ent (cJ.fzG (id:=906) (E':=[(8,.ref 8 0 0 0),(10,.ref 10 0 0 0)]) (H':=(10,bx 3 48 [iv (i:Int),.pv (aL f_),.pv (aL A)])::sgT s i) (A.map S_) Z (dU _) ?_ Z ?_ ?_) ?_
 ·intro p f;simp only[l7,n_,or_false]at f;rcases f with rfl|rfl
  ·exact⟨_,Z,.same (by simp;rfl)⟩
  exact⟨_,Z,.same (by simp;rfl)⟩
 ·refine⟨⟨_,Z,Z,Z,Z,lZ Z (bG (.same H_) (bG (.same H_) (bG (.osl ?_) kX)))⟩,⟨_,Z,Z,Z,Z,eJ H_⟩,⟨_,Z,Z,Z,Z,eJ H_⟩,⟨_,Z,Z,Z,Z,eJ H_⟩,T_⟩;rw[r7,List.drop_zero,<-y_,List.take_length]
 ·exact T_
 refine Rd (by exact aV Z gO sizeOf48 Z Z Z Z (by simp only[Zl,S_];rfl) Z)<|Uu (iZ sizeOf48)<|O U<|aC ?_;refine iB (H':=[]) (.inr Z) Z (eY Z gO sizeOf48 Z Z Z (by simp only[Zl,S_];rfl) Z) (aJ Z) P_ ?_;exact Qq
end Go.Proofs.YtopnleflllkbmaaGreatDoor
namespace Go.Abs
open Go.RowKit
theorem Rel.below{I}{ι}{H}{w w'}(d:Below w.heap.size w w')(f:Rel I ι H w):Rel I ι H w'/\Step I ι H w I ι H w':=by
 have g:=d.block;have e:Step I ι H w I ι H w':=by
  refine⟨d.os,d.tape,d.output,d.size,fun a ha _=>?_,fun _ h=>h,fun _ h=>.inl h,fun _ h=>.inl h,fun b d _=>g b d,fun _ o h=>⟨o,h,j6 _,fun _=>⟨Z,Z,fun _=>j6 _⟩⟩⟩;unfold World.frozen?
  simp_all
 refine⟨⟨fun b h=>?_,fun j o k=>?_,f.inj,e.glob f⟩,e⟩
 ·have:=f.imm b h;have:=d.size;omega
 exact(f.obj j o k).keep Z (fun b c _ d=>⟨g b d,fun h=>h⟩) (fun r _ a _ v i=>i.mono f e)
end Go.Abs
namespace Go.Abs
open Go.Proofs
def aC2(v:Value):Prop:=∃t p,v=.iface t p
abbrev zh:PV:=.sat aC2
def pU(s:B_):Int×PV:=match Lib.atoiAll s.data.toList with
 |.ok v=>(v,MG)
 |.range=>(Lib.atoiSat s.data.toList,zh)
 |_=>(0,zh)
theorem atoi_c{P:Program}{ρ:Shelf.Ren}(L:LaysC.n172 P ρ){G1 G2:Nat}(B:(G1,GV.face)∈dz)(c_:P.globalNamed "strconv.ErrSyntax" = some G1)(F:(G2,GV.face)∈dz)(e_:P.globalNamed "strconv.ErrRange" = some G2)(s:B_)(hs:s.size<2^40)(H:aF):
  aS P (ρ.f 172) [.pv (.str s)] H (fun r H'=>r=.tup [.pv (.int .i64 (pU s).1),.pv (pU s).2]/\H'=H):=by
 intro I D w R Q K f_;obtain ⟨v,rfl⟩:∃v,R=#[v]:=by
  match R,K with
  |⟨[v]⟩,_=>exact⟨v,Z⟩
 have e1:=(f_ 0 v _ Z Z).str_inv;subst e1;have j:∀(g:String) (G:Nat),(G,GV.face)∈dz->P.globalNamed g=some G->∃t p,w.var? P g=some #[.iface t p]:=fun g G A_ z_=>by
  obtain ⟨_,cs,t,f,l,q,p,v_⟩:=Q.glob _ A_;subst v_;exact⟨q,p,by simp only[World.var?,z_,Option.bind_some,l]⟩
 have m:∀(n:Int) (x:Value) (a:PV) (d:World),RowKit.Below w.heap.size w d->(∀I H,VRel d I D H x (.pv a))->∃r H' E o o_,(Ending.returned (.tuple #[.int .i64 n,x]))=.returned o_/\(r=.tup [.pv (.int .i64 n),.pv a]/\H'=H)/\VRel d E o H' o_ r/\Rel E o H' d/\Step I D H w E o H' d:=fun n x a d u u_=>by
  obtain ⟨y_,W⟩:=Rel.below u Q;refine⟨_,_,I,D,_,Z,⟨Z,Z⟩,.tup Z fun i v b y l=>?_,y_,W⟩
  match i,y,l with
  |0,y,l=>cases y;cases l;exact .pv (.int _ _)
  |1,y,l=>cases y;cases l;exact u_ _ _
  |i+2,y,l=>simp at y
 rw[pU];cases h:Lib.atoiAll s.data.toList with
 | ok n =>
  refine(Any.strconv_Atoi_ok L s X n h w).mono ?_;rintro e d ⟨rfl,T⟩;have u:RowKit.Below w.heap.size w d:=by
   rcases T with rfl|⟨t,rfl⟩
   ·exact RowKit.Below.refl _ _
   exact Lib.bytesWorld_below w _ t
  exact m n .nilIface MG d u (fun _ _=>.pv (.sat Z Z))
 |range =>
  obtain ⟨t,p,A⟩:=j _ G2 F e_;refine(Any.strconv_Atoi_range_var L s X h t p w A).mono ?_;rintro e d ⟨N,rfl,_,_,u⟩;exact m _ _ zh d u (fun _ _=>.pv (.sat Z ⟨_,_,Z⟩))
 |_ =>
  obtain ⟨t,p,A⟩:=j _ G1 B c_;refine(Any.strconv_Atoi_syntax_var L s X h t p w A).mono ?_;rintro e d ⟨N,rfl,_,_,u⟩;exact m 0 _ zh d u (fun _ _=>.pv (.sat Z ⟨_,_,Z⟩))
theorem ir{P}{ρ}(L:Lays.n160 P ρ)(d:(P.info? (ρ.t 116)).map (fun i=>(i.zero,i.size))=some (some (.agg (Array.replicate 256 (.bool false))),256))(s c)(o:s.size<=9223372036854775807)(g:c.size<4294967281)
  (p:∀(j:Nat) b,c.data.toList[j]?=some b->b.toNat<128) (H) :
  aS P (ρ.f 160) [.pv (.str s),.pv (.str c)] H (fun r H'=>r=.pv (.str ⟨(Lib.trimS s.data.toList c.data.toList).toArray⟩)/\H'=H):=by
 intro I q w h m f k;obtain ⟨v,u,rfl⟩:∃v u,h=#[v,u]:=by
  match h,f with
  |⟨[v,u]⟩,_=>exact⟨v,u,Z⟩
 have x:=(k 0 v _ Z Z).str_inv;have n:=(k 1 u _ Z Z).str_inv;subst x n;refine(Any.strings_Trim_laid L d s c w o g p).mono ?_;rintro e w' ⟨rfl,y⟩;obtain ⟨t,l⟩:=Rel.below y m;exact⟨_,_,I,q,_,Z,⟨Z,Z⟩,.pv (.str _),t,l⟩
end Go.Abs
section
namespace Go.Proofs
open Go.RowKit Go.Sort Go.Shelf
def aEn:Go.Shelf.Ren:=⟨fun|160=>74|232=>123|231=>122|227=>124|234=>126|233=>125|236=>128|235=>127|228=>176|271=>179|151=>178|197=>177|120=>232|152=>231|260=>230|137=>199|119=>267|224=>268|225=>269|217=>250|266=>279|n=>n,fun|9=>9|4=>4|3=>3|5=>5|117=>150|116=>149|0=>0|124=>153|21=>21|105=>202|46=>157|119=>223|139=>279|138=>278|n=>n,fun|3=>0|4=>1|n=>n⟩
theorem aEt:Go.Proofs.Lays.n160 Tryz.prog aEn:={
  mixed:=by rfl
  f119:=Tryz.func267.trans C_
  f120:=Tryz.func232.trans C_
  f137:=Tryz.func199.trans C_
  f151:=Tryz.func178.trans C_
  f152:=Tryz.func231.trans C_
  f160:=Tryz.func74.trans C_
  f197:=Tryz.func177.trans C_
  f217:=Tryz.func250.trans C_
  f224:=Tryz.func268.trans C_
  f225:=Tryz.func269.trans C_
  f227:=Tryz.func124.trans C_
  f228:=Tryz.func176.trans C_
  f231:=Tryz.func122.trans C_
  f232:=Tryz.func123.trans C_
  f233:=Tryz.func125.trans C_
  f234:=Tryz.func126.trans C_
  f235:=Tryz.func127.trans C_
  f236:=Tryz.func128.trans C_
  f260:=Tryz.func230.trans C_
  f266:=Tryz.func279.trans C_
  f271:=Tryz.func179.trans C_
  t0:=DE
  a0:=ZG
  z0:=TA
  v0:=E8
  t3:=Tryz.underlying3
  a3:=Tryz.isAgg3
  z3:=Tryz.sizeOf3
  v3:=sF
  t4:=fC
  a4:=nC
  z4:=Tryz.sizeOf4
  v4:=iT
  t5:=dM
  a5:=uJ
  z5:=cI
  v5:=sE
  t9:=Tryz.underlying9
  a9:=Tryz.isAgg9
  z9:=Tryz.sizeOf9
  v9:=gL
  t21:=As
  a21:=Tryz.isAgg21
  z21:=Tryz.sizeOf21
  v21:=Tryz.zeroValue21
  t46:=lA
  a46:=DM
  z46:=AI
  v46:=tG
  t105:=Tryz.underlying202
  a105:=Tryz.isAgg202
  z105:=Tryz.sizeOf202
  v105:=Tryz.zeroValue202
  t116:=Tryz.underlying149
  a116:=Tryz.isAgg149
  z116:=Tryz.sizeOf149
  t117:=Tryz.underlying150
  a117:=Tryz.isAgg150
  z117:=Tryz.sizeOf150
  v117:=Tryz.zeroValue150
  t119:=gE
  a119:=aCx
  z119:=AH
  t124:=Tryz.underlying153
  a124:=Tryz.isAgg153
  z124:=Tryz.sizeOf153
  v124:=Tryz.zeroValue153
  t138:=Tryz.underlying278
  a138:=Tryz.isAgg278
  z138:=Tryz.sizeOf278
  v138:=Tryz.zeroValue278
  t139:=Tryz.underlying279
  a139:=Tryz.isAgg279
  z139:=Tryz.sizeOf279
  v139:=Tryz.zeroValue279
  g3:=by kernel_rfl
  g4:=by kernel_rfl}
end Go.Proofs
namespace Go.Proofs.YtopnleflllkbmaaGreatDoor
open Go.Proofs.Tryz
open Go.Abs
abbrev vj:B_:=⟨#[48,49,50,51,52,53,54,55,56,57,97,98,99,100,101,102]⟩
theorem aAJ(b):vj.data.toList.contains b=GE b:=by
 have h:∀n:Fin 256,vj.data.toList.contains (UInt8.ofNat n.1)=GE (UInt8.ofNat n.1):=by decide +kernel
 have:=h ⟨b.toNat,b.toNat_lt⟩
 simpa using this
theorem AE{α:Type}(p):∀l:List α,l.dropWhile p=[]↔l.all p=true
 | []=>by simp
 |a::r=>by
  rw[List.dropWhile_cons,List.all_cons];cases h:p a with
  |true=>exact AE p r
  |false=>simp_all
theorem GY{α:Type}{p q}:∀ {l:List α},(l.dropWhile p).all q=true->(∀a,p a=true->q a=true)->l.all q=true
 | [],_,_=>rfl
 | a::r,h,b=>by
  rw[List.dropWhile_cons]at h;cases c:p a with
  |true =>
   rw[c]at h;rw[List.all_cons,b a c];exact GY h b
  |false =>
   simp_all
theorem Z4(l):Lib.trimS l vj.data.toList=[]↔l.all GE=true:=by
 have e:=funext aAJ;unfold Lib.trimS Lib.trimLeftS Lib.trimRightS;rw[e,AE];constructor
 ·intro h;rw[List.all_reverse]at h;have c:=GY h (fun a d=>d)
  rwa [List.all_reverse]at c
 intro h;have c:=(AE _ _).2 (by rw[List.all_reverse];exact h);rw[c];rfl
theorem qe(s)(hs:s.size<2^40)(H):RC 74 [sv s,sv vj] (sv ⟨(Lib.trimS s.data.toList vj.data.toList).toArray⟩) H :=ir aEt (Z) s _ X E_ (ascii_of_all (Z)) H
theorem V2(s)(c:s.size<2^40)(H):RC 30 [sv s] (bv (l9 s)) H:=by
 refine Pu ?_;have b:=fun H=>qe s c H;have f:=Z4 s.data.toList;obtain ⟨t,d⟩:∃t,t=Lib.trimS s.data.toList vj.data.toList:=X_;rw[<-d]at b f;have hb:l9 s=(decide ((s.size:Int)=16)&&decide ((⟨t.toArray⟩)=a6)):=by
  rw[l9]
  grind
 refine Bd func30 Z ntmps30<|Sz U<|S<|aR (t:=2) (n:=10) (A_:=l9 s) ?_ ?_
 ·all_goals refine Y V<|Y (gR U_)<|Y cD<|Dm ?_<;>(refine Sp 6 (fun e=>?_) fun e=>?_)<;>(first|refine M<|M<|M ?_|refine J V<|J (bF Z Z call74 Z (b _))<|J xA ?_)<;>refine Y cE<|Da ?_<;>exact Gj (h:=by simp_all)
 exact aC<|Rt<|Qq
end Go.Proofs.YtopnleflllkbmaaGreatDoor
end
namespace Go.Proofs.YtopnleflllkbmaaGreatDoor
open Go.Proofs.Tryz
open Go.Abs
def oddJ(t:B_):Bool:=!l9 t
theorem Ai(l:List B_)(q):((List.range l.length).any fun k=>match l[k]? with|some s=>q s|none=>false)=l.any q:=by
 rw[Bool.eq_iff_iff,List.any_eq_true,List.any_eq_true];constructor
 ·grind
 rintro⟨s,a,h⟩;obtain ⟨k,hk⟩:=r_.1 a
 grind
theorem PD(l:List _):l.any oddJ=!l.all l9:=by
 induction l with
 |nil=>rfl
 |cons a r b=>rw[List.any_cons,List.all_cons,b,oddJ,Bool.not_and]
end Go.Proofs.YtopnleflllkbmaaGreatDoor
namespace Go.Abs
open Go.Proofs
section
section
variable{P:Program}{N:Nat}{o:Oper}{E:cY}{H:aF}{t t':TypeId}{x:Operand}
theorem RI(e:o.op=.binOp .neq t x (.const .nilIface) t')(d:P.underlying t=some (.interface (P.methodsAt t)))(f:aO E x=some (.pv MG)):cL P N o E H (.pv (.bool false)) H :=.of_run fun a w I ι _ b=>⟨.bool _,by
  have c:=(aI b f).sat_inv;have g:a.eval (.const _)=.nilIface:=rfl;simp[execOp,e,c,g,eqGuard,Sem.run_bind,Sem.run_pure,Result.andThen_ok,run_neq_nil_nil _ _ d,Bool.or_true,if_true,Bool.not_true,Bool.false_eq_true,if_false],.pv (.bool _)⟩
theorem HI(e:o.op=.binOp .neq t x (.const .nilIface) t')(d:P.underlying t=some (.interface (P.methodsAt t)))(f:aO E x=some (.pv zh)):cL P N o E H (.pv (.bool true)) H :=.of_run fun a w I ι _ b=>⟨.bool _,by
  obtain ⟨q,p,c⟩:=(aI b f).sat_inv;have g:a.eval (.const _)=.nilIface:=rfl;simp only[execOp,e,c,g,eqGuard,Sem.run_bind,Sem.run_pure,Result.andThen_ok,run_neq_held_nil _ _ _ _ d];rfl,.pv (.bool _)⟩
end
end
section
section
variable{P:Program}{N:Nat}{o:Oper}{E:cY}{H:aF}{t t' it:TypeId}{x:Operand}
theorem VRel.ifc_inv{w}{I}{ι}{v}{p}(h:VRel w I ι H v (.pv (.ifc t p))):∃u,v=.iface t u/\PRep w I u p:=by
 cases h with
 |pv h=>cases h with
  |ifc _ u _ h=>simp_all
theorem VRel.ifa_inv{w}{I}{ι}{v}{ps}(h:VRel w I ι H v (.pv (.ifa t ps))):∃cs,v=.iface t (.agg cs)/\cs.size=ps.length/\∀(k:Nat) (c) (p),cs[k]?=some c->ps[k]?=some p->PRep w I c p:=by
 cases h with
 |pv h=>cases h with
  |ifa _ cs _ hl h=>grind
theorem gA{p}(b:o.op=.makeInterface t x)(e:P.concrete t=true)(c:aO E x=some (.pv p)):cL P N o E H (.pv (.ifc t p)) H :=.of_run fun a w I ι _ d=>⟨.iface t _,by simp[execOp,b,run_makeInterface _ _ _ e],.pv (.ifc _ _ _ (aI d c).pv_inv)⟩
theorem JX{ps}(f:o.op=.makeInterface t x)(e:P.concrete t=true)(g:aO E x=some (.agg (ps.map .pv))):cL P N o E H (.pv (.ifa t ps)) H :=.of_run fun a w I ι _ i=>⟨.iface t (a.eval x),by simp[execOp,f,run_makeInterface _ _ _ e],by
  have h:=aI i g;generalize a.eval x=c at h;cases h with
  | @agg vs _ hl h1 d =>
   refine .pv (.ifa _ _ _ F_ fun k c p b hp=>?_);exact(d k c (.pv p) b F_).pv_inv⟩
theorem jm{d}{u}(w)(hd:P.underlying t=some d)(hni:∀c,d≠.interface c):(Instr.typeAssert (.iface t' u) it t true).run P w=if t'=t then .ok (.tuple #[u,.bool true]) w else((do pure (.tuple #[<-zeroValue t,.bool false])):Sem _).run P w:=by
 unfold Instr.typeAssert;rw[Sem.run_bind,run_underlying hd]
 simp_all
theorem EZ(h:P.concrete t=true):∃d,P.underlying t=some d/\∀a,d≠.interface a:=by
 unfold Program.concrete at h;cases hd:P.underlying t with
 |none=>simp_all
 |some d =>
  grind
theorem xN{p}(h:o.op=.typeAssert x it t true)(j:P.concrete t=true)(k:aO E x=some (.pv (.ifc t p))):cL P N o E H (.tup [.pv p,.pv (.bool true)]) H:=by
 obtain ⟨d,m,b⟩:=EZ j;refine .of_run fun a w I ι _ l=>?_;obtain ⟨u,f,g⟩:=(aI l k).ifc_inv;refine⟨.tuple #[u,.bool true],?_,?_⟩
 ·simp only[execOp,h,f];rw[Sem.run_bind,jm w m b,b6 rfl];rfl
 exact .tup Z (fun i v a e c=>by
  match i with
  |0=>cases e;cases c;exact .pv g
  |1=>cases e;cases c;exact .pv (.bool _)
  |i+2=>simp at c)
theorem RG{ps:List PV}(B:o.op=.typeAssert x it t true)(z:P.concrete t=true)(y:aO E x=some (.pv (.ifa t ps))):cL P N o E H (.tup [.agg (ps.map .pv),.pv (.bool true)]) H:=by
 obtain ⟨d,s,j⟩:=EZ z;refine .of_run fun a w I ι _ d_=>?_;obtain ⟨u,r,hl,A⟩:=(aI d_ y).ifa_inv;refine⟨.tuple #[.agg u,.bool true],?_,?_⟩
 ·simp only[execOp,B,r];rw[Sem.run_bind,jm w s j,b6 rfl];rfl
 have n:∀(k:Nat) (c:Value),u[k]?=some c->∃p,ps[k]?=some p/\PRep w I c p:=fun k c e=>by
  have f:k<ps.length:=G_
  exact⟨ps[k],m8 f,A k c _ e (m8 f)⟩
 exact .tup Z (fun i v a m h=>by
  match i with
  |0 =>
   cases m;cases h;refine .agg F_ (fun k c e=>?_) (fun k c b e q=>?_)
   ·obtain ⟨p,_,g⟩:=n k c e;exact g.oneCell
   obtain ⟨p,l,g⟩:=n k c e;rw[r6,l]at q;cases q;exact .pv g
  |1=>cases m;cases h;exact .pv (.bool _)
  |i+2=>simp at h)
theorem Vr{cells}(l:o.op=.typeAssert x it t true)(h:P.concrete t=true)(j:eN P t cells)(b:t'≠t)
  (m:∀(a) (w) (I) (ι),lL w I ι H E a->∃u,a.eval x=.iface t' u):cL P N o E H (.tup [.any,.pv (.bool false)]) H:=by
 obtain ⟨d,p,e⟩:=EZ h;obtain ⟨z,v0,f,_,_⟩:=j;refine .of_run fun a w I ι _ n=>?_;obtain ⟨u,k⟩:=m a w I _ n;refine⟨.tuple #[z,.bool false],?_,?_⟩
 ·simp only[execOp,l,k];rw[Sem.run_bind,jm w p e,a8 b,Sem.run_bind,f w];rfl
 exact .tup Z (fun i v a g c=>by
  match i with
  |0=>cases c;exact .any _
  |1=>cases g;cases c;exact .pv (.bool _)
  |i+2=>simp at c)
theorem mS{cells}{p}(f:o.op=.typeAssert x it t true)(c:P.concrete t=true)(d:eN P t cells)(hne:Nat.beq t' t=false)(g:aO E x=some (.pv (.ifc t' p))):cL P N o E H (.tup [.any,.pv (.bool false)]) H :=Vr f c d (fun e=>by simp_all) (fun a w I ι b=>let ⟨u,e,_⟩:=(aI b g).ifc_inv;⟨u,e⟩)
theorem CH{cells}{ps}(f:o.op=.typeAssert x it t true)(c:P.concrete t=true)(d:eN P t cells)(hne:Nat.beq t' t=false)(g:aO E x=some (.pv (.ifa t' ps))):cL P N o E H (.tup [.any,.pv (.bool false)]) H :=Vr f c d (fun e=>by simp_all) (fun a w I ι b=>let ⟨u,e,_⟩:=(aI b g).ifa_inv;⟨_,e⟩)
end
end
section
section
variable{P:Program}{N:Nat}{o:Oper}{E:cY}{H:aF}{T T' t:TypeId}{x y:Operand}
theorem LK{e f:TypeId}{ty:TypeId}{a:Array Value}(w:World)(d:P.underlying T=some (.slice e))(c:P.underlying T'=some (.slice f)):(Builtin.append_ #[T,T'] ty a).run P w=(Builtin.append_ #[T,T] ty a).run P w:=by
 unfold Builtin.append_;cases h0:a[0]? with
 |none=>rfl
 | some s =>
  cases h1:a[1]? with
  |none=>rfl
  |some u =>
   cases s<;>simp[Sem.run_bind,run_underlying d,run_underlying c]
theorem MA{e d}{v}{H2}(g:o.op=.call {callee:=.builtin .append,args:=#[x,y],argTypes:=#[T,T']})(i:P.underlying T=some (.slice e))(c:P.underlying T'=some (.slice d))
  (h:cL P N {o with op:=.call {callee:=.builtin .append,args:=#[x,y],argTypes:=#[T,T]}} E H v H2):cL P N o E H v H2:=by
 intro a w I ι j m k l K Q f;have b:=h a w I _ j m k l K Q f;unfold Oper.wpW execOp at b |-;simp[g,resolve,invoke,builtin,Sem.run_bind,Sem.run_pure,Result.andThen_ok,List.map_toArray,List.map_cons,List.map_nil,LK w i c]at b |-;exact b
theorem UH{e z}{id g n m k sz bytes:Nat}{ob}{ps}{rows'}(q:o.op=.call {callee:=.builtin .append,args:=#[x,y],argTypes:=#[T,T']})(i:P.underlying T'=some (.slice z))(hS:fG P T e sz)(d:EI P e sz bytes)
  (j:aO E x=some (.osl id g 0 n)) (u:H.get id=some ob) (w:ob.g=g) (c:ob.sz=sz) (f:ob.ty=e) (s:ob.rows.length=n)
  (l:aO E y=some (.pv (.sl ps))) (h:∀r∈ps,r.length=sz) (p:ps.length=m) (a:(n+m)*bytes<=140737488355328) (v:n+m=k) (b:ob.rows++ps.map (·.map AV.pv)=rows') :
  cL P N o E H (.osl id (g+1) 0 k) ((id,⟨g+1,sz,e,rows'⟩)::H) :=
 MA q hS.1 i (cA Z hS d j u w c f s l h p a v b)
end
end
end Go.Abs
namespace Go.Proofs.YtopnleflllkbmaaGreatDoor
open Go.Proofs.Tryz
open Go.Abs
variable{l:List _}
inductive IV where
 |n (x:Int)
 |t (s:B_)
 |b (x:Bool)
 |l (ts:List B_)
 |z (i:Int) (a b:List B_)
 |p (ps:List (Int×Int))
def kA(q:Int×Int):List PV:=[.int .i64 q.1,.int .i64 q.2]
def xJ(l:List (Int×Int)):PV:=.sl (l.map kA)
def aDo:IV->PV
 |.n x=>.ifc 3 (.int .i64 x)
 |.t s=>.ifc 9 (.str s)
 |.b x=>.ifc 4 (.bool x)
 |.l ts=>.ifc 22 (aL ts)
 |.z i a b=>.ifa 48 [.int .i64 i,aL a,aL b]
 |.p ps=>.ifc 49 (xJ ps)
def AD(v:IV):List PV:=[aDo v]
def fI:IV->List B_
 |.n x=>[aQ x]
 |.t s=>[s]
 |.b x=>[aQ (if x then 1 else 0)]
 |.l ts=>aQ (ts.length:Int)::ts
 |.z i a b=>aQ i::((aQ (a.length:Int)::a)++(aQ (b.length:Int)::b))
 |.p ps=>aQ (ps.length:Int)::ps.flatMap fun q=>[aQ q.1,aQ q.2]
def gI:IV->Nat
 |.n _=>1
 |.t _=>1
 |.b _=>1
 |.l _=>2
 |.z _ _ _=>5
 |.p ps=>1+2*ps.length
def Qb:IV->Nat
 |.n _=>0
 |.t _=>0
 |.b _=>1
 |.l _=>1
 |.z _ _ _=>2
 |.p _=>1
def qA(x:Int):Prop := -9223372036854775808<=x/\x<=9223372036854775807
def okI:IV->Prop
 |.n x=>qA x
 |.t _=>True
 |.b _=>True
 |.l ts=>ts.length<2^40
 |.z i a b=>qA i/\a.length<2^40/\b.length<2^40
 |.p ps=>ps.length<2^40/\∀q∈ps,qA q.1/\qA q.2
def yP(l:List IV):List B_:=l.flatMap fI
def uh(l:List IV):Nat:=(l.map gI).sum
theorem Kc{k}{v}(h:l[k]?=some v):yP (l.take (k+1))=yP (l.take k)++fI v:=by rw[List.take_add_one,h];simp[yP]
theorem Jw{k}{v}(h:l[k]?=some v):uh (l.take (k+1))=uh (l.take k)+gI v:=by rw[uh,List.take_add_one,h,List.map_append,List.sum_append];rfl
theorem aAS(l)(k):(yP (l.take k)).length<=(yP l).length:=by
 have h:yP l=yP (l.take k)++yP (l.drop k):=by rw[yP,yP,yP,<-List.flatMap_append,List.take_append_drop]
 rw[h,j9];omega
def fH(g:Nat)(L:List B_):aF:=[(971,⟨g,1,9,bZ L⟩),(970,bx 1 131 [.osl 971 g 0 L.length])]
theorem Kd(g)(L)(s):fH (g+1) (L++[s])=[(971,⟨g+1,1,9,bZ (L++[s])⟩),(970,bx 1 131 [.osl 971 (g+1) 0 (L.length+1)])]:=by simp[fH]
theorem dP{P:Program}{t}{d}(h:P.underlying t=some d)(hd:(match d with|.interface _=>false|_=>true)=true):P.concrete t=true:=by
 unfold Program.concrete
 grind
theorem SO(l:List _):∀r∈l.map AD,r.length=1:=fun r a=>by
 obtain ⟨t,_,rfl⟩:=List.mem_map.1 a;rfl
def Mt(r:Nat):Prop:=∀(l:List IV),(∀v∈l,Qb v<r/\okI v)->∀(g:Nat) (L:List B_),l.length<2^40->L.length+(yP l).length<2^40 ->
 aS Tryz.prog 121 [.ref 970 0 0 0,.pv (.sl (l.map AD))] (fH g L) (fun r H'=>r=.tup []/\H'=fH (g+uh l) (L++yP l))
def OW(ps:List (Int×Int)):List B_:=ps.flatMap fun q=>[aQ q.1,aQ q.2]
theorem OV:∀ps,(OW ps).length=2*ps.length
 | []=>rfl
 |q::r=>by
  have ih:=OV r;rw[show OW _=aQ _::aQ _::OW r from Z,j7,j7,j7];omega
theorem Gr{ps:List _}{j}{q}(h:ps[j]?=some q):OW (ps.take (j+1))=OW (ps.take j)++yP [.n q.1,.n q.2]:=by rw[OW,List.take_add_one,h,List.flatMap_append];rfl
theorem ga{args}{g d}{L c}{H}(h:aS Tryz.prog 121 args (fH g L) (fun r H'=>r=.tup []/\H'=fH d c))(e:HB H (fH g L))(f:∀a∈args,Clo (fH g L) a):
  aS Tryz.prog 121 args H (fun r H'=>r=.tup []/\H'=fH d c++H):=aS.frame h (HB.sub e) (dD.ofL ⟨(aW _ _),(by(simp;rfl)),T_⟩) f (fun id h=>.inl (tk h))
theorem gM(A b):bZ A++(b.map S_).map (·.map AV.pv)=bZ (A++b):=by rw[<-dU,bZ,bZ,bZ,List.map_append]
theorem Oq(a:List _):∀r∈a.map S_,r.length=1:=fun r b=>by
 obtain ⟨t,_,rfl⟩:=List.mem_map.1 b;rfl
theorem Tx(g)(A B):fH g (A++B)=[(971,⟨g,1,9,bZ (A++B)⟩),(970,bx 1 131 [.osl 971 g 0 (A.length+B.length)])]:=by simp[fH]
theorem Mg(r:Nat)(ih:∀q,q<r->Mt q):Mt r:=by
 intro l hl g L hll hLl;have hml:(l.map AD).length=l.length:=g_ _;have one:∀(y:Int),qA y->1<r->∀(g':Nat) (f_:List B_),f_.length+1<2^40->aS Tryz.prog 121 [.ref 970 0 0 0,.pv (.sl [AD (.n y)])] (fH g' f_) (fun r H'=>r=.tup []/\H'=fH (g'+1) (f_++[aQ y])):=fun y o_ h1 g' f_ hs =>
  ih 1 h1 [.n y] (fun v d_=>by rw[q9]at d_;subst d_;exact⟨by simp[Qb],o_⟩) g' f_ (by simp) hs
 refine Bd func121 Z ntmps121<|C V<|Y (fY underlying200)<|O V<|aD<|bC (σ:=Nat) (fun k=>([(0,.ref 970 0 0 0),(14,.pv (.sl (l.map AD))),(15,iv ((l.map AD).length:Int)),(16,iv (k:Int))],fH (g+uh (l.take k)) (L++yP (l.take k)))) (fun k=>k<=l.length) (fun k=>l.length - k) 0 (l6 _) ?_ ?_
 ·simp only[yP,uh,List.take_zero,List.flatMap_nil,List.map_nil,List.sum_nil,Nat.add_zero,List.append_nil];exact(cJ.wk (Ea<|Eb<|Eb<|Eb<|T_) (Hc (aW _ _)<|Ha<|T_) ⟨Z,Z,T_⟩)
 intro k hk;refine Sz cM<|S<|Cn ?_ ?_<;>intro hc1
 ·have hlt:k<l.length:=by have:=b9 hc1;omega
  obtain ⟨v,d_⟩:=aU hlt;obtain ⟨H,e_⟩:=hl v (m7 d_);have E:=cC (f:=AD) d_;have hfn:=Kc d_;have hgn:=Jw d_;have y_:=aAS l (k+1);rw[hfn]at y_;obtain ⟨L1,hL1⟩:∃L1,L1=L++yP (l.take k):=X_;obtain ⟨g1,hg1⟩:∃g1,g1=g+uh (l.take k):=X_;have D:L++yP (l.take (k+1))=L1++fI v:=by simp_all
  have A:g+uh (l.take (k+1))=g1+gI v:=by omega
  have hsz:L1.length+(fI v).length<2^40:=by
   grind
  have hwk:IntKind.i64.wrap ((k:Int)+1)=((k+1:Nat):Int):=by rw[pW (by omega) (by omega)];omega
  rw[<-hL1,<-hg1];clear hfn hgn y_;cases v with
  |n x =>
   have hx:qA x:=e_;have hsz:L1.length+1<2^40:=hsz;refine aA<|S<|aD<|C (by exact bU Z yW Z Z (by omega) (by rfl) E Z)<|Y (gG vM (hi:=E))<|O U<|Sz V<|aD<|C (by exact xN Z (dP underlying3 Z) Z)<|Y dH<|O dH<|Cn ?_ ?_<;>intro hc2
   ·refine Sz U<|aN a7<|Cr [970] (fun _ _=>V)<|Cr [970] (fun _ _=>V)<|Cr [970] (fun A_ I=>by exact dK Z Z ((I _ Z).trans Z) Z)<|Cr [970] (fun _ h=>lh DN h)<|Cr [] (fun _ _=>V)<|Cr [] (fun A_ I=>by exact bF Z Z lQ Z (pL x hx.1 hx.2 _))<|Cr [] (fun A_ I=>by exact aK [[.str (aQ x)]] Z QD Z Z Z Z Z (by simp_all))<|Cp [971] (fun A_ I=>by exact cA (ps:=[[.str (aQ x)]]) Z QD wB Z ((I _ Z).trans Z) Z Z Z (eE _) Z (by simp_all) (m:=1) Z (by omega) Z (gP L1 (aQ x)))<|Cr [970] (fun A_ I=>by exact dK Z Z ((I _ Z).trans Z) Z)<|Cp [970] (fun _ h=>sa IM h) ?_;refine bL<|Kr<|Rd (ka hwk)<|O V ?_;refine⟨k+1,by omega,by omega,?_⟩;dsimp only;rw[D,A,show fI (.n x)=[aQ x]from Z,show gI (.n x)=1 from Z,Kd];exact(cJ.wk (Ea<|Eb<|Eb<|Eb<|T_) (Hc (aW _ _)<|Ha<|T_) ⟨Z,Z,T_⟩)
   cases hc2
  |t s =>
   have hsz:L1.length+1<2^40:=hsz;refine aA<|S<|aD<|C (by exact bU Z yW Z Z (by omega) (by rfl) E Z)<|Y (gG vM (hi:=E))<|O U<|Sz V<|aD<|C (by exact mS Z (dP underlying3 Z) Wt Z Z)<|Y dH<|O dH<|Cn ?_ ?_<;>intro hc3
   ·cases hc3
   refine C (by exact xN Z (dP U_ Z) Z)<|Y dH<|O dH<|Cn ?_ ?_<;>intro hc4
   ·refine Sz U<|Rd V<|Y V<|Y sD<|Y (bS DN)<|Y V<|Y (by exact aK [[.str s]] Z QD Z Z Z Z Z (by simp_all))<|Y (by exact cA (ps:=[[.str s]]) Z QD wB Z Z Z Z Z (eE _) Z (by simp_all) (m:=1) Z (by omega) Z (gP L1 s))<|Y sD<|Uu (iZ IM)<|Zz<|Rd (ka hwk)<|O V ?_;refine⟨k+1,by omega,by omega,?_⟩;dsimp only;rw[D,A,show fI (.t s)=[s]from Z,show gI (.t s)=1 from Z,Kd];exact(cJ.wk (Ea<|Eb<|Eb<|Eb<|T_) (Hc (aW _ _)<|Ha<|T_) ⟨Z,Z,T_⟩)
   cases hc4
  |b x =>
   have B:1<r:=H;have hsz:L1.length+1<2^40:=hsz;refine aA<|S<|aD<|C (by exact bU Z yW Z Z (by omega) (by rfl) E Z)<|Y (gG vM (hi:=E))<|O U<|Sz V<|aD<|C (by exact mS Z (dP underlying3 Z) Wt Z Z)<|Y dH<|O dH<|Cn ?_ ?_<;>intro hc5
   ·cases hc5
   refine C (by exact mS Z (dP U_ Z) Nn Z Z)<|Y dH<|O dH<|Cn ?_ ?_<;>intro hc6
   ·cases hc6
   refine C (by exact xN Z (dP fC Z) Z)<|Y dH<|O dH<|Cn ?_ ?_<;>intro hc7
   ·refine Sz U<|Rd V<|Y (by exact uZ (id:=948) Kz Z Z)<|Uu (by exact yS (κ:=Kz) (.inr Z) underlying201 fC Z Z Z Z Z Z Z Z)<|Y V<|Y V<|Y (by exact HJ (κ:=Kz) Z underlying201 fC Z Z Z Z Z sF (.inl Z))<|Y (by exact gA (p:=.int .i64 (if x then 1 else 0)) Z (dP underlying3 Z) (by cases x<;>rfl))<|Y (by exact aK [AD (.n (if x then 1 else 0))] Z yW Z Z Z Z Z R_)<|O (by exact bF Z Z vO Z (ga (one (if x then 1 else 0) (by cases x<;>exact⟨by decide,by decide⟩) B g1 L1 hsz) ⟨Z,Z,T_⟩ (by simp;rfl)))<|Rd (ka hwk)<|O V ?_;refine⟨k+1,by omega,by omega,?_⟩;dsimp only;rw[D,A,show fI (.b x)=[aQ (if x then 1 else 0)]from Z,show gI (.b x)=1 from rfl];exact(cJ.wk (Ea<|Eb<|Eb<|Eb<|T_) (Hc (aW _ _)<|Ha<|T_) ⟨Z,Z,T_⟩)
   cases hc7
  |l F =>
   have B:1<r:=H;have hsz:L1.length+(F.length+1)<2^40:=hsz;have G:(F.map S_).length=F.length:=g_ _;obtain ⟨y,o_⟩:∃y,y=((F.map S_).length:Int):=X_;have N:qA y:=⟨by omega,by omega⟩;have K:L1++fI (.l F)=(L1++[aQ y])++F:=by rw[o_,G,List.append_assoc];rfl
   have P:(L1++[aQ y]).length=L1.length+1:=by rw[j9];rfl
   refine aA<|S<|aD<|C (kx yW E)<|Y (gG vM (hi:=E))<|O U<|Sz V<|aD<|C (by exact mS Z (dP underlying3 Z) Wt Z Z)<|Y dH<|O dH<|Cn ?_ ?_<;>intro hc8
   ·cases hc8
   refine C (by exact mS Z (dP U_ Z) Nn Z Z)<|Y dH<|O dH<|Cn ?_ ?_<;>intro hc9
   ·cases hc9
   refine C (by exact mS Z (dP fC Z) zo4 Z Z)<|Y dH<|O dH<|Cn ?_ ?_<;>intro hc10
   ·cases hc10
   refine C (by exact xN Z (dP aE Z) Z)<|Y dH<|O dH<|Cn ?_ ?_<;>intro hc11
   ·refine Sz U<|C V<|Y V<|Y (by exact cL.eqJ (kV Z bH.1 Z) (congrArg (fun n:Int=>AV.pv (.int .i64 n)) o_.symm))<|Y (by exact gA (p:=.int .i64 y) Z (dP underlying3 Z) Z)<|Y (by exact aK [AD (.n y)] Z yW Z Z Z Z Z R_)<|O (kc vO (ga (one y N B g1 L1 (by omega)) ⟨Z,Z,T_⟩ (by simp;rfl)))<|Rd V<|Y V<|Y sD<|Y (bS DN)<|Y V<|Y (by exact UH (ps:=F.map S_) Z aE QD wB Z Z Z Z Z (eE _) Z (Oq F) (m:=F.length) G (by rw[P];omega) Z (gM (L1++[aQ y]) F))<|Y sD<|Uu (iZ IM)<|Zz<|Rd (ka hwk)<|O V ?_;refine⟨k+1,by omega,by omega,?_⟩;dsimp only;rw[D,A,K,show gI (.l F)=2 from Z,Tx (g1+2) (L1++[aQ y]) F];exact(cJ.wk (Ea<|Eb<|Eb<|Eb<|T_) (Hc (aW _ _)<|Ha<|T_) ⟨Z,Z,T_⟩)
   cases hc11
  | z i a b =>
   have h2r:2<r:=H;obtain ⟨hio,hao,hbo⟩:qA i/\a.length<2^40/\b.length<2^40:=e_;have e3:yP [.n i,.l a,.l b]=fI (.z i a b):=by simp[yP,fI]
   have h3:=ih 2 h2r [.n i,.l a,.l b] (by
    intro v d_;simp only[l7,n_,or_false]at d_;rcases d_ with rfl|rfl|rfl
    ·exact⟨by simp[Qb],hio⟩
    ·exact⟨by simp[Qb],hao⟩
    exact⟨by simp[Qb],hbo⟩) g1 L1 (by simp) (by rw[e3];exact hsz)
   rw[e3]at h3;refine aA<|S<|aD<|C (kx yW E)<|Y (gG vM (hi:=E))<|O U<|Sz V<|aD<|C (by exact CH Z (dP underlying3 Z) Wt Z Z)<|Y dH<|O dH<|Cn ?_ ?_<;>intro hc12
   ·cases hc12
   refine C (by exact CH Z (dP U_ Z) Nn Z Z)<|Y dH<|O dH<|Cn ?_ ?_<;>intro R
   ·cases R
   refine C (by exact CH Z (dP fC Z) zo4 Z Z)<|Y dH<|O dH<|Cn ?_ ?_<;>intro W
   ·cases W
   refine C (by exact CH Z (dP aE Z) aBB Z Z)<|Y dH<|O dH<|Cn ?_ ?_<;>intro v_
   ·cases v_
   refine C (by exact RG (ps:=[.int .i64 i,aL a,aL b]) Z (dP jT Z) Z)<|Y dH<|O dH<|Cn ?_ ?_<;>intro hc16
   ·refine C (kl 10 ZQ)<|Uu (iZ sizeOf48)<|Zz<|Rd V<|Y (bA CY)<|Y (bS M_)<|Y (by exact gA (p:=.int .i64 i) Z (dP underlying3 Z) Z)<|Y (bA vU)<|Y (bS aH)<|Y (by exact gA (p:=aL a) Z (dP aE Z) Z)<|Y (bA vT)<|Y (bS aH)<|Y (by exact gA (p:=aL b) Z (dP aE Z) Z)<|Y (by exact aK [AD (.n i),AD (.l a),AD (.l b)] Z yW Z Z Z Z Z (by intro r hr;simp only[l7,n_,or_false]at hr;rcases hr with rfl|rfl|rfl<;>rfl))<|O (kc vO (ga h3 ⟨Z,Z,T_⟩ (by simp;rfl)))<|Rd (ka hwk)<|O V ?_;refine⟨k+1,by omega,by omega,?_⟩;dsimp only;rw[D,A];exact(cJ.wk (Ea<|Eb<|Eb<|Eb<|T_) (Hc (aW _ _)<|Ha<|T_) ⟨Z,Z,T_⟩)
   cases hc16
  | p ps =>
   have B:1<r:=H;obtain ⟨hpl,hpo⟩:ps.length<2^40/\∀q∈ps,qA q.1/\qA q.2:=e_;have hfp:∀j,OW (ps.take j)=(ps.take j).flatMap (fun q=>[aQ q.1,aQ q.2]):=fun _=>rfl;have hsz:L1.length+(1+2*ps.length)<2^40:=by
    have:(fI (.p ps)).length=1+2*ps.length:=by rw[show fI (.p ps)=aQ (ps.length:Int)::OW ps from Z,j7,OV];omega
    omega
   have G:(ps.map kA).length=ps.length:=g_ _;obtain ⟨y,o_⟩:∃y,y=((ps.map kA).length:Int):=X_;have N:qA y:=⟨by omega,by omega⟩;have K:L1++fI (.p ps)=(L1++[aQ y])++OW ps:=by rw[o_,G,List.append_assoc];rfl
   refine aA<|S<|aD<|C (kx yW E)<|Y (gG vM (hi:=E))<|O U<|Sz V<|aD<|C (by exact mS Z (dP underlying3 Z) Wt Z Z)<|Y dH<|O dH<|Cn ?_ ?_<;>intro Q
   ·cases Q
   refine C (by exact mS Z (dP U_ Z) Nn Z Z)<|Y dH<|O dH<|Cn ?_ ?_<;>intro z_
   ·cases z_
   refine C (by exact mS Z (dP fC Z) zo4 Z Z)<|Y dH<|O dH<|Cn ?_ ?_<;>intro u_
   ·cases u_
   refine C (by exact mS Z (dP aE Z) aBB Z Z)<|Y dH<|O dH<|Cn ?_ ?_<;>intro hc20
   ·cases hc20
   refine C (by exact mS Z (dP jT Z) ZQ Z Z)<|Y dH<|O dH<|Cn ?_ ?_<;>intro T
   ·cases T
   refine C (by exact xN Z (dP fW Z) Z)<|Y dH<|O dH<|Cn ?_ ?_<;>intro hc22
   ·refine Sz U<|C V<|Y V<|Y (by exact cL.eqJ (kV Z TM.1 Z) (congrArg (fun n:Int=>AV.pv (.int .i64 n)) o_.symm))<|Y (by exact gA (p:=.int .i64 y) Z (dP underlying3 Z) Z)<|Y (by exact aK [AD (.n y)] Z yW Z Z Z Z Z R_)<|O (kc vO (ga (one y N B g1 L1 (by omega)) ⟨Z,Z,T_⟩ (by simp;rfl)))<|C V<|Y (fY fW)<|O V<|aD ?_;refine bC (σ:=Nat) (fun j=>([(0,.ref 970 0 0 0),(14,.pv (.sl (l.map AD))),(15,iv ((l.map AD).length:Int)),(16,iv (k:Int)),(95,.pv (xJ ps)),(96,iv ((ps.map kA).length:Int)),(97,iv (j:Int))],fH (g1+1+2*j) ((L1++[aQ y])++OW (ps.take j)))) (fun j=>j<=ps.length) (fun j=>ps.length - j) 0 (l6 _) ?_ ?_
    ·rw[show OW (ps.take 0)=[]from Z,List.append_nil];exact(cJ.wk (Ea<|Eb<|Eb<|Eb<|Eb<|Eb<|Eb<|T_) (Hc (aW _ _)<|Ha<|T_) ⟨Z,Z,T_⟩)
    intro j hj;refine Sz cM<|S<|Cn ?_ ?_<;>intro c_
    ·have hjl:j<ps.length:=by have:=b9 c_;omega
     obtain ⟨q,hq⟩:=aU hjl;have hqi:=cC (f:=kA) hq;obtain ⟨hq1,hq2⟩:=hpo q (m7 hq);have hnx:=Gr hq;have hln:(L1++[aQ y]++OW (ps.take j)).length=L1.length+1+2*j:=by rw[j9,j9,OV,q7];simp;omega
     have h2:=ih 1 B [.n q.1,.n q.2] (by
      intro v d_;simp only[l7,n_,or_false]at d_;rcases d_ with rfl|rfl
      ·exact⟨by simp[Qb],hq1⟩
      exact⟨by simp[Qb],hq2⟩) (g1+1+2*j) (L1++[aQ y]++OW (ps.take j)) (by simp) (by rw[hln];show L1.length+1+2*j+2<_;omega)
     refine aA<|S<|aD<|C (kx TM hqi)<|Y (by exact eV Z eC sizeOf104 Z hqi (by simp only[Zl,S_];rfl) Z)<|Y (kl 13 Bz)<|Uu (iZ sizeOf104)<|Zz<|Rd V<|Y (bA mO)<|Y (bS M_)<|Y (by exact gA (p:=.int .i64 q.1) Z (dP underlying3 Z) Z)<|Y (bA mN)<|Y (bS M_)<|Y (by exact gA (p:=.int .i64 q.2) Z (dP underlying3 Z) Z)<|Y (by exact aK [AD (.n q.1),AD (.n q.2)] Z yW Z Z Z Z Z (by intro r hr;simp only[l7,n_,or_false]at hr;rcases hr with rfl|rfl<;>rfl))<|O (kc vO (ga h2 ⟨Z,Z,T_⟩ (by simp;rfl)))<|Rd kp ?_;refine O V ?_;refine⟨j+1,by omega,by omega,?_⟩;dsimp only;rw[hnx,<-List.append_assoc,show g1+1+2*(j+1)=g1+1+2*j+uh [.n q.1,.n q.2]from rfl];exact(cJ.wk (Ea<|Eb<|Eb<|Eb<|Eb<|Eb<|Eb<|T_) (Hc (aW _ _)<|Ha<|T_) ⟨Z,Z,T_⟩)
    have hjg:j=ps.length:=by have:=b_ c_;omega
    subst hjg;rw[List.take_length];refine aP<|Rd (ka hwk)<|O V ?_;refine⟨k+1,by omega,by omega,?_⟩;dsimp only;rw[D,A,K,show g1+gI (.p ps)=g1+1+2*ps.length from(Nat.add_assoc _ _ _).symm];exact(cJ.wk (Ea<|Eb<|Eb<|Eb<|T_) (Hc (aW _ _)<|Ha<|T_) ⟨Z,Z,T_⟩)
   cases hc22
 have hge:k=l.length:=by have:=b_ hc1;omega
 subst hge;rw[List.take_length];refine aP ?_;exact oO (.inl Z) Z Fin.refl ⟨Z,Z⟩
theorem aAd(r):Mt r:=Nat.strongRecOn r (fun r a=>Mg r a)
theorem aB9(v):Qb v<3:=by cases v<;>simp[Qb]
theorem oy(l)(b:∀v∈l,okI v)(g)(L)(a:l.length<2^40)(d:L.length+(yP l).length<2^40):
  aS Tryz.prog 121 [.ref 970 0 0 0,.pv (.sl (l.map AD))] (fH g L) (fun r H'=>r=.tup []/\H'=fH (g+uh l) (L++yP l)) :=
 aAd 3 l (fun v c=>⟨aB9 v,b v c⟩) g L a d
structure m9 where
 idx:Int
 sig:List B_
 path:List B_
 deriving DecidableEq
structure GPriv where
 name:B_
 reason:B_
 sources:List B_
 trace:List (Int×Int)
 sl:m9
 deriving DecidableEq
structure j8 where
 kind:Int
 author:Int
 number:Int
 clock:Int
 branch:B_
 parents:List B_
 edits:List b8
 target:B_
 yes:Bool
 order:Int
 from':B_
 sl:m9
 priv:GPriv
def lI(s:m9):List PV:=[.int .i64 s.idx,aL s.sig,aL s.path]
def wV(p:GPriv):List PV:=[.str p.name,.str p.reason,aL p.sources,xJ p.trace,.int .i64 p.sl.idx,aL p.sl.sig,aL p.sl.path]
def dR(r:j8):List PV:=[.int .i64 r.kind,.int .i64 r.author,.int .i64 r.number,.int .i64 r.clock,.str r.branch,aL r.parents,kD r.edits,.str r.target,.bool r.yes,.int .i64 r.order,.str r.from',.int .i64 r.sl.idx,aL r.sl.sig,aL r.sl.path,.str r.priv.name,.str r.priv.reason,aL r.priv.sources,xJ r.priv.trace,.int .i64 r.priv.sl.idx,aL r.priv.sl.sig,aL r.priv.sl.path]
def lq(l:List B_):Prop:=l.length<2^40/\∀t∈l,t.size<2^40
def xP(s:m9):Prop:=qA s.idx/\lq s.sig/\lq s.path
def lp(p:GPriv):Prop:=p.name.size<2^40/\p.reason.size<2^40/\lq p.sources/\p.trace.length<2^40/\xP p.sl
def Yh(q:B_->Bool)(l:List B_)(k:Nat):Bool:=match l[k]? with|some s=>q s|none=>false
theorem Qp(q)(l):(List.range l.length).any (Yh q l)=l.any q:=Ai l q
theorem C5(f)(l)(q)(hl:l.length<2^40)(d:∀s∈l,dF Tryz.prog (.pv (.fn f)) [sv s] [] (fun r H'=>r=bv (q s)/\H'=[]))(H):
  RC 28 [.pv (aL l),.pv (.fn f)] (bv (l.any q)) H:=by
 refine Pu ?_;have c:=AF _ l (Yh q l) _ X (fun k s b=>by
  rw[Yh,b];exact d s (m7 b))
 rw[Qp]at c;exact c
theorem aAX(t)(b:t.size<2^40)(H):RC 212 [sv t] (bv (oddJ t)) H:=by refine Pu ?_;exact Bd func212 Z ntmps212<|Sz U<|C V<|Y (bF Z Z K9 Z (V2 t b _))<|Y iW<|O U<|aC<|Rt<|Qq
theorem MY(l)(c:lq l)(H):RC 155 [.pv (aL l)] (bv (l.all l9)) H:=by
 refine Pu ?_;have b:=C5 _ l _ c.1 (fun s d=>dF.fn call212 (aAX s (c.2 s d) _)) [];rw[PD]at b;refine Bd func155 Z ntmps155<|Sz U<|C V<|Y (bF Z Z LA Z (b))<|Y iW<|O U<|aC<|Rt ?_
 simp_all
def AR(s:m9):Bool:=decide (s.idx=0)&&decide (((s.sig.map S_).length:Int)+((s.path.map S_).length:Int)=0)
theorem Wv(s:m9)(c:xP s)(H:aF):RC 210 [av (lI s)] (bv (AR s)) H:=by
 refine Pu ?_;have h1:(s.sig.map S_).length<2^40:=by rw[g_];exact c.2.1.1
 have h2:(s.path.map S_).length<2^40:=by rw[g_];exact c.2.2.1
 refine Bd func210 Z ntmps210<|C (kb 1)<|O U<|S<|aR (t:=2) (n:=15) (A_:=AR s) ?_ ?_
 ·all_goals refine Y (bA CY)<|Y (bS M_)<|Y cD<|Dm ?_<;>(refine Sp 6 (fun d=>?_) fun d=>?_)<;>(first|refine M<|M<|M<|M<|M<|M<|M<|M ?_|refine J (bA vU)<|J (bS aH)<|J (fY aE)<|J (bA vT)<|J (bS aH)<|J (fY aE)<|J (eQ Z Z Z (pW X X))<|J cD ?_)<;>refine Y cE<|Da ?_<;>exact Gj (h:=by(rw[AR,d];rfl))
 exact aC<|Rt<|Qq
def kZ(s:m9):Bool:=AR s||(((((decide (0<=s.idx)&&decide (s.idx<256))&&decide (((s.sig.map S_).length:Int)=18))&&decide (((s.path.map S_).length:Int)<=8))&&s.sig.all l9)&&s.path.all l9)
theorem eg(s:m9)(i:xP s)(H:aF):RC 151 [av (lI s)] (bv (kZ s)) H:=by
 refine Pu ?_;have l:=fun H=>Wv s i H;have j:=fun H=>MY s.sig i.2.1 H;have k:=fun H=>MY s.path i.2.2 H;obtain ⟨m,b⟩:∃m,m=AR s:=X_;rw[<-b]at l;refine Bd func151 Z ntmps151<|C (kb 1)<|O U<|S<|aR (t:=2) (n:=41) (A_:=kZ s) ?_ ?_
 ·all_goals refine Y (by exact aV Z gO sizeOf48 Z Z Z Z (by simp only[Zl,S_];rfl) Z) ?_
  all_goals refine Y (kc call210 (l _))<|Dm ?_<;>(refine Sp 5 (fun e=>?_) fun e=>?_)<;>(first|contradiction|refine M<|M<|M<|M ?_|refine J (bA CY)<|J (bS M_)<|J DK<|J V ?_)<;>(first|refine Sp 9 (fun g=>?_) fun g=>?_|refine kN (t:=9) Z ?_)<;>(first|contradiction|refine M ?_|refine Fu ?_|refine J (bA CY) ?_)<;>(first|refine M ?_|refine Fu ?_|refine J (bS M_) ?_)<;>(first|refine M ?_|refine Fu ?_|refine J cM ?_)<;>(first|refine M<|M ?_|refine J cE<|J V ?_)<;>(first|refine Sp 14 (fun c=>?_) fun c=>?_|refine kN (t:=14) Z ?_)<;>(first|contradiction|refine M ?_|refine Fu ?_|refine J (bA vU) ?_)<;>(first|refine M ?_|refine Fu ?_|refine J (bS aH) ?_)<;>(first|refine M ?_|refine Fu ?_|refine J (fY aE) ?_)<;>(first|refine M ?_|refine Fu ?_|refine J cD ?_)<;>(first|refine M<|M ?_|refine J cE<|J V ?_)<;>(first|refine Sp 20 (fun d=>?_) fun d=>?_|refine kN (t:=20) Z ?_)<;>(first|contradiction|refine M ?_|refine Fu ?_|refine J (bA vT) ?_)<;>(first|refine M ?_|refine Fu ?_|refine J (bS aH) ?_)<;>(first|refine M ?_|refine Fu ?_|refine J (fY aE) ?_)<;>(first|refine M ?_|refine Fu ?_|refine J IN ?_)<;>(first|refine M<|M ?_|refine J cE<|J V ?_)<;>(first|refine Sp 26 (fun f=>?_) fun f=>?_|refine kN (t:=26) Z ?_)<;>(first|contradiction|refine M ?_|refine Fu ?_|refine J (bA vU) ?_)<;>(first|refine M ?_|refine Fu ?_|refine J (bS aH) ?_)<;>(first|refine M ?_|refine Fu ?_|refine J (kc Bg (j _)) ?_)<;>(first|refine M<|M ?_|refine J cE<|J V ?_)<;>(first|refine Sp 31 (fun h=>?_) fun h=>?_|refine kN (t:=31) Z ?_)<;>(first|contradiction|refine M ?_|refine Fu ?_|refine J (bA vT) ?_)<;>(first|refine M ?_|refine Fu ?_|refine J (bS aH) ?_)<;>(first|refine M ?_|refine Fu ?_|refine J (kc Bg (k _)) ?_)<;>(first|refine M ?_|refine J cE ?_)<;>refine Y cE<|Da ?_<;>exact Gj (h:=by first|(rw[kZ,<-b,e];rfl)|(rw[kZ,<-b,e,g];rfl)|(rw[kZ,<-b,e,g,c];rfl)|(rw[kZ,<-b,e,g,c,d];rfl)|(rw[kZ,<-b,e,g,c,d,f];rfl)|(rw[kZ,<-b,e,g,c,d,f,h];rfl))
 exact aC<|Rt<|Qq
def uC(p:GPriv):Bool:=decide (p.name++p.reason=a6)&&decide (((p.sources.map S_).length:Int)+((p.trace.map kA).length:Int)=0)
theorem Ua(p:GPriv)(d:lp p)(H:aF):RC 120 [av (wV p)] (bv (uC p)) H:=by
 refine Pu ?_;obtain ⟨a1,a2,e,a4,a5⟩:=d;have h1:(p.sources.map S_).length<2^40:=by rw[g_];exact e.1
 have h2:(p.trace.map kA).length<2^40:=F_
 refine Bd func120 Z ntmps120<|C (kb 1)<|O U<|S<|aR (t:=2) (n:=18) (A_:=uC p) ?_ ?_
 ·all_goals refine Y (bA H9)<|Y (bS N_)<|Y (bA H8)<|Y (bS N_)<|Y kq<|Y xA<|Dm ?_<;>(refine Sp 9 (fun c=>?_) fun c=>?_)<;>(first|refine M<|M<|M<|M<|M<|M<|M<|M ?_|refine J (bA yC)<|J (bS aH)<|J (fY aE)<|J (bA sY)<|J (bS jV)<|J (fY fW)<|J (eQ Z Z Z (pW X X))<|J cD ?_)<;>refine Y cE<|Da ?_<;>exact Gj (h:=by(rw[uC,c];rfl))
 exact aC<|Rt<|Qq
theorem PK(n a b)(H):RC 146 [iv n,iv a,iv b] (bv (decide (a<=n)&&decide (n<=b))) H:=by
 refine Pu<|Bd func146 Z ntmps146<|Sz U<|S<|aR (t:=6) (n:=10) (A_:=decide (a<=n)&&decide (n<=b)) ?_ ?_
 ·all_goals refine Y V<|Y V<|Y DK<|Dm ?_<;>(refine Sp 10 (fun d=>?_) fun d=>?_)<;>(first|refine M<|M<|M ?_|refine J V<|J V<|J IN ?_)<;>refine Y cE<|Da ?_<;>(exact⟨⟨_,Z,G_⟩,Z,Z,Z⟩)
 exact aC<|Rt<|Qq
def KD(s:B_):Bool:=decide (200<(s.size:Int))
theorem Zw(s)(H):RC 148 [sv s] (bv (KD s)) H:=by refine Pu ?_;exact Bd func148 Z ntmps148<|Sz U<|C V<|Y (gR U_)<|Y jK<|O U<|aC<|Rt<|Qq
theorem qt(l)(c:l.length<2^40)(H):RC 147 [.pv (aL l)] (bv (!l.any KD)) H:=by refine Pu ?_;have b:=C5 _ l _ c (fun s hs=>dF.fn call148 (Zw s _)) [];exact Bd func147 Z ntmps147<|Sz U<|C V<|Y (bF Z Z LA Z (b))<|Y iW<|O U<|aC<|Rt<|Qq
end Go.Proofs.YtopnleflllkbmaaGreatDoor
namespace Go.Abs
section
section
variable{P:Program}{N:Nat}{o:Oper}{E:cY}{H:aF}{f_ T t:TypeId}{x:Operand}{id g n m:Nat}{ob:Ob}
theorem HK(y:o.op=.convert f_ T x)(hS:P.underlying f_=some .unsafePointer)(v:P.underlying T=some (.pointer t))(hi:(P.info? t).map (·.size)=some (n+1))(q:P.cellsOf ob.ty=m+1)(k:aO E x=some (.ref id g 0 0))(s:H.get id=some ob)(i:ob.g=g)(e:ob.rows≠[])(f:ob.sz=m+1)(hl:∀c,liesAt P P.depth ob.ty (c+1) 0 t 1=true):cL P N o E H (.ref id g 0 0) H :=.of_run fun a w I ι l z=>by
  have h:=aI z k;obtain ⟨b,d,r,p,e3,e4⟩:=LM l h s i e;obtain ⟨j,u,h2⟩:=BI hi;refine⟨_,?_,h⟩;simp only[execOp,y,r];have hq:d*ob.sz / P.cellsOf ob.ty=(d - 1)+1:=by rw[q,f,Nat.mul_div_cancel _ X];omega
  rw[Sem.run_bind,Lib.run_from_unsafe w _ hS v u p G_];rfl
end
end
end Go.Abs
namespace Go.Proofs.YtopnleflllkbmaaGreatDoor
open Go.Proofs.Tryz
open Go.Abs
variable{s:B_}{i n:Nat}{r:List UInt8}
theorem aCW(c):liesAt Tryz.prog Tryz.prog.depth 297 (c+1) 0 161 1=true:=by kernel_rfl
def M6(buf:AV)(u:Bool):Ob:=⟨0,2,297,[[ft u,buf]]⟩
def qL(g:Nat)(l:List UInt8)(u:Bool):aF:=[(2001,M6 (.osl 2002 g 0 l.length) u),(2002,⟨g,1,5,fL l⟩)]
theorem SZ{H}{g n}{u}(e:(H.get 2001).isSome=true)(f:(H.get 2002).isSome=true):∀r∈(M6 (.osl 2002 g 0 n) u).rows,∀a∈r,Clo H a:=by
 intro r c a d;simp[M6,q9]at c;subst c;simp[l7,n_,or_false]at d;rcases d with rfl|rfl
 ·cases u<;>simp[ft,e]
 simp[f]
theorem KQ(b:AV)(u:Bool)(K:aF):aS Tryz.prog 191 [.ref 2001 0 0 0] ((2001,M6 b u)::K) (fun r H'=>r=.tup []/\H'=(2001,M6 b true)::K):=by
 cases u with
 |false =>
  refine Bd Ax Z gx<|C V<|Y sD<|Y (bA zJ)<|Y (bS DL)<|O (by exact NK Z gY Z Z)<|Cn ?_ ?_<;>intro c
  ·refine Rd V<|Y V<|Y (by exact GO (n:=1) Z gY II (by rfl) Z Z Z (by simp[M6]))<|Y (by exact OY Z Z func239 Z Z Z Z Z (eo (.ref 2001 0 0 0)))<|Y (by exact HK (n:=1) (m:=1) Z II gY (by rfl) (by rfl) Z Z Z (by simp[M6]) Z aCW)<|Y sD<|Y (bA zJ)<|Uu (ku aAe)<|Zz ?_;exact oO (.inl Z) Z (Fin.get' (H':=(2001,M6 b true)::K) (fun j=>wS 2001 (M6 b true) (M6 b false) K j)) ⟨Z,Z⟩
  cases c
 |true =>
  refine Bd Ax Z gx<|C V<|Y sD<|Y (bA zJ)<|Y (bS DL)<|O (by exact NJ Z gY Z Z Z Z)<|Cn ?_ ?_<;>intro c
  ·cases c
  refine C V<|Y sD<|Y (bA zJ)<|Y (bS DL)<|Y V<|O (by exact JV (n:=1) Z gY (by rfl) Z Z Z Z)<|Cn ?_ ?_<;>intro d
  ·cases d
  refine aA ?_;exact oO (.inl Z) Z Fin.refl ⟨Z,Z⟩
theorem fo(g)(l m){n}(h:m.length=n):qL (g+1) (l++m) true=[(2001,M6 (.osl 2002 (g+1) 0 (l.length+n)) true),(2002,⟨g+1,1,5,fL (l++m)⟩)]:=by subst h;simp[qL]
theorem XA(g:Nat)(l:List UInt8)(u:Bool)(c:UInt8)(hl:l.length<70368744177664):aS Tryz.prog 160 [.ref 2001 0 0 0,.pv (.int .u8 c.toNat)] (qL g l u) (fun r H'=>r=.pv MG/\H'=qL (g+1) (l++[c]) true):=by refine Bd func160 Z ntmps160<|Sz U<|C V<|O (kc TE (KQ _ u _))<|C V<|Y V<|Y sD<|Y (bA iG)<|Y (bS eB)<|Y V<|Y (by exact aK [[.int .u8 c.toNat]] Z AY Z Z Z Z Z (by simp_all))<|Y (by exact cA (ps:=[[.int .u8 c.toNat]]) Z AY Wd Z Z Z Z Z (sA l) Z (by simp_all) (m:=1) Z (by omega) Z (uF l [c]))<|Y sD<|Y (bA iG)<|Uu (ku qC)<|Zz<|Sz U<|aC ?_;rw[fo g l [c] (n:=1) rfl];refine cR (.inr Z) Z (aJ Z) (Fin.get' (fun j=>KK (by decide) j)) ?_;exact Qq
theorem DY(g:Nat)(l:List UInt8)(u:Bool)(s:B_)(hl:l.length+s.size<70368744177664):aS Tryz.prog 132 [.ref 2001 0 0 0,sv s] (qL g l u) (fun r H'=>r=.tup [iv (s.size:Int),.pv MG]/\H'=qL (g+1) (l++s.data.toList) true):=by refine Bd func132 Z ntmps132<|C U<|O U<|C V<|O (kc TE (KQ _ u _))<|C V<|Y V<|Y sD<|Y (bA iG)<|Y (bS eB)<|Y V<|Y (by exact wF Z AY U_ Wd OF Z Z Z Z Z (sA l) Z (by omega) Z (uF l s.data.toList))<|Y sD<|Y (bA iG)<|Uu (ku qC)<|Zz<|C V<|Y (gR U_)<|Y U<|O U<|aC ?_;rw[fo g l s.data.toList (n:=s.size) rfl];refine iB (.inr Z) Z (aJ Z) (aJ Z) (Fin.get' (fun j=>KK (by decide) j)) ?_;exact Qq
def fq(g:Nat)(l:List UInt8)(u:Bool):aF:=[(2002,⟨g+1,1,5,[]⟩),(2001,M6 (.osl 2002 g 0 l.length) u)]
theorem Xm(g:Nat)(l:List UInt8)(u:Bool)(hl:l.length<70368744177664):aS Tryz.prog 133 [.ref 2001 0 0 0] (qL g l u) (fun r H'=>r=sv ⟨l.toArray⟩/\H'=fq g l u):=by
 by_cases e:l=[]
 ·subst e;refine Bd Az Z gz<|Sz U<|S<|aN a7<|Cq V<|Cq sD<|Cq (bA iG)<|Cq (bS eB)<|Cq (by exact D7 Z yL Z Z Z)<|Cq V<|Cq sD<|Cq (bA iG)<|Cq (bS eB)<|Cq (by exact dQ Z dB Z Z Z)<|Cq (by exact zA Z Z Z)<|Cq U<|bL<|Kr<|aC ?_;refine cR (H':=(fq g [] u)) (.inr Z) Z (aJ Z) (Fin.trans (Fin.deadO (id:=2002) (k:=g+1) (ob:=⟨g,1,5,fL []⟩) Z (Nat.lt_succ_self g) Nat.zero_lt_one Z Z) (Fin.get' (fun j=>O7 (by decide) j))) ?_;exact Qq
 have c:0<l.length:=List.length_pos_iff.2 e;refine Bd Az Z gz<|Sz U<|S<|aN a7<|Cr [2001] (fun _ _=>V)<|Cr [2001] (fun d b=>by exact dK Z Z ((b _ Z).trans Z) Z)<|Cr [2001] (fun _ h=>fh iG h)<|Cr [2001] (fun _ h=>lh eB h)<|Cr [2002] (fun d b=>by exact GQ Z Z ((b _ Z).trans Z) Z c)<|Cr [2001] (fun _ _=>V)<|Cr [2001] (fun d b=>by exact dK Z Z ((b _ Z).trans Z) Z)<|Cr [2001] (fun _ h=>fh iG h)<|Cr [2001] (fun _ h=>lh eB h)<|Cr [2002] (fun d b=>by exact dQ Z dB Z ((b _ Z).trans Z) Z)<|Cp [2001,2002] (fun d b=>by exact A7 (l:=l) rfl yL (by rfl) rfl rfl ((b _ rfl).trans rfl) rfl rfl rfl rfl rfl c (by omega) rfl)<|Cr [] (fun _ _=>U)<|bL<|Kr<|aC ?_;refine cR (H':=(fq g l u)) (.inr Z) Z (aJ Z) (Fin.get' (fun j=>O7 (by decide) j)) ?_;exact Qq
theorem It(g)(l)(u):aS Tryz.prog 208 [.ref 2001 0 0 0] (qL g l u) (fun r H'=>r=iv (l.length)/\H'=qL g l u):=by refine Bd func208 Z ntmps208<|Sz U<|C V<|Y sD<|Y (bA iG)<|Y (bS eB)<|Y (by exact dQ Z dB Z Z Z)<|O U<|aC ?_;refine cR (.inr Z) Z (aJ Z) Fin.refl Qq
def Gn(l:List UInt8)(s:B_):List UInt8:=if l=[]then s.data.toList else l++32::s.data.toList
theorem aBe(g:Nat)(l:List UInt8)(u:Bool)(s:B_)(hl:l.length+s.size<70368744177663):aS Tryz.prog 287 [.ref 2001 0 0 0,sv s] (qL g l u) (fun r H'=>r=.tup []/\H'=qL (if l=[]then g+1 else g+2) (Gn l s) true):=by
 have f:=XA g l u 32 X;have e:=It g l u;rw[Gn];by_cases d:l=[]
 ·subst d;have c:=DY g [] u s X;rw[b6 Z,b6 rfl];rw[List.nil_append]at c;refine Bd func287 Z ntmps287<|S<|C V<|Y sD<|Y (bA pN)<|Y (kc AN (e))<|O jK<|Cn ?_ ?_<;>intro b
  ·cases b
  refine aA<|Rd V<|Y sD<|Y (bA pN)<|Y V<|O (kc nA (c)) ?_;exact oO (H':=qL (g+1) s.data.toList true) (.inl Z) Z Fin.refl ⟨Z,Z⟩
 have hpos:0<l.length:=List.length_pos_iff.2 d;have c:=DY (g+1) (l++[32]) true s G_;rw[a8 d,a8 d];rw[List.append_assoc]at c;refine Bd func287 Z ntmps287<|S<|C V<|Y sD<|Y (bA pN)<|Y (kc AN (e))<|O jK<|Cn ?_ ?_<;>intro b
 ·refine Rd V<|Y sD<|Y (bA pN)<|O (kc mY (f))<|Rd V<|Y sD<|Y (bA pN)<|Y V<|O (kc nA (c)) ?_;exact oO (H':=qL (g+2) (l++32::s.data.toList) true) (.inl Z) Z Fin.refl ⟨Z,Z⟩
 have:=b_ b;omega
theorem Xl{g}{l}{u}{K}:Sub (qL g l u) (qL g l u++K):=by intro j o h;rw[gC,h]
theorem aCX{g c}{l b}{u u'}{id}(h:(aF.get (qL g l u) id).isSome=true):(aF.get (qL c b u') id).isSome=true:=tk h
theorem aC5{g a}{l b}{u u'}{K}(j):aF.get (qL g l u++(qL a b u'++K)) j=aF.get (qL g l u++K) j:=by exact(KK H_ j).symm
theorem Gm(K)(g)(l)(u)(s)(a:l.length+s.size<70368744177663):aS Tryz.prog 287 [.ref 2001 0 0 0,sv s] (qL g l u++K) (fun r H'=>r=.tup []/\H'=qL (if l=[]then g+1 else g+2) (Gn l s) true++K) :=(aS.frame (aBe g l u s a) Xl (dD.ofL ⟨(SZ Z Z),(eH _ _),T_⟩) (by simp;rfl) (fun id h=>.inl (aCX h))).congrH fun j=>(aC5 j).symm
theorem O4(K)(g)(l)(u):aS Tryz.prog 208 [.ref 2001 0 0 0] (qL g l u++K) (fun r H'=>r=iv (l.length)/\H'=qL g l u++K) :=(aS.frame (It g l u) Xl (dD.ofL ⟨(SZ Z Z),(eH _ _),T_⟩) (by simp;rfl) (fun id h=>.inl h)).congrH fun j=>(aC5 j).symm
def sU(c:UInt8):Option UInt8:=if c=92 then some 92 else if c=34 then some 34 else if c=110 then some 10 else none
def nV:List UInt8->Option (List UInt8×Nat)
 | []=>none
 | [c]=>if c=34 then some ([],1)else none
 |c::e::r=>if c=34 then some ([],1)else if c=10 then none else if c=92 then(sU e).bind fun b=>(nV r).map fun p=>(b::p.1,p.2+2)else(nV (e::r)).map fun p=>(c::p.1,p.2+1)
def AB(s:B_):B_×Int:=match nV (s.data.toList.drop 1)with
 |some (d,n)=>(⟨d.toArray⟩,((n+1:Nat):Int))
 |none=>(a6,0)
theorem B0{r}:nV (34::r)=some ([],1):=by cases r<;>rfl
theorem LF{r}:nV (10::r)=none:=by cases r<;>rfl
theorem uM{r}{e}:nV (92::e::r)=(sU e).bind fun b=>(nV r).map fun p=>(b::p.1,p.2+2):=rfl
theorem B1{c}{r}(a:c≠34)(d:c≠10)(b:c≠92):nV (c::r)=(nV r).map fun p=>(c::p.1,p.2+1):=by
 cases r with
 |nil =>
  show (if c=34 then some _ else none)=_;rw[a8 a];rfl
 |cons e r=>rw[nV,a8 a,a8 d,a8 b]
def xG(o:Option (List UInt8×Nat))(w:List UInt8)(i:Nat):B_×Int:=match o with
 |some (d,n)=>(⟨(w++d).toArray⟩,((i+n:Nat):Int))
 |none=>(a6,0)
theorem AW{o}{w}{b}{i k}:xG (o.map fun p=>(b::p.1,p.2+k)) w i=xG o (w++[b]) (i+k):=by
 cases o with
 |none=>rfl
 |some p=>simp[xG,Option.map_some,List.append_assoc,List.singleton_append];grind
theorem yD{s}{i}(h:i<s.size):s.data.toList.drop i=oU s i::s.data.toList.drop (i+1):=by
 have a:i<s.data.toList.length:=F_
 rw[List.drop_eq_getElem_cons a,oU,m8 _];rfl
theorem BN{i}(h:s.size<=i):s.data.toList.drop i=[]:=List.drop_eq_nil_of_le F_
theorem BR{s}(a:n<256){b}(h:decide (aZ s i=n)=b):decide (oU s i=UInt8.ofNat n)=b:=by rw[<-h,tD,PN a]
theorem Cz(c):(Lib.indexByte (⟨#[92,34,110]⟩:B_).data.toList ((c.toNat:Int).toNat.toUInt8) = -1/\sU c=none)\/∃k:Nat,k<3/\Lib.indexByte (⟨#[92,34,110]⟩:B_).data.toList ((c.toNat:Int).toNat.toUInt8)=k/\sU c=some (oU ⟨#[92,34,10]⟩ k):=by
 have j:((c.toNat:Int).toNat.toUInt8)=c:=H_
 rw[j];by_cases f:c=92
 ·subst f;exact .inr ⟨0,E_,E_,E_⟩
 by_cases g:c=34
 ·subst g;exact .inr ⟨1,E_,E_,E_⟩
 by_cases e:c=110
 ·subst e;exact .inr ⟨2,E_,E_,E_⟩
 refine .inl ⟨?_,by rw[sU,a8 f,a8 g,a8 e]⟩;have l:(92 == c)=false:=G_
 have i:(34 == c)=false:=G_
 have h:(110 == c)=false:=G_
 simp only[Lib.indexByte,l,i,h];rfl
theorem iq(s:B_)(H:aF)(hs:s.size<2^40):RC 291 [sv s] (.tup [sv (AB s).1,iv (AB s).2]) H:=by
 refine Pu ?_;have K:AB s=xG (nV (s.data.toList.drop 1)) [] 1:=by
  unfold AB xG
  grind
 obtain ⟨c,l⟩:∃c,c=AB s:=X_;rw[<-l]at K |-;refine Bd func291 Z ntmps291<|C U<|O U<|Sz (kl 2001 G4)<|S<|S ?_;refine fZ.ent (E':=[(0,sv s),(4,.ref 2001 0 0 0)]) (H':=yG 0 [] false) (cJ.bld0 ⟨⟨_,Z,.same H_⟩,⟨_,Z,.same (by simp;rfl)⟩,T_⟩) ?_;refine Rg<|O U<|aD<|WZ (fun(i g:Nat) (w:List UInt8) (u:Bool)=>([(0,sv s),(4,.ref 2001 0 0 0),(5,iv (i:Int))],yG g w u)) (fun i g w u=>w.length<=i/\i<2199023255552/\c=xG (nV (s.data.toList.drop i)) w i) (fun i g w u=>s.size+1 - i) 1 0 [] false ⟨l6 _,E_,K⟩ ?_ ?_
 ·exact(cJ.wk (Eb<|Ea<|Eb<|T_) (Hc (gD Z Z)<|Hc (eH _ _)<|T_) T_)
 rintro i g w u ⟨hwl,hib,b⟩;refine S<|C V<|Y V<|Y (gR U_)<|O cM<|Cn ?_ ?_<;>intro m
 ·have B:i<s.size:=I_ m
  have j:=yD B;refine aA<|S<|aD<|C V<|Y V<|Y (ky U_)<|O U<|Sz V<|aD<|C cD<|Da<|Cn ?_ ?_<;>intro A
  ·have f:oU s i=34:=b9 (BR (n:=34) E_ A);have d:c=(⟨w.toArray⟩,((i+1:Nat):Int)):=by rw[b,j,f,B0,xG,List.append_nil]
   rw[d];exact C (kc mZ (P1 g w u X))<|Y V<|Y gV<|Y U<|O U<|aC<|Ru<|Qq
  have v:oU s i≠34:=b_ (BR (n:=34) E_ A);refine C cD<|Da<|Cn ?_ ?_<;>intro t
  ·have f:oU s i=10:=b9 (BR (n:=10) E_ t);have d:c=(a6,0):=by rw[b,j,f,LF,xG]
   rw[d];exact C U<|O U<|aC<|Ru<|Qq
  have p:oU s i≠10:=b_ (BR (n:=10) E_ t);refine C cD<|Da<|Cn ?_ ?_<;>intro k
  ·have f:oU s i=92:=b9 (BR (n:=92) E_ k);refine C V<|Y gV<|O U<|Sz U<|S<|C V<|Y V<|Y (gR U_)<|O cM<|Cn ?_ ?_<;>intro x
   ·have o:i+1<s.size:=I_ x
    have y:=yD o;rcases Cz (oU s (i+1))with⟨I,E⟩|⟨q,L,I,E⟩
    ·have d:c=(a6,0):=by rw[b,j,f,y,uM,E];rfl
     have hneg:Lib.indexByte (⟨#[92,34,110]⟩:B_).data.toList (aZ s (i+1)).toNat.toUInt8 = -1:=I;rw[d];refine Rd V<|Y V<|Y (ky U_)<|Y (kc AO (rW _ _ _))<|O U<|S<|C V<|O cM<|Cn ?_ ?_<;>intro D
     ·exact C U<|O U<|aC<|Ru<|Qq
     exact absurd (b_ D) F_
    have hpos:Lib.indexByte (⟨#[92,34,110]⟩:B_).data.toList (aZ s (i+1)).toNat.toUInt8=(q:Int):=I;have G:q<(⟨#[92,34,10]⟩:B_).size:=L;refine Rd V<|Y V<|Y (ky U_)<|Y (kc AO (rW _ _ _))<|O U<|S<|C V<|O cM<|Cn ?_ ?_<;>intro F
    ·exact absurd (b9 F) G_
    refine aA<|Rd V<|Y (cV Z U_ Z Z F_ F_ G Z)<|O (kc mY (kP g w u (oU ⟨#[92,34,10]⟩ q) X))<|Rd V<|Y gV<|Da ?_;refine⟨i+1+1,g+1,w++[oU ⟨#[92,34,10]⟩ q],true,⟨G_,X,?_⟩,X,(cJ.wk (Eb<|Ea<|Eb<|T_) (Hc (gD Z Z)<|Hc (eH _ _)<|T_) T_)⟩;rw[b,j,f,y,uM,E];exact AW
   have e:s.size<=i+1:=J_ x
   have d:c=(a6,0):=by rw[b,j,f,BN e];rfl
   rw[d];refine aA<|S<|C V<|O cM<|Cn ?_ ?_<;>intro d_
   ·exact C U<|O U<|aC<|Ru<|Qq
   cases d_
  have z:oU s i≠92:=b_ (BR (n:=92) E_ k);refine Rd V<|O (kc mY (kP g w u (oU s i) X))<|Rd V<|Y gV<|Da ?_;refine⟨i+1,g+1,w++[oU s i],true,⟨by rw[j9,List.length_singleton];omega,X,?_⟩,X,(cJ.wk (Eb<|Ea<|Eb<|T_) (Hc (gD Z Z)<|Hc (eH _ _)<|T_) T_)⟩;rw[b,j,B1 v p z,AW]
 have e:s.size<=i:=J_ m
 have d:c=(a6,0):=by rw[b,BN e];rfl
 rw[d];exact aP<|C U<|O U<|aC<|Ru<|Qq
def mV(s:B_)(i:Nat):Int:=if i<s.size then yF (aZ s i)else 0
def tS(s:B_):Ob:=bx 1 9 [sv s]
def tC:Ob:=bx 256 223 vV
def tA:Ob:=bx 1 299 [.clo 289 [.ref 921 0 0 0,.ref 923 0 0 0]]
theorem aAc(s:B_)(i:Nat)(H:aF)(f:H.get 921=some (tS s))(d:H.get 923=some tC)(hi:i<2^62)(hs:s.size<2^62):
  RC 289 [iv (i:Int),.ref 921 0 0 0,.ref 923 0 0 0] (.pv (.int .u8 (mV s i))) H:=by
 refine Bd func289 Z ntmps289<|Sz U<|S<|C V<|Y (aX Z N_ Z f Z Z Z)<|Y (gR U_)<|O DK<|Cn ?_ ?_<;>intro b
 ·have e:mV s i=0:=by rw[mV,a8 (I_ b)]
  rw[e];refine Sz U<|aC<|cR (H':=H) (.inr Z) Z (aJ Z) Fin.refl Qq
 have c:i<s.size:=J_ b
 have e:mV s i=yF (aZ s i):=by rw[mV,b6 c]
 rw[e];refine aA<|C (aX Z N_ Z f Z Z Z)<|Y V<|Y (ky U_)<|Y (eI (k2:=(aZ s i).toNat) Z gE cI Z d Z Z (M2 s i) Z (BQ s i) X)<|Y (aX Z uJ Z d Z Z (Wh s i))<|O U<|aC<|cR (H':=H) (.inr Z) Z (aJ Z) Fin.refl Qq
theorem Z5(s:B_)(H:aF)(d:H.get 921=none)(b:H.get 923=none)(c:H.get 924=none)(hc:dD H):
  aS Tryz.prog 254 [sv s] H (fun r H'=>r=.clo 290 [.ref 921 0 0 0,.ref 924 0 0 0]/\H'=(924,tA)::(923,tC)::(921,tS s)::H):=by
 refine Bd func254 Z ntmps254<|C (uP (id:=921) Z Z Z Z d)<|O U<|C (kc call211 (WV _))<|Y (FA (id:=923) Z pc Z b)<|Uu (lU Z AH Z Z Z Z Z Z Z H_)<|Zz<|C (gT Z Z)<|Y (FA (id:=924) Z aBA Z c)<|Uu (iZ sizeOf299)<|Zz<|C (gT Z Z)<|O U<|aC ?_;refine cR (H':=((924,tA)::(923,tC)::(921,tS s)::H)) (.inr Z) Z (aJ Z) (Fin.get' (fun j=>by simp only[aF.get];cases Nat.beq 924 j<;>cases Nat.beq 923 j<;>rfl)) ?_;exact Qq
def yQ(p:Nat->Bool):Nat->Nat->Nat
 |0,i=>i
 |n+1,i=>if p i then yQ p n (i+1)else i
theorem FL(p):∀(n i),i<=yQ p n i/\yQ p n i<=i+n
 |0,i=>⟨j6 _,j6 _⟩
 |n+1,i=>by
  rw[yQ]
  split
  ·have:=FL p n (i+1);omega
  omega
theorem JD(p):∀(n i),∀j,i<=j->j<yQ p n i->p j=true
 |0,i,j,b,a=>by rw[yQ]at a;omega
 | n+1,i,j,b,a=>by
  rw[yQ]at a
  split at a
  ·by_cases e:j=i
   ·simp_all
   exact JD p n _ j (by omega) a
  omega
theorem xB(p):∀(n i),yQ p n i<i+n->p (yQ p n i)=false
 |0,i,h=>by rw[yQ]at h;omega
 |n+1,i,h=>by
  rw[yQ]at h |-
  split at h
  ·rename_i a;rw[b6 a];exact xB p n _ (by omega)
  simp_all
theorem yX(p){n i j}(d:i<=j)(h2:j<=i+n)(c:∀k,i<=k->k<j->p k=true)(a:p j=false\/j=i+n):yQ p n i=j:=by
 obtain ⟨b,l2⟩:=FL p n i;rcases Nat.lt_trichotomy (yQ p n i) j with h|h|h
 ·have:=xB p n i X;rw[c _ b h]at this;cases this
 ·exact h
 have:=JD p n i j d h;rcases a with a|a
 ·rw[a]at this;cases this
 omega
def uY(s:B_)(j:Nat):Bool:=decide (j<s.size)&&!decide (aZ s j=10)
def uX(s:B_)(j:Nat):Bool:=decide (mV s j=3)||decide (mV s j=4)||decide (mV s j=5)
def N5(s:B_)(j:Nat):Bool:=decide (mV s j=4)
def FW(s:B_)(i:Nat):Nat:=yQ (uY s) (s.size - i) i
def BX(s:B_)(i:Nat):Nat:=yQ (uX s) (s.size - i) i
def IC(s:B_)(i:Nat):Nat:=yQ (N5 s) (s.size - i) i
structure a_ where
 kind:Int
 text:B_
 pos:Nat
 err:Int
def KO(f:a_):List PV:=[.int .i64 f.kind,.str f.text,.int .i64 f.pos,.int .i64 f.err]
def vC(i:Nat):a_:=⟨0,a6,i,3⟩
def AA(s:B_)(i j:Nat):a_:=⟨1,s.extract i j,i,if 24<j - i then 2 else 0⟩
def GU(s:B_)(i j:Nat):a_:=⟨2,s.extract i j,i,if decide (7<j - i)||decide (mV s j=3)||decide (mV s j=5)then 4 else 0⟩
def EL(s:B_)(i:Nat):a_×Nat:=if 0<(AB (s.extract i s.size)).2 then(⟨3,(AB (s.extract i s.size)).1,i,0⟩,i+(AB (s.extract i s.size)).2.toNat)else(vC i,i)
def eT(s:B_)(i:Nat):Option a_×Nat :=if mV s i=1 then(none,i+1)else if mV s i=2 then(none,FW s i)else if mV s i=3 then(some (AA s i (BX s i)),BX s i)
 else if mV s i=4 then(some (GU s i (IC s i)),IC s i)else if mV s i=7 then(some (EL s i).1,(EL s i).2)
 else if mV s i=6 then(some ⟨4,s.extract i (i+1),i,0⟩,i+1)else(some (vC i),i)
def jZ(s:B_):Nat->Nat->List a_
 |0,_=>[]
 |n+1,i=>if i<s.size then(match eT s i with
  |(none,j)=>jZ s n j
  |(some f,j)=>f::(if f.err=0 then jZ s n j else[]))else[]
theorem PM:∀(l) (p),nV l=some p->p.2<=l.length
 | [],p,h=>by cases h
 | [c],p,h=>by
  rw[nV]at h
  grind
 | c :: e :: r, p, h => by
  rw[nV]at h
  split at h
  ·grind
  split at h
  ·cases h
  split at h
  ·cases f:sU e with
   |none=>simp_all
   | some b =>
    rw[f]at h;cases d:nV r with
    |none=>simp_all
    |some q =>
     rw[d]at h;cases h;have:=PM r q d;show q.2+2<=r.length+1+1;omega
  cases d:nV (e::r)with
  |none=>simp_all
  |some q =>
   rw[d]at h;cases h;have:=PM _ q d
   simp_all
theorem ef(s):0<=(AB s).2/\(AB s).2<=s.size:=by
 have hl:s.data.toList.length=s.size:=rfl;unfold AB;cases b:nV _ with
 |none=>exact⟨Int.le_refl _,Int.natCast_nonneg _⟩
 | some p =>
  have:=PM _ p b;rw[p_]at this;refine⟨Int.natCast_nonneg _,?_⟩;show ((p.2+1):Int)<=_;have c:0<s.size:=by
   cases c:s.data.toList with
   |nil=>rw[c]at b;cases b
   |cons a l=>grind
  omega
theorem W2(s)(i)(h:mV s i≠0):i<s.size:=by
 by_cases e:i<s.size
 ·exact e
 exact absurd (a8 e) h
def tF(f:a_):Ob:=bx 4 266 ((KO f).map .pv)
theorem zO(H)(f):∀r∈(tF f).rows,∀a∈r,Clo H a:=by intro r b a c;simp[tF,bx,q9]at b;subst b;obtain ⟨p,_,rfl⟩:=List.mem_map.1 c;simp
instance(H)(f):W_ (H) ((tF f).rows):=⟨zO H f⟩
theorem R8{α:Type}{l m:List α}{k}{d}(h:l.drop k=d::m):l[k]?=some d/\l.drop (k+1)=m:=by
 refine⟨?_,?_⟩
 ·have:=congrArg (·[0]?) h
  simpa using this
 rw[<-List.drop_drop,h];rfl
theorem OK{j:Nat}{f:a_}(h:eT s i=(some f,j))(b:f.err=0)(hi:i<s.size):i<j/\j<=s.size:=by
 have a:∀(p),p i=true->i<yQ p (s.size - i) i/\yQ p (s.size - i) i<=s.size:=fun p d=>by
  obtain ⟨l1,l2⟩:=FL p (s.size - i) i;refine⟨?_,X⟩;rcases Nat.lt_or_ge i _ with h|h
  ·exact h
  have c:=xB p (s.size - i) i X;rw[show yQ p (s.size - i) i=i by omega,d]at c;cases c
 unfold eT at h
 split at h
 ·cases h
 split at h
 ·cases h
 split at h
 ·rename_i g;cases h;exact a _ (by rw[uX,g];rfl)
 split at h
 ·rename_i e;cases h;exact a _ (by rw[N5,e];rfl)
 split at h
 ·have hul:=ef (s.extract i s.size);have hexs:(s.extract i s.size).size<=s.size - i:=F_
  unfold EL at h
  split at h
  ·cases h;omega
  cases h;cases b
 split at h
 ·cases h;exact⟨Nat.lt_succ_self _,hi⟩
 cases h;cases b
theorem ltD(h:decide (i<(n:Int))=true):i<n:=I_ h
theorem LH(s:B_)(y:AV)(Hs:Nat->aF)(cont:Nat->Bool)(m:Nat)(hs:s.size<2^40)(G:∀k,(Hs k).get 921=some (tS s))(h2:∀k,(Hs k).get 923=some tC)(T:∀k,(Hs k).get 924=some tA)(h6:∀k,(Hs k).get 926=none)(y_:∀k,dD (Hs k))(hf:∀k,Clo (Hs k) y)
  (hm:m<=(jZ s (s.size+1) 0).length) (hall:∀k,k+1<m->cont k=true) (f_:m=(jZ s (s.size+1) 0).length\/(0<m/\cont (m - 1)=false))
  (hy:∀k d,(jZ s (s.size+1) 0)[k]?=some d->k<m->dF Tryz.prog y [.agg ((KO d).map .pv)] ((926,tF d)::Hs k) (fun r H'=>r=bv (cont k)/\H'=(926,tF d)::Hs (k+1))) :
  aS Tryz.prog 290 [y,.ref 921 0 0 0,.ref 924 0 0 0] (Hs 0) (fun r H'=>r=.tup []/\H'=Hs m):=by
 obtain ⟨ds,hds⟩:∃ds,ds=jZ s (s.size+1) 0:=X_;rw[<-hds]at hy hm f_;have D:∀(k i:Nat) (f:a_),i<=s.size+1->dF Tryz.prog (.clo 289 [.ref 921 0 0 0,.ref 923 0 0 0]) [iv (i:Int)] ((926,tF f)::Hs k) (fun r H'=>r=.pv (.int .u8 (mV s i))/\H'=(926,tF f)::Hs k):=fun k i f hi =>
  dF.clo call289 (aAc s i ((926,tF f)::Hs k) (G k) (h2 k) X X)
 have hfree:∀(G0:aF) (k i:Nat) (E:cY) (o:Ob),G0=Hs 0->E.get 0=some y->E.get 1=some (.ref 921 0 0 0)->E.get 2=some (.ref 924 0 0 0)->E.get 4=some (iv (i:Int)) ->
   cJ G0 E ((926,o)::Hs k) [(0,y),(1,.ref 921 0 0 0),(2,.ref 924 0 0 0),(4,iv (i:Int))] (Hs k):=fun G0 k i E o hG q0 A_ q2 q4=>by
  subst hG;exact cJ.front (K:=Hs k) [(926,o)] [] ⟨⟨_,q0,Z⟩,hf k,⟨_,A_,Z⟩,(by rw[C6];simp_all),⟨_,q2,Z⟩,(by rw[C6];simp_all),⟨_,q4,Z⟩,H_,T_⟩ G_ H_ H_ (y_ k) G_
 refine Bd func290 Z ntmps290<|Ae<|Sz U<|S<|Af<|aD<|fS (fun(i k:Nat)=>([(0,y),(1,.ref 921 0 0 0),(2,.ref 924 0 0 0),(4,iv (i:Int))],Hs k)) (fun i k=>i<=s.size/\k<=m/\(k=0\/cont (k - 1)=true)/\∃n,s.size - i<n/\ds.drop k=jZ s n i) (fun i k=>s.size - i) 0 0 ⟨l6 _,l6 _,.inl Z,s.size+1,Nat.lt_succ_self _,F_⟩ ?_ ?_
 ·exact E0
 rintro i k ⟨hi,hkm,hkc,n,hn,hinv⟩;refine S<|C V<|Y (aX Z N_ Z (G k) Z Z Z)<|Y (gR U_)<|O cM<|Cn ?_ ?_<;>intro hc1
 ·have hlt:i<s.size:=I_ hc1
  obtain ⟨n,rfl⟩:∃n',n=n'+1:=⟨n - 1,X⟩;rw[jZ,b6 hlt]at hinv;refine aA<|aD<|C V<|O U<|C V<|Y (oN G3)<|Y (oN aCh)<|Y (FA (id:=926) Z By Z (h6 k))<|Uu (iZ IL)<|Zz<|eM (fun(a:a_×Nat)=>([(0,y),(1,.ref 921 0 0 0),(2,.ref 924 0 0 0),(4,iv (a.2:Int)),(6,.ref 926 0 0 0)],(926,tF a.1)::Hs k)) (fun a=>eT s i=(some a.1,a.2)) ?_ ?_
  ·refine S ?_;refine fZ.ent (E':=[(0,y),(1,.ref 921 0 0 0),(2,.ref 924 0 0 0),(4,iv (i:Int)),(5,iv (i:Int)),(6,.ref 926 0 0 0)]) (H':=(926,tF (vC i))::Hs k) (cJ.get' ⟨⟨_,Z,Z⟩,⟨_,Z,Z⟩,⟨_,Z,Z⟩,⟨_,Z,Z⟩,⟨_,Z,Z⟩,⟨_,Z,Z⟩,T_⟩ (fun j=>wS 926 (tF (vC i)) _ (Hs k) j))<|Rd (aX Z NB Z (T k) Z Z Z)<|Y V<|O (cZ Z Z Z (D k i (vC i) X))<|aD<|C cD<|Da<|Cn ?_ ?_<;>intro hc2
   ·have e1:mV s i=1:=b9 hc2;have hst:eT s i=(none,i+1):=by rw[eT,b6 e1]
    rw[hst]at hinv;refine C V<|Y gV<|O U<|aP ?_;exact⟨i+1,k,⟨X,hkm,hkc,n,X,hinv⟩,X,hfree _ _ _ _ _ Z Z Z Z Z⟩
   have n1:mV s i≠1:=b_ hc2;refine C cD<|Da<|Cn ?_ ?_<;>intro hc3
   ·have e2:mV s i=2:=b9 hc3;have hst:eT s i=(none,FW s i):=by rw[eT,a8 n1,b6 e2]
    rw[hst]at hinv;refine S<|aD<|bC (σ:=Nat) (fun j=>([(0,y),(1,.ref 921 0 0 0),(2,.ref 924 0 0 0),(4,iv (j:Int))],(926,tF (vC i))::Hs k)) (fun j=>i<=j/\j<=s.size/\∀q,i<=q->q<j->uY s q=true) (fun j=>s.size - j) i ⟨j6 _,hi,fun q G h2=>by omega⟩ ?_ ?_
    ·exact E0
    rintro j ⟨B,hj,hpre⟩;refine S<|S<|aR (t:=37) (n:=11) (A_:=uY s j) ?_ ?_
    ·all_goals refine Y V<|Y (aX Z N_ Z (G k) Z Z Z)<|Y (gR U_)<|Y cM<|Dm ?_<;>(refine Sp 32 (fun h32=>?_) fun h32=>?_)<;>(first|contradiction|refine M<|M<|M<|M ?_|refine J (aX Z N_ Z (G k) Z Z Z)<|J V<|J (cV Z U_ Z Z X (l8 _) (ltD h32) Z)<|J zX ?_)<;>refine O cE ?_<;>exact Gj (h:=by first|(simp_all[uY];done)|(simp_all[uY];omega))
    refine Cn ?_ ?_<;>intro d_
    ·have hjs:j<s.size:=by
      have h:=d_;rw[uY,j0,k_]at h;exact h.1
     refine aA<|aD<|Rd V<|Y gV<|Da ?_;exact⟨j+1,⟨X,X,fun q A_ q2=>by
      by_cases e:q=j
      ·subst e;exact d_
      exact hpre q A_ X⟩,X,E0⟩
    have z:FW s i=j:=yX _ B X hpre (.inl d_);have hgt:i<j:=by
     rcases Nat.lt_or_ge i j with h|h
     ·exact h
     have hji:j=i:=X
     subst hji;rw[uY,decide_eq_true hlt,Bool.true_and,Bool.not_eq_false',k_]at d_;rw[mV,b6 hlt,d_]at e2;exact absurd e2 E_
    rw[z]at hinv;refine aP<|aP ?_;exact⟨j,k,⟨hj,hkm,hkc,n,X,hinv⟩,X,hfree _ _ _ _ _ Z Z Z Z Z⟩
   have n2:mV s i≠2:=b_ hc3;refine C cD<|Da<|Cn ?_ ?_<;>intro hc5
   ·have e3:mV s i=3:=b9 hc5;refine S<|C (aX Z NB Z (T k) Z Z Z)<|Y V<|Y (cZ Z Z Z (D k i (vC i) X))<|O U<|aD<|bC (σ:=Nat) (fun j=>([(0,y),(1,.ref 921 0 0 0),(2,.ref 924 0 0 0),(4,iv (j:Int)),(5,iv (i:Int)),(6,.ref 926 0 0 0),(7,.pv (.int .u8 (mV s j)))],(926,tF (vC i))::Hs k)) (fun j=>i<=j/\j<=s.size/\∀q,i<=q->q<j->uX s q=true) (fun j=>s.size - j) i ⟨j6 _,hi,fun q G h2=>by omega⟩ ?_ ?_
    ·exact E0
    rintro j ⟨B,hj,hpre⟩;refine S<|S<|aR (t:=54) (n:=12) (A_:=uX s j) ?_ ?_
    ·all_goals refine Y V<|Y cD<|Dm ?_<;>(refine Sp 47 (fun h47=>?_) fun h47=>?_)<;>(first|contradiction|refine M<|M ?_|refine J V<|J cD ?_)<;>refine Y cE<|Dm ?_<;>(refine Sp 51 (fun h51=>?_) fun h51=>?_)<;>(first|contradiction|refine M<|M ?_|refine J V<|J cD ?_)<;>refine O cE ?_<;>exact Gj (h:=by(simp only[uX, *];rfl))
    refine Cn ?_ ?_<;>intro hc6
    ·have hjs:j<s.size:=W2 s j (fun e=>by rw[uX,e]at hc6;cases hc6);refine aA<|S<|aD<|Rd V<|Y gV<|O U<|Rd (aX Z NB Z (T k) Z Z Z)<|Y V<|Y (cZ Z Z Z (D k (j+1) (vC i) X))<|Da ?_;exact⟨j+1,⟨X,X,fun q A_ q2=>by
      by_cases e:q=j
      ·subst e;exact hc6
      exact hpre q A_ X⟩,X,E0⟩
    have z:BX s i=j:=yX _ B X hpre (.inl hc6);have hst:eT s i=(some (AA s i j),j):=by rw[eT,a8 n1,a8 n2,b6 e3,z]
    refine aP<|S<|aN a7<|Cr [921] (fun x hH=>by exact aX Z N_ Z ((hH _ Z).trans (G k)) Z Z Z)<|Cr [] (fun _ _=>V)<|Cr [] (fun _ _=>V)<|Cr [] (fun x hH=>by exact bT (l:=i) (h:=j) Z U_ Z Z Z X X Z)<|Cr [926] (fun _ h=>fh oK h)<|Cr [926] (fun _ h=>fh uS h)<|Cp [926] (fun _ h=>su sizeOf3 h)<|Cr [926] (fun _ h=>fh oK h)<|Cr [926] (fun _ h=>fh iF h)<|Cp [926] (fun _ h=>su V_ h)<|Cr [926] (fun _ h=>fh sZ h)<|Cp [926] (fun _ h=>su sizeOf25 h) ?_;refine bL<|Kr<|C V<|Y V<|Y (by exact dV Z Z Z (show IntKind.i64.wrap ((j:Int) - (i:Int))=((j - i:Nat):Int)by rw[IntKind.wrap_i64];omega))<|O jK ?_;refine Cn ?_ ?_<;>intro hc7
    ·have z_:AA s i j=⟨1,s.extract i j,i,2⟩:=by rw[AA,b6 (I_ hc7)]
     rw[z_]at hst;refine Rd (bA sZ)<|Uu (ku sizeOf25)<|Zz ?_;exact⟨(⟨1,s.extract i j,i,2⟩,j),hst,cJ.get' ⟨⟨_,Z,Z⟩,⟨_,Z,Z⟩,⟨_,Z,Z⟩,⟨_,Z,Z⟩,⟨_,Z,Z⟩,T_⟩ (fun q=>BL [_,_,_,_] H_ q)⟩
    have z_:AA s i j=⟨1,s.extract i j,i,0⟩:=by rw[AA,a8 (J_ hc7)]
    rw[z_]at hst;refine aA ?_;exact⟨(⟨1,s.extract i j,i,0⟩,j),hst,cJ.get' ⟨⟨_,Z,Z⟩,⟨_,Z,Z⟩,⟨_,Z,Z⟩,⟨_,Z,Z⟩,⟨_,Z,Z⟩,T_⟩ (fun q=>BL [_,_,_] H_ q)⟩
   have n3:mV s i≠3:=b_ hc5;refine C cD<|Da<|Cn ?_ ?_<;>intro hc8
   ·have e4:mV s i=4:=b9 hc8;refine S<|aD<|bC (σ:=Nat) (fun j=>([(0,y),(1,.ref 921 0 0 0),(2,.ref 924 0 0 0),(4,iv (j:Int)),(5,iv (i:Int)),(6,.ref 926 0 0 0)],(926,tF (vC i))::Hs k)) (fun j=>i<=j/\j<=s.size/\∀q,i<=q->q<j->N5 s q=true) (fun j=>s.size - j) i ⟨j6 _,hi,fun q G h2=>by omega⟩ ?_ ?_
    ·exact E0
    rintro j ⟨B,hj,hpre⟩;refine S<|C (aX Z NB Z (T k) Z Z Z)<|Y V<|Y (cZ Z Z Z (D k j (vC i) X))<|O cD<|Cn ?_ ?_<;>intro hc9
    ·have hjs:j<s.size:=W2 s j (fun e=>by rw[e]at hc9;cases hc9);refine aA<|aD<|Rd V<|Y gV<|Da ?_;exact⟨j+1,⟨X,X,fun q A_ q2=>by
      by_cases e:q=j
      ·subst e;exact hc9
      exact hpre q A_ X⟩,X,E0⟩
    have z:IC s i=j:=yX _ B X hpre (.inl hc9);have hst:eT s i=(some (GU s i j),j):=by rw[eT,a8 n1,a8 n2,a8 n3,b6 e4,z]
    refine aP<|S<|aN a7<|Cr [921] (fun x hH=>by exact aX Z N_ Z ((hH _ Z).trans (G k)) Z Z Z)<|Cr [] (fun _ _=>V)<|Cr [] (fun _ _=>V)<|Cr [] (fun x hH=>by exact bT (l:=i) (h:=j) Z U_ Z Z Z X X Z)<|Cr [926] (fun _ h=>fh oK h)<|Cr [926] (fun _ h=>fh uS h)<|Cp [926] (fun _ h=>su sizeOf3 h)<|Cr [926] (fun _ h=>fh oK h)<|Cr [926] (fun _ h=>fh iF h)<|Cp [926] (fun _ h=>su V_ h)<|Cr [926] (fun _ h=>fh sZ h)<|Cp [926] (fun _ h=>su sizeOf25 h) ?_;refine bL<|Kr<|S ?_;refine fZ.ent (E':=[(0,y),(1,.ref 921 0 0 0),(2,.ref 924 0 0 0),(4,iv (j:Int)),(5,iv (i:Int)),(6,.ref 926 0 0 0)]) (H':=(926,tF ⟨2,s.extract i j,i,0⟩)::Hs k) (cJ.get' ⟨⟨_,Z,Z⟩,⟨_,Z,Z⟩,⟨_,Z,Z⟩,⟨_,Z,Z⟩,⟨_,Z,Z⟩,⟨_,Z,Z⟩,T_⟩ (fun q=>BL [_,_,_] H_ q)) ?_;have h7:decide (7<((j - i:Nat):Int))=decide (7<j - i):=by rw[Bool.eq_iff_iff,k_,k_];omega
    refine Rd (aX Z NB Z (T k) Z Z Z)<|Y V<|Y (cZ Z Z Z (D k j ⟨2,s.extract i j,i,0⟩ X))<|O U<|S<|aR (t:=105) (n:=14) (A_:=decide (7<((j - i:Nat):Int))||decide (mV s j=3)||decide (mV s j=5)) ?_ ?_
    ·all_goals refine Y V<|Y V<|Y (by exact dV Z Z Z (show IntKind.i64.wrap ((j:Int) - (i:Int))=((j - i:Nat):Int)by rw[IntKind.wrap_i64];omega))<|Y jK<|Dm ?_<;>(refine Sp 98 (fun h98=>?_) fun h98=>?_)<;>(first|contradiction|refine M<|M ?_|refine J V<|J cD ?_)<;>refine Y cE<|Dm ?_<;>(refine Sp 102 (fun h102=>?_) fun h102=>?_)<;>(first|contradiction|refine M<|M ?_|refine J V<|J cD ?_)<;>refine O cE ?_<;>exact Gj (h:=by first|(simp_all[uX];done)|(simp_all;omega))
    refine Cn ?_ ?_<;>intro u_
    ·have z_:GU s i j=⟨2,s.extract i j,i,4⟩:=by rw[GU,<-h7,u_];rfl
     rw[z_]at hst;refine Rd (bA sZ)<|Uu (ku sizeOf25)<|Zz ?_;exact⟨(⟨2,s.extract i j,i,4⟩,j),hst,cJ.get' ⟨⟨_,Z,Z⟩,⟨_,Z,Z⟩,⟨_,Z,Z⟩,⟨_,Z,Z⟩,⟨_,Z,Z⟩,T_⟩ (fun q=>BL [_] H_ q)⟩
    have z_:GU s i j=⟨2,s.extract i j,i,0⟩:=by rw[GU,<-h7,u_];rfl
    rw[z_]at hst;refine aA ?_;exact⟨(⟨2,s.extract i j,i,0⟩,j),hst,E0⟩
   have n4:mV s i≠4:=b_ hc8;refine C cD<|Da<|Cn ?_ ?_<;>intro R
   ·have e7:mV s i=7:=b9 R;have hst:eT s i=(some (EL s i).1,(EL s i).2):=by rw[eT,a8 n1,a8 n2,a8 n3,a8 n4,b6 e7]
    have hexs:(s.extract i s.size).size<=s.size - i:=by rw[ByteArray.size_extract];omega
    have hun:=fun H=>iq (s.extract i s.size) H X;have hul:=ef (s.extract i s.size);obtain ⟨u,hu⟩:∃u,u=AB (s.extract i s.size):=X_;have hgs:EL s i=if 0<u.2 then(⟨3,u.1,i,0⟩,i+u.2.toNat)else(vC i,i):=by rw[EL,<-hu]
    rw[<-hu]at hun hul;obtain ⟨ut,un⟩:=u;simp only at hun hul hgs;refine C (aX Z N_ Z (G k) Z Z Z)<|Y V<|Y (bT (l:=i) (h:=s.size) Z U_ Z Z Z X X Z)<|Y (kc call291 (hun _))<|Y V<|Y dH<|Y dH<|Y U<|O U<|S<|C V<|O jK<|Cn ?_ ?_<;>intro hc12
    ·rw[hgs,b6 (b9 hc12)]at hst;refine Rd V<|Y (bA oK)<|Y (bA uS)<|Uu (ku sizeOf3)<|Y (bA oK)<|Y (bA iF)<|Uu (ku V_)<|Y (bA sZ)<|Uu (ku sizeOf25)<|Zz<|Rd V<|Y V<|Y (by exact eQ Z Z Z (show IntKind.i64.wrap ((i:Int)+un)=((i+un.toNat:Nat):Int)by rw[IntKind.wrap_i64];omega))<|Da ?_;exact⟨(⟨3,ut,i,0⟩,i+un.toNat),hst,cJ.get' ⟨⟨_,Z,Z⟩,⟨_,Z,Z⟩,⟨_,Z,Z⟩,⟨_,Z,Z⟩,⟨_,Z,Z⟩,T_⟩ (fun q=>BL [_,_,_] H_ q)⟩
    have hu0:=b_ hc12;rw[hgs,a8 hu0]at hst;have e0:i+un.toNat=i:=X
    refine aA<|Rd V<|Y V<|Y (by exact eQ Z Z Z (show IntKind.i64.wrap ((i:Int)+un)=((i+un.toNat:Nat):Int)by rw[IntKind.wrap_i64];omega))<|Da ?_;rw[e0];exact⟨(vC i,i),hst,E0⟩
   have n7:mV s i≠7:=b_ R;refine C cD<|Da<|Cn ?_ ?_<;>intro hc13
   ·have e6:mV s i=6:=b9 hc13;have hst:eT s i=(some ⟨4,s.extract i (i+1),i,0⟩,i+1):=by rw[eT,a8 n1,a8 n2,a8 n3,a8 n4,a8 n7,b6 e6]
    refine C V<|Y gV<|O U<|aN a7<|Cr [921] (fun x hH=>by exact aX Z N_ Z ((hH _ Z).trans (G k)) Z Z Z)<|Cr [] (fun _ _=>V)<|Cr [] (fun _ _=>V)<|Cr [] (fun x hH=>by exact bT (l:=i) (h:=(i+1)) Z U_ Z Z Z X X Z)<|Cr [926] (fun _ h=>fh oK h)<|Cr [926] (fun _ h=>fh uS h)<|Cp [926] (fun _ h=>su sizeOf3 h)<|Cr [926] (fun _ h=>fh oK h)<|Cr [926] (fun _ h=>fh iF h)<|Cp [926] (fun _ h=>su V_ h)<|Cr [926] (fun _ h=>fh sZ h)<|Cp [926] (fun _ h=>su sizeOf25 h) ?_;refine bL<|Kr ?_;exact⟨(⟨4,s.extract i (i+1),i,0⟩,i+1),hst,cJ.get' ⟨⟨_,Z,Z⟩,⟨_,Z,Z⟩,⟨_,Z,Z⟩,⟨_,Z,Z⟩,⟨_,Z,Z⟩,T_⟩ (fun q=>BL [_,_,_] H_ q)⟩
   have n6:mV s i≠6:=b_ hc13;have hst:eT s i=(some (vC i),i):=by rw[eT,a8 n1,a8 n2,a8 n3,a8 n4,a8 n7,a8 n6]
   refine aA ?_;exact⟨(vC i,i),hst,E0⟩
  rintro⟨f,j⟩ hst;rw[hst]at hinv;simp only at hinv hst;obtain ⟨hk1,hk2⟩:=R8 hinv;have hkl:=(m_.1 hk1).1;have v_:k<m:=by
   rcases Nat.lt_or_ge k m with h|h
   ·exact h
   have hkem:k=m:=Nat.le_antisymm hkm h;subst hkem;rcases f_ with h|⟨h,h'⟩
   ·omega
   rcases hkc with h2|h2
   ·omega
   rw[h2]at h';cases h'
  have F:ds.length=k+1\/cont k=false->k+1=m:=fun h=>by
   rcases h with h|h
   ·omega
   rcases Nat.lt_or_ge (k+1) m with T|T
   ·rw[hall k T]at h;cases h
   omega
  have hyk:=hy k f hk1 v_;cases hck:cont k with
  |false =>
   have A:=F (.inr hck);rw[hck]at hyk;refine C V<|Y (wA isAgg266 IL)<|Y (cZ Z Z Z (hyk))<|Y iW<|Y V<|M<|M<|M<|O cE<|Cn ?_ ?_<;>intro hc14
   ·refine aC ?_;rw[<-A];exact oO (H':=Hs (k+1)) (.inr Z) Z (Fin.pops' [(926,tF f)] H_ (y_ _) (by simp[h6]) (by simp[h6])) ⟨Z,Z⟩
   cases hc14
  | true =>
   rw[hck]at hyk;refine C V<|Y (wA isAgg266 IL)<|Y (cZ Z Z Z (hyk))<|Y iW<|Y V<|J (bA sZ)<|J (bS mX)<|J zX<|O cE<|Cn ?_ ?_<;>intro W
   ·have hne:f.err≠0:=by
     have h:=W
     simpa using h
    rw[a8 hne]at hk2;have A:=F (.inl (by have:=List.drop_eq_nil_iff.1 hk2;omega));refine aC ?_;rw[<-A];exact oO (H':=Hs (k+1)) (.inr Z) Z (Fin.pops' [(926,tF f)] H_ (y_ _) (by simp[h6]) (by simp[h6])) ⟨Z,Z⟩
   have he0:f.err=0:=by
    have h:=W
    simpa using h
   obtain ⟨g1,g2⟩:=OK hst he0 hlt;rw[b6 he0]at hk2;refine aA ?_;exact⟨j,k+1,⟨g2,v_,.inr hck,n,X,hk2⟩,X,hfree _ _ _ _ _ Z Z Z Z Z⟩
 have hge:s.size<=i:=J_ hc1
 have hnil:jZ s n i=[]:=by
  cases n with
  |zero=>rfl
  |succ n=>rw[jZ,a8 X]
 rw[hnil]at hinv;have hkd:=List.drop_eq_nil_iff.1 hinv;have A:k=m:=X
 refine aP ?_;rw[<-A];exact oO (H':=Hs k) (.inl Z) Z Fin.refl ⟨Z,Z⟩
def K_(f:a_):List PV:=[.int .i64 f.kind,.str f.text,.int .i64 f.pos]
def CA(l:List a_):PV:=.sl (l.map K_)
def lN(l:List a_):List (List AV):=l.map fun f=>(K_ f).map AV.pv
theorem xH(l):(lN l).length=l.length:=g_ _
theorem B3(l)(f):lN l++[(K_ f).map AV.pv]=lN (l++[f]):=by rw[lN,lN,List.map_append];rfl
theorem cS(H)(l):∀r∈lN l,∀a∈r,Clo H a:=by intro r c a b;obtain ⟨d,_,rfl⟩:=List.mem_map.1 c;obtain ⟨p,_,rfl⟩:=List.mem_map.1 b;simp
instance(H)(l):W_ (H) (lN l):=⟨cS H l⟩
theorem sK{H}(e:(H.get 921).isSome=true)(f:(H.get 923).isSome=true):∀r∈tA.rows,∀a∈r,Clo H a:=by intro r c a d;simp[tA,bx,q9]at c;subst c;rw[q9]at d;subst d;simp[e,f]
theorem sJ(H)(s):∀r∈(tS s).rows,∀a∈r,Clo H a:=by intro r c a b;simp[tS,bx,q9]at c;subst c;rw[q9]at b;subst b;simp
instance(H)(s):W_ (H) ((tS s).rows):=⟨sJ H s⟩
def kI:List a_->List a_->List a_×Int×Int
 |acc,[]=>(acc,0,0)
 |acc,f::r=>if f.err≠0 then([],f.err,f.pos)else if acc.length=5000 then([],2,f.pos)else kI (acc++[f]) r
def fD(s:B_):List a_×Int×Int:=if 20000<s.size then([],2,-1)else kI [] (jZ s (s.size+1) 0)
def sS(ds:List a_)(k:Nat):Bool:=match ds[k]? with
 |some f=>decide (f.err=0)&&!decide (k=5000)
 |none=>true
theorem MK{b}:∀ {k},k<=b.length->(∀j,j<k->sS b j=true)->kI [] b=kI (b.take k) (b.drop k)
 |0,_,_=>rfl
 |k+1,c,h=>by
  rw[MK (Nat.le_of_succ_le c) (fun j hj=>h j (by omega))];have d:=List.drop_eq_getElem_cons c;have a:=h k (Nat.lt_succ_self k);rw[sS,m8 c]at a;simp[j0,k_,r8,q6]at a;have htl:(b.take k).length=k:=G_
  rw[d,kI,a8 (fun h=>h a.1),a8 X,List.take_add_one,m8 _];rfl
theorem AX(s):∀(n i),(jZ s n i).length<=n
 |0,_=>l6 _
 | n+1,i=>by
  rw[jZ]
  split
  ·split
   ·exact Nat.le_succ_of_le (AX s n _)
   split
   ·exact Nat.succ_le_succ (AX s n _)
   simp_all
  simp_all
def kL(s:B_)(L:List a_)(a:AV)(e p:Int):aF:=[(905,⟨L.length,3,189,lN L⟩),(5,bx 1 185 [.osl 905 L.length 0 L.length]),(924,tA),(923,tC),(921,tS s),(4,bx 1 3 [iv p]),(3,bx 1 25 [iv e]),(2,bx 1 185 [a])]
theorem Jb(s)(L)(f)(a)(e p):kL s (L++[f]) a e p=[(905,⟨L.length+1,3,189,lN (L++[f])⟩),(5,bx 1 185 [.osl 905 (L.length+1) 0 (L.length+1)]),(924,tA),(923,tC),(921,tS s),(4,bx 1 3 [iv p]),(3,bx 1 25 [iv e]),(2,bx 1 185 [a])]:=by simp[kL]
def vD:cY:=[(2,.ref 2 0 0 0),(3,.ref 3 0 0 0),(4,.ref 4 0 0 0),(5,.ref 5 0 0 0)]
theorem J2{a}{k}{f}(h:a[k]?=some f):sS a k=(decide (f.err=0)&&!decide (k=5000)):=by rw[sS,h]
theorem Wa(s:B_)(H:aF)(z_:s.size<2^40):RC 203 [sv s] (.tup [.pv (CA (fD s).1),iv (fD s).2.1,iv (fD s).2.2]) H:=by
 refine Pu<|Bd func203 Z ntmps203<|C (kl 2 Vh)<|Y (kl 3 Wu)<|O (kl 4 Wt)<|S<|C V<|Y (gR U_)<|O jK<|Cn ?_ ?_<;>intro hc1
 ·have e:fD s=([],2,-1):=by rw[fD,b6 (by have:=b9 hc1;omega)]
  rw[e];refine Sr<|Uu (iZ nT)<|Uu (iZ sizeOf25)<|Uu (iZ sizeOf3)<|Zz<|aC<|mA (H':=[]) (.inr Z) Z (iJ Z nD Z Z Z Z) (iJ Z mX Z Z Z Z) (iJ Z M_ Z Z Z Z) (Fin.wk (by simp) T_ T_) Qq
 have f_:¬ 20000<s.size:=by have:=b_ hc1;omega
 obtain ⟨ds,hds⟩:∃ds,ds=jZ s (s.size+1) 0:=X_;have y_:fD s=kI [] ds:=by rw[fD,a8 f_,hds]
 refine aA<|Sz (kl 5 Bv)<|S<|C V<|O (kc call254 (Z5 s _ Z Z Z (dD.ofL ⟨(by simp_all),(by simp_all),(by simp_all),(by simp_all),T_⟩)))<|aD ?_;refine fZ.ent (E':=[(2,.ref 2 0 0 0),(3,.ref 3 0 0 0),(4,.ref 4 0 0 0),(5,.ref 5 0 0 0),(11,.clo 290 [.ref 921 0 0 0,.ref 924 0 0 0])]) (H':=[(905,⟨0,3,189,[]⟩),(5,bx 1 185 [.osl 905 0 0 0]),(924,tA),(923,tC),(921,tS s),(4,bx 1 3 [iv 0]),(3,bx 1 25 [iv 0]),(2,bx 1 185 [.pv (.sl [])])]) ?_ ?_
 ·exact(cJ.nz 905 3 189 Z Z ⟨⟨_,Z,(by exact Nz.same (by(simp;rfl)))⟩,⟨_,Z,(by exact Nz.same (by(simp;rfl)))⟩,⟨_,Z,(by exact Nz.same (by(simp;rfl)))⟩,⟨_,Z,(by exact Nz.same (by(simp;rfl)))⟩,⟨_,Z,(by exact Nz.same (by(simp;exact⟨Z,Z⟩)))⟩,T_⟩ ⟨⟨_,Z,Z,Z,Z,(by exact .inr ⟨_,_,rfl,rfl,(by repeat(first|exact trivial|refine⟨(by exact Nz.own),?_⟩))⟩)⟩,⟨_,Z,Z,Z,Z,(by exact .inl ⟨Z,(by exact sK Z Z)⟩)⟩,⟨_,Z,Z,Z,Z,(by exact .inl ⟨Z,(by exact kB _)⟩)⟩,⟨_,Z,Z,Z,Z,(by exact .inl ⟨Z,(by exact sJ _ _)⟩)⟩,⟨_,Z,Z,Z,Z,(by exact .inl ⟨Z,(by simp_all)⟩)⟩,⟨_,Z,Z,Z,Z,(by exact .inl ⟨Z,(by simp_all)⟩)⟩,⟨_,Z,Z,Z,Z,(by exact .inl ⟨Z,(by simp_all)⟩)⟩,T_⟩ T_)
 have hdl:ds.length<=s.size+1:=by rw[hds];exact AX s _ _
 obtain ⟨j,hj⟩:∃j,j=yQ (sS ds) ds.length 0:=X_;have hj1:j<=ds.length:=by have:=(FL (sS ds) ds.length 0).2;omega
 have hj2:∀k,k<j->sS ds k=true:=fun k hk=>JD (sS ds) ds.length 0 k (l6 _) (by omega);have A_:j<ds.length->sS ds j=false:=fun h=>by have:=xB (sS ds) ds.length 0 (by omega);rwa [<-hj]at this
 have t:=MK hj1 hj2;refine BS (id:=904) (p:=12) vD Z call290 Z Z (by simp[vD];exact⟨Z,Z,Z,Z⟩) ?_;intro x hx1 A u_ v_ W R;have hround:∀(k:Nat) (d:a_),ds[k]?=some d->k<=j ->
   dF Tryz.prog (.yld 904 0) [.agg ((KO d).map .pv)] ((904,LR x vD)::(926,tF d)::kL s (ds.take k) (.pv (.sl [])) 0 0) (fun r H'=>r=bv (sS ds k)/\H'=(if sS ds k then(904,LR x vD)::(926,tF d)::kL s (ds.take (k+1)) (.pv (.sl [])) 0 0 else(904,LR (left x .ret) vD)::(926,tF d)::kL s (ds.take k) (.pv (.sl [])) (if d.err≠0 then d.err else 2) d.pos)):=by
  intro k d u D;have hok:=J2 u;have hkl:k<ds.length:=(m_.1 u).1;have htl:(ds.take k).length=k:=by rw[q7];omega
  have hnx:ds.take (k+1)=ds.take k++[d]:=by rw[List.take_add_one,u];rfl
  refine .inl ⟨904,0,Z,?_⟩;refine LC [(2,.ref 2 0 0 0),(3,.ref 3 0 0 0),(4,.ref 4 0 0 0),(5,.ref 5 0 0 0),(6,.ref 907 0 0 0)] ((907,tF d)::(926,tF d)::kL s (ds.take k) (.pv (.sl [])) 0 0) hx1 A u_ v_ W R Z Z Z ?_ ?_
  ·refine Rd (kl 907 By)<|Uu (iZ IL)<|Zz ?_;exact(cJ.wk (Ea<|Ea<|Ea<|Ea<|Ea<|T_) (Hc (nU (by simp[vD];exact⟨Z,Z,Z,Z⟩))<|Hc (zO _ _)<|Hc (zO _ _)<|Hc (cS _ _)<|Ha<|Hc (sK Z Z)<|Hc (kB _)<|Hc (sJ _ _)<|Hb<|Hb<|Hb<|T_) ⟨Z,Z,Z,Z,Z,Z,Z,Z,Z,Z,T_⟩)
  refine aD<|S<|aD<|C (bA sZ)<|Y (bS mX)<|Y zX<|Da<|Cn ?_ ?_<;>intro y
  ·have v:d.err≠0:=by have h:=y;rw[r8,q6]at h;exact h
   have h0:sS ds k=false:=by rw[hok,decide_eq_false v];rfl
   rw[h0,a8 (by decide),b6 v];refine S<|aN a7<|Cr [907] (fun _ h=>fh sZ h)<|Cr [907] (fun _ h=>lh mX h)<|Cr [907] (fun _ h=>fh oK h)<|Cr [907] (fun _ h=>fh O9 h)<|Cr [907] (fun _ h=>lh M_ h)<|Cp [2] (fun _ h=>sa nT h)<|Cp [3] (fun _ h=>sa sizeOf25 h)<|Cp [4] (fun _ h=>sa sizeOf3 h)<|bL<|Kr<|aC ?_;exact⟨(926,tF d)::kL s (ds.take k) (.pv (.sl [])) d.err d.pos,(cJ.wk T_ (Hc (nU (by simp[vD];exact⟨Z,Z,Z,Z⟩))<|Hc (zO _ _)<|Hc (cS _ _)<|Ha<|Hc (sK Z Z)<|Hc (kB _)<|Hc (sJ _ _)<|Hb<|Hb<|Hb<|T_) ⟨Z,Z,Z,Z,Z,Z,Z,Z,Z,Z,T_⟩),Z,Z⟩
  have v:d.err=0:=by have h:=y;rw[Bool.not_eq_false',k_]at h;exact h
  refine C (bS nD)<|Y (by exact dQ Z cP Z Z Z)<|Y cD<|Da<|Cn ?_ ?_<;>intro hc3
  ·have w:k=5000:=by have:=b9 hc3;omega
   have h0:sS ds k=false:=by rw[hok,decide_eq_true v,decide_eq_true w];rfl
   rw[h0,a8 (by decide),a8 (fun h=>h v)];refine S<|aN a7<|Cr [907] (fun _ h=>fh oK h)<|Cr [907] (fun _ h=>fh O9 h)<|Cr [907] (fun _ h=>lh M_ h)<|Cp [2] (fun _ h=>sa nT h)<|Cp [3] (fun _ h=>sa sizeOf25 h)<|Cp [4] (fun _ h=>sa sizeOf3 h)<|bL<|Kr<|aC ?_;exact⟨(926,tF d)::kL s (ds.take k) (.pv (.sl [])) 2 d.pos,(cJ.wk T_ (Hc (nU (by simp[vD];exact⟨Z,Z,Z,Z⟩))<|Hc (zO _ _)<|Hc (cS _ _)<|Ha<|Hc (sK Z Z)<|Hc (kB _)<|Hc (sJ _ _)<|Hb<|Hb<|Hb<|T_) ⟨Z,Z,Z,Z,Z,Z,Z,Z,Z,Z,T_⟩),Z,Z⟩
  have w:¬ k=5000:=by have:=b_ hc3;omega
  have h0:sS ds k=true:=by rw[hok,decide_eq_true v,decide_eq_false w];rfl
  rw[h0,b6 Z,hnx,Jb];refine aA<|Rd (bS nD)<|Y (bA oK)<|Y (wA iS sizeOf189)<|Y (by exact aK [K_ d] Z hU Z Z Z Z Z R_)<|Y (by exact cA (ps:=[K_ d]) Z hU um Z Z Z Z Z (xH _) Z R_ (m:=1) Z (by omega) Z (B3 (ds.take k) d))<|Uu (iZ nT)<|Zz ?_;exact⟨(926,tF d)::[(905,⟨(ds.take k).length+1,3,189,lN (ds.take k++[d])⟩),(5,bx 1 185 [.osl 905 ((ds.take k).length+1) 0 ((ds.take k).length+1)]),(924,tA),(923,tC),(921,tS s),(4,bx 1 3 [iv 0]),(3,bx 1 25 [iv 0]),(2,bx 1 185 [.pv (.sl [])])],(cJ.wk T_ (Hc (nU (by simp[vD];exact⟨Z,Z,Z,Z⟩))<|Hc (zO _ _)<|Hc (cS _ _)<|Ha<|Hc (sK Z Z)<|Hc (kB _)<|Hc (sJ _ _)<|Hb<|Hb<|Hb<|T_) ⟨Z,Z,Z,Z,Z,Z,Z,Z,Z,Z,T_⟩),Z,Z⟩
 rcases Nat.lt_or_ge j ds.length with q|hge
 ·obtain ⟨f,hf⟩:=aU q;have hbad:=A_ q;have Q:ds.drop j=f::ds.drop (j+1):=by
   rw[List.drop_eq_getElem_cons q];rw[m8 q]at hf;cases hf;rfl
  have d_:fD s=([],(if f.err≠0 then f.err else 2),(f.pos:Int)):=by
   rw[y_,t,Q,kI]
   split
   ·rfl
   rename_i v;have T:f.err=0:=by
    by_cases h:f.err=0
    ·exact h
    exact absurd h v
   rw[J2 hf,decide_eq_true T,Bool.true_and,Bool.not_eq_false',k_]at hbad;rw[b6 (by rw[q7];omega)]
  rw[d_];refine(LH s (.yld 904 0) (fun k=>if k<=j then(904,LR x vD)::kL s (ds.take k) (.pv (.sl [])) 0 0 else(904,LR (left x .ret) vD)::kL s (ds.take j) (.pv (.sl [])) (if f.err≠0 then f.err else 2) f.pos) (sS ds) (j+1) z_ (fun k=>?_) (fun k=>?_) (fun k=>?_) (fun k=>?_) (fun k=>?_) (fun k=>?_) (by rw[<-hds];exact q) (fun k hk=>hj2 k (by omega)) (.inr ⟨Nat.succ_pos _,by rw[Nat.add_sub_cancel];exact hbad⟩) ?_).mono ?_
  ·split<;>rfl
  ·split<;>rfl
  ·split<;>rfl
  ·split<;>rfl
  ·split
   ·exact(dD.ofL ⟨(by exact nU (by simp[vD];exact⟨Z,Z,Z,Z⟩)),(by exact cS _ _),(by(simp;rfl)),(by exact sK Z Z),(by exact kB _),(by exact sJ _ _),(by(simp;done)),(by(simp;done)),(by(simp;done)),T_⟩)
   exact(dD.ofL ⟨(by exact nU (by simp[vD];exact⟨Z,Z,Z,Z⟩)),(by exact cS _ _),(by(simp;rfl)),(by exact sK Z Z),(by exact kB _),(by exact sJ _ _),(by(simp;done)),(by(simp;done)),(by(simp;done)),T_⟩)
  ·split<;>(simp;rfl)
  ·rw[<-hds];intro k d u hk;have hr:=hround k d u (by omega);rw[b6 (by omega)];by_cases D:k=j
   ·subst D;rw[hf]at u;cases u;rw[hbad,a8 (by decide)]at hr;rw[a8 (by omega),hbad];exact dF.congrG hr (fun j=>mT (by decide) j) (fun j=>mT (by decide) j)
   have hok:=hj2 k (by omega);rw[hok,b6 rfl]at hr;rw[b6 (by omega),hok];exact dF.congrG hr (fun j=>mT (by decide) j) (fun j=>mT (by decide) j)
  rintro r H' ⟨rfl,rfl⟩;rw[a8 (by omega)];refine⟨left x .ret,_,Z,by simp[left],Z,fun z=>?_⟩;show ND _ _ _ _ _ _ _;refine mA (H':=[]) (.inr Z) Z (iJ Z nD Z Z Z Z) (iJ Z mX Z Z Z Z) (iJ Z M_ Z Z Z Z) (Fin.wk (by simp) T_ T_) Qq
 have P:j=ds.length:=Nat.le_antisymm hj1 hge;rw[P,List.take_length,List.drop_length]at t;rw[y_,t,kI];refine(LH s (.yld 904 0) (fun k=>(904,LR x vD)::kL s (ds.take k) (.pv (.sl [])) 0 0) (sS ds) ds.length z_ (fun k=>rfl) (fun k=>rfl) (fun k=>rfl) (fun k=>rfl) (fun k=>(dD.ofL ⟨(by exact nU (by simp[vD];exact⟨Z,Z,Z,Z⟩)),(by exact cS _ _),(by(simp;rfl)),(by exact sK Z Z),(by exact kB _),(by exact sJ _ _),(by(simp;done)),(by(simp;done)),(by(simp;done)),T_⟩)) (fun k=>by simp;rfl) (by rw[<-hds];exact j6 _) (fun k hk=>hj2 k (by omega)) (.inl (by rw[<-hds])) ?_).mono ?_
 ·rw[<-hds];intro k d u hk;have hr:=hround k d u (by omega);have hok:=hj2 k (by omega);rw[hok,b6 rfl]at hr;rw[hok];exact dF.congrG hr (fun j=>mT (by decide) j) (fun j=>mT (by decide) j)
 rintro r H' ⟨rfl,rfl⟩;rw[List.take_length];refine⟨x,_,Z,by rw[hx1];decide,Z,fun z=>?_⟩;rw[A];refine C (bS nD)<|Uu (iZ nT)<|Uu (iZ sizeOf25)<|Uu (iZ sizeOf3)<|Zz<|aC ?_;refine mA (H':=[]) (.inr Z) Z (iJ Z nD Z Z Z Z) (iJ Z mX Z Z Z Z) (iJ Z M_ Z Z Z Z) (Fin.fz (r':=.tup [.pv (CA ds),iv 0,iv 0]) (id:=905) (ob:=⟨ds.length,3,189,lN ds⟩) (ds.map K_) Z (by rw[List.map_map];rfl) (.tup Z (bG (.osl (qs:=ds.map K_) (by rw[r7,List.drop_zero];exact List.take_of_length_le (Nat.le_of_eq (g_ K_)))) (bG (.same (by simp)) (bG (.same (by simp)) kX)))) Z T_ T_) ?_;exact Qq
def D0:List a_->Option (List l_)
 | []=>some []
 |a::_::c::r=>(D0 r).map fun l=>⟨a.text,c.text⟩::l
 |_=>none
def US(l:List a_)(k:Nat):l_:=⟨((l[3*k]?).map a_.text).getD a6,((l[3*k+2]?).map a_.text).getD a6⟩
def fF(l:List a_)(k:Nat):List l_:=(List.range k).map (US l)
theorem EV(l)(k):fF l (k+1)=fF l k++[US l k]:=by rw[fF,List.range_succ,List.map_append];rfl
theorem GW(l)(k):(fF l k).length=k:=by rw[fF,g_,List.length_range]
def sI(l:List l_):List (List AV):=l.map fun t=>(bP t).map AV.pv
theorem G8(l):(sI l).length=l.length:=g_ _
theorem G9(l)(t):sI l++[(bP t).map AV.pv]=sI (l++[t]):=by rw[sI,sI,List.map_append];rfl
theorem kT(H)(l):∀r∈sI l,∀a∈r,Clo H a:=by intro r c a b;obtain ⟨d,_,rfl⟩:=List.mem_map.1 c;obtain ⟨p,_,rfl⟩:=List.mem_map.1 b;simp
instance(H)(l):W_ (H) (sI l):=⟨kT H l⟩
theorem HS:∀(r acc),(kI acc r).1.length<=acc.length+r.length
 | [],acc=>j6 _
 |f::r,acc=>by
  rw[kI]
  split
  ·simp_all
  split
  ·simp_all
  have:=HS r (acc++[f]);rw[j9,List.length_singleton]at this;rw[j7];omega
theorem wN(s)(h:s.size<2^40):(fD s).1.length<549755813888:=by
 unfold fD
 split
 ·decide
 have a:=HS (jZ s (s.size+1) 0) [];have h2:=AX s (s.size+1) 0;rw[List.length_nil]at a;omega
theorem aT(s:B_):s.data.toList.length=s.size:=rfl
theorem oI{a b:B_}(h:a.data.toList=b.data.toList):a=b:=by cases a with|mk a=>simp_all
theorem gU(s:B_)(i j):(s.extract i j).data.toList=(s.data.toList.drop i).take (j - i):=H_
theorem pV{s}{i}{c}{r}(h:s.data.toList.drop i=c::r):i<s.size/\aZ s i=(c.toNat)/\s.data.toList.drop (i+1)=r:=by obtain ⟨a,b⟩:=R8 h;refine⟨by rw[<-aT];grind,by rw[aZ,a];rfl,b⟩
theorem IG{s}{i}{c}{r}(h:s.data.toList.drop i=c::r):mV s i=yF (c.toNat):=by obtain ⟨a,b,_⟩:=pV h;rw[mV,b6 a,b]
theorem vc{s}{i}(h:s.data.toList.drop i=[]):mV s i=0:=by have:=List.drop_eq_nil_iff.1 h;rw[aT]at this;rw[mV,a8 X]
theorem fE{i}{w r}(h:s.data.toList.drop i=w++r):s.data.toList.drop (i+w.length)=r:=by rw[<-List.drop_drop,h,List.drop_left]
theorem uq{k:Nat}{w r}{c:UInt8}(h:s.data.toList.drop i=w++r)(b:w[k]?=some c):s.data.toList.drop (i+k)=c::((w.drop (k+1))++r):=by
 have a:=(m_.1 b).1;have e:w=w.take k++c::w.drop (k+1):=by
  conv=>lhs;rw[<-List.take_append_drop k w]
  rw[List.drop_eq_getElem_cons a,(m_.1 b).2]
 have f:s.data.toList.drop i=w.take k++(c::w.drop (k+1)++r):=by
  grind
 have d:=fE f;rw[q7,Nat.min_eq_left X]at d;exact d
theorem zK{i}{w r}(h:s.data.toList.drop i=w++r):s.extract i (i+w.length)=⟨w.toArray⟩:=by
 refine oI ?_
 simp_all
theorem rY{i}:(s.extract i s.size).data.toList=s.data.toList.drop i:=by rw[gU];exact List.take_of_length_le H_
theorem CL{k}(h:cF k=true):0<k.size/\k.size<=24/\yF (aZ k 0)=3/\∀j,j<k.size->(yF (aZ k j)=3\/yF (aZ k j)=4\/yF (aZ k j)=5):=by
 rw[cF,j0,j0,r8,r8,List.any_eq_false,q6,k_]at h;obtain ⟨i,l,h3⟩:=h;have a:0<k.size:=by
  rcases Nat.eq_zero_or_pos k.size with e|e
  ·refine absurd (oI ?_) l
   simp_all
  exact e
 have f:=fun j b=>by
  have:=i j (List.mem_range.2 b)
  simpa using this
 refine⟨a,X,?_,fun j b=>?_⟩
 ·have:=f 0 a
  simpa[fp]using this
 have:=f j b;rw[fp]at this;by_cases c:yF (aZ k j)=3
 ·exact .inl c
 by_cases g:yF (aZ k j)=4
 ·exact .inr (.inl g)
 by_cases d:yF (aZ k j)=5
 ·exact .inr (.inr d)
 simp[c,g,d]at this
theorem Sw{k}{j}(h:j<k.size):∃c,k.data.toList[j]?=some c/\aZ k j=(c.toNat):=by exact⟨_,m8 h,by rw[aZ,m8 h];rfl⟩
theorem wg{k:B_}(h:s.data.toList.drop i=k.data.toList++r)(w:cF k=true)(x:∀c r',r=c::r'->yF (c.toNat:Int)≠3/\yF (c.toNat:Int)≠4/\yF (c.toNat:Int)≠5):
  eT s i=(some ⟨1,k,i,0⟩,i+k.size):=by
 obtain ⟨a,hle,v,b⟩:=CL w;have g:∀j,j<k.size->mV s (i+j)=yF (aZ k j):=fun j u=>by
  obtain ⟨c,p,e⟩:=Sw u;rw[IG (uq h p),e]
 have hlen:=by
  have:=congrArg List.length h;rw[p_,j9,aT,aT]at this;omega
 have l:mV s i=3:=by
  have:=g 0 a;rw[Nat.add_zero,v]at this;exact this
 have d:BX s i=i+k.size:=by
  refine yX (uX s) X X (fun j h1 h2=>?_) ?_
  ·have:=g (j - i) X;rw[show i+(j - i)=j by omega]at this;rw[uX,this];rcases b (j - i) X with e|e|e<;>rw[e]<;>rfl
  left;have n:=fE h;rw[aT]at n;cases r with
  |nil=>rw[uX,vc n];rfl
  |cons c r' =>
   obtain ⟨t,o,q⟩:=x c r' Z;rw[uX,IG n,decide_eq_false t,decide_eq_false o,decide_eq_false q];rfl
 have f:=zK h;rw[aT]at f;have m:(⟨k.data.toList.toArray⟩:B_)=k:=oI H_;rw[eT,a8 X,a8 X,b6 l,d,AA,f,m,a8 X]
theorem Ox{s}{i}{r}(h:s.data.toList.drop i=32::r):eT s i=(none,i+1):=by
 have a:mV s i=1:=by rw[IG h];rfl
 rw[eT,b6 a]
theorem Z1:∀(v r),nV (v.flatMap qJ++34::r)=some (v,(v.flatMap qJ).length+1)
 | [],r=>B0
 | b::v,r=>by
  have d:=Z1 v r;rw[List.flatMap_cons,List.append_assoc];by_cases a:b=10
  ·have e:qJ b=[92,110]:=by rw[qJ,b6 a]
   rw[e];show nV (92::110::(v.flatMap qJ++34::r))=_;rw[uM,d,a];show some _=some _
   grind
  by_cases c:b=34\/b=92
  ·have e:qJ b=[92,b]:=by rw[qJ,a8 a,b6 c]
   have g:sU b=some b:=by
    rcases c with e|e<;>subst e<;>rfl
   rw[e];show nV (92::b::(v.flatMap qJ++34::r))=_;rw[uM,d,g]
   grind
  have e:qJ b=[b]:=by rw[qJ,a8 a,a8 c]
  have f:b≠34/\b≠92:=⟨fun e=>c (.inl e),fun e=>c (.inr e)⟩;rw[e];show nV (b::(v.flatMap qJ++34::r))=_;rw[B1 f.1 a f.2,d]
  grind
theorem I7{v:B_}(h:s.data.toList.drop i=cW v.data.toList++r):eT s i=(some ⟨3,v,i,0⟩,i+(cW v.data.toList).length):=by
 have b:s.data.toList.drop i=34::(v.data.toList.flatMap qJ++34::r):=by rw[h,cW];simp
 have c:mV s i=7:=by rw[IG b];rfl
 have d:AB (s.extract i s.size)=(v,(((v.data.toList.flatMap qJ).length+1+1:Nat):Int)):=by
  rw[AB,rY,b,List.drop_succ_cons,List.drop_zero,Z1]
 have e:EL s i=(⟨3,v,i,0⟩,i+(cW v.data.toList).length):=by
  rw[EL,d,b6 X];congr 1;congr 1;rw[l8,cW,j7,j9,List.length_singleton]
 rw[eT,a8 X,a8 X,a8 X,a8 X,b6 c,e]
def R0(t:l_):List UInt8:=t.key.data.toList++61::cW t.val.data.toList
theorem MJ(t):(iO t).data.toList=R0 t:=by rw[iO,R0];simp
def nH(l:List l_):List UInt8:=l.flatMap fun t=>32::R0 t
def TF(T:List a_)(l:List l_):Prop:=D0 T=some l/\(∀f,f∈T->f.err=0)/\T.length=3*l.length
theorem TF.cons{T}{l}{a b c}(h:TF T l)(ha:a.err=0)(hb:b.err=0)(hc:c.err=0):TF (a::b::c::T) (⟨a.text,c.text⟩::l):=by
 obtain ⟨d,h2,h3⟩:=h;refine⟨by rw[D0,d];rfl,fun f hf=>?_,G_⟩
 grind
theorem UQ(t)(l):(WC (t::l)).data.toList=R0 t++nH l:=by show bQ _ (bs ((t::l).map _))=_;rw[bs,List.map_map];show (iO t).data.toList++_=_;rw[MJ,List.flatMap_map];congr 1;congr 1;funext x;show [32]++(iO x).data.toList=_;rw[MJ];rfl
theorem ML:∀(T acc),(∀f,f∈T->f.err=0)->acc.length+T.length<=5000->kI acc T=(acc++T,0,0)
 | [],acc,_,_=>by rw[kI,List.append_nil]
 |f::T,acc,h,b=>by
  rw[j7]at b;rw[kI,a8 (fun e=>e (h f List.mem_cons_self)),a8 (by omega),ML T _ (fun g a=>h g (List.mem_cons_of_mem _ a)) (by grind),List.append_assoc];rfl
end Go.Proofs.YtopnleflllkbmaaGreatDoor
namespace Go.Abs
def dN(c:UInt8):List UInt8->List (List UInt8)
 | []=>[[]]
 |b::l=>if b=c then[]::dN c l else((b::(dN c l).headD [])::(dN c l).tail)
theorem qZ(c)(l):0<(dN c l).length:=by
 cases l with
 |nil=>exact Nat.zero_lt_one
 |cons b l=>rw[dN];all_goals grind
theorem rQ{c}:∀ {w},c∉w->dN c w=[w]
 | [],_=>rfl
 |b::w,h=>by
  rw[l7,not_or]at h;rw[dN,a8 (fun e=>h.1 e.symm),rQ h.2];rfl
theorem jR{c}{l}:∀ {w},c∉w->dN c (w++c::l)=w::dN c l
 | [],_=>by rw[List.nil_append,dN,b6 rfl]
 |b::w,h=>by
  rw[l7,not_or]at h;rw[List.cons_append,dN,a8 (fun e=>h.1 e.symm),jR h.2];rfl
theorem xI(c):∀l,(dN c l).length=l.count c+1
 | []=>rfl
 |b::l=>by
  have a:=xI c l;rw[dN];by_cases h:b=c
  ·rw[b6 h,j7,a,h,List.count_cons_self]
  rw[a8 h,j7,List.length_tail,List.count_cons_of_ne h];omega
def rD:List UInt8->List (List UInt8)
 | []=>[]
 |b::l=>if b=10 then[10]::rD l else match rD l with
  | []=>[[b]]
  |w::r=>(b::w)::r
theorem HR{l}:∀ {w},10∉w->rD (w++10::l)=(w++[10])::rD l
 | [],_=>rfl
 |b::w,h=>by
  rw[l7,not_or]at h;rw[List.cons_append,rD,a8 (fun e=>h.1 e.symm),HR h.2];rfl
theorem NP:∀ {w},10∉w->w≠[]->rD w=[w]
 | [],_,h=>absurd Z h
 |b::w,h,_=>by
  rw[l7,not_or]at h;rw[rD,a8 (fun e=>h.1 e.symm)];by_cases e:w=[]
  ·subst e;rfl
  rw[NP h.2 e]
theorem GT:∀ {ls:List _},(∀w∈ls,10∉w)->rD (ls.flatMap (·++[10]))=ls.map (·++[10])
 | [],_=>rfl
 |w::ls,h=>by
  rw[List.flatMap_cons,List.append_assoc,List.singleton_append,HR (h w List.mem_cons_self),GT fun x a=>h x (List.mem_cons_of_mem _ a)];rfl
theorem xY{c}:∀ {l},Lib.indexByte l c = -1↔c∉l
 | []=>by simp[Lib.indexByte]
 |b::l=>by
  have ih:=xY (c:=c) (l:=l);have hg:=Lib.indexByte_ge l c;rw[Lib.indexByte];all_goals grind
theorem xZ{c}:∀ {l},Lib.indexByte l c ≠ -1->∃w r,l=w++c::r/\c∉w/\Lib.indexByte l c=(w.length)
 | [],h=>absurd Z h
 |b::l,h=>by
  by_cases e:b=c
  ·subst e;exact⟨[],l,Z,by simp,by simp[Lib.indexByte]⟩
  have d:Lib.indexByte l c ≠ -1:=fun e2=>h (by rw[Lib.indexByte];simp_all);obtain ⟨w,r,h1,h2,h3⟩:=xZ d;refine⟨b::w,r,F_,G_,?_⟩;rw[Lib.indexByte]
  simp_all
end Go.Abs
namespace Go.Abs
open Go.Lib
theorem ur{d}(h:d<10):digitVal (UInt8.ofNat (48+d))=some d:=by
 have e:(UInt8.ofNat (48+d)).toNat=48+d:=by rw[UInt8.toNat_ofNat'];omega
 rw[digitVal,b6 X];congr 1;omega
theorem C3{b}{d}(a:digitVal b=some d):∀(l) (acc),decFrom acc (l++[b])=(decFrom acc l).map fun n=>n*10+d
 | [],acc=>by
  simp[decFrom,a]
 |c::l,acc=>by
  rw[List.cons_append,decFrom,decFrom];cases h:digitVal c with
  |none=>rfl
  |some x=>exact C3 a l _
theorem pQ(u:Nat):decDigits u≠[]:=by
 rw[decDigits]
 split
 ·simp
 simp
theorem mU(u):decFrom 0 (decDigits u)=some u:=by
 induction u using Nat.strongRecOn with
 |ind u ih =>
  rw[decDigits]
  split
  ·rename_i h;rw[<-List.nil_append [_],C3 (ur h)];simp[decFrom]
  rw[C3 (ur (Nat.mod_lt u H_))]
  grind
theorem rF{b}:∀(u),b∈decDigits u->48<=b.toNat/\b.toNat<=57:=by
 intro u
 induction u using Nat.strongRecOn with
 |ind u ih =>
  rw[decDigits]
  split
  ·intro a;rw[q9]at a;subst a;rw[UInt8.toNat_ofNat'];omega
  intro a;rcases List.mem_append.1 a with a|a
  ·grind
  rw[q9]at a;subst a;rw[UInt8.toNat_ofNat'];omega
theorem jX(n)(h:0<=n):itoa n=decDigits n.toNat:=by rw[itoa,a8 X]
theorem Ag{n}(h:0<=n):atoi (itoa n)=some n:=by
 rw[jX n h];obtain ⟨u,a⟩:∃u,u=n.toNat:=X_;rw[<-a];have hd:=mU u;have hm:∀b∈decDigits u,48<=b.toNat/\b.toNat<=57:=fun b=>rF u;cases e:decDigits u with
 |nil=>exact absurd e (pQ u)
 |cons b r =>
  have c:decNat (b::r)=some u:=by rw[decNat];simp_all
  unfold atoi;simp[c];have h43:b≠43:=fun h=>by simp_all
  split<;>simp_all
  omega
theorem cU:∀ {k u},u<10 ^ k->0<k->(decDigits u).length<=k
 |0,_,_,h=>absurd h (Nat.lt_irrefl 0)
 | k+1,u,h,_=>by
  rw[decDigits]
  split
  ·simp
  rw[j9,List.length_singleton];have b:0<k:=by
   grind
  have a:u / 10<10 ^ k:=X
  have:=cU a b;omega
theorem DA{n}(h:0<=n)(h2:n<1000000000000000000):atoiAll (itoa n)=.ok n:=by
 have a:(itoa n).length<=18:=by
  rw[jX n h];exact cU X H_
 rw[atoiAll_short _ a,Ag h];rfl
end Go.Abs
namespace Go.Proofs.YtopnleflllkbmaaGreatDoor
open Go.Proofs.Tryz
open Go.Abs
variable{s:B_}{α:Type}{o:j_}
def lY(o:j_):List UInt8:=(eD o.kind).data.toList++32::(o.id.data.toList++32::(if o.kind=1 then Lib.itoa o.x++32::Lib.itoa o.y else 40::(bQ [32] (bs o.refs)++[41])))
def sC(o:j_):List UInt8:=lY o++nH o.tags
def DQ(o:j_):B_:=⟨(sC o).toArray⟩
def fA(o:j_):B_×Int:=if oF o then(if 0<o.tags.length/\(jP o.tags).2≠0 then(a6,(jP o.tags).2)else if 20000<(DQ o).size then(a6,2)else(DQ o,0))else(a6,1)
def atV(s:B_):Int:=match Lib.atoiAll s.data.toList with
 |.ok v=>v
 |.range=>Lib.atoiSat s.data.toList
 |_=>0
def J7:a_:=⟨0,a6,0,0⟩
def vQ(T:List a_):List a_:=T++List.replicate (4 - T.length) J7
def DJ(s:B_):Int:=if s=eD 5 then 5 else if s=eD 4 then 4 else if s=eD 3 then 3 else if s=eD 2 then 2 else if s=eD 1 then 1 else 0
def kJ(f:a_):Bool:=decide (f.text=⟨#[41]⟩)&&decide (f.kind=4)
def rM:List a_->List l_
 |a::_::c::r=>⟨a.text,c.text⟩::rM r
 |_=>[]
theorem PW:∀ {T} {l},D0 T=some l->rM T=l
 | [],l,h=>by cases h;rfl
 | [_],l,h=>by rw[D0]at h<;>(simp_all)
 | [_,_],l,h=>by rw[D0]at h<;>(simp_all)
 | a::b::c::r,l,h=>by
  rw[D0]at h;cases e:D0 r with
  |none=>simp_all
  |some q =>
   rw[e]at h;cases h;rw[rM,PW e]
def sW(T:List a_):j_ :=if DJ ((vQ T).getD 0 J7).text=1 then⟨((vQ T).getD 1 J7).text,1,atV ((vQ T).getD 2 J7).text,atV ((vQ T).getD 3 J7).text,[],rM ((vQ T).drop 4)⟩
 else if zZ kJ (vQ T)<3 then h_
 else⟨((vQ T).getD 1 J7).text,DJ ((vQ T).getD 0 J7).text,0,0,(((vQ T).take (zZ kJ (vQ T)).toNat).drop 3).map a_.text,rM ((vQ T).drop ((zZ kJ (vQ T)).toNat+1))⟩
def E9(s:B_)(i:Nat)(r:List UInt8)(T:List a_):Prop:=∀n,r.length<=n->jZ s n i=T
theorem DB{s}{i j}{w r}{f}{T}(d:eT s i=(some f,j))(c:f.err=0)(hi:i<s.size)(hw:0<w.length)(b:E9 s j r T):E9 s i (w++r) (f::T):=by intro n a;rw[j9]at a;obtain ⟨m,rfl⟩:∃m,n=m+1:=⟨n - 1,X⟩;rw[jZ,b6 hi,d];show f::(if f.err=0 then jZ s m j else[])=_;rw[b6 c,b m X]
theorem uH{s}{i}{r}{T}(h:s.data.toList.drop i=32::r)(b:E9 s (i+1) r T):E9 s i (32::r) T:=by intro n a;rw[j7]at a;obtain ⟨m,rfl⟩:∃m,n=m+1:=⟨n - 1,X⟩;rw[jZ,b6 (pV h).1,Ox h];exact b m X
theorem all_nil{s}{i}(h:s.data.toList.drop i=[]):E9 s i [] []:=by
 intro n _;have a:¬ i<s.size:=by
  have:=List.drop_eq_nil_iff.1 h;rw[aT]at this;omega
 cases n with
 |zero=>rfl
 |succ n=>rw[jZ,a8 a]
theorem rC{i}{w r}(h:s.data.toList.drop i=w++r)(hw:0<w.length):i<s.size:=by
 rcases Nat.lt_or_ge i _ with a|a
 ·exact a
 rw[List.drop_eq_nil_of_le F_]at h;have:=congrArg List.length h;rw[List.length_nil,j9]at this;omega
def GI(r:List UInt8):Prop:=∀c r',r=c::r'->yF (c.toNat:Int)≠3/\yF (c.toNat:Int)≠4/\yF (c.toNat:Int)≠5
theorem we:GI []:=fun c r' h=>by cases h
theorem lV(r):GI (32::r):=fun c r' h=>by cases h;exact⟨E_,E_,E_⟩
theorem I6(r):GI (41::r):=fun c r' h=>by cases h;exact⟨E_,E_,E_⟩
theorem mW{s k}{i}{r}{T}(h:s.data.toList.drop i=k.data.toList++r)(a:cF k=true)(c:GI r)(b:E9 s (i+k.size) r T):E9 s i (k.data.toList++r) (⟨1,k,i,0⟩::T):=by have hp:=(CL a).1;exact DB (wg h a c) Z (rC h F_) F_ b
theorem F4{s}{i}{r}{c}{T}(h:s.data.toList.drop i=c::r)(a:yF (c.toNat)=6)(b:E9 s (i+1) r T):E9 s i (c::r) (⟨4,⟨#[c]⟩,i,0⟩::T):=by
 have ha:mV s i=6:=by rw[IG h];exact a
 have hx:=zK (w:=[c]) h;have d:eT s i=(some ⟨4,⟨#[c]⟩,i,0⟩,i+1):=by
  rw[eT]
  simp_all
 exact DB (w:=[c]) d Z (pV h).1 Nat.zero_lt_one b
theorem Uc:∀b:UInt8,48<=b.toNat->b.toNat<=57->yF (b.toNat)=4:=by
 intro b a c;have h:∀n:Fin 256,48<=n.val->n.val<=57->yF (n.val)=4:=by decide +kernel
 exact h _ a c
theorem PG{i:Nat}{x:Int}{r:List UInt8}{T:List a_}(h:s.data.toList.drop i=Lib.itoa x++r)(A:0<=x)(v:x<10000000)(t:GI r)(w:E9 s (i+(Lib.itoa x).length) r T):E9 s i (Lib.itoa x++r) (⟨2,aQ x,i,0⟩::T):=by
 have l:=jX x A;have e:0<(Lib.itoa x).length:=by rw[l];exact List.length_pos_iff.2 (pQ _)
 have hle:(Lib.itoa x).length<=7:=by rw[l];exact cU X E_
 have f:∀j,j<(Lib.itoa x).length->mV s (i+j)=4:=fun j p=>by
  have q:=m8 p;rw[IG (uq h q)];have o:(Lib.itoa x)[j]∈Lib.decDigits x.toNat:=F_
  obtain ⟨u,z⟩:=rF _ o;exact Uc _ u z
 have hlen:i+(Lib.itoa x).length<=s.size:=by
  have:=congrArg List.length h;rw[p_,j9,aT]at this;have:=rC h e;omega
 have k:mV s i=4:=f 0 e;have m:=fE h;have d:mV s (i+(Lib.itoa x).length)≠3/\mV s (i+(Lib.itoa x).length)≠4/\mV s (i+(Lib.itoa x).length)≠5:=by
  cases r with
  |nil=>rw[vc m];omega
  |cons c y=>rw[IG m];exact t c y Z
 have g:IC s i=i+(Lib.itoa x).length:=by
  refine yX (N5 s) X X (fun j v h2=>?_) (.inl ?_)
  ·have:=f (j - i) X;rw[show i+(j - i)=j by omega]at this;rw[N5,this];rfl
  rw[N5,decide_eq_false d.2.1]
 have n:eT s i=(some ⟨2,aQ x,i,0⟩,i+(Lib.itoa x).length):=by
  rw[eT,a8 X,a8 X,a8 X,b6 k,g,GU,zK h,decide_eq_false d.1,decide_eq_false d.2.2,decide_eq_false X];rfl
 exact DB n Z (rC h e) e w
theorem S7{s}:∀(l) (i),(∀t,t∈l->cF t.key=true)->s.data.toList.drop i=nH l->∃T,E9 s i (nH l) T/\TF T l
 | [],i,_,h=>⟨[],all_nil h,Z,(fun f r=>by cases r),Z⟩
 | t::l,i,g,h=>by
  have k:nH (t::l)=32::(t.key.data.toList++61::(cW t.val.data.toList++nH l)):=by
   rw[nH,List.flatMap_cons,R0];simp[nH]
  rw[k]at h |-;have b:=(pV h).2.2;have j:=fE b;have a:=(pV j).2.2;have v:=fE a;obtain ⟨T,o,u⟩:=S7 l _ (fun t p=>g t (List.mem_cons_of_mem _ p)) v;have d:0<(cW t.val.data.toList).length:=by rw[cW,j7];omega
  have q:=DB (I7 a) Z (rC a d) d o;have n:=F4 j (Z) q;have m:=mW b (g t List.mem_cons_self) (fun c r' e=>by cases e;exact⟨E_,E_,E_⟩) n;exact⟨_,uH h m,TF.cons u Z Z Z⟩
theorem FY{o}(h:oF o=true):o.kind=1\/o.kind=2\/o.kind=3\/o.kind=4\/o.kind=5:=by have:=zd h;omega
theorem AS{k}(h:k=1\/k=2\/k=3\/k=4\/k=5):cF (eD k)=true/\DJ (eD k)=k:=by
 rcases h with rfl|rfl|rfl|rfl|rfl
 ·exact⟨Z,Z⟩
 ·exact⟨Z,Z⟩
 ·exact⟨Z,Z⟩
 ·exact⟨Z,Z⟩
 exact⟨Z,Z⟩
theorem tW{o}(h:oF o=true):∀s∈o.refs,cF s=true:=fun s d=>by
 rw[oF,j0,j0,r8,r8]at h;obtain ⟨i,c⟩:=r_.1 d;have b:=(m_.1 c).1;have a:=List.any_eq_false.1 h.2.1 i (List.mem_range.2 b);rw[uL,c]at a;simp[MR,Bool.or_eq_true,not_or,Bool.not_eq_true,Bool.not_eq_false']at a;exact a.2
theorem fu{o}(h:oF o=true):(0<=o.x/\o.x<1048576)/\(0<=o.y/\o.y<1048576)/\(o.kind=1->o.refs=[])/\(o.kind≠1->o.x=0/\o.y=0):=by
 rw[oF,j0]at h;unfold SE at h
 split at h
 ·rename_i a;rw[YX]at h;simp only[j0,k_]at h;refine⟨X,X,fun _=>List.length_eq_zero_iff.1 X,fun e=>absurd a e⟩
 rename_i a
 split at h<;>simp[j0,k_]at h<;>exact⟨X,X,fun e=>absurd e a,fun _=>by omega⟩
theorem S6{s:B_}:∀(l:List B_) (i:Nat) (r:List UInt8) (T:List a_),(∀k,k∈l->cF k=true)->s.data.toList.drop i=l.flatMap (fun k=>32::k.data.toList)++r->GI r ->
  E9 s (i+(l.flatMap fun k=>32::k.data.toList).length) r T->∃R:List a_,E9 s i (l.flatMap (fun k=>32::k.data.toList)++r) (R++T)/\R.map a_.text=l/\∀f∈R,f.kind=1/\f.err=0
 | [],i,r,T,_,h,_,d=>⟨[],d,Z,(fun f o=>by cases o)⟩
 | k::l,i,r,T,m,h,j,d=>by
  have q:(k::l).flatMap (fun k=>32::k.data.toList)++r=32::(k.data.toList++(l.flatMap (fun k=>32::k.data.toList)++r)):=by
   simp_all
  have g:((k::l).flatMap fun k=>32::k.data.toList).length=1+k.size+(l.flatMap fun k=>32::k.data.toList).length:=by
   rw[List.flatMap_cons,j9,j7,aT];omega
  rw[q]at h |-;have n:=(pV h).2.2;have p:=fE n;rw[aT]at p;obtain ⟨R,t,e1,e2⟩:=S6 l (i+1+k.size) r T (fun x u=>m x (List.mem_cons_of_mem _ u)) p j (by rw[g]at d;rw[show i+1+k.size+(l.flatMap _).length=i+(1+k.size+(l.flatMap fun k=>32::k.data.toList).length)by omega];exact d);have e:GI (l.flatMap (fun k=>32::k.data.toList)++r):=by
   cases l with
   |nil=>exact j
   |cons a l=>exact lV _
  refine⟨⟨1,k,i+1,0⟩::R,uH h (mW n (m k List.mem_cons_self) e t),F_,fun f o=>?_⟩
  grind
theorem xW(k)(l):bQ [32] (bs (k::l))=k.data.toList++l.flatMap (fun k=>32::k.data.toList):=by rw[bs,List.map_cons,bQ,List.flatMap_map];rfl
theorem Jt{p}{c:α}{B}:∀ {A},(∀a,a∈A->p a=false)->p c=true->zZ p (A++c::B)=(A.length):=by
 intro A hA hc;have h:(A++c::B).findIdx? p=some A.length:=by
  grind
 rw[zZ,h]
theorem P2(l):GI (nH l):=by
 cases l with
 |nil=>exact we
 |cons t l=>exact lV _
theorem fw{x}(h:0<=x)(b:x<1000000000000000000):atV (aQ x)=x:=by show (match Lib.atoiAll (Lib.itoa x)with|.ok v=>v|.range=>_|_=>0)=x;rw[DA h b]
theorem U0{o}(h:oF o=true)(d:o.kind≠1):∃k l,o.refs=k::l:=by
 have a:=FY h;rw[oF,j0,r8,NT,vS]at h;have c:=h.1;simp only[q_,Bool.not_eq_false',q6]at c;have b:=c.1.2;have hl:1<=EN o.kind:=by
  rcases a with e|e|e|e|e
  ·exact absurd e d
  ·rw[e];decide
  ·rw[e];decide
  ·rw[e];decide
  rw[e];decide
 cases e:o.refs with
 |nil=>rw[e]at b;exact absurd (show (([].length:Nat):Int)<EN _ by show 0<_;omega) b
 |cons k l=>exact⟨k,l,Z⟩
theorem sg{T}(h:4<=T.length):vQ T=T:=by rw[vQ,show 4 - T.length=0 by omega,List.replicate_zero,List.append_nil]
theorem VM(o):(DQ o).data.toList.drop 0=sC o:=rfl
theorem O1{i}{k x y}{r}{t}(f:o.id=i)(e:o.kind=k)(b:o.x=x)(d:o.y=y)(a:o.refs=r)(c:o.tags=t):(⟨i,k,x,y,r,t⟩)=o:=by subst f e b d a c;rfl
theorem Fl(B:oF o=true):∃T,E9 (DQ o) 0 (sC o) T/\(∀f,f∈T->f.err=0)/\T.length<=5000/\sW T=o:=by
 obtain ⟨hr,ht,o_,E,_⟩:=BM B;obtain ⟨w,v_,hn,hz⟩:=fu B;obtain ⟨A_,G⟩:=AS (FY B);have m:∀t,t∈o.tags->cF t.key=true:=fun t h=>((xE.1 o_).1 t h).1;have v:=VM o;by_cases i:o.kind=1
 ·have e:sC o=(eD o.kind).data.toList++32::(o.id.data.toList++32::(Lib.itoa o.x++32::(Lib.itoa o.y++nH o.tags))):=by
   rw[sC,lY,b6 i];simp
  rw[e]at v |-;have r:=fE v;rw[aT]at r;have y:=(pV r).2.2;have n:=fE y;rw[aT]at n;have z:=(pV n).2.2;have F:=fE z;have u:=(pV F).2.2;have c_:=fE u;obtain ⟨T,u_,L,N,r3⟩:=S7 o.tags _ m c_;have b:=mW v A_ (lV _) (uH r (mW y E (lV _) (uH n (PG z w.1 X (lV _) (uH F (PG u v_.1 X (P2 _) u_))))));refine⟨_,b,fun f g=>?_,?_,?_⟩
  ·simp only[l7]at g;rcases g with rfl|rfl|rfl|rfl|g
   ·rfl
   ·rfl
   ·rfl
   ·rfl
   exact N f g
  ·simp only[j7];omega
  rw[sW,sg (by simp only[j7];omega)];simp only[List.getD_cons_zero,List.getD_cons_succ,List.drop_succ_cons,List.drop_zero];rw[G,b6 i,PW L,fw w.1 X,fw v_.1 X];exact O1 Z i Z Z (hn i) Z
 obtain ⟨k,l,q⟩:=U0 B i;have s:=tW B;rw[q]at s;have e:sC o=(eD o.kind).data.toList++32::(o.id.data.toList++32::(40::(k.data.toList++(l.flatMap (fun k=>32::k.data.toList)++41::nH o.tags)))):=by
  rw[sC,lY,a8 i,q,xW];simp
 rw[e]at v |-;have r:=fE v;rw[aT]at r;have y:=(pV r).2.2;have n:=fE y;rw[aT]at n;have z:=(pV n).2.2;have F:=(pV z).2.2;have u:=fE F;rw[aT]at u;have c_:=fE u;have h8:=(pV c_).2.2;obtain ⟨T,u_,L,N,r3⟩:=S7 o.tags _ m h8;have Q:=F4 c_ E_ u_;obtain ⟨R,hR,q1,W⟩:=S6 l _ _ _ (fun x w=>s x (List.mem_cons_of_mem _ w)) u (I6 _) Q;have K:GI (l.flatMap (fun k=>32::k.data.toList)++41::nH o.tags):=by
  cases l with
  |nil=>exact I6 _
  |cons a l=>rw[List.flatMap_cons];exact lV _
 have b:=mW v A_ (lV _) (uH r (mW y E (lV _) (uH n (F4 z E_ (mW F (s k List.mem_cons_self) K hR)))));have hRl:R.length=l.length:=by rw[<-q1,g_]
 have hrl:o.refs.length=l.length+1:=by rw[q,j7]
 refine⟨_,b,fun f g=>?_,?_,?_⟩
 ·simp only[l7,List.mem_append]at g;rcases g with rfl|rfl|rfl|rfl|g|rfl|g
  ·rfl
  ·rfl
  ·rfl
  ·rfl
  ·exact(W f g).2
  ·rfl
  exact N f g
 ·simp only[j7,j9];omega
 obtain ⟨A,I⟩:∃A:List a_,A=⟨1,eD o.kind,0,0⟩::⟨1,o.id,0+(eD o.kind).size+1,0⟩::⟨4,⟨#[40]⟩,0+(eD o.kind).size+1+o.id.size+1,0⟩::⟨1,k,0+(eD o.kind).size+1+o.id.size+1+1,0⟩::R:=X_;have H:A.length=R.length+4:=by rw[I];rfl
 have e_:∀a,a∈A->kJ a=false:=by
  intro a D;rw[I]at D;simp only[l7]at D;rcases D with rfl|rfl|rfl|rfl|D
  ·rw[kJ,decide_eq_false (show ¬ ((1:Int)=4)by decide),Bool.and_false]
  ·rw[kJ,decide_eq_false (show ¬ ((1:Int)=4)by decide),Bool.and_false]
  ·rfl
  ·rw[kJ,decide_eq_false (show ¬ ((1:Int)=4)by decide),Bool.and_false]
  rw[kJ,(W a D).1,decide_eq_false (show ¬ ((1:Int)=4)by decide),Bool.and_false]
 have p:∀c:a_,(A++c::T).drop (A.length+1)=T:=fun c=>by
  rw[show A++c::T=(A++[c])++T by simp,show A.length+1=(A++[c]).length by simp,List.drop_left]
 have w:=fun j=>Jt (p:=kJ) (c:=⟨4,⟨#[41]⟩,j,0⟩) (B:=T) e_ Z;have P:∀j,(⟨1,eD o.kind,0,0⟩::⟨1,o.id,0+(eD o.kind).size+1,0⟩::⟨4,⟨#[40]⟩,0+(eD o.kind).size+1+o.id.size+1,0⟩::⟨1,k,0+(eD o.kind).size+1+o.id.size+1+1,0⟩::(R++⟨4,⟨#[41]⟩,j,0⟩::T):List a_)=A++⟨4,⟨#[41]⟩,j,0⟩::T:=fun j=>by rw[I];rfl
 rw[sW,P,sg (by rw[j9,H];omega),w,a8 (by rw[I];show ¬ DJ (eD o.kind)=1;rw[G];exact i),a8 (by rw[H];omega),l8,List.take_left,p,PW L];obtain ⟨z_,y_⟩:=hz i;refine O1 ?_ ?_ z_ y_ ?_ Z;all_goals simp_all
theorem Py(f:α->List _)(l:List _):l.map (fun e=>(f e).map AV.pv)=(l.map f).map (·.map .pv):=H_
def nm(i:Nat):B_:=⟨#[110,49+UInt8.ofNat i]⟩
def b7(l:List UInt8):B_:=⟨l.toArray⟩
theorem cO(l):(b7 l).data.toList=l:=rfl
theorem gJ(s):b7 s.data.toList=s:=oI (cO _)
theorem cB(l):(b7 l).size=l.length:=rfl
def uR(s:B_):j_×Int:=if 20000<s.size then(h_,2)else if(fD s).2.1=0/\fA (sW (fD s).1)=(s,0)then(sW (fD s).1,0)else(h_,5)
theorem O2{o}(h:(fA o).2=0):oF o=true/\fA o=(DQ o,0)/\(DQ o).size<=20000:=by
 rw[fA]at h |-
 grind
theorem kd{o}(h:(fA o).2=0):uR (fA o).1=(o,0):=by
 obtain ⟨c,ht,hs⟩:=O2 h;obtain ⟨T,b,a,h2,h3⟩:=Fl c;have hlex:fD (DQ o)=(T,0,0):=by
  rw[fD,a8 (by omega),b _ (by exact Nat.le_succ _),ML T _ a (by simp_all),List.nil_append]
 rw[uR]
 simp_all
def wPut:List UInt8:=[112,117,116]
def IT:List UInt8:=[109,111,118,101]
def AU:List UInt8:=[116,97,103]
def IS:List UInt8:=[114,101,102,115]
def IW:List UInt8:=[100,114,111,112]
def BZ:List UInt8:=[115,112,108,105,116]
def IU:List UInt8:=[106,111,105,110]
def gH(e:b8):List (List UInt8) :=if e.op=2 then[IT,e.id.data.toList,Lib.itoa e.x,Lib.itoa e.y]else if e.op=3 then[AU,e.id.data.toList,e.key.data.toList,cW e.val.data.toList]
 else if e.op=4 then IS::e.id.data.toList::bs e.refs else if e.op=5 then[IW,e.id.data.toList]
 else if e.op=6 then[BZ,e.id.data.toList,e.node.data.toList,e.other.data.toList]else[IU,e.id.data.toList,e.other.data.toList]
def fJ(e:b8):List UInt8:=if e.op=1 then wPut++32::(fA e.obj).1.data.toList else bQ [32] (gH e)
def fM(e:b8):Int:=if e.op=1 then(fA e.obj).2 else 0
def rK:List UInt8->List b8->List UInt8×Int
 |acc,[]=>(acc,0)
 |acc,e::r=>if fM e≠0\/20000<(acc++(fJ e++[10])).length then([],2)else rK (acc++(fJ e++[10])) r
def dX(l:List b8):B_×Int:=if lH l then(b7 (rK [] l).1,(rK [] l).2)else(a6,1)
def T4(s:List UInt8):Int:=match Lib.atoiAll s with
 |.ok v=>v
 |_ => -1
def NV:b8:=⟨0,a6,a6,a6,0,0,a6,a6,[],h_⟩
def D4(w:List (List UInt8))(word rest:List UInt8):b8 :=if word=wPut then⟨1,a6,a6,a6,0,0,a6,a6,[],(uR (b7 rest)).1⟩
 else if word=IT/\w.length=4 then⟨2,b7 (w.getD 1 []),a6,a6,T4 (w.getD 2 []),T4 (w.getD 3 []),a6,a6,[],h_⟩
 else if word=AU/\3<w.length then(match (fD (b7 (bQ [32] (w.drop 3)))).1 with
  | [f]=>⟨3,b7 (w.getD 1 []),a6,a6,0,0,b7 (w.getD 2 []),f.text,[],h_⟩
  |_=>NV)
 else if word=IS/\1<w.length then⟨4,b7 (w.getD 1 []),a6,a6,0,0,a6,a6,(w.drop 2).map b7,h_⟩
 else if word=IW/\w.length=2 then⟨5,b7 (w.getD 1 []),a6,a6,0,0,a6,a6,[],h_⟩
 else if word=BZ/\w.length=4 then⟨6,b7 (w.getD 1 []),b7 (w.getD 3 []),b7 (w.getD 2 []),0,0,a6,a6,[],h_⟩
 else if word=IU/\w.length=3 then⟨7,b7 (w.getD 1 []),b7 (w.getD 2 []),a6,0,0,a6,a6,[],h_⟩
 else NV
def nO(s:List UInt8):b8:=D4 (dN 32 s) ((dN 32 s).headD []) (s.drop (((dN 32 s).headD []).length+1))
def iD(t:B_):List b8×Int :=if 20000<t.size then([],2)else if dX ((rD t.data.toList).map fun s=>nO (Lib.trimSuffix s [10]))=(t,0)then((rD t.data.toList).map fun s=>nO (Lib.trimSuffix s [10]),0)else([],5)
theorem VQ{k}(f:cF k=true){b}(d:b∈k.data.toList):yF (b.toNat)=3\/yF (b.toNat)=4\/yF (b.toNat)=5:=by
 obtain ⟨j,c⟩:=r_.1 d;have a:=(m_.1 c).1;have h:=(CL f).2.2.2 j a;have e:aZ k j=(b.toNat):=by rw[aZ,c];rfl
 rwa [e]at h
theorem mL{k}(a:cF k=true):32∉k.data.toList/\10∉k.data.toList:=by
 constructor
 ·intro h;have:=VQ a h;revert this;decide
 intro h;have:=VQ a h;revert this;decide
theorem F0{x}(h:0<=x):32∉Lib.itoa x/\10∉Lib.itoa x:=by
 rw[jX x h];constructor
 ·intro h;have:=(rF _ h).1;revert this;decide
 intro h;have:=(rF _ h).1;revert this;decide
theorem bh(l):10∉cW l:=by
 rw[cW];simp only[l7,List.mem_append,List.mem_flatMap,n_,or_false,not_or];refine⟨H_,?_,H_⟩;rintro⟨b,_,h⟩;rw[qJ]at h
 grind
theorem xV{b}(hb:b≠32):∀ {l},(∀w∈l,b∉w)->b∉bQ [32] l
 | [],_,h=>by cases h
 |x::l,hl,h=>by
  rw[bQ]at h
  grind
theorem Sm{l}(h:∀t,t∈l->cF t.key=true):10∉nH l:=by
 intro a;obtain ⟨t,c,a⟩:=List.mem_flatMap.1 a;rw[R0]at a;simp only[l7,List.mem_append]at a;rcases a with b|b|b|b
 ·simp_all
 ·exact(mL (h t c)).2 b
 ·simp_all
 exact bh _ b
theorem Zm(b:oF o=true):10∉sC o:=by
 obtain ⟨hr,ht,c,d,_⟩:=BM b;obtain ⟨g,f,_,_⟩:=fu b;have a:=fun t h=>((xE.1 c).1 t h).1;intro h;rw[sC,lY]at h;simp only[l7,List.mem_append]at h;rcases h with(h|h|h|h|h)|h
 ·exact(mL (AS (FY b)).1).2 h
 ·simp_all
 ·exact(mL d).2 h
 ·simp_all
 ·split at h
  ·simp only[l7,List.mem_append]at h;rcases h with h|h|h
   ·exact(F0 g.1).2 h
   ·revert h;decide
   exact(F0 f.1).2 h
  simp only[l7,List.mem_append,n_,or_false]at h;rcases h with h|h|h
  ·revert h;decide
  ·refine xV E_ (fun w e=>?_) h;obtain ⟨s,i,rfl⟩:=List.mem_map.1 e;exact(mL (tW b s i)).2
  revert h;decide
 exact Sm a h
abbrev oB(o:j_):aF:=[(1,bx 6 135 ((bM o).map .pv))]
theorem Qs{l}(h:l≠[])(s):Gn l s=l++32::s.data.toList:=by rw[Gn,a8 h]
theorem aD5(K)(s)(hl:s.size<70368744177663):aS Tryz.prog 287 [.ref 2001 0 0 0,sv s] (qL 0 [] false++K) (fun r H'=>r=.tup []/\H'=qL 1 s.data.toList true++K):=by
 have h:=Gm K 0 [] false s F_
 rwa [b6 rfl]at h
theorem xq(K)(g)(l)(s)(a:l≠[])(b:l.length+s.size<70368744177663):aS Tryz.prog 287 [.ref 2001 0 0 0,sv s] (qL g l true++K) (fun r H'=>r=.tup []/\H'=qL (g+2) (l++32::s.data.toList) true++K):=by
 have h:=Gm K g l true s b
 rwa [a8 a,Qs a]at h
theorem OJ(K)(g)(l)(u)(a:l.length<70368744177664):aS Tryz.prog 133 [.ref 2001 0 0 0] (qL g l u++K) (fun r H'=>r=sv ⟨l.toArray⟩/\H'=fq g l u++(qL g l u++K)) :=aS.frame (Xm g l u a) Xl (dD.ofL ⟨(SZ Z Z),(eH _ _),T_⟩) (by simp;rfl) (fun id h=>.inl (by
  simp[fq,qL,aF.get]at h |-
  grind))
theorem VL{o}(a:oF o=true)(h:0<o.tags.length/\(jP o.tags).2≠0):fA o=(a6,(jP o.tags).2):=by rw[fA,b6 a,b6 h]
theorem FR{o}{L}(b:oF o=true)(h:¬ (0<o.tags.length/\(jP o.tags).2≠0))(a:sC o=L)(h2:20000<L.length):fA o=(a6,2):=by
 have hs:(DQ o).size=L.length:=by rw[<-a];rfl
 rw[fA,b6 b,a8 h,b6 X]
theorem FS{o}{L}(b:oF o=true)(h:¬ (0<o.tags.length/\(jP o.tags).2≠0))(a:sC o=L)(h2:¬ 20000<L.length):fA o=(⟨L.toArray⟩,0):=by
 have hs:(DQ o).size=L.length:=by rw[<-a];rfl
 rw[fA,b6 b,a8 h,a8 X,DQ,a]
theorem wZ{l}(h0:0<l.length)(h:(jP l).2=0):32::(jP l).1.data.toList=nH l/\(jP l).1.size<=20000:=by
 rw[jP]at h |-;by_cases c:sV l=true
 ·rw[b6 c]at h |-;by_cases b:20000<(WC l).size
  ·simp_all
  rw[a8 b];refine⟨?_,F_⟩;cases l with
  |nil=>simp_all
  |cons t l =>
   rw[UQ];rfl
 simp_all
theorem F2:∀l,(l.flatMap fun k=>32::k.data.toList).length=l.length+cX l
 | []=>rfl
 |k::l=>by
  have a:=F2 l;rw[List.flatMap_cons,j9,j7,j7,a,aT,cX,cX,List.map_cons,List.sum_cons];omega
theorem fQ(l):(bQ [32] (bs l)).length<=l.length+cX l:=by
 cases l with
 |nil=>exact l6 _
 |cons k l =>
  rw[xW,j9,F2,aT,j7,cX,cX,List.map_cons,List.sum_cons];omega
theorem VK(o:j_)(H:aF)(f_:gu o):RC 253 [av (bM o)] (.tup [sv (fA o).1,iv (fA o).2]) H:=by
 refine Pu<|Bd func253 Z ntmps253<|C (kb 1)<|Y U<|O U<|S<|C (wA bW sizeOf135)<|Y (kc call286 (RN o _ f_))<|O iW<|Cn ?_ ?_<;>intro hc1
 ·have hg:oF o=false:=F_
  have e:fA o=(a6,1):=by rw[fA,a8 F_]
  rw[e];exact C U<|O U<|aC<|Ru<|Qq
 have hg:oF o=true:=F_
 obtain ⟨hr,ht,htg,R,_⟩:=BM hg;obtain ⟨hx,hy,hn,hz⟩:=fu hg;have y_:=(AS (FY hg)).1;have hws:=dG y_;have his:=dG R;have hwp:=(CL y_).1;have v_:(eD o.kind).data.toList≠[]:=fun e=>by have:=congrArg List.length e;rw[aT,List.length_nil]at this;omega
 refine aA<|Sz (kl 2001 Wr)<|S ?_;refine fZ.ent (E':=[(1,.ref 1 0 0 0),(2,sv a6),(3,iv 0),(4,.ref 2001 0 0 0)]) (H':=[(2002,⟨0,1,5,[]⟩),(2001,M6 (.osl 2002 0 0 0) false),(1,bx 6 135 ((bM o).map .pv))]) (Q_ 2002 1 5) ?_;refine fZ.ent (E':=[(1,.ref 1 0 0 0),(2,sv a6),(3,iv 0),(4,.ref 2001 0 0 0)]) (H':=qL 0 [] false++oB o) (cJ.get (fun _=>rfl) (fun j=>mT E_ j))<|Rd (bA eA)<|Y (bS M_)<|Y (kc AK (G5 o.kind _))<|O (kc AJ (aD5 (oB o) (eD o.kind) X))<|C (bA qR)<|Y (bS N_)<|O (kc AJ (xq (oB o) 1 (eD o.kind).data.toList o.id v_ (by rw[aT];omega)))<|S<|S ?_;obtain ⟨L1,hL1⟩:∃L,L=(eD o.kind).data.toList++32::o.id.data.toList:=X_;have I:L1≠[]:=F_
 have hl1:L1.length<=49:=by rw[hL1,j9,j7,aT,aT];omega
 rw[<-hL1];by_cases Q:o.kind=1
 ·have Xs:(aQ o.x).size<=7:=by rw[<-aT];show (Lib.itoa o.x).length<=7;rw[jX _ hx.1];exact cU X E_
  have siy:(aQ o.y).size<=7:=by rw[<-aT];show (Lib.itoa o.y).length<=7;rw[jX _ hy.1];exact cU X E_
  obtain ⟨P,hL2⟩:∃L,L=L1++32::(aQ o.x).data.toList:=X_;have A_:P≠[]:=F_
  have hl2:P.length<=57:=by rw[hL2,j9,j7,aT];omega
  have p2:=xq (oB o) (1+2) L1 (aQ o.x) I X;rw[<-hL2]at p2;obtain ⟨L3,hL3⟩:∃L,L=P++32::(aQ o.y).data.toList:=X_;have hn3:L3≠[]:=F_
  have hl3:L3.length<=200000:=by rw[hL3,j9,j7,aT];omega
  have F:=xq (oB o) (1+2+2) P (aQ o.y) A_ X;rw[<-hL3]at F;have G:lY o=L3:=by
   rw[lY,b6 Q,hL3,hL2,hL1];show _=(_++32::Lib.itoa o.x)++32::Lib.itoa o.y;simp
  refine Rd (bA eA)<|Y (bS M_)<|O cD<|Cn ?_ ?_<;>intro W
  ·refine C (bA mM)<|Y (bA mO)<|Y (bS M_)<|Y (kc lQ (pL o.x X X _))<|O (kc AJ (p2))<|Rd (bA mM)<|Y (bA mN)<|Y (bS M_)<|Y (kc lQ (pL o.y X X _))<|O (kc AJ (F))<|S<|C (bA fV)<|Y (bS dC)<|Y (fY dL)<|O jK<|Cn ?_ ?_<;>intro N
   ·have htp:0<o.tags.length:=by have:=b9 N;rw[g_]at this;omega
    refine C (bA fV)<|Y (bS dC)<|Y (kc call288 (UP o.tags _ f_.2.1))<|Y V<|Y dH<|Y dH<|Y U<|O U<|S<|C V<|O zX<|Cn ?_ ?_<;>intro o_
    ·have hte:(jP o.tags).2≠0:=by have hq:=o_;rw[r8,q6]at hq;exact hq
     rw[VL hg ⟨htp,hte⟩];exact C V<|Y U<|O U<|aC<|Ru<|Qq
    have hte:(jP o.tags).2=0:=by have hq:=o_;rw[Bool.not_eq_false',k_]at hq;exact hq
    have hlen2:(L3++32::(jP o.tags).1.data.toList).length<=300000:=by have:=hl3;have:=(wZ htp hte).2;rw[j9,j7,aT];omega
    have hLL:sC o=L3++32::(jP o.tags).1.data.toList:=by rw[(wZ htp hte).1,sC,G]
    refine aA<|Rd V<|O (kc AJ (xq (oB o) (1+2+2+2) L3 (jP o.tags).1 hn3 (by have:=hl3;have:=(wZ htp hte).2;omega)))<|S<|C (bA pN)<|Y (kc AN (O4 (oB o) ((1+2+2+2)+2) (L3++32::(jP o.tags).1.data.toList) true))<|O jK ?_;refine Cn ?_ ?_<;>intro d_
    ·have hlong:=b9 d_;rw[FR hg (fun h=>h.2 hte) hLL X];exact C U<|O U<|aC<|Ru<|Qq
    have hlong:=b_ d_;rw[FS hg (fun h=>h.2 hte) hLL X];exact aA<|C (bA pN)<|Y (kc mZ (OJ (oB o) ((1+2+2+2)+2) (L3++32::(jP o.tags).1.data.toList) true (by have:=hlen2;omega)))<|Y U<|O U<|aC<|Ru<|Qq
   have htp:¬ 0<o.tags.length:=by have:=b_ N;rw[g_]at this;omega
   have hLL:sC o=L3:=by rw[sC,G,List.length_eq_zero_iff.1 (by omega:o.tags.length=0)];exact List.append_nil _
   refine aA<|S<|C (bA pN)<|Y (kc AN (O4 (oB o) (1+2+2+2) L3 true))<|O jK<|Cn ?_ ?_<;>intro K
   ·have hlong:=b9 K;rw[FR hg (fun h=>htp h.1) hLL X];exact C U<|O U<|aC<|Ru<|Qq
   have hlong:=b_ K;rw[FS hg (fun h=>htp h.1) hLL X];exact aA<|C (bA pN)<|Y (kc mZ (OJ (oB o) (1+2+2+2) L3 true (by have:=hl3;omega)))<|Y U<|O U<|aC<|Ru<|Qq
  exact absurd Q (b_ W)
 have hsz:cX o.refs<=24*o.refs.length:=oY (fun s hs=>dG (tW hg s hs));have hjl:=fQ o.refs;obtain ⟨c_,z_⟩:∃c_:B_,c_=⟨(bQ [32] (bs o.refs)).toArray⟩:=X_;have hj:∀H,RC 204 [.pv (aL o.refs),sv ⟨#[32]⟩] (sv c_) H:=fun H=>by
  rw[z_];exact wQ o.refs ⟨#[32]⟩ H E_ (by show 1*_+_+_<_;omega)
 have E:c_.data.toList=bQ [32] (bs o.refs):=by rw[z_]
 obtain ⟨L3,hL3⟩:∃L,L=L1++32::((⟨#[40]⟩:B_)++c_++⟨#[41]⟩).data.toList:=X_;have hQ:((⟨#[40]⟩:B_)++c_++⟨#[41]⟩).data.toList=40::(bQ [32] (bs o.refs)++[41]):=by rw[<-E];simp
 have hQs:((⟨#[40]⟩:B_)++c_++⟨#[41]⟩).size<=60000:=by rw[<-aT,hQ,j7,j9,List.length_singleton];omega
 have hJs:c_.size<=52000:=by rw[<-aT,E];omega
 have T:(⟨#[40]⟩:B_).size=1:=rfl;have h41:(⟨#[41]⟩:B_).size=1:=rfl;have hAs:((⟨#[40]⟩:B_)++c_).size=1+c_.size:=by rw[ByteArray.size_append,T]
 have hn3:L3≠[]:=by rw[hL3];simp
 have hl3:L3.length<=200000:=by rw[hL3,j9,j7,aT];omega
 have F:=xq (oB o) (1+2) L1 ((⟨#[40]⟩:B_)++c_++⟨#[41]⟩) I X;rw[<-hL3]at F;have G:lY o=L3:=by
  rw[lY,a8 Q,hL3,hL1,hQ];simp
 refine Rd (bA eA)<|Y (bS M_)<|O cD<|Cn ?_ ?_<;>intro u_
 ·exact absurd (b9 u_) Q
 refine Rd (bA dZ)<|Y (bS aH)<|Y (kc rI (hj _))<|Y kq<|Y kq<|O (kc AJ (F))<|S<|C (bA fV)<|Y (bS dC)<|Y (fY dL)<|O jK<|Cn ?_ ?_<;>intro e_
 ·have htp:0<o.tags.length:=by have:=b9 e_;rw[g_]at this;omega
  refine C (bA fV)<|Y (bS dC)<|Y (kc call288 (UP o.tags _ f_.2.1))<|Y V<|Y dH<|Y dH<|Y U<|O U<|S<|C V<|O zX<|Cn ?_ ?_<;>intro D
  ·have hte:(jP o.tags).2≠0:=by have hq:=D;rw[r8,q6]at hq;exact hq
   rw[VL hg ⟨htp,hte⟩];exact C V<|Y U<|O U<|aC<|Ru<|Qq
  have hte:(jP o.tags).2=0:=by have hq:=D;rw[Bool.not_eq_false',k_]at hq;exact hq
  have hlen2:(L3++32::(jP o.tags).1.data.toList).length<=300000:=by have:=hl3;have:=(wZ htp hte).2;rw[j9,j7,aT];omega
  have hLL:sC o=L3++32::(jP o.tags).1.data.toList:=by rw[(wZ htp hte).1,sC,G]
  refine aA<|Rd V<|O (kc AJ (xq (oB o) (1+2+2) L3 (jP o.tags).1 hn3 (by have:=hl3;have:=(wZ htp hte).2;omega)))<|S<|C (bA pN)<|Y (kc AN (O4 (oB o) ((1+2+2)+2) (L3++32::(jP o.tags).1.data.toList) true))<|O jK ?_;refine Cn ?_ ?_<;>intro hc10
  ·have hlong:=b9 hc10;rw[FR hg (fun h=>h.2 hte) hLL X];exact C U<|O U<|aC<|Ru<|Qq
  have hlong:=b_ hc10;rw[FS hg (fun h=>h.2 hte) hLL X];exact aA<|C (bA pN)<|Y (kc mZ (OJ (oB o) ((1+2+2)+2) (L3++32::(jP o.tags).1.data.toList) true (by have:=hlen2;omega)))<|Y U<|O U<|aC<|Ru<|Qq
 have htp:¬ 0<o.tags.length:=by have:=b_ e_;rw[g_]at this;omega
 have hLL:sC o=L3:=by rw[sC,G,List.length_eq_zero_iff.1 (by omega:o.tags.length=0)];exact List.append_nil _
 refine aA<|S<|C (bA pN)<|Y (kc AN (O4 (oB o) (1+2+2) L3 true))<|O jK<|Cn ?_ ?_<;>intro hc11
 ·have hlong:=b9 hc11;rw[FR hg (fun h=>htp h.1) hLL X];exact C U<|O U<|aC<|Ru<|Qq
 have hlong:=b_ hc11;rw[FS hg (fun h=>htp h.1) hLL X];exact aA<|C (bA pN)<|Y (kc mZ (OJ (oB o) (1+2+2) L3 true (by have:=hl3;omega)))<|Y U<|O U<|aC<|Ru<|Qq
theorem kU:∀ {l} {w},32∉w->(∀x∈l,32∉x)->dN 32 (bQ [32] (w::l))=w::l
 | [],w,h,_=>by rw[bQ,List.flatMap_nil,List.append_nil];exact rQ h
 |a::l,w,h,b=>by
  have e:bQ [32] (w::a::l)=w++32::bQ _ (a::l):=rfl;rw[e,jR h,kU (b a List.mem_cons_self) fun x c=>b x (List.mem_cons_of_mem _ c)]
theorem R3:∀l,bQ [32] (dN 32 l)=l
 | []=>rfl
 | b::l=>by
  have a:=R3 l;have c:=qZ 32 l;rw[dN];cases e:dN _ l with
  |nil=>rw[e]at c;exact absurd c (Nat.lt_irrefl 0)
  |cons x r =>
   rw[e,bQ]at a;by_cases h:b=32
   ·rw[b6 h,bQ,List.flatMap_cons,List.append_assoc,a,h];rfl
   rw[a8 h,bQ,List.headD_cons,List.tail_cons,List.cons_append,a]
theorem VN{x}(h:0<=x)(a:x<1000000000000000000):T4 (Lib.itoa x)=x:=by rw[T4,DA h a]
theorem Ky(l):(bs l).map b7=l:=by rw[bs,List.map_map];exact(List.map_congr_left fun s _=>gJ s).trans (List.map_id _)
theorem SN:∀l:List _,(l.flatMap qJ).length<=2*l.length
 | []=>j6 _
 | b::l=>by
  have ih:=SN l;have h:(qJ b).length<=2:=by
   rw[qJ]
   grind
  rw[List.flatMap_cons,j9,j7];omega
theorem yt{v}(hv:v.size<=200):(fD (b7 (cW v.data.toList))).1=[⟨3,v,0,0⟩]:=by
 have b:(b7 (cW v.data.toList)).data.toList.drop 0=cW v.data.toList++[]:=by rw[List.append_nil];rfl
 have hl:(cW v.data.toList).length<=402:=by
  have:=SN v.data.toList;rw[aT]at this;rw[cW,j7,j9,List.length_singleton];omega
 have c:0<(cW v.data.toList).length:=by rw[cW,j7];omega
 have d:=DB (I7 b) Z (rC b c) c (all_nil (fE b));rw[fD,a8 (by rw[cB];omega),d _ (by rw[cB,List.append_nil];omega)];rfl
theorem CT{w:List UInt8}{r}:(w::r).headD []=w:=rfl
theorem LN{e:b8}(B:fU e=true)(t:fM e=0):nO (fJ e)=e/\(10:UInt8)∉fJ e:=by
 obtain ⟨⟨o1,o7⟩,c,i⟩:=uB.1 B;rw[fM]at t;by_cases j:e.op=1
 ·rw[b6 j]at t;obtain ⟨E,z,_⟩:=O2 t;have A:=kd t;rw[FB,b6 j,j]at i;rw[fJ,b6 j];constructor
  ·rw[nO,jR E_,CT,D4,b6 rfl];show (⟨1,a6,a6,a6,0,0,a6,a6,[],(uR (b7 (fA e.obj).1.data.toList)).1⟩:b8)=e;rw[gJ,A];exact i
  rw[z];intro h;rcases List.mem_append.1 h with h|h
  ·revert h;decide
  rcases l7.1 h with h|h
  ·simp_all
  exact Zm E h
 rw[wL,a8 j,j0]at c;obtain ⟨u,c⟩:=c;have l:=mL u;rw[fJ,a8 j];by_cases d:e.op=2
 ·rw[b6 d]at c;have n:(0<=e.x/\e.x<1048576)/\0<=e.y/\e.y<1048576:=by
   rw[ln]at c
   grind
  rw[FB,a8 j,b6 d,d]at i;rw[gH,b6 d];have n1:=F0 n.1.1;have n2:=F0 n.2.1;refine⟨?_,xV E_ ?_⟩
  ·rw[nO,kU E_ F_,CT,D4,a8 E_,b6 ⟨Z,Z⟩];show (⟨2,b7 e.id.data.toList,a6,a6,T4 (Lib.itoa e.x),T4 (Lib.itoa e.y),a6,a6,[],h_⟩:b8)=e;rw[gJ,VN n.1.1 X,VN n.2.1 X];exact i
  intro w a;simp only[l7,n_,or_false]at a;rcases a with rfl|rfl|rfl|rfl;all_goals first|exact E_|grind|grind|grind
 by_cases g:e.op=3
 ·rw[a8 d,b6 g,j0,k_]at c;have q:=mL c.1;rw[FB,a8 j,a8 d,b6 g,g]at i;rw[gH,a8 d,b6 g];refine⟨?_,xV E_ ?_⟩
  ·have D:bQ [32] [AU,e.id.data.toList,e.key.data.toList,cW e.val.data.toList]=AU++32::(e.id.data.toList++32::(e.key.data.toList++32::cW e.val.data.toList)):=by simp[bQ]
   have x:=qZ 32 (cW e.val.data.toList);rw[D,nO,jR E_,jR l.1,jR q.1,CT,D4,a8 E_,a8 (fun h=>absurd h.1 E_),b6 ⟨Z,F_⟩];show (match (fD (b7 (bQ [32] (dN 32 (cW e.val.data.toList))))).1 with
    | [f]=>(⟨3,b7 e.id.data.toList,a6,a6,0,0,b7 e.key.data.toList,f.text,[],h_⟩:b8)
    |_=>NV)=e
   rw[R3,yt X,gJ,gJ];exact i
  intro w a;simp only[l7,n_,or_false]at a;rcases a with rfl|rfl|rfl|rfl;all_goals first|exact E_|exact l.2|exact q.2|exact bh _
 by_cases k:e.op=4
 ·rw[a8 d,a8 g,b6 k,j0,j0,List.all_eq_true]at c;have d_:=c.2;rw[FB,a8 j,a8 d,a8 g,b6 k,k]at i;rw[gH,a8 d,a8 g,b6 k];have r:∀(b:UInt8),(b=32\/b=10)->∀w∈bs e.refs,b∉w:=by
   intro b r w a;obtain ⟨s,x,rfl⟩:=List.mem_map.1 a;have:=mL (d_ s x);rcases r with rfl|rfl;all_goals first|exact this.1|exact this.2
  refine⟨?_,xV E_ ?_⟩
  ·rw[nO,kU E_ (by intro w a;rcases l7.1 a with rfl|a;all_goals first|exact l.1|exact r 32 (.inl Z) w a),CT,D4,a8 E_,a8 (fun h=>absurd h.1 E_),a8 (fun h=>absurd h.1 E_),b6 ⟨Z,by simp only[j7];omega⟩];show (⟨4,b7 e.id.data.toList,a6,a6,0,0,a6,a6,(bs e.refs).map b7,h_⟩:b8)=e;rw[gJ,Ky];exact i
  intro w a;rcases l7.1 a with rfl|a
  ·decide
  rcases l7.1 a with rfl|a;all_goals first|exact l.2|exact r 10 (.inr Z) w a
 by_cases m:e.op=5
 ·rw[FB,a8 j,a8 d,a8 g,a8 k,b6 m,m]at i;rw[gH,a8 d,a8 g,a8 k,b6 m];refine⟨?_,xV E_ ?_⟩
  ·rw[nO,kU E_ (by intro w a;rw[q9]at a;subst a;exact l.1),CT,D4,a8 E_,a8 (fun h=>absurd h.1 E_),a8 (fun h=>absurd h.1 E_),a8 (fun h=>absurd h.1 E_),b6 ⟨Z,Z⟩];show (⟨5,b7 e.id.data.toList,a6,a6,0,0,a6,a6,[],h_⟩:b8)=e;rw[gJ];exact i
  intro w a;simp only[l7,n_,or_false]at a;rcases a with rfl|rfl;all_goals first|exact E_|exact l.2
 by_cases o:e.op=6
 ·rw[a8 d,a8 g,a8 k,a8 m,b6 o,j0]at c;have q:=mL c.1;have p:=mL c.2;rw[FB,a8 j,a8 d,a8 g,a8 k,a8 m,b6 o,o]at i;rw[gH,a8 d,a8 g,a8 k,a8 m,b6 o];refine⟨?_,xV E_ ?_⟩
  ·rw[nO,kU E_ (by intro w a;simp only[l7,n_,or_false]at a;rcases a with rfl|rfl|rfl;all_goals first|exact l.1|exact q.1|exact p.1),CT,D4,a8 E_,a8 (fun h=>absurd h.1 E_),a8 (fun h=>absurd h.1 E_),a8 (fun h=>absurd h.1 E_),a8 (fun h=>absurd h.1 E_),b6 ⟨Z,Z⟩];show (⟨6,b7 e.id.data.toList,b7 e.other.data.toList,b7 e.node.data.toList,0,0,a6,a6,[],h_⟩:b8)=e;rw[gJ,gJ,gJ];exact i
  intro w a;simp only[l7,n_,or_false]at a;rcases a with rfl|rfl|rfl|rfl;all_goals first|exact E_|exact l.2|exact q.2|exact p.2
 have y:e.op=7:=X
 rw[a8 d,a8 g,a8 k,a8 m,a8 o]at c;have p:=mL c;rw[FB,a8 j,a8 d,a8 g,a8 k,a8 m,a8 o,y]at i;rw[gH,a8 d,a8 g,a8 k,a8 m,a8 o];refine⟨?_,xV E_ ?_⟩
 ·rw[nO,kU E_ (by intro w a;simp only[l7,n_,or_false]at a;rcases a with rfl|rfl;all_goals first|exact l.1|exact p.1),CT,D4,a8 E_,a8 (fun h=>absurd h.1 E_),a8 (fun h=>absurd h.1 E_),a8 (fun h=>absurd h.1 E_),a8 (fun h=>absurd h.1 E_),a8 (fun h=>absurd h.1 E_),b6 ⟨Z,Z⟩];show (⟨7,b7 e.id.data.toList,b7 e.other.data.toList,a6,0,0,a6,a6,[],h_⟩:b8)=e;rw[gJ,gJ];exact i
 intro w a;simp only[l7,n_,or_false]at a;rcases a with rfl|rfl|rfl;all_goals first|exact E_|exact l.2|exact p.2
end Go.Proofs.YtopnleflllkbmaaGreatDoor
namespace Go.Abs
section
section
variable{P:Program}{H:aF}
theorem zg(s)(c):Vc P Extern.BytealgCount.count H [.pv (.str s),.pv (.int .u8 c)] (.pv (.int .i64 ((Lib.countByte s.data.toList c.toNat.toUInt8)))):=by intro w I ι cs b h;obtain ⟨u,v,rfl,d,e⟩:=Z3 b h;rw[d.str_inv,e.int_inv];exact⟨_,Lib.run_countString s c w,.pv (.int _ _)⟩
end
end
end Go.Abs
namespace Go.Proofs.YtopnleflllkbmaaGreatDoor
open Go.Proofs.Tryz
open Go.Abs
abbrev Na:B_:=⟨#[32]⟩
theorem UU(s)(H:aF):RC 244 [sv s,sv Na] (iv (Lib.indexByte s.data.toList 32)) H:=by
 refine Pu<|Bd func244 Z ntmps244<|Sz U<|C V<|Y (gR U_)<|O U<|S<|aD<|S<|aR (t:=16) (n:=9) (A_:=decide (Na=s)) ?_ ?_
 ·all_goals refine Y V<|Y cD<|Dm ?_<;>(refine Sp 19 (fun c=>?_) fun c=>?_)<;>(try contradiction)<;>refine J V<|J V<|J xA<|Y cE<|Da ?_<;>exact Gj (h:=by rfl)
 refine Cn ?_ ?_<;>intro d
 ·have e:=b9 d;subst e;exact Sz U<|aC<|Rt<|Qq
 refine C V<|Y cD<|Da<|Cn ?_ ?_<;>intro b
 ·exact C V<|Y V<|Y (cV Z U_ Z Z X (by rfl) (show 0<(⟨#[32]⟩:B_).size from Nat.zero_lt_one) Z)<|Y (kc aEC (zT s 32 _))<|O U<|aC<|Rt<|Qq
 cases b
theorem Tk(s)(H):RC 282 [sv s,sv Na] (iv (Lib.indexByte s.data.toList 32)) H:=by refine Pu ?_;exact Bd func282 Z ntmps282<|Sz U<|C V<|Y V<|Y (bF Z Z TD Z (UU s _))<|O U<|aC<|Rt<|Qq
def nt(s:B_):AV:=if Lib.indexByte s.data.toList 32 = -1 then .tup [sv s,sv ⟨#[]⟩,bv false]else .tup [sv (s.extract 0 (Lib.indexByte s.data.toList 32).toNat),sv (s.extract ((Lib.indexByte s.data.toList 32).toNat+1) s.size),bv true]
theorem Pg(s:B_)(H:aF)(hs:s.size<2^40):RC 194 [sv s,sv Na] (nt s) H:=by
 refine Pu ?_;have d:=fun H=>UU s H;rw[nt];rcases Classical.em (Lib.indexByte s.data.toList 32 = -1)with c|c
 ·rw[b6 c];simp only[c]at d;refine Bd Aw Z gw<|C U<|Y U<|O U<|S<|C V<|Y V<|Y (kc TD (d _))<|O U<|C V<|O DK<|Cn ?_ ?_<;>intro b
  ·cases b
  refine aA<|C V<|Y U<|Y U<|O U<|aC<|mA (H':=[]) (.inr Z) Z (aJ Z) (aJ Z) (aJ Z) P_ Qq
 rw[a8 c];obtain ⟨w,r,f,e2,e⟩:=xZ c;simp only[e]at d;rw[e,l8];have hl:w.length+1+r.length=s.size:=by rw[<-show s.data.toList.length=s.size by simp,f,j9,j7];omega
 refine Bd Aw Z gw<|C U<|Y U<|O U<|S<|C V<|Y V<|Y (kc TD (d _))<|O U<|C V<|O DK<|Cn ?_ ?_<;>intro b
 ·refine S<|aN a7<|Cq V<|Cq V<|Cq (bT (l:=0) (h:=(w.length)) Z U_ Z Z Z X X Z)<|Cq V<|Cq V<|Cq V<|Cq (gR U_)<|Cq kp<|Cq (bT (l:=(w.length+1)) (h:=s.size) Z U_ Z Z Z X X Z)<|Cq U<|Cq U<|Cq U<|bL<|Kr<|aC<|mA (H':=[]) (.inr Z) Z (aJ Z) (aJ Z) (aJ Z) P_ Qq
 have hx:=b_ b;omega
theorem aCc(s)(H:aF)(d:s.size<2^40):RC 137 [sv s,sv Na] (nt s) H:=by
 refine Pu ?_;have b:=fun H=>Pg s H d;rcases Classical.em (Lib.indexByte s.data.toList 32 = -1)with c|c
 ·simp only[nt,b6 c]at b |-;refine Bd Ay Z gy<|C U<|Y U<|O U<|C V<|Y V<|Y (kc Bf (b _))<|Y dH<|Y dH<|Y dH<|Y U<|Y U<|O U<|aC<|mA (H':=[]) (.inr Z) Z (aJ Z) (aJ Z) (aJ Z) P_ Qq
 simp only[nt,a8 c]at b |-;refine Bd Ay Z gy<|C U<|Y U<|O U<|C V<|Y V<|Y (kc Bf (b _))<|Y dH<|Y dH<|Y dH<|Y U<|Y U<|O U<|aC<|mA (H':=[]) (.inr Z) Z (aJ Z) (aJ Z) (aJ Z) P_ Qq
abbrev sNl:B_:=⟨#[10]⟩
def C1(s:B_):Bool:=decide ((1:Int)<=(s.size:Int))&&decide (s.extract (s.size - 1) s.size=sNl)
def DZ(s:B_):B_:=if C1 s then s.extract 0 (s.size - 1)else s
theorem dv(s:B_)(H:aF)(hs:s.size<2^40):RC 256 [sv s,sv sNl] (bv (C1 s)) H:=by
 refine Pu<|Bd func256 Z ntmps256<|Sz U<|S<|aR (t:=4) (n:=18) (A_:=C1 s) ?_ ?_
 ·all_goals refine Y V<|Y (gR U_)<|Y V<|Y (gR U_)<|Y DK<|Dm ?_<;>(refine Sp 10 (fun b=>?_) fun b=>?_)<;>(first|contradiction|refine M<|M<|M<|M<|M<|M<|M<|M<|M ?_|refine J V<|J V<|J (gR U_)<|J V<|J (gR U_)<|J (by exact dV Z Z Z (show IntKind.i64.wrap ((s.size:Int) - 1)=((s.size - 1:Nat):Int)by have h11:(1:Int)<=(s.size:Int):=b9 b;rw[IntKind.wrap_i64];omega))<|J (bT (l:=(s.size - 1)) (h:=s.size) Z U_ Z Z Z X X Z)<|J V<|J xA ?_)<;>refine Y cE<|Da ?_<;>exact Gj (h:=by(simp only[C1];rw[show decide ((1:Int)<=(s.size:Int))=_ from b];rfl))
 exact aC<|Rt<|Qq
theorem Ed(s:B_)(H:aF)(c:s.size<2^40):RC 205 [sv s,sv sNl] (sv (DZ s)) H:=by
 refine Pu<|Bd func205 Z ntmps205<|Sz U<|S<|C V<|Y V<|O (kc call256 (dv s _ c))<|Cn ?_ ?_<;>intro b
 ·have h1:=by
   have h:=b;rw[C1,j0,k_]at h;omega
  rw[DZ,b6 b];exact C V<|Y V<|Y (gR U_)<|Y V<|Y (gR U_)<|Y (by exact dV Z Z Z (show IntKind.i64.wrap ((s.size:Int) - 1)=((s.size - 1:Nat):Int)by rw[IntKind.wrap_i64];omega))<|Y (bT (l:=0) Z U_ Z Z Z X X Z)<|O U<|aC<|Rt<|Qq
 rw[DZ,a8 F_];exact aA<|C V<|O U<|aC<|Rt<|Qq
theorem ir(s)(H)(b:s.size<2^40):RC 144 [sv s,sv sNl] (sv (DZ s)) H:=by refine Pu ?_;exact Bd func144 Z ntmps144<|Sz U<|C V<|Y V<|Y (bF Z Z call205 Z (Ed s _ b))<|O U<|aC<|Rt<|Qq
theorem Uh(s:B_)(H:aF):RC 281 [sv s,sv Na] (iv ((s.data.toList.count 32:Nat):Int)) H:=by
 refine Pu<|Bd func281 Z ntmps281<|Sz U<|S<|C V<|Y (gR U_)<|O cD<|Cn ?_ ?_<;>intro c
 ·cases c
 refine aA<|S<|C V<|Y (gR U_)<|O cD<|Cn ?_ ?_<;>intro b
 ·exact C V<|Y V<|Y (cV Z U_ Z Z X (by rfl) (show 0<(⟨#[32]⟩:B_).size from Nat.zero_lt_one) Z)<|Y (OY Z Z func304 Z Z Z Z Z (zg s 32))<|O U<|aC<|Rt<|Qq
 cases b
def ofY(l:List UInt8):B_:=⟨l.toArray⟩
def cN(s:B_):List B_:=(dN 32 s.data.toList).map ofY
def B7(D:List B_)(m:Nat):List (List AV):=D.map (fun e=>(S_ e).map AV.pv)++List.replicate m [sv ⟨#[]⟩]
theorem UT(D)(m):(B7 D (m+1))[D.length]?=some [sv ⟨#[]⟩]:=by rw[B7,List.getElem?_append_right H_,g_,Nat.sub_self];rfl
theorem ja{s}(h:(cN s).length=1):cN s=[s]:=by rw[cN,g_,xI]at h;have a:32∉s.data.toList:=List.count_eq_zero.1 X;rw[cN,rQ a];rfl
theorem P6(D)(m)(x):(B7 D (m+1)).set D.length [sv x]=B7 (D++[x]) m:=by unfold B7;rw[List.set_append_right _ _ H_,g_,Nat.sub_self,List.map_append,List.append_assoc];rfl
theorem P7(H)(D)(m):∀r∈B7 D m,∀a∈r,Clo H a:=by
 intro r b a c;rcases List.mem_append.1 b with b|b
 ·obtain ⟨d,_,rfl⟩:=List.mem_map.1 b;obtain ⟨p,_,rfl⟩:=List.mem_map.1 c;simp
 rw[List.eq_of_mem_replicate b,q9]at c;subst c;simp
instance(H)(D)(m):W_ (H) (B7 D m):=⟨P7 H D m⟩
theorem exL(s:B_)(i j):(s.extract i j).data.toList=(s.data.toList.drop i).take (j - i):=H_
theorem nj{a b:B_}(h:a.data.toList=b.data.toList):a=b:=by cases a;simp_all
theorem Ib{s:B_}{w r}(h:s.data.toList=w++32::r):s.extract 0 w.length=ofY w/\(s.extract (w.length+1) s.size).data.toList=r:=by
 have hl:s.size=w.length+1+r.length:=by
  show s.data.size=_;rw[<-Array.length_toList,h,j9,j7];omega
 constructor
 ·refine nj ?_;rw[exL,List.drop_zero,Nat.sub_zero,h,List.take_left];rfl
 simp_all
theorem aDn{H1}{id g n}{ob}(ps)(b:H1.get id=some ob)(c:ob.g=g)(a:ob.rows=ps.map (·.map .pv))(d:ps.length=n):Fin [] H1 (.osl id g 0 n) [] (.pv (.sl ps)):=by subst c d;exact Fin.fz _ b a (.osl H_) Z T_ T_
theorem mz(d:B_)(H:aF)(hs:d.size<2^40):RC 251 [sv d,sv Na,iv 0,iv (-1)] (.pv (aL (cN d))) H:=by
 refine Pu ?_;obtain ⟨N,o⟩:∃N,N=d.data.toList.count 32:=X_;have hNs:N<=d.size:=by rw[o];exact Nat.le_trans List.count_le_length (by simp)
 have x:=fun H=>Uh d H;rw[<-o]at x;have e:(dN 32 d.data.toList).length=N+1:=by rw[xI,o]
 refine Bd func251 Z ntmps251<|Sz U<|S<|C V<|O cD<|Cn ?_ ?_<;>intro p
 ·cases p
 refine aA<|S<|C V<|O xA<|Cn ?_ ?_<;>intro u
 ·have:=b9 u;cases this
 refine aA<|S<|C V<|O cM<|Cn ?_ ?_<;>intro k
 ·refine Rd V<|Y V<|Y (kc call281 (x _))<|Y kp<|O U<|C V<|Y V<|Y (gR U_)<|Y kp<|Y (by exact CJ (r:=((N+1:Nat):Int)) Z Z Z (by omega))<|O U<|C V<|Y (by exact DX (id:=31) Z bH wB Nn Z Z Z (by omega) (by omega) (by exact l8 _) (by exact l8 _) (by omega) Z)<|O U<|C V<|Y (by exact dV Z Z Z (show IntKind.i64.wrap (((N+1:Nat):Int) - 1)=(N:Int)by rw[IntKind.wrap_i64];omega))<|O U<|Sz U<|S<|aD ?_;refine fS (fun(D:List B_) (a:B_)=>([(0,sv a),(1,sv Na),(2,iv 0),(3,iv (N:Int)),(8,.pv (.sl [])),(9,.osl 31 0 0 (N+1)),(10,iv (D.length:Int))],[(31,⟨0,1,9,B7 D (N+1 - D.length)⟩)])) (fun D a=>cN d=D++cN a/\a.size<=d.size) (fun D a=>N - D.length) [] d ⟨Z,j6 _⟩ ?_ ?_
  ·exact(cJ.wk (Eb<|Eb<|Eb<|Eb<|Eb<|Ea<|Eb<|T_) (Hc (P7 _ _ _)<|T_) T_)
  rintro D a ⟨d_,hr⟩;have g:D.length+(cN a).length=N+1:=by
   have:=congrArg List.length d_;rw[j9,cN,g_,e]at this;exact this.symm
  have hpos:0<(cN a).length:=by rw[cN,g_];exact qZ _ _
  obtain ⟨m,c_⟩:∃m,N+1 - D.length=m+1:=⟨N - D.length,by omega⟩;have z:=fun H=>Tk a H;rw[c_];rcases Nat.lt_or_ge D.length N with hlt|hge
  ·have E:Lib.indexByte a.data.toList 32 ≠ -1:=fun h=>by
    have A:=rQ (xY.1 h);rw[cN,A]at g;have:D.length+1=N+1:=g;omega
   obtain ⟨w,r,q,F,B⟩:=xZ E;obtain ⟨I,y⟩:=Ib q;have hl:w.length+1+r.length=a.size:=by rw[<-show a.data.toList.length=a.size by simp,q,j9,j7];omega
   have hsp:cN a=a.extract 0 w.length::cN (a.extract (w.length+1) a.size):=by
    rw[cN,q,jR F,List.map_cons,I,cN,y]
   simp only[B]at z;refine S<|C V<|Y V<|O cM<|Cn ?_ ?_<;>intro v
   ·refine aA<|aD<|C V<|Y V<|Y (kc call282 (z _))<|O U<|S<|C V<|O cM<|Cn ?_ ?_<;>intro l
    ·have:=b9 l;omega
    refine aA<|C V<|Y V<|Y V<|Y V<|Y V<|Y (by exact eQ Z Z Z (show IntKind.i64.wrap ((w.length:Int)+0)=(w.length:Int)by rw[IntKind.wrap_i64];omega))<|Y (by exact bT (l:=0) (h:=w.length) Z U_ Z Z Z (by omega) (by omega) Z)<|Y (by exact dI Z bH Z Z Z Z Z (by omega) (by exact l8 _) (by omega) (r7 _))<|Uu (by exact cQ Z V_ Z Z Z Z Z (UT D m) Nat.zero_lt_one Z (P6 D m _))<|Zz<|C V<|Y V<|Y V<|Y (gR U_)<|Y kp<|Y (by exact bT (l:=(w.length+1)) (h:=a.size) Z U_ Z Z Z (by omega) (by omega) Z)<|O U<|Rg<|Dm ?_;refine Y kp<|Da ?_;have G:(D++[a.extract 0 w.length]).length=D.length+1:=by simp
    have t:(a.extract (w.length+1) a.size).size<=d.size:=by rw[<-show (a.extract (w.length+1) a.size).data.toList.length=(a.extract (w.length+1) a.size).size by simp,y];omega
    refine⟨D++[a.extract 0 w.length],a.extract (w.length+1) a.size,⟨by simp_all,t⟩,by omega,?_⟩;rw[G,show N+1 - (D.length+1)=m by omega];exact(cJ.wk (Eb<|Eb<|Eb<|Eb<|Eb<|Ea<|Eb<|T_) (Hc (P7 _ _ _)<|T_) T_)
   have:=b_ v;omega
  have hDN:D.length=N:=by omega
  have hone:cN a=[a]:=ja (by omega);have j:m=0:=by omega
  subst j;refine S<|C V<|Y V<|O cM<|Cn ?_ ?_<;>intro n
  ·have:=b9 n;omega
  refine aP<|C V<|Y V<|Y V<|Y (by exact dI Z bH Z Z Z Z Z (by omega) (by exact l8 _) (by omega) (r7 _))<|Uu (by exact cQ Z V_ Z Z Z Z Z (UT D 0) Nat.zero_lt_one Z (P6 D 0 _))<|Zz<|C V<|Y V<|Y kp<|Y (by exact kO (l:=0) (h:=(D.length+1)) Z bH Z Z Z Z Z Z (by omega) (by omega) Z Z)<|O U<|aC ?_;have s:(D++[a]).map S_=(cN d).map S_:=by simp_all
  refine cR (H':=[]) (.inr Z) Z (aJ Z) (aDn (id:=31) ((D++[a]).map S_) Z Z (by show B7 (D++[a]) 0=_;rw[B7,List.replicate_zero,List.append_nil,List.map_map];rfl) (by simp)) ⟨?_,Z⟩;rw[aL,s]
 cases k
theorem wj(s)(H)(b:s.size<2^40):RC 200 [sv s,sv Na] (.pv (aL (cN s))) H:=by refine Pu ?_;exact Bd func200 Z ntmps200<|Sz U<|C V<|Y V<|Y (bF Z Z call251 Z (mz s _ b))<|O U<|aC<|Rt<|Qq
def zD(t:B_):B_:=if Lib.indexByte t.data.toList 10 = -1 then t else t.extract 0 ((Lib.indexByte t.data.toList 10).toNat+1)
def RT(t:B_):B_:=if Lib.indexByte t.data.toList 10 = -1 then⟨#[]⟩else t.extract ((Lib.indexByte t.data.toList 10).toNat+1) t.size
def jI(s:B_):Nat->B_
 |0=>s
 |k+1=>RT (jI s k)
def iX(s:B_):List B_:=(rD s.data.toList).map ofY
theorem aCP(s):ofY s.data.toList=s:=nj (Z)
theorem szY(s:B_):s.data.toList.length=s.size:=rfl
theorem Jc{t:B_}(h:Lib.indexByte t.data.toList 10 ≠ -1):∃w r,t.data.toList=w++10::r/\(10:UInt8)∉w/\Lib.indexByte t.data.toList 10=(w.length:Int)/\t.extract 0 (w.length+1)=ofY (w++[10])/\(t.extract (w.length+1) t.size).data.toList=r/\w.length+1+r.length=t.size:=by
 obtain ⟨w,r,d,g,e⟩:=xZ h;have f:w.length+1+r.length=t.size:=by rw[<-szY,d,j9,j7];omega
 have c:t.data.toList=(w++[10])++r:=F_
 refine⟨w,r,d,g,e,nj ?_,?_,f⟩
 ·rw[exL,List.drop_zero,Nat.sub_zero,c,show w.length+1=(w++[(10:UInt8)]).length by simp,List.take_left];rfl
 rw[exL,c,show w.length+1=(w++[(10:UInt8)]).length by simp,List.drop_left];exact List.take_of_length_le G_
theorem BE{t}(h:¬ 0<t.size):iX t=[]:=by have:t.data.toList=[]:=List.length_eq_zero_iff.1 F_;rw[iX,this];rfl
theorem CN{t}(h:0<t.size):iX t=zD t::iX (RT t)/\(RT t).size<=t.size:=by
 rw[zD,RT];by_cases a:Lib.indexByte t.data.toList 10 = -1
 ·rw[b6 a,b6 a];refine⟨?_,l6 _⟩;rw[iX,NP (xY.1 a) (fun e=>by rw[<-szY]at h;simp_all)];rfl
 rw[a8 a,a8 a];obtain ⟨w,r,c,f,g,d,b,e6⟩:=Jc a;rw[g,l8,d];refine⟨?_,H_⟩;rw[iX,c,HR f,List.map_cons,iX,b]
theorem A1(s):∀k,k<=(iX s).length->iX (jI s k)=(iX s).drop k/\(jI s k).size<=s.size
 |0,_=>⟨Z,j6 _⟩
 | k+1,h=>by
  obtain ⟨b,d⟩:=A1 s k (Nat.le_of_succ_le h);have i:0<(jI s k).size:=by
   rcases Nat.lt_or_ge 0 _ with c|c
   ·exact c
   have g:=BE (t:=jI s k) X;rw[g]at b;have:=congrArg List.length b;rw[p_,List.length_nil]at this;omega
  obtain ⟨f,e⟩:=CN i;rw[f]at b;refine⟨?_,Nat.le_trans e d⟩;have:=congrArg List.tail b;rw[List.tail_drop]at this;exact this
theorem Ta{s}{k}(h:k<(iX s).length):(iX s)[k]?=some (zD (jI s k))/\0<(jI s k).size:=by
 obtain ⟨b,i2⟩:=A1 s k (Nat.le_of_lt h);have c:0<(jI s k).size:=by
  rcases Nat.lt_or_ge 0 _ with d|d
  ·exact d
  have e:=BE (t:=jI s k) X;rw[e]at b;have:=congrArg List.length b;rw[p_,List.length_nil]at this;omega
 refine⟨?_,c⟩;rw[(CN c).1]at b;have:=congrArg List.head? b;rw[List.head?_drop]at this;exact this.symm
def lB(s:B_):Ob:=bx 1 9 [sv s]
theorem Sy(s)(H)(b:H.get 933=none):aS Tryz.prog 142 [sv s] H (fun r H'=>r=.clo 198 [.ref 933 0 0 0]/\H'=(933,lB s)::H):=by refine Bd func142 Z ntmps142<|C (uP Z Z Z Z b)<|O U<|C (gT Z Z)<|O U<|aC ?_;refine cR (.inr Z) Z (aJ Z) Fin.refl Qq
theorem Iq(s:B_)(y:AV)(j:Nat->aF)(hs:s.size<2^40)(f:∀k,(j k).get 933=some (lB (jI s k)))
  (E:∀k,k<(iX s).length->dF Tryz.prog y [sv (zD (jI s k))] ((933,lB (jI s (k+1)))::j k) (fun r H'=>r=bv true/\H'=j (k+1))) :
  aS Tryz.prog 198 [y,.ref 933 0 0 0] (j 0) (fun r H'=>r=.tup []/\H'=j (iX s).length):=by
 refine Bd func198 Z ntmps198<|aD<|bC (σ:=Nat) (fun k=>([(0,y),(1,.ref 933 0 0 0)],j k)) (fun k=>k<=(iX s).length) (fun k=>(iX s).length - k) 0 (l6 _) ?_ ?_
 ·exact E0
 rintro k F;obtain ⟨q,i2⟩:=A1 s k F;have D:=fun H=>rW (jI s k) 10 H;have A:jI s (k+1)=RT (jI s k):=rfl;refine S<|C (aX Z N_ Z (f k) Z Z Z)<|Y (gR U_)<|O jK<|Cn ?_ ?_<;>intro o
 ·have I:0<(jI s k).size:=I_ o
  have x:k<(iX s).length:=by
   rcases Nat.lt_or_ge k (iX s).length with h|h
   ·exact h
   rw[(CN I).1,List.drop_eq_nil_of_le h]at q;cases q
  have c:=E k x;rw[A,RT,zD]at c;rcases Classical.em (Lib.indexByte (jI s k).data.toList 10 = -1)with i|i
  ·rw[b6 i,b6 i]at c;have l:∀H,RC 199 [sv (jI s k),.pv (.int .u8 10)] (iv (-1)) H:=fun H=>by
    have:=D H
    rwa [show Lib.indexByte (jI s k).data.toList ((10:Int).toNat.toUInt8) = -1 from i]at this
   refine aA<|aD<|Sz U<|S<|C (aX Z N_ Z (f k) Z Z Z)<|Y (kc AO (l _))<|O U<|C V<|O DK<|Cn ?_ ?_<;>intro B
   ·cases B
   refine Rd (aX Z N_ Z (f k) Z Z Z)<|Y U<|Uu (lU Z V_ Z Z Z Z (f k) Z Z Z)<|Zz<|C V<|Y V<|Y (cZ Z Z Z (c))<|O iW<|Cn ?_ ?_<;>intro u
   ·cases u
   refine aA ?_;exact⟨k+1,X,X,E0⟩
  rw[a8 i,a8 i]at c;obtain ⟨w,r,e1,e2,d_,e4,e5,e6⟩:=Jc i;rw[d_,l8]at c;have l:∀H,RC 199 [sv (jI s k),.pv (.int .u8 10)] (iv (w.length:Int)) H:=fun H=>by
   have:=D H
   rwa [show Lib.indexByte (jI s k).data.toList ((10:Int).toNat.toUInt8)=(w.length:Int)from d_]at this
  refine aA<|aD<|Sz U<|S<|C (aX Z N_ Z (f k) Z Z Z)<|Y (kc AO (l _))<|O U<|C V<|O DK<|Cn ?_ ?_<;>intro t
  ·refine aN a7<|Cr [933] (fun n d=>by exact aX Z N_ Z ((d _ Z).trans (f k)) Z Z Z)<|Cr [] (fun _ _=>V)<|Cr [] (fun n d=>by exact eQ Z Z Z (show IntKind.i64.wrap ((w.length:Int)+1)=((w.length+1:Nat):Int)by rw[IntKind.wrap_i64];omega))<|Cr [] (fun n d=>by exact bT (l:=0) (h:=(w.length+1)) Z U_ Z Z Z X X Z)<|Cr [933] (fun n d=>by exact aX Z N_ Z ((d _ Z).trans (f k)) Z Z Z)<|Cr [] (fun _ _=>V)<|Cr [] (fun n d=>by exact eQ Z Z Z (show IntKind.i64.wrap ((w.length:Int)+1)=((w.length+1:Nat):Int)by rw[IntKind.wrap_i64];omega))<|Cr [] (fun n d=>by exact bT (l:=(w.length+1)) (h:=(jI s k).size) Z U_ Z Z Z X X Z)<|Cr [] (fun _ _=>U) ?_;refine Cp [933] (fun n d=>by exact lU Z V_ Z Z Z Z ((d _ Z).trans (f k)) Z Z Z)<|bL<|Kr<|C V<|Y V<|Y (cZ Z Z Z (c))<|O iW ?_;refine Cn ?_ ?_<;>intro z
   ·cases z
   refine aA ?_;exact⟨k+1,X,X,E0⟩
  have:=b_ t;omega
 have G:¬ 0<(jI s k).size:=J_ o
 have v:k=(iX s).length:=by
  rw[BE G]at q;have:=congrArg List.length q;rw[List.length_nil,p_]at this;omega
 subst v;refine aP ?_;exact oO (H':=j (iX s).length) (.inl Z) Z Fin.refl ⟨Z,Z⟩
theorem Df(w):Lib.trimSuffix (w++[10]) [10]=w:=by rw[Lib.trimSuffix,Lib.hasSuffix];simp
theorem Dg(s:B_):DZ s=b7 (Lib.trimSuffix s.data.toList [10]):=by
 have hz:=szY s;rw[DZ];cases h:C1 s with
 | true =>
  rw[C1,j0,k_,k_]at h;obtain ⟨h1,f⟩:=h;have e:s.data.toList.drop (s.size - 1)=[10]:=by
   have:=congrArg (fun x=>x.data.toList) f;rw[exL]at this;refine Eq.trans ?_ (show sNl.data.toList=[10]from Z);rw[<-this];exact(List.take_of_length_le F_).symm
  have b:s.data.toList=s.data.toList.take (s.size - 1)++[10]:=by rw[<-e,List.take_append_drop]
  refine nj ?_;rw[b6 Z,exL,cO,b,Df,List.drop_zero,Nat.sub_zero,<-b]
 | false =>
  rw[a8 E_,Lib.trimSuffix,a8,gJ];intro c;obtain ⟨w,d⟩:=List.isSuffixOf_iff_suffix.1 (show ([10]:List UInt8).isSuffixOf s.data.toList=true from c);have hl:s.size=w.length+1:=G_
  have:C1 s=true:=by
   rw[C1,j0,k_,k_];refine⟨X,nj ?_⟩;rw[exL,<-d,show s.size - 1=w.length by omega,List.drop_left];exact List.take_of_length_le (by rw[List.length_singleton];omega)
  rw[h]at this;cases this
theorem Ug(s):∃b,nt s=.tup [sv (b7 ((dN 32 s.data.toList).headD [])),sv (b7 (s.data.toList.drop (((dN 32 s.data.toList).headD []).length+1))),bv b]:=by
 rw[nt];by_cases h:Lib.indexByte s.data.toList 32 = -1
 ·refine⟨false,?_⟩;rw[b6 h,rQ (xY.1 h),List.headD_cons,List.drop_eq_nil_of_le (Nat.le_succ _),gJ];rfl
 obtain ⟨w,r,d,e,f⟩:=xZ h;refine⟨true,?_⟩;obtain ⟨j,g⟩:=Ib d;have i:s.data.toList.drop (w.length+1)=r:=by
  simp_all
 have c:(dN 32 s.data.toList).headD []=w:=by rw[d,jR e];rfl
 rw[a8 h,c,i,f,l8,j,show s.extract _ s.size=b7 r from nj (by rw[g,cO])];rfl
theorem wi(s)(i)(h:i<(cN s).length):(cN s)[i]?=some (b7 ((dN 32 s.data.toList).getD i [])):=by rw[cN,g_]at h;rw[cN,r6,List.getD_eq_getElem?_getD,m8 h];rfl
theorem wh(s):(cN s).length=(dN 32 s.data.toList).length:=g_ _
theorem sT{a b}:b7 a=b7 b↔a=b:=⟨fun h=>by rw[<-cO a,h,cO],fun h=>by rw[h]⟩
theorem cH(s)(l):cX (s::l)=s.size+cX l:=rfl
theorem xU{e}{a}(b:e.op≠1)(h:bs a=gH e):(⟨(bQ [32] (bs a)).toArray⟩)++⟨#[10]⟩=b7 (fJ e++[10]):=nj (by
 rw[cO,fJ,a8 b,<-h];simp)
theorem Qr{e}(a:e.op=1):(⟨#[112,117,116,32]⟩)++(fA e.obj).1++⟨#[10]⟩=b7 (fJ e++[10]):=nj (by
 rw[fJ,b6 a];rfl)
theorem MD{o}:(fA o).1.size<=20000:=by
 rw[fA]
 split
 ·split
  ·exact l6 _
  split
  ·exact l6 _
  simp_all
 exact l6 _
theorem Zy(e:b8)(H:aF)(he:T3 e)(hv:fU e=true):RC 207 [av (bJ e)] (.tup [sv (b7 (fJ e++[10])),iv (fM e)]) H:=by
 refine Pu ?_;obtain ⟨⟨o1,o2⟩,F,o4⟩:=uB.1 hv;rw[wL]at F;have hval:=HY hv;have hs0:cX []=0:=rfl;refine Bd func207 Z ntmps207<|C (kb 1)<|Y U<|O U<|Sz U<|S<|C (bA iM)<|O (bS M_)<|aD<|C cD<|Da<|Cn ?_ ?_<;>intro A
 ·have E:e.op=1:=b9 A;have y:=MD (o:=e.obj);have h4:(⟨#[112,117,116,32]⟩:B_).size=4:=rfl;have h10:(⟨#[10]⟩:B_).size=1:=rfl;have h4s:((⟨#[112,117,116,32]⟩:B_)++(fA e.obj).1).size=4+(fA e.obj).1.size:=F_
  refine C (bA uT)<|Y (wA bW sizeOf135)<|Y (kc call253 (VK e.obj _ he.2.2))<|Y V<|Y dH<|Y dH<|Y U<|O U<|C V<|Y kq<|Y kq<|Y V<|Y U<|O U<|aC<|Ru ?_;rw[Qr E,show fM e=(fA e.obj).2 from b6 E];exact Qq
 have E:e.op≠1:=b_ A;rw[a8 E,j0]at F;obtain ⟨o5,o6⟩:=F;have hid:=dG o5;refine C cD<|Da<|Cn ?_ ?_<;>intro D
 ·have h2:e.op=2:=b9 D;rw[b6 h2,ln,j0,k_,k_]at o6;have hx:0<=e.x/\e.x<1048576:=X
  have hy:0<=e.y/\e.y<1048576:=X
  have Xs:(aQ e.x).size<=7:=by rw[<-aT];show (Lib.itoa e.x).length<=7;rw[jX _ hx.1];exact cU X E_
  have siy:(aQ e.y).size<=7:=by rw[<-aT];show (Lib.itoa e.y).length<=7;rw[jX _ hy.1];exact cU X E_
  have hw0:(⟨#[109,111,118,101]⟩:B_).size=4:=rfl;refine aN a7<|Cq (bA jQ)<|Cq (bS N_)<|Cq (bA jE)<|Cq (bA mO)<|Cq (bS M_)<|Cq (kc lQ (pL e.x X X _))<|Cq (bA jE)<|Cq (bA mN)<|Cq (bS M_)<|Cq (kc lQ (pL e.y X X _))<|Cq (aK (([⟨#[109,111,118,101]⟩,e.id,aQ e.x,aQ e.y]:List B_).map S_) Z bH Z Z Z Z Z (iY _))<|Cq U<|bL<|Kr<|Sr<|Dm ?_;have hw:bs [⟨#[109,111,118,101]⟩,e.id,aQ e.x,aQ e.y]=gH e:=by
   rw[gH]
   (rw[b6 h2];rfl)
  have hne:e.op≠1:=X
  have hj:∀H,RC 204 [.pv (aL [⟨#[109,111,118,101]⟩,e.id,aQ e.x,aQ e.y]),sv ⟨#[32]⟩] (sv ⟨(bQ [32] (bs [⟨#[109,111,118,101]⟩,e.id,aQ e.x,aQ e.y])).toArray⟩) H:=fun H=>wQ [⟨#[109,111,118,101]⟩,e.id,aQ e.x,aQ e.y] ⟨#[32]⟩ H E_ (by show 1*_+_+_<_;simp only[cH,j7,List.length_nil];omega);have hjs:(⟨(bQ [32] (bs [⟨#[109,111,118,101]⟩,e.id,aQ e.x,aQ e.y])).toArray⟩:B_).size<=70000:=by
   show (bQ [32] (bs [⟨#[109,111,118,101]⟩,e.id,aQ e.x,aQ e.y])).length<=_;have:=fQ [⟨#[109,111,118,101]⟩,e.id,aQ e.x,aQ e.y];simp only[cH,j7,List.length_nil]at this;omega
  have h10:(⟨#[10]⟩:B_).size=1:=rfl;refine Y (kc rI (hj _))<|Y kq<|Y U<|O U<|aC<|Ru ?_;rw[xU hne hw,show fM e=0 from a8 hne];exact Qq
 have h2:e.op≠2:=b_ D;rw[a8 h2]at o6;refine C cD<|Da<|Cn ?_ ?_<;>intro B
 ·have h3:e.op=3:=b9 B;rw[b6 h3,j0,k_]at o6;have hks:=dG o6.1;have hq:=rB e.val;have hw0:(⟨#[116,97,103]⟩:B_).size=3:=rfl;refine aN a7<|Cq (bA jQ)<|Cq (bS N_)<|Cq (bA nP)<|Cq (bS N_)<|Cq (bA oL)<|Cq (bS N_)<|Cq (kc call260 (ru e.val _ X))<|Cq (aK (([⟨#[116,97,103]⟩,e.id,e.key,⟨(cW e.val.data.toList).toArray⟩]:List B_).map S_) Z bH Z Z Z Z Z (iY _))<|Cq U<|bL<|Kr<|Sr<|Dm ?_;have hw:bs [⟨#[116,97,103]⟩,e.id,e.key,⟨(cW e.val.data.toList).toArray⟩]=gH e:=by
   rw[gH]
   (rw[a8 h2,b6 h3];rfl)
  have hne:e.op≠1:=X
  have hj:∀H,RC 204 [.pv (aL [⟨#[116,97,103]⟩,e.id,e.key,⟨(cW e.val.data.toList).toArray⟩]),sv ⟨#[32]⟩] (sv ⟨(bQ [32] (bs [⟨#[116,97,103]⟩,e.id,e.key,⟨(cW e.val.data.toList).toArray⟩])).toArray⟩) H:=fun H=>wQ [⟨#[116,97,103]⟩,e.id,e.key,⟨(cW e.val.data.toList).toArray⟩] ⟨#[32]⟩ H E_ (by show 1*_+_+_<_;simp only[cH,j7,List.length_nil];omega);have hjs:(⟨(bQ [32] (bs [⟨#[116,97,103]⟩,e.id,e.key,⟨(cW e.val.data.toList).toArray⟩])).toArray⟩:B_).size<=70000:=by
   show (bQ [32] (bs [⟨#[116,97,103]⟩,e.id,e.key,⟨(cW e.val.data.toList).toArray⟩])).length<=_;have:=fQ [⟨#[116,97,103]⟩,e.id,e.key,⟨(cW e.val.data.toList).toArray⟩];simp only[cH,j7,List.length_nil]at this;omega
  have h10:(⟨#[10]⟩:B_).size=1:=rfl;refine Y (kc rI (hj _))<|Y kq<|Y U<|O U<|aC<|Ru ?_;rw[xU hne hw,show fM e=0 from a8 hne];exact Qq
 have h3:e.op≠3:=b_ B;rw[a8 h3]at o6;refine C cD<|Da<|Cn ?_ ?_<;>intro hc4
 ·have h4:e.op=4:=b9 hc4;rw[b6 h4,j0,j0,k_,k_,List.all_eq_true]at o6;obtain ⟨⟨r1,r2⟩,r3⟩:=o6;have hrs:cX e.refs<=24*e.refs.length:=oY (fun s hs=>dG (r3 s hs));have hw0:(⟨#[114,101,102,115]⟩:B_).size=4:=rfl;have hfl:(([[⟨#[114,101,102,115]⟩,e.id],e.refs]:List (List B_)).flatten).length<2^40:=G_
  refine Rd (bA jQ)<|Y (bS N_)<|Y (aK (([⟨#[114,101,102,115]⟩,e.id]:List B_).map S_) Z bH Z Z Z Z Z (iY _))<|Y (bA iL)<|Y (bS aH)<|Y (aK (([[⟨#[114,101,102,115]⟩,e.id],e.refs]:List (List B_)).map (fun l=>[.sl (l.map S_)])) Z F7 Z Z Z Z Z H_)<|Y (kc K8 (kS [[⟨#[114,101,102,115]⟩,e.id],e.refs] _ F_ hfl))<|O U<|Sr<|Dm ?_;rw[show ([[⟨#[114,101,102,115]⟩,e.id],e.refs]:List (List B_)).flatten=⟨#[114,101,102,115]⟩::e.id::e.refs by simp];have hw:bs (⟨#[114,101,102,115]⟩::e.id::e.refs)=gH e:=by
   rw[gH]
   (rw[a8 h2,a8 h3,b6 h4];rfl)
  have hne:e.op≠1:=X
  have hj:∀H,RC 204 [.pv (aL (⟨#[114,101,102,115]⟩::e.id::e.refs)),sv ⟨#[32]⟩] (sv ⟨(bQ [32] (bs (⟨#[114,101,102,115]⟩::e.id::e.refs))).toArray⟩) H:=fun H=>wQ (⟨#[114,101,102,115]⟩::e.id::e.refs) ⟨#[32]⟩ H E_ (by show 1*_+_+_<_;simp only[cH,j7,List.length_nil];omega);have hjs:(⟨(bQ [32] (bs (⟨#[114,101,102,115]⟩::e.id::e.refs))).toArray⟩:B_).size<=70000:=by
   show (bQ [32] (bs (⟨#[114,101,102,115]⟩::e.id::e.refs))).length<=_;have:=fQ (⟨#[114,101,102,115]⟩::e.id::e.refs);simp only[cH,j7,List.length_nil]at this;omega
  have h10:(⟨#[10]⟩:B_).size=1:=rfl;refine Y (kc rI (hj _))<|Y kq<|Y U<|O U<|aC<|Ru ?_;rw[xU hne hw,show fM e=0 from a8 hne];exact Qq
 have h4:e.op≠4:=b_ hc4;rw[a8 h4]at o6;refine C cD<|Da<|Cn ?_ ?_<;>intro w
 ·have z:e.op=5:=b9 w;have hw0:(⟨#[100,114,111,112]⟩:B_).size=4:=rfl;refine Rd (bA jQ)<|Y (bS N_)<|Y (aK (([⟨#[100,114,111,112]⟩,e.id]:List B_).map S_) Z bH Z Z Z Z Z (iY _))<|O U<|Sr<|Dm ?_;have hw:bs [⟨#[100,114,111,112]⟩,e.id]=gH e:=by
   rw[gH]
   (rw[a8 h2,a8 h3,a8 h4,b6 z];rfl)
  have hne:e.op≠1:=X
  have hj:∀H,RC 204 [.pv (aL [⟨#[100,114,111,112]⟩,e.id]),sv ⟨#[32]⟩] (sv ⟨(bQ [32] (bs [⟨#[100,114,111,112]⟩,e.id])).toArray⟩) H:=fun H=>wQ [⟨#[100,114,111,112]⟩,e.id] ⟨#[32]⟩ H E_ (by show 1*_+_+_<_;simp only[cH,j7,List.length_nil];omega);have hjs:(⟨(bQ [32] (bs [⟨#[100,114,111,112]⟩,e.id])).toArray⟩:B_).size<=70000:=by
   show (bQ [32] (bs [⟨#[100,114,111,112]⟩,e.id])).length<=_;have:=fQ [⟨#[100,114,111,112]⟩,e.id];simp only[cH,j7,List.length_nil]at this;omega
  have h10:(⟨#[10]⟩:B_).size=1:=rfl;refine Y (kc rI (hj _))<|Y kq<|Y U<|O U<|aC<|Ru ?_;rw[xU hne hw,show fM e=0 from a8 hne];exact Qq
 have z:e.op≠5:=b_ w;rw[a8 z]at o6;refine C cD<|Da<|Cn ?_ ?_<;>intro hc6
 ·have d_:e.op=6:=b9 hc6;rw[b6 d_,j0]at o6;have hns:=dG o6.1;have y:=dG o6.2;have hw0:(⟨#[115,112,108,105,116]⟩:B_).size=5:=rfl;refine Rd (bA jQ)<|Y (bS N_)<|Y (bA qQ)<|Y (bS N_)<|Y (bA kK)<|Y (bS N_)<|Y (aK (([⟨#[115,112,108,105,116]⟩,e.id,e.node,e.other]:List B_).map S_) Z bH Z Z Z Z Z (iY _))<|O U<|Sr<|Dm ?_;have hw:bs [⟨#[115,112,108,105,116]⟩,e.id,e.node,e.other]=gH e:=by
   rw[gH]
   (rw[a8 h2,a8 h3,a8 h4,a8 z,b6 d_];rfl)
  have hne:e.op≠1:=X
  have hj:∀H,RC 204 [.pv (aL [⟨#[115,112,108,105,116]⟩,e.id,e.node,e.other]),sv ⟨#[32]⟩] (sv ⟨(bQ [32] (bs [⟨#[115,112,108,105,116]⟩,e.id,e.node,e.other])).toArray⟩) H:=fun H=>wQ [⟨#[115,112,108,105,116]⟩,e.id,e.node,e.other] ⟨#[32]⟩ H E_ (by show 1*_+_+_<_;simp only[cH,j7,List.length_nil];omega);have hjs:(⟨(bQ [32] (bs [⟨#[115,112,108,105,116]⟩,e.id,e.node,e.other])).toArray⟩:B_).size<=70000:=by
   show (bQ [32] (bs [⟨#[115,112,108,105,116]⟩,e.id,e.node,e.other])).length<=_;have:=fQ [⟨#[115,112,108,105,116]⟩,e.id,e.node,e.other];simp only[cH,j7,List.length_nil]at this;omega
  have h10:(⟨#[10]⟩:B_).size=1:=rfl;refine Y (kc rI (hj _))<|Y kq<|Y U<|O U<|aC<|Ru ?_;rw[xU hne hw,show fM e=0 from a8 hne];exact Qq
 have d_:e.op≠6:=b_ hc6;rw[a8 d_]at o6;have y:=dG o6;have hw0:(⟨#[106,111,105,110]⟩:B_).size=4:=rfl;refine Rd (bA jQ)<|Y (bS N_)<|Y (bA kK)<|Y (bS N_)<|Y (aK (([⟨#[106,111,105,110]⟩,e.id,e.other]:List B_).map S_) Z bH Z Z Z Z Z (iY _))<|O U<|Sr<|Dm ?_;have hw:bs [⟨#[106,111,105,110]⟩,e.id,e.other]=gH e:=by
  rw[gH]
  (rw[a8 h2,a8 h3,a8 h4,a8 z,a8 d_];rfl)
 have hne:e.op≠1:=X
 have hj:∀H,RC 204 [.pv (aL [⟨#[106,111,105,110]⟩,e.id,e.other]),sv ⟨#[32]⟩] (sv ⟨(bQ [32] (bs [⟨#[106,111,105,110]⟩,e.id,e.other])).toArray⟩) H:=fun H=>wQ [⟨#[106,111,105,110]⟩,e.id,e.other] ⟨#[32]⟩ H E_ (by show 1*_+_+_<_;simp only[cH,j7,List.length_nil];omega);have hjs:(⟨(bQ [32] (bs [⟨#[106,111,105,110]⟩,e.id,e.other])).toArray⟩:B_).size<=70000:=by
  show (bQ [32] (bs [⟨#[106,111,105,110]⟩,e.id,e.other])).length<=_;have:=fQ [⟨#[106,111,105,110]⟩,e.id,e.other];simp only[cH,j7,List.length_nil]at this;omega
 have h10:(⟨#[10]⟩:B_).size=1:=rfl;refine Y (kc rI (hj _))<|Y kq<|Y U<|O U<|aC<|Ru ?_;rw[xU hne hw,show fM e=0 from a8 hne];exact Qq
theorem PS:∀ {l} {acc},(rK acc l).2=0->(∀e∈l,fM e=0)/\rK acc l=(acc++l.flatMap fun e=>fJ e++[10],0)/\(acc.length<=20000->(rK acc l).1.length<=20000)
 | [],acc,_=>⟨(fun e h=>by cases h),by rw[rK,List.flatMap_nil,List.append_nil],fun h=>h⟩
 |e::l,acc,h=>by
  rw[rK]at h |-;by_cases b:fM e≠0\/20000<(acc++(fJ e++[10])).length
  ·simp_all
  rw[a8 b]at h |-;obtain ⟨i1,i2,i3⟩:=PS h
  simp_all
theorem HZ{l}(h:lH l=true):l≠[]/\∀e∈l,fU e=true:=by
 rw[lH,j0]at h
 grind
theorem Oi(w):Lib.trimSuffix (w++[10]) [10]=w:=by rw[Lib.trimSuffix,Lib.hasSuffix];simp
theorem D5{l}(h:(dX l).2=0):iD (dX l).1=(l,0):=by
 have b:lH l=true:=by
  rw[dX]at h
  grind
 obtain ⟨hne,d⟩:=HZ b;rw[dX,b6 b]at h;obtain ⟨c,f,h3⟩:=PS h;rw[List.nil_append]at f;have j:dX l=(b7 (l.flatMap fun e=>fJ e++[10]),0):=by rw[dX,b6 b,f]
 have hsz:(b7 (l.flatMap fun e=>fJ e++[10])).size<=20000:=by rw[cB];simp_all
 have hl:(rD (b7 (l.flatMap fun e=>fJ e++[10])).data.toList).map (fun s=>nO (Lib.trimSuffix s [10]))=l:=by
  have g:=GT (fun w i=>by
   obtain ⟨e,a,rfl⟩:=List.mem_map.1 i;exact(LN (d e a) (c e a)).2)
  rw[List.flatMap_map]at g;rw[cO,g,List.map_map,List.map_map];refine(List.map_congr_left fun e a=>?_).trans (List.map_id l);show nO _=e;rw[Oi];exact(LN (d e a) (c e a)).1
 rw[j,iD]
 simp_all
end Go.Proofs.YtopnleflllkbmaaGreatDoor
