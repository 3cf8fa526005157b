/-
  Parts of the proof. Conditions: each theorem's own.
-/
import Derived.Test.YtopnleflllkbmaaGreatDoorKX2rM3
import Derived.Laws.BitsLemmas
import Derived.Below
import Derived.Shelf.Strconv.ErrVarAll
import Derived.Shelf.Strconv.AtoiAll
import Derived.Shelf.LaysC
import Derived.Shelf.Strings.SlTrimAscii
import Derived.WideLaws
import Derived.Laws.Build
import Derived.Lib.Strings
import Derived.Lib.AtoiTie
import Derived.Lib.ItoaMem
set_option linter.unusedVariables false
set_option linter.unusedSimpArgs false
set_option maxRecDepth 100000
set_option maxHeartbeats 8000000
namespace Go.Proofs
open Tryz
theorem vO:type_of% call121:=call121
theorem Bm:type_of% call155:=call155
theorem Bl:type_of% call194:=call194
theorem AT:type_of% call208:=call208
theorem TL:type_of% call244:=call244
theorem AQ:type_of% call287:=call287
theorem LH:type_of% call30:=call30
theorem LG:type_of% call47:=call47
theorem Bf:type_of% func137:=func137
theorem Bc:type_of% func194:=func194
theorem DP:type_of% isAgg131:=isAgg131
theorem nE:type_of% isAgg185:=isAgg185
theorem iR:type_of% isAgg189:=isAgg189
theorem mY:type_of% isAgg25:=isAgg25
theorem NE:type_of% isAgg299:=isAgg299
theorem gN:type_of% isAgg48:=isAgg48
theorem jS:type_of% isAgg49:=isAgg49
theorem ix:type_of% ntmps137:=ntmps137
theorem iu:type_of% ntmps194:=ntmps194
theorem IY:type_of% sizeOf131:=sizeOf131
theorem nV:type_of% sizeOf185:=sizeOf185
theorem IX:type_of% sizeOf266:=sizeOf266
theorem Az:type_of% underlying21:=underlying21
end Go.Proofs
namespace Go.Proofs.YtopnleflllkbmaaGreatDoor
open Go.Proofs.Tryz
open Go.Abs
abbrev HXJ:B_:=⟨#[48,49,50,51,52,53,54,55,56,57,97,98,99,100,101,102]⟩
theorem Ju{n}(h:n<16):Lib.indexByte HXJ.data.toList (wP n).toNat.toUInt8=n:=by revert n;decide
theorem ov(m){k}(b:k<16):bA (E7 m) k=wP (UE (Br m) k):=by have a:=um (EN (Br m) k);have e:(E7 m).data.toList=BO (Br m):=rfl;rw[bA,e,BO,r6,List.getElem?_range b];show ((UInt8.ofNat _).toNat:Int)=_;rw[UInt8.toNat_ofNat',Nat.mod_eq_of_lt X,Int.toNat_of_nonneg a.1]
theorem Ku(m){k}(a:k<16):(dJ m)[k]?=some (UE (Br m) k):=by rw[dJ,r6,List.getElem?_range a];rfl
theorem Uo(m){k}(a:k<16):(By m).getD k 0=UE (Br m) k:=by rw[List.getD_eq_getElem?_getD,By,List.getElem?_append_left (a),Ku m a];rfl
theorem aAd(m):(By m).getD 16 0=GW m / 16:=rfl
theorem aAc(m):(By m).getD 17 0=GW m % 16:=rfl
def JM(m:B_)(k:Nat):Nat:=(((dJ m).take k).map (15 - ·)).sum
theorem kg(m){k}(a:k<16):JM m (k+1)=JM m k+(15 - UE (Br m) k):=by rw[JM,List.take_add_one,Ku m a,List.map_append,List.sum_append];rfl
theorem Fq(m)(k):JM m k<=240:=by
 have h:=P6 ((dJ m).take k);have h2:((dJ m).take k).length<=16:=by rw[q8,aAf];omega
 rw[JM];omega
theorem xo(m):JM m 16=GW m:=rfl
def mo(m:B_):Ob:=bx 1 9 [sv m]
theorem zw(m)(H)(b:H.get 961=none):aS Tryz.prog 171 [sv m] H (fun r H'=>r=.clo 225 [.ref 961 0 0 0]/\H'=(961,mo m)::H):=by refine Bd func171 Z ntmps171<|C (uO Z Z Z Z b)<|O U<|C (gR Z Z)<|O U<|aC ?_;refine cR (.inr Z) Z (aJ Z) Fin.refl Qq
theorem zx(m:B_)(o:AV)(d:Nat->aF)(hm:m.size<2^40)(u:∀k,(d k).get 961=some (mo m))
  (p:∀k:Nat,k<18->dF Tryz.prog o [iv (k:Int),iv (((By m).getD k 0:Nat):Int)] (d k) (fun r H'=>r=bv true/\H'=d (k+1))) :
  aS Tryz.prog 225 [o,.ref 961 0 0 0] (d 0) (fun r H'=>r=.tup []/\H'=d 18):=by
 have s:=rD m;have g:=fun H=>qu m H X;have f:=p 16 E_;have j:=p 17 E_;have hle:=bk m;rw[aAd]at f;rw[aAc]at j;refine Bd func225 Z ntmps225<|Sz U<|C (aX Z N_ Z (u 0) Z Z Z)<|Y (kc Bn (g _))<|O U<|S<|C V<|Y (gM U_)<|O V<|aD<|bC (σ:=Nat) (fun k=>([(0,o),(1,.ref 961 0 0 0),(3,iv (JM m k:Int)),(4,sv (E7 m)),(10,iv 16),(11,iv (k:Int))],d k)) (fun k=>k<=16) (fun k=>16 - k) 0 (l6 _) ?_ ?_
 ·rw[s];exact E0
 intro k hk;have c:=fun(h:k<16)=>p k X;refine Sz cM<|S<|Cn ?_ ?_<;>intro i
 ·have b:k<16:=I_ i
  have c:=c b;rw[Uo m b]at c;have t:=EN (Br m) k;have hr1:=Fq m k;have hr2:=kg m b;have e:=fun H=>rV HXJ (wP (UE (Br m) k)) H;rw[Ju t]at e;refine aA<|S<|aD<|C V<|O U<|C V<|Y V<|Y (cV Z U_ Z Z X (l8 _) X (ov m b))<|Y (kc AU (e _))<|O U<|C V<|Y V<|Y (by exact dP Z Z Z (show IntKind.i64.wrap (15 - (UE (Br m) k:Int))=((15 - UE (Br m) k:Nat):Int)by rw[qD X X];omega))<|Y (by exact eQ Z Z Z (show IntKind.i64.wrap ((JM m k:Int)+((15 - UE (Br m) k:Nat):Int))=(JM m (k+1):Int)by rw[qD X X];omega))<|O U<|C V<|Y V<|Y V<|Y (cZ Z Z Z (c))<|O iT ?_;refine Cn ?_ ?_<;>intro l
  ·cases l
  refine aA<|Rd kp<|O V ?_;exact⟨k+1,X,X,E0⟩
 have n:k=16:=J_ i
 subst n;rw[xo];refine aP<|C V<|Y V<|Y (by exact CM Z Z Z E_ (show IntKind.i64.wrap (((GW m:Nat):Int).tdiv 16)=((GW m / 16:Nat):Int)by rw[Int.tdiv_eq_ediv_of_nonneg X,qD X X];omega))<|O (cZ Z Z Z (f)) ?_;refine Cn ?_ ?_<;>intro q
 ·refine Rd V<|Y V<|Y (by exact zE Z Z Z E_ (show ((GW m:Nat):Int).tmod 16=((GW m % 16:Nat):Int)by rw[Int.tmod_eq_emod_of_nonneg X];omega))<|O (cZ Z Z Z (j)) ?_;exact oP (H':=d 18) (.inl Z) Z Fin.refl ⟨Z,Z⟩
 cases q
theorem Oh{a b:Nat}(e:a<2^62)(f:b<2^62):bits .xor .i64 a b=((a ^^^ b)):=by have h:=Nat.xor_lt_two_pow (n:=62) e f;have d:a % 2 ^ IntKind.i64.bits=a:=Nat.mod_eq_of_lt (Nat.lt_of_lt_of_le e E_);have c:b % 2 ^ IntKind.i64.bits=b:=Nat.mod_eq_of_lt (Nat.lt_of_lt_of_le f E_);simp[bits,BitVec.ofInt_natCast,BitVec.toNat_xor,BitVec.toNat_ofNat,d,c];rw[qD X X]
theorem Uq{p}[Decidable p](h:¬ p):AV.pv (.bool (decide p))=bv false:=F_
def xl(s:B_)(i:Nat)(m:B_)(k:Nat):List B_:=(List.range k).map fun k=>N0 (oX s i k) ((By m).getD k 0)
theorem Eu(s)(i)(m)(k):xl s i m (k+1)=xl s i m k++[N0 (oX s i k) ((By m).getD k 0)]:=by rw[xl,List.range_succ,List.map_append];rfl
theorem Pz(s)(i)(m)(k):(xl s i m k).length=k:=by simp[xl]
theorem cL.eqJ{P}{N}{o}{E}{H H2}{v a}(h:cL P N o E H v H2)(e:v=a):cL P N o E H a H2:=e▸h
def sgE:cY:=[(4,.ref 4 0 0 0),(6,.ref 6 0 0 0),(10,.ref 10 0 0 0)]
def sgT(s:B_)(i:Nat):aF:=[(8,bx 3 48 [iv 0,.pv (.sl []),.pv (.sl [])]),(6,bx 1 3 [iv (i:Int)]),(4,bx 1 9 [sv s])]
def sgK(s:B_)(i:Nat)(m:B_)(L:List B_):aF:=[(905,⟨L.length,1,9,bZ L⟩),(10,bx 3 48 [iv (i:Int),.osl 905 L.length 0 L.length,.pv .nils]),(961,mo m),(8,bx 3 48 [iv 0,.pv (.sl []),.pv (.sl [])]),(6,bx 1 3 [iv (i:Int)]),(4,bx 1 9 [sv s])]
theorem Qa(s)(i)(m)(L)(x):sgK s i m (L++[x])=[(905,⟨L.length+1,1,9,bZ (L++[x])⟩),(10,bx 3 48 [iv i,.osl 905 (L.length+1) 0 (L.length+1),.pv .nils]),(961,mo m),(8,bx 3 48 [iv 0,.pv (.sl []),.pv (.sl [])]),(6,bx 1 3 [iv i]),(4,bx 1 9 [sv s])]:=by simp[sgK]
theorem R1(H)(m):∀r∈(mo m).rows,∀a∈r,Clo H a:=by intro r c a b;simp[mo,bx,q_]at c;subst c;rw[q_]at b;subst b;simp
instance(H)(m):W_ (H) ((mo m).rows):=⟨R1 H m⟩
theorem Pv(s m:B_)(h i:Nat)(H:aF)(hs:s.size<2^40)(hm:m.size<2^40)(K:h<=8)(hi:i<2 ^ h):
  RC 119 [sv s,iv (h:Int),iv (i:Int),sv m] (.tup [.agg [iv (i:Int),.pv (aK (jv s i m)),.pv (aK (xN h (xS s h) i))],iv 0]) H:=by
 refine Pu ?_;have f:=FX K;have hsh:=Yg K;have hkeys:=fun H=>Tq s h H hs K;have A_:=WB s h;have hpath:∀L,L=xN h (xS s h) i->True:=fun _ _=>trivial;refine Bd func119 Z ntmps119<|C (kb 4)<|Y (kb 6)<|Y (kl 8 Z3)<|O U<|S<|S<|aN a7<|Cq V<|Cq (cL.eqJ (iA Z Z Z) (Uq X))<|Cq V<|Nf V<|Nf (cL.eqJ (J5 Z Z Z) (Uq X))<|Cq cE<|Cq V<|Nf (bS M_)<|Nf (cL.eqJ (iA Z Z Z) (Uq X))<|Cq cE<|Cq V<|Nf (bS M_)<|Nf V<|Nf (by exact O2 Z Z Z X (by simp[IntKind.bits];omega) hsh)<|Nf (cL.eqJ (jK Z Z Z) (Uq X))<|Cq cE<|bJ<|Kr ?_;refine Cn ?_ ?_<;>intro u_
 ·cases u_
 refine aA<|C (bS M_)<|Y (oO aCq)<|Y (kl 10 Z3)<|Uu (iU sizeOf48)<|Zz<|S<|C V<|O (kc call171 (zw m _ Z))<|aD ?_;refine fZ.ent (E':=[(1,iv (h:Int)),(4,.ref 4 0 0 0),(6,.ref 6 0 0 0),(8,.ref 8 0 0 0),(10,.ref 10 0 0 0),(35,.clo 225 [.ref 961 0 0 0])]) (H':=sgK s i m []) ?_ ?_
 ·exact (Q_ 905 1 9)
 refine pb (id:=904) (p:=36) (p2:=37) sgE Z call225 Z Z (by simp[sgE];exact⟨Z,Z,Z⟩) ?_;intro x P F hx3 hx4 W T;refine(zx m (.yld 904 0) (fun k=>(904,LR x sgE)::sgK s i m (xl s i m k)) hm (fun k=>rfl) ?_).mono ?_
 ·intro k hk;have hd:=aAb m _ (zi (d:=0) (by rw[Up];exact hk));have e_:=fun H=>qw s i k H hs X X;have hfl:=Pz s i m k;have D:=Eu s i m k;have c_:=fun H=>vh (oX s i k) ((By m).getD k 0) H (by rw[D4];decide) X;obtain ⟨d,v_⟩:∃d,d=(By m).getD k 0:=X_;rw[<-v_]at hd D c_ |-;refine .inl ⟨904,0,Z,?_⟩;refine Og [(4,.ref 4 0 0 0),(6,.ref 6 0 0 0),(10,.ref 10 0 0 0),(11,iv (k:Int)),(12,iv (d:Int))] (sgK s i m (xl s i m k)) P F hx3 hx4 W T Z Z Z Z Z ?_ ?_
  ·refine Sz U<|Rg<|Da ?_;exact(cJ.wk (Ea<|Ea<|Ea<|Eb<|Eb<|T_) (Hc (nW (by intro p f;simp only[sgE,l7,n_,or_false]at f;rcases f with rfl|rfl|rfl<;>(simp only[DA];rfl)))<|Hc (aV _ _)<|Ha<|Hc (R1 _ _)<|Hb<|Hb<|Hb<|T_) ⟨Z,Z,Z,Z,Z,Z,Z,T_⟩)
  rw[D,Qa];refine aD<|aN a7<|Cr [10] (fun _ h=>fh vV h)<|Cr [10] (fun _ h=>lh aH h)<|Cr [4] (fun _ h=>lh N_ h)<|Cr [6] (fun _ h=>lh M_ h)<|Cr [] (fun _ _=>V)<|Cr [] (fun n c=>by exact bF Z Z call173 Z (e_ _))<|Cr [] (fun _ _=>V)<|Cr [] (fun n c=>by exact bF Z Z call172 Z (c_ _))<|Cr [] (fun n c=>by exact aL [[.str (N0 (oX s i k) d)]] Z bH Z Z Z Z Z F_)<|Cp [905] (fun n c=>by exact cA (ps:=[[.str (N0 (oX s i k) d)]]) Z bH xE Z ((c _ Z).trans Z) Z Z Z (eH _) Z F_ (m:=1) Z X Z (gO (xl s i m k) (N0 (oX s i k) d)))<|Cr [10] (fun _ h=>fh vV h)<|Cp [10] (fun n c=>by exact cQ Z sizeOf22 Z Z Z ((c _ Z).trans Z) Z Z F_ (by simp only[Zl,S_];rfl) (by simp only[Zl,S_];rfl)) ?_;refine bJ<|Kr ?_;exact⟨[(905,⟨(xl s i m k).length+1,1,9,bZ (xl s i m k++[N0 (oX s i k) d])⟩),(10,bx 3 48 [iv (i:Int),.osl 905 ((xl s i m k).length+1) 0 ((xl s i m k).length+1),.pv .nils]),(961,mo m),(8,bx 3 48 [iv 0,.pv (.sl []),.pv (.sl [])]),(6,bx 1 3 [iv (i:Int)]),(4,bx 1 9 [sv s])],(cJ.wk T_ (Hc (nW (by intro p f;simp only[sgE,l7,n_,or_false]at f;rcases f with rfl|rfl|rfl<;>(simp only[DA];rfl)))<|Hc (aV _ _)<|Ha<|Hc (R1 _ _)<|Hb<|Hb<|Hb<|T_) ⟨Z,Z,Z,Z,Z,Z,Z,T_⟩),Z,Z⟩
 rintro r H' ⟨rfl,rfl⟩;refine⟨x,_,Z,F_,Z,fun z=>?_⟩;rw[F,show xl s i m 18=jv s i m from rfl];obtain ⟨f_,hS⟩:∃f_,f_=jv s i m:=X_;rw[<-hS];have hol:(f_.map S_).length=f_.length:=h_ _;refine fZ.ent (cJ.fzG (id:=905) (E':=[(1,iv (h:Int)),(4,.ref 4 0 0 0),(6,.ref 6 0 0 0),(8,.ref 8 0 0 0),(10,.ref 10 0 0 0)]) (H':=(10,bx 3 48 [iv (i:Int),.pv (aK f_),.pv .nils])::sgT s i) (f_.map S_) Z (eC _) ?_ Z ?_ ?_) ?_
 ·intro p f;simp only[l7,n_,or_false]at f;rcases f with rfl|rfl|rfl|rfl|rfl
  ·exact⟨_,Z,.same H_⟩
  ·exact⟨_,Z,.same (by simp;rfl)⟩
  ·exact⟨_,Z,.same (by simp;rfl)⟩
  ·exact⟨_,Z,.same (by simp;rfl)⟩
  exact⟨_,Z,.same (by simp;rfl)⟩
 ·refine⟨⟨_,Z,Z,Z,Z,lW Z (bG (.same H_) (bG (.osl ?_) (bG (.same H_) kT)))⟩,⟨_,Z,Z,Z,Z,eG H_⟩,⟨_,Z,Z,Z,Z,eG H_⟩,⟨_,Z,Z,Z,Z,eG H_⟩,T_⟩;rw[r7,List.drop_zero,<-hol,List.take_length]
 ·exact T_
 refine S<|S<|aN a7<|Cq (bS N_)<|Cq V<|Cq (kc call174 (hkeys _))<|Cq (bS M_)<|Cq U<|Cq U<|bJ<|Kr<|aD ?_;refine fZ.ent (E':=[(8,.ref 8 0 0 0),(10,.ref 10 0 0 0),(13,.pv (aK (xS s h))),(14,iv (i:Int))]) (H':=(906,⟨0,1,9,[]⟩)::(10,bx 3 48 [iv (i:Int),.pv (aK f_),.osl 906 0 0 0])::sgT s i) ?_ ?_
 ·exact (Q_ 906 1 9)
 refine XC (fun(j:Nat) (l:List B_) (q:Nat) (A:List B_)=>([(8,.ref 8 0 0 0),(10,.ref 10 0 0 0),(13,.pv (aK l)),(14,iv (q:Int))],[(906,⟨A.length,1,9,bZ A⟩),(10,bx 3 48 [iv (i:Int),.pv (aK f_),.osl 906 A.length 0 A.length]),(8,bx 3 48 [iv 0,.pv (.sl []),.pv (.sl [])]),(6,bx 1 3 [iv (i:Int)]),(4,bx 1 9 [sv s])]))
  (fun j l q A=>l.length=2 ^ j/\q<2 ^ j/\A++xN j l q=xN h (xS s h) i/\(∀t∈l,t.size=16)/\j<=8/\A.length+j<=8) (fun j l q A=>j) h (xS s h) i [] ⟨A_,hi,Z,fun t o_=>kS (WC s h t o_),K,by rw[List.length_nil];omega⟩ ?_ ?_
 ·exact L_
 rintro j l q A ⟨hl,hq,o,hz,hj,hA⟩;have hml:(l.map S_).length=l.length:=h_ _;have hpj:=FX hj;refine S<|C V<|Y (fV aE)<|O iY<|Cn ?_ ?_<;>intro v
 ·have E:1<l.length:=I_ v
  obtain ⟨u,rfl⟩:∃u,j=u+1:=by
   cases j with
   |zero=>rw[hl]at E;exact absurd E E_
   |succ u=>exact⟨u,Z⟩
  have G:l.length=2*2 ^ u:=by rw[hl,Nat.pow_succ,Nat.mul_comm]
  have hpu:=FX (h:=u) X;have Q:q / 2<2 ^ u:=by rw[Nat.pow_succ]at hq;omega
  have hx:=qc q;have d_:q ^^^ 1<l.length:=by
   rw[hx]
   split<;>omega
  have g:(l.map S_)[q ^^^ 1]?=some (S_ (l.getD (q ^^^ 1) a6)):=by
   rw[r6,List.getD_eq_getElem?_getD,m8 d_];rfl
  have w:(A++[l.getD (q ^^^ 1) a6])++xN u (ql l) (q / 2)=xN h (xS s h) i:=by
   rw[<-o,List.append_assoc];rfl
  obtain ⟨e,he⟩:∃e,e=l.getD (q ^^^ 1) a6:=X_;obtain ⟨y,hy⟩:∃y,y=q ^^^ 1:=X_;have B:=Oh (a:=q) (b:=1) X E_;rw[<-he]at g w;rw[<-hy]at g B d_;have z_:(A++[e]).length=A.length+1:=by rw[j9];rfl
  refine aA<|S<|aD<|aN a7<|Cr [10] (fun _ h=>fh vU h)<|Cr [10] (fun _ h=>lh aH h)<|Cr [] (fun _ _=>V)<|Cr [] (fun _ _=>V)<|Cr [] (fun n c=>by exact pC Z H_ Z Z B)<|Cr [] (fun n c=>by exact bU Z bH Z Z X (l8 _) g Z)<|Cr [] (fun _ _=>(fY N_ (hi:=g)))<|Cr [] (fun n c=>by exact aL [[.str e]] Z bH Z Z Z Z Z R_)<|Cp [906] (fun n c=>by exact cA (ps:=[[.str e]]) Z bH xE Z ((c _ Z).trans Z) Z Z Z (eH _) Z R_ (m:=1) Z X Z (gO A e))<|Cr [10] (fun _ h=>fh vU h)<|Cp [10] (fun n c=>by exact cQ Z sizeOf22 Z Z Z ((c _ Z).trans Z) Z Z (by simp only[j8,List.length_nil];omega) (by simp only[Zl,S_];rfl) (by simp only[Zl,S_];rfl)) ?_;refine bJ<|Kr<|Rd V<|Y (kc call175 (Vm l (2 ^ u) _ G X hz))<|Y V<|Y (by exact CM Z Z Z E_ (show IntKind.i64.wrap ((q:Int).tdiv 2)=((q / 2:Nat):Int)by rw[Int.tdiv_eq_ediv_of_nonneg X,qD X X];omega))<|Y U<|Da ?_;refine⟨u,ql l,q / 2,A++[e],⟨OL _ _ G,Q,w,fun t o_=>kS (XP _ _ (j6 _) t o_),X,X⟩,X,?_⟩;dsimp only;rw[z_];exact L_
 have hge:l.length<=1:=J_ v
 have N:j=0:=by
  cases j with
  |zero=>rfl
  |succ u =>
   have:2 ^ (u+1)=2*2 ^ u:=by rw[Nat.pow_succ,Nat.mul_comm]
   have:0<2 ^ u:=Nat.two_pow_pos u;omega
 subst N;have R:A=xN h (xS s h) i:=by rw[<-o,xN,List.append_nil]
 have y_:(A.map S_).length=A.length:=h_ _;rw[<-R];refine aP<|S ?_;refine fZ.ent (cJ.fzG (id:=906) (E':=[(8,.ref 8 0 0 0),(10,.ref 10 0 0 0)]) (H':=(10,bx 3 48 [iv (i:Int),.pv (aK f_),.pv (aK A)])::sgT s i) (A.map S_) Z (eC _) ?_ Z ?_ ?_) ?_
 ·intro p f;simp only[l7,n_,or_false]at f;rcases f with rfl|rfl
  ·exact⟨_,Z,.same (by simp;rfl)⟩
  exact⟨_,Z,.same (by simp;rfl)⟩
 ·refine⟨⟨_,Z,Z,Z,Z,lW Z (bG (.same H_) (bG (.same H_) (bG (.osl ?_) kT)))⟩,⟨_,Z,Z,Z,Z,eG H_⟩,⟨_,Z,Z,Z,Z,eG H_⟩,⟨_,Z,Z,Z,Z,eG H_⟩,T_⟩;rw[r7,List.drop_zero,<-y_,List.take_length]
 ·exact T_
 refine Rd (by exact aW Z gN sizeOf48 Z Z Z Z (by simp only[Zl,S_];rfl) Z)<|Uu (iU sizeOf48)<|O U<|aC ?_;refine hU (H':=[]) (.inr Z) Z (eV Z gN sizeOf48 Z Z Z (by simp only[Zl,S_];rfl) Z) (aJ Z) P_ ?_;exact Qq
end Go.Proofs.YtopnleflllkbmaaGreatDoor
namespace Go.Abs
open Go.RowKit
theorem Rel.below{I}{ι}{H}{w w'}(d:Below w.heap.size w w')(f:Rel I ι H w):Rel I ι H w'/\Step I ι H w I ι H w':=by
 have g:=d.block;have e:Step I ι H w I ι H w':=by
  refine⟨d.os,d.tape,d.output,d.size,fun a ha _=>?_,fun _ h=>h,fun _ h=>.inl h,fun _ h=>.inl h,fun b d _=>g b d,fun _ o h=>⟨o,h,j6 _,fun _=>⟨Z,Z,fun _=>j6 _⟩⟩⟩;unfold World.frozen?
  simp_all
 refine⟨⟨fun b h=>?_,fun j o k=>?_,f.inj,e.glob f⟩,e⟩
 ·have:=f.imm b h;have:=d.size;omega
 exact(f.obj j o k).keep Z (fun b c _ d=>⟨g b d,fun h=>h⟩) (fun r _ a _ v i=>i.mono f e)
end Go.Abs
namespace Go.Abs
open Go.Proofs
def aCc(v:Value):Prop:=∃t p,v=.iface t p
abbrev zq:PV:=.sat aCc
def pV(s:B_):Int×PV:=match Lib.atoiAll s.data.toList with
 |.ok v=>(v,MJ)
 |.range=>(Lib.atoiSat s.data.toList,zq)
 |_=>(0,zq)
theorem atoi_c{P:Program}{ρ:Shelf.Ren}(L:LaysC.n172 P ρ){G1 G2:Nat}(B:(G1,GV.face)∈eu)(c_:P.globalNamed "strconv.ErrSyntax" = some G1)(F:(G2,GV.face)∈eu)(e_:P.globalNamed "strconv.ErrRange" = some G2)(s:B_)(hs:s.size<2^40)(H:aF):
  aS P (ρ.f 172) [.pv (.str s)] H (fun r H'=>r=.tup [.pv (.int .i64 (pV s).1),.pv (pV s).2]/\H'=H):=by
 intro I D w R Q K f_;obtain ⟨v,rfl⟩:∃v,R=#[v]:=by
  match R,K with
  |⟨[v]⟩,_=>exact⟨v,Z⟩
 have e1:=(f_ 0 v _ Z Z).str_inv;subst e1;have j:∀(g:String) (G:Nat),(G,GV.face)∈eu->P.globalNamed g=some G->∃t p,w.var? P g=some #[.iface t p]:=fun g G A_ z_=>by
  obtain ⟨_,cs,t,f,l,q,p,v_⟩:=Q.glob _ A_;subst v_;exact⟨q,p,by simp only[World.var?,z_,Option.bind_some,l]⟩
 have m:∀(n:Int) (x:Value) (a:PV) (d:World),RowKit.Below w.heap.size w d->(∀I H,VRel d I D H x (.pv a))->∃r H' E o o_,(Ending.returned (.tuple #[.int .i64 n,x]))=.returned o_/\(r=.tup [.pv (.int .i64 n),.pv a]/\H'=H)/\VRel d E o H' o_ r/\Rel E o H' d/\Step I D H w E o H' d:=fun n x a d u u_=>by
  obtain ⟨y_,W⟩:=Rel.below u Q;refine⟨_,_,I,D,_,Z,⟨Z,Z⟩,.tup Z fun i v b y l=>?_,y_,W⟩
  match i,y,l with
  |0,y,l=>cases y;cases l;exact .pv (.int _ _)
  |1,y,l=>cases y;cases l;exact u_ _ _
  |i+2,y,l=>simp at y
 rw[pV];cases h:Lib.atoiAll s.data.toList with
 | ok n =>
  refine(Any.strconv_Atoi_ok L s X n h w).mono ?_;rintro e d ⟨rfl,T⟩;have u:RowKit.Below w.heap.size w d:=by
   rcases T with rfl|⟨t,rfl⟩
   ·exact RowKit.Below.refl _ _
   exact Lib.bytesWorld_below w _ t
  exact m n .nilIface MJ d u (fun _ _=>.pv (.sat Z Z))
 |range =>
  obtain ⟨t,p,A⟩:=j _ G2 F e_;refine(Any.strconv_Atoi_range_var L s X h t p w A).mono ?_;rintro e d ⟨N,rfl,_,_,u⟩;exact m _ _ zq d u (fun _ _=>.pv (.sat Z ⟨_,_,Z⟩))
 |_ =>
  obtain ⟨t,p,A⟩:=j _ G1 B c_;refine(Any.strconv_Atoi_syntax_var L s X h t p w A).mono ?_;rintro e d ⟨N,rfl,_,_,u⟩;exact m 0 _ zq d u (fun _ _=>.pv (.sat Z ⟨_,_,Z⟩))
theorem ji{P}{ρ}(L:Lays.n160 P ρ)(d:(P.info? (ρ.t 116)).map (fun i=>(i.zero,i.size))=some (some (.agg (Array.replicate 256 (.bool false))),256))(s c)(o:s.size<=9223372036854775807)(g:c.size<4294967281)
  (p:∀(j:Nat) b,c.data.toList[j]?=some b->b.toNat<128) (H) :
  aS P (ρ.f 160) [.pv (.str s),.pv (.str c)] H (fun r H'=>r=.pv (.str ⟨(Lib.trimS s.data.toList c.data.toList).toArray⟩)/\H'=H):=by
 intro I q w h m f k;obtain ⟨v,u,rfl⟩:∃v u,h=#[v,u]:=by
  match h,f with
  |⟨[v,u]⟩,_=>exact⟨v,u,Z⟩
 have x:=(k 0 v _ Z Z).str_inv;have n:=(k 1 u _ Z Z).str_inv;subst x n;refine(Any.strings_Trim_laid L d s c w o g p).mono ?_;rintro e w' ⟨rfl,y⟩;obtain ⟨t,l⟩:=Rel.below y m;exact⟨_,_,I,q,_,Z,⟨Z,Z⟩,.pv (.str _),t,l⟩
end Go.Abs
section
namespace Go.Proofs
open Go.RowKit Go.Sort Go.Shelf
def aEw:Go.Shelf.Ren:=⟨fun|160=>74|232=>123|231=>122|227=>124|234=>126|233=>125|236=>128|235=>127|228=>176|271=>179|151=>178|197=>177|120=>232|152=>231|260=>230|137=>199|119=>267|224=>268|225=>269|217=>250|266=>279|n=>n,fun|9=>9|4=>4|3=>3|5=>5|117=>150|116=>149|0=>0|124=>153|21=>21|105=>202|46=>157|119=>223|139=>279|138=>278|n=>n,fun|3=>0|4=>1|n=>n⟩
theorem aFC:Go.Proofs.Lays.n160 Tryz.prog aEw:={
  mixed:=by rfl
  f119:=Tryz.func267.trans C_
  f120:=Tryz.func232.trans C_
  f137:=Tryz.func199.trans C_
  f151:=Tryz.func178.trans C_
  f152:=Tryz.func231.trans C_
  f160:=Tryz.func74.trans C_
  f197:=Tryz.func177.trans C_
  f217:=Tryz.func250.trans C_
  f224:=Tryz.func268.trans C_
  f225:=Tryz.func269.trans C_
  f227:=Tryz.func124.trans C_
  f228:=Tryz.func176.trans C_
  f231:=Tryz.func122.trans C_
  f232:=Tryz.func123.trans C_
  f233:=Tryz.func125.trans C_
  f234:=Tryz.func126.trans C_
  f235:=Tryz.func127.trans C_
  f236:=Tryz.func128.trans C_
  f260:=Tryz.func230.trans C_
  f266:=Tryz.func279.trans C_
  f271:=Tryz.func179.trans C_
  t0:=DI
  a0:=ZQ
  z0:=TI
  v0:=FE
  t3:=Tryz.underlying3
  a3:=Tryz.isAgg3
  z3:=Tryz.sizeOf3
  v3:=sE
  t4:=eZ
  a4:=nD
  z4:=Tryz.sizeOf4
  v4:=iS
  t5:=dM
  a5:=uI
  z5:=cK
  v5:=sD
  t9:=Tryz.underlying9
  a9:=Tryz.isAgg9
  z9:=Tryz.sizeOf9
  v9:=gK
  t21:=Az
  a21:=Tryz.isAgg21
  z21:=Tryz.sizeOf21
  v21:=Tryz.zeroValue21
  t46:=kW
  a46:=DO
  z46:=AP
  v46:=tE
  t105:=Tryz.underlying202
  a105:=Tryz.isAgg202
  z105:=Tryz.sizeOf202
  v105:=Tryz.zeroValue202
  t116:=Tryz.underlying149
  a116:=Tryz.isAgg149
  z116:=Tryz.sizeOf149
  t117:=Tryz.underlying150
  a117:=Tryz.isAgg150
  z117:=Tryz.sizeOf150
  v117:=Tryz.zeroValue150
  t119:=gE
  a119:=aDI
  z119:=AO
  t124:=Tryz.underlying153
  a124:=Tryz.isAgg153
  z124:=Tryz.sizeOf153
  v124:=Tryz.zeroValue153
  t138:=Tryz.underlying278
  a138:=Tryz.isAgg278
  z138:=Tryz.sizeOf278
  v138:=Tryz.zeroValue278
  t139:=Tryz.underlying279
  a139:=Tryz.isAgg279
  z139:=Tryz.sizeOf279
  v139:=Tryz.zeroValue279
  g3:=by kernel_rfl
  g4:=by kernel_rfl}
end Go.Proofs
namespace Go.Proofs.YtopnleflllkbmaaGreatDoor
open Go.Proofs.Tryz
open Go.Abs
abbrev vr:B_:=⟨#[48,49,50,51,52,53,54,55,56,57,97,98,99,100,101,102]⟩
theorem aAW(b):vr.data.toList.contains b=GO b:=by
 have h:∀n:Fin 256,vr.data.toList.contains (UInt8.ofNat n.1)=GO (UInt8.ofNat n.1):=by decide +kernel
 have:=h ⟨b.toNat,b.toNat_lt⟩
 simpa using this
theorem AJ{α:Type}(p):∀l:List α,l.dropWhile p=[]↔l.all p=true
 | []=>by simp
 |a::r=>by
  rw[List.dropWhile_cons,List.all_cons];cases h:p a with
  |true=>exact AJ p r
  |false=>simp_all
theorem HD{α:Type}{p q}:∀ {l:List α},(l.dropWhile p).all q=true->(∀a,p a=true->q a=true)->l.all q=true
 | [],_,_=>rfl
 | a::r,h,b=>by
  rw[List.dropWhile_cons]at h;cases c:p a with
  |true =>
   rw[c]at h;rw[List.all_cons,b a c];exact HD h b
  |false =>
   simp_all
theorem aj(l):Lib.trimS l vr.data.toList=[]↔l.all GO=true:=by
 have e:=funext aAW;unfold Lib.trimS Lib.trimLeftS Lib.trimRightS;rw[e,AJ];constructor
 ·intro h;rw[List.all_reverse]at h;have c:=HD h (fun a d=>d)
  rwa [List.all_reverse]at c
 intro h;have c:=(AJ _ _).2 (by rw[List.all_reverse];exact h);rw[c];rfl
theorem qm(s)(hs:s.size<2^40)(H):RC 74 [sv s,sv vr] (sv ⟨(Lib.trimS s.data.toList vr.data.toList).toArray⟩) H :=ji aFC (Z) s _ X E_ (ascii_of_all (Z)) H
theorem WI(s)(c:s.size<2^40)(H):RC 30 [sv s] (bv (l9 s)) H:=by
 refine Pu ?_;have b:=fun H=>qm s c H;have f:=aj s.data.toList;obtain ⟨t,d⟩:∃t,t=Lib.trimS s.data.toList vr.data.toList:=X_;rw[<-d]at b f;have hb:l9 s=(decide ((s.size:Int)=16)&&decide ((⟨t.toArray⟩)=a6)):=by
  rw[l9]
  grind
 refine Bd func30 Z ntmps30<|Sz U<|S<|aR (t:=2) (n:=10) (A_:=l9 s) ?_ ?_
 ·all_goals refine Y V<|Y (gM U_)<|Y cD<|Dm ?_<;>(refine Sp 6 (fun e=>?_) fun e=>?_)<;>(first|refine M<|M<|M ?_|refine J V<|J (bF Z Z call74 Z (b _))<|J wF ?_)<;>refine Y cE<|Da ?_<;>exact Gj (h:=by simp_all)
 exact aC<|Rt<|Qq
end Go.Proofs.YtopnleflllkbmaaGreatDoor
end
namespace Go.Proofs.YtopnleflllkbmaaGreatDoor
open Go.Proofs.Tryz
open Go.Abs
def oddJ(t:B_):Bool:=!l9 t
theorem Ao(l:List B_)(q):((List.range l.length).any fun k=>match l[k]? with|some s=>q s|none=>false)=l.any q:=by
 rw[Bool.eq_iff_iff,List.any_eq_true,List.any_eq_true];constructor
 ·grind
 rintro⟨s,a,h⟩;obtain ⟨k,hk⟩:=r_.1 a
 grind
theorem PJ(l:List _):l.any oddJ=!l.all l9:=by
 induction l with
 |nil=>rfl
 |cons a r b=>rw[List.any_cons,List.all_cons,b,oddJ,Bool.not_and]
end Go.Proofs.YtopnleflllkbmaaGreatDoor
namespace Go.Abs
open Go.Proofs
section
section
variable{P:Program}{N:Nat}{o:Oper}{E:cY}{H:aF}{t t':TypeId}{x:Operand}
theorem RQ(e:o.op=.binOp .neq t x (.const .nilIface) t')(d:P.underlying t=some (.interface (P.methodsAt t)))(f:aO E x=some (.pv MJ)):cL P N o E H (.pv (.bool false)) H :=.of_run fun a w I ι _ b=>⟨.bool _,by
  have c:=(aI b f).sat_inv;have g:a.eval (.const _)=.nilIface:=rfl;simp[execOp,e,c,g,eqGuard,Sem.run_bind,Sem.run_pure,Result.andThen_ok,run_neq_nil_nil _ _ d,Bool.or_true,if_true,Bool.not_true,Bool.false_eq_true,if_false],.pv (.bool _)⟩
theorem HU(e:o.op=.binOp .neq t x (.const .nilIface) t')(d:P.underlying t=some (.interface (P.methodsAt t)))(f:aO E x=some (.pv zq)):cL P N o E H (.pv (.bool true)) H :=.of_run fun a w I ι _ b=>⟨.bool _,by
  obtain ⟨q,p,c⟩:=(aI b f).sat_inv;have g:a.eval (.const _)=.nilIface:=rfl;simp only[execOp,e,c,g,eqGuard,Sem.run_bind,Sem.run_pure,Result.andThen_ok,run_neq_held_nil _ _ _ _ d];rfl,.pv (.bool _)⟩
end
end
section
section
variable{P:Program}{N:Nat}{o:Oper}{E:cY}{H:aF}{t t' it:TypeId}{x:Operand}
theorem VRel.ifc_inv{w}{I}{ι}{v}{p}(h:VRel w I ι H v (.pv (.ifc t p))):∃u,v=.iface t u/\PRep w I u p:=by
 cases h with
 |pv h=>cases h with
  |ifc _ u _ h=>simp_all
theorem VRel.ifa_inv{w}{I}{ι}{v}{ps}(h:VRel w I ι H v (.pv (.ifa t ps))):∃cs,v=.iface t (.agg cs)/\cs.size=ps.length/\∀(k:Nat) (c) (p),cs[k]?=some c->ps[k]?=some p->PRep w I c p:=by
 cases h with
 |pv h=>cases h with
  |ifa _ cs _ hl h=>grind
theorem gA{p}(b:o.op=.makeInterface t x)(e:P.concrete t=true)(c:aO E x=some (.pv p)):cL P N o E H (.pv (.ifc t p)) H :=.of_run fun a w I ι _ d=>⟨.iface t _,by simp[execOp,b,run_makeInterface _ _ _ e],.pv (.ifc _ _ _ (aI d c).pv_inv)⟩
theorem J3{ps}(f:o.op=.makeInterface t x)(e:P.concrete t=true)(g:aO E x=some (.agg (ps.map .pv))):cL P N o E H (.pv (.ifa t ps)) H :=.of_run fun a w I ι _ i=>⟨.iface t (a.eval x),by simp[execOp,f,run_makeInterface _ _ _ e],by
  have h:=aI i g;generalize a.eval x=c at h;cases h with
  | @agg vs _ hl h1 d =>
   refine .pv (.ifa _ _ _ F_ fun k c p b hp=>?_);exact(d k c (.pv p) b F_).pv_inv⟩
theorem jz{d}{u}(w)(hd:P.underlying t=some d)(hni:∀c,d≠.interface c):(Instr.typeAssert (.iface t' u) it t true).run P w=if t'=t then .ok (.tuple #[u,.bool true]) w else((do pure (.tuple #[<-zeroValue t,.bool false])):Sem _).run P w:=by
 unfold Instr.typeAssert;rw[Sem.run_bind,run_underlying hd]
 simp_all
theorem E9(h:P.concrete t=true):∃d,P.underlying t=some d/\∀a,d≠.interface a:=by
 unfold Program.concrete at h;cases hd:P.underlying t with
 |none=>simp_all
 |some d =>
  grind
theorem xO{p}(h:o.op=.typeAssert x it t true)(j:P.concrete t=true)(k:aO E x=some (.pv (.ifc t p))):cL P N o E H (.tup [.pv p,.pv (.bool true)]) H:=by
 obtain ⟨d,m,b⟩:=E9 j;refine .of_run fun a w I ι _ l=>?_;obtain ⟨u,f,g⟩:=(aI l k).ifc_inv;refine⟨.tuple #[u,.bool true],?_,?_⟩
 ·simp only[execOp,h,f];rw[Sem.run_bind,jz w m b,b6 rfl];rfl
 exact .tup Z (fun i v a e c=>by
  match i with
  |0=>cases e;cases c;exact .pv g
  |1=>cases e;cases c;exact .pv (.bool _)
  |i+2=>simp at c)
theorem RN{ps:List PV}(B:o.op=.typeAssert x it t true)(z:P.concrete t=true)(y:aO E x=some (.pv (.ifa t ps))):cL P N o E H (.tup [.agg (ps.map .pv),.pv (.bool true)]) H:=by
 obtain ⟨d,s,j⟩:=E9 z;refine .of_run fun a w I ι _ d_=>?_;obtain ⟨u,r,hl,A⟩:=(aI d_ y).ifa_inv;refine⟨.tuple #[.agg u,.bool true],?_,?_⟩
 ·simp only[execOp,B,r];rw[Sem.run_bind,jz w s j,b6 rfl];rfl
 have n:∀(k:Nat) (c:Value),u[k]?=some c->∃p,ps[k]?=some p/\PRep w I c p:=fun k c e=>by
  have f:k<ps.length:=G_
  exact⟨ps[k],m8 f,A k c _ e (m8 f)⟩
 exact .tup Z (fun i v a m h=>by
  match i with
  |0 =>
   cases m;cases h;refine .agg F_ (fun k c e=>?_) (fun k c b e q=>?_)
   ·obtain ⟨p,_,g⟩:=n k c e;exact g.oneCell
   obtain ⟨p,l,g⟩:=n k c e;rw[r6,l]at q;cases q;exact .pv g
  |1=>cases m;cases h;exact .pv (.bool _)
  |i+2=>simp at h)
theorem Wd{cells}(l:o.op=.typeAssert x it t true)(h:P.concrete t=true)(j:eO P t cells)(b:t'≠t)
  (m:∀(a) (w) (I) (ι),lH w I ι H E a->∃u,a.eval x=.iface t' u):cL P N o E H (.tup [.any,.pv (.bool false)]) H:=by
 obtain ⟨d,p,e⟩:=E9 h;obtain ⟨z,v0,f,_,_⟩:=j;refine .of_run fun a w I ι _ n=>?_;obtain ⟨u,k⟩:=m a w I _ n;refine⟨.tuple #[z,.bool false],?_,?_⟩
 ·simp only[execOp,l,k];rw[Sem.run_bind,jz w p e,a8 b,Sem.run_bind,f w];rfl
 exact .tup Z (fun i v a g c=>by
  match i with
  |0=>cases c;exact .any _
  |1=>cases g;cases c;exact .pv (.bool _)
  |i+2=>simp at c)
theorem mS{cells}{p}(f:o.op=.typeAssert x it t true)(c:P.concrete t=true)(d:eO P t cells)(hne:Nat.beq t' t=false)(g:aO E x=some (.pv (.ifc t' p))):cL P N o E H (.tup [.any,.pv (.bool false)]) H :=Wd f c d (fun e=>by simp_all) (fun a w I ι b=>let ⟨u,e,_⟩:=(aI b g).ifc_inv;⟨u,e⟩)
theorem CL{cells}{ps}(f:o.op=.typeAssert x it t true)(c:P.concrete t=true)(d:eO P t cells)(hne:Nat.beq t' t=false)(g:aO E x=some (.pv (.ifa t' ps))):cL P N o E H (.tup [.any,.pv (.bool false)]) H :=Wd f c d (fun e=>by simp_all) (fun a w I ι b=>let ⟨u,e,_⟩:=(aI b g).ifa_inv;⟨_,e⟩)
end
end
section
section
variable{P:Program}{N:Nat}{o:Oper}{E:cY}{H:aF}{T T' t:TypeId}{x y:Operand}
theorem LS{e f:TypeId}{ty:TypeId}{a:Array Value}(w:World)(d:P.underlying T=some (.slice e))(c:P.underlying T'=some (.slice f)):(Builtin.append_ #[T,T'] ty a).run P w=(Builtin.append_ #[T,T] ty a).run P w:=by
 unfold Builtin.append_;cases h0:a[0]? with
 |none=>rfl
 | some s =>
  cases h1:a[1]? with
  |none=>rfl
  |some u =>
   cases s<;>simp[Sem.run_bind,run_underlying d,run_underlying c]
theorem MD{e d}{v}{H2}(g:o.op=.call {callee:=.builtin .append,args:=#[x,y],argTypes:=#[T,T']})(i:P.underlying T=some (.slice e))(c:P.underlying T'=some (.slice d))
  (h:cL P N {o with op:=.call {callee:=.builtin .append,args:=#[x,y],argTypes:=#[T,T]}} E H v H2):cL P N o E H v H2:=by
 intro a w I ι j m k l K Q f;have b:=h a w I _ j m k l K Q f;unfold Oper.wpW execOp at b |-;simp[g,resolve,invoke,builtin,Sem.run_bind,Sem.run_pure,Result.andThen_ok,List.map_toArray,List.map_cons,List.map_nil,LS w i c]at b |-;exact b
theorem UP{e z}{id g n m k sz bytes:Nat}{ob}{ps}{rows'}(q:o.op=.call {callee:=.builtin .append,args:=#[x,y],argTypes:=#[T,T']})(i:P.underlying T'=some (.slice z))(hS:fF P T e sz)(d:EI P e sz bytes)
  (j:aO E x=some (.osl id g 0 n)) (u:H.get id=some ob) (w:ob.g=g) (c:ob.sz=sz) (f:ob.ty=e) (s:ob.rows.length=n)
  (l:aO E y=some (.pv (.sl ps))) (h:∀r∈ps,r.length=sz) (p:ps.length=m) (a:(n+m)*bytes<=140737488355328) (v:n+m=k) (b:ob.rows++ps.map (·.map AV.pv)=rows') :
  cL P N o E H (.osl id (g+1) 0 k) ((id,⟨g+1,sz,e,rows'⟩)::H) :=
 MD q hS.1 i (cA Z hS d j u w c f s l h p a v b)
end
end
end Go.Abs
namespace Go.Proofs.YtopnleflllkbmaaGreatDoor
open Go.Proofs.Tryz
open Go.Abs
variable{l:List _}
inductive IV where
 |n (x:Int)
 |t (s:B_)
 |b (x:Bool)
 |l (ts:List B_)
 |z (i:Int) (a b:List B_)
 |p (ps:List (Int×Int))
def jW(q:Int×Int):List PV:=[.int .i64 q.1,.int .i64 q.2]
def xK(l:List (Int×Int)):PV:=.sl (l.map jW)
def aDz:IV->PV
 |.n x=>.ifc 3 (.int .i64 x)
 |.t s=>.ifc 9 (.str s)
 |.b x=>.ifc 4 (.bool x)
 |.l ts=>.ifc 22 (aK ts)
 |.z i a b=>.ifa 48 [.int .i64 i,aK a,aK b]
 |.p ps=>.ifc 49 (xK ps)
def AI(v:IV):List PV:=[aDz v]
def fI:IV->List B_
 |.n x=>[aQ x]
 |.t s=>[s]
 |.b x=>[aQ (if x then 1 else 0)]
 |.l ts=>aQ (ts.length:Int)::ts
 |.z i a b=>aQ i::((aQ (a.length:Int)::a)++(aQ (b.length:Int)::b))
 |.p ps=>aQ (ps.length:Int)::ps.flatMap fun q=>[aQ q.1,aQ q.2]
def gI:IV->Nat
 |.n _=>1
 |.t _=>1
 |.b _=>1
 |.l _=>2
 |.z _ _ _=>5
 |.p ps=>1+2*ps.length
def Qm:IV->Nat
 |.n _=>0
 |.t _=>0
 |.b _=>1
 |.l _=>1
 |.z _ _ _=>2
 |.p _=>1
def qA(x:Int):Prop := -9223372036854775808<=x/\x<=9223372036854775807
def okI:IV->Prop
 |.n x=>qA x
 |.t _=>True
 |.b _=>True
 |.l ts=>ts.length<2^40
 |.z i a b=>qA i/\a.length<2^40/\b.length<2^40
 |.p ps=>ps.length<2^40/\∀q∈ps,qA q.1/\qA q.2
def yR(l:List IV):List B_:=l.flatMap fI
def ur(l:List IV):Nat:=(l.map gI).sum
theorem Kl{k}{v}(h:l[k]?=some v):yR (l.take (k+1))=yR (l.take k)++fI v:=by rw[List.take_add_one,h];simp[yR]
theorem Ke{k}{v}(h:l[k]?=some v):ur (l.take (k+1))=ur (l.take k)+gI v:=by rw[ur,List.take_add_one,h,List.map_append,List.sum_append];rfl
theorem aA5(l)(k):(yR (l.take k)).length<=(yR l).length:=by
 have h:yR l=yR (l.take k)++yR (l.drop k):=by rw[yR,yR,yR,<-List.flatMap_append,List.take_append_drop]
 rw[h,j9];omega
def fH(g:Nat)(L:List B_):aF:=[(971,⟨g,1,9,bZ L⟩),(970,bx 1 131 [.osl 971 g 0 L.length])]
theorem Km(g)(L)(s):fH (g+1) (L++[s])=[(971,⟨g+1,1,9,bZ (L++[s])⟩),(970,bx 1 131 [.osl 971 (g+1) 0 (L.length+1)])]:=by simp[fH]
theorem dS{P:Program}{t}{d}(h:P.underlying t=some d)(hd:(match d with|.interface _=>false|_=>true)=true):P.concrete t=true:=by
 unfold Program.concrete
 grind
theorem SW(l:List _):∀r∈l.map AI,r.length=1:=fun r a=>by
 obtain ⟨t,_,rfl⟩:=List.mem_map.1 a;rfl
def Nd(r:Nat):Prop:=∀(l:List IV),(∀v∈l,Qm v<r/\okI v)->∀(g:Nat) (L:List B_),l.length<2^40->L.length+(yR l).length<2^40 ->
 aS Tryz.prog 121 [.ref 970 0 0 0,.pv (.sl (l.map AI))] (fH g L) (fun r H'=>r=.tup []/\H'=fH (g+ur l) (L++yR l))
def O0(ps:List (Int×Int)):List B_:=ps.flatMap fun q=>[aQ q.1,aQ q.2]
theorem OZ:∀ps,(O0 ps).length=2*ps.length
 | []=>rfl
 |q::r=>by
  have ih:=OZ r;rw[show O0 _=aQ _::aQ _::O0 r from Z,j8,j8,j8];omega
theorem Gy{ps:List _}{j}{q}(h:ps[j]?=some q):O0 (ps.take (j+1))=O0 (ps.take j)++yR [.n q.1,.n q.2]:=by rw[O0,List.take_add_one,h,List.flatMap_append];rfl
theorem gu{args}{g d}{L c}{H}(h:aS Tryz.prog 121 args (fH g L) (fun r H'=>r=.tup []/\H'=fH d c))(e:HN H (fH g L))(f:∀a∈args,Clo (fH g L) a):
  aS Tryz.prog 121 args H (fun r H'=>r=.tup []/\H'=fH d c++H):=aS.frame h (HN.sub e) (dD.ofL ⟨(aV _ _),(by(simp;rfl)),T_⟩) f (fun id h=>.inl (tv h))
theorem gU(A b):bZ A++(b.map S_).map (·.map AV.pv)=bZ (A++b):=by rw[<-eC,bZ,bZ,bZ,List.map_append]
theorem Pf(a:List _):∀r∈a.map S_,r.length=1:=fun r b=>by
 obtain ⟨t,_,rfl⟩:=List.mem_map.1 b;rfl
theorem Ui(g)(A B):fH g (A++B)=[(971,⟨g,1,9,bZ (A++B)⟩),(970,bx 1 131 [.osl 971 g 0 (A.length+B.length)])]:=by simp[fH]
theorem Mq(r:Nat)(ih:∀q,q<r->Nd q):Nd r:=by
 intro l hl g L hll hLl;have hml:(l.map AI).length=l.length:=h_ _;have one:∀(y:Int),qA y->1<r->∀(g':Nat) (f_:List B_),f_.length+1<2^40->aS Tryz.prog 121 [.ref 970 0 0 0,.pv (.sl [AI (.n y)])] (fH g' f_) (fun r H'=>r=.tup []/\H'=fH (g'+1) (f_++[aQ y])):=fun y o_ h1 g' f_ hs =>
  ih 1 h1 [.n y] (fun v d_=>by rw[q_]at d_;subst d_;exact⟨by simp[Qm],o_⟩) g' f_ H_ hs
 refine Bd func121 Z ntmps121<|C V<|Y (fV underlying200)<|O V<|aD<|bC (σ:=Nat) (fun k=>([(0,.ref 970 0 0 0),(14,.pv (.sl (l.map AI))),(15,iv ((l.map AI).length:Int)),(16,iv (k:Int))],fH (g+ur (l.take k)) (L++yR (l.take k)))) (fun k=>k<=l.length) (fun k=>l.length - k) 0 (l6 _) ?_ ?_
 ·simp only[yR,ur,List.take_zero,List.flatMap_nil,List.map_nil,List.sum_nil,Nat.add_zero,List.append_nil];exact(cJ.wk (Ea<|Eb<|Eb<|Eb<|T_) (Hc (aV _ _)<|Ha<|T_) ⟨Z,Z,T_⟩)
 intro k hk;refine Sz cM<|S<|Cn ?_ ?_<;>intro hc1
 ·have hlt:k<l.length:=by have:=b9 hc1;omega
  obtain ⟨v,d_⟩:=aU hlt;obtain ⟨H,e_⟩:=hl v (m7 d_);have E:=cC (f:=AI) d_;have hfn:=Kl d_;have hgn:=Ke d_;have y_:=aA5 l (k+1);rw[hfn]at y_;obtain ⟨L1,hL1⟩:∃L1,L1=L++yR (l.take k):=X_;obtain ⟨g1,hg1⟩:∃g1,g1=g+ur (l.take k):=X_;have D:L++yR (l.take (k+1))=L1++fI v:=by simp_all
  have A:g+ur (l.take (k+1))=g1+gI v:=by omega
  have hsz:L1.length+(fI v).length<2^40:=by
   grind
  have hwk:IntKind.i64.wrap ((k:Int)+1)=((k+1:Nat):Int):=by rw[qD (by omega) (by omega)];omega
  rw[<-hL1,<-hg1];clear hfn hgn y_;cases v with
  |n x =>
   have hx:qA x:=e_;have hsz:L1.length+1<2^40:=hsz;refine aA<|S<|aD<|C (by exact bU Z yZ Z Z (by omega) (by rfl) E Z)<|Y (fY vM (hi:=E))<|O U<|Sz V<|aD<|C (by exact xO Z (dS underlying3 Z) Z)<|Y dH<|O dH<|Cn ?_ ?_<;>intro hc2
   ·refine Sz U<|aN a7<|Cr [970] (fun _ _=>V)<|Cr [970] (fun _ _=>V)<|Cr [970] (fun A_ I=>by exact dK Z Z ((I _ Z).trans Z) Z)<|Cr [970] (fun _ h=>lh DP h)<|Cr [] (fun _ _=>V)<|Cr [] (fun A_ I=>by exact bF Z Z lM Z (pL x hx.1 hx.2 _))<|Cr [] (fun A_ I=>by exact aL [[.str (aQ x)]] Z QJ Z Z Z Z Z (by simp_all))<|Cp [971] (fun A_ I=>by exact cA (ps:=[[.str (aQ x)]]) Z QJ xE Z ((I _ Z).trans Z) Z Z Z (eH _) Z (by simp_all) (m:=1) Z (by omega) Z (gO L1 (aQ x)))<|Cr [970] (fun A_ I=>by exact dK Z Z ((I _ Z).trans Z) Z)<|Cp [970] (fun _ h=>sa IY h) ?_;refine bJ<|Kr<|Rd (ka hwk)<|O V ?_;refine⟨k+1,by omega,by omega,?_⟩;dsimp only;rw[D,A,show fI (.n x)=[aQ x]from Z,show gI (.n x)=1 from Z,Km];exact(cJ.wk (Ea<|Eb<|Eb<|Eb<|T_) (Hc (aV _ _)<|Ha<|T_) ⟨Z,Z,T_⟩)
   cases hc2
  |t s =>
   have hsz:L1.length+1<2^40:=hsz;refine aA<|S<|aD<|C (by exact bU Z yZ Z Z (by omega) (by rfl) E Z)<|Y (fY vM (hi:=E))<|O U<|Sz V<|aD<|C (by exact mS Z (dS underlying3 Z) Xg Z Z)<|Y dH<|O dH<|Cn ?_ ?_<;>intro hc3
   ·cases hc3
   refine C (by exact xO Z (dS U_ Z) Z)<|Y dH<|O dH<|Cn ?_ ?_<;>intro hc4
   ·refine Sz U<|Rd V<|Y V<|Y sC<|Y (bS DP)<|Y V<|Y (by exact aL [[.str s]] Z QJ Z Z Z Z Z (by simp_all))<|Y (by exact cA (ps:=[[.str s]]) Z QJ xE Z Z Z Z Z (eH _) Z (by simp_all) (m:=1) Z (by omega) Z (gO L1 s))<|Y sC<|Uu (iU IY)<|Zz<|Rd (ka hwk)<|O V ?_;refine⟨k+1,by omega,by omega,?_⟩;dsimp only;rw[D,A,show fI (.t s)=[s]from Z,show gI (.t s)=1 from Z,Km];exact(cJ.wk (Ea<|Eb<|Eb<|Eb<|T_) (Hc (aV _ _)<|Ha<|T_) ⟨Z,Z,T_⟩)
   cases hc4
  |b x =>
   have B:1<r:=H;have hsz:L1.length+1<2^40:=hsz;refine aA<|S<|aD<|C (by exact bU Z yZ Z Z (by omega) (by rfl) E Z)<|Y (fY vM (hi:=E))<|O U<|Sz V<|aD<|C (by exact mS Z (dS underlying3 Z) Xg Z Z)<|Y dH<|O dH<|Cn ?_ ?_<;>intro hc5
   ·cases hc5
   refine C (by exact mS Z (dS U_ Z) Oc Z Z)<|Y dH<|O dH<|Cn ?_ ?_<;>intro hc6
   ·cases hc6
   refine C (by exact xO Z (dS eZ Z) Z)<|Y dH<|O dH<|Cn ?_ ?_<;>intro hc7
   ·refine Sz U<|Rd V<|Y (by exact uY (id:=948) Lj Z Z)<|Uu (by exact yV (κ:=Lj) (.inr Z) underlying201 eZ Z Z Z Z Z Z Z Z)<|Y V<|Y V<|Y (by exact HV (κ:=Lj) Z underlying201 eZ Z Z Z Z Z sE (.inl Z))<|Y (by exact gA (p:=.int .i64 (if x then 1 else 0)) Z (dS underlying3 Z) (by cases x<;>rfl))<|Y (by exact aL [AI (.n (if x then 1 else 0))] Z yZ Z Z Z Z Z R_)<|O (by exact bF Z Z vO Z (gu (one (if x then 1 else 0) (by cases x<;>exact⟨by decide,by decide⟩) B g1 L1 hsz) ⟨Z,Z,T_⟩ (by simp;rfl)))<|Rd (ka hwk)<|O V ?_;refine⟨k+1,by omega,by omega,?_⟩;dsimp only;rw[D,A,show fI (.b x)=[aQ (if x then 1 else 0)]from Z,show gI (.b x)=1 from rfl];exact(cJ.wk (Ea<|Eb<|Eb<|Eb<|T_) (Hc (aV _ _)<|Ha<|T_) ⟨Z,Z,T_⟩)
   cases hc7
  |l F =>
   have B:1<r:=H;have hsz:L1.length+(F.length+1)<2^40:=hsz;have G:(F.map S_).length=F.length:=h_ _;obtain ⟨y,o_⟩:∃y,y=((F.map S_).length:Int):=X_;have N:qA y:=⟨by omega,by omega⟩;have K:L1++fI (.l F)=(L1++[aQ y])++F:=by rw[o_,G,List.append_assoc];rfl
   have P:(L1++[aQ y]).length=L1.length+1:=by rw[j9];rfl
   refine aA<|S<|aD<|C (kx yZ E)<|Y (fY vM (hi:=E))<|O U<|Sz V<|aD<|C (by exact mS Z (dS underlying3 Z) Xg Z Z)<|Y dH<|O dH<|Cn ?_ ?_<;>intro hc8
   ·cases hc8
   refine C (by exact mS Z (dS U_ Z) Oc Z Z)<|Y dH<|O dH<|Cn ?_ ?_<;>intro hc9
   ·cases hc9
   refine C (by exact mS Z (dS eZ Z) zo4 Z Z)<|Y dH<|O dH<|Cn ?_ ?_<;>intro hc10
   ·cases hc10
   refine C (by exact xO Z (dS aE Z) Z)<|Y dH<|O dH<|Cn ?_ ?_<;>intro hc11
   ·refine Sz U<|C V<|Y V<|Y (by exact cL.eqJ (kR Z bH.1 Z) (congrArg (fun n:Int=>AV.pv (.int .i64 n)) o_.symm))<|Y (by exact gA (p:=.int .i64 y) Z (dS underlying3 Z) Z)<|Y (by exact aL [AI (.n y)] Z yZ Z Z Z Z Z R_)<|O (kc vO (gu (one y N B g1 L1 (by omega)) ⟨Z,Z,T_⟩ (by simp;rfl)))<|Rd V<|Y V<|Y sC<|Y (bS DP)<|Y V<|Y (by exact UP (ps:=F.map S_) Z aE QJ xE Z Z Z Z Z (eH _) Z (Pf F) (m:=F.length) G (by rw[P];omega) Z (gU (L1++[aQ y]) F))<|Y sC<|Uu (iU IY)<|Zz<|Rd (ka hwk)<|O V ?_;refine⟨k+1,by omega,by omega,?_⟩;dsimp only;rw[D,A,K,show gI (.l F)=2 from Z,Ui (g1+2) (L1++[aQ y]) F];exact(cJ.wk (Ea<|Eb<|Eb<|Eb<|T_) (Hc (aV _ _)<|Ha<|T_) ⟨Z,Z,T_⟩)
   cases hc11
  | z i a b =>
   have h2r:2<r:=H;obtain ⟨hio,hao,hbo⟩:qA i/\a.length<2^40/\b.length<2^40:=e_;have e3:yR [.n i,.l a,.l b]=fI (.z i a b):=by simp[yR,fI]
   have h3:=ih 2 h2r [.n i,.l a,.l b] (by
    intro v d_;simp only[l7,n_,or_false]at d_;rcases d_ with rfl|rfl|rfl
    ·exact⟨by simp[Qm],hio⟩
    ·exact⟨by simp[Qm],hao⟩
    exact⟨by simp[Qm],hbo⟩) g1 L1 (by simp) (by rw[e3];exact hsz)
   rw[e3]at h3;refine aA<|S<|aD<|C (kx yZ E)<|Y (fY vM (hi:=E))<|O U<|Sz V<|aD<|C (by exact CL Z (dS underlying3 Z) Xg Z Z)<|Y dH<|O dH<|Cn ?_ ?_<;>intro hc12
   ·cases hc12
   refine C (by exact CL Z (dS U_ Z) Oc Z Z)<|Y dH<|O dH<|Cn ?_ ?_<;>intro R
   ·cases R
   refine C (by exact CL Z (dS eZ Z) zo4 Z Z)<|Y dH<|O dH<|Cn ?_ ?_<;>intro W
   ·cases W
   refine C (by exact CL Z (dS aE Z) aBN Z Z)<|Y dH<|O dH<|Cn ?_ ?_<;>intro v_
   ·cases v_
   refine C (by exact RN (ps:=[.int .i64 i,aK a,aK b]) Z (dS jQ Z) Z)<|Y dH<|O dH<|Cn ?_ ?_<;>intro hc16
   ·refine C (kl 10 Z3)<|Uu (iU sizeOf48)<|Zz<|Rd V<|Y (bD C2)<|Y (bS M_)<|Y (by exact gA (p:=.int .i64 i) Z (dS underlying3 Z) Z)<|Y (bD vV)<|Y (bS aH)<|Y (by exact gA (p:=aK a) Z (dS aE Z) Z)<|Y (bD vU)<|Y (bS aH)<|Y (by exact gA (p:=aK b) Z (dS aE Z) Z)<|Y (by exact aL [AI (.n i),AI (.l a),AI (.l b)] Z yZ Z Z Z Z Z (by intro r hr;simp only[l7,n_,or_false]at hr;rcases hr with rfl|rfl|rfl<;>rfl))<|O (kc vO (gu h3 ⟨Z,Z,T_⟩ (by simp;rfl)))<|Rd (ka hwk)<|O V ?_;refine⟨k+1,by omega,by omega,?_⟩;dsimp only;rw[D,A];exact(cJ.wk (Ea<|Eb<|Eb<|Eb<|T_) (Hc (aV _ _)<|Ha<|T_) ⟨Z,Z,T_⟩)
   cases hc16
  | p ps =>
   have B:1<r:=H;obtain ⟨hpl,hpo⟩:ps.length<2^40/\∀q∈ps,qA q.1/\qA q.2:=e_;have hfp:∀j,O0 (ps.take j)=(ps.take j).flatMap (fun q=>[aQ q.1,aQ q.2]):=fun _=>rfl;have hsz:L1.length+(1+2*ps.length)<2^40:=by
    have:(fI (.p ps)).length=1+2*ps.length:=by rw[show fI (.p ps)=aQ (ps.length:Int)::O0 ps from Z,j8,OZ];omega
    omega
   have G:(ps.map jW).length=ps.length:=h_ _;obtain ⟨y,o_⟩:∃y,y=((ps.map jW).length:Int):=X_;have N:qA y:=⟨by omega,by omega⟩;have K:L1++fI (.p ps)=(L1++[aQ y])++O0 ps:=by rw[o_,G,List.append_assoc];rfl
   refine aA<|S<|aD<|C (kx yZ E)<|Y (fY vM (hi:=E))<|O U<|Sz V<|aD<|C (by exact mS Z (dS underlying3 Z) Xg Z Z)<|Y dH<|O dH<|Cn ?_ ?_<;>intro Q
   ·cases Q
   refine C (by exact mS Z (dS U_ Z) Oc Z Z)<|Y dH<|O dH<|Cn ?_ ?_<;>intro z_
   ·cases z_
   refine C (by exact mS Z (dS eZ Z) zo4 Z Z)<|Y dH<|O dH<|Cn ?_ ?_<;>intro u_
   ·cases u_
   refine C (by exact mS Z (dS aE Z) aBN Z Z)<|Y dH<|O dH<|Cn ?_ ?_<;>intro hc20
   ·cases hc20
   refine C (by exact mS Z (dS jQ Z) Z3 Z Z)<|Y dH<|O dH<|Cn ?_ ?_<;>intro T
   ·cases T
   refine C (by exact xO Z (dS fW Z) Z)<|Y dH<|O dH<|Cn ?_ ?_<;>intro hc22
   ·refine Sz U<|C V<|Y V<|Y (by exact cL.eqJ (kR Z TU.1 Z) (congrArg (fun n:Int=>AV.pv (.int .i64 n)) o_.symm))<|Y (by exact gA (p:=.int .i64 y) Z (dS underlying3 Z) Z)<|Y (by exact aL [AI (.n y)] Z yZ Z Z Z Z Z R_)<|O (kc vO (gu (one y N B g1 L1 (by omega)) ⟨Z,Z,T_⟩ (by simp;rfl)))<|C V<|Y (fV fW)<|O V<|aD ?_;refine bC (σ:=Nat) (fun j=>([(0,.ref 970 0 0 0),(14,.pv (.sl (l.map AI))),(15,iv ((l.map AI).length:Int)),(16,iv (k:Int)),(95,.pv (xK ps)),(96,iv ((ps.map jW).length:Int)),(97,iv (j:Int))],fH (g1+1+2*j) ((L1++[aQ y])++O0 (ps.take j)))) (fun j=>j<=ps.length) (fun j=>ps.length - j) 0 (l6 _) ?_ ?_
    ·rw[show O0 (ps.take 0)=[]from Z,List.append_nil];exact(cJ.wk (Ea<|Eb<|Eb<|Eb<|Eb<|Eb<|Eb<|T_) (Hc (aV _ _)<|Ha<|T_) ⟨Z,Z,T_⟩)
    intro j hj;refine Sz cM<|S<|Cn ?_ ?_<;>intro c_
    ·have hjl:j<ps.length:=by have:=b9 c_;omega
     obtain ⟨q,hq⟩:=aU hjl;have hqi:=cC (f:=jW) hq;obtain ⟨hq1,hq2⟩:=hpo q (m7 hq);have hnx:=Gy hq;have hln:(L1++[aQ y]++O0 (ps.take j)).length=L1.length+1+2*j:=by rw[j9,j9,OZ,q8];simp;omega
     have h2:=ih 1 B [.n q.1,.n q.2] (by
      intro v d_;simp only[l7,n_,or_false]at d_;rcases d_ with rfl|rfl
      ·exact⟨by simp[Qm],hq1⟩
      exact⟨by simp[Qm],hq2⟩) (g1+1+2*j) (L1++[aQ y]++O0 (ps.take j)) (by simp) (by rw[hln];show L1.length+1+2*j+2<_;omega)
     refine aA<|S<|aD<|C (kx TU hqi)<|Y (by exact eU Z eB sizeOf104 Z hqi (by simp only[Zl,S_];rfl) Z)<|Y (kl 13 Cf)<|Uu (iU sizeOf104)<|Zz<|Rd V<|Y (bD mO)<|Y (bS M_)<|Y (by exact gA (p:=.int .i64 q.1) Z (dS underlying3 Z) Z)<|Y (bD mN)<|Y (bS M_)<|Y (by exact gA (p:=.int .i64 q.2) Z (dS underlying3 Z) Z)<|Y (by exact aL [AI (.n q.1),AI (.n q.2)] Z yZ Z Z Z Z Z (by intro r hr;simp only[l7,n_,or_false]at hr;rcases hr with rfl|rfl<;>rfl))<|O (kc vO (gu h2 ⟨Z,Z,T_⟩ (by simp;rfl)))<|Rd kp ?_;refine O V ?_;refine⟨j+1,by omega,by omega,?_⟩;dsimp only;rw[hnx,<-List.append_assoc,show g1+1+2*(j+1)=g1+1+2*j+ur [.n q.1,.n q.2]from rfl];exact(cJ.wk (Ea<|Eb<|Eb<|Eb<|Eb<|Eb<|Eb<|T_) (Hc (aV _ _)<|Ha<|T_) ⟨Z,Z,T_⟩)
    have hjg:j=ps.length:=by have:=b_ c_;omega
    subst hjg;rw[List.take_length];refine aP<|Rd (ka hwk)<|O V ?_;refine⟨k+1,by omega,by omega,?_⟩;dsimp only;rw[D,A,K,show g1+gI (.p ps)=g1+1+2*ps.length from(Nat.add_assoc _ _ _).symm];exact(cJ.wk (Ea<|Eb<|Eb<|Eb<|T_) (Hc (aV _ _)<|Ha<|T_) ⟨Z,Z,T_⟩)
   cases hc22
 have hge:k=l.length:=by have:=b_ hc1;omega
 subst hge;rw[List.take_length];refine aP ?_;exact oP (.inl Z) Z Fin.refl ⟨Z,Z⟩
theorem aAp(r):Nd r:=Nat.strongRecOn r (fun r a=>Mq r a)
theorem aBl(v):Qm v<3:=by cases v<;>simp[Qm]
theorem pj(l)(b:∀v∈l,okI v)(g)(L)(a:l.length<2^40)(d:L.length+(yR l).length<2^40):
  aS Tryz.prog 121 [.ref 970 0 0 0,.pv (.sl (l.map AI))] (fH g L) (fun r H'=>r=.tup []/\H'=fH (g+ur l) (L++yR l)) :=
 aAp 3 l (fun v c=>⟨aBl v,b v c⟩) g L a d
structure m9 where
 idx:Int
 sig:List B_
 path:List B_
 deriving DecidableEq
structure GPriv where
 name:B_
 reason:B_
 sources:List B_
 trace:List (Int×Int)
 sl:m9
 deriving DecidableEq
structure j7 where
 kind:Int
 author:Int
 number:Int
 clock:Int
 branch:B_
 parents:List B_
 edits:List b8
 target:B_
 yes:Bool
 order:Int
 from':B_
 sl:m9
 priv:GPriv
def lE(s:m9):List PV:=[.int .i64 s.idx,aK s.sig,aK s.path]
def wT(p:GPriv):List PV:=[.str p.name,.str p.reason,aK p.sources,xK p.trace,.int .i64 p.sl.idx,aK p.sl.sig,aK p.sl.path]
def dR(r:j7):List PV:=[.int .i64 r.kind,.int .i64 r.author,.int .i64 r.number,.int .i64 r.clock,.str r.branch,aK r.parents,jZ r.edits,.str r.target,.bool r.yes,.int .i64 r.order,.str r.from',.int .i64 r.sl.idx,aK r.sl.sig,aK r.sl.path,.str r.priv.name,.str r.priv.reason,aK r.priv.sources,xK r.priv.trace,.int .i64 r.priv.sl.idx,aK r.priv.sl.sig,aK r.priv.sl.path]
def df(l:List B_):Prop:=l.length<2^40/\∀t∈l,t.size<2^40
def xQ(s:m9):Prop:=qA s.idx/\df s.sig/\df s.path
def mg(p:GPriv):Prop:=p.name.size<2^40/\p.reason.size<2^40/\df p.sources/\p.trace.length<2^40/\xQ p.sl
def Yt(q:B_->Bool)(l:List B_)(k:Nat):Bool:=match l[k]? with|some s=>q s|none=>false
theorem Rc(q)(l):(List.range l.length).any (Yt q l)=l.any q:=Ao l q
theorem C9(f)(l)(q)(hl:l.length<2^40)(d:∀s∈l,dF Tryz.prog (.pv (.fn f)) [sv s] [] (fun r H'=>r=bv (q s)/\H'=[]))(H):
  RC 28 [.pv (aK l),.pv (.fn f)] (bv (l.any q)) H:=by
 refine Pu ?_;have c:=AK _ l (Yt q l) _ X (fun k s b=>by
  rw[Yt,b];exact d s (m7 b))
 rw[Rc]at c;exact c
theorem aAa(t)(b:t.size<2^40)(H):RC 212 [sv t] (bv (oddJ t)) H:=by refine Pu ?_;exact Bd func212 Z ntmps212<|Sz U<|C V<|Y (bF Z Z LH Z (WI t b _))<|Y iT<|O U<|aC<|Rt<|Qq
theorem M1(l)(c:df l)(H):RC 155 [.pv (aK l)] (bv (l.all l9)) H:=by
 refine Pu ?_;have b:=C9 _ l _ c.1 (fun s d=>dF.fn call212 (aAa s (c.2 s d) _)) [];rw[PJ]at b;refine Bd func155 Z ntmps155<|Sz U<|C V<|Y (bF Z Z LI Z (b))<|Y iT<|O U<|aC<|Rt ?_
 simp_all
def AZ(s:m9):Bool:=decide (s.idx=0)&&decide (((s.sig.map S_).length:Int)+((s.path.map S_).length:Int)=0)
theorem Xi(s:m9)(c:xQ s)(H:aF):RC 210 [av (lE s)] (bv (AZ s)) H:=by
 refine Pu ?_;have h1:(s.sig.map S_).length<2^40:=by rw[h_];exact c.2.1.1
 have h2:(s.path.map S_).length<2^40:=by rw[h_];exact c.2.2.1
 refine Bd func210 Z ntmps210<|C (kb 1)<|O U<|S<|aR (t:=2) (n:=15) (A_:=AZ s) ?_ ?_
 ·all_goals refine Y (bD C2)<|Y (bS M_)<|Y cD<|Dm ?_<;>(refine Sp 6 (fun d=>?_) fun d=>?_)<;>(first|refine M<|M<|M<|M<|M<|M<|M<|M ?_|refine J (bD vV)<|J (bS aH)<|J (fV aE)<|J (bD vU)<|J (bS aH)<|J (fV aE)<|J (eQ Z Z Z (qD X X))<|J cD ?_)<;>refine Y cE<|Da ?_<;>exact Gj (h:=by(rw[AZ,d];rfl))
 exact aC<|Rt<|Qq
def kV(s:m9):Bool:=AZ s||(((((decide (0<=s.idx)&&decide (s.idx<256))&&decide (((s.sig.map S_).length:Int)=18))&&decide (((s.path.map S_).length:Int)<=8))&&s.sig.all l9)&&s.path.all l9)
theorem ez(s:m9)(i:xQ s)(H:aF):RC 151 [av (lE s)] (bv (kV s)) H:=by
 refine Pu ?_;have l:=fun H=>Xi s i H;have j:=fun H=>M1 s.sig i.2.1 H;have k:=fun H=>M1 s.path i.2.2 H;obtain ⟨m,b⟩:∃m,m=AZ s:=X_;rw[<-b]at l;refine Bd func151 Z ntmps151<|C (kb 1)<|O U<|S<|aR (t:=2) (n:=41) (A_:=kV s) ?_ ?_
 ·all_goals refine Y (by exact aW Z gN sizeOf48 Z Z Z Z (by simp only[Zl,S_];rfl) Z) ?_
  all_goals refine Y (kc call210 (l _))<|Dm ?_<;>(refine Sp 5 (fun e=>?_) fun e=>?_)<;>(first|contradiction|refine M<|M<|M<|M ?_|refine J (bD C2)<|J (bS M_)<|J B0<|J V ?_)<;>(first|refine Sp 9 (fun g=>?_) fun g=>?_|refine kI (t:=9) Z ?_)<;>(first|contradiction|refine M ?_|refine Fu ?_|refine J (bD C2) ?_)<;>(first|refine M ?_|refine Fu ?_|refine J (bS M_) ?_)<;>(first|refine M ?_|refine Fu ?_|refine J cM ?_)<;>(first|refine M<|M ?_|refine J cE<|J V ?_)<;>(first|refine Sp 14 (fun c=>?_) fun c=>?_|refine kI (t:=14) Z ?_)<;>(first|contradiction|refine M ?_|refine Fu ?_|refine J (bD vV) ?_)<;>(first|refine M ?_|refine Fu ?_|refine J (bS aH) ?_)<;>(first|refine M ?_|refine Fu ?_|refine J (fV aE) ?_)<;>(first|refine M ?_|refine Fu ?_|refine J cD ?_)<;>(first|refine M<|M ?_|refine J cE<|J V ?_)<;>(first|refine Sp 20 (fun d=>?_) fun d=>?_|refine kI (t:=20) Z ?_)<;>(first|contradiction|refine M ?_|refine Fu ?_|refine J (bD vU) ?_)<;>(first|refine M ?_|refine Fu ?_|refine J (bS aH) ?_)<;>(first|refine M ?_|refine Fu ?_|refine J (fV aE) ?_)<;>(first|refine M ?_|refine Fu ?_|refine J IA ?_)<;>(first|refine M<|M ?_|refine J cE<|J V ?_)<;>(first|refine Sp 26 (fun f=>?_) fun f=>?_|refine kI (t:=26) Z ?_)<;>(first|contradiction|refine M ?_|refine Fu ?_|refine J (bD vV) ?_)<;>(first|refine M ?_|refine Fu ?_|refine J (bS aH) ?_)<;>(first|refine M ?_|refine Fu ?_|refine J (kc Bm (j _)) ?_)<;>(first|refine M<|M ?_|refine J cE<|J V ?_)<;>(first|refine Sp 31 (fun h=>?_) fun h=>?_|refine kI (t:=31) Z ?_)<;>(first|contradiction|refine M ?_|refine Fu ?_|refine J (bD vU) ?_)<;>(first|refine M ?_|refine Fu ?_|refine J (bS aH) ?_)<;>(first|refine M ?_|refine Fu ?_|refine J (kc Bm (k _)) ?_)<;>(first|refine M ?_|refine J cE ?_)<;>refine Y cE<|Da ?_<;>exact Gj (h:=by first|(rw[kV,<-b,e];rfl)|(rw[kV,<-b,e,g];rfl)|(rw[kV,<-b,e,g,c];rfl)|(rw[kV,<-b,e,g,c,d];rfl)|(rw[kV,<-b,e,g,c,d,f];rfl)|(rw[kV,<-b,e,g,c,d,f,h];rfl))
 exact aC<|Rt<|Qq
def uC(p:GPriv):Bool:=decide (p.name++p.reason=a6)&&decide (((p.sources.map S_).length:Int)+((p.trace.map jW).length:Int)=0)
theorem Ul(p:GPriv)(d:mg p)(H:aF):RC 120 [av (wT p)] (bv (uC p)) H:=by
 refine Pu ?_;obtain ⟨a1,a2,e,a4,a5⟩:=d;have h1:(p.sources.map S_).length<2^40:=by rw[h_];exact e.1
 have h2:(p.trace.map jW).length<2^40:=F_
 refine Bd func120 Z ntmps120<|C (kb 1)<|O U<|S<|aR (t:=2) (n:=18) (A_:=uC p) ?_ ?_
 ·all_goals refine Y (bD IJ)<|Y (bS N_)<|Y (bD II)<|Y (bS N_)<|Y kq<|Y wF<|Dm ?_<;>(refine Sp 9 (fun c=>?_) fun c=>?_)<;>(first|refine M<|M<|M<|M<|M<|M<|M<|M ?_|refine J (bD yD)<|J (bS aH)<|J (fV aE)<|J (bD sX)<|J (bS jS)<|J (fV fW)<|J (eQ Z Z Z (qD X X))<|J cD ?_)<;>refine Y cE<|Da ?_<;>exact Gj (h:=by(rw[uC,c];rfl))
 exact aC<|Rt<|Qq
theorem PU(n a b)(H):RC 146 [iv n,iv a,iv b] (bv (decide (a<=n)&&decide (n<=b))) H:=by
 refine Pu<|Bd func146 Z ntmps146<|Sz U<|S<|aR (t:=6) (n:=10) (A_:=decide (a<=n)&&decide (n<=b)) ?_ ?_
 ·all_goals refine Y V<|Y V<|Y B0<|Dm ?_<;>(refine Sp 10 (fun d=>?_) fun d=>?_)<;>(first|refine M<|M<|M ?_|refine J V<|J V<|J IA ?_)<;>refine Y cE<|Da ?_<;>(exact⟨⟨_,Z,G_⟩,Z,Z,Z⟩)
 exact aC<|Rt<|Qq
def KJ(s:B_):Bool:=decide (200<(s.size:Int))
theorem aAJ(s)(H):RC 148 [sv s] (bv (KJ s)) H:=by refine Pu ?_;exact Bd func148 Z ntmps148<|Sz U<|C V<|Y (gM U_)<|Y iY<|O U<|aC<|Rt<|Qq
theorem re(l)(c:l.length<2^40)(H):RC 147 [.pv (aK l)] (bv (!l.any KJ)) H:=by refine Pu ?_;have b:=C9 _ l _ c (fun s hs=>dF.fn call148 (aAJ s _)) [];exact Bd func147 Z ntmps147<|Sz U<|C V<|Y (bF Z Z LI Z (b))<|Y iT<|O U<|aC<|Rt<|Qq
end Go.Proofs.YtopnleflllkbmaaGreatDoor
namespace Go.Abs
section
section
variable{P:Program}{N:Nat}{o:Oper}{E:cY}{H:aF}{f_ T t:TypeId}{x:Operand}{id g n m:Nat}{ob:Ob}
theorem HW(y:o.op=.convert f_ T x)(hS:P.underlying f_=some .unsafePointer)(v:P.underlying T=some (.pointer t))(hi:(P.info? t).map (·.size)=some (n+1))(q:P.cellsOf ob.ty=m+1)(k:aO E x=some (.ref id g 0 0))(s:H.get id=some ob)(i:ob.g=g)(e:ob.rows≠[])(f:ob.sz=m+1)(hl:∀c,liesAt P P.depth ob.ty (c+1) 0 t 1=true):cL P N o E H (.ref id g 0 0) H :=.of_run fun a w I ι l z=>by
  have h:=aI z k;obtain ⟨b,d,r,p,e3,e4⟩:=LU l h s i e;obtain ⟨j,u,h2⟩:=BM hi;refine⟨_,?_,h⟩;simp only[execOp,y,r];have hq:d*ob.sz / P.cellsOf ob.ty=(d - 1)+1:=by rw[q,f,Nat.mul_div_cancel _ X];omega
  rw[Sem.run_bind,Lib.run_from_unsafe w _ hS v u p G_];rfl
end
end
end Go.Abs
namespace Go.Proofs.YtopnleflllkbmaaGreatDoor
open Go.Proofs.Tryz
open Go.Abs
variable{s:B_}{i n:Nat}{r:List UInt8}
theorem aC6(c):liesAt Tryz.prog Tryz.prog.depth 297 (c+1) 0 161 1=true:=by kernel_rfl
def M9(buf:AV)(u:Bool):Ob:=⟨0,2,297,[[gl u,buf]]⟩
def qJ(g:Nat)(l:List UInt8)(u:Bool):aF:=[(2001,M9 (.osl 2002 g 0 l.length) u),(2002,⟨g,1,5,fK l⟩)]
theorem S7{H}{g n}{u}(e:(H.get 2001).isSome=true)(f:(H.get 2002).isSome=true):∀r∈(M9 (.osl 2002 g 0 n) u).rows,∀a∈r,Clo H a:=by
 intro r c a d;simp[M9,q_]at c;subst c;simp[l7,n_,or_false]at d;rcases d with rfl|rfl
 ·cases u<;>simp[gl,e]
 simp[f]
theorem KX(b:AV)(u:Bool)(K:aF):aS Tryz.prog 191 [.ref 2001 0 0 0] ((2001,M9 b u)::K) (fun r H'=>r=.tup []/\H'=(2001,M9 b true)::K):=by
 cases u with
 |false =>
  refine Bd Be Z iw<|C V<|Y sC<|Y (bD zM)<|Y (bS DN)<|O (by exact NO Z gW Z Z)<|Cn ?_ ?_<;>intro c
  ·refine Rd V<|Y V<|Y (by exact G3 (n:=1) Z gW IT (by rfl) Z Z Z (by simp[M9]))<|Y (by exact O3 Z Z func239 Z Z Z Z Z (fi (.ref 2001 0 0 0)))<|Y (by exact HW (n:=1) (m:=1) Z IT gW (by rfl) (by rfl) Z Z Z (by simp[M9]) Z aC6)<|Y sC<|Y (bD zM)<|Uu (ku aAq)<|Zz ?_;exact oP (.inl Z) Z (Fin.get' (H':=(2001,M9 b true)::K) (fun j=>wQ 2001 (M9 b true) (M9 b false) K j)) ⟨Z,Z⟩
  cases c
 |true =>
  refine Bd Be Z iw<|C V<|Y sC<|Y (bD zM)<|Y (bS DN)<|O (by exact NN Z gW Z Z Z Z)<|Cn ?_ ?_<;>intro c
  ·cases c
  refine C V<|Y sC<|Y (bD zM)<|Y (bS DN)<|Y V<|O (by exact J1 (n:=1) Z gW (by rfl) Z Z Z Z)<|Cn ?_ ?_<;>intro d
  ·cases d
  refine aA ?_;exact oP (.inl Z) Z Fin.refl ⟨Z,Z⟩
theorem gi(g)(l m){n}(h:m.length=n):qJ (g+1) (l++m) true=[(2001,M9 (.osl 2002 (g+1) 0 (l.length+n)) true),(2002,⟨g+1,1,5,fK (l++m)⟩)]:=by subst h;simp[qJ]
theorem XM(g:Nat)(l:List UInt8)(u:Bool)(c:UInt8)(hl:l.length<70368744177664):aS Tryz.prog 160 [.ref 2001 0 0 0,.pv (.int .u8 c.toNat)] (qJ g l u) (fun r H'=>r=.pv MJ/\H'=qJ (g+1) (l++[c]) true):=by refine Bd func160 Z ntmps160<|Sz U<|C V<|O (kc TM (KX _ u _))<|C V<|Y V<|Y sC<|Y (bD iE)<|Y (bS eA)<|Y V<|Y (by exact aL [[.int .u8 c.toNat]] Z A5 Z Z Z Z Z (by simp_all))<|Y (by exact cA (ps:=[[.int .u8 c.toNat]]) Z A5 Wr Z Z Z Z Z (rY l) Z (by simp_all) (m:=1) Z (by omega) Z (uF l [c]))<|Y sC<|Y (bD iE)<|Uu (ku qC)<|Zz<|Sz U<|aC ?_;rw[gi g l [c] (n:=1) rfl];refine cR (.inr Z) Z (aJ Z) (Fin.get' (fun j=>KR (by decide) j)) ?_;exact Qq
theorem D1(g:Nat)(l:List UInt8)(u:Bool)(s:B_)(hl:l.length+s.size<70368744177664):aS Tryz.prog 132 [.ref 2001 0 0 0,sv s] (qJ g l u) (fun r H'=>r=.tup [iv (s.size:Int),.pv MJ]/\H'=qJ (g+1) (l++s.data.toList) true):=by refine Bd func132 Z ntmps132<|C U<|O U<|C V<|O (kc TM (KX _ u _))<|C V<|Y V<|Y sC<|Y (bD iE)<|Y (bS eA)<|Y V<|Y (by exact wD Z A5 U_ Wr OJ Z Z Z Z Z (rY l) Z (by omega) Z (uF l s.data.toList))<|Y sC<|Y (bD iE)<|Uu (ku qC)<|Zz<|C V<|Y (gM U_)<|Y U<|O U<|aC ?_;rw[gi g l s.data.toList (n:=s.size) rfl];refine hU (.inr Z) Z (aJ Z) (aJ Z) (Fin.get' (fun j=>KR (by decide) j)) ?_;exact Qq
def gk(g:Nat)(l:List UInt8)(u:Bool):aF:=[(2002,⟨g+1,1,5,[]⟩),(2001,M9 (.osl 2002 g 0 l.length) u)]
theorem Xz(g:Nat)(l:List UInt8)(u:Bool)(hl:l.length<70368744177664):aS Tryz.prog 133 [.ref 2001 0 0 0] (qJ g l u) (fun r H'=>r=sv ⟨l.toArray⟩/\H'=gk g l u):=by
 by_cases e:l=[]
 ·subst e;refine Bd Bg Z iy<|Sz U<|S<|aN a7<|Cq V<|Cq sC<|Cq (bD iE)<|Cq (bS eA)<|Cq (by exact EB Z yM Z Z Z)<|Cq V<|Cq sC<|Cq (bD iE)<|Cq (bS eA)<|Cq (by exact dT Z dB Z Z Z)<|Cq (by exact zD Z Z Z)<|Cq U<|bJ<|Kr<|aC ?_;refine cR (H':=(gk g [] u)) (.inr Z) Z (aJ Z) (Fin.trans (Fin.deadO (id:=2002) (k:=g+1) (ob:=⟨g,1,5,fK []⟩) Z (Nat.lt_succ_self g) Nat.zero_lt_one Z Z) (Fin.get' (fun j=>PC (by decide) j))) ?_;exact Qq
 have c:0<l.length:=List.length_pos_iff.2 e;refine Bd Bg Z iy<|Sz U<|S<|aN a7<|Cr [2001] (fun _ _=>V)<|Cr [2001] (fun d b=>by exact dK Z Z ((b _ Z).trans Z) Z)<|Cr [2001] (fun _ h=>fh iE h)<|Cr [2001] (fun _ h=>lh eA h)<|Cr [2002] (fun d b=>by exact G5 Z Z ((b _ Z).trans Z) Z c)<|Cr [2001] (fun _ _=>V)<|Cr [2001] (fun d b=>by exact dK Z Z ((b _ Z).trans Z) Z)<|Cr [2001] (fun _ h=>fh iE h)<|Cr [2001] (fun _ h=>lh eA h)<|Cr [2002] (fun d b=>by exact dT Z dB Z ((b _ Z).trans Z) Z)<|Cp [2001,2002] (fun d b=>by exact BE (l:=l) rfl yM (by rfl) rfl rfl ((b _ rfl).trans rfl) rfl rfl rfl rfl rfl c (by omega) rfl)<|Cr [] (fun _ _=>U)<|bJ<|Kr<|aC ?_;refine cR (H':=(gk g l u)) (.inr Z) Z (aJ Z) (Fin.get' (fun j=>PC (by decide) j)) ?_;exact Qq
theorem Iz(g)(l)(u):aS Tryz.prog 208 [.ref 2001 0 0 0] (qJ g l u) (fun r H'=>r=iv (l.length)/\H'=qJ g l u):=by refine Bd func208 Z ntmps208<|Sz U<|C V<|Y sC<|Y (bD iE)<|Y (bS eA)<|Y (by exact dT Z dB Z Z Z)<|O U<|aC ?_;refine cR (.inr Z) Z (aJ Z) Fin.refl Qq
def Gv(l:List UInt8)(s:B_):List UInt8:=if l=[]then s.data.toList else l++32::s.data.toList
theorem aBp(g:Nat)(l:List UInt8)(u:Bool)(s:B_)(hl:l.length+s.size<70368744177663):aS Tryz.prog 287 [.ref 2001 0 0 0,sv s] (qJ g l u) (fun r H'=>r=.tup []/\H'=qJ (if l=[]then g+1 else g+2) (Gv l s) true):=by
 have f:=XM g l u 32 X;have e:=Iz g l u;rw[Gv];by_cases d:l=[]
 ·subst d;have c:=D1 g [] u s X;rw[b6 Z,b6 rfl];rw[List.nil_append]at c;refine Bd func287 Z ntmps287<|S<|C V<|Y sC<|Y (bD pN)<|Y (kc AT (e))<|O iY<|Cn ?_ ?_<;>intro b
  ·cases b
  refine aA<|Rd V<|Y sC<|Y (bD pN)<|Y V<|O (kc nB (c)) ?_;exact oP (H':=qJ (g+1) s.data.toList true) (.inl Z) Z Fin.refl ⟨Z,Z⟩
 have hpos:0<l.length:=List.length_pos_iff.2 d;have c:=D1 (g+1) (l++[32]) true s G_;rw[a8 d,a8 d];rw[List.append_assoc]at c;refine Bd func287 Z ntmps287<|S<|C V<|Y sC<|Y (bD pN)<|Y (kc AT (e))<|O iY<|Cn ?_ ?_<;>intro b
 ·refine Rd V<|Y sC<|Y (bD pN)<|O (kc mZ (f))<|Rd V<|Y sC<|Y (bD pN)<|Y V<|O (kc nB (c)) ?_;exact oP (H':=qJ (g+2) (l++32::s.data.toList) true) (.inl Z) Z Fin.refl ⟨Z,Z⟩
 have:=b_ b;omega
theorem Xy{g}{l}{u}{K}:Sub (qJ g l u) (qJ g l u++K):=by intro j o h;rw[gC,h]
theorem aC7{g c}{l b}{u u'}{id}(h:(aF.get (qJ g l u) id).isSome=true):(aF.get (qJ c b u') id).isSome=true:=tv h
theorem aCf{g a}{l b}{u u'}{K}(j):aF.get (qJ g l u++(qJ a b u'++K)) j=aF.get (qJ g l u++K) j:=by exact(KR H_ j).symm
theorem Gu(K)(g)(l)(u)(s)(a:l.length+s.size<70368744177663):aS Tryz.prog 287 [.ref 2001 0 0 0,sv s] (qJ g l u++K) (fun r H'=>r=.tup []/\H'=qJ (if l=[]then g+1 else g+2) (Gv l s) true++K) :=(aS.frame (aBp g l u s a) Xy (dD.ofL ⟨(S7 Z Z),(eJ _ _),T_⟩) (by simp;rfl) (fun id h=>.inl (aC7 h))).congrH fun j=>(aCf j).symm
theorem PA(K)(g)(l)(u):aS Tryz.prog 208 [.ref 2001 0 0 0] (qJ g l u++K) (fun r H'=>r=iv (l.length)/\H'=qJ g l u++K) :=(aS.frame (Iz g l u) Xy (dD.ofL ⟨(S7 Z Z),(eJ _ _),T_⟩) (by simp;rfl) (fun id h=>.inl h)).congrH fun j=>(aCf j).symm
def sT(c:UInt8):Option UInt8:=if c=92 then some 92 else if c=34 then some 34 else if c=110 then some 10 else none
def nX:List UInt8->Option (List UInt8×Nat)
 | []=>none
 | [c]=>if c=34 then some ([],1)else none
 |c::e::r=>if c=34 then some ([],1)else if c=10 then none else if c=92 then(sT e).bind fun b=>(nX r).map fun p=>(b::p.1,p.2+2)else(nX (e::r)).map fun p=>(c::p.1,p.2+1)
def AG(s:B_):B_×Int:=match nX (s.data.toList.drop 1)with
 |some (d,n)=>(⟨d.toArray⟩,((n+1:Nat):Int))
 |none=>(a6,0)
theorem B4{r}:nX (34::r)=some ([],1):=by cases r<;>rfl
theorem LK{r}:nX (10::r)=none:=by cases r<;>rfl
theorem uL{r}{e}:nX (92::e::r)=(sT e).bind fun b=>(nX r).map fun p=>(b::p.1,p.2+2):=rfl
theorem B5{c}{r}(a:c≠34)(d:c≠10)(b:c≠92):nX (c::r)=(nX r).map fun p=>(c::p.1,p.2+1):=by
 cases r with
 |nil =>
  show (if c=34 then some _ else none)=_;rw[a8 a];rfl
 |cons e r=>rw[nX,a8 a,a8 d,a8 b]
def xG(o:Option (List UInt8×Nat))(w:List UInt8)(i:Nat):B_×Int:=match o with
 |some (d,n)=>(⟨(w++d).toArray⟩,((i+n:Nat):Int))
 |none=>(a6,0)
theorem A3{o}{w}{b}{i k}:xG (o.map fun p=>(b::p.1,p.2+k)) w i=xG o (w++[b]) (i+k):=by
 cases o with
 |none=>rfl
 |some p=>simp[xG,Option.map_some,List.append_assoc,List.singleton_append];grind
theorem yE{s}{i}(h:i<s.size):s.data.toList.drop i=oV s i::s.data.toList.drop (i+1):=by
 have a:i<s.data.toList.length:=F_
 rw[List.drop_eq_getElem_cons a,oV,m8 _];rfl
theorem BS{i}(h:s.size<=i):s.data.toList.drop i=[]:=List.drop_eq_nil_of_le F_
theorem BV{s}(a:n<256){b}(h:decide (bA s i=n)=b):decide (oV s i=UInt8.ofNat n)=b:=by rw[<-h,tB,PX a]
theorem Dh(c):(Lib.indexByte (⟨#[92,34,110]⟩:B_).data.toList ((c.toNat:Int).toNat.toUInt8) = -1/\sT c=none)\/∃k:Nat,k<3/\Lib.indexByte (⟨#[92,34,110]⟩:B_).data.toList ((c.toNat:Int).toNat.toUInt8)=k/\sT c=some (oV ⟨#[92,34,10]⟩ k):=by
 have j:((c.toNat:Int).toNat.toUInt8)=c:=H_
 rw[j];by_cases f:c=92
 ·subst f;exact .inr ⟨0,E_,E_,E_⟩
 by_cases g:c=34
 ·subst g;exact .inr ⟨1,E_,E_,E_⟩
 by_cases e:c=110
 ·subst e;exact .inr ⟨2,E_,E_,E_⟩
 refine .inl ⟨?_,by rw[sT,a8 f,a8 g,a8 e]⟩;have l:(92 == c)=false:=G_
 have i:(34 == c)=false:=G_
 have h:(110 == c)=false:=G_
 simp only[Lib.indexByte,l,i,h];rfl
theorem jh(s:B_)(H:aF)(hs:s.size<2^40):RC 291 [sv s] (.tup [sv (AG s).1,iv (AG s).2]) H:=by
 refine Pu ?_;have K:AG s=xG (nX (s.data.toList.drop 1)) [] 1:=by
  unfold AG xG
  grind
 obtain ⟨c,l⟩:∃c,c=AG s:=X_;rw[<-l]at K |-;refine Bd func291 Z ntmps291<|C U<|O U<|Sz (kl 2001 HG)<|S<|S ?_;refine fZ.ent (E':=[(0,sv s),(4,.ref 2001 0 0 0)]) (H':=yH 0 [] false) (cJ.bld0 ⟨⟨_,Z,.same H_⟩,⟨_,Z,.same (by simp;rfl)⟩,T_⟩) ?_;refine Rg<|O U<|aD<|XC (fun(i g:Nat) (w:List UInt8) (u:Bool)=>([(0,sv s),(4,.ref 2001 0 0 0),(5,iv (i:Int))],yH g w u)) (fun i g w u=>w.length<=i/\i<2199023255552/\c=xG (nX (s.data.toList.drop i)) w i) (fun i g w u=>s.size+1 - i) 1 0 [] false ⟨l6 _,E_,K⟩ ?_ ?_
 ·exact(cJ.wk (Eb<|Ea<|Eb<|T_) (Hc (gD Z Z)<|Hc (eJ _ _)<|T_) T_)
 rintro i g w u ⟨hwl,hib,b⟩;refine S<|C V<|Y V<|Y (gM U_)<|O cM<|Cn ?_ ?_<;>intro m
 ·have B:i<s.size:=I_ m
  have j:=yE B;refine aA<|S<|aD<|C V<|Y V<|Y (ky U_)<|O U<|Sz V<|aD<|C cD<|Da<|Cn ?_ ?_<;>intro A
  ·have f:oV s i=34:=b9 (BV (n:=34) E_ A);have d:c=(⟨w.toArray⟩,((i+1:Nat):Int)):=by rw[b,j,f,B4,xG,List.append_nil]
   rw[d];exact C (kc nA (P7 g w u X))<|Y V<|Y gT<|Y U<|O U<|aC<|Ru<|Qq
  have v:oV s i≠34:=b_ (BV (n:=34) E_ A);refine C cD<|Da<|Cn ?_ ?_<;>intro t
  ·have f:oV s i=10:=b9 (BV (n:=10) E_ t);have d:c=(a6,0):=by rw[b,j,f,LK,xG]
   rw[d];exact C U<|O U<|aC<|Ru<|Qq
  have p:oV s i≠10:=b_ (BV (n:=10) E_ t);refine C cD<|Da<|Cn ?_ ?_<;>intro k
  ·have f:oV s i=92:=b9 (BV (n:=92) E_ k);refine C V<|Y gT<|O U<|Sz U<|S<|C V<|Y V<|Y (gM U_)<|O cM<|Cn ?_ ?_<;>intro x
   ·have o:i+1<s.size:=I_ x
    have y:=yE o;rcases Dh (oV s (i+1))with⟨I,E⟩|⟨q,L,I,E⟩
    ·have d:c=(a6,0):=by rw[b,j,f,y,uL,E];rfl
     have hneg:Lib.indexByte (⟨#[92,34,110]⟩:B_).data.toList (bA s (i+1)).toNat.toUInt8 = -1:=I;rw[d];refine Rd V<|Y V<|Y (ky U_)<|Y (kc AU (rV _ _ _))<|O U<|S<|C V<|O cM<|Cn ?_ ?_<;>intro D
     ·exact C U<|O U<|aC<|Ru<|Qq
     exact absurd (b_ D) F_
    have hpos:Lib.indexByte (⟨#[92,34,110]⟩:B_).data.toList (bA s (i+1)).toNat.toUInt8=(q:Int):=I;have G:q<(⟨#[92,34,10]⟩:B_).size:=L;refine Rd V<|Y V<|Y (ky U_)<|Y (kc AU (rV _ _ _))<|O U<|S<|C V<|O cM<|Cn ?_ ?_<;>intro F
    ·exact absurd (b9 F) G_
    refine aA<|Rd V<|Y (cV Z U_ Z Z F_ F_ G Z)<|O (kc mZ (kK g w u (oV ⟨#[92,34,10]⟩ q) X))<|Rd V<|Y gT<|Da ?_;refine⟨i+1+1,g+1,w++[oV ⟨#[92,34,10]⟩ q],true,⟨G_,X,?_⟩,X,(cJ.wk (Eb<|Ea<|Eb<|T_) (Hc (gD Z Z)<|Hc (eJ _ _)<|T_) T_)⟩;rw[b,j,f,y,uL,E];exact A3
   have e:s.size<=i+1:=J_ x
   have d:c=(a6,0):=by rw[b,j,f,BS e];rfl
   rw[d];refine aA<|S<|C V<|O cM<|Cn ?_ ?_<;>intro d_
   ·exact C U<|O U<|aC<|Ru<|Qq
   cases d_
  have z:oV s i≠92:=b_ (BV (n:=92) E_ k);refine Rd V<|O (kc mZ (kK g w u (oV s i) X))<|Rd V<|Y gT<|Da ?_;refine⟨i+1,g+1,w++[oV s i],true,⟨by rw[j9,List.length_singleton];omega,X,?_⟩,X,(cJ.wk (Eb<|Ea<|Eb<|T_) (Hc (gD Z Z)<|Hc (eJ _ _)<|T_) T_)⟩;rw[b,j,B5 v p z,A3]
 have e:s.size<=i:=J_ m
 have d:c=(a6,0):=by rw[b,BS e];rfl
 rw[d];exact aP<|C U<|O U<|aC<|Ru<|Qq
def mW(s:B_)(i:Nat):Int:=if i<s.size then yG (bA s i)else 0
def tS(s:B_):Ob:=bx 1 9 [sv s]
def tC:Ob:=bx 256 223 vW
def tA:Ob:=bx 1 299 [.clo 289 [.ref 921 0 0 0,.ref 923 0 0 0]]
theorem aAo(s:B_)(i:Nat)(H:aF)(f:H.get 921=some (tS s))(d:H.get 923=some tC)(hi:i<2^62)(hs:s.size<2^62):
  RC 289 [iv (i:Int),.ref 921 0 0 0,.ref 923 0 0 0] (.pv (.int .u8 (mW s i))) H:=by
 refine Bd func289 Z ntmps289<|Sz U<|S<|C V<|Y (aX Z N_ Z f Z Z Z)<|Y (gM U_)<|O B0<|Cn ?_ ?_<;>intro b
 ·have e:mW s i=0:=by rw[mW,a8 (I_ b)]
  rw[e];refine Sz U<|aC<|cR (H':=H) (.inr Z) Z (aJ Z) Fin.refl Qq
 have c:i<s.size:=J_ b
 have e:mW s i=yG (bA s i):=by rw[mW,b6 c]
 rw[e];refine aA<|C (aX Z N_ Z f Z Z Z)<|Y V<|Y (ky U_)<|Y (eK (k2:=(bA s i).toNat) Z gE cK Z d Z Z (M6 s i) Z (BU s i) X)<|Y (aX Z uI Z d Z Z (Wv s i))<|O U<|aC<|cR (H':=H) (.inr Z) Z (aJ Z) Fin.refl Qq
theorem ak(s:B_)(H:aF)(d:H.get 921=none)(b:H.get 923=none)(c:H.get 924=none)(hc:dD H):
  aS Tryz.prog 254 [sv s] H (fun r H'=>r=.clo 290 [.ref 921 0 0 0,.ref 924 0 0 0]/\H'=(924,tA)::(923,tC)::(921,tS s)::H):=by
 refine Bd func254 Z ntmps254<|C (uO (id:=921) Z Z Z Z d)<|O U<|C (kc call211 (W7 _))<|Y (FG (id:=923) Z po Z b)<|Uu (lQ Z AO Z Z Z Z Z Z Z H_)<|Zz<|C (gR Z Z)<|Y (FG (id:=924) Z aBM Z c)<|Uu (iU sizeOf299)<|Zz<|C (gR Z Z)<|O U<|aC ?_;refine cR (H':=((924,tA)::(923,tC)::(921,tS s)::H)) (.inr Z) Z (aJ Z) (Fin.get' (fun j=>by simp only[aF.get];cases Nat.beq 924 j<;>cases Nat.beq 923 j<;>rfl)) ?_;exact Qq
def yS(p:Nat->Bool):Nat->Nat->Nat
 |0,i=>i
 |n+1,i=>if p i then yS p n (i+1)else i
theorem FT(p):∀(n i),i<=yS p n i/\yS p n i<=i+n
 |0,i=>⟨j6 _,j6 _⟩
 |n+1,i=>by
  rw[yS]
  split
  ·have:=FT p n (i+1);omega
  omega
theorem JK(p):∀(n i),∀j,i<=j->j<yS p n i->p j=true
 |0,i,j,b,a=>by rw[yS]at a;omega
 | n+1,i,j,b,a=>by
  rw[yS]at a
  split at a
  ·by_cases e:j=i
   ·simp_all
   exact JK p n _ j (by omega) a
  omega
theorem xA(p):∀(n i),yS p n i<i+n->p (yS p n i)=false
 |0,i,h=>by rw[yS]at h;omega
 |n+1,i,h=>by
  rw[yS]at h |-
  split at h
  ·rename_i a;rw[b6 a];exact xA p n _ (by omega)
  simp_all
theorem zA(p){n i j}(d:i<=j)(h2:j<=i+n)(c:∀k,i<=k->k<j->p k=true)(a:p j=false\/j=i+n):yS p n i=j:=by
 obtain ⟨b,l2⟩:=FT p n i;rcases Nat.lt_trichotomy (yS p n i) j with h|h|h
 ·have:=xA p n i X;rw[c _ b h]at this;cases this
 ·exact h
 have:=JK p n i j d h;rcases a with a|a
 ·rw[a]at this;cases this
 omega
def uX(s:B_)(j:Nat):Bool:=decide (j<s.size)&&!decide (bA s j=10)
def uW(s:B_)(j:Nat):Bool:=decide (mW s j=3)||decide (mW s j=4)||decide (mW s j=5)
def N9(s:B_)(j:Nat):Bool:=decide (mW s j=4)
def F5(s:B_)(i:Nat):Nat:=yS (uX s) (s.size - i) i
def B2(s:B_)(i:Nat):Nat:=yS (uW s) (s.size - i) i
def IM(s:B_)(i:Nat):Nat:=yS (N9 s) (s.size - i) i
structure a_ where
 kind:Int
 text:B_
 pos:Nat
 err:Int
def KV(f:a_):List PV:=[.int .i64 f.kind,.str f.text,.int .i64 f.pos,.int .i64 f.err]
def vB(i:Nat):a_:=⟨0,a6,i,3⟩
def AF(s:B_)(i j:Nat):a_:=⟨1,s.extract i j,i,if 24<j - i then 2 else 0⟩
def HA(s:B_)(i j:Nat):a_:=⟨2,s.extract i j,i,if decide (7<j - i)||decide (mW s j=3)||decide (mW s j=5)then 4 else 0⟩
def ER(s:B_)(i:Nat):a_×Nat:=if 0<(AG (s.extract i s.size)).2 then(⟨3,(AG (s.extract i s.size)).1,i,0⟩,i+(AG (s.extract i s.size)).2.toNat)else(vB i,i)
def eT(s:B_)(i:Nat):Option a_×Nat :=if mW s i=1 then(none,i+1)else if mW s i=2 then(none,F5 s i)else if mW s i=3 then(some (AF s i (B2 s i)),B2 s i)
 else if mW s i=4 then(some (HA s i (IM s i)),IM s i)else if mW s i=7 then(some (ER s i).1,(ER s i).2)
 else if mW s i=6 then(some ⟨4,s.extract i (i+1),i,0⟩,i+1)else(some (vB i),i)
def jV(s:B_):Nat->Nat->List a_
 |0,_=>[]
 |n+1,i=>if i<s.size then(match eT s i with
  |(none,j)=>jV s n j
  |(some f,j)=>f::(if f.err=0 then jV s n j else[]))else[]
theorem PW:∀(l) (p),nX l=some p->p.2<=l.length
 | [],p,h=>by cases h
 | [c],p,h=>by
  rw[nX]at h
  grind
 | c :: e :: r, p, h => by
  rw[nX]at h
  split at h
  ·grind
  split at h
  ·cases h
  split at h
  ·cases f:sT e with
   |none=>simp_all
   | some b =>
    rw[f]at h;cases d:nX r with
    |none=>simp_all
    |some q =>
     rw[d]at h;cases h;have:=PW r q d;show q.2+2<=r.length+1+1;omega
  cases d:nX (e::r)with
  |none=>simp_all
  |some q =>
   rw[d]at h;cases h;have:=PW _ q d
   simp_all
theorem ey(s):0<=(AG s).2/\(AG s).2<=s.size:=by
 have hl:s.data.toList.length=s.size:=rfl;unfold AG;cases b:nX _ with
 |none=>exact⟨Int.le_refl _,Int.natCast_nonneg _⟩
 | some p =>
  have:=PW _ p b;rw[q6]at this;refine⟨Int.natCast_nonneg _,?_⟩;show ((p.2+1):Int)<=_;have c:0<s.size:=by
   cases c:s.data.toList with
   |nil=>rw[c]at b;cases b
   |cons a l=>grind
  omega
theorem XF(s)(i)(h:mW s i≠0):i<s.size:=by
 by_cases e:i<s.size
 ·exact e
 exact absurd (a8 e) h
def tF(f:a_):Ob:=bx 4 266 ((KV f).map .pv)
theorem zU(H)(f):∀r∈(tF f).rows,∀a∈r,Clo H a:=by intro r b a c;simp[tF,bx,q_]at b;subst b;obtain ⟨p,_,rfl⟩:=List.mem_map.1 c;simp
instance(H)(f):W_ (H) ((tF f).rows):=⟨zU H f⟩
theorem SE{α:Type}{l m:List α}{k}{d}(h:l.drop k=d::m):l[k]?=some d/\l.drop (k+1)=m:=by
 refine⟨?_,?_⟩
 ·have:=congrArg (·[0]?) h
  simpa using this
 rw[<-List.drop_drop,h];rfl
theorem OO{j:Nat}{f:a_}(h:eT s i=(some f,j))(b:f.err=0)(hi:i<s.size):i<j/\j<=s.size:=by
 have a:∀(p),p i=true->i<yS p (s.size - i) i/\yS p (s.size - i) i<=s.size:=fun p d=>by
  obtain ⟨l1,l2⟩:=FT p (s.size - i) i;refine⟨?_,X⟩;rcases Nat.lt_or_ge i _ with h|h
  ·exact h
  have c:=xA p (s.size - i) i X;rw[show yS p (s.size - i) i=i by omega,d]at c;cases c
 unfold eT at h
 split at h
 ·cases h
 split at h
 ·cases h
 split at h
 ·rename_i g;cases h;exact a _ (by rw[uW,g];rfl)
 split at h
 ·rename_i e;cases h;exact a _ (by rw[N9,e];rfl)
 split at h
 ·have hul:=ey (s.extract i s.size);have hexs:(s.extract i s.size).size<=s.size - i:=F_
  unfold ER at h
  split at h
  ·cases h;omega
  cases h;cases b
 split at h
 ·cases h;exact⟨Nat.lt_succ_self _,hi⟩
 cases h;cases b
theorem ltD(h:decide (i<(n:Int))=true):i<n:=I_ h
theorem LN(s:B_)(y:AV)(Hs:Nat->aF)(cont:Nat->Bool)(m:Nat)(hs:s.size<2^40)(G:∀k,(Hs k).get 921=some (tS s))(h2:∀k,(Hs k).get 923=some tC)(T:∀k,(Hs k).get 924=some tA)(h6:∀k,(Hs k).get 926=none)(y_:∀k,dD (Hs k))(hf:∀k,Clo (Hs k) y)
  (hm:m<=(jV s (s.size+1) 0).length) (hall:∀k,k+1<m->cont k=true) (f_:m=(jV s (s.size+1) 0).length\/(0<m/\cont (m - 1)=false))
  (hy:∀k d,(jV s (s.size+1) 0)[k]?=some d->k<m->dF Tryz.prog y [.agg ((KV d).map .pv)] ((926,tF d)::Hs k) (fun r H'=>r=bv (cont k)/\H'=(926,tF d)::Hs (k+1))) :
  aS Tryz.prog 290 [y,.ref 921 0 0 0,.ref 924 0 0 0] (Hs 0) (fun r H'=>r=.tup []/\H'=Hs m):=by
 obtain ⟨ds,hds⟩:∃ds,ds=jV s (s.size+1) 0:=X_;rw[<-hds]at hy hm f_;have D:∀(k i:Nat) (f:a_),i<=s.size+1->dF Tryz.prog (.clo 289 [.ref 921 0 0 0,.ref 923 0 0 0]) [iv (i:Int)] ((926,tF f)::Hs k) (fun r H'=>r=.pv (.int .u8 (mW s i))/\H'=(926,tF f)::Hs k):=fun k i f hi =>
  dF.clo call289 (aAo s i ((926,tF f)::Hs k) (G k) (h2 k) X X)
 have hfree:∀(G0:aF) (k i:Nat) (E:cY) (o:Ob),G0=Hs 0->E.get 0=some y->E.get 1=some (.ref 921 0 0 0)->E.get 2=some (.ref 924 0 0 0)->E.get 4=some (iv (i:Int)) ->
   cJ G0 E ((926,o)::Hs k) [(0,y),(1,.ref 921 0 0 0),(2,.ref 924 0 0 0),(4,iv (i:Int))] (Hs k):=fun G0 k i E o hG q0 A_ q2 q4=>by
  subst hG;exact cJ.front (K:=Hs k) [(926,o)] [] ⟨⟨_,q0,Z⟩,hf k,⟨_,A_,Z⟩,(by rw[DA];simp_all),⟨_,q2,Z⟩,(by rw[DA];simp_all),⟨_,q4,Z⟩,H_,T_⟩ G_ H_ H_ (y_ k) G_
 refine Bd func290 Z ntmps290<|Ak<|Sz U<|S<|Al<|aD<|fR (fun(i k:Nat)=>([(0,y),(1,.ref 921 0 0 0),(2,.ref 924 0 0 0),(4,iv (i:Int))],Hs k)) (fun i k=>i<=s.size/\k<=m/\(k=0\/cont (k - 1)=true)/\∃n,s.size - i<n/\ds.drop k=jV s n i) (fun i k=>s.size - i) 0 0 ⟨l6 _,l6 _,.inl Z,s.size+1,Nat.lt_succ_self _,F_⟩ ?_ ?_
 ·exact E0
 rintro i k ⟨hi,hkm,hkc,n,hn,hinv⟩;refine S<|C V<|Y (aX Z N_ Z (G k) Z Z Z)<|Y (gM U_)<|O cM<|Cn ?_ ?_<;>intro hc1
 ·have hlt:i<s.size:=I_ hc1
  obtain ⟨n,rfl⟩:∃n',n=n'+1:=⟨n - 1,X⟩;rw[jV,b6 hlt]at hinv;refine aA<|aD<|C V<|O U<|C V<|Y (oO HF)<|Y (oO aCs)<|Y (FG (id:=926) Z Ce Z (h6 k))<|Uu (iU IX)<|Zz<|eN (fun(a:a_×Nat)=>([(0,y),(1,.ref 921 0 0 0),(2,.ref 924 0 0 0),(4,iv (a.2:Int)),(6,.ref 926 0 0 0)],(926,tF a.1)::Hs k)) (fun a=>eT s i=(some a.1,a.2)) ?_ ?_
  ·refine S ?_;refine fZ.ent (E':=[(0,y),(1,.ref 921 0 0 0),(2,.ref 924 0 0 0),(4,iv (i:Int)),(5,iv (i:Int)),(6,.ref 926 0 0 0)]) (H':=(926,tF (vB i))::Hs k) (cJ.get' ⟨⟨_,Z,Z⟩,⟨_,Z,Z⟩,⟨_,Z,Z⟩,⟨_,Z,Z⟩,⟨_,Z,Z⟩,⟨_,Z,Z⟩,T_⟩ (fun j=>wQ 926 (tF (vB i)) _ (Hs k) j))<|Rd (aX Z NE Z (T k) Z Z Z)<|Y V<|O (cZ Z Z Z (D k i (vB i) X))<|aD<|C cD<|Da<|Cn ?_ ?_<;>intro hc2
   ·have e1:mW s i=1:=b9 hc2;have hst:eT s i=(none,i+1):=by rw[eT,b6 e1]
    rw[hst]at hinv;refine C V<|Y gT<|O U<|aP ?_;exact⟨i+1,k,⟨X,hkm,hkc,n,X,hinv⟩,X,hfree _ _ _ _ _ Z Z Z Z Z⟩
   have n1:mW s i≠1:=b_ hc2;refine C cD<|Da<|Cn ?_ ?_<;>intro hc3
   ·have e2:mW s i=2:=b9 hc3;have hst:eT s i=(none,F5 s i):=by rw[eT,a8 n1,b6 e2]
    rw[hst]at hinv;refine S<|aD<|bC (σ:=Nat) (fun j=>([(0,y),(1,.ref 921 0 0 0),(2,.ref 924 0 0 0),(4,iv (j:Int))],(926,tF (vB i))::Hs k)) (fun j=>i<=j/\j<=s.size/\∀q,i<=q->q<j->uX s q=true) (fun j=>s.size - j) i ⟨j6 _,hi,fun q G h2=>by omega⟩ ?_ ?_
    ·exact E0
    rintro j ⟨B,hj,hpre⟩;refine S<|S<|aR (t:=37) (n:=11) (A_:=uX s j) ?_ ?_
    ·all_goals refine Y V<|Y (aX Z N_ Z (G k) Z Z Z)<|Y (gM U_)<|Y cM<|Dm ?_<;>(refine Sp 32 (fun h32=>?_) fun h32=>?_)<;>(first|contradiction|refine M<|M<|M<|M ?_|refine J (aX Z N_ Z (G k) Z Z Z)<|J V<|J (cV Z U_ Z Z X (l8 _) (ltD h32) Z)<|J AY ?_)<;>refine O cE ?_<;>exact Gj (h:=by first|(simp_all[uX];done)|(simp_all[uX];omega))
    refine Cn ?_ ?_<;>intro d_
    ·have hjs:j<s.size:=by
      have h:=d_;rw[uX,j0,k_]at h;exact h.1
     refine aA<|aD<|Rd V<|Y gT<|Da ?_;exact⟨j+1,⟨X,X,fun q A_ q2=>by
      by_cases e:q=j
      ·subst e;exact d_
      exact hpre q A_ X⟩,X,E0⟩
    have z:F5 s i=j:=zA _ B X hpre (.inl d_);have hgt:i<j:=by
     rcases Nat.lt_or_ge i j with h|h
     ·exact h
     have hji:j=i:=X
     subst hji;rw[uX,decide_eq_true hlt,Bool.true_and,Bool.not_eq_false',k_]at d_;rw[mW,b6 hlt,d_]at e2;exact absurd e2 E_
    rw[z]at hinv;refine aP<|aP ?_;exact⟨j,k,⟨hj,hkm,hkc,n,X,hinv⟩,X,hfree _ _ _ _ _ Z Z Z Z Z⟩
   have n2:mW s i≠2:=b_ hc3;refine C cD<|Da<|Cn ?_ ?_<;>intro hc5
   ·have e3:mW s i=3:=b9 hc5;refine S<|C (aX Z NE Z (T k) Z Z Z)<|Y V<|Y (cZ Z Z Z (D k i (vB i) X))<|O U<|aD<|bC (σ:=Nat) (fun j=>([(0,y),(1,.ref 921 0 0 0),(2,.ref 924 0 0 0),(4,iv (j:Int)),(5,iv (i:Int)),(6,.ref 926 0 0 0),(7,.pv (.int .u8 (mW s j)))],(926,tF (vB i))::Hs k)) (fun j=>i<=j/\j<=s.size/\∀q,i<=q->q<j->uW s q=true) (fun j=>s.size - j) i ⟨j6 _,hi,fun q G h2=>by omega⟩ ?_ ?_
    ·exact E0
    rintro j ⟨B,hj,hpre⟩;refine S<|S<|aR (t:=54) (n:=12) (A_:=uW s j) ?_ ?_
    ·all_goals refine Y V<|Y cD<|Dm ?_<;>(refine Sp 47 (fun h47=>?_) fun h47=>?_)<;>(first|contradiction|refine M<|M ?_|refine J V<|J cD ?_)<;>refine Y cE<|Dm ?_<;>(refine Sp 51 (fun h51=>?_) fun h51=>?_)<;>(first|contradiction|refine M<|M ?_|refine J V<|J cD ?_)<;>refine O cE ?_<;>exact Gj (h:=by(simp only[uW, *];rfl))
    refine Cn ?_ ?_<;>intro hc6
    ·have hjs:j<s.size:=XF s j (fun e=>by rw[uW,e]at hc6;cases hc6);refine aA<|S<|aD<|Rd V<|Y gT<|O U<|Rd (aX Z NE Z (T k) Z Z Z)<|Y V<|Y (cZ Z Z Z (D k (j+1) (vB i) X))<|Da ?_;exact⟨j+1,⟨X,X,fun q A_ q2=>by
      by_cases e:q=j
      ·subst e;exact hc6
      exact hpre q A_ X⟩,X,E0⟩
    have z:B2 s i=j:=zA _ B X hpre (.inl hc6);have hst:eT s i=(some (AF s i j),j):=by rw[eT,a8 n1,a8 n2,b6 e3,z]
    refine aP<|S<|aN a7<|Cr [921] (fun x hH=>by exact aX Z N_ Z ((hH _ Z).trans (G k)) Z Z Z)<|Cr [] (fun _ _=>V)<|Cr [] (fun _ _=>V)<|Cr [] (fun x hH=>by exact bT (l:=i) (h:=j) Z U_ Z Z Z X X Z)<|Cr [926] (fun _ h=>fh oL h)<|Cr [926] (fun _ h=>fh uR h)<|Cp [926] (fun _ h=>su sizeOf3 h)<|Cr [926] (fun _ h=>fh oL h)<|Cr [926] (fun _ h=>fh iD h)<|Cp [926] (fun _ h=>su V_ h)<|Cr [926] (fun _ h=>fh sY h)<|Cp [926] (fun _ h=>su sizeOf25 h) ?_;refine bJ<|Kr<|C V<|Y V<|Y (by exact dP Z Z Z (show IntKind.i64.wrap ((j:Int) - (i:Int))=((j - i:Nat):Int)by rw[IntKind.wrap_i64];omega))<|O iY ?_;refine Cn ?_ ?_<;>intro hc7
    ·have z_:AF s i j=⟨1,s.extract i j,i,2⟩:=by rw[AF,b6 (I_ hc7)]
     rw[z_]at hst;refine Rd (bD sY)<|Uu (ku sizeOf25)<|Zz ?_;exact⟨(⟨1,s.extract i j,i,2⟩,j),hst,cJ.get' ⟨⟨_,Z,Z⟩,⟨_,Z,Z⟩,⟨_,Z,Z⟩,⟨_,Z,Z⟩,⟨_,Z,Z⟩,T_⟩ (fun q=>BQ [_,_,_,_] H_ q)⟩
    have z_:AF s i j=⟨1,s.extract i j,i,0⟩:=by rw[AF,a8 (J_ hc7)]
    rw[z_]at hst;refine aA ?_;exact⟨(⟨1,s.extract i j,i,0⟩,j),hst,cJ.get' ⟨⟨_,Z,Z⟩,⟨_,Z,Z⟩,⟨_,Z,Z⟩,⟨_,Z,Z⟩,⟨_,Z,Z⟩,T_⟩ (fun q=>BQ [_,_,_] H_ q)⟩
   have n3:mW s i≠3:=b_ hc5;refine C cD<|Da<|Cn ?_ ?_<;>intro hc8
   ·have e4:mW s i=4:=b9 hc8;refine S<|aD<|bC (σ:=Nat) (fun j=>([(0,y),(1,.ref 921 0 0 0),(2,.ref 924 0 0 0),(4,iv (j:Int)),(5,iv (i:Int)),(6,.ref 926 0 0 0)],(926,tF (vB i))::Hs k)) (fun j=>i<=j/\j<=s.size/\∀q,i<=q->q<j->N9 s q=true) (fun j=>s.size - j) i ⟨j6 _,hi,fun q G h2=>by omega⟩ ?_ ?_
    ·exact E0
    rintro j ⟨B,hj,hpre⟩;refine S<|C (aX Z NE Z (T k) Z Z Z)<|Y V<|Y (cZ Z Z Z (D k j (vB i) X))<|O cD<|Cn ?_ ?_<;>intro hc9
    ·have hjs:j<s.size:=XF s j (fun e=>by rw[e]at hc9;cases hc9);refine aA<|aD<|Rd V<|Y gT<|Da ?_;exact⟨j+1,⟨X,X,fun q A_ q2=>by
      by_cases e:q=j
      ·subst e;exact hc9
      exact hpre q A_ X⟩,X,E0⟩
    have z:IM s i=j:=zA _ B X hpre (.inl hc9);have hst:eT s i=(some (HA s i j),j):=by rw[eT,a8 n1,a8 n2,a8 n3,b6 e4,z]
    refine aP<|S<|aN a7<|Cr [921] (fun x hH=>by exact aX Z N_ Z ((hH _ Z).trans (G k)) Z Z Z)<|Cr [] (fun _ _=>V)<|Cr [] (fun _ _=>V)<|Cr [] (fun x hH=>by exact bT (l:=i) (h:=j) Z U_ Z Z Z X X Z)<|Cr [926] (fun _ h=>fh oL h)<|Cr [926] (fun _ h=>fh uR h)<|Cp [926] (fun _ h=>su sizeOf3 h)<|Cr [926] (fun _ h=>fh oL h)<|Cr [926] (fun _ h=>fh iD h)<|Cp [926] (fun _ h=>su V_ h)<|Cr [926] (fun _ h=>fh sY h)<|Cp [926] (fun _ h=>su sizeOf25 h) ?_;refine bJ<|Kr<|S ?_;refine fZ.ent (E':=[(0,y),(1,.ref 921 0 0 0),(2,.ref 924 0 0 0),(4,iv (j:Int)),(5,iv (i:Int)),(6,.ref 926 0 0 0)]) (H':=(926,tF ⟨2,s.extract i j,i,0⟩)::Hs k) (cJ.get' ⟨⟨_,Z,Z⟩,⟨_,Z,Z⟩,⟨_,Z,Z⟩,⟨_,Z,Z⟩,⟨_,Z,Z⟩,⟨_,Z,Z⟩,T_⟩ (fun q=>BQ [_,_,_] H_ q)) ?_;have h7:decide (7<((j - i:Nat):Int))=decide (7<j - i):=by rw[Bool.eq_iff_iff,k_,k_];omega
    refine Rd (aX Z NE Z (T k) Z Z Z)<|Y V<|Y (cZ Z Z Z (D k j ⟨2,s.extract i j,i,0⟩ X))<|O U<|S<|aR (t:=105) (n:=14) (A_:=decide (7<((j - i:Nat):Int))||decide (mW s j=3)||decide (mW s j=5)) ?_ ?_
    ·all_goals refine Y V<|Y V<|Y (by exact dP Z Z Z (show IntKind.i64.wrap ((j:Int) - (i:Int))=((j - i:Nat):Int)by rw[IntKind.wrap_i64];omega))<|Y iY<|Dm ?_<;>(refine Sp 98 (fun h98=>?_) fun h98=>?_)<;>(first|contradiction|refine M<|M ?_|refine J V<|J cD ?_)<;>refine Y cE<|Dm ?_<;>(refine Sp 102 (fun h102=>?_) fun h102=>?_)<;>(first|contradiction|refine M<|M ?_|refine J V<|J cD ?_)<;>refine O cE ?_<;>exact Gj (h:=by first|(simp_all[uW];done)|(simp_all;omega))
    refine Cn ?_ ?_<;>intro u_
    ·have z_:HA s i j=⟨2,s.extract i j,i,4⟩:=by rw[HA,<-h7,u_];rfl
     rw[z_]at hst;refine Rd (bD sY)<|Uu (ku sizeOf25)<|Zz ?_;exact⟨(⟨2,s.extract i j,i,4⟩,j),hst,cJ.get' ⟨⟨_,Z,Z⟩,⟨_,Z,Z⟩,⟨_,Z,Z⟩,⟨_,Z,Z⟩,⟨_,Z,Z⟩,T_⟩ (fun q=>BQ [_] H_ q)⟩
    have z_:HA s i j=⟨2,s.extract i j,i,0⟩:=by rw[HA,<-h7,u_];rfl
    rw[z_]at hst;refine aA ?_;exact⟨(⟨2,s.extract i j,i,0⟩,j),hst,E0⟩
   have n4:mW s i≠4:=b_ hc8;refine C cD<|Da<|Cn ?_ ?_<;>intro R
   ·have e7:mW s i=7:=b9 R;have hst:eT s i=(some (ER s i).1,(ER s i).2):=by rw[eT,a8 n1,a8 n2,a8 n3,a8 n4,b6 e7]
    have hexs:(s.extract i s.size).size<=s.size - i:=by rw[ByteArray.size_extract];omega
    have hun:=fun H=>jh (s.extract i s.size) H X;have hul:=ey (s.extract i s.size);obtain ⟨u,hu⟩:∃u,u=AG (s.extract i s.size):=X_;have hgs:ER s i=if 0<u.2 then(⟨3,u.1,i,0⟩,i+u.2.toNat)else(vB i,i):=by rw[ER,<-hu]
    rw[<-hu]at hun hul;obtain ⟨ut,un⟩:=u;simp only at hun hul hgs;refine C (aX Z N_ Z (G k) Z Z Z)<|Y V<|Y (bT (l:=i) (h:=s.size) Z U_ Z Z Z X X Z)<|Y (kc call291 (hun _))<|Y V<|Y dH<|Y dH<|Y U<|O U<|S<|C V<|O iY<|Cn ?_ ?_<;>intro hc12
    ·rw[hgs,b6 (b9 hc12)]at hst;refine Rd V<|Y (bD oL)<|Y (bD uR)<|Uu (ku sizeOf3)<|Y (bD oL)<|Y (bD iD)<|Uu (ku V_)<|Y (bD sY)<|Uu (ku sizeOf25)<|Zz<|Rd V<|Y V<|Y (by exact eQ Z Z Z (show IntKind.i64.wrap ((i:Int)+un)=((i+un.toNat:Nat):Int)by rw[IntKind.wrap_i64];omega))<|Da ?_;exact⟨(⟨3,ut,i,0⟩,i+un.toNat),hst,cJ.get' ⟨⟨_,Z,Z⟩,⟨_,Z,Z⟩,⟨_,Z,Z⟩,⟨_,Z,Z⟩,⟨_,Z,Z⟩,T_⟩ (fun q=>BQ [_,_,_] H_ q)⟩
    have hu0:=b_ hc12;rw[hgs,a8 hu0]at hst;have e0:i+un.toNat=i:=X
    refine aA<|Rd V<|Y V<|Y (by exact eQ Z Z Z (show IntKind.i64.wrap ((i:Int)+un)=((i+un.toNat:Nat):Int)by rw[IntKind.wrap_i64];omega))<|Da ?_;rw[e0];exact⟨(vB i,i),hst,E0⟩
   have n7:mW s i≠7:=b_ R;refine C cD<|Da<|Cn ?_ ?_<;>intro hc13
   ·have e6:mW s i=6:=b9 hc13;have hst:eT s i=(some ⟨4,s.extract i (i+1),i,0⟩,i+1):=by rw[eT,a8 n1,a8 n2,a8 n3,a8 n4,a8 n7,b6 e6]
    refine C V<|Y gT<|O U<|aN a7<|Cr [921] (fun x hH=>by exact aX Z N_ Z ((hH _ Z).trans (G k)) Z Z Z)<|Cr [] (fun _ _=>V)<|Cr [] (fun _ _=>V)<|Cr [] (fun x hH=>by exact bT (l:=i) (h:=(i+1)) Z U_ Z Z Z X X Z)<|Cr [926] (fun _ h=>fh oL h)<|Cr [926] (fun _ h=>fh uR h)<|Cp [926] (fun _ h=>su sizeOf3 h)<|Cr [926] (fun _ h=>fh oL h)<|Cr [926] (fun _ h=>fh iD h)<|Cp [926] (fun _ h=>su V_ h)<|Cr [926] (fun _ h=>fh sY h)<|Cp [926] (fun _ h=>su sizeOf25 h) ?_;refine bJ<|Kr ?_;exact⟨(⟨4,s.extract i (i+1),i,0⟩,i+1),hst,cJ.get' ⟨⟨_,Z,Z⟩,⟨_,Z,Z⟩,⟨_,Z,Z⟩,⟨_,Z,Z⟩,⟨_,Z,Z⟩,T_⟩ (fun q=>BQ [_,_,_] H_ q)⟩
   have n6:mW s i≠6:=b_ hc13;have hst:eT s i=(some (vB i),i):=by rw[eT,a8 n1,a8 n2,a8 n3,a8 n4,a8 n7,a8 n6]
   refine aA ?_;exact⟨(vB i,i),hst,E0⟩
  rintro⟨f,j⟩ hst;rw[hst]at hinv;simp only at hinv hst;obtain ⟨hk1,hk2⟩:=SE hinv;have hkl:=(m_.1 hk1).1;have v_:k<m:=by
   rcases Nat.lt_or_ge k m with h|h
   ·exact h
   have hkem:k=m:=Nat.le_antisymm hkm h;subst hkem;rcases f_ with h|⟨h,h'⟩
   ·omega
   rcases hkc with h2|h2
   ·omega
   rw[h2]at h';cases h'
  have F:ds.length=k+1\/cont k=false->k+1=m:=fun h=>by
   rcases h with h|h
   ·omega
   rcases Nat.lt_or_ge (k+1) m with T|T
   ·rw[hall k T]at h;cases h
   omega
  have hyk:=hy k f hk1 v_;cases hck:cont k with
  |false =>
   have A:=F (.inr hck);rw[hck]at hyk;refine C V<|Y (vC isAgg266 IX)<|Y (cZ Z Z Z (hyk))<|Y iT<|Y V<|M<|M<|M<|O cE<|Cn ?_ ?_<;>intro hc14
   ·refine aC ?_;rw[<-A];exact oP (H':=Hs (k+1)) (.inr Z) Z (Fin.pops' [(926,tF f)] H_ (y_ _) (by simp[h6]) (by simp[h6])) ⟨Z,Z⟩
   cases hc14
  | true =>
   rw[hck]at hyk;refine C V<|Y (vC isAgg266 IX)<|Y (cZ Z Z Z (hyk))<|Y iT<|Y V<|J (bD sY)<|J (bS mY)<|J AY<|O cE<|Cn ?_ ?_<;>intro W
   ·have hne:f.err≠0:=by
     have h:=W
     simpa using h
    rw[a8 hne]at hk2;have A:=F (.inl (by have:=List.drop_eq_nil_iff.1 hk2;omega));refine aC ?_;rw[<-A];exact oP (H':=Hs (k+1)) (.inr Z) Z (Fin.pops' [(926,tF f)] H_ (y_ _) (by simp[h6]) (by simp[h6])) ⟨Z,Z⟩
   have he0:f.err=0:=by
    have h:=W
    simpa using h
   obtain ⟨g1,g2⟩:=OO hst he0 hlt;rw[b6 he0]at hk2;refine aA ?_;exact⟨j,k+1,⟨g2,v_,.inr hck,n,X,hk2⟩,X,hfree _ _ _ _ _ Z Z Z Z Z⟩
 have hge:s.size<=i:=J_ hc1
 have hnil:jV s n i=[]:=by
  cases n with
  |zero=>rfl
  |succ n=>rw[jV,a8 X]
 rw[hnil]at hinv;have hkd:=List.drop_eq_nil_iff.1 hinv;have A:k=m:=X
 refine aP ?_;rw[<-A];exact oP (H':=Hs k) (.inl Z) Z Fin.refl ⟨Z,Z⟩
def K_(f:a_):List PV:=[.int .i64 f.kind,.str f.text,.int .i64 f.pos]
def CD(l:List a_):PV:=.sl (l.map K_)
def lJ(l:List a_):List (List AV):=l.map fun f=>(K_ f).map AV.pv
theorem xH(l):(lJ l).length=l.length:=h_ _
theorem B7(l)(f):lJ l++[(K_ f).map AV.pv]=lJ (l++[f]):=by rw[lJ,lJ,List.map_append];rfl
theorem cS(H)(l):∀r∈lJ l,∀a∈r,Clo H a:=by intro r c a b;obtain ⟨d,_,rfl⟩:=List.mem_map.1 c;obtain ⟨p,_,rfl⟩:=List.mem_map.1 b;simp
instance(H)(l):W_ (H) (lJ l):=⟨cS H l⟩
theorem sJ{H}(e:(H.get 921).isSome=true)(f:(H.get 923).isSome=true):∀r∈tA.rows,∀a∈r,Clo H a:=by intro r c a d;simp[tA,bx,q_]at c;subst c;rw[q_]at d;subst d;simp[e,f]
theorem sI(H)(s):∀r∈(tS s).rows,∀a∈r,Clo H a:=by intro r c a b;simp[tS,bx,q_]at c;subst c;rw[q_]at b;subst b;simp
instance(H)(s):W_ (H) ((tS s).rows):=⟨sI H s⟩
def kD:List a_->List a_->List a_×Int×Int
 |acc,[]=>(acc,0,0)
 |acc,f::r=>if f.err≠0 then([],f.err,f.pos)else if acc.length=5000 then([],2,f.pos)else kD (acc++[f]) r
def fA(s:B_):List a_×Int×Int:=if 20000<s.size then([],2,-1)else kD [] (jV s (s.size+1) 0)
def sR(ds:List a_)(k:Nat):Bool:=match ds[k]? with
 |some f=>decide (f.err=0)&&!decide (k=5000)
 |none=>true
theorem MN{b}:∀ {k},k<=b.length->(∀j,j<k->sR b j=true)->kD [] b=kD (b.take k) (b.drop k)
 |0,_,_=>rfl
 |k+1,c,h=>by
  rw[MN (Nat.le_of_succ_le c) (fun j hj=>h j (by omega))];have d:=List.drop_eq_getElem_cons c;have a:=h k (Nat.lt_succ_self k);rw[sR,m8 c]at a;simp[j0,k_,r8,p_]at a;have htl:(b.take k).length=k:=G_
  rw[d,kD,a8 (fun h=>h a.1),a8 X,List.take_add_one,m8 _];rfl
theorem A4(s):∀(n i),(jV s n i).length<=n
 |0,_=>l6 _
 | n+1,i=>by
  rw[jV]
  split
  ·split
   ·exact Nat.le_succ_of_le (A4 s n _)
   split
   ·exact Nat.succ_le_succ (A4 s n _)
   simp_all
  simp_all
def kL(s:B_)(L:List a_)(a:AV)(e p:Int):aF:=[(905,⟨L.length,3,189,lJ L⟩),(5,bx 1 185 [.osl 905 L.length 0 L.length]),(924,tA),(923,tC),(921,tS s),(4,bx 1 3 [iv p]),(3,bx 1 25 [iv e]),(2,bx 1 185 [a])]
theorem Jh(s)(L)(f)(a)(e p):kL s (L++[f]) a e p=[(905,⟨L.length+1,3,189,lJ (L++[f])⟩),(5,bx 1 185 [.osl 905 (L.length+1) 0 (L.length+1)]),(924,tA),(923,tC),(921,tS s),(4,bx 1 3 [iv p]),(3,bx 1 25 [iv e]),(2,bx 1 185 [a])]:=by simp[kL]
def vD:cY:=[(2,.ref 2 0 0 0),(3,.ref 3 0 0 0),(4,.ref 4 0 0 0),(5,.ref 5 0 0 0)]
theorem J8{a}{k}{f}(h:a[k]?=some f):sR a k=(decide (f.err=0)&&!decide (k=5000)):=by rw[sR,h]
theorem Wo(s:B_)(H:aF)(z_:s.size<2^40):RC 203 [sv s] (.tup [.pv (CD (fA s).1),iv (fA s).2.1,iv (fA s).2.2]) H:=by
 refine Pu<|Bd func203 Z ntmps203<|C (kl 2 Vt)<|Y (kl 3 Xh)<|O (kl 4 Xg)<|S<|C V<|Y (gM U_)<|O iY<|Cn ?_ ?_<;>intro hc1
 ·have e:fA s=([],2,-1):=by rw[fA,b6 (by have:=b9 hc1;omega)]
  rw[e];refine Sr<|Uu (iU nV)<|Uu (iU sizeOf25)<|Uu (iU sizeOf3)<|Zz<|aC<|lX (H':=[]) (.inr Z) Z (iI Z nE Z Z Z Z) (iI Z mY Z Z Z Z) (iI Z M_ Z Z Z Z) (Fin.wk (by simp) T_ T_) Qq
 have f_:¬ 20000<s.size:=by have:=b_ hc1;omega
 obtain ⟨ds,hds⟩:∃ds,ds=jV s (s.size+1) 0:=X_;have y_:fA s=kD [] ds:=by rw[fA,a8 f_,hds]
 refine aA<|Sz (kl 5 Cb)<|S<|C V<|O (kc call254 (ak s _ Z Z Z (dD.ofL ⟨(by simp_all),(by simp_all),(by simp_all),(by simp_all),T_⟩)))<|aD ?_;refine fZ.ent (E':=[(2,.ref 2 0 0 0),(3,.ref 3 0 0 0),(4,.ref 4 0 0 0),(5,.ref 5 0 0 0),(11,.clo 290 [.ref 921 0 0 0,.ref 924 0 0 0])]) (H':=[(905,⟨0,3,189,[]⟩),(5,bx 1 185 [.osl 905 0 0 0]),(924,tA),(923,tC),(921,tS s),(4,bx 1 3 [iv 0]),(3,bx 1 25 [iv 0]),(2,bx 1 185 [.pv (.sl [])])]) ?_ ?_
 ·exact(cJ.nz 905 3 189 Z Z ⟨⟨_,Z,(by exact Nz.same (by(simp;rfl)))⟩,⟨_,Z,(by exact Nz.same (by(simp;rfl)))⟩,⟨_,Z,(by exact Nz.same (by(simp;rfl)))⟩,⟨_,Z,(by exact Nz.same (by(simp;rfl)))⟩,⟨_,Z,(by exact Nz.same (by(simp;exact⟨Z,Z⟩)))⟩,T_⟩ ⟨⟨_,Z,Z,Z,Z,(by exact .inr ⟨_,_,rfl,rfl,(by repeat(first|exact trivial|refine⟨(by exact Nz.own),?_⟩))⟩)⟩,⟨_,Z,Z,Z,Z,(by exact .inl ⟨Z,(by exact sJ Z Z)⟩)⟩,⟨_,Z,Z,Z,Z,(by exact .inl ⟨Z,(by exact jX _)⟩)⟩,⟨_,Z,Z,Z,Z,(by exact .inl ⟨Z,(by exact sI _ _)⟩)⟩,⟨_,Z,Z,Z,Z,(by exact .inl ⟨Z,(by simp_all)⟩)⟩,⟨_,Z,Z,Z,Z,(by exact .inl ⟨Z,(by simp_all)⟩)⟩,⟨_,Z,Z,Z,Z,(by exact .inl ⟨Z,(by simp_all)⟩)⟩,T_⟩ T_)
 have hdl:ds.length<=s.size+1:=by rw[hds];exact A4 s _ _
 obtain ⟨j,hj⟩:∃j,j=yS (sR ds) ds.length 0:=X_;have hj1:j<=ds.length:=by have:=(FT (sR ds) ds.length 0).2;omega
 have hj2:∀k,k<j->sR ds k=true:=fun k hk=>JK (sR ds) ds.length 0 k (l6 _) (by omega);have A_:j<ds.length->sR ds j=false:=fun h=>by have:=xA (sR ds) ds.length 0 (by omega);rwa [<-hj]at this
 have t:=MN hj1 hj2;refine BW (id:=904) (p:=12) vD Z call290 Z Z (by simp[vD];exact⟨Z,Z,Z,Z⟩) ?_;intro x hx1 A u_ v_ W R;have hround:∀(k:Nat) (d:a_),ds[k]?=some d->k<=j ->
   dF Tryz.prog (.yld 904 0) [.agg ((KV d).map .pv)] ((904,LR x vD)::(926,tF d)::kL s (ds.take k) (.pv (.sl [])) 0 0) (fun r H'=>r=bv (sR ds k)/\H'=(if sR ds k then(904,LR x vD)::(926,tF d)::kL s (ds.take (k+1)) (.pv (.sl [])) 0 0 else(904,LR (left x .ret) vD)::(926,tF d)::kL s (ds.take k) (.pv (.sl [])) (if d.err≠0 then d.err else 2) d.pos)):=by
  intro k d u D;have hok:=J8 u;have hkl:k<ds.length:=(m_.1 u).1;have htl:(ds.take k).length=k:=by rw[q8];omega
  have hnx:ds.take (k+1)=ds.take k++[d]:=by rw[List.take_add_one,u];rfl
  refine .inl ⟨904,0,Z,?_⟩;refine LJ [(2,.ref 2 0 0 0),(3,.ref 3 0 0 0),(4,.ref 4 0 0 0),(5,.ref 5 0 0 0),(6,.ref 907 0 0 0)] ((907,tF d)::(926,tF d)::kL s (ds.take k) (.pv (.sl [])) 0 0) hx1 A u_ v_ W R Z Z Z ?_ ?_
  ·refine Rd (kl 907 Ce)<|Uu (iU IX)<|Zz ?_;exact(cJ.wk (Ea<|Ea<|Ea<|Ea<|Ea<|T_) (Hc (nW (by simp[vD];exact⟨Z,Z,Z,Z⟩))<|Hc (zU _ _)<|Hc (zU _ _)<|Hc (cS _ _)<|Ha<|Hc (sJ Z Z)<|Hc (jX _)<|Hc (sI _ _)<|Hb<|Hb<|Hb<|T_) ⟨Z,Z,Z,Z,Z,Z,Z,Z,Z,Z,T_⟩)
  refine aD<|S<|aD<|C (bD sY)<|Y (bS mY)<|Y AY<|Da<|Cn ?_ ?_<;>intro y
  ·have v:d.err≠0:=by have h:=y;rw[r8,p_]at h;exact h
   have h0:sR ds k=false:=by rw[hok,decide_eq_false v];rfl
   rw[h0,a8 (by decide),b6 v];refine S<|aN a7<|Cr [907] (fun _ h=>fh sY h)<|Cr [907] (fun _ h=>lh mY h)<|Cr [907] (fun _ h=>fh oL h)<|Cr [907] (fun _ h=>fh PF h)<|Cr [907] (fun _ h=>lh M_ h)<|Cp [2] (fun _ h=>sa nV h)<|Cp [3] (fun _ h=>sa sizeOf25 h)<|Cp [4] (fun _ h=>sa sizeOf3 h)<|bJ<|Kr<|aC ?_;exact⟨(926,tF d)::kL s (ds.take k) (.pv (.sl [])) d.err d.pos,(cJ.wk T_ (Hc (nW (by simp[vD];exact⟨Z,Z,Z,Z⟩))<|Hc (zU _ _)<|Hc (cS _ _)<|Ha<|Hc (sJ Z Z)<|Hc (jX _)<|Hc (sI _ _)<|Hb<|Hb<|Hb<|T_) ⟨Z,Z,Z,Z,Z,Z,Z,Z,Z,Z,T_⟩),Z,Z⟩
  have v:d.err=0:=by have h:=y;rw[Bool.not_eq_false',k_]at h;exact h
  refine C (bS nE)<|Y (by exact dT Z cP Z Z Z)<|Y cD<|Da<|Cn ?_ ?_<;>intro hc3
  ·have w:k=5000:=by have:=b9 hc3;omega
   have h0:sR ds k=false:=by rw[hok,decide_eq_true v,decide_eq_true w];rfl
   rw[h0,a8 (by decide),a8 (fun h=>h v)];refine S<|aN a7<|Cr [907] (fun _ h=>fh oL h)<|Cr [907] (fun _ h=>fh PF h)<|Cr [907] (fun _ h=>lh M_ h)<|Cp [2] (fun _ h=>sa nV h)<|Cp [3] (fun _ h=>sa sizeOf25 h)<|Cp [4] (fun _ h=>sa sizeOf3 h)<|bJ<|Kr<|aC ?_;exact⟨(926,tF d)::kL s (ds.take k) (.pv (.sl [])) 2 d.pos,(cJ.wk T_ (Hc (nW (by simp[vD];exact⟨Z,Z,Z,Z⟩))<|Hc (zU _ _)<|Hc (cS _ _)<|Ha<|Hc (sJ Z Z)<|Hc (jX _)<|Hc (sI _ _)<|Hb<|Hb<|Hb<|T_) ⟨Z,Z,Z,Z,Z,Z,Z,Z,Z,Z,T_⟩),Z,Z⟩
  have w:¬ k=5000:=by have:=b_ hc3;omega
  have h0:sR ds k=true:=by rw[hok,decide_eq_true v,decide_eq_false w];rfl
  rw[h0,b6 Z,hnx,Jh];refine aA<|Rd (bS nE)<|Y (bD oL)<|Y (vC iR sizeOf189)<|Y (by exact aL [K_ d] Z gY Z Z Z Z Z R_)<|Y (by exact cA (ps:=[K_ d]) Z gY uz Z Z Z Z Z (xH _) Z R_ (m:=1) Z (by omega) Z (B7 (ds.take k) d))<|Uu (iU nV)<|Zz ?_;exact⟨(926,tF d)::[(905,⟨(ds.take k).length+1,3,189,lJ (ds.take k++[d])⟩),(5,bx 1 185 [.osl 905 ((ds.take k).length+1) 0 ((ds.take k).length+1)]),(924,tA),(923,tC),(921,tS s),(4,bx 1 3 [iv 0]),(3,bx 1 25 [iv 0]),(2,bx 1 185 [.pv (.sl [])])],(cJ.wk T_ (Hc (nW (by simp[vD];exact⟨Z,Z,Z,Z⟩))<|Hc (zU _ _)<|Hc (cS _ _)<|Ha<|Hc (sJ Z Z)<|Hc (jX _)<|Hc (sI _ _)<|Hb<|Hb<|Hb<|T_) ⟨Z,Z,Z,Z,Z,Z,Z,Z,Z,Z,T_⟩),Z,Z⟩
 rcases Nat.lt_or_ge j ds.length with q|hge
 ·obtain ⟨f,hf⟩:=aU q;have hbad:=A_ q;have Q:ds.drop j=f::ds.drop (j+1):=by
   rw[List.drop_eq_getElem_cons q];rw[m8 q]at hf;cases hf;rfl
  have d_:fA s=([],(if f.err≠0 then f.err else 2),(f.pos:Int)):=by
   rw[y_,t,Q,kD]
   split
   ·rfl
   rename_i v;have T:f.err=0:=by
    by_cases h:f.err=0
    ·exact h
    exact absurd h v
   rw[J8 hf,decide_eq_true T,Bool.true_and,Bool.not_eq_false',k_]at hbad;rw[b6 (by rw[q8];omega)]
  rw[d_];refine(LN s (.yld 904 0) (fun k=>if k<=j then(904,LR x vD)::kL s (ds.take k) (.pv (.sl [])) 0 0 else(904,LR (left x .ret) vD)::kL s (ds.take j) (.pv (.sl [])) (if f.err≠0 then f.err else 2) f.pos) (sR ds) (j+1) z_ (fun k=>?_) (fun k=>?_) (fun k=>?_) (fun k=>?_) (fun k=>?_) (fun k=>?_) (by rw[<-hds];exact q) (fun k hk=>hj2 k (by omega)) (.inr ⟨Nat.succ_pos _,by rw[Nat.add_sub_cancel];exact hbad⟩) ?_).mono ?_
  ·split<;>rfl
  ·split<;>rfl
  ·split<;>rfl
  ·split<;>rfl
  ·split
   ·exact(dD.ofL ⟨(by exact nW (by simp[vD];exact⟨Z,Z,Z,Z⟩)),(by exact cS _ _),(by(simp;rfl)),(by exact sJ Z Z),(by exact jX _),(by exact sI _ _),(by(simp;done)),(by(simp;done)),(by(simp;done)),T_⟩)
   exact(dD.ofL ⟨(by exact nW (by simp[vD];exact⟨Z,Z,Z,Z⟩)),(by exact cS _ _),(by(simp;rfl)),(by exact sJ Z Z),(by exact jX _),(by exact sI _ _),(by(simp;done)),(by(simp;done)),(by(simp;done)),T_⟩)
  ·split<;>(simp;rfl)
  ·rw[<-hds];intro k d u hk;have hr:=hround k d u (by omega);rw[b6 (by omega)];by_cases D:k=j
   ·subst D;rw[hf]at u;cases u;rw[hbad,a8 (by decide)]at hr;rw[a8 (by omega),hbad];exact dF.congrG hr (fun j=>mT (by decide) j) (fun j=>mT (by decide) j)
   have hok:=hj2 k (by omega);rw[hok,b6 rfl]at hr;rw[b6 (by omega),hok];exact dF.congrG hr (fun j=>mT (by decide) j) (fun j=>mT (by decide) j)
  rintro r H' ⟨rfl,rfl⟩;rw[a8 (by omega)];refine⟨left x .ret,_,Z,by simp[left],Z,fun z=>?_⟩;show NG _ _ _ _ _ _ _;refine lX (H':=[]) (.inr Z) Z (iI Z nE Z Z Z Z) (iI Z mY Z Z Z Z) (iI Z M_ Z Z Z Z) (Fin.wk (by simp) T_ T_) Qq
 have P:j=ds.length:=Nat.le_antisymm hj1 hge;rw[P,List.take_length,List.drop_length]at t;rw[y_,t,kD];refine(LN s (.yld 904 0) (fun k=>(904,LR x vD)::kL s (ds.take k) (.pv (.sl [])) 0 0) (sR ds) ds.length z_ (fun k=>rfl) (fun k=>rfl) (fun k=>rfl) (fun k=>rfl) (fun k=>(dD.ofL ⟨(by exact nW (by simp[vD];exact⟨Z,Z,Z,Z⟩)),(by exact cS _ _),(by(simp;rfl)),(by exact sJ Z Z),(by exact jX _),(by exact sI _ _),(by(simp;done)),(by(simp;done)),(by(simp;done)),T_⟩)) (fun k=>by simp;rfl) (by rw[<-hds];exact j6 _) (fun k hk=>hj2 k (by omega)) (.inl (by rw[<-hds])) ?_).mono ?_
 ·rw[<-hds];intro k d u hk;have hr:=hround k d u (by omega);have hok:=hj2 k (by omega);rw[hok,b6 rfl]at hr;rw[hok];exact dF.congrG hr (fun j=>mT (by decide) j) (fun j=>mT (by decide) j)
 rintro r H' ⟨rfl,rfl⟩;rw[List.take_length];refine⟨x,_,Z,by rw[hx1];decide,Z,fun z=>?_⟩;rw[A];refine C (bS nE)<|Uu (iU nV)<|Uu (iU sizeOf25)<|Uu (iU sizeOf3)<|Zz<|aC ?_;refine lX (H':=[]) (.inr Z) Z (iI Z nE Z Z Z Z) (iI Z mY Z Z Z Z) (iI Z M_ Z Z Z Z) (Fin.fz (r':=.tup [.pv (CD ds),iv 0,iv 0]) (id:=905) (ob:=⟨ds.length,3,189,lJ ds⟩) (ds.map K_) Z (by rw[List.map_map];rfl) (.tup Z (bG (.osl (qs:=ds.map K_) (by rw[r7,List.drop_zero];exact List.take_of_length_le (Nat.le_of_eq (h_ K_)))) (bG (.same (by simp)) (bG (.same (by simp)) kT)))) Z T_ T_) ?_;exact Qq
def D3:List a_->Option (List l_)
 | []=>some []
 |a::_::c::r=>(D3 r).map fun l=>⟨a.text,c.text⟩::l
 |_=>none
def U0(l:List a_)(k:Nat):l_:=⟨((l[3*k]?).map a_.text).getD a6,((l[3*k+2]?).map a_.text).getD a6⟩
def fC(l:List a_)(k:Nat):List l_:=(List.range k).map (U0 l)
theorem E5(l)(k):fC l (k+1)=fC l k++[U0 l k]:=by rw[fC,List.range_succ,List.map_append];rfl
theorem HB(l)(k):(fC l k).length=k:=by rw[fC,h_,List.length_range]
def sH(l:List l_):List (List AV):=l.map fun t=>(bP t).map AV.pv
theorem HK(l):(sH l).length=l.length:=h_ _
theorem HL(l)(t):sH l++[(bP t).map AV.pv]=sH (l++[t]):=by rw[sH,sH,List.map_append];rfl
theorem kP(H)(l):∀r∈sH l,∀a∈r,Clo H a:=by intro r c a b;obtain ⟨d,_,rfl⟩:=List.mem_map.1 c;obtain ⟨p,_,rfl⟩:=List.mem_map.1 b;simp
instance(H)(l):W_ (H) (sH l):=⟨kP H l⟩
theorem H9:∀(r acc),(kD acc r).1.length<=acc.length+r.length
 | [],acc=>j6 _
 |f::r,acc=>by
  rw[kD]
  split
  ·simp_all
  split
  ·simp_all
  have:=H9 r (acc++[f]);rw[j9,List.length_singleton]at this;rw[j8];omega
theorem wL(s)(h:s.size<2^40):(fA s).1.length<549755813888:=by
 unfold fA
 split
 ·decide
 have a:=H9 (jV s (s.size+1) 0) [];have h2:=A4 s (s.size+1) 0;rw[List.length_nil]at a;omega
theorem aT(s:B_):s.data.toList.length=s.size:=rfl
theorem oK{a b:B_}(h:a.data.toList=b.data.toList):a=b:=by cases a with|mk a=>simp_all
theorem gS(s:B_)(i j):(s.extract i j).data.toList=(s.data.toList.drop i).take (j - i):=H_
theorem pW{s}{i}{c}{r}(h:s.data.toList.drop i=c::r):i<s.size/\bA s i=(c.toNat)/\s.data.toList.drop (i+1)=r:=by obtain ⟨a,b⟩:=SE h;refine⟨by rw[<-aT];grind,by rw[bA,a];rfl,b⟩
theorem IR{s}{i}{c}{r}(h:s.data.toList.drop i=c::r):mW s i=yG (c.toNat):=by obtain ⟨a,b,_⟩:=pW h;rw[mW,b6 a,b]
theorem vk{s}{i}(h:s.data.toList.drop i=[]):mW s i=0:=by have:=List.drop_eq_nil_iff.1 h;rw[aT]at this;rw[mW,a8 X]
theorem fB{i}{w r}(h:s.data.toList.drop i=w++r):s.data.toList.drop (i+w.length)=r:=by rw[<-List.drop_drop,h,List.drop_left]
theorem vb{k:Nat}{w r}{c:UInt8}(h:s.data.toList.drop i=w++r)(b:w[k]?=some c):s.data.toList.drop (i+k)=c::((w.drop (k+1))++r):=by
 have a:=(m_.1 b).1;have e:w=w.take k++c::w.drop (k+1):=by
  conv=>lhs;rw[<-List.take_append_drop k w]
  rw[List.drop_eq_getElem_cons a,(m_.1 b).2]
 have f:s.data.toList.drop i=w.take k++(c::w.drop (k+1)++r):=by
  grind
 have d:=fB f;rw[q8,Nat.min_eq_left X]at d;exact d
theorem zN{i}{w r}(h:s.data.toList.drop i=w++r):s.extract i (i+w.length)=⟨w.toArray⟩:=by
 refine oK ?_
 simp_all
theorem rW{i}:(s.extract i s.size).data.toList=s.data.toList.drop i:=by rw[gS];exact List.take_of_length_le H_
theorem CP{k}(h:cG k=true):0<k.size/\k.size<=24/\yG (bA k 0)=3/\∀j,j<k.size->(yG (bA k j)=3\/yG (bA k j)=4\/yG (bA k j)=5):=by
 rw[cG,j0,j0,r8,r8,List.any_eq_false,p_,k_]at h;obtain ⟨i,l,h3⟩:=h;have a:0<k.size:=by
  rcases Nat.eq_zero_or_pos k.size with e|e
  ·refine absurd (oK ?_) l
   simp_all
  exact e
 have f:=fun j b=>by
  have:=i j (List.mem_range.2 b)
  simpa using this
 refine⟨a,X,?_,fun j b=>?_⟩
 ·have:=f 0 a
  simpa[gj]using this
 have:=f j b;rw[gj]at this;by_cases c:yG (bA k j)=3
 ·exact .inl c
 by_cases g:yG (bA k j)=4
 ·exact .inr (.inl g)
 by_cases d:yG (bA k j)=5
 ·exact .inr (.inr d)
 simp[c,g,d]at this
theorem Tj{k}{j}(h:j<k.size):∃c,k.data.toList[j]?=some c/\bA k j=(c.toNat):=by exact⟨_,m8 h,by rw[bA,m8 h];rfl⟩
theorem wu{k:B_}(h:s.data.toList.drop i=k.data.toList++r)(w:cG k=true)(x:∀c r',r=c::r'->yG (c.toNat:Int)≠3/\yG (c.toNat:Int)≠4/\yG (c.toNat:Int)≠5):
  eT s i=(some ⟨1,k,i,0⟩,i+k.size):=by
 obtain ⟨a,hle,v,b⟩:=CP w;have g:∀j,j<k.size->mW s (i+j)=yG (bA k j):=fun j u=>by
  obtain ⟨c,p,e⟩:=Tj u;rw[IR (vb h p),e]
 have hlen:=by
  have:=congrArg List.length h;rw[q6,j9,aT,aT]at this;omega
 have l:mW s i=3:=by
  have:=g 0 a;rw[Nat.add_zero,v]at this;exact this
 have d:B2 s i=i+k.size:=by
  refine zA (uW s) X X (fun j h1 h2=>?_) ?_
  ·have:=g (j - i) X;rw[show i+(j - i)=j by omega]at this;rw[uW,this];rcases b (j - i) X with e|e|e<;>rw[e]<;>rfl
  left;have n:=fB h;rw[aT]at n;cases r with
  |nil=>rw[uW,vk n];rfl
  |cons c r' =>
   obtain ⟨t,o,q⟩:=x c r' Z;rw[uW,IR n,decide_eq_false t,decide_eq_false o,decide_eq_false q];rfl
 have f:=zN h;rw[aT]at f;have m:(⟨k.data.toList.toArray⟩:B_)=k:=oK H_;rw[eT,a8 X,a8 X,b6 l,d,AF,f,m,a8 X]
theorem Pi{s}{i}{r}(h:s.data.toList.drop i=32::r):eT s i=(none,i+1):=by
 have a:mW s i=1:=by rw[IR h];rfl
 rw[eT,b6 a]
theorem ag:∀(v r),nX (v.flatMap qG++34::r)=some (v,(v.flatMap qG).length+1)
 | [],r=>B4
 | b::v,r=>by
  have d:=ag v r;rw[List.flatMap_cons,List.append_assoc];by_cases a:b=10
  ·have e:qG b=[92,110]:=by rw[qG,b6 a]
   rw[e];show nX (92::110::(v.flatMap qG++34::r))=_;rw[uL,d,a];show some _=some _
   grind
  by_cases c:b=34\/b=92
  ·have e:qG b=[92,b]:=by rw[qG,a8 a,b6 c]
   have g:sT b=some b:=by
    rcases c with e|e<;>subst e<;>rfl
   rw[e];show nX (92::b::(v.flatMap qG++34::r))=_;rw[uL,d,g]
   grind
  have e:qG b=[b]:=by rw[qG,a8 a,a8 c]
  have f:b≠34/\b≠92:=⟨fun e=>c (.inl e),fun e=>c (.inr e)⟩;rw[e];show nX (b::(v.flatMap qG++34::r))=_;rw[B5 f.1 a f.2,d]
  grind
theorem JG{v:B_}(h:s.data.toList.drop i=cW v.data.toList++r):eT s i=(some ⟨3,v,i,0⟩,i+(cW v.data.toList).length):=by
 have b:s.data.toList.drop i=34::(v.data.toList.flatMap qG++34::r):=by rw[h,cW];simp
 have c:mW s i=7:=by rw[IR b];rfl
 have d:AG (s.extract i s.size)=(v,(((v.data.toList.flatMap qG).length+1+1:Nat):Int)):=by
  rw[AG,rW,b,List.drop_succ_cons,List.drop_zero,ag]
 have e:ER s i=(⟨3,v,i,0⟩,i+(cW v.data.toList).length):=by
  rw[ER,d,b6 X];congr 1;congr 1;rw[l8,cW,j8,j9,List.length_singleton]
 rw[eT,a8 X,a8 X,a8 X,a8 X,b6 c,e]
def R8(t:l_):List UInt8:=t.key.data.toList++61::cW t.val.data.toList
theorem MM(t):(iN t).data.toList=R8 t:=by rw[iN,R8];simp
def nK(l:List l_):List UInt8:=l.flatMap fun t=>32::R8 t
def TN(T:List a_)(l:List l_):Prop:=D3 T=some l/\(∀f,f∈T->f.err=0)/\T.length=3*l.length
theorem TN.cons{T}{l}{a b c}(h:TN T l)(ha:a.err=0)(hb:b.err=0)(hc:c.err=0):TN (a::b::c::T) (⟨a.text,c.text⟩::l):=by
 obtain ⟨d,h2,h3⟩:=h;refine⟨by rw[D3,d];rfl,fun f hf=>?_,G_⟩
 grind
theorem UY(t)(l):(WN (t::l)).data.toList=R8 t++nK l:=by show bQ _ (bs ((t::l).map _))=_;rw[bs,List.map_map];show (iN t).data.toList++_=_;rw[MM,List.flatMap_map];congr 1;congr 1;funext x;show [32]++(iN x).data.toList=_;rw[MM];rfl
theorem MO:∀(T acc),(∀f,f∈T->f.err=0)->acc.length+T.length<=5000->kD acc T=(acc++T,0,0)
 | [],acc,_,_=>by rw[kD,List.append_nil]
 |f::T,acc,h,b=>by
  rw[j8]at b;rw[kD,a8 (fun e=>e (h f List.mem_cons_self)),a8 (by omega),MO T _ (fun g a=>h g (List.mem_cons_of_mem _ a)) (by grind),List.append_assoc];rfl
end Go.Proofs.YtopnleflllkbmaaGreatDoor
namespace Go.Abs
def dN(c:UInt8):List UInt8->List (List UInt8)
 | []=>[[]]
 |b::l=>if b=c then[]::dN c l else((b::(dN c l).headD [])::(dN c l).tail)
theorem qY(c)(l):0<(dN c l).length:=by
 cases l with
 |nil=>exact Nat.zero_lt_one
 |cons b l=>rw[dN];all_goals grind
theorem rO{c}:∀ {w},c∉w->dN c w=[w]
 | [],_=>rfl
 |b::w,h=>by
  rw[l7,not_or]at h;rw[dN,a8 (fun e=>h.1 e.symm),rO h.2];rfl
theorem jO{c}{l}:∀ {w},c∉w->dN c (w++c::l)=w::dN c l
 | [],_=>by rw[List.nil_append,dN,b6 rfl]
 |b::w,h=>by
  rw[l7,not_or]at h;rw[List.cons_append,dN,a8 (fun e=>h.1 e.symm),jO h.2];rfl
theorem xI(c):∀l,(dN c l).length=l.count c+1
 | []=>rfl
 |b::l=>by
  have a:=xI c l;rw[dN];by_cases h:b=c
  ·rw[b6 h,j8,a,h,List.count_cons_self]
  rw[a8 h,j8,List.length_tail,List.count_cons_of_ne h];omega
def rB:List UInt8->List (List UInt8)
 | []=>[]
 |b::l=>if b=10 then[10]::rB l else match rB l with
  | []=>[[b]]
  |w::r=>(b::w)::r
theorem H8{l}:∀ {w},10∉w->rB (w++10::l)=(w++[10])::rB l
 | [],_=>rfl
 |b::w,h=>by
  rw[l7,not_or]at h;rw[List.cons_append,rB,a8 (fun e=>h.1 e.symm),H8 h.2];rfl
theorem NT:∀ {w},10∉w->w≠[]->rB w=[w]
 | [],_,h=>absurd Z h
 |b::w,h,_=>by
  rw[l7,not_or]at h;rw[rB,a8 (fun e=>h.1 e.symm)];by_cases e:w=[]
  ·subst e;rfl
  rw[NT h.2 e]
theorem G8:∀ {ls:List _},(∀w∈ls,10∉w)->rB (ls.flatMap (·++[10]))=ls.map (·++[10])
 | [],_=>rfl
 |w::ls,h=>by
  rw[List.flatMap_cons,List.append_assoc,List.singleton_append,H8 (h w List.mem_cons_self),G8 fun x a=>h x (List.mem_cons_of_mem _ a)];rfl
theorem xZ{c}:∀ {l},Lib.indexByte l c = -1↔c∉l
 | []=>by simp[Lib.indexByte]
 |b::l=>by
  have ih:=xZ (c:=c) (l:=l);have hg:=Lib.indexByte_ge l c;rw[Lib.indexByte];all_goals grind
theorem yA{c}:∀ {l},Lib.indexByte l c ≠ -1->∃w r,l=w++c::r/\c∉w/\Lib.indexByte l c=(w.length)
 | [],h=>absurd Z h
 |b::l,h=>by
  by_cases e:b=c
  ·subst e;exact⟨[],l,Z,by simp,by simp[Lib.indexByte]⟩
  have d:Lib.indexByte l c ≠ -1:=fun e2=>h (by rw[Lib.indexByte];simp_all);obtain ⟨w,r,h1,h2,h3⟩:=yA d;refine⟨b::w,r,F_,G_,?_⟩;rw[Lib.indexByte]
  simp_all
end Go.Abs
namespace Go.Abs
open Go.Lib
theorem vc{d}(h:d<10):digitVal (UInt8.ofNat (48+d))=some d:=by
 have e:(UInt8.ofNat (48+d)).toNat=48+d:=by rw[UInt8.toNat_ofNat'];omega
 rw[digitVal,b6 X];congr 1;omega
theorem C7{b}{d}(a:digitVal b=some d):∀(l) (acc),decFrom acc (l++[b])=(decFrom acc l).map fun n=>n*10+d
 | [],acc=>by
  simp[decFrom,a]
 |c::l,acc=>by
  rw[List.cons_append,decFrom,decFrom];cases h:digitVal c with
  |none=>rfl
  |some x=>exact C7 a l _
theorem pQ(u:Nat):decDigits u≠[]:=by
 rw[decDigits]
 split
 ·simp
 simp
theorem mU(u):decFrom 0 (decDigits u)=some u:=by
 induction u using Nat.strongRecOn with
 |ind u ih =>
  rw[decDigits]
  split
  ·rename_i h;rw[<-List.nil_append [_],C7 (vc h)];simp[decFrom]
  rw[C7 (vc (Nat.mod_lt u H_))]
  grind
theorem rC{b}:∀(u),b∈decDigits u->48<=b.toNat/\b.toNat<=57:=by
 intro u
 induction u using Nat.strongRecOn with
 |ind u ih =>
  rw[decDigits]
  split
  ·intro a;rw[q_]at a;subst a;rw[UInt8.toNat_ofNat'];omega
  intro a;rcases List.mem_append.1 a with a|a
  ·grind
  rw[q_]at a;subst a;rw[UInt8.toNat_ofNat'];omega
theorem jU(n)(h:0<=n):itoa n=decDigits n.toNat:=by rw[itoa,a8 X]
theorem Am{n}(h:0<=n):atoi (itoa n)=some n:=by
 rw[jU n h];obtain ⟨u,a⟩:∃u,u=n.toNat:=X_;rw[<-a];have hd:=mU u;have hm:∀b∈decDigits u,48<=b.toNat/\b.toNat<=57:=fun b=>rC u;cases e:decDigits u with
 |nil=>exact absurd e (pQ u)
 |cons b r =>
  have c:decNat (b::r)=some u:=by rw[decNat];simp_all
  unfold atoi;simp[c];have h43:b≠43:=fun h=>by simp_all
  split<;>simp_all
  omega
theorem cU:∀ {k u},u<10 ^ k->0<k->(decDigits u).length<=k
 |0,_,_,h=>absurd h (Nat.lt_irrefl 0)
 | k+1,u,h,_=>by
  rw[decDigits]
  split
  ·simp
  rw[j9,List.length_singleton];have b:0<k:=by
   grind
  have a:u / 10<10 ^ k:=X
  have:=cU a b;omega
theorem DF{n}(h:0<=n)(h2:n<1000000000000000000):atoiAll (itoa n)=.ok n:=by
 have a:(itoa n).length<=18:=by
  rw[jU n h];exact cU X H_
 rw[atoiAll_short _ a,Am h];rfl
end Go.Abs
namespace Go.Proofs.YtopnleflllkbmaaGreatDoor
open Go.Proofs.Tryz
open Go.Abs
variable{s:B_}{α:Type}{o:j_}
def lV(o:j_):List UInt8:=(eD o.kind).data.toList++32::(o.id.data.toList++32::(if o.kind=1 then Lib.itoa o.x++32::Lib.itoa o.y else 40::(bQ [32] (bs o.refs)++[41])))
def sB(o:j_):List UInt8:=lV o++nK o.tags
def DS(o:j_):B_:=⟨(sB o).toArray⟩
def eX(o:j_):B_×Int:=if oH o then(if 0<o.tags.length/\(jM o.tags).2≠0 then(a6,(jM o.tags).2)else if 20000<(DS o).size then(a6,2)else(DS o,0))else(a6,1)
def atV(s:B_):Int:=match Lib.atoiAll s.data.toList with
 |.ok v=>v
 |.range=>Lib.atoiSat s.data.toList
 |_=>0
def KC:a_:=⟨0,a6,0,0⟩
def vR(T:List a_):List a_:=T++List.replicate (4 - T.length) KC
def DM(s:B_):Int:=if s=eD 5 then 5 else if s=eD 4 then 4 else if s=eD 3 then 3 else if s=eD 2 then 2 else if s=eD 1 then 1 else 0
def kE(f:a_):Bool:=decide (f.text=⟨#[41]⟩)&&decide (f.kind=4)
def rK:List a_->List l_
 |a::_::c::r=>⟨a.text,c.text⟩::rK r
 |_=>[]
theorem P2:∀ {T} {l},D3 T=some l->rK T=l
 | [],l,h=>by cases h;rfl
 | [_],l,h=>by rw[D3]at h<;>(simp_all)
 | [_,_],l,h=>by rw[D3]at h<;>(simp_all)
 | a::b::c::r,l,h=>by
  rw[D3]at h;cases e:D3 r with
  |none=>simp_all
  |some q =>
   rw[e]at h;cases h;rw[rK,P2 e]
def sV(T:List a_):j_ :=if DM ((vR T).getD 0 KC).text=1 then⟨((vR T).getD 1 KC).text,1,atV ((vR T).getD 2 KC).text,atV ((vR T).getD 3 KC).text,[],rK ((vR T).drop 4)⟩
 else if AE kE (vR T)<3 then g_
 else⟨((vR T).getD 1 KC).text,DM ((vR T).getD 0 KC).text,0,0,(((vR T).take (AE kE (vR T)).toNat).drop 3).map a_.text,rK ((vR T).drop ((AE kE (vR T)).toNat+1))⟩
def FF(s:B_)(i:Nat)(r:List UInt8)(T:List a_):Prop:=∀n,r.length<=n->jV s n i=T
theorem DG{s}{i j}{w r}{f}{T}(d:eT s i=(some f,j))(c:f.err=0)(hi:i<s.size)(hw:0<w.length)(b:FF s j r T):FF s i (w++r) (f::T):=by intro n a;rw[j9]at a;obtain ⟨m,rfl⟩:∃m,n=m+1:=⟨n - 1,X⟩;rw[jV,b6 hi,d];show f::(if f.err=0 then jV s m j else[])=_;rw[b6 c,b m X]
theorem uG{s}{i}{r}{T}(h:s.data.toList.drop i=32::r)(b:FF s (i+1) r T):FF s i (32::r) T:=by intro n a;rw[j8]at a;obtain ⟨m,rfl⟩:∃m,n=m+1:=⟨n - 1,X⟩;rw[jV,b6 (pW h).1,Pi h];exact b m X
theorem all_nil{s}{i}(h:s.data.toList.drop i=[]):FF s i [] []:=by
 intro n _;have a:¬ i<s.size:=by
  have:=List.drop_eq_nil_iff.1 h;rw[aT]at this;omega
 cases n with
 |zero=>rfl
 |succ n=>rw[jV,a8 a]
theorem rA{i}{w r}(h:s.data.toList.drop i=w++r)(hw:0<w.length):i<s.size:=by
 rcases Nat.lt_or_ge i _ with a|a
 ·exact a
 rw[List.drop_eq_nil_of_le F_]at h;have:=congrArg List.length h;rw[List.length_nil,j9]at this;omega
def GS(r:List UInt8):Prop:=∀c r',r=c::r'->yG (c.toNat:Int)≠3/\yG (c.toNat:Int)≠4/\yG (c.toNat:Int)≠5
theorem wt:GS []:=fun c r' h=>by cases h
theorem lR(r):GS (32::r):=fun c r' h=>by cases h;exact⟨E_,E_,E_⟩
theorem JF(r):GS (41::r):=fun c r' h=>by cases h;exact⟨E_,E_,E_⟩
theorem mX{s k}{i}{r}{T}(h:s.data.toList.drop i=k.data.toList++r)(a:cG k=true)(c:GS r)(b:FF s (i+k.size) r T):FF s i (k.data.toList++r) (⟨1,k,i,0⟩::T):=by have hp:=(CP a).1;exact DG (wu h a c) Z (rA h F_) F_ b
theorem GE{s}{i}{r}{c}{T}(h:s.data.toList.drop i=c::r)(a:yG (c.toNat)=6)(b:FF s (i+1) r T):FF s i (c::r) (⟨4,⟨#[c]⟩,i,0⟩::T):=by
 have ha:mW s i=6:=by rw[IR h];exact a
 have hx:=zN (w:=[c]) h;have d:eT s i=(some ⟨4,⟨#[c]⟩,i,0⟩,i+1):=by
  rw[eT]
  simp_all
 exact DG (w:=[c]) d Z (pW h).1 Nat.zero_lt_one b
theorem Un:∀b:UInt8,48<=b.toNat->b.toNat<=57->yG (b.toNat)=4:=by
 intro b a c;have h:∀n:Fin 256,48<=n.val->n.val<=57->yG (n.val)=4:=by decide +kernel
 exact h _ a c
theorem PM{i:Nat}{x:Int}{r:List UInt8}{T:List a_}(h:s.data.toList.drop i=Lib.itoa x++r)(A:0<=x)(v:x<10000000)(t:GS r)(w:FF s (i+(Lib.itoa x).length) r T):FF s i (Lib.itoa x++r) (⟨2,aQ x,i,0⟩::T):=by
 have l:=jU x A;have e:0<(Lib.itoa x).length:=by rw[l];exact List.length_pos_iff.2 (pQ _)
 have hle:(Lib.itoa x).length<=7:=by rw[l];exact cU X E_
 have f:∀j,j<(Lib.itoa x).length->mW s (i+j)=4:=fun j p=>by
  have q:=m8 p;rw[IR (vb h q)];have o:(Lib.itoa x)[j]∈Lib.decDigits x.toNat:=F_
  obtain ⟨u,z⟩:=rC _ o;exact Un _ u z
 have hlen:i+(Lib.itoa x).length<=s.size:=by
  have:=congrArg List.length h;rw[q6,j9,aT]at this;have:=rA h e;omega
 have k:mW s i=4:=f 0 e;have m:=fB h;have d:mW s (i+(Lib.itoa x).length)≠3/\mW s (i+(Lib.itoa x).length)≠4/\mW s (i+(Lib.itoa x).length)≠5:=by
  cases r with
  |nil=>rw[vk m];omega
  |cons c y=>rw[IR m];exact t c y Z
 have g:IM s i=i+(Lib.itoa x).length:=by
  refine zA (N9 s) X X (fun j v h2=>?_) (.inl ?_)
  ·have:=f (j - i) X;rw[show i+(j - i)=j by omega]at this;rw[N9,this];rfl
  rw[N9,decide_eq_false d.2.1]
 have n:eT s i=(some ⟨2,aQ x,i,0⟩,i+(Lib.itoa x).length):=by
  rw[eT,a8 X,a8 X,a8 X,b6 k,g,HA,zN h,decide_eq_false d.1,decide_eq_false d.2.2,decide_eq_false X];rfl
 exact DG n Z (rA h e) e w
theorem TF{s}:∀(l) (i),(∀t,t∈l->cG t.key=true)->s.data.toList.drop i=nK l->∃T,FF s i (nK l) T/\TN T l
 | [],i,_,h=>⟨[],all_nil h,Z,(fun f r=>by cases r),Z⟩
 | t::l,i,g,h=>by
  have k:nK (t::l)=32::(t.key.data.toList++61::(cW t.val.data.toList++nK l)):=by
   rw[nK,List.flatMap_cons,R8];simp[nK]
  rw[k]at h |-;have b:=(pW h).2.2;have j:=fB b;have a:=(pW j).2.2;have v:=fB a;obtain ⟨T,o,u⟩:=TF l _ (fun t p=>g t (List.mem_cons_of_mem _ p)) v;have d:0<(cW t.val.data.toList).length:=by rw[cW,j8];omega
  have q:=DG (JG a) Z (rA a d) d o;have n:=GE j (Z) q;have m:=mX b (g t List.mem_cons_self) (fun c r' e=>by cases e;exact⟨E_,E_,E_⟩) n;exact⟨_,uG h m,TN.cons u Z Z Z⟩
theorem F7{o}(h:oH o=true):o.kind=1\/o.kind=2\/o.kind=3\/o.kind=4\/o.kind=5:=by have:=zk h;omega
theorem A0{k}(h:k=1\/k=2\/k=3\/k=4\/k=5):cG (eD k)=true/\DM (eD k)=k:=by
 rcases h with rfl|rfl|rfl|rfl|rfl
 ·exact⟨Z,Z⟩
 ·exact⟨Z,Z⟩
 ·exact⟨Z,Z⟩
 ·exact⟨Z,Z⟩
 exact⟨Z,Z⟩
theorem tW{o}(h:oH o=true):∀s∈o.refs,cG s=true:=fun s d=>by
 rw[oH,j0,j0,r8,r8]at h;obtain ⟨i,c⟩:=r_.1 d;have b:=(m_.1 c).1;have a:=List.any_eq_false.1 h.2.1 i (List.mem_range.2 b);rw[uJ,c]at a;simp[MU,Bool.or_eq_true,not_or,Bool.not_eq_true,Bool.not_eq_false']at a;exact a.2
theorem gm{o}(h:oH o=true):(0<=o.x/\o.x<1048576)/\(0<=o.y/\o.y<1048576)/\(o.kind=1->o.refs=[])/\(o.kind≠1->o.x=0/\o.y=0):=by
 rw[oH,j0]at h;unfold SL at h
 split at h
 ·rename_i a;rw[Y9]at h;simp only[j0,k_]at h;refine⟨X,X,fun _=>List.length_eq_zero_iff.1 X,fun e=>absurd a e⟩
 rename_i a
 split at h<;>simp[j0,k_]at h<;>exact⟨X,X,fun e=>absurd e a,fun _=>by omega⟩
theorem TE{s:B_}:∀(l:List B_) (i:Nat) (r:List UInt8) (T:List a_),(∀k,k∈l->cG k=true)->s.data.toList.drop i=l.flatMap (fun k=>32::k.data.toList)++r->GS r ->
  FF s (i+(l.flatMap fun k=>32::k.data.toList).length) r T->∃R:List a_,FF s i (l.flatMap (fun k=>32::k.data.toList)++r) (R++T)/\R.map a_.text=l/\∀f∈R,f.kind=1/\f.err=0
 | [],i,r,T,_,h,_,d=>⟨[],d,Z,(fun f o=>by cases o)⟩
 | k::l,i,r,T,m,h,j,d=>by
  have q:(k::l).flatMap (fun k=>32::k.data.toList)++r=32::(k.data.toList++(l.flatMap (fun k=>32::k.data.toList)++r)):=by
   simp_all
  have g:((k::l).flatMap fun k=>32::k.data.toList).length=1+k.size+(l.flatMap fun k=>32::k.data.toList).length:=by
   rw[List.flatMap_cons,j9,j8,aT];omega
  rw[q]at h |-;have n:=(pW h).2.2;have p:=fB n;rw[aT]at p;obtain ⟨R,t,e1,e2⟩:=TE l (i+1+k.size) r T (fun x u=>m x (List.mem_cons_of_mem _ u)) p j (by rw[g]at d;rw[show i+1+k.size+(l.flatMap _).length=i+(1+k.size+(l.flatMap fun k=>32::k.data.toList).length)by omega];exact d);have e:GS (l.flatMap (fun k=>32::k.data.toList)++r):=by
   cases l with
   |nil=>exact j
   |cons a l=>exact lR _
  refine⟨⟨1,k,i+1,0⟩::R,uG h (mX n (m k List.mem_cons_self) e t),F_,fun f o=>?_⟩
  grind
theorem xX(k)(l):bQ [32] (bs (k::l))=k.data.toList++l.flatMap (fun k=>32::k.data.toList):=by rw[bs,List.map_cons,bQ,List.flatMap_map];rfl
theorem Kb{p}{c:α}{B}:∀ {A},(∀a,a∈A->p a=false)->p c=true->AE p (A++c::B)=(A.length):=by
 intro A hA hc;have h:(A++c::B).findIdx? p=some A.length:=by
  grind
 rw[AE,h]
theorem P8(l):GS (nK l):=by
 cases l with
 |nil=>exact wt
 |cons t l=>exact lR _
theorem gn{x}(h:0<=x)(b:x<1000000000000000000):atV (aQ x)=x:=by show (match Lib.atoiAll (Lib.itoa x)with|.ok v=>v|.range=>_|_=>0)=x;rw[DF h b]
theorem U9{o}(h:oH o=true)(d:o.kind≠1):∃k l,o.refs=k::l:=by
 have a:=F7 h;rw[oH,j0,r8,NX,vT]at h;have c:=h.1;simp only[q9,Bool.not_eq_false',p_]at c;have b:=c.1.2;have hl:1<=ET o.kind:=by
  rcases a with e|e|e|e|e
  ·exact absurd e d
  ·rw[e];decide
  ·rw[e];decide
  ·rw[e];decide
  rw[e];decide
 cases e:o.refs with
 |nil=>rw[e]at b;exact absurd (show (([].length:Nat):Int)<ET _ by show 0<_;omega) b
 |cons k l=>exact⟨k,l,Z⟩
theorem sy{T}(h:4<=T.length):vR T=T:=by rw[vR,show 4 - T.length=0 by omega,List.replicate_zero,List.append_nil]
theorem VX(o):(DS o).data.toList.drop 0=sB o:=rfl
theorem O6{i}{k x y}{r}{t}(f:o.id=i)(e:o.kind=k)(b:o.x=x)(d:o.y=y)(a:o.refs=r)(c:o.tags=t):(⟨i,k,x,y,r,t⟩)=o:=by subst f e b d a c;rfl
theorem Fx(B:oH o=true):∃T,FF (DS o) 0 (sB o) T/\(∀f,f∈T->f.err=0)/\T.length<=5000/\sV T=o:=by
 obtain ⟨hr,ht,o_,E,_⟩:=BR B;obtain ⟨w,v_,hn,hz⟩:=gm B;obtain ⟨A_,G⟩:=A0 (F7 B);have m:∀t,t∈o.tags->cG t.key=true:=fun t h=>((xD.1 o_).1 t h).1;have v:=VX o;by_cases i:o.kind=1
 ·have e:sB o=(eD o.kind).data.toList++32::(o.id.data.toList++32::(Lib.itoa o.x++32::(Lib.itoa o.y++nK o.tags))):=by
   rw[sB,lV,b6 i];simp
  rw[e]at v |-;have r:=fB v;rw[aT]at r;have y:=(pW r).2.2;have n:=fB y;rw[aT]at n;have z:=(pW n).2.2;have F:=fB z;have u:=(pW F).2.2;have c_:=fB u;obtain ⟨T,u_,L,N,r3⟩:=TF o.tags _ m c_;have b:=mX v A_ (lR _) (uG r (mX y E (lR _) (uG n (PM z w.1 X (lR _) (uG F (PM u v_.1 X (P8 _) u_))))));refine⟨_,b,fun f g=>?_,?_,?_⟩
  ·simp only[l7]at g;rcases g with rfl|rfl|rfl|rfl|g
   ·rfl
   ·rfl
   ·rfl
   ·rfl
   exact N f g
  ·simp only[j8];omega
  rw[sV,sy (by simp only[j8];omega)];simp only[List.getD_cons_zero,List.getD_cons_succ,List.drop_succ_cons,List.drop_zero];rw[G,b6 i,P2 L,gn w.1 X,gn v_.1 X];exact O6 Z i Z Z (hn i) Z
 obtain ⟨k,l,q⟩:=U9 B i;have s:=tW B;rw[q]at s;have e:sB o=(eD o.kind).data.toList++32::(o.id.data.toList++32::(40::(k.data.toList++(l.flatMap (fun k=>32::k.data.toList)++41::nK o.tags)))):=by
  rw[sB,lV,a8 i,q,xX];simp
 rw[e]at v |-;have r:=fB v;rw[aT]at r;have y:=(pW r).2.2;have n:=fB y;rw[aT]at n;have z:=(pW n).2.2;have F:=(pW z).2.2;have u:=fB F;rw[aT]at u;have c_:=fB u;have h8:=(pW c_).2.2;obtain ⟨T,u_,L,N,r3⟩:=TF o.tags _ m h8;have Q:=GE c_ E_ u_;obtain ⟨R,hR,q1,W⟩:=TE l _ _ _ (fun x w=>s x (List.mem_cons_of_mem _ w)) u (JF _) Q;have K:GS (l.flatMap (fun k=>32::k.data.toList)++41::nK o.tags):=by
  cases l with
  |nil=>exact JF _
  |cons a l=>rw[List.flatMap_cons];exact lR _
 have b:=mX v A_ (lR _) (uG r (mX y E (lR _) (uG n (GE z E_ (mX F (s k List.mem_cons_self) K hR)))));have hRl:R.length=l.length:=by rw[<-q1,h_]
 have hrl:o.refs.length=l.length+1:=by rw[q,j8]
 refine⟨_,b,fun f g=>?_,?_,?_⟩
 ·simp only[l7,List.mem_append]at g;rcases g with rfl|rfl|rfl|rfl|g|rfl|g
  ·rfl
  ·rfl
  ·rfl
  ·rfl
  ·exact(W f g).2
  ·rfl
  exact N f g
 ·simp only[j8,j9];omega
 obtain ⟨A,I⟩:∃A:List a_,A=⟨1,eD o.kind,0,0⟩::⟨1,o.id,0+(eD o.kind).size+1,0⟩::⟨4,⟨#[40]⟩,0+(eD o.kind).size+1+o.id.size+1,0⟩::⟨1,k,0+(eD o.kind).size+1+o.id.size+1+1,0⟩::R:=X_;have H:A.length=R.length+4:=by rw[I];rfl
 have e_:∀a,a∈A->kE a=false:=by
  intro a D;rw[I]at D;simp only[l7]at D;rcases D with rfl|rfl|rfl|rfl|D
  ·rw[kE,decide_eq_false (show ¬ ((1:Int)=4)by decide),Bool.and_false]
  ·rw[kE,decide_eq_false (show ¬ ((1:Int)=4)by decide),Bool.and_false]
  ·rfl
  ·rw[kE,decide_eq_false (show ¬ ((1:Int)=4)by decide),Bool.and_false]
  rw[kE,(W a D).1,decide_eq_false (show ¬ ((1:Int)=4)by decide),Bool.and_false]
 have p:∀c:a_,(A++c::T).drop (A.length+1)=T:=fun c=>by
  rw[show A++c::T=(A++[c])++T by simp,show A.length+1=(A++[c]).length by simp,List.drop_left]
 have w:=fun j=>Kb (p:=kE) (c:=⟨4,⟨#[41]⟩,j,0⟩) (B:=T) e_ Z;have P:∀j,(⟨1,eD o.kind,0,0⟩::⟨1,o.id,0+(eD o.kind).size+1,0⟩::⟨4,⟨#[40]⟩,0+(eD o.kind).size+1+o.id.size+1,0⟩::⟨1,k,0+(eD o.kind).size+1+o.id.size+1+1,0⟩::(R++⟨4,⟨#[41]⟩,j,0⟩::T):List a_)=A++⟨4,⟨#[41]⟩,j,0⟩::T:=fun j=>by rw[I];rfl
 rw[sV,P,sy (by rw[j9,H];omega),w,a8 (by rw[I];show ¬ DM (eD o.kind)=1;rw[G];exact i),a8 (by rw[H];omega),l8,List.take_left,p,P2 L];obtain ⟨z_,y_⟩:=hz i;refine O6 ?_ ?_ z_ y_ ?_ Z;all_goals simp_all
theorem Qj(f:α->List _)(l:List _):l.map (fun e=>(f e).map AV.pv)=(l.map f).map (·.map .pv):=H_
def nm(i:Nat):B_:=⟨#[110,49+UInt8.ofNat i]⟩
def b7(l:List UInt8):B_:=⟨l.toArray⟩
theorem cO(l):(b7 l).data.toList=l:=rfl
theorem gB(s):b7 s.data.toList=s:=oK (cO _)
theorem cB(l):(b7 l).size=l.length:=rfl
def uQ(s:B_):j_×Int:=if 20000<s.size then(g_,2)else if(fA s).2.1=0/\eX (sV (fA s).1)=(s,0)then(sV (fA s).1,0)else(g_,5)
theorem O7{o}(h:(eX o).2=0):oH o=true/\eX o=(DS o,0)/\(DS o).size<=20000:=by
 rw[eX]at h |-
 grind
theorem ld{o}(h:(eX o).2=0):uQ (eX o).1=(o,0):=by
 obtain ⟨c,ht,hs⟩:=O7 h;obtain ⟨T,b,a,h2,h3⟩:=Fx c;have hlex:fA (DS o)=(T,0,0):=by
  rw[fA,a8 (by omega),b _ (by exact Nat.le_succ _),MO T _ a (by simp_all),List.nil_append]
 rw[uQ]
 simp_all
def wPut:List UInt8:=[112,117,116]
def I7:List UInt8:=[109,111,118,101]
def A2:List UInt8:=[116,97,103]
def I6:List UInt8:=[114,101,102,115]
def JA:List UInt8:=[100,114,111,112]
def B3:List UInt8:=[115,112,108,105,116]
def I9:List UInt8:=[106,111,105,110]
def gG(e:b8):List (List UInt8) :=if e.op=2 then[I7,e.id.data.toList,Lib.itoa e.x,Lib.itoa e.y]else if e.op=3 then[A2,e.id.data.toList,e.key.data.toList,cW e.val.data.toList]
 else if e.op=4 then I6::e.id.data.toList::bs e.refs else if e.op=5 then[JA,e.id.data.toList]
 else if e.op=6 then[B3,e.id.data.toList,e.node.data.toList,e.other.data.toList]else[I9,e.id.data.toList,e.other.data.toList]
def fG(e:b8):List UInt8:=if e.op=1 then wPut++32::(eX e.obj).1.data.toList else bQ [32] (gG e)
def fL(e:b8):Int:=if e.op=1 then(eX e.obj).2 else 0
def rJ:List UInt8->List b8->List UInt8×Int
 |acc,[]=>(acc,0)
 |acc,e::r=>if fL e≠0\/20000<(acc++(fG e++[10])).length then([],2)else rJ (acc++(fG e++[10])) r
def dW(l:List b8):B_×Int:=if lD l then(b7 (rJ [] l).1,(rJ [] l).2)else(a6,1)
def UC(s:List UInt8):Int:=match Lib.atoiAll s with
 |.ok v=>v
 |_ => -1
def NZ:b8:=⟨0,a6,a6,a6,0,0,a6,a6,[],g_⟩
def D8(w:List (List UInt8))(word rest:List UInt8):b8 :=if word=wPut then⟨1,a6,a6,a6,0,0,a6,a6,[],(uQ (b7 rest)).1⟩
 else if word=I7/\w.length=4 then⟨2,b7 (w.getD 1 []),a6,a6,UC (w.getD 2 []),UC (w.getD 3 []),a6,a6,[],g_⟩
 else if word=A2/\3<w.length then(match (fA (b7 (bQ [32] (w.drop 3)))).1 with
  | [f]=>⟨3,b7 (w.getD 1 []),a6,a6,0,0,b7 (w.getD 2 []),f.text,[],g_⟩
  |_=>NZ)
 else if word=I6/\1<w.length then⟨4,b7 (w.getD 1 []),a6,a6,0,0,a6,a6,(w.drop 2).map b7,g_⟩
 else if word=JA/\w.length=2 then⟨5,b7 (w.getD 1 []),a6,a6,0,0,a6,a6,[],g_⟩
 else if word=B3/\w.length=4 then⟨6,b7 (w.getD 1 []),b7 (w.getD 3 []),b7 (w.getD 2 []),0,0,a6,a6,[],g_⟩
 else if word=I9/\w.length=3 then⟨7,b7 (w.getD 1 []),b7 (w.getD 2 []),a6,0,0,a6,a6,[],g_⟩
 else NZ
def nQ(s:List UInt8):b8:=D8 (dN 32 s) ((dN 32 s).headD []) (s.drop (((dN 32 s).headD []).length+1))
def iB(t:B_):List b8×Int :=if 20000<t.size then([],2)else if dW ((rB t.data.toList).map fun s=>nQ (Lib.trimSuffix s [10]))=(t,0)then((rB t.data.toList).map fun s=>nQ (Lib.trimSuffix s [10]),0)else([],5)
theorem V2{k}(f:cG k=true){b}(d:b∈k.data.toList):yG (b.toNat)=3\/yG (b.toNat)=4\/yG (b.toNat)=5:=by
 obtain ⟨j,c⟩:=r_.1 d;have a:=(m_.1 c).1;have h:=(CP f).2.2.2 j a;have e:bA k j=(b.toNat):=by rw[bA,c];rfl
 rwa [e]at h
theorem mL{k}(a:cG k=true):32∉k.data.toList/\10∉k.data.toList:=by
 constructor
 ·intro h;have:=V2 a h;revert this;decide
 intro h;have:=V2 a h;revert this;decide
theorem F9{x}(h:0<=x):32∉Lib.itoa x/\10∉Lib.itoa x:=by
 rw[jU x h];constructor
 ·intro h;have:=(rC _ h).1;revert this;decide
 intro h;have:=(rC _ h).1;revert this;decide
theorem cc(l):10∉cW l:=by
 rw[cW];simp only[l7,List.mem_append,List.mem_flatMap,n_,or_false,not_or];refine⟨H_,?_,H_⟩;rintro⟨b,_,h⟩;rw[qG]at h
 grind
theorem xW{b}(hb:b≠32):∀ {l},(∀w∈l,b∉w)->b∉bQ [32] l
 | [],_,h=>by cases h
 |x::l,hl,h=>by
  rw[bQ]at h
  grind
theorem Td{l}(h:∀t,t∈l->cG t.key=true):10∉nK l:=by
 intro a;obtain ⟨t,c,a⟩:=List.mem_flatMap.1 a;rw[R8]at a;simp only[l7,List.mem_append]at a;rcases a with b|b|b|b
 ·simp_all
 ·exact(mL (h t c)).2 b
 ·simp_all
 exact cc _ b
theorem aAA(b:oH o=true):10∉sB o:=by
 obtain ⟨hr,ht,c,d,_⟩:=BR b;obtain ⟨g,f,_,_⟩:=gm b;have a:=fun t h=>((xD.1 c).1 t h).1;intro h;rw[sB,lV]at h;simp only[l7,List.mem_append]at h;rcases h with(h|h|h|h|h)|h
 ·exact(mL (A0 (F7 b)).1).2 h
 ·simp_all
 ·exact(mL d).2 h
 ·simp_all
 ·split at h
  ·simp only[l7,List.mem_append]at h;rcases h with h|h|h
   ·exact(F9 g.1).2 h
   ·revert h;decide
   exact(F9 f.1).2 h
  simp only[l7,List.mem_append,n_,or_false]at h;rcases h with h|h|h
  ·revert h;decide
  ·refine xW E_ (fun w e=>?_) h;obtain ⟨s,i,rfl⟩:=List.mem_map.1 e;exact(mL (tW b s i)).2
  revert h;decide
 exact Td a h
abbrev oB(o:j_):aF:=[(1,bx 6 135 ((bM o).map .pv))]
theorem Rf{l}(h:l≠[])(s):Gv l s=l++32::s.data.toList:=by rw[Gv,a8 h]
theorem aDg(K)(s)(hl:s.size<70368744177663):aS Tryz.prog 287 [.ref 2001 0 0 0,sv s] (qJ 0 [] false++K) (fun r H'=>r=.tup []/\H'=qJ 1 s.data.toList true++K):=by
 have h:=Gu K 0 [] false s F_
 rwa [b6 rfl]at h
theorem xy(K)(g)(l)(s)(a:l≠[])(b:l.length+s.size<70368744177663):aS Tryz.prog 287 [.ref 2001 0 0 0,sv s] (qJ g l true++K) (fun r H'=>r=.tup []/\H'=qJ (g+2) (l++32::s.data.toList) true++K):=by
 have h:=Gu K g l true s b
 rwa [a8 a,Rf a]at h
theorem ON(K)(g)(l)(u)(a:l.length<70368744177664):aS Tryz.prog 133 [.ref 2001 0 0 0] (qJ g l u++K) (fun r H'=>r=sv ⟨l.toArray⟩/\H'=gk g l u++(qJ g l u++K)) :=aS.frame (Xz g l u a) Xy (dD.ofL ⟨(S7 Z Z),(eJ _ _),T_⟩) (by simp;rfl) (fun id h=>.inl (by
  simp[gk,qJ,aF.get]at h |-
  grind))
theorem VW{o}(a:oH o=true)(h:0<o.tags.length/\(jM o.tags).2≠0):eX o=(a6,(jM o.tags).2):=by rw[eX,b6 a,b6 h]
theorem F0{o}{L}(b:oH o=true)(h:¬ (0<o.tags.length/\(jM o.tags).2≠0))(a:sB o=L)(h2:20000<L.length):eX o=(a6,2):=by
 have hs:(DS o).size=L.length:=by rw[<-a];rfl
 rw[eX,b6 b,a8 h,b6 X]
theorem F1{o}{L}(b:oH o=true)(h:¬ (0<o.tags.length/\(jM o.tags).2≠0))(a:sB o=L)(h2:¬ 20000<L.length):eX o=(⟨L.toArray⟩,0):=by
 have hs:(DS o).size=L.length:=by rw[<-a];rfl
 rw[eX,b6 b,a8 h,a8 X,DS,a]
theorem wZ{l}(h0:0<l.length)(h:(jM l).2=0):32::(jM l).1.data.toList=nK l/\(jM l).1.size<=20000:=by
 rw[jM]at h |-;by_cases c:sU l=true
 ·rw[b6 c]at h |-;by_cases b:20000<(WN l).size
  ·simp_all
  rw[a8 b];refine⟨?_,F_⟩;cases l with
  |nil=>simp_all
  |cons t l =>
   rw[UY];rfl
 simp_all
theorem GB:∀l,(l.flatMap fun k=>32::k.data.toList).length=l.length+cX l
 | []=>rfl
 |k::l=>by
  have a:=GB l;rw[List.flatMap_cons,j9,j8,j8,a,aT,cX,cX,List.map_cons,List.sum_cons];omega
theorem fP(l):(bQ [32] (bs l)).length<=l.length+cX l:=by
 cases l with
 |nil=>exact l6 _
 |cons k l =>
  rw[xX,j9,GB,aT,j8,cX,cX,List.map_cons,List.sum_cons];omega
theorem VV(o:j_)(H:aF)(f_:iq o):RC 253 [av (bM o)] (.tup [sv (eX o).1,iv (eX o).2]) H:=by
 refine Pu<|Bd func253 Z ntmps253<|C (kb 1)<|Y U<|O U<|S<|C (vC bW sizeOf135)<|Y (kc call286 (RW o _ f_))<|O iT<|Cn ?_ ?_<;>intro hc1
 ·have hg:oH o=false:=F_
  have e:eX o=(a6,1):=by rw[eX,a8 F_]
  rw[e];exact C U<|O U<|aC<|Ru<|Qq
 have hg:oH o=true:=F_
 obtain ⟨hr,ht,htg,R,_⟩:=BR hg;obtain ⟨hx,hy,hn,hz⟩:=gm hg;have y_:=(A0 (F7 hg)).1;have hws:=dG y_;have his:=dG R;have hwp:=(CP y_).1;have v_:(eD o.kind).data.toList≠[]:=fun e=>by have:=congrArg List.length e;rw[aT,List.length_nil]at this;omega
 refine aA<|Sz (kl 2001 Xe)<|S ?_;refine fZ.ent (E':=[(1,.ref 1 0 0 0),(2,sv a6),(3,iv 0),(4,.ref 2001 0 0 0)]) (H':=[(2002,⟨0,1,5,[]⟩),(2001,M9 (.osl 2002 0 0 0) false),(1,bx 6 135 ((bM o).map .pv))]) (Q_ 2002 1 5) ?_;refine fZ.ent (E':=[(1,.ref 1 0 0 0),(2,sv a6),(3,iv 0),(4,.ref 2001 0 0 0)]) (H':=qJ 0 [] false++oB o) (cJ.get (fun _=>rfl) (fun j=>mT E_ j))<|Rd (bD dZ)<|Y (bS M_)<|Y (kc AR (HH o.kind _))<|O (kc AQ (aDg (oB o) (eD o.kind) X))<|C (bD qQ)<|Y (bS N_)<|O (kc AQ (xy (oB o) 1 (eD o.kind).data.toList o.id v_ (by rw[aT];omega)))<|S<|S ?_;obtain ⟨L1,hL1⟩:∃L,L=(eD o.kind).data.toList++32::o.id.data.toList:=X_;have I:L1≠[]:=F_
 have hl1:L1.length<=49:=by rw[hL1,j9,j8,aT,aT];omega
 rw[<-hL1];by_cases Q:o.kind=1
 ·have Yf:(aQ o.x).size<=7:=by rw[<-aT];show (Lib.itoa o.x).length<=7;rw[jU _ hx.1];exact cU X E_
  have siy:(aQ o.y).size<=7:=by rw[<-aT];show (Lib.itoa o.y).length<=7;rw[jU _ hy.1];exact cU X E_
  obtain ⟨P,hL2⟩:∃L,L=L1++32::(aQ o.x).data.toList:=X_;have A_:P≠[]:=F_
  have hl2:P.length<=57:=by rw[hL2,j9,j8,aT];omega
  have p2:=xy (oB o) (1+2) L1 (aQ o.x) I X;rw[<-hL2]at p2;obtain ⟨L3,hL3⟩:∃L,L=P++32::(aQ o.y).data.toList:=X_;have hn3:L3≠[]:=F_
  have hl3:L3.length<=200000:=by rw[hL3,j9,j8,aT];omega
  have F:=xy (oB o) (1+2+2) P (aQ o.y) A_ X;rw[<-hL3]at F;have G:lV o=L3:=by
   rw[lV,b6 Q,hL3,hL2,hL1];show _=(_++32::Lib.itoa o.x)++32::Lib.itoa o.y;simp
  refine Rd (bD dZ)<|Y (bS M_)<|O cD<|Cn ?_ ?_<;>intro W
  ·refine C (bD mM)<|Y (bD mO)<|Y (bS M_)<|Y (kc lM (pL o.x X X _))<|O (kc AQ (p2))<|Rd (bD mM)<|Y (bD mN)<|Y (bS M_)<|Y (kc lM (pL o.y X X _))<|O (kc AQ (F))<|S<|C (bD fU)<|Y (bS dC)<|Y (fV dL)<|O iY<|Cn ?_ ?_<;>intro N
   ·have htp:0<o.tags.length:=by have:=b9 N;rw[h_]at this;omega
    refine C (bD fU)<|Y (bS dC)<|Y (kc call288 (UX o.tags _ f_.2.1))<|Y V<|Y dH<|Y dH<|Y U<|O U<|S<|C V<|O AY<|Cn ?_ ?_<;>intro o_
    ·have hte:(jM o.tags).2≠0:=by have hq:=o_;rw[r8,p_]at hq;exact hq
     rw[VW hg ⟨htp,hte⟩];exact C V<|Y U<|O U<|aC<|Ru<|Qq
    have hte:(jM o.tags).2=0:=by have hq:=o_;rw[Bool.not_eq_false',k_]at hq;exact hq
    have hlen2:(L3++32::(jM o.tags).1.data.toList).length<=300000:=by have:=hl3;have:=(wZ htp hte).2;rw[j9,j8,aT];omega
    have hLL:sB o=L3++32::(jM o.tags).1.data.toList:=by rw[(wZ htp hte).1,sB,G]
    refine aA<|Rd V<|O (kc AQ (xy (oB o) (1+2+2+2) L3 (jM o.tags).1 hn3 (by have:=hl3;have:=(wZ htp hte).2;omega)))<|S<|C (bD pN)<|Y (kc AT (PA (oB o) ((1+2+2+2)+2) (L3++32::(jM o.tags).1.data.toList) true))<|O iY ?_;refine Cn ?_ ?_<;>intro d_
    ·have hlong:=b9 d_;rw[F0 hg (fun h=>h.2 hte) hLL X];exact C U<|O U<|aC<|Ru<|Qq
    have hlong:=b_ d_;rw[F1 hg (fun h=>h.2 hte) hLL X];exact aA<|C (bD pN)<|Y (kc nA (ON (oB o) ((1+2+2+2)+2) (L3++32::(jM o.tags).1.data.toList) true (by have:=hlen2;omega)))<|Y U<|O U<|aC<|Ru<|Qq
   have htp:¬ 0<o.tags.length:=by have:=b_ N;rw[h_]at this;omega
   have hLL:sB o=L3:=by rw[sB,G,List.length_eq_zero_iff.1 (by omega:o.tags.length=0)];exact List.append_nil _
   refine aA<|S<|C (bD pN)<|Y (kc AT (PA (oB o) (1+2+2+2) L3 true))<|O iY<|Cn ?_ ?_<;>intro K
   ·have hlong:=b9 K;rw[F0 hg (fun h=>htp h.1) hLL X];exact C U<|O U<|aC<|Ru<|Qq
   have hlong:=b_ K;rw[F1 hg (fun h=>htp h.1) hLL X];exact aA<|C (bD pN)<|Y (kc nA (ON (oB o) (1+2+2+2) L3 true (by have:=hl3;omega)))<|Y U<|O U<|aC<|Ru<|Qq
  exact absurd Q (b_ W)
 have hsz:cX o.refs<=24*o.refs.length:=oY (fun s hs=>dG (tW hg s hs));have hjl:=fP o.refs;obtain ⟨c_,z_⟩:∃c_:B_,c_=⟨(bQ [32] (bs o.refs)).toArray⟩:=X_;have hj:∀H,RC 204 [.pv (aK o.refs),sv ⟨#[32]⟩] (sv c_) H:=fun H=>by
  rw[z_];exact wN o.refs ⟨#[32]⟩ H E_ (by show 1*_+_+_<_;omega)
 have E:c_.data.toList=bQ [32] (bs o.refs):=by rw[z_]
 obtain ⟨L3,hL3⟩:∃L,L=L1++32::((⟨#[40]⟩:B_)++c_++⟨#[41]⟩).data.toList:=X_;have hQ:((⟨#[40]⟩:B_)++c_++⟨#[41]⟩).data.toList=40::(bQ [32] (bs o.refs)++[41]):=by rw[<-E];simp
 have hQs:((⟨#[40]⟩:B_)++c_++⟨#[41]⟩).size<=60000:=by rw[<-aT,hQ,j8,j9,List.length_singleton];omega
 have hJs:c_.size<=52000:=by rw[<-aT,E];omega
 have T:(⟨#[40]⟩:B_).size=1:=rfl;have h41:(⟨#[41]⟩:B_).size=1:=rfl;have hAs:((⟨#[40]⟩:B_)++c_).size=1+c_.size:=by rw[ByteArray.size_append,T]
 have hn3:L3≠[]:=by rw[hL3];simp
 have hl3:L3.length<=200000:=by rw[hL3,j9,j8,aT];omega
 have F:=xy (oB o) (1+2) L1 ((⟨#[40]⟩:B_)++c_++⟨#[41]⟩) I X;rw[<-hL3]at F;have G:lV o=L3:=by
  rw[lV,a8 Q,hL3,hL1,hQ];simp
 refine Rd (bD dZ)<|Y (bS M_)<|O cD<|Cn ?_ ?_<;>intro u_
 ·exact absurd (b9 u_) Q
 refine Rd (bD dY)<|Y (bS aH)<|Y (kc rG (hj _))<|Y kq<|Y kq<|O (kc AQ (F))<|S<|C (bD fU)<|Y (bS dC)<|Y (fV dL)<|O iY<|Cn ?_ ?_<;>intro e_
 ·have htp:0<o.tags.length:=by have:=b9 e_;rw[h_]at this;omega
  refine C (bD fU)<|Y (bS dC)<|Y (kc call288 (UX o.tags _ f_.2.1))<|Y V<|Y dH<|Y dH<|Y U<|O U<|S<|C V<|O AY<|Cn ?_ ?_<;>intro D
  ·have hte:(jM o.tags).2≠0:=by have hq:=D;rw[r8,p_]at hq;exact hq
   rw[VW hg ⟨htp,hte⟩];exact C V<|Y U<|O U<|aC<|Ru<|Qq
  have hte:(jM o.tags).2=0:=by have hq:=D;rw[Bool.not_eq_false',k_]at hq;exact hq
  have hlen2:(L3++32::(jM o.tags).1.data.toList).length<=300000:=by have:=hl3;have:=(wZ htp hte).2;rw[j9,j8,aT];omega
  have hLL:sB o=L3++32::(jM o.tags).1.data.toList:=by rw[(wZ htp hte).1,sB,G]
  refine aA<|Rd V<|O (kc AQ (xy (oB o) (1+2+2) L3 (jM o.tags).1 hn3 (by have:=hl3;have:=(wZ htp hte).2;omega)))<|S<|C (bD pN)<|Y (kc AT (PA (oB o) ((1+2+2)+2) (L3++32::(jM o.tags).1.data.toList) true))<|O iY ?_;refine Cn ?_ ?_<;>intro hc10
  ·have hlong:=b9 hc10;rw[F0 hg (fun h=>h.2 hte) hLL X];exact C U<|O U<|aC<|Ru<|Qq
  have hlong:=b_ hc10;rw[F1 hg (fun h=>h.2 hte) hLL X];exact aA<|C (bD pN)<|Y (kc nA (ON (oB o) ((1+2+2)+2) (L3++32::(jM o.tags).1.data.toList) true (by have:=hlen2;omega)))<|Y U<|O U<|aC<|Ru<|Qq
 have htp:¬ 0<o.tags.length:=by have:=b_ e_;rw[h_]at this;omega
 have hLL:sB o=L3:=by rw[sB,G,List.length_eq_zero_iff.1 (by omega:o.tags.length=0)];exact List.append_nil _
 refine aA<|S<|C (bD pN)<|Y (kc AT (PA (oB o) (1+2+2) L3 true))<|O iY<|Cn ?_ ?_<;>intro hc11
 ·have hlong:=b9 hc11;rw[F0 hg (fun h=>htp h.1) hLL X];exact C U<|O U<|aC<|Ru<|Qq
 have hlong:=b_ hc11;rw[F1 hg (fun h=>htp h.1) hLL X];exact aA<|C (bD pN)<|Y (kc nA (ON (oB o) (1+2+2) L3 true (by have:=hl3;omega)))<|Y U<|O U<|aC<|Ru<|Qq
theorem kQ:∀ {l} {w},32∉w->(∀x∈l,32∉x)->dN 32 (bQ [32] (w::l))=w::l
 | [],w,h,_=>by rw[bQ,List.flatMap_nil,List.append_nil];exact rO h
 |a::l,w,h,b=>by
  have e:bQ [32] (w::a::l)=w++32::bQ _ (a::l):=rfl;rw[e,jO h,kQ (b a List.mem_cons_self) fun x c=>b x (List.mem_cons_of_mem _ c)]
theorem SB:∀l,bQ [32] (dN 32 l)=l
 | []=>rfl
 | b::l=>by
  have a:=SB l;have c:=qY 32 l;rw[dN];cases e:dN _ l with
  |nil=>rw[e]at c;exact absurd c (Nat.lt_irrefl 0)
  |cons x r =>
   rw[e,bQ]at a;by_cases h:b=32
   ·rw[b6 h,bQ,List.flatMap_cons,List.append_assoc,a,h];rfl
   rw[a8 h,bQ,List.headD_cons,List.tail_cons,List.cons_append,a]
theorem VY{x}(h:0<=x)(a:x<1000000000000000000):UC (Lib.itoa x)=x:=by rw[UC,DF h a]
theorem Li(l):(bs l).map b7=l:=by rw[bs,List.map_map];exact(List.map_congr_left fun s _=>gB s).trans (List.map_id _)
theorem SV:∀l:List _,(l.flatMap qG).length<=2*l.length
 | []=>j6 _
 | b::l=>by
  have ih:=SV l;have h:(qG b).length<=2:=by
   rw[qG]
   grind
  rw[List.flatMap_cons,j9,j8];omega
theorem zb{v}(hv:v.size<=200):(fA (b7 (cW v.data.toList))).1=[⟨3,v,0,0⟩]:=by
 have b:(b7 (cW v.data.toList)).data.toList.drop 0=cW v.data.toList++[]:=by rw[List.append_nil];rfl
 have hl:(cW v.data.toList).length<=402:=by
  have:=SV v.data.toList;rw[aT]at this;rw[cW,j8,j9,List.length_singleton];omega
 have c:0<(cW v.data.toList).length:=by rw[cW,j8];omega
 have d:=DG (JG b) Z (rA b c) c (all_nil (fB b));rw[fA,a8 (by rw[cB];omega),d _ (by rw[cB,List.append_nil];omega)];rfl
theorem CX{w:List UInt8}{r}:(w::r).headD []=w:=rfl
theorem LV{e:b8}(B:fT e=true)(t:fL e=0):nQ (fG e)=e/\(10:UInt8)∉fG e:=by
 obtain ⟨⟨o1,o7⟩,c,i⟩:=uB.1 B;rw[fL]at t;by_cases j:e.op=1
 ·rw[b6 j]at t;obtain ⟨E,z,_⟩:=O7 t;have A:=ld t;rw[FH,b6 j,j]at i;rw[fG,b6 j];constructor
  ·rw[nQ,jO E_,CX,D8,b6 rfl];show (⟨1,a6,a6,a6,0,0,a6,a6,[],(uQ (b7 (eX e.obj).1.data.toList)).1⟩:b8)=e;rw[gB,A];exact i
  rw[z];intro h;rcases List.mem_append.1 h with h|h
  ·revert h;decide
  rcases l7.1 h with h|h
  ·simp_all
  exact aAA E h
 rw[wI,a8 j,j0]at c;obtain ⟨u,c⟩:=c;have l:=mL u;rw[fG,a8 j];by_cases d:e.op=2
 ·rw[b6 d]at c;have n:(0<=e.x/\e.x<1048576)/\0<=e.y/\e.y<1048576:=by
   rw[mf]at c
   grind
  rw[FH,a8 j,b6 d,d]at i;rw[gG,b6 d];have n1:=F9 n.1.1;have n2:=F9 n.2.1;refine⟨?_,xW E_ ?_⟩
  ·rw[nQ,kQ E_ F_,CX,D8,a8 E_,b6 ⟨Z,Z⟩];show (⟨2,b7 e.id.data.toList,a6,a6,UC (Lib.itoa e.x),UC (Lib.itoa e.y),a6,a6,[],g_⟩:b8)=e;rw[gB,VY n.1.1 X,VY n.2.1 X];exact i
  intro w a;simp only[l7,n_,or_false]at a;rcases a with rfl|rfl|rfl|rfl;all_goals first|exact E_|grind|grind|grind
 by_cases g:e.op=3
 ·rw[a8 d,b6 g,j0,k_]at c;have q:=mL c.1;rw[FH,a8 j,a8 d,b6 g,g]at i;rw[gG,a8 d,b6 g];refine⟨?_,xW E_ ?_⟩
  ·have D:bQ [32] [A2,e.id.data.toList,e.key.data.toList,cW e.val.data.toList]=A2++32::(e.id.data.toList++32::(e.key.data.toList++32::cW e.val.data.toList)):=by simp[bQ]
   have x:=qY 32 (cW e.val.data.toList);rw[D,nQ,jO E_,jO l.1,jO q.1,CX,D8,a8 E_,a8 (fun h=>absurd h.1 E_),b6 ⟨Z,F_⟩];show (match (fA (b7 (bQ [32] (dN 32 (cW e.val.data.toList))))).1 with
    | [f]=>(⟨3,b7 e.id.data.toList,a6,a6,0,0,b7 e.key.data.toList,f.text,[],g_⟩:b8)
    |_=>NZ)=e
   rw[SB,zb X,gB,gB];exact i
  intro w a;simp only[l7,n_,or_false]at a;rcases a with rfl|rfl|rfl|rfl;all_goals first|exact E_|exact l.2|exact q.2|exact cc _
 by_cases k:e.op=4
 ·rw[a8 d,a8 g,b6 k,j0,j0,List.all_eq_true]at c;have d_:=c.2;rw[FH,a8 j,a8 d,a8 g,b6 k,k]at i;rw[gG,a8 d,a8 g,b6 k];have r:∀(b:UInt8),(b=32\/b=10)->∀w∈bs e.refs,b∉w:=by
   intro b r w a;obtain ⟨s,x,rfl⟩:=List.mem_map.1 a;have:=mL (d_ s x);rcases r with rfl|rfl;all_goals first|exact this.1|exact this.2
  refine⟨?_,xW E_ ?_⟩
  ·rw[nQ,kQ E_ (by intro w a;rcases l7.1 a with rfl|a;all_goals first|exact l.1|exact r 32 (.inl Z) w a),CX,D8,a8 E_,a8 (fun h=>absurd h.1 E_),a8 (fun h=>absurd h.1 E_),b6 ⟨Z,by simp only[j8];omega⟩];show (⟨4,b7 e.id.data.toList,a6,a6,0,0,a6,a6,(bs e.refs).map b7,g_⟩:b8)=e;rw[gB,Li];exact i
  intro w a;rcases l7.1 a with rfl|a
  ·decide
  rcases l7.1 a with rfl|a;all_goals first|exact l.2|exact r 10 (.inr Z) w a
 by_cases m:e.op=5
 ·rw[FH,a8 j,a8 d,a8 g,a8 k,b6 m,m]at i;rw[gG,a8 d,a8 g,a8 k,b6 m];refine⟨?_,xW E_ ?_⟩
  ·rw[nQ,kQ E_ (by intro w a;rw[q_]at a;subst a;exact l.1),CX,D8,a8 E_,a8 (fun h=>absurd h.1 E_),a8 (fun h=>absurd h.1 E_),a8 (fun h=>absurd h.1 E_),b6 ⟨Z,Z⟩];show (⟨5,b7 e.id.data.toList,a6,a6,0,0,a6,a6,[],g_⟩:b8)=e;rw[gB];exact i
  intro w a;simp only[l7,n_,or_false]at a;rcases a with rfl|rfl;all_goals first|exact E_|exact l.2
 by_cases o:e.op=6
 ·rw[a8 d,a8 g,a8 k,a8 m,b6 o,j0]at c;have q:=mL c.1;have p:=mL c.2;rw[FH,a8 j,a8 d,a8 g,a8 k,a8 m,b6 o,o]at i;rw[gG,a8 d,a8 g,a8 k,a8 m,b6 o];refine⟨?_,xW E_ ?_⟩
  ·rw[nQ,kQ E_ (by intro w a;simp only[l7,n_,or_false]at a;rcases a with rfl|rfl|rfl;all_goals first|exact l.1|exact q.1|exact p.1),CX,D8,a8 E_,a8 (fun h=>absurd h.1 E_),a8 (fun h=>absurd h.1 E_),a8 (fun h=>absurd h.1 E_),a8 (fun h=>absurd h.1 E_),b6 ⟨Z,Z⟩];show (⟨6,b7 e.id.data.toList,b7 e.other.data.toList,b7 e.node.data.toList,0,0,a6,a6,[],g_⟩:b8)=e;rw[gB,gB,gB];exact i
  intro w a;simp only[l7,n_,or_false]at a;rcases a with rfl|rfl|rfl|rfl;all_goals first|exact E_|exact l.2|exact q.2|exact p.2
 have y:e.op=7:=X
 rw[a8 d,a8 g,a8 k,a8 m,a8 o]at c;have p:=mL c;rw[FH,a8 j,a8 d,a8 g,a8 k,a8 m,a8 o,y]at i;rw[gG,a8 d,a8 g,a8 k,a8 m,a8 o];refine⟨?_,xW E_ ?_⟩
 ·rw[nQ,kQ E_ (by intro w a;simp only[l7,n_,or_false]at a;rcases a with rfl|rfl;all_goals first|exact l.1|exact p.1),CX,D8,a8 E_,a8 (fun h=>absurd h.1 E_),a8 (fun h=>absurd h.1 E_),a8 (fun h=>absurd h.1 E_),a8 (fun h=>absurd h.1 E_),a8 (fun h=>absurd h.1 E_),b6 ⟨Z,Z⟩];show (⟨7,b7 e.id.data.toList,b7 e.other.data.toList,a6,0,0,a6,a6,[],g_⟩:b8)=e;rw[gB,gB];exact i
 intro w a;simp only[l7,n_,or_false]at a;rcases a with rfl|rfl|rfl;all_goals first|exact E_|exact l.2|exact p.2
end Go.Proofs.YtopnleflllkbmaaGreatDoor
namespace Go.Abs
section
section
variable{P:Program}{H:aF}
theorem zp(s)(c):Vo P Extern.BytealgCount.count H [.pv (.str s),.pv (.int .u8 c)] (.pv (.int .i64 ((Lib.countByte s.data.toList c.toNat.toUInt8)))):=by intro w I ι cs b h;obtain ⟨u,v,rfl,d,e⟩:=ai b h;rw[d.str_inv,e.int_inv];exact⟨_,Lib.run_countString s c w,.pv (.int _ _)⟩
end
end
end Go.Abs
namespace Go.Proofs.YtopnleflllkbmaaGreatDoor
open Go.Proofs.Tryz
open Go.Abs
abbrev Nm:B_:=⟨#[32]⟩
theorem U2(s)(H:aF):RC 244 [sv s,sv Nm] (iv (Lib.indexByte s.data.toList 32)) H:=by
 refine Pu<|Bd func244 Z ntmps244<|Sz U<|C V<|Y (gM U_)<|O U<|S<|aD<|S<|aR (t:=16) (n:=9) (A_:=decide (Nm=s)) ?_ ?_
 ·all_goals refine Y V<|Y cD<|Dm ?_<;>(refine Sp 19 (fun c=>?_) fun c=>?_)<;>(try contradiction)<;>refine J V<|J V<|J wF<|Y cE<|Da ?_<;>exact Gj (h:=by rfl)
 refine Cn ?_ ?_<;>intro d
 ·have e:=b9 d;subst e;exact Sz U<|aC<|Rt<|Qq
 refine C V<|Y cD<|Da<|Cn ?_ ?_<;>intro b
 ·exact C V<|Y V<|Y (cV Z U_ Z Z X (by rfl) (show 0<(⟨#[32]⟩:B_).size from Nat.zero_lt_one) Z)<|Y (kc aEN (zW s 32 _))<|O U<|aC<|Rt<|Qq
 cases b
theorem Tu(s)(H):RC 282 [sv s,sv Nm] (iv (Lib.indexByte s.data.toList 32)) H:=by refine Pu ?_;exact Bd func282 Z ntmps282<|Sz U<|C V<|Y V<|Y (bF Z Z TL Z (U2 s _))<|O U<|aC<|Rt<|Qq
def oi(s:B_):AV:=if Lib.indexByte s.data.toList 32 = -1 then .tup [sv s,sv ⟨#[]⟩,bv false]else .tup [sv (s.extract 0 (Lib.indexByte s.data.toList 32).toNat),sv (s.extract ((Lib.indexByte s.data.toList 32).toNat+1) s.size),bv true]
theorem Ps(s:B_)(H:aF)(hs:s.size<2^40):RC 194 [sv s,sv Nm] (oi s) H:=by
 refine Pu ?_;have d:=fun H=>U2 s H;rw[oi];rcases Classical.em (Lib.indexByte s.data.toList 32 = -1)with c|c
 ·rw[b6 c];simp only[c]at d;refine Bd Bc Z iu<|C U<|Y U<|O U<|S<|C V<|Y V<|Y (kc TL (d _))<|O U<|C V<|O B0<|Cn ?_ ?_<;>intro b
  ·cases b
  refine aA<|C V<|Y U<|Y U<|O U<|aC<|lX (H':=[]) (.inr Z) Z (aJ Z) (aJ Z) (aJ Z) P_ Qq
 rw[a8 c];obtain ⟨w,r,f,e2,e⟩:=yA c;simp only[e]at d;rw[e,l8];have hl:w.length+1+r.length=s.size:=by rw[<-show s.data.toList.length=s.size by simp,f,j9,j8];omega
 refine Bd Bc Z iu<|C U<|Y U<|O U<|S<|C V<|Y V<|Y (kc TL (d _))<|O U<|C V<|O B0<|Cn ?_ ?_<;>intro b
 ·refine S<|aN a7<|Cq V<|Cq V<|Cq (bT (l:=0) (h:=(w.length)) Z U_ Z Z Z X X Z)<|Cq V<|Cq V<|Cq V<|Cq (gM U_)<|Cq kp<|Cq (bT (l:=(w.length+1)) (h:=s.size) Z U_ Z Z Z X X Z)<|Cq U<|Cq U<|Cq U<|bJ<|Kr<|aC<|lX (H':=[]) (.inr Z) Z (aJ Z) (aJ Z) (aJ Z) P_ Qq
 have hx:=b_ b;omega
theorem aCn(s)(H:aF)(d:s.size<2^40):RC 137 [sv s,sv Nm] (oi s) H:=by
 refine Pu ?_;have b:=fun H=>Ps s H d;rcases Classical.em (Lib.indexByte s.data.toList 32 = -1)with c|c
 ·simp only[oi,b6 c]at b |-;refine Bd Bf Z ix<|C U<|Y U<|O U<|C V<|Y V<|Y (kc Bl (b _))<|Y dH<|Y dH<|Y dH<|Y U<|Y U<|O U<|aC<|lX (H':=[]) (.inr Z) Z (aJ Z) (aJ Z) (aJ Z) P_ Qq
 simp only[oi,a8 c]at b |-;refine Bd Bf Z ix<|C U<|Y U<|O U<|C V<|Y V<|Y (kc Bl (b _))<|Y dH<|Y dH<|Y dH<|Y U<|Y U<|O U<|aC<|lX (H':=[]) (.inr Z) Z (aJ Z) (aJ Z) (aJ Z) P_ Qq
abbrev sNl:B_:=⟨#[10]⟩
def C5(s:B_):Bool:=decide ((1:Int)<=(s.size:Int))&&decide (s.extract (s.size - 1) s.size=sNl)
def D2(s:B_):B_:=if C5 s then s.extract 0 (s.size - 1)else s
theorem ek(s:B_)(H:aF)(hs:s.size<2^40):RC 256 [sv s,sv sNl] (bv (C5 s)) H:=by
 refine Pu<|Bd func256 Z ntmps256<|Sz U<|S<|aR (t:=4) (n:=18) (A_:=C5 s) ?_ ?_
 ·all_goals refine Y V<|Y (gM U_)<|Y V<|Y (gM U_)<|Y B0<|Dm ?_<;>(refine Sp 10 (fun b=>?_) fun b=>?_)<;>(first|contradiction|refine M<|M<|M<|M<|M<|M<|M<|M<|M ?_|refine J V<|J V<|J (gM U_)<|J V<|J (gM U_)<|J (by exact dP Z Z Z (show IntKind.i64.wrap ((s.size:Int) - 1)=((s.size - 1:Nat):Int)by have h11:(1:Int)<=(s.size:Int):=b9 b;rw[IntKind.wrap_i64];omega))<|J (bT (l:=(s.size - 1)) (h:=s.size) Z U_ Z Z Z X X Z)<|J V<|J wF ?_)<;>refine Y cE<|Da ?_<;>exact Gj (h:=by(simp only[C5];rw[show decide ((1:Int)<=(s.size:Int))=_ from b];rfl))
 exact aC<|Rt<|Qq
theorem Ej(s:B_)(H:aF)(c:s.size<2^40):RC 205 [sv s,sv sNl] (sv (D2 s)) H:=by
 refine Pu<|Bd func205 Z ntmps205<|Sz U<|S<|C V<|Y V<|O (kc call256 (ek s _ c))<|Cn ?_ ?_<;>intro b
 ·have h1:=by
   have h:=b;rw[C5,j0,k_]at h;omega
  rw[D2,b6 b];exact C V<|Y V<|Y (gM U_)<|Y V<|Y (gM U_)<|Y (by exact dP Z Z Z (show IntKind.i64.wrap ((s.size:Int) - 1)=((s.size - 1:Nat):Int)by rw[IntKind.wrap_i64];omega))<|Y (bT (l:=0) Z U_ Z Z Z X X Z)<|O U<|aC<|Rt<|Qq
 rw[D2,a8 F_];exact aA<|C V<|O U<|aC<|Rt<|Qq
theorem ji(s)(H)(b:s.size<2^40):RC 144 [sv s,sv sNl] (sv (D2 s)) H:=by refine Pu ?_;exact Bd func144 Z ntmps144<|Sz U<|C V<|Y V<|Y (bF Z Z call205 Z (Ej s _ b))<|O U<|aC<|Rt<|Qq
theorem Us(s:B_)(H:aF):RC 281 [sv s,sv Nm] (iv ((s.data.toList.count 32:Nat):Int)) H:=by
 refine Pu<|Bd func281 Z ntmps281<|Sz U<|S<|C V<|Y (gM U_)<|O cD<|Cn ?_ ?_<;>intro c
 ·cases c
 refine aA<|S<|C V<|Y (gM U_)<|O cD<|Cn ?_ ?_<;>intro b
 ·exact C V<|Y V<|Y (cV Z U_ Z Z X (by rfl) (show 0<(⟨#[32]⟩:B_).size from Nat.zero_lt_one) Z)<|Y (O3 Z Z func304 Z Z Z Z Z (zp s 32))<|O U<|aC<|Rt<|Qq
 cases b
def ofY(l:List UInt8):B_:=⟨l.toArray⟩
def cN(s:B_):List B_:=(dN 32 s.data.toList).map ofY
def CB(D:List B_)(m:Nat):List (List AV):=D.map (fun e=>(S_ e).map AV.pv)++List.replicate m [sv ⟨#[]⟩]
theorem U1(D)(m):(CB D (m+1))[D.length]?=some [sv ⟨#[]⟩]:=by rw[CB,List.getElem?_append_right H_,h_,Nat.sub_self];rfl
theorem jo{s}(h:(cN s).length=1):cN s=[s]:=by rw[cN,h_,xI]at h;have a:32∉s.data.toList:=List.count_eq_zero.1 X;rw[cN,rO a];rfl
theorem QC(D)(m)(x):(CB D (m+1)).set D.length [sv x]=CB (D++[x]) m:=by unfold CB;rw[List.set_append_right _ _ H_,h_,Nat.sub_self,List.map_append,List.append_assoc];rfl
theorem QD(H)(D)(m):∀r∈CB D m,∀a∈r,Clo H a:=by
 intro r b a c;rcases List.mem_append.1 b with b|b
 ·obtain ⟨d,_,rfl⟩:=List.mem_map.1 b;obtain ⟨p,_,rfl⟩:=List.mem_map.1 c;simp
 rw[List.eq_of_mem_replicate b,q_]at c;subst c;simp
instance(H)(D)(m):W_ (H) (CB D m):=⟨QD H D m⟩
theorem exL(s:B_)(i j):(s.extract i j).data.toList=(s.data.toList.drop i).take (j - i):=H_
theorem nw{a b:B_}(h:a.data.toList=b.data.toList):a=b:=by cases a;simp_all
theorem Ii{s:B_}{w r}(h:s.data.toList=w++32::r):s.extract 0 w.length=ofY w/\(s.extract (w.length+1) s.size).data.toList=r:=by
 have hl:s.size=w.length+1+r.length:=by
  show s.data.size=_;rw[<-Array.length_toList,h,j9,j8];omega
 constructor
 ·refine nw ?_;rw[exL,List.drop_zero,Nat.sub_zero,h,List.take_left];rfl
 simp_all
theorem aDy{H1}{id g n}{ob}(ps)(b:H1.get id=some ob)(c:ob.g=g)(a:ob.rows=ps.map (·.map .pv))(d:ps.length=n):Fin [] H1 (.osl id g 0 n) [] (.pv (.sl ps)):=by subst c d;exact Fin.fz _ b a (.osl H_) Z T_ T_
theorem nn(d:B_)(H:aF)(hs:d.size<2^40):RC 251 [sv d,sv Nm,iv 0,iv (-1)] (.pv (aK (cN d))) H:=by
 refine Pu ?_;obtain ⟨N,o⟩:∃N,N=d.data.toList.count 32:=X_;have hNs:N<=d.size:=by rw[o];exact Nat.le_trans List.count_le_length (by simp)
 have x:=fun H=>Us d H;rw[<-o]at x;have e:(dN 32 d.data.toList).length=N+1:=by rw[xI,o]
 refine Bd func251 Z ntmps251<|Sz U<|S<|C V<|O cD<|Cn ?_ ?_<;>intro p
 ·cases p
 refine aA<|S<|C V<|O wF<|Cn ?_ ?_<;>intro u
 ·have:=b9 u;cases this
 refine aA<|S<|C V<|O cM<|Cn ?_ ?_<;>intro k
 ·refine Rd V<|Y V<|Y (kc call281 (x _))<|Y kp<|O U<|C V<|Y V<|Y (gM U_)<|Y kp<|Y (by exact CN (r:=((N+1:Nat):Int)) Z Z Z (by omega))<|O U<|C V<|Y (by exact D0 (id:=31) Z bH xE Oc Z Z Z (by omega) (by omega) (by exact l8 _) (by exact l8 _) (by omega) Z)<|O U<|C V<|Y (by exact dP Z Z Z (show IntKind.i64.wrap (((N+1:Nat):Int) - 1)=(N:Int)by rw[IntKind.wrap_i64];omega))<|O U<|Sz U<|S<|aD ?_;refine fR (fun(D:List B_) (a:B_)=>([(0,sv a),(1,sv Nm),(2,iv 0),(3,iv (N:Int)),(8,.pv (.sl [])),(9,.osl 31 0 0 (N+1)),(10,iv (D.length:Int))],[(31,⟨0,1,9,CB D (N+1 - D.length)⟩)])) (fun D a=>cN d=D++cN a/\a.size<=d.size) (fun D a=>N - D.length) [] d ⟨Z,j6 _⟩ ?_ ?_
  ·exact(cJ.wk (Eb<|Eb<|Eb<|Eb<|Eb<|Ea<|Eb<|T_) (Hc (QD _ _ _)<|T_) T_)
  rintro D a ⟨d_,hr⟩;have g:D.length+(cN a).length=N+1:=by
   have:=congrArg List.length d_;rw[j9,cN,h_,e]at this;exact this.symm
  have hpos:0<(cN a).length:=by rw[cN,h_];exact qY _ _
  obtain ⟨m,c_⟩:∃m,N+1 - D.length=m+1:=⟨N - D.length,by omega⟩;have z:=fun H=>Tu a H;rw[c_];rcases Nat.lt_or_ge D.length N with hlt|hge
  ·have E:Lib.indexByte a.data.toList 32 ≠ -1:=fun h=>by
    have A:=rO (xZ.1 h);rw[cN,A]at g;have:D.length+1=N+1:=g;omega
   obtain ⟨w,r,q,F,B⟩:=yA E;obtain ⟨I,y⟩:=Ii q;have hl:w.length+1+r.length=a.size:=by rw[<-show a.data.toList.length=a.size by simp,q,j9,j8];omega
   have hsp:cN a=a.extract 0 w.length::cN (a.extract (w.length+1) a.size):=by
    rw[cN,q,jO F,List.map_cons,I,cN,y]
   simp only[B]at z;refine S<|C V<|Y V<|O cM<|Cn ?_ ?_<;>intro v
   ·refine aA<|aD<|C V<|Y V<|Y (kc call282 (z _))<|O U<|S<|C V<|O cM<|Cn ?_ ?_<;>intro l
    ·have:=b9 l;omega
    refine aA<|C V<|Y V<|Y V<|Y V<|Y V<|Y (by exact eQ Z Z Z (show IntKind.i64.wrap ((w.length:Int)+0)=(w.length:Int)by rw[IntKind.wrap_i64];omega))<|Y (by exact bT (l:=0) (h:=w.length) Z U_ Z Z Z (by omega) (by omega) Z)<|Y (by exact dI Z bH Z Z Z Z Z (by omega) (by exact l8 _) (by omega) (r7 _))<|Uu (by exact cQ Z V_ Z Z Z Z Z (U1 D m) Nat.zero_lt_one Z (QC D m _))<|Zz<|C V<|Y V<|Y V<|Y (gM U_)<|Y kp<|Y (by exact bT (l:=(w.length+1)) (h:=a.size) Z U_ Z Z Z (by omega) (by omega) Z)<|O U<|Rg<|Dm ?_;refine Y kp<|Da ?_;have G:(D++[a.extract 0 w.length]).length=D.length+1:=by simp
    have t:(a.extract (w.length+1) a.size).size<=d.size:=by rw[<-show (a.extract (w.length+1) a.size).data.toList.length=(a.extract (w.length+1) a.size).size by simp,y];omega
    refine⟨D++[a.extract 0 w.length],a.extract (w.length+1) a.size,⟨by simp_all,t⟩,by omega,?_⟩;rw[G,show N+1 - (D.length+1)=m by omega];exact(cJ.wk (Eb<|Eb<|Eb<|Eb<|Eb<|Ea<|Eb<|T_) (Hc (QD _ _ _)<|T_) T_)
   have:=b_ v;omega
  have hDN:D.length=N:=by omega
  have hone:cN a=[a]:=jo (by omega);have j:m=0:=by omega
  subst j;refine S<|C V<|Y V<|O cM<|Cn ?_ ?_<;>intro n
  ·have:=b9 n;omega
  refine aP<|C V<|Y V<|Y V<|Y (by exact dI Z bH Z Z Z Z Z (by omega) (by exact l8 _) (by omega) (r7 _))<|Uu (by exact cQ Z V_ Z Z Z Z Z (U1 D 0) Nat.zero_lt_one Z (QC D 0 _))<|Zz<|C V<|Y V<|Y kp<|Y (by exact kJ (l:=0) (h:=(D.length+1)) Z bH Z Z Z Z Z Z (by omega) (by omega) Z Z)<|O U<|aC ?_;have s:(D++[a]).map S_=(cN d).map S_:=by simp_all
  refine cR (H':=[]) (.inr Z) Z (aJ Z) (aDy (id:=31) ((D++[a]).map S_) Z Z (by show CB (D++[a]) 0=_;rw[CB,List.replicate_zero,List.append_nil,List.map_map];rfl) (by simp)) ⟨?_,Z⟩;rw[aK,s]
 cases k
theorem wy(s)(H)(b:s.size<2^40):RC 200 [sv s,sv Nm] (.pv (aK (cN s))) H:=by refine Pu ?_;exact Bd func200 Z ntmps200<|Sz U<|C V<|Y V<|Y (bF Z Z call251 Z (nn s _ b))<|O U<|aC<|Rt<|Qq
def zG(t:B_):B_:=if Lib.indexByte t.data.toList 10 = -1 then t else t.extract 0 ((Lib.indexByte t.data.toList 10).toNat+1)
def R0(t:B_):B_:=if Lib.indexByte t.data.toList 10 = -1 then⟨#[]⟩else t.extract ((Lib.indexByte t.data.toList 10).toNat+1) t.size
def jG(s:B_):Nat->B_
 |0=>s
 |k+1=>R0 (jG s k)
def iW(s:B_):List B_:=(rB s.data.toList).map ofY
theorem aCZ(s):ofY s.data.toList=s:=nw (Z)
theorem szY(s:B_):s.data.toList.length=s.size:=rfl
theorem Ji{t:B_}(h:Lib.indexByte t.data.toList 10 ≠ -1):∃w r,t.data.toList=w++10::r/\(10:UInt8)∉w/\Lib.indexByte t.data.toList 10=(w.length:Int)/\t.extract 0 (w.length+1)=ofY (w++[10])/\(t.extract (w.length+1) t.size).data.toList=r/\w.length+1+r.length=t.size:=by
 obtain ⟨w,r,d,g,e⟩:=yA h;have f:w.length+1+r.length=t.size:=by rw[<-szY,d,j9,j8];omega
 have c:t.data.toList=(w++[10])++r:=F_
 refine⟨w,r,d,g,e,nw ?_,?_,f⟩
 ·rw[exL,List.drop_zero,Nat.sub_zero,c,show w.length+1=(w++[(10:UInt8)]).length by simp,List.take_left];rfl
 rw[exL,c,show w.length+1=(w++[(10:UInt8)]).length by simp,List.drop_left];exact List.take_of_length_le G_
theorem BI{t}(h:¬ 0<t.size):iW t=[]:=by have:t.data.toList=[]:=List.length_eq_zero_iff.1 F_;rw[iW,this];rfl
theorem CR{t}(h:0<t.size):iW t=zG t::iW (R0 t)/\(R0 t).size<=t.size:=by
 rw[zG,R0];by_cases a:Lib.indexByte t.data.toList 10 = -1
 ·rw[b6 a,b6 a];refine⟨?_,l6 _⟩;rw[iW,NT (xZ.1 a) (fun e=>by rw[<-szY]at h;simp_all)];rfl
 rw[a8 a,a8 a];obtain ⟨w,r,c,f,g,d,b,e6⟩:=Ji a;rw[g,l8,d];refine⟨?_,H_⟩;rw[iW,c,H8 f,List.map_cons,iW,b]
theorem A8(s):∀k,k<=(iW s).length->iW (jG s k)=(iW s).drop k/\(jG s k).size<=s.size
 |0,_=>⟨Z,j6 _⟩
 | k+1,h=>by
  obtain ⟨b,d⟩:=A8 s k (Nat.le_of_succ_le h);have i:0<(jG s k).size:=by
   rcases Nat.lt_or_ge 0 _ with c|c
   ·exact c
   have g:=BI (t:=jG s k) X;rw[g]at b;have:=congrArg List.length b;rw[q6,List.length_nil]at this;omega
  obtain ⟨f,e⟩:=CR i;rw[f]at b;refine⟨?_,Nat.le_trans e d⟩;have:=congrArg List.tail b;rw[List.tail_drop]at this;exact this
theorem Tm{s}{k}(h:k<(iW s).length):(iW s)[k]?=some (zG (jG s k))/\0<(jG s k).size:=by
 obtain ⟨b,i2⟩:=A8 s k (Nat.le_of_lt h);have c:0<(jG s k).size:=by
  rcases Nat.lt_or_ge 0 _ with d|d
  ·exact d
  have e:=BI (t:=jG s k) X;rw[e]at b;have:=congrArg List.length b;rw[q6,List.length_nil]at this;omega
 refine⟨?_,c⟩;rw[(CR c).1]at b;have:=congrArg List.head? b;rw[List.head?_drop]at this;exact this.symm
def lB(s:B_):Ob:=bx 1 9 [sv s]
theorem Tl(s)(H)(b:H.get 933=none):aS Tryz.prog 142 [sv s] H (fun r H'=>r=.clo 198 [.ref 933 0 0 0]/\H'=(933,lB s)::H):=by refine Bd func142 Z ntmps142<|C (uO Z Z Z Z b)<|O U<|C (gR Z Z)<|O U<|aC ?_;refine cR (.inr Z) Z (aJ Z) Fin.refl Qq
theorem Iw(s:B_)(y:AV)(j:Nat->aF)(hs:s.size<2^40)(f:∀k,(j k).get 933=some (lB (jG s k)))
  (E:∀k,k<(iW s).length->dF Tryz.prog y [sv (zG (jG s k))] ((933,lB (jG s (k+1)))::j k) (fun r H'=>r=bv true/\H'=j (k+1))) :
  aS Tryz.prog 198 [y,.ref 933 0 0 0] (j 0) (fun r H'=>r=.tup []/\H'=j (iW s).length):=by
 refine Bd func198 Z ntmps198<|aD<|bC (σ:=Nat) (fun k=>([(0,y),(1,.ref 933 0 0 0)],j k)) (fun k=>k<=(iW s).length) (fun k=>(iW s).length - k) 0 (l6 _) ?_ ?_
 ·exact E0
 rintro k F;obtain ⟨q,i2⟩:=A8 s k F;have D:=fun H=>rV (jG s k) 10 H;have A:jG s (k+1)=R0 (jG s k):=rfl;refine S<|C (aX Z N_ Z (f k) Z Z Z)<|Y (gM U_)<|O iY<|Cn ?_ ?_<;>intro o
 ·have I:0<(jG s k).size:=I_ o
  have x:k<(iW s).length:=by
   rcases Nat.lt_or_ge k (iW s).length with h|h
   ·exact h
   rw[(CR I).1,List.drop_eq_nil_of_le h]at q;cases q
  have c:=E k x;rw[A,R0,zG]at c;rcases Classical.em (Lib.indexByte (jG s k).data.toList 10 = -1)with i|i
  ·rw[b6 i,b6 i]at c;have l:∀H,RC 199 [sv (jG s k),.pv (.int .u8 10)] (iv (-1)) H:=fun H=>by
    have:=D H
    rwa [show Lib.indexByte (jG s k).data.toList ((10:Int).toNat.toUInt8) = -1 from i]at this
   refine aA<|aD<|Sz U<|S<|C (aX Z N_ Z (f k) Z Z Z)<|Y (kc AU (l _))<|O U<|C V<|O B0<|Cn ?_ ?_<;>intro B
   ·cases B
   refine Rd (aX Z N_ Z (f k) Z Z Z)<|Y U<|Uu (lQ Z V_ Z Z Z Z (f k) Z Z Z)<|Zz<|C V<|Y V<|Y (cZ Z Z Z (c))<|O iT<|Cn ?_ ?_<;>intro u
   ·cases u
   refine aA ?_;exact⟨k+1,X,X,E0⟩
  rw[a8 i,a8 i]at c;obtain ⟨w,r,e1,e2,d_,e4,e5,e6⟩:=Ji i;rw[d_,l8]at c;have l:∀H,RC 199 [sv (jG s k),.pv (.int .u8 10)] (iv (w.length:Int)) H:=fun H=>by
   have:=D H
   rwa [show Lib.indexByte (jG s k).data.toList ((10:Int).toNat.toUInt8)=(w.length:Int)from d_]at this
  refine aA<|aD<|Sz U<|S<|C (aX Z N_ Z (f k) Z Z Z)<|Y (kc AU (l _))<|O U<|C V<|O B0<|Cn ?_ ?_<;>intro t
  ·refine aN a7<|Cr [933] (fun n d=>by exact aX Z N_ Z ((d _ Z).trans (f k)) Z Z Z)<|Cr [] (fun _ _=>V)<|Cr [] (fun n d=>by exact eQ Z Z Z (show IntKind.i64.wrap ((w.length:Int)+1)=((w.length+1:Nat):Int)by rw[IntKind.wrap_i64];omega))<|Cr [] (fun n d=>by exact bT (l:=0) (h:=(w.length+1)) Z U_ Z Z Z X X Z)<|Cr [933] (fun n d=>by exact aX Z N_ Z ((d _ Z).trans (f k)) Z Z Z)<|Cr [] (fun _ _=>V)<|Cr [] (fun n d=>by exact eQ Z Z Z (show IntKind.i64.wrap ((w.length:Int)+1)=((w.length+1:Nat):Int)by rw[IntKind.wrap_i64];omega))<|Cr [] (fun n d=>by exact bT (l:=(w.length+1)) (h:=(jG s k).size) Z U_ Z Z Z X X Z)<|Cr [] (fun _ _=>U) ?_;refine Cp [933] (fun n d=>by exact lQ Z V_ Z Z Z Z ((d _ Z).trans (f k)) Z Z Z)<|bJ<|Kr<|C V<|Y V<|Y (cZ Z Z Z (c))<|O iT ?_;refine Cn ?_ ?_<;>intro z
   ·cases z
   refine aA ?_;exact⟨k+1,X,X,E0⟩
  have:=b_ t;omega
 have G:¬ 0<(jG s k).size:=J_ o
 have v:k=(iW s).length:=by
  rw[BI G]at q;have:=congrArg List.length q;rw[List.length_nil,q6]at this;omega
 subst v;refine aP ?_;exact oP (H':=j (iW s).length) (.inl Z) Z Fin.refl ⟨Z,Z⟩
theorem Dl(w):Lib.trimSuffix (w++[10]) [10]=w:=by rw[Lib.trimSuffix,Lib.hasSuffix];simp
theorem Dn(s:B_):D2 s=b7 (Lib.trimSuffix s.data.toList [10]):=by
 have hz:=szY s;rw[D2];cases h:C5 s with
 | true =>
  rw[C5,j0,k_,k_]at h;obtain ⟨h1,f⟩:=h;have e:s.data.toList.drop (s.size - 1)=[10]:=by
   have:=congrArg (fun x=>x.data.toList) f;rw[exL]at this;refine Eq.trans ?_ (show sNl.data.toList=[10]from Z);rw[<-this];exact(List.take_of_length_le F_).symm
  have b:s.data.toList=s.data.toList.take (s.size - 1)++[10]:=by rw[<-e,List.take_append_drop]
  refine nw ?_;rw[b6 Z,exL,cO,b,Dl,List.drop_zero,Nat.sub_zero,<-b]
 | false =>
  rw[a8 E_,Lib.trimSuffix,a8,gB];intro c;obtain ⟨w,d⟩:=List.isSuffixOf_iff_suffix.1 (show ([10]:List UInt8).isSuffixOf s.data.toList=true from c);have hl:s.size=w.length+1:=G_
  have:C5 s=true:=by
   rw[C5,j0,k_,k_];refine⟨X,nw ?_⟩;rw[exL,<-d,show s.size - 1=w.length by omega,List.drop_left];exact List.take_of_length_le (by rw[List.length_singleton];omega)
  rw[h]at this;cases this
theorem Ur(s):∃b,oi s=.tup [sv (b7 ((dN 32 s.data.toList).headD [])),sv (b7 (s.data.toList.drop (((dN 32 s.data.toList).headD []).length+1))),bv b]:=by
 rw[oi];by_cases h:Lib.indexByte s.data.toList 32 = -1
 ·refine⟨false,?_⟩;rw[b6 h,rO (xZ.1 h),List.headD_cons,List.drop_eq_nil_of_le (Nat.le_succ _),gB];rfl
 obtain ⟨w,r,d,e,f⟩:=yA h;refine⟨true,?_⟩;obtain ⟨j,g⟩:=Ii d;have i:s.data.toList.drop (w.length+1)=r:=by
  simp_all
 have c:(dN 32 s.data.toList).headD []=w:=by rw[d,jO e];rfl
 rw[a8 h,c,i,f,l8,j,show s.extract _ s.size=b7 r from nw (by rw[g,cO])];rfl
theorem wx(s)(i)(h:i<(cN s).length):(cN s)[i]?=some (b7 ((dN 32 s.data.toList).getD i [])):=by rw[cN,h_]at h;rw[cN,r6,List.getD_eq_getElem?_getD,m8 h];rfl
theorem wv(s):(cN s).length=(dN 32 s.data.toList).length:=h_ _
theorem sS{a b}:b7 a=b7 b↔a=b:=⟨fun h=>by rw[<-cO a,h,cO],fun h=>by rw[h]⟩
theorem cI(s)(l):cX (s::l)=s.size+cX l:=rfl
theorem xV{e}{a}(b:e.op≠1)(h:bs a=gG e):(⟨(bQ [32] (bs a)).toArray⟩)++⟨#[10]⟩=b7 (fG e++[10]):=nw (by
 rw[cO,fG,a8 b,<-h];simp)
theorem Re{e}(a:e.op=1):(⟨#[112,117,116,32]⟩)++(eX e.obj).1++⟨#[10]⟩=b7 (fG e++[10]):=nw (by
 rw[fG,b6 a];rfl)
theorem MG{o}:(eX o).1.size<=20000:=by
 rw[eX]
 split
 ·split
  ·exact l6 _
  split
  ·exact l6 _
  simp_all
 exact l6 _
theorem aAL(e:b8)(H:aF)(he:UB e)(hv:fT e=true):RC 207 [av (bL e)] (.tup [sv (b7 (fG e++[10])),iv (fL e)]) H:=by
 refine Pu ?_;obtain ⟨⟨o1,o2⟩,F,o4⟩:=uB.1 hv;rw[wI]at F;have hval:=IE hv;have hs0:cX []=0:=rfl;refine Bd func207 Z ntmps207<|C (kb 1)<|Y U<|O U<|Sz U<|S<|C (bD iL)<|O (bS M_)<|aD<|C cD<|Da<|Cn ?_ ?_<;>intro A
 ·have E:e.op=1:=b9 A;have y:=MG (o:=e.obj);have h4:(⟨#[112,117,116,32]⟩:B_).size=4:=rfl;have h10:(⟨#[10]⟩:B_).size=1:=rfl;have h4s:((⟨#[112,117,116,32]⟩:B_)++(eX e.obj).1).size=4+(eX e.obj).1.size:=F_
  refine C (bD uS)<|Y (vC bW sizeOf135)<|Y (kc call253 (VV e.obj _ he.2.2))<|Y V<|Y dH<|Y dH<|Y U<|O U<|C V<|Y kq<|Y kq<|Y V<|Y U<|O U<|aC<|Ru ?_;rw[Re E,show fL e=(eX e.obj).2 from b6 E];exact Qq
 have E:e.op≠1:=b_ A;rw[a8 E,j0]at F;obtain ⟨o5,o6⟩:=F;have hid:=dG o5;refine C cD<|Da<|Cn ?_ ?_<;>intro D
 ·have h2:e.op=2:=b9 D;rw[b6 h2,mf,j0,k_,k_]at o6;have hx:0<=e.x/\e.x<1048576:=X
  have hy:0<=e.y/\e.y<1048576:=X
  have Yf:(aQ e.x).size<=7:=by rw[<-aT];show (Lib.itoa e.x).length<=7;rw[jU _ hx.1];exact cU X E_
  have siy:(aQ e.y).size<=7:=by rw[<-aT];show (Lib.itoa e.y).length<=7;rw[jU _ hy.1];exact cU X E_
  have hw0:(⟨#[109,111,118,101]⟩:B_).size=4:=rfl;refine aN a7<|Cq (bD jN)<|Cq (bS N_)<|Cq (bD jC)<|Cq (bD mO)<|Cq (bS M_)<|Cq (kc lM (pL e.x X X _))<|Cq (bD jC)<|Cq (bD mN)<|Cq (bS M_)<|Cq (kc lM (pL e.y X X _))<|Cq (aL (([⟨#[109,111,118,101]⟩,e.id,aQ e.x,aQ e.y]:List B_).map S_) Z bH Z Z Z Z Z (iX _))<|Cq U<|bJ<|Kr<|Sr<|Dm ?_;have hw:bs [⟨#[109,111,118,101]⟩,e.id,aQ e.x,aQ e.y]=gG e:=by
   rw[gG]
   (rw[b6 h2];rfl)
  have hne:e.op≠1:=X
  have hj:∀H,RC 204 [.pv (aK [⟨#[109,111,118,101]⟩,e.id,aQ e.x,aQ e.y]),sv ⟨#[32]⟩] (sv ⟨(bQ [32] (bs [⟨#[109,111,118,101]⟩,e.id,aQ e.x,aQ e.y])).toArray⟩) H:=fun H=>wN [⟨#[109,111,118,101]⟩,e.id,aQ e.x,aQ e.y] ⟨#[32]⟩ H E_ (by show 1*_+_+_<_;simp only[cI,j8,List.length_nil];omega);have hjs:(⟨(bQ [32] (bs [⟨#[109,111,118,101]⟩,e.id,aQ e.x,aQ e.y])).toArray⟩:B_).size<=70000:=by
   show (bQ [32] (bs [⟨#[109,111,118,101]⟩,e.id,aQ e.x,aQ e.y])).length<=_;have:=fP [⟨#[109,111,118,101]⟩,e.id,aQ e.x,aQ e.y];simp only[cI,j8,List.length_nil]at this;omega
  have h10:(⟨#[10]⟩:B_).size=1:=rfl;refine Y (kc rG (hj _))<|Y kq<|Y U<|O U<|aC<|Ru ?_;rw[xV hne hw,show fL e=0 from a8 hne];exact Qq
 have h2:e.op≠2:=b_ D;rw[a8 h2]at o6;refine C cD<|Da<|Cn ?_ ?_<;>intro B
 ·have h3:e.op=3:=b9 B;rw[b6 h3,j0,k_]at o6;have hks:=dG o6.1;have hq:=qZ e.val;have hw0:(⟨#[116,97,103]⟩:B_).size=3:=rfl;refine aN a7<|Cq (bD jN)<|Cq (bS N_)<|Cq (bD nR)<|Cq (bS N_)<|Cq (bD oM)<|Cq (bS N_)<|Cq (kc call260 (sg e.val _ X))<|Cq (aL (([⟨#[116,97,103]⟩,e.id,e.key,⟨(cW e.val.data.toList).toArray⟩]:List B_).map S_) Z bH Z Z Z Z Z (iX _))<|Cq U<|bJ<|Kr<|Sr<|Dm ?_;have hw:bs [⟨#[116,97,103]⟩,e.id,e.key,⟨(cW e.val.data.toList).toArray⟩]=gG e:=by
   rw[gG]
   (rw[a8 h2,b6 h3];rfl)
  have hne:e.op≠1:=X
  have hj:∀H,RC 204 [.pv (aK [⟨#[116,97,103]⟩,e.id,e.key,⟨(cW e.val.data.toList).toArray⟩]),sv ⟨#[32]⟩] (sv ⟨(bQ [32] (bs [⟨#[116,97,103]⟩,e.id,e.key,⟨(cW e.val.data.toList).toArray⟩])).toArray⟩) H:=fun H=>wN [⟨#[116,97,103]⟩,e.id,e.key,⟨(cW e.val.data.toList).toArray⟩] ⟨#[32]⟩ H E_ (by show 1*_+_+_<_;simp only[cI,j8,List.length_nil];omega);have hjs:(⟨(bQ [32] (bs [⟨#[116,97,103]⟩,e.id,e.key,⟨(cW e.val.data.toList).toArray⟩])).toArray⟩:B_).size<=70000:=by
   show (bQ [32] (bs [⟨#[116,97,103]⟩,e.id,e.key,⟨(cW e.val.data.toList).toArray⟩])).length<=_;have:=fP [⟨#[116,97,103]⟩,e.id,e.key,⟨(cW e.val.data.toList).toArray⟩];simp only[cI,j8,List.length_nil]at this;omega
  have h10:(⟨#[10]⟩:B_).size=1:=rfl;refine Y (kc rG (hj _))<|Y kq<|Y U<|O U<|aC<|Ru ?_;rw[xV hne hw,show fL e=0 from a8 hne];exact Qq
 have h3:e.op≠3:=b_ B;rw[a8 h3]at o6;refine C cD<|Da<|Cn ?_ ?_<;>intro hc4
 ·have h4:e.op=4:=b9 hc4;rw[b6 h4,j0,j0,k_,k_,List.all_eq_true]at o6;obtain ⟨⟨r1,r2⟩,r3⟩:=o6;have hrs:cX e.refs<=24*e.refs.length:=oY (fun s hs=>dG (r3 s hs));have hw0:(⟨#[114,101,102,115]⟩:B_).size=4:=rfl;have hfl:(([[⟨#[114,101,102,115]⟩,e.id],e.refs]:List (List B_)).flatten).length<2^40:=G_
  refine Rd (bD jN)<|Y (bS N_)<|Y (aL (([⟨#[114,101,102,115]⟩,e.id]:List B_).map S_) Z bH Z Z Z Z Z (iX _))<|Y (bD iK)<|Y (bS aH)<|Y (aL (([[⟨#[114,101,102,115]⟩,e.id],e.refs]:List (List B_)).map (fun l=>[.sl (l.map S_)])) Z GH Z Z Z Z Z H_)<|Y (kc LG (kO [[⟨#[114,101,102,115]⟩,e.id],e.refs] _ F_ hfl))<|O U<|Sr<|Dm ?_;rw[show ([[⟨#[114,101,102,115]⟩,e.id],e.refs]:List (List B_)).flatten=⟨#[114,101,102,115]⟩::e.id::e.refs by simp];have hw:bs (⟨#[114,101,102,115]⟩::e.id::e.refs)=gG e:=by
   rw[gG]
   (rw[a8 h2,a8 h3,b6 h4];rfl)
  have hne:e.op≠1:=X
  have hj:∀H,RC 204 [.pv (aK (⟨#[114,101,102,115]⟩::e.id::e.refs)),sv ⟨#[32]⟩] (sv ⟨(bQ [32] (bs (⟨#[114,101,102,115]⟩::e.id::e.refs))).toArray⟩) H:=fun H=>wN (⟨#[114,101,102,115]⟩::e.id::e.refs) ⟨#[32]⟩ H E_ (by show 1*_+_+_<_;simp only[cI,j8,List.length_nil];omega);have hjs:(⟨(bQ [32] (bs (⟨#[114,101,102,115]⟩::e.id::e.refs))).toArray⟩:B_).size<=70000:=by
   show (bQ [32] (bs (⟨#[114,101,102,115]⟩::e.id::e.refs))).length<=_;have:=fP (⟨#[114,101,102,115]⟩::e.id::e.refs);simp only[cI,j8,List.length_nil]at this;omega
  have h10:(⟨#[10]⟩:B_).size=1:=rfl;refine Y (kc rG (hj _))<|Y kq<|Y U<|O U<|aC<|Ru ?_;rw[xV hne hw,show fL e=0 from a8 hne];exact Qq
 have h4:e.op≠4:=b_ hc4;rw[a8 h4]at o6;refine C cD<|Da<|Cn ?_ ?_<;>intro w
 ·have z:e.op=5:=b9 w;have hw0:(⟨#[100,114,111,112]⟩:B_).size=4:=rfl;refine Rd (bD jN)<|Y (bS N_)<|Y (aL (([⟨#[100,114,111,112]⟩,e.id]:List B_).map S_) Z bH Z Z Z Z Z (iX _))<|O U<|Sr<|Dm ?_;have hw:bs [⟨#[100,114,111,112]⟩,e.id]=gG e:=by
   rw[gG]
   (rw[a8 h2,a8 h3,a8 h4,b6 z];rfl)
  have hne:e.op≠1:=X
  have hj:∀H,RC 204 [.pv (aK [⟨#[100,114,111,112]⟩,e.id]),sv ⟨#[32]⟩] (sv ⟨(bQ [32] (bs [⟨#[100,114,111,112]⟩,e.id])).toArray⟩) H:=fun H=>wN [⟨#[100,114,111,112]⟩,e.id] ⟨#[32]⟩ H E_ (by show 1*_+_+_<_;simp only[cI,j8,List.length_nil];omega);have hjs:(⟨(bQ [32] (bs [⟨#[100,114,111,112]⟩,e.id])).toArray⟩:B_).size<=70000:=by
   show (bQ [32] (bs [⟨#[100,114,111,112]⟩,e.id])).length<=_;have:=fP [⟨#[100,114,111,112]⟩,e.id];simp only[cI,j8,List.length_nil]at this;omega
  have h10:(⟨#[10]⟩:B_).size=1:=rfl;refine Y (kc rG (hj _))<|Y kq<|Y U<|O U<|aC<|Ru ?_;rw[xV hne hw,show fL e=0 from a8 hne];exact Qq
 have z:e.op≠5:=b_ w;rw[a8 z]at o6;refine C cD<|Da<|Cn ?_ ?_<;>intro hc6
 ·have d_:e.op=6:=b9 hc6;rw[b6 d_,j0]at o6;have hns:=dG o6.1;have y:=dG o6.2;have hw0:(⟨#[115,112,108,105,116]⟩:B_).size=5:=rfl;refine Rd (bD jN)<|Y (bS N_)<|Y (bD qP)<|Y (bS N_)<|Y (bD kG)<|Y (bS N_)<|Y (aL (([⟨#[115,112,108,105,116]⟩,e.id,e.node,e.other]:List B_).map S_) Z bH Z Z Z Z Z (iX _))<|O U<|Sr<|Dm ?_;have hw:bs [⟨#[115,112,108,105,116]⟩,e.id,e.node,e.other]=gG e:=by
   rw[gG]
   (rw[a8 h2,a8 h3,a8 h4,a8 z,b6 d_];rfl)
  have hne:e.op≠1:=X
  have hj:∀H,RC 204 [.pv (aK [⟨#[115,112,108,105,116]⟩,e.id,e.node,e.other]),sv ⟨#[32]⟩] (sv ⟨(bQ [32] (bs [⟨#[115,112,108,105,116]⟩,e.id,e.node,e.other])).toArray⟩) H:=fun H=>wN [⟨#[115,112,108,105,116]⟩,e.id,e.node,e.other] ⟨#[32]⟩ H E_ (by show 1*_+_+_<_;simp only[cI,j8,List.length_nil];omega);have hjs:(⟨(bQ [32] (bs [⟨#[115,112,108,105,116]⟩,e.id,e.node,e.other])).toArray⟩:B_).size<=70000:=by
   show (bQ [32] (bs [⟨#[115,112,108,105,116]⟩,e.id,e.node,e.other])).length<=_;have:=fP [⟨#[115,112,108,105,116]⟩,e.id,e.node,e.other];simp only[cI,j8,List.length_nil]at this;omega
  have h10:(⟨#[10]⟩:B_).size=1:=rfl;refine Y (kc rG (hj _))<|Y kq<|Y U<|O U<|aC<|Ru ?_;rw[xV hne hw,show fL e=0 from a8 hne];exact Qq
 have d_:e.op≠6:=b_ hc6;rw[a8 d_]at o6;have y:=dG o6;have hw0:(⟨#[106,111,105,110]⟩:B_).size=4:=rfl;refine Rd (bD jN)<|Y (bS N_)<|Y (bD kG)<|Y (bS N_)<|Y (aL (([⟨#[106,111,105,110]⟩,e.id,e.other]:List B_).map S_) Z bH Z Z Z Z Z (iX _))<|O U<|Sr<|Dm ?_;have hw:bs [⟨#[106,111,105,110]⟩,e.id,e.other]=gG e:=by
  rw[gG]
  (rw[a8 h2,a8 h3,a8 h4,a8 z,a8 d_];rfl)
 have hne:e.op≠1:=X
 have hj:∀H,RC 204 [.pv (aK [⟨#[106,111,105,110]⟩,e.id,e.other]),sv ⟨#[32]⟩] (sv ⟨(bQ [32] (bs [⟨#[106,111,105,110]⟩,e.id,e.other])).toArray⟩) H:=fun H=>wN [⟨#[106,111,105,110]⟩,e.id,e.other] ⟨#[32]⟩ H E_ (by show 1*_+_+_<_;simp only[cI,j8,List.length_nil];omega);have hjs:(⟨(bQ [32] (bs [⟨#[106,111,105,110]⟩,e.id,e.other])).toArray⟩:B_).size<=70000:=by
  show (bQ [32] (bs [⟨#[106,111,105,110]⟩,e.id,e.other])).length<=_;have:=fP [⟨#[106,111,105,110]⟩,e.id,e.other];simp only[cI,j8,List.length_nil]at this;omega
 have h10:(⟨#[10]⟩:B_).size=1:=rfl;refine Y (kc rG (hj _))<|Y kq<|Y U<|O U<|aC<|Ru ?_;rw[xV hne hw,show fL e=0 from a8 hne];exact Qq
theorem PZ:∀ {l} {acc},(rJ acc l).2=0->(∀e∈l,fL e=0)/\rJ acc l=(acc++l.flatMap fun e=>fG e++[10],0)/\(acc.length<=20000->(rJ acc l).1.length<=20000)
 | [],acc,_=>⟨(fun e h=>by cases h),by rw[rJ,List.flatMap_nil,List.append_nil],fun h=>h⟩
 |e::l,acc,h=>by
  rw[rJ]at h |-;by_cases b:fL e≠0\/20000<(acc++(fG e++[10])).length
  ·simp_all
  rw[a8 b]at h |-;obtain ⟨i1,i2,i3⟩:=PZ h
  simp_all
theorem IF{l}(h:lD l=true):l≠[]/\∀e∈l,fT e=true:=by
 rw[lD,j0]at h
 grind
theorem Pa(w):Lib.trimSuffix (w++[10]) [10]=w:=by rw[Lib.trimSuffix,Lib.hasSuffix];simp
theorem D9{l}(h:(dW l).2=0):iB (dW l).1=(l,0):=by
 have b:lD l=true:=by
  rw[dW]at h
  grind
 obtain ⟨hne,d⟩:=IF b;rw[dW,b6 b]at h;obtain ⟨c,f,h3⟩:=PZ h;rw[List.nil_append]at f;have j:dW l=(b7 (l.flatMap fun e=>fG e++[10]),0):=by rw[dW,b6 b,f]
 have hsz:(b7 (l.flatMap fun e=>fG e++[10])).size<=20000:=by rw[cB];simp_all
 have hl:(rB (b7 (l.flatMap fun e=>fG e++[10])).data.toList).map (fun s=>nQ (Lib.trimSuffix s [10]))=l:=by
  have g:=G8 (fun w i=>by
   obtain ⟨e,a,rfl⟩:=List.mem_map.1 i;exact(LV (d e a) (c e a)).2)
  rw[List.flatMap_map]at g;rw[cO,g,List.map_map,List.map_map];refine(List.map_congr_left fun e a=>?_).trans (List.map_id l);show nQ _=e;rw[Pa];exact(LV (d e a) (c e a)).1
 rw[j,iB]
 simp_all
end Go.Proofs.YtopnleflllkbmaaGreatDoor
