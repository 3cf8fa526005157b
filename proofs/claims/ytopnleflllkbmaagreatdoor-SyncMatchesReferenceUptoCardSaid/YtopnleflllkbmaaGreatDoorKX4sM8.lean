/-
  Parts of the proof. Conditions: each theorem's own.
-/
import Derived.Test.YtopnleflllkbmaaGreatDoorKX4sM7
set_option linter.unusedVariables false
set_option linter.unusedSimpArgs false
set_option maxRecDepth 100000
set_option maxHeartbeats 8000000
open List Nat
open List renaming length->C
open Option renaming some->A,none->ζ
open Bool renaming true->N,false->η
open ByteArray renaming size->T,data->μ
open Array renaming toList->ν
open Decidable renaming decide->θ
open Go.IntKind renaming i64->ξ
open Go.Proofs.Tryz renaming prog->φ
open Go.Proofs.YtopnleflllkbmaaGreatDoor
namespace Go.Proofs
open Tryz
theorem vJ:type_of% call37:=call37
theorem rM:type_of% call63:=call63
theorem rK:type_of% call64:=call64
end Go.Proofs
namespace Go.Proofs.C
open Go.Proofs.Tryz
open Go.Abs
theorem Hr{s}{i j}{f}(h:fF s i=(A f,j)):f.pos=i:=by
 rw[fF]at h
 split at h
 .cases h
 split at h
 .cases h
 split at h
 .cases h;rfl
 split at h
 .cases h;rfl
 split at h
 .cases h;rw[FR]
  split<;>rfl
 split at h<;>(cases h;rfl)
theorem Sm{s}{i}(b:nN s i≠1)(a:nN s i≠2):∃f j,fF s i=(A f,j):=by
 rw[fF,a8 b,a8 a]
 split
 .simp_all
 split
 .simp_all
 split
 .simp_all
 split<;>exact⟨_,_,Z⟩
theorem xb(s:B_)(H:aF)(D:T s<2^40):RC 164 [sv s] (.tup [.pv (C6 (fR s).1),iv (fR s).2.1,iv (fR s).2.2]) H:=by
 refine Pu<|Bd func164 Z ntmps164<|O aJ<|Y aJ<|V aJ<|S<|O aA<|Y (gG U_)<|V iZ<|Cn ?_ ?_<;>intro p
 .have e:fR s=([],2,-1):=by rw[fR,b6 (I_ p)]
  rw[e];refine O aJ<|Y aJ<|V aJ<|aC<|mP (H':=[]) (.inr Z) Z (aI Z) (aI Z) (aI Z) P_ ?_;exact Qq
 have v:¬ 20000<T s:=J_ p
 have R:fR s=kT [] (HH s 0):=by rw[fR,a8 v];rfl
 generalize fR s=g at R |-;refine aB<|Sz (cZ (id:=905) (sz:=3) (ty:=189) Z Z Z)<|Sr<|Dm<|tq Z Z (bH Z Z call218 Z (xz s 0 _ D (k_ _))) ?_;rintro r H' ⟨m4,rfl,hj1,d_,hj3,B,rfl⟩;refine V aJ<|S<|aD<|dU (λ(j:Nat) (L:List b7)=>([(0,sv s),(5,.osl 905 (C L) 0 (C L)),(6,iv (j:Int))],[(905,⟨C L,3,189,mA L⟩)])) (λj L=>j<=T s/\C L<=5000/\g=kT L (HH s j)/\(j<T s->nN s j≠1/\nN s j≠2)) (λj L=>T s - j) m4 [] ⟨d_,k_ _,F_,B⟩ ?_ ?_
 .exact L_
 rintro j L ⟨hj,hL,b,E⟩;refine S<|O aA<|Y aA<|Y (gG U_)<|V cF<|Cn ?_ ?_<;>intro o
 .have d:j<T s:=I_ o
  have ⟨G,F⟩:=E d;have ⟨f,e,c⟩:=Sm G F;have l:=Lo s j [(905,⟨C L,3,189,mA L⟩)] D d G F;have m:=Hr c;by_cases k:f.err=0
  .rw[LA c k]at l;have w:=PY c k d;have x:=zp d c k;rw[x]at b;refine aB<|aD<|O aA<|Y aA<|Y (kc call219 (l))<|Y aA<|Y dL<|Y dL<|Y dL<|Y (kl 7 ub)<|Uu (jH sizeOf189)<|Y aJ<|V aJ<|S<|O aA<|V yQ<|Cn ?_ ?_<;>intro J
   ·((cases J;done))
   refine aB<|S<|O aA<|Y (by exact dQ Z cS Z Z Z)<|V cG<|Cn ?_ ?_<;>intro n
   .have z:C L=5000:=I_ n
    have i:g=([],2,(j:Int)):=by rw[b,kT,a8 (λh=>h k),b6 z,m]
    rw[i];refine O aA<|Y aJ<|Y aJ<|V aJ<|aC<|mP (H':=[]) (.inr Z) Z (aI Z) (aI Z) (aI Z) P_ ?_;exact Qq
   have z:¬ C L=5000:=J_ n
   rw[kT,a8 (λh=>h k),a8 z]at b;refine aB<|O aA<|Y (by exact aX Z jD sizeOf189 Z Z Z Z (by simp only[Zl,K_];rfl) Z)<|Y (by exact aM [K_ f] Z iL Z Z Z Z Z R_)<|Y (by exact bW (ps:=[K_ f]) Z iL yh Z Z Z Z Z (yE _) Z R_ (m:=1) Z X Z (CZ L f))<|V aJ<|Rd aA<|Dm ?_;refine tq Z Z (bH Z Z call218 Z (xz s e _ D w.2)) ?_;rintro r H' ⟨e_,rfl,g1,Q,c_,K,rfl⟩;refine Da ?_;refine⟨e_,L++[f],⟨Q,G_,by rw[b,c_],K⟩,X,?_⟩;dsimp only;rw[j8,List.length_singleton];exact(cH.wk (Eb<|Ea<|Eb<|T_) (Hc (cV _ _)<|T_) T_)
  have P:(!θ (f.err=0))=N:=by rw[decide_eq_false k];rfl
  rw[TB c k]at l;have i:g=([],f.err,(j:Int)):=by rw[b,Hg d c k,kT,b6 k,m]
  rw[i];refine aB<|aD<|O aA<|Y aA<|Y (kc call219 (l))<|Y aA<|Y dL<|Y dL<|Y dL<|Y (kl 7 ub)<|Uu (jH sizeOf189)<|Y aJ<|V aJ<|S<|O aA<|V (cP.valY (K0 Z Z Z) (P))<|Cn ?_ ?_<;>intro y
  .refine O aA<|Y aA<|Y aJ<|Y aJ<|V aJ<|aC<|mP (H':=[]) (.inr Z) Z (aI Z) (aI Z) (aI Z) P_ ?_;exact Qq
  ((cases y;done))
 have u:¬ j<T s:=J_ o
 rw[Hh u,kT]at b;rw[b];refine aP<|S ?_;refine gO.ent (cH.fz (id:=905) (E':=[(5,.pv (C6 L))]) (H':=[]) (L.map K_) Z (by rw[map_map];rfl)
  (by intro q I;rw[q_]at I;subst I;exact⟨_,Z,.osl (by rw[r8,drop_zero,take_of_length_le (by rw[g_];exact h_ _)])⟩) Z T_ T_) ?_
 refine Rd aA<|Y aJ<|Y aJ<|V aJ<|aC<|mP (H':=[]) (.inr Z) Z (aI Z) (aI Z) (aI Z) Fin.refl ?_;exact Qq
open Go.Lib
def wW(s:B_)(i:Nat):B_:=(cR s).getD i a6
def nG(s:B_):B_:=s.extract (T (wW s 0)+T (wW s 1)+T (wW s 2)+3) (T s)
def IX(s:B_):Bool:=(θ ((fR (nG s)).2.1=0)&&θ (C (fR (nG s)).1=1))&&θ (((fR (nG s)).1.getD 0 LF).kind=3)
def wg(rP:B_->l7)(s:B_):b9 :=if wW s 0=a_ wPut/\4<T s then⟨1,a6,a6,a6,0,0,a6,a6,[],rP (s.extract 4 (T s))⟩
 else if wW s 0=a_ J3/\C (cR s)=4 then⟨2,wW s 1,a6,a6,KL (wW s 2),KL (wW s 3),a6,a6,[],j7⟩
 else if(wW s 0=a_ BS/\4<=C (cR s))/\IX s=N then⟨3,wW s 1,a6,a6,0,0,wW s 2,((fR (nG s)).1.getD 0 LF).text,[],j7⟩
 else if wW s 0=a_ J2/\2<=C (cR s) then⟨4,wW s 1,a6,a6,0,0,a6,a6,(cR s).drop 2,j7⟩
 else if wW s 0=a_ J5/\C (cR s)=2 then⟨5,wW s 1,a6,a6,0,0,a6,a6,[],j7⟩
 else if wW s 0=a_ CV/\C (cR s)=4 then⟨6,wW s 1,wW s 3,wW s 2,0,0,a6,a6,[],j7⟩
 else if wW s 0=a_ J4/\C (cR s)=3 then⟨7,wW s 1,wW s 2,a6,0,0,a6,a6,[],j7⟩
 else O0
theorem aAC{s}{i}(h:i<C (cR s)):((cR s).map S_)[i]?=A (S_ (wW s i)):=by rw[r7,wW,getD_eq_getElem?_getD,p_ h];rfl
theorem GF(s)(i):T (wW s i)<=T s:=by
 rw[wW,getD_eq_getElem?_getD];cases e:(cR s)[i]? with
 |none=>exact k_ _
 |some w =>
  have b:=m7 e;obtain ⟨x,c,rfl⟩:=mem_map.1 b;have:=rS _ c;rw[aU]at this;show T (a_ x)<=_;rw[cB];omega
theorem IQ(c):∀l,((dZ c l).map List.length).sum+C (dZ c l)=C l+1
 | []=>rfl
 | b::l=>by
  have B:=IQ c l;have a:=rV c l;rw[dZ]
  split
  .rw[map_cons,sum_cons,j6,j6];show 0+_+_=_;omega
  cases e:dZ c l with
  |nil=>rw[e]at a;exact absurd a (Nat.lt_irrefl 0)
  |cons x r =>
   grind
theorem aBa{s}(h:4<=C (cR s)):T (wW s 0)+T (wW s 1)+T (wW s 2)+3<=T s:=by
 have j:=IQ 32 (ν (μ s));have g:∀i,wW s i=a_ ((dZ _ _).getD i _):=λi=>by
  rw[wW,cR,getD_eq_getElem?_getD,getD_eq_getElem?_getD,r7];cases (dZ _ _)[i]?<;>rfl
 rw[g,g,g];rw[cR,g_]at h
 match e:dZ _ _ with
 | []=>rw[e]at h;exact absurd h H_
 | [_]=>rw[e]at h;simp only[j6,length_nil]at h;omega
 | [_,_]=>rw[e]at h;simp only[j6,length_nil]at h;omega
 | [_,_,_]=>rw[e]at h;simp only[j6,length_nil]at h;omega
 |a::b::c::d::r =>
  rw[e]at j;simp[map_cons,sum_cons,j6]at j;show C a+C b+C c+3<=_;omega
variable{rP:B_->l7}
def tK(J0:List b7):Int:=EG (J0.getD 0 LF).text
def AY(J0:List b7):List B_:=((J0.drop 3).takeWhile λf=>θ (f.kind=1)).map b7.text
def SN(J0:List b7):Bool:=θ ((J0.getD 2 LF).kind=2)&&θ ((J0.getD 3 LF).kind=2)
def dj(s:B_):Int:=KK s (min (T s) 7)
def tN(J0:List b7):List m9×Bool:=if tK J0=1 then ML [] (J0.drop 4)else ML [] (J0.drop (3+C (AY J0)+1))
def uW(J0:List b7):l7:=if tK J0=1 then⟨(J0.getD 1 LF).text,1,dj (J0.getD 2 LF).text,dj (J0.getD 3 LF).text,[],(tN J0).1⟩else⟨(J0.getD 1 LF).text,tK J0,0,0,AY J0,(tN J0).1⟩
def Tx(s:B_):l7×Int:=if 20000<T s then(j7,2)else if(fR s).2.1=0/\4<=C (fR s).1 then
 (if tK (fR s).1=1/\SN (fR s).1=η then(j7,5)else if(tN (fR s).1).2=N/\fM (uW (fR s).1)=(s,0)then(uW (fR s).1,0)else(j7,5))else(j7,5)
theorem fu{s}(B:∀b∈ν (μ s),48<=b.toNat/\b.toNat<=57):∀k,k<=T s->∃n,Lib.decFrom 0 (s.data.toList.take k)=A n/\Z1 s k=n/\KK s k=n
 |0,_=>⟨0,Z,Z,Z⟩
 |k+1,h=>by
  obtain ⟨n,i,g,f⟩:=fu B k X;have ⟨b,d⟩:∃b,s.data.toList[k]?=A b:=aR v7;have j:=B b (m7 d);have e:Lib.digitVal b=A (b.toNat - 48):=by rw[Lib.digitVal,b6 j]
  have c:bA s k=(b.toNat):=by rw[bA,d];rfl
  refine⟨n*10+(b.toNat - 48),Lib.decFrom_take _ k 0 n b _ i d e,?_,?_⟩
  .rw[Z1,g];omega
  rw[KK,f,c];show 10*n+((b.toNat:Int) - 48) % 256=_;omega
theorem ri{x}(b:0<=x):(aV x).data.toList=Lib.decDigits x.toNat:=by show (Lib.itoa x).toArray.toList=_;rw[kN _ b]
theorem GR{x:Int}(p:0<=x)(D:x<10000000):KL (aV x)=x/\dj (aV x)=x:=by
 have h:=ri p;have i:∀b∈(aV x).data.toList,48<=b.toNat/\b.toNat<=57:=λb e=>by rw[h]at e;exact pZ _ e
 have d:T (aV x)=C (Lib.decDigits x.toNat):=by rw[<-aU,h]
 have B:0<T (aV x):=by rw[d];exact length_pos_iff.2 (oH _)
 have l:T (aV x)<=7:=by rw[d];exact cU X E_
 have ⟨n,k,m,o⟩:=fu i (T (aV x)) (h_ _);rw[take_of_length_le F_,h,jV]at k;cases k;have g:(List.range (T (aV x))).all (Fp (aV x))=N:=by
  rw[all_eq_true];intro j E;have ⟨b,e⟩:∃b,(aV x).data.toList[j]?=A b:=aR F_;have F:=i b (m7 e);have f:bA (aV x) j=(b.toNat:Int):=by rw[bA,e];rfl
  rw[Fp,f,decide_eq_false X,decide_eq_false X];rfl
 constructor
 .rw[KL,g,decide_eq_true l,Bool.and_true,b6 Z,m];omega
 rw[dj,Nat.min_eq_left l,o];omega
theorem OF{s:B_}:∀(l:List m9) (i:Nat),(∀t,t∈l->cK t.key=N)->s.data.toList.drop i=nZ l->∃J0,GC s i (nZ l) J0/\U7 J0 l/\∀acc,ML acc J0=(acc++l,N)
 | [],i,_,h=>⟨[],all_nil h,⟨Z,(λf w=>by cases w),Z⟩,λacc=>by rw[ML,List.append_nil]⟩
 | t::l,i,d,h=>by
  have u:nZ (t::l)=32::(ν (μ t.key)++61::(cX (ν (μ t.val))++nZ l)):=by
   rw[nZ,flatMap_cons,TN];simp[nZ]
  rw[u]at h |-;have g:=(qO h).2.2;have b:=fS g;have a:=(qO b).2.2;have o:=fS a;have ⟨J0,r,q,p⟩:=OF l _ (λt n=>d t (mem_cons_of_mem _ n)) o;have j:0<C (cX (ν (μ t.val))):=by rw[cX,j6];omega
  have v:=D8 (KB a) Z (sA a j) j r;have m:=HF b E_ v;have k:=nO g (d t mem_cons_self) (λc r' e=>by cases e;exact⟨E_,E_,E_⟩) m;refine⟨_,vE h k,U7.cons q Z Z Z,λacc=>?_⟩;rw[ML,p,append_assoc];rfl
theorem zt{α:Type}{p}{D B}{c:α}(h:∀a∈D,p a=N)(E:p c=η):(D++c::B).takeWhile p=D:=F_
theorem Ax{o:l7}(J:oY o=N):∃J0,GC (EP o) 0 (sV o) J0/\(∀f,f∈J0->f.err=0)/\C J0<=5000/\4<=C J0/\¬ (tK J0=1/\SN J0=η)/\(tN J0).2=N/\uW J0=o:=by
 have ⟨hr,ht,e_,D,_⟩:=CH J;have ⟨q,v_,hn,hz⟩:=ma J;have ⟨A_,E⟩:=BQ (G9 J);have r:∀t,t∈o.tags->cK t.key=N:=λt h=>((yB.1 e_).1 t h).1;have y:=XU o;by_cases n:o.kind=1
 .have e:sV o=(eP o.kind).data.toList++32::(ν (μ o.id)++32::(Lib.itoa o.x++32::(Lib.itoa o.y++nZ o.tags))):=by
   rw[sV,mN,b6 n];simp
  rw[e]at y |-;have u:=fS y;rw[aU]at u;have z:=(qO u).2.2;have s:=fS z;rw[aU]at s;have B:=(qO s).2.2;have F:=fS B;have w:=(qO F).2.2;have P:=fS w;have ⟨J0,Q,⟨r1,m4,r3⟩,I⟩:=OF o.tags _ r P;have b:=nO y A_ (mI _) (vE u (nO z D (mI _) (vE s (RA B q.1 X (mI _) (vE F (RA w v_.1 X (RV _) Q))))));have g:∀(a b c d:b7) (R:List b7),tK (⟨1,eP o.kind,0,0⟩::b::c::d::R)=1:=λa b c d R=>by
   show EG (eP o.kind)=1;rw[E,n]
  refine⟨_,b,λf m=>?_,?_,?_,?_,?_,?_⟩
  .simp only[l9]at m;rcases m with rfl|rfl|rfl|rfl|m
   .rfl
   .rfl
   .rfl
   .rfl
   exact m4 f m
  .simp only[j6];omega
  .simp only[j6];omega
  .rintro⟨-,h⟩;simp[SN]at h
  .rw[tN,b6 (g LF _ _ _ _)];show (ML [] J0).2=N;rw[I]
  rw[uW,b6 (g LF _ _ _ _),tN,b6 (g LF _ _ _ _)];show (⟨o.id,1,dj (aV o.x),dj (aV o.y),[],(ML [] J0).1⟩:l7)=o;rw[I,(GR q.1 X).2,(GR v_.1 X).2];exact QK Z n Z Z (hn n) Z
 have ⟨k,l,p⟩:=W6 J n;have v:=uU J;rw[p]at v;have e:sV o=(eP o.kind).data.toList++32::(ν (μ o.id)++32::(40::(ν (μ k)++(l.flatMap (λk=>32::ν (μ k))++41::nZ o.tags)))):=by
  rw[sV,mN,a8 n,p,yW];simp
 rw[e]at y |-;have u:=fS y;rw[aU]at u;have z:=(qO u).2.2;have s:=fS z;rw[aU]at s;have B:=(qO s).2.2;have F:=(qO B).2.2;have w:=fS F;rw[aU]at w;have P:=fS w;have h8:=(qO P).2.2;have ⟨J0,Q,⟨r1,m4,r3⟩,I⟩:=OF o.tags _ r h8;have o_:=HF P E_ Q;have ⟨R,hR,i,W⟩:=UY l _ _ _ (λx q=>v x (mem_cons_of_mem _ q)) w (KA _) o_;have K:HQ (l.flatMap (λk=>32::ν (μ k))++41::nZ o.tags):=by
  cases l with
  |nil=>exact KA _
  |cons a l=>rw[flatMap_cons];exact mI _
 have b:=nO y A_ (mI _) (vE u (nO z D (mI _) (vE s (HF B E_ (nO F (v k mem_cons_self) K hR)))));have τ:C R=C l:=by rw[<-i,g_]
 have σ:C o.refs=C l+1:=by rw[p,j6]
 have g:∀(b c d:b7) (z_:List b7),tK (⟨1,eP o.kind,0,0⟩::b::c::d::z_)=o.kind:=λb c d z_=>by
  show EG (eP o.kind)=_;exact E
 have H:∀(a b c d:b7) (j:Nat),d.kind=1->AY (a::b::c::d::(R++⟨4,⟨#[41]⟩,j,0⟩::J0))=d.text::R.map b7.text:=λa b c d j f_=>by
  show (((d::R)++⟨4,⟨#[41]⟩,j,0⟩::J0).takeWhile _).map b7.text=_;rw[zt (λx q=>?_) x7]
  .rfl
  rcases l9.1 q with rfl|q
  .exact decide_eq_true f_
  exact decide_eq_true (W x q).1
 have G:∀(b c d:b7) (j:Nat),d.kind=1->tN (⟨1,eP o.kind,0,0⟩::b::c::d::(R++⟨4,⟨#[41]⟩,j,0⟩::J0))=(o.tags,N):=λb c d j f_=>by
  rw[tN,a8 (by rw[g];exact n),H _ _ _ _ _ f_];have L:∀a b c:b7,(a::b::c::d::(R++⟨4,⟨#[41]⟩,j,0⟩::J0)).drop (3+C (d.text::R.map b7.text)+1)=J0:=λa b c=>by
   rw[show 3+C (d.text::R.map b7.text)+1=C (a::b::c::d::(R++[⟨4,⟨#[41]⟩,j,0⟩])) by simp;omega,show a::b::c::d::(R++⟨4,⟨#[41]⟩,j,0⟩::J0)=(a::b::c::d::(R++[⟨4,⟨#[41]⟩,j,0⟩]))++J0 by simp];exact drop_left
  rw[L,I];rfl
 refine⟨_,b,λf m=>?_,?_,?_,?_,?_,?_⟩
 .simp only[l9,mem_append]at m;rcases m with rfl|rfl|rfl|rfl|m|rfl|m
  .rfl
  .rfl
  .rfl
  .rfl
  .exact(W f m).2
  .rfl
  exact m4 f m
 .simp only[j6,j8];omega
 .simp only[j6,j8];omega
 .rintro⟨h,-⟩;rw[g]at h;exact n h
 .rw[G _ _ _ _ rfl]
 have ⟨y_,z2⟩:=hz n;rw[uW,a8 (by rw[g];exact n),G _ _ _ _ Z,H _ _ _ _ _ Z,g];refine QK Z Z y_ z2 ?_ Z;rw[p,i]
theorem ga{o}(h:(fM o).2=0):Tx (fM o).1=(o,0):=by
 have ⟨c,d,I⟩:=QL h;have ⟨J0,b,a,D,E,F,G,H⟩:=Ax c;have B:fR (EP o)=(J0,0,0):=by
  rw[fR,a8 X,b _ (by exact le_succ _),NP J0 _ a F_,nil_append]
 rw[d];show Tx (EP o)=(o,0);rw[Tx,a8 X]
 simp_all
theorem Vd{a b}(h:a_ a=a_ b):a=b:=by have:=congrArg (λx=>ν (μ x)) h;exact this
theorem rT(l):cR (a_ l)=(dZ 32 l).map a_:=rfl
theorem IJ(l)(i):wW (a_ l) i=a_ ((dZ 32 l).getD i []):=by rw[wW,rT,getD_eq_getElem?_getD,getD_eq_getElem?_getD,r7];cases (dZ _ l)[i]?<;>rfl
theorem qz{v}(D:T v<=200):fR (a_ (cX (ν (μ v))))=([⟨3,v,0,0⟩],0,0):=by
 have b:(a_ (cX (ν (μ v)))).data.toList.drop 0=cX (ν (μ v))++[]:=by rw[append_nil];rfl
 have B:C (cX (ν (μ v)))<=402:=by
  have:=UF (ν (μ v));rw[aU]at this;rw[cX,j6,j8,length_singleton];omega
 have c:0<C (cX (ν (μ v))):=by rw[cX,j6];omega
 have d:=D8 (KB b) Z (sA b c) c (all_nil (fS b));rw[fR,a8 (by rw[cB];omega),d _ (by rw[cB,append_nil];omega)];rfl
theorem LW{l}{k}:(a_ l).extract k (T (a_ l))=a_ (l.drop k):=nM (by rw[sR,cJ,cJ])
theorem SG(Q:∀o,(fM o).2=0->rP (fM o).1=o){e:b9}(K:gN e=N)(J:fY e=0):wg rP (a_ (fV e))=e:=by
 have ⟨⟨o1,o7⟩,c,j⟩:=uY.1 K;rw[fY]at J;have d:∀ {a b:List UInt8},a≠b->∀ {p:Prop},¬ (a_ a=a_ b/\p):=λh p W=>h (Vd W.1);by_cases m:e.op=1
 .rw[b6 m]at J;have ⟨u,m4,_⟩:=QL J;have H:=Q _ J;rw[GD,b6 m,m]at j;rw[fV,b6 m];have P:0<C (fM e.obj).1.data.toList:=by
   rw[m4];show 0<C (sV e.obj);rw[sV,mN,j8,j8,j6];omega
  have I:wW (a_ (wPut++32::(fM e.obj).1.data.toList)) 0=a_ wPut:=by
   rfl
  rw[wg,I,b6 ⟨Z,by rw[cB,j8,j6];show 4<3+_;omega⟩,LW];show (⟨1,a6,a6,a6,0,0,a6,a6,[],rP (a_ (fM e.obj).1.data.toList)⟩:b9)=e;rw[fU,H];exact j
 rw[xL,a8 m,l6]at c;have ⟨R,c⟩:=c;have y:=nB R;rw[fV,a8 m];by_cases f:e.op=2
 .rw[b6 f]at c;have r:(0<=e.x/\e.x<1048576)/\0<=e.y/\e.y<1048576:=by
   rw[qh]at c
   grind
  rw[GD,a8 m,b6 f,f]at j;rw[gU,b6 f];have n1:=HA r.1.1;have n2:=HA r.2.1;have i:dZ 32 (bZ [32] [J3,ν (μ e.id),Lib.itoa e.x,Lib.itoa e.y])=[J3,ν (μ e.id),Lib.itoa e.x,Lib.itoa e.y]:=lH E_ F_;simp only[wg,IJ,rT,i,getD_cons_zero,getD_cons_succ];rw[a8 (d E_),b6 ⟨T_,Z⟩,fU];show (⟨2,e.id,a6,a6,KL (aV e.x),KL (aV e.y),a6,a6,[],j7⟩:b9)=e;rw[(GR r.1.1 X).1,(GR r.2.1 X).1];exact j
 by_cases g:e.op=3
 .rw[a8 f,b6 g,l6,j0]at c;have B:=nB c.1;rw[GD,a8 m,a8 f,b6 g,g]at j;rw[gU,a8 f,b6 g];have F:bZ [32] [BS,ν (μ e.id),ν (μ e.key),cX (ν (μ e.val))]=BS++32::(ν (μ e.id)++32::(ν (μ e.key)++32::cX (ν (μ e.val)))):=by simp[bZ]
  have t:=rV 32 (cX (ν (μ e.val)));have i:dZ 32 (bZ [32] [BS,ν (μ e.id),ν (μ e.key),cX (ν (μ e.val))])=BS::ν (μ e.id)::ν (μ e.key)::dZ 32 (cX (ν (μ e.val))):=by
   rw[F,kD E_,kD y.1,kD B.1]
  have n:nG (a_ (bZ [32] [BS,ν (μ e.id),ν (μ e.key),cX (ν (μ e.val))]))=a_ (cX (ν (μ e.val))):=by
   rw[nG,LW];simp only[IJ,i,getD_cons_zero,getD_cons_succ,cB];rw[F];congr 1;have:BS++32::(ν (μ e.id)++32::(ν (μ e.key)++32::cX (ν (μ e.val))))=(BS++32::(ν (μ e.id)++32::(ν (μ e.key)++[32])))++cX (ν (μ e.val)):=H_
   rw[this,show C BS+C e.id.data.toList+C e.key.data.toList+3=C (BS++32::(ν (μ e.id)++32::(ν (μ e.key)++[32]))) by grind];exact drop_left
  have z:=qz (v:=e.val) X;have D:IX (a_ (bZ [32] [BS,ν (μ e.id),ν (μ e.key),cX (ν (μ e.val))]))=N:=by
   rw[IX,n,z];rfl
  simp only[wg,IJ,rT,i,getD_cons_zero,getD_cons_succ,n,D,z];rw[a8 (d E_),a8 (d E_),b6 ⟨⟨T_,G_⟩,T_⟩,fU,fU];exact j
 by_cases l:e.op=4
 .rw[a8 f,a8 g,b6 l,l6,l6,all_eq_true]at c;have L:=c.2;rw[GD,a8 m,a8 f,a8 g,b6 l,l]at j;rw[gU,a8 f,a8 g,b6 l];have i:dZ 32 (bZ [32] (J2::ν (μ e.id)::bs e.refs))=J2::ν (μ e.id)::bs e.refs:=lH E_ (by
   intro w k;rcases l9.1 k with rfl|k
   .exact y.1
   obtain ⟨s,i,rfl⟩:=mem_map.1 k;exact(nB (L s i)).1)
  simp only[wg,IJ,rT,i,getD_cons_zero,getD_cons_succ];rw[a8 (d E_),a8 (d E_),a8 (λh=>d E_ h.1),b6 ⟨T_,by simp only[g_,j6];omega⟩,fU];show (⟨4,e.id,a6,a6,0,0,a6,a6,(bs e.refs).map a_,j7⟩:b9)=e;rw[Oo];exact j
 by_cases q:e.op=5
 .rw[GD,a8 m,a8 f,a8 g,a8 l,b6 q,q]at j;rw[gU,a8 f,a8 g,a8 l,b6 q];have i:dZ 32 (bZ [32] [J5,ν (μ e.id)])=[J5,ν (μ e.id)]:=lH E_ (by intro w k;rw[q_]at k;subst k;exact y.1);simp only[wg,IJ,rT,i,getD_cons_zero,getD_cons_succ];rw[a8 (d E_),a8 (d E_),a8 (λh=>d E_ h.1),a8 (d E_),b6 ⟨T_,Z⟩,fU];exact j
 by_cases x:e.op=6
 .rw[a8 f,a8 g,a8 l,a8 q,b6 x,l6]at c;have B:=nB c.1;have E:=nB c.2;rw[GD,a8 m,a8 f,a8 g,a8 l,a8 q,b6 x,x]at j;rw[gU,a8 f,a8 g,a8 l,a8 q,b6 x];have i:dZ 32 (bZ [32] [CV,ν (μ e.id),ν (μ e.node),ν (μ e.other)])=[CV,ν (μ e.id),ν (μ e.node),ν (μ e.other)]:=lH E_ (by intro w k;simp only[l9,q8,or_false]at k;rcases k with rfl|rfl|rfl;all_goals first|exact y.1|exact B.1|exact E.1);simp only[wg,IJ,rT,i,getD_cons_zero,getD_cons_succ];rw[a8 (d E_),a8 (d E_),a8 (λh=>d E_ h.1),a8 (d E_),a8 (d E_),b6 ⟨T_,Z⟩,fU,fU,fU];exact j
 have G:e.op=7:=X
 rw[a8 f,a8 g,a8 l,a8 q,a8 x]at c;have E:=nB c;rw[GD,a8 m,a8 f,a8 g,a8 l,a8 q,a8 x,G]at j;rw[gU,a8 f,a8 g,a8 l,a8 q,a8 x];have i:dZ 32 (bZ [32] [J4,ν (μ e.id),ν (μ e.other)])=[J4,ν (μ e.id),ν (μ e.other)]:=lH E_ (by intro w k;simp only[l9,q8,or_false]at k;rcases k with rfl|rfl;all_goals first|exact y.1|exact E.1);simp only[wg,IJ,rT,i,getD_cons_zero,getD_cons_succ];rw[a8 (d E_),a8 (d E_),a8 (λh=>d E_ h.1),a8 (d E_),a8 (d E_),a8 (d E_),b6 ⟨T_,Z⟩,fU,fU];exact j
theorem fx{rE:B_->b9}{s:B_}{B w:List UInt8}{r:List UInt8}{acc:List b9}(i:ν (μ s)=B++(w++r))(f:(10:UInt8)∉w)(h:EU rE s (C B)=(C B,acc)):∀j,j<=C w->EU rE s (C B+j)=(C B,acc)
 |0,_=>h
 |j+1,hj=>by
  have g:=fx i f h j X;have k:s.data.toList[C B+j]?=w[j]?:=G_
  have ⟨b,c⟩:∃b,w[j]?=A b:=aR X;have d:b≠10:=λe=>f G_;have a:bA s (C B+j)=(b.toNat:Int):=by rw[bA,k,c];rfl
  rw[show C B+(j+1)=(C B+j)+1 by omega,EU,a,a8 ?_,g];rw[j0];intro e;exact d (UInt8.toNat_inj.1 (by show b.toNat=10;omega))
theorem Jp{rE}{s}{B w}{r}{acc}(b:ν (μ s)=B++(w++10::r))(c:10∉w)(h:EU rE s (C B)=(C B,acc)):EU rE s (C B+C w+1)=(C B+C w+1,acc++[rE (a_ w)]):=by
 have e:=fx b c h _ (h_ _);have f:s.data.toList[C B+C w]?=A 10:=F_
 have a:bA s (C B+C w)=10:=by rw[bA,f];rfl
 have d:s.extract _ _=a_ w:=AQ (by rw[b,drop_left]);rw[EU,a,e,b6 (show θ _=N by decide),d]
theorem XA{rE}{s:B_}:∀(l) (i_) (acc),ν (μ s)=i_++l.flatMap (λe=>fV e++[10])->(∀e∈l,(10:UInt8)∉fV e/\rE (a_ (fV e))=e)->EU rE s (C i_)=(C i_,acc)->EU rE s (T s)=(T s,acc++l)
 | [],i_,acc,b,_,h=>by
  rw[List.flatMap_nil,List.append_nil]at b;rw[<-aU,b,h,List.append_nil]
 | e::l,i_,acc,b,c,h=>by
  rw[List.flatMap_cons,List.append_assoc]at b;obtain ⟨d,D⟩:=c e mem_cons_self;have E:=Jp b d h;have B:C (i_++(fV e++[10]))=C i_+C (fV e)+1:=by
   grind
  have:=XA (rE:=rE) (s:=s) l (i_++(fV e++[10])) (acc++[e]) F_ (λx f=>c x (mem_cons_of_mem _ f)) F_;rw[this,append_assoc];rfl
theorem Nc{rE}(k:∀e,gN e=N->fY e=0->rE (a_ (fV e))=e)(t):gPr rE t=iN t:=by
 have key:∀l,eH l=(t,0)->(EU rE t (T t)).2=l:=λl h=>by
  have a:(eH l).2=0:=by rw[h]
  have g:lU l=N:=by
   rw[eH]at a
   grind
  have ⟨B,d⟩:=JH g;rw[eH,b6 g]at h a;have ⟨f,i,D⟩:=RL a;rw[nil_append]at i;rw[i]at h;have j:t=a_ _:=(congrArg Prod.fst h).symm;have:=XA (s:=t) l [] [] (by rw[j];rfl) (λe b=>⟨(M5 (d e b) (f e b)).2,k e (d e b) (f e b)⟩) Z;rw[this];rfl
 rw[gPr];by_cases c:20000<T t
 .rw[b6 c,iN,b6 c]
 rw[a8 c];by_cases h:eH (EU rE t (T t)).2=(t,0)
 .rw[b6 h];have a:(eH (EU rE t (T t)).2).2=0:=by rw[h]
  have:=FA a;rw[h]at this;exact this.symm
 rw[iN,a8 c]
 grind
theorem pb(n):∀(J0) (acc),(∀f∈J0,T f.text<=n)->(∀t∈acc,T t.key<=n/\T t.val<=n)->C (ML acc J0).1<=C acc+C J0/\∀t∈(ML acc J0).1,T t.key<=n/\T t.val<=n
 | [],acc,_,h=>by
  rw[ML]
  simp_all
 | [a],acc,_,h=>by
  rw[ML]
  simp_all
 | [a,b],acc,_,h=>by
  rw[ML]
  simp_all
 | a::b::c::r,acc,e,h=>by
  rw[ML]
  split
  .have d:=pb n r (acc++[mkT a c]) (λf B=>e f G_) (λt D=>by
    grind)
   rw[j8,length_singleton]at d;simp[j6];exact⟨X,d.2⟩
  simp_all
theorem Hi{J0:List _}{n}(h:∀f∈J0,T f.text<=n)(i):T (J0.getD i LF).text<=n:=by
 rw[getD_eq_getElem?_getD];cases e:J0[i]? with
 |none=>exact k_ _
 |some f=>grind
theorem pO:mw j7:=⟨E_,⟨E_,λt h=>by cases h⟩,E_,λs a=>by cases a⟩
theorem wa{J0:List b7}{n:Nat}(E:n<2^40)(d:∀f∈J0,T f.text<=n)(D:C J0<549755813888):mw (uW J0):=by
 have b:NF (tN J0).1:=by
  rw[tN]
  split
  .have h:=pb n (J0.drop 4) [] (λf c=>d f (mem_of_mem_drop c)) (λt a=>by cases a);rw[q6,length_nil]at h;exact⟨X,λt a=>⟨by have:=(h.2 t a).1;omega,by have:=(h.2 t a).2;omega⟩⟩
  have h:=pb n (J0.drop (3+C (AY J0)+1)) [] (λf c=>d f (mem_of_mem_drop c)) (λt a=>by cases a);rw[q6,length_nil]at h;exact⟨X,λt a=>⟨by have:=(h.2 t a).1;omega,by have:=(h.2 t a).2;omega⟩⟩
 have B:=Hi d 1;rw[uW]
 split
 .exact⟨G_,b,F_,λs e=>by cases e⟩
 refine⟨G_,b,?_,λs e=>?_⟩
 .have:=(takeWhile_sublist (l:=J0.drop 3) λf=>θ (f.kind=1)).length_le;rw[AY,g_];rw[q6]at this;omega
 obtain ⟨f,c,rfl⟩:=mem_map.1 (show s∈AY J0 from e);have:=d f (mem_of_mem_drop ((takeWhile_sublist _).subset c));omega
theorem Jr{s}(a:T s<2^40):mw (Tx s).1:=by
 rw[Tx]
 split
 .exact pO
 split
 .split
  .exact pO
  split
  .exact wa a (λf b=>G8 s f b) (xN s a)
  exact pO
 exact pO
theorem nx(s):C (cR s)<=T s+1:=by have a:=IQ 32 (ν (μ s));rw[aU]at a;rw[cR,g_];omega
theorem ez{s w}(h:w∈cR s):T w<=T s:=by obtain ⟨x,a,rfl⟩:=mem_map.1 h;have:=rS _ a;rw[aU]at this;show T (a_ x)<=_;rw[cB];omega
theorem FL{f x y}{id b node key d}{refs}{c}(m:T id<=20000)(j:T b<=20000)(g:T node<=20000)(h:T key<=20000)(e:C refs<=20001)(l:∀s∈refs,T s<=20000)(k:mw c):
  VY ⟨f,id,b,node,x,y,key,d,refs,c⟩/\C (⟨f,id,b,node,x,y,key,d,refs,c⟩:b9).refs<2^40 :=
 ⟨⟨⟨Nat.lt_of_le_of_lt m H_,Nat.lt_of_le_of_lt j H_,Nat.lt_of_le_of_lt g H_,Nat.lt_of_le_of_lt h H_⟩,⟨Nat.lt_of_le_of_lt e H_,λs i=>Nat.lt_of_le_of_lt (l s i) H_⟩,k⟩,Nat.lt_of_le_of_lt e H_⟩
theorem Jx(f:∀x:B_,T x<=20000->mw (rP x)){s:B_}(e:T s<=20000):VY (wg rP s)/\C (wg rP s).refs<2^40:=by
 have b:=λi=>Nat.le_trans (GF s i) e;have a:T (a6:B_)<=20000:=k_ _;have d:C ([]:List B_)<=20001:=k_ _;have c:∀s∈([]:List B_),T s<=20000:=λs h=>by cases h
 rw[wg]
 split
 .exact FL a a a a d c (f _ (Nat.le_trans (gE s _ _) e))
 split
 .exact FL (b 1) a a a d c pO
 split
 .exact FL (b 1) a a (b 2) d c pO
 split
 .exact FL (b 1) a a a (by rw[q6];have:=nx s;omega) (λw g=>Nat.le_trans (ez (mem_of_mem_drop g)) e) pO
 split
 .exact FL (b 1) a a a d c pO
 split
 .exact FL (b 1) (b 3) (b 2) a d c pO
 split
 .exact FL (b 1) (b 2) a a d c pO
 exact FL a a a a d c pO
abbrev oQ(id:B_)(k x y:Int)(n:Nat):Ob:=bx 6 135 [sv id,iv k,iv x,iv y,.osl 906 n 0 n,.pv .nils]
def qH(id:B_)(k x y:Int)(R:List B_):aF:=[(906,⟨C R,1,9,bQ R⟩),(7,oQ id k x y (C R)),(2,bx 6 135 ((bT j7).map .pv))]
abbrev qE(s:B_)(J0:List b7):dD:=[(0,sv s),(2,.ref 2 0 0 0),(4,.pv (C6 J0)),(7,.ref 7 0 0 0)]
theorem aEn(id)(k x y)(R)(s):qH id k x y (R++[s])=[(906,⟨C R+1,1,9,bQ (R++[s])⟩),(7,oQ id k x y (C R+1)),(2,bx 6 135 ((bT j7).map .pv))]:=by simp[qH]
theorem Hd{α:Type}{p}:∀ {l:List α} {i},i<=C (l.takeWhile p)->(C l<=i->C (l.takeWhile p)=i)/\∀a,l[i]?=A a->(p a=N->i<C (l.takeWhile p))/\(p a=η->C (l.takeWhile p)=i)
 | [],i,h=>⟨λ_=>by simp_all,λa E=>by grind⟩
 | b::l,i,h=>by
  rw[List.takeWhile_cons]at h |-;by_cases F:p b=N
  .cases i with
   |zero=>simp_all
   |succ i =>
    obtain ⟨B,D⟩:=Hd (l:=l) (p:=p) (i:=i) F_
    simp_all
  simp_all
theorem TP{s}(h:T s<=20000):C (fR s).1<100000:=by
 unfold fR
 split
 .decide
 have a:=JC (kO s (T s+1) 0) [];have B:=BU s (T s+1) 0;rw[length_nil]at a;omega
theorem pc(s:B_)(H:aF)(hs:T s<=20000):RC 162 [sv s] (.tup [av (bT (Tx s).1),iv (Tx s).2]) H:=by
 refine Pu ?_;have d:=xN s X;have ρ:=TP hs;have P:=λf hf=>G8 s f hf;have u:=wa (n:=T s) X P d;have hlx:=λH=>xb s H X;rw[Tx,a8 X];have ⟨J0,hT⟩:∃J0,J0=(fR s).1:=X_;have ⟨er,her⟩:∃e,e=(fR s).2.1:=X_;have ⟨pp,hpp⟩:∃e,e=(fR s).2.2:=X_;simp only[<-hT,<-her,<-hpp]at d ρ P u hlx |-;clear hT her hpp;have D:C (J0.map K_)=C J0:=g_ _;refine Bd func162 Z ntmps162<|O (kl 2 WH)<|V aJ<|S<|O aA<|Y (gG U_)<|V iZ<|Cn ?_ ?_<;>intro hc1
 .exact absurd (b8 hc1) X
 refine aB<|O aA<|Y (kc call164 (hlx _))<|Y aA<|Y dL<|Y dL<|Y dL<|Y aJ<|Y aJ<|V aJ<|S<|S<|aT (t:=30) (n:=8) (A_:=!θ (er=0)||θ ((C (J0.map K_):Int)<4)) ?_ ?_
 .all_goals refine Y aA<|Y yQ<|Dm ?_<;>(refine Sp 26 (λh26=>?_) λh26=>?_)<;>(try exact w_)<;>(first|refine M<|M<|M ?_|refine U aA<|U (fJ cS)<|U cF ?_)<;>refine V cE ?_<;>exact Gj (h:=by simp_all)
 refine Cn ?_ ?_<;>intro hc2
 .have hb:=hc2;rw[a8 (λe=>by grind)];refine O (pB F9)<|Uu (jH sizeOf135)<|V aJ<|aC<|fO (H':=[]) (.inr Z) Z (C8 cD sizeOf135) (aI Z) (P_ (r:=.tup [av (bT j7),iv 5])) ?_;exact Qq
 have hb:=hc2;rw[r6,Bool.not_eq_false',j0,n_]at hb;have h4:4<=C J0:=X
 rw[b6 ⟨hb.1,h4⟩];have ⟨k,ht0⟩:=aR (show 0<C J0 by omega);have ⟨t,ht1⟩:=aR (show 1<C J0 by omega);have ⟨t2,κ⟩:=aR (show 2<C J0 by omega);have ⟨K,δ⟩:=aR (show 3<C J0 by omega);have i0:=cC (f:=K_) ht0;have i1:=cC (f:=K_) ht1;have i2:=cC (f:=K_) κ;have i3:=cC (f:=K_) δ;have hd:∀ {i:Nat} {f:b7},J0[i]?=A f->J0.getD i LF=f:=fun {i f} h=>by simp_all
 have d1:=hd ht1;have d2:=hd κ;have d3:=hd δ;have q:tK J0=EG k.text:=by rw[tK,hd ht0]
 refine aB<|O aA<|Y (jA iL)<|Y (FV iP)<|Y (fK N_)<|Y (pB Ov)<|Y (kl 7 Fx)<|Uu (jH sizeOf135)<|Zz<|S<|S ?_;refine gO.ent (E':=qE s J0) (H':=qH t.text 0 0 0 []) (Q_ 906 1 9) ?_;refine Rg<|V aJ<|aD<|bC (σ:=Nat) (λj=>(qE s J0++[(8,iv ((j+1:Nat):Int))],qH t.text (kF k.text j) 0 0 [])) (λj=>j<=5) (λj=>5 - j) 0 (k_ _) ?_ ?_
 .exact L_
 rintro j hj;refine S<|O aA<|V EQ<|Cn ?_ ?_<;>intro hc3
 .have hj5:j<5:=I_ hc3
  refine aB<|S<|aD<|S<|aN a7<|Cq aA<|Cq (jA iL)<|Cq (FV iP)<|Cq (fK N_)<|Cq aA<|Cq (kc call214 (GQ ((j+1:Nat):Int) _))<|Cq vT<|bG<|Kr<|Cn ?_ ?_<;>intro hc4
  .have hw:k.text=eP ((j+1:Nat):Int):=b8 hc4;refine Rd aA<|Y (bD eK)<|Uu (by exact cT Z sizeOf3 Z Z Z Z Z Z u1 y0 y0)<|Zz<|Rd aA<|Y iH<|Da ?_;refine⟨j+1,X,X,?_⟩;rw[show kF k.text (j+1)=((j+1:Nat):Int)by rw[kF,b6 hw.symm]];exact L_
  have hw:k.text≠eP ((j+1:Nat):Int):=b_ hc4;refine aB<|Rd aA<|Y iH<|Da ?_;refine⟨j+1,X,X,?_⟩;rw[show kF k.text (j+1)=kF k.text j by rw[kF,a8 (Ne.symm hw)]];exact L_
 have hj5:j=5:=J_ hc3
 subst hj5;rw[xk];generalize EG k.text=x at q |-;refine aP<|Sz aJ<|S<|O (bD eK)<|Y (bU M_)<|V cG<|Cn ?_ ?_<;>intro hc5
 .have z:x=1:=b8 hc5;subst z;have z2:T t2.text<=20000:=Nat.le_trans (P _ (m7 κ)) hs;have z3:T K.text<=20000:=Nat.le_trans (P _ (m7 δ)) hs;refine S<|S<|aT (t:=64) (n:=13) (A_:=!θ (t2.kind=2)||!θ (K.kind=2)) ?_ ?_
  .all_goals refine Y aA<|Y (jA iL)<|Y (FV vQ)<|Y (fK M_)<|Y yQ<|Dm ?_<;>(refine Sp 58 (λh58=>?_) λh58=>?_)<;>(try exact w_)<;>(first|refine M<|M<|M<|M<|M ?_|refine U aA<|U (jA iL)<|U (FV vQ)<|U (fK M_)<|U yQ ?_)<;>refine V cE ?_<;>exact Gj (h:=by(simp only[*,Zo];done))
  refine Cn ?_ ?_<;>intro hc6
  .have B:=hc6;rw[b6 ⟨q,by rw[SN,d2,d3];revert B;cases θ (t2.kind=2)<;>cases θ (K.kind=2)<;>decide⟩];refine O (pB F9)<|Uu (jH sizeOf135)<|V aJ<|aC<|fO (H':=[]) (.inr Z) Z (C8 cD sizeOf135) (aI Z) (P_ (r:=.tup [av (bT j7),iv 5])) ?_;exact Qq
  have B:=hc6;rw[a8 (λe=>by have h2:=e.2;rw[SN,d2,d3]at h2;revert B h2;cases θ (t2.kind=2)<;>cases θ (K.kind=2)<;>decide)];have v:min ((4:Nat):Int) (C (J0.map K_):Int)=((min (4) (C J0):Nat):Int):=by rw[D];omega
  have g:∀r∈J0.map K_,C r=3:=λr hr=>by
   obtain ⟨f,_,rfl⟩:=mem_map.1 hr;rfl
  have y:((J0.map K_).take (C (J0.map K_))).drop (min (4) (C J0))=(J0.drop (4)).map K_:=by
   rw[take_length,map_drop];rcases Nat.le_total (4) (C J0) with h|h
   .rw[Nat.min_eq_left h]
   rw[Nat.min_eq_right h,drop_of_length_le (by rw[D];exact h_ _),drop_of_length_le (by rw[D];exact h)]
  have hml:min (4) (C J0)<=C (J0.map K_):=by rw[D];exact Nat.min_le_right _ _
  have w:=λH=>M7 (J0.drop (4)) H u5;have F:=(show tN J0=ML [] (J0.drop 4)by rw[tN,b6 q]);have E:=(show uW J0=⟨t.text,1,dj t2.text,dj K.text,[],(tN J0).1⟩by rw[uW,b6 q,d1,d2,d3]);have ⟨G,b⟩:∃G,G=ML [] (J0.drop (4)):=X_;rw[E,F]at u;rw[E,F];simp only[<-b]at w u |-;clear b F E;refine aB<|aN a7<|x_ aA<|x_ ((jA iL))<|x_ ((FV iP))<|x_ ((fK N_))<|x_ (by exact bH Z Z call215 Z (SM t2.text _ X))<|x_ aA<|x_ ((jA iL))<|x_ ((FV iP))<|x_ ((fK N_))<|x_ (by exact bH Z Z call215 Z (SM K.text _ X))<|x_ ((pB MC))<|Cr [7] (λ_ h=>fh nC h)<|Cp [7] (λH1 o=>by exact rC Z sizeOf104 Z Z Z Z ((o _ Z).trans Z) Z Z u1 y0 y0)<|bG<|Kr<|S ?_;refine gO.ent (cH.fzG (id:=906) (E':=qE s J0++[(9,iv ((4:Nat):Int))]) (H':=[(7,bx 6 135 [sv (t.text),iv (1),iv ((dj t2.text)),iv ((dj K.text)),.pv (aL (([]:List B_))),.pv .nils]),(2,bx 6 135 ((bT j7).map .pv))]) ((([]:List B_)).map S_) Z (dS _) ?_ Z ?_ ?_) ?_
  .intro p hp;simp only[cons_append,nil_append,l9,q8,or_false]at hp;rcases hp with rfl|rfl|rfl|rfl|rfl<;>exact⟨_,Z,.same (by simp;try rfl)⟩
  .exact⟨⟨_,Z,Z,Z,Z,mO Z (bJ (.same H_) (bJ (.same H_) (bJ (.same H_) (bJ (.same H_) (bJ (.osl (lE S_ _)) (bJ (.same H_) kG))))))⟩,⟨_,Z,Z,Z,Z,eL H_⟩,T_⟩
  .exact T_
  refine Rd aA<|Y aA<|Y aA<|Y (fJ cS)<|Y (DG Z Z Z v)<|Y (eG (l:=(min (4) (C J0))) (h:=(C (J0.map K_))) Z iL Z (by assumption) Z Z X X y)<|Y (kc call216 (w _))<|Y aA<|Y dL<|Y dL<|Y aJ<|V aJ<|O aA<|Y (bD gJ)<|Uu (by exact cT Z sizeOf133 Z Z Z Z Z Z u1 y0 y0)<|Zz<|O (xD cD sizeOf135)<|Y (kc call217 (DB ⟨t.text,1,(dj t2.text),(dj K.text),([]:List B_),G.1⟩ _ u))<|Y aA<|Y dL<|Y dL<|Y aJ<|V aJ<|S<|S ?_;refine aT (t:=131) (n:=13) (A_:=(!G.2||!θ ((fM ⟨t.text,1,(dj t2.text),(dj K.text),([]:List B_),G.1⟩).2=0))||!θ ((fM ⟨t.text,1,(dj t2.text),(dj K.text),([]:List B_),G.1⟩).1=s)) ?_ ?_
  .all_goals refine Y aA<|Y iE<|Dm ?_<;>(refine Sp 123 (λI=>?_) λI=>?_)<;>(try exact w_)<;>(first|refine M<|M ?_|refine U aA<|U yQ ?_)<;>refine Y cE<|Dm ?_<;>(refine Sp 127 (λQ=>?_) λQ=>?_)<;>(try exact w_)<;>(first|refine M<|M<|M ?_|refine U aA<|U aA<|U EN ?_)<;>refine V cE ?_<;>exact Gj (h:=by first|(rw[I];rfl)|(rw[I,Q];rfl))
  refine Cn ?_ ?_<;>intro hc7
  .have B:=hc7;rw[a8 (λe=>by rw[e.1,e.2]at B;simp at B)];refine O (pB F9)<|Uu (jH sizeOf135)<|V aJ<|aC<|fO (H':=[]) (.inr Z) Z (C8 cD sizeOf135) (aI Z) (P_ (r:=.tup [av (bT j7),iv 5])) ?_;exact Qq
  have B:=hc7;simp only[r6,Bool.not_eq_false',j0]at B;rw[b6 ⟨B.1.1,Prod.ext B.2 B.1.2⟩];refine aB<|O (xD cD sizeOf135)<|Uu (jH sizeOf135)<|V aJ<|aC<|fO (H':=[]) (.inr Z) Z (C8 cD sizeOf135) (aI Z) (P_ (r:=.tup [av (bT ⟨t.text,1,(dj t2.text),(dj K.text),([]:List B_),G.1⟩),iv 0])) ?_;exact Qq
 have z:x≠1:=b_ hc5;rw[a8 (λe=>z (q.symm.trans e.1))];have ⟨J,hM⟩:∃J,J=J0.drop 3:=X_;have hMl:C J=C J0 - 3:=by rw[hM,q6]
 have ⟨W,hW⟩:∃W,W=J.takeWhile λf=>θ (f.kind=1):=X_;have γ:W=J.take (C W):=by rw[hW];exact prefix_iff_eq_take.1 (takeWhile_prefix _)
 have hWl:C W<=C J:=by rw[hW];exact(takeWhile_sublist _).length_le
 have L:AY J0=W.map b7.text:=by rw[AY,hW,hM]
 have hg:∀i,i<=C W->(C J<=i->C W=i)/\∀a,J[i]?=A a->(θ (a.kind=1)=N->i<C W)/\(θ (a.kind=1)=η->C W=i):=λi hi=>by
  rw[hW]at hi |-;exact Hd hi
 refine Sz aJ<|S<|aD<|bC (σ:=Nat) (λi=>(qE s J0++[(9,iv ((3+i:Nat):Int))],qH t.text x 0 0 ((J.take i).map b7.text))) (λi=>i<=C W) (λi=>C W - i) 0 (k_ _) ?_ ?_
 .exact L_
 rintro i hi;have ⟨g1,g2⟩:=hg i hi;by_cases hin:3+i<C J0
 .have ⟨f,hf⟩:=aR hin;have hfM:J[i]?=A f:=by rw[hM,getElem?_drop];exact hf
  have hif:=cC (f:=K_) hf;have ⟨g3,g4⟩:=g2 f hfM;have i_:θ (((3+i:Nat):Int)<(C (J0.map K_):Int))=N:=decide_eq_true X;refine S<|S<|aT (t:=89) (n:=13) (A_:=θ (f.kind=1)) ?_ ?_
  .all_goals refine Y aA<|Y aA<|Y (fJ cS)<|Y (cP.valY (iM Z Z Z) (i_))<|Dm ?_<;>(refine Sp 82 (λh82=>?_) λh82=>?_)<;>(try exact w_)<;>refine U aA<|U aA<|U (bS Z iL Z Z X (l_ (3+i)) hif Z)<|U (FV vQ)<|U (fK M_)<|U cG<|V cE ?_<;>exact Gj (h:=by rfl)
  refine Cn ?_ ?_<;>intro hc8
  .have hk:=g3 hc8;have hMt:(J.take (i+1)).map b7.text=(J.take i).map b7.text++[f.text]:=by rw[take_add_one,hfM,map_append];rfl
   have hRl:C ((J.take i).map b7.text)=i:=by rw[g_,q9];omega
   refine aB<|aD<|S<|aN a7<|Cs (λ_ h=>fh eJ h)<|Cs (λ_ h=>lh aG h)<|Cs (λ_ _=>aA)<|Cs (λ_ _=>aA)<|Cs (λH1 o=>by exact bS Z iL Z Z X (l_ (3+i)) hif Z)<|Cs (λ_ _=>(FV iP))<|Cs (λ_ _=>(fK N_))<|Cs (λH1 o=>by exact aM [S_ f.text] Z aZ Z Z Z Z Z R_) ?_;refine iR (r:=⟨_,ζ,[_]⟩) (DStep.plain Z (λH1 o=>by exact bW (ps:=[S_ f.text]) Z aZ sZ Z ((o _ Z).trans Z) Z Z Z (cY _) Z R_ (m:=1) Z X Z (gB ((J.take i).map b7.text) f.text))) Z ?_;refine Cs (λ_ h=>fh eJ h)<|iR (r:=⟨_,ζ,[_]⟩) (DStep.plain Z (λH1 o=>by exact(by exact cT Z sizeOf22 Z Z Z ((o _ Z).trans Z) Z Z u1 y0 y0))) Z ?_;refine bG<|Kr<|Rd aA<|Y iH<|Da ?_;refine⟨i+1,X,X,?_⟩;dsimp only;rw[hMt,aEn];exact L_
  have hk:=g4 hc8;have ⟨R,hR⟩:∃R,R=(J.take i).map b7.text:=X_;have τ:AY J0=R:=by rw[L,γ,hk,hR]
  rw[<-hR];have v:min (((3+i+1):Nat):Int) (C (J0.map K_):Int)=((min ((3+i+1)) (C J0):Nat):Int):=by rw[D];omega
  have g:∀r∈J0.map K_,C r=3:=λr hr=>by
   obtain ⟨f,_,rfl⟩:=mem_map.1 hr;rfl
  have y:((J0.map K_).take (C (J0.map K_))).drop (min ((3+i+1)) (C J0))=(J0.drop ((3+i+1))).map K_:=by
   rw[take_length,map_drop];rcases Nat.le_total ((3+i+1)) (C J0) with h|h
   .rw[Nat.min_eq_left h]
   rw[Nat.min_eq_right h,drop_of_length_le (by rw[D];exact h_ _),drop_of_length_le (by rw[D];exact h)]
  have hml:min ((3+i+1)) (C J0)<=C (J0.map K_):=by rw[D];exact Nat.min_le_right _ _
  have w:=λH=>M7 (J0.drop ((3+i+1))) H u5;have F:=(show tN J0=ML [] (J0.drop (3+i+1))by rw[tN,a8 (λe=>z (q.symm.trans e)),L,g_,hk]);have E:=(show uW J0=⟨t.text,x,0,0,R,(tN J0).1⟩by rw[uW,a8 (λe=>z (q.symm.trans e)),d1,q,τ]);have ⟨G,b⟩:∃G,G=ML [] (J0.drop ((3+i+1))):=X_;rw[E,F]at u;rw[E,F];simp only[<-b]at w u |-;clear b F E;refine aP<|Rd aA<|Y iH<|V aJ<|S ?_;refine gO.ent (cH.fzG (id:=906) (E':=qE s J0++[(9,iv (((3+i+1):Nat):Int))]) (H':=[(7,bx 6 135 [sv (t.text),iv (x),iv (0),iv (0),.pv (aL (R)),.pv .nils]),(2,bx 6 135 ((bT j7).map .pv))]) ((R).map S_) Z (dS _) ?_ Z ?_ ?_) ?_
  .intro p hp;simp only[cons_append,nil_append,l9,q8,or_false]at hp;rcases hp with rfl|rfl|rfl|rfl|rfl<;>exact⟨_,Z,.same (by simp;try rfl)⟩
  .exact⟨⟨_,Z,Z,Z,Z,mO Z (bJ (.same H_) (bJ (.same H_) (bJ (.same H_) (bJ (.same H_) (bJ (.osl (lE S_ _)) (bJ (.same H_) kG))))))⟩,⟨_,Z,Z,Z,Z,eL H_⟩,T_⟩
  .exact T_
  refine Rd aA<|Y aA<|Y aA<|Y (fJ cS)<|Y (DG Z Z Z v)<|Y (eG (l:=(min ((3+i+1)) (C J0))) (h:=(C (J0.map K_))) Z iL Z (by assumption) Z Z X X y)<|Y (kc call216 (w _))<|Y aA<|Y dL<|Y dL<|Y aJ<|V aJ<|O aA<|Y (bD gJ)<|Uu (by exact cT Z sizeOf133 Z Z Z Z Z Z u1 y0 y0)<|Zz<|O (xD cD sizeOf135)<|Y (kc call217 (DB ⟨t.text,x,0,0,R,G.1⟩ _ u))<|Y aA<|Y dL<|Y dL<|Y aJ<|V aJ<|S<|S ?_;refine aT (t:=131) (n:=13) (A_:=(!G.2||!θ ((fM ⟨t.text,x,0,0,R,G.1⟩).2=0))||!θ ((fM ⟨t.text,x,0,0,R,G.1⟩).1=s)) ?_ ?_
  .all_goals refine Y aA<|Y iE<|Dm ?_<;>(refine Sp 123 (λI=>?_) λI=>?_)<;>(try exact w_)<;>(first|refine M<|M ?_|refine U aA<|U yQ ?_)<;>refine Y cE<|Dm ?_<;>(refine Sp 127 (λQ=>?_) λQ=>?_)<;>(try exact w_)<;>(first|refine M<|M<|M ?_|refine U aA<|U aA<|U EN ?_)<;>refine V cE ?_<;>exact Gj (h:=by first|(rw[I];rfl)|(rw[I,Q];rfl))
  refine Cn ?_ ?_<;>intro hc9
  .have B:=hc9;rw[a8 (λe=>by rw[e.1,e.2]at B;simp at B)];refine O (pB F9)<|Uu (jH sizeOf135)<|V aJ<|aC<|fO (H':=[]) (.inr Z) Z (C8 cD sizeOf135) (aI Z) (P_ (r:=.tup [av (bT j7),iv 5])) ?_;exact Qq
  have B:=hc9;simp only[r6,Bool.not_eq_false',j0]at B;rw[b6 ⟨B.1.1,Prod.ext B.2 B.1.2⟩];refine aB<|O (xD cD sizeOf135)<|Uu (jH sizeOf135)<|V aJ<|aC<|fO (H':=[]) (.inr Z) Z (C8 cD sizeOf135) (aI Z) (P_ (r:=.tup [av (bT ⟨t.text,x,0,0,R,G.1⟩),iv 0])) ?_;exact Qq
 have hk:=g1 X;have i_:θ (((3+i:Nat):Int)<(C (J0.map K_):Int))=η:=decide_eq_false X;have ⟨R,hR⟩:∃R,R=(J.take i).map b7.text:=X_;have τ:AY J0=R:=by rw[L,γ,hk,hR]
 rw[<-hR];refine S<|S<|aT (t:=89) (n:=13) (A_:=η) ?_ ?_
 .all_goals refine Y aA<|Y aA<|Y (fJ cS)<|Y (cP.valY (iM Z Z Z) (i_))<|Dm ?_<;>(refine Sp 82 (λh82=>?_) λh82=>?_)<;>(try exact w_)<;>refine M<|M<|M<|M<|M<|M<|V cE ?_<;>exact Gj (h:=by rfl)
 refine Cn ?_ ?_<;>intro β
 .cases β
 have v:min (((3+i+1):Nat):Int) (C (J0.map K_):Int)=((min ((3+i+1)) (C J0):Nat):Int):=by rw[D];omega
 have g:∀r∈J0.map K_,C r=3:=λr hr=>by
  obtain ⟨f,_,rfl⟩:=mem_map.1 hr;rfl
 have y:((J0.map K_).take (C (J0.map K_))).drop (min ((3+i+1)) (C J0))=(J0.drop ((3+i+1))).map K_:=by
  rw[take_length,map_drop];rcases Nat.le_total ((3+i+1)) (C J0) with h|h
  .rw[Nat.min_eq_left h]
  rw[Nat.min_eq_right h,drop_of_length_le (by rw[D];exact h_ _),drop_of_length_le (by rw[D];exact h)]
 have hml:min ((3+i+1)) (C J0)<=C (J0.map K_):=by rw[D];exact Nat.min_le_right _ _
 have w:=λH=>M7 (J0.drop ((3+i+1))) H u5;have F:=(show tN J0=ML [] (J0.drop (3+i+1))by rw[tN,a8 (λe=>z (q.symm.trans e)),L,g_,hk]);have E:=(show uW J0=⟨t.text,x,0,0,R,(tN J0).1⟩by rw[uW,a8 (λe=>z (q.symm.trans e)),d1,q,τ]);have ⟨G,b⟩:∃G,G=ML [] (J0.drop ((3+i+1))):=X_;rw[E,F]at u;rw[E,F];simp only[<-b]at w u |-;clear b F E;refine aP<|Rd aA<|Y iH<|V aJ<|S ?_;refine gO.ent (cH.fzG (id:=906) (E':=qE s J0++[(9,iv (((3+i+1):Nat):Int))]) (H':=[(7,bx 6 135 [sv (t.text),iv (x),iv (0),iv (0),.pv (aL (R)),.pv .nils]),(2,bx 6 135 ((bT j7).map .pv))]) ((R).map S_) Z (dS _) ?_ Z ?_ ?_) ?_
 .intro p hp;simp only[cons_append,nil_append,l9,q8,or_false]at hp;rcases hp with rfl|rfl|rfl|rfl|rfl<;>exact⟨_,Z,.same (by simp;try rfl)⟩
 .exact⟨⟨_,Z,Z,Z,Z,mO Z (bJ (.same H_) (bJ (.same H_) (bJ (.same H_) (bJ (.same H_) (bJ (.osl (lE S_ _)) (bJ (.same H_) kG))))))⟩,⟨_,Z,Z,Z,Z,eL H_⟩,T_⟩
 .exact T_
 refine Rd aA<|Y aA<|Y aA<|Y (fJ cS)<|Y (DG Z Z Z v)<|Y (eG (l:=(min ((3+i+1)) (C J0))) (h:=(C (J0.map K_))) Z iL Z (by assumption) Z Z X X y)<|Y (kc call216 (w _))<|Y aA<|Y dL<|Y dL<|Y aJ<|V aJ<|O aA<|Y (bD gJ)<|Uu (by exact cT Z sizeOf133 Z Z Z Z Z Z u1 y0 y0)<|Zz<|O (xD cD sizeOf135)<|Y (kc call217 (DB ⟨t.text,x,0,0,R,G.1⟩ _ u))<|Y aA<|Y dL<|Y dL<|Y aJ<|V aJ<|S<|S ?_;refine aT (t:=131) (n:=13) (A_:=(!G.2||!θ ((fM ⟨t.text,x,0,0,R,G.1⟩).2=0))||!θ ((fM ⟨t.text,x,0,0,R,G.1⟩).1=s)) ?_ ?_
 .all_goals refine Y aA<|Y iE<|Dm ?_<;>(refine Sp 123 (λI=>?_) λI=>?_)<;>(try exact w_)<;>(first|refine M<|M ?_|refine U aA<|U yQ ?_)<;>refine Y cE<|Dm ?_<;>(refine Sp 127 (λQ=>?_) λQ=>?_)<;>(try exact w_)<;>(first|refine M<|M<|M ?_|refine U aA<|U aA<|U EN ?_)<;>refine V cE ?_<;>exact Gj (h:=by first|(rw[I];rfl)|(rw[I,Q];rfl))
 refine Cn ?_ ?_<;>intro c
 .have B:=c;rw[a8 (λe=>by rw[e.1,e.2]at B;simp at B)];refine O (pB F9)<|Uu (jH sizeOf135)<|V aJ<|aC<|fO (H':=[]) (.inr Z) Z (C8 cD sizeOf135) (aI Z) (P_ (r:=.tup [av (bT j7),iv 5])) ?_;exact Qq
 have B:=c;simp only[r6,Bool.not_eq_false',j0]at B;rw[b6 ⟨B.1.1,Prod.ext B.2 B.1.2⟩];refine aB<|O (xD cD sizeOf135)<|Uu (jH sizeOf135)<|V aJ<|aC<|fO (H':=[]) (.inr Z) Z (C8 cD sizeOf135) (aI Z) (P_ (r:=.tup [av (bT ⟨t.text,x,0,0,R,G.1⟩),iv 0])) ?_;exact Qq
end Go.Proofs.C
namespace Go.Proofs.C
open Go.Proofs.Tryz
open Go.Abs Go.Lib
theorem Jw{rP:B_->l7}{rX:B_->Int}(hP:∀(x:B_) (H:aF),T x<=20000->RC 162 [sv x] (.tup [av (bT (rP x)),iv (rX x)]) H)(s:B_)(H:aF)(hs:T s<=20000):
  RC 109 [sv s] (av (bM (wg rP s))) H:=by
 refine Pu ?_;have w:=λH=>Jl s H X;have B:∀i,i<C (cR s)->((cR s).map S_)[i]?=A (S_ (wW s i)):=λi hi=>aAC hi;have m:4<=C (cR s)->T (wW s 0)+T (wW s 1)+T (wW s 2)+3<=T s:=aBa;have I:0<C (cR s):=by rw[cR,g_];exact rV _ _
 rw[wg];have ⟨L,hL⟩:∃L,L=cR s:=X_;simp only[<-hL]at w B m I |-;clear hL;have κ:C (L.map S_)=C L:=g_ _;have i0:=B 0 I;refine Bd func109 Z ntmps109<|Sz (kl 2 WG)<|O aA<|Y (kc call161 (w _))<|V aJ<|O aA<|Y (fJ aE)<|V aJ<|S<|S<|aT (t:=22) (n:=10) (A_:=θ (wW s 0=⟨#[112,117,116]⟩)&&θ ((4:Int)<(T s:Int))) ?_ ?_
 .all_goals refine Y aA<|Y (jA aZ)<|Y (fK N_)<|Y vT<|Dm ?_<;>(refine Sp 18 (λh18=>?_) λh18=>?_)<;>(first|exact s_|refine M<|M<|M ?_|refine U aA<|U (gG U_)<|U iZ ?_)<;>refine V cE ?_<;>exact Gj (h:=by(simp only[*,Zo];done))
 refine Cn ?_ ?_<;>intro W
 .have K:wW s 0=a_ wPut/\_:=AS W;rw[b6 ⟨K.1,X⟩];refine O aA<|Y (bP (l:=4) (h:=T s) Z U_ Z Z Z X (h_ _) Z)<|Y (kc call162 (hP (s.extract 4 (T s)) _ (Nat.le_trans (gE s 4 (T s)) hs)))<|Y aA<|Y dL<|Y dL<|Y (kl 5 WH)<|Uu (jH sizeOf135)<|V aJ<|O (by exact aX Z cD sizeOf135 Z Z Z Z (by simp only[Zl,cA,bT,S_,bM,gV,K_];rfl) Z)<|Y (pB uO)<|Uu (jH bF)<|Zz<|aC ?_;refine cN (H':=[]) (.inr Z) Z (C8 cW bF) (P_ (r:=av (bM ⟨1,a6,a6,a6,0,0,a6,a6,[],rP (s.extract 4 (T s))⟩))) ?_;exact Qq
 have K:¬ (wW s 0=a_ wPut/\_):=AT W;rw[a8 (λh=>K ⟨h.1,X⟩)];refine aB<|S<|S<|aT (t:=38) (n:=9) (A_:=θ (wW s 0=⟨#[109,111,118,101]⟩)&&θ ((C (L.map S_):Int)=4)) ?_ ?_
 .all_goals refine Y aA<|Y (jA aZ)<|Y (fK N_)<|Y vT<|Dm ?_<;>(refine Sp 35 (λh35=>?_) λh35=>?_)<;>(first|exact s_|refine M<|M ?_|refine U aA<|U cG ?_)<;>refine V cE ?_<;>exact Gj (h:=by(simp only[*,Zo];done))
 refine Cn ?_ ?_<;>intro a
 .have P:wW s 0=a_ J3/\_:=AS a;rw[b6 ⟨P.1,X⟩];have J:=B 1 X;have z:=B 2 X;have i3:=B 3 X;have z2:=GF s 2;have z3:=GF s 3;refine S<|aN a7<|x_ aA<|x_ ((jA aZ))<|x_ ((fK N_))<|x_ aA<|x_ ((jA aZ))<|x_ ((fK N_))<|x_ (by exact bH Z Z call163 Z (XB (wW s 2) _ X))<|x_ aA<|x_ ((jA aZ))<|x_ ((fK N_))<|x_ (by exact bH Z Z call163 Z (XB (wW s 3) _ X))<|x_ ((pB MC))<|x_ ((pB uO))<|Cp [2] (λ_ h=>sa bF h)<|bG<|Kr<|aC ?_;refine cN (H':=[]) (.inr Z) Z (C8 cW bF) (P_ (r:=av (bM ⟨2,wW s 1,a6,a6,KL (wW s 2),KL (wW s 3),a6,a6,[],j7⟩))) ?_;exact Qq
 have P:¬ (wW s 0=a_ J3/\_):=AT a;rw[a8 (λh=>P ⟨h.1,X⟩)];refine aB<|eU (λ(_:Unit)=>([(0,sv s),(2,.ref 2 0 0 0),(3,.pv (aL L)),(4,iv (C (L.map S_):Int))],[(2,bx 15 137 ((bM O0).map .pv))])) (λ_=>¬ ((wW s 0=a_ BS/\4<=C L)/\IX s=N)) ?_ ?_
 .refine S<|aT (t:=59) (n:=9) (A_:=θ (wW s 0=⟨#[116,97,103]⟩)&&θ ((4:Int)<=(C (L.map S_):Int))) ?_ ?_
  .all_goals refine Y aA<|Y (jA aZ)<|Y (fK N_)<|Y vT<|Dm ?_<;>(refine Sp 56 (λh56=>?_) λh56=>?_)<;>(try exact w_)<;>(first|refine M<|M ?_|refine U aA<|U AN ?_)<;>refine V cE ?_<;>exact Gj (h:=by(simp only[*,Zo];done))
  refine Cn ?_ ?_<;>intro b
  .have h3:wW s 0=a_ BS/\_:=AS b;have J:=B 1 X;have z:=B 2 X;have z0:=GF s 0;have z1:=GF s 1;have z2:=GF s 2;have o:=m X;have δ:T (nG s)<=T s:=gE s _ _;have G:=λH=>xb (nG s) H X;have D:IX s=((θ ((fR (nG s)).2.1=0)&&θ (C (fR (nG s)).1=1))&&θ (((fR (nG s)).1.getD 0 LF).kind=3)):=rfl;have ⟨R,y⟩:∃R,R=nG s:=X_;have Q:s.extract (T (wW s 0)+T (wW s 1)+T (wW s 2)+3) (T s)=R:=by rw[y];rfl
   rw[<-y]at G D;have ⟨J0,hT⟩:∃J0,J0=(fR R).1:=X_;have ⟨er,k⟩:∃e,e=(fR R).2.1:=X_;have ⟨pp,v⟩:∃e,e=(fR R).2.2:=X_;have τ:J0=(fR (nG s)).1:=by rw[hT,y]
   simp only[<-hT,<-k,<-v]at G D;clear hT k v y;have ρ:C (J0.map K_)=C J0:=g_ _;clear K P;by_cases F:C J0=1
   .have ⟨t,ht⟩:=length_eq_one_iff.1 F;have q:(J0.map K_)[0]?=A [.int .i64 t.kind,.str t.text,.int .i64 t.pos]:=by rw[ht];rfl
    have p:J0.getD 0 LF=t:=by rw[ht];rfl
    rw[p,decide_eq_true F,Bool.and_true]at D;have E:θ ((C (J0.map K_):Int)=1)=N:=decide_eq_true X;refine S<|aN a7<|Cq aA<|Cq aA<|Cq (jA aZ)<|Cq (fK N_)<|Cq (gG U_)<|Cq aA<|Cq (jA aZ)<|Cq (fK N_)<|Cq (gG U_)<|Cq iH<|Cq aA<|Cq (jA aZ)<|Cq (fK N_)<|Cq (gG U_)<|Cq iH<|Cq iH<|Cq (bP (l:=T (wW s 0)+T (wW s 1)+T (wW s 2)+3) (h:=T s) Z U_ Z Z Z o (h_ _) Q)<|Cq (kc call164 (G _))<|Cq aA<|Cq dL<|Cq dL<|Cq dL<|Cq aJ<|Cq aJ<|Cq aJ<|bG<|Kr<|S<|aT (t:=95) (n:=16) (A_:=θ (er=0)&&θ (t.kind=3)) ?_ ?_
    .all_goals refine Y aA<|Y cG<|Dm ?_<;>(refine Sp 84 (λh84=>?_) λh84=>?_)<;>(try exact w_)<;>(first|refine M<|M<|M ?_|refine U aA<|U (fJ cS)<|U (cP.valY (mM Z Z Z) (E)) ?_)<;>refine Y cE<|Dm ?_<;>(refine Sp 89 (λh89=>?_) λh89=>?_)<;>(try exact w_)<;>(first|refine M<|M<|M<|M<|M ?_|refine U aA<|U (bS Z iL Z Z X (show (0:Int).toNat=0 from Z) q Z)<|U (FV vQ)<|U (fK M_)<|U cG ?_)<;>refine V cE ?_<;>exact Gj (h:=by(simp only[*,Zo];done))
    refine Cn ?_ ?_<;>intro c
    .have hq:IX s=N:=D.trans c;rw[b6 ⟨⟨h3.1,X⟩,hq⟩,<-τ,p];refine S<|aN a7<|x_ aA<|x_ (by exact bS Z aZ Z Z X (show (1:Int).toNat=1 from Z) J Z)<|x_ ((fK N_))<|x_ aA<|x_ (by exact bS Z aZ Z Z X (show (2:Int).toNat=2 from Z) z Z)<|x_ ((fK N_))<|x_ aA<|x_ (by exact bS Z iL Z Z X (show (0:Int).toNat=0 from Z) q Z)<|x_ ((FV iP))<|x_ ((fK N_))<|x_ ((pB uO))<|Cp [2] (λ_ h=>sa bF h)<|bG<|Kr<|aC ?_;refine cN (H':=[]) (.inr Z) Z (C8 cW bF) (P_ (r:=av (bM ⟨3,wW s 1,a6,a6,0,0,wW s 2,t.text,[],j7⟩))) ?_;exact Qq
    have hq:IX s=η:=D.trans c;refine aB ?_;exact⟨(),(λh=>by have:=h.2;rw[hq]at this;cases this),Wk⟩
   have E:θ ((C (J0.map K_):Int)=1)=η:=decide_eq_false X;rw[decide_eq_false F,Bool.and_false,Bool.false_and]at D;refine S<|aN a7<|Cq aA<|Cq aA<|Cq (jA aZ)<|Cq (fK N_)<|Cq (gG U_)<|Cq aA<|Cq (jA aZ)<|Cq (fK N_)<|Cq (gG U_)<|Cq iH<|Cq aA<|Cq (jA aZ)<|Cq (fK N_)<|Cq (gG U_)<|Cq iH<|Cq iH<|Cq (bP (l:=T (wW s 0)+T (wW s 1)+T (wW s 2)+3) (h:=T s) Z U_ Z Z Z o (h_ _) Q)<|Cq (kc call164 (G _))<|Cq aA<|Cq dL<|Cq dL<|Cq dL<|Cq aJ<|Cq aJ<|Cq aJ<|bG<|Kr<|S<|aT (t:=95) (n:=16) (A_:=η) ?_ ?_
   .all_goals refine Y aA<|Y cG<|Dm ?_<;>(refine Sp 84 (λh84=>?_) λh84=>?_)<;>(try exact w_)<;>(first|refine M<|M<|M ?_|refine U aA<|U (fJ cS)<|U (cP.valY (mM Z Z Z) (E)) ?_)<;>refine Y cE<|Dm ?_<;>(refine Sp 89 (λh89=>?_) λh89=>?_)<;>(try exact w_)<;>refine M<|M<|M<|M<|M<|V cE ?_<;>exact Gj (h:=by rfl)
   refine Cn ?_ ?_<;>intro σ
   .cases σ
   refine aB ?_;exact⟨(),(λh=>by have:=h.2;rw[D]at this;cases this),Wk⟩
  have h3:¬ (wW s 0=a_ BS/\_):=AT b;refine aB ?_;exact⟨(),(λh=>h3 ⟨h.1.1,X⟩),Wk⟩
 rintro _ u;rw[a8 u];clear K P u;refine S<|S<|aT (t:=114) (n:=9) (A_:=θ (wW s 0=⟨#[114,101,102,115]⟩)&&θ ((2:Int)<=(C (L.map S_):Int))) ?_ ?_
 .all_goals refine Y aA<|Y (jA aZ)<|Y (fK N_)<|Y vT<|Dm ?_<;>(refine Sp 111 (λγ=>?_) λγ=>?_)<;>(try exact w_)<;>(first|refine M<|M ?_|refine U aA<|U AN ?_)<;>refine V cE ?_<;>exact Gj (h:=by(simp only[*,Zo];done))
 refine Cn ?_ ?_<;>intro d
 .have h4:wW s 0=a_ J2/\_:=AS d;rw[b6 ⟨h4.1,X⟩];have J:=B 1 X;refine S<|aN a7<|x_ aA<|x_ ((jA aZ))<|x_ ((fK N_))<|x_ aA<|x_ (by exact eG (l:=2) (h:=C (L.map S_)) (rows':=(L.drop 2).map S_) Z aZ Z (JN _) Z Z X (h_ _) (by rw[take_length];exact map_drop.symm))<|x_ ((pB uO))<|Cp [2] (λ_ h=>sa bF h)<|bG<|Kr<|aC ?_;refine cN (H':=[]) (.inr Z) Z (C8 cW bF) (P_ (r:=av (bM ⟨4,wW s 1,a6,a6,0,0,a6,a6,L.drop 2,j7⟩))) ?_;exact Qq
 have h4:¬ (wW s 0=a_ J2/\_):=AT d;rw[a8 (λh=>h4 ⟨h.1,X⟩)];refine aB<|S<|S<|aT (t:=128) (n:=9) (A_:=θ (wW s 0=⟨#[100,114,111,112]⟩)&&θ ((C (L.map S_):Int)=2)) ?_ ?_
 .all_goals refine Y aA<|Y (jA aZ)<|Y (fK N_)<|Y vT<|Dm ?_<;>(refine Sp 125 (λβ=>?_) λβ=>?_)<;>(try exact w_)<;>(first|refine M<|M ?_|refine U aA<|U cG ?_)<;>refine V cE ?_<;>exact Gj (h:=by(simp only[*,Zo];done))
 refine Cn ?_ ?_<;>intro f
 .have h5:wW s 0=a_ J5/\_:=AS f;rw[b6 ⟨h5.1,X⟩];have J:=B 1 X;refine O aA<|Y (jA aZ)<|Y (fK N_)<|Y (pB uO)<|Uu (jH bF)<|Zz<|aC<|cN (H':=[]) (.inr Z) Z (C8 cW bF) (P_ (r:=av (bM ⟨5,wW s 1,a6,a6,0,0,a6,a6,[],j7⟩))) ?_;exact Qq
 have h5:¬ (wW s 0=a_ J5/\_):=AT f;rw[a8 (λh=>h5 ⟨h.1,X⟩)];refine aB<|S<|S<|aT (t:=140) (n:=9) (A_:=θ (wW s 0=⟨#[115,112,108,105,116]⟩)&&θ ((C (L.map S_):Int)=4)) ?_ ?_
 .all_goals refine Y aA<|Y (jA aZ)<|Y (fK N_)<|Y vT<|Dm ?_<;>(refine Sp 137 (λh137=>?_) λh137=>?_)<;>(try exact w_)<;>(first|refine M<|M ?_|refine U aA<|U cG ?_)<;>refine V cE ?_<;>exact Gj (h:=by(simp only[*,Zo];done))
 refine Cn ?_ ?_<;>intro g
 .have h6:wW s 0=a_ CV/\_:=AS g;rw[b6 ⟨h6.1,X⟩];have J:=B 1 X;have z:=B 2 X;have i3:=B 3 X;refine S<|aN a7<|x_ aA<|x_ ((jA aZ))<|x_ ((fK N_))<|x_ aA<|x_ ((jA aZ))<|x_ ((fK N_))<|x_ aA<|x_ ((jA aZ))<|x_ ((fK N_))<|x_ ((pB uO))<|Cp [2] (λ_ h=>sa bF h)<|bG<|Kr<|aC<|cN (H':=[]) (.inr Z) Z (C8 cW bF) (P_ (r:=av (bM ⟨6,wW s 1,wW s 3,wW s 2,0,0,a6,a6,[],j7⟩))) ?_;exact Qq
 have h6:¬ (wW s 0=a_ CV/\_):=AT g;rw[a8 (λh=>h6 ⟨h.1,X⟩)];refine aB<|S<|S<|aT (t:=158) (n:=9) (A_:=θ (wW s 0=⟨#[106,111,105,110]⟩)&&θ ((C (L.map S_):Int)=3)) ?_ ?_
 .all_goals refine Y aA<|Y (jA aZ)<|Y (fK N_)<|Y vT<|Dm ?_<;>(refine Sp 155 (λh155=>?_) λh155=>?_)<;>(try exact w_)<;>(first|refine M<|M ?_|refine U aA<|U cG ?_)<;>refine V cE ?_<;>exact Gj (h:=by(simp only[*,Zo];done))
 refine Cn ?_ ?_<;>intro j
 .have h7:wW s 0=a_ J4/\_:=AS j;rw[b6 ⟨h7.1,X⟩];have J:=B 1 X;have z:=B 2 X;refine S<|aN a7<|x_ aA<|x_ ((jA aZ))<|x_ ((fK N_))<|x_ aA<|x_ ((jA aZ))<|x_ ((fK N_))<|x_ ((pB uO))<|Cp [2] (λ_ h=>sa bF h)<|bG<|Kr<|aC<|cN (H':=[]) (.inr Z) Z (C8 cW bF) (P_ (r:=av (bM ⟨7,wW s 1,wW s 2,a6,0,0,a6,a6,[],j7⟩))) ?_;exact Qq
 have h7:¬ (wW s 0=a_ J4/\_):=AT j;rw[a8 (λh=>h7 ⟨h.1,X⟩)];refine aB<|O (pB uO)<|Uu (jH bF)<|Zz<|aC<|cN (H':=[]) (.inr Z) Z (C8 cW bF) (P_ (r:=av (bM O0))) ?_;exact Qq
abbrev RS:=List B_×Bool
abbrev wc(q:RS):Ob:=bx 2 99 [.pv (aL q.1),bv q.2]
abbrev we(q:RS):aF:=[(980,wc q)]
abbrev vv:AV:=.ref 980 0 0 0
theorem wb(q)(H):∀r∈(wc q).rows,∀a∈r,Clo H a:=H_
instance(q)(H):W_ (H) ((wc q).rows):=⟨wb q H⟩
def Qj(f:FuncId)(q:RS)(v:AV)(B:RS):Prop:=∀H1:aF,H1.get 980=A (wc q)->aW φ f [vv] H1 (λr H'=>r=v/\H'=we B++H1)
theorem Qj.of{f}{q a}{v}(h:aW φ f [vv] (we q) (λr H'=>r=v/\H'=we a)):Qj f q v a:=λH1 c=>by
 have B:∀(q) id,980≠id->(we q).get id=ζ:=λq id e=>by simp[aF.get,kH e]
 refine aW.frame h (λid ob b=>?_) (dI.ofL ⟨wb q _,T_⟩) m3 (λid hi=>?_)
 .by_cases e:980=id
  .subst e;cases b;exact c
  grind
 by_cases e:980=id
 .subst e;exact .inl Z
 grind
def rN(q:RS):B_×RS:=(q.1.headD a6,(q.1.drop 1,q.2||θ (C q.1=0)))
theorem vO(q:RS)(E:C q.1<2^40):Qj 63 q (sv (rN q).1) (rN q).2:=by
 refine Qj.of ?_;have ⟨L,b⟩:=q;rcases L with _|⟨s,L⟩
 .refine Bd func63 Z ntmps63<|Sz aJ<|S<|O aA<|Y sW<|Y (bD NZ)<|Y (bU aG)<|Y (fJ aE)<|V (cP.valY (mM Z Z Z) ((decide_eq_true Z)))<|Cn ?_ ?_<;>intro B
  .refine O aA<|Y sW<|Y (bD NY)<|Uu (by exact cT Z sizeOf4 Z Z Z Z Z Z u1 u0 u0)<|Zz<|Sz aJ<|aC ?_;refine cN (H':=(we ([],N))) (.inr Z) Z (aI Z) P_ ?_;exact⟨Z,by simp[rN]⟩
  cases B
 have D:C ((s::L).map S_)=C L+1:=by rw[g_];rfl
 have F:C L+1<2^40:=E;refine Bd func63 Z ntmps63<|Sz aJ<|S<|O aA<|Y sW<|Y (bD NZ)<|Y (bU aG)<|Y (fJ aE)<|V (cP.eqv (mM Z Z Z) (by rw[D,decide_eq_false X]))<|Cn ?_ ?_<;>intro B
 .cases B
 refine aB<|O aA<|Y sW<|Y (bD NZ)<|Y (bU aG)<|Y (bS Z aZ Z Z X (l_ _) Z Z)<|Y (fK N_ (hi:=rfl))<|V aJ<|O aA<|Y aA<|Y sW<|Y (bD NZ)<|Y (bU aG)<|Y (by exact eG (l:=1) (h:=C ((s::L).map S_)) (rows':=L.map S_) Z aZ Z (dX _) Z Z H_ (h_ _) (by rw[take_length];rfl))<|Y sW<|Y (bD NZ)<|Uu (by exact cT Z sizeOf22 Z Z Z Z Z Z u1 u0 u0)<|Zz<|O aA<|V aJ<|aC ?_;refine cN (H':=(we (L,b))) (.inr Z) Z (aI Z) P_ ?_;exact⟨Z,by simp[rN]⟩
def V2(l:List UInt8):Int:=l.foldl (λn b=>10*n+(b.toNat:Int) - 48) 0
def yP(s:B_):Option Int:=if 7<T s then ζ else if N5 (V2 (ν (μ s)))=s then A (V2 (ν (μ s)))else ζ
def rU(q:RS):Int×RS:=((yP (rN q).1).getD 0,((rN q).2.1,(rN q).2.2||(yP (rN q).1).isNone))
theorem Lm(l)(b):V2 (l++[b])=10*V2 l+(b.toNat) - 48:=by rw[V2,foldl_append];rfl
theorem Ln:∀(l:List UInt8) (n:Int) (p:Nat),1<=p -> -(30*p - 30)<=n->n<=30*p - 30 -> -(30*((p*10 ^ C l:Nat)) - 30)<=l.foldl (λn b=>10*n+(b.toNat:Int) - 48) n/\l.foldl (λn b=>10*n+(b.toNat:Int) - 48) n<=30*((p*10 ^ C l:Nat)) - 30
 | [],n,p,_,a,c=>by simp_all
 |b::l,n,p,hp,a,c=>by
  have B:=b.toNat_lt;have:=Ln l (10*n+(b.toNat) - 48) (p*10) X X X;rw[j6,Nat.pow_succ,Nat.mul_comm (10 ^ C l),<-Nat.mul_assoc];exact this
theorem NJ{l}(h:C l<=7): -300000000<=V2 l/\V2 l<=300000000:=by have B:=Ln l 0 1 (h_ _) H_ H_;have D:10 ^ C l<=10 ^ 7:=Nat.pow_le_pow_right H_ h;rw[V2];omega
theorem oV(q:RS)(P:C q.1<2^40):Qj 64 q (iv (rU q).1) (rU q).2:=by
 refine Qj.of ?_;have j:=vO q P;rw[rU];have ⟨⟨s,d⟩,G⟩:∃p,p=rN q:=X_;rw[<-G]at j |-;clear G;dsimp only at j |-;have ⟨l,w⟩:∃l,l=ν (μ s):=X_;have R:C l=T s:=F_
 have z:∀i b,l[i]?=A b->bA s i=(b.toNat:Int):=λi b h=>by rw[bA,<-w,h];rfl
 have k:yP s=ζ->((yP s).getD 0,(d.1,d.2||(yP s).isNone))=(0,(d.1,N)):=λh=>by simp_all
 have g:yP s=A (V2 l)->((yP s).getD 0,(d.1,d.2||(yP s).isNone))=(V2 l,d):=λh=>by simp_all
 have ⟨L,D⟩:∃L,L=((yP s).getD 0,(d.1,d.2||(yP s).isNone)):=X_;rw[<-D]at k g;show aW φ _ [vv] (we q) (λr K=>r=iv (((yP s).getD 0,(d.1,d.2||(yP s).isNone)):Int×RS).1/\K=we (((yP s).getD 0,(d.1,d.2||(yP s).isNone)):Int×RS).2);rw[<-D];clear D;refine Bd func64 Z ntmps64<|Sz aJ<|O aA<|Y (kc rM (j _ Z))<|V aJ<|Sz aJ<|S<|O aA<|Y (gG U_)<|V iZ<|Cn ?_ ?_<;>intro t
 .have v:7<T s:=I_ t
  rw[k (by rw[yP,b6 v])];refine O aA<|Y sW<|Y (bD NY)<|Uu (by exact cT Z sizeOf4 Z Z Z Z Z Z F_ u0 u0)<|Zz<|Sz aJ<|aC ?_;refine cN (H':=(we (d.1,N))) (.inr Z) Z (aI Z) P_ ?_;exact Qq
 have v:¬ 7<T s:=J_ t
 refine aB<|S<|Sz aJ<|aD<|bC (σ:=Nat) (λi=>([(0,vv),(3,sv s),(4,iv (V2 (l.take i))),(5,iv (i:Int))],[(980,wc d)])) (λi=>i<=C l) (λi=>C l - i) 0 (k_ _) ?_ ?_
 .exact Wk
 intro i hi;have Q:=NJ (l:=l.take i) G_;by_cases x:i<C l
 .have ⟨b,I⟩:=aR x;have y:=z i b I;have J:=b.toNat_lt;have n:V2 (l.take (i+1))=10*V2 (l.take i)+(b.toNat:Int) - 48:=by rw[dT I,Lm]
  refine S<|O aA<|Y aA<|Y (gG U_)<|V cF<|Cn ?_ ?_<;>intro F
  .refine aB<|S<|aD<|Rd aA<|Y (pC Z Z Z (lZ X X))<|Y aA<|Y aA<|Y (ky U_)<|Y (eO Z dG underlying3 Z (show ξ.wrap (bA s i)=(b.toNat:Int)by rw[y,lZ X X]))<|Y (dB Z Z Z (lZ X X))<|Y (dV Z Z Z (show ξ.wrap (10*V2 (l.take i)+(b.toNat:Int) - 48)=V2 (l.take (i+1))by rw[n,lZ X X]))<|V aJ<|Rd aA<|Y kp<|Da ?_;exact⟨i+1,X,X,Wk⟩
  (have h:=b_ F;omega)
 have o:i=C l:=X
 subst o;rw[take_length]at Q |-;have u:=λH=>UK (V2 l) X X H;refine S<|O aA<|Y aA<|Y (gG U_)<|V cF<|Cn ?_ ?_<;>intro E
 ·(have h:=b8 E;omega)
 refine aP<|S<|O aA<|Y (kc fZ (u _))<|Y aA<|V EN<|Cn ?_ ?_<;>intro m
 .have i_:¬ N5 (V2 l)=s:=by have:=m;intro e;rw[decide_eq_true e]at this;cases this
  rw[k (by rw[yP,a8 v,<-w,a8 i_])];refine O aA<|Y sW<|Y (bD NY)<|Uu (by exact cT Z sizeOf4 Z Z Z Z Z Z u1 u0 u0)<|Zz<|Sz aJ<|aC ?_;refine cN (H':=(we (d.1,N))) (.inr Z) Z (aI Z) P_ ?_;exact Qq
 have B:N5 (V2 l)=s:=by have:=m;rw[Bool.not_eq_false']at this;exact b8 this
 rw[g (by rw[yP,a8 v,<-w,b6 B])];refine aB<|O aA<|V aJ<|aC<|cN (H':=(we d)) (.inr Z) Z (aI Z) P_ ?_;exact Qq
def rL(q:RS):List B_×RS:=if(C (rU q).2.1:Int)<(rU q).1\/(rU q).1<0 then([],((rU q).2.1,N))else((rU q).2.1.take (rU q).1.toNat,((rU q).2.1.drop (rU q).1.toNat,(rU q).2.2))
def rZ(q:RS):q7×RS:=(⟨(rU q).1,(rL (rU q).2).1,(rL (rL (rU q).2).2).1⟩,(rL (rL (rU q).2).2).2)
theorem aA3(q):C (rN q).2.1<=C q.1:=by show C (q.1.drop 1)<=_;simp_all
theorem Z2(q):C (rU q).2.1<=C q.1:=aA3 q
theorem aA4(q):C (rL q).2.1<=C q.1:=by
 have:=Z2 q;rw[rL]
 split
 .exact this
 grind
theorem QM(q:RS)(F:C q.1<2^40):Qj 65 q (.pv (aL (rL q).1)) (rL q).2:=by
 refine Qj.of ?_;have l:=oV q F;have r:=Z2 q;have e:(C (rU q).2.1:Int)<(rU q).1\/(rU q).1<0->rL q=([],((rU q).2.1,N)):=λh=>by rw[rL,b6 h]
 have d:¬ ((C (rU q).2.1:Int)<(rU q).1\/(rU q).1<0)->rL q=((rU q).2.1.take (rU q).1.toNat,((rU q).2.1.drop (rU q).1.toNat,(rU q).2.2)):=λh=>by rw[rL,a8 h]
 generalize rL q=I at e d |-;have ⟨⟨n,L,b⟩,D⟩:∃p,p=rU q:=X_;rw[<-D]at l r e d;clear D;dsimp only at l r e d;have t:C (L.map S_)=C L:=g_ _;refine Bd func65 Z ntmps65<|Sz aJ<|O aA<|Y (kc rK (l _ Z))<|V aJ<|S<|S<|aT (t:=18) (n:=12) (A_:=θ ((C (L.map S_):Int)<n)||θ (n<0)) ?_ ?_
 .all_goals refine Y aA<|Y aA<|Y sW<|Y (bD NZ)<|Y (bU aG)<|Y (fJ aE)<|Y iZ<|Dm ?_<;>(refine Sp 15 (λJ=>?_) λJ=>?_)<;>(first|exact s_|refine M<|M ?_|refine U aA<|U cF ?_)<;>refine V cE ?_<;>(exact⟨⟨_,Z,G_⟩,Z,Z,Z⟩)
 refine Cn ?_ ?_<;>intro o
 .have j:=o;rw[t,Bool.or_eq_true,j0,j0]at j;rw[e j];refine O aA<|Y sW<|Y (bD NY)<|Uu (by exact cT Z sizeOf4 Z Z Z Z Z Z F_ u0 u0)<|Zz<|Sz aJ<|aC ?_;refine cN (H':=(we (L,N))) (.inr Z) Z (aI Z) (P_ (r:=.pv (aL []))) ?_;exact Qq
 have j:=o;rw[t,r6,n_,n_]at j;rw[d (λh=>h.elim j.1 j.2)];have ⟨G,H⟩:=j;obtain ⟨k,rfl⟩:∃k:Nat,n=(k:Int):=⟨n.toNat,X⟩;rw[l_];have u:∀i,i<=k->C (L.take i)=i:=λi w=>by grind
 refine aB<|Sz (cZ (id:=905) (sz:=1) (ty:=9) Z Z Z)<|S<|Sz aJ<|aD<|bC (σ:=Nat) (λi=>([(0,vv),(3,iv (k:Int)),(4,.osl 905 i 0 i),(5,iv (i:Int))],[(905,⟨i,1,9,bQ (L.take i)⟩),(980,wc (L.drop i,b))])) (λi=>i<=k) (λi=>k - i) 0 (k_ _) ?_ ?_
 .exact L_
 intro i w;refine S<|O aA<|Y aA<|V cF<|Cn ?_ ?_<;>intro m
 .have hik:i<k:=I_ m
  have ⟨s,z⟩:=aR (l:=L) (k:=i) X;have B:L.drop i=s::L.drop (i+1):=by
   have E:=(m_.1 z).1;rw[drop_eq_getElem_cons E,(m_.1 z).2]
  have x:Qj 63 (L.drop i,b) (sv s) (L.drop (i+1),b):=by
   have:=vO (L.drop i,b) G_;rw[rN]at this
   simpa[B]using this
  have y:=dT z;have g:=u i w;refine aB<|S<|aD<|Rd aA<|Y aA<|Y (kc rM (x _ Z))<|Y (aM [[.str s]] Z aZ Z Z Z Z Z F_)<|Y (by exact bW (k:=i+1) (ps:=[[.str s]]) Z aZ sZ Z Z Z Z Z ((cY _).trans g) Z F_ (m:=1) Z X Z (rows':=bQ (L.take (i+1))) (by rw[y];exact gB _ s))<|V aJ<|Rd aA<|Y kp<|Da ?_;exact⟨i+1,X,X,L_⟩
 have v:i=k:=J_ m
 subst v;have g:=u i w;refine aP<|O aA<|V aJ<|aC ?_;refine cN (H':=(we (L.drop i,b))) (.inr Z) Z (aI Z) (Fin.fz (id:=905) (ob:=⟨i,1,9,bQ (L.take i)⟩) (r':=.pv (aL (L.take i))) ((L.take i).map S_) Z (dS _) (.osl (IN S_ _ g)) Z ⟨⟨_,Z,Z⟩,l5,T_⟩ ⟨Z,T_⟩) ?_;exact Qq
theorem vo(q:RS)(i:C q.1<2^40):Qj 66 q (av (lV (rZ q).1)) (rZ q).2:=by refine Qj.of ?_;have h:=oV q i;have f:=QM (rU q).2 (Nat.lt_of_le_of_lt (Z2 q) i);have d:=QM (rL (rU q).2).2 (Nat.lt_of_le_of_lt (aA4 _) (Nat.lt_of_le_of_lt (Z2 q) i));rw[rZ];have ⟨⟨n,k⟩,j⟩:∃p,p=rU q:=X_;rw[<-j]at h f d |-;dsimp only at h f d |-;have ⟨⟨a,m⟩,e⟩:∃p,p=rL k:=X_;rw[<-e]at f d |-;dsimp only at f d |-;have ⟨⟨c,l⟩,g⟩:∃p,p=rL m:=X_;rw[<-g]at d |-;dsimp only at d |-;clear j e g;refine Bd func66 Z ntmps66<|Sz (kl 2 du)<|Sz (kl 3 du)<|O aA<|Y (kc rK (h _ Z))<|Y (bD DW)<|Uu (ku sizeOf3)<|Zz<|O aA<|Y (kc call65 (f _ Z))<|Y (bD wX)<|Uu (ku sizeOf22)<|Zz<|O aA<|Y (kc call65 (d _ Z))<|Y (bD wV)<|Uu (ku sizeOf22)<|Zz<|O (xD iC sizeOf48)<|Uu (jH sizeOf48)<|Zz<|aC ?_;refine cN (H':=(we l)) (.inr Z) Z (fG Z iC sizeOf48 Z Z Z u0 Z) P_ ?_;exact Qq
theorem F3(l:List B_)(H:aF)(t:ie l):RC 114 [.pv (aL l)] (bv (l.all m6)) H:=by
 refine Pu ?_;have ⟨B,o⟩:=t;have D:C (l.map S_)=C l:=g_ _;refine Bd func114 Z ntmps114<|Sz aJ<|S<|Sz aJ<|aD<|bC (σ:=Nat) (λk=>([(0,.pv (aL l)),(3,iv (k:Int))],[])) (λk=>k<=C l/\∀j,j<k->∀b,l[j]?=A b->m6 b=N) (λk=>C l - k) 0 ⟨X,X⟩ ?_ ?_
 .exact Wk
 rintro k ⟨hk,f⟩;refine S<|O aA<|Y aA<|Y (fJ aE)<|V cF<|Cn ?_ ?_<;>intro e
 .have i:k<C l:=I_ e
  have ⟨s,g⟩:=aR i;have q:=cC (f:=S_) g;have E:=o s (m7 g);have p:=λH=>W1 s X H;have d:=λh=>RB (p:=m6) g h;refine aB<|S<|aD<|O aA<|Y aA<|Y (bS Z aZ Z Z X x7 q Z)<|Y (fK N_ (hi:=q))<|Y (kc vJ (p _))<|V iE<|Cn ?_ ?_<;>intro c
  .have n:=not_not c;rw[d n];exact Sz aJ<|aC<|Rt<|Qq
  have n:=pE c;refine aB<|Rd aA<|Y kp<|Da ?_;exact⟨k+1,⟨X,GG f g n⟩,X,Wk⟩
 have m:k=C l:=J_ e
 subst m;rw[MG f];exact aP<|Sz aJ<|aC<|Rt<|Qq
theorem Gc(s:q7)(H:aF)(D:yO s):RC 169 [av (lV s)] (bv (BP s)) H:=by
 refine aW.pure ?_ F_ H;have B:BP s=((θ (s.idx=0)&&θ ((C (s.sig.map S_):Int)=0))&&θ ((C (s.path.map S_):Int)=0)):=by
  rw[BP,Bool.and_assoc]
  grind
 refine Bd func169 Z ntmps169<|O (kb 1)<|V aJ<|S<|aT (t:=2) (n:=18) (A_:=BP s) ?_ ?_
 .all_goals refine Y (bD DW)<|Y (bU M_)<|Y cG<|Dm ?_<;>(refine Sp 6 (λd=>?_) λd=>?_)<;>(first|exact s_|refine M<|M<|M<|M ?_|refine U (bD wX)<|U (bU aG)<|U (fJ aE)<|U cG ?_)<;>refine Y cE<|Dm ?_<;>(refine Sp 12 (λc=>?_) λc=>?_)<;>(first|refine M<|M<|M<|M ?_|refine U (bD wV)<|U (bU aG)<|U (fJ aE)<|U cG ?_)<;>refine Y cE<|Da ?_<;>exact Gj (h:=by simp_all)
 exact aC<|Rt<|Qq
theorem T8(s:q7)(H:aF)(n:yO s):RC 116 [av (lV s)] (bv (lK s)) H:=by
 refine aW.pure ?_ F_ H;have o:=λH=>Gc s H n;have ⟨⟨E,F⟩,q,u⟩:=n;have g:=λH=>F3 s.sig H q;have h:=λH=>F3 s.path H u;have t:θ (s.idx<256)=θ (s.idx<=255):=by
  grind
 have k:lK s=(BP s||(((((θ (0<=s.idx)&&θ (s.idx<=255))&&θ ((C (s.sig.map S_):Int)=18))&&θ ((C (s.path.map S_):Int)<=8))&&s.sig.all m6)&&s.path.all m6)):=by rw[lK,t]
 have ⟨B,e⟩:∃d,d=s.sig.all m6:=X_;have ⟨D,c⟩:∃d,d=s.path.all m6:=X_;generalize BP s=z at o k;rw[<-e]at g k;rw[<-c]at h k;clear e c;refine Bd func116 Z ntmps116<|O (kb 1)<|V aJ<|S<|aT (t:=2) (n:=41) (A_:=lK s) ?_ ?_
 .all_goals refine Y (by exact aX Z iC sizeOf48 Z Z Z Z u0 Z) ?_
  all_goals refine Y (kc call169 (o _))<|Dm ?_<;>(refine Sp 5 (λv=>?_) λv=>?_)<;>(first|exact s_|refine M<|M<|M<|M ?_|refine U (bD DW)<|U (bU M_)<|U AN<|U aA ?_)<;>(first|refine Sp 9 (λp=>?_) λp=>?_|refine kX (t:=9) Z ?_)<;>(first|exact s_|refine M ?_|refine Fu ?_|refine U (bD DW) ?_)<;>(first|refine M ?_|refine Fu ?_|refine U (bU M_) ?_)<;>(first|refine M ?_|refine Fu ?_|refine U EQ ?_)<;>(first|refine M<|M ?_|refine U cE<|U aA ?_)<;>(first|refine Sp 14 (λm=>?_) λm=>?_|refine kX (t:=14) Z ?_)<;>(first|exact s_|refine M ?_|refine Fu ?_|refine U (bD wX) ?_)<;>(first|refine M ?_|refine Fu ?_|refine U (bU aG) ?_)<;>(first|refine M ?_|refine Fu ?_|refine U (fJ aE) ?_)<;>(first|refine M ?_|refine Fu ?_|refine U cG ?_)<;>(first|refine M<|M ?_|refine U cE<|U aA ?_)<;>(first|refine Sp 20 (λi=>?_) λi=>?_|refine kX (t:=20) Z ?_)<;>(first|exact s_|refine M ?_|refine Fu ?_|refine U (bD wV) ?_)<;>(first|refine M ?_|refine Fu ?_|refine U (bU aG) ?_)<;>(first|refine M ?_|refine Fu ?_|refine U (fJ aE) ?_)<;>(first|refine M ?_|refine Fu ?_|refine U EQ ?_)<;>(first|refine M<|M ?_|refine U cE<|U aA ?_)<;>(first|refine Sp 26 (λj=>?_) λj=>?_|refine kX (t:=26) Z ?_)<;>(first|exact s_|refine M ?_|refine Fu ?_|refine U (bD wX) ?_)<;>(first|refine M ?_|refine Fu ?_|refine U (bU aG) ?_)<;>(first|refine M ?_|refine Fu ?_|refine U (kc call114 (g _)) ?_)<;>(first|refine M<|M ?_|refine U cE<|U aA ?_)<;>(first|refine Sp 31 (λl=>?_) λl=>?_|refine kX (t:=31) Z ?_)<;>(first|exact s_|refine M ?_|refine Fu ?_|refine U (bD wV) ?_)<;>(first|refine M ?_|refine Fu ?_|refine U (bU aG) ?_)<;>(first|refine M ?_|refine Fu ?_|refine U (kc call114 (h _)) ?_)<;>(first|refine M ?_|refine U cE ?_)<;>refine Y cE<|Da ?_<;>(exact⟨⟨_,Z,G_⟩,Z,Z,Z⟩)
 exact aC<|Rt<|Qq
def tH:List B_->Bool
 |a::b::r=>jI a b&&tH (b::r)
 |_=>N
theorem lf:∀(l),C (fW l)<=C l
 | []=>h_ _
 | [x]=>h_ _
 |x::y::r=>by
  have B:=lf (y::r);show C (if x=y then fW _ else x::fW _)<=_
  grind
theorem TT:∀(l),Mp l=tH l
 | []=>rfl
 | [x]=>rfl
 | x::y::r=>by
  have d:=TT (y::r);have E:=lf (y::r);rw[Mp,g_]at d |-;show ((!jI y x&&oA _)&&θ ((C (if x=y then fW _ else x::fW _):Int)=_))=(jI x y&&tH _);by_cases e:x=y
  .rw[b6 e,e,GL,Bool.false_and,decide_eq_false (by have D:C (y::y::r)=C (y::r)+1:=rfl;omega),Bool.and_false]
  rw[Bool.and_assoc];have B:(!jI y x)=jI x y:=by
   cases c:jI x y
   .cases b:jI y x
    .exact absurd (C4 c b) e
    rfl
   cases b:jI y x
   .rfl
   have:=GK c b;rw[GL]at this;cases this
  simp_all
theorem zx{l:List _}{k}{a b}(f:l[k]?=A a)(c:l[k+1]?=A b):tH (l.drop k)=(jI a b&&tH (l.drop (k+1))):=by have ⟨h,e⟩:=m_.1 f;have ⟨g,d⟩:=m_.1 c;rw[drop_eq_getElem_cons h,drop_eq_getElem_cons g,e,d];rfl
theorem ZF{l}(h:C l<=1):tH l=N:=by
 match l,h with
 | [],_=>rfl
 | [a],_=>rfl
def pvB(p:GPriv):Bool:=(((θ (200<(T p.name:Int))||θ (200<(T p.reason:Int)))||θ (16<(C (p.sources.map S_):Int)))||θ (200<(C (p.trace.map kP):Int)))||!lK p.sl
def qg(q:Int×Int):Bool:=ca q.1 q.2
def tJ(s:B_):Bool:=!LM s
def B3(p:GPriv):Bool:=!pvB p&&(p.sources.all tJ&&p.trace.all qg)
theorem Kj{p}(h:pvB p=N):B3 p=η:=by rw[B3,h];rfl
theorem Ki{p}(h:p.sources.all tJ=η):B3 p=η:=by rw[B3,h,Bool.false_and,Bool.and_false]
theorem Kh{p}(h:p.trace.all qg=η):B3 p=η:=by rw[B3,h,Bool.and_false,Bool.and_false]
theorem Kg{p}(a:pvB p=η)(c:p.sources.all tJ=N)(b:p.trace.all qg=N):B3 p=N:=by rw[B3,a,c,b];rfl
theorem gh(p:GPriv)(H:aF)(e_:qi p):RC 117 [av (xU p)] (bv (B3 p)) H:=by
 refine aW.pure ?_ F_ H;have m4:=λH=>T8 p.sl H e_.2.2.2.2;have ⟨r,y,⟨q3,B⟩,q4,_⟩:=e_;have J:C (p.sources.map S_)=C p.sources:=g_ _;have W:C (p.trace.map kP)=C p.trace:=g_ _;have K:=λh=>Kj (p:=p) h;have G:=λh=>Ki (p:=p) h;have F:=λh=>Kh (p:=p) h;have E:=λP Q R=>Kg (p:=p) P Q R;have ⟨f,u⟩:∃f,f=lK p.sl:=X_;have c:pvB p=((((θ (200<(T p.name:Int))||θ (200<(T p.reason:Int)))||θ (16<(C (p.sources.map S_):Int)))||θ (200<(C (p.trace.map kP):Int)))||!f):=by rw[pvB,<-u]
 rw[<-u]at m4;refine Bd func117 Z ntmps117<|O (kb 1)<|V aJ<|S<|S<|aT (t:=32) (n:=32) (A_:=pvB p) ?_ ?_
 .all_goals refine Y (bD JM)<|Y (bU N_)<|Y (gG U_)<|Y iZ<|Dm ?_<;>(refine Sp 9 (λo_=>?_) λo_=>?_)<;>(first|exact s_|refine M<|M<|M<|M ?_|refine U (bD JL)<|U (bU N_)<|U (gG U_)<|U iZ ?_)<;>refine Y cE<|Dm ?_<;>(refine Sp 15 (λc_=>?_) λc_=>?_)<;>(first|exact s_|refine M<|M<|M<|M ?_|refine U (bD zC)<|U (bU aG)<|U (fJ aE)<|U iZ ?_)<;>refine Y cE<|Dm ?_<;>(refine Sp 21 (λi_=>?_) λi_=>?_)<;>(first|exact s_|refine M<|M<|M<|M ?_|refine U (bD tX)<|U (bU kK)<|U (fJ gL)<|U iZ ?_)<;>refine Y cE<|Dm ?_<;>(refine Sp 27 (λI=>?_) λI=>?_)<;>(first|exact s_|refine M<|M<|M<|M ?_|refine U (bD F1)<|U (xD iC sizeOf48)<|U (kc call116 (m4 _))<|U iE ?_)<;>refine V cE ?_<;>(exact⟨⟨_,Z,G_⟩,Z,Z,Z⟩)
 refine Cn ?_ ?_<;>intro v
 .have z:=v;rw[K z];exact Sz aJ<|aC<|Rt<|Qq
 have z:=v;refine aB<|S<|Sz aJ<|aD<|bC (σ:=Nat) (λk=>([(1,.ref 1 0 0 0),(3,iv (k:Int))],[(1,bx 7 51 ((xU p).map .pv))])) (λk=>k<=C p.sources/\∀j,j<k->∀b,p.sources[j]?=A b->tJ b=N) (λk=>C p.sources - k) 0 ⟨X,X⟩ ?_ ?_
 .exact E0
 rintro k ⟨L,e⟩;refine S<|O aA<|Y (bD zC)<|Y (bU aG)<|Y (fJ aE)<|V cF<|Cn ?_ ?_<;>intro x
 .have m:k<C p.sources:=I_ x
  have ⟨s,i⟩:=aR m;have w:=cC (f:=S_) i;have a:=B s (m7 i);have g:=λh=>RB (p:=tJ) i h;refine aB<|S<|aD<|O (bD zC)<|Y (bU aG)<|Y aA<|Y (kx aZ w)<|Y (fK N_ (hi:=w))<|Y (gG U_)<|V iZ<|Cn ?_ ?_<;>intro o
  .have d:tJ s=η:=by rw[tJ,LM,o];rfl
   rw[G (g d)];exact Sz aJ<|aC<|Rt<|Qq
  have d:tJ s=N:=by rw[tJ,LM,o];rfl
  refine aB<|Rd aA<|Y kp<|Da ?_;exact⟨k+1,⟨X,GG e i d⟩,X,E0⟩
 have l:k=C p.sources:=J_ x
 subst l;have D:=MG e;refine aP<|S<|Sz aJ<|aD<|bC (σ:=Nat) (λk=>([(1,.ref 1 0 0 0),(4,iv (k:Int))],[(1,bx 7 51 ((xU p).map .pv))])) (λk=>k<=C p.trace/\∀j,j<k->∀b,p.trace[j]?=A b->qg b=N) (λk=>C p.trace - k) 0 ⟨X,X⟩ ?_ ?_
 .exact E0
 clear e L;rintro k ⟨L,e⟩;refine S<|O aA<|Y (bD tX)<|Y (bU kK)<|Y (fJ gL)<|V cF<|Cn ?_ ?_<;>intro n
 .have m:k<C p.trace:=I_ n
  have ⟨q,i⟩:=aR m;have w:=cC (f:=kP) i;have I:=λH=>Js q.1 q.2 H;have g:=λh=>RB (p:=qg) i h;refine aB<|S<|aD<|O (bD tX)<|Y (bU kK)<|Y aA<|Y (kx VH w)<|Y (by exact eY Z eN sizeOf104 Z w u0 Z)<|Y (kc call170 (I _))<|V iE ?_;refine Cn ?_ ?_<;>intro t
  .have d:=not_not t;rw[F (g d)];exact Sz aJ<|aC<|Rt<|Qq
  have d:=pE t;refine aB<|Rd aA<|Y kp<|Da ?_;exact⟨k+1,⟨X,GG e i d⟩,X,E0⟩
 have l:k=C p.trace:=J_ n
 subst l;rw[E z D (MG e)];exact aP<|Sz aJ<|aC<|Rt<|Qq
def o0G(r:j_):Bool:=θ (r.kind=1)||(θ (r.kind=3)&&θ (r.order=3))
def o1G(r:j_):Bool:=!o0G r&&θ (0<(C (r.edits.map bM):Int))
def o2G(r:j_):Bool:=o0G r&&!θ ((eH r.edits).2=0)
def o3a(r:j_):Bool:=θ (r.kind=2)||θ (r.kind=3)
def o3G(r:j_):Bool:=if o3a r=N then !m6 r.target else !θ (r.target=a6)
def o4G(r:j_):Bool:=(θ (r.kind=3)&&(θ (r.order<1)||θ (4<r.order)))||(!θ (r.kind=3)&&!θ (r.order=0))
def o5G(r:j_):Bool:=(θ (r.kind=4)&&(!cK r.from'||θ (r.from'=r.branch)))||(!θ (r.kind=4)&&!θ (r.from'=a6))
def o6G(r:j_):Bool:=θ (r.kind=2)||!r.yes
def EO(r:j_):Bool:=!o1G r&&(!o2G r&&(!o3G r&&(!o4G r&&(!o5G r&&o6G r))))
theorem Ur{r}(h:o1G r=N):EO r=η:=by rw[EO,h];rfl
theorem Uq{r}(h:o2G r=N):EO r=η:=by rw[EO];all_goals simp_all
theorem Up{r}(h:o3G r=N):EO r=η:=by rw[EO];all_goals simp_all
theorem Uo{r}(h:o4G r=N):EO r=η:=by rw[EO];all_goals simp_all
theorem Un{r}(h:o5G r=N):EO r=η:=by rw[EO];all_goals simp_all
theorem Um{r}(e:o1G r=η)(d:o2G r=η)(b:o3G r=η)(c:o4G r=η)(a:o5G r=η):EO r=o6G r:=by rw[EO,e,d,b,c,a];rfl
theorem Ut(r:j_)(H:aF)(hr:mX r)(x:∀e∈r.edits,C e.refs<2^40):RC 115 [av (eD r)] (bv (EO r)) H:=by
 refine aW.pure ?_ F_ H;have ⟨_,⟨b1,b2,b3⟩,_,⟨e1,e2⟩,_⟩:=hr;have i_:=λH=>SJ r.edits H e1 e2 x;have o_:=λH=>W1 r.target X H;have E:=λH=>lR r.from' H X
 have n:=λh=>Ur (r:=r) h;have d:=λh=>Uq (r:=r) h;have b:=λh=>Up (r:=r) h;have f:=λh=>Uo (r:=r) h;have g:=λh=>Un (r:=r) h;have R:=λv_ k J0 f_ A_=>Um (r:=r) v_ k J0 f_ A_;have l:o0G r=(θ (r.kind=1)||(θ (r.kind=3)&&θ (r.order=3))):=rfl;have B:o1G r=(!o0G r&&θ (0<(C (r.edits.map bM):Int))):=rfl;have a:o2G r=(o0G r&&!θ ((eH r.edits).2=0)):=rfl;have p:o3a r=(θ (r.kind=2)||θ (r.kind=3)):=rfl;have J:o3G r=if o3a r=N then !m6 r.target else !θ (r.target=a6):=rfl
 have c:o4G r=((θ (r.kind=3)&&(θ (r.order<1)||θ (4<r.order)))||(!θ (r.kind=3)&&!θ (r.order=0))):=rfl;have ⟨nm,t⟩:∃nm,nm=cK r.from':=X_
 have s:o5G r=((θ (r.kind=4)&&(!nm||θ (r.from'=r.branch)))||(!θ (r.kind=4)&&!θ (r.from'=a6))):=by rw[o5G,<-t]
 rw[<-t]at E;have Q:o6G r=(θ (r.kind=2)||!r.yes):=rfl;generalize eH r.edits=te at i_ a;generalize m6 r.target=ij at o_ J;clear t;have ⟨o0,h0⟩:∃o,o=o0G r:=X_;have ⟨o1,v_⟩:∃o,o=o1G r:=X_;have ⟨W,k⟩:∃o,o=o2G r:=X_;have ⟨oa,ha⟩:∃o,o=o3a r:=X_;have ⟨F,J0⟩:∃o,o=o3G r:=X_;have ⟨o4,f_⟩:∃o,o=o4G r:=X_;have ⟨o5,A_⟩:∃o,o=o5G r:=X_;have ⟨o6,h6⟩:∃o,o=o6G r:=X_;rw[<-h0]at l B a;rw[<-v_]at B n R;rw[<-k]at a d R;rw[<-ha]at p J;rw[<-J0]at J b R;rw[<-f_]at c f R;rw[<-A_]at s g R;rw[<-h6]at Q R;clear h0 v_ k ha J0 f_ A_ h6;have ⟨ow,P⟩:∃o,o=EO r:=X_;rw[<-P]at n d b f g R |-;clear P;refine Bd func115 Z ntmps115<|O (kb 1)<|V aJ<|S<|aT (t:=3) (n:=16) (A_:=o0) ?_ ?_
 .all_goals refine Y (bD pA)<|Y (bU M_)<|Y cG<|Dm ?_<;>(refine Sp 9 (λh9=>?_) λh9=>?_)<;>(first|exact s_|refine M<|M<|M<|M ?_|refine U (bD pA)<|U (bU M_)<|U cG<|U aA ?_)<;>(first|refine Sp 13 (λσ=>?_) λσ=>?_|refine kX (t:=13) Z ?_)<;>(first|exact s_|refine M ?_|refine Fu ?_|refine U (bD zB) ?_)<;>(first|refine M ?_|refine Fu ?_|refine U (bU M_) ?_)<;>(first|refine M ?_|refine Fu ?_|refine U cG ?_)<;>(first|refine M ?_|refine U cE ?_)<;>refine Y cE<|Da ?_<;>exact Gj (h:=by simp_all)
 refine S<|S<|aT (t:=26) (n:=9) (A_:=o1) ?_ ?_
 .all_goals refine Y aA<|Y iE<|Dm ?_<;>(refine Sp 21 (λρ=>?_) λρ=>?_)<;>(first|exact s_|refine M<|M<|M<|M ?_|refine U (bD DU)<|U (bU pK)<|U (fJ fE)<|U iZ ?_)<;>refine V cE ?_<;>exact Gj (h:=by simp_all)
 refine Cn ?_ ?_<;>intro I
 .rw[n I];exact Sz aJ<|aC<|Rt<|Qq
 have k1:=I;refine aB<|eU (λ(_:Unit)=>([(1,.ref 1 0 0 0)],[(1,bx 21 53 ((eD r).map .pv))])) (λ_=>W=η) ?_ ?_
 .refine Sz aA<|Cn ?_ ?_<;>intro m
  .refine O (bD DU)<|Y (bU pK)<|Y (kc call110 (i_ _))<|Y aA<|Y dL<|Y dL<|Y aJ<|V aJ<|O aA<|V yQ<|Cn ?_ ?_<;>intro τ
   .have v:W=N:=by rw[a];simp_all
    rw[d v];exact Sz aJ<|aC<|Rt<|Qq
   have v:W=η:=by rw[a];simp_all
   refine aB ?_;exact⟨(),v,E0⟩
  have v:W=η:=by rw[a,m];rfl
  refine aB ?_;exact⟨(),v,E0⟩
 rintro _ v;refine eU (λ(_:Unit)=>([(1,.ref 1 0 0 0)],[(1,bx 21 53 ((eD r).map .pv))])) (λ_=>F=η) ?_ ?_
 .refine S<|aT (t:=43) (n:=9) (A_:=oa) ?_ ?_
  .all_goals refine Y (bD pA)<|Y (bU M_)<|Y cG<|Dm ?_<;>(refine Sp 39 (λD=>?_) λD=>?_)<;>(first|exact s_|refine M<|M<|M ?_|refine U (bD pA)<|U (bU M_)<|U cG ?_)<;>refine V cE ?_<;>exact Gj (h:=by(rw[p,D];rfl))
  refine Cn ?_ ?_<;>intro z
  .have y_:=z;rw[y_]at J;refine O (bD DT)<|Y (bU N_)<|Y (kc vJ (o_ _))<|V iE<|Cn ?_ ?_<;>intro c_
   .have i:F=N:=by rw[J,c_];rfl
    rw[b i];exact Sz aJ<|aC<|Rt<|Qq
   have i:F=η:=by rw[J,c_];rfl
   refine aB ?_;exact⟨(),i,E0⟩
  have y_:=z;rw[y_]at J;refine O (bD DT)<|Y (bU N_)<|V EN<|Cn ?_ ?_<;>intro K
  .have i:F=N:=by rw[J,K];rfl
   rw[b i];exact Sz aJ<|aC<|Rt<|Qq
  have i:F=η:=by rw[J,K];rfl
  refine aB ?_;exact⟨(),i,E0⟩
 rintro _ i;refine S<|S<|aT (t:=73) (n:=27) (A_:=o4) ?_ ?_
 .all_goals refine Y (bD pA)<|Y (bU M_)<|Y cG<|Dm ?_<;>(refine Sp 54 (λj=>?_) λj=>?_)<;>(first|exact s_|refine M<|M<|M<|M ?_|refine U (bD zB)<|U (bU M_)<|U cF<|U aA ?_)<;>(first|refine Sp 58 (λy=>?_) λy=>?_|refine kX (t:=58) Z ?_)<;>(first|exact s_|refine M ?_|refine Fu ?_|refine U (bD zB) ?_)<;>(first|refine M ?_|refine Fu ?_|refine U (bU M_) ?_)<;>(first|refine M ?_|refine Fu ?_|refine U iZ ?_)<;>(first|refine M ?_|refine U cE ?_)<;>refine Y cE<|Dm ?_<;>(refine Sp 64 (λG=>?_) λG=>?_)<;>(first|exact s_|refine M<|M<|M<|M ?_|refine U (bD pA)<|U (bU M_)<|U yQ<|U aA ?_)<;>(first|refine Sp 68 (λκ=>?_) λκ=>?_|refine kX (t:=68) Z ?_)<;>(first|exact s_|refine M ?_|refine Fu ?_|refine U (bD zB) ?_)<;>(first|refine M ?_|refine Fu ?_|refine U (bU M_) ?_)<;>(first|refine M ?_|refine Fu ?_|refine U yQ ?_)<;>(first|refine M ?_|refine U cE ?_)<;>refine V cE ?_<;>exact Gj (h:=by first|(rw[c,j,y];rfl)|(rw[c,j,y,G];rfl)|(rw[c,j]at *;simp_all;done))
 refine Cn ?_ ?_<;>intro m4
 .rw[f m4];exact Sz aJ<|aC<|Rt<|Qq
 have k4:=m4;refine aB<|S<|S<|aT (t:=99) (n:=30) (A_:=o5) ?_ ?_
 .all_goals refine Y (bD pA)<|Y (bU M_)<|Y cG<|Dm ?_<;>(refine Sp 77 (λw=>?_) λw=>?_)<;>(first|exact s_|refine M<|M<|M<|M<|M ?_|refine U (bD xS)<|U (bU N_)<|U (kc gF (E _))<|U iE<|U aA ?_)<;>(first|refine Sp 82 (λu=>?_) λu=>?_|refine kX (t:=82) Z ?_)<;>(first|exact s_|refine M ?_|refine Fu ?_|refine U (bD xS) ?_)<;>(first|refine M ?_|refine Fu ?_|refine U (bU N_) ?_)<;>(first|refine M ?_|refine Fu ?_|refine U (bD DV) ?_)<;>(first|refine M ?_|refine Fu ?_|refine U (bU N_) ?_)<;>(first|refine M ?_|refine Fu ?_|refine U vT ?_)<;>(first|refine M ?_|refine U cE ?_)<;>refine Y cE<|Dm ?_<;>(refine Sp 90 (λd_=>?_) λd_=>?_)<;>(first|exact s_|refine M<|M<|M<|M ?_|refine U (bD pA)<|U (bU M_)<|U yQ<|U aA ?_)<;>(first|refine Sp 94 (λz_=>?_) λz_=>?_|refine kX (t:=94) Z ?_)<;>(first|exact s_|refine M ?_|refine Fu ?_|refine U (bD xS) ?_)<;>(first|refine M ?_|refine Fu ?_|refine U (bU N_) ?_)<;>(first|refine M ?_|refine Fu ?_|refine U EN ?_)<;>(first|refine M ?_|refine U cE ?_)<;>refine V cE ?_<;>exact Gj (h:=by first|(rw[s,w,u];rfl)|(rw[s,w,u,d_];rfl)|(clear n d b f g R;simp_all;done))
 refine Cn ?_ ?_<;>intro L
 .rw[g L];exact Sz aJ<|aC<|Rt<|Qq
 rw[R k1 v i k4 L];refine aB<|S<|aT (t:=2) (n:=10) (A_:=o6) ?_ ?_
 .all_goals refine Y (bD pA)<|Y (bU M_)<|Y cG<|Dm ?_<;>(refine Sp 103 (λq=>?_) λq=>?_)<;>(first|exact s_|refine M<|M<|M ?_|refine U (bD JK)<|U (bU nU)<|U iE ?_)<;>refine Y cE<|Da ?_<;>exact Gj (h:=by(rw[Q,q];rfl))
 exact aC<|Rt<|Qq
end Go.Proofs.C
section
namespace Go.Proofs.C
open Go.Proofs.Tryz
open Go.Abs
theorem aBD(q):aw q=!qg q:=by rw[Bool.eq_iff_iff];simp[aw,qg,ca,Bool.or_eq_true,r9,Bool.and_eq_false_iff,n_];omega
theorem yx{α:Type}{p q}(h:∀x,p x=!q x):∀(l:List α),l.any p=!l.all q
 | []=>rfl
 |x::l=>by grind
theorem aC9(r):uw r=!(B3 r.priv&&lK r.sl):=by
 rw[uw,B3,pvB,yx aBD,yx (q:=tJ) (λx=>by rw[tJ,Bool.not_not]) r.priv.sources];show (((((!r.priv.trace.all _||!(!(θ _||(θ _||false))))||_)||_)||_)||_||_)=_
 grind
def vAk(r:j_):Bool:=θ (1<=r.kind)&&θ (r.kind<=5)
def vA(r:j_):Bool:=(((((((((θ (r.kind<1)||θ (5<r.kind))||θ (r.author<0))||θ (59<r.author))||θ (r.number<1))||θ (128<r.number))||θ (r.clock<1))||θ (1000000<r.clock))||!cK r.branch)||θ (16<(C (r.parents.map S_):Int)))||!r.parents.all m6
theorem aC8(r):(!vA r&&tH r.parents)=(vAk r&&!mj r):=by
 have g:θ (r.kind<1)=!θ (1<=r.kind):=G_
 have c:θ (5<r.kind)=!θ (r.kind<=5):=G_
 have d:θ (r.author<0)=!θ (0<=r.author):=G_
 have f:θ (59<r.author)=!θ (r.author<=59):=G_
 have e:θ (r.number<1)=!θ (1<=r.number):=G_
 have a:θ (128<r.number)=!θ (r.number<=128):=G_
 have h:θ (r.clock<1)=!θ (1<=r.clock):=G_
 have b:θ (1000000<r.clock)=!θ (r.clock<=1000000):=G_
 rw[vA,vAk,mj,nA,nA,nA,TT,g,c,d,f,e,a,h,b];simp[Bool.not_or,Bool.not_not,Bool.not_and,Bool.and_assoc]
theorem aCB:¬ (eH []).2=0:=E_
theorem aAw{r:j_}(i:vAk r=N):EO r=(((kM r.edits).2&&NS r)&&v5G r):=by
 rw[vAk,l6,j0,j0]at i;have p:C (r.edits.map bM)=C r.edits:=g_ _;have n:(kM r.edits).2=(θ (C r.edits=0)||θ ((eH r.edits).2=0)):=by
  rw[kM]
  grind
 have k:θ (0<(C (r.edits.map bM):Int))=!θ (C r.edits=0):=by
  grind
 have s:C r.edits=0->θ ((eH r.edits).2=0)=η:=λh=>by
  rw[eq_nil_of_length_eq_zero h];rfl
 rw[v5G,n,EO,o1G,o2G,o3G,o4G,o5G,o6G,k];have ⟨l,m⟩:∃l,l=θ (C r.edits=0):=X_;have ⟨g,e⟩:∃g,g=θ ((eH r.edits).2=0):=X_;have a:l=N->g=η:=λh=>by simp_all
 rw[<-m,<-e];clear m e s k n p;have d:r.kind=1\/r.kind=2\/r.kind=3\/r.kind=4\/r.kind=5:=X
 have B:θ (r.target=a6)=θ (r.target=a6):=rfl;have ⟨y,D⟩:∃y,y=r.yes:=X_;have o:θ (r.order<1)=!θ (1<=r.order):=G_
 have j:θ (4<r.order)=!θ (r.order<=4):=G_
 rw[o0G,o3a,NS,dh,Qu,Fh,Gu,Qv,Yx,o,j,nA];clear o j i;rcases d with h|h|h|h|h
 .simp only[h];by_cases c1:r.target=a6<;>by_cases c2:r.order=0<;>by_cases c3:r.from'=a6<;>cases b:r.yes<;>cases l<;>cases g<;>simp[c1,c2,c3,b]at a |-
 .simp only[h];by_cases c2:r.order=0<;>by_cases c3:r.from'=a6<;>cases b:m6 r.target<;>cases l<;>cases g<;>simp[c2,c3,b]at a |-
 .simp only[h];by_cases c2:r.order=3
  .rw[c2];by_cases c3:r.from'=a6<;>cases b:m6 r.target<;>cases f:r.yes<;>cases l<;>cases g<;>simp[c3,b,f]at a |-
  cases c1:θ (1<=r.order)<;>cases q:θ (r.order<=4)<;>by_cases c3:r.from'=a6<;>cases b:m6 r.target<;>cases f:r.yes<;>cases l<;>cases g<;>simp[c1,c2,c3,b,f,q]at a |-
 .simp only[h];by_cases c1:r.target=a6<;>by_cases c2:r.order=0<;>by_cases c3:r.from'=r.branch<;>cases b:cK r.from'<;>cases f:r.yes<;>cases l<;>cases g<;>simp[c1,c2,c3,b,f]at a |-
 simp only[h];by_cases c1:r.target=a6<;>by_cases c2:r.order=0<;>by_cases c3:r.from'=a6<;>cases b:r.yes<;>cases l<;>cases g<;>simp[c1,c2,c3,b]at a |-
theorem aAH(r):(!vA r&&(tH r.parents&&((EO r&&lK r.sl)&&B3 r.priv)))=iI r:=by
 rw[<-Bool.and_assoc,aC8,iI,aC9];by_cases b:vAk r=N
 .rw[aAw b]
  grind
 have a:vAk r=η:=F_
 have f:NS r=η:=by
  cases e:NS r
  .rfl
  have ⟨c,d⟩:=CB e;rw[vAk,decide_eq_true c,decide_eq_true d]at a;cases a
 rw[a,f,Bool.false_and,Bool.false_and,Bool.and_false,Bool.false_and]
end Go.Proofs.C
end
namespace Go.Proofs.C
open Go.Proofs.Tryz
open Go.Abs Go.Lib
variable{l R:List UInt8}{s t:B_}{L:List B_}{k p c n:Nat}
theorem fi(r:j_)(H:aF)(R:mX r)(u_:∀e∈r.edits,C e.refs<2^40):RC 69 [av (eD r)] (bv (iI r)) H:=by
 refine aW.pure ?_ F_ H;have m:C (r.parents.map S_)=C r.parents:=g_ _;have K:=λH=>Ut r H R u_;have z:=λH=>gh r.priv H R.2.2.2.2.2;have q:=λH=>T8 r.sl H R.2.2.2.2.1;have o:=λH=>lR r.branch H (by have:=R.2.1.1;omega);have p:=λH=>F3 r.parents H R.2.2.1;have x:=R.2.2.1.1;have D:=aAH r;have J0:vA r=((((((((((θ (r.kind<1)||θ (5<r.kind))||θ (r.author<0))||θ (59<r.author))||θ (r.number<1))||θ (128<r.number))||θ (r.clock<1))||θ (1000000<r.clock))||!cK r.branch)||θ (16<(C (r.parents.map S_):Int)))||!r.parents.all m6):=rfl;have ⟨a,g⟩:∃a,a=vA r:=X_;have ⟨b,w⟩:∃a,a=EO r:=X_;have ⟨E,I⟩:∃a,a=lK r.sl:=X_;have ⟨B,L⟩:∃a,a=B3 r.priv:=X_;have ⟨nm,J⟩:∃a,a=cK r.branch:=X_;have ⟨dg,G⟩:∃a,a=r.parents.all m6:=X_;generalize iI r=v at D |-;rw[<-g]at D J0;rw[<-w]at D K;rw[<-I]at D q;rw[<-L]at D z;rw[<-J]at J0 o;rw[<-G]at J0 p;clear g w I L J G;refine Bd func69 Z ntmps69<|O (kb 1)<|V aJ<|S<|S<|aT (t:=59) (n:=66) (A_:=a) ?_ ?_
 .all_goals refine Y (bD pA)<|Y (bU M_)<|Y cF<|Dm ?_<;>(refine Sp 7 (λh7=>?_) λh7=>?_)<;>(first|exact s_|refine M<|M<|M ?_|refine U (bD pA)<|U (bU M_)<|U iZ ?_)<;>refine Y cE<|Dm ?_<;>(refine Sp 12 (λD=>?_) λD=>?_)<;>(first|exact s_|refine M<|M<|M ?_|refine U (bD F0)<|U (bU M_)<|U cF ?_)<;>refine Y cE<|Dm ?_<;>(refine Sp 17 (λe_=>?_) λe_=>?_)<;>(first|exact s_|refine M<|M<|M ?_|refine U (bD F0)<|U (bU M_)<|U iZ ?_)<;>refine Y cE<|Dm ?_<;>(refine Sp 22 (λK=>?_) λK=>?_)<;>(first|exact s_|refine M<|M<|M ?_|refine U (bD A9)<|U (bU M_)<|U cF ?_)<;>refine Y cE<|Dm ?_<;>(refine Sp 27 (λm4=>?_) λm4=>?_)<;>(first|exact s_|refine M<|M<|M ?_|refine U (bD A9)<|U (bU M_)<|U iZ ?_)<;>refine Y cE<|Dm ?_<;>(refine Sp 32 (λI=>?_) λI=>?_)<;>(first|exact s_|refine M<|M<|M ?_|refine U (bD FZ)<|U (bU M_)<|U cF ?_)<;>refine Y cE<|Dm ?_<;>(refine Sp 37 (λL=>?_) λL=>?_)<;>(first|exact s_|refine M<|M<|M ?_|refine U (bD FZ)<|U (bU M_)<|U iZ ?_)<;>refine Y cE<|Dm ?_<;>(refine Sp 42 (λo_=>?_) λo_=>?_)<;>(first|exact s_|refine M<|M<|M<|M ?_|refine U (bD DV)<|U (bU N_)<|U (kc gF (o _))<|U iE ?_)<;>refine Y cE<|Dm ?_<;>(refine Sp 48 (λR=>?_) λR=>?_)<;>(first|exact s_|refine M<|M<|M<|M ?_|refine U (bD oZ)<|U (bU aG)<|U (fJ aE)<|U iZ ?_)<;>refine Y cE<|Dm ?_<;>(refine Sp 54 (λf_=>?_) λf_=>?_)<;>(first|exact s_|refine M<|M<|M<|M ?_|refine U (bD oZ)<|U (bU aG)<|U (kc call114 (p _))<|U iE ?_)<;>refine V cE ?_<;>(exact⟨⟨_,Z,G_⟩,Z,Z,Z⟩)
 refine Cn ?_ ?_<;>intro y
 .have W:=y;rw[W]at D;rw[<-D];exact Sz aJ<|aC<|Rt<|Qq
 have W:=y;rw[W]at D;have D:(tH r.parents&&((b&&E)&&B))=v:=D;refine aB<|S<|Sz aJ<|aD<|bC (σ:=Nat) (λk=>([(1,.ref 1 0 0 0),(3,iv ((k:Int)+1))],[(1,bx 21 53 ((eD r).map .pv))])) (λk=>k<=C r.parents/\tH r.parents=tH (r.parents.drop k)) (λk=>C r.parents - k) 0 ⟨X,Z⟩ ?_ ?_
 .exact E0
 rintro k ⟨hk,hst⟩;refine S<|O aA<|Y (bD oZ)<|Y (bU aG)<|Y (fJ aE)<|V cF<|Cn ?_ ?_<;>intro d
 .have P:k+1<C r.parents:=I_ d
  have ⟨s,c⟩:=aR (l:=r.parents) (k:=k) X;have ⟨t,i⟩:=aR P;have hi:=cC (f:=S_) c;have u:=cC (f:=S_) i;have F:=zx c i;have Q:ξ.wrap ((k:Int)+1 - 1)=(k:Int):=by rw[lZ X X];omega
  refine aB<|S<|aD<|S<|aN a7<|Cq (bD oZ)<|Cq (bU aG)<|Cq aA<|Cq (dV Z Z Z Q)<|Cq (bS Z aZ Z Z X x7 hi Z)<|Cq (fK N_ (hi:=hi))<|Cq (bD oZ)<|Cq (bU aG)<|Cq aA<|Cq (bS Z aZ Z Z X x7 u Z)<|Cq (fK N_ (hi:=u))<|Cq (KY Z Z Z)<|bG<|Kr<|Cn ?_ ?_<;>intro n
  .have A_:=not_not n;rw[hst,F,A_]at D;rw[<-D];exact Sz aJ<|aC<|Rt<|Qq
  have A_:=pE n;refine aB<|Rd aA<|Y (by exact dB Z Z Z (show ξ.wrap ((k:Int)+1+1)=((k+1:Nat):Int)+1 by rw[lZ X X];omega))<|Da ?_;exact⟨k+1,⟨X,F_⟩,X,E0⟩
 have j:C r.parents<=k+1:=J_ d
 rw[hst,ZF u5]at D;have D:((b&&E)&&B)=v:=D;rw[<-D];refine aP<|S<|aT (t:=2) (n:=15) (A_:=(b&&E)&&B) ?_ ?_
 .all_goals refine Y (xD cQ bL)<|Y (kc call115 (K _))<|Dm ?_<;>(refine Sp 81 (λG=>?_) λG=>?_)<;>(first|exact s_|refine M<|M<|M ?_|refine U (bD AO)<|U (xD iC sizeOf48)<|U (kc call116 (q _)) ?_)<;>refine Y cE<|Dm ?_<;>(refine Sp 86 (λc_=>?_) λc_=>?_)<;>(first|exact s_|refine M<|M<|M ?_|refine U (bD iO)<|U (xD isAgg51 sizeOf51)<|U (kc call117 (z _)) ?_)<;>refine Y cE<|Da ?_<;>exact Gj (h:=by(simp_all;done))
 exact aC<|Rt<|Qq
theorem aCt(r:j_)(H:aF)(j:mX r)(b:∀e∈r.edits,C e.refs<2^40):RC 26 [av (eD r)] (sv (H9 r)) H:=by
 refine aW.pure ?_ F_ H;have i:=λH=>fi r H j b;refine Bd func26 Z ntmps26<|O (tP (id:=1) Z Z Z Z Z)<|V aJ<|S<|O (aX Z cQ bL Z Z Z Z (Z) Z)<|Y (bH Z Z call69 Z (i _))<|V iE<|Cn ?_ ?_<;>intro c
 .have d:=not_not c;rw[H9,d];exact Sz aJ<|aC<|Rt<|Qq
 have d:=pE c;have h:=tB d;have g:=λH=>Nj r j h b H;have f:=λH=>P7 (vW r) (Nat.le_trans (KO h) E_) (KP h) H;rw[H9,b6 d];exact aB<|O (aX Z cQ bL Z Z Z Z (Z) Z)<|Y (bH Z Z call70 Z (g _))<|Y (kc call52 (f _))<|V aJ<|aC<|Rt<|Qq
def pt2(q:Int×Int):List B_:=[aV q.1,aV q.2]
def ot(p:GPriv):List B_:=[p.name,p.reason,aV (C p.sources:Int)]
def HK(p:GPriv)(k:Nat):List B_:=((ot p++p.sources)++[aV (C p.trace:Int)])++(p.trace.take k).flatMap pt2
theorem Tg(p):HK p (C p.trace)=zQ (VL p):=by rw[HK];simp[VL,zQ,fI,ot];rfl
theorem As{p}{k}{q}(h:p.trace[k]?=A q):HK p (k+1)=HK p k++pt2 q:=by simp[HK,dT h,flatMap_append]
theorem Iy(r:j_)(I:mX r)(o:VF r)(H:aF):RC 112 [av (xU r.priv)] (.pv (aL (zQ (VL r.priv)))) H:=by
 refine aW.pure ?_ F_ H;have j:=o.tr;have B:=o.sol;have E:=o.trl;generalize r.priv=p at j B E |-;clear o I;have g:C (p.sources.map S_)=C p.sources:=g_ _;have t:C (p.trace.map kP)=C p.trace:=g_ _;have u:∀H,RC 84 [iv (C (p.sources.map S_):Int)] (sv (aV (C p.sources:Int))) H:=λH=>by
  rw[g];exact CJ (C p.sources:Int) X X H
 have J:∀H,RC 84 [iv (C (p.trace.map kP):Int)] (sv (aV (C p.trace:Int))) H:=λH=>by
  rw[t];exact CJ (C p.trace:Int) X X H
 have v:C (bQ (ot p++p.sources))=3+C p.sources:=by rw[bQ,g_,j8];rfl
 have n:∀k,k<=C p.trace->C (HK p k)=4+C p.sources+2*k:=λk i=>by
  have:C ((p.trace.take k).flatMap pt2)=2*k:=by
   have G:∀l:List (Int×Int),C (l.flatMap pt2)=2*C l:=λl=>by
    induction l with
    |nil=>rfl
    |cons q l K=>rw[flatMap_cons,j8,K,j6];show 2+_=_;omega
   rw[G,q9];omega
  rw[HK,j8,j8,j8,this];show 3+_+1+_=_;omega
 have R:∀k,k<=C p.trace->C (bQ (HK p k))=4+C p.sources+2*k:=λk i=>by rw[bQ,g_,n k i]
 have Q:bQ (ot p++p.sources)++([aV (C p.trace:Int)].map S_).map (·.map AV.pv)=bQ (HK p 0):=by rw[eS,HK,take_zero,flatMap_nil,append_nil]
 refine Bd func112 Z ntmps112<|O (kb 1)<|V aJ<|S<|aN a7<|Cr [1] (λ_ h=>fh JM h)<|Cr [1] (λ_ h=>lh N_ h)<|Cr [1] (λ_ h=>fh JL h)<|Cr [1] (λ_ h=>lh N_ h)<|Cr [1] (λ_ h=>fh zC h)<|Cr [1] (λ_ h=>lh aG h)<|Cr [] (λ_ _=>(fJ aE))<|Cr [] (λe d=>by exact bH Z Z fZ Z (u _))<|Cp [971] (λe d=>by exact eQ (id:=971) Z aZ Z Z Z Z F_ ((d _ Z).trans Z))<|Cr [971] (λ_ _=>aJ)<|bG<|Kr<|O aA<|Y (bD zC)<|Y (bU aG)<|Y (by exact bW (ob:=⟨0,1,9,bQ (ot p)⟩) (k:=3+p.sources.length) (ps:=p.sources.map S_) Z aZ sZ Z Z Z Z Z Z Z (dX _) (m:=p.sources.length) g X Z (rows':=bQ (ot p++p.sources)) (by exact eS _ _)) ?_;refine V aJ<|O aA<|Y (bD tX)<|Y (bU kK)<|Y (fJ gL)<|Y (kc fZ (J _))<|Y (by exact aM ([aV (p.trace.length:Int)].map S_) Z aZ Z Z Z Z Z (dX _))<|Y (by exact bW (ob:=⟨1,1,9,bQ (ot p++p.sources)⟩) (k:=4+p.sources.length+2*0) (ps:=[aV (p.trace.length:Int)].map S_) Z aZ sZ Z Z Z Z Z v Z (dX _) (m:=1) Z X X (rows':=bQ (HK p 0)) X)<|V aJ<|S<|Sz aJ<|aD<|bC (σ:=Nat) (λk=>([(1,.ref 1 0 0 0),(3,.osl 971 (2+k) 0 (4+p.sources.length+2*k)),(4,iv (k:Int))],[(1,bx 7 51 ((xU p).map .pv)),(971,⟨2+k,1,9,bQ (HK p k)⟩)])) (λk=>k<=p.trace.length) (λk=>p.trace.length - k) 0 X ?_ ?_
 .exact L_
 intro k i;have m:=R k i;refine S<|O aA<|Y (bD tX)<|Y (bU kK)<|Y (fJ gL)<|V cF<|Cn ?_ ?_<;>intro f
 .have y:k<C p.trace:=I_ f
  have ⟨q,z⟩:=aR y;have P:=j q (m7 z);have s:=cC (f:=kP) z;have L:=λH=>CJ q.1 X X H;have F:=λH=>CJ q.2 X X H;refine aB<|S<|aD<|aN a7<|Cr [971] (λ_ _=>aA)<|Cr [1] (λ_ h=>fh tX h)<|Cr [1] (λ_ h=>lh kK h)<|x_ aA<|x_ (by exact bS Z VH Z Z X x7 s Z)<|x_ ((FV nE))<|x_ ((fK M_ (hi:=s)))<|x_ (by exact bH Z Z fZ Z (L _))<|Cr [1] (λ_ h=>fh tX h)<|Cr [1] (λ_ h=>lh kK h)<|x_ aA<|x_ (by exact bS Z VH Z Z X x7 s Z)<|x_ ((FV nD))<|x_ ((fK M_ (hi:=s)))<|x_ (by exact bH Z Z fZ Z (F _))<|x_ (by exact aM ((pt2 q).map S_) Z aZ Z Z Z Z Z (dX _))<|Cp [971] (λe d=>by exact bW (ob:=⟨2+k,1,9,bQ (HK p k)⟩) (k:=4+C p.sources+2*(k+1)) (ps:=(pt2 q).map S_) Z aZ sZ Z ((d _ Z).trans Z) Z Z Z m Z (dX _) (m:=2) Z X X (rows':=bQ (HK p (k+1))) (by rw[eS,As z])) ?_;refine Cr [971] (λ_ _=>aJ)<|bG<|Kr<|Rd aA<|Y kp<|Da ?_;exact⟨k+1,X,X,L_⟩
 have D:k=C p.trace:=J_ f
 subst D;have w:=n (C p.trace) i;refine aP<|O aA<|V aJ<|aC ?_;refine cN (H':=[]) (.inr Z) Z (aI Z) (Fin.fz (id:=971) (ob:=⟨2+C p.trace,1,9,bQ (HK p (C p.trace))⟩) ((HK p (C p.trace)).map S_) Z (dS _) (.osl (IN S_ _ w)) Z T_ T_) ?_;exact⟨by rw[<-Tg];rfl,Z⟩
theorem Cw(r)(b:mX r)(c:VF r)(a:∀e∈r.edits,C e.refs<2^40){H}(B:H.get 971=ζ):aW φ 70 [av (eD r)] H (λx H'=>x=.osl 971 2 0 (C (vW r))/\H'=(971,⟨2,1,9,bQ (vW r)⟩)::H) :=aW.frame (YG r b c a) (λ_ _ h=>by cases h) (λ_ _ h=>by cases h) H_ (λid h=>.inr (by
  by_cases e:971=id
  .simp_all
  simp[aF.get,kH e]at h))
theorem IT(L)(f:C L<=100000)(g:∀s∈L,T s<=100000000)(H)(id)(ob)(n)(j:H.get id=A ob)(d:Nat.blt 0 ob.sz=N)(b:ob.rows=bQ L)(h:n=C L):aW φ 85 [.osl id ob.g 0 n] H (λr H'=>r=sv (a_ (aO L))/\H'=(id,LP ob)::H):=by
 subst h;refine aW.retire _ (W0 L f g _) j d (by rw[b];exact dS _) Z ?_;intro i a B e c
 match i with
 |0 =>
  cases e;cases c;refine .inr ⟨0,C L,Z,?_⟩;rw[gY];rfl
 |n+1=>cases e
def Am(s:q7):List B_:=[aV s.idx,aV (C s.sig:Int)]
def Ie(s:q7):List B_:=[aV (C s.path:Int)]
theorem SA(s:q7)(i:FSeal s)(H:aF):RC 111 [av (lV s)] (.pv (aL (fI (.z s.idx s.sig s.path)))) H:=by
 refine aW.pure ?_ F_ H;have q:=i.i0;have B:=i.i1;have l1:=i.sl;have l2:=i.pl;have e:C (s.sig.map S_)=C s.sig:=g_ _;have f:C (s.path.map S_)=C s.path:=g_ _;have l:=λH=>CJ s.idx q X H;have m:∀H,RC 84 [iv (C (s.sig.map S_):Int)] (sv (aV (C s.sig:Int))) H:=λH=>by
  rw[e];exact CJ (C s.sig:Int) X X H
 have n:∀H,RC 84 [iv (C (s.path.map S_):Int)] (sv (aV (C s.path:Int))) H:=λH=>by
  rw[f];exact CJ (C s.path:Int) X X H
 have c:fI (.z s.idx s.sig s.path)=((Am s++s.sig)++Ie s)++s.path:=by simp[fI,Am,Ie]
 rw[c];have g:C (Am s++s.sig)=2+C s.sig:=by rw[j8];rfl
 have j:C ((Am s++s.sig)++Ie s)=2+C s.sig+1:=by rw[j8,g];rfl
 have o:C (((Am s++s.sig)++Ie s)++s.path)=2+C s.sig+1+C s.path:=G_
 refine Bd func111 Z ntmps111<|O (kb 1)<|V aJ<|S<|aN a7<|Cr [1] (λ_ h=>fh DW h)<|Cr [1] (λ_ h=>lh M_ h)<|Cr [] (λp k=>by exact bH Z Z fZ Z (l _))<|Cr [1] (λ_ h=>fh wX h)<|Cr [1] (λ_ h=>lh aG h)<|Cr [] (λ_ _=>(fJ aE))<|Cr [] (λp k=>by exact bH Z Z fZ Z (m _))<|Cp [971] (λp k=>by exact eQ (id:=971) Z aZ Z Z Z Z F_ ((k _ Z).trans Z))<|Cr [971] (λ_ _=>aJ)<|bG<|Kr<|O aA<|Y (bD wX)<|Y (bU aG)<|Y (by exact bW (ob:=⟨0,1,9,bQ (Am s)⟩) (k:=2+s.sig.length) (ps:=s.sig.map S_) Z aZ sZ Z Z Z Z Z Z Z (dX _) (m:=s.sig.length) e X Z (rows':=bQ (Am s++s.sig)) (by exact eS _ _)) ?_;refine V aJ<|O aA<|Y (bD wV)<|Y (bU aG)<|Y (fJ aE)<|Y (kc fZ (n _))<|Y (by exact aM ((Ie s).map S_) Z aZ Z Z Z Z Z (dX _))<|Y (by exact bW (ob:=⟨1,1,9,bQ (Am s++s.sig)⟩) (k:=2+s.sig.length+1) (ps:=(Ie s).map S_) Z aZ sZ Z Z Z Z Z ((cY _).trans g) Z (dX _) (m:=1) Z X Z (rows':=bQ ((Am s++s.sig)++Ie s)) (by exact eS _ _))<|V aJ<|O aA<|Y (bD wV)<|Y (bU aG)<|Y (by exact bW (ob:=⟨2,1,9,bQ ((Am s++s.sig)++Ie s)⟩) (k:=2+s.sig.length+1+s.path.length) (ps:=s.path.map S_) Z aZ sZ Z Z Z Z Z ((cY _).trans j) Z (dX _) (m:=s.path.length) f X Z (rows':=bQ (((Am s++s.sig)++Ie s)++s.path)) (by exact eS _ _))<|V aJ<|aC ?_;refine cN (H':=[]) (.inr Z) Z (aI Z) (Fin.fz (id:=971) (ob:=⟨3,1,9,bQ (((Am s++s.sig)++Ie s)++s.path)⟩) ((((Am s++s.sig)++Ie s)++s.path).map S_) Z (dS _) (.osl (IN S_ _ o)) Z T_ T_) ?_;exact Qq
theorem Tl(r:j_)(y:mX r)(t:∀e∈r.edits,C e.refs<2^40)(H:aF):RC 68 [av (eD r)] (.tup [sv (mW r).1,iv (mW r).2]) H:=by
 refine aW.pure ?_ F_ H;have L:=λH=>fi r H y t;rw[mW];refine Bd func68 Z ntmps68<|O (kb 1)<|Y aJ<|V aJ<|S<|O (by exact aX Z cQ bL Z Z Z Z u0 Z)<|Y (kc call69 (L _))<|V iE ?_;refine Cn ?_ ?_<;>intro p
 .have G:=not_not p;rw[a8 F_];exact O aJ<|V aJ<|aC<|Ru<|Qq
 have G:=pE p;have f:=tB G;have o:jW r=((vW r++fI (.z r.sl.idx r.sl.sig r.sl.path))++zQ (VL r.priv))++fI (.z r.priv.sl.idx r.priv.sl.sig r.priv.sl.path):=by rw[jW,om,append_assoc,append_assoc]
 have i:∀x∈jW r,Yz x:=λx a=>(mem_append.1 a).elim (KP f x) (ZO f x);have v:=KO f;have τ:=ZN f;have c:C (jW r)<=506:=by rw[jW,j8];omega
 have k:=yS i c;have m:=λ(H:aF) w=>Cw r y f t (H:=H) w;have n:=λH=>SA r.sl (lJ f.sl) H;have l:=λH=>SA r.priv.sl (lJ f.psl) H;have q:=λH=>Iy r y f H;have d:=λH=>IT (jW r) X (λs I=>Nat.le_trans (i s I) E_) H 971 ⟨5,1,9,bQ (jW r)⟩ (C (jW r));rw[b6 G];rw[o]at d c k |-;have ⟨J,R⟩:∃J,J=vW r:=X_;have ⟨B,W⟩:∃B,B=fI (.z r.sl.idx r.sl.sig r.sl.path):=X_;have ⟨P,F⟩:∃P,P=zQ (VL r.priv):=X_;have ⟨D,E⟩:∃D,D=fI (.z r.priv.sl.idx r.priv.sl.sig r.priv.sl.path):=X_;rw[<-R,<-W,<-F,<-E]at d c k |-;simp only[<-R]at m;rw[<-W]at n;rw[<-F]at q;rw[<-E]at l;have q1:C (J++B)<=506:=by have:=c;simp only[j8]at this |-;omega
 have K:C ((J++B)++P)<=506:=by have:=c;simp only[j8]at this |-;omega
 have z:=d;generalize aO (((J++B)++P)++D)=Q at d k |-;have b:T (a_ Q)=C Q:=cB _;clear z R W F E o i;refine aB<|S<|aN a7<|Cr [1] (λv g=>by exact aX Z cQ bL Z ((g _ Z).trans Z) Z Z u0 Z)<|Cp [971] (λv g=>by exact bH Z Z call70 Z ((m _ ((g _ Z).trans Z))))<|Cr [1] (λ_ h=>fh AO h)<|Cr [1] (λv g=>by exact aX Z iC sizeOf48 Z ((g _ Z).trans Z) Z Z Z Z)<|x_ (by exact bH Z Z call111 Z (n _))<|Cp [971] (λv g=>by exact bW (ob:=⟨2,1,9,bQ J⟩) (k:=C (J++B)) (ps:=B.map S_) Z aZ sZ Z ((g _ Z).trans Z) Z Z Z (cY _) Z (dX _) (m:=C B) (g_ _) G_ F_ (rows':=bQ (J++B)) (eS _ _))<|x_ aJ<|bG<|Kr<|S ?_;refine Rd aA<|Y (bD iO)<|Y (xD isAgg51 sizeOf51)<|Y (kc call112 (q _))<|Y (by exact bW (ob:=⟨3,1,9,bQ (J++B)⟩) (k:=C ((J++B)++P)) (ps:=P.map S_) Z aZ sZ Z Z Z Z Z (cY _) Z (dX _) (m:=C P) (g_ _) (by rw[j8]at K;omega) j8.symm (rows':=bQ ((J++B)++P)) (eS _ _))<|V aJ<|O aA<|Y (bD iO)<|Y (bD F1)<|Y (xD iC sizeOf48)<|Y (kc call111 (l _))<|Y (by exact bW (ob:=⟨4,1,9,bQ ((J++B)++P)⟩) (k:=C (((J++B)++P)++D)) (ps:=D.map S_) Z aZ sZ Z Z Z Z Z (cY _) Z (dX _) (m:=C D) (g_ _) (by rw[j8]at c;omega) j8.symm (rows':=bQ (((J++B)++P)++D)) (eS _ _)) ?_;refine V aJ<|O aA<|Y (kc call85 (d _ Z Z Z Z))<|V aJ<|S<|O aA<|Y (gG U_)<|V iZ<|Cn ?_ ?_<;>intro u
 .have j:20000<C Q:=I_ u
  rw[b6 j];exact O aJ<|V aJ<|aC<|Ru<|Qq
 have j:¬ 20000<C Q:=J_ u
 rw[a8 j];exact aB<|O aA<|Y aJ<|V aJ<|aC<|Ru<|Qq
theorem fo(t)(H)(c:T t<1000000000):RC 67 [sv t] (.tup [.pv (kR (iN t).1),iv (iN t).2]) H:=by
 have h:=Bc (λx a=>Jx (λy B=>Jr X) a) (λx H a=>Jw (λx H a=>pc x H a) x H a) t H c
 rwa [Nc (λe f b=>SG (λo d=>by rw[ga d]) f b)]at h
theorem KS(t):∀e∈(iN t).1,C e.refs<2^40:=by
 rw[<-Nc (rE:=wg λs=>(Tx s).1) (λe c b=>SG (λo a=>by rw[ga a]) c b) t,gPr]
 split
 .simp_all
 next h =>
 split
 .exact P8 (λx B=>(Jx (λy D=>Jr X) X).2) _
 simp_all
theorem aAQ:∀(n:Nat) (l:List UInt8) (L:List B_),C l<=n->PA l=A L->2*C L<=C l/\∀s∈L,T s<=C l:=by
 intro n
 induction n with
 |zero =>
  intro l L g h;rw[PA]at h
  simp_all
 | succ n d =>
  intro l L g h;rw[PA]at h
  split at h
  .simp_all
  next E =>
  split at h
  .cases h
  next b =>
  have F:PB l≠0:=λe=>b (.inl e);have D:l[PB l]?=A 58:=Classical.byContradiction λe=>b (.inr (.inl e));cases e:PA _ with
  |none=>rw[e]at h;cases h
  |some B =>
   rw[e]at h;cases h;have ⟨f,c⟩:=d _ B G_ e;rw[q6]at f c;refine⟨G_,λs a=>?_⟩;rcases l9.1 a with rfl|a
   .rw[cB,q9,q6];omega
   have:=c s a;omega
def SL:Nat->RS->List (Int×Int)×RS
 |0,q=>([],q)
 |k+1,q=>if q.2=N then([],q)else(((rU q).1,(rU (rU q).2).1)::(SL k (rU (rU q).2).2).1,(SL k (rU (rU q).2).2).2)
def Qx(q:RS):List (Int×Int)×RS:=SL (rU q).1.toNat (rU q).2
def Qt(L:List B_):=rN (L,η)
def Yo(L:List B_):=rU (Qt L).2
def Yn(L:List B_):=rU (Yo L).2
def Ym(L:List B_):=rU (Yn L).2
def Yl(L:List B_):=rU (Ym L).2
def Yk(L:List B_):=rN (Yl L).2
def Rm(L:List B_):=rL (Yk L).2
def Qs(L:List B_):=rN (Rm L).2
def Yj(L:List B_):=rN (Qs L).2
def Yi(L:List B_):=rN (Yj L).2
def dy(L:List B_):=rU (Yi L).2
def dx(L:List B_):=rN (dy L).2
def O7(L:List B_):=rZ (dx L).2
def dw(L:List B_):=rN (O7 L).2
def dv(L:List B_):=rN (dw L).2
def Y8(L:List B_):=rL (dv L).2
def Y7(L:List B_):=Qx (Y8 L).2
def J1(L:List B_):=rZ (Y7 L).2
def HT(L:List B_):j_:=⟨(Yo L).1,(Yn L).1,(Ym L).1,(Yl L).1,(Yk L).1,(Rm L).1,(iN (Qs L).1).1,(Yj L).1,θ ((Yi L).1=B8),(dy L).1,(dx L).1,(O7 L).1,⟨(dw L).1,(dv L).1,(Y8 L).1,(Y7 L).1,(J1 L).1⟩⟩
def ti(t:List UInt8)(L:List B_):Prop:=(J1 L).2.2=N\/(Qt L).1≠HL\/mW (HT L)≠(a_ t,0)
instance (t:List UInt8) (L:List B_):Decidable (ti t L):=inferInstanceAs (Decidable (_\/_\/_))
def tW(t:List UInt8):j_×Int:=if 20000<C t then(zR,2)else match PA t with
 |none=>(zR,5)
 |some L=>if ti t L then(zR,5)else(HT L,0)
def jQ(q:RS):Prop:=C q.1<=10000/\∀s∈q.1,T s<=20000
theorem NG{L}{b c}(h:jQ (L,b))(k):jQ (L.drop k,c):=⟨by have:=h.1;grind,λs a=>h.2 s (mem_of_mem_drop a)⟩
theorem xC{q}(h:jQ q):T (rN q).1<=20000/\jQ (rN q).2:=by
 have ⟨L,b⟩:=q;refine⟨?_,NG h 1⟩;cases L with
 |nil=>exact k_ _
 |cons s L=>exact h.2 s mem_cons_self
theorem Vg(s):qS ((yP s).getD 0):=by
 rw[yP]
 split
 .exact⟨H_,H_⟩
 next B =>
 split
 .have:=NJ (l:=ν (μ s)) F_;show qS (V2 _);exact⟨X,X⟩
 exact⟨H_,H_⟩
theorem uN{q}(h:jQ q):qS (rU q).1/\jQ (rU q).2:=⟨Vg _,NG h 1⟩
theorem XD{q}(h:jQ q):(C (rL q).1<=20000/\∀x∈(rL q).1,T x<=20000)/\jQ (rL q).2:=by
 have d:=(uN h).2;have ⟨c,a⟩:=d;rw[rL]
 split
 .exact⟨⟨k_ _,λx b=>by cases b⟩,c,a⟩
 refine⟨⟨?_,λx b=>a x (mem_of_mem_take b)⟩,NG ⟨c,a⟩ _⟩
 grind
theorem vr{q}(h:jQ q):(qS (rZ q).1.idx/\(C (rZ q).1.sig<=20000/\∀x∈(rZ q).1.sig,T x<=20000)/\(C (rZ q).1.path<=20000/\∀x∈(rZ q).1.path,T x<=20000))/\jQ (rZ q).2:=by have e:=uN h;have d:=XD e.2;have c:=XD d.2;exact⟨⟨e.1,d.1,c.1⟩,c.2⟩
theorem Jk{q}(h:C q.1=0\/q.2=N):(rU q).2.2=N:=by
 rw[rU,rN]
 grind
theorem Jm:∀(k) (q),jQ q->(C (SL k q).1<=C q.1+1/\∀p∈(SL k q).1,qS p.1/\qS p.2)/\jQ (SL k q).2
 |0,q,h=>⟨⟨k_ _,λp b=>by cases b⟩,h⟩
 | k + 1, q, h => by
  rw[SL]
  split
  .simp_all
  next E =>
  have f:=uN h;have g:=uN f.2;have d:=Jm k _ g.2;refine⟨⟨?_,λp b=>?_⟩,d.2⟩
  .rw[j6];by_cases e:C q.1=0
   .have c:SL k (rU (rU q).2).2=([],(rU (rU q).2).2):=by
     cases k with
     |zero=>rfl
     |succ k=>rw[SL,b6 (Jk (.inr (Jk (.inl e))))]
    rw[c];exact le_add_left _ _
   have B:C (rU q).2.1=C q.1 - 1:=q6;have D:C (rU _).2.1=C (rU q).2.1 - 1:=q6;omega
  grind
theorem Jn{q}(h:jQ q):(C (Qx q).1<=20000/\∀p∈(Qx q).1,qS p.1/\qS p.2)/\jQ (Qx q).2:=by have a:=uN h;have b:=Jm (rU q).1.toNat _ a.2;have B:=a.2.1;exact⟨⟨by rw[Qx];omega,b.1.2⟩,b.2⟩
theorem Zy{L}(h:jQ (L,η)):T ((Qt L).1)<=20000/\jQ (Qt L).2:=xC h
theorem Gk{L}(h:jQ (L,η)):qS (Yo L).1/\jQ (Yo L).2:=uN (Zy h).2
theorem j9{L}(h:jQ (L,η)):qS (Yn L).1/\jQ (Yn L).2:=uN (Gk h).2
theorem Gi{L}(h:jQ (L,η)):qS (Ym L).1/\jQ (Ym L).2:=uN (j9 h).2
theorem Gh{L}(h:jQ (L,η)):qS (Yl L).1/\jQ (Yl L).2:=uN (Gi h).2
theorem Gg{L}(h:jQ (L,η)):T ((Yk L).1)<=20000/\jQ (Yk L).2:=xC (Gh h).2
theorem Gf{L}(h:jQ (L,η)):(C (Rm L).1<=20000/\∀x∈(Rm L).1,T x<=20000)/\jQ (Rm L).2:=XD (Gg h).2
theorem Ge{L}(h:jQ (L,η)):T ((Qs L).1)<=20000/\jQ (Qs L).2:=xC (Gf h).2
theorem Gd{L}(h:jQ (L,η)):T ((Yj L).1)<=20000/\jQ (Yj L).2:=xC (Ge h).2
theorem Zx{L}(h:jQ (L,η)):T ((Yi L).1)<=20000/\jQ (Yi L).2:=xC (Gd h).2
theorem uj{L}(h:jQ (L,η)):qS (dy L).1/\jQ (dy L).2:=uN (Zx h).2
theorem ui{L}(h:jQ (L,η)):T ((dx L).1)<=20000/\jQ (dx L).2:=xC (uj h).2
theorem uh{L}(h:jQ (L,η)):(qS (O7 L).1.idx/\(C (O7 L).1.sig<=20000/\∀x∈(O7 L).1.sig,T x<=20000)/\(C (O7 L).1.path<=20000/\∀x∈(O7 L).1.path,T x<=20000))/\jQ (O7 L).2:=vr (ui h).2
theorem ug{L}(h:jQ (L,η)):T ((dw L).1)<=20000/\jQ (dw L).2:=xC (uh h).2
theorem uf{L}(h:jQ (L,η)):T ((dv L).1)<=20000/\jQ (dv L).2:=xC (ug h).2
theorem ue{L}(h:jQ (L,η)):(C (Y8 L).1<=20000/\∀x∈(Y8 L).1,T x<=20000)/\jQ (Y8 L).2:=XD (uf h).2
theorem ud{L}(h:jQ (L,η)):(C (Y7 L).1<=20000/\∀p∈(Y7 L).1,qS p.1/\qS p.2)/\jQ (Y7 L).2:=Jn (ue h).2
theorem Rn{L}(h:jQ (L,η)):(qS (J1 L).1.idx/\(C (J1 L).1.sig<=20000/\∀x∈(J1 L).1.sig,T x<=20000)/\(C (J1 L).1.path<=20000/\∀x∈(J1 L).1.path,T x<=20000))/\jQ (J1 L).2:=vr (ud h).2
theorem Jh{L}(h:jQ (L,η)):mX (HT L)/\C (HT L).parents<549755813888 :=Je (h_ _) (Gk h).1 (j9 h).1 (Gi h).1 (Gh h).1 (uj h).1 (Gg h).1 (Gd h).1 (ui h).1 (ug h).1 (uf h).1 (Gf h).1 (ue h).1 (ud h).1 (ON _) (SX _) (uh h).1 (Rn h).1
theorem Hw{t}{L}(c:C t<=20000)(h:PA t=A L):jQ (L,η):=by have ⟨B,a⟩:=aAQ _ t L (h_ _) h;exact⟨G_,λs b=>Nat.le_trans (a s b) c⟩
theorem P9(s)(L)(b):rN (s::L,b)=(s,(L,b)):=by simp[rN]
theorem wy:∀(l) (n v),decFrom n l=A v->l.foldl (λn b=>10*n+(b.toNat:Int) - 48) n=v
 | [],n,v,h=>by
  obtain rfl:=Option.some.inj h;rfl
 | b::l,n,v,h=>by
  rw[decFrom]at h;cases e:digitVal b with
  |none=>simp_all
  | some d =>
   rw[e]at h;have a:(10*n+(b.toNat) - 48)=((n*10+d):Int):=by
    rw[digitVal]at e
    grind
   rw[foldl_cons,a];exact wy l _ v h
theorem Bz{x}(B:0<=x)(D:x<10000000):yP (aV x)=A x:=by obtain ⟨k,rfl⟩:∃k:Nat,x=k:=⟨x.toNat,X⟩;have a:=NU k;have E:T (aV k)<=7:=cU X H_;have c:V2 _=k:=wy _ 0 k (jV k);have b:N5 k=aV k:=rfl;rw[yP,a8 X,a,c,b6 b]
theorem vN{x}(a:0<=x)(c:x<10000000)(L)(b):rU (aV x::L,b)=(x,(L,b)):=by rw[rU,P9];rw[Bz a c];simp
theorem QA{l}(h:C l<10000000)(L)(b):rL (aV (C l)::(l++L),b)=(l,(L,b)):=by rw[rL,vN X X];rw[a8 G_,l_,take_left' Z,drop_left' rfl]
theorem vt{s}(d:0<=s.idx)(a:s.idx<10000000)(f:C s.sig<10000000)(c:C s.path<10000000)(L)(b):rZ (fI (.z s.idx s.sig s.path)++L,b)=(s,(L,b)):=by
 have e:fI (.z s.idx s.sig s.path)++L=aV s.idx::(aV (C s.sig)::(s.sig++(aV (C s.path)::(s.path++L)))):=by simp[fI]
 rw[e,rZ,vN d a];rw[QA f];rw[QA c]
theorem vz:∀(ps) (L),(∀q∈ps,(0<=q.1/\q.1<10000000)/\(0<=q.2/\q.2<10000000))->SL (C ps) (QF ps++L,η)=(ps,(L,η))
 | [],L,_=>rfl
 |q::ps,L,h=>by
  obtain ⟨⟨a,b⟩,c,d⟩:=h q mem_cons_self;have e:QF (q::ps)++L=aV _::(aV _::(QF _++L)):=rfl;rw[j6,SL,a8 H_,e,vN a b];rw[vN c d];rw[vz _ L λx f=>h x (mem_cons_of_mem _ f)]
theorem Jo{ps}(B:C ps<10000000)(h:∀q∈ps,(0<=q.1/\q.1<10000000)/\(0<=q.2/\q.2<10000000))(L):Qx (fI (.p ps)++L,η)=(ps,(L,η)):=by have e:fI (.p ps)++L=aV _::(QF _++L):=rfl;rw[e,Qx,vN X X];rw[l_,vz _ L h]
theorem oz{r:j_}(h:VF r):HT (jW r)=r/\(Qt (jW r)).1=HL/\(J1 (jW r)).2.2=η:=by
 have J:=CB h.k;have B:=h.au;have E:=h.nu;have D:=h.cl;have F:=h.order;have G:=h.pal;have H:=h.sol;have I:=h.trl;have j:=lJ h.sl;have k:=lJ h.psl;have K:=j.i0;have L:=j.i1;have P:=j.sl;have Q:=j.pl;have R:=k.i0;have W:=k.i1;have j3:=k.sl;have j4:=k.pl;have l:∀q∈r.priv.trace,(0<=q.1/\q.1<10000000)/\(0<=q.2/\q.2<10000000):=λq z=>by have:=h.tr q z;omega
 have o:Qt (jW r)=(HL,(sf1 r,η)):=by rw[Qt,Pv];rfl
 have w:Yo (jW r)=(r.kind,(sf2 r,η)):=by rw[Yo,o];exact vN X X _ _
 have s:Yn (jW r)=(r.author,(sf3 r,η)):=by rw[Yn,w];exact vN X X _ _
 have x:Ym (jW r)=(r.number,(sf4 r,η)):=by rw[Ym,s];exact vN X X _ _
 have t:Yl (jW r)=(r.clock,(sf5 r,η)):=by rw[Yl,x];exact vN X X _ _
 have u:Yk (jW r)=(r.branch,(sf6 r,η)):=by rw[Yk,t];rfl
 have v:Rm (jW r)=(r.parents,(sf7 r,η)):=by rw[Rm,u];exact QA X _ _
 have m:Qs (jW r)=((kM r.edits).1,(sf8 r,η)):=by rw[Qs,v];rfl
 have p:Yj (jW r)=(r.target,(sf9 r,η)):=by rw[Yj,m];rfl
 have n:Yi (jW r)=(aV (if r.yes then 1 else 0),(Iu r,η)):=by rw[Yi,p];rfl
 have c:dy (jW r)=(r.order,(It r,η)):=by rw[dy,n];exact vN X X _ _
 have d:dx (jW r)=(r.from',(Is r,η)):=by rw[dx,c];exact P9 _ _ _
 have f:O7 (jW r)=(r.sl,(Ir r,η)):=by rw[O7,d];exact vt X X X X _ _
 have g:dw (jW r)=(r.priv.name,(Iq r,η)):=by rw[dw,f];exact P9 _ _ _
 have a:dv (jW r)=(r.priv.reason,(Ip r,η)):=by rw[dv,g];exact P9 _ _ _
 have b:Y8 (jW r)=(r.priv.sources,(Io r,η)):=by rw[Y8,a];exact QA X _ _
 have e:Y7 (jW r)=(r.priv.trace,(Im r,η)):=by rw[Y7,b];exact Jo X l _
 have i:J1 (jW r)=(r.priv.sl,(Il r,η)):=by rw[J1,e];exact vt X X X X _ _
 refine⟨?_,by rw[o],by rw[i]⟩;rw[HT,w,s,x,t,u,v,m,p,n,c,d,f,g,a,b,e,i,JO h.tx];have y:θ (aV (if r.yes then 1 else 0)=B8)=r.yes:=dz r.yes;simp only[y]
theorem fl{r}{t}(h:mW r=(a_ t,0)):tW t=(r,0):=by
 have d:iI r=N:=by
  rw[mW]at h
  grind
 have c:=tB d;have f:t=aO (jW r)/\C t<=20000:=by
  rw[mW,b6 d]at h
  split at h
  .cases h
  next B =>
  have:=congrArg (λs=>ν (μ s)) (congrArg Prod.fst h);simp[cJ]at this;rw[<-this];exact⟨Z,X⟩
 have a:PA t=A (jW r):=by
  rw[f.1];exact R1 _ λs g=>Nat.lt_of_le_of_lt (show T s<=20000 from(mem_append.1 g).elim (KP c s) (ZO c s)) E_
 have ⟨e,r2,i⟩:=oz c;have b:¬ ti t (jW r):=by
  rw[ti,e,i]
  simp_all
 rw[tW,a8 X,a];dsimp only;rw[a8 b,e]
theorem T4(t):tW t=dP t:=by
 by_cases d:(dP t).2=0
 .rw[fl (KT d)];exact Prod.ext Z d.symm
 by_cases b:20000<C t
 .rw[tW,b6 b,dP,b6 b]
 have c:dP t=(zR,5):=by
  rw[dP]at d |-
  grind
 rw[c,tW,a8 b];cases e:PA t with
 |none=>rfl
 |some L =>
  dsimp only;by_cases a:ti t L
  .rw[b6 a]
  have f:=Classical.byContradiction λh=>a (.inr (.inr h));rw[SY f]at c;have g:=congrArg Prod.snd c;exact absurd g H_
theorem qq(s):(yP s).getD 0<=300000000:=by
 rw[yP]
 split
 .decide
 next B =>
 split
 .have:=NJ (l:=ν (μ s)) F_;show V2 _<=_;omega
 decide
theorem Tw{q}(h:q.2=N):∀k,SL k q=([],q)
 |0=>rfl
 |k+1=>by rw[SL,b6 h]
theorem aB5:(iN a6).1=[]:=by kernel_rfl
theorem SE(t:List UInt8)(hts:C t<1000000000)(H:aF):RC 25 [sv (a_ t)] (.tup [av (eD (tW t).1),iv (tW t).2]) H:=by
 refine Pu ?_;have hls:T (a_ t)=C t:=cB t;have i:=λH=>Af t hts H;refine Bd func25 Z ntmps25<|O (kl 2 dt)<|V aJ<|S<|O aA<|Y (gG U_)<|V iZ<|Cn ?_ ?_<;>intro hc1
 .have hb:20000<C t:=I_ hc1
  rw[show tW t=(zR,2)by rw[tW,b6 hb]];refine O (pB UP)<|Uu (jH bL)<|V aJ<|aC<|fO (H':=[]) (.inr Z) Z (fG Z cQ bL Z Z Z u0 Z) (aI Z) P_ ?_;exact Qq
 have hb:¬ 20000<C t:=J_ hc1
 rw[Su]at i;have hg:tW t=match PA t with
  |none=>(zR,5)
  |some L=>if ti t L then(zR,5)else(HT L,0):=by rw[tW,a8 hb];all_goals rfl
 have hok:=λL h=>Hw (t:=t) (L:=L) X h;rw[hg];clear hg;have ⟨o_,hO⟩:∃o_,o_=PA t:=X_;rw[<-hO]at i hok |-;clear hO;rcases o_ with _|L
 .have i:∀H,RC 62 [sv (a_ t)] (.tup [.pv (aL []),bv η]) H:=i;refine aB<|O aA<|Y (kc call62 (i _))<|Y aA<|Y dL<|Y dL<|Y aJ<|V aJ<|S<|O aA<|V iE<|Cn ?_ ?_<;>intro hc2
  .refine O (pB UP)<|Uu (jH bL)<|V aJ<|aC<|fO (H':=[]) (.inr Z) Z (fG Z cQ bL Z Z Z u0 Z) (aI Z) P_ ?_;exact Qq
  cases hc2
 have i:∀H,RC 62 [sv (a_ t)] (.tup [.pv (aL L),bv N]) H:=i;have hS:=hok L Z;have W:=Jh hS;have hrf:=KS (Qs L).1;have s7:=(Ge hS).1;have δ:=λH=>fo (Qs L).1 H X;have g:ti t L↔((J1 L).2.2=N\/(Qt L).1≠HL\/mW (HT L)≠(a_ t,0)):=Iff.rfl;rw[HT]at W g;have F:=λH=>Tl _ W.1 hrf H;dsimp only;rw[HT];have J:∀q:RS,jQ q->C q.1<2^40:=λq h=>by have:=h.1;omega
 have k0:=vO (L,η) (J _ hS);have o0:=xC (q:=(L,η)) hS;have e0:Qt L=rN (L,η):=by rw[Qt]
 have ⟨⟨G,Q0⟩,h0⟩:∃p,p=rN (L,η):=X_;rw[<-h0]at k0 o0 e0;dsimp only at k0 o0;have k1:=oV Q0 (J _ o0.2);have o1:=uN (q:=Q0) o0.2;have e1:Yo L=rU Q0:=by rw[Yo,e0]
 have ⟨⟨I,Q1⟩,h1⟩:∃p,p=rU Q0:=X_;rw[<-h1]at k1 o1 e1;dsimp only at k1 o1;have k2:=oV Q1 (J _ o1.2);have o2:=uN (q:=Q1) o1.2;have e2:Yn L=rU Q1:=by rw[Yn,e1]
 have ⟨⟨r,Q2⟩,h2⟩:∃p,p=rU Q1:=X_;rw[<-h2]at k2 o2 e2;dsimp only at k2 o2;have k3:=oV Q2 (J _ o2.2);have o3:=uN (q:=Q2) o2.2;have e3:Ym L=rU Q2:=by rw[Ym,e2]
 have ⟨⟨j,Q3⟩,h3⟩:∃p,p=rU Q2:=X_;rw[<-h3]at k3 o3 e3;dsimp only at k3 o3;have k4:=oV Q3 (J _ o3.2);have o4:=uN (q:=Q3) o3.2;have e4:Yl L=rU Q3:=by rw[Yl,e3]
 have ⟨⟨K,Q4⟩,h4⟩:∃p,p=rU Q3:=X_;rw[<-h4]at k4 o4 e4;dsimp only at k4 o4;have k5:=vO Q4 (J _ o4.2);have o5:=xC (q:=Q4) o4.2;have e5:Yk L=rN Q4:=by rw[Yk,e4]
 have ⟨⟨V5,Q5⟩,h5⟩:∃p,p=rN Q4:=X_;rw[<-h5]at k5 o5 e5;dsimp only at k5 o5;have k6:=QM Q5 (J _ o5.2);have o6:=XD (q:=Q5) o5.2;have e6:Rm L=rL Q5:=by rw[Rm,e5]
 have ⟨⟨V6,Q6⟩,h6⟩:∃p,p=rL Q5:=X_;rw[<-h6]at k6 o6 e6;dsimp only at k6 o6;have k7:=vO Q6 (J _ o6.2);have o7:=xC (q:=Q6) o6.2;have e7:Qs L=rN Q6:=by rw[Qs,e6]
 have ⟨⟨y_,Q7⟩,h7⟩:∃p,p=rN Q6:=X_;rw[<-h7]at k7 o7 e7;dsimp only at k7 o7;have k8:=vO Q7 (J _ o7.2);have o8:=xC (q:=Q7) o7.2;have e8:Yj L=rN Q7:=by rw[Yj,e7]
 have ⟨⟨V8,Q8⟩,h8⟩:∃p,p=rN Q7:=X_;rw[<-h8]at k8 o8 e8;dsimp only at k8 o8;have k9:=vO Q8 (J _ o8.2);have o9:=xC (q:=Q8) o8.2;have e9:Yi L=rN Q8:=by rw[Yi,e8]
 have ⟨⟨V9,Q9⟩,h9⟩:∃p,p=rN Q8:=X_;rw[<-h9]at k9 o9 e9;dsimp only at k9 o9;have k10:=oV Q9 (J _ o9.2);have γ:=uN (q:=Q9) o9.2;have P:dy L=rU Q9:=by rw[dy,e9]
 have ⟨⟨f,τ⟩,h10⟩:∃p,p=rU Q9:=X_;rw[<-h10]at k10 γ P;dsimp only at k10 γ;have k11:=vO τ (J _ γ.2);have β:=xC (q:=τ) γ.2;have Q:dx L=rN τ:=by rw[dx,P]
 have ⟨⟨n,D⟩,h11⟩:∃p,p=rN τ:=X_;rw[<-h11]at k11 β Q;dsimp only at k11 β;have k12:=vo D (J _ β.2);have o12:=vr (q:=D) β.2;have R:O7 L=rZ D:=by rw[O7,Q]
 have ⟨⟨a,E⟩,h12⟩:∃p,p=rZ D:=X_;rw[<-h12]at k12 o12 R;dsimp only at k12 o12;have k13:=vO E (J _ o12.2);have o13:=xC (q:=E) o12.2;have ρ:dw L=rN E:=by rw[dw,R]
 have ⟨⟨z,f_⟩,h13⟩:∃p,p=rN E:=X_;rw[<-h13]at k13 o13 ρ;dsimp only at k13 o13;have k14:=vO f_ (J _ o13.2);have v_:=xC (q:=f_) o13.2;have z_:dv L=rN f_:=by rw[dv,ρ]
 have ⟨⟨u,u_⟩,h14⟩:∃p,p=rN f_:=X_;rw[<-h14]at k14 v_ z_;dsimp only at k14 v_;have k15:=QM u_ (J _ v_.2);have d_:=XD (q:=u_) v_.2;have κ:Y8 L=rL u_:=by rw[Y8,z_]
 have ⟨⟨w,d⟩,h15⟩:∃p,p=rL u_:=X_;rw[<-h15]at k15 d_ κ;dsimp only at k15 d_;have k16:=oV d (J _ d_.2);have u16:=uN d_.2;have σ:=qq (rN d).1;have B:Qx d=SL (rU d).1.toNat (rU d).2:=rfl;have σ:(rU d).1<=300000000:=σ;have ⟨⟨m4,QN⟩,hN⟩:∃p,p=rU d:=X_;rw[<-hN]at k16 u16 σ B;dsimp only at k16 u16 σ B;have o16:=Jn (q:=d) d_.2;have J0:Y7 L=Qx d:=by rw[Y7,κ]
 have ⟨⟨s,l⟩,h16⟩:∃p,p=Qx d:=X_;rw[<-h16]at B o16 J0;dsimp only at B o16;have k17:=vo l (J _ o16.2);have o17:=vr (q:=l) o16.2;have e17:J1 L=rZ l:=by rw[J1,J0]
 have ⟨⟨V17,Q17⟩,h17⟩:∃p,p=rZ l:=X_;rw[<-h17]at k17 o17 e17;dsimp only at k17 o17;simp only[e0,e1,e2,e3,e4,e5,e6,e7,e8,e9,P,Q,R,ρ,z_,κ,J0,e17]at W hrf s7 δ g F |-;clear W hS hok hrf h0 h1 h2 h3 h4 h5 h6 h7 h8 h9 h10 h11 h12 h13 h14 h15 h16 h17 e0 e1 e2 e3 e4 e5 e6 e7 e8 e9 P Q R ρ z_ κ J0 e17;have hpn:y_=a6->(iN y_).1=[]:=λh=>by rw[h];exact aB5
 have ⟨PE,hPE⟩:∃v,v=iN y_:=X_;rw[<-hPE]at δ F g hpn |-;clear hPE;have ⟨ED,EE⟩:=PE;dsimp only at δ F g hpn |-;have ⟨TX,hTX⟩:∃v,v=mW ⟨I,r,j,K,V5,V6,ED,V8,θ (V9=B8),f,n,a,⟨z,u,w,s,V17⟩⟩:=X_;rw[<-hTX]at F g;clear hTX;rw[show HL=⟨#[114,101,99,111,114,100]⟩from rfl]at g;refine aB<|O aA<|Y (kc call62 (i _))<|Y aA<|Y dL<|Y dL<|Y aJ<|V aJ<|S<|O aA<|V iE<|Cn ?_ ?_<;>intro hc3
 .cases hc3
 refine aB<|O aA<|Y (pB aFO)<|Y (kb 980)<|V aJ<|Sz (kl 7 aCP)<|O aA<|Y (kc rM (k0 _ Z))<|V aJ<|O aA<|Y (kc rK (k1 _ Z))<|Y (bD pA)<|Uu (ku sizeOf3)<|Zz<|O aA<|Y (kc rK (k2 _ Z))<|Y (bD F0)<|Uu (ku sizeOf3)<|Zz<|O aA<|Y (kc rK (k3 _ Z))<|Y (bD A9)<|Uu (ku sizeOf3)<|Zz<|O aA<|Y (kc rK (k4 _ Z))<|Y (bD FZ)<|Uu (ku sizeOf3)<|Zz<|S ?_;refine gO.ent (E':=[(0,sv (a_ t)),(2,.ref 2 0 0 0),(6,vv),(7,.ref 7 0 0 0),(8,sv G)]) (H':=[(980,wc Q4),(7,bx 21 53 [iv I,iv r,iv j,iv K,sv a6,.pv .nils,.pv .nils,sv a6,bv η,iv 0,sv a6,iv 0,.pv .nils,.pv .nils,sv a6,sv a6,.pv .nils,.pv .nils,iv 0,.pv .nils,.pv .nils]),(2,bx 21 53 ((eD zR).map .pv))]) Wk<|Rd aA<|Y (kc rM (k5 _ Z))<|Y (bD DV)<|Uu (by exact cT Z V_ Z Z Z Z Z Z u1 u0 u0)<|Zz<|O aA<|Y (kc call65 (k6 _ Z))<|Y (bD oZ)<|Uu (by exact cT Z sizeOf22 Z Z Z Z Z Z u1 u0 u0)<|Zz<|S ?_;refine gO.ent (E':=[(0,sv (a_ t)),(2,.ref 2 0 0 0),(6,vv),(7,.ref 7 0 0 0),(8,sv G)]) (H':=[(980,wc Q6),(7,bx 21 53 [iv I,iv r,iv j,iv K,sv V5,.pv (aL V6),.pv .nils,sv a6,bv η,iv 0,sv a6,iv 0,.pv .nils,.pv .nils,sv a6,sv a6,.pv .nils,.pv .nils,iv 0,.pv .nils,.pv .nils]),(2,bx 21 53 ((eD zR).map .pv))]) Wk<|Rd aA<|Y (kc rM (k7 _ Z))<|V aJ<|O aA<|Y (kc rM (k8 _ Z))<|Y (bD DT)<|Uu (by exact cT Z V_ Z Z Z Z Z Z u1 u0 u0)<|Zz<|O aA<|Y (kc rM (k9 _ Z))<|Y vT<|Y (bD JK)<|Uu (by exact cT Z sizeOf4 Z Z Z Z Z Z u1 u0 u0)<|Zz<|O aA<|Y (kc rK (k10 _ Z))<|Y (bD zB)<|Uu (by exact cT Z sizeOf3 Z Z Z Z Z Z u1 u0 u0) ?_;refine Zz<|O aA<|Y (kc rM (k11 _ Z))<|Y (bD xS)<|Uu (by exact cT Z V_ Z Z Z Z Z Z u1 u0 u0)<|Zz<|S ?_;refine gO.ent (E':=[(0,sv (a_ t)),(2,.ref 2 0 0 0),(6,vv),(7,.ref 7 0 0 0),(8,sv G),(9,sv y_)]) (H':=[(980,wc D),(7,bx 21 53 [iv I,iv r,iv j,iv K,sv V5,.pv (aL V6),.pv .nils,sv V8,bv (θ (V9=B8)),iv f,sv n,iv 0,.pv .nils,.pv .nils,sv a6,sv a6,.pv .nils,.pv .nils,iv 0,.pv .nils,.pv .nils]),(2,bx 21 53 ((eD zR).map .pv))]) Wk<|Rd aA<|Y (kc call66 (k12 _ Z))<|Y (bD AO)<|Uu (by exact rC Z sizeOf48 Z Z Z Z Z Z Z u1 u0 u0)<|Zz<|S ?_
 refine gO.ent (E':=[(0,sv (a_ t)),(2,.ref 2 0 0 0),(6,vv),(7,.ref 7 0 0 0),(8,sv G),(9,sv y_)]) (H':=[(980,wc E),(7,bx 21 53 [iv I,iv r,iv j,iv K,sv V5,.pv (aL V6),.pv .nils,sv V8,bv (θ (V9=B8)),iv f,sv n,iv a.idx,.pv (aL a.sig),.pv (aL a.path),sv a6,sv a6,.pv .nils,.pv .nils,iv 0,.pv .nils,.pv .nils]),(2,bx 21 53 ((eD zR).map .pv))]) Wk<|Rd aA<|Y (kc rM (k13 _ Z))<|Y (bD iO)<|Y (bD JM)<|Uu (by exact cT Z V_ Z Z Z Z Z Z u1 u0 u0)<|Zz<|O aA<|Y (kc rM (k14 _ Z))<|Y (bD iO)<|Y (bD JL)<|Uu (by exact cT Z V_ Z Z Z Z Z Z u1 u0 u0)<|Zz<|O aA<|Y (kc call65 (k15 _ Z))<|Y (bD iO)<|Y (bD zC)<|Uu (by exact cT Z sizeOf22 Z Z Z Z Z Z u1 u0 u0) ?_;refine Zz<|S ?_;refine gO.ent (E':=[(0,sv (a_ t)),(2,.ref 2 0 0 0),(6,vv),(7,.ref 7 0 0 0),(8,sv G),(9,sv y_)]) (H':=[(980,wc d),(7,bx 21 53 [iv I,iv r,iv j,iv K,sv V5,.pv (aL V6),.pv .nils,sv V8,bv (θ (V9=B8)),iv f,sv n,iv a.idx,.pv (aL a.sig),.pv (aL a.path),sv z,sv u,.pv (aL w),.pv .nils,iv 0,.pv .nils,.pv .nils]),(2,bx 21 53 ((eD zR).map .pv))]) Wk<|Rd aA<|Y (kc rK (k16 _ Z))<|V aJ<|S<|S ?_;refine gO.ent (E':=[(0,sv (a_ t)),(2,.ref 2 0 0 0),(6,vv),(7,.ref 7 0 0 0),(8,sv G),(9,sv y_),(10,iv m4)]) (H':=(905,⟨0,2,104,[]⟩)::(7,bx 21 53 [iv I,iv r,iv j,iv K,sv V5,.pv (aL V6),.pv (kR []),sv V8,bv (θ (V9=B8)),iv f,sv n,iv a.idx,.pv (aL a.sig),.pv (aL a.path),sv z,sv u,.pv (aL w),.osl 905 (0) 0 (0),iv 0,.pv (aL []),.pv (aL [])])::(980,wc QN)::(2,bx 21 53 ((eD zR).map .pv))::[]) ?_ ?_
 ·exact(cH.nz 905 2 104 Z Z ⟨⟨_,Z,(by exact Nz.same (by(simp;done)))⟩,⟨_,Z,(by exact Nz.same (by(simp;rfl)))⟩,⟨_,Z,(by exact Nz.same (by(simp;rfl)))⟩,⟨_,Z,(by exact Nz.same (by(simp;rfl)))⟩,⟨_,Z,(by exact Nz.same (by(simp;done)))⟩,⟨_,Z,(by exact Nz.same (by(simp;done)))⟩,⟨_,Z,(by exact Nz.same (by(simp;done)))⟩,T_⟩ ⟨⟨_,Z,Z,Z,Z,(by exact .inr ⟨_,_,rfl,rfl,(by repeat(first|exact trivial|refine⟨(by first|exact Nz.own|exact Nz.weak|exact Nz.same (by(simp;done))),?_⟩))⟩)⟩,⟨_,Z,Z,Z,Z,(by exact .inl ⟨Z,(by(simp;done))⟩)⟩,⟨_,Z,Z,Z,Z,(by exact .inl ⟨Z,(by(simp;done))⟩)⟩,T_⟩ T_)
 refine Rg<|V aJ<|aD<|dU (λ(c:List (Int×Int)) (q:RS)=>([(0,sv (a_ t)),(2,.ref 2 0 0 0),(6,vv),(7,.ref 7 0 0 0),(8,sv G),(9,sv y_),(10,iv m4),(11,iv (C c:Int))],[(905,⟨C c,2,104,wP c⟩),(7,bx 21 53 [iv I,iv r,iv j,iv K,sv V5,.pv (aL V6),.pv (kR []),sv V8,bv (θ (V9=B8)),iv f,sv n,iv a.idx,.pv (aL a.sig),.pv (aL a.path),sv z,sv u,.pv (aL w),.osl 905 (C c) 0 (C c),iv 0,.pv (aL []),.pv (aL [])]),(980,wc q),(2,bx 21 53 ((eD zR).map .pv))])) (λc q=>jQ q/\C c<=m4.toNat/\(s,l)=(c++(SL (m4.toNat - C c) q).1,(SL (m4.toNat - C c) q).2)) (λc q=>m4.toNat - C c) [] QN ⟨u16.2,k_ _,by rw[B];rfl⟩ ?_ ?_
 .exact L_
 rintro c q ⟨hq,hA,hR⟩;have m1:=oV q (J _ hq);have p1:=uN hq;have m2:=oV (rU q).2 (J _ p1.2);have p2:=uN p1.2;have b:q.2=η->∀m,SL (m+1) q=(((rU q).1,(rU (rU q).2).1)::(SL m (rU (rU q).2).2).1,(SL m (rU (rU q).2).2).2):=λh m=>by rw[SL,a8 (by rw[h];decide)]
 have ⟨⟨x,q1⟩,hx⟩:∃p,p=rU q:=X_;rw[<-hx]at m1 m2 p1 p2 b;dsimp only at m1 m2 p1 p2 b;have ⟨⟨y,q2⟩,hy⟩:∃p,p=rU q1:=X_;rw[<-hy]at m2 p2 b;dsimp only at m2 p2 b;clear hx hy;refine S<|S<|aT (t:=91) (n:=11) (A_:=θ ((C c:Int)<m4)&&!q.2) ?_ ?_
 .all_goals refine Y aA<|Y aA<|Y cF<|Dm ?_<;>(refine Sp 85 (λh85=>?_) λh85=>?_)<;>(first|exact s_|refine M<|M<|M<|M<|M ?_|refine U aA<|U sW<|U (bD NY)<|U (bU nU)<|U iE ?_)<;>refine V cE ?_<;>exact Gj (h:=by(simp only[*,Zo];done))
 refine Cn ?_ ?_<;>intro hc4
 .have o:=hc4;rw[l6,r9,j0]at o;have A_:C (c++[(x,y)])=C c+1:=by rw[j8];rfl
  have hR2:(s,l)=((c++[(x,y)])++(SL (m4.toNat - (C c+1)) q2).1,(SL (m4.toNat - (C c+1)) q2).2):=by
   rw[hR,show m4.toNat - C c=(m4.toNat - (C c+1))+1 by omega,b o.2];simp
  refine aB<|S<|aD<|Sz (kl 12 Gb)<|O aA<|Y (kc rK (m1 _ Z))<|Y (bD nE)<|Uu (ku sizeOf3)<|Zz<|O aA<|Y (kc rK (m2 _ Z))<|Y (bD nD)<|Uu (ku sizeOf3)<|Zz<|Rd (bD iO)<|Y (bD tX)<|Y (bU kK)<|Y (xD eN sizeOf104)<|Y (aM [kP (x,y)] Z VH Z Z Z Z Z R_)<|Y (bW (ob:=⟨C c,2,104,wP c⟩) (k:=C c+1) (ps:=[kP (x,y)]) Z VH Ze Z Z Z Z Z (SQ _) Z R_ (m:=1) Z X Z (rows':=wP (c++[(x,y)])) (SR c (x,y))) ?_;refine Y (bD iO)<|Y (bD tX)<|Uu (by exact cT Z sizeOf49 Z Z Z Z Z Z u1 u0 u0)<|Zz<|Rd aA<|Y kp<|Da ?_;refine⟨c++[(x,y)],q2,⟨p2.2,by rw[A_];omega,by rw[A_];exact hR2⟩,by rw[A_];omega,?_⟩;rw[A_];exact L_
 have o:=hc4;have hend:(s,l)=(c,q):=by
  rw[Bool.and_eq_false_iff,n_,Bool.not_eq_false']at o;rcases o with h|h
  .rw[hR,show m4.toNat - C c=0 by omega,SL,append_nil]
  rw[hR,Tw h,append_nil]
 obtain ⟨rfl,rfl⟩:=Prod.mk.inj hend;clear hR b m1 m2 hend;refine gO.ent (cH.fzG (id:=905) (E':=[(0,sv (a_ t)),(2,.ref 2 0 0 0),(6,vv),(7,.ref 7 0 0 0),(8,sv G),(9,sv y_)]) (H':=[(7,bx 21 53 ((eD ⟨I,r,j,K,V5,V6,[],V8,θ (V9=B8),f,n,a,⟨z,u,w,s,zS⟩⟩).map .pv)),(980,wc l),(2,bx 21 53 ((eD zR).map .pv))]) (s.map kP) Z Z ?_ Z ?_ ?_) ?_
 .intro p hp;simp only[l9,q8,or_false]at hp;rcases hp with rfl|rfl|rfl|rfl|rfl|rfl
  .exact⟨_,Z,.same (by(simp;done))⟩
  .exact⟨_,Z,.same (by(simp;rfl))⟩
  .exact⟨_,Z,.same (by(simp;rfl))⟩
  .exact⟨_,Z,.same (by(simp;rfl))⟩
  .exact⟨_,Z,.same (by(simp;done))⟩
  exact⟨_,Z,.same l5⟩
 .exact⟨⟨_,Z,Z,Z,Z,mO Z (bJ (.same H_) (bJ (.same H_) (bJ (.same H_) (bJ (.same H_) (bJ (.same H_) (bJ (.same H_) (bJ (.same H_) (bJ (.same H_) (bJ (.same H_) (bJ (.same H_) (bJ (.same H_) (bJ (.same H_) (bJ (.same H_) (bJ (.same H_) (bJ (.same H_) (bJ (.same H_) (bJ (.same H_) (bJ (.osl (gY kP _)) (bJ (.same H_) (bJ (.same H_) (bJ (.same H_) kG)))))))))))))))))))))⟩,⟨_,Z,Z,Z,Z,eL (wb _ _)⟩,⟨_,Z,Z,Z,Z,eL (by simp[bx,eD])⟩,T_⟩
 .exact T_
 refine aP<|O aA<|Y (kc call66 (k17 _ Z))<|Y (bD iO)<|Y (bD F1)<|Uu (by exact rC Z sizeOf48 Z Z Z Z Z Z Z (r_ Z) Z Z)<|Zz<|eU (λ(_:Unit)=>([(0,sv (a_ t)),(2,.ref 2 0 0 0),(6,vv),(7,.ref 7 0 0 0),(8,sv G)],[(980,wc Q17),(7,bx 21 53 ((eD ⟨I,r,j,K,V5,V6,ED,V8,decide (V9=B8),f,n,a,⟨z,u,w,s,V17⟩⟩).map .pv)),(2,bx 21 53 ((eD zR).map .pv))])) (λ_=>True) ?_ ?_
 .refine O aA<|V EN<|Cn ?_ ?_<;>intro hc5
  .refine Rd aA<|Y (kc call67 (δ _))<|Y aA<|Y dL<|Y dL<|Y (bD DU)<|Uu (ku sizeOf46)<|Zz ?_;exact⟨(),T_,Wk⟩
  have hn:=hc5;rw[hpn (by rw[Bool.not_eq_false']at hn;exact b8 hn)];refine aB ?_;exact⟨(),T_,Wk⟩
 rintro _ -;refine O (xD cQ bL)<|Y (kc call68 (F _))<|Y aA<|Y dL<|Y dL<|Y aJ<|V aJ<|S<|S<|aT (t:=141) (n:=20) (A_:=((Q17.2||!θ (G=⟨#[114,101,99,111,114,100]⟩))||!θ (TX.2=0))||!θ (TX.1=a_ t)) ?_ ?_
 .all_goals refine Y aA<|Y sW<|Y (bD NY)<|Y (bU nU)<|Dm ?_<;>(refine Sp 129 (λh129=>?_) λh129=>?_)<;>(first|exact s_|refine M<|M ?_|refine U aA<|U EN ?_)<;>refine Y cE<|Dm ?_<;>(refine Sp 133 (λh133=>?_) λh133=>?_)<;>(first|exact s_|refine M<|M ?_|refine U aA<|U yQ ?_)<;>refine Y cE<|Dm ?_<;>(refine Sp 137 (λh137=>?_) λh137=>?_)<;>(first|exact s_|refine M<|M<|M ?_|refine U aA<|U aA<|U EN ?_)<;>refine V cE ?_<;>exact Gj (h:=by(simp only[*,Zo];done))
 refine Cn ?_ ?_<;>intro hc6
 .have o:=hc6;rw[b6 (g.2 (by
   simp only[Bool.or_eq_true,r9,n_]at o;rcases o with((h|h)|h)|h
   .exact .inl h
   .exact .inr (.inl h)
   .exact .inr (.inr λe=>h (by rw[e]))
   exact .inr (.inr λe=>h (by rw[e]))))]
  refine O (pB UP)<|Uu (jH bL)<|V aJ<|aC<|fO (H':=[]) (.inr Z) Z (fG Z cQ bL Z Z Z u0 Z) (aI Z) P_ ?_;exact Qq
 have o:=hc6;rw[a8 (λh=>by
  simp only[r6,Bool.not_eq_false',j0]at o;rcases g.1 h with h|h|h
  .rw[h]at o;cases o.1.1.1
  .exact h o.1.1.2
  exact h (Prod.ext o.2 o.1.2))]
 refine aB<|O (xD cQ bL)<|Uu (jH bL)<|V aJ<|aC<|fO (H':=[]) (.inr Z) Z (fG Z cQ bL Z Z Z (by simp only[Zl,S_];rfl) Z) (aI Z) (Fin.wk (by simp[eD,lV,xU]) T_ T_) ?_;exact Qq
theorem Z5(l:List B_)(s:B_)(H:aF)(a:C l<2^40):RC 38 [.pv (aL l),sv s] (iv (wT id l s:Nat)) H:=by
 refine Pu ?_;have P:C (l.map S_)=C l:=g_ _;refine Bd func38 Z ntmps38<|Sz aJ<|Sz aJ<|S<|aD<|bC (σ:=Nat) (λk=>([(0,.pv (aL l)),(1,sv s),(5,iv (k:Int))],[])) (λk=>k<=C l/\∀j,j<k->∀o,l[j]?=A o->jI (id o) s=N) (λk=>C l - k) 0 ⟨k_ _,λj h=>by omega⟩ ?_ ?_
 .exact E0
 rintro k ⟨hk,hlo⟩;have ⟨x,Q⟩:∃x,x=l.getD k a6:=X_;have E:k<C l->l[k]?=A x:=λh=>by
  have ⟨z,R⟩:=aR h;rw[Q,getD_eq_getElem?_getD,R];rfl
 have hi:=λh=>cC (f:=S_) (E h);have ⟨B,I⟩:∃B,B=(θ ((k:Int)<(C (l.map S_):Int))&&jI x s):=X_;refine S<|S<|aT (t:=17) (n:=13) (A_:=B) ?_ ?_
 .all_goals refine Y aA<|Y aA<|Y (fJ aE)<|Y cF<|Dm ?_<;>(refine Sp 10 (λF=>?_) λF=>?_)<;>(try exact w_)<;>(first|refine M<|M<|M<|M<|M<|M ?_|refine U aA<|U aA<|U (bS Z aZ Z Z X (l_ _) (hi (I_ F)) Z)<|U (eB Z N_ Z (hi (I_ F)) Z)<|U aA<|U (ib Z Z Z) ?_)<;>refine V cE ?_<;>exact Gj (h:=by rw[I];(rw[F];rfl))
 refine Cn ?_ ?_<;>intro G
 .have hBt:=I.symm.trans G;rw[l6,j0]at hBt;refine aB<|aD<|Rd aA<|Y kp<|Da ?_;refine⟨k+1,⟨X,λj W o D=>?_⟩,X,E0⟩;by_cases e:j=k
  .subst e;rw[E X]at D;cases D;exact hBt.2
  exact hlo j X o D
 have J:=I.symm.trans G;have K:wT id l s=k:=Md hk hlo (λo D=>by
  have L:=(m_.1 D).1;rw[E L]at D;cases D
  rwa [decide_eq_true (by omega:(k:Int)<(C (l.map S_):Int)),Bool.true_and]at J)
 rw[K];exact aP<|O aA<|V aJ<|aC<|Rt<|Qq
theorem TS(l:List B_)(j:Nat)(s:B_)(H:aF)(K:C l<2^40)(J:j<=C l):RC 39 [.pv (aL l),iv (j:Int),sv s] (.pv (aL (l.take j++s::l.drop j))) H:=by
 refine Pu ?_;have I:C (l.map S_)=C l:=g_ _;have B:C ((l.take j).map S_)=j:=by rw[g_,q9];omega
 have D:C ((l.drop j).map S_)=C l - j:=by rw[g_,q6]
 have E:C (l.take j++s::l.drop j)=j+1+(C l - j):=by rw[j8,j6,q9,q6];omega
 have F:C (bQ (l.take j))=j:=by rw[cY,q9];omega
 have G:C (bQ (l.take j++[s]))=j+1:=by rw[cY,j8,q9];simp only[j6,length_nil];omega
 refine Bd func39 Z ntmps39<|Sz aJ<|O (by exact eQ (id:=905) Z aZ Z Z Z Z H_ Z)<|Y aA<|Y aA<|Y (by exact eG (l:=0) (h:=j) Z aZ Z (dX l) Z Z (k_ _) X (show ((l.map S_).take j).drop 0=(l.take j).map S_ by rw[List.drop_zero,List.map_take]))<|Y (by exact bW (ob:=⟨0,1,9,[]⟩) (k:=j) (ps:=(l.take j).map S_) Z aZ sZ Z Z Z Z Z Z Z (dX _) B X (r8 _) (rows':=bQ (l.take j)) (by rw[List.nil_append];exact(dS _).symm))<|V aJ<|O aA<|Y aA<|Y (by exact aM ([s].map S_) Z aZ Z Z Z Z Z (dX _))<|Y (by exact bW (k:=j+1) (ps:=[s].map S_) Z aZ sZ Z Z Z Z Z F Z (dX _) (m:=1) Z X Z (rows':=bQ (l.take j++[s])) (eS _ _)) ?_;refine V aJ<|O aA<|Y aA<|Y aA<|Y (by exact eG (l:=j) (h:=(l.map S_).length) Z aZ Z (dX l) Z Z X (h_ _) (show ((l.map S_).take _).drop j=(l.drop j).map S_ by rw[List.take_length,List.map_drop]))<|Y (by exact bW (k:=(l.take j++s::l.drop j).length) (ps:=(l.drop j).map S_) Z aZ sZ Z Z Z Z Z G Z (dX _) D X E.symm (rows':=bQ (l.take j++s::l.drop j)) (by rw[eS,List.append_assoc];rfl))<|V aJ<|aC ?_;refine cN (H':=[]) (.inr Z) Z (aI Z) (Fin.fz (id:=905) (ob:=⟨3,1,9,bQ (l.take j++s::l.drop j)⟩) ((l.take j++s::l.drop j).map S_) Z (dS _) (.osl (gY S_ _)) Z T_ T_) ?_;exact Qq
theorem xn{l:List B_}(H:zT l)(F:s∉l):zT (l.take (wT id l s)++s::l.drop (wT id l s)):=by
 induction l with
 |nil=>exact pairwise_singleton _ _
 | cons a l G =>
  rw[l9,not_or]at F;have E:=pairwise_cons.1 H;have G:=G E.2 F.2;rw[wT,findIdx_cons];cases h:jI (id a) s with
  |true =>
   show zT (a::(l.take (wT id l s)++s::l.drop (wT id l s)));refine pairwise_cons.2 ⟨λy B=>?_,G⟩;rcases mem_append.1 B with B|B
   .exact E.1 y (mem_of_mem_take B)
   rcases l9.1 B with rfl|B
   .exact h
   exact E.1 y (mem_of_mem_drop B)
  | false =>
   show zT (s::a::l);have D:jI s a=N:=by
    cases I:jI s a with
    |true=>rfl
    |false=>exact absurd (C4 I h) F.1
   refine pairwise_cons.2 ⟨λy B=>?_,H⟩;rcases l9.1 B with rfl|B
   .exact D
   exact rW D (E.1 y B)
theorem xo{l:List B_}(j:Nat)(x:B_):x∈l.take j++s::l.drop j↔x=s\/x∈l:=by
 conv=>rhs;rw[<-take_append_drop j l]
 simp only[mem_append,l9];constructor
 .rintro(h|h|h)
  .exact .inr (.inl h)
  .exact .inl h
  exact .inr (.inr h)
 rintro(h|h|h)
 .exact .inr (.inl h)
 .exact .inl h
 exact .inr (.inr h)
def yK(L:List B_):List B_:=(fL L).map (jF (jX L))
theorem Kx{i:B_}(h:L[k]?=A t)(hi:ER t=A i)(I:i∉fL (L.take k)):fL (L.take (k+1))=(fL (L.take k)).take (wT id (fL (L.take k)) i)++i::(fL (L.take k)).drop (wT id (fL (L.take k)) i) /\
  yK (L.take (k+1))=(yK (L.take k)).take (wT id (fL (L.take k)) i)++t::(yK (L.take k)).drop (wT id (fL (L.take k)) i):=by
 have F:∀x,x∈(jX (L.take k)).map Prod.fst↔x∈fL (L.take k):=λx=>(pQ _).mem_iff.symm;have J:jX (L.take (k+1))=jX (L.take k)++[(i,t)]:=by
  rw[NB h,lS,hi];refine a8 λP=>I ((F i).1 ?_);have ⟨p,D,e⟩:=any_eq_true.1 P;exact mem_map.2 ⟨p,D,b8 e⟩
 have K:fL (L.take (k+1))=(fL (L.take k)).take (wT id (fL (L.take k)) i)++i::(fL (L.take k)).drop (wT id (fL (L.take k)) i):=by
  refine IP _ _ (qX _) (xn (qX _) I) λx=>?_;rw[xo,<-F,fL,(pQ _).mem_iff,J,map_append,mem_append];simp only[map_cons,map_nil,q_];exact or_comm
 refine⟨K,?_⟩;have B:∀x∈fL (L.take k),jF (jX (L.take (k+1))) x=jF (jX (L.take k)) x:=λx E=>by
  have ⟨p,D,e⟩:=mem_map.1 ((F x).2 E);rw[J,jF,jF,find?_append];cases G:(jX (L.take k)).find? λp=>θ (p.1=x)with
  |none=>exact absurd (decide_eq_true e) (find?_eq_none.1 G p D)
  |some q=>rfl
 have H:jF (jX (L.take (k+1))) i=t:=by
  rw[J,jF,find?_append];have G:((jX (L.take k)).find? λp=>θ (p.1=i))=ζ:=find?_eq_none.2 λp D P=>I ((F i).1 (mem_map.2 ⟨p,D,b8 P⟩));rw[G,Option.none_or,find?_cons,decide_eq_true rfl];rfl
 rw[yK,K,map_append,map_cons,H,yK,<-map_take,<-map_drop];congr 1
 .exact map_congr_left λx E=>B x (mem_of_mem_take E)
 congr 1;exact map_congr_left λx E=>B x (mem_of_mem_drop E)
theorem Ky(h:L[k]?=A t)(hi:ER t=ζ\/∃i,ER t=A i/\i∈fL (L.take k)):jX (L.take (k+1))=jX (L.take k):=by
 rw[NB h,lS];rcases hi with hi|⟨i,hi,hm⟩
 .rw[hi]
 rw[hi];refine b6 ?_;have ⟨p,B,e⟩:=mem_map.1 ((pQ _).mem_iff.1 hm);exact any_eq_true.2 ⟨p,B,decide_eq_true e⟩
theorem gn{t:List UInt8}(h:(dP t).2=0):∀e∈(dP t).1.edits,C e.refs<2^40:=by have B:=tB (RK (r:=(dP t).1) (by rw[KT h]));rw[<-JO B.tx];exact KS _
theorem aD1(L:List B_)(H:aF)(hl:C L<1000000)(hs:∀t∈L,T t<1000000000):RC 19 [.pv (aL L)] (.tup [.pv (aL (fL L)),.pv (aL (yK L))]) H:=by
 refine Pu ?_;have hml:C (L.map S_)=C L:=g_ _;refine Bd func19 Z ntmps19<|O aJ<|V aJ<|Sz aJ<|Sz aJ<|S<|Sz aJ<|aD<|bC (σ:=Nat) (λk=>([(0,.pv (aL L)),(4,.pv (aL (fL (L.take k)))),(5,.pv (aL (yK (L.take k)))),(6,iv (k:Int))],[])) (λk=>k<=C L) (λk=>C L - k) 0 (k_ _) ?_ ?_
 .dsimp only;rw[take_zero,QR,show yK []=[]by rw[yK,QR];rfl];exact Wk
 intro k hk;refine S<|O aA<|Y aA<|Y (fJ aE)<|V cF<|Cn ?_ ?_<;>intro hc1
 .have hlt:k<C L:=I_ hc1
  have ⟨t,ht⟩:=aR hlt;have hi:=cC (f:=S_) ht;have hts:=hs t (m7 ht);have hpa:=λH=>SE (ν (μ t)) v7 H;rw[fU,T4]at hpa;have hok:=GU (ν (μ t));have hrf:=gn (t:=ν (μ t));have hidT:ER t=if(dP (ν (μ t))).2=0 then A (H9 (dP (ν (μ t))).1)else ζ:=rfl
  have hst:=λi=>Kx (i:=i) ht;have hsm:=Ky ht;have hle:=S2 (L.take k);have hil:C (fL (L.take k))=C (jX (L.take k)):=by rw[fL,jP,g_]
  have hol:C (yK (L.take k))=C (fL (L.take k)):=g_ _;rw[q9]at hle;have hsr:=qX (L.take k);generalize dP (ν (μ t))=G at hpa hidT hok hrf;have hwr:ξ.wrap ((k:Int)+1)=((k+1:Nat):Int):=by rw[lZ X X];omega
  refine aB<|S<|aD<|O aA<|Y aA<|Y (kx aZ hi)<|Y (fK N_ (hi:=hi))<|Y (kc call25 (hpa _))<|Y aA<|Y dL<|Y dL<|Y (kl 7 dt)<|Uu (jH bL)<|V aJ<|S<|O aA<|V yQ<|Cn ?_ ?_<;>intro hc2
  .have hne:G.2≠0:=by have:=hc2;intro e;rw[e]at this;exact absurd this E_
   rw[a8 hne]at hidT;have e:=hsm (.inl hidT);have e2:fL (L.take (k+1))=fL (L.take k):=by rw[fL,fL,e]
   have e3:yK (L.take (k+1))=yK (L.take k):=by rw[yK,yK,e2,e]
   refine aP<|Rd aA<|Y (ka hwr)<|Da ?_;refine⟨k+1,X,X,?_⟩;dsimp only;rw[e2,e3];exact Wk
  have heq:G.2=0:=by have:=hc2;by_cases e:G.2=0;exact e;rw[decide_eq_false e]at this;cases this
  rw[b6 heq]at hidT;have hid:=λH=>aCt G.1 H hok.1 (hrf heq);generalize H9 G.1=I at hid hidT;have hst:=hst I hidT;have hsm:=λh=>hsm (.inr ⟨I,hidT,h⟩);have ⟨A_,hX⟩:∃A_,A_=fL (L.take k):=X_;have ⟨o_,hO⟩:∃o_,o_=yK (L.take k):=X_;have hpl:=λH=>Z5 A_ I H (by rw[hX];omega);rw[<-hX]at hst hsm hil hol hsr |-;rw[<-hO]at hst hol |-;have hjl:=TQ id A_ I;have hfnd:wT id A_ I<C A_->(A_[wT id A_ I]?=A I↔I∈A_):=λhlt2=>by
   constructor
   .exact m7
   intro hm;have hk2:=bu A_ I;rw[decide_eq_true hm]at hk2;have ⟨q,hq⟩:=s8.1 hm;have hlo:∀a,a<wT id A_ I->∀o,A_[a]?=A o->jI (id o) I=N:=λa ha o ho=>by
    have:=not_of_lt_findIdx ha;rw[(m_.1 ho).2]at this
    simpa using this
   have ⟨o,ho⟩:=aR hlt2;have hle2:jI (id o) I=η:=by
    have h3:=List.findIdx_getElem (xs:=A_) (p:=λo=>!jI (id o) I) (w:=hlt2);have e:A_[A_.findIdx λo=>!jI (id o) I]'hlt2=o:=(m_.1 ho).2;rw[e]at h3
    simpa using h3
   have:=bz (f:=id) hsr hlo ho hle2;rw[hk2]at this;have e2:o=I:=b8 this.symm;rw[ho,e2]
  have hout:¬ wT id A_ I<C A_->I∉A_:=λh hm=>by
   have e:wT id A_ I=C A_:=X
   have:=findIdx_eq_length.1 e I hm;rw[show jI (id I) I=jI I I from Z,E6]at this;cases this
  have hin1:=λH=>TS A_ (wT id A_ I) I H X hjl;have hin2:=λH=>TS o_ (wT id A_ I) t H X X;generalize wT id A_ I=j at hst hpl hjl hfnd hout hin1 hin2;have ⟨x,hx⟩:∃x,x=A_.getD j a6:=X_;have hxg:j<C A_->A_[j]?=A x:=λh=>by
   have ⟨z,hz⟩:=aR h;rw[hx,getD_eq_getElem?_getD,hz];rfl
  have hxi:=λh=>cC (f:=S_) (hxg h);have hmX:C (A_.map S_)=C A_:=g_ _;have ⟨B,hB⟩:∃B,B=(θ ((j:Int)<(C (A_.map S_):Int))&&θ (x=I)):=X_;have hBm:B=θ (I∈A_):=by
   rw[hB];by_cases hlt2:j<C A_
   .rw[decide_eq_true X,Bool.true_and];refine decide_eq_decide.2 ?_;rw[<-hfnd hlt2,hxg hlt2];exact⟨λh=>by rw[h],λh=>Option.some.inj h⟩
   rw[decide_eq_false X,Bool.false_and,decide_eq_false (hout hlt2)]
  clear hx;refine aB<|O (xD cQ bL)<|Y (kc call26 (hid _))<|V aJ<|O aA<|Y aA<|Y (kc call38 (hpl _))<|V aJ<|S<|S<|aT (t:=43) (n:=13) (A_:=B) ?_ ?_
  .all_goals refine Y aA<|Y aA<|Y (fJ aE)<|Y cF<|Dm ?_<;>(refine Sp 36 (λh36=>?_) λh36=>?_)<;>(try exact w_)<;>(first|refine M<|M<|M<|M<|M<|M ?_|refine U aA<|U aA<|U (bS Z aZ Z Z X (l_ _) (hxi (I_ h36)) Z)<|U (eB Z N_ Z (hxi (I_ h36)) Z)<|U aA<|U vT ?_)<;>refine V cE ?_<;>exact Gj (h:=by rw[hB];(rw[h36];rfl))
  refine Cn ?_ ?_<;>intro hc3
  .have hm:I∈A_:=b8 (hBm.symm.trans hc3);have e:=hsm hm;have e2:fL (L.take (k+1))=A_:=by rw[hX,fL,fL,e]
   have e3:yK (L.take (k+1))=o_:=by rw[hO,yK,yK,e2,e,hX]
   refine aP<|Rd aA<|Y (ka hwr)<|Da ?_;refine⟨k+1,X,X,?_⟩;dsimp only;rw[e2,e3];exact Wk
  have hm:I∉A_:=b_ (hBm.symm.trans hc3);have ⟨e2,e3⟩:=hst hm;refine aB<|O aA<|Y aA<|Y aA<|Y (kc call39 (hin1 _))<|V aJ<|Rd aA<|Y aA<|Y aA<|Y aA<|Y (kx aZ hi)<|Y (fK N_ (hi:=hi))<|Y (kc call39 (hin2 _))<|V aJ<|Rd aA<|Y (ka hwr)<|Da ?_;refine⟨k+1,X,X,?_⟩;dsimp only;rw[e2,e3];exact Wk
 have hge:k=C L:=J_ hc1
 subst hge;rw[take_length];exact aP<|O aA<|Y aA<|Y aJ<|V aJ<|aC<|Ru<|Qq
theorem lr(x p:B_)(H:aF):RC 94 [sv x,sv p] (bv (uJ p x)) H:=by
 refine Pu ?_;have D:=lu p x;refine Bd func94 Z ntmps94<|Sz aJ<|S<|aT (t:=4) (n:=15) (A_:=uJ p x) ?_ ?_
 .all_goals refine Y aA<|Y (gG U_)<|Y aA<|Y (gG U_)<|Y AN<|Dm ?_<;>(refine Sp 10 (λB=>?_) λB=>?_)<;>(first|exact s_|refine M<|M<|M<|M<|M<|M ?_|refine U aA<|U aA<|U (gG U_)<|U (bP (l:=0) (h:=T p) Z U_ Z Z Z (k_ _) (I_ B) Z)<|U aA<|U vT ?_)<;>refine Y cE<|Da ?_<;>exact Gj (h:=by rw[D];(rw[B];rfl))
 exact aC<|Rt<|Qq
theorem sk(s:B_)(H:aF)(W:T s<2^40):RC 60 [sv s] (bv (qW s)) H:=by
 refine Pu ?_;have R:=aU s;have L:qW s=(θ (T s<=16)&&s.data.toList.all wF):=rfl;refine Bd func60 Z ntmps60<|Sz aJ<|S<|Sz aJ<|aD<|bC (σ:=Nat) (λi=>([(0,sv s),(3,iv (i:Int))],[])) (λi=>i<=T s/\∀k,k<i->∀y,s.data.toList[k]?=A y->wF y=N) (λi=>T s - i) 0 ⟨k_ _,λk h=>by omega⟩ ?_ ?_
 .exact Wk
 rintro i ⟨hi,hall⟩;refine S<|O aA<|Y aA<|Y (gG U_)<|V cF<|Cn ?_ ?_<;>intro E
 .have hlt:i<T s:=I_ E
  have ⟨y,I⟩:=aR (l:=ν (μ s)) (k:=i) X;have B:=jj I;have ⟨d,G,P⟩:∃d:Int,(θ (d<0)=!wF y)/\∀H,RC 83 [.pv (.int .u8 (bA s i))] (iv d) H:=by
   by_cases D:wF y=N
   .refine⟨_,?_,λH=>yk _ (B.2 D) H⟩;rw[D];refine decide_eq_false ?_;have:=B.2 D;unfold IA at this
    split<;>omega
   refine⟨_,?_,λH=>lb _ (λh=>D (B.1 h)) H⟩;rw[show wF y=η by simpa using D];rfl
  refine aB<|S<|aD<|O aA<|Y aA<|Y (cL Z U_ Z Z X (l_ _) hlt Z)<|Y (kc call83 (P _))<|V cF<|Cn ?_ ?_<;>intro F
  .have D:wF y=η:=not_not (G.symm.trans F);have e:s.data.toList.all wF=η:=all_eq_false.2 ⟨y,m7 I,by rw[D];decide⟩;rw[L,e,Bool.and_false];exact Sz aJ<|aC<|Rt<|Qq
  have D:wF y=N:=pE (G.symm.trans F);refine aB<|Rd aA<|Y kp<|Da ?_;refine⟨i+1,⟨X,λk J z K=>?_⟩,X,Wk⟩;by_cases e:k=i
  .subst e;rw[I]at K;cases K;exact D
  exact hall k X z K
 have Q:i=T s:=J_ E
 have e:s.data.toList.all wF=N:=all_eq_true.2 λy I=>by
  have ⟨k,J⟩:=s8.1 I;have:=(m_.1 J).1;exact hall k X y J
 rw[L,e,Bool.and_true];exact aP<|O aA<|Y (gG U_)<|Y (by exact cP.eqv (pD Z Z Z) (show AV.pv (.bool (θ ((T s:Int)<=16)))=bv (θ (T s<=16))by congr 3;exact propext ⟨λh=>by omega,λh=>by omega⟩))<|V aJ<|aC<|Rt<|Qq
theorem zG{i:Nat}{b:UInt8}(h:l[i]?=A b):bA (a_ l) i=(b.toNat:Int):=by rw[bA,cJ,h];rfl
theorem TC(l:List UInt8)(H:aF)(u:C l<1000000000):RC 59 [sv (a_ l)] (iv (eT (a_ l))) H:=by
 refine Pu ?_;have v:=cB l;refine Bd func59 Z ntmps59<|Sz aJ<|Sz aJ<|S<|Sz aJ<|aD<|dU (λ(k n:Nat)=>([(0,sv (a_ l)),(3,iv (n:Int)),(4,iv (k:Int))],[])) (λk n=>k<=C l/\k<=7/\n<10 ^ k/\decFrom 0 (l.take k)=A n) (λk n=>7 - k) 0 0 ⟨k_ _,E_,E_,Z⟩ ?_ ?_
 .exact Wk
 rintro k n ⟨hk,hk7,hn,hd⟩;have q:10 ^ k<=10000000:=Nat.le_trans (Nat.pow_le_pow_right E_ hk7) E_;have ⟨B,R⟩:∃B,B=(θ ((k:Int)<(T (a_ l):Int))&&θ ((k:Int)<7)):=X_;refine S<|S<|aT (t:=12) (n:=9) (A_:=B) ?_ ?_
 .all_goals refine Y aA<|Y aA<|Y (gG U_)<|Y cF<|Dm ?_<;>(refine Sp 9 (λr=>?_) λr=>?_)<;>(try exact w_)<;>(first|refine M<|M ?_|refine U aA<|U cF ?_)<;>refine V cE ?_<;>exact Gj (h:=by rw[R];(rw[r];rfl))
 refine Cn ?_ ?_<;>intro J
 .have hBt:=R.symm.trans J;rw[l6,j0,j0]at hBt;have ⟨b,a⟩:=aR (l:=l) (k:=k) X;have I:=zG a;have c:=b.toNat_lt;have ⟨x,Q⟩:∃x,x=bA (a_ l) k:=X_;rw[<-Q]at I;have ⟨E,F⟩:∃E,E=(θ (x<48)||θ (57<x)):=X_;refine aB<|S<|aD<|S<|S<|aT (t:=24) (n:=11) (A_:=E) ?_ ?_
  .all_goals refine Y aA<|Y aA<|Y (cL Z U_ Z Z X (l_ _) X Q.symm)<|Y cF<|Dm ?_<;>(refine Sp 19 (λj=>?_) λj=>?_)<;>(try exact w_)<;>(first|refine M<|M<|M<|M ?_|refine U aA<|U aA<|U (cL Z U_ Z Z X (l_ _) X Q.symm)<|U iZ ?_)<;>refine V cE ?_<;>exact Gj (h:=by rw[F];(rw[j];rfl))
  refine Cn ?_ ?_<;>intro K
  .have hCt:=F.symm.trans K;rw[Bool.or_eq_true,j0,j0]at hCt;rw[qo (m7 a) X];exact Sz aJ<|aC<|Rt<|Qq
  have D:=F.symm.trans K;rw[r6,n_,n_]at D;have g:10*n+(b.toNat - 48)<10 ^ (k+1):=by rw[Nat.pow_succ];omega
  refine aB<|Rd aA<|Y (by exact pC Z Z Z (show ξ.wrap (10*(n:Int))=((10*n:Nat):Int)by rw[lZ X X];omega))<|Y aA<|Y aA<|Y (cL Z U_ Z Z X (l_ _) X Q.symm)<|Y (by exact dV Z Z Z (show IntKind.u8.wrap (x - 48)=((b.toNat - 48:Nat):Int)by rw[I,IntKind.wrap_u8];omega))<|Y (eO Z dG underlying3 Z (lZ X X))<|Y (by exact dB Z Z Z (show ξ.wrap (((10*n:Nat):Int)+((b.toNat - 48:Nat):Int))=((10*n+(b.toNat - 48):Nat):Int)by rw[lZ X X];omega))<|V aJ<|Rd aA<|Y kp<|Da ?_;refine⟨k+1,_,⟨X,X,g,?_⟩,X,Wk⟩;rw[dT a,O1,hd];show decFrom n [b]=_;rw[decFrom,digitVal,b6 ⟨X,X⟩,Nat.mul_comm n 10];rfl
 have W:=R.symm.trans J;have f:C l<=k\/k=7:=by
  by_cases i:(k:Int)<(T (a_ l):Int)
  .rw[decide_eq_true i,Bool.true_and,n_]at W;exact .inr X
  exact .inl X
 have P:=λH=>UK (n:Int) X X H;have d:N5 (n:Int)=a_ (decDigits n):=by rw[N5,a8 X,l_]
 rw[d]at P;have ⟨E,F⟩:∃E,E=(θ ((6:Int)<(T (a_ l):Int))||!θ (a_ (decDigits n)=a_ l)):=X_;have G:C l<=6->decFrom 0 l=A n:=λh=>by
  rcases f with h2|h2
  .rwa [take_of_length_le h2]at hd
  omega
 refine aP<|S<|S<|aT (t:=41) (n:=10) (A_:=E) ?_ ?_
 .all_goals refine Y aA<|Y (gG U_)<|Y iZ<|Dm ?_<;>(refine Sp 36 (λm=>?_) λm=>?_)<;>(try exact w_)<;>(first|refine M<|M<|M<|M ?_|refine U aA<|U (kc fZ (P _))<|U aA<|U EN ?_)<;>refine V cE ?_<;>exact Gj (h:=by rw[F];(rw[m];rfl))
 refine Cn ?_ ?_<;>intro L
 .have hCt:=F.symm.trans L;rw[show eT (a_ l) = -1 by
   by_cases o:6<C l
   .exact By o
   rw[decide_eq_false X,Bool.false_or,r9,n_]at hCt;exact Ve (G X) λe=>hCt (by rw[e])]
  exact Sz aJ<|aC<|Rt<|Qq
 have D:=F.symm.trans L;rw[r6,Bool.not_eq_false',j0,n_]at D;have p:decDigits n=l:=by have:=congrArg (λs:B_=>ν (μ s)) D.2;simpa only[cJ]using this
 rw[Ll X p];exact aB<|O aA<|V aJ<|aC<|Rt<|Qq
def dgT(l:List UInt8)(p c:Nat):Bool:=((θ (((p+c:Nat):Int)<(T (a_ l):Int))&&θ (((p+c:Nat):Int)<((p+6:Nat):Int)))&&θ (48<=bA (a_ l) (p+c)))&&θ (bA (a_ l) (p+c)<=57)
theorem Xc(H:∀c,R[c]?=l[p+c]?)(h:dgT l p c=N):∃b,l[p+c]?=A b/\c<6/\PI b=N/\VI (R.drop c) c n=VI (R.drop (c+1)) (c+1) (10*n+(b.toNat - 48)):=by
 rw[dgT,l6,l6,l6,j0,j0,j0,j0,cB]at h;have ⟨b,B⟩:=aR (l:=l) (k:=p+c) X;rw[zG B]at h;have F:PI b=N:=by rw[PI,decide_eq_true X,decide_eq_true X];rfl
 have D:R.drop c=b::R.drop (c+1):=by
  have E:R[c]?=A b:=(H c).trans B;have G:=(m_.1 E).1;rw[drop_eq_getElem_cons G,(m_.1 E).2]
 exact⟨b,B,X,F,by rw[D,VI,F,decide_eq_true (by omega:c<6)];rfl⟩
theorem aBg(F:∀c,R[c]?=l[p+c]?)(J:p+c<=C l)(h:dgT l p c=η):VI (R.drop c) c n=(c,n):=by
 by_cases D:p+c<C l
 .have ⟨b,hb⟩:=aR D;have B:R.drop c=b::R.drop (c+1):=by
   have E:R[c]?=A b:=(F c).trans hb;have G:=(m_.1 E).1;rw[drop_eq_getElem_cons G,(m_.1 E).2]
  rw[B,VI,a8];intro I;rw[l6,PI,l6,j0,j0,j0]at I;rw[dgT,zG hb,cB,decide_eq_true X,decide_eq_true X,decide_eq_true X,decide_eq_true X]at h;cases h
 have:R.drop c=[]:=drop_eq_nil_of_le (by
  have H:l[p+c]?=ζ:=getElem?_eq_none X;exact List.getElem?_eq_none_iff.1 ((F c).trans H))
 rw[this,VI]
theorem WW(l:List UInt8)(H:aF)(hl:C l<1000000000):RC 58 [sv (a_ l)] (.tup [.pv (aL ((qC l).getD [])),bv (qC l).isSome]) H:=by
 refine Pu ?_;have hz:=cB l;refine Bd func58 Z ntmps58<|O aJ<|V aJ<|Sz (cZ (id:=905) (sz:=1) (ty:=9) Z Z Z)<|Sz aJ<|S<|aD<|dU (λ(p:Nat) (D:List B_)=>([(0,sv (a_ l)),(4,.osl 905 (C D) 0 (C D)),(5,iv (p:Int))],[(905,⟨C D,1,9,bQ D⟩)])) (λp D=>p<=C l/\C D<=p/\qC l=(qC (l.drop p)).map (D++·)) (λp D=>C l - p) 0 [] ⟨k_ _,h_ _,by rw[drop_zero];cases qC l<;>rfl⟩ ?_ ?_
 .exact L_
 rintro p D ⟨hp,hAp,hJ⟩;refine S<|O aA<|Y aA<|Y (gG U_)<|V cF<|Cn ?_ ?_<;>intro τ
 .have hlt:p<C l:=by have:=b8 τ;rw[hz]at this;omega
  have ⟨R,q⟩:∃R,R=l.drop p:=X_;have w:C R=C l - p:=by rw[q,q6]
  have K:∀c,R[c]?=l[p+c]?:=λc=>by rw[q,getElem?_drop]
  rw[<-q]at hJ;have v:R≠[]:=λe=>by rw[e]at w;simp at w;omega
  refine aB<|aD<|Sz aJ<|O aA<|V aJ<|S<|aD<|dU (λ(c n:Nat)=>([(0,sv (a_ l)),(4,.osl 905 (C D) 0 (C D)),(5,iv ((p+c:Nat):Int)),(6,iv (n:Int)),(7,iv (p:Int))],[(905,⟨C D,1,9,bQ D⟩)])) (λc n=>VI R 0 0=VI (R.drop c) c n/\c<=6/\p+c<=C l/\n<10 ^ c) (λc n=>6 - c) 0 0 ⟨by rw[drop_zero],E_,X,E_⟩ ?_ ?_
  .exact L_
  rintro c n ⟨hsc,hle6,hcl,hn⟩;have hp6:10 ^ c<=1000000:=Nat.le_trans (Nat.pow_le_pow_right E_ hle6) E_;have hB:dgT l p c=(((θ (((p+c:Nat):Int)<(T (a_ l):Int))&&θ (((p+c:Nat):Int)<((p+6:Nat):Int)))&&θ (48<=bA (a_ l) (p+c)))&&θ (bA (a_ l) (p+c)<=57)):=rfl;have hy:=Xc (n:=n) K (p:=p) (c:=c);have k:=aBg (n:=n) K hcl;generalize dgT l p c=B at hB hy k;refine S<|S<|aT (t:=34) (n:=25) (A_:=B) ?_ ?_
  .all_goals refine Y aA<|Y aA<|Y (gG U_)<|Y cF<|Dm ?_<;>(refine Sp 17 (λI=>?_) λI=>?_)<;>(try exact w_)<;>(first|refine M<|M<|M<|M ?_|refine U aA<|U aA<|U (by exact dB Z Z Z (show ξ.wrap ((p:Int)+6)=((p+6:Nat):Int)by rw[lZ X X];omega))<|U cF ?_)<;>refine Y cE<|Dm ?_<;>(refine Sp 23 (λβ=>?_) λβ=>?_)<;>(try exact w_)<;>(first|refine M<|M<|M<|M ?_|refine U aA<|U aA<|U (cL Z U_ Z Z X (l_ _) (I_ I) Z)<|U AN ?_)<;>refine Y cE<|Dm ?_<;>(refine Sp 29 (λh29=>?_) λh29=>?_)<;>(try exact w_)<;>(first|refine M<|M<|M<|M ?_|refine U aA<|U aA<|U (cL Z U_ Z Z X (l_ _) (I_ I) Z)<|U EQ ?_)<;>refine V cE ?_<;>exact Gj (h:=by rw[hB];first|(rw[I];rfl)|(rw[I,β];rfl)|(rw[I,β,h29];rfl))
  refine Cn ?_ ?_<;>intro σ
  .have ⟨b,x,hc6,hdg,hst⟩:=hy σ;have L:=zG x;have hb256:=b.toNat_lt;have hplt:=(m_.1 x).1;rw[PI,l6,j0,j0]at hdg;have W:10*n+(b.toNat - 48)<10 ^ (c+1):=by rw[Nat.pow_succ];omega
   refine aB<|aD<|O aA<|Y (by exact pC Z Z Z (show ξ.wrap (10*(n:Int))=((10*n:Nat):Int)by rw[lZ X X];omega))<|Y aA<|Y aA<|Y (ky U_)<|Y (by exact dV Z Z Z (show IntKind.u8.wrap (bA (a_ l) (p+c) - 48)=((b.toNat - 48:Nat):Int)by rw[L,IntKind.wrap_u8];omega))<|Y (eO Z dG underlying3 Z (lZ X X))<|Y (by exact dB Z Z Z (show ξ.wrap (((10*n:Nat):Int)+((b.toNat - 48:Nat):Int))=((10*n+(b.toNat - 48):Nat):Int)by rw[lZ X X];omega))<|V aJ<|Rd aA<|Y (by exact dB Z Z Z (show ξ.wrap (((p+c:Nat):Int)+1)=((p+(c+1):Nat):Int)by rw[lZ X X];omega)) ?_;refine Da ?_;exact⟨c+1,_,⟨hsc.trans hst,X,X,W⟩,X,L_⟩
  have G:=hsc.trans (k σ);have hC:PB R=c:=congrArg Prod.fst G;have hN:oc R=n:=congrArg Prod.snd G;have z:CL R->qC l=ζ:=λh=>by rw[hJ,ZH v (aBs h)];rfl
  have hgd:¬ CL R->qC R=(qC ((R.drop (c+1)).drop n)).map (a_ ((R.drop (c+1)).take n)::·):=λh=>by
   have ⟨g1,g2,g3,g4⟩:=aB6 h X;rw[RY v g1,g2,g4,hC,hN]
  have d:CL R↔(c=0\/R[c]?≠A 58\/decDigits n≠R.take c\/C R - c - 1<n):=by rw[CL,hC,hN]
  have i:=λH=>UK (n:Int) X X H;rw[N5,a8 X,l_]at i;clear hsc G hy k hC hN hB;have ⟨a,F⟩:∃a,a=@θ (CL R) (Classical.propDecidable _):=X_;have E:CL R->a=N:=λh=>by rw[F,@decide_eq_true _ (Classical.propDecidable _) h]
  have u:¬ CL R->a=η:=λh=>by rw[F,@decide_eq_false _ (Classical.propDecidable _) h]
  have hBi:a=N->CL R:=λh=>@of_decide_eq_true _ (Classical.propDecidable _) (F.symm.trans h);have hBn:a=η->¬ CL R:=λh=>@of_decide_eq_false _ (Classical.propDecidable _) (F.symm.trans h);rw[d]at E u;clear F;have f:(a_ l).extract p (p+c)=a_ (R.take c):=nM (by rw[gK,cJ,cJ,q,show p+c - p=c by omega]);refine aP<|S<|S<|lL (t:=77) (n:=33) (A_:=a) ?_ ?_
  .by_cases c0:c=0
   .have e1:θ (((p+c:Nat):Int)=(p:Int))=N:=decide_eq_true X;refine aN a7<|Cq aA<|Cq aA<|Cq cG<|Cq aA<|Of<|Of<|Of<|Of<|Cq BO<|Cq aA<|Of<|Of<|Of<|Of<|Cq cE<|Cq aA<|Of<|Of<|Of<|Of<|Of<|Of<|Of<|Cq cE<|Cq aA<|Of<|Of<|Of<|Of<|Of<|Of<|Of<|Cq cE<|bG<|Kr ?_;exact⟨Z,⟨_,Z,((E (.inl c0)).symm)⟩,Z,Z,Z⟩
   have e1:θ (((p+c:Nat):Int)=(p:Int))=η:=decide_eq_false X;by_cases κ:p+c<C l
   .have e2:θ ((T (a_ l):Int)<=((p+c:Nat):Int))=η:=decide_eq_false X;have ⟨b,x⟩:=aR κ;have y:R[c]?=A b:=(K c).trans x;have L:=zG x;by_cases J:b=58
    .have e3:(!θ (bA (a_ l) (p+c)=58))=η:=by rw[L,J];rfl
     by_cases P:decDigits n=R.take c
     .have e4:(!θ (a_ (decDigits n)=a_ (R.take c)))=η:=by rw[P,decide_eq_true rfl];rfl
      have δ:θ ((C l - (p+c) - 1:Nat)<(n:Int))=a:=by
       by_cases h:C R - c - 1<n
       .rw[E (.inr (.inr (.inr h)))];exact decide_eq_true X
       rw[u (λh2=>h2.elim c0 λh2=>h2.elim (λh2=>h2 (by rw[y,J])) λh2=>h2.elim (λh2=>h2 P) h)];exact decide_eq_false X
      refine aN a7<|Cq aA<|Cq aA<|Cq cG<|Cq aA<|Nf aA<|Nf aA<|Nf (gG U_)<|Nf AN<|Cq rD<|Cq aA<|Nf aA<|Nf aA<|Nf (ky U_)<|Nf yQ<|Cq rD<|Cq aA<|Nf aA<|Nf (kc fZ (i _))<|Nf aA<|Nf aA<|Nf aA<|Nf (bP (l:=p) (h:=p+c) Z U_ Z Z Z X X f)<|Nf EN<|Cq rD<|Cq aA<|Nf aA<|Nf aA<|Nf (gG U_)<|Nf aA<|Nf (by exact dV Z Z Z (show ξ.wrap ((T (a_ l):Int) - ((p+c:Nat):Int))=((C l - (p+c):Nat):Int)by rw[hz,lZ X X];omega))<|Nf (by exact dV Z Z Z (show ξ.wrap (((C l - (p+c):Nat):Int) - 1)=((C l - (p+c) - 1:Nat):Int)by rw[lZ X X];omega)) ?_;refine Nf iZ<|Cq rD<|bG<|Kr ?_;exact⟨Z,⟨_,Z,δ⟩,Z,Z,Z⟩
     have e4:(!θ (a_ (decDigits n)=a_ (R.take c)))=N:=by
      rw[decide_eq_false λe=>P (by have:=congrArg (λs:B_=>ν (μ s)) e;simpa only[cJ]using this)];rfl
     refine aN a7<|Cq aA<|Cq aA<|Cq cG<|Cq aA<|Nf aA<|Nf aA<|Nf (gG U_)<|Nf AN<|Cq rD<|Cq aA<|Nf aA<|Nf aA<|Nf (ky U_)<|Nf yQ<|Cq rD<|Cq aA<|Nf aA<|Nf (kc fZ (i _))<|Nf aA<|Nf aA<|Nf aA<|Nf (bP (l:=p) (h:=p+c) Z U_ Z Z Z X X f)<|Nf EN<|Cq rD<|Cq aA<|Of<|Of<|Of<|Of<|Of<|Of<|Of<|Cq BO<|bG<|Kr ?_;exact⟨Z,⟨_,Z,((E (.inr (.inr (.inl P)))).symm)⟩,Z,Z,Z⟩
    have e3:(!θ (bA (a_ l) (p+c)=58))=N:=by
     rw[L,decide_eq_false λe=>J (UInt8.toNat_inj.1 (by show b.toNat=58;omega))];rfl
    refine aN a7<|Cq aA<|Cq aA<|Cq cG<|Cq aA<|Nf aA<|Nf aA<|Nf (gG U_)<|Nf AN<|Cq rD<|Cq aA<|Nf aA<|Nf aA<|Nf (ky U_)<|Nf yQ<|Cq rD<|Cq aA<|Of<|Of<|Of<|Of<|Of<|Of<|Of<|Cq BO<|Cq aA<|Of<|Of<|Of<|Of<|Of<|Of<|Of<|Cq cE<|bG<|Kr ?_;exact⟨Z,⟨_,Z,(by exact(E (.inr (.inl (by rw[y];exact λe=>J (Option.some.inj e))))).symm)⟩,Z,Z,Z⟩
   have e2:θ ((T (a_ l):Int)<=((p+c:Nat):Int))=N:=decide_eq_true X;refine aN a7<|Cq aA<|Cq aA<|Cq cG<|Cq aA<|Nf aA<|Nf aA<|Nf (gG U_)<|Nf AN<|Cq rD<|Cq aA<|Of<|Of<|Of<|Of<|Cq BO<|Cq aA<|Of<|Of<|Of<|Of<|Of<|Of<|Of<|Cq cE<|Cq aA<|Of<|Of<|Of<|Of<|Of<|Of<|Of<|Cq cE<|bG<|Kr ?_;exact⟨Z,⟨_,Z,(by exact(E (.inr (.inl (by rw[K,getElem?_eq_none X];exact λe=>by cases e)))).symm)⟩,Z,Z,Z⟩
  refine Cn ?_ ?_<;>intro ρ
  .rw[z (hBi ρ)];refine O aJ<|V aJ<|aC<|fO (H':=[]) (.inr Z) Z (aI Z) (aI Z) (P_ (r:=.tup [.pv (aL []),bv η])) ?_;exact Qq
  have Q:=hBn ρ;have hg:=hgd Q;rw[d,not_or,not_or,not_or]at Q;have hRc:c<C R:=by
   by_cases h:c<C R
   .exact h
   exact absurd (by rw[getElem?_eq_none X];exact λe=>by cases e) Q.2.1
  have hnn:=Q.2.2.2;have g:(a_ l).extract (p+c+1) (p+c+1+n)=a_ ((R.drop (c+1)).take n):=nM (by rw[gK,cJ,cJ,q,drop_drop,show p+c+1+n - (p+c+1)=n by omega,show p+(c+1)=p+c+1 by omega]);have hdr:(R.drop (c+1)).drop n=l.drop (p+c+1+n):=by rw[q,drop_drop,drop_drop,show p+(c+1+n)=p+c+1+n by omega]
  rw[hdr]at hg;have j:C (D++[a_ ((R.drop (c+1)).take n)])=C D+1:=by rw[j8];rfl
  have W:qC l=(qC (l.drop (p+c+1+n))).map ((D++[a_ ((R.drop (c+1)).take n)])++·):=by
   rw[hJ,hg];cases qC (l.drop (p+c+1+n))<;>simp
  generalize a_ ((R.drop (c+1)).take n)=A_ at g j W;have o:ξ.wrap (((p+c:Nat):Int)+1)=((p+c+1:Nat):Int):=by rw[lZ X X];omega
  have γ:ξ.wrap (((p+c+1:Nat):Int)+(n:Int))=((p+c+1+n:Nat):Int):=by rw[lZ X X];omega
  refine aB<|O aA<|Y aA<|Y aA<|Y (ka o)<|Y aA<|Y (ka o)<|Y aA<|Y (ka γ)<|Y (by exact bP (l:=p+c+1) (h:=p+c+1+n) Z U_ Z Z Z X (by rw[hz];omega) g)<|Y (by exact aM [[.str A_]] Z aZ Z Z Z Z Z R_)<|Y (by exact bW (ps:=[[.str A_]]) Z aZ sZ Z Z Z Z Z (cY _) Z R_ (m:=1) Z X Z (gB D A_))<|V aJ<|Rd aA<|Y (ka o)<|Y aA<|Y (ka γ)<|Da ?_;refine⟨p+c+1+n,D++[A_],⟨X,by rw[j];omega,W⟩,X,?_⟩;dsimp only;rw[j];exact(cH.wk (Eb<|Ea<|Eb<|T_) (Hc (aQ _ _)<|T_) T_)
 have hge:p=C l:=by have:=b_ τ;rw[hz]at this;omega
 rw[hJ,hge,drop_length,PZ];refine aP<|O aA<|Y aJ<|V aJ<|aC ?_;refine fO (H':=[]) (.inr Z) Z (aI Z) (aI Z) (Fin.st2J (D++[]) (bv N) Z Z (by rw[append_nil]) (by rw[append_nil]) H_) ?_;exact Qq
end Go.Proofs.C
