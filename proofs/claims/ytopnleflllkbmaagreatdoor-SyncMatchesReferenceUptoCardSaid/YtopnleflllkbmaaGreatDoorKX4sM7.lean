/-
  Parts of the proof. Conditions: each theorem's own.
-/
import Derived.Test.YtopnleflllkbmaaGreatDoorKX4sM6
set_option linter.unusedVariables false
set_option linter.unusedSimpArgs false
set_option maxRecDepth 100000
set_option maxHeartbeats 8000000
open List Nat
open List renaming length->C
open Option renaming some->A,none->ζ
open Bool renaming true->N,false->η
open ByteArray renaming size->T,data->μ
open Array renaming toList->ν
open Decidable renaming decide->θ
open Go.IntKind renaming i64->ξ
open Go.Proofs.Tryz renaming prog->φ
open Go.Proofs.YtopnleflllkbmaaGreatDoor
namespace Go.Proofs
open Tryz
theorem kJ:type_of% isAgg68:=isAgg68
theorem iS:type_of% isAgg70:=isAgg70
end Go.Proofs
namespace Go.Proofs.C
open Go.Proofs.Tryz
open Go.Abs Go.Lib
variable{n:Nat}{i s b x a c t q:B_}{l:List UInt8}{ids A_:List B_}
theorem Gn(a:List B_)(H:aF)(id g:Nat)(i:H.get id=A ⟨g,1,9,VA a⟩)(I:dA a+C a<2^40):RC 221 [.osl id g 0 (C a)] (sv (a_ (bZ [32] (bs a)))) H:=by
 refine Bd func221 Z ntmps221<|Sz aJ<|Sz aJ<|S<|Sz aJ<|aD<|bC (σ:=Nat) (λk=>([(0,.osl id g 0 (C a)),(3,sv (a_ (bZ [32] (bs (a.take k))))),(4,iv (k:Int))],H)) (λk=>k<=C a) (λk=>C a - k) 0 (k_ _) ?_ ?_
 .exact E0
 rintro k J;have E:T (a_ (bZ [32] (bs (a.take k))))<=dA a+C a:=by
  rw[cB];have o:=gD (a.take k);have p:=oO a k;have G:C (a.take k)<=C a:=F_
  omega
 refine S<|O aA<|Y aA<|Y (dQ Z aE Z i Z)<|V cF<|Cn ?_ ?_<;>intro h
 .have e:k<C a:=I_ h
  have ⟨w,m⟩:=aR e;have j:=ZR m;have d:=CC m;have F:T w<=dA a:=by
   have o:=yH m;have p:=oO a (k+1);omega
  have B:T (⟨#[32]⟩:B_)=1:=rfl;have D:T (a_ (bZ [32] (bs (a.take k)))++⟨#[32]⟩)=T (a_ (bZ [32] (bs (a.take k))))+1:=AC _ _;refine aB<|S<|aD<|S<|O aA<|V iZ<|Cn ?_ ?_<;>intro f
  .have n:0<k:=I_ f
   rw[b6 n]at d;refine Rd aA<|Y kq<|V aJ<|Rd aA<|Y aA<|Y aA<|Y (dK Z aZ Z i Z Z Z X x7 e (r8 _))<|Y (aY Z N_ Z i Z j Z)<|Y kq<|V aJ<|Rd aA<|Y iH<|Da ?_;refine⟨k+1,X,X,?_⟩;rw[d];exact E0
  have n:¬ 0<k:=J_ f
  rw[a8 n]at d;refine aB<|Rd aA<|Y aA<|Y aA<|Y (dK Z aZ Z i Z Z Z X x7 e (r8 _))<|Y (aY Z N_ Z i Z j Z)<|Y kq<|V aJ<|Rd aA<|Y iH<|Da ?_;refine⟨k+1,X,X,?_⟩;rw[d];exact E0
 have l:k=C a:=J_ h
 subst l;rw[take_length];refine aP<|O aA<|V aJ<|aC<|cN (H':=H) (.inr Z) Z (aI Z) Fin.refl ?_;exact Qq
theorem WL{e}{a}(b:e.op≠1)(h:bs a=gU e):a_ (bZ [32] (bs a))++⟨#[10]⟩=a_ (fV e++[10]):=yU b h
theorem u7{p:Prop}(h:p:=by simp only[cM,j6,length_nil];omega):p:=h
theorem Tz(e:b9)(H:aF)(m4:VY e)(I:gN e=N):RC 166 [av (bM e)] (.tup [sv (a_ (fV e++[10])),bv (θ (fY e=0))]) H:=by
 refine Pu ?_;have ⟨⟨o1,o2⟩,f,o4⟩:=uY.1 I;rw[xL]at f;have g:=JG I;have y:dA []=0:=rfl;refine Bd func166 Z ntmps166<|O (kb 1)<|Y aJ<|V aJ<|S<|O (bD iY)<|V (bU M_)<|aD<|O cG<|Da<|Cn ?_ ?_<;>intro u
 .have p:e.op=1:=b8 u;have b:=NI (o:=e.obj);have n:T (⟨#[112,117,116]⟩:B_)=3:=rfl;have E:T (⟨#[10]⟩:B_)=1:=rfl;have J:T (a_ (bZ [32] (bs [⟨#[112,117,116]⟩,(fM e.obj).1])))<=70000:=by
   rw[cB];have:=gD [⟨#[112,117,116]⟩,(fM e.obj).1];simp only[cM,j6,length_nil]at this;omega
  have c:a_ (bZ [32] (bs [⟨#[112,117,116]⟩,(fM e.obj).1]))++⟨#[10]⟩=a_ (fV e++[10]):=sg (by
   rw[cJ,fV,b6 p];simp[a_,bs,bZ,wPut])
  refine O (bD vR)<|Y (by exact aX Z cD sizeOf135 Z Z Z Z (by simp only[Zl,cA,bT,S_,bM,gV];rfl) Z)<|Y (kc call217 (DB e.obj _ m4.2.2))<|Y aA<|Y dL<|Y dL<|Y aJ<|V aJ<|O aA<|Y (aM [S_ ⟨#[112,117,116]⟩,S_ (fM e.obj).1] Z aZ Z Z Z Z Z (jL [⟨#[112,117,116]⟩,(fM e.obj).1]))<|Y (kc call221 (GE [⟨#[112,117,116]⟩,(fM e.obj).1] _ u7))<|Y (fC Z Z Z X c)<|Y aA<|Y cG<|Y aJ<|V aJ<|aC<|Ru ?_;rw[show fY e=(fM e.obj).2 from b6 p];exact Qq
 have p:e.op≠1:=b_ u;rw[a8 p,l6]at f;have ⟨h,D⟩:=f;have j:=dR h;refine O cG<|Da<|Cn ?_ ?_<;>intro R
 .have m:e.op=2:=b8 R;rw[b6 m,qh,l6,j0,j0]at D;have z:0<=e.x/\e.x<1048576:=X
  have K:0<=e.y/\e.y<1048576:=X
  have six:T (aV e.x)<=7:=by rw[<-aU];show C (Lib.itoa e.x)<=7;rw[kN _ z.1];exact cU X E_
  have τ:T (aV e.y)<=7:=by rw[<-aU];show C (Lib.itoa e.y)<=7;rw[kN _ K.1];exact cU X E_
  have k:T (⟨#[109,111,118,101]⟩:B_)=4:=rfl;have l:bs [⟨#[109,111,118,101]⟩,e.id,aV e.x,aV e.y]=gU e:=by
   rw[gU]
   (rw[b6 m];rfl)
  have B:e.op≠1:=X
  have J:T (a_ (bZ [32] (bs [⟨#[109,111,118,101]⟩,e.id,aV e.x,aV e.y])))<=70000:=by
   rw[cB];have:=gD [⟨#[109,111,118,101]⟩,e.id,aV e.x,aV e.y];simp only[cM,j6,length_nil]at this;omega
  have E:T (⟨#[10]⟩:B_)=1:=rfl;refine S<|aN a7<|Cq (bD kC)<|Cq (bU N_)<|Cq (bD jR)<|Cq (bD nE)<|Cq (bU M_)<|Cq (kc call222 (QB e.x _ X X))<|Cq (bD jR)<|Cq (bD nD)<|Cq (bU M_)<|Cq (kc call222 (QB e.y _ X X))<|Cq (aM (([⟨#[109,111,118,101]⟩,e.id,aV e.x,aV e.y]:List B_).map S_) Z aZ Z Z Z Z Z (jL _))<|Cq (kc call221 (GE [⟨#[109,111,118,101]⟩,e.id,aV e.x,aV e.y] _ u7))<|Cq kq<|Cq aJ<|Cq aJ<|bG<|Kr<|aC<|Ru ?_;rw[WL B l,show fY e=0 from a8 B];exact Qq
 have m:e.op≠2:=b_ R;rw[a8 m]at D;refine O cG<|Da<|Cn ?_ ?_<;>intro W
 .have n:e.op=3:=b8 W;rw[b6 n,l6,j0]at D;have r:=dR D.1;have hq:=rY e.val;have k:T (⟨#[116,97,103]⟩:B_)=3:=rfl;have l:bs [⟨#[116,97,103]⟩,e.id,e.key,⟨(cX (ν (μ e.val))).toArray⟩]=gU e:=by
   rw[gU]
   (rw[a8 m,b6 n];rfl)
  have B:e.op≠1:=X
  have J:T (a_ (bZ [32] (bs [⟨#[116,97,103]⟩,e.id,e.key,⟨(cX (ν (μ e.val))).toArray⟩])))<=70000:=by
   rw[cB];have:=gD [⟨#[116,97,103]⟩,e.id,e.key,⟨(cX (ν (μ e.val))).toArray⟩];simp only[cM,j6,length_nil]at this;omega
  have E:T (⟨#[10]⟩:B_)=1:=rfl;refine S<|aN a7<|Cq (bD kC)<|Cq (bU N_)<|Cq (bD oG)<|Cq (bU N_)<|Cq (bD pG)<|Cq (bU N_)<|Cq (kc call223 (M9 e.val _ X))<|Cq (aM (([⟨#[116,97,103]⟩,e.id,e.key,⟨(cX (ν (μ e.val))).toArray⟩]:List B_).map S_) Z aZ Z Z Z Z Z (jL _))<|Cq (kc call221 (GE [⟨#[116,97,103]⟩,e.id,e.key,⟨(cX (ν (μ e.val))).toArray⟩] _ u7))<|Cq kq<|Cq aJ<|Cq aJ<|bG<|Kr<|aC<|Ru ?_;rw[WL B l,show fY e=0 from a8 B];exact Qq
 have n:e.op≠3:=b_ W;rw[a8 n]at D;refine O cG<|Da<|Cn ?_ ?_<;>intro q
 .have o:e.op=4:=b8 q;rw[b6 o,l6,l6,j0,j0,all_eq_true]at D;have ⟨⟨r1,r2⟩,P⟩:=D;have x:dA e.refs<=24*C e.refs:=pR (λs i=>dR (P s i));have k:T (⟨#[114,101,102,115]⟩:B_)=4:=rfl;have F:∀H,H.get 901=A ⟨1,1,9,VA (⟨#[114,101,102,115]⟩::e.id::e.refs)⟩->RC 221 [.osl 901 1 0 (C (⟨#[114,101,102,115]⟩::e.id::e.refs))] (sv (a_ (bZ [32] (bs (⟨#[114,101,102,115]⟩::e.id::e.refs))))) H:=λH L=>Gn _ H 901 1 L (by simp only[cM,j6];omega);have l:bs (⟨#[114,101,102,115]⟩::e.id::e.refs)=gU e:=by rw[gU,a8 m,a8 n,b6 o];rfl
  have J:(a_ (bZ [32] (bs (⟨#[114,101,102,115]⟩::e.id::e.refs)))).size<=70000:=by
   rw[cB];have:=gD (⟨#[114,101,102,115]⟩::e.id::e.refs);simp only[cM,j6]at this;omega
  have E:T (⟨#[10]⟩:B_)=1:=rfl;have G:C (e.refs.map S_)=C e.refs:=g_ _;have d:VA [⟨#[114,101,102,115]⟩,e.id]++(e.refs.map S_).map (·.map .pv)=VA (⟨#[114,101,102,115]⟩::e.id::e.refs):=by rw[<-Jb];rfl
  refine O (bD kC)<|Y (bU N_)<|Y (eQ (id:=901) Z aZ Z Z Z Z F_ Z)<|Y (bD iX)<|Y (bU aG)<|Y (bW (ps:=e.refs.map S_) Z aZ sZ Z Z Z Z Z Z Z (jL e.refs) (m:=C e.refs) G X (Nat.add_comm 2 _:2+C e.refs=C (⟨#[114,101,102,115]⟩::e.id::e.refs)) d)<|Y (kc call221 (F _ Z))<|Y kq<|Y aJ<|V aJ<|aC<|Ru ?_;rw[WL p l,show fY e=0 from a8 p];exact Qq
 have o:e.op≠4:=b_ q;rw[a8 o]at D;refine O cG<|Da<|Cn ?_ ?_<;>intro v
 .have t:e.op=5:=b8 v;have k:T (⟨#[100,114,111,112]⟩:B_)=4:=rfl;have l:bs [⟨#[100,114,111,112]⟩,e.id]=gU e:=by
   rw[gU]
   (rw[a8 m,a8 n,a8 o,b6 t];rfl)
  have B:e.op≠1:=X
  have J:T (a_ (bZ [32] (bs [⟨#[100,114,111,112]⟩,e.id])))<=70000:=by
   rw[cB];have:=gD [⟨#[100,114,111,112]⟩,e.id];simp only[cM,j6,length_nil]at this;omega
  have E:T (⟨#[10]⟩:B_)=1:=rfl;refine O (bD kC)<|Y (bU N_)<|Y (aM (([⟨#[100,114,111,112]⟩,e.id]:List B_).map S_) Z aZ Z Z Z Z Z (jL _))<|Y (kc call221 (GE [⟨#[100,114,111,112]⟩,e.id] _ u7))<|Y kq<|Y aJ<|V aJ<|aC<|Ru ?_;rw[WL B l,show fY e=0 from a8 B];exact Qq
 have t:e.op≠5:=b_ v;rw[a8 t]at D;refine O cG<|Da<|Cn ?_ ?_<;>intro a
 .have Q:e.op=6:=b8 a;rw[b6 Q,l6]at D;have w:=dR D.1;have b:=dR D.2;have k:T (⟨#[115,112,108,105,116]⟩:B_)=5:=rfl;have l:bs [⟨#[115,112,108,105,116]⟩,e.id,e.node,e.other]=gU e:=by
   rw[gU]
   (rw[a8 m,a8 n,a8 o,a8 t,b6 Q];rfl)
  have B:e.op≠1:=X
  have J:T (a_ (bZ [32] (bs [⟨#[115,112,108,105,116]⟩,e.id,e.node,e.other])))<=70000:=by
   rw[cB];have:=gD [⟨#[115,112,108,105,116]⟩,e.id,e.node,e.other];simp only[cM,j6,length_nil]at this;omega
  have E:T (⟨#[10]⟩:B_)=1:=rfl;refine O (bD kC)<|Y (bU N_)<|Y (bD rG)<|Y (bU N_)<|Y (bD kV)<|Y (bU N_)<|Y (aM (([⟨#[115,112,108,105,116]⟩,e.id,e.node,e.other]:List B_).map S_) Z aZ Z Z Z Z Z (jL _))<|Y (kc call221 (GE [⟨#[115,112,108,105,116]⟩,e.id,e.node,e.other] _ u7))<|Y kq<|Y aJ<|V aJ<|aC<|Ru ?_;rw[WL B l,show fY e=0 from a8 B];exact Qq
 have Q:e.op≠6:=b_ a;rw[a8 Q]at D;have b:=dR D;have k:T (⟨#[106,111,105,110]⟩:B_)=4:=rfl;have l:bs [⟨#[106,111,105,110]⟩,e.id,e.other]=gU e:=by
  rw[gU]
  (rw[a8 m,a8 n,a8 o,a8 t,a8 Q];rfl)
 have B:e.op≠1:=X
 have J:T (a_ (bZ [32] (bs [⟨#[106,111,105,110]⟩,e.id,e.other])))<=70000:=by
  rw[cB];have:=gD [⟨#[106,111,105,110]⟩,e.id,e.other];simp only[cM,j6,length_nil]at this;omega
 have E:T (⟨#[10]⟩:B_)=1:=rfl;refine aB<|O (bD kC)<|Y (bU N_)<|Y (bD kV)<|Y (bU N_)<|Y (aM (([⟨#[106,111,105,110]⟩,e.id,e.other]:List B_).map S_) Z aZ Z Z Z Z Z (jL _))<|Y (kc call221 (GE [⟨#[106,111,105,110]⟩,e.id,e.other] _ u7))<|Y kq<|Y aJ<|V aJ<|aC<|Ru ?_;rw[WL B l,show fY e=0 from a8 B];exact Qq
theorem SJ(l:List b9)(H:aF)(E:C l<2^40)(z:∀e∈l,VY e)(B:∀e∈l,C e.refs<2^40):RC 110 [.pv (kR l)] (.tup [sv (eH l).1,iv (eH l).2]) H:=by
 refine Pu ?_;have G:C (l.map bM)=C l:=g_ _;refine Bd func110 Z ntmps110<|O aJ<|V aJ<|S<|O aA<|Y (kc call165 (Be l _ E z B))<|V iE<|Cn ?_ ?_<;>intro p
 .have t:lU l=η:=by have h:=p;rwa [r9]at h
  rw[show eH l=(a6,1)by rw[eH,t];rfl];exact O aJ<|V aJ<|aC<|Ru<|Qq
 have t:lU l=N:=by have h:=p;rwa [Bool.not_eq_false']at h
 have D:=(OZ t).2.2;have y:eH l=(a_ (sF [] l).1,(sF [] l).2):=by rw[eH,t];rfl
 refine aB<|Sz aJ<|S<|Sz aJ<|aD<|bC (σ:=Nat) (λk=>([(0,.pv (kR l)),(4,sv (a_ (qM l k))),(5,iv (k:Int))],[])) (λk=>k<=C l/\sF [] l=sF (qM l k) (l.drop k)/\C (qM l k)<=20000) (λk=>C l - k) 0 ⟨k_ _,Z,k_ _⟩ ?_ ?_
 .exact Wk
 rintro k ⟨hk,i,hA⟩;refine S<|O aA<|Y aA<|Y (fJ fE)<|V cF<|Cn ?_ ?_<;>intro o
 .have m:k<C l:=I_ o
  have ⟨e,n⟩:=aR m;have hi:=cC (f:=bM) n;have j:=m7 n;have c:=Y5 n;have F:=X1 (D e j);have u:l.drop k=e::l.drop (k+1):=by
   rw[drop_eq_getElem_cons m]
   simp_all
  rw[u,sF]at i;have I:T (a_ (qM l k))=C (qM l k):=cB _;have K:T (a_ (fV e++[10]))=C (fV e)+1:=by rw[cB,j8];rfl
  have x:a_ (qM l k)++a_ (fV e++[10])=a_ (qM l (k+1)):=sg (by
   rw[show (a_ (qM l k)++a_ (fV e++[10])).data.toList=(a_ (qM l k)).data.toList++(a_ (fV e++[10])).data.toList by simp,cJ,cJ,cJ,c])
  have J:T (a_ (qM l (k+1)))=C (qM l (k+1)):=cB _;refine aB<|S<|aD<|O aA<|Y aA<|Y (jA fa)<|Y (by exact eY Z cW bF Z X (by simp only[Zl,cA,bT,S_,bM,gV];rfl) Z)<|Y (kc call166 (Tz e _ (z e j) (D e j)))<|Y aA<|Y dL<|Y dL<|Y aJ<|V aJ<|O aA<|Y aA<|Y (fC Z Z Z X x)<|V aJ<|S ?_;refine aT (t:=34) (n:=8) (A_:=!θ (fY e=0)||θ ((20000:Int)<(T (a_ (qM l (k+1))):Int))) ?_ ?_
  .all_goals refine Y aA<|Y iE<|Dm ?_<;>(refine Sp 30 (λw=>?_) λw=>?_)<;>(first|exact s_|refine M<|M<|M ?_|refine U aA<|U (gG U_)<|U iZ ?_)<;>refine V cE ?_<;>exact Gj (h:=by simp_all)
  refine Cn ?_ ?_<;>intro s
  .have q:fY e≠0\/20000<C (qM l k++(fV e++[10])):=by have h:=s;rw[<-c];simp only[Bool.or_eq_true,r9,n_,j0]at h;omega
   rw[b6 q]at i;rw[y,i];exact O aJ<|V aJ<|aC<|Ru<|Qq
  have f:¬ (fY e≠0\/20000<C (qM l k++(fV e++[10]))):=by have h:=s;rw[<-c];simp only[r6,Bool.not_eq_false',n_,j0]at h;omega
  rw[a8 f,<-c]at i;rw[<-c]at f;refine aB<|Rd aA<|Y iH<|Da ?_;exact⟨k+1,⟨m,i,X⟩,X,Wk⟩
 have v:k=C l:=J_ o
 subst v;rw[drop_length,sF]at i;rw[y,i];exact aP<|O aA<|Y aJ<|V aJ<|aC<|Ru<|Qq
theorem qG(n:Nat):aV n=a_ (decDigits n):=nM (Z)
theorem CJ(x)(a:0<=x)(B:x<9223372036854775808)(H):RC 84 [iv x] (sv (aV x)) H:=by obtain ⟨n,rfl⟩:=Int.eq_ofNat_of_zero_le a;exact SH n X H
def cb(r:j_):List B_:=[HL,aV r.kind,aV r.author,aV r.number,aV r.clock,r.branch,aV (C r.parents:Int)]
def aDp(r:j_)(J0:B_):List B_:=[J0,r.target,aV (if r.yes then 1 else 0),aV r.order,r.from']
def Nh(r:j_)(J0 y:B_):List B_:=[J0,r.target,y,aV r.order,r.from']
theorem Bk(r):vW r=(cb r++r.parents)++aDp r (kM r.edits).1:=rfl
theorem Kz{r}(h:VF r):0<=r.order/\r.order<=4:=by
 rw[h.od,Fh]
 split
 .next a =>
  have:=h.k;rw[NS,b6 a,nA,l6,j0,j0]at this;omega
 omega
theorem IN{α:Type}(f:α->List PV)(l:List _){n}(h:C l=n):((l.map f).take (0+n)).drop 0=l.map f:=by rw[<-h];exact gY f l
theorem dX(l:List _):∀r∈l.map S_,C r=1:=by intro r a;obtain ⟨s,_,rfl⟩:=mem_map.1 a;rfl
theorem YG(r:j_)(B:mX r)(j:VF r)(K:∀e∈r.edits,C e.refs<2^40):aW φ 70 [av (eD r)] [] (λx H'=>x=.osl 971 2 0 (C (vW r))/\H'=[(971,⟨2,1,9,bQ (vW r)⟩)]):=by
 have L:=CB j.k;have D:=j.au;have G:=j.nu;have E:=j.cl;have I:=Kz j;have J:=j.pal;have n:C (r.parents.map S_)=C r.parents:=g_ _;have F:C (r.edits.map bM)=C r.edits:=g_ _;have p:=λH=>CJ r.kind X X H;have w:=λH=>CJ r.author X X H;have q:=λH=>CJ r.number X X H;have o:=λH=>CJ r.clock X X H;have v:∀H,RC 84 [iv (C (r.parents.map S_):Int)] (sv (aV (C r.parents:Int))) H:=λH=>by
  rw[n];exact CJ (C r.parents:Int) X X H
 have z:=λH=>CJ r.order X X H;have t:=λH=>SJ r.edits H B.2.2.2.1.1 B.2.2.2.1.2 K;have s:bQ (cb r)++(r.parents.map S_).map (·.map AV.pv)=bQ (cb r++r.parents):=eS _ _;rw[Bk];have ⟨J0,i⟩:∃J0,J0=(kM r.edits).1:=X_;rw[<-i];rw[kM]at i;refine Bd func70 Z ntmps70 ?_;have u:C (bQ (cb r++r.parents))=7+C r.parents:=by rw[bQ,g_,j8];rfl
 refine O (kb 1)<|V aJ<|S<|aN a7<|Cr [1] (λ_ h=>fh pA h)<|Cr [1] (λ_ h=>lh M_ h)<|x_ (by exact bH Z Z fZ Z (p _))<|Cr [1] (λ_ h=>fh F0 h)<|Cr [1] (λ_ h=>lh M_ h)<|x_ (by exact bH Z Z fZ Z (w _))<|Cr [1] (λ_ h=>fh A9 h)<|Cr [1] (λ_ h=>lh M_ h)<|x_ (by exact bH Z Z fZ Z (q _))<|Cr [1] (λ_ h=>fh FZ h)<|Cr [1] (λ_ h=>lh M_ h)<|x_ (by exact bH Z Z fZ Z (o _))<|Cr [1] (λ_ h=>fh DV h)<|Cr [1] (λ_ h=>lh N_ h)<|Cr [1] (λ_ h=>fh oZ h)<|Cr [1] (λ_ h=>lh aG h)<|x_ ((fJ aE))<|x_ (by exact bH Z Z fZ Z (v _)) ?_;refine Cp [971] (λg d=>by exact eQ (id:=971) Z aZ Z Z Z Z F_ ((d _ Z).trans Z))<|Cr [971] (λ_ _=>aJ)<|bG<|Kr<|O aA<|Y (bD oZ)<|Y (bU aG)<|Y (by exact bW (k:=7+r.parents.length) (ps:=r.parents.map S_) Z aZ sZ Z Z Z Z Z Z Z (dX _) (m:=r.parents.length) n X Z s)<|V aJ<|Sr<|Da ?_;refine eU (λ(_:Unit)=>([(1,.ref 1 0 0 0),(3,.osl 971 1 0 (7+r.parents.length)),(4,sv J0)],[(1,bx 21 53 ((eD r).map .pv)),(971,⟨1,1,9,bQ (cb r++r.parents)⟩)])) (λ_=>True) ?_ ?_
 .refine O (bD DU)<|Y (bU pK)<|Y (fJ fE)<|V iZ<|Cn ?_ ?_<;>intro l
  .have f:0<C r.edits:=I_ l
   rw[a8 X]at i;subst i;refine Rd (bD DU)<|Y (bU pK)<|Y (kc call110 (t _))<|Y aA<|Y dL<|Y dL<|Da ?_;exact⟨(),T_,L_⟩
  have f:C r.edits=0:=J_ l
  rw[b6 f]at i;subst i;refine aB ?_;exact⟨(),T_,L_⟩
 rintro _ -;refine Sr<|Da<|eU (λ(y:B_)=>([(1,.ref 1 0 0 0),(3,.osl 971 1 0 (7+C r.parents)),(4,sv J0),(5,sv y)],[(1,bx 21 53 ((eD r).map .pv)),(971,⟨1,1,9,bQ (cb r++r.parents)⟩)])) (λy=>y=aV (if r.yes then 1 else 0)) ?_ ?_
 .refine O (bD JK)<|V (bU nU)<|Cn ?_ ?_<;>intro k
  .have m:(⟨#[49]⟩:B_)=aV (if r.yes then 1 else 0):=by rw[k];kernel_rfl
   refine Rg<|Da ?_;exact⟨_,m,L_⟩
  have m:(⟨#[48]⟩:B_)=aV (if r.yes then 1 else 0):=by rw[k];kernel_rfl
  refine aB ?_;exact⟨_,m,L_⟩
 rintro y m;rw[show aDp r J0=Nh r J0 y by rw[m];rfl];refine S<|aN a7<|Cr [971] (λ_ _=>aA)<|x_ aA<|Cr [1] (λ_ h=>fh DT h)<|Cr [1] (λ_ h=>lh N_ h)<|x_ aA<|Cr [1] (λ_ h=>fh zB h)<|Cr [1] (λ_ h=>lh M_ h)<|x_ (by exact bH Z Z fZ Z (z _))<|Cr [1] (λ_ h=>fh xS h)<|Cr [1] (λ_ h=>lh N_ h)<|x_ (by exact aM ((Nh r J0 y).map S_) Z aZ Z Z Z Z Z (dX _))<|Cp [971] (λg d=>by exact bW (ob:=⟨1,1,9,bQ (cb r++r.parents)⟩) (k:=C ((cb r++r.parents)++Nh r J0 y)) (ps:=(Nh r J0 y).map S_) Z aZ sZ Z ((d _ Z).trans Z) Z Z Z u Z (dX _) (m:=5) Z X (by rw[j8,j8];rfl) (eS _ _))<|Cr [971] (λ_ _=>aJ)<|bG<|Kr<|aC ?_;refine cN (H':=[(971,⟨2,1,9,bQ ((cb r++r.parents)++Nh r J0 y)⟩)]) (.inr Z) Z (aI Z) P_ ?_;exact Qq
theorem Nj(r)(b:mX r)(c:VF r)(a:∀e∈r.edits,C e.refs<2^40)(H):RC 70 [av (eD r)] (.pv (aL (vW r))) H:=by refine aW.pure ((YG r b c a).fin ?_) H_ H;rintro _ _ ⟨rfl,rfl⟩;exact⟨_,[],Fin.fz (id:=971) _ Z (dS _) (.osl (gY _ _)) Z T_ T_,Z,Z⟩
theorem JP{v k:Nat}(h:10 ^ k<=v):k<C (decDigits v):=by
 induction k generalizing v with
 |zero=>exact length_pos_iff.2 (oH v)
 |succ k D =>
  rw[Nat.pow_succ]at h;have E:0<10 ^ k:=Nat.pow_pos E_;have B:¬ v<10:=X
  rw[decDigits,dif_neg B,j8];have:=D (v:=v / 10) X;simp only[j6,length_nil];omega
def eT(s:B_):Int:=if uP s=η/\0<=jN s/\T s<=6/\aV (jN s)=s then jN s else -1
theorem G3{n:Int}(B:0<=n)(E:n<1000000):eT (aV n)=n:=by
 have ⟨a,b⟩:=UV B X;have D:T (aV n)<=6:=by
  obtain ⟨k,rfl⟩:∃k:Nat,n=(k:Int):=⟨n.toNat,X⟩;rw[qG,cB];exact cU (k:=6) X E_
 rw[eT,b6 (by rw[a,b];exact⟨Z,B,D,Z⟩),b]
theorem GZ(s:B_): -1<=eT s/\eT s<1000000:=by
 rw[eT]
 split
 .next h =>
  have ⟨F,G,H,B⟩:=h;refine⟨X,?_⟩;have ⟨k,D⟩:∃k:Nat,jN s=(k:Int):=⟨(jN s).toNat,X⟩;rw[D]at B |-;rw[qG]at B;have J:=jV k;have E:C (decDigits k)<=6:=by have:=congrArg ByteArray.size B;rw[cB]at this;omega
  by_cases I:k<1000000
  .omega
  exact absurd E (by have:=JP (v:=k) (k:=6) X;omega)
 omega
def rR(l:List UInt8):Bool:=!θ ((58:UInt8)∈l)||θ (eT (a_ (CR l))<0)||θ ((C (EH l):Int)<eT (a_ (CR l)))
def ZG(l:List UInt8):Nat:=(eT (a_ (CR l))).toNat
def qC(l:List UInt8):Option (List B_) :=if h:l=[]then A []else if rR l=N then ζ else(qC ((EH l).drop (ZG l))).map (a_ ((EH l).take (ZG l))::·)
termination_by (C l)
decreasing_by
 have h1:=length_pos_iff.2 h;have h2:=(dropWhile_sublist (l:=l) λb=>!θ (b=58)).length_le;rw[q6,EH,q6];omega
theorem uR:∀(L:List B_),(∀s∈L,T s<1000000)->qC (aO L)=A L
 | [],_=>by rw[show aO []=[]from Z,qC,dif_pos rfl]
 | x::L,h=>by
  have J:=h x mem_cons_self;have ⟨E,B⟩:=lj (r:=ν (μ x)++aO L) (UI (T x));rw[<-gZ]at E B;have F:eT (a_ (CR (aO (x::L))))=(T x:Int):=by rw[E,<-qG,G3 X X]
  have D:(58:UInt8)∈aO (x::L):=by rw[gZ];simp
  have H:rR (aO (x::L))=η:=by
   rw[rR,F,B,decide_eq_true D,decide_eq_false X,decide_eq_false (by rw[j8,aU];omega)];rfl
  have G:ZG (aO (x::L))=T x:=by rw[ZG,F,l_]
  rw[qC,dif_neg (λe=>by rw[e]at D;cases D),a8 (by rw[H];decide),G,B,drop_left' (aU x),take_left' (aU x),uR L λs I=>h s (mem_cons_of_mem _ I),fU];rfl
def uJ(p x:B_):Bool:=p.data.toList.isPrefixOf (ν (μ x))
def gC(ids:List B_)(p:B_):List B_:=ids.filter (uJ p)
structure l8 where
 pre:B_
 cnt:Nat
 sum:B_
 ids:List B_
variable{p:l8}
def dC(ids:List B_)(p:B_):l8:=⟨p,C (gC ids p),uI (gC ids p),if C (gC ids p)<=16 then gC ids p else[]⟩
def gP(p:l8):List B_:=[p.pre,aV (p.cnt:Int),p.sum]++p.ids
def eR:B_:=⟨#[111,102,102,101,114]⟩
def mJ:B_:=⟨#[119,97,110,116]⟩
def sU(L:List (List B_)):B_:=a_ (aO (eR::aV (C L:Int)::L.flatten))
def lC(L:List (List B_)):B_:=a_ (aO (mJ::L.flatten))
def qW(s:B_):Bool:=θ (T s<=16)&&s.data.toList.all wF
def A4(p:B_):List B_->Bool
 | []=>N
 | [x]=>m6 x&&uJ p x
 |x::y::r=>m6 x&&uJ p x&&jI x y&&A4 p (y::r)
def VB:Nat->List B_->Option (List l8)
 |_,[]=>A []
 | n + 1, a :: b :: c :: r =>
  if (qW a && θ (0 <= eT b) && m6 c) = N then
   if eT b<=16 then
    if eT b<=(C r:Int)/\A4 a (r.take (eT b).toNat)=N/\uI (r.take (eT b).toNat)=c then
     (VB n (r.drop (eT b).toNat)).map (⟨a,(eT b).toNat,c,r.take (eT b).toNat⟩::·)
    else ζ
   else(VB n r).map (⟨a,(eT b).toNat,c,[]⟩::·)
  else ζ
 |_,_=>ζ
def wB(t:B_):List l8:=match qC (ν (μ t)) with
 |some (o::n::r)=>if o=eR then(match VB (C r) r with|some P=>if(C P:Int)=eT n then P else[]|none=>[])else[]
 |_=>[]
def vS(t:B_):List B_:=match qC (ν (μ t)) with
 |some (o::i::r)=>if o=mJ/\(i::r).all m6=N then i::r else[]
 |_=>[]
theorem cP.eqv{P}{m4}{o}{E}{H H'}{v a}(h:cP P m4 o E H v H')(e:v=a):cP P m4 o E H a H':=e▸h
theorem aA0(x)(B:x<18446744073709551616)(H):RC 140 [uv x] (uv (PF x)) H:=by refine Pu ?_;refine Bd func140 Z ntmps140<|Sz aJ<|O aA<|Y (pC Z Z Z (show IntKind.u64.wrap _=((Cb x):Int)by rfl))<|V aJ<|O aA<|Y aA<|Y (GW Z Z Z H_ E_ (Ii _ 32 Z))<|Y (pV Z H_ Z Z (bits_xor_u64_nat _ _ (G6 x) (zE 32 (G6 x))))<|V aJ<|O aA<|Y (pC Z Z Z (show IntKind.u64.wrap _=((Ca x:Nat))by rfl))<|V aJ<|O aA<|Y aA<|Y (GW Z Z Z H_ E_ (Ii _ 29 Z))<|Y (pV Z H_ Z Z (bits_xor_u64_nat _ _ (G5 x) (zE 29 (G5 x)))) ?_;exact V aJ<|aC<|Rt<|Qq
def IA(b:Int):Prop:=(48<=b/\b<=57)\/(97<=b/\b<=102)
theorem yk(b:Int)(j:IA b)(H:aF):RC 83 [.pv (.int .u8 b)] (iv (if b<=57 then b - 48 else b - 87)) H:=by
 refine Pu ?_;have f:∀ {p:Prop} [Decidable p],p->AV.pv (.bool (θ p))=bv N:=λh=>by simp_all
 have k:∀ {p:Prop} [Decidable p],¬ p->AV.pv (.bool (θ p))=bv η:=λh=>by simp_all
 by_cases d:b<=57
 .have c:48<=b:=by rcases j with h|h<;>omega
  rw[b6 d];refine Bd func83 Z ntmps83<|Sz aJ<|S<|O aA<|Y (cP.eqv (jZ Z Z Z) (f c))<|Y aA<|U aA<|U (cP.eqv (pD Z Z Z) (f d))<|V cE<|Cn ?_ ?_<;>intro e
  .exact O aA<|Y (by exact dV Z Z Z (show IntKind.u8.wrap (b - 48)=b - 48 by rw[IntKind.wrap_u8];omega))<|Y (eO Z dG underlying3 Z (lZ X X))<|V aJ<|aC<|Rt<|Qq
  cases e
 have c:97<=b/\b<=102:=by rcases j with h|h<;>omega
 have i:48<=b:=X
 rw[a8 d];refine Bd func83 Z ntmps83<|Sz aJ<|S<|O aA<|Y (cP.eqv (jZ Z Z Z) (f i))<|Y aA<|U aA<|U (cP.eqv (pD Z Z Z) (k d))<|V cE<|Cn ?_ ?_<;>intro e
 .cases e
 refine aB<|S<|O aA<|Y (cP.eqv (jZ Z Z Z) (f c.1))<|Y aA<|U aA<|U (cP.eqv (pD Z Z Z) (f c.2))<|V cE<|Cn ?_ ?_<;>intro g
 .exact O aA<|Y (by exact dV Z Z Z (show IntKind.u8.wrap (b - 97)=b - 97 by rw[IntKind.wrap_u8];omega))<|Y (eO Z dG underlying3 Z (lZ X X))<|Y (by exact dB Z Z Z (show ξ.wrap (b - 97+10)=b - 87 by rw[lZ X X];omega))<|V aJ<|aC<|Rt<|Qq
 cases g
abbrev HX:B_:=⟨#[48,49,50,51,52,53,54,55,56,57,97,98,99,100,101,102]⟩
instance (b:Int):Decidable (IA b):=by unfold IA;infer_instance
theorem aB2:∀q:Fin 16,IA (bA HX q.1):=E_
theorem aBZ{q}(h:q<16):T (HX.extract q (q+1))=1/\IA (bA (HX.extract q (q+1)) 0):=by
 refine⟨by rw[ByteArray.size_extract];have:T HX=16:=rfl;omega,?_⟩;have e:bA (HX.extract q (q+1)) 0=bA HX q:=by
  unfold bA
  simp_all
 rw[e];exact aB2 ⟨q,h⟩
theorem Ui{l}{i}{b}(hi:i<8)(a:l[i]?=A b):(nH l)[i]?=A b:=by rw[nH,getElem?_append_left G_,getElem?_take_of_lt hi,a]
theorem Ko{l}{i}(hi:i<8)(B:C l<=i):(nH l)[i]?=A 0:=by rw[nH,getElem?_append_right G_,getElem?_replicate,b6 G_]
theorem Vp(D i)(hi:i<16):D / 16 ^ i % 16=V3 D (15 - i):=by rw[V3,show 60 - 4*(15 - i)=4*i by omega,Nat.pow_mul]
theorem aB0:∀q:Fin 16,(HX.extract q.1 (q.1+1)).data.toList=[UInt8.ofNat (xQ q.1).toNat]:=λq=>by
 revert q;decide
theorem jk(D):C (CE D)=16:=rfl
theorem Mx(D){i}(h:i<16):(CE D)[i]?=A (UInt8.ofNat (xQ (V3 D i)).toNat):=by rw[CE,r7,getElem?_range h];rfl
theorem Mv(D){i}(h:i<16):HX.extract (D / 16 ^ i % 16) (D / 16 ^ i % 16+1)++a_ ((CE D).drop (16 - i))=a_ ((CE D).drop (16 - (i+1))):=by
 refine nM ?_;rw[ByteArray.data_append,Array.toList_append,aB0 ⟨_,mod_lt _ H_⟩,cJ,cJ];show UInt8.ofNat (xQ (D / 16 ^ i % 16)).toNat::(CE D).drop _=_;rw[Vp D i h,show 16 - (i+1)=15 - i by omega,show 16 - i=15 - i+1 by omega];have b:15 - i<C (CE D):=by rw[jk];omega
 rw[drop_eq_getElem_cons b];have:=Mx D (i:=15 - i) X;rw[p_ b]at this;rw[Option.some.inj this]
theorem Tm(s:B_)(hs:T s<1000000000)(H:aF):RC 95 [sv s] (sv (F4 s)) H:=by
 refine Pu ?_;have γ:=aU s;have i_:bits .xor .u64 1181783497276652981 (T s:Int)=((WC (T s):Nat):Int):=bits_xor_u64_nat 1181783497276652981 (T s) E_ X;have B:WC (T s)<18446744073709551616:=ym X;have ⟨D,hD⟩:∃D,D=UJ (WC (T s)) (ν (μ s)):=X_;have l:F4 s=a_ (CE D):=by rw[F4,<-hD];rfl
 rw[l];clear l;refine Bd func95 Z ntmps95<|Sz aJ<|O aA<|Y (gG U_)<|Y (eO Z underlying3 gT Z (ei X))<|Y (pV Z H_ Z Z i_)<|V aJ<|S<|Sz aJ<|aD<|dU (λ(j c:Nat)=>([(0,sv s),(3,uv c),(4,iv ((8*j:Nat):Int))],[])) (λj c=>8*j<=T s+8/\c<18446744073709551616/\((8*j<=T s/\UJ c (s.data.toList.drop (8*j))=D)\/(T s<8*j/\c=D))) (λj c=>T s+8 - 8*j) 0 (WC (T s)) ⟨X,B,.inl ⟨X,F_⟩⟩ ?_ ?_
 .exact Wk
 rintro j c ⟨hj,p,u⟩;refine S<|O aA<|Y aA<|Y (gG U_)<|V EQ<|Cn ?_ ?_<;>intro q
 .have hle:8*j<=T s:=I_ q
  have o:UJ c (s.data.toList.drop (8*j))=D:=by
   omega
  have ⟨R,F⟩:∃R,R=s.data.toList.drop (8*j):=X_;have τ:C R=T s - 8*j:=F_
  have δ:=gu R;rw[<-F]at o;refine aB<|S<|aD<|Sz aJ<|S<|O aA<|V aJ<|aD<|bC (σ:=Nat) (λi=>([(0,sv s),(3,uv c),(4,iv ((8*j:Nat):Int)),(5,uv (wZ ((nH R).take i))),(6,iv ((8*j+i:Nat):Int))],[])) (λi=>i<=8) (λi=>8 - i) 0 (k_ _) ?_ ?_
  .exact Wk
  intro i hi;by_cases f:i<8
  .have ⟨y,K⟩:=aR (l:=nH R) (k:=i) X;have e:wZ ((nH R).take (i+1))=wZ ((nH R).take i)*256+y.toNat:=by rw[dT K,Y4]
   have h7:wZ ((nH R).take i)<72057594037927936:=mg G_;have β:y.toNat<256:=y.toNat_lt;generalize wZ ((nH R).take i)=b at e h7 |-;refine S<|O aA<|Y aA<|Y (by exact dB Z Z Z (show ξ.wrap (((8*j:Nat):Int)+8)=((8*j+8:Nat):Int)by rw[lZ X X];omega))<|V cF ?_;refine Cn ?_ ?_<;>intro J
   .refine aB<|S<|aD<|O aA<|Y (by exact pC Z Z Z (show IntKind.u64.wrap ((b:Int)*256)=((b*256:Nat):Int)by rw[IntKind.wrap_u64];omega))<|V aJ<|O aA<|Y aA<|Y (gG U_)<|V cF ?_;refine Cn ?_ ?_<;>intro x
    .have hlt2:8*j+i<T s:=I_ x
     have c_:bA s (8*j+i)=(y.toNat:Int):=by
      have v_:R[i]?=s.data.toList[8*j+i]?:=by rw[F,getElem?_drop]
      have ⟨z,hz⟩:=aR (l:=ν (μ s)) (k:=8*j+i) X;have:=Ui (l:=R) f (v_.trans hz);rw[K]at this;rw[bA,hz,<-Option.some.inj this];rfl
     refine Rd aA<|Y aA<|Y aA<|Y (ky U_)<|Y (eO Z dG gT Z (show IntKind.u64.wrap (bA s (8*j+i))=((y.toNat:Nat):Int)by rw[c_,ei X]))<|Y (by exact dB Z Z Z (show IntKind.u64.wrap (((b*256:Nat):Int)+((y.toNat:Nat):Int))=((b*256+y.toNat:Nat):Int)by rw[IntKind.wrap_u64];omega))<|V aJ<|Rd aA<|Y (by exact dB Z Z Z (show ξ.wrap (((8*j+i:Nat):Int)+1)=((8*j+(i+1):Nat):Int)by rw[lZ X X];omega))<|Da ?_;refine⟨i+1,X,X,?_⟩;rw[e];exact Wk
    have m:T s<=8*j+i:=J_ x
    have e_:y.toNat=0:=by
     have:=Ko (l:=R) f X;rw[K]at this;rw[Option.some.inj this];rfl
    refine aB<|Rd aA<|Y (by exact dB Z Z Z (show ξ.wrap (((8*j+i:Nat):Int)+1)=((8*j+(i+1):Nat):Int)by rw[lZ X X];omega))<|Da ?_;refine⟨i+1,X,X,?_⟩;rw[e,e_,Nat.add_zero];exact Wk
   (have h:=b_ J;omega)
  have A_:i=8:=X
  subst A_;have u_:(nH R).take 8=nH R:=take_of_length_le X;rw[u_];refine S<|O aA<|Y aA<|Y (by exact dB Z Z Z (show ξ.wrap (((8*j:Nat):Int)+8)=((8*j+8:Nat):Int)by rw[lZ X X];omega))<|V cF ?_;refine Cn ?_ ?_<;>intro L
  ·(have h:=b8 L;omega)
  have a:=U1 (l:=nH R) X;have W:=λH=>aA0 (c ^^^ wZ (nH R)) (EW p a) H;refine aP<|Rd aA<|Y aA<|Y (pV Z H_ Z Z (bits_xor_u64_nat c (wZ (nH R)) p a))<|Y (kc call140 (W _))<|V aJ<|Rd aA<|Y (by exact dB Z Z Z (show ξ.wrap (((8*j:Nat):Int)+8)=((8*(j+1):Nat):Int)by rw[lZ X X];omega))<|Da ?_;refine⟨j+1,PF (c ^^^ wZ (nH R)),⟨X,bb _,?_⟩,X,Wk⟩;by_cases t:8<=C R
  .refine .inl ⟨X,?_⟩;have y_:nH (R.take 8)=nH R:=by
    rw[nH,nH,take_take,q9,Nat.min_eq_left t];rw[show 8 - C R=0 by omega];rfl
   have d:=YQ c t;rw[y_,o,F,drop_drop]at d;rw[F,show 8*(j+1)=8*j+8 by omega,d]
  refine .inr ⟨X,?_⟩;rw[<-YR c X,o]
 have κ:T s<8*j:=J_ q
 have w:c=D:=by
  rcases u with⟨h,_⟩|⟨_,h⟩
  .omega
  exact h
 subst w;have r:=jk c;have m4:a_ ((CE c).drop (16 - 0))=⟨#[]⟩:=by rw[drop_of_length_le X];rfl
 have Q:c / 16 ^ 0=c:=by rw[Nat.pow_zero,Nat.div_one]
 refine aP<|Sz aJ<|S<|Sz aJ<|aD<|bC (σ:=Nat) (λi=>([(3,uv (c / 16 ^ i)),(7,sv (a_ ((CE c).drop (16 - i)))),(8,iv (i:Int))],[])) (λi=>i<=16) (λi=>16 - i) 0 (k_ _) ?_ ?_
 .rw[m4,Q];exact Wk
 intro i hi;have ⟨v,E⟩:∃v,v=c / 16 ^ i:=X_;have ρ:v<18446744073709551616:=by rw[E];exact Nat.lt_of_le_of_lt (div_le_self _ _) p
 have J0:c / 16 ^ (i+1)=v / 16:=by rw[E,Nat.pow_succ,<-Nat.div_div_eq_div_mul]
 rw[<-E];have P:((v:Nat):Int).tmod 16=((v % 16:Nat):Int):=by rw[Int.tmod_eq_emod_of_nonneg X];omega
 have hq:IntKind.u64.wrap (((v:Nat):Int).tdiv 16)=((v / 16:Nat):Int):=by
  rw[Int.tdiv_eq_ediv_of_nonneg X,IntKind.wrap_u64];omega
 have n:v % 16<16:=mod_lt _ E_;have k:=aBZ n;have f_:T (a_ ((CE c).drop (16 - i)))=i:=by rw[cB,q6];omega
 by_cases o_:i<16
 .have e:=Mv c o_;rw[<-E]at e;generalize v % 16=g at P n k e;refine S<|O aA<|V cF<|Cn ?_ ?_<;>intro I
  .refine aB<|S<|aD<|O aA<|Y (AF Z Z Z E_ P)<|Y aA<|Y (AF Z Z Z E_ P)<|Y (by exact dB Z Z Z (show IntKind.u64.wrap ((g:Int)+1)=((g+1:Nat):Int)by rw[IntKind.wrap_u64];omega))<|Y (by exact bP (l:=g) (h:=g+1) Z U_ Z Z Z X (show g+1<=T HX from by have:T HX=16:=rfl;omega) Z)<|Y aA<|Y (by exact fC Z Z Z (show T (HX.extract g (g+1))+T (a_ ((CE c).drop (16 - i)))<=9223372036854775807 by rw[k.1,f_];omega) e)<|V aJ<|Rd aA<|Y (DF Z Z Z E_ hq)<|V aJ<|Rd aA<|Y kp<|Da ?_;refine⟨i+1,X,X,?_⟩;rw[J0];exact Wk
  (have h:=b_ I;omega)
 have G:i=16:=X
 subst G;refine S<|O aA<|V cF<|Cn ?_ ?_<;>intro z_
 ·(have h:=b8 z_;omega)
 exact aP<|O aA<|V aJ<|aC<|Rt<|Qq
theorem P7(L)(d:C L<=2000)(c:∀s∈L,T s<=20000)(H):RC 52 [.pv (aL L)] (sv (uI L)) H:=by refine Pu ?_;have e:=λH=>W0 L X (λs h=>Nat.le_trans (c s h) H_) H;have B:=yS c d;have b:=λH=>Tm (a_ (aO L)) (by rw[cB];omega) H;exact Bd func52 Z ntmps52<|Sz aJ<|O aA<|Y (bH Z Z call85 Z (e _))<|Y (bH Z Z call95 Z (b _))<|V aJ<|aC<|Rt<|Qq
theorem lb(b:Int)(l:¬ IA b)(H:aF):RC 83 [.pv (.int .u8 b)] (iv (-1)) H:=by
 refine Pu ?_;have k:∀ {p:Prop} [Decidable p],p->AV.pv (.bool (θ p))=bv N:=λh=>by simp_all
 have g:∀ {p:Prop} [Decidable p],¬ p->AV.pv (.bool (θ p))=bv η:=λh=>by simp_all
 by_cases e:48<=b
 .have i:¬ b<=57:=λh=>l (.inl ⟨e,h⟩);by_cases f:97<=b
  .have j:¬ b<=102:=λh=>l (.inr ⟨f,h⟩);refine Bd func83 Z ntmps83<|Sz aJ<|S<|O aA<|Y (cP.eqv (jZ Z Z Z) (k e))<|Y aA<|U aA<|U (cP.eqv (pD Z Z Z) (g i))<|V cE<|Cn ?_ ?_<;>intro c
   .cases c
   refine aB<|S<|O aA<|Y (cP.eqv (jZ Z Z Z) (k f))<|Y aA<|U aA<|U (cP.eqv (pD Z Z Z) (g j))<|V cE<|Cn ?_ ?_<;>intro d
   .cases d
   exact aB<|Sz aJ<|aC<|Rt<|Qq
  refine Bd func83 Z ntmps83<|Sz aJ<|S<|O aA<|Y (cP.eqv (jZ Z Z Z) (k e))<|Y aA<|U aA<|U (cP.eqv (pD Z Z Z) (g i))<|V cE<|Cn ?_ ?_<;>intro c
  .cases c
  refine aB<|S<|O aA<|Y (cP.eqv (jZ Z Z Z) (g f))<|Y aA<|M<|M<|V cE<|Cn ?_ ?_<;>intro d
  .cases d
  exact aB<|Sz aJ<|aC<|Rt<|Qq
 refine Bd func83 Z ntmps83<|Sz aJ<|S<|O aA<|Y (cP.eqv (jZ Z Z Z) (g e))<|Y aA<|M<|M<|V cE<|Cn ?_ ?_<;>intro c
 .cases c
 refine aB<|S<|O aA<|Y (cP.eqv (jZ Z Z Z) (g X))<|Y aA<|M<|M<|V cE<|Cn ?_ ?_<;>intro d
 .cases d
 exact aB<|Sz aJ<|aC<|Rt<|Qq
theorem jj{s}{i}{y}(h:s.data.toList[i]?=A y):IA (bA s i)↔wF y=N:=by
 rw[bA];simp[IA,wF,Bool.or_eq_true,l6,j0,UInt8.le_iff_toNat_le]
 grind
theorem Wg{s}{i:Nat}{y}(h:s.data.toList[i]?=A y)(B:wF y=η):m6 s=η:=by
 rw[m6]
 grind
theorem Wi{s}(h:∀k,k<16->∀y,s.data.toList[k]?=A y->wF y=N):m6 s=θ (T s=16):=by
 rw[m6];by_cases e:T s=16
 .rw[decide_eq_true e,Bool.true_and,all_eq_true];intro y b;have ⟨k,a⟩:=s8.1 b;have:=(m_.1 a).1;rw[aU]at this;exact h k X y a
 simp_all
theorem W1(s:B_)(E:T s<2^62)(H:aF):RC 37 [sv s] (bv (m6 s)) H:=by
 refine Pu ?_;have u:=aU s;refine Bd func37 Z ntmps37<|Sz aJ<|S<|Sz aJ<|aD<|bC (σ:=Nat) (λi=>([(0,sv s),(3,iv (i:Int))],[])) (λi=>i<=16/\i<=T s/\∀k,k<i->∀y,s.data.toList[k]?=A y->wF y=N) (λi=>16 - i) 0 ⟨k_ _,k_ _,λk h=>by omega⟩ ?_ ?_
 .exact Wk
 rintro i ⟨hi,hi2,g⟩;by_cases q:i<T s/\i<16
 .have ⟨hin1,hin2⟩:=q;have ⟨y,e⟩:=aR (l:=ν (μ s)) (k:=i) X;have b:=jj e;have ⟨d,c⟩:∃d,d=bA s i:=X_;rw[<-c]at b;by_cases m:wF y=N
  .have j:=λH=>yk d (b.2 m) H;have f:¬ (if d<=57 then d - 48 else d - 87)<0:=by
    have:=b.2 m;unfold IA at this
    split<;>omega
   rw[c]at j f;refine S<|O aA<|Y aA<|Y (gG U_)<|Y (cP.eqv (iM Z Z Z) (show AV.pv (.bool (θ ((i:Int)<(T s:Int))))=bv N by simp_all))<|Y aA<|U aA<|U (cP.eqv (iM Z Z Z) (show AV.pv (.bool (θ ((i:Int)<16)))=bv N by grind))<|V cE<|Cn ?_ ?_<;>intro o
   .refine aB<|S<|aD<|O aA<|Y aA<|Y (ky U_)<|Y (kc call83 (j _))<|V cF<|Cn ?_ ?_<;>intro v
    .exact absurd (b8 v) f
    refine aB<|Rd aA<|Y kp<|Da ?_;refine⟨i+1,⟨X,X,λk B z F=>?_⟩,X,Wk⟩
    grind
   cases o
  have m:wF y=η:=F_
  have j:=λH=>lb d (λh=>by simp_all) H;rw[c]at j;rw[Wg e m];refine S<|O aA<|Y aA<|Y (gG U_)<|Y (cP.eqv (iM Z Z Z) (show AV.pv (.bool (θ ((i:Int)<(T s:Int))))=bv N by simp_all))<|Y aA<|U aA<|U (cP.eqv (iM Z Z Z) (show AV.pv (.bool (θ ((i:Int)<16)))=bv N by grind))<|V cE<|Cn ?_ ?_<;>intro w
  .refine aB<|S<|aD<|O aA<|Y aA<|Y (ky U_)<|Y (kc call83 (j _))<|V cF<|Cn ?_ ?_<;>intro n
   .exact Sz aJ<|aC<|Rt<|Qq
   (have h:=b_ n;exact absurd E_ h)
  cases w
 have l:=Wi (s:=s) (λk B y e=>by
  have:=(m_.1 e).1;rw[u]at this;exact g k X y e)
 have x:θ ((T s:Int)=16)=θ (T s=16):=by
  grind
 rw[l];by_cases D:i<T s
 .refine S<|O aA<|Y aA<|Y (gG U_)<|Y (cP.eqv (iM Z Z Z) (show AV.pv (.bool (θ ((i:Int)<(T s:Int))))=bv N by simp_all))<|Y aA<|U aA<|U (cP.eqv (iM Z Z Z) (show AV.pv (.bool (θ ((i:Int)<16)))=bv η by rw[decide_eq_false X]))<|V cE<|Cn ?_ ?_<;>intro p
  .cases p
  exact aP<|O aA<|Y (gG U_)<|Y (cP.eqv (mM Z Z Z) (show AV.pv (.bool (θ ((T s:Int)=16)))=bv (θ (T s=16))by rw[x]))<|V aJ<|aC<|Rt<|Qq
 refine S<|O aA<|Y aA<|Y (gG U_)<|Y (cP.eqv (iM Z Z Z) (show AV.pv (.bool (θ ((i:Int)<(T s:Int))))=bv η by rw[decide_eq_false X]))<|Y aA<|M<|M<|V cE<|Cn ?_ ?_<;>intro t
 .cases t
 exact aP<|O aA<|Y (gG U_)<|Y (cP.eqv (mM Z Z Z) (show AV.pv (.bool (θ ((T s:Int)=16)))=bv (θ (T s=16))by rw[x]))<|V aJ<|aC<|Rt<|Qq
def PI(b:UInt8):Bool:=θ (48<=b.toNat)&&θ (b.toNat<=57)
def VI:List UInt8->Nat->Nat->Nat×Nat
 | [],c,n=>(c,n)
 |b::r,c,n=>if(PI b&&θ (c<6))=N then VI r (c+1) (10*n+(b.toNat - 48))else(c,n)
def PB(l:List UInt8):Nat:=(VI l 0 0).1
def oc(l:List UInt8):Nat:=(VI l 0 0).2
def R4(l:List UInt8):Prop:=PB l=0\/l[PB l]?≠A 58\/C l - PB l - 1<oc l
instance (l:List UInt8):Decidable (R4 l):=inferInstanceAs (Decidable (_\/_\/_))
def PA(l:List UInt8):Option (List B_) :=if h:l=[]then A []else if R4 l then ζ else(PA (l.drop (PB l+1+oc l))).map (a_ ((l.drop (PB l+1)).take (oc l))::·)
termination_by (C l)
decreasing_by have:=length_pos_iff.2 h;rw[q6];omega
def Su(l:List UInt8):List B_×Bool:=match PA l with|some L=>(L,N)|none=>([],η)
theorem ZP:∀(w r) (c n v),decFrom n w=A v->c+C w<=6->VI (w++58::r) c n=(c+C w,v)
 | [],r,c,n,v,h,_=>by
  obtain rfl:=Option.some.inj h;rfl
 | b::w,r,c,n,v,h,g=>by
  rw[decFrom]at h;rw[j6]at g |-;cases e:digitVal b with
  |none=>simp_all
  | some d =>
   rw[e]at h;have f:d=b.toNat - 48/\PI b=N:=by
    rw[digitVal]at e
    split at e
    .next a=>obtain rfl:=Option.some.inj e;exact⟨Z,by rw[PI,decide_eq_true a.1,decide_eq_true a.2];rfl⟩
    cases e
   rw[cons_append,VI,b6 G_,<-f.1,Nat.mul_comm _,ZP w r _ _ v h X];exact Prod.ext X Z
theorem R1:∀(L:List B_),(∀s∈L,T s<1000000)->PA (aO L)=A L
 | [],_=>by rw[show aO []=[]from Z,PA,dif_pos rfl]
 | x::L,h=>by
  have E:=h x mem_cons_self;have D:=cU (k:=6) X E_;have f:=oH (T x);have c:VI (aO (x::L)) 0 0=(C (decDigits (T x)),T x):=by rw[gZ,ZP _ _ 0 0 _ (jV _) X,r8]
  have g:PB (aO (x::L))=C (decDigits (T x)):=congrArg Prod.fst c;have B:oc (aO (x::L))=T x:=congrArg Prod.snd c;have i:C (aO (x::L))=C (decDigits (T x))+1+(T x+C (aO L)):=by rw[gZ,j8,j6,j8,aU];omega
  have d:(aO (x::L))[C (decDigits (T x))]?=A 58:=by rw[gZ,getElem?_append_right (h_ _),Nat.sub_self];rfl
  have b:(aO (x::L)).drop (C (decDigits (T x))+1)=ν (μ x)++aO L:=by
   rw[gZ,show decDigits (T x)++58::(ν (μ x)++aO L)=(decDigits (T x)++[58])++(ν (μ x)++aO L)by simp,drop_left' H_]
  rw[PA,dif_neg (λe=>by simp_all),a8 (by rw[R4,g,B,d,i];have:=length_pos_iff.2 f;exact λh=>h.elim (λh=>by omega) λh=>h.elim (λh=>h Z) λh=>by omega),g,B,b,<-drop_drop,b,drop_left' (aU x),take_left' (aU x),R1 L (λs j=>h s (mem_cons_of_mem _ j)),fU];rfl
def N5(n:Int):B_:=if n<0 then a_ (45::decDigits (-n).toNat)else a_ (decDigits n.toNat)
theorem UK(n:Int)(h0 : -4611686018427387904<=n)(G:n<=4611686018427387904)(H:aF):RC 84 [iv n] (sv (N5 n)) H:=by
 by_cases e:n<0
 .refine Pu ?_;have g:∃k:Nat,n = -((k:Int)+1):=⟨(-n - 1).toNat,X⟩;have ⟨k,g⟩:=g;have f:=λH=>fq (k+1) X H;have E:N5 n=a_ (45::decDigits (k+1)):=by rw[N5,b6 e,show (-n).toNat=k+1 by omega]
  rw[E];have j:ξ.wrap (n+1) = -(k:Int):=by rw[lZ X X];omega
  have h:IntKind.u64.wrap (0 - -(k:Int))=(k:Int):=by rw[IntKind.wrap_u64];omega
  have i:IntKind.u64.wrap ((k:Int)+1)=((k+1:Nat):Int):=by rw[IntKind.wrap_u64];omega
  have B:(⟨#[45]⟩:B_)++a_ (decDigits (k+1))=a_ (45::decDigits (k+1)):=by rfl
  have D:T (⟨#[45]⟩:B_)=1:=rfl;have F:T (a_ (decDigits (k+1)))<=19:=by rw[cB];exact cU (k:=19) X E_
  refine Bd func84 Z ntmps84<|Sz aJ<|S<|O aA<|V (cP.eqv (iM Z Z Z) (by rw[decide_eq_true e]))<|Cn ?_ ?_<;>intro d
  .refine O aA<|Y (ka j)<|Y (Uz Z Z (lZ X X))<|Y (eO Z underlying3 gT Z h)<|Y (ka i)<|Y (kc call136 (f _))<|Y kq<|V aJ<|aC<|Rt ?_
   simp_all
  cases d
 obtain ⟨k,rfl⟩:∃k:Nat,n=(k:Int):=⟨n.toNat,X⟩;rw[N5,a8 e];exact SH k X H
theorem Fin.st2J{H1}{id g n}{ob}(l)(v)(b:H1.get id=A ob)(c:ob.g=g)(a:ob.rows=bQ l)(d:n=C l)(e:Clo [] v):
  Fin [] H1 (.tup [.osl id g 0 n,v]) [] (.tup [.pv (aL l),v]):=by
 subst c d;exact Fin.fz _ b (a.trans (dS l)) (.tup Z (bJ (.osl (gY _ l)) (bJ (.same e) kG))) Z T_ T_
theorem u4{p:Prop}(h:p:=by exact cL Z U_ Z Z X (l_ _) (by rw[hz];omega) Z):p:=h
theorem m5{p:Prop}(h:p:=by rw[hz];omega):p:=h
theorem Af(l:List UInt8)(hl:C l<1000000000)(H:aF):RC 62 [sv (a_ l)] (.tup [.pv (aL (Su l).1),bv (Su l).2]) H:=by
 refine Pu ?_;have t1:∀ {p:Prop} [Decidable p],p->AV.pv (.bool (θ p))=bv N:=λh=>by simp_all
 have K:∀ {p:Prop} [Decidable p],¬ p->AV.pv (.bool (θ p))=bv η:=λh=>by simp_all
 have n1:∀ {p:Prop} [Decidable p],¬ p->AV.pv (.bool (!θ p))=bv N:=λh=>by simp_all
 have n0:∀ {p:Prop} [Decidable p],p->AV.pv (.bool (!θ p))=bv η:=λh=>by simp_all
 have hz:=cB l;have g:∀i b,l[i]?=A b->bA (a_ l) i=(b.toNat:Int):=λi b h=>by rw[bA,cJ,h];rfl
 have hvn:PA l=ζ->Su l=([],η):=λh=>by rw[Su,h]
 have hvs:∀B,PA l=A B->Su l=(B,N):=λB h=>by rw[Su,h]
 refine Bd func62 Z ntmps62<|O aJ<|V aJ<|Sz (cZ (id:=905) (sz:=1) (ty:=9) Z Z Z)<|Sz aJ<|S<|aD<|dU (λ(p:Nat) (B:List B_)=>([(0,sv (a_ l)),(4,.osl 905 (C B) 0 (C B)),(5,iv (p:Int))],[(905,⟨C B,1,9,bQ B⟩)])) (λp B=>p<=C l/\C B<=p/\PA l=(PA (l.drop p)).map (B++·)) (λp B=>C l - p) 0 [] ⟨k_ _,h_ _,F_⟩ ?_ ?_
 .exact L_
 rintro p B ⟨hp,hAp,hJ⟩;refine S<|O aA<|Y aA<|Y (gG U_)<|V cF<|Cn ?_ ?_<;>intro j
 .have hlt:p<C l:=by have:=b8 j;rw[hz]at this;omega
  obtain ⟨R,z⟩:∃R,R=l.drop p:=X_;have hRl:C R=C l - p:=F_
  have f:∀c,R[c]?=l[p+c]?:=λc=>by simp_all
  rw[<-z]at hJ;have d:R≠[]:=λe=>by grind
  refine aB<|aD<|Sz aJ<|Sr<|Da<|eU (λ(q:Nat×Nat)=>([(0,sv (a_ l)),(4,.osl 905 (C B) 0 (C B)),(5,iv ((p+q.1:Nat):Int)),(6,iv (q.2:Int)),(7,iv (q.1:Int))],[(905,⟨C B,1,9,bQ B⟩)])) (λq=>VI R 0 0=q/\q.1<=6/\p+q.1<=C l/\q.2<1000000) ?_ ?_
  .refine aD<|dU (λ(c n:Nat)=>([(0,sv (a_ l)),(4,.osl 905 (C B) 0 (C B)),(5,iv ((p+c:Nat):Int)),(6,iv (n:Int)),(7,iv (c:Int))],[(905,⟨C B,1,9,bQ B⟩)])) (λc n=>VI R 0 0=VI (R.drop c) c n/\c<=6/\p+c<=C l/\n<10 ^ c) (λc n=>6 - c) 0 0 ⟨Z,k_ _,X,E_⟩ ?_ ?_
   .exact L_
   rintro c n ⟨hsc,hle6,hcl,hn⟩;have hp6:10 ^ c<=1000000:=Nat.le_trans (Nat.pow_le_pow_right E_ hle6) E_;by_cases t:p+c<C l
   .have ⟨b,hb⟩:=aR (l:=R) (k:=c) X;have D:=g (p+c) b ((f c).symm.trans hb);have τ:=b.toNat_lt;have P:R.drop c=b::R.drop (c+1):=by
     have h1:=(m_.1 hb).1;rw[drop_eq_getElem_cons h1,(m_.1 hb).2]
    rw[P,VI]at hsc;by_cases G:(PI b&&θ (c<6))=N
    .rw[b6 G]at hsc;rw[l6,PI,l6,j0,j0,j0]at G;have hn2:10*n+(b.toNat - 48)<10 ^ (c+1):=by rw[Nat.pow_succ];omega
     refine S<|O aA<|Y aA<|Y (gG U_)<|Y (by exact cP.eqv (iM Z Z Z) (t1 m5))<|Y aA<|U aA<|U aA<|U u4<|U (by exact cP.eqv (jZ Z Z Z) (t1 (by rw[D];omega)))<|Y cE<|Y aA<|U aA<|U aA<|U u4<|U (by exact cP.eqv (pD Z Z Z) (t1 (by rw[D];omega)))<|Y cE<|Y aA<|U aA<|U (cP.eqv (iM Z Z Z) (t1 X))<|V cE ?_;refine Cn ?_ ?_<;>intro σ
     .refine aB<|aD<|O aA<|Y (by exact pC Z Z Z (show ξ.wrap (10*(n:Int))=((10*n:Nat):Int)by rw[lZ X X];omega))<|Y aA<|Y aA<|Y u4<|Y (by exact dV Z Z Z (show IntKind.u8.wrap (bA (a_ l) (p+c) - 48)=((b.toNat - 48:Nat):Int)by rw[D,IntKind.wrap_u8];omega))<|Y (eO Z dG underlying3 Z (lZ X X))<|Y (by exact dB Z Z Z (show ξ.wrap (((10*n:Nat):Int)+((b.toNat - 48:Nat):Int))=((10*n+(b.toNat - 48):Nat):Int)by rw[lZ X X];omega))<|V aJ<|O aA<|Y (by exact dB Z Z Z (show ξ.wrap (((p+c:Nat):Int)+1)=((p+(c+1):Nat):Int)by rw[lZ X X];omega)) ?_;refine V aJ<|Rd aA<|Y kp<|Da ?_;exact⟨c+1,_,⟨hsc,X,X,hn2⟩,X,L_⟩
     cases σ
    rw[a8 G]at hsc;have G:(PI b&&θ (c<6))=η:=by simpa using G
    have E:∃a:Nat×Nat,(VI R 0 0=a/\a.1<=6/\p+a.1<=C l/\a.2<1000000)/\a=(c,n):=⟨(c,n),⟨hsc,hle6,hcl,X⟩,Z⟩;obtain ⟨_,E,rfl⟩:=E;by_cases w:48<=b.toNat
    .by_cases h57:b.toNat<=57
     .have hc:¬ c<6:=λh=>by rw[PI,decide_eq_true w,decide_eq_true h57,decide_eq_true h]at G;cases G
      refine S<|O aA<|Y aA<|Y (gG U_)<|Y (by exact cP.eqv (iM Z Z Z) (t1 m5))<|Y aA<|U aA<|U aA<|U u4<|U (by exact cP.eqv (jZ Z Z Z) (t1 (by rw[D];omega)))<|Y cE<|Y aA<|U aA<|U aA<|U u4<|U (by exact cP.eqv (pD Z Z Z) (t1 (by rw[D];omega)))<|Y cE<|Y aA<|U aA<|U (cP.eqv (iM Z Z Z) (K X))<|V cE ?_;refine Cn ?_ ?_<;>intro ρ
      .cases ρ
      refine aP ?_;exact⟨(c,n),E,L_⟩
     refine S<|O aA<|Y aA<|Y (gG U_)<|Y (by exact cP.eqv (iM Z Z Z) (t1 m5))<|Y aA<|U aA<|U aA<|U u4<|U (by exact cP.eqv (jZ Z Z Z) (t1 (by rw[D];omega)))<|Y cE<|Y aA<|U aA<|U aA<|U u4<|U (by exact cP.eqv (pD Z Z Z) (K (by rw[D];omega)))<|Y cE<|Y aA<|M<|M<|V cE ?_;refine Cn ?_ ?_<;>intro κ
     .cases κ
     refine aP ?_;exact⟨(c,n),E,L_⟩
    refine S<|O aA<|Y aA<|Y (gG U_)<|Y (by exact cP.eqv (iM Z Z Z) (t1 m5))<|Y aA<|U aA<|U aA<|U u4<|U (by exact cP.eqv (jZ Z Z Z) (K (by rw[D];omega)))<|Y cE<|Y aA<|M<|M<|M<|M<|Y cE<|Y aA<|M<|M<|V cE ?_;refine Cn ?_ ?_<;>intro δ
    .cases δ
    refine aP ?_;exact⟨(c,n),E,L_⟩
   rw[drop_eq_nil_of_le X,VI]at hsc;refine S<|O aA<|Y aA<|Y (gG U_)<|Y (by exact cP.eqv (iM Z Z Z) (K m5))<|Y aA<|M<|M<|M<|M<|Y cE<|Y aA<|M<|M<|M<|M<|Y cE<|Y aA<|M<|M<|V cE ?_;refine Cn ?_ ?_<;>intro γ
   .cases γ
   refine aP ?_;exact⟨(c,n),⟨hsc,hle6,hcl,X⟩,L_⟩
  rintro⟨c,n⟩ ⟨hsc,hle6,hcl,hn⟩;have x:PB R=c:=congrArg Prod.fst hsc;have y:oc R=n:=congrArg Prod.snd hsc;have F:R4 R->Su l=([],η):=λh=>hvn (by rw[hJ,PA,dif_neg d,b6 h];rfl);rw[R4,x,y]at F;dsimp only at hle6 hcl hn |-;by_cases c0:c=0
  .rw[F (.inl c0)];refine S<|O aA<|Y (cP.eqv (mM Z Z Z) (t1 X))<|Y aA<|M<|M<|M<|M<|Y cE<|Y aA<|M<|M<|M<|M<|Y cE<|Y aA<|M<|M<|M<|M<|M<|M<|M<|V cE<|Cn ?_ ?_<;>intro β
   .refine O aJ<|V aJ<|aC<|fO (H':=[]) (.inr Z) Z (aI Z) (aI Z) (P_ (r:=.tup [.pv (aL []),bv η])) ?_;exact Qq
   cases β
  by_cases t:p+c<C l
  .have ⟨b,hb⟩:=aR (l:=R) (k:=c) X;have D:=g (p+c) b ((f c).symm.trans hb);by_cases J:b=58
   .have I:bA (a_ l) (p+c)=58:=by rw[D,J];rfl
    have w63:ξ.wrap ((T (a_ l):Int) - ((p+c:Nat):Int))=((C l - (p+c):Nat):Int):=by rw[hz,lZ X X];omega
    have v:ξ.wrap (((C l - (p+c):Nat):Int) - 1)=((C l - (p+c) - 1:Nat):Int):=by rw[lZ X X];omega
    have W:ξ.wrap (((p+c:Nat):Int)+1)=((p+c+1:Nat):Int):=by rw[lZ X X];omega
    refine S<|O aA<|Y (cP.eqv (mM Z Z Z) (K X))<|Y aA<|U aA<|U aA<|U (gG U_)<|U (by exact cP.eqv (mM Z Z Z) (K m5))<|Y cE<|Y aA<|U aA<|U aA<|U u4<|U (cP.eqv (K0 Z Z Z) (n0 I))<|Y cE<|Y aA<|U aA<|U aA<|U (gG U_)<|U aA<|U (dV Z Z Z w63)<|U (dV Z Z Z v)<|U iZ<|V cE ?_;refine Cn ?_ ?_<;>intro s
    .have hgt:C l - (p+c) - 1<n:=I_ s
     rw[F (.inr (.inr X))];refine O aJ<|V aJ<|aC<|fO (H':=[]) (.inr Z) Z (aI Z) (aI Z) (P_ (r:=.tup [.pv (aL []),bv η])) ?_;exact Qq
    have hle:n<=C l - (p+c) - 1:=J_ s
    have hok:¬ R4 R:=by rw[R4,x,y,hb,J];exact λh=>h.elim c0 λh=>h.elim (λh=>h Z) λh=>by omega
    have L:(a_ l).extract (p+c+1) (p+c+1+n)=a_ ((R.drop (c+1)).take n):=nM (by rw[gK,cJ,cJ,z,drop_drop,show p+c+1+n - (p+c+1)=n by omega,show p+(c+1)=p+c+1 by omega]);have P:l.drop (p+c+1+n)=R.drop (c+1+n):=by rw[z,drop_drop,show p+(c+1+n)=p+c+1+n by omega]
    have Q:C (B++[a_ ((R.drop (c+1)).take n)])=C B+1:=by rw[j8];rfl
    have u:PA l=(PA (l.drop (p+c+1+n))).map ((B++[a_ ((R.drop (c+1)).take n)])++·):=by
     rw[hJ,PA,dif_neg d,a8 hok,x,y,P];cases PA (R.drop (c+1+n))<;>simp
    generalize a_ ((R.drop (c+1)).take n)=A_ at L Q u;refine aB<|O aA<|Y aA<|Y aA<|Y (ka W)<|Y aA<|Y (ka W)<|Y aA<|Y (by exact dB Z Z Z (show IntKind.i64.wrap (((p+c+1:Nat):Int)+(n:Int))=((p+c+1+n:Nat):Int)by rw[lZ X X];omega))<|Y (by exact bP (l:=p+c+1) (h:=p+c+1+n) Z U_ Z Z Z X m5 L)<|Y (by exact aM [[.str A_]] Z aZ Z Z Z Z Z R_)<|Y (by exact bW (ps:=[[.str A_]]) Z aZ sZ Z Z Z Z Z (cY _) Z R_ (m:=1) Z X Z (gB B A_))<|V aJ<|Rd aA<|Y (ka W)<|Y aA<|Y (by exact dB Z Z Z (show IntKind.i64.wrap (((p+c+1:Nat):Int)+(n:Int))=((p+c+1+n:Nat):Int)by rw[lZ X X];omega)) ?_;refine Da ?_;refine⟨p+c+1+n,B++[A_],⟨X,by rw[Q];omega,u⟩,X,?_⟩;rw[Q];exact(cH.wk (Eb<|Ea<|Eb<|T_) (Hc (aQ _ _)<|T_) T_)
   have I:¬ bA (a_ l) (p+c)=58:=λe=>J (by
    rw[D]at e;exact UInt8.toNat_inj.1 (by show b.toNat=58;omega))
   rw[F (.inr (.inl (by rw[hb];exact λe=>J (Option.some.inj e))))];refine S<|O aA<|Y (cP.eqv (mM Z Z Z) (K X))<|Y aA<|U aA<|U aA<|U (gG U_)<|U (by exact cP.eqv (mM Z Z Z) (K m5))<|Y cE<|Y aA<|U aA<|U aA<|U u4<|U (cP.eqv (K0 Z Z Z) (n1 I))<|Y cE<|Y aA<|M<|M<|M<|M<|M<|M<|M<|V cE ?_;refine Cn ?_ ?_<;>intro hc9
   .refine O aJ<|V aJ<|aC<|fO (H':=[]) (.inr Z) Z (aI Z) (aI Z) (P_ (r:=.tup [.pv (aL []),bv η])) ?_;exact Qq
   cases hc9
  rw[F (.inr (.inl (by rw[getElem?_eq_none X];exact λe=>by cases e)))];refine S<|O aA<|Y (cP.eqv (mM Z Z Z) (K X))<|Y aA<|U aA<|U aA<|U (gG U_)<|U (by exact cP.eqv (mM Z Z Z) (t1 m5))<|Y cE<|Y aA<|M<|M<|M<|M<|Y cE<|Y aA<|M<|M<|M<|M<|M<|M<|M<|V cE ?_;refine Cn ?_ ?_<;>intro o
  .refine O aJ<|V aJ<|aC<|fO (H':=[]) (.inr Z) Z (aI Z) (aI Z) (P_ (r:=.tup [.pv (aL []),bv η])) ?_;exact Qq
  cases o
 have hge:p=C l:=by have:=b_ j;rw[hz]at this;omega
 have E:Su l=(B,N):=hvs B (by rw[hJ,hge,drop_length,PA,dif_pos rfl];simp);rw[E];refine aP<|O aA<|Y aJ<|V aJ<|aC ?_;refine fO (H':=[]) (.inr Z) Z (aI Z) (aI Z) (Fin.st2J B (bv N) Z Z Z Z H_) ?_;exact Qq
theorem lg:∀ {l:List UInt8},(58:UInt8)∈l->l=CR l++58::EH l
 | [],h=>by cases h
 | b::l,h=>by
  by_cases e:b=58
  .subst e;simp[CR,EH]
  have E:(58:UInt8)∈l:=by
   rcases l9.1 h with h|h
   .exact absurd h.symm e
   exact h
  have F:=lg E;have B:CR (b::l)=b::CR l:=by simp[CR,e]
  have D:EH (b::l)=EH l:=by simp[EH,e]
  rw[B,D,cons_append,<-F]
def CL(l:List UInt8):Prop:=PB l=0\/l[PB l]?≠A 58\/decDigits (oc l)≠l.take (PB l)\/C l - PB l - 1<oc l
theorem im(h:n<1000000):eT (a_ (decDigits n))=(n:Int):=by rw[<-qG,G3 X X]
theorem LD(h:0<=eT (a_ l)):l=decDigits (eT (a_ l)).toNat/\C l<=6:=by
 have ⟨v,B⟩:∃v,v=eT (a_ l):=X_;rw[<-B]at h |-;rw[eT]at B
 split at B
 .next hc =>
  have ⟨G,H,D,E⟩:=hc;rw[cB]at D;have ⟨k,F⟩:∃k:Nat,jN (a_ l)=(k:Int):=⟨(jN (a_ l)).toNat,X⟩;rw[F]at B E;rw[B,l_];have:=congrArg (λs:B_=>ν (μ s)) E;simp only[NU,cJ]at this;exact⟨this.symm,D⟩
 omega
theorem u5{p:Prop}(h:p:=by rw[q6];omega):p:=h
theorem aB6(h:¬ CL l)(a:PB l<=6):rR l=η/\ZG l=oc l/\CR l=l.take (PB l)/\EH l=l.drop (PB l+1):=by
 simp only[CL,not_or,Decidable.not_not]at h;have ⟨R,E,F,W⟩:=h;have D:=(m_.1 E).1;have L:l=l.take (PB l)++58::l.drop (PB l+1):=by
  have J:l.drop (PB l)=58::l.drop (PB l+1):=by
   rw[drop_eq_getElem_cons D];rw[p_ D]at E;rw[Option.some.inj E]
  rw[<-J,take_append_drop]
 have G:(58:UInt8)∉l.take (PB l):=by rw[<-F];exact UI _
 have B:=lj (r:=l.drop (PB l+1)) G;rw[<-L]at B;have H:C (decDigits (oc l))=PB l:=by rw[F,q9];omega
 have Q:oc l<1000000:=by
  by_cases K:oc l<1000000
  .exact K
  have:=JP (v:=oc l) (k:=6) X;omega
 have I:eT (a_ (CR l))=(oc l:Int):=by rw[B.1,<-F,im Q]
 have P:(58:UInt8)∈l:=m7 E;refine⟨?_,by rw[ZG,I,l_],B.1,B.2⟩;rw[rR,I,B.2,decide_eq_true P,decide_eq_false X,decide_eq_false u5];rfl
theorem aBs(h:CL l):rR l=N:=by
 cases e:rR l with
 |true=>rfl
 | false =>
  exfalso;simp only[rR,r6,Bool.not_eq_false',n_,j0]at e;have ⟨⟨H,c⟩,I⟩:=e;have ⟨D,W⟩:=LD (l:=CR l) X;have ⟨v,R⟩:∃v,v=(eT (a_ (CR l))).toNat:=X_;rw[<-R]at D;have B:=lg H;have F:VI l 0 0=(C (CR l),v):=by
   conv=>lhs;rw[B]
   rw[ZP (CR l) (EH l) 0 0 v (by rw[D];exact jV v) X,r8]
  have G:PB l=C (CR l):=congrArg Prod.fst F;have J:oc l=v:=congrArg Prod.snd F;have ⟨a,K⟩:∃a,a=CR l:=X_;have ⟨b,L⟩:∃b,b=EH l:=X_;rw[<-K]at B D G F;rw[<-L]at B I;have Q:l.take (C a)=a:=by rw[B];exact take_left
  have E:l[C a]?=A 58:=by rw[B,getElem?_append_right (h_ _),Nat.sub_self];rfl
  have P:C l=C a+(1+C b):=by
   have:=congrArg List.length B;rw[j8,j6]at this;omega
  rw[CL,G,J,E,Q]at h;rcases h with h|h|h|h
  .have:=oH v;rw[<-D]at this;exact this (length_eq_zero_iff.1 h)
  .exact h Z
  .exact h D.symm
  omega
theorem TD(h:¬ 0<=eT s):eT s = -1:=by have:=(GZ s).1;omega
theorem By(h:6<C l):eT (a_ l) = -1:=TD λB=>by have:=(LD B).2;omega
theorem qo{b:UInt8}(B:b∈l)(h:¬ (48<=b.toNat/\b.toNat<=57)):eT (a_ l) = -1:=TD λD=>by
 rw[(LD D).1]at B;exact h (pZ _ B)
theorem Ll(D:C l<=6)(h:decDigits n=l):eT (a_ l)=(n:Int):=by
 subst h;refine im ?_;by_cases B:n<1000000
 .exact B
 have:=JP (v:=n) (k:=6) X;omega
theorem Ve(B:decFrom 0 l=A n)(h:decDigits n≠l):eT (a_ l) = -1:=TD λD=>by
 have ⟨e,_⟩:=LD D;rw[e,jV]at B;exact h (by rw[<-Option.some.inj B];exact e.symm)
theorem X5(l:List B_)(H:aF)(P:C (aO l)<35184372088832):RC 78 [.pv (aL l)] (sv (a_ (aO l))) H:=by
 refine Pu ?_;have J:C (l.map S_)=C l:=g_ _;have I:=AK l;refine Bd func78 Z ntmps78<|Sz aJ<|Sz (kl 2001 IH)<|S<|S ?_;refine gO.ent (E':=[(0,.pv (aL l)),(3,.ref 2001 0 0 0)]) (H':=zH 0 [] η) (cH.bld0 ⟨⟨_,Z,.same H_⟩,⟨_,Z,.same m3⟩,T_⟩) ?_;refine Rd aA<|Y (fJ aE)<|V aA<|aD<|CO (λ(k g:Nat) (u:Bool)=>([(3,.ref 2001 0 0 0),(6,.pv (aL l)),(7,iv (C (l.map S_):Int)),(8,iv (k:Int))],zH g (aO (l.take k)) u)) (λk g u=>k<=C l) (λk g u=>C l - k) 0 0 η (k_ _) ?_ ?_
 .exact(cH.wk (Ea<|Eb<|Eb<|Eb<|T_) (Hc (gR Z Z)<|Hc (eW _ _)<|T_) T_)
 intro k g u L;have G:=uX l k;refine Sz cF<|S<|Cn ?_ ?_<;>intro B
 .have hlt:k<C l:=I_ B
  have ⟨s,F⟩:=aR hlt;have hi:=cC (f:=S_) F;have D:=uX l (k+1);rw[dT F,qF,j8,pS,nY]at D;have K:T s<35184372088832:=X
  refine aB<|S<|aD<|O (jA aZ)<|Y (fK N_ (hi:=hi))<|V aJ<|Rd aA<|Y (gG U_)<|Y (kc mD (qI (T s:Int) X X _))<|Y (by exact fC Z Z Z (by have:T (⟨#[58]⟩:B_)=1:=rfl;omega) Z)<|Y aA<|Y (by exact fC Z Z Z (by rw[ByteArray.size_append];have:T (⟨#[58]⟩:B_)=1:=rfl;omega) Z)<|V (kc nS (jO g (aO (l.take k)) u (qQ s) (by rw[nY];omega)))<|Rd iH<|V aA ?_;refine⟨k+1,g+1,N,X,X,?_⟩;rw[dT F,qF];exact(cH.wk (Ea<|Eb<|Eb<|Eb<|T_) (Hc (gR Z Z)<|Hc (eW _ _)<|T_) T_)
 have E:k=C l:=by have:=b_ B;omega
 subst E;rw[take_length];exact aP<|O (kc nR (RU g (aO l) u X))<|V aJ<|aC<|Rt<|Qq
def nbW(s:B_):Bool:=((uP s||θ (jN s<0))||θ ((6:Int)<(T s:Int)))||!θ (aV (jN s)=s)
theorem Vf(s:B_):eT s=if nbW s=N then -1 else jN s:=by rw[eT,nbW];cases F:uP s<;>by_cases B:jN s<0<;>by_cases D:(6:Int)<(T s:Int)<;>by_cases E:aV (jN s)=s<;>simp[B,D,E]<;>omega
theorem qp(s:B_)(H:aF)(Q:T s<2^40):RC 89 [sv s] (iv (eT s)) H:=by
 refine Pu ?_;have D:=λH=>cq s Q H;have E:=Y1 s;have F:=λH=>qI (jN s) E.1 E.2 H;have K:=Vf s;have B:nbW s=(((uP s||θ (jN s<0))||θ ((6:Int)<(T s:Int)))||!θ (aV (jN s)=s)):=rfl;rw[K];clear K;generalize jN s=v at D B E F |-;generalize uP s=e at D B;have ⟨w,L⟩:∃y,y=aV v:=X_;rw[<-L]at F B;clear L;refine Bd func89 Z ntmps89<|Sz aJ<|O aA<|Y (kc wM (D _))<|Y aA<|Y dL<|Y dL<|Y aJ<|V aJ<|S<|S<|aT (t:=26) (n:=20) (A_:=nbW s) ?_ ?_
 .all_goals refine Y aA<|Y (S5 Z oJ Z)<|Dm ?_<;>(refine Sp 12 (λG=>?_) λG=>?_)<;>(try exact w_)<;>(first|refine M<|M ?_|refine U aA<|U cF ?_)<;>refine Y cE<|Dm ?_<;>(refine Sp 16 (λJ=>?_) λJ=>?_)<;>(try exact w_)<;>(first|refine M<|M<|M ?_|refine U aA<|U (gG U_)<|U iZ ?_)<;>refine Y cE<|Dm ?_<;>(refine Sp 21 (λP=>?_) λP=>?_)<;>(try exact w_)<;>(first|refine M<|M<|M<|M ?_|refine U aA<|U (kc mD (F _))<|U aA<|U EN ?_)<;>refine V cE ?_<;>exact Gj (h:=by rw[B];first|(rw[G];rfl)|(rw[G,J];rfl)|(rw[G,J,P];rfl))
 refine Cn ?_ ?_<;>intro I
 .rw[b6 (show nbW s=N from I)];exact Sz aJ<|aC<|Rt<|Qq
 rw[a8 (show ¬ nbW s=N by rw[show nbW s=η from I];decide)];exact aB<|O aA<|V aJ<|aC<|Rt<|Qq
theorem Oe(h:l≠[]):C (EH l)<C l:=by rw[EH,q6];have:=(dropWhile_sublist (l:=l) λb=>!θ (b=58)).length_le;have:=length_pos_iff.2 h;omega
theorem PZ:qC []=A []:=by rw[qC,dif_pos rfl]
theorem ZH(B:l≠[])(D:rR l=N):qC l=ζ:=by rw[qC,dif_neg B,b6 D]
theorem RY(B:l≠[])(D:rR l=η):qC l=(qC ((EH l).drop (ZG l))).map (a_ ((EH l).take (ZG l))::·):=by conv=>lhs;rw[qC,dif_neg B,a8 (by rw[D];decide)]
theorem ey(t:List UInt8)(H:aF)(ht:C t<1000000000):RC 87 [sv (a_ t)] (.tup [.pv (aL ((qC t).getD [])),bv (qC t).isSome]) H:=by
 refine Pu<|Bd func87 Z ntmps87<|O aJ<|V aJ<|Sz (cZ (id:=905) (sz:=1) (ty:=9) Z Z Z)<|S<|aD<|dU (λ(l:List UInt8) (E:List B_)=>([(0,sv (a_ l)),(4,.osl 905 (C E) 0 (C E))],[(905,⟨C E,1,9,bQ E⟩)])) (λl E=>C l+C E<=C t/\qC t=(qC l).map (E++·)) (λl E=>C l) t [] ⟨h_ _,by cases qC t<;>rfl⟩ ?_ ?_
 .exact L_
 rintro l E ⟨hl,hR⟩;have d:T (a_ l)=C l:=cB l;have c:=Od l;have D:=λH=>Nv (a_ l) H X;rw[yo]at D;have I:=λH=>qp (a_ (CR l)) H (by rw[cB];omega);have f:T (a_ (EH l))=C (EH l):=cB _;have B:rR l=((!θ ((58:UInt8)∈l)||θ (eT (a_ (CR l))<0))||θ ((C (EH l):Int)<eT (a_ (CR l)))):=rfl;have R:ZG l=(eT (a_ (CR l))).toNat:=rfl;have b:=λ(F:l≠[]) G=>ZH F G;have Q:=λ(F:l≠[]) G=>RY F G;have L:=λF=>Oe (l:=l) F;generalize a_ (CR l)=x at D I B R;have ⟨v,p⟩:∃v,v=eT x:=X_;have ⟨o,i⟩:∃o,o=θ ((58:UInt8)∈l):=X_;have ⟨r,j⟩:∃r,r=EH l:=X_;simp only[<-p,<-i,<-j]at D I B R f c L Q;clear p i j;refine S<|O aA<|Y (gG U_)<|V iZ<|Cn ?_ ?_<;>intro J
 .have F:l≠[]:=λe=>by have h:=b8 J;rw[d,e]at h;exact absurd h E_
  refine aB<|aD<|O aA<|Y (kc call137 (D _))<|Y aA<|Y dL<|Y dL<|Y dL<|Y aJ<|Y aJ<|V aJ<|O aA<|Y (kc call89 (I _))<|V aJ<|S<|S<|aT (t:=31) (n:=14) (A_:=rR l) ?_ ?_
  .all_goals refine Y aA<|Y iE<|Dm ?_<;>(refine Sp 22 (λW=>?_) λW=>?_)<;>(try exact w_)<;>(first|refine M<|M ?_|refine U aA<|U cF ?_)<;>refine Y cE<|Dm ?_<;>(refine Sp 26 (λq=>?_) λq=>?_)<;>(try exact w_)<;>(first|refine M<|M<|M<|M ?_|refine U aA<|U aA<|U (gG U_)<|U iZ ?_)<;>refine V cE ?_<;>exact Gj (h:=by rw[B];first|(rw[W];rfl)|(rw[W,q];rfl))
  refine Cn ?_ ?_<;>intro K
  .have G:rR l=N:=K;rw[hR,b F G];refine O aJ<|V aJ<|aC<|fO (H':=[]) (.inr Z) Z (aI Z) (aI Z) (P_ (r:=.tup [.pv (aL []),bv η])) ?_;exact Qq
  have G:rR l=η:=K;have k:=Q F G;have g:=L F;have a:=B.symm.trans G;simp only[r6,n_]at a;obtain ⟨u,rfl⟩:∃u:Nat,v=(u:Int):=⟨v.toNat,X⟩;rw[l_]at R;rw[R]at k;have w:u<=C r:=X
  have x1:(a_ r).extract 0 u=a_ (r.take u):=nM (by rw[gK,cJ,cJ,drop_zero,Nat.sub_zero]);have y:(a_ r).extract u (T (a_ r))=a_ (r.drop u):=nM (by rw[sR,cJ,cJ]);have P:C (E++[a_ (r.take u)])=C E+1:=by rw[j8];rfl
  refine aB<|aN a7<|Cr [905] (λ_ _=>aA)<|x_ aA<|x_ aA<|x_ (by exact bP (l:=0) (h:=u) Z U_ Z Z Z (k_ _) X x1)<|x_ (by exact aM [[.str (a_ (r.take u))]] Z aZ Z Z Z Z Z R_)<|Cp [905] (λH1 s=>by exact bW (ps:=[[.str (a_ (r.take u))]]) Z aZ sZ Z ((s _ Z).trans Z) Z Z Z (cY _) Z R_ (m:=1) Z X Z (gB _ (a_ (r.take u))))<|x_ aA<|x_ aA<|x_ (by exact bP (l:=u) (h:=T (a_ r)) Z U_ Z Z Z X (h_ _) y)<|Cr [905] (λ_ _=>aJ)<|x_ aJ<|bG<|Kr ?_;refine⟨r.drop u,E++[a_ (r.take u)],⟨by rw[q6,P];omega,?_⟩,by rw[q6];omega,?_⟩
  .rw[hR,k];cases qC (r.drop u)with
   |none=>rfl
   |some z=>simp
  dsimp only;rw[P];exact L_
 have F:l=[]:=length_eq_zero_iff.1 (J_ J);rw[hR,F,PZ];refine aP<|O aA<|Y aJ<|V aJ<|aC ?_;refine fO (H':=[]) (.inr Z) Z (aI Z) (aI Z) (Fin.st2J (E++[]) (bv N) Z Z (by rw[append_nil]) (by rw[append_nil]) H_) ?_;exact Qq
structure GoodP(p:l8):Prop where
 pre:qW p.pre=N
 cnt:p.cnt<1000000
 sum:m6 p.sum=N
 sml:p.cnt<=16->C p.ids=p.cnt/\A4 p.pre p.ids=N/\uI p.ids=p.sum
 big:16<p.cnt->p.ids=[]
theorem Kd(h:GoodP p)(n:Nat)(R:List B_):VB (n+1) (gP p++R)=(VB n R).map (p::·):=by
 have ⟨a,c,s,l⟩:=p;have ⟨D,E,F,G,H⟩:=h;have I:eT (aV (c:Int))=(c:Int):=G3 X (by simp only at E;omega);simp only at D E F G H;show VB (n+1) (a::aV (c:Int)::s::(l++R))=_;rw[VB,b6 (by rw[D,I,F,decide_eq_true X];rfl),I,l_];by_cases J:c<=16
 .have ⟨e1,e2,e3⟩:=G J;have B:(l++R).take c=l:=take_left' e1;have K:(l++R).drop c=R:=drop_left' e1;rw[b6 X,b6 ⟨by rw[j8];omega,by rw[B];exact e2,by rw[B];exact e3⟩,B,K]
 obtain rfl:=H X;rw[a8 X];rfl
theorem QC(n:Nat):VB n []=A []:=by cases n<;>rfl
theorem wi:∀(P:List l8) (n:Nat),(∀p∈P,GoodP p)->C P<=n->VB n (P.map gP).flatten=A P
 | [],n,_,_=>QC n
 |p::P,0,_,h=>by simp at h
 |p::P,n+1,h,hn=>by
  rw[List.map_cons,List.flatten_cons,Kd (h p List.mem_cons_self),wi P n (λq B=>h q (List.mem_cons_of_mem _ B)) (by simpa using hn)];rfl
theorem FP:∀ {p:B_} {l:List B_},A4 p l=N->∀x∈l,m6 x=N/\uJ p x=N
 |_,[],_,x,hx=>by cases hx
 |p,[a],h,x,hx=>by
  rw[q_]at hx;subst hx
  simpa[A4]using h
 |p,a::b::r,h,x,hx=>by
  simp only[A4,l6]at h;rcases l9.1 hx with rfl|hx
  .exact h.1.1
  exact FP h.2 x hx
theorem UD(h:GoodP p):∀s∈gP p,T s<1000000:=by
 intro s B;rw[gP,mem_append]at B;rcases B with B|B
 .simp only[l9,q8,or_false]at B;rcases B with rfl|rfl|rfl
  .have:=h.pre;rw[qW,l6,j0]at this;omega
  .have:=oE (n:=(p.cnt:Int)) X (by have:=h.cnt;omega);omega
  have:=iW h.sum;omega
 by_cases D:p.cnt<=16
 .have:=iW ((FP (h.sml D).2.1 s B).1);omega
 rw[h.big X]at B;cases B
theorem Bx(P:List l8)(h:∀p∈P,GoodP p)(F:C P<1000000):wB (sU (P.map gP))=P:=by
 have B:∀s∈eR::aV (C (P.map gP):Int)::(P.map gP).flatten,T s<1000000:=by
  intro s B;rcases l9.1 B with rfl|B
  .decide
  rcases l9.1 B with rfl|B
  .have:=oE (n:=(C (P.map gP):Int)) X (by rw[g_];omega);omega
  have ⟨q,H,E⟩:=mem_flatten.1 B;obtain ⟨p,G,rfl⟩:=mem_map.1 H;exact UD (h p G) s E
 have D:C P<=C ((P.map gP).flatten):=by
  clear B h F
  induction P with
  |nil=>exact h_ _
  |cons p P I=>rw[map_cons,flatten_cons,j8,j6,gP,j8];simp only[j6,length_nil];omega
 rw[wB,sU,cJ,uR _ B];show (if eR=eR then(match VB _ _ with|some Q=>if(C Q:Int)=eT _ then Q else[]|none=>[])else[])=_;rw[b6 Z,wi P _ h D];show (if(C P:Int)=eT (aV (C (P.map gP):Int))then P else[])=P;rw[G3 X (by rw[g_];omega),g_,b6 rfl]
theorem nj(L:List B_)(h:∀s∈L,m6 s=N)(B:L≠[]):vS (lC (L.map λs=>[s]))=L:=by
 have e:(L.map λs=>[s]).flatten=L:=by clear h B;induction L with|nil=>rfl|cons a L E=>rw[map_cons,flatten_cons,E];rfl
 obtain ⟨a,L,rfl⟩:=exists_cons_of_ne_nil B;rw[vS,lC,e,cJ,uR _ (by
  intro s D;rcases l9.1 D with rfl|D
  .decide
  have:=iW (h s D);omega)]
 show (if mJ=mJ/\(a::L).all m6=N then a::L else[])=_;rw[b6 ⟨Z,all_eq_true.2 h⟩]
theorem wm:∀(p x:List UInt8),(∀b∈x,b<103)->p.isPrefixOf x=(!θ (x<p)&&θ (x<p++[103]))
 | [],[],_=>by simp
 | [],b::x,h=>by
  have E:=h b mem_cons_self;have:(b::x)<[103]:=cons_lt_cons_iff.2 (.inl E);simp[this]
 |c::p,[],_=>by simp
 |c::p,b::x,h=>by
  have G:=wm p x λy F=>h y (mem_cons_of_mem _ F);rw[List.isPrefixOf,G,cons_append];simp only[cons_lt_cons_iff];by_cases e:b=c
  .subst e;simp[UInt8.lt_irrefl]
  have D:(c == b)=η:=by simpa using λh=>e h.symm
  rw[D];by_cases B:b<c
  .simp[B]
  simp[B,e]
theorem Wo{b:UInt8}(h:wF b=N):b<103:=by simp only[wF,Bool.or_eq_true,l6,j0]at h;rcases h with⟨_,h⟩|⟨_,h⟩<;>simp only[UInt8.le_iff_toNat_le,UInt8.lt_iff_toNat_lt]at *<;>(have B:(57:UInt8).toNat=57:=rfl;have D:(102:UInt8).toNat=102:=rfl;have E:(103:UInt8).toNat=103:=rfl;omega)
theorem Wh(h:m6 s=N):∀b∈ν (μ s),b<103:=by rw[m6,l6]at h;exact λb B=>Wo (all_eq_true.1 h.2 b B)
def sG:B_:=⟨#[103]⟩
theorem Xt(p:B_)(h:m6 x=N):uJ p x=(!jI x p&&jI x (p++sG)):=by
 rw[uJ,wm _ _ (Wh h),C5,C5];have:(p++sG).data.toList=ν (μ p)++[103]:=by rw[ByteArray.data_append,Array.toList_append];rfl
 rw[this]
theorem TI{α:Type}(a b:α->Bool):∀(l:List α),l.Pairwise (λx y=>(a y=N->a x=N)/\(b y=N->b x=N))->(∀x∈l,a x=N->b x=N) ->
  (l.take (l.findIdx λx=>!b x)).drop (l.findIdx λx=>!a x)=l.filter λx=>!a x&&b x
 | [],_,_=>rfl
 | x :: r, h, hab => by
  rw[List.pairwise_cons]at h;have H:=TI a b r h.2 λy B=>hab y (mem_cons_of_mem _ B);rw[findIdx_cons,findIdx_cons];cases E:a x with
  |true =>
   have D:=hab x mem_cons_self E;rw[D];simp only[Bool.not_true,cond_false,take_succ_cons,drop_succ_cons];rw[H,filter_cons_of_neg (by simp[E])]
  | false =>
   have F:∀y∈r,a y=η:=λy B=>by
    cases e:a y with
    |false=>rfl
    |true=>have:=(h.1 y B).1 e;rw[E]at this;cases this
   have I:(r.findIdx λy=>!a y)=0:=by
    cases r with
    |nil=>rfl
    |cons y r=>rw[findIdx_cons,F y mem_cons_self];rfl
   rw[I,drop_zero]at H;cases D:b x with
   |true =>
    simp only[Bool.not_true,Bool.not_false,cond_false,cond_true,take_succ_cons,drop_zero];rw[H,filter_cons_of_pos (by simp[E,D])]
   | false =>
    have G:∀y∈r,b y=η:=λy B=>by
     cases e:b y with
     |false=>rfl
     |true=>have:=(h.1 y B).2 e;rw[D]at this;cases this
    simp only[Bool.not_false,cond_true,take_zero,drop_zero];rw[filter_eq_nil_iff.2];intro y B;rcases l9.1 B with rfl|B
    .simp[D]
    simp[G y B]
abbrev zT(l:List B_):Prop:=l.Pairwise λx y=>jI x y=N
theorem rW(B:jI a b=N)(D:jI b c=N):jI a c=N:=by rw[C5,j0]at *;exact List.lt_trans B D
theorem vl(x p q:B_)(h:jI x p=N):jI x (p++q)=N:=by
 rw[C5,j0]at *;rw[ByteArray.data_append,Array.toList_append];generalize ν (μ x)=a,ν (μ p)=b,ν (μ q)=c at *
 induction b generalizing a with
 |nil=>exact absurd h (not_lt_nil a)
 | cons y b ih =>
  cases a with
  |nil=>exact nil_lt_cons _ _
  |cons z a =>
   rw[cons_append];rcases cons_lt_cons_iff.1 h with h2|⟨e,h2⟩
   .exact cons_lt_cons_iff.2 (.inl h2)
   exact cons_lt_cons_iff.2 (.inr ⟨e,ih _ h2⟩)
theorem Gy(ids:List B_)(p:B_)(E:zT ids)(D:∀x∈ids,m6 x=N):(ids.take (wT id ids (p++sG))).drop (wT id ids p)=gC ids p:=by rw[wT,wT,gC];show (ids.take (ids.findIdx λx=>!jI x (p++sG))).drop (ids.findIdx λx=>!jI x p)=_;rw[TI (λx=>jI x p) (λx=>jI x (p++sG)) ids (E.imp λh=>⟨λB=>rW h B,λB=>rW h B⟩) λx _ h=>vl x p sG h];exact filter_congr λx F=>(Xt p (D x F)).symm
def ER(t:B_):Option B_:=if(dP (ν (μ t))).2=0 then A (H9 (dP (ν (μ t))).1)else ζ
def lS(a:List (B_×B_))(t:B_):List (B_×B_):=match ER t with
 |none=>a
 |some i=>if a.any (λp=>θ (p.1=i))=N then a else a++[(i,t)]
def jX(l:List B_):List (B_×B_):=l.foldl lS []
def fL(l:List B_):List B_:=jT ((jX l).map Prod.fst)
def jF(o:List (B_×B_))(i:B_):B_:=((o.find? λp=>θ (p.1=i)).map Prod.snd).getD a6
def gX(ids s:List B_)(i:B_):List B_:=if θ (i∈ids)&&!θ (i∈s)then s++[i]else s
structure GRep where
 sent:List B_
 wants:List (List B_)
 offers:List (List B_)
def A5:List B_:=[48,49,50,51,52,53,54,55,56,57,97,98,99,100,101,102].map λb=>⟨#[b]⟩
def nL(ids:List B_)(r:GRep)(p:l8):GRep :=if p.cnt<=16 then⟨((gC ids p.pre).filter λi=>!θ (i∈p.ids)).foldl (gX ids) r.sent,r.wants++(p.ids.filter λi=>!θ (i∈ids)).map (λi=>[i]),r.offers⟩
 else if p.cnt=(dC ids p.pre).cnt/\p.sum=(dC ids p.pre).sum then r
 else if(dC ids p.pre).cnt<=16 then⟨r.sent,r.wants,r.offers++[gP (dC ids p.pre)]⟩
 else⟨r.sent,r.wants,r.offers++A5.map λd=>gP (dC ids (p.pre++d))⟩
def xI(ids:List B_)(t:B_):GRep:=(wB t).foldl (nL ids) ⟨(vS t).foldl (gX ids) [],[],[]⟩
def dk(J0:List (List B_)->B_)(l:List (List B_)):Nat->Nat->Nat
 |0,n=>n
 |f+1,n=>if n<C l/\T (J0 (l.take (n+1)))<=18000 then dk J0 l f (n+1)else n
def mm(J0:List (List B_)->B_):Nat->List (List B_)->List B_
 |0,_=>[]
 |f+1,l=>if l=[]then[]else J0 (l.take (dk J0 l (C l) 1))::mm J0 f (l.drop (dk J0 l (C l) 1))
def VC(J0:List (List B_)->B_)(l:List (List B_)):List B_:=mm J0 (C l) l
def BD(B:List B_)(t:B_):List B_ :=(xI (fL B) t).sent.map (jF (jX B))++(VC lC (xI (fL B) t).wants++VC sU (xI (fL B) t).offers)
theorem Bo(l:List B_)(t:B_):jX (l++[t])=lS (jX l) t:=by rw[jX,foldl_append];rfl
theorem Z6(J0:List (List B_)->B_)(l:List (List B_)):∀f n,n<=dk J0 l f n
 |0,n=>h_ n
 |f+1,n=>by
  rw[dk]
  split
  .exact Nat.le_trans (Nat.le_succ n) (Z6 J0 l f (n+1))
  exact h_ n
theorem Bn(l:List B_):((jX l).map Prod.fst).Nodup:=by
 have h:∀(l:List B_) (a:List (B_×B_)),(a.map Prod.fst).Nodup->((l.foldl lS a).map Prod.fst).Nodup:=by
  intro l
  induction l with
  |nil=>exact λa h=>h
  | cons t l ih =>
   intro a h;rw[foldl_cons];refine ih _ ?_;rw[lS];cases ER t with
   |none=>exact h
   |some i =>
    simp only
    split
    .exact h
    next hi =>
    rw[map_append,nodup_append];refine⟨h,H_,?_⟩;intro x E y B e;simp only[map_cons,map_nil,q_]at B;subst B e;obtain ⟨p,D,rfl⟩:=mem_map.1 E;exact hi (any_eq_true.2 ⟨p,D,H_⟩)
 exact h l [] H_
theorem Us(l:List B_)(i:B_):i∈(jX l).map Prod.fst↔∃t∈l,ER t=A i:=by
 have h:∀(l:List B_) (a:List (B_×B_)),i∈(l.foldl lS a).map Prod.fst↔i∈a.map Prod.fst\/∃t∈l,ER t=A i:=by
  intro l
  induction l with
  |nil=>intro a;simp
  | cons t l ih =>
   intro a;rw[foldl_cons,ih];have E:i∈(lS a t).map Prod.fst↔i∈a.map Prod.fst\/ER t=A i:=by
    rw[lS];cases e:ER t with
    |none=>simp
    | some j =>
     simp only
     split
     .next hj =>
      have ⟨p,D,B⟩:=any_eq_true.1 hj;rw[j0]at B;constructor
      .exact .inl
      rintro(h|h)
      .exact h
      obtain rfl:=Option.some.inj h;exact mem_map.2 ⟨p,D,B⟩
     simp[eq_comm]
   rw[E,or_assoc];simp
 rw[jX,h];simp
theorem TW(l:List B_)(i:B_):i∈fL l↔∃t∈l,ER t=A i:=by rw[fL,(pQ _).mem_iff,Us]
theorem Aj(l:List B_)(h:l.Nodup):zT (jT l):=by
 have E:(jT l).Nodup:=(pQ l).nodup_iff.2 h;have F:(jT l).Pairwise λx y=>vc x<=vc y:=by
  rw[jT,pairwise_map];refine(pairwise_mergeSort (le:=λ(x y:List UInt8)=>θ (x<=y)) (λa b c B D=>?_) (λa b=>?_) (l.map vc)).imp fun {a b} hab=>?_
  .rw[j0]at *;exact List.le_trans B D
  .simp only[Bool.or_eq_true,j0];exact List.le_total a b
  rw[j0]at hab;exact hab
 refine F.imp₂ (λa b B D=>?_) E;rw[C5,j0];rcases List.le_iff_lt_or_eq.1 B with h|h
 ·exact h
 exact absurd (by rw[<-wv a,<-wv b,h]) D
theorem qX(l:List B_):zT (fL l):=Aj _ (Bn l)
theorem RK{r}(h:(mW r).2=0):iI r=N:=by
 by_cases a:iI r=N
 .exact a
 rw[mW,a8 a]at h;cases h
theorem Mt(h:ER t=A i):m6 i=N:=by
 rw[ER]at h
 split at h
 .next h0 =>
  obtain rfl:=Option.some.inj h;rw[H9,b6 (RK (by rw[KT h0]))];exact AM _
 cases h
theorem rp(l:List B_):∀x∈fL l,m6 x=N:=λx B=>by
 have ⟨t,_,h⟩:=(TW l x).1 B;exact Mt h
theorem FQ(l:List B_):C (fL l)<=C l:=by
 rw [fL,jP,g_];have h:∀ (l:List B_) (a:List (B_×B_)),C (l.foldl lS a)<=C a+C l:=by
  intro l
  induction l with
  |nil=>exact λa=>h_ _
  | cons t l ih =>
   intro a;rw[foldl_cons,j6];refine Nat.le_trans (ih _) ?_;have:C (lS a t)<=C a+1:=by
    rw[lS];cases ER t with
    |none=>exact le_succ _
    |some i =>
     simp only
     split
     .exact le_succ _
     rw[j8];exact h_ _
   omega
 have:=h l []
 simpa[jX]using this
theorem E6(s:B_):jI s s=η:=by rw[C5,n_];exact List.lt_irrefl _
theorem IP:∀(a b:List B_),zT a->zT b->(∀x,x∈a↔x∈b)->a=b
 | [],[],_,_,_=>rfl
 | [],y::b,_,_,h=>by have:=(h y).2 mem_cons_self;cases this
 |x::a,[],_,_,h=>by have:=(h x).1 mem_cons_self;cases this
 | x::a,y::b,ha,hb,h=>by
  have B:=pairwise_cons.1 ha;have D:=pairwise_cons.1 hb;have e:x=y:=by
   rcases l9.1 ((h x).1 mem_cons_self)with e|h1
   .exact e
   rcases l9.1 ((h y).2 mem_cons_self)with e|h2
   .exact e.symm
   have:=rW (B.1 y h2) (D.1 x h1);rw[E6]at this;cases this
  subst e;rw[IP a b B.2 D.2 λz=>?_];constructor
  .intro E;rcases l9.1 ((h z).1 (mem_cons_of_mem _ E))with e|h1
   .have:=B.1 z E;rw[e,E6]at this;cases this
   exact h1
  intro E;rcases l9.1 ((h z).2 (mem_cons_of_mem _ E))with e|h1
  .have:=D.1 z E;rw[e,E6]at this;cases this
  exact h1
theorem Wm{a b:List B_}(h:∀t,t∈a↔t∈b):fL a=fL b :=IP _ _ (qX a) (qX b) λx=>by rw[TW,TW];simp only[h]
theorem To(h:zT ids)(p:B_):zT (gC ids p):=h.sublist filter_sublist
theorem xp:∀(p:B_) (l:List B_),zT l->(∀x∈l,m6 x=N/\uJ p x=N)->A4 p l=N
 |_,[],_,_=>rfl
 |p,[x],_,h=>by
  obtain ⟨a,b⟩:=h x mem_cons_self;rw[A4,a,b];rfl
 |p,x::y::r,B,h=>by
  have ⟨a,b⟩:=h x mem_cons_self;have B:=pairwise_cons.1 B;rw[A4,a,b,B.1 y mem_cons_self,xp p (y::r) B.2 λz D=>h z (mem_cons_of_mem _ D)];rfl
theorem xZ(I:zT ids)(F:∀x∈ids,m6 x=N){p:B_}(H:qW p=N)(G:C ids<1000000):GoodP (dC ids p):=by
 have B:C (gC ids p)<=C ids:=length_filter_le _ _;refine⟨H,Nat.lt_of_le_of_lt B G,AM _,λD=>?_,λD=>?_⟩
 .have D:C (gC ids p)<=16:=D;have e:(dC ids p).ids=gC ids p:=by rw[dC];exact b6 D
  rw[e];exact⟨Z,xp p _ (To I p) λx E=>by
   rw[gC,mem_filter]at E;exact⟨F x E.1,E.2⟩,Z⟩
 have D:16<C (gC ids p):=D;rw[dC];exact a8 X
theorem P5(ids:List B_):gC ids a6=ids:=filter_eq_self.2 λx _=>rfl
def kE(ids:List B_):B_:=sU [gP (dC ids a6)]
theorem I7(F:zT ids)(D:∀x∈ids,m6 x=N)(E:C ids<1000000):wB (kE ids)=[dC ids a6] :=Bx [dC ids a6] (λp B=>by rw[q_]at B;subst B;exact xZ F D E_ E) (show 1<1000000 by decide)
theorem Ss(L:List (List B_))(h:∀s∈L.flatten,T s<1000000)(D:C L<1000000):qC (sU L).data.toList=A (eR::aV (C L:Int)::L.flatten):=by
 rw[sU,cJ];refine uR _ λs B=>?_;rcases l9.1 B with rfl|B
 .decide
 rcases l9.1 B with rfl|B
 .have:=oE (n:=(C L:Int)) X X;omega
 exact h s B
theorem eg(P:List l8)(h:∀p∈P,GoodP p)(D:C P<1000000):vS (sU (P.map gP))=[]:=by
 rw[vS,Ss _ (λs G=>by
  have ⟨q,F,B⟩:=mem_flatten.1 G;obtain ⟨p,E,rfl⟩:=mem_map.1 F;exact UD (h p E) s B) (by rw[g_];exact D)]
 show (if eR=mJ/\_ then _ else[])=[];rw[a8 λh=>absurd h.1 E_]
theorem Xj(ids:List B_)(r:GRep)(p:B_):nL ids r (dC ids p)=r:=by
 rw[nL];by_cases D:(dC ids p).cnt<=16
 .have hc':C (gC ids p)<=16:=D;have e:(dC ids p).ids=gC ids p:=by rw[dC];exact b6 hc'
  have E:((gC ids (dC ids p).pre).filter λi=>!θ (i∈(dC ids p).ids))=[]:=by
   rw[e];refine filter_eq_nil_iff.2 λx B=>?_;have B:x∈gC ids p:=B;rw[decide_eq_true B];decide
  have F:((dC ids p).ids.filter λi=>!θ (i∈ids))=[]:=by
   rw[e];refine filter_eq_nil_iff.2 λx B=>?_;rw[gC,mem_filter]at B;rw[decide_eq_true B.1];decide
  rw[b6 D,E,F];cases r;simp
 rw[a8 D,b6 ⟨Z,Z⟩]
theorem yg(B D:List B_)(h:∀t,t∈D↔t∈B)(H:C B<1000000):BD D (kE (fL B))=[]:=by
 have E:=FQ B;have G:∀p∈[dC (fL B) a6],GoodP p:=λp F=>by rw[q_]at F;subst F;exact xZ (qX _) (rp _) E_ X
 have e:xI (fL D) (kE (fL B))=⟨[],[],[]⟩:=by
  rw[xI,I7 (qX _) (rp _) X,show vS (kE (fL B))=[]from eg [dC (fL B) a6] G (show 1<1000000 by decide),Wm h];exact Xj _ _ _
 rw[BD,e];rfl
theorem Mo(s:B_)(H:aF):RC 193 [sv s] (bv η) H:=by refine Pu ?_;refine Bd func193 Z ntmps193<|Sz aJ<|O aA<|Y aA<|Y EN<|V aJ<|aC<|Rt ?_;exact⟨H_,Z⟩
theorem OA(l:List B_)(s:B_)(H:aF)(p:C l<2^40)(R:zT l):RC 135 [.pv (aL l),sv s] (.tup [iv (wT id l s:Nat),bv (jo id l s)]) H:=by
 refine Pu ?_;have a:C (l.map S_)=C l:=g_ _;refine Bd func135 Z ntmps135<|O aJ<|V aJ<|O aA<|Y (fJ mR)<|V aJ<|O aA<|Y aJ<|V aJ<|S<|aD<|dU (λ(i j:Nat)=>([(0,.pv (aL l)),(1,sv s),(6,iv (C (l.map S_):Int)),(7,iv (i:Int)),(8,iv (j:Int))],[])) (λi j=>i<=j/\j<=C l/\(∀k,k<i->∀o,l[k]?=A o->jI (id o) s=N)/\∀k,j<=k->∀o,l[k]?=A o->jI (id o) s=η) (λi j=>j - i) 0 (C l) ⟨X,X,X,λk E o B=>?_⟩ ?_ ?_
 .have:=(m_.1 B).1;omega
 .rw[<-a];exact E0
 rintro i j ⟨hij,hj,hlo,hhi⟩;refine S<|O aA<|Y aA<|V cF<|Cn ?_ ?_<;>intro J
 .have G:i<j:=I_ J
  have ⟨g,n⟩:=Wr G;have ⟨m,d⟩:∃m,m=(i+j) / 2:=X_;rw[<-d]at g n;have ⟨o,B⟩:=aR (l:=l) (k:=m) X;have hi:=cC (f:=S_) B;have b:IntKind.u64.wrap ((i:Int)+(j:Int))=((i+j:Nat):Int):=by rw[IntKind.wrap_u64];omega
  have c:IntKind.i64.wrap (((i+j:Nat):Int) / 2)=(m:Int):=by rw[IntKind.wrap_i64];omega
  refine aB<|aD<|O aA<|Y aA<|Y iH<|Y (eO Z underlying3 lM Z b)<|Y (by exact GW Z Z Z X (by simp[IntKind.bits];try omega) Z)<|Y (eO Z lM underlying3 Z c)<|V aJ<|O aA<|Y aA<|Y (jA R5)<|Y (fK N_ (hi:=hi))<|Y aA<|V (kc call186 (xc _ _ _)) ?_;refine Cn ?_ ?_<;>intro K
  .have P:jI o s=N:=K;refine Rd aA<|Y iH<|Da ?_;refine⟨m+1,j,⟨X,X,λk E x I=>?_,hhi⟩,X,E0⟩;by_cases e:k=m
   .subst e;rw[B]at I;cases I;exact P
   exact rW (QY (f:=id) R X I B) P
  have P:jI o s=η:=K;refine Rd aA<|Da ?_;refine⟨i,m,⟨X,X,hlo,λk E x I=>?_⟩,X,E0⟩;by_cases e:k=m
  .subst e;rw[B]at I;cases I;exact P
  cases h:jI (id x) s with
  |false=>rfl
  |true =>
   have:=rW (QY (f:=id) R X B I) h;rw[show jI (id o) s=jI o s from Z,P]at this;cases this
 have W:i=j:=J_ J
 subst W;have L:wT id l s=i:=Md hj hlo (λo B=>hhi i (h_ _) o B);by_cases G:i<C l
 .have ⟨o,B⟩:=aR G;have hi:=cC (f:=S_) B;have D:θ ((i:Int)<(C (l.map S_):Int))=N:=decide_eq_true X;have E:=bz R hlo B (hhi i (h_ _) o B);have E:jo id l s=θ (o=s):=E;rw[L,E];by_cases Q:o=s
  .rw[decide_eq_true Q];have F:AV.pv (.bool (θ (o=s)))=bv N:=by rw[decide_eq_true Q]
   refine aP<|O aA<|Y aA<|Y aA<|Y (cP.eqv (iM Z Z Z) (by rw[D]))<|Y aA<|U aA<|U aA<|U (jA R5)<|U (fK N_ (hi:=hi))<|U aA<|U (cP.eqv (FD Z Z Z) F)<|U aA<|M<|M<|M<|M<|M<|M<|rJ Z Z Z rfl<|rJ Z Z Z Z ?_;exact M<|U cE<|Y cE<|Y aJ<|V aJ<|aC<|Ru<|Qq
  rw[decide_eq_false Q];have F:AV.pv (.bool (θ (o=s)))=bv η:=by rw[decide_eq_false Q]
  exact aP<|O aA<|Y aA<|Y aA<|Y (cP.eqv (iM Z Z Z) (by rw[D]))<|Y aA<|U aA<|U aA<|U (jA R5)<|U (fK N_ (hi:=hi))<|U aA<|U (cP.eqv (FD Z Z Z) F)<|U aA<|U aA<|U aA<|U (jA R5)<|U (fK N_ (hi:=hi))<|U (kc call193 (Mo _ _))<|U aA<|M<|M<|U cE<|U cE<|Y cE<|Y aJ<|V aJ<|aC<|Ru<|Qq
 have D:AV.pv (.bool (θ ((i:Int)<(C (l.map S_):Int))))=bv η:=by rw[decide_eq_false X]
 have E:=Cl (λk E o B=>hlo k X o B);rw[L,E];refine aP<|O aA<|Y aA<|Y aA<|Y (cP.eqv (iM Z Z Z) D)<|Y aA<|M<|M<|M<|M<|M<|M<|M<|rJ Z Z Z rfl<|rJ Z Z Z rfl<|rJ Z Z Z rfl<|rJ Z Z Z rfl<|rJ Z Z Z rfl<|rJ Z Z Z rfl<|rJ Z Z Z rfl<|rJ Z Z Z rfl<|rJ Z Z Z Z ?_;exact M<|Y cE<|Y aJ<|V aJ<|aC<|Ru<|Qq
theorem bu(l:List B_)(s:B_):jo id l s=θ (s∈l):=by
 rw[jo,Bool.eq_iff_iff,any_eq_true,j0];constructor
 .rintro⟨x,hx,he⟩;exact b8 he▸hx
 exact λh=>⟨s,h,decide_eq_true Z⟩
theorem Mz(l:List B_)(s:B_)(H:aF)(D:C l<2^40)(B:zT l):RC 92 [.pv (aL l),sv s] (bv (θ (s∈l))) H:=by refine Pu ?_;rw[<-bu];exact Bd func92 Z ntmps92<|Sz aJ<|O aA<|Y aA<|Y (kc call135 (OA l s _ D B))<|Y aA<|Y dL<|Y dL<|Y aJ<|V aJ<|O aA<|V aJ<|aC<|Rt<|Qq
theorem Me{l:List B_}(p q:B_):wT id l p<=wT id l (p++q):=by
 rw[wT,wT]
 induction l with
 |nil=>exact h_ _
 | cons x l ih =>
  rw[findIdx_cons,findIdx_cons];cases h:jI (id x) p with
  |true =>
   rw[vl (id x) p q h];exact succ_le_succ ih
  |false=>exact k_ _
theorem el(l:List B_)(p:B_)(H:aF)(E:C l<2^40)(B:zT l)(G:∀x∈l,m6 x=N)(R:T p<2^40):RC 80 [.pv (aL l),sv p] (.pv (aL (gC l p))) H:=by
 refine Pu ?_;have P:=TQ id l p;have Q:=TQ id l (p++sG);have F:=Me (l:=l) p sG;have J:C (l.map S_)=C l:=g_ _;have K:=Gy l p B G;have L:((l.map S_).take (wT id l (p++sG))).drop (wT id l p)=(gC l p).map S_:=by rw[<-K,map_drop,map_take]
 have I:=λH=>OA l p H E B;have D:=λH=>OA l (p++sG) H E B;generalize wT id l p=a at *;generalize wT id l (p++sG)=b at *;exact Bd func80 Z ntmps80<|Sz aJ<|O aA<|Y aA<|Y (kc call135 (I _))<|Y aA<|Y dL<|Y dL<|Y aJ<|V aJ<|O aA<|Y aA<|Y (by exact fC Z Z Z (by show T p+1<=9223372036854775807;omega) (r:=p++sG) Z)<|Y (kc call135 (D _))<|Y aA<|Y dL<|Y dL<|Y aJ<|V aJ<|O aA<|Y aA<|Y aA<|Y (eG (l:=a) (h:=b) Z R5 Z (dX l) Z Z F X L)<|V aJ<|aC<|Rt<|Qq
theorem Hv(L:List B_)(h:∀s∈L,T s<1000000):qC (a_ (aO (mJ::L))).data.toList=A (mJ::L):=by
 rw[cJ];exact uR _ λs B=>by
  rcases l9.1 B with rfl|B
  .decide
  exact h s B
theorem Bw(L:List B_)(h:∀s∈L,T s<1000000):wB (lC (L.map λs=>[s]))=[]:=by
 have e:(L.map λs=>[s]).flatten=L:=by clear h;induction L with|nil=>rfl|cons a L B=>rw[map_cons,flatten_cons,B];rfl
 rw[wB,lC,e,Hv L h];cases L with
 |nil=>rfl
 |cons a L =>
  show (if mJ=eR then _ else[])=[];rw[a8 E_]
theorem W7(h:ER t=A i):∃r:j_,t=a_ (aO (jW r))/\T t<=20000:=by
 rw[ER]at h
 split at h
 .next h0 =>
  have B:=KT h0;rw[mW]at B
  split at B
  .split at B
   .exact absurd (congrArg Prod.snd B) (by show ¬ ((2:Int)=0);decide)
   next F =>
   have D:=congrArg Prod.fst B;rw[fU]at D;have D:a_ (aO (jW (dP (ν (μ t))).1))=t:=D;refine⟨(dP (ν (μ t))).1,D.symm,?_⟩;have E:=congrArg ByteArray.size D;rw[cB]at E;omega
  exact absurd (congrArg Prod.snd B) (by show ¬ ((1:Int)=0);decide)
 cases h
theorem OV:∀ {L:List B_} {x:B_},x∈L->T x<=C (aO L)
 | [],x,h=>by cases h
 |a::L,x,h=>by
  rw[gZ,j8,j6,j8,aU];rcases l9.1 h with rfl|h
  .omega
  have:=OV h;omega
theorem Ts(h:ER t=A i):wB t=[]/\vS t=[]:=by
 obtain ⟨r,rfl,F⟩:=W7 h;rw[cB]at F;have B:=uR (jW r) (λs E=>by have:=OV E;omega);have ⟨R,D⟩:∃R,jW r=HL::R:=⟨_,rfl⟩;rw[D]at B |-;constructor
 .rw[wB,cJ,B];cases R with
  |nil=>rfl
  |cons a R =>
   show (if HL=eR then _ else[])=[];rw[a8 E_]
 rw[vS,cJ,B];cases R with
 |nil=>rfl
 |cons a R =>
  show (if HL=mJ/\_ then _ else[])=[];rw[a8 λh=>absurd h.1 E_]
theorem Wn{P:List l8}(h:wB (sU (P.map gP))=P)(B:P≠[]):ER (sU (P.map gP))=ζ:=by
 cases e:ER (sU (P.map gP))with
 |none=>rfl
 |some i=>rw[(Ts e).1]at h;exact absurd h.symm B
theorem Oz(p x:B_):uJ p x=N↔ν (μ p) <+: ν (μ x):=by rw[uJ,isPrefixOf_iff_prefix]
theorem Wp:∀d∈A5,T d=1/\d.data.toList.all wF=N:=by decide +kernel
structure IdS(A_:List B_):Prop where
 srt:zT A_
 dig:∀x∈A_,m6 x=N
 len:C A_<1000000
theorem rn{l:List B_}(h:C l<1000000):IdS (fL l):=⟨qX l,rp l,Nat.lt_of_le_of_lt (FQ l) h⟩
theorem Kk(h:C (gC A_ q)<=16):(dC A_ q).ids=gC A_ q:=b6 h
theorem P6:x∈gC A_ q↔x∈A_/\uJ q x=N:=mem_filter
theorem yT:∀(L:List B_),(∀s∈L,T s<=16)->C (aO L)<=19*C L
 | [],_=>h_ _
 |x::L,h=>by
  have D:=h x mem_cons_self;have E:=yT L λs B=>h s (mem_cons_of_mem _ B);have F:C (decDigits (T x))<=2:=cU (k:=2) X E_;rw[gZ,j8,j6,j8,aU,j6];omega
theorem FO:∀(L:List B_),C L<=C (aO L)
 | []=>h_ _
 |x::L=>by
  have B:=FO L;rw[gZ];simp only[j8,j6];omega
theorem jw(h:GoodP p):∀s∈gP p,T s<=16:=by
 intro s B;rw[gP,mem_append]at B;rcases B with B|B
 .simp only[l9,q8,or_false]at B;rcases B with rfl|rfl|rfl
  .have:=h.pre;rw[qW,l6,j0]at this;exact this.1
  .rw[qG,cB];exact Nat.le_trans (cU (k:=6) h.cnt E_) E_
  exact Nat.le_of_eq (iW h.sum)
 by_cases D:p.cnt<=16
 .exact Nat.le_of_eq (iW ((FP (h.sml D).2.1 s B).1))
 rw[h.big X]at B;cases B
theorem yd(h:GoodP p):C (gP p)<=19:=by
 rw[gP,j8];have:C p.ids<=16:=by
  by_cases B:p.cnt<=16
  .have:=(h.sml B).1;omega
  rw[h.big X];exact k_ _
 simp only[j6,length_nil];omega
theorem Vc(h:GoodP p):T (sU [gP p])<=20000:=by
 rw[sU,cB];refine Nat.le_trans (yT _ λs B=>?_) ?_
 .rcases l9.1 B with rfl|B
  .decide
  rcases l9.1 B with rfl|B
  .exact(by decide +kernel:T (aV ((1:Nat):Int))<=16)
  rw[flatten_cons,flatten_nil,append_nil]at B;exact jw h s B
 rw[j6,j6,flatten_cons,flatten_nil,append_nil];have:=yd h;omega
theorem Gq(h:m6 s=N):T (lC [[s]])<=20000:=by
 rw[lC,cB];refine Nat.le_trans (yT _ λx B=>?_) (by show 19*2<=20000;decide);rcases l9.1 B with rfl|B
 .decide
 have:x=s:=by simpa using B
 rw[this,iW h];decide
theorem Jd{E:List B_}{L:List B_}(D:∀s∈L,m6 s=N)(B:L≠[]):xI E (lC (L.map λs=>[s]))=⟨L.foldl (gX E) [],[],[]⟩:=by rw[xI,Bw L λs F=>by have:=iW (D s F);omega,nj L D B];rfl
def dF(p:l8):List PV:=[.str p.pre,.str p.sum,.int .i64 (p.cnt:Int),aL p.ids]
def C7(P:List l8):PV:=.sl (P.map dF)
theorem KD(p:l8)(H:aF):RC 82 [av (dF p)] (bv (θ ((p.cnt:Int)<=16))) H:=by refine aW.pure ?_ (by simp[dF]) H;exact Bd func82 Z ntmps82<|O (kb 1)<|V aJ<|O (bD FY)<|Y (bU M_)<|Y EQ<|V aJ<|aC<|Rt<|Qq
theorem rh(B:∀x∈A_,m6 x=N):C (aO A_)<=19*C A_:=yT A_ λs D=>Nat.le_of_eq (iW (B s D))
theorem u3{p:Prop}(h:p:=by exact aX Z iS eE Z Z Z Z (by simp only[Zl,S_,dF];rfl) Z):p:=h
theorem l4{p:Prop}(h:p:=by simp only[Zl,S_,dF];rfl):p:=h
theorem gl(l:List B_)(p:B_)(H:aF)(J:IdS l)(b:T p<2^40):RC 35 [.pv (aL l),sv p] (av (dF (dC l p))) H:=by
 refine Pu ?_;have a:=J.len;have I:=λH=>el l p H X J.srt J.dig b;have P:C (gC l p)<=C l:=length_filter_le _ _;have K:=rh (A_:=gC l p) λx c=>J.dig x (P6.1 c).1;have G:=λH=>bg (gC l p) H X;have D:C (gC l p)<=16->dC l p=⟨p,C (gC l p),uI (gC l p),gC l p⟩:=λh=>by rw[dC,b6 h]
 have E:¬ C (gC l p)<=16->dC l p=⟨p,C (gC l p),uI (gC l p),[]⟩:=λh=>by rw[dC,a8 h]
 generalize gC l p=R at I G D E P;generalize dC l p=Q at D E |-;clear K;have L:C (R.map S_)=C R:=g_ _;have W:=λH=>KD ⟨p,C R,uI R,[]⟩ H;refine Bd func35 Z ntmps35<|Sz (kl 4 Fy)<|O aA<|Y aA<|Y (kc call80 (I _))<|V aJ<|O aA<|Y aA<|Y (kc call81 (G _))<|Y aA<|Y (cP.eqv (lI Z mR Z) (show iv (C (R.map S_):Int)=iv (C R:Int)by rw[L]))<|Y (pB aDz)<|Y (kl 6 Fy)<|Uu (jH eE)<|Zz<|S<|O u3<|V (kc call82 (W _)) ?_;refine Cn ?_ ?_<;>intro F
 .have B:C R<=16:=by have:=b8 F;simp only at this;omega
  rw[D B];refine Rd aA<|Y (bD FX)<|Uu (ku sizeOf68)<|Zz<|O u3<|Uu (jH eE)<|Zz<|aC ?_;refine cN (H':=[]) (.inr Z) Z (fG Z iS eE Z Z Z l4 Z) (P_ (r:=av (dF ⟨p,C R,uI R,R⟩))) ?_;exact Qq
 have B:¬ C R<=16:=by have:=b_ F;simp only at this;omega
 rw[E B];refine aB<|O u3<|Uu (jH eE)<|Zz<|aC ?_;refine cN (H':=[]) (.inr Z) Z (fG Z iS eE Z Z Z l4 Z) (P_ (r:=av (dF ⟨p,C R,uI R,[]⟩))) ?_;exact Qq
theorem N3(p:l8)(H:aF)(G:p.cnt<2^40)(I:C p.ids<2^40):RC 36 [av (dF p)] (.pv (aL (gP p))) H:=by
 refine aW.pure ?_ (by simp[dF]) H;have E:C (p.ids.map S_)=C p.ids:=g_ _;have D:3+C p.ids=C (gP p):=by rw[gP,j8];rfl
 refine Bd func36 Z ntmps36<|O (kb 1)<|V aJ<|S<|aN a7<|Cr [1] (λ_ h=>fh N0 h)<|Cr [1] (λ_ h=>lh N_ h)<|Cr [1] (λ_ h=>fh FY h)<|Cr [1] (λ_ h=>lh M_ h)<|x_ (by exact bH Z Z mD Z (qI (p.cnt:Int) X X _))<|Cr [1] (λ_ h=>fh UC h)<|Cr [1] (λ_ h=>lh N_ h)<|Cp [905] (λH1 B=>by exact eQ (id:=905) Z aZ Z Z Z Z (by intro r F;simp only[l9,q8,or_false]at F;rcases F with rfl|rfl|rfl<;>rfl) ((B _ Z).trans Z))<|Cr [1] (λ_ h=>fh FX h)<|Cr [1] (λ_ h=>lh kJ h)<|Cp [905] (λH1 B=>by exact WJ (ob:=⟨0,1,9,bQ [p.pre,aV (p.cnt:Int),p.sum]⟩) (k:=C (gP p)) Z mR aZ sZ Z ((B _ Z).trans Z) Z Z Z Z Z (dX _) E X D (eS _ _)) ?_;refine Cr [905] (λ_ _=>aJ)<|bG<|Kr<|aC ?_;refine cN (H':=[]) (.inr Z) Z (aI Z) (Fin.fz (id:=905) (ob:=⟨1,1,9,bQ (gP p)⟩) ((gP p).map S_) Z (dS _) (.osl (gY S_ _)) Z T_ T_) ?_;exact Qq
theorem DP:∀(L:List B_),(∀s∈L,T s<=1000000)->C (aO L)<=1000022*C L
 | [],_=>h_ _
 |x::L,h=>by
  have D:=h x mem_cons_self;have E:=DP L λs B=>h s (mem_cons_of_mem _ B);have F:C (decDigits (T x))<=7:=cU (k:=7) X E_;rw[gZ,j8,j6,j8,aU,j6];omega
theorem jE(L:List (List B_)):∀r∈L.map m8,C r=1:=λr B=>by
 obtain ⟨t,_,rfl⟩:=mem_map.1 B;rfl
theorem wu(L:List (List B_))(H:aF)(I:C L<2^40)(J:C L.flatten<549755813888)(G:C (aO (eR::aV (C L:Int)::L.flatten))<35184372088832):
  RC 34 [.pv (iT L)] (sv (sU L)) H:=by
 refine Pu ?_;have E:C (L.map m8)=C L:=g_ _;have D:=λH=>lF L H I X;have F:([[eR,aV (C L:Int)],L.flatten]:List (List B_)).flatten=eR::aV (C L:Int)::L.flatten:=H_
 have B:=λH=>lF [[eR,aV (C L:Int)],L.flatten] H (by decide:2<2^40) (by rw[F,j6,j6];omega);rw[F]at B;exact Bd func34 Z ntmps34<|Sz aJ<|O aA<|Y (cP.eqv (lI Z iB Z) (show iv (C (L.map m8):Int)=iv (C L:Int)by rw[E]))<|Y (kc mD (qI (C L:Int) X X _))<|Y (aM ([eR,aV (C L:Int)].map S_) Z aZ Z Z Z Z Z (dX _))<|Y aA<|Y (kc call47 (D _))<|Y (aM ([[eR,aV (C L:Int)],L.flatten].map m8) Z uS Z Z Z Z Z (jE _))<|Y (kc call47 (B _))<|Y (kc call78 (X5 _ _ G))<|V aJ<|aC<|Rt<|Qq
theorem aAB(L:List (List B_))(H:aF)(G:C L<2^40)(I:C L.flatten<549755813888)(F:C (aO (mJ::L.flatten))<35184372088832):
  RC 49 [.pv (iT L)] (sv (lC L)) H:=by
 refine Pu ?_;have D:=λH=>lF L H G X;have E:([[mJ],L.flatten]:List (List B_)).flatten=mJ::L.flatten:=H_
 have B:=λH=>lF [[mJ],L.flatten] H (by decide:2<2^40) (by rw[E,j6];omega);rw[E]at B;exact Bd func49 Z ntmps49<|Sz aJ<|O (aM ([mJ].map S_) Z aZ Z Z Z Z Z (dX _))<|Y aA<|Y (kc call47 (D _))<|Y (aM ([[mJ],L.flatten].map m8) Z uS Z Z Z Z Z (jE _))<|Y (kc call47 (B _))<|Y (kc call78 (X5 _ _ F))<|V aJ<|aC<|Rt<|Qq
theorem lu(p x:B_):uJ p x=(θ ((T p:Int)<=(T x:Int))&&θ (x.extract 0 (T p)=p)):=by
 rw[Bool.eq_iff_iff,Oz,l6,j0,j0];constructor
 .intro h;have D:=h.length_le;rw[aU,aU]at D;refine⟨X,nM ?_⟩;have ⟨t,E⟩:=h;rw[gK,drop_zero,<-E,Nat.sub_zero,<-aU p,take_left]
 rintro⟨F,B⟩;rw[<-B,gK,drop_zero];exact take_prefix _ _
theorem og(x p:B_)(H:aF):RC 197 [sv x,sv p] (bv (uJ p x)) H:=by
 refine Pu ?_;have D:=lu p x;refine Bd func197 Z ntmps197<|Sz aJ<|S<|aT (t:=4) (n:=15) (A_:=uJ p x) ?_ ?_
 .all_goals refine Y aA<|Y (gG U_)<|Y aA<|Y (gG U_)<|Y AN<|Dm ?_<;>(refine Sp 10 (λB=>?_) λB=>?_)<;>(first|exact s_|refine M<|M<|M<|M<|M<|M ?_|refine U aA<|U aA<|U (gG U_)<|U (bP (l:=0) (h:=T p) Z U_ Z Z Z (k_ _) (I_ B) Z)<|U aA<|U vT ?_)<;>refine Y cE<|Da ?_<;>exact Gj (h:=by rw[D];(rw[B];rfl))
 exact aC<|Rt<|Qq
theorem jn(x p:B_)(H:aF):RC 139 [sv x,sv p] (bv (uJ p x)) H:=by refine Pu ?_;exact Bd func139 Z ntmps139<|Sz aJ<|O aA<|Y aA<|Y (kc call197 (og _ _ _))<|V aJ<|aC<|Rt<|Qq
theorem rj(s:B_)(H:aF)(I:T s<2^40):RC 90 [sv s] (bv (qW s)) H:=by
 refine Pu ?_;have B:=λH=>vb s I H;have D:=ep (ν (μ s));generalize Lib.trimS (ν (μ s)) (ν (μ zd))=t at B D;have G:qW s=(θ ((T s:Int)<=16)&&θ ((⟨t.toArray⟩:B_)=a6)):=by
  rw[qW];congr 1
  .exact decide_eq_decide.2 X
  have F:((⟨t.toArray⟩:B_)=a6)↔t=[]:=by
   constructor
   .intro h;have:=congrArg (λb:B_=>ν (μ b)) h
    simpa using this
   intro h;rw[h]
  cases E:s.data.toList.all wF with
  |true=>exact(decide_eq_true (F.2 (D.2 E))).symm
  |false=>exact(decide_eq_false (λh=>by rw[D.1 (F.1 h)]at E;cases E)).symm
 clear D;refine Bd func90 Z ntmps90<|Sz aJ<|S<|aT (t:=2) (n:=10) (A_:=qW s) ?_ ?_
 .all_goals refine Y aA<|Y (gG U_)<|Y EQ<|Dm ?_<;>(refine Sp 6 (λJ=>?_) λJ=>?_)<;>(first|exact s_|refine M<|M<|M ?_|refine U aA<|U (kc call74 (B _))<|U vT ?_)<;>refine Y cE<|Da ?_<;>exact Gj (h:=by(rw[G,J];rfl))
 exact aC<|Rt<|Qq
theorem TU(p:B_):∀(l:List B_),A4 p l=N↔∀(k:Nat) (x:B_),l[k]?=A x->(m6 x=N/\uJ p x=N)/\∀(j:Nat) (y:B_),k=j+1->l[j]?=A y->jI y x=N
 | []=>⟨λ_ k x h=>by simp at h,λ_=>rfl⟩
 | [a]=>by
  rw[A4,l6];constructor
  .intro h k x B;cases k with
   |zero=>cases B;exact⟨h,λj y e=>by omega⟩
   |succ k=>simp at B
  exact λh=>(h 0 a Z).1
 | a::b::r=>by
  rw[A4,l6,l6,l6,TU p (b::r)];constructor
  .rintro⟨⟨h1,h2⟩,h3⟩ k x B;cases k with
   |zero=>cases B;exact⟨h1,λj y e=>by omega⟩
   |succ k =>
    obtain ⟨E,F⟩:=h3 k x B;refine⟨E,λj y e D=>?_⟩;obtain rfl:k=j:=X
    cases k with
    |zero=>cases B;cases D;exact h2
    |succ k=>exact F k y Z D
  intro h;refine⟨⟨(h 0 a Z).1,(h 1 b Z).2 0 a Z Z⟩,λk x B=>?_⟩;have ⟨E,F⟩:=h (k+1) x B;exact⟨E,λj y e D=>F (j+1) y X D⟩
def AX(p:l8):Bool:=A4 p.pre p.ids&&(!θ ((p.cnt:Int)<=16)||θ (uI p.ids=p.sum))
theorem Tq(p:l8)(H:aF)(hl:C p.ids<1000000)(hs:∀s∈p.ids,T s<1000000):RC 91 [av (dF p)] (bv (AX p)) H:=by
 refine aW.pure ?_ (by simp[dF]) H;have δ:C (p.ids.map S_)=C p.ids:=g_ _;have d:=λH=>KD p H;have D:=TU p.pre p.ids;rw[AX];generalize A4 p.pre p.ids=I at D |-;have w:C (aO p.ids)<35184372088832:=by
  have h:=DP p.ids λs ρ=>Nat.le_of_lt (hs s ρ);have:1000022*C p.ids<=1000022*1000000:=mul_le_mul_left _ X;omega
 have τ:=λH=>bg p.ids H w;refine Bd func91 Z ntmps91<|O (kb 1)<|V aJ<|S<|O (bD FX)<|Y (bU kJ)<|Y (fJ mR)<|V aA<|aD<|bC (σ:=Nat) (λk=>([(1,.ref 1 0 0 0),(6,.pv (aL p.ids)),(7,iv (C (p.ids.map S_):Int)),(8,iv (k:Int))],[(1,bx 4 70 ((dF p).map .pv))])) (λk=>k<=C p.ids/\∀j x,j<k->p.ids[j]?=A x->(m6 x=N/\uJ p.pre x=N)/\∀(i:Nat) (y:B_),j=i+1->p.ids[i]?=A y->jI y x=N) (λk=>C p.ids - k) 0 ⟨k_ _,λj x h=>by omega⟩ ?_ ?_
 .exact Wk
 rintro k ⟨hk,hall⟩;refine Sz cF<|S<|Cn ?_ ?_<;>intro K
 .have hlt:k<C p.ids:=I_ K
  have ⟨x,E⟩:=aR hlt;have hi:=cC (f:=S_) E;have γ:=hs x (m7 E);have ⟨y,hy⟩:∃y,y=p.ids.getD (k - 1) a6:=X_;have F:(0:Int)<(k:Int)->p.ids[k - 1]?=A y:=λh=>by
   have ⟨z,G⟩:=aR (l:=p.ids) (k:=k - 1) X;rw[hy,getD_eq_getElem?_getD,G];rfl
  have g:=λh=>cC (f:=S_) (F h);have P:=λH=>X8 x X H;have c:=λH=>jn x p.pre H;have ⟨a,m⟩:∃a,a=m6 x:=X_;have ⟨b,o⟩:∃b,b=uJ p.pre x:=X_;have R:((!a||!b)||(θ ((0:Int)<(k:Int))&&!jI y x))=η->(m6 x=N/\uJ p.pre x=N)/\∀(i:Nat) (z:B_),k=i+1->p.ids[i]?=A z->jI z x=N:=λh=>by
   rw[r6,r6,Bool.not_eq_false',Bool.not_eq_false',m,o]at h;refine⟨h.1,λi z e G=>?_⟩;have q:(0:Int)<(k:Int):=X
   have h2:=h.2;rw[decide_eq_true q,Bool.true_and,Bool.not_eq_false']at h2;have:=F q;rw[show k - 1=i by omega,G]at this;cases this;exact h2
  have Q:((!a||!b)||(θ ((0:Int)<(k:Int))&&!jI y x))=N->I=η:=λh=>by
   cases v:I with
   |false=>rfl
   |true =>
    have ⟨⟨q1,q2⟩,q3⟩:=D.1 v k x E;rw[<-m]at q1;rw[<-o]at q2;rw[q1,q2,Bool.not_true,Bool.or_false,Bool.false_or,l6,j0,r9]at h;have:=q3 (k - 1) y X (F h.1);rw[h.2]at this;cases this
  have ⟨A_,hX⟩:∃A_,A_=((!a||!b)||(θ ((0:Int)<(k:Int))&&!jI y x)):=X_;rw[<-hX]at R Q;rw[<-m]at P;rw[<-o]at c;clear m o;refine aB<|S<|aD<|O aA<|Y (jA R5)<|Y (fK N_ (hi:=hi))<|Y aJ<|V aJ<|S<|aT (t:=36) (n:=27) (A_:=A_) ?_ ?_
  .all_goals refine Y aA<|Y (kc call30 (P _))<|Y iE<|Dm ?_<;>(refine Sp 16 (λJ=>?_) λJ=>?_)<;>(try exact w_)<;>(first|refine M<|M<|M<|M<|M ?_|refine U aA<|U (bD N0)<|U (bU N_)<|U (kc call139 (c _))<|U iE ?_)<;>refine Y cE<|Dm ?_<;>(refine Sp 23 (λr=>?_) λr=>?_)<;>(try exact w_)<;>(first|refine M<|M<|M ?_|refine U aA<|U iZ<|U aA ?_)<;>(first|refine Sp 26 (λB=>?_) λB=>?_|refine kX (t:=26) Z ?_)<;>(try exact w_)<;>(first|refine M ?_|refine Fu ?_|refine U (bD FX) ?_)<;>(first|refine M ?_|refine Fu ?_|refine U (bU kJ) ?_)<;>(first|refine M ?_|refine Fu ?_|refine U aA ?_)<;>(first|refine M ?_|refine Fu ?_|refine U (by exact dV Z Z Z (show ξ.wrap ((k:Int) - 1)=((k - 1:Nat):Int)by have q:=b8 B;rw[lZ X X];omega)) ?_)<;>(first|refine M ?_|refine Fu ?_|refine U (bS Z R5 Z Z X (l_ _) (g (b8 B)) Z) ?_)<;>(first|refine M ?_|refine Fu ?_|refine U (eB Z N_ Z (g (b8 B)) Z) ?_)<;>(first|refine M ?_|refine Fu ?_|refine U aA ?_)<;>(first|refine M ?_|refine Fu ?_|refine U (KY Z Z Z) ?_)<;>(first|refine M ?_|refine U cE ?_)<;>refine V cE ?_<;>exact Gj (h:=by rw[hX];first|(rw[J];rfl)|(rw[J,r];rfl)|(rw[J,r,B];rfl))
  refine Cn ?_ ?_<;>intro L
  .rw[Q L];exact Sz aJ<|aC<|Rt<|Qq
  have W:=R L;refine aB<|Rd iH<|V aA ?_;refine⟨k+1,⟨X,λj z hj G=>?_⟩,X,Wk⟩;by_cases e:j=k
  .subst e;rw[E]at G;cases G;exact W
  exact hall j z X G
 have κ:k=C p.ids:=J_ K
 have u:I=N:=D.2 λj x E=>hall j x (by have:=(m_.1 E).1;omega) E;rw[u,Bool.true_and];refine aP<|S<|lL (t:=2) (n:=12) (A_:=(!θ ((p.cnt:Int)<=16)||θ (uI p.ids=p.sum))) ?_ ?_
 .cases hg41:(!θ ((p.cnt:Int)<=16):Bool)
  .refine aN a7<|Cq u3<|Cq (kc call82 (d _))<|Cq iE<|Cq aA<|Nf (bD FX)<|Nf (bU kJ)<|Nf (kc call81 (τ _))<|Nf (bD UC)<|Nf (bU N_)<|Nf vT<|Cq rD<|Cq aJ<|bG<|Kr ?_;exact⟨Z,⟨_,Z,by rfl⟩,Z,Z,Z⟩
  refine aN a7<|Cq u3<|Cq (kc call82 (d _))<|Cq iE<|Cq aA<|Of<|Of<|Of<|Of<|Of<|Of<|Cq BO<|Cq aJ<|bG<|Kr ?_;exact⟨Z,⟨_,Z,by rfl⟩,Z,Z,Z⟩
 exact aC<|Rt<|Qq
theorem zi(t:B_)(B:T t<2^40)(H:aF):RC 88 [sv t] (bv (oddJ t)) H:=by refine Pu ?_;exact Bd func88 Z ntmps88<|Sz aJ<|O aA<|Y (kc call30 (X8 t B _))<|Y iE<|V aJ<|aC<|Rt<|Qq
theorem tI:∀(n:Nat) (l:List UInt8) (L:List B_),C l<=n->qC l=A L->C L<=C l/\∀s∈L,T s<=C l
 |0,l,L,hn,h=>by
  rw[List.length_eq_zero_iff.1 (Nat.le_zero.1 hn),PZ]at h;cases h;exact⟨k_ _,λs B=>by cases B⟩
 |n+1,l,L,hn,h=>by
  by_cases D:l=[]
  .rw[D,PZ]at h;cases h;exact⟨k_ _,λs B=>by cases B⟩
  by_cases E:rR l=N
  .rw[ZH D E]at h;cases h
  rw[RY D (by simpa using E)]at h;obtain ⟨G,H,rfl⟩:=Option.map_eq_some_iff.1 h;have I:=Oe D;have ⟨J,F⟩:=tI n _ G u5 H;rw[q6]at J F;refine⟨by rw[j6];omega,λs B=>?_⟩;rcases l9.1 B with rfl|B
  .rw[cB,q9];omega
  have:=F s B;omega
def Gs(z:Option (List B_)):Bool:=((!z.isSome||θ ((C ((z.getD []).map S_):Int)<2))||!θ ((z.getD []).headD a6=mJ))||((z.getD []).drop 1).any oddJ
theorem ef(h:Gs (qC (ν (μ t)))=N):vS t=[]:=by
 rw[vS];generalize qC (ν (μ t))=z at *
 match z with
 |none=>rfl
 |some []=>rfl
 |some [a]=>rfl
 |some (o::i::r) =>
  have h:((!N||θ ((C ((o::i::r).map S_):Int)<2))||!θ (o=mJ))||(i::r).any oddJ:=h;show (if o=mJ/\(i::r).all m6=N then _ else _)=_;rw[a8];rintro⟨B,D⟩;rw[decide_eq_true B,MF,D,decide_eq_false (by rw[g_];simp only[j6];omega)]at h;cases h
theorem um(h:Gs (qC (ν (μ t)))=η):vS t=((qC (ν (μ t))).getD []).drop 1:=by
 rw[vS];generalize qC (ν (μ t))=z at *
 match z with
 |none=>cases h
 |some []=>cases h
 |some [a]=>cases h
 |some (o::i::r) =>
  have h:(((!N||θ ((C ((o::i::r).map S_):Int)<2))||!θ (o=mJ))||(i::r).any oddJ)=η:=h;show (if o=mJ/\(i::r).all m6=N then _ else _)=_;rw[r6,r6,Bool.not_eq_false',j0,MF,Bool.not_eq_false']at h;rw[b6 ⟨h.1.2,h.2⟩];rfl
theorem Gp(t:B_)(H:aF)(k:T t<1000000):RC 43 [sv t] (.pv (aL (vS t))) H:=by
 refine Pu ?_;have D:=λH=>ey (ν (μ t)) H v7;rw[fU]at D;have b:=ef (t:=t);have P:=um (t:=t);have F:∀s∈(qC (ν (μ t))).getD [],T s<1000000:=λs G=>by
  cases h:qC (ν (μ t)) with
  |none=>rw[h]at G;cases G
  |some L =>
   rw[h]at G;have:=(tI _ _ L (h_ _) h).2 s G;rw[aU]at this;omega
 have Q:C ((qC (ν (μ t))).getD [])<1000000:=by
  cases h:qC (ν (μ t)) with
  |none=>exact zero_lt_succ _
  |some L =>
   have:=(tI _ _ L (h_ _) h).1;rw[aU]at this;show C L<_;omega
 generalize qC (ν (μ t))=z at D b P F Q;have R:Gs z=(((!z.isSome||θ ((C ((z.getD []).map S_):Int)<2))||!θ ((z.getD []).headD a6=mJ))||((z.getD []).drop 1).any oddJ):=rfl;generalize vS t=W at b P |-;have ⟨o,e⟩:∃o,o=z.isSome:=X_;have ⟨L,c⟩:∃L,L=z.getD []:=X_;rw[<-e,<-c]at D R;rw[<-c]at P F Q;generalize Gs z=A_ at R b P;clear e c;have i:C (L.map S_)=C L:=g_ _;have K:(L.map S_).drop 1=(L.drop 1).map S_:=map_drop.symm;have d:¬ ((C (L.map S_):Int)<2)->(L.map S_)[0]?=A (S_ (L.headD a6)):=λh=>by
  cases L with
  |nil=>exact absurd E_ h
  |cons a L=>rfl
 have g:=λH=>D2 88 (L.drop 1) oddJ u5 (λs G=>dO.fn call88 (zi s (by have:=F s (mem_of_mem_drop G);omega) [])) H;refine Bd func43 Z ntmps43<|Sz aJ<|O aA<|Y (kc call87 (D _))<|Y aA<|Y dL<|Y dL<|Y aJ<|V aJ<|S<|S<|aT (t:=27) (n:=21) (A_:=A_) ?_ ?_
 .all_goals refine Y aA<|Y iE<|Dm ?_<;>(refine Sp 12 (λI=>?_) λI=>?_)<;>(try exact w_)<;>(first|refine M<|M<|M ?_|refine U aA<|U (fJ aE)<|U cF ?_)<;>refine Y cE<|Dm ?_<;>(refine Sp 17 (λB=>?_) λB=>?_)<;>(try exact w_)<;>(first|refine M<|M<|M<|M ?_|refine U aA<|U (bS Z aZ Z Z X (l_ _) (d (b_ B)) Z)<|U (eB Z N_ Z (d (b_ B)) Z)<|U EN ?_)<;>refine Y cE<|Dm ?_<;>(refine Sp 23 (λf=>?_) λf=>?_)<;>(try exact w_)<;>(first|refine M<|M<|M ?_|refine U aA<|U (by exact eG (l:=1) (h:=C (L.map S_)) Z aZ Z (dX L) Z Z (J_ B) (h_ _) (show ((L.map S_).take _).drop 1=(L.drop 1).map S_ by rw[take_length];exact K))<|U (kc call28 (g _)) ?_)<;>refine V cE ?_<;>exact Gj (h:=by rw[R];first|(rw[I];rfl)|(rw[I,B];rfl)|(rw[I,B,show (!θ (L.headD a6=mJ))=_ from f];rfl))
 refine Cn ?_ ?_<;>intro J
 .rw[b J];refine Sz aJ<|aC<|cN (H':=[]) (.inr Z) Z (aI Z) (P_ (r:=.pv (aL []))) ?_;exact Qq
 have E:A_=η:=J;rw[P E];have j:¬ ((C (L.map S_):Int)<2):=λh=>by rw[R,decide_eq_true h,Bool.or_true,Bool.true_or,Bool.true_or]at E;cases E
 exact aB<|O aA<|Y (by exact eG (l:=1) (h:=C (L.map S_)) Z aZ Z (dX L) Z Z X (h_ _) (show ((L.map S_).take _).drop 1=(L.drop 1).map S_ by rw[take_length];exact K))<|V aJ<|aC<|Rt<|Qq
theorem KQ:∀(n m:Nat) (l:List B_),C l<=n->C l<=m->VB n l=VB m l
 |_,_,[],_,_=>by rw[QC,QC]
 |0,_,a::l,h,_=>by simp at h
 |n+1,0,a::l,_,h=>by simp at h
 |n+1,m+1,[a],_,_=>rfl
 |n+1,m+1,[a,b],_,_=>rfl
 |n+1,m+1,a::b::c::r,h1,h2=>by
  simp only[j6]at h1 h2;rw[VB,VB];rw[KQ n m r (by omega) (by omega),KQ n m (r.drop (eT b).toNat) u5 u5]
def SV(l:List B_):Option (List l8):=VB (C l) l
theorem QD:SV []=A []:=rfl
theorem KR{l:List B_}(h:l≠[])(B:C l<3):SV l=ζ:=by
 match l with
 | [a]=>rfl
 | [a,b]=>rfl
 |a::b::c::r=>simp only[j6]at B;omega
theorem Z4(r:List B_)(h:((!qW a||θ (eT b<0))||!m6 c)=N):SV (a::b::c::r)=ζ:=by rw[SV];show VB (C r+2+1) _=_;rw[VB,a8];intro B;rw[l6,l6,j0]at B;rw[B.1.1,B.2,decide_eq_false X]at h;cases h
theorem SU(r:List B_)(h:((!qW a||θ (eT b<0))||!m6 c)=η):SV (a::b::c::r) =
  if eT b<=16 then(if(C r:Int)<eT b then ζ else if AX ⟨a,(eT b).toNat,c,r.take (eT b).toNat⟩=N then(SV (r.drop (eT b).toNat)).map (⟨a,(eT b).toNat,c,r.take (eT b).toNat⟩::·)else ζ)
  else(SV r).map (⟨a,(eT b).toNat,c,[]⟩::·):=by
 rw[r6,r6,Bool.not_eq_false',Bool.not_eq_false',n_]at h;rw[SV];show VB (C r+2+1) _=_;rw[VB,b6 (by rw[h.1.1,h.2,decide_eq_true X];rfl)]
 split
 .next h16 =>
  split
  .next B =>
   rw[a8 X,b6 (by rw[AX,B.2.1,decide_eq_true B.2.2,Bool.or_true];rfl),SV,KQ (C r+2) _ _ u5 (h_ _)]
  next B =>
  split
  .rfl
  next E =>
  rw[a8];intro D;rw[AX,decide_eq_true (show (((⟨a,(eT b).toNat,c,r.take (eT b).toNat⟩:l8).cnt:Nat):Int)<=16 by show ((eT b).toNat:Int)<=16;omega),l6,Bool.not_true,Bool.false_or,j0]at D;exact B ⟨X,D.1,D.2⟩
 rw[SV,KQ (C r+2) _ _ X (h_ _)]
def VZ(z:Option (List B_)):Bool:=(!z.isSome||θ ((C ((z.getD []).map S_):Int)<2))||!θ ((z.getD []).headD a6=eR)
theorem ig(h:VZ (qC (ν (μ t)))=N):wB t=[]:=by
 rw[wB];generalize qC (ν (μ t))=z at *
 match z with
 |none=>rfl
 |some []=>rfl
 |some [a]=>rfl
 |some (o::i::r) =>
  have h:((!N||θ ((C ((o::i::r).map S_):Int)<2))||!θ (o=eR))=N:=h;show (if o=eR then _ else _)=_;rw[a8];intro B;rw[decide_eq_true B,decide_eq_false (by rw[g_];simp only[j6];omega)]at h;cases h
theorem ar(h:VZ (qC (ν (μ t)))=η):∃n r,qC (ν (μ t))=A (eR::n::r)/\wB t=(match SV r with|some P=>if(C P:Int)=eT n then P else[]|none=>[]):=by
 rw[wB];generalize qC (ν (μ t))=z at *
 match z with
 |none=>cases h
 |some []=>cases h
 |some [a]=>cases h
 |some (o::i::r) =>
  have h:((!N||θ ((C ((o::i::r).map S_):Int)<2))||!θ (o=eR))=η:=h;rw[r6,Bool.not_eq_false',j0]at h;rw[h.2];exact⟨i,r,Z,b6 Z⟩
theorem wo(P:List l8):∀r∈P.map dF,C r=4:=λr B=>by
 obtain ⟨p,_,rfl⟩:=mem_map.1 B;rfl
abbrev XM(P:List l8):List (List AV):=Bf (P.map dF)
theorem Bv(t:B_)(H:aF)(ht:T t<1000000):RC 45 [sv t] (.pv (C7 (wB t))) H:=by
 refine Pu ?_;have J:=λH=>ey (ν (μ t)) H v7;rw[fU]at J;have hy:=ig (t:=t);have p:=ar (t:=t);have D:∀s∈(qC (ν (μ t))).getD [],T s<1000000:=λs F=>by
  cases h:qC (ν (μ t)) with
  |none=>rw[h]at F;cases F
  |some L =>
   rw[h]at F;have:=(tI _ _ L (h_ _) h).2 s F;rw[aU]at this;omega
 have w:C ((qC (ν (μ t))).getD [])<1000000:=by
  cases h:qC (ν (μ t)) with
  |none=>exact zero_lt_succ _
  |some L =>
   have:=(tI _ _ L (h_ _) h).1;rw[aU]at this;show C L<_;omega
 generalize qC (ν (μ t))=z at J hy p D w;have R:VZ z=((!z.isSome||θ ((C ((z.getD []).map S_):Int)<2))||!θ ((z.getD []).headD a6=eR)):=rfl;generalize wB t=W at hy p |-;have ⟨o,ho⟩:∃o,o=z.isSome:=X_;have ⟨L,hL⟩:∃L,L=z.getD []:=X_;have hzL:∀e_,z=A e_->L=e_:=λe_ h=>by rw[hL,h];rfl
 rw[<-ho,<-hL]at J R;rw[<-hL]at D w;generalize VZ z=A_ at R hy p;have p:A_=η->∃n r,L=eR::n::r/\W=(match SV r with|some P=>if(C P:Int)=eT n then P else[]|none=>[]):=λh=>by
  have ⟨n,r,e1,Q⟩:=p h;exact⟨n,r,hzL _ e1,Q⟩
 clear ho hL hzL;have h0:¬ ((C (L.map S_):Int)<2)->(L.map S_)[0]?=A (S_ (L.headD a6)):=λh=>by
  cases L with
  |nil=>exact absurd E_ h
  |cons a L=>rfl
 refine Bd func45 Z ntmps45<|Sz aJ<|O aA<|Y (kc call87 (J _))<|Y aA<|Y dL<|Y dL<|Y aJ<|V aJ<|S<|S<|aT (t:=25) (n:=15) (A_:=A_) ?_ ?_
 .all_goals refine Y aA<|Y iE<|Dm ?_<;>(refine Sp 15 (λh15=>?_) λh15=>?_)<;>(try exact w_)<;>(first|refine M<|M<|M ?_|refine U aA<|U (fJ aE)<|U cF ?_)<;>refine Y cE<|Dm ?_<;>(refine Sp 20 (λx=>?_) λx=>?_)<;>(try exact w_)<;>(first|refine M<|M<|M<|M ?_|refine U aA<|U (bS Z aZ Z Z X (l_ _) (h0 (b_ x)) Z)<|U (eB Z N_ Z (h0 (b_ x)) Z)<|U EN ?_)<;>refine V cE ?_<;>exact Gj (h:=by rw[R];first|(rw[h15];rfl)|(rw[h15,x];rfl))
 refine Cn ?_ ?_<;>intro ρ
 .rw[hy ρ];refine Sz aJ<|aC<|cN (H':=[]) (.inr Z) Z (aI Z) (P_ (r:=.pv (C7 []))) ?_;exact Qq
 have ⟨n,I,e1,Q⟩:=p ρ;subst e1;have j:C ((eR::n::I).map S_)=C I+2:=g_ _;have hr0:∀s∈I,T s<1000000:=λs F=>D s (by simp[F]);have G:=λH=>qp n H (by have:=D n H_;omega);generalize eT n=m4 at G Q;simp only[j6]at w;clear R p hy D h0 J;refine aB<|O aA<|Y (bS Z aZ Z Z X (l_ _) (show ((eR::n::I).map S_)[1]?=A (S_ n)from Z) Z)<|Y (eB Z N_ Z (show ((eR::n::I).map S_)[1]?=A (S_ n)from Z) Z)<|Y (kc call89 (G _))<|V aJ<|Sz (cZ (id:=905) (sz:=4) (ty:=70) Z Z Z)<|S<|O aA<|Y (by exact eG (l:=2) (h:=C ((eR::n::I).map S_)) Z aZ Z (dX (eR::n::I)) Z Z X (h_ _) (show (((eR::n::I).map S_).take _).drop 2=I.map S_ by rw[take_length];rfl))<|V aJ<|aD ?_;refine dU (λ(l:List B_) (P:List l8)=>([(3,.pv (aL l)),(5,iv m4),(6,.osl 905 (C P) 0 (C P))],[(905,⟨C P,4,70,XM P⟩)])) (λl P=>C l+C P<=C I/\(∀s∈l,T s<1000000)/\SV I=(SV l).map (P++·)) (λl P=>C l) I [] ⟨h_ _,hr0,by cases SV I<;>rfl⟩ ?_ ?_
 .exact Wk
 rintro l P ⟨hlen,D,hpt⟩;have j:C (l.map S_)=C l:=g_ _;refine S<|O aA<|Y (fJ aE)<|V AN<|Cn ?_ ?_<;>intro κ
 .have h3:3<=C l:=I_ κ
  obtain ⟨a,b,c,r,rfl⟩:∃a b c r,l=a::b::c::r:=by
   match l,h3 with
   |a::b::c::r,_=>exact⟨a,b,c,r,Z⟩
  have B:=SU (a:=a) (b:=b) (c:=c) r;have E:=Z4 (a:=a) (b:=b) (c:=c) r;have ha:=D a H_;have hb:=D b H_;have hc:=D c H_;have hr:∀s∈r,T s<1000000:=λs F=>D s (by simp[F]);simp only[j6]at hlen j;have hnb:=GZ b;have G:=λH=>qp b H X;have i:=λH=>rj a H X;have g:=λH=>X8 c X H;generalize eT b=v at B E G hnb;generalize qW a=pa at B E i;generalize m6 c=jc at B E g;have ⟨y_,y⟩:∃y_,y_=((!pa||θ (v<0))||!jc):=X_;rw[<-y]at B E;have hmr:C (r.map S_)=C r:=g_ _;refine aB<|aD<|S<|aN a7<|x_ aA<|x_ (by exact bS Z aZ Z Z X (l_ _) (show ((a::b::c::r).map S_)[0]?=A (S_ a)from Z) Z)<|x_ (by exact eB Z N_ Z (show ((a::b::c::r).map S_)[0]?=A (S_ a)from Z) Z)<|x_ aA<|x_ (by exact bS Z aZ Z Z X (l_ _) (show ((a::b::c::r).map S_)[1]?=A (S_ b)from Z) Z)<|x_ (by exact eB Z N_ Z (show ((a::b::c::r).map S_)[1]?=A (S_ b)from Z) Z)<|x_ (by exact bH Z Z call89 Z (G _))<|x_ aA<|x_ (by exact bS Z aZ Z Z X (l_ _) (show ((a::b::c::r).map S_)[2]?=A (S_ c)from Z) Z) ?_;refine x_ (by exact eB Z N_ Z (show ((a::b::c::r).map S_)[2]?=A (S_ c)from Z) Z)<|x_ ((pB aDz))<|Cp [7] (λH1 hH=>by exact CT (id:=7) Z Fy Z ((hH _ Z).trans Z))<|Cp [7] (λ_ h=>sa eE h)<|bG<|Kr<|O aA<|Y (by exact eG (l:=3) (h:=C ((a::b::c::r).map S_)) Z aZ Z (dX (a::b::c::r)) Z Z X (h_ _) (show (((a::b::c::r).map S_).take _).drop 3=r.map S_ by rw[take_length];rfl))<|V aJ<|S<|S ?_;refine aT (t:=62) (n:=17) (A_:=y_) ?_ ?_
  .all_goals refine Y (bD N0)<|Y (bU N_)<|Y (kc call90 (i _))<|Y iE<|Dm ?_<;>(refine Sp 52 (λh52=>?_) λh52=>?_)<;>(try exact w_)<;>(first|refine M<|M<|M ?_|refine U (bD FY)<|U (bU M_)<|U cF ?_)<;>refine Y cE<|Dm ?_<;>(refine Sp 57 (λh57=>?_) λh57=>?_)<;>(try exact w_)<;>(first|refine M<|M<|M<|M ?_|refine U (bD UC)<|U (bU N_)<|U (kc call30 (g _))<|U iE ?_)<;>refine V cE ?_<;>exact Gj (h:=by rw[y];first|(rw[h52];rfl)|(rw[h52,h57];rfl))
  refine Cn ?_ ?_<;>intro δ
  .rw[Q,hpt,E δ];refine Sz aJ<|aC<|cN (H':=[]) (.inr Z) Z (aI Z) (P_ (r:=.pv (C7 []))) ?_;exact Qq
  have σ:y_=η:=δ;have B:=B σ;have hv0:0<=v:=by
   rw[σ]at y;have:=y.symm;rw[r6,r6,n_]at this;omega
  obtain ⟨k,rfl⟩:∃k:Nat,v=(k:Int):=⟨v.toNat,X⟩;rw[l_]at B;clear y E G i g;have hsm:=λH=>KD ⟨a,k,c,[]⟩ H;refine aB<|eU (λ(q:List B_×List B_)=>([(3,.pv (aL q.2)),(5,iv m4),(6,.osl 905 (C P) 0 (C P)),(7,.ref 7 0 0 0)],[(7,bx 4 70 [sv a,sv c,iv (k:Int),.pv (aL q.1)]),(905,⟨C P,4,70,XM P⟩)])) (λq=>C q.2<=C r/\C q.1<=C r/\(∀s∈q.1,T s<1000000)/\(∀s∈q.2,T s<1000000)/\SV (a::b::c::r)=if AX ⟨a,k,c,q.1⟩=N then(SV q.2).map (⟨a,k,c,q.1⟩::·)else ζ) ?_ ?_
  .refine O u3<|V (kc call82 (hsm _)) ?_;refine Cn ?_ ?_<;>intro γ
   .have K:(k:Int)<=16:=b8 γ;rw[b6 K]at B;refine S<|O (bD FY)<|Y (bU M_)<|Y aA<|Y (fJ aE)<|V iZ<|Cn ?_ ?_<;>intro β
    .have f:(C r:Int)<(k:Int):=I_ β
     rw[b6 f]at B;rw[Q,hpt,B];refine Sz aJ<|aC<|cN (H':=[]) (.inr Z) Z (aI Z) (P_ (r:=.pv (C7 []))) ?_;exact Qq
    have f:¬ (C r:Int)<(k:Int):=J_ β
    rw[a8 f]at B;refine aB<|aN a7<|x_ aA<|Cr [7] (λ_ h=>fh FY h)<|Cr [7] (λ_ h=>lh M_ h)<|x_ (by exact eG (l:=0) (h:=k) Z aZ Z (dX r) Z Z (k_ _) X (show ((r.map S_).take k).drop 0=(r.take k).map S_ by rw[drop_zero,map_take]))<|x_ aA<|Cr [7] (λ_ h=>fh FY h)<|Cr [7] (λ_ h=>lh M_ h)<|x_ (by exact eG (l:=k) (h:=C (r.map S_)) Z aZ Z (dX r) Z Z X (h_ _) (show ((r.map S_).take _).drop k=(r.drop k).map S_ by rw[take_length,map_drop]))<|Cr [7] (λ_ h=>fh FX h)<|Cp [7] (λ_ h=>su sizeOf68 h)<|x_ aJ<|bG<|Kr ?_;exact⟨(r.take k,r.drop k),⟨by simp only;rw[q6];omega,by simp only;rw[q9];omega,λs F=>hr s (mem_of_mem_take F),λs F=>hr s (mem_of_mem_drop F),B⟩,Wk⟩
   have K:¬ (k:Int)<=16:=b_ γ;rw[a8 K]at B;have u:AX ⟨a,k,c,[]⟩=N:=by rw[AX,decide_eq_false K];rfl
   refine aB ?_;exact⟨([],r),⟨h_ _,k_ _,(λs F=>by cases F),hr,by rw[b6 u];exact B⟩,Wk⟩
  rintro⟨d,q2⟩ ⟨hq2,hq1,hs1,hs2,hq⟩;simp only at hq2 hq1 hs1 hs2 hq;have u:=λH=>Tq ⟨a,k,c,d⟩ H (by simp only;omega) hs1;refine S<|O u3<|Y (kc call91 (u _))<|V iE ?_;refine Cn ?_ ?_<;>intro hc6
  .rw[a8 (by have h:=hc6;intro e;rw[e]at h;cases h)]at hq;rw[Q,hpt,hq];refine Sz aJ<|aC<|cN (H':=[]) (.inr Z) Z (aI Z) (P_ (r:=.pv (C7 []))) ?_;exact Qq
  rw[b6 (pE hc6)]at hq;refine aB<|Rd aA<|Y u3<|Y (aM [dF ⟨a,k,c,d⟩] Z aAR Z Z Z Z Z (wo [⟨a,k,c,d⟩]))<|Y (by exact bW (k:=C P+1) (ps:=[dF ⟨a,k,c,d⟩]) Z aAR aFK Z Z Z Z Z (by rw[KM,g_]) Z (wo [⟨a,k,c,d⟩]) (m:=1) Z X Z (rows':=XM (P++[⟨a,k,c,d⟩])) (by rw[XM,XM,map_append,Bf,Bf,map_append];rfl))<|Da ?_;have hnl:C (P++[(⟨a,k,c,d⟩:l8)])=C P+1:=by rw[j8];rfl
  refine⟨q2,P++[⟨a,k,c,d⟩],⟨by rw[hnl];omega,hs2,?_⟩,by simp only[j6];omega,?_⟩
  .rw[hpt,hq];cases SV q2 with
   |none=>rfl
   |some z=>simp
  dsimp only;rw[hnl];exact L_
 have h3:C l<3:=J_ κ
 have hPl:C (XM P)=C P:=by rw[KM,g_]
 have ⟨A_,R⟩:∃A_,A_=(!θ ((C P:Int)=m4)||θ ((0:Int)<(C l:Int))):=X_;have τ:A_=N->W=[]:=λh=>by
  rw[Q,hpt];cases l with
  |nil =>
   rw[QD];show (if(C (P++[]):Int)=m4 then _ else _)=_;rw[a8];intro e;rw[append_nil]at e;rw[R,decide_eq_true e]at h;cases h
  |cons a l=>rw[KR H_ h3];rfl
 have hNo:A_=η->W=P:=λh=>by
  rw[R,r6,Bool.not_eq_false',j0,n_]at h;have hl0:l=[]:=length_eq_zero_iff.1 X;rw[Q,hpt,hl0,QD];show (if(C (P++[]):Int)=m4 then P++[]else[])=P;rw[append_nil,b6 h.1]
 refine aP<|S<|S<|aT (t:=94) (n:=10) (A_:=A_) ?_ ?_
 ·all_goals refine Y aA<|Y (by exact dQ Z underlying86 Z Z Z)<|Y aA<|Y yQ<|Dm ?_<;>(refine Sp 90 (λh90=>?_) λh90=>?_)<;>(try exact w_)<;>(first|refine M<|M<|M ?_|refine U aA<|U (fJ aE)<|U iZ ?_)<;>refine V cE ?_<;>exact Gj (h:=by rw[R,<-j];(rw[h90];rfl))
 refine Cn ?_ ?_<;>intro hc7
 .rw[τ hc7];refine Sz aJ<|aC<|cN (H':=[]) (.inr Z) Z (aI Z) (P_ (r:=.pv (C7 []))) ?_;exact Qq
 rw[hNo hc7];refine aB<|O aA<|V aJ<|aC ?_;refine cN (H':=[]) (.inr Z) Z (aI Z) (Fin.slice0 (id:=905) (P.map dF) Z Z Z (g_ _)) ?_;exact Qq
end Go.Proofs.C
section
namespace Go.Proofs
open Go.RowKit Go.Sort Go.Shelf
def aGJ:Go.Shelf.Ren:=⟨λ|6=>86|8=>131|9=>130|19=>189|20=>190|21=>180|22=>181|23=>182|24=>183|25=>184|26=>185|27=>186|28=>187|29=>188|36=>233|31=>234|32=>235|37=>236|38=>237|39=>238|41=>270|n=>n,λ|27=>68|29=>9|3=>3|32=>157|26=>22|0=>0|44=>213|46=>169|4=>4|36=>207|35=>206|41=>166|5=>5|9=>9|53=>241|57=>245|63=>282|64=>283|n=>n,λ|n=>n⟩
theorem aGQ:Go.Proofs.SlLaysM.n6 φ aGJ:={
  mixed:=by kernel_rfl
  f6:=⟨Tryz.f86.name,E_,Tryz.func86.trans D_⟩
  f8:=Tryz.func131.trans D_
  f9:=⟨Tryz.f130.name,E_,Tryz.func130.trans D_⟩
  f19:=Tryz.func189.trans D_
  f20:=Tryz.func190.trans D_
  f21:=⟨Tryz.f180.name,E_,Tryz.func180.trans D_⟩
  f22:=⟨Tryz.f181.name,E_,Tryz.func181.trans D_⟩
  f23:=⟨Tryz.f182.name,E_,Tryz.func182.trans D_⟩
  f24:=⟨Tryz.f183.name,E_,Tryz.func183.trans D_⟩
  f25:=⟨Tryz.f184.name,E_,Tryz.func184.trans D_⟩
  f26:=⟨Tryz.f185.name,E_,Tryz.func185.trans D_⟩
  f27:=⟨Tryz.f186.name,E_,Tryz.func186.trans D_⟩
  f28:=⟨Tryz.f187.name,E_,Tryz.func187.trans D_⟩
  f29:=⟨Tryz.f188.name,E_,Tryz.func188.trans D_⟩
  f31:=Tryz.func234.trans D_
  f32:=Tryz.func235.trans D_
  f36:=⟨Tryz.f233.name,E_,Tryz.func233.trans D_⟩
  f37:=⟨Tryz.f236.name,E_,Tryz.func236.trans D_⟩
  f38:=⟨Tryz.f237.name,E_,Tryz.func237.trans D_⟩
  f39:=⟨Tryz.f238.name,E_,Tryz.func238.trans D_⟩
  f41:=⟨Tryz.f270.name,E_,Tryz.func270.trans D_⟩
  t0:=EA
  a0:=Tryz.isAgg0
  z0:=Tryz.sizeOf0
  v0:=Tryz.zeroValue0
  t3:=Tryz.underlying3
  a3:=Tryz.isAgg3
  z3:=Tryz.sizeOf3
  v3:=sY
  t4:=fP
  a4:=nU
  z4:=Tryz.sizeOf4
  v4:=jG
  t5:=dG
  a5:=vI
  z5:=cO
  v5:=sX
  t9:=Tryz.underlying9
  a9:=Tryz.isAgg9
  z9:=Tryz.sizeOf9
  v9:=gW
  t26:=aE
  a26:=aG
  z26:=Tryz.sizeOf22
  v26:=wJ
  t27:=mR
  a27:=kJ
  z27:=Tryz.sizeOf68
  v27:=Tryz.zeroValue68
  t29:=Tryz.underlying9
  a29:=Tryz.isAgg9
  z29:=Tryz.sizeOf9
  v29:=gW
  t32:=lM
  a32:=Tryz.isAgg157
  z32:=BH
  v32:=uD
  t35:=Tryz.underlying206
  a35:=Tryz.isAgg206
  z35:=Tryz.sizeOf206
  v35:=Tryz.zeroValue206
  t36:=Tryz.underlying207
  a36:=Tryz.isAgg207
  z36:=Tryz.sizeOf207
  v36:=Tryz.zeroValue207
  t41:=Tryz.underlying166
  a41:=Tryz.isAgg166
  z41:=Tryz.sizeOf166
  v41:=Tryz.zeroValue166
  t44:=Tryz.underlying213
  a44:=Tryz.isAgg213
  z44:=Tryz.sizeOf213
  v44:=Tryz.zeroValue213
  t46:=gT
  a46:=xW
  z46:=vF
  v46:=uC
  t53:=Tryz.underlying241
  a53:=Tryz.isAgg241
  z53:=Tryz.sizeOf241
  v53:=Tryz.zeroValue241
  t57:=Tryz.underlying245
  a57:=Tryz.isAgg245
  z57:=Tryz.sizeOf245
  v57:=Tryz.zeroValue245
  t63:=Tryz.underlying282
  a63:=Tryz.isAgg282
  z63:=Tryz.sizeOf282
  v63:=Tryz.zeroValue282
  t64:=Tryz.underlying283
  a64:=Tryz.isAgg283
  z64:=Tryz.sizeOf283
  v64:=Tryz.zeroValue283}
end Go.Proofs
namespace Go.Proofs.C
open Go.Proofs.Tryz
open Go.Abs Go.Lib
variable{g n:Nat}{H:aF}
theorem Ai(B:List B_){id ty:Nat}(D:H.get id=A ⟨g,1,ty,fN B⟩)(F:n=C B)(E:C B<2^62):
  aW φ 86 [.osl id g 0 n] H (λr H'=>r=.tup []/\H'=(id,⟨g,1,ty,fN (jT B)⟩)::H):=Hx aGQ B D F E
def pM(l:List (B_×PV)):List (B_×AV):=l.map λp=>(p.1,.pv p.2)
abbrev VD(l:List (B_×PV)):Ob:=⟨0,0,C (pM l),sN J9 (pM l)⟩
theorem po:∀(l:List (B_×PV)) (i:B_),zV (pM l) i=(l.find? λp=>θ (p.1=i)).map λp=>.pv p.2
 | [],i=>rfl
 |(k,v)::l,i=>by
  show (if k=i then _ else zV (pM l) i)=_;rw[List.find?_cons];by_cases h:k=i
  .rw[b6 h,decide_eq_true h];rfl
  rw[a8 h,decide_eq_false h];exact po l i
theorem pn:∀ {l:List (B_×PV)} {i:B_} (v:PV),i∉l.map Prod.fst->xM (pM l) i (.pv v)=pM (l++[(i,v)])
 | [],i,v,_=>rfl
 |(k,u)::l,i,v,h=>by
  rw[List.map_cons,l9,not_or]at h;show (if k=i then _ else(k,AV.pv u)::xM (pM l) i (.pv v))=_;rw[a8 λe=>h.1 e.symm,pn v h.2];rfl
theorem eA(l:List (B_×PV)):∀r∈(VD l).rows,∀a∈r,Clo H a:=by
 intro r E a B;have ⟨i,hi⟩:=s8.1 E;obtain ⟨p,D,rfl⟩:=G4.1 hi;rw[pM,r7]at D;obtain ⟨q,_,rfl⟩:=Option.map_eq_some_iff.1 D;simp only[l9,q8,or_false]at B;rcases B with rfl|rfl|rfl
 .exact .pv _
 .exact .pv _
 exact .pv _
instance(l:List (B_×PV)):W_ (H) ((VD l).rows):=⟨eA l⟩
def tM(o:List (B_×B_)):List (B_×PV):=o.map λp=>(p.1,.str p.2)
theorem aAK(o:List (B_×B_)):(tM o).map Prod.fst=o.map Prod.fst:=by rw[tM,map_map];rfl
theorem Hm(o:List (B_×B_))(i:B_):(zV (pM (tM o)) i).getD (sv a6)=sv (jF o i)/\(zV (pM (tM o)) i).isSome=θ (i∈o.map Prod.fst):=by
 rw[po,jF,tM,find?_map];show (Option.map _ ((o.find? λp=>θ (p.1=i)).map _)).getD _=_/\(Option.map _ ((o.find? λp=>θ (p.1=i)).map _)).isSome=_;cases h:o.find? λp=>θ (p.1=i)with
 |none =>
  refine⟨Z,(decide_eq_false λF=>?_).symm⟩;have ⟨p,E,e⟩:=mem_map.1 F;have:=find?_eq_none.1 h p E;exact this (decide_eq_true e)
 |some p =>
  have B:=find?_some h;have D:=mem_of_find?_eq_some h;exact⟨Z,(decide_eq_true (mem_map.2 ⟨p,D,b8 B⟩)).symm⟩
theorem Fin.mirW{H1:aF}{ob:Ob}{o:List (B_×PV)}(f_:List B_)(E:H1.get 711=A ob)(F:ob.g=g)(B:ob.rows=bQ f_)(G:n=C f_)(D:H1.get 710=A (VD o)):
  Fin [] H1 (.agg [.osl 711 g 0 n,.mp 710 0]) [(710,VD o)] (.agg [.pv (aL f_),.mp 710 0]):=by
 subst F G;exact Fin.fz (id:=711) (ob:=ob) (f_.map S_) E (B.trans (dS f_)) (.agg Z (bJ (.osl (gY S_ f_)) (bJ (.same m3) kG))) Z ⟨⟨_,D,Z⟩,eA _,T_⟩ T_
theorem Yu:mX zR:=by have B:qS 0:=⟨E_,E_⟩;exact⟨⟨B,B,B,B,B⟩,⟨E_,E_,E_⟩,⟨E_,λt h=>by cases h⟩,⟨E_,λt h=>by cases h⟩,okZ,E_,E_,⟨E_,λt h=>by cases h⟩,E_,okZ⟩
theorem GU(t:List UInt8):mX (dP t).1/\C (dP t).1.parents<549755813888:=by
 rw[dP]
 split
 .exact⟨Yu,E_⟩
 next h =>
 split
 .exact fp X
 exact⟨Yu,E_⟩
theorem NB{L:List B_}{k:Nat}{t:B_}(h:L[k]?=A t):jX (L.take (k+1))=lS (jX (L.take k)) t:=by rw[dT h,Bo]
theorem QR:fL []=[]:=eq_nil_of_length_eq_zero (le_zero.1 (FQ []))
theorem S2:∀(L:List B_),C (jX L)<=C L:=λL=>by
 have:=FQ L
 rwa [fL,jP,g_]at this
theorem Cc(L:List B_)(hl:C L<1000000)(x:∀t∈L,T t<1000000000):aW φ 42 [.pv (aL L)] [] (λr H'=>r=.agg [.pv (aL (fL L)),.mp 710 0]/\H'=[(710,VD (tM (jX L)))]):=by
 have w:C (L.map S_)=C L:=g_ _;refine Bd func42 Z ntmps42<|Sz (kl 2 aCS)<|O (vZ (id:=710) J9 Z Z)<|Y (pB aDx)<|Y (kl 3 aCS)<|Uu (jH sizeOf80)<|Zz<|S<|S ?_;refine gO.ent (E':=[(0,.pv (aL L)),(2,.ref 2 0 0 0),(3,.ref 3 0 0 0)]) (H':=(711,⟨0,1,9,[]⟩)::(3,bx 2 80 [.osl 711 0 0 0,.mp 710 0])::(710,VD [])::(2,bx 2 80 [.pv (.sl []),.pv .nilm])::[]) ?_ ?_
 .exact (Q_ 711 1 9)
 refine Rd aA<|Y (fJ aE)<|V aA<|aD<|bC (σ:=Nat) (λk=>([(2,.ref 2 0 0 0),(3,.ref 3 0 0 0),(13,.pv (aL L)),(14,iv (C (L.map S_):Int)),(15,iv (k:Int))],[(3,bx 2 80 [.osl 711 (C (jX (L.take k))) 0 (C (jX (L.take k))),.mp 710 0]),(711,⟨C (jX (L.take k)),1,9,bQ ((jX (L.take k)).map Prod.fst)⟩),(710,VD (tM (jX (L.take k)))),(2,bx 2 80 [.pv (.sl []),.pv .nilm])])) (λk=>k<=C L) (λk=>C L - k) 0 (k_ _) ?_ ?_
 .exact L_
 intro k z;refine Sz cF<|S<|Cn ?_ ?_<;>intro P
 .have hlt:k<C L:=I_ P
  have ⟨t,n⟩:=aR hlt;have hi:=cC (f:=S_) n;have y:=x t (m7 n);have K:=λH=>gp (ν (μ t)) v7 H;rw[fU]at K;have J:=GU (ν (μ t));have F:=λH=>xv (dP (ν (μ t))).1 J.1 J.2 H;have B:=NB n;have a:=S2 (L.take k);rw[q9]at a;have E:ER t=if(dP (ν (μ t))).2=0 then A (H9 (dP (ν (μ t))).1)else ζ:=rfl
  generalize dP (ν (μ t))=G at K F E;generalize jX (L.take k)=D at B a |-;rw[lS,E]at B;generalize H9 G.1=I at F B;clear E J;refine aB<|S<|aD<|O (jA aZ)<|Y (fK N_ (hi:=hi))<|V aJ<|O aA<|Y (kc call54 (K _))<|Y aA<|Y dL<|Y dL<|Y (kl 6 dt)<|Uu (jH bL)<|V aJ<|S<|O aA<|V yQ<|Cn ?_ ?_<;>intro Q
  .have hne:G.2≠0:=by have:=Q;intro e;rw[e]at this;exact absurd this E_
   rw[a8 hne]at B;refine aP<|Rd iH<|V aA ?_;refine⟨k+1,X,X,?_⟩;dsimp only;rw[B];exact L_
  have g:G.2=0:=by have:=Q;by_cases e:G.2=0;exact e;rw[decide_eq_false e]at this;cases this
  rw[b6 g]at B;have ⟨u,v⟩:=Hm D I;refine aB<|O (xD cQ bL)<|Y (kc call55 (F _))<|V aJ<|O (bD sf)<|Y (bU isAgg78)<|Y aA<|Y (by exact cP.eqv (H4 (κ:=J9) Z underlying78 U_ Z Z Z Z Z gW (.inl Z)) (show AV.tup [(zV (pM (tM D)) I).getD (sv a6),.pv (.bool (zV (pM (tM D)) I).isSome)]=.tup [sv (jF D I),bv (decide (I∈D.map Prod.fst))]by rw[u,v]))<|Y aA<|Y dL<|Y dL<|Y aJ<|V aJ<|O aA<|V iE<|Cn ?_ ?_<;>intro R
  .have hno:I∉D.map Prod.fst:=b_ (not_not R);have B:jX (L.take (k+1))=D++[(I,t)]:=by
    rw[B];refine a8 λh=>hno ?_;have ⟨p,l,e⟩:=any_eq_true.1 h;exact mem_map.2 ⟨p,l,b8 e⟩
   have b:xM (pM (tM D)) I (sv t)=pM (tM (D++[(I,t)])):=by rw[pn (.str t) (by rw[aAK];exact hno),tM,tM,map_append];rfl
   have q:C (bQ (D.map Prod.fst))=C D:=by rw[cY,g_]
   have j:C (D++[(I,t)])=C D+1:=by rw[j8];rfl
   refine O (bD sf)<|Y (bU isAgg78)<|Y aA<|Y aA<|Uu (by exact zW (κ:=J9) (.inl Z) underlying78 U_ Z Z Z Z Z Z Z b)<|Zz<|Rd (bD JJ)<|Y (bU kJ)<|Y aA<|Y (by exact aM [[.str I]] Z R5 Z Z Z Z Z R_)<|Y (by exact bW (k:=D.length+1) (ps:=[[.str I]]) Z R5 sZ Z Z Z Z Z q Z R_ (m:=1) Z X Z (rows':=bQ ((D++[(I,t)]).map Prod.fst)) (by rw[map_append];exact gB _ I))<|Y (bD JJ)<|Uu (ku sizeOf68)<|Zz<|Rd iH<|V aA ?_;refine⟨k+1,X,X,?_⟩;dsimp only;rw[B,j];exact(cH.wk (Ea<|Ea<|Eb<|Eb<|Eb<|T_) (Hc (by(simp;exact⟨Z,Z⟩))<|Hc (aQ _ _)<|Hc (eA _)<|Hb<|T_) T_)
  have d:I∈D.map Prod.fst:=b8 (pE R);have B:jX (L.take (k+1))=D:=by
   rw[B];have ⟨p,l,e⟩:=mem_map.1 d;exact b6 (any_eq_true.2 ⟨p,l,decide_eq_true e⟩)
  refine aB<|Rd iH<|V aA ?_;refine⟨k+1,X,X,?_⟩;dsimp only;rw[B];exact L_
 have i:k=C L:=J_ P
 subst i;rw[take_length];have s:=S2 L;have c:C ((jX L).map Prod.fst)=C (jX L):=g_ _;have W:fL L=jT ((jX L).map Prod.fst):=rfl;rw[W];refine aP<|O (bD JJ)<|Y (bU kJ)<|V (kc call86 (Ai ((jX L).map Prod.fst) Z c.symm X))<|O (by exact aX Z isAgg80 sizeOf80 Z Z Z Z u0 Z)<|Uu (jH sizeOf80)<|Zz<|aC ?_;refine cN (H':=[(710,VD (tM (jX L)))]) (.inr Z) Z (fG Z isAgg80 sizeOf80 Z Z Z u0 Z) (Fin.mirW (o:=tM (jX L)) (jT ((jX L).map Prod.fst)) Z Z Z (by rw[jP];exact c.symm) Z) ?_;exact Qq
theorem Ls(L:List B_)(D:C L<1000000)(E:∀t∈L,T t<1000000000)(B:H.get 710=ζ):aW φ 42 [.pv (aL L)] H (λr H'=>r=.agg [.pv (aL (fL L)),.mp 710 0]/\H'=(710,VD (tM (jX L)))::H) :=aW.frame (Cc L D E) (λ_ _ h=>by cases h) (λ_ _ h=>by cases h) H_ (λid h=>.inr (by
  by_cases e:id=710
  .rw[e];exact B
  rw[get_cons_other _ _ e]at h;cases h))
theorem ZD(t:B_)(H:aF)(F:T t<1000000000):RC 17 [sv t] (.pv (aL (if(ER t).isSome=N then[t]else[]))) H:=by
 refine Pu ?_;have B:=λH=>gp (ν (μ t)) v7 H;rw[fU]at B;rw[ER];generalize dP (ν (μ t))=G at B |-;refine Bd func17 Z ntmps17<|Sz aJ<|S<|O aA<|Y (kc call54 (B _))<|Y aA<|Y dL<|Y dL<|Y (kl 3 dt)<|Uu (jH bL)<|V aJ<|O aA<|V yQ<|Cn ?_ ?_<;>intro D
 .have hne:G.2≠0:=by have:=D;intro e;rw[e]at this;exact absurd this E_
  rw[a8 hne];refine Sz aJ<|aC<|cN (H':=[]) (.inr Z) Z (aI Z) (P_ (r:=.pv (aL []))) ?_;exact Qq
 have E:G.2=0:=by have:=D;by_cases e:G.2=0;exact e;rw[decide_eq_false e]at this;cases this
 rw[b6 E];exact aB<|O aA<|Y (aM [[.str t]] Z aZ Z Z Z Z Z R_)<|V aJ<|aC<|Rt<|Qq
end Go.Proofs.C
end
namespace Go.Proofs.C
open Go.Proofs.Tryz
open Go.Abs Go.Lib
def Fp(s:B_)(k:Nat):Bool:=!(θ (bA s k<48)||θ (57<bA s k))
def Z1(s:B_):Nat->Int
 |0=>0
 |k+1=>10*Z1 s k+(bA s k - 48)
def KL(s:B_):Int:=if T s=0 then -1 else if(List.range (T s)).all (Fp s)&&θ (T s<=7)then Z1 s (T s) else -1
theorem vu{s}:∀ {k},(∀j,j<k->Fp s j=N)->0<=Z1 s k/\Z1 s k<10 ^ k
 |0,_=>⟨Int.le_refl 0,by show 0<1;omega⟩
 |k+1,h=>by
  obtain ⟨B,D⟩:=vu (k:=k) λj E=>h j X;have a:=h k X;rw[Fp,r9,r6,n_,n_]at a;rw[Z1];omega
theorem aCy{k}(h:k<=7):(10:Int) ^ k<=10000000:=by
 have a:k=0\/k=1\/k=2\/k=3\/k=4\/k=5\/k=6\/k=7:=X
 rcases a with rfl|rfl|rfl|rfl|rfl|rfl|rfl|rfl<;>decide
theorem XB(s:B_)(H:aF)(E:T s<2^40):RC 163 [sv s] (iv (KL s)) H:=by
 refine Pu<|Bd func163 Z ntmps163<|Sz aJ<|Sz aJ<|S<|Sz aJ<|aD<|bC (σ:=Nat) (λk=>([(0,sv s),(3,iv (Z1 s k)),(4,iv (k:Int))],[])) (λk=>k<=T s/\(∀j,j<k->Fp s j=N)/\(0<k->T s<=7)) (λk=>T s - k) 0 ⟨k_ _,λj q=>absurd q (not_lt_zero _),λh=>absurd h (Nat.lt_irrefl 0)⟩ ?_ ?_
 .exact Wk
 rintro k ⟨hk,t,h7⟩;refine S<|O aA<|Y aA<|Y (gG U_)<|V cF<|Cn ?_ ?_<;>intro d
 .have hlt:k<T s:=I_ d
  refine aB<|S<|aD<|S<|S<|aT (t:=25) (n:=17) (A_:=(θ (bA s k<48)||θ (57<bA s k))||θ (7<(T s:Int))) ?_ ?_
  .all_goals refine Y aA<|Y aA<|Y (ky U_)<|Y cF<|Dm ?_<;>(refine Sp 15 (λp=>?_) λp=>?_)<;>(first|exact s_|refine M<|M<|M<|M ?_|refine U aA<|U aA<|U (ky U_)<|U iZ ?_)<;>refine Y cE<|Dm ?_<;>(refine Sp 21 (λo=>?_) λo=>?_)<;>(first|exact s_|refine M<|M<|M ?_|refine U aA<|U (gG U_)<|U iZ ?_)<;>refine V cE ?_<;>(exact⟨⟨_,Z,G_⟩,Z,Z,Z⟩)
  refine Cn ?_ ?_<;>intro c
  .have hbad:Fp s k=η\/7<T s:=by have h:=c;rw[Fp];simp only[Bool.or_eq_true,j0]at h;rcases h with h|h;exact .inl G_;exact .inr X
   have f:KL s = -1:=by
    rw[KL,a8 X,a8 ?_]
    grind
   rw[f];exact Sz aJ<|aC<|Rt<|Qq
  have b:Fp s k=N/\T s<=7:=by have h:=c;rw[r6,n_]at h;exact⟨by rw[Fp,h.1];rfl,X⟩
  have B:=vu t;have D:=aCy (k:=k) X;have m:=b.1;rw[Fp,r9,r6,n_,n_]at m;have n:∀j,j<k+1->Fp s j=N:=λj q=>by
   grind
  refine aB<|Rd aA<|Y (pC Z Z Z (lZ X X))<|Y aA<|Y aA<|Y (ky U_)<|Y (dV Z Z Z (wu8 X X))<|Y (eO Z dG underlying3 Z (lZ X X))<|Y iH<|V aJ<|Rd aA<|Y iH<|Da ?_;exact⟨k+1,⟨X,n,λ_=>b.2⟩,X,Wk⟩
 have l:k=T s:=J_ d
 subst l;refine aP<|S<|O aA<|V vT<|Cn ?_ ?_<;>intro g
 .have i:s=⟨#[]⟩:=b8 g;have f:KL s = -1:=by rw[i];rfl
  rw[f];exact Sz aJ<|aC<|Rt<|Qq
 have i:T s≠0:=λe=>b_ g (sg (length_eq_zero_iff.1 F_));have f:KL s=Z1 s (T s):=by
  rw[KL,a8 i,b6 ?_]
  grind
 rw[f];exact aB<|O aA<|V aJ<|aC<|Rt<|Qq
def KK(s:B_):Nat->Int
 |0=>0
 |k+1=>10*KK s k+IntKind.u8.wrap (bA s k - 48)
theorem Yp(x):0<=IntKind.u8.wrap x/\IntKind.u8.wrap x<=255:=by have:IntKind.u8.wrap x=x % 256:=rfl;omega
theorem fw(s):∀k,k<=7->0<=KK s k/\KK s k+255<=255*10 ^ k
 |0,_=>⟨Int.le_refl 0,by show 0+255<=255*1;omega⟩
 |k+1,h=>by
  obtain ⟨B,D⟩:=fw s k X;have E:=Yp (bA s k - 48);rw[KK];omega
theorem SM(s:B_)(H:aF)(G:T s<2^40):RC 215 [sv s] (iv (KK s (min (T s) 7))) H:=by
 refine Pu<|Bd func215 Z ntmps215<|Sz aJ<|Sz aJ<|S<|Sz aJ<|aD<|bC (σ:=Nat) (λk=>([(0,sv s),(3,iv (KK s k)),(4,iv (k:Int))],[])) (λk=>k<=T s/\k<=7) (λk=>T s - k) 0 ⟨k_ _,k_ _⟩ ?_ ?_
 .exact Wk
 rintro k ⟨hk,d⟩;refine S<|S<|aT (t:=12) (n:=9) (A_:=θ ((k:Int)<(T s:Int))&&θ ((k:Int)<7)) ?_ ?_
 .all_goals refine Y aA<|Y aA<|Y (gG U_)<|Y cF<|Dm ?_<;>(refine Sp 9 (λe=>?_) λe=>?_)<;>(first|exact s_|refine M<|M ?_|refine U aA<|U cF ?_)<;>refine V cE ?_<;>(exact⟨⟨_,Z,G_⟩,Z,Z,Z⟩)
 refine Cn ?_ ?_<;>intro c
 .have b:k<T s/\k<7:=by have h:=c;rw[l6,j0,j0]at h;omega
  have ⟨b,E⟩:=b;have B:=fw s k d;have F:=aCy d;have I:=Yp (bA s k - 48);refine aB<|S<|aD<|Rd aA<|Y (pC Z Z Z (lZ X X))<|Y aA<|Y aA<|Y (ky U_)<|Y (dV Z Z Z Z)<|Y (eO Z dG underlying3 Z (lZ X X))<|Y iH<|V aJ<|Rd aA<|Y iH<|Da ?_;exact⟨k+1,⟨X,X⟩,X,Wk⟩
 have D:k=min (T s) 7:=by have h:=c;rw[Bool.and_eq_false_iff,n_,n_]at h;omega
 refine aP<|O aA<|V aJ<|aC<|Rt ?_
 simp_all
def ny(s:B_)(f:Nat):List B_:=(dZ 32 (s.data.toList.drop f)).map a_
theorem Ag(s):cR s=ny s 0:=rfl
theorem Np{s}{f i}(B:f<=i)(hi:i<T s):s.data.toList.drop f=(s.data.toList.drop f).take (i - f)++pN s i::s.data.toList.drop (i+1):=by
 have D:=aU s;have a:(s.data.toList.drop f).drop (i - f)=pN s i::s.data.toList.drop (i+1):=by
  rw[drop_drop,show f+(i - f)=i by omega,drop_eq_getElem_cons _];rw[pN,p_ X];rfl
 rw[<-a,take_append_drop]
theorem aAP{s}{f i}(d:f<=i)(hi:i<T s)(e:pN s i=32)(b:32∉(s.data.toList.drop f).take (i - f)):ny s f=a_ ((s.data.toList.drop f).take (i - f))::ny s (i+1):=by have h:=Np d hi;rw[e]at h;have c:=congrArg (λl=>(dZ 32 l).map a_) h;simp[kD b,map_cons]at c;exact c
theorem So{s}{f}(a:32∉s.data.toList.drop f):ny s f=[a_ (s.data.toList.drop f)]:=by rw[ny,sJ a];rfl
theorem Vi{s}{f i}(D:f<=i)(hi:i<T s)(b:pN s i≠32)(B:32∉(s.data.toList.drop f).take (i - f)):32∉(s.data.toList.drop f).take (i+1 - f):=by
 rw[show i+1 - f=(i - f)+1 by omega,take_add_one,];intro h;rcases mem_append.1 h with h|h
 .grind
 exact b (by rw[pN];simp_all)
theorem Jl(s:B_)(H:aF)(E:T s<1000000000):RC 161 [sv s] (.pv (aL (cR s))) H:=by
 refine Pu ?_;have D:=aU s;refine Bd func161 Z ntmps161<|Sz aJ<|Sz (cZ (id:=906) (sz:=1) (ty:=9) Z Z Z)<|Sz aJ<|S<|Sz aJ<|aD<|CO (λ(i f:Nat) (a:List B_)=>([(0,sv s),(3,.osl 906 (C a) 0 (C a)),(4,iv (f:Int)),(5,iv (i:Int))],[(906,⟨C a,1,9,VA a⟩)])) (λi f a=>i<=T s+1/\f<=i/\C a<=i/\(i<=T s->cR s=a++ny s f/\(32:UInt8)∉(s.data.toList.drop f).take (i - f))/\(i=T s+1->cR s=a)) (λi _ _=>T s+1 - i) 0 0 [] ⟨X,h_ _,h_ _,λ_=>⟨Ag s,H_⟩,λh=>by omega⟩ ?_ ?_
 .exact L_
 rintro i f a ⟨hi,x,hol,hA,hB⟩;refine S<|O aA<|Y aA<|Y (gG U_)<|V EQ<|Cn ?_ ?_<;>intro o
 .have d:i<=T s:=I_ o
  have ⟨k,g⟩:=hA d;have j:bA s i=((pN s i).toNat:Int):=uB s i;refine aB<|S<|aD<|S<|aT (t:=21) (n:=11) (A_:=θ ((i:Int)=(T s:Int))||θ (bA s i=32)) ?_ ?_
  .all_goals refine Y aA<|Y aA<|Y (gG U_)<|Y cG<|Dm ?_<;>(refine Sp 16 (λm=>?_) λm=>?_)<;>(first|exact s_|refine M<|M<|M<|M ?_|refine U aA<|U aA<|U (cL Z U_ Z Z X (l_ _) (J_ m) Z)<|U cG ?_)<;>refine V cE ?_<;>exact Gj (h:=by simp_all)
  refine Cn ?_ ?_<;>intro l
  .have t:i=T s\/bA s i=32:=by have h:=l;rw[Bool.or_eq_true,j0,j0]at h;rcases h with h|h;exact .inl X;exact .inr h
   have ⟨w,q⟩:∃w,w=a_ ((s.data.toList.drop f).take (i - f)):=X_;have z:s.extract f i=w:=by rw[q];exact sg (by rw[gK,cJ])
   have v:C (a++[w])=C a+1:=F_
   have B:(i+1<=T s->cR s=(a++[w])++ny s (i+1)/\(32:UInt8)∉(s.data.toList.drop (i+1)).take (i+1 - (i+1)))/\(i+1=T s+1->cR s=a++[w]):=by
    constructor
    .intro h;have u:pN s i=32:=by
      rcases t with e|e
      .omega
      rw[j]at e;exact UInt8.toNat_inj.1 G_
     refine⟨?_,F_⟩;rw[k,aAP x X u g,q,append_assoc];rfl
    intro h;have e:(s.data.toList.drop f).take (i - f)=s.data.toList.drop f:=take_of_length_le u5;rw[e]at g q;rw[k,So g,q]
   refine O aA<|Y aA<|Y aA<|Y aA<|Y (by exact bP (l:=f) (h:=i) Z U_ Z Z Z x d z)<|Y (by exact aM [S_ w] Z aZ Z Z Z Z Z R_)<|Y (by exact bW (ps:=[S_ w]) Z aZ sZ Z Z Z Z Z (ZQ _) Z R_ (m:=1) Z X Z (ZS _ w))<|V aJ<|Rd aA<|Y iH<|V aJ<|Rd aA<|Y iH<|Da ?_;refine⟨i+1,i+1,a++[w],⟨X,h_ _,X,B.1,B.2⟩,X,?_⟩;rw[v];exact(cH.wk (Eb<|Ea<|Eb<|Eb<|T_) (Hc (mK _ _)<|T_) T_)
  have t:i<T s/\bA s i≠32:=by have h:=l;rw[r6,n_,n_]at h;exact⟨X,h.2⟩
  have u:pN s i≠32:=λe=>t.2 (by rw[j,e];rfl);have n:=Vi x t.1 u g;refine aB<|Rd aA<|Y iH<|Da ?_;exact⟨i+1,f,a,⟨X,X,X,λ_=>⟨k,n⟩,λh=>by omega⟩,X,L_⟩
 have d:i=T s+1:=J_ o
 have y:=hB d;rw[y];refine aP<|O aA<|V aJ<|aC ?_;refine cN (H':=[]) (.inr Z) Z (aI Z) (Fin.fz (id:=906) (a.map S_) Z (Jb _) (.osl (lE S_ _)) Z T_ T_) ?_;exact Qq
def Hj(b c:b7):Bool:=θ (b.text=⟨#[61]⟩)&&θ (c.kind=3)
abbrev mkT(a c:b7):m9:=⟨a.text,c.text⟩
def ML:List m9->List b7->List m9×Bool
 |acc,[]=>(acc,N)
 |acc,a::b::c::r=>if Hj b c then ML (acc++[mkT a c]) r else([],η)
 |_,[_]=>([],η)
 |_,[_,_]=>([],η)
theorem Fin.tg2{H1}{id g n}{ob}(l)(v)(b:H1.get id=A ob)(c:ob.g=g)(a:ob.rows=tD l)(d:n=C l)(e:Clo [] v):
  Fin [] H1 (.tup [.osl id g 0 n,v]) [] (.tup [.pv (qP l),v]):=by
 subst c d;exact Fin.fz _ b (a.trans (by rw[map_map];rfl)) (.tup Z (bJ (.osl (lE _ l)) (bJ (.same e) kG))) Z T_ T_
theorem aDs{J0:List b7}{i}{a b c}(k:J0[i]?=A a)(d:J0[i+1]?=A b)(h:J0[i+2]?=A c):J0.drop i=a::b::c::J0.drop (i+3):=by have ⟨m,j⟩:=m_.1 k;have ⟨l,f⟩:=m_.1 d;have ⟨e,g⟩:=m_.1 h;rw[drop_eq_getElem_cons m,drop_eq_getElem_cons l,drop_eq_getElem_cons e,j,f,g]
theorem Bb{acc}{J0}(a:0<C J0)(h:C J0<3):ML acc J0=([],η):=by
 match J0 with
 | []=>exact absurd a (Nat.lt_irrefl 0)
 | [_]=>rfl
 | [_,_]=>rfl
 |_::_::_::_=>rw[j6,j6,j6]at h;omega
theorem M7(J0:List b7)(H:aF)(J:C J0<1000000000):RC 216 [.pv (C6 J0)] (.tup [.pv (qP (ML [] J0).1),bv (ML [] J0).2]) H:=by
 refine Pu ?_;have I:C (J0.map K_)=C J0:=g_ _;refine Bd func216 Z ntmps216<|O aJ<|V aJ<|Sz (cZ (id:=906) (sz:=2) (ty:=270) Z Z Z)<|S<|Sz aJ<|aD<|dU (λ(i:Nat) (D:List m9)=>([(0,.pv (C6 J0)),(4,.osl 906 (C D) 0 (C D)),(5,iv (i:Int))],[(906,⟨C D,2,270,tD D⟩)])) (λi D=>i<=C J0/\C D<=i/\ML [] J0=ML D (J0.drop i)) (λi _=>C J0 - i) 0 [] ⟨k_ _,h_ _,Z⟩ ?_ ?_
 .exact L_
 rintro i D ⟨hi,hA,g⟩;refine S<|O aA<|Y aA<|Y (fJ cS)<|V cF<|Cn ?_ ?_<;>intro l
 .have t:i<C J0:=I_ l
  have ⟨a,B⟩:=aR t;have G:=cC (f:=K_) B;by_cases E:i+2<C J0
  .have ⟨b,d_⟩:=aR (l:=J0) (k:=i+1) X;have ⟨c,z⟩:=aR E;have p:=cC (f:=K_) d_;have o:=cC (f:=K_) z;have q:=aDs B d_ z;rw[q,ML]at g;have x:¬ (θ ((C (J0.map K_):Int)<=(i:Int)+2)=N):=G_
   refine aB<|S<|aD<|S<|S<|aT (t:=34) (n:=25) (A_:=!Hj b c) ?_ ?_
   .all_goals refine Y aA<|Y iH<|Y aA<|Y (fJ cS)<|Y AN<|Dm ?_<;>(refine Sp 17 (λk=>?_) λk=>?_)<;>(try contradiction)<;>refine U aA<|U aA<|U iH<|U (bS Z iL Z Z X (show ((i:Int)+1).toNat=i+1 by omega) p Z)<|U (FV iP)<|U (fK N_)<|U EN<|Y cE<|Dm ?_<;>(refine Sp 26 (λj=>?_) λj=>?_)<;>(first|exact s_|refine M<|M<|M<|M<|M<|M<|M ?_|refine U aA<|U aA<|U iH<|U (bS Z iL Z Z X (show ((i:Int)+2).toNat=i+2 by omega) o Z)<|U (FV vQ)<|U (fK M_)<|U yQ ?_)<;>refine V cE ?_<;>exact Gj (h:=by(rw[Hj];simp_all))
   refine Cn ?_ ?_<;>intro n
   .have v:Hj b c=η:=by have h:=n;rwa [r9]at h
    rw[v,a8 H_]at g;rw[g];refine O aJ<|V aJ<|aC<|fO (H':=[]) (.inr Z) Z (aI Z) (aI Z) (P_ (r:=.tup [.pv (qP []),bv η])) ?_;exact Qq
   have v:Hj b c=N:=by have h:=n;rwa [Bool.not_eq_false']at h
   rw[v,b6 rfl]at g;have s:C (D++[mkT a c])=C D+1:=F_
   refine aB<|aN a7<|Cs (λ_ _=>aA)<|Cs (λ_ _=>aA)<|Cs (λ_ _=>aA)<|Cs (λ_ _=>(jA iL))<|Cs (λ_ _=>(FV iP))<|Cs (λ_ _=>(fK N_))<|Cs (λ_ _=>aA)<|Cs (λ_ _=>aA)<|Cs (λ_ _=>iH)<|Cs (λD u=>by exact bS Z iL Z Z X (show ((i:Int)+2).toNat=i+2 by omega) o Z)<|Cs (λ_ _=>(FV iP))<|Cs (λ_ _=>(fK N_))<|Cs (λ_ _=>(pB Ow))<|Cs (λD u=>by exact aM [cA (mkT a c)] Z lY Z Z Z Z Z R_) ?_;refine iR (r:=⟨_,ζ,[_]⟩) (DStep.plain Z (λD u=>by exact bW (ps:=[cA (mkT a c)]) Z lY No Z ((u _ Z).trans Z) Z Z Z (IL _) Z R_ (m:=1) Z X Z (IM _ (mkT a c)))) Z ?_;refine Cs (λ_ _=>aJ)<|bG<|Kr<|Rd aA<|Y iH<|Da ?_;refine⟨i+3,D++[mkT a c],⟨X,X,g⟩,X,?_⟩;rw[s];exact L_
  have F:ML [] J0=([],η):=by rw[g];exact Bb u5 u5
  have x:¬ (θ ((C (J0.map K_):Int)<=(i:Int)+2)=η):=by rw[n_];omega
  rw[F];refine aB<|S<|aD<|S<|S<|aT (t:=34) (n:=25) (A_:=N) ?_ ?_
  .all_goals refine Y aA<|Y iH<|Y aA<|Y (fJ cS)<|Y AN<|Dm ?_<;>(refine Sp 17 (λk=>?_) λk=>?_)<;>(try contradiction)<;>refine M<|M<|M<|M<|M<|M<|M<|Y cE<|Dm ?_<;>(refine Sp 26 (λj=>?_) λj=>?_)<;>(try contradiction)<;>refine M<|M<|M<|M<|M<|M<|M<|V cE ?_<;>exact Gj (h:=by rfl)
  refine Cn ?_ ?_<;>intro y
  .refine O aJ<|V aJ<|aC<|fO (H':=[]) (.inr Z) Z (aI Z) (aI Z) (P_ (r:=.tup [.pv (qP []),bv η])) ?_;exact Qq
  cases y
 have w:i=C J0:=J_ l
 rw[w,drop_length,ML]at g;rw[g];refine aP<|O aA<|Y aJ<|V aJ<|aC ?_;refine fO (H':=[]) (.inr Z) Z (aI Z) (aI Z) (Fin.tg2 D (bv N) Z Z Z Z H_) ?_;exact Qq
theorem De(l):ID l=(l.map bM).map (·.map .pv):=by rw[map_map];rfl
def EU(rE:B_->b9)(s:B_):Nat->Nat×List b9
 |0=>(0,[])
 |i+1=>if θ (bA s i=10)then(i+1,(EU rE s i).2++[rE (s.extract (EU rE s i).1 i)])else EU rE s i
theorem Jq(rE)(s):∀i,(EU rE s i).1<=i/\C (EU rE s i).2<=i
 |0=>⟨h_ _,h_ _⟩
 |i+1=>by
  obtain ⟨B,D⟩:=Jq rE s i;rw[EU]
  grind
theorem fy(rE)(s)(i):∀d,C (EU rE s i).2<=C (EU rE s (i+d)).2
 |0=>h_ _
 |d+1=>by
  refine Nat.le_trans (fy _ s i d) ?_;rw[show i+(d+1)=(i+d)+1 by omega,EU]
  grind
theorem P8{rE}{s}{Q:b9->Prop}(h:∀x,T x<=T s->Q (rE x)):∀i,∀e∈(EU rE s i).2,Q e
 |0,e,b=>by cases b
 | i+1,e,b=>by
  rw[EU]at b
  split at b
  .rcases List.mem_append.1 b with c|c
   .exact P8 h i e c
   rw[q_.1 c];exact h _ (gE s _ _)
  exact P8 h i e b
def gPr(rE:B_->b9)(t:B_):List b9×Int:=if 20000<T t then([],2)else if eH (EU rE t (T t)).2=(t,0)then((EU rE t (T t)).2,0)else([],5)
theorem Bc{rE:B_->b9}(E:∀x:B_,T x<=20000->VY (rE x)/\C (rE x).refs<2^40)(R:∀(x:B_) (H:aF),T x<=20000->RC 109 [sv x] (av (bM (rE x))) H)(t:B_)(H:aF)(a:T t<1000000000):
  RC 67 [sv t] (.tup [.pv (kR (gPr rE t).1),iv (gPr rE t).2]) H:=by
 refine Pu<|Bd func67 Z ntmps67<|O aJ<|V aJ<|S<|O aA<|Y (gG U_)<|V iZ<|Cn ?_ ?_<;>intro n
 .have J:20000<T t:=I_ n
  rw[gPr,b6 J];refine O aJ<|V aJ<|aC<|fO (H':=[]) (.inr Z) Z (aI Z) (aI Z) (P_ (r:=.tup [.pv (kR []),iv 2])) ?_;exact Qq
 have J:¬ 20000<T t:=J_ n
 rw[gPr,a8 J];refine aB<|Sz (cZ (id:=905) (sz:=15) (ty:=137) Z Z Z)<|Sz aJ<|S<|Sz aJ<|aD<|bC (σ:=Nat) (λi=>([(0,sv t),(4,.osl 905 (C (EU rE t i).2) 0 (C (EU rE t i).2)),(5,iv ((EU rE t i).1:Int)),(6,iv (i:Int))],[(905,⟨C (EU rE t i).2,15,137,ID (EU rE t i).2⟩)])) (λi=>i<=T t) (λi=>T t - i) 0 (k_ _) ?_ ?_
 .exact L_
 rintro i m4;have ⟨I,D⟩:=Jq rE t i;have c:EU rE t (i+1)=if θ (bA t i=10)then(i+1,(EU rE t i).2++[rE (t.extract (EU rE t i).1 i)])else EU rE t i:=rfl;have m:=fy rE t i (T t - i);rw[show i+(T t - i)=T t by omega]at m;have d:=P8 (rE:=rE) (s:=t) (Q:=λe=>VY e/\C e.refs<2^40) (λx w=>E x X) i;rcases l:EU rE t i with⟨f,L⟩;simp only[l]at I D c m d |-;refine S<|S<|aT (t:=20) (n:=10) (A_:=θ ((i:Int)<(T t:Int))&&θ ((C L:Int)<=200)) ?_ ?_
 ·all_goals refine Y aA<|Y aA<|Y (gG U_)<|Y cF<|Dm ?_<;>(refine Sp 16 (λy=>?_) λy=>?_)<;>(first|exact s_|refine M<|M<|M ?_|refine U aA<|U (by exact dQ Z fE Z Z Z)<|U EQ ?_)<;>refine V cE ?_<;>(exact⟨⟨_,Z,G_⟩,Z,Z,Z⟩)
 refine Cn ?_ ?_<;>intro u
 .have hlt:i<T t:=by have h:=u;rw[l6,j0]at h;omega
  refine aB<|S<|aD<|O aA<|Y aA<|Y (ky U_)<|V cG<|Cn ?_ ?_<;>intro q
  .have F:θ (bA t i=10)=N:=q;rw[F,b6 rfl]at c;have ⟨x,w⟩:∃x,x=t.extract f i:=X_;have z:T x<=20000:=by rw[w];have:=gE t f i;omega
   rw[<-w]at c;have G:C (L++[rE x])=C L+1:=F_
   refine O aA<|Y aA<|Y aA<|Y aA<|Y (by exact bP (l:=f) (h:=i) Z U_ Z Z Z I m4 w.symm)<|Y (kc call109 (R x _ z))<|Y (by exact aM [bM (rE x)] Z fa Z Z Z Z Z R_)<|Y (by exact bW (ps:=[bM (rE x)]) Z fa Zc Z Z Z Z Z (YO _) Z R_ (m:=1) Z X Z (YP L (rE x)))<|V aJ<|Rd aA<|Y iH<|V aJ<|Rd aA<|Y iH<|Da ?_;refine⟨i+1,X,X,?_⟩;rw[c];simp only;rw[G];exact(cH.wk (Eb<|Ea<|Eb<|Eb<|T_) (Hc (yC _ _)<|T_) T_)
  have F:θ (bA t i=10)=η:=q;rw[F,a8 H_]at c;refine aB<|Rd aA<|Y iH<|Da ?_;refine⟨i+1,X,X,?_⟩;rw[c];exact L_
 have j:i=T t\/200<C L:=by have h:=u;rw[Bool.and_eq_false_iff,n_,n_]at h;omega
 have v:(if eH (EU rE t (T t)).2=(t,0)then((EU rE t (T t)).2,(0:Int))else([],5))=if eH L=(t,0)then(L,0)else([],5):=by
  rcases j with e|e
  .rw[<-e,l]
  have o:∀P:List b9,200<C P->¬ eH P=(t,0):=λP W h=>by
   rw[eH]at h
   split at h
   .next K=>have:=(OZ K).2.1;omega
   have:=congrArg Prod.snd h;cases this
  rw[a8 (o _ X),a8 (o _ e)]
 rw[v];refine gO.ent (cH.fzG (id:=905) (E':=[(0,sv t),(4,.pv (kR L))]) (H':=[]) (L.map bM) Z (De L) ?_ Z ?_ ?_) ?_
 .intro p l;simp only[l9,q8,or_false]at l;rcases l with rfl|rfl
  .exact⟨_,Z,.same (by simp;try rfl)⟩
  exact⟨_,Z,.osl (lE bM L)⟩
 .exact T_
 .exact T_
 refine aP<|O aA<|Y (kc call110 (SJ L _ X (λe h=>(d e h).1) (λe h=>(d e h).2)))<|Y aA<|Y dL<|Y dL<|Y aJ<|V aJ<|S<|S<|aT (t:=48) (n:=8) (A_:=!θ ((eH L).2=0)||!θ ((eH L).1=t)) ?_ ?_
 .all_goals refine Y aA<|Y yQ<|Dm ?_<;>(refine Sp 44 (λk=>?_) λk=>?_)<;>(first|exact s_|refine M<|M<|M ?_|refine U aA<|U aA<|U EN ?_)<;>refine V cE ?_<;>exact Gj (h:=by(rw[k];rfl))
 refine Cn ?_ ?_<;>intro g
 .have i_:eH L≠(t,0):=λe=>by have h:=g;rw[e]at h;simp at h
  rw[a8 i_];refine O aJ<|V aJ<|aC<|fO (H':=[]) (.inr Z) Z (aI Z) (aI Z) (P_ (r:=.tup [.pv (kR []),iv 5])) ?_;exact Qq
 have B:eH L=(t,0):=by have h:=g;simp only[r6,Bool.not_eq_false',j0]at h;exact Prod.ext h.2 h.1
 rw[b6 B];exact aB<|O aA<|Y aJ<|V aJ<|aC<|Ru<|Qq
theorem gx{s}{i}(hi:i<T s)(h:nN s i=2):vY s i=N:=by rw[nN,b6 hi]at h;have a:=(bw s i).2.1;rw[h]at a;have e:=b8 (a.trans Z);rw[vY,decide_eq_true hi,e];rfl
theorem MZ{s}{i j}(h:fF s i=(ζ,j))(hi:i<T s):i<j/\j<=T s:=by
 rw[fF]at h
 split at h
 .grind
 split at h
 .rename_i b;cases h;have a:=gx hi b;have ⟨l1,l2⟩:=GO (vY s) (T s - i) i;rw[G7];refine⟨?_,X⟩;rcases Nat.lt_or_ge i _ with h|h
  .exact h
  have e:zU (vY s) (T s - i) i=i:=X
  have:=xY (vY s) (T s - i) i X;rw[e,a]at this;cases this
 grind
theorem GH(s):∀(n m i),T s - i<n->T s - i<m->kO s n i=kO s m i
 |0,_,_,h,_=>by omega
 |_+1,0,_,_,h=>by omega
 | n + 1, m + 1, i, h1, h2 => by
  rw[kO,kO];by_cases b:i<T s
  .rw[b6 b,b6 b];cases d:fF s i with
   | mk o j =>
    cases o with
    |none =>
     have:=MZ d b;exact GH s n m j X X
    |some f =>
     show f::_=f::_;congr 1;by_cases c:f.err=0
     .have:=PY d c b;rw[b6 c,b6 c];exact GH s n m j X X
     simp_all
  grind
def HH(s:B_)(i:Nat):List b7:=kO s (T s+1) i
theorem WO{s}{i j}(hi:i<T s)(h:fF s i=(ζ,j)):HH s i=HH s j:=by have:=MZ h hi;rw[HH,kO,b6 hi,h];exact GH s _ _ j X X
theorem zp{s}{i j}{f}(hi:i<T s)(h:fF s i=(A f,j))(a:f.err=0):HH s i=f::HH s j:=by have:=PY h a hi;rw[HH,kO,b6 hi,h];show f::(if f.err=0 then _ else _)=_;rw[b6 a];congr 1;exact GH s _ _ j X X
theorem Hg{s}{i j}{f}(hi:i<T s)(h:fF s i=(A f,j))(B:f.err≠0):HH s i=[f]:=by
 rw[HH,kO]
 simp_all
theorem Hh{s}{i}(hi:¬ i<T s):HH s i=[]:=by rw[HH,kO,a8 hi]
theorem xz(s:B_)(e:Nat)(H:aF)(J:T s<2^40)(F:e<=T s):aW φ 218 [sv s,iv (e:Int)] H (λr H'=>∃j,r=iv ((j:Nat):Int)/\e<=j/\j<=T s/\HH s e=HH s j/\(j<T s->nN s j≠1/\nN s j≠2)/\H'=H):=by
 refine Bd func218 Z ntmps218<|Sz aJ<|S<|aD<|bC (σ:=Nat) (λi=>([(0,sv s),(1,iv (i:Int))],H)) (λi=>e<=i/\i<=T s/\HH s e=HH s i) (λi=>T s - i) e ⟨h_ _,F,Z⟩ ?_ ?_
 .exact E0
 rintro i ⟨hge,B,d⟩;refine S<|O aA<|Y aA<|Y (gG U_)<|V cF<|Cn ?_ ?_<;>intro o
 .have b:i<T s:=I_ o
  have x:nN s i=zF (bA s i):=by rw[nN,b6 b]
  have ⟨z,y,_⟩:=bw s i;rw[<-x]at z y;refine aB<|aD<|O aA<|Y aA<|Y (ky U_)<|V (bH Z Z call262 Z (My ⟨#[32,9,10]⟩ (bA s i) _ E_))<|Cn ?_ ?_<;>intro t
  .have u:nN s i=1:=b8 (z.symm.trans t);have c:fF s i=(ζ,i+1):=by rw[fF,b6 u]
   refine Rd aA<|Y iH<|Da ?_;exact⟨i+1,⟨X,b,d.trans (WO b c)⟩,X,E0⟩
  have u:nN s i≠1:=b_ (z.symm.trans t);refine O aA<|Y aA<|Y (ky U_)<|V cG<|Cn ?_ ?_<;>intro q
  .have v:nN s i=2:=b8 (y.symm.trans q);have c:fF s i=(ζ,G7 s i):=by rw[fF,a8 u,b6 v]
   refine aD<|bC (σ:=Nat) (λk=>([(0,sv s),(1,iv (k:Int))],H)) (λk=>i<=k/\k<=T s/\∀j,i<=j->j<k->vY s j=N) (λk=>T s - k) i ⟨h_ _,B,λj u v=>by omega⟩ ?_ ?_
   .exact E0
   rintro k ⟨w,D,p⟩;refine S<|S<|aT (t:=28) (n:=11) (A_:=θ ((k:Int)<(T s:Int))&&!θ (bA s k=10)) ?_ ?_
   .all_goals refine Y aA<|Y aA<|Y (gG U_)<|Y cF<|Dm ?_<;>(refine Sp 23 (λg=>?_) λg=>?_)<;>(first|exact s_|refine M<|M<|M<|M ?_|refine U aA<|U aA<|U (cL Z U_ Z Z X (l_ _) (I_ g) Z)<|U yQ ?_)<;>refine V cE ?_<;>(exact⟨⟨_,Z,G_⟩,Z,Z,Z⟩)
   refine Cn ?_ ?_<;>intro f
   .have h:=f;rw[l6,j0]at h;have l:k<T s:=X
    have I:vY s k=N:=by rw[vY,decide_eq_true l,Bool.true_and];grind
    refine aB<|aD<|Rd aA<|Y iH<|Da ?_;refine⟨k+1,⟨X,l,λj u v=>?_⟩,X,E0⟩
    grind
   have n:G7 s i=k:=by
    refine AB (vY s) w X p ?_;rcases Nat.lt_or_ge k (T s) with h|h
    .left;have E:=f;rw[decide_eq_true (show (k:Int)<(T s:Int)by omega),Bool.true_and]at E;rw[vY,E,Bool.and_false]
    omega
   rw[n]at c;have G:=MZ c b;refine aP ?_;exact⟨k,⟨X,D,d.trans (WO b c)⟩,X,E0⟩
  have v:nN s i≠2:=b_ (y.symm.trans q);refine O aA<|V aJ<|aC<|cN (H':=H) (.inr Z) Z (aI Z) Fin.refl ?_
  grind
 have m:i=T s:=J_ o
 subst m;refine aP<|O aA<|V aJ<|aC<|cN (H':=H) (.inr Z) Z (aI Z) Fin.refl ?_
 grind
def Zw:b7:=⟨0,a6,0,0⟩
def Lk(s:B_)(i:Nat):b7×Int×Int:=match fF s i with
 |(A f,j)=>if f.err=0 then(f,(j:Int),0)else(Zw,0,f.err)
 |(ζ,_)=>(Zw,0,0)
theorem LA{s}{i j}{f}(h:fF s i=(A f,j))(B:f.err=0):Lk s i=(f,(j:Int),0):=by
 rw[Lk]
 simp_all
theorem TB{s}{i j}{f}(h:fF s i=(A f,j))(B:f.err≠0):Lk s i=(Zw,0,f.err):=by
 rw[Lk]
 simp_all
theorem XL{s}{k}(h:k<T s):vX s k=Fl (bA s k):=by
 have ⟨c1,c2,c3⟩:=UN s k;have a:nN s k=zF (bA s k):=by rw[nN,b6 h]
 rw[vX,a,c1,c2,c3];rfl
theorem gy{s}{k}(h:k<T s):PC s k=yX (bA s k):=by
 have ⟨c1,c2,c3⟩:=UN s k;have a:nN s k=zF (bA s k):=by rw[nN,b6 h]
 rw[PC,a,c2]
def aCu(p:b7×Int×Int):AV:=.tup [av (K_ p.1),iv p.2.1,iv p.2.2]
theorem Sk{s}{i:Nat}{H}(b:T s<2^40)(hi:i<T s)(a:oN (s.data.toList.drop (i+1))=ζ):RC 263 [sv s,iv i] (.tup [sv a6,iv 0,bv η]) H:=by
 have:=vh s i H b hi
 rwa [a]at this
theorem Sj{s}{i:Nat}{H}{p}(b:T s<2^40)(hi:i<T s)(c:oN (s.data.toList.drop (i+1))=A p):RC 263 [sv s,iv i] (.tup [sv ⟨p.1.toArray⟩,iv ((i+(p.2+1):Nat)),bv N]) H:=by
 have:=vh s i H b hi;rw[c]at this;have e:yD (A p) [] (i+1)=(⟨p.1.toArray⟩,((i+(p.2+1)):Int)):=by
  show ((⟨([]++p.1).toArray⟩:B_),((i+1+p.2):Int))=_
  grind
 rw[e]at this;exact this
theorem Lo(s:B_)(i:Nat)(H:aF)(hs:T s<2^40)(hi:i<T s)(b:nN s i≠1)(c:nN s i≠2):RC 219 [sv s,iv (i:Int)] (aCu (Lk s i)) H:=by
 refine aW.pure ?_ (by simp[aCu]) H;have v_:nN s i=zF (bA s i):=by rw[nN,b6 hi]
 have ⟨c1,c2,c3⟩:=UN s i;have ⟨q1,q2,J0,z_,q5⟩:=bw s i;rw[<-v_]at c1 c2 c3 q1 q2 J0 z_;refine Bd func219 Z ntmps219<|O (kl 4 ub)<|Y aJ<|V aJ<|O aA<|Y iH<|V aJ<|O aA<|Y aA<|Y (cL Z U_ Z Z X x7 hi Z)<|V aJ<|S<|O aA<|V (kc call168 (M8 (bA s i) _))<|Cn ?_ ?_<;>intro E
 .have o:nN s i=3:=b8 (c1.trans E);have B:fF s i=(A (A7 s i (CU s i)),CU s i):=by rw[fF,a8 b,a8 c,b6 o]
  refine S<|aD<|bC (σ:=Nat) (λk=>([(0,sv s),(1,iv (i:Int)),(4,.ref 4 0 0 0),(7,iv (k:Int))],[(4,bx 3 189 [iv 0,sv a6,iv 0])])) (λk=>i<k/\k<=T s/\∀j,i<=j->j<k->vX s j=N) (λk=>T s - k) (i+1) ⟨lt_succ_self _,hi,λj x f_=>?_⟩ ?_ ?_
  .obtain rfl:j=i:=X
   rw[vX,o];rfl
  .exact Wk
  rintro k ⟨hik,hk,hall⟩;refine S<|S<|aT (t:=28) (n:=11) (A_:=θ ((k:Int)<(T s:Int))&&Fl (bA s k)) ?_ ?_
  .all_goals refine Y aA<|Y aA<|Y (gG U_)<|Y cF<|Dm ?_<;>(refine Sp 23 (λD=>?_) λD=>?_)<;>(first|exact s_|refine M<|M<|M<|M ?_|refine U aA<|U aA<|U (cL Z U_ Z Z X (l_ _) (I_ D) Z)<|U (kc call167 (Z0 (bA s k) _)) ?_)<;>refine V cE ?_<;>(exact⟨⟨_,Z,G_⟩,Z,Z,Z⟩)
  refine Cn ?_ ?_<;>intro L
  .have h:=L;rw[l6,j0]at h;have a:k<T s:=X
   have hp:vX s k=N:=by rw[XL a];grind
   refine aB<|aD<|Rd aA<|Y iH<|Da ?_;refine⟨k+1,⟨X,a,λj x f_=>?_⟩,X,Wk⟩
   grind
  have J:CU s i=k:=by
   refine AB (vX s) (Nat.le_of_lt hik) X hall ?_;rcases Nat.lt_or_ge k (T s) with h|h
   .left;have m4:=L;rw[decide_eq_true (show (k:Int)<(T s:Int)by omega),Bool.true_and]at m4;rw[XL h,m4]
   omega
  rw[J]at B;have e:ξ.wrap ((k:Int) - (i:Int))=((k - i:Nat):Int):=by rw[IntKind.wrap_i64];omega
  refine aP<|S<|O aA<|Y aA<|Y (dV Z Z Z e)<|V iZ<|Cn ?_ ?_<;>intro I
  .have m:24<k - i:=I_ I
   have f:=TB B (by show (if 24<k - i then(2:Int)else 0)≠0;omega);have A_:(A7 s i k).err=2:=b6 m;rw[A_]at f;rw[f];refine O (pB IG)<|Uu (jH sizeOf189)<|Y aJ<|V aJ<|aC<|mP (H':=[]) (.inr Z) Z (C8 jD sizeOf189) (aI Z) (aI Z) (P_ (r:=.tup [.agg [iv 0,sv a6,iv 0],iv 0,iv 2])) ?_;exact Qq
  have m:¬ 24<k - i:=J_ I
  have A_:(A7 s i k).err=0:=a8 m;rw[LA B A_];refine aB<|O aA<|Y aA<|Y aA<|Y (bP (l:=i) (h:=k) Z U_ Z Z Z X X Z)<|Y aA<|Y (pB IG)<|Y aA<|Uu (jH sizeOf189)<|Y aJ<|V aJ<|aC<|mP (H':=[]) (.inr Z) Z (C8 jD sizeOf189) (aI Z) (aI Z) (P_ (r:=.tup [.agg [iv 1,sv (s.extract i k),iv (i:Int)],iv ((k:Nat):Int),iv 0])) ?_;exact Qq
 have o:nN s i≠3:=b_ (c1.trans E);refine aB<|S<|O aA<|V (kc call224 (SO (bA s i) _))<|Cn ?_ ?_<;>intro v
 .have u:nN s i=4:=b8 (c2.trans v);have B:fF s i=(A (IB s i (JQ s i)),JQ s i):=by rw[fF,a8 b,a8 c,a8 o,b6 u]
  refine S<|aD<|bC (σ:=Nat) (λk=>([(0,sv s),(1,iv (i:Int)),(4,.ref 4 0 0 0),(7,iv (k:Int))],[(4,bx 3 189 [iv 0,sv a6,iv 0])])) (λk=>i<k/\k<=T s/\∀j,i<=j->j<k->PC s j=N) (λk=>T s - k) (i+1) ⟨lt_succ_self _,hi,λj x f_=>?_⟩ ?_ ?_
  .obtain rfl:j=i:=X
   rw[PC,u];rfl
  .exact Wk
  rintro k ⟨hik,hk,hall⟩;refine S<|S<|aT (t:=54) (n:=11) (A_:=θ ((k:Int)<(T s:Int))&&yX (bA s k)) ?_ ?_
  .all_goals refine Y aA<|Y aA<|Y (gG U_)<|Y cF<|Dm ?_<;>(refine Sp 49 (λy=>?_) λy=>?_)<;>(first|exact s_|refine M<|M<|M<|M ?_|refine U aA<|U aA<|U (cL Z U_ Z Z X (l_ _) (I_ y) Z)<|U (kc call224 (SO (bA s k) _)) ?_)<;>refine V cE ?_<;>exact Gj (h:=by(rw[y];rfl))
  refine Cn ?_ ?_<;>intro K
  .have h:=K;rw[l6,j0]at h;have a:k<T s:=X
   have hp:PC s k=N:=by rw[gy a];exact h.2
   refine aB<|aD<|Rd aA<|Y iH<|Da ?_;refine⟨k+1,⟨X,a,λj x f_=>?_⟩,X,Wk⟩;rcases Nat.lt_or_ge j k with h|h
   .exact hall j x h
   obtain rfl:j=k:=X
   exact hp
  have d:k<T s->yX (bA s k)=η:=λh=>by
   have m4:=K
   rwa [decide_eq_true (show (k:Int)<(T s:Int)by omega),Bool.true_and]at m4
  have J:JQ s i=k:=by
   refine AB (PC s) (Nat.le_of_lt hik) X hall ?_;rcases Nat.lt_or_ge k (T s) with h|h
   .left;rw[gy h,d h]
   right;omega
  rw[J]at B;have e:ξ.wrap ((k:Int) - (i:Int))=((k - i:Nat):Int):=by rw[IntKind.wrap_i64];omega
  have hw:(θ ((k:Int)<(T s:Int))&&Fl (bA s k))=(θ (nN s k=3)||θ (nN s k=5)):=by
   rcases Nat.lt_or_ge k (T s) with h|h
   .have ⟨d1,d2,d3⟩:=UN s k;rw[nN,b6 h,d1,d3,Fl,d h,Bool.or_false,decide_eq_true (show (k:Int)<(T s:Int)by omega),Bool.true_and]
   rw[nN,a8 X,decide_eq_false (show ¬ (k:Int)<(T s:Int)by omega)];rfl
  refine aP<|S<|S<|aT (t:=72) (n:=18) (A_:=θ (7<((k - i:Nat):Int))||(θ ((k:Int)<(T s:Int))&&Fl (bA s k))) ?_ ?_
  .all_goals refine Y aA<|Y aA<|Y (dV Z Z Z e)<|Y iZ<|Dm ?_<;>(refine Sp 61 (λτ=>?_) λτ=>?_)<;>(first|exact s_|refine M<|M<|M<|M<|M ?_|refine U aA<|U aA<|U (gG U_)<|U cF<|U aA ?_)<;>(first|refine Sp 66 (λρ=>?_) λρ=>?_|refine kX (t:=66) Z ?_)<;>(first|exact s_|refine M ?_|refine Fu ?_|refine U aA ?_)<;>(first|refine M ?_|refine Fu ?_|refine U aA ?_)<;>(first|refine M ?_|refine Fu ?_|refine U (cL Z U_ Z Z X (l_ _) (I_ ρ) Z) ?_)<;>(first|refine M ?_|refine Fu ?_|refine U (kc call167 (Z0 (bA s k) _)) ?_)<;>(first|refine M ?_|refine U cE ?_)<;>refine V cE ?_<;>exact Gj (h:=by first|(rw[τ];rfl)|(rw[τ,ρ];rfl))
  refine Cn ?_ ?_<;>intro F
  .have w:(IB s i k).err=4:=by
    have h:=F;rw[hw,<-Bool.or_assoc]at h;have R:θ (7<((k - i:Nat):Int))=θ (7<k - i):=by rw[Bool.eq_iff_iff,j0,j0];omega
    rw[R]at h;exact b6 h
   have f:=TB B (by rw[w];decide);rw[w]at f;rw[f];refine O (pB IG)<|Uu (jH sizeOf189)<|Y aJ<|V aJ<|aC<|mP (H':=[]) (.inr Z) Z (C8 jD sizeOf189) (aI Z) (aI Z) (P_ (r:=.tup [.agg [iv 0,sv a6,iv 0],iv 0,iv 4])) ?_;exact Qq
  have w:(IB s i k).err=0:=by
   have h:=F;rw[hw,<-Bool.or_assoc]at h;have R:θ (7<((k - i:Nat):Int))=θ (7<k - i):=by rw[Bool.eq_iff_iff,j0,j0];omega
   rw[R]at h;exact a8 (by rw[h];simp)
  rw[LA B w];refine aB<|O aA<|Y aA<|Y aA<|Y (bP (l:=i) (h:=k) Z U_ Z Z Z X X Z)<|Y aA<|Y (pB IG)<|Y aA<|Uu (jH sizeOf189)<|Y aJ<|V aJ<|aC<|mP (H':=[]) (.inr Z) Z (C8 jD sizeOf189) (aI Z) (aI Z) (P_ (r:=.tup [.agg [iv 2,sv (s.extract i k),iv (i:Int)],iv ((k:Nat):Int),iv 0])) ?_;exact Qq
 have u:nN s i≠4:=b_ (c2.trans v);refine aB<|S<|O aA<|V cG<|Cn ?_ ?_<;>intro G
 .have P:nN s i=7:=b8 (z_.symm.trans G);have B:fF s i=(A (FR s i).1,(FR s i).2):=by rw[fF,a8 b,a8 c,a8 o,a8 u,b6 P]
  have c_:(s.extract i (T s)).data.toList.drop 1=s.data.toList.drop (i+1):=by rw[sR,drop_drop]
  cases Q:oN (s.data.toList.drop (i+1))with
  |none =>
   have q:A8 (s.extract i (T s))=(a6,0):=by rw[A8,c_,Q]
   have u_:FR s i=(wC i,i):=by rw[FR,q];rfl
   rw[u_]at B;have f:=TB B (by show (3:Int)≠0;decide);rw[f];refine O aA<|Y aA<|Y (kc call263 (Sk hs hi Q))<|Y aA<|Y dL<|Y dL<|Y dL<|Y aJ<|Y aJ<|V aJ<|S<|O aA<|V iE<|Cn ?_ ?_<;>intro W
   .refine O (pB IG)<|Uu (jH sizeOf189)<|Y aJ<|V aJ<|aC<|mP (H':=[]) (.inr Z) Z (C8 jD sizeOf189) (aI Z) (aI Z) (P_ (r:=.tup [.agg [iv 0,sv a6,iv 0],iv 0,iv 3])) ?_;exact Qq
   ((cases W;done))
  | some p =>
   have q:A8 (s.extract i (T s))=(⟨p.1.toArray⟩,((p.2+1:Nat):Int)):=by rw[A8,c_,Q]
   have u_:FR s i=(⟨3,⟨p.1.toArray⟩,i,0⟩,i+(p.2+1)):=by
    rw[FR,q,b6 (by show (0:Int)<((_:Nat):Int);omega)];rfl
   rw[u_]at B;rw[LA B rfl];refine O aA<|Y aA<|Y (kc call263 (Sj hs hi Q))<|Y aA<|Y dL<|Y dL<|Y dL<|Y aJ<|Y aJ<|V aJ<|S<|O aA<|V iE<|Cn ?_ ?_<;>intro y_
   ·((cases y_;done))
   refine aB<|O aA<|Y aA<|Y (pB IG)<|Y aA<|Uu (jH sizeOf189)<|Y aJ<|V aJ<|aC<|mP (H':=[]) (.inr Z) Z (C8 jD sizeOf189) (aI Z) (aI Z) (Fin.wk (r:=.tup [.agg [iv 3,sv (⟨p.1.toArray⟩),iv (i:Int)],iv ((i+(p.2+1):Nat):Int),iv 0]) H_ T_ T_) ?_;exact Qq
 have P:nN s i≠7:=b_ (z_.symm.trans G);refine aB<|S<|O aA<|Y (bH Z Z call262 Z (My ⟨#[59,44,46,58,40,41,123,125,91,93,61,60,62,47,45]⟩ (bA s i) _ E_))<|V iE<|Cn ?_ ?_<;>intro g
 .have z:nN s i≠6:=by
   have h:(!T0 ⟨#[59,44,46,58,40,41,123,125,91,93,61,60,62,47,45]⟩ (bA s i))=N:=g;rw[J0]at h
   simpa using h
  have B:fF s i=(A (wC i),i):=by rw[fF,a8 b,a8 c,a8 o,a8 u,a8 P,a8 z]
  have f:=TB B (by show (3:Int)≠0;decide);rw[f];refine O (pB IG)<|Uu (jH sizeOf189)<|Y aJ<|V aJ<|aC<|mP (H':=[]) (.inr Z) Z (C8 jD sizeOf189) (aI Z) (aI Z) (P_ (r:=.tup [.agg [iv 0,sv a6,iv 0],iv 0,iv 3])) ?_;exact Qq
 have z:nN s i=6:=by
  have h:(!T0 ⟨#[59,44,46,58,40,41,123,125,91,93,61,60,62,47,45]⟩ (bA s i))=η:=g;rw[J0]at h
  simpa using h
 have B:fF s i=(A ⟨4,s.extract i (i+1),i,0⟩,i+1):=by rw[fF,a8 b,a8 c,a8 o,a8 u,a8 P,b6 z]
 rw[LA B rfl];refine aB<|O aA<|Y aA<|Y aA<|Y (bP (l:=i) (h:=(i+1)) Z U_ Z Z Z X X Z)<|Y aA<|Y (pB IG)<|Y aA<|Uu (jH sizeOf189)<|Y aJ<|V aJ<|aC<|mP (H':=[]) (.inr Z) Z (C8 jD sizeOf189) (aI Z) (aI Z) (P_ (r:=.tup [.agg [iv 4,sv (s.extract i (i+1)),iv (i:Int)],iv ((i+1:Nat):Int),iv 0])) ?_;exact Qq
end Go.Proofs.C
