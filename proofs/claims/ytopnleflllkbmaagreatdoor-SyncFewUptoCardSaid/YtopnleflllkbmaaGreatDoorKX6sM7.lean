/-
  Parts of the proof. Conditions: each theorem's own.
-/
import Derived.Test.YtopnleflllkbmaaGreatDoorKX6sM6
set_option linter.unusedVariables false
set_option linter.unusedSimpArgs false
set_option maxRecDepth 100000
set_option maxHeartbeats 8000000
open List Nat
open List renaming length->C
open Option renaming some->A,none->ζ
open Bool renaming true->T,false->η
open ByteArray renaming size->N,data->μ
open Array renaming toList->ν
open Decidable renaming decide->θ
open Go.IntKind renaming i64->ξ
open Go.Proofs.Tryz renaming prog->φ
open Go.Proofs.YtopnleflllkbmaaGreatDoor
namespace Go.Proofs
open Tryz
theorem kH:type_of% isAgg68:=isAgg68
theorem iQ:type_of% isAgg70:=isAgg70
end Go.Proofs
namespace Go.Proofs.C
open Go.Proofs.Tryz
open Go.Abs Go.Lib
variable{α:Type}{k n m:Nat}{b a ids L A_ y_:List B_}{s x c t i d q:B_}{l:List UInt8}
theorem If(a:List B_)(H:aF)(id g:Nat)(i:H.get id=A ⟨g,1,9,VI a⟩)(I:dF a+C a<2^40):RC 221 [.osl id g 0 (C a)] (sv (a_ (bT [32] (bs a)))) H:=by
 refine Bd func221 Z ntmps221<|Sz aH<|Sz aH<|S<|Sz aH<|aE<|bF (σ:=Nat) (λk=>([(0,.osl id g 0 (C a)),(3,sv (a_ (bT [32] (bs (a.take k))))),(4,iv (k:Int))],H)) (λk=>k<=C a) (λk=>C a - k) 0 (l7 _) ?_ ?_
 .exact E0
 rintro k J;have E:N (a_ (bT [32] (bs (a.take k))))<=dF a+C a:=by
  rw[cA];have o:=gA (a.take k);have p:=oK a k;have G:C (a.take k)<=C a:=F_
  omega
 refine S<|U aA<|Y aA<|Y (dR Z aD Z i Z)<|V cI<|Cn ?_ ?_<;>intro h
 .have e:k<C a:=I_ h
  have ⟨w,m⟩:=aR e;have j:=Z0 m;have d:=B5 m;have F:N w<=dF a:=by
   have o:=yE m;have p:=oK a (k+1);omega
  have B:N (⟨#[32]⟩:B_)=1:=rfl;have D:N (a_ (bT [32] (bs (a.take k)))++⟨#[32]⟩)=N (a_ (bT [32] (bs (a.take k))))+1:=zX _ _;refine aB<|S<|aE<|S<|U aA<|V iX<|Cn ?_ ?_<;>intro f
  .have n:0<k:=I_ f
   rw[b6 n]at d;refine Rd aA<|Y kq<|V aH<|Rd aA<|Y aA<|Y aA<|Y (dL Z aY Z i Z Z Z X x7 e (r7 _))<|Y (aX Z N_ Z i Z j Z)<|Y kq<|V aH<|Rd aA<|Y iD<|Da ?_;refine⟨k+1,X,X,?_⟩;rw[d];exact E0
  have n:¬ 0<k:=J_ f
  rw[a8 n]at d;refine aB<|Rd aA<|Y aA<|Y aA<|Y (dL Z aY Z i Z Z Z X x7 e (r7 _))<|Y (aX Z N_ Z i Z j Z)<|Y kq<|V aH<|Rd aA<|Y iD<|Da ?_;refine⟨k+1,X,X,?_⟩;rw[d];exact E0
 have l:k=C a:=J_ h
 subst l;rw[take_length];refine aP<|U aA<|V aH<|aC<|cT (H':=H) (.inr Z) Z (aI Z) Fin.refl Qq
theorem WR{e}{a}(b:e.op≠1)(h:bs a=gS e):a_ (bT [32] (bs a))++⟨#[10]⟩=a_ (fT e++[10]):=yN b h
theorem v7{p:Prop}(h:p:=by simp only[cN,j6,length_nil];omega):p:=h
theorem Vp(e:b8)(H:aF)(r4:V4 e)(I:gK e=T):RC 166 [av (bL e)] (.tup [sv (a_ (fT e++[10])),bv (θ (fX e=0))]) H:=by
 refine Pu ?_;have ⟨⟨o1,o2⟩,f,o4⟩:=uW.1 I;rw[xH]at f;have g:=JE I;have y:dF []=0:=rfl;refine Bd func166 Z ntmps166<|U (kb 1)<|Y aH<|V aH<|S<|U (bC iU)<|V (bQ M_)<|aE<|U cF<|Da<|Cn ?_ ?_<;>intro u
 .have p:e.op=1:=b9 u;have b:=NH (o:=e.obj);have n:N (⟨#[112,117,116]⟩:B_)=3:=rfl;have E:N (⟨#[10]⟩:B_)=1:=rfl;have J:N (a_ (bT [32] (bs [⟨#[112,117,116]⟩,(fK e.obj).1])))<=70000:=by
   rw[cA];have:=gA [⟨#[112,117,116]⟩,(fK e.obj).1];simp only[cN,j6,length_nil]at this;omega
  have c:a_ (bT [32] (bs [⟨#[112,117,116]⟩,(fK e.obj).1]))++⟨#[10]⟩=a_ (fT e++[10]):=tn (by
   rw[cG,fT,b6 p];simp[a_,bs,bT,wPut])
  refine U (bC vO)<|Y (by exact aW Z cB sizeOf135 Z Z Z Z (by simp only[Zl,bU,bS,S_,bL,gU];rfl) Z)<|Y (kc call217 (C4 e.obj _ r4.2.2))<|Y aA<|Y dO<|Y dO<|Y aH<|V aH<|U aA<|Y (aL [S_ ⟨#[112,117,116]⟩,S_ (fK e.obj).1] Z aY Z Z Z Z Z (jF [⟨#[112,117,116]⟩,(fK e.obj).1]))<|Y (kc call221 (GC [⟨#[112,117,116]⟩,(fK e.obj).1] _ v7))<|Y (fJ Z Z Z X c)<|Y aA<|Y cF<|Y aH<|V aH<|aC<|Ru ?_;rw[show fX e=(fK e.obj).2 from b6 p];exact Qq
 have p:e.op≠1:=b_ u;rw[a8 p,l6]at f;have ⟨h,D⟩:=f;have j:=dS h;refine U cF<|Da<|Cn ?_ ?_<;>intro R
 .have m:e.op=2:=b9 R;rw[b6 m,ra,l6,k_,k_]at D;have z:0<=e.x/\e.x<1048576:=X
  have K:0<=e.y/\e.y<1048576:=X
  have six:N (aV e.x)<=7:=by rw[<-aS];show C (Lib.itoa e.x)<=7;rw[kK _ z.1];exact cX X E_
  have τ:N (aV e.y)<=7:=by rw[<-aS];show C (Lib.itoa e.y)<=7;rw[kK _ K.1];exact cX X E_
  have k:N (⟨#[109,111,118,101]⟩:B_)=4:=rfl;have l:bs [⟨#[109,111,118,101]⟩,e.id,aV e.x,aV e.y]=gS e:=by
   rw[gS]
   (rw[b6 m];rfl)
  have B:e.op≠1:=X
  have J:N (a_ (bT [32] (bs [⟨#[109,111,118,101]⟩,e.id,aV e.x,aV e.y])))<=70000:=by
   rw[cA];have:=gA [⟨#[109,111,118,101]⟩,e.id,aV e.x,aV e.y];simp only[cN,j6,length_nil]at this;omega
  have E:N (⟨#[10]⟩:B_)=1:=rfl;refine S<|aM a7<|Cq (bC kB)<|Cq (bQ N_)<|Cq (bC jP)<|Cq (bC nA)<|Cq (bQ M_)<|Cq (kc call222 (QB e.x _ X X))<|Cq (bC jP)<|Cq (bC mZ)<|Cq (bQ M_)<|Cq (kc call222 (QB e.y _ X X))<|Cq (aL (([⟨#[109,111,118,101]⟩,e.id,aV e.x,aV e.y]:List B_).map S_) Z aY Z Z Z Z Z (jF _))<|Cq (kc call221 (GC [⟨#[109,111,118,101]⟩,e.id,aV e.x,aV e.y] _ v7))<|Cq kq<|Cq aH<|Cq aH<|bG<|Kr<|aC<|Ru ?_;rw[WR B l,show fX e=0 from a8 B];exact Qq
 have m:e.op≠2:=b_ R;rw[a8 m]at D;refine U cF<|Da<|Cn ?_ ?_<;>intro W
 .have n:e.op=3:=b9 W;rw[b6 n,l6,k_]at D;have r:=dS D.1;have hq:=rT e.val;have k:N (⟨#[116,97,103]⟩:B_)=3:=rfl;have l:bs [⟨#[116,97,103]⟩,e.id,e.key,⟨(dB (ν (μ e.val))).toArray⟩]=gS e:=by
   rw[gS]
   (rw[a8 m,b6 n];rfl)
  have B:e.op≠1:=X
  have J:N (a_ (bT [32] (bs [⟨#[116,97,103]⟩,e.id,e.key,⟨(dB (ν (μ e.val))).toArray⟩])))<=70000:=by
   rw[cA];have:=gA [⟨#[116,97,103]⟩,e.id,e.key,⟨(dB (ν (μ e.val))).toArray⟩];simp only[cN,j6,length_nil]at this;omega
  have E:N (⟨#[10]⟩:B_)=1:=rfl;refine S<|aM a7<|Cq (bC kB)<|Cq (bQ N_)<|Cq (bC oA)<|Cq (bQ N_)<|Cq (bC pC)<|Cq (bQ N_)<|Cq (kc call223 (M7 e.val _ X))<|Cq (aL (([⟨#[116,97,103]⟩,e.id,e.key,⟨(dB (ν (μ e.val))).toArray⟩]:List B_).map S_) Z aY Z Z Z Z Z (jF _))<|Cq (kc call221 (GC [⟨#[116,97,103]⟩,e.id,e.key,⟨(dB (ν (μ e.val))).toArray⟩] _ v7))<|Cq kq<|Cq aH<|Cq aH<|bG<|Kr<|aC<|Ru ?_;rw[WR B l,show fX e=0 from a8 B];exact Qq
 have n:e.op≠3:=b_ W;rw[a8 n]at D;refine U cF<|Da<|Cn ?_ ?_<;>intro q
 .have o:e.op=4:=b9 q;rw[b6 o,l6,l6,k_,k_,all_eq_true]at D;have ⟨⟨r1,r2⟩,P⟩:=D;have x:dF e.refs<=24*C e.refs:=pN (λs i=>dS (P s i));have k:N (⟨#[114,101,102,115]⟩:B_)=4:=rfl;have F:∀H,H.get 901=A ⟨1,1,9,VI (⟨#[114,101,102,115]⟩::e.id::e.refs)⟩->RC 221 [.osl 901 1 0 (C (⟨#[114,101,102,115]⟩::e.id::e.refs))] (sv (a_ (bT [32] (bs (⟨#[114,101,102,115]⟩::e.id::e.refs))))) H:=λH L=>If _ H 901 1 L (by simp only[cN,j6];omega);have l:bs (⟨#[114,101,102,115]⟩::e.id::e.refs)=gS e:=by rw[gS,a8 m,a8 n,b6 o];rfl
  have J:(a_ (bT [32] (bs (⟨#[114,101,102,115]⟩::e.id::e.refs)))).size<=70000:=by
   rw[cA];have:=gA (⟨#[114,101,102,115]⟩::e.id::e.refs);simp only[cN,j6]at this;omega
  have E:N (⟨#[10]⟩:B_)=1:=rfl;have G:C (e.refs.map S_)=C e.refs:=g_ _;have d:VI [⟨#[114,101,102,115]⟩,e.id]++(e.refs.map S_).map (·.map .pv)=VI (⟨#[114,101,102,115]⟩::e.id::e.refs):=by rw[<-Kl];rfl
  refine U (bC kB)<|Y (bQ N_)<|Y (eO (id:=901) Z aY Z Z Z Z F_ Z)<|Y (bC iT)<|Y (bQ aG)<|Y (bW (ps:=e.refs.map S_) Z aY sW Z Z Z Z Z Z Z (jF e.refs) (m:=C e.refs) G X (Nat.add_comm 2 _:2+C e.refs=C (⟨#[114,101,102,115]⟩::e.id::e.refs)) d)<|Y (kc call221 (F _ Z))<|Y kq<|Y aH<|V aH<|aC<|Ru ?_;rw[WR p l,show fX e=0 from a8 p];exact Qq
 have o:e.op≠4:=b_ q;rw[a8 o]at D;refine U cF<|Da<|Cn ?_ ?_<;>intro v
 .have t:e.op=5:=b9 v;have k:N (⟨#[100,114,111,112]⟩:B_)=4:=rfl;have l:bs [⟨#[100,114,111,112]⟩,e.id]=gS e:=by
   rw[gS]
   (rw[a8 m,a8 n,a8 o,b6 t];rfl)
  have B:e.op≠1:=X
  have J:N (a_ (bT [32] (bs [⟨#[100,114,111,112]⟩,e.id])))<=70000:=by
   rw[cA];have:=gA [⟨#[100,114,111,112]⟩,e.id];simp only[cN,j6,length_nil]at this;omega
  have E:N (⟨#[10]⟩:B_)=1:=rfl;refine U (bC kB)<|Y (bQ N_)<|Y (aL (([⟨#[100,114,111,112]⟩,e.id]:List B_).map S_) Z aY Z Z Z Z Z (jF _))<|Y (kc call221 (GC [⟨#[100,114,111,112]⟩,e.id] _ v7))<|Y kq<|Y aH<|V aH<|aC<|Ru ?_;rw[WR B l,show fX e=0 from a8 B];exact Qq
 have t:e.op≠5:=b_ v;rw[a8 t]at D;refine U cF<|Da<|Cn ?_ ?_<;>intro a
 .have Q:e.op=6:=b9 a;rw[b6 Q,l6]at D;have w:=dS D.1;have b:=dS D.2;have k:N (⟨#[115,112,108,105,116]⟩:B_)=5:=rfl;have l:bs [⟨#[115,112,108,105,116]⟩,e.id,e.node,e.other]=gS e:=by
   rw[gS]
   (rw[a8 m,a8 n,a8 o,a8 t,b6 Q];rfl)
  have B:e.op≠1:=X
  have J:N (a_ (bT [32] (bs [⟨#[115,112,108,105,116]⟩,e.id,e.node,e.other])))<=70000:=by
   rw[cA];have:=gA [⟨#[115,112,108,105,116]⟩,e.id,e.node,e.other];simp only[cN,j6,length_nil]at this;omega
  have E:N (⟨#[10]⟩:B_)=1:=rfl;refine U (bC kB)<|Y (bQ N_)<|Y (bC rC)<|Y (bQ N_)<|Y (bC kV)<|Y (bQ N_)<|Y (aL (([⟨#[115,112,108,105,116]⟩,e.id,e.node,e.other]:List B_).map S_) Z aY Z Z Z Z Z (jF _))<|Y (kc call221 (GC [⟨#[115,112,108,105,116]⟩,e.id,e.node,e.other] _ v7))<|Y kq<|Y aH<|V aH<|aC<|Ru ?_;rw[WR B l,show fX e=0 from a8 B];exact Qq
 have Q:e.op≠6:=b_ a;rw[a8 Q]at D;have b:=dS D;have k:N (⟨#[106,111,105,110]⟩:B_)=4:=rfl;have l:bs [⟨#[106,111,105,110]⟩,e.id,e.other]=gS e:=by
  rw[gS]
  (rw[a8 m,a8 n,a8 o,a8 t,a8 Q];rfl)
 have B:e.op≠1:=X
 have J:N (a_ (bT [32] (bs [⟨#[106,111,105,110]⟩,e.id,e.other])))<=70000:=by
  rw[cA];have:=gA [⟨#[106,111,105,110]⟩,e.id,e.other];simp only[cN,j6,length_nil]at this;omega
 have E:N (⟨#[10]⟩:B_)=1:=rfl;refine aB<|U (bC kB)<|Y (bQ N_)<|Y (bC kV)<|Y (bQ N_)<|Y (aL (([⟨#[106,111,105,110]⟩,e.id,e.other]:List B_).map S_) Z aY Z Z Z Z Z (jF _))<|Y (kc call221 (GC [⟨#[106,111,105,110]⟩,e.id,e.other] _ v7))<|Y kq<|Y aH<|V aH<|aC<|Ru ?_;rw[WR B l,show fX e=0 from a8 B];exact Qq
theorem SK(l:List b8)(H:aF)(E:C l<2^40)(z:∀e∈l,V4 e)(B:∀e∈l,C e.refs<2^40):RC 110 [.pv (kP l)] (.tup [sv (eG l).1,iv (eG l).2]) H:=by
 refine Pu ?_;have G:C (l.map bL)=C l:=g_ _;refine Bd func110 Z ntmps110<|U aH<|V aH<|S<|U aA<|Y (kc call165 (Ct l _ E z B))<|V iH<|Cn ?_ ?_<;>intro p
 .have t:lP l=η:=by have h:=p;rwa [r9]at h
  rw[show eG l=(a6,1)by rw[eG,t];rfl];exact U aH<|V aH<|aC<|Ru<|Qq
 have t:lP l=T:=by have h:=p;rwa [Bool.not_eq_false']at h
 have D:=(OY t).2.2;have y:eG l=(a_ (sC [] l).1,(sC [] l).2):=by rw[eG,t];rfl
 refine aB<|Sz aH<|S<|Sz aH<|aE<|bF (σ:=Nat) (λk=>([(0,.pv (kP l)),(4,sv (a_ (qI l k))),(5,iv (k:Int))],[])) (λk=>k<=C l/\sC [] l=sC (qI l k) (l.drop k)/\C (qI l k)<=20000) (λk=>C l - k) 0 ⟨l7 _,Z,l7 _⟩ ?_ ?_
 .exact Wk
 rintro k ⟨hk,i,hA⟩;refine S<|U aA<|Y aA<|Y (fM fD)<|V cI<|Cn ?_ ?_<;>intro o
 .have m:k<C l:=I_ o
  have ⟨e,n⟩:=aR m;have hi:=cC (f:=bL) n;have j:=m7 n;have c:=ZC n;have F:=X6 (D e j);have u:l.drop k=e::l.drop (k+1):=by
   rw[drop_eq_getElem_cons m]
   simp_all
  rw[u,sC]at i;have I:N (a_ (qI l k))=C (qI l k):=cA _;have K:N (a_ (fT e++[10]))=C (fT e)+1:=by rw[cA,j8];rfl
  have x:a_ (qI l k)++a_ (fT e++[10])=a_ (qI l (k+1)):=tn (by
   rw[show (a_ (qI l k)++a_ (fT e++[10])).data.toList=(a_ (qI l k)).data.toList++(a_ (fT e++[10])).data.toList by simp,cG,cG,cG,c])
  have J:N (a_ (qI l (k+1)))=C (qI l (k+1)):=cA _;refine aB<|S<|aE<|U aA<|Y aA<|Y (iV fo)<|Y (by exact fF Z cY bD Z X (by simp only[Zl,bU,bS,S_,bL,gU];rfl) Z)<|Y (kc call166 (Vp e _ (z e j) (D e j)))<|Y aA<|Y dO<|Y dO<|Y aH<|V aH<|U aA<|Y aA<|Y (fJ Z Z Z X x)<|V aH<|S ?_;refine aT (t:=34) (n:=8) (A_:=!θ (fX e=0)||θ ((20000:Int)<(N (a_ (qI l (k+1))):Int))) ?_ ?_
  .all_goals refine Y aA<|Y iH<|Dm ?_<;>(refine Sp 30 (λw=>?_) λw=>?_)<;>(first|exact s_|refine M<|M<|M ?_|refine O aA<|O (gL U_)<|O iX ?_)<;>refine V cD ?_<;>exact Gj (h:=by simp_all)
  refine Cn ?_ ?_<;>intro s
  .have q:fX e≠0\/20000<C (qI l k++(fT e++[10])):=by have h:=s;rw[<-c];simp only[Bool.or_eq_true,r9,q7,k_]at h;omega
   rw[b6 q]at i;rw[y,i];exact U aH<|V aH<|aC<|Ru<|Qq
  have f:¬ (fX e≠0\/20000<C (qI l k++(fT e++[10]))):=by have h:=s;rw[<-c];simp only[q_,Bool.not_eq_false',q7,k_]at h;omega
  rw[a8 f,<-c]at i;rw[<-c]at f;refine aB<|Rd aA<|Y iD<|Da ?_;exact⟨k+1,⟨m,i,X⟩,X,Wk⟩
 have v:k=C l:=J_ o
 subst v;rw[drop_length,sC]at i;rw[y,i];exact aP<|U aA<|Y aH<|V aH<|aC<|Ru<|Qq
theorem xX(n:Nat):aV n=a_ (decDigits n):=mR (Z)
theorem CD(x)(a:0<=x)(B:x<9223372036854775808)(H):RC 84 [iv x] (sv (aV x)) H:=by obtain ⟨n,rfl⟩:=Int.eq_ofNat_of_zero_le a;exact SI n X H
def cr(r:j_):List B_:=[HJ,aV r.kind,aV r.author,aV r.number,aV r.clock,r.branch,aV (C r.parents:Int)]
def aEa(r:j_)(u4:B_):List B_:=[u4,r.target,aV (if r.yes then 1 else 0),aV r.order,r.from']
def Ph(r:j_)(u4 y:B_):List B_:=[u4,r.target,y,aV r.order,r.from']
theorem Cz(r):vR r=(cr r++r.parents)++aEa r (kJ r.edits).1:=rfl
theorem Mn{r}(h:VF r):0<=r.order/\r.order<=4:=by
 rw[h.od,Gx]
 split
 .next a =>
  have:=h.k;rw[NQ,b6 a,mV,l6,k_,k_]at this;omega
 omega
theorem IL(f:α->List PV)(l:List _){n}(h:C l=n):((l.map f).take (0+n)).drop 0=l.map f:=by rw[<-h];exact fR f l
theorem dX(l:List _):∀r∈l.map S_,C r=1:=by intro r a;obtain ⟨s,_,rfl⟩:=mem_map.1 a;rfl
theorem YN(r:j_)(B:mT r)(j:VF r)(K:∀e∈r.edits,C e.refs<2^40):aU φ 70 [av (eA r)] [] (λx H'=>x=.osl 971 2 0 (C (vR r))/\H'=[(971,⟨2,1,9,bZ (vR r)⟩)]):=by
 have L:=B4 j.k;have D:=j.au;have G:=j.nu;have E:=j.cl;have I:=Mn j;have J:=j.pal;have n:C (r.parents.map S_)=C r.parents:=g_ _;have F:C (r.edits.map bL)=C r.edits:=g_ _;have p:=λH=>CD r.kind X X H;have w:=λH=>CD r.author X X H;have q:=λH=>CD r.number X X H;have o:=λH=>CD r.clock X X H;have v:∀H,RC 84 [iv (C (r.parents.map S_):Int)] (sv (aV (C r.parents:Int))) H:=λH=>by
  rw[n];exact CD (C r.parents:Int) X X H
 have z:=λH=>CD r.order X X H;have t:=λH=>SK r.edits H B.2.2.2.1.1 B.2.2.2.1.2 K;have s:bZ (cr r)++(r.parents.map S_).map (·.map AV.pv)=bZ (cr r++r.parents):=eX _ _;rw[Cz];have ⟨u4,i⟩:∃u4,u4=(kJ r.edits).1:=X_;rw[<-i];rw[kJ]at i;refine Bd func70 Z ntmps70 ?_;have u:C (bZ (cr r++r.parents))=7+C r.parents:=by rw[bZ,g_,j8];rfl
 refine U (kb 1)<|V aH<|S<|aM a7<|Cr [1] (λ_ h=>fh oX h)<|Cr [1] (λ_ h=>lh M_ h)<|x_ (by exact bH Z Z gW Z (p _))<|Cr [1] (λ_ h=>fh FW h)<|Cr [1] (λ_ h=>lh M_ h)<|x_ (by exact bH Z Z gW Z (w _))<|Cr [1] (λ_ h=>fh A1 h)<|Cr [1] (λ_ h=>lh M_ h)<|x_ (by exact bH Z Z gW Z (q _))<|Cr [1] (λ_ h=>fh FV h)<|Cr [1] (λ_ h=>lh M_ h)<|x_ (by exact bH Z Z gW Z (o _))<|Cr [1] (λ_ h=>fh DQ h)<|Cr [1] (λ_ h=>lh N_ h)<|Cr [1] (λ_ h=>fh oW h)<|Cr [1] (λ_ h=>lh aG h)<|x_ ((fM aD))<|x_ (by exact bH Z Z gW Z (v _)) ?_;refine Cp [971] (λg d=>by exact eO (id:=971) Z aY Z Z Z Z F_ ((d _ Z).trans Z))<|Cr [971] (λ_ _=>aH)<|bG<|Kr<|U aA<|Y (bC oW)<|Y (bQ aG)<|Y (by exact bW (k:=7+r.parents.length) (ps:=r.parents.map S_) Z aY sW Z Z Z Z Z Z Z (dX _) (m:=r.parents.length) n X Z s)<|V aH<|Sr<|Da ?_;refine eR (λ(_:Unit)=>([(1,.ref 1 0 0 0),(3,.osl 971 1 0 (7+r.parents.length)),(4,sv u4)],[(1,bx 21 53 ((eA r).map .pv)),(971,⟨1,1,9,bZ (cr r++r.parents)⟩)])) (λ_=>True) ?_ ?_
 .refine U (bC DP)<|Y (bQ pG)<|Y (fM fD)<|V iX<|Cn ?_ ?_<;>intro l
  .have f:0<C r.edits:=I_ l
   rw[a8 X]at i;subst i;refine Rd (bC DP)<|Y (bQ pG)<|Y (kc call110 (t _))<|Y aA<|Y dO<|Y dO<|Da ?_;exact⟨(),T_,L_⟩
  have f:C r.edits=0:=J_ l
  rw[b6 f]at i;subst i;refine aB ?_;exact⟨(),T_,L_⟩
 rintro _ -;refine Sr<|Da<|eR (λ(y:B_)=>([(1,.ref 1 0 0 0),(3,.osl 971 1 0 (7+C r.parents)),(4,sv u4),(5,sv y)],[(1,bx 21 53 ((eA r).map .pv)),(971,⟨1,1,9,bZ (cr r++r.parents)⟩)])) (λy=>y=aV (if r.yes then 1 else 0)) ?_ ?_
 .refine U (bC JH)<|V (bQ nO)<|Cn ?_ ?_<;>intro k
  .have m:(⟨#[49]⟩:B_)=aV (if r.yes then 1 else 0):=by rw[k];kernel_rfl
   refine Rg<|Da ?_;exact⟨_,m,L_⟩
  have m:(⟨#[48]⟩:B_)=aV (if r.yes then 1 else 0):=by rw[k];kernel_rfl
  refine aB ?_;exact⟨_,m,L_⟩
 rintro y m;rw[show aEa r u4=Ph r u4 y by rw[m];rfl];refine S<|aM a7<|Cr [971] (λ_ _=>aA)<|x_ aA<|Cr [1] (λ_ h=>fh DO h)<|Cr [1] (λ_ h=>lh N_ h)<|x_ aA<|Cr [1] (λ_ h=>fh yU h)<|Cr [1] (λ_ h=>lh M_ h)<|x_ (by exact bH Z Z gW Z (z _))<|Cr [1] (λ_ h=>fh xP h)<|Cr [1] (λ_ h=>lh N_ h)<|x_ (by exact aL ((Ph r u4 y).map S_) Z aY Z Z Z Z Z (dX _))<|Cp [971] (λg d=>by exact bW (ob:=⟨1,1,9,bZ (cr r++r.parents)⟩) (k:=C ((cr r++r.parents)++Ph r u4 y)) (ps:=(Ph r u4 y).map S_) Z aY sW Z ((d _ Z).trans Z) Z Z Z u Z (dX _) (m:=5) Z X (by rw[j8,j8];rfl) (eX _ _))<|Cr [971] (λ_ _=>aH)<|bG<|Kr<|aC ?_;refine cT (H':=[(971,⟨2,1,9,bZ ((cr r++r.parents)++Ph r u4 y)⟩)]) (.inr Z) Z (aI Z) P_ ?_;exact Qq
theorem Pj(r)(b:mT r)(c:VF r)(a:∀e∈r.edits,C e.refs<2^40)(H):RC 70 [av (eA r)] (.pv (aK (vR r))) H:=by refine aU.pure ((YN r b c a).fin ?_) H_ H;rintro _ _ ⟨rfl,rfl⟩;exact⟨_,[],Fin.fz (id:=971) _ Z (dA _) (.osl (fR _ _)) Z T_ T_,Z,Z⟩
theorem JM{v:Nat}(h:10 ^ k<=v):k<C (decDigits v):=by
 induction k generalizing v with
 |zero=>exact length_pos_iff.2 (oC v)
 |succ k D =>
  rw[Nat.pow_succ]at h;have E:0<10 ^ k:=Nat.pow_pos E_;have B:¬ v<10:=X
  rw[decDigits,dif_neg B,j8];have:=D (v:=v / 10) X;simp only[j6,length_nil];omega
def eQ(s:B_):Int:=if uL s=η/\0<=jJ s/\N s<=6/\aV (jJ s)=s then jJ s else -1
theorem GX{n:Int}(B:0<=n)(E:n<1000000):eQ (aV n)=n:=by
 have ⟨a,b⟩:=UZ B X;have D:N (aV n)<=6:=by
  obtain ⟨k,rfl⟩:∃k:Nat,n=(k:Int):=⟨n.toNat,X⟩;rw[xX,cA];exact cX (k:=6) X E_
 rw[eQ,b6 (by rw[a,b];exact⟨Z,B,D,Z⟩),b]
theorem GW(s:B_): -1<=eQ s/\eQ s<1000000:=by
 rw[eQ]
 split
 .next h =>
  have ⟨F,G,H,B⟩:=h;refine⟨X,?_⟩;have ⟨k,D⟩:∃k:Nat,jJ s=(k:Int):=⟨(jJ s).toNat,X⟩;rw[D]at B |-;rw[xX]at B;have J:=jT k;have E:C (decDigits k)<=6:=by have:=congrArg ByteArray.size B;rw[cA]at this;omega
  by_cases I:k<1000000
  .omega
  exact absurd E (by have:=JM (v:=k) (k:=6) X;omega)
 omega
def rM(l:List UInt8):Bool:=!θ ((58:UInt8)∈l)||θ (eQ (a_ (CL l))<0)||θ ((C (EF l):Int)<eQ (a_ (CL l)))
def ZO(l:List UInt8):Nat:=(eQ (a_ (CL l))).toNat
def rA(l:List UInt8):Option (List B_) :=if h:l=[]then A []else if rM l=T then ζ else(rA ((EF l).drop (ZO l))).map (a_ ((EF l).take (ZO l))::·)
termination_by (C l)
decreasing_by
 have h1:=length_pos_iff.2 h;have h2:=(dropWhile_sublist (l:=l) λb=>!θ (b=58)).length_le;rw[p_,EF,p_];omega
theorem uN:∀(L:List B_),(∀s∈L,N s<1000000)->rA (aO L)=A L
 | [],_=>by rw[show aO []=[]from Z,rA,dif_pos rfl]
 | x::L,h=>by
  have J:=h x mem_cons_self;have ⟨E,B⟩:=lz (r:=ν (μ x)++aO L) (UL (N x));rw[<-gY]at E B;have F:eQ (a_ (CL (aO (x::L))))=(N x:Int):=by rw[E,<-xX,GX X X]
  have D:(58:UInt8)∈aO (x::L):=by rw[gY];simp
  have H:rM (aO (x::L))=η:=by
   rw[rM,F,B,decide_eq_true D,decide_eq_false X,decide_eq_false (by rw[j8,aS];omega)];rfl
  have G:ZO (aO (x::L))=N x:=by rw[ZO,F,l_]
  rw[rA,dif_neg (λe=>by rw[e]at D;cases D),a8 (by rw[H];decide),G,B,drop_left' (aS x),take_left' (aS x),uN L λs I=>h s (mem_cons_of_mem _ I),gE];rfl
def oY(p x:B_):Bool:=p.data.toList.isPrefixOf (ν (μ x))
def fZ(ids:List B_)(p:B_):List B_:=ids.filter (oY p)
structure j0 where
 pre:B_
 cnt:Nat
 sum:B_
 ids:List B_
variable{p:j0}{P:List j0}
def cV(ids:List B_)(p:B_):j0:=⟨p,C (fZ ids p),yY (fZ ids p),if C (fZ ids p)<=16 then fZ ids p else[]⟩
def fldW(p:j0):List B_:=[p.pre,aV (p.cnt:Int),p.sum]++p.ids
def fA:B_:=⟨#[111,102,102,101,114]⟩
def pP:B_:=⟨#[119,97,110,116]⟩
def mI(L:List (List B_)):B_:=a_ (aO (fA::aV (C L:Int)::L.flatten))
def iW(L:List (List B_)):B_:=a_ (aO (pP::L.flatten))
def lW(s:B_):Bool:=θ (N s<=16)&&s.data.toList.all sS
def AX(p:B_):List B_->Bool
 | []=>T
 | [x]=>m6 x&&oY p x
 |x::y::r=>m6 x&&oY p x&&jV x y&&AX p (y::r)
def VJ:Nat->List B_->Option (List j0)
 |_,[]=>A []
 | n + 1, a :: b :: c :: r =>
  if (lW a && θ (0 <= eQ b) && m6 c) = T then
   if eQ b<=16 then
    if eQ b<=(C r:Int)/\AX a (r.take (eQ b).toNat)=T/\yY (r.take (eQ b).toNat)=c then
     (VJ n (r.drop (eQ b).toNat)).map (⟨a,(eQ b).toNat,c,r.take (eQ b).toNat⟩::·)
    else ζ
   else(VJ n r).map (⟨a,(eQ b).toNat,c,[]⟩::·)
  else ζ
 |_,_=>ζ
def uS(t:B_):List j0:=match rA (ν (μ t)) with
 |some (o::n::r)=>if o=fA then(match VJ (C r) r with|some P=>if(C P:Int)=eQ n then P else[]|none=>[])else[]
 |_=>[]
def AN(t:B_):List B_:=match rA (ν (μ t)) with
 |some (o::i::r)=>if o=pP/\(i::r).all m6=T then i::r else[]
 |_=>[]
structure GoodP(p:j0):Prop where
 pre:lW p.pre=T
 cnt:p.cnt<1000000
 sum:m6 p.sum=T
 sml:p.cnt<=16->C p.ids=p.cnt/\AX p.pre p.ids=T/\yY p.ids=p.sum
 big:16<p.cnt->p.ids=[]
theorem Ln(h:GoodP p)(n:Nat)(R:List B_):VJ (n+1) (fldW p++R)=(VJ n R).map (p::·):=by
 have ⟨a,c,s,l⟩:=p;have ⟨D,E,F,G,H⟩:=h;have I:eQ (aV (c:Int))=(c:Int):=GX X (by simp only at E;omega);simp only at D E F G H;show VJ (n+1) (a::aV (c:Int)::s::(l++R))=_;rw[VJ,b6 (by rw[D,I,F,decide_eq_true X];rfl),I,l_];by_cases J:c<=16
 .have ⟨e1,e2,e3⟩:=G J;have B:(l++R).take c=l:=take_left' e1;have K:(l++R).drop c=R:=drop_left' e1;rw[b6 X,b6 ⟨by rw[j8];omega,by rw[B];exact e2,by rw[B];exact e3⟩,B,K]
 obtain rfl:=H X;rw[a8 X];rfl
theorem QC(n:Nat):VJ n []=A []:=by cases n<;>rfl
theorem xl:∀(P:List j0) (n:Nat),(∀p∈P,GoodP p)->C P<=n->VJ n (P.map fldW).flatten=A P
 | [],n,_,_=>QC n
 |p::P,0,_,h=>by simp at h
 |p::P,n+1,h,hn=>by
  rw[List.map_cons,List.flatten_cons,Ln (h p List.mem_cons_self),xl P n (λq B=>h q (List.mem_cons_of_mem _ B)) (by simpa using hn)];rfl
theorem LP:∀ {p:B_} {l:List B_},AX p l=T->∀x∈l,m6 x=T/\oY p x=T
 |_,[],_,x,hx=>by cases hx
 |p,[a],h,x,hx=>by
  rw[q9]at hx;subst hx
  simpa[AX]using h
 |p,a::b::r,h,x,hx=>by
  simp only[AX,l6]at h;rcases l9.1 hx with rfl|hx
  .exact h.1.1
  exact LP h.2 x hx
theorem UG(h:GoodP p):∀s∈fldW p,N s<1000000:=by
 intro s B;rw[fldW,mem_append]at B;rcases B with B|B
 .simp only[l9,q8,or_false]at B;rcases B with rfl|rfl|rfl
  .have:=h.pre;rw[lW,l6,k_]at this;omega
  .have:=nY (n:=(p.cnt:Int)) X (by have:=h.cnt;omega);omega
  have:=iJ h.sum;omega
 by_cases D:p.cnt<=16
 .have:=iJ ((LP (h.sml D).2.1 s B).1);omega
 rw[h.big X]at B;cases B
theorem GS(P:List j0)(h:∀p∈P,GoodP p)(F:C P<1000000):uS (mI (P.map fldW))=P:=by
 have B:∀s∈fA::aV (C (P.map fldW):Int)::(P.map fldW).flatten,N s<1000000:=by
  intro s B;rcases l9.1 B with rfl|B
  .decide
  rcases l9.1 B with rfl|B
  .have:=nY (n:=(C (P.map fldW):Int)) X (by rw[g_];omega);omega
  have ⟨q,H,E⟩:=mem_flatten.1 B;obtain ⟨p,G,rfl⟩:=mem_map.1 H;exact UG (h p G) s E
 have D:C P<=C ((P.map fldW).flatten):=by
  clear B h F
  induction P with
  |nil=>exact h_ _
  |cons p P I=>rw[map_cons,flatten_cons,j8,j6,fldW,j8];simp only[j6,length_nil];omega
 rw[uS,mI,cG,uN _ B];show (if fA=fA then(match VJ _ _ with|some Q=>if(C Q:Int)=eQ _ then Q else[]|none=>[])else[])=_;rw[b6 Z,xl P _ h D];show (if(C P:Int)=eQ (aV (C (P.map fldW):Int))then P else[])=P;rw[GX X (by rw[g_];omega),g_,b6 rfl]
theorem RI(L:List B_)(h:∀s∈L,m6 s=T)(B:L≠[]):AN (iW (L.map λs=>[s]))=L:=by
 have e:(L.map λs=>[s]).flatten=L:=by clear h B;induction L with|nil=>rfl|cons a L E=>rw[map_cons,flatten_cons,E];rfl
 obtain ⟨a,L,rfl⟩:=exists_cons_of_ne_nil B;rw[AN,iW,e,cG,uN _ (by
  intro s D;rcases l9.1 D with rfl|D
  .decide
  have:=iJ (h s D);omega)]
 show (if pP=pP/\(a::L).all m6=T then a::L else[])=_;rw[b6 ⟨Z,all_eq_true.2 h⟩]
theorem xn:∀(p x:List UInt8),(∀b∈x,b<103)->p.isPrefixOf x=(!θ (x<p)&&θ (x<p++[103]))
 | [],[],_=>by simp
 | [],b::x,h=>by
  have E:=h b mem_cons_self;have:(b::x)<[103]:=cons_lt_cons_iff.2 (.inl E);simp[this]
 |c::p,[],_=>by simp
 |c::p,b::x,h=>by
  have G:=xn p x λy F=>h y (mem_cons_of_mem _ F);rw[List.isPrefixOf,G,cons_append];simp only[cons_lt_cons_iff];by_cases e:b=c
  .subst e;simp[UInt8.lt_irrefl]
  have D:(c == b)=η:=by simpa using λh=>e h.symm
  rw[D];by_cases B:b<c
  .simp[B]
  simp[B,e]
theorem Yf{b:UInt8}(h:sS b=T):b<103:=by simp only[sS,Bool.or_eq_true,l6,k_]at h;rcases h with⟨_,h⟩|⟨_,h⟩<;>simp only[UInt8.le_iff_toNat_le,UInt8.lt_iff_toNat_lt]at *<;>(have B:(57:UInt8).toNat=57:=rfl;have D:(102:UInt8).toNat=102:=rfl;have E:(103:UInt8).toNat=103:=rfl;omega)
theorem Xx(h:m6 s=T):∀b∈ν (μ s),b<103:=by rw[m6,l6]at h;exact λb B=>Yf (all_eq_true.1 h.2 b B)
def sG:B_:=⟨#[103]⟩
theorem Zn(p:B_)(h:m6 x=T):oY p x=(!jV x p&&jV x (p++sG)):=by
 rw[oY,xn _ _ (Xx h),zV,zV];have:(p++sG).data.toList=ν (μ p)++[103]:=by rw[ByteArray.data_append,Array.toList_append];rfl
 rw[this]
theorem TM{α:Type}(a b:α->Bool):∀(l:List α),l.Pairwise (λx y=>(a y=T->a x=T)/\(b y=T->b x=T))->(∀x∈l,a x=T->b x=T) ->
  (l.take (l.findIdx λx=>!b x)).drop (l.findIdx λx=>!a x)=l.filter λx=>!a x&&b x
 | [],_,_=>rfl
 | x :: r, h, hab => by
  rw[List.pairwise_cons]at h;have H:=TM a b r h.2 λy B=>hab y (mem_cons_of_mem _ B);rw[findIdx_cons,findIdx_cons];cases E:a x with
  |true =>
   have D:=hab x mem_cons_self E;rw[D];simp only[Bool.not_true,cond_false,take_succ_cons,drop_succ_cons];rw[H,filter_cons_of_neg (by simp[E])]
  | false =>
   have F:∀y∈r,a y=η:=λy B=>by
    cases e:a y with
    |false=>rfl
    |true=>have:=(h.1 y B).1 e;rw[E]at this;cases this
   have I:(r.findIdx λy=>!a y)=0:=by
    cases r with
    |nil=>rfl
    |cons y r=>rw[findIdx_cons,F y mem_cons_self];rfl
   rw[I,drop_zero]at H;cases D:b x with
   |true =>
    simp only[Bool.not_true,Bool.not_false,cond_false,cond_true,take_succ_cons,drop_zero];rw[H,filter_cons_of_pos (by simp[E,D])]
   | false =>
    have G:∀y∈r,b y=η:=λy B=>by
     cases e:b y with
     |false=>rfl
     |true=>have:=(h.1 y B).2 e;rw[D]at this;cases this
    simp only[Bool.not_false,cond_true,take_zero,drop_zero];rw[filter_eq_nil_iff.2];intro y B;rcases l9.1 B with rfl|B
    .simp[D]
    simp[G y B]
abbrev zL(l:List B_):Prop:=l.Pairwise λx y=>jV x y=T
theorem rS{a b:B_}(B:jV a b=T)(D:jV b c=T):jV a c=T:=by rw[zV,k_]at *;exact List.lt_trans B D
theorem wh(x p q:B_)(h:jV x p=T):jV x (p++q)=T:=by
 rw[zV,k_]at *;rw[ByteArray.data_append,Array.toList_append];generalize ν (μ x)=a,ν (μ p)=b,ν (μ q)=c at *
 induction b generalizing a with
 |nil=>exact absurd h (not_lt_nil a)
 | cons y b ih =>
  cases a with
  |nil=>exact nil_lt_cons _ _
  |cons z a =>
   rw[cons_append];rcases cons_lt_cons_iff.1 h with h2|⟨e,h2⟩
   .exact cons_lt_cons_iff.2 (.inl h2)
   exact cons_lt_cons_iff.2 (.inr ⟨e,ih _ h2⟩)
theorem Ip(ids:List B_)(p:B_)(E:zL ids)(D:∀x∈ids,m6 x=T):(ids.take (EB id ids (p++sG))).drop (EB id ids p)=fZ ids p:=by rw[EB,EB,fZ];show (ids.take (ids.findIdx λx=>!jV x (p++sG))).drop (ids.findIdx λx=>!jV x p)=_;rw[TM (λx=>jV x p) (λx=>jV x (p++sG)) ids (E.imp λh=>⟨λB=>rS h B,λB=>rS h B⟩) λx _ h=>wh x p sG h];exact filter_congr λx F=>(Zn p (D x F)).symm
def sV(t:B_):Option B_:=if(eB (ν (μ t))).2=0 then A (JB (eB (ν (μ t))).1)else ζ
def jW(a:List (B_×B_))(t:B_):List (B_×B_):=match sV t with
 |none=>a
 |some i=>if a.any (λp=>θ (p.1=i))=T then a else a++[(i,t)]
def jM(l:List B_):List (B_×B_):=l.foldl jW []
def cR(l:List B_):List B_:=jR ((jM l).map Prod.fst)
def jH(o:List (B_×B_))(i:B_):B_:=((o.find? λp=>θ (p.1=i)).map Prod.snd).getD a6
def lV(ids s:List B_)(i:B_):List B_:=if θ (i∈ids)&&!θ (i∈s)then s++[i]else s
structure GRep where
 sent:List B_
 wants:List (List B_)
 offers:List (List B_)
def tP:List B_:=[48,49,50,51,52,53,54,55,56,57,97,98,99,100,101,102].map λb=>⟨#[b]⟩
def wB(ids:List B_)(r:GRep)(p:j0):GRep :=if p.cnt<=16 then⟨((fZ ids p.pre).filter λi=>!θ (i∈p.ids)).foldl (lV ids) r.sent,r.wants++(p.ids.filter λi=>!θ (i∈ids)).map (λi=>[i]),r.offers⟩
 else if p.cnt=(cV ids p.pre).cnt/\p.sum=(cV ids p.pre).sum then r
 else if(cV ids p.pre).cnt<=16 then⟨r.sent,r.wants,r.offers++[fldW (cV ids p.pre)]⟩
 else⟨r.sent,r.wants,r.offers++tP.map λd=>fldW (cV ids (p.pre++d))⟩
def AR(ids:List B_)(t:B_):GRep:=(uS t).foldl (wB ids) ⟨(AN t).foldl (lV ids) [],[],[]⟩
def SZ(u4:List (List B_)->B_)(l:List (List B_)):Nat->Nat->Nat
 |0,n=>n
 |f+1,n=>if n<C l/\N (u4 (l.take (n+1)))<=18000 then SZ u4 l f (n+1)else n
def XJ(u4:List (List B_)->B_):Nat->List (List B_)->List B_
 |0,_=>[]
 |f+1,l=>if l=[]then[]else u4 (l.take (SZ u4 l (C l) 1))::XJ u4 f (l.drop (SZ u4 l (C l) 1))
def OL(u4:List (List B_)->B_)(l:List (List B_)):List B_:=XJ u4 (C l) l
def gR(B:List B_)(t:B_):List B_ :=(AR (cR B) t).sent.map (jH (jM B))++(OL iW (AR (cR B) t).wants++OL mI (AR (cR B) t).offers)
theorem De(l:List B_)(t:B_):jM (l++[t])=jW (jM l) t:=by rw[jM,foldl_append];rfl
theorem SY(u4:List (List B_)->B_)(l:List (List B_)):∀f n,n<=SZ u4 l f n
 |0,n=>h_ n
 |f+1,n=>by
  rw[SZ]
  split
  .exact Nat.le_trans (Nat.le_succ n) (SY u4 l f (n+1))
  exact h_ n
theorem Dc(l:List B_):((jM l).map Prod.fst).Nodup:=by
 have h:∀(l:List B_) (a:List (B_×B_)),(a.map Prod.fst).Nodup->((l.foldl jW a).map Prod.fst).Nodup:=by
  intro l
  induction l with
  |nil=>exact λa h=>h
  | cons t l ih =>
   intro a h;rw[foldl_cons];refine ih _ ?_;rw[jW];cases sV t with
   |none=>exact h
   |some i =>
    simp only
    split
    .exact h
    next hi =>
    rw[map_append,nodup_append];refine⟨h,H_,?_⟩;intro x E y B e;simp only[map_cons,map_nil,q9]at B;subst B e;obtain ⟨p,D,rfl⟩:=mem_map.1 E;exact hi (any_eq_true.2 ⟨p,D,H_⟩)
 exact h l [] H_
theorem xw(l:List B_)(i:B_):i∈(jM l).map Prod.fst↔∃t∈l,sV t=A i:=by
 have h:∀(l:List B_) (a:List (B_×B_)),i∈(l.foldl jW a).map Prod.fst↔i∈a.map Prod.fst\/∃t∈l,sV t=A i:=by
  intro l
  induction l with
  |nil=>intro a;simp
  | cons t l ih =>
   intro a;rw[foldl_cons,ih];have E:i∈(jW a t).map Prod.fst↔i∈a.map Prod.fst\/sV t=A i:=by
    rw[jW];cases e:sV t with
    |none=>simp
    | some j =>
     simp only
     split
     .next hj =>
      have ⟨p,D,B⟩:=any_eq_true.1 hj;rw[k_]at B;constructor
      .exact .inl
      rintro(h|h)
      .exact h
      obtain rfl:=Option.some.inj h;exact mem_map.2 ⟨p,D,B⟩
     simp[eq_comm]
   rw[E,or_assoc];simp
 rw[jM,h];simp
theorem qU(l:List B_)(i:B_):i∈cR l↔∃t∈l,sV t=A i:=by rw[cR,(pL _).mem_iff,xw]
theorem Bu(l:List B_)(h:l.Nodup):zL (jR l):=by
 have E:(jR l).Nodup:=(pL l).nodup_iff.2 h;have F:(jR l).Pairwise λx y=>vu x<=vu y:=by
  rw[jR,pairwise_map];refine(pairwise_mergeSort (le:=λ(x y:List UInt8)=>θ (x<=y)) (λa b c B D=>?_) (λa b=>?_) (l.map vu)).imp fun {a b} hab=>?_
  .rw[k_]at *;exact List.le_trans B D
  .simp only[Bool.or_eq_true,k_];exact List.le_total a b
  rw[k_]at hab;exact hab
 refine F.imp₂ (λa b B D=>?_) E;rw[zV,k_];rcases List.le_iff_lt_or_eq.1 B with h|h
 ·exact h
 exact absurd (by rw[<-ya a,<-ya b,h]) D
theorem oM(l:List B_):zL (cR l):=Bu _ (Dc l)
theorem RL{r}(h:(mS r).2=0):iE r=T:=by
 by_cases a:iE r=T
 .exact a
 rw[mS,a8 a]at h;cases h
theorem Oo(h:sV t=A i):m6 i=T:=by
 rw[sV]at h
 split at h
 .next h0 =>
  obtain rfl:=Option.some.inj h;rw[JB,b6 (RL (by rw[KT h0]))];exact DJ _
 cases h
theorem NU(l:List B_):∀x∈cR l,m6 x=T:=λx B=>by
 have ⟨t,_,h⟩:=(qU l x).1 B;exact Oo h
theorem B7(l:List B_):C (cR l)<=C l:=by
 rw [cR,jL,g_];have h:∀ (l:List B_) (a:List (B_×B_)),C (l.foldl jW a)<=C a+C l:=by
  intro l
  induction l with
  |nil=>exact λa=>h_ _
  | cons t l ih =>
   intro a;rw[foldl_cons,j6];refine Nat.le_trans (ih _) ?_;have:C (jW a t)<=C a+1:=by
    rw[jW];cases sV t with
    |none=>exact le_succ _
    |some i =>
     simp only
     split
     .exact le_succ _
     rw[j8];exact h_ _
   omega
 have:=h l []
 simpa[jM]using this
theorem BN(s:B_):jV s s=η:=by rw[zV,q7];exact List.lt_irrefl _
theorem EZ:∀(a b:List B_),zL a->zL b->(∀x,x∈a↔x∈b)->a=b
 | [],[],_,_,_=>rfl
 | [],y::b,_,_,h=>by have:=(h y).2 mem_cons_self;cases this
 |x::a,[],_,_,h=>by have:=(h x).1 mem_cons_self;cases this
 | x::a,y::b,ha,hb,h=>by
  have B:=pairwise_cons.1 ha;have D:=pairwise_cons.1 hb;have e:x=y:=by
   rcases l9.1 ((h x).1 mem_cons_self)with e|h1
   .exact e
   rcases l9.1 ((h y).2 mem_cons_self)with e|h2
   .exact e.symm
   have:=rS (B.1 y h2) (D.1 x h1);rw[BN]at this;cases this
  subst e;rw[EZ a b B.2 D.2 λz=>?_];constructor
  .intro E;rcases l9.1 ((h z).1 (mem_cons_of_mem _ E))with e|h1
   .have:=B.1 z E;rw[e,BN]at this;cases this
   exact h1
  intro E;rcases l9.1 ((h z).2 (mem_cons_of_mem _ E))with e|h1
  .have:=D.1 z E;rw[e,BN]at this;cases this
  exact h1
theorem Ye(h:∀t,t∈a↔t∈b):cR a=cR b :=EZ _ _ (oM a) (oM b) λx=>by rw[qU,qU];simp only[h]
theorem C0(h:zL ids)(p:B_):zL (fZ ids p):=h.sublist filter_sublist
theorem yt:∀(p:B_) (l:List B_),zL l->(∀x∈l,m6 x=T/\oY p x=T)->AX p l=T
 |_,[],_,_=>rfl
 |p,[x],_,h=>by
  obtain ⟨a,b⟩:=h x mem_cons_self;rw[AX,a,b];rfl
 |p,x::y::r,B,h=>by
  have ⟨a,b⟩:=h x mem_cons_self;have B:=pairwise_cons.1 B;rw[AX,a,b,B.1 y mem_cons_self,yt p (y::r) B.2 λz D=>h z (mem_cons_of_mem _ D)];rfl
theorem nD(I:zL ids)(F:∀x∈ids,m6 x=T){p:B_}(H:lW p=T)(G:C ids<1000000):GoodP (cV ids p):=by
 have B:C (fZ ids p)<=C ids:=length_filter_le _ _;refine⟨H,Nat.lt_of_le_of_lt B G,DJ _,λD=>?_,λD=>?_⟩
 .have D:C (fZ ids p)<=16:=D;have e:(cV ids p).ids=fZ ids p:=by rw[cV];exact b6 D
  rw[e];exact⟨Z,yt p _ (C0 I p) λx E=>by
   rw[fZ,mem_filter]at E;exact⟨F x E.1,E.2⟩,Z⟩
 have D:16<C (fZ ids p):=D;rw[cV];exact a8 X
theorem P7(ids:List B_):fZ ids a6=ids:=filter_eq_self.2 λx _=>rfl
def gX(ids:List B_):B_:=mI [fldW (cV ids a6)]
theorem DA(F:zL ids)(D:∀x∈ids,m6 x=T)(E:C ids<1000000):uS (gX ids)=[cV ids a6] :=GS [cV ids a6] (λp B=>by rw[q9]at B;subst B;exact nD F D E_ E) (show 1<1000000 by decide)
theorem Uk(L:List (List B_))(h:∀s∈L.flatten,N s<1000000)(D:C L<1000000):rA (mI L).data.toList=A (fA::aV (C L:Int)::L.flatten):=by
 rw[mI,cG];refine uN _ λs B=>?_;rcases l9.1 B with rfl|B
 .decide
 rcases l9.1 B with rfl|B
 .have:=nY (n:=(C L:Int)) X X;omega
 exact h s B
theorem JZ(P:List j0)(h:∀p∈P,GoodP p)(D:C P<1000000):AN (mI (P.map fldW))=[]:=by
 rw[AN,Uk _ (λs G=>by
  have ⟨q,F,B⟩:=mem_flatten.1 G;obtain ⟨p,E,rfl⟩:=mem_map.1 F;exact UG (h p E) s B) (by rw[g_];exact D)]
 show (if fA=pP/\_ then _ else[])=[];rw[a8 λh=>absurd h.1 E_]
theorem Ab(ids:List B_)(r:GRep)(p:B_):wB ids r (cV ids p)=r:=by
 rw[wB];by_cases D:(cV ids p).cnt<=16
 .have hc':C (fZ ids p)<=16:=D;have e:(cV ids p).ids=fZ ids p:=by rw[cV];exact b6 hc'
  have E:((fZ ids (cV ids p).pre).filter λi=>!θ (i∈(cV ids p).ids))=[]:=by
   rw[e];refine filter_eq_nil_iff.2 λx B=>?_;have B:x∈fZ ids p:=B;rw[decide_eq_true B];decide
  have F:((cV ids p).ids.filter λi=>!θ (i∈ids))=[]:=by
   rw[e];refine filter_eq_nil_iff.2 λx B=>?_;rw[fZ,mem_filter]at B;rw[decide_eq_true B.1];decide
  rw[b6 D,E,F];cases r;simp
 rw[a8 D,b6 ⟨Z,Z⟩]
theorem zp(B D:List B_)(h:∀t,t∈D↔t∈B)(H:C B<1000000):gR D (gX (cR B))=[]:=by
 have E:=B7 B;have G:∀p∈[cV (cR B) a6],GoodP p:=λp F=>by rw[q9]at F;subst F;exact nD (oM _) (NU _) E_ X
 have e:AR (cR D) (gX (cR B))=⟨[],[],[]⟩:=by
  rw[AR,DA (oM _) (NU _) X,show AN (gX (cR B))=[]from JZ [cV (cR B) a6] G (show 1<1000000 by decide),Ye h];exact Ab _ _ _
 rw[gR,e];rfl
theorem NX(l:List B_)(B:uS t=[])(D:AN t=[]):gR l t=[]:=by rw[gR,AR,B,D];rfl
theorem xp(u4:List (List B_)->B_)(l:List (List B_)):∀f n,n<=C l->SZ u4 l f n<=C l
 |0,n,h=>h
 |f+1,n,h=>by
  rw[SZ]
  split
  .next hc=>exact xp u4 l f (n+1) (by omega)
  exact h
theorem xq(u4:List (List B_)->B_)(l:List (List B_)):∀f n,1<=n->(n=1\/N (u4 (l.take n))<=18000)->SZ u4 l f n=1\/N (u4 (l.take (SZ u4 l f n)))<=18000
 |0,n,_,h=>h
 |f+1,n,hn,h=>by
  rw[SZ]
  split
  .next hc=>exact xq u4 l f (n+1) (by omega) (.inr hc.2)
  exact h
theorem u6{p:Prop}(h:p:=by rw[p_];omega):p:=h
theorem xt(u4:List (List B_)->B_):∀(f:Nat) (l:List (List B_)),C l<=f ->
  ∃D:List (List (List B_)),XJ u4 f l=D.map u4/\D.flatten=l/\∀c∈D,c≠[]/\(C c=1\/N (u4 c)<=18000)
 |0,l,h=>⟨[],Z,by rw[List.length_eq_zero_iff.1 (Nat.le_zero.1 h)];rfl,λc B=>by cases B⟩
 | f+1,l,h=>by
  rw[XJ]
  split
  .next F=>exact⟨[],Z,F.symm,λc B=>by cases B⟩
  next F =>
  have K:0<C l:=length_pos_iff.2 F;have ⟨n,E⟩:∃n,n=SZ u4 l (C l) 1:=X_;have L:1<=n:=by rw[E];exact SY u4 l _ 1
  have P:n<=C l:=by rw[E];exact xp u4 l _ 1 K
  have J:n=1\/N (u4 (l.take n))<=18000:=by rw[E];exact xq u4 l _ 1 (h_ _) (.inl Z)
  rw[<-E];have ⟨D,G,H,I⟩:=xt u4 f (l.drop n) u6;refine⟨l.take n::D,by rw[G];rfl,by rw[flatten_cons,H,take_append_drop],λc B=>?_⟩;rcases l9.1 B with rfl|B
  .have ht:C (l.take n)=n:=by rw[m_];omega
   exact⟨λe=>by rw[e]at ht;simp at ht;omega,J.imp (λe=>by rw[ht,e]) id⟩
  exact I c B
theorem qd(u4:List (List B_)->B_)(l:List (List B_)):∃B:List (List (List B_)),OL u4 l=B.map u4/\B.flatten=l/\∀c∈B,c≠[]/\(C c=1\/N (u4 c)<=18000):=xt u4 (C l) l (h_ _)
theorem Ji(L:List B_)(h:∀s∈L,N s<1000000):rA (a_ (aO (pP::L))).data.toList=A (pP::L):=by
 rw[cG];exact uN _ λs B=>by
  rcases l9.1 B with rfl|B
  .decide
  exact h s B
theorem XV(L:List B_)(h:∀s∈L,N s<1000000):uS (iW (L.map λs=>[s]))=[]:=by
 have e:(L.map λs=>[s]).flatten=L:=by clear h;induction L with|nil=>rfl|cons a L B=>rw[map_cons,flatten_cons,B];rfl
 rw[uS,iW,e,Ji L h];cases L with
 |nil=>rfl
 |cons a L =>
  show (if pP=fA then _ else[])=[];rw[a8 E_]
theorem M1(h:sV t=A i):∃r:j_,t=a_ (aO (jU r))/\N t<=20000:=by
 rw[sV]at h
 split at h
 .next h0 =>
  have B:=KT h0;rw[mS]at B
  split at B
  .split at B
   .exact absurd (congrArg Prod.snd B) (by show ¬ ((2:Int)=0);decide)
   next F =>
   have D:=congrArg Prod.fst B;rw[gE]at D;have D:a_ (aO (jU (eB (ν (μ t))).1))=t:=D;refine⟨(eB (ν (μ t))).1,D.symm,?_⟩;have E:=congrArg ByteArray.size D;rw[cA]at E;omega
  exact absurd (congrArg Prod.snd B) (by show ¬ ((1:Int)=0);decide)
 cases h
theorem OU:∀ {L:List B_} {x:B_},x∈L->N x<=C (aO L)
 | [],x,h=>by cases h
 |a::L,x,h=>by
  rw[gY,j8,j6,j8,aS];rcases l9.1 h with rfl|h
  .omega
  have:=OU h;omega
theorem GN(h:sV t=A i):uS t=[]/\AN t=[]:=by
 obtain ⟨r,rfl,F⟩:=M1 h;rw[cA]at F;have B:=uN (jU r) (λs E=>by have:=OU E;omega);have ⟨R,D⟩:∃R,jU r=HJ::R:=⟨_,rfl⟩;rw[D]at B |-;constructor
 .rw[uS,cG,B];cases R with
  |nil=>rfl
  |cons a R =>
   show (if HJ=fA then _ else[])=[];rw[a8 E_]
 rw[AN,cG,B];cases R with
 |nil=>rfl
 |cons a R =>
  show (if HJ=pP/\_ then _ else[])=[];rw[a8 λh=>absurd h.1 E_]
theorem QS(h:uS (mI (P.map fldW))=P)(B:P≠[]):sV (mI (P.map fldW))=ζ:=by
 cases e:sV (mI (P.map fldW))with
 |none=>rfl
 |some i=>rw[(GN e).1]at h;exact absurd h.symm B
theorem jw(h:∀s∈L,m6 s=T)(B:L≠[]):sV (iW (L.map λs=>[s]))=ζ:=by
 cases e:sV (iW (L.map λs=>[s]))with
 |none=>rfl
 |some i =>
  have:=RI L h B;rw[(GN e).2]at this;exact absurd this.symm B
theorem za{b:UInt8}(h:sS b=T):b∈([48,49,50,51,52,53,54,55,56,57,97,98,99,100,101,102]:List UInt8):=by
 have key:∀n:Fin 256,sS (UInt8.ofNat n.val)=T->UInt8.ofNat n.val∈([48,49,50,51,52,53,54,55,56,57,97,98,99,100,101,102]:List UInt8):=by decide +kernel
 have B:=key ⟨b.toNat,b.toNat_lt⟩;simp only[UInt8.ofNat_toNat]at B;exact B h
theorem F7(p x:B_):oY p x=T↔ν (μ p) <+: ν (μ x):=by rw[oY,isPrefixOf_iff_prefix]
theorem U2(a b:B_):(a++b).data.toList=ν (μ a)++ν (μ b):=by rw[ByteArray.data_append,Array.toList_append]
theorem Fj{p:B_}(D:m6 x=T)(h:oY p x=T)(G:N p<16):∃d∈tP,oY (p++d) x=T:=by
 have H:=iJ D;rw[F7]at h;have ⟨t,B⟩:=h;cases t with
 |nil =>
  rw[append_nil]at B;have:=congrArg List.length B;rw[aS,aS]at this;omega
 | cons b t =>
  have E:b∈ν (μ x):=by rw[<-B];simp
  have F:sS b=T:=by
   rw[m6,l6]at D;exact all_eq_true.1 D.2 b E
  refine⟨⟨#[b]⟩,mem_map.2 ⟨b,za F,Z⟩,?_⟩;rw[F7,U2];exact⟨t,by rw[<-B,append_assoc];rfl⟩
theorem TI:∀(l m:List UInt8),l.Nodup->(∀x∈l,x∈m)->C l<=C m
 | [],m,_,_=>l7 _
 |a::l,m,hn,h=>by
  rw[List.nodup_cons]at hn;have B:=h a mem_cons_self;have E:=TI l (m.erase a) hn.2 λx D=>(mem_erase_of_ne (λ(e:x=a)=>hn.1 (by rw[<-e];exact D))).2 (h x (mem_cons_of_mem _ D));rw[length_erase_of_mem B]at E;have:=length_pos_of_mem B;rw[j6];omega
theorem W4(i:zL ids)(Q:∀x∈ids,m6 x=T){p:B_}(g:15<=N p):C (fZ ids p)<=16:=by
 have D:∀x∈fZ ids p,∃b,ν (μ x)=p.data.toList.take 15++[b]/\sS b=T:=λx D=>by
  rw[fZ,mem_filter,F7]at D;have ⟨f,t,B⟩:=D;have G:=Q x f;have H:=iJ G;rw[m6,l6]at G;have L:x.data.toList.take 15=p.data.toList.take 15:=by rw[<-B,take_append_of_le_length (by rw[aS];exact g)]
  have J:ν (μ x)=x.data.toList.take 15++x.data.toList.drop 15:=(take_append_drop _ _).symm;have P:C (x.data.toList.drop 15)=1:=by rw[p_,aS,H]
  have ⟨b,E⟩:=length_eq_one_iff.1 P;refine⟨b,by rw[<-L,<-E];exact J,all_eq_true.1 G.2 b ?_⟩;rw[J,E];simp
 have W:=TI ((fZ ids p).map λ(x:B_)=>(x.data.toList.drop 15).headD (0:UInt8)) [48,49,50,51,52,53,54,55,56,57,97,98,99,100,101,102] ?_ ?_
 .rwa [g_]at W
 .rw[List.Nodup,pairwise_map];refine(C0 i p).imp_of_mem fun {a b} ha E h e=>?_;have ⟨c,F,_⟩:=D a ha;have ⟨d,K,_⟩:=D b E;have B:C (p.data.toList.take 15)=15:=by rw[m_,aS];omega
  rw[F,K,drop_left' B,drop_left' B]at e;have e:c=d:=e;rw[zV,F,K,e,k_]at h;exact List.lt_irrefl _ h
 intro y j;obtain ⟨x,I,rfl⟩:=mem_map.1 j;have ⟨c,F,R⟩:=D x I;have B:C (p.data.toList.take 15)=15:=by rw[m_,aS];omega
 rw[F,drop_left' B];exact za R
theorem G9:∀d∈tP,N d=1/\d.data.toList.all sS=T:=by decide +kernel
theorem YD{p:B_}(E:lW p=T)(D:d∈tP)(h:N p<16):lW (p++d)=T:=by have ⟨F,B⟩:=G9 d D;rw[lW,l6,k_]at *;refine⟨by rw[ByteArray.size_append];omega,?_⟩;rw[U2,all_append,E.2,B];rfl
structure IdS(A_:List B_):Prop where
 srt:zL A_
 dig:∀x∈A_,m6 x=T
 len:C A_<1000000
theorem DL{l:List B_}(h:C l<1000000):IdS (cR l):=⟨oM l,NU l,Nat.lt_of_le_of_lt (B7 l) h⟩
def Hi(A_:List B_)(n:Nat)(p:j0):Prop:=∃q,p=cV A_ q/\lW q=T/\(C (fZ A_ q)<=16\/15<=N q+n)
theorem Hi.good(B:IdS A_)(h:Hi A_ n p):GoodP p:=by obtain ⟨q,rfl,D,_⟩:=h;exact nD B.srt B.dig D B.len
theorem S1(h:C (fZ A_ q)<=16):(cV A_ q).ids=fZ A_ q:=b6 h
theorem kQ:x∈fZ A_ q↔x∈A_/\oY q x=T:=mem_filter
theorem KD(y_:List B_):∀(l s:List B_),∀i∈l.foldl (lV y_) s,i∈s\/(i∈l/\i∈y_)
 | [],s,i,hi=>.inl hi
 | j::l,s,i,hi=>by
  rw[List.foldl_cons]at hi;rcases KD y_ l _ i hi with h|⟨h1,h2⟩
  .rw[lV]at h
   split at h
   .next hc =>
    rw[l6]at hc;rcases List.mem_append.1 h with h|h
    .exact .inl h
    rw[q9]at h;subst h;exact .inr ⟨List.mem_cons_self,b9 hc.1⟩
   exact .inl h
  exact .inr ⟨List.mem_cons_of_mem _ h1,h2⟩
structure InvR(A_ y_:List B_)(n:Nat)(r:GRep):Prop where
 sent:∀i∈r.sent,i∈y_/\i∉A_
 wants:∃L:List B_,r.wants=L.map (λs=>[s])/\∀s∈L,s∈A_/\s∉y_
 offers:∃Q:List j0,r.offers=Q.map fldW/\∀p∈Q,∃m,n=m+1/\Hi y_ m p
theorem Za(b:IdS A_)(k:IdS y_){r:GRep}(B:Hi A_ n p)(j:InvR A_ y_ n r):InvR A_ y_ n (wB y_ r p):=by
 obtain ⟨q,rfl,e,g⟩:=B;have ⟨I,⟨L,F,J⟩,⟨Q,K,P⟩⟩:=j;have G:¬ C (fZ A_ q)<=16->N q<=14/\∃m,n=m+1:=λh=>by
  have E:¬ 15<=N q:=λF=>h (W4 b.srt b.dig F);exact⟨X,n - 1,X⟩
 rw[wB];by_cases H:C (fZ A_ q)<=16
 .rw[b6 (show (cV A_ q).cnt<=16 from H),S1 H];refine⟨λi hi=>?_,⟨L++(fZ A_ q).filter λi=>!θ (i∈y_),by rw[F,map_append],λs D=>?_⟩,⟨Q,K,P⟩⟩
  .rcases KD y_ _ _ i hi with h|⟨h,hiY⟩
   .exact I i h
   rw[mem_filter]at h;have a:i∉fZ A_ q:=by simpa using h.2
   exact⟨hiY,λf=>a (kQ.2 ⟨f,(kQ.1 h.1).2⟩)⟩
  rcases mem_append.1 D with D|D
  .exact J s D
  rw[mem_filter]at D;exact⟨(kQ.1 D.1).1,by simpa using D.2⟩
 have ⟨R,m,W⟩:=G H;rw[a8 (show ¬ (cV A_ q).cnt<=16 from H)]
 split
 .exact⟨I,⟨L,F,J⟩,⟨Q,K,P⟩⟩
 split
 .next ho =>
  refine⟨I,⟨L,F,J⟩,⟨Q++[cV y_ q],by rw[K,map_append];rfl,λp B=>?_⟩⟩;rcases mem_append.1 B with B|B
  .exact P p B
  rw[q9]at B;exact⟨m,W,q,B,e,.inl ho⟩
 refine⟨I,⟨L,F,J⟩,⟨Q++tP.map λd=>cV y_ (q++d),by rw[K,map_append,map_map];rfl,λp B=>?_⟩⟩;rcases mem_append.1 B with B|B
 .exact P p B
 obtain ⟨d,c,rfl⟩:=mem_map.1 B;have E:=g.resolve_left H;refine⟨m,W,_,Z,YD e c (Nat.lt_of_le_of_lt R E_),.inr ?_⟩;rw[ByteArray.size_append,(G9 d c).1,Nat.add_assoc,Nat.add_comm 1 m,<-W];exact E
inductive MsgW(A_ y_:List B_):Nat->B_->Prop
 |recd {n:Nat} {t i:B_}:sV t=A i->i∈A_->i∉y_->MsgW A_ y_ (n+1) t
 |want {n:Nat} {L:List B_}:L≠[]->(∀s∈L,s∈y_/\s∉A_)->N (iW (L.map λs=>[s]))<=20000->MsgW A_ y_ (n+2) (iW (L.map λs=>[s]))
 |offr {n:Nat} {P:List j0}:P≠[]->(∀p∈P,Hi A_ n p)->C P<=20000->N (mI (P.map fldW))<=20000->MsgW A_ y_ (n+4) (mI (P.map fldW))
theorem uU:∀(L:List B_),(∀s∈L,N s<=16)->C (aO L)<=19*C L
 | [],_=>h_ _
 |x::L,h=>by
  have D:=h x mem_cons_self;have E:=uU L λs B=>h s (mem_cons_of_mem _ B);have F:C (decDigits (N x))<=2:=cX (k:=2) X E_;rw[gY,j8,j6,j8,aS,j6];omega
theorem FN:∀(L:List B_),C L<=C (aO L)
 | []=>h_ _
 |x::L=>by
  have B:=FN L;rw[gY];simp only[j8,j6];omega
theorem UF(h:GoodP p):∀s∈fldW p,N s<=16:=by
 intro s B;rw[fldW,mem_append]at B;rcases B with B|B
 .simp only[l9,q8,or_false]at B;rcases B with rfl|rfl|rfl
  .have:=h.pre;rw[lW,l6,k_]at this;exact this.1
  .rw[xX,cA];exact Nat.le_trans (cX (k:=6) h.cnt E_) E_
  exact Nat.le_of_eq (iJ h.sum)
 by_cases D:p.cnt<=16
 .exact Nat.le_of_eq (iJ ((LP (h.sml D).2.1 s B).1))
 rw[h.big X]at B;cases B
theorem cq(h:GoodP p):C (fldW p)<=19:=by
 rw[fldW,j8];have:C p.ids<=16:=by
  by_cases B:p.cnt<=16
  .have:=(h.sml B).1;omega
  rw[h.big X];exact l7 _
 simp only[j6,length_nil];omega
theorem bh(h:GoodP p):N (mI [fldW p])<=20000:=by
 rw[mI,cA];refine Nat.le_trans (uU _ λs B=>?_) ?_
 .rcases l9.1 B with rfl|B
  .decide
  rcases l9.1 B with rfl|B
  .exact(by decide +kernel:N (aV ((1:Nat):Int))<=16)
  rw[flatten_cons,flatten_nil,append_nil]at B;exact UF h s B
 rw[j6,j6,flatten_cons,flatten_nil,append_nil];have:=cq h;omega
theorem ev(h:m6 s=T):N (iW [[s]])<=20000:=by
 rw[iW,cA];refine Nat.le_trans (uU _ λx B=>?_) (by show 19*2<=20000;decide);rcases l9.1 B with rfl|B
 .decide
 have:x=s:=by simpa using B
 rw[this,iJ h];decide
theorem cx(f:α->List B_){L:List α}{D:List (List (List B_))}(h:D.flatten=L.map f):∀c∈D,∃l:List α,c=l.map f/\∀x∈l,x∈L:=by
 induction D generalizing L with
 |nil=>intro c B;cases B
 |cons a D J =>
  rw[flatten_cons]at h;have ⟨l1,l2,F,G,H⟩:=map_eq_append_iff.1 h.symm;intro c B;rcases l9.1 B with rfl|B
  .exact⟨l1,G.symm,λx E=>by rw[F];exact mem_append_left _ E⟩
  have ⟨l,e,I⟩:=J H.symm c B;exact⟨l,e,λx E=>by rw[F];exact mem_append_right _ (I x E)⟩
theorem FA{l:List B_}(h:i∈cR l):sV (jH (jM l) i)=A i/\jH (jM l) i∈l:=by
 have L:∀(k:List B_) (a:List (B_×B_)),(∀x∈k,x∈l)->(∀p∈a,sV p.2=A p.1/\p.2∈l)->∀p∈k.foldl jW a,sV p.2=A p.1/\p.2∈l:=by
  intro k
  induction k with
  |nil=>exact λa _ h=>h
  | cons s k ih =>
   intro a K D;rw[foldl_cons];refine ih _ (λx H=>K x (mem_cons_of_mem _ H)) ?_;rw[jW];cases e:sV s with
   |none=>exact D
   |some j =>
    simp only
    split
    .exact D
    intro p B;rcases mem_append.1 B with B|B
    .exact D p B
    rw[q9]at B;subst B;exact⟨e,K s mem_cons_self⟩
 have ⟨t,P,G⟩:=(qU l i).1 h;have ⟨p,B,F⟩:=mem_map.1 ((xw l i).2 ⟨t,P,G⟩);rw[jH];cases E:(jM l).find? λp=>θ (p.1=i)with
 |none =>
  have:=find?_eq_none.1 E p B;rw[F]at this;exact absurd H_ this
 |some q =>
  have I:=find?_some E;rw[k_]at I;have J:=L l [] (λx H=>H) (λp B=>by cases B) q (mem_of_find?_eq_some E);rw[I]at J;exact J
theorem wx{A_ y_:List B_}(B:IdS A_)(D:IdS y_){n:Nat}:∀(P:List j0) (r:GRep),(∀p∈P,Hi A_ n p)->InvR A_ y_ n r->InvR A_ y_ n (P.foldl (wB y_) r)
 | [],r,_,h=>h
 |p::P,r,hP,h=>by
  rw[List.foldl_cons];exact wx B D P _ (λq E=>hP q (List.mem_cons_of_mem _ E)) (Za B D (hP p List.mem_cons_self) h)
theorem TC(E:IdS A_)(D:∀p∈P,Hi A_ n p)(F:C P<=20000):uS (mI (P.map fldW))=P/\AN (mI (P.map fldW))=[] :=⟨GS P (λp B=>(D p B).good E) X,JZ P (λp B=>(D p B).good E) X⟩
theorem wv(D:IdS A_)(G:IdS y_)(B:∀p∈P,Hi A_ n p)(H:C P<=20000):InvR A_ y_ n (AR y_ (mI (P.map fldW))):=by have ⟨E,F⟩:=TC D B H;rw[AR,E,F];exact wx D G P _ B ⟨(λi hi=>by cases hi),⟨[],Z,(λs J=>by cases J)⟩,⟨[],Z,(λp I=>by cases I)⟩⟩
theorem KI(D:∀s∈L,m6 s=T)(B:L≠[]):AR y_ (iW (L.map λs=>[s]))=⟨L.foldl (lV y_) [],[],[]⟩:=by rw[AR,XV L λs E=>by have:=iJ (D s E);omega,RI L D B];rfl
theorem jb(d:IdS y_)(A_:List B_){Q:List j0}(b:∀p∈Q,Hi y_ m p):∀u∈OL mI (Q.map fldW),∃R:List j0,u=mI (R.map fldW)/\(∀p∈R,p∈Q)/\C R<=20000/\MsgW y_ A_ (m+4) u:=by
 intro u J;have ⟨g,W,K,a⟩:=qd mI (Q.map fldW);rw[W]at J;obtain ⟨c,I,rfl⟩:=mem_map.1 J;obtain ⟨R,rfl,H⟩:=cx fldW K c I;have ⟨L,F⟩:=a _ I;have G:R≠[]:=λe=>L (by rw[e];rfl);have B:∀p∈R,Hi y_ m p:=λp f=>b p (H p f);have E:N (mI (R.map fldW))<=20000:=by
  rcases F with F|F
  .rw[g_]at F;obtain ⟨p,rfl⟩:=length_eq_one_iff.1 F;exact bh ((B p mem_cons_self).good d)
  omega
 have D:C R<=20000:=by
  refine Nat.le_trans ?_ E;rw[mI,cA];refine Nat.le_trans ?_ (FN _);rw[j6,j6];have:C R<=C ((R.map fldW).flatten):=by
   clear E F B G L H I J K
   induction R with
   |nil=>exact h_ _
   |cons p P h=>rw[map_cons,flatten_cons,j8,j6,fldW,j8];simp only[j6,length_nil];omega
  omega
 exact⟨R,Z,H,D,.offr G B D E⟩
theorem WQ(W:IdS A_)(G:∀s∈L,s∈A_/\s∉y_):∀u∈OL iW (L.map λs=>[s]),∃R:List B_,R≠[]/\u=iW (R.map λs=>[s])/\(∀p∈R,p∈L)/\MsgW y_ A_ (m+2) u:=by
 intro u I;have ⟨b,J,K,P⟩:=qd iW (L.map λs=>[s]);rw[J]at I;obtain ⟨c,H,rfl⟩:=mem_map.1 I;obtain ⟨R,rfl,E⟩:=cx (λs=>[s]) K c H;have ⟨Q,B⟩:=P _ H;have D:R≠[]:=λe=>Q (by rw[e];rfl);have F:N (iW (R.map λs=>[s]))<=20000:=by
  rcases B with B|B
  .rw[g_]at B;obtain ⟨p,rfl⟩:=length_eq_one_iff.1 B;exact ev (W.dig p (G p (E p mem_cons_self)).1)
  omega
 exact⟨R,D,Z,E,.want D (λs a=>G s (E s a)) F⟩
theorem Ak(f:C a<1000000)(g:C b<1000000)(h:MsgW (cR a) (cR b) (n+1) t):∀u∈gR b t,MsgW (cR b) (cR a) n u:=by
 have J:=DL f;have G:=DL g;generalize w:n+1=k at h;cases h with
 |recd E D F =>
  intro u B;have ⟨c,d⟩:=GN E;rw[NX b c d]at B;cases B
 | @want m L E D F =>
  intro u B;rw[gR,KI (λs l=>G.dig s (D s l).1) E]at B;rcases mem_append.1 B with B|B
  .obtain ⟨i,hi,rfl⟩:=mem_map.1 B;rcases KD _ _ _ i hi with h|⟨hL,hiY⟩
   .cases h
   obtain rfl:n=m+1:=X
   exact .recd (FA hiY).1 hiY (D i hL).2
  cases B
 | @offr m P E D F h4 =>
  intro u B;have ⟨r,K⟩:∃r,r=AR (cR b) (mI (P.map fldW)):=X_;have hi:=wv J G D F;rw[gR,<-K]at B;rw[<-K]at hi;have ⟨I,⟨L,o,q⟩,⟨Q,v,W⟩⟩:=hi;obtain rfl:n=m+3:=X
  rcases mem_append.1 B with B|B
  .obtain ⟨i,hi,rfl⟩:=mem_map.1 B;exact .recd (FA (I i hi).1).1 (I i hi).1 (I i hi).2
  rcases mem_append.1 B with B|B
  .rw[o]at B;have ⟨_,_,_,_,H⟩:=WQ J (m:=m+1) q u B;exact H
  rw[v]at B;cases Q with
  |nil=>cases B
  | cons p Q =>
   obtain ⟨R,rfl,_⟩:=W p mem_cons_self;have ⟨_,_,_,_,H⟩:=jb G (cR a) (m:=R) (λp j=>by
    have ⟨m2,e,h⟩:=W p j;obtain rfl:R=m2:=X
    exact h) u B
   exact H
theorem MsgW.size(h:MsgW A_ y_ n t):N t<=20000:=by
 cases h with
 |recd B _ _=>have ⟨r,_,h⟩:=M1 B;exact h
 |want _ _ h=>exact h
 |offr _ _ _ h=>exact h
def aFE(A_ y_:List B_)(x:B_):Prop:=(x∈A_/\x∉y_)\/(x∈y_/\x∉A_)
theorem Wt(R:List j0):C R<=N (mI (R.map fldW)):=by
 rw[mI,cA];refine Nat.le_trans ?_ (FN _);rw[j6,j6];have:C R<=C ((R.map fldW).flatten):=by
  induction R with
  |nil=>exact h_ _
  |cons p P B=>rw[map_cons,flatten_cons,j8,j6,fldW,j8];simp only[j6,length_nil];omega
 omega
def recT(t:B_):Bool:=(sV t).isSome
def offB(t:B_):Bool:=!(uS t).isEmpty
structure XS where
 ag:List B_
 bg:List B_
 ao:Nat
 bo:Nat
 q:List B_
def fg(B:List B_)(s:XS):XS:=⟨s.ag,s.bg++s.q.filter recT,s.ao,s.bo+(s.q.flatMap (gR B)).countP offB,s.q.flatMap (gR B)⟩
def fi(B:List B_)(s:XS):XS:=⟨s.ag++s.q.filter recT,s.bg,s.ao+(s.q.flatMap (gR B)).countP offB,s.bo,s.q.flatMap (gR B)⟩
def lF(D B:List B_):Nat->XS
 |0=>⟨[],[],1,0,[gX (cR D)]⟩
 |k+1=>if k % 2=0 then fg B (lF D B k)else fi D (lF D B k)
theorem Em(E:IdS A_):MsgW A_ y_ 19 (gX A_):=by have B:Hi A_ 15 (cV A_ a6):=⟨a6,Z,E_,.inr E_⟩;exact .offr (n:=15) (P:=[cV A_ a6]) (λe=>by cases e) (λp D=>by rw[q9]at D;subst D;exact B) (by show 1<=20000;decide) (bh (B.good E))
theorem ZN{a b:List B_}(F:C a<1000000)(G:C b<1000000):∀k,k<=19->∀t∈(lF a b k).q,if k % 2=0 then MsgW (cR a) (cR b) (19 - k) t else MsgW (cR b) (cR a) (19 - k) t
 |0,_,t,B=>by
  rw[b6 rfl];have B:t∈[gX (cR a)]:=B;rw[q9]at B;subst B;exact Em (DL F)
 |k+1,hk,t,B=>by
  have I:=ZN F G k X;rw[lF]at B;have ⟨n,J⟩:∃n,19 - k=n+1/\19 - (k+1)=n:=⟨18 - k,X,X⟩;rw[J.2];rw[J.1]at I;by_cases E:k % 2=0
  .rw[b6 E]at B;rw[a8 X];have ⟨u,H,D⟩:=mem_flatMap.1 (show t∈(lF a b k).q.flatMap (gR b)from B);have:=I u H;rw[b6 E]at this;exact Ak F G this t D
  rw[a8 E]at B;rw[b6 X];have ⟨u,H,D⟩:=mem_flatMap.1 (show t∈(lF a b k).q.flatMap (gR a)from B);have:=I u H;rw[a8 E]at this;exact Ak G F this t D
theorem Jf(B:C a<1000000)(D:C b<1000000):(lF a b 19).q=[]:=by refine eq_nil_iff_forall_not_mem.2 λt E=>?_;have:=ZN B D 19 X t E;rw[a8 E_]at this;generalize F:19 - 19=z at this;cases this<;>omega
theorem Uh(B:C a<1000000)(D:C b<1000000)(E:k<=19)(F:t∈(lF a b k).q):N t<=20000:=by
 have:=ZN B D k E t F
 split at this<;>exact this.size
theorem xr{u4:List (List B_)->B_}{l:List (List B_)}(h:∀n,N (u4 (l.take n))<=18000):∀f n,n<=C l->C l<=n+f->SZ u4 l f n=C l
 |0,n,h1,h2=>by rw[SZ];omega
 |f+1,n,h1,h2=>by
  rw[SZ];by_cases B:n<C l
  .rw[b6 ⟨B,h _⟩];exact xr h f (n+1) (by omega) (by omega)
  rw[a8 λD=>B D.1];omega
theorem aBW{u4:List (List B_)->B_}{l:List (List B_)}(h:∀n,N (u4 (l.take n))<=18000)(B:l≠[]):OL u4 l=[u4 l]:=by have E:=length_pos_iff.2 B;have ⟨k,D⟩:∃k,C l=k+1:=⟨C l - 1,X⟩;rw[OL,D,XJ,a8 B,xr h (C l) 1 X X,take_length,drop_length];cases k<;>simp[XJ]
theorem XI(u4:List (List B_)->B_)(e:List B_):OL u4 [e]=[u4 [e]]:=by simp[OL,XJ,SZ]
theorem Lw(u4:List (List B_)->B_):OL u4 []=[]:=rfl
structure OneD(A_ y_:List B_)(x:B_):Prop where
 dif:aFE A_ y_ x
 all:∀y,aFE A_ y_ y->y=x
theorem OneD.symm(h:OneD A_ y_ x):OneD y_ A_ x:=⟨h.dif.symm,λy B=>h.all y B.symm⟩
theorem Wq(G:IdS A_)(H:IdS y_)(h:OneD A_ y_ x)(I:¬ oY q x=T):fZ A_ q=fZ y_ q:=by
 refine EZ _ _ (C0 G.srt q) (C0 H.srt q) λy=>?_;rw[kQ,kQ];have D:oY q y=T->y≠x:=λh e=>I (e▸h);constructor
 .rintro⟨F,B⟩;refine⟨?_,B⟩;by_cases E:y∈y_
  .exact E
  exact absurd (h.all y (.inl ⟨F,E⟩)) (D B)
 rintro⟨F,B⟩;refine⟨?_,B⟩;by_cases E:y∈A_
 .exact E
 exact absurd (h.all y (.inr ⟨F,E⟩)) (D B)
theorem ja(G:IdS A_)(H:IdS y_)(h:OneD A_ y_ x)(J:oY q x=T)(E:x∈A_/\x∉y_):C (fZ A_ q)=C (fZ y_ q)+1:=by
 have B:∀F:List B_,IdS F->(fZ F q).Nodup:=λF I=>(C0 I.srt q).imp fun {a b} h e=>by rw[e,BN]at h;cases h
 refine(List.Perm.length_eq ((perm_ext_iff_of_nodup (B A_ G) (nodup_cons.2 ⟨λh=>E.2 (kQ.1 h).1,B y_ H⟩)).2 λy=>?_)).trans (length_cons (a:=x));rw[l9,kQ,kQ];constructor
 .rintro⟨h1,h2⟩;by_cases D:y∈y_
  .exact .inr ⟨D,h2⟩
  exact .inl (h.all y (.inl ⟨h1,D⟩))
 rintro(e|⟨h1,h2⟩)
 .rw[e];exact⟨E.1,J⟩
 refine⟨?_,h2⟩;by_cases D:y∈A_
 .exact D
 have:=h.all y (.inr ⟨h1,D⟩);exact absurd (this▸h1) E.2
theorem Wr(B:IdS A_)(D:IdS y_)(h:OneD A_ y_ x)(E:oY q x=T):C (fZ A_ q)≠C (fZ y_ q):=by
 rcases h.dif with hx|hx
 .have:=ja B D h E hx;omega
 have:=ja D B h.symm E hx;omega
theorem qy(D:IdS A_)(h:OneD A_ y_ x)(E:oY q x=T)(B:x∈A_/\x∉y_):(fZ A_ q).filter (λi=>!θ (i∈y_))=[x]:=by
 refine EZ _ _ ((C0 D.srt q).sublist filter_sublist) (pairwise_singleton _ _) λy=>?_;rw[mem_filter,q9,kQ];constructor
 .rintro⟨⟨h1,h2⟩,h3⟩;exact h.all y (.inl ⟨h1,by simpa using h3⟩)
 rintro rfl;exact⟨⟨B.1,E⟩,by simpa using B.2⟩
theorem Mt(h:OneD A_ y_ x)(F:x∈y_/\x∉A_):(fZ A_ q).filter (λi=>!θ (i∈y_))=[]:=by
 refine filter_eq_nil_iff.2 λy D E=>?_;have B:y∉y_:=by simpa using E
 have:=h.all y (.inl ⟨(kQ.1 D).1,B⟩);exact F.2 (this▸(kQ.1 D).1)
inductive FewW(A_ y_:List B_)(x:B_):Nat->B_->Prop
 |recd {f:Nat} {t:B_}:sV t=A x->FewW A_ y_ x f t
 |want {f:Nat}:x∈y_->x∉A_->FewW A_ y_ x f (iW [[x]])
 | offr {f:Nat} {P1 P2:List j0} {q:B_}:lW q=T->oY q x=T->(C (fZ A_ q)<=16\/15<=N q+f)->C P1+C P2 < 1000 ->
   (∀p∈P1++P2,∃q',p=cV A_ q'/\lW q'=T/\¬ oY q' x=T)->FewW A_ y_ x f (mI ((P1++cV A_ q::P2).map fldW))
theorem UA{A_ y_:List B_}(D:IdS A_)(E:IdS y_){x:B_}(h:OneD A_ y_ x):∀(P:List j0) (r:GRep),(∀p∈P,∃B,p=cV A_ B/\lW B=T/\¬ oY B x=T)->P.foldl (wB y_) r=r
 | [],r,_=>rfl
 |p::P,r,hP=>by
  obtain ⟨B,e,_,H⟩:=hP p mem_cons_self;have F:cV A_ B=cV y_ B:=by rw[cV,cV,Wq D E h H]
  rw[foldl_cons,e,F,Ab];exact UA D E h P r λp G=>hP p (mem_cons_of_mem _ G)
theorem Ox(F:d∈tP):∃B D,tP=B++d::D/\d∉B++D:=by
 have ⟨B,D,h⟩:=append_of_mem F;have E:tP.Nodup:=by decide +kernel
 rw[h]at E;exact⟨B,D,h,(nodup_cons.1 ((perm_middle (a:=d) (l₁:=B) (l₂:=D)).nodup_iff.1 E)).1⟩
theorem Zm{e:B_}(H:N d=1)(I:N e=1)(E:oY (q++d) x=T)(F:oY (q++e) x=T):d=e:=by rw[F7,U2]at *;refine mR ?_;have ⟨s,B⟩:=E;have ⟨t,D⟩:=F;rw[append_assoc]at B D;have G:=append_cancel_left (B.trans D.symm);have:=append_inj_left G (by rw[aS,aS,H,I]);exact this
theorem Pk(B:IdS A_){P1 P2:List j0}(G:lW q=T)(F:∀p∈P1++P2,∃E,p=cV A_ E/\lW E=T/\¬ oY E x=T):∀p∈P1++cV A_ q::P2,GoodP p:=by
 intro p D;rcases mem_append.1 D with D|D
 .obtain ⟨E,rfl,h,_⟩:=F p (mem_append_left _ D);exact nD B.srt B.dig h B.len
 rcases l9.1 D with rfl|D
 .exact nD B.srt B.dig G B.len
 obtain ⟨E,rfl,h,_⟩:=F p (mem_append_right _ D);exact nD B.srt B.dig h B.len
theorem zo(ha:C a<1000000)(hb:C b<1000000)(h:OneD (cR a) (cR b) x){f:Nat}(ht:FewW (cR a) (cR b) x f t):
  (sV t=A x/\gR b t=[])\/(sV t=ζ/\∃u P,gR b t=[u]/\FewW (cR b) (cR a) x P u/\P+(if offB u=T then 1 else 0)<=f):=by
 have I:=DL ha;have J:=DL hb;have o:∀ {t:B_},sV t=A x->offB t=η:=λh=>by rw[offB,(GN h).1];rfl
 cases ht with
 |recd E =>
  have ⟨e1,L⟩:=GN E;exact .inl ⟨E,NX b e1 L⟩
 |want E W =>
  have hJ:∀s∈[x],m6 s=T:=λs B=>by rw[q9]at B;subst B;exact J.dig s E
  have F:=(FA E).1;refine .inr ⟨jw hJ H_,jH (jM b) x,f,?_,.recd F,by rw[o F];exact h_ _⟩;rw[gR,show iW [[x]]=iW ([x].map λs=>[s])from Z,KI hJ H_];show (List.map _ (lV (cR b) [] x))++_=_;rw[lV,decide_eq_true E];rfl
 | @offr P1 P2 q hq hbq hf hlen hP =>
  have hg:=Pk I hq hP;have G:C (P1++cV (cR a) q::P2)<1000000:=by rw[j8,j6];omega
  have o1:=GS _ hg G;have o2:=JZ _ hg G;right;refine⟨QS o1 H_,?_⟩;have r:AR (cR b) (mI ((P1++cV (cR a) q::P2).map fldW))=wB (cR b) ⟨[],[],[]⟩ (cV (cR a) q):=by
   rw[AR,o1,o2,foldl_append,foldl_cons,UA I J h P1 _ λp D=>hP p (mem_append_left _ D),UA I J h P2 _ λp D=>hP p (mem_append_right _ D)];rfl
  rw[gR,r,wB];by_cases B:C (fZ (cR a) q)<=16
  .rw[b6 (show (cV (cR a) q).cnt<=16 from B),S1 B,show (cV (cR a) q).pre=q from rfl];rcases h.dif with hx|hx
   .have L:((fZ (cR b) q).filter λi=>!θ (i∈fZ (cR a) q))=[]:=by
     refine filter_eq_nil_iff.2 λy hy hn=>?_;have κ:y∉fZ (cR a) q:=by simpa using hn
     have Q:=kQ.1 hy;have:=h.all y (.inr ⟨Q.1,λh=>κ (kQ.2 ⟨h,Q.2⟩)⟩);exact hx.2 (this▸Q.1)
    rw[qy I h hbq hx,L];refine⟨iW [[x]],f,by simp[Lw,XI],.want hx.1 hx.2,?_⟩;have:offB (iW [[x]])=η:=by
     rw[offB,show iW [[x]]=iW ([x].map λs=>[s])from Z,XV [x] λs B=>by rw[q9]at B;rw[B,iJ (I.dig x hx.1)];decide];rfl
    rw[this];exact h_ _
   have L:((fZ (cR b) q).filter λi=>!θ (i∈fZ (cR a) q))=[x]:=by
    refine EZ _ _ ((C0 J.srt q).sublist filter_sublist) (pairwise_singleton _ _) λy=>?_;rw[mem_filter,q9];constructor
    .rintro⟨E,W⟩;have E:=kQ.1 E;have W:y∉fZ (cR a) q:=by simpa using W
     exact h.all y (.inr ⟨E.1,λh=>W (kQ.2 ⟨h,E.2⟩)⟩)
    rintro rfl;exact⟨kQ.2 ⟨hx.1,hbq⟩,by simpa using λh=>hx.2 (kQ.1 h).1⟩
   have F:=(FA hx.1).1;rw[Mt h hx,L];refine⟨jH (jM b) x,f,?_,.recd F,by rw[o F];exact h_ _⟩;show (List.map _ (lV (cR b) [] x))++(OL iW []++OL mI [])=_;rw[lV,decide_eq_true hx.1];rfl
  have δ:¬ 15<=N q:=λh=>B (W4 I.srt I.dig h);have hj:m6 x=T:=h.dif.elim (λh=>I.dig x h.1) (λh=>J.dig x h.1);rw[a8 (show ¬ (cV (cR a) q).cnt<=16 from B),show (cV (cR a) q).pre=q from Z,a8 λhe=>Wr I J h hbq he.1];obtain ⟨P,rfl⟩:∃P,f=P+1:=⟨f - 1,X⟩
  split
  .next ho =>
   refine⟨mI [fldW (cV (cR b) q)],P,by simp[Lw,XI],.offr (P1:=[]) (P2:=[]) hq hbq (.inl ho) E_ (λp D=>by cases D),?_⟩
   split<;>omega
  have ⟨d,K,l⟩:=Fj hj hbq X;have ⟨D1,D2,e,v⟩:=Ox K;have H:∀d∈tP,lW (q++d)=T:=λd K=>YD hq K X;have L:(tP.map λd=>fldW (cV (cR b) (q++d)))=((D1.map λd=>cV (cR b) (q++d))++cV (cR b) (q++d)::D2.map λd=>cV (cR b) (q++d)).map fldW:=by
   rw[e,map_append,map_cons,map_append,map_cons,map_map,map_map];rfl
  have τ:∀p∈(tP.map λd=>cV (cR b) (q++d)),GoodP p:=λp D=>by
   obtain ⟨d,K,rfl⟩:=mem_map.1 D;exact nD J.srt J.dig (H d K) J.len
  have ρ:∀n,N (mI ((tP.map λd=>fldW (cV (cR b) (q++d))).take n))<=18000:=λn=>by
   have e3:(tP.map λd=>fldW (cV (cR b) (q++d)))=(tP.map λd=>cV (cR b) (q++d)).map fldW:=by rw[map_map];rfl
   rw[e3,<-map_take,mI,cA];generalize g:(tP.map λd=>cV (cR b) (q++d)).take n=R;have j:∀p∈R,GoodP p:=λp D=>τ p (mem_of_mem_take (g▸D));have γ:C R<=16:=by rw[<-g,m_,g_];exact Nat.le_trans (Nat.min_le_right _ _) E_
   have z:∀(R:List j0),(∀p∈R,GoodP p)->C ((R.map fldW).flatten)<=19*C R:=λR=>by
    induction R with
    |nil=>exact λ_=>h_ _
    |cons p R ih =>
     intro g;have E:=cq (g p mem_cons_self);have W:=ih λp D=>g p (mem_cons_of_mem _ D);rw[map_cons,flatten_cons,j8,j6];omega
   refine Nat.le_trans (uU _ λs B=>?_) ?_
   .rcases l9.1 B with rfl|B
    .decide
    rcases l9.1 B with rfl|B
    .have K:=cX (u:=C R) (k:=6) X E_;rw[g_,xX,cA];omega
    have ⟨w,hw,σ⟩:=mem_flatten.1 B;obtain ⟨p,D,rfl⟩:=mem_map.1 hw;exact UF (j p D) s σ
   have:=z R j;rw[j6,j6];omega
  refine⟨mI (tP.map λd=>fldW (cV (cR b) (q++d))),P,?_,?_,?_⟩
  .rw[nil_append,aBW ρ (by rw[e];simp)];rfl
  .rw[L];refine .offr (H d K) l ?_ ?_ ?_
   .have:=(G9 d K).1;rcases hf with hf|hf
    .exact absurd hf B
    exact .inr (by rw[ByteArray.size_append];omega)
   .have:=congrArg List.length e;rw[j8,j6,show C tP=16 from rfl]at this;rw[g_,g_];omega
   intro p D;rw[<-map_append]at D;obtain ⟨c,hc,rfl⟩:=mem_map.1 D;have m:c∈tP:=by
    rw[e];rcases mem_append.1 hc with h|h
    .exact mem_append_left _ h
    exact mem_append_right _ (mem_cons_of_mem _ h)
   exact⟨_,Z,H c m,λβ=>v (Zm (G9 c m).1 (G9 d K).1 β l▸hc)⟩
  split<;>omega
def aFD(a b:List B_)(x:B_)(k:Nat):Prop :=(∃t f,(lF a b k).q=[t]/\(if k % 2=0 then FewW (cR a) (cR b) x f t else FewW (cR b) (cR a) x f t)/\(lF a b k).ag=[]/\(lF a b k).bg=[]/\(lF a b k).ao+(lF a b k).bo+f<=17) \/
 ((lF a b k).q=[]/\(∃r,(lF a b k).ag++(lF a b k).bg=[r]/\sV r=A x)/\(lF a b k).ao+(lF a b k).bo<=17)
theorem tk{a b:List B_}(E:C a<1000000)(F:C b<1000000){x:B_}(h:OneD (cR a) (cR b) x):∀k,aFD a b x k
 | 0=>.inl ⟨gX (cR a),15,Z,by
   rw[b6 rfl];exact .offr (P1:=[]) (P2:=[]) (q:=a6) (by decide) Z (.inr (by decide)) (by decide) (λp G=>by cases G),Z,Z,by show 1+0+15<=17;decide⟩
 | k + 1 => by
  have H:=tk E F h k;rw[aFD,lF];rcases H with⟨t,f,e,hw,h1,h2,h3⟩|⟨e,⟨r,h1,h2⟩,h3⟩
  .by_cases D:k % 2=0
   .rw[b6 D]at hw |-;simp only[a8 (show ¬ (k+1) % 2=0 by omega),fg,e,h1,h2,flatMap_cons,flatMap_nil,append_nil];rcases zo E F h hw with⟨g1,g2⟩|⟨g1,u,f',g2,g3,g4⟩
    .right;rw[g2];have B:recT t=T:=by rw[recT,g1];rfl
     refine⟨Z,⟨t,by simp[B],g1⟩,?_⟩;simp only[countP_nil];omega
    left;rw[g2];have B:recT t=η:=by rw[recT,g1];rfl
    refine⟨u,f',Z,g3,T_,by simp[B],?_⟩;rw[countP_cons,countP_nil];omega
   rw[a8 D]at hw |-;simp only[b6 (show (k+1) % 2=0 by omega),fi,e,h1,h2,flatMap_cons,flatMap_nil,append_nil];rcases zo F E h.symm hw with⟨g1,g2⟩|⟨g1,u,f',g2,g3,g4⟩
   .right;rw[g2];have B:recT t=T:=by rw[recT,g1];rfl
    refine⟨Z,⟨t,by simp[B],g1⟩,?_⟩;simp only[countP_nil];omega
   left;rw[g2];have B:recT t=η:=by rw[recT,g1];rfl
   refine⟨u,f',Z,g3,by simp[B],T_,?_⟩;rw[countP_cons,countP_nil];omega
  right;by_cases D:k % 2=0
  .rw[b6 D];simp only[fg,e,flatMap_nil,filter_nil,append_nil,countP_nil,Nat.add_zero];exact⟨T_,⟨r,h1,h2⟩,h3⟩
  rw[a8 D];simp only[fi,e,flatMap_nil,filter_nil,append_nil,countP_nil,Nat.add_zero];exact⟨T_,⟨r,h1,h2⟩,h3⟩
theorem cP.eqv{P}{r4}{o}{E}{H H'}{v a}(h:cP P r4 o E H v H')(e:v=a):cP P r4 o E H a H':=e▸h
theorem aBK(x)(B:x<18446744073709551616)(H):RC 140 [uv x] (uv (PD x)) H:=by refine Pu ?_;refine Bd func140 Z ntmps140<|Sz aH<|U aA<|Y (oZ Z Z Z (show IntKind.u64.wrap _=((Dr x):Int)by rfl))<|V aH<|U aA<|Y aA<|Y (GR Z Z Z H_ E_ (Ju _ 32 Z))<|Y (pS Z H_ Z Z (bits_xor_u64_nat _ _ (G3 x) (yX 32 (G3 x))))<|V aH<|U aA<|Y (oZ Z Z Z (show IntKind.u64.wrap _=((Dq x:Nat))by rfl))<|V aH<|U aA<|Y aA<|Y (GR Z Z Z H_ E_ (Ju _ 29 Z))<|Y (pS Z H_ Z Z (bits_xor_u64_nat _ _ (GZ x) (yX 29 (GZ x)))) ?_;exact V aH<|aC<|Rt<|Qq
def H8(b:Int):Prop:=(48<=b/\b<=57)\/(97<=b/\b<=102)
theorem zw(b:Int)(j:H8 b)(H:aF):RC 83 [.pv (.int .u8 b)] (iv (if b<=57 then b - 48 else b - 87)) H:=by
 refine Pu ?_;have f:∀ {p:Prop} [Decidable p],p->AV.pv (.bool (θ p))=bv T:=λh=>by simp_all
 have k:∀ {p:Prop} [Decidable p],¬ p->AV.pv (.bool (θ p))=bv η:=λh=>by simp_all
 by_cases d:b<=57
 .have c:48<=b:=by rcases j with h|h<;>omega
  rw[b6 d];refine Bd func83 Z ntmps83<|Sz aH<|S<|U aA<|Y (cP.eqv (jY Z Z Z) (f c))<|Y aA<|O aA<|O (cP.eqv (mW Z Z Z) (f d))<|V cD<|Cn ?_ ?_<;>intro e
  .exact U aA<|Y (by exact dT Z Z Z (show IntKind.u8.wrap (b - 48)=b - 48 by rw[IntKind.wrap_u8];omega))<|Y (eE Z cZ underlying3 Z (lT X X))<|V aH<|aC<|Rt<|Qq
  cases e
 have c:97<=b/\b<=102:=by rcases j with h|h<;>omega
 have i:48<=b:=X
 rw[a8 d];refine Bd func83 Z ntmps83<|Sz aH<|S<|U aA<|Y (cP.eqv (jY Z Z Z) (f i))<|Y aA<|O aA<|O (cP.eqv (mW Z Z Z) (k d))<|V cD<|Cn ?_ ?_<;>intro e
 .cases e
 refine aB<|S<|U aA<|Y (cP.eqv (jY Z Z Z) (f c.1))<|Y aA<|O aA<|O (cP.eqv (mW Z Z Z) (f c.2))<|V cD<|Cn ?_ ?_<;>intro g
 .exact U aA<|Y (by exact dT Z Z Z (show IntKind.u8.wrap (b - 97)=b - 97 by rw[IntKind.wrap_u8];omega))<|Y (eE Z cZ underlying3 Z (lT X X))<|Y (by exact dD Z Z Z (show ξ.wrap (b - 97+10)=b - 87 by rw[lT X X];omega))<|V aH<|aC<|Rt<|Qq
 cases g
abbrev HX:B_:=⟨#[48,49,50,51,52,53,54,55,56,57,97,98,99,100,101,102]⟩
instance (b:Int):Decidable (H8 b):=by unfold H8;infer_instance
theorem aCJ:∀q:Fin 16,H8 (aZ HX q.1):=E_
theorem aCG{q}(h:q<16):N (HX.extract q (q+1))=1/\H8 (aZ (HX.extract q (q+1)) 0):=by
 refine⟨by rw[ByteArray.size_extract];have:N HX=16:=rfl;omega,?_⟩;have e:aZ (HX.extract q (q+1)) 0=aZ HX q:=by
  unfold aZ
  simp_all
 rw[e];exact aCJ ⟨q,h⟩
theorem Vz{l}{i}{b}(hi:i<8)(a:l[i]?=A b):(nE l)[i]?=A b:=by rw[nE,getElem?_append_left G_,getElem?_take_of_lt hi,a]
theorem Mc{l}{i}(hi:i<8)(B:C l<=i):(nE l)[i]?=A 0:=by rw[nE,getElem?_append_right G_,getElem?_replicate,b6 G_]
theorem Xg(D i)(hi:i<16):D / 16 ^ i % 16=WD D (15 - i):=by rw[WD,show 60 - 4*(15 - i)=4*i by omega,Nat.pow_mul]
theorem aCH:∀q:Fin 16,(HX.extract q.1 (q.1+1)).data.toList=[UInt8.ofNat (xN q.1).toNat]:=λq=>by
 revert q;decide
theorem jy(D):C (B8 D)=16:=rfl
theorem Oy(D){i}(h:i<16):(B8 D)[i]?=A (UInt8.ofNat (xN (WD D i)).toNat):=by rw[B8,r8,getElem?_range h];rfl
theorem Ov(D){i}(h:i<16):HX.extract (D / 16 ^ i % 16) (D / 16 ^ i % 16+1)++a_ ((B8 D).drop (16 - i))=a_ ((B8 D).drop (16 - (i+1))):=by
 refine mR ?_;rw[ByteArray.data_append,Array.toList_append,aCH ⟨_,mod_lt _ H_⟩,cG,cG];show UInt8.ofNat (xN (D / 16 ^ i % 16)).toNat::(B8 D).drop _=_;rw[Xg D i h,show 16 - (i+1)=15 - i by omega,show 16 - i=15 - i+1 by omega];have b:15 - i<C (B8 D):=by rw[jy];omega
 rw[drop_eq_getElem_cons b];have:=Oy D (i:=15 - i) X;rw[n_ b]at this;rw[Option.some.inj this]
theorem Ve(s:B_)(hs:N s<1000000000)(H:aF):RC 95 [sv s] (sv (F1 s)) H:=by
 refine Pu ?_;have γ:=aS s;have i_:bits .xor .u64 1181783497276652981 (N s:Int)=((WH (N s):Nat):Int):=bits_xor_u64_nat 1181783497276652981 (N s) E_ X;have B:WH (N s)<18446744073709551616:=zy X;have ⟨D,hD⟩:∃D,D=UM (WH (N s)) (ν (μ s)):=X_;have l:F1 s=a_ (B8 D):=by rw[F1,<-hD];rfl
 rw[l];clear l;refine Bd func95 Z ntmps95<|Sz aH<|U aA<|Y (gL U_)<|Y (eE Z underlying3 gQ Z (ew X))<|Y (pS Z H_ Z Z i_)<|V aH<|S<|Sz aH<|aE<|eZ (λ(j c:Nat)=>([(0,sv s),(3,uv c),(4,iv ((8*j:Nat):Int))],[])) (λj c=>8*j<=N s+8/\c<18446744073709551616/\((8*j<=N s/\UM c (s.data.toList.drop (8*j))=D)\/(N s<8*j/\c=D))) (λj c=>N s+8 - 8*j) 0 (WH (N s)) ⟨X,B,.inl ⟨X,F_⟩⟩ ?_ ?_
 .exact Wk
 rintro j c ⟨hj,p,u⟩;refine S<|U aA<|Y aA<|Y (gL U_)<|V H7<|Cn ?_ ?_<;>intro q
 .have hle:8*j<=N s:=I_ q
  have o:UM c (s.data.toList.drop (8*j))=D:=by
   omega
  have ⟨R,F⟩:∃R,R=s.data.toList.drop (8*j):=X_;have τ:C R=N s - 8*j:=F_
  have δ:=ie R;rw[<-F]at o;refine aB<|S<|aE<|Sz aH<|S<|U aA<|V aH<|aE<|bF (σ:=Nat) (λi=>([(0,sv s),(3,uv c),(4,iv ((8*j:Nat):Int)),(5,uv (wS ((nE R).take i))),(6,iv ((8*j+i:Nat):Int))],[])) (λi=>i<=8) (λi=>8 - i) 0 (l7 _) ?_ ?_
  .exact Wk
  intro i hi;by_cases f:i<8
  .have ⟨y,K⟩:=aR (l:=nE R) (k:=i) X;have e:wS ((nE R).take (i+1))=wS ((nE R).take i)*256+y.toNat:=by rw[eP K,ZB]
   have h7:wS ((nE R).take i)<72057594037927936:=mq G_;have β:y.toNat<256:=y.toNat_lt;generalize wS ((nE R).take i)=b at e h7 |-;refine S<|U aA<|Y aA<|Y (by exact dD Z Z Z (show ξ.wrap (((8*j:Nat):Int)+8)=((8*j+8:Nat):Int)by rw[lT X X];omega))<|V cI ?_;refine Cn ?_ ?_<;>intro J
   .refine aB<|S<|aE<|U aA<|Y (by exact oZ Z Z Z (show IntKind.u64.wrap ((b:Int)*256)=((b*256:Nat):Int)by rw[IntKind.wrap_u64];omega))<|V aH<|U aA<|Y aA<|Y (gL U_)<|V cI ?_;refine Cn ?_ ?_<;>intro x
    .have hlt2:8*j+i<N s:=I_ x
     have c_:aZ s (8*j+i)=(y.toNat:Int):=by
      have v_:R[i]?=s.data.toList[8*j+i]?:=by rw[F,getElem?_drop]
      have ⟨z,hz⟩:=aR (l:=ν (μ s)) (k:=8*j+i) X;have:=Vz (l:=R) f (v_.trans hz);rw[K]at this;rw[aZ,hz,<-Option.some.inj this];rfl
     refine Rd aA<|Y aA<|Y aA<|Y (ky U_)<|Y (eE Z cZ gQ Z (show IntKind.u64.wrap (aZ s (8*j+i))=((y.toNat:Nat):Int)by rw[c_,ew X]))<|Y (by exact dD Z Z Z (show IntKind.u64.wrap (((b*256:Nat):Int)+((y.toNat:Nat):Int))=((b*256+y.toNat:Nat):Int)by rw[IntKind.wrap_u64];omega))<|V aH<|Rd aA<|Y (by exact dD Z Z Z (show ξ.wrap (((8*j+i:Nat):Int)+1)=((8*j+(i+1):Nat):Int)by rw[lT X X];omega))<|Da ?_;refine⟨i+1,X,X,?_⟩;rw[e];exact Wk
    have m:N s<=8*j+i:=J_ x
    have e_:y.toNat=0:=by
     have:=Mc (l:=R) f X;rw[K]at this;rw[Option.some.inj this];rfl
    refine aB<|Rd aA<|Y (by exact dD Z Z Z (show ξ.wrap (((8*j+i:Nat):Int)+1)=((8*j+(i+1):Nat):Int)by rw[lT X X];omega))<|Da ?_;refine⟨i+1,X,X,?_⟩;rw[e,e_,Nat.add_zero];exact Wk
   (have h:=b_ J;omega)
  have A_:i=8:=X
  subst A_;have u_:(nE R).take 8=nE R:=take_of_length_le X;rw[u_];refine S<|U aA<|Y aA<|Y (by exact dD Z Z Z (show ξ.wrap (((8*j:Nat):Int)+8)=((8*j+8:Nat):Int)by rw[lT X X];omega))<|V cI ?_;refine Cn ?_ ?_<;>intro L
  ·(have h:=b9 L;omega)
  have a:=U8 (l:=nE R) X;have W:=λH=>aBK (c ^^^ wS (nE R)) (ES p a) H;refine aP<|Rd aA<|Y aA<|Y (pS Z H_ Z Z (bits_xor_u64_nat c (wS (nE R)) p a))<|Y (kc call140 (W _))<|V aH<|Rd aA<|Y (by exact dD Z Z Z (show ξ.wrap (((8*j:Nat):Int)+8)=((8*(j+1):Nat):Int)by rw[lT X X];omega))<|Da ?_;refine⟨j+1,PD (c ^^^ wS (nE R)),⟨X,bq _,?_⟩,X,Wk⟩;by_cases t:8<=C R
  .refine .inl ⟨X,?_⟩;have y_:nE (R.take 8)=nE R:=by
    rw[nE,nE,take_take,m_,Nat.min_eq_left t];rw[show 8 - C R=0 by omega];rfl
   have d:=YX c t;rw[y_,o,F,drop_drop]at d;rw[F,show 8*(j+1)=8*j+8 by omega,d]
  refine .inr ⟨X,?_⟩;rw[<-YY c X,o]
 have κ:N s<8*j:=J_ q
 have w:c=D:=by
  rcases u with⟨h,_⟩|⟨_,h⟩
  .omega
  exact h
 subst w;have r:=jy c;have r4:a_ ((B8 c).drop (16 - 0))=⟨#[]⟩:=by rw[drop_of_length_le X];rfl
 have Q:c / 16 ^ 0=c:=by rw[Nat.pow_zero,Nat.div_one]
 refine aP<|Sz aH<|S<|Sz aH<|aE<|bF (σ:=Nat) (λi=>([(3,uv (c / 16 ^ i)),(7,sv (a_ ((B8 c).drop (16 - i)))),(8,iv (i:Int))],[])) (λi=>i<=16) (λi=>16 - i) 0 (l7 _) ?_ ?_
 .rw[r4,Q];exact Wk
 intro i hi;have ⟨v,E⟩:∃v,v=c / 16 ^ i:=X_;have ρ:v<18446744073709551616:=by rw[E];exact Nat.lt_of_le_of_lt (div_le_self _ _) p
 have u4:c / 16 ^ (i+1)=v / 16:=by rw[E,Nat.pow_succ,<-Nat.div_div_eq_div_mul]
 rw[<-E];have P:((v:Nat):Int).tmod 16=((v % 16:Nat):Int):=by rw[Int.tmod_eq_emod_of_nonneg X];omega
 have hq:IntKind.u64.wrap (((v:Nat):Int).tdiv 16)=((v / 16:Nat):Int):=by
  rw[Int.tdiv_eq_ediv_of_nonneg X,IntKind.wrap_u64];omega
 have n:v % 16<16:=mod_lt _ E_;have k:=aCG n;have f_:N (a_ ((B8 c).drop (16 - i)))=i:=by rw[cA,p_];omega
 by_cases o_:i<16
 .have e:=Ov c o_;rw[<-E]at e;generalize v % 16=g at P n k e;refine S<|U aA<|V cI<|Cn ?_ ?_<;>intro I
  .refine aB<|S<|aE<|U aA<|Y (xF Z Z Z E_ P)<|Y aA<|Y (xF Z Z Z E_ P)<|Y (by exact dD Z Z Z (show IntKind.u64.wrap ((g:Int)+1)=((g+1:Nat):Int)by rw[IntKind.wrap_u64];omega))<|Y (by exact bM (l:=g) (h:=g+1) Z U_ Z Z Z X (show g+1<=N HX from by have:N HX=16:=rfl;omega) Z)<|Y aA<|Y (by exact fJ Z Z Z (show N (HX.extract g (g+1))+N (a_ ((B8 c).drop (16 - i)))<=9223372036854775807 by rw[k.1,f_];omega) e)<|V aH<|Rd aA<|Y (C8 Z Z Z E_ hq)<|V aH<|Rd aA<|Y kp<|Da ?_;refine⟨i+1,X,X,?_⟩;rw[u4];exact Wk
  (have h:=b_ I;omega)
 have G:i=16:=X
 subst G;refine S<|U aA<|V cI<|Cn ?_ ?_<;>intro z_
 ·(have h:=b9 z_;omega)
 exact aP<|U aA<|V aH<|aC<|Rt<|Qq
theorem wq(L)(d:C L<=2000)(c:∀s∈L,N s<=20000)(H):RC 52 [.pv (aK L)] (sv (yY L)) H:=by refine Pu ?_;have e:=λH=>W6 L X (λs h=>Nat.le_trans (c s h) H_) H;have B:=yM c d;have b:=λH=>Ve (a_ (aO L)) (by rw[cA];omega) H;exact Bd func52 Z ntmps52<|Sz aH<|U aA<|Y (bH Z Z call85 Z (e _))<|Y (bH Z Z call95 Z (b _))<|V aH<|aC<|Rt<|Qq
theorem lr(b:Int)(l:¬ H8 b)(H:aF):RC 83 [.pv (.int .u8 b)] (iv (-1)) H:=by
 refine Pu ?_;have k:∀ {p:Prop} [Decidable p],p->AV.pv (.bool (θ p))=bv T:=λh=>by simp_all
 have g:∀ {p:Prop} [Decidable p],¬ p->AV.pv (.bool (θ p))=bv η:=λh=>by simp_all
 by_cases e:48<=b
 .have i:¬ b<=57:=λh=>l (.inl ⟨e,h⟩);by_cases f:97<=b
  .have j:¬ b<=102:=λh=>l (.inr ⟨f,h⟩);refine Bd func83 Z ntmps83<|Sz aH<|S<|U aA<|Y (cP.eqv (jY Z Z Z) (k e))<|Y aA<|O aA<|O (cP.eqv (mW Z Z Z) (g i))<|V cD<|Cn ?_ ?_<;>intro c
   .cases c
   refine aB<|S<|U aA<|Y (cP.eqv (jY Z Z Z) (k f))<|Y aA<|O aA<|O (cP.eqv (mW Z Z Z) (g j))<|V cD<|Cn ?_ ?_<;>intro d
   .cases d
   exact aB<|Sz aH<|aC<|Rt<|Qq
  refine Bd func83 Z ntmps83<|Sz aH<|S<|U aA<|Y (cP.eqv (jY Z Z Z) (k e))<|Y aA<|O aA<|O (cP.eqv (mW Z Z Z) (g i))<|V cD<|Cn ?_ ?_<;>intro c
  .cases c
  refine aB<|S<|U aA<|Y (cP.eqv (jY Z Z Z) (g f))<|Y aA<|M<|M<|V cD<|Cn ?_ ?_<;>intro d
  .cases d
  exact aB<|Sz aH<|aC<|Rt<|Qq
 refine Bd func83 Z ntmps83<|Sz aH<|S<|U aA<|Y (cP.eqv (jY Z Z Z) (g e))<|Y aA<|M<|M<|V cD<|Cn ?_ ?_<;>intro c
 .cases c
 refine aB<|S<|U aA<|Y (cP.eqv (jY Z Z Z) (g X))<|Y aA<|M<|M<|V cD<|Cn ?_ ?_<;>intro d
 .cases d
 exact aB<|Sz aH<|aC<|Rt<|Qq
theorem jx{s}{i}{y}(h:s.data.toList[i]?=A y):H8 (aZ s i)↔sS y=T:=by
 rw[aZ];simp[H8,sS,Bool.or_eq_true,l6,k_,UInt8.le_iff_toNat_le]
 grind
theorem Xw{s}{i:Nat}{y}(h:s.data.toList[i]?=A y)(B:sS y=η):m6 s=η:=by
 rw[m6]
 grind
theorem Xy{s}(h:∀k,k<16->∀y,s.data.toList[k]?=A y->sS y=T):m6 s=θ (N s=16):=by
 rw[m6];by_cases e:N s=16
 .rw[decide_eq_true e,Bool.true_and,all_eq_true];intro y b;have ⟨k,a⟩:=s8.1 b;have:=(m9.1 a).1;rw[aS]at this;exact h k X y a
 simp_all
theorem wt(s:B_)(E:N s<2^62)(H:aF):RC 37 [sv s] (bv (m6 s)) H:=by
 refine Pu ?_;have u:=aS s;refine Bd func37 Z ntmps37<|Sz aH<|S<|Sz aH<|aE<|bF (σ:=Nat) (λi=>([(0,sv s),(3,iv (i:Int))],[])) (λi=>i<=16/\i<=N s/\∀k,k<i->∀y,s.data.toList[k]?=A y->sS y=T) (λi=>16 - i) 0 ⟨l7 _,l7 _,λk h=>by omega⟩ ?_ ?_
 .exact Wk
 rintro i ⟨hi,hi2,g⟩;by_cases q:i<N s/\i<16
 .have ⟨hin1,hin2⟩:=q;have ⟨y,e⟩:=aR (l:=ν (μ s)) (k:=i) X;have b:=jx e;have ⟨d,c⟩:∃d,d=aZ s i:=X_;rw[<-c]at b;by_cases m:sS y=T
  .have j:=λH=>zw d (b.2 m) H;have f:¬ (if d<=57 then d - 48 else d - 87)<0:=by
    have:=b.2 m;unfold H8 at this
    split<;>omega
   rw[c]at j f;refine S<|U aA<|Y aA<|Y (gL U_)<|Y (cP.eqv (iK Z Z Z) (show AV.pv (.bool (θ ((i:Int)<(N s:Int))))=bv T by simp_all))<|Y aA<|O aA<|O (cP.eqv (iK Z Z Z) (show AV.pv (.bool (θ ((i:Int)<16)))=bv T by grind))<|V cD<|Cn ?_ ?_<;>intro o
   .refine aB<|S<|aE<|U aA<|Y aA<|Y (ky U_)<|Y (kc call83 (j _))<|V cI<|Cn ?_ ?_<;>intro v
    .exact absurd (b9 v) f
    refine aB<|Rd aA<|Y kp<|Da ?_;refine⟨i+1,⟨X,X,λk B z F=>?_⟩,X,Wk⟩
    grind
   cases o
  have m:sS y=η:=F_
  have j:=λH=>lr d (λh=>by simp_all) H;rw[c]at j;rw[Xw e m];refine S<|U aA<|Y aA<|Y (gL U_)<|Y (cP.eqv (iK Z Z Z) (show AV.pv (.bool (θ ((i:Int)<(N s:Int))))=bv T by simp_all))<|Y aA<|O aA<|O (cP.eqv (iK Z Z Z) (show AV.pv (.bool (θ ((i:Int)<16)))=bv T by grind))<|V cD<|Cn ?_ ?_<;>intro w
  .refine aB<|S<|aE<|U aA<|Y aA<|Y (ky U_)<|Y (kc call83 (j _))<|V cI<|Cn ?_ ?_<;>intro n
   .exact Sz aH<|aC<|Rt<|Qq
   (have h:=b_ n;exact absurd E_ h)
  cases w
 have l:=Xy (s:=s) (λk B y e=>by
  have:=(m9.1 e).1;rw[u]at this;exact g k X y e)
 have x:θ ((N s:Int)=16)=θ (N s=16):=by
  grind
 rw[l];by_cases D:i<N s
 .refine S<|U aA<|Y aA<|Y (gL U_)<|Y (cP.eqv (iK Z Z Z) (show AV.pv (.bool (θ ((i:Int)<(N s:Int))))=bv T by simp_all))<|Y aA<|O aA<|O (cP.eqv (iK Z Z Z) (show AV.pv (.bool (θ ((i:Int)<16)))=bv η by rw[decide_eq_false X]))<|V cD<|Cn ?_ ?_<;>intro p
  .cases p
  exact aP<|U aA<|Y (gL U_)<|Y (cP.eqv (kR Z Z Z) (show AV.pv (.bool (θ ((N s:Int)=16)))=bv (θ (N s=16))by rw[x]))<|V aH<|aC<|Rt<|Qq
 refine S<|U aA<|Y aA<|Y (gL U_)<|Y (cP.eqv (iK Z Z Z) (show AV.pv (.bool (θ ((i:Int)<(N s:Int))))=bv η by rw[decide_eq_false X]))<|Y aA<|M<|M<|V cD<|Cn ?_ ?_<;>intro t
 .cases t
 exact aP<|U aA<|Y (gL U_)<|Y (cP.eqv (kR Z Z Z) (show AV.pv (.bool (θ ((N s:Int)=16)))=bv (θ (N s=16))by rw[x]))<|V aH<|aC<|Rt<|Qq
def PH(b:UInt8):Bool:=θ (48<=b.toNat)&&θ (b.toNat<=57)
def VN:List UInt8->Nat->Nat->Nat×Nat
 | [],c,n=>(c,n)
 |b::r,c,n=>if(PH b&&θ (c<6))=T then VN r (c+1) (10*n+(b.toNat - 48))else(c,n)
def PA(l:List UInt8):Nat:=(VN l 0 0).1
def oz(l:List UInt8):Nat:=(VN l 0 0).2
def R7(l:List UInt8):Prop:=PA l=0\/l[PA l]?≠A 58\/C l - PA l - 1<oz l
instance (l:List UInt8):Decidable (R7 l):=inferInstanceAs (Decidable (_\/_\/_))
def O9(l:List UInt8):Option (List B_) :=if h:l=[]then A []else if R7 l then ζ else(O9 (l.drop (PA l+1+oz l))).map (a_ ((l.drop (PA l+1)).take (oz l))::·)
termination_by (C l)
decreasing_by have:=length_pos_iff.2 h;rw[p_];omega
def Ul(l:List UInt8):List B_×Bool:=match O9 l with|some L=>(L,T)|none=>([],η)
theorem ZY:∀(w r) (c n v),decFrom n w=A v->c+C w<=6->VN (w++58::r) c n=(c+C w,v)
 | [],r,c,n,v,h,_=>by
  obtain rfl:=Option.some.inj h;rfl
 | b::w,r,c,n,v,h,g=>by
  rw[decFrom]at h;rw[j6]at g |-;cases e:digitVal b with
  |none=>simp_all
  | some d =>
   rw[e]at h;have f:d=b.toNat - 48/\PH b=T:=by
    rw[digitVal]at e
    split at e
    .next a=>obtain rfl:=Option.some.inj e;exact⟨Z,by rw[PH,decide_eq_true a.1,decide_eq_true a.2];rfl⟩
    cases e
   rw[cons_append,VN,b6 G_,<-f.1,Nat.mul_comm _,ZY w r _ _ v h X];exact Prod.ext X Z
theorem R4:∀(L:List B_),(∀s∈L,N s<1000000)->O9 (aO L)=A L
 | [],_=>by rw[show aO []=[]from Z,O9,dif_pos rfl]
 | x::L,h=>by
  have E:=h x mem_cons_self;have D:=cX (k:=6) X E_;have f:=oC (N x);have c:VN (aO (x::L)) 0 0=(C (decDigits (N x)),N x):=by rw[gY,ZY _ _ 0 0 _ (jT _) X,r7]
  have g:PA (aO (x::L))=C (decDigits (N x)):=congrArg Prod.fst c;have B:oz (aO (x::L))=N x:=congrArg Prod.snd c;have i:C (aO (x::L))=C (decDigits (N x))+1+(N x+C (aO L)):=by rw[gY,j8,j6,j8,aS];omega
  have d:(aO (x::L))[C (decDigits (N x))]?=A 58:=by rw[gY,getElem?_append_right (h_ _),Nat.sub_self];rfl
  have b:(aO (x::L)).drop (C (decDigits (N x))+1)=ν (μ x)++aO L:=by
   rw[gY,show decDigits (N x)++58::(ν (μ x)++aO L)=(decDigits (N x)++[58])++(ν (μ x)++aO L)by simp,drop_left' H_]
  rw[O9,dif_neg (λe=>by simp_all),a8 (by rw[R7,g,B,d,i];have:=length_pos_iff.2 f;exact λh=>h.elim (λh=>by omega) λh=>h.elim (λh=>h Z) λh=>by omega),g,B,b,<-drop_drop,b,drop_left' (aS x),take_left' (aS x),R4 L (λs j=>h s (mem_cons_of_mem _ j)),gE];rfl
def UN(n:Int):B_:=if n<0 then a_ (45::decDigits (-n).toNat)else a_ (decDigits n.toNat)
theorem tu(n:Int)(h0 : -4611686018427387904<=n)(G:n<=4611686018427387904)(H:aF):RC 84 [iv n] (sv (UN n)) H:=by
 by_cases e:n<0
 .refine Pu ?_;have g:∃k:Nat,n = -((k:Int)+1):=⟨(-n - 1).toNat,X⟩;have ⟨k,g⟩:=g;have f:=λH=>gh (k+1) X H;have E:UN n=a_ (45::decDigits (k+1)):=by rw[UN,b6 e,show (-n).toNat=k+1 by omega]
  rw[E];have j:ξ.wrap (n+1) = -(k:Int):=by rw[lT X X];omega
  have h:IntKind.u64.wrap (0 - -(k:Int))=(k:Int):=by rw[IntKind.wrap_u64];omega
  have i:IntKind.u64.wrap ((k:Int)+1)=((k+1:Nat):Int):=by rw[IntKind.wrap_u64];omega
  have B:(⟨#[45]⟩:B_)++a_ (decDigits (k+1))=a_ (45::decDigits (k+1)):=by rfl
  have D:N (⟨#[45]⟩:B_)=1:=rfl;have F:N (a_ (decDigits (k+1)))<=19:=by rw[cA];exact cX (k:=19) X E_
  refine Bd func84 Z ntmps84<|Sz aH<|S<|U aA<|V (cP.eqv (iK Z Z Z) (by rw[decide_eq_true e]))<|Cn ?_ ?_<;>intro d
  .refine U aA<|Y (ka j)<|Y (Wo Z Z (lT X X))<|Y (eE Z underlying3 gQ Z h)<|Y (ka i)<|Y (kc call136 (f _))<|Y kq<|V aH<|aC<|Rt ?_
   simp_all
  cases d
 obtain ⟨k,rfl⟩:∃k:Nat,n=(k:Int):=⟨n.toNat,X⟩;rw[UN,a8 e];exact SI k X H
theorem Fin.st2J{H1}{id g n}{ob}(l)(v)(b:H1.get id=A ob)(c:ob.g=g)(a:ob.rows=bZ l)(d:n=C l)(e:Clo [] v):
  Fin [] H1 (.tup [.osl id g 0 n,v]) [] (.tup [.pv (aK l),v]):=by
 subst c d;exact Fin.fz _ b (a.trans (dA l)) (.tup Z (bA (.osl (fR _ l)) (bA (.same e) jA))) Z T_ T_
theorem y4{p:Prop}(h:p:=by exact cK Z U_ Z Z X (l_ _) (by rw[hz];omega) Z):p:=h
theorem u5{p:Prop}(h:p:=by rw[hz];omega):p:=h
theorem Bq(l:List UInt8)(hl:C l<1000000000)(H:aF):RC 62 [sv (a_ l)] (.tup [.pv (aK (Ul l).1),bv (Ul l).2]) H:=by
 refine Pu ?_;have t1:∀ {p:Prop} [Decidable p],p->AV.pv (.bool (θ p))=bv T:=λh=>by simp_all
 have K:∀ {p:Prop} [Decidable p],¬ p->AV.pv (.bool (θ p))=bv η:=λh=>by simp_all
 have n1:∀ {p:Prop} [Decidable p],¬ p->AV.pv (.bool (!θ p))=bv T:=λh=>by simp_all
 have n0:∀ {p:Prop} [Decidable p],p->AV.pv (.bool (!θ p))=bv η:=λh=>by simp_all
 have hz:=cA l;have g:∀i b,l[i]?=A b->aZ (a_ l) i=(b.toNat:Int):=λi b h=>by rw[aZ,cG,h];rfl
 have hvn:O9 l=ζ->Ul l=([],η):=λh=>by rw[Ul,h]
 have hvs:∀B,O9 l=A B->Ul l=(B,T):=λB h=>by rw[Ul,h]
 refine Bd func62 Z ntmps62<|U aH<|V aH<|Sz (dZ (id:=905) (sz:=1) (ty:=9) Z Z Z)<|Sz aH<|S<|aE<|eZ (λ(p:Nat) (B:List B_)=>([(0,sv (a_ l)),(4,.osl 905 (C B) 0 (C B)),(5,iv (p:Int))],[(905,⟨C B,1,9,bZ B⟩)])) (λp B=>p<=C l/\C B<=p/\O9 l=(O9 (l.drop p)).map (B++·)) (λp B=>C l - p) 0 [] ⟨l7 _,h_ _,F_⟩ ?_ ?_
 .exact L_
 rintro p B ⟨hp,hAp,hJ⟩;refine S<|U aA<|Y aA<|Y (gL U_)<|V cI<|Cn ?_ ?_<;>intro j
 .have hlt:p<C l:=by have:=b9 j;rw[hz]at this;omega
  obtain ⟨R,z⟩:∃R,R=l.drop p:=X_;have hRl:C R=C l - p:=F_
  have f:∀c,R[c]?=l[p+c]?:=λc=>by simp_all
  rw[<-z]at hJ;have d:R≠[]:=λe=>by grind
  refine aB<|aE<|Sz aH<|Sr<|Da<|eR (λ(q:Nat×Nat)=>([(0,sv (a_ l)),(4,.osl 905 (C B) 0 (C B)),(5,iv ((p+q.1:Nat):Int)),(6,iv (q.2:Int)),(7,iv (q.1:Int))],[(905,⟨C B,1,9,bZ B⟩)])) (λq=>VN R 0 0=q/\q.1<=6/\p+q.1<=C l/\q.2<1000000) ?_ ?_
  .refine aE<|eZ (λ(c n:Nat)=>([(0,sv (a_ l)),(4,.osl 905 (C B) 0 (C B)),(5,iv ((p+c:Nat):Int)),(6,iv (n:Int)),(7,iv (c:Int))],[(905,⟨C B,1,9,bZ B⟩)])) (λc n=>VN R 0 0=VN (R.drop c) c n/\c<=6/\p+c<=C l/\n<10 ^ c) (λc n=>6 - c) 0 0 ⟨Z,l7 _,X,E_⟩ ?_ ?_
   .exact L_
   rintro c n ⟨hsc,hle6,hcl,hn⟩;have hp6:10 ^ c<=1000000:=Nat.le_trans (Nat.pow_le_pow_right E_ hle6) E_;by_cases t:p+c<C l
   .have ⟨b,hb⟩:=aR (l:=R) (k:=c) X;have D:=g (p+c) b ((f c).symm.trans hb);have τ:=b.toNat_lt;have P:R.drop c=b::R.drop (c+1):=by
     have h1:=(m9.1 hb).1;rw[List.drop_eq_getElem_cons h1,(m9.1 hb).2]
    rw[P,VN]at hsc;by_cases G:(PH b&&θ (c<6))=T
    .rw[b6 G]at hsc;rw[l6,PH,l6,k_,k_,k_]at G;have hn2:10*n+(b.toNat - 48)<10 ^ (c+1):=by rw[Nat.pow_succ];omega
     refine S<|U aA<|Y aA<|Y (gL U_)<|Y (by exact cP.eqv (iK Z Z Z) (t1 u5))<|Y aA<|O aA<|O aA<|O y4<|O (by exact cP.eqv (jY Z Z Z) (t1 (by rw[D];omega)))<|Y cD<|Y aA<|O aA<|O aA<|O y4<|O (by exact cP.eqv (mW Z Z Z) (t1 (by rw[D];omega)))<|Y cD<|Y aA<|O aA<|O (cP.eqv (iK Z Z Z) (t1 X))<|V cD ?_;refine Cn ?_ ?_<;>intro σ
     .refine aB<|aE<|U aA<|Y (by exact oZ Z Z Z (show ξ.wrap (10*(n:Int))=((10*n:Nat):Int)by rw[lT X X];omega))<|Y aA<|Y aA<|Y y4<|Y (by exact dT Z Z Z (show IntKind.u8.wrap (aZ (a_ l) (p+c) - 48)=((b.toNat - 48:Nat):Int)by rw[D,IntKind.wrap_u8];omega))<|Y (eE Z cZ underlying3 Z (lT X X))<|Y (by exact dD Z Z Z (show ξ.wrap (((10*n:Nat):Int)+((b.toNat - 48:Nat):Int))=((10*n+(b.toNat - 48):Nat):Int)by rw[lT X X];omega))<|V aH<|U aA<|Y (by exact dD Z Z Z (show ξ.wrap (((p+c:Nat):Int)+1)=((p+(c+1):Nat):Int)by rw[lT X X];omega)) ?_;refine V aH<|Rd aA<|Y kp<|Da ?_;exact⟨c+1,_,⟨hsc,X,X,hn2⟩,X,L_⟩
     cases σ
    rw[a8 G]at hsc;have G:(PH b&&θ (c<6))=η:=by simpa using G
    have E:∃a:Nat×Nat,(VN R 0 0=a/\a.1<=6/\p+a.1<=C l/\a.2<1000000)/\a=(c,n):=⟨(c,n),⟨hsc,hle6,hcl,X⟩,Z⟩;obtain ⟨_,E,rfl⟩:=E;by_cases w:48<=b.toNat
    .by_cases h57:b.toNat<=57
     .have hc:¬ c<6:=λh=>by rw[PH,decide_eq_true w,decide_eq_true h57,decide_eq_true h]at G;cases G
      refine S<|U aA<|Y aA<|Y (gL U_)<|Y (by exact cP.eqv (iK Z Z Z) (t1 u5))<|Y aA<|O aA<|O aA<|O y4<|O (by exact cP.eqv (jY Z Z Z) (t1 (by rw[D];omega)))<|Y cD<|Y aA<|O aA<|O aA<|O y4<|O (by exact cP.eqv (mW Z Z Z) (t1 (by rw[D];omega)))<|Y cD<|Y aA<|O aA<|O (cP.eqv (iK Z Z Z) (K X))<|V cD ?_;refine Cn ?_ ?_<;>intro ρ
      .cases ρ
      refine aP ?_;exact⟨(c,n),E,L_⟩
     refine S<|U aA<|Y aA<|Y (gL U_)<|Y (by exact cP.eqv (iK Z Z Z) (t1 u5))<|Y aA<|O aA<|O aA<|O y4<|O (by exact cP.eqv (jY Z Z Z) (t1 (by rw[D];omega)))<|Y cD<|Y aA<|O aA<|O aA<|O y4<|O (by exact cP.eqv (mW Z Z Z) (K (by rw[D];omega)))<|Y cD<|Y aA<|M<|M<|V cD ?_;refine Cn ?_ ?_<;>intro κ
     .cases κ
     refine aP ?_;exact⟨(c,n),E,L_⟩
    refine S<|U aA<|Y aA<|Y (gL U_)<|Y (by exact cP.eqv (iK Z Z Z) (t1 u5))<|Y aA<|O aA<|O aA<|O y4<|O (by exact cP.eqv (jY Z Z Z) (K (by rw[D];omega)))<|Y cD<|Y aA<|M<|M<|M<|M<|Y cD<|Y aA<|M<|M<|V cD ?_;refine Cn ?_ ?_<;>intro δ
    .cases δ
    refine aP ?_;exact⟨(c,n),E,L_⟩
   rw[drop_eq_nil_of_le X,VN]at hsc;refine S<|U aA<|Y aA<|Y (gL U_)<|Y (by exact cP.eqv (iK Z Z Z) (K u5))<|Y aA<|M<|M<|M<|M<|Y cD<|Y aA<|M<|M<|M<|M<|Y cD<|Y aA<|M<|M<|V cD ?_;refine Cn ?_ ?_<;>intro γ
   .cases γ
   refine aP ?_;exact⟨(c,n),⟨hsc,hle6,hcl,X⟩,L_⟩
  rintro⟨c,n⟩ ⟨hsc,hle6,hcl,hn⟩;have x:PA R=c:=congrArg Prod.fst hsc;have y:oz R=n:=congrArg Prod.snd hsc;have F:R7 R->Ul l=([],η):=λh=>hvn (by rw[hJ,O9,dif_neg d,b6 h];rfl);rw[R7,x,y]at F;dsimp only at hle6 hcl hn |-;by_cases c0:c=0
  .rw[F (.inl c0)];refine S<|U aA<|Y (cP.eqv (kR Z Z Z) (t1 X))<|Y aA<|M<|M<|M<|M<|Y cD<|Y aA<|M<|M<|M<|M<|Y cD<|Y aA<|M<|M<|M<|M<|M<|M<|M<|V cD<|Cn ?_ ?_<;>intro β
   .refine U aH<|V aH<|aC<|gD (H':=[]) (.inr Z) Z (aI Z) (aI Z) (P_ (r:=.tup [.pv (aK []),bv η])) Qq
   cases β
  by_cases t:p+c<C l
  .have ⟨b,hb⟩:=aR (l:=R) (k:=c) X;have D:=g (p+c) b ((f c).symm.trans hb);by_cases J:b=58
   .have I:aZ (a_ l) (p+c)=58:=by rw[D,J];rfl
    have w63:ξ.wrap ((N (a_ l):Int) - ((p+c:Nat):Int))=((C l - (p+c):Nat):Int):=by rw[hz,lT X X];omega
    have v:ξ.wrap (((C l - (p+c):Nat):Int) - 1)=((C l - (p+c) - 1:Nat):Int):=by rw[lT X X];omega
    have W:ξ.wrap (((p+c:Nat):Int)+1)=((p+c+1:Nat):Int):=by rw[lT X X];omega
    refine S<|U aA<|Y (cP.eqv (kR Z Z Z) (K X))<|Y aA<|O aA<|O aA<|O (gL U_)<|O (by exact cP.eqv (kR Z Z Z) (K u5))<|Y cD<|Y aA<|O aA<|O aA<|O y4<|O (cP.eqv (K0 Z Z Z) (n0 I))<|Y cD<|Y aA<|O aA<|O aA<|O (gL U_)<|O aA<|O (dT Z Z Z w63)<|O (dT Z Z Z v)<|O iX<|V cD ?_;refine Cn ?_ ?_<;>intro s
    .have hgt:C l - (p+c) - 1<n:=I_ s
     rw[F (.inr (.inr X))];refine U aH<|V aH<|aC<|gD (H':=[]) (.inr Z) Z (aI Z) (aI Z) (P_ (r:=.tup [.pv (aK []),bv η])) Qq
    have hle:n<=C l - (p+c) - 1:=J_ s
    have hok:¬ R7 R:=by rw[R7,x,y,hb,J];exact λh=>h.elim c0 λh=>h.elim (λh=>h Z) λh=>by omega
    have L:(a_ l).extract (p+c+1) (p+c+1+n)=a_ ((R.drop (c+1)).take n):=mR (by rw[gG,cG,cG,z,drop_drop,show p+c+1+n - (p+c+1)=n by omega,show p+(c+1)=p+c+1 by omega]);have P:l.drop (p+c+1+n)=R.drop (c+1+n):=by rw[z,drop_drop,show p+(c+1+n)=p+c+1+n by omega]
    have Q:C (B++[a_ ((R.drop (c+1)).take n)])=C B+1:=by rw[j8];rfl
    have u:O9 l=(O9 (l.drop (p+c+1+n))).map ((B++[a_ ((R.drop (c+1)).take n)])++·):=by
     rw[hJ,O9,dif_neg d,a8 hok,x,y,P];cases O9 (R.drop (c+1+n))<;>simp
    generalize a_ ((R.drop (c+1)).take n)=A_ at L Q u;refine aB<|U aA<|Y aA<|Y aA<|Y (ka W)<|Y aA<|Y (ka W)<|Y aA<|Y (by exact dD Z Z Z (show IntKind.i64.wrap (((p+c+1:Nat):Int)+(n:Int))=((p+c+1+n:Nat):Int)by rw[lT X X];omega))<|Y (by exact bM (l:=p+c+1) (h:=p+c+1+n) Z U_ Z Z Z X u5 L)<|Y (by exact aL [[.str A_]] Z aY Z Z Z Z Z R_)<|Y (by exact bW (ps:=[[.str A_]]) Z aY sW Z Z Z Z Z (dI _) Z R_ (m:=1) Z X Z (gT B A_))<|V aH<|Rd aA<|Y (ka W)<|Y aA<|Y (by exact dD Z Z Z (show IntKind.i64.wrap (((p+c+1:Nat):Int)+(n:Int))=((p+c+1+n:Nat):Int)by rw[lT X X];omega)) ?_;refine Da ?_;refine⟨p+c+1+n,B++[A_],⟨X,by rw[Q];omega,u⟩,X,?_⟩;rw[Q];exact(cH.wk (Eb<|Ea<|Eb<|T_) (Hc (aN _ _)<|T_) T_)
   have I:¬ aZ (a_ l) (p+c)=58:=λe=>J (by
    rw[D]at e;exact UInt8.toNat_inj.1 (by show b.toNat=58;omega))
   rw[F (.inr (.inl (by rw[hb];exact λe=>J (Option.some.inj e))))];refine S<|U aA<|Y (cP.eqv (kR Z Z Z) (K X))<|Y aA<|O aA<|O aA<|O (gL U_)<|O (by exact cP.eqv (kR Z Z Z) (K u5))<|Y cD<|Y aA<|O aA<|O aA<|O y4<|O (cP.eqv (K0 Z Z Z) (n1 I))<|Y cD<|Y aA<|M<|M<|M<|M<|M<|M<|M<|V cD ?_;refine Cn ?_ ?_<;>intro hc9
   .refine U aH<|V aH<|aC<|gD (H':=[]) (.inr Z) Z (aI Z) (aI Z) (P_ (r:=.tup [.pv (aK []),bv η])) Qq
   cases hc9
  rw[F (.inr (.inl (by rw[getElem?_eq_none X];exact λe=>by cases e)))];refine S<|U aA<|Y (cP.eqv (kR Z Z Z) (K X))<|Y aA<|O aA<|O aA<|O (gL U_)<|O (by exact cP.eqv (kR Z Z Z) (t1 u5))<|Y cD<|Y aA<|M<|M<|M<|M<|Y cD<|Y aA<|M<|M<|M<|M<|M<|M<|M<|V cD ?_;refine Cn ?_ ?_<;>intro o
  .refine U aH<|V aH<|aC<|gD (H':=[]) (.inr Z) Z (aI Z) (aI Z) (P_ (r:=.tup [.pv (aK []),bv η])) Qq
  cases o
 have hge:p=C l:=by have:=b_ j;rw[hz]at this;omega
 have E:Ul l=(B,T):=hvs B (by rw[hJ,hge,drop_length,O9,dif_pos rfl];simp);rw[E];refine aP<|U aA<|Y aH<|V aH<|aC ?_;refine gD (H':=[]) (.inr Z) Z (aI Z) (aI Z) (Fin.st2J B (bv T) Z Z Z Z H_) ?_;exact Qq
theorem ly:∀ {l:List UInt8},(58:UInt8)∈l->l=CL l++58::EF l
 | [],h=>by cases h
 | b::l,h=>by
  by_cases e:b=58
  .subst e;simp[CL,EF]
  have E:(58:UInt8)∈l:=by
   rcases l9.1 h with h|h
   .exact absurd h.symm e
   exact h
  have F:=ly E;have B:CL (b::l)=b::CL l:=by simp[CL,e]
  have D:EF (b::l)=EF l:=by simp[EF,e]
  rw[B,D,cons_append,<-F]
def CF(l:List UInt8):Prop:=PA l=0\/l[PA l]?≠A 58\/decDigits (oz l)≠l.take (PA l)\/C l - PA l - 1<oz l
theorem jf(h:n<1000000):eQ (a_ (decDigits n))=(n:Int):=by rw[<-xX,GX X X]
theorem LD(h:0<=eQ (a_ l)):l=decDigits (eQ (a_ l)).toNat/\C l<=6:=by
 have ⟨v,B⟩:∃v,v=eQ (a_ l):=X_;rw[<-B]at h |-;rw[eQ]at B
 split at B
 .next hc =>
  have ⟨G,H,D,E⟩:=hc;rw[cA]at D;have ⟨k,F⟩:∃k:Nat,jJ (a_ l)=(k:Int):=⟨(jJ (a_ l)).toNat,X⟩;rw[F]at B E;rw[B,l_];have:=congrArg (λs:B_=>ν (μ s)) E;simp only[NS,cG]at this;exact⟨this.symm,D⟩
 omega
theorem aCN(h:¬ CF l)(a:PA l<=6):rM l=η/\ZO l=oz l/\CL l=l.take (PA l)/\EF l=l.drop (PA l+1):=by
 simp only[CF,not_or,Decidable.not_not]at h;have ⟨R,E,F,W⟩:=h;have D:=(m9.1 E).1;have L:l=l.take (PA l)++58::l.drop (PA l+1):=by
  have J:l.drop (PA l)=58::l.drop (PA l+1):=by
   rw[drop_eq_getElem_cons D];rw[n_ D]at E;rw[Option.some.inj E]
  rw[<-J,take_append_drop]
 have G:(58:UInt8)∉l.take (PA l):=by rw[<-F];exact UL _
 have B:=lz (r:=l.drop (PA l+1)) G;rw[<-L]at B;have H:C (decDigits (oz l))=PA l:=by rw[F,m_];omega
 have Q:oz l<1000000:=by
  by_cases K:oz l<1000000
  .exact K
  have:=JM (v:=oz l) (k:=6) X;omega
 have I:eQ (a_ (CL l))=(oz l:Int):=by rw[B.1,<-F,jf Q]
 have P:(58:UInt8)∈l:=m7 E;refine⟨?_,by rw[ZO,I,l_],B.1,B.2⟩;rw[rM,I,B.2,decide_eq_true P,decide_eq_false X,decide_eq_false u6];rfl
theorem aCc(h:CF l):rM l=T:=by
 cases e:rM l with
 |true=>rfl
 | false =>
  exfalso;simp only[rM,q_,Bool.not_eq_false',q7,k_]at e;have ⟨⟨H,c⟩,I⟩:=e;have ⟨D,W⟩:=LD (l:=CL l) X;have ⟨v,R⟩:∃v,v=(eQ (a_ (CL l))).toNat:=X_;rw[<-R]at D;have B:=ly H;have F:VN l 0 0=(C (CL l),v):=by
   conv=>lhs;rw[B]
   rw[ZY (CL l) (EF l) 0 0 v (by rw[D];exact jT v) X,r7]
  have G:PA l=C (CL l):=congrArg Prod.fst F;have J:oz l=v:=congrArg Prod.snd F;have ⟨a,K⟩:∃a,a=CL l:=X_;have ⟨b,L⟩:∃b,b=EF l:=X_;rw[<-K]at B D G F;rw[<-L]at B I;have Q:l.take (C a)=a:=by rw[B];exact take_left
  have E:l[C a]?=A 58:=by rw[B,getElem?_append_right (h_ _),Nat.sub_self];rfl
  have P:C l=C a+(1+C b):=by
   have:=congrArg List.length B;rw[j8,j6]at this;omega
  rw[CF,G,J,E,Q]at h;rcases h with h|h|h|h
  .have:=oC v;rw[<-D]at this;exact this (length_eq_zero_iff.1 h)
  .exact h Z
  .exact h D.symm
  omega
theorem TH(h:¬ 0<=eQ s):eQ s = -1:=by have:=(GW s).1;omega
theorem Do(h:6<C l):eQ (a_ l) = -1:=TH λB=>by have:=(LD B).2;omega
theorem rm{b:UInt8}(B:b∈l)(h:¬ (48<=b.toNat/\b.toNat<=57)):eQ (a_ l) = -1:=TH λD=>by
 rw[(LD D).1]at B;exact h (pV _ B)
theorem Nb(D:C l<=6)(h:decDigits n=l):eQ (a_ l)=(n:Int):=by
 subst h;refine jf ?_;by_cases B:n<1000000
 .exact B
 have:=JM (v:=n) (k:=6) X;omega
theorem Wv(B:decFrom 0 l=A n)(h:decDigits n≠l):eQ (a_ l) = -1:=TH λD=>by
 have ⟨e,_⟩:=LD D;rw[e,jT]at B;exact h (by rw[<-Option.some.inj B];exact e.symm)
theorem YA(l:List B_)(H:aF)(P:C (aO l)<35184372088832):RC 78 [.pv (aK l)] (sv (a_ (aO l))) H:=by
 refine Pu ?_;have J:C (l.map S_)=C l:=g_ _;have I:=AE l;refine Bd func78 Z ntmps78<|Sz aH<|Sz (kl 2001 IF)<|S<|S ?_;refine fW.ent (E':=[(0,.pv (aK l)),(3,.ref 2001 0 0 0)]) (H':=zB 0 [] η) (cH.bld0 ⟨⟨_,Z,.same H_⟩,⟨_,Z,.same m3⟩,T_⟩) ?_;refine Rd aA<|Y (fM aD)<|V aA<|aE<|CI (λ(k g:Nat) (u:Bool)=>([(3,.ref 2001 0 0 0),(6,.pv (aK l)),(7,iv (C (l.map S_):Int)),(8,iv (k:Int))],zB g (aO (l.take k)) u)) (λk g u=>k<=C l) (λk g u=>C l - k) 0 0 η (l7 _) ?_ ?_
 .exact(cH.wk (Ea<|Eb<|Eb<|Eb<|T_) (Hc (gO Z Z)<|Hc (eT _ _)<|T_) T_)
 intro k g u L;have G:=uV l k;refine Sz cI<|S<|Cn ?_ ?_<;>intro B
 .have hlt:k<C l:=by have:=b9 B;omega
  have ⟨s,F⟩:=aR hlt;have hi:=cC (f:=S_) F;have D:=uV l (k+1);rw[eP F,qA,j8,pO,nS]at D;have K:N s<35184372088832:=X
  refine aB<|S<|aE<|U (iV aY)<|Y (fS N_ (hi:=hi))<|V aH<|Rd aA<|Y (gL U_)<|Y (kc mB (qB (N s:Int) X X _))<|Y (by exact fJ Z Z Z (by have:N (⟨#[58]⟩:B_)=1:=rfl;omega) Z)<|Y aA<|Y (by exact fJ Z Z Z (by rw[ByteArray.size_append];have:N (⟨#[58]⟩:B_)=1:=rfl;omega) Z)<|V (kc nM (jK g (aO (l.take k)) u (qN s) (by rw[nS];omega)))<|Rd iD<|V aA ?_;refine⟨k+1,g+1,T,X,X,?_⟩;rw[eP F,qA];exact(cH.wk (Ea<|Eb<|Eb<|Eb<|T_) (Hc (gO Z Z)<|Hc (eT _ _)<|T_) T_)
 have E:k=C l:=by have:=b_ B;omega
 subst E;rw[take_length];exact aP<|U (kc nL (RW g (aO l) u X))<|V aH<|aC<|Rt<|Qq
def nbW(s:B_):Bool:=((uL s||θ (jJ s<0))||θ ((6:Int)<(N s:Int)))||!θ (aV (jJ s)=s)
theorem Ww(s:B_):eQ s=if nbW s=T then -1 else jJ s:=by rw[eQ,nbW];cases F:uL s<;>by_cases B:jJ s<0<;>by_cases D:(6:Int)<(N s:Int)<;>by_cases E:aV (jJ s)=s<;>simp[B,D,E]<;>omega
theorem rn(s:B_)(H:aF)(Q:N s<2^40):RC 89 [sv s] (iv (eQ s)) H:=by
 refine Pu ?_;have D:=λH=>df s Q H;have E:=Y8 s;have F:=λH=>qB (jJ s) E.1 E.2 H;have K:=Ww s;have B:nbW s=(((uL s||θ (jJ s<0))||θ ((6:Int)<(N s:Int)))||!θ (aV (jJ s)=s)):=rfl;rw[K];clear K;generalize jJ s=v at D B E F |-;generalize uL s=e at D B;have ⟨w,L⟩:∃y,y=aV v:=X_;rw[<-L]at F B;clear L;refine Bd func89 Z ntmps89<|Sz aH<|U aA<|Y (kc wF (D _))<|Y aA<|Y dO<|Y dO<|Y aH<|V aH<|S<|S<|aT (t:=26) (n:=20) (A_:=nbW s) ?_ ?_
 .all_goals refine Y aA<|Y (S8 Z oF Z)<|Dm ?_<;>(refine Sp 12 (λG=>?_) λG=>?_)<;>(try exact w_)<;>(first|refine M<|M ?_|refine O aA<|O cI ?_)<;>refine Y cD<|Dm ?_<;>(refine Sp 16 (λJ=>?_) λJ=>?_)<;>(try exact w_)<;>(first|refine M<|M<|M ?_|refine O aA<|O (gL U_)<|O iX ?_)<;>refine Y cD<|Dm ?_<;>(refine Sp 21 (λP=>?_) λP=>?_)<;>(try exact w_)<;>(first|refine M<|M<|M<|M ?_|refine O aA<|O (kc mB (F _))<|O aA<|O E4 ?_)<;>refine V cD ?_<;>exact Gj (h:=by rw[B];first|(rw[G];rfl)|(rw[G,J];rfl)|(rw[G,J,P];rfl))
 refine Cn ?_ ?_<;>intro I
 .rw[b6 (show nbW s=T from I)];exact Sz aH<|aC<|Rt<|Qq
 rw[a8 (show ¬ nbW s=T by rw[show nbW s=η from I];decide)];exact aB<|U aA<|V aH<|aC<|Rt<|Qq
theorem Qc(h:l≠[]):C (EF l)<C l:=by rw[EF,p_];have:=(dropWhile_sublist (l:=l) λb=>!θ (b=58)).length_le;have:=length_pos_iff.2 h;omega
theorem PZ:rA []=A []:=by rw[rA,dif_pos rfl]
theorem ZP(B:l≠[])(D:rM l=T):rA l=ζ:=by rw[rA,dif_neg B,b6 D]
theorem R0(B:l≠[])(D:rM l=η):rA l=(rA ((EF l).drop (ZO l))).map (a_ ((EF l).take (ZO l))::·):=by conv=>lhs;rw[rA,dif_neg B,a8 (by rw[D];decide)]
theorem fl(t:List UInt8)(H:aF)(ht:C t<1000000000):RC 87 [sv (a_ t)] (.tup [.pv (aK ((rA t).getD [])),bv (rA t).isSome]) H:=by
 refine Pu<|Bd func87 Z ntmps87<|U aH<|V aH<|Sz (dZ (id:=905) (sz:=1) (ty:=9) Z Z Z)<|S<|aE<|eZ (λ(l:List UInt8) (E:List B_)=>([(0,sv (a_ l)),(4,.osl 905 (C E) 0 (C E))],[(905,⟨C E,1,9,bZ E⟩)])) (λl E=>C l+C E<=C t/\rA t=(rA l).map (E++·)) (λl E=>C l) t [] ⟨h_ _,by cases rA t<;>rfl⟩ ?_ ?_
 .exact L_
 rintro l E ⟨hl,hR⟩;have d:N (a_ l)=C l:=cA l;have c:=Qb l;have D:=λH=>Pv (a_ l) H X;rw[Aa]at D;have I:=λH=>rn (a_ (CL l)) H (by rw[cA];omega);have f:N (a_ (EF l))=C (EF l):=cA _;have B:rM l=((!θ ((58:UInt8)∈l)||θ (eQ (a_ (CL l))<0))||θ ((C (EF l):Int)<eQ (a_ (CL l)))):=rfl;have R:ZO l=(eQ (a_ (CL l))).toNat:=rfl;have b:=λ(F:l≠[]) G=>ZP F G;have Q:=λ(F:l≠[]) G=>R0 F G;have L:=λF=>Qc (l:=l) F;generalize a_ (CL l)=x at D I B R;have ⟨v,p⟩:∃v,v=eQ x:=X_;have ⟨o,i⟩:∃o,o=θ ((58:UInt8)∈l):=X_;have ⟨r,j⟩:∃r,r=EF l:=X_;simp only[<-p,<-i,<-j]at D I B R f c L Q;clear p i j;refine S<|U aA<|Y (gL U_)<|V iX<|Cn ?_ ?_<;>intro J
 .have F:l≠[]:=λe=>by have h:=b9 J;rw[d,e]at h;exact absurd h E_
  refine aB<|aE<|U aA<|Y (kc call137 (D _))<|Y aA<|Y dO<|Y dO<|Y dO<|Y aH<|Y aH<|V aH<|U aA<|Y (kc call89 (I _))<|V aH<|S<|S<|aT (t:=31) (n:=14) (A_:=rM l) ?_ ?_
  .all_goals refine Y aA<|Y iH<|Dm ?_<;>(refine Sp 22 (λW=>?_) λW=>?_)<;>(try exact w_)<;>(first|refine M<|M ?_|refine O aA<|O cI ?_)<;>refine Y cD<|Dm ?_<;>(refine Sp 26 (λq=>?_) λq=>?_)<;>(try exact w_)<;>(first|refine M<|M<|M<|M ?_|refine O aA<|O aA<|O (gL U_)<|O iX ?_)<;>refine V cD ?_<;>exact Gj (h:=by rw[B];first|(rw[W];rfl)|(rw[W,q];rfl))
  refine Cn ?_ ?_<;>intro K
  .have G:rM l=T:=K;rw[hR,b F G];refine U aH<|V aH<|aC<|gD (H':=[]) (.inr Z) Z (aI Z) (aI Z) (P_ (r:=.tup [.pv (aK []),bv η])) Qq
  have G:rM l=η:=K;have k:=Q F G;have g:=L F;have a:=B.symm.trans G;simp only[q_,q7]at a;obtain ⟨u,rfl⟩:∃u:Nat,v=(u:Int):=⟨v.toNat,X⟩;rw[l_]at R;rw[R]at k;have w:u<=C r:=X
  have x1:(a_ r).extract 0 u=a_ (r.take u):=mR (by rw[gG,cG,cG,drop_zero,Nat.sub_zero]);have y:(a_ r).extract u (N (a_ r))=a_ (r.drop u):=mR (by rw[sN,cG,cG]);have P:C (E++[a_ (r.take u)])=C E+1:=by rw[j8];rfl
  refine aB<|aM a7<|Cr [905] (λ_ _=>aA)<|x_ aA<|x_ aA<|x_ (by exact bM (l:=0) (h:=u) Z U_ Z Z Z (l7 _) X x1)<|x_ (by exact aL [[.str (a_ (r.take u))]] Z aY Z Z Z Z Z R_)<|Cp [905] (λH1 s=>by exact bW (ps:=[[.str (a_ (r.take u))]]) Z aY sW Z ((s _ Z).trans Z) Z Z Z (dI _) Z R_ (m:=1) Z X Z (gT _ (a_ (r.take u))))<|x_ aA<|x_ aA<|x_ (by exact bM (l:=u) (h:=N (a_ r)) Z U_ Z Z Z X (h_ _) y)<|Cr [905] (λ_ _=>aH)<|x_ aH<|bG<|Kr ?_;refine⟨r.drop u,E++[a_ (r.take u)],⟨by rw[p_,P];omega,?_⟩,by rw[p_];omega,?_⟩
  .rw[hR,k];cases rA (r.drop u)with
   |none=>rfl
   |some z=>simp
  dsimp only;rw[P];exact L_
 have F:l=[]:=length_eq_zero_iff.1 (J_ J);rw[hR,F,PZ];refine aP<|U aA<|Y aH<|V aH<|aC ?_;refine gD (H':=[]) (.inr Z) Z (aI Z) (aI Z) (Fin.st2J (E++[]) (bv T) Z Z (by rw[append_nil]) (by rw[append_nil]) H_) ?_;exact Qq
theorem Oi(s:B_)(H:aF):RC 193 [sv s] (bv η) H:=by refine Pu ?_;refine Bd func193 Z ntmps193<|Sz aH<|U aA<|Y aA<|Y E4<|V aH<|aC<|Rt ?_;exact⟨H_,Z⟩
theorem N8(l:List B_)(s:B_)(H:aF)(p:C l<2^40)(R:zL l):RC 135 [.pv (aK l),sv s] (.tup [iv (EB id l s:Nat),bv (kf id l s)]) H:=by
 refine Pu ?_;have a:C (l.map S_)=C l:=g_ _;refine Bd func135 Z ntmps135<|U aH<|V aH<|U aA<|Y (fM mM)<|V aH<|U aA<|Y aH<|V aH<|S<|aE<|eZ (λ(i j:Nat)=>([(0,.pv (aK l)),(1,sv s),(6,iv (C (l.map S_):Int)),(7,iv (i:Int)),(8,iv (j:Int))],[])) (λi j=>i<=j/\j<=C l/\(∀k,k<i->∀o,l[k]?=A o->jV (id o) s=T)/\∀k,j<=k->∀o,l[k]?=A o->jV (id o) s=η) (λi j=>j - i) 0 (C l) ⟨X,X,X,λk E o B=>?_⟩ ?_ ?_
 .have:=(m9.1 B).1;omega
 .rw[<-a];exact E0
 rintro i j ⟨hij,hj,hlo,hhi⟩;refine S<|U aA<|Y aA<|V cI<|Cn ?_ ?_<;>intro J
 .have G:i<j:=I_ J
  have ⟨g,n⟩:=Yh G;have ⟨m,d⟩:∃m,m=(i+j) / 2:=X_;rw[<-d]at g n;have ⟨o,B⟩:=aR (l:=l) (k:=m) X;have hi:=cC (f:=S_) B;have b:IntKind.u64.wrap ((i:Int)+(j:Int))=((i+j:Nat):Int):=by rw[IntKind.wrap_u64];omega
  have c:IntKind.i64.wrap (((i+j:Nat):Int) / 2)=(m:Int):=by rw[IntKind.wrap_i64];omega
  refine aB<|aE<|U aA<|Y aA<|Y iD<|Y (eE Z underlying3 lK Z b)<|Y (by exact GR Z Z Z X (by simp[IntKind.bits];try omega) Z)<|Y (eE Z lK underlying3 Z c)<|V aH<|U aA<|Y aA<|Y (iV R8)<|Y (fS N_ (hi:=hi))<|Y aA<|V (kc call186 (yh _ _ _)) ?_;refine Cn ?_ ?_<;>intro K
  .have P:jV o s=T:=K;refine Rd aA<|Y iD<|Da ?_;refine⟨m+1,j,⟨X,X,λk E x I=>?_,hhi⟩,X,E0⟩;by_cases e:k=m
   .subst e;rw[B]at I;cases I;exact P
   exact rS (QY (f:=id) R X I B) P
  have P:jV o s=η:=K;refine Rd aA<|Da ?_;refine⟨i,m,⟨X,X,hlo,λk E x I=>?_⟩,X,E0⟩;by_cases e:k=m
  .subst e;rw[B]at I;cases I;exact P
  cases h:jV (id x) s with
  |false=>rfl
  |true =>
   have:=rS (QY (f:=id) R X B I) h;rw[show jV (id o) s=jV o s from Z,P]at this;cases this
 have W:i=j:=J_ J
 subst W;have L:EB id l s=i:=Ns hj hlo (λo B=>hhi i (h_ _) o B);by_cases G:i<C l
 .have ⟨o,B⟩:=aR G;have hi:=cC (f:=S_) B;have D:θ ((i:Int)<(C (l.map S_):Int))=T:=decide_eq_true X;have E:=ze R hlo B (hhi i (h_ _) o B);have E:kf id l s=θ (o=s):=E;rw[L,E];by_cases Q:o=s
  .rw[decide_eq_true Q];have F:AV.pv (.bool (θ (o=s)))=bv T:=by rw[decide_eq_true Q]
   refine aP<|U aA<|Y aA<|Y aA<|Y (cP.eqv (iK Z Z Z) (by rw[D]))<|Y aA<|O aA<|O aA<|O (iV R8)<|O (fS N_ (hi:=hi))<|O aA<|O (cP.eqv (BX Z Z Z) F)<|O aA<|M<|M<|M<|M<|M<|M<|rF Z Z Z rfl<|rF Z Z Z Z ?_;exact M<|O cD<|Y cD<|Y aH<|V aH<|aC<|Ru<|Qq
  rw[decide_eq_false Q];have F:AV.pv (.bool (θ (o=s)))=bv η:=by rw[decide_eq_false Q]
  exact aP<|U aA<|Y aA<|Y aA<|Y (cP.eqv (iK Z Z Z) (by rw[D]))<|Y aA<|O aA<|O aA<|O (iV R8)<|O (fS N_ (hi:=hi))<|O aA<|O (cP.eqv (BX Z Z Z) F)<|O aA<|O aA<|O aA<|O (iV R8)<|O (fS N_ (hi:=hi))<|O (kc call193 (Oi _ _))<|O aA<|M<|M<|O cD<|O cD<|Y cD<|Y aH<|V aH<|aC<|Ru<|Qq
 have D:AV.pv (.bool (θ ((i:Int)<(C (l.map S_):Int))))=bv η:=by rw[decide_eq_false X]
 have E:=Ef (λk E o B=>hlo k X o B);rw[L,E];refine aP<|U aA<|Y aA<|Y aA<|Y (cP.eqv (iK Z Z Z) D)<|Y aA<|M<|M<|M<|M<|M<|M<|M<|rF Z Z Z rfl<|rF Z Z Z rfl<|rF Z Z Z rfl<|rF Z Z Z rfl<|rF Z Z Z rfl<|rF Z Z Z rfl<|rF Z Z Z rfl<|rF Z Z Z rfl<|rF Z Z Z Z ?_;exact M<|Y cD<|Y aH<|V aH<|aC<|Ru<|Qq
theorem zd(l:List B_)(s:B_):kf id l s=θ (s∈l):=by
 rw[kf,Bool.eq_iff_iff,any_eq_true,k_];constructor
 .rintro⟨x,hx,he⟩;exact b9 he▸hx
 exact λh=>⟨s,h,decide_eq_true Z⟩
theorem Pa(l:List B_)(s:B_)(H:aF)(D:C l<2^40)(B:zL l):RC 92 [.pv (aK l),sv s] (bv (θ (s∈l))) H:=by refine Pu ?_;rw[<-zd];exact Bd func92 Z ntmps92<|Sz aH<|U aA<|Y aA<|Y (kc call135 (N8 l s _ D B))<|Y aA<|Y dO<|Y dO<|Y aH<|V aH<|U aA<|V aH<|aC<|Rt<|Qq
theorem Nu{l:List B_}(p q:B_):EB id l p<=EB id l (p++q):=by
 rw[EB,EB]
 induction l with
 |nil=>exact h_ _
 | cons x l ih =>
  rw[findIdx_cons,findIdx_cons];cases h:jV (id x) p with
  |true =>
   rw[wh (id x) p q h];exact succ_le_succ ih
  |false=>exact l7 _
theorem ez(l:List B_)(p:B_)(H:aF)(E:C l<2^40)(B:zL l)(G:∀x∈l,m6 x=T)(R:N p<2^40):RC 80 [.pv (aK l),sv p] (.pv (aK (fZ l p))) H:=by
 refine Pu ?_;have P:=sb id l p;have Q:=sb id l (p++sG);have F:=Nu (l:=l) p sG;have J:C (l.map S_)=C l:=g_ _;have K:=Ip l p B G;have L:((l.map S_).take (EB id l (p++sG))).drop (EB id l p)=(fZ l p).map S_:=by rw[<-K,map_drop,map_take]
 have I:=λH=>N8 l p H E B;have D:=λH=>N8 l (p++sG) H E B;generalize EB id l p=a at *;generalize EB id l (p++sG)=b at *;exact Bd func80 Z ntmps80<|Sz aH<|U aA<|Y aA<|Y (kc call135 (I _))<|Y aA<|Y dO<|Y dO<|Y aH<|V aH<|U aA<|Y aA<|Y (by exact fJ Z Z Z (by show N p+1<=9223372036854775807;omega) (r:=p++sG) Z)<|Y (kc call135 (D _))<|Y aA<|Y dO<|Y dO<|Y aH<|V aH<|U aA<|Y aA<|Y aA<|Y (eM (l:=a) (h:=b) Z R8 Z (dX l) Z Z F X L)<|V aH<|aC<|Rt<|Qq
def dH(p:j0):List PV:=[.str p.pre,.str p.sum,.int .i64 (p.cnt:Int),aK p.ids]
def CZ(P:List j0):PV:=.sl (P.map dH)
theorem KB(p:j0)(H:aF):RC 82 [av (dH p)] (bv (θ ((p.cnt:Int)<=16))) H:=by refine aU.pure ?_ (by simp[dH]) H;exact Bd func82 Z ntmps82<|U (kb 1)<|V aH<|U (bC FU)<|Y (bQ M_)<|Y H7<|V aH<|aC<|Rt<|Qq
theorem sg(B:∀x∈A_,m6 x=T):C (aO A_)<=19*C A_:=uU A_ λs D=>Nat.le_of_eq (iJ (B s D))
theorem u3{p:Prop}(h:p:=by exact aW Z iQ eC Z Z Z Z (by simp only[Zl,S_,dH];rfl) Z):p:=h
theorem m4{p:Prop}(h:p:=by simp only[Zl,S_,dH];rfl):p:=h
theorem gz(l:List B_)(p:B_)(H:aF)(J:IdS l)(b:N p<2^40):RC 35 [.pv (aK l),sv p] (av (dH (cV l p))) H:=by
 refine Pu ?_;have a:=J.len;have I:=λH=>ez l p H X J.srt J.dig b;have P:C (fZ l p)<=C l:=length_filter_le _ _;have K:=sg (A_:=fZ l p) λx c=>J.dig x (kQ.1 c).1;have G:=λH=>bz (fZ l p) H X;have D:C (fZ l p)<=16->cV l p=⟨p,C (fZ l p),yY (fZ l p),fZ l p⟩:=λh=>by rw[cV,b6 h]
 have E:¬ C (fZ l p)<=16->cV l p=⟨p,C (fZ l p),yY (fZ l p),[]⟩:=λh=>by rw[cV,a8 h]
 generalize fZ l p=R at I G D E P;generalize cV l p=Q at D E |-;clear K;have L:C (R.map S_)=C R:=g_ _;have W:=λH=>KB ⟨p,C R,yY R,[]⟩ H;refine Bd func35 Z ntmps35<|Sz (kl 4 Ho)<|U aA<|Y aA<|Y (kc call80 (I _))<|V aH<|U aA<|Y aA<|Y (kc call81 (G _))<|Y aA<|Y (cP.eqv (lH Z mM Z) (show iv (C (R.map S_):Int)=iv (C R:Int)by rw[L]))<|Y (oD aEj)<|Y (kl 6 Ho)<|Uu (jG eC)<|Zz<|S<|U u3<|V (kc call82 (W _)) ?_;refine Cn ?_ ?_<;>intro F
 .have B:C R<=16:=by have:=b9 F;simp only at this;omega
  rw[D B];refine Rd aA<|Y (bC FT)<|Uu (ku sizeOf68)<|Zz<|U u3<|Uu (jG eC)<|Zz<|aC ?_;refine cT (H':=[]) (.inr Z) Z (fG Z iQ eC Z Z Z m4 Z) (P_ (r:=av (dH ⟨p,C R,yY R,R⟩))) ?_;exact Qq
 have B:¬ C R<=16:=by have:=b_ F;simp only at this;omega
 rw[E B];refine aB<|U u3<|Uu (jG eC)<|Zz<|aC ?_;refine cT (H':=[]) (.inr Z) Z (fG Z iQ eC Z Z Z m4 Z) (P_ (r:=av (dH ⟨p,C R,yY R,[]⟩))) ?_;exact Qq
theorem N2(p:j0)(H:aF)(G:p.cnt<2^40)(I:C p.ids<2^40):RC 36 [av (dH p)] (.pv (aK (fldW p))) H:=by
 refine aU.pure ?_ (by simp[dH]) H;have E:C (p.ids.map S_)=C p.ids:=g_ _;have D:3+C p.ids=C (fldW p):=by rw[fldW,j8];rfl
 refine Bd func36 Z ntmps36<|U (kb 1)<|V aH<|S<|aM a7<|Cr [1] (λ_ h=>fh N0 h)<|Cr [1] (λ_ h=>lh N_ h)<|Cr [1] (λ_ h=>fh FU h)<|Cr [1] (λ_ h=>lh M_ h)<|x_ (by exact bH Z Z mB Z (qB (p.cnt:Int) X X _))<|Cr [1] (λ_ h=>fh UE h)<|Cr [1] (λ_ h=>lh N_ h)<|Cp [905] (λH1 B=>by exact eO (id:=905) Z aY Z Z Z Z (by intro r F;simp only[l9,q8,or_false]at F;rcases F with rfl|rfl|rfl<;>rfl) ((B _ Z).trans Z))<|Cr [1] (λ_ h=>fh FT h)<|Cr [1] (λ_ h=>lh kH h)<|Cp [905] (λH1 B=>by exact WO (ob:=⟨0,1,9,bZ [p.pre,aV (p.cnt:Int),p.sum]⟩) (k:=C (fldW p)) Z mM aY sW Z ((B _ Z).trans Z) Z Z Z Z Z (dX _) E X D (eX _ _)) ?_;refine Cr [905] (λ_ _=>aH)<|bG<|Kr<|aC ?_;refine cT (H':=[]) (.inr Z) Z (aI Z) (Fin.fz (id:=905) (ob:=⟨1,1,9,bZ (fldW p)⟩) ((fldW p).map S_) Z (dA _) (.osl (fR S_ _)) Z T_ T_) ?_;exact Qq
theorem DI:∀(L:List B_),(∀s∈L,N s<=1000000)->C (aO L)<=1000022*C L
 | [],_=>h_ _
 |x::L,h=>by
  have D:=h x mem_cons_self;have E:=DI L λs B=>h s (mem_cons_of_mem _ B);have F:C (decDigits (N x))<=7:=cX (k:=7) X E_;rw[gY,j8,j6,j8,aS,j6];omega
theorem qF(L:List (List B_)):∀r∈L.map r6,C r=1:=λr B=>by
 obtain ⟨t,_,rfl⟩:=mem_map.1 B;rfl
theorem xy(L:List (List B_))(H:aF)(I:C L<2^40)(J:C L.flatten<549755813888)(G:C (aO (fA::aV (C L:Int)::L.flatten))<35184372088832):
  RC 34 [.pv (tE L)] (sv (mI L)) H:=by
 refine Pu ?_;have E:C (L.map r6)=C L:=g_ _;have D:=λH=>lD L H I X;have F:([[fA,aV (C L:Int)],L.flatten]:List (List B_)).flatten=fA::aV (C L:Int)::L.flatten:=H_
 have B:=λH=>lD [[fA,aV (C L:Int)],L.flatten] H (by decide:2<2^40) (by rw[F,j6,j6];omega);rw[F]at B;exact Bd func34 Z ntmps34<|Sz aH<|U aA<|Y (cP.eqv (lH Z uC Z) (show iv (C (L.map r6):Int)=iv (C L:Int)by rw[E]))<|Y (kc mB (qB (C L:Int) X X _))<|Y (aL ([fA,aV (C L:Int)].map S_) Z aY Z Z Z Z Z (dX _))<|Y aA<|Y (kc call47 (D _))<|Y (aL ([[fA,aV (C L:Int)],L.flatten].map r6) Z HG Z Z Z Z Z (qF _))<|Y (kc call47 (B _))<|Y (kc call78 (YA _ _ G))<|V aH<|aC<|Rt<|Qq
theorem aAk(L:List (List B_))(H:aF)(G:C L<2^40)(I:C L.flatten<549755813888)(F:C (aO (pP::L.flatten))<35184372088832):
  RC 49 [.pv (tE L)] (sv (iW L)) H:=by
 refine Pu ?_;have D:=λH=>lD L H G X;have E:([[pP],L.flatten]:List (List B_)).flatten=pP::L.flatten:=H_
 have B:=λH=>lD [[pP],L.flatten] H (by decide:2<2^40) (by rw[E,j6];omega);rw[E]at B;exact Bd func49 Z ntmps49<|Sz aH<|U (aL ([pP].map S_) Z aY Z Z Z Z Z (dX _))<|Y aA<|Y (kc call47 (D _))<|Y (aL ([[pP],L.flatten].map r6) Z HG Z Z Z Z Z (qF _))<|Y (kc call47 (B _))<|Y (kc call78 (YA _ _ F))<|V aH<|aC<|Rt<|Qq
theorem mg(p x:B_):oY p x=(θ ((N p:Int)<=(N x:Int))&&θ (x.extract 0 (N p)=p)):=by
 rw[Bool.eq_iff_iff,F7,l6,k_,k_];constructor
 .intro h;have D:=h.length_le;rw[aS,aS]at D;refine⟨X,mR ?_⟩;have ⟨t,E⟩:=h;rw[gG,drop_zero,<-E,Nat.sub_zero,<-aS p,take_left]
 rintro⟨F,B⟩;rw[<-B,gG,drop_zero];exact take_prefix _ _
theorem pc(x p:B_)(H:aF):RC 197 [sv x,sv p] (bv (oY p x)) H:=by
 refine Pu ?_;have D:=mg p x;refine Bd func197 Z ntmps197<|Sz aH<|S<|aT (t:=4) (n:=15) (A_:=oY p x) ?_ ?_
 .all_goals refine Y aA<|Y (gL U_)<|Y aA<|Y (gL U_)<|Y AF<|Dm ?_<;>(refine Sp 10 (λB=>?_) λB=>?_)<;>(first|exact s_|refine M<|M<|M<|M<|M<|M ?_|refine O aA<|O aA<|O (gL U_)<|O (bM (l:=0) (h:=N p) Z U_ Z Z Z (l7 _) (I_ B) Z)<|O aA<|O wU ?_)<;>refine Y cD<|Da ?_<;>exact Gj (h:=by rw[D];(rw[B];rfl))
 exact aC<|Rt<|Qq
theorem ke(x p:B_)(H:aF):RC 139 [sv x,sv p] (bv (oY p x)) H:=by refine Pu ?_;exact Bd func139 Z ntmps139<|Sz aH<|U aA<|Y aA<|Y (kc call197 (pc _ _ _))<|V aH<|aC<|Rt<|Qq
theorem sj(s:B_)(H:aF)(I:N s<2^40):RC 90 [sv s] (bv (lW s)) H:=by
 refine Pu ?_;have B:=λH=>vt s I H;have D:=fe (ν (μ s));generalize Lib.trimS (ν (μ s)) (ν (μ Ap))=t at B D;have G:lW s=(θ ((N s:Int)<=16)&&θ ((⟨t.toArray⟩:B_)=a6)):=by
  rw[lW];congr 1
  .exact decide_eq_decide.2 X
  have F:((⟨t.toArray⟩:B_)=a6)↔t=[]:=by
   constructor
   .intro h;have:=congrArg (λb:B_=>ν (μ b)) h
    simpa using this
   intro h;rw[h]
  cases E:s.data.toList.all sS with
  |true=>exact(decide_eq_true (F.2 (D.2 E))).symm
  |false=>exact(decide_eq_false (λh=>by rw[D.1 (F.1 h)]at E;cases E)).symm
 clear D;refine Bd func90 Z ntmps90<|Sz aH<|S<|aT (t:=2) (n:=10) (A_:=lW s) ?_ ?_
 .all_goals refine Y aA<|Y (gL U_)<|Y H7<|Dm ?_<;>(refine Sp 6 (λJ=>?_) λJ=>?_)<;>(first|exact s_|refine M<|M<|M ?_|refine O aA<|O (kc call74 (B _))<|O wU ?_)<;>refine Y cD<|Da ?_<;>exact Gj (h:=by(rw[G,J];rfl))
 exact aC<|Rt<|Qq
theorem TW(p:B_):∀(l:List B_),AX p l=T↔∀(k:Nat) (x:B_),l[k]?=A x->(m6 x=T/\oY p x=T)/\∀(j:Nat) (y:B_),k=j+1->l[j]?=A y->jV y x=T
 | []=>⟨λ_ k x h=>by simp at h,λ_=>rfl⟩
 | [a]=>by
  rw[AX,l6];constructor
  .intro h k x B;cases k with
   |zero=>cases B;exact⟨h,λj y e=>by omega⟩
   |succ k=>simp at B
  exact λh=>(h 0 a Z).1
 | a::b::r=>by
  rw[AX,l6,l6,l6,TW p (b::r)];constructor
  .rintro⟨⟨h1,h2⟩,h3⟩ k x B;cases k with
   |zero=>cases B;exact⟨h1,λj y e=>by omega⟩
   |succ k =>
    obtain ⟨E,F⟩:=h3 k x B;refine⟨E,λj y e D=>?_⟩;obtain rfl:k=j:=X
    cases k with
    |zero=>cases B;cases D;exact h2
    |succ k=>exact F k y Z D
  intro h;refine⟨⟨(h 0 a Z).1,(h 1 b Z).2 0 a Z Z⟩,λk x B=>?_⟩;have ⟨E,F⟩:=h (k+1) x B;exact⟨E,λj y e D=>F (j+1) y X D⟩
def AQ(p:j0):Bool:=AX p.pre p.ids&&(!θ ((p.cnt:Int)<=16)||θ (yY p.ids=p.sum))
theorem Vh(p:j0)(H:aF)(hl:C p.ids<1000000)(hs:∀s∈p.ids,N s<1000000):RC 91 [av (dH p)] (bv (AQ p)) H:=by
 refine aU.pure ?_ (by simp[dH]) H;have δ:C (p.ids.map S_)=C p.ids:=g_ _;have d:=λH=>KB p H;have D:=TW p.pre p.ids;rw[AQ];generalize AX p.pre p.ids=I at D |-;have w:C (aO p.ids)<35184372088832:=by
  have h:=DI p.ids λs ρ=>Nat.le_of_lt (hs s ρ);have:1000022*C p.ids<=1000022*1000000:=mul_le_mul_left _ X;omega
 have τ:=λH=>bz p.ids H w;refine Bd func91 Z ntmps91<|U (kb 1)<|V aH<|S<|U (bC FT)<|Y (bQ kH)<|Y (fM mM)<|V aA<|aE<|bF (σ:=Nat) (λk=>([(1,.ref 1 0 0 0),(6,.pv (aK p.ids)),(7,iv (C (p.ids.map S_):Int)),(8,iv (k:Int))],[(1,bx 4 70 ((dH p).map .pv))])) (λk=>k<=C p.ids/\∀j x,j<k->p.ids[j]?=A x->(m6 x=T/\oY p.pre x=T)/\∀(i:Nat) (y:B_),j=i+1->p.ids[i]?=A y->jV y x=T) (λk=>C p.ids - k) 0 ⟨l7 _,λj x h=>by omega⟩ ?_ ?_
 .exact Wk
 rintro k ⟨hk,hall⟩;refine Sz cI<|S<|Cn ?_ ?_<;>intro K
 .have hlt:k<C p.ids:=I_ K
  have ⟨x,E⟩:=aR hlt;have hi:=cC (f:=S_) E;have γ:=hs x (m7 E);have ⟨y,hy⟩:∃y,y=p.ids.getD (k - 1) a6:=X_;have F:(0:Int)<(k:Int)->p.ids[k - 1]?=A y:=λh=>by
   have ⟨z,G⟩:=aR (l:=p.ids) (k:=k - 1) X;rw[hy,getD_eq_getElem?_getD,G];rfl
  have g:=λh=>cC (f:=S_) (F h);have P:=λH=>YE x X H;have c:=λH=>ke x p.pre H;have ⟨a,m⟩:∃a,a=m6 x:=X_;have ⟨b,o⟩:∃b,b=oY p.pre x:=X_;have R:((!a||!b)||(θ ((0:Int)<(k:Int))&&!jV y x))=η->(m6 x=T/\oY p.pre x=T)/\∀(i:Nat) (z:B_),k=i+1->p.ids[i]?=A z->jV z x=T:=λh=>by
   rw[q_,q_,Bool.not_eq_false',Bool.not_eq_false',m,o]at h;refine⟨h.1,λi z e G=>?_⟩;have q:(0:Int)<(k:Int):=X
   have h2:=h.2;rw[decide_eq_true q,Bool.true_and,Bool.not_eq_false']at h2;have:=F q;rw[show k - 1=i by omega,G]at this;cases this;exact h2
  have Q:((!a||!b)||(θ ((0:Int)<(k:Int))&&!jV y x))=T->I=η:=λh=>by
   cases v:I with
   |false=>rfl
   |true =>
    have ⟨⟨q1,q2⟩,q3⟩:=D.1 v k x E;rw[<-m]at q1;rw[<-o]at q2;rw[q1,q2,Bool.not_true,Bool.or_false,Bool.false_or,l6,k_,r9]at h;have:=q3 (k - 1) y X (F h.1);rw[h.2]at this;cases this
  have ⟨A_,hX⟩:∃A_,A_=((!a||!b)||(θ ((0:Int)<(k:Int))&&!jV y x)):=X_;rw[<-hX]at R Q;rw[<-m]at P;rw[<-o]at c;clear m o;refine aB<|S<|aE<|U aA<|Y (iV R8)<|Y (fS N_ (hi:=hi))<|Y aH<|V aH<|S<|aT (t:=36) (n:=27) (A_:=A_) ?_ ?_
  .all_goals refine Y aA<|Y (kc call30 (P _))<|Y iH<|Dm ?_<;>(refine Sp 16 (λJ=>?_) λJ=>?_)<;>(try exact w_)<;>(first|refine M<|M<|M<|M<|M ?_|refine O aA<|O (bC N0)<|O (bQ N_)<|O (kc call139 (c _))<|O iH ?_)<;>refine Y cD<|Dm ?_<;>(refine Sp 23 (λr=>?_) λr=>?_)<;>(try exact w_)<;>(first|refine M<|M<|M ?_|refine O aA<|O iX<|O aA ?_)<;>(first|refine Sp 26 (λB=>?_) λB=>?_|refine kX (t:=26) Z ?_)<;>(try exact w_)<;>(first|refine M ?_|refine Fu ?_|refine O (bC FT) ?_)<;>(first|refine M ?_|refine Fu ?_|refine O (bQ kH) ?_)<;>(first|refine M ?_|refine Fu ?_|refine O aA ?_)<;>(first|refine M ?_|refine Fu ?_|refine O (by exact dT Z Z Z (show ξ.wrap ((k:Int) - 1)=((k - 1:Nat):Int)by have q:=b9 B;rw[lT X X];omega)) ?_)<;>(first|refine M ?_|refine Fu ?_|refine O (bP Z R8 Z Z X (l_ _) (g (b9 B)) Z) ?_)<;>(first|refine M ?_|refine Fu ?_|refine O (eF Z N_ Z (g (b9 B)) Z) ?_)<;>(first|refine M ?_|refine Fu ?_|refine O aA ?_)<;>(first|refine M ?_|refine Fu ?_|refine O (KY Z Z Z) ?_)<;>(first|refine M ?_|refine O cD ?_)<;>refine V cD ?_<;>exact Gj (h:=by rw[hX];first|(rw[J];rfl)|(rw[J,r];rfl)|(rw[J,r,B];rfl))
  refine Cn ?_ ?_<;>intro L
  .rw[Q L];exact Sz aH<|aC<|Rt<|Qq
  have W:=R L;refine aB<|Rd iD<|V aA ?_;refine⟨k+1,⟨X,λj z hj G=>?_⟩,X,Wk⟩;by_cases e:j=k
  .subst e;rw[E]at G;cases G;exact W
  exact hall j z X G
 have κ:k=C p.ids:=J_ K
 have u:I=T:=D.2 λj x E=>hall j x (by have:=(m9.1 E).1;omega) E;rw[u,Bool.true_and];refine aP<|S<|pX (t:=2) (n:=12) (A_:=(!θ ((p.cnt:Int)<=16)||θ (yY p.ids=p.sum))) ?_ ?_
 .cases hg41:(!θ ((p.cnt:Int)<=16):Bool)
  .refine aM a7<|Cq u3<|Cq (kc call82 (d _))<|Cq iH<|Cq aA<|Nf (bC FT)<|Nf (bQ kH)<|Nf (kc call81 (τ _))<|Nf (bC UE)<|Nf (bQ N_)<|Nf wU<|Cq sQ<|Cq aH<|bG<|Kr ?_;exact⟨Z,⟨_,Z,by rfl⟩,Z,Z,Z⟩
  refine aM a7<|Cq u3<|Cq (kc call82 (d _))<|Cq iH<|Cq aA<|Of<|Of<|Of<|Of<|Of<|Of<|Cq C6<|Cq aH<|bG<|Kr ?_;exact⟨Z,⟨_,Z,by rfl⟩,Z,Z,Z⟩
 exact aC<|Rt<|Qq
theorem Av(t:B_)(B:N t<2^40)(H:aF):RC 88 [sv t] (bv (oddJ t)) H:=by refine Pu ?_;exact Bd func88 Z ntmps88<|Sz aH<|U aA<|Y (kc call30 (YE t B _))<|Y iH<|V aH<|aC<|Rt<|Qq
theorem xD:∀(n:Nat) (l:List UInt8) (L:List B_),C l<=n->rA l=A L->C L<=C l/\∀s∈L,N s<=C l
 |0,l,L,hn,h=>by
  rw[List.length_eq_zero_iff.1 (Nat.le_zero.1 hn),PZ]at h;cases h;exact⟨l7 _,λs B=>by cases B⟩
 |n+1,l,L,hn,h=>by
  by_cases D:l=[]
  .rw[D,PZ]at h;cases h;exact⟨l7 _,λs B=>by cases B⟩
  by_cases E:rM l=T
  .rw[ZP D E]at h;cases h
  rw[R0 D (by simpa using E)]at h;obtain ⟨G,H,rfl⟩:=Option.map_eq_some_iff.1 h;have I:=Qc D;have ⟨J,F⟩:=xD n _ G u6 H;rw[p_]at J F;refine⟨by rw[j6];omega,λs B=>?_⟩;rcases l9.1 B with rfl|B
  .rw[cA,m_];omega
  have:=F s B;omega
def Tq(z:Option (List B_)):Bool:=((!z.isSome||θ ((C ((z.getD []).map S_):Int)<2))||!θ ((z.getD []).headD a6=pP))||((z.getD []).drop 1).any oddJ
theorem Ih(h:Tq (rA (ν (μ t)))=T):AN t=[]:=by
 rw[AN];generalize rA (ν (μ t))=z at *
 match z with
 |none=>rfl
 |some []=>rfl
 |some [a]=>rfl
 |some (o::i::r) =>
  have h:((!T||θ ((C ((o::i::r).map S_):Int)<2))||!θ (o=pP))||(i::r).any oddJ:=h;show (if o=pP/\(i::r).all m6=T then _ else _)=_;rw[a8];rintro⟨B,D⟩;rw[decide_eq_true B,QZ,D,decide_eq_false (by rw[g_];simp only[j6];omega)]at h;cases h
theorem Tp(h:Tq (rA (ν (μ t)))=η):AN t=((rA (ν (μ t))).getD []).drop 1:=by
 rw[AN];generalize rA (ν (μ t))=z at *
 match z with
 |none=>cases h
 |some []=>cases h
 |some [a]=>cases h
 |some (o::i::r) =>
  have h:(((!T||θ ((C ((o::i::r).map S_):Int)<2))||!θ (o=pP))||(i::r).any oddJ)=η:=h;show (if o=pP/\(i::r).all m6=T then _ else _)=_;rw[q_,q_,Bool.not_eq_false',k_,QZ,Bool.not_eq_false']at h;rw[b6 ⟨h.1.2,h.2⟩];rfl
theorem Ig(t:B_)(H:aF)(k:N t<1000000):RC 43 [sv t] (.pv (aK (AN t))) H:=by
 refine Pu ?_;have D:=λH=>fl (ν (μ t)) H i8;rw[gE]at D;have b:=Ih (t:=t);have P:=Tp (t:=t);have F:∀s∈(rA (ν (μ t))).getD [],N s<1000000:=λs G=>by
  cases h:rA (ν (μ t)) with
  |none=>rw[h]at G;cases G
  |some L =>
   rw[h]at G;have:=(xD _ _ L (h_ _) h).2 s G;rw[aS]at this;omega
 have Q:C ((rA (ν (μ t))).getD [])<1000000:=by
  cases h:rA (ν (μ t)) with
  |none=>exact zero_lt_succ _
  |some L =>
   have:=(xD _ _ L (h_ _) h).1;rw[aS]at this;show C L<_;omega
 generalize rA (ν (μ t))=z at D b P F Q;have R:Tq z=(((!z.isSome||θ ((C ((z.getD []).map S_):Int)<2))||!θ ((z.getD []).headD a6=pP))||((z.getD []).drop 1).any oddJ):=rfl;generalize AN t=W at b P |-;have ⟨o,e⟩:∃o,o=z.isSome:=X_;have ⟨L,c⟩:∃L,L=z.getD []:=X_;rw[<-e,<-c]at D R;rw[<-c]at P F Q;generalize Tq z=A_ at R b P;clear e c;have i:C (L.map S_)=C L:=g_ _;have K:(L.map S_).drop 1=(L.drop 1).map S_:=map_drop.symm;have d:¬ ((C (L.map S_):Int)<2)->(L.map S_)[0]?=A (S_ (L.headD a6)):=λh=>by
  cases L with
  |nil=>exact absurd E_ h
  |cons a L=>rfl
 have g:=λH=>DX 88 (L.drop 1) oddJ u6 (λs G=>dQ.fn call88 (Av s (by have:=F s (mem_of_mem_drop G);omega) [])) H;refine Bd func43 Z ntmps43<|Sz aH<|U aA<|Y (kc call87 (D _))<|Y aA<|Y dO<|Y dO<|Y aH<|V aH<|S<|S<|aT (t:=27) (n:=21) (A_:=A_) ?_ ?_
 .all_goals refine Y aA<|Y iH<|Dm ?_<;>(refine Sp 12 (λI=>?_) λI=>?_)<;>(try exact w_)<;>(first|refine M<|M<|M ?_|refine O aA<|O (fM aD)<|O cI ?_)<;>refine Y cD<|Dm ?_<;>(refine Sp 17 (λB=>?_) λB=>?_)<;>(try exact w_)<;>(first|refine M<|M<|M<|M ?_|refine O aA<|O (bP Z aY Z Z X (l_ _) (d (b_ B)) Z)<|O (eF Z N_ Z (d (b_ B)) Z)<|O E4 ?_)<;>refine Y cD<|Dm ?_<;>(refine Sp 23 (λf=>?_) λf=>?_)<;>(try exact w_)<;>(first|refine M<|M<|M ?_|refine O aA<|O (by exact eM (l:=1) (h:=C (L.map S_)) Z aY Z (dX L) Z Z (J_ B) (h_ _) (show ((L.map S_).take _).drop 1=(L.drop 1).map S_ by rw[take_length];exact K))<|O (kc call28 (g _)) ?_)<;>refine V cD ?_<;>exact Gj (h:=by rw[R];first|(rw[I];rfl)|(rw[I,B];rfl)|(rw[I,B,show (!θ (L.headD a6=pP))=_ from f];rfl))
 refine Cn ?_ ?_<;>intro J
 .rw[b J];refine Sz aH<|aC<|cT (H':=[]) (.inr Z) Z (aI Z) (P_ (r:=.pv (aK []))) Qq
 have E:A_=η:=J;rw[P E];have j:¬ ((C (L.map S_):Int)<2):=λh=>by rw[R,decide_eq_true h,Bool.or_true,Bool.true_or,Bool.true_or]at E;cases E
 exact aB<|U aA<|Y (by exact eM (l:=1) (h:=C (L.map S_)) Z aY Z (dX L) Z Z X (h_ _) (show ((L.map S_).take _).drop 1=(L.drop 1).map S_ by rw[take_length];exact K))<|V aH<|aC<|Rt<|Qq
theorem KQ:∀(n m:Nat) (l:List B_),C l<=n->C l<=m->VJ n l=VJ m l
 |_,_,[],_,_=>by rw[QC,QC]
 |0,_,a::l,h,_=>by simp at h
 |n+1,0,a::l,_,h=>by simp at h
 |n+1,m+1,[a],_,_=>rfl
 |n+1,m+1,[a,b],_,_=>rfl
 |n+1,m+1,a::b::c::r,h1,h2=>by
  simp only[j6]at h1 h2;rw[VJ,VJ];rw[KQ n m r (by omega) (by omega),KQ n m (r.drop (eQ b).toNat) u6 u6]
def SW(l:List B_):Option (List j0):=VJ (C l) l
theorem QD:SW []=A []:=rfl
theorem KR{l:List B_}(h:l≠[])(B:C l<3):SW l=ζ:=by
 match l with
 | [a]=>rfl
 | [a,b]=>rfl
 |a::b::c::r=>simp only[j6]at B;omega
theorem ae{a b:B_}(r:List B_)(h:((!lW a||θ (eQ b<0))||!m6 c)=T):SW (a::b::c::r)=ζ:=by rw[SW];show VJ (C r+2+1) _=_;rw[VJ,a8];intro B;rw[l6,l6,k_]at B;rw[B.1.1,B.2,decide_eq_false X]at h;cases h
theorem SV{a b:B_}(r:List B_)(h:((!lW a||θ (eQ b<0))||!m6 c)=η):SW (a::b::c::r) =
  if eQ b<=16 then(if(C r:Int)<eQ b then ζ else if AQ ⟨a,(eQ b).toNat,c,r.take (eQ b).toNat⟩=T then(SW (r.drop (eQ b).toNat)).map (⟨a,(eQ b).toNat,c,r.take (eQ b).toNat⟩::·)else ζ)
  else(SW r).map (⟨a,(eQ b).toNat,c,[]⟩::·):=by
 rw[q_,q_,Bool.not_eq_false',Bool.not_eq_false',q7]at h;rw[SW];show VJ (C r+2+1) _=_;rw[VJ,b6 (by rw[h.1.1,h.2,decide_eq_true X];rfl)]
 split
 .next h16 =>
  split
  .next B =>
   rw[a8 X,b6 (by rw[AQ,B.2.1,decide_eq_true B.2.2,Bool.or_true];rfl),SW,KQ (C r+2) _ _ u6 (h_ _)]
  next B =>
  split
  .rfl
  next E =>
  rw[a8];intro D;rw[AQ,decide_eq_true (show (((⟨a,(eQ b).toNat,c,r.take (eQ b).toNat⟩:j0).cnt:Nat):Int)<=16 by show ((eQ b).toNat:Int)<=16;omega),l6,Bool.not_true,Bool.false_or,k_]at D;exact B ⟨X,D.1,D.2⟩
 rw[SW,KQ (C r+2) _ _ X (h_ _)]
def WA(z:Option (List B_)):Bool:=(!z.isSome||θ ((C ((z.getD []).map S_):Int)<2))||!θ ((z.getD []).headD a6=fA)
theorem jd(h:WA (rA (ν (μ t)))=T):uS t=[]:=by
 rw[uS];generalize rA (ν (μ t))=z at *
 match z with
 |none=>rfl
 |some []=>rfl
 |some [a]=>rfl
 |some (o::i::r) =>
  have h:((!T||θ ((C ((o::i::r).map S_):Int)<2))||!θ (o=fA))=T:=h;show (if o=fA then _ else _)=_;rw[a8];intro B;rw[decide_eq_true B,decide_eq_false (by rw[g_];simp only[j6];omega)]at h;cases h
theorem bj(h:WA (rA (ν (μ t)))=η):∃n r,rA (ν (μ t))=A (fA::n::r)/\uS t=(match SW r with|some P=>if(C P:Int)=eQ n then P else[]|none=>[]):=by
 rw[uS];generalize rA (ν (μ t))=z at *
 match z with
 |none=>cases h
 |some []=>cases h
 |some [a]=>cases h
 |some (o::i::r) =>
  have h:((!T||θ ((C ((o::i::r).map S_):Int)<2))||!θ (o=fA))=η:=h;rw[q_,Bool.not_eq_false',k_]at h;rw[h.2];exact⟨i,r,Z,b6 Z⟩
theorem xu(P:List j0):∀r∈P.map dH,C r=4:=λr B=>by
 obtain ⟨p,_,rfl⟩:=mem_map.1 B;rfl
abbrev XR(P:List j0):List (List AV):=Cu (P.map dH)
theorem Dl(t:B_)(H:aF)(ht:N t<1000000):RC 45 [sv t] (.pv (CZ (uS t))) H:=by
 refine Pu ?_;have J:=λH=>fl (ν (μ t)) H i8;rw[gE]at J;have hy:=jd (t:=t);have p:=bj (t:=t);have D:∀s∈(rA (ν (μ t))).getD [],N s<1000000:=λs F=>by
  cases h:rA (ν (μ t)) with
  |none=>rw[h]at F;cases F
  |some L =>
   rw[h]at F;have:=(xD _ _ L (h_ _) h).2 s F;rw[aS]at this;omega
 have w:C ((rA (ν (μ t))).getD [])<1000000:=by
  cases h:rA (ν (μ t)) with
  |none=>exact zero_lt_succ _
  |some L =>
   have:=(xD _ _ L (h_ _) h).1;rw[aS]at this;show C L<_;omega
 generalize rA (ν (μ t))=z at J hy p D w;have R:WA z=((!z.isSome||θ ((C ((z.getD []).map S_):Int)<2))||!θ ((z.getD []).headD a6=fA)):=rfl;generalize uS t=W at hy p |-;have ⟨o,ho⟩:∃o,o=z.isSome:=X_;have ⟨L,hL⟩:∃L,L=z.getD []:=X_;have hzL:∀e_,z=A e_->L=e_:=λe_ h=>by rw[hL,h];rfl
 rw[<-ho,<-hL]at J R;rw[<-hL]at D w;generalize WA z=A_ at R hy p;have p:A_=η->∃n r,L=fA::n::r/\W=(match SW r with|some P=>if(C P:Int)=eQ n then P else[]|none=>[]):=λh=>by
  have ⟨n,r,e1,Q⟩:=p h;exact⟨n,r,hzL _ e1,Q⟩
 clear ho hL hzL;have h0:¬ ((C (L.map S_):Int)<2)->(L.map S_)[0]?=A (S_ (L.headD a6)):=λh=>by
  cases L with
  |nil=>exact absurd E_ h
  |cons a L=>rfl
 refine Bd func45 Z ntmps45<|Sz aH<|U aA<|Y (kc call87 (J _))<|Y aA<|Y dO<|Y dO<|Y aH<|V aH<|S<|S<|aT (t:=25) (n:=15) (A_:=A_) ?_ ?_
 .all_goals refine Y aA<|Y iH<|Dm ?_<;>(refine Sp 15 (λh15=>?_) λh15=>?_)<;>(try exact w_)<;>(first|refine M<|M<|M ?_|refine O aA<|O (fM aD)<|O cI ?_)<;>refine Y cD<|Dm ?_<;>(refine Sp 20 (λx=>?_) λx=>?_)<;>(try exact w_)<;>(first|refine M<|M<|M<|M ?_|refine O aA<|O (bP Z aY Z Z X (l_ _) (h0 (b_ x)) Z)<|O (eF Z N_ Z (h0 (b_ x)) Z)<|O E4 ?_)<;>refine V cD ?_<;>exact Gj (h:=by rw[R];first|(rw[h15];rfl)|(rw[h15,x];rfl))
 refine Cn ?_ ?_<;>intro ρ
 .rw[hy ρ];refine Sz aH<|aC<|cT (H':=[]) (.inr Z) Z (aI Z) (P_ (r:=.pv (CZ []))) Qq
 have ⟨n,I,e1,Q⟩:=p ρ;subst e1;have j:C ((fA::n::I).map S_)=C I+2:=g_ _;have hr0:∀s∈I,N s<1000000:=λs F=>D s (by simp[F]);have G:=λH=>rn n H (by have:=D n H_;omega);generalize eQ n=r4 at G Q;simp only[j6]at w;clear R p hy D h0 J;refine aB<|U aA<|Y (bP Z aY Z Z X (l_ _) (show ((fA::n::I).map S_)[1]?=A (S_ n)from Z) Z)<|Y (eF Z N_ Z (show ((fA::n::I).map S_)[1]?=A (S_ n)from Z) Z)<|Y (kc call89 (G _))<|V aH<|Sz (dZ (id:=905) (sz:=4) (ty:=70) Z Z Z)<|S<|U aA<|Y (by exact eM (l:=2) (h:=C ((fA::n::I).map S_)) Z aY Z (dX (fA::n::I)) Z Z X (h_ _) (show (((fA::n::I).map S_).take _).drop 2=I.map S_ by rw[take_length];rfl))<|V aH<|aE ?_;refine eZ (λ(l:List B_) (P:List j0)=>([(3,.pv (aK l)),(5,iv r4),(6,.osl 905 (C P) 0 (C P))],[(905,⟨C P,4,70,XR P⟩)])) (λl P=>C l+C P<=C I/\(∀s∈l,N s<1000000)/\SW I=(SW l).map (P++·)) (λl P=>C l) I [] ⟨h_ _,hr0,by cases SW I<;>rfl⟩ ?_ ?_
 .exact Wk
 rintro l P ⟨hlen,D,hpt⟩;have j:C (l.map S_)=C l:=g_ _;refine S<|U aA<|Y (fM aD)<|V AF<|Cn ?_ ?_<;>intro κ
 .have h3:3<=C l:=I_ κ
  obtain ⟨a,b,c,r,rfl⟩:∃a b c r,l=a::b::c::r:=by
   match l,h3 with
   |a::b::c::r,_=>exact⟨a,b,c,r,Z⟩
  have B:=SV (a:=a) (b:=b) (c:=c) r;have E:=ae (a:=a) (b:=b) (c:=c) r;have ha:=D a H_;have hb:=D b H_;have hc:=D c H_;have hr:∀s∈r,N s<1000000:=λs F=>D s (by simp[F]);simp only[j6]at hlen j;have hnb:=GW b;have G:=λH=>rn b H X;have i:=λH=>sj a H X;have g:=λH=>YE c X H;generalize eQ b=v at B E G hnb;generalize lW a=pa at B E i;generalize m6 c=jc at B E g;have ⟨y_,y⟩:∃y_,y_=((!pa||θ (v<0))||!jc):=X_;rw[<-y]at B E;have hmr:C (r.map S_)=C r:=g_ _;refine aB<|aE<|S<|aM a7<|x_ aA<|x_ (by exact bP Z aY Z Z X (l_ _) (show ((a::b::c::r).map S_)[0]?=A (S_ a)from Z) Z)<|x_ (by exact eF Z N_ Z (show ((a::b::c::r).map S_)[0]?=A (S_ a)from Z) Z)<|x_ aA<|x_ (by exact bP Z aY Z Z X (l_ _) (show ((a::b::c::r).map S_)[1]?=A (S_ b)from Z) Z)<|x_ (by exact eF Z N_ Z (show ((a::b::c::r).map S_)[1]?=A (S_ b)from Z) Z)<|x_ (by exact bH Z Z call89 Z (G _))<|x_ aA<|x_ (by exact bP Z aY Z Z X (l_ _) (show ((a::b::c::r).map S_)[2]?=A (S_ c)from Z) Z) ?_;refine x_ (by exact eF Z N_ Z (show ((a::b::c::r).map S_)[2]?=A (S_ c)from Z) Z)<|x_ ((oD aEj))<|Cp [7] (λH1 hH=>by exact CN (id:=7) Z Ho Z ((hH _ Z).trans Z))<|Cp [7] (λ_ h=>sa eC h)<|bG<|Kr<|U aA<|Y (by exact eM (l:=3) (h:=C ((a::b::c::r).map S_)) Z aY Z (dX (a::b::c::r)) Z Z X (h_ _) (show (((a::b::c::r).map S_).take _).drop 3=r.map S_ by rw[take_length];rfl))<|V aH<|S<|S ?_;refine aT (t:=62) (n:=17) (A_:=y_) ?_ ?_
  .all_goals refine Y (bC N0)<|Y (bQ N_)<|Y (kc call90 (i _))<|Y iH<|Dm ?_<;>(refine Sp 52 (λh52=>?_) λh52=>?_)<;>(try exact w_)<;>(first|refine M<|M<|M ?_|refine O (bC FU)<|O (bQ M_)<|O cI ?_)<;>refine Y cD<|Dm ?_<;>(refine Sp 57 (λh57=>?_) λh57=>?_)<;>(try exact w_)<;>(first|refine M<|M<|M<|M ?_|refine O (bC UE)<|O (bQ N_)<|O (kc call30 (g _))<|O iH ?_)<;>refine V cD ?_<;>exact Gj (h:=by rw[y];first|(rw[h52];rfl)|(rw[h52,h57];rfl))
  refine Cn ?_ ?_<;>intro δ
  .rw[Q,hpt,E δ];refine Sz aH<|aC<|cT (H':=[]) (.inr Z) Z (aI Z) (P_ (r:=.pv (CZ []))) Qq
  have σ:y_=η:=δ;have B:=B σ;have hv0:0<=v:=by
   rw[σ]at y;have:=y.symm;rw[q_,q_,q7]at this;omega
  obtain ⟨k,rfl⟩:∃k:Nat,v=(k:Int):=⟨v.toNat,X⟩;rw[l_]at B;clear y E G i g;have hsm:=λH=>KB ⟨a,k,c,[]⟩ H;refine aB<|eR (λ(q:List B_×List B_)=>([(3,.pv (aK q.2)),(5,iv r4),(6,.osl 905 (C P) 0 (C P)),(7,.ref 7 0 0 0)],[(7,bx 4 70 [sv a,sv c,iv (k:Int),.pv (aK q.1)]),(905,⟨C P,4,70,XR P⟩)])) (λq=>C q.2<=C r/\C q.1<=C r/\(∀s∈q.1,N s<1000000)/\(∀s∈q.2,N s<1000000)/\SW (a::b::c::r)=if AQ ⟨a,k,c,q.1⟩=T then(SW q.2).map (⟨a,k,c,q.1⟩::·)else ζ) ?_ ?_
  .refine U u3<|V (kc call82 (hsm _)) ?_;refine Cn ?_ ?_<;>intro γ
   .have K:(k:Int)<=16:=b9 γ;rw[b6 K]at B;refine S<|U (bC FU)<|Y (bQ M_)<|Y aA<|Y (fM aD)<|V iX<|Cn ?_ ?_<;>intro β
    .have f:(C r:Int)<(k:Int):=I_ β
     rw[b6 f]at B;rw[Q,hpt,B];refine Sz aH<|aC<|cT (H':=[]) (.inr Z) Z (aI Z) (P_ (r:=.pv (CZ []))) Qq
    have f:¬ (C r:Int)<(k:Int):=J_ β
    rw[a8 f]at B;refine aB<|aM a7<|x_ aA<|Cr [7] (λ_ h=>fh FU h)<|Cr [7] (λ_ h=>lh M_ h)<|x_ (by exact eM (l:=0) (h:=k) Z aY Z (dX r) Z Z (l7 _) X (show ((r.map S_).take k).drop 0=(r.take k).map S_ by rw[drop_zero,map_take]))<|x_ aA<|Cr [7] (λ_ h=>fh FU h)<|Cr [7] (λ_ h=>lh M_ h)<|x_ (by exact eM (l:=k) (h:=C (r.map S_)) Z aY Z (dX r) Z Z X (h_ _) (show ((r.map S_).take _).drop k=(r.drop k).map S_ by rw[take_length,map_drop]))<|Cr [7] (λ_ h=>fh FT h)<|Cp [7] (λ_ h=>su sizeOf68 h)<|x_ aH<|bG<|Kr ?_;exact⟨(r.take k,r.drop k),⟨by simp only;rw[p_];omega,by simp only;rw[m_];omega,λs F=>hr s (mem_of_mem_take F),λs F=>hr s (mem_of_mem_drop F),B⟩,Wk⟩
   have K:¬ (k:Int)<=16:=b_ γ;rw[a8 K]at B;have u:AQ ⟨a,k,c,[]⟩=T:=by rw[AQ,decide_eq_false K];rfl
   refine aB ?_;exact⟨([],r),⟨h_ _,l7 _,(λs F=>by cases F),hr,by rw[b6 u];exact B⟩,Wk⟩
  rintro⟨d,q2⟩ ⟨hq2,hq1,hs1,hs2,hq⟩;simp only at hq2 hq1 hs1 hs2 hq;have u:=λH=>Vh ⟨a,k,c,d⟩ H (by simp only;omega) hs1;refine S<|U u3<|Y (kc call91 (u _))<|V iH ?_;refine Cn ?_ ?_<;>intro hc6
  .rw[a8 (by have h:=hc6;intro e;rw[e]at h;cases h)]at hq;rw[Q,hpt,hq];refine Sz aH<|aC<|cT (H':=[]) (.inr Z) Z (aI Z) (P_ (r:=.pv (CZ []))) Qq
  rw[b6 (nX hc6)]at hq;refine aB<|Rd aA<|Y u3<|Y (aL [dH ⟨a,k,c,d⟩] Z aBA Z Z Z Z Z (xu [⟨a,k,c,d⟩]))<|Y (by exact bW (k:=C P+1) (ps:=[dH ⟨a,k,c,d⟩]) Z aBA aFw Z Z Z Z Z (by rw[KM,g_]) Z (xu [⟨a,k,c,d⟩]) (m:=1) Z X Z (rows':=XR (P++[⟨a,k,c,d⟩])) (by rw[XR,XR,map_append,Cu,Cu,map_append];rfl))<|Da ?_;have hnl:C (P++[(⟨a,k,c,d⟩:j0)])=C P+1:=by rw[j8];rfl
  refine⟨q2,P++[⟨a,k,c,d⟩],⟨by rw[hnl];omega,hs2,?_⟩,by simp only[j6];omega,?_⟩
  .rw[hpt,hq];cases SW q2 with
   |none=>rfl
   |some z=>simp
  dsimp only;rw[hnl];exact L_
 have h3:C l<3:=J_ κ
 have hPl:C (XR P)=C P:=by rw[KM,g_]
 have ⟨A_,R⟩:∃A_,A_=(!θ ((C P:Int)=r4)||θ ((0:Int)<(C l:Int))):=X_;have τ:A_=T->W=[]:=λh=>by
  rw[Q,hpt];cases l with
  |nil =>
   rw[QD];show (if(C (P++[]):Int)=r4 then _ else _)=_;rw[a8];intro e;rw[append_nil]at e;rw[R,decide_eq_true e]at h;cases h
  |cons a l=>rw[KR H_ h3];rfl
 have hNo:A_=η->W=P:=λh=>by
  rw[R,q_,Bool.not_eq_false',k_,q7]at h;have hl0:l=[]:=length_eq_zero_iff.1 X;rw[Q,hpt,hl0,QD];show (if(C (P++[]):Int)=r4 then P++[]else[])=P;rw[append_nil,b6 h.1]
 refine aP<|S<|S<|aT (t:=94) (n:=10) (A_:=A_) ?_ ?_
 ·all_goals refine Y aA<|Y (by exact dR Z underlying86 Z Z Z)<|Y aA<|Y xI<|Dm ?_<;>(refine Sp 90 (λh90=>?_) λh90=>?_)<;>(try exact w_)<;>(first|refine M<|M<|M ?_|refine O aA<|O (fM aD)<|O iX ?_)<;>refine V cD ?_<;>exact Gj (h:=by rw[R,<-j];(rw[h90];rfl))
 refine Cn ?_ ?_<;>intro hc7
 .rw[τ hc7];refine Sz aH<|aC<|cT (H':=[]) (.inr Z) Z (aI Z) (P_ (r:=.pv (CZ []))) Qq
 rw[hNo hc7];refine aB<|U aA<|V aH<|aC ?_;refine cT (H':=[]) (.inr Z) Z (aI Z) (Fin.slice0 (id:=905) (P.map dH) Z Z Z (g_ _)) ?_;exact Qq
end Go.Proofs.C
section
namespace Go.Proofs
open Go.RowKit Go.Sort Go.Shelf
def aGt:Go.Shelf.Ren:=⟨λ|6=>86|8=>131|9=>130|19=>189|20=>190|21=>180|22=>181|23=>182|24=>183|25=>184|26=>185|27=>186|28=>187|29=>188|36=>233|31=>234|32=>235|37=>236|38=>237|39=>238|41=>270|n=>n,λ|27=>68|29=>9|3=>3|32=>157|26=>22|0=>0|44=>213|46=>169|4=>4|36=>207|35=>206|41=>166|5=>5|9=>9|53=>241|57=>245|63=>282|64=>283|n=>n,λ|n=>n⟩
theorem aGz:Go.Proofs.SlLaysM.n6 φ aGt:={
  mixed:=by kernel_rfl
  f6:=⟨Tryz.f86.name,E_,Tryz.func86.trans D_⟩
  f8:=Tryz.func131.trans D_
  f9:=⟨Tryz.f130.name,E_,Tryz.func130.trans D_⟩
  f19:=Tryz.func189.trans D_
  f20:=Tryz.func190.trans D_
  f21:=⟨Tryz.f180.name,E_,Tryz.func180.trans D_⟩
  f22:=⟨Tryz.f181.name,E_,Tryz.func181.trans D_⟩
  f23:=⟨Tryz.f182.name,E_,Tryz.func182.trans D_⟩
  f24:=⟨Tryz.f183.name,E_,Tryz.func183.trans D_⟩
  f25:=⟨Tryz.f184.name,E_,Tryz.func184.trans D_⟩
  f26:=⟨Tryz.f185.name,E_,Tryz.func185.trans D_⟩
  f27:=⟨Tryz.f186.name,E_,Tryz.func186.trans D_⟩
  f28:=⟨Tryz.f187.name,E_,Tryz.func187.trans D_⟩
  f29:=⟨Tryz.f188.name,E_,Tryz.func188.trans D_⟩
  f31:=Tryz.func234.trans D_
  f32:=Tryz.func235.trans D_
  f36:=⟨Tryz.f233.name,E_,Tryz.func233.trans D_⟩
  f37:=⟨Tryz.f236.name,E_,Tryz.func236.trans D_⟩
  f38:=⟨Tryz.f237.name,E_,Tryz.func237.trans D_⟩
  f39:=⟨Tryz.f238.name,E_,Tryz.func238.trans D_⟩
  f41:=⟨Tryz.f270.name,E_,Tryz.func270.trans D_⟩
  t0:=D7
  a0:=Tryz.isAgg0
  z0:=Tryz.sizeOf0
  v0:=Tryz.zeroValue0
  t3:=Tryz.underlying3
  a3:=Tryz.isAgg3
  z3:=Tryz.sizeOf3
  v3:=sU
  t4:=fB
  a4:=nO
  z4:=Tryz.sizeOf4
  v4:=jC
  t5:=cZ
  a5:=vE
  z5:=cO
  v5:=sT
  t9:=Tryz.underlying9
  a9:=Tryz.isAgg9
  z9:=Tryz.sizeOf9
  v9:=gV
  t26:=aD
  a26:=aG
  z26:=Tryz.sizeOf22
  v26:=wD
  t27:=mM
  a27:=kH
  z27:=Tryz.sizeOf68
  v27:=Tryz.zeroValue68
  t29:=Tryz.underlying9
  a29:=Tryz.isAgg9
  z29:=Tryz.sizeOf9
  v29:=gV
  t32:=lK
  a32:=Tryz.isAgg157
  z32:=A9
  v32:=uA
  t35:=Tryz.underlying206
  a35:=Tryz.isAgg206
  z35:=Tryz.sizeOf206
  v35:=Tryz.zeroValue206
  t36:=Tryz.underlying207
  a36:=Tryz.isAgg207
  z36:=Tryz.sizeOf207
  v36:=Tryz.zeroValue207
  t41:=Tryz.underlying166
  a41:=Tryz.isAgg166
  z41:=Tryz.sizeOf166
  v41:=Tryz.zeroValue166
  t44:=Tryz.underlying213
  a44:=Tryz.isAgg213
  z44:=Tryz.sizeOf213
  v44:=Tryz.zeroValue213
  t46:=gQ
  a46:=xT
  z46:=vD
  v46:=tZ
  t53:=Tryz.underlying241
  a53:=Tryz.isAgg241
  z53:=Tryz.sizeOf241
  v53:=Tryz.zeroValue241
  t57:=Tryz.underlying245
  a57:=Tryz.isAgg245
  z57:=Tryz.sizeOf245
  v57:=Tryz.zeroValue245
  t63:=Tryz.underlying282
  a63:=Tryz.isAgg282
  z63:=Tryz.sizeOf282
  v63:=Tryz.zeroValue282
  t64:=Tryz.underlying283
  a64:=Tryz.isAgg283
  z64:=Tryz.sizeOf283
  v64:=Tryz.zeroValue283}
end Go.Proofs
namespace Go.Proofs.C
open Go.Proofs.Tryz
open Go.Abs Go.Lib
variable{g n:Nat}{H:aF}
theorem Bt(B:List B_){id ty:Nat}(D:H.get id=A ⟨g,1,ty,fL B⟩)(F:n=C B)(E:C B<2^62):
  aU φ 86 [.osl id g 0 n] H (λr H'=>r=.tup []/\H'=(id,⟨g,1,ty,fL (jR B)⟩)::H):=Jk aGz B D F E
def pM(l:List (B_×PV)):List (B_×AV):=l.map λp=>(p.1,.pv p.2)
abbrev VK(l:List (B_×PV)):Ob:=⟨0,0,C (pM l),sJ J7 (pM l)⟩
theorem qi:∀(l:List (B_×PV)) (i:B_),zN (pM l) i=(l.find? λp=>θ (p.1=i)).map λp=>.pv p.2
 | [],i=>rfl
 |(k,v)::l,i=>by
  show (if k=i then _ else zN (pM l) i)=_;rw[List.find?_cons];by_cases h:k=i
  .rw[b6 h,decide_eq_true h];rfl
  rw[a8 h,decide_eq_false h];exact qi l i
theorem qh:∀ {l:List (B_×PV)} {i:B_} (v:PV),i∉l.map Prod.fst->xJ (pM l) i (.pv v)=pM (l++[(i,v)])
 | [],i,v,_=>rfl
 |(k,u)::l,i,v,h=>by
  rw[List.map_cons,l9,not_or]at h;show (if k=i then _ else(k,AV.pv u)::xJ (pM l) i (.pv v))=_;rw[a8 λe=>h.1 e.symm,qh v h.2];rfl
theorem dW(l:List (B_×PV)):∀r∈(VK l).rows,∀a∈r,Clo H a:=by
 intro r E a B;have ⟨i,hi⟩:=s8.1 E;obtain ⟨p,D,rfl⟩:=GY.1 hi;rw[pM,r8]at D;obtain ⟨q,_,rfl⟩:=Option.map_eq_some_iff.1 D;simp only[l9,q8,or_false]at B;rcases B with rfl|rfl|rfl
 .exact .pv _
 .exact .pv _
 exact .pv _
instance(l:List (B_×PV)):W_ (H) ((VK l).rows):=⟨dW l⟩
def tM(o:List (B_×B_)):List (B_×PV):=o.map λp=>(p.1,.str p.2)
theorem aAt(o:List (B_×B_)):(tM o).map Prod.fst=o.map Prod.fst:=by rw[tM,map_map];rfl
theorem Iz(o:List (B_×B_))(i:B_):(zN (pM (tM o)) i).getD (sv a6)=sv (jH o i)/\(zN (pM (tM o)) i).isSome=θ (i∈o.map Prod.fst):=by
 rw[qi,jH,tM,find?_map];show (Option.map _ ((o.find? λp=>θ (p.1=i)).map _)).getD _=_/\(Option.map _ ((o.find? λp=>θ (p.1=i)).map _)).isSome=_;cases h:o.find? λp=>θ (p.1=i)with
 |none =>
  refine⟨Z,(decide_eq_false λF=>?_).symm⟩;have ⟨p,E,e⟩:=mem_map.1 F;have:=find?_eq_none.1 h p E;exact this (decide_eq_true e)
 |some p =>
  have B:=find?_some h;have D:=mem_of_find?_eq_some h;exact⟨Z,(decide_eq_true (mem_map.2 ⟨p,D,b9 B⟩)).symm⟩
theorem Fin.mirW{H1:aF}{ob:Ob}{o:List (B_×PV)}(f_:List B_)(E:H1.get 711=A ob)(F:ob.g=g)(B:ob.rows=bZ f_)(G:n=C f_)(D:H1.get 710=A (VK o)):
  Fin [] H1 (.agg [.osl 711 g 0 n,.mp 710 0]) [(710,VK o)] (.agg [.pv (aK f_),.mp 710 0]):=by
 subst F G;exact Fin.fz (id:=711) (ob:=ob) (f_.map S_) E (B.trans (dA f_)) (.agg Z (bA (.osl (fR S_ f_)) (bA (.same m3) jA))) Z ⟨⟨_,D,Z⟩,dW _,T_⟩ T_
theorem aAR:mT zR:=by have B:qP 0:=⟨E_,E_⟩;exact⟨⟨B,B,B,B,B⟩,⟨E_,E_,E_⟩,⟨E_,λt h=>by cases h⟩,⟨E_,λt h=>by cases h⟩,okZ,E_,E_,⟨E_,λt h=>by cases h⟩,E_,okZ⟩
theorem M9(t:List UInt8):mT (eB t).1/\C (eB t).1.parents<549755813888:=by
 rw[eB]
 split
 .exact⟨aAR,E_⟩
 next h =>
 split
 .exact gf X
 exact⟨aAR,E_⟩
theorem NA{L:List B_}{k:Nat}{t:B_}(h:L[k]?=A t):jM (L.take (k+1))=jW (jM (L.take k)) t:=by rw[eP h,De]
theorem QR:cR []=[]:=eq_nil_of_length_eq_zero (le_zero.1 (B7 []))
theorem S5:∀(L:List B_),C (jM L)<=C L:=λL=>by
 have:=B7 L
 rwa [cR,jL,g_]at this
theorem Dt(L:List B_)(hl:C L<1000000)(x:∀t∈L,N t<1000000000):aU φ 42 [.pv (aK L)] [] (λr H'=>r=.agg [.pv (aK (cR L)),.mp 710 0]/\H'=[(710,VK (tM (jM L)))]):=by
 have w:C (L.map S_)=C L:=g_ _;refine Bd func42 Z ntmps42<|Sz (kl 2 aDC)<|U (vU (id:=710) J7 Z Z)<|Y (oD aEh)<|Y (kl 3 aDC)<|Uu (jG sizeOf80)<|Zz<|S<|S ?_;refine fW.ent (E':=[(0,.pv (aK L)),(2,.ref 2 0 0 0),(3,.ref 3 0 0 0)]) (H':=(711,⟨0,1,9,[]⟩)::(3,bx 2 80 [.osl 711 0 0 0,.mp 710 0])::(710,VK [])::(2,bx 2 80 [.pv (.sl []),.pv .nilm])::[]) ?_ ?_
 .exact (Q_ 711 1 9)
 refine Rd aA<|Y (fM aD)<|V aA<|aE<|bF (σ:=Nat) (λk=>([(2,.ref 2 0 0 0),(3,.ref 3 0 0 0),(13,.pv (aK L)),(14,iv (C (L.map S_):Int)),(15,iv (k:Int))],[(3,bx 2 80 [.osl 711 (C (jM (L.take k))) 0 (C (jM (L.take k))),.mp 710 0]),(711,⟨C (jM (L.take k)),1,9,bZ ((jM (L.take k)).map Prod.fst)⟩),(710,VK (tM (jM (L.take k)))),(2,bx 2 80 [.pv (.sl []),.pv .nilm])])) (λk=>k<=C L) (λk=>C L - k) 0 (l7 _) ?_ ?_
 .exact L_
 intro k z;refine Sz cI<|S<|Cn ?_ ?_<;>intro P
 .have hlt:k<C L:=I_ P
  have ⟨t,n⟩:=aR hlt;have hi:=cC (f:=S_) n;have y:=x t (m7 n);have K:=λH=>ic (ν (μ t)) i8 H;rw[gE]at K;have J:=M9 (ν (μ t));have F:=λH=>yy (eB (ν (μ t))).1 J.1 J.2 H;have B:=NA n;have a:=S5 (L.take k);rw[m_]at a;have E:sV t=if(eB (ν (μ t))).2=0 then A (JB (eB (ν (μ t))).1)else ζ:=rfl
  generalize eB (ν (μ t))=G at K F E;generalize jM (L.take k)=D at B a |-;rw[jW,E]at B;generalize JB G.1=I at F B;clear E J;refine aB<|S<|aE<|U (iV aY)<|Y (fS N_ (hi:=hi))<|V aH<|U aA<|Y (kc call54 (K _))<|Y aA<|Y dO<|Y dO<|Y (kl 6 nx)<|Uu (jG bJ)<|V aH<|S<|U aA<|V xI<|Cn ?_ ?_<;>intro Q
  .have hne:G.2≠0:=by have:=Q;intro e;rw[e]at this;exact absurd this E_
   rw[a8 hne]at B;refine aP<|Rd iD<|V aA ?_;refine⟨k+1,X,X,?_⟩;dsimp only;rw[B];exact L_
  have g:G.2=0:=by have:=Q;by_cases e:G.2=0;exact e;rw[decide_eq_false e]at this;cases this
  rw[b6 g]at B;have ⟨u,v⟩:=Iz D I;refine aB<|U (wY cQ bJ)<|Y (kc call55 (F _))<|V aH<|U (bC ti)<|Y (bQ isAgg78)<|Y aA<|Y (by exact cP.eqv (HY (κ:=J7) Z underlying78 U_ Z Z Z Z Z gV (.inl Z)) (show AV.tup [(zN (pM (tM D)) I).getD (sv a6),.pv (.bool (zN (pM (tM D)) I).isSome)]=.tup [sv (jH D I),bv (decide (I∈D.map Prod.fst))]by rw[u,v]))<|Y aA<|Y dO<|Y dO<|Y aH<|V aH<|U aA<|V iH<|Cn ?_ ?_<;>intro R
  .have hno:I∉D.map Prod.fst:=b_ (not_not R);have B:jM (L.take (k+1))=D++[(I,t)]:=by
    rw[B];refine a8 λh=>hno ?_;have ⟨p,l,e⟩:=any_eq_true.1 h;exact mem_map.2 ⟨p,l,b9 e⟩
   have b:xJ (pM (tM D)) I (sv t)=pM (tM (D++[(I,t)])):=by rw[qh (.str t) (by rw[aAt];exact hno),tM,tM,map_append];rfl
   have q:C (bZ (D.map Prod.fst))=C D:=by rw[dI,g_]
   have j:C (D++[(I,t)])=C D+1:=by rw[j8];rfl
   refine U (bC ti)<|Y (bQ isAgg78)<|Y aA<|Y aA<|Uu (by exact zO (κ:=J7) (.inl Z) underlying78 U_ Z Z Z Z Z Z Z b)<|Zz<|Rd (bC JG)<|Y (bQ kH)<|Y aA<|Y (by exact aL [[.str I]] Z R8 Z Z Z Z Z R_)<|Y (by exact bW (k:=D.length+1) (ps:=[[.str I]]) Z R8 sW Z Z Z Z Z q Z R_ (m:=1) Z X Z (rows':=bZ ((D++[(I,t)]).map Prod.fst)) (by rw[map_append];exact gT _ I))<|Y (bC JG)<|Uu (ku sizeOf68)<|Zz<|Rd iD<|V aA ?_;refine⟨k+1,X,X,?_⟩;dsimp only;rw[B,j];exact(cH.wk (Ea<|Ea<|Eb<|Eb<|Eb<|T_) (Hc (by(simp;exact⟨Z,Z⟩))<|Hc (aN _ _)<|Hc (dW _)<|Hb<|T_) T_)
  have d:I∈D.map Prod.fst:=b9 (nX R);have B:jM (L.take (k+1))=D:=by
   rw[B];have ⟨p,l,e⟩:=mem_map.1 d;exact b6 (any_eq_true.2 ⟨p,l,decide_eq_true e⟩)
  refine aB<|Rd iD<|V aA ?_;refine⟨k+1,X,X,?_⟩;dsimp only;rw[B];exact L_
 have i:k=C L:=J_ P
 subst i;rw[take_length];have s:=S5 L;have c:C ((jM L).map Prod.fst)=C (jM L):=g_ _;have W:cR L=jR ((jM L).map Prod.fst):=rfl;rw[W];refine aP<|U (bC JG)<|Y (bQ kH)<|V (kc call86 (Bt ((jM L).map Prod.fst) Z c.symm X))<|U (by exact aW Z isAgg80 sizeOf80 Z Z Z Z u0 Z)<|Uu (jG sizeOf80)<|Zz<|aC ?_;refine cT (H':=[(710,VK (tM (jM L)))]) (.inr Z) Z (fG Z isAgg80 sizeOf80 Z Z Z u0 Z) (Fin.mirW (o:=tM (jM L)) (jR ((jM L).map Prod.fst)) Z Z Z (by rw[jL];exact c.symm) Z) ?_;exact Qq
theorem Nj(L:List B_)(D:C L<1000000)(E:∀t∈L,N t<1000000000)(B:H.get 710=ζ):aU φ 42 [.pv (aK L)] H (λr H'=>r=.agg [.pv (aK (cR L)),.mp 710 0]/\H'=(710,VK (tM (jM L)))::H) :=aU.frame (Dt L D E) (λ_ _ h=>by cases h) (λ_ _ h=>by cases h) H_ (λid h=>.inr (by
  by_cases e:id=710
  .rw[e];exact B
  rw[get_cons_other _ _ e]at h;cases h))
theorem PW(t:B_)(H:aF)(F:N t<1000000000):RC 17 [sv t] (.pv (aK (if(sV t).isSome=T then[t]else[]))) H:=by
 refine Pu ?_;have B:=λH=>ic (ν (μ t)) i8 H;rw[gE]at B;rw[sV];generalize eB (ν (μ t))=G at B |-;refine Bd func17 Z ntmps17<|Sz aH<|S<|U aA<|Y (kc call54 (B _))<|Y aA<|Y dO<|Y dO<|Y (kl 3 nx)<|Uu (jG bJ)<|V aH<|U aA<|V xI<|Cn ?_ ?_<;>intro D
 .have hne:G.2≠0:=by have:=D;intro e;rw[e]at this;exact absurd this E_
  rw[a8 hne];refine Sz aH<|aC<|cT (H':=[]) (.inr Z) Z (aI Z) (P_ (r:=.pv (aK []))) Qq
 have E:G.2=0:=by have:=D;by_cases e:G.2=0;exact e;rw[decide_eq_false e]at this;cases this
 rw[b6 E];exact aB<|U aA<|Y (aL [[.str t]] Z aY Z Z Z Z Z R_)<|V aH<|aC<|Rt<|Qq
end Go.Proofs.C
end
namespace Go.Proofs.C
open Go.Proofs.Tryz
open Go.Abs Go.Lib
def Hg(s:B_)(k:Nat):Bool:=!(θ (aZ s k<48)||θ (57<aZ s k))
def Z9(s:B_):Nat->Int
 |0=>0
 |k+1=>10*Z9 s k+(aZ s k - 48)
def KL(s:B_):Int:=if N s=0 then -1 else if(List.range (N s)).all (Hg s)&&θ (N s<=7)then Z9 s (N s) else -1
theorem xa{s}:∀ {k},(∀j,j<k->Hg s j=T)->0<=Z9 s k/\Z9 s k<10 ^ k
 |0,_=>⟨Int.le_refl 0,by show 0<1;omega⟩
 |k+1,h=>by
  obtain ⟨B,D⟩:=xa (k:=k) λj E=>h j X;have a:=h k X;rw[Hg,r9,q_,q7,q7]at a;rw[Z9];omega
theorem aDj{k}(h:k<=7):(10:Int) ^ k<=10000000:=by
 have a:k=0\/k=1\/k=2\/k=3\/k=4\/k=5\/k=6\/k=7:=X
 rcases a with rfl|rfl|rfl|rfl|rfl|rfl|rfl|rfl<;>decide
theorem XD(s:B_)(H:aF)(E:N s<2^40):RC 163 [sv s] (iv (KL s)) H:=by
 refine Pu<|Bd func163 Z ntmps163<|Sz aH<|Sz aH<|S<|Sz aH<|aE<|bF (σ:=Nat) (λk=>([(0,sv s),(3,iv (Z9 s k)),(4,iv (k:Int))],[])) (λk=>k<=N s/\(∀j,j<k->Hg s j=T)/\(0<k->N s<=7)) (λk=>N s - k) 0 ⟨l7 _,λj q=>absurd q (not_lt_zero _),λh=>absurd h (Nat.lt_irrefl 0)⟩ ?_ ?_
 .exact Wk
 rintro k ⟨hk,t,h7⟩;refine S<|U aA<|Y aA<|Y (gL U_)<|V cI<|Cn ?_ ?_<;>intro d
 .have hlt:k<N s:=I_ d
  refine aB<|S<|aE<|S<|S<|aT (t:=25) (n:=17) (A_:=(θ (aZ s k<48)||θ (57<aZ s k))||θ (7<(N s:Int))) ?_ ?_
  .all_goals refine Y aA<|Y aA<|Y (ky U_)<|Y cI<|Dm ?_<;>(refine Sp 15 (λp=>?_) λp=>?_)<;>(first|exact s_|refine M<|M<|M<|M ?_|refine O aA<|O aA<|O (ky U_)<|O iX ?_)<;>refine Y cD<|Dm ?_<;>(refine Sp 21 (λo=>?_) λo=>?_)<;>(first|exact s_|refine M<|M<|M ?_|refine O aA<|O (gL U_)<|O iX ?_)<;>refine V cD ?_<;>(exact⟨⟨_,Z,G_⟩,Z,Z,Z⟩)
  refine Cn ?_ ?_<;>intro c
  .have hbad:Hg s k=η\/7<N s:=by have h:=c;rw[Hg];simp only[Bool.or_eq_true,k_]at h;rcases h with h|h;exact .inl G_;exact .inr X
   have f:KL s = -1:=by
    rw[KL,a8 X,a8 ?_]
    grind
   rw[f];exact Sz aH<|aC<|Rt<|Qq
  have b:Hg s k=T/\N s<=7:=by have h:=c;rw[q_,q7]at h;exact⟨by rw[Hg,h.1];rfl,X⟩
  have B:=xa t;have D:=aDj (k:=k) X;have m:=b.1;rw[Hg,r9,q_,q7,q7]at m;have n:∀j,j<k+1->Hg s j=T:=λj q=>by
   grind
  refine aB<|Rd aA<|Y (oZ Z Z Z (lT X X))<|Y aA<|Y aA<|Y (ky U_)<|Y (dT Z Z Z (wu8 X X))<|Y (eE Z cZ underlying3 Z (lT X X))<|Y iD<|V aH<|Rd aA<|Y iD<|Da ?_;exact⟨k+1,⟨X,n,λ_=>b.2⟩,X,Wk⟩
 have l:k=N s:=J_ d
 subst l;refine aP<|S<|U aA<|V wU<|Cn ?_ ?_<;>intro g
 .have i:s=⟨#[]⟩:=b9 g;have f:KL s = -1:=by rw[i];rfl
  rw[f];exact Sz aH<|aC<|Rt<|Qq
 have i:N s≠0:=λe=>b_ g (tn (length_eq_zero_iff.1 F_));have f:KL s=Z9 s (N s):=by
  rw[KL,a8 i,b6 ?_]
  grind
 rw[f];exact aB<|U aA<|V aH<|aC<|Rt<|Qq
def KK(s:B_):Nat->Int
 |0=>0
 |k+1=>10*KK s k+IntKind.u8.wrap (aZ s k - 48)
theorem aAK(x):0<=IntKind.u8.wrap x/\IntKind.u8.wrap x<=255:=by have:IntKind.u8.wrap x=x % 256:=rfl;omega
theorem gk(s):∀k,k<=7->0<=KK s k/\KK s k+255<=255*10 ^ k
 |0,_=>⟨Int.le_refl 0,by show 0+255<=255*1;omega⟩
 |k+1,h=>by
  obtain ⟨B,D⟩:=gk s k X;have E:=aAK (aZ s k - 48);rw[KK];omega
theorem SN(s:B_)(H:aF)(G:N s<2^40):RC 215 [sv s] (iv (KK s (min (N s) 7))) H:=by
 refine Pu<|Bd func215 Z ntmps215<|Sz aH<|Sz aH<|S<|Sz aH<|aE<|bF (σ:=Nat) (λk=>([(0,sv s),(3,iv (KK s k)),(4,iv (k:Int))],[])) (λk=>k<=N s/\k<=7) (λk=>N s - k) 0 ⟨l7 _,l7 _⟩ ?_ ?_
 .exact Wk
 rintro k ⟨hk,d⟩;refine S<|S<|aT (t:=12) (n:=9) (A_:=θ ((k:Int)<(N s:Int))&&θ ((k:Int)<7)) ?_ ?_
 .all_goals refine Y aA<|Y aA<|Y (gL U_)<|Y cI<|Dm ?_<;>(refine Sp 9 (λe=>?_) λe=>?_)<;>(first|exact s_|refine M<|M ?_|refine O aA<|O cI ?_)<;>refine V cD ?_<;>(exact⟨⟨_,Z,G_⟩,Z,Z,Z⟩)
 refine Cn ?_ ?_<;>intro c
 .have b:k<N s/\k<7:=by have h:=c;rw[l6,k_,k_]at h;omega
  have ⟨b,E⟩:=b;have B:=gk s k d;have F:=aDj d;have I:=aAK (aZ s k - 48);refine aB<|S<|aE<|Rd aA<|Y (oZ Z Z Z (lT X X))<|Y aA<|Y aA<|Y (ky U_)<|Y (dT Z Z Z Z)<|Y (eE Z cZ underlying3 Z (lT X X))<|Y iD<|V aH<|Rd aA<|Y iD<|Da ?_;exact⟨k+1,⟨X,X⟩,X,Wk⟩
 have D:k=min (N s) 7:=by have h:=c;rw[Bool.and_eq_false_iff,q7,q7]at h;omega
 refine aP<|U aA<|V aH<|aC<|Rt ?_
 simp_all
def oy(s:B_)(f:Nat):List B_:=(dV 32 (s.data.toList.drop f)).map a_
theorem Br(s):cS s=oy s 0:=rfl
theorem Pp{s}{f i}(B:f<=i)(hi:i<N s):s.data.toList.drop f=(s.data.toList.drop f).take (i - f)++pI s i::s.data.toList.drop (i+1):=by
 have D:=aS s;have a:(s.data.toList.drop f).drop (i - f)=pI s i::s.data.toList.drop (i+1):=by
  rw[drop_drop,show f+(i - f)=i by omega,drop_eq_getElem_cons _];rw[pI,n_ X];rfl
 rw[<-a,take_append_drop]
theorem aAy{s}{f i}(d:f<=i)(hi:i<N s)(e:pI s i=32)(b:32∉(s.data.toList.drop f).take (i - f)):oy s f=a_ ((s.data.toList.drop f).take (i - f))::oy s (i+1):=by have h:=Pp d hi;rw[e]at h;have c:=congrArg (λl=>(dV 32 l).map a_) h;simp[kD b,map_cons]at c;exact c
theorem Uj{s}{f}(a:32∉s.data.toList.drop f):oy s f=[a_ (s.data.toList.drop f)]:=by rw[oy,sF a];rfl
theorem Wz{s}{f i}(D:f<=i)(hi:i<N s)(b:pI s i≠32)(B:32∉(s.data.toList.drop f).take (i - f)):32∉(s.data.toList.drop f).take (i+1 - f):=by
 rw[show i+1 - f=(i - f)+1 by omega,take_add_one,];intro h;rcases mem_append.1 h with h|h
 .grind
 exact b (by rw[pI];simp_all)
theorem Kv(s:B_)(H:aF)(E:N s<1000000000):RC 161 [sv s] (.pv (aK (cS s))) H:=by
 refine Pu ?_;have D:=aS s;refine Bd func161 Z ntmps161<|Sz aH<|Sz (dZ (id:=906) (sz:=1) (ty:=9) Z Z Z)<|Sz aH<|S<|Sz aH<|aE<|CI (λ(i f:Nat) (a:List B_)=>([(0,sv s),(3,.osl 906 (C a) 0 (C a)),(4,iv (f:Int)),(5,iv (i:Int))],[(906,⟨C a,1,9,VI a⟩)])) (λi f a=>i<=N s+1/\f<=i/\C a<=i/\(i<=N s->cS s=a++oy s f/\(32:UInt8)∉(s.data.toList.drop f).take (i - f))/\(i=N s+1->cS s=a)) (λi _ _=>N s+1 - i) 0 0 [] ⟨X,h_ _,h_ _,λ_=>⟨Br s,H_⟩,λh=>by omega⟩ ?_ ?_
 .exact L_
 rintro i f a ⟨hi,x,hol,hA,hB⟩;refine S<|U aA<|Y aA<|Y (gL U_)<|V H7<|Cn ?_ ?_<;>intro o
 .have d:i<=N s:=I_ o
  have ⟨k,g⟩:=hA d;have j:aZ s i=((pI s i).toNat:Int):=tY s i;refine aB<|S<|aE<|S<|aT (t:=21) (n:=11) (A_:=θ ((i:Int)=(N s:Int))||θ (aZ s i=32)) ?_ ?_
  .all_goals refine Y aA<|Y aA<|Y (gL U_)<|Y cF<|Dm ?_<;>(refine Sp 16 (λm=>?_) λm=>?_)<;>(first|exact s_|refine M<|M<|M<|M ?_|refine O aA<|O aA<|O (cK Z U_ Z Z X (l_ _) (J_ m) Z)<|O cF ?_)<;>refine V cD ?_<;>exact Gj (h:=by simp_all)
  refine Cn ?_ ?_<;>intro l
  .have t:i=N s\/aZ s i=32:=by have h:=l;rw[Bool.or_eq_true,k_,k_]at h;rcases h with h|h;exact .inl X;exact .inr h
   have ⟨w,q⟩:∃w,w=a_ ((s.data.toList.drop f).take (i - f)):=X_;have z:s.extract f i=w:=by rw[q];exact tn (by rw[gG,cG])
   have v:C (a++[w])=C a+1:=F_
   have B:(i+1<=N s->cS s=(a++[w])++oy s (i+1)/\(32:UInt8)∉(s.data.toList.drop (i+1)).take (i+1 - (i+1)))/\(i+1=N s+1->cS s=a++[w]):=by
    constructor
    .intro h;have u:pI s i=32:=by
      rcases t with e|e
      .omega
      rw[j]at e;exact UInt8.toNat_inj.1 G_
     refine⟨?_,F_⟩;rw[k,aAy x X u g,q,append_assoc];rfl
    intro h;have e:(s.data.toList.drop f).take (i - f)=s.data.toList.drop f:=take_of_length_le u6;rw[e]at g q;rw[k,Uj g,q]
   refine U aA<|Y aA<|Y aA<|Y aA<|Y (by exact bM (l:=f) (h:=i) Z U_ Z Z Z x d z)<|Y (by exact aL [S_ w] Z aY Z Z Z Z Z R_)<|Y (by exact bW (ps:=[S_ w]) Z aY sW Z Z Z Z Z (ZZ _) Z R_ (m:=1) Z X Z (Z1 _ w))<|V aH<|Rd aA<|Y iD<|V aH<|Rd aA<|Y iD<|Da ?_;refine⟨i+1,i+1,a++[w],⟨X,h_ _,X,B.1,B.2⟩,X,?_⟩;rw[v];exact(cH.wk (Eb<|Ea<|Eb<|Eb<|T_) (Hc (mG _ _)<|T_) T_)
  have t:i<N s/\aZ s i≠32:=by have h:=l;rw[q_,q7,q7]at h;exact⟨X,h.2⟩
  have u:pI s i≠32:=λe=>t.2 (by rw[j,e];rfl);have n:=Wz x t.1 u g;refine aB<|Rd aA<|Y iD<|Da ?_;exact⟨i+1,f,a,⟨X,X,X,λ_=>⟨k,n⟩,λh=>by omega⟩,X,L_⟩
 have d:i=N s+1:=J_ o
 have y:=hB d;rw[y];refine aP<|U aA<|V aH<|aC ?_;refine cT (H':=[]) (.inr Z) Z (aI Z) (Fin.fz (id:=906) (a.map S_) Z (Kl _) (.osl (lC S_ _)) Z T_ T_) ?_;exact Qq
end Go.Proofs.C
