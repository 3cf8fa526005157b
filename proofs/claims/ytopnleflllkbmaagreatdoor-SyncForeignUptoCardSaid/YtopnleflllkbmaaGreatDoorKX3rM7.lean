/-
  Parts of the proof. Conditions: each theorem's own.
-/
import Derived.Test.YtopnleflllkbmaaGreatDoorKX3rM6
set_option linter.unusedVariables false
set_option linter.unusedSimpArgs false
set_option maxRecDepth 100000
set_option maxHeartbeats 8000000
open List Nat
namespace Go.Proofs
open Tryz
theorem jU:type_of% isAgg68:=isAgg68
theorem iJ:type_of% isAgg70:=isAgg70
end Go.Proofs
namespace Go.Proofs.YtopnleflllkbmaaGreatDoor
open Go.Proofs.Tryz
open Go.Abs Go.Lib
variable{n:Nat}{i s a c t:B_}{l:List UInt8}{b:UInt8}
theorem Eg(a:List B_)(H:aF)(id g:Nat)(i:H.get id=some ⟨g,1,9,T5 a⟩)(hb:cX a+a.length<2^40):RC 221 [.osl id g 0 a.length] (sv (a_ (bT [32] (bs a)))) H:=by
 refine Bd func221 Z ntmps221<|Sz aI<|Sz aI<|S<|Sz aI<|aD<|bF (σ:=Nat) (λk=>([(0,.osl id g 0 a.length),(3,sv (a_ (bT [32] (bs (a.take k))))),(4,iv (k:Int))],H)) (λk=>k<=a.length) (λk=>a.length - k) 0 (l7 _) ?_ ?_
 ·exact E0
 rintro k hk;have hsz:(a_ (bT [32] (bs (a.take k)))).size<=cX a+a.length:=by
  rw[bZ];have o:=fT (a.take k);have p:=nV a k;have h3:(a.take k).length<=a.length:=F_
  omega
 refine S<|O aA<|Y aA<|Y (dS Z aE Z i Z)<|V cJ<|Cn ?_ ?_<;>intro h
 ·have e:k<a.length:=I_ h
  have ⟨w,m⟩:=aS e;have j:=YI m;have d:=BP m;have hws:w.size<=cX a:=by
   have o:=xP m;have p:=nV a (k+1);omega
  have h32:(⟨#[32]⟩:B_).size=1:=rfl;have hs2:(a_ (bT [32] (bs (a.take k)))++⟨#[32]⟩).size=(a_ (bT [32] (bs (a.take k)))).size+1:=zJ _ _;refine aB<|S<|aD<|S<|O aA<|V iP<|Cn ?_ ?_<;>intro f
  ·have n:0<k:=I_ f
   rw[b7 n]at d;refine Rd aA<|Y kq<|V aI<|Rd aA<|Y aA<|Y aA<|Y (dL Z bD Z i Z Z Z X x6 e (r9 _))<|Y (aX Z N_ Z i Z j Z)<|Y kq<|V aI<|Rd aA<|Y gX<|Da ?_;refine⟨k+1,X,X,?_⟩;rw[d];exact E0
  have n:¬ 0<k:=J_ f
  rw[a8 n]at d;refine aB<|Rd aA<|Y aA<|Y aA<|Y (dL Z bD Z i Z Z Z X x6 e (r9 _))<|Y (aX Z N_ Z i Z j Z)<|Y kq<|V aI<|Rd aA<|Y gX<|Da ?_;refine⟨k+1,X,X,?_⟩;rw[d];exact E0
 have l:k=a.length:=J_ h
 subst l;rw[take_length];refine aP<|O aA<|V aI<|aC<|cR (H':=H) (.inr Z) Z (aH Z) Fin.refl Qq
theorem U9{e}{a}(b:e.op≠1)(h:bs a=gM e):a_ (bT [32] (bs a))++⟨#[10]⟩=a_ (fM e++[10]):=yA b h
theorem w6{p:Prop}(h:p:=by simp only[cK,j7,length_nil];omega):p:=h
theorem Rr(e:b8)(H:aF)(N:US e)(I:fX e=true):RC 166 [av (bJ e)] (.tup [sv (a_ (fM e++[10])),bv (decide (fR e=0))]) H:=by
 refine Pu ?_;have ⟨⟨o1,o2⟩,o3,o4⟩:=uE.1 I;rw[wN]at o3;have hval:=IE I;have hs0:cX []=0:=rfl;refine Bd func166 Z ntmps166<|O (kb 1)<|Y aI<|V aI<|S<|O (bA iN)<|V (bQ M_)<|aD<|O cD<|Da<|Cn ?_ ?_<;>intro u
 ·have p:e.op=1:=b9 u;have hos:=MH (o:=e.obj);have n:(⟨#[112,117,116]⟩:B_).size=3:=rfl;have h10:(⟨#[10]⟩:B_).size=1:=rfl;have hjs:(a_ (bT [32] (bs [⟨#[112,117,116]⟩,(fD e.obj).1]))).size<=70000:=by
   rw[bZ];have:=fT [⟨#[112,117,116]⟩,(fD e.obj).1];simp only[cK,j7,length_nil]at this;omega
  have hout:a_ (bT [32] (bs [⟨#[112,117,116]⟩,(fD e.obj).1]))++⟨#[10]⟩=a_ (fM e++[10]):=pq (by
   rw[cG,fM,b7 p];simp[a_,bs,bT,wPut])
  refine O (bA uU)<|Y (by exact aW Z bW sizeOf135 Z Z Z Z (by simp only[Zl,bS,bP,S_,bJ,gP];rfl) Z)<|Y (kc call217 (CQ e.obj _ N.2.2))<|Y aA<|Y dK<|Y dK<|Y aI<|V aI<|O aA<|Y (aK [S_ ⟨#[112,117,116]⟩,S_ (fD e.obj).1] Z bD Z Z Z Z Z (iZ [⟨#[112,117,116]⟩,(fD e.obj).1]))<|Y (kc call221 (FN [⟨#[112,117,116]⟩,(fD e.obj).1] _ w6))<|Y (fC Z Z Z X hout)<|Y aA<|Y cD<|Y aI<|V aI<|aC<|Ru ?_;rw[show fR e=(fD e.obj).2 from b7 p];exact Qq
 have p:e.op≠1:=b_ u;rw[a8 p,k_]at o3;have ⟨c_,o6⟩:=o3;have hid:=dI c_;refine O cD<|Da<|Cn ?_ ?_<;>intro hc2
 ·have m:e.op=2:=b9 hc2;rw[b7 m,nj,k_,j0,j0]at o6;have o_:0<=e.x/\e.x<1048576:=X
  have K:0<=e.y/\e.y<1048576:=X
  have Yp:(aT e.x).size<=7:=by rw[<-aR];show (Lib.itoa e.x).length<=7;rw[jX _ o_.1];exact cV X E_
  have siy:(aT e.y).size<=7:=by rw[<-aR];show (Lib.itoa e.y).length<=7;rw[jX _ K.1];exact cV X E_
  have k:(⟨#[109,111,118,101]⟩:B_).size=4:=rfl;have l:bs [⟨#[109,111,118,101]⟩,e.id,aT e.x,aT e.y]=gM e:=by
   rw[gM]
   (rw[b7 m];rfl)
  have hne:e.op≠1:=X
  have hjs:(a_ (bT [32] (bs [⟨#[109,111,118,101]⟩,e.id,aT e.x,aT e.y]))).size<=70000:=by
   rw[bZ];have:=fT [⟨#[109,111,118,101]⟩,e.id,aT e.x,aT e.y];simp only[cK,j7,length_nil]at this;omega
  have h10:(⟨#[10]⟩:B_).size=1:=rfl;refine S<|aM a7<|Cq (bA jO)<|Cq (bQ N_)<|Cq (bA jE)<|Cq (bA mM)<|Cq (bQ M_)<|Cq (kc call222 (O1 e.x _ X X))<|Cq (bA jE)<|Cq (bA mL)<|Cq (bQ M_)<|Cq (kc call222 (O1 e.y _ X X))<|Cq (aK (([⟨#[109,111,118,101]⟩,e.id,aT e.x,aT e.y]:List B_).map S_) Z bD Z Z Z Z Z (iZ _))<|Cq (kc call221 (FN [⟨#[109,111,118,101]⟩,e.id,aT e.x,aT e.y] _ w6))<|Cq kq<|Cq aI<|Cq aI<|bG<|Kr<|aC<|Ru ?_;rw[U9 hne l,show fR e=0 from a8 hne];exact Qq
 have m:e.op≠2:=b_ hc2;rw[a8 m]at o6;refine O cD<|Da<|Cn ?_ ?_<;>intro hc3
 ·have n:e.op=3:=b9 hc3;rw[b7 n,k_,j0]at o6;have hks:=dI o6.1;have hq:=rB e.val;have k:(⟨#[116,97,103]⟩:B_).size=3:=rfl;have l:bs [⟨#[116,97,103]⟩,e.id,e.key,⟨(cW e.val.data.toList).toArray⟩]=gM e:=by
   rw[gM]
   (rw[a8 m,b7 n];rfl)
  have hne:e.op≠1:=X
  have hjs:(a_ (bT [32] (bs [⟨#[116,97,103]⟩,e.id,e.key,⟨(cW e.val.data.toList).toArray⟩]))).size<=70000:=by
   rw[bZ];have:=fT [⟨#[116,97,103]⟩,e.id,e.key,⟨(cW e.val.data.toList).toArray⟩];simp only[cK,j7,length_nil]at this;omega
  have h10:(⟨#[10]⟩:B_).size=1:=rfl;refine S<|aM a7<|Cq (bA jO)<|Cq (bQ N_)<|Cq (bA nN)<|Cq (bQ N_)<|Cq (bA oP)<|Cq (bQ N_)<|Cq (kc call223 (LZ e.val _ X))<|Cq (aK (([⟨#[116,97,103]⟩,e.id,e.key,⟨(cW e.val.data.toList).toArray⟩]:List B_).map S_) Z bD Z Z Z Z Z (iZ _))<|Cq (kc call221 (FN [⟨#[116,97,103]⟩,e.id,e.key,⟨(cW e.val.data.toList).toArray⟩] _ w6))<|Cq kq<|Cq aI<|Cq aI<|bG<|Kr<|aC<|Ru ?_;rw[U9 hne l,show fR e=0 from a8 hne];exact Qq
 have n:e.op≠3:=b_ hc3;rw[a8 n]at o6;refine O cD<|Da<|Cn ?_ ?_<;>intro q
 ·have o:e.op=4:=b9 q;rw[b7 o,k_,k_,j0,j0,all_eq_true]at o6;have ⟨⟨r1,r2⟩,P⟩:=o6;have hrs:cX e.refs<=24*e.refs.length:=pA (λs e_=>dI (P s e_));have k:(⟨#[114,101,102,115]⟩:B_).size=4:=rfl;have F:∀H,H.get 901=some ⟨1,1,9,T5 (⟨#[114,101,102,115]⟩::e.id::e.refs)⟩->RC 221 [.osl 901 1 0 (⟨#[114,101,102,115]⟩::e.id::e.refs).length] (sv (a_ (bT [32] (bs (⟨#[114,101,102,115]⟩::e.id::e.refs))))) H:=λH L=>Eg _ H 901 1 L (by simp only[cK,j7];omega);have l:bs (⟨#[114,101,102,115]⟩::e.id::e.refs)=gM e:=by rw[gM,a8 m,a8 n,b7 o];rfl
  have hjs:(a_ (bT [32] (bs (⟨#[114,101,102,115]⟩::e.id::e.refs)))).size<=70000:=by
   rw[bZ];have:=fT (⟨#[114,101,102,115]⟩::e.id::e.refs);simp only[cK,j7]at this;omega
  have h10:(⟨#[10]⟩:B_).size=1:=rfl;have G:(e.refs.map S_).length=e.refs.length:=j6 _;have hrw:T5 [⟨#[114,101,102,115]⟩,e.id]++(e.refs.map S_).map (·.map .pv)=T5 (⟨#[114,101,102,115]⟩::e.id::e.refs):=by rw[<-Gx];rfl
  refine O (bA jO)<|Y (bQ N_)<|Y (gN (id:=901) Z bD Z Z Z Z F_ Z)<|Y (bA iM)<|Y (bQ aG)<|Y (cA (ps:=e.refs.map S_) Z bD yJ Z Z Z Z Z Z Z (iZ e.refs) (m:=e.refs.length) G X (Nat.add_comm 2 _:2+e.refs.length=(⟨#[114,101,102,115]⟩::e.id::e.refs).length) hrw)<|Y (kc call221 (F _ Z))<|Y kq<|Y aI<|V aI<|aC<|Ru ?_;rw[U9 p l,show fR e=0 from a8 p];exact Qq
 have o:e.op≠4:=b_ q;rw[a8 o]at o6;refine O cD<|Da<|Cn ?_ ?_<;>intro v
 ·have t:e.op=5:=b9 v;have k:(⟨#[100,114,111,112]⟩:B_).size=4:=rfl;have l:bs [⟨#[100,114,111,112]⟩,e.id]=gM e:=by
   rw[gM]
   (rw[a8 m,a8 n,a8 o,b7 t];rfl)
  have hne:e.op≠1:=X
  have hjs:(a_ (bT [32] (bs [⟨#[100,114,111,112]⟩,e.id]))).size<=70000:=by
   rw[bZ];have:=fT [⟨#[100,114,111,112]⟩,e.id];simp only[cK,j7,length_nil]at this;omega
  have h10:(⟨#[10]⟩:B_).size=1:=rfl;refine O (bA jO)<|Y (bQ N_)<|Y (aK (([⟨#[100,114,111,112]⟩,e.id]:List B_).map S_) Z bD Z Z Z Z Z (iZ _))<|Y (kc call221 (FN [⟨#[100,114,111,112]⟩,e.id] _ w6))<|Y kq<|Y aI<|V aI<|aC<|Ru ?_;rw[U9 hne l,show fR e=0 from a8 hne];exact Qq
 have t:e.op≠5:=b_ v;rw[a8 t]at o6;refine O cD<|Da<|Cn ?_ ?_<;>intro hc6
 ·have h6:e.op=6:=b9 hc6;rw[b7 h6,k_]at o6;have hns:=dI o6.1;have hos:=dI o6.2;have k:(⟨#[115,112,108,105,116]⟩:B_).size=5:=rfl;have l:bs [⟨#[115,112,108,105,116]⟩,e.id,e.node,e.other]=gM e:=by
   rw[gM]
   (rw[a8 m,a8 n,a8 o,a8 t,b7 h6];rfl)
  have hne:e.op≠1:=X
  have hjs:(a_ (bT [32] (bs [⟨#[115,112,108,105,116]⟩,e.id,e.node,e.other]))).size<=70000:=by
   rw[bZ];have:=fT [⟨#[115,112,108,105,116]⟩,e.id,e.node,e.other];simp only[cK,j7,length_nil]at this;omega
  have h10:(⟨#[10]⟩:B_).size=1:=rfl;refine O (bA jO)<|Y (bQ N_)<|Y (bA qQ)<|Y (bQ N_)<|Y (bA kM)<|Y (bQ N_)<|Y (aK (([⟨#[115,112,108,105,116]⟩,e.id,e.node,e.other]:List B_).map S_) Z bD Z Z Z Z Z (iZ _))<|Y (kc call221 (FN [⟨#[115,112,108,105,116]⟩,e.id,e.node,e.other] _ w6))<|Y kq<|Y aI<|V aI<|aC<|Ru ?_;rw[U9 hne l,show fR e=0 from a8 hne];exact Qq
 have h6:e.op≠6:=b_ hc6;rw[a8 h6]at o6;have hos:=dI o6;have k:(⟨#[106,111,105,110]⟩:B_).size=4:=rfl;have l:bs [⟨#[106,111,105,110]⟩,e.id,e.other]=gM e:=by
  rw[gM]
  (rw[a8 m,a8 n,a8 o,a8 t,a8 h6];rfl)
 have hne:e.op≠1:=X
 have hjs:(a_ (bT [32] (bs [⟨#[106,111,105,110]⟩,e.id,e.other]))).size<=70000:=by
  rw[bZ];have:=fT [⟨#[106,111,105,110]⟩,e.id,e.other];simp only[cK,j7,length_nil]at this;omega
 have h10:(⟨#[10]⟩:B_).size=1:=rfl;refine aB<|O (bA jO)<|Y (bQ N_)<|Y (bA kM)<|Y (bQ N_)<|Y (aK (([⟨#[106,111,105,110]⟩,e.id,e.other]:List B_).map S_) Z bD Z Z Z Z Z (iZ _))<|Y (kc call221 (FN [⟨#[106,111,105,110]⟩,e.id,e.other] _ w6))<|Y kq<|Y aI<|V aI<|aC<|Ru ?_;rw[U9 hne l,show fR e=0 from a8 hne];exact Qq
theorem RA(l:List b8)(H:aF)(d_:l.length<2^40)(z:∀e∈l,US e)(B:∀e∈l,e.refs.length<2^40):RC 110 [.pv (kD l)] (.tup [sv (dW l).1,iv (dW l).2]) H:=by
 refine Pu ?_;have hml:(l.map bJ).length=l.length:=j6 _;refine Bd func110 Z ntmps110<|O aI<|V aI<|S<|O aA<|Y (kc call165 (yy l _ d_ z B))<|V iI<|Cn ?_ ?_<;>intro p
 ·have t:lG l=false:=by have h:=p;rwa [r8]at h
  rw[show dW l=(a6,1)by rw[dW,t];rfl];exact O aI<|V aI<|aC<|Ru<|Qq
 have t:lG l=true:=by have h:=p;rwa [Bool.not_eq_false']at h
 have A:=(NY t).2.2;have y:dW l=(a_ (rJ [] l).1,(rJ [] l).2):=by rw[dW,t];rfl
 refine aB<|Sz aI<|S<|Sz aI<|aD<|bF (σ:=Nat) (λk=>([(0,.pv (kD l)),(4,sv (a_ (pV l k))),(5,iv (k:Int))],[])) (λk=>k<=l.length/\rJ [] l=rJ (pV l k) (l.drop k)/\(pV l k).length<=20000) (λk=>l.length - k) 0 ⟨l7 _,Z,l7 _⟩ ?_ ?_
 ·exact Wk
 rintro k ⟨hk,i,hA⟩;refine S<|O aA<|Y aA<|Y (fW eW)<|V cJ<|Cn ?_ ?_<;>intro o
 ·have m:k<l.length:=I_ o
  have ⟨e,n⟩:=aS m;have hi:=cE (f:=bJ) n;have j:=m8 n;have c:=XV n;have hYl:=WR (A e j);have u:l.drop k=e::l.drop (k+1):=by
   rw[drop_eq_getElem_cons m]
   simp_all
  rw[u,rJ]at i;have hsA:(a_ (pV l k)).size=(pV l k).length:=bZ _;have hsz:(a_ (fM e++[10])).size=(fM e).length+1:=by rw[bZ,j_];rfl
  have x:a_ (pV l k)++a_ (fM e++[10])=a_ (pV l (k+1)):=pq (by
   rw[show (a_ (pV l k)++a_ (fM e++[10])).data.toList=(a_ (pV l k)).data.toList++(a_ (fM e++[10])).data.toList by simp,cG,cG,cG,c])
  have hsB:(a_ (pV l (k+1))).size=(pV l (k+1)).length:=bZ _;refine aB<|S<|aD<|O aA<|Y aA<|Y (iO ca)<|Y (by exact fA Z cU aZ Z X (by simp only[Zl,bS,bP,S_,bJ,gP];rfl) Z)<|Y (kc call166 (Rr e _ (z e j) (A e j)))<|Y aA<|Y dK<|Y dK<|Y aI<|V aI<|O aA<|Y aA<|Y (fC Z Z Z X x)<|V aI<|S ?_;refine aQ (t:=34) (n:=8) (A_:=!decide (fR e=0)||decide ((20000:Int)<((a_ (pV l (k+1))).size:Int))) ?_ ?_
  ·all_goals refine Y aA<|Y iI<|Dm ?_<;>(refine Sp 30 (λw=>?_) λw=>?_)<;>(first|exact s_|refine M<|M<|M ?_|refine U aA<|U (gE U_)<|U iP ?_)<;>refine V cC ?_<;>exact Gj (h:=by simp_all)
  refine Cn ?_ ?_<;>intro s
  ·have q:fR e≠0\/20000<(pV l k++(fM e++[10])).length:=by have h:=s;rw[<-c];simp only[Bool.or_eq_true,r8,p_,j0]at h;omega
   rw[b7 q]at i;rw[y,i];exact O aI<|V aI<|aC<|Ru<|Qq
  have f:¬ (fR e≠0\/20000<(pV l k++(fM e++[10])).length):=by have h:=s;rw[<-c];simp only[q8,Bool.not_eq_false',p_,j0]at h;omega
  rw[a8 f,<-c]at i;rw[<-c]at f;refine aB<|Rd aA<|Y gX<|Da ?_;exact⟨k+1,⟨m,i,X⟩,X,Wk⟩
 have v:k=l.length:=J_ o
 subst v;rw[drop_length,rJ]at i;rw[y,i];exact aP<|O aA<|Y aI<|V aI<|aC<|Ru<|Qq
theorem BQ(n:Nat):aT n=a_ (decDigits n):=mS (Z)
theorem BY(x)(a:0<=x)(h1:x<9223372036854775808)(H):RC 84 [iv x] (sv (aT x)) H:=by obtain ⟨n,rfl⟩:=Int.eq_ofNat_of_zero_le a;exact QY n X H
def ZT(r:j8):List B_:=[GN,aT r.kind,aT r.author,aT r.number,aT r.clock,r.branch,aT (r.parents.length:Int)]
def aCz(r:j8)(T:B_):List B_:=[T,r.target,aT (if r.yes then 1 else 0),aT r.order,r.from']
def Li(r:j8)(T y:B_):List B_:=[T,r.target,y,aT r.order,r.from']
theorem zf(r):wJ r=(ZT r++r.parents)++aCz r (jW r.edits).1:=rfl
theorem Jb{r}(h:VF r):0<=r.order/\r.order<=4:=by
 rw[h.od,Cy]
 split
 ·next a =>
  have:=h.k;rw[MQ,b7 a,mH,k_,j0,j0]at this;omega
 omega
theorem HM{α:Type}(f:α->List PV)(l:List _){n}(h:l.length=n):((l.map f).take (0+n)).drop 0=l.map f:=by rw[<-h];exact iW f l
theorem fY(l:List _):∀r∈l.map S_,r.length=1:=by intro r a;obtain ⟨s,_,rfl⟩:=mem_map.1 a;rfl
theorem Av(r:j8)(B:nF r)(j:VF r)(A:∀e∈r.edits,e.refs.length<2^40):aU Tryz.prog 70 [av (dX r)] [] (λx H'=>x=.osl 971 2 0 (wJ r).length/\H'=[(971,⟨2,1,9,cB (wJ r)⟩)]):=by
 have hk:=BO j.k;have hau:=j.au;have hnu:=j.nu;have hcl:=j.cl;have hod:=Jb j;have hpl:=j.pal;have n:(r.parents.map S_).length=r.parents.length:=j6 _;have hme:(r.edits.map bJ).length=r.edits.length:=j6 _;have p:=λH=>BY r.kind X X H;have w:=λH=>BY r.author X X H;have q:=λH=>BY r.number X X H;have o:=λH=>BY r.clock X X H;have v:∀H,RC 84 [iv ((r.parents.map S_).length:Int)] (sv (aT (r.parents.length:Int))) H:=λH=>by
  rw[n];exact BY (r.parents.length:Int) X X H
 have z:=λH=>BY r.order X X H;have t:=λH=>RA r.edits H B.2.2.2.1.1 B.2.2.2.1.2 A;have s:cB (ZT r)++(r.parents.map S_).map (·.map AV.pv)=cB (ZT r++r.parents):=iV _ _;rw[zf];obtain ⟨T,i⟩:∃T,T=(jW r.edits).1:=X_;rw[<-i];rw[jW]at i;refine Bd func70 Z ntmps70 ?_;have u:(cB (ZT r++r.parents)).length=7+r.parents.length:=by rw[cB,j6,j_];rfl
 refine O (kb 1)<|V aI<|S<|aM a7<|Cr [1] (λ_ h=>fh oH h)<|Cr [1] (λ_ h=>lh M_ h)<|Cr [] (λg d=>by exact bH Z Z gR Z (p _))<|Cr [1] (λ_ h=>fh E9 h)<|Cr [1] (λ_ h=>lh M_ h)<|Cr [] (λg d=>by exact bH Z Z gR Z (w _))<|Cr [1] (λ_ h=>fh AN h)<|Cr [1] (λ_ h=>lh M_ h)<|Cr [] (λg d=>by exact bH Z Z gR Z (q _))<|Cr [1] (λ_ h=>fh E8 h)<|Cr [1] (λ_ h=>lh M_ h)<|Cr [] (λg d=>by exact bH Z Z gR Z (o _))<|Cr [1] (λ_ h=>fh C9 h)<|Cr [1] (λ_ h=>lh N_ h)<|Cr [1] (λ_ h=>fh oG h)<|Cr [1] (λ_ h=>lh aG h)<|Cr [] (λ_ _=>(fW aE))<|Cr [] (λg d=>by exact bH Z Z gR Z (v _)) ?_;refine Cp [971] (λg d=>by exact gN (id:=971) Z bD Z Z Z Z (by simp_all) ((d _ Z).trans Z))<|Cr [971] (λ_ _=>aI)<|bG<|Kr<|O aA<|Y (bA oG)<|Y (bQ aG)<|Y (by exact cA (k:=7+r.parents.length) (ps:=r.parents.map S_) Z bD yJ Z Z Z Z Z Z Z (fY _) (m:=r.parents.length) n (by omega) Z s)<|V aI<|Sr<|Da ?_;refine eK (λ(_:Unit)=>([(1,.ref 1 0 0 0),(3,.osl 971 1 0 (7+r.parents.length)),(4,sv T)],[(1,bx 21 53 ((dX r).map .pv)),(971,⟨1,1,9,cB (ZT r++r.parents)⟩)])) (λ_=>True) ?_ ?_
 ·refine O (bA C8)<|Y (bQ oV)<|Y (fW eW)<|V iP<|Cn ?_ ?_<;>intro l
  ·have f:0<r.edits.length:=I_ l
   rw[a8 X]at i;subst i;refine Rd (bA C8)<|Y (bQ oV)<|Y (kc call110 (t _))<|Y aA<|Y dK<|Y dK<|Da ?_;exact⟨(),T_,(cL.wk (Ea<|Ea<|Eb<|T_) (Hb<|Hc (aV _ _)<|T_) T_)⟩
  have f:r.edits.length=0:=J_ l
  rw[b7 f]at i;subst i;refine aB ?_;exact⟨(),T_,(cL.wk (Ea<|Ea<|Eb<|T_) (Hb<|Hc (aV _ _)<|T_) T_)⟩
 rintro _ -;refine Sr<|Da<|eK (λ(y:B_)=>([(1,.ref 1 0 0 0),(3,.osl 971 1 0 (7+r.parents.length)),(4,sv T),(5,sv y)],[(1,bx 21 53 ((dX r).map .pv)),(971,⟨1,1,9,cB (ZT r++r.parents)⟩)])) (λy=>y=aT (if r.yes then 1 else 0)) ?_ ?_
 ·refine O (bA IH)<|V (bQ nA)<|Cn ?_ ?_<;>intro k
  ·have m:(⟨#[49]⟩:B_)=aT (if r.yes then 1 else 0):=by rw[k];kernel_rfl
   refine Rg<|Da ?_;exact⟨_,m,(cL.wk (Ea<|Ea<|Eb<|Eb<|T_) (Hb<|Hc (aV _ _)<|T_) T_)⟩
  have m:(⟨#[48]⟩:B_)=aT (if r.yes then 1 else 0):=by rw[k];kernel_rfl
  refine aB ?_;exact⟨_,m,(cL.wk (Ea<|Ea<|Eb<|Eb<|T_) (Hb<|Hc (aV _ _)<|T_) T_)⟩
 rintro y m;rw[show aCz r T=Li r T y by rw[m];rfl];refine S<|aM a7<|Cr [971] (λ_ _=>aA)<|Cr [] (λ_ _=>aA)<|Cr [1] (λ_ h=>fh C7 h)<|Cr [1] (λ_ h=>lh N_ h)<|Cr [] (λ_ _=>aA)<|Cr [1] (λ_ h=>fh yH h)<|Cr [1] (λ_ h=>lh M_ h)<|Cr [] (λg d=>by exact bH Z Z gR Z (z _))<|Cr [1] (λ_ h=>fh wX h)<|Cr [1] (λ_ h=>lh N_ h)<|Cr [] (λg d=>by exact aK ((Li r T y).map S_) Z bD Z Z Z Z Z (fY _))<|Cp [971] (λg d=>by exact cA (ob:=⟨1,1,9,cB (ZT r++r.parents)⟩) (k:=((ZT r++r.parents)++Li r T y).length) (ps:=(Li r T y).map S_) Z bD yJ Z ((d _ Z).trans Z) Z Z Z u Z (fY _) (m:=5) Z X (by rw[j_,j_];rfl) (by exact iV _ _))<|Cr [971] (λ_ _=>aI)<|bG<|Kr<|aC ?_;refine cR (H':=[(971,⟨2,1,9,cB ((ZT r++r.parents)++Li r T y)⟩)]) (.inr Z) Z (aH Z) (Fin.wk (by(simp;rfl)) (Hc (aV _ _)<|T_) T_) ?_;exact Qq
theorem IL{v k:Nat}(h:10 ^ k<=v):k<(decDigits v).length:=by
 induction k generalizing v with
 |zero=>exact length_pos_iff.2 (nO v)
 |succ k b =>
  rw[Nat.pow_succ]at h;have hp:0<10 ^ k:=Nat.pow_pos E_;have a:¬ v<10:=X
  rw[decDigits,dif_neg a,j_];have:=b (v:=v / 10) X;simp only[j7,length_nil];omega
def eJ(s:B_):Int:=if vK s=false/\0<=jP s/\s.size<=6/\aT (jP s)=s then jP s else -1
theorem F6{n:Int}(c:0<=n)(h1:n<1000000):eJ (aT n)=n:=by
 have ⟨a,b⟩:=TN c X;have d:(aT n).size<=6:=by
  obtain ⟨k,rfl⟩:∃k:Nat,n=(k:Int):=⟨n.toNat,X⟩;rw[BQ,bZ];exact cV (k:=6) X E_
 rw[eJ,b7 (by rw[a,b];exact⟨Z,c,d,Z⟩),b]
theorem F5(s:B_): -1<=eJ s/\eJ s<1000000:=by
 rw[eJ]
 split
 ·next h =>
  have ⟨h1,h2,h3,a⟩:=h;refine⟨X,?_⟩;have ⟨k,c⟩:∃k:Nat,jP s=(k:Int):=⟨(jP s).toNat,X⟩;rw[c]at a |-;rw[BQ]at a;have hd:=jI k;have b:(decDigits k).length<=6:=by have:=congrArg ByteArray.size a;rw[bZ]at this;omega
  by_cases hb:k<1000000
  ·omega
  exact absurd b (by have:=IL (v:=k) (k:=6) X;omega)
 omega
def qX(l:List UInt8):Bool:=!decide ((58:UInt8)∈l)||decide (eJ (a_ (B8 l))<0)||decide (((DV l).length:Int)<eJ (a_ (B8 l)))
def X7(l:List UInt8):Nat:=(eJ (a_ (B8 l))).toNat
def pL(l:List UInt8):Option (List B_) :=if h:l=[]then some []else if qX l=true then none else(pL ((DV l).drop (X7 l))).map (a_ ((DV l).take (X7 l))::·)
termination_by l.length
decreasing_by
 have h1:=length_pos_iff.2 h;have h2:=(dropWhile_sublist (l:=l) λb=>!decide (b=58)).length_le;rw[q6,DV,q6];omega
theorem tV:∀(L:List B_),(∀s∈L,s.size<1000000)->pL (aN L)=some L
 | [],_=>by rw[show aN []=[]from Z,pL,dif_pos rfl]
 | x::L,h=>by
  have hx:=h x mem_cons_self;have ⟨d,b⟩:=gz (r:=x.data.toList++aN L) (TA x.size);rw[<-iB]at d b;have c:eJ (a_ (B8 (aN (x::L))))=(x.size:Int):=by rw[d,<-BQ,F6 X X]
  have a:(58:UInt8)∈aN (x::L):=by rw[iB];simp
  have g:qX (aN (x::L))=false:=by
   rw[qX,c,b,decide_eq_true a,decide_eq_false X,decide_eq_false (by rw[j_,aR];omega)];rfl
  have hN:X7 (aN (x::L))=x.size:=by rw[X7,c,l_]
  rw[pL,dif_neg (λe=>by rw[e]at a;cases a),a8 (by rw[g];decide),hN,b,drop_left' (aR x),take_left' (aR x),tV L λs f=>h s (mem_cons_of_mem _ f),fQ];rfl
def xA(p x:B_):Bool:=p.data.toList.isPrefixOf x.data.toList
def kE(ids:List B_)(p:B_):List B_:=ids.filter (xA p)
structure l8 where
 pre:B_
 cnt:Nat
 sum:B_
 ids:List B_
variable{p:l8}
def eG(ids:List B_)(p:B_):l8:=⟨p,(kE ids p).length,yM (kE ids p),if(kE ids p).length<=16 then kE ids p else[]⟩
def iS(p:l8):List B_:=[p.pre,aT (p.cnt:Int),p.sum]++p.ids
def eZ:B_:=⟨#[111,102,102,101,114]⟩
def oK:B_:=⟨#[119,97,110,116]⟩
def BK(L:List (List B_)):B_:=a_ (aN (eZ::aT (L.length:Int)::L.flatten))
def qI(L:List (List B_)):B_:=a_ (aN (oK::L.flatten))
def rV(s:B_):Bool:=decide (s.size<=16)&&s.data.toList.all vT
def AI(p:B_):List B_->Bool
 | []=>true
 | [x]=>m6 x&&xA p x
 |x::y::r=>m6 x&&xA p x&&lA x y&&AI p (y::r)
def T6:Nat->List B_->Option (List l8)
 |_,[]=>some []
 | n + 1, a :: b :: c :: r =>
  if (rV a && decide (0 <= eJ b) && m6 c) = true then
   if eJ b<=16 then
    if eJ b<=(r.length:Int)/\AI a (r.take (eJ b).toNat)=true/\yM (r.take (eJ b).toNat)=c then
     (T6 n (r.drop (eJ b).toNat)).map (⟨a,(eJ b).toNat,c,r.take (eJ b).toNat⟩::·)
    else none
   else(T6 n r).map (⟨a,(eJ b).toNat,c,[]⟩::·)
  else none
 |_,_=>none
def xV(t:B_):List l8:=match pL t.data.toList with
 |some (o::n::r)=>if o=eZ then(match T6 r.length r with|some P=>if(P.length:Int)=eJ n then P else[]|none=>[])else[]
 |_=>[]
def vP(t:B_):List B_:=match pL t.data.toList with
 |some (o::i::r)=>if o=oK/\(i::r).all m6=true then i::r else[]
 |_=>[]
theorem cN.eqv{P}{N}{o}{E}{H H'}{v a}(h:cN P N o E H v H')(e:v=a):cN P N o E H a H':=e▸h
theorem Yv(x)(hx:x<18446744073709551616)(H):RC 140 [uv x] (uv (OD x)) H:=by refine Pu ?_;refine Bd func140 Z ntmps140<|Sz aI<|O aA<|Y (oL Z Z Z (show IntKind.u64.wrap _=((Ac x):Int)by rfl))<|V aI<|O aA<|Y aA<|Y (F2 Z Z Z H_ E_ (Ge _ 32 Z))<|Y (pE Z H_ Z Z (bits_xor_u64_nat _ _ (F9 x) (yL 32 (F9 x))))<|V aI<|O aA<|Y (oL Z Z Z (show IntKind.u64.wrap _=((Ab x:Nat))by rfl))<|V aI<|O aA<|Y aA<|Y (F2 Z Z Z H_ E_ (Ge _ 29 Z))<|Y (pE Z H_ Z Z (bits_xor_u64_nat _ _ (F8 x) (yL 29 (F8 x)))) ?_;exact V aI<|aC<|Rt<|Qq
def G9(b:Int):Prop:=(48<=b/\b<=57)\/(97<=b/\b<=102)
theorem wa(b:Int)(j:G9 b)(H:aF):RC 83 [.pv (.int .u8 b)] (iv (if b<=57 then b - 48 else b - 87)) H:=by
 refine Pu ?_;have f:∀ {p:Prop} [Decidable p],p->AV.pv (.bool (decide p))=bv true:=λh=>by simp_all
 have k:∀ {p:Prop} [Decidable p],¬ p->AV.pv (.bool (decide p))=bv false:=λh=>by simp_all
 by_cases d:b<=57
 ·have c:48<=b:=by rcases j with h|h<;>omega
  rw[b7 d];refine Bd func83 Z ntmps83<|Sz aI<|S<|O aA<|Y (cN.eqv (jL Z Z Z) (f c))<|Y aA<|U aA<|U (cN.eqv (oM Z Z Z) (f d))<|V cC<|Cn ?_ ?_<;>intro e
  ·exact O aA<|Y (by exact dM Z Z Z (show IntKind.u8.wrap (b - 48)=b - 48 by rw[IntKind.wrap_u8];omega))<|Y (eE Z cZ underlying3 Z (mE X X))<|V aI<|aC<|Rt<|Qq
  cases e
 have c:97<=b/\b<=102:=by rcases j with h|h<;>omega
 have i:48<=b:=X
 rw[a8 d];refine Bd func83 Z ntmps83<|Sz aI<|S<|O aA<|Y (cN.eqv (jL Z Z Z) (f i))<|Y aA<|U aA<|U (cN.eqv (oM Z Z Z) (k d))<|V cC<|Cn ?_ ?_<;>intro e
 ·cases e
 refine aB<|S<|O aA<|Y (cN.eqv (jL Z Z Z) (f c.1))<|Y aA<|U aA<|U (cN.eqv (oM Z Z Z) (f c.2))<|V cC<|Cn ?_ ?_<;>intro g
 ·exact O aA<|Y (by exact dM Z Z Z (show IntKind.u8.wrap (b - 97)=b - 97 by rw[IntKind.wrap_u8];omega))<|Y (eE Z cZ underlying3 Z (mE X X))<|Y (by exact dB Z Z Z (show IntKind.i64.wrap (b - 97+10)=b - 87 by rw[mE X X];omega))<|V aI<|aC<|Rt<|Qq
 cases g
abbrev HX:B_:=⟨#[48,49,50,51,52,53,54,55,56,57,97,98,99,100,101,102]⟩
instance (b:Int):Decidable (G9 b):=by unfold G9;infer_instance
theorem aAb:∀q:Fin 16,G9 (aY HX q.1):=E_
theorem aA8{q}(h:q<16):(HX.extract q (q+1)).size=1/\G9 (aY (HX.extract q (q+1)) 0):=by
 refine⟨by rw[ByteArray.size_extract];have:HX.size=16:=rfl;omega,?_⟩;have e:aY (HX.extract q (q+1)) 0=aY HX q:=by
  unfold aY
  simp_all
 rw[e];exact aAb ⟨q,h⟩
theorem Sc{l}{i}{b}(hi:i<8)(a:l[i]?=some b):(mP l)[i]?=some b:=by rw[mP,getElem?_append_left G_,getElem?_take_of_lt hi,a]
theorem It{l}{i}(hi:i<8)(hl:l.length<=i):(mP l)[i]?=some 0:=by rw[mP,getElem?_append_right G_,getElem?_replicate,b7 G_]
theorem To(D i)(hi:i<16):D / 16 ^ i % 16=UW D (15 - i):=by rw[UW,show 60 - 4*(15 - i)=4*i by omega,Nat.pow_mul]
theorem aA9:∀q:Fin 16,(HX.extract q.1 (q.1+1)).data.toList=[UInt8.ofNat (wU q.1).toNat]:=λq=>by
 revert q;decide
theorem fk(D):(BT D).length=16:=rfl
theorem Kz(D){i}(h:i<16):(BT D)[i]?=some (UInt8.ofNat (wU (UW D i)).toNat):=by rw[BT,r7,getElem?_range h];rfl
theorem Kx(D){i}(h:i<16):HX.extract (D / 16 ^ i % 16) (D / 16 ^ i % 16+1)++a_ ((BT D).drop (16 - i))=a_ ((BT D).drop (16 - (i+1))):=by
 refine mS ?_;rw[ByteArray.data_append,Array.toList_append,aA9 ⟨_,mod_lt _ H_⟩,cG,cG];show UInt8.ofNat (wU (D / 16 ^ i % 16)).toNat::(BT D).drop _=_;rw[To D i h,show 16 - (i+1)=15 - i by omega,show 16 - i=15 - i+1 by omega];have b:15 - i<(BT D).length:=by rw[fk];omega
 rw[drop_eq_getElem_cons b];have:=Kz D (i:=15 - i) X;rw[m_ b]at this;rw[Option.some.inj this]
theorem Rb(s:B_)(hs:s.size<1000000000)(H:aF):RC 95 [sv s] (sv (FD s)) H:=by
 refine Pu ?_;have hsl:=aR s;have A:bits .xor .u64 1181783497276652981 (s.size:Int)=((U0 s.size:Nat):Int):=bits_xor_u64_nat 1181783497276652981 s.size E_ X;have B:U0 s.size<18446744073709551616:=wc X;have ⟨D,hD⟩:∃D,D=TB (U0 s.size) s.data.toList:=X_;have l:FD s=a_ (BT D):=by rw[FD,<-hD];rfl
 rw[l];clear l;refine Bd func95 Z ntmps95<|Sz aI<|O aA<|Y (gE U_)<|Y (eE Z underlying3 gL Z (bh X))<|Y (pE Z H_ Z Z A)<|V aI<|S<|Sz aI<|aD<|eU (λ(j c:Nat)=>([(0,sv s),(3,uv c),(4,iv ((8*j:Nat):Int))],[])) (λj c=>8*j<=s.size+8/\c<18446744073709551616/\((8*j<=s.size/\TB c (s.data.toList.drop (8*j))=D)\/(s.size<8*j/\c=D))) (λj c=>s.size+8 - 8*j) 0 (U0 s.size) ⟨X,B,.inl ⟨X,F_⟩⟩ ?_ ?_
 ·exact Wk
 rintro j c ⟨hj,p,u⟩;refine S<|O aA<|Y aA<|Y (gE U_)<|V G8<|Cn ?_ ?_<;>intro q
 ·have hle:8*j<=s.size:=I_ q
  have o:TB c (s.data.toList.drop (8*j))=D:=by
   omega
  have ⟨R,F⟩:∃R,R=s.data.toList.drop (8*j):=X_;have hRl:R.length=s.size - 8*j:=F_
  have hp8:=dq R;rw[<-F]at o;refine aB<|S<|aD<|Sz aI<|S<|O aA<|V aI<|aD<|bF (σ:=Nat) (λi=>([(0,sv s),(3,uv c),(4,iv ((8*j:Nat):Int)),(5,uv (vZ ((mP R).take i))),(6,iv ((8*j+i:Nat):Int))],[])) (λi=>i<=8) (λi=>8 - i) 0 (l7 _) ?_ ?_
  ·exact Wk
  intro i hi;by_cases h8:i<8
  ·have ⟨y,K⟩:=aS (l:=mP R) (k:=i) X;have e:vZ ((mP R).take (i+1))=vZ ((mP R).take i)*256+y.toNat:=by rw[fF K,XU]
   have h7:vZ ((mP R).take i)<72057594037927936:=iz G_;have hyb:y.toNat<256:=y.toNat_lt;generalize vZ ((mP R).take i)=b at e h7 |-;refine S<|O aA<|Y aA<|Y (by exact dB Z Z Z (show IntKind.i64.wrap (((8*j:Nat):Int)+8)=((8*j+8:Nat):Int)by rw[mE X X];omega))<|V cJ ?_;refine Cn ?_ ?_<;>intro hc2
   ·refine aB<|S<|aD<|O aA<|Y (by exact oL Z Z Z (show IntKind.u64.wrap ((b:Int)*256)=((b*256:Nat):Int)by rw[IntKind.wrap_u64];omega))<|V aI<|O aA<|Y aA<|Y (gE U_)<|V cJ ?_;refine Cn ?_ ?_<;>intro x
    ·have hlt2:8*j+i<s.size:=I_ x
     have c_:aY s (8*j+i)=(y.toNat:Int):=by
      have v_:R[i]?=s.data.toList[8*j+i]?:=by rw[F,getElem?_drop]
      have ⟨z,hz⟩:=aS (l:=s.data.toList) (k:=8*j+i) X;have:=Sc (l:=R) h8 (v_.trans hz);rw[K]at this;rw[aY,hz,<-Option.some.inj this];rfl
     refine Rd aA<|Y aA<|Y aA<|Y (ky U_)<|Y (eE Z cZ gL Z (show IntKind.u64.wrap (aY s (8*j+i))=((y.toNat:Nat):Int)by rw[c_,bh X]))<|Y (by exact dB Z Z Z (show IntKind.u64.wrap (((b*256:Nat):Int)+((y.toNat:Nat):Int))=((b*256+y.toNat:Nat):Int)by rw[IntKind.wrap_u64];omega))<|V aI<|Rd aA<|Y (by exact dB Z Z Z (show IntKind.i64.wrap (((8*j+i:Nat):Int)+1)=((8*j+(i+1):Nat):Int)by rw[mE X X];omega))<|Da ?_;refine⟨i+1,X,X,?_⟩;rw[e];exact Wk
    have hge2:s.size<=8*j+i:=J_ x
    have e_:y.toNat=0:=by
     have:=It (l:=R) h8 X;rw[K]at this;rw[Option.some.inj this];rfl
    refine aB<|Rd aA<|Y (by exact dB Z Z Z (show IntKind.i64.wrap (((8*j+i:Nat):Int)+1)=((8*j+(i+1):Nat):Int)by rw[mE X X];omega))<|Da ?_;refine⟨i+1,X,X,?_⟩;rw[e,e_,Nat.add_zero];exact Wk
   (have h:=b_ hc2;omega)
  have A_:i=8:=X
  subst A_;have u_:(mP R).take 8=mP R:=take_of_length_le X;rw[u_];refine S<|O aA<|Y aA<|Y (by exact dB Z Z Z (show IntKind.i64.wrap (((8*j:Nat):Int)+8)=((8*j+8:Nat):Int)by rw[mE X X];omega))<|V cJ ?_;refine Cn ?_ ?_<;>intro L
  ·(have h:=b9 L;omega)
  have d_:=TU (l:=mP R) X;have W:=λH=>Yv (c ^^^ vZ (mP R)) (D7 p d_) H;refine aP<|Rd aA<|Y aA<|Y (pE Z H_ Z Z (bits_xor_u64_nat c (vZ (mP R)) p d_))<|Y (kc call140 (W _))<|V aI<|Rd aA<|Y (by exact dB Z Z Z (show IntKind.i64.wrap (((8*j:Nat):Int)+8)=((8*(j+1):Nat):Int)by rw[mE X X];omega))<|Da ?_;refine⟨j+1,OD (c ^^^ vZ (mP R)),⟨X,ZF _,?_⟩,X,Wk⟩;by_cases t:8<=R.length
  ·refine .inl ⟨X,?_⟩;have y_:mP (R.take 8)=mP R:=by
    rw[mP,mP,take_take,q9,Nat.min_eq_left t];rw[show 8 - R.length=0 by omega];rfl
   have h1:=XG c t;rw[y_,o,F,drop_drop]at h1;rw[F,show 8*(j+1)=8*j+8 by omega,h1]
  refine .inr ⟨X,?_⟩;rw[<-XH c X,o]
 have hgt:s.size<8*j:=J_ q
 have w:c=D:=by
  rcases u with⟨h,_⟩|⟨_,h⟩
  ·omega
  exact h
 subst w;have hl16:=fk c;have N:a_ ((BT c).drop (16 - 0))=⟨#[]⟩:=by rw[drop_of_length_le X];rfl
 have Q:c / 16 ^ 0=c:=by rw[Nat.pow_zero,Nat.div_one]
 refine aP<|Sz aI<|S<|Sz aI<|aD<|bF (σ:=Nat) (λi=>([(3,uv (c / 16 ^ i)),(7,sv (a_ ((BT c).drop (16 - i)))),(8,iv (i:Int))],[])) (λi=>i<=16) (λi=>16 - i) 0 (l7 _) ?_ ?_
 ·rw[N,Q];exact Wk
 intro i hi;have ⟨v,E⟩:∃v,v=c / 16 ^ i:=X_;have hbd:v<18446744073709551616:=by rw[E];exact Nat.lt_of_le_of_lt (div_le_self _ _) p
 have T:c / 16 ^ (i+1)=v / 16:=by rw[E,Nat.pow_succ,<-Nat.div_div_eq_div_mul]
 rw[<-E];have P:((v:Nat):Int).tmod 16=((v % 16:Nat):Int):=by rw[Int.tmod_eq_emod_of_nonneg X];omega
 have hq:IntKind.u64.wrap (((v:Nat):Int).tdiv 16)=((v / 16:Nat):Int):=by
  rw[Int.tdiv_eq_ediv_of_nonneg X,IntKind.wrap_u64];omega
 have n:v % 16<16:=mod_lt _ E_;have k:=aA8 n;have f_:(a_ ((BT c).drop (16 - i))).size=i:=by rw[bZ,q6];omega
 by_cases o_:i<16
 ·have e:=Kx c o_;rw[<-E]at e;generalize v % 16=g at P n k e;refine S<|O aA<|V cJ<|Cn ?_ ?_<;>intro I
  ·refine aB<|S<|aD<|O aA<|Y (zM Z Z Z E_ P)<|Y aA<|Y (zM Z Z Z E_ P)<|Y (by exact dB Z Z Z (show IntKind.u64.wrap ((g:Int)+1)=((g+1:Nat):Int)by rw[IntKind.wrap_u64];omega))<|Y (by exact bM (l:=g) (h:=g+1) Z U_ Z Z Z X (show g+1<=HX.size from by have:HX.size=16:=rfl;omega) Z)<|Y aA<|Y (by exact fC Z Z Z (show (HX.extract g (g+1)).size+(a_ ((BT c).drop (16 - i))).size<=9223372036854775807 by rw[k.1,f_];omega) e)<|V aI<|Rd aA<|Y (CU Z Z Z E_ hq)<|V aI<|Rd aA<|Y kp<|Da ?_;refine⟨i+1,X,X,?_⟩;rw[T];exact Wk
  (have h:=b_ I;omega)
 have G:i=16:=X
 subst G;refine S<|O aA<|V cJ<|Cn ?_ ?_<;>intro z_
 ·(have h:=b9 z_;omega)
 exact aP<|O aA<|V aI<|aC<|Rt<|Qq
theorem Rf(L)(d:L.length<=2000)(c:∀s∈L,s.size<=20000)(H):RC 52 [.pv (aL L)] (sv (yM L)) H:=by refine Pu ?_;have e:=λH=>VO L X (λs h=>Nat.le_trans (c s h) H_) H;have hsz:=xY c d;have b:=λH=>Rb (a_ (aN L)) (by rw[bZ];omega) H;exact Bd func52 Z ntmps52<|Sz aI<|O aA<|Y (bH Z Z call85 Z (e _))<|Y (bH Z Z call95 Z (b _))<|V aI<|aC<|Rt<|Qq
theorem gv(b:Int)(l:¬ G9 b)(H:aF):RC 83 [.pv (.int .u8 b)] (iv (-1)) H:=by
 refine Pu ?_;have k:∀ {p:Prop} [Decidable p],p->AV.pv (.bool (decide p))=bv true:=λh=>by simp_all
 have g:∀ {p:Prop} [Decidable p],¬ p->AV.pv (.bool (decide p))=bv false:=λh=>by simp_all
 by_cases e:48<=b
 ·have i:¬ b<=57:=λh=>l (.inl ⟨e,h⟩);by_cases f:97<=b
  ·have j:¬ b<=102:=λh=>l (.inr ⟨f,h⟩);refine Bd func83 Z ntmps83<|Sz aI<|S<|O aA<|Y (cN.eqv (jL Z Z Z) (k e))<|Y aA<|U aA<|U (cN.eqv (oM Z Z Z) (g i))<|V cC<|Cn ?_ ?_<;>intro c
   ·cases c
   refine aB<|S<|O aA<|Y (cN.eqv (jL Z Z Z) (k f))<|Y aA<|U aA<|U (cN.eqv (oM Z Z Z) (g j))<|V cC<|Cn ?_ ?_<;>intro d
   ·cases d
   exact aB<|Sz aI<|aC<|Rt<|Qq
  refine Bd func83 Z ntmps83<|Sz aI<|S<|O aA<|Y (cN.eqv (jL Z Z Z) (k e))<|Y aA<|U aA<|U (cN.eqv (oM Z Z Z) (g i))<|V cC<|Cn ?_ ?_<;>intro c
  ·cases c
  refine aB<|S<|O aA<|Y (cN.eqv (jL Z Z Z) (g f))<|Y aA<|M<|M<|V cC<|Cn ?_ ?_<;>intro d
  ·cases d
  exact aB<|Sz aI<|aC<|Rt<|Qq
 refine Bd func83 Z ntmps83<|Sz aI<|S<|O aA<|Y (cN.eqv (jL Z Z Z) (g e))<|Y aA<|M<|M<|V cC<|Cn ?_ ?_<;>intro c
 ·cases c
 refine aB<|S<|O aA<|Y (cN.eqv (jL Z Z Z) (g X))<|Y aA<|M<|M<|V cC<|Cn ?_ ?_<;>intro d
 ·cases d
 exact aB<|Sz aI<|aC<|Rt<|Qq
theorem fj{s}{i}{y}(h:s.data.toList[i]?=some y):G9 (aY s i)↔vT y=true:=by
 rw[aY];simp[G9,vT,Bool.or_eq_true,k_,j0,UInt8.le_iff_toNat_le]
 grind
theorem Ue{s}{i:Nat}{y}(h:s.data.toList[i]?=some y)(hy:vT y=false):m6 s=false:=by
 rw[m6]
 grind
theorem Ug{s}(h:∀k,k<16->∀y,s.data.toList[k]?=some y->vT y=true):m6 s=decide (s.size=16):=by
 rw[m6];by_cases e:s.size=16
 ·rw[decide_eq_true e,Bool.true_and,all_eq_true];intro y b;have ⟨k,a⟩:=s8.1 b;have:=(m9.1 a).1;rw[aR]at this;exact h k X y a
 simp_all
theorem cn(s:B_)(hs:s.size<2^62)(H:aF):RC 37 [sv s] (bv (m6 s)) H:=by
 refine Pu ?_;have u:=aR s;refine Bd func37 Z ntmps37<|Sz aI<|S<|Sz aI<|aD<|bF (σ:=Nat) (λi=>([(0,sv s),(3,iv (i:Int))],[])) (λi=>i<=16/\i<=s.size/\∀k,k<i->∀y,s.data.toList[k]?=some y->vT y=true) (λi=>16 - i) 0 ⟨l7 _,l7 _,λk h=>by omega⟩ ?_ ?_
 ·exact Wk
 rintro i ⟨hi,hi2,g⟩;by_cases q:i<s.size/\i<16
 ·have ⟨hin1,hin2⟩:=q;have ⟨y,e⟩:=aS (l:=s.data.toList) (k:=i) X;have b:=fj e;have ⟨d,c⟩:∃d,d=aY s i:=X_;rw[<-c]at b;by_cases m:vT y=true
  ·have j:=λH=>wa d (b.2 m) H;have f:¬ (if d<=57 then d - 48 else d - 87)<0:=by
    have:=b.2 m;unfold G9 at this
    split<;>omega
   rw[c]at j f;refine S<|O aA<|Y aA<|Y (gE U_)<|Y (cN.eqv (iC Z Z Z) (show AV.pv (.bool (decide ((i:Int)<(s.size:Int))))=bv true by simp_all))<|Y aA<|U aA<|U (cN.eqv (iC Z Z Z) (show AV.pv (.bool (decide ((i:Int)<16)))=bv true by grind))<|V cC<|Cn ?_ ?_<;>intro o
   ·refine aB<|S<|aD<|O aA<|Y aA<|Y (ky U_)<|Y (kc call83 (j _))<|V cJ<|Cn ?_ ?_<;>intro v
    ·exact absurd (b9 v) f
    refine aB<|Rd aA<|Y kp<|Da ?_;refine⟨i+1,⟨X,X,λk A z hz=>?_⟩,X,Wk⟩
    grind
   cases o
  have m:vT y=false:=F_
  have j:=λH=>gv d (λh=>by simp_all) H;rw[c]at j;rw[Ue e m];refine S<|O aA<|Y aA<|Y (gE U_)<|Y (cN.eqv (iC Z Z Z) (show AV.pv (.bool (decide ((i:Int)<(s.size:Int))))=bv true by simp_all))<|Y aA<|U aA<|U (cN.eqv (iC Z Z Z) (show AV.pv (.bool (decide ((i:Int)<16)))=bv true by grind))<|V cC<|Cn ?_ ?_<;>intro w
  ·refine aB<|S<|aD<|O aA<|Y aA<|Y (ky U_)<|Y (kc call83 (j _))<|V cJ<|Cn ?_ ?_<;>intro n
   ·exact Sz aI<|aC<|Rt<|Qq
   (have h:=b_ n;exact absurd E_ h)
  cases w
 have l:=Ug (s:=s) (λk A y e=>by
  have:=(m9.1 e).1;rw[u]at this;exact g k X y e)
 have x:decide ((s.size:Int)=16)=decide (s.size=16):=by
  grind
 rw[l];by_cases h7:i<s.size
 ·refine S<|O aA<|Y aA<|Y (gE U_)<|Y (cN.eqv (iC Z Z Z) (show AV.pv (.bool (decide ((i:Int)<(s.size:Int))))=bv true by simp_all))<|Y aA<|U aA<|U (cN.eqv (iC Z Z Z) (show AV.pv (.bool (decide ((i:Int)<16)))=bv false by rw[decide_eq_false X]))<|V cC<|Cn ?_ ?_<;>intro p
  ·cases p
  exact aP<|O aA<|Y (gE U_)<|Y (cN.eqv (nK Z Z Z) (show AV.pv (.bool (decide ((s.size:Int)=16)))=bv (decide (s.size=16))by rw[x]))<|V aI<|aC<|Rt<|Qq
 refine S<|O aA<|Y aA<|Y (gE U_)<|Y (cN.eqv (iC Z Z Z) (show AV.pv (.bool (decide ((i:Int)<(s.size:Int))))=bv false by rw[decide_eq_false X]))<|Y aA<|M<|M<|V cC<|Cn ?_ ?_<;>intro t
 ·cases t
 exact aP<|O aA<|Y (gE U_)<|Y (cN.eqv (nK Z Z Z) (show AV.pv (.bool (decide ((s.size:Int)=16)))=bv (decide (s.size=16))by rw[x]))<|V aI<|aC<|Rt<|Qq
def OG(b:UInt8):Bool:=decide (48<=b.toNat)&&decide (b.toNat<=57)
def UC:List UInt8->Nat->Nat->Nat×Nat
 | [],c,n=>(c,n)
 |b::r,c,n=>if(OG b&&decide (c<6))=true then UC r (c+1) (10*n+(b.toNat - 48))else(c,n)
def OA(l:List UInt8):Nat:=(UC l 0 0).1
def lf(l:List UInt8):Nat:=(UC l 0 0).2
def QJ(l:List UInt8):Prop:=OA l=0\/l[OA l]?≠some 58\/l.length - OA l - 1<lf l
instance (l:List UInt8):Decidable (QJ l):=inferInstanceAs (Decidable (_\/_\/_))
def N9(l:List UInt8):Option (List B_) :=if h:l=[]then some []else if QJ l then none else(N9 (l.drop (OA l+1+lf l))).map (a_ ((l.drop (OA l+1)).take (lf l))::·)
termination_by l.length
decreasing_by have:=length_pos_iff.2 h;rw[q6];omega
def Qj(l:List UInt8):List B_×Bool:=match N9 l with|some L=>(L,true)|none=>([],false)
theorem YG:∀(w r) (c n v),decFrom n w=some v->c+w.length<=6->UC (w++58::r) c n=(c+w.length,v)
 | [],r,c,n,v,h,_=>by
  obtain rfl:=Option.some.inj h;rfl
 | b::w,r,c,n,v,h,g=>by
  rw[decFrom]at h;rw[j7]at g |-;cases e:digitVal b with
  |none=>simp_all
  | some d =>
   rw[e]at h;have f:d=b.toNat - 48/\OG b=true:=by
    rw[digitVal]at e
    split at e
    ·next a=>obtain rfl:=Option.some.inj e;exact⟨Z,by rw[OG,decide_eq_true a.1,decide_eq_true a.2];rfl⟩
    cases e
   rw[cons_append,UC,b7 G_,<-f.1,Nat.mul_comm _,YG w r _ _ v h X];exact Prod.ext X Z
theorem QG:∀(L:List B_),(∀s∈L,s.size<1000000)->N9 (aN L)=some L
 | [],_=>by rw[show aN []=[]from Z,N9,dif_pos rfl]
 | x::L,h=>by
  have hx:=h x mem_cons_self;have hd:=cV (k:=6) X E_;have f:=nO x.size;have c:UC (aN (x::L)) 0 0=((decDigits x.size).length,x.size):=by rw[iB,YG _ _ 0 0 _ (jI _) X,r9]
  have g:OA (aN (x::L))=(decDigits x.size).length:=congrArg Prod.fst c;have hN:lf (aN (x::L))=x.size:=congrArg Prod.snd c;have i:(aN (x::L)).length=(decDigits x.size).length+1+(x.size+(aN L).length):=by rw[iB,j_,j7,j_,aR];omega
  have d:(aN (x::L))[(decDigits x.size).length]?=some 58:=by rw[iB,getElem?_append_right (g_ _),Nat.sub_self];rfl
  have b:(aN (x::L)).drop ((decDigits x.size).length+1)=x.data.toList++aN L:=by
   rw[iB,show decDigits x.size++58::(x.data.toList++aN L)=(decDigits x.size++[58])++(x.data.toList++aN L)by simp,drop_left' H_]
  rw[N9,dif_neg (λe=>by simp_all),a8 (by rw[QJ,g,hN,d,i];have:=length_pos_iff.2 f;exact λh=>h.elim (λh=>by omega) λh=>h.elim (λh=>h Z) λh=>by omega),g,hN,b,<-drop_drop,b,drop_left' (aR x),take_left' (aR x),QG L (λs j=>h s (mem_cons_of_mem _ j)),fQ];rfl
def TC(n:Int):B_:=if n<0 then a_ (45::decDigits (-n).toNat)else a_ (decDigits n.toNat)
theorem px(n:Int)(h0 : -4611686018427387904<=n)(h1:n<=4611686018427387904)(H:aF):RC 84 [iv n] (sv (TC n)) H:=by
 by_cases e:n<0
 ·refine Pu ?_;have g:∃k:Nat,n = -((k:Int)+1):=⟨(-n - 1).toNat,X⟩;have ⟨k,g⟩:=g;have f:=λH=>ct (k+1) X H;have hS:TC n=a_ (45::decDigits (k+1)):=by rw[TC,b7 e,show (-n).toNat=k+1 by omega]
  rw[hS];have j:IntKind.i64.wrap (n+1) = -(k:Int):=by rw[mE X X];omega
  have h:IntKind.u64.wrap (0 - -(k:Int))=(k:Int):=by rw[IntKind.wrap_u64];omega
  have i:IntKind.u64.wrap ((k:Int)+1)=((k+1:Nat):Int):=by rw[IntKind.wrap_u64];omega
  have e11:(⟨#[45]⟩:B_)++a_ (decDigits (k+1))=a_ (45::decDigits (k+1)):=by rfl
  have h45:(⟨#[45]⟩:B_).size=1:=rfl;have hds:(a_ (decDigits (k+1))).size<=19:=by rw[bZ];exact cV (k:=19) X E_
  refine Bd func84 Z ntmps84<|Sz aI<|S<|O aA<|V (cN.eqv (iC Z Z Z) (by rw[decide_eq_true e]))<|Cn ?_ ?_<;>intro d
  ·refine O aA<|Y (ka j)<|Y (Sx Z Z (mE X X))<|Y (eE Z underlying3 gL Z h)<|Y (ka i)<|Y (kc call136 (f _))<|Y kq<|V aI<|aC<|Rt ?_
   simp_all
  cases d
 obtain ⟨k,rfl⟩:∃k:Nat,n=(k:Int):=⟨n.toNat,X⟩;rw[TC,a8 e];exact QY k X H
theorem Fin.st2J{H1}{id g n}{ob}(l)(v)(b:H1.get id=some ob)(c:ob.g=g)(a:ob.rows=cB l)(d:n=l.length)(e:Clo [] v):
  Fin [] H1 (.tup [.osl id g 0 n,v]) [] (.tup [.pv (aL l),v]):=by
 subst c d;exact Fin.fz _ b (a.trans (eT l)) (.tup Z (bC (.osl (iW _ l)) (bC (.same e) kK))) Z T_ T_
theorem xx(l:List UInt8)(hl:l.length<1000000000)(H:aF):RC 62 [sv (a_ l)] (.tup [.pv (aL (Qj l).1),bv (Qj l).2]) H:=by
 refine Pu ?_;have t1:∀ {p:Prop} [Decidable p],p->AV.pv (.bool (decide p))=bv true:=λh=>by simp_all
 have t0:∀ {p:Prop} [Decidable p],¬ p->AV.pv (.bool (decide p))=bv false:=λh=>by simp_all
 have n1:∀ {p:Prop} [Decidable p],¬ p->AV.pv (.bool (!decide p))=bv true:=λh=>by simp_all
 have n0:∀ {p:Prop} [Decidable p],p->AV.pv (.bool (!decide p))=bv false:=λh=>by simp_all
 have hz:=bZ l;have hby:∀i b,l[i]?=some b->aY (a_ l) i=(b.toNat:Int):=λi b h=>by rw[aY,cG,h];rfl
 have hvn:N9 l=none->Qj l=([],false):=λh=>by rw[Qj,h]
 have hvs:∀A,N9 l=some A->Qj l=(A,true):=λA h=>by rw[Qj,h]
 refine Bd func62 Z ntmps62<|O aI<|V aI<|Sz (by exact eI (id:=905) (sz:=1) (ty:=9) Z Z Z)<|Sz aI<|S<|aD<|eU (λ(p:Nat) (A:List B_)=>([(0,sv (a_ l)),(4,.osl 905 A.length 0 A.length),(5,iv (p:Int))],[(905,⟨A.length,1,9,cB A⟩)])) (λp A=>p<=l.length/\A.length<=p/\N9 l=(N9 (l.drop p)).map (A++·)) (λp A=>l.length - p) 0 [] ⟨l7 _,g_ _,F_⟩ ?_ ?_
 ·exact(cL.wk (Eb<|Ea<|Eb<|T_) (Hc (aV _ _)<|T_) T_)
 rintro p A ⟨hp,hAp,hJ⟩;refine S<|O aA<|Y aA<|Y (gE U_)<|V cJ<|Cn ?_ ?_<;>intro hc1
 ·have hlt:p<l.length:=by have:=b9 hc1;rw[hz]at this;omega
  obtain ⟨R,hR⟩:∃R,R=l.drop p:=X_;have hRl:R.length=l.length - p:=F_
  have hRg:∀c,R[c]?=l[p+c]?:=λc=>by simp_all
  rw[<-hR]at hJ;have hR0:R≠[]:=λe=>by grind
  refine aB<|aD<|Sz aI<|Sr<|Da<|eK (λ(q:Nat×Nat)=>([(0,sv (a_ l)),(4,.osl 905 A.length 0 A.length),(5,iv ((p+q.1:Nat):Int)),(6,iv (q.2:Int)),(7,iv (q.1:Int))],[(905,⟨A.length,1,9,cB A⟩)])) (λq=>UC R 0 0=q/\q.1<=6/\p+q.1<=l.length/\q.2<1000000) ?_ ?_
  ·refine aD<|eU (λ(c n:Nat)=>([(0,sv (a_ l)),(4,.osl 905 A.length 0 A.length),(5,iv ((p+c:Nat):Int)),(6,iv (n:Int)),(7,iv (c:Int))],[(905,⟨A.length,1,9,cB A⟩)])) (λc n=>UC R 0 0=UC (R.drop c) c n/\c<=6/\p+c<=l.length/\n<10 ^ c) (λc n=>6 - c) 0 0 ⟨Z,l7 _,X,E_⟩ ?_ ?_
   ·exact(cL.wk (Eb<|Ea<|Eb<|Eb<|Eb<|T_) (Hc (aV _ _)<|T_) T_)
   rintro c n ⟨hsc,hle6,hcl,hn⟩;have hp6:10 ^ c<=1000000:=Nat.le_trans (Nat.pow_le_pow_right E_ hle6) E_;by_cases hend:p+c<l.length
   ·obtain ⟨b,hb⟩:=aS (l:=R) (k:=c) X;have hbl:=hby (p+c) b ((hRg c).symm.trans hb);have hb256:=b.toNat_lt;have hdr:R.drop c=b::R.drop (c+1):=by
     have h1:=(m9.1 hb).1;rw[List.drop_eq_getElem_cons h1,(m9.1 hb).2]
    rw[hdr,UC]at hsc;by_cases hgo:(OG b&&decide (c<6))=true
    ·rw[b7 hgo]at hsc;rw[k_,OG,k_,j0,j0,j0]at hgo;have hn2:10*n+(b.toNat - 48)<10 ^ (c+1):=by rw[Nat.pow_succ];omega
     refine S<|O aA<|Y aA<|Y (gE U_)<|Y (by exact cN.eqv (iC Z Z Z) (t1 (by rw[hz];omega)))<|Y aA<|U aA<|U aA<|U (by exact cI Z U_ Z Z X (by exact l_ _) (by rw[hz];omega) Z)<|U (by exact cN.eqv (jL Z Z Z) (t1 (by rw[hbl];omega)))<|Y cC<|Y aA<|U aA<|U aA<|U (by exact cI Z U_ Z Z X (by exact l_ _) (by rw[hz];omega) Z)<|U (by exact cN.eqv (oM Z Z Z) (t1 (by rw[hbl];omega)))<|Y cC<|Y aA<|U aA<|U (by exact cN.eqv (iC Z Z Z) (t1 X))<|V cC ?_;refine Cn ?_ ?_<;>intro hc2
     ·refine aB<|aD<|O aA<|Y (by exact oL Z Z Z (show IntKind.i64.wrap (10*(n:Int))=((10*n:Nat):Int)by rw[mE X X];omega))<|Y aA<|Y aA<|Y (by exact cI Z U_ Z Z X (by exact l_ _) (by rw[hz];omega) Z)<|Y (by exact dM Z Z Z (show IntKind.u8.wrap (aY (a_ l) (p+c) - 48)=((b.toNat - 48:Nat):Int)by rw[hbl,IntKind.wrap_u8];omega))<|Y (by exact eE Z cZ underlying3 Z (mE X X))<|Y (by exact dB Z Z Z (show IntKind.i64.wrap (((10*n:Nat):Int)+((b.toNat - 48:Nat):Int))=((10*n+(b.toNat - 48):Nat):Int)by rw[mE X X];omega))<|V aI<|O aA<|Y (by exact dB Z Z Z (show IntKind.i64.wrap (((p+c:Nat):Int)+1)=((p+(c+1):Nat):Int)by rw[mE X X];omega)) ?_;refine V aI<|Rd aA<|Y kp<|Da ?_;exact⟨c+1,_,⟨hsc,X,X,hn2⟩,X,(cL.wk (Eb<|Ea<|Eb<|Eb<|Eb<|T_) (Hc (aV _ _)<|T_) T_)⟩
     cases hc2
    rw[a8 hgo]at hsc;have hgo:(OG b&&decide (c<6))=false:=by simpa using hgo
    have hfin:∃a:Nat×Nat,(UC R 0 0=a/\a.1<=6/\p+a.1<=l.length/\a.2<1000000)/\a=(c,n):=⟨(c,n),⟨hsc,hle6,hcl,X⟩,Z⟩;obtain ⟨_,hfin,rfl⟩:=hfin;by_cases h48:48<=b.toNat
    ·by_cases h57:b.toNat<=57
     ·have hc:¬ c<6:=λh=>by rw[OG,decide_eq_true h48,decide_eq_true h57,decide_eq_true h]at hgo;cases hgo
      refine S<|O aA<|Y aA<|Y (gE U_)<|Y (by exact cN.eqv (iC Z Z Z) (t1 (by rw[hz];omega)))<|Y aA<|U aA<|U aA<|U (by exact cI Z U_ Z Z X (by exact l_ _) (by rw[hz];omega) Z)<|U (by exact cN.eqv (jL Z Z Z) (t1 (by rw[hbl];omega)))<|Y cC<|Y aA<|U aA<|U aA<|U (by exact cI Z U_ Z Z X (by exact l_ _) (by rw[hz];omega) Z)<|U (by exact cN.eqv (oM Z Z Z) (t1 (by rw[hbl];omega)))<|Y cC<|Y aA<|U aA<|U (by exact cN.eqv (iC Z Z Z) (t0 X))<|V cC ?_;refine Cn ?_ ?_<;>intro hc3
      ·cases hc3
      refine aP ?_;exact⟨(c,n),hfin,(cL.wk (Eb<|Ea<|Eb<|Eb<|Eb<|T_) (Hc (aV _ _)<|T_) T_)⟩
     refine S<|O aA<|Y aA<|Y (gE U_)<|Y (by exact cN.eqv (iC Z Z Z) (t1 (by rw[hz];omega)))<|Y aA<|U aA<|U aA<|U (by exact cI Z U_ Z Z X (by exact l_ _) (by rw[hz];omega) Z)<|U (by exact cN.eqv (jL Z Z Z) (t1 (by rw[hbl];omega)))<|Y cC<|Y aA<|U aA<|U aA<|U (by exact cI Z U_ Z Z X (by exact l_ _) (by rw[hz];omega) Z)<|U (by exact cN.eqv (oM Z Z Z) (t0 (by rw[hbl];omega)))<|Y cC<|Y aA<|M<|M<|V cC ?_;refine Cn ?_ ?_<;>intro hc4
     ·cases hc4
     refine aP ?_;exact⟨(c,n),hfin,(cL.wk (Eb<|Ea<|Eb<|Eb<|Eb<|T_) (Hc (aV _ _)<|T_) T_)⟩
    refine S<|O aA<|Y aA<|Y (gE U_)<|Y (by exact cN.eqv (iC Z Z Z) (t1 (by rw[hz];omega)))<|Y aA<|U aA<|U aA<|U (by exact cI Z U_ Z Z X (by exact l_ _) (by rw[hz];omega) Z)<|U (by exact cN.eqv (jL Z Z Z) (t0 (by rw[hbl];omega)))<|Y cC<|Y aA<|M<|M<|M<|M<|Y cC<|Y aA<|M<|M<|V cC ?_;refine Cn ?_ ?_<;>intro hc5
    ·cases hc5
    refine aP ?_;exact⟨(c,n),hfin,(cL.wk (Eb<|Ea<|Eb<|Eb<|Eb<|T_) (Hc (aV _ _)<|T_) T_)⟩
   rw[List.drop_eq_nil_of_le X,UC]at hsc;refine S<|O aA<|Y aA<|Y (gE U_)<|Y (by exact cN.eqv (iC Z Z Z) (t0 (by rw[hz];omega)))<|Y aA<|M<|M<|M<|M<|Y cC<|Y aA<|M<|M<|M<|M<|Y cC<|Y aA<|M<|M<|V cC ?_;refine Cn ?_ ?_<;>intro hc6
   ·cases hc6
   refine aP ?_;exact⟨(c,n),⟨hsc,hle6,hcl,X⟩,(cL.wk (Eb<|Ea<|Eb<|Eb<|Eb<|T_) (Hc (aV _ _)<|T_) T_)⟩
  rintro⟨c,n⟩ ⟨hsc,hle6,hcl,hn⟩;have hC:OA R=c:=congrArg Prod.fst hsc;have hN:lf R=n:=congrArg Prod.snd hsc;have hbad:QJ R->Qj l=([],false):=λh=>hvn (by rw[hJ,N9,dif_neg hR0,b7 h];rfl);rw[QJ,hC,hN]at hbad;dsimp only at hle6 hcl hn |-;by_cases c0:c=0
  ·rw[hbad (.inl c0)];refine S<|O aA<|Y (by exact cN.eqv (nK Z Z Z) (t1 X))<|Y aA<|M<|M<|M<|M<|Y cC<|Y aA<|M<|M<|M<|M<|Y cC<|Y aA<|M<|M<|M<|M<|M<|M<|M<|V cC<|Cn ?_ ?_<;>intro hc7
   ·refine O aI<|V aI<|aC<|fP (H':=[]) (.inr Z) Z (aH Z) (aH Z) (Fin.wk (r:=.tup [.pv (aL []),bv false]) (by simp) T_ T_) Qq
   cases hc7
  by_cases hend:p+c<l.length
  ·obtain ⟨b,hb⟩:=aS (l:=R) (k:=c) X;have hbl:=hby (p+c) b ((hRg c).symm.trans hb);by_cases h58:b=58
   ·have hb58:aY (a_ l) (p+c)=58:=by rw[hbl,h58];rfl
    have w63:IntKind.i64.wrap (((a_ l).size:Int) - ((p+c:Nat):Int))=((l.length - (p+c):Nat):Int):=by rw[hz,mE X X];omega
    have w64':IntKind.i64.wrap (((l.length - (p+c):Nat):Int) - 1)=((l.length - (p+c) - 1:Nat):Int):=by rw[mE X X];omega
    have w70:IntKind.i64.wrap (((p+c:Nat):Int)+1)=((p+c+1:Nat):Int):=by rw[mE X X];omega
    refine S<|O aA<|Y (by exact cN.eqv (nK Z Z Z) (t0 X))<|Y aA<|U aA<|U aA<|U (gE U_)<|U (by exact cN.eqv (nK Z Z Z) (t0 (by rw[hz];omega)))<|Y cC<|Y aA<|U aA<|U aA<|U (by exact cI Z U_ Z Z X (by exact l_ _) (by rw[hz];omega) Z)<|U (by exact cN.eqv (J2 Z Z Z) (n0 hb58))<|Y cC<|Y aA<|U aA<|U aA<|U (gE U_)<|U aA<|U (by exact dM Z Z Z w63)<|U (by exact dM Z Z Z w64')<|U iP<|V cC ?_;refine Cn ?_ ?_<;>intro hc8
    ·have hgt:l.length - (p+c) - 1<n:=I_ hc8
     rw[hbad (.inr (.inr X))];refine O aI<|V aI<|aC<|fP (H':=[]) (.inr Z) Z (aH Z) (aH Z) (Fin.wk (r:=.tup [.pv (aL []),bv false]) H_ T_ T_) Qq
    have hle:n<=l.length - (p+c) - 1:=J_ hc8
    have hok:¬ QJ R:=by rw[QJ,hC,hN,hb,h58];exact λh=>h.elim c0 λh=>h.elim (λh=>h Z) λh=>by omega
    have hx75:(a_ l).extract (p+c+1) (p+c+1+n)=a_ ((R.drop (c+1)).take n):=mS (by rw[gB,cG,cG,hR,List.drop_drop,show p+c+1+n - (p+c+1)=n by omega,show p+(c+1)=p+c+1 by omega]);have hdr:l.drop (p+c+1+n)=R.drop (c+1+n):=by rw[hR,List.drop_drop,show p+(c+1+n)=p+c+1+n by omega]
    have hnl:(A++[a_ ((R.drop (c+1)).take n)]).length=A.length+1:=by rw[j_];rfl
    have hnx:N9 l=(N9 (l.drop (p+c+1+n))).map ((A++[a_ ((R.drop (c+1)).take n)])++·):=by
     rw[hJ,N9,dif_neg hR0,a8 hok,hC,hN,hdr];cases N9 (R.drop (c+1+n))<;>simp
    obtain ⟨A_,hX⟩:∃A_,A_=a_ ((R.drop (c+1)).take n):=X_;rw[<-hX]at hx75 hnl hnx;refine aB<|O aA<|Y aA<|Y aA<|Y (ka w70)<|Y aA<|Y (ka w70)<|Y aA<|Y (by exact dB Z Z Z (show IntKind.i64.wrap (((p+c+1:Nat):Int)+(n:Int))=((p+c+1+n:Nat):Int)by rw[mE (by omega) (by omega)];omega))<|Y (by exact bM (l:=p+c+1) (h:=p+c+1+n) Z U_ Z Z Z (by omega) (by rw[hz];omega) hx75)<|Y (by exact aK [[.str A_]] Z bD Z Z Z Z Z R_)<|Y (by exact cA (ps:=[[.str A_]]) Z bD yJ Z Z Z Z Z (eS _) Z R_ (m:=1) Z (by omega) Z (gO A A_))<|V aI<|Rd aA<|Y (ka w70)<|Y aA<|Y (by exact dB Z Z Z (show IntKind.i64.wrap (((p+c+1:Nat):Int)+(n:Int))=((p+c+1+n:Nat):Int)by rw[mE (by omega) (by omega)];omega)) ?_;refine Da ?_;refine⟨p+c+1+n,A++[A_],⟨by omega,by rw[hnl];omega,hnx⟩,by omega,?_⟩;rw[hnl];exact(cL.wk (Eb<|Ea<|Eb<|T_) (Hc (aV _ _)<|T_) T_)
   have hb58:¬ aY (a_ l) (p+c)=58:=λe=>h58 (by
    rw[hbl]at e;exact UInt8.toNat_inj.1 (by show b.toNat=58;omega))
   rw[hbad (.inr (.inl (by rw[hb];exact λe=>h58 (Option.some.inj e))))];refine S<|O aA<|Y (by exact cN.eqv (nK Z Z Z) (t0 X))<|Y aA<|U aA<|U aA<|U (gE U_)<|U (by exact cN.eqv (nK Z Z Z) (t0 (by rw[hz];omega)))<|Y cC<|Y aA<|U aA<|U aA<|U (by exact cI Z U_ Z Z X (by exact l_ _) (by rw[hz];omega) Z)<|U (by exact cN.eqv (J2 Z Z Z) (n1 hb58))<|Y cC<|Y aA<|M<|M<|M<|M<|M<|M<|M<|V cC ?_;refine Cn ?_ ?_<;>intro hc9
   ·refine O aI<|V aI<|aC<|fP (H':=[]) (.inr Z) Z (aH Z) (aH Z) (Fin.wk (r:=.tup [.pv (aL []),bv false]) (by simp) T_ T_) Qq
   cases hc9
  rw[hbad (.inr (.inl (by rw[List.getElem?_eq_none X];exact λe=>by cases e)))];refine S<|O aA<|Y (by exact cN.eqv (nK Z Z Z) (t0 X))<|Y aA<|U aA<|U aA<|U (gE U_)<|U (by exact cN.eqv (nK Z Z Z) (t1 (by rw[hz];omega)))<|Y cC<|Y aA<|M<|M<|M<|M<|Y cC<|Y aA<|M<|M<|M<|M<|M<|M<|M<|V cC ?_;refine Cn ?_ ?_<;>intro hc10
  ·refine O aI<|V aI<|aC<|fP (H':=[]) (.inr Z) Z (aH Z) (aH Z) (Fin.wk (r:=.tup [.pv (aL []),bv false]) H_ T_ T_) Qq
  cases hc10
 have hge:p=l.length:=by have:=b_ hc1;rw[hz]at this;omega
 have hfin:Qj l=(A,true):=hvs A (by rw[hJ,hge,List.drop_length,N9,dif_pos rfl];simp);rw[hfin];refine aP<|O aA<|Y aI<|V aI<|aC ?_;refine fP (H':=[]) (.inr Z) Z (aH Z) (aH Z) (Fin.st2J A (bv true) Z Z Z Z H_) ?_;exact Qq
theorem gy:∀ {l:List UInt8},(58:UInt8)∈l->l=B8 l++58::DV l
 | [],h=>by cases h
 | b::l,h=>by
  by_cases e:b=58
  ·subst e;simp[B8,DV]
  have f:(58:UInt8)∈l:=by
   rcases l9.1 h with h|h
   ·exact absurd h.symm e
   exact h
  have a:=gy f;have d:B8 (b::l)=b::B8 l:=by simp[B8,e]
  have c:DV (b::l)=DV l:=by simp[DV,e]
  rw[d,c,cons_append,<-a]
def B1(l:List UInt8):Prop:=OA l=0\/l[OA l]?≠some 58\/decDigits (lf l)≠l.take (OA l)\/l.length - OA l - 1<lf l
theorem ei(h:n<1000000):eJ (a_ (decDigits n))=(n:Int):=by rw[<-BQ,F6 X X]
theorem KC(h:0<=eJ (a_ l)):l=decDigits (eJ (a_ l)).toNat/\l.length<=6:=by
 have ⟨v,b⟩:∃v,v=eJ (a_ l):=X_;rw[<-b]at h |-;rw[eJ]at b
 split at b
 ·next e =>
  have ⟨h1,h2,d,c⟩:=e;rw[bZ]at d;have ⟨k,f⟩:∃k:Nat,jP (a_ l)=(k:Int):=⟨(jP (a_ l)).toNat,X⟩;rw[f]at b c;rw[b,l_];have:=congrArg (λs:B_=>s.data.toList) c;simp only[MS,cG]at this;exact⟨this.symm,d⟩
 omega
theorem m5{p:Prop}(h:p:=by rw[q6];omega):p:=h
theorem aAf(h:¬ B1 l)(hc:OA l<=6):qX l=false/\X7 l=lf l/\B8 l=l.take (OA l)/\DV l=l.drop (OA l+1):=by
 simp only[B1,not_or,Decidable.not_not]at h;have ⟨h1,c,e,h4⟩:=h;have b:=(m9.1 c).1;have j:l=l.take (OA l)++58::l.drop (OA l+1):=by
  have m:l.drop (OA l)=58::l.drop (OA l+1):=by
   rw[drop_eq_getElem_cons b];rw[m_ b]at c;rw[Option.some.inj c]
  rw[<-m,take_append_drop]
 have d:(58:UInt8)∉l.take (OA l):=by rw[<-e];exact TA _
 have a:=gz (r:=l.drop (OA l+1)) d;rw[<-j]at a;have hlen:(decDigits (lf l)).length=OA l:=by rw[e,q9];omega
 have i:lf l<1000000:=by
  by_cases k:lf l<1000000
  ·exact k
  have:=IL (v:=lf l) (k:=6) X;omega
 have f:eJ (a_ (B8 l))=(lf l:Int):=by rw[a.1,<-e,ei i]
 have g:(58:UInt8)∈l:=m8 c;refine⟨?_,by rw[X7,f,l_],a.1,a.2⟩;rw[qX,f,a.2,decide_eq_true g,decide_eq_false X,decide_eq_false m5];rfl
theorem aBD(h:B1 l):qX l=true:=by
 cases e:qX l with
 |true=>rfl
 | false =>
  exfalso;simp only[qX,q8,Bool.not_eq_false',p_,j0]at e;have ⟨⟨o,h2⟩,q⟩:=e;have ⟨f,e2⟩:=KC (l:=B8 l) X;have ⟨v,p⟩:∃v,v=(eJ (a_ (B8 l))).toNat:=X_;rw[<-p]at f;have d:=gy o;have i:UC l 0 0=((B8 l).length,v):=by
   conv=>lhs;rw[d]
   rw[YG (B8 l) (DV l) 0 0 v (by rw[f];exact jI v) X,r9]
  have j:OA l=(B8 l).length:=congrArg Prod.fst i;have hN:lf l=v:=congrArg Prod.snd i;have ⟨a,k⟩:∃a,a=B8 l:=X_;have ⟨b,m⟩:∃b,b=DV l:=X_;rw[<-k]at d f j i;rw[<-m]at d q;have n:l.take a.length=a:=by rw[d];exact take_left
  have g:l[a.length]?=some 58:=by rw[d,getElem?_append_right (g_ _),Nat.sub_self];rfl
  have hll:l.length=a.length+(1+b.length):=by
   have:=congrArg List.length d;rw[j_,j7]at this;omega
  rw[B1,j,hN,g,n]at h;rcases h with h|h|h|h
  ·have:=nO v;rw[<-f]at this;exact this (length_eq_zero_iff.1 h)
  ·exact h Z
  ·exact h f.symm
  omega
theorem R8(h:¬ 0<=eJ s):eJ s = -1:=by have:=(F5 s).1;omega
theorem zz{l}(h:6<l.length):eJ (a_ l) = -1:=R8 λa=>by have:=(KC a).2;omega
theorem nt(a:b∈l)(h:¬ (48<=b.toNat/\b.toNat<=57)):eJ (a_ l) = -1:=R8 λc=>by
 rw[(KC c).1]at a;exact h (pH _ a)
theorem Jq(hl:l.length<=6)(h:decDigits n=l):eJ (a_ l)=(n:Int):=by
 subst h;refine ei ?_;by_cases a:n<1000000
 ·exact a
 have:=IL (v:=n) (k:=6) X;omega
theorem Td(hd:decFrom 0 l=some n)(h:decDigits n≠l):eJ (a_ l) = -1:=R8 λa=>by
 have ⟨e,_⟩:=KC a;rw[e,jI]at hd;exact h (by rw[<-Option.some.inj hd];exact e.symm)
theorem WV(l:List B_)(H:aF)(hl:(aN l).length<35184372088832):RC 78 [.pv (aL l)] (sv (a_ (aN l))) H:=by
 refine Pu ?_;have hml:(l.map S_).length=l.length:=j6 _;have hll:=zT l;refine Bd func78 Z ntmps78<|Sz aI<|Sz (kl 2001 HG)<|S<|S ?_;refine gG.ent (E':=[(0,.pv (aL l)),(3,.ref 2001 0 0 0)]) (H':=yP 0 [] false) (cL.bld0 ⟨⟨_,Z,.same H_⟩,⟨_,Z,.same m3⟩,T_⟩) ?_;refine Rd aA<|Y (fW aE)<|V aA<|aD<|B5 (λ(k g:Nat) (u:Bool)=>([(3,.ref 2001 0 0 0),(6,.pv (aL l)),(7,iv ((l.map S_).length:Int)),(8,iv (k:Int))],yP g (aN (l.take k)) u)) (λk g u=>k<=l.length) (λk g u=>l.length - k) 0 0 false (l7 _) ?_ ?_
 ·exact(cL.wk (Ea<|Eb<|Eb<|Eb<|T_) (Hc (gJ Z Z)<|Hc (eM _ _)<|T_) T_)
 intro k g u hk;have hle:=uD l k;refine Sz cJ<|S<|Cn ?_ ?_<;>intro d
 ·have h:k<l.length:=I_ d
  have ⟨s,i⟩:=aS h;have j:=cE (f:=S_) i;have e:=uD l (k+1);rw[fF i,pP,j_,pB,nE]at e;have hsz:s.size<35184372088832:=X
  refine aB<|S<|aD<|O (iO bD)<|Y (fZ N_ (hi:=j))<|V aI<|Rd aA<|Y (gE U_)<|Y (kc lO (pQ (s.size:Int) X X _))<|Y (by exact fC Z Z Z (by have:(⟨#[58]⟩:B_).size=1:=rfl;omega) Z)<|Y aA<|Y (by exact fC Z Z Z (by rw[ByteArray.size_append];have:(⟨#[58]⟩:B_).size=1:=rfl;omega) Z)<|V (kc mY (jC g (aN (l.take k)) u (pZ s) (by rw[nE];omega)))<|Rd gX<|V aA ?_;refine⟨k+1,g+1,true,X,X,?_⟩;rw[fF i,pP];exact(cL.wk (Ea<|Eb<|Eb<|Eb<|T_) (Hc (gJ Z Z)<|Hc (eM _ _)<|T_) T_)
 have f:k=l.length:=J_ d
 subst f;rw[take_length];exact aP<|O (kc mX (P9 g (aN l) u X))<|V aI<|aC<|Rt<|Qq
def nbW(s:B_):Bool:=((vK s||decide (jP s<0))||decide ((6:Int)<(s.size:Int)))||!decide (aT (jP s)=s)
theorem Te(s):eJ s=if nbW s=true then -1 else jP s:=by rw[eJ,nbW];all_goals grind
theorem nv(s:B_)(H:aF)(n:s.size<2^40):RC 89 [sv s] (iv (eJ s)) H:=by
 refine Pu ?_;have d:=λH=>Z3 s n H;have c:=XR s;have hit:=λH=>pQ (jP s) c.1 c.2 H;have k:=Te s;have b:nbW s=(((vK s||decide (jP s<0))||decide ((6:Int)<(s.size:Int)))||!decide (aT (jP s)=s)):=rfl;rw[k];clear k;generalize jP s=v at d b c hit |-;generalize vK s=e at d b;have ⟨w,j⟩:∃y,y=aT v:=X_;rw[<-j]at hit b;clear j;refine Bd func89 Z ntmps89<|Sz aI<|O aA<|Y (kc vN (d _))<|Y aA<|Y dK<|Y dK<|Y aI<|V aI<|S<|S<|aQ (t:=26) (n:=20) (A_:=nbW s) ?_ ?_
 ·all_goals refine Y aA<|Y (RW Z nQ Z)<|Dm ?_<;>(refine Sp 12 (λi=>?_) λi=>?_)<;>(try exact w_)<;>(first|refine M<|M ?_|refine U aA<|U cJ ?_)<;>refine Y cC<|Dm ?_<;>(refine Sp 16 (λh=>?_) λh=>?_)<;>(try exact w_)<;>(first|refine M<|M<|M ?_|refine U aA<|U (gE U_)<|U iP ?_)<;>refine Y cC<|Dm ?_<;>(refine Sp 21 (λg=>?_) λg=>?_)<;>(try exact w_)<;>(first|refine M<|M<|M<|M ?_|refine U aA<|U (kc lO (hit _))<|U aA<|U DZ ?_)<;>refine V cC ?_<;>(exact⟨⟨_,Z,G_⟩,Z,Z,Z⟩)
 refine Cn ?_ ?_<;>intro f
 ·rw[b7 (show nbW s=true from f)];exact Sz aI<|aC<|Rt<|Qq
 rw[a8 (show ¬ nbW s=true by rw[show nbW s=false from f];decide)];exact aB<|O aA<|V aI<|aC<|Rt<|Qq
theorem Mb{l}(h:l≠[]):(DV l).length<l.length:=by rw[DV,q6];have:=(dropWhile_sublist (l:=l) λb=>!decide (b=58)).length_le;have:=length_pos_iff.2 h;omega
theorem OS:pL []=some []:=by rw[pL,dif_pos rfl]
theorem X8{l}(b:l≠[])(a:qX l=true):pL l=none:=by rw[pL,dif_neg b,b7 a]
theorem QD{l}(a:l≠[])(hb:qX l=false):pL l=(pL ((DV l).drop (X7 l))).map (a_ ((DV l).take (X7 l))::·):=by conv=>lhs;rw[pL,dif_neg a,a8 F_]
theorem bw(t:List UInt8)(H:aF)(ht:t.length<1000000000):RC 87 [sv (a_ t)] (.tup [.pv (aL ((pL t).getD [])),bv (pL t).isSome]) H:=by
 refine Pu<|Bd func87 Z ntmps87<|O aI<|V aI<|Sz (eI (id:=905) (sz:=1) (ty:=9) Z Z Z)<|S<|aD<|eU (λ(l:List UInt8) (A:List B_)=>([(0,sv (a_ l)),(4,.osl 905 A.length 0 A.length)],[(905,⟨A.length,1,9,cB A⟩)])) (λl A=>l.length+A.length<=t.length/\pL t=(pL l).map (A++·)) (λl A=>l.length) t [] ⟨g_ _,by cases pL t<;>rfl⟩ ?_ ?_
 ·exact L_
 rintro l A ⟨hl,F⟩;have K:(a_ l).size=l.length:=bZ l;have D:=Ma l;have b:=λH=>Lu (a_ l) H X;rw[wg]at b;have n:=λH=>nv (a_ (B8 l)) H (by rw[bZ];omega);have c_:(a_ (DV l)).size=(DV l).length:=bZ _;have d:qX l=((!decide ((58:UInt8)∈l)||decide (eJ (a_ (B8 l))<0))||decide (((DV l).length:Int)<eJ (a_ (B8 l)))):=rfl;have hN:X7 l=(eJ (a_ (B8 l))).toNat:=rfl;have G:=λ(g:l≠[]) j=>X8 g j;have p:=λ(g:l≠[]) j=>QD g j;have s:=λg=>Mb (l:=l) g;generalize a_ (B8 l)=x at b n d hN;have ⟨v,L⟩:∃v,v=eJ x:=X_;have ⟨o,N⟩:∃o,o=decide ((58:UInt8)∈l):=X_;have ⟨r,k⟩:∃r,r=DV l:=X_;simp only[<-L,<-N,<-k]at b n d hN c_ D s p;clear L N k;refine S<|O aA<|Y (gE U_)<|V iP<|Cn ?_ ?_<;>intro q
 ·have g:l≠[]:=λe=>by have h:=b9 q;rw[K,e]at h;exact absurd h E_
  refine aB<|aD<|O aA<|Y (kc call137 (b _))<|Y aA<|Y dK<|Y dK<|Y dK<|Y aI<|Y aI<|V aI<|O aA<|Y (kc call89 (n _))<|V aI<|S<|S<|aQ (t:=31) (n:=14) (A_:=qX l) ?_ ?_
  ·all_goals refine Y aA<|Y iI<|Dm ?_<;>(refine Sp 22 (λm=>?_) λm=>?_)<;>(try exact w_)<;>(first|refine M<|M ?_|refine U aA<|U cJ ?_)<;>refine Y cC<|Dm ?_<;>(refine Sp 26 (λy=>?_) λy=>?_)<;>(try exact w_)<;>(first|refine M<|M<|M<|M ?_|refine U aA<|U aA<|U (gE U_)<|U iP ?_)<;>refine V cC ?_<;>exact Gj (h:=by rw[d];first|(rw[m];rfl)|(rw[m,y];rfl))
  refine Cn ?_ ?_<;>intro B
  ·have j:qX l=true:=B;rw[F,G g j];refine O aI<|V aI<|aC<|fP (H':=[]) (.inr Z) Z (aH Z) (aH Z) (P_ (r:=.tup [.pv (aL []),bv false])) Qq
  have j:qX l=false:=B;have o_:=p g j;have hlt2:=s g;have I:=d.symm.trans j;simp only[q8,p_]at I;obtain ⟨u,rfl⟩:∃u:Nat,v=(u:Int):=⟨v.toNat,X⟩;rw[l_]at hN;rw[hN]at o_;have hur:u<=r.length:=X
  have x1:(a_ r).extract 0 u=a_ (r.take u):=mS (by rw[gB,cG,cG,drop_zero,Nat.sub_zero]);have P:(a_ r).extract u (a_ r).size=a_ (r.drop u):=mS (by rw[rY,cG,cG]);have w:(A++[a_ (r.take u)]).length=A.length+1:=by rw[j_];rfl
  refine aB<|aM a7<|Cr [905] (λ_ _=>aA)<|x_ aA<|x_ aA<|x_ (by exact bM (l:=0) (h:=u) Z U_ Z Z Z (l7 _) X x1)<|x_ (by exact aK [[.str (a_ (r.take u))]] Z bD Z Z Z Z Z R_)<|Cp [905] (λE d_=>by exact cA (ps:=[[.str (a_ (r.take u))]]) Z bD yJ Z ((d_ _ Z).trans Z) Z Z Z (eS _) Z R_ (m:=1) Z X Z (gO _ (a_ (r.take u))))<|x_ aA<|x_ aA<|x_ (by exact bM (l:=u) (h:=(a_ r).size) Z U_ Z Z Z X (g_ _) P)<|Cr [905] (λ_ _=>aI)<|x_ aI<|bG<|Kr ?_;refine⟨r.drop u,A++[a_ (r.take u)],⟨by rw[q6,w];omega,?_⟩,by rw[q6];omega,?_⟩
  ·rw[F,o_];cases pL (r.drop u)with
   |none=>rfl
   |some z=>simp
  dsimp only;rw[w];exact L_
 have g:l=[]:=length_eq_zero_iff.1 (J_ q);rw[F,g,OS];refine aP<|O aA<|Y aI<|V aI<|aC ?_;refine fP (H':=[]) (.inr Z) Z (aH Z) (aH Z) (Fin.st2J (A++[]) (bv true) Z Z (by rw[append_nil]) (by rw[append_nil]) H_) ?_;exact Qq
structure GoodP(p:l8):Prop where
 pre:rV p.pre=true
 cnt:p.cnt<1000000
 sum:m6 p.sum=true
 sml:p.cnt<=16->p.ids.length=p.cnt/\AI p.pre p.ids=true/\yM p.ids=p.sum
 big:16<p.cnt->p.ids=[]
theorem Ih(h:GoodP p)(n:Nat)(R:List B_):T6 (n+1) (iS p++R)=(T6 n R).map (p::·):=by
 have ⟨a,c,s,l⟩:=p;have ⟨i,j,k,g,d⟩:=h;have e:eJ (aT (c:Int))=(c:Int):=F6 X (by simp only at j;omega);simp only at i j k g d;show T6 (n+1) (a::aT (c:Int)::s::(l++R))=_;rw[T6,b7 (by rw[i,e,k,decide_eq_true X];rfl),e,l_];by_cases o:c<=16
 ·have ⟨f,m,r⟩:=g o;have b:(l++R).take c=l:=take_left' f;have q:(l++R).drop c=R:=drop_left' f;rw[b7 X,b7 ⟨by rw[j_];omega,by rw[b];exact m,by rw[b];exact r⟩,b,q]
 obtain rfl:=d X;rw[a8 X];rfl
theorem O4(n):T6 n []=some []:=by cases n<;>rfl
theorem ua:∀(P:List l8) (n:Nat),(∀p∈P,GoodP p)->P.length<=n->T6 n (P.map iS).flatten=some P
 | [],n,_,_=>O4 n
 |p::P,0,_,h=>by grind
 |p::P,n+1,h,a=>by
  rw[List.map_cons,List.flatten_cons,Ih (h p List.mem_cons_self),ua P n (λq b=>h q (List.mem_cons_of_mem _ b)) (by simpa using a)];rfl
theorem KN:∀ {p:B_} {l:List B_},AI p l=true->∀x∈l,m6 x=true/\xA p x=true
 |_,[],_,x,c=>by cases c
 |p,[a],h,x,c=>by
  rw[r6]at c;subst c
  simpa[AI]using h
 |p,a::b::r,h,x,c=>by
  simp only[AI,k_]at h;rcases l9.1 c with rfl|c
  ·exact h.1.1
  exact KN h.2 x c
theorem S4(h:GoodP p):∀s∈iS p,s.size<1000000:=by
 intro s a;rw[iS,mem_append]at a;rcases a with a|a
 ·simp only[l9,q7,or_false]at a;rcases a with rfl|rfl|rfl
  ·have:=h.pre;rw[rV,k_,j0]at this;omega
  ·have:=nL (n:=(p.cnt:Int)) X (by have:=h.cnt;omega);omega
  have:=jY h.sum;omega
 by_cases b:p.cnt<=16
 ·have:=jY ((KN (h.sml b).2.1 s a).1);omega
 rw[h.big X]at a;cases a
theorem zx(P:List l8)(h:∀p∈P,GoodP p)(g:P.length<1000000):xV (BK (P.map iS))=P:=by
 have c:∀s∈eZ::aT ((P.map iS).length:Int)::(P.map iS).flatten,s.size<1000000:=by
  intro s c;rcases l9.1 c with rfl|c
  ·decide
  rcases l9.1 c with rfl|c
  ·have:=nL (n:=((P.map iS).length:Int)) X (by rw[j6];omega);omega
  have ⟨q,f,e⟩:=mem_flatten.1 c;obtain ⟨p,i,rfl⟩:=mem_map.1 f;exact S4 (h p i) s e
 have d:P.length<=((P.map iS).flatten).length:=by
  clear c h g
  induction P with
  |nil=>exact g_ _
  |cons p P ih=>rw[map_cons,flatten_cons,j_,j7,iS,j_];simp only[j7,length_nil];omega
 rw[xV,BK,cG,tV _ c];show (if eZ=eZ then(match T6 _ _ with|some Q=>if(Q.length:Int)=eJ _ then Q else[]|none=>[])else[])=_;rw[b7 Z,ua P _ h d];show (if(P.length:Int)=eJ (aT ((P.map iS).length:Int))then P else[])=P;rw[F6 X (by rw[j6];omega),j6,b7 rfl]
theorem kd(L:List B_)(h:∀s∈L,m6 s=true)(b:L≠[]):vP (qI (L.map λs=>[s]))=L:=by
 have e:(L.map λs=>[s]).flatten=L:=by clear h b;induction L with|nil=>rfl|cons a L d=>rw[map_cons,flatten_cons,d];rfl
 obtain ⟨a,L,rfl⟩:=exists_cons_of_ne_nil b;rw[vP,qI,e,cG,tV _ (by
  intro s c;rcases l9.1 c with rfl|c
  ·decide
  have:=jY (h s c);omega)]
 show (if oK=oK/\(a::L).all m6=true then a::L else[])=_
 simp_all
theorem uc:∀(p x:List UInt8),(∀b∈x,b<103)->p.isPrefixOf x=(!decide (x<p)&&decide (x<p++[103]))
 | [],[],_=>by simp
 | [],b::x,h=>by
  have d:=h b mem_cons_self;have:(b::x)<[103]:=cons_lt_cons_iff.2 (.inl d);simp[this]
 |c::p,[],_=>by simp
 |c::p,b::x,h=>by
  have i:=uc p x λy g=>h y (mem_cons_of_mem _ g);rw[List.isPrefixOf,i,cons_append];simp only[cons_lt_cons_iff];by_cases e:b=c
  ·subst e;simp[UInt8.lt_irrefl]
  have f:(c == b)=false:=by simpa using λh=>e h.symm
  rw[f];by_cases a:b<c
  ·simp[a]
  simp[a,e]
theorem Ul(h:vT b=true):b<103:=by simp only[vT,Bool.or_eq_true,k_,j0]at h;all_goals grind
theorem Uf(h:m6 s=true):∀b∈s.data.toList,b<103:=by rw[m6,k_]at h;exact λb a=>Ul (all_eq_true.1 h.2 b a)
def sG:B_:=⟨#[103]⟩
theorem Vt(p:B_){x:B_}(h:m6 x=true):xA p x=(!lA x p&&lA x (p++sG)):=by rw[xA,uc _ _ (Uf h),CK,CK];rfl
theorem SC{α:Type}(a b:α->Bool):∀(l:List α),l.Pairwise (λx y=>(a y=true->a x=true)/\(b y=true->b x=true))->(∀x∈l,a x=true->b x=true) ->
  (l.take (l.findIdx λx=>!b x)).drop (l.findIdx λx=>!a x)=l.filter λx=>!a x&&b x
 | [],_,_=>rfl
 | x :: r, h, d => by
  rw[List.pairwise_cons]at h;have i:=SC a b r h.2 λy c=>d y (mem_cons_of_mem _ c);rw[findIdx_cons,findIdx_cons];cases g:a x with
  |true =>
   have f:=d x mem_cons_self g;rw[f];simp only[Bool.not_true,cond_false,take_succ_cons,drop_succ_cons];rw[i,filter_cons_of_neg (by simp[g])]
  | false =>
   have j:∀y∈r,a y=false:=λy c=>by
    cases e:a y with
    |false=>rfl
    |true=>have:=(h.1 y c).1 e;rw[g]at this;cases this
   have m:(r.findIdx λy=>!a y)=0:=by
    cases r with
    |nil=>rfl
    |cons y r=>rw[findIdx_cons,j y mem_cons_self];rfl
   rw[m,drop_zero]at i;cases f:b x with
   |true =>
    simp only[Bool.not_true,Bool.not_false,cond_false,cond_true,take_succ_cons,drop_zero];rw[i,filter_cons_of_pos (by simp[g,f])]
   | false =>
    have k:∀y∈r,b y=false:=λy c=>by
     cases e:b y with
     |false=>rfl
     |true=>have:=(h.1 y c).2 e;rw[f]at this;cases this
    simp only[Bool.not_false,cond_true,take_zero,drop_zero];rw[filter_eq_nil_iff.2];intro y c;rcases l9.1 c with rfl|c
    ·simp[f]
    simp[k y c]
abbrev EF(l:List B_):Prop:=l.Pairwise λx y=>lA x y=true
theorem tW{b:B_}(h1:lA a b=true)(h2:lA b c=true):lA a c=true:=by
 rw[CK]at *
 grind
theorem sr(x p q:B_)(h:lA x p=true):lA x (p++q)=true:=by
 rw[CK,j0]at *;rw[ByteArray.data_append,Array.toList_append];generalize x.data.toList=a,p.data.toList=b,q.data.toList=c at *
 induction b generalizing a with
 |nil=>exact absurd h (not_lt_nil a)
 | cons y b f =>
  cases a with
  |nil=>exact nil_lt_cons _ _
  |cons z a =>
   rw[cons_append];rcases cons_lt_cons_iff.1 h with d|⟨e,d⟩
   ·exact cons_lt_cons_iff.2 (.inl d)
   exact cons_lt_cons_iff.2 (.inr ⟨e,f _ d⟩)
theorem Es(a:List B_)(p:B_)(e:EF a)(hJ:∀x∈a,m6 x=true):(a.take (ez id a (p++sG))).drop (ez id a p)=kE a p:=by rw[ez,ez,kE];show (a.take (a.findIdx λx=>!lA x (p++sG))).drop (a.findIdx λx=>!lA x p)=_;rw[SC (λx=>lA x p) (λx=>lA x (p++sG)) a (e.imp λh=>⟨λc=>tW h c,λc=>tW h c⟩) λx _ h=>sr x p sG h];exact filter_congr λx d=>(Vt p (hJ x d)).symm
def IB(t:B_):Option B_:=if(dZ t.data.toList).2=0 then some (MU (dZ t.data.toList).1)else none
def mI(a:List (B_×B_))(t:B_):List (B_×B_):=match IB t with
 |none=>a
 |some i=>if a.any (λp=>decide (p.1=i))=true then a else a++[(i,t)]
def oD(l:List B_):List (B_×B_):=l.foldl mI []
def qB(l:List B_):List B_:=jG ((oD l).map Prod.fst)
def oN(o:List (B_×B_))(i:B_):B_:=((o.find? λp=>decide (p.1=i)).map Prod.snd).getD a6
def oJ(ids s:List B_)(i:B_):List B_:=if decide (i∈ids)&&!decide (i∈s)then s++[i]else s
structure GRep where
 sent:List B_
 wants:List (List B_)
 offers:List (List B_)
def MV:List B_:=[48,49,50,51,52,53,54,55,56,57,97,98,99,100,101,102].map λb=>⟨#[b]⟩
def BZ(ids:List B_)(r:GRep)(p:l8):GRep :=if p.cnt<=16 then⟨((kE ids p.pre).filter λi=>!decide (i∈p.ids)).foldl (oJ ids) r.sent,r.wants++(p.ids.filter λi=>!decide (i∈ids)).map (λi=>[i]),r.offers⟩
 else if p.cnt=(eG ids p.pre).cnt/\p.sum=(eG ids p.pre).sum then r
 else if(eG ids p.pre).cnt<=16 then⟨r.sent,r.wants,r.offers++[iS (eG ids p.pre)]⟩
 else⟨r.sent,r.wants,r.offers++MV.map λd=>iS (eG ids (p.pre++d))⟩
def HQ(ids:List B_)(t:B_):GRep:=(xV t).foldl (BZ ids) ⟨(vP t).foldl (oJ ids) [],[],[]⟩
def De(T:List (List B_)->B_)(l:List (List B_)):Nat->Nat->Nat
 |0,n=>n
 |f+1,n=>if n<l.length/\(T (l.take (n+1))).size<=18000 then De T l f (n+1)else n
def ue(T:List (List B_)->B_):Nat->List (List B_)->List B_
 |0,_=>[]
 |f+1,l=>if l=[]then[]else T (l.take (De T l l.length 1))::ue T f (l.drop (De T l l.length 1))
def mj(T:List (List B_)->B_)(l:List (List B_)):List B_:=ue T l.length l
def D3(texts:List B_)(t:B_):List B_ :=(HQ (qB texts) t).sent.map (oN (oD texts))++(mj qI (HQ (qB texts) t).wants++mj BK (HQ (qB texts) t).offers)
theorem zj(l)(t):oD (l++[t])=mI (oD l) t:=by rw[oD,foldl_append];rfl
theorem YT(T:List (List B_)->B_)(l:List (List B_)):∀f n,n<=De T l f n
 |0,n=>g_ n
 |f+1,n=>by
  rw[De]
  split
  ·exact Nat.le_trans (Nat.le_succ n) (YT T l f (n+1))
  exact g_ n
theorem zi(l:List B_):((oD l).map Prod.fst).Nodup:=by
 have h:∀(l:List B_) (a:List (B_×B_)),(a.map Prod.fst).Nodup->((l.foldl mI a).map Prod.fst).Nodup:=by
  intro l
  induction l with
  |nil=>exact λa h=>h
  | cons t l g =>
   intro a h;rw[foldl_cons];refine g _ ?_;rw[mI];cases IB t with
   |none=>exact h
   |some i =>
    simp only
    split
    ·exact h
    next j =>
    rw[map_append,nodup_append];refine⟨h,H_,?_⟩;intro x k y d e;simp only[map_cons,map_nil,r6]at d;subst d e;obtain ⟨p,f,rfl⟩:=mem_map.1 k;exact j (any_eq_true.2 ⟨p,f,H_⟩)
 exact h l [] H_
theorem So(l:List B_)(i:B_):i∈(oD l).map Prod.fst↔∃t∈l,IB t=some i:=by
 have h:∀(l:List B_) (a:List (B_×B_)),i∈(l.foldl mI a).map Prod.fst↔i∈a.map Prod.fst\/∃t∈l,IB t=some i:=by
  intro l
  induction l with
  |nil=>intro a;simp
  | cons t l g =>
   intro a;rw[foldl_cons,g];have k:i∈(mI a t).map Prod.fst↔i∈a.map Prod.fst\/IB t=some i:=by
    rw[mI];cases e:IB t with
    |none=>simp
    | some j =>
     simp only
     split
     ·next f =>
      have ⟨p,d,c⟩:=any_eq_true.1 f;rw[j0]at c;constructor
      ·exact .inl
      rintro(h|h)
      ·exact h
      obtain rfl:=Option.some.inj h;exact mem_map.2 ⟨p,d,c⟩
     simp[eq_comm]
   rw[k,or_assoc];simp
 rw[oD,h];simp
theorem SO(l)(i):i∈qB l↔∃t∈l,IB t=some i:=by rw[qB,(xN _).mem_iff,So]
theorem yb(l:List B_)(h:l.Nodup):EF (jG l):=by
 have i:(jG l).Nodup:=(xN l).nodup_iff.2 h;have g:(jG l).Pairwise λx y=>sb x<=sb y:=by
  rw[jG,pairwise_map];refine(pairwise_mergeSort (le:=λ(x y:List UInt8)=>decide (x<=y)) (λa b c e f=>?_) (λa b=>?_) (l.map sb)).imp fun {a b} d=>?_
  ·rw[j0]at *;exact List.le_trans e f
  ·simp only[Bool.or_eq_true,j0];exact List.le_total a b
  rw[j0]at d;exact d
 refine g.imp₂ (λa b e f=>?_) i;rw[CK,j0];rcases List.le_iff_lt_or_eq.1 e with h|h
 ·exact h
 exact absurd (by rw[<-uj a,<-uj b,h]) f
theorem BS(l):EF (qB l):=yb _ (zi l)
theorem km{r}(h:(mF r).2=0):gY r=true:=by
 by_cases a:gY r=true
 ·exact a
 rw[mF,a8 a]at h;cases h
theorem Kv(h:IB t=some i):m6 i=true:=by
 rw[IB]at h
 split at h
 ·next a =>
  obtain rfl:=Option.some.inj h;rw[MU,b7 (km (by rw[RQ a]))];exact C3 _
 cases h
theorem oz(l):∀x∈qB l,m6 x=true:=λx a=>by
 have ⟨t,_,h⟩:=(SO l x).1 a;exact Kv h
theorem KO(l:List B_):(qB l).length<=l.length:=by
 rw [qB,kC,j6];have h:∀ (l:List B_) (a:List (B_×B_)),(l.foldl mI a).length<=a.length+l.length:=by
  intro l
  induction l with
  |nil=>exact λa=>g_ _
  | cons t l c =>
   intro a;rw[foldl_cons,j7];refine Nat.le_trans (c _) ?_;have:(mI a t).length<=a.length+1:=by
    rw[mI];cases IB t with
    |none=>exact le_succ _
    |some i =>
     simp only
     split
     ·exact le_succ _
     rw[j_];exact g_ _
   omega
 have:=h l []
 simpa[oD]using this
theorem QM(s):lA s s=false:=by
 rw[CK]
 simp_all
theorem X6:∀(a b:List B_),EF a->EF b->(∀x,x∈a↔x∈b)->a=b
 | [],[],_,_,_=>rfl
 | [],y::b,_,_,h=>by have:=(h y).2 mem_cons_self;cases this
 |x::a,[],_,_,h=>by have:=(h x).1 mem_cons_self;cases this
 | x::a,y::b,k,i,h=>by
  have d:=pairwise_cons.1 k;have c:=pairwise_cons.1 i;have e:x=y:=by
   rcases l9.1 ((h x).1 mem_cons_self)with e|g
   ·exact e
   rcases l9.1 ((h y).2 mem_cons_self)with e|j
   ·exact e.symm
   have:=tW (d.1 y j) (c.1 x g);rw[QM]at this;cases this
  subst e;rw[X6 a b d.2 c.2 λz=>?_];constructor
  ·intro f;rcases l9.1 ((h z).1 (mem_cons_of_mem _ f))with e|g
   ·have:=d.1 z f;rw[e,QM]at this;cases this
   exact g
  intro f;rcases l9.1 ((h z).2 (mem_cons_of_mem _ f))with e|g
  ·have:=c.1 z f;rw[e,QM]at this;cases this
  exact g
theorem Uj{a b}(h:∀t,t∈a↔t∈b):qB a=qB b :=X6 _ _ (BS a) (BS b) λx=>by rw[SO,SO];simp_all
theorem Re{a}(h:EF a)(p):EF (kE a p):=h.sublist filter_sublist
theorem vg:∀(p:B_) (l:List B_),EF l->(∀x∈l,m6 x=true/\xA p x=true)->AI p l=true
 |_,[],_,_=>rfl
 |p,[x],_,h=>by
  obtain ⟨a,b⟩:=h x mem_cons_self;rw[AI,a,b];rfl
 |p,x::y::r,c,h=>by
  have ⟨a,b⟩:=h x mem_cons_self;have c:=pairwise_cons.1 c;rw[AI,a,b,c.1 y mem_cons_self,vg p (y::r) c.2 λz d=>h z (mem_cons_of_mem _ d)];rfl
theorem xF{ids:List B_}(i:EF ids)(hJ:∀x∈ids,m6 x=true){p:B_}(h:rV p=true)(g:ids.length<1000000):GoodP (eG ids p):=by
 have d:(kE ids p).length<=ids.length:=length_filter_le _ _;refine⟨h,Nat.lt_of_le_of_lt d g,C3 _,λc=>?_,λc=>?_⟩
 ·have c:(kE ids p).length<=16:=c;have e:(eG ids p).ids=kE ids p:=by rw[eG];exact b7 c
  rw[e];exact⟨Z,vg p _ (Re i p) λx f=>by
   rw[kE,mem_filter]at f;exact⟨hJ x f.1,f.2⟩,Z⟩
 have c:16<(kE ids p).length:=c;rw[eG];exact a8 X
theorem td(a):kE a a6=a:=filter_eq_self.2 λx _=>rfl
def kG(ids:List B_):B_:=BK [iS (eG ids a6)]
theorem HZ{a:List B_}(c:EF a)(hJ:∀x∈a,m6 x=true)(d:a.length<1000000):xV (kG a)=[eG a a6] :=zx [eG a a6] (λp b=>by rw[r6]at b;subst b;exact xF c hJ E_ d) (show 1<1000000 by decide)
theorem Qi(L:List (List B_))(h:∀s∈L.flatten,s.size<1000000)(hl:L.length<1000000):pL (BK L).data.toList=some (eZ::aT (L.length:Int)::L.flatten):=by
 rw[BK,cG];refine tV _ λs a=>?_;rcases l9.1 a with rfl|a
 ·decide
 rcases l9.1 a with rfl|a
 ·have:=nL (n:=(L.length:Int)) X X;omega
 exact h s a
theorem bg(P:List l8)(h:∀p∈P,GoodP p)(e:P.length<1000000):vP (BK (P.map iS))=[]:=by
 rw[vP,Qi _ (λs d=>by
  have ⟨q,c,a⟩:=mem_flatten.1 d;obtain ⟨p,b,rfl⟩:=mem_map.1 c;exact S4 (h p b) s a) (by rw[j6];exact e)]
 rfl
theorem Vj(ids:List B_)(r:GRep)(p:B_):BZ ids r (eG ids p)=r:=by
 rw[BZ];by_cases c:(eG ids p).cnt<=16
 ·have d:(kE ids p).length<=16:=c;have e:(eG ids p).ids=kE ids p:=by rw[eG];exact b7 d
  have g:((kE ids (eG ids p).pre).filter λi=>!decide (i∈(eG ids p).ids))=[]:=by
   rw[e];refine filter_eq_nil_iff.2 λx b=>?_;have b:x∈kE ids p:=b;rw[decide_eq_true b];decide
  have f:((eG ids p).ids.filter λi=>!decide (i∈ids))=[]:=by
   rw[e];refine filter_eq_nil_iff.2 λx b=>?_;rw[kE,mem_filter]at b;rw[decide_eq_true b.1];decide
  rw[b7 c,g,f];cases r;simp
 rw[a8 c,b7 ⟨Z,Z⟩]
theorem vv(a b:List B_)(h:∀t,t∈b↔t∈a)(hl:a.length<1000000):D3 b (kG (qB a))=[]:=by
 have hlen:=KO a;have d:∀p∈[eG (qB a) a6],GoodP p:=λp c=>by rw[r6]at c;subst c;exact xF (BS _) (oz _) E_ X
 have e:HQ (qB b) (kG (qB a))=⟨[],[],[]⟩:=by
  rw[HQ,HZ (BS _) (oz _) X,show vP (kG (qB a))=[]from bg [eG (qB a) a6] d (show 1<1000000 by decide),Uj h];exact Vj _ _ _
 rw[D3,e];rfl
theorem As(l){t}(a:xV t=[])(b:vP t=[]):D3 l t=[]:=by rw[D3,HQ,a,b];rfl
theorem Kq(s:B_)(H:aF):RC 193 [sv s] (bv false) H:=by
 refine Pu<|Bd func193 Z ntmps193<|Sz aI<|O aA<|Y aA<|Y DZ<|V aI<|aC<|Rt ?_
 simp_all
theorem M9(l:List B_)(s:B_)(H:aF)(hl:l.length<2^40)(D:EF l):RC 135 [.pv (aL l),sv s] (.tup [iv (ez id l s:Nat),bv (fp id l s)]) H:=by
 refine Pu ?_;have B:(l.map S_).length=l.length:=j6 _;refine Bd func135 Z ntmps135<|O aI<|V aI<|O aA<|Y (fW lZ)<|V aI<|O aA<|Y aI<|V aI<|S<|aD<|eU (λ(i j:Nat)=>([(0,.pv (aL l)),(1,sv s),(6,iv ((l.map S_).length:Int)),(7,iv (i:Int)),(8,iv (j:Int))],[])) (λi j=>i<=j/\j<=l.length/\(∀k,k<i->∀o,l[k]?=some o->lA (id o) s=true)/\∀k,j<=k->∀o,l[k]?=some o->lA (id o) s=false) (λi j=>j - i) 0 l.length ⟨X,X,X,λk hk o ho=>?_⟩ ?_ ?_
 ·have:=(m9.1 ho).1;omega
 ·rw[<-B];exact E0
 rintro i j ⟨hij,G,hlo,t⟩;refine S<|O aA<|Y aA<|V cJ<|Cn ?_ ?_<;>intro v
 ·have n:i<j:=I_ v
  have ⟨I,c_⟩:=Uq n;have ⟨m,F⟩:∃m,m=(i+j) / 2:=X_;rw[<-F]at I c_;have ⟨o,ho⟩:=aS (l:=l) (k:=m) X;have w:=cE (f:=S_) ho;have K:IntKind.u64.wrap ((i:Int)+(j:Int))=((i+j:Nat):Int):=by rw[IntKind.wrap_u64];omega
  have E:IntKind.i64.wrap (((i+j:Nat):Int) / 2)=(m:Int):=by rw[IntKind.wrap_i64];omega
  refine aB<|aD<|O aA<|Y aA<|Y gX<|Y (eE Z underlying3 kZ Z K)<|Y (by exact F2 Z Z Z X (by simp[IntKind.bits];try omega) Z)<|Y (eE Z kZ underlying3 Z E)<|V aI<|O aA<|Y aA<|Y (iO QK)<|Y (fZ N_ (hi:=w))<|Y aA<|V (kc call186 (uu _ _ _)) ?_;refine Cn ?_ ?_<;>intro u
  ·have y:lA o s=true:=u;refine Rd aA<|Y gX<|Da ?_;refine⟨m+1,j,⟨X,X,λk hk x p=>?_,t⟩,X,E0⟩;by_cases e:k=m
   ·subst e;rw[ho]at p;cases p;exact y
   exact tW (PO (f:=id) D X p ho) y
  have y:lA o s=false:=u;refine Rd aA<|Da ?_;refine⟨i,m,⟨X,X,hlo,λk hk x p=>?_⟩,X,E0⟩;by_cases e:k=m
  ·subst e;rw[ho]at p;cases p;exact y
  cases h:lA (id x) s with
  |false=>rfl
  |true =>
   have:=tW (PO (f:=id) D X ho p) h;rw[show lA (id o) s=lA o s from Z,y]at this;cases this
 have d_:i=j:=J_ v
 subst d_;have z:ez id l s=i:=aA2 G hlo (λo ho=>t i (g_ _) o ho);by_cases n:i<l.length
 ·have ⟨o,ho⟩:=aS n;have w:=cE (f:=S_) ho;have hlt2:decide ((i:Int)<((l.map S_).length:Int))=true:=decide_eq_true X;have hk:=Up D hlo ho (t i (g_ _) o ho);have hk:fp id l s=decide (o=s):=hk;rw[z,hk];by_cases A:o=s
  ·rw[decide_eq_true A];have q:AV.pv (.bool (decide (o=s)))=bv true:=by rw[decide_eq_true A]
   refine aP<|O aA<|Y aA<|Y aA<|Y (cN.eqv (iC Z Z Z) (by rw[hlt2]))<|Y aA<|U aA<|U aA<|U (iO QK)<|U (fZ N_ (hi:=w))<|U aA<|U (cN.eqv (J0 Z Z Z) q)<|U aA<|M<|M<|M<|M<|M<|M<|qS Z Z Z rfl<|qS Z Z Z Z ?_;exact M<|U cC<|Y cC<|Y aI<|V aI<|aC<|Ru<|Qq
  rw[decide_eq_false A];have q:AV.pv (.bool (decide (o=s)))=bv false:=by rw[decide_eq_false A]
  exact aP<|O aA<|Y aA<|Y aA<|Y (cN.eqv (iC Z Z Z) (by rw[hlt2]))<|Y aA<|U aA<|U aA<|U (iO QK)<|U (fZ N_ (hi:=w))<|U aA<|U (cN.eqv (J0 Z Z Z) q)<|U aA<|U aA<|U aA<|U (iO QK)<|U (fZ N_ (hi:=w))<|U (kc call193 (Kq _ _))<|U aA<|M<|M<|U cC<|U cC<|Y cC<|Y aI<|V aI<|aC<|Ru<|Qq
 have hlt2:AV.pv (.bool (decide ((i:Int)<((l.map S_).length:Int))))=bv false:=by rw[decide_eq_false X]
 have hk:=Am (λk hk o ho=>hlo k X o ho);rw[z,hk];refine aP<|O aA<|Y aA<|Y aA<|Y (cN.eqv (iC Z Z Z) hlt2)<|Y aA<|M<|M<|M<|M<|M<|M<|M<|qS Z Z Z rfl<|qS Z Z Z rfl<|qS Z Z Z rfl<|qS Z Z Z rfl<|qS Z Z Z rfl<|qS Z Z Z rfl<|qS Z Z Z rfl<|qS Z Z Z rfl<|qS Z Z Z Z ?_;exact M<|Y cC<|Y aI<|V aI<|aC<|Ru<|Qq
theorem Un(l)(s):fp id l s=decide (s∈l):=by
 rw[fp,Bool.eq_iff_iff,any_eq_true]
 simp_all
theorem Lb(l:List B_)(s:B_)(H:aF)(c:l.length<2^40)(b:EF l):RC 92 [.pv (aL l),sv s] (bv (decide (s∈l))) H:=by refine Pu ?_;rw[<-Un];exact Bd func92 Z ntmps92<|Sz aI<|O aA<|Y aA<|Y (kc call135 (M9 l s _ c b))<|Y aA<|Y dK<|Y dK<|Y aI<|V aI<|O aA<|V aI<|aC<|Rt<|Qq
theorem Kf{l:List B_}(p q:B_):ez id l p<=ez id l (p++q):=by
 rw[ez,ez]
 induction l with
 |nil=>simp_all
 | cons x l a =>
  rw[findIdx_cons,findIdx_cons];cases h:lA (id x) p with
  |true =>
   rw[sr (id x) p q h];exact succ_le_succ a
  |false=>exact l7 _
theorem bk(l:List B_)(p:B_)(H:aF)(f:l.length<2^40)(d:EF l)(hJ:∀x∈l,m6 x=true)(hp:p.size<2^40):RC 80 [.pv (aL l),sv p] (.pv (aL (kE l p))) H:=by
 refine Pu ?_;have h1:=Kg id l p;have h2:=Kg id l (p++sG);have j:=Kf (l:=l) p sG;have hml:(l.map S_).length=l.length:=j6 _;have g:=Es l p d hJ;have i:((l.map S_).take (ez id l (p++sG))).drop (ez id l p)=(kE l p).map S_:=by rw[<-g,map_drop,map_take]
 have h:=λH=>M9 l p H f d;have e:=λH=>M9 l (p++sG) H f d;generalize ez id l p=a at *;generalize ez id l (p++sG)=b at *;exact Bd func80 Z ntmps80<|Sz aI<|O aA<|Y aA<|Y (kc call135 (h _))<|Y aA<|Y dK<|Y dK<|Y aI<|V aI<|O aA<|Y aA<|Y (by exact fC Z Z Z (by show p.size+1<=9223372036854775807;omega) (r:=p++sG) Z)<|Y (kc call135 (e _))<|Y aA<|Y dK<|Y dK<|Y aI<|V aI<|O aA<|Y aA<|Y aA<|Y (eY (l:=a) (h:=b) Z QK Z (fY l) Z Z j X i)<|V aI<|aC<|Rt<|Qq
theorem Fm(L:List B_)(h:∀s∈L,s.size<1000000):pL (a_ (aN (oK::L))).data.toList=some (oK::L):=by
 rw[cG];exact tV _ λs a=>by
  rcases l9.1 a with rfl|a
  ·decide
  exact h s a
theorem zw(L:List B_)(h:∀s∈L,s.size<1000000):xV (qI (L.map λs=>[s]))=[]:=by
 have e:(L.map λs=>[s]).flatten=L:=by clear h;induction L with|nil=>rfl|cons a L b=>rw[map_cons,flatten_cons,b];rfl
 rw[xV,qI,e,Fm L h];cases L with
 |nil=>rfl
 |cons a L =>
  show (if oK=eZ then _ else[])=[];rw[a8 E_]
theorem VT(h:IB t=some i):∃r:j8,t=a_ (aN (jJ r))/\t.size<=20000:=by
 rw[IB]at h
 split at h
 ·next d =>
  have a:=RQ d;rw[mF]at a
  split at a
  ·split at a
   ·exact absurd (congrArg Prod.snd a) (by show ¬ ((2:Int)=0);decide)
   next hl =>
   have b:=congrArg Prod.fst a;rw[fQ]at b;have b:a_ (aN (jJ (dZ t.data.toList).1))=t:=b;refine⟨(dZ t.data.toList).1,b.symm,?_⟩;have c:=congrArg ByteArray.size b;rw[bZ]at c;omega
  exact absurd (congrArg Prod.snd a) (by show ¬ ((1:Int)=0);decide)
 cases h
theorem NU:∀ {L:List B_} {x:B_},x∈L->x.size<=(aN L).length
 | [],x,h=>by cases h
 |a::L,x,h=>by
  rw[iB,j_,j7,j_,aR];rcases l9.1 h with rfl|h
  ·omega
  have:=NU h;omega
theorem Rk(h:IB t=some i):xV t=[]/\vP t=[]:=by
 obtain ⟨r,rfl,d⟩:=VT h;rw[bZ]at d;have b:=tV (jJ r) (λs c=>by have:=NU c;omega);have ⟨R,e⟩:∃R,jJ r=GN::R:=⟨_,rfl⟩;rw[e]at b |-;constructor
 ·rw[xV,cG,b];cases R with
  |nil=>rfl
  |cons a R =>
   show (if GN=eZ then _ else[])=[];rw[a8 E_]
 rw[vP,cG,b];cases R with
 |nil=>rfl
 |cons a R =>
  show (if GN=oK/\_ then _ else[])=[];rw[a8 λh=>absurd h.1 E_]
theorem Uk{P:List l8}(h:xV (BK (P.map iS))=P)(hne:P≠[]):IB (BK (P.map iS))=none:=by
 cases e:IB (BK (P.map iS))with
 |none=>rfl
 |some i=>rw[(Rk e).1]at h;simp_all
theorem Mp(p x):xA p x=true↔p.data.toList <+: x.data.toList:=by rw[xA,isPrefixOf_iff_prefix]
theorem Um:∀d∈MV,d.size=1/\d.data.toList.all vT=true:=by decide +kernel
structure IdS(A_:List B_):Prop where
 srt:EF A_
 dig:∀x∈A_,m6 x=true
 len:A_.length<1000000
theorem aA5{l}(h:l.length<1000000):IdS (qB l):=⟨BS l,oz l,Nat.lt_of_le_of_lt (KO l) h⟩
theorem aCL{A_}{q}(h:(kE A_ q).length<=16):(eG A_ q).ids=kE A_ q:=b7 h
theorem tf{A_}{q x}:x∈kE A_ q↔x∈A_/\xA q x=true:=mem_filter
theorem xZ:∀(L),(∀s∈L,s.size<=16)->(aN L).length<=19*L.length
 | [],_=>g_ _
 |x::L,h=>by
  have h1:=h x mem_cons_self;have h2:=xZ L λs b=>h s (mem_cons_of_mem _ b);have h3:(decDigits x.size).length<=2:=cV (k:=2) X E_;rw[iB,j_,j7,j_,aR,j7];omega
theorem ga(h:GoodP p):∀s∈iS p,s.size<=16:=by
 intro s a;rw[iS,mem_append]at a;rcases a with a|a
 ·simp only[l9,q7,or_false]at a;rcases a with rfl|rfl|rfl
  ·have:=h.pre;rw[rV,k_,j0]at this;exact this.1
  ·rw[BQ,bZ];exact Nat.le_trans (cV (k:=6) h.cnt E_) E_
  exact Nat.le_of_eq (jY h.sum)
 by_cases b:p.cnt<=16
 ·exact Nat.le_of_eq (jY ((KN (h.sml b).2.1 s a).1))
 rw[h.big X]at a;cases a
theorem vt(h:GoodP p):(iS p).length<=19:=by
 rw[iS,j_];have:p.ids.length<=16:=by
  by_cases a:p.cnt<=16
  ·have:=(h.sml a).1;omega
  rw[h.big X];simp_all
 simp only[j7,length_nil];omega
theorem Tb(h:GoodP p):(BK [iS p]).size<=20000:=by
 rw[BK,bZ];refine Nat.le_trans (xZ _ λs a=>?_) ?_
 ·rcases l9.1 a with rfl|a
  ·decide
  rcases l9.1 a with rfl|a
  ·exact(by decide +kernel:(aT ((1:Nat):Int)).size<=16)
  rw[flatten_cons,flatten_nil,append_nil]at a;exact ga h s a
 rw[j7,j7,flatten_cons,flatten_nil,append_nil];have:=vt h;omega
theorem Ei(h:m6 s=true):(qI [[s]]).size<=20000:=by
 refine Nat.le_trans (xZ _ λx a=>?_) H_;rcases l9.1 a with rfl|a
 ·decide
 have:x=s:=by simpa using a
 rw[this,jY h];decide
theorem Hd{y_}{L}(b:∀s∈L,m6 s=true)(a:L≠[]):HQ y_ (qI (L.map λs=>[s]))=⟨L.foldl (oJ y_) [],[],[]⟩:=by rw[HQ,zw L λs c=>by have:=jY (b s c);omega,kd L b a];rfl
def dC(p:l8):List PV:=[.str p.pre,.str p.sum,.int .i64 (p.cnt:Int),aL p.ids]
def CM(P:List l8):PV:=.sl (P.map dC)
theorem JH(p:l8)(H:aF):RC 82 [av (dC p)] (bv (decide ((p.cnt:Int)<=16))) H:=by refine aU.pure ?_ F_ H;exact Bd func82 Z ntmps82<|O (kb 1)<|V aI<|O (bA E7)<|Y (bQ M_)<|Y G8<|V aI<|aC<|Rt<|Qq
theorem ot{A_}(hJ:∀x∈A_,m6 x=true):(aN A_).length<=19*A_.length:=xZ A_ λs a=>Nat.le_of_eq (jY (hJ s a))
theorem u3{p:Prop}(h:p:=by exact aW Z iJ dT Z Z Z Z (by simp only[Zl,S_,dC];rfl) Z):p:=h
theorem x3{p:Prop}(h:p:=by simp only[Zl,S_,dC];rfl):p:=h
theorem dk(l:List B_)(p:B_)(H:aF)(hS:IdS l)(s:p.size<2^40):RC 35 [.pv (aL l),sv p] (av (dC (eG l p))) H:=by
 refine Pu ?_;have hlen:=hS.len;have i:=λH=>bk l p H X hS.srt hS.dig s;have k:(kE l p).length<=l.length:=length_filter_le _ _;have n:=ot (A_:=kE l p) λx t=>hS.dig x (tf.1 t).1;have f:=λH=>ZI (kE l p) H X;have d:(kE l p).length<=16->eG l p=⟨p,(kE l p).length,yM (kE l p),kE l p⟩:=λh=>by rw[eG,b7 h]
 have e:¬ (kE l p).length<=16->eG l p=⟨p,(kE l p).length,yM (kE l p),[]⟩:=λh=>by rw[eG,a8 h]
 generalize kE l p=R at i f d e k;generalize eG l p=Q at d e |-;clear n;have j:(R.map S_).length=R.length:=j6 _;have m:=λH=>JH ⟨p,R.length,yM R,[]⟩ H;refine Bd func35 Z ntmps35<|Sz (kl 4 Do)<|O aA<|Y aA<|Y (kc call80 (i _))<|V aI<|O aA<|Y aA<|Y (kc call81 (f _))<|Y aA<|Y (cN.eqv (kW Z lZ Z) (show iv ((R.map S_).length:Int)=iv (R.length:Int)by rw[j]))<|Y (oI aDJ)<|Y (kl 6 Do)<|Uu (jA dT)<|Zz<|S<|O u3<|V (kc call82 (m _)) ?_;refine Cn ?_ ?_<;>intro g
 ·have c:R.length<=16:=by have:=b9 g;simp only at this;omega
  rw[d c];refine Rd aA<|Y (bA E6)<|Uu (ku sizeOf68)<|Zz<|O u3<|Uu (jA dT)<|Zz<|aC ?_;refine cR (H':=[]) (.inr Z) Z (fB Z iJ dT Z Z Z x3 Z) (P_ (r:=av (dC ⟨p,R.length,yM R,R⟩))) ?_;exact Qq
 have c:¬ R.length<=16:=by have:=b_ g;simp only at this;omega
 rw[e c];refine aB<|O u3<|Uu (jA dT)<|Zz<|aC ?_;refine cR (H':=[]) (.inr Z) Z (fB Z iJ dT Z Z Z x3 Z) (P_ (r:=av (dC ⟨p,R.length,yM R,[]⟩))) ?_;exact Qq
theorem M2(p:l8)(H:aF)(hc:p.cnt<2^40)(hl:p.ids.length<2^40):RC 36 [av (dC p)] (.pv (aL (iS p))) H:=by
 refine aU.pure ?_ F_ H;have d:(p.ids.map S_).length=p.ids.length:=j6 _;have e:3+p.ids.length=(iS p).length:=by rw[iS,j_];rfl
 refine Bd func36 Z ntmps36<|O (kb 1)<|V aI<|S<|aM a7<|Cr [1] (λ_ h=>fh M0 h)<|Cr [1] (λ_ h=>lh N_ h)<|Cr [1] (λ_ h=>fh E7 h)<|Cr [1] (λ_ h=>lh M_ h)<|x_ (by exact bH Z Z lO Z (pQ (p.cnt:Int) X X _))<|Cr [1] (λ_ h=>fh S3 h)<|Cr [1] (λ_ h=>lh N_ h)<|Cp [905] (λf c=>by exact gN (id:=905) Z bD Z Z Z Z (by intro r g;simp only[l9,q7,or_false]at g;rcases g with rfl|rfl|rfl<;>rfl) ((c _ Z).trans Z))<|Cr [1] (λ_ h=>fh E6 h)<|Cr [1] (λ_ h=>lh jU h)<|Cp [905] (λf c=>by exact U7 (ob:=⟨0,1,9,cB [p.pre,aT (p.cnt:Int),p.sum]⟩) (k:=(iS p).length) Z lZ bD yJ Z ((c _ Z).trans Z) Z Z Z Z Z (fY _) d X e (iV _ _)) ?_;refine Cr [905] (λ_ _=>aI)<|bG<|Kr<|aC ?_;refine cR (H':=[]) (.inr Z) Z (aH Z) (Fin.fz (id:=905) (ob:=⟨1,1,9,cB (iS p)⟩) ((iS p).map S_) Z (eT _) (.osl (iW S_ _)) Z T_ T_) ?_;exact Qq
theorem C2:∀(L:List B_),(∀s∈L,s.size<=1000000)->(aN L).length<=1000022*L.length
 | [],_=>g_ _
 |x::L,h=>by
  have h1:=h x mem_cons_self;have h2:=C2 L λs b=>h s (mem_cons_of_mem _ b);have h3:(decDigits x.size).length<=7:=cV (k:=7) X E_;rw[iB,j_,j7,j_,aR,j7];omega
theorem pT(L:List (List B_)):∀r∈L.map q_,r.length=1:=λr a=>by
 obtain ⟨t,_,rfl⟩:=mem_map.1 a;rfl
theorem ui(L:List (List B_))(H:aF)(i:L.length<2^40)(hb:L.flatten.length<549755813888)(h:(aN (eZ::aT (L.length:Int)::L.flatten)).length<35184372088832):
  RC 34 [.pv (sO L)] (sv (BK L)) H:=by
 refine Pu ?_;have f:(L.map q_).length=L.length:=j6 _;have d:=λH=>kT L H i X;have g:([[eZ,aT (L.length:Int)],L.flatten]:List (List B_)).flatten=eZ::aT (L.length:Int)::L.flatten:=H_
 have c:=λH=>kT [[eZ,aT (L.length:Int)],L.flatten] H (by decide:2<2^40) G_;rw[g]at c;exact Bd func34 Z ntmps34<|Sz aI<|O aA<|Y (cN.eqv (kW Z tJ Z) (show iv ((L.map q_).length:Int)=iv (L.length:Int)by rw[f]))<|Y (kc lO (pQ (L.length:Int) X X _))<|Y (aK ([eZ,aT (L.length:Int)].map S_) Z bD Z Z Z Z Z (fY _))<|Y aA<|Y (kc call47 (d _))<|Y (aK ([[eZ,aT (L.length:Int)],L.flatten].map q_) Z GK Z Z Z Z Z (pT _))<|Y (kc call47 (c _))<|Y (kc call78 (WV _ _ h))<|V aI<|aC<|Rt<|Qq
theorem Xx(L:List (List B_))(H:aF)(e:L.length<2^40)(hb:L.flatten.length<549755813888)(f:(aN (oK::L.flatten)).length<35184372088832):
  RC 49 [.pv (sO L)] (sv (qI L)) H:=by
 refine Pu ?_;have c:=λH=>kT L H e X;have g:([[oK],L.flatten]:List (List B_)).flatten=oK::L.flatten:=H_
 have b:=λH=>kT [[oK],L.flatten] H (by decide:2<2^40) G_;rw[g]at b;exact Bd func49 Z ntmps49<|Sz aI<|O (aK ([oK].map S_) Z bD Z Z Z Z Z (fY _))<|Y aA<|Y (kc call47 (c _))<|Y (aK ([[oK],L.flatten].map q_) Z GK Z Z Z Z Z (pT _))<|Y (kc call47 (b _))<|Y (kc call78 (WV _ _ f))<|V aI<|aC<|Rt<|Qq
theorem ik(p x:B_):xA p x=(decide ((p.size:Int)<=(x.size:Int))&&decide (x.extract 0 p.size=p)):=by
 rw[Bool.eq_iff_iff,Mp,k_,j0,j0];constructor
 ·intro h;have a:=h.length_le;rw[aR,aR]at a;refine⟨X,mS ?_⟩;have ⟨t,b⟩:=h;rw[gB,drop_zero,<-b,Nat.sub_zero,<-aR p,take_left]
 rintro⟨h1,c⟩;rw[<-c,gB,drop_zero];exact take_prefix _ _
theorem lj(x p:B_)(H:aF):RC 197 [sv x,sv p] (bv (xA p x)) H:=by
 refine Pu ?_;have hb:=ik p x;refine Bd func197 Z ntmps197<|Sz aI<|S<|aQ (t:=4) (n:=15) (A_:=xA p x) ?_ ?_
 ·all_goals refine Y aA<|Y (gE U_)<|Y aA<|Y (gE U_)<|Y zU<|Dm ?_<;>(refine Sp 10 (λb=>?_) λb=>?_)<;>(first|exact s_|refine M<|M<|M<|M<|M<|M ?_|refine U aA<|U aA<|U (gE U_)<|U (bM (l:=0) (h:=p.size) Z U_ Z Z Z (l7 _) (I_ b) Z)<|U aA<|U wH ?_)<;>refine Y cC<|Da ?_<;>(exact⟨⟨_,Z,G_⟩,Z,Z,Z⟩)
 exact aC<|Rt<|Qq
theorem fo(x p:B_)(H:aF):RC 139 [sv x,sv p] (bv (xA p x)) H:=by refine Pu ?_;exact Bd func139 Z ntmps139<|Sz aI<|O aA<|Y aA<|Y (kc call197 (lj _ _ _))<|V aI<|aC<|Rt<|Qq
theorem ov(s:B_)(H:aF)(e:s.size<2^40):RC 90 [sv s] (bv (rV s)) H:=by
 refine Pu ?_;have b:=λH=>rz s e H;have d:=bn s.data.toList;generalize Lib.trimS s.data.toList wz.data.toList=t at b d;have hb:rV s=(decide ((s.size:Int)<=16)&&decide ((⟨t.toArray⟩:B_)=a6)):=by
  rw[rV]
  grind
 clear d;refine Bd func90 Z ntmps90<|Sz aI<|S<|aQ (t:=2) (n:=10) (A_:=rV s) ?_ ?_
 ·all_goals refine Y aA<|Y (gE U_)<|Y G8<|Dm ?_<;>(refine Sp 6 (λf=>?_) λf=>?_)<;>(first|exact s_|refine M<|M<|M ?_|refine U aA<|U (kc call74 (b _))<|U wH ?_)<;>refine Y cC<|Da ?_<;>exact Gj (h:=by simp_all)
 exact aC<|Rt<|Qq
theorem SM(p:B_):∀(l:List B_),AI p l=true↔∀(k:Nat) (x:B_),l[k]?=some x->(m6 x=true/\xA p x=true)/\∀(j:Nat) (y:B_),k=j+1->l[j]?=some y->lA y x=true
 | []=>⟨λ_ k x h=>by grind,λ_=>rfl⟩
 | [a]=>by
  rw[AI,k_];constructor
  ·intro h k x c;cases k with
   |zero=>cases c;exact⟨h,λj y e=>by omega⟩
   |succ k=>simp at c
  exact λh=>(h 0 a Z).1
 | a::b::r=>by
  rw[AI,k_,k_,k_,SM p (b::r)];constructor
  ·rintro⟨⟨i,n⟩,m⟩ k x c;cases k with
   |zero=>cases c;exact⟨i,λj y e=>by omega⟩
   |succ k =>
    obtain ⟨g,f⟩:=m k x c;refine⟨g,λj y e d=>?_⟩;obtain rfl:k=j:=X
    cases k with
    |zero=>cases c;cases d;exact n
    |succ k=>exact f k y Z d
  intro h;refine⟨⟨(h 0 a Z).1,(h 1 b Z).2 0 a Z Z⟩,λk x c=>?_⟩;have ⟨g,f⟩:=h (k+1) x c;exact⟨g,λj y e d=>f (j+1) y X d⟩
def AD(p:l8):Bool:=AI p.pre p.ids&&(!decide ((p.cnt:Int)<=16)||decide (yM p.ids=p.sum))
theorem Ri(p:l8)(H:aF)(hl:p.ids.length<1000000)(R:∀s∈p.ids,s.size<1000000):RC 91 [av (dC p)] (bv (AD p)) H:=by
 refine aU.pure ?_ (by simp[dC]) H;have hml:(p.ids.map S_).length=p.ids.length:=j6 _;have D:=λH=>JH p H;have hin:=SM p.pre p.ids;rw[AD];generalize AI p.pre p.ids=I at hin |-;have o_:(aN p.ids).length<35184372088832:=by
  have h:=C2 p.ids λs P=>Nat.le_of_lt (R s P);have:1000022*p.ids.length<=1000022*1000000:=mul_le_mul_left _ X;omega
 have L:=λH=>ZI p.ids H o_;refine Bd func91 Z ntmps91<|O (kb 1)<|V aI<|S<|O (bA E6)<|Y (bQ jU)<|Y (fW lZ)<|V aA<|aD<|bF (σ:=Nat) (λk=>([(1,.ref 1 0 0 0),(6,.pv (aL p.ids)),(7,iv ((p.ids.map S_).length:Int)),(8,iv (k:Int))],[(1,bx 4 70 ((dC p).map .pv))])) (λk=>k<=p.ids.length/\∀j x,j<k->p.ids[j]?=some x->(m6 x=true/\xA p.pre x=true)/\∀(i:Nat) (y:B_),j=i+1->p.ids[i]?=some y->lA y x=true) (λk=>p.ids.length - k) 0 ⟨l7 _,λj x h=>by omega⟩ ?_ ?_
 ·exact Wk
 rintro k ⟨hk,hall⟩;refine Sz cJ<|S<|Cn ?_ ?_<;>intro B
 ·have Q:k<p.ids.length:=I_ B
  have ⟨x,hx⟩:=aS Q;have hi:=cE (f:=S_) hx;have hxs:=R x (m8 hx);have ⟨y,y_⟩:∃y,y=p.ids.getD (k - 1) a6:=X_;have hyg:(0:Int)<(k:Int)->p.ids[k - 1]?=some y:=λh=>by
   have ⟨z,t⟩:=aS (l:=p.ids) (k:=k - 1) X;rw[y_,getD_eq_getElem?_getD,t];rfl
  have d_:=λh=>cE (f:=S_) (hyg h);have w:=λH=>WY x X H;have F:=λH=>fo x p.pre H;have ⟨a,c_⟩:∃a,a=m6 x:=X_;have ⟨b,G⟩:∃b,b=xA p.pre x:=X_;have v:((!a||!b)||(decide ((0:Int)<(k:Int))&&!lA y x))=false->(m6 x=true/\xA p.pre x=true)/\∀(i:Nat) (z:B_),k=i+1->p.ids[i]?=some z->lA z x=true:=λh=>by
   rw[q8,q8,Bool.not_eq_false',Bool.not_eq_false',c_,G]at h;refine⟨h.1,λi z e t=>?_⟩;have e_:(0:Int)<(k:Int):=X
   have T:=h.2;rw[decide_eq_true e_,Bool.true_and,Bool.not_eq_false']at T;have:=hyg e_;rw[show k - 1=i by omega,t]at this;cases this;exact T
  have E:((!a||!b)||(decide ((0:Int)<(k:Int))&&!lA y x))=true->I=false:=λh=>by
   cases K:I with
   |false=>rfl
   |true =>
    have ⟨⟨f_,u_⟩,z_⟩:=hin.1 K k x hx;rw[<-c_]at f_;rw[<-G]at u_;rw[f_,u_,Bool.not_true,Bool.or_false,Bool.false_or,k_,j0,r8]at h;have:=z_ (k - 1) y X (hyg h.1);rw[h.2]at this;cases this
  have ⟨A_,W⟩:∃A_,A_=((!a||!b)||(decide ((0:Int)<(k:Int))&&!lA y x)):=X_;rw[<-W]at v E;rw[<-c_]at w;rw[<-G]at F;clear c_ G;refine aB<|S<|aD<|O aA<|Y (iO QK)<|Y (fZ N_ (hi:=hi))<|Y aI<|V aI<|S<|aQ (t:=36) (n:=27) (A_:=A_) ?_ ?_
  ·all_goals refine Y aA<|Y (kc call30 (w _))<|Y iI<|Dm ?_<;>(refine Sp 16 (λh16=>?_) λh16=>?_)<;>(try exact w_)<;>(first|refine M<|M<|M<|M<|M ?_|refine U aA<|U (bA M0)<|U (bQ N_)<|U (kc call139 (F _))<|U iI ?_)<;>refine Y cC<|Dm ?_<;>(refine Sp 23 (λh23=>?_) λh23=>?_)<;>(try exact w_)<;>(first|refine M<|M<|M ?_|refine U aA<|U iP<|U aA ?_)<;>(first|refine Sp 26 (λh26=>?_) λh26=>?_|refine jS (t:=26) Z ?_)<;>(try exact w_)<;>(first|refine M ?_|refine Fu ?_|refine U (bA E6) ?_)<;>(first|refine M ?_|refine Fu ?_|refine U (bQ jU) ?_)<;>(first|refine M ?_|refine Fu ?_|refine U aA ?_)<;>(first|refine M ?_|refine Fu ?_|refine U (by exact dM Z Z Z (show IntKind.i64.wrap ((k:Int) - 1)=((k - 1:Nat):Int)by have e_:=b9 h26;rw[mE X X];omega)) ?_)<;>(first|refine M ?_|refine Fu ?_|refine U (bU Z QK Z Z X (l_ _) (d_ (b9 h26)) Z) ?_)<;>(first|refine M ?_|refine Fu ?_|refine U (dV Z N_ Z (d_ (b9 h26)) Z) ?_)<;>(first|refine M ?_|refine Fu ?_|refine U aA ?_)<;>(first|refine M ?_|refine Fu ?_|refine U (JZ Z Z Z) ?_)<;>(first|refine M ?_|refine U cC ?_)<;>refine V cC ?_<;>exact Gj (h:=by rw[W];first|(rw[h16];rfl)|(rw[h16,h23];rfl)|(rw[h16,h23,h26];rfl))
  refine Cn ?_ ?_<;>intro u
  ·rw[E u];exact Sz aI<|aC<|Rt<|Qq
  have A:=v u;refine aB<|Rd gX<|V aA ?_;refine⟨k+1,⟨X,λj z hj t=>?_⟩,X,Wk⟩;by_cases e:j=k
  ·subst e;rw[hx]at t;cases t;exact A
  exact hall j z X t
 have hge:k=p.ids.length:=J_ B
 have N:I=true:=hin.2 λj x hx=>hall j x (by have:=(m9.1 hx).1;omega) hx;rw[N,Bool.true_and];refine aP<|S<|pJ (t:=2) (n:=12) (A_:=(!decide ((p.cnt:Int)<=16)||decide (yM p.ids=p.sum))) ?_ ?_
 ·cases hg41:(!decide ((p.cnt:Int)<=16):Bool)
  ·refine aM a7<|Cq u3<|Cq (kc call82 (D _))<|Cq iI<|Cq aA<|Nf (bA E6)<|Nf (bQ jU)<|Nf (kc call81 (L _))<|Nf (bA S3)<|Nf (bQ N_)<|Nf wH<|Cq sC<|Cq aI<|bG<|Kr ?_;exact⟨Z,⟨_,Z,by rfl⟩,Z,Z,Z⟩
  refine aM a7<|Cq u3<|Cq (kc call82 (D _))<|Cq iI<|Cq aA<|Of<|Of<|Of<|Of<|Of<|Of<|Cq CS<|Cq aI<|bG<|Kr ?_;exact⟨Z,⟨_,Z,by rfl⟩,Z,Z,Z⟩
 exact aC<|Rt<|Qq
theorem xe(t:B_)(b:t.size<2^40)(H:aF):RC 88 [sv t] (bv (oddJ t)) H:=by refine Pu ?_;exact Bd func88 Z ntmps88<|Sz aI<|O aA<|Y (kc call30 (WY t b _))<|Y iI<|V aI<|aC<|Rt<|Qq
theorem sN:∀(n:Nat) (l:List UInt8) (L:List B_),l.length<=n->pL l=some L->L.length<=l.length/\∀s∈L,s.size<=l.length
 |0,l,L,d,h=>by
  rw[List.length_eq_zero_iff.1 (Nat.le_zero.1 d),OS]at h
  simp_all
 |n+1,l,L,d,h=>by
  by_cases b:l=[]
  ·rw[b,OS]at h;cases h;exact⟨l7 _,λs a=>by cases a⟩
  by_cases c:qX l=true
  ·rw[X8 b c]at h;cases h
  rw[QD b (by simpa using c)]at h;obtain ⟨e_,hM,rfl⟩:=Option.map_eq_some_iff.1 h;have hlt:=Mb b;have ⟨f,e⟩:=sN n _ e_ m5 hM;rw[q6]at f e;refine⟨by rw[j7];omega,λs a=>?_⟩;rcases l9.1 a with rfl|a
  ·rw[bZ,q9];omega
  have:=e s a;omega
def Ej(z:Option (List B_)):Bool:=((!z.isSome||decide ((((z.getD []).map S_).length:Int)<2))||!decide ((z.getD []).headD a6=oK))||((z.getD []).drop 1).any oddJ
theorem bf(h:Ej (pL t.data.toList)=true):vP t=[]:=by
 rw[vP];generalize pL t.data.toList=z at *
 match z with
 |none=>rfl
 |some []=>rfl
 |some [a]=>rfl
 |some (o::i::r) =>
  have h:((!true||decide ((((o::i::r).map S_).length:Int)<2))||!decide (o=oK))||(i::r).any oddJ:=h;show (if o=oK/\(i::r).all m6=true then _ else _)=_;rw[a8];rintro⟨c,b⟩;rw[decide_eq_true c,K4,b,decide_eq_false (by rw[j6];simp only[j7];omega)]at h;cases h
theorem rk(h:Ej (pL t.data.toList)=false):vP t=((pL t.data.toList).getD []).drop 1:=by
 rw[vP];generalize pL t.data.toList=z at *
 match z with
 |none=>cases h
 |some []=>cases h
 |some [a]=>cases h
 |some (o::i::r) =>
  have h:(((!true||decide ((((o::i::r).map S_).length:Int)<2))||!decide (o=oK))||(i::r).any oddJ)=false:=h;show (if o=oK/\(i::r).all m6=true then _ else _)=_;rw[q8,q8,Bool.not_eq_false',j0,K4,Bool.not_eq_false']at h;rw[b7 ⟨h.1.2,h.2⟩];rfl
theorem Eh(t:B_)(H:aF)(ht:t.size<1000000):RC 43 [sv t] (.pv (aL (vP t))) H:=by
 refine Pu ?_;have f:=λH=>bw t.data.toList H z6;rw[fQ]at f;have y:=bf (t:=t);have w:=rk (t:=t);have j:∀s∈(pL t.data.toList).getD [],s.size<1000000:=λs A=>by
  cases h:pL t.data.toList with
  |none=>simp_all
  |some L =>
   rw[h]at A;have:=(sN _ _ L (g_ _) h).2 s A;rw[aR]at this;omega
 have u:((pL t.data.toList).getD []).length<1000000:=by
  cases h:pL t.data.toList with
  |none=>exact zero_lt_succ _
  |some L =>
   have:=(sN _ _ L (g_ _) h).1;rw[aR]at this;show L.length<_;omega
 generalize pL t.data.toList=z at f y w j u;have x:Ej z=(((!z.isSome||decide ((((z.getD []).map S_).length:Int)<2))||!decide ((z.getD []).headD a6=oK))||((z.getD []).drop 1).any oddJ):=rfl;generalize vP t=W at y w |-;have ⟨o,D⟩:∃o,o=z.isSome:=X_;have ⟨L,B⟩:∃L,L=z.getD []:=X_;have ⟨A_,l⟩:∃A_,A_=Ej z:=X_;rw[<-D,<-B]at f x;rw[<-B]at w j u;rw[<-l]at x y w;clear D B l;have hml:(L.map S_).length=L.length:=j6 _;have m:(L.map S_).drop 1=(L.drop 1).map S_:=map_drop.symm;have E:¬ (((L.map S_).length:Int)<2)->(L.map S_)[0]?=some (S_ (L.headD a6)):=λh=>by
  cases L with
  |nil=>exact absurd E_ h
  |cons a L=>rfl
 have G:=λH=>DH 88 (L.drop 1) oddJ m5 (λs A=>dH.fn call88 (xe s (by have:=j s (mem_of_mem_drop A);omega) [])) H;refine Bd func43 Z ntmps43<|Sz aI<|O aA<|Y (kc call87 (f _))<|Y aA<|Y dK<|Y dK<|Y aI<|V aI<|S<|S<|aQ (t:=27) (n:=21) (A_:=A_) ?_ ?_
 ·all_goals refine Y aA<|Y iI<|Dm ?_<;>(refine Sp 12 (λg=>?_) λg=>?_)<;>(try exact w_)<;>(first|refine M<|M<|M ?_|refine U aA<|U (fW aE)<|U cJ ?_)<;>refine Y cC<|Dm ?_<;>(refine Sp 17 (λd=>?_) λd=>?_)<;>(try exact w_)<;>(first|refine M<|M<|M<|M ?_|refine U aA<|U (bU Z bD Z Z X (l_ _) (E (b_ d)) Z)<|U (dV Z N_ Z (E (b_ d)) Z)<|U DZ ?_)<;>refine Y cC<|Dm ?_<;>(refine Sp 23 (λq=>?_) λq=>?_)<;>(try exact w_)<;>(first|refine M<|M<|M ?_|refine U aA<|U (by exact eY (l:=1) (h:=(L.map S_).length) Z bD Z (fY L) Z Z (J_ d) (g_ _) (show ((L.map S_).take _).drop 1=(L.drop 1).map S_ by rw[take_length];exact m))<|U (kc call28 (G _)) ?_)<;>refine V cC ?_<;>exact Gj (h:=by rw[x];first|(rw[g];rfl)|(rw[g,d];rfl)|(rw[g,d,show (!decide (L.headD a6=oK))=_ from q];rfl))
 refine Cn ?_ ?_<;>intro p
 ·rw[y p];refine Sz aI<|aC<|cR (H':=[]) (.inr Z) Z (aH Z) (P_ (r:=.pv (aL []))) Qq
 have i:A_=false:=p;rw[w i];have h2:¬ (((L.map S_).length:Int)<2):=λh=>by rw[x,decide_eq_true h,Bool.or_true,Bool.true_or,Bool.true_or]at i;cases i
 exact aB<|O aA<|Y (by exact eY (l:=1) (h:=(L.map S_).length) Z bD Z (fY L) Z Z X (g_ _) (show ((L.map S_).take _).drop 1=(L.drop 1).map S_ by rw[take_length];exact m))<|V aI<|aC<|Rt<|Qq
theorem JT:∀(n m:Nat) (l:List B_),l.length<=n->l.length<=m->T6 n l=T6 m l
 |_,_,[],_,_=>by rw[O4,O4]
 |0,_,a::l,h,_=>by grind
 |n+1,0,a::l,_,h=>by grind
 |n+1,m+1,[a],_,_=>rfl
 |n+1,m+1,[a,b],_,_=>rfl
 |n+1,m+1,a::b::c::r,e,f=>by
  simp only[j7]at e f;rw[T6,T6];rw[JT n m r (by omega) (by omega),JT n m (r.drop (eJ b).toNat) m5 m5]
def T7(l:List B_):Option (List l8):=T6 l.length l
theorem O5:T7 []=some []:=rfl
theorem JU{l}(h:l≠[])(d:l.length<3):T7 l=none:=by
 match l with
 | [a]=>rfl
 | [a,b]=>rfl
 |a::b::c::r=>simp[j7]at d;omega
theorem YS{a b c}(r)(h:((!rV a||decide (eJ b<0))||!m6 c)=true):T7 (a::b::c::r)=none:=by
 show T6 (r.length+2+1) _=_;rw[T6]
 grind
theorem RM{b:B_}(r:List B_)(h:((!rV a||decide (eJ b<0))||!m6 c)=false):T7 (a::b::c::r) =
  if eJ b<=16 then(if(r.length:Int)<eJ b then none else if AD ⟨a,(eJ b).toNat,c,r.take (eJ b).toNat⟩=true then(T7 (r.drop (eJ b).toNat)).map (⟨a,(eJ b).toNat,c,r.take (eJ b).toNat⟩::·)else none)
  else(T7 r).map (⟨a,(eJ b).toNat,c,[]⟩::·):=by
 rw[q8,q8,Bool.not_eq_false',Bool.not_eq_false',p_]at h;rw[T7];show T6 (r.length+2+1) _=_;rw[T6,b7 (by rw[h.1.1,h.2,decide_eq_true X];rfl)]
 split
 ·next h16 =>
  split
  ·next e =>
   rw[a8 X,b7 (by rw[AD,e.2.1,decide_eq_true e.2.2,Bool.or_true];rfl),T7,JT (r.length+2) _ _ m5 (g_ _)]
  next e =>
  split
  ·rfl
  next hl =>
  rw[a8];intro f;rw[AD,decide_eq_true (show (((⟨a,(eJ b).toNat,c,r.take (eJ b).toNat⟩:l8).cnt:Nat):Int)<=16 by show ((eJ b).toNat:Int)<=16;omega),k_,Bool.not_true,Bool.false_or,j0]at f;exact e ⟨X,f.1,f.2⟩
 rw[T7,JT (r.length+2) _ _ X (g_ _)]
def UT(z:Option (List B_)):Bool:=(!z.isSome||decide ((((z.getD []).map S_).length:Int)<2))||!decide ((z.getD []).headD a6=eZ)
theorem ef(h:UT (pL t.data.toList)=true):xV t=[]:=by
 rw[xV];generalize pL t.data.toList=z at *
 match z with
 |none=>rfl
 |some []=>rfl
 |some [a]=>rfl
 |some (o::i::r) =>
  have h:((!true||decide ((((o::i::r).map S_).length:Int)<2))||!decide (o=eZ))=true:=h;show (if o=eZ then _ else _)=_;all_goals grind
theorem ZA(h:UT (pL t.data.toList)=false):∃n r,pL t.data.toList=some (eZ::n::r)/\xV t=(match T7 r with|some P=>if(P.length:Int)=eJ n then P else[]|none=>[]):=by
 rw[xV];generalize pL t.data.toList=z at *
 match z with
 |none=>cases h
 |some []=>cases h
 |some [a]=>cases h
 |some (o::i::r) =>
  have h:((!true||decide _)||!decide (o=eZ))=false:=h;rw[q8,Bool.not_eq_false',j0]at h;rw[h.2];exact⟨i,r,Z,b7 Z⟩
theorem uf(P:List l8):∀r∈P.map dC,r.length=4:=λr a=>by
 obtain ⟨p,_,rfl⟩:=mem_map.1 a;rfl
abbrev WD(P:List l8):List (List AV):=yz (P.map dC)
theorem zu(t:B_)(H:aF)(ht:t.size<1000000):RC 45 [sv t] (.pv (CM (xV t))) H:=by
 refine Pu ?_;have hsp:=λH=>bw t.data.toList H z6;rw[fQ]at hsp;have hy:=ef (t:=t);have T:=ZA (t:=t);have hsz:∀s∈(pL t.data.toList).getD [],s.size<1000000:=λs hs=>by
  cases h:pL t.data.toList with
  |none=>rw[h]at hs;cases hs
  |some L =>
   rw[h]at hs;have:=(sN _ _ L (g_ _) h).2 s hs;rw[aR]at this;omega
 have u_:((pL t.data.toList).getD []).length<1000000:=by
  cases h:pL t.data.toList with
  |none=>exact zero_lt_succ _
  |some L =>
   have:=(sN _ _ L (g_ _) h).1;rw[aR]at this;show L.length<_;omega
 have ⟨z,hz⟩:∃z,z=pL t.data.toList:=X_;rw[<-hz]at hsp hy T hsz u_;have hX:UT z=((!z.isSome||decide ((((z.getD []).map S_).length:Int)<2))||!decide ((z.getD []).headD a6=eZ)):=rfl;have ⟨W,hW⟩:∃W,W=xV t:=X_;rw[<-hW]at hy T |-;have ⟨o,ho⟩:∃o,o=z.isSome:=X_;have ⟨L,hL⟩:∃L,L=z.getD []:=X_;have ⟨A_,hXe⟩:∃A_,A_=UT z:=X_;have hzL:∀e_,z=some e_->L=e_:=λe_ h=>by rw[hL,h];rfl
 rw[<-ho,<-hL]at hsp hX;rw[<-hL]at hsz u_;rw[<-hXe]at hX hy T;have T:A_=false->∃n r,L=eZ::n::r/\W=(match T7 r with|some P=>if(P.length:Int)=eJ n then P else[]|none=>[]):=λh=>by
  have ⟨n,r,e1,e2⟩:=T h;exact⟨n,r,hzL _ e1,e2⟩
 clear hz hW ho hL hXe hzL;have h0:¬ (((L.map S_).length:Int)<2)->(L.map S_)[0]?=some (S_ (L.headD a6)):=λh=>by
  cases L with
  |nil=>exact absurd E_ h
  |cons a L=>rfl
 refine Bd func45 Z ntmps45<|Sz aI<|O aA<|Y (kc call87 (hsp _))<|Y aA<|Y dK<|Y dK<|Y aI<|V aI<|S<|S<|aQ (t:=25) (n:=15) (A_:=A_) ?_ ?_
 ·all_goals refine Y aA<|Y iI<|Dm ?_<;>(refine Sp 15 (λv_=>?_) λv_=>?_)<;>(try exact w_)<;>(first|refine M<|M<|M ?_|refine U aA<|U (fW aE)<|U cJ ?_)<;>refine Y cC<|Dm ?_<;>(refine Sp 20 (λh20=>?_) λh20=>?_)<;>(try exact w_)<;>(first|refine M<|M<|M<|M ?_|refine U aA<|U (bU Z bD Z Z X (l_ _) (h0 (b_ h20)) Z)<|U (dV Z N_ Z (h0 (b_ h20)) Z)<|U DZ ?_)<;>refine V cC ?_<;>exact Gj (h:=by rw[hX];first|(rw[v_];rfl)|(rw[v_,h20];rfl))
 refine Cn ?_ ?_<;>intro hc1
 ·rw[hy hc1];refine Sz aI<|aC<|cR (H':=[]) (.inr Z) Z (aH Z) (P_ (r:=.pv (CM []))) Qq
 have ⟨n,r0,e1,e2⟩:=T hc1;subst e1;have o_:((eZ::n::r0).map S_).length=r0.length+2:=j6 _;have hr0:∀s∈r0,s.size<1000000:=λs hs=>hsz s (by simp[hs]);have hnm:=λH=>nv n H (by have:=hsz n H_;omega);have ⟨N,hN⟩:∃N,N=eJ n:=X_;rw[<-hN]at hnm e2;simp only[j7]at u_;clear hX T hy hsz h0 hN hsp;refine aB<|O aA<|Y (bU Z bD Z Z X (l_ _) (show ((eZ::n::r0).map S_)[1]?=some (S_ n)from Z) Z)<|Y (dV Z N_ Z (show ((eZ::n::r0).map S_)[1]?=some (S_ n)from Z) Z)<|Y (kc call89 (hnm _))<|V aI<|Sz (eI (id:=905) (sz:=4) (ty:=70) Z Z Z)<|S<|O aA<|Y (by exact eY (l:=2) (h:=((eZ::n::r0).map S_).length) Z bD Z (fY (eZ::n::r0)) Z Z X (g_ _) (show (((eZ::n::r0).map S_).take _).drop 2=r0.map S_ by rw[take_length];rfl))<|V aI<|aD ?_;refine eU (λ(l:List B_) (P:List l8)=>([(3,.pv (aL l)),(5,iv N),(6,.osl 905 P.length 0 P.length)],[(905,⟨P.length,4,70,WD P⟩)])) (λl P=>l.length+P.length<=r0.length/\(∀s∈l,s.size<1000000)/\T7 r0=(T7 l).map (P++·)) (λl P=>l.length) r0 [] ⟨g_ _,hr0,by cases T7 r0<;>rfl⟩ ?_ ?_
 ·exact Wk
 rintro l P ⟨hlen,hsz,hpt⟩;have o_:(l.map S_).length=l.length:=j6 _;refine S<|O aA<|Y (fW aE)<|V zU<|Cn ?_ ?_<;>intro hc2
 ·have h3:3<=l.length:=I_ hc2
  obtain ⟨a,b,c,r,rfl⟩:∃a b c r,l=a::b::c::r:=by
   match l,h3 with
   |a::b::c::r,_=>exact⟨a,b,c,r,Z⟩
  have hgood:=RM (a:=a) (b:=b) (c:=c) r;have hbad:=YS (a:=a) (b:=b) (c:=c) r;have ha:=hsz a H_;have hb:=hsz b H_;have hc:=hsz c H_;have hr:∀s∈r,s.size<1000000:=λs hs=>hsz s (by simp[hs]);simp only[j7]at hlen o_;have hnb:=F5 b;have hnm:=λH=>nv b H X;have Q:=λH=>ov a H X;have hij:=λH=>WY c X H;have ⟨v,hv⟩:∃v,v=eJ b:=X_;have ⟨pa,hpa⟩:∃pa,pa=rV a:=X_;have ⟨jc,hjc⟩:∃jc,jc=m6 c:=X_;rw[<-hv]at hgood hbad hnm hnb;rw[<-hpa]at hgood hbad Q;rw[<-hjc]at hgood hbad hij;clear hv hpa hjc;have ⟨y_,hY⟩:∃y_,y_=((!pa||decide (v<0))||!jc):=X_;rw[<-hY]at hgood hbad;have hmr:(r.map S_).length=r.length:=j6 _;refine aB<|aD<|S<|aM a7<|x_ aA<|x_ (by exact bU Z bD Z Z X (l_ _) (show ((a::b::c::r).map S_)[0]?=some (S_ a)from Z) Z)<|x_ (by exact dV Z N_ Z (show ((a::b::c::r).map S_)[0]?=some (S_ a)from Z) Z)<|x_ aA<|x_ (by exact bU Z bD Z Z X (l_ _) (show ((a::b::c::r).map S_)[1]?=some (S_ b)from Z) Z)<|x_ (by exact dV Z N_ Z (show ((a::b::c::r).map S_)[1]?=some (S_ b)from Z) Z)<|x_ (by exact bH Z Z call89 Z (hnm _))<|x_ aA<|x_ (by exact bU Z bD Z Z X (l_ _) (show ((a::b::c::r).map S_)[2]?=some (S_ c)from Z) Z) ?_;refine x_ (by exact dV Z N_ Z (show ((a::b::c::r).map S_)[2]?=some (S_ c)from Z) Z)<|x_ ((oI aDJ))<|Cp [7] (λH1 hH=>by exact CA (id:=7) Z Do Z ((hH _ Z).trans Z))<|Cp [7] (λ_ h=>sa dT h)<|bG<|Kr<|O aA<|Y (by exact eY (l:=3) (h:=((a::b::c::r).map S_).length) Z bD Z (fY (a::b::c::r)) Z Z X (g_ _) (show (((a::b::c::r).map S_).take _).drop 3=r.map S_ by rw[take_length];rfl))<|V aI<|S<|S ?_;refine aQ (t:=62) (n:=17) (A_:=y_) ?_ ?_
  ·all_goals refine Y (bA M0)<|Y (bQ N_)<|Y (kc call90 (Q _))<|Y iI<|Dm ?_<;>(refine Sp 52 (λz_=>?_) λz_=>?_)<;>(try exact w_)<;>(first|refine M<|M<|M ?_|refine U (bA E7)<|U (bQ M_)<|U cJ ?_)<;>refine Y cC<|Dm ?_<;>(refine Sp 57 (λh57=>?_) λh57=>?_)<;>(try exact w_)<;>(first|refine M<|M<|M<|M ?_|refine U (bA S3)<|U (bQ N_)<|U (kc call30 (hij _))<|U iI ?_)<;>refine V cC ?_<;>exact Gj (h:=by rw[hY];first|(rw[z_];rfl)|(rw[z_,h57];rfl))
  refine Cn ?_ ?_<;>intro hc3
  ·rw[e2,hpt,hbad hc3];refine Sz aI<|aC<|cR (H':=[]) (.inr Z) Z (aH Z) (P_ (r:=.pv (CM []))) Qq
  have hYf:y_=false:=hc3;have hgood:=hgood hYf;have hv0:0<=v:=by
   rw[hYf]at hY;have:=hY.symm;rw[q8,q8,p_]at this;omega
  obtain ⟨k,rfl⟩:∃k:Nat,v=(k:Int):=⟨v.toNat,X⟩;rw[l_]at hgood;clear hY hbad hnm Q hij;have hsm:=λH=>JH ⟨a,k,c,[]⟩ H;refine aB<|eK (λ(q:List B_×List B_)=>([(3,.pv (aL q.2)),(5,iv N),(6,.osl 905 P.length 0 P.length),(7,.ref 7 0 0 0)],[(7,bx 4 70 [sv a,sv c,iv (k:Int),.pv (aL q.1)]),(905,⟨P.length,4,70,WD P⟩)])) (λq=>q.2.length<=r.length/\q.1.length<=r.length/\(∀s∈q.1,s.size<1000000)/\(∀s∈q.2,s.size<1000000)/\T7 (a::b::c::r)=if AD ⟨a,k,c,q.1⟩=true then(T7 q.2).map (⟨a,k,c,q.1⟩::·)else none) ?_ ?_
  ·refine O u3<|V (kc call82 (hsm _)) ?_;refine Cn ?_ ?_<;>intro hc4
   ·have h16:(k:Int)<=16:=b9 hc4;rw[b7 h16]at hgood;refine S<|O (bA E7)<|Y (bQ M_)<|Y aA<|Y (fW aE)<|V iP<|Cn ?_ ?_<;>intro hc5
    ·have f_:(r.length:Int)<(k:Int):=I_ hc5
     rw[b7 f_]at hgood;rw[e2,hpt,hgood];refine Sz aI<|aC<|cR (H':=[]) (.inr Z) Z (aH Z) (P_ (r:=.pv (CM []))) Qq
    have f_:¬ (r.length:Int)<(k:Int):=J_ hc5
    rw[a8 f_]at hgood;refine aB<|aM a7<|x_ aA<|Cr [7] (λ_ h=>fh E7 h)<|Cr [7] (λ_ h=>lh M_ h)<|x_ (by exact eY (l:=0) (h:=k) Z bD Z (fY r) Z Z (l7 _) X (show ((r.map S_).take k).drop 0=(r.take k).map S_ by rw[drop_zero,map_take]))<|x_ aA<|Cr [7] (λ_ h=>fh E7 h)<|Cr [7] (λ_ h=>lh M_ h)<|x_ (by exact eY (l:=k) (h:=(r.map S_).length) Z bD Z (fY r) Z Z X (g_ _) (show ((r.map S_).take _).drop k=(r.drop k).map S_ by rw[take_length,map_drop]))<|Cr [7] (λ_ h=>fh E6 h)<|Cp [7] (λ_ h=>su sizeOf68 h)<|x_ aI<|bG<|Kr ?_;exact⟨(r.take k,r.drop k),⟨by simp only;rw[q6];omega,by simp only;rw[q9];omega,λs hs=>hr s (mem_of_mem_take hs),λs hs=>hr s (mem_of_mem_drop hs),hgood⟩,Wk⟩
   have h16:¬ (k:Int)<=16:=b_ hc4;rw[a8 h16]at hgood;have R:AD ⟨a,k,c,[]⟩=true:=by rw[AD,decide_eq_false h16];rfl
   refine aB ?_;exact⟨([],r),⟨g_ _,l7 _,(λs hs=>by cases hs),hr,by rw[b7 R];exact hgood⟩,Wk⟩
  rintro⟨q1,q2⟩ ⟨hq2,hq1,hs1,hs2,hq⟩;simp only at hq2 hq1 hs1 hs2 hq;have R:=λH=>Ri ⟨a,k,c,q1⟩ H (by simp only;omega) hs1;refine S<|O u3<|Y (kc call91 (R _))<|V iI ?_;refine Cn ?_ ?_<;>intro hc6
  ·rw[a8 (by have h:=hc6;intro e;rw[e]at h;cases h)]at hq;rw[e2,hpt,hq];refine Sz aI<|aC<|cR (H':=[]) (.inr Z) Z (aH Z) (P_ (r:=.pv (CM []))) Qq
  rw[b7 (pO hc6)]at hq;refine aB<|Rd aA<|Y u3<|Y (aK [dC ⟨a,k,c,q1⟩] Z Yn Z Z Z Z Z (uf [⟨a,k,c,q1⟩]))<|Y (by exact cA (k:=P.length+1) (ps:=[dC ⟨a,k,c,q1⟩]) Z Yn aEU Z Z Z Z Z (by rw[JR,j6]) Z (uf [⟨a,k,c,q1⟩]) (m:=1) Z X Z (rows':=WD (P++[⟨a,k,c,q1⟩])) (by rw[WD,WD,map_append,yz,yz,map_append];rfl))<|Da ?_;have hnl:(P++[(⟨a,k,c,q1⟩:l8)]).length=P.length+1:=by rw[j_];rfl
  refine⟨q2,P++[⟨a,k,c,q1⟩],⟨by rw[hnl];omega,hs2,?_⟩,by simp only[j7];omega,?_⟩
  ·rw[hpt,hq];cases T7 q2 with
   |none=>rfl
   |some z=>simp
  dsimp only;rw[hnl];exact L_
 have h3:l.length<3:=J_ hc2
 have hPl:(WD P).length=P.length:=by rw[JR,j6]
 have ⟨A_,hX⟩:∃A_,A_=(!decide ((P.length:Int)=N)||decide ((0:Int)<(l.length:Int))):=X_;have hYes:A_=true->W=[]:=λh=>by
  rw[e2,hpt];cases l with
  |nil =>
   rw[O5];show (if((P++[]).length:Int)=N then _ else _)=_;rw[a8];intro e;rw[append_nil]at e;rw[hX,decide_eq_true e]at h;cases h
  |cons a l=>rw[JU H_ h3];rfl
 have hNo:A_=false->W=P:=λh=>by
  rw[hX,q8,Bool.not_eq_false',j0,p_]at h;have hl0:l=[]:=length_eq_zero_iff.1 X;rw[e2,hpt,hl0,O5];show (if((P++[]).length:Int)=N then P++[]else[])=P;rw[append_nil,b7 h.1]
 refine aP<|S<|S<|aQ (t:=94) (n:=10) (A_:=A_) ?_ ?_
 ·all_goals refine Y aA<|Y (by exact dS Z underlying86 Z Z Z)<|Y aA<|Y zB<|Dm ?_<;>(refine Sp 90 (λh90=>?_) λh90=>?_)<;>(try(with_reducible contradiction))<;>(first|refine M<|M<|M ?_|refine U aA<|U (fW aE)<|U iP ?_)<;>refine V cC ?_<;>exact Gj (h:=by rw[hX,<-o_];(rw[h90];rfl))
 refine Cn ?_ ?_<;>intro hc7
 ·rw[hYes hc7];refine Sz aI<|aC<|cR (H':=[]) (.inr Z) Z (aH Z) (P_ (r:=.pv (CM []))) Qq
 rw[hNo hc7];refine aB<|O aA<|V aI<|aC ?_;refine cR (H':=[]) (.inr Z) Z (aH Z) (Fin.slice0 (id:=905) (P.map dC) Z Z Z (j6 _)) ?_;exact Qq
end Go.Proofs.YtopnleflllkbmaaGreatDoor
section
namespace Go.Proofs
open Go.RowKit Go.Sort Go.Shelf
def aFT:Go.Shelf.Ren:=⟨λ|6=>86|8=>131|9=>130|19=>189|20=>190|21=>180|22=>181|23=>182|24=>183|25=>184|26=>185|27=>186|28=>187|29=>188|36=>233|31=>234|32=>235|37=>236|38=>237|39=>238|41=>270|n=>n,λ|27=>68|29=>9|3=>3|32=>157|26=>22|0=>0|44=>213|46=>169|4=>4|36=>207|35=>206|41=>166|5=>5|9=>9|53=>241|57=>245|63=>282|64=>283|n=>n,λ|n=>n⟩
theorem aFY:Go.Proofs.SlLaysM.n6 Tryz.prog aFT:={
  mixed:=by rfl
  f6:=⟨Tryz.f86.name,E_,Tryz.func86.trans C_⟩
  f8:=Tryz.func131.trans C_
  f9:=⟨Tryz.f130.name,E_,Tryz.func130.trans C_⟩
  f19:=Tryz.func189.trans C_
  f20:=Tryz.func190.trans C_
  f21:=⟨Tryz.f180.name,E_,Tryz.func180.trans C_⟩
  f22:=⟨Tryz.f181.name,E_,Tryz.func181.trans C_⟩
  f23:=⟨Tryz.f182.name,E_,Tryz.func182.trans D_⟩
  f24:=⟨Tryz.f183.name,E_,Tryz.func183.trans D_⟩
  f25:=⟨Tryz.f184.name,E_,Tryz.func184.trans D_⟩
  f26:=⟨Tryz.f185.name,E_,Tryz.func185.trans D_⟩
  f27:=⟨Tryz.f186.name,E_,Tryz.func186.trans D_⟩
  f28:=⟨Tryz.f187.name,E_,Tryz.func187.trans D_⟩
  f29:=⟨Tryz.f188.name,E_,Tryz.func188.trans D_⟩
  f31:=Tryz.func234.trans D_
  f32:=Tryz.func235.trans D_
  f36:=⟨Tryz.f233.name,E_,Tryz.func233.trans D_⟩
  f37:=⟨Tryz.f236.name,E_,Tryz.func236.trans D_⟩
  f38:=⟨Tryz.f237.name,E_,Tryz.func237.trans D_⟩
  f39:=⟨Tryz.f238.name,E_,Tryz.func238.trans D_⟩
  f41:=⟨Tryz.f270.name,E_,Tryz.func270.trans D_⟩
  t0:=DP
  a0:=Tryz.isAgg0
  z0:=Tryz.sizeOf0
  v0:=Tryz.zeroValue0
  t3:=Tryz.underlying3
  a3:=Tryz.isAgg3
  z3:=Tryz.sizeOf3
  v3:=sH
  t4:=eH
  a4:=nA
  z4:=Tryz.sizeOf4
  v4:=iU
  t5:=cZ
  a5:=uM
  z5:=cM
  v5:=sF
  t9:=Tryz.underlying9
  a9:=Tryz.isAgg9
  z9:=Tryz.sizeOf9
  v9:=gQ
  t26:=aE
  a26:=aG
  z26:=Tryz.sizeOf22
  v26:=vL
  t27:=lZ
  a27:=jU
  z27:=Tryz.sizeOf68
  v27:=Tryz.zeroValue68
  t29:=Tryz.underlying9
  a29:=Tryz.isAgg9
  z29:=Tryz.sizeOf9
  v29:=gQ
  t32:=kZ
  a32:=Tryz.isAgg157
  z32:=AU
  v32:=tH
  t35:=Tryz.underlying206
  a35:=Tryz.isAgg206
  z35:=Tryz.sizeOf206
  v35:=Tryz.zeroValue206
  t36:=Tryz.underlying207
  a36:=Tryz.isAgg207
  z36:=Tryz.sizeOf207
  v36:=Tryz.zeroValue207
  t41:=Tryz.underlying166
  a41:=Tryz.isAgg166
  z41:=Tryz.sizeOf166
  v41:=Tryz.zeroValue166
  t44:=Tryz.underlying213
  a44:=Tryz.isAgg213
  z44:=Tryz.sizeOf213
  v44:=Tryz.zeroValue213
  t46:=gL
  a46:=xC
  z46:=uL
  v46:=tG
  t53:=Tryz.underlying241
  a53:=Tryz.isAgg241
  z53:=Tryz.sizeOf241
  v53:=Tryz.zeroValue241
  t57:=Tryz.underlying245
  a57:=Tryz.isAgg245
  z57:=Tryz.sizeOf245
  v57:=Tryz.zeroValue245
  t63:=Tryz.underlying282
  a63:=Tryz.isAgg282
  z63:=Tryz.sizeOf282
  v63:=Tryz.zeroValue282
  t64:=Tryz.underlying283
  a64:=Tryz.isAgg283
  z64:=Tryz.sizeOf283
  v64:=Tryz.zeroValue283}
end Go.Proofs
namespace Go.Proofs.YtopnleflllkbmaaGreatDoor
open Go.Proofs.Tryz
open Go.Abs Go.Lib
theorem ya(b){id g n ty:Nat}{H}(d:H.get id=some ⟨g,1,ty,fE b⟩)(e:n=b.length)(c:b.length<2^62):
  aU Tryz.prog 86 [.osl id g 0 n] H (λr H'=>r=.tup []/\H'=(id,⟨g,1,ty,fE (jG b)⟩)::H):=Fq aFY _ d e c
def pM(l:List (B_×PV)):List (B_×AV):=l.map λp=>(p.1,.pv p.2)
abbrev T8(l:List (B_×PV)):Ob:=⟨0,0,(pM l).length,rS JD (pM l)⟩
theorem mq:∀(l) (i:B_),zC (pM l) i=(l.find? λp=>decide (p.1=i)).map λp=>.pv p.2
 | [],i=>rfl
 |(k,v)::l,i=>by
  show (if k=i then _ else zC (pM l) i)=_;rw[List.find?_cons];by_cases h:k=i
  ·rw[b7 h,decide_eq_true h];rfl
  rw[a8 h,decide_eq_false h];exact mq l i
theorem mo:∀ {l} {i:B_} (v:PV),i∉l.map Prod.fst->wP (pM l) i (.pv v)=pM (l++[(i,v)])
 | [],i,v,_=>rfl
 |(k,u)::l,i,v,h=>by
  rw[List.map_cons,l9,not_or]at h;show (if k=i then _ else(k,AV.pv u)::wP (pM l) i (.pv v))=_;rw[a8 λe=>h.1 e.symm,mo v h.2];rfl
theorem dQ{H}(l):∀r∈(T8 l).rows,∀a∈r,Clo H a:=by
 intro r d a c;have ⟨i,e⟩:=s8.1 d;obtain ⟨p,b,rfl⟩:=F7.1 e;rw[pM,r7]at b;obtain ⟨q,_,rfl⟩:=Option.map_eq_some_iff.1 b;simp[l9,q7,or_false]at c;rcases c with rfl|rfl|rfl
 ·exact .pv _
 ·exact .pv _
 exact .pv _
instance{H}(l):W_ (H) ((T8 l).rows):=⟨dQ l⟩
def tM(o:List (B_×B_)):List (B_×PV):=o.map λp=>(p.1,.str p.2)
theorem Yg(o):(tM o).map Prod.fst=o.map Prod.fst:=by rw[tM,map_map];rfl
theorem Ff(o:List (B_×B_))(i:B_):(zC (pM (tM o)) i).getD (sv a6)=sv (oN o i)/\(zC (pM (tM o)) i).isSome=decide (i∈o.map Prod.fst):=by
 rw[mq,oN,tM,find?_map];show (Option.map _ ((o.find? λp=>decide (p.1=i)).map _)).getD _=_/\(Option.map _ ((o.find? λp=>decide (p.1=i)).map _)).isSome=_;cases h:o.find? λp=>decide (p.1=i)with
 |none =>
  grind
 |some p =>
  have e:=find?_some h;have d:=mem_of_find?_eq_some h;exact⟨Z,(decide_eq_true (mem_map.2 ⟨p,d,b9 e⟩)).symm⟩
theorem Fin.mirW{H1:aF}{g n:Nat}{ob:Ob}{o}(f_:List B_)(b:H1.get 711=some ob)(d:ob.g=g)(a:ob.rows=cB f_)(c:n=f_.length)(e:H1.get 710=some (T8 o)):
  Fin [] H1 (.agg [.osl 711 g 0 n,.mp 710 0]) [(710,T8 o)] (.agg [.pv (aL f_),.mp 710 0]):=by
 subst d c;exact Fin.fz (id:=711) (ob:=ob) (f_.map S_) b (a.trans (eT f_)) (.agg Z (bC (.osl (iW S_ f_)) (bC (.same m3) kK))) Z ⟨⟨_,e,Z⟩,dQ _,T_⟩ T_
theorem Wu:nF zR:=by have a:qC 0:=⟨H_,H_⟩;exact⟨⟨a,a,a,a,a⟩,⟨E_,E_,E_⟩,⟨E_,λt h=>by cases h⟩,⟨E_,λt h=>by cases h⟩,okZ,E_,E_,⟨E_,λt h=>by cases h⟩,E_,okZ⟩
theorem MB(t):nF (dZ t).1/\(dZ t).1.parents.length<549755813888:=by
 rw[dZ]
 split
 ·exact⟨Wu,E_⟩
 next h =>
 split
 ·exact cr X
 exact⟨Wu,E_⟩
theorem zk{L:List B_}{k:Nat}{t:B_}(h:L[k]?=some t):oD (L.take (k+1))=mI (oD (L.take k)) t:=by rw[fF h,zj]
theorem vj:qB []=[]:=eq_nil_of_length_eq_zero (le_zero.1 (KO _))
theorem dy:∀(L),(oD L).length<=L.length:=λL=>by
 have:=KO L
 rwa [qB,kC,j6]at this
theorem Ad(L:List B_)(hl:L.length<1000000)(e_:∀t∈L,t.size<1000000000):aU Tryz.prog 42 [.pv (aL L)] [] (λr H'=>r=.agg [.pv (aL (qB L)),.mp 710 0]/\H'=[(710,T8 (tM (oD L)))]):=by
 have hml:(L.map S_).length=L.length:=j6 _;refine Bd func42 Z ntmps42<|Sz (kl 2 aB2)<|O (by exact uZ (id:=710) JD Z Z)<|Y (oI aDH)<|Y (kl 3 aB2)<|Uu (jA sizeOf80)<|Zz<|S<|S ?_;refine gG.ent (E':=[(0,.pv (aL L)),(2,.ref 2 0 0 0),(3,.ref 3 0 0 0)]) (H':=(711,⟨0,1,9,[]⟩)::(3,bx 2 80 [.osl 711 0 0 0,.mp 710 0])::(710,T8 [])::(2,bx 2 80 [.pv (.sl []),.pv .nilm])::[]) ?_ ?_
 ·exact(cL.nz 711 1 9 Z Z ⟨⟨_,Z,(by exact Nz.same (by(simp;done)))⟩,⟨_,Z,(by exact Nz.same (by(simp;rfl)))⟩,⟨_,Z,(by exact Nz.same (by(simp;rfl)))⟩,T_⟩ ⟨⟨_,Z,Z,Z,Z,(by exact .inr ⟨_,_,rfl,rfl,(by repeat(first|exact trivial|refine⟨(by first|exact Nz.own|exact Nz.same (by(simp;rfl))),?_⟩))⟩)⟩,⟨_,Z,Z,Z,Z,(by exact .inl ⟨Z,(by exact dQ _)⟩)⟩,⟨_,Z,Z,Z,Z,(by exact .inl ⟨Z,(by(simp;done))⟩)⟩,T_⟩ T_)
 refine Rd aA<|Y (fW aE)<|V aA<|aD<|bF (σ:=Nat) (λk=>([(2,.ref 2 0 0 0),(3,.ref 3 0 0 0),(13,.pv (aL L)),(14,iv ((L.map S_).length:Int)),(15,iv (k:Int))],[(3,bx 2 80 [.osl 711 (oD (L.take k)).length 0 (oD (L.take k)).length,.mp 710 0]),(711,⟨(oD (L.take k)).length,1,9,cB ((oD (L.take k)).map Prod.fst)⟩),(710,T8 (tM (oD (L.take k)))),(2,bx 2 80 [.pv (.sl []),.pv .nilm])])) (λk=>k<=L.length) (λk=>L.length - k) 0 (l7 _) ?_ ?_
 ·exact(cL.wk (Ea<|Ea<|Eb<|Eb<|Eb<|T_) (Hc (by(simp;exact⟨Z,Z⟩))<|Hc (aV _ _)<|Hc (dQ _)<|Hb<|T_) T_)
 intro k hk;refine Sz cJ<|S<|Cn ?_ ?_<;>intro n
 ·have E:k<L.length:=by have:=b9 n;omega
  obtain ⟨t,B⟩:=aS E;have N:=cE (f:=S_) B;have hts:=e_ t (m8 B);have hpa:=λH=>dp t.data.toList (by rw[aR];omega) H;rw[fQ]at hpa;have hok:=MB t.data.toList;have hid:=λH=>vl (dZ t.data.toList).1 hok.1 hok.2 H;have hnx:=zk B;have q:=dy (L.take k);rw[q9]at q;have hidT:IB t=if(dZ t.data.toList).2=0 then some (MU (dZ t.data.toList).1)else none:=rfl
  obtain ⟨G,c_⟩:∃G,G=dZ t.data.toList:=X_;rw[<-c_]at hpa hid hidT;obtain ⟨A,hA⟩:∃A,A=oD (L.take k):=X_;rw[<-hA]at hnx q |-;rw[mI,hidT]at hnx;obtain ⟨I,K⟩:∃I,I=MU G.1:=X_;rw[<-K]at hid hnx;clear c_ hA K hidT hok;refine aB<|S<|aD<|O (iO bD)<|Y (fZ N_ (hi:=N))<|V aI<|O aA<|Y (kc call54 (hpa _))<|Y aA<|Y dK<|Y dK<|Y (kl 6 jw)<|Uu (jA bL)<|V aI<|S<|O aA<|V zB<|Cn ?_ ?_<;>intro j
  ·have d_:G.2≠0:=by have:=j;intro e;rw[e]at this;exact absurd this (by decide)
   rw[a8 d_]at hnx;refine aP<|Rd gX<|V aA ?_;refine⟨k+1,by omega,by omega,?_⟩;dsimp only;rw[hnx];exact(cL.wk (Ea<|Ea<|Eb<|Eb<|Eb<|T_) (Hc (by(simp;exact⟨Z,Z⟩))<|Hc (aV _ _)<|Hc (dQ _)<|Hb<|T_) T_)
  have y:G.2=0:=by have:=j;by_cases e:G.2=0;exact e;rw[decide_eq_false e]at this;cases this
  rw[b7 y]at hnx;obtain ⟨P,o_⟩:=Ff A I;refine aB<|O (wQ cT bL)<|Y (kc call55 (hid _))<|V aI<|O (bA po)<|Y (bQ isAgg78)<|Y aA<|Y (by exact cN.eqv (G5 (κ:=JD) Z underlying78 U_ Z Z Z Z Z gQ (.inl Z)) (show AV.tup [(zC (pM (tM A)) I).getD (sv a6),.pv (.bool (zC (pM (tM A)) I).isSome)]=.tup [sv (oN A I),bv (decide (I∈A.map Prod.fst))]by rw[P,o_]))<|Y aA<|Y dK<|Y dK<|Y aI<|V aI<|O aA<|V iI<|Cn ?_ ?_<;>intro v
  ·have u:I∉A.map Prod.fst:=b_ (not_not v);have hnx:oD (L.take (k+1))=A++[(I,t)]:=by
    rw[hnx];refine a8 λh=>u ?_;obtain ⟨p,F,e⟩:=List.any_eq_true.1 h;exact List.mem_map.2 ⟨p,F,b9 e⟩
   have l:wP (pM (tM A)) I (sv t)=pM (tM (A++[(I,t)])):=by rw[mo (.str t) (by rw[Yg];exact u),tM,tM,List.map_append];rfl
   have x:(cB (A.map Prod.fst)).length=A.length:=by rw[eS,j6]
   have D:(A++[(I,t)]).length=A.length+1:=by rw[j_];rfl
   refine O (bA po)<|Y (bQ isAgg78)<|Y aA<|Y aA<|Uu (by exact zD (κ:=JD) (.inl Z) underlying78 U_ Z Z Z Z Z Z Z l)<|Zz<|Rd (bA IG)<|Y (bQ jU)<|Y aA<|Y (by exact aK [[.str I]] Z QK Z Z Z Z Z R_)<|Y (by exact cA (k:=A.length+1) (ps:=[[.str I]]) Z QK yJ Z Z Z Z Z x Z R_ (m:=1) Z (by omega) Z (rows':=cB ((A++[(I,t)]).map Prod.fst)) (by rw[List.map_append];exact gO _ I))<|Y (bA IG)<|Uu (ku sizeOf68)<|Zz<|Rd gX<|V aA ?_;refine⟨k+1,by omega,by omega,?_⟩;dsimp only;rw[hnx,D];exact(cL.wk (Ea<|Ea<|Eb<|Eb<|Eb<|T_) (Hc (by(simp;exact⟨Z,Z⟩))<|Hc (aV _ _)<|Hc (dQ _)<|Hb<|T_) T_)
  have m:I∈A.map Prod.fst:=b9 (pO v);have hnx:oD (L.take (k+1))=A:=by
   rw[hnx];obtain ⟨p,F,e⟩:=List.mem_map.1 m;exact b7 (List.any_eq_true.2 ⟨p,F,decide_eq_true e⟩)
  refine aB<|Rd gX<|V aA ?_;refine⟨k+1,by omega,by omega,?_⟩;dsimp only;rw[hnx];exact(cL.wk (Ea<|Ea<|Eb<|Eb<|Eb<|T_) (Hc (by(simp;exact⟨Z,Z⟩))<|Hc (aV _ _)<|Hc (dQ _)<|Hb<|T_) T_)
 have z:k=L.length:=by have:=b_ n;omega
 subst z;rw[List.take_length];have hlen:=dy L;have s:((oD L).map Prod.fst).length=(oD L).length:=j6 _;have w:qB L=jG ((oD L).map Prod.fst):=rfl;rw[w];refine aP<|O (bA IG)<|Y (bQ jU)<|V (kc call86 (ya ((oD L).map Prod.fst) Z s.symm (by omega)))<|O (by exact aW Z isAgg80 sizeOf80 Z Z Z Z (by simp only[Zl,S_];rfl) Z)<|Uu (jA sizeOf80)<|Zz<|aC ?_;refine cR (H':=[(710,T8 (tM (oD L)))]) (.inr Z) Z (fB Z isAgg80 sizeOf80 Z Z Z (by simp only[Zl,S_];rfl) Z) (Fin.mirW (o:=tM (oD L)) (jG ((oD L).map Prod.fst)) Z Z Z (by rw[kC];exact s.symm) Z) ?_;exact Qq
theorem Jw(L:List B_)(a:L.length<1000000)(b:∀t∈L,t.size<1000000000){H:aF}(hno:H.get 710=none):aU Tryz.prog 42 [.pv (aL L)] H (λr H'=>r=.agg [.pv (aL (qB L)),.mp 710 0]/\H'=(710,T8 (tM (oD L)))::H) :=aU.frame (Ad L a b) (λ_ _ h=>by cases h) (λ_ _ h=>by cases h) H_ (λid h=>.inr (by
  by_cases e:id=710
  ·simp_all
  rw[get_cons_other _ _ e]at h;cases h))
theorem X3(t:B_)(H:aF)(ht:t.size<1000000000):RC 17 [sv t] (.pv (aL (if(IB t).isSome=true then[t]else[]))) H:=by
 refine Pu ?_;have b:=λH=>dp t.data.toList z6 H;rw[fQ]at b;rw[IB];generalize dZ t.data.toList=G at b |-;refine Bd func17 Z ntmps17<|Sz aI<|S<|O aA<|Y (kc call54 (b _))<|Y aA<|Y dK<|Y dK<|Y (kl 3 jw)<|Uu (jA bL)<|V aI<|O aA<|V zB<|Cn ?_ ?_<;>intro c
 ·have d:G.2≠0:=by have:=c;intro e;simp_all
  rw[a8 d];refine Sz aI<|aC<|cR (H':=[]) (.inr Z) Z (aH Z) (P_ (r:=.pv (aL []))) Qq
 have f:G.2=0:=by have:=c;by_cases e:G.2=0;exact e;rw[decide_eq_false e]at this;cases this
 rw[b7 f];exact aB<|O aA<|Y (aK [[.str t]] Z bD Z Z Z Z Z R_)<|V aI<|aC<|Rt<|Qq
end Go.Proofs.YtopnleflllkbmaaGreatDoor
end
namespace Go.Proofs.YtopnleflllkbmaaGreatDoor
open Go.Proofs.Tryz
open Go.Abs Go.Lib
def Dh(s:B_)(k:Nat):Bool:=!(decide (aY s k<48)||decide (57<aY s k))
def YP(s:B_):Nat->Int
 |0=>0
 |k+1=>10*YP s k+(aY s k - 48)
def JQ(s:B_):Int:=if s.size=0 then -1 else if(List.range s.size).all (Dh s)&&decide (s.size<=7)then YP s s.size else -1
theorem tj{s}:∀ {k},(∀j,j<k->Dh s j=true)->0<=YP s k/\YP s k<10 ^ k
 |0,_=>⟨Int.le_refl 0,by show 0<1;omega⟩
 |k+1,h=>by
  obtain ⟨h1,h2⟩:=tj (k:=k) λj hj=>h j X;have a:=h k X;rw[Dh,r8,q8,p_,p_]at a;rw[YP];omega
theorem aCI{k}(h:k<=7):(10:Int) ^ k<=10000000:=by
 have a:k=0\/k=1\/k=2\/k=3\/k=4\/k=5\/k=6\/k=7:=X
 rcases a with rfl|rfl|rfl|rfl|rfl|rfl|rfl|rfl<;>decide
theorem VW(s:B_)(H:aF)(hs:s.size<2^40):RC 163 [sv s] (iv (JQ s)) H:=by
 refine Pu<|Bd func163 Z ntmps163<|Sz aI<|Sz aI<|S<|Sz aI<|aD<|bF (σ:=Nat) (λk=>([(0,sv s),(3,iv (YP s k)),(4,iv (k:Int))],[])) (λk=>k<=s.size/\(∀j,j<k->Dh s j=true)/\(0<k->s.size<=7)) (λk=>s.size - k) 0 ⟨l7 _,λj q=>absurd q (not_lt_zero _),λh=>absurd h (Nat.lt_irrefl 0)⟩ ?_ ?_
 ·exact Wk
 rintro k ⟨hk,t,h7⟩;refine S<|O aA<|Y aA<|Y (gE U_)<|V cJ<|Cn ?_ ?_<;>intro d
 ·have hlt:k<s.size:=I_ d
  refine aB<|S<|aD<|S<|S<|aQ (t:=25) (n:=17) (A_:=(decide (aY s k<48)||decide (57<aY s k))||decide (7<(s.size:Int))) ?_ ?_
  ·all_goals refine Y aA<|Y aA<|Y (ky U_)<|Y cJ<|Dm ?_<;>(refine Sp 15 (λp=>?_) λp=>?_)<;>(first|exact s_|refine M<|M<|M<|M ?_|refine U aA<|U aA<|U (ky U_)<|U iP ?_)<;>refine Y cC<|Dm ?_<;>(refine Sp 21 (λo=>?_) λo=>?_)<;>(first|exact s_|refine M<|M<|M ?_|refine U aA<|U (gE U_)<|U iP ?_)<;>refine V cC ?_<;>(exact⟨⟨_,Z,G_⟩,Z,Z,Z⟩)
  refine Cn ?_ ?_<;>intro c
  ·have hbad:Dh s k=false\/7<s.size:=by have h:=c;rw[Dh];simp only[Bool.or_eq_true,j0]at h;rcases h with h|h;exact .inl G_;exact .inr X
   have f:JQ s = -1:=by
    rw[JQ,a8 X,a8 ?_]
    grind
   rw[f];exact Sz aI<|aC<|Rt<|Qq
  have b:Dh s k=true/\s.size<=7:=by have h:=c;rw[q8,p_]at h;exact⟨by rw[Dh,h.1];rfl,X⟩
  have hbd:=tj t;have hp:=aCI (k:=k) X;have m:=b.1;rw[Dh,r8,q8,p_,p_]at m;have n:∀j,j<k+1->Dh s j=true:=λj q=>by
   grind
  refine aB<|Rd aA<|Y (oL Z Z Z (mE X X))<|Y aA<|Y aA<|Y (ky U_)<|Y (dM Z Z Z (wu8 X X))<|Y (eE Z cZ underlying3 Z (mE X X))<|Y gX<|V aI<|Rd aA<|Y gX<|Da ?_;exact⟨k+1,⟨X,n,λ_=>b.2⟩,X,Wk⟩
 have l:k=s.size:=J_ d
 subst l;refine aP<|S<|O aA<|V wH<|Cn ?_ ?_<;>intro g
 ·have i:s=⟨#[]⟩:=b9 g;have f:JQ s = -1:=by rw[i];rfl
  rw[f];exact Sz aI<|aC<|Rt<|Qq
 have i:s.size≠0:=λe=>b_ g (pq (length_eq_zero_iff.1 F_));have f:JQ s=YP s s.size:=by
  rw[JQ,a8 i,b7 ?_]
  grind
 rw[f];exact aB<|O aA<|V aI<|aC<|Rt<|Qq
def JP(s:B_):Nat->Int
 |0=>0
 |k+1=>10*JP s k+IntKind.u8.wrap (aY s k - 48)
theorem Wp(x):0<=IntKind.u8.wrap x/\IntKind.u8.wrap x<=255:=by have:IntKind.u8.wrap x=x % 256:=rfl;omega
theorem cx(s):∀k,k<=7->0<=JP s k/\JP s k+255<=255*10 ^ k
 |0,_=>⟨Int.le_refl 0,by show 0+255<=255*1;omega⟩
 |k+1,h=>by
  obtain ⟨h1,h2⟩:=cx s k X;have h3:=Wp (aY s k - 48);rw[JP];omega
theorem RE(s:B_)(H:aF)(hs:s.size<2^40):RC 215 [sv s] (iv (JP s (min s.size 7))) H:=by
 refine Pu<|Bd func215 Z ntmps215<|Sz aI<|Sz aI<|S<|Sz aI<|aD<|bF (σ:=Nat) (λk=>([(0,sv s),(3,iv (JP s k)),(4,iv (k:Int))],[])) (λk=>k<=s.size/\k<=7) (λk=>s.size - k) 0 ⟨l7 _,l7 _⟩ ?_ ?_
 ·exact Wk
 rintro k ⟨hk,d⟩;refine S<|S<|aQ (t:=12) (n:=9) (A_:=decide ((k:Int)<(s.size:Int))&&decide ((k:Int)<7)) ?_ ?_
 ·all_goals refine Y aA<|Y aA<|Y (gE U_)<|Y cJ<|Dm ?_<;>(refine Sp 9 (λe=>?_) λe=>?_)<;>(first|exact s_|refine M<|M ?_|refine U aA<|U cJ ?_)<;>refine V cC ?_<;>(exact⟨⟨_,Z,G_⟩,Z,Z,Z⟩)
 refine Cn ?_ ?_<;>intro c
 ·have b:k<s.size/\k<7:=by have h:=c;rw[k_,j0,j0]at h;omega
  have ⟨b,hl7⟩:=b;have hbd:=cx s k d;have hp:=aCI d;have hw:=Wp (aY s k - 48);refine aB<|S<|aD<|Rd aA<|Y (oL Z Z Z (mE X X))<|Y aA<|Y aA<|Y (ky U_)<|Y (dM Z Z Z Z)<|Y (eE Z cZ underlying3 Z (mE X X))<|Y gX<|V aI<|Rd aA<|Y gX<|Da ?_;exact⟨k+1,⟨X,X⟩,X,Wk⟩
 have hge:k=min s.size 7:=by have h:=c;rw[Bool.and_eq_false_iff,p_,p_]at h;omega
 refine aP<|O aA<|V aI<|aC<|Rt ?_
 simp_all
def ld(s:B_)(f:Nat):List B_:=(dP 32 (s.data.toList.drop f)).map a_
theorem xy(s):cO s=ld s 0:=rfl
theorem Lo{s}{f i}(hf:f<=i)(hi:i<s.size):s.data.toList.drop f=(s.data.toList.drop f).take (i - f)++oX s i::s.data.toList.drop (i+1):=by
 have hl:=aR s;have a:(s.data.toList.drop f).drop (i - f)=oX s i::s.data.toList.drop (i+1):=by
  rw[drop_drop,show f+(i - f)=i by omega,drop_eq_getElem_cons _];rw[oX,m_ X];rfl
 rw[<-a,take_append_drop]
theorem Yl{s}{f i}(d:f<=i)(hi:i<s.size)(e:oX s i=32)(b:32∉(s.data.toList.drop f).take (i - f)):ld s f=a_ ((s.data.toList.drop f).take (i - f))::ld s (i+1):=by have h:=Lo d hi;rw[e]at h;have c:=congrArg (λl=>(dP 32 l).map a_) h;simp[jQ b,map_cons]at c;exact c
theorem Qh{s}{f}(a:32∉s.data.toList.drop f):ld s f=[a_ (s.data.toList.drop f)]:=by rw[ld,rO a];rfl
theorem Th{s}{f i}(hf:f<=i)(hi:i<s.size)(b:oX s i≠32)(hno:32∉(s.data.toList.drop f).take (i - f)):32∉(s.data.toList.drop f).take (i+1 - f):=by
 rw[show i+1 - f=(i - f)+1 by omega,take_add_one,];intro h;rcases mem_append.1 h with h|h
 ·grind
 exact b (by rw[oX];simp_all)
theorem Hm(s:B_)(H:aF)(hs:s.size<1000000000):RC 161 [sv s] (.pv (aL (cO s))) H:=by
 refine Pu ?_;have hl:=aR s;refine Bd func161 Z ntmps161<|Sz aI<|Sz (by exact eI (id:=906) (sz:=1) (ty:=9) Z Z Z)<|Sz aI<|S<|Sz aI<|aD<|B5 (λ(i f:Nat) (a:List B_)=>([(0,sv s),(3,.osl 906 a.length 0 a.length),(4,iv (f:Int)),(5,iv (i:Int))],[(906,⟨a.length,1,9,T5 a⟩)])) (λi f a=>i<=s.size+1/\f<=i/\a.length<=i/\(i<=s.size->cO s=a++ld s f/\(32:UInt8)∉(s.data.toList.drop f).take (i - f))/\(i=s.size+1->cO s=a)) (λi _ _=>s.size+1 - i) 0 0 [] ⟨X,g_ _,g_ _,λ_=>⟨xy s,H_⟩,λh=>by omega⟩ ?_ ?_
 ·exact(cL.wk (Eb<|Ea<|Eb<|Eb<|T_) (Hc (lT _ _)<|T_) T_)
 rintro i f a ⟨hi,x,hol,hA,hB⟩;refine S<|O aA<|Y aA<|Y (gE U_)<|V G8<|Cn ?_ ?_<;>intro o
 ·have d:i<=s.size:=I_ o
  have ⟨k,g⟩:=hA d;have j:aY s i=((oX s i).toNat:Int):=tE s i;refine aB<|S<|aD<|S<|aQ (t:=21) (n:=11) (A_:=decide ((i:Int)=(s.size:Int))||decide (aY s i=32)) ?_ ?_
  ·all_goals refine Y aA<|Y aA<|Y (gE U_)<|Y cD<|Dm ?_<;>(refine Sp 16 (λm=>?_) λm=>?_)<;>(first|exact s_|refine M<|M<|M<|M ?_|refine U aA<|U aA<|U (by exact cI Z U_ Z Z X (by exact l_ _) (J_ m) Z)<|U cD ?_)<;>refine V cC ?_<;>exact Gj (h:=by simp_all)
  refine Cn ?_ ?_<;>intro l
  ·have t:i=s.size\/aY s i=32:=by have h:=l;rw[Bool.or_eq_true,j0,j0]at h;rcases h with h|h;exact .inl X;exact .inr h
   have ⟨w,q⟩:∃w,w=a_ ((s.data.toList.drop f).take (i - f)):=X_;have z:s.extract f i=w:=by rw[q];exact pq (by rw[gB,cG])
   have v:(a++[w]).length=a.length+1:=F_
   have hN:(i+1<=s.size->cO s=(a++[w])++ld s (i+1)/\(32:UInt8)∉(s.data.toList.drop (i+1)).take (i+1 - (i+1)))/\(i+1=s.size+1->cO s=a++[w]):=by
    constructor
    ·intro h;have u:oX s i=32:=by
      rcases t with e|e
      ·omega
      rw[j]at e;exact UInt8.toNat_inj.1 G_
     refine⟨?_,F_⟩;rw[k,Yl x X u g,q,append_assoc];rfl
    intro h;have e:(s.data.toList.drop f).take (i - f)=s.data.toList.drop f:=take_of_length_le m5;rw[e]at g q;rw[k,Qh g,q]
   refine O aA<|Y aA<|Y aA<|Y aA<|Y (by exact bM (l:=f) (h:=i) Z U_ Z Z Z x d z)<|Y (by exact aK [S_ w] Z bD Z Z Z Z Z R_)<|Y (by exact cA (ps:=[S_ w]) Z bD yJ Z Z Z Z Z (YH _) Z R_ (m:=1) Z (by omega) Z (YJ _ w))<|V aI<|Rd aA<|Y gX<|V aI<|Rd aA<|Y gX<|Da ?_;refine⟨i+1,i+1,a++[w],⟨by omega,g_ _,by omega,hN.1,hN.2⟩,by omega,?_⟩;rw[v];exact(cL.wk (Eb<|Ea<|Eb<|Eb<|T_) (Hc (lT _ _)<|T_) T_)
  have t:i<s.size/\aY s i≠32:=by have h:=l;rw[q8,p_,p_]at h;exact⟨X,h.2⟩
  have u:oX s i≠32:=λe=>t.2 (by rw[j,e];rfl);have n:=Th x t.1 u g;refine aB<|Rd aA<|Y gX<|Da ?_;exact⟨i+1,f,a,⟨X,X,X,λ_=>⟨k,n⟩,λh=>by omega⟩,X,(cL.wk (Eb<|Ea<|Eb<|Eb<|T_) (Hc (lT _ _)<|T_) T_)⟩
 have d:i=s.size+1:=J_ o
 have y:=hB d;rw[y];refine aP<|O aA<|V aI<|aC ?_;refine cR (H':=[]) (.inr Z) Z (aH Z) (Fin.fz (id:=906) (a.map S_) Z (Gx _) (.osl (kS S_ _)) Z T_ T_) ?_;exact Qq
def Fc(b c:b6):Bool:=decide (b.text=⟨#[61]⟩)&&decide (c.kind=3)
abbrev mkT(a c:b6):m7:=⟨a.text,c.text⟩
def K9:List m7->List b6->List m7×Bool
 |acc,[]=>(acc,true)
 |acc,a::b::c::r=>if Fc b c then K9 (acc++[mkT a c]) r else([],false)
 |_,[_]=>([],false)
 |_,[_,_]=>([],false)
theorem Fin.tg2{H1}{id g n}{ob}(l)(v)(b:H1.get id=some ob)(c:ob.g=g)(a:ob.rows=sI l)(d:n=l.length)(e:Clo [] v):
  Fin [] H1 (.tup [.osl id g 0 n,v]) [] (.tup [.pv (pY l),v]):=by
 subst c d;exact Fin.fz _ b (a.trans (by rw[map_map];rfl)) (.tup Z (bC (.osl (kS _ l)) (bC (.same e) kK))) Z T_ T_
theorem aDC{T:List b6}{i}{a b c}(k:T[i]?=some a)(d:T[i+1]?=some b)(h:T[i+2]?=some c):T.drop i=a::b::c::T.drop (i+3):=by have ⟨m,j⟩:=m9.1 k;have ⟨l,f⟩:=m9.1 d;have ⟨e,g⟩:=m9.1 h;rw[drop_eq_getElem_cons m,drop_eq_getElem_cons l,drop_eq_getElem_cons e,j,f,g]
theorem yw{acc}{T}(a:0<T.length)(h:T.length<3):K9 acc T=([],false):=by
 match T with
 | []=>exact absurd a (Nat.lt_irrefl 0)
 | [_]=>rfl
 | [_,_]=>rfl
 |_::_::_::_=>rw[j7,j7,j7]at h;omega
theorem LX(T:List b6)(H:aF)(hT:T.length<1000000000):RC 216 [.pv (CL T)] (.tup [.pv (pY (K9 [] T).1),bv (K9 [] T).2]) H:=by
 refine Pu ?_;have hmT:(T.map K_).length=T.length:=j6 _;refine Bd func216 Z ntmps216<|O aI<|V aI<|Sz (eI (id:=906) (sz:=2) (ty:=270) Z Z Z)<|S<|Sz aI<|aD<|eU (λ(i:Nat) (A:List m7)=>([(0,.pv (CL T)),(4,.osl 906 A.length 0 A.length),(5,iv (i:Int))],[(906,⟨A.length,2,270,sI A⟩)])) (λi A=>i<=T.length/\A.length<=i/\K9 [] T=K9 A (T.drop i)) (λi _=>T.length - i) 0 [] ⟨l7 _,g_ _,Z⟩ ?_ ?_
 ·exact L_
 rintro i A ⟨hi,hA,g⟩;refine S<|O aA<|Y aA<|Y (fW cP)<|V cJ<|Cn ?_ ?_<;>intro l
 ·have t:i<T.length:=I_ l
  have ⟨a,B⟩:=aS t;have hia:=cE (f:=K_) B;by_cases E:i+2<T.length
  ·have ⟨b,d_⟩:=aS (l:=T) (k:=i+1) X;have ⟨c,z⟩:=aS E;have p:=cE (f:=K_) d_;have o:=cE (f:=K_) z;have q:=aDC B d_ z;rw[q,K9]at g;have x:¬ (decide (((T.map K_).length:Int)<=(i:Int)+2)=true):=G_
   refine aB<|S<|aD<|S<|S<|aQ (t:=34) (n:=25) (A_:=!Fc b c) ?_ ?_
   ·all_goals refine Y aA<|Y gX<|Y aA<|Y (fW cP)<|Y zU<|Dm ?_<;>(refine Sp 17 (λk=>?_) λk=>?_)<;>(try contradiction)<;>refine U aA<|U aA<|U gX<|U (bU Z iA Z Z X (show ((i:Int)+1).toNat=i+1 by omega) p Z)<|U (E5 iF)<|U (fZ N_)<|U DZ<|Y cC<|Dm ?_<;>(refine Sp 26 (λj=>?_) λj=>?_)<;>(first|exact s_|refine M<|M<|M<|M<|M<|M<|M ?_|refine U aA<|U aA<|U gX<|U (bU Z iA Z Z X (show ((i:Int)+2).toNat=i+2 by omega) o Z)<|U (E5 uT)<|U (fZ M_)<|U zB ?_)<;>refine V cC ?_<;>exact Gj (h:=by(rw[Fc];simp_all))
   refine Cn ?_ ?_<;>intro n
   ·have v:Fc b c=false:=by have h:=n;rwa [r8]at h
    rw[v,a8 H_]at g;rw[g];refine O aI<|V aI<|aC<|fP (H':=[]) (.inr Z) Z (aH Z) (aH Z) (P_ (r:=.tup [.pv (pY []),bv false])) Qq
   have v:Fc b c=true:=by have h:=n;rwa [Bool.not_eq_false']at h
   rw[v,b7 rfl]at g;have s:(A++[mkT a c]).length=A.length+1:=F_
   refine aB<|aM a7<|Cs (λ_ _=>aA)<|Cs (λ_ _=>aA)<|Cs (λ_ _=>aA)<|Cs (λ_ _=>(iO iA))<|Cs (λ_ _=>(E5 iF))<|Cs (λ_ _=>(fZ N_))<|Cs (λ_ _=>aA)<|Cs (λ_ _=>aA)<|Cs (λ_ _=>gX)<|Cs (λD u=>by exact bU Z iA Z Z X (show ((i:Int)+2).toNat=i+2 by omega) o Z)<|Cs (λ_ _=>(E5 iF))<|Cs (λ_ _=>(fZ N_))<|Cs (λ_ _=>(oI Ml))<|Cs (λD u=>by exact aK [bS (mkT a c)] Z lK Z Z Z Z Z R_) ?_;refine iH (r:=⟨_,none,[_]⟩) (DStep.plain Z (λD u=>by exact cA (ps:=[bS (mkT a c)]) Z lK Ln Z ((u _ Z).trans Z) Z Z Z (HK _) Z R_ (m:=1) Z X Z (HL _ (mkT a c)))) Z ?_;refine Cs (λ_ _=>aI)<|bG<|Kr<|Rd aA<|Y gX<|Da ?_;refine⟨i+3,A++[mkT a c],⟨X,X,g⟩,X,?_⟩;rw[s];exact L_
  have hS:K9 [] T=([],false):=by rw[g];exact yw m5 m5
  have x:¬ (decide (((T.map K_).length:Int)<=(i:Int)+2)=false):=by rw[p_];omega
  rw[hS];refine aB<|S<|aD<|S<|S<|aQ (t:=34) (n:=25) (A_:=true) ?_ ?_
  ·all_goals refine Y aA<|Y gX<|Y aA<|Y (fW cP)<|Y zU<|Dm ?_<;>(refine Sp 17 (λk=>?_) λk=>?_)<;>(try contradiction)<;>refine M<|M<|M<|M<|M<|M<|M<|Y cC<|Dm ?_<;>(refine Sp 26 (λj=>?_) λj=>?_)<;>(try contradiction)<;>refine M<|M<|M<|M<|M<|M<|M<|V cC ?_<;>exact Gj (h:=by rfl)
  refine Cn ?_ ?_<;>intro y
  ·refine O aI<|V aI<|aC<|fP (H':=[]) (.inr Z) Z (aH Z) (aH Z) (P_ (r:=.tup [.pv (pY []),bv false])) Qq
  cases y
 have w:i=T.length:=J_ l
 rw[w,drop_length,K9]at g;rw[g];refine aP<|O aA<|Y aI<|V aI<|aC ?_;refine fP (H':=[]) (.inr Z) Z (aH Z) (aH Z) (Fin.tg2 A (bv true) Z Z Z Z H_) ?_;exact Qq
theorem Az(l):HC l=(l.map bJ).map (·.map .pv):=by rw[map_map];rfl
def D5(rE:B_->b8)(s:B_):Nat->Nat×List b8
 |0=>(0,[])
 |i+1=>if decide (aY s i=10)then(i+1,(D5 rE s i).2++[rE (s.extract (D5 rE s i).1 i)])else D5 rE s i
theorem Ht(rE)(s):∀i,(D5 rE s i).1<=i/\(D5 rE s i).2.length<=i
 |0=>⟨g_ _,g_ _⟩
 |i+1=>by
  obtain ⟨h1,h2⟩:=Ht rE s i;rw[D5]
  grind
theorem cz(rE)(s)(i):∀d,(D5 rE s i).2.length<=(D5 rE s (i+d)).2.length
 |0=>g_ _
 |d+1=>by
  refine Nat.le_trans (cz _ s i d) ?_;rw[show i+(d+1)=(i+d)+1 by omega,D5]
  grind
theorem OY{rE}{s}{Q:b8->Prop}(h:∀x,x.size<=s.size->Q (rE x)):∀i,∀e∈(D5 rE s i).2,Q e
 |0,e,b=>by cases b
 | i+1,e,b=>by
  rw[D5]at b
  split at b
  ·rcases List.mem_append.1 b with c|c
   ·exact OY h i e c
   rw[r6.1 c];exact h _ (fU s _ _)
  exact OY h i e b
def gPr(rE:B_->b8)(t:B_):List b8×Int:=if 20000<t.size then([],2)else if dW (D5 rE t t.size).2=(t,0)then((D5 rE t t.size).2,0)else([],5)
theorem yx{rE:B_->b8}(E:∀x:B_,x.size<=20000->US (rE x)/\(rE x).refs.length<2^40)(c_:∀(x:B_) (H:aF),x.size<=20000->RC 109 [sv x] (av (bJ (rE x))) H)(t:B_)(H:aF)(hs:t.size<1000000000):
  RC 67 [sv t] (.tup [.pv (kD (gPr rE t).1),iv (gPr rE t).2]) H:=by
 refine Pu<|Bd func67 Z ntmps67<|O aI<|V aI<|S<|O aA<|Y (gE U_)<|V iP<|Cn ?_ ?_<;>intro n
 ·have d_:20000<t.size:=I_ n
  rw[gPr,b7 d_];refine O aI<|V aI<|aC<|fP (H':=[]) (.inr Z) Z (aH Z) (aH Z) (Fin.wk (r:=.tup [.pv (kD []),iv 2]) H_ T_ T_) Qq
 have d_:¬ 20000<t.size:=J_ n
 rw[gPr,a8 d_];refine aB<|Sz (by exact eI (id:=905) (sz:=15) (ty:=137) Z Z Z)<|Sz aI<|S<|Sz aI<|aD<|bF (σ:=Nat) (λi=>([(0,sv t),(4,.osl 905 (D5 rE t i).2.length 0 (D5 rE t i).2.length),(5,iv ((D5 rE t i).1:Int)),(6,iv (i:Int))],[(905,⟨(D5 rE t i).2.length,15,137,HC (D5 rE t i).2⟩)])) (λi=>i<=t.size) (λi=>t.size - i) 0 (l7 _) ?_ ?_
 ·exact(cL.wk (Eb<|Ea<|Eb<|Eb<|T_) (Hc (xI _ _)<|T_) T_)
 rintro i N;have ⟨I,D⟩:=Ht rE t i;have c:D5 rE t (i+1)=if decide (aY t i=10)then(i+1,(D5 rE t i).2++[rE (t.extract (D5 rE t i).1 i)])else D5 rE t i:=rfl;have m:=cz rE t i (t.size - i);rw[show i+(t.size - i)=t.size by omega]at m;have d:=OY (rE:=rE) (s:=t) (Q:=λe=>US e/\e.refs.length<2^40) (λx w=>E x X) i;rcases l:D5 rE t i with⟨f,L⟩;simp only[l]at I D c m d |-;refine S<|S<|aQ (t:=20) (n:=10) (A_:=decide ((i:Int)<(t.size:Int))&&decide ((L.length:Int)<=200)) ?_ ?_
 ·all_goals refine Y aA<|Y aA<|Y (gE U_)<|Y cJ<|Dm ?_<;>(refine Sp 16 (λy=>?_) λy=>?_)<;>(first|contradiction|refine M<|M<|M ?_|refine U aA<|U (by exact dS Z eW Z Z Z)<|U G8 ?_)<;>refine V cC ?_<;>(exact⟨⟨_,Z,by grind⟩,Z,Z,Z⟩)
 refine Cn ?_ ?_<;>intro u
 ·have hlt:i<t.size:=by have h:=u;rw[k_,j0]at h;omega
  refine aB<|S<|aD<|O aA<|Y aA<|Y (ky U_)<|V cD<|Cn ?_ ?_<;>intro q
  ·have F:decide (aY t i=10)=true:=q;rw[F,b7 rfl]at c;have ⟨x,w⟩:∃x,x=t.extract f i:=X_;have z:x.size<=20000:=by rw[w];have:=fU t f i;omega
   rw[<-w]at c;have G:(L++[rE x]).length=L.length+1:=F_
   refine O aA<|Y aA<|Y aA<|Y aA<|Y (by exact bM (l:=f) (h:=i) Z U_ Z Z Z I N w.symm)<|Y (kc call109 (c_ x _ z))<|Y (by exact aK [bJ (rE x)] Z ca Z Z Z Z Z R_)<|Y (by exact cA (ps:=[bJ (rE x)]) Z ca Xc Z Z Z Z Z (XE _) Z R_ (m:=1) Z (by omega) Z (XF L (rE x)))<|V aI<|Rd aA<|Y gX<|V aI<|Rd aA<|Y gX<|Da ?_;refine⟨i+1,by omega,by omega,?_⟩;rw[c];simp only;rw[G];exact(cL.wk (Eb<|Ea<|Eb<|Eb<|T_) (Hc (xI _ _)<|T_) T_)
  have F:decide (aY t i=10)=false:=q;rw[F,a8 H_]at c;refine aB<|Rd aA<|Y gX<|Da ?_;refine⟨i+1,X,X,?_⟩;rw[c];exact(cL.wk (Eb<|Ea<|Eb<|Eb<|T_) (Hc (xI _ _)<|T_) T_)
 have j:i=t.size\/200<L.length:=by have h:=u;rw[Bool.and_eq_false_iff,p_,p_]at h;omega
 have v:(if dW (D5 rE t t.size).2=(t,0)then((D5 rE t t.size).2,(0:Int))else([],5))=if dW L=(t,0)then(L,0)else([],5):=by
  rcases j with e|e
  ·rw[<-e,l]
  have o:∀e_:List b8,200<e_.length->¬ dW e_=(t,0):=λe_ hM h=>by
   rw[dW]at h
   split at h
   ·next K=>have:=(NY K).2.1;omega
   have:=congrArg Prod.snd h;cases this
  rw[a8 (o _ X),a8 (o _ e)]
 rw[v];refine gG.ent (cL.fzG (id:=905) (E':=[(0,sv t),(4,.pv (kD L))]) (H':=[]) (L.map bJ) Z (Az L) ?_ Z ?_ ?_) ?_
 ·intro p l;simp only[l9,q7,or_false]at l;rcases l with rfl|rfl
  ·exact⟨_,Z,.same (by simp;try rfl)⟩
  exact⟨_,Z,.osl (kS bJ L)⟩
 ·exact T_
 ·exact T_
 refine aP<|O aA<|Y (kc call110 (RA L _ X (λe h=>(d e h).1) (λe h=>(d e h).2)))<|Y aA<|Y dK<|Y dK<|Y aI<|V aI<|S<|S<|aQ (t:=48) (n:=8) (A_:=!decide ((dW L).2=0)||!decide ((dW L).1=t)) ?_ ?_
 ·all_goals refine Y aA<|Y zB<|Dm ?_<;>(refine Sp 44 (λk=>?_) λk=>?_)<;>(first|exact s_|refine M<|M<|M ?_|refine U aA<|U aA<|U DZ ?_)<;>refine V cC ?_<;>exact Gj (h:=by(rw[k];rfl))
 refine Cn ?_ ?_<;>intro g
 ·have A:dW L≠(t,0):=λe=>by have h:=g;rw[e]at h;simp at h
  rw[a8 A];refine O aI<|V aI<|aC<|fP (H':=[]) (.inr Z) Z (aH Z) (aH Z) (Fin.wk (r:=.tup [.pv (kD []),iv 5]) H_ T_ T_) Qq
 have B:dW L=(t,0):=by have h:=g;simp only[q8,Bool.not_eq_false',j0]at h;exact Prod.ext h.2 h.1
 rw[b7 B];exact aB<|O aA<|Y aI<|V aI<|aC<|Ru<|Qq
theorem dv{s}{i}(hi:i<s.size)(h:mT s i=2):uY s i=true:=by rw[mT,b7 hi]at h;have a:=(ZQ s i).2.1;rw[h]at a;have e:=b9 (a.trans Z);rw[uY,decide_eq_true hi,e];rfl
theorem LP{s}{i j}(h:eX s i=(none,j))(hi:i<s.size):i<j/\j<=s.size:=by
 rw[eX]at h
 split at h
 ·grind
 split at h
 ·rename_i b;cases h;have a:=dv hi b;have ⟨l1,l2⟩:=FX (uY s) (s.size - i) i;rw[GA];refine⟨?_,X⟩;rcases Nat.lt_or_ge i _ with h|h
  ·exact h
  have e:zA (uY s) (s.size - i) i=i:=X
  have:=xE (uY s) (s.size - i) i X;rw[e,a]at this;cases this
 grind
theorem FP(s):∀(n m i),s.size - i<n->s.size - i<m->jZ s n i=jZ s m i
 |0,_,_,h,_=>by omega
 |_+1,0,_,_,h=>by omega
 | n + 1, m + 1, i, h1, h2 => by
  rw[jZ,jZ];by_cases b:i<s.size
  ·rw[b7 b,b7 b];cases d:eX s i with
   | mk o j =>
    cases o with
    |none =>
     have:=LP d b;exact FP s n m j X X
    |some f =>
     show f::_=f::_;congr 1;by_cases c:f.err=0
     ·have:=OR d c b;rw[b7 c,b7 c];exact FP s n m j X X
     simp_all
  grind
def GJ(s:B_)(i:Nat):List b6:=jZ s (s.size+1) i
theorem VB{s}{i j}(hi:i<s.size)(h:eX s i=(none,j)):GJ s i=GJ s j:=by have:=LP h hi;rw[GJ,jZ,b7 hi,h];exact FP s _ _ j X X
theorem xk{s}{i j}{f}(hi:i<s.size)(h:eX s i=(some f,j))(a:f.err=0):GJ s i=f::GJ s j:=by have:=OR h a hi;rw[GJ,jZ,b7 hi,h];show f::(if f.err=0 then _ else _)=_;rw[b7 a];congr 1;exact FP s _ _ j X X
theorem Ey{s}{i j}{f}(hi:i<s.size)(h:eX s i=(some f,j))(he:f.err≠0):GJ s i=[f]:=by
 rw[GJ,jZ]
 simp_all
theorem Ez{s}{i}(hi:¬ i<s.size):GJ s i=[]:=by rw[GJ,jZ,a8 hi]
theorem vp(s:B_)(e:Nat)(H:aF)(hs:s.size<2^40)(d_:e<=s.size):aU Tryz.prog 218 [sv s,iv (e:Int)] H (λr H'=>∃j,r=iv ((j:Nat):Int)/\e<=j/\j<=s.size/\GJ s e=GJ s j/\(j<s.size->mT s j≠1/\mT s j≠2)/\H'=H):=by
 refine Bd func218 Z ntmps218<|Sz aI<|S<|aD<|bF (σ:=Nat) (λi=>([(0,sv s),(1,iv (i:Int))],H)) (λi=>e<=i/\i<=s.size/\GJ s e=GJ s i) (λi=>s.size - i) e ⟨g_ _,d_,Z⟩ ?_ ?_
 ·exact E0
 rintro i ⟨hge,B,d⟩;refine S<|O aA<|Y aA<|Y (gE U_)<|V cJ<|Cn ?_ ?_<;>intro o
 ·have b:i<s.size:=I_ o
  have x:mT s i=yN (aY s i):=by rw[mT,b7 b]
  have ⟨z,y,_⟩:=ZQ s i;rw[<-x]at z y;refine aB<|aD<|O aA<|Y aA<|Y (ky U_)<|V (bH Z Z call262 Z (La ⟨#[32,9,10]⟩ (aY s i) _ E_))<|Cn ?_ ?_<;>intro t
  ·have u:mT s i=1:=b9 (z.symm.trans t);have c:eX s i=(none,i+1):=by rw[eX,b7 u]
   refine Rd aA<|Y gX<|Da ?_;exact⟨i+1,⟨X,b,d.trans (VB b c)⟩,X,E0⟩
  have u:mT s i≠1:=b_ (z.symm.trans t);refine O aA<|Y aA<|Y (ky U_)<|V cD<|Cn ?_ ?_<;>intro q
  ·have v:mT s i=2:=b9 (y.symm.trans q);have c:eX s i=(none,GA s i):=by rw[eX,a8 u,b7 v]
   refine aD<|bF (σ:=Nat) (λk=>([(0,sv s),(1,iv (k:Int))],H)) (λk=>i<=k/\k<=s.size/\∀j,i<=j->j<k->uY s j=true) (λk=>s.size - k) i ⟨g_ _,B,λj u v=>by omega⟩ ?_ ?_
   ·exact E0
   rintro k ⟨w,D,p⟩;refine S<|S<|aQ (t:=28) (n:=11) (A_:=decide ((k:Int)<(s.size:Int))&&!decide (aY s k=10)) ?_ ?_
   ·all_goals refine Y aA<|Y aA<|Y (gE U_)<|Y cJ<|Dm ?_<;>(refine Sp 23 (λg=>?_) λg=>?_)<;>(first|exact s_|refine M<|M<|M<|M ?_|refine U aA<|U aA<|U (cI Z U_ Z Z X (l_ _) (I_ g) Z)<|U zB ?_)<;>refine V cC ?_<;>(exact⟨⟨_,Z,G_⟩,Z,Z,Z⟩)
   refine Cn ?_ ?_<;>intro f
   ·have h:=f;rw[k_,j0]at h;have l:k<s.size:=X
    have hp:uY s k=true:=by rw[uY,decide_eq_true l,Bool.true_and];grind
    refine aB<|aD<|Rd aA<|Y gX<|Da ?_;refine⟨k+1,⟨X,l,λj u v=>?_⟩,X,E0⟩
    grind
   have n:GA s i=k:=by
    refine zI (uY s) w X p ?_;rcases Nat.lt_or_ge k s.size with h|h
    ·left;have A:=f;rw[decide_eq_true (show (k:Int)<(s.size:Int)by omega),Bool.true_and]at A;rw[uY,A,Bool.and_false]
    omega
   rw[n]at c;have hgo:=LP c b;refine aP ?_;exact⟨k,⟨X,D,d.trans (VB b c)⟩,X,E0⟩
  have v:mT s i≠2:=b_ (y.symm.trans q);refine O aA<|V aI<|aC<|cR (H':=H) (.inr Z) Z (aH Z) Fin.refl ?_
  grind
 have m:i=s.size:=J_ o
 subst m;refine aP<|O aA<|V aI<|aC<|cR (H':=H) (.inr Z) Z (aH Z) Fin.refl ?_
 grind
def Xt:b6:=⟨0,a6,0,0⟩
def Jp(s:B_)(i:Nat):b6×Int×Int:=match eX s i with
 |(some f,j)=>if f.err=0 then(f,(j:Int),0)else(Xt,0,f.err)
 |(none,_)=>(Xt,0,0)
theorem J9{s}{i j}{f}(h:eX s i=(some f,j))(he:f.err=0):Jp s i=(f,(j:Int),0):=by
 rw[Jp]
 simp_all
theorem R6{s}{i j}{f}(h:eX s i=(some f,j))(he:f.err≠0):Jp s i=(Xt,0,f.err):=by
 rw[Jp]
 simp_all
theorem WC{s}{k}(h:k<s.size):uX s k=Df (aY s k):=by
 have ⟨c1,c2,c3⟩:=TF s k;have a:mT s k=yN (aY s k):=by rw[mT,b7 h]
 rw[uX,a,c1,c2,c3];rfl
theorem dw{s}{k}(h:k<s.size):OB s k=yD (aY s k):=by
 have ⟨c1,c2,c3⟩:=TF s k;have a:mT s k=yN (aY s k):=by rw[mT,b7 h]
 rw[OB,a,c2]
def aCE(p:b6×Int×Int):AV:=.tup [av (K_ p.1),iv p.2.1,iv p.2.2]
theorem Qd{s}{i:Nat}{H}(b:s.size<2^40)(hi:i<s.size)(a:nU (s.data.toList.drop (i+1))=none):RC 263 [sv s,iv i] (.tup [sv a6,iv 0,bv false]) H:=by
 have:=si s i H b hi
 rwa [a]at this
theorem Qc{s}{i:Nat}{H}{p}(b:s.size<2^40)(hi:i<s.size)(c:nU (s.data.toList.drop (i+1))=some p):RC 263 [sv s,iv i] (.tup [sv ⟨p.1.toArray⟩,iv ((i+(p.2+1):Nat)),bv true]) H:=by
 have:=si s i H b hi;rw[c]at this;have e:xK (some p) [] (i+1)=(⟨p.1.toArray⟩,((i+(p.2+1)):Int)):=by
  show ((⟨([]++p.1).toArray⟩:B_),((i+1+p.2):Int))=_
  grind
 rw[e]at this;exact this
theorem Jt(s:B_)(i:Nat)(H:aF)(hs:s.size<2^40)(hi:i<s.size)(hn1:mT s i≠1)(hn2:mT s i≠2):RC 219 [sv s,iv (i:Int)] (aCE (Jp s i)) H:=by
 refine aU.pure ?_ (by simp[aCE]) H;have v_:mT s i=yN (aY s i):=by rw[mT,b7 hi]
 have ⟨c1,c2,c3⟩:=TF s i;have ⟨q1,q2,T,z_,q5⟩:=ZQ s i;rw[<-v_]at c1 c2 c3 q1 q2 T z_;refine Bd func219 Z ntmps219<|O (kl 4 qw)<|Y aI<|V aI<|O aA<|Y gX<|V aI<|O aA<|Y aA<|Y (cI Z U_ Z Z X x6 hi Z)<|V aI<|S<|O aA<|V (kc call168 (LY (aY s i) _))<|Cn ?_ ?_<;>intro E
 ·have h3:mT s i=3:=b9 (c1.trans E);have hst:eX s i=(some (AK s i (CB s i)),CB s i):=by rw[eX,a8 hn1,a8 hn2,b7 h3]
  refine S<|aD<|bF (σ:=Nat) (λk=>([(0,sv s),(1,iv (i:Int)),(4,.ref 4 0 0 0),(7,iv (k:Int))],[(4,bx 3 189 [iv 0,sv a6,iv 0])])) (λk=>i<k/\k<=s.size/\∀j,i<=j->j<k->uX s j=true) (λk=>s.size - k) (i+1) ⟨lt_succ_self _,hi,λj o_ f_=>?_⟩ ?_ ?_
  ·obtain rfl:j=i:=X
   rw[uX,h3];rfl
  ·exact Wk
  rintro k ⟨hik,hk,hall⟩;refine S<|S<|aQ (t:=28) (n:=11) (A_:=decide ((k:Int)<(s.size:Int))&&Df (aY s k)) ?_ ?_
  ·all_goals refine Y aA<|Y aA<|Y (gE U_)<|Y cJ<|Dm ?_<;>(refine Sp 23 (λD=>?_) λD=>?_)<;>(first|exact s_|refine M<|M<|M<|M ?_|refine U aA<|U aA<|U (cI Z U_ Z Z X (l_ _) (I_ D) Z)<|U (kc call167 (YO (aY s k) _)) ?_)<;>refine V cC ?_<;>(exact⟨⟨_,Z,G_⟩,Z,Z,Z⟩)
  refine Cn ?_ ?_<;>intro L
  ·have h:=L;rw[k_,j0]at h;have hkl:k<s.size:=X
   have hp:uX s k=true:=by rw[WC hkl];grind
   refine aB<|aD<|Rd aA<|Y gX<|Da ?_;refine⟨k+1,⟨X,hkl,λj o_ f_=>?_⟩,X,Wk⟩
   grind
  have hend:CB s i=k:=by
   refine zI (uX s) (Nat.le_of_lt hik) X hall ?_;rcases Nat.lt_or_ge k s.size with h|h
   ·left;have N:=L;rw[decide_eq_true (show (k:Int)<(s.size:Int)by omega),Bool.true_and]at N;rw[WC h,N]
   omega
  rw[hend]at hst;have hsub:IntKind.i64.wrap ((k:Int) - (i:Int))=((k - i:Nat):Int):=by rw[IntKind.wrap_i64];omega
  refine aP<|S<|O aA<|Y aA<|Y (dM Z Z Z hsub)<|V iP<|Cn ?_ ?_<;>intro I
  ·have h24:24<k - i:=I_ I
   have hb:=R6 hst (by show (if 24<k - i then(2:Int)else 0)≠0;omega);have A_:(AK s i k).err=2:=b7 h24;rw[A_]at hb;rw[hb];refine O (oI HF)<|Uu (jA sizeOf189)<|Y aI<|V aI<|aC<|lX (H':=[]) (.inr Z) Z (CN iT sizeOf189) (aH Z) (aH Z) (P_ (r:=.tup [.agg [iv 0,sv a6,iv 0],iv 0,iv 2])) Qq
  have h24:¬ 24<k - i:=J_ I
  have A_:(AK s i k).err=0:=a8 h24;rw[J9 hst A_];refine aB<|O aA<|Y aA<|Y aA<|Y (bM (l:=i) (h:=k) Z U_ Z Z Z X X Z)<|Y aA<|Y (oI HF)<|Y aA<|Uu (jA sizeOf189)<|Y aI<|V aI<|aC<|lX (H':=[]) (.inr Z) Z (CN iT sizeOf189) (aH Z) (aH Z) (P_ (r:=.tup [.agg [iv 1,sv (s.extract i k),iv (i:Int)],iv ((k:Nat):Int),iv 0])) Qq
 have h3:mT s i≠3:=b_ (c1.trans E);refine aB<|S<|O aA<|V (kc call224 (RH (aY s i) _))<|Cn ?_ ?_<;>intro hc4
 ·have h4:mT s i=4:=b9 (c2.trans hc4);have hst:eX s i=(some (HA s i (IM s i)),IM s i):=by rw[eX,a8 hn1,a8 hn2,a8 h3,b7 h4]
  refine S<|aD<|bF (σ:=Nat) (λk=>([(0,sv s),(1,iv (i:Int)),(4,.ref 4 0 0 0),(7,iv (k:Int))],[(4,bx 3 189 [iv 0,sv a6,iv 0])])) (λk=>i<k/\k<=s.size/\∀j,i<=j->j<k->OB s j=true) (λk=>s.size - k) (i+1) ⟨lt_succ_self _,hi,λj o_ f_=>?_⟩ ?_ ?_
  ·obtain rfl:j=i:=X
   rw[OB,h4];rfl
  ·exact Wk
  rintro k ⟨hik,hk,hall⟩;refine S<|S<|aQ (t:=54) (n:=11) (A_:=decide ((k:Int)<(s.size:Int))&&yD (aY s k)) ?_ ?_
  ·all_goals refine Y aA<|Y aA<|Y (gE U_)<|Y cJ<|Dm ?_<;>(refine Sp 49 (λh49=>?_) λh49=>?_)<;>(first|exact s_|refine M<|M<|M<|M ?_|refine U aA<|U aA<|U (cI Z U_ Z Z X (l_ _) (I_ h49) Z)<|U (kc call224 (RH (aY s k) _)) ?_)<;>refine V cC ?_<;>exact Gj (h:=by(rw[h49];rfl))
  refine Cn ?_ ?_<;>intro K
  ·have h:=K;rw[k_,j0]at h;have hkl:k<s.size:=X
   have hp:OB s k=true:=by rw[dw hkl];exact h.2
   refine aB<|aD<|Rd aA<|Y gX<|Da ?_;refine⟨k+1,⟨X,hkl,λj o_ f_=>?_⟩,X,Wk⟩;rcases Nat.lt_or_ge j k with h|h
   ·exact hall j o_ h
   obtain rfl:j=k:=X
   exact hp
  have hstop:k<s.size->yD (aY s k)=false:=λh=>by
   have N:=K
   rwa [decide_eq_true (show (k:Int)<(s.size:Int)by omega),Bool.true_and]at N
  have hend:IM s i=k:=by
   refine zI (OB s) (Nat.le_of_lt hik) X hall ?_;rcases Nat.lt_or_ge k s.size with h|h
   ·left;rw[dw h,hstop h]
   right;omega
  rw[hend]at hst;have hsub:IntKind.i64.wrap ((k:Int) - (i:Int))=((k - i:Nat):Int):=by rw[IntKind.wrap_i64];omega
  have hw:(decide ((k:Int)<(s.size:Int))&&Df (aY s k))=(decide (mT s k=3)||decide (mT s k=5)):=by
   rcases Nat.lt_or_ge k s.size with h|h
   ·have ⟨d1,d2,d3⟩:=TF s k;rw[mT,b7 h,d1,d3,Df,hstop h,Bool.or_false,decide_eq_true (show (k:Int)<(s.size:Int)by omega),Bool.true_and]
   rw[mT,a8 X,decide_eq_false (show ¬ (k:Int)<(s.size:Int)by omega)];rfl
  refine aP<|S<|S<|aQ (t:=72) (n:=18) (A_:=decide (7<((k - i:Nat):Int))||(decide ((k:Int)<(s.size:Int))&&Df (aY s k))) ?_ ?_
  ·all_goals refine Y aA<|Y aA<|Y (dM Z Z Z hsub)<|Y iP<|Dm ?_<;>(refine Sp 61 (λh61=>?_) λh61=>?_)<;>(first|exact s_|refine M<|M<|M<|M<|M ?_|refine U aA<|U aA<|U (gE U_)<|U cJ<|U aA ?_)<;>(first|refine Sp 66 (λh66=>?_) λh66=>?_|refine jS (t:=66) Z ?_)<;>(first|exact s_|refine M ?_|refine Fu ?_|refine U aA ?_)<;>(first|refine M ?_|refine Fu ?_|refine U aA ?_)<;>(first|refine M ?_|refine Fu ?_|refine U (cI Z U_ Z Z X (l_ _) (I_ h66) Z) ?_)<;>(first|refine M ?_|refine Fu ?_|refine U (kc call167 (YO (aY s k) _)) ?_)<;>(first|refine M ?_|refine U cC ?_)<;>refine V cC ?_<;>exact Gj (h:=by first|(rw[h61];rfl)|(rw[h61,h66];rfl))
  refine Cn ?_ ?_<;>intro F
  ·have e_:(HA s i k).err=4:=by
    have h:=F;rw[hw,<-Bool.or_assoc]at h;have R:decide (7<((k - i:Nat):Int))=decide (7<k - i):=by rw[Bool.eq_iff_iff,j0,j0];omega
    rw[R]at h;exact b7 h
   have hb:=R6 hst (by rw[e_];decide);rw[e_]at hb;rw[hb];refine O (oI HF)<|Uu (jA sizeOf189)<|Y aI<|V aI<|aC<|lX (H':=[]) (.inr Z) Z (CN iT sizeOf189) (aH Z) (aH Z) (P_ (r:=.tup [.agg [iv 0,sv a6,iv 0],iv 0,iv 4])) Qq
  have e_:(HA s i k).err=0:=by
   have h:=F;rw[hw,<-Bool.or_assoc]at h;have R:decide (7<((k - i:Nat):Int))=decide (7<k - i):=by rw[Bool.eq_iff_iff,j0,j0];omega
   rw[R]at h;exact a8 (by rw[h];simp)
  rw[J9 hst e_];refine aB<|O aA<|Y aA<|Y aA<|Y (bM (l:=i) (h:=k) Z U_ Z Z Z X X Z)<|Y aA<|Y (oI HF)<|Y aA<|Uu (jA sizeOf189)<|Y aI<|V aI<|aC<|lX (H':=[]) (.inr Z) Z (CN iT sizeOf189) (aH Z) (aH Z) (P_ (r:=.tup [.agg [iv 2,sv (s.extract i k),iv (i:Int)],iv ((k:Nat):Int),iv 0])) Qq
 have h4:mT s i≠4:=b_ (c2.trans hc4);refine aB<|S<|O aA<|V cD<|Cn ?_ ?_<;>intro G
 ·have P:mT s i=7:=b9 (z_.symm.trans G);have hst:eX s i=(some (EX s i).1,(EX s i).2):=by rw[eX,a8 hn1,a8 hn2,a8 h3,a8 h4,b7 P]
  have c_:(s.extract i s.size).data.toList.drop 1=s.data.toList.drop (i+1):=by rw[rY,drop_drop]
  cases Q:nU (s.data.toList.drop (i+1))with
  |none =>
   have hun:AM (s.extract i s.size)=(a6,0):=by rw[AM,c_,Q]
   have u_:EX s i=(vC i,i):=by rw[EX,hun];rfl
   rw[u_]at hst;have hb:=R6 hst (by show (3:Int)≠0;decide);rw[hb];refine O aA<|Y aA<|Y (kc call263 (Qd hs hi Q))<|Y aA<|Y dK<|Y dK<|Y dK<|Y aI<|Y aI<|V aI<|S<|O aA<|V iI<|Cn ?_ ?_<;>intro W
   ·refine O (oI HF)<|Uu (jA sizeOf189)<|Y aI<|V aI<|aC<|lX (H':=[]) (.inr Z) Z (CN iT sizeOf189) (aH Z) (aH Z) (P_ (r:=.tup [.agg [iv 0,sv a6,iv 0],iv 0,iv 3])) Qq
   ((cases W;done))
  | some p =>
   have hun:AM (s.extract i s.size)=(⟨p.1.toArray⟩,((p.2+1:Nat):Int)):=by rw[AM,c_,Q]
   have u_:EX s i=(⟨3,⟨p.1.toArray⟩,i,0⟩,i+(p.2+1)):=by
    rw[EX,hun,b7 (by show (0:Int)<((_:Nat):Int);omega)];rfl
   rw[u_]at hst;rw[J9 hst rfl];refine O aA<|Y aA<|Y (kc call263 (Qc hs hi Q))<|Y aA<|Y dK<|Y dK<|Y dK<|Y aI<|Y aI<|V aI<|S<|O aA<|V iI<|Cn ?_ ?_<;>intro y_
   ·((cases y_;done))
   refine aB<|O aA<|Y aA<|Y (oI HF)<|Y aA<|Uu (jA sizeOf189)<|Y aI<|V aI<|aC<|lX (H':=[]) (.inr Z) Z (CN iT sizeOf189) (aH Z) (aH Z) P_ Qq
 have P:mT s i≠7:=b_ (z_.symm.trans G);refine aB<|S<|O aA<|Y (bH Z Z call262 Z (La ⟨#[59,44,46,58,40,41,123,125,91,93,61,60,62,47,45]⟩ (aY s i) _ E_))<|V iI<|Cn ?_ ?_<;>intro hc10
 ·have h6:mT s i≠6:=by
   have h:(!SR ⟨#[59,44,46,58,40,41,123,125,91,93,61,60,62,47,45]⟩ (aY s i))=true:=hc10;rw[T]at h
   simpa using h
  have hst:eX s i=(some (vC i),i):=by rw[eX,a8 hn1,a8 hn2,a8 h3,a8 h4,a8 P,a8 h6]
  have hb:=R6 hst (by show (3:Int)≠0;decide);rw[hb];refine O (oI HF)<|Uu (jA sizeOf189)<|Y aI<|V aI<|aC<|lX (H':=[]) (.inr Z) Z (CN iT sizeOf189) (aH Z) (aH Z) (P_ (r:=.tup [.agg [iv 0,sv a6,iv 0],iv 0,iv 3])) Qq
 have h6:mT s i=6:=by
  have h:(!SR ⟨#[59,44,46,58,40,41,123,125,91,93,61,60,62,47,45]⟩ (aY s i))=false:=hc10;rw[T]at h
  simpa using h
 have hst:eX s i=(some ⟨4,s.extract i (i+1),i,0⟩,i+1):=by rw[eX,a8 hn1,a8 hn2,a8 h3,a8 h4,a8 P,b7 h6]
 rw[J9 hst rfl];refine aB<|O aA<|Y aA<|Y aA<|Y (bM (l:=i) (h:=(i+1)) Z U_ Z Z Z X X Z)<|Y aA<|Y (oI HF)<|Y aA<|Uu (jA sizeOf189)<|Y aI<|V aI<|aC<|lX (H':=[]) (.inr Z) Z (CN iT sizeOf189) (aH Z) (aH Z) (P_ (r:=.tup [.agg [iv 4,sv (s.extract i (i+1)),iv (i:Int)],iv ((i+1:Nat):Int),iv 0])) Qq
theorem Fj{s}{i j}{f}(h:eX s i=(some f,j)):f.pos=i:=by
 rw[eX]at h
 split at h
 ·cases h
 split at h
 ·cases h
 split at h
 ·cases h;rfl
 split at h
 ·cases h;rfl
 split at h
 ·cases h;rw[EX]
  split<;>rfl
 split at h<;>(cases h;rfl)
theorem Qf{s}{i}(b:mT s i≠1)(a:mT s i≠2):∃f j,eX s i=(some f,j):=by
 rw[eX,a8 b,a8 a]
 split
 ·simp_all
 split
 ·simp_all
 split
 ·simp_all
 split<;>exact⟨_,_,Z⟩
theorem ur(s:B_)(H:aF)(D:s.size<2^40):RC 164 [sv s] (.tup [.pv (CL (fJ s).1),iv (fJ s).2.1,iv (fJ s).2.2]) H:=by
 refine Pu<|Bd func164 Z ntmps164<|O aI<|Y aI<|V aI<|S<|O aA<|Y (gE U_)<|V iP<|Cn ?_ ?_<;>intro p
 ·have e:fJ s=([],2,-1):=by rw[fJ,b7 (I_ p)]
  rw[e];refine O aI<|Y aI<|V aI<|aC<|lX (H':=[]) (.inr Z) Z (aH Z) (aH Z) (aH Z) (Fin.wk H_ T_ T_) Qq
 have v:¬ 20000<s.size:=J_ p
 have o_:fJ s=kI [] (GJ s 0):=by rw[fJ,a8 v];rfl
 have ⟨g,t⟩:∃g,g=fJ s:=X_;rw[<-t]at o_ |-;refine aB<|Sz (by exact eI (id:=905) (sz:=3) (ty:=189) Z Z Z)<|Sr<|Dm<|qn Z Z (bH Z Z call218 Z (vp s 0 _ D (l7 _))) ?_;rintro r H' ⟨N,rfl,hj1,d_,hj3,B,rfl⟩;refine V aI<|S<|aD<|eU (λ(j:Nat) (L:List b6)=>([(0,sv s),(5,.osl 905 L.length 0 L.length),(6,iv (j:Int))],[(905,⟨L.length,3,189,lL L⟩)])) (λj L=>j<=s.size/\L.length<=5000/\g=kI L (GJ s j)/\(j<s.size->mT s j≠1/\mT s j≠2)) (λj L=>s.size - j) N [] ⟨d_,l7 _,F_,B⟩ ?_ ?_
 ·exact(cL.wk (Eb<|Ea<|Eb<|T_) (Hc (cS _ _)<|T_) T_)
 rintro j L ⟨hj,hL,b,E⟩;refine S<|O aA<|Y aA<|Y (gE U_)<|V cJ<|Cn ?_ ?_<;>intro o
 ·have d:j<s.size:=I_ o
  have ⟨G,F⟩:=E d;have ⟨f,e,c⟩:=Qf G F;have l:=Jt s j [(905,⟨L.length,3,189,lL L⟩)] D d G F;have m:=Fj c;by_cases k:f.err=0
  ·rw[J9 c k]at l;have w:=OR c k d;have x:=xk d c k;rw[x]at b;refine aB<|aD<|O aA<|Y aA<|Y (kc call219 (l))<|Y aA<|Y dK<|Y dK<|Y dK<|Y (kl 7 qw)<|Uu (jA sizeOf189)<|Y aI<|V aI<|S<|O aA<|V zB<|Cn ?_ ?_<;>intro A
   ·((cases A;done))
   refine aB<|S<|O aA<|Y (by exact dS Z cP Z Z Z)<|V cD<|Cn ?_ ?_<;>intro n
   ·have z:L.length=5000:=I_ n
    have i:g=([],2,(j:Int)):=by rw[b,kI,a8 (λh=>h k),b7 z,m]
    rw[i];refine O aA<|Y aI<|Y aI<|V aI<|aC<|lX (H':=[]) (.inr Z) Z (aH Z) (aH Z) (aH Z) (Fin.wk H_ T_ T_) Qq
   have z:¬ L.length=5000:=J_ n
   rw[kI,a8 (λh=>h k),a8 z]at b;refine aB<|O aA<|Y (by exact aW Z iT sizeOf189 Z Z Z Z (by simp only[Zl,K_];rfl) Z)<|Y (by exact aK [K_ f] Z iA Z Z Z Z Z R_)<|Y (by exact cA (ps:=[K_ f]) Z iA vw Z Z Z Z Z (xL _) Z R_ (m:=1) Z (by omega) Z (CG L f))<|V aI<|Rd aA<|Dm ?_;refine qn Z Z (bH Z Z call218 Z (vp s e _ D w.2)) ?_;rintro r H' ⟨e_,rfl,g1,Q,c_,K,rfl⟩;refine Da ?_;refine⟨e_,L++[f],⟨Q,by grind,by rw[b,c_],K⟩,by omega,?_⟩;dsimp only;rw[j_,List.length_singleton];exact(cL.wk (Eb<|Ea<|Eb<|T_) (Hc (cS _ _)<|T_) T_)
  have P:(!decide (f.err=0))=true:=by rw[decide_eq_false k];rfl
  rw[R6 c k]at l;have i:g=([],f.err,(j:Int)):=by rw[b,Ey d c k,kI,b7 k,m]
  rw[i];refine aB<|aD<|O aA<|Y aA<|Y (kc call219 (l))<|Y aA<|Y dK<|Y dK<|Y dK<|Y (kl 7 qw)<|Uu (jA sizeOf189)<|Y aI<|V aI<|S<|O aA<|V (by exact cN.valY (by exact J2 Z Z Z) (P))<|Cn ?_ ?_<;>intro y
  ·refine O aA<|Y aA<|Y aI<|Y aI<|V aI<|aC<|lX (H':=[]) (.inr Z) Z (aH Z) (aH Z) (aH Z) (Fin.wk H_ T_ T_) Qq
  ((cases y;done))
 have u:¬ j<s.size:=J_ o
 rw[Ez u,kI]at b;rw[b];refine aP<|S ?_;refine gG.ent (cL.fz (id:=905) (E':=[(5,.pv (CL L))]) (H':=[]) (L.map K_) Z (by rw[map_map];rfl)
  (by intro q I;rw[r6]at I;subst I;exact⟨_,Z,.osl (by rw[r9,drop_zero,take_of_length_le (by rw[j6];exact g_ _)])⟩) Z T_ T_) ?_
 refine Rd aA<|Y aI<|Y aI<|V aI<|aC<|lX (H':=[]) (.inr Z) Z (aH Z) (aH Z) (aH Z) Fin.refl Qq
end Go.Proofs.YtopnleflllkbmaaGreatDoor
