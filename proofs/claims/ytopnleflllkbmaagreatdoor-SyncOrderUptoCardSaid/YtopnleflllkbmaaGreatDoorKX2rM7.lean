/-
  Parts of the proof. Conditions: each theorem's own.
-/
import Derived.Test.YtopnleflllkbmaaGreatDoorKX2rM6
set_option linter.unusedVariables false
set_option linter.unusedSimpArgs false
set_option maxRecDepth 100000
set_option maxHeartbeats 8000000
namespace Go.Proofs
open Tryz
theorem aEZ:type_of% call110:=call110
theorem aEX:type_of% call135:=call135
theorem Bj:type_of% call217:=call217
theorem AS:type_of% call221:=call221
theorem aEs:type_of% call35:=call35
theorem aEr:type_of% call36:=call36
theorem LF:type_of% call82:=call82
theorem aEp:type_of% call89:=call89
theorem ZR:type_of% func83:=func83
theorem jR:type_of% isAgg68:=isAgg68
theorem iG:type_of% isAgg70:=isAgg70
theorem TK:type_of% isAgg73:=isAgg73
theorem aEJ:type_of% isAgg78:=isAgg78
theorem TJ:type_of% ntmps83:=ntmps83
theorem Ay:type_of% underlying78:=underlying78
end Go.Proofs
namespace Go.Proofs.YtopnleflllkbmaaGreatDoor
open Go.Proofs.Tryz
open Go.Abs Go.Lib
variable{i b s a c t:B_}{l:List B_}
theorem Cw(a:List B_)(H:aF)(id g:Nat)(i:H.get id=some ⟨g,1,9,TQ a⟩)(hb:cX a+a.length<2^40):RC 221 [.osl id g 0 a.length] (sv (b7 (bQ [32] (bs a)))) H:=by
 refine Bd func221 Z ntmps221<|Sz U<|Sz U<|S<|Sz U<|aD<|bC (σ:=Nat) (fun k=>([(0,.osl id g 0 a.length),(3,sv (b7 (bQ [32] (bs (a.take k))))),(4,iv (k:Int))],H)) (fun k=>k<=a.length) (fun k=>a.length - k) 0 (l6 _) ?_ ?_
 ·exact E0
 rintro k hk;have hsz:(b7 (bQ [32] (bs (a.take k)))).size<=cX a+a.length:=by
  rw[cB];have o:=fP (a.take k);have p:=nY a k;have h3:(a.take k).length<=a.length:=F_
  omega
 refine S<|C V<|Y V<|Y (dT Z aE Z i Z)<|O cM<|Cn ?_ ?_<;>intro h
 ·have e:k<a.length:=I_ h
  obtain ⟨w,m⟩:=aU e;have j:=X1 m;have d:=BL m;have hws:w.size<=cX a:=by
   have o:=xL m;have p:=nY a (k+1);omega
  have h32:(⟨#[32]⟩:B_).size=1:=rfl;have hs2:(b7 (bQ [32] (bs (a.take k)))++⟨#[32]⟩).size=(b7 (bQ [32] (bs (a.take k)))).size+1:=zB _ _;refine aA<|S<|aD<|S<|C V<|O iY<|Cn ?_ ?_<;>intro f
  ·have n:0<k:=I_ f
   rw[b6 n]at d;refine Rd V<|Y kq<|O U<|Rd V<|Y V<|Y V<|Y (dI Z bH Z i Z Z Z X (by rfl) e (r7 _))<|Y (aX Z N_ Z i Z j Z)<|Y kq<|O U<|Rd V<|Y gT<|Da ?_;refine⟨k+1,X,X,?_⟩;rw[d];exact E0
  have n:¬ 0<k:=J_ f
  rw[a8 n]at d;refine aA<|Rd V<|Y V<|Y V<|Y (dI Z bH Z i Z Z Z X (by rfl) e (r7 _))<|Y (aX Z N_ Z i Z j Z)<|Y kq<|O U<|Rd V<|Y gT<|Da ?_;refine⟨k+1,X,X,?_⟩;rw[d];exact E0
 have l:k=a.length:=J_ h
 subst l;rw[List.take_length];refine aP<|C V<|O U<|aC<|cR (H':=H) (.inr Z) Z (aJ Z) Fin.refl Qq
theorem UR{e}{a}(b:e.op≠1)(h:bs a=gG e):b7 (bQ [32] (bs a))++⟨#[10]⟩=b7 (fG e++[10]):=xV b h
theorem Qy(e:b8)(H:aF)(N:UB e)(I:fT e=true):RC 166 [av (bL e)] (.tup [sv (b7 (fG e++[10])),bv (decide (fL e=0))]) H:=by
 refine Pu ?_;obtain ⟨⟨o1,o2⟩,o3,o4⟩:=uB.1 I;rw[wI]at o3;have hval:=IE I;have hs0:cX []=0:=rfl;refine Bd func166 Z ntmps166<|C (kb 1)<|Y U<|O U<|S<|C (bD iL)<|O (bS M_)<|aD<|C cD<|Da<|Cn ?_ ?_<;>intro u
 ·have p:e.op=1:=b9 u;have hos:=MG (o:=e.obj);have n:(⟨#[112,117,116]⟩:B_).size=3:=rfl;have h10:(⟨#[10]⟩:B_).size=1:=rfl;have hjs:(b7 (bQ [32] (bs [⟨#[112,117,116]⟩,(eX e.obj).1]))).size<=70000:=by
   rw[cB];have:=fP [⟨#[112,117,116]⟩,(eX e.obj).1];simp only[cI,j8,List.length_nil]at this;omega
  have hout:b7 (bQ [32] (bs [⟨#[112,117,116]⟩,(eX e.obj).1]))++⟨#[10]⟩=b7 (fG e++[10]):=nw (by
   rw[cO,fG,b6 p];simp[b7,bs,bQ,wPut])
  refine C (bD uS)<|Y (by exact aW Z bW sizeOf135 Z Z Z Z (by simp only[Zl,bP,bM,S_,bL,gJ];rfl) Z)<|Y (kc Bj (CI e.obj _ N.2.2))<|Y V<|Y dH<|Y dH<|Y U<|O U<|C V<|Y (aL [S_ ⟨#[112,117,116]⟩,S_ (eX e.obj).1] Z bH Z Z Z Z Z (iX [⟨#[112,117,116]⟩,(eX e.obj).1]))<|Y (kc AS (FI [⟨#[112,117,116]⟩,(eX e.obj).1] _ (by simp only[cI,j8,List.length_nil];omega)))<|Y (eW Z Z Z X hout)<|Y V<|Y cD<|Y U<|O U<|aC<|Ru ?_;rw[show fL e=(eX e.obj).2 from b6 p];exact Qq
 have p:e.op≠1:=b_ u;rw[a8 p,j0]at o3;obtain ⟨c_,o6⟩:=o3;have hid:=dG c_;refine C cD<|Da<|Cn ?_ ?_<;>intro hc2
 ·have m:e.op=2:=b9 hc2;rw[b6 m,mf,j0,k_,k_]at o6;have o_:0<=e.x/\e.x<1048576:=X
  have K:0<=e.y/\e.y<1048576:=X
  have Yf:(aQ e.x).size<=7:=by rw[<-aT];show (Lib.itoa e.x).length<=7;rw[jU _ o_.1];exact cU X E_
  have siy:(aQ e.y).size<=7:=by rw[<-aT];show (Lib.itoa e.y).length<=7;rw[jU _ K.1];exact cU X E_
  have k:(⟨#[109,111,118,101]⟩:B_).size=4:=rfl;have l:bs [⟨#[109,111,118,101]⟩,e.id,aQ e.x,aQ e.y]=gG e:=by
   rw[gG]
   (rw[b6 m];rfl)
  have hne:e.op≠1:=X
  have hjs:(b7 (bQ [32] (bs [⟨#[109,111,118,101]⟩,e.id,aQ e.x,aQ e.y]))).size<=70000:=by
   rw[cB];have:=fP [⟨#[109,111,118,101]⟩,e.id,aQ e.x,aQ e.y];simp only[cI,j8,List.length_nil]at this;omega
  have h10:(⟨#[10]⟩:B_).size=1:=rfl;refine S<|aN a7<|Cq (bD jN)<|Cq (bS N_)<|Cq (bD jC)<|Cq (bD mO)<|Cq (bS M_)<|Cq (kc GR (OX e.x _ X X))<|Cq (bD jC)<|Cq (bD mN)<|Cq (bS M_)<|Cq (kc GR (OX e.y _ X X))<|Cq (aL (([⟨#[109,111,118,101]⟩,e.id,aQ e.x,aQ e.y]:List B_).map S_) Z bH Z Z Z Z Z (iX _))<|Cq (kc AS (FI [⟨#[109,111,118,101]⟩,e.id,aQ e.x,aQ e.y] _ (by simp only[cI,j8,List.length_nil];omega)))<|Cq kq<|Cq U<|Cq U<|bJ<|Kr<|aC<|Ru ?_;rw[UR hne l,show fL e=0 from a8 hne];exact Qq
 have m:e.op≠2:=b_ hc2;rw[a8 m]at o6;refine C cD<|Da<|Cn ?_ ?_<;>intro hc3
 ·have n:e.op=3:=b9 hc3;rw[b6 n,j0,k_]at o6;have hks:=dG o6.1;have hq:=qZ e.val;have k:(⟨#[116,97,103]⟩:B_).size=3:=rfl;have l:bs [⟨#[116,97,103]⟩,e.id,e.key,⟨(cW e.val.data.toList).toArray⟩]=gG e:=by
   rw[gG]
   (rw[a8 m,b6 n];rfl)
  have hne:e.op≠1:=X
  have hjs:(b7 (bQ [32] (bs [⟨#[116,97,103]⟩,e.id,e.key,⟨(cW e.val.data.toList).toArray⟩]))).size<=70000:=by
   rw[cB];have:=fP [⟨#[116,97,103]⟩,e.id,e.key,⟨(cW e.val.data.toList).toArray⟩];simp only[cI,j8,List.length_nil]at this;omega
  have h10:(⟨#[10]⟩:B_).size=1:=rfl;refine S<|aN a7<|Cq (bD jN)<|Cq (bS N_)<|Cq (bD nR)<|Cq (bS N_)<|Cq (bD oM)<|Cq (bS N_)<|Cq (kc aEP (LZ e.val _ X))<|Cq (aL (([⟨#[116,97,103]⟩,e.id,e.key,⟨(cW e.val.data.toList).toArray⟩]:List B_).map S_) Z bH Z Z Z Z Z (iX _))<|Cq (kc AS (FI [⟨#[116,97,103]⟩,e.id,e.key,⟨(cW e.val.data.toList).toArray⟩] _ (by simp only[cI,j8,List.length_nil];omega)))<|Cq kq<|Cq U<|Cq U<|bJ<|Kr<|aC<|Ru ?_;rw[UR hne l,show fL e=0 from a8 hne];exact Qq
 have n:e.op≠3:=b_ hc3;rw[a8 n]at o6;refine C cD<|Da<|Cn ?_ ?_<;>intro q
 ·have o:e.op=4:=b9 q;rw[b6 o,j0,j0,k_,k_,List.all_eq_true]at o6;obtain ⟨⟨r1,r2⟩,P⟩:=o6;have hrs:cX e.refs<=24*e.refs.length:=oY (fun s e_=>dG (P s e_));have k:(⟨#[114,101,102,115]⟩:B_).size=4:=rfl;have F:∀H,H.get 901=some ⟨1,1,9,TQ (⟨#[114,101,102,115]⟩::e.id::e.refs)⟩->RC 221 [.osl 901 1 0 (⟨#[114,101,102,115]⟩::e.id::e.refs).length] (sv (b7 (bQ [32] (bs (⟨#[114,101,102,115]⟩::e.id::e.refs))))) H:=fun H L=>Cw _ H 901 1 L (by simp only[cI,j8];omega);have l:bs (⟨#[114,101,102,115]⟩::e.id::e.refs)=gG e:=by rw[gG,a8 m,a8 n,b6 o];rfl
  have hjs:(b7 (bQ [32] (bs (⟨#[114,101,102,115]⟩::e.id::e.refs)))).size<=70000:=by
   rw[cB];have:=fP (⟨#[114,101,102,115]⟩::e.id::e.refs);simp only[cI,j8]at this;omega
  have h10:(⟨#[10]⟩:B_).size=1:=rfl;have G:(e.refs.map S_).length=e.refs.length:=h_ _;have hrw:TQ [⟨#[114,101,102,115]⟩,e.id]++(e.refs.map S_).map (·.map .pv)=TQ (⟨#[114,101,102,115]⟩::e.id::e.refs):=by rw[<-Fp];rfl
  refine C (bD jN)<|Y (bS N_)<|Y (gH (id:=901) Z bH Z Z Z Z F_ Z)<|Y (bD iK)<|Y (bS aH)<|Y (cA (ps:=e.refs.map S_) Z bH xE Z Z Z Z Z Z Z (iX e.refs) (m:=e.refs.length) G X (Nat.add_comm 2 _:2+e.refs.length=(⟨#[114,101,102,115]⟩::e.id::e.refs).length) hrw)<|Y (kc AS (F _ Z))<|Y kq<|Y U<|O U<|aC<|Ru ?_;rw[UR p l,show fL e=0 from a8 p];exact Qq
 have o:e.op≠4:=b_ q;rw[a8 o]at o6;refine C cD<|Da<|Cn ?_ ?_<;>intro v
 ·have t:e.op=5:=b9 v;have k:(⟨#[100,114,111,112]⟩:B_).size=4:=rfl;have l:bs [⟨#[100,114,111,112]⟩,e.id]=gG e:=by
   rw[gG]
   (rw[a8 m,a8 n,a8 o,b6 t];rfl)
  have hne:e.op≠1:=X
  have hjs:(b7 (bQ [32] (bs [⟨#[100,114,111,112]⟩,e.id]))).size<=70000:=by
   rw[cB];have:=fP [⟨#[100,114,111,112]⟩,e.id];simp only[cI,j8,List.length_nil]at this;omega
  have h10:(⟨#[10]⟩:B_).size=1:=rfl;refine C (bD jN)<|Y (bS N_)<|Y (aL (([⟨#[100,114,111,112]⟩,e.id]:List B_).map S_) Z bH Z Z Z Z Z (iX _))<|Y (kc AS (FI [⟨#[100,114,111,112]⟩,e.id] _ (by simp only[cI,j8,List.length_nil];omega)))<|Y kq<|Y U<|O U<|aC<|Ru ?_;rw[UR hne l,show fL e=0 from a8 hne];exact Qq
 have t:e.op≠5:=b_ v;rw[a8 t]at o6;refine C cD<|Da<|Cn ?_ ?_<;>intro hc6
 ·have h6:e.op=6:=b9 hc6;rw[b6 h6,j0]at o6;have hns:=dG o6.1;have hos:=dG o6.2;have k:(⟨#[115,112,108,105,116]⟩:B_).size=5:=rfl;have l:bs [⟨#[115,112,108,105,116]⟩,e.id,e.node,e.other]=gG e:=by
   rw[gG]
   (rw[a8 m,a8 n,a8 o,a8 t,b6 h6];rfl)
  have hne:e.op≠1:=X
  have hjs:(b7 (bQ [32] (bs [⟨#[115,112,108,105,116]⟩,e.id,e.node,e.other]))).size<=70000:=by
   rw[cB];have:=fP [⟨#[115,112,108,105,116]⟩,e.id,e.node,e.other];simp only[cI,j8,List.length_nil]at this;omega
  have h10:(⟨#[10]⟩:B_).size=1:=rfl;refine C (bD jN)<|Y (bS N_)<|Y (bD qP)<|Y (bS N_)<|Y (bD kG)<|Y (bS N_)<|Y (aL (([⟨#[115,112,108,105,116]⟩,e.id,e.node,e.other]:List B_).map S_) Z bH Z Z Z Z Z (iX _))<|Y (kc AS (FI [⟨#[115,112,108,105,116]⟩,e.id,e.node,e.other] _ (by simp only[cI,j8,List.length_nil];omega)))<|Y kq<|Y U<|O U<|aC<|Ru ?_;rw[UR hne l,show fL e=0 from a8 hne];exact Qq
 have h6:e.op≠6:=b_ hc6;rw[a8 h6]at o6;have hos:=dG o6;have k:(⟨#[106,111,105,110]⟩:B_).size=4:=rfl;have l:bs [⟨#[106,111,105,110]⟩,e.id,e.other]=gG e:=by
  rw[gG]
  (rw[a8 m,a8 n,a8 o,a8 t,a8 h6];rfl)
 have hne:e.op≠1:=X
 have hjs:(b7 (bQ [32] (bs [⟨#[106,111,105,110]⟩,e.id,e.other]))).size<=70000:=by
  rw[cB];have:=fP [⟨#[106,111,105,110]⟩,e.id,e.other];simp only[cI,j8,List.length_nil]at this;omega
 have h10:(⟨#[10]⟩:B_).size=1:=rfl;refine aA<|C (bD jN)<|Y (bS N_)<|Y (bD kG)<|Y (bS N_)<|Y (aL (([⟨#[106,111,105,110]⟩,e.id,e.other]:List B_).map S_) Z bH Z Z Z Z Z (iX _))<|Y (kc AS (FI [⟨#[106,111,105,110]⟩,e.id,e.other] _ (by simp only[cI,j8,List.length_nil];omega)))<|Y kq<|Y U<|O U<|aC<|Ru ?_;rw[UR hne l,show fL e=0 from a8 hne];exact Qq
theorem QY(l:List b8)(H:aF)(d_:l.length<2^40)(z:∀e∈l,UB e)(B:∀e∈l,e.refs.length<2^40):RC 110 [.pv (jZ l)] (.tup [sv (dW l).1,iv (dW l).2]) H:=by
 refine Pu ?_;have hml:(l.map bL).length=l.length:=h_ _;refine Bd func110 Z ntmps110<|C U<|O U<|S<|C V<|Y (kc call165 (xw l _ d_ z B))<|O iT<|Cn ?_ ?_<;>intro p
 ·have t:lD l=false:=by have h:=p;rwa [r8]at h
  rw[show dW l=(a6,1)by rw[dW,t];rfl];exact C U<|O U<|aC<|Ru<|Qq
 have t:lD l=true:=by have h:=p;rwa [Bool.not_eq_false']at h
 have A:=(NY t).2.2;have y:dW l=(b7 (rJ [] l).1,(rJ [] l).2):=by rw[dW,t];rfl
 refine aA<|Sz U<|S<|Sz U<|aD<|bC (σ:=Nat) (fun k=>([(0,.pv (jZ l)),(4,sv (b7 (pS l k))),(5,iv (k:Int))],[])) (fun k=>k<=l.length/\rJ [] l=rJ (pS l k) (l.drop k)/\(pS l k).length<=20000) (fun k=>l.length - k) 0 ⟨l6 _,Z,l6 _⟩ ?_ ?_
 ·exact Wk
 rintro k ⟨hk,i,hA⟩;refine S<|C V<|Y V<|Y (fV eS)<|O cM<|Cn ?_ ?_<;>intro o
 ·have m:k<l.length:=I_ o
  obtain ⟨e,n⟩:=aU m;have hi:=cC (f:=bL) n;have j:=m7 n;have c:=XI n;have hYl:=WA (A e j);have u:l.drop k=e::l.drop (k+1):=by
   rw[List.drop_eq_getElem_cons m]
   simp_all
  rw[u,rJ]at i;have hsA:(b7 (pS l k)).size=(pS l k).length:=cB _;have hsz:(b7 (fG e++[10])).size=(fG e).length+1:=by rw[cB,j9];rfl
  have x:b7 (pS l k)++b7 (fG e++[10])=b7 (pS l (k+1)):=nw (by
   rw[show (b7 (pS l k)++b7 (fG e++[10])).data.toList=(b7 (pS l k)).data.toList++(b7 (fG e++[10])).data.toList by simp,cO,cO,cO,c])
  have hsB:(b7 (pS l (k+1))).size=(pS l (k+1)).length:=cB _;refine aA<|S<|aD<|C V<|Y V<|Y (iM ay)<|Y (by exact eU Z cT aZ Z X (by simp only[Zl,bP,bM,S_,bL,gJ];rfl) Z)<|Y (kc call166 (Qy e _ (z e j) (A e j)))<|Y V<|Y dH<|Y dH<|Y U<|O U<|C V<|Y V<|Y (eW Z Z Z X x)<|O U<|S ?_;refine aR (t:=34) (n:=8) (A_:=!decide (fL e=0)||decide ((20000:Int)<((b7 (pS l (k+1))).size:Int))) ?_ ?_
  ·all_goals refine Y V<|Y iT<|Dm ?_<;>(refine Sp 30 (fun w=>?_) fun w=>?_)<;>(first|contradiction|refine M<|M<|M ?_|refine J V<|J (gM U_)<|J iY ?_)<;>refine O cE ?_<;>exact Gj (h:=by simp_all)
  refine Cn ?_ ?_<;>intro s
  ·have q:fL e≠0\/20000<(pS l k++(fG e++[10])).length:=by have h:=s;rw[<-c];simp only[Bool.or_eq_true,r8,p_,k_]at h;omega
   rw[b6 q]at i;rw[y,i];exact C U<|O U<|aC<|Ru<|Qq
  have f:¬ (fL e≠0\/20000<(pS l k++(fG e++[10])).length):=by have h:=s;rw[<-c];simp only[q9,Bool.not_eq_false',p_,k_]at h;omega
  rw[a8 f,<-c]at i;rw[<-c]at f;refine aA<|Rd V<|Y gT<|Da ?_;exact⟨k+1,⟨m,i,X⟩,X,Wk⟩
 have v:k=l.length:=J_ o
 subst v;rw[List.drop_length,rJ]at i;rw[y,i];exact aP<|C V<|Y U<|O U<|aC<|Ru<|Qq
theorem F8(n:Nat):aQ n=b7 (decDigits n):=oK (Z)
theorem BT(x)(a:0<=x)(h1:x<9223372036854775808)(H):RC 84 [iv x] (sv (aQ x)) H:=by obtain ⟨n,rfl⟩:=Int.eq_ofNat_of_zero_le a;exact QW n X H
def ZA(r:j7):List B_:=[GK,aQ r.kind,aQ r.author,aQ r.number,aQ r.clock,r.branch,aQ (r.parents.length:Int)]
def aCh(r:j7)(T:B_):List B_:=[T,r.target,aQ (if r.yes then 1 else 0),aQ r.order,r.from']
def Kg(r:j7)(T y:B_):List B_:=[T,r.target,y,aQ r.order,r.from']
theorem yb(r):uV r=(ZA r++r.parents)++aCh r (jT r.edits).1:=rfl
theorem Hw{r}(h:VF r):0<=r.order/\r.order<=4:=by
 rw[h.od,Bp]
 split
 ·next a =>
  have:=h.k;rw[MQ,b6 a,mK,j0,k_,k_]at this;omega
 omega
theorem HM{α:Type}(f:α->List PV)(l:List _){n}(h:l.length=n):((l.map f).take (0+n)).drop 0=l.map f:=by rw[<-h];exact iH f l
theorem fE(l:List _):∀r∈l.map S_,r.length=1:=by intro r a;obtain ⟨s,_,rfl⟩:=List.mem_map.1 a;rfl
theorem WR(r:j7)(B:mI r)(j:VF r)(A:∀e∈r.edits,e.refs.length<2^40):aS Tryz.prog 70 [av (dR r)] [] (fun x H'=>x=.osl 971 2 0 (uV r).length/\H'=[(971,⟨2,1,9,bZ (uV r)⟩)]):=by
 have hk:=BK j.k;have hau:=j.au;have hnu:=j.nu;have hcl:=j.cl;have hod:=Hw j;have hpl:=j.pal;have n:(r.parents.map S_).length=r.parents.length:=h_ _;have hme:(r.edits.map bL).length=r.edits.length:=h_ _;have p:=fun H=>BT r.kind (by omega) (by omega) H;have w:=fun H=>BT r.author (by omega) (by omega) H;have q:=fun H=>BT r.number (by omega) (by omega) H;have o:=fun H=>BT r.clock (by omega) (by omega) H;have v:∀H,RC 84 [iv ((r.parents.map S_).length:Int)] (sv (aQ (r.parents.length:Int))) H:=fun H=>by
  rw[n];exact BT (r.parents.length:Int) (by omega) (by omega) H
 have z:=fun H=>BT r.order (by omega) (by omega) H;have t:=fun H=>QY r.edits H B.2.2.2.1.1 B.2.2.2.1.2 A;have s:bZ (ZA r)++(r.parents.map S_).map (·.map AV.pv)=bZ (ZA r++r.parents):=gU _ _;rw[yb];obtain ⟨T,i⟩:∃T,T=(jT r.edits).1:=X_;rw[<-i];rw[jT]at i;refine Bd func70 Z ntmps70 ?_;have u:(bZ (ZA r++r.parents)).length=7+r.parents.length:=by rw[bZ,h_,j9];rfl
 refine C (kb 1)<|O U<|S<|aN a7<|Cr [1] (fun _ h=>fh oJ h)<|Cr [1] (fun _ h=>lh M_ h)<|Cr [] (fun g d=>by exact bF Z Z jE Z (p _))<|Cr [1] (fun _ h=>fh EZ h)<|Cr [1] (fun _ h=>lh M_ h)<|Cr [] (fun g d=>by exact bF Z Z jE Z (w _))<|Cr [1] (fun _ h=>fh AH h)<|Cr [1] (fun _ h=>lh M_ h)<|Cr [] (fun g d=>by exact bF Z Z jE Z (q _))<|Cr [1] (fun _ h=>fh EY h)<|Cr [1] (fun _ h=>lh M_ h)<|Cr [] (fun g d=>by exact bF Z Z jE Z (o _))<|Cr [1] (fun _ h=>fh C1 h)<|Cr [1] (fun _ h=>lh N_ h)<|Cr [1] (fun _ h=>fh oI h)<|Cr [1] (fun _ h=>lh aH h)<|Cr [] (fun _ _=>(fV aE))<|Cr [] (fun g d=>by exact bF Z Z jE Z (v _)) ?_;refine Cp [971] (fun g d=>by exact gH (id:=971) Z bH Z Z Z Z (by simp_all) ((d _ Z).trans Z))<|Cr [971] (fun _ _=>U)<|bJ<|Kr<|C V<|Y (bD oI)<|Y (bS aH)<|Y (by exact cA (k:=7+r.parents.length) (ps:=r.parents.map S_) Z bH xE Z Z Z Z Z Z Z (fE _) (m:=r.parents.length) n (by omega) Z s)<|O U<|Sr<|Da ?_;refine eN (fun(_:Unit)=>([(1,.ref 1 0 0 0),(3,.osl 971 1 0 (7+r.parents.length)),(4,sv T)],[(1,bx 21 53 ((dR r).map .pv)),(971,⟨1,1,9,bZ (ZA r++r.parents)⟩)])) (fun _=>True) ?_ ?_
 ·refine C (bD C0)<|Y (bS oT)<|Y (fV eS)<|O iY<|Cn ?_ ?_<;>intro l
  ·have f:0<r.edits.length:=by have:=b9 l;omega
   rw[a8 (by omega)]at i;subst i;refine Rd (bD C0)<|Y (bS oT)<|Y (kc aEZ (t _))<|Y V<|Y dH<|Y dH<|Da ?_;exact⟨(),T_,(cJ.wk (Ea<|Ea<|Eb<|T_) (Hb<|Hc (aV _ _)<|T_) T_)⟩
  have f:r.edits.length=0:=by have:=b_ l;omega
  rw[b6 f]at i;subst i;refine aA ?_;exact⟨(),T_,(cJ.wk (Ea<|Ea<|Eb<|T_) (Hb<|Hc (aV _ _)<|T_) T_)⟩
 rintro _ -;refine Sr<|Da<|eN (fun(y:B_)=>([(1,.ref 1 0 0 0),(3,.osl 971 1 0 (7+r.parents.length)),(4,sv T),(5,sv y)],[(1,bx 21 53 ((dR r).map .pv)),(971,⟨1,1,9,bZ (ZA r++r.parents)⟩)])) (fun y=>y=aQ (if r.yes then 1 else 0)) ?_ ?_
 ·refine C (bD IH)<|O (bS nD)<|Cn ?_ ?_<;>intro k
  ·have m:(⟨#[49]⟩:B_)=aQ (if r.yes then 1 else 0):=by rw[k];kernel_rfl
   refine Rg<|Da ?_;exact⟨_,m,(cJ.wk (Ea<|Ea<|Eb<|Eb<|T_) (Hb<|Hc (aV _ _)<|T_) T_)⟩
  have m:(⟨#[48]⟩:B_)=aQ (if r.yes then 1 else 0):=by rw[k];kernel_rfl
  refine aA ?_;exact⟨_,m,(cJ.wk (Ea<|Ea<|Eb<|Eb<|T_) (Hb<|Hc (aV _ _)<|T_) T_)⟩
 rintro y m;rw[show aCh r T=Kg r T y by rw[m];rfl];refine S<|aN a7<|Cr [971] (fun _ _=>V)<|Cr [] (fun _ _=>V)<|Cr [1] (fun _ h=>fh CZ h)<|Cr [1] (fun _ h=>lh N_ h)<|Cr [] (fun _ _=>V)<|Cr [1] (fun _ h=>fh yC h)<|Cr [1] (fun _ h=>lh M_ h)<|Cr [] (fun g d=>by exact bF Z Z jE Z (z _))<|Cr [1] (fun _ h=>fh wR h)<|Cr [1] (fun _ h=>lh N_ h)<|Cr [] (fun g d=>by exact aL ((Kg r T y).map S_) Z bH Z Z Z Z Z (fE _))<|Cp [971] (fun g d=>by exact cA (ob:=⟨1,1,9,bZ (ZA r++r.parents)⟩) (k:=((ZA r++r.parents)++Kg r T y).length) (ps:=(Kg r T y).map S_) Z bH xE Z ((d _ Z).trans Z) Z Z Z u Z (fE _) (m:=5) Z (by omega) (by rw[j9,j9];rfl) (by exact gU _ _))<|Cr [971] (fun _ _=>U)<|bJ<|Kr<|aC ?_;refine cR (H':=[(971,⟨2,1,9,bZ ((ZA r++r.parents)++Kg r T y)⟩)]) (.inr Z) Z (aJ Z) (Fin.wk (by(simp;rfl)) (Hc (aV _ _)<|T_) T_) ?_;exact Qq
theorem Ki(r)(b:mI r)(c:VF r)(a:∀e∈r.edits,e.refs.length<2^40)(H):RC 70 [av (dR r)] (.pv (aK (uV r))) H:=by refine aS.pure ((WR r b c a).fin ?_) H_ H;rintro _ _ ⟨rfl,rfl⟩;exact⟨_,[],Fin.fz (id:=971) _ Z (eC _) (.osl (iH _ _)) Z T_ T_,Z,Z⟩
theorem oc{v k:Nat}(h:10 ^ k<=v):k<(decDigits v).length:=by
 induction k generalizing v with
 |zero=>exact List.length_pos_iff.2 (pQ v)
 |succ k b =>
  rw[Nat.pow_succ]at h;have hp:0<10 ^ k:=Nat.pow_pos E_;have a:¬ v<10:=X
  rw[decDigits,dif_neg a,j9];have:=b (v:=v / 10) X;simp only[j8,List.length_nil];omega
def jH(s:B_):Int:=if vK s=false/\0<=kN s/\s.size<=6/\aQ (kN s)=s then kN s else -1
theorem MH{n:Int}(c:0<=n)(h1:n<1000000):jH (aQ n)=n:=by
 obtain ⟨a,b⟩:=TA c X;have d:(aQ n).size<=6:=by
  obtain ⟨k,rfl⟩:∃k:Nat,n=(k:Int):=⟨n.toNat,X⟩;rw[F8,cB];exact cU (k:=6) X E_
 rw[jH,b6 (by rw[a,b];exact⟨Z,c,d,Z⟩),b]
theorem th(s:B_): -1<=jH s/\jH s<1000000:=by
 rw[jH]
 split
 ·next h =>
  obtain ⟨h1,h2,h3,a⟩:=h;refine⟨X,?_⟩;obtain ⟨k,c⟩:∃k:Nat,kN s=(k:Int):=⟨(kN s).toNat,X⟩;rw[c]at a |-;rw[F8]at a;have hd:=mU k;have b:(decDigits k).length<=6:=by have:=congrArg ByteArray.size a;rw[cB]at this;omega
  by_cases hb:k<1000000
  ·omega
  exact absurd b (by have:=oc (v:=k) (k:=6) X;omega)
 omega
def zV(l:List UInt8):Bool:=!decide ((58:UInt8)∈l)||decide (jH (b7 (M4 l))<0)||decide (((IZ l).length:Int)<jH (b7 (M4 l)))
def jn(l:List UInt8):Nat:=(jH (b7 (M4 l))).toNat
def AX(l:List UInt8):Option (List B_) :=if h:l=[]then some []else if zV l=true then none else(AX ((IZ l).drop (jn l))).map (b7 ((IZ l).take (jn l))::·)
termination_by l.length
decreasing_by
 have h1:=List.length_pos_iff.2 h;have h2:=(List.dropWhile_sublist (l:=l) fun b=>!decide (b=58)).length_le;rw[q6,IZ,q6];omega
theorem tT:∀(L:List B_),(∀s∈L,s.size<1000000)->AX (aM L)=some L
 | [],_=>by rw[show aM []=[]from Z,AX,dif_pos rfl]
 | x::L,h=>by
  have hx:=h x List.mem_cons_self;obtain ⟨d,b⟩:=vg (r:=x.data.toList++aM L) (fu x.size);rw[<-gZ]at d b;have c:jH (b7 (M4 (aM (x::L))))=(x.size:Int):=by rw[d,<-F8,MH X X]
  have a:(58:UInt8)∈aM (x::L):=by rw[gZ];simp
  have g:zV (aM (x::L))=false:=by
   rw[zV,c,b,decide_eq_true a,decide_eq_false X,decide_eq_false (by rw[j9,aT];omega)];rfl
  have hN:jn (aM (x::L))=x.size:=by rw[jn,c,l8]
  rw[AX,dif_neg (fun e=>by rw[e]at a;cases a),a8 (by rw[g];decide),hN,b,List.drop_left' (aT x),List.take_left' (aT x),tT L fun s f=>h s (List.mem_cons_of_mem _ f),gB];rfl
def DT(p x:B_):Bool:=p.data.toList.isPrefixOf x.data.toList
def kA(ids:List B_)(p:B_):List B_:=ids.filter (DT p)
structure m6 where
 pre:B_
 cnt:Nat
 sum:B_
 ids:List B_
variable{p:m6}
def eE(ids:List B_)(p:B_):m6:=⟨p,(kA ids p).length,C6 (kA ids p),if(kA ids p).length<=16 then kA ids p else[]⟩
def iQ(p:m6):List B_:=[p.pre,aQ (p.cnt:Int),p.sum]++p.ids
def iP:B_:=⟨#[111,102,102,101,114]⟩
def pU:B_:=⟨#[119,97,110,116]⟩
def AA(L:List (List B_)):B_:=b7 (aM (iP::aQ (L.length:Int)::L.flatten))
def pT(L:List (List B_)):B_:=b7 (aM (pU::L.flatten))
def zK(s:B_):Bool:=decide (s.size<=16)&&s.data.toList.all GO
def GN(p:B_):List B_->Bool
 | []=>true
 | [x]=>l9 x&&DT p x
 |x::y::r=>l9 x&&DT p x&&lY x y&&GN p (y::r)
def TR:Nat->List B_->Option (List m6)
 |_,[]=>some []
 | n + 1, a :: b :: c :: r =>
  if (zK a && decide (0 <= jH b) && l9 c) = true then
   if jH b<=16 then
    if jH b<=(r.length:Int)/\GN a (r.take (jH b).toNat)=true/\C6 (r.take (jH b).toNat)=c then
     (TR n (r.drop (jH b).toNat)).map (⟨a,(jH b).toNat,c,r.take (jH b).toNat⟩::·)
    else none
   else(TR n r).map (⟨a,(jH b).toNat,c,[]⟩::·)
  else none
 |_,_=>none
def yT(t:B_):List m6:=match AX t.data.toList with
 |some (o::n::r)=>if o=iP then(match TR r.length r with|some P=>if(P.length:Int)=jH n then P else[]|none=>[])else[]
 |_=>[]
def zT(t:B_):List B_:=match AX t.data.toList with
 |some (o::i::r)=>if o=pU/\(i::r).all l9=true then i::r else[]
 |_=>[]
theorem cL.eqv{P}{N}{o}{E}{H H'}{v a}(h:cL P N o E H v H')(e:v=a):cL P N o E H a H':=e▸h
theorem Yl(x)(hx:x<18446744073709551616)(H):RC 140 [uv x] (uv (OB x)) H:=by refine Pu ?_;refine Bd func140 Z ntmps140<|Sz U<|C V<|Y (qM Z Z Z (show IntKind.u64.wrap _=((yt x):Int)by rfl))<|O U<|C V<|Y V<|Y (FZ Z Z Z H_ E_ (Es _ 32 Z))<|Y (pC Z H_ Z Z (bits_xor_u64_nat _ _ (F4 x) (yF 32 (F4 x))))<|O U<|C V<|Y (qM Z Z Z (show IntKind.u64.wrap _=((yr x:Nat))by rfl))<|O U<|C V<|Y V<|Y (FZ Z Z Z H_ E_ (Es _ 29 Z))<|Y (pC Z H_ Z Z (bits_xor_u64_nat _ _ (F3 x) (yF 29 (F3 x)))) ?_;exact O U<|aC<|Rt<|Qq
def KP(b:Int):Prop:=(48<=b/\b<=57)\/(97<=b/\b<=102)
theorem Um(b:Int)(j:KP b)(H:aF):RC 83 [.pv (.int .u8 b)] (iv (if b<=57 then b - 48 else b - 87)) H:=by
 refine Pu ?_;have f:∀ {p:Prop} [Decidable p],p->AV.pv (.bool (decide p))=bv true:=fun h=>by simp_all
 have k:∀ {p:Prop} [Decidable p],¬ p->AV.pv (.bool (decide p))=bv false:=fun h=>by simp_all
 by_cases d:b<=57
 ·have c:48<=b:=by rcases j with h|h<;>omega
  rw[b6 d];refine Bd ZR Z TJ<|Sz U<|S<|C V<|Y (cL.eqv (jK Z Z Z) (f c))<|Y V<|J V<|J (cL.eqv (pJ Z Z Z) (f d))<|O cE<|Cn ?_ ?_<;>intro e
  ·exact C V<|Y (by exact dP Z Z Z (show IntKind.u8.wrap (b - 48)=b - 48 by rw[IntKind.wrap_u8];omega))<|Y (eP Z dM underlying3 Z (qD X X))<|O U<|aC<|Rt<|Qq
  cases e
 have c:97<=b/\b<=102:=by rcases j with h|h<;>omega
 have i:48<=b:=X
 rw[a8 d];refine Bd ZR Z TJ<|Sz U<|S<|C V<|Y (cL.eqv (jK Z Z Z) (f i))<|Y V<|J V<|J (cL.eqv (pJ Z Z Z) (k d))<|O cE<|Cn ?_ ?_<;>intro e
 ·cases e
 refine aA<|S<|C V<|Y (cL.eqv (jK Z Z Z) (f c.1))<|Y V<|J V<|J (cL.eqv (pJ Z Z Z) (f c.2))<|O cE<|Cn ?_ ?_<;>intro g
 ·exact C V<|Y (by exact dP Z Z Z (show IntKind.u8.wrap (b - 97)=b - 97 by rw[IntKind.wrap_u8];omega))<|Y (eP Z dM underlying3 Z (qD X X))<|Y (by exact eQ Z Z Z (show IntKind.i64.wrap (b - 97+10)=b - 87 by rw[qD X X];omega))<|O U<|aC<|Rt<|Qq
 cases g
abbrev HX:B_:=⟨#[48,49,50,51,52,53,54,55,56,57,97,98,99,100,101,102]⟩
instance (b:Int):Decidable (KP b):=by unfold KP;infer_instance
theorem aAX:∀q:Fin 16,KP (bA HX q.1):=E_
theorem aAU{q}(h:q<16):(HX.extract q (q+1)).size=1/\KP (bA (HX.extract q (q+1)) 0):=by
 refine⟨by rw[ByteArray.size_extract];have:HX.size=16:=rfl;omega,?_⟩;have e:bA (HX.extract q (q+1)) 0=bA HX q:=by
  unfold bA
  simp_all
 rw[e];exact aAX ⟨q,h⟩
theorem Rl{l}{i}{b}(hi:i<8)(a:l[i]?=some b):(mR l)[i]?=some b:=by rw[mR,List.getElem?_append_left G_,List.getElem?_take_of_lt hi,a]
theorem Hm{l}{i}(hi:i<8)(hl:l.length<=i):(mR l)[i]?=some 0:=by rw[mR,List.getElem?_append_right G_,List.getElem?_replicate,b6 G_]
theorem Tb(D i)(hi:i<16):D / 16 ^ i % 16=UE D (15 - i):=by rw[UE,show 60 - 4*(15 - i)=4*i by omega,Nat.pow_mul]
theorem aAV:∀q:Fin 16,(HX.extract q.1 (q.1+1)).data.toList=[UInt8.ofNat (wP q.1).toNat]:=fun q=>by
 revert q;decide
theorem eh(D):(BO D).length=16:=rfl
theorem Jy(D){i}(h:i<16):(BO D)[i]?=some (UInt8.ofNat (wP (UE D i)).toNat):=by rw[BO,r6,List.getElem?_range h];rfl
theorem Jv(D){i}(h:i<16):HX.extract (D / 16 ^ i % 16) (D / 16 ^ i % 16+1)++b7 ((BO D).drop (16 - i))=b7 ((BO D).drop (16 - (i+1))):=by
 refine oK ?_;rw[ByteArray.data_append,Array.toList_append,aAV ⟨_,Nat.mod_lt _ H_⟩,cO,cO];show UInt8.ofNat (wP (D / 16 ^ i % 16)).toNat::(BO D).drop _=_;rw[Tb D i h,show 16 - (i+1)=15 - i by omega,show 16 - i=15 - i+1 by omega];have b:15 - i<(BO D).length:=by rw[eh];omega
 rw[List.drop_eq_getElem_cons b];have:=Jy D (i:=15 - i) X;rw[m8 b]at this;rw[Option.some.inj this]
theorem Qi(s:B_)(hs:s.size<1000000000)(H:aF):RC 95 [sv s] (sv (E7 s)) H:=by
 refine Pu ?_;have hsl:=aT s;have A:bits .xor .u64 1181783497276652981 (s.size:Int)=((UI s.size:Nat):Int):=bits_xor_u64_nat 1181783497276652981 s.size E_ X;have B:UI s.size<18446744073709551616:=vd X;obtain ⟨D,hD⟩:∃D,D=SY (UI s.size) s.data.toList:=X_;have l:E7 s=b7 (BO D):=by rw[E7,<-hD];rfl
 rw[l];clear l;refine Bd func95 Z ntmps95<|Sz U<|C V<|Y (gM U_)<|Y (eP Z underlying3 gF Z (ae X))<|Y (pC Z H_ Z Z A)<|O U<|S<|Sz U<|aD<|fR (fun(j c:Nat)=>([(0,sv s),(3,uv c),(4,iv ((8*j:Nat):Int))],[])) (fun j c=>8*j<=s.size+8/\c<18446744073709551616/\((8*j<=s.size/\SY c (s.data.toList.drop (8*j))=D)\/(s.size<8*j/\c=D))) (fun j c=>s.size+8 - 8*j) 0 (UI s.size) ⟨X,B,.inl ⟨X,F_⟩⟩ ?_ ?_
 ·exact Wk
 rintro j c ⟨hj,p,u⟩;refine S<|C V<|Y V<|Y (gM U_)<|O IA<|Cn ?_ ?_<;>intro q
 ·have hle:8*j<=s.size:=I_ q
  have o:SY c (s.data.toList.drop (8*j))=D:=by
   omega
  obtain ⟨R,F⟩:∃R,R=s.data.toList.drop (8*j):=X_;have hRl:R.length=s.size - 8*j:=F_
  have hp8:=cr R;rw[<-F]at o;refine aA<|S<|aD<|Sz U<|S<|C V<|O U<|aD<|bC (σ:=Nat) (fun i=>([(0,sv s),(3,uv c),(4,iv ((8*j:Nat):Int)),(5,uv (vX ((mR R).take i))),(6,iv ((8*j+i:Nat):Int))],[])) (fun i=>i<=8) (fun i=>8 - i) 0 (l6 _) ?_ ?_
  ·exact Wk
  intro i hi;by_cases h8:i<8
  ·obtain ⟨y,K⟩:=aU (l:=mR R) (k:=i) X;have e:vX ((mR R).take (i+1))=vX ((mR R).take i)*256+y.toNat:=by rw[fN K,XH]
   have h7:vX ((mR R).take i)<72057594037927936:=gv G_;have hyb:y.toNat<256:=y.toNat_lt;obtain ⟨b,hb⟩:∃b,b=vX ((mR R).take i):=X_;rw[<-hb]at e h7 |-;refine S<|C V<|Y V<|Y (by exact eQ Z Z Z (show IntKind.i64.wrap (((8*j:Nat):Int)+8)=((8*j+8:Nat):Int)by rw[qD X X];omega))<|O cM ?_;refine Cn ?_ ?_<;>intro hc2
   ·refine aA<|S<|aD<|C V<|Y (by exact qM Z Z Z (show IntKind.u64.wrap ((b:Int)*256)=((b*256:Nat):Int)by rw[IntKind.wrap_u64];omega))<|O U<|C V<|Y V<|Y (gM U_)<|O cM ?_;refine Cn ?_ ?_<;>intro x
    ·have hlt2:8*j+i<s.size:=I_ x
     have c_:bA s (8*j+i)=(y.toNat:Int):=by
      have v_:R[i]?=s.data.toList[8*j+i]?:=by rw[F,List.getElem?_drop]
      obtain ⟨z,hz⟩:=aU (l:=s.data.toList) (k:=8*j+i) X;have:=Rl (l:=R) h8 (v_.trans hz);rw[K]at this;rw[bA,hz,<-Option.some.inj this];rfl
     refine Rd V<|Y V<|Y V<|Y (ky U_)<|Y (eP Z dM gF Z (show IntKind.u64.wrap (bA s (8*j+i))=((y.toNat:Nat):Int)by rw[c_,ae X]))<|Y (by exact eQ Z Z Z (show IntKind.u64.wrap (((b*256:Nat):Int)+((y.toNat:Nat):Int))=((b*256+y.toNat:Nat):Int)by rw[IntKind.wrap_u64];omega))<|O U<|Rd V<|Y (by exact eQ Z Z Z (show IntKind.i64.wrap (((8*j+i:Nat):Int)+1)=((8*j+(i+1):Nat):Int)by rw[qD X X];omega))<|Da ?_;refine⟨i+1,X,X,?_⟩;rw[e];exact Wk
    have hge2:s.size<=8*j+i:=J_ x
    have e_:y.toNat=0:=by
     have:=Hm (l:=R) h8 X;rw[K]at this;rw[Option.some.inj this];rfl
    refine aA<|Rd V<|Y (by exact eQ Z Z Z (show IntKind.i64.wrap (((8*j+i:Nat):Int)+1)=((8*j+(i+1):Nat):Int)by rw[qD X X];omega))<|Da ?_;refine⟨i+1,X,X,?_⟩;rw[e,e_,Nat.add_zero];exact Wk
   (have h:=b_ hc2;omega)
  have A_:i=8:=X
  subst A_;have u_:(mR R).take 8=mR R:=List.take_of_length_le X;rw[u_];refine S<|C V<|Y V<|Y (by exact eQ Z Z Z (show IntKind.i64.wrap (((8*j:Nat):Int)+8)=((8*j+8:Nat):Int)by rw[qD X X];omega))<|O cM ?_;refine Cn ?_ ?_<;>intro L
  ·(have h:=b9 L;omega)
  have d_:=TH (l:=mR R) X;have W:=fun H=>Yl (c ^^^ vX (mR R)) (DZ p d_) H;refine aP<|Rd V<|Y V<|Y (pC Z H_ Z Z (bits_xor_u64_nat c (vX (mR R)) p d_))<|Y (kc call140 (W _))<|O U<|Rd V<|Y (by exact eQ Z Z Z (show IntKind.i64.wrap (((8*j:Nat):Int)+8)=((8*(j+1):Nat):Int)by rw[qD X X];omega))<|Da ?_;refine⟨j+1,OB (c ^^^ vX (mR R)),⟨X,YX _,?_⟩,X,Wk⟩;by_cases t:8<=R.length
  ·refine .inl ⟨X,?_⟩;have y_:mR (R.take 8)=mR R:=by
    rw[mR,mR,List.take_take,q8,Nat.min_eq_left t];rw[show 8 - R.length=0 by omega];rfl
   have h1:=W0 c t;rw[y_,o,F,List.drop_drop]at h1;rw[F,show 8*(j+1)=8*j+8 by omega,h1]
  refine .inr ⟨X,?_⟩;rw[<-W1 c X,o]
 have hgt:s.size<8*j:=J_ q
 have w:c=D:=by
  rcases u with⟨h,_⟩|⟨_,h⟩
  ·omega
  exact h
 subst w;have hl16:=eh c;have N:b7 ((BO c).drop (16 - 0))=⟨#[]⟩:=by rw[List.drop_of_length_le X];rfl
 have Q:c / 16 ^ 0=c:=by rw[Nat.pow_zero,Nat.div_one]
 refine aP<|Sz U<|S<|Sz U<|aD<|bC (σ:=Nat) (fun i=>([(3,uv (c / 16 ^ i)),(7,sv (b7 ((BO c).drop (16 - i)))),(8,iv (i:Int))],[])) (fun i=>i<=16) (fun i=>16 - i) 0 (l6 _) ?_ ?_
 ·rw[N,Q];exact Wk
 intro i hi;obtain ⟨v,E⟩:∃v,v=c / 16 ^ i:=X_;have hbd:v<18446744073709551616:=by rw[E];exact Nat.lt_of_le_of_lt (Nat.div_le_self _ _) p
 have T:c / 16 ^ (i+1)=v / 16:=by rw[E,Nat.pow_succ,<-Nat.div_div_eq_div_mul]
 rw[<-E];have P:((v:Nat):Int).tmod 16=((v % 16:Nat):Int):=by rw[Int.tmod_eq_emod_of_nonneg X];omega
 have hq:IntKind.u64.wrap (((v:Nat):Int).tdiv 16)=((v / 16:Nat):Int):=by
  rw[Int.tdiv_eq_ediv_of_nonneg X,IntKind.wrap_u64];omega
 have n:v % 16<16:=Nat.mod_lt _ E_;have k:=aAU n;have f_:(b7 ((BO c).drop (16 - i))).size=i:=by rw[cB,q6];omega
 by_cases o_:i<16
 ·have e:=Jv c o_;rw[<-E]at e;obtain ⟨g,hg⟩:∃g,g=v % 16:=X_;rw[<-hg]at P n k e;refine S<|C V<|O cM<|Cn ?_ ?_<;>intro I
  ·refine aA<|S<|aD<|C V<|Y (zE Z Z Z E_ P)<|Y V<|Y (zE Z Z Z E_ P)<|Y (by exact eQ Z Z Z (show IntKind.u64.wrap ((g:Int)+1)=((g+1:Nat):Int)by rw[IntKind.wrap_u64];omega))<|Y (by exact bT (l:=g) (h:=g+1) Z U_ Z Z Z X (show g+1<=HX.size from by have:HX.size=16:=rfl;omega) Z)<|Y V<|Y (by exact eW Z Z Z (show (HX.extract g (g+1)).size+(b7 ((BO c).drop (16 - i))).size<=9223372036854775807 by rw[k.1,f_];omega) e)<|O U<|Rd V<|Y (CM Z Z Z E_ hq)<|O U<|Rd V<|Y kp<|Da ?_;refine⟨i+1,X,X,?_⟩;rw[T];exact Wk
  (have h:=b_ I;omega)
 have G:i=16:=X
 subst G;refine S<|C V<|O cM<|Cn ?_ ?_<;>intro z_
 ·(have h:=b9 z_;omega)
 exact aP<|C V<|O U<|aC<|Rt<|Qq
theorem Ql(L)(d:L.length<=2000)(c:∀s∈L,s.size<=20000)(H):RC 52 [.pv (aK L)] (sv (C6 L)) H:=by refine Pu ?_;have e:=fun H=>U5 L X (fun s h=>Nat.le_trans (c s h) H_) H;have hsz:=xT c d;have b:=fun H=>Qi (b7 (aM L)) (by rw[cB];omega) H;exact Bd func52 Z ntmps52<|Sz U<|C V<|Y (bF Z Z call85 Z (e _))<|Y (bF Z Z call95 Z (b _))<|O U<|aC<|Rt<|Qq
theorem Ks(b:Int)(l:¬ KP b)(H:aF):RC 83 [.pv (.int .u8 b)] (iv (-1)) H:=by
 refine Pu ?_;have k:∀ {p:Prop} [Decidable p],p->AV.pv (.bool (decide p))=bv true:=fun h=>by simp_all
 have g:∀ {p:Prop} [Decidable p],¬ p->AV.pv (.bool (decide p))=bv false:=fun h=>by simp_all
 by_cases e:48<=b
 ·have i:¬ b<=57:=fun h=>l (.inl ⟨e,h⟩);by_cases f:97<=b
  ·have j:¬ b<=102:=fun h=>l (.inr ⟨f,h⟩);refine Bd ZR Z TJ<|Sz U<|S<|C V<|Y (cL.eqv (jK Z Z Z) (k e))<|Y V<|J V<|J (cL.eqv (pJ Z Z Z) (g i))<|O cE<|Cn ?_ ?_<;>intro c
   ·cases c
   refine aA<|S<|C V<|Y (cL.eqv (jK Z Z Z) (k f))<|Y V<|J V<|J (cL.eqv (pJ Z Z Z) (g j))<|O cE<|Cn ?_ ?_<;>intro d
   ·cases d
   exact aA<|Sz U<|aC<|Rt<|Qq
  refine Bd ZR Z TJ<|Sz U<|S<|C V<|Y (cL.eqv (jK Z Z Z) (k e))<|Y V<|J V<|J (cL.eqv (pJ Z Z Z) (g i))<|O cE<|Cn ?_ ?_<;>intro c
  ·cases c
  refine aA<|S<|C V<|Y (cL.eqv (jK Z Z Z) (g f))<|Y V<|M<|M<|O cE<|Cn ?_ ?_<;>intro d
  ·cases d
  exact aA<|Sz U<|aC<|Rt<|Qq
 refine Bd ZR Z TJ<|Sz U<|S<|C V<|Y (cL.eqv (jK Z Z Z) (g e))<|Y V<|M<|M<|O cE<|Cn ?_ ?_<;>intro c
 ·cases c
 refine aA<|S<|C V<|Y (cL.eqv (jK Z Z Z) (g X))<|Y V<|M<|M<|O cE<|Cn ?_ ?_<;>intro d
 ·cases d
 exact aA<|Sz U<|aC<|Rt<|Qq
theorem Jw{s}{i}{y}(h:s.data.toList[i]?=some y):KP (bA s i)↔GO y=true:=by
 rw[bA];simp[KP,GO,Bool.or_eq_true,j0,k_,UInt8.le_iff_toNat_le]
 grind
theorem Tr{s}{i:Nat}{y}(h:s.data.toList[i]?=some y)(hy:GO y=false):l9 s=false:=by
 rw[l9]
 grind
theorem Tt{s}(h:∀k,k<16->∀y,s.data.toList[k]?=some y->GO y=true):l9 s=decide (s.size=16):=by
 rw[l9];by_cases e:s.size=16
 ·rw[decide_eq_true e,Bool.true_and,List.all_eq_true];intro y b;obtain ⟨k,a⟩:=r_.1 b;have:=(m_.1 a).1;rw[aT]at this;exact h k X y a
 simp_all
theorem Wh(s:B_)(hs:s.size<2^62)(H:aF):RC 37 [sv s] (bv (l9 s)) H:=by
 refine Pu ?_;have u:=aT s;refine Bd func37 Z ntmps37<|Sz U<|S<|Sz U<|aD<|bC (σ:=Nat) (fun i=>([(0,sv s),(3,iv (i:Int))],[])) (fun i=>i<=16/\i<=s.size/\∀k,k<i->∀y,s.data.toList[k]?=some y->GO y=true) (fun i=>16 - i) 0 ⟨l6 _,l6 _,fun k h=>by omega⟩ ?_ ?_
 ·exact Wk
 rintro i ⟨hi,hi2,g⟩;by_cases q:i<s.size/\i<16
 ·obtain ⟨hin1,hin2⟩:=q;obtain ⟨y,e⟩:=aU (l:=s.data.toList) (k:=i) X;have b:=Jw e;obtain ⟨d,c⟩:∃d,d=bA s i:=X_;rw[<-c]at b;by_cases m:GO y=true
  ·have j:=fun H=>Um d (b.2 m) H;have f:¬ (if d<=57 then d - 48 else d - 87)<0:=by
    have:=b.2 m;unfold KP at this
    split<;>omega
   rw[c]at j f;refine S<|C V<|Y V<|Y (gM U_)<|Y (cL.eqv (iA Z Z Z) (show AV.pv (.bool (decide ((i:Int)<(s.size:Int))))=bv true by simp_all))<|Y V<|J V<|J (cL.eqv (iA Z Z Z) (show AV.pv (.bool (decide ((i:Int)<16)))=bv true by grind))<|O cE<|Cn ?_ ?_<;>intro o
   ·refine aA<|S<|aD<|C V<|Y V<|Y (ky U_)<|Y (kc call83 (j _))<|O cM<|Cn ?_ ?_<;>intro v
    ·exact absurd (b9 v) f
    refine aA<|Rd V<|Y kp<|Da ?_;refine⟨i+1,⟨X,X,fun k A z hz=>?_⟩,X,Wk⟩
    grind
   cases o
  have m:GO y=false:=F_
  have j:=fun H=>Ks d (fun h=>by simp_all) H;rw[c]at j;rw[Tr e m];refine S<|C V<|Y V<|Y (gM U_)<|Y (cL.eqv (iA Z Z Z) (show AV.pv (.bool (decide ((i:Int)<(s.size:Int))))=bv true by simp_all))<|Y V<|J V<|J (cL.eqv (iA Z Z Z) (show AV.pv (.bool (decide ((i:Int)<16)))=bv true by grind))<|O cE<|Cn ?_ ?_<;>intro w
  ·refine aA<|S<|aD<|C V<|Y V<|Y (ky U_)<|Y (kc call83 (j _))<|O cM<|Cn ?_ ?_<;>intro n
   ·exact Sz U<|aC<|Rt<|Qq
   (have h:=b_ n;exact absurd E_ h)
  cases w
 have l:=Tt (s:=s) (fun k A y e=>by
  have:=(m_.1 e).1;rw[u]at this;exact g k X y e)
 have x:decide ((s.size:Int)=16)=decide (s.size=16):=by
  grind
 rw[l];by_cases h7:i<s.size
 ·refine S<|C V<|Y V<|Y (gM U_)<|Y (cL.eqv (iA Z Z Z) (show AV.pv (.bool (decide ((i:Int)<(s.size:Int))))=bv true by simp_all))<|Y V<|J V<|J (cL.eqv (iA Z Z Z) (show AV.pv (.bool (decide ((i:Int)<16)))=bv false by rw[decide_eq_false X]))<|O cE<|Cn ?_ ?_<;>intro p
  ·cases p
  exact aP<|C V<|Y (gM U_)<|Y (cL.eqv (lU Z Z Z) (show AV.pv (.bool (decide ((s.size:Int)=16)))=bv (decide (s.size=16))by rw[x]))<|O U<|aC<|Rt<|Qq
 refine S<|C V<|Y V<|Y (gM U_)<|Y (cL.eqv (iA Z Z Z) (show AV.pv (.bool (decide ((i:Int)<(s.size:Int))))=bv false by rw[decide_eq_false X]))<|Y V<|M<|M<|O cE<|Cn ?_ ?_<;>intro t
 ·cases t
 exact aP<|C V<|Y (gM U_)<|Y (cL.eqv (lU Z Z Z) (show AV.pv (.bool (decide ((s.size:Int)=16)))=bv (decide (s.size=16))by rw[x]))<|O U<|aC<|Rt<|Qq
def nf(b:UInt8):Bool:=decide (48<=b.toNat)&&decide (b.toNat<=57)
def Bs:List UInt8->Nat->Nat->Nat×Nat
 | [],c,n=>(c,n)
 |b::r,c,n=>if(nf b&&decide (c<6))=true then Bs r (c+1) (10*n+(b.toNat - 48))else(c,n)
def Po(l:List UInt8):Nat:=(Bs l 0 0).1
def spN(l:List UInt8):Nat:=(Bs l 0 0).2
def QH(l:List UInt8):Prop:=Po l=0\/l[Po l]?≠some 58\/l.length - Po l - 1<spN l
instance (l:List UInt8):Decidable (QH l):=inferInstanceAs (Decidable (_\/_\/_))
def N8(l:List UInt8):Option (List B_) :=if h:l=[]then some []else if QH l then none else(N8 (l.drop (Po l+1+spN l))).map (b7 ((l.drop (Po l+1)).take (spN l))::·)
termination_by l.length
decreasing_by have:=List.length_pos_iff.2 h;rw[q6];omega
def Pn(l:List UInt8):List B_×Bool:=match N8 l with|some L=>(L,true)|none=>([],false)
theorem ri:∀(w r) (c n v),decFrom n w=some v->c+w.length<=6->Bs (w++58::r) c n=(c+w.length,v)
 | [],r,c,n,v,h,_=>by
  obtain rfl:=Option.some.inj h;rfl
 | b::w,r,c,n,v,h,g=>by
  rw[decFrom]at h;rw[j8]at g |-;cases e:digitVal b with
  |none=>simp_all
  | some d =>
   rw[e]at h;have f:d=b.toNat - 48/\nf b=true:=by
    rw[digitVal]at e
    split at e
    ·next a=>obtain rfl:=Option.some.inj e;exact⟨Z,by rw[nf,decide_eq_true a.1,decide_eq_true a.2];rfl⟩
    cases e
   rw[List.cons_append,Bs,b6 G_,<-f.1,Nat.mul_comm _,ri w r _ _ v h X];exact Prod.ext X Z
theorem QE:∀(L:List B_),(∀s∈L,s.size<1000000)->N8 (aM L)=some L
 | [],_=>by rw[show aM []=[]from Z,N8,dif_pos rfl]
 | x::L,h=>by
  have hx:=h x List.mem_cons_self;have hd:=cU (k:=6) X E_;have f:=pQ x.size;have c:Bs (aM (x::L)) 0 0=((decDigits x.size).length,x.size):=by rw[gZ,ri _ _ 0 0 _ (mU _) X,r7]
  have g:Po (aM (x::L))=(decDigits x.size).length:=congrArg Prod.fst c;have hN:spN (aM (x::L))=x.size:=congrArg Prod.snd c;have i:(aM (x::L)).length=(decDigits x.size).length+1+(x.size+(aM L).length):=by rw[gZ,j9,j8,j9,aT];omega
  have d:(aM (x::L))[(decDigits x.size).length]?=some 58:=by rw[gZ,List.getElem?_append_right (j6 _),Nat.sub_self];rfl
  have b:(aM (x::L)).drop ((decDigits x.size).length+1)=x.data.toList++aM L:=by
   rw[gZ,show decDigits x.size++58::(x.data.toList++aM L)=(decDigits x.size++[58])++(x.data.toList++aM L)by simp,List.drop_left' H_]
  rw[N8,dif_neg (fun e=>by simp_all),a8 (by rw[QH,g,hN,d,i];have:=List.length_pos_iff.2 f;exact fun h=>h.elim (fun h=>by omega) fun h=>h.elim (fun h=>h Z) fun h=>by omega),g,hN,b,<-List.drop_drop,b,List.drop_left' (aT x),List.take_left' (aT x),QE L (fun s j=>h s (List.mem_cons_of_mem _ j)),gB];rfl
def fw(n:Int):B_:=if n<0 then b7 (45::decDigits (-n).toNat)else b7 (decDigits n.toNat)
theorem aAe(n:Int)(h0 : -4611686018427387904<=n)(h1:n<=4611686018427387904)(H:aF):RC 84 [iv n] (sv (fw n)) H:=by
 by_cases e:n<0
 ·refine Pu ?_;have g:∃k:Nat,n = -((k:Int)+1):=⟨(-n - 1).toNat,X⟩;obtain ⟨k,g⟩:=g;have f:=fun H=>bp (k+1) X H;have hS:fw n=b7 (45::decDigits (k+1)):=by rw[fw,b6 e,show (-n).toNat=k+1 by omega]
  rw[hS];have j:IntKind.i64.wrap (n+1) = -(k:Int):=by rw[qD X X];omega
  have h:IntKind.u64.wrap (0 - -(k:Int))=(k:Int):=by rw[IntKind.wrap_u64];omega
  have i:IntKind.u64.wrap ((k:Int)+1)=((k+1:Nat):Int):=by rw[IntKind.wrap_u64];omega
  have e11:(⟨#[45]⟩:B_)++b7 (decDigits (k+1))=b7 (45::decDigits (k+1)):=by rfl
  have h45:(⟨#[45]⟩:B_).size=1:=rfl;have hds:(b7 (decDigits (k+1))).size<=19:=by rw[cB];exact cU (k:=19) X E_
  refine Bd func84 Z ntmps84<|Sz U<|S<|C V<|O (cL.eqv (iA Z Z Z) (by rw[decide_eq_true e]))<|Cn ?_ ?_<;>intro d
  ·refine C V<|Y (ka j)<|Y (Se Z Z (qD X X))<|Y (eP Z underlying3 gF Z h)<|Y (ka i)<|Y (kc call136 (f _))<|Y kq<|O U<|aC<|Rt ?_
   simp_all
  cases d
 obtain ⟨k,rfl⟩:∃k:Nat,n=(k:Int):=⟨n.toNat,X⟩;rw[fw,a8 e];exact QW k X H
theorem Fin.st2J{H1}{id g n}{ob}(l)(v)(b:H1.get id=some ob)(c:ob.g=g)(a:ob.rows=bZ l)(d:n=l.length)(e:Clo [] v):
  Fin [] H1 (.tup [.osl id g 0 n,v]) [] (.tup [.pv (aK l),v]):=by
 subst c d;exact Fin.fz _ b (a.trans (eC l)) (.tup Z (bG (.osl (iH _ l)) (bG (.same e) kT))) Z T_ T_
theorem wz(l:List UInt8)(hl:l.length<1000000000)(H:aF):RC 62 [sv (b7 l)] (.tup [.pv (aK (Pn l).1),bv (Pn l).2]) H:=by
 refine Pu ?_;have t1:∀ {p:Prop} [Decidable p],p->AV.pv (.bool (decide p))=bv true:=fun h=>by simp_all
 have t0:∀ {p:Prop} [Decidable p],¬ p->AV.pv (.bool (decide p))=bv false:=fun h=>by simp_all
 have n1:∀ {p:Prop} [Decidable p],¬ p->AV.pv (.bool (!decide p))=bv true:=fun h=>by simp_all
 have n0:∀ {p:Prop} [Decidable p],p->AV.pv (.bool (!decide p))=bv false:=fun h=>by simp_all
 have hz:=cB l;have hby:∀i b,l[i]?=some b->bA (b7 l) i=(b.toNat:Int):=fun i b h=>by rw[bA,cO,h];rfl
 have hvn:N8 l=none->Pn l=([],false):=fun h=>by rw[Pn,h]
 have hvs:∀A,N8 l=some A->Pn l=(A,true):=fun A h=>by rw[Pn,h]
 refine Bd func62 Z ntmps62<|C U<|O U<|Sz (by exact eF (id:=905) (sz:=1) (ty:=9) Z Z Z)<|Sz U<|S<|aD<|fR (fun(p:Nat) (A:List B_)=>([(0,sv (b7 l)),(4,.osl 905 A.length 0 A.length),(5,iv (p:Int))],[(905,⟨A.length,1,9,bZ A⟩)])) (fun p A=>p<=l.length/\A.length<=p/\N8 l=(N8 (l.drop p)).map (A++·)) (fun p A=>l.length - p) 0 [] ⟨l6 _,j6 _,by simp_all⟩ ?_ ?_
 ·exact(cJ.wk (Eb<|Ea<|Eb<|T_) (Hc (aV _ _)<|T_) T_)
 rintro p A ⟨hp,hAp,hJ⟩;refine S<|C V<|Y V<|Y (gM U_)<|O cM<|Cn ?_ ?_<;>intro hc1
 ·have hlt:p<l.length:=by have:=b9 hc1;rw[hz]at this;omega
  obtain ⟨R,hR⟩:∃R,R=l.drop p:=X_;have hRl:R.length=l.length - p:=by simp_all
  have hRg:∀c,R[c]?=l[p+c]?:=fun c=>by simp_all
  rw[<-hR]at hJ;have hR0:R≠[]:=fun e=>by grind
  refine aA<|aD<|Sz U<|Sr<|Da<|eN (fun(q:Nat×Nat)=>([(0,sv (b7 l)),(4,.osl 905 A.length 0 A.length),(5,iv ((p+q.1:Nat):Int)),(6,iv (q.2:Int)),(7,iv (q.1:Int))],[(905,⟨A.length,1,9,bZ A⟩)])) (fun q=>Bs R 0 0=q/\q.1<=6/\p+q.1<=l.length/\q.2<1000000) ?_ ?_
  ·refine aD<|fR (fun(c n:Nat)=>([(0,sv (b7 l)),(4,.osl 905 A.length 0 A.length),(5,iv ((p+c:Nat):Int)),(6,iv (n:Int)),(7,iv (c:Int))],[(905,⟨A.length,1,9,bZ A⟩)])) (fun c n=>Bs R 0 0=Bs (R.drop c) c n/\c<=6/\p+c<=l.length/\n<10 ^ c) (fun c n=>6 - c) 0 0 ⟨Z,l6 _,by omega,by decide⟩ ?_ ?_
   ·exact(cJ.wk (Eb<|Ea<|Eb<|Eb<|Eb<|T_) (Hc (aV _ _)<|T_) T_)
   rintro c n ⟨hsc,hle6,hcl,hn⟩;have hp6:10 ^ c<=1000000:=Nat.le_trans (Nat.pow_le_pow_right (by decide) hle6) (by decide);by_cases hend:p+c<l.length
   ·obtain ⟨b,hb⟩:=aU (l:=R) (k:=c) (by omega);have hbl:=hby (p+c) b ((hRg c).symm.trans hb);have hb256:=b.toNat_lt;have hdr:R.drop c=b::R.drop (c+1):=by
     have h1:=(m_.1 hb).1;rw[List.drop_eq_getElem_cons h1,(m_.1 hb).2]
    rw[hdr,Bs]at hsc;by_cases hgo:(nf b&&decide (c<6))=true
    ·rw[b6 hgo]at hsc;rw[j0,nf,j0,k_,k_,k_]at hgo;have hn2:10*n+(b.toNat - 48)<10 ^ (c+1):=by rw[Nat.pow_succ];omega
     refine S<|C V<|Y V<|Y (gM U_)<|Y (by exact cL.eqv (iA Z Z Z) (t1 (by rw[hz];omega)))<|Y V<|J V<|J V<|J (by exact cV Z U_ Z Z (by omega) (by exact l8 _) (by rw[hz];omega) Z)<|J (by exact cL.eqv (jK Z Z Z) (t1 (by rw[hbl];omega)))<|Y cE<|Y V<|J V<|J V<|J (by exact cV Z U_ Z Z (by omega) (by exact l8 _) (by rw[hz];omega) Z)<|J (by exact cL.eqv (pJ Z Z Z) (t1 (by rw[hbl];omega)))<|Y cE<|Y V<|J V<|J (by exact cL.eqv (iA Z Z Z) (t1 (by omega)))<|O cE ?_;refine Cn ?_ ?_<;>intro hc2
     ·refine aA<|aD<|C V<|Y (by exact qM Z Z Z (show IntKind.i64.wrap (10*(n:Int))=((10*n:Nat):Int)by rw[qD (by omega) (by omega)];omega))<|Y V<|Y V<|Y (by exact cV Z U_ Z Z (by omega) (by exact l8 _) (by rw[hz];omega) Z)<|Y (by exact dP Z Z Z (show IntKind.u8.wrap (bA (b7 l) (p+c) - 48)=((b.toNat - 48:Nat):Int)by rw[hbl,IntKind.wrap_u8];omega))<|Y (by exact eP Z dM underlying3 Z (qD (by omega) (by omega)))<|Y (by exact eQ Z Z Z (show IntKind.i64.wrap (((10*n:Nat):Int)+((b.toNat - 48:Nat):Int))=((10*n+(b.toNat - 48):Nat):Int)by rw[qD (by omega) (by omega)];omega))<|O U<|C V<|Y (by exact eQ Z Z Z (show IntKind.i64.wrap (((p+c:Nat):Int)+1)=((p+(c+1):Nat):Int)by rw[qD (by omega) (by omega)];omega)) ?_;refine O U<|Rd V<|Y kp<|Da ?_;exact⟨c+1,_,⟨hsc,by omega,by omega,hn2⟩,by omega,(cJ.wk (Eb<|Ea<|Eb<|Eb<|Eb<|T_) (Hc (aV _ _)<|T_) T_)⟩
     cases hc2
    rw[a8 hgo]at hsc;have hgo:(nf b&&decide (c<6))=false:=by simpa using hgo
    have hfin:∃a:Nat×Nat,(Bs R 0 0=a/\a.1<=6/\p+a.1<=l.length/\a.2<1000000)/\a=(c,n):=⟨(c,n),⟨hsc,hle6,hcl,by omega⟩,Z⟩;obtain ⟨_,hfin,rfl⟩:=hfin;by_cases h48:48<=b.toNat
    ·by_cases h57:b.toNat<=57
     ·have hc:¬ c<6:=fun h=>by rw[nf,decide_eq_true h48,decide_eq_true h57,decide_eq_true h]at hgo;cases hgo
      refine S<|C V<|Y V<|Y (gM U_)<|Y (by exact cL.eqv (iA Z Z Z) (t1 (by rw[hz];omega)))<|Y V<|J V<|J V<|J (by exact cV Z U_ Z Z (by omega) (by exact l8 _) (by rw[hz];omega) Z)<|J (by exact cL.eqv (jK Z Z Z) (t1 (by rw[hbl];omega)))<|Y cE<|Y V<|J V<|J V<|J (by exact cV Z U_ Z Z (by omega) (by exact l8 _) (by rw[hz];omega) Z)<|J (by exact cL.eqv (pJ Z Z Z) (t1 (by rw[hbl];omega)))<|Y cE<|Y V<|J V<|J (by exact cL.eqv (iA Z Z Z) (t0 (by omega)))<|O cE ?_;refine Cn ?_ ?_<;>intro hc3
      ·cases hc3
      refine aP ?_;exact⟨(c,n),hfin,(cJ.wk (Eb<|Ea<|Eb<|Eb<|Eb<|T_) (Hc (aV _ _)<|T_) T_)⟩
     refine S<|C V<|Y V<|Y (gM U_)<|Y (by exact cL.eqv (iA Z Z Z) (t1 (by rw[hz];omega)))<|Y V<|J V<|J V<|J (by exact cV Z U_ Z Z (by omega) (by exact l8 _) (by rw[hz];omega) Z)<|J (by exact cL.eqv (jK Z Z Z) (t1 (by rw[hbl];omega)))<|Y cE<|Y V<|J V<|J V<|J (by exact cV Z U_ Z Z (by omega) (by exact l8 _) (by rw[hz];omega) Z)<|J (by exact cL.eqv (pJ Z Z Z) (t0 (by rw[hbl];omega)))<|Y cE<|Y V<|M<|M<|O cE ?_;refine Cn ?_ ?_<;>intro hc4
     ·cases hc4
     refine aP ?_;exact⟨(c,n),hfin,(cJ.wk (Eb<|Ea<|Eb<|Eb<|Eb<|T_) (Hc (aV _ _)<|T_) T_)⟩
    refine S<|C V<|Y V<|Y (gM U_)<|Y (by exact cL.eqv (iA Z Z Z) (t1 (by rw[hz];omega)))<|Y V<|J V<|J V<|J (by exact cV Z U_ Z Z (by omega) (by exact l8 _) (by rw[hz];omega) Z)<|J (by exact cL.eqv (jK Z Z Z) (t0 (by rw[hbl];omega)))<|Y cE<|Y V<|M<|M<|M<|M<|Y cE<|Y V<|M<|M<|O cE ?_;refine Cn ?_ ?_<;>intro hc5
    ·cases hc5
    refine aP ?_;exact⟨(c,n),hfin,(cJ.wk (Eb<|Ea<|Eb<|Eb<|Eb<|T_) (Hc (aV _ _)<|T_) T_)⟩
   rw[List.drop_eq_nil_of_le (by omega),Bs]at hsc;refine S<|C V<|Y V<|Y (gM U_)<|Y (by exact cL.eqv (iA Z Z Z) (t0 (by rw[hz];omega)))<|Y V<|M<|M<|M<|M<|Y cE<|Y V<|M<|M<|M<|M<|Y cE<|Y V<|M<|M<|O cE ?_;refine Cn ?_ ?_<;>intro hc6
   ·cases hc6
   refine aP ?_;exact⟨(c,n),⟨hsc,hle6,hcl,by omega⟩,(cJ.wk (Eb<|Ea<|Eb<|Eb<|Eb<|T_) (Hc (aV _ _)<|T_) T_)⟩
  rintro⟨c,n⟩ ⟨hsc,hle6,hcl,hn⟩;have hC:Po R=c:=congrArg Prod.fst hsc;have hN:spN R=n:=congrArg Prod.snd hsc;have hbad:QH R->Pn l=([],false):=fun h=>hvn (by rw[hJ,N8,dif_neg hR0,b6 h];rfl);rw[QH,hC,hN]at hbad;dsimp only at hle6 hcl hn |-;by_cases c0:c=0
  ·rw[hbad (.inl c0)];refine S<|C V<|Y (by exact cL.eqv (lU Z Z Z) (t1 (by omega)))<|Y V<|M<|M<|M<|M<|Y cE<|Y V<|M<|M<|M<|M<|Y cE<|Y V<|M<|M<|M<|M<|M<|M<|M<|O cE<|Cn ?_ ?_<;>intro hc7
   ·refine C U<|O U<|aC<|hU (H':=[]) (.inr Z) Z (aJ Z) (aJ Z) (Fin.wk (r:=.tup [.pv (aK []),bv false]) (by simp) T_ T_) Qq
   cases hc7
  by_cases hend:p+c<l.length
  ·obtain ⟨b,hb⟩:=aU (l:=R) (k:=c) (by omega);have hbl:=hby (p+c) b ((hRg c).symm.trans hb);by_cases h58:b=58
   ·have hb58:bA (b7 l) (p+c)=58:=by rw[hbl,h58];rfl
    have w63:IntKind.i64.wrap (((b7 l).size:Int) - ((p+c:Nat):Int))=((l.length - (p+c):Nat):Int):=by rw[hz,qD (by omega) (by omega)];omega
    have w64':IntKind.i64.wrap (((l.length - (p+c):Nat):Int) - 1)=((l.length - (p+c) - 1:Nat):Int):=by rw[qD (by omega) (by omega)];omega
    have w70:IntKind.i64.wrap (((p+c:Nat):Int)+1)=((p+c+1:Nat):Int):=by rw[qD (by omega) (by omega)];omega
    refine S<|C V<|Y (by exact cL.eqv (lU Z Z Z) (t0 (by omega)))<|Y V<|J V<|J V<|J (gM U_)<|J (by exact cL.eqv (lU Z Z Z) (t0 (by rw[hz];omega)))<|Y cE<|Y V<|J V<|J V<|J (by exact cV Z U_ Z Z (by omega) (by exact l8 _) (by rw[hz];omega) Z)<|J (by exact cL.eqv (J2 Z Z Z) (n0 hb58))<|Y cE<|Y V<|J V<|J V<|J (gM U_)<|J V<|J (by exact dP Z Z Z w63)<|J (by exact dP Z Z Z w64')<|J iY<|O cE ?_;refine Cn ?_ ?_<;>intro hc8
    ·have hgt:l.length - (p+c) - 1<n:=by have:=b9 hc8;omega
     rw[hbad (.inr (.inr (by omega)))];refine C U<|O U<|aC<|hU (H':=[]) (.inr Z) Z (aJ Z) (aJ Z) (Fin.wk (r:=.tup [.pv (aK []),bv false]) (by simp) T_ T_) Qq
    have hle:n<=l.length - (p+c) - 1:=by have:=b_ hc8;omega
    have hok:¬ QH R:=by rw[QH,hC,hN,hb,h58];exact fun h=>h.elim c0 fun h=>h.elim (fun h=>h Z) fun h=>by omega
    have hx75:(b7 l).extract (p+c+1) (p+c+1+n)=b7 ((R.drop (c+1)).take n):=oK (by rw[gS,cO,cO,hR,List.drop_drop,show p+c+1+n - (p+c+1)=n by omega,show p+(c+1)=p+c+1 by omega]);have hdr:l.drop (p+c+1+n)=R.drop (c+1+n):=by rw[hR,List.drop_drop,show p+(c+1+n)=p+c+1+n by omega]
    have hnl:(A++[b7 ((R.drop (c+1)).take n)]).length=A.length+1:=by rw[j9];rfl
    have hnx:N8 l=(N8 (l.drop (p+c+1+n))).map ((A++[b7 ((R.drop (c+1)).take n)])++·):=by
     rw[hJ,N8,dif_neg hR0,a8 hok,hC,hN,hdr];cases N8 (R.drop (c+1+n))<;>simp
    obtain ⟨A_,hX⟩:∃A_,A_=b7 ((R.drop (c+1)).take n):=X_;rw[<-hX]at hx75 hnl hnx;refine aA<|C V<|Y V<|Y V<|Y (ka w70)<|Y V<|Y (ka w70)<|Y V<|Y (by exact eQ Z Z Z (show IntKind.i64.wrap (((p+c+1:Nat):Int)+(n:Int))=((p+c+1+n:Nat):Int)by rw[qD (by omega) (by omega)];omega))<|Y (by exact bT (l:=p+c+1) (h:=p+c+1+n) Z U_ Z Z Z (by omega) (by rw[hz];omega) hx75)<|Y (by exact aL [[.str A_]] Z bH Z Z Z Z Z R_)<|Y (by exact cA (ps:=[[.str A_]]) Z bH xE Z Z Z Z Z (eH _) Z R_ (m:=1) Z (by omega) Z (gO A A_))<|O U<|Rd V<|Y (ka w70)<|Y V<|Y (by exact eQ Z Z Z (show IntKind.i64.wrap (((p+c+1:Nat):Int)+(n:Int))=((p+c+1+n:Nat):Int)by rw[qD (by omega) (by omega)];omega)) ?_;refine Da ?_;refine⟨p+c+1+n,A++[A_],⟨by omega,by rw[hnl];omega,hnx⟩,by omega,?_⟩;rw[hnl];exact(cJ.wk (Eb<|Ea<|Eb<|T_) (Hc (aV _ _)<|T_) T_)
   have hb58:¬ bA (b7 l) (p+c)=58:=fun e=>h58 (by
    rw[hbl]at e;exact UInt8.toNat_inj.1 (by show b.toNat=58;omega))
   rw[hbad (.inr (.inl (by rw[hb];exact fun e=>h58 (Option.some.inj e))))];refine S<|C V<|Y (by exact cL.eqv (lU Z Z Z) (t0 (by omega)))<|Y V<|J V<|J V<|J (gM U_)<|J (by exact cL.eqv (lU Z Z Z) (t0 (by rw[hz];omega)))<|Y cE<|Y V<|J V<|J V<|J (by exact cV Z U_ Z Z (by omega) (by exact l8 _) (by rw[hz];omega) Z)<|J (by exact cL.eqv (J2 Z Z Z) (n1 hb58))<|Y cE<|Y V<|M<|M<|M<|M<|M<|M<|M<|O cE ?_;refine Cn ?_ ?_<;>intro hc9
   ·refine C U<|O U<|aC<|hU (H':=[]) (.inr Z) Z (aJ Z) (aJ Z) (Fin.wk (r:=.tup [.pv (aK []),bv false]) (by simp) T_ T_) Qq
   cases hc9
  rw[hbad (.inr (.inl (by rw[List.getElem?_eq_none (by omega)];exact fun e=>by cases e)))];refine S<|C V<|Y (by exact cL.eqv (lU Z Z Z) (t0 (by omega)))<|Y V<|J V<|J V<|J (gM U_)<|J (by exact cL.eqv (lU Z Z Z) (t1 (by rw[hz];omega)))<|Y cE<|Y V<|M<|M<|M<|M<|Y cE<|Y V<|M<|M<|M<|M<|M<|M<|M<|O cE ?_;refine Cn ?_ ?_<;>intro hc10
  ·refine C U<|O U<|aC<|hU (H':=[]) (.inr Z) Z (aJ Z) (aJ Z) (Fin.wk (r:=.tup [.pv (aK []),bv false]) (by simp) T_ T_) Qq
  cases hc10
 have hge:p=l.length:=by have:=b_ hc1;rw[hz]at this;omega
 have hfin:Pn l=(A,true):=hvs A (by rw[hJ,hge,List.drop_length,N8,dif_pos rfl];simp);rw[hfin];refine aP<|C V<|Y U<|O U<|aC ?_;refine hU (H':=[]) (.inr Z) Z (aJ Z) (aJ Z) (Fin.st2J A (bv true) Z Z Z Z (by simp)) ?_;exact Qq
theorem WE(l:List B_)(H:aF)(hl:(aM l).length<35184372088832):RC 78 [.pv (aK l)] (sv (b7 (aM l))) H:=by
 refine Pu ?_;have hml:(l.map S_).length=l.length:=h_ _;have hll:=zJ l;refine Bd func78 Z ntmps78<|Sz U<|Sz (kl 2001 HG)<|S<|S ?_;refine fZ.ent (E':=[(0,.pv (aK l)),(3,.ref 2001 0 0 0)]) (H':=yH 0 [] false) (cJ.bld0 ⟨⟨_,Z,.same H_⟩,⟨_,Z,.same (by simp;rfl)⟩,T_⟩) ?_;refine Rd V<|Y (fV aE)<|O V<|aD<|BX (fun(k g:Nat) (u:Bool)=>([(3,.ref 2001 0 0 0),(6,.pv (aK l)),(7,iv ((l.map S_).length:Int)),(8,iv (k:Int))],yH g (aM (l.take k)) u)) (fun k g u=>k<=l.length) (fun k g u=>l.length - k) 0 0 false (l6 _) ?_ ?_
 ·exact(cJ.wk (Ea<|Eb<|Eb<|Eb<|T_) (Hc (gD Z Z)<|Hc (eJ _ _)<|T_) T_)
 intro k g u hk;have hle:=uA l k;refine Sz cM<|S<|Cn ?_ ?_<;>intro d
 ·have h:k<l.length:=I_ d
  obtain ⟨s,i⟩:=aU h;have j:=cC (f:=S_) i;have e:=uA l (k+1);rw[fN i,pK,j9,oZ,nJ]at e;have hsz:s.size<35184372088832:=X
  refine aA<|S<|aD<|C (iM bH)<|Y (fY N_ (hi:=j))<|O U<|Rd V<|Y (gM U_)<|Y (kc lM (pL (s.size:Int) X X _))<|Y (by exact eW Z Z Z (by have:(⟨#[58]⟩:B_).size=1:=rfl;omega) Z)<|Y V<|Y (by exact eW Z Z Z (by rw[ByteArray.size_append];have:(⟨#[58]⟩:B_).size=1:=rfl;omega) Z)<|O (kc nB (jA g (aM (l.take k)) u (pY s) (by rw[nJ];omega)))<|Rd gT<|O V ?_;refine⟨k+1,g+1,true,X,X,?_⟩;rw[fN i,pK];exact(cJ.wk (Ea<|Eb<|Eb<|Eb<|T_) (Hc (gD Z Z)<|Hc (eJ _ _)<|T_) T_)
 have f:k=l.length:=J_ d
 subst f;rw[List.take_length];exact aP<|C (kc nA (P7 g (aM l) u X))<|O U<|aC<|Rt<|Qq
def nbW(s:B_):Bool:=((vK s||decide (kN s<0))||decide ((6:Int)<(s.size:Int)))||!decide (aQ (kN s)=s)
theorem Sm(s):jH s=if nbW s=true then -1 else kN s:=by rw[jH,nbW];all_goals grind
theorem mm(s:B_)(H:aF)(n:s.size<2^40):RC 89 [sv s] (iv (jH s)) H:=by
 refine Pu ?_;have d:=fun H=>ZJ s n H;have c:=XE s;have hit:=fun H=>pL (kN s) c.1 c.2 H;have k:=Sm s;have b:nbW s=(((vK s||decide (kN s<0))||decide ((6:Int)<(s.size:Int)))||!decide (aQ (kN s)=s)):=rfl;rw[k];clear k;obtain ⟨v,m⟩:∃v,v=kN s:=X_;obtain ⟨e,l⟩:∃e,e=vK s:=X_;rw[<-m]at d b c hit |-;rw[<-l]at d b;obtain ⟨w,j⟩:∃y,y=aQ v:=X_;rw[<-j]at hit b;clear m l j;refine Bd func89 Z ntmps89<|Sz U<|C V<|Y (kc vN (d _))<|Y V<|Y dH<|Y dH<|Y U<|O U<|S<|S<|aR (t:=26) (n:=20) (A_:=nbW s) ?_ ?_
 ·all_goals refine Y V<|Y (RR Z nT Z)<|Dm ?_<;>(refine Sp 12 (fun i=>?_) fun i=>?_)<;>(try(with_reducible contradiction))<;>(first|refine M<|M ?_|refine J V<|J cM ?_)<;>refine Y cE<|Dm ?_<;>(refine Sp 16 (fun h=>?_) fun h=>?_)<;>(try(with_reducible contradiction))<;>(first|refine M<|M<|M ?_|refine J V<|J (gM U_)<|J iY ?_)<;>refine Y cE<|Dm ?_<;>(refine Sp 21 (fun g=>?_) fun g=>?_)<;>(try(with_reducible contradiction))<;>(first|refine M<|M<|M<|M ?_|refine J V<|J (kc lM (hit _))<|J V<|J GU ?_)<;>refine O cE ?_<;>(exact⟨⟨_,Z,G_⟩,Z,Z,Z⟩)
 refine Cn ?_ ?_<;>intro f
 ·rw[b6 (show nbW s=true from f)];exact Sz U<|aC<|Rt<|Qq
 rw[a8 (show ¬ nbW s=true by rw[show nbW s=false from f];decide)];exact aA<|C V<|O U<|aC<|Rt<|Qq
theorem Lb{l}(h:l≠[]):(IZ l).length<l.length:=by rw[IZ,q6];have:=(List.dropWhile_sublist (l:=l) fun b=>!decide (b=58)).length_le;have:=List.length_pos_iff.2 h;omega
theorem XS:AX []=some []:=by rw[AX,dif_pos rfl]
theorem qy{l}(b:l≠[])(a:zV l=true):AX l=none:=by rw[AX,dif_neg b,b6 a]
theorem aw{l}(a:l≠[])(hb:zV l=false):AX l=(AX ((IZ l).drop (jn l))).map (b7 ((IZ l).take (jn l))::·):=by conv=>lhs;rw[AX,dif_neg a,a8 F_]
theorem aq(t:List UInt8)(H:aF)(ht:t.length<1000000000):RC 87 [sv (b7 t)] (.tup [.pv (aK ((AX t).getD [])),bv (AX t).isSome]) H:=by
 refine Pu<|Bd func87 Z ntmps87<|C U<|O U<|Sz (eF (id:=905) (sz:=1) (ty:=9) Z Z Z)<|S<|aD<|fR (fun(l:List UInt8) (A:List B_)=>([(0,sv (b7 l)),(4,.osl 905 A.length 0 A.length)],[(905,⟨A.length,1,9,bZ A⟩)])) (fun l A=>l.length+A.length<=t.length/\AX t=(AX l).map (A++·)) (fun l A=>l.length) t [] ⟨j6 _,by cases AX t<;>rfl⟩ ?_ ?_
 ·exact L_
 rintro l A ⟨hl,F⟩;have K:(b7 l).size=l.length:=cB l;have D:=La l;have b:=fun H=>Kv (b7 l) H X;rw[vf]at b;have n:=fun H=>mm (b7 (M4 l)) H (by rw[cB];omega);have c_:(b7 (IZ l)).size=(IZ l).length:=cB _;have d:zV l=((!decide ((58:UInt8)∈l)||decide (jH (b7 (M4 l))<0))||decide (((IZ l).length:Int)<jH (b7 (M4 l)))):=rfl;have hN:jn l=(jH (b7 (M4 l))).toNat:=rfl;have G:=fun(g:l≠[]) j=>qy g j;have p:=fun(g:l≠[]) j=>aw g j;have s:=fun g=>Lb (l:=l) g;obtain ⟨x,e_⟩:∃x,x=b7 (M4 l):=X_;rw[<-e_]at b n d hN;obtain ⟨v,L⟩:∃v,v=jH x:=X_;obtain ⟨o,N⟩:∃o,o=decide ((58:UInt8)∈l):=X_;obtain ⟨r,k⟩:∃r,r=IZ l:=X_;simp only[<-L,<-N,<-k]at b n d hN c_ D s p;clear e_ L N k;refine S<|C V<|Y (gM U_)<|O iY<|Cn ?_ ?_<;>intro q
 ·have g:l≠[]:=fun e=>by have h:=b9 q;rw[K,e]at h;exact absurd h E_
  refine aA<|aD<|C V<|Y (kc aEW (b _))<|Y V<|Y dH<|Y dH<|Y dH<|Y U<|Y U<|O U<|C V<|Y (kc aEp (n _))<|O U<|S<|S<|aR (t:=31) (n:=14) (A_:=zV l) ?_ ?_
  ·all_goals refine Y V<|Y iT<|Dm ?_<;>(refine Sp 22 (fun m=>?_) fun m=>?_)<;>(try(with_reducible contradiction))<;>(first|refine M<|M ?_|refine J V<|J cM ?_)<;>refine Y cE<|Dm ?_<;>(refine Sp 26 (fun y=>?_) fun y=>?_)<;>(try(with_reducible contradiction))<;>(first|refine M<|M<|M<|M ?_|refine J V<|J V<|J (gM U_)<|J iY ?_)<;>refine O cE ?_<;>exact Gj (h:=by rw[d];first|(rw[m];rfl)|(rw[m,y];rfl))
  refine Cn ?_ ?_<;>intro B
  ·have j:zV l=true:=B;rw[F,G g j];refine C U<|O U<|aC<|hU (H':=[]) (.inr Z) Z (aJ Z) (aJ Z) (P_ (r:=.tup [.pv (aK []),bv false])) Qq
  have j:zV l=false:=B;have o_:=p g j;have hlt2:=s g;have I:=d.symm.trans j;simp only[q9,p_]at I;obtain ⟨u,rfl⟩:∃u:Nat,v=(u:Int):=⟨v.toNat,X⟩;rw[l8]at hN;rw[hN]at o_;have hur:u<=r.length:=X
  have x1:(b7 r).extract 0 u=b7 (r.take u):=oK (by rw[gS,cO,cO,List.drop_zero,Nat.sub_zero]);have P:(b7 r).extract u (b7 r).size=b7 (r.drop u):=oK (by rw[rW,cO,cO]);have w:(A++[b7 (r.take u)]).length=A.length+1:=by rw[j9];rfl
  refine aA<|aN a7<|Cr [905] (fun _ _=>V)<|Cr [] (fun _ _=>V)<|Cr [] (fun _ _=>V)<|Cr [] (fun E d_=>by exact bT (l:=0) (h:=u) Z U_ Z Z Z (l6 _) X x1)<|Cr [] (fun E d_=>by exact aL [[.str (b7 (r.take u))]] Z bH Z Z Z Z Z R_)<|Cp [905] (fun E d_=>by exact cA (ps:=[[.str (b7 (r.take u))]]) Z bH xE Z ((d_ _ Z).trans Z) Z Z Z (eH _) Z R_ (m:=1) Z X Z (gO _ (b7 (r.take u))))<|Cr [] (fun _ _=>V)<|Cr [] (fun _ _=>V)<|Cr [] (fun E d_=>by exact bT (l:=u) (h:=(b7 r).size) Z U_ Z Z Z X (j6 _) P)<|Cr [905] (fun _ _=>U)<|Cr [] (fun _ _=>U)<|bJ<|Kr ?_;refine⟨r.drop u,A++[b7 (r.take u)],⟨by rw[q6,w];omega,?_⟩,by rw[q6];omega,?_⟩
  ·rw[F,o_];cases AX (r.drop u)with
   |none=>rfl
   |some z=>simp
  dsimp only;rw[w];exact L_
 have g:l=[]:=List.length_eq_zero_iff.1 (J_ q);rw[F,g,XS];refine aP<|C V<|Y U<|O U<|aC ?_;refine hU (H':=[]) (.inr Z) Z (aJ Z) (aJ Z) (Fin.st2J (A++[]) (bv true) Z Z (by rw[List.append_nil]) (by rw[List.append_nil]) H_) ?_;exact Qq
structure GoodP(p:m6):Prop where
 pre:zK p.pre=true
 cnt:p.cnt<1000000
 sum:l9 p.sum=true
 sml:p.cnt<=16->p.ids.length=p.cnt/\GN p.pre p.ids=true/\C6 p.ids=p.sum
 big:16<p.cnt->p.ids=[]
theorem Gw(h:GoodP p)(n:Nat)(R:List B_):TR (n+1) (iQ p++R)=(TR n R).map (p::·):=by
 obtain ⟨a,c,s,l⟩:=p;obtain ⟨i,j,k,g,d⟩:=h;have e:jH (aQ (c:Int))=(c:Int):=MH X (by simp only at j;omega);simp only at i j k g d;show TR (n+1) (a::aQ (c:Int)::s::(l++R))=_;rw[TR,b6 (by rw[i,e,k,decide_eq_true X];rfl),e,l8];by_cases o:c<=16
 ·obtain ⟨f,m,r⟩:=g o;have b:(l++R).take c=l:=List.take_left' f;have q:(l++R).drop c=R:=List.drop_left' f;rw[b6 X,b6 ⟨by rw[j9];omega,by rw[b];exact m,by rw[b];exact r⟩,b,q]
 obtain rfl:=d X;rw[a8 X];rfl
theorem OY(n):TR n []=some []:=by cases n<;>rfl
theorem si:∀(P:List m6) (n:Nat),(∀p∈P,GoodP p)->P.length<=n->TR n (P.map iQ).flatten=some P
 | [],n,_,_=>OY n
 |p::P,0,_,h=>by grind
 |p::P,n+1,h,a=>by
  rw[List.map_cons,List.flatten_cons,Gw (h p List.mem_cons_self),si P n (fun q b=>h q (List.mem_cons_of_mem _ b)) (by simpa using a)];rfl
theorem KM:∀ {p:B_} {l:List B_},GN p l=true->∀x∈l,l9 x=true/\DT p x=true
 |_,[],_,x,c=>by cases c
 |p,[a],h,x,c=>by
  rw[q_]at c;subst c
  simpa[GN]using h
 |p,a::b::r,h,x,c=>by
  simp only[GN,j0]at h;rcases l7.1 c with rfl|c
  ·exact h.1.1
  exact KM h.2 x c
theorem SS(h:GoodP p):∀s∈iQ p,s.size<1000000:=by
 intro s a;rw[iQ,List.mem_append]at a;rcases a with a|a
 ·simp only[l7,n_,or_false]at a;rcases a with rfl|rfl|rfl
  ·have:=h.pre;rw[zK,j0,k_]at this;omega
  ·have:=nP (n:=(p.cnt:Int)) X (by have:=h.cnt;omega);omega
  have:=kS h.sum;omega
 by_cases b:p.cnt<=16
 ·have:=kS ((KM (h.sml b).2.1 s a).1);omega
 rw[h.big X]at a;cases a
theorem yp(P:List m6)(h:∀p∈P,GoodP p)(g:P.length<1000000):yT (AA (P.map iQ))=P:=by
 have c:∀s∈iP::aQ ((P.map iQ).length:Int)::(P.map iQ).flatten,s.size<1000000:=by
  intro s c;rcases l7.1 c with rfl|c
  ·decide
  rcases l7.1 c with rfl|c
  ·have:=nP (n:=((P.map iQ).length:Int)) X (by rw[h_];omega);omega
  obtain ⟨q,f,e⟩:=List.mem_flatten.1 c;obtain ⟨p,i,rfl⟩:=List.mem_map.1 f;exact SS (h p i) s e
 have d:P.length<=((P.map iQ).flatten).length:=by
  clear c h g
  induction P with
  |nil=>exact j6 _
  |cons p P ih=>rw[List.map_cons,List.flatten_cons,j9,j8,iQ,j9];simp only[j8,List.length_nil];omega
 rw[yT,AA,cO,tT _ c];show (if iP=iP then(match TR _ _ with|some Q=>if(Q.length:Int)=jH _ then Q else[]|none=>[])else[])=_;rw[b6 Z,si P _ h d];show (if(P.length:Int)=jH (aQ ((P.map iQ).length:Int))then P else[])=P;rw[MH X (by rw[h_];omega),h_,b6 rfl]
theorem je(L:List B_)(h:∀s∈L,l9 s=true)(b:L≠[]):zT (pT (L.map fun s=>[s]))=L:=by
 have e:(L.map fun s=>[s]).flatten=L:=by clear h b;induction L with|nil=>rfl|cons a L d=>rw[List.map_cons,List.flatten_cons,d];rfl
 obtain ⟨a,L,rfl⟩:=List.exists_cons_of_ne_nil b;rw[zT,pT,e,cO,tT _ (by
  intro s c;rcases l7.1 c with rfl|c
  ·decide
  have:=kS (h s c);omega)]
 show (if pU=pU/\(a::L).all l9=true then a::L else[])=_
 simp_all
theorem sq:∀(p x:List UInt8),(∀b∈x,b<103)->p.isPrefixOf x=(!decide (x<p)&&decide (x<p++[103]))
 | [],[],_=>by simp
 | [],b::x,h=>by
  have d:=h b List.mem_cons_self;have:(b::x)<[103]:=List.cons_lt_cons_iff.2 (.inl d);simp[this]
 |c::p,[],_=>by simp
 |c::p,b::x,h=>by
  have i:=sq p x fun y g=>h y (List.mem_cons_of_mem _ g);rw[List.isPrefixOf,i,List.cons_append];simp only[List.cons_lt_cons_iff];by_cases e:b=c
  ·subst e;simp[UInt8.lt_irrefl]
  have f:(c == b)=false:=by simpa using fun h=>e h.symm
  rw[f];by_cases a:b<c
  ·simp[a]
  simp[a,e]
theorem Tx{b:UInt8}(h:GO b=true):b<103:=by simp only[GO,Bool.or_eq_true,j0,k_]at h;all_goals grind
theorem Ts(h:l9 s=true):∀b∈s.data.toList,b<103:=by rw[l9,j0]at h;exact fun b a=>Tx (List.all_eq_true.1 h.2 b a)
def sG:B_:=⟨#[103]⟩
theorem Vg(p:B_){x:B_}(h:l9 x=true):DT p x=(!lY x p&&lY x (p++sG)):=by rw[DT,sq _ _ (Ts h),CC,CC];rfl
theorem R3{α:Type}(a b:α->Bool):∀(l:List α),l.Pairwise (fun x y=>(a y=true->a x=true)/\(b y=true->b x=true))->(∀x∈l,a x=true->b x=true) ->
  (l.take (l.findIdx fun x=>!b x)).drop (l.findIdx fun x=>!a x)=l.filter fun x=>!a x&&b x
 | [],_,_=>rfl
 | x :: r, h, d => by
  rw[List.pairwise_cons]at h;have i:=R3 a b r h.2 fun y c=>d y (List.mem_cons_of_mem _ c);rw[List.findIdx_cons,List.findIdx_cons];cases g:a x with
  |true =>
   have f:=d x List.mem_cons_self g;rw[f];simp only[Bool.not_true,cond_false,List.take_succ_cons,List.drop_succ_cons];rw[i,List.filter_cons_of_neg (by simp[g])]
  | false =>
   have j:∀y∈r,a y=false:=fun y c=>by
    cases e:a y with
    |false=>rfl
    |true=>have:=(h.1 y c).1 e;rw[g]at this;cases this
   have m:(r.findIdx fun y=>!a y)=0:=by
    cases r with
    |nil=>rfl
    |cons y r=>rw[List.findIdx_cons,j y List.mem_cons_self];rfl
   rw[m,List.drop_zero]at i;cases f:b x with
   |true =>
    simp only[Bool.not_true,Bool.not_false,cond_false,cond_true,List.take_succ_cons,List.drop_zero];rw[i,List.filter_cons_of_pos (by simp[g,f])]
   | false =>
    have k:∀y∈r,b y=false:=fun y c=>by
     cases e:b y with
     |false=>rfl
     |true=>have:=(h.1 y c).2 e;rw[f]at this;cases this
    simp only[Bool.not_false,cond_true,List.take_zero,List.drop_zero];rw[List.filter_eq_nil_iff.2];intro y c;rcases l7.1 c with rfl|c
    ·simp[f]
    simp[k y c]
abbrev D5(l:List B_):Prop:=l.Pairwise fun x y=>lY x y=true
theorem tU(h1:lY a b=true)(h2:lY b c=true):lY a c=true:=by
 rw[CC]at *
 grind
theorem ra(x p q:B_)(h:lY x p=true):lY x (p++q)=true:=by
 rw[CC,k_]at *;rw[ByteArray.data_append,Array.toList_append];generalize x.data.toList=a,p.data.toList=b,q.data.toList=c at *
 induction b generalizing a with
 |nil=>exact absurd h (List.not_lt_nil a)
 | cons y b f =>
  cases a with
  |nil=>exact List.nil_lt_cons _ _
  |cons z a =>
   rw[List.cons_append];rcases List.cons_lt_cons_iff.1 h with d|⟨e,d⟩
   ·exact List.cons_lt_cons_iff.2 (.inl d)
   exact List.cons_lt_cons_iff.2 (.inr ⟨e,f _ d⟩)
theorem Di(a:List B_)(p:B_)(e:D5 a)(hJ:∀x∈a,l9 x=true):(a.take (dw id a (p++sG))).drop (dw id a p)=kA a p:=by rw[dw,dw,kA];show (a.take (a.findIdx fun x=>!lY x (p++sG))).drop (a.findIdx fun x=>!lY x p)=_;rw[R3 (fun x=>lY x p) (fun x=>lY x (p++sG)) a (e.imp fun h=>⟨fun c=>tU h c,fun c=>tU h c⟩) fun x _ h=>ra x p sG h];exact List.filter_congr fun x d=>(Vg p (hJ x d)).symm
def yQ(t:B_):Option B_:=if(dQ t.data.toList).2=0 then some (G9 (dQ t.data.toList).1)else none
def lA(a:List (B_×B_))(t:B_):List (B_×B_):=match yQ t with
 |none=>a
 |some i=>if a.any (fun p=>decide (p.1=i))=true then a else a++[(i,t)]
def nH(l:List B_):List (B_×B_):=l.foldl lA []
def mE(l:List B_):List B_:=jF ((nH l).map Prod.fst)
def nL(o:List (B_×B_))(i:B_):B_:=((o.find? fun p=>decide (p.1=i)).map Prod.snd).getD a6
def mH(ids s:List B_)(i:B_):List B_:=if decide (i∈ids)&&!decide (i∈s)then s++[i]else s
structure GRep where
 sent:List B_
 wants:List (List B_)
 offers:List (List B_)
def MT:List B_:=[48,49,50,51,52,53,54,55,56,57,97,98,99,100,101,102].map fun b=>⟨#[b]⟩
def wU(ids:List B_)(r:GRep)(p:m6):GRep :=if p.cnt<=16 then⟨((kA ids p.pre).filter fun i=>!decide (i∈p.ids)).foldl (mH ids) r.sent,r.wants++(p.ids.filter fun i=>!decide (i∈ids)).map (fun i=>[i]),r.offers⟩
 else if p.cnt=(eE ids p.pre).cnt/\p.sum=(eE ids p.pre).sum then r
 else if(eE ids p.pre).cnt<=16 then⟨r.sent,r.wants,r.offers++[iQ (eE ids p.pre)]⟩
 else⟨r.sent,r.wants,r.offers++MT.map fun d=>iQ (eE ids (p.pre++d))⟩
def DQ(ids:List B_)(t:B_):GRep:=(yT t).foldl (wU ids) ⟨(zT t).foldl (mH ids) [],[],[]⟩
def Bu(T:List (List B_)->B_)(l:List (List B_)):Nat->Nat->Nat
 |0,n=>n
 |f+1,n=>if n<l.length/\(T (l.take (n+1))).size<=18000 then Bu T l f (n+1)else n
def sr(T:List (List B_)->B_):Nat->List (List B_)->List B_
 |0,_=>[]
 |f+1,l=>if l=[]then[]else T (l.take (Bu T l l.length 1))::sr T f (l.drop (Bu T l l.length 1))
def kz(T:List (List B_)->B_)(l:List (List B_)):List B_:=sr T l.length l
def wV(texts:List B_)(t:B_):List B_ :=(DQ (mE texts) t).sent.map (nL (nH texts))++(kz pT (DQ (mE texts) t).wants++kz AA (DQ (mE texts) t).offers)
theorem yf(l)(t):nH (l++[t])=lA (nH l) t:=by rw[nH,List.foldl_append];rfl
theorem YD(T:List (List B_)->B_)(l:List (List B_)):∀f n,n<=Bu T l f n
 |0,n=>j6 n
 |f+1,n=>by
  rw[Bu]
  split
  ·exact Nat.le_trans (Nat.le_succ n) (YD T l f (n+1))
  exact j6 n
theorem yd(l:List B_):((nH l).map Prod.fst).Nodup:=by
 have h:∀(l:List B_) (a:List (B_×B_)),(a.map Prod.fst).Nodup->((l.foldl lA a).map Prod.fst).Nodup:=by
  intro l
  induction l with
  |nil=>exact fun a h=>h
  | cons t l g =>
   intro a h;rw[List.foldl_cons];refine g _ ?_;rw[lA];cases yQ t with
   |none=>exact h
   |some i =>
    simp only
    split
    ·exact h
    next j =>
    rw[List.map_append,List.nodup_append];refine⟨h,H_,?_⟩;intro x k y d e;simp only[List.map_cons,List.map_nil,q_]at d;subst d e;obtain ⟨p,f,rfl⟩:=List.mem_map.1 k;exact j (List.any_eq_true.2 ⟨p,f,H_⟩)
 exact h l [] H_
theorem tb(l:List B_)(i:B_):i∈(nH l).map Prod.fst↔∃t∈l,yQ t=some i:=by
 have h:∀(l:List B_) (a:List (B_×B_)),i∈(l.foldl lA a).map Prod.fst↔i∈a.map Prod.fst\/∃t∈l,yQ t=some i:=by
  intro l
  induction l with
  |nil=>intro a;simp
  | cons t l g =>
   intro a;rw[List.foldl_cons,g];have k:i∈(lA a t).map Prod.fst↔i∈a.map Prod.fst\/yQ t=some i:=by
    rw[lA];cases e:yQ t with
    |none=>simp
    | some j =>
     simp only
     split
     ·next f =>
      obtain ⟨p,d,c⟩:=List.any_eq_true.1 f;rw[k_]at c;constructor
      ·exact .inl
      rintro(h|h)
      ·exact h
      obtain rfl:=Option.some.inj h;exact List.mem_map.2 ⟨p,d,c⟩
     simp[eq_comm]
   rw[k,or_assoc];simp
 rw[nH,h];simp
theorem KN(l)(i):i∈mE l↔∃t∈l,yQ t=some i:=by rw[mE,(xJ _).mem_iff,tb]
theorem xd(l:List B_)(h:l.Nodup):D5 (jF l):=by
 have i:(jF l).Nodup:=(xJ l).nodup_iff.2 h;have g:(jF l).Pairwise fun x y=>qn x<=qn y:=by
  rw[jF,List.pairwise_map];refine(List.pairwise_mergeSort (le:=fun(x y:List UInt8)=>decide (x<=y)) (fun a b c e f=>?_) (fun a b=>?_) (l.map qn)).imp fun {a b} d=>?_
  ·rw[k_]at *;exact List.le_trans e f
  ·simp only[Bool.or_eq_true,k_];exact List.le_total a b
  rw[k_]at d;exact d
 refine g.imp₂ (fun a b e f=>?_) i;rw[CC,k_];rcases List.le_iff_lt_or_eq.1 e with h|h
 ·exact h
 exact absurd (by rw[<-tf a,<-tf b,h]) f
theorem BN(l):D5 (mE l):=xd _ (yd l)
theorem PY{r}(h:(mG r).2=0):gV r=true:=by
 by_cases a:gV r=true
 ·exact a
 rw[mG,a8 a]at h;cases h
theorem Jt(h:yQ t=some i):l9 i=true:=by
 rw[yQ]at h
 split at h
 ·next a =>
  obtain rfl:=Option.some.inj h;rw[G9,b6 (PY (by rw[JV a]))];exact CV _
 cases h
theorem ni(l):∀x∈mE l,l9 x=true:=fun x a=>by
 obtain ⟨t,_,h⟩:=(KN l x).1 a;exact Jt h
theorem KO(l:List B_):(mE l).length<=l.length:=by
 rw [mE,jY,h_];have h:∀ (l:List B_) (a:List (B_×B_)),(l.foldl lA a).length<=a.length+l.length:=by
  intro l
  induction l with
  |nil=>exact fun a=>j6 _
  | cons t l c =>
   intro a;rw[List.foldl_cons,j8];refine Nat.le_trans (c _) ?_;have:(lA a t).length<=a.length+1:=by
    rw[lA];cases yQ t with
    |none=>exact Nat.le_succ _
    |some i =>
     simp only
     split
     ·exact Nat.le_succ _
     rw[j9];exact j6 _
   omega
 have:=h l []
 simpa[nH]using this
theorem QK(s):lY s s=false:=by
 rw[CC]
 simp_all
theorem P9:∀(a b:List B_),D5 a->D5 b->(∀x,x∈a↔x∈b)->a=b
 | [],[],_,_,_=>rfl
 | [],y::b,_,_,h=>by have:=(h y).2 List.mem_cons_self;cases this
 |x::a,[],_,_,h=>by have:=(h x).1 List.mem_cons_self;cases this
 | x::a,y::b,k,i,h=>by
  have d:=List.pairwise_cons.1 k;have c:=List.pairwise_cons.1 i;have e:x=y:=by
   rcases l7.1 ((h x).1 List.mem_cons_self)with e|g
   ·exact e
   rcases l7.1 ((h y).2 List.mem_cons_self)with e|j
   ·exact e.symm
   have:=tU (d.1 y j) (c.1 x g);rw[QK]at this;cases this
  subst e;rw[P9 a b d.2 c.2 fun z=>?_];constructor
  ·intro f;rcases l7.1 ((h z).1 (List.mem_cons_of_mem _ f))with e|g
   ·have:=d.1 z f;rw[e,QK]at this;cases this
   exact g
  intro f;rcases l7.1 ((h z).2 (List.mem_cons_of_mem _ f))with e|g
  ·have:=c.1 z f;rw[e,QK]at this;cases this
  exact g
theorem uh{a b}(h:∀t,t∈a↔t∈b):mE a=mE b :=P9 _ _ (BN a) (BN b) fun x=>by rw[KN,KN];simp_all
theorem Qk{a}(h:D5 a)(p):D5 (kA a p):=h.sublist List.filter_sublist
theorem ud:∀(p:B_) (l:List B_),D5 l->(∀x∈l,l9 x=true/\DT p x=true)->GN p l=true
 |_,[],_,_=>rfl
 |p,[x],_,h=>by
  obtain ⟨a,b⟩:=h x List.mem_cons_self;rw[GN,a,b];rfl
 |p,x::y::r,c,h=>by
  obtain ⟨a,b⟩:=h x List.mem_cons_self;have c:=List.pairwise_cons.1 c;rw[GN,a,b,c.1 y List.mem_cons_self,ud p (y::r) c.2 fun z d=>h z (List.mem_cons_of_mem _ d)];rfl
theorem xB{ids:List B_}(i:D5 ids)(hJ:∀x∈ids,l9 x=true){p:B_}(h:zK p=true)(g:ids.length<1000000):GoodP (eE ids p):=by
 have d:(kA ids p).length<=ids.length:=List.length_filter_le _ _;refine⟨h,Nat.lt_of_le_of_lt d g,CV _,fun c=>?_,fun c=>?_⟩
 ·have c:(kA ids p).length<=16:=c;have e:(eE ids p).ids=kA ids p:=by rw[eE];exact b6 c
  rw[e];exact⟨Z,ud p _ (Qk i p) fun x f=>by
   rw[kA,List.mem_filter]at f;exact⟨hJ x f.1,f.2⟩,Z⟩
 have c:16<(kA ids p).length:=c;rw[eE];exact a8 X
theorem rk(a):kA a a6=a:=List.filter_eq_self.2 fun x _=>rfl
def kB(ids:List B_):B_:=AA [iQ (eE ids a6)]
theorem HZ{a:List B_}(c:D5 a)(hJ:∀x∈a,l9 x=true)(d:a.length<1000000):yT (kB a)=[eE a a6] :=yp [eE a a6] (fun p b=>by rw[q_]at b;subst b;exact xB c hJ E_ d) (show 1<1000000 by decide)
theorem Pm(L:List (List B_))(h:∀s∈L.flatten,s.size<1000000)(hl:L.length<1000000):AX (AA L).data.toList=some (iP::aQ (L.length:Int)::L.flatten):=by
 rw[AA,cO];refine tT _ fun s a=>?_;rcases l7.1 a with rfl|a
 ·decide
 rcases l7.1 a with rfl|a
 ·have:=nP (n:=(L.length:Int)) X X;omega
 exact h s a
theorem ab(P:List m6)(h:∀p∈P,GoodP p)(e:P.length<1000000):zT (AA (P.map iQ))=[]:=by
 rw[zT,Pm _ (fun s d=>by
  obtain ⟨q,c,a⟩:=List.mem_flatten.1 d;obtain ⟨p,b,rfl⟩:=List.mem_map.1 c;exact SS (h p b) s a) (by rw[h_];exact e)]
 rfl
theorem Uv(ids:List B_)(r:GRep)(p:B_):wU ids r (eE ids p)=r:=by
 rw[wU];by_cases c:(eE ids p).cnt<=16
 ·have d:(kA ids p).length<=16:=c;have e:(eE ids p).ids=kA ids p:=by rw[eE];exact b6 d
  have g:((kA ids (eE ids p).pre).filter fun i=>!decide (i∈(eE ids p).ids))=[]:=by
   rw[e];refine List.filter_eq_nil_iff.2 fun x b=>?_;have b:x∈kA ids p:=b;rw[decide_eq_true b];decide
  have f:((eE ids p).ids.filter fun i=>!decide (i∈ids))=[]:=by
   rw[e];refine List.filter_eq_nil_iff.2 fun x b=>?_;rw[kA,List.mem_filter]at b;rw[decide_eq_true b.1];decide
  rw[b6 c,g,f];cases r;simp
 rw[a8 c,b6 ⟨Z,Z⟩]
theorem uy(a b:List B_)(h:∀t,t∈b↔t∈a)(hl:a.length<1000000):wV b (kB (mE a))=[]:=by
 have hlen:=KO a;have d:∀p∈[eE (mE a) a6],GoodP p:=fun p c=>by rw[q_]at c;subst c;exact xB (BN _) (ni _) E_ X
 have e:DQ (mE b) (kB (mE a))=⟨[],[],[]⟩:=by
  rw[DQ,HZ (BN _) (ni _) X,show zT (kB (mE a))=[]from ab [eE (mE a) a6] d (show 1<1000000 by decide),uh h];exact Uv _ _ _
 rw[wV,e];rfl
theorem cz(y:t∈l)(hi:yQ t=some i)(v:∀u∈l,yQ u=some i->u=t):nL (nH l) i=t:=by
 have r:∀p∈nH l,yQ p.2=some p.1/\p.2∈l:=by
  have h:∀(k:List B_) (a:List (B_×B_)),(∀x∈k,x∈l)->(∀p∈a,yQ p.2=some p.1/\p.2∈l)->∀p∈k.foldl lA a,yQ p.2=some p.1/\p.2∈l:=by
   intro k
   induction k with
   |nil=>exact fun a _ h=>h
   | cons s k z =>
    intro a n f;rw[List.foldl_cons];refine z _ (fun x d=>n x (List.mem_cons_of_mem _ d)) ?_;rw[lA];cases e:yQ s with
    |none=>exact f
    |some j =>
     simp only
     split
     ·exact f
     intro p b;rcases List.mem_append.1 b with b|b
     ·exact f p b
     rw[q_]at b;subst b;exact⟨e,n s List.mem_cons_self⟩
  exact h l [] (fun x d=>d) (fun p b=>by cases b)
 obtain ⟨p,b,c⟩:=List.mem_map.1 ((tb l i).2 ⟨t,y,hi⟩);rw[nL];cases g:(nH l).find? fun p=>decide (p.1=i)with
 |none =>
  have:=List.find?_eq_none.1 g p b;rw[c]at this;exact absurd H_ this
 |some q =>
  have m:=List.find?_some g;rw[k_]at m;obtain ⟨o,w⟩:=r q (List.mem_of_find?_eq_some g);rw[m]at o;exact v q.2 w o
theorem LP(a:List B_):∀(l s:List B_),(∀i∈s,i∈a)->∀i∈l.foldl (mH a) s,i∈a
 | [],s,h,i,c=>h i c
 | j::l,s,h,i,c=>by
  rw[List.foldl_cons]at c;refine LP a l _ (fun x b=>?_) i c;rw[mH]at b
  split at b
  ·next d =>
   rw[j0]at d;rcases List.mem_append.1 b with b|b
   ·exact h x b
   rw[q_]at b;subst b;exact b9 d.1
  exact h x b
theorem Qo(a:List B_)(t:B_):∀i∈(DQ a t).sent,i∈a:=by
 have h:∀(P:List m6) (r:GRep),(∀i∈r.sent,i∈a)->∀i∈(P.foldl (wU a) r).sent,i∈a:=by
  intro P
  induction P with
  |nil=>exact fun r h=>h
  |cons p P e =>
   intro r c;rw[List.foldl_cons];refine e _ ?_;rw[wU]
   split
   ·exact LP a _ _ c
   split
   ·exact c
   split<;>exact c
 exact h _ _ (LP a _ _ fun i d=>by cases d)
theorem Rz{a b:List B_}(t:B_)(h:∀x,x∈a↔x∈b)(g:∀x∈a,∀y∈a,∀i,yQ x=some i->yQ y=some i->x=y):wV a t=wV b t:=by rw[wV,wV,uh h];congr 1;refine List.map_congr_left fun i j=>?_;obtain ⟨x,f,c⟩:=(KN b i).1 (Qo _ t i j);rw[cz ((h x).2 f) c fun u e d=>g u e x ((h x).2 f) i d c,cz f c fun u e d=>g u ((h u).2 e) x ((h x).2 f) i d c]
theorem Jm(s:B_)(H:aF):RC 193 [sv s] (bv false) H:=by
 refine Pu<|Bd func193 Z ntmps193<|Sz U<|C V<|Y V<|Y GU<|O U<|aC<|Rt ?_
 simp_all
theorem M8(l:List B_)(s:B_)(H:aF)(hl:l.length<2^40)(D:D5 l):RC 135 [.pv (aK l),sv s] (.tup [iv (dw id l s:Nat),bv (eo id l s)]) H:=by
 refine Pu ?_;have B:(l.map S_).length=l.length:=h_ _;refine Bd func135 Z ntmps135<|C U<|O U<|C V<|Y (fV mA)<|O U<|C V<|Y U<|O U<|S<|aD<|fR (fun(i j:Nat)=>([(0,.pv (aK l)),(1,sv s),(6,iv ((l.map S_).length:Int)),(7,iv (i:Int)),(8,iv (j:Int))],[])) (fun i j=>i<=j/\j<=l.length/\(∀k,k<i->∀o,l[k]?=some o->lY (id o) s=true)/\∀k,j<=k->∀o,l[k]?=some o->lY (id o) s=false) (fun i j=>j - i) 0 l.length ⟨X,X,X,fun k hk o ho=>?_⟩ ?_ ?_
 ·have:=(m_.1 ho).1;omega
 ·rw[<-B];exact E0
 rintro i j ⟨hij,G,hlo,t⟩;refine S<|C V<|Y V<|O cM<|Cn ?_ ?_<;>intro v
 ·have n:i<j:=I_ v
  obtain ⟨I,c_⟩:=Uc n;obtain ⟨m,F⟩:∃m,m=(i+j) / 2:=X_;rw[<-F]at I c_;obtain ⟨o,ho⟩:=aU (l:=l) (k:=m) X;have w:=cC (f:=S_) ho;have K:IntKind.u64.wrap ((i:Int)+(j:Int))=((i+j:Nat):Int):=by rw[IntKind.wrap_u64];omega
  have E:IntKind.i64.wrap (((i+j:Nat):Int) / 2)=(m:Int):=by rw[IntKind.wrap_i64];omega
  refine aA<|aD<|C V<|Y V<|Y gT<|Y (eP Z underlying3 kW Z K)<|Y (by exact FZ Z Z Z X (by simp[IntKind.bits];try omega) Z)<|Y (eP Z kW underlying3 Z E)<|O U<|C V<|Y V<|Y (iM QI)<|Y (fY N_ (hi:=w))<|Y V<|O (kc call186 (tn _ _ _)) ?_;refine Cn ?_ ?_<;>intro u
  ·have y:lY o s=true:=u;refine Rd V<|Y gT<|Da ?_;refine⟨m+1,j,⟨X,X,fun k hk x p=>?_,t⟩,X,E0⟩;by_cases e:k=m
   ·subst e;rw[ho]at p;cases p;exact y
   exact tU (PI (f:=id) D X p ho) y
  have y:lY o s=false:=u;refine Rd V<|Da ?_;refine⟨i,m,⟨X,X,hlo,fun k hk x p=>?_⟩,X,E0⟩;by_cases e:k=m
  ·subst e;rw[ho]at p;cases p;exact y
  cases h:lY (id x) s with
  |false=>rfl
  |true =>
   have:=tU (PI (f:=id) D X ho p) h;rw[show lY (id o) s=lY o s from Z,y]at this;cases this
 have d_:i=j:=J_ v
 subst d_;have z:dw id l s=i:=aAR G hlo (fun o ho=>t i (j6 _) o ho);by_cases n:i<l.length
 ·obtain ⟨o,ho⟩:=aU n;have w:=cC (f:=S_) ho;have hlt2:decide ((i:Int)<((l.map S_).length:Int))=true:=decide_eq_true X;have hk:=Ub D hlo ho (t i (j6 _) o ho);have hk:eo id l s=decide (o=s):=hk;rw[z,hk];by_cases A:o=s
  ·rw[decide_eq_true A];have q:AV.pv (.bool (decide (o=s)))=bv true:=by rw[decide_eq_true A]
   refine aP<|C V<|Y V<|Y V<|Y (cL.eqv (iA Z Z Z) (by rw[hlt2]))<|Y V<|J V<|J V<|J (iM QI)<|J (fY N_ (hi:=w))<|J V<|J (cL.eqv (EC Z Z Z) q)<|J V<|M<|M<|M<|M<|M<|M<|qR Z Z Z rfl<|qR Z Z Z Z ?_;exact M<|J cE<|Y cE<|Y U<|O U<|aC<|Ru<|Qq
  rw[decide_eq_false A];have q:AV.pv (.bool (decide (o=s)))=bv false:=by rw[decide_eq_false A]
  exact aP<|C V<|Y V<|Y V<|Y (cL.eqv (iA Z Z Z) (by rw[hlt2]))<|Y V<|J V<|J V<|J (iM QI)<|J (fY N_ (hi:=w))<|J V<|J (cL.eqv (EC Z Z Z) q)<|J V<|J V<|J V<|J (iM QI)<|J (fY N_ (hi:=w))<|J (kc call193 (Jm _ _))<|J V<|M<|M<|J cE<|J cE<|Y cE<|Y U<|O U<|aC<|Ru<|Qq
 have hlt2:AV.pv (.bool (decide ((i:Int)<((l.map S_).length:Int))))=bv false:=by rw[decide_eq_false X]
 have hk:=zf (fun k hk o ho=>hlo k X o ho);rw[z,hk];refine aP<|C V<|Y V<|Y V<|Y (cL.eqv (iA Z Z Z) hlt2)<|Y V<|M<|M<|M<|M<|M<|M<|M<|qR Z Z Z rfl<|qR Z Z Z rfl<|qR Z Z Z rfl<|qR Z Z Z rfl<|qR Z Z Z rfl<|qR Z Z Z rfl<|qR Z Z Z rfl<|qR Z Z Z rfl<|qR Z Z Z Z ?_;exact M<|Y cE<|Y U<|O U<|aC<|Ru<|Qq
theorem Tz(l)(s):eo id l s=decide (s∈l):=by
 rw[eo,Bool.eq_iff_iff,List.any_eq_true]
 simp_all
theorem Ka(l:List B_)(s:B_)(H:aF)(c:l.length<2^40)(b:D5 l):RC 92 [.pv (aK l),sv s] (bv (decide (s∈l))) H:=by refine Pu ?_;rw[<-Tz];exact Bd func92 Z ntmps92<|Sz U<|C V<|Y V<|Y (kc aEX (M8 l s _ c b))<|Y V<|Y dH<|Y dH<|Y U<|O U<|C V<|O U<|aC<|Rt<|Qq
theorem Jb(p q:B_):dw id l p<=dw id l (p++q):=by
 rw[dw,dw]
 induction l with
 |nil=>simp_all
 | cons x l a =>
  rw[List.findIdx_cons,List.findIdx_cons];cases h:lY (id x) p with
  |true =>
   rw[ra (id x) p q h];exact Nat.succ_le_succ a
  |false=>exact l6 _
theorem ah(l:List B_)(p:B_)(H:aF)(f:l.length<2^40)(d:D5 l)(hJ:∀x∈l,l9 x=true)(hp:p.size<2^40):RC 80 [.pv (aK l),sv p] (.pv (aK (kA l p))) H:=by
 refine Pu ?_;have h1:=Jc id l p;have h2:=Jc id l (p++sG);have j:=Jb (l:=l) p sG;have hml:(l.map S_).length=l.length:=h_ _;have g:=Di l p d hJ;have i:((l.map S_).take (dw id l (p++sG))).drop (dw id l p)=(kA l p).map S_:=by rw[<-g,List.map_drop,List.map_take]
 have h:=fun H=>M8 l p H f d;have e:=fun H=>M8 l (p++sG) H f d;generalize dw id l p=a at *;generalize dw id l (p++sG)=b at *;exact Bd func80 Z ntmps80<|Sz U<|C V<|Y V<|Y (kc aEX (h _))<|Y V<|Y dH<|Y dH<|Y U<|O U<|C V<|Y V<|Y (by exact eW Z Z Z (by show p.size+1<=9223372036854775807;omega) (r:=p++sG) Z)<|Y (kc aEX (e _))<|Y V<|Y dH<|Y dH<|Y U<|O U<|C V<|Y V<|Y V<|Y (fD (l:=a) (h:=b) Z QI Z (fE l) Z Z j X i)<|O U<|aC<|Rt<|Qq
theorem Ee(L:List B_)(h:∀s∈L,s.size<1000000):AX (b7 (aM (pU::L))).data.toList=some (pU::L):=by
 rw[cO];exact tT _ fun s a=>by
  rcases l7.1 a with rfl|a
  ·decide
  exact h s a
theorem yo(L:List B_)(h:∀s∈L,s.size<1000000):yT (pT (L.map fun s=>[s]))=[]:=by
 have e:(L.map fun s=>[s]).flatten=L:=by clear h;induction L with|nil=>rfl|cons a L b=>rw[List.map_cons,List.flatten_cons,b];rfl
 rw[yT,pT,e,Ee L h];cases L with
 |nil=>rfl
 |cons a L =>
  show (if pU=iP then _ else[])=[];rw[a8 E_]
theorem VA(h:yQ t=some i):∃r:j7,t=b7 (aM (jI r))/\t.size<=20000:=by
 rw[yQ]at h
 split at h
 ·next d =>
  have a:=JV d;rw[mG]at a
  split at a
  ·split at a
   ·exact absurd (congrArg Prod.snd a) (by show ¬ ((2:Int)=0);decide)
   next hl =>
   have b:=congrArg Prod.fst a;rw[gB]at b;have b:b7 (aM (jI (dQ t.data.toList).1))=t:=b;refine⟨(dQ t.data.toList).1,b.symm,?_⟩;have c:=congrArg ByteArray.size b;rw[cB]at c;omega
  exact absurd (congrArg Prod.snd a) (by show ¬ ((1:Int)=0);decide)
 cases h
theorem NU:∀ {L:List B_} {x:B_},x∈L->x.size<=(aM L).length
 | [],x,h=>by cases h
 |a::L,x,h=>by
  rw[gZ,j9,j8,j9,aT];rcases l7.1 h with rfl|h
  ·omega
  have:=NU h;omega
theorem Qr(h:yQ t=some i):yT t=[]/\zT t=[]:=by
 obtain ⟨r,rfl,d⟩:=VA h;rw[cB]at d;have b:=tT (jI r) (fun s c=>by have:=NU c;omega);obtain ⟨R,e⟩:∃R,jI r=GK::R:=⟨_,rfl⟩;rw[e]at b |-;constructor
 ·rw[yT,cO,b];cases R with
  |nil=>rfl
  |cons a R =>
   show (if GK=iP then _ else[])=[];rw[a8 E_]
 rw[zT,cO,b];cases R with
 |nil=>rfl
 |cons a R =>
  show (if GK=pU/\_ then _ else[])=[];rw[a8 fun h=>absurd h.1 E_]
theorem Tw{P:List m6}(h:yT (AA (P.map iQ))=P)(hne:P≠[]):yQ (AA (P.map iQ))=none:=by
 cases e:yQ (AA (P.map iQ))with
 |none=>rfl
 |some i=>rw[(Qr e).1]at h;simp_all
theorem Lo(p x):DT p x=true↔p.data.toList <+: x.data.toList:=by rw[DT,List.isPrefixOf_iff_prefix]
theorem Ty:∀d∈MT,d.size=1/\d.data.toList.all GO=true:=by decide +kernel
structure IdS(A_:List B_):Prop where
 srt:D5 A_
 dig:∀x∈A_,l9 x=true
 len:A_.length<1000000
theorem Jq{l}(h:l.length<1000000):IdS (mE l):=⟨BN l,ni l,Nat.lt_of_le_of_lt (KO l) h⟩
theorem aBt{A_}{q}(h:(kA A_ q).length<=16):(eE A_ q).ids=kA A_ q:=b6 h
theorem rl{A_}{q x}:x∈kA A_ q↔x∈A_/\DT q x=true:=List.mem_filter
theorem xU:∀(L),(∀s∈L,s.size<=16)->(aM L).length<=19*L.length
 | [],_=>j6 _
 |x::L,h=>by
  have h1:=h x List.mem_cons_self;have h2:=xU L fun s b=>h s (List.mem_cons_of_mem _ b);have h3:(decDigits x.size).length<=2:=cU (k:=2) X E_;rw[gZ,j9,j8,j9,aT,j8];omega
theorem fa(h:GoodP p):∀s∈iQ p,s.size<=16:=by
 intro s a;rw[iQ,List.mem_append]at a;rcases a with a|a
 ·simp only[l7,n_,or_false]at a;rcases a with rfl|rfl|rfl
  ·have:=h.pre;rw[zK,j0,k_]at this;exact this.1
  ·rw[F8,cB];exact Nat.le_trans (cU (k:=6) h.cnt E_) E_
  exact Nat.le_of_eq (kS h.sum)
 by_cases b:p.cnt<=16
 ·exact Nat.le_of_eq (kS ((KM (h.sml b).2.1 s a).1))
 rw[h.big X]at a;cases a
theorem uw(h:GoodP p):(iQ p).length<=19:=by
 rw[iQ,j9];have:p.ids.length<=16:=by
  by_cases a:p.cnt<=16
  ·have:=(h.sml a).1;omega
  rw[h.big X];simp_all
 simp only[j8,List.length_nil];omega
theorem Si(h:GoodP p):(AA [iQ p]).size<=20000:=by
 rw[AA,cB];refine Nat.le_trans (xU _ fun s a=>?_) ?_
 ·rcases l7.1 a with rfl|a
  ·decide
  rcases l7.1 a with rfl|a
  ·exact(by decide +kernel:(aQ ((1:Nat):Int)).size<=16)
  rw[List.flatten_cons,List.flatten_nil,List.append_nil]at a;exact fa h s a
 rw[j8,j8,List.flatten_cons,List.flatten_nil,List.append_nil];have:=uw h;omega
theorem Cy(h:l9 s=true):(pT [[s]]).size<=20000:=by
 refine Nat.le_trans (xU _ fun x a=>?_) H_;rcases l7.1 a with rfl|a
 ·decide
 have:x=s:=by simpa using a
 rw[this,kS h];decide
theorem Ft{y_}{L}(b:∀s∈L,l9 s=true)(a:L≠[]):DQ y_ (pT (L.map fun s=>[s]))=⟨L.foldl (mH y_) [],[],[]⟩:=by rw[DQ,yo L fun s c=>by have:=kS (b s c);omega,je L b a];rfl
def dA(p:m6):List PV:=[.str p.pre,.str p.sum,.int .i64 (p.cnt:Int),aK p.ids]
def CE(P:List m6):PV:=.sl (P.map dA)
theorem JI(p:m6)(H:aF):RC 82 [av (dA p)] (bv (decide ((p.cnt:Int)<=16))) H:=by refine aS.pure ?_ F_ H;exact Bd func82 Z ntmps82<|C (kb 1)<|O U<|C (bD EX)<|Y (bS M_)<|Y IA<|O U<|aC<|Rt<|Qq
theorem na{A_}(hJ:∀x∈A_,l9 x=true):(aM A_).length<=19*A_.length:=xU A_ fun s a=>Nat.le_of_eq (kS (hJ s a))
theorem cp(l:List B_)(p:B_)(H:aF)(hS:IdS l)(s:p.size<2^40):RC 35 [.pv (aK l),sv p] (av (dA (eE l p))) H:=by
 refine Pu ?_;have hlen:=hS.len;have i:=fun H=>ah l p H X hS.srt hS.dig s;have k:(kA l p).length<=l.length:=List.length_filter_le _ _;have n:=na (A_:=kA l p) fun x t=>hS.dig x (rl.1 t).1;have f:=fun H=>Y0 (kA l p) H X;have d:(kA l p).length<=16->eE l p=⟨p,(kA l p).length,C6 (kA l p),kA l p⟩:=fun h=>by rw[eE,b6 h]
 have e:¬ (kA l p).length<=16->eE l p=⟨p,(kA l p).length,C6 (kA l p),[]⟩:=fun h=>by rw[eE,a8 h]
 obtain ⟨R,o⟩:∃R,R=kA l p:=X_;obtain ⟨Q,q⟩:∃Q,Q=eE l p:=X_;rw[<-o]at i f d e k;rw[<-q]at d e |-;clear o q n;have j:(R.map S_).length=R.length:=h_ _;have m:=fun H=>JI ⟨p,R.length,C6 R,[]⟩ H;refine Bd func35 Z ntmps35<|Sz (kl 4 Cd)<|C V<|Y V<|Y (kc call80 (i _))<|O U<|C V<|Y V<|Y (kc Nq (f _))<|Y V<|Y (cL.eqv (kR Z mA Z) (show iv ((R.map S_).length:Int)=iv (R.length:Int)by rw[j]))<|Y (oO aCr)<|Y (kl 6 Cd)<|Uu (iU dU)<|Zz<|S<|C (by exact aW Z iG dU Z Z Z Z (by simp only[Zl,S_,dA];rfl) Z)<|O (kc LF (m _)) ?_;refine Cn ?_ ?_<;>intro g
 ·have c:R.length<=16:=by have:=b9 g;simp only at this;omega
  rw[d c];refine Rd V<|Y (bD EW)<|Uu (ku sizeOf68)<|Zz<|C (by exact aW Z iG dU Z Z Z Z (by simp only[Zl,S_,dA];rfl) Z)<|Uu (iU dU)<|Zz<|aC ?_;refine cR (H':=[]) (.inr Z) Z (eV Z iG dU Z Z Z (by simp only[Zl,S_,dA];rfl) Z) (P_ (r:=av (dA ⟨p,R.length,C6 R,R⟩))) ?_;exact Qq
 have c:¬ R.length<=16:=by have:=b_ g;simp only at this;omega
 rw[e c];refine aA<|C (by exact aW Z iG dU Z Z Z Z (by simp only[Zl,S_,dA];rfl) Z)<|Uu (iU dU)<|Zz<|aC ?_;refine cR (H':=[]) (.inr Z) Z (eV Z iG dU Z Z Z (by simp only[Zl,S_,dA];rfl) Z) (P_ (r:=av (dA ⟨p,R.length,C6 R,[]⟩))) ?_;exact Qq
theorem M0(p:m6)(H:aF)(hc:p.cnt<2^40)(hl:p.ids.length<2^40):RC 36 [av (dA p)] (.pv (aK (iQ p))) H:=by
 refine aS.pure ?_ F_ H;have d:(p.ids.map S_).length=p.ids.length:=h_ _;have e:3+p.ids.length=(iQ p).length:=by rw[iQ,j9];rfl
 refine Bd func36 Z ntmps36<|C (kb 1)<|O U<|S<|aN a7<|Cr [1] (fun _ h=>fh MY h)<|Cr [1] (fun _ h=>lh N_ h)<|Cr [1] (fun _ h=>fh EX h)<|Cr [1] (fun _ h=>lh M_ h)<|Cr [] (fun f c=>by exact bF Z Z lM Z (pL (p.cnt:Int) X X _))<|Cr [1] (fun _ h=>fh SR h)<|Cr [1] (fun _ h=>lh N_ h)<|Cp [905] (fun f c=>by exact gH (id:=905) Z bH Z Z Z Z (by intro r g;simp only[l7,n_,or_false]at g;rcases g with rfl|rfl|rfl<;>rfl) ((c _ Z).trans Z))<|Cr [1] (fun _ h=>fh EW h)<|Cr [1] (fun _ h=>lh jR h)<|Cp [905] (fun f c=>by exact UP (ob:=⟨0,1,9,bZ [p.pre,aQ (p.cnt:Int),p.sum]⟩) (k:=(iQ p).length) Z mA bH xE Z ((c _ Z).trans Z) Z Z Z Z Z (fE _) d X e (gU _ _)) ?_;refine Cr [905] (fun _ _=>U)<|bJ<|Kr<|aC ?_;refine cR (H':=[]) (.inr Z) Z (aJ Z) (Fin.fz (id:=905) (ob:=⟨1,1,9,bZ (iQ p)⟩) ((iQ p).map S_) Z (eC _) (.osl (iH S_ _)) Z T_ T_) ?_;exact Qq
theorem CU:∀(L:List B_),(∀s∈L,s.size<=1000000)->(aM L).length<=1000022*L.length
 | [],_=>j6 _
 |x::L,h=>by
  have h1:=h x List.mem_cons_self;have h2:=CU L fun s b=>h s (List.mem_cons_of_mem _ b);have h3:(decDigits x.size).length<=7:=cU (k:=7) X E_;rw[gZ,j9,j8,j9,aT,j8];omega
theorem pP(L:List (List B_)):∀r∈L.map q7,r.length=1:=fun r a=>by
 obtain ⟨t,_,rfl⟩:=List.mem_map.1 a;rfl
theorem td(L:List (List B_))(H:aF)(i:L.length<2^40)(hb:L.flatten.length<549755813888)(h:(aM (iP::aQ (L.length:Int)::L.flatten)).length<35184372088832):
  RC 34 [.pv (sL L)] (sv (AA L)) H:=by
 refine Pu ?_;have f:(L.map q7).length=L.length:=h_ _;have d:=fun H=>kO L H i X;have g:([[iP,aQ (L.length:Int)],L.flatten]:List (List B_)).flatten=iP::aQ (L.length:Int)::L.flatten:=H_
 have c:=fun H=>kO [[iP,aQ (L.length:Int)],L.flatten] H (by decide:2<2^40) G_;rw[g]at c;exact Bd func34 Z ntmps34<|Sz U<|C V<|Y (cL.eqv (kR Z tH Z) (show iv ((L.map q7).length:Int)=iv (L.length:Int)by rw[f]))<|Y (kc lM (pL (L.length:Int) X X _))<|Y (aL ([iP,aQ (L.length:Int)].map S_) Z bH Z Z Z Z Z (fE _))<|Y V<|Y (kc LG (d _))<|Y (aL ([[iP,aQ (L.length:Int)],L.flatten].map q7) Z GH Z Z Z Z Z (pP _))<|Y (kc LG (c _))<|Y (kc call78 (WE _ _ h))<|O U<|aC<|Rt<|Qq
theorem Xn(L:List (List B_))(H:aF)(e:L.length<2^40)(hb:L.flatten.length<549755813888)(f:(aM (pU::L.flatten)).length<35184372088832):
  RC 49 [.pv (sL L)] (sv (pT L)) H:=by
 refine Pu ?_;have c:=fun H=>kO L H e X;have g:([[pU],L.flatten]:List (List B_)).flatten=pU::L.flatten:=H_
 have b:=fun H=>kO [[pU],L.flatten] H (by decide:2<2^40) G_;rw[g]at b;exact Bd func49 Z ntmps49<|Sz U<|C (aL ([pU].map S_) Z bH Z Z Z Z Z (fE _))<|Y V<|Y (kc LG (c _))<|Y (aL ([[pU],L.flatten].map q7) Z GH Z Z Z Z Z (pP _))<|Y (kc LG (b _))<|Y (kc call78 (WE _ _ f))<|O U<|aC<|Rt<|Qq
theorem Lq(p x:B_):DT p x=(decide ((p.size:Int)<=(x.size:Int))&&decide (x.extract 0 p.size=p)):=by
 rw[Bool.eq_iff_iff,Lo,j0,k_,k_];constructor
 ·intro h;have a:=h.length_le;rw[aT,aT]at a;refine⟨X,oK ?_⟩;obtain ⟨t,b⟩:=h;rw[gS,List.drop_zero,<-b,Nat.sub_zero,<-aT p,List.take_left]
 rintro⟨h1,c⟩;rw[<-c,gS,List.drop_zero];exact List.take_prefix _ _
theorem jt(x p:B_)(H:aF):RC 197 [sv x,sv p] (bv (DT p x)) H:=by
 refine Pu ?_;have hb:=Lq p x;refine Bd func197 Z ntmps197<|Sz U<|S<|aR (t:=4) (n:=15) (A_:=DT p x) ?_ ?_
 ·all_goals refine Y V<|Y (gM U_)<|Y V<|Y (gM U_)<|Y B0<|Dm ?_<;>(refine Sp 10 (fun b=>?_) fun b=>?_)<;>(first|contradiction|refine M<|M<|M<|M<|M<|M ?_|refine J V<|J V<|J (gM U_)<|J (bT (l:=0) (h:=p.size) Z U_ Z Z Z (l6 _) (I_ b) Z)<|J V<|J wF ?_)<;>refine Y cE<|Da ?_<;>(exact⟨⟨_,Z,G_⟩,Z,Z,Z⟩)
 exact aC<|Rt<|Qq
theorem el(x p:B_)(H:aF):RC 139 [sv x,sv p] (bv (DT p x)) H:=by refine Pu ?_;exact Bd func139 Z ntmps139<|Sz U<|C V<|Y V<|Y (kc call197 (jt _ _ _))<|O U<|aC<|Rt<|Qq
theorem nc(s:B_)(H:aF)(e:s.size<2^40):RC 90 [sv s] (bv (zK s)) H:=by
 refine Pu ?_;have b:=fun H=>qm s e H;have d:=aj s.data.toList;obtain ⟨t,c⟩:∃t,t=Lib.trimS s.data.toList vr.data.toList:=X_;rw[<-c]at b d;have hb:zK s=(decide ((s.size:Int)<=16)&&decide ((⟨t.toArray⟩:B_)=a6)):=by
  rw[zK]
  grind
 clear c d;refine Bd func90 Z ntmps90<|Sz U<|S<|aR (t:=2) (n:=10) (A_:=zK s) ?_ ?_
 ·all_goals refine Y V<|Y (gM U_)<|Y IA<|Dm ?_<;>(refine Sp 6 (fun f=>?_) fun f=>?_)<;>(first|contradiction|refine M<|M<|M ?_|refine J V<|J (kc call74 (b _))<|J wF ?_)<;>refine Y cE<|Da ?_<;>exact Gj (h:=by simp_all)
 exact aC<|Rt<|Qq
theorem eg(p:B_):∀(l:List B_),GN p l=true↔∀(k:Nat) (x:B_),l[k]?=some x->(l9 x=true/\DT p x=true)/\∀(j:Nat) (y:B_),k=j+1->l[j]?=some y->lY y x=true
 | []=>⟨fun _ k x h=>by grind,fun _=>rfl⟩
 | [a]=>by
  rw[GN,j0];constructor
  ·intro h k x c;cases k with
   |zero=>cases c;exact⟨h,fun j y e=>by omega⟩
   |succ k=>simp at c
  exact fun h=>(h 0 a Z).1
 | a::b::r=>by
  rw[GN,j0,j0,j0,eg p (b::r)];constructor
  ·rintro⟨⟨i,n⟩,m⟩ k x c;cases k with
   |zero=>cases c;exact⟨i,fun j y e=>by omega⟩
   |succ k =>
    obtain ⟨g,f⟩:=m k x c;refine⟨g,fun j y e d=>?_⟩;obtain rfl:k=j:=X
    cases k with
    |zero=>cases c;cases d;exact n
    |succ k=>exact f k y Z d
  intro h;refine⟨⟨(h 0 a Z).1,(h 1 b Z).2 0 a Z Z⟩,fun k x c=>?_⟩;obtain ⟨g,f⟩:=h (k+1) x c;exact⟨g,fun j y e d=>f (j+1) y X d⟩
def D7(p:m6):Bool:=GN p.pre p.ids&&(!decide ((p.cnt:Int)<=16)||decide (C6 p.ids=p.sum))
theorem Qn(p:m6)(H:aF)(hl:p.ids.length<1000000)(R:∀s∈p.ids,s.size<1000000):RC 91 [av (dA p)] (bv (D7 p)) H:=by
 refine aS.pure ?_ (by simp[dA]) H;have hml:(p.ids.map S_).length=p.ids.length:=h_ _;have D:=fun H=>JI p H;have hin:=eg p.pre p.ids;rw[D7];obtain ⟨I,v_⟩:∃I,I=GN p.pre p.ids:=X_;rw[<-v_]at hin |-;clear v_;have o_:(aM p.ids).length<35184372088832:=by
  have h:=CU p.ids fun s P=>Nat.le_of_lt (R s P);have:1000022*p.ids.length<=1000022*1000000:=Nat.mul_le_mul_left _ X;omega
 have L:=fun H=>Y0 p.ids H o_;refine Bd func91 Z ntmps91<|C (kb 1)<|O U<|S<|C (bD EW)<|Y (bS jR)<|Y (fV mA)<|O V<|aD<|bC (σ:=Nat) (fun k=>([(1,.ref 1 0 0 0),(6,.pv (aK p.ids)),(7,iv ((p.ids.map S_).length:Int)),(8,iv (k:Int))],[(1,bx 4 70 ((dA p).map .pv))])) (fun k=>k<=p.ids.length/\∀j x,j<k->p.ids[j]?=some x->(l9 x=true/\DT p.pre x=true)/\∀(i:Nat) (y:B_),j=i+1->p.ids[i]?=some y->lY y x=true) (fun k=>p.ids.length - k) 0 ⟨l6 _,fun j x h=>by omega⟩ ?_ ?_
 ·exact Wk
 rintro k ⟨hk,hall⟩;refine Sz cM<|S<|Cn ?_ ?_<;>intro B
 ·have Q:k<p.ids.length:=I_ B
  obtain ⟨x,hx⟩:=aU Q;have hi:=cC (f:=S_) hx;have hxs:=R x (m7 hx);obtain ⟨y,y_⟩:∃y,y=p.ids.getD (k - 1) a6:=X_;have hyg:(0:Int)<(k:Int)->p.ids[k - 1]?=some y:=fun h=>by
   obtain ⟨z,t⟩:=aU (l:=p.ids) (k:=k - 1) X;rw[y_,List.getD_eq_getElem?_getD,t];rfl
  have d_:=fun h=>cC (f:=S_) (hyg h);have w:=fun H=>WI x X H;have F:=fun H=>el x p.pre H;obtain ⟨a,c_⟩:∃a,a=l9 x:=X_;obtain ⟨b,G⟩:∃b,b=DT p.pre x:=X_;have v:((!a||!b)||(decide ((0:Int)<(k:Int))&&!lY y x))=false->(l9 x=true/\DT p.pre x=true)/\∀(i:Nat) (z:B_),k=i+1->p.ids[i]?=some z->lY z x=true:=fun h=>by
   rw[q9,q9,Bool.not_eq_false',Bool.not_eq_false',c_,G]at h;refine⟨h.1,fun i z e t=>?_⟩;have e_:(0:Int)<(k:Int):=X
   have T:=h.2;rw[decide_eq_true e_,Bool.true_and,Bool.not_eq_false']at T;have:=hyg e_;rw[show k - 1=i by omega,t]at this;cases this;exact T
  have E:((!a||!b)||(decide ((0:Int)<(k:Int))&&!lY y x))=true->I=false:=fun h=>by
   cases K:I with
   |false=>rfl
   |true =>
    obtain ⟨⟨f_,u_⟩,z_⟩:=hin.1 K k x hx;rw[<-c_]at f_;rw[<-G]at u_;rw[f_,u_,Bool.not_true,Bool.or_false,Bool.false_or,j0,k_,r8]at h;have:=z_ (k - 1) y X (hyg h.1);rw[h.2]at this;cases this
  obtain ⟨A_,W⟩:∃A_,A_=((!a||!b)||(decide ((0:Int)<(k:Int))&&!lY y x)):=X_;rw[<-W]at v E;rw[<-c_]at w;rw[<-G]at F;clear c_ G;refine aA<|S<|aD<|C V<|Y (iM QI)<|Y (fY N_ (hi:=hi))<|Y U<|O U<|S<|aR (t:=36) (n:=27) (A_:=A_) ?_ ?_
  ·all_goals refine Y V<|Y (kc LH (w _))<|Y iT<|Dm ?_<;>(refine Sp 16 (fun h16=>?_) fun h16=>?_)<;>(try(with_reducible contradiction))<;>(first|refine M<|M<|M<|M<|M ?_|refine J V<|J (bD MY)<|J (bS N_)<|J (kc call139 (F _))<|J iT ?_)<;>refine Y cE<|Dm ?_<;>(refine Sp 23 (fun h23=>?_) fun h23=>?_)<;>(try(with_reducible contradiction))<;>(first|refine M<|M<|M ?_|refine J V<|J iY<|J V ?_)<;>(first|refine Sp 26 (fun h26=>?_) fun h26=>?_|refine kI (t:=26) Z ?_)<;>(try(with_reducible contradiction))<;>(first|refine M ?_|refine Fu ?_|refine J (bD EW) ?_)<;>(first|refine M ?_|refine Fu ?_|refine J (bS jR) ?_)<;>(first|refine M ?_|refine Fu ?_|refine J V ?_)<;>(first|refine M ?_|refine Fu ?_|refine J (by exact dP Z Z Z (show IntKind.i64.wrap ((k:Int) - 1)=((k - 1:Nat):Int)by have e_:=b9 h26;rw[qD X X];omega)) ?_)<;>(first|refine M ?_|refine Fu ?_|refine J (bU Z QI Z Z X (l8 _) (d_ (b9 h26)) Z) ?_)<;>(first|refine M ?_|refine Fu ?_|refine J (fO Z N_ Z (d_ (b9 h26)) Z) ?_)<;>(first|refine M ?_|refine Fu ?_|refine J V ?_)<;>(first|refine M ?_|refine Fu ?_|refine J (RP Z Z Z) ?_)<;>(first|refine M ?_|refine J cE ?_)<;>refine O cE ?_<;>exact Gj (h:=by rw[W];first|(rw[h16];rfl)|(rw[h16,h23];rfl)|(rw[h16,h23,h26];rfl))
  refine Cn ?_ ?_<;>intro u
  ·rw[E u];exact Sz U<|aC<|Rt<|Qq
  have A:=v u;refine aA<|Rd gT<|O V ?_;refine⟨k+1,⟨X,fun j z hj t=>?_⟩,X,Wk⟩;by_cases e:j=k
  ·subst e;rw[hx]at t;cases t;exact A
  exact hall j z X t
 have hge:k=p.ids.length:=J_ B
 have N:I=true:=hin.2 fun j x hx=>hall j x (by have:=(m_.1 hx).1;omega) hx;rw[N,Bool.true_and];refine aP<|S<|rF (t:=2) (n:=12) (A_:=(!decide ((p.cnt:Int)<=16)||decide (C6 p.ids=p.sum))) ?_ ?_
 ·cases hg41:(!decide ((p.cnt:Int)<=16):Bool)
  ·refine aN a7<|Cq (by exact aW Z iG dU Z Z Z Z (by simp only[Zl,S_,dA];rfl) Z)<|Cq (kc LF (D _))<|Cq iT<|Cq V<|Nf (bD EW)<|Nf (bS jR)<|Nf (kc Nq (L _))<|Nf (bD SR)<|Nf (bS N_)<|Nf wF<|Cq vP<|Cq U<|bJ<|Kr ?_;exact⟨Z,⟨_,Z,by rfl⟩,Z,Z,Z⟩
  refine aN a7<|Cq (by exact aW Z iG dU Z Z Z Z (by simp only[Zl,S_,dA];rfl) Z)<|Cq (kc LF (D _))<|Cq iT<|Cq V<|Of<|Of<|Of<|Of<|Of<|Of<|Cq CK<|Cq U<|bJ<|Kr ?_;exact⟨Z,⟨_,Z,by rfl⟩,Z,Z,Z⟩
 exact aC<|Rt<|Qq
theorem vy(t:B_)(b:t.size<2^40)(H:aF):RC 88 [sv t] (bv (oddJ t)) H:=by refine Pu ?_;exact Bd func88 Z ntmps88<|Sz U<|C V<|Y (kc LH (WI t b _))<|Y iT<|O U<|aC<|Rt<|Qq
theorem CA:∀(n:Nat) (l:List UInt8) (L:List B_),l.length<=n->AX l=some L->L.length<=l.length/\∀s∈L,s.size<=l.length
 |0,l,L,d,h=>by
  rw[List.length_eq_zero_iff.1 (Nat.le_zero.1 d),XS]at h
  simp_all
 |n+1,l,L,d,h=>by
  by_cases b:l=[]
  ·rw[b,XS]at h;cases h;exact⟨l6 _,fun s a=>by cases a⟩
  by_cases c:zV l=true
  ·rw[qy b c]at h;cases h
  rw[aw b (by simpa using c)]at h;obtain ⟨e_,hM,rfl⟩:=Option.map_eq_some_iff.1 h;have hlt:=Lb b;obtain ⟨f,e⟩:=CA n _ e_ (by rw[q6];omega) hM;rw[q6]at f e;refine⟨by rw[j8];omega,fun s a=>?_⟩;rcases l7.1 a with rfl|a
  ·rw[cB,q8];omega
  have:=e s a;omega
def Oo(z:Option (List B_)):Bool:=((!z.isSome||decide ((((z.getD []).map S_).length:Int)<2))||!decide ((z.getD []).headD a6=pU))||((z.getD []).drop 1).any oddJ
theorem Cz(h:Oo (AX t.data.toList)=true):zT t=[]:=by
 rw[zT];generalize AX t.data.toList=z at *
 match z with
 |none=>rfl
 |some []=>rfl
 |some [a]=>rfl
 |some (o::i::r) =>
  have h:((!true||decide ((((o::i::r).map S_).length:Int)<2))||!decide (o=pU))||(i::r).any oddJ:=h;show (if o=pU/\(i::r).all l9=true then _ else _)=_;rw[a8];rintro⟨c,b⟩;rw[decide_eq_true c,PJ,b,decide_eq_false (by rw[h_];simp only[j8];omega)]at h;cases h
theorem Om(h:Oo (AX t.data.toList)=false):zT t=((AX t.data.toList).getD []).drop 1:=by
 rw[zT];generalize AX t.data.toList=z at *
 match z with
 |none=>cases h
 |some []=>cases h
 |some [a]=>cases h
 |some (o::i::r) =>
  have h:(((!true||decide ((((o::i::r).map S_).length:Int)<2))||!decide (o=pU))||(i::r).any oddJ)=false:=h;show (if o=pU/\(i::r).all l9=true then _ else _)=_;rw[q9,q9,Bool.not_eq_false',k_,PJ,Bool.not_eq_false']at h;rw[b6 ⟨h.1.2,h.2⟩];rfl
theorem Cx(t:B_)(H:aF)(ht:t.size<1000000):RC 43 [sv t] (.pv (aK (zT t))) H:=by
 refine Pu ?_;have f:=fun H=>aq t.data.toList H (by rw[aT];omega);rw[gB]at f;have y:=Cz (t:=t);have w:=Om (t:=t);have j:∀s∈(AX t.data.toList).getD [],s.size<1000000:=fun s A=>by
  cases h:AX t.data.toList with
  |none=>simp_all
  |some L =>
   rw[h]at A;have:=(CA _ _ L (j6 _) h).2 s A;rw[aT]at this;omega
 have u:((AX t.data.toList).getD []).length<1000000:=by
  cases h:AX t.data.toList with
  |none=>exact Nat.zero_lt_succ _
  |some L =>
   have:=(CA _ _ L (j6 _) h).1;rw[aT]at this;show L.length<_;omega
 obtain ⟨z,d_⟩:∃z,z=AX t.data.toList:=X_;rw[<-d_]at f y w j u;have x:Oo z=(((!z.isSome||decide ((((z.getD []).map S_).length:Int)<2))||!decide ((z.getD []).headD a6=pU))||((z.getD []).drop 1).any oddJ):=rfl;obtain ⟨W,F⟩:∃W,W=zT t:=X_;rw[<-F]at y w |-;obtain ⟨o,D⟩:∃o,o=z.isSome:=X_;obtain ⟨L,B⟩:∃L,L=z.getD []:=X_;obtain ⟨A_,l⟩:∃A_,A_=Oo z:=X_;rw[<-D,<-B]at f x;rw[<-B]at w j u;rw[<-l]at x y w;clear d_ F D B l;have hml:(L.map S_).length=L.length:=h_ _;have m:(L.map S_).drop 1=(L.drop 1).map S_:=List.map_drop.symm;have E:¬ (((L.map S_).length:Int)<2)->(L.map S_)[0]?=some (S_ (L.headD a6)):=fun h=>by
  cases L with
  |nil=>exact absurd (by decide) h
  |cons a L=>rfl
 have G:=fun H=>C9 88 (L.drop 1) oddJ (by rw[q6];omega) (fun s A=>dF.fn call88 (vy s (by have:=j s (List.mem_of_mem_drop A);omega) [])) H;refine Bd func43 Z ntmps43<|Sz U<|C V<|Y (kc call87 (f _))<|Y V<|Y dH<|Y dH<|Y U<|O U<|S<|S<|aR (t:=27) (n:=21) (A_:=A_) ?_ ?_
 ·all_goals refine Y V<|Y iT<|Dm ?_<;>(refine Sp 12 (fun g=>?_) fun g=>?_)<;>(try(with_reducible contradiction))<;>(first|refine M<|M<|M ?_|refine J V<|J (fV aE)<|J cM ?_)<;>refine Y cE<|Dm ?_<;>(refine Sp 17 (fun d=>?_) fun d=>?_)<;>(try(with_reducible contradiction))<;>(first|refine M<|M<|M<|M ?_|refine J V<|J (bU Z bH Z Z X (l8 _) (E (b_ d)) Z)<|J (fO Z N_ Z (E (b_ d)) Z)<|J GU ?_)<;>refine Y cE<|Dm ?_<;>(refine Sp 23 (fun q=>?_) fun q=>?_)<;>(try(with_reducible contradiction))<;>(first|refine M<|M<|M ?_|refine J V<|J (by exact fD (l:=1) (h:=(L.map S_).length) Z bH Z (fE L) Z Z (J_ d) (j6 _) (show ((L.map S_).take _).drop 1=(L.drop 1).map S_ by rw[List.take_length];exact m))<|J (kc LI (G _)) ?_)<;>refine O cE ?_<;>exact Gj (h:=by rw[x];first|(rw[g];rfl)|(rw[g,d];rfl)|(rw[g,d,show (!decide (L.headD a6=pU))=_ from q];rfl))
 refine Cn ?_ ?_<;>intro p
 ·rw[y p];refine Sz U<|aC<|cR (H':=[]) (.inr Z) Z (aJ Z) (P_ (r:=.pv (aK []))) Qq
 have i:A_=false:=p;rw[w i];have h2:¬ (((L.map S_).length:Int)<2):=fun h=>by rw[x,decide_eq_true h,Bool.or_true,Bool.true_or,Bool.true_or]at i;cases i
 exact aA<|C V<|Y (by exact fD (l:=1) (h:=(L.map S_).length) Z bH Z (fE L) Z Z X (j6 _) (show ((L.map S_).take _).drop 1=(L.drop 1).map S_ by rw[List.take_length];exact m))<|O U<|aC<|Rt<|Qq
theorem JT:∀(n m:Nat) (l:List B_),l.length<=n->l.length<=m->TR n l=TR m l
 |_,_,[],_,_=>by rw[OY,OY]
 |0,_,a::l,h,_=>by grind
 |n+1,0,a::l,_,h=>by grind
 |n+1,m+1,[a],_,_=>rfl
 |n+1,m+1,[a,b],_,_=>rfl
 |n+1,m+1,a::b::c::r,e,f=>by
  simp only[j8]at e f;rw[TR,TR];rw[JT n m r (by omega) (by omega),JT n m (r.drop (jH b).toNat) (by rw[q6];omega) (by rw[q6];omega)]
def cg(l:List B_):Option (List m6):=TR l.length l
theorem sk:cg []=some []:=rfl
theorem Ri{l}(h:l≠[])(d:l.length<3):cg l=none:=by
 match l with
 | [a]=>rfl
 | [a,b]=>rfl
 |a::b::c::r=>simp[j8]at d;omega
theorem Rj{a b c}(r)(h:((!zK a||decide (jH b<0))||!l9 c)=true):cg (a::b::c::r)=none:=by
 show TR (r.length+2+1) _=_;rw[TR]
 grind
theorem Gx(r:List B_)(h:((!zK a||decide (jH b<0))||!l9 c)=false):cg (a::b::c::r) =
  if jH b<=16 then(if(r.length:Int)<jH b then none else if D7 ⟨a,(jH b).toNat,c,r.take (jH b).toNat⟩=true then(cg (r.drop (jH b).toNat)).map (⟨a,(jH b).toNat,c,r.take (jH b).toNat⟩::·)else none)
  else(cg r).map (⟨a,(jH b).toNat,c,[]⟩::·):=by
 rw[q9,q9,Bool.not_eq_false',Bool.not_eq_false',p_]at h;rw[cg];show TR (r.length+2+1) _=_;rw[TR,b6 (by rw[h.1.1,h.2,decide_eq_true X];rfl)]
 split
 ·next h16 =>
  split
  ·next e =>
   rw[a8 X,b6 (by rw[D7,e.2.1,decide_eq_true e.2.2,Bool.or_true];rfl),cg,JT (r.length+2) _ _ (by rw[q6];omega) (j6 _)]
  next e =>
  split
  ·rfl
  next hl =>
  rw[a8];intro f;rw[D7,decide_eq_true (show (((⟨a,(jH b).toNat,c,r.take (jH b).toNat⟩:m6).cnt:Nat):Int)<=16 by show ((jH b).toNat:Int)<=16;omega),j0,Bool.not_true,Bool.false_or,k_]at f;exact e ⟨X,f.1,f.2⟩
 rw[cg,JT (r.length+2) _ _ X (j6 _)]
def Sk(z:Option (List B_)):Bool:=(!z.isSome||decide ((((z.getD []).map S_).length:Int)<2))||!decide ((z.getD []).headD a6=iP)
theorem Ih(h:Sk (AX t.data.toList)=true):yT t=[]:=by
 rw[yT];generalize AX t.data.toList=z at *
 match z with
 |none=>rfl
 |some []=>rfl
 |some [a]=>rfl
 |some (o::i::r) =>
  have h:((!true||decide ((((o::i::r).map S_).length:Int)<2))||!decide (o=iP))=true:=h;show (if o=iP then _ else _)=_;all_goals grind
theorem Sj(h:Sk (AX t.data.toList)=false):∃n r,AX t.data.toList=some (iP::n::r)/\yT t=(match cg r with|some P=>if(P.length:Int)=jH n then P else[]|none=>[]):=by
 rw[yT];generalize AX t.data.toList=z at *
 match z with
 |none=>cases h
 |some []=>cases h
 |some [a]=>cases h
 |some (o::i::r) =>
  have h:((!true||decide _)||!decide (o=iP))=false:=h;rw[q9,Bool.not_eq_false',k_]at h;rw[h.2];exact⟨i,r,Z,b6 Z⟩
theorem sw(P:List m6):∀r∈P.map dA,r.length=4:=fun r a=>by
 obtain ⟨p,_,rfl⟩:=List.mem_map.1 a;rfl
abbrev VP(P:List m6):List (List AV):=No (P.map dA)
theorem yn(t:B_)(H:aF)(ht:t.size<1000000):RC 45 [sv t] (.pv (CE (yT t))) H:=by
 refine Pu ?_;have hsp:=fun H=>aq t.data.toList H (by rw[aT];omega);rw[gB]at hsp;have hy:=Ih (t:=t);have T:=Sj (t:=t);have hsz:∀s∈(AX t.data.toList).getD [],s.size<1000000:=fun s hs=>by
  cases h:AX t.data.toList with
  |none=>rw[h]at hs;cases hs
  |some L =>
   rw[h]at hs;have:=(CA _ _ L (j6 _) h).2 s hs;rw[aT]at this;omega
 have u_:((AX t.data.toList).getD []).length<1000000:=by
  cases h:AX t.data.toList with
  |none=>exact Nat.zero_lt_succ _
  |some L =>
   have:=(CA _ _ L (j6 _) h).1;rw[aT]at this;show L.length<_;omega
 obtain ⟨z,hz⟩:∃z,z=AX t.data.toList:=X_;rw[<-hz]at hsp hy T hsz u_;have hX:Sk z=((!z.isSome||decide ((((z.getD []).map S_).length:Int)<2))||!decide ((z.getD []).headD a6=iP)):=rfl;obtain ⟨W,hW⟩:∃W,W=yT t:=X_;rw[<-hW]at hy T |-;obtain ⟨o,ho⟩:∃o,o=z.isSome:=X_;obtain ⟨L,hL⟩:∃L,L=z.getD []:=X_;obtain ⟨A_,hXe⟩:∃A_,A_=Sk z:=X_;have hzL:∀e_,z=some e_->L=e_:=fun e_ h=>by rw[hL,h];rfl
 rw[<-ho,<-hL]at hsp hX;rw[<-hL]at hsz u_;rw[<-hXe]at hX hy T;have T:A_=false->∃n r,L=iP::n::r/\W=(match cg r with|some P=>if(P.length:Int)=jH n then P else[]|none=>[]):=fun h=>by
  obtain ⟨n,r,e1,e2⟩:=T h;exact⟨n,r,hzL _ e1,e2⟩
 clear hz hW ho hL hXe hzL;have h0:¬ (((L.map S_).length:Int)<2)->(L.map S_)[0]?=some (S_ (L.headD a6)):=fun h=>by
  cases L with
  |nil=>exact absurd (by decide) h
  |cons a L=>rfl
 refine Bd func45 Z ntmps45<|Sz U<|C V<|Y (kc call87 (hsp _))<|Y V<|Y dH<|Y dH<|Y U<|O U<|S<|S<|aR (t:=25) (n:=15) (A_:=A_) ?_ ?_
 ·all_goals refine Y V<|Y iT<|Dm ?_<;>(refine Sp 15 (fun v_=>?_) fun v_=>?_)<;>(try(with_reducible contradiction))<;>(first|refine M<|M<|M ?_|refine J V<|J (fV aE)<|J cM ?_)<;>refine Y cE<|Dm ?_<;>(refine Sp 20 (fun h20=>?_) fun h20=>?_)<;>(try(with_reducible contradiction))<;>(first|refine M<|M<|M<|M ?_|refine J V<|J (by exact bU Z bH Z Z X (by exact l8 _) (h0 (b_ h20)) Z)<|J (by exact fO Z N_ Z (h0 (b_ h20)) Z)<|J GU ?_)<;>refine O cE ?_<;>exact Gj (h:=by rw[hX];first|(rw[v_];rfl)|(rw[v_,h20];rfl))
 refine Cn ?_ ?_<;>intro hc1
 ·rw[hy hc1];refine Sz U<|aC<|cR (H':=[]) (.inr Z) Z (aJ Z) (Fin.wk (r:=.pv (CE [])) H_ T_ T_) Qq
 obtain ⟨n,r0,e1,e2⟩:=T hc1;subst e1;have o_:((iP::n::r0).map S_).length=r0.length+2:=h_ _;have hr0:∀s∈r0,s.size<1000000:=fun s hs=>hsz s (by simp[hs]);have hnm:=fun H=>mm n H (by have:=hsz n H_;omega);obtain ⟨N,hN⟩:∃N,N=jH n:=X_;rw[<-hN]at hnm e2;simp only[j8]at u_;clear hX T hy hsz h0 hN hsp;refine aA<|C V<|Y (by exact bU Z bH Z Z X (by exact l8 _) (show ((iP::n::r0).map S_)[1]?=some (S_ n)from Z) Z)<|Y (by exact fO Z N_ Z (show ((iP::n::r0).map S_)[1]?=some (S_ n)from Z) Z)<|Y (kc aEp (hnm _))<|O U<|Sz (by exact eF (id:=905) (sz:=4) (ty:=70) Z Z Z)<|S<|C V<|Y (by exact fD (l:=2) (h:=((iP::n::r0).map S_).length) Z bH Z (fE (iP::n::r0)) Z Z X (j6 _) (show (((iP::n::r0).map S_).take _).drop 2=r0.map S_ by rw[List.take_length];rfl))<|O U<|aD ?_;refine fR (fun(l:List B_) (P:List m6)=>([(3,.pv (aK l)),(5,iv N),(6,.osl 905 P.length 0 P.length)],[(905,⟨P.length,4,70,VP P⟩)])) (fun l P=>l.length+P.length<=r0.length/\(∀s∈l,s.size<1000000)/\cg r0=(cg l).map (P++·)) (fun l P=>l.length) r0 [] ⟨j6 _,hr0,by cases cg r0<;>rfl⟩ ?_ ?_
 ·exact Wk
 rintro l P ⟨hlen,hsz,hpt⟩;have o_:(l.map S_).length=l.length:=h_ _;refine S<|C V<|Y (fV aE)<|O B0<|Cn ?_ ?_<;>intro hc2
 ·have h3:3<=l.length:=by have:=b9 hc2;omega
  obtain ⟨a,b,c,r,rfl⟩:∃a b c r,l=a::b::c::r:=by
   match l,h3 with
   |a::b::c::r,_=>exact⟨a,b,c,r,Z⟩
  have hgood:=Gx (a:=a) (b:=b) (c:=c) r;have hbad:=Rj (a:=a) (b:=b) (c:=c) r;have ha:=hsz a H_;have hb:=hsz b H_;have hc:=hsz c H_;have hr:∀s∈r,s.size<1000000:=fun s hs=>hsz s (by simp[hs]);simp only[j8]at hlen o_;have hnb:=th b;have hnm:=fun H=>mm b H X;have Q:=fun H=>nc a H X;have hij:=fun H=>WI c X H;obtain ⟨v,hv⟩:∃v,v=jH b:=X_;obtain ⟨pa,hpa⟩:∃pa,pa=zK a:=X_;obtain ⟨jc,hjc⟩:∃jc,jc=l9 c:=X_;rw[<-hv]at hgood hbad hnm hnb;rw[<-hpa]at hgood hbad Q;rw[<-hjc]at hgood hbad hij;clear hv hpa hjc;obtain ⟨y_,hY⟩:∃y_,y_=((!pa||decide (v<0))||!jc):=X_;rw[<-hY]at hgood hbad;have hmr:(r.map S_).length=r.length:=h_ _;refine aA<|aD<|S<|aN a7<|Cr [] (fun _ _=>V)<|Cr [] (fun H1 hH=>by exact bU Z bH Z Z X (by exact l8 _) (show ((a::b::c::r).map S_)[0]?=some (S_ a)from Z) Z)<|Cr [] (fun H1 hH=>by exact fO Z N_ Z (show ((a::b::c::r).map S_)[0]?=some (S_ a)from Z) Z)<|Cr [] (fun _ _=>V)<|Cr [] (fun H1 hH=>by exact bU Z bH Z Z X (by exact l8 _) (show ((a::b::c::r).map S_)[1]?=some (S_ b)from Z) Z)<|Cr [] (fun H1 hH=>by exact fO Z N_ Z (show ((a::b::c::r).map S_)[1]?=some (S_ b)from Z) Z)<|Cr [] (fun H1 hH=>by exact bF Z Z aEp Z (hnm _))<|Cr [] (fun _ _=>V)<|Cr [] (fun H1 hH=>by exact bU Z bH Z Z X (by exact l8 _) (show ((a::b::c::r).map S_)[2]?=some (S_ c)from Z) Z) ?_;refine Cr [] (fun H1 hH=>by exact fO Z N_ Z (show ((a::b::c::r).map S_)[2]?=some (S_ c)from Z) Z)<|Cr [] (fun _ _=>(oO aCr))<|Cp [7] (fun H1 hH=>by exact FG (id:=7) Z Cd Z ((hH _ Z).trans Z))<|Cp [7] (fun _ h=>sa dU h)<|bJ<|Kr<|C V<|Y (by exact fD (l:=3) (h:=((a::b::c::r).map S_).length) Z bH Z (fE (a::b::c::r)) Z Z X (j6 _) (show (((a::b::c::r).map S_).take _).drop 3=r.map S_ by rw[List.take_length];rfl))<|O U<|S<|S ?_;refine aR (t:=62) (n:=17) (A_:=y_) ?_ ?_
  ·all_goals refine Y (bD MY)<|Y (bS N_)<|Y (kc call90 (Q _))<|Y iT<|Dm ?_<;>(refine Sp 52 (fun z_=>?_) fun z_=>?_)<;>(try(with_reducible contradiction))<;>(first|refine M<|M<|M ?_|refine J (bD EX)<|J (bS M_)<|J cM ?_)<;>refine Y cE<|Dm ?_<;>(refine Sp 57 (fun h57=>?_) fun h57=>?_)<;>(try(with_reducible contradiction))<;>(first|refine M<|M<|M<|M ?_|refine J (bD SR)<|J (bS N_)<|J (kc LH (hij _))<|J iT ?_)<;>refine O cE ?_<;>exact Gj (h:=by rw[hY];first|(rw[z_];rfl)|(rw[z_,h57];rfl))
  refine Cn ?_ ?_<;>intro hc3
  ·rw[e2,hpt,hbad hc3];refine Sz U<|aC<|cR (H':=[]) (.inr Z) Z (aJ Z) (Fin.wk (r:=.pv (CE [])) H_ T_ T_) Qq
  have hYf:y_=false:=hc3;have hgood:=hgood hYf;have hv0:0<=v:=by
   rw[hYf]at hY;have:=hY.symm;rw[q9,q9,p_]at this;omega
  obtain ⟨k,rfl⟩:∃k:Nat,v=(k:Int):=⟨v.toNat,X⟩;rw[l8]at hgood;clear hY hbad hnm Q hij;have hsm:=fun H=>JI ⟨a,k,c,[]⟩ H;refine aA<|eN (fun(q:List B_×List B_)=>([(3,.pv (aK q.2)),(5,iv N),(6,.osl 905 P.length 0 P.length),(7,.ref 7 0 0 0)],[(7,bx 4 70 [sv a,sv c,iv (k:Int),.pv (aK q.1)]),(905,⟨P.length,4,70,VP P⟩)])) (fun q=>q.2.length<=r.length/\q.1.length<=r.length/\(∀s∈q.1,s.size<1000000)/\(∀s∈q.2,s.size<1000000)/\cg (a::b::c::r)=if D7 ⟨a,k,c,q.1⟩=true then(cg q.2).map (⟨a,k,c,q.1⟩::·)else none) ?_ ?_
  ·refine C (by exact aW Z iG dU Z Z Z Z (by simp only[Zl,S_,dA];rfl) Z)<|O (kc LF (hsm _)) ?_;refine Cn ?_ ?_<;>intro hc4
   ·have h16:(k:Int)<=16:=b9 hc4;rw[b6 h16]at hgood;refine S<|C (bD EX)<|Y (bS M_)<|Y V<|Y (fV aE)<|O iY<|Cn ?_ ?_<;>intro hc5
    ·have f_:(r.length:Int)<(k:Int):=by have:=b9 hc5;omega
     rw[b6 f_]at hgood;rw[e2,hpt,hgood];refine Sz U<|aC<|cR (H':=[]) (.inr Z) Z (aJ Z) (Fin.wk (r:=.pv (CE [])) H_ T_ T_) Qq
    have f_:¬ (r.length:Int)<(k:Int):=by have:=b_ hc5;omega
    rw[a8 f_]at hgood;refine aA<|aN a7<|Cr [] (fun _ _=>V)<|Cr [7] (fun _ h=>fh EX h)<|Cr [7] (fun _ h=>lh M_ h)<|Cr [] (fun H1 hH=>by exact fD (l:=0) (h:=k) Z bH Z (fE r) Z Z (l6 _) X (show ((r.map S_).take k).drop 0=(r.take k).map S_ by rw[List.drop_zero,List.map_take]))<|Cr [] (fun _ _=>V)<|Cr [7] (fun _ h=>fh EX h)<|Cr [7] (fun _ h=>lh M_ h)<|Cr [] (fun H1 hH=>by exact fD (l:=k) (h:=(r.map S_).length) Z bH Z (fE r) Z Z X (j6 _) (show ((r.map S_).take _).drop k=(r.drop k).map S_ by rw[List.take_length,List.map_drop]))<|Cr [7] (fun _ h=>fh EW h)<|Cp [7] (fun _ h=>su sizeOf68 h)<|Cr [] (fun _ _=>U)<|bJ<|Kr ?_;exact⟨(r.take k,r.drop k),⟨by simp only;rw[q6];omega,by simp only;rw[q8];omega,fun s hs=>hr s (List.mem_of_mem_take hs),fun s hs=>hr s (List.mem_of_mem_drop hs),hgood⟩,Wk⟩
   have h16:¬ (k:Int)<=16:=b_ hc4;rw[a8 h16]at hgood;have R:D7 ⟨a,k,c,[]⟩=true:=by rw[D7,decide_eq_false h16];rfl
   refine aA ?_;exact⟨([],r),⟨j6 _,l6 _,(fun s hs=>by cases hs),hr,by rw[b6 R];exact hgood⟩,Wk⟩
  rintro⟨q1,q2⟩ ⟨hq2,hq1,hs1,hs2,hq⟩;simp only at hq2 hq1 hs1 hs2 hq;have R:=fun H=>Qn ⟨a,k,c,q1⟩ H (by simp only;omega) hs1;refine S<|C (by exact aW Z iG dU Z Z Z Z (by simp only[Zl,S_,dA];rfl) Z)<|Y (kc call91 (R _))<|O iT ?_;refine Cn ?_ ?_<;>intro hc6
  ·rw[a8 (by have h:=hc6;intro e;rw[e]at h;cases h)]at hq;rw[e2,hpt,hq];refine Sz U<|aC<|cR (H':=[]) (.inr Z) Z (aJ Z) (Fin.wk (r:=.pv (CE [])) H_ T_ T_) Qq
  rw[b6 (qN hc6)]at hq;refine aA<|Rd V<|Y (by exact aW Z iG dU Z Z Z Z (by simp only[Zl,S_,dA];rfl) Z)<|Y (by exact aL [dA ⟨a,k,c,q1⟩] Z Yd Z Z Z Z Z (sw [⟨a,k,c,q1⟩]))<|Y (by exact cA (k:=P.length+1) (ps:=[dA ⟨a,k,c,q1⟩]) Z Yd aEA Z Z Z Z Z (by rw[YC,h_]) Z (sw [⟨a,k,c,q1⟩]) (m:=1) Z X Z (rows':=VP (P++[⟨a,k,c,q1⟩])) (by rw[VP,VP,List.map_append,No,No,List.map_append];rfl))<|Da ?_;have hnl:(P++[(⟨a,k,c,q1⟩:m6)]).length=P.length+1:=by rw[j9];rfl
  refine⟨q2,P++[⟨a,k,c,q1⟩],⟨by rw[hnl];omega,hs2,?_⟩,by simp only[j8];omega,?_⟩
  ·rw[hpt,hq];cases cg q2 with
   |none=>rfl
   |some z=>simp
  dsimp only;rw[hnl];exact(cJ.wk (Eb<|Eb<|Ea<|T_) (Hc (Uz _ _)<|T_) T_)
 have h3:l.length<3:=by have:=b_ hc2;omega
 have hPl:(VP P).length=P.length:=by rw[YC,h_]
 obtain ⟨A_,hX⟩:∃A_,A_=(!decide ((P.length:Int)=N)||decide ((0:Int)<(l.length:Int))):=X_;have hYes:A_=true->W=[]:=fun h=>by
  rw[e2,hpt];cases l with
  |nil =>
   rw[sk];show (if((P++[]).length:Int)=N then _ else _)=_;rw[a8];intro e;rw[List.append_nil]at e;rw[hX,decide_eq_true e]at h;cases h
  |cons a l=>rw[Ri H_ h3];rfl
 have hNo:A_=false->W=P:=fun h=>by
  rw[hX,q9,Bool.not_eq_false',k_,p_]at h;have hl0:l=[]:=List.length_eq_zero_iff.1 X;rw[e2,hpt,hl0,sk];show (if((P++[]).length:Int)=N then P++[]else[])=P;rw[List.append_nil,b6 h.1]
 refine aP<|S<|S<|aR (t:=94) (n:=10) (A_:=A_) ?_ ?_
 ·all_goals refine Y V<|Y (by exact dT Z Aw Z Z Z)<|Y V<|Y AY<|Dm ?_<;>(refine Sp 90 (fun h90=>?_) fun h90=>?_)<;>(try(with_reducible contradiction))<;>(first|refine M<|M<|M ?_|refine J V<|J (fV aE)<|J iY ?_)<;>refine O cE ?_<;>exact Gj (h:=by rw[hX,<-o_];(rw[h90];rfl))
 refine Cn ?_ ?_<;>intro hc7
 ·rw[hYes hc7];refine Sz U<|aC<|cR (H':=[]) (.inr Z) Z (aJ Z) (Fin.wk (r:=.pv (CE [])) H_ T_ T_) Qq
 rw[hNo hc7];refine aA<|C V<|O U<|aC ?_;refine cR (H':=[]) (.inr Z) Z (aJ Z) (Fin.slice0 (id:=905) (P.map dA) Z Z Z (h_ _)) ?_;exact Qq
end Go.Proofs.YtopnleflllkbmaaGreatDoor
section
namespace Go.Proofs
open Go.RowKit Go.Sort Go.Shelf
def aEu:Go.Shelf.Ren:=⟨fun|6=>86|8=>131|9=>130|19=>189|20=>190|21=>180|22=>181|23=>182|24=>183|25=>184|26=>185|27=>186|28=>187|29=>188|36=>233|31=>234|32=>235|37=>236|38=>237|39=>238|41=>270|n=>n,fun|27=>68|29=>9|3=>3|32=>157|26=>22|0=>0|44=>213|46=>169|4=>4|36=>207|35=>206|41=>166|5=>5|9=>9|53=>241|57=>245|63=>282|64=>283|n=>n,fun|n=>n⟩
theorem aEz:Go.Proofs.SlLaysM.n6 Tryz.prog aEu:={
  mixed:=by rfl
  f6:=⟨Tryz.f86.name,E_,Tryz.func86.trans C_⟩
  f8:=Tryz.func131.trans C_
  f9:=⟨Tryz.f130.name,E_,Tryz.func130.trans C_⟩
  f19:=Tryz.func189.trans C_
  f20:=Tryz.func190.trans C_
  f21:=⟨Tryz.f180.name,E_,Tryz.func180.trans C_⟩
  f22:=⟨Tryz.f181.name,E_,Tryz.func181.trans C_⟩
  f23:=⟨Tryz.f182.name,E_,Tryz.func182.trans D_⟩
  f24:=⟨Tryz.f183.name,E_,Tryz.func183.trans D_⟩
  f25:=⟨Tryz.f184.name,E_,Tryz.func184.trans D_⟩
  f26:=⟨Tryz.f185.name,E_,Tryz.func185.trans D_⟩
  f27:=⟨Tryz.f186.name,E_,Tryz.func186.trans D_⟩
  f28:=⟨Tryz.f187.name,E_,Tryz.func187.trans D_⟩
  f29:=⟨Tryz.f188.name,E_,Tryz.func188.trans D_⟩
  f31:=Tryz.func234.trans D_
  f32:=Tryz.func235.trans D_
  f36:=⟨Tryz.f233.name,E_,Tryz.func233.trans D_⟩
  f37:=⟨Tryz.f236.name,E_,Tryz.func236.trans D_⟩
  f38:=⟨Tryz.f237.name,E_,Tryz.func237.trans D_⟩
  f39:=⟨Tryz.f238.name,E_,Tryz.func238.trans D_⟩
  f41:=⟨Tryz.f270.name,E_,Tryz.func270.trans D_⟩
  t0:=DI
  a0:=ZQ
  z0:=TI
  v0:=FE
  t3:=Tryz.underlying3
  a3:=Tryz.isAgg3
  z3:=Tryz.sizeOf3
  v3:=sE
  t4:=eZ
  a4:=nD
  z4:=Tryz.sizeOf4
  v4:=iS
  t5:=dM
  a5:=uI
  z5:=cK
  v5:=sD
  t9:=Tryz.underlying9
  a9:=Tryz.isAgg9
  z9:=Tryz.sizeOf9
  v9:=gK
  t26:=aE
  a26:=aH
  z26:=Tryz.sizeOf22
  v26:=vL
  t27:=mA
  a27:=jR
  z27:=Tryz.sizeOf68
  v27:=Tryz.zeroValue68
  t29:=Tryz.underlying9
  a29:=Tryz.isAgg9
  z29:=Tryz.sizeOf9
  v29:=gK
  t32:=kW
  a32:=DO
  z32:=AP
  v32:=tE
  t35:=Tryz.underlying206
  a35:=Tryz.isAgg206
  z35:=Tryz.sizeOf206
  v35:=Tryz.zeroValue206
  t36:=Tryz.underlying207
  a36:=Tryz.isAgg207
  z36:=Tryz.sizeOf207
  v36:=Tryz.zeroValue207
  t41:=Tryz.underlying166
  a41:=Tryz.isAgg166
  z41:=Tryz.sizeOf166
  v41:=Tryz.zeroValue166
  t44:=IU
  a44:=iz
  z44:=ZO
  v44:=LB
  t46:=gF
  a46:=wY
  z46:=uH
  v46:=tD
  t53:=Tryz.underlying241
  a53:=Tryz.isAgg241
  z53:=Tryz.sizeOf241
  v53:=Tryz.zeroValue241
  t57:=Tryz.underlying245
  a57:=Tryz.isAgg245
  z57:=Tryz.sizeOf245
  v57:=Tryz.zeroValue245
  t63:=Tryz.underlying282
  a63:=Tryz.isAgg282
  z63:=Tryz.sizeOf282
  v63:=Tryz.zeroValue282
  t64:=Tryz.underlying283
  a64:=Tryz.isAgg283
  z64:=Tryz.sizeOf283
  v64:=Tryz.zeroValue283}
end Go.Proofs
namespace Go.Proofs.YtopnleflllkbmaaGreatDoor
open Go.Proofs.Tryz
open Go.Abs Go.Lib
theorem xc(b){id g n ty:Nat}{H}(d:H.get id=some ⟨g,1,ty,eY b⟩)(e:n=b.length)(c:b.length<2^62):
  aS Tryz.prog 86 [.osl id g 0 n] H (fun r H'=>r=.tup []/\H'=(id,⟨g,1,ty,eY (jF b)⟩)::H):=Eg aEz _ d e c
def pM(l:List (B_×PV)):List (B_×AV):=l.map fun p=>(p.1,.pv p.2)
abbrev TS(l:List (B_×PV)):Ob:=⟨0,0,(pM l).length,rS JE (pM l)⟩
theorem lj:∀(l) (i:B_),yU (pM l) i=(l.find? fun p=>decide (p.1=i)).map fun p=>.pv p.2
 | [],i=>rfl
 |(k,v)::l,i=>by
  show (if k=i then _ else yU (pM l) i)=_;rw[List.find?_cons];by_cases h:k=i
  ·rw[b6 h,decide_eq_true h];rfl
  rw[a8 h,decide_eq_false h];exact lj l i
theorem lg:∀ {l} {i:B_} (v:PV),i∉l.map Prod.fst->wJ (pM l) i (.pv v)=pM (l++[(i,v)])
 | [],i,v,_=>rfl
 |(k,u)::l,i,v,h=>by
  rw[List.map_cons,l7,not_or]at h;show (if k=i then _ else(k,AV.pv u)::wJ (pM l) i (.pv v))=_;rw[a8 fun e=>h.1 e.symm,lg v h.2];rfl
theorem dO{H}(l):∀r∈(TS l).rows,∀a∈r,Clo H a:=by
 intro r d a c;obtain ⟨i,e⟩:=r_.1 d;obtain ⟨p,b,rfl⟩:=F2.1 e;rw[pM,r6]at b;obtain ⟨q,_,rfl⟩:=Option.map_eq_some_iff.1 b;simp[l7,n_,or_false]at c;rcases c with rfl|rfl|rfl
 ·exact .pv _
 ·exact .pv _
 exact .pv _
instance{H}(l):W_ (H) ((TS l).rows):=⟨dO l⟩
def tM(o:List (B_×B_)):List (B_×PV):=o.map fun p=>(p.1,.str p.2)
theorem Xw(o):(tM o).map Prod.fst=o.map Prod.fst:=by rw[tM,List.map_map];rfl
theorem Du(o:List (B_×B_))(i:B_):(yU (pM (tM o)) i).getD (sv a6)=sv (nL o i)/\(yU (pM (tM o)) i).isSome=decide (i∈o.map Prod.fst):=by
 rw[lj,nL,tM,List.find?_map];show (Option.map _ ((o.find? fun p=>decide (p.1=i)).map _)).getD _=_/\(Option.map _ ((o.find? fun p=>decide (p.1=i)).map _)).isSome=_;cases h:o.find? fun p=>decide (p.1=i)with
 |none =>
  grind
 |some p =>
  have e:=List.find?_some h;have d:=List.mem_of_find?_eq_some h;exact⟨Z,(decide_eq_true (List.mem_map.2 ⟨p,d,b9 e⟩)).symm⟩
theorem Fin.mirW{H1:aF}{g n:Nat}{ob:Ob}{o}(f_:List B_)(b:H1.get 711=some ob)(d:ob.g=g)(a:ob.rows=bZ f_)(c:n=f_.length)(e:H1.get 710=some (TS o)):
  Fin [] H1 (.agg [.osl 711 g 0 n,.mp 710 0]) [(710,TS o)] (.agg [.pv (aK f_),.mp 710 0]):=by
 subst d c;exact Fin.fz (id:=711) (ob:=ob) (f_.map S_) b (a.trans (eC f_)) (.agg Z (bG (.osl (iH S_ f_)) (bG (.same (by simp;rfl)) kT))) Z ⟨⟨_,e,Z⟩,dO _,T_⟩ T_
theorem Wj:mI zR:=by have a:qA 0:=⟨H_,H_⟩;exact⟨⟨a,a,a,a,a⟩,⟨E_,E_,E_⟩,⟨E_,fun t h=>by cases h⟩,⟨E_,fun t h=>by cases h⟩,Zv,E_,E_,⟨E_,fun t h=>by cases h⟩,E_,Zv⟩
theorem FY(t):mI (dQ t).1/\(dQ t).1.parents.length<549755813888:=by
 rw[dQ]
 split
 ·exact⟨Wj,E_⟩
 next h =>
 split
 ·exact bn X
 exact⟨Wj,E_⟩
theorem yg{L:List B_}{k:Nat}{t:B_}(h:L[k]?=some t):nH (L.take (k+1))=lA (nH (L.take k)) t:=by rw[fN h,yf]
theorem ug:mE []=[]:=List.eq_nil_of_length_eq_zero (Nat.le_zero.1 (KO _))
theorem da:∀(L),(nH L).length<=L.length:=fun L=>by
 have:=KO L
 rwa [mE,jY,h_]at this
theorem yu(L:List B_)(hl:L.length<1000000)(e_:∀t∈L,t.size<1000000000):aS Tryz.prog 42 [.pv (aK L)] [] (fun r H'=>r=.agg [.pv (aK (mE L)),.mp 710 0]/\H'=[(710,TS (tM (nH L)))]):=by
 have hml:(L.map S_).length=L.length:=h_ _;refine Bd func42 Z ntmps42<|Sz (kl 2 aBK)<|C (by exact uY (id:=710) JE Z Z)<|Y (oO aCp)<|Y (kl 3 aBK)<|Uu (iU sizeOf80)<|Zz<|S<|S ?_;refine fZ.ent (E':=[(0,.pv (aK L)),(2,.ref 2 0 0 0),(3,.ref 3 0 0 0)]) (H':=(711,⟨0,1,9,[]⟩)::(3,bx 2 80 [.osl 711 0 0 0,.mp 710 0])::(710,TS [])::(2,bx 2 80 [.pv (.sl []),.pv .nilm])::[]) ?_ ?_
 ·exact(cJ.nz 711 1 9 Z Z ⟨⟨_,Z,(by exact Nz.same (by(simp;done)))⟩,⟨_,Z,(by exact Nz.same (by(simp;rfl)))⟩,⟨_,Z,(by exact Nz.same (by(simp;rfl)))⟩,T_⟩ ⟨⟨_,Z,Z,Z,Z,(by exact .inr ⟨_,_,rfl,rfl,(by repeat(first|exact trivial|refine⟨(by first|exact Nz.own|exact Nz.same (by(simp;rfl))),?_⟩))⟩)⟩,⟨_,Z,Z,Z,Z,(by exact .inl ⟨Z,(by exact dO _)⟩)⟩,⟨_,Z,Z,Z,Z,(by exact .inl ⟨Z,(by(simp;done))⟩)⟩,T_⟩ T_)
 refine Rd V<|Y (fV aE)<|O V<|aD<|bC (σ:=Nat) (fun k=>([(2,.ref 2 0 0 0),(3,.ref 3 0 0 0),(13,.pv (aK L)),(14,iv ((L.map S_).length:Int)),(15,iv (k:Int))],[(3,bx 2 80 [.osl 711 (nH (L.take k)).length 0 (nH (L.take k)).length,.mp 710 0]),(711,⟨(nH (L.take k)).length,1,9,bZ ((nH (L.take k)).map Prod.fst)⟩),(710,TS (tM (nH (L.take k)))),(2,bx 2 80 [.pv (.sl []),.pv .nilm])])) (fun k=>k<=L.length) (fun k=>L.length - k) 0 (l6 _) ?_ ?_
 ·exact(cJ.wk (Ea<|Ea<|Eb<|Eb<|Eb<|T_) (Hc (by(simp;exact⟨Z,Z⟩))<|Hc (aV _ _)<|Hc (dO _)<|Hb<|T_) T_)
 intro k hk;refine Sz cM<|S<|Cn ?_ ?_<;>intro n
 ·have E:k<L.length:=by have:=b9 n;omega
  obtain ⟨t,B⟩:=aU E;have N:=cC (f:=S_) B;have hts:=e_ t (m7 B);have hpa:=fun H=>cq t.data.toList (by rw[aT];omega) H;rw[gB]at hpa;have hok:=FY t.data.toList;have hid:=fun H=>uj (dQ t.data.toList).1 hok.1 hok.2 H;have hnx:=yg B;have q:=da (L.take k);rw[q8]at q;have hidT:yQ t=if(dQ t.data.toList).2=0 then some (G9 (dQ t.data.toList).1)else none:=rfl
  obtain ⟨G,c_⟩:∃G,G=dQ t.data.toList:=X_;rw[<-c_]at hpa hid hidT;obtain ⟨A,hA⟩:∃A,A=nH (L.take k):=X_;rw[<-hA]at hnx q |-;rw[lA,hidT]at hnx;obtain ⟨I,K⟩:∃I,I=G9 G.1:=X_;rw[<-K]at hid hnx;clear c_ hA K hidT hok;refine aA<|S<|aD<|C (iM bH)<|Y (fY N_ (hi:=N))<|O U<|C V<|Y (kc call54 (hpa _))<|Y V<|Y dH<|Y dH<|Y (kl 6 Z2)<|Uu (iU aY)<|O U<|S<|C V<|O AY<|Cn ?_ ?_<;>intro j
  ·have d_:G.2≠0:=by have:=j;intro e;rw[e]at this;exact absurd this (by decide)
   rw[a8 d_]at hnx;refine aP<|Rd gT<|O V ?_;refine⟨k+1,X,X,?_⟩;dsimp only;rw[hnx];exact(cJ.wk (Ea<|Ea<|Eb<|Eb<|Eb<|T_) (Hc (by(simp;exact⟨Z,Z⟩))<|Hc (aV _ _)<|Hc (dO _)<|Hb<|T_) T_)
  have y:G.2=0:=by have:=j;by_cases e:G.2=0;exact e;rw[decide_eq_false e]at this;cases this
  rw[b6 y]at hnx;obtain ⟨P,o_⟩:=Du A I;refine aA<|C (vC cF aY)<|Y (kc Ns (hid _))<|O U<|C (bD nv)<|Y (bS aEJ)<|Y V<|Y (by exact cL.eqv (G6 (κ:=JE) Z Ay U_ Z Z Z Z Z gK (.inl Z)) (show AV.tup [(yU (pM (tM A)) I).getD (sv a6),.pv (.bool (yU (pM (tM A)) I).isSome)]=.tup [sv (nL A I),bv (decide (I∈A.map Prod.fst))]by rw[P,o_]))<|Y V<|Y dH<|Y dH<|Y U<|O U<|C V<|O iT<|Cn ?_ ?_<;>intro v
  ·have u:I∉A.map Prod.fst:=b_ (not_not v);have hnx:nH (L.take (k+1))=A++[(I,t)]:=by
    rw[hnx];refine a8 fun h=>u ?_;obtain ⟨p,F,e⟩:=List.any_eq_true.1 h;exact List.mem_map.2 ⟨p,F,b9 e⟩
   have l:wJ (pM (tM A)) I (sv t)=pM (tM (A++[(I,t)])):=by rw[lg (.str t) (by rw[Xw];exact u),tM,tM,List.map_append];rfl
   have x:(bZ (A.map Prod.fst)).length=A.length:=by rw[eH,h_]
   have D:(A++[(I,t)]).length=A.length+1:=by rw[j9];rfl
   refine C (bD nv)<|Y (bS aEJ)<|Y V<|Y V<|Uu (by exact yV (κ:=JE) (.inl Z) Ay U_ Z Z Z Z Z Z Z l)<|Zz<|Rd (bD IG)<|Y (bS jR)<|Y V<|Y (by exact aL [[.str I]] Z QI Z Z Z Z Z R_)<|Y (by exact cA (k:=A.length+1) (ps:=[[.str I]]) Z QI xE Z Z Z Z Z x Z R_ (m:=1) Z X Z (rows':=bZ ((A++[(I,t)]).map Prod.fst)) (by rw[List.map_append];exact gO _ I))<|Y (bD IG)<|Uu (ku sizeOf68)<|Zz<|Rd gT<|O V ?_;refine⟨k+1,X,X,?_⟩;dsimp only;rw[hnx,D];exact(cJ.wk (Ea<|Ea<|Eb<|Eb<|Eb<|T_) (Hc (by(simp;exact⟨Z,Z⟩))<|Hc (aV _ _)<|Hc (dO _)<|Hb<|T_) T_)
  have m:I∈A.map Prod.fst:=b9 (qN v);have hnx:nH (L.take (k+1))=A:=by
   rw[hnx];obtain ⟨p,F,e⟩:=List.mem_map.1 m;exact b6 (List.any_eq_true.2 ⟨p,F,decide_eq_true e⟩)
  refine aA<|Rd gT<|O V ?_;refine⟨k+1,X,X,?_⟩;dsimp only;rw[hnx];exact(cJ.wk (Ea<|Ea<|Eb<|Eb<|Eb<|T_) (Hc (by(simp;exact⟨Z,Z⟩))<|Hc (aV _ _)<|Hc (dO _)<|Hb<|T_) T_)
 have z:k=L.length:=by have:=b_ n;omega
 subst z;rw[List.take_length];have hlen:=da L;have s:((nH L).map Prod.fst).length=(nH L).length:=h_ _;have w:mE L=jF ((nH L).map Prod.fst):=rfl;rw[w];refine aP<|C (bD IG)<|Y (bS jR)<|O (kc call86 (xc ((nH L).map Prod.fst) Z s.symm X))<|C (by exact aW Z isAgg80 sizeOf80 Z Z Z Z (by simp only[Zl,S_];rfl) Z)<|Uu (iU sizeOf80)<|Zz<|aC ?_;refine cR (H':=[(710,TS (tM (nH L)))]) (.inr Z) Z (eV Z isAgg80 sizeOf80 Z Z Z (by simp only[Zl,S_];rfl) Z) (Fin.mirW (o:=tM (nH L)) (jF ((nH L).map Prod.fst)) Z Z Z (by rw[jY];exact s.symm) Z) ?_;exact Qq
theorem Is(L:List B_)(a:L.length<1000000)(b:∀t∈L,t.size<1000000000){H:aF}(hno:H.get 710=none):aS Tryz.prog 42 [.pv (aK L)] H (fun r H'=>r=.agg [.pv (aK (mE L)),.mp 710 0]/\H'=(710,TS (tM (nH L)))::H) :=aS.frame (yu L a b) (fun _ _ h=>by cases h) (fun _ _ h=>by cases h) H_ (fun id h=>.inr (by
  by_cases e:id=710
  ·simp_all
  rw[get_cons_other _ _ e]at h;cases h))
theorem qo(t:B_)(H:aF)(ht:t.size<1000000000):RC 17 [sv t] (.pv (aK (if(yQ t).isSome=true then[t]else[]))) H:=by
 refine Pu ?_;have b:=fun H=>cq t.data.toList (by rw[aT];omega) H;rw[gB]at b;rw[yQ];obtain ⟨G,h⟩:∃G,G=dQ t.data.toList:=X_;rw[<-h]at b |-;clear h;refine Bd func17 Z ntmps17<|Sz U<|S<|C V<|Y (kc call54 (b _))<|Y V<|Y dH<|Y dH<|Y (kl 3 Z2)<|Uu (iU aY)<|O U<|C V<|O AY<|Cn ?_ ?_<;>intro c
 ·have d:G.2≠0:=by have:=c;intro e;simp_all
  rw[a8 d];refine Sz U<|aC<|cR (H':=[]) (.inr Z) Z (aJ Z) (P_ (r:=.pv (aK []))) Qq
 have f:G.2=0:=by have:=c;by_cases e:G.2=0;exact e;rw[decide_eq_false e]at this;cases this
 rw[b6 f];exact aA<|C V<|Y (aL [[.str t]] Z bH Z Z Z Z Z R_)<|O U<|aC<|Rt<|Qq
end Go.Proofs.YtopnleflllkbmaaGreatDoor
end
namespace Go.Abs
section
section
variable{α:Type}
def aE6(κ:KeyKind α)(l:List (α×AV×Nat)):List (List AV):=l.map fun p=>[.pv (κ.pv p.1),p.2.1,.pv (.int .i64 (p.2.2:Int))]
variable [DecidableEq α]
end
end
section
section
variable{P:Program}{N:Nat}{o:Oper}{E:cY}{H:aF}{f_ T:TypeId}{x:Operand}{q gq:Nat}{oq:Ob}{s:B_}{k:Nat}
abbrev QA(s:B_)(k:Nat):List (List AV):=[[.pv (.str s),.pv (.int .i64 k)]]
theorem lx(ho:o.op=.range T x)(hT:P.underlying T=some .string)(hx:aO E x=some (.pv (.str s)))(hq:H.get q=none):
  cL P N o E H (.it q 0) ((q,⟨0,0,0,QA s 0⟩)::H):=by
 intro a w I ι _ _ hr he K Q hk;have hvx:=(aI he hx).str_inv;obtain ⟨k2,k3⟩:=Rel.placeX (H':=(q,⟨0,0,0,QA s 0⟩)::H) (id:=q) (cap:=1) (ob':=⟨0,0,0,QA s 0⟩) (x:=.stringIter s 0) (w':=w.alloc (.stringIter s 0)) hr Z Z Z Z
  (fun o ho=>by rw[hq]at ho;cases ho) (fun hnew hI hmono=>.inr (.inr (.inr (.inr ⟨Z,w.heap.size,s,0,H_,hnew,hI,Z,_,_,Z,.pv (.str _),.pv (.int _ _)⟩))))
  (get_cons_same _ _ _) (fun j hj=>get_cons_other _ _ hj)
 have hrun:(execOp a.eval o).run P w=.ok (.value (.pointer (some ⟨w.heap.size,0,none⟩))) (w.alloc (.stringIter s 0)):=by
  simp only[execOp,ho,hvx];simp[Instr.range,run_underlying hT]
 unfold Oper.wpW;rw[hrun];exact hk _ _ I _ _ _ ⟨Z,Z⟩ (.it ⟨0,0,0,QA s 0⟩ (get_cons_same _ _ _) (j6 _) Z fun _=>⟨Z,w.heap.size,H_,Z⟩) k2 k3
theorem Dw{w:World}{I:Nat->Prop}{ι:lP}{b:Nat}(e_:Rel I ι H w)(hQ:H.get q=some oq)(hz:oq.sz=0)(hr:oq.rows=QA s k)(t:ι q=some (b,1)):w.heap[b]?=some (.stringIter s k)/\¬ I b:=by
 obtain ⟨_,b',s',p',e1,e2,e3,e4,m,kk,e5,e6,e7⟩:=(e_.obj q oq hQ).str hz t (by rw[hr];rfl);rw[t]at e1;cases e1;rw[hr]at e5;cases e5;have h1:=e6.str_inv;injection h1 with h1;have h2:=e7.int_inv;injection h2 with _ h2;have h3:p'=k:=X
 subst h1 h3;exact⟨e2,e3⟩
theorem yj{c v:Nat}(ho:o.op=.next x true)(hx:aO E x=some (.it q gq))(hQ:H.get q=some oq)(hg:oq.g=gq)(hr:oq.rows=QA s k)(hk:k<s.size)(hd:Utf8.decode s k=(c,v)):
  cL P N o E H (.tup [.pv (.bool true),.pv (.int .i64 k),.pv (.int .i32 c)]) ((q,⟨gq,0,oq.ty,QA s (k+v)⟩)::H):=by
 intro a w I ι _ _ e_ he K Q hK;obtain ⟨hz,b,t,F⟩:=Jj (aI he hx) hQ hg;obtain ⟨e2,e3⟩:=Dw e_ hQ hz hr t;have hrun:(Instr.next (.pointer (some ⟨b,0,none⟩)) true o.type).run P w=.ok (.tuple #[.bool true,.int .i64 k,.int .i32 c]) (World.setObj w b (.stringIter s (k+v))):=by
  have hs:∀q:Obj,(setObj b q).run P w=.ok () (World.setObj w b q):=fun q=>by simp[setObj,Sem.run,e2,World.setObj]
  simp only[Instr.next,getObj,Sem.run_bind,Sem.run,e2,Result.andThen,hk,if_true,hd,hs];rfl
 obtain ⟨k2,k3⟩:=Rel.rewrite (H':=(q,⟨gq,0,oq.ty,QA s (k+v)⟩)::H) (ob':=⟨gq,0,oq.ty,QA s (k+v)⟩) (x:=.stringIter s (k+v)) e_ hQ t hz e2 Z Z hg.symm Z
  (fun _ hs1 hI' A=>.inr (.inr (.inr (.inr ⟨Z,b,s,k+v,t,hs1,hI',Z,_,_,Z,.pv (.str _),.pv (.int _ _)⟩)))) (get_cons_same _ _ _) (fun j hj=>get_cons_other _ _ hj)
 unfold Oper.wpW execOp;simp only[ho,F,Sem.run_bind,hrun,Result.andThen_ok,Sem.run_pure];refine hK _ _ I ι _ _ ⟨Z,Z⟩ (.tup Z (fun i u d hv hc=>?_)) k2 k3
 match i with
 |0=>simp at hv hc;subst hv hc;exact .pv (.bool _)
 |1=>simp at hv hc;subst hv hc;exact .pv (.int _ _)
 |2=>simp at hv hc;subst hv hc;exact .pv (.int _ _)
 |i+3=>simp at hv
theorem TZ(ho:o.op=.next x true)(hx:aO E x=some (.it q gq))(hQ:H.get q=some oq)(hg:oq.g=gq)(hr:oq.rows=QA s k)(hk:s.size<=k):
  cL P N o E H (.tup [.pv (.bool false)]) H:=by
 intro a w I ι _ _ e_ he K Q hK;obtain ⟨hz,b,t,F⟩:=Jj (aI he hx) hQ hg;obtain ⟨e2,e3⟩:=Dw e_ hQ hz hr t;have hrun:(Instr.next (.pointer (some ⟨b,0,none⟩)) true o.type).run P w=.ok (.tuple #[.bool false]) w:=by
  simp only[Instr.next,getObj,Sem.run_bind,Sem.run,e2,Result.andThen,a8 (show ¬ k<s.size by omega),Sem.run_pure]
 unfold Oper.wpW execOp;simp only[ho,F,Sem.run_bind,hrun,Result.andThen_ok,Sem.run_pure];refine hK _ _ I ι _ _ ⟨Z,Z⟩ (.tup Z (fun i u d hv hc=>?_)) e_ (Step.refl _ _ _ _)
 match i with
 |0=>simp at hv hc;subst hv hc;exact .pv (.bool _)
 |i+1=>simp at hv
theorem YO{n:Int}{j:IntKind}(f:o.op=.convert f_ T x)(hS:P.underlying f_=some (.int j))(g:P.underlying T=some .string)(h:aO E x=some (.pv (.int j n))):cL P N o E H (.pv (.str (Utf8.encode n))) H :=.of_run fun a w I ι _ c=>⟨.string (Utf8.encode n),by
  have e:=(aI c h).int_inv;simp[execOp,f,e,convert,run_underlying hS,run_underlying g,Conv.intToString],.pv (.str _)⟩
end
end
end Go.Abs
namespace Go.Proofs.YtopnleflllkbmaaGreatDoor
open Go.Proofs.Tryz
open Go.Abs Go.Lib
variable{i:B_}{k n:Nat}{o:List (B_×B_)}{A_:List B_}{r:GRep}{H:aF}
def sM(f_:List B_):List (B_×PV):=f_.map fun i=>(i,.bool true)
theorem Yj(f_):(sM f_).map Prod.fst=f_:=by rw[sM,List.map_map];exact List.map_id' _
theorem Yi(f_:List B_)(i:B_):(yU (pM (sM f_)) i).getD (bv false)=bv (decide (i∈f_)):=by
 rw[lj,sM,List.find?_map];show (Option.map _ ((f_.find? fun p=>decide (p=i)).map _)).getD _=_;cases h:f_.find? fun p=>decide (p=i)with
 |none =>
  rw[decide_eq_false fun b=>List.find?_eq_none.1 h i b (decide_eq_true Z)];rfl
 |some p =>
  have c:=b9 (List.find?_some (p:=fun p=>decide (p=i)) h);subst c;rw[decide_eq_true (List.mem_of_find?_eq_some h)];rfl
theorem Yh{f_:List B_}(h:i∉f_):wJ (pM (sM f_)) i (bv true)=pM (sM (f_++[i])):=by rw[lg (.bool true) (by rw[Yj];exact h),sM,sM,List.map_append];rfl
abbrev BJ(L:List (List B_)):List (List AV):=L.map fun w=>[.pv (aK w)]
theorem tZ{H}(L):∀r∈BJ L,∀a∈r,Clo H a:=H_
instance{H}(L):W_ (H) (BJ L):=⟨tZ L⟩
theorem rT(L):BJ L=(L.map q7).map (·.map AV.pv):=by rw[List.map_map];rfl
abbrev rpO(A_:List B_)(r:GRep):Ob:=bx 6 84 [.pv (aK A_),.mp 710 0,.osl 721 r.sent.length 0 r.sent.length,.mp 720 0,.osl 722 r.wants.length 0 r.wants.length,.osl 723 r.offers.length 0 r.offers.length]
abbrev TV(A_:List B_)(o:List (B_×B_))(r:GRep):aF:=[(718,rpO A_ r),(710,TS (tM o)),(720,TS (sM r.sent)),(721,⟨r.sent.length,1,9,bZ (r.sent.map (nL o))⟩),(722,⟨r.wants.length,1,22,BJ r.wants⟩),(723,⟨r.offers.length,1,22,BJ r.offers⟩)]
theorem Wq{i j l m:Nat}{a b c d e f a' p c' d' o q:Ob}{id:Nat}(h:(aF.get [(k,a),(i,b),(j,c),(l,d),(n,e),(m,f)] id).isSome=true):(aF.get [(k,a'),(i,p),(j,c'),(l,d'),(n,o),(m,q)] id).isSome=true:=by
 simp only[aF.get]at h |-
 grind
theorem Qb(A_:List B_)(o:List (B_×B_))(r:GRep)(i:B_)(p:∀i,i∈o.map Prod.fst↔i∈A_)(f:r.sent.length<2^40):aS Tryz.prog 44 [.ref 718 0 0 0,sv i] (TV A_ o r) (fun x H'=>x=.tup []/\H'=TV A_ o ⟨mH A_ r.sent i,r.wants,r.offers⟩):=by
 obtain ⟨g1,m⟩:=Du o i;have m:(yU (pM (tM o)) i).isSome=decide (i∈A_):=m.trans (decide_eq_decide.2 (p i));have n:=Yi r.sent i;obtain ⟨b,j⟩:∃b,b=(decide (i∈A_)&&!decide (i∈r.sent)):=X_;rw[mH,<-j];refine Bd func44 Z ntmps44<|C V<|Y sC<|Y (bD SQ)<|Y (bD nv)<|Y (bS aEJ)<|Y V<|Y (by exact cL.eqv (G6 (κ:=JE) Z Ay U_ Z Z Z Z Z gK (.inl Z)) (show AV.tup [(yU (pM (tM o)) i).getD (sv a6),.pv (.bool (yU (pM (tM o)) i).isSome)]=.tup [sv (nL o i),bv (decide (i∈A_))]by grind))<|Y V<|Y dH<|Y dH<|Y U<|O U<|S<|aR (t:=25) (n:=11) (A_:=b) ?_ ?_
 ·all_goals refine Y V<|Dm ?_<;>(refine Sp 17 (fun h=>?_) fun h=>?_)<;>(try(with_reducible contradiction))<;>(first|refine M<|M<|M<|M<|M<|M<|M ?_|refine J V<|J sC<|J (bD Kf)<|J (bS Ba)<|J V<|J (by exact cL.eqv (HV (κ:=JE) Z lZ U_ Z Z Z Z Z iS (.inl Z)) n)<|J iT ?_)<;>refine O cE ?_<;>exact Gj (h:=by rw[j];(rw[h];rfl))
 refine Cn ?_ ?_<;>intro e
 ·have g:=j.symm.trans e;rw[j0,r8,p_]at g;have l:(bZ (r.sent.map (nL o))).length=r.sent.length:=by rw[eH,h_]
  have k:(r.sent++[i]).length=r.sent.length+1:=by rw[j9];rfl
  rw[b6 (show b=true from e)];refine C V<|Y sC<|Y (bD Kf)<|Y (bS Ba)<|Y V<|Uu (by exact yV (κ:=JE) (.inl Z) lZ U_ Z Z Z Z Z Z Z (Yh g.2))<|Zz<|Rd V<|Y V<|Y sC<|Y (bD nt)<|Y (bS aH)<|Y V<|Y (by exact aL [[.str (nL o i)]] Z bH Z Z Z Z Z R_)<|Y (by exact cA (k:=r.sent.length+1) (ps:=[[.str (nL o i)]]) Z bH xE Z Z Z Z Z l Z R_ (m:=1) Z X Z (rows':=bZ ((r.sent++[i]).map (nL o))) (by rw[List.map_append];exact gO _ _))<|Y sC<|Y (bD nt)<|Uu (by exact cQ Z sizeOf22 Z Z Z Z Z Z (by simp only[j8,List.length_nil];omega) (by simp only[Zl,S_,dA];rfl) (by simp only[Zl,S_,dA];rfl)) ?_;refine Zz<|oP (H':=TV A_ o ⟨r.sent++[i],r.wants,r.offers⟩) (.inl Z) Z ?_ ⟨Z,Z⟩;simp only[TV,rpO,k];exact(Fin.wk (by(simp;done)) (Hc (by(simp;exact⟨Z,Z,Z,Z,Z⟩))<|Hc (dO _)<|Hc (dO _)<|Hc (aV _ _)<|Hb<|Hb<|T_) ⟨Z,Z,Z,Z,Z,Z,T_⟩)
 rw[a8 (by rw[show b=false from e];decide)];refine aA ?_;exact oP (.inl Z) Z Fin.refl ⟨Z,Z⟩
theorem We(b:∀i,i∈o.map Prod.fst↔i∈A_)(c:r.sent.length<2^40)(a:HN H (TV A_ o r)):aS Tryz.prog 44 [.ref 718 0 0 0,sv i] H (fun x H'=>x=.tup []/\H'=TV A_ o ⟨mH A_ r.sent i,r.wants,r.offers⟩++H) :=aS.frame (Qb A_ o r i b c) (HN.sub a) (dD.ofL ⟨(by(simp;exact⟨Z,Z,Z,Z,Z⟩)),(dO _),(dO _),(aV _ _),(by(simp;done)),(by(simp;done)),T_⟩) (by simp;rfl) (fun id h=>.inl (Wq h))
theorem ef(p):∀(l),GN p l=true->D5 l
 | [],_=>List.Pairwise.nil
 | [a],_=>List.pairwise_singleton _ _
 |a::b::r,h=>by
  rw[GN,j0,j0]at h;have d:=ef p _ h.2;refine List.pairwise_cons.2 ⟨fun y c=>?_,d⟩;rcases l7.1 c with rfl|c
  ·grind
  exact tU h.1.2 ((List.pairwise_cons.1 d).1 y c)
theorem VZ:∀(l m:List B_),l.Nodup->(∀x∈l,x∈m)->l.length<=m.length
 | [],m,_,_=>l6 _
 | a::l,m,b,h=>by
  rw[List.nodup_cons]at b;obtain ⟨m1,c,rfl⟩:=List.append_of_mem (h a List.mem_cons_self);have d:=VZ l (m1++c) b.2 fun x hx=>by
   grind
  rw[j9]at d;rw[j8,j9,j8];omega
def pH(A_ s:List B_):Prop:=s.Nodup/\∀i∈s,i∈A_
theorem pH.len{A_ s}(h:pH A_ s):s.length<=A_.length:=VZ s A_ h.1 h.2
theorem pH.step{A_ s}(h:pH A_ s)(i):pH A_ (mH A_ s i):=by
 rw[mH]
 split
 ·next hc =>
  refine⟨List.nodup_append.2 ⟨h.1,H_,fun x hx y hy e=>?_⟩,fun j a=>?_⟩
  ·simp_all
  rcases List.mem_append.1 a with a|a
  ·exact h.2 j a
  simp_all
 exact h
theorem pH.fold{A_}:∀(l s:List _),pH A_ s->pH A_ (l.foldl (mH A_) s)
 | [],s,h=>h
 |i::l,s,h=>pH.fold l _ (h.step i)
theorem WP{l:List B_}{s:B_}(f)(h:l[k]?=some s):(l.take (k+1)).filter f=(l.take k).filter f++if f s=true then[s]else[]:=by rw[fN h,List.filter_append,List.filter_cons,List.filter_nil]
theorem aCe(k:Nat)(h:k<16):∃c d,Utf8.decode vr k=(c,1)/\MT[k]?=some d/\Utf8.encode (c:Int)=d/\d.size=1:=by
 have b:∀k:Fin 16,(Utf8.decode vr k.val).2=1/\MT[k.val]?=some (Utf8.encode ((Utf8.decode vr k.val).1:Int))/\(Utf8.encode ((Utf8.decode vr k.val).1:Int)).size=1:=by decide +kernel
 obtain ⟨g,f,e⟩:=b ⟨k,h⟩;exact⟨(Utf8.decode vr k).1,_,by rw[<-g],f,Z,e⟩
theorem om(A_:List B_)(o:List (B_×B_))(r:GRep)(p:m6)(hX:∀i,i∈o.map Prod.fst↔i∈A_)(hS:IdS A_)(hp:GoodP p)(hs:pH A_ r.sent)(hw:r.wants.length<549755813888)(ho:r.offers.length<549755813888):
  aS Tryz.prog 46 [.ref 718 0 0 0,av (dA p)] (TV A_ o r) (fun x H'=>x=.tup []/\H'=TV A_ o (wU A_ r p)):=by
 have hlen:=hS.len;have hpre:p.pre.size<=16:=by have:=hp.pre;rw[zK,j0,k_]at this;exact this.1
 have hpo:=fun q hq H=>cp A_ q H hS hq;have hsmP:=fun H=>JI p H;have hrl:(kA A_ p.pre).length<=A_.length:=List.length_filter_le _ _;have hun:=fun H=>ah A_ p.pre H (by omega) hS.srt hS.dig (by omega);have hcS:p.cnt<=16->wU A_ r p=⟨((kA A_ p.pre).filter fun i=>!decide (i∈p.ids)).foldl (mH A_) r.sent,r.wants++(p.ids.filter fun i=>!decide (i∈A_)).map (fun i=>[i]),r.offers⟩:=fun h=>b6 h;have hcB:¬ p.cnt<=16->wU A_ r p=if p.cnt=(eE A_ p.pre).cnt/\p.sum=(eE A_ p.pre).sum then r else if(eE A_ p.pre).cnt<=16 then⟨r.sent,r.wants,r.offers++[iQ (eE A_ p.pre)]⟩else⟨r.sent,r.wants,r.offers++MT.map fun d=>iQ (eE A_ (p.pre++d))⟩:=fun h=>a8 h
 have hown:(eE A_ p.pre).cnt<1000000/\(eE A_ p.pre).ids.length<=16:=by
  have hg:=xB hS.srt hS.dig hp.pre hlen;refine⟨hg.cnt,?_⟩;by_cases hc:(eE A_ p.pre).cnt<=16
  ·rw[(hg.sml hc).1];exact hc
  rw[hg.big (by omega)];exact l6 _
 have hsmO:=fun H=>JI (eE A_ p.pre) H;have hfl:=fun H=>M0 (eE A_ p.pre) H (by omega) (by omega);have hpo1:=hpo p.pre (by omega);obtain ⟨W,hW⟩:∃W,W=eE A_ p.pre:=X_;obtain ⟨R,hR⟩:∃R,R=kA A_ p.pre:=X_;obtain ⟨d_,hC⟩:∃d_,d_=wU A_ r p:=X_;rw[<-hW]at hsmO hfl hpo1 hown hcB;rw[<-hR]at hun hcS hrl;rw[<-hC]at hcS hcB |-;clear hW hR hC;have hmR:(R.map S_).length=R.length:=h_ _;have hmI:(p.ids.map S_).length=p.ids.length:=h_ _;refine Bd func46 Z ntmps46<|Sz (kb 3)<|S<|aN a7<|Cr [718] (fun _ _=>V)<|Cr [718] (fun H1 hH=>by exact dK Z Z ((hH _ Z).trans Z) Z)<|Cr [718] (fun _ h=>fh SQ h)<|Cr [718] (fun _ h=>fh IG h)<|Cr [718] (fun _ h=>lh jR h)<|Cr [3] (fun _ h=>fh MY h)<|Cr [3] (fun _ h=>lh N_ h)<|Cr [] (fun H1 hH=>by exact bF Z Z aEs Z (hpo1 _))<|Cp [4] (fun H1 hH=>by exact FG (id:=4) Z Cd Z ((hH _ Z).trans Z))<|Cp [4] (fun _ h=>sa dU h)<|bJ<|Kr<|aD<|C (by exact aW Z iG dU Z Z Z Z (by simp only[Zl,S_,dA];rfl) Z)<|Y (kc LF (hsmP _))<|Y U ?_;refine Zz<|Cn ?_ ?_<;>intro hc1
 ·have hc16:p.cnt<=16:=by have:=b9 hc1;omega
  obtain ⟨q1,q2,q3⟩:=hp.sml hc16;have hsrt:=ef _ _ q2;rw[hcS hc16];clear hcS hcB;refine S<|S<|aN a7<|Cq V<|Cq sC<|Cq (bD SQ)<|Cq (bD IG)<|Cq (bS jR)<|Cq (bD MY)<|Cq (bS N_)<|Cq (kc call80 (hun _))<|Cq (fV mA)<|Cq V<|bJ<|Kr<|aD<|bC (σ:=Nat) (fun k=>([(0,.ref 718 0 0 0),(3,.ref 3 0 0 0),(54,.pv (aK R)),(55,iv ((R.map S_).length:Int)),(56,iv (k:Int))],(3,bx 4 70 ((dA p).map .pv))::TV A_ o ⟨((R.take k).filter fun i=>!decide (i∈p.ids)).foldl (mH A_) r.sent,r.wants,r.offers⟩)) (fun k=>k<=R.length) (fun k=>R.length - k) 0 (l6 _) ?_ ?_
  ·exact(cJ.wk (Ea<|Ea<|Eb<|Eb<|Eb<|T_) (Hb<|Hc (by(simp;exact⟨Z,Z,Z,Z,Z⟩))<|Hc (dO _)<|Hc (dO _)<|Hc (aV _ _)<|Hb<|Hb<|T_) ⟨Z,Z,Z,Z,Z,Z,T_⟩)
  intro k hk;have hso:=(pH.fold ((R.take k).filter fun i=>!decide (i∈p.ids)) r.sent hs).len;refine Sz cM<|S<|Cn ?_ ?_<;>intro hc2
  ·have hlt:k<R.length:=by have:=b9 hc2;omega
   obtain ⟨s,hk2⟩:=aU hlt;have hi:=cC (f:=S_) hk2;have hnx:=WP (fun i=>!decide (i∈p.ids)) hk2;have N:=fun H=>Ka p.ids s H (by omega) hsrt;obtain ⟨f_,hSe⟩:∃f_,f_=((R.take k).filter fun i=>!decide (i∈p.ids)).foldl (mH A_) r.sent:=X_;rw[<-hSe]at hso |-;refine aA<|S<|aD<|C (iM QI)<|Y (fY N_ (hi:=hi))<|O U<|C (bD EW)<|Y (bS jR)<|Y V<|Y (kc call92 (N _))<|O iT<|Cn ?_ ?_<;>intro hc3
   ·have o_:(!decide (s∈p.ids))=true:=hc3;refine Rd V<|Y V<|O (kc call44 (We (r:=⟨f_,r.wants,r.offers⟩) hX (show f_.length<2^40 by omega) ⟨Z,Z,Z,Z,Z,Z,T_⟩))<|Rd gT<|O V ?_;refine⟨k+1,by omega,by omega,?_⟩;rw[b6 o_]at hnx;dsimp only;rw[hnx,List.foldl_append,<-hSe];exact(cJ.wk (Ea<|Ea<|Eb<|Eb<|Eb<|T_) (Hb<|Hc (by(simp;exact⟨Z,Z,Z,Z,Z⟩))<|Hc (dO _)<|Hc (dO _)<|Hc (aV _ _)<|Hb<|Hb<|T_) ⟨Z,Z,Z,Z,Z,Z,T_⟩)
   have o_:(!decide (s∈p.ids))=false:=hc3;refine aA<|Rd gT<|O V ?_;refine⟨k+1,by omega,by omega,?_⟩;rw[a8 (by rw[o_];decide),List.append_nil]at hnx;dsimp only;rw[hnx,<-hSe];exact(cJ.wk (Ea<|Ea<|Eb<|Eb<|Eb<|T_) (Hb<|Hc (by(simp;exact⟨Z,Z,Z,Z,Z⟩))<|Hc (dO _)<|Hc (dO _)<|Hc (aV _ _)<|Hb<|Hb<|T_) ⟨Z,Z,Z,Z,Z,Z,T_⟩)
  have L:k=R.length:=by have:=b_ hc2;omega
  subst L;rw[List.take_length];obtain ⟨f_,hSe⟩:∃f_,f_=(R.filter fun i=>!decide (i∈p.ids)).foldl (mH A_) r.sent:=X_;rw[<-hSe];refine aP<|C (bD EW)<|Y (bS jR)<|Y (fV mA)<|O V<|aD<|bC (σ:=Nat) (fun k=>([(0,.ref 718 0 0 0),(70,.pv (aK p.ids)),(71,iv ((p.ids.map S_).length:Int)),(72,iv (k:Int))],TV A_ o ⟨f_,r.wants++((p.ids.take k).filter fun i=>!decide (i∈A_)).map (fun i=>[i]),r.offers⟩)) (fun k=>k<=p.ids.length) (fun k=>p.ids.length - k) 0 (l6 _) ?_ ?_
  ·simp only[List.take_zero,List.filter_nil,List.map_nil,List.append_nil];exact(cJ.wk (Ea<|Eb<|Eb<|Eb<|T_) (Hc (by(simp;exact⟨Z,Z,Z,Z,Z⟩))<|Hc (dO _)<|Hc (dO _)<|Hc (aV _ _)<|Hb<|Hb<|T_) ⟨Z,Z,Z,Z,Z,Z,T_⟩)
  intro k hk;have hwl:(r.wants++((p.ids.take k).filter fun i=>!decide (i∈A_)).map (fun i=>[i])).length<=r.wants.length+16:=by
   have:=List.length_filter_le (fun i=>!decide (i∈A_)) (p.ids.take k);rw[j9,h_];rw[q8]at this;omega
  refine Sz cM<|S<|Cn ?_ ?_<;>intro hc4
  ·have hlt:k<p.ids.length:=by have:=b9 hc4;omega
   obtain ⟨s,hk2⟩:=aU hlt;have hi:=cC (f:=S_) hk2;have hnx:=WP (fun i=>!decide (i∈A_)) hk2;have N:=fun H=>Ka A_ s H (by omega) hS.srt;obtain ⟨v_,hVe⟩:∃v_,v_=r.wants++((p.ids.take k).filter fun i=>!decide (i∈A_)).map (fun i=>[i]):=X_;rw[<-hVe]at hwl |-;have P:(v_++[[s]]).length=v_.length+1:=by rw[j9];rfl
   have hlr:(BJ v_).length=v_.length:=h_ _;refine aA<|S<|aD<|C (iM QI)<|Y (fY N_ (hi:=hi))<|O U<|C V<|Y sC<|Y (bD SQ)<|Y (bD IG)<|Y (bS jR)<|Y V<|Y (kc call92 (N _))<|O iT<|Cn ?_ ?_<;>intro z_
   ·have o_:(!decide (s∈A_))=true:=z_;refine Rd V<|Y V<|Y sC<|Y (bD ns)<|Y (bS TK)<|Y V<|Y (by exact aL ([s].map S_) Z bH Z Z Z Z Z (fE _))<|Y (by exact aL ([[s]].map q7) Z GH Z Z Z Z Z (pP _))<|Y (by exact cA (n:=v_.length) (k:=v_.length+1) (ps:=[[s]].map q7) Z GH aA8 Z Z Z Z Z hlr Z (pP [[s]]) (m:=1) Z (by omega) Z (rows':=BJ (v_++[[s]])) (by rw[rT,rT,List.map_append,List.map_append]))<|Y sC<|Y (bD ns)<|Uu (by exact cQ Z sizeOf73 Z Z Z Z Z Z (by simp only[j8,List.length_nil];omega) (by simp only[Zl,S_,dA];rfl) (by simp only[Zl,S_,dA];rfl))<|Zz<|Rd gT<|O V ?_;refine⟨k+1,by omega,by omega,?_⟩;rw[b6 o_]at hnx;have e:r.wants++((p.ids.take (k+1)).filter fun i=>!decide (i∈A_)).map (fun i=>[i])=v_++[[s]]:=by rw[hnx,List.map_append,<-List.append_assoc,<-hVe];rfl
    simp only[TV,rpO,e,P];exact(cJ.wk (Ea<|Eb<|Eb<|Eb<|T_) (Hc (by(simp;exact⟨Z,Z,Z,Z,Z⟩))<|Hc (dO _)<|Hc (dO _)<|Hc (aV _ _)<|Hc (tZ _)<|Hb<|T_) ⟨Z,Z,Z,Z,Z,Z,T_⟩)
   have o_:(!decide (s∈A_))=false:=z_;refine aA<|Rd gT<|O V ?_;refine⟨k+1,by omega,by omega,?_⟩;rw[a8 (by rw[o_];decide),List.append_nil]at hnx;dsimp only;rw[hnx,<-hVe];exact(cJ.wk (Ea<|Eb<|Eb<|Eb<|T_) (Hc (by(simp;exact⟨Z,Z,Z,Z,Z⟩))<|Hc (dO _)<|Hc (dO _)<|Hc (aV _ _)<|Hb<|Hb<|T_) ⟨Z,Z,Z,Z,Z,Z,T_⟩)
  have L:k=p.ids.length:=by have:=b_ hc4;omega
  subst L;rw[List.take_length];refine aP ?_;exact oP (.inl Z) Z Fin.refl ⟨Z,Z⟩
 have hc16:¬ p.cnt<=16:=by have:=b_ hc1;omega
 have hcB:=hcB hc16;clear hcS;obtain ⟨y_,hY⟩:∃y_,y_=(decide ((p.cnt:Int)=(W.cnt:Int))&&decide (p.sum=W.sum)):=X_;refine S<|aR (t:=96) (n:=14) (A_:=y_) ?_ ?_
 ·all_goals refine Y (bD EX)<|Y (bS M_)<|Y (bD EX)<|Y (bS M_)<|Y cD<|Dm ?_<;>(refine Sp 102 (fun h102=>?_) fun h102=>?_)<;>(try(with_reducible contradiction))<;>(first|refine M<|M<|M<|M<|M ?_|refine J (bD SR)<|J (bS N_)<|J (bD SR)<|J (bS N_)<|J wF ?_)<;>refine Y cE<|Da ?_<;>exact Gj (h:=by rw[hY];(rw[h102];rfl))
 refine Cn ?_ ?_<;>intro hc6
 ·have hYt:=hY.symm.trans hc6;rw[j0,k_,k_]at hYt;rw[b6 ⟨by omega,hYt.2⟩]at hcB;rw[hcB];refine aA ?_;exact oP (H':=TV A_ o r) (.inl Z) Z (Fin.wk (by(simp;done)) (Hc (by(simp;exact⟨Z,Z,Z,Z,Z⟩))<|Hc (dO _)<|Hc (dO _)<|Hc (aV _ _)<|Hb<|Hb<|T_) ⟨Z,Z,Z,Z,Z,Z,T_⟩) ⟨Z,Z⟩
 have u_:=hY.symm.trans hc6;rw[a8 (fun h=>by rw[decide_eq_true (by omega:(p.cnt:Int)=(W.cnt:Int)),decide_eq_true h.2]at u_;cases u_)]at hcB;refine C (by exact aW Z iG dU Z Z Z Z (by simp only[Zl,S_,dA];rfl) Z)<|Y (kc LF (hsmO _))<|Da ?_;refine Cn ?_ ?_<;>intro hc7
 ·have e_:W.cnt<=16:=by have:=b9 hc7;omega
  rw[b6 e_]at hcB;rw[hcB];have hlr:(BJ r.offers).length=r.offers.length:=h_ _;have hol:(r.offers++[iQ W]).length=r.offers.length+1:=by rw[j9];rfl
  refine aN a7<|Cr [718] (fun _ _=>V)<|Cr [718] (fun _ _=>V)<|Cr [718] (fun H1 hH=>by exact dK Z Z ((hH _ Z).trans Z) Z)<|Cr [718] (fun _ h=>fh SP h)<|Cr [718] (fun _ h=>lh TK h)<|Cr [4] (fun H1 hH=>by exact aW Z iG dU Z ((hH _ Z).trans Z) Z Z (by simp only[Zl,S_,dA];rfl) Z)<|Cr [] (fun H1 hH=>by exact bF Z Z aEr Z (hfl _))<|Cr [] (fun H1 hH=>by exact aL ([iQ W].map q7) Z GH Z Z Z Z Z (pP _))<|Cp [723] (fun H1 hH=>by exact cA (n:=r.offers.length) (k:=r.offers.length+1) (ps:=[iQ W].map q7) Z GH aA8 Z ((hH _ Z).trans Z) Z Z Z hlr Z (pP [iQ W]) (m:=1) Z (by omega) Z (rows':=BJ (r.offers++[iQ W])) (by rw[rT,rT,List.map_append,List.map_append])) ?_;refine Cr [718] (fun H1 hH=>by exact dK Z Z ((hH _ Z).trans Z) Z)<|Cr [718] (fun _ h=>fh SP h)<|Cp [718] (fun H1 hH=>by exact cQ Z sizeOf73 Z Z Z ((hH _ Z).trans Z) Z Z (by simp only[j8,List.length_nil];omega) (by simp only[Zl,S_,dA];rfl) (by simp only[Zl,S_,dA];rfl))<|bJ<|Kr ?_;refine oP (H':=TV A_ o ⟨r.sent,r.wants,r.offers++[iQ W]⟩) (.inl Z) Z ?_ ⟨Z,Z⟩;simp only[TV,rpO,hol];exact(Fin.wk (by(simp;done)) (Hc (by(simp;exact⟨Z,Z,Z,Z,Z⟩))<|Hc (dO _)<|Hc (dO _)<|Hc (aV _ _)<|Hb<|Hc (tZ _)<|T_) ⟨Z,Z,Z,Z,Z,Z,T_⟩)
 have e_:¬ W.cnt<=16:=by have:=b_ hc7;omega
 rw[a8 e_]at hcB;rw[hcB];refine Sz (by exact lx (q:=19) Z U_ Z Z)<|aD<|bC (σ:=Nat) (fun k=>([(0,.ref 718 0 0 0),(3,.ref 3 0 0 0),(19,.it 19 0)],(19,⟨0,0,0,QA vr k⟩)::(3,bx 4 70 ((dA p).map .pv))::TV A_ o ⟨r.sent,r.wants,r.offers++(MT.take k).map fun d=>iQ (eE A_ (p.pre++d))⟩)) (fun k=>k<=16) (fun k=>16 - k) 0 (l6 _) ?_ ?_
 ·simp only[List.take_zero,List.map_nil,List.append_nil];exact(cJ.wk (Ea<|Ea<|Ea<|T_) (Hb<|Hb<|Hc (by(simp;exact⟨Z,Z,Z,Z,Z⟩))<|Hc (dO _)<|Hc (dO _)<|Hc (aV _ _)<|Hb<|Hb<|T_) ⟨Z,Z,Z,Z,Z,Z,T_⟩)
 intro k hk;by_cases hlt:k<16
 ·obtain ⟨c,d,d1,d2,d3,d4⟩:=aCe k hlt;have hnx:(MT.take (k+1)).map (fun d=>iQ (eE A_ (p.pre++d)))=(MT.take k).map (fun d=>iQ (eE A_ (p.pre++d)))++[iQ (eE A_ (p.pre++d))]:=by rw[fN d2,List.map_append];rfl
  have T:(r.offers++(MT.take k).map fun d=>iQ (eE A_ (p.pre++d))).length<=r.offers.length+16:=by rw[j9,h_,q8];omega
  have hsz:(p.pre++d).size<2^40:=by rw[ByteArray.size_append];omega
  have hpo2:=hpo (p.pre++d) hsz;have hcn:(eE A_ (p.pre++d)).cnt<1000000:=Nat.lt_of_le_of_lt (List.length_filter_le _ _) hlen;have hid:(eE A_ (p.pre++d)).ids.length<=16:=by
   show (if(kA A_ (p.pre++d)).length<=16 then kA A_ (p.pre++d)else[]).length<=16
   split
   ·assumption
   exact l6 _
  have hfl2:=fun H=>M0 (eE A_ (p.pre++d)) H (by omega) (by omega);obtain ⟨Q,hQ⟩:∃Q,Q=eE A_ (p.pre++d):=X_;rw[<-hQ]at hpo2 hfl2 hnx;obtain ⟨v_,hVe⟩:∃v_,v_=r.offers++(MT.take k).map fun d=>iQ (eE A_ (p.pre++d)):=X_;rw[<-hVe]at T |-;have P:(v_++[iQ Q]).length=v_.length+1:=by rw[j9];rfl
  have hlr:(BJ v_).length=v_.length:=h_ _;refine C (by exact yj Z Z Z Z Z (show k<vr.size from hlt) d1)<|O dH<|S<|Cn ?_ ?_<;>intro hc8
  ·refine aA<|aD<|C dH<|O U<|aN a7<|Cr [718] (fun _ _=>V)<|Cr [718] (fun _ _=>V)<|Cr [718] (fun H1 hH=>by exact dK Z Z ((hH _ Z).trans Z) Z)<|Cr [718] (fun _ h=>fh SP h)<|Cr [718] (fun _ h=>lh TK h)<|Cr [718] (fun _ _=>V)<|Cr [718] (fun H1 hH=>by exact dK Z Z ((hH _ Z).trans Z) Z)<|Cr [718] (fun _ h=>fh SQ h)<|Cr [718] (fun _ h=>fh IG h)<|Cr [718] (fun _ h=>lh jR h)<|Cr [3] (fun _ h=>fh MY h)<|Cr [3] (fun _ h=>lh N_ h)<|Cr [] (fun _ _=>V)<|Cr [] (fun H1 hH=>by exact cL.eqv (YO Z Az U_ Z) (by rw[d3]))<|Cr [] (fun H1 hH=>by exact eW Z Z Z (by omega) (r:=p.pre++d) Z)<|Cr [] (fun H1 hH=>by exact bF Z Z aEs Z (hpo2 _))<|Cr [] (fun H1 hH=>by exact bF Z Z aEr Z (hfl2 _)) ?_;refine Cr [] (fun H1 hH=>by exact aL ([iQ Q].map q7) Z GH Z Z Z Z Z (pP _))<|Cp [723] (fun H1 hH=>by exact cA (n:=v_.length) (k:=v_.length+1) (ps:=[iQ Q].map q7) Z GH aA8 Z ((hH _ Z).trans Z) Z Z Z hlr Z (pP [iQ Q]) (m:=1) Z (by omega) Z (rows':=BJ (v_++[iQ Q])) (by rw[rT,rT,List.map_append,List.map_append]))<|Cr [718] (fun H1 hH=>by exact dK Z Z ((hH _ Z).trans Z) Z)<|Cr [718] (fun _ h=>fh SP h)<|Cp [718] (fun H1 hH=>by exact cQ Z sizeOf73 Z Z Z ((hH _ Z).trans Z) Z Z (by simp only[j8,List.length_nil];omega) (by simp only[Zl,S_,dA];rfl) (by simp only[Zl,S_,dA];rfl))<|bJ<|Kr ?_;refine⟨k+1,by omega,by omega,?_⟩;have e:r.offers++(MT.take (k+1)).map (fun d=>iQ (eE A_ (p.pre++d)))=v_++[iQ Q]:=by rw[hnx,<-List.append_assoc,<-hVe]
   simp only[TV,rpO,e,P];exact(cJ.wk (Ea<|Ea<|Ea<|T_) (Hb<|Hb<|Hc (by(simp;exact⟨Z,Z,Z,Z,Z⟩))<|Hc (dO _)<|Hc (dO _)<|Hc (aV _ _)<|Hb<|Hc (tZ _)<|T_) ⟨Z,Z,Z,Z,Z,Z,T_⟩)
  cases hc8
 obtain rfl:k=16:=by omega
 refine C (by exact TZ Z Z Z Z Z (j6 16))<|O dH<|S<|Cn ?_ ?_<;>intro hc9
 ·cases hc9
 refine aP ?_;exact oP (H':=TV A_ o ⟨r.sent,r.wants,r.offers++MT.map fun d=>iQ (eE A_ (p.pre++d))⟩) (.inl Z) Z (Fin.wk (by(simp;done)) (Hc (by(simp;exact⟨Z,Z,Z,Z,Z⟩))<|Hc (dO _)<|Hc (dO _)<|Hc (aV _ _)<|Hb<|Hc (tZ _)<|T_) ⟨Z,Z,Z,Z,Z,Z,T_⟩) ⟨Z,Z⟩
theorem Kx{p:m6}(d:∀i,i∈o.map Prod.fst↔i∈A_)(hS:IdS A_)(a:GoodP p)(f:pH A_ r.sent)(b:r.wants.length<549755813888)(e:r.offers.length<549755813888)(c:HN H (TV A_ o r)):
  aS Tryz.prog 46 [.ref 718 0 0 0,av (dA p)] H (fun x H'=>x=.tup []/\H'=TV A_ o (wU A_ r p)++H) :=
 aS.frame (om A_ o r p d hS a f b e) (HN.sub c) (dD.ofL ⟨(by(simp;exact⟨Z,Z,Z,Z,Z⟩)),(dO _),(dO _),(aV _ _),(by(simp;done)),(by(simp;done)),T_⟩) (by simp[dA];rfl) (fun id h=>.inl (Wq h))
theorem cm(T:List (List B_)->B_):∀(n m:Nat) (l:List (List B_)),l.length<=n->l.length<=m->sr T n l=sr T m l
 |0,m,l,h,_=>by
  rw[List.length_eq_zero_iff.1 (Nat.le_zero.1 h)];cases m<;>simp[sr]
 |n+1,0,l,_,h=>by
  rw[List.length_eq_zero_iff.1 (Nat.le_zero.1 h)];simp[sr]
 |n+1,m+1,l,h1,h2=>by
  rw[sr,sr]
  split
  ·rfl
  next a =>
  have hp:=List.length_pos_iff.2 a;have:=YD T l l.length 1;rw[cm T n m _ (by rw[q6];omega) (by rw[q6];omega)]
theorem Hh(T:List (List B_)->B_){l:List (List B_)}(a:l≠[])(b:Bu T l l.length 1=n):sr T l.length l=T (l.take n)::sr T (l.drop n).length (l.drop n):=by
 have hp:=List.length_pos_iff.2 a;obtain ⟨k,d⟩:∃k,l.length=k+1:=⟨l.length - 1,X⟩;have c:=YD T l l.length 1
 conv=>lhs;rw[d,sr,a8 a]
 rw[b]at c |-;rw[cm T k _ _ (by rw[q6];omega) (j6 _)]
theorem cu(f:FuncId)(T:List (List B_)->B_)(l:List (List B_))(hl:l.length<1000000000)(e_:∀i n H,dF Tryz.prog (.pv (.fn f)) [.pv (sL ((l.drop i).take n))] H (fun r H'=>r=sv (T ((l.drop i).take n))/\H'=H))(H:aF):
  RC 48 [.pv (sL l),.pv (.fn f)] (.pv (aK (kz T l))) H:=by
 refine Pu<|Bd func48 Z ntmps48<|Sz U<|Sz (eF (id:=905) (sz:=1) (ty:=9) Z Z Z)<|S<|aD<|fR (fun(i:Nat) (A:List B_)=>([(0,.pv (sL (l.drop i))),(1,.pv (.fn f)),(5,.osl 905 A.length 0 A.length)],[(905,⟨A.length,1,9,bZ A⟩)])) (fun i A=>i<=l.length/\A.length<=i/\kz T l=A++sr T (l.drop i).length (l.drop i)) (fun i A=>l.length - i) 0 [] ⟨l6 _,j6 _,by rw[List.drop_zero,List.nil_append];rfl⟩ ?_ ?_
 ·exact L_
 rintro i A ⟨hi,hA,q⟩;have c_:(l.drop i).length=l.length - i:=q6;have o:=fun n H=>e_ i n H;have p:∀n,(l.drop i).drop n=l.drop (i+n):=fun n=>by rw[List.drop_drop]
 obtain ⟨r,m⟩:∃r,r=l.drop i:=X_;rw[<-m]at c_ o q p |-;have hmr:(r.map q7).length=r.length:=h_ _;have z:∀n,((r.map q7).take n).drop 0=(r.take n).map q7:=fun n=>by rw[List.drop_zero,List.map_take]
 refine S<|C V<|Y (fV tH)<|O iY<|Cn ?_ ?_<;>intro y
 ·have g:0<r.length:=I_ y
  have K:r≠[]:=fun e=>by rw[e]at g;exact absurd g E_
  refine aA<|aD<|Sz U<|S<|aD<|bC (σ:=Nat) (fun n=>([(0,.pv (sL r)),(1,.pv (.fn f)),(5,.osl 905 A.length 0 A.length),(6,iv (n:Int))],[(905,⟨A.length,1,9,bZ A⟩)])) (fun n=>1<=n/\n<=r.length/\Bu T r r.length 1=Bu T r (r.length+1 - n) n) (fun n=>r.length - n) 1 ⟨j6 _,g,by rw[Nat.add_sub_cancel]⟩ ?_ ?_
  ·exact L_
  rintro n ⟨h1,h2,x⟩;have c:Bu T r (r.length+1 - n) n=if n<r.length/\(T (r.take (n+1))).size<=18000 then Bu T r (r.length+1 - (n+1)) (n+1)else n:=by
   rw[show r.length+1 - n=(r.length+1 - (n+1))+1 by omega,Bu]
  rw[c]at x;clear c;obtain ⟨B,hB⟩:∃B,B=(decide ((n:Int)<((r.map q7).length:Int))&&decide (((T (r.take (n+1))).size:Int)<=18000)):=X_;have G:=fun H=>o (n+1) H;refine S<|S<|aR (t:=23) (n:=15) (A_:=B) ?_ ?_
  ·all_goals refine Y V<|Y V<|Y (fV tH)<|Y cM<|Dm ?_<;>(refine Sp 14 (fun s=>?_) fun s=>?_)<;>(first|contradiction|refine M<|M<|M<|M<|M<|M<|M<|M ?_|refine J V<|J V<|J V<|J kp<|J (fD (l:=0) (h:=n+1) Z GH Z (pP r) Z Z (l6 _) (I_ s) (z (n+1)))<|J (cZ Z Z Z (G _))<|J (gM U_)<|J IA ?_)<;>refine O cE ?_<;>exact Gj (h:=by rw[hB];(rw[s];rfl))
  refine Cn ?_ ?_<;>intro t
  ·have I:=hB.symm.trans t;rw[j0,k_,k_]at I;rw[b6 ⟨X,X⟩]at x;refine aA<|aD<|Rd V<|Y kp<|Da ?_;exact⟨n+1,⟨X,X,x⟩,X,L_⟩
  have u:=hB.symm.trans t;rw[a8 (fun h=>by rw[decide_eq_true (by omega:(n:Int)<((r.map q7).length:Int)),decide_eq_true (by omega:((T (r.take (n+1))).size:Int)<=18000)]at u;cases u)]at x;have F:=Hh T K x;have w:(A++[T (r.take n)]).length=A.length+1:=by rw[j9];rfl
  have D:=fun H=>o n H;refine aP<|aN a7<|Cr [905] (fun _ _=>V)<|Cr [] (fun _ _=>V)<|Cr [] (fun _ _=>V)<|Cr [] (fun _ _=>V)<|Cr [] (fun E d_=>by exact fD (l:=0) (h:=n) Z GH Z (pP r) Z Z (l6 _) X (z n))<|Cr [] (fun E d_=>by exact cZ Z Z Z (D _))<|Cr [] (fun E d_=>by exact aL [[.str (T (r.take n))]] Z bH Z Z Z Z Z R_)<|Cp [905] (fun E d_=>by exact cA (k:=A.length+1) (ps:=[[.str (T (r.take n))]]) Z bH xE Z ((d_ _ Z).trans Z) Z Z Z (eH _) Z R_ (m:=1) Z X Z (gO _ (T (r.take n))))<|Cr [] (fun _ _=>V)<|Cr [] (fun _ _=>V)<|Cr [] (fun E d_=>by exact fD (l:=n) (h:=(r.map q7).length) Z GH Z (pP r) Z Z X (j6 _) (show ((r.map q7).take _).drop n=(l.drop (i+n)).map q7 by rw[List.take_length,<-p,List.map_drop])) ?_;refine Cr [905] (fun _ _=>U)<|Cr [] (fun _ _=>U)<|bJ<|Kr ?_;refine⟨i+n,A++[T (r.take n)],⟨X,by rw[w];omega,?_⟩,X,?_⟩
  ·rw[q,F,p,List.append_assoc];rfl
  dsimp only;rw[w];exact L_
 have L:r=[]:=List.length_eq_zero_iff.1 (J_ y);rw[q,L];refine aP<|C V<|O U<|aC ?_;refine cR (H':=[]) (.inr Z) Z (aJ Z) (Fin.slice0 (id:=905) ((A++[]).map S_) Z Z (by rw[List.append_nil];exact(eC A)) (by rw[List.append_nil,h_])) ?_;exact Qq
end Go.Proofs.YtopnleflllkbmaaGreatDoor
