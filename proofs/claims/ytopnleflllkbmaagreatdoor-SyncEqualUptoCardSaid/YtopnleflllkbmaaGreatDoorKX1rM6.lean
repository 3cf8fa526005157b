/-
  Parts of the proof. Conditions: each theorem's own.
-/
import Derived.Test.YtopnleflllkbmaaGreatDoorKX1rM5
set_option linter.unusedVariables false
set_option linter.unusedSimpArgs false
set_option maxRecDepth 100000
set_option maxHeartbeats 8000000
namespace Go.Proofs
open Tryz
theorem AP:type_of% call100:=call100
theorem aEG:type_of% call203:=call203
theorem GH:type_of% call222:=call222
theorem aEE:type_of% call223:=call223
theorem aEB:type_of% call262:=call262
theorem aEe:type_of% call72:=call72
theorem jG:type_of% call84:=call84
theorem jF:type_of% call99:=call99
theorem dT:type_of% isAgg125:=isAgg125
end Go.Proofs
namespace Go.Proofs.YtopnleflllkbmaaGreatDoor
open Go.Proofs.Tryz
open Go.Abs
variable{α:Type}{i:Nat}
abbrev nxB:AV:=.bnd 98 [QO]
def yr(l:List UInt8):Option (AV×List UInt8):=(CP oP l).map fun p=>(.pv (aL p.1),p.2)
theorem cy(f){N k}{q b}{A:List α}(hk:A.length=k)(hlt:k<N)(h:GC f N q=(GC f (N - k) b).map fun p=>(A++p.1,p.2)):
  GC f N q=match f b with
   |none=>none
   |some (x,r)=>(GC f (N - (k+1)) r).map fun p=>((A++[x])++p.1,p.2):=by
 rw[h,show N - k=(N - (k+1))+1 by omega,GC]
 grind
theorem Is{l}(h:xD l=none):yr l=none:=by rw[yr,CP,h];rfl
theorem Ir{l q}{n}(h:xD l=some (n,q)):yr l=(GC oP n.toNat q).map fun p=>(.pv (aL p.1),p.2):=by rw[yr,CP,h]
theorem YP(l:List UInt8)(D:l.length<1000000000):DV 100 [QO,nxB] [] l (yr l):=by
 refine DV.of (CD l) Z (by simp;rfl) ?_;have g:=oA l D;have e:=Is (l:=l);have f:=fun n q=>Ir (l:=l) (n:=n) (q:=q);have i:=fun n q=>kH (l:=l) (x:=n) (q:=q);rw[EB]at g;obtain ⟨o_,z⟩:∃o_,o_=xD l:=X_;rw[<-z]at g e f i;clear z;refine fN.body func100 Z ntmps100 (r9 Z)<|Sz U<|S ?_;rcases o_ with _|⟨n,j⟩
 ·rw[e rfl];have w:DV 99 [QO] [] l none:=g;refine gN<|iP Z Z Z (by exact gQ Z Z) ?_;exact qM Z Z (eG Z Z jF Z (w.no Z (fX _))) (fun d_ E h=>by obtain ⟨rfl,q,rfl⟩:=h;exact E7 (H':=nB q) (Fin.wk (by simp) (Hb<|T_) ⟨Z,T_⟩) ⟨Z,Z,q,Z⟩)
 have w:DV 99 [QO] [] l (some (iv n,j)):=g;obtain ⟨hq0,hn0,hn1⟩:=i n j Z;rw[f n j rfl];refine Rd V<|Y (kc jF (w.yes Z (fX _)))<|O U<|Sz (by exact eP (id:=905) (sz:=1) (ty:=9) Z Z Z)<|S<|C V<|O V<|aD<|fS (fun(d:List UInt8) (A:List B_)=>([(0,QO),(1,nxB),(6,.osl 905 A.length 0 A.length),(9,iv n),(10,iv (A.length:Int))],(905,⟨A.length,1,9,bZ A⟩)::nB d)) (fun d A=>d.length+A.length<l.length/\A.length<=n.toNat/\GC oP n.toNat j=(GC oP (n.toNat - A.length) d).map fun p=>(A++p.1,p.2)) (fun d A=>d.length) j [] ⟨by omega,l6 _,by simp⟩ ?_ ?_
 ·exact(cJ.wk (Ea<|Ea<|Ea<|Eb<|Eb<|T_) (Hc (aW _ _)<|Hb<|T_) ⟨Z,T_⟩)
 rintro d A ⟨hl',hA,y⟩;have b:=zW d (by omega);have k:=fun s q=>lG (l:=d) (s:=s) (q:=q);have c:=fun h=>cy oP (k:=A.length) Z h y;rw[J6]at b;obtain ⟨A_,B⟩:∃A_,A_=oP d:=X_;rw[<-B]at b k c;clear B;refine Sz cM<|S<|Cn ?_ ?_<;>intro o
 ·have t:A.length<n.toNat:=by have:=b9 o;omega
  have m:=c t;clear c;refine aA<|S<|aD ?_;rcases A_ with _|⟨s,q⟩
  ·have m:GC oP n.toNat j=none:=m;rw[m];have b:DV 98 [QO] [] d none:=b;refine gN<|iP Z Z Z (by exact gQ Z Z)<|iP Z Z Z (by exact gQ Z Z) ?_;exact qM Z Z (GN Z Z nE Z (b.no Z (fX _))) (fun d_ E h=>by obtain ⟨rfl,q,rfl⟩:=h;exact E7 (H':=nB q) (Fin.wk (by simp) (Hb<|T_) ⟨Z,T_⟩) ⟨Z,Z,q,Z⟩)
  have m:GC oP n.toNat j=(GC oP (n.toNat - (A.length+1)) q).map fun p=>((A++[s])++p.1,p.2):=m;have b:DV 98 [QO] [] d (some (sv s,q)):=b;have k:=k s q Z;have u:(A++[s]).length=A.length+1:=by simp_all
  refine Rd V<|Y V<|Y (by exact DT.opr (GN Z Z nE Z (fN.of (b.yes Z (fX _)))))<|Y (by exact aK [[.str s]] Z bH Z Z Z Z Z (by simp_all))<|Y (by exact cA (ps:=[[.str s]]) Z bH wB Z Z Z Z Z (eE _) Z (by simp_all) (m:=1) Z (by omega) Z (gP A s))<|O U<|Rd kp<|O V ?_;refine⟨q,A++[s],⟨by omega,by omega,by simp_all⟩,by omega,?_⟩;dsimp only;rw[u];exact(cJ.wk (Ea<|Ea<|Ea<|Eb<|Eb<|T_) (Hc (aW _ _)<|Hb<|T_) ⟨Z,T_⟩)
 have r:n.toNat=A.length:=by have:=b_ o;omega
 have v:GC oP n.toNat j=some (A,d):=by rw[y,r,Nat.sub_self,GC];simp
 rw[v];refine aP<|C V<|O U<|aC ?_;refine M9 ?_;refine cR (H':=(nB d)) (.inr Z) Z (aJ Z) (Fin.fz (id:=905) (ob:=⟨A.length,1,9,bZ A⟩) (r':=.pv (aL A)) (A.map S_) Z (dU _) (.osl (gX S_ _)) Z ⟨⟨_,Z,Z⟩,(by(simp;done)),T_⟩ ⟨Z,T_⟩) ?_
 simp_all
theorem YM{α:Type}(f)(P:α->Prop)(b)(c:∀l x q,l.length<=b->f l=some (x,q)->q.length<l.length/\P x):∀(n) (l) (xs) (q),l.length<=b->GC f n l=some (xs,q)->q.length+xs.length<=l.length/\∀x∈xs,P x
 |0,l,xs,q,_,h=>by rw[GC]at h;simp_all
 | n+1,l,xs,q,d,h=>by
  rw[GC]at h;cases a:f l with
  |none=>simp_all
  | some p =>
   obtain ⟨x,r⟩:=p;obtain ⟨h1,h2⟩:=c l x r d a;rw[a]at h;cases e:GC f n r with
   |none=>simp_all
   |some p2 =>
    obtain ⟨k1,k2⟩:=YM f P b c n r _ _ X e
    grind
theorem zE{l q}{xs}(h:CP oP l=some (xs,q)):q.length+xs.length<l.length/\∀x∈xs,x.size<=l.length:=by
 rw[CP]at h;cases b:xD l with
 |none=>simp_all
 |some p =>
  obtain ⟨n,r⟩:=p;rw[b]at h;have h1:=(kH b).1;obtain ⟨k1,c⟩:=YM _ (fun x=>x.size<=r.length) _ (fun l x q hb a=>by have:=lG a;exact⟨X,X⟩) _ r _ q (j6 _) h;exact⟨X,fun x a=>Nat.le_trans (c x a) X⟩
theorem ry{l q}{p}(h:QZ l=some (p,q)):q.length<l.length/\(qA p.1/\qA p.2):=by
 rw[QZ]at h;cases b:xD l with
 |none=>simp_all
 | some z =>
  obtain ⟨x,r⟩:=z;rw[b]at h;simp at h;cases a:xD r with
  |none=>simp_all
  |some z2 =>
   rw[a]at h;cases h;have d:=kH b;have c:=kH a;exact⟨X,d.2,c.2⟩
theorem tc{l q}{xs}(h:CP QZ l=some (xs,q)):q.length+xs.length<l.length/\∀x∈xs,qA x.1/\qA x.2:=by
 rw[CP]at h;cases a:xD l with
 |none=>simp_all
 |some p =>
  obtain ⟨n,r⟩:=p;rw[a]at h;have h1:=(kH a).1;obtain ⟨k1,c⟩:=YM _ _ _ (fun l x q hb b=>ry b) _ r _ q (j6 _) h;exact⟨X,c⟩
def Ph(l:List UInt8):Option (AV×List UInt8):=(wx l).map fun p=>(av (lI p.1),p.2)
theorem qu(l:List UInt8)(B:l.length<1000000000):DV 102 [QO] [] l (Ph l):=by
 refine DV.of (CD l) Z (by simp;rfl) ?_;have g:=oA l B;have u:=fun q (A:q.length<1000000000)=>YP q A;have z:Ph l=(match xD l with
  |none=>none
  | some (i,r)=>match CP oP r with
   |none=>none
   |some (a,q)=>match CP oP q with
    |none=>none
    |some (b,p)=>some (.agg [iv i,.pv (aL a),.pv (aL b)],p)):=by
  rw[Ph,wx];cases xD l with
  |none=>rfl
  | some p =>
   obtain ⟨i,r⟩:=p;simp only;cases CP oP r with
   |none=>rfl
   |some p =>
    obtain ⟨a,q⟩:=p;simp only;cases CP oP q with
    |none=>rfl
    |some p=>rfl
 rw[z];rw[EB]at g;have j:=fun n q=>kH (l:=l) (x:=n) (q:=q);obtain ⟨o_,k⟩:∃o_,o_=xD l:=X_;rw[<-k]at g j |-;clear k z;refine fN.body func102 Z ntmps102 (r9 Z)<|Sz (kl 2 ZQ)<|S ?_;rcases o_ with _|⟨i,s⟩
 ·have t:DV 99 [QO] [] l none:=g;refine gN<|iP Z Z Z (by exact gQ Z Z) ?_;exact qM Z Z (eG Z Z jF Z (t.no Z (fX _))) (fun w x h=>by obtain ⟨rfl,q,rfl⟩:=h;exact E7 (H':=nB q) (Fin.wk (by simp) (Hb<|T_) ⟨Z,T_⟩) ⟨Z,Z,q,Z⟩)
 have t:DV 99 [QO] [] l (some (iv i,s)):=g;have h1:=(j i s Z).1;have d:=u s (by omega);rw[yr]at d;have f:=fun v q=>zE (l:=s) (xs:=v) (q:=q);simp only;obtain ⟨o_,k⟩:∃o_,o_=CP oP s:=X_;rw[<-k]at d f |-;clear k;rcases o_ with _|⟨a,m⟩
 ·have d:DV 100 [QO,nxB] [] s none:=d;refine gN<|iP Z Z Z (by exact gQ Z Z)<|iP Z Z Z (kc jF (t.yes Z (fX _)))<|iP Z Z Z (by exact gQ Z Z)<|iP Z Z Z (by exact gQ Z Z)<|iP Z Z Z (by exact pB Z Z) ?_;exact qM Z Z (eG Z Z AP Z (d.no Z (fX _))) (fun w x h=>by obtain ⟨rfl,q,rfl⟩:=h;exact E7 (H':=nB q) (Fin.wk (by simp) (Hb<|T_) ⟨Z,T_⟩) ⟨Z,Z,q,Z⟩)
 have d:DV 100 [QO,nxB] [] s (some (.pv (aL a),m)):=d;have h2:=(f a m Z).1;have e:=u m (by omega);rw[yr]at e;have o:=fun v q=>zE (l:=m) (xs:=v) (q:=q);simp only;obtain ⟨o_,k⟩:∃o_,o_=CP oP m:=X_;rw[<-k]at e o |-;clear k;rcases o_ with _|⟨b,y⟩
 ·have e:DV 100 [QO,nxB] [] m none:=e;refine gN<|iP Z Z Z (by exact gQ Z Z)<|iP Z Z Z (kc jF (t.yes Z (fX _)))<|iP Z Z Z (by exact gQ Z Z)<|iP Z Z Z (by exact gQ Z Z)<|iP Z Z Z (by exact pB Z Z)<|iP Z Z Z (kc AP (d.yes Z (fX _)))<|iP Z Z Z (by exact gQ Z Z)<|iP Z Z Z (by exact gQ Z Z)<|iP Z Z Z (by exact pB Z Z) ?_;exact qM Z Z (eG Z Z AP Z (e.no Z (fX _))) (fun w x h=>by obtain ⟨rfl,q,rfl⟩:=h;exact E7 (H':=nB q) (Fin.wk (by simp) (Hb<|T_) ⟨Z,T_⟩) ⟨Z,Z,q,Z⟩)
 have e:DV 100 [QO,nxB] [] m (some (.pv (aL b),y)):=e;refine Rd V<|Y (kc jF (t.yes Z (fX _)))<|Y V<|Y V<|Y (by exact pB Z Z)<|Y (kc AP (d.yes Z (fX _)))<|Y V<|Y V<|Y (by exact pB Z Z)<|Y (kc AP (e.yes Z (fX _)))<|Y (oN Ut)<|Uu (iZ sizeOf48)<|Zz<|aC ?_;refine M9 ?_;refine cR (H':=(nB y)) (.inr Z) Z (eY Z gO sizeOf48 Z Z Z (by simp only[Zl,S_];rfl) Z) (Fin.wk (by simp[S8]) (Hb<|T_) ⟨Z,T_⟩) ?_;exact⟨_,Z,Z,Z⟩
abbrev inO:Ob:=bx 1 125 [QO]
abbrev Jj:aF:=[(4,inO)]
theorem tv{H}(h:(H.get 980).isSome=true):∀r∈inO.rows,∀a∈r,Clo H a:=F_
theorem R5(l):dD (nB l++Jj):=dD.ofL ⟨XW l _,tv Z,T_⟩
def Qw(l:List UInt8):Option (AV×List UInt8):=(QZ l).map fun p=>(av (kA p.1),p.2)
theorem Gz(l:List UInt8)(N:l.length<1000000000):DV 104 [.ref 4 0 0 0] Jj l (Qw l):=by
 refine DV.of (R5 l) Z (by simp;rfl) ?_;have D:=oA l N;have u:=fun q (e_:q.length<1000000000)=>oA q e_;have hlen:=fun n q=>kH (l:=l) (x:=n) (q:=q);have K:Qw l=(match xD l with
  |none=>none
  |some (x,r)=>match xD r with
   |none=>none
   |some (y,q)=>some (.agg [iv x,iv y],q)):=by
  rw[Qw,QZ];cases xD l with
  |none=>rfl
  |some p =>
   obtain ⟨i,r⟩:=p;simp only;cases xD r with
   |none=>rfl
   |some p=>rfl
 obtain ⟨x,c,H⟩:∃x c,(xD l).getD (0,l)=(x,c):=⟨_,_,Z⟩;obtain ⟨y,m,I⟩:∃y m,(xD c).getD (0,c)=(y,m):=⟨_,_,Z⟩;have hq1:c.length<=l.length:=by
  grind
 have A:(EB l).getD (iv 0,l)=(iv x,c):=by
  rw[EB]
  grind
 have w:(EB c).getD (iv 0,c)=(iv y,m):=by
  rw[EB]
  grind
 have s:EB l=none->Qw l=none:=fun e=>by
  grind
 have o:(EB l).isSome=true->EB c=none->Qw l=none:=fun e g=>by
  rw[EB,Option.map_eq_none_iff]at g
  grind
 have z:(EB l).isSome=true->(EB c).isSome=true->Qw l=some (.agg [iv x,iv y],m):=fun e g=>by
  cases k:xD l with
  |none=>rw[EB,k]at e;cases e
  |some p =>
   rw[k]at H;cases H;rw[K,k];simp only;cases F:xD c with
   |none=>rw[EB,F]at g;cases g
   |some p=>rw[F]at I;cases I;rfl
 have d_:EB c=none->Qw l=none:=fun e=>by
  cases h:EB l with
  |none=>exact s h
  |some p=>exact o (by rw[h];rfl) e
 clear K o;refine fN.body func104 Z ntmps104 (r9 Z)<|Sz (kl 1 Bz)<|S<|yJ (fun v j G=>Qw l=none/\v=HQ/\∃q,G=nB q++j) [] [] [4] Z a7 (fun v E1 j G hts hsh B ⟨e,g,q,k⟩=>by subst k;have c_:aF.get (nB q++j) 4=some inO:=(B 4 (q9.2 Z)).trans Z;exact E7 (H':=nB q++Jj) (Fin.wk (by simp) ⟨⟨_,Z,Z⟩,XW _ _,⟨_,c_,Z⟩,tv Z,T_⟩ ⟨Z,c_.symm,T_⟩) ⟨e,g,q,Z⟩) ?_;refine Pr [4] (fun _ h=>lh dT h)<|vI (r:=⟨_,some [980],nB c⟩) (.pan Z (fun j f=>by exact eG Z Z jF Z ((D.tot A ((f 980 Z).trans Z) (fX _)).mono (fun _ _ h=>h) (fun v L ⟨e,g,k⟩=>⟨s e,g,k⟩)))) Z ?_;refine Pr [4] (fun _ h=>lh dT h)<|vI (r:=⟨_,some [980],nB m⟩) (.pan Z (fun j f=>by exact eG Z Z jF Z (((u c (by omega)).tot w ((f 980 Z).trans Z) (fX _)).mono (fun _ _ h=>h) (fun v L ⟨e,g,k⟩=>⟨d_ e,g,k⟩)))) Z ?_;refine Pr [] (fun j f=>by exact OG Z KT Z Z)<|Pw [1] (fun _ h=>sa sizeOf104 h) ?_;refine KP ⟨⟨by kernel_rfl,by kernel_rfl,by kernel_rfl⟩,fun E=>?_⟩;simp only[ZI,true_and,and_true]at E;refine aC ?_;refine M9 ?_;refine cR (H':=(nB m++Jj)) (.inr Z) Z (eY Z eC sizeOf104 Z Z Z (by simp only[Zl,S_];rfl) Z) (Fin.wk (by simp[S8]) (Hb<|Ha<|T_) ⟨Z,Z,T_⟩) ?_;exact⟨_,z E.1 E.2,Z,Z⟩
abbrev ptB:AV:=.clo 104 [.ref 4 0 0 0]
def vP(A:List (Int×Int)):List (List AV):=(A.map kA).map (·.map AV.pv)
theorem QX(A):(vP A).length=A.length:=by simp[vP]
theorem QY(A)(p):vP A++[(kA p).map AV.pv]=vP (A++[p]):=by rw[vP,vP,List.map_append,List.map_append];rfl
theorem CG(A)(H):∀r∈vP A,∀a∈r,Clo H a:=Y3 _ _ _
instance(A)(H):W_ (H) (vP A):=⟨CG A H⟩
def db(l:List UInt8):Option (AV×List UInt8):=(CP QZ l).map fun p=>(.pv (xJ p.1),p.2)
theorem yq{l}(h:xD l=none):db l=none:=by rw[db,CP,h];rfl
theorem yp{l q}{n}(h:xD l=some (n,q)):db l=(GC QZ n.toNat q).map fun p=>(.pv (xJ p.1),p.2):=by rw[db,CP,h]
theorem Sx(l:List UInt8)(F:l.length<1000000000):DV 103 [QO,ptB] Jj l (db l):=by
 refine DV.of (R5 l) Z (by simp;exact⟨Z,Z⟩) ?_;have g:=oA l F;have e:=yq (l:=l);have f:=fun n q=>yp (l:=l) (n:=n) (q:=q);have i:=fun n q=>kH (l:=l) (x:=n) (q:=q);rw[EB]at g;obtain ⟨o_,d_⟩:∃o_,o_=xD l:=X_;rw[<-d_]at g e f i;clear d_;refine fN.body func103 Z ntmps103 (r9 Z)<|Sz U<|S ?_;rcases o_ with _|⟨n,j⟩
 ·rw[e rfl];have y:DV 99 [QO] [] l none:=g;refine gN<|iP Z Z Z (by exact gQ Z Z) ?_;exact qM Z Z (eG Z Z jF Z (y.no Z (fX _))) (fun E G h=>by obtain ⟨rfl,q,rfl⟩:=h;exact E7 (H':=nB q++Jj) (Fin.wk (by simp) (Hb<|Ha<|T_) ⟨Z,Z,T_⟩) ⟨Z,Z,q,Z⟩)
 have y:DV 99 [QO] [] l (some (iv n,j)):=g;obtain ⟨hq0,hn0,hn1⟩:=i n j Z;rw[f n j rfl];refine Rd V<|Y (kc jF (y.yes Z (fX _)))<|O U<|Sz (by exact eP (id:=905) (sz:=2) (ty:=104) Z Z Z)<|S<|C V<|O V<|aD<|fS (fun(d:List UInt8) (A:List (Int×Int))=>([(0,QO),(1,ptB),(6,.osl 905 A.length 0 A.length),(9,iv n),(10,iv (A.length:Int))],(905,⟨A.length,2,104,vP A⟩)::(nB d++Jj))) (fun d A=>d.length+A.length<l.length/\A.length<=n.toNat/\GC QZ n.toNat j=(GC QZ (n.toNat - A.length) d).map fun p=>(A++p.1,p.2)) (fun d A=>d.length) j [] ⟨by omega,l6 _,by simp⟩ ?_ ?_
 ·exact(cJ.wk (Ea<|Ea<|Ea<|Eb<|Eb<|T_) (Hc (CG _ _)<|Hb<|Ha<|T_) ⟨Z,Z,T_⟩)
 rintro d A ⟨hl',hA,D⟩;have b:=Gz d (by omega);have k:=fun s q=>ry (l:=d) (p:=s) (q:=q);have c:=fun h=>cy QZ (k:=A.length) Z h D;rw[Qw]at b;obtain ⟨A_,B⟩:∃A_,A_=QZ d:=X_;rw[<-B]at b k c;clear B;refine Sz cM<|S<|Cn ?_ ?_<;>intro m
 ·have x:A.length<n.toNat:=by have:=b9 m;omega
  have o:=c x;clear c;refine aA<|S<|aD ?_;rcases A_ with _|⟨s,q⟩
  ·have o:GC QZ n.toNat j=none:=o;rw[o];have b:DV 104 [.ref 4 0 0 0] Jj d none:=b;refine gN<|iP Z Z Z (by exact gQ Z Z)<|iP Z Z Z (by exact gQ Z Z) ?_;exact qM Z Z (GM Z Z call104 Z (b.no Z (HB.sub ⟨Z,T_⟩))) (fun E G h=>by obtain ⟨rfl,q,rfl⟩:=h;exact E7 (H':=nB q++Jj) (Fin.wk (by simp) (Hb<|Ha<|T_) ⟨Z,Z,T_⟩) ⟨Z,Z,q,Z⟩)
  have o:GC QZ n.toNat j=(GC QZ (n.toNat - (A.length+1)) q).map fun p=>((A++[s])++p.1,p.2):=o;have b:DV 104 [.ref 4 0 0 0] Jj d (some (av (kA s),q)):=b;have k:=k s q Z;have z:(A++[s]).length=A.length+1:=by simp_all
  refine Rd V<|Y V<|Y (by exact DT.opr (GM Z Z call104 Z (fN.of (b.yes Z (HB.sub ⟨Z,T_⟩)))))<|Y (by exact aK [kA s] Z TM Z Z Z Z Z R_)<|Y (by exact cA (ps:=[kA s]) Z TM Wf Z Z Z Z Z (QX _) Z R_ (m:=1) Z (by omega) Z (QY A s))<|O U<|Rd kp<|O V ?_;refine⟨q,A++[s],⟨by omega,by omega,by simp_all⟩,by omega,?_⟩;dsimp only;rw[z];exact(cJ.wk (Ea<|Ea<|Ea<|Eb<|Eb<|T_) (Hc (CG _ _)<|Hb<|Ha<|T_) ⟨Z,Z,T_⟩)
 have w:n.toNat=A.length:=by have:=b_ m;omega
 have u:GC QZ n.toNat j=some (A,d):=by rw[D,w,Nat.sub_self,GC];simp
 rw[u];refine aP<|C V<|O U<|aC ?_;refine M9 ?_;refine cR (H':=(nB d++Jj)) (.inr Z) Z (aJ Z) (Fin.fz (id:=905) (ob:=⟨A.length,2,104,vP A⟩) (r':=.pv (xJ A)) (A.map kA) Z Z (.osl (gX kA _)) Z ⟨⟨_,Z,Z⟩,(by(simp;done)),⟨_,Z,Z⟩,(by(simp;rfl)),T_⟩ ⟨Z,Z,T_⟩) ?_
 simp_all
def JC(h i:Int):Bool:=((decide (h<0)||decide (8<h))||decide (i<0))||decide (((2 ^ h.toNat:Nat):Int)<=i)
def zS:m9:=⟨0,[],[]⟩
def OP(s:B_)(h i:Int)(m:B_):m9×Int:=if JC h i=true then(zS,1)else(⟨i,jh s i.toNat m,xM h.toNat (xR s h.toNat) i.toNat⟩,0)
theorem wz(s m:B_)(h i:Int)(H:aF)(j:JC h i=true):RC 119 [sv s,iv h,iv i,sv m] (.tup [av (lI zS),iv 1]) H:=by
 refine Pu ?_;have e:decide (h<0)=false->decide (8<h)=false->IntKind.i64.wrap (1*2 ^ h.toNat)=((2 ^ h.toNat:Nat):Int):=fun g f=>by
  have g:=b_ g;have f:=b_ f;obtain ⟨n,rfl⟩:∃n:Nat,h=(n:Int):=⟨h.toNat,X⟩;rw[l8];have:=Xt (h:=n) X
  rwa [l8]at this
 have hbe:JC h i=(((decide (h<0)||decide (8<h))||decide (i<0))||decide (((2 ^ h.toNat:Nat):Int)<=i)):=rfl;refine Bd func119 Z ntmps119<|C (kb 4)<|Y (kb 6)<|Y (kl 8 ZQ)<|O U<|S<|S<|uG (t:=30) (n:=16) (A_:=JC h i) ?_ ?_
 ·cases b:(decide (h<0):Bool)
  ·cases c:(decide (8<h):Bool)
   ·cases hg25:(decide (i<0):Bool)
    ·refine aN a7<|Cq V<|Cq cM<|Cq V<|Nf V<|Nf jK<|Cq wI<|Cq V<|Nf (bS M_)<|Nf cM<|Cq wI<|Cq V<|Nf (bS M_)<|Nf V<|Nf (by exact OX Z Z Z (J_ b) (by have:=b_ c;simp[IntKind.bits];omega) (e b c))<|Nf DK<|Cq wI<|bL<|Kr ?_;exact⟨Z,⟨_,Z,F_⟩,Z,Z,Z⟩
    refine aN a7<|Cq V<|Cq cM<|Cq V<|Nf V<|Nf jK<|Cq wI<|Cq V<|Nf (bS M_)<|Nf cM<|Cq wI<|Cq V<|Of<|Of<|Of<|Of<|Cq GB<|bL<|Kr ?_;exact⟨Z,⟨_,Z,F_⟩,Z,Z,Z⟩
   refine aN a7<|Cq V<|Cq cM<|Cq V<|Nf V<|Nf jK<|Cq wI<|Cq V<|Of<|Of<|Cq GB<|Cq V<|Of<|Of<|Of<|Of<|Cq cE<|bL<|Kr ?_;exact⟨Z,⟨_,Z,F_⟩,Z,Z,Z⟩
  refine aN a7<|Cq V<|Cq cM<|Cq V<|Of<|Of<|Cq GB<|Cq V<|Of<|Of<|Cq cE<|Cq V<|Of<|Of<|Of<|Of<|Cq cE<|bL<|Kr ?_;exact⟨Z,⟨_,Z,F_⟩,Z,Z,Z⟩
 refine Cn ?_ ?_<;>intro d
 ·refine C (oN Ut)<|Uu (iZ sizeOf48)<|O U<|aC<|iB (H':=[]) (.inr Z) Z (eY Z gO sizeOf48 Z Z Z (by simp only[Zl,S_];rfl) Z) (aJ Z) P_ ?_;exact Qq
 rw[j]at d;cases d
theorem UV(s m)(h i)(H)(c:s.size<2^40)(b:m.size<2^40):RC 119 [sv s,iv h,iv i,sv m] (.tup [av (lI (OP s h i m).1),iv (OP s h i m).2]) H:=by
 rw[OP];by_cases a:JC h i=true
 ·rw[b6 a];exact wz s m h i H a
 rw[a8 a];have a:JC h i=false:=F_
 simp only[JC,q_,q6]at a;obtain ⟨⟨⟨h1,h2⟩,h3⟩,d⟩:=a;obtain ⟨n,rfl⟩:∃n:Nat,h=n:=⟨h.toNat,X⟩;obtain ⟨k,rfl⟩:∃k:Nat,i=k:=⟨i.toNat,X⟩;rw[l8]at d |-;exact Pi s m n k H c b X X
theorem jj{s m}{h i}(a:(OP s h i m).2=0):FSeal (OP s h i m).1/\(OP s h i m).1=⟨i,jh s i.toNat m,xM h.toNat (xR s h.toNat) i.toNat⟩/\(0<=h/\h<=8)/\0<=i/\i<2 ^ h.toNat:=by
 rw[OP]at a |-
 split at a
 ·cases a
 next c =>
 rw[a8 c];have c:JC h i=false:=F_
 simp only[JC,q_,q6]at c;have d:i<2 ^ h.toNat:=by
  simp_all
 have b:i.toNat<2 ^ h.toNat:=X
 have h8:2 ^ h.toNat<=256:=FP X;exact⟨⟨F_,G_,by rw[Ei];omega,by rw[U9];omega,Ej _ _ _,VA _ _ _ (VU _ _) b (VV _ _)⟩,Z,⟨X,X⟩,X,d⟩
def zR:j8:=⟨0,0,0,0,a6,[],[],a6,false,0,a6,zS,⟨a6,a6,[],[],zS⟩⟩
def NN(r:j8):j8:={r with sl:=zS,priv:={r.priv with sl:=zS}}
def GS(r:j8):j8×Int:=if(mH r).2≠0 then(zR,(mH r).2)else(r,0)
def mk1(r:j8)(a:m9):j8:={r with sl:=a,priv:={r.priv with sl:=zS}}
def Ik(r:j8)(a b:m9):j8:={r with sl:=a,priv:={r.priv with sl:=b}}
def NO(r:j8)(s:B_)(h:Int):j8×Int :=if gW (NN r)=false then(zR,1)
 else if(OP s h (2*r.number - 2) (HU (NN r))).2≠0 then(zR,(OP s h (2*r.number - 2) (HU (NN r))).2)
 else if uC r.priv=true then GS (mk1 r (OP s h (2*r.number - 2) (HU (NN r))).1)
 else if(OP s h (2*r.number - 1) (YK (NN r))).2≠0 then(zR,(OP s h (2*r.number - 1) (YK (NN r))).2)
 else GS (Ik r (OP s h (2*r.number - 2) (HU (NN r))).1 (OP s h (2*r.number - 1) (YK (NN r))).1)
theorem YD{s}(h:FSeal s):xP s:=by have i0:=h.i0;have i1:=h.i1;have l1:=h.sl;have l2:=h.pl;exact⟨⟨X,X⟩,⟨X,fun t a=>by have:=CS (h.sa t a);omega⟩,⟨X,fun t a=>by have:=CS (h.pa t a);omega⟩⟩
theorem Zh:xP zS:=YD (kY E_)
theorem Hy{r}{a b}(h:mI r)(g:xP a)(l:xP b):mI (Ik r a b):=by obtain ⟨k,j,d,i,_,m,f,e,c,_⟩:=h;exact⟨k,j,d,i,g,m,f,e,c,l⟩
theorem Zu(r:j8)(s:B_)(h:Int)(u_:mI r)(F:r.parents.length<549755813888)(z_:s.size<2^40)(H:aF):RC 71 [av (dR r),sv s,iv h] (.tup [av (dR (NO r s h).1),iv (NO r s h).2]) H:=by
 refine aS.pure ?_ (by simp_all) H;have g:mI (NN r):=Hy u_ Zh Zh;have hv:=fun H=>XB (NN r) g F H;have hid:=fun H=>ua (NN r) g F H;have j:=fun H=>Ua (mk1 r zS).priv g.2.2.2.2.2 H;rw[NO];refine Bd func71 Z ntmps71<|C (kb 3)<|Y (kl 6 ie)<|O U<|C (oN Ut)<|Y (oN Ut)<|Y (bA zI)<|Uu (by exact qN Z sizeOf48 Z Z Z Z Z Z Z (r9 Z) Z Z)<|Y (bA iE)<|Y (bA EU)<|Uu (by exact qN Z sizeOf48 Z Z Z Z Z Z Z (r9 Z) Z Z)<|Zz<|S<|C (wA cK bD)<|Y (kc aEP (hv _))<|O iW<|Cn ?_ ?_<;>intro q
 ·have I:=not_not q;rw[b6 I];refine C (oN SW)<|Uu (iZ bD)<|O U<|aC<|iB (H':=[]) (.inr Z) Z (eY Z cK bD Z Z Z (by simp only[Zl,S_];rfl) Z) (aJ Z) (Fin.wk (by simp[dR]) T_ T_) ?_;exact Qq
 have I:=pJ q;rw[a8 (by simp_all)];have hf:=sH I;have L:=hf.nu;have e_:(NN r).number=r.number:=rfl;rw[e_]at L;have n:=fun H=>yn (NN r) g F I H;have R:(YK (NN r)).size=16:=rG _;have N:=tz (NN r);obtain ⟨d_,K⟩:∃d_,d_=HU (NN r):=X_;obtain ⟨t,c_⟩:∃t,t=YK (NN r):=X_;rw[<-K]at hid N |-;rw[<-c_]at n R |-;have z:=fun H=>UV s d_ h (2*r.number - 2) H z_ (by omega);have D:=fun H=>UV s t h (2*r.number - 1) H z_ (by omega);have f:=jj (s:=s) (m:=d_) (h:=h) (i:=2*r.number - 2);have w:=jj (s:=s) (m:=t) (h:=h) (i:=2*r.number - 1);obtain ⟨A,v_⟩:∃A,A=OP s h (2*r.number - 2) d_:=X_;obtain ⟨B,y_⟩:∃B,B=OP s h (2*r.number - 1) t:=X_;rw[<-v_]at z f |-;rw[<-y_]at D w |-;clear v_ y_;refine aA<|S<|aN a7<|Cq (wA cK bD)<|Cq (kc Ni (hid _))<|Cq (wA cK bD)<|Cq (kc call118 (n _))<|Cq U<|Cq U<|bL<|Kr<|Sz U<|S<|C V<|Y V<|Y (bA AC)<|Y (bS M_)<|Y (by exact qO Z Z Z (pW (by omega) (by omega)))<|Y (by exact dV Z Z Z (pW (by omega) (by omega)))<|Y V<|Y (kc call119 (z _))<|Y V<|Y dH<|Y dH<|Y (bA zI)<|Uu (by exact qN Z sizeOf48 Z Z Z Z Z Z Z (r9 Z) Z Z)<|O U<|C V<|O zX<|Cn ?_ ?_<;>intro y
 ·have d:A.2≠0:=by have:=y;intro e;simp_all
  rw[b6 d];refine C (oN SW)<|Y V<|Uu (iZ bD)<|O U<|aC<|iB (H':=[]) (.inr Z) Z (eY Z cK bD Z Z Z (by simp only[Zl,S_];rfl) Z) (aJ Z) (Fin.wk (by simp[dR]) T_ T_) ?_;exact Qq
 have c:A.2=0:=by have:=y;by_cases e:A.2=0;exact e;rw[decide_eq_false e]at this;cases this
 rw[a8 (by omega)];have f:=(f c).1;obtain ⟨A_,Q⟩:∃A_,A_=(if uC r.priv=true then GS (mk1 r A.1)else if B.2≠0 then(zR,B.2)else GS (Ik r A.1 B.1)):=X_;rw[<-Q];have v:uC r.priv=true->A_=GS (Ik r A.1 zS):=fun e=>by rw[Q,b6 e];rfl
 have i:uC r.priv=false->B.2≠0->A_=(zR,B.2):=fun e e2=>by simp_all
 have u:uC r.priv=false->B.2=0->A_=GS (Ik r A.1 B.1):=fun e e2=>by simp_all
 have P:uC (mk1 r zS).priv=uC r.priv:=rfl;rw[P]at j;clear Q;obtain ⟨W,l⟩:∃W,W=uC r.priv:=X_;rw[<-l]at j v i u;refine aA<|eM (fun(b:m9)=>([(3,.ref 3 0 0 0),(6,.ref 6 0 0 0)],[(6,bx 21 53 ((dR zR).map .pv)),(3,bx 21 53 ((dR (Ik r A.1 b)).map .pv))])) (fun b=>xP b/\A_=GS (Ik r A.1 b)) ?_ ?_
 ·refine C (bA iE)<|Y (wA Av sizeOf51)<|Y (kc call120 (j _))<|O iW<|Cn ?_ ?_<;>intro p
  ·have G:=not_not p;refine C V<|Y V<|Y (bA AC)<|Y (bS M_)<|Y (by exact qO Z Z Z (pW (by omega) (by omega)))<|Y (by exact dV Z Z Z (pW (by omega) (by omega)))<|Y V<|Y (kc call119 (D _))<|Y V<|Y dH<|Y dH<|Y (bA iE)<|Y (bA EU)<|Uu (by exact qN Z sizeOf48 Z Z Z Z Z Z Z (r9 Z) Z Z)<|O U<|C V<|O zX<|Cn ?_ ?_<;>intro E
   ·have d:B.2≠0:=by have:=E;intro e;rw[e]at this;exact absurd this (by decide)
    rw[i G d];refine C (oN SW)<|Y V<|Uu (iZ bD)<|O U<|aC<|iB (H':=[]) (.inr Z) Z (eY Z cK bD Z Z Z (by simp only[Zl,S_];rfl) Z) (aJ Z) (Fin.wk (by simp[dR]) T_ T_) ?_;exact Qq
   have c:B.2=0:=by have:=E;by_cases e:B.2=0;exact e;rw[decide_eq_false e]at this;cases this
   refine aA ?_;exact⟨B.1,⟨YD (w c).1,u G c⟩,Wk⟩
  have G:=pJ p;refine aA ?_;exact⟨zS,⟨Zh,v G⟩,Wk⟩
 rintro b ⟨o_,i⟩;rw[i,GS];have k:=fun H=>XE (Ik r A.1 b) (Hy u_ (YD f) o_) F H;obtain ⟨T,hT⟩:∃T,T=mH (Ik r A.1 b):=X_;rw[<-hT]at k |-;refine S<|C (wA cK bD)<|Y (kc aEe (k _))<|Y V<|Y dH<|Y dH<|Y U<|O U<|C V<|O zX<|Cn ?_ ?_<;>intro o
 ·have d:T.2≠0:=by have:=o;intro e;rw[e]at this;exact absurd this (by decide)
  rw[b6 d];refine C (oN SW)<|Y V<|Uu (iZ bD)<|O U<|aC<|iB (H':=[]) (.inr Z) Z (eY Z cK bD Z Z Z (by simp only[Zl,S_];rfl) Z) (aJ Z) (Fin.wk (by simp[dR]) T_ T_) ?_;exact Qq
 have c:T.2=0:=by have:=o;by_cases e:T.2=0;exact e;rw[decide_eq_false e]at this;cases this
 rw[a8 (by rw[c];decide)];refine aA<|C (wA cK bD)<|Uu (iZ bD)<|O U<|aC<|iB (H':=[]) (.inr Z) Z (eY Z cK bD Z Z Z (by simp only[Zl,S_];rfl) Z) (aJ Z) (Fin.wk (by simp[dR]) T_ T_) ?_;exact Qq
abbrev Bq(e:Int):Ob:=bx 1 25 [iv e]
abbrev Bn(x:j8):Ob:=bx 21 53 ((dR x).map .pv)
abbrev kh(x:j8)(e:Int):aF:=[(3,Bq e),(2,Bn x)]
abbrev eAJ:Ob:=bx 1 25 [.any]
abbrev rAJ:Ob:=bx 21 53 [.any,.any,.any,.any,.any,.any,.any,.any,.any,.any,.any,.any,.any,.any,.any,.any,.any,.any,.any,.any,.any]
abbrev pAJ:aF:=[(3,eAJ),(2,rAJ)]
abbrev dcJ:List AV:=[.ref 2 0 0 0,.ref 3 0 0 0]
theorem Yk(x)(e):ZJ Tryz.prog 97 dcJ (kh x e) .returning (fun H2=>H2=kh x e):=by
 refine KY (x:=MG) func97 Z ntmps97 (r9 Z) Z Z Z Z Z Z (fun w I=>.sat Z Z) (.inl ⟨Z,Z⟩)<|S0<|KU<|sB<|N0 Z Z Z (lf Z K6 Z)<|F3<|M7 Z (fun b=>?_) (fun b=>?_)
 ·refine sB<|N0 Z Z Z (xO Z Z)<|F3 ?_;exact⟨.inl Z,kh x e,Fin.wk H_ (Hb<|Hb<|T_) ⟨Z,Z,T_⟩,Z⟩
 cases b
theorem Yl:ZJ Tryz.prog 97 dcJ pAJ (.panicking HQ) (fun H2=>H2=kh zR 5):=by
 refine KY (x:=.ifa 124 []) func97 Z ntmps97 (r9 Z) Z Z Z Z Z Z (fun w I=>.ifa _ _ _ Z H_) (.inr ⟨_,Z,Z⟩)<|S0<|KU<|sB<|N0 Z Z Z (lg Z K6 Z)<|F3<|M7 Z (fun c=>?_) (fun c=>?_)
 ·cases c
 refine KU<|sB<|N0 Z Z Z (RG Z (dP yN Z) Z)<|N0 Z Z Z (vB Z Z Z)<|N0 Z Z Z (vB Z Z Z)<|F3<|M7 Z (fun b=>?_) (fun b=>?_)
 ·refine KU<|sB<|N0 Z Z Z (lk Z Am)<|Mb Z Z (kz Z Z Z sizeOf124)<|F3<|sB<|N0 Z Z Z (OG Z SW Z Z)<|Mb Z Z (lU Z bD Z Z Z Z Z Z Z Z)<|Mb Z Z (lU Z sizeOf25 Z Z Z Z Z Z Z Z)<|F3 ?_;exact⟨.inl Z,kh zR 5,Fin.wk H_ (Hb<|Hb<|T_) ⟨Z,Z,T_⟩,Z⟩
 cases b
theorem aAC(s:B_)(A_:s.size<2^40)(g:(fD s).2.1=0):aS Tryz.prog 203 [sv s] [] (fun r H'=>r=.tup [.osl 905 (fD s).1.length 0 (fD s).1.length,iv 0,iv (fD s).2.2]/\H'=[(905,⟨(fD s).1.length,3,189,lN (fD s).1⟩)]):=by
 refine Bd func203 Z ntmps203<|C (kl 2 Vh)<|Y (kl 3 Wu)<|O (kl 4 Wt)<|S<|C V<|Y (gR U_)<|O jK<|Cn ?_ ?_<;>intro v
 ·have e:fD s=([],2,-1):=by rw[fD,b6 (by have:=b9 v;omega)]
  rw[e]at g;exact absurd g (by decide)
 have P:¬ 20000<s.size:=by have:=b_ v;omega
 obtain ⟨b,i⟩:∃b,b=jZ s (s.size+1) 0:=X_;have v_:fD s=kI [] b:=by rw[fD,a8 P,i]
 refine aA<|Sz (kl 5 Bv)<|S<|C V<|O (kc call254 (Z5 s _ Z Z Z (dD.ofL ⟨(by simp_all),(by simp_all),(by simp_all),(by simp_all),T_⟩)))<|aD ?_;refine fZ.ent (E':=[(2,.ref 2 0 0 0),(3,.ref 3 0 0 0),(4,.ref 4 0 0 0),(5,.ref 5 0 0 0),(11,.clo 290 [.ref 921 0 0 0,.ref 924 0 0 0])]) (H':=[(905,⟨0,3,189,[]⟩),(5,bx 1 185 [.osl 905 0 0 0]),(924,tA),(923,tC),(921,tS s),(4,bx 1 3 [iv 0]),(3,bx 1 25 [iv 0]),(2,bx 1 185 [.pv (.sl [])])]) ?_ ?_
 ·exact(cJ.nz 905 3 189 Z Z ⟨⟨_,Z,(by exact Nz.same (by(simp;rfl)))⟩,⟨_,Z,(by exact Nz.same (by(simp;rfl)))⟩,⟨_,Z,(by exact Nz.same (by(simp;rfl)))⟩,⟨_,Z,(by exact Nz.same (by(simp;rfl)))⟩,⟨_,Z,(by exact Nz.same (by(simp;exact⟨Z,Z⟩)))⟩,T_⟩ ⟨⟨_,Z,Z,Z,Z,(by exact .inr ⟨_,_,rfl,rfl,(by repeat(first|exact trivial|refine⟨(by exact Nz.own),?_⟩))⟩)⟩,⟨_,Z,Z,Z,Z,(by exact .inl ⟨Z,(by exact sK Z Z)⟩)⟩,⟨_,Z,Z,Z,Z,(by exact .inl ⟨Z,(by exact kB _)⟩)⟩,⟨_,Z,Z,Z,Z,(by exact .inl ⟨Z,(by exact sJ _ _)⟩)⟩,⟨_,Z,Z,Z,Z,(by exact .inl ⟨Z,(by(simp;done))⟩)⟩,⟨_,Z,Z,Z,Z,(by exact .inl ⟨Z,(by(simp;done))⟩)⟩,⟨_,Z,Z,Z,Z,(by exact .inl ⟨Z,(by(simp;done))⟩)⟩,T_⟩ T_)
 have hdl:b.length<=s.size+1:=by rw[i];exact AX s _ _
 obtain ⟨j,W⟩:∃j,j=yQ (sS b) b.length 0:=X_;have G:j<=b.length:=by have:=(FL (sS b) b.length 0).2;omega
 have u:∀k,k<j->sS b k=true:=fun k K=>JD (sS b) b.length 0 k (l6 _) (by rw[<-W];exact K);have L:j<b.length->sS b j=false:=fun h=>by have:=xB (sS b) b.length 0 (by omega);rwa [<-W]at this
 have m:=MK G u;refine BS (id:=904) (p:=12) vD Z call290 Z Z (by simp[vD];exact⟨Z,Z,Z,Z⟩) ?_;intro x E A u_ e_ T R;have o:∀(k:Nat) (d:a_),b[k]?=some d->k<=j ->
   dF Tryz.prog (.yld 904 0) [.agg ((KO d).map .pv)] ((904,LR x vD)::(926,tF d)::kL s (b.take k) (.pv (.sl [])) 0 0) (fun r H'=>r=bv (sS b k)/\H'=(if sS b k then(904,LR x vD)::(926,tF d)::kL s (b.take (k+1)) (.pv (.sl [])) 0 0 else(904,LR (left x .ret) vD)::(926,tF d)::kL s (b.take k) (.pv (.sl [])) (if d.err≠0 then d.err else 2) d.pos)):=by
  intro k d y hkj;have g:=J2 y;have hkl:k<b.length:=(m_.1 y).1;have htl:(b.take k).length=k:=by rw[q7];omega
  have I:b.take (k+1)=b.take k++[d]:=by rw[List.take_add_one,y];rfl
  refine .inl ⟨904,0,Z,?_⟩;refine LC [(2,.ref 2 0 0 0),(3,.ref 3 0 0 0),(4,.ref 4 0 0 0),(5,.ref 5 0 0 0),(6,.ref 907 0 0 0)] ((907,tF d)::(926,tF d)::kL s (b.take k) (.pv (.sl [])) 0 0) E A u_ e_ T R Z Z Z ?_ ?_
  ·refine Rd (kl 907 By)<|Uu (iZ IL)<|Zz ?_;exact(cJ.wk (Ea<|Ea<|Ea<|Ea<|Ea<|T_) (Hc (nU (by simp[vD];exact⟨Z,Z,Z,Z⟩))<|Hc (zO _ _)<|Hc (zO _ _)<|Hc (cS _ _)<|Ha<|Hc (sK Z Z)<|Hc (kB _)<|Hc (sJ _ _)<|Hb<|Hb<|Hb<|T_) ⟨Z,Z,Z,Z,Z,Z,Z,Z,Z,Z,T_⟩)
  refine aD<|S<|aD<|C (bA sZ)<|Y (bS mX)<|Y zX<|Da<|Cn ?_ ?_<;>intro F
  ·have q:d.err≠0:=by have h:=F;rw[r8,q6]at h;exact h
   have w:sS b k=false:=by rw[g,decide_eq_false q];rfl
   rw[w,a8 (by decide),b6 q];refine S<|aN a7<|Cr [907] (fun _ h=>fh sZ h)<|Cr [907] (fun _ h=>lh mX h)<|Cr [907] (fun _ h=>fh oK h)<|Cr [907] (fun _ h=>fh O9 h)<|Cr [907] (fun _ h=>lh M_ h)<|Cp [2] (fun _ h=>sa nT h)<|Cp [3] (fun _ h=>sa sizeOf25 h)<|Cp [4] (fun _ h=>sa sizeOf3 h)<|bL<|Kr<|aC ?_;exact⟨(926,tF d)::kL s (b.take k) (.pv (.sl [])) d.err d.pos,(cJ.wk T_ (Hc (nU (by simp[vD];exact⟨Z,Z,Z,Z⟩))<|Hc (zO _ _)<|Hc (cS _ _)<|Ha<|Hc (sK Z Z)<|Hc (kB _)<|Hc (sJ _ _)<|Hb<|Hb<|Hb<|T_) ⟨Z,Z,Z,Z,Z,Z,Z,Z,Z,Z,T_⟩),Z,Z⟩
  have q:d.err=0:=by have h:=F;rw[Bool.not_eq_false',k_]at h;exact h
  refine C (bS nD)<|Y (by exact dQ Z cP Z Z Z)<|Y cD<|Da<|Cn ?_ ?_<;>intro D
  ·have t:k=5000:=by have:=b9 D;omega
   have w:sS b k=false:=by rw[g,decide_eq_true q,decide_eq_true t];rfl
   rw[w,a8 (by decide),a8 (fun h=>h q)];refine S<|aN a7<|Cr [907] (fun _ h=>fh oK h)<|Cr [907] (fun _ h=>fh O9 h)<|Cr [907] (fun _ h=>lh M_ h)<|Cp [2] (fun _ h=>sa nT h)<|Cp [3] (fun _ h=>sa sizeOf25 h)<|Cp [4] (fun _ h=>sa sizeOf3 h)<|bL<|Kr<|aC ?_;exact⟨(926,tF d)::kL s (b.take k) (.pv (.sl [])) 2 d.pos,(cJ.wk T_ (Hc (nU (by simp[vD];exact⟨Z,Z,Z,Z⟩))<|Hc (zO _ _)<|Hc (cS _ _)<|Ha<|Hc (sK Z Z)<|Hc (kB _)<|Hc (sJ _ _)<|Hb<|Hb<|Hb<|T_) ⟨Z,Z,Z,Z,Z,Z,Z,Z,Z,Z,T_⟩),Z,Z⟩
  have t:¬ k=5000:=by have:=b_ D;omega
  have w:sS b k=true:=by rw[g,decide_eq_true q,decide_eq_false t];rfl
  rw[w,b6 Z,I,Jb];refine aA<|Rd (bS nD)<|Y (bA oK)<|Y (wA iS sizeOf189)<|Y (by exact aK [K_ d] Z hU Z Z Z Z Z R_)<|Y (by exact cA (ps:=[K_ d]) Z hU um Z Z Z Z Z (xH _) Z R_ (m:=1) Z (by omega) Z (B3 (b.take k) d))<|Uu (iZ nT)<|Zz ?_;exact⟨(926,tF d)::[(905,⟨(b.take k).length+1,3,189,lN (b.take k++[d])⟩),(5,bx 1 185 [.osl 905 ((b.take k).length+1) 0 ((b.take k).length+1)]),(924,tA),(923,tC),(921,tS s),(4,bx 1 3 [iv 0]),(3,bx 1 25 [iv 0]),(2,bx 1 185 [.pv (.sl [])])],(cJ.wk T_ (Hc (nU (by simp[vD];exact⟨Z,Z,Z,Z⟩))<|Hc (zO _ _)<|Hc (cS _ _)<|Ha<|Hc (sK Z Z)<|Hc (kB _)<|Hc (sJ _ _)<|Hb<|Hb<|Hb<|T_) ⟨Z,Z,Z,Z,Z,Z,Z,Z,Z,Z,T_⟩),Z,Z⟩
 rcases Nat.lt_or_ge j b.length with n|o_
 ·obtain ⟨f,Q⟩:=aU n;have B:=L n;have f_:b.drop j=f::b.drop (j+1):=by
   rw[List.drop_eq_getElem_cons n];rw[m8 n]at Q;cases Q;rfl
  have d_:fD s=([],(if f.err≠0 then f.err else 2),(f.pos:Int)):=by
   rw[v_,m,f_,kI]
   split
   ·rfl
   rename_i q;have c_:f.err=0:=by
    by_cases h:f.err=0
    ·exact h
    exact absurd h q
   rw[J2 Q,decide_eq_true c_,Bool.true_and,Bool.not_eq_false',k_]at B;rw[b6 (by rw[q7];omega)]
  rw[d_]at g;have g:(if f.err≠0 then f.err else 2)=0:=g
  split at g
  ·next h=>exact absurd g h
  exact absurd g (by decide)
 have N:j=b.length:=Nat.le_antisymm G o_;rw[N,List.take_length,List.drop_length]at m;rw[v_,m,kI];refine(LH s (.yld 904 0) (fun k=>(904,LR x vD)::kL s (b.take k) (.pv (.sl [])) 0 0) (sS b) b.length A_ (fun k=>rfl) (fun k=>rfl) (fun k=>rfl) (fun k=>rfl) (fun k=>(dD.ofL ⟨(by exact nU (by simp[vD];exact⟨Z,Z,Z,Z⟩)),(by exact cS _ _),(by(simp;rfl)),(by exact sK Z Z),(by exact kB _),(by exact sJ _ _),(by(simp;done)),(by(simp;done)),(by(simp;done)),T_⟩)) (fun k=>by simp;rfl) (by rw[<-i];exact j6 _) (fun k K=>u k (by omega)) (.inl (by rw[<-i])) ?_).mono ?_
 ·rw[<-i];intro k d y K;have p:=o k d y (by omega);have g:=u k (by omega);rw[g,b6 rfl]at p;rw[g];exact dF.congrG p (fun j=>mT (by decide) j) (fun j=>mT (by decide) j)
 rintro r H' ⟨rfl,rfl⟩;rw[List.take_length];refine⟨x,_,Z,by rw[E];decide,Z,fun z=>?_⟩;rw[A];refine C (bS nD)<|Uu (iZ nT)<|Uu (iZ sizeOf25)<|Uu (iZ sizeOf3)<|Zz<|aC<|mA (H':=[(905,⟨b.length,3,189,lN b⟩)]) (.inr Z) Z (iJ Z nD Z Z Z Z) (iJ Z mX Z Z Z Z) (iJ Z M_ Z Z Z Z) (Fin.wk (by(simp;rfl)) (Hc (cS _ _)<|T_) T_) ?_;exact Qq
theorem aAB(s)(H)(c:s.size<2^40)(b:(fD s).2.1=0)(hH:H.get 905=none):aS Tryz.prog 203 [sv s] H (fun r H'=>r=.tup [.osl 905 (fD s).1.length 0 (fD s).1.length,iv 0,iv (fD s).2.2]/\H'=(905,⟨(fD s).1.length,3,189,lN (fD s).1⟩)::H) :=aS.frame (aAC s c b) (fun _ _ h=>by cases h) (fun _ _ h=>by cases h) H_ (fun id h=>.inr (by
  by_cases e:id=905
  ·simp_all
  rw[get_cons_other _ _ e]at h;cases h))
theorem JE(f:α->List _)(l:List _):l.map (fun e=>(f e).map AV.pv)=(l.map f).map (·.map .pv):=H_
theorem lS(f:α->List PV)(l:List _):((l.map f).take (0+l.length)).drop 0=l.map f:=List.take_of_length_le H_
theorem yw(f)(H):RC 285 [av (K_ f)] (bv (kJ f)) H:=by
 refine Pu<|Bd func285 Z ntmps285<|C (uP (id:=1) Z Z Z Z Z)<|O U<|S<|aR (t:=2) (n:=10) (A_:=kJ f) ?_ ?_
 ·all_goals refine Y (bA iF)<|Y (bS N_)<|Y xA<|Dm ?_<;>(refine Sp 6 (fun b=>?_) fun b=>?_)<;>(first|refine M<|M<|M ?_|refine J (bA uS)<|J (bS M_)<|J cD ?_)<;>refine Y cE<|Da ?_<;>exact Gj (h:=by(simp only[kJ, *];rfl))
 exact aC<|Rt<|Qq
theorem MP(l)(H:aF)(hl:l.length<2^62):
  RC 284 [.pv (CA l),.pv (.fn 285)] (iv (zZ kJ l)) H:=by
 refine Pu ?_;have hml:(l.map K_).length=l.length:=g_ _;refine Bd func284 Z ntmps284<|Sz U<|S<|C V<|Y (fY cP)<|O V<|aD<|bC (σ:=Nat) (fun k=>([(0,.pv (CA l)),(1,.pv (.fn 285)),(7,iv ((l.map K_).length:Int)),(8,iv (k:Int))],[])) (fun k=>k<=l.length/\∀j,j<k->∀b,l[j]?=some b->kJ b=false) (fun k=>l.length - k) 0 ⟨X,X⟩ ?_ ?_
 ·exact E0
 rintro k ⟨hk,d⟩;refine Sz cM<|S<|Cn ?_ ?_<;>intro f
 ·have i:k<l.length:=I_ f
  obtain ⟨o,h⟩:=aU i;have hi:=cC (f:=K_) h;refine aA<|S<|aD<|C V<|O U<|C V<|Y V<|Y V<|Y (iN hU)<|Y (by exact eV Z iS sizeOf189 Z (by omega) (Z) Z)<|O (by exact cZ Z Z Z (dF.fn call285 (yw o _)))<|Cn ?_ ?_<;>intro e
  ·refine C V<|O U<|aC<|Rt ?_;exact⟨by rw[zZ,WH d h e],Z⟩
  refine aA<|Rd gV<|O V ?_;exact⟨k+1,⟨X,RA d h e⟩,X,E0⟩
 have g:k=l.length:=J_ f
 subst g;refine aP<|Sz U<|aC<|Rt ?_;exact⟨by rw[zZ,WI d],Z⟩
def JR(T:List a_)(k:Nat):List a_:=T++List.replicate k J7
theorem JQ(T)(k):(JR T k).length=T.length+k:=by rw[JR,j9,List.length_replicate]
theorem Hd(T)(k):lN (JR T k)++[(K_ J7).map AV.pv]=lN (JR T (k+1)):=by rw[B3,JR,JR,List.replicate_succ',List.append_assoc]
def kF(s:B_):Nat->Int
 |0=>0
 |j+1=>if eD ((j+1:Nat):Int)=s then((j+1:Nat):Int)else kF s j
theorem tp(s):kF s 5=DJ s:=by simp only[kF,DJ,eq_comm];rfl
theorem PX:∀l,rM l=fF l (l.length / 3)
 | []=>rfl
 | [a]=>by simp[rM,fF]
 | [a,b]=>by simp[rM,fF]
 |a::b::c::r=>by
  rw[rM,PX r];have d:(a::b::c::r).length=r.length+3:=rfl;rw[d,Nat.add_div_right _ H_,fF,fF,List.range_succ_eq_map,List.map_cons,List.map_map];rfl
theorem Lv(s):atV s=(pU s).1:=by rw[atV,pU];all_goals grind
abbrev oR(id:B_)(k x y:Int)(n m:Nat):Ob:=bx 6 135 [sv id,iv k,iv x,iv y,.osl 906 n 0 n,.osl 907 m 0 m]
def ZL(L:List a_):Ob:=⟨L.length,3,189,lN L⟩
def rH(L:List a_)(id:B_)(k x y:Int)(R:List B_)(G:List l_):aF:=[(907,⟨G.length,2,270,sI G⟩),(906,⟨R.length,1,9,bZ R⟩),(3,oR id k x y R.length G.length),(905,ZL L),(2,bx 6 135 ((bM h_).map .pv))]
abbrev rE(L:List a_):cY:=[(0,.osl 905 L.length 0 L.length),(2,.ref 2 0 0 0),(3,.ref 3 0 0 0)]
theorem aD3(L)(id)(k x y)(R)(s)(G):rH L id k x y (R++[s]) G=[(907,⟨G.length,2,270,sI G⟩),(906,⟨R.length+1,1,9,bZ (R++[s])⟩),(3,oR id k x y (R.length+1) G.length),(905,ZL L),(2,bx 6 135 ((bM h_).map .pv))]:=by simp[rH]
theorem aBd(L)(id)(k x y)(R)(t)(G):rH L id k x y R (G++[t])=[(907,⟨G.length+1,2,270,sI (G++[t])⟩),(906,⟨R.length,1,9,bZ R⟩),(3,oR id k x y R.length (G.length+1)),(905,ZL L),(2,bx 6 135 ((bM h_).map .pv))]:=by simp[rH]
theorem B2{L}{f}(h:L[i]?=some f):(lN L)[i]?=some [iv f.kind,sv f.text,iv (f.pos)]:=by rw[lN,r6,h];rfl
theorem Ya(T:List a_)(hl:T.length<549755813888)(F:∀f∈vQ T,f.text.size<2^40):aS Tryz.prog 252 [.osl 905 T.length 0 T.length] [(905,ZL T)] (fun r H'=>r=av (bM (sW T))/\H'=[(905,ZL (vQ T))]):=by
 refine Bd func252 Z ntmps252<|Sz (kl 2 UF)<|S<|aD<|bC (σ:=Nat) (fun k=>([(0,.osl 905 (JR T k).length 0 (JR T k).length),(2,.ref 2 0 0 0)],[(905,ZL (JR T k)),(2,bx 6 135 ((bM h_).map .pv))])) (fun k=>k<=4 - T.length) (fun k=>4 - T.length - k) 0 (l6 _) ?_ ?_
 ·rw[show JR T 0=T by simp[JR]];exact(cJ.wk (Ea<|Ea<|T_) (Hc (cS _ _)<|Hb<|T_) ⟨Z,T_⟩)
 rintro k hk;have K:=JQ T k;unfold ZL;refine S<|C V<|Y (by exact dQ Z cP Z Z Z)<|O cM<|Cn ?_ ?_<;>intro y_
 ·have z_:T.length+k<4:=by have:=b9 y_;rw[K]at this;omega
  refine aA<|aD<|Rd V<|Y (oN G3)<|Y (by exact aK [K_ J7] Z hU Z Z Z Z Z R_)<|Y (by exact cA (ps:=[K_ J7]) Z hU um Z Z Z Z Z (xH _) Z R_ (m:=1) Z (by omega) Z (Hd T k))<|Da ?_;refine⟨k+1,by omega,by omega,?_⟩;rw[show (JR T (k+1)).length=(JR T k).length+1 by rw[JQ,JQ];omega];exact(cJ.wk (Ea<|Ea<|T_) (Hc (cS _ _)<|Hb<|T_) ⟨Z,T_⟩)
 have W:4<=T.length+k:=by have:=b_ y_;rw[K]at this;omega
 obtain rfl:k=4 - T.length:=by omega
 obtain ⟨L,hL⟩:∃L,L=JR T (4 - T.length):=X_;have G:vQ T=L:=by rw[hL];rfl
 have hLl:4<=L.length/\L.length<549755813893:=by rw[hL,JQ];omega
 rw[G]at F;rw[G,<-hL];clear K;obtain ⟨I,v_⟩:=aU (show 0<L.length by omega);obtain ⟨t1,ht1⟩:=aU (show 1<L.length by omega);obtain ⟨P,c_⟩:=aU (show 2<L.length by omega);obtain ⟨Q,o_⟩:=aU (show 3<L.length by omega);have w:=B2 v_;have hr1:=B2 ht1;have s:=B2 c_;have hr3:=B2 o_;have hd:∀ {i:Nat} {f:a_},L[i]?=some f->L.getD i J7=f:=fun {i f} h=>by rw[List.getD_eq_getElem?_getD,h];rfl
 have hR:=sW.eq_1 T;rw[G,hd v_,hd ht1,hd c_,hd o_]at hR;refine aP<|C V<|Y (by exact dI Z hU Z Z Z Z Z (by omega) (by exact l8 _) (show 1<L.length by omega) Z)<|Y (bA iF)<|Y (by exact aX Z N_ Z Z Z hr1 Z)<|Y (oN La)<|Y (kl 3 Bw)<|Uu (iZ sizeOf135)<|Zz<|S<|S ?_;refine fZ.ent (E':=rE L) (H':=[(906,⟨0,1,9,[]⟩),(3,bx 6 135 [sv t1.text,iv 0,iv 0,iv 0,.osl 906 0 0 0,.pv .nils]),(905,ZL L),(2,bx 6 135 ((bM h_).map .pv))]) (cJ.nz 906 1 9 Z Z ⟨⟨_,Z,(by exact Nz.same (by(simp;rfl)))⟩,⟨_,Z,(by exact Nz.same (by(simp;rfl)))⟩,⟨_,Z,(by exact Nz.same (by(simp;rfl)))⟩,T_⟩ ⟨⟨_,Z,Z,Z,Z,(by exact .inr ⟨_,_,rfl,rfl,(by repeat(first|exact trivial|refine⟨(by first|exact Nz.own|exact Nz.same (by(simp;done))),?_⟩))⟩)⟩,⟨_,Z,Z,Z,Z,(by exact .inl ⟨Z,(by exact cS _ _)⟩)⟩,⟨_,Z,Z,Z,Z,(by exact .inl ⟨Z,(by(simp;done))⟩)⟩,T_⟩ ⟨Z,T_⟩) ?_;refine fZ.ent (E':=rE L) (H':=rH L t1.text 0 0 0 [] []) (cJ.nz 907 2 270 Z Z ⟨⟨_,Z,(by exact Nz.same (by(simp;rfl)))⟩,⟨_,Z,(by exact Nz.same (by(simp;rfl)))⟩,⟨_,Z,(by exact Nz.same (by(simp;rfl)))⟩,T_⟩ ⟨⟨_,Z,Z,Z,Z,(by exact .inl ⟨Z,(by exact aW _ _)⟩)⟩,⟨_,Z,Z,Z,Z,(by exact .inr ⟨_,_,rfl,rfl,(by repeat(first|exact trivial|refine⟨(by first|exact Nz.own|exact Nz.same (by first|(simp;done)|(simp;rfl))),?_⟩))⟩)⟩,⟨_,Z,Z,Z,Z,(by exact .inl ⟨Z,(by exact cS _ _)⟩)⟩,⟨_,Z,Z,Z,Z,(by exact .inl ⟨Z,(by(simp;done))⟩)⟩,T_⟩ ⟨Z,T_⟩) ?_;refine Rg<|O U<|aD<|bC (σ:=Nat) (fun j=>(rE L++[(4,iv ((j+1:Nat):Int))],rH L t1.text (kF I.text j) 0 0 [] [])) (fun j=>j<=5) (fun j=>5 - j) 0 (l6 _) ?_ ?_
 ·exact(cJ.wk (Ea<|Ea<|Ea<|Eb<|T_) (Hc (kT _ _)<|Hc (aW _ _)<|Hc (by(simp;exact⟨Z,Z⟩))<|Hc (cS _ _)<|Hb<|T_) ⟨Z,T_⟩)
 rintro j hj;refine S<|C V<|O IN<|Cn ?_ ?_<;>intro A_
 ·have hj5:j<5:=by have:=b9 A_;omega
  refine aA<|S<|aD<|S<|aN a7<|Cq V<|Cq (kc AK (G5 ((j+1:Nat):Int) _))<|Cq V<|Cq (by exact dI Z hU Z Z Z Z Z (by omega) (by exact l8 _) (show 0<L.length by omega) Z)<|Cq (bA iF)<|Cq (by exact aX Z N_ Z Z Z w Z)<|Cq xA<|bL<|Kr<|Cn ?_ ?_<;>intro hc3
  ·have hw:eD ((j+1:Nat):Int)=I.text:=b9 hc3;refine Rd V<|Y (bA eA)<|Uu (by exact cQ Z sizeOf3 Z Z Z Z Z Z (by simp only[j7,List.length_nil];omega) (by simp only[Zl,bP,bM,S_,gK,K_];rfl) (by simp only[Zl,bP,bM,S_,gK,K_];rfl))<|Zz<|Rd V<|Y gV<|Da ?_;refine⟨j+1,by omega,by omega,?_⟩;rw[show kF I.text (j+1)=((j+1:Nat):Int)by rw[kF,b6 hw]];exact(cJ.wk (Ea<|Ea<|Ea<|Eb<|T_) (Hc (kT _ _)<|Hc (aW _ _)<|Hc (by(simp;exact⟨Z,Z⟩))<|Hc (cS _ _)<|Hb<|T_) ⟨Z,T_⟩)
  have hw:eD ((j+1:Nat):Int)≠I.text:=b_ hc3;refine aA<|Rd V<|Y gV<|Da ?_;refine⟨j+1,by omega,by omega,?_⟩;rw[show kF I.text (j+1)=kF I.text j by rw[kF,a8 hw]];exact(cJ.wk (Ea<|Ea<|Ea<|Eb<|T_) (Hc (kT _ _)<|Hc (aW _ _)<|Hc (by(simp;exact⟨Z,Z⟩))<|Hc (cS _ _)<|Hb<|T_) ⟨Z,T_⟩)
 have hj5:j=5:=by have:=b_ A_;omega
 subst hj5;rw[tp];obtain ⟨A,hkd⟩:∃A,A=DJ I.text:=X_;rw[<-hkd]at hR |-;have htk:(lN L).length=L.length:=xH L;refine aP<|C V<|Y (by exact kO (l:=4) (h:=L.length) Z hU Z Z Z Z Z Z (by omega) (by omega) Z Z)<|O U<|S<|C (bA eA)<|Y (bS M_)<|O cD<|Cn ?_ ?_<;>intro R
 ·have z:A=1:=b9 R;have hR2:sW T=⟨t1.text,1,atV P.text,atV Q.text,[],rM (L.drop 4)⟩:=by rw[hR,b6 z]
  subst z;refine C V<|Y (by exact dI Z hU Z Z Z Z Z (by omega) (by exact l8 _) (show 2<L.length by omega) Z)<|Y (bA iF)<|Y (by exact aX Z N_ Z Z Z s Z)<|Y (kc vN (PB P.text (F _ (m7 c_)) _))<|Y V<|Y dH<|Y dH<|Y (bA mM)<|Y (bA mO)<|Uu (by exact cQ Z sizeOf3 Z Z Z Z Z Z (by simp only[j7,List.length_nil];omega) (by simp only[Zl,bP,bM,S_,gK,K_];rfl) (by simp only[Zl,bP,bM,S_,gK,K_];rfl))<|Zz<|Rd V<|Y (by exact dI Z hU Z Z Z Z Z (by omega) (by exact l8 _) (show 3<L.length by omega) Z)<|Y (bA iF)<|Y (by exact aX Z N_ Z Z Z hr3 Z)<|Y (kc vN (PB Q.text (F _ (m7 o_)) _)) ?_;refine Y V<|Y dH<|Y dH<|Y (bA mM)<|Y (bA mN)<|Uu (by exact cQ Z sizeOf3 Z Z Z Z Z Z (by simp only[j7,List.length_nil];omega) (by simp only[Zl,bP,bM,S_,gK,K_];rfl) (by simp only[Zl,bP,bM,S_,gK,K_];rfl))<|Zz<|S<|aD ?_;obtain ⟨D,E⟩:∃D,D=L.drop 4:=X_;have hDl:D.length=L.length - 4:=by rw[E,p_]
  refine bC (σ:=Nat) (fun j=>(rE L++[(5,.osl 905 L.length (4+3*j) (L.length - 4 - 3*j))],rH L t1.text 1 (pU P.text).1 (pU Q.text).1 ([]:List B_) (fF D j))) (fun j=>3*j<=D.length) (fun j=>D.length - 3*j) 0 (l6 _) ?_ ?_
  ·exact(cJ.wk (Ea<|Ea<|Ea<|Ea<|T_) (Hc (kT _ _)<|Hc (aW _ _)<|Hc (by(simp;exact⟨Z,Z⟩))<|Hc (cS _ _)<|Hb<|T_) ⟨Z,T_⟩)
  rintro j hj;have d_:=EV D j;have hfl:=GW D j;refine S<|C V<|Y (by exact dQ Z cP Z Z Z)<|O jK<|Cn ?_ ?_<;>intro hc5
  ·have z_:3*j+2<D.length:=by have:=b9 hc5;omega
   obtain ⟨y,u⟩:∃f,L[4+3*j]?=some f:=aU (by omega);obtain ⟨x,v⟩:∃f,L[4+3*j+2]?=some f:=aU (by omega);have w:=B2 u;have s:=B2 v;have B:US D j=⟨y.text,x.text⟩:=by
    rw[US,E,List.getElem?_drop,List.getElem?_drop,u,show 4+(3*j+2)=4+3*j+2 from Z,v];rfl
   refine aA<|S<|aD<|aN a7<|Cs (fun _ h=>fh fV h)<|Cs (fun _ h=>lh dC h)<|Cs (fun _ _=>V)<|Cs (fun H1 hH=>by exact dI Z hU Z ((hH _ Z).trans Z) Z Z Z (by omega) (by exact l8 _) (show 0<L.length - 4 - 3*j by omega) Z)<|Cs (fun _ h=>fh iF h)<|Cs (fun H1 hH=>by exact aX Z N_ Z ((hH _ Z).trans Z) Z w Z)<|Cs (fun _ _=>V)<|Cs (fun H1 hH=>by exact dI Z hU Z ((hH _ Z).trans Z) Z Z Z (by omega) (by exact l8 _) (show 2<L.length - 4 - 3*j by omega) Z)<|Cs (fun _ h=>fh iF h)<|Cs (fun H1 hH=>by exact aX Z N_ Z ((hH _ Z).trans Z) Z s Z)<|Cs (fun _ _=>(oN Lb))<|Cs (fun H1 hH=>by exact aK [bP ⟨y.text,x.text⟩] Z lM Z Z Z Z Z R_) ?_;refine iH (r:=⟨_,none,[_]⟩) (DStep.plain Z (fun H1 hH=>by exact cA (ps:=[bP ⟨y.text,x.text⟩]) Z lM Ke Z ((hH _ Z).trans Z) Z Z Z (G8 _) Z R_ (m:=1) Z (by omega) Z (G9 (fF D j) ⟨y.text,x.text⟩))) Z ?_;refine Cs (fun _ h=>fh fV h)<|iH (r:=⟨_,none,[_]⟩) (DStep.plain Z (fun H1 hH=>by exact(by exact cQ Z sizeOf133 Z Z Z ((hH _ Z).trans Z) Z Z (by simp only[j7,List.length_nil];omega) (by simp only[Zl,bP,bM,S_,gK,K_];rfl) (by simp only[Zl,bP,bM,S_,gK,K_];rfl)))) Z ?_;refine bL<|Kr<|Rd V<|Y (by exact kO (l:=3) (h:=(L.length - 4 - 3*j)) Z hU Z Z Z Z Z Z (by omega) (by omega) Z Z)<|Da ?_;refine⟨j+1,by omega,by omega,?_⟩;dsimp only;rw[d_,B,aBd];exact(cJ.wk (Ea<|Ea<|Ea<|Ea<|T_) (Hc (kT _ _)<|Hc (aW _ _)<|Hc (by(simp;exact⟨Z,Z⟩))<|Hc (cS _ _)<|Hb<|T_) ⟨Z,T_⟩)
  have W:D.length<3*j+3:=by have:=b_ hc5;omega
  have N:D.length / 3=j:=by omega
  have hG:rM D=fF D j:=by rw[PX,N]
  refine aP<|S ?_;refine fZ.ent (cJ.fzG (id:=907) (E':=rE L) (H':=[(906,⟨(([]:List B_)).length,1,9,bZ (([]:List B_))⟩),(3,bx 6 135 [sv (t1.text),iv (1),iv ((pU P.text).1),iv ((pU Q.text).1),.osl 906 (([]:List B_)).length 0 (([]:List B_)).length,.pv (pX (fF D j))]),(905,ZL L),(2,bx 6 135 ((bM h_).map .pv))]) ((fF D j).map bP) Z (JE bP _) ?_ Z ?_ ?_) ?_
  ·intro p t;simp only[l7,n_,or_false]at t;rcases t with rfl|rfl|rfl<;>exact⟨_,Z,.same (by simp;rfl)⟩
  ·exact⟨⟨_,Z,Z,Z,Z,eJ (aW _ _)⟩,⟨_,Z,Z,Z,Z,lZ Z (bG (.same (by simp)) (bG (.same (by simp)) (bG (.same (by simp)) (bG (.same (by simp)) (bG (.same (by simp;rfl)) (bG (.osl (lS bP _)) kX))))))⟩,⟨_,Z,Z,Z,Z,eJ (cS _ _)⟩,⟨_,Z,Z,Z,Z,eJ (by simp)⟩,T_⟩
  ·exact⟨Z,T_⟩
  refine fZ.ent (cJ.fzG (id:=906) (E':=rE L) (H':=[(3,bx 6 135 [sv (t1.text),iv (1),iv ((pU P.text).1),iv ((pU Q.text).1),.pv (aL (([]:List B_))),.pv (pX (fF D j))]),(905,ZL L),(2,bx 6 135 ((bM h_).map .pv))]) ((([]:List B_)).map S_) Z (dU _) ?_ Z ?_ ?_) ?_
  ·intro p t;simp only[l7,n_,or_false]at t;rcases t with rfl|rfl|rfl<;>exact⟨_,Z,.same (by simp;rfl)⟩
  ·exact⟨⟨_,Z,Z,Z,Z,lZ Z (bG (.same (by simp)) (bG (.same (by simp)) (bG (.same (by simp)) (bG (.same (by simp)) (bG (.osl (lS S_ _)) (bG (.same (by simp)) kX))))))⟩,⟨_,Z,Z,Z,Z,eJ (cS _ _)⟩,⟨_,Z,Z,Z,Z,eJ (by simp)⟩,T_⟩
  ·exact⟨Z,T_⟩
  refine Rd (by exact aV Z bW sizeOf135 Z Z Z Z (by simp only[Zl,bP,bM,S_,gK,K_];rfl) Z)<|Uu (iZ sizeOf135)<|Zz<|aC ?_;refine cR (H':=[(905,ZL L)]) (.inr Z) Z (eY Z bW sizeOf135 Z Z Z (by simp only[Zl,bP,bM,S_,gK,K_];rfl) Z) (Fin.wk (by(simp;done)) (Hc (cS _ _)<|T_) ⟨Z,T_⟩) ?_;refine⟨?_,Z⟩;rw[(show sW T=⟨t1.text,1,(pU P.text).1,(pU Q.text).1,[],rM (L.drop 4)⟩by rw[hR2,Lv,Lv]),<-E,hG];rfl
 have z:A≠1:=b_ R;rw[a8 z]at hR;have hIx:=MP L [] (by omega);have hIr:∀H,H.get 905=some (ZL L)->RC 284 [.osl 905 L.length 0 L.length,.pv (.fn 285)] (iv (zZ kJ L)) H:=fun H hH =>
  RO.calls (RO.lend (id:=905) (H1:=[]) (L.map K_) (RO.of hIx Z) hH (JE K_ L) Z
   (bG (.osl (lS K_ L)) (bG (.same (by simp)) kX)) (fun _ _ h=>by cases h) (fun _ _ h=>by cases h) Z)
 refine C V<|Y (kc call284 (hIr _ Z))<|O U<|S<|C V<|O cM<|Cn ?_ ?_<;>intro f_
 ·have hlo:zZ kJ L<3:=b9 f_;rw[b6 hlo]at hR;rw[hR];refine C (oN E6)<|Uu (iZ sizeOf135)<|Zz<|aC<|cR (H':=[(905,ZL L)]) (.inr Z) Z (eY Z bW sizeOf135 Z Z Z (by simp only[Zl,bP,bM,S_,gK,K_];rfl) Z) (Fin.wk (by(simp;done)) (Hc (cS _ _)<|T_) ⟨Z,T_⟩) ?_;exact Qq
 have hlo:¬ zZ kJ L<3:=b_ f_;rw[a8 hlo]at hR;obtain ⟨q,hq,hqL⟩:∃q:Nat,zZ kJ L=(q:Int)/\q<L.length:=by
  rcases my kJ L with⟨e1,_⟩|⟨q,o,e1,e2,_⟩
  ·rw[e1]at hlo;exact absurd (by decide) hlo
  exact⟨q,e1,(m_.1 e2).1⟩
 rw[hq]at hR hlo |-;rw[l8]at hR;have hq3:3<=q:=by omega
 obtain ⟨e_,hM⟩:∃e_,e_=(L.take q).drop 3:=X_;have hMl:e_.length=q - 3:=by rw[hM,p_,q7];omega
 rw[<-hM]at hR;refine aA<|S<|C V<|Y V<|Y (by exact kO (l:=3) (h:=q) Z hU Z Z Z Z Z Z (by omega) (by omega) Z Z)<|Y (by exact dQ Z cP Z Z Z)<|O V<|aD<|bC (σ:=Nat) (fun i=>(rE L++[(5,.osl 905 L.length 4 (L.length - 4)),(6,iv (q:Int)),(66,.osl 905 L.length 3 (q - 3)),(67,iv ((q - 3:Nat):Int)),(68,iv (i:Int))],rH L t1.text A 0 0 ((e_.take i).map a_.text) [])) (fun i=>i<=e_.length) (fun i=>e_.length - i) 0 (l6 _) ?_ ?_
 ·exact(cJ.wk (Ea<|Ea<|Ea<|Ea<|Eb<|Ea<|Eb<|Eb<|T_) (Hc (kT _ _)<|Hc (aW _ _)<|Hc (by(simp;exact⟨Z,Z⟩))<|Hc (cS _ _)<|Hb<|T_) ⟨Z,T_⟩)
 rintro i hi;refine Sz cM<|S<|Cn ?_ ?_<;>intro u_
 ·have hiq:i<q - 3:=by have:=b9 u_;omega
  obtain ⟨f,hf⟩:=aU (show i<e_.length by omega);have hfL:L[3+i]?=some f:=by
   rw[hM,List.getElem?_drop,List.getElem?_take_of_lt (by omega)]at hf;exact hf
  have hrf:=B2 hfL;have hMt:(e_.take (i+1)).map a_.text=(e_.take i).map a_.text++[f.text]:=by rw[List.take_add_one,hf,List.map_append];rfl
  have hRl:((e_.take i).map a_.text).length=i:=by rw[g_,q7];omega
  refine aA<|S<|aD<|C (by exact dI Z hU Z Z Z Z Z (by omega) (by exact l8 _) (by omega) Z)<|Y (by exact aV Z iS sizeOf189 Z Z Z hrf (by simp only[Zl,bP,bM,S_,gK,K_];rfl) Z)<|Y (kl 8 pd)<|Uu (iZ sizeOf189)<|Zz<|Rd (bA dZ)<|Y (bS aH)<|Y (bA iF)<|Y (bS N_)<|Y (by exact aK [S_ f.text] Z bH Z Z Z Z Z R_)<|Y (by exact cA (ps:=[S_ f.text]) Z bH wB Z Z Z Z Z (eE _) Z R_ (m:=1) Z (by omega) Z (gP ((e_.take i).map a_.text) f.text))<|Y (bA dZ)<|Uu (by exact cQ Z sizeOf22 Z Z Z Z Z Z (by simp only[j7,List.length_nil];omega) (by simp only[Zl,bP,bM,S_,gK,K_];rfl) (by simp only[Zl,bP,bM,S_,gK,K_];rfl)) ?_;refine Zz<|Rd gV<|O V ?_;refine⟨i+1,by omega,by omega,?_⟩;dsimp only;rw[hMt,aD3];exact(cJ.wk (Ea<|Ea<|Ea<|Ea<|Eb<|Ea<|Eb<|Eb<|T_) (Hc (kT _ _)<|Hc (aW _ _)<|Hc (by(simp;exact⟨Z,Z⟩))<|Hc (cS _ _)<|Hb<|T_) ⟨Z,T_⟩)
 have hiq:i=q - 3:=by have:=b_ u_;omega
 have hMi:e_.take i=e_:=List.take_of_length_le (by omega);rw[hMi];refine aP<|Rd V<|Y V<|Y kp<|Y (by exact kO (l:=(q+1)) (h:=L.length) Z hU Z Z Z Z Z Z (by omega) (by omega) Z Z)<|O U<|S<|aD ?_;rw[<-r7 (q+1)]at hR;obtain ⟨D,E⟩:∃D,D=L.drop (0+(q+1)):=X_;have hDl:D.length=L.length - (0+(q+1)):=by rw[E,p_]
 refine bC (σ:=Nat) (fun j=>(rE L++[(5,.osl 905 L.length ((0+(q+1))+3*j) (L.length - (q+1) - 3*j))],rH L t1.text A 0 0 (e_.map a_.text) (fF D j))) (fun j=>3*j<=D.length) (fun j=>D.length - 3*j) 0 (l6 _) ?_ ?_
 ·exact(cJ.wk (Ea<|Ea<|Ea<|Ea<|T_) (Hc (kT _ _)<|Hc (aW _ _)<|Hc (by(simp;exact⟨Z,Z⟩))<|Hc (cS _ _)<|Hb<|T_) ⟨Z,T_⟩)
 rintro j hj;have d_:=EV D j;have hfl:=GW D j;refine S<|C V<|Y (by exact dQ Z cP Z Z Z)<|O jK<|Cn ?_ ?_<;>intro hc8
 ·have z_:3*j+2<D.length:=by have:=b9 hc8;omega
  obtain ⟨y,u⟩:∃f,L[(0+(q+1))+3*j]?=some f:=aU (by omega);obtain ⟨x,v⟩:∃f,L[(0+(q+1))+3*j+2]?=some f:=aU (by omega);have w:=B2 u;have s:=B2 v;have B:US D j=⟨y.text,x.text⟩:=by
   rw[US,E,List.getElem?_drop,List.getElem?_drop,u,show (0+(q+1))+(3*j+2)=(0+(q+1))+3*j+2 from Z,v];rfl
  refine aA<|S<|aD<|aN a7<|Cs (fun _ h=>fh fV h)<|Cs (fun _ h=>lh dC h)<|Cs (fun _ _=>V)<|Cs (fun H1 hH=>by exact dI Z hU Z ((hH _ Z).trans Z) Z Z Z (by omega) (by exact l8 _) (show 0<L.length - (q+1) - 3*j by omega) Z)<|Cs (fun _ h=>fh iF h)<|Cs (fun H1 hH=>by exact aX Z N_ Z ((hH _ Z).trans Z) Z w Z)<|Cs (fun _ _=>V)<|Cs (fun H1 hH=>by exact dI Z hU Z ((hH _ Z).trans Z) Z Z Z (by omega) (by exact l8 _) (show 2<L.length - (q+1) - 3*j by omega) Z)<|Cs (fun _ h=>fh iF h)<|Cs (fun H1 hH=>by exact aX Z N_ Z ((hH _ Z).trans Z) Z s Z)<|Cs (fun _ _=>(oN Lb))<|Cs (fun H1 hH=>by exact aK [bP ⟨y.text,x.text⟩] Z lM Z Z Z Z Z R_) ?_;refine iH (r:=⟨_,none,[_]⟩) (DStep.plain Z (fun H1 hH=>by exact cA (ps:=[bP ⟨y.text,x.text⟩]) Z lM Ke Z ((hH _ Z).trans Z) Z Z Z (G8 _) Z R_ (m:=1) Z (by omega) Z (G9 (fF D j) ⟨y.text,x.text⟩))) Z ?_;refine Cs (fun _ h=>fh fV h)<|iH (r:=⟨_,none,[_]⟩) (DStep.plain Z (fun H1 hH=>by exact(by exact cQ Z sizeOf133 Z Z Z ((hH _ Z).trans Z) Z Z (by simp only[j7,List.length_nil];omega) (by simp only[Zl,bP,bM,S_,gK,K_];rfl) (by simp only[Zl,bP,bM,S_,gK,K_];rfl)))) Z ?_;refine bL<|Kr<|Rd V<|Y (by exact kO (l:=3) (h:=(L.length - (q+1) - 3*j)) Z hU Z Z Z Z Z Z (by omega) (by omega) Z Z)<|Da ?_;refine⟨j+1,by omega,by omega,?_⟩;dsimp only;rw[d_,B,aBd];exact(cJ.wk (Ea<|Ea<|Ea<|Ea<|T_) (Hc (kT _ _)<|Hc (aW _ _)<|Hc (by(simp;exact⟨Z,Z⟩))<|Hc (cS _ _)<|Hb<|T_) ⟨Z,T_⟩)
 have W:D.length<3*j+3:=by have:=b_ hc8;omega
 have N:D.length / 3=j:=by omega
 have hG:rM D=fF D j:=by rw[PX,N]
 refine aP<|S ?_;refine fZ.ent (cJ.fzG (id:=907) (E':=rE L) (H':=[(906,⟨((e_.map a_.text)).length,1,9,bZ ((e_.map a_.text))⟩),(3,bx 6 135 [sv (t1.text),iv (A),iv (0),iv (0),.osl 906 ((e_.map a_.text)).length 0 ((e_.map a_.text)).length,.pv (pX (fF D j))]),(905,ZL L),(2,bx 6 135 ((bM h_).map .pv))]) ((fF D j).map bP) Z (JE bP _) ?_ Z ?_ ?_) ?_
 ·intro p t;simp only[l7,n_,or_false]at t;rcases t with rfl|rfl|rfl<;>exact⟨_,Z,.same (by simp;rfl)⟩
 ·exact⟨⟨_,Z,Z,Z,Z,eJ (aW _ _)⟩,⟨_,Z,Z,Z,Z,lZ Z (bG (.same (by simp)) (bG (.same (by simp)) (bG (.same (by simp)) (bG (.same (by simp)) (bG (.same (by simp;rfl)) (bG (.osl (lS bP _)) kX))))))⟩,⟨_,Z,Z,Z,Z,eJ (cS _ _)⟩,⟨_,Z,Z,Z,Z,eJ (by simp)⟩,T_⟩
 ·exact⟨Z,T_⟩
 refine fZ.ent (cJ.fzG (id:=906) (E':=rE L) (H':=[(3,bx 6 135 [sv (t1.text),iv (A),iv (0),iv (0),.pv (aL ((e_.map a_.text))),.pv (pX (fF D j))]),(905,ZL L),(2,bx 6 135 ((bM h_).map .pv))]) (((e_.map a_.text)).map S_) Z (dU _) ?_ Z ?_ ?_) ?_
 ·intro p t;simp only[l7,n_,or_false]at t;rcases t with rfl|rfl|rfl<;>exact⟨_,Z,.same (by simp;rfl)⟩
 ·exact⟨⟨_,Z,Z,Z,Z,lZ Z (bG (.same (by simp)) (bG (.same (by simp)) (bG (.same (by simp)) (bG (.same (by simp)) (bG (.osl (lS S_ _)) (bG (.same (by simp)) kX))))))⟩,⟨_,Z,Z,Z,Z,eJ (cS _ _)⟩,⟨_,Z,Z,Z,Z,eJ (by simp)⟩,T_⟩
 ·exact⟨Z,T_⟩
 refine Rd (by exact aV Z bW sizeOf135 Z Z Z Z (by simp only[Zl,bP,bM,S_,gK,K_];rfl) Z)<|Uu (iZ sizeOf135)<|Zz<|aC ?_;refine cR (H':=[(905,ZL L)]) (.inr Z) Z (eY Z bW sizeOf135 Z Z Z (by simp only[Zl,bP,bM,S_,gK,K_];rfl) Z) (Fin.wk (by(simp;done)) (Hc (cS _ _)<|T_) ⟨Z,T_⟩) ?_;refine⟨?_,Z⟩;rw[hR,<-E,hG];rfl
theorem LG:∀(l) (p),nV l=some p->p.1.length<=l.length
 | [],p,h=>by cases h
 | [c],p,h=>by
  rw[nV]at h
  grind
 | c :: e :: r, p, h => by
  rw[nV]at h
  split at h
  ·grind
  split at h
  ·cases h
  split at h
  ·cases g:sU e with
   |none=>simp_all
   | some b =>
    rw[g]at h;cases f:nV r with
    |none=>simp_all
    |some q =>
     rw[f]at h;cases h;have:=LG r q f;show q.1.length+1<=r.length+1+1;omega
  cases f:nV (e::r)with
  |none=>simp_all
  |some q =>
   rw[f]at h;cases h;have:=LG _ q f
   simp_all
theorem fR(s:B_)(i j):(s.extract i j).size<=s.size:=by rw[<-aT,gU,q7,p_,aT];omega
theorem vu(s):(AB s).1.size<=s.size:=by
 rw[AB];cases h:nV _ with
 |none=>exact l6 _
 |some p =>
  have:=LG _ _ h;rw[p_,aT]at this;rw[<-aT]
  grind
theorem iy{s}{f:a_}{j:Nat}(h:eT s i=(some f,j)):f.text.size<=s.size:=by
 rw[eT]at h
 split at h
 ·cases h
 split at h
 ·cases h
 split at h
 ·cases h;exact fR _ _ _
 split at h
 ·cases h;exact fR _ _ _
 split at h
 ·cases h;rw[EL]
  split
  ·have h1:=vu (s.extract i s.size);have h2:=fR s i s.size;show (AB _).1.size<=_;omega
  exact l6 _
 split at h
 ·cases h;exact fR _ _ _
 cases h;exact l6 _
theorem G7(s):∀(n i) (f),f∈jZ s n i->f.text.size<=s.size
 |0,_,_,h=>by cases h
 | n+1,i,f,h=>by
  rw[jZ]at h
  split at h
  ·split at h
   ·exact G7 s n _ f h
   rename_i g j b;rcases l7.1 h with rfl|h
   ·exact iy b
   split at h
   ·exact G7 s n _ f h
   cases h
  cases h
theorem al:∀(a acc) (f),f∈(kI acc a).1->f∈acc\/f∈a
 | [],acc,f,h=>.inl h
 |d::a,acc,f,h=>by
  rw[kI]at h
  split at h
  ·cases h
  split at h
  ·cases h
  rcases al _ _ f h with h|h;all_goals grind
theorem FX(s)(f)(h:f∈(fD s).1):f.text.size<=s.size:=by
 rw[fD]at h
 split at h
 ·cases h
 rcases al _ _ f h with h|h
 ·cases h
 exact G7 s _ _ f h
theorem cb{T}{n}(h:∀f∈T,f.text.size<=n):∀f∈vQ T,f.text.size<=n:=fun f b=>by
 rcases List.mem_append.1 b with a|a
 ·simp_all
 rw[(List.mem_replicate.1 a).2];exact l6 _
theorem UM:∀(T) (n),(∀f∈T,f.text.size<=n)->(rM T).length<=T.length/\∀t∈rM T,t.key.size<=n/\t.val.size<=n
 | [],n,_=>by simp[rM]
 | [a],n,_=>by simp[rM]
 | [a,b],n,_=>by simp[rM]
 |a::b::c::r,n,h=>by
  obtain ⟨i1,i2⟩:=UM r n fun f hf=>h f G_;rw[rM]
  grind
theorem Hf(T):(vQ T).length<=T.length+4:=by rw[vQ,j9,List.length_replicate];omega
theorem Fp{T:List a_}{n:Nat}(h:∀f∈T,f.text.size<=n)(m:n<2^62)(hl:T.length<549755813888):gu (sW T):=by
 have o:=cb h;have hpl:=Hf T;have l:∀i,((vQ T).getD i J7).text.size<=n:=fun i=>by
  rw[List.getD_eq_getElem?_getD];cases e:(vQ T)[i]? with
  |none=>exact l6 _
  |some f=>grind
 have j:∀k,MB (rM ((vQ T).drop k)):=fun k=>by
  obtain ⟨a,b⟩:=UM ((vQ T).drop k) n fun f p=>o f (List.mem_of_mem_drop p);rw[p_]at a;exact⟨X,fun t g=>by have:=b t g;omega⟩
 rw[sW]
 split
 ·exact⟨Nat.lt_of_le_of_lt (l 1) m,j _,F_,fun s d=>by cases d⟩
 split
 ·exact⟨E_,⟨E_,fun t h=>by cases h⟩,E_,fun s d=>by cases d⟩
 refine⟨Nat.lt_of_le_of_lt (l 1) m,j _,?_,fun s d=>?_⟩;all_goals grind
theorem qX(c):∀ {l w},w∈dN c l->w.length<=l.length
 | [],w,h=>by
  rw[dN]at h
  simp_all
 | b::l,w,h=>by
  have d:=qZ c l;rw[dN]at h;cases e:dN c l with
  |nil=>rw[e]at d;exact absurd d (Nat.lt_irrefl 0)
  | cons x r =>
   have a:∀y∈x::r,y.length<=l.length:=fun y hy=>qX c F_;rw[e]at h
   split at h
   ·rcases l7.1 h with rfl|h
    ·exact l6 _
    exact Nat.le_succ_of_le (a w h)
   rcases l7.1 h with rfl|h
   ·exact Nat.succ_le_succ (a _ List.mem_cons_self)
   exact Nat.le_succ_of_le (a w (List.mem_cons_of_mem _ h))
theorem VC{s}(a:s.size<2^40):gu (sW (fD s).1):=Fp (fun f b=>FX s f b) X (wN s a)
theorem IA(l:List _):∀r∈l.map S_,r.length=1:=fun r a=>by
 obtain ⟨s,_,rfl⟩:=List.mem_map.1 a;rfl
theorem zM{p q}[Decidable p][Decidable q](h:(decide p&&decide q)=true):p/\q:=F_
theorem zN{p q}[Decidable p][Decidable q](h:(decide p&&decide q)=false):¬ (p/\q):=F_
theorem Oo{H}{id}{o}(h:H.get id=some o):Sub [(id,o)] H:=fun j x a=>by
 by_cases e:j=id
 ·subst e;rw[get_cons_same]at a
  simp_all
 rw[get_cons_other _ _ e]at a;cases a
theorem Hw{id j}{a b}(h:(aF.get [(id,a)] j).isSome=true):(aF.get [(id,b)] j).isSome=true:=by
 by_cases e:j=id
 ·subst e;rw[get_cons_same];rfl
 rw[get_cons_other _ _ e]at h;cases h
theorem lx(s:B_)(H:aF)(g:s.size<2^40):RC 201 [sv s] (.tup [av (bM (uR s).1),iv (uR s).2]) H:=by
 refine Pu ?_;have c:=wN s g;have l:=cb (FX s);have d:=VC g;rw[uR];refine Bd func201 Z ntmps201<|C (kl 2 UF)<|O U<|S<|C V<|Y (gR U_)<|O jK<|Cn ?_ ?_<;>intro i
 ·have q:20000<s.size:=by have:=b9 i;omega
  rw[b6 q];refine C (oN E6)<|Uu (iZ sizeOf135)<|O U<|aC<|iB (H':=[]) (.inr Z) Z (CC bW sizeOf135) (aJ Z) (Fin.wk (r:=.tup [av (bM h_),iv 2]) (by simp) T_ T_) Qq
 have q:¬ 20000<s.size:=by have:=b_ i;omega
 rw[a8 q];by_cases n:(fD s).2.1=0
 ·have e:=fun H h=>aAB s H g n h;obtain ⟨T,w⟩:∃T,T=(fD s).1:=X_;rw[<-w]at c l d |-;simp only[<-w]at e;have k:∀H,H.get 905=some (ZL T)->aS Tryz.prog 252 [.osl 905 T.length 0 T.length] H (fun r H'=>r=av (bM (sW T))/\H'=[(905,ZL (vQ T))]++H):=fun H x =>
   aS.frame (Ya T c (fun f y=>Nat.lt_of_le_of_lt (l f y) g)) (Oo x) (dD.ofL ⟨cS _ _,T_⟩) (by intro a v;rw[q9]at v;subst v;simp[aF.get]) (fun id h=>.inl (Hw h))
  obtain ⟨o,z⟩:∃o,o=sW T:=X_;rw[<-z]at k d |-;refine aA<|C V<|Y (kc aEG (e _ Z))<|Y V<|Y dH<|Y dH<|Y dH<|Y U<|Y U<|O U<|S<|C V<|O cD<|Cn ?_ ?_<;>intro u
  ·refine C V<|Y (kc call252 (k _ Z))<|Y (kl 7 UF)<|Uu (iZ sizeOf135)<|Zz<|C (wA bW sizeOf135)<|Y (kc call253 (VK o _ d))<|Y V<|Y dH<|Y dH<|Y U<|O U<|S<|aR (t:=35) (n:=8) (A_:=decide ((fA o).2=0)&&decide ((fA o).1=s)) ?_ ?_
   ·all_goals refine Y V<|Y cD<|Dm ?_<;>(refine Sp 31 (fun p=>?_) fun p=>?_)<;>(first|contradiction|refine M<|M<|M ?_|refine J V<|J V<|J xA ?_)<;>refine O cE ?_<;>exact Gj (h:=by simp_all)
   refine Cn ?_ ?_<;>intro j
   ·have m:=zM j;rw[b6 ⟨n,Prod.ext m.2 m.1⟩];refine C (wA bW sizeOf135)<|Uu (iZ sizeOf135)<|O U<|aC<|iB (H':=[]) (.inr Z) Z (CC bW sizeOf135) (aJ Z) (Fin.wk (r:=.tup [av (bM o),iv 0]) (by simp) T_ T_) Qq
   have m:=zN j;rw[a8 (fun h=>m ⟨congrArg Prod.snd h.2,congrArg Prod.fst h.2⟩)];refine aA<|C (oN E6)<|Uu (iZ sizeOf135)<|O U<|aC<|iB (H':=[]) (.inr Z) Z (CC bW sizeOf135) (aJ Z) (Fin.wk (r:=.tup [av (bM h_),iv 5]) (by simp) T_ T_) Qq
  exact absurd Z (b_ u)
 refine aA<|C V<|Y (kc aEG (Wa s _ g))<|Y V<|Y dH<|Y dH<|Y dH<|Y U<|Y U<|O U<|S<|C V<|O cD<|Cn ?_ ?_<;>intro t
 ·exact absurd (b9 t) n
 refine aA<|C (oN E6)<|Uu (iZ sizeOf135)<|O U<|aC ?_;rw[a8 (fun h=>n h.1)];refine iB (H':=[]) (.inr Z) Z (CC bW sizeOf135) (aJ Z) (Fin.wk (r:=.tup [av (bM h_),iv 5]) (by simp) T_ T_) Qq
theorem Qf(s:B_)(H:aF)(hs:s.size<=20000):RC 143 [sv s] (av (bJ (nO s.data.toList))) H:=by
 refine Pu ?_;have A_:=aT s;obtain ⟨W,p⟩:∃W,W=dN 32 s.data.toList:=X_;obtain ⟨w0,E⟩:∃w,w=W.headD []:=X_;obtain ⟨B,z⟩:∃r,r=s.data.toList.drop (w0.length+1):=X_;have hrl:B.length<=s.size:=by simp_all
 have hg:nO s.data.toList=D4 W w0 B:=by rw[nO,<-p,<-E,<-z]
 have z_:∃b,∀H,RC 137 [sv s,sv Na] (.tup [sv (b7 w0),sv (b7 B),bv b]) H:=by
  obtain ⟨b,hb⟩:=Ug s;rw[<-p,<-E,<-z]at hb;exact⟨b,fun H=>by rw[<-hb];exact aCc s H (by omega)⟩
 obtain ⟨b,z_⟩:=z_;have hSl:(cN s).length=W.length:=by rw[wh,p]
 have hml:((cN s).map S_).length=W.length:=by simp_all
 have hSg:∀i,i<W.length->((cN s).map S_)[i]?=some [.str (b7 (W.getD i []))]:=fun i hi=>by
  rw[p];exact cC (f:=S_) (wi s i (by omega))
 have R:∀i,(b7 (W.getD i [])).size<=s.size:=fun i=>by
  rw[cB,List.getD_eq_getElem?_getD];cases e:W[i]? with
  |none=>simp_all
  |some w =>
   have:=qX 32 (l:=s.data.toList) (w:=w) (by grind);rw[A_]at this;exact this
 have hWl:W.length<=s.size+1:=by
  rw[p,xI];have:=List.count_le_length (l:=s.data.toList) (a:=32);omega
 have hjl:((cN s).drop 3).length<=20001:=by grind
 have hjs:cX ((cN s).drop 3)<=20000*((cN s).drop 3).length:=oY (fun w hw=>by
  have I:=List.mem_of_mem_drop hw;rw[cN,<-p]at I;obtain ⟨x,hx,rfl⟩:=List.mem_map.1 I;have:=qX 32 (l:=s.data.toList) (w:=x) (by simp_all);show (b7 x).size<=_;rw[cB];omega)
 rw[hg,D4];refine Bd func143 Z ntmps143<|Sz (kl 2 UE)<|C V<|Y (kc call200 (wj s _ (by omega)))<|O U<|C V<|Y (kc aEL (z_ _))<|Y V<|Y dH<|Y dH<|Y dH<|Y U<|Y U<|O U<|S<|aD<|C V<|Y xA<|Da<|Cn ?_ ?_<;>intro N
 ·have h1:w0=wPut:=sT.1 (b9 N);rw[b6 h1];refine C V<|Y (kc call201 (lx (b7 B) _ (by rw[cB];omega)))<|Y V<|Y dH<|Y dH<|Y (kl 7 UF)<|Uu (iZ sizeOf135)<|O U<|C (wA bW sizeOf135)<|Y (oN tR)<|Uu (iZ aY)<|Zz<|aC ?_;refine cR (H':=[]) (.inr Z) Z (CC cT aY) (Fin.wk (r:=av (bJ ⟨1,a6,a6,a6,0,0,a6,a6,[],(uR (b7 B)).1⟩)) (by simp) T_ T_) Qq
 have h1:¬ w0=wPut:=fun e=>b_ N (sT.2 e);rw[a8 h1];refine S<|aR (t:=30) (n:=9) (A_:=decide (b7 w0=⟨#[109,111,118,101]⟩)&&decide ((((cN s).map S_).length:Int)=4)) ?_ ?_
 ·all_goals refine Y V<|Y xA<|Dm ?_<;>(refine Sp 33 (fun h33=>?_) fun h33=>?_)<;>(first|contradiction|refine M<|M<|M ?_|refine J V<|J (fY aE)<|J cD ?_)<;>refine Y cE<|Da ?_<;>exact Gj (h:=by(simp_all;done))
 refine Cn ?_ ?_<;>intro A
 ·have F:b7 w0=b7 IT/\_:=zM A;rw[sT,hml]at F;rw[b6 ⟨F.1,by omega⟩];have G:=hSg 1 (by omega);have i2:=hSg 2 (by omega);have i3:=hSg 3 (by omega);have s2:=R 2;have s3:=R 3;refine S<|aN a7<|Cr [] (fun _ _=>V)<|Cr [] (fun _ _=>(iN bH))<|Cr [] (fun _ _=>(gG N_))<|Cr [] (fun _ _=>V)<|Cr [] (fun _ _=>(iN bH))<|Cr [] (fun _ _=>(gG N_))<|Cr [] (fun q hH=>by exact bF Z Z call202 Z (ct (b7 (W.getD 2 [])) _ (by omega)))<|Cr [] (fun _ _=>V)<|Cr [] (fun _ _=>(iN bH))<|Cr [] (fun _ _=>(gG N_))<|Cr [] (fun q hH=>by exact bF Z Z call202 Z (ct (b7 (W.getD 3 [])) _ (by omega)))<|Cr [] (fun _ _=>(oN KT))<|Cr [] (fun _ _=>(oN tR))<|Cp [2] (fun _ h=>sa aY h)<|bL<|Kr<|aC ?_;refine cR (H':=[]) (.inr Z) Z (CC cT aY) (Fin.wk (r:=av (bJ ⟨2,b7 (W.getD 1 []),a6,a6,T4 (W.getD 2 []),T4 (W.getD 3 []),a6,a6,[],h_⟩)) (by simp) T_ T_) Qq
 have F:¬ (b7 w0=b7 IT/\_):=zN A;rw[sT,hml]at F;rw[a8 (fun h=>F ⟨h.1,by omega⟩)];refine S<|aR (t:=51) (n:=9) (A_:=decide (b7 w0=⟨#[116,97,103]⟩)&&decide ((3:Int)<(((cN s).map S_).length:Int))) ?_ ?_
 ·all_goals refine Y V<|Y xA<|Dm ?_<;>(refine Sp 54 (fun h54=>?_) fun h54=>?_)<;>(first|contradiction|refine M<|M<|M ?_|refine J V<|J (fY aE)<|J jK ?_)<;>refine Y cE<|Da ?_<;>exact Gj (h:=by(simp_all;done))
 refine Cn ?_ ?_<;>intro T
 ·have K:b7 w0=b7 AU/\_:=zM T;rw[sT,hml]at K;rw[b6 ⟨K.1,by omega⟩];have G:=hSg 1 (by omega);have i2:=hSg 2 (by omega);have o_:bs ((cN s).drop 3)=W.drop 3:=by
   rw[bs,cN,<-p,List.map_drop,List.map_map];congr 1;exact(List.map_congr_left fun x _=>cO x).trans (List.map_id _)
  have hj:∀H,RC 204 [.pv (aL ((cN s).drop 3)),sv ⟨#[32]⟩] (sv (b7 (bQ [32] (W.drop 3)))) H:=fun H=>by
   have:=wQ ((cN s).drop 3) ⟨#[32]⟩ H (by decide) (by show 1*_+_+_<_;omega);rw[o_]at this;exact this
  have Q:(b7 (bQ [32] (W.drop 3))).size<2^40:=by
   have:=fQ ((cN s).drop 3);rw[o_]at this;rw[cB];omega
  obtain ⟨c_,hJ⟩:∃c_,c_=b7 (bQ [32] (W.drop 3)):=X_;rw[<-hJ]at Q |-;simp only[<-hJ]at hj;have htl:((fD c_).1.map K_).length=(fD c_).1.length:=g_ _;refine C V<|Y (by exact eU (l:=3) (h:=((cN s).map S_).length) (rows':=((cN s).drop 3).map S_) Z bH Z (IA _) Z Z (by omega) (j6 _) (by rw[List.take_length];exact List.map_drop.symm))<|Y (kc rI (hj _))<|Y (kc aEG (Wa c_ _ Q))<|Y V<|Y dH<|Y dH<|Y dH<|Y U<|Y U<|O U<|C V<|Y (fY cP)<|O cD ?_;refine Cn ?_ ?_<;>intro t
  ·have h4:(fD c_).1.length=1:=by have:=b9 t;omega
   obtain ⟨f,u_⟩:=List.length_eq_one_iff.1 h4;rw[u_];have hf0:([f].map K_)[0]?=some [.int .i64 f.kind,.str f.text,.int .i64 f.pos]:=rfl;refine S<|aN a7<|Cr [] (fun _ _=>V)<|Cr [] (fun _ _=>(iN bH))<|Cr [] (fun _ _=>(gG N_))<|Cr [] (fun _ _=>V)<|Cr [] (fun _ _=>(iN bH))<|Cr [] (fun _ _=>(gG N_))<|Cr [] (fun _ _=>V)<|Cr [] (fun _ _=>(iN hU))<|Cr [] (fun _ _=>(EP iF))<|Cr [] (fun _ _=>(gG N_))<|Cr [] (fun _ _=>(oN tR))<|Cp [2] (fun _ h=>sa aY h)<|bL<|Kr<|aC<|cR (H':=[]) (.inr Z) Z (CC cT aY) (Fin.wk (r:=av (bJ ⟨3,b7 (W.getD 1 []),a6,a6,0,0,b7 (W.getD 2 []),f.text,[],h_⟩)) (by simp) T_ T_) Qq
  have h4:(fD c_).1.length≠1:=by have:=b_ t;omega
  split
  ·next f u_=>rw[u_]at h4;exact absurd Z h4
  refine aA<|C (oN tR)<|Uu (iZ aY)<|Zz<|aC<|cR (H':=[]) (.inr Z) Z (CC cT aY) (Fin.wk (r:=av (bJ NV)) (by simp) T_ T_) Qq
 have K:¬ (b7 w0=b7 AU/\_):=zN T;rw[sT,hml]at K;rw[a8 (fun h=>K ⟨h.1,by omega⟩)];refine S<|aR (t:=81) (n:=9) (A_:=decide (b7 w0=⟨#[114,101,102,115]⟩)&&decide ((1:Int)<(((cN s).map S_).length:Int))) ?_ ?_
 ·all_goals refine Y V<|Y xA<|Dm ?_<;>(refine Sp 84 (fun v_=>?_) fun v_=>?_)<;>(first|contradiction|refine M<|M<|M ?_|refine J V<|J (fY aE)<|J jK ?_)<;>refine Y cE<|Da ?_<;>exact Gj (h:=by(simp_all;done))
 refine Cn ?_ ?_<;>intro D
 ·have h4:b7 w0=b7 IS/\_:=zM D;rw[sT,hml]at h4;rw[b6 ⟨h4.1,by omega⟩];have G:=hSg 1 (by omega);refine S<|aN a7<|Cr [] (fun _ _=>V)<|Cr [] (fun _ _=>(iN bH))<|Cr [] (fun _ _=>(gG N_))<|Cr [] (fun _ _=>V)<|Cr [] (fun q hH=>by exact eU (l:=2) (h:=((cN s).map S_).length) (rows':=((W.drop 2).map b7).map S_) Z bH Z (IA _) Z Z (by omega) (j6 _) (by rw[List.take_length,cN,<-p,List.map_drop,List.map_drop];rfl))<|Cr [] (fun _ _=>(oN tR))<|Cp [2] (fun _ h=>sa aY h)<|bL<|Kr<|aC ?_;refine cR (H':=[]) (.inr Z) Z (CC cT aY) (Fin.wk (r:=av (bJ ⟨4,b7 (W.getD 1 []),a6,a6,0,0,a6,a6,(W.drop 2).map b7,h_⟩)) (by simp) T_ T_) ?_;exact Qq
 have h4:¬ (b7 w0=b7 IS/\_):=zN D;rw[sT,hml]at h4;rw[a8 (fun h=>h4 ⟨h.1,by omega⟩)];refine S<|aR (t:=95) (n:=9) (A_:=decide (b7 w0=⟨#[100,114,111,112]⟩)&&decide ((((cN s).map S_).length:Int)=2)) ?_ ?_
 ·all_goals refine Y V<|Y xA<|Dm ?_<;>(refine Sp 98 (fun y_=>?_) fun y_=>?_)<;>(first|contradiction|refine M<|M<|M ?_|refine J V<|J (fY aE)<|J cD ?_)<;>refine Y cE<|Da ?_<;>exact Gj (h:=by(simp_all;done))
 refine Cn ?_ ?_<;>intro L
 ·have v:b7 w0=b7 IW/\_:=zM L;rw[sT,hml]at v;rw[b6 ⟨v.1,by omega⟩];have G:=hSg 1 (by omega);refine C V<|Y (iN bH)<|Y (gG N_)<|Y (oN tR)<|Uu (iZ aY)<|Zz<|aC<|cR (H':=[]) (.inr Z) Z (CC cT aY) (Fin.wk (r:=av (bJ ⟨5,b7 (W.getD 1 []),a6,a6,0,0,a6,a6,[],h_⟩)) (by simp) T_ T_) Qq
 have v:¬ (b7 w0=b7 IW/\_):=zN L;rw[sT,hml]at v;rw[a8 (fun h=>v ⟨h.1,by omega⟩)];refine S<|aR (t:=107) (n:=9) (A_:=decide (b7 w0=⟨#[115,112,108,105,116]⟩)&&decide ((((cN s).map S_).length:Int)=4)) ?_ ?_
 ·all_goals refine Y V<|Y xA<|Dm ?_<;>(refine Sp 110 (fun P=>?_) fun P=>?_)<;>(first|contradiction|refine M<|M<|M ?_|refine J V<|J (fY aE)<|J cD ?_)<;>refine Y cE<|Da ?_<;>exact Gj (h:=by(simp_all;done))
 refine Cn ?_ ?_<;>intro y
 ·have e_:b7 w0=b7 BZ/\_:=zM y;rw[sT,hml]at e_;rw[b6 ⟨e_.1,by omega⟩];have G:=hSg 1 (by omega);have i2:=hSg 2 (by omega);have i3:=hSg 3 (by omega);refine S<|aN a7<|Cr [] (fun _ _=>V)<|Cr [] (fun _ _=>(iN bH))<|Cr [] (fun _ _=>(gG N_))<|Cr [] (fun _ _=>V)<|Cr [] (fun _ _=>(iN bH))<|Cr [] (fun _ _=>(gG N_))<|Cr [] (fun _ _=>V)<|Cr [] (fun _ _=>(iN bH))<|Cr [] (fun _ _=>(gG N_))<|Cr [] (fun _ _=>(oN tR))<|Cp [2] (fun _ h=>sa aY h)<|bL<|Kr<|aC<|cR (H':=[]) (.inr Z) Z (CC cT aY) (Fin.wk (r:=av (bJ ⟨6,b7 (W.getD 1 []),b7 (W.getD 3 []),b7 (W.getD 2 []),0,0,a6,a6,[],h_⟩)) (by simp) T_ T_) Qq
 have e_:¬ (b7 w0=b7 BZ/\_):=zN y;rw[sT,hml]at e_;rw[a8 (fun h=>e_ ⟨h.1,by omega⟩)];refine S<|aR (t:=125) (n:=9) (A_:=decide (b7 w0=⟨#[106,111,105,110]⟩)&&decide ((((cN s).map S_).length:Int)=3)) ?_ ?_
 ·all_goals refine Y V<|Y xA<|Dm ?_<;>(refine Sp 128 (fun d_=>?_) fun d_=>?_)<;>(first|contradiction|refine M<|M<|M ?_|refine J V<|J (fY aE)<|J cD ?_)<;>refine Y cE<|Da ?_<;>exact Gj (h:=by(simp_all;done))
 refine Cn ?_ ?_<;>intro f_
 ·have u:b7 w0=b7 IU/\_:=zM f_;rw[sT,hml]at u;rw[b6 ⟨u.1,by omega⟩];have G:=hSg 1 (by omega);have i2:=hSg 2 (by omega);refine S<|aN a7<|Cr [] (fun _ _=>V)<|Cr [] (fun _ _=>(iN bH))<|Cr [] (fun _ _=>(gG N_))<|Cr [] (fun _ _=>V)<|Cr [] (fun _ _=>(iN bH))<|Cr [] (fun _ _=>(gG N_))<|Cr [] (fun _ _=>(oN tR))<|Cp [2] (fun _ h=>sa aY h)<|bL<|Kr<|aC<|cR (H':=[]) (.inr Z) Z (CC cT aY) (Fin.wk (r:=av (bJ ⟨7,b7 (W.getD 1 []),b7 (W.getD 2 []),a6,0,0,a6,a6,[],h_⟩)) (by simp) T_ T_) Qq
 have u:¬ (b7 w0=b7 IU/\_):=zN f_;rw[sT,hml]at u;rw[a8 (fun h=>u ⟨h.1,by omega⟩)];refine aA<|C (oN tR)<|Uu (iZ aY)<|Zz<|aC<|cR (H':=[]) (.inr Z) Z (CC cT aY) (Fin.wk (r:=av (bJ NV)) (by simp) T_ T_) Qq
def GX(l:List b8):List (List AV):=l.map fun e=>(bJ e).map AV.pv
theorem WN(l):(GX l).length=l.length:=g_ _
theorem WO(l)(e):GX l++[(bJ e).map AV.pv]=GX (l++[e]):=by rw[GX,GX,List.map_append];rfl
theorem xF(H)(l):∀r∈GX l,∀a∈r,Clo H a:=by intro r c a b;obtain ⟨d,_,rfl⟩:=List.mem_map.1 c;obtain ⟨p,_,rfl⟩:=List.mem_map.1 b;simp
instance(H)(l):W_ (H) (GX l):=⟨xF H l⟩
theorem YQ(H)(s):∀r∈(lB s).rows,∀a∈r,Clo H a:=by intro r c a b;simp[lB,bx,q9]at c;subst c;rw[q9]at b;subst b;simp
instance(H)(s):W_ (H) ((lB s).rows):=⟨YQ H s⟩
def Ym(t:B_):cY:=[(0,sv t),(4,.ref 4 0 0 0)]
def Zx(t:B_)(k:Nat):b8:=nO (DZ (zD (jI t k))).data.toList
def N9(t:B_)(k:Nat):List b8:=(List.range k).map (Zx t)
theorem yo(t)(k):N9 t (k+1)=N9 t k++[Zx t k]:=by rw[N9,List.range_succ,List.map_append];rfl
theorem RY(t)(k):(N9 t k).length=k:=by rw[N9,g_,List.length_range]
theorem RZ(t):N9 t (iX t).length=(rD t.data.toList).map fun s=>nO (Lib.trimSuffix s [10]):=by
 refine List.ext_getElem? fun k=>?_;rw[N9,r6,r6];by_cases h:k<(iX t).length
 ·have b:=(Ta h).1;rw[iX,r6]at b;cases e:(rD _)[k]? with
  |none=>rw[e]at b;cases b
  |some w =>
   rw[e]at b;have b:=Option.some.inj b;rw[List.getElem?_range h,Option.map_some,Zx,<-b,Dg];congr 3
 have c:(rD t.data.toList)[k]?=none:=by
  rw[iX]at h
  simp_all
 rw[c,List.getElem?_eq_none F_];rfl
def pcK(t s:B_)(k:Nat):aF:=[(933,lB s),(905,⟨k,15,137,GX (N9 t k)⟩),(4,bx 1 46 [.osl 905 k 0 k])]
theorem Tt{a b c}{K:aF}(j):aF.get ((904,b)::(933,a)::K) j=aF.get ((933,a)::(904,b)::(933,c)::K) j:=by
 by_cases e:j=904
 ·subst e;rfl
 by_cases d:j=933
 ·subst d;rfl
 rw[get_cons_other _ _ e,get_cons_other _ _ d,get_cons_other _ _ d,get_cons_other _ _ e,get_cons_other _ _ d]
theorem iu(s):(DZ s).size<=s.size:=by
 rw[DZ]
 split
 all_goals simp_all
theorem R1(s):(zD s).size<=s.size:=by
 rw[zD]
 split
 ·omega
 rw[<-aT,exL,q7,p_,aT];omega
theorem EJ{t}{k}(h:k<=(iX t).length):(DZ (zD (jI t k))).size<=t.size:=Nat.le_trans (iu _) (Nat.le_trans (R1 _) (A1 t k h).2)
theorem VJ{w}{n}(h:w.length<=n)(hn:n<2^62):(b7 w).size<2^62:=by rw[cB];omega
theorem nc{s}(a:s.size<2^40):gu (uR s).1:=by
 rw[uR]
 split
 ·exact⟨E_,⟨E_,fun t h=>by cases h⟩,E_,fun s a=>by cases a⟩
 split
 ·exact VC a
 exact⟨E_,⟨E_,fun t h=>by cases h⟩,E_,fun s a=>by cases a⟩
theorem BW:gu h_:=⟨E_,⟨E_,fun t h=>by cases h⟩,E_,fun s a=>by cases a⟩
theorem CK:([]:List B_).length<2^62/\∀s∈([]:List B_),s.size<2^62:=⟨H_,fun s a=>by cases a⟩
theorem eL:a6.size<2^62:=E_
theorem WD{s:List UInt8}(f:s.length<=20000):T3 (nO s):=by
 have a:∀i,(b7 ((dN 32 s).getD i [])).size<2^62:=fun i=>by
  refine VJ (n:=20000) ?_ E_;rw[List.getD_eq_getElem?_getD];cases e:(dN 32 s)[i]? with
  |none=>simp_all
  |some w=>exact Nat.le_trans (qX 32 (m7 e)) f
 have c:∀(d x y:Int),T3 ⟨d,a6,a6,a6,x,y,a6,a6,[],h_⟩:=fun d x y=>⟨⟨eL,eL,eL,eL⟩,CK,BW⟩;rw[nO,D4]
 split
 ·exact⟨⟨eL,eL,eL,eL⟩,CK,nc (by rw[cB,p_];omega)⟩
 split
 ·exact⟨⟨a 1,eL,eL,eL⟩,CK,BW⟩
 split
 ·split
  ·exact⟨⟨a 1,eL,eL,a 2⟩,CK,BW⟩
  exact c _ _ _
 split
 ·refine⟨⟨a 1,eL,eL,eL⟩,⟨?_,fun x g=>?_⟩,BW⟩
  ·have:=List.count_le_length (l:=s) (a:=32);rw[g_,p_,xI];omega
  obtain ⟨w,b,rfl⟩:=List.mem_map.1 g;exact VJ (n:=20000) (Nat.le_trans (qX 32 (List.mem_of_mem_drop b)) f) E_
 split
 ·exact⟨⟨a 1,eL,eL,eL⟩,CK,BW⟩
 split
 ·exact⟨⟨a 1,a 3,a 2,eL⟩,CK,BW⟩
 split
 ·exact⟨⟨a 1,a 2,eL,eL⟩,CK,BW⟩
 exact c _ _ _
theorem MI:∀ {t} {n},t.size<=n->(iX t).length<=n
 |t,0,h=>by rw[BE (by omega)];simp_all
 | t,n+1,h=>by
  by_cases a:0<t.size
  ·rw[(CN a).1];refine Nat.succ_le_succ (MI ?_);rw[RT]
   split
   ·exact l6 _
   next d =>
   obtain ⟨w,r,e1,e2,c,e4,b,e6⟩:=Jc d;rw[c,l8,<-szY,b];omega
  rw[BE a];simp_all
theorem Gy(t:B_)(H:aF)(e_:t.size<2^40):RC 101 [sv t] (.tup [.pv (kD (iD t).1),iv (iD t).2]) H:=by
 refine Pu ?_;rw[iD,<-RZ];refine Bd func101 Z ntmps101<|C U<|O U<|S<|C V<|Y (gR U_)<|O jK<|Cn ?_ ?_<;>intro g
 ·have v:20000<t.size:=by have:=b9 g;omega
  rw[b6 v];exact C U<|O U<|aC<|Ru<|Qq
 have v:¬ 20000<t.size:=by have:=b_ g;omega
 rw[a8 v];refine aA<|Sz (kl 4 aAx)<|S<|C V<|O (kc call142 (Sy t _ Z))<|aD ?_;obtain ⟨n,K⟩:∃n,n=(iX t).length:=X_;have hnl:n<=20000:=by rw[K];exact MI (by omega)
 refine fZ.ent (E':=[(0,sv t),(4,.ref 4 0 0 0),(12,.clo 198 [.ref 933 0 0 0])]) (H':=[(905,⟨0,15,137,[]⟩),(933,lB t),(4,bx 1 46 [.osl 905 0 0 0])]) ?_ ?_
 ·exact(cJ.nz 905 15 137 Z Z ⟨⟨_,Z,(by exact Nz.same (by(simp;done)))⟩,⟨_,Z,(by exact Nz.same (by(simp;rfl)))⟩,⟨_,Z,(by exact Nz.same (by(simp;rfl)))⟩,T_⟩ ⟨⟨_,Z,Z,Z,Z,(by exact .inl ⟨Z,(by exact YQ _ _)⟩)⟩,⟨_,Z,Z,Z,Z,(by exact .inr ⟨_,_,rfl,rfl,(by repeat(first|exact trivial|refine⟨(by exact Nz.own),?_⟩))⟩)⟩,T_⟩ T_)
 refine fZ.ent (E':=[(0,sv t),(4,.ref 4 0 0 0),(12,.clo 198 [.ref 933 0 0 0])]) (H':=pcK t t 0) (cJ.wk (Eb<|Ea<|Ea<|T_) (Hc (YQ _ _)<|Hc (xF _ _)<|Ha<|T_) T_)<|BS (id:=904) (p:=13) (Ym t) Z call198 Z Z (by simp[Ym];exact⟨Z,Z⟩) ?_;intro x D i B o q y;have b:∀k,k<n->dF Tryz.prog (.yld 904 0) [sv (zD (jI t k))] ((904,LR x (Ym t))::pcK t (jI t (k+1)) k) (fun r H'=>r=bv true/\H'=(904,LR x (Ym t))::pcK t (jI t (k+1)) (k+1)):=by
  intro k E;have w:=yo t k;have G:=RY t k;have hls:=EJ (t:=t) (k:=k) (by omega);have hla:(zD (jI t k)).size<=t.size:=Nat.le_trans (R1 _) (A1 t k (by omega)).2;refine .inl ⟨904,0,Z,?_⟩;refine LC [(0,sv t),(4,.ref 4 0 0 0),(5,sv (zD (jI t k)))] (pcK t (jI t (k+1)) k) D i B o q y Z Z Z ?_ ?_
  ·refine Rg<|Da ?_;exact(cJ.wk (Eb<|Ea<|Eb<|T_) (Hc (nU (by simp[Ym];rfl))<|Hc (YQ _ _)<|Hc (xF _ _)<|Ha<|T_) ⟨Z,Z,Z,Z,T_⟩)
  refine aD<|aN a7<|Cs (fun _ h=>lh oS h)<|Cs (fun _ _=>V)<|Cs (fun m c=>by exact bF Z Z call144 Z (ir (zD (jI t k)) _ (by omega)))<|Cs (fun m c=>by exact bF Z Z call143 Z (Qf (DZ (zD (jI t k))) _ (by omega)))<|Cs (fun m c=>by exact aK [bJ (Zx t k)] Z ae Z Z Z Z Z R_) ?_;refine iH (r:=⟨_,none,[_]⟩) (DStep.plain Z (fun m c=>by exact cA (ps:=[bJ (Zx t k)]) Z ae We Z ((c _ Z).trans Z) Z Z Z ((WN _).trans G) Z R_ (m:=1) Z (by omega) Z (WO (N9 t k) (Zx t k)))) Z ?_;refine iH (r:=⟨_,none,[_]⟩) (DStep.plain Z (fun m c=>by exact(by exact lU Z sizeOf46 Z Z Z Z ((c _ Z).trans Z) Z Z Z))) Z ?_;refine bL<|Kr ?_;exact⟨[(933,lB (jI t (k+1))),(905,⟨k+1,15,137,GX (N9 t k++[Zx t k])⟩),(4,bx 1 46 [.osl 905 (k+1) 0 (k+1)])],(cJ.wk T_ (Hc (nU (by simp[Ym];rfl))<|Hc (YQ _ _)<|Hc (xF _ _)<|Ha<|T_) ⟨Z,Z,Z,Z,T_⟩),Z,by rw[<-w];rfl⟩
 refine(Iq t (.yld 904 0) (fun k=>(904,LR x (Ym t))::pcK t (jI t k) k) e_ (fun k=>rfl) (fun k E=>?_)).mono ?_
 ·exact dF.congrG (b k (by omega)) (fun j=>Tt j) (fun j=>rfl)
 rintro r H' ⟨rfl,rfl⟩;refine⟨x,_,Z,by simp_all,Z,fun z=>?_⟩;rw[i];obtain ⟨L,l⟩:∃L,L=N9 t n:=X_;have d_:L.length=n:=by rw[l];exact RY t n
 rw[<-K,<-l];have u:∀e∈L,T3 e:=fun e c_=>by
  rw[l,N9]at c_;obtain ⟨k,E,rfl⟩:=List.mem_map.1 c_;have:=EJ (t:=t) (k:=k) (by have:=List.mem_range.1 E;omega);exact WD (by rw[aT];omega)
 refine S<|S ?_;refine fZ.ent (cJ.fzG (id:=905) (E':=[(0,sv t),(4,.ref 4 0 0 0)]) (H':=[(4,bx 1 46 [.pv (kD L)])]) (L.map bJ) Z (by rw[l];exact JE bJ _) ?_ Z ?_ ?_) ?_
 ·intro p I;simp only[l7,n_,or_false]at I;rcases I with rfl|rfl<;>exact⟨_,Z,.same (by simp;try rfl)⟩
 ·exact⟨⟨_,Z,Z,Z,Z,lZ Z (bG (.osl (by rw[<-d_];exact lS bJ L)) kX)⟩,T_⟩
 ·exact T_
 refine Rd (bS oS)<|Y (kc call145 (qi L _ (by omega) u))<|Y V<|Y dH<|Y dH<|Y U<|O U<|S<|aR (t:=31) (n:=8) (A_:=!decide ((dX L).2=0)||!decide ((dX L).1=t)) ?_ ?_
 ·all_goals refine Y V<|Y zX<|Dm ?_<;>(refine Sp 27 (fun A=>?_) fun A=>?_)<;>(first|contradiction|refine M<|M<|M ?_|refine J V<|J V<|J HD ?_)<;>refine O cE ?_<;>exact Gj (h:=by(simp_all;done))
 refine Cn ?_ ?_<;>intro d
 ·have s:dX L≠(t,0):=fun e=>by have h:=d;rw[e]at h;simp at h
  rw[a8 s];exact C U<|O U<|aC<|Ru<|Qq
 have F:dX L=(t,0):=by have h:=d;simp only[q_,Bool.not_eq_false',k_]at h;exact Prod.ext h.2 h.1
 rw[b6 F];exact aA<|C (bS oS)<|Y U<|O U<|aC<|Ru<|Qq
end Go.Proofs.YtopnleflllkbmaaGreatDoor
namespace Go.Proofs.YtopnleflllkbmaaGreatDoor
open Go.Proofs.Tryz
open Go.Abs Go.Lib
variable{α:Type}
theorem RB(t):∀e∈(iD t).1,T3 e:=by
 intro e a;rw[iD]at a
 split at a
 ·cases a
 next hs =>
 split at a
 ·rw[<-RZ]at a;obtain ⟨k,b,rfl⟩:=List.mem_map.1 a;have:=EJ (t:=t) (k:=k) (by have:=List.mem_range.1 b;omega);exact WD (by rw[aT];omega)
 cases a
theorem NI(t):(iD t).1.length<=20000:=by
 rw[iD]
 split
 ·simp_all
 next hs =>
 split
 ·rw[<-RZ,RY];exact MI X
 simp_all
def LO{α:Type}(f:List UInt8->Option (α×List UInt8))(d:α)(l:List UInt8):α×List UInt8:=(f l).getD (d,l)
def p0(t:List UInt8):=LO oP a6 t
def p1(t:List UInt8):=LO xD 0 (p0 t).2
def p2(t:List UInt8):=LO xD 0 (p1 t).2
def p3(t:List UInt8):=LO xD 0 (p2 t).2
def p4(t:List UInt8):=LO xD 0 (p3 t).2
def p5(t:List UInt8):=LO oP a6 (p4 t).2
def p6(t:List UInt8):=LO (CP oP) [] (p5 t).2
def p7(t:List UInt8):=LO oP a6 (p6 t).2
def p8(t:List UInt8):=LO oP a6 (p7 t).2
def p9(t:List UInt8):=LO oP a6 (p8 t).2
def gp(t:List UInt8):=LO xD 0 (p9 t).2
def gn(t:List UInt8):=LO oP a6 (gp t).2
def cg(t:List UInt8):=LO wx zS (gn t).2
def gm(t:List UInt8):=LO oP a6 (cg t).2
def gl(t:List UInt8):=LO oP a6 (gm t).2
def gk(t:List UInt8):=LO (CP oP) [] (gl t).2
def gj(t:List UInt8):=LO (CP QZ) [] (gk t).2
def Nd(t:List UInt8):=LO wx zS (gj t).2
def A9:B_:=⟨#[49]⟩
def JH(t:List UInt8):j8:=⟨(p1 t).1,(p2 t).1,(p3 t).1,(p4 t).1,(p5 t).1,(p6 t).1,(iD (p7 t).1).1,(p8 t).1,decide ((p9 t).1=A9),(gp t).1,(gn t).1,(cg t).1,⟨(gm t).1,(gl t).1,(gk t).1,(gj t).1,(Nd t).1⟩⟩
def YF(t:List UInt8):List Bool:=[(oP t).isSome,(xD (p0 t).2).isSome,(xD (p1 t).2).isSome,(xD (p2 t).2).isSome,(xD (p3 t).2).isSome,(oP (p4 t).2).isSome,((CP oP) (p5 t).2).isSome,(oP (p6 t).2).isSome,(oP (p7 t).2).isSome,(oP (p8 t).2).isSome,(xD (p9 t).2).isSome,(oP (gp t).2).isSome,(wx (gn t).2).isSome,(oP (cg t).2).isSome,(oP (gm t).2).isSome,((CP oP) (gl t).2).isSome,((CP QZ) (gk t).2).isSome,(wx (gj t).2).isSome]
def wJ(t:List UInt8):Bool:=(YF t).all id
def dW(t:List UInt8):j8×Int:=if 20000<t.length then(zR,2)else if wJ t=true/\mH (JH t)=(b7 t,0)then(JH t,0)else(zR,5)
theorem lD{f}{d}{l}{e:α->AV}:((f l).map fun p=>(e p.1,p.2)).getD (e d,l)=(e (LO f d l).1,(LO f d l).2):=by rw[LO];cases f l<;>rfl
theorem oD{f}{d:α}{l}(h:∀p q,f l=some (p,q)->q.length<l.length):(LO f d l).2.length<=l.length:=by
 rw[LO];cases e:f l with
 |none=>simp_all
 |some p=>grind
theorem XJ{l q}{s}(h:wx l=some (s,q)):q.length<l.length/\qA s.idx/\(s.sig.length<=l.length/\∀x∈s.sig,x.size<=l.length)/\(s.path.length<=l.length/\∀x∈s.path,x.size<=l.length):=by
 rw[wx]at h;cases e:xD l with
 |none=>simp_all
 | some p =>
  obtain ⟨i,r⟩:=p;have g:=kH e;rw[e]at h;simp at h;cases d:CP _ r with
  |none=>rw[d]at h;cases h
  | some p =>
   obtain ⟨a,r2⟩:=p;have j:=zE d;rw[d]at h;simp at h;cases c:CP _ _ with
   |none=>rw[c]at h;cases h
   |some p =>
    have f:=zE c;rw[c]at h;cases h;exact⟨X,g.2,⟨G_,fun x b=>by have:=j.2 x b;omega⟩,G_,fun x b=>by have:=f.2 x b;omega⟩
theorem vY{f}{d}{l}(Q:α->Prop)(hd:Q d)(h:∀p q,f l=some (p,q)->Q p):Q (LO f d l).1:=by
 rw[LO];cases e:f l with
 |none=>exact hd
 |some p=>grind
theorem Hm(t):(p0 t).2.length<=t.length:=oD (fun p q h=>by have:=lG h;omega)
theorem Hl(t):(p1 t).2.length<=t.length:=Nat.le_trans (oD (fun p q h=>(kH h).1)) (Hm t)
theorem Hj(t):(p2 t).2.length<=t.length:=Nat.le_trans (oD (fun p q h=>(kH h).1)) (Hl t)
theorem Hi(t):(p3 t).2.length<=t.length:=Nat.le_trans (oD (fun p q h=>(kH h).1)) (Hj t)
theorem kr(t):(p4 t).2.length<=t.length:=Nat.le_trans (oD (fun p q h=>(kH h).1)) (Hi t)
theorem ko(t):(p5 t).2.length<=t.length:=Nat.le_trans (oD (fun p q h=>by have:=lG h;omega)) (kr t)
theorem km(t):(p6 t).2.length<=t.length:=Nat.le_trans (oD (fun p q h=>by have:=(zE h).1;omega)) (ko t)
theorem kj(t):(p7 t).2.length<=t.length:=Nat.le_trans (oD (fun p q h=>by have:=lG h;omega)) (km t)
theorem Hh(t):(p8 t).2.length<=t.length:=Nat.le_trans (oD (fun p q h=>by have:=lG h;omega)) (kj t)
theorem Hg(t):(p9 t).2.length<=t.length:=Nat.le_trans (oD (fun p q h=>by have:=lG h;omega)) (Hh t)
theorem X8(t):(gp t).2.length<=t.length:=Nat.le_trans (oD (fun p q h=>(kH h).1)) (Hg t)
theorem X7(t):(gn t).2.length<=t.length:=Nat.le_trans (oD (fun p q h=>by have:=lG h;omega)) (X8 t)
theorem X6(t):(cg t).2.length<=t.length:=Nat.le_trans (oD (fun p q h=>(XJ h).1)) (X7 t)
theorem X5(t):(gm t).2.length<=t.length:=Nat.le_trans (oD (fun p q h=>by have:=lG h;omega)) (X6 t)
theorem X4(t):(gl t).2.length<=t.length:=Nat.le_trans (oD (fun p q h=>by have:=lG h;omega)) (X5 t)
theorem X3(t):(gk t).2.length<=t.length:=Nat.le_trans (oD (fun p q h=>by have:=(zE h).1;omega)) (X4 t)
theorem X2(t):(gj t).2.length<=t.length:=Nat.le_trans (oD (fun p q h=>by have:=(tc h).1;omega)) (X3 t)
theorem Rb(t):(Nd t).2.length<=t.length:=Nat.le_trans (oD (fun p q h=>(XJ h).1)) (X2 t)
theorem Ee{l q}{s}{n}(h:wx l=some (s,q))(hn:l.length<=n):qA s.idx/\(s.sig.length<=n/\∀x∈s.sig,x.size<=n)/\(s.path.length<=n/\∀x∈s.path,x.size<=n):=by
 obtain ⟨_,h1,h2,h3⟩:=XJ h
 grind
theorem aBG(t:List UInt8):qA zS.idx/\(zS.sig.length<=t.length/\∀x∈zS.sig,x.size<=t.length)/\(zS.path.length<=t.length/\∀x∈zS.path,x.size<=t.length):=by simp[zS,qA]
theorem aBy(t):(qA) (p1 t).1:=vY _ (⟨H_,H_⟩) (fun p q h=>(kH h).2)
theorem aBw(t):(qA) (p2 t).1:=vY _ (⟨H_,H_⟩) (fun p q h=>(kH h).2)
theorem aBu(t):(qA) (p3 t).1:=vY _ (⟨H_,H_⟩) (fun p q h=>(kH h).2)
theorem aBs(t):(qA) (p4 t).1:=vY _ (⟨H_,H_⟩) (fun p q h=>(kH h).2)
theorem aBq(t):(fun s=>s.size<=t.length) (p5 t).1:=by exact vY (f:=oP) (fun s=>s.size<=t.length) ((l6 _)) (fun p q h=>by have:=lG h;have:=kr t;omega)
theorem aBo(t):(fun l=>l.length<=t.length/\∀x∈l,x.size<=t.length) (p6 t).1:=by exact vY (f:=(CP oP)) (fun l=>l.length<=t.length/\∀x∈l,x.size<=t.length) (⟨l6 _,H_⟩) (fun p q h=>by have a:=zE h;have h2:=ko t;exact⟨X,fun x b=>by have:=a.2 x b;omega⟩)
theorem aBm(t):(fun s=>s.size<=t.length) (p7 t).1:=by exact vY (f:=oP) (fun s=>s.size<=t.length) ((l6 _)) (fun p q h=>by have:=lG h;have:=km t;omega)
theorem aBk(t):(fun s=>s.size<=t.length) (p8 t).1:=by exact vY (f:=oP) (fun s=>s.size<=t.length) ((l6 _)) (fun p q h=>by have:=lG h;have:=kj t;omega)
theorem Zb(t):(qA) (gp t).1:=vY _ (⟨H_,H_⟩) (fun p q h=>(kH h).2)
theorem Yz(t):(fun s=>s.size<=t.length) (gn t).1:=by exact vY (f:=oP) (fun s=>s.size<=t.length) ((l6 _)) (fun p q h=>by have:=lG h;have:=X8 t;omega)
theorem Yx(t):(fun s=>qA s.idx/\(s.sig.length<=t.length/\∀x∈s.sig,x.size<=t.length)/\(s.path.length<=t.length/\∀x∈s.path,x.size<=t.length)) (cg t).1:=by unfold cg;exact vY (fun s:m9=>qA _/\(s.sig.length<=t.length/\∀x∈s.sig,x.size<=t.length)/\(s.path.length<=t.length/\∀x∈s.path,x.size<=t.length)) (aBG t) (fun p q h=>Ee h (X7 t))
theorem Yv(t):(fun s=>s.size<=t.length) (gm t).1:=by exact vY (f:=oP) (fun s=>s.size<=t.length) ((l6 _)) (fun p q h=>by have:=lG h;have:=X6 t;omega)
theorem Yt(t):(fun s=>s.size<=t.length) (gl t).1:=by exact vY (f:=oP) (fun s=>s.size<=t.length) ((l6 _)) (fun p q h=>by have:=lG h;have:=X5 t;omega)
theorem Yr(t):(fun l=>l.length<=t.length/\∀x∈l,x.size<=t.length) (gk t).1:=by exact vY (f:=(CP oP)) (fun l=>l.length<=t.length/\∀x∈l,x.size<=t.length) (⟨l6 _,H_⟩) (fun p q h=>by have a:=zE h;have h2:=X4 t;exact⟨X,fun x b=>by have:=a.2 x b;omega⟩)
theorem Yp(t):(fun l=>l.length<=t.length/\∀q∈l,qA q.1/\qA q.2) (gj t).1:=by exact vY (f:=(CP QZ)) (fun l=>l.length<=t.length/\∀q∈l,qA q.1/\qA q.2) (⟨l6 _,H_⟩) (fun p q h=>by have a:=tc h;have h2:=X3 t;exact⟨X,a.2⟩)
theorem Yn(t):(fun s=>qA s.idx/\(s.sig.length<=t.length/\∀x∈s.sig,x.size<=t.length)/\(s.path.length<=t.length/\∀x∈s.path,x.size<=t.length)) (Nd t).1:=by unfold Nd;exact vY (fun s:m9=>qA _/\(s.sig.length<=t.length/\∀x∈s.sig,x.size<=t.length)/\(s.path.length<=t.length/\∀x∈s.path,x.size<=t.length)) (aBG t) (fun p q h=>Ee h (X2 t))
theorem Fj{N:Nat}(hN:N<=20000){k a n c t:Int}{u s v nm w:B_}{pa m:List B_}{i:List b8}{y:Bool}{sl ps:m9}{f}(B:qA k)(I:qA a)(D:qA n)(H:qA c)(o:qA t)(h5:u.size<=N)(h8:s.size<=N)(h11:v.size<=N)(h13:nm.size<=N)(h14:w.size<=N)
  (r:pa.length<=N/\∀x∈pa,x.size<=N) (p:m.length<=N/\∀x∈m,x.size<=N) (h16:f.length<=N/\∀q∈f,qA q.1/\qA q.2) (he:i.length<=20000) (j:∀e∈i,T3 e)
  (d:qA sl.idx/\(sl.sig.length<=N/\∀x∈sl.sig,x.size<=N)/\(sl.path.length<=N/\∀x∈sl.path,x.size<=N)) (g:qA ps.idx/\(ps.sig.length<=N/\∀x∈ps.sig,x.size<=N)/\(ps.path.length<=N/\∀x∈ps.path,x.size<=N)) :
  mI ⟨k,a,n,c,u,pa,i,s,y,t,v,sl,⟨nm,w,m,f,ps⟩⟩/\pa.length<549755813888:=by
 have b:∀ {l:List B_},(l.length<=N/\∀x∈l,x.size<=N)->lq l:=fun h=>⟨X,fun x G=>by have:=h.2 x G;omega⟩;obtain ⟨z,d_,E⟩:=d;obtain ⟨c_,A,F⟩:=g;exact⟨⟨⟨B,I,D,H,o⟩,⟨G_,G_,G_⟩,b r,⟨G_,j⟩,⟨z,b d_,b E⟩,G_,G_,b p,G_,c_,b A,b F⟩,by have:=r.1;omega⟩
theorem aw{t}(a:t.length<=20000):mI (JH t)/\(JH t).parents.length<549755813888 :=Fj a (aBy t) (aBw t) (aBu t) (aBs t) (Zb t) (aBq t) (aBk t) (Yz t) (Yv t) (Yt t) (aBo t) (Yr t) (Yp t) (NI _) (RB _) (Yx t) (Yn t)
theorem eK{β:Type}{o:Option _}{g:α->β}:(o.map g=none↔o.isSome=false)/\((o.map g).isSome=o.isSome):=H_
theorem oE{t}{b}(h:b∈YF t)(hb:b=false):wJ t=false:=by
 rw[wJ]
 simp_all
theorem aDf(t):(J6 t).getD (sv a6,t)=(sv (p0 t).1,(p0 t).2):=by exact lD
theorem aCI(t)(h:J6 t=none):wJ t=false:=oE (List.mem_of_getElem? (i:=0) Z) (eK.1.1 h)
theorem aDe(t):(EB (p0 t).2).getD (iv 0,(p0 t).2)=(iv (p1 t).1,(p1 t).2):=by exact lD
theorem aBz(t)(h:EB (p0 t).2=none):wJ t=false:=oE (List.mem_of_getElem? (i:=1) Z) (eK.1.1 h)
theorem aDd(t):(EB (p1 t).2).getD (iv 0,(p1 t).2)=(iv (p2 t).1,(p2 t).2):=by exact lD
theorem aBx(t)(h:EB (p1 t).2=none):wJ t=false:=oE (List.mem_of_getElem? (i:=2) Z) (eK.1.1 h)
theorem aDc(t):(EB (p2 t).2).getD (iv 0,(p2 t).2)=(iv (p3 t).1,(p3 t).2):=by exact lD
theorem aBv(t)(h:EB (p2 t).2=none):wJ t=false:=oE (List.mem_of_getElem? (i:=3) Z) (eK.1.1 h)
theorem aDb(t):(EB (p3 t).2).getD (iv 0,(p3 t).2)=(iv (p4 t).1,(p4 t).2):=by exact lD
theorem aBt(t)(h:EB (p3 t).2=none):wJ t=false:=oE (List.mem_of_getElem? (i:=4) Z) (eK.1.1 h)
theorem aDa(t):(J6 (p4 t).2).getD (sv a6,(p4 t).2)=(sv (p5 t).1,(p5 t).2):=by exact lD
theorem aBr(t)(h:J6 (p4 t).2=none):wJ t=false:=oE (List.mem_of_getElem? (i:=5) Z) (eK.1.1 h)
theorem aD9(t):(yr (p5 t).2).getD (.pv (aL []),(p5 t).2)=(.pv (aL (p6 t).1),(p6 t).2):=by exact lD (e:=fun v=>.pv _)
theorem aBp(t)(h:yr (p5 t).2=none):wJ t=false:=oE (List.mem_of_getElem? (i:=6) Z) (eK.1.1 h)
theorem aD8(t):(J6 (p6 t).2).getD (sv a6,(p6 t).2)=(sv (p7 t).1,(p7 t).2):=by exact lD
theorem aBn(t)(h:J6 (p6 t).2=none):wJ t=false:=oE (List.mem_of_getElem? (i:=7) Z) (eK.1.1 h)
theorem aD7(t):(J6 (p7 t).2).getD (sv a6,(p7 t).2)=(sv (p8 t).1,(p8 t).2):=by exact lD
theorem aBl(t)(h:J6 (p7 t).2=none):wJ t=false:=oE (List.mem_of_getElem? (i:=8) Z) (eK.1.1 h)
theorem aD6(t):(J6 (p8 t).2).getD (sv a6,(p8 t).2)=(sv (p9 t).1,(p9 t).2):=by exact lD
theorem aBj(t)(h:J6 (p8 t).2=none):wJ t=false:=oE (List.mem_of_getElem? (i:=9) Z) (eK.1.1 h)
theorem aCH(t):(EB (p9 t).2).getD (iv 0,(p9 t).2)=(iv (gp t).1,(gp t).2):=by exact lD
theorem Zc(t)(h:EB (p9 t).2=none):wJ t=false:=oE (List.mem_of_getElem? (i:=10) Z) (eK.1.1 h)
theorem aCG(t):(J6 (gp t).2).getD (sv a6,(gp t).2)=(sv (gn t).1,(gn t).2):=by exact lD
theorem Za(t)(h:J6 (gp t).2=none):wJ t=false:=oE (List.mem_of_getElem? (i:=11) Z) (eK.1.1 h)
theorem aCF(t):(Ph (gn t).2).getD (av (lI zS),(gn t).2)=(av (lI (cg t).1),(cg t).2):=by exact lD (e:=fun v=>av _)
theorem Yy(t)(h:Ph (gn t).2=none):wJ t=false:=oE (List.mem_of_getElem? (i:=12) Z) (eK.1.1 h)
theorem aCE(t):(J6 (cg t).2).getD (sv a6,(cg t).2)=(sv (gm t).1,(gm t).2):=by exact lD
theorem Yw(t)(h:J6 (cg t).2=none):wJ t=false:=oE (List.mem_of_getElem? (i:=13) Z) (eK.1.1 h)
theorem aCD(t):(J6 (gm t).2).getD (sv a6,(gm t).2)=(sv (gl t).1,(gl t).2):=by exact lD
theorem Yu(t)(h:J6 (gm t).2=none):wJ t=false:=oE (List.mem_of_getElem? (i:=14) Z) (eK.1.1 h)
theorem aCC(t):(yr (gl t).2).getD (.pv (aL []),(gl t).2)=(.pv (aL (gk t).1),(gk t).2):=by exact lD (e:=fun v=>.pv _)
theorem Ys(t)(h:yr (gl t).2=none):wJ t=false:=oE (List.mem_of_getElem? (i:=15) Z) (eK.1.1 h)
theorem aCB(t):(db (gk t).2).getD (.pv (xJ []),(gk t).2)=(.pv (xJ (gj t).1),(gj t).2):=by exact lD (e:=fun v=>.pv _)
theorem Yq(t)(h:db (gk t).2=none):wJ t=false:=oE (List.mem_of_getElem? (i:=16) Z) (eK.1.1 h)
theorem aCA(t):(Ph (gj t).2).getD (av (lI zS),(gj t).2)=(av (lI (Nd t).1),(Nd t).2):=by exact lD (e:=fun v=>av _)
theorem Yo(t)(h:Ph (gj t).2=none):wJ t=false:=oE (List.mem_of_getElem? (i:=17) Z) (eK.1.1 h)
theorem Rr(t)(r:(J6 t).isSome=true)(o:(EB (p0 t).2).isSome=true)(s:(EB (p1 t).2).isSome=true)(p:(EB (p2 t).2).isSome=true)(l:(EB (p3 t).2).isSome=true)(q:(J6 (p4 t).2).isSome=true)(j:(yr (p5 t).2).isSome=true)(n:(J6 (p6 t).2).isSome=true)(m:(J6 (p7 t).2).isSome=true)(k:(J6 (p8 t).2).isSome=true)(g:(EB (p9 t).2).isSome=true)(c:(J6 (gp t).2).isSome=true)(h:(Ph (gn t).2).isSome=true)(f:(J6 (cg t).2).isSome=true)(b:(J6 (gm t).2).isSome=true)(i:(yr (gl t).2).isSome=true)(d:(db (gk t).2).isSome=true)(e:(Ph (gj t).2).isSome=true):wJ t=true:=by unfold wJ YF;simp[List.all_cons,List.all_nil,id,Bool.and_true,j0];exact⟨eK.2▸r,eK.2▸o,eK.2▸s,eK.2▸p,eK.2▸l,eK.2▸q,eK.2▸j,eK.2▸n,eK.2▸m,eK.2▸k,eK.2▸g,eK.2▸c,eK.2▸h,eK.2▸f,eK.2▸b,eK.2▸i,eK.2▸d,eK.2▸e⟩
end Go.Proofs.YtopnleflllkbmaaGreatDoor
namespace Go.Proofs.YtopnleflllkbmaaGreatDoor
open Go.Proofs.Tryz
open Go.Abs
theorem ZJ.mono{P}{F}{args}{H}{u}{K b}(h:ZJ P F args H u K)(f:∀H,K H->b H):ZJ P F args H u b :=fun I ι w vs d j g=>(h I _ w _ d j g).mono fun _ _ _ ⟨v,c,i,a,e,s,q,r⟩=>⟨v,c,i,a,e,s,f _ q,r⟩
def PQ(t:List UInt8)(r:AV)(H:aF):Prop:=r=.tup [av (dR (dW t).1),iv (dW t).2]/\H=[]
abbrev dE:cY:=[(2,.ref 2 0 0 0),(3,.ref 3 0 0 0)]
theorem fb(x)(e){t}(hg:dW t=(x,e)):∃r,(∀(a) (w) (I) (ι),Rel I ι (kh x e) w->lL w I ι (kh x e) dE a->∃v,(results f54 a.tmps).run Tryz.prog w=.ok v w/\VRel w I ι (kh x e) v r)/\∃r' H3,Fin [] (kh x e) r H3 r'/\PQ t r' H3 :=⟨.tup [av (dR x),iv e],aD2 Z (CC cK bD) (iJ Z mX Z Z Z Z),_,[],Fin.wk H_ T_ T_,by rw[PQ];simp_all⟩
theorem rR{t}{i}{e}{H2}(m:¬ 20000<t.length)(hok:wJ t=false)(r:i=HQ)(j:e.get 2=some (.ref 2 0 0 0))(q:e.get 3=some (.ref 3 0 0 0))(p:∃o,H2.get 2=some o/\mP o rAJ)(l:∃o,H2.get 3=some o/\mP o eAJ):
  vk Tryz.prog f54 [] (kh zR 0) 97 dcJ (PQ t) (.panic i) e H2:=by
 subst r;have w:dW t=(zR,5):=by rw[dW,a8 m,a8 F_]
 refine⟨.panicking HQ,dE,pAJ,.inr ⟨HQ,Z,Z⟩,cJ.toAny (fun u v s=>?_) (fun id o' c=>?_) (fun id n=>?_),ZJ.mono Yl fun H k=>by subst k;exact fb zR 5 w⟩
 ·have a:=iK s;simp only[l7,n_,or_false,Prod.mk.injEq]at a;rcases a with⟨rfl,rfl⟩|⟨rfl,rfl⟩
  ·exact⟨j,by simp;rfl⟩
  exact⟨q,by simp;rfl⟩
 ·have a:=dY c;simp[l7,n_,or_false,Prod.mk.injEq]at a;rcases a with⟨rfl,rfl⟩|⟨rfl,rfl⟩
  ·obtain ⟨o,d,f⟩:=l;exact⟨o,d,f,H_⟩
  obtain ⟨o,d,f⟩:=p;exact⟨o,d,f,H_⟩
 by_cases h:3=id
 ·subst h;rfl
 by_cases g:2=id
 ·subst g;rfl
 simp[aF.get,jS h,jS g]at n
theorem VB{t}{x}{e}{b}{H2}(f:dW t=(x,e))(c:cJ (kh zR 0) b H2 dE (kh x e)):vk Tryz.prog f54 [] (kh zR 0) 97 dcJ (PQ t) .ret b H2 :=⟨.returning,dE,kh x e,.inl ⟨.inr Z,Z⟩,c,ZJ.mono (Yk x e) fun H d=>by subst d;exact fb x e f⟩
theorem OO{x}{o}(h:mP (Bn x) o):mP o rAJ:=⟨h.1.symm,h.2.1.symm,h.2.2.1.symm,h.2.2.2.symm⟩
theorem FK{e}{o}(h:mP (Bq e) o):mP o eAJ:=⟨h.1.symm,h.2.1.symm,h.2.2.1.symm,h.2.2.2.symm⟩
theorem XL(x):mP (Bn x) rAJ:=⟨Z,Z,Z,Z⟩
theorem XK(e):mP (Bq e) eAJ:=⟨Z,Z,Z,Z⟩
theorem bz(t:List UInt8)(hts:t.length<2^40)(H:aF):RC 54 [sv (b7 t)] (.tup [av (dR (dW t).1),iv (dW t).2]) H:=by
 refine aS.pure (show aS Tryz.prog 54 [sv (b7 t)] [] (PQ t)from ?_) (by simp) H;have hls:(b7 t).size=t.length:=cB t;refine aS.bodyD func54 Z ntmps54 (r9 Z)<|uo<|Rd (kl 2 ie)<|O (kl 3 Wu)<|uo<|C V<|Y (gR U_)<|O jK<|Cn ?_ ?_<;>intro x
 ·have d_:20000<t.length:=by have:=b9 x;omega
  have hg:dW t=(zR,2):=by rw[dW,b6 d_]
  refine C (oN SW)<|Uu (iZ bD)<|Uu (iZ sizeOf25)<|Zz<|aC<|iB (H':=[]) (.inr Z) Z (eY Z cK bD Z Z Z (by simp only[Zl,S_];rfl) Z) (iJ Z mX Z Z Z Z) (Fin.wk (by simp[dR,S8]) T_ T_) ?_;rw[PQ,hg];exact Qq
 have d_:¬ 20000<t.length:=by have:=b_ x;omega
 refine aA<|zj (F:=97) (cs:=dcJ) Z Z Z Z Z Z Z Z Z call97<|fZ.mono (Q:=vk Tryz.prog f54 [] (kh zR 0) 97 dcJ (PQ t)) ?_ (fun _ _ _ h=>h);have t0:=aDf t;have n0:=aCI t;have c0:=Hm t;have t1:=aDe t;have n1:=aBz t;have c1:=Hl t;have t2:=aDd t;have n2:=aBx t;have c2:=Hj t;have t3:=aDc t;have n3:=aBv t;have c3:=Hi t;have t4:=aDb t;have n4:=aBt t;have c4:=kr t;have t5:=aDa t;have n5:=aBr t;have c5:=ko t;have t6:=aD9 t;have n6:=aBp t;have c6:=km t;have t7:=aD8 t;have n7:=aBn t;have c7:=kj t;have t8:=aD7 t;have n8:=aBl t;have c8:=Hh t;have t9:=aD6 t;have n9:=aBj t;have c9:=Hg t;have t10:=aCH t;have n10:=Zc t;have c10:=X8 t;have t11:=aCG t;have n11:=Za t;have c11:=X7 t;have t12:=aCF t;have n12:=Yy t;have c12:=X6 t;have t13:=aCE t;have n13:=Yw t;have c13:=X5 t;have t14:=aCD t;have n14:=Yu t;have c14:=X4 t;have t15:=aCC t;have n15:=Ys t;have c15:=X3 t;have t16:=aCB t;have n16:=Yq t;have c16:=X2 t;have t17:=aCA t;have n17:=Yo t;have c17:=Rb t;have yes:=Rr t;have o:=aw (t:=t) (by omega);have y:JH t=⟨(p1 t).1,(p2 t).1,(p3 t).1,(p4 t).1,(p5 t).1,(p6 t).1,(iD (p7 t).1).1,(p8 t).1,decide ((p9 t).1=A9),(gp t).1,(gn t).1,(cg t).1,⟨(gm t).1,(gl t).1,(gk t).1,(gj t).1,(Nd t).1⟩⟩:=rfl;have s7:(p7 t).1.size<=t.length:=aBm t;have u:dW t=if wJ t=true/\mH (JH t)=(b7 t,0)then(JH t,0)else(zR,5):=by rw[dW,a8 d_]
 rw[y]at o u;obtain ⟨V0,hV0⟩:∃v,v=(p0 t).1:=X_;obtain ⟨L0,hL0⟩:∃v,v=(p0 t).2:=X_;obtain ⟨F,hV1⟩:∃v,v=(p1 t).1:=X_;obtain ⟨L1,hL1⟩:∃v,v=(p1 t).2:=X_;obtain ⟨E,hV2⟩:∃v,v=(p2 t).1:=X_;obtain ⟨L2,hL2⟩:∃v,v=(p2 t).2:=X_;obtain ⟨I,hV3⟩:∃v,v=(p3 t).1:=X_;obtain ⟨L3,hL3⟩:∃v,v=(p3 t).2:=X_;obtain ⟨G,hV4⟩:∃v,v=(p4 t).1:=X_;obtain ⟨L4,hL4⟩:∃v,v=(p4 t).2:=X_;obtain ⟨N,hV5⟩:∃v,v=(p5 t).1:=X_;obtain ⟨L5,hL5⟩:∃v,v=(p5 t).2:=X_;obtain ⟨e_,hV6⟩:∃v,v=(p6 t).1:=X_;obtain ⟨L6,hL6⟩:∃v,v=(p6 t).2:=X_;obtain ⟨V7,hV7⟩:∃v,v=(p7 t).1:=X_;obtain ⟨L7,hL7⟩:∃v,v=(p7 t).2:=X_;obtain ⟨V8,hV8⟩:∃v,v=(p8 t).1:=X_;obtain ⟨L8,hL8⟩:∃v,v=(p8 t).2:=X_;obtain ⟨V9,hV9⟩:∃v,v=(p9 t).1:=X_;obtain ⟨L9,hL9⟩:∃v,v=(p9 t).2:=X_;obtain ⟨n,P⟩:∃v,v=(gp t).1:=X_;obtain ⟨L10,hL10⟩:∃v,v=(gp t).2:=X_;obtain ⟨V11,hV11⟩:∃v,v=(gn t).1:=X_;obtain ⟨L11,Q⟩:∃v,v=(gn t).2:=X_;obtain ⟨p,T⟩:∃v,v=(cg t).1:=X_;obtain ⟨L12,hL12⟩:∃v,v=(cg t).2:=X_;obtain ⟨B,R⟩:∃v,v=(gm t).1:=X_;obtain ⟨L13,A_⟩:∃v,v=(gm t).2:=X_;obtain ⟨w,W⟩:∃v,v=(gl t).1:=X_;obtain ⟨L14,hL14⟩:∃v,v=(gl t).2:=X_;obtain ⟨z,y_⟩:∃v,v=(gk t).1:=X_;obtain ⟨L15,o_⟩:∃v,v=(gk t).2:=X_;obtain ⟨s,f_⟩:∃v,v=(gj t).1:=X_;obtain ⟨L16,hL16⟩:∃v,v=(gj t).2:=X_;obtain ⟨c_,z_⟩:∃v,v=(Nd t).1:=X_;obtain ⟨L17,v_⟩:∃v,v=(Nd t).2:=X_;simp only[<-hV0,<-hL0,<-hV1,<-hL1,<-hV2,<-hL2,<-hV3,<-hL3,<-hV4,<-hL4,<-hV5,<-hL5,<-hV6,<-hL6,<-hV7,<-hL7,<-hV8,<-hL8,<-hV9,<-hL9,<-P,<-hL10,<-hV11,<-Q,<-T,<-hL12,<-R,<-A_,<-W,<-hL14,<-y_,<-o_,<-f_,<-hL16,<-z_,<-v_]at t0 n0 c0 t1 n1 c1 t2 n2 c2 t3 n3 c3 t4 n4 c4 t5 n5 c5 t6 n6 c6 t7 n7 c7 t8 n8 c8 t9 n9 c9 t10 n10 c10 t11 n11 c11 t12 n12 c12 t13 n13 c13 t14 n14 c14 t15 n15 c15 t16 n16 c16 t17 n17 c17 yes o u s7;clear y hV0 hL0 hV1 hL1 hV2 hL2 hV3 hL3 hV4 hL4 hV5 hL5 hV6 hL6 hV7 hL7 hV8 hL8 hV9 hL9 P hL10 hV11 Q T hL12 R A_ W hL14 y_ o_ f_ hL16 z_ v_;have hpc:=fun H=>Gy V7 H (by omega);obtain ⟨PE,hPE⟩:∃v,v=iD V7:=X_;rw[<-hPE]at hpc o u;clear hPE;obtain ⟨u_,EE⟩:=PE;simp only at hpc o u;have htx:=fun H=>XE ⟨F,E,I,G,N,e_,u_,V8,decide (V9=A9),n,V11,p,⟨B,w,z,s,c_⟩⟩ o.1 o.2 H;obtain ⟨TX,hTX⟩:∃v,v=mH ⟨F,E,I,G,N,e_,u_,V8,decide (V9=A9),n,V11,p,⟨B,w,z,s,c_⟩⟩:=X_;rw[<-hTX]at htx u;clear hTX o;refine C V<|Y (oN aCi)<|Y (kb 980)<|Y (kl 4 aBF)<|Uu (iZ sizeOf125)<|Zz<|S ?_;refine fZ.ent (E':=[(0,sv (b7 t)),(2,.ref 2 0 0 0),(3,.ref 3 0 0 0),(4,.ref 4 0 0 0)]) (H':=[(980,gi t),(4,inO),(3,Bq 0),(2,Bn zR)]) (cJ.wk (Eb<|Ea<|Ea<|Ea<|T_) (Hb<|Ha<|Hb<|Hb<|T_) ⟨Z,Z,T_⟩)<|gN<|iP Z Z Z (by exact aX Z dT Z Z Z Z Z) ?_
 refine ZB Z Z Z (by exact eG Z Z nE Z (((zW t (by omega)).tot t0 Z (fX _)).mono (PP':=fun ch H'=>wJ t=false/\ch=HQ/\∃q,H'=nB q++_) (fun _ _ h=>h) (fun ch H' ⟨e,e2,e3⟩=>⟨n0 e,e2,e3⟩))) (fun ch H' h=>by obtain ⟨e,e2,q,rfl⟩:=h;exact rR d_ e e2 Z Z ⟨_,Z,XL _⟩ ⟨_,Z,XK _⟩) (fun h16=>?_);refine PF<|S ?_;refine fZ.ent (E':=[(0,sv (b7 t)),(2,.ref 2 0 0 0),(3,.ref 3 0 0 0),(4,.ref 4 0 0 0)]) (H':=[(980,gi L0),(4,inO),(3,Bq 0),(2,Bn zR)]) (cJ.wk (Eb<|Ea<|Ea<|Ea<|T_) (Hb<|Ha<|Hb<|Hb<|T_) ⟨Z,Z,T_⟩)<|yJ (fun ch H1 D=>wJ t=false/\ch=HQ/\∃q,D=nB q++H1) [2,3] [2,3] [] Z a7 (fun ch E1 H1 D hts hsh hks ⟨e,e2,q,e3⟩=>by subst e3;obtain ⟨o2,k1,k2⟩:=hsh 2 (by simp) _ Z;obtain ⟨o3,k3,k4⟩:=hsh 3 (by simp) _ Z;exact rR d_ e e2 ((hts 2 (by simp)).trans Z) ((hts 3 (by simp)).trans Z) ⟨o2,k1,OO k2⟩ ⟨o3,k3,FK k4⟩) ?_;refine Pr [4] (fun _ h=>lh dT h)<|vI (r:=⟨_,some [980],nB L1⟩) (.pan Z (fun H1 hH=>by exact eG Z Z jF Z (((oA L0 (by omega)).tot t1 ((hH 980 Z).trans Z) (fX _)).mono (PP':=fun ch H'=>wJ t=false/\ch=HQ/\∃q,H'=nB q++_) (fun _ _ h=>h) (fun ch H' ⟨e,e2,e3⟩=>⟨n1 e,e2,e3⟩)))) Z ?_;refine Pr [4] (fun _ h=>lh dT h)<|vI (r:=⟨_,some [980],nB L2⟩) (.pan Z (fun H1 hH=>by exact eG Z Z jF Z (((oA L1 (by omega)).tot t2 ((hH 980 Z).trans Z) (fX _)).mono (PP':=fun ch H'=>wJ t=false/\ch=HQ/\∃q,H'=nB q++_) (fun _ _ h=>h) (fun ch H' ⟨e,e2,e3⟩=>⟨n2 e,e2,e3⟩)))) Z ?_;refine Pr [4] (fun _ h=>lh dT h)<|vI (r:=⟨_,some [980],nB L3⟩) (.pan Z (fun H1 hH=>by exact eG Z Z jF Z (((oA L2 (by omega)).tot t3 ((hH 980 Z).trans Z) (fX _)).mono (PP':=fun ch H'=>wJ t=false/\ch=HQ/\∃q,H'=nB q++_) (fun _ _ h=>h) (fun ch H' ⟨e,e2,e3⟩=>⟨n3 e,e2,e3⟩)))) Z ?_;refine Pr [4] (fun _ h=>lh dT h)<|vI (r:=⟨_,some [980],nB L4⟩) (.pan Z (fun H1 hH=>by exact eG Z Z jF Z (((oA L3 (by omega)).tot t4 ((hH 980 Z).trans Z) (fX _)).mono (PP':=fun ch H'=>wJ t=false/\ch=HQ/\∃q,H'=nB q++_) (fun _ _ h=>h) (fun ch H' ⟨e,e2,e3⟩=>⟨n4 e,e2,e3⟩)))) Z ?_;refine Pr [2] (fun _ h=>fh oH h)<|Pw [2] (fun _ h=>su sizeOf3 h)<|Pr [2] (fun _ h=>fh ET h)<|Pw [2] (fun _ h=>su sizeOf3 h)<|Pr [2] (fun _ h=>fh AC h)<|Pw [2] (fun _ h=>su sizeOf3 h)<|Pr [2] (fun _ h=>fh ES h)<|Pw [2] (fun _ h=>su sizeOf3 h)<|KP ⟨⟨by kernel_rfl,by rfl,by rfl⟩,fun A=>?_⟩;simp only[ZI,true_and,and_true]at A;refine S ?_;have f4:=A;refine fZ.ent (E':=[(0,sv (b7 t)),(2,.ref 2 0 0 0),(3,.ref 3 0 0 0),(4,.ref 4 0 0 0)]) (H':=[(980,gi L4),(4,inO),(3,Bq 0),(2,Bn ⟨F,E,I,G,a6,[],[],a6,false,0,a6,zS,⟨a6,a6,[],[],zS⟩⟩)]) (cJ.wk (Eb<|Ea<|Ea<|Ea<|T_) (Hb<|Ha<|Hb<|Hb<|T_) ⟨Z,Z,T_⟩) ?_
 refine yJ (fun ch H1 D=>wJ t=false/\ch=HQ/\∃q,D=nB q++H1) [2,3] [2,3] [] Z a7 (fun ch E1 H1 D hts hsh hks ⟨e,e2,q,e3⟩=>by subst e3;obtain ⟨o2,k1,k2⟩:=hsh 2 (by simp) _ Z;obtain ⟨o3,k3,k4⟩:=hsh 3 (by simp) _ Z;exact rR d_ e e2 ((hts 2 (by simp)).trans Z) ((hts 3 (by simp)).trans Z) ⟨o2,k1,OO k2⟩ ⟨o3,k3,FK k4⟩) ?_;refine Pr [4] (fun _ h=>lh dT h)<|vI (r:=⟨_,some [980],nB L5⟩) (.pan Z (fun H1 hH=>by exact eG Z Z nE Z (((zW L4 (by omega)).tot t5 ((hH 980 Z).trans Z) (fX _)).mono (PP':=fun ch H'=>wJ t=false/\ch=HQ/\∃q,H'=nB q++_) (fun _ _ h=>h) (fun ch H' ⟨e,e2,e3⟩=>⟨n5 e,e2,e3⟩)))) Z ?_;refine Pr [4] (fun _ h=>lh dT h)<|Pr [4] (fun _ h=>lh dT h)<|Pr [] (fun H1 hH=>by exact pB Z Z) ?_;refine vI (r:=⟨_,some [980],nB L6⟩) (.pan Z (fun H1 hH=>by exact eG Z Z AP Z (((YP L5 (by omega)).tot t6 ((hH 980 Z).trans Z) (fX _)).mono (PP':=fun ch H'=>wJ t=false/\ch=HQ/\∃q,H'=nB q++_) (fun _ _ h=>h) (fun ch H' ⟨e,e2,e3⟩=>⟨n6 e,e2,e3⟩)))) Z ?_;refine Pr [2] (fun _ h=>fh CX h)<|Pw [2] (fun _ h=>su V_ h)<|Pr [2] (fun _ h=>fh oG h)<|Pw [2] (fun _ h=>su sizeOf22 h)<|KP ⟨⟨by rfl,by rfl,by rfl⟩,fun A=>?_⟩;simp only[ZI,true_and,and_true]at A;refine S ?_;have f6:=A;refine fZ.ent (E':=[(0,sv (b7 t)),(2,.ref 2 0 0 0),(3,.ref 3 0 0 0),(4,.ref 4 0 0 0)]) (H':=[(980,gi L6),(4,inO),(3,Bq 0),(2,Bn ⟨F,E,I,G,N,e_,[],a6,false,0,a6,zS,⟨a6,a6,[],[],zS⟩⟩)]) (cJ.wk (Eb<|Ea<|Ea<|Ea<|T_) (Hb<|Ha<|Hb<|Hb<|T_) ⟨Z,Z,T_⟩)<|gN<|iP Z Z Z (by exact aX Z dT Z Z Z Z Z)<|ZB Z Z Z (by exact eG Z Z nE Z (((zW L6 (by omega)).tot t7 Z (fX _)).mono (PP':=fun ch H'=>wJ t=false/\ch=HQ/\∃q,H'=nB q++_) (fun _ _ h=>h) (fun ch H' ⟨e,e2,e3⟩=>⟨n7 e,e2,e3⟩))) (fun ch H' h=>by obtain ⟨e,e2,q,rfl⟩:=h;exact rR d_ e e2 Z Z ⟨_,Z,XL _⟩ ⟨_,Z,XK _⟩) (fun h39=>?_);refine iP Z Z Z (kc call101 (hpc _))<|iP Z Z Z (by exact gQ Z Z)<|iP Z Z Z (by exact vB Z Z Z)<|iP Z Z Z (by exact vB Z Z Z)<|iP Z Z Z (by exact nZ Z CW Z Z Z Z)<|Ma Z Z (ku sizeOf46)<|PF<|S ?_;refine fZ.ent (E':=[(0,sv (b7 t)),(2,.ref 2 0 0 0),(3,.ref 3 0 0 0),(4,.ref 4 0 0 0)]) (H':=[(980,gi L7),(4,inO),(3,Bq 0),(2,Bn ⟨F,E,I,G,N,e_,u_,a6,false,0,a6,zS,⟨a6,a6,[],[],zS⟩⟩)]) (cJ.wk (Eb<|Ea<|Ea<|Ea<|T_) (Hb<|Ha<|Hb<|Hb<|T_) ⟨Z,Z,T_⟩)<|yJ (fun ch H1 D=>wJ t=false/\ch=HQ/\∃q,D=nB q++H1) [2,3] [2,3] [] Z a7 (fun ch E1 H1 D hts hsh hks ⟨e,e2,q,e3⟩=>by subst e3;obtain ⟨o2,k1,k2⟩:=hsh 2 (by simp) _ Z;obtain ⟨o3,k3,k4⟩:=hsh 3 (by simp) _ Z;exact rR d_ e e2 ((hts 2 (by simp)).trans Z) ((hts 3 (by simp)).trans Z) ⟨o2,k1,OO k2⟩ ⟨o3,k3,FK k4⟩) ?_;refine Pr [4] (fun _ h=>lh dT h) ?_
 refine vI (r:=⟨_,some [980],nB L8⟩) (.pan Z (fun H1 hH=>by exact eG Z Z nE Z (((zW L7 (by omega)).tot t8 ((hH 980 Z).trans Z) (fX _)).mono (PP':=fun ch H'=>wJ t=false/\ch=HQ/\∃q,H'=nB q++_) (fun _ _ h=>h) (fun ch H' ⟨e,e2,e3⟩=>⟨n8 e,e2,e3⟩)))) Z ?_;refine Pr [4] (fun _ h=>lh dT h)<|vI (r:=⟨_,some [980],nB L9⟩) (.pan Z (fun H1 hH=>by exact eG Z Z nE Z (((zW L8 (by omega)).tot t9 ((hH 980 Z).trans Z) (fX _)).mono (PP':=fun ch H'=>wJ t=false/\ch=HQ/\∃q,H'=nB q++_) (fun _ _ h=>h) (fun ch H' ⟨e,e2,e3⟩=>⟨n9 e,e2,e3⟩)))) Z ?_;refine Pr [] (fun H1 hH=>by exact JU Z Z Z)<|Pr [4] (fun _ h=>lh dT h) ?_;refine vI (r:=⟨_,some [980],nB L10⟩) (.pan Z (fun H1 hH=>by exact eG Z Z jF Z (((oA L9 (by omega)).tot t10 ((hH 980 Z).trans Z) (fX _)).mono (PP':=fun ch H'=>wJ t=false/\ch=HQ/\∃q,H'=nB q++_) (fun _ _ h=>h) (fun ch H' ⟨e,e2,e3⟩=>⟨n10 e,e2,e3⟩)))) Z ?_;refine Pr [4] (fun _ h=>lh dT h)<|vI (r:=⟨_,some [980],nB L11⟩) (.pan Z (fun H1 hH=>by exact eG Z Z nE Z (((zW L10 (by omega)).tot t11 ((hH 980 Z).trans Z) (fX _)).mono (PP':=fun ch H'=>wJ t=false/\ch=HQ/\∃q,H'=nB q++_) (fun _ _ h=>h) (fun ch H' ⟨e,e2,e3⟩=>⟨n11 e,e2,e3⟩)))) Z ?_;refine Pr [2] (fun _ h=>fh CV h)<|Pw [2] (fun _ h=>su V_ h)<|Pr [2] (fun _ h=>fh H7 h)<|Pw [2] (fun _ h=>su sizeOf4 h)<|Pr [2] (fun _ h=>fh yB h)<|Pw [2] (fun _ h=>su sizeOf3 h)<|Pr [2] (fun _ h=>fh wT h)<|Pw [2] (fun _ h=>su V_ h)<|KP ⟨⟨by kernel_rfl,by rfl,by rfl⟩,fun A=>?_⟩;simp only[ZI,true_and,and_true]at A;refine S ?_;have K:=A;refine fZ.ent (E':=[(0,sv (b7 t)),(2,.ref 2 0 0 0),(3,.ref 3 0 0 0),(4,.ref 4 0 0 0)]) (H':=[(980,gi L11),(4,inO),(3,Bq 0),(2,Bn ⟨F,E,I,G,N,e_,u_,V8,decide (V9=A9),n,V11,zS,⟨a6,a6,[],[],zS⟩⟩)]) (cJ.wk (Eb<|Ea<|Ea<|Ea<|T_) (Hb<|Ha<|Hb<|Hb<|T_) ⟨Z,Z,T_⟩)<|gN<|iP Z Z Z (by exact aX Z dT Z Z Z Z Z)<|ZB Z Z Z (by exact eG Z Z call102 Z (((qu L11 (by omega)).tot t12 Z (fX _)).mono (PP':=fun ch H'=>wJ t=false/\ch=HQ/\∃q,H'=nB q++_) (fun _ _ h=>h) (fun ch H' ⟨e,e2,e3⟩=>⟨n12 e,e2,e3⟩))) (fun ch H' h=>by obtain ⟨e,e2,q,rfl⟩:=h;exact rR d_ e e2 Z Z ⟨_,Z,XL _⟩ ⟨_,Z,XK _⟩) (fun h58=>?_);refine iP Z Z Z (by exact nZ Z zI Z Z Z Z)<|Ma Z Z (by exact qN Z sizeOf48 Z Z Z Z Z Z Z (r9 Z) Z Z)<|PF<|S ?_;refine fZ.ent (E':=[(0,sv (b7 t)),(2,.ref 2 0 0 0),(3,.ref 3 0 0 0),(4,.ref 4 0 0 0)]) (H':=[(980,gi L12),(4,inO),(3,Bq 0),(2,Bn ⟨F,E,I,G,N,e_,u_,V8,decide (V9=A9),n,V11,p,⟨a6,a6,[],[],zS⟩⟩)]) (cJ.wk (Eb<|Ea<|Ea<|Ea<|T_) (Hb<|Ha<|Hb<|Hb<|T_) ⟨Z,Z,T_⟩) ?_
 refine yJ (fun ch H1 D=>wJ t=false/\ch=HQ/\∃q,D=nB q++H1) [2,3] [2,3] [] Z a7 (fun ch E1 H1 D hts hsh hks ⟨e,e2,q,e3⟩=>by subst e3;obtain ⟨o2,k1,k2⟩:=hsh 2 (by simp) _ Z;obtain ⟨o3,k3,k4⟩:=hsh 3 (by simp) _ Z;exact rR d_ e e2 ((hts 2 (by simp)).trans Z) ((hts 3 (by simp)).trans Z) ⟨o2,k1,OO k2⟩ ⟨o3,k3,FK k4⟩) ?_;refine Pr [4] (fun _ h=>lh dT h)<|vI (r:=⟨_,some [980],nB L13⟩) (.pan Z (fun H1 hH=>by exact eG Z Z nE Z (((zW L12 (by omega)).tot t13 ((hH 980 Z).trans Z) (fX _)).mono (PP':=fun ch H'=>wJ t=false/\ch=HQ/\∃q,H'=nB q++_) (fun _ _ h=>h) (fun ch H' ⟨e,e2,e3⟩=>⟨n13 e,e2,e3⟩)))) Z ?_;refine Pr [4] (fun _ h=>lh dT h)<|vI (r:=⟨_,some [980],nB L14⟩) (.pan Z (fun H1 hH=>by exact eG Z Z nE Z (((zW L13 (by omega)).tot t14 ((hH 980 Z).trans Z) (fX _)).mono (PP':=fun ch H'=>wJ t=false/\ch=HQ/\∃q,H'=nB q++_) (fun _ _ h=>h) (fun ch H' ⟨e,e2,e3⟩=>⟨n14 e,e2,e3⟩)))) Z ?_;refine Pr [4] (fun _ h=>lh dT h)<|Pr [4] (fun _ h=>lh dT h)<|Pr [] (fun H1 hH=>by exact pB Z Z) ?_;refine vI (r:=⟨_,some [980],nB L15⟩) (.pan Z (fun H1 hH=>by exact eG Z Z AP Z (((YP L14 (by omega)).tot t15 ((hH 980 Z).trans Z) (fX _)).mono (PP':=fun ch H'=>wJ t=false/\ch=HQ/\∃q,H'=nB q++_) (fun _ _ h=>h) (fun ch H' ⟨e,e2,e3⟩=>⟨n15 e,e2,e3⟩)))) Z ?_;refine Pr [4] (fun _ h=>lh dT h)<|Pr [4] (fun H1 hH=>by exact gT Z Z) ?_;refine vI (r:=⟨_,some [980,4],nB L16⟩) (.pan Z (fun H1 hH=>by exact eG Z Z call103 Z (((Sx L15 (by omega)).tot t16 ((hH 980 Z).trans Z) (HB.sub ⟨(hH 4 Z).trans Z,T_⟩)).mono (PP':=fun ch H'=>wJ t=false/\ch=HQ/\∃q,H'=nB q++_) (fun _ _ h=>h) (fun ch H' ⟨e,e2,e3⟩=>⟨n16 e,e2,e3⟩)))) Z ?_;refine Pr [] (fun H1 hH=>by exact OG Z aDu Z Z)<|Pr [2] (fun _ h=>fh iE h)<|Pw [2] (fun _ h=>sx sizeOf51 h) ?_;refine KP ⟨⟨by kernel_rfl,by rfl,by rfl⟩,fun A=>?_⟩;simp only[ZI,true_and,and_true]at A;refine S ?_;have L:=A;refine fZ.ent (E':=[(0,sv (b7 t)),(2,.ref 2 0 0 0),(3,.ref 3 0 0 0),(4,.ref 4 0 0 0)]) (H':=[(980,gi L16),(4,inO),(3,Bq 0),(2,Bn ⟨F,E,I,G,N,e_,u_,V8,decide (V9=A9),n,V11,p,⟨B,w,z,s,zS⟩⟩)]) (cJ.wk (Eb<|Ea<|Ea<|Ea<|T_) (Hb<|Ha<|Hb<|Hb<|T_) ⟨Z,Z,T_⟩)<|gN<|iP Z Z Z (by exact aX Z dT Z Z Z Z Z)<|ZB Z Z Z (by exact eG Z Z call102 Z (((qu L16 (by omega)).tot t17 Z (fX _)).mono (PP':=fun ch H'=>wJ t=false/\ch=HQ/\∃q,H'=nB q++_) (fun _ _ h=>h) (fun ch H' ⟨e,e2,e3⟩=>⟨n17 e,e2,e3⟩))) (fun ch H' h=>by obtain ⟨e,e2,q,rfl⟩:=h;exact rR d_ e e2 Z Z ⟨_,Z,XL _⟩ ⟨_,Z,XK _⟩) (fun h74=>?_);refine iP Z Z Z (by exact nZ Z iE Z Z Z Z)<|iP Z Z Z (by exact nZ Z EU Z Z Z Z)<|Ma Z Z (by exact qN Z sizeOf48 Z Z Z Z Z Z Z (r9 Z) Z Z)<|PF<|S<|S ?_
 refine fZ.ent (E':=[(0,sv (b7 t)),(2,.ref 2 0 0 0),(3,.ref 3 0 0 0),(4,.ref 4 0 0 0)]) (H':=[(980,gi L17),(4,inO),(3,Bq 0),(2,Bn ⟨F,E,I,G,N,e_,u_,V8,decide (V9=A9),n,V11,p,⟨B,w,z,s,c_⟩⟩)]) (cJ.wk (Eb<|Ea<|Ea<|Ea<|T_) (Hb<|Ha<|Hb<|Hb<|T_) ⟨Z,Z,T_⟩) ?_;have hokt:=yes h16 f4.1 f4.2.1 f4.2.2.1 f4.2.2.2 f6.1 f6.2 h39 K.1 K.2.1 K.2.2.1 K.2.2.2 h58 L.1 L.2.1 L.2.2.1 L.2.2.2 h74;have hg1:dW t=if TX=(b7 t,0)then(⟨F,E,I,G,N,e_,u_,V8,decide (V9=A9),n,V11,p,⟨B,w,z,s,c_⟩⟩,0)else(zR,5):=by simp_all
 refine Rd (wA cK bD)<|Y (kc aEe (htx _))<|Y V<|Y dH<|Y dH<|Y U<|O U<|S<|aR (t:=88) (n:=8) (A_:=!decide (TX.2=0)||!decide (TX.1=b7 t)) ?_ ?_
 ·all_goals refine Y V<|Y zX<|Dm ?_<;>(refine Sp 84 (fun h84=>?_) fun h84=>?_)<;>(first|contradiction|refine M<|M<|M ?_|refine J V<|J V<|J HD ?_)<;>refine O cE ?_<;>exact Gj (h:=by(rw[h84];rfl))
 refine Cn ?_ ?_<;>intro x
 ·have hne:TX≠(b7 t,0):=by have:=x;rintro rfl;simp at this
  refine C (oN SW)<|Uu (iZ bD)<|Uu (iZ sizeOf25)<|Zz<|aC ?_;exact VB (by rw[hg1,a8 hne]) (cJ.wk (Ea<|Ea<|T_) (Hb<|Hb<|T_) ⟨Z,Z,T_⟩)
 have heq:TX=(b7 t,0):=by have:=x;rw[q_,Bool.not_eq_false',Bool.not_eq_false',k_,k_]at this;exact Prod.ext this.2 this.1
 refine aA<|C (wA cK bD)<|Uu (iZ bD)<|Uu (iZ sizeOf25)<|Zz<|aC ?_;exact VB (by rw[hg1,b6 heq]) (cJ.wk (Ea<|Ea<|T_) (Hb<|Hb<|T_) ⟨Z,Z,T_⟩)
open Go.Lib
theorem lC{α:Type}{f}{d:α}{l}{p}(h:f l=some p):LO f d l=p:=by rw[LO,h];rfl
theorem IB{l}(h:(jW l).2=true):(iD (jW l).1).1=l:=by
 rw[jW]at h |-
 split at h
 ·next a =>
  rw[List.eq_nil_of_length_eq_zero a];rfl
 next a =>
 rw[a8 a];exact congrArg _ (D5 (b9 h))
theorem ZW(b:Bool):decide (aQ (if b then 1 else 0)=A9)=b:=by cases b<;>kernel_rfl
def En(r:j8):List B_:=[]
def Eo(r:j8):List B_:=fI (.z r.priv.sl.idx r.priv.sl.sig r.priv.sl.path)++En r
def Ep(r:j8):List B_:=fI (.p r.priv.trace)++Eo r
def Er(r:j8):List B_:=aQ (r.priv.sources.length:Int)::(r.priv.sources++Ep r)
def Es(r:j8):List B_:=r.priv.reason::Er r
def Et(r:j8):List B_:=r.priv.name::Es r
def Eu(r:j8):List B_:=fI (.z r.sl.idx r.sl.sig r.sl.path)++Et r
def Ew(r:j8):List B_:=r.from'::Eu r
def Ex(r:j8):List B_:=aQ r.order::Ew r
def sf9(r:j8):List B_:=(aQ (if r.yes then 1 else 0))::Ex r
def sf8(r:j8):List B_:=r.target::sf9 r
def sf7(r:j8):List B_:=(jW r.edits).1::sf8 r
def sf6(r:j8):List B_:=aQ (r.parents.length:Int)::(r.parents++sf7 r)
def sf5(r:j8):List B_:=r.branch::sf6 r
def sf4(r:j8):List B_:=aQ r.clock::sf5 r
def sf3(r:j8):List B_:=aQ r.number::sf4 r
def sf2(r:j8):List B_:=aQ r.author::sf3 r
def sf1(r:j8):List B_:=aQ r.kind::sf2 r
def sf0(r:j8):List B_:=GA::sf1 r
theorem Mc(r):jL r=sf0 r:=by simp[jL,uW,yP,LU,LJ,fI,sf0,sf1,sf2,sf3,sf4,sf5,sf6,sf7,sf8,sf9,Ex,Ew,Eu,Et,Es,Er,Ep,Eo,En]
theorem xj{r:j8}(h:VF r):wJ (aM (jL r))=true/\JH (aM (jL r))=r:=by
 have hk:=BG h.k;have hau:=h.au;have hnu:=h.nu;have hcl:=h.cl;have hod:=h.order;have hpl:=h.pal;have b:=kY h.sl;have a:=kY h.psl;have s0:=b.i0;have s1:=b.i1;have s2:=b.sl;have s3:=b.pl;have z0:=a.i0;have z1:=a.i1;have z2:=a.sl;have z3:=a.pl;have hso:=h.sol;have htr:=h.trl;have A:=MH h.br;have d_:=PT h.tx;have E:=h.target;have F:=h.from
 have D:=h.nm;have z:=h.rs;have f:∀ {l:List B_},(∀t∈l,l9 t=true)->∀t∈l,HE t:=fun z_ t y=>Nat.lt_of_le_of_lt (CS (z_ t y)) E_;rw[Mc];obtain ⟨t,y⟩:∃t,t=aM (sf0 r):=X_;rw[<-y];have N:oP t=some (GA,aM (sf1 r)):=by rw[y];exact mE _ (show GA.size<1000000000000000000 by decide)
 have q0:p0 t=(GA,aM (sf1 r)):=lC N;have o_:xD (p0 t).2=some (r.kind,aM (sf2 r)):=by rw[q0];exact mF _ X X
 have H:p1 t=(r.kind,aM (sf2 r)):=lC o_;have P:xD (p1 t).2=some (r.author,aM (sf3 r)):=by rw[H];exact mF _ X X
 have T:p2 t=(r.author,aM (sf3 r)):=lC P;have e_:xD (p2 t).2=some (r.number,aM (sf4 r)):=by rw[T];exact mF _ X X
 have A_:p3 t=(r.number,aM (sf4 r)):=lC e_;have u_:xD (p3 t).2=some (r.clock,aM (sf5 r)):=by rw[A_];exact mF _ X X
 have W:p4 t=(r.clock,aM (sf5 r)):=lC u_;have R:oP (p4 t).2=some (r.branch,aM (sf6 r)):=by rw[W];exact mE _ (Nat.lt_of_le_of_lt A E_)
 have c_:p5 t=(r.branch,aM (sf6 r)):=lC R;have f_:(CP oP) (p5 t).2=some (r.parents,aM (sf7 r)):=by rw[c_];exact CO _ _ (f h.pa) X
 have y_:p6 t=(r.parents,aM (sf7 r)):=lC f_;have Q:oP (p6 t).2=some ((jW r.edits).1,aM (sf8 r)):=by rw[y_];exact mE _ (Nat.lt_of_le_of_lt d_ E_)
 have G:p7 t=((jW r.edits).1,aM (sf8 r)):=lC Q;have v_:oP (p7 t).2=some (r.target,aM (sf9 r)):=by rw[G];exact mE _ (Nat.lt_of_le_of_lt E E_)
 have I:p8 t=(r.target,aM (sf9 r)):=lC v_;have L:oP (p8 t).2=some ((aQ (if r.yes then 1 else 0)),aM (Ex r)):=by rw[I];exact mE _ (NR (by split<;>decide) (by split<;>decide))
 have K:p9 t=((aQ (if r.yes then 1 else 0)),aM (Ex r)):=lC L;have p:xD (p9 t).2=some (r.order,aM (Ew r)):=by rw[K];exact mF _ X X
 have s:gp t=(r.order,aM (Ew r)):=lC p;have n:oP (gp t).2=some (r.from',aM (Eu r)):=by rw[s];exact mE _ (Nat.lt_of_le_of_lt F E_)
 have c:gn t=(r.from',aM (Eu r)):=lC n;have o:wx (gn t).2=some (r.sl,aM (Et r)):=by rw[c];exact QE _ _ s0 X (f b.sa) (f b.pa) X X
 have u:cg t=(r.sl,aM (Et r)):=lC o;have v:oP (cg t).2=some (r.priv.name,aM (Es r)):=by rw[u];exact mE _ (Nat.lt_of_le_of_lt D E_)
 have j:gm t=(r.priv.name,aM (Es r)):=lC v;have w:oP (gm t).2=some (r.priv.reason,aM (Er r)):=by rw[j];exact mE _ (Nat.lt_of_le_of_lt z E_)
 have i:gl t=(r.priv.reason,aM (Er r)):=lC w;have m:(CP oP) (gl t).2=some (r.priv.sources,aM (Ep r)):=by rw[i];exact CO _ _ (fun x hx=>Nat.lt_of_le_of_lt (h.so x hx) E_) X
 have e:gk t=(r.priv.sources,aM (Ep r)):=lC m;have k:(CP QZ) (gk t).2=some (r.priv.trace,aM (Eo r)):=by rw[e];exact mh _ _ (fun q hq=>by obtain ⟨⟨a1,a2⟩,a3,a4⟩:=h.tr q hq;exact⟨⟨X,X⟩,X,X⟩) X
 have d:gj t=(r.priv.trace,aM (Eo r)):=lC k;have g:wx (gj t).2=some (r.priv.sl,aM (En r)):=by rw[d];exact QE _ _ z0 X (f a.sa) (f a.pa) X X
 have B:Nd t=(r.priv.sl,aM (En r)):=lC g;constructor
 ·unfold wJ YF;rw[N,o_,P,e_,u_,R,f_,Q,v_,L,p,n,o,v,w,m,k,g];rfl
 unfold JH;rw[H,T,A_,W,c_,y_,G,I,K,s,c,u,j,i,e,d,B,IB h.tx,ZW]
theorem RD{r}{t}(h:mH r=(b7 t,0)):dW t=(r,0):=by
 have e:=h;rw[mH]at h;by_cases a:gW r=true
 ·rw[b6 a]at h
  split at h
  ·cases h
  next c =>
  have f:t=aM (jL r):=by
   have:=congrArg (fun p=>p.1.data.toList) h;exact this.symm
  obtain ⟨d,b⟩:=xj (sH a);rw[<-f]at d b c;rw[dW,a8 c,b,b6 ⟨d,e⟩]
 rw[a8 a]at h;cases h
theorem JP{t}(h:(dW t).2=0):mH (dW t).1=(b7 t,0):=by
 rw[dW]at h |-
 grind
variable{α:Type}
def q8(l:List B_):List PV:=[aL l]
def sN(ls:List (List B_)):PV:=.sl (ls.map q8)
theorem S5{l:List α}{p}(h:∀j,j<l.length->∀b,l[j]?=some b->p b=true):l.all p=true:=by
 rw[List.all_eq_true];intro b a;obtain ⟨j,hj⟩:=r_.1 a
 grind
theorem ZC{l:List α}{p}{i:Nat}{b}(hb:l[i]?=some b)(h:p b=false):l.all p=false:=G_
theorem LD{l:List _}{p:α->Bool}{i}{x}(h:∀j,j<i->∀b,l[j]?=some b->p b=true)(hx:l[i]?=some x)(hp:p x=true):∀j,j<i+1->∀b,l[j]?=some b->p b=true:=G_
end Go.Proofs.YtopnleflllkbmaaGreatDoor
namespace Go.Proofs.YtopnleflllkbmaaGreatDoor
open Go.Proofs.Tryz
open Go.Abs Go.Lib
theorem WU(s)(H):∀r∈fL s,∀a∈r,Clo H a:=by intro r d a c;obtain ⟨b,_,rfl⟩:=List.mem_map.1 d;rw[q9.1 c];exact .pv _
instance(s)(H):W_ (H) (fL s):=⟨WU s H⟩
abbrev TX:B_:=⟨#[48,49,50,51,52,53,54,55,56,57]⟩
theorem Xi:∀q:Fin 10,(TX.extract q.1 (q.1+1)).data.toList=[UInt8.ofNat (48+q.1)]:=fun q=>by
 revert q;decide
theorem Dc{q}(h:q<10):TX.extract q (q+1)=b7 [UInt8.ofNat (48+q)]:=oI (by rw[Xi ⟨q,h⟩,cO])
theorem Ic(a b):b7 a++b7 b=b7 (a++b):=oI (Z)
def Y1(v:Nat):List UInt8:=if v=0 then[]else decDigits v
theorem zn{v}(h:0<v)(t):Y1 (v / 10)++(UInt8.ofNat (48+v % 10)::t)=Y1 v++t:=by
 have e:Y1 v=decDigits v:=a8 X;rw[e,decDigits];by_cases a:v<10
 ·rw[dif_pos a,Y1,b6 X,Nat.mod_eq_of_lt a];rfl
 rw[dif_neg a,Y1,a8 X,List.append_assoc];rfl
theorem nq(n):Y1 (n / 10)++[UInt8.ofNat (48+n % 10)]=decDigits n:=by
 rw[decDigits];by_cases a:n<10
 ·rw[dif_pos a,Y1,b6 X,Nat.mod_eq_of_lt a];rfl
 rw[dif_neg a,Y1,a8 X]
theorem ay(n:Nat)(hn:n<9223372036854775808)(H:aF):RC 136 [uv n] (sv (b7 (decDigits n))) H:=by
 refine Pu ?_;have step:∀v:Nat,v<18446744073709551616->((v:Nat):Int).tmod 10=((v % 10:Nat):Int)/\IntKind.u64.wrap (((v:Nat):Int).tdiv 10)=((v / 10:Nat):Int)/\IntKind.u64.wrap (((v % 10:Nat):Int)+1)=((v % 10+1:Nat):Int)/\v % 10<10/\v % 10+1<=TX.size:=fun v z=>by
  refine⟨by rfl,by rw[Int.tdiv_eq_ediv_of_nonneg X,IntKind.wrap_u64];omega,by rw[IntKind.wrap_u64];omega,Nat.mod_lt _ E_,?_⟩;have:TX.size=10:=rfl;omega
 obtain ⟨l,y,u,w,p⟩:=step n X;have e:=Dc w;have b:=nq n;obtain ⟨g,i⟩:∃g,g=n % 10:=X_;rw[<-i]at l u w p e b;refine Bd func136 Z ntmps136<|Sz U<|C V<|Y (zB Z Z Z E_ l)<|Y V<|Y (zB Z Z Z E_ l)<|Y (ka u)<|Y (bT (l:=g) (h:=g+1) Z U_ Z Z Z X p e)<|O U<|S<|C V<|Y (CI Z Z Z E_ y)<|O U<|aD<|fS (fun(v:Nat) (t:List UInt8)=>([(0,uv v),(3,sv (b7 t))],[])) (fun v t=>v<9223372036854775808/\Y1 v++t=decDigits n) (fun v t=>v) (n / 10) [UInt8.ofNat (48+g)] ⟨X,b⟩ ?_ ?_
 ·exact Wk
 rintro v t ⟨z,d⟩;obtain ⟨j,x,s,q,o⟩:=step v X;have e:=Dc q;have hlen:t.length<=21:=by
  have B:=congrArg List.length d;rw[j9]at B;have h2:=cU (k:=19) (u:=n) X E_;omega
 by_cases A:0<v
 ·have c:=zn A t;rw[d]at c;obtain ⟨g,i⟩:∃g,g=v % 10:=X_;rw[<-i]at j s q o e c;refine S<|C V<|O jK<|Cn ?_ ?_<;>intro f
  ·refine aA<|S<|aD<|Rd V<|Y (zB Z Z Z E_ j)<|Y V<|Y (zB Z Z Z E_ j)<|Y (ka s)<|Y (bT (l:=g) (h:=g+1) Z U_ Z Z Z X o e)<|Y V<|Y (by exact eZ Z Z Z (by rw[cB,cB,List.length_singleton];omega) (Ic [UInt8.ofNat (48+g)] t))<|O U<|Rd V<|Y (CI Z Z Z E_ x)<|Da ?_;exact⟨v / 10,UInt8.ofNat (48+g)::t,⟨X,c⟩,X,Wk⟩
  (have h:=b_ f;omega)
 have k:v=0:=X
 subst k;have d_:t=decDigits n:=d;subst d_;refine S<|C V<|O jK<|Cn ?_ ?_<;>intro m
 ·cases m
 exact aP<|C V<|O U<|aC<|Rt<|Qq
theorem QM(n:Nat)(d:n<9223372036854775808)(H):RC 84 [iv n] (sv (b7 (decDigits n))) H:=by
 refine Pu ?_;have c:=fun H=>ay n d H;refine Bd func84 Z ntmps84<|Sz U<|S<|C V<|O cM<|Cn ?_ ?_<;>intro b
 ·(have h:=b9 b;omega)
 exact aA<|C V<|Y (eO Z underlying3 gF Z (Z0 X))<|Y (bF Z Z call136 Z (c _))<|O U<|aC<|Rt<|Qq
def IX(L:List B_):Nat:=(L.map fun s=>s.size+21).sum
theorem vy(L)(s):IX (L++[s])=IX L+(s.size+21):=by rw[IX,List.map_append,List.sum_append];rfl
theorem qj:∀ {L},(∀s∈L,s.size<=100000000)->IX L<=L.length*100000021
 | [],_=>l6 _
 |s::r,h=>by
  have ih:=qj (fun x a=>h x (List.mem_cons_of_mem _ a));show s.size+21+IX r<=_
  grind
theorem VW:∀ {L},(∀s∈L,s.size<=100000000)->(aM L).length<=IX L
 | [],_=>l6 _
 |s::r,h=>by
  have ih:=VW (fun x a=>h x (List.mem_cons_of_mem _ a));have hs:=h s List.mem_cons_self;have hd:=cU (k:=9) (u:=s.size) X H_;rw[iA,j9,j7,j9,aT];show _<=s.size+21+IX r;omega
theorem df(L)(s):aM (L++[s])=(aM L++decDigits s.size)++[58]++s.data.toList:=by
 rw[dh,iA];show aM L++(decDigits _++58::(s.data.toList++[]))=_
 simp_all
theorem UW(L:List B_)(hL:L.length<=100000)(t:∀s∈L,s.size<=100000000)(H:aF):RC 85 [.pv (aL L)] (sv (b7 (aM L))) H:=by
 refine Pu ?_;have hml:(L.map S_).length=L.length:=g_ _;have f:∀i,IX (L.take i)<=10000002100000:=fun i=>by
  have h1:=qj (L:=L.take i) (fun s h=>t s (List.mem_of_mem_take h));have B:(L.take i).length<=100000:=by grind
  have h3:=Nat.mul_le_mul_right 100000021 B;omega
 have n:∀i,(aM (L.take i)).length<=IX (L.take i):=fun i=>VW fun s h=>t s (List.mem_of_mem_take h);refine Bd func85 Z ntmps85<|Sz U<|Sz U<|S<|Sz U<|aD<|bC (σ:=Nat) (fun i=>([(0,.pv (aL L)),(3,iv (IX (L.take i):Int)),(4,iv (i:Int))],[])) (fun i=>i<=L.length) (fun i=>L.length - i) 0 (l6 _) ?_ ?_
 ·exact Wk
 intro i A;have y:=f i;refine S<|C V<|Y V<|Y (fY aE)<|O cM<|Cn ?_ ?_<;>intro q
 ·have g:i<L.length:=by have:=b9 q;omega
  obtain ⟨s,c⟩:=aU g;have e:=cC (f:=S_) c;have w:=t s (m7 c);have d:IX (L.take (i+1))=IX (L.take i)+(s.size+21):=by rw[fP c,vy]
  refine aA<|S<|aD<|Rd V<|Y V<|Y V<|Y (by exact bU Z bH Z Z (by omega) (by rfl) e Z)<|Y (gG N_)<|Y (gR U_)<|Y (by exact eQ Z Z Z (show IntKind.i64.wrap ((s.size:Int)+21)=((s.size+21:Nat):Int)by rw[pW (by omega) (by omega)];omega))<|Y (by exact eQ Z Z Z (show IntKind.i64.wrap ((IX (L.take i):Int)+((s.size+21:Nat):Int))=((IX (L.take (i+1)):Nat):Int)by rw[d,pW (by omega) (by omega)];omega))<|O U<|Rd V<|Y kp<|Da ?_;exact⟨i+1,by omega,by omega,Wk⟩
 have j:i=L.length:=by have:=b_ q;omega
 refine aP<|C V<|Y (by exact DX (id:=905) Z AY Wd zo5 Z Z Z (by omega) (by omega) (by exact l8 _) (by exact l8 _) (by omega) Z)<|O U<|S<|Sz U<|aD<|bC (σ:=Nat) (fun i=>([(0,.pv (aL L)),(5,.osl 905 (3*i) 0 (aM (L.take i)).length),(6,iv (i:Int))],[(905,⟨3*i,1,5,fL (aM (L.take i))⟩)])) (fun i=>i<=L.length) (fun i=>L.length - i) 0 (l6 _) ?_ ?_
 ·exact(cJ.wk (Eb<|Ea<|Eb<|T_) (Hc (WU _ _)<|T_) T_)
 clear j y A;intro i A;have y:=f i;have z:=n i;have hb2:=f (i+1);have hj2:=n (i+1);refine S<|C V<|Y V<|Y (fY aE)<|O cM<|Cn ?_ ?_<;>intro k
 ·have g:i<L.length:=by have:=b9 k;omega
  obtain ⟨s,c⟩:=aU g;have e:=cC (f:=S_) c;have w:=t s (m7 c);have l:=fun H=>QM s.size (by omega) H;have d:aM (L.take (i+1))=(aM (L.take i)++decDigits s.size)++[58]++s.data.toList:=by rw[fP c,df]
  have hdl:=cU (k:=9) (u:=s.size) (by omega) (by decide);obtain ⟨c_,u⟩:∃c_,c_=aM (L.take i):=X_;rw[<-u]at d z |-;have m:=cB (decDigits s.size);have v:(fL (c_++decDigits s.size)).length=c_.length+(decDigits s.size).length:=by rw[sA,j9]
  have x:(fL ((c_++decDigits s.size)++[58])).length=c_.length+(decDigits s.size).length+1:=by rw[sA,j9,j9];rfl
  refine aA<|S<|aD<|C V<|Y V<|Y V<|Y (kx bH e)<|Y (gG N_)<|Y (gR U_)<|Y (kc jG (l _))<|Y (by exact wF (rows':=fL (c_++decDigits s.size)) (k:=c_.length+(decDigits s.size).length) Z AY U_ Wd OF Z Z Z Z Z (sA c_) Z (by rw[m];omega) (by rw[m]) (by rw[cO];exact uF c_ (decDigits s.size)))<|O U<|C V<|Y (by exact aK [[.int .u8 58]] Z AY Z Z Z Z Z (by simp))<|Y (by exact cA (k:=c_.length+(decDigits s.size).length+1) (ps:=[[.int .u8 58]]) Z AY Wd Z Z Z Z Z v Z (by simp) (m:=1) Z (by omega) Z (uF (c_++decDigits s.size) [58]))<|O U<|Rd V<|Y V<|Dm ?_;refine Y (iN bH)<|Y (gG N_ (hi:=e))<|Y (by exact wF (k:=c_.length+(decDigits s.size).length+1+s.size) Z AY U_ Wd OF Z Z Z Z Z x Z (by omega) Z (uF ((c_++decDigits s.size)++[58]) s.data.toList))<|O U<|Rd V<|Y kp<|Da ?_;refine⟨i+1,by omega,by omega,?_⟩;rw[d];have o:(c_++decDigits s.size++[58]++s.data.toList).length=c_.length+(decDigits s.size).length+1+s.size:=by
   rw[j9,j9,j9,aT];rfl
  rw[o];exact(cJ.wk (Eb<|Ea<|Eb<|T_) (Hc (WU _ _)<|T_) T_)
 have j:i=L.length:=by have:=b_ k;omega
 subst j;rw[List.take_length]at z |-;obtain ⟨c_,u⟩:∃c_,c_=aM L:=X_;rw[<-u];have p:((fL c_).drop 0).take c_.length=fL c_:=by rw[List.drop_zero,List.take_of_length_le (by rw[sA];exact j6 _)]
 exact aP<|C V<|Y (by exact TZ Z dB dM U_ Z Z Z Z p Z)<|O U<|aC<|Rt<|Qq
theorem UK{r}{a b}(h:gW r=true)(ha:kZ a=true)(hb:kZ b=true):gW (Ik r a b)=true:=by simp[gW,j0,r8]at h |-;obtain ⟨⟨⟨⟨c,f⟩,g⟩,e⟩,d⟩:=h;refine⟨⟨⟨⟨?_,f⟩,g⟩,e⟩,d⟩;simp only[pz,q_]at c |-;obtain ⟨⟨c,_⟩,_⟩:=c;exact⟨⟨c,by show (!kZ b)=false;simp_all⟩,by show (!kZ a)=false;simp_all⟩
theorem Tv:kZ zS=true:=E_
theorem aC6{s}(h:FSeal s)(hl:s.sig.length=18):kZ s=true:=by have b:=h.i0;have a:=h.i1;have l2:=h.pl;rw[kZ,g_,g_,decide_eq_true b,decide_eq_true a,decide_eq_true X,decide_eq_true X,List.all_eq_true.2 h.sa,List.all_eq_true.2 h.pa];simp
theorem QF{s m}{h i}(a:(OP s h i m).2=0):kZ (OP s h i m).1=true:=by obtain ⟨f,e,_⟩:=jj a;refine aC6 f ?_;rw[e];rfl
theorem cx{r x}(h:GS r=(x,0)):x=r/\(mH r).2=0:=by
 rw[GS]at h
 grind
structure Made(r x:j8)(s:B_)(h:Int):Prop where
 v0:gW (NN r)=true
 a0:(OP s h (2*r.number - 2) (HU (NN r))).2=0
 tx:(mH x).2=0
 e:(uC r.priv=true/\x=mk1 r (OP s h (2*r.number - 2) (HU (NN r))).1)\/(uC r.priv=false/\(OP s h (2*r.number - 1) (YK (NN r))).2=0/\x=Ik r (OP s h (2*r.number - 2) (HU (NN r))).1 (OP s h (2*r.number - 1) (YK (NN r))).1)
theorem Sv{r x}{s}{h}(a:NO r s h=(x,0)):Made r x s h:=by
 rw[NO]at a
 split at a
 ·cases a
 next h1 =>
 split at a
 ·next c =>
  have:=congrArg Prod.snd a;exact absurd this c
 next c =>
 have c:(OP s h (2*r.number - 2) (HU (NN r))).2=0:=X
 split at a
 ·next e =>
  obtain ⟨b,d⟩:=cx a;exact⟨F_,c,b▸d,.inl ⟨e,b⟩⟩
 next e =>
 split at a
 ·next f =>
  have:=congrArg Prod.snd a;exact absurd this f
 next f =>
 obtain ⟨b,d⟩:=cx a;refine⟨F_,c,b▸d,.inr ⟨F_,?_,b⟩⟩;omega
theorem Made.valid{r x}{s}{h}(a:Made r x s h):gW x=true:=by
 rcases a.e with⟨_,e⟩|⟨_,b,e⟩
 ·rw[e];exact UK (r:=NN r) a.v0 (QF a.a0) Tv
 rw[e];exact UK (r:=NN r) a.v0 (QF a.a0) (QF b)
theorem Made.text{r x}{s}{h}(b:Made r x s h):mH x=(b7 (aM (jL x)),0):=by
 have a:=b.tx;rw[mH,b6 b.valid]at a |-
 split at a
 ·cases a
 next c=>rw[a8 c]
theorem Made.parse{r x}{s}{h}(a:Made r x s h):dW (aM (jL x))=(x,0):=RD a.text
theorem cL.val{P}{N}{o}{E}{H H'}{b a}(h:cL P N o E H (.pv (.bool b)) H')(e:b=a):cL P N o E H (.pv (.bool a)) H':=e▸h
def Oz(c:UInt8):B_:=⟨#[c]⟩
def Vx(c:UInt8):j_:=⟨Oz c,1,(c.toNat:Int),0,[],[]⟩
def cs3:List UInt8:=[97,98,99]
def aDU:j_:=⟨Oz 119,2,0,0,cs3.map Oz,[]⟩
def s0:List j_:=cs3.map Vx++[aDU]
def x1:List j_:=cs3.map Vx++[⟨Oz 118,2,0,0,[Oz 98,Oz 99],[]⟩,⟨Oz 119,2,0,0,[Oz 97,Oz 98],[]⟩]
end Go.Proofs.YtopnleflllkbmaaGreatDoor
section
namespace Go.Proofs.YtopnleflllkbmaaGreatDoor
open Go.Proofs.Tryz
open Go.Abs
structure M3 where
 k:B_
 b:B_
 o:B_
 t:B_
end Go.Proofs.YtopnleflllkbmaaGreatDoor
namespace Go.Abs

end Go.Abs
namespace Go.Proofs.YtopnleflllkbmaaGreatDoor
open Go.Proofs.Tryz
open Go.Abs

end Go.Proofs.YtopnleflllkbmaaGreatDoor
end
namespace Go.Proofs.YtopnleflllkbmaaGreatDoor
open Go.Proofs.Tryz
open Go.Abs
def m1(p:M3):B_×Bool:=if p.t=p.o then(p.o,false)else if p.t=p.b then(p.o,false)else if p.o=p.b then(p.t,false)else(p.b,true)
instance decMemB(s:B_)(l:List B_):Decidable (s∈l):=decidable_of_iff (tw l s=true) Tl
def zs(down:Bool):List Int:=if down then[2,1,0]else[0,1,2]
def aDk(m:List j_)(down:Bool):List j_:=(zs down).flatMap fun z=>m.filter fun o=>decide (o.kind.tdiv 2=z)
def aAW(b:List j_)(o:j_):Bool:=match aDj b o.id with
 |some p=>!decide (p.kind=o.kind)||(decide (o.kind=5)&&!decide (o.refs=p.refs))
 |none=>false
def rnB(b:List j_)(A_:List B_)(o:j_):Bool:=aAW b o||o.refs.any (tw A_)
def rnL(b:List j_):List B_->List j_->List B_
 |A_,[]=>A_
 |A_,o::L=>rnL b (if rnB b A_ o then A_++[o.id]else A_) L
def aDF(a b:List j_):List B_:=rnL b [] (aDk a false)
section
section
variable{a b:List j_}
def c1(k:j_×j_):j_:=⟨k.1.id,k.1.kind,k.2.x,k.2.y,k.1.refs,k.1.tags⟩
def c2(k:j_×j_):j_:=⟨k.1.id,k.1.kind,k.2.x,k.2.y,k.2.refs,k.1.tags⟩
def c3(k:j_×j_):j_:=⟨k.1.id,k.1.kind,k.2.x,k.2.y,k.2.refs,k.2.tags⟩
end
end
theorem cL.valY{P}{N}{o}{E}{H H'}{b a}(h:cL P N o E H (.pv (.bool b)) H')(e:b=a):cL P N o E H (.pv (.bool a)) H':=e▸h
end Go.Proofs.YtopnleflllkbmaaGreatDoor
namespace Go.Proofs.YtopnleflllkbmaaGreatDoor
open Go.Proofs.Tryz
section
def Xh(u:List Nat)(i:Nat):Nat:=u.getD i i
def aBS:Nat->List Nat->Nat->Nat
 |0,_,i=>i
 |n+1,u,i=>if Xh u i=i then i else aBS n u (Xh u i)
def top(u:List Nat)(i:Nat):Nat:=aBS i u i
def aDx(u:List Nat):Prop:=∀i,Xh u i<=i
def Inv(L:Nat->Nat->Prop)(f:Nat->Nat):Prop:=∀i k,L i k->f i=f k
structure Snd(L:Nat->Nat->Prop)(u:List Nat):Prop where
 ok:aDx u
 sn:∀f,Inv L f->∀x,f (top u x)=f x
section
variable{f_:Type}[DecidableEq f_]
def Tw:List (f_×Nat)->f_->Option Nat
 | [],_=>none
 |(k,v)::r,s=>if k=s then some v else Tw r s
structure I1(L:Nat->Nat->Prop)(W:Nat->List f_)(k m:Nat)(st:List Nat×List (f_×Nat)):Prop where
 len:st.1.length=m
 snd:Snd L st.1
 at_:∀s j,Tw st.2 s=some j->j<m/\s∈W j
 has:∀j,j<k->∀s,s∈W j->(Tw st.2 s).isSome=true
structure I2(L:Nat->Nat->Prop)(F:List (f_×Nat))(N:Nat->List f_)(n k:Nat)(u:List Nat):Prop where
 len:u.length=n
 snd:Snd L u
 same:∀i,i<k->∀s,s∈N i->∀j,Tw F s=some j->top u i=top u j
end
end
def Vu(f:Nat->Nat)(n:Nat):List Nat:=(List.range n).filter fun i=>f i=i
def grp(f:Nat->Nat)(n r:Nat):List Nat:=(List.range n).filter fun j=>f j=r
def aDm(f:Nat->Nat)(n:Nat):List (List Nat):=(Vu f n).map (grp f n)
def aE1(f:Nat->Nat)(n x:Nat):Nat:=(Vu f n).idxOf (f x)
end Go.Proofs.YtopnleflllkbmaaGreatDoor
namespace Go.Proofs.YtopnleflllkbmaaGreatDoor
open Go.Proofs.Tryz
open Go.Abs
theorem NU{l}(h:lH l=true):0<l.length/\l.length<=200/\∀e∈l,fU e=true:=by
 rw[lH,j0]at h
 grind
open Go.Lib
theorem Yd(u:Nat):∀H,u<1000000000->RC 222 [iv (u:Int)] (sv (b7 (decDigits u))) H:=by
 induction u using Nat.strongRecOn with
 | ind u g =>
  intro H hu;refine Pu<|Bd func222 Z ntmps222<|Sz U<|S<|C V<|O cM<|Cn ?_ ?_<;>intro d
  ·have f:u<10:=I_ d
   have h10:(⟨#[48,49,50,51,52,53,54,55,56,57]⟩:B_).size=10:=rfl;have i:(⟨#[48,49,50,51,52,53,54,55,56,57]⟩:B_).extract u (u+1)=b7 (decDigits u):=by
    rw[decDigits,dif_pos f];have h:u=0\/u=1\/u=2\/u=3\/u=4\/u=5\/u=6\/u=7\/u=8\/u=9:=X
    rcases h with rfl|rfl|rfl|rfl|rfl|rfl|rfl|rfl|rfl|rfl<;>rfl
   exact C V<|Y V<|Y gV<|Y (bT (l:=u) (h:=u+1) Z U_ Z Z Z X X i)<|O U<|aC<|Rt<|Qq
  have f:¬ u<10:=J_ d
  have j:IntKind.i64.wrap ((u:Int).tdiv 10)=((u / 10:Nat):Int):=by
   rw[show (u:Int).tdiv 10=((u / 10:Nat):Int)from rfl];exact pW X X
  have hs1:(b7 (decDigits (u / 10))).size<=9:=by rw[cB];exact cU X E_
  have hs2:(b7 (decDigits (u % 10))).size<=1:=by rw[cB];exact cU X E_
  have k:b7 (decDigits (u / 10))++b7 (decDigits (u % 10))=b7 (decDigits u):=nj (by
   rw[show (b7 (decDigits (u / 10))++b7 (decDigits (u % 10))).data.toList=(b7 (decDigits (u / 10))).data.toList++(b7 (decDigits (u % 10))).data.toList by simp,cO,cO,cO];rw[show decDigits u=decDigits (u / 10)++[UInt8.ofNat (48+u % 10)]by rw[decDigits,dif_neg f]];congr 1;rw[decDigits,dif_pos X])
  exact aA<|C V<|Y (CI Z Z Z E_ j)<|Y (kc GH (g (u / 10) X _ X))<|Y V<|Y (zB Z Z Z E_ (rfl:(u:Int).tmod 10=((u % 10:Nat):Int)))<|Y (kc GH (g (u % 10) X _ X))<|Y (eZ Z Z Z X k)<|O U<|aC<|Rt<|Qq
theorem BH{a:List _}{k}{w}(h:a[k]?=some w):b7 (bQ [32] (bs (a.take (k+1))))=(if 0<k then b7 (bQ [32] (bs (a.take k)))++⟨#[32]⟩else b7 (bQ [32] (bs (a.take k))))++w:=by
 have b:=(m_.1 h).1;refine nj ?_;rw[List.take_add_one,h,bs];cases k with
 |zero =>
  simp[bQ,bs,b7]
 | succ k =>
  cases a with
  |nil=>cases b
  |cons x l =>
   simp[b7,bs,bQ]
theorem FC(a:List B_)(H:aF)(hb:cX a+a.length<2^40):RC 221 [.pv (aL a)] (sv (b7 (bQ [32] (bs a)))) H:=by
 refine Pu ?_;have hmw:(a.map S_).length=a.length:=g_ _;refine Bd func221 Z ntmps221<|Sz U<|Sz U<|S<|Sz U<|aD<|bC (σ:=Nat) (fun k=>([(0,.pv (aL a)),(3,sv (b7 (bQ [32] (bs (a.take k))))),(4,iv (k:Int))],[])) (fun k=>k<=a.length) (fun k=>a.length - k) 0 (l6 _) ?_ ?_
 ·exact Wk
 rintro k hk;have hsz:(b7 (bQ [32] (bs (a.take k)))).size<=cX a+a.length:=by
  rw[cB];have m:=fQ (a.take k);have n:=nW a k;have h3:(a.take k).length<=a.length:=F_
  omega
 refine S<|C V<|Y V<|Y (fY aE)<|O cM<|Cn ?_ ?_<;>intro g
 ·have h:k<a.length:=I_ g
  obtain ⟨w,j⟩:=aU h;have hiw:=cC (f:=S_) j;have d:=BH j;have hws:w.size<=cX a:=by
   have m:=xK j;have n:=nW a (k+1);omega
  have h32:(⟨#[32]⟩:B_).size=1:=rfl;have hs2:(b7 (bQ [32] (bs (a.take k)))++⟨#[32]⟩).size=(b7 (bQ [32] (bs (a.take k)))).size+1:=F_
  refine aA<|S<|aD<|S<|C V<|O jK<|Cn ?_ ?_<;>intro f
  ·have i:0<k:=I_ f
   rw[b6 i]at d;refine Rd V<|Y kq<|O U<|Rd V<|Y V<|Y V<|Y (iN bH)<|Y (gG N_)<|Y kq<|O U<|Rd V<|Y gV<|Da ?_;refine⟨k+1,X,X,?_⟩;rw[d];exact Wk
  have i:¬ 0<k:=J_ f
  rw[a8 i]at d;refine aA<|Rd V<|Y V<|Y V<|Y (iN bH)<|Y (gG N_)<|Y kq<|O U<|Rd V<|Y gV<|Da ?_;refine⟨k+1,X,X,?_⟩;rw[d];exact Wk
 have l:k=a.length:=J_ g
 subst l;rw[List.take_length];exact aP<|C V<|O U<|aC<|Rt<|Qq
def SA(s:B_)(n:Int):Bool:=(List.range s.size).any fun j=>decide (aZ s j=n)
theorem Jr(s)(n:Int)(H:aF)(hs:s.size<2^62):RC 262 [sv s,.pv (.int .u8 n)] (bv (SA s n)) H:=by
 refine Pu<|Bd func262 Z ntmps262<|Sz U<|S<|Sz U<|aD<|bC (σ:=Nat) (fun k=>([(0,sv s),(1,.pv (.int .u8 n)),(5,iv (k:Int))],[])) (fun k=>k<=s.size/\∀j,j<k->decide (aZ s j=n)=false) (fun k=>s.size - k) 0 ⟨X,X⟩ ?_ ?_
 ·exact E0
 rintro k ⟨hk,e⟩;refine S<|C V<|Y V<|Y (gR U_)<|O cM<|Cn ?_ ?_<;>intro b
 ·have f:k<s.size:=I_ b
  refine aA<|S<|aD<|C V<|Y V<|Y (cV Z U_ Z Z X (Z) X Z)<|Y V<|O cD<|Cn ?_ ?_<;>intro c
  ·refine Sz U<|aC<|Rt ?_;exact⟨by rw[SA,tX f c],Z⟩
  refine aA<|Rd V<|Y gV<|Da ?_;refine⟨k+1,⟨X,fun j hj=>?_⟩,X,E0⟩
  grind
 have d:k=s.size:=J_ b
 subst d;refine aP<|Sz U<|aC<|Rt ?_;exact⟨by rw[SA,A4 e],Z⟩
theorem Tq:∀n:Fin 256,(SA ⟨#[32,9,10]⟩ (n.val:Int)=decide (yF (n.val)=1))/\(decide ((n.val:Int)=35)=decide (yF (n.val)=2))/\(SA ⟨#[59,44,46,58,40,41,123,125,91,93,61,60,62,47,45]⟩ (n.val:Int)=decide (yF (n.val)=6))/\(decide ((n.val:Int)=34)=decide (yF (n.val)=7))/\(SA ⟨#[92,34,110]⟩ (n.val:Int)=(sU (UInt8.ofNat n.val)).isSome):=by decide +kernel
theorem YW(s)(k):(SA ⟨#[32,9,10]⟩ (aZ s k)=decide (yF (aZ s k)=1))/\(decide (aZ s k=35)=decide (yF (aZ s k)=2))/\(SA ⟨#[59,44,46,58,40,41,123,125,91,93,61,60,62,47,45]⟩ (aZ s k)=decide (yF (aZ s k)=6))/\(decide (aZ s k=34)=decide (yF (aZ s k)=7))/\(SA ⟨#[92,34,110]⟩ (aZ s k)=(sU (oU s k)).isSome):=by
 have h:=Tq ⟨(aZ s k).toNat,BQ s k⟩;have e:UInt8.ofNat (aZ s k).toNat=oU s k:=by rw[tD,l8,UInt8.ofNat_toNat]
 rw[e]at h;exact h
theorem szW(w:List _):(⟨w.toArray⟩:B_).size=w.length:=rfl
theorem E5(w)(t):(⟨w.toArray⟩:B_)++t=⟨(w++t.data.toList).toArray⟩:=oI (Z)
theorem el{s}{i}(h:i<s.size):(s.extract i (i+1)).data.toList=[oU s i]:=by rw[gU,Nat.add_sub_cancel_left,yD h];rfl
theorem ql(s:B_)(f:Nat)(H:aF)(hs:s.size<2^40)(ha:f<s.size):RC 263 [sv s,iv (f:Int)] (.tup [sv (xG (nV (s.data.toList.drop (f+1))) [] (f+1)).1,iv (xG (nV (s.data.toList.drop (f+1))) [] (f+1)).2,bv (nV (s.data.toList.drop (f+1))).isSome]) H:=by
 refine Pu ?_;obtain ⟨j,x⟩:∃j,j=xG (nV (s.data.toList.drop (f+1))) [] (f+1):=X_;obtain ⟨ok,E⟩:∃ok,ok=(nV (s.data.toList.drop (f+1))).isSome:=X_;rw[<-x,<-E];refine Bd func263 Z ntmps263<|C U<|Y U<|O U<|Sz U<|S<|C V<|Y gV<|O U<|aD<|fS (fun(i:Nat) (w:List UInt8)=>([(0,sv s),(7,sv ⟨w.toArray⟩),(8,iv (i:Int))],[])) (fun i w=>w.length<=i/\i<2199023255552/\j=xG (nV (s.data.toList.drop i)) w i/\ok=(nV (s.data.toList.drop i)).isSome) (fun i w=>s.size+1 - i) (f+1) [] ⟨l6 _,X,x,E⟩ ?_ ?_
 ·exact E0
 rintro i w ⟨hwl,hib,d,a⟩;have hsw:=szW w;refine S<|C V<|Y V<|Y (gR U_)<|O cM<|Cn ?_ ?_<;>intro e_
 ·have F:i<s.size:=I_ e_
  have o:=yD F;have Q:=el F;have L:(⟨w.toArray⟩:B_)++s.extract i (i+1)=⟨(w++[oU s i]).toArray⟩:=by rw[E5,Q]
  have hxs:=fR s i (i+1);refine aA<|S<|aD<|C V<|Y V<|Y (ky U_)<|O U<|S<|C V<|O cD<|Cn ?_ ?_<;>intro N
  ·have n:oU s i=34:=b9 (BR (n:=34) E_ N);have t:j=(⟨w.toArray⟩,((i+1:Nat):Int)):=by rw[d,o,n,B0,xG,List.append_nil]
   have g:ok=true:=by rw[a,o,n,B0];rfl
   rw[t,g];refine C V<|Y V<|Y gV<|Y U<|Y U<|O U<|aC<|mA (H':=[]) (.inr Z) Z (aJ Z) (aJ Z) (aJ Z) P_ Qq
  have y:oU s i≠34:=b_ (BR (n:=34) E_ N);refine aA<|S<|C V<|O cD<|Cn ?_ ?_<;>intro K
  ·have n:oU s i=10:=b9 (BR (n:=10) E_ K);have t:j=(a6,0):=by rw[d,o,n,LF,xG]
   have g:ok=false:=by rw[a,o,n,LF];rfl
   rw[t,g];refine C U<|Y U<|O U<|aC<|mA (H':=[]) (.inr Z) Z (aJ Z) (aJ Z) (aJ Z) P_ Qq
  have v:oU s i≠10:=b_ (BR (n:=10) E_ K);refine aA<|S<|C V<|O zX<|Cn ?_ ?_<;>intro hc4
  ·have z:oU s i≠92:=by
    have h:decide (aZ s i=92)=false:=F_
    exact b_ (BR (n:=92) E_ h)
   refine C V<|Y V<|Y V<|Y V<|Y gV<|Y (bT (l:=i) (h:=(i+1)) Z U_ Z Z Z X X Z)<|Y (eZ Z Z Z X L)<|O U<|aP<|Rd V<|Y gV<|Da ?_;refine⟨i+1,w++[oU s i],⟨F_,X,?_,?_⟩,X,E0⟩
   ·rw[d,o,B1 y v z,AW]
   rw[a,o,B1 y v z,Option.isSome_map]
  have n:oU s i=92:=by
   have h:decide (aZ s i=92)=true:=F_
   exact b9 (BR (n:=92) E_ h)
  by_cases c_:i+1<s.size
  ·have p:decide ((s.size:Int)<=(i:Int)+1)=false:=decide_eq_false X;have q:=yD c_;have G:=(YW s (i+1)).2.2.2.2;have P:=el c_;have hxs2:=fR s (i+1) (i+1+1);have B:(⟨w.toArray⟩:B_)++s.extract (i+1) (i+1+1)=⟨(w++[oU s (i+1)]).toArray⟩:=by rw[E5,P]
   have A:(⟨w.toArray⟩:B_)++⟨#[10]⟩=⟨(w++[10]).toArray⟩:=by rfl
   refine aA<|C V<|Y gV<|O U<|S<|C V<|Y V<|Y (gR U_)<|Y (cL.valY (jN Z Z Z) (p))<|Y V<|J V<|J V<|J (ky U_)<|J (bF Z Z aEB Z (Jr ⟨#[92,34,110]⟩ (aZ s (i+1)) _ E_))<|J iW<|O cE<|Cn ?_ ?_<;>intro R
   ·have f_:sU (oU s (i+1))=none:=by
     simp_all
    have t:j=(a6,0):=by rw[d,o,n,q,uM,f_];rfl
    have g:ok=false:=by rw[a,o,n,q,uM,f_];rfl
    rw[t,g];refine C U<|Y U<|O U<|aC<|mA (H':=[]) (.inr Z) Z (aJ Z) (aJ Z) (aJ Z) P_ Qq
   obtain ⟨b,l⟩:∃b,sU (oU s (i+1))=some b:=by
    rw[G]at R;cases l:sU (oU s (i+1))with
    |none=>simp_all
    |some b=>simp_all
   refine aA<|C V<|Y V<|Y (ky U_)<|O cD<|Cn ?_ ?_<;>intro I
   ·have D:oU s (i+1)=110:=b9 (BR (n:=110) E_ I);have d_:b=10:=by rw[D]at l;exact(Option.some.inj l).symm
    refine Rd V<|Y (by exact eZ Z Z Z (by show (⟨w.toArray⟩:B_).size+1<=_;omega) A)<|O U<|Rd V<|Y gV<|Da ?_;refine⟨i+1+1,w++[10],⟨by rw[j9,List.length_singleton];omega,X,?_,?_⟩,X,E0⟩
    ·rw[d,o,n,q,uM,l,d_];exact AW
    rw[a,o,n,q,uM,l];exact Option.isSome_map
   have D:oU s (i+1)≠110:=b_ (BR (n:=110) E_ I);have d_:b=oU s (i+1):=by
    rw[sU]at l
    split at l
    ·rename_i e;rw[e];exact(Option.some.inj l).symm
    split at l
    ·rename_i e;rw[e];exact(Option.some.inj l).symm
    first
    |cases l
    |(rw[a8 D]at l;cases l)
   refine Rd V<|Y V<|Y V<|Y V<|Y gV<|Y (bT (l:=(i+1)) (h:=(i+1+1)) Z U_ Z Z Z X X Z)<|Y (eZ Z Z Z X B)<|O U<|Rd V<|Y gV<|Da ?_;refine⟨i+1+1,w++[oU s (i+1)],⟨by rw[j9,List.length_singleton];omega,X,?_,?_⟩,X,E0⟩
   ·rw[d,o,n,q,uM,l,d_];exact AW
   rw[a,o,n,q,uM,l]
   simp_all
  have p:decide ((s.size:Int)<=(i:Int)+1)=true:=decide_eq_true X;have t:j=(a6,0):=by rw[d,o,n,BN X];rfl
  have g:ok=false:=by rw[a,o,n,BN X];rfl
  rw[t,g];refine aA<|C V<|Y gV<|O U<|S<|C V<|Y V<|Y (gR U_)<|Y (cL.valY (jN Z Z Z) (p))<|Y V<|M<|M<|M<|M<|M<|O cE<|Cn ?_ ?_<;>intro o_
  ·refine C U<|Y U<|O U<|aC<|mA (H':=[]) (.inr Z) Z (aJ Z) (aJ Z) (aJ Z) P_ Qq
  ((cases o_;done))
 have p:s.size<=i:=J_ e_
 have t:j=(a6,0):=by rw[d,BN p];rfl
 have g:ok=false:=by rw[a,BN p];rfl
 rw[t,g];refine aP<|C U<|Y U<|O U<|aC<|mA (H':=[]) (.inr Z) Z (aJ Z) (aJ Z) (aJ Z) P_ Qq
theorem LS(s:B_)(H:aF)(G:s.size<17592186044416):RC 223 [sv s] (sv ⟨(cW s.data.toList).toArray⟩) H:=by
 refine Pu ?_;have hsl:=aT s;refine Bd func223 Z ntmps223<|Sz U<|Sz U<|Sz U<|S<|Sz U<|aD<|BT (fun(i f:Nat) (w:List UInt8)=>([(0,sv s),(3,sv ⟨w.toArray⟩),(4,iv (f:Int)),(5,iv (i:Int))],[])) (fun i f w=>f<=i/\i<=s.size/\w.length<=(lK s i).length/\w++(s.data.toList.drop f).take (i - f)=lK s i) (fun i f w=>s.size - i) 0 0 [34] ⟨j6 _,l6 _,j6 _,Z⟩ ?_ ?_
 ·exact E0
 rintro i f w ⟨hf,hi,hwl,k⟩;have hq:=bj (s:=s) (k:=i) G;have hsw:=szW w;refine S<|C V<|Y V<|Y (gR U_)<|O cM<|Cn ?_ ?_<;>intro x
 ·have e:i<s.size:=by have:=b9 x;omega
  have d:=U7 e;have g:=gU s f i;have c:(⟨w.toArray⟩:B_)++s.extract f i=⟨(lK s i).toArray⟩:=by rw[E5,g,k]
  have B:=szW (lK s i);have o:(⟨(lK s i).toArray⟩:B_)++⟨#[92,110]⟩=⟨(lK s i++[92,110]).toArray⟩:=by rfl
  have p:(⟨(lK s i).toArray⟩:B_)++⟨#[92]⟩=⟨(lK s i++[92]).toArray⟩:=by rfl
  have A:=fR s f i;refine aA<|S<|aD<|C V<|Y V<|Y (ky U_)<|O cD<|Cn ?_ ?_<;>intro q
  ·have v:oU s i=10:=b9 (BR (n:=10) (by decide) q);have t:qJ (oU s i)=[92,110]:=by rw[qJ,b6 v]
   rw[t]at d;refine C V<|Y V<|Y V<|Y V<|Y (by exact bT (l:=f) (h:=i) Z U_ Z Z Z (by omega) (by omega) Z)<|Y (by exact eZ Z Z Z (by omega) c)<|Y (by exact eZ Z Z Z (by show (⟨(lK s i).toArray⟩:B_).size+2<=_;omega) o)<|O U<|Rd V<|Y gV<|O U<|Rd V<|Y gV<|Da ?_;refine⟨i+1,i+1,lK s i++[92,110],⟨j6 _,e,by simp_all,by simp_all⟩,by omega,E0⟩
  have n:¬ oU s i=10:=b_ (BR (n:=10) (by decide) q);refine S<|aR (t:=34) (n:=11) (A_:=decide (aZ s i=34)||decide (aZ s i=92)) ?_ ?_
  ·all_goals refine Y V<|Y V<|Y (ky U_)<|Y cD<|Dm ?_<;>(refine Sp 29 (fun d_=>?_) fun d_=>?_)<;>(first|contradiction|refine M<|M<|M<|M ?_|refine J V<|J V<|J (ky U_)<|J cD ?_)<;>refine O cE ?_<;>exact Gj (h:=by simp_all)
  refine Cn ?_ ?_<;>intro j
  ·have v:oU s i=34\/oU s i=92:=by
    rw[Bool.or_eq_true]at j;rcases j with h|h
    ·exact .inl (b9 (BR (n:=34) (by decide) h))
    exact .inr (b9 (BR (n:=92) (by decide) h))
   have t:qJ (oU s i)=[92,oU s i]:=by rw[qJ,a8 n,b6 v]
   rw[t]at d;refine C V<|Y V<|Y V<|Y V<|Y (by exact bT (l:=f) (h:=i) Z U_ Z Z Z (by omega) (by omega) Z)<|Y (by exact eZ Z Z Z (by omega) c)<|Y (by exact eZ Z Z Z (by show (⟨(lK s i).toArray⟩:B_).size+1<=_;omega) p)<|O U<|Rd V<|O U<|Rd V<|Y gV<|Da ?_;refine⟨i+1,i,lK s i++[92],⟨Nat.le_succ _,e,by simp_all,by rw[d,Nat.add_sub_cancel_left,yD e,List.append_assoc];rfl⟩,by omega,E0⟩
  have v:¬ (oU s i=34\/oU s i=92):=by
   rw[q_]at j;rintro(h|h)
   ·exact absurd h (b_ (BR (n:=34) (by decide) j.1))
   exact absurd h (b_ (BR (n:=92) (by decide) j.2))
  have t:qJ (oU s i)=[oU s i]:=by rw[qJ,a8 n,a8 v]
  rw[t]at d;have z:(s.data.toList.drop f).take (i+1 - f)=(s.data.toList.drop f).take (i - f)++[oU s i]:=by
   have F:i+1 - f=(i - f)+1:=by omega
   have D:(s.data.toList.drop f)[i - f]?=some (oU s i):=by
    rw[List.getElem?_drop,show f+(i - f)=i by omega];have E:=yD e;exact(R8 E).1
   rw[F,List.take_add_one,D];rfl
  refine aA<|Rd V<|Y gV<|Da ?_;refine⟨i+1,f,w,⟨by omega,e,by rw[d,j9];omega,by rw[z,<-List.append_assoc,k,d]⟩,by omega,E0⟩
 have y:i=s.size:=by have:=b_ x;omega
 subst y;have g:=gU s f s.size;have c:(⟨w.toArray⟩:B_)++s.extract f s.size=⟨(lK s s.size).toArray⟩:=by rw[E5,g,k]
 have B:=szW (lK s s.size);have A:=fR s f s.size;have u:(⟨(lK s s.size).toArray⟩:B_)++⟨#[34]⟩=⟨(cW s.data.toList).toArray⟩:=by
  rw[E5,lK,List.take_of_length_le (by omega),cW];rfl
 exact aP<|C V<|Y V<|Y V<|Y (by exact bT (l:=f) (h:=s.size) Z U_ Z Z Z (by omega) (by omega) Z)<|Y (by exact eZ Z Z Z (by omega) c)<|Y (by exact eZ Z Z Z (by show (⟨(lK s s.size).toArray⟩:B_).size+1<=_;omega) u)<|O U<|aC<|Rt<|Qq
abbrev oBx(o:j_):Ob:=bx 6 135 ((bM o).map .pv)
def TI(l:List B_):List (List AV):=l.map fun s=>[sv s]
theorem XO(l):(TI l).length=l.length:=g_ _
theorem lW(H)(l):∀r∈TI l,∀a∈r,Clo H a:=by intro r c a b;obtain ⟨x,_,rfl⟩:=List.mem_map.1 c;rw[q9]at b;subst b;simp
instance(H)(l):W_ (H) (TI l):=⟨lW H l⟩
theorem XP{l}{k:Nat}{s}(h:l[k]?=some s):(TI l)[k]?=some [sv s]:=by rw[TI,r6,h];rfl
theorem XQ(l)(s):TI l++[(S_ s).map AV.pv]=TI (l++[s]):=by rw[TI,TI,List.map_append];rfl
theorem Fg(l):TI l=(l.map S_).map (·.map .pv):=by rw[List.map_map];rfl
theorem fmC{α β:Type}{f g:α->List β}:∀ {l:List _},(∀x∈l,f x=g x)->l.flatMap f=l.flatMap g
 | [],_=>rfl
 |x::l,h=>by rw[List.flatMap_cons,List.flatMap_cons,h x List.mem_cons_self,fmC fun y a=>h y (List.mem_cons_of_mem _ a)]
theorem aC1{x}(h:0<=x):aQ x=b7 (decDigits x.toNat):=by rw[aQ,jX _ h];rfl
theorem OT(x)(H)(a:0<=x)(h1:x<1000000000):RC 222 [iv x] (sv (aQ x)) H:=by obtain ⟨u,rfl⟩:=Int.eq_ofNat_of_zero_le a;exact Yd u H X
def wO(o:j_)(e_:List B_)(k:Nat):List B_:=[eD o.kind,o.id]++e_++(o.tags.take k).map iO
theorem pt{o}{e_}{k}{t}(h:o.tags[k]?=some t):wO o e_ (k+1)=wO o e_ k++[iO t]:=by rw[wO,List.take_add_one,h,List.map_append,<-List.append_assoc];rfl
theorem FJ(a b):cX (a++b)=cX a+cX b:=by rw[cX,cX,cX,List.map_append,List.sum_append]
theorem lu{o}(d:oF o=true):fA o=if 20000<(DQ o).size then(a6,2)else(DQ o,0):=by
 rw[fA,b6 d];by_cases h:0<o.tags.length/\(jP o.tags).2≠0
 ·have b:=(BM d).2.2.1;rw[b6 h];have a:=h.2;rw[jP,b6 b]at a |-
  split at a
  ·next c =>
   rw[b6 c,b6 _];rw[DQ,<-aT];rw[sC,j9];cases e:o.tags with
   |nil=>simp_all
   |cons t l =>
    rw[e]at c;have:=UQ t l;have f:=congrArg List.length this;rw[aT]at f;rw[nH,List.flatMap_cons,j9,j7];rw[j9,nH]at f;omega
  exact absurd Z a
 simp_all
theorem pw(o)(e_):(b7 (bQ [32] (bs (wO o e_ o.tags.length)))).data.toList=(eD o.kind).data.toList++32::(o.id.data.toList++e_.flatMap fun s=>32::s.data.toList)++nH o.tags:=by rw[cO,wO,List.take_length,List.cons_append,List.cons_append,bs,List.map_cons,bQ];simp only[List.map_cons,List.map_append,List.flatMap_cons,List.flatMap_append,List.flatMap_map,List.nil_append,List.append_assoc,List.cons_append];congr 3;congr 1;refine fmC fun t _=>?_;rw[MJ]
theorem px{o}{e_}(hM:(eD o.kind).data.toList++32::(o.id.data.toList++e_.flatMap fun s=>32::s.data.toList)=lY o):b7 (bQ [32] (bs (wO o e_ o.tags.length)))=DQ o:=nj (by
 rw[pw,hM];rfl)
theorem VZ:∀(l) (k),(bQ [32] (bs (l.take k))).length<=(bQ [32] (bs l)).length
 | [],k=>by simp
 |x::l,0=>l6 _
 |x::l,k+1=>by
  rw[List.take_succ_cons,xW,xW,j9,j9,F2,F2];have h1:=nW l k;have h2:(l.take k).length<=l.length:=G_
  omega
theorem yY(a b:B_):(a++b).size=a.size+b.size:=ByteArray.size_append
theorem CF(o:j_)(H:aF)(ho:gu o):RC 217 [av (bM o)] (.tup [sv (fA o).1,iv (fA o).2]) H:=by
 refine Pu ?_;have hmt:(o.tags.map bP).length=o.tags.length:=g_ _;have hmr:(o.refs.map S_).length=o.refs.length:=g_ _;refine Bd func217 Z ntmps217<|C (kb 1)<|Y U<|O U<|S<|C (by exact aV Z bW sizeOf135 Z Z Z Z (by simp only[Zl,bP,bM,S_,bJ,gK];rfl) Z)<|Y (kc call261 (Ge o _ ho))<|O iW ?_;refine Cn ?_ ?_<;>intro hc1
 ·have N:oF o=false:=by have h:=hc1;rwa [r8]at h
  have e:fA o=(a6,1):=by rw[fA,a8 (by simp_all)]
  rw[e];exact C U<|O U<|aC<|Ru<|Qq
 have N:oF o=true:=by have h:=hc1;rwa [Bool.not_eq_false']at h
 obtain ⟨hr,ht,htg,hid,_⟩:=BM N;obtain ⟨hx,hy,hn,hz⟩:=fu N;have D:=(AS (FY N)).1;have hws:=dG D;have his:=dG hid;have hT:=lu N;have o_:∀t∈o.tags,t.key.size<=24/\t.val.size<=200:=fun t ht=>by
  obtain ⟨p1,_,_⟩:=xE.1 htg;have:=p1 t ht;exact⟨dG this.1,this.2.2⟩
 have hTs:∀k,cX ((o.tags.take k).map iO)<=60*427:=fun k=>by
  have h1:∀l:List l_,(∀t∈l,t∈o.tags)->cX (l.map iO)<=l.length*427:=by
   intro l
   induction l with
   |nil=>intro _;exact l6 _
   |cons t l ih =>
    intro h;rw[List.map_cons,cH,j7,Nat.add_mul];have u_:=ih fun x hx=>h x (List.mem_cons_of_mem _ hx);have e_:=o_ t (h t List.mem_cons_self);have h4:=VS e_.1 e_.2;omega
  have u_:=h1 (o.tags.take k) fun t ht=>List.mem_of_mem_take ht;have e_:(o.tags.take k).length<=60:=by grind
  have h4:(o.tags.take k).length*427<=60*427:=Nat.mul_le_mul_right _ e_;omega
 refine aA<|S<|aN a7<|Cs (fun _ h=>fh eA h)<|Cs (fun _ h=>lh M_ h)<|Cs (fun H1 hH=>by exact bF Z Z Be Z (FN o.kind _))<|Cs (fun _ h=>fh qR h)<|Cs (fun _ h=>lh N_ h) ?_;refine iH (r:=⟨_,none,[_]⟩) (DStep.plain Z (fun H1 hH=>by exact fO (id:=901) Z bH Z Z Z Z (by simp_all) ((hH _ Z).trans Z))) Z ?_;refine Cs (fun _ _=>U)<|bL<|Kr<|S<|S ?_;refine fZ.ent (E':=[(1,.ref 1 0 0 0),(4,.osl 901 0 0 2)]) (H':=[(901,⟨0,1,9,TI [eD o.kind,o.id]⟩),(1,oBx o)]) (cJ.wk (Ea<|Ea<|T_) (Hc (lW _ _)<|Hb<|T_) T_)<|Rd (bA eA)<|Y (bS M_)<|O cD<|Cn ?_ ?_<;>intro A_
 ·have hk:o.kind=1:=b9 A_;have Xs:(aQ o.x).size<=7:=by rw[<-aT];show (Lib.itoa o.x).length<=7;rw[jX _ hx.1];exact cU (by omega) (by decide)
  have siy:(aQ o.y).size<=7:=by rw[<-aT];show (Lib.itoa o.y).length<=7;rw[jX _ hy.1];exact cU (by omega) (by decide)
  have hMs:cX [aQ o.x,aQ o.y]=(aQ o.x).size+((aQ o.y).size+0):=by rw[cH,cH];rfl
  have hMl:([aQ o.x,aQ o.y]:List B_).length=2:=rfl;have Q:(eD o.kind).data.toList++32::(o.id.data.toList++([aQ o.x,aQ o.y]:List B_).flatMap fun s=>32::s.data.toList)=lY o:=by
   rw[lY,b6 hk];simp[aQ]
  have hFT:fA o=if 20000<(b7 (bQ [32] (bs (wO o [aQ o.x,aQ o.y] o.tags.length)))).size then(a6,2)else(b7 (bQ [32] (bs (wO o [aQ o.x,aQ o.y] o.tags.length))),0):=by rw[px Q];exact hT
  refine aN a7<|Cs (fun _ _=>V)<|Cs (fun _ h=>fh mM h)<|Cs (fun _ h=>fh mO h)<|Cs (fun _ h=>lh M_ h)<|Cs (fun H1 hH=>by exact bF Z Z GH Z (OT o.x _ (by omega) (by omega)))<|Cs (fun _ h=>fh mM h)<|Cs (fun _ h=>fh mN h)<|Cs (fun _ h=>lh M_ h)<|Cs (fun H1 hH=>by exact bF Z Z GH Z (OT o.y _ (by omega) (by omega)))<|Cs (fun H1 hH=>by exact aK [S_ (aQ o.x),S_ (aQ o.y)] Z bH Z Z Z Z Z (by intro r hr;simp only[l7,n_,or_false]at hr;rcases hr with rfl|rfl<;>rfl)) ?_;refine iH (r:=⟨_,none,[_]⟩) (DStep.plain Z (fun H1 hH=>by exact cA (ps:=[S_ (aQ o.x),S_ (aQ o.y)]) Z bH wB Z ((hH _ Z).trans Z) Z Z Z Z Z (by intro r hr;simp only[l7,n_,or_false]at hr;rcases hr with rfl|rfl<;>rfl) (m:=2) Z (by omega) Z (rfl:_=TI (wO o [aQ o.x,aQ o.y] 0)))) Z ?_;refine Cs (fun _ _=>U)<|bL<|Kr<|S<|Sz U<|aD ?_;have hMs2:cX ([eD o.kind,o.id]++[aQ o.x,aQ o.y])<=70000:=by rw[FJ];have:cX [eD o.kind,o.id]=(eD o.kind).size+(o.id.size+0):=(by rw[cH,cH];rfl);omega
  have K:∀k,k<=o.tags.length->(wO o [aQ o.x,aQ o.y] k).length<=64:=fun k hk=>by rw[wO,j9,j9,g_,q7];show 2+_+_<=_;omega
  have R:∀k,cX (wO o [aQ o.x,aQ o.y] k)<=100000:=fun k=>by
   rw[wO,FJ];have h1:=hTs k;omega
  refine bC (σ:=Nat) (fun k=>([(1,.ref 1 0 0 0),(4,.osl 901 (1+k) 0 (wO o [aQ o.x,aQ o.y] k).length),(7,iv (k:Int))],[(901,⟨1+k,1,9,TI (wO o [aQ o.x,aQ o.y] k)⟩),(1,oBx o)])) (fun k=>k<=o.tags.length) (fun k=>o.tags.length - k) 0 (l6 _) ?_ ?_
  ·exact(cJ.wk (Ea<|Ea<|Eb<|T_) (Hc (lW _ _)<|Hb<|T_) T_)
  rintro k hk;have P:=K k hk;refine S<|C V<|Y (bA fV)<|Y (bS dC)<|Y (fY dL)<|O cM<|Cn ?_ ?_<;>intro hc3
  ·have hlt:k<o.tags.length:=by have:=b9 hc3;omega
   obtain ⟨t,ht⟩:=aU hlt;have hit:=cC (f:=bP) ht;have hnx:=pt (e_:=[aQ o.x,aQ o.y]) ht;have L:(wO o [aQ o.x,aQ o.y] k++[iO t]).length=(wO o [aQ o.x,aQ o.y] k).length+1:=by rw[j9];rfl
   obtain ⟨hks,hvs⟩:=o_ t (m7 ht);have hq:=rB t.val;have h61:(⟨#[61]⟩:B_).size=1:=rfl;have hk1:(t.key++(⟨#[61]⟩:B_)).size=t.key.size+1:=yY _ _;refine aA<|S<|aD<|aN a7<|Cs (fun _ _=>V)<|Cs (fun _ h=>fh fV h)<|Cs (fun _ h=>lh dC h)<|Cs (fun _ _=>V)<|Cs (fun _ _=>(iN lM))<|Cs (fun _ _=>(EP pO))<|Cs (fun _ _=>(gG N_))<|Cs (fun H1 hH=>by exact eZ Z Z Z (by omega) Z)<|Cs (fun _ h=>fh fV h)<|Cs (fun _ h=>lh dC h)<|Cs (fun _ _=>V)<|Cs (fun _ _=>(iN lM))<|Cs (fun _ _=>(EP qP))<|Cs (fun _ _=>(gG N_))<|Cs (fun H1 hH=>by exact bF Z Z aEE Z (LS t.val _ (by omega)))<|Cs (fun H1 hH=>by exact eZ Z Z Z (by omega) Z)<|Cs (fun H1 hH=>by exact aK [S_ (iO t)] Z bH Z Z Z Z Z R_) ?_;refine iH (r:=⟨_,none,[_]⟩) (DStep.plain Z (fun H1 hH=>by exact cA (ps:=[S_ (iO t)]) Z bH wB Z ((hH _ Z).trans Z) Z Z Z (XO _) Z R_ (m:=1) Z (by omega) Z (XQ _ (iO t)))) Z ?_;refine Cs (fun _ _=>U)<|bL<|Kr<|Rd V<|Y gV<|Da ?_;refine⟨k+1,by omega,by omega,?_⟩;rw[hnx,L];exact(cJ.wk (Ea<|Ea<|Eb<|T_) (Hc (lW _ _)<|Hb<|T_) T_)
  have hge:k=o.tags.length:=by have:=b_ hc3;omega
  subst hge;obtain ⟨W,hW⟩:∃W,W=wO o [aQ o.x,aQ o.y] o.tags.length:=X_;have hWs2:=R o.tags.length;rw[<-hW]at P hWs2 hFT;rw[<-hW];obtain ⟨F,hF⟩:∃F,F=b7 (bQ [32] (bs W)):=X_;rw[<-hF]at hFT;refine aP<|Sz U<|S<|Sz U<|aD<|bC (σ:=Nat) (fun k=>([(4,.osl 901 (1+o.tags.length) 0 W.length),(8,sv (b7 (bQ [32] (bs (W.take k))))),(9,iv (k:Int))],[(901,⟨1+o.tags.length,1,9,TI W⟩)])) (fun k=>k<=W.length) (fun k=>W.length - k) 0 (l6 _) ?_ ?_
  ·exact(cJ.wk (Ea<|Eb<|Eb<|T_) (Hc (lW _ _)<|T_) T_)
  rintro k hk;have hsz:(b7 (bQ [32] (bs (W.take k)))).size<=100064:=by
   rw[cB];have h1:=fQ (W.take k);have u_:=nW W k;have e_:(W.take k).length<=W.length:=by rw[q7];exact Nat.min_le_right _ _
   omega
  refine S<|C V<|Y V<|Y (by exact dQ Z aE Z Z Z)<|O cM<|Cn ?_ ?_<;>intro z_
  ·have hlt:k<W.length:=by have:=b9 z_;omega
   obtain ⟨w,D⟩:=aU hlt;have hiw:=XP D;have hnx:=BH D;have hws:w.size<=100000:=by
    have h1:=xK D;have u_:=nW W (k+1);omega
   have h32:(⟨#[32]⟩:B_).size=1:=rfl;have y_:(b7 (bQ [32] (bs (W.take k)))++⟨#[32]⟩).size=(b7 (bQ [32] (bs (W.take k)))).size+1:=yY _ _;refine aA<|S<|aD<|S<|C V<|O jK<|Cn ?_ ?_<;>intro hc5
   ·have hq:0<k:=by have:=b9 hc5;omega
    rw[b6 hq]at hnx;refine Rd V<|Y kq<|O U<|Rd V<|Y V<|Y V<|Y (by exact dI Z bH Z Z Z Z Z (by omega) (by exact l8 _) hlt (r7 _))<|Y (by exact aX Z N_ Z Z Z hiw Z)<|Y kq<|O U<|Rd V<|Y gV<|Da ?_;refine⟨k+1,by omega,by omega,?_⟩;rw[hnx];exact(cJ.wk (Ea<|Eb<|Eb<|T_) (Hc (lW _ _)<|T_) T_)
   have hq:¬ 0<k:=by have:=b_ hc5;omega
   rw[a8 hq]at hnx;refine aA<|Rd V<|Y V<|Y V<|Y (by exact dI Z bH Z Z Z Z Z (by omega) (by exact l8 _) hlt (r7 _))<|Y (by exact aX Z N_ Z Z Z hiw Z)<|Y kq<|O U<|Rd V<|Y gV<|Da ?_;refine⟨k+1,by omega,by omega,?_⟩;rw[hnx];exact(cJ.wk (Ea<|Eb<|Eb<|T_) (Hc (lW _ _)<|T_) T_)
  have hge:k=W.length:=by have:=b_ z_;omega
  subst hge;rw[List.take_length,<-hF];refine aP<|S<|C V<|Y (gR U_)<|O jK<|Cn ?_ ?_<;>intro hc6
  ·have hbig:20000<F.size:=by have:=b9 hc6;omega
   rw[hFT,b6 hbig];exact C U<|O U<|aC<|Ru<|Qq
  have hbig:¬ 20000<F.size:=by have:=b_ hc6;omega
  rw[hFT,a8 hbig];exact aA<|C V<|Y U<|O U<|aC<|Ru<|Qq
 have hk:o.kind≠1:=b_ A_;have hsz:cX o.refs<=24*o.refs.length:=oY (fun s hs=>dG (tW N s hs));have hjl:=fQ o.refs;have hSz:∀k,(b7 (bQ [32] (bs (o.refs.take k)))).size<=50000:=fun k=>by
  rw[cB];have:=VZ o.refs k;omega
 refine Sz U<|S<|Sz U<|aD<|bC (σ:=Nat) (fun k=>([(1,.ref 1 0 0 0),(4,.osl 901 0 0 2),(5,sv (b7 (bQ [32] (bs (o.refs.take k))))),(6,iv (k:Int))],[(901,⟨0,1,9,TI [eD o.kind,o.id]⟩),(1,oBx o)])) (fun k=>k<=o.refs.length) (fun k=>o.refs.length - k) 0 (l6 _) ?_ ?_
 ·exact(cJ.wk (Ea<|Ea<|Eb<|Eb<|T_) (Hc (lW _ _)<|Hb<|T_) T_)
 rintro k hkr;have hsk:=hSz k;refine S<|S<|aR (t:=42) (n:=11) (A_:=decide ((k:Int)<((o.refs.map S_).length:Int))&&decide (((b7 (bQ [32] (bs (o.refs.take k)))).size:Int)<=20000)) ?_ ?_
 ·all_goals refine Y V<|Y (bA dZ)<|Y (bS aH)<|Y (fY aE)<|Y cM<|Dm ?_<;>(refine Sp 38 (fun h38=>?_) fun h38=>?_)<;>(first|contradiction|refine M<|M<|M ?_|refine J V<|J (gR U_)<|J IN ?_)<;>refine O cE ?_<;>exact Gj (h:=by(rw[h38];rfl))
 refine Cn ?_ ?_<;>intro hc7
 ·have hlt:k<o.refs.length:=by have h:=hc7;rw[j0,k_]at h;omega
  obtain ⟨w,T⟩:=aU hlt;have hiw:=cC (f:=S_) T;have hnx:=BH T;have hwsz:=dG (tW N w (m7 T));have h32:(⟨#[32]⟩:B_).size=1:=rfl;have y_:(b7 (bQ [32] (bs (o.refs.take k)))++⟨#[32]⟩).size=(b7 (bQ [32] (bs (o.refs.take k)))).size+1:=yY _ _;refine aA<|S<|aD<|S<|C V<|O jK<|Cn ?_ ?_<;>intro hc8
  ·have hq:0<k:=by have:=b9 hc8;omega
   rw[b6 hq]at hnx;refine Rd V<|Y kq<|O U<|Rd V<|Y (bA dZ)<|Y (bS aH)<|Y V<|Y (iN bH)<|Y (gG N_)<|Y kq<|O U<|Rd V<|Y gV<|Da ?_;refine⟨k+1,by omega,by omega,?_⟩;rw[hnx];exact(cJ.wk (Ea<|Ea<|Eb<|Eb<|T_) (Hc (lW _ _)<|Hb<|T_) T_)
  have hq:¬ 0<k:=by have:=b_ hc8;omega
  rw[a8 hq]at hnx;refine aA<|Rd V<|Y (bA dZ)<|Y (bS aH)<|Y V<|Y (iN bH)<|Y (gG N_)<|Y kq<|O U<|Rd V<|Y gV<|Da ?_;refine⟨k+1,by omega,by omega,?_⟩;rw[hnx];exact(cJ.wk (Ea<|Ea<|Eb<|Eb<|T_) (Hc (lW _ _)<|Hb<|T_) T_)
 have I:k=o.refs.length\/20000<(b7 (bQ [32] (bs (o.refs.take k)))).size:=by have h:=hc7;simp only[Bool.and_eq_false_iff,q6]at h;omega
 obtain ⟨f_,hS⟩:∃f_,f_=b7 (bQ [32] (bs (o.refs.take k))):=X_;obtain ⟨B,hB⟩:∃B,B=(⟨#[40]⟩:B_)++f_++⟨#[41]⟩:=X_;rw[<-hS]at hsk I;rw[<-hS];have h40:(⟨#[40]⟩:B_).size=1:=rfl;have h41:(⟨#[41]⟩:B_).size=1:=rfl;have hA:((⟨#[40]⟩:B_)++f_).size=1+f_.size:=yY _ _;have hBs:B.size=1+f_.size+1:=by rw[hB,yY,hA];rfl
 have hMs:cX [B]=B.size+0:=by rw[cH];rfl
 have hMl:([B]:List B_).length=1:=rfl;have hFT:fA o=if 20000<(b7 (bQ [32] (bs (wO o [B] o.tags.length)))).size then(a6,2)else(b7 (bQ [32] (bs (wO o [B] o.tags.length))),0):=by
  by_cases he:k=o.refs.length
  ·have Q:(eD o.kind).data.toList++32::(o.id.data.toList++([B]:List B_).flatMap fun s=>32::s.data.toList)=lY o:=by
    rw[lY,a8 hk,hB,hS,he,List.take_length];simp[b7]
   rw[px Q];exact hT
  have hbig:20000<f_.size:=by rcases I with h|h;exact absurd h he;exact h
  have h1:=congrArg List.length (pw o [B]);rw[aT]at h1;have u_:(DQ o).size=(sC o).length:=by rw[<-aT];rfl
  have e_:=VZ o.refs k;have h4:f_.size=(bQ [32] (bs (o.refs.take k))).length:=by rw[hS,cB]
  have h5:(sC o).length>=(bQ [32] (bs o.refs)).length:=by
   rw[sC,lY,a8 hk];simp only[j9,j7];omega
  have h6:([B]:List B_).flatMap (fun s=>32::s.data.toList)=32::B.data.toList:=by simp
  rw[h6]at h1;simp only[j9,j7,aT]at h1;rw[hT,b6 (by omega),b6 (by omega)]
 refine aP<|Rd V<|Y V<|Y kq<|Y (by exact eZ Z Z Z (by omega) hB.symm)<|Y (by exact aK [S_ B] Z bH Z Z Z Z Z R_)<|Y (by exact cA (ps:=[S_ B]) Z bH wB Z Z Z Z Z Z Z R_ (m:=1) Z (by omega) Z (rfl:_=TI (wO o [B] 0)))<|O U<|S<|Sz U<|aD ?_;have hMs2:cX ([eD o.kind,o.id]++[B])<=70000:=by rw[FJ];have:cX [eD o.kind,o.id]=(eD o.kind).size+(o.id.size+0):=(by rw[cH,cH];rfl);omega
 have K:∀k,k<=o.tags.length->(wO o [B] k).length<=64:=fun k hk=>by rw[wO,j9,j9,g_,q7];show 2+_+_<=_;omega
 have R:∀k,cX (wO o [B] k)<=100000:=fun k=>by
  rw[wO,FJ];have h1:=hTs k;omega
 refine bC (σ:=Nat) (fun k=>([(1,.ref 1 0 0 0),(4,.osl 901 (1+k) 0 (wO o [B] k).length),(7,iv (k:Int))],[(901,⟨1+k,1,9,TI (wO o [B] k)⟩),(1,oBx o)])) (fun k=>k<=o.tags.length) (fun k=>o.tags.length - k) 0 (l6 _) ?_ ?_
 ·exact(cJ.wk (Ea<|Ea<|Eb<|T_) (Hc (lW _ _)<|Hb<|T_) T_)
 rintro k hk;have P:=K k hk;refine S<|C V<|Y (bA fV)<|Y (bS dC)<|Y (fY dL)<|O cM<|Cn ?_ ?_<;>intro v_
 ·have hlt:k<o.tags.length:=by have:=b9 v_;omega
  obtain ⟨t,ht⟩:=aU hlt;have hit:=cC (f:=bP) ht;have hnx:=pt (e_:=[B]) ht;have L:(wO o [B] k++[iO t]).length=(wO o [B] k).length+1:=by rw[j9];rfl
  obtain ⟨hks,hvs⟩:=o_ t (m7 ht);have hq:=rB t.val;have h61:(⟨#[61]⟩:B_).size=1:=rfl;have hk1:(t.key++(⟨#[61]⟩:B_)).size=t.key.size+1:=yY _ _;refine aA<|S<|aD<|aN a7<|Cs (fun _ _=>V)<|Cs (fun _ h=>fh fV h)<|Cs (fun _ h=>lh dC h)<|Cs (fun _ _=>V)<|Cs (fun _ _=>(iN lM))<|Cs (fun _ _=>(EP pO))<|Cs (fun _ _=>(gG N_))<|Cs (fun H1 hH=>by exact eZ Z Z Z (by omega) Z)<|Cs (fun _ h=>fh fV h)<|Cs (fun _ h=>lh dC h)<|Cs (fun _ _=>V)<|Cs (fun _ _=>(iN lM))<|Cs (fun _ _=>(EP qP))<|Cs (fun _ _=>(gG N_))<|Cs (fun H1 hH=>by exact bF Z Z aEE Z (LS t.val _ (by omega)))<|Cs (fun H1 hH=>by exact eZ Z Z Z (by omega) Z)<|Cs (fun H1 hH=>by exact aK [S_ (iO t)] Z bH Z Z Z Z Z R_) ?_;refine iH (r:=⟨_,none,[_]⟩) (DStep.plain Z (fun H1 hH=>by exact cA (ps:=[S_ (iO t)]) Z bH wB Z ((hH _ Z).trans Z) Z Z Z (XO _) Z R_ (m:=1) Z (by omega) Z (XQ _ (iO t)))) Z ?_;refine Cs (fun _ _=>U)<|bL<|Kr<|Rd V<|Y gV<|Da ?_;refine⟨k+1,by omega,by omega,?_⟩;rw[hnx,L];exact(cJ.wk (Ea<|Ea<|Eb<|T_) (Hc (lW _ _)<|Hb<|T_) T_)
 have hge:k=o.tags.length:=by have:=b_ v_;omega
 subst hge;obtain ⟨W,hW⟩:∃W,W=wO o [B] o.tags.length:=X_;have hWs2:=R o.tags.length;rw[<-hW]at P hWs2 hFT;rw[<-hW];obtain ⟨F,hF⟩:∃F,F=b7 (bQ [32] (bs W)):=X_;rw[<-hF]at hFT;refine aP<|Sz U<|S<|Sz U<|aD<|bC (σ:=Nat) (fun k=>([(4,.osl 901 (1+o.tags.length) 0 W.length),(8,sv (b7 (bQ [32] (bs (W.take k))))),(9,iv (k:Int))],[(901,⟨1+o.tags.length,1,9,TI W⟩)])) (fun k=>k<=W.length) (fun k=>W.length - k) 0 (l6 _) ?_ ?_
 ·exact(cJ.wk (Ea<|Eb<|Eb<|T_) (Hc (lW _ _)<|T_) T_)
 rintro k hk;have hsz:(b7 (bQ [32] (bs (W.take k)))).size<=100064:=by
  rw[cB];have h1:=fQ (W.take k);have u_:=nW W k;have e_:(W.take k).length<=W.length:=by rw[q7];exact Nat.min_le_right _ _
  omega
 refine S<|C V<|Y V<|Y (by exact dQ Z aE Z Z Z)<|O cM<|Cn ?_ ?_<;>intro c_
 ·have hlt:k<W.length:=by have:=b9 c_;omega
  obtain ⟨w,D⟩:=aU hlt;have hiw:=XP D;have hnx:=BH D;have hws:w.size<=100000:=by
   have h1:=xK D;have u_:=nW W (k+1);omega
  have h32:(⟨#[32]⟩:B_).size=1:=rfl;have y_:(b7 (bQ [32] (bs (W.take k)))++⟨#[32]⟩).size=(b7 (bQ [32] (bs (W.take k)))).size+1:=yY _ _;refine aA<|S<|aD<|S<|C V<|O jK<|Cn ?_ ?_<;>intro E
  ·have hq:0<k:=by have:=b9 E;omega
   rw[b6 hq]at hnx;refine Rd V<|Y kq<|O U<|Rd V<|Y V<|Y V<|Y (by exact dI Z bH Z Z Z Z Z (by omega) (by exact l8 _) hlt (r7 _))<|Y (by exact aX Z N_ Z Z Z hiw Z)<|Y kq<|O U<|Rd V<|Y gV<|Da ?_;refine⟨k+1,by omega,by omega,?_⟩;rw[hnx];exact(cJ.wk (Ea<|Eb<|Eb<|T_) (Hc (lW _ _)<|T_) T_)
  have hq:¬ 0<k:=by have:=b_ E;omega
  rw[a8 hq]at hnx;refine aA<|Rd V<|Y V<|Y V<|Y (by exact dI Z bH Z Z Z Z Z (by omega) (by exact l8 _) hlt (r7 _))<|Y (by exact aX Z N_ Z Z Z hiw Z)<|Y kq<|O U<|Rd V<|Y gV<|Da ?_;refine⟨k+1,by omega,by omega,?_⟩;rw[hnx];exact(cJ.wk (Ea<|Eb<|Eb<|T_) (Hc (lW _ _)<|T_) T_)
 have hge:k=W.length:=by have:=b_ c_;omega
 subst hge;rw[List.take_length,<-hF];refine aP<|S<|C V<|Y (gR U_)<|O jK<|Cn ?_ ?_<;>intro G
 ·have hbig:20000<F.size:=by have:=b9 G;omega
  rw[hFT,b6 hbig];exact C U<|O U<|aC<|Ru<|Qq
 have hbig:¬ 20000<F.size:=by have:=b_ G;omega
 rw[hFT,a8 hbig];exact aA<|C V<|Y U<|O U<|aC<|Ru<|Qq
end Go.Proofs.YtopnleflllkbmaaGreatDoor
