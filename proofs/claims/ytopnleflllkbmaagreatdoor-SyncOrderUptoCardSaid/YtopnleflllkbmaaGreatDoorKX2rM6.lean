/-
  Parts of the proof. Conditions: each theorem's own.
-/
import Derived.Test.YtopnleflllkbmaaGreatDoorKX2rM5
set_option linter.unusedVariables false
set_option linter.unusedSimpArgs false
set_option maxRecDepth 100000
set_option maxHeartbeats 8000000
namespace Go.Proofs
open Tryz
theorem AW:type_of% call100:=call100
theorem aER:type_of% call203:=call203
theorem GR:type_of% call222:=call222
theorem aEP:type_of% call223:=call223
theorem aEM:type_of% call262:=call262
theorem aEq:type_of% call72:=call72
theorem jE:type_of% call84:=call84
theorem jD:type_of% call99:=call99
theorem dV:type_of% isAgg125:=isAgg125
end Go.Proofs
namespace Go.Proofs.YtopnleflllkbmaaGreatDoor
open Go.Proofs.Tryz
open Go.Abs
variable{α:Type}{i:Nat}
abbrev nxB:AV:=.bnd 98 [QX]
def za(l:List UInt8):Option (AV×List UInt8):=(CT oS l).map fun p=>(.pv (aK p.1),p.2)
theorem dp(f){N k}{q b}{A:List α}(hk:A.length=k)(hlt:k<N)(h:GM f N q=(GM f (N - k) b).map fun p=>(A++p.1,p.2)):
  GM f N q=match f b with
   |none=>none
   |some (x,r)=>(GM f (N - (k+1)) r).map fun p=>((A++[x])++p.1,p.2):=by
 rw[h,show N - k=(N - (k+1))+1 by omega,GM]
 grind
theorem Iy{l}(h:xC l=none):za l=none:=by rw[za,CT,h];rfl
theorem Ix{l q}{n}(h:xC l=some (n,q)):za l=(GM oS n.toNat q).map fun p=>(.pv (aK p.1),p.2):=by rw[za,CT,h]
theorem Y1(l:List UInt8)(D:l.length<1000000000):DY 100 [QX,nxB] [] l (za l):=by
 refine DY.of (CG l) Z (by simp;rfl) ?_;have g:=oD l D;have e:=Iy (l:=l);have f:=fun n q=>Ix (l:=l) (n:=n) (q:=q);have i:=fun n q=>kC (l:=l) (x:=n) (q:=q);rw[EL]at g;obtain ⟨o_,z⟩:∃o_,o_=xC l:=X_;rw[<-z]at g e f i;clear z;refine fM.body func100 Z ntmps100 (r9 Z)<|Sz U<|S ?_;rcases o_ with _|⟨n,j⟩
 ·rw[e rfl];have w:DY 99 [QX] [] l none:=g;refine gL<|iO Z Z Z (by exact gP Z Z) ?_;exact qK Z Z (eI Z Z jD Z (w.no Z (fX _))) (fun d_ E h=>by obtain ⟨rfl,q,rfl⟩:=h;exact FD (H':=nC q) (Fin.wk (by simp) (Hb<|T_) ⟨Z,T_⟩) ⟨Z,Z,q,Z⟩)
 have w:DY 99 [QX] [] l (some (iv n,j)):=g;obtain ⟨hq0,hn0,hn1⟩:=i n j Z;rw[f n j rfl];refine Rd V<|Y (kc jD (w.yes Z (fX _)))<|O U<|Sz (by exact eF (id:=905) (sz:=1) (ty:=9) Z Z Z)<|S<|C V<|O V<|aD<|fR (fun(d:List UInt8) (A:List B_)=>([(0,QX),(1,nxB),(6,.osl 905 A.length 0 A.length),(9,iv n),(10,iv (A.length:Int))],(905,⟨A.length,1,9,bZ A⟩)::nC d)) (fun d A=>d.length+A.length<l.length/\A.length<=n.toNat/\GM oS n.toNat j=(GM oS (n.toNat - A.length) d).map fun p=>(A++p.1,p.2)) (fun d A=>d.length) j [] ⟨by omega,l6 _,by simp⟩ ?_ ?_
 ·exact(cJ.wk (Ea<|Ea<|Ea<|Eb<|Eb<|T_) (Hc (aV _ _)<|Hb<|T_) ⟨Z,T_⟩)
 rintro d A ⟨hl',hA,y⟩;have b:=AC d (by omega);have k:=fun s q=>lC (l:=d) (s:=s) (q:=q);have c:=fun h=>dp oS (k:=A.length) Z h y;rw[KB]at b;obtain ⟨A_,B⟩:∃A_,A_=oS d:=X_;rw[<-B]at b k c;clear B;refine Sz cM<|S<|Cn ?_ ?_<;>intro o
 ·have t:A.length<n.toNat:=by have:=b9 o;omega
  have m:=c t;clear c;refine aA<|S<|aD ?_;rcases A_ with _|⟨s,q⟩
  ·have m:GM oS n.toNat j=none:=m;rw[m];have b:DY 98 [QX] [] d none:=b;refine gL<|iO Z Z Z (by exact gP Z Z)<|iO Z Z Z (by exact gP Z Z) ?_;exact qK Z Z (GZ Z Z nF Z (b.no Z (fX _))) (fun d_ E h=>by obtain ⟨rfl,q,rfl⟩:=h;exact FD (H':=nC q) (Fin.wk (by simp) (Hb<|T_) ⟨Z,T_⟩) ⟨Z,Z,q,Z⟩)
  have m:GM oS n.toNat j=(GM oS (n.toNat - (A.length+1)) q).map fun p=>((A++[s])++p.1,p.2):=m;have b:DY 98 [QX] [] d (some (sv s,q)):=b;have k:=k s q Z;have u:(A++[s]).length=A.length+1:=by simp_all
  refine Rd V<|Y V<|Y (by exact DW.opr (GZ Z Z nF Z (fM.of (b.yes Z (fX _)))))<|Y (by exact aL [[.str s]] Z bH Z Z Z Z Z (by simp_all))<|Y (by exact cA (ps:=[[.str s]]) Z bH xE Z Z Z Z Z (eH _) Z (by simp_all) (m:=1) Z (by omega) Z (gO A s))<|O U<|Rd kp<|O V ?_;refine⟨q,A++[s],⟨by omega,by omega,by simp_all⟩,by omega,?_⟩;dsimp only;rw[u];exact(cJ.wk (Ea<|Ea<|Ea<|Eb<|Eb<|T_) (Hc (aV _ _)<|Hb<|T_) ⟨Z,T_⟩)
 have r:n.toNat=A.length:=by have:=b_ o;omega
 have v:GM oS n.toNat j=some (A,d):=by rw[y,r,Nat.sub_self,GM];simp
 rw[v];refine aP<|C V<|O U<|aC ?_;refine NC ?_;refine cR (H':=(nC d)) (.inr Z) Z (aJ Z) (Fin.fz (id:=905) (ob:=⟨A.length,1,9,bZ A⟩) (r':=.pv (aK A)) (A.map S_) Z (eC _) (.osl (iH S_ _)) Z ⟨⟨_,Z,Z⟩,(by(simp;done)),T_⟩ ⟨Z,T_⟩) ?_
 simp_all
theorem YY{α:Type}(f)(P:α->Prop)(b)(c:∀l x q,l.length<=b->f l=some (x,q)->q.length<l.length/\P x):∀(n) (l) (xs) (q),l.length<=b->GM f n l=some (xs,q)->q.length+xs.length<=l.length/\∀x∈xs,P x
 |0,l,xs,q,_,h=>by rw[GM]at h;simp_all
 | n+1,l,xs,q,d,h=>by
  rw[GM]at h;cases a:f l with
  |none=>simp_all
  | some p =>
   obtain ⟨x,r⟩:=p;obtain ⟨h1,h2⟩:=c l x r d a;rw[a]at h;cases e:GM f n r with
   |none=>simp_all
   |some p2 =>
    obtain ⟨k1,k2⟩:=YY f P b c n r _ _ X e
    grind
theorem zH{l q}{xs}(h:CT oS l=some (xs,q)):q.length+xs.length<l.length/\∀x∈xs,x.size<=l.length:=by
 rw[CT]at h;cases b:xC l with
 |none=>simp_all
 |some p =>
  obtain ⟨n,r⟩:=p;rw[b]at h;have h1:=(kC b).1;obtain ⟨k1,c⟩:=YY _ (fun x=>x.size<=r.length) _ (fun l x q hb a=>by have:=lC a;exact⟨X,X⟩) _ r _ q (j6 _) h;exact⟨X,fun x a=>Nat.le_trans (c x a) X⟩
theorem sj{l q}{p}(h:RJ l=some (p,q)):q.length<l.length/\(qA p.1/\qA p.2):=by
 rw[RJ]at h;cases b:xC l with
 |none=>simp_all
 | some z =>
  obtain ⟨x,r⟩:=z;rw[b]at h;simp at h;cases a:xC r with
  |none=>simp_all
  |some z2 =>
   rw[a]at h;cases h;have d:=kC b;have c:=kC a;exact⟨X,d.2,c.2⟩
theorem tk{l q}{xs}(h:CT RJ l=some (xs,q)):q.length+xs.length<l.length/\∀x∈xs,qA x.1/\qA x.2:=by
 rw[CT]at h;cases a:xC l with
 |none=>simp_all
 |some p =>
  obtain ⟨n,r⟩:=p;rw[a]at h;have h1:=(kC a).1;obtain ⟨k1,c⟩:=YY _ _ _ (fun l x q hb b=>sj b) _ r _ q (j6 _) h;exact⟨X,c⟩
def Pt(l:List UInt8):Option (AV×List UInt8):=(xf l).map fun p=>(av (lE p.1),p.2)
theorem rf(l:List UInt8)(B:l.length<1000000000):DY 102 [QX] [] l (Pt l):=by
 refine DY.of (CG l) Z (by simp;rfl) ?_;have g:=oD l B;have u:=fun q (A:q.length<1000000000)=>Y1 q A;have z:Pt l=(match xC l with
  |none=>none
  | some (i,r)=>match CT oS r with
   |none=>none
   |some (a,q)=>match CT oS q with
    |none=>none
    |some (b,p)=>some (.agg [iv i,.pv (aK a),.pv (aK b)],p)):=by
  rw[Pt,xf];cases xC l with
  |none=>rfl
  | some p =>
   obtain ⟨i,r⟩:=p;simp only;cases CT oS r with
   |none=>rfl
   |some p =>
    obtain ⟨a,q⟩:=p;simp only;cases CT oS q with
    |none=>rfl
    |some p=>rfl
 rw[z];rw[EL]at g;have j:=fun n q=>kC (l:=l) (x:=n) (q:=q);obtain ⟨o_,k⟩:∃o_,o_=xC l:=X_;rw[<-k]at g j |-;clear k z;refine fM.body func102 Z ntmps102 (r9 Z)<|Sz (kl 2 Z3)<|S ?_;rcases o_ with _|⟨i,s⟩
 ·have t:DY 99 [QX] [] l none:=g;refine gL<|iO Z Z Z (by exact gP Z Z) ?_;exact qK Z Z (eI Z Z jD Z (t.no Z (fX _))) (fun w x h=>by obtain ⟨rfl,q,rfl⟩:=h;exact FD (H':=nC q) (Fin.wk (by simp) (Hb<|T_) ⟨Z,T_⟩) ⟨Z,Z,q,Z⟩)
 have t:DY 99 [QX] [] l (some (iv i,s)):=g;have h1:=(j i s Z).1;have d:=u s (by omega);rw[za]at d;have f:=fun v q=>zH (l:=s) (xs:=v) (q:=q);simp only;obtain ⟨o_,k⟩:∃o_,o_=CT oS s:=X_;rw[<-k]at d f |-;clear k;rcases o_ with _|⟨a,m⟩
 ·have d:DY 100 [QX,nxB] [] s none:=d;refine gL<|iO Z Z Z (by exact gP Z Z)<|iO Z Z Z (kc jD (t.yes Z (fX _)))<|iO Z Z Z (by exact gP Z Z)<|iO Z Z Z (by exact gP Z Z)<|iO Z Z Z (by exact pB Z Z) ?_;exact qK Z Z (eI Z Z AW Z (d.no Z (fX _))) (fun w x h=>by obtain ⟨rfl,q,rfl⟩:=h;exact FD (H':=nC q) (Fin.wk (by simp) (Hb<|T_) ⟨Z,T_⟩) ⟨Z,Z,q,Z⟩)
 have d:DY 100 [QX,nxB] [] s (some (.pv (aK a),m)):=d;have h2:=(f a m Z).1;have e:=u m (by omega);rw[za]at e;have o:=fun v q=>zH (l:=m) (xs:=v) (q:=q);simp only;obtain ⟨o_,k⟩:∃o_,o_=CT oS m:=X_;rw[<-k]at e o |-;clear k;rcases o_ with _|⟨b,y⟩
 ·have e:DY 100 [QX,nxB] [] m none:=e;refine gL<|iO Z Z Z (by exact gP Z Z)<|iO Z Z Z (kc jD (t.yes Z (fX _)))<|iO Z Z Z (by exact gP Z Z)<|iO Z Z Z (by exact gP Z Z)<|iO Z Z Z (by exact pB Z Z)<|iO Z Z Z (kc AW (d.yes Z (fX _)))<|iO Z Z Z (by exact gP Z Z)<|iO Z Z Z (by exact gP Z Z)<|iO Z Z Z (by exact pB Z Z) ?_;exact qK Z Z (eI Z Z AW Z (e.no Z (fX _))) (fun w x h=>by obtain ⟨rfl,q,rfl⟩:=h;exact FD (H':=nC q) (Fin.wk (by simp) (Hb<|T_) ⟨Z,T_⟩) ⟨Z,Z,q,Z⟩)
 have e:DY 100 [QX,nxB] [] m (some (.pv (aK b),y)):=e;refine Rd V<|Y (kc jD (t.yes Z (fX _)))<|Y V<|Y V<|Y (by exact pB Z Z)<|Y (kc AW (d.yes Z (fX _)))<|Y V<|Y V<|Y (by exact pB Z Z)<|Y (kc AW (e.yes Z (fX _)))<|Y (oO Vf)<|Uu (iU sizeOf48)<|Zz<|aC ?_;refine NC ?_;refine cR (H':=(nC y)) (.inr Z) Z (eV Z gN sizeOf48 Z Z Z (by simp only[Zl,S_];rfl) Z) (Fin.wk (by simp[TG]) (Hb<|T_) ⟨Z,T_⟩) ?_;exact⟨_,Z,Z,Z⟩
abbrev inO:Ob:=bx 1 125 [QX]
abbrev Jp:aF:=[(4,inO)]
theorem ue{H}(h:(H.get 980).isSome=true):∀r∈inO.rows,∀a∈r,Clo H a:=F_
theorem SD(l):dD (nC l++Jp):=dD.ofL ⟨X8 l _,ue Z,T_⟩
def Rk(l:List UInt8):Option (AV×List UInt8):=(RJ l).map fun p=>(av (jW p.1),p.2)
theorem Hj(l:List UInt8)(N:l.length<1000000000):DY 104 [.ref 4 0 0 0] Jp l (Rk l):=by
 refine DY.of (SD l) Z (by simp;rfl) ?_;have D:=oD l N;have u:=fun q (e_:q.length<1000000000)=>oD q e_;have hlen:=fun n q=>kC (l:=l) (x:=n) (q:=q);have K:Rk l=(match xC l with
  |none=>none
  |some (x,r)=>match xC r with
   |none=>none
   |some (y,q)=>some (.agg [iv x,iv y],q)):=by
  rw[Rk,RJ];cases xC l with
  |none=>rfl
  |some p =>
   obtain ⟨i,r⟩:=p;simp only;cases xC r with
   |none=>rfl
   |some p=>rfl
 obtain ⟨x,c,H⟩:∃x c,(xC l).getD (0,l)=(x,c):=⟨_,_,Z⟩;obtain ⟨y,m,I⟩:∃y m,(xC c).getD (0,c)=(y,m):=⟨_,_,Z⟩;have hq1:c.length<=l.length:=by
  grind
 have A:(EL l).getD (iv 0,l)=(iv x,c):=by
  rw[EL]
  grind
 have w:(EL c).getD (iv 0,c)=(iv y,m):=by
  rw[EL]
  grind
 have s:EL l=none->Rk l=none:=fun e=>by
  grind
 have o:(EL l).isSome=true->EL c=none->Rk l=none:=fun e g=>by
  rw[EL,Option.map_eq_none_iff]at g
  grind
 have z:(EL l).isSome=true->(EL c).isSome=true->Rk l=some (.agg [iv x,iv y],m):=fun e g=>by
  cases k:xC l with
  |none=>rw[EL,k]at e;cases e
  |some p =>
   rw[k]at H;cases H;rw[K,k];simp only;cases F:xC c with
   |none=>rw[EL,F]at g;cases g
   |some p=>rw[F]at I;cases I;rfl
 have d_:EL c=none->Rk l=none:=fun e=>by
  cases h:EL l with
  |none=>exact s h
  |some p=>exact o (by rw[h];rfl) e
 clear K o;refine fM.body func104 Z ntmps104 (r9 Z)<|Sz (kl 1 Cf)<|S<|yK (fun v j G=>Rk l=none/\v=H7/\∃q,G=nC q++j) [] [] [4] Z a7 (fun v E1 j G hts hsh B ⟨e,g,q,k⟩=>by subst k;have c_:aF.get (nC q++j) 4=some inO:=(B 4 (q_.2 Z)).trans Z;exact FD (H':=nC q++Jp) (Fin.wk (by simp) ⟨⟨_,Z,Z⟩,X8 _ _,⟨_,c_,Z⟩,ue Z,T_⟩ ⟨Z,c_.symm,T_⟩) ⟨e,g,q,Z⟩) ?_;refine Pr [4] (fun _ h=>lh dV h)<|vI (r:=⟨_,some [980],nC c⟩) (.pan Z (fun j f=>by exact eI Z Z jD Z ((D.tot A ((f 980 Z).trans Z) (fX _)).mono (fun _ _ h=>h) (fun v L ⟨e,g,k⟩=>⟨s e,g,k⟩)))) Z ?_;refine Pr [4] (fun _ h=>lh dV h)<|vI (r:=⟨_,some [980],nC m⟩) (.pan Z (fun j f=>by exact eI Z Z jD Z (((u c (by omega)).tot w ((f 980 Z).trans Z) (fX _)).mono (fun _ _ h=>h) (fun v L ⟨e,g,k⟩=>⟨d_ e,g,k⟩)))) Z ?_;refine Pr [] (fun j f=>by exact OK Z K0 Z Z)<|Pw [1] (fun _ h=>sa sizeOf104 h) ?_;refine KW ⟨⟨by kernel_rfl,by kernel_rfl,by kernel_rfl⟩,fun E=>?_⟩;simp only[ZT,true_and,and_true]at E;refine aC ?_;refine NC ?_;refine cR (H':=(nC m++Jp)) (.inr Z) Z (eV Z eB sizeOf104 Z Z Z (by simp only[Zl,S_];rfl) Z) (Fin.wk (by simp[TG]) (Hb<|Ha<|T_) ⟨Z,Z,T_⟩) ?_;exact⟨_,z E.1 E.2,Z,Z⟩
abbrev ptB:AV:=.clo 104 [.ref 4 0 0 0]
def vQ(A:List (Int×Int)):List (List AV):=(A.map jW).map (·.map AV.pv)
theorem RH(A):(vQ A).length=A.length:=by simp[vQ]
theorem RI(A)(p):vQ A++[(jW p).map AV.pv]=vQ (A++[p]):=by rw[vQ,vQ,List.map_append,List.map_append];rfl
theorem CJ(A)(H):∀r∈vQ A,∀a∈r,Clo H a:=ZE _ _ _
instance(A)(H):W_ (H) (vQ A):=⟨CJ A H⟩
def du(l:List UInt8):Option (AV×List UInt8):=(CT RJ l).map fun p=>(.pv (xK p.1),p.2)
theorem yz{l}(h:xC l=none):du l=none:=by rw[du,CT,h];rfl
theorem yy{l q}{n}(h:xC l=some (n,q)):du l=(GM RJ n.toNat q).map fun p=>(.pv (xK p.1),p.2):=by rw[du,CT,h]
theorem Tk(l:List UInt8)(F:l.length<1000000000):DY 103 [QX,ptB] Jp l (du l):=by
 refine DY.of (SD l) Z (by simp;exact⟨Z,Z⟩) ?_;have g:=oD l F;have e:=yz (l:=l);have f:=fun n q=>yy (l:=l) (n:=n) (q:=q);have i:=fun n q=>kC (l:=l) (x:=n) (q:=q);rw[EL]at g;obtain ⟨o_,d_⟩:∃o_,o_=xC l:=X_;rw[<-d_]at g e f i;clear d_;refine fM.body func103 Z ntmps103 (r9 Z)<|Sz U<|S ?_;rcases o_ with _|⟨n,j⟩
 ·rw[e rfl];have y:DY 99 [QX] [] l none:=g;refine gL<|iO Z Z Z (by exact gP Z Z) ?_;exact qK Z Z (eI Z Z jD Z (y.no Z (fX _))) (fun E G h=>by obtain ⟨rfl,q,rfl⟩:=h;exact FD (H':=nC q++Jp) (Fin.wk (by simp) (Hb<|Ha<|T_) ⟨Z,Z,T_⟩) ⟨Z,Z,q,Z⟩)
 have y:DY 99 [QX] [] l (some (iv n,j)):=g;obtain ⟨hq0,hn0,hn1⟩:=i n j Z;rw[f n j rfl];refine Rd V<|Y (kc jD (y.yes Z (fX _)))<|O U<|Sz (by exact eF (id:=905) (sz:=2) (ty:=104) Z Z Z)<|S<|C V<|O V<|aD<|fR (fun(d:List UInt8) (A:List (Int×Int))=>([(0,QX),(1,ptB),(6,.osl 905 A.length 0 A.length),(9,iv n),(10,iv (A.length:Int))],(905,⟨A.length,2,104,vQ A⟩)::(nC d++Jp))) (fun d A=>d.length+A.length<l.length/\A.length<=n.toNat/\GM RJ n.toNat j=(GM RJ (n.toNat - A.length) d).map fun p=>(A++p.1,p.2)) (fun d A=>d.length) j [] ⟨by omega,l6 _,by simp⟩ ?_ ?_
 ·exact(cJ.wk (Ea<|Ea<|Ea<|Eb<|Eb<|T_) (Hc (CJ _ _)<|Hb<|Ha<|T_) ⟨Z,Z,T_⟩)
 rintro d A ⟨hl',hA,D⟩;have b:=Hj d (by omega);have k:=fun s q=>sj (l:=d) (p:=s) (q:=q);have c:=fun h=>dp RJ (k:=A.length) Z h D;rw[Rk]at b;obtain ⟨A_,B⟩:∃A_,A_=RJ d:=X_;rw[<-B]at b k c;clear B;refine Sz cM<|S<|Cn ?_ ?_<;>intro m
 ·have x:A.length<n.toNat:=by have:=b9 m;omega
  have o:=c x;clear c;refine aA<|S<|aD ?_;rcases A_ with _|⟨s,q⟩
  ·have o:GM RJ n.toNat j=none:=o;rw[o];have b:DY 104 [.ref 4 0 0 0] Jp d none:=b;refine gL<|iO Z Z Z (by exact gP Z Z)<|iO Z Z Z (by exact gP Z Z) ?_;exact qK Z Z (GY Z Z call104 Z (b.no Z (HN.sub ⟨Z,T_⟩))) (fun E G h=>by obtain ⟨rfl,q,rfl⟩:=h;exact FD (H':=nC q++Jp) (Fin.wk (by simp) (Hb<|Ha<|T_) ⟨Z,Z,T_⟩) ⟨Z,Z,q,Z⟩)
  have o:GM RJ n.toNat j=(GM RJ (n.toNat - (A.length+1)) q).map fun p=>((A++[s])++p.1,p.2):=o;have b:DY 104 [.ref 4 0 0 0] Jp d (some (av (jW s),q)):=b;have k:=k s q Z;have z:(A++[s]).length=A.length+1:=by simp_all
  refine Rd V<|Y V<|Y (by exact DW.opr (GY Z Z call104 Z (fM.of (b.yes Z (HN.sub ⟨Z,T_⟩)))))<|Y (by exact aL [jW s] Z TU Z Z Z Z Z R_)<|Y (by exact cA (ps:=[jW s]) Z TU Wt Z Z Z Z Z (RH _) Z R_ (m:=1) Z (by omega) Z (RI A s))<|O U<|Rd kp<|O V ?_;refine⟨q,A++[s],⟨by omega,by omega,by simp_all⟩,by omega,?_⟩;dsimp only;rw[z];exact(cJ.wk (Ea<|Ea<|Ea<|Eb<|Eb<|T_) (Hc (CJ _ _)<|Hb<|Ha<|T_) ⟨Z,Z,T_⟩)
 have w:n.toNat=A.length:=by have:=b_ m;omega
 have u:GM RJ n.toNat j=some (A,d):=by rw[D,w,Nat.sub_self,GM];simp
 rw[u];refine aP<|C V<|O U<|aC ?_;refine NC ?_;refine cR (H':=(nC d++Jp)) (.inr Z) Z (aJ Z) (Fin.fz (id:=905) (ob:=⟨A.length,2,104,vQ A⟩) (r':=.pv (xK A)) (A.map jW) Z Z (.osl (iH jW _)) Z ⟨⟨_,Z,Z⟩,(by(simp;done)),⟨_,Z,Z⟩,(by(simp;rfl)),T_⟩ ⟨Z,Z,T_⟩) ?_
 simp_all
def JJ(h i:Int):Bool:=((decide (h<0)||decide (8<h))||decide (i<0))||decide (((2 ^ h.toNat:Nat):Int)<=i)
def zS:m9:=⟨0,[],[]⟩
def OT(s:B_)(h i:Int)(m:B_):m9×Int:=if JJ h i=true then(zS,1)else(⟨i,jv s i.toNat m,xN h.toNat (xS s h.toNat) i.toNat⟩,0)
theorem xh(s m:B_)(h i:Int)(H:aF)(j:JJ h i=true):RC 119 [sv s,iv h,iv i,sv m] (.tup [av (lE zS),iv 1]) H:=by
 refine Pu ?_;have e:decide (h<0)=false->decide (8<h)=false->IntKind.i64.wrap (1*2 ^ h.toNat)=((2 ^ h.toNat:Nat):Int):=fun g f=>by
  have g:=b_ g;have f:=b_ f;obtain ⟨n,rfl⟩:∃n:Nat,h=(n:Int):=⟨h.toNat,X⟩;rw[l8];have:=Yg (h:=n) X
  rwa [l8]at this
 have hbe:JJ h i=(((decide (h<0)||decide (8<h))||decide (i<0))||decide (((2 ^ h.toNat:Nat):Int)<=i)):=rfl;refine Bd func119 Z ntmps119<|C (kb 4)<|Y (kb 6)<|Y (kl 8 Z3)<|O U<|S<|S<|rF (t:=30) (n:=16) (A_:=JJ h i) ?_ ?_
 ·cases b:(decide (h<0):Bool)
  ·cases c:(decide (8<h):Bool)
   ·cases hg25:(decide (i<0):Bool)
    ·refine aN a7<|Cq V<|Cq cM<|Cq V<|Nf V<|Nf iY<|Cq vP<|Cq V<|Nf (bS M_)<|Nf cM<|Cq vP<|Cq V<|Nf (bS M_)<|Nf V<|Nf (by exact O2 Z Z Z (J_ b) (by have:=b_ c;simp[IntKind.bits];omega) (e b c))<|Nf B0<|Cq vP<|bJ<|Kr ?_;exact⟨Z,⟨_,Z,F_⟩,Z,Z,Z⟩
    refine aN a7<|Cq V<|Cq cM<|Cq V<|Nf V<|Nf iY<|Cq vP<|Cq V<|Nf (bS M_)<|Nf cM<|Cq vP<|Cq V<|Of<|Of<|Of<|Of<|Cq CK<|bJ<|Kr ?_;exact⟨Z,⟨_,Z,F_⟩,Z,Z,Z⟩
   refine aN a7<|Cq V<|Cq cM<|Cq V<|Nf V<|Nf iY<|Cq vP<|Cq V<|Of<|Of<|Cq CK<|Cq V<|Of<|Of<|Of<|Of<|Cq cE<|bJ<|Kr ?_;exact⟨Z,⟨_,Z,F_⟩,Z,Z,Z⟩
  refine aN a7<|Cq V<|Cq cM<|Cq V<|Of<|Of<|Cq CK<|Cq V<|Of<|Of<|Cq cE<|Cq V<|Of<|Of<|Of<|Of<|Cq cE<|bJ<|Kr ?_;exact⟨Z,⟨_,Z,F_⟩,Z,Z,Z⟩
 refine Cn ?_ ?_<;>intro d
 ·refine C (oO Vf)<|Uu (iU sizeOf48)<|O U<|aC<|hU (H':=[]) (.inr Z) Z (eV Z gN sizeOf48 Z Z Z (by simp only[Zl,S_];rfl) Z) (aJ Z) P_ ?_;exact Qq
 rw[j]at d;cases d
theorem U3(s m)(h i)(H)(c:s.size<2^40)(b:m.size<2^40):RC 119 [sv s,iv h,iv i,sv m] (.tup [av (lE (OT s h i m).1),iv (OT s h i m).2]) H:=by
 rw[OT];by_cases a:JJ h i=true
 ·rw[b6 a];exact xh s m h i H a
 rw[a8 a];have a:JJ h i=false:=F_
 simp only[JJ,q9,p_]at a;obtain ⟨⟨⟨h1,h2⟩,h3⟩,d⟩:=a;obtain ⟨n,rfl⟩:∃n:Nat,h=n:=⟨h.toNat,X⟩;obtain ⟨k,rfl⟩:∃k:Nat,i=k:=⟨i.toNat,X⟩;rw[l8]at d |-;exact Pv s m n k H c b X X
theorem jw{s m}{h i}(a:(OT s h i m).2=0):FSeal (OT s h i m).1/\(OT s h i m).1=⟨i,jv s i.toNat m,xN h.toNat (xS s h.toNat) i.toNat⟩/\(0<=h/\h<=8)/\0<=i/\i<2 ^ h.toNat:=by
 rw[OT]at a |-
 split at a
 ·cases a
 next c =>
 rw[a8 c];have c:JJ h i=false:=F_
 simp only[JJ,q9,p_]at c;have d:i<2 ^ h.toNat:=by
  simp_all
 have b:i.toNat<2 ^ h.toNat:=X
 have h8:2 ^ h.toNat<=256:=FX X;exact⟨⟨F_,G_,by rw[Ep];omega,by rw[VJ];omega,Er _ _ _,VK _ _ _ (WB _ _) b (WC _ _)⟩,Z,⟨X,X⟩,X,d⟩
def zR:j7:=⟨0,0,0,0,a6,[],[],a6,false,0,a6,zS,⟨a6,a6,[],[],zS⟩⟩
def NR(r:j7):j7:={r with sl:=zS,priv:={r.priv with sl:=zS}}
def G7(r:j7):j7×Int:=if(mG r).2≠0 then(zR,(mG r).2)else(r,0)
def mk1(r:j7)(a:m9):j7:={r with sl:=a,priv:={r.priv with sl:=zS}}
def Ir(r:j7)(a b:m9):j7:={r with sl:=a,priv:={r.priv with sl:=b}}
def NS(r:j7)(s:B_)(h:Int):j7×Int :=if gV (NR r)=false then(zR,1)
 else if(OT s h (2*r.number - 2) (G9 (NR r))).2≠0 then(zR,(OT s h (2*r.number - 2) (G9 (NR r))).2)
 else if uC r.priv=true then G7 (mk1 r (OT s h (2*r.number - 2) (G9 (NR r))).1)
 else if(OT s h (2*r.number - 1) (YW (NR r))).2≠0 then(zR,(OT s h (2*r.number - 1) (YW (NR r))).2)
 else G7 (Ir r (OT s h (2*r.number - 2) (G9 (NR r))).1 (OT s h (2*r.number - 1) (YW (NR r))).1)
theorem YP{s}(h:FSeal s):xQ s:=by have i0:=h.i0;have i1:=h.i1;have l1:=h.sl;have l2:=h.pl;exact⟨⟨X,X⟩,⟨X,fun t a=>by have:=CW (h.sa t a);omega⟩,⟨X,fun t a=>by have:=CW (h.pa t a);omega⟩⟩
theorem Zv:xQ zS:=YP (kU E_)
theorem If{r}{a b}(h:mI r)(g:xQ a)(l:xQ b):mI (Ir r a b):=by obtain ⟨k,j,d,i,_,m,f,e,c,_⟩:=h;exact⟨k,j,d,i,g,m,f,e,c,l⟩
theorem aAH(r:j7)(s:B_)(h:Int)(u_:mI r)(F:r.parents.length<549755813888)(z_:s.size<2^40)(H:aF):RC 71 [av (dR r),sv s,iv h] (.tup [av (dR (NS r s h).1),iv (NS r s h).2]) H:=by
 refine aS.pure ?_ (by simp_all) H;have g:mI (NR r):=If u_ Zv Zv;have hv:=fun H=>XN (NR r) g F H;have hid:=fun H=>uj (NR r) g F H;have j:=fun H=>Ul (mk1 r zS).priv g.2.2.2.2.2 H;rw[NS];refine Bd func71 Z ntmps71<|C (kb 3)<|Y (kl 6 Z2)<|O U<|C (oO Vf)<|Y (oO Vf)<|Y (bD zL)<|Uu (by exact qL Z sizeOf48 Z Z Z Z Z Z Z (r9 Z) Z Z)<|Y (bD iC)<|Y (bD E4)<|Uu (by exact qL Z sizeOf48 Z Z Z Z Z Z Z (r9 Z) Z Z)<|Zz<|S<|C (vC cF aY)<|Y (kc aE0 (hv _))<|O iT<|Cn ?_ ?_<;>intro q
 ·have I:=not_not q;rw[b6 I];refine C (oO S3)<|Uu (iU aY)<|O U<|aC<|hU (H':=[]) (.inr Z) Z (eV Z cF aY Z Z Z (by simp only[Zl,S_];rfl) Z) (aJ Z) (Fin.wk (by simp[dR]) T_ T_) ?_;exact Qq
 have I:=qN q;rw[a8 (by simp_all)];have hf:=sF I;have L:=hf.nu;have e_:(NR r).number=r.number:=rfl;rw[e_]at L;have n:=fun H=>yw (NR r) g F I H;have R:(YW (NR r)).size=16:=rD _;have N:=ui (NR r);obtain ⟨d_,K⟩:∃d_,d_=G9 (NR r):=X_;obtain ⟨t,c_⟩:∃t,t=YW (NR r):=X_;rw[<-K]at hid N |-;rw[<-c_]at n R |-;have z:=fun H=>U3 s d_ h (2*r.number - 2) H z_ (by omega);have D:=fun H=>U3 s t h (2*r.number - 1) H z_ (by omega);have f:=jw (s:=s) (m:=d_) (h:=h) (i:=2*r.number - 2);have w:=jw (s:=s) (m:=t) (h:=h) (i:=2*r.number - 1);obtain ⟨A,v_⟩:∃A,A=OT s h (2*r.number - 2) d_:=X_;obtain ⟨B,y_⟩:∃B,B=OT s h (2*r.number - 1) t:=X_;rw[<-v_]at z f |-;rw[<-y_]at D w |-;clear v_ y_;refine aA<|S<|aN a7<|Cq (vC cF aY)<|Cq (kc Ns (hid _))<|Cq (vC cF aY)<|Cq (kc call118 (n _))<|Cq U<|Cq U<|bJ<|Kr<|Sz U<|S<|C V<|Y V<|Y (bD AH)<|Y (bS M_)<|Y (by exact qM Z Z Z (qD (by omega) (by omega)))<|Y (by exact dP Z Z Z (qD (by omega) (by omega)))<|Y V<|Y (kc call119 (z _))<|Y V<|Y dH<|Y dH<|Y (bD zL)<|Uu (by exact qL Z sizeOf48 Z Z Z Z Z Z Z (r9 Z) Z Z)<|O U<|C V<|O AY<|Cn ?_ ?_<;>intro y
 ·have d:A.2≠0:=by have:=y;intro e;simp_all
  rw[b6 d];refine C (oO S3)<|Y V<|Uu (iU aY)<|O U<|aC<|hU (H':=[]) (.inr Z) Z (eV Z cF aY Z Z Z (by simp only[Zl,S_];rfl) Z) (aJ Z) (Fin.wk (by simp[dR]) T_ T_) ?_;exact Qq
 have c:A.2=0:=by have:=y;by_cases e:A.2=0;exact e;rw[decide_eq_false e]at this;cases this
 rw[a8 (by omega)];have f:=(f c).1;obtain ⟨A_,Q⟩:∃A_,A_=(if uC r.priv=true then G7 (mk1 r A.1)else if B.2≠0 then(zR,B.2)else G7 (Ir r A.1 B.1)):=X_;rw[<-Q];have v:uC r.priv=true->A_=G7 (Ir r A.1 zS):=fun e=>by rw[Q,b6 e];rfl
 have i:uC r.priv=false->B.2≠0->A_=(zR,B.2):=fun e e2=>by simp_all
 have u:uC r.priv=false->B.2=0->A_=G7 (Ir r A.1 B.1):=fun e e2=>by simp_all
 have P:uC (mk1 r zS).priv=uC r.priv:=rfl;rw[P]at j;clear Q;obtain ⟨W,l⟩:∃W,W=uC r.priv:=X_;rw[<-l]at j v i u;refine aA<|eN (fun(b:m9)=>([(3,.ref 3 0 0 0),(6,.ref 6 0 0 0)],[(6,bx 21 53 ((dR zR).map .pv)),(3,bx 21 53 ((dR (Ir r A.1 b)).map .pv))])) (fun b=>xQ b/\A_=G7 (Ir r A.1 b)) ?_ ?_
 ·refine C (bD iC)<|Y (vC Bb sizeOf51)<|Y (kc call120 (j _))<|O iT<|Cn ?_ ?_<;>intro p
  ·have G:=not_not p;refine C V<|Y V<|Y (bD AH)<|Y (bS M_)<|Y (by exact qM Z Z Z (qD (by omega) (by omega)))<|Y (by exact dP Z Z Z (qD (by omega) (by omega)))<|Y V<|Y (kc call119 (D _))<|Y V<|Y dH<|Y dH<|Y (bD iC)<|Y (bD E4)<|Uu (by exact qL Z sizeOf48 Z Z Z Z Z Z Z (r9 Z) Z Z)<|O U<|C V<|O AY<|Cn ?_ ?_<;>intro E
   ·have d:B.2≠0:=by have:=E;intro e;rw[e]at this;exact absurd this (by decide)
    rw[i G d];refine C (oO S3)<|Y V<|Uu (iU aY)<|O U<|aC<|hU (H':=[]) (.inr Z) Z (eV Z cF aY Z Z Z (by simp only[Zl,S_];rfl) Z) (aJ Z) (Fin.wk (by simp[dR]) T_ T_) ?_;exact Qq
   have c:B.2=0:=by have:=E;by_cases e:B.2=0;exact e;rw[decide_eq_false e]at this;cases this
   refine aA ?_;exact⟨B.1,⟨YP (w c).1,u G c⟩,Wk⟩
  have G:=qN p;refine aA ?_;exact⟨zS,⟨Zv,v G⟩,Wk⟩
 rintro b ⟨o_,i⟩;rw[i,G7];have k:=fun H=>XQ (Ir r A.1 b) (If u_ (YP f) o_) F H;obtain ⟨T,hT⟩:∃T,T=mG (Ir r A.1 b):=X_;rw[<-hT]at k |-;refine S<|C (vC cF aY)<|Y (kc aEq (k _))<|Y V<|Y dH<|Y dH<|Y U<|O U<|C V<|O AY<|Cn ?_ ?_<;>intro o
 ·have d:T.2≠0:=by have:=o;intro e;rw[e]at this;exact absurd this (by decide)
  rw[b6 d];refine C (oO S3)<|Y V<|Uu (iU aY)<|O U<|aC<|hU (H':=[]) (.inr Z) Z (eV Z cF aY Z Z Z (by simp only[Zl,S_];rfl) Z) (aJ Z) (Fin.wk (by simp[dR]) T_ T_) ?_;exact Qq
 have c:T.2=0:=by have:=o;by_cases e:T.2=0;exact e;rw[decide_eq_false e]at this;cases this
 rw[a8 (by rw[c];decide)];refine aA<|C (vC cF aY)<|Uu (iU aY)<|O U<|aC<|hU (H':=[]) (.inr Z) Z (eV Z cF aY Z Z Z (by simp only[Zl,S_];rfl) Z) (aJ Z) (Fin.wk (by simp[dR]) T_ T_) ?_;exact Qq
abbrev Bw(e:Int):Ob:=bx 1 25 [iv e]
abbrev Bt(x:j7):Ob:=bx 21 53 ((dR x).map .pv)
abbrev lk(x:j7)(e:Int):aF:=[(3,Bw e),(2,Bt x)]
abbrev eAJ:Ob:=bx 1 25 [.any]
abbrev rAJ:Ob:=bx 21 53 [.any,.any,.any,.any,.any,.any,.any,.any,.any,.any,.any,.any,.any,.any,.any,.any,.any,.any,.any,.any,.any]
abbrev pAJ:aF:=[(3,eAJ),(2,rAJ)]
abbrev dcJ:List AV:=[.ref 2 0 0 0,.ref 3 0 0 0]
theorem Yw(x)(e):ZU Tryz.prog 97 dcJ (lk x e) .returning (fun H2=>H2=lk x e):=by
 refine K7 (x:=MJ) func97 Z ntmps97 (r9 Z) Z Z Z Z Z Z (fun w I=>.sat Z Z) (.inl ⟨Z,Z⟩)<|S8<|K3<|sA<|N4 Z Z Z (lz Z LD Z)<|GD<|NA Z (fun b=>?_) (fun b=>?_)
 ·refine sA<|N4 Z Z Z (xP Z Z)<|GD ?_;exact⟨.inl Z,lk x e,Fin.wk H_ (Hb<|Hb<|T_) ⟨Z,Z,T_⟩,Z⟩
 cases b
theorem Yx:ZU Tryz.prog 97 dcJ pAJ (.panicking H7) (fun H2=>H2=lk zR 5):=by
 refine K7 (x:=.ifa 124 []) func97 Z ntmps97 (r9 Z) Z Z Z Z Z Z (fun w I=>.ifa _ _ _ Z H_) (.inr ⟨_,Z,Z⟩)<|S8<|K3<|sA<|N4 Z Z Z (ma Z LD Z)<|GD<|NA Z (fun c=>?_) (fun c=>?_)
 ·cases c
 refine K3<|sA<|N4 Z Z Z (RN Z (dS yO Z) Z)<|N4 Z Z Z (uZ Z Z Z)<|N4 Z Z Z (uZ Z Z Z)<|GD<|NA Z (fun b=>?_) (fun b=>?_)
 ·refine K3<|sA<|N4 Z Z Z (mc Z As)<|Ml Z Z (lu Z Z Z sizeOf124)<|GD<|sA<|N4 Z Z Z (OK Z S3 Z Z)<|Ml Z Z (lQ Z aY Z Z Z Z Z Z Z Z)<|Ml Z Z (lQ Z sizeOf25 Z Z Z Z Z Z Z Z)<|GD ?_;exact⟨.inl Z,lk zR 5,Fin.wk H_ (Hb<|Hb<|T_) ⟨Z,Z,T_⟩,Z⟩
 cases b
theorem aAO(s:B_)(A_:s.size<2^40)(g:(fA s).2.1=0):aS Tryz.prog 203 [sv s] [] (fun r H'=>r=.tup [.osl 905 (fA s).1.length 0 (fA s).1.length,iv 0,iv (fA s).2.2]/\H'=[(905,⟨(fA s).1.length,3,189,lJ (fA s).1⟩)]):=by
 refine Bd func203 Z ntmps203<|C (kl 2 Vt)<|Y (kl 3 Xh)<|O (kl 4 Xg)<|S<|C V<|Y (gM U_)<|O iY<|Cn ?_ ?_<;>intro v
 ·have e:fA s=([],2,-1):=by rw[fA,b6 (by have:=b9 v;omega)]
  rw[e]at g;exact absurd g (by decide)
 have P:¬ 20000<s.size:=by have:=b_ v;omega
 obtain ⟨b,i⟩:∃b,b=jV s (s.size+1) 0:=X_;have v_:fA s=kD [] b:=by rw[fA,a8 P,i]
 refine aA<|Sz (kl 5 Cb)<|S<|C V<|O (kc call254 (ak s _ Z Z Z (dD.ofL ⟨(by simp_all),(by simp_all),(by simp_all),(by simp_all),T_⟩)))<|aD ?_;refine fZ.ent (E':=[(2,.ref 2 0 0 0),(3,.ref 3 0 0 0),(4,.ref 4 0 0 0),(5,.ref 5 0 0 0),(11,.clo 290 [.ref 921 0 0 0,.ref 924 0 0 0])]) (H':=[(905,⟨0,3,189,[]⟩),(5,bx 1 185 [.osl 905 0 0 0]),(924,tA),(923,tC),(921,tS s),(4,bx 1 3 [iv 0]),(3,bx 1 25 [iv 0]),(2,bx 1 185 [.pv (.sl [])])]) ?_ ?_
 ·exact(cJ.nz 905 3 189 Z Z ⟨⟨_,Z,(by exact Nz.same (by(simp;rfl)))⟩,⟨_,Z,(by exact Nz.same (by(simp;rfl)))⟩,⟨_,Z,(by exact Nz.same (by(simp;rfl)))⟩,⟨_,Z,(by exact Nz.same (by(simp;rfl)))⟩,⟨_,Z,(by exact Nz.same (by(simp;exact⟨Z,Z⟩)))⟩,T_⟩ ⟨⟨_,Z,Z,Z,Z,(by exact .inr ⟨_,_,rfl,rfl,(by repeat(first|exact trivial|refine⟨(by exact Nz.own),?_⟩))⟩)⟩,⟨_,Z,Z,Z,Z,(by exact .inl ⟨Z,(by exact sJ Z Z)⟩)⟩,⟨_,Z,Z,Z,Z,(by exact .inl ⟨Z,(by exact jX _)⟩)⟩,⟨_,Z,Z,Z,Z,(by exact .inl ⟨Z,(by exact sI _ _)⟩)⟩,⟨_,Z,Z,Z,Z,(by exact .inl ⟨Z,(by(simp;done))⟩)⟩,⟨_,Z,Z,Z,Z,(by exact .inl ⟨Z,(by(simp;done))⟩)⟩,⟨_,Z,Z,Z,Z,(by exact .inl ⟨Z,(by(simp;done))⟩)⟩,T_⟩ T_)
 have hdl:b.length<=s.size+1:=by rw[i];exact A4 s _ _
 obtain ⟨j,W⟩:∃j,j=yS (sR b) b.length 0:=X_;have G:j<=b.length:=by have:=(FT (sR b) b.length 0).2;omega
 have u:∀k,k<j->sR b k=true:=fun k K=>JK (sR b) b.length 0 k (l6 _) (by rw[<-W];exact K);have L:j<b.length->sR b j=false:=fun h=>by have:=xA (sR b) b.length 0 (by omega);rwa [<-W]at this
 have m:=MN G u;refine BW (id:=904) (p:=12) vD Z call290 Z Z (by simp[vD];exact⟨Z,Z,Z,Z⟩) ?_;intro x E A u_ e_ T R;have o:∀(k:Nat) (d:a_),b[k]?=some d->k<=j ->
   dF Tryz.prog (.yld 904 0) [.agg ((KV d).map .pv)] ((904,LR x vD)::(926,tF d)::kL s (b.take k) (.pv (.sl [])) 0 0) (fun r H'=>r=bv (sR b k)/\H'=(if sR b k then(904,LR x vD)::(926,tF d)::kL s (b.take (k+1)) (.pv (.sl [])) 0 0 else(904,LR (left x .ret) vD)::(926,tF d)::kL s (b.take k) (.pv (.sl [])) (if d.err≠0 then d.err else 2) d.pos)):=by
  intro k d y hkj;have g:=J8 y;have hkl:k<b.length:=(m_.1 y).1;have htl:(b.take k).length=k:=by rw[q8];omega
  have I:b.take (k+1)=b.take k++[d]:=by rw[List.take_add_one,y];rfl
  refine .inl ⟨904,0,Z,?_⟩;refine LJ [(2,.ref 2 0 0 0),(3,.ref 3 0 0 0),(4,.ref 4 0 0 0),(5,.ref 5 0 0 0),(6,.ref 907 0 0 0)] ((907,tF d)::(926,tF d)::kL s (b.take k) (.pv (.sl [])) 0 0) E A u_ e_ T R Z Z Z ?_ ?_
  ·refine Rd (kl 907 Ce)<|Uu (iU IX)<|Zz ?_;exact(cJ.wk (Ea<|Ea<|Ea<|Ea<|Ea<|T_) (Hc (nW (by simp[vD];exact⟨Z,Z,Z,Z⟩))<|Hc (zU _ _)<|Hc (zU _ _)<|Hc (cS _ _)<|Ha<|Hc (sJ Z Z)<|Hc (jX _)<|Hc (sI _ _)<|Hb<|Hb<|Hb<|T_) ⟨Z,Z,Z,Z,Z,Z,Z,Z,Z,Z,T_⟩)
  refine aD<|S<|aD<|C (bD sY)<|Y (bS mY)<|Y AY<|Da<|Cn ?_ ?_<;>intro F
  ·have q:d.err≠0:=by have h:=F;rw[r8,p_]at h;exact h
   have w:sR b k=false:=by rw[g,decide_eq_false q];rfl
   rw[w,a8 (by decide),b6 q];refine S<|aN a7<|Cr [907] (fun _ h=>fh sY h)<|Cr [907] (fun _ h=>lh mY h)<|Cr [907] (fun _ h=>fh oL h)<|Cr [907] (fun _ h=>fh PF h)<|Cr [907] (fun _ h=>lh M_ h)<|Cp [2] (fun _ h=>sa nV h)<|Cp [3] (fun _ h=>sa sizeOf25 h)<|Cp [4] (fun _ h=>sa sizeOf3 h)<|bJ<|Kr<|aC ?_;exact⟨(926,tF d)::kL s (b.take k) (.pv (.sl [])) d.err d.pos,(cJ.wk T_ (Hc (nW (by simp[vD];exact⟨Z,Z,Z,Z⟩))<|Hc (zU _ _)<|Hc (cS _ _)<|Ha<|Hc (sJ Z Z)<|Hc (jX _)<|Hc (sI _ _)<|Hb<|Hb<|Hb<|T_) ⟨Z,Z,Z,Z,Z,Z,Z,Z,Z,Z,T_⟩),Z,Z⟩
  have q:d.err=0:=by have h:=F;rw[Bool.not_eq_false',k_]at h;exact h
  refine C (bS nE)<|Y (by exact dT Z cP Z Z Z)<|Y cD<|Da<|Cn ?_ ?_<;>intro D
  ·have t:k=5000:=by have:=b9 D;omega
   have w:sR b k=false:=by rw[g,decide_eq_true q,decide_eq_true t];rfl
   rw[w,a8 (by decide),a8 (fun h=>h q)];refine S<|aN a7<|Cr [907] (fun _ h=>fh oL h)<|Cr [907] (fun _ h=>fh PF h)<|Cr [907] (fun _ h=>lh M_ h)<|Cp [2] (fun _ h=>sa nV h)<|Cp [3] (fun _ h=>sa sizeOf25 h)<|Cp [4] (fun _ h=>sa sizeOf3 h)<|bJ<|Kr<|aC ?_;exact⟨(926,tF d)::kL s (b.take k) (.pv (.sl [])) 2 d.pos,(cJ.wk T_ (Hc (nW (by simp[vD];exact⟨Z,Z,Z,Z⟩))<|Hc (zU _ _)<|Hc (cS _ _)<|Ha<|Hc (sJ Z Z)<|Hc (jX _)<|Hc (sI _ _)<|Hb<|Hb<|Hb<|T_) ⟨Z,Z,Z,Z,Z,Z,Z,Z,Z,Z,T_⟩),Z,Z⟩
  have t:¬ k=5000:=by have:=b_ D;omega
  have w:sR b k=true:=by rw[g,decide_eq_true q,decide_eq_false t];rfl
  rw[w,b6 Z,I,Jh];refine aA<|Rd (bS nE)<|Y (bD oL)<|Y (vC iR sizeOf189)<|Y (by exact aL [K_ d] Z gY Z Z Z Z Z R_)<|Y (by exact cA (ps:=[K_ d]) Z gY uz Z Z Z Z Z (xH _) Z R_ (m:=1) Z (by omega) Z (B7 (b.take k) d))<|Uu (iU nV)<|Zz ?_;exact⟨(926,tF d)::[(905,⟨(b.take k).length+1,3,189,lJ (b.take k++[d])⟩),(5,bx 1 185 [.osl 905 ((b.take k).length+1) 0 ((b.take k).length+1)]),(924,tA),(923,tC),(921,tS s),(4,bx 1 3 [iv 0]),(3,bx 1 25 [iv 0]),(2,bx 1 185 [.pv (.sl [])])],(cJ.wk T_ (Hc (nW (by simp[vD];exact⟨Z,Z,Z,Z⟩))<|Hc (zU _ _)<|Hc (cS _ _)<|Ha<|Hc (sJ Z Z)<|Hc (jX _)<|Hc (sI _ _)<|Hb<|Hb<|Hb<|T_) ⟨Z,Z,Z,Z,Z,Z,Z,Z,Z,Z,T_⟩),Z,Z⟩
 rcases Nat.lt_or_ge j b.length with n|o_
 ·obtain ⟨f,Q⟩:=aU n;have B:=L n;have f_:b.drop j=f::b.drop (j+1):=by
   rw[List.drop_eq_getElem_cons n];rw[m8 n]at Q;cases Q;rfl
  have d_:fA s=([],(if f.err≠0 then f.err else 2),(f.pos:Int)):=by
   rw[v_,m,f_,kD]
   split
   ·rfl
   rename_i q;have c_:f.err=0:=by
    by_cases h:f.err=0
    ·exact h
    exact absurd h q
   rw[J8 Q,decide_eq_true c_,Bool.true_and,Bool.not_eq_false',k_]at B;rw[b6 (by rw[q8];omega)]
  rw[d_]at g;have g:(if f.err≠0 then f.err else 2)=0:=g
  split at g
  ·next h=>exact absurd g h
  exact absurd g (by decide)
 have N:j=b.length:=Nat.le_antisymm G o_;rw[N,List.take_length,List.drop_length]at m;rw[v_,m,kD];refine(LN s (.yld 904 0) (fun k=>(904,LR x vD)::kL s (b.take k) (.pv (.sl [])) 0 0) (sR b) b.length A_ (fun k=>rfl) (fun k=>rfl) (fun k=>rfl) (fun k=>rfl) (fun k=>(dD.ofL ⟨(by exact nW (by simp[vD];exact⟨Z,Z,Z,Z⟩)),(by exact cS _ _),(by(simp;rfl)),(by exact sJ Z Z),(by exact jX _),(by exact sI _ _),(by(simp;done)),(by(simp;done)),(by(simp;done)),T_⟩)) (fun k=>by simp;rfl) (by rw[<-i];exact j6 _) (fun k K=>u k (by omega)) (.inl (by rw[<-i])) ?_).mono ?_
 ·rw[<-i];intro k d y K;have p:=o k d y (by omega);have g:=u k (by omega);rw[g,b6 rfl]at p;rw[g];exact dF.congrG p (fun j=>mT (by decide) j) (fun j=>mT (by decide) j)
 rintro r H' ⟨rfl,rfl⟩;rw[List.take_length];refine⟨x,_,Z,by rw[E];decide,Z,fun z=>?_⟩;rw[A];refine C (bS nE)<|Uu (iU nV)<|Uu (iU sizeOf25)<|Uu (iU sizeOf3)<|Zz<|aC<|lX (H':=[(905,⟨b.length,3,189,lJ b⟩)]) (.inr Z) Z (iI Z nE Z Z Z Z) (iI Z mY Z Z Z Z) (iI Z M_ Z Z Z Z) (Fin.wk (by(simp;rfl)) (Hc (cS _ _)<|T_) T_) ?_;exact Qq
theorem aAN(s)(H)(c:s.size<2^40)(b:(fA s).2.1=0)(hH:H.get 905=none):aS Tryz.prog 203 [sv s] H (fun r H'=>r=.tup [.osl 905 (fA s).1.length 0 (fA s).1.length,iv 0,iv (fA s).2.2]/\H'=(905,⟨(fA s).1.length,3,189,lJ (fA s).1⟩)::H) :=aS.frame (aAO s c b) (fun _ _ h=>by cases h) (fun _ _ h=>by cases h) H_ (fun id h=>.inr (by
  by_cases e:id=905
  ·simp_all
  rw[get_cons_other _ _ e]at h;cases h))
theorem JL(f:α->List _)(l:List _):l.map (fun e=>(f e).map AV.pv)=(l.map f).map (·.map .pv):=H_
theorem lO(f:α->List PV)(l:List _):((l.map f).take (0+l.length)).drop 0=l.map f:=List.take_of_length_le H_
theorem ze(f)(H):RC 285 [av (K_ f)] (bv (kE f)) H:=by
 refine Pu<|Bd func285 Z ntmps285<|C (uO (id:=1) Z Z Z Z Z)<|O U<|S<|aR (t:=2) (n:=10) (A_:=kE f) ?_ ?_
 ·all_goals refine Y (bD iD)<|Y (bS N_)<|Y wF<|Dm ?_<;>(refine Sp 6 (fun b=>?_) fun b=>?_)<;>(first|refine M<|M<|M ?_|refine J (bD uR)<|J (bS M_)<|J cD ?_)<;>refine Y cE<|Da ?_<;>exact Gj (h:=by(simp only[kE, *];rfl))
 exact aC<|Rt<|Qq
theorem MS(l)(H:aF)(hl:l.length<2^62):
  RC 284 [.pv (CD l),.pv (.fn 285)] (iv (AE kE l)) H:=by
 refine Pu ?_;have hml:(l.map K_).length=l.length:=h_ _;refine Bd func284 Z ntmps284<|Sz U<|S<|C V<|Y (fV cP)<|O V<|aD<|bC (σ:=Nat) (fun k=>([(0,.pv (CD l)),(1,.pv (.fn 285)),(7,iv ((l.map K_).length:Int)),(8,iv (k:Int))],[])) (fun k=>k<=l.length/\∀j,j<k->∀b,l[j]?=some b->kE b=false) (fun k=>l.length - k) 0 ⟨X,X⟩ ?_ ?_
 ·exact E0
 rintro k ⟨hk,d⟩;refine Sz cM<|S<|Cn ?_ ?_<;>intro f
 ·have i:k<l.length:=I_ f
  obtain ⟨o,h⟩:=aU i;have hi:=cC (f:=K_) h;refine aA<|S<|aD<|C V<|O U<|C V<|Y V<|Y V<|Y (iM gY)<|Y (by exact eU Z iR sizeOf189 Z (by omega) (Z) Z)<|O (by exact cZ Z Z Z (dF.fn call285 (ze o _)))<|Cn ?_ ?_<;>intro e
  ·refine C V<|O U<|aC<|Rt ?_;exact⟨by rw[AE,WS d h e],Z⟩
  refine aA<|Rd gT<|O V ?_;exact⟨k+1,⟨X,RK d h e⟩,X,E0⟩
 have g:k=l.length:=J_ f
 subst g;refine aP<|Sz U<|aC<|Rt ?_;exact⟨by rw[AE,WT d],Z⟩
def JX(T:List a_)(k:Nat):List a_:=T++List.replicate k KC
theorem JW(T)(k):(JX T k).length=T.length+k:=by rw[JX,j9,List.length_replicate]
theorem Hl(T)(k):lJ (JX T k)++[(K_ KC).map AV.pv]=lJ (JX T (k+1)):=by rw[B7,JX,JX,List.replicate_succ',List.append_assoc]
def kF(s:B_):Nat->Int
 |0=>0
 |j+1=>if eD ((j+1:Nat):Int)=s then((j+1:Nat):Int)else kF s j
theorem ua(s):kF s 5=DM s:=by simp only[kF,DM,eq_comm];rfl
theorem P3:∀l,rK l=fC l (l.length / 3)
 | []=>rfl
 | [a]=>by simp[rK,fC]
 | [a,b]=>by simp[rK,fC]
 |a::b::c::r=>by
  rw[rK,P3 r];have d:(a::b::c::r).length=r.length+3:=rfl;rw[d,Nat.add_div_right _ H_,fC,fC,List.range_succ_eq_map,List.map_cons,List.map_map];rfl
theorem Mg(s):atV s=(pV s).1:=by rw[atV,pV];all_goals grind
abbrev oR(id:B_)(k x y:Int)(n m:Nat):Ob:=bx 6 135 [sv id,iv k,iv x,iv y,.osl 906 n 0 n,.osl 907 m 0 m]
def ZX(L:List a_):Ob:=⟨L.length,3,189,lJ L⟩
def rH(L:List a_)(id:B_)(k x y:Int)(R:List B_)(G:List l_):aF:=[(907,⟨G.length,2,270,sH G⟩),(906,⟨R.length,1,9,bZ R⟩),(3,oR id k x y R.length G.length),(905,ZX L),(2,bx 6 135 ((bM g_).map .pv))]
abbrev rE(L:List a_):cY:=[(0,.osl 905 L.length 0 L.length),(2,.ref 2 0 0 0),(3,.ref 3 0 0 0)]
theorem aDe(L)(id)(k x y)(R)(s)(G):rH L id k x y (R++[s]) G=[(907,⟨G.length,2,270,sH G⟩),(906,⟨R.length+1,1,9,bZ (R++[s])⟩),(3,oR id k x y (R.length+1) G.length),(905,ZX L),(2,bx 6 135 ((bM g_).map .pv))]:=by simp[rH]
theorem aBo(L)(id)(k x y)(R)(t)(G):rH L id k x y R (G++[t])=[(907,⟨G.length+1,2,270,sH (G++[t])⟩),(906,⟨R.length,1,9,bZ R⟩),(3,oR id k x y R.length (G.length+1)),(905,ZX L),(2,bx 6 135 ((bM g_).map .pv))]:=by simp[rH]
theorem B6{L}{f}(h:L[i]?=some f):(lJ L)[i]?=some [iv f.kind,sv f.text,iv (f.pos)]:=by rw[lJ,r6,h];rfl
theorem Ym(T:List a_)(hl:T.length<549755813888)(F:∀f∈vR T,f.text.size<2^40):aS Tryz.prog 252 [.osl 905 T.length 0 T.length] [(905,ZX T)] (fun r H'=>r=av (bM (sV T))/\H'=[(905,ZX (vR T))]):=by
 refine Bd func252 Z ntmps252<|Sz (kl 2 UN)<|S<|aD<|bC (σ:=Nat) (fun k=>([(0,.osl 905 (JX T k).length 0 (JX T k).length),(2,.ref 2 0 0 0)],[(905,ZX (JX T k)),(2,bx 6 135 ((bM g_).map .pv))])) (fun k=>k<=4 - T.length) (fun k=>4 - T.length - k) 0 (l6 _) ?_ ?_
 ·rw[show JX T 0=T by simp[JX]];exact(cJ.wk (Ea<|Ea<|T_) (Hc (cS _ _)<|Hb<|T_) ⟨Z,T_⟩)
 rintro k hk;have K:=JW T k;unfold ZX;refine S<|C V<|Y (by exact dT Z cP Z Z Z)<|O cM<|Cn ?_ ?_<;>intro y_
 ·have z_:T.length+k<4:=by have:=b9 y_;rw[K]at this;omega
  refine aA<|aD<|Rd V<|Y (oO HF)<|Y (by exact aL [K_ KC] Z gY Z Z Z Z Z R_)<|Y (by exact cA (ps:=[K_ KC]) Z gY uz Z Z Z Z Z (xH _) Z R_ (m:=1) Z (by omega) Z (Hl T k))<|Da ?_;refine⟨k+1,by omega,by omega,?_⟩;rw[show (JX T (k+1)).length=(JX T k).length+1 by rw[JW,JW];omega];exact(cJ.wk (Ea<|Ea<|T_) (Hc (cS _ _)<|Hb<|T_) ⟨Z,T_⟩)
 have W:4<=T.length+k:=by have:=b_ y_;rw[K]at this;omega
 obtain rfl:k=4 - T.length:=by omega
 obtain ⟨L,hL⟩:∃L,L=JX T (4 - T.length):=X_;have G:vR T=L:=by rw[hL];rfl
 have hLl:4<=L.length/\L.length<549755813893:=by rw[hL,JW];omega
 rw[G]at F;rw[G,<-hL];clear K;obtain ⟨I,v_⟩:=aU (show 0<L.length by omega);obtain ⟨t1,ht1⟩:=aU (show 1<L.length by omega);obtain ⟨P,c_⟩:=aU (show 2<L.length by omega);obtain ⟨Q,o_⟩:=aU (show 3<L.length by omega);have w:=B6 v_;have hr1:=B6 ht1;have s:=B6 c_;have hr3:=B6 o_;have hd:∀ {i:Nat} {f:a_},L[i]?=some f->L.getD i KC=f:=fun {i f} h=>by rw[List.getD_eq_getElem?_getD,h];rfl
 have hR:=sV.eq_1 T;rw[G,hd v_,hd ht1,hd c_,hd o_]at hR;refine aP<|C V<|Y (by exact dI Z gY Z Z Z Z Z (by omega) (by exact l8 _) (show 1<L.length by omega) Z)<|Y (bD iD)<|Y (by exact aX Z N_ Z Z Z hr1 Z)<|Y (oO Lk)<|Y (kl 3 Cc)<|Uu (iU sizeOf135)<|Zz<|S<|S ?_;refine fZ.ent (E':=rE L) (H':=[(906,⟨0,1,9,[]⟩),(3,bx 6 135 [sv t1.text,iv 0,iv 0,iv 0,.osl 906 0 0 0,.pv .nils]),(905,ZX L),(2,bx 6 135 ((bM g_).map .pv))]) (cJ.nz 906 1 9 Z Z ⟨⟨_,Z,(by exact Nz.same (by(simp;rfl)))⟩,⟨_,Z,(by exact Nz.same (by(simp;rfl)))⟩,⟨_,Z,(by exact Nz.same (by(simp;rfl)))⟩,T_⟩ ⟨⟨_,Z,Z,Z,Z,(by exact .inr ⟨_,_,rfl,rfl,(by repeat(first|exact trivial|refine⟨(by first|exact Nz.own|exact Nz.same (by(simp;done))),?_⟩))⟩)⟩,⟨_,Z,Z,Z,Z,(by exact .inl ⟨Z,(by exact cS _ _)⟩)⟩,⟨_,Z,Z,Z,Z,(by exact .inl ⟨Z,(by(simp;done))⟩)⟩,T_⟩ ⟨Z,T_⟩) ?_;refine fZ.ent (E':=rE L) (H':=rH L t1.text 0 0 0 [] []) (cJ.nz 907 2 270 Z Z ⟨⟨_,Z,(by exact Nz.same (by(simp;rfl)))⟩,⟨_,Z,(by exact Nz.same (by(simp;rfl)))⟩,⟨_,Z,(by exact Nz.same (by(simp;rfl)))⟩,T_⟩ ⟨⟨_,Z,Z,Z,Z,(by exact .inl ⟨Z,(by exact aV _ _)⟩)⟩,⟨_,Z,Z,Z,Z,(by exact .inr ⟨_,_,rfl,rfl,(by repeat(first|exact trivial|refine⟨(by first|exact Nz.own|exact Nz.same (by first|(simp;done)|(simp;rfl))),?_⟩))⟩)⟩,⟨_,Z,Z,Z,Z,(by exact .inl ⟨Z,(by exact cS _ _)⟩)⟩,⟨_,Z,Z,Z,Z,(by exact .inl ⟨Z,(by(simp;done))⟩)⟩,T_⟩ ⟨Z,T_⟩) ?_;refine Rg<|O U<|aD<|bC (σ:=Nat) (fun j=>(rE L++[(4,iv ((j+1:Nat):Int))],rH L t1.text (kF I.text j) 0 0 [] [])) (fun j=>j<=5) (fun j=>5 - j) 0 (l6 _) ?_ ?_
 ·exact(cJ.wk (Ea<|Ea<|Ea<|Eb<|T_) (Hc (kP _ _)<|Hc (aV _ _)<|Hc (by(simp;exact⟨Z,Z⟩))<|Hc (cS _ _)<|Hb<|T_) ⟨Z,T_⟩)
 rintro j hj;refine S<|C V<|O IA<|Cn ?_ ?_<;>intro A_
 ·have hj5:j<5:=by have:=b9 A_;omega
  refine aA<|S<|aD<|S<|aN a7<|Cq V<|Cq (kc AR (HH ((j+1:Nat):Int) _))<|Cq V<|Cq (by exact dI Z gY Z Z Z Z Z (by omega) (by exact l8 _) (show 0<L.length by omega) Z)<|Cq (bD iD)<|Cq (by exact aX Z N_ Z Z Z w Z)<|Cq wF<|bJ<|Kr<|Cn ?_ ?_<;>intro hc3
  ·have hw:eD ((j+1:Nat):Int)=I.text:=b9 hc3;refine Rd V<|Y (bD dZ)<|Uu (by exact cQ Z sizeOf3 Z Z Z Z Z Z (by simp only[j8,List.length_nil];omega) (by simp only[Zl,bP,bM,S_,gJ,K_];rfl) (by simp only[Zl,bP,bM,S_,gJ,K_];rfl))<|Zz<|Rd V<|Y gT<|Da ?_;refine⟨j+1,by omega,by omega,?_⟩;rw[show kF I.text (j+1)=((j+1:Nat):Int)by rw[kF,b6 hw]];exact(cJ.wk (Ea<|Ea<|Ea<|Eb<|T_) (Hc (kP _ _)<|Hc (aV _ _)<|Hc (by(simp;exact⟨Z,Z⟩))<|Hc (cS _ _)<|Hb<|T_) ⟨Z,T_⟩)
  have hw:eD ((j+1:Nat):Int)≠I.text:=b_ hc3;refine aA<|Rd V<|Y gT<|Da ?_;refine⟨j+1,by omega,by omega,?_⟩;rw[show kF I.text (j+1)=kF I.text j by rw[kF,a8 hw]];exact(cJ.wk (Ea<|Ea<|Ea<|Eb<|T_) (Hc (kP _ _)<|Hc (aV _ _)<|Hc (by(simp;exact⟨Z,Z⟩))<|Hc (cS _ _)<|Hb<|T_) ⟨Z,T_⟩)
 have hj5:j=5:=by have:=b_ A_;omega
 subst hj5;rw[ua];obtain ⟨A,hkd⟩:∃A,A=DM I.text:=X_;rw[<-hkd]at hR |-;have htk:(lJ L).length=L.length:=xH L;refine aP<|C V<|Y (by exact kJ (l:=4) (h:=L.length) Z gY Z Z Z Z Z Z (by omega) (by omega) Z Z)<|O U<|S<|C (bD dZ)<|Y (bS M_)<|O cD<|Cn ?_ ?_<;>intro R
 ·have z:A=1:=b9 R;have hR2:sV T=⟨t1.text,1,atV P.text,atV Q.text,[],rK (L.drop 4)⟩:=by rw[hR,b6 z]
  subst z;refine C V<|Y (by exact dI Z gY Z Z Z Z Z (by omega) (by exact l8 _) (show 2<L.length by omega) Z)<|Y (bD iD)<|Y (by exact aX Z N_ Z Z Z s Z)<|Y (kc vN (PH P.text (F _ (m7 c_)) _))<|Y V<|Y dH<|Y dH<|Y (bD mM)<|Y (bD mO)<|Uu (by exact cQ Z sizeOf3 Z Z Z Z Z Z (by simp only[j8,List.length_nil];omega) (by simp only[Zl,bP,bM,S_,gJ,K_];rfl) (by simp only[Zl,bP,bM,S_,gJ,K_];rfl))<|Zz<|Rd V<|Y (by exact dI Z gY Z Z Z Z Z (by omega) (by exact l8 _) (show 3<L.length by omega) Z)<|Y (bD iD)<|Y (by exact aX Z N_ Z Z Z hr3 Z)<|Y (kc vN (PH Q.text (F _ (m7 o_)) _)) ?_;refine Y V<|Y dH<|Y dH<|Y (bD mM)<|Y (bD mN)<|Uu (by exact cQ Z sizeOf3 Z Z Z Z Z Z (by simp only[j8,List.length_nil];omega) (by simp only[Zl,bP,bM,S_,gJ,K_];rfl) (by simp only[Zl,bP,bM,S_,gJ,K_];rfl))<|Zz<|S<|aD ?_;obtain ⟨D,E⟩:∃D,D=L.drop 4:=X_;have hDl:D.length=L.length - 4:=by rw[E,q6]
  refine bC (σ:=Nat) (fun j=>(rE L++[(5,.osl 905 L.length (4+3*j) (L.length - 4 - 3*j))],rH L t1.text 1 (pV P.text).1 (pV Q.text).1 ([]:List B_) (fC D j))) (fun j=>3*j<=D.length) (fun j=>D.length - 3*j) 0 (l6 _) ?_ ?_
  ·exact(cJ.wk (Ea<|Ea<|Ea<|Ea<|T_) (Hc (kP _ _)<|Hc (aV _ _)<|Hc (by(simp;exact⟨Z,Z⟩))<|Hc (cS _ _)<|Hb<|T_) ⟨Z,T_⟩)
  rintro j hj;have d_:=E5 D j;have hfl:=HB D j;refine S<|C V<|Y (by exact dT Z cP Z Z Z)<|O iY<|Cn ?_ ?_<;>intro hc5
  ·have z_:3*j+2<D.length:=by have:=b9 hc5;omega
   obtain ⟨y,u⟩:∃f,L[4+3*j]?=some f:=aU (by omega);obtain ⟨x,v⟩:∃f,L[4+3*j+2]?=some f:=aU (by omega);have w:=B6 u;have s:=B6 v;have B:U0 D j=⟨y.text,x.text⟩:=by
    rw[U0,E,List.getElem?_drop,List.getElem?_drop,u,show 4+(3*j+2)=4+3*j+2 from Z,v];rfl
   refine aA<|S<|aD<|aN a7<|Cs (fun _ h=>fh fU h)<|Cs (fun _ h=>lh dC h)<|Cs (fun _ _=>V)<|Cs (fun H1 hH=>by exact dI Z gY Z ((hH _ Z).trans Z) Z Z Z (by omega) (by exact l8 _) (show 0<L.length - 4 - 3*j by omega) Z)<|Cs (fun _ h=>fh iD h)<|Cs (fun H1 hH=>by exact aX Z N_ Z ((hH _ Z).trans Z) Z w Z)<|Cs (fun _ _=>V)<|Cs (fun H1 hH=>by exact dI Z gY Z ((hH _ Z).trans Z) Z Z Z (by omega) (by exact l8 _) (show 2<L.length - 4 - 3*j by omega) Z)<|Cs (fun _ h=>fh iD h)<|Cs (fun H1 hH=>by exact aX Z N_ Z ((hH _ Z).trans Z) Z s Z)<|Cs (fun _ _=>(oO Ll))<|Cs (fun H1 hH=>by exact aL [bP ⟨y.text,x.text⟩] Z lI Z Z Z Z Z R_) ?_;refine iF (r:=⟨_,none,[_]⟩) (DStep.plain Z (fun H1 hH=>by exact cA (ps:=[bP ⟨y.text,x.text⟩]) Z lI Kn Z ((hH _ Z).trans Z) Z Z Z (HK _) Z R_ (m:=1) Z (by omega) Z (HL (fC D j) ⟨y.text,x.text⟩))) Z ?_;refine Cs (fun _ h=>fh fU h)<|iF (r:=⟨_,none,[_]⟩) (DStep.plain Z (fun H1 hH=>by exact(by exact cQ Z sizeOf133 Z Z Z ((hH _ Z).trans Z) Z Z (by simp only[j8,List.length_nil];omega) (by simp only[Zl,bP,bM,S_,gJ,K_];rfl) (by simp only[Zl,bP,bM,S_,gJ,K_];rfl)))) Z ?_;refine bJ<|Kr<|Rd V<|Y (by exact kJ (l:=3) (h:=(L.length - 4 - 3*j)) Z gY Z Z Z Z Z Z (by omega) (by omega) Z Z)<|Da ?_;refine⟨j+1,by omega,by omega,?_⟩;dsimp only;rw[d_,B,aBo];exact(cJ.wk (Ea<|Ea<|Ea<|Ea<|T_) (Hc (kP _ _)<|Hc (aV _ _)<|Hc (by(simp;exact⟨Z,Z⟩))<|Hc (cS _ _)<|Hb<|T_) ⟨Z,T_⟩)
  have W:D.length<3*j+3:=by have:=b_ hc5;omega
  have N:D.length / 3=j:=by omega
  have hG:rK D=fC D j:=by rw[P3,N]
  refine aP<|S ?_;refine fZ.ent (cJ.fzG (id:=907) (E':=rE L) (H':=[(906,⟨(([]:List B_)).length,1,9,bZ (([]:List B_))⟩),(3,bx 6 135 [sv (t1.text),iv (1),iv ((pV P.text).1),iv ((pV Q.text).1),.osl 906 (([]:List B_)).length 0 (([]:List B_)).length,.pv (pX (fC D j))]),(905,ZX L),(2,bx 6 135 ((bM g_).map .pv))]) ((fC D j).map bP) Z (JL bP _) ?_ Z ?_ ?_) ?_
  ·intro p t;simp only[l7,n_,or_false]at t;rcases t with rfl|rfl|rfl<;>exact⟨_,Z,.same (by simp;rfl)⟩
  ·exact⟨⟨_,Z,Z,Z,Z,eG (aV _ _)⟩,⟨_,Z,Z,Z,Z,lW Z (bG (.same (by simp)) (bG (.same (by simp)) (bG (.same (by simp)) (bG (.same (by simp)) (bG (.same (by simp;rfl)) (bG (.osl (lO bP _)) kT))))))⟩,⟨_,Z,Z,Z,Z,eG (cS _ _)⟩,⟨_,Z,Z,Z,Z,eG (by simp)⟩,T_⟩
  ·exact⟨Z,T_⟩
  refine fZ.ent (cJ.fzG (id:=906) (E':=rE L) (H':=[(3,bx 6 135 [sv (t1.text),iv (1),iv ((pV P.text).1),iv ((pV Q.text).1),.pv (aK (([]:List B_))),.pv (pX (fC D j))]),(905,ZX L),(2,bx 6 135 ((bM g_).map .pv))]) ((([]:List B_)).map S_) Z (eC _) ?_ Z ?_ ?_) ?_
  ·intro p t;simp only[l7,n_,or_false]at t;rcases t with rfl|rfl|rfl<;>exact⟨_,Z,.same (by simp;rfl)⟩
  ·exact⟨⟨_,Z,Z,Z,Z,lW Z (bG (.same (by simp)) (bG (.same (by simp)) (bG (.same (by simp)) (bG (.same (by simp)) (bG (.osl (lO S_ _)) (bG (.same (by simp)) kT))))))⟩,⟨_,Z,Z,Z,Z,eG (cS _ _)⟩,⟨_,Z,Z,Z,Z,eG (by simp)⟩,T_⟩
  ·exact⟨Z,T_⟩
  refine Rd (by exact aW Z bW sizeOf135 Z Z Z Z (by simp only[Zl,bP,bM,S_,gJ,K_];rfl) Z)<|Uu (iU sizeOf135)<|Zz<|aC ?_;refine cR (H':=[(905,ZX L)]) (.inr Z) Z (eV Z bW sizeOf135 Z Z Z (by simp only[Zl,bP,bM,S_,gJ,K_];rfl) Z) (Fin.wk (by(simp;done)) (Hc (cS _ _)<|T_) ⟨Z,T_⟩) ?_;refine⟨?_,Z⟩;rw[(show sV T=⟨t1.text,1,(pV P.text).1,(pV Q.text).1,[],rK (L.drop 4)⟩by rw[hR2,Mg,Mg]),<-E,hG];rfl
 have z:A≠1:=b_ R;rw[a8 z]at hR;have hIx:=MS L [] (by omega);have hIr:∀H,H.get 905=some (ZX L)->RC 284 [.osl 905 L.length 0 L.length,.pv (.fn 285)] (iv (AE kE L)) H:=fun H hH =>
  RO.calls (RO.lend (id:=905) (H1:=[]) (L.map K_) (RO.of hIx Z) hH (JL K_ L) Z
   (bG (.osl (lO K_ L)) (bG (.same (by simp)) kT)) (fun _ _ h=>by cases h) (fun _ _ h=>by cases h) Z)
 refine C V<|Y (kc call284 (hIr _ Z))<|O U<|S<|C V<|O cM<|Cn ?_ ?_<;>intro f_
 ·have hlo:AE kE L<3:=b9 f_;rw[b6 hlo]at hR;rw[hR];refine C (oO FC)<|Uu (iU sizeOf135)<|Zz<|aC<|cR (H':=[(905,ZX L)]) (.inr Z) Z (eV Z bW sizeOf135 Z Z Z (by simp only[Zl,bP,bM,S_,gJ,K_];rfl) Z) (Fin.wk (by(simp;done)) (Hc (cS _ _)<|T_) ⟨Z,T_⟩) ?_;exact Qq
 have hlo:¬ AE kE L<3:=b_ f_;rw[a8 hlo]at hR;obtain ⟨q,hq,hqL⟩:∃q:Nat,AE kE L=(q:Int)/\q<L.length:=by
  rcases nk kE L with⟨e1,_⟩|⟨q,o,e1,e2,_⟩
  ·rw[e1]at hlo;exact absurd (by decide) hlo
  exact⟨q,e1,(m_.1 e2).1⟩
 rw[hq]at hR hlo |-;rw[l8]at hR;have hq3:3<=q:=by omega
 obtain ⟨e_,hM⟩:∃e_,e_=(L.take q).drop 3:=X_;have hMl:e_.length=q - 3:=by rw[hM,q6,q8];omega
 rw[<-hM]at hR;refine aA<|S<|C V<|Y V<|Y (by exact kJ (l:=3) (h:=q) Z gY Z Z Z Z Z Z (by omega) (by omega) Z Z)<|Y (by exact dT Z cP Z Z Z)<|O V<|aD<|bC (σ:=Nat) (fun i=>(rE L++[(5,.osl 905 L.length 4 (L.length - 4)),(6,iv (q:Int)),(66,.osl 905 L.length 3 (q - 3)),(67,iv ((q - 3:Nat):Int)),(68,iv (i:Int))],rH L t1.text A 0 0 ((e_.take i).map a_.text) [])) (fun i=>i<=e_.length) (fun i=>e_.length - i) 0 (l6 _) ?_ ?_
 ·exact(cJ.wk (Ea<|Ea<|Ea<|Ea<|Eb<|Ea<|Eb<|Eb<|T_) (Hc (kP _ _)<|Hc (aV _ _)<|Hc (by(simp;exact⟨Z,Z⟩))<|Hc (cS _ _)<|Hb<|T_) ⟨Z,T_⟩)
 rintro i hi;refine Sz cM<|S<|Cn ?_ ?_<;>intro u_
 ·have hiq:i<q - 3:=by have:=b9 u_;omega
  obtain ⟨f,hf⟩:=aU (show i<e_.length by omega);have hfL:L[3+i]?=some f:=by
   rw[hM,List.getElem?_drop,List.getElem?_take_of_lt (by omega)]at hf;exact hf
  have hrf:=B6 hfL;have hMt:(e_.take (i+1)).map a_.text=(e_.take i).map a_.text++[f.text]:=by rw[List.take_add_one,hf,List.map_append];rfl
  have hRl:((e_.take i).map a_.text).length=i:=by rw[h_,q8];omega
  refine aA<|S<|aD<|C (by exact dI Z gY Z Z Z Z Z (by omega) (by exact l8 _) (by omega) Z)<|Y (by exact aW Z iR sizeOf189 Z Z Z hrf (by simp only[Zl,bP,bM,S_,gJ,K_];rfl) Z)<|Y (kl 8 pq)<|Uu (iU sizeOf189)<|Zz<|Rd (bD dY)<|Y (bS aH)<|Y (bD iD)<|Y (bS N_)<|Y (by exact aL [S_ f.text] Z bH Z Z Z Z Z R_)<|Y (by exact cA (ps:=[S_ f.text]) Z bH xE Z Z Z Z Z (eH _) Z R_ (m:=1) Z (by omega) Z (gO ((e_.take i).map a_.text) f.text))<|Y (bD dY)<|Uu (by exact cQ Z sizeOf22 Z Z Z Z Z Z (by simp only[j8,List.length_nil];omega) (by simp only[Zl,bP,bM,S_,gJ,K_];rfl) (by simp only[Zl,bP,bM,S_,gJ,K_];rfl)) ?_;refine Zz<|Rd gT<|O V ?_;refine⟨i+1,by omega,by omega,?_⟩;dsimp only;rw[hMt,aDe];exact(cJ.wk (Ea<|Ea<|Ea<|Ea<|Eb<|Ea<|Eb<|Eb<|T_) (Hc (kP _ _)<|Hc (aV _ _)<|Hc (by(simp;exact⟨Z,Z⟩))<|Hc (cS _ _)<|Hb<|T_) ⟨Z,T_⟩)
 have hiq:i=q - 3:=by have:=b_ u_;omega
 have hMi:e_.take i=e_:=List.take_of_length_le (by omega);rw[hMi];refine aP<|Rd V<|Y V<|Y kp<|Y (by exact kJ (l:=(q+1)) (h:=L.length) Z gY Z Z Z Z Z Z (by omega) (by omega) Z Z)<|O U<|S<|aD ?_;rw[<-r7 (q+1)]at hR;obtain ⟨D,E⟩:∃D,D=L.drop (0+(q+1)):=X_;have hDl:D.length=L.length - (0+(q+1)):=by rw[E,q6]
 refine bC (σ:=Nat) (fun j=>(rE L++[(5,.osl 905 L.length ((0+(q+1))+3*j) (L.length - (q+1) - 3*j))],rH L t1.text A 0 0 (e_.map a_.text) (fC D j))) (fun j=>3*j<=D.length) (fun j=>D.length - 3*j) 0 (l6 _) ?_ ?_
 ·exact(cJ.wk (Ea<|Ea<|Ea<|Ea<|T_) (Hc (kP _ _)<|Hc (aV _ _)<|Hc (by(simp;exact⟨Z,Z⟩))<|Hc (cS _ _)<|Hb<|T_) ⟨Z,T_⟩)
 rintro j hj;have d_:=E5 D j;have hfl:=HB D j;refine S<|C V<|Y (by exact dT Z cP Z Z Z)<|O iY<|Cn ?_ ?_<;>intro hc8
 ·have z_:3*j+2<D.length:=by have:=b9 hc8;omega
  obtain ⟨y,u⟩:∃f,L[(0+(q+1))+3*j]?=some f:=aU (by omega);obtain ⟨x,v⟩:∃f,L[(0+(q+1))+3*j+2]?=some f:=aU (by omega);have w:=B6 u;have s:=B6 v;have B:U0 D j=⟨y.text,x.text⟩:=by
   rw[U0,E,List.getElem?_drop,List.getElem?_drop,u,show (0+(q+1))+(3*j+2)=(0+(q+1))+3*j+2 from Z,v];rfl
  refine aA<|S<|aD<|aN a7<|Cs (fun _ h=>fh fU h)<|Cs (fun _ h=>lh dC h)<|Cs (fun _ _=>V)<|Cs (fun H1 hH=>by exact dI Z gY Z ((hH _ Z).trans Z) Z Z Z (by omega) (by exact l8 _) (show 0<L.length - (q+1) - 3*j by omega) Z)<|Cs (fun _ h=>fh iD h)<|Cs (fun H1 hH=>by exact aX Z N_ Z ((hH _ Z).trans Z) Z w Z)<|Cs (fun _ _=>V)<|Cs (fun H1 hH=>by exact dI Z gY Z ((hH _ Z).trans Z) Z Z Z (by omega) (by exact l8 _) (show 2<L.length - (q+1) - 3*j by omega) Z)<|Cs (fun _ h=>fh iD h)<|Cs (fun H1 hH=>by exact aX Z N_ Z ((hH _ Z).trans Z) Z s Z)<|Cs (fun _ _=>(oO Ll))<|Cs (fun H1 hH=>by exact aL [bP ⟨y.text,x.text⟩] Z lI Z Z Z Z Z R_) ?_;refine iF (r:=⟨_,none,[_]⟩) (DStep.plain Z (fun H1 hH=>by exact cA (ps:=[bP ⟨y.text,x.text⟩]) Z lI Kn Z ((hH _ Z).trans Z) Z Z Z (HK _) Z R_ (m:=1) Z (by omega) Z (HL (fC D j) ⟨y.text,x.text⟩))) Z ?_;refine Cs (fun _ h=>fh fU h)<|iF (r:=⟨_,none,[_]⟩) (DStep.plain Z (fun H1 hH=>by exact(by exact cQ Z sizeOf133 Z Z Z ((hH _ Z).trans Z) Z Z (by simp only[j8,List.length_nil];omega) (by simp only[Zl,bP,bM,S_,gJ,K_];rfl) (by simp only[Zl,bP,bM,S_,gJ,K_];rfl)))) Z ?_;refine bJ<|Kr<|Rd V<|Y (by exact kJ (l:=3) (h:=(L.length - (q+1) - 3*j)) Z gY Z Z Z Z Z Z (by omega) (by omega) Z Z)<|Da ?_;refine⟨j+1,by omega,by omega,?_⟩;dsimp only;rw[d_,B,aBo];exact(cJ.wk (Ea<|Ea<|Ea<|Ea<|T_) (Hc (kP _ _)<|Hc (aV _ _)<|Hc (by(simp;exact⟨Z,Z⟩))<|Hc (cS _ _)<|Hb<|T_) ⟨Z,T_⟩)
 have W:D.length<3*j+3:=by have:=b_ hc8;omega
 have N:D.length / 3=j:=by omega
 have hG:rK D=fC D j:=by rw[P3,N]
 refine aP<|S ?_;refine fZ.ent (cJ.fzG (id:=907) (E':=rE L) (H':=[(906,⟨((e_.map a_.text)).length,1,9,bZ ((e_.map a_.text))⟩),(3,bx 6 135 [sv (t1.text),iv (A),iv (0),iv (0),.osl 906 ((e_.map a_.text)).length 0 ((e_.map a_.text)).length,.pv (pX (fC D j))]),(905,ZX L),(2,bx 6 135 ((bM g_).map .pv))]) ((fC D j).map bP) Z (JL bP _) ?_ Z ?_ ?_) ?_
 ·intro p t;simp only[l7,n_,or_false]at t;rcases t with rfl|rfl|rfl<;>exact⟨_,Z,.same (by simp;rfl)⟩
 ·exact⟨⟨_,Z,Z,Z,Z,eG (aV _ _)⟩,⟨_,Z,Z,Z,Z,lW Z (bG (.same (by simp)) (bG (.same (by simp)) (bG (.same (by simp)) (bG (.same (by simp)) (bG (.same (by simp;rfl)) (bG (.osl (lO bP _)) kT))))))⟩,⟨_,Z,Z,Z,Z,eG (cS _ _)⟩,⟨_,Z,Z,Z,Z,eG (by simp)⟩,T_⟩
 ·exact⟨Z,T_⟩
 refine fZ.ent (cJ.fzG (id:=906) (E':=rE L) (H':=[(3,bx 6 135 [sv (t1.text),iv (A),iv (0),iv (0),.pv (aK ((e_.map a_.text))),.pv (pX (fC D j))]),(905,ZX L),(2,bx 6 135 ((bM g_).map .pv))]) (((e_.map a_.text)).map S_) Z (eC _) ?_ Z ?_ ?_) ?_
 ·intro p t;simp only[l7,n_,or_false]at t;rcases t with rfl|rfl|rfl<;>exact⟨_,Z,.same (by simp;rfl)⟩
 ·exact⟨⟨_,Z,Z,Z,Z,lW Z (bG (.same (by simp)) (bG (.same (by simp)) (bG (.same (by simp)) (bG (.same (by simp)) (bG (.osl (lO S_ _)) (bG (.same (by simp)) kT))))))⟩,⟨_,Z,Z,Z,Z,eG (cS _ _)⟩,⟨_,Z,Z,Z,Z,eG (by simp)⟩,T_⟩
 ·exact⟨Z,T_⟩
 refine Rd (by exact aW Z bW sizeOf135 Z Z Z Z (by simp only[Zl,bP,bM,S_,gJ,K_];rfl) Z)<|Uu (iU sizeOf135)<|Zz<|aC ?_;refine cR (H':=[(905,ZX L)]) (.inr Z) Z (eV Z bW sizeOf135 Z Z Z (by simp only[Zl,bP,bM,S_,gJ,K_];rfl) Z) (Fin.wk (by(simp;done)) (Hc (cS _ _)<|T_) ⟨Z,T_⟩) ?_;refine⟨?_,Z⟩;rw[hR,<-E,hG];rfl
theorem LM:∀(l) (p),nX l=some p->p.1.length<=l.length
 | [],p,h=>by cases h
 | [c],p,h=>by
  rw[nX]at h
  grind
 | c :: e :: r, p, h => by
  rw[nX]at h
  split at h
  ·grind
  split at h
  ·cases h
  split at h
  ·cases g:sT e with
   |none=>simp_all
   | some b =>
    rw[g]at h;cases f:nX r with
    |none=>simp_all
    |some q =>
     rw[f]at h;cases h;have:=LM r q f;show q.1.length+1<=r.length+1+1;omega
  cases f:nX (e::r)with
  |none=>simp_all
  |some q =>
   rw[f]at h;cases h;have:=LM _ q f
   simp_all
theorem fQ(s:B_)(i j):(s.extract i j).size<=s.size:=by rw[<-aT,gS,q8,q6,aT];omega
theorem we(s):(AG s).1.size<=s.size:=by
 rw[AG];cases h:nX _ with
 |none=>exact l6 _
 |some p =>
  have:=LM _ _ h;rw[q6,aT]at this;rw[<-aT]
  grind
theorem jm{s}{f:a_}{j:Nat}(h:eT s i=(some f,j)):f.text.size<=s.size:=by
 rw[eT]at h
 split at h
 ·cases h
 split at h
 ·cases h
 split at h
 ·cases h;exact fQ _ _ _
 split at h
 ·cases h;exact fQ _ _ _
 split at h
 ·cases h;rw[ER]
  split
  ·have h1:=we (s.extract i s.size);have h2:=fQ s i s.size;show (AG _).1.size<=_;omega
  exact l6 _
 split at h
 ·cases h;exact fQ _ _ _
 cases h;exact l6 _
theorem HJ(s):∀(n i) (f),f∈jV s n i->f.text.size<=s.size
 |0,_,_,h=>by cases h
 | n+1,i,f,h=>by
  rw[jV]at h
  split at h
  ·split at h
   ·exact HJ s n _ f h
   rename_i g j b;rcases l7.1 h with rfl|h
   ·exact jm b
   split at h
   ·exact HJ s n _ f h
   cases h
  cases h
theorem bg:∀(a acc) (f),f∈(kD acc a).1->f∈acc\/f∈a
 | [],acc,f,h=>.inl h
 |d::a,acc,f,h=>by
  rw[kD]at h
  split at h
  ·cases h
  split at h
  ·cases h
  rcases bg _ _ f h with h|h;all_goals grind
theorem F6(s)(f)(h:f∈(fA s).1):f.text.size<=s.size:=by
 rw[fA]at h
 split at h
 ·cases h
 rcases bg _ _ f h with h|h
 ·cases h
 exact HJ s _ _ f h
theorem ct{T}{n}(h:∀f∈T,f.text.size<=n):∀f∈vR T,f.text.size<=n:=fun f b=>by
 rcases List.mem_append.1 b with a|a
 ·simp_all
 rw[(List.mem_replicate.1 a).2];exact l6 _
theorem UU:∀(T) (n),(∀f∈T,f.text.size<=n)->(rK T).length<=T.length/\∀t∈rK T,t.key.size<=n/\t.val.size<=n
 | [],n,_=>by simp[rK]
 | [a],n,_=>by simp[rK]
 | [a,b],n,_=>by simp[rK]
 |a::b::c::r,n,h=>by
  obtain ⟨i1,i2⟩:=UU r n fun f hf=>h f G_;rw[rK]
  grind
theorem Hn(T):(vR T).length<=T.length+4:=by rw[vR,j9,List.length_replicate];omega
theorem Ga{T:List a_}{n:Nat}(h:∀f∈T,f.text.size<=n)(m:n<2^62)(hl:T.length<549755813888):iq (sV T):=by
 have o:=ct h;have hpl:=Hn T;have l:∀i,((vR T).getD i KC).text.size<=n:=fun i=>by
  rw[List.getD_eq_getElem?_getD];cases e:(vR T)[i]? with
  |none=>exact l6 _
  |some f=>grind
 have j:∀k,ME (rK ((vR T).drop k)):=fun k=>by
  obtain ⟨a,b⟩:=UU ((vR T).drop k) n fun f p=>o f (List.mem_of_mem_drop p);rw[q6]at a;exact⟨X,fun t g=>by have:=b t g;omega⟩
 rw[sV]
 split
 ·exact⟨Nat.lt_of_le_of_lt (l 1) m,j _,F_,fun s d=>by cases d⟩
 split
 ·exact⟨E_,⟨E_,fun t h=>by cases h⟩,E_,fun s d=>by cases d⟩
 refine⟨Nat.lt_of_le_of_lt (l 1) m,j _,?_,fun s d=>?_⟩;all_goals grind
theorem qW(c):∀ {l w},w∈dN c l->w.length<=l.length
 | [],w,h=>by
  rw[dN]at h
  simp_all
 | b::l,w,h=>by
  have d:=qY c l;rw[dN]at h;cases e:dN c l with
  |nil=>rw[e]at d;exact absurd d (Nat.lt_irrefl 0)
  | cons x r =>
   have a:∀y∈x::r,y.length<=l.length:=fun y hy=>qW c F_;rw[e]at h
   split at h
   ·rcases l7.1 h with rfl|h
    ·exact l6 _
    exact Nat.le_succ_of_le (a w h)
   rcases l7.1 h with rfl|h
   ·exact Nat.succ_le_succ (a _ List.mem_cons_self)
   exact Nat.le_succ_of_le (a w (List.mem_cons_of_mem _ h))
theorem VM{s}(a:s.size<2^40):iq (sV (fA s).1):=Ga (fun f b=>F6 s f b) X (wL s a)
theorem IK(l:List _):∀r∈l.map S_,r.length=1:=fun r a=>by
 obtain ⟨s,_,rfl⟩:=List.mem_map.1 a;rfl
theorem zP{p q}[Decidable p][Decidable q](h:(decide p&&decide q)=true):p/\q:=F_
theorem zQ{p q}[Decidable p][Decidable q](h:(decide p&&decide q)=false):¬ (p/\q):=F_
theorem Pe{H}{id}{o}(h:H.get id=some o):Sub [(id,o)] H:=fun j x a=>by
 by_cases e:j=id
 ·subst e;rw[get_cons_same]at a
  simp_all
 rw[get_cons_other _ _ e]at a;cases a
theorem Ic{id j}{a b}(h:(aF.get [(id,a)] j).isSome=true):(aF.get [(id,b)] j).isSome=true:=by
 by_cases e:j=id
 ·subst e;rw[get_cons_same];rfl
 rw[get_cons_other _ _ e]at h;cases h
theorem mi(s:B_)(H:aF)(g:s.size<2^40):RC 201 [sv s] (.tup [av (bM (uQ s).1),iv (uQ s).2]) H:=by
 refine Pu ?_;have c:=wL s g;have l:=ct (F6 s);have d:=VM g;rw[uQ];refine Bd func201 Z ntmps201<|C (kl 2 UN)<|O U<|S<|C V<|Y (gM U_)<|O iY<|Cn ?_ ?_<;>intro i
 ·have q:20000<s.size:=by have:=b9 i;omega
  rw[b6 q];refine C (oO FC)<|Uu (iU sizeOf135)<|O U<|aC<|hU (H':=[]) (.inr Z) Z (CF bW sizeOf135) (aJ Z) (P_ (r:=.tup [av (bM g_),iv 2])) Qq
 have q:¬ 20000<s.size:=by have:=b_ i;omega
 rw[a8 q];by_cases n:(fA s).2.1=0
 ·have e:=fun H h=>aAN s H g n h;obtain ⟨T,w⟩:∃T,T=(fA s).1:=X_;rw[<-w]at c l d |-;simp only[<-w]at e;have k:∀H,H.get 905=some (ZX T)->aS Tryz.prog 252 [.osl 905 T.length 0 T.length] H (fun r H'=>r=av (bM (sV T))/\H'=[(905,ZX (vR T))]++H):=fun H x =>
   aS.frame (Ym T c (fun f y=>Nat.lt_of_le_of_lt (l f y) g)) (Pe x) (dD.ofL ⟨cS _ _,T_⟩) (by intro a v;rw[q_]at v;subst v;simp[aF.get]) (fun id h=>.inl (Ic h))
  obtain ⟨o,z⟩:∃o,o=sV T:=X_;rw[<-z]at k d |-;refine aA<|C V<|Y (kc aER (e _ Z))<|Y V<|Y dH<|Y dH<|Y dH<|Y U<|Y U<|O U<|S<|C V<|O cD<|Cn ?_ ?_<;>intro u
  ·refine C V<|Y (kc call252 (k _ Z))<|Y (kl 7 UN)<|Uu (iU sizeOf135)<|Zz<|C (vC bW sizeOf135)<|Y (kc call253 (VV o _ d))<|Y V<|Y dH<|Y dH<|Y U<|O U<|S<|aR (t:=35) (n:=8) (A_:=decide ((eX o).2=0)&&decide ((eX o).1=s)) ?_ ?_
   ·all_goals refine Y V<|Y cD<|Dm ?_<;>(refine Sp 31 (fun p=>?_) fun p=>?_)<;>(first|contradiction|refine M<|M<|M ?_|refine J V<|J V<|J wF ?_)<;>refine O cE ?_<;>exact Gj (h:=by simp_all)
   refine Cn ?_ ?_<;>intro j
   ·have m:=zP j;rw[b6 ⟨n,Prod.ext m.2 m.1⟩];refine C (vC bW sizeOf135)<|Uu (iU sizeOf135)<|O U<|aC<|hU (H':=[]) (.inr Z) Z (CF bW sizeOf135) (aJ Z) (P_ (r:=.tup [av (bM o),iv 0])) Qq
   have m:=zQ j;rw[a8 (fun h=>m ⟨congrArg Prod.snd h.2,congrArg Prod.fst h.2⟩)];refine aA<|C (oO FC)<|Uu (iU sizeOf135)<|O U<|aC<|hU (H':=[]) (.inr Z) Z (CF bW sizeOf135) (aJ Z) (P_ (r:=.tup [av (bM g_),iv 5])) Qq
  exact absurd Z (b_ u)
 refine aA<|C V<|Y (kc aER (Wo s _ g))<|Y V<|Y dH<|Y dH<|Y dH<|Y U<|Y U<|O U<|S<|C V<|O cD<|Cn ?_ ?_<;>intro t
 ·exact absurd (b9 t) n
 refine aA<|C (oO FC)<|Uu (iU sizeOf135)<|O U<|aC ?_;rw[a8 (fun h=>n h.1)];refine hU (H':=[]) (.inr Z) Z (CF bW sizeOf135) (aJ Z) (P_ (r:=.tup [av (bM g_),iv 5])) Qq
theorem Qs(s:B_)(H:aF)(hs:s.size<=20000):RC 143 [sv s] (av (bL (nQ s.data.toList))) H:=by
 refine Pu ?_;have A_:=aT s;obtain ⟨W,p⟩:∃W,W=dN 32 s.data.toList:=X_;obtain ⟨w0,E⟩:∃w,w=W.headD []:=X_;obtain ⟨B,z⟩:∃r,r=s.data.toList.drop (w0.length+1):=X_;have hrl:B.length<=s.size:=by simp_all
 have hg:nQ s.data.toList=D8 W w0 B:=by rw[nQ,<-p,<-E,<-z]
 have z_:∃b,∀H,RC 137 [sv s,sv Nm] (.tup [sv (b7 w0),sv (b7 B),bv b]) H:=by
  obtain ⟨b,hb⟩:=Ur s;rw[<-p,<-E,<-z]at hb;exact⟨b,fun H=>by rw[<-hb];exact aCn s H X⟩
 obtain ⟨b,z_⟩:=z_;have hSl:(cN s).length=W.length:=by rw[wv,p]
 have hml:((cN s).map S_).length=W.length:=by simp_all
 have hSg:∀i,i<W.length->((cN s).map S_)[i]?=some [.str (b7 (W.getD i []))]:=fun i hi=>by
  rw[p];exact cC (f:=S_) (wx s i X)
 have R:∀i,(b7 (W.getD i [])).size<=s.size:=fun i=>by
  rw[cB,List.getD_eq_getElem?_getD];cases e:W[i]? with
  |none=>simp_all
  |some w =>
   have:=qW 32 (l:=s.data.toList) (w:=w) G_;rw[A_]at this;exact this
 have hWl:W.length<=s.size+1:=by
  rw[p,xI];have:=List.count_le_length (l:=s.data.toList) (a:=32);omega
 have hjl:((cN s).drop 3).length<=20001:=by grind
 have hjs:cX ((cN s).drop 3)<=20000*((cN s).drop 3).length:=oY (fun w hw=>by
  have I:=List.mem_of_mem_drop hw;rw[cN,<-p]at I;obtain ⟨x,hx,rfl⟩:=List.mem_map.1 I;have:=qW 32 (l:=s.data.toList) (w:=x) F_;show (b7 x).size<=_;rw[cB];omega)
 rw[hg,D8];refine Bd func143 Z ntmps143<|Sz (kl 2 UM)<|C V<|Y (kc call200 (wy s _ X))<|O U<|C V<|Y (kc aEW (z_ _))<|Y V<|Y dH<|Y dH<|Y dH<|Y U<|Y U<|O U<|S<|aD<|C V<|Y wF<|Da<|Cn ?_ ?_<;>intro N
 ·have h1:w0=wPut:=sS.1 (b9 N);rw[b6 h1];refine C V<|Y (kc call201 (mi (b7 B) _ (by rw[cB];omega)))<|Y V<|Y dH<|Y dH<|Y (kl 7 UN)<|Uu (iU sizeOf135)<|O U<|C (vC bW sizeOf135)<|Y (oO tQ)<|Uu (iU aZ)<|Zz<|aC ?_;refine cR (H':=[]) (.inr Z) Z (CF cT aZ) P_ Qq
 have h1:¬ w0=wPut:=fun e=>b_ N (sS.2 e);rw[a8 h1];refine S<|aR (t:=30) (n:=9) (A_:=decide (b7 w0=⟨#[109,111,118,101]⟩)&&decide ((((cN s).map S_).length:Int)=4)) ?_ ?_
 ·all_goals refine Y V<|Y wF<|Dm ?_<;>(refine Sp 33 (fun h33=>?_) fun h33=>?_)<;>(first|contradiction|refine M<|M<|M ?_|refine J V<|J (fV aE)<|J cD ?_)<;>refine Y cE<|Da ?_<;>exact Gj (h:=by(simp_all;done))
 refine Cn ?_ ?_<;>intro A
 ·have F:b7 w0=b7 I7/\_:=zP A;rw[sS,hml]at F;rw[b6 ⟨F.1,X⟩];have G:=hSg 1 X;have i2:=hSg 2 X;have i3:=hSg 3 X;have s2:=R 2;have s3:=R 3;refine S<|aN a7<|Cr [] (fun _ _=>V)<|Cr [] (fun _ _=>(iM bH))<|Cr [] (fun _ _=>(fY N_))<|Cr [] (fun _ _=>V)<|Cr [] (fun _ _=>(iM bH))<|Cr [] (fun _ _=>(fY N_))<|Cr [] (fun q hH=>by exact bF Z Z call202 Z (di (b7 (W.getD 2 [])) _ X))<|Cr [] (fun _ _=>V)<|Cr [] (fun _ _=>(iM bH))<|Cr [] (fun _ _=>(fY N_))<|Cr [] (fun q hH=>by exact bF Z Z call202 Z (di (b7 (W.getD 3 [])) _ X))<|Cr [] (fun _ _=>(oO K0))<|Cr [] (fun _ _=>(oO tQ))<|Cp [2] (fun _ h=>sa aZ h)<|bJ<|Kr<|aC ?_;refine cR (H':=[]) (.inr Z) Z (CF cT aZ) (P_ (r:=av (bL ⟨2,b7 (W.getD 1 []),a6,a6,UC (W.getD 2 []),UC (W.getD 3 []),a6,a6,[],g_⟩))) Qq
 have F:¬ (b7 w0=b7 I7/\_):=zQ A;rw[sS,hml]at F;rw[a8 (fun h=>F ⟨h.1,X⟩)];refine S<|aR (t:=51) (n:=9) (A_:=decide (b7 w0=⟨#[116,97,103]⟩)&&decide ((3:Int)<(((cN s).map S_).length:Int))) ?_ ?_
 ·all_goals refine Y V<|Y wF<|Dm ?_<;>(refine Sp 54 (fun h54=>?_) fun h54=>?_)<;>(first|contradiction|refine M<|M<|M ?_|refine J V<|J (fV aE)<|J iY ?_)<;>refine Y cE<|Da ?_<;>exact Gj (h:=by(simp_all;done))
 refine Cn ?_ ?_<;>intro T
 ·have K:b7 w0=b7 A2/\_:=zP T;rw[sS,hml]at K;rw[b6 ⟨K.1,X⟩];have G:=hSg 1 X;have i2:=hSg 2 X;have o_:bs ((cN s).drop 3)=W.drop 3:=by
   rw[bs,cN,<-p,List.map_drop,List.map_map];congr 1;exact(List.map_congr_left fun x _=>cO x).trans (List.map_id _)
  have hj:∀H,RC 204 [.pv (aK ((cN s).drop 3)),sv ⟨#[32]⟩] (sv (b7 (bQ [32] (W.drop 3)))) H:=fun H=>by
   have:=wN ((cN s).drop 3) ⟨#[32]⟩ H E_ (by show 1*_+_+_<_;omega);rw[o_]at this;exact this
  have Q:(b7 (bQ [32] (W.drop 3))).size<2^40:=by
   have:=fP ((cN s).drop 3);rw[o_]at this;rw[cB];omega
  obtain ⟨c_,hJ⟩:∃c_,c_=b7 (bQ [32] (W.drop 3)):=X_;rw[<-hJ]at Q |-;simp only[<-hJ]at hj;have htl:((fA c_).1.map K_).length=(fA c_).1.length:=h_ _;refine C V<|Y (by exact fD (l:=3) (h:=((cN s).map S_).length) (rows':=((cN s).drop 3).map S_) Z bH Z (IK _) Z Z X (j6 _) (by rw[List.take_length];exact List.map_drop.symm))<|Y (kc rG (hj _))<|Y (kc aER (Wo c_ _ Q))<|Y V<|Y dH<|Y dH<|Y dH<|Y U<|Y U<|O U<|C V<|Y (fV cP)<|O cD ?_;refine Cn ?_ ?_<;>intro t
  ·have h4:(fA c_).1.length=1:=I_ t
   obtain ⟨f,u_⟩:=List.length_eq_one_iff.1 h4;rw[u_];have hf0:([f].map K_)[0]?=some [.int .i64 f.kind,.str f.text,.int .i64 f.pos]:=rfl;refine S<|aN a7<|Cr [] (fun _ _=>V)<|Cr [] (fun _ _=>(iM bH))<|Cr [] (fun _ _=>(fY N_))<|Cr [] (fun _ _=>V)<|Cr [] (fun _ _=>(iM bH))<|Cr [] (fun _ _=>(fY N_))<|Cr [] (fun _ _=>V)<|Cr [] (fun _ _=>(iM gY))<|Cr [] (fun _ _=>(EV iD))<|Cr [] (fun _ _=>(fY N_))<|Cr [] (fun _ _=>(oO tQ))<|Cp [2] (fun _ h=>sa aZ h)<|bJ<|Kr<|aC<|cR (H':=[]) (.inr Z) Z (CF cT aZ) (P_ (r:=av (bL ⟨3,b7 (W.getD 1 []),a6,a6,0,0,b7 (W.getD 2 []),f.text,[],g_⟩))) Qq
  have h4:(fA c_).1.length≠1:=J_ t
  split
  ·next f u_=>rw[u_]at h4;exact absurd Z h4
  refine aA<|C (oO tQ)<|Uu (iU aZ)<|Zz<|aC<|cR (H':=[]) (.inr Z) Z (CF cT aZ) (P_ (r:=av (bL NZ))) Qq
 have K:¬ (b7 w0=b7 A2/\_):=zQ T;rw[sS,hml]at K;rw[a8 (fun h=>K ⟨h.1,X⟩)];refine S<|aR (t:=81) (n:=9) (A_:=decide (b7 w0=⟨#[114,101,102,115]⟩)&&decide ((1:Int)<(((cN s).map S_).length:Int))) ?_ ?_
 ·all_goals refine Y V<|Y wF<|Dm ?_<;>(refine Sp 84 (fun v_=>?_) fun v_=>?_)<;>(first|contradiction|refine M<|M<|M ?_|refine J V<|J (fV aE)<|J iY ?_)<;>refine Y cE<|Da ?_<;>exact Gj (h:=by(simp_all;done))
 refine Cn ?_ ?_<;>intro D
 ·have h4:b7 w0=b7 I6/\_:=zP D;rw[sS,hml]at h4;rw[b6 ⟨h4.1,X⟩];have G:=hSg 1 X;refine S<|aN a7<|Cr [] (fun _ _=>V)<|Cr [] (fun _ _=>(iM bH))<|Cr [] (fun _ _=>(fY N_))<|Cr [] (fun _ _=>V)<|Cr [] (fun q hH=>by exact fD (l:=2) (h:=((cN s).map S_).length) (rows':=((W.drop 2).map b7).map S_) Z bH Z (IK _) Z Z X (j6 _) (by rw[List.take_length,cN,<-p,List.map_drop,List.map_drop];rfl))<|Cr [] (fun _ _=>(oO tQ))<|Cp [2] (fun _ h=>sa aZ h)<|bJ<|Kr<|aC ?_;refine cR (H':=[]) (.inr Z) Z (CF cT aZ) (P_ (r:=av (bL ⟨4,b7 (W.getD 1 []),a6,a6,0,0,a6,a6,(W.drop 2).map b7,g_⟩))) ?_;exact Qq
 have h4:¬ (b7 w0=b7 I6/\_):=zQ D;rw[sS,hml]at h4;rw[a8 (fun h=>h4 ⟨h.1,X⟩)];refine S<|aR (t:=95) (n:=9) (A_:=decide (b7 w0=⟨#[100,114,111,112]⟩)&&decide ((((cN s).map S_).length:Int)=2)) ?_ ?_
 ·all_goals refine Y V<|Y wF<|Dm ?_<;>(refine Sp 98 (fun y_=>?_) fun y_=>?_)<;>(first|contradiction|refine M<|M<|M ?_|refine J V<|J (fV aE)<|J cD ?_)<;>refine Y cE<|Da ?_<;>exact Gj (h:=by(simp_all;done))
 refine Cn ?_ ?_<;>intro L
 ·have v:b7 w0=b7 JA/\_:=zP L;rw[sS,hml]at v;rw[b6 ⟨v.1,X⟩];have G:=hSg 1 X;refine C V<|Y (iM bH)<|Y (fY N_)<|Y (oO tQ)<|Uu (iU aZ)<|Zz<|aC<|cR (H':=[]) (.inr Z) Z (CF cT aZ) (P_ (r:=av (bL ⟨5,b7 (W.getD 1 []),a6,a6,0,0,a6,a6,[],g_⟩))) Qq
 have v:¬ (b7 w0=b7 JA/\_):=zQ L;rw[sS,hml]at v;rw[a8 (fun h=>v ⟨h.1,X⟩)];refine S<|aR (t:=107) (n:=9) (A_:=decide (b7 w0=⟨#[115,112,108,105,116]⟩)&&decide ((((cN s).map S_).length:Int)=4)) ?_ ?_
 ·all_goals refine Y V<|Y wF<|Dm ?_<;>(refine Sp 110 (fun P=>?_) fun P=>?_)<;>(first|contradiction|refine M<|M<|M ?_|refine J V<|J (fV aE)<|J cD ?_)<;>refine Y cE<|Da ?_<;>exact Gj (h:=by(simp_all;done))
 refine Cn ?_ ?_<;>intro y
 ·have e_:b7 w0=b7 B3/\_:=zP y;rw[sS,hml]at e_;rw[b6 ⟨e_.1,X⟩];have G:=hSg 1 X;have i2:=hSg 2 X;have i3:=hSg 3 X;refine S<|aN a7<|Cr [] (fun _ _=>V)<|Cr [] (fun _ _=>(iM bH))<|Cr [] (fun _ _=>(fY N_))<|Cr [] (fun _ _=>V)<|Cr [] (fun _ _=>(iM bH))<|Cr [] (fun _ _=>(fY N_))<|Cr [] (fun _ _=>V)<|Cr [] (fun _ _=>(iM bH))<|Cr [] (fun _ _=>(fY N_))<|Cr [] (fun _ _=>(oO tQ))<|Cp [2] (fun _ h=>sa aZ h)<|bJ<|Kr<|aC<|cR (H':=[]) (.inr Z) Z (CF cT aZ) (P_ (r:=av (bL ⟨6,b7 (W.getD 1 []),b7 (W.getD 3 []),b7 (W.getD 2 []),0,0,a6,a6,[],g_⟩))) Qq
 have e_:¬ (b7 w0=b7 B3/\_):=zQ y;rw[sS,hml]at e_;rw[a8 (fun h=>e_ ⟨h.1,X⟩)];refine S<|aR (t:=125) (n:=9) (A_:=decide (b7 w0=⟨#[106,111,105,110]⟩)&&decide ((((cN s).map S_).length:Int)=3)) ?_ ?_
 ·all_goals refine Y V<|Y wF<|Dm ?_<;>(refine Sp 128 (fun d_=>?_) fun d_=>?_)<;>(first|contradiction|refine M<|M<|M ?_|refine J V<|J (fV aE)<|J cD ?_)<;>refine Y cE<|Da ?_<;>exact Gj (h:=by(simp_all;done))
 refine Cn ?_ ?_<;>intro f_
 ·have u:b7 w0=b7 I9/\_:=zP f_;rw[sS,hml]at u;rw[b6 ⟨u.1,X⟩];have G:=hSg 1 X;have i2:=hSg 2 X;refine S<|aN a7<|Cr [] (fun _ _=>V)<|Cr [] (fun _ _=>(iM bH))<|Cr [] (fun _ _=>(fY N_))<|Cr [] (fun _ _=>V)<|Cr [] (fun _ _=>(iM bH))<|Cr [] (fun _ _=>(fY N_))<|Cr [] (fun _ _=>(oO tQ))<|Cp [2] (fun _ h=>sa aZ h)<|bJ<|Kr<|aC<|cR (H':=[]) (.inr Z) Z (CF cT aZ) (P_ (r:=av (bL ⟨7,b7 (W.getD 1 []),b7 (W.getD 2 []),a6,0,0,a6,a6,[],g_⟩))) Qq
 have u:¬ (b7 w0=b7 I9/\_):=zQ f_;rw[sS,hml]at u;rw[a8 (fun h=>u ⟨h.1,X⟩)];refine aA<|C (oO tQ)<|Uu (iU aZ)<|Zz<|aC<|cR (H':=[]) (.inr Z) Z (CF cT aZ) (P_ (r:=av (bL NZ))) Qq
def HC(l:List b8):List (List AV):=l.map fun e=>(bL e).map AV.pv
theorem WY(l):(HC l).length=l.length:=h_ _
theorem WZ(l)(e):HC l++[(bL e).map AV.pv]=HC (l++[e]):=by rw[HC,HC,List.map_append];rfl
theorem xF(H)(l):∀r∈HC l,∀a∈r,Clo H a:=by intro r c a b;obtain ⟨d,_,rfl⟩:=List.mem_map.1 c;obtain ⟨p,_,rfl⟩:=List.mem_map.1 b;simp
instance(H)(l):W_ (H) (HC l):=⟨xF H l⟩
theorem Y2(H)(s):∀r∈(lB s).rows,∀a∈r,Clo H a:=by intro r c a b;simp[lB,bx,q_]at c;subst c;rw[q_]at b;subst b;simp
instance(H)(s):W_ (H) ((lB s).rows):=⟨Y2 H s⟩
def Yy(t:B_):cY:=[(0,sv t),(4,.ref 4 0 0 0)]
def lnE(t:B_)(k:Nat):b8:=nQ (D2 (zG (jG t k))).data.toList
def OD(t:B_)(k:Nat):List b8:=(List.range k).map (lnE t)
theorem yx(t)(k):OD t (k+1)=OD t k++[lnE t k]:=by rw[OD,List.range_succ,List.map_append];rfl
theorem R6(t)(k):(OD t k).length=k:=by rw[OD,h_,List.length_range]
theorem R7(t):OD t (iW t).length=(rB t.data.toList).map fun s=>nQ (Lib.trimSuffix s [10]):=by
 refine List.ext_getElem? fun k=>?_;rw[OD,r6,r6];by_cases h:k<(iW t).length
 ·have b:=(Tm h).1;rw[iW,r6]at b;cases e:(rB _)[k]? with
  |none=>rw[e]at b;cases b
  |some w =>
   rw[e]at b;have b:=Option.some.inj b;rw[List.getElem?_range h,Option.map_some,lnE,<-b,Dn];congr 3
 have c:(rB t.data.toList)[k]?=none:=by
  rw[iW]at h
  simp_all
 rw[c,List.getElem?_eq_none F_];rfl
def pcK(t s:B_)(k:Nat):aF:=[(933,lB s),(905,⟨k,15,137,HC (OD t k)⟩),(4,bx 1 46 [.osl 905 k 0 k])]
theorem Ue{a b c}{K:aF}(j):aF.get ((904,b)::(933,a)::K) j=aF.get ((933,a)::(904,b)::(933,c)::K) j:=by
 by_cases e:j=904
 ·subst e;rfl
 by_cases d:j=933
 ·subst d;rfl
 rw[get_cons_other _ _ e,get_cons_other _ _ d,get_cons_other _ _ d,get_cons_other _ _ e,get_cons_other _ _ d]
theorem jj(s):(D2 s).size<=s.size:=by
 rw[D2]
 split
 all_goals simp_all
theorem R9(s):(zG s).size<=s.size:=by
 rw[zG]
 split
 ·omega
 rw[<-aT,exL,q8,q6,aT];omega
theorem EQ{t}{k}(h:k<=(iW t).length):(D2 (zG (jG t k))).size<=t.size:=Nat.le_trans (jj _) (Nat.le_trans (R9 _) (A8 t k h).2)
theorem VU{w}{n}(h:w.length<=n)(hn:n<2^62):(b7 w).size<2^62:=by rw[cB];omega
theorem nq{s}(a:s.size<2^40):iq (uQ s).1:=by
 rw[uQ]
 split
 ·exact⟨E_,⟨E_,fun t h=>by cases h⟩,E_,fun s a=>by cases a⟩
 split
 ·exact VM a
 exact⟨E_,⟨E_,fun t h=>by cases h⟩,E_,fun s a=>by cases a⟩
theorem B1:iq g_:=⟨E_,⟨E_,fun t h=>by cases h⟩,E_,fun s a=>by cases a⟩
theorem CO:([]:List B_).length<2^62/\∀s∈([]:List B_),s.size<2^62:=⟨H_,fun s a=>by cases a⟩
theorem eM:a6.size<2^62:=E_
theorem WO{s:List UInt8}(f:s.length<=20000):UB (nQ s):=by
 have a:∀i,(b7 ((dN 32 s).getD i [])).size<2^62:=fun i=>by
  refine VU (n:=20000) ?_ E_;rw[List.getD_eq_getElem?_getD];cases e:(dN 32 s)[i]? with
  |none=>simp_all
  |some w=>exact Nat.le_trans (qW 32 (m7 e)) f
 have c:∀(d x y:Int),UB ⟨d,a6,a6,a6,x,y,a6,a6,[],g_⟩:=fun d x y=>⟨⟨eM,eM,eM,eM⟩,CO,B1⟩;rw[nQ,D8]
 split
 ·exact⟨⟨eM,eM,eM,eM⟩,CO,nq (by rw[cB,q6];omega)⟩
 split
 ·exact⟨⟨a 1,eM,eM,eM⟩,CO,B1⟩
 split
 ·split
  ·exact⟨⟨a 1,eM,eM,a 2⟩,CO,B1⟩
  exact c _ _ _
 split
 ·refine⟨⟨a 1,eM,eM,eM⟩,⟨?_,fun x g=>?_⟩,B1⟩
  ·have:=List.count_le_length (l:=s) (a:=32);rw[h_,q6,xI];omega
  obtain ⟨w,b,rfl⟩:=List.mem_map.1 g;exact VU (n:=20000) (Nat.le_trans (qW 32 (List.mem_of_mem_drop b)) f) E_
 split
 ·exact⟨⟨a 1,eM,eM,eM⟩,CO,B1⟩
 split
 ·exact⟨⟨a 1,a 3,a 2,eM⟩,CO,B1⟩
 split
 ·exact⟨⟨a 1,a 2,eM,eM⟩,CO,B1⟩
 exact c _ _ _
theorem ML:∀ {t} {n},t.size<=n->(iW t).length<=n
 |t,0,h=>by rw[BI (by omega)];simp_all
 | t,n+1,h=>by
  by_cases a:0<t.size
  ·rw[(CR a).1];refine Nat.succ_le_succ (ML ?_);rw[R0]
   split
   ·exact l6 _
   next d =>
   obtain ⟨w,r,e1,e2,c,e4,b,e6⟩:=Ji d;rw[c,l8,<-szY,b];omega
  rw[BI a];simp_all
theorem Hi(t:B_)(H:aF)(e_:t.size<2^40):RC 101 [sv t] (.tup [.pv (jZ (iB t).1),iv (iB t).2]) H:=by
 refine Pu ?_;rw[iB,<-R7];refine Bd func101 Z ntmps101<|C U<|O U<|S<|C V<|Y (gM U_)<|O iY<|Cn ?_ ?_<;>intro g
 ·have v:20000<t.size:=by have:=b9 g;omega
  rw[b6 v];exact C U<|O U<|aC<|Ru<|Qq
 have v:¬ 20000<t.size:=by have:=b_ g;omega
 rw[a8 v];refine aA<|Sz (kl 4 aBJ)<|S<|C V<|O (kc call142 (Tl t _ Z))<|aD ?_;obtain ⟨n,K⟩:∃n,n=(iW t).length:=X_;have hnl:n<=20000:=by rw[K];exact ML X
 refine fZ.ent (E':=[(0,sv t),(4,.ref 4 0 0 0),(12,.clo 198 [.ref 933 0 0 0])]) (H':=[(905,⟨0,15,137,[]⟩),(933,lB t),(4,bx 1 46 [.osl 905 0 0 0])]) ?_ ?_
 ·exact (Q_ 905 15 137)
 refine fZ.ent (E':=[(0,sv t),(4,.ref 4 0 0 0),(12,.clo 198 [.ref 933 0 0 0])]) (H':=pcK t t 0) L_<|BW (id:=904) (p:=13) (Yy t) Z call198 Z Z (by simp[Yy];exact⟨Z,Z⟩) ?_;intro x D i B o q y;have b:∀k,k<n->dF Tryz.prog (.yld 904 0) [sv (zG (jG t k))] ((904,LR x (Yy t))::pcK t (jG t (k+1)) k) (fun r H'=>r=bv true/\H'=(904,LR x (Yy t))::pcK t (jG t (k+1)) (k+1)):=by
  intro k E;have w:=yx t k;have G:=R6 t k;have hls:=EQ (t:=t) (k:=k) X;have hla:(zG (jG t k)).size<=t.size:=Nat.le_trans (R9 _) (A8 t k X).2;refine .inl ⟨904,0,Z,?_⟩;refine LJ [(0,sv t),(4,.ref 4 0 0 0),(5,sv (zG (jG t k)))] (pcK t (jG t (k+1)) k) D i B o q y Z Z Z ?_ ?_
  ·refine Rg<|Da ?_;exact(cJ.wk (Eb<|Ea<|Eb<|T_) (Hc (nW (by simp[Yy];rfl))<|Hc (Y2 _ _)<|Hc (xF _ _)<|Ha<|T_) ⟨Z,Z,Z,Z,T_⟩)
  refine aD<|aN a7<|Cs (fun _ h=>lh oT h)<|Cs (fun _ _=>V)<|Cs (fun m c=>by exact bF Z Z call144 Z (ji (zG (jG t k)) _ X))<|Cs (fun m c=>by exact bF Z Z call143 Z (Qs (D2 (zG (jG t k))) _ X))<|Cs (fun m c=>by exact aL [bL (lnE t k)] Z ay Z Z Z Z Z R_) ?_;refine iF (r:=⟨_,none,[_]⟩) (DStep.plain Z (fun m c=>by exact cA (ps:=[bL (lnE t k)]) Z ay Ws Z ((c _ Z).trans Z) Z Z Z ((WY _).trans G) Z R_ (m:=1) Z X Z (WZ (OD t k) (lnE t k)))) Z ?_;refine iF (r:=⟨_,none,[_]⟩) (DStep.plain Z (fun m c=>by exact(lQ Z sizeOf46 Z Z Z Z ((c _ Z).trans Z) Z Z Z))) Z ?_;refine bJ<|Kr ?_;exact⟨[(933,lB (jG t (k+1))),(905,⟨k+1,15,137,HC (OD t k++[lnE t k])⟩),(4,bx 1 46 [.osl 905 (k+1) 0 (k+1)])],(cJ.wk T_ (Hc (nW (by simp[Yy];rfl))<|Hc (Y2 _ _)<|Hc (xF _ _)<|Ha<|T_) ⟨Z,Z,Z,Z,T_⟩),Z,by rw[<-w];rfl⟩
 refine(Iw t (.yld 904 0) (fun k=>(904,LR x (Yy t))::pcK t (jG t k) k) e_ (fun k=>rfl) (fun k E=>?_)).mono ?_
 ·exact dF.congrG (b k X) (fun j=>Ue j) (fun j=>rfl)
 rintro r H' ⟨rfl,rfl⟩;refine⟨x,_,Z,F_,Z,fun z=>?_⟩;rw[i];obtain ⟨L,l⟩:∃L,L=OD t n:=X_;have d_:L.length=n:=by rw[l];exact R6 t n
 rw[<-K,<-l];have u:∀e∈L,UB e:=fun e c_=>by
  rw[l,OD]at c_;obtain ⟨k,E,rfl⟩:=List.mem_map.1 c_;have:=EQ (t:=t) (k:=k) (by have:=List.mem_range.1 E;omega);exact WO (by rw[aT];omega)
 refine S<|S ?_;refine fZ.ent (cJ.fzG (id:=905) (E':=[(0,sv t),(4,.ref 4 0 0 0)]) (H':=[(4,bx 1 46 [.pv (jZ L)])]) (L.map bL) Z (by rw[l];exact JL bL _) ?_ Z ?_ ?_) ?_
 ·intro p I;simp only[l7,n_,or_false]at I;rcases I with rfl|rfl<;>exact⟨_,Z,.same (by simp;try rfl)⟩
 ·exact⟨⟨_,Z,Z,Z,Z,lW Z (bG (.osl (by rw[<-d_];exact lO bL L)) kT)⟩,T_⟩
 ·exact T_
 refine Rd (bS oT)<|Y (kc call145 (qq L _ X u))<|Y V<|Y dH<|Y dH<|Y U<|O U<|S<|aR (t:=31) (n:=8) (A_:=!decide ((dW L).2=0)||!decide ((dW L).1=t)) ?_ ?_
 ·all_goals refine Y V<|Y AY<|Dm ?_<;>(refine Sp 27 (fun A=>?_) fun A=>?_)<;>(first|contradiction|refine M<|M<|M ?_|refine J V<|J V<|J GU ?_)<;>refine O cE ?_<;>exact Gj (h:=by(simp_all;done))
 refine Cn ?_ ?_<;>intro d
 ·have s:dW L≠(t,0):=fun e=>by have h:=d;rw[e]at h;simp at h
  rw[a8 s];exact C U<|O U<|aC<|Ru<|Qq
 have F:dW L=(t,0):=by have h:=d;simp only[q9,Bool.not_eq_false',k_]at h;exact Prod.ext h.2 h.1
 rw[b6 F];exact aA<|C (bS oT)<|Y U<|O U<|aC<|Ru<|Qq
end Go.Proofs.YtopnleflllkbmaaGreatDoor
namespace Go.Proofs.YtopnleflllkbmaaGreatDoor
open Go.Proofs.Tryz
open Go.Abs Go.Lib
variable{α:Type}
theorem RL(t):∀e∈(iB t).1,UB e:=by
 intro e a;rw[iB]at a
 split at a
 ·cases a
 next hs =>
 split at a
 ·rw[<-R7]at a;obtain ⟨k,b,rfl⟩:=List.mem_map.1 a;have:=EQ (t:=t) (k:=k) (by have:=List.mem_range.1 b;omega);exact WO (by rw[aT];omega)
 cases a
theorem NL(t):(iB t).1.length<=20000:=by
 rw[iB]
 split
 ·simp_all
 next hs =>
 split
 ·rw[<-R7,R6];exact ML X
 simp_all
def LW{α:Type}(f:List UInt8->Option (α×List UInt8))(d:α)(l:List UInt8):α×List UInt8:=(f l).getD (d,l)
def p0(t:List UInt8):=LW oS a6 t
def p1(t:List UInt8):=LW xC 0 (p0 t).2
def p2(t:List UInt8):=LW xC 0 (p1 t).2
def p3(t:List UInt8):=LW xC 0 (p2 t).2
def p4(t:List UInt8):=LW xC 0 (p3 t).2
def p5(t:List UInt8):=LW oS a6 (p4 t).2
def p6(t:List UInt8):=LW (CT oS) [] (p5 t).2
def p7(t:List UInt8):=LW oS a6 (p6 t).2
def p8(t:List UInt8):=LW oS a6 (p7 t).2
def p9(t:List UInt8):=LW oS a6 (p8 t).2
def im(t:List UInt8):=LW xC 0 (p9 t).2
def il(t:List UInt8):=LW oS a6 (im t).2
def cy(t:List UInt8):=LW xf zS (il t).2
def ik(t:List UInt8):=LW oS a6 (cy t).2
def ig(t:List UInt8):=LW oS a6 (ik t).2
def ie(t:List UInt8):=LW (CT oS) [] (ig t).2
def ic(t:List UInt8):=LW (CT RJ) [] (ie t).2
def Np(t:List UInt8):=LW xf zS (ic t).2
def BG:B_:=⟨#[49]⟩
def JN(t:List UInt8):j7:=⟨(p1 t).1,(p2 t).1,(p3 t).1,(p4 t).1,(p5 t).1,(p6 t).1,(iB (p7 t).1).1,(p8 t).1,decide ((p9 t).1=BG),(im t).1,(il t).1,(cy t).1,⟨(ik t).1,(ig t).1,(ie t).1,(ic t).1,(Np t).1⟩⟩
def YR(t:List UInt8):List Bool:=[(oS t).isSome,(xC (p0 t).2).isSome,(xC (p1 t).2).isSome,(xC (p2 t).2).isSome,(xC (p3 t).2).isSome,(oS (p4 t).2).isSome,((CT oS) (p5 t).2).isSome,(oS (p6 t).2).isSome,(oS (p7 t).2).isSome,(oS (p8 t).2).isSome,(xC (p9 t).2).isSome,(oS (im t).2).isSome,(xf (il t).2).isSome,(oS (cy t).2).isSome,(oS (ik t).2).isSome,((CT oS) (ig t).2).isSome,((CT RJ) (ie t).2).isSome,(xf (ic t).2).isSome]
def wH(t:List UInt8):Bool:=(YR t).all id
def dQ(t:List UInt8):j7×Int:=if 20000<t.length then(zR,2)else if wH t=true/\mG (JN t)=(b7 t,0)then(JN t,0)else(zR,5)
theorem kY{f}{d}{l}{e:α->AV}:((f l).map fun p=>(e p.1,p.2)).getD (e d,l)=(e (LW f d l).1,(LW f d l).2):=by rw[LW];cases f l<;>rfl
theorem oF{f}{d:α}{l}(h:∀p q,f l=some (p,q)->q.length<l.length):(LW f d l).2.length<=l.length:=by
 rw[LW];cases e:f l with
 |none=>simp_all
 |some p=>grind
theorem XV{l q}{s}(h:xf l=some (s,q)):q.length<l.length/\qA s.idx/\(s.sig.length<=l.length/\∀x∈s.sig,x.size<=l.length)/\(s.path.length<=l.length/\∀x∈s.path,x.size<=l.length):=by
 rw[xf]at h;cases e:xC l with
 |none=>simp_all
 | some p =>
  obtain ⟨i,r⟩:=p;have g:=kC e;rw[e]at h;simp at h;cases d:CT _ r with
  |none=>rw[d]at h;cases h
  | some p =>
   obtain ⟨a,r2⟩:=p;have j:=zH d;rw[d]at h;simp at h;cases c:CT _ _ with
   |none=>rw[c]at h;cases h
   |some p =>
    have f:=zH c;rw[c]at h;cases h;exact⟨X,g.2,⟨G_,fun x b=>by have:=j.2 x b;omega⟩,G_,fun x b=>by have:=f.2 x b;omega⟩
theorem vZ{f}{d}{l}(Q:α->Prop)(hd:Q d)(h:∀p q,f l=some (p,q)->Q p):Q (LW f d l).1:=by
 rw[LW];cases e:f l with
 |none=>exact hd
 |some p=>grind
theorem Hv(t):(p0 t).2.length<=t.length:=oF (fun p q h=>by have:=lC h;omega)
theorem Hu(t):(p1 t).2.length<=t.length:=Nat.le_trans (oF (fun p q h=>(kC h).1)) (Hv t)
theorem Ht(t):(p2 t).2.length<=t.length:=Nat.le_trans (oF (fun p q h=>(kC h).1)) (Hu t)
theorem Hr(t):(p3 t).2.length<=t.length:=Nat.le_trans (oF (fun p q h=>(kC h).1)) (Ht t)
theorem lq(t):(p4 t).2.length<=t.length:=Nat.le_trans (oF (fun p q h=>(kC h).1)) (Hr t)
theorem lp(t):(p5 t).2.length<=t.length:=Nat.le_trans (oF (fun p q h=>by have:=lC h;omega)) (lq t)
theorem ln(t):(p6 t).2.length<=t.length:=Nat.le_trans (oF (fun p q h=>by have:=(zH h).1;omega)) (lp t)
theorem ll(t):(p7 t).2.length<=t.length:=Nat.le_trans (oF (fun p q h=>by have:=lC h;omega)) (ln t)
theorem Hq(t):(p8 t).2.length<=t.length:=Nat.le_trans (oF (fun p q h=>by have:=lC h;omega)) (ll t)
theorem Ho(t):(p9 t).2.length<=t.length:=Nat.le_trans (oF (fun p q h=>by have:=lC h;omega)) (Hq t)
theorem YK(t):(im t).2.length<=t.length:=Nat.le_trans (oF (fun p q h=>(kC h).1)) (Ho t)
theorem YJ(t):(il t).2.length<=t.length:=Nat.le_trans (oF (fun p q h=>by have:=lC h;omega)) (YK t)
theorem YI(t):(cy t).2.length<=t.length:=Nat.le_trans (oF (fun p q h=>(XV h).1)) (YJ t)
theorem YH(t):(ik t).2.length<=t.length:=Nat.le_trans (oF (fun p q h=>by have:=lC h;omega)) (YI t)
theorem YG(t):(ig t).2.length<=t.length:=Nat.le_trans (oF (fun p q h=>by have:=lC h;omega)) (YH t)
theorem YF(t):(ie t).2.length<=t.length:=Nat.le_trans (oF (fun p q h=>by have:=(zH h).1;omega)) (YG t)
theorem YE(t):(ic t).2.length<=t.length:=Nat.le_trans (oF (fun p q h=>by have:=(tk h).1;omega)) (YF t)
theorem Ro(t):(Np t).2.length<=t.length:=Nat.le_trans (oF (fun p q h=>(XV h).1)) (YE t)
theorem El{l q}{s}{n}(h:xf l=some (s,q))(hn:l.length<=n):qA s.idx/\(s.sig.length<=n/\∀x∈s.sig,x.size<=n)/\(s.path.length<=n/\∀x∈s.path,x.size<=n):=by
 obtain ⟨_,h1,h2,h3⟩:=XV h
 grind
theorem aBS(t:List UInt8):qA zS.idx/\(zS.sig.length<=t.length/\∀x∈zS.sig,x.size<=t.length)/\(zS.path.length<=t.length/\∀x∈zS.path,x.size<=t.length):=by simp[zS,qA]
theorem aCJ(t):(qA) (p1 t).1:=vZ _ (⟨H_,H_⟩) (fun p q h=>(kC h).2)
theorem aCH(t):(qA) (p2 t).1:=vZ _ (⟨H_,H_⟩) (fun p q h=>(kC h).2)
theorem aCF(t):(qA) (p3 t).1:=vZ _ (⟨H_,H_⟩) (fun p q h=>(kC h).2)
theorem aCD(t):(qA) (p4 t).1:=vZ _ (⟨H_,H_⟩) (fun p q h=>(kC h).2)
theorem aCB(t):(fun s=>s.size<=t.length) (p5 t).1:=by exact vZ (f:=oS) (fun s=>s.size<=t.length) ((l6 _)) (fun p q h=>by have:=lC h;have:=lq t;omega)
theorem aBz(t):(fun l=>l.length<=t.length/\∀x∈l,x.size<=t.length) (p6 t).1:=by exact vZ (f:=(CT oS)) (fun l=>l.length<=t.length/\∀x∈l,x.size<=t.length) (⟨l6 _,H_⟩) (fun p q h=>by have a:=zH h;have h2:=lp t;exact⟨X,fun x b=>by have:=a.2 x b;omega⟩)
theorem aBx(t):(fun s=>s.size<=t.length) (p7 t).1:=by exact vZ (f:=oS) (fun s=>s.size<=t.length) ((l6 _)) (fun p q h=>by have:=lC h;have:=ln t;omega)
theorem aBv(t):(fun s=>s.size<=t.length) (p8 t).1:=by exact vZ (f:=oS) (fun s=>s.size<=t.length) ((l6 _)) (fun p q h=>by have:=lC h;have:=ll t;omega)
theorem Zq(t):(qA) (im t).1:=vZ _ (⟨H_,H_⟩) (fun p q h=>(kC h).2)
theorem Zn(t):(fun s=>s.size<=t.length) (il t).1:=by exact vZ (f:=oS) (fun s=>s.size<=t.length) ((l6 _)) (fun p q h=>by have:=lC h;have:=YK t;omega)
theorem Zk(t):(fun s=>qA s.idx/\(s.sig.length<=t.length/\∀x∈s.sig,x.size<=t.length)/\(s.path.length<=t.length/\∀x∈s.path,x.size<=t.length)) (cy t).1:=by unfold cy;exact vZ (fun s:m9=>qA _/\(s.sig.length<=t.length/\∀x∈s.sig,x.size<=t.length)/\(s.path.length<=t.length/\∀x∈s.path,x.size<=t.length)) (aBS t) (fun p q h=>El h (YJ t))
theorem Zi(t):(fun s=>s.size<=t.length) (ik t).1:=by exact vZ (f:=oS) (fun s=>s.size<=t.length) ((l6 _)) (fun p q h=>by have:=lC h;have:=YI t;omega)
theorem Zg(t):(fun s=>s.size<=t.length) (ig t).1:=by exact vZ (f:=oS) (fun s=>s.size<=t.length) ((l6 _)) (fun p q h=>by have:=lC h;have:=YH t;omega)
theorem Ze(t):(fun l=>l.length<=t.length/\∀x∈l,x.size<=t.length) (ie t).1:=by exact vZ (f:=(CT oS)) (fun l=>l.length<=t.length/\∀x∈l,x.size<=t.length) (⟨l6 _,H_⟩) (fun p q h=>by have a:=zH h;have h2:=YG t;exact⟨X,fun x b=>by have:=a.2 x b;omega⟩)
theorem Zb(t):(fun l=>l.length<=t.length/\∀q∈l,qA q.1/\qA q.2) (ic t).1:=by exact vZ (f:=(CT RJ)) (fun l=>l.length<=t.length/\∀q∈l,qA q.1/\qA q.2) (⟨l6 _,H_⟩) (fun p q h=>by have a:=tk h;have h2:=YF t;exact⟨X,a.2⟩)
theorem Yz(t):(fun s=>qA s.idx/\(s.sig.length<=t.length/\∀x∈s.sig,x.size<=t.length)/\(s.path.length<=t.length/\∀x∈s.path,x.size<=t.length)) (Np t).1:=by unfold Np;exact vZ (fun s:m9=>qA _/\(s.sig.length<=t.length/\∀x∈s.sig,x.size<=t.length)/\(s.path.length<=t.length/\∀x∈s.path,x.size<=t.length)) (aBS t) (fun p q h=>El h (YE t))
theorem Fv{N:Nat}(hN:N<=20000){k a n c t:Int}{u s v nm w:B_}{pa m:List B_}{i:List b8}{y:Bool}{sl ps:m9}{f}(B:qA k)(I:qA a)(D:qA n)(H:qA c)(o:qA t)(h5:u.size<=N)(h8:s.size<=N)(h11:v.size<=N)(h13:nm.size<=N)(h14:w.size<=N)
  (r:pa.length<=N/\∀x∈pa,x.size<=N) (p:m.length<=N/\∀x∈m,x.size<=N) (h16:f.length<=N/\∀q∈f,qA q.1/\qA q.2) (he:i.length<=20000) (j:∀e∈i,UB e)
  (d:qA sl.idx/\(sl.sig.length<=N/\∀x∈sl.sig,x.size<=N)/\(sl.path.length<=N/\∀x∈sl.path,x.size<=N)) (g:qA ps.idx/\(ps.sig.length<=N/\∀x∈ps.sig,x.size<=N)/\(ps.path.length<=N/\∀x∈ps.path,x.size<=N)) :
  mI ⟨k,a,n,c,u,pa,i,s,y,t,v,sl,⟨nm,w,m,f,ps⟩⟩/\pa.length<549755813888:=by
 have b:∀ {l:List B_},(l.length<=N/\∀x∈l,x.size<=N)->df l:=fun h=>⟨X,fun x G=>by have:=h.2 x G;omega⟩;obtain ⟨z,d_,E⟩:=d;obtain ⟨c_,A,F⟩:=g;exact⟨⟨⟨B,I,D,H,o⟩,⟨G_,G_,G_⟩,b r,⟨G_,j⟩,⟨z,b d_,b E⟩,G_,G_,b p,G_,c_,b A,b F⟩,by have:=r.1;omega⟩
theorem bn{t}(a:t.length<=20000):mI (JN t)/\(JN t).parents.length<549755813888 :=Fv a (aCJ t) (aCH t) (aCF t) (aCD t) (Zq t) (aCB t) (aBv t) (Zn t) (Zi t) (Zg t) (aBz t) (Ze t) (Zb t) (NL _) (RL _) (Zk t) (Yz t)
theorem eL{β:Type}{o:Option _}{g:α->β}:(o.map g=none↔o.isSome=false)/\((o.map g).isSome=o.isSome):=H_
theorem oG{t}{b}(h:b∈YR t)(hb:b=false):wH t=false:=by
 rw[wH]
 simp_all
theorem aDq(t):(KB t).getD (sv a6,t)=(sv (p0 t).1,(p0 t).2):=by exact kY
theorem aCT(t)(h:KB t=none):wH t=false:=oG (List.mem_of_getElem? (i:=0) Z) (eL.1.1 h)
theorem aDp(t):(EL (p0 t).2).getD (iv 0,(p0 t).2)=(iv (p1 t).1,(p1 t).2):=by exact kY
theorem aCK(t)(h:EL (p0 t).2=none):wH t=false:=oG (List.mem_of_getElem? (i:=1) Z) (eL.1.1 h)
theorem aDo(t):(EL (p1 t).2).getD (iv 0,(p1 t).2)=(iv (p2 t).1,(p2 t).2):=by exact kY
theorem aCI(t)(h:EL (p1 t).2=none):wH t=false:=oG (List.mem_of_getElem? (i:=2) Z) (eL.1.1 h)
theorem aDn(t):(EL (p2 t).2).getD (iv 0,(p2 t).2)=(iv (p3 t).1,(p3 t).2):=by exact kY
theorem aCG(t)(h:EL (p2 t).2=none):wH t=false:=oG (List.mem_of_getElem? (i:=3) Z) (eL.1.1 h)
theorem aDm(t):(EL (p3 t).2).getD (iv 0,(p3 t).2)=(iv (p4 t).1,(p4 t).2):=by exact kY
theorem aCE(t)(h:EL (p3 t).2=none):wH t=false:=oG (List.mem_of_getElem? (i:=4) Z) (eL.1.1 h)
theorem aDl(t):(KB (p4 t).2).getD (sv a6,(p4 t).2)=(sv (p5 t).1,(p5 t).2):=by exact kY
theorem aCC(t)(h:KB (p4 t).2=none):wH t=false:=oG (List.mem_of_getElem? (i:=5) Z) (eL.1.1 h)
theorem aDk(t):(za (p5 t).2).getD (.pv (aK []),(p5 t).2)=(.pv (aK (p6 t).1),(p6 t).2):=by exact kY (e:=fun v=>.pv _)
theorem aCA(t)(h:za (p5 t).2=none):wH t=false:=oG (List.mem_of_getElem? (i:=6) Z) (eL.1.1 h)
theorem aDj(t):(KB (p6 t).2).getD (sv a6,(p6 t).2)=(sv (p7 t).1,(p7 t).2):=by exact kY
theorem aBy(t)(h:KB (p6 t).2=none):wH t=false:=oG (List.mem_of_getElem? (i:=7) Z) (eL.1.1 h)
theorem aDi(t):(KB (p7 t).2).getD (sv a6,(p7 t).2)=(sv (p8 t).1,(p8 t).2):=by exact kY
theorem aBw(t)(h:KB (p7 t).2=none):wH t=false:=oG (List.mem_of_getElem? (i:=8) Z) (eL.1.1 h)
theorem aDh(t):(KB (p8 t).2).getD (sv a6,(p8 t).2)=(sv (p9 t).1,(p9 t).2):=by exact kY
theorem aBu(t)(h:KB (p8 t).2=none):wH t=false:=oG (List.mem_of_getElem? (i:=9) Z) (eL.1.1 h)
theorem aCS(t):(EL (p9 t).2).getD (iv 0,(p9 t).2)=(iv (im t).1,(im t).2):=by exact kY
theorem Zr(t)(h:EL (p9 t).2=none):wH t=false:=oG (List.mem_of_getElem? (i:=10) Z) (eL.1.1 h)
theorem aCR(t):(KB (im t).2).getD (sv a6,(im t).2)=(sv (il t).1,(il t).2):=by exact kY
theorem Zp(t)(h:KB (im t).2=none):wH t=false:=oG (List.mem_of_getElem? (i:=11) Z) (eL.1.1 h)
theorem aCQ(t):(Pt (il t).2).getD (av (lE zS),(il t).2)=(av (lE (cy t).1),(cy t).2):=by exact kY (e:=fun v=>av _)
theorem Zm(t)(h:Pt (il t).2=none):wH t=false:=oG (List.mem_of_getElem? (i:=12) Z) (eL.1.1 h)
theorem aCP(t):(KB (cy t).2).getD (sv a6,(cy t).2)=(sv (ik t).1,(ik t).2):=by exact kY
theorem Zj(t)(h:KB (cy t).2=none):wH t=false:=oG (List.mem_of_getElem? (i:=13) Z) (eL.1.1 h)
theorem aCO(t):(KB (ik t).2).getD (sv a6,(ik t).2)=(sv (ig t).1,(ig t).2):=by exact kY
theorem Zh(t)(h:KB (ik t).2=none):wH t=false:=oG (List.mem_of_getElem? (i:=14) Z) (eL.1.1 h)
theorem aCN(t):(za (ig t).2).getD (.pv (aK []),(ig t).2)=(.pv (aK (ie t).1),(ie t).2):=by exact kY (e:=fun v=>.pv _)
theorem Zf(t)(h:za (ig t).2=none):wH t=false:=oG (List.mem_of_getElem? (i:=15) Z) (eL.1.1 h)
theorem aCM(t):(du (ie t).2).getD (.pv (xK []),(ie t).2)=(.pv (xK (ic t).1),(ic t).2):=by exact kY (e:=fun v=>.pv _)
theorem Zc(t)(h:du (ie t).2=none):wH t=false:=oG (List.mem_of_getElem? (i:=16) Z) (eL.1.1 h)
theorem aCL(t):(Pt (ic t).2).getD (av (lE zS),(ic t).2)=(av (lE (Np t).1),(Np t).2):=by exact kY (e:=fun v=>av _)
theorem Za(t)(h:Pt (ic t).2=none):wH t=false:=oG (List.mem_of_getElem? (i:=17) Z) (eL.1.1 h)
theorem Sg(t)(r:(KB t).isSome=true)(o:(EL (p0 t).2).isSome=true)(s:(EL (p1 t).2).isSome=true)(p:(EL (p2 t).2).isSome=true)(l:(EL (p3 t).2).isSome=true)(q:(KB (p4 t).2).isSome=true)(j:(za (p5 t).2).isSome=true)(n:(KB (p6 t).2).isSome=true)(m:(KB (p7 t).2).isSome=true)(k:(KB (p8 t).2).isSome=true)(g:(EL (p9 t).2).isSome=true)(c:(KB (im t).2).isSome=true)(h:(Pt (il t).2).isSome=true)(f:(KB (cy t).2).isSome=true)(b:(KB (ik t).2).isSome=true)(i:(za (ig t).2).isSome=true)(d:(du (ie t).2).isSome=true)(e:(Pt (ic t).2).isSome=true):wH t=true:=by unfold wH YR;simp[List.all_cons,List.all_nil,id,Bool.and_true,j0];exact⟨eL.2▸r,eL.2▸o,eL.2▸s,eL.2▸p,eL.2▸l,eL.2▸q,eL.2▸j,eL.2▸n,eL.2▸m,eL.2▸k,eL.2▸g,eL.2▸c,eL.2▸h,eL.2▸f,eL.2▸b,eL.2▸i,eL.2▸d,eL.2▸e⟩
end Go.Proofs.YtopnleflllkbmaaGreatDoor
namespace Go.Proofs.YtopnleflllkbmaaGreatDoor
open Go.Proofs.Tryz
open Go.Abs
theorem ZU.mono{P}{F}{args}{H}{u}{K b}(h:ZU P F args H u K)(f:∀H,K H->b H):ZU P F args H u b :=fun I ι w vs d j g=>(h I _ w _ d j g).mono fun _ _ _ ⟨v,c,i,a,e,s,q,r⟩=>⟨v,c,i,a,e,s,f _ q,r⟩
def PQ(t:List UInt8)(r:AV)(H:aF):Prop:=r=.tup [av (dR (dQ t).1),iv (dQ t).2]/\H=[]
abbrev dE:cY:=[(2,.ref 2 0 0 0),(3,.ref 3 0 0 0)]
theorem ft(x)(e){t}(hg:dQ t=(x,e)):∃r,(∀(a) (w) (I) (ι),Rel I ι (lk x e) w->lH w I ι (lk x e) dE a->∃v,(results f54 a.tmps).run Tryz.prog w=.ok v w/\VRel w I ι (lk x e) v r)/\∃r' H3,Fin [] (lk x e) r H3 r'/\PQ t r' H3 :=⟨.tup [av (dR x),iv e],aDd Z (CF cF aY) (iI Z mY Z Z Z Z),_,[],Fin.wk H_ T_ T_,by rw[PQ];simp_all⟩
theorem rQ{t}{i}{e}{H2}(m:¬ 20000<t.length)(hok:wH t=false)(r:i=H7)(j:e.get 2=some (.ref 2 0 0 0))(q:e.get 3=some (.ref 3 0 0 0))(p:∃o,H2.get 2=some o/\mP o rAJ)(l:∃o,H2.get 3=some o/\mP o eAJ):
  vt Tryz.prog f54 [] (lk zR 0) 97 dcJ (PQ t) (.panic i) e H2:=by
 subst r;have w:dQ t=(zR,5):=by rw[dQ,a8 m,a8 F_]
 refine⟨.panicking H7,dE,pAJ,.inr ⟨H7,Z,Z⟩,cJ.toAny (fun u v s=>?_) (fun id o' c=>?_) (fun id n=>?_),ZU.mono Yx fun H k=>by subst k;exact ft zR 5 w⟩
 ·have a:=iJ s;simp only[l7,n_,or_false,Prod.mk.injEq]at a;rcases a with⟨rfl,rfl⟩|⟨rfl,rfl⟩
  ·exact⟨j,by simp;rfl⟩
  exact⟨q,by simp;rfl⟩
 ·have a:=dX c;simp[l7,n_,or_false,Prod.mk.injEq]at a;rcases a with⟨rfl,rfl⟩|⟨rfl,rfl⟩
  ·obtain ⟨o,d,f⟩:=l;exact⟨o,d,f,H_⟩
  obtain ⟨o,d,f⟩:=p;exact⟨o,d,f,H_⟩
 by_cases h:3=id
 ·subst h;rfl
 by_cases g:2=id
 ·subst g;rfl
 simp[aF.get,jP h,jP g]at n
theorem VL{t}{x}{e}{b}{H2}(f:dQ t=(x,e))(c:cJ (lk zR 0) b H2 dE (lk x e)):vt Tryz.prog f54 [] (lk zR 0) 97 dcJ (PQ t) .ret b H2 :=⟨.returning,dE,lk x e,.inl ⟨.inr Z,Z⟩,c,ZU.mono (Yw x e) fun H d=>by subst d;exact ft x e f⟩
theorem OS{x}{o}(h:mP (Bt x) o):mP o rAJ:=⟨h.1.symm,h.2.1.symm,h.2.2.1.symm,h.2.2.2.symm⟩
theorem FS{e}{o}(h:mP (Bw e) o):mP o eAJ:=⟨h.1.symm,h.2.1.symm,h.2.2.1.symm,h.2.2.2.symm⟩
theorem XX(x):mP (Bt x) rAJ:=⟨Z,Z,Z,Z⟩
theorem XW(e):mP (Bw e) eAJ:=⟨Z,Z,Z,Z⟩
theorem cq(t:List UInt8)(hts:t.length<2^40)(H:aF):RC 54 [sv (b7 t)] (.tup [av (dR (dQ t).1),iv (dQ t).2]) H:=by
 refine aS.pure (show aS Tryz.prog 54 [sv (b7 t)] [] (PQ t)from ?_) H_ H;have hls:(b7 t).size=t.length:=cB t;refine aS.bodyD func54 Z ntmps54 (r9 Z)<|va<|Rd (kl 2 Z2)<|O (kl 3 Xh)<|va<|C V<|Y (gM U_)<|O iY<|Cn ?_ ?_<;>intro x
 ·have d_:20000<t.length:=by have:=b9 x;omega
  have hg:dQ t=(zR,2):=by rw[dQ,b6 d_]
  refine C (oO S3)<|Uu (iU aY)<|Uu (iU sizeOf25)<|Zz<|aC<|hU (H':=[]) (.inr Z) Z (eV Z cF aY Z Z Z (by simp only[Zl,S_];rfl) Z) (iI Z mY Z Z Z Z) P_ ?_;rw[PQ,hg];exact Qq
 have d_:¬ 20000<t.length:=by have:=b_ x;omega
 refine aA<|zu (F:=97) (cs:=dcJ) Z Z Z Z Z Z Z Z Z call97<|fZ.mono (Q:=vt Tryz.prog f54 [] (lk zR 0) 97 dcJ (PQ t)) ?_ (fun _ _ _ h=>h);have t0:=aDq t;have n0:=aCT t;have c0:=Hv t;have t1:=aDp t;have n1:=aCK t;have c1:=Hu t;have t2:=aDo t;have n2:=aCI t;have c2:=Ht t;have t3:=aDn t;have n3:=aCG t;have c3:=Hr t;have t4:=aDm t;have n4:=aCE t;have c4:=lq t;have t5:=aDl t;have n5:=aCC t;have c5:=lp t;have t6:=aDk t;have n6:=aCA t;have c6:=ln t;have t7:=aDj t;have n7:=aBy t;have c7:=ll t;have t8:=aDi t;have n8:=aBw t;have c8:=Hq t;have t9:=aDh t;have n9:=aBu t;have c9:=Ho t;have t10:=aCS t;have n10:=Zr t;have c10:=YK t;have t11:=aCR t;have n11:=Zp t;have c11:=YJ t;have t12:=aCQ t;have n12:=Zm t;have c12:=YI t;have t13:=aCP t;have n13:=Zj t;have c13:=YH t;have t14:=aCO t;have n14:=Zh t;have c14:=YG t;have t15:=aCN t;have n15:=Zf t;have c15:=YF t;have t16:=aCM t;have n16:=Zc t;have c16:=YE t;have t17:=aCL t;have n17:=Za t;have c17:=Ro t;have yes:=Sg t;have o:=bn (t:=t) X;have y:JN t=⟨(p1 t).1,(p2 t).1,(p3 t).1,(p4 t).1,(p5 t).1,(p6 t).1,(iB (p7 t).1).1,(p8 t).1,decide ((p9 t).1=BG),(im t).1,(il t).1,(cy t).1,⟨(ik t).1,(ig t).1,(ie t).1,(ic t).1,(Np t).1⟩⟩:=rfl;have s7:(p7 t).1.size<=t.length:=aBx t;have u:dQ t=if wH t=true/\mG (JN t)=(b7 t,0)then(JN t,0)else(zR,5):=by rw[dQ,a8 d_]
 rw[y]at o u;obtain ⟨V0,hV0⟩:∃v,v=(p0 t).1:=X_;obtain ⟨L0,hL0⟩:∃v,v=(p0 t).2:=X_;obtain ⟨F,hV1⟩:∃v,v=(p1 t).1:=X_;obtain ⟨L1,hL1⟩:∃v,v=(p1 t).2:=X_;obtain ⟨E,hV2⟩:∃v,v=(p2 t).1:=X_;obtain ⟨L2,hL2⟩:∃v,v=(p2 t).2:=X_;obtain ⟨I,hV3⟩:∃v,v=(p3 t).1:=X_;obtain ⟨L3,hL3⟩:∃v,v=(p3 t).2:=X_;obtain ⟨G,hV4⟩:∃v,v=(p4 t).1:=X_;obtain ⟨L4,hL4⟩:∃v,v=(p4 t).2:=X_;obtain ⟨N,hV5⟩:∃v,v=(p5 t).1:=X_;obtain ⟨L5,hL5⟩:∃v,v=(p5 t).2:=X_;obtain ⟨e_,hV6⟩:∃v,v=(p6 t).1:=X_;obtain ⟨L6,hL6⟩:∃v,v=(p6 t).2:=X_;obtain ⟨V7,hV7⟩:∃v,v=(p7 t).1:=X_;obtain ⟨L7,hL7⟩:∃v,v=(p7 t).2:=X_;obtain ⟨V8,hV8⟩:∃v,v=(p8 t).1:=X_;obtain ⟨L8,hL8⟩:∃v,v=(p8 t).2:=X_;obtain ⟨V9,hV9⟩:∃v,v=(p9 t).1:=X_;obtain ⟨L9,hL9⟩:∃v,v=(p9 t).2:=X_;obtain ⟨n,P⟩:∃v,v=(im t).1:=X_;obtain ⟨L10,hL10⟩:∃v,v=(im t).2:=X_;obtain ⟨V11,hV11⟩:∃v,v=(il t).1:=X_;obtain ⟨L11,Q⟩:∃v,v=(il t).2:=X_;obtain ⟨p,T⟩:∃v,v=(cy t).1:=X_;obtain ⟨L12,hL12⟩:∃v,v=(cy t).2:=X_;obtain ⟨B,R⟩:∃v,v=(ik t).1:=X_;obtain ⟨L13,A_⟩:∃v,v=(ik t).2:=X_;obtain ⟨w,W⟩:∃v,v=(ig t).1:=X_;obtain ⟨L14,hL14⟩:∃v,v=(ig t).2:=X_;obtain ⟨z,y_⟩:∃v,v=(ie t).1:=X_;obtain ⟨L15,o_⟩:∃v,v=(ie t).2:=X_;obtain ⟨s,f_⟩:∃v,v=(ic t).1:=X_;obtain ⟨L16,hL16⟩:∃v,v=(ic t).2:=X_;obtain ⟨c_,z_⟩:∃v,v=(Np t).1:=X_;obtain ⟨L17,v_⟩:∃v,v=(Np t).2:=X_;simp only[<-hV0,<-hL0,<-hV1,<-hL1,<-hV2,<-hL2,<-hV3,<-hL3,<-hV4,<-hL4,<-hV5,<-hL5,<-hV6,<-hL6,<-hV7,<-hL7,<-hV8,<-hL8,<-hV9,<-hL9,<-P,<-hL10,<-hV11,<-Q,<-T,<-hL12,<-R,<-A_,<-W,<-hL14,<-y_,<-o_,<-f_,<-hL16,<-z_,<-v_]at t0 n0 c0 t1 n1 c1 t2 n2 c2 t3 n3 c3 t4 n4 c4 t5 n5 c5 t6 n6 c6 t7 n7 c7 t8 n8 c8 t9 n9 c9 t10 n10 c10 t11 n11 c11 t12 n12 c12 t13 n13 c13 t14 n14 c14 t15 n15 c15 t16 n16 c16 t17 n17 c17 yes o u s7;clear y hV0 hL0 hV1 hL1 hV2 hL2 hV3 hL3 hV4 hL4 hV5 hL5 hV6 hL6 hV7 hL7 hV8 hL8 hV9 hL9 P hL10 hV11 Q T hL12 R A_ W hL14 y_ o_ f_ hL16 z_ v_;have hpc:=fun H=>Hi V7 H X;obtain ⟨PE,hPE⟩:∃v,v=iB V7:=X_;rw[<-hPE]at hpc o u;clear hPE;obtain ⟨u_,EE⟩:=PE;simp only at hpc o u;have htx:=fun H=>XQ ⟨F,E,I,G,N,e_,u_,V8,decide (V9=BG),n,V11,p,⟨B,w,z,s,c_⟩⟩ o.1 o.2 H;obtain ⟨TX,hTX⟩:∃v,v=mG ⟨F,E,I,G,N,e_,u_,V8,decide (V9=BG),n,V11,p,⟨B,w,z,s,c_⟩⟩:=X_;rw[<-hTX]at htx u;clear hTX o;refine C V<|Y (oO aCt)<|Y (kb 980)<|Y (kl 4 aBR)<|Uu (iU sizeOf125)<|Zz<|S ?_;refine fZ.ent (E':=[(0,sv (b7 t)),(2,.ref 2 0 0 0),(3,.ref 3 0 0 0),(4,.ref 4 0 0 0)]) (H':=[(980,ib t),(4,inO),(3,Bw 0),(2,Bt zR)]) L_<|gL<|iO Z Z Z (aX Z dV Z Z Z Z Z) ?_
 refine ZM Z Z Z (eI Z Z nF Z (((AC t X).tot t0 Z (fX _)).mono (PP':=fun ch H'=>wH t=false/\ch=H7/\∃q,H'=nC q++_) (fun _ _ h=>h) (fun ch H' ⟨e,e2,e3⟩=>⟨n0 e,e2,e3⟩))) (fun ch H' h=>by obtain ⟨e,e2,q,rfl⟩:=h;exact rQ d_ e e2 Z Z ⟨_,Z,XX _⟩ ⟨_,Z,XW _⟩) (fun h16=>?_);refine PK<|S ?_;refine fZ.ent (E':=[(0,sv (b7 t)),(2,.ref 2 0 0 0),(3,.ref 3 0 0 0),(4,.ref 4 0 0 0)]) (H':=[(980,ib L0),(4,inO),(3,Bw 0),(2,Bt zR)]) L_<|yK (fun ch H1 D=>wH t=false/\ch=H7/\∃q,D=nC q++H1) [2,3] [2,3] [] Z a7 (fun ch E1 H1 D hts hsh hks ⟨e,e2,q,e3⟩=>by subst e3;obtain ⟨o2,k1,k2⟩:=hsh 2 H_ _ Z;obtain ⟨o3,k3,k4⟩:=hsh 3 H_ _ Z;exact rQ d_ e e2 ((hts 2 H_).trans Z) ((hts 3 H_).trans Z) ⟨o2,k1,OS k2⟩ ⟨o3,k3,FS k4⟩) ?_;refine Pr [4] (fun _ h=>lh dV h)<|vI (r:=⟨_,some [980],nC L1⟩) (.pan Z (fun H1 hH=>by exact eI Z Z jD Z (((oD L0 X).tot t1 ((hH 980 Z).trans Z) (fX _)).mono (PP':=fun ch H'=>wH t=false/\ch=H7/\∃q,H'=nC q++_) (fun _ _ h=>h) (fun ch H' ⟨e,e2,e3⟩=>⟨n1 e,e2,e3⟩)))) Z ?_;refine Pr [4] (fun _ h=>lh dV h)<|vI (r:=⟨_,some [980],nC L2⟩) (.pan Z (fun H1 hH=>by exact eI Z Z jD Z (((oD L1 X).tot t2 ((hH 980 Z).trans Z) (fX _)).mono (PP':=fun ch H'=>wH t=false/\ch=H7/\∃q,H'=nC q++_) (fun _ _ h=>h) (fun ch H' ⟨e,e2,e3⟩=>⟨n2 e,e2,e3⟩)))) Z ?_;refine Pr [4] (fun _ h=>lh dV h)<|vI (r:=⟨_,some [980],nC L3⟩) (.pan Z (fun H1 hH=>by exact eI Z Z jD Z (((oD L2 X).tot t3 ((hH 980 Z).trans Z) (fX _)).mono (PP':=fun ch H'=>wH t=false/\ch=H7/\∃q,H'=nC q++_) (fun _ _ h=>h) (fun ch H' ⟨e,e2,e3⟩=>⟨n3 e,e2,e3⟩)))) Z ?_;refine Pr [4] (fun _ h=>lh dV h)<|vI (r:=⟨_,some [980],nC L4⟩) (.pan Z (fun H1 hH=>by exact eI Z Z jD Z (((oD L3 X).tot t4 ((hH 980 Z).trans Z) (fX _)).mono (PP':=fun ch H'=>wH t=false/\ch=H7/\∃q,H'=nC q++_) (fun _ _ h=>h) (fun ch H' ⟨e,e2,e3⟩=>⟨n4 e,e2,e3⟩)))) Z ?_;refine Pr [2] (fun _ h=>fh oJ h)<|Pw [2] (fun _ h=>su sizeOf3 h)<|Pr [2] (fun _ h=>fh EZ h)<|Pw [2] (fun _ h=>su sizeOf3 h)<|Pr [2] (fun _ h=>fh AH h)<|Pw [2] (fun _ h=>su sizeOf3 h)<|Pr [2] (fun _ h=>fh EY h)<|Pw [2] (fun _ h=>su sizeOf3 h)<|KW ⟨⟨by kernel_rfl,by rfl,by rfl⟩,fun A=>?_⟩;simp only[ZT,true_and,and_true]at A;refine S ?_;have f4:=A;refine fZ.ent (E':=[(0,sv (b7 t)),(2,.ref 2 0 0 0),(3,.ref 3 0 0 0),(4,.ref 4 0 0 0)]) (H':=[(980,ib L4),(4,inO),(3,Bw 0),(2,Bt ⟨F,E,I,G,a6,[],[],a6,false,0,a6,zS,⟨a6,a6,[],[],zS⟩⟩)]) L_ ?_
 refine yK (fun ch H1 D=>wH t=false/\ch=H7/\∃q,D=nC q++H1) [2,3] [2,3] [] Z a7 (fun ch E1 H1 D hts hsh hks ⟨e,e2,q,e3⟩=>by subst e3;obtain ⟨o2,k1,k2⟩:=hsh 2 H_ _ Z;obtain ⟨o3,k3,k4⟩:=hsh 3 H_ _ Z;exact rQ d_ e e2 ((hts 2 H_).trans Z) ((hts 3 H_).trans Z) ⟨o2,k1,OS k2⟩ ⟨o3,k3,FS k4⟩) ?_;refine Pr [4] (fun _ h=>lh dV h)<|vI (r:=⟨_,some [980],nC L5⟩) (.pan Z (fun H1 hH=>by exact eI Z Z nF Z (((AC L4 X).tot t5 ((hH 980 Z).trans Z) (fX _)).mono (PP':=fun ch H'=>wH t=false/\ch=H7/\∃q,H'=nC q++_) (fun _ _ h=>h) (fun ch H' ⟨e,e2,e3⟩=>⟨n5 e,e2,e3⟩)))) Z ?_;refine Pr [4] (fun _ h=>lh dV h)<|Pr [4] (fun _ h=>lh dV h)<|Pr [] (fun H1 hH=>by exact pB Z Z) ?_;refine vI (r:=⟨_,some [980],nC L6⟩) (.pan Z (fun H1 hH=>by exact eI Z Z AW Z (((Y1 L5 X).tot t6 ((hH 980 Z).trans Z) (fX _)).mono (PP':=fun ch H'=>wH t=false/\ch=H7/\∃q,H'=nC q++_) (fun _ _ h=>h) (fun ch H' ⟨e,e2,e3⟩=>⟨n6 e,e2,e3⟩)))) Z ?_;refine Pr [2] (fun _ h=>fh C1 h)<|Pw [2] (fun _ h=>su V_ h)<|Pr [2] (fun _ h=>fh oI h)<|Pw [2] (fun _ h=>su sizeOf22 h)<|KW ⟨⟨by rfl,by rfl,by rfl⟩,fun A=>?_⟩;simp only[ZT,true_and,and_true]at A;refine S ?_;have f6:=A;refine fZ.ent (E':=[(0,sv (b7 t)),(2,.ref 2 0 0 0),(3,.ref 3 0 0 0),(4,.ref 4 0 0 0)]) (H':=[(980,ib L6),(4,inO),(3,Bw 0),(2,Bt ⟨F,E,I,G,N,e_,[],a6,false,0,a6,zS,⟨a6,a6,[],[],zS⟩⟩)]) L_<|gL<|iO Z Z Z (aX Z dV Z Z Z Z Z)<|ZM Z Z Z (eI Z Z nF Z (((AC L6 X).tot t7 Z (fX _)).mono (PP':=fun ch H'=>wH t=false/\ch=H7/\∃q,H'=nC q++_) (fun _ _ h=>h) (fun ch H' ⟨e,e2,e3⟩=>⟨n7 e,e2,e3⟩))) (fun ch H' h=>by obtain ⟨e,e2,q,rfl⟩:=h;exact rQ d_ e e2 Z Z ⟨_,Z,XX _⟩ ⟨_,Z,XW _⟩) (fun h39=>?_);refine iO Z Z Z (kc call101 (hpc _))<|iO Z Z Z (gP Z Z)<|iO Z Z Z (uZ Z Z Z)<|iO Z Z Z (uZ Z Z Z)<|iO Z Z Z (oC Z C0 Z Z Z Z)<|Mk Z Z (ku sizeOf46)<|PK<|S ?_;refine fZ.ent (E':=[(0,sv (b7 t)),(2,.ref 2 0 0 0),(3,.ref 3 0 0 0),(4,.ref 4 0 0 0)]) (H':=[(980,ib L7),(4,inO),(3,Bw 0),(2,Bt ⟨F,E,I,G,N,e_,u_,a6,false,0,a6,zS,⟨a6,a6,[],[],zS⟩⟩)]) L_<|yK (fun ch H1 D=>wH t=false/\ch=H7/\∃q,D=nC q++H1) [2,3] [2,3] [] Z a7 (fun ch E1 H1 D hts hsh hks ⟨e,e2,q,e3⟩=>by subst e3;obtain ⟨o2,k1,k2⟩:=hsh 2 H_ _ Z;obtain ⟨o3,k3,k4⟩:=hsh 3 H_ _ Z;exact rQ d_ e e2 ((hts 2 H_).trans Z) ((hts 3 H_).trans Z) ⟨o2,k1,OS k2⟩ ⟨o3,k3,FS k4⟩) ?_;refine Pr [4] (fun _ h=>lh dV h) ?_
 refine vI (r:=⟨_,some [980],nC L8⟩) (.pan Z (fun H1 hH=>by exact eI Z Z nF Z (((AC L7 X).tot t8 ((hH 980 Z).trans Z) (fX _)).mono (PP':=fun ch H'=>wH t=false/\ch=H7/\∃q,H'=nC q++_) (fun _ _ h=>h) (fun ch H' ⟨e,e2,e3⟩=>⟨n8 e,e2,e3⟩)))) Z ?_;refine Pr [4] (fun _ h=>lh dV h)<|vI (r:=⟨_,some [980],nC L9⟩) (.pan Z (fun H1 hH=>by exact eI Z Z nF Z (((AC L8 X).tot t9 ((hH 980 Z).trans Z) (fX _)).mono (PP':=fun ch H'=>wH t=false/\ch=H7/\∃q,H'=nC q++_) (fun _ _ h=>h) (fun ch H' ⟨e,e2,e3⟩=>⟨n9 e,e2,e3⟩)))) Z ?_;refine Pr [] (fun H1 hH=>by exact EC Z Z Z)<|Pr [4] (fun _ h=>lh dV h) ?_;refine vI (r:=⟨_,some [980],nC L10⟩) (.pan Z (fun H1 hH=>by exact eI Z Z jD Z (((oD L9 X).tot t10 ((hH 980 Z).trans Z) (fX _)).mono (PP':=fun ch H'=>wH t=false/\ch=H7/\∃q,H'=nC q++_) (fun _ _ h=>h) (fun ch H' ⟨e,e2,e3⟩=>⟨n10 e,e2,e3⟩)))) Z ?_;refine Pr [4] (fun _ h=>lh dV h)<|vI (r:=⟨_,some [980],nC L11⟩) (.pan Z (fun H1 hH=>by exact eI Z Z nF Z (((AC L10 X).tot t11 ((hH 980 Z).trans Z) (fX _)).mono (PP':=fun ch H'=>wH t=false/\ch=H7/\∃q,H'=nC q++_) (fun _ _ h=>h) (fun ch H' ⟨e,e2,e3⟩=>⟨n11 e,e2,e3⟩)))) Z ?_;refine Pr [2] (fun _ h=>fh CZ h)<|Pw [2] (fun _ h=>su V_ h)<|Pr [2] (fun _ h=>fh IH h)<|Pw [2] (fun _ h=>su sizeOf4 h)<|Pr [2] (fun _ h=>fh yC h)<|Pw [2] (fun _ h=>su sizeOf3 h)<|Pr [2] (fun _ h=>fh wR h)<|Pw [2] (fun _ h=>su V_ h)<|KW ⟨⟨by kernel_rfl,by rfl,by rfl⟩,fun A=>?_⟩;simp only[ZT,true_and,and_true]at A;refine S ?_;have K:=A;refine fZ.ent (E':=[(0,sv (b7 t)),(2,.ref 2 0 0 0),(3,.ref 3 0 0 0),(4,.ref 4 0 0 0)]) (H':=[(980,ib L11),(4,inO),(3,Bw 0),(2,Bt ⟨F,E,I,G,N,e_,u_,V8,decide (V9=BG),n,V11,zS,⟨a6,a6,[],[],zS⟩⟩)]) L_<|gL<|iO Z Z Z (aX Z dV Z Z Z Z Z)<|ZM Z Z Z (eI Z Z call102 Z (((rf L11 X).tot t12 Z (fX _)).mono (PP':=fun ch H'=>wH t=false/\ch=H7/\∃q,H'=nC q++_) (fun _ _ h=>h) (fun ch H' ⟨e,e2,e3⟩=>⟨n12 e,e2,e3⟩))) (fun ch H' h=>by obtain ⟨e,e2,q,rfl⟩:=h;exact rQ d_ e e2 Z Z ⟨_,Z,XX _⟩ ⟨_,Z,XW _⟩) (fun h58=>?_);refine iO Z Z Z (oC Z zL Z Z Z Z)<|Mk Z Z (qL Z sizeOf48 Z Z Z Z Z Z Z (r9 Z) Z Z)<|PK<|S ?_;refine fZ.ent (E':=[(0,sv (b7 t)),(2,.ref 2 0 0 0),(3,.ref 3 0 0 0),(4,.ref 4 0 0 0)]) (H':=[(980,ib L12),(4,inO),(3,Bw 0),(2,Bt ⟨F,E,I,G,N,e_,u_,V8,decide (V9=BG),n,V11,p,⟨a6,a6,[],[],zS⟩⟩)]) L_ ?_
 refine yK (fun ch H1 D=>wH t=false/\ch=H7/\∃q,D=nC q++H1) [2,3] [2,3] [] Z a7 (fun ch E1 H1 D hts hsh hks ⟨e,e2,q,e3⟩=>by subst e3;obtain ⟨o2,k1,k2⟩:=hsh 2 H_ _ Z;obtain ⟨o3,k3,k4⟩:=hsh 3 H_ _ Z;exact rQ d_ e e2 ((hts 2 H_).trans Z) ((hts 3 H_).trans Z) ⟨o2,k1,OS k2⟩ ⟨o3,k3,FS k4⟩) ?_;refine Pr [4] (fun _ h=>lh dV h)<|vI (r:=⟨_,some [980],nC L13⟩) (.pan Z (fun H1 hH=>by exact eI Z Z nF Z (((AC L12 X).tot t13 ((hH 980 Z).trans Z) (fX _)).mono (PP':=fun ch H'=>wH t=false/\ch=H7/\∃q,H'=nC q++_) (fun _ _ h=>h) (fun ch H' ⟨e,e2,e3⟩=>⟨n13 e,e2,e3⟩)))) Z ?_;refine Pr [4] (fun _ h=>lh dV h)<|vI (r:=⟨_,some [980],nC L14⟩) (.pan Z (fun H1 hH=>by exact eI Z Z nF Z (((AC L13 X).tot t14 ((hH 980 Z).trans Z) (fX _)).mono (PP':=fun ch H'=>wH t=false/\ch=H7/\∃q,H'=nC q++_) (fun _ _ h=>h) (fun ch H' ⟨e,e2,e3⟩=>⟨n14 e,e2,e3⟩)))) Z ?_;refine Pr [4] (fun _ h=>lh dV h)<|Pr [4] (fun _ h=>lh dV h)<|Pr [] (fun H1 hH=>by exact pB Z Z) ?_;refine vI (r:=⟨_,some [980],nC L15⟩) (.pan Z (fun H1 hH=>by exact eI Z Z AW Z (((Y1 L14 X).tot t15 ((hH 980 Z).trans Z) (fX _)).mono (PP':=fun ch H'=>wH t=false/\ch=H7/\∃q,H'=nC q++_) (fun _ _ h=>h) (fun ch H' ⟨e,e2,e3⟩=>⟨n15 e,e2,e3⟩)))) Z ?_;refine Pr [4] (fun _ h=>lh dV h)<|Pr [4] (fun H1 hH=>by exact gR Z Z) ?_;refine vI (r:=⟨_,some [980,4],nC L16⟩) (.pan Z (fun H1 hH=>by exact eI Z Z call103 Z (((Tk L15 X).tot t16 ((hH 980 Z).trans Z) (HN.sub ⟨(hH 4 Z).trans Z,T_⟩)).mono (PP':=fun ch H'=>wH t=false/\ch=H7/\∃q,H'=nC q++_) (fun _ _ h=>h) (fun ch H' ⟨e,e2,e3⟩=>⟨n16 e,e2,e3⟩)))) Z ?_;refine Pr [] (fun H1 hH=>by exact OK Z aEF Z Z)<|Pr [2] (fun _ h=>fh iC h)<|Pw [2] (fun _ h=>sx sizeOf51 h) ?_;refine KW ⟨⟨by kernel_rfl,by rfl,by rfl⟩,fun A=>?_⟩;simp only[ZT,true_and,and_true]at A;refine S ?_;have L:=A;refine fZ.ent (E':=[(0,sv (b7 t)),(2,.ref 2 0 0 0),(3,.ref 3 0 0 0),(4,.ref 4 0 0 0)]) (H':=[(980,ib L16),(4,inO),(3,Bw 0),(2,Bt ⟨F,E,I,G,N,e_,u_,V8,decide (V9=BG),n,V11,p,⟨B,w,z,s,zS⟩⟩)]) L_<|gL<|iO Z Z Z (aX Z dV Z Z Z Z Z)<|ZM Z Z Z (eI Z Z call102 Z (((rf L16 X).tot t17 Z (fX _)).mono (PP':=fun ch H'=>wH t=false/\ch=H7/\∃q,H'=nC q++_) (fun _ _ h=>h) (fun ch H' ⟨e,e2,e3⟩=>⟨n17 e,e2,e3⟩))) (fun ch H' h=>by obtain ⟨e,e2,q,rfl⟩:=h;exact rQ d_ e e2 Z Z ⟨_,Z,XX _⟩ ⟨_,Z,XW _⟩) (fun h74=>?_);refine iO Z Z Z (oC Z iC Z Z Z Z)<|iO Z Z Z (oC Z E4 Z Z Z Z)<|Mk Z Z (qL Z sizeOf48 Z Z Z Z Z Z Z (r9 Z) Z Z)<|PK<|S<|S ?_
 refine fZ.ent (E':=[(0,sv (b7 t)),(2,.ref 2 0 0 0),(3,.ref 3 0 0 0),(4,.ref 4 0 0 0)]) (H':=[(980,ib L17),(4,inO),(3,Bw 0),(2,Bt ⟨F,E,I,G,N,e_,u_,V8,decide (V9=BG),n,V11,p,⟨B,w,z,s,c_⟩⟩)]) L_ ?_;have hokt:=yes h16 f4.1 f4.2.1 f4.2.2.1 f4.2.2.2 f6.1 f6.2 h39 K.1 K.2.1 K.2.2.1 K.2.2.2 h58 L.1 L.2.1 L.2.2.1 L.2.2.2 h74;have hg1:dQ t=if TX=(b7 t,0)then(⟨F,E,I,G,N,e_,u_,V8,decide (V9=BG),n,V11,p,⟨B,w,z,s,c_⟩⟩,0)else(zR,5):=F_
 refine Rd (vC cF aY)<|Y (kc aEq (htx _))<|Y V<|Y dH<|Y dH<|Y U<|O U<|S<|aR (t:=88) (n:=8) (A_:=!decide (TX.2=0)||!decide (TX.1=b7 t)) ?_ ?_
 ·all_goals refine Y V<|Y AY<|Dm ?_<;>(refine Sp 84 (fun h84=>?_) fun h84=>?_)<;>(first|contradiction|refine M<|M<|M ?_|refine J V<|J V<|J GU ?_)<;>refine O cE ?_<;>exact Gj (h:=by(rw[h84];rfl))
 refine Cn ?_ ?_<;>intro x
 ·have hne:TX≠(b7 t,0):=by have:=x;rintro rfl;simp at this
  refine C (oO S3)<|Uu (iU aY)<|Uu (iU sizeOf25)<|Zz<|aC ?_;exact VL (by rw[hg1,a8 hne]) L_
 have heq:TX=(b7 t,0):=by have:=x;rw[q9,Bool.not_eq_false',Bool.not_eq_false',k_,k_]at this;exact Prod.ext this.2 this.1
 refine aA<|C (vC cF aY)<|Uu (iU aY)<|Uu (iU sizeOf25)<|Zz<|aC ?_;exact VL (by rw[hg1,b6 heq]) L_
open Go.Lib
theorem kX{α:Type}{f}{d:α}{l}{p}(h:f l=some p):LW f d l=p:=by rw[LW,h];rfl
theorem IL{l}(h:(jT l).2=true):(iB (jT l).1).1=l:=by
 rw[jT]at h |-
 split at h
 ·next a =>
  rw[List.eq_nil_of_length_eq_zero a];rfl
 next a =>
 rw[a8 a];exact congrArg _ (D9 (b9 h))
theorem Z8(b:Bool):decide (aQ (if b then 1 else 0)=BG)=b:=by cases b<;>kernel_rfl
def Ew(r:j7):List B_:=[]
def Ex(r:j7):List B_:=fI (.z r.priv.sl.idx r.priv.sl.sig r.priv.sl.path)++Ew r
def Ey(r:j7):List B_:=fI (.p r.priv.trace)++Ex r
def Ez(r:j7):List B_:=aQ (r.priv.sources.length:Int)::(r.priv.sources++Ey r)
def Fb(r:j7):List B_:=r.priv.reason::Ez r
def Fc(r:j7):List B_:=r.priv.name::Fb r
def Fe(r:j7):List B_:=fI (.z r.sl.idx r.sl.sig r.sl.path)++Fc r
def Ff(r:j7):List B_:=r.from'::Fe r
def Fg(r:j7):List B_:=aQ r.order::Ff r
def sf9(r:j7):List B_:=(aQ (if r.yes then 1 else 0))::Fg r
def sf8(r:j7):List B_:=r.target::sf9 r
def sf7(r:j7):List B_:=(jT r.edits).1::sf8 r
def sf6(r:j7):List B_:=aQ (r.parents.length:Int)::(r.parents++sf7 r)
def sf5(r:j7):List B_:=r.branch::sf6 r
def sf4(r:j7):List B_:=aQ r.clock::sf5 r
def sf3(r:j7):List B_:=aQ r.number::sf4 r
def sf2(r:j7):List B_:=aQ r.author::sf3 r
def sf1(r:j7):List B_:=aQ r.kind::sf2 r
def sf0(r:j7):List B_:=GK::sf1 r
theorem Mm(r):jI r=sf0 r:=by simp[jI,uV,yR,MA,LQ,fI,sf0,sf1,sf2,sf3,sf4,sf5,sf6,sf7,sf8,sf9,Fg,Ff,Fe,Fc,Fb,Ez,Ey,Ex,Ew]
theorem xq{r:j7}(h:VF r):wH (aM (jI r))=true/\JN (aM (jI r))=r:=by
 have hk:=BK h.k;have hau:=h.au;have hnu:=h.nu;have hcl:=h.cl;have hod:=h.order;have hpl:=h.pal;have b:=kU h.sl;have a:=kU h.psl;have s0:=b.i0;have s1:=b.i1;have s2:=b.sl;have s3:=b.pl;have z0:=a.i0;have z1:=a.i1;have z2:=a.sl;have z3:=a.pl;have hso:=h.sol;have htr:=h.trl;have A:=MK h.br;have d_:=P0 h.tx;have E:=h.target;have F:=h.from
 have D:=h.nm;have z:=h.rs;have f:∀ {l:List B_},(∀t∈l,l9 t=true)->∀t∈l,HP t:=fun z_ t y=>Nat.lt_of_le_of_lt (CW (z_ t y)) E_;rw[Mm];obtain ⟨t,y⟩:∃t,t=aM (sf0 r):=X_;rw[<-y];have N:oS t=some (GK,aM (sf1 r)):=by rw[y];exact mC _ (show GK.size<1000000000000000000 by decide)
 have q0:p0 t=(GK,aM (sf1 r)):=kX N;have o_:xC (p0 t).2=some (r.kind,aM (sf2 r)):=by rw[q0];exact mD _ X X
 have H:p1 t=(r.kind,aM (sf2 r)):=kX o_;have P:xC (p1 t).2=some (r.author,aM (sf3 r)):=by rw[H];exact mD _ X X
 have T:p2 t=(r.author,aM (sf3 r)):=kX P;have e_:xC (p2 t).2=some (r.number,aM (sf4 r)):=by rw[T];exact mD _ X X
 have A_:p3 t=(r.number,aM (sf4 r)):=kX e_;have u_:xC (p3 t).2=some (r.clock,aM (sf5 r)):=by rw[A_];exact mD _ X X
 have W:p4 t=(r.clock,aM (sf5 r)):=kX u_;have R:oS (p4 t).2=some (r.branch,aM (sf6 r)):=by rw[W];exact mC _ (Nat.lt_of_le_of_lt A E_)
 have c_:p5 t=(r.branch,aM (sf6 r)):=kX R;have f_:(CT oS) (p5 t).2=some (r.parents,aM (sf7 r)):=by rw[c_];exact CS _ _ (f h.pa) X
 have y_:p6 t=(r.parents,aM (sf7 r)):=kX f_;have Q:oS (p6 t).2=some ((jT r.edits).1,aM (sf8 r)):=by rw[y_];exact mC _ (Nat.lt_of_le_of_lt d_ E_)
 have G:p7 t=((jT r.edits).1,aM (sf8 r)):=kX Q;have v_:oS (p7 t).2=some (r.target,aM (sf9 r)):=by rw[G];exact mC _ (Nat.lt_of_le_of_lt E E_)
 have I:p8 t=(r.target,aM (sf9 r)):=kX v_;have L:oS (p8 t).2=some ((aQ (if r.yes then 1 else 0)),aM (Fg r)):=by rw[I];exact mC _ (NV (by split<;>decide) (by split<;>decide))
 have K:p9 t=((aQ (if r.yes then 1 else 0)),aM (Fg r)):=kX L;have p:xC (p9 t).2=some (r.order,aM (Ff r)):=by rw[K];exact mD _ X X
 have s:im t=(r.order,aM (Ff r)):=kX p;have n:oS (im t).2=some (r.from',aM (Fe r)):=by rw[s];exact mC _ (Nat.lt_of_le_of_lt F E_)
 have c:il t=(r.from',aM (Fe r)):=kX n;have o:xf (il t).2=some (r.sl,aM (Fc r)):=by rw[c];exact QL _ _ s0 X (f b.sa) (f b.pa) X X
 have u:cy t=(r.sl,aM (Fc r)):=kX o;have v:oS (cy t).2=some (r.priv.name,aM (Fb r)):=by rw[u];exact mC _ (Nat.lt_of_le_of_lt D E_)
 have j:ik t=(r.priv.name,aM (Fb r)):=kX v;have w:oS (ik t).2=some (r.priv.reason,aM (Ez r)):=by rw[j];exact mC _ (Nat.lt_of_le_of_lt z E_)
 have i:ig t=(r.priv.reason,aM (Ez r)):=kX w;have m:(CT oS) (ig t).2=some (r.priv.sources,aM (Ey r)):=by rw[i];exact CS _ _ (fun x hx=>Nat.lt_of_le_of_lt (h.so x hx) E_) X
 have e:ie t=(r.priv.sources,aM (Ey r)):=kX m;have k:(CT RJ) (ie t).2=some (r.priv.trace,aM (Ex r)):=by rw[e];exact mv _ _ (fun q hq=>by obtain ⟨⟨a1,a2⟩,a3,a4⟩:=h.tr q hq;exact⟨⟨X,X⟩,X,X⟩) X
 have d:ic t=(r.priv.trace,aM (Ex r)):=kX k;have g:xf (ic t).2=some (r.priv.sl,aM (Ew r)):=by rw[d];exact QL _ _ z0 X (f a.sa) (f a.pa) X X
 have B:Np t=(r.priv.sl,aM (Ew r)):=kX g;constructor
 ·unfold wH YR;rw[N,o_,P,e_,u_,R,f_,Q,v_,L,p,n,o,v,w,m,k,g];rfl
 unfold JN;rw[H,T,A_,W,c_,y_,G,I,K,s,c,u,j,i,e,d,B,IL h.tx,Z8]
theorem RM{r}{t}(h:mG r=(b7 t,0)):dQ t=(r,0):=by
 have e:=h;rw[mG]at h;by_cases a:gV r=true
 ·rw[b6 a]at h
  split at h
  ·cases h
  next c =>
  have f:t=aM (jI r):=by
   have:=congrArg (fun p=>p.1.data.toList) h;exact this.symm
  obtain ⟨d,b⟩:=xq (sF a);rw[<-f]at d b c;rw[dQ,a8 c,b,b6 ⟨d,e⟩]
 rw[a8 a]at h;cases h
theorem JV{t}(h:(dQ t).2=0):mG (dQ t).1=(b7 t,0):=by
 rw[dQ]at h |-
 grind
variable{α:Type}
def q7(l:List B_):List PV:=[aK l]
def sL(ls:List (List B_)):PV:=.sl (ls.map q7)
theorem K5{l:List α}{p}(h:∀j,j<l.length->∀b,l[j]?=some b->p b=true):l.all p=true:=by
 rw[List.all_eq_true];intro b a;obtain ⟨j,hj⟩:=r_.1 a
 grind
theorem PN{l:List α}{p}{i:Nat}{b}(hb:l[i]?=some b)(h:p b=false):l.all p=false:=G_
theorem FK{l:List _}{p:α->Bool}{i}{x}(h:∀j,j<i->∀b,l[j]?=some b->p b=true)(hx:l[i]?=some x)(hp:p x=true):∀j,j<i+1->∀b,l[j]?=some b->p b=true:=G_
end Go.Proofs.YtopnleflllkbmaaGreatDoor
namespace Go.Proofs.YtopnleflllkbmaaGreatDoor
open Go.Proofs.Tryz
open Go.Abs Go.Lib
theorem W6(s)(H):∀r∈fK s,∀a∈r,Clo H a:=by intro r d a c;obtain ⟨b,_,rfl⟩:=List.mem_map.1 d;rw[q_.1 c];exact .pv _
instance(s)(H):W_ (H) (fK s):=⟨W6 s H⟩
abbrev TX:B_:=⟨#[48,49,50,51,52,53,54,55,56,57]⟩
theorem Xv:∀q:Fin 10,(TX.extract q.1 (q.1+1)).data.toList=[UInt8.ofNat (48+q.1)]:=fun q=>by
 revert q;decide
theorem Dj{q}(h:q<10):TX.extract q (q+1)=b7 [UInt8.ofNat (48+q)]:=oK (by rw[Xv ⟨q,h⟩,cO])
theorem Ij(a b):b7 a++b7 b=b7 (a++b):=oK (Z)
def ZC(v:Nat):List UInt8:=if v=0 then[]else decDigits v
theorem zy{v}(h:0<v)(t):ZC (v / 10)++(UInt8.ofNat (48+v % 10)::t)=ZC v++t:=by
 have e:ZC v=decDigits v:=a8 X;rw[e,decDigits];by_cases a:v<10
 ·rw[dif_pos a,ZC,b6 X,Nat.mod_eq_of_lt a];rfl
 rw[dif_neg a,ZC,a8 X,List.append_assoc];rfl
theorem oe(n):ZC (n / 10)++[UInt8.ofNat (48+n % 10)]=decDigits n:=by
 rw[decDigits];by_cases a:n<10
 ·rw[dif_pos a,ZC,b6 X,Nat.mod_eq_of_lt a];rfl
 rw[dif_neg a,ZC,a8 X]
theorem bp(n:Nat)(hn:n<9223372036854775808)(H:aF):RC 136 [uv n] (sv (b7 (decDigits n))) H:=by
 refine Pu ?_;have step:∀v:Nat,v<18446744073709551616->((v:Nat):Int).tmod 10=((v % 10:Nat):Int)/\IntKind.u64.wrap (((v:Nat):Int).tdiv 10)=((v / 10:Nat):Int)/\IntKind.u64.wrap (((v % 10:Nat):Int)+1)=((v % 10+1:Nat):Int)/\v % 10<10/\v % 10+1<=TX.size:=fun v z=>by
  refine⟨by rfl,by rw[Int.tdiv_eq_ediv_of_nonneg X,IntKind.wrap_u64];omega,by rw[IntKind.wrap_u64];omega,Nat.mod_lt _ E_,?_⟩;have:TX.size=10:=rfl;omega
 obtain ⟨l,y,u,w,p⟩:=step n X;have e:=Dj w;have b:=oe n;obtain ⟨g,i⟩:∃g,g=n % 10:=X_;rw[<-i]at l u w p e b;refine Bd func136 Z ntmps136<|Sz U<|C V<|Y (zE Z Z Z E_ l)<|Y V<|Y (zE Z Z Z E_ l)<|Y (ka u)<|Y (bT (l:=g) (h:=g+1) Z U_ Z Z Z X p e)<|O U<|S<|C V<|Y (CM Z Z Z E_ y)<|O U<|aD<|fR (fun(v:Nat) (t:List UInt8)=>([(0,uv v),(3,sv (b7 t))],[])) (fun v t=>v<9223372036854775808/\ZC v++t=decDigits n) (fun v t=>v) (n / 10) [UInt8.ofNat (48+g)] ⟨X,b⟩ ?_ ?_
 ·exact Wk
 rintro v t ⟨z,d⟩;obtain ⟨j,x,s,q,o⟩:=step v X;have e:=Dj q;have hlen:t.length<=21:=by
  have B:=congrArg List.length d;rw[j9]at B;have h2:=cU (k:=19) (u:=n) X E_;omega
 by_cases A:0<v
 ·have c:=zy A t;rw[d]at c;obtain ⟨g,i⟩:∃g,g=v % 10:=X_;rw[<-i]at j s q o e c;refine S<|C V<|O iY<|Cn ?_ ?_<;>intro f
  ·refine aA<|S<|aD<|Rd V<|Y (zE Z Z Z E_ j)<|Y V<|Y (zE Z Z Z E_ j)<|Y (ka s)<|Y (bT (l:=g) (h:=g+1) Z U_ Z Z Z X o e)<|Y V<|Y (by exact eW Z Z Z (by rw[cB,cB,List.length_singleton];omega) (Ij [UInt8.ofNat (48+g)] t))<|O U<|Rd V<|Y (CM Z Z Z E_ x)<|Da ?_;exact⟨v / 10,UInt8.ofNat (48+g)::t,⟨X,c⟩,X,Wk⟩
  (have h:=b_ f;omega)
 have k:v=0:=X
 subst k;have d_:t=decDigits n:=d;subst d_;refine S<|C V<|O iY<|Cn ?_ ?_<;>intro m
 ·cases m
 exact aP<|C V<|O U<|aC<|Rt<|Qq
theorem QW(n:Nat)(d:n<9223372036854775808)(H):RC 84 [iv n] (sv (b7 (decDigits n))) H:=by
 refine Pu ?_;have c:=fun H=>bp n d H;refine Bd func84 Z ntmps84<|Sz U<|S<|C V<|O cM<|Cn ?_ ?_<;>intro b
 ·(have h:=b9 b;omega)
 exact aA<|C V<|Y (eP Z underlying3 gF Z (ae X))<|Y (bF Z Z call136 Z (c _))<|O U<|aC<|Rt<|Qq
def JB(L:List B_):Nat:=(L.map fun s=>s.size+21).sum
theorem wi(L)(s):JB (L++[s])=JB L+(s.size+21):=by rw[JB,List.map_append,List.sum_append];rfl
theorem qt:∀ {L},(∀s∈L,s.size<=100000000)->JB L<=L.length*100000021
 | [],_=>l6 _
 |s::r,h=>by
  have ih:=qt (fun x a=>h x (List.mem_cons_of_mem _ a));show s.size+21+JB r<=_
  grind
theorem WD:∀ {L},(∀s∈L,s.size<=100000000)->(aM L).length<=JB L
 | [],_=>l6 _
 |s::r,h=>by
  have ih:=WD (fun x a=>h x (List.mem_cons_of_mem _ a));have hs:=h s List.mem_cons_self;have hd:=cU (k:=9) (u:=s.size) X H_;rw[gZ,j9,j8,j9,aT];show _<=s.size+21+JB r;omega
theorem dx(L)(s):aM (L++[s])=(aM L++decDigits s.size)++[58]++s.data.toList:=by
 rw[dy,gZ];show aM L++(decDigits _++58::(s.data.toList++[]))=_
 simp_all
theorem U5(L:List B_)(hL:L.length<=100000)(t:∀s∈L,s.size<=100000000)(H:aF):RC 85 [.pv (aK L)] (sv (b7 (aM L))) H:=by
 refine Pu ?_;have hml:(L.map S_).length=L.length:=h_ _;have f:∀i,JB (L.take i)<=10000002100000:=fun i=>by
  have h1:=qt (L:=L.take i) (fun s h=>t s (List.mem_of_mem_take h));have B:(L.take i).length<=100000:=by grind
  have h3:=Nat.mul_le_mul_right 100000021 B;omega
 have n:∀i,(aM (L.take i)).length<=JB (L.take i):=fun i=>WD fun s h=>t s (List.mem_of_mem_take h);refine Bd func85 Z ntmps85<|Sz U<|Sz U<|S<|Sz U<|aD<|bC (σ:=Nat) (fun i=>([(0,.pv (aK L)),(3,iv (JB (L.take i):Int)),(4,iv (i:Int))],[])) (fun i=>i<=L.length) (fun i=>L.length - i) 0 (l6 _) ?_ ?_
 ·exact Wk
 intro i A;have y:=f i;refine S<|C V<|Y V<|Y (fV aE)<|O cM<|Cn ?_ ?_<;>intro q
 ·have g:i<L.length:=by have:=b9 q;omega
  obtain ⟨s,c⟩:=aU g;have e:=cC (f:=S_) c;have w:=t s (m7 c);have d:JB (L.take (i+1))=JB (L.take i)+(s.size+21):=by rw[fN c,wi]
  refine aA<|S<|aD<|Rd V<|Y V<|Y V<|Y (by exact bU Z bH Z Z (by omega) (by rfl) e Z)<|Y (fY N_)<|Y (gM U_)<|Y (by exact eQ Z Z Z (show IntKind.i64.wrap ((s.size:Int)+21)=((s.size+21:Nat):Int)by rw[qD (by omega) (by omega)];omega))<|Y (by exact eQ Z Z Z (show IntKind.i64.wrap ((JB (L.take i):Int)+((s.size+21:Nat):Int))=((JB (L.take (i+1)):Nat):Int)by rw[d,qD (by omega) (by omega)];omega))<|O U<|Rd V<|Y kp<|Da ?_;exact⟨i+1,by omega,by omega,Wk⟩
 have j:i=L.length:=by have:=b_ q;omega
 refine aP<|C V<|Y (by exact D0 (id:=905) Z A5 Wr zo5 Z Z Z (by omega) (by omega) (by exact l8 _) (by exact l8 _) (by omega) Z)<|O U<|S<|Sz U<|aD<|bC (σ:=Nat) (fun i=>([(0,.pv (aK L)),(5,.osl 905 (3*i) 0 (aM (L.take i)).length),(6,iv (i:Int))],[(905,⟨3*i,1,5,fK (aM (L.take i))⟩)])) (fun i=>i<=L.length) (fun i=>L.length - i) 0 (l6 _) ?_ ?_
 ·exact(cJ.wk (Eb<|Ea<|Eb<|T_) (Hc (W6 _ _)<|T_) T_)
 clear j y A;intro i A;have y:=f i;have z:=n i;have hb2:=f (i+1);have hj2:=n (i+1);refine S<|C V<|Y V<|Y (fV aE)<|O cM<|Cn ?_ ?_<;>intro k
 ·have g:i<L.length:=by have:=b9 k;omega
  obtain ⟨s,c⟩:=aU g;have e:=cC (f:=S_) c;have w:=t s (m7 c);have l:=fun H=>QW s.size (by omega) H;have d:aM (L.take (i+1))=(aM (L.take i)++decDigits s.size)++[58]++s.data.toList:=by rw[fN c,dx]
  have hdl:=cU (k:=9) (u:=s.size) (by omega) (by decide);obtain ⟨c_,u⟩:∃c_,c_=aM (L.take i):=X_;rw[<-u]at d z |-;have m:=cB (decDigits s.size);have v:(fK (c_++decDigits s.size)).length=c_.length+(decDigits s.size).length:=by rw[rY,j9]
  have x:(fK ((c_++decDigits s.size)++[58])).length=c_.length+(decDigits s.size).length+1:=by rw[rY,j9,j9];rfl
  refine aA<|S<|aD<|C V<|Y V<|Y V<|Y (kx bH e)<|Y (fY N_)<|Y (gM U_)<|Y (kc jE (l _))<|Y (by exact wD (rows':=fK (c_++decDigits s.size)) (k:=c_.length+(decDigits s.size).length) Z A5 U_ Wr OJ Z Z Z Z Z (rY c_) Z (by rw[m];omega) (by rw[m]) (by rw[cO];exact uF c_ (decDigits s.size)))<|O U<|C V<|Y (by exact aL [[.int .u8 58]] Z A5 Z Z Z Z Z (by simp))<|Y (by exact cA (k:=c_.length+(decDigits s.size).length+1) (ps:=[[.int .u8 58]]) Z A5 Wr Z Z Z Z Z v Z (by simp) (m:=1) Z (by omega) Z (uF (c_++decDigits s.size) [58]))<|O U<|Rd V<|Y V<|Dm ?_;refine Y (iM bH)<|Y (fY N_ (hi:=e))<|Y (by exact wD (k:=c_.length+(decDigits s.size).length+1+s.size) Z A5 U_ Wr OJ Z Z Z Z Z x Z (by omega) Z (uF ((c_++decDigits s.size)++[58]) s.data.toList))<|O U<|Rd V<|Y kp<|Da ?_;refine⟨i+1,by omega,by omega,?_⟩;rw[d];have o:(c_++decDigits s.size++[58]++s.data.toList).length=c_.length+(decDigits s.size).length+1+s.size:=by
   rw[j9,j9,j9,aT];rfl
  rw[o];exact(cJ.wk (Eb<|Ea<|Eb<|T_) (Hc (W6 _ _)<|T_) T_)
 have j:i=L.length:=by have:=b_ k;omega
 subst j;rw[List.take_length]at z |-;obtain ⟨c_,u⟩:∃c_,c_=aM L:=X_;rw[<-u];have p:((fK c_).drop 0).take c_.length=fK c_:=by rw[List.drop_zero,List.take_of_length_le (by rw[rY];exact j6 _)]
 exact aP<|C V<|Y (by exact T8 Z dB dM U_ Z Z Z Z p Z)<|O U<|aC<|Rt<|Qq
theorem US{r}{a b}(h:gV r=true)(ha:kV a=true)(hb:kV b=true):gV (Ir r a b)=true:=by simp[gV,j0,r8]at h |-;obtain ⟨⟨⟨⟨c,f⟩,g⟩,e⟩,d⟩:=h;refine⟨⟨⟨⟨?_,f⟩,g⟩,e⟩,d⟩;simp only[qh,q9]at c |-;obtain ⟨⟨c,_⟩,_⟩:=c;exact⟨⟨c,by show (!kV b)=false;simp_all⟩,by show (!kV a)=false;simp_all⟩
theorem Ug:kV zS=true:=E_
theorem aCg{s}(h:FSeal s)(hl:s.sig.length=18):kV s=true:=by have b:=h.i0;have a:=h.i1;have l2:=h.pl;rw[kV,h_,h_,decide_eq_true b,decide_eq_true a,decide_eq_true X,decide_eq_true X,List.all_eq_true.2 h.sa,List.all_eq_true.2 h.pa];simp
theorem QM{s m}{h i}(a:(OT s h i m).2=0):kV (OT s h i m).1=true:=by obtain ⟨f,e,_⟩:=jw a;refine aCg f ?_;rw[e];rfl
theorem dm{r x}(h:G7 r=(x,0)):x=r/\(mG r).2=0:=by
 rw[G7]at h
 grind
structure Made(r x:j7)(s:B_)(h:Int):Prop where
 v0:gV (NR r)=true
 a0:(OT s h (2*r.number - 2) (G9 (NR r))).2=0
 tx:(mG x).2=0
 e:(uC r.priv=true/\x=mk1 r (OT s h (2*r.number - 2) (G9 (NR r))).1)\/(uC r.priv=false/\(OT s h (2*r.number - 1) (YW (NR r))).2=0/\x=Ir r (OT s h (2*r.number - 2) (G9 (NR r))).1 (OT s h (2*r.number - 1) (YW (NR r))).1)
theorem Ti{r x}{s}{h}(a:NS r s h=(x,0)):Made r x s h:=by
 rw[NS]at a
 split at a
 ·cases a
 next h1 =>
 split at a
 ·next c =>
  have:=congrArg Prod.snd a;exact absurd this c
 next c =>
 have c:(OT s h (2*r.number - 2) (G9 (NR r))).2=0:=X
 split at a
 ·next e =>
  obtain ⟨b,d⟩:=dm a;exact⟨F_,c,b▸d,.inl ⟨e,b⟩⟩
 next e =>
 split at a
 ·next f =>
  have:=congrArg Prod.snd a;exact absurd this f
 next f =>
 obtain ⟨b,d⟩:=dm a;refine⟨F_,c,b▸d,.inr ⟨F_,?_,b⟩⟩;omega
theorem Made.valid{r x}{s}{h}(a:Made r x s h):gV x=true:=by
 rcases a.e with⟨_,e⟩|⟨_,b,e⟩
 ·rw[e];exact US (r:=NR r) a.v0 (QM a.a0) Ug
 rw[e];exact US (r:=NR r) a.v0 (QM a.a0) (QM b)
theorem Made.text{r x}{s}{h}(b:Made r x s h):mG x=(b7 (aM (jI x)),0):=by
 have a:=b.tx;rw[mG,b6 b.valid]at a |-
 split at a
 ·cases a
 next c=>rw[a8 c]
theorem Made.parse{r x}{s}{h}(a:Made r x s h):dQ (aM (jI x))=(x,0):=RM a.text
theorem cL.val{P}{N}{o}{E}{H H'}{b a}(h:cL P N o E H (.pv (.bool b)) H')(e:b=a):cL P N o E H (.pv (.bool a)) H':=e▸h
def Pk(c:UInt8):B_:=⟨#[c]⟩
def Wl(c:UInt8):j_:=⟨Pk c,1,(c.toNat:Int),0,[],[]⟩
def cs3:List UInt8:=[97,98,99]
def aD5:j_:=⟨Pk 119,2,0,0,cs3.map Pk,[]⟩
def s0:List j_:=cs3.map Wl++[aD5]
def x1:List j_:=cs3.map Wl++[⟨Pk 118,2,0,0,[Pk 98,Pk 99],[]⟩,⟨Pk 119,2,0,0,[Pk 97,Pk 98],[]⟩]
end Go.Proofs.YtopnleflllkbmaaGreatDoor
section
namespace Go.Proofs.YtopnleflllkbmaaGreatDoor
open Go.Proofs.Tryz
open Go.Abs
structure M3 where
 k:B_
 b:B_
 o:B_
 t:B_
end Go.Proofs.YtopnleflllkbmaaGreatDoor
namespace Go.Abs

end Go.Abs
namespace Go.Proofs.YtopnleflllkbmaaGreatDoor
open Go.Proofs.Tryz
open Go.Abs

end Go.Proofs.YtopnleflllkbmaaGreatDoor
end
namespace Go.Proofs.YtopnleflllkbmaaGreatDoor
open Go.Proofs.Tryz
open Go.Abs
def m1(p:M3):B_×Bool:=if p.t=p.o then(p.o,false)else if p.t=p.b then(p.o,false)else if p.o=p.b then(p.t,false)else(p.b,true)
instance decMemB(s:B_)(l:List B_):Decidable (s∈l):=decidable_of_iff (uf l s=true) Tv
def zs(down:Bool):List Int:=if down then[2,1,0]else[0,1,2]
def aDv(m:List j_)(down:Bool):List j_:=(zs down).flatMap fun z=>m.filter fun o=>decide (o.kind.tdiv 2=z)
def aA9(b:List j_)(o:j_):Bool:=match aDu b o.id with
 |some p=>!decide (p.kind=o.kind)||(decide (o.kind=5)&&!decide (o.refs=p.refs))
 |none=>false
def rnB(b:List j_)(A_:List B_)(o:j_):Bool:=aA9 b o||o.refs.any (uf A_)
def rnL(b:List j_):List B_->List j_->List B_
 |A_,[]=>A_
 |A_,o::L=>rnL b (if rnB b A_ o then A_++[o.id]else A_) L
def aDQ(a b:List j_):List B_:=rnL b [] (aDv a false)
section
section
variable{a b:List j_}
def c1(k:j_×j_):j_:=⟨k.1.id,k.1.kind,k.2.x,k.2.y,k.1.refs,k.1.tags⟩
def c2(k:j_×j_):j_:=⟨k.1.id,k.1.kind,k.2.x,k.2.y,k.2.refs,k.1.tags⟩
def c3(k:j_×j_):j_:=⟨k.1.id,k.1.kind,k.2.x,k.2.y,k.2.refs,k.2.tags⟩
end
end
theorem cL.valY{P}{N}{o}{E}{H H'}{b a}(h:cL P N o E H (.pv (.bool b)) H')(e:b=a):cL P N o E H (.pv (.bool a)) H':=e▸h
end Go.Proofs.YtopnleflllkbmaaGreatDoor
namespace Go.Proofs.YtopnleflllkbmaaGreatDoor
open Go.Proofs.Tryz
section
def Xu(u:List Nat)(i:Nat):Nat:=u.getD i i
def aB4:Nat->List Nat->Nat->Nat
 |0,_,i=>i
 |n+1,u,i=>if Xu u i=i then i else aB4 n u (Xu u i)
def top(u:List Nat)(i:Nat):Nat:=aB4 i u i
def aEI(u:List Nat):Prop:=∀i,Xu u i<=i
def Inv(L:Nat->Nat->Prop)(f:Nat->Nat):Prop:=∀i k,L i k->f i=f k
structure Snd(L:Nat->Nat->Prop)(u:List Nat):Prop where
 ok:aEI u
 sn:∀f,Inv L f->∀x,f (top u x)=f x
section
variable{f_:Type}[DecidableEq f_]
def Uh:List (f_×Nat)->f_->Option Nat
 | [],_=>none
 |(k,v)::r,s=>if k=s then some v else Uh r s
structure I1(L:Nat->Nat->Prop)(W:Nat->List f_)(k m:Nat)(st:List Nat×List (f_×Nat)):Prop where
 len:st.1.length=m
 snd:Snd L st.1
 at_:∀s j,Uh st.2 s=some j->j<m/\s∈W j
 has:∀j,j<k->∀s,s∈W j->(Uh st.2 s).isSome=true
structure I2(L:Nat->Nat->Prop)(F:List (f_×Nat))(N:Nat->List f_)(n k:Nat)(u:List Nat):Prop where
 len:u.length=n
 snd:Snd L u
 same:∀i,i<k->∀s,s∈N i->∀j,Uh F s=some j->top u i=top u j
end
end
def Wg(f:Nat->Nat)(n:Nat):List Nat:=(List.range n).filter fun i=>f i=i
def grp(f:Nat->Nat)(n r:Nat):List Nat:=(List.range n).filter fun j=>f j=r
def aDx(f:Nat->Nat)(n:Nat):List (List Nat):=(Wg f n).map (grp f n)
def aEc(f:Nat->Nat)(n x:Nat):Nat:=(Wg f n).idxOf (f x)
end Go.Proofs.YtopnleflllkbmaaGreatDoor
namespace Go.Proofs.YtopnleflllkbmaaGreatDoor
open Go.Proofs.Tryz
open Go.Abs
theorem NY{l}(h:lD l=true):0<l.length/\l.length<=200/\∀e∈l,fT e=true:=by
 rw[lD,j0]at h
 grind
open Go.Lib
theorem Yp(u:Nat):∀H,u<1000000000->RC 222 [iv (u:Int)] (sv (b7 (decDigits u))) H:=by
 induction u using Nat.strongRecOn with
 | ind u g =>
  intro H hu;refine Pu<|Bd func222 Z ntmps222<|Sz U<|S<|C V<|O cM<|Cn ?_ ?_<;>intro d
  ·have f:u<10:=I_ d
   have h10:(⟨#[48,49,50,51,52,53,54,55,56,57]⟩:B_).size=10:=rfl;have i:(⟨#[48,49,50,51,52,53,54,55,56,57]⟩:B_).extract u (u+1)=b7 (decDigits u):=by
    rw[decDigits,dif_pos f];have h:u=0\/u=1\/u=2\/u=3\/u=4\/u=5\/u=6\/u=7\/u=8\/u=9:=X
    rcases h with rfl|rfl|rfl|rfl|rfl|rfl|rfl|rfl|rfl|rfl<;>rfl
   exact C V<|Y V<|Y gT<|Y (bT (l:=u) (h:=u+1) Z U_ Z Z Z X X i)<|O U<|aC<|Rt<|Qq
  have f:¬ u<10:=J_ d
  have j:IntKind.i64.wrap ((u:Int).tdiv 10)=((u / 10:Nat):Int):=by
   rw[show (u:Int).tdiv 10=((u / 10:Nat):Int)from rfl];exact qD X X
  have hs1:(b7 (decDigits (u / 10))).size<=9:=by rw[cB];exact cU X E_
  have hs2:(b7 (decDigits (u % 10))).size<=1:=by rw[cB];exact cU X E_
  have k:b7 (decDigits (u / 10))++b7 (decDigits (u % 10))=b7 (decDigits u):=nw (by
   rw[show (b7 (decDigits (u / 10))++b7 (decDigits (u % 10))).data.toList=(b7 (decDigits (u / 10))).data.toList++(b7 (decDigits (u % 10))).data.toList by simp,cO,cO,cO];rw[show decDigits u=decDigits (u / 10)++[UInt8.ofNat (48+u % 10)]by rw[decDigits,dif_neg f]];congr 1;rw[decDigits,dif_pos X])
  exact aA<|C V<|Y (CM Z Z Z E_ j)<|Y (kc GR (g (u / 10) X _ X))<|Y V<|Y (zE Z Z Z E_ (rfl:(u:Int).tmod 10=((u % 10:Nat):Int)))<|Y (kc GR (g (u % 10) X _ X))<|Y (eW Z Z Z X k)<|O U<|aC<|Rt<|Qq
theorem BL{a:List _}{k}{w}(h:a[k]?=some w):b7 (bQ [32] (bs (a.take (k+1))))=(if 0<k then b7 (bQ [32] (bs (a.take k)))++⟨#[32]⟩else b7 (bQ [32] (bs (a.take k))))++w:=by
 have b:=(m_.1 h).1;refine nw ?_;rw[List.take_add_one,h,bs];cases k with
 |zero =>
  simp[bQ,bs,b7]
 | succ k =>
  cases a with
  |nil=>cases b
  |cons x l =>
   simp[b7,bs,bQ]
theorem FI(a:List B_)(H:aF)(hb:cX a+a.length<2^40):RC 221 [.pv (aK a)] (sv (b7 (bQ [32] (bs a)))) H:=by
 refine Pu ?_;have hmw:(a.map S_).length=a.length:=h_ _;refine Bd func221 Z ntmps221<|Sz U<|Sz U<|S<|Sz U<|aD<|bC (σ:=Nat) (fun k=>([(0,.pv (aK a)),(3,sv (b7 (bQ [32] (bs (a.take k))))),(4,iv (k:Int))],[])) (fun k=>k<=a.length) (fun k=>a.length - k) 0 (l6 _) ?_ ?_
 ·exact Wk
 rintro k hk;have hsz:(b7 (bQ [32] (bs (a.take k)))).size<=cX a+a.length:=by
  rw[cB];have m:=fP (a.take k);have n:=nY a k;have h3:(a.take k).length<=a.length:=F_
  omega
 refine S<|C V<|Y V<|Y (fV aE)<|O cM<|Cn ?_ ?_<;>intro g
 ·have h:k<a.length:=I_ g
  obtain ⟨w,j⟩:=aU h;have hiw:=cC (f:=S_) j;have d:=BL j;have hws:w.size<=cX a:=by
   have m:=xL j;have n:=nY a (k+1);omega
  have h32:(⟨#[32]⟩:B_).size=1:=rfl;have hs2:(b7 (bQ [32] (bs (a.take k)))++⟨#[32]⟩).size=(b7 (bQ [32] (bs (a.take k)))).size+1:=F_
  refine aA<|S<|aD<|S<|C V<|O iY<|Cn ?_ ?_<;>intro f
  ·have i:0<k:=I_ f
   rw[b6 i]at d;refine Rd V<|Y kq<|O U<|Rd V<|Y V<|Y V<|Y (iM bH)<|Y (fY N_)<|Y kq<|O U<|Rd V<|Y gT<|Da ?_;refine⟨k+1,X,X,?_⟩;rw[d];exact Wk
  have i:¬ 0<k:=J_ f
  rw[a8 i]at d;refine aA<|Rd V<|Y V<|Y V<|Y (iM bH)<|Y (fY N_)<|Y kq<|O U<|Rd V<|Y gT<|Da ?_;refine⟨k+1,X,X,?_⟩;rw[d];exact Wk
 have l:k=a.length:=J_ g
 subst l;rw[List.take_length];exact aP<|C V<|O U<|aC<|Rt<|Qq
def SG(s:B_)(n:Int):Bool:=(List.range s.size).any fun j=>decide (bA s j=n)
theorem Jz(s)(n:Int)(H:aF)(hs:s.size<2^62):RC 262 [sv s,.pv (.int .u8 n)] (bv (SG s n)) H:=by
 refine Pu<|Bd func262 Z ntmps262<|Sz U<|S<|Sz U<|aD<|bC (σ:=Nat) (fun k=>([(0,sv s),(1,.pv (.int .u8 n)),(5,iv (k:Int))],[])) (fun k=>k<=s.size/\∀j,j<k->decide (bA s j=n)=false) (fun k=>s.size - k) 0 ⟨X,X⟩ ?_ ?_
 ·exact E0
 rintro k ⟨hk,e⟩;refine S<|C V<|Y V<|Y (gM U_)<|O cM<|Cn ?_ ?_<;>intro b
 ·have f:k<s.size:=I_ b
  refine aA<|S<|aD<|C V<|Y V<|Y (cV Z U_ Z Z X (Z) X Z)<|Y V<|O cD<|Cn ?_ ?_<;>intro c
  ·refine Sz U<|aC<|Rt ?_;exact⟨by rw[SG,tX f c],Z⟩
  refine aA<|Rd V<|Y gT<|Da ?_;refine⟨k+1,⟨X,fun j hj=>?_⟩,X,E0⟩
  grind
 have d:k=s.size:=J_ b
 subst d;refine aP<|Sz U<|aC<|Rt ?_;exact⟨by rw[SG,BB e],Z⟩
theorem Ua:∀n:Fin 256,(SG ⟨#[32,9,10]⟩ (n.val:Int)=decide (yG (n.val)=1))/\(decide ((n.val:Int)=35)=decide (yG (n.val)=2))/\(SG ⟨#[59,44,46,58,40,41,123,125,91,93,61,60,62,47,45]⟩ (n.val:Int)=decide (yG (n.val)=6))/\(decide ((n.val:Int)=34)=decide (yG (n.val)=7))/\(SG ⟨#[92,34,110]⟩ (n.val:Int)=(sT (UInt8.ofNat n.val)).isSome):=by decide +kernel
theorem Y8(s)(k):(SG ⟨#[32,9,10]⟩ (bA s k)=decide (yG (bA s k)=1))/\(decide (bA s k=35)=decide (yG (bA s k)=2))/\(SG ⟨#[59,44,46,58,40,41,123,125,91,93,61,60,62,47,45]⟩ (bA s k)=decide (yG (bA s k)=6))/\(decide (bA s k=34)=decide (yG (bA s k)=7))/\(SG ⟨#[92,34,110]⟩ (bA s k)=(sT (oV s k)).isSome):=by
 have h:=Ua ⟨(bA s k).toNat,BU s k⟩;have e:UInt8.ofNat (bA s k).toNat=oV s k:=by rw[tB,l8,UInt8.ofNat_toNat]
 rw[e]at h;exact h
theorem szW(w:List _):(⟨w.toArray⟩:B_).size=w.length:=rfl
theorem FB(w)(t):(⟨w.toArray⟩:B_)++t=⟨(w++t.data.toList).toArray⟩:=oK (Z)
theorem fg{s}{i}(h:i<s.size):(s.extract i (i+1)).data.toList=[oV s i]:=by rw[gS,Nat.add_sub_cancel_left,yE h];rfl
theorem qv(s:B_)(f:Nat)(H:aF)(hs:s.size<2^40)(ha:f<s.size):RC 263 [sv s,iv (f:Int)] (.tup [sv (xG (nX (s.data.toList.drop (f+1))) [] (f+1)).1,iv (xG (nX (s.data.toList.drop (f+1))) [] (f+1)).2,bv (nX (s.data.toList.drop (f+1))).isSome]) H:=by
 refine Pu ?_;obtain ⟨j,x⟩:∃j,j=xG (nX (s.data.toList.drop (f+1))) [] (f+1):=X_;obtain ⟨ok,E⟩:∃ok,ok=(nX (s.data.toList.drop (f+1))).isSome:=X_;rw[<-x,<-E];refine Bd func263 Z ntmps263<|C U<|Y U<|O U<|Sz U<|S<|C V<|Y gT<|O U<|aD<|fR (fun(i:Nat) (w:List UInt8)=>([(0,sv s),(7,sv ⟨w.toArray⟩),(8,iv (i:Int))],[])) (fun i w=>w.length<=i/\i<2199023255552/\j=xG (nX (s.data.toList.drop i)) w i/\ok=(nX (s.data.toList.drop i)).isSome) (fun i w=>s.size+1 - i) (f+1) [] ⟨l6 _,X,x,E⟩ ?_ ?_
 ·exact E0
 rintro i w ⟨hwl,hib,d,a⟩;have hsw:=szW w;refine S<|C V<|Y V<|Y (gM U_)<|O cM<|Cn ?_ ?_<;>intro e_
 ·have F:i<s.size:=I_ e_
  have o:=yE F;have Q:=fg F;have L:(⟨w.toArray⟩:B_)++s.extract i (i+1)=⟨(w++[oV s i]).toArray⟩:=by rw[FB,Q]
  have hxs:=fQ s i (i+1);refine aA<|S<|aD<|C V<|Y V<|Y (ky U_)<|O U<|S<|C V<|O cD<|Cn ?_ ?_<;>intro N
  ·have n:oV s i=34:=b9 (BV (n:=34) E_ N);have t:j=(⟨w.toArray⟩,((i+1:Nat):Int)):=by rw[d,o,n,B4,xG,List.append_nil]
   have g:ok=true:=by rw[a,o,n,B4];rfl
   rw[t,g];refine C V<|Y V<|Y gT<|Y U<|Y U<|O U<|aC<|lX (H':=[]) (.inr Z) Z (aJ Z) (aJ Z) (aJ Z) P_ Qq
  have y:oV s i≠34:=b_ (BV (n:=34) E_ N);refine aA<|S<|C V<|O cD<|Cn ?_ ?_<;>intro K
  ·have n:oV s i=10:=b9 (BV (n:=10) E_ K);have t:j=(a6,0):=by rw[d,o,n,LK,xG]
   have g:ok=false:=by rw[a,o,n,LK];rfl
   rw[t,g];refine C U<|Y U<|O U<|aC<|lX (H':=[]) (.inr Z) Z (aJ Z) (aJ Z) (aJ Z) P_ Qq
  have v:oV s i≠10:=b_ (BV (n:=10) E_ K);refine aA<|S<|C V<|O AY<|Cn ?_ ?_<;>intro hc4
  ·have z:oV s i≠92:=by
    have h:decide (bA s i=92)=false:=F_
    exact b_ (BV (n:=92) E_ h)
   refine C V<|Y V<|Y V<|Y V<|Y gT<|Y (bT (l:=i) (h:=(i+1)) Z U_ Z Z Z X X Z)<|Y (eW Z Z Z X L)<|O U<|aP<|Rd V<|Y gT<|Da ?_;refine⟨i+1,w++[oV s i],⟨F_,X,?_,?_⟩,X,E0⟩
   ·rw[d,o,B5 y v z,A3]
   rw[a,o,B5 y v z,Option.isSome_map]
  have n:oV s i=92:=by
   have h:decide (bA s i=92)=true:=F_
   exact b9 (BV (n:=92) E_ h)
  by_cases c_:i+1<s.size
  ·have p:decide ((s.size:Int)<=(i:Int)+1)=false:=decide_eq_false X;have q:=yE c_;have G:=(Y8 s (i+1)).2.2.2.2;have P:=fg c_;have hxs2:=fQ s (i+1) (i+1+1);have B:(⟨w.toArray⟩:B_)++s.extract (i+1) (i+1+1)=⟨(w++[oV s (i+1)]).toArray⟩:=by rw[FB,P]
   have A:(⟨w.toArray⟩:B_)++⟨#[10]⟩=⟨(w++[10]).toArray⟩:=by rfl
   refine aA<|C V<|Y gT<|O U<|S<|C V<|Y V<|Y (gM U_)<|Y (cL.valY (jK Z Z Z) (p))<|Y V<|J V<|J V<|J (ky U_)<|J (bF Z Z aEM Z (Jz ⟨#[92,34,110]⟩ (bA s (i+1)) _ E_))<|J iT<|O cE<|Cn ?_ ?_<;>intro R
   ·have f_:sT (oV s (i+1))=none:=by
     simp_all
    have t:j=(a6,0):=by rw[d,o,n,q,uL,f_];rfl
    have g:ok=false:=by rw[a,o,n,q,uL,f_];rfl
    rw[t,g];refine C U<|Y U<|O U<|aC<|lX (H':=[]) (.inr Z) Z (aJ Z) (aJ Z) (aJ Z) P_ Qq
   obtain ⟨b,l⟩:∃b,sT (oV s (i+1))=some b:=by
    rw[G]at R;cases l:sT (oV s (i+1))with
    |none=>simp_all
    |some b=>simp_all
   refine aA<|C V<|Y V<|Y (ky U_)<|O cD<|Cn ?_ ?_<;>intro I
   ·have D:oV s (i+1)=110:=b9 (BV (n:=110) E_ I);have d_:b=10:=by rw[D]at l;exact(Option.some.inj l).symm
    refine Rd V<|Y (by exact eW Z Z Z (by show (⟨w.toArray⟩:B_).size+1<=_;omega) A)<|O U<|Rd V<|Y gT<|Da ?_;refine⟨i+1+1,w++[10],⟨by rw[j9,List.length_singleton];omega,X,?_,?_⟩,X,E0⟩
    ·rw[d,o,n,q,uL,l,d_];exact A3
    rw[a,o,n,q,uL,l];exact Option.isSome_map
   have D:oV s (i+1)≠110:=b_ (BV (n:=110) E_ I);have d_:b=oV s (i+1):=by
    rw[sT]at l
    split at l
    ·rename_i e;rw[e];exact(Option.some.inj l).symm
    split at l
    ·rename_i e;rw[e];exact(Option.some.inj l).symm
    first
    |cases l
    |(rw[a8 D]at l;cases l)
   refine Rd V<|Y V<|Y V<|Y V<|Y gT<|Y (bT (l:=(i+1)) (h:=(i+1+1)) Z U_ Z Z Z X X Z)<|Y (eW Z Z Z X B)<|O U<|Rd V<|Y gT<|Da ?_;refine⟨i+1+1,w++[oV s (i+1)],⟨by rw[j9,List.length_singleton];omega,X,?_,?_⟩,X,E0⟩
   ·rw[d,o,n,q,uL,l,d_];exact A3
   rw[a,o,n,q,uL,l]
   simp_all
  have p:decide ((s.size:Int)<=(i:Int)+1)=true:=decide_eq_true X;have t:j=(a6,0):=by rw[d,o,n,BS X];rfl
  have g:ok=false:=by rw[a,o,n,BS X];rfl
  rw[t,g];refine aA<|C V<|Y gT<|O U<|S<|C V<|Y V<|Y (gM U_)<|Y (cL.valY (jK Z Z Z) (p))<|Y V<|M<|M<|M<|M<|M<|O cE<|Cn ?_ ?_<;>intro o_
  ·refine C U<|Y U<|O U<|aC<|lX (H':=[]) (.inr Z) Z (aJ Z) (aJ Z) (aJ Z) P_ Qq
  ((cases o_;done))
 have p:s.size<=i:=J_ e_
 have t:j=(a6,0):=by rw[d,BS p];rfl
 have g:ok=false:=by rw[a,BS p];rfl
 rw[t,g];refine aP<|C U<|Y U<|O U<|aC<|lX (H':=[]) (.inr Z) Z (aJ Z) (aJ Z) (aJ Z) P_ Qq
theorem LZ(s:B_)(H:aF)(G:s.size<17592186044416):RC 223 [sv s] (sv ⟨(cW s.data.toList).toArray⟩) H:=by
 refine Pu ?_;have hsl:=aT s;refine Bd func223 Z ntmps223<|Sz U<|Sz U<|Sz U<|S<|Sz U<|aD<|BX (fun(i f:Nat) (w:List UInt8)=>([(0,sv s),(3,sv ⟨w.toArray⟩),(4,iv (f:Int)),(5,iv (i:Int))],[])) (fun i f w=>f<=i/\i<=s.size/\w.length<=(lG s i).length/\w++(s.data.toList.drop f).take (i - f)=lG s i) (fun i f w=>s.size - i) 0 0 [34] ⟨j6 _,l6 _,j6 _,Z⟩ ?_ ?_
 ·exact E0
 rintro i f w ⟨hf,hi,hwl,k⟩;have hq:=cd (s:=s) (k:=i) G;have hsw:=szW w;refine S<|C V<|Y V<|Y (gM U_)<|O cM<|Cn ?_ ?_<;>intro x
 ·have e:i<s.size:=by have:=b9 x;omega
  have d:=VH e;have g:=gS s f i;have c:(⟨w.toArray⟩:B_)++s.extract f i=⟨(lG s i).toArray⟩:=by rw[FB,g,k]
  have B:=szW (lG s i);have o:(⟨(lG s i).toArray⟩:B_)++⟨#[92,110]⟩=⟨(lG s i++[92,110]).toArray⟩:=by rfl
  have p:(⟨(lG s i).toArray⟩:B_)++⟨#[92]⟩=⟨(lG s i++[92]).toArray⟩:=by rfl
  have A:=fQ s f i;refine aA<|S<|aD<|C V<|Y V<|Y (ky U_)<|O cD<|Cn ?_ ?_<;>intro q
  ·have v:oV s i=10:=b9 (BV (n:=10) E_ q);have t:qG (oV s i)=[92,110]:=by rw[qG,b6 v]
   rw[t]at d;refine C V<|Y V<|Y V<|Y V<|Y (bT (l:=f) (h:=i) Z U_ Z Z Z X X Z)<|Y (eW Z Z Z X c)<|Y (by exact eW Z Z Z (by show (⟨(lG s i).toArray⟩:B_).size+2<=_;omega) o)<|O U<|Rd V<|Y gT<|O U<|Rd V<|Y gT<|Da ?_;refine⟨i+1,i+1,lG s i++[92,110],⟨j6 _,e,F_,F_⟩,X,E0⟩
  have n:¬ oV s i=10:=b_ (BV (n:=10) E_ q);refine S<|aR (t:=34) (n:=11) (A_:=decide (bA s i=34)||decide (bA s i=92)) ?_ ?_
  ·all_goals refine Y V<|Y V<|Y (ky U_)<|Y cD<|Dm ?_<;>(refine Sp 29 (fun d_=>?_) fun d_=>?_)<;>(first|contradiction|refine M<|M<|M<|M ?_|refine J V<|J V<|J (ky U_)<|J cD ?_)<;>refine O cE ?_<;>exact Gj (h:=by simp_all)
  refine Cn ?_ ?_<;>intro j
  ·have v:oV s i=34\/oV s i=92:=by
    rw[Bool.or_eq_true]at j;rcases j with h|h
    ·exact .inl (b9 (BV (n:=34) E_ h))
    exact .inr (b9 (BV (n:=92) E_ h))
   have t:qG (oV s i)=[92,oV s i]:=by rw[qG,a8 n,b6 v]
   rw[t]at d;refine C V<|Y V<|Y V<|Y V<|Y (bT (l:=f) (h:=i) Z U_ Z Z Z X X Z)<|Y (eW Z Z Z X c)<|Y (by exact eW Z Z Z (by show (⟨(lG s i).toArray⟩:B_).size+1<=_;omega) p)<|O U<|Rd V<|O U<|Rd V<|Y gT<|Da ?_;refine⟨i+1,i,lG s i++[92],⟨Nat.le_succ _,e,F_,by rw[d,Nat.add_sub_cancel_left,yE e,List.append_assoc];rfl⟩,X,E0⟩
  have v:¬ (oV s i=34\/oV s i=92):=by
   rw[q9]at j;rintro(h|h)
   ·exact absurd h (b_ (BV (n:=34) E_ j.1))
   exact absurd h (b_ (BV (n:=92) E_ j.2))
  have t:qG (oV s i)=[oV s i]:=by rw[qG,a8 n,a8 v]
  rw[t]at d;have z:(s.data.toList.drop f).take (i+1 - f)=(s.data.toList.drop f).take (i - f)++[oV s i]:=by
   have F:i+1 - f=(i - f)+1:=by omega
   have D:(s.data.toList.drop f)[i - f]?=some (oV s i):=by
    rw[List.getElem?_drop,show f+(i - f)=i by omega];have E:=yE e;exact(SE E).1
   rw[F,List.take_add_one,D];rfl
  refine aA<|Rd V<|Y gT<|Da ?_;refine⟨i+1,f,w,⟨X,e,by rw[d,j9];omega,by rw[z,<-List.append_assoc,k,d]⟩,X,E0⟩
 have y:i=s.size:=by have:=b_ x;omega
 subst y;have g:=gS s f s.size;have c:(⟨w.toArray⟩:B_)++s.extract f s.size=⟨(lG s s.size).toArray⟩:=by rw[FB,g,k]
 have B:=szW (lG s s.size);have A:=fQ s f s.size;have u:(⟨(lG s s.size).toArray⟩:B_)++⟨#[34]⟩=⟨(cW s.data.toList).toArray⟩:=by
  rw[FB,lG,List.take_of_length_le X,cW];rfl
 exact aP<|C V<|Y V<|Y V<|Y (bT (l:=f) (h:=s.size) Z U_ Z Z Z X X Z)<|Y (eW Z Z Z X c)<|Y (by exact eW Z Z Z (by show (⟨(lG s s.size).toArray⟩:B_).size+1<=_;omega) u)<|O U<|aC<|Rt<|Qq
abbrev oBx(o:j_):Ob:=bx 6 135 ((bM o).map .pv)
def TQ(l:List B_):List (List AV):=l.map fun s=>[sv s]
theorem X0(l):(TQ l).length=l.length:=h_ _
theorem lS(H)(l):∀r∈TQ l,∀a∈r,Clo H a:=by intro r c a b;obtain ⟨x,_,rfl⟩:=List.mem_map.1 c;rw[q_]at b;subst b;simp
instance(H)(l):W_ (H) (TQ l):=⟨lS H l⟩
theorem X1{l}{k:Nat}{s}(h:l[k]?=some s):(TQ l)[k]?=some [sv s]:=by rw[TQ,r6,h];rfl
theorem X2(l)(s):TQ l++[(S_ s).map AV.pv]=TQ (l++[s]):=by rw[TQ,TQ,List.map_append];rfl
theorem Fp(l):TQ l=(l.map S_).map (·.map .pv):=by rw[List.map_map];rfl
theorem fmC{α β:Type}{f g:α->List β}:∀ {l:List _},(∀x∈l,f x=g x)->l.flatMap f=l.flatMap g
 | [],_=>rfl
 |x::l,h=>by rw[List.flatMap_cons,List.flatMap_cons,h x List.mem_cons_self,fmC fun y a=>h y (List.mem_cons_of_mem _ a)]
theorem aCb{x}(h:0<=x):aQ x=b7 (decDigits x.toNat):=by rw[aQ,jU _ h];rfl
theorem OX(x)(H)(a:0<=x)(h1:x<1000000000):RC 222 [iv x] (sv (aQ x)) H:=by obtain ⟨u,rfl⟩:=Int.eq_ofNat_of_zero_le a;exact Yp u H X
def wO(o:j_)(e_:List B_)(k:Nat):List B_:=[eD o.kind,o.id]++e_++(o.tags.take k).map iN
theorem qd{o}{e_}{k}{t}(h:o.tags[k]?=some t):wO o e_ (k+1)=wO o e_ k++[iN t]:=by rw[wO,List.take_add_one,h,List.map_append,<-List.append_assoc];rfl
theorem FR(a b):cX (a++b)=cX a+cX b:=by rw[cX,cX,cX,List.map_append,List.sum_append]
theorem mh{o}(d:oH o=true):eX o=if 20000<(DS o).size then(a6,2)else(DS o,0):=by
 rw[eX,b6 d];by_cases h:0<o.tags.length/\(jM o.tags).2≠0
 ·have b:=(BR d).2.2.1;rw[b6 h];have a:=h.2;rw[jM,b6 b]at a |-
  split at a
  ·next c =>
   rw[b6 c,b6 _];rw[DS,<-aT];rw[sB,j9];cases e:o.tags with
   |nil=>simp_all
   |cons t l =>
    rw[e]at c;have:=UY t l;have f:=congrArg List.length this;rw[aT]at f;rw[nK,List.flatMap_cons,j9,j8];rw[j9,nK]at f;omega
  exact absurd Z a
 simp_all
theorem qe(o)(e_):(b7 (bQ [32] (bs (wO o e_ o.tags.length)))).data.toList=(eD o.kind).data.toList++32::(o.id.data.toList++e_.flatMap fun s=>32::s.data.toList)++nK o.tags:=by rw[cO,wO,List.take_length,List.cons_append,List.cons_append,bs,List.map_cons,bQ];simp only[List.map_cons,List.map_append,List.flatMap_cons,List.flatMap_append,List.flatMap_map,List.nil_append,List.append_assoc,List.cons_append];congr 3;congr 1;refine fmC fun t _=>?_;rw[MM]
theorem qf{o}{e_}(hM:(eD o.kind).data.toList++32::(o.id.data.toList++e_.flatMap fun s=>32::s.data.toList)=lV o):b7 (bQ [32] (bs (wO o e_ o.tags.length)))=DS o:=nw (by
 rw[qe,hM];rfl)
theorem WG:∀(l) (k),(bQ [32] (bs (l.take k))).length<=(bQ [32] (bs l)).length
 | [],k=>by simp
 |x::l,0=>l6 _
 |x::l,k+1=>by
  rw[List.take_succ_cons,xX,xX,j9,j9,GB,GB];have h1:=nY l k;have h2:(l.take k).length<=l.length:=G_
  omega
theorem zB(a b:B_):(a++b).size=a.size+b.size:=ByteArray.size_append
theorem CI(o:j_)(H:aF)(ho:iq o):RC 217 [av (bM o)] (.tup [sv (eX o).1,iv (eX o).2]) H:=by
 refine Pu ?_;have hmt:(o.tags.map bP).length=o.tags.length:=h_ _;have hmr:(o.refs.map S_).length=o.refs.length:=h_ _;refine Bd func217 Z ntmps217<|C (kb 1)<|Y U<|O U<|S<|C (by exact aW Z bW sizeOf135 Z Z Z Z (by simp only[Zl,bP,bM,S_,bL,gJ];rfl) Z)<|Y (kc call261 (Gl o _ ho))<|O iT ?_;refine Cn ?_ ?_<;>intro hc1
 ·have N:oH o=false:=by have h:=hc1;rwa [r8]at h
  have e:eX o=(a6,1):=by rw[eX,a8 (by simp_all)]
  rw[e];exact C U<|O U<|aC<|Ru<|Qq
 have N:oH o=true:=by have h:=hc1;rwa [Bool.not_eq_false']at h
 obtain ⟨hr,ht,htg,hid,_⟩:=BR N;obtain ⟨hx,hy,hn,hz⟩:=gm N;have D:=(A0 (F7 N)).1;have hws:=dG D;have his:=dG hid;have hT:=mh N;have o_:∀t∈o.tags,t.key.size<=24/\t.val.size<=200:=fun t ht=>by
  obtain ⟨p1,_,_⟩:=xD.1 htg;have:=p1 t ht;exact⟨dG this.1,this.2.2⟩
 have hTs:∀k,cX ((o.tags.take k).map iN)<=60*427:=fun k=>by
  have h1:∀l:List l_,(∀t∈l,t∈o.tags)->cX (l.map iN)<=l.length*427:=by
   intro l
   induction l with
   |nil=>intro _;exact l6 _
   |cons t l ih =>
    intro h;rw[List.map_cons,cI,j8,Nat.add_mul];have u_:=ih fun x hx=>h x (List.mem_cons_of_mem _ hx);have e_:=o_ t (h t List.mem_cons_self);have h4:=V4 e_.1 e_.2;omega
  have u_:=h1 (o.tags.take k) fun t ht=>List.mem_of_mem_take ht;have e_:(o.tags.take k).length<=60:=by grind
  have h4:(o.tags.take k).length*427<=60*427:=Nat.mul_le_mul_right _ e_;omega
 refine aA<|S<|aN a7<|Cs (fun _ h=>fh dZ h)<|Cs (fun _ h=>lh M_ h)<|Cs (fun H1 hH=>by exact bF Z Z Bk Z (FV o.kind _))<|Cs (fun _ h=>fh qQ h)<|Cs (fun _ h=>lh N_ h) ?_;refine iF (r:=⟨_,none,[_]⟩) (DStep.plain Z (fun H1 hH=>by exact gH (id:=901) Z bH Z Z Z Z (by simp_all) ((hH _ Z).trans Z))) Z ?_;refine Cs (fun _ _=>U)<|bJ<|Kr<|S<|S ?_;refine fZ.ent (E':=[(1,.ref 1 0 0 0),(4,.osl 901 0 0 2)]) (H':=[(901,⟨0,1,9,TQ [eD o.kind,o.id]⟩),(1,oBx o)]) (cJ.wk (Ea<|Ea<|T_) (Hc (lS _ _)<|Hb<|T_) T_)<|Rd (bD dZ)<|Y (bS M_)<|O cD<|Cn ?_ ?_<;>intro A_
 ·have hk:o.kind=1:=b9 A_;have Yf:(aQ o.x).size<=7:=by rw[<-aT];show (Lib.itoa o.x).length<=7;rw[jU _ hx.1];exact cU (by omega) (by decide)
  have siy:(aQ o.y).size<=7:=by rw[<-aT];show (Lib.itoa o.y).length<=7;rw[jU _ hy.1];exact cU (by omega) (by decide)
  have hMs:cX [aQ o.x,aQ o.y]=(aQ o.x).size+((aQ o.y).size+0):=by rw[cI,cI];rfl
  have hMl:([aQ o.x,aQ o.y]:List B_).length=2:=rfl;have Q:(eD o.kind).data.toList++32::(o.id.data.toList++([aQ o.x,aQ o.y]:List B_).flatMap fun s=>32::s.data.toList)=lV o:=by
   rw[lV,b6 hk];simp[aQ]
  have hFT:eX o=if 20000<(b7 (bQ [32] (bs (wO o [aQ o.x,aQ o.y] o.tags.length)))).size then(a6,2)else(b7 (bQ [32] (bs (wO o [aQ o.x,aQ o.y] o.tags.length))),0):=by rw[qf Q];exact hT
  refine aN a7<|Cs (fun _ _=>V)<|Cs (fun _ h=>fh mM h)<|Cs (fun _ h=>fh mO h)<|Cs (fun _ h=>lh M_ h)<|Cs (fun H1 hH=>by exact bF Z Z GR Z (OX o.x _ (by omega) (by omega)))<|Cs (fun _ h=>fh mM h)<|Cs (fun _ h=>fh mN h)<|Cs (fun _ h=>lh M_ h)<|Cs (fun H1 hH=>by exact bF Z Z GR Z (OX o.y _ (by omega) (by omega)))<|Cs (fun H1 hH=>by exact aL [S_ (aQ o.x),S_ (aQ o.y)] Z bH Z Z Z Z Z (by intro r hr;simp only[l7,n_,or_false]at hr;rcases hr with rfl|rfl<;>rfl)) ?_;refine iF (r:=⟨_,none,[_]⟩) (DStep.plain Z (fun H1 hH=>by exact cA (ps:=[S_ (aQ o.x),S_ (aQ o.y)]) Z bH xE Z ((hH _ Z).trans Z) Z Z Z Z Z (by intro r hr;simp only[l7,n_,or_false]at hr;rcases hr with rfl|rfl<;>rfl) (m:=2) Z (by omega) Z (rfl:_=TQ (wO o [aQ o.x,aQ o.y] 0)))) Z ?_;refine Cs (fun _ _=>U)<|bJ<|Kr<|S<|Sz U<|aD ?_;have hMs2:cX ([eD o.kind,o.id]++[aQ o.x,aQ o.y])<=70000:=by rw[FR];have:cX [eD o.kind,o.id]=(eD o.kind).size+(o.id.size+0):=(by rw[cI,cI];rfl);omega
  have K:∀k,k<=o.tags.length->(wO o [aQ o.x,aQ o.y] k).length<=64:=fun k hk=>by rw[wO,j9,j9,h_,q8];show 2+_+_<=_;omega
  have R:∀k,cX (wO o [aQ o.x,aQ o.y] k)<=100000:=fun k=>by
   rw[wO,FR];have h1:=hTs k;omega
  refine bC (σ:=Nat) (fun k=>([(1,.ref 1 0 0 0),(4,.osl 901 (1+k) 0 (wO o [aQ o.x,aQ o.y] k).length),(7,iv (k:Int))],[(901,⟨1+k,1,9,TQ (wO o [aQ o.x,aQ o.y] k)⟩),(1,oBx o)])) (fun k=>k<=o.tags.length) (fun k=>o.tags.length - k) 0 (l6 _) ?_ ?_
  ·exact(cJ.wk (Ea<|Ea<|Eb<|T_) (Hc (lS _ _)<|Hb<|T_) T_)
  rintro k hk;have P:=K k hk;refine S<|C V<|Y (bD fU)<|Y (bS dC)<|Y (fV dL)<|O cM<|Cn ?_ ?_<;>intro hc3
  ·have hlt:k<o.tags.length:=by have:=b9 hc3;omega
   obtain ⟨t,ht⟩:=aU hlt;have hit:=cC (f:=bP) ht;have hnx:=qd (e_:=[aQ o.x,aQ o.y]) ht;have L:(wO o [aQ o.x,aQ o.y] k++[iN t]).length=(wO o [aQ o.x,aQ o.y] k).length+1:=by rw[j9];rfl
   obtain ⟨hks,hvs⟩:=o_ t (m7 ht);have hq:=qZ t.val;have h61:(⟨#[61]⟩:B_).size=1:=rfl;have hk1:(t.key++(⟨#[61]⟩:B_)).size=t.key.size+1:=zB _ _;refine aA<|S<|aD<|aN a7<|Cs (fun _ _=>V)<|Cs (fun _ h=>fh fU h)<|Cs (fun _ h=>lh dC h)<|Cs (fun _ _=>V)<|Cs (fun _ _=>(iM lI))<|Cs (fun _ _=>(EV pO))<|Cs (fun _ _=>(fY N_))<|Cs (fun H1 hH=>by exact eW Z Z Z (by omega) Z)<|Cs (fun _ h=>fh fU h)<|Cs (fun _ h=>lh dC h)<|Cs (fun _ _=>V)<|Cs (fun _ _=>(iM lI))<|Cs (fun _ _=>(EV qO))<|Cs (fun _ _=>(fY N_))<|Cs (fun H1 hH=>by exact bF Z Z aEP Z (LZ t.val _ (by omega)))<|Cs (fun H1 hH=>by exact eW Z Z Z (by omega) Z)<|Cs (fun H1 hH=>by exact aL [S_ (iN t)] Z bH Z Z Z Z Z R_) ?_;refine iF (r:=⟨_,none,[_]⟩) (DStep.plain Z (fun H1 hH=>by exact cA (ps:=[S_ (iN t)]) Z bH xE Z ((hH _ Z).trans Z) Z Z Z (X0 _) Z R_ (m:=1) Z (by omega) Z (X2 _ (iN t)))) Z ?_;refine Cs (fun _ _=>U)<|bJ<|Kr<|Rd V<|Y gT<|Da ?_;refine⟨k+1,by omega,by omega,?_⟩;rw[hnx,L];exact(cJ.wk (Ea<|Ea<|Eb<|T_) (Hc (lS _ _)<|Hb<|T_) T_)
  have hge:k=o.tags.length:=by have:=b_ hc3;omega
  subst hge;obtain ⟨W,hW⟩:∃W,W=wO o [aQ o.x,aQ o.y] o.tags.length:=X_;have hWs2:=R o.tags.length;rw[<-hW]at P hWs2 hFT;rw[<-hW];obtain ⟨F,hF⟩:∃F,F=b7 (bQ [32] (bs W)):=X_;rw[<-hF]at hFT;refine aP<|Sz U<|S<|Sz U<|aD<|bC (σ:=Nat) (fun k=>([(4,.osl 901 (1+o.tags.length) 0 W.length),(8,sv (b7 (bQ [32] (bs (W.take k))))),(9,iv (k:Int))],[(901,⟨1+o.tags.length,1,9,TQ W⟩)])) (fun k=>k<=W.length) (fun k=>W.length - k) 0 (l6 _) ?_ ?_
  ·exact(cJ.wk (Ea<|Eb<|Eb<|T_) (Hc (lS _ _)<|T_) T_)
  rintro k hk;have hsz:(b7 (bQ [32] (bs (W.take k)))).size<=100064:=by
   rw[cB];have h1:=fP (W.take k);have u_:=nY W k;have e_:(W.take k).length<=W.length:=by rw[q8];exact Nat.min_le_right _ _
   omega
  refine S<|C V<|Y V<|Y (by exact dT Z aE Z Z Z)<|O cM<|Cn ?_ ?_<;>intro z_
  ·have hlt:k<W.length:=by have:=b9 z_;omega
   obtain ⟨w,D⟩:=aU hlt;have hiw:=X1 D;have hnx:=BL D;have hws:w.size<=100000:=by
    have h1:=xL D;have u_:=nY W (k+1);omega
   have h32:(⟨#[32]⟩:B_).size=1:=rfl;have y_:(b7 (bQ [32] (bs (W.take k)))++⟨#[32]⟩).size=(b7 (bQ [32] (bs (W.take k)))).size+1:=zB _ _;refine aA<|S<|aD<|S<|C V<|O iY<|Cn ?_ ?_<;>intro hc5
   ·have hq:0<k:=by have:=b9 hc5;omega
    rw[b6 hq]at hnx;refine Rd V<|Y kq<|O U<|Rd V<|Y V<|Y V<|Y (by exact dI Z bH Z Z Z Z Z (by omega) (by exact l8 _) hlt (r7 _))<|Y (by exact aX Z N_ Z Z Z hiw Z)<|Y kq<|O U<|Rd V<|Y gT<|Da ?_;refine⟨k+1,by omega,by omega,?_⟩;rw[hnx];exact(cJ.wk (Ea<|Eb<|Eb<|T_) (Hc (lS _ _)<|T_) T_)
   have hq:¬ 0<k:=by have:=b_ hc5;omega
   rw[a8 hq]at hnx;refine aA<|Rd V<|Y V<|Y V<|Y (by exact dI Z bH Z Z Z Z Z (by omega) (by exact l8 _) hlt (r7 _))<|Y (by exact aX Z N_ Z Z Z hiw Z)<|Y kq<|O U<|Rd V<|Y gT<|Da ?_;refine⟨k+1,by omega,by omega,?_⟩;rw[hnx];exact(cJ.wk (Ea<|Eb<|Eb<|T_) (Hc (lS _ _)<|T_) T_)
  have hge:k=W.length:=by have:=b_ z_;omega
  subst hge;rw[List.take_length,<-hF];refine aP<|S<|C V<|Y (gM U_)<|O iY<|Cn ?_ ?_<;>intro hc6
  ·have hbig:20000<F.size:=by have:=b9 hc6;omega
   rw[hFT,b6 hbig];exact C U<|O U<|aC<|Ru<|Qq
  have hbig:¬ 20000<F.size:=by have:=b_ hc6;omega
  rw[hFT,a8 hbig];exact aA<|C V<|Y U<|O U<|aC<|Ru<|Qq
 have hk:o.kind≠1:=b_ A_;have hsz:cX o.refs<=24*o.refs.length:=oY (fun s hs=>dG (tW N s hs));have hjl:=fP o.refs;have hSz:∀k,(b7 (bQ [32] (bs (o.refs.take k)))).size<=50000:=fun k=>by
  rw[cB];have:=WG o.refs k;omega
 refine Sz U<|S<|Sz U<|aD<|bC (σ:=Nat) (fun k=>([(1,.ref 1 0 0 0),(4,.osl 901 0 0 2),(5,sv (b7 (bQ [32] (bs (o.refs.take k))))),(6,iv (k:Int))],[(901,⟨0,1,9,TQ [eD o.kind,o.id]⟩),(1,oBx o)])) (fun k=>k<=o.refs.length) (fun k=>o.refs.length - k) 0 (l6 _) ?_ ?_
 ·exact(cJ.wk (Ea<|Ea<|Eb<|Eb<|T_) (Hc (lS _ _)<|Hb<|T_) T_)
 rintro k hkr;have hsk:=hSz k;refine S<|S<|aR (t:=42) (n:=11) (A_:=decide ((k:Int)<((o.refs.map S_).length:Int))&&decide (((b7 (bQ [32] (bs (o.refs.take k)))).size:Int)<=20000)) ?_ ?_
 ·all_goals refine Y V<|Y (bD dY)<|Y (bS aH)<|Y (fV aE)<|Y cM<|Dm ?_<;>(refine Sp 38 (fun h38=>?_) fun h38=>?_)<;>(first|contradiction|refine M<|M<|M ?_|refine J V<|J (gM U_)<|J IA ?_)<;>refine O cE ?_<;>exact Gj (h:=by(rw[h38];rfl))
 refine Cn ?_ ?_<;>intro hc7
 ·have hlt:k<o.refs.length:=by have h:=hc7;rw[j0,k_]at h;omega
  obtain ⟨w,T⟩:=aU hlt;have hiw:=cC (f:=S_) T;have hnx:=BL T;have hwsz:=dG (tW N w (m7 T));have h32:(⟨#[32]⟩:B_).size=1:=rfl;have y_:(b7 (bQ [32] (bs (o.refs.take k)))++⟨#[32]⟩).size=(b7 (bQ [32] (bs (o.refs.take k)))).size+1:=zB _ _;refine aA<|S<|aD<|S<|C V<|O iY<|Cn ?_ ?_<;>intro hc8
  ·have hq:0<k:=by have:=b9 hc8;omega
   rw[b6 hq]at hnx;refine Rd V<|Y kq<|O U<|Rd V<|Y (bD dY)<|Y (bS aH)<|Y V<|Y (iM bH)<|Y (fY N_)<|Y kq<|O U<|Rd V<|Y gT<|Da ?_;refine⟨k+1,by omega,by omega,?_⟩;rw[hnx];exact(cJ.wk (Ea<|Ea<|Eb<|Eb<|T_) (Hc (lS _ _)<|Hb<|T_) T_)
  have hq:¬ 0<k:=by have:=b_ hc8;omega
  rw[a8 hq]at hnx;refine aA<|Rd V<|Y (bD dY)<|Y (bS aH)<|Y V<|Y (iM bH)<|Y (fY N_)<|Y kq<|O U<|Rd V<|Y gT<|Da ?_;refine⟨k+1,by omega,by omega,?_⟩;rw[hnx];exact(cJ.wk (Ea<|Ea<|Eb<|Eb<|T_) (Hc (lS _ _)<|Hb<|T_) T_)
 have I:k=o.refs.length\/20000<(b7 (bQ [32] (bs (o.refs.take k)))).size:=by have h:=hc7;simp only[Bool.and_eq_false_iff,p_]at h;omega
 obtain ⟨f_,hS⟩:∃f_,f_=b7 (bQ [32] (bs (o.refs.take k))):=X_;obtain ⟨B,hB⟩:∃B,B=(⟨#[40]⟩:B_)++f_++⟨#[41]⟩:=X_;rw[<-hS]at hsk I;rw[<-hS];have h40:(⟨#[40]⟩:B_).size=1:=rfl;have h41:(⟨#[41]⟩:B_).size=1:=rfl;have hA:((⟨#[40]⟩:B_)++f_).size=1+f_.size:=zB _ _;have hBs:B.size=1+f_.size+1:=by rw[hB,zB,hA];rfl
 have hMs:cX [B]=B.size+0:=by rw[cI];rfl
 have hMl:([B]:List B_).length=1:=rfl;have hFT:eX o=if 20000<(b7 (bQ [32] (bs (wO o [B] o.tags.length)))).size then(a6,2)else(b7 (bQ [32] (bs (wO o [B] o.tags.length))),0):=by
  by_cases he:k=o.refs.length
  ·have Q:(eD o.kind).data.toList++32::(o.id.data.toList++([B]:List B_).flatMap fun s=>32::s.data.toList)=lV o:=by
    rw[lV,a8 hk,hB,hS,he,List.take_length];simp[b7]
   rw[qf Q];exact hT
  have hbig:20000<f_.size:=by rcases I with h|h;exact absurd h he;exact h
  have h1:=congrArg List.length (qe o [B]);rw[aT]at h1;have u_:(DS o).size=(sB o).length:=by rw[<-aT];rfl
  have e_:=WG o.refs k;have h4:f_.size=(bQ [32] (bs (o.refs.take k))).length:=by rw[hS,cB]
  have h5:(sB o).length>=(bQ [32] (bs o.refs)).length:=by
   rw[sB,lV,a8 hk];simp only[j9,j8];omega
  have h6:([B]:List B_).flatMap (fun s=>32::s.data.toList)=32::B.data.toList:=by simp
  rw[h6]at h1;simp only[j9,j8,aT]at h1;rw[hT,b6 (by omega),b6 (by omega)]
 refine aP<|Rd V<|Y V<|Y kq<|Y (by exact eW Z Z Z (by omega) hB.symm)<|Y (by exact aL [S_ B] Z bH Z Z Z Z Z R_)<|Y (by exact cA (ps:=[S_ B]) Z bH xE Z Z Z Z Z Z Z R_ (m:=1) Z (by omega) Z (rfl:_=TQ (wO o [B] 0)))<|O U<|S<|Sz U<|aD ?_;have hMs2:cX ([eD o.kind,o.id]++[B])<=70000:=by rw[FR];have:cX [eD o.kind,o.id]=(eD o.kind).size+(o.id.size+0):=(by rw[cI,cI];rfl);omega
 have K:∀k,k<=o.tags.length->(wO o [B] k).length<=64:=fun k hk=>by rw[wO,j9,j9,h_,q8];show 2+_+_<=_;omega
 have R:∀k,cX (wO o [B] k)<=100000:=fun k=>by
  rw[wO,FR];have h1:=hTs k;omega
 refine bC (σ:=Nat) (fun k=>([(1,.ref 1 0 0 0),(4,.osl 901 (1+k) 0 (wO o [B] k).length),(7,iv (k:Int))],[(901,⟨1+k,1,9,TQ (wO o [B] k)⟩),(1,oBx o)])) (fun k=>k<=o.tags.length) (fun k=>o.tags.length - k) 0 (l6 _) ?_ ?_
 ·exact(cJ.wk (Ea<|Ea<|Eb<|T_) (Hc (lS _ _)<|Hb<|T_) T_)
 rintro k hk;have P:=K k hk;refine S<|C V<|Y (bD fU)<|Y (bS dC)<|Y (fV dL)<|O cM<|Cn ?_ ?_<;>intro v_
 ·have hlt:k<o.tags.length:=by have:=b9 v_;omega
  obtain ⟨t,ht⟩:=aU hlt;have hit:=cC (f:=bP) ht;have hnx:=qd (e_:=[B]) ht;have L:(wO o [B] k++[iN t]).length=(wO o [B] k).length+1:=by rw[j9];rfl
  obtain ⟨hks,hvs⟩:=o_ t (m7 ht);have hq:=qZ t.val;have h61:(⟨#[61]⟩:B_).size=1:=rfl;have hk1:(t.key++(⟨#[61]⟩:B_)).size=t.key.size+1:=zB _ _;refine aA<|S<|aD<|aN a7<|Cs (fun _ _=>V)<|Cs (fun _ h=>fh fU h)<|Cs (fun _ h=>lh dC h)<|Cs (fun _ _=>V)<|Cs (fun _ _=>(iM lI))<|Cs (fun _ _=>(EV pO))<|Cs (fun _ _=>(fY N_))<|Cs (fun H1 hH=>by exact eW Z Z Z (by omega) Z)<|Cs (fun _ h=>fh fU h)<|Cs (fun _ h=>lh dC h)<|Cs (fun _ _=>V)<|Cs (fun _ _=>(iM lI))<|Cs (fun _ _=>(EV qO))<|Cs (fun _ _=>(fY N_))<|Cs (fun H1 hH=>by exact bF Z Z aEP Z (LZ t.val _ (by omega)))<|Cs (fun H1 hH=>by exact eW Z Z Z (by omega) Z)<|Cs (fun H1 hH=>by exact aL [S_ (iN t)] Z bH Z Z Z Z Z R_) ?_;refine iF (r:=⟨_,none,[_]⟩) (DStep.plain Z (fun H1 hH=>by exact cA (ps:=[S_ (iN t)]) Z bH xE Z ((hH _ Z).trans Z) Z Z Z (X0 _) Z R_ (m:=1) Z (by omega) Z (X2 _ (iN t)))) Z ?_;refine Cs (fun _ _=>U)<|bJ<|Kr<|Rd V<|Y gT<|Da ?_;refine⟨k+1,by omega,by omega,?_⟩;rw[hnx,L];exact(cJ.wk (Ea<|Ea<|Eb<|T_) (Hc (lS _ _)<|Hb<|T_) T_)
 have hge:k=o.tags.length:=by have:=b_ v_;omega
 subst hge;obtain ⟨W,hW⟩:∃W,W=wO o [B] o.tags.length:=X_;have hWs2:=R o.tags.length;rw[<-hW]at P hWs2 hFT;rw[<-hW];obtain ⟨F,hF⟩:∃F,F=b7 (bQ [32] (bs W)):=X_;rw[<-hF]at hFT;refine aP<|Sz U<|S<|Sz U<|aD<|bC (σ:=Nat) (fun k=>([(4,.osl 901 (1+o.tags.length) 0 W.length),(8,sv (b7 (bQ [32] (bs (W.take k))))),(9,iv (k:Int))],[(901,⟨1+o.tags.length,1,9,TQ W⟩)])) (fun k=>k<=W.length) (fun k=>W.length - k) 0 (l6 _) ?_ ?_
 ·exact(cJ.wk (Ea<|Eb<|Eb<|T_) (Hc (lS _ _)<|T_) T_)
 rintro k hk;have hsz:(b7 (bQ [32] (bs (W.take k)))).size<=100064:=by
  rw[cB];have h1:=fP (W.take k);have u_:=nY W k;have e_:(W.take k).length<=W.length:=by rw[q8];exact Nat.min_le_right _ _
  omega
 refine S<|C V<|Y V<|Y (by exact dT Z aE Z Z Z)<|O cM<|Cn ?_ ?_<;>intro c_
 ·have hlt:k<W.length:=by have:=b9 c_;omega
  obtain ⟨w,D⟩:=aU hlt;have hiw:=X1 D;have hnx:=BL D;have hws:w.size<=100000:=by
   have h1:=xL D;have u_:=nY W (k+1);omega
  have h32:(⟨#[32]⟩:B_).size=1:=rfl;have y_:(b7 (bQ [32] (bs (W.take k)))++⟨#[32]⟩).size=(b7 (bQ [32] (bs (W.take k)))).size+1:=zB _ _;refine aA<|S<|aD<|S<|C V<|O iY<|Cn ?_ ?_<;>intro E
  ·have hq:0<k:=by have:=b9 E;omega
   rw[b6 hq]at hnx;refine Rd V<|Y kq<|O U<|Rd V<|Y V<|Y V<|Y (by exact dI Z bH Z Z Z Z Z (by omega) (by exact l8 _) hlt (r7 _))<|Y (by exact aX Z N_ Z Z Z hiw Z)<|Y kq<|O U<|Rd V<|Y gT<|Da ?_;refine⟨k+1,by omega,by omega,?_⟩;rw[hnx];exact(cJ.wk (Ea<|Eb<|Eb<|T_) (Hc (lS _ _)<|T_) T_)
  have hq:¬ 0<k:=by have:=b_ E;omega
  rw[a8 hq]at hnx;refine aA<|Rd V<|Y V<|Y V<|Y (by exact dI Z bH Z Z Z Z Z (by omega) (by exact l8 _) hlt (r7 _))<|Y (by exact aX Z N_ Z Z Z hiw Z)<|Y kq<|O U<|Rd V<|Y gT<|Da ?_;refine⟨k+1,by omega,by omega,?_⟩;rw[hnx];exact(cJ.wk (Ea<|Eb<|Eb<|T_) (Hc (lS _ _)<|T_) T_)
 have hge:k=W.length:=by have:=b_ c_;omega
 subst hge;rw[List.take_length,<-hF];refine aP<|S<|C V<|Y (gM U_)<|O iY<|Cn ?_ ?_<;>intro G
 ·have hbig:20000<F.size:=by have:=b9 G;omega
  rw[hFT,b6 hbig];exact C U<|O U<|aC<|Ru<|Qq
 have hbig:¬ 20000<F.size:=by have:=b_ G;omega
 rw[hFT,a8 hbig];exact aA<|C V<|Y U<|O U<|aC<|Ru<|Qq
end Go.Proofs.YtopnleflllkbmaaGreatDoor
