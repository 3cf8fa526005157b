/-
  Parts of the proof. Conditions: each theorem's own.
-/
import Derived.Test.YtopnleflllkbmaaGreatDoorKX3rM5
set_option linter.unusedVariables false
set_option linter.unusedSimpArgs false
set_option maxRecDepth 100000
set_option maxHeartbeats 8000000
open List Nat
namespace Go.Proofs
open Tryz
theorem gR:type_of% call84:=call84
theorem jF:type_of% call99:=call99
theorem dU:type_of% isAgg125:=isAgg125
end Go.Proofs
namespace Go.Proofs.YtopnleflllkbmaaGreatDoor
open Go.Proofs.Tryz
open Go.Abs
variable{α:Type}{i:Nat}
abbrev nxB:AV:=.bnd 98 [QZ]
def Ai(l:List UInt8):Option (AV×List UInt8):=(C1 oU l).map λp=>(.pv (aL p.1),p.2)
theorem ep(f){N k}{q b}{A:List α}(hk:A.length=k)(hlt:k<N)(h:GO f N q=(GO f (N - k) b).map λp=>(A++p.1,p.2)):
  GO f N q=match f b with
   |none=>none
   |some (x,r)=>(GO f (N - (k+1)) r).map λp=>((A++[x])++p.1,p.2):=by
 rw[h,show N - k=(N - (k+1))+1 by omega,GO]
 grind
theorem Kc{l}(h:xG l=none):Ai l=none:=by rw[Ai,C1,h];rfl
theorem Kb{l q}{n}(h:xG l=some (n,q)):Ai l=(GO oU n.toNat q).map λp=>(.pv (aL p.1),p.2):=by rw[Ai,C1,h]
theorem ZJ(l:List UInt8)(D:l.length<1000000000):D6 100 [QZ,nxB] [] l (Ai l):=by
 refine D6.of (CO l) Z m3 ?_;have g:=nZ l D;have e:=Kc (l:=l);have f:=λn q=>Kb (l:=l) (n:=n) (q:=q);have i:=λn q=>kH (l:=l) (x:=n) (q:=q);rw[ER]at g;have ⟨o_,z⟩:∃o_,o_=xG l:=X_;rw[<-z]at g e f i;clear z;refine fS.body func100 Z ntmps100 (r_ Z)<|Sz aI<|S ?_;rcases o_ with _|⟨n,j⟩
 ·rw[e rfl];have w:D6 99 [QZ] [] l none:=g;refine gS<|iR Z Z Z (by exact gU Z Z) ?_;exact qN Z Z (eL Z Z jF Z (w.no Z (gD _))) (λd_ E h=>by obtain ⟨rfl,q,rfl⟩:=h;exact FJ (H':=mZ q) (Fin.wk H_ (Hb<|T_) ⟨Z,T_⟩) ⟨Z,Z,q,Z⟩)
 have w:D6 99 [QZ] [] l (some (iv n,j)):=g;have ⟨hq0,hn0,hn1⟩:=i n j Z;rw[f n j rfl];refine Rd aA<|Y (kc jF (w.yes Z (gD _)))<|V aI<|Sz (by exact eI (id:=905) (sz:=1) (ty:=9) Z Z Z)<|S<|O aA<|V aA<|aD<|eU (λ(d:List UInt8) (A:List B_)=>([(0,QZ),(1,nxB),(6,.osl 905 A.length 0 A.length),(9,iv n),(10,iv (A.length:Int))],(905,⟨A.length,1,9,cB A⟩)::mZ d)) (λd A=>d.length+A.length<l.length/\A.length<=n.toNat/\GO oU n.toNat j=(GO oU (n.toNat - A.length) d).map λp=>(A++p.1,p.2)) (λd A=>d.length) j [] ⟨X,l7 _,H_⟩ ?_ ?_
 ·exact(cL.wk (Ea<|Ea<|Ea<|Eb<|Eb<|T_) (Hc (aV _ _)<|Hb<|T_) ⟨Z,T_⟩)
 rintro d A ⟨hl',hA,y⟩;have b:=AG d X;have k:=λs q=>lF (l:=d) (s:=s) (q:=q);have c:=λh=>ep oU (k:=A.length) Z h y;rw[KB]at b;have ⟨A_,B⟩:∃A_,A_=oU d:=X_;rw[<-B]at b k c;clear B;refine Sz cJ<|S<|Cn ?_ ?_<;>intro o
 ·have t:A.length<n.toNat:=I_ o
  have m:=c t;clear c;refine aB<|S<|aD ?_;rcases A_ with _|⟨s,q⟩
  ·have m:GO oU n.toNat j=none:=m;rw[m];have b:D6 98 [QZ] [] d none:=b;refine gS<|iR Z Z Z (by exact gU Z Z)<|iR Z Z Z (by exact gU Z Z) ?_;exact qN Z Z (GY Z Z nC Z (b.no Z (gD _))) (λd_ E h=>by obtain ⟨rfl,q,rfl⟩:=h;exact FJ (H':=mZ q) (Fin.wk H_ (Hb<|T_) ⟨Z,T_⟩) ⟨Z,Z,q,Z⟩)
  have m:GO oU n.toNat j=(GO oU (n.toNat - (A.length+1)) q).map λp=>((A++[s])++p.1,p.2):=m;have b:D6 98 [QZ] [] d (some (sv s,q)):=b;have k:=k s q Z;have u:(A++[s]).length=A.length+1:=F_
  refine Rd aA<|Y aA<|Y (by exact D4.opr (GY Z Z nC Z (fS.of (b.yes Z (gD _)))))<|Y (by exact aK [[.str s]] Z bD Z Z Z Z Z (by simp_all))<|Y (by exact cA (ps:=[[.str s]]) Z bD yJ Z Z Z Z Z (eS _) Z (by simp_all) (m:=1) Z (by omega) Z (gO A s))<|V aI<|Rd kp<|V aA ?_;refine⟨q,A++[s],⟨by omega,by omega,by simp_all⟩,by omega,?_⟩;dsimp only;rw[u];exact(cL.wk (Ea<|Ea<|Ea<|Eb<|Eb<|T_) (Hc (aV _ _)<|Hb<|T_) ⟨Z,T_⟩)
 have r:n.toNat=A.length:=J_ o
 have v:GO oU n.toNat j=some (A,d):=by rw[y,r,Nat.sub_self,GO];simp
 rw[v];refine aP<|O aA<|V aI<|aC ?_;refine ND ?_;refine cR (H':=(mZ d)) (.inr Z) Z (aH Z) (Fin.fz (id:=905) (ob:=⟨A.length,1,9,cB A⟩) (r':=.pv (aL A)) (A.map S_) Z (eT _) (.osl (iW S_ _)) Z ⟨⟨_,Z,Z⟩,y4,T_⟩ ⟨Z,T_⟩) ?_
 simp_all
theorem ZG{α:Type}(f)(P:α->Prop)(b)(c:∀l x q,l.length<=b->f l=some (x,q)->q.length<l.length/\P x):∀(n) (l) (xs) (q),l.length<=b->GO f n l=some (xs,q)->q.length+xs.length<=l.length/\∀x∈xs,P x
 |0,l,xs,q,_,h=>by rw[GO]at h;simp_all
 | n+1,l,xs,q,d,h=>by
  rw[GO]at h;cases a:f l with
  |none=>simp_all
  | some p =>
   obtain ⟨x,r⟩:=p;have ⟨h1,h2⟩:=c l x r d a;rw[a]at h;cases e:GO f n r with
   |none=>simp_all
   |some p2 =>
    have ⟨k1,k2⟩:=ZG f P b c n r _ _ X e
    grind
theorem zP{l q}{xs}(h:C1 oU l=some (xs,q)):q.length+xs.length<l.length/\∀x∈xs,x.size<=l.length:=by
 rw[C1]at h;cases b:xG l with
 |none=>simp_all
 |some p =>
  have ⟨n,r⟩:=p;rw[b]at h;have h1:=(kH b).1;have ⟨k1,c⟩:=ZG _ (λx=>x.size<=r.length) _ (λl x q hb a=>by have:=lF a;exact⟨X,X⟩) _ r _ q (g_ _) h;exact⟨X,λx a=>Nat.le_trans (c x a) X⟩
theorem ub{l q}{p}(h:RL l=some (p,q)):q.length<l.length/\(qC p.1/\qC p.2):=by
 rw[RL]at h;cases b:xG l with
 |none=>simp_all
 | some z =>
  have ⟨x,r⟩:=z;rw[b]at h;simp at h;cases a:xG r with
  |none=>simp_all
  |some z2 =>
   rw[a]at h;cases h;have d:=kH b;have c:=kH a;exact⟨X,d.2,c.2⟩
theorem uq{l q}{xs}(h:C1 RL l=some (xs,q)):q.length+xs.length<l.length/\∀x∈xs,qC x.1/\qC x.2:=by
 rw[C1]at h;cases a:xG l with
 |none=>simp_all
 |some p =>
  have ⟨n,r⟩:=p;rw[a]at h;have h1:=(kH a).1;have ⟨k1,c⟩:=ZG _ _ _ (λl x q hb b=>ub b) _ r _ q (g_ _) h;exact⟨X,c⟩
def Qn(l:List UInt8):Option (AV×List UInt8):=(yd l).map λp=>(av (lH p.1),p.2)
theorem sy(l:List UInt8)(B:l.length<1000000000):D6 102 [QZ] [] l (Qn l):=by
 refine D6.of (CO l) Z m3 ?_;have g:=nZ l B;have u:=λq (A:q.length<1000000000)=>ZJ q A;have z:Qn l=(match xG l with
  |none=>none
  | some (i,r)=>match C1 oU r with
   |none=>none
   |some (a,q)=>match C1 oU q with
    |none=>none
    |some (b,p)=>some (.agg [iv i,.pv (aL a),.pv (aL b)],p)):=by
  rw[Qn,yd];cases xG l with
  |none=>rfl
  | some p =>
   have ⟨i,r⟩:=p;simp only;cases C1 oU r with
   |none=>rfl
   |some p =>
    have ⟨a,q⟩:=p;simp only;cases C1 oU q with
    |none=>rfl
    |some p=>rfl
 rw[z];rw[ER]at g;have j:=λn q=>kH (l:=l) (x:=n) (q:=q);generalize xG l=o_ at g j |-;clear z;refine fS.body func102 Z ntmps102 (r_ Z)<|Sz (kl 2 aq)<|S ?_;rcases o_ with _|⟨i,s⟩
 ·have t:D6 99 [QZ] [] l none:=g;refine gS<|iR Z Z Z (gU Z Z) ?_;exact qN Z Z (eL Z Z jF Z (t.no Z (gD _))) (λw x h=>by obtain ⟨rfl,q,rfl⟩:=h;exact FJ (H':=mZ q) P_ ⟨Z,Z,q,Z⟩)
 have t:D6 99 [QZ] [] l (some (iv i,s)):=g;have h1:=(j i s Z).1;have d:=u s X;rw[Ai]at d;have f:=λv q=>zP (l:=s) (xs:=v) (q:=q);simp only;generalize C1 oU s=o_ at d f |-;rcases o_ with _|⟨a,m⟩
 ·have d:D6 100 [QZ,nxB] [] s none:=d;refine gS<|iR Z Z Z (gU Z Z)<|iR Z Z Z (kc jF (t.yes Z (gD _)))<|iR Z Z Z (gU Z Z)<|iR Z Z Z (gU Z Z)<|iR Z Z Z (pD Z Z) ?_;exact qN Z Z (eL Z Z call100 Z (d.no Z (gD _))) (λw x h=>by obtain ⟨rfl,q,rfl⟩:=h;exact FJ (H':=mZ q) P_ ⟨Z,Z,q,Z⟩)
 have d:D6 100 [QZ,nxB] [] s (some (.pv (aL a),m)):=d;have h2:=(f a m Z).1;have e:=u m X;rw[Ai]at e;have o:=λv q=>zP (l:=m) (xs:=v) (q:=q);simp only;generalize C1 oU m=o_ at e o |-;rcases o_ with _|⟨b,y⟩
 ·have e:D6 100 [QZ,nxB] [] m none:=e;refine gS<|iR Z Z Z (gU Z Z)<|iR Z Z Z (kc jF (t.yes Z (gD _)))<|iR Z Z Z (gU Z Z)<|iR Z Z Z (gU Z Z)<|iR Z Z Z (pD Z Z)<|iR Z Z Z (kc call100 (d.yes Z (gD _)))<|iR Z Z Z (gU Z Z)<|iR Z Z Z (gU Z Z)<|iR Z Z Z (pD Z Z) ?_;exact qN Z Z (eL Z Z call100 Z (e.no Z (gD _))) (λw x h=>by obtain ⟨rfl,q,rfl⟩:=h;exact FJ (H':=mZ q) P_ ⟨Z,Z,q,Z⟩)
 have e:D6 100 [QZ,nxB] [] m (some (.pv (aL b),y)):=e;refine Rd aA<|Y (kc jF (t.yes Z (gD _)))<|Y aA<|Y aA<|Y (by exact pD Z Z)<|Y (kc call100 (d.yes Z (gD _)))<|Y aA<|Y aA<|Y (by exact pD Z Z)<|Y (kc call100 (e.yes Z (gD _)))<|Y (oI Vs)<|Uu (jA sizeOf48)<|Zz<|aC ?_;refine ND ?_;refine cR (H':=(mZ y)) (.inr Z) Z (fB Z gT sizeOf48 Z Z Z (by simp only[Zl,S_];rfl) Z) (Fin.wk (by simp[TT]) (Hb<|T_) ⟨Z,T_⟩) ?_;exact⟨_,Z,Z,Z⟩
abbrev inO:Ob:=bx 1 125 [QZ]
abbrev Ku:aF:=[(4,inO)]
theorem vh{H}(h:(H.get 980).isSome=true):∀r∈inO.rows,∀a∈r,Clo H a:=F_
theorem SN(l):dG (mZ l++Ku):=dG.ofL ⟨YN l _,vh Z,T_⟩
def Sb(l:List UInt8):Option (AV×List UInt8):=(RL l).map λp=>(av (kA p.1),p.2)
theorem Ir(l:List UInt8)(N:l.length<1000000000):D6 104 [.ref 4 0 0 0] Ku l (Sb l):=by
 refine D6.of (SN l) Z (by simp;rfl) ?_;have D:=nZ l N;have u:=λq (e_:q.length<1000000000)=>nZ q e_;have hlen:=λn q=>kH (l:=l) (x:=n) (q:=q);have K:Sb l=(match xG l with
  |none=>none
  |some (x,r)=>match xG r with
   |none=>none
   |some (y,q)=>some (.agg [iv x,iv y],q)):=by
  rw[Sb,RL];cases xG l with
  |none=>rfl
  |some p =>
   obtain ⟨i,r⟩:=p;simp only;cases xG r with
   |none=>rfl
   |some p=>rfl
 obtain ⟨x,c,H⟩:∃x c,(xG l).getD (0,l)=(x,c):=⟨_,_,Z⟩;obtain ⟨y,m,I⟩:∃y m,(xG c).getD (0,c)=(y,m):=⟨_,_,Z⟩;have hq1:c.length<=l.length:=by
  grind
 have A:(ER l).getD (iv 0,l)=(iv x,c):=by
  rw[ER]
  grind
 have w:(ER c).getD (iv 0,c)=(iv y,m):=by
  rw[ER]
  grind
 have s:ER l=none->Sb l=none:=λe=>by
  grind
 have o:(ER l).isSome=true->ER c=none->Sb l=none:=λe g=>by
  rw[ER,Option.map_eq_none_iff]at g
  grind
 have z:(ER l).isSome=true->(ER c).isSome=true->Sb l=some (.agg [iv x,iv y],m):=λe g=>by
  cases k:xG l with
  |none=>rw[ER,k]at e;cases e
  |some p =>
   rw[k]at H;cases H;rw[K,k];simp only;cases F:xG c with
   |none=>rw[ER,F]at g;cases g
   |some p=>rw[F]at I;cases I;rfl
 have d_:ER c=none->Sb l=none:=λe=>by
  cases h:ER l with
  |none=>exact s h
  |some p=>exact o (by rw[h];rfl) e
 clear K o;refine fS.body func104 Z ntmps104 (r_ Z)<|Sz (kl 1 Dq)<|S<|yS (λv j G=>Sb l=none/\v=H7/\∃q,G=mZ q++j) [] [] [4] Z a7 (λv E1 j G hts hsh B ⟨e,g,q,k⟩=>by subst k;have c_:aF.get (mZ q++j) 4=some inO:=(B 4 (r6.2 Z)).trans Z;exact FJ (H':=mZ q++Ku) (Fin.wk (by simp) ⟨⟨_,Z,Z⟩,YN _ _,⟨_,c_,Z⟩,vh Z,T_⟩ ⟨Z,c_.symm,T_⟩) ⟨e,g,q,Z⟩) ?_;refine Pr [4] (λ_ h=>lh dU h)<|vI (r:=⟨_,some [980],mZ c⟩) (.pan Z (λj f=>by exact eL Z Z jF Z ((D.tot A ((f 980 Z).trans Z) (gD _)).mono (λ_ _ h=>h) (λv L ⟨e,g,k⟩=>⟨s e,g,k⟩)))) Z ?_;refine Pr [4] (λ_ h=>lh dU h)<|vI (r:=⟨_,some [980],mZ m⟩) (.pan Z (λj f=>by exact eL Z Z jF Z (((u c (by omega)).tot w ((f 980 Z).trans Z) (gD _)).mono (λ_ _ h=>h) (λv L ⟨e,g,k⟩=>⟨d_ e,g,k⟩)))) Z ?_;refine Pr [] (λj f=>by exact ON Z KZ Z Z)<|Pw [1] (λ_ h=>sa sizeOf104 h) ?_;refine KV ⟨⟨by kernel_rfl,by kernel_rfl,by kernel_rfl⟩,λE=>?_⟩;simp only[ag,true_and,and_true]at E;refine aC ?_;refine ND ?_;refine cR (H':=(mZ m++Ku)) (.inr Z) Z (fB Z eD sizeOf104 Z Z Z (by simp only[Zl,S_];rfl) Z) (Fin.wk (by simp[TT]) (Hb<|Ha<|T_) ⟨Z,Z,T_⟩) ?_;exact⟨_,z E.1 E.2,Z,Z⟩
abbrev ptB:AV:=.clo 104 [.ref 4 0 0 0]
def vQ(A:List (Int×Int)):List (List AV):=(A.map kA).map (·.map AV.pv)
theorem RJ(A):(vQ A).length=A.length:=by simp[vQ]
theorem RK(A)(p):vQ A++[(kA p).map AV.pv]=vQ (A++[p]):=by rw[vQ,vQ,map_append,map_append];rfl
theorem CR(A)(H):∀r∈vQ A,∀a∈r,Clo H a:=ZY _ _ _
instance(A)(H):W_ (H) (vQ A):=⟨CR A H⟩
def ew(l:List UInt8):Option (AV×List UInt8):=(C1 RL l).map λp=>(.pv (xO p.1),p.2)
theorem Ah{l}(h:xG l=none):ew l=none:=by rw[ew,C1,h];rfl
theorem Ag{l q}{n}(h:xG l=some (n,q)):ew l=(GO RL n.toNat q).map λp=>(.pv (xO p.1),p.2):=by rw[ew,C1,h]
theorem Tx(l:List UInt8)(F:l.length<1000000000):D6 103 [QZ,ptB] Ku l (ew l):=by
 refine D6.of (SN l) Z (by simp;exact⟨Z,Z⟩) ?_;have g:=nZ l F;have e:=Ah (l:=l);have f:=λn q=>Ag (l:=l) (n:=n) (q:=q);have i:=λn q=>kH (l:=l) (x:=n) (q:=q);rw[ER]at g;have ⟨o_,d_⟩:∃o_,o_=xG l:=X_;rw[<-d_]at g e f i;clear d_;refine fS.body func103 Z ntmps103 (r_ Z)<|Sz aI<|S ?_;rcases o_ with _|⟨n,j⟩
 ·rw[e rfl];have y:D6 99 [QZ] [] l none:=g;refine gS<|iR Z Z Z (gU Z Z) ?_;exact qN Z Z (eL Z Z jF Z (y.no Z (gD _))) (λE G h=>by obtain ⟨rfl,q,rfl⟩:=h;exact FJ (H':=mZ q++Ku) P_ ⟨Z,Z,q,Z⟩)
 have y:D6 99 [QZ] [] l (some (iv n,j)):=g;have ⟨hq0,hn0,hn1⟩:=i n j Z;rw[f n j rfl];refine Rd aA<|Y (kc jF (y.yes Z (gD _)))<|V aI<|Sz (eI (id:=905) (sz:=2) (ty:=104) Z Z Z)<|S<|O aA<|V aA<|aD<|eU (λ(d:List UInt8) (A:List (Int×Int))=>([(0,QZ),(1,ptB),(6,.osl 905 A.length 0 A.length),(9,iv n),(10,iv (A.length:Int))],(905,⟨A.length,2,104,vQ A⟩)::(mZ d++Ku))) (λd A=>d.length+A.length<l.length/\A.length<=n.toNat/\GO RL n.toNat j=(GO RL (n.toNat - A.length) d).map λp=>(A++p.1,p.2)) (λd A=>d.length) j [] ⟨X,l7 _,H_⟩ ?_ ?_
 ·exact L_
 rintro d A ⟨hl',hA,D⟩;have b:=Ir d X;have k:=λs q=>ub (l:=d) (p:=s) (q:=q);have c:=λh=>ep RL (k:=A.length) Z h D;rw[Sb]at b;have ⟨A_,B⟩:∃A_,A_=RL d:=X_;rw[<-B]at b k c;clear B;refine Sz cJ<|S<|Cn ?_ ?_<;>intro m
 ·have x:A.length<n.toNat:=I_ m
  have o:=c x;clear c;refine aB<|S<|aD ?_;rcases A_ with _|⟨s,q⟩
  ·have o:GO RL n.toNat j=none:=o;rw[o];have b:D6 104 [.ref 4 0 0 0] Ku d none:=b;refine gS<|iR Z Z Z (gU Z Z)<|iR Z Z Z (gU Z Z) ?_;exact qN Z Z (GX Z Z call104 Z (b.no Z (HN.sub ⟨Z,T_⟩))) (λE G h=>by obtain ⟨rfl,q,rfl⟩:=h;exact FJ (H':=mZ q++Ku) P_ ⟨Z,Z,q,Z⟩)
  have o:GO RL n.toNat j=(GO RL (n.toNat - (A.length+1)) q).map λp=>((A++[s])++p.1,p.2):=o;have b:D6 104 [.ref 4 0 0 0] Ku d (some (av (kA s),q)):=b;have k:=k s q Z;have z:(A++[s]).length=A.length+1:=F_
  refine Rd aA<|Y aA<|Y (by exact D4.opr (GX Z Z call104 Z (fS.of (b.yes Z (HN.sub ⟨Z,T_⟩)))))<|Y (by exact aK [kA s] Z UB Z Z Z Z Z R_)<|Y (by exact cA (ps:=[kA s]) Z UB Xd Z Z Z Z Z (RJ _) Z R_ (m:=1) Z (by omega) Z (RK A s))<|V aI<|Rd kp<|V aA ?_;refine⟨q,A++[s],⟨by omega,by omega,by simp_all⟩,by omega,?_⟩;dsimp only;rw[z];exact(cL.wk (Ea<|Ea<|Ea<|Eb<|Eb<|T_) (Hc (CR _ _)<|Hb<|Ha<|T_) ⟨Z,Z,T_⟩)
 have w:n.toNat=A.length:=J_ m
 have u:GO RL n.toNat j=some (A,d):=by rw[D,w,Nat.sub_self,GO];simp
 rw[u];refine aP<|O aA<|V aI<|aC ?_;refine ND ?_;refine cR (H':=(mZ d++Ku)) (.inr Z) Z (aH Z) (Fin.fz (id:=905) (ob:=⟨A.length,2,104,vQ A⟩) (r':=.pv (xO A)) (A.map kA) Z Z (.osl (iW kA _)) Z ⟨⟨_,Z,Z⟩,y4,⟨_,Z,Z⟩,v7,T_⟩ ⟨Z,Z,T_⟩) ?_
 simp_all
def JI(h i:Int):Bool:=((decide (h<0)||decide (8<h))||decide (i<0))||decide (((2 ^ h.toNat:Nat):Int)<=i)
def zS:n_:=⟨0,[],[]⟩
def OX(s:B_)(h i:Int)(m:B_):n_×Int:=if JI h i=true then(zS,1)else(⟨i,ln s i.toNat m,xR h.toNat (xX s h.toNat) i.toNat⟩,0)
theorem yg(s m:B_)(h i:Int)(H:aF)(j:JI h i=true):RC 119 [sv s,iv h,iv i,sv m] (.tup [av (lH zS),iv 1]) H:=by
 refine Pu ?_;have e:decide (h<0)=false->decide (8<h)=false->IntKind.i64.wrap (1*2 ^ h.toNat)=((2 ^ h.toNat:Nat):Int):=λg f=>by
  have g:=b_ g;have f:=b_ f;obtain ⟨n,rfl⟩:∃n:Nat,h=(n:Int):=⟨h.toNat,X⟩;rw[l_];have:=Yq (h:=n) X
  rwa [l_]at this
 have hbe:JI h i=(((decide (h<0)||decide (8<h))||decide (i<0))||decide (((2 ^ h.toNat:Nat):Int)<=i)):=rfl;refine Bd func119 Z ntmps119<|O (kb 4)<|Y (kb 6)<|Y (kl 8 aq)<|V aI<|S<|S<|pJ (t:=30) (n:=16) (A_:=JI h i) ?_ ?_
 ·cases b:(decide (h<0):Bool)
  ·cases c:(decide (8<h):Bool)
   ·cases hg25:(decide (i<0):Bool)
    ·refine aM a7<|Cq aA<|Cq cJ<|Cq aA<|Nf aA<|Nf iP<|Cq sC<|Cq aA<|Nf (bQ M_)<|Nf cJ<|Cq sC<|Cq aA<|Nf (bQ M_)<|Nf aA<|Nf (by exact O8 Z Z Z (J_ b) (by have:=b_ c;simp[IntKind.bits];omega) (e b c))<|Nf zU<|Cq sC<|bG<|Kr ?_;exact⟨Z,⟨_,Z,F_⟩,Z,Z,Z⟩
    refine aM a7<|Cq aA<|Cq cJ<|Cq aA<|Nf aA<|Nf iP<|Cq sC<|Cq aA<|Nf (bQ M_)<|Nf cJ<|Cq sC<|Cq aA<|Of<|Of<|Of<|Of<|Cq CS<|bG<|Kr ?_;exact⟨Z,⟨_,Z,F_⟩,Z,Z,Z⟩
   refine aM a7<|Cq aA<|Cq cJ<|Cq aA<|Nf aA<|Nf iP<|Cq sC<|Cq aA<|Of<|Of<|Cq CS<|Cq aA<|Of<|Of<|Of<|Of<|Cq cC<|bG<|Kr ?_;exact⟨Z,⟨_,Z,F_⟩,Z,Z,Z⟩
  refine aM a7<|Cq aA<|Cq cJ<|Cq aA<|Of<|Of<|Cq CS<|Cq aA<|Of<|Of<|Cq cC<|Cq aA<|Of<|Of<|Of<|Of<|Cq cC<|bG<|Kr ?_;exact⟨Z,⟨_,Z,F_⟩,Z,Z,Z⟩
 refine Cn ?_ ?_<;>intro d
 ·refine O (oI Vs)<|Uu (jA sizeOf48)<|V aI<|aC<|fP (H':=[]) (.inr Z) Z (fB Z gT sizeOf48 Z Z Z u0 Z) (aH Z) P_ ?_;exact Qq
 rw[j]at d;cases d
theorem VN(s m)(h i)(H)(c:s.size<2^40)(b:m.size<2^40):RC 119 [sv s,iv h,iv i,sv m] (.tup [av (lH (OX s h i m).1),iv (OX s h i m).2]) H:=by
 rw[OX];by_cases a:JI h i=true
 ·rw[b7 a];exact yg s m h i H a
 rw[a8 a];have a:JI h i=false:=F_
 simp only[JI,q8,p_]at a;have ⟨⟨⟨h1,h2⟩,h3⟩,d⟩:=a;obtain ⟨n,rfl⟩:∃n:Nat,h=n:=⟨h.toNat,X⟩;obtain ⟨k,rfl⟩:∃k:Nat,i=k:=⟨i.toNat,X⟩;rw[l_]at d |-;exact Qo s m n k H c b X X
theorem lp{s m}{h i}(a:(OX s h i m).2=0):FSeal (OX s h i m).1/\(OX s h i m).1=⟨i,ln s i.toNat m,xR h.toNat (xX s h.toNat) i.toNat⟩/\(0<=h/\h<=8)/\0<=i/\i<2 ^ h.toNat:=by
 rw[OX]at a |-
 split at a
 ·cases a
 next c =>
 rw[a8 c];have c:JI h i=false:=F_
 simp only[JI,q8,p_]at c;have d:i<2 ^ h.toNat:=by
  simp_all
 have b:i.toNat<2 ^ h.toNat:=X
 have h8:2 ^ h.toNat<=256:=F1 X;exact⟨⟨F_,G_,by rw[Gc];omega,by rw[V2];omega,Gd _ _ _,V3 _ _ _ (WS _ _) b (WT _ _)⟩,Z,⟨X,X⟩,X,d⟩
def zR:j8:=⟨0,0,0,0,a6,[],[],a6,false,0,a6,zS,⟨a6,a6,[],[],zS⟩⟩
def NR(r:j8):j8:={r with sl:=zS,priv:={r.priv with sl:=zS}}
def G6(r:j8):j8×Int:=if(mF r).2≠0 then(zR,(mF r).2)else(r,0)
def mk1(r:j8)(a:n_):j8:={r with sl:=a,priv:={r.priv with sl:=zS}}
def Jv(r:j8)(a b:n_):j8:={r with sl:=a,priv:={r.priv with sl:=b}}
def NS(r:j8)(s:B_)(h:Int):j8×Int :=if gY (NR r)=false then(zR,1)
 else if(OX s h (2*r.number - 2) (MU (NR r))).2≠0 then(zR,(OX s h (2*r.number - 2) (MU (NR r))).2)
 else if uF r.priv=true then G6 (mk1 r (OX s h (2*r.number - 2) (MU (NR r))).1)
 else if(OX s h (2*r.number - 1) (ZE (NR r))).2≠0 then(zR,(OX s h (2*r.number - 1) (ZE (NR r))).2)
 else G6 (Jv r (OX s h (2*r.number - 2) (MU (NR r))).1 (OX s h (2*r.number - 1) (ZE (NR r))).1)
theorem Y6{s}(h:FSeal s):xU s:=by have i0:=h.i0;have i1:=h.i1;have l1:=h.sl;have l2:=h.pl;exact⟨⟨X,X⟩,⟨X,λt a=>by have:=C4 (h.sa t a);omega⟩,⟨X,λt a=>by have:=C4 (h.pa t a);omega⟩⟩
theorem okZ:xU zS:=Y6 (kX E_)
theorem Jk{r}{a b}(h:nF r)(g:xU a)(l:xU b):nF (Jv r a b):=by have ⟨k,j,d,i,_,m,f,e,c,_⟩:=h;exact⟨k,j,d,i,g,m,f,e,c,l⟩
theorem aAS(r:j8)(s:B_)(h:Int)(u_:nF r)(F:r.parents.length<549755813888)(z_:s.size<2^40)(H:aF):RC 71 [av (dX r),sv s,iv h] (.tup [av (dX (NS r s h).1),iv (NS r s h).2]) H:=by
 refine aU.pure ?_ (by simp_all) H;have g:nF (NR r):=Jk u_ okZ okZ;have hv:=λH=>X0 (NR r) g F H;have hid:=λH=>vl (NR r) g F H;have j:=λH=>Va (mk1 r zS).priv g.2.2.2.2.2 H;rw[NS];refine Bd func71 Z ntmps71<|O (kb 3)<|Y (kl 6 jw)<|V aI<|O (oI Vs)<|Y (oI Vs)<|Y (bA zV)<|Uu (by exact qO Z sizeOf48 Z Z Z Z Z Z Z (r_ Z) Z Z)<|Y (bA iE)<|Y (bA FA)<|Uu (by exact qO Z sizeOf48 Z Z Z Z Z Z Z (r_ Z) Z Z)<|Zz<|S<|O (wQ cT bL)<|Y (kc call105 (hv _))<|V iI<|Cn ?_ ?_<;>intro q
 ·have I:=not_not q;rw[b7 I];refine O (oI TH)<|Uu (jA bL)<|V aI<|aC<|fP (H':=[]) (.inr Z) Z (fB Z cT bL Z Z Z (by simp only[Zl,S_];rfl) Z) (aH Z) (Fin.wk (by simp[dX]) T_ T_) ?_;exact Qq
 have I:=pO q;rw[a8 (by simp_all)];have hf:=xJ I;have L:=hf.nu;have e_:(NR r).number=r.number:=rfl;rw[e_]at L;have n:=λH=>Ae (NR r) g F I H;have R:(ZE (NR r)).size=16:=rF _;have N:=vk (NR r);obtain ⟨d_,K⟩:∃d_,d_=MU (NR r):=X_;obtain ⟨t,c_⟩:∃t,t=ZE (NR r):=X_;rw[<-K]at hid N |-;rw[<-c_]at n R |-;have z:=λH=>VN s d_ h (2*r.number - 2) H z_ (by omega);have D:=λH=>VN s t h (2*r.number - 1) H z_ (by omega);have f:=lp (s:=s) (m:=d_) (h:=h) (i:=2*r.number - 2);have w:=lp (s:=s) (m:=t) (h:=h) (i:=2*r.number - 1);obtain ⟨A,v_⟩:∃A,A=OX s h (2*r.number - 2) d_:=X_;obtain ⟨B,y_⟩:∃B,B=OX s h (2*r.number - 1) t:=X_;rw[<-v_]at z f |-;rw[<-y_]at D w |-;clear v_ y_;refine aB<|S<|aM a7<|Cq (wQ cT bL)<|Cq (kc call55 (hid _))<|Cq (wQ cT bL)<|Cq (kc call118 (n _))<|Cq aI<|Cq aI<|bG<|Kr<|Sz aI<|S<|O aA<|Y aA<|Y (bA AN)<|Y (bQ M_)<|Y (by exact oL Z Z Z (mE (by omega) (by omega)))<|Y (by exact dM Z Z Z (mE (by omega) (by omega)))<|Y aA<|Y (kc call119 (z _))<|Y aA<|Y dK<|Y dK<|Y (bA zV)<|Uu (by exact qO Z sizeOf48 Z Z Z Z Z Z Z (r_ Z) Z Z)<|V aI<|O aA<|V zB<|Cn ?_ ?_<;>intro y
 ·have d:A.2≠0:=by have:=y;intro e;simp_all
  rw[b7 d];refine O (oI TH)<|Y aA<|Uu (jA bL)<|V aI<|aC<|fP (H':=[]) (.inr Z) Z (fB Z cT bL Z Z Z (by simp only[Zl,S_];rfl) Z) (aH Z) (Fin.wk (by simp[dX]) T_ T_) ?_;exact Qq
 have c:A.2=0:=by have:=y;by_cases e:A.2=0;exact e;rw[decide_eq_false e]at this;cases this
 rw[a8 (by omega)];have f:=(f c).1;obtain ⟨A_,Q⟩:∃A_,A_=(if uF r.priv=true then G6 (mk1 r A.1)else if B.2≠0 then(zR,B.2)else G6 (Jv r A.1 B.1)):=X_;rw[<-Q];have v:uF r.priv=true->A_=G6 (Jv r A.1 zS):=λe=>by rw[Q,b7 e];rfl
 have i:uF r.priv=false->B.2≠0->A_=(zR,B.2):=λe e2=>by simp_all
 have u:uF r.priv=false->B.2=0->A_=G6 (Jv r A.1 B.1):=λe e2=>by simp_all
 have P:uF (mk1 r zS).priv=uF r.priv:=rfl;rw[P]at j;clear Q;obtain ⟨W,l⟩:∃W,W=uF r.priv:=X_;rw[<-l]at j v i u;refine aB<|eK (λ(b:n_)=>([(3,.ref 3 0 0 0),(6,.ref 6 0 0 0)],[(6,bx 21 53 ((dX zR).map .pv)),(3,bx 21 53 ((dX (Jv r A.1 b)).map .pv))])) (λb=>xU b/\A_=G6 (Jv r A.1 b)) ?_ ?_
 ·refine O (bA iE)<|Y (wQ isAgg51 sizeOf51)<|Y (kc call120 (j _))<|V iI<|Cn ?_ ?_<;>intro p
  ·have G:=not_not p;refine O aA<|Y aA<|Y (bA AN)<|Y (bQ M_)<|Y (by exact oL Z Z Z (mE (by omega) (by omega)))<|Y (by exact dM Z Z Z (mE (by omega) (by omega)))<|Y aA<|Y (kc call119 (D _))<|Y aA<|Y dK<|Y dK<|Y (bA iE)<|Y (bA FA)<|Uu (by exact qO Z sizeOf48 Z Z Z Z Z Z Z (r_ Z) Z Z)<|V aI<|O aA<|V zB<|Cn ?_ ?_<;>intro E
   ·have d:B.2≠0:=by have:=E;intro e;rw[e]at this;exact absurd this (by decide)
    rw[i G d];refine O (oI TH)<|Y aA<|Uu (jA bL)<|V aI<|aC<|fP (H':=[]) (.inr Z) Z (fB Z cT bL Z Z Z (by simp only[Zl,S_];rfl) Z) (aH Z) (Fin.wk (by simp[dX]) T_ T_) ?_;exact Qq
   have c:B.2=0:=by have:=E;by_cases e:B.2=0;exact e;rw[decide_eq_false e]at this;cases this
   refine aB ?_;exact⟨B.1,⟨Y6 (w c).1,u G c⟩,Wk⟩
  have G:=pO p;refine aB ?_;exact⟨zS,⟨okZ,v G⟩,Wk⟩
 rintro b ⟨o_,i⟩;rw[i,G6];have k:=λH=>X4 (Jv r A.1 b) (Jk u_ (Y6 f) o_) F H;obtain ⟨T,hT⟩:∃T,T=mF (Jv r A.1 b):=X_;rw[<-hT]at k |-;refine S<|O (wQ cT bL)<|Y (kc call72 (k _))<|Y aA<|Y dK<|Y dK<|Y aI<|V aI<|O aA<|V zB<|Cn ?_ ?_<;>intro o
 ·have d:T.2≠0:=by have:=o;intro e;rw[e]at this;exact absurd this (by decide)
  rw[b7 d];refine O (oI TH)<|Y aA<|Uu (jA bL)<|V aI<|aC<|fP (H':=[]) (.inr Z) Z (fB Z cT bL Z Z Z (by simp only[Zl,S_];rfl) Z) (aH Z) (Fin.wk (by simp[dX]) T_ T_) ?_;exact Qq
 have c:T.2=0:=by have:=o;by_cases e:T.2=0;exact e;rw[decide_eq_false e]at this;cases this
 rw[a8 (by rw[c];decide)];refine aB<|O (wQ cT bL)<|Uu (jA bL)<|V aI<|aC<|fP (H':=[]) (.inr Z) Z (fB Z cT bL Z Z Z (by simp only[Zl,S_];rfl) Z) (aH Z) (Fin.wk (by simp[dX]) T_ T_) ?_;exact Qq
abbrev Dg(e:Int):Ob:=bx 1 25 [iv e]
abbrev Dc(x:j8):Ob:=bx 21 53 ((dX x).map .pv)
abbrev mr(x:j8)(e:Int):aF:=[(3,Dg e),(2,Dc x)]
abbrev eAJ:Ob:=bx 1 25 [.any]
abbrev rAJ:Ob:=bx 21 53 [.any,.any,.any,.any,.any,.any,.any,.any,.any,.any,.any,.any,.any,.any,.any,.any,.any,.any,.any,.any,.any]
abbrev pAJ:aF:=[(3,eAJ),(2,rAJ)]
abbrev dcJ:List AV:=[.ref 2 0 0 0,.ref 3 0 0 0]
theorem Zi(x)(e):ah Tryz.prog 97 dcJ (mr x e) .returning (λH2=>H2=mr x e):=by
 refine K6 (x:=MJ) func97 Z ntmps97 (r_ Z) Z Z Z Z Z Z (λw I=>.sat Z Z) (.inl ⟨Z,Z⟩)<|TL<|K0<|sB<|N5 Z Z Z (nc Z underlying20 Z)<|GG<|NB Z (λb=>?_) (λb=>?_)
 ·refine sB<|N5 Z Z Z (xT Z Z)<|GG ?_;exact⟨.inl Z,mr x e,Fin.wk H_ (Hb<|Hb<|T_) ⟨Z,Z,T_⟩,Z⟩
 cases b
theorem Zj:ah Tryz.prog 97 dcJ pAJ (.panicking H7) (λH2=>H2=mr zR 5):=by
 refine K6 (x:=.ifa 124 []) func97 Z ntmps97 (r_ Z) Z Z Z Z Z Z (λw I=>.ifa _ _ _ Z H_) (.inr ⟨_,Z,Z⟩)<|TL<|K0<|sB<|N5 Z Z Z (nf Z underlying20 Z)<|GG<|NB Z (λc=>?_) (λc=>?_)
 ·cases c
 refine K0<|sB<|N5 Z Z Z (RU Z (dR yW Z) Z)<|N5 Z Z Z (vB Z Z Z)<|N5 Z Z Z (vB Z Z Z)<|GG<|NB Z (λb=>?_) (λb=>?_)
 ·refine K0<|sB<|N5 Z Z Z (nh Z zeroValue124)<|Nk Z Z (mz Z Z Z sizeOf124)<|GG<|sB<|N5 Z Z Z (ON Z TH Z Z)<|Nk Z Z (lR Z bL Z Z Z Z Z Z Z Z)<|Nk Z Z (lR Z sizeOf25 Z Z Z Z Z Z Z Z)<|GG ?_;exact⟨.inl Z,mr zR 5,Fin.wk H_ (Hb<|Hb<|T_) ⟨Z,Z,T_⟩,Z⟩
 cases b
theorem aAZ(s:B_)(A_:s.size<2^40)(g:(fJ s).2.1=0):aU Tryz.prog 203 [sv s] [] (λr H'=>r=.tup [.osl 905 (fJ s).1.length 0 (fJ s).1.length,iv 0,iv (fJ s).2.2]/\H'=[(905,⟨(fJ s).1.length,3,189,lL (fJ s).1⟩)]):=by
 refine Bd func203 Z ntmps203<|O (kl 2 Wf)<|Y (kl 3 Xr)<|V (kl 4 Xq)<|S<|O aA<|Y (gE U_)<|V iP<|Cn ?_ ?_<;>intro v
 ·have e:fJ s=([],2,-1):=by rw[fJ,b7 (by have:=b9 v;omega)]
  rw[e]at g;exact absurd g (by decide)
 have P:¬ 20000<s.size:=by have:=b_ v;omega
 obtain ⟨b,i⟩:∃b,b=jZ s (s.size+1) 0:=X_;have v_:fJ s=kI [] b:=by rw[fJ,a8 P,i]
 refine aB<|Sz (kl 5 Dl)<|S<|O aA<|V (kc call254 (bp s _ Z Z Z (dG.ofL ⟨(by simp_all),(by simp_all),(by simp_all),(by simp_all),T_⟩)))<|aD ?_;refine gG.ent (E':=[(2,.ref 2 0 0 0),(3,.ref 3 0 0 0),(4,.ref 4 0 0 0),(5,.ref 5 0 0 0),(11,.clo 290 [.ref 921 0 0 0,.ref 924 0 0 0])]) (H':=[(905,⟨0,3,189,[]⟩),(5,bx 1 185 [.osl 905 0 0 0]),(924,tA),(923,tC),(921,tS s),(4,bx 1 3 [iv 0]),(3,bx 1 25 [iv 0]),(2,bx 1 185 [.pv (.sl [])])]) ?_ ?_
 ·exact(cL.nz 905 3 189 Z Z ⟨⟨_,Z,(by exact Nz.same (by(simp;rfl)))⟩,⟨_,Z,(by exact Nz.same (by(simp;rfl)))⟩,⟨_,Z,(by exact Nz.same (by(simp;rfl)))⟩,⟨_,Z,(by exact Nz.same (by(simp;rfl)))⟩,⟨_,Z,(by exact Nz.same (by(simp;exact⟨Z,Z⟩)))⟩,T_⟩ ⟨⟨_,Z,Z,Z,Z,(by exact .inr ⟨_,_,rfl,rfl,(by repeat(first|exact trivial|refine⟨(by exact Nz.own),?_⟩))⟩)⟩,⟨_,Z,Z,Z,Z,(by exact .inl ⟨Z,(by exact sK Z Z)⟩)⟩,⟨_,Z,Z,Z,Z,(by exact .inl ⟨Z,(by exact kB _)⟩)⟩,⟨_,Z,Z,Z,Z,(by exact .inl ⟨Z,(by exact sJ _ _)⟩)⟩,⟨_,Z,Z,Z,Z,(by exact .inl ⟨Z,(by(simp;done))⟩)⟩,⟨_,Z,Z,Z,Z,(by exact .inl ⟨Z,(by(simp;done))⟩)⟩,⟨_,Z,Z,Z,Z,(by exact .inl ⟨Z,(by(simp;done))⟩)⟩,T_⟩ T_)
 have hdl:b.length<=s.size+1:=by rw[i];exact A7 s _ _
 obtain ⟨j,W⟩:∃j,j=zA (sT b) b.length 0:=X_;have G:j<=b.length:=by have:=(FX (sT b) b.length 0).2;omega
 have u:∀k,k<j->sT b k=true:=λk K=>JJ (sT b) b.length 0 k (l7 _) (by rw[<-W];exact K);have L:j<b.length->sT b j=false:=λh=>by have:=xE (sT b) b.length 0 (by omega);rwa [<-W]at this
 have m:=MN G u;refine B4 (id:=904) (p:=12) vD Z call290 Z Z (by simp[vD];exact⟨Z,Z,Z,Z⟩) ?_;intro x E A u_ e_ T R;have o:∀(k:Nat) (d:b6),b[k]?=some d->k<=j ->
   dH Tryz.prog (.yld 904 0) [.agg ((KU d).map .pv)] ((904,LR x vD)::(926,tF d)::kL s (b.take k) (.pv (.sl [])) 0 0) (λr H'=>r=bv (sT b k)/\H'=(if sT b k then(904,LR x vD)::(926,tF d)::kL s (b.take (k+1)) (.pv (.sl [])) 0 0 else(904,LR (left x .ret) vD)::(926,tF d)::kL s (b.take k) (.pv (.sl [])) (if d.err≠0 then d.err else 2) d.pos)):=by
  intro k d y hkj;have g:=J8 y;have hkl:k<b.length:=(m9.1 y).1;have htl:(b.take k).length=k:=by rw[q9];omega
  have I:b.take (k+1)=b.take k++[d]:=by rw[List.take_add_one,y];rfl
  refine .inl ⟨904,0,Z,?_⟩;refine LJ [(2,.ref 2 0 0 0),(3,.ref 3 0 0 0),(4,.ref 4 0 0 0),(5,.ref 5 0 0 0),(6,.ref 907 0 0 0)] ((907,tF d)::(926,tF d)::kL s (b.take k) (.pv (.sl [])) 0 0) E A u_ e_ T R Z Z Z ?_ ?_
  ·refine Rd (kl 907 Dp)<|Uu (jA sizeOf266)<|Zz ?_;exact(cL.wk (Ea<|Ea<|Ea<|Ea<|Ea<|T_) (Hc (nT (by simp[vD];exact⟨Z,Z,Z,Z⟩))<|Hc (AB _ _)<|Hc (AB _ _)<|Hc (cS _ _)<|Ha<|Hc (sK Z Z)<|Hc (kB _)<|Hc (sJ _ _)<|Hb<|Hb<|Hb<|T_) ⟨Z,Z,Z,Z,Z,Z,Z,Z,Z,Z,T_⟩)
  refine aD<|S<|aD<|O (bA tB)<|Y (bQ mV)<|Y zB<|Da<|Cn ?_ ?_<;>intro F
  ·have q:d.err≠0:=by have h:=F;rw[r8,p_]at h;exact h
   have w:sT b k=false:=by rw[g,decide_eq_false q];rfl
   rw[w,a8 (by decide),b7 q];refine S<|aM a7<|Cr [907] (λ_ h=>fh tB h)<|Cr [907] (λ_ h=>lh mV h)<|Cr [907] (λ_ h=>fh oO h)<|Cr [907] (λ_ h=>fh PK h)<|Cr [907] (λ_ h=>lh M_ h)<|Cp [2] (λ_ h=>sa nS h)<|Cp [3] (λ_ h=>sa sizeOf25 h)<|Cp [4] (λ_ h=>sa sizeOf3 h)<|bG<|Kr<|aC ?_;exact⟨(926,tF d)::kL s (b.take k) (.pv (.sl [])) d.err d.pos,(cL.wk T_ (Hc (nT (by simp[vD];exact⟨Z,Z,Z,Z⟩))<|Hc (AB _ _)<|Hc (cS _ _)<|Ha<|Hc (sK Z Z)<|Hc (kB _)<|Hc (sJ _ _)<|Hb<|Hb<|Hb<|T_) ⟨Z,Z,Z,Z,Z,Z,Z,Z,Z,Z,T_⟩),Z,Z⟩
  have q:d.err=0:=by have h:=F;rw[Bool.not_eq_false',j0]at h;exact h
  refine O (bQ nB)<|Y (by exact dS Z cP Z Z Z)<|Y cD<|Da<|Cn ?_ ?_<;>intro D
  ·have t:k=5000:=by have:=b9 D;omega
   have w:sT b k=false:=by rw[g,decide_eq_true q,decide_eq_true t];rfl
   rw[w,a8 (by decide),a8 (λh=>h q)];refine S<|aM a7<|Cr [907] (λ_ h=>fh oO h)<|Cr [907] (λ_ h=>fh PK h)<|Cr [907] (λ_ h=>lh M_ h)<|Cp [2] (λ_ h=>sa nS h)<|Cp [3] (λ_ h=>sa sizeOf25 h)<|Cp [4] (λ_ h=>sa sizeOf3 h)<|bG<|Kr<|aC ?_;exact⟨(926,tF d)::kL s (b.take k) (.pv (.sl [])) 2 d.pos,(cL.wk T_ (Hc (nT (by simp[vD];exact⟨Z,Z,Z,Z⟩))<|Hc (AB _ _)<|Hc (cS _ _)<|Ha<|Hc (sK Z Z)<|Hc (kB _)<|Hc (sJ _ _)<|Hb<|Hb<|Hb<|T_) ⟨Z,Z,Z,Z,Z,Z,Z,Z,Z,Z,T_⟩),Z,Z⟩
  have t:¬ k=5000:=by have:=b_ D;omega
  have w:sT b k=true:=by rw[g,decide_eq_true q,decide_eq_false t];rfl
  rw[w,b7 Z,I,Kl];refine aB<|Rd (bQ nB)<|Y (bA oO)<|Y (wQ iT sizeOf189)<|Y (by exact aK [K_ d] Z iA Z Z Z Z Z R_)<|Y (by exact cA (ps:=[K_ d]) Z iA vw Z Z Z Z Z (xL _) Z R_ (m:=1) Z (by omega) Z (CG (b.take k) d))<|Uu (jA nS)<|Zz ?_;exact⟨(926,tF d)::[(905,⟨(b.take k).length+1,3,189,lL (b.take k++[d])⟩),(5,bx 1 185 [.osl 905 ((b.take k).length+1) 0 ((b.take k).length+1)]),(924,tA),(923,tC),(921,tS s),(4,bx 1 3 [iv 0]),(3,bx 1 25 [iv 0]),(2,bx 1 185 [.pv (.sl [])])],(cL.wk T_ (Hc (nT (by simp[vD];exact⟨Z,Z,Z,Z⟩))<|Hc (AB _ _)<|Hc (cS _ _)<|Ha<|Hc (sK Z Z)<|Hc (kB _)<|Hc (sJ _ _)<|Hb<|Hb<|Hb<|T_) ⟨Z,Z,Z,Z,Z,Z,Z,Z,Z,Z,T_⟩),Z,Z⟩
 rcases Nat.lt_or_ge j b.length with n|o_
 ·obtain ⟨f,Q⟩:=aS n;have B:=L n;have f_:b.drop j=f::b.drop (j+1):=by
   rw[List.drop_eq_getElem_cons n];rw[m_ n]at Q;cases Q;rfl
  have d_:fJ s=([],(if f.err≠0 then f.err else 2),(f.pos:Int)):=by
   rw[v_,m,f_,kI]
   split
   ·rfl
   rename_i q;have c_:f.err=0:=by
    by_cases h:f.err=0
    ·exact h
    exact absurd h q
   rw[J8 Q,decide_eq_true c_,Bool.true_and,Bool.not_eq_false',j0]at B;rw[b7 (by rw[q9];omega)]
  rw[d_]at g;have g:(if f.err≠0 then f.err else 2)=0:=g
  split at g
  ·next h=>exact absurd g h
  exact absurd g (by decide)
 have N:j=b.length:=Nat.le_antisymm G o_;rw[N,List.take_length,List.drop_length]at m;rw[v_,m,kI];refine(LO s (.yld 904 0) (λk=>(904,LR x vD)::kL s (b.take k) (.pv (.sl [])) 0 0) (sT b) b.length A_ (λk=>rfl) (λk=>rfl) (λk=>rfl) (λk=>rfl) (λk=>(dG.ofL ⟨(by exact nT (by simp[vD];exact⟨Z,Z,Z,Z⟩)),(by exact cS _ _),(by(simp;rfl)),(by exact sK Z Z),(by exact kB _),(by exact sJ _ _),(by(simp;done)),(by(simp;done)),(by(simp;done)),T_⟩)) (λk=>by simp;rfl) (by rw[<-i];exact g_ _) (λk K=>u k (by omega)) (.inl (by rw[<-i])) ?_).mono ?_
 ·rw[<-i];intro k d y K;have p:=o k d y (by omega);have g:=u k (by omega);rw[g,b7 rfl]at p;rw[g];exact dH.congrG p (λj=>mR (by decide) j) (λj=>mR (by decide) j)
 rintro r H' ⟨rfl,rfl⟩;rw[List.take_length];refine⟨x,_,Z,by rw[E];decide,Z,λz=>?_⟩;rw[A];refine O (bQ nB)<|Uu (jA nS)<|Uu (jA sizeOf25)<|Uu (jA sizeOf3)<|Zz<|aC<|lX (H':=[(905,⟨b.length,3,189,lL b⟩)]) (.inr Z) Z (iK Z nB Z Z Z Z) (iK Z mV Z Z Z Z) (iK Z M_ Z Z Z Z) (Fin.wk (by(simp;rfl)) (Hc (cS _ _)<|T_) T_) ?_;exact Qq
theorem aAY(s)(H)(c:s.size<2^40)(b:(fJ s).2.1=0)(hH:H.get 905=none):aU Tryz.prog 203 [sv s] H (λr H'=>r=.tup [.osl 905 (fJ s).1.length 0 (fJ s).1.length,iv 0,iv (fJ s).2.2]/\H'=(905,⟨(fJ s).1.length,3,189,lL (fJ s).1⟩)::H) :=aU.frame (aAZ s c b) (λ_ _ h=>by cases h) (λ_ _ h=>by cases h) H_ (λid h=>.inr (by
  by_cases e:id=905
  ·simp_all
  rw[get_cons_other _ _ e]at h;cases h))
theorem JM(f:α->List _)(l:List _):l.map (λe=>(f e).map AV.pv)=(l.map f).map (·.map .pv):=H_
theorem kS(f:α->List PV)(l:List _):((l.map f).take (0+l.length)).drop 0=l.map f:=take_of_length_le H_
theorem Al(f)(H):RC 285 [av (K_ f)] (bv (kJ f)) H:=by
 refine Pu<|Bd func285 Z ntmps285<|O (wL (id:=1) Z Z Z Z Z)<|V aI<|S<|aQ (t:=2) (n:=10) (A_:=kJ f) ?_ ?_
 ·all_goals refine Y (bA iF)<|Y (bQ N_)<|Y wH<|Dm ?_<;>(refine Sp 6 (λb=>?_) λb=>?_)<;>(first|refine M<|M<|M ?_|refine U (bA uT)<|U (bQ M_)<|U cD ?_)<;>refine Y cC<|Da ?_<;>exact Gj (h:=by(simp only[kJ, *];rfl))
 exact aC<|Rt<|Qq
theorem MT(l)(H:aF)(hl:l.length<2^62):
  RC 284 [.pv (CL l),.pv (.fn 285)] (iv (AJ kJ l)) H:=by
 refine Pu ?_;have hml:(l.map K_).length=l.length:=j6 _;refine Bd func284 Z ntmps284<|Sz aI<|S<|O aA<|Y (fW cP)<|V aA<|aD<|bF (σ:=Nat) (λk=>([(0,.pv (CL l)),(1,.pv (.fn 285)),(7,iv ((l.map K_).length:Int)),(8,iv (k:Int))],[])) (λk=>k<=l.length/\∀j,j<k->∀b,l[j]?=some b->kJ b=false) (λk=>l.length - k) 0 ⟨X,X⟩ ?_ ?_
 ·exact E0
 rintro k ⟨hk,d⟩;refine Sz cJ<|S<|Cn ?_ ?_<;>intro f
 ·have i:k<l.length:=I_ f
  have ⟨o,h⟩:=aS i;have hi:=cE (f:=K_) h;refine aB<|S<|aD<|O aA<|V aI<|O aA<|Y aA<|Y aA<|Y (iO iA)<|Y (by exact fA Z iT sizeOf189 Z X (Z) Z)<|V (by exact dA Z Z Z (dH.fn call285 (Al o _)))<|Cn ?_ ?_<;>intro e
  ·refine O aA<|V aI<|aC<|Rt ?_;exact⟨by rw[AJ,W8 d h e],Z⟩
  refine aB<|Rd gX<|V aA ?_;exact⟨k+1,⟨X,RN d h e⟩,X,E0⟩
 have g:k=l.length:=J_ f
 subst g;refine aP<|Sz aI<|aC<|Rt ?_;exact⟨by rw[AJ,W9 d],Z⟩
def JW(T:List b6)(k:Nat):List b6:=T++List.replicate k KD
theorem JV(T)(k):(JW T k).length=T.length+k:=by rw[JW,j_,length_replicate]
theorem Is(T)(k):lL (JW T k)++[(K_ KD).map AV.pv]=lL (JW T (k+1)):=by rw[CG,JW,JW,replicate_succ',append_assoc]
def kF(s:B_):Nat->Int
 |0=>0
 |j+1=>if eF ((j+1:Nat):Int)=s then((j+1:Nat):Int)else kF s j
theorem vd(s):kF s 5=DT s:=by simp only[kF,DT,eq_comm];rfl
theorem P5:∀l,rK l=fL l (l.length / 3)
 | []=>rfl
 | [a]=>by simp[rK,fL]
 | [a,b]=>by simp[rK,fL]
 |a::b::c::r=>by
  rw[rK,P5 r];have d:(a::b::c::r).length=r.length+3:=rfl;rw[d,add_div_right _ H_,fL,fL,range_succ_eq_map,map_cons,map_map];rfl
theorem Nd(s):atV s=(pW s).1:=by rw[atV,pW];all_goals grind
abbrev oR(id:B_)(k x y:Int)(n m:Nat):Ob:=bx 6 135 [sv id,iv k,iv x,iv y,.osl 906 n 0 n,.osl 907 m 0 m]
def aj(L:List b6):Ob:=⟨L.length,3,189,lL L⟩
def rH(L:List b6)(id:B_)(k x y:Int)(R:List B_)(G:List m7):aF:=[(907,⟨G.length,2,270,sI G⟩),(906,⟨R.length,1,9,cB R⟩),(3,oR id k x y R.length G.length),(905,aj L),(2,bx 6 135 ((bP h_).map .pv))]
abbrev rE(L:List b6):cY:=[(0,.osl 905 L.length 0 L.length),(2,.ref 2 0 0 0),(3,.ref 3 0 0 0)]
theorem aDx(L)(id)(k x y)(R)(s)(G):rH L id k x y (R++[s]) G=[(907,⟨G.length,2,270,sI G⟩),(906,⟨R.length+1,1,9,cB (R++[s])⟩),(3,oR id k x y (R.length+1) G.length),(905,aj L),(2,bx 6 135 ((bP h_).map .pv))]:=by simp[rH]
theorem aCG(L)(id)(k x y)(R)(t)(G):rH L id k x y R (G++[t])=[(907,⟨G.length+1,2,270,sI (G++[t])⟩),(906,⟨R.length,1,9,cB R⟩),(3,oR id k x y R.length (G.length+1)),(905,aj L),(2,bx 6 135 ((bP h_).map .pv))]:=by simp[rH]
theorem CF{L}{f}(h:L[i]?=some f):(lL L)[i]?=some [iv f.kind,sv f.text,iv (f.pos)]:=by rw[lL,r7,h];rfl
theorem Yw(T:List b6)(hl:T.length<549755813888)(F:∀f∈vR T,f.text.size<2^40):aU Tryz.prog 252 [.osl 905 T.length 0 T.length] [(905,aj T)] (λr H'=>r=av (bP (sX T))/\H'=[(905,aj (vR T))]):=by
 refine Bd func252 Z ntmps252<|Sz (kl 2 U5)<|S<|aD<|bF (σ:=Nat) (λk=>([(0,.osl 905 (JW T k).length 0 (JW T k).length),(2,.ref 2 0 0 0)],[(905,aj (JW T k)),(2,bx 6 135 ((bP h_).map .pv))])) (λk=>k<=4 - T.length) (λk=>4 - T.length - k) 0 (l7 _) ?_ ?_
 ·rw[show JW T 0=T by simp[JW]];exact(cL.wk (Ea<|Ea<|T_) (Hc (cS _ _)<|Hb<|T_) ⟨Z,T_⟩)
 rintro k hk;have K:=JV T k;unfold aj;refine S<|O aA<|Y (by exact dS Z cP Z Z Z)<|V cJ<|Cn ?_ ?_<;>intro y_
 ·have z_:T.length+k<4:=by have:=b9 y_;rw[K]at this;omega
  refine aB<|aD<|Rd aA<|Y (oI HF)<|Y (by exact aK [K_ KD] Z iA Z Z Z Z Z R_)<|Y (by exact cA (ps:=[K_ KD]) Z iA vw Z Z Z Z Z (xL _) Z R_ (m:=1) Z (by omega) Z (Is T k))<|Da ?_;refine⟨k+1,by omega,by omega,?_⟩;rw[show (JW T (k+1)).length=(JW T k).length+1 by rw[JV,JV];omega];exact(cL.wk (Ea<|Ea<|T_) (Hc (cS _ _)<|Hb<|T_) ⟨Z,T_⟩)
 have W:4<=T.length+k:=by have:=b_ y_;rw[K]at this;omega
 obtain rfl:k=4 - T.length:=by omega
 obtain ⟨L,hL⟩:∃L,L=JW T (4 - T.length):=X_;have G:vR T=L:=by rw[hL];rfl
 have hLl:4<=L.length/\L.length<549755813893:=by rw[hL,JV];omega
 rw[G]at F;rw[G,<-hL];clear K;obtain ⟨I,v_⟩:=aS (show 0<L.length by omega);obtain ⟨t1,ht1⟩:=aS (show 1<L.length by omega);obtain ⟨P,c_⟩:=aS (show 2<L.length by omega);obtain ⟨Q,o_⟩:=aS (show 3<L.length by omega);have w:=CF v_;have hr1:=CF ht1;have s:=CF c_;have hr3:=CF o_;have hd:∀ {i:Nat} {f:b6},L[i]?=some f->L.getD i KD=f:=fun {i f} h=>by rw[List.getD_eq_getElem?_getD,h];rfl
 have hR:=sX.eq_1 T;rw[G,hd v_,hd ht1,hd c_,hd o_]at hR;refine aP<|O aA<|Y (by exact dL Z iA Z Z Z Z Z (by omega) (by exact l_ _) (show 1<L.length by omega) Z)<|Y (bA iF)<|Y (by exact aX Z N_ Z Z Z hr1 Z)<|Y (oI Mk)<|Y (kl 3 Dn)<|Uu (jA sizeOf135)<|Zz<|S<|S ?_;refine gG.ent (E':=rE L) (H':=[(906,⟨0,1,9,[]⟩),(3,bx 6 135 [sv t1.text,iv 0,iv 0,iv 0,.osl 906 0 0 0,.pv .nils]),(905,aj L),(2,bx 6 135 ((bP h_).map .pv))]) (cL.nz 906 1 9 Z Z ⟨⟨_,Z,(by exact Nz.same (by(simp;rfl)))⟩,⟨_,Z,(by exact Nz.same (by(simp;rfl)))⟩,⟨_,Z,(by exact Nz.same (by(simp;rfl)))⟩,T_⟩ ⟨⟨_,Z,Z,Z,Z,(by exact .inr ⟨_,_,rfl,rfl,(by repeat(first|exact trivial|refine⟨(by first|exact Nz.own|exact Nz.same (by(simp;done))),?_⟩))⟩)⟩,⟨_,Z,Z,Z,Z,(by exact .inl ⟨Z,(by exact cS _ _)⟩)⟩,⟨_,Z,Z,Z,Z,(by exact .inl ⟨Z,(by(simp;done))⟩)⟩,T_⟩ ⟨Z,T_⟩) ?_;refine gG.ent (E':=rE L) (H':=rH L t1.text 0 0 0 [] []) (cL.nz 907 2 270 Z Z ⟨⟨_,Z,(by exact Nz.same (by(simp;rfl)))⟩,⟨_,Z,(by exact Nz.same (by(simp;rfl)))⟩,⟨_,Z,(by exact Nz.same (by(simp;rfl)))⟩,T_⟩ ⟨⟨_,Z,Z,Z,Z,(by exact .inl ⟨Z,(by exact aV _ _)⟩)⟩,⟨_,Z,Z,Z,Z,(by exact .inr ⟨_,_,rfl,rfl,(by repeat(first|exact trivial|refine⟨(by first|exact Nz.own|exact Nz.same (by first|(simp;done)|(simp;rfl))),?_⟩))⟩)⟩,⟨_,Z,Z,Z,Z,(by exact .inl ⟨Z,(by exact cS _ _)⟩)⟩,⟨_,Z,Z,Z,Z,(by exact .inl ⟨Z,(by(simp;done))⟩)⟩,T_⟩ ⟨Z,T_⟩) ?_;refine Rg<|V aI<|aD<|bF (σ:=Nat) (λj=>(rE L++[(4,iv ((j+1:Nat):Int))],rH L t1.text (kF I.text j) 0 0 [] [])) (λj=>j<=5) (λj=>5 - j) 0 (l7 _) ?_ ?_
 ·exact(cL.wk (Ea<|Ea<|Ea<|Eb<|T_) (Hc (kU _ _)<|Hc (aV _ _)<|Hc (by(simp;exact⟨Z,Z⟩))<|Hc (cS _ _)<|Hb<|T_) ⟨Z,T_⟩)
 rintro j hj;refine S<|O aA<|V G8<|Cn ?_ ?_<;>intro A_
 ·have hj5:j<5:=by have:=b9 A_;omega
  refine aB<|S<|aD<|S<|aM a7<|Cq aA<|Cq (kc call283 (HH ((j+1:Nat):Int) _))<|Cq aA<|Cq (by exact dL Z iA Z Z Z Z Z (by omega) (by exact l_ _) (show 0<L.length by omega) Z)<|Cq (bA iF)<|Cq (by exact aX Z N_ Z Z Z w Z)<|Cq wH<|bG<|Kr<|Cn ?_ ?_<;>intro hc3
  ·have hw:eF ((j+1:Nat):Int)=I.text:=b9 hc3;refine Rd aA<|Y (bA eB)<|Uu (by exact cQ Z sizeOf3 Z Z Z Z Z Z (by simp only[j7,List.length_nil];omega) (by simp only[Zl,bS,bP,S_,gP,K_];rfl) (by simp only[Zl,bS,bP,S_,gP,K_];rfl))<|Zz<|Rd aA<|Y gX<|Da ?_;refine⟨j+1,by omega,by omega,?_⟩;rw[show kF I.text (j+1)=((j+1:Nat):Int)by rw[kF,b7 hw]];exact(cL.wk (Ea<|Ea<|Ea<|Eb<|T_) (Hc (kU _ _)<|Hc (aV _ _)<|Hc (by(simp;exact⟨Z,Z⟩))<|Hc (cS _ _)<|Hb<|T_) ⟨Z,T_⟩)
  have hw:eF ((j+1:Nat):Int)≠I.text:=b_ hc3;refine aB<|Rd aA<|Y gX<|Da ?_;refine⟨j+1,by omega,by omega,?_⟩;rw[show kF I.text (j+1)=kF I.text j by rw[kF,a8 hw]];exact(cL.wk (Ea<|Ea<|Ea<|Eb<|T_) (Hc (kU _ _)<|Hc (aV _ _)<|Hc (by(simp;exact⟨Z,Z⟩))<|Hc (cS _ _)<|Hb<|T_) ⟨Z,T_⟩)
 have hj5:j=5:=by have:=b_ A_;omega
 subst hj5;rw[vd];obtain ⟨A,hkd⟩:∃A,A=DT I.text:=X_;rw[<-hkd]at hR |-;have htk:(lL L).length=L.length:=xL L;refine aP<|O aA<|Y (by exact kP (l:=4) (h:=L.length) Z iA Z Z Z Z Z Z (by omega) (by omega) Z Z)<|V aI<|S<|O (bA eB)<|Y (bQ M_)<|V cD<|Cn ?_ ?_<;>intro R
 ·have z:A=1:=b9 R;have hR2:sX T=⟨t1.text,1,atV P.text,atV Q.text,[],rK (L.drop 4)⟩:=by rw[hR,b7 z]
  subst z;refine O aA<|Y (by exact dL Z iA Z Z Z Z Z (by omega) (by exact l_ _) (show 2<L.length by omega) Z)<|Y (bA iF)<|Y (by exact aX Z N_ Z Z Z s Z)<|Y (kc vN (PN P.text (F _ (m8 c_)) _))<|Y aA<|Y dK<|Y dK<|Y (bA mK)<|Y (bA mM)<|Uu (by exact cQ Z sizeOf3 Z Z Z Z Z Z (by simp only[j7,List.length_nil];omega) (by simp only[Zl,bS,bP,S_,gP,K_];rfl) (by simp only[Zl,bS,bP,S_,gP,K_];rfl))<|Zz<|Rd aA<|Y (by exact dL Z iA Z Z Z Z Z (by omega) (by exact l_ _) (show 3<L.length by omega) Z)<|Y (bA iF)<|Y (by exact aX Z N_ Z Z Z hr3 Z)<|Y (kc vN (PN Q.text (F _ (m8 o_)) _)) ?_;refine Y aA<|Y dK<|Y dK<|Y (bA mK)<|Y (bA mL)<|Uu (by exact cQ Z sizeOf3 Z Z Z Z Z Z (by simp only[j7,List.length_nil];omega) (by simp only[Zl,bS,bP,S_,gP,K_];rfl) (by simp only[Zl,bS,bP,S_,gP,K_];rfl))<|Zz<|S<|aD ?_;obtain ⟨D,E⟩:∃D,D=L.drop 4:=X_;have hDl:D.length=L.length - 4:=by rw[E,q6]
  refine bF (σ:=Nat) (λj=>(rE L++[(5,.osl 905 L.length (4+3*j) (L.length - 4 - 3*j))],rH L t1.text 1 (pW P.text).1 (pW Q.text).1 ([]:List B_) (fL D j))) (λj=>3*j<=D.length) (λj=>D.length - 3*j) 0 (l7 _) ?_ ?_
  ·exact(cL.wk (Ea<|Ea<|Ea<|Ea<|T_) (Hc (kU _ _)<|Hc (aV _ _)<|Hc (by(simp;exact⟨Z,Z⟩))<|Hc (cS _ _)<|Hb<|T_) ⟨Z,T_⟩)
  rintro j hj;have d_:=FB D j;have hfl:=HB D j;refine S<|O aA<|Y (by exact dS Z cP Z Z Z)<|V iP<|Cn ?_ ?_<;>intro hc5
  ·have z_:3*j+2<D.length:=by have:=b9 hc5;omega
   obtain ⟨y,u⟩:∃f,L[4+3*j]?=some f:=aS (by omega);obtain ⟨x,v⟩:∃f,L[4+3*j+2]?=some f:=aS (by omega);have w:=CF u;have s:=CF v;have B:VJ D j=⟨y.text,x.text⟩:=by
    rw[VJ,E,List.getElem?_drop,List.getElem?_drop,u,show 4+(3*j+2)=4+3*j+2 from Z,v];rfl
   refine aB<|S<|aD<|aM a7<|Cs (λ_ h=>fh gA h)<|Cs (λ_ h=>lh dF h)<|Cs (λ_ _=>aA)<|Cs (λH1 hH=>by exact dL Z iA Z ((hH _ Z).trans Z) Z Z Z (by omega) (by exact l_ _) (show 0<L.length - 4 - 3*j by omega) Z)<|Cs (λ_ h=>fh iF h)<|Cs (λH1 hH=>by exact aX Z N_ Z ((hH _ Z).trans Z) Z w Z)<|Cs (λ_ _=>aA)<|Cs (λH1 hH=>by exact dL Z iA Z ((hH _ Z).trans Z) Z Z Z (by omega) (by exact l_ _) (show 2<L.length - 4 - 3*j by omega) Z)<|Cs (λ_ h=>fh iF h)<|Cs (λH1 hH=>by exact aX Z N_ Z ((hH _ Z).trans Z) Z s Z)<|Cs (λ_ _=>(oI Ml))<|Cs (λH1 hH=>by exact aK [bS ⟨y.text,x.text⟩] Z lK Z Z Z Z Z R_) ?_;refine iH (r:=⟨_,none,[_]⟩) (DStep.plain Z (λH1 hH=>by exact cA (ps:=[bS ⟨y.text,x.text⟩]) Z lK Ln Z ((hH _ Z).trans Z) Z Z Z (HK _) Z R_ (m:=1) Z (by omega) Z (HL (fL D j) ⟨y.text,x.text⟩))) Z ?_;refine Cs (λ_ h=>fh gA h)<|iH (r:=⟨_,none,[_]⟩) (DStep.plain Z (λH1 hH=>by exact(by exact cQ Z sizeOf133 Z Z Z ((hH _ Z).trans Z) Z Z (by simp only[j7,List.length_nil];omega) (by simp only[Zl,bS,bP,S_,gP,K_];rfl) (by simp only[Zl,bS,bP,S_,gP,K_];rfl)))) Z ?_;refine bG<|Kr<|Rd aA<|Y (by exact kP (l:=3) (h:=(L.length - 4 - 3*j)) Z iA Z Z Z Z Z Z (by omega) (by omega) Z Z)<|Da ?_;refine⟨j+1,by omega,by omega,?_⟩;dsimp only;rw[d_,B,aCG];exact(cL.wk (Ea<|Ea<|Ea<|Ea<|T_) (Hc (kU _ _)<|Hc (aV _ _)<|Hc (by(simp;exact⟨Z,Z⟩))<|Hc (cS _ _)<|Hb<|T_) ⟨Z,T_⟩)
  have W:D.length<3*j+3:=by have:=b_ hc5;omega
  have N:D.length / 3=j:=by omega
  have hG:rK D=fL D j:=by rw[P5,N]
  refine aP<|S ?_;refine gG.ent (cL.fzG (id:=907) (E':=rE L) (H':=[(906,⟨(([]:List B_)).length,1,9,cB (([]:List B_))⟩),(3,bx 6 135 [sv (t1.text),iv (1),iv ((pW P.text).1),iv ((pW Q.text).1),.osl 906 (([]:List B_)).length 0 (([]:List B_)).length,.pv (pY (fL D j))]),(905,aj L),(2,bx 6 135 ((bP h_).map .pv))]) ((fL D j).map bS) Z (JM bS _) ?_ Z ?_ ?_) ?_
  ·intro p t;simp only[l9,q7,or_false]at t;rcases t with rfl|rfl|rfl<;>exact⟨_,Z,.same (by simp;rfl)⟩
  ·exact⟨⟨_,Z,Z,Z,Z,eP (aV _ _)⟩,⟨_,Z,Z,Z,Z,lW Z (bC (.same (by simp)) (bC (.same (by simp)) (bC (.same (by simp)) (bC (.same (by simp)) (bC (.same (by simp;rfl)) (bC (.osl (kS bS _)) kK))))))⟩,⟨_,Z,Z,Z,Z,eP (cS _ _)⟩,⟨_,Z,Z,Z,Z,eP (by simp)⟩,T_⟩
  ·exact⟨Z,T_⟩
  refine gG.ent (cL.fzG (id:=906) (E':=rE L) (H':=[(3,bx 6 135 [sv (t1.text),iv (1),iv ((pW P.text).1),iv ((pW Q.text).1),.pv (aL (([]:List B_))),.pv (pY (fL D j))]),(905,aj L),(2,bx 6 135 ((bP h_).map .pv))]) ((([]:List B_)).map S_) Z (eT _) ?_ Z ?_ ?_) ?_
  ·intro p t;simp only[l9,q7,or_false]at t;rcases t with rfl|rfl|rfl<;>exact⟨_,Z,.same (by simp;rfl)⟩
  ·exact⟨⟨_,Z,Z,Z,Z,lW Z (bC (.same (by simp)) (bC (.same (by simp)) (bC (.same (by simp)) (bC (.same (by simp)) (bC (.osl (kS S_ _)) (bC (.same (by simp)) kK))))))⟩,⟨_,Z,Z,Z,Z,eP (cS _ _)⟩,⟨_,Z,Z,Z,Z,eP (by simp)⟩,T_⟩
  ·exact⟨Z,T_⟩
  refine Rd (by exact aW Z bW sizeOf135 Z Z Z Z (by simp only[Zl,bS,bP,S_,gP,K_];rfl) Z)<|Uu (jA sizeOf135)<|Zz<|aC ?_;refine cR (H':=[(905,aj L)]) (.inr Z) Z (fB Z bW sizeOf135 Z Z Z (by simp only[Zl,bS,bP,S_,gP,K_];rfl) Z) (Fin.wk (by(simp;done)) (Hc (cS _ _)<|T_) ⟨Z,T_⟩) ?_;refine⟨?_,Z⟩;rw[(show sX T=⟨t1.text,1,(pW P.text).1,(pW Q.text).1,[],rK (L.drop 4)⟩by rw[hR2,Nd,Nd]),<-E,hG];rfl
 have z:A≠1:=b_ R;rw[a8 z]at hR;have hIx:=MT L [] (by omega);have hIr:∀H,H.get 905=some (aj L)->RC 284 [.osl 905 L.length 0 L.length,.pv (.fn 285)] (iv (AJ kJ L)) H:=λH hH =>
  RO.calls (RO.lend (id:=905) (H1:=[]) (L.map K_) (RO.of hIx Z) hH (JM K_ L) Z
   (bC (.osl (kS K_ L)) (bC (.same (by simp)) kK)) (λ_ _ h=>by cases h) (λ_ _ h=>by cases h) Z)
 refine O aA<|Y (kc call284 (hIr _ Z))<|V aI<|S<|O aA<|V cJ<|Cn ?_ ?_<;>intro f_
 ·have hlo:AJ kJ L<3:=b9 f_;rw[b7 hlo]at hR;rw[hR];refine O (oI FI)<|Uu (jA sizeOf135)<|Zz<|aC<|cR (H':=[(905,aj L)]) (.inr Z) Z (fB Z bW sizeOf135 Z Z Z (by simp only[Zl,bS,bP,S_,gP,K_];rfl) Z) (Fin.wk (by(simp;done)) (Hc (cS _ _)<|T_) ⟨Z,T_⟩) ?_;exact Qq
 have hlo:¬ AJ kJ L<3:=b_ f_;rw[a8 hlo]at hR;obtain ⟨q,hq,hqL⟩:∃q:Nat,AJ kJ L=(q:Int)/\q<L.length:=by
  rcases pc kJ L with⟨e1,_⟩|⟨q,o,e1,e2,_⟩
  ·rw[e1]at hlo;exact absurd (by decide) hlo
  exact⟨q,e1,(m9.1 e2).1⟩
 rw[hq]at hR hlo |-;rw[l_]at hR;have hq3:3<=q:=by omega
 obtain ⟨e_,hM⟩:∃e_,e_=(L.take q).drop 3:=X_;have hMl:e_.length=q - 3:=by rw[hM,q6,q9];omega
 rw[<-hM]at hR;refine aB<|S<|O aA<|Y aA<|Y (by exact kP (l:=3) (h:=q) Z iA Z Z Z Z Z Z (by omega) (by omega) Z Z)<|Y (by exact dS Z cP Z Z Z)<|V aA<|aD<|bF (σ:=Nat) (λi=>(rE L++[(5,.osl 905 L.length 4 (L.length - 4)),(6,iv (q:Int)),(66,.osl 905 L.length 3 (q - 3)),(67,iv ((q - 3:Nat):Int)),(68,iv (i:Int))],rH L t1.text A 0 0 ((e_.take i).map b6.text) [])) (λi=>i<=e_.length) (λi=>e_.length - i) 0 (l7 _) ?_ ?_
 ·exact(cL.wk (Ea<|Ea<|Ea<|Ea<|Eb<|Ea<|Eb<|Eb<|T_) (Hc (kU _ _)<|Hc (aV _ _)<|Hc (by(simp;exact⟨Z,Z⟩))<|Hc (cS _ _)<|Hb<|T_) ⟨Z,T_⟩)
 rintro i hi;refine Sz cJ<|S<|Cn ?_ ?_<;>intro u_
 ·have hiq:i<q - 3:=by have:=b9 u_;omega
  obtain ⟨f,hf⟩:=aS (show i<e_.length by omega);have hfL:L[3+i]?=some f:=by
   rw[hM,List.getElem?_drop,List.getElem?_take_of_lt (by omega)]at hf;exact hf
  have hrf:=CF hfL;have hMt:(e_.take (i+1)).map b6.text=(e_.take i).map b6.text++[f.text]:=by rw[List.take_add_one,hf,List.map_append];rfl
  have hRl:((e_.take i).map b6.text).length=i:=by rw[j6,q9];omega
  refine aB<|S<|aD<|O (by exact dL Z iA Z Z Z Z Z (by omega) (by exact l_ _) (by omega) Z)<|Y (by exact aW Z iT sizeOf189 Z Z Z hrf (by simp only[Zl,bS,bP,S_,gP,K_];rfl) Z)<|Y (kl 8 qw)<|Uu (jA sizeOf189)<|Zz<|Rd (bA eA)<|Y (bQ aG)<|Y (bA iF)<|Y (bQ N_)<|Y (by exact aK [S_ f.text] Z bD Z Z Z Z Z R_)<|Y (by exact cA (ps:=[S_ f.text]) Z bD yJ Z Z Z Z Z (eS _) Z R_ (m:=1) Z (by omega) Z (gO ((e_.take i).map b6.text) f.text))<|Y (bA eA)<|Uu (by exact cQ Z sizeOf22 Z Z Z Z Z Z (by simp only[j7,List.length_nil];omega) (by simp only[Zl,bS,bP,S_,gP,K_];rfl) (by simp only[Zl,bS,bP,S_,gP,K_];rfl)) ?_;refine Zz<|Rd gX<|V aA ?_;refine⟨i+1,by omega,by omega,?_⟩;dsimp only;rw[hMt,aDx];exact(cL.wk (Ea<|Ea<|Ea<|Ea<|Eb<|Ea<|Eb<|Eb<|T_) (Hc (kU _ _)<|Hc (aV _ _)<|Hc (by(simp;exact⟨Z,Z⟩))<|Hc (cS _ _)<|Hb<|T_) ⟨Z,T_⟩)
 have hiq:i=q - 3:=by have:=b_ u_;omega
 have hMi:e_.take i=e_:=List.take_of_length_le (by omega);rw[hMi];refine aP<|Rd aA<|Y aA<|Y kp<|Y (by exact kP (l:=(q+1)) (h:=L.length) Z iA Z Z Z Z Z Z (by omega) (by omega) Z Z)<|V aI<|S<|aD ?_;rw[<-r9 (q+1)]at hR;obtain ⟨D,E⟩:∃D,D=L.drop (0+(q+1)):=X_;have hDl:D.length=L.length - (0+(q+1)):=by rw[E,q6]
 refine bF (σ:=Nat) (λj=>(rE L++[(5,.osl 905 L.length ((0+(q+1))+3*j) (L.length - (q+1) - 3*j))],rH L t1.text A 0 0 (e_.map b6.text) (fL D j))) (λj=>3*j<=D.length) (λj=>D.length - 3*j) 0 (l7 _) ?_ ?_
 ·exact(cL.wk (Ea<|Ea<|Ea<|Ea<|T_) (Hc (kU _ _)<|Hc (aV _ _)<|Hc (by(simp;exact⟨Z,Z⟩))<|Hc (cS _ _)<|Hb<|T_) ⟨Z,T_⟩)
 rintro j hj;have d_:=FB D j;have hfl:=HB D j;refine S<|O aA<|Y (by exact dS Z cP Z Z Z)<|V iP<|Cn ?_ ?_<;>intro hc8
 ·have z_:3*j+2<D.length:=by have:=b9 hc8;omega
  obtain ⟨y,u⟩:∃f,L[(0+(q+1))+3*j]?=some f:=aS (by omega);obtain ⟨x,v⟩:∃f,L[(0+(q+1))+3*j+2]?=some f:=aS (by omega);have w:=CF u;have s:=CF v;have B:VJ D j=⟨y.text,x.text⟩:=by
   rw[VJ,E,List.getElem?_drop,List.getElem?_drop,u,show (0+(q+1))+(3*j+2)=(0+(q+1))+3*j+2 from Z,v];rfl
  refine aB<|S<|aD<|aM a7<|Cs (λ_ h=>fh gA h)<|Cs (λ_ h=>lh dF h)<|Cs (λ_ _=>aA)<|Cs (λH1 hH=>by exact dL Z iA Z ((hH _ Z).trans Z) Z Z Z (by omega) (by exact l_ _) (show 0<L.length - (q+1) - 3*j by omega) Z)<|Cs (λ_ h=>fh iF h)<|Cs (λH1 hH=>by exact aX Z N_ Z ((hH _ Z).trans Z) Z w Z)<|Cs (λ_ _=>aA)<|Cs (λH1 hH=>by exact dL Z iA Z ((hH _ Z).trans Z) Z Z Z (by omega) (by exact l_ _) (show 2<L.length - (q+1) - 3*j by omega) Z)<|Cs (λ_ h=>fh iF h)<|Cs (λH1 hH=>by exact aX Z N_ Z ((hH _ Z).trans Z) Z s Z)<|Cs (λ_ _=>(oI Ml))<|Cs (λH1 hH=>by exact aK [bS ⟨y.text,x.text⟩] Z lK Z Z Z Z Z R_) ?_;refine iH (r:=⟨_,none,[_]⟩) (DStep.plain Z (λH1 hH=>by exact cA (ps:=[bS ⟨y.text,x.text⟩]) Z lK Ln Z ((hH _ Z).trans Z) Z Z Z (HK _) Z R_ (m:=1) Z (by omega) Z (HL (fL D j) ⟨y.text,x.text⟩))) Z ?_;refine Cs (λ_ h=>fh gA h)<|iH (r:=⟨_,none,[_]⟩) (DStep.plain Z (λH1 hH=>by exact(by exact cQ Z sizeOf133 Z Z Z ((hH _ Z).trans Z) Z Z (by simp only[j7,List.length_nil];omega) (by simp only[Zl,bS,bP,S_,gP,K_];rfl) (by simp only[Zl,bS,bP,S_,gP,K_];rfl)))) Z ?_;refine bG<|Kr<|Rd aA<|Y (by exact kP (l:=3) (h:=(L.length - (q+1) - 3*j)) Z iA Z Z Z Z Z Z (by omega) (by omega) Z Z)<|Da ?_;refine⟨j+1,by omega,by omega,?_⟩;dsimp only;rw[d_,B,aCG];exact(cL.wk (Ea<|Ea<|Ea<|Ea<|T_) (Hc (kU _ _)<|Hc (aV _ _)<|Hc (by(simp;exact⟨Z,Z⟩))<|Hc (cS _ _)<|Hb<|T_) ⟨Z,T_⟩)
 have W:D.length<3*j+3:=by have:=b_ hc8;omega
 have N:D.length / 3=j:=by omega
 have hG:rK D=fL D j:=by rw[P5,N]
 refine aP<|S ?_;refine gG.ent (cL.fzG (id:=907) (E':=rE L) (H':=[(906,⟨((e_.map b6.text)).length,1,9,cB ((e_.map b6.text))⟩),(3,bx 6 135 [sv (t1.text),iv (A),iv (0),iv (0),.osl 906 ((e_.map b6.text)).length 0 ((e_.map b6.text)).length,.pv (pY (fL D j))]),(905,aj L),(2,bx 6 135 ((bP h_).map .pv))]) ((fL D j).map bS) Z (JM bS _) ?_ Z ?_ ?_) ?_
 ·intro p t;simp only[l9,q7,or_false]at t;rcases t with rfl|rfl|rfl<;>exact⟨_,Z,.same (by simp;rfl)⟩
 ·exact⟨⟨_,Z,Z,Z,Z,eP (aV _ _)⟩,⟨_,Z,Z,Z,Z,lW Z (bC (.same (by simp)) (bC (.same (by simp)) (bC (.same (by simp)) (bC (.same (by simp)) (bC (.same (by simp;rfl)) (bC (.osl (kS bS _)) kK))))))⟩,⟨_,Z,Z,Z,Z,eP (cS _ _)⟩,⟨_,Z,Z,Z,Z,eP (by simp)⟩,T_⟩
 ·exact⟨Z,T_⟩
 refine gG.ent (cL.fzG (id:=906) (E':=rE L) (H':=[(3,bx 6 135 [sv (t1.text),iv (A),iv (0),iv (0),.pv (aL ((e_.map b6.text))),.pv (pY (fL D j))]),(905,aj L),(2,bx 6 135 ((bP h_).map .pv))]) (((e_.map b6.text)).map S_) Z (eT _) ?_ Z ?_ ?_) ?_
 ·intro p t;simp only[l9,q7,or_false]at t;rcases t with rfl|rfl|rfl<;>exact⟨_,Z,.same (by simp;rfl)⟩
 ·exact⟨⟨_,Z,Z,Z,Z,lW Z (bC (.same (by simp)) (bC (.same (by simp)) (bC (.same (by simp)) (bC (.same (by simp)) (bC (.osl (kS S_ _)) (bC (.same (by simp)) kK))))))⟩,⟨_,Z,Z,Z,Z,eP (cS _ _)⟩,⟨_,Z,Z,Z,Z,eP (by simp)⟩,T_⟩
 ·exact⟨Z,T_⟩
 refine Rd (by exact aW Z bW sizeOf135 Z Z Z Z (by simp only[Zl,bS,bP,S_,gP,K_];rfl) Z)<|Uu (jA sizeOf135)<|Zz<|aC ?_;refine cR (H':=[(905,aj L)]) (.inr Z) Z (fB Z bW sizeOf135 Z Z Z (by simp only[Zl,bS,bP,S_,gP,K_];rfl) Z) (Fin.wk (by(simp;done)) (Hc (cS _ _)<|T_) ⟨Z,T_⟩) ?_;refine⟨?_,Z⟩;rw[hR,<-E,hG];rfl
theorem LN:∀(l) (p),nU l=some p->p.1.length<=l.length
 | [],p,h=>by cases h
 | [c],p,h=>by
  rw[nU]at h
  grind
 | c :: e :: r, p, h => by
  rw[nU]at h
  split at h
  ·grind
  split at h
  ·cases h
  split at h
  ·cases g:sV e with
   |none=>simp_all
   | some b =>
    rw[g]at h;cases f:nU r with
    |none=>simp_all
    |some q =>
     rw[f]at h;cases h;have:=LN r q f;show q.1.length+1<=r.length+1+1;omega
  cases f:nU (e::r)with
  |none=>simp_all
  |some q =>
   rw[f]at h;cases h;have:=LN _ q f
   simp_all
theorem fU(s:B_)(i j):(s.extract i j).size<=s.size:=by rw[<-aR,gB,q9,q6,aR];omega
theorem xj(s):(AM s).1.size<=s.size:=by
 rw[AM];cases h:nU _ with
 |none=>exact l7 _
 |some p =>
  have:=LN _ _ h;rw[q6,aR]at this;rw[<-aR]
  grind
theorem kv{s}{f:b6}{j:Nat}(h:eX s i=(some f,j)):f.text.size<=s.size:=by
 rw[eX]at h
 split at h
 ·cases h
 split at h
 ·cases h
 split at h
 ·cases h;exact fU _ _ _
 split at h
 ·cases h;exact fU _ _ _
 split at h
 ·cases h;rw[EX]
  split
  ·have h1:=xj (s.extract i s.size);have h2:=fU s i s.size;show (AM _).1.size<=_;omega
  exact l7 _
 split at h
 ·cases h;exact fU _ _ _
 cases h;exact l7 _
theorem HJ(s):∀(n i) (f),f∈jZ s n i->f.text.size<=s.size
 |0,_,_,h=>by cases h
 | n+1,i,f,h=>by
  rw[jZ]at h
  split at h
  ·split at h
   ·exact HJ s n _ f h
   rename_i g j b;rcases l9.1 h with rfl|h
   ·exact kv b
   split at h
   ·exact HJ s n _ f h
   cases h
  cases h
theorem cg:∀(a acc) (f),f∈(kI acc a).1->f∈acc\/f∈a
 | [],acc,f,h=>.inl h
 |d::a,acc,f,h=>by
  rw[kI]at h
  split at h
  ·cases h
  split at h
  ·cases h
  rcases cg _ _ f h with h|h;all_goals grind
theorem GB(s)(f)(h:f∈(fJ s).1):f.text.size<=s.size:=by
 rw[fJ]at h
 split at h
 ·cases h
 rcases cg _ _ f h with h|h
 ·cases h
 exact HJ s _ _ f h
theorem dt{T}{n}(h:∀f∈T,f.text.size<=n):∀f∈vR T,f.text.size<=n:=λf b=>by
 rcases mem_append.1 b with a|a
 ·simp_all
 rw[(mem_replicate.1 a).2];exact l7 _
theorem VC:∀(T) (n),(∀f∈T,f.text.size<=n)->(rK T).length<=T.length/\∀t∈rK T,t.key.size<=n/\t.val.size<=n
 | [],n,_=>by simp[rK]
 | [a],n,_=>by simp[rK]
 | [a,b],n,_=>by simp[rK]
 |a::b::c::r,n,h=>by
  obtain ⟨i1,i2⟩:=VC r n λf hf=>h f G_;rw[rK]
  grind
theorem Iu(T):(vR T).length<=T.length+4:=by rw[vR,j_,length_replicate];omega
theorem Hi{T:List b6}{n:Nat}(h:∀f∈T,f.text.size<=n)(m:n<2^62)(hl:T.length<549755813888):jl (sX T):=by
 have o:=dt h;have hpl:=Iu T;have l:∀i,((vR T).getD i KD).text.size<=n:=λi=>by
  rw[getD_eq_getElem?_getD];cases e:(vR T)[i]? with
  |none=>exact l7 _
  |some f=>grind
 have j:∀k,MF (rK ((vR T).drop k)):=λk=>by
  have ⟨a,b⟩:=VC ((vR T).drop k) n λf p=>o f (mem_of_mem_drop p);rw[q6]at a;exact⟨X,λt g=>by have:=b t g;omega⟩
 rw[sX]
 split
 ·exact⟨Nat.lt_of_le_of_lt (l 1) m,j _,F_,λs d=>by cases d⟩
 split
 ·exact⟨E_,⟨E_,λt h=>by cases h⟩,E_,λs d=>by cases d⟩
 refine⟨Nat.lt_of_le_of_lt (l 1) m,j _,?_,λs d=>?_⟩;all_goals grind
theorem qY(c):∀ {l w},w∈dP c l->w.length<=l.length
 | [],w,h=>by
  rw[dP]at h
  simp_all
 | b::l,w,h=>by
  have d:=rA c l;rw[dP]at h;cases e:dP c l with
  |nil=>rw[e]at d;exact absurd d (Nat.lt_irrefl 0)
  | cons x r =>
   have a:∀y∈x::r,y.length<=l.length:=λy hy=>qY c F_;rw[e]at h
   split at h
   ·rcases l9.1 h with rfl|h
    ·exact l7 _
    exact le_succ_of_le (a w h)
   rcases l9.1 h with rfl|h
   ·exact succ_le_succ (a _ mem_cons_self)
   exact le_succ_of_le (a w (mem_cons_of_mem _ h))
theorem WA{s}(a:s.size<2^40):jl (sX (fJ s).1):=Hi (λf b=>GB s f b) X (wR s a)
theorem IK(l:List _):∀r∈l.map S_,r.length=1:=λr a=>by
 obtain ⟨s,_,rfl⟩:=mem_map.1 a;rfl
theorem zZ{p q}[Decidable p][Decidable q](h:(decide p&&decide q)=true):p/\q:=F_
theorem AA{p q}[Decidable p][Decidable q](h:(decide p&&decide q)=false):¬ (p/\q):=F_
theorem Qa{H}{id}{o}(h:H.get id=some o):Sub [(id,o)] H:=λj x a=>by
 by_cases e:j=id
 ·subst e;rw[get_cons_same]at a
  simp_all
 rw[get_cons_other _ _ e]at a;cases a
theorem Ji{id j}{a b}(h:(aF.get [(id,a)] j).isSome=true):(aF.get [(id,b)] j).isSome=true:=by
 by_cases e:j=id
 ·subst e;rw[get_cons_same];rfl
 rw[get_cons_other _ _ e]at h;cases h
theorem nq(s:B_)(H:aF)(g:s.size<2^40):RC 201 [sv s] (.tup [av (bP (uS s).1),iv (uS s).2]) H:=by
 refine Pu ?_;have c:=wR s g;have l:=dt (GB s);have d:=WA g;rw[uS];refine Bd func201 Z ntmps201<|O (kl 2 U5)<|V aI<|S<|O aA<|Y (gE U_)<|V iP<|Cn ?_ ?_<;>intro i
 ·have q:20000<s.size:=I_ i
  rw[b7 q];refine O (oI FI)<|Uu (jA sizeOf135)<|V aI<|aC<|fP (H':=[]) (.inr Z) Z (CN bW sizeOf135) (aH Z) (P_ (r:=.tup [av (bP h_),iv 2])) Qq
 have q:¬ 20000<s.size:=J_ i
 rw[a8 q];by_cases n:(fJ s).2.1=0
 ·have e:=λH h=>aAY s H g n h;have ⟨T,w⟩:∃T,T=(fJ s).1:=X_;rw[<-w]at c l d |-;simp only[<-w]at e;have k:∀H,H.get 905=some (aj T)->aU Tryz.prog 252 [.osl 905 T.length 0 T.length] H (λr H'=>r=av (bP (sX T))/\H'=[(905,aj (vR T))]++H):=λH x =>
   aU.frame (Yw T c (λf y=>Nat.lt_of_le_of_lt (l f y) g)) (Qa x) (dG.ofL ⟨cS _ _,T_⟩) (by intro a v;rw[r6]at v;subst v;simp[aF.get]) (λid h=>.inl (Ji h))
  generalize sX T=o at k d |-;refine aB<|O aA<|Y (kc call203 (e _ Z))<|Y aA<|Y dK<|Y dK<|Y dK<|Y aI<|Y aI<|V aI<|S<|O aA<|V cD<|Cn ?_ ?_<;>intro u
  ·refine O aA<|Y (kc call252 (k _ Z))<|Y (kl 7 U5)<|Uu (jA sizeOf135)<|Zz<|O (wQ bW sizeOf135)<|Y (kc call253 (WI o _ d))<|Y aA<|Y dK<|Y dK<|Y aI<|V aI<|S<|aQ (t:=35) (n:=8) (A_:=decide ((fD o).2=0)&&decide ((fD o).1=s)) ?_ ?_
   ·all_goals refine Y aA<|Y cD<|Dm ?_<;>(refine Sp 31 (λp=>?_) λp=>?_)<;>(first|exact s_|refine M<|M<|M ?_|refine U aA<|U aA<|U wH ?_)<;>refine V cC ?_<;>exact Gj (h:=by simp_all)
   refine Cn ?_ ?_<;>intro j
   ·have m:=zZ j;rw[b7 ⟨n,Prod.ext m.2 m.1⟩];refine O (wQ bW sizeOf135)<|Uu (jA sizeOf135)<|V aI<|aC<|fP (H':=[]) (.inr Z) Z (CN bW sizeOf135) (aH Z) (P_ (r:=.tup [av (bP o),iv 0])) Qq
   have m:=AA j;rw[a8 (λh=>m ⟨congrArg Prod.snd h.2,congrArg Prod.fst h.2⟩)];refine aB<|O (oI FI)<|Uu (jA sizeOf135)<|V aI<|aC<|fP (H':=[]) (.inr Z) Z (CN bW sizeOf135) (aH Z) (P_ (r:=.tup [av (bP h_),iv 5])) Qq
  exact absurd Z (b_ u)
 refine aB<|O aA<|Y (kc call203 (Wy s _ g))<|Y aA<|Y dK<|Y dK<|Y dK<|Y aI<|Y aI<|V aI<|S<|O aA<|V cD<|Cn ?_ ?_<;>intro t
 ·exact absurd (b9 t) n
 refine aB<|O (oI FI)<|Uu (jA sizeOf135)<|V aI<|aC ?_;rw[a8 (λh=>n h.1)];refine fP (H':=[]) (.inr Z) Z (CN bW sizeOf135) (aH Z) (P_ (r:=.tup [av (bP h_),iv 5])) Qq
theorem Rl(s:B_)(H:aF)(hs:s.size<=20000):RC 143 [sv s] (av (bJ (nM s.data.toList))) H:=by
 refine Pu ?_;have A_:=aR s;have ⟨W,p⟩:∃W,W=dP 32 s.data.toList:=X_;have ⟨w0,E⟩:∃w,w=W.headD []:=X_;have ⟨B,z⟩:∃r,r=s.data.toList.drop (w0.length+1):=X_;have hrl:B.length<=s.size:=F_
 have hg:nM s.data.toList=EH W w0 B:=by rw[nM,<-p,<-E,<-z]
 have z_:∃b,∀H,RC 137 [sv s,sv Ow] (.tup [sv (a_ w0),sv (a_ B),bv b]) H:=by
  have ⟨b,hb⟩:=Vg s;rw[<-p,<-E,<-z]at hb;exact⟨b,λH=>by rw[<-hb];exact aDF s H X⟩
 have ⟨b,z_⟩:=z_;have hSl:(cO s).length=W.length:=by rw[xu,p]
 have hml:((cO s).map S_).length=W.length:=F_
 have hSg:∀i,i<W.length->((cO s).map S_)[i]?=some [.str (a_ (W.getD i []))]:=λi hi=>by
  rw[p];exact cE (f:=S_) (xv s i X)
 have R:∀i,(a_ (W.getD i [])).size<=s.size:=λi=>by
  rw[bZ,getD_eq_getElem?_getD];cases e:W[i]? with
  |none=>simp_all
  |some w =>
   have:=qY 32 (l:=s.data.toList) (w:=w) G_;rw[A_]at this;exact this
 have hWl:W.length<=s.size+1:=by
  rw[p,xM];have:=count_le_length (l:=s.data.toList) (a:=32);omega
 have hjl:((cO s).drop 3).length<=20001:=G_
 have hjs:cX ((cO s).drop 3)<=20000*((cO s).drop 3).length:=pA (λw hw=>by
  have I:=mem_of_mem_drop hw;rw[cO,<-p]at I;obtain ⟨x,hx,rfl⟩:=mem_map.1 I;have:=qY 32 (l:=s.data.toList) (w:=x) F_;show (a_ x).size<=_;rw[bZ];omega)
 rw[hg,EH];refine Bd func143 Z ntmps143<|Sz (kl 2 U4)<|O aA<|Y (kc call200 (xw s _ X))<|V aI<|O aA<|Y (kc call137 (z_ _))<|Y aA<|Y dK<|Y dK<|Y dK<|Y aI<|Y aI<|V aI<|S<|aD<|O aA<|Y wH<|Da<|Cn ?_ ?_<;>intro N
 ·have h1:w0=wPut:=sU.1 (b9 N);rw[b7 h1];refine O aA<|Y (kc call201 (nq (a_ B) _ (by rw[bZ];omega)))<|Y aA<|Y dK<|Y dK<|Y (kl 7 U5)<|Uu (jA sizeOf135)<|V aI<|O (wQ bW sizeOf135)<|Y (oI tT)<|Uu (jA aZ)<|Zz<|aC ?_;refine cR (H':=[]) (.inr Z) Z (CN cU aZ) P_ Qq
 have h1:¬ w0=wPut:=λe=>b_ N (sU.2 e);rw[a8 h1];refine S<|aQ (t:=30) (n:=9) (A_:=decide (a_ w0=⟨#[109,111,118,101]⟩)&&decide ((((cO s).map S_).length:Int)=4)) ?_ ?_
 ·all_goals refine Y aA<|Y wH<|Dm ?_<;>(refine Sp 33 (λh33=>?_) λh33=>?_)<;>(first|exact s_|refine M<|M<|M ?_|refine U aA<|U (fW aE)<|U cD ?_)<;>refine Y cC<|Da ?_<;>exact Gj (h:=by(simp_all;done))
 refine Cn ?_ ?_<;>intro A
 ·have F:a_ w0=a_ I6/\_:=zZ A;rw[sU,hml]at F;rw[b7 ⟨F.1,X⟩];have G:=hSg 1 X;have i2:=hSg 2 X;have i3:=hSg 3 X;have s2:=R 2;have s3:=R 3;refine S<|aM a7<|x_ aA<|x_ ((iO bD))<|x_ ((fZ N_))<|x_ aA<|x_ ((iO bD))<|x_ ((fZ N_))<|x_ (by exact bH Z Z call202 Z (eh (a_ (W.getD 2 [])) _ X))<|x_ aA<|x_ ((iO bD))<|x_ ((fZ N_))<|x_ (by exact bH Z Z call202 Z (eh (a_ (W.getD 3 [])) _ X))<|x_ ((oI KZ))<|x_ ((oI tT))<|Cp [2] (λ_ h=>sa aZ h)<|bG<|Kr<|aC ?_;refine cR (H':=[]) (.inr Z) Z (CN cU aZ) (P_ (r:=av (bJ ⟨2,a_ (W.getD 1 []),a6,a6,UU (W.getD 2 []),UU (W.getD 3 []),a6,a6,[],h_⟩))) Qq
 have F:¬ (a_ w0=a_ I6/\_):=AA A;rw[sU,hml]at F;rw[a8 (λh=>F ⟨h.1,X⟩)];refine S<|aQ (t:=51) (n:=9) (A_:=decide (a_ w0=⟨#[116,97,103]⟩)&&decide ((3:Int)<(((cO s).map S_).length:Int))) ?_ ?_
 ·all_goals refine Y aA<|Y wH<|Dm ?_<;>(refine Sp 54 (λh54=>?_) λh54=>?_)<;>(first|exact s_|refine M<|M<|M ?_|refine U aA<|U (fW aE)<|U iP ?_)<;>refine Y cC<|Da ?_<;>exact Gj (h:=by(simp_all;done))
 refine Cn ?_ ?_<;>intro T
 ·have K:a_ w0=a_ A5/\_:=zZ T;rw[sU,hml]at K;rw[b7 ⟨K.1,X⟩];have G:=hSg 1 X;have i2:=hSg 2 X;have o_:bs ((cO s).drop 3)=W.drop 3:=by
   rw[bs,cO,<-p,map_drop,map_map];congr 1;exact(map_congr_left λx _=>cG x).trans (map_id _)
  have hj:∀H,RC 204 [.pv (aL ((cO s).drop 3)),sv ⟨#[32]⟩] (sv (a_ (bT [32] (W.drop 3)))) H:=λH=>by
   have:=wT ((cO s).drop 3) ⟨#[32]⟩ H E_ (by show 1*_+_+_<_;omega);rw[o_]at this;exact this
  have Q:(a_ (bT [32] (W.drop 3))).size<2^40:=by
   have:=fT ((cO s).drop 3);rw[o_]at this;rw[bZ];omega
  have ⟨c_,hJ⟩:∃c_,c_=a_ (bT [32] (W.drop 3)):=X_;rw[<-hJ]at Q |-;simp only[<-hJ]at hj;have htl:((fJ c_).1.map K_).length=(fJ c_).1.length:=j6 _;refine O aA<|Y (by exact eY (l:=3) (h:=((cO s).map S_).length) (rows':=((cO s).drop 3).map S_) Z bD Z (IK _) Z Z X (g_ _) (by rw[take_length];exact map_drop.symm))<|Y (kc rG (hj _))<|Y (kc call203 (Wy c_ _ Q))<|Y aA<|Y dK<|Y dK<|Y dK<|Y aI<|Y aI<|V aI<|O aA<|Y (fW cP)<|V cD ?_;refine Cn ?_ ?_<;>intro t
  ·have h4:(fJ c_).1.length=1:=I_ t
   have ⟨f,u_⟩:=length_eq_one_iff.1 h4;rw[u_];have hf0:([f].map K_)[0]?=some [.int .i64 f.kind,.str f.text,.int .i64 f.pos]:=rfl;refine S<|aM a7<|x_ aA<|x_ ((iO bD))<|x_ ((fZ N_))<|x_ aA<|x_ ((iO bD))<|x_ ((fZ N_))<|x_ aA<|x_ ((iO iA))<|x_ ((E5 iF))<|x_ ((fZ N_))<|x_ ((oI tT))<|Cp [2] (λ_ h=>sa aZ h)<|bG<|Kr<|aC<|cR (H':=[]) (.inr Z) Z (CN cU aZ) (P_ (r:=av (bJ ⟨3,a_ (W.getD 1 []),a6,a6,0,0,a_ (W.getD 2 []),f.text,[],h_⟩))) Qq
  have h4:(fJ c_).1.length≠1:=J_ t
  split
  ·next f u_=>rw[u_]at h4;exact absurd Z h4
  refine aB<|O (oI tT)<|Uu (jA aZ)<|Zz<|aC<|cR (H':=[]) (.inr Z) Z (CN cU aZ) (P_ (r:=av (bJ NZ))) Qq
 have K:¬ (a_ w0=a_ A5/\_):=AA T;rw[sU,hml]at K;rw[a8 (λh=>K ⟨h.1,X⟩)];refine S<|aQ (t:=81) (n:=9) (A_:=decide (a_ w0=⟨#[114,101,102,115]⟩)&&decide ((1:Int)<(((cO s).map S_).length:Int))) ?_ ?_
 ·all_goals refine Y aA<|Y wH<|Dm ?_<;>(refine Sp 84 (λv_=>?_) λv_=>?_)<;>(first|exact s_|refine M<|M<|M ?_|refine U aA<|U (fW aE)<|U iP ?_)<;>refine Y cC<|Da ?_<;>exact Gj (h:=by(simp_all;done))
 refine Cn ?_ ?_<;>intro D
 ·have h4:a_ w0=a_ I0/\_:=zZ D;rw[sU,hml]at h4;rw[b7 ⟨h4.1,X⟩];have G:=hSg 1 X;refine S<|aM a7<|x_ aA<|x_ ((iO bD))<|x_ ((fZ N_))<|x_ aA<|x_ (by exact eY (l:=2) (h:=((cO s).map S_).length) (rows':=((W.drop 2).map a_).map S_) Z bD Z (IK _) Z Z X (g_ _) (by rw[take_length,cO,<-p,map_drop,map_drop];rfl))<|x_ ((oI tT))<|Cp [2] (λ_ h=>sa aZ h)<|bG<|Kr<|aC ?_;refine cR (H':=[]) (.inr Z) Z (CN cU aZ) (P_ (r:=av (bJ ⟨4,a_ (W.getD 1 []),a6,a6,0,0,a6,a6,(W.drop 2).map a_,h_⟩))) ?_;exact Qq
 have h4:¬ (a_ w0=a_ I0/\_):=AA D;rw[sU,hml]at h4;rw[a8 (λh=>h4 ⟨h.1,X⟩)];refine S<|aQ (t:=95) (n:=9) (A_:=decide (a_ w0=⟨#[100,114,111,112]⟩)&&decide ((((cO s).map S_).length:Int)=2)) ?_ ?_
 ·all_goals refine Y aA<|Y wH<|Dm ?_<;>(refine Sp 98 (λy_=>?_) λy_=>?_)<;>(first|exact s_|refine M<|M<|M ?_|refine U aA<|U (fW aE)<|U cD ?_)<;>refine Y cC<|Da ?_<;>exact Gj (h:=by(simp_all;done))
 refine Cn ?_ ?_<;>intro L
 ·have v:a_ w0=a_ I9/\_:=zZ L;rw[sU,hml]at v;rw[b7 ⟨v.1,X⟩];have G:=hSg 1 X;refine O aA<|Y (iO bD)<|Y (fZ N_)<|Y (oI tT)<|Uu (jA aZ)<|Zz<|aC<|cR (H':=[]) (.inr Z) Z (CN cU aZ) (P_ (r:=av (bJ ⟨5,a_ (W.getD 1 []),a6,a6,0,0,a6,a6,[],h_⟩))) Qq
 have v:¬ (a_ w0=a_ I9/\_):=AA L;rw[sU,hml]at v;rw[a8 (λh=>v ⟨h.1,X⟩)];refine S<|aQ (t:=107) (n:=9) (A_:=decide (a_ w0=⟨#[115,112,108,105,116]⟩)&&decide ((((cO s).map S_).length:Int)=4)) ?_ ?_
 ·all_goals refine Y aA<|Y wH<|Dm ?_<;>(refine Sp 110 (λP=>?_) λP=>?_)<;>(first|exact s_|refine M<|M<|M ?_|refine U aA<|U (fW aE)<|U cD ?_)<;>refine Y cC<|Da ?_<;>exact Gj (h:=by(simp_all;done))
 refine Cn ?_ ?_<;>intro y
 ·have e_:a_ w0=a_ CC/\_:=zZ y;rw[sU,hml]at e_;rw[b7 ⟨e_.1,X⟩];have G:=hSg 1 X;have i2:=hSg 2 X;have i3:=hSg 3 X;refine S<|aM a7<|x_ aA<|x_ ((iO bD))<|x_ ((fZ N_))<|x_ aA<|x_ ((iO bD))<|x_ ((fZ N_))<|x_ aA<|x_ ((iO bD))<|x_ ((fZ N_))<|x_ ((oI tT))<|Cp [2] (λ_ h=>sa aZ h)<|bG<|Kr<|aC<|cR (H':=[]) (.inr Z) Z (CN cU aZ) (P_ (r:=av (bJ ⟨6,a_ (W.getD 1 []),a_ (W.getD 3 []),a_ (W.getD 2 []),0,0,a6,a6,[],h_⟩))) Qq
 have e_:¬ (a_ w0=a_ CC/\_):=AA y;rw[sU,hml]at e_;rw[a8 (λh=>e_ ⟨h.1,X⟩)];refine S<|aQ (t:=125) (n:=9) (A_:=decide (a_ w0=⟨#[106,111,105,110]⟩)&&decide ((((cO s).map S_).length:Int)=3)) ?_ ?_
 ·all_goals refine Y aA<|Y wH<|Dm ?_<;>(refine Sp 128 (λd_=>?_) λd_=>?_)<;>(first|exact s_|refine M<|M<|M ?_|refine U aA<|U (fW aE)<|U cD ?_)<;>refine Y cC<|Da ?_<;>exact Gj (h:=by(simp_all;done))
 refine Cn ?_ ?_<;>intro f_
 ·have u:a_ w0=a_ I7/\_:=zZ f_;rw[sU,hml]at u;rw[b7 ⟨u.1,X⟩];have G:=hSg 1 X;have i2:=hSg 2 X;refine S<|aM a7<|x_ aA<|x_ ((iO bD))<|x_ ((fZ N_))<|x_ aA<|x_ ((iO bD))<|x_ ((fZ N_))<|x_ ((oI tT))<|Cp [2] (λ_ h=>sa aZ h)<|bG<|Kr<|aC<|cR (H':=[]) (.inr Z) Z (CN cU aZ) (P_ (r:=av (bJ ⟨7,a_ (W.getD 1 []),a_ (W.getD 2 []),a6,0,0,a6,a6,[],h_⟩))) Qq
 have u:¬ (a_ w0=a_ I7/\_):=AA f_;rw[sU,hml]at u;rw[a8 (λh=>u ⟨h.1,X⟩)];refine aB<|O (oI tT)<|Uu (jA aZ)<|Zz<|aC<|cR (H':=[]) (.inr Z) Z (CN cU aZ) (P_ (r:=av (bJ NZ))) Qq
def HC(l:List b8):List (List AV):=l.map λe=>(bJ e).map AV.pv
theorem XE(l):(HC l).length=l.length:=j6 _
theorem XF(l)(e):HC l++[(bJ e).map AV.pv]=HC (l++[e]):=by rw[HC,HC,map_append];rfl
theorem xI(H)(l):∀r∈HC l,∀a∈r,Clo H a:=by intro r c a b;obtain ⟨d,_,rfl⟩:=mem_map.1 c;obtain ⟨p,_,rfl⟩:=mem_map.1 b;simp
instance(H)(l):W_ (H) (HC l):=⟨xI H l⟩
theorem ZK(H)(s):∀r∈(lB s).rows,∀a∈r,Clo H a:=by intro r c a b;simp[lB,bx,r6]at c;subst c;rw[r6]at b;subst b;simp
instance(H)(s):W_ (H) ((lB s).rows):=⟨ZK H s⟩
def Zk(t:B_):cY:=[(0,sv t),(4,.ref 4 0 0 0)]
def lnE(t:B_)(k:Nat):b8:=nM (EA (zO (jH t k))).data.toList
def OF(t:B_)(k:Nat):List b8:=(List.range k).map (lnE t)
theorem Af(t)(k):OF t (k+1)=OF t k++[lnE t k]:=by rw[OF,range_succ,map_append];rfl
theorem SF(t)(k):(OF t k).length=k:=by rw[OF,j6,length_range]
theorem SG(t):OF t (iY t).length=(rD t.data.toList).map λs=>nM (Lib.trimSuffix s [10]):=by
 refine ext_getElem? λk=>?_;rw[OF,r7,r7];by_cases h:k<(iY t).length
 ·have b:=(Tz h).1;rw[iY,r7]at b;cases e:(rD _)[k]? with
  |none=>rw[e]at b;cases b
  |some w =>
   rw[e]at b;have b:=Option.some.inj b;rw[getElem?_range h,Option.map_some,lnE,<-b,Ex];congr 3
 have c:(rD t.data.toList)[k]?=none:=by
  rw[iY]at h
  simp_all
 rw[c,getElem?_eq_none F_];rfl
def pcK(t s:B_)(k:Nat):aF:=[(933,lB s),(905,⟨k,15,137,HC (OF t k)⟩),(4,bx 1 46 [.osl 905 k 0 k])]
theorem Us{a b c}{K:aF}(j):aF.get ((904,b)::(933,a)::K) j=aF.get ((933,a)::(904,b)::(933,c)::K) j:=by
 by_cases e:j=904
 ·subst e;rfl
 by_cases d:j=933
 ·subst d;rfl
 rw[get_cons_other _ _ e,get_cons_other _ _ d,get_cons_other _ _ d,get_cons_other _ _ e,get_cons_other _ _ d]
theorem kj(s):(EA s).size<=s.size:=by
 rw[EA]
 split
 all_goals simp_all
theorem SI(s):(zO s).size<=s.size:=by
 rw[zO]
 split
 ·omega
 rw[<-aR,exL,q9,q6,aR];omega
theorem EW{t}{k}(h:k<=(iY t).length):(EA (zO (jH t k))).size<=t.size:=Nat.le_trans (kj _) (Nat.le_trans (SI _) (BB t k h).2)
theorem WH{w}{n}(h:w.length<=n)(hn:n<2^62):(a_ w).size<2^62:=by rw[bZ];omega
theorem ph{s}(a:s.size<2^40):jl (uS s).1:=by
 rw[uS]
 split
 ·exact⟨E_,⟨E_,λt h=>by cases h⟩,E_,λs a=>by cases a⟩
 split
 ·exact WA a
 exact⟨E_,⟨E_,λt h=>by cases h⟩,E_,λs a=>by cases a⟩
theorem B9:jl h_:=⟨E_,⟨E_,λt h=>by cases h⟩,E_,λs a=>by cases a⟩
theorem CW:([]:List B_).length<2^62/\∀s∈([]:List B_),s.size<2^62:=⟨H_,λs a=>by cases a⟩
theorem eR:a6.size<2^62:=E_
theorem W4{s:List UInt8}(f:s.length<=20000):US (nM s):=by
 have a:∀i,(a_ ((dP 32 s).getD i [])).size<2^62:=λi=>by
  refine WH (n:=20000) ?_ E_;rw[getD_eq_getElem?_getD];cases e:(dP 32 s)[i]? with
  |none=>simp_all
  |some w=>exact Nat.le_trans (qY 32 (m8 e)) f
 have c:∀(d x y:Int),US ⟨d,a6,a6,a6,x,y,a6,a6,[],h_⟩:=λd x y=>⟨⟨eR,eR,eR,eR⟩,CW,B9⟩;rw[nM,EH]
 split
 ·exact⟨⟨eR,eR,eR,eR⟩,CW,ph (by rw[bZ,q6];omega)⟩
 split
 ·exact⟨⟨a 1,eR,eR,eR⟩,CW,B9⟩
 split
 ·split
  ·exact⟨⟨a 1,eR,eR,a 2⟩,CW,B9⟩
  exact c _ _ _
 split
 ·refine⟨⟨a 1,eR,eR,eR⟩,⟨?_,λx g=>?_⟩,B9⟩
  ·have:=count_le_length (l:=s) (a:=32);rw[j6,q6,xM];omega
  obtain ⟨w,b,rfl⟩:=mem_map.1 g;exact WH (n:=20000) (Nat.le_trans (qY 32 (mem_of_mem_drop b)) f) E_
 split
 ·exact⟨⟨a 1,eR,eR,eR⟩,CW,B9⟩
 split
 ·exact⟨⟨a 1,a 3,a 2,eR⟩,CW,B9⟩
 split
 ·exact⟨⟨a 1,a 2,eR,eR⟩,CW,B9⟩
 exact c _ _ _
theorem ML:∀ {t} {n},t.size<=n->(iY t).length<=n
 |t,0,h=>by rw[BM (by omega)];simp_all
 | t,n+1,h=>by
  by_cases a:0<t.size
  ·rw[(CZ a).1];refine Nat.succ_le_succ (ML ?_);rw[SA]
   split
   ·exact l7 _
   next d =>
   obtain ⟨w,r,e1,e2,c,e4,b,e6⟩:=Km d;rw[c,l_,<-szY,b];omega
  rw[BM a];simp_all
theorem Iq(t:B_)(H:aF)(e_:t.size<2^40):RC 101 [sv t] (.tup [.pv (kD (iD t).1),iv (iD t).2]) H:=by
 refine Pu ?_;rw[iD,<-SG];refine Bd func101 Z ntmps101<|O aI<|V aI<|S<|O aA<|Y (gE U_)<|V iP<|Cn ?_ ?_<;>intro g
 ·have v:20000<t.size:=I_ g
  rw[b7 v];exact O aI<|V aI<|aC<|Ru<|Qq
 have v:¬ 20000<t.size:=J_ g
 rw[a8 v];refine aB<|Sz (kl 4 aB1)<|S<|O aA<|V (kc call142 (Ty t _ Z))<|aD ?_;have ⟨n,K⟩:∃n,n=(iY t).length:=X_;have hnl:n<=20000:=by rw[K];exact ML X
 refine gG.ent (E':=[(0,sv t),(4,.ref 4 0 0 0),(12,.clo 198 [.ref 933 0 0 0])]) (H':=[(905,⟨0,15,137,[]⟩),(933,lB t),(4,bx 1 46 [.osl 905 0 0 0])]) ?_ ?_
 ·exact (Q_ 905 15 137)
 refine gG.ent (E':=[(0,sv t),(4,.ref 4 0 0 0),(12,.clo 198 [.ref 933 0 0 0])]) (H':=pcK t t 0) L_<|B4 (id:=904) (p:=13) (Zk t) Z call198 Z Z (by simp[Zk];exact⟨Z,Z⟩) ?_;intro x D i B o q y;have b:∀k,k<n->dH Tryz.prog (.yld 904 0) [sv (zO (jH t k))] ((904,LR x (Zk t))::pcK t (jH t (k+1)) k) (λr H'=>r=bv true/\H'=(904,LR x (Zk t))::pcK t (jH t (k+1)) (k+1)):=by
  intro k E;have w:=Af t k;have G:=SF t k;have hls:=EW (t:=t) (k:=k) X;have hla:(zO (jH t k)).size<=t.size:=Nat.le_trans (SI _) (BB t k X).2;refine .inl ⟨904,0,Z,?_⟩;refine LJ [(0,sv t),(4,.ref 4 0 0 0),(5,sv (zO (jH t k)))] (pcK t (jH t (k+1)) k) D i B o q y Z Z Z ?_ ?_
  ·refine Rg<|Da ?_;exact(cL.wk (Eb<|Ea<|Eb<|T_) (Hc (nT (by simp[Zk];rfl))<|Hc (ZK _ _)<|Hc (xI _ _)<|Ha<|T_) ⟨Z,Z,Z,Z,T_⟩)
  refine aD<|aM a7<|Cs (λ_ h=>lh oV h)<|Cs (λ_ _=>aA)<|Cs (λm c=>by exact bH Z Z call144 Z (kh (zO (jH t k)) _ X))<|Cs (λm c=>by exact bH Z Z call143 Z (Rl (EA (zO (jH t k))) _ X))<|Cs (λm c=>by exact aK [bJ (lnE t k)] Z ca Z Z Z Z Z R_) ?_;refine iH (r:=⟨_,none,[_]⟩) (DStep.plain Z (λm c=>by exact cA (ps:=[bJ (lnE t k)]) Z ca Xc Z ((c _ Z).trans Z) Z Z Z ((XE _).trans G) Z R_ (m:=1) Z X Z (XF (OF t k) (lnE t k)))) Z ?_;refine iH (r:=⟨_,none,[_]⟩) (DStep.plain Z (λm c=>by exact(lR Z sizeOf46 Z Z Z Z ((c _ Z).trans Z) Z Z Z))) Z ?_;refine bG<|Kr ?_;exact⟨[(933,lB (jH t (k+1))),(905,⟨k+1,15,137,HC (OF t k++[lnE t k])⟩),(4,bx 1 46 [.osl 905 (k+1) 0 (k+1)])],(cL.wk T_ (Hc (nT (by simp[Zk];rfl))<|Hc (ZK _ _)<|Hc (xI _ _)<|Ha<|T_) ⟨Z,Z,Z,Z,T_⟩),Z,by rw[<-w];rfl⟩
 refine(Ka t (.yld 904 0) (λk=>(904,LR x (Zk t))::pcK t (jH t k) k) e_ (λk=>rfl) (λk E=>?_)).mono ?_
 ·exact dH.congrG (b k X) (λj=>Us j) (λj=>rfl)
 rintro r H' ⟨rfl,rfl⟩;refine⟨x,_,Z,F_,Z,λz=>?_⟩;rw[i];have ⟨L,l⟩:∃L,L=OF t n:=X_;have d_:L.length=n:=by rw[l];exact SF t n
 rw[<-K,<-l];have u:∀e∈L,US e:=λe c_=>by
  rw[l,OF]at c_;obtain ⟨k,E,rfl⟩:=mem_map.1 c_;have:=EW (t:=t) (k:=k) (by have:=mem_range.1 E;omega);exact W4 z6
 refine S<|S ?_;refine gG.ent (cL.fzG (id:=905) (E':=[(0,sv t),(4,.ref 4 0 0 0)]) (H':=[(4,bx 1 46 [.pv (kD L)])]) (L.map bJ) Z (by rw[l];exact JM bJ _) ?_ Z ?_ ?_) ?_
 ·intro p I;simp only[l9,q7,or_false]at I;rcases I with rfl|rfl<;>exact⟨_,Z,.same (by simp;try rfl)⟩
 ·exact⟨⟨_,Z,Z,Z,Z,lW Z (bC (.osl (by rw[<-d_];exact kS bJ L)) kK)⟩,T_⟩
 ·exact T_
 refine Rd (bQ oV)<|Y (kc call145 (se L _ X u))<|Y aA<|Y dK<|Y dK<|Y aI<|V aI<|S<|aQ (t:=31) (n:=8) (A_:=!decide ((dW L).2=0)||!decide ((dW L).1=t)) ?_ ?_
 ·all_goals refine Y aA<|Y zB<|Dm ?_<;>(refine Sp 27 (λA=>?_) λA=>?_)<;>(first|exact s_|refine M<|M<|M ?_|refine U aA<|U aA<|U DZ ?_)<;>refine V cC ?_<;>exact Gj (h:=by(simp_all;done))
 refine Cn ?_ ?_<;>intro d
 ·have s:dW L≠(t,0):=λe=>by have h:=d;rw[e]at h;simp at h
  rw[a8 s];exact O aI<|V aI<|aC<|Ru<|Qq
 have F:dW L=(t,0):=by have h:=d;simp only[q8,Bool.not_eq_false',j0]at h;exact Prod.ext h.2 h.1
 rw[b7 F];exact aB<|O (bQ oV)<|Y aI<|V aI<|aC<|Ru<|Qq
end Go.Proofs.YtopnleflllkbmaaGreatDoor
namespace Go.Proofs.YtopnleflllkbmaaGreatDoor
open Go.Proofs.Tryz
open Go.Abs Go.Lib
variable{α:Type}
theorem RP(t):∀e∈(iD t).1,US e:=by
 intro e a;rw[iD]at a
 split at a
 ·cases a
 next hs =>
 split at a
 ·rw[<-SG]at a;obtain ⟨k,b,rfl⟩:=mem_map.1 a;have:=EW (t:=t) (k:=k) (by have:=mem_range.1 b;omega);exact W4 z6
 cases a
theorem NM(t):(iD t).1.length<=20000:=by
 rw[iD]
 split
 ·simp_all
 next hs =>
 split
 ·rw[<-SG,SF];exact ML X
 simp_all
def LW{α:Type}(f:List UInt8->Option (α×List UInt8))(d:α)(l:List UInt8):α×List UInt8:=(f l).getD (d,l)
def p0(t:List UInt8):=LW oU a6 t
def p1(t:List UInt8):=LW xG 0 (p0 t).2
def p2(t:List UInt8):=LW xG 0 (p1 t).2
def p3(t:List UInt8):=LW xG 0 (p2 t).2
def p4(t:List UInt8):=LW xG 0 (p3 t).2
def p5(t:List UInt8):=LW oU a6 (p4 t).2
def p6(t:List UInt8):=LW (C1 oU) [] (p5 t).2
def p7(t:List UInt8):=LW oU a6 (p6 t).2
def p8(t:List UInt8):=LW oU a6 (p7 t).2
def p9(t:List UInt8):=LW oU a6 (p8 t).2
def jk(t:List UInt8):=LW xG 0 (p9 t).2
def jj(t:List UInt8):=LW oU a6 (jk t).2
def dx(t:List UInt8):=LW yd zS (jj t).2
def ji(t:List UInt8):=LW oU a6 (dx t).2
def jh(t:List UInt8):=LW oU a6 (ji t).2
def jg(t:List UInt8):=LW (C1 oU) [] (jh t).2
def jf(t:List UInt8):=LW (C1 RL) [] (jg t).2
def Oy(t:List UInt8):=LW yd zS (jf t).2
def BJ:B_:=⟨#[49]⟩
def JO(t:List UInt8):j8:=⟨(p1 t).1,(p2 t).1,(p3 t).1,(p4 t).1,(p5 t).1,(p6 t).1,(iD (p7 t).1).1,(p8 t).1,decide ((p9 t).1=BJ),(jk t).1,(jj t).1,(dx t).1,⟨(ji t).1,(jh t).1,(jg t).1,(jf t).1,(Oy t).1⟩⟩
def Y8(t:List UInt8):List Bool:=[(oU t).isSome,(xG (p0 t).2).isSome,(xG (p1 t).2).isSome,(xG (p2 t).2).isSome,(xG (p3 t).2).isSome,(oU (p4 t).2).isSome,((C1 oU) (p5 t).2).isSome,(oU (p6 t).2).isSome,(oU (p7 t).2).isSome,(oU (p8 t).2).isSome,(xG (p9 t).2).isSome,(oU (jk t).2).isSome,(yd (jj t).2).isSome,(oU (dx t).2).isSome,(oU (ji t).2).isSome,((C1 oU) (jh t).2).isSome,((C1 RL) (jg t).2).isSome,(yd (jf t).2).isSome]
def wM(t:List UInt8):Bool:=(Y8 t).all id
def dZ(t:List UInt8):j8×Int:=if 20000<t.length then(zR,2)else if wM t=true/\mF (JO t)=(a_ t,0)then(JO t,0)else(zR,5)
theorem lD{f}{d}{l}{e:α->AV}:((f l).map λp=>(e p.1,p.2)).getD (e d,l)=(e (LW f d l).1,(LW f d l).2):=by rw[LW];cases f l<;>rfl
theorem oC{f}{d:α}{l}(h:∀p q,f l=some (p,q)->q.length<l.length):(LW f d l).2.length<=l.length:=by
 rw[LW];cases e:f l with
 |none=>simp_all
 |some p=>grind
theorem YB{l q}{s}(h:yd l=some (s,q)):q.length<l.length/\qC s.idx/\(s.sig.length<=l.length/\∀x∈s.sig,x.size<=l.length)/\(s.path.length<=l.length/\∀x∈s.path,x.size<=l.length):=by
 rw[yd]at h;cases e:xG l with
 |none=>simp_all
 | some p =>
  have ⟨i,r⟩:=p;have g:=kH e;rw[e]at h;simp at h;cases d:C1 _ r with
  |none=>rw[d]at h;cases h
  | some p =>
   have ⟨a,r2⟩:=p;have j:=zP d;rw[d]at h;simp at h;cases c:C1 _ _ with
   |none=>rw[c]at h;cases h
   |some p =>
    have f:=zP c;rw[c]at h;cases h;exact⟨X,g.2,⟨G_,λx b=>by have:=j.2 x b;omega⟩,G_,λx b=>by have:=f.2 x b;omega⟩
theorem wB{f}{d}{l}(Q:α->Prop)(hd:Q d)(h:∀p q,f l=some (p,q)->Q p):Q (LW f d l).1:=by
 rw[LW];cases e:f l with
 |none=>exact hd
 |some p=>grind
theorem Ja(t):(p0 t).2.length<=t.length:=oC (λp q h=>by have:=lF h;omega)
theorem Iz(t):(p1 t).2.length<=t.length:=Nat.le_trans (oC (λp q h=>(kH h).1)) (Ja t)
theorem Iy(t):(p2 t).2.length<=t.length:=Nat.le_trans (oC (λp q h=>(kH h).1)) (Iz t)
theorem Ix(t):(p3 t).2.length<=t.length:=Nat.le_trans (oC (λp q h=>(kH h).1)) (Iy t)
theorem mx(t):(p4 t).2.length<=t.length:=Nat.le_trans (oC (λp q h=>(kH h).1)) (Ix t)
theorem mw(t):(p5 t).2.length<=t.length:=Nat.le_trans (oC (λp q h=>by have:=lF h;omega)) (mx t)
theorem mv(t):(p6 t).2.length<=t.length:=Nat.le_trans (oC (λp q h=>by have:=(zP h).1;omega)) (mw t)
theorem mu(t):(p7 t).2.length<=t.length:=Nat.le_trans (oC (λp q h=>by have:=lF h;omega)) (mv t)
theorem Iw(t):(p8 t).2.length<=t.length:=Nat.le_trans (oC (λp q h=>by have:=lF h;omega)) (mu t)
theorem Iv(t):(p9 t).2.length<=t.length:=Nat.le_trans (oC (λp q h=>by have:=lF h;omega)) (Iw t)
theorem Y1(t):(jk t).2.length<=t.length:=Nat.le_trans (oC (λp q h=>(kH h).1)) (Iv t)
theorem Y0(t):(jj t).2.length<=t.length:=Nat.le_trans (oC (λp q h=>by have:=lF h;omega)) (Y1 t)
theorem YZ(t):(dx t).2.length<=t.length:=Nat.le_trans (oC (λp q h=>(YB h).1)) (Y0 t)
theorem YY(t):(ji t).2.length<=t.length:=Nat.le_trans (oC (λp q h=>by have:=lF h;omega)) (YZ t)
theorem YX(t):(jh t).2.length<=t.length:=Nat.le_trans (oC (λp q h=>by have:=lF h;omega)) (YY t)
theorem YW(t):(jg t).2.length<=t.length:=Nat.le_trans (oC (λp q h=>by have:=(zP h).1;omega)) (YX t)
theorem YV(t):(jf t).2.length<=t.length:=Nat.le_trans (oC (λp q h=>by have:=(uq h).1;omega)) (YW t)
theorem Sg(t):(Oy t).2.length<=t.length:=Nat.le_trans (oC (λp q h=>(YB h).1)) (YV t)
theorem Fx{l q}{s}{n}(h:yd l=some (s,q))(hn:l.length<=n):qC s.idx/\(s.sig.length<=n/\∀x∈s.sig,x.size<=n)/\(s.path.length<=n/\∀x∈s.path,x.size<=n):=by
 have ⟨_,h1,h2,h3⟩:=YB h
 grind
theorem aBa(t:List UInt8):qC zS.idx/\(zS.sig.length<=t.length/\∀x∈zS.sig,x.size<=t.length)/\(zS.path.length<=t.length/\∀x∈zS.path,x.size<=t.length):=by simp[zS,qC]
theorem aC1(t):(qC) (p1 t).1:=wB _ (⟨H_,H_⟩) (λp q h=>(kH h).2)
theorem aCZ(t):(qC) (p2 t).1:=wB _ (⟨H_,H_⟩) (λp q h=>(kH h).2)
theorem aCX(t):(qC) (p3 t).1:=wB _ (⟨H_,H_⟩) (λp q h=>(kH h).2)
theorem aCV(t):(qC) (p4 t).1:=wB _ (⟨H_,H_⟩) (λp q h=>(kH h).2)
theorem aCT(t):(λs=>s.size<=t.length) (p5 t).1:=by exact wB (f:=oU) (λs=>s.size<=t.length) ((l7 _)) (λp q h=>by have:=lF h;have:=mx t;omega)
theorem aCR(t):(λl=>l.length<=t.length/\∀x∈l,x.size<=t.length) (p6 t).1:=by exact wB (f:=(C1 oU)) (λl=>l.length<=t.length/\∀x∈l,x.size<=t.length) (⟨l7 _,H_⟩) (λp q h=>by have a:=zP h;have h2:=mw t;exact⟨X,λx b=>by have:=a.2 x b;omega⟩)
theorem aCP(t):(λs=>s.size<=t.length) (p7 t).1:=by exact wB (f:=oU) (λs=>s.size<=t.length) ((l7 _)) (λp q h=>by have:=lF h;have:=mv t;omega)
theorem aCN(t):(λs=>s.size<=t.length) (p8 t).1:=by exact wB (f:=oU) (λs=>s.size<=t.length) ((l7 _)) (λp q h=>by have:=lF h;have:=mu t;omega)
theorem aAC(t):(qC) (jk t).1:=wB _ (⟨H_,H_⟩) (λp q h=>(kH h).2)
theorem aAA(t):(λs=>s.size<=t.length) (jj t).1:=by exact wB (f:=oU) (λs=>s.size<=t.length) ((l7 _)) (λp q h=>by have:=lF h;have:=Y1 t;omega)
theorem Zx(t):(λs=>qC s.idx/\(s.sig.length<=t.length/\∀x∈s.sig,x.size<=t.length)/\(s.path.length<=t.length/\∀x∈s.path,x.size<=t.length)) (dx t).1:=by unfold dx;exact wB (λs:n_=>qC _/\(s.sig.length<=t.length/\∀x∈s.sig,x.size<=t.length)/\(s.path.length<=t.length/\∀x∈s.path,x.size<=t.length)) (aBa t) (λp q h=>Fx h (Y0 t))
theorem Zv(t):(λs=>s.size<=t.length) (ji t).1:=by exact wB (f:=oU) (λs=>s.size<=t.length) ((l7 _)) (λp q h=>by have:=lF h;have:=YZ t;omega)
theorem Zt(t):(λs=>s.size<=t.length) (jh t).1:=by exact wB (f:=oU) (λs=>s.size<=t.length) ((l7 _)) (λp q h=>by have:=lF h;have:=YY t;omega)
theorem Zr(t):(λl=>l.length<=t.length/\∀x∈l,x.size<=t.length) (jg t).1:=by exact wB (f:=(C1 oU)) (λl=>l.length<=t.length/\∀x∈l,x.size<=t.length) (⟨l7 _,H_⟩) (λp q h=>by have a:=zP h;have h2:=YX t;exact⟨X,λx b=>by have:=a.2 x b;omega⟩)
theorem Zp(t):(λl=>l.length<=t.length/\∀q∈l,qC q.1/\qC q.2) (jf t).1:=by exact wB (f:=(C1 RL)) (λl=>l.length<=t.length/\∀q∈l,qC q.1/\qC q.2) (⟨l7 _,H_⟩) (λp q h=>by have a:=uq h;have h2:=YW t;exact⟨X,a.2⟩)
theorem Zm(t):(λs=>qC s.idx/\(s.sig.length<=t.length/\∀x∈s.sig,x.size<=t.length)/\(s.path.length<=t.length/\∀x∈s.path,x.size<=t.length)) (Oy t).1:=by unfold Oy;exact wB (λs:n_=>qC _/\(s.sig.length<=t.length/\∀x∈s.sig,x.size<=t.length)/\(s.path.length<=t.length/\∀x∈s.path,x.size<=t.length)) (aBa t) (λp q h=>Fx h (YV t))
theorem He{N:Nat}(hN:N<=20000){k a n c t:Int}{u s v nm w:B_}{pa m:List B_}{i:List b8}{y:Bool}{sl ps:n_}{f}(B:qC k)(I:qC a)(D:qC n)(H:qC c)(o:qC t)(h5:u.size<=N)(h8:s.size<=N)(h11:v.size<=N)(h13:nm.size<=N)(h14:w.size<=N)
  (r:pa.length<=N/\∀x∈pa,x.size<=N) (p:m.length<=N/\∀x∈m,x.size<=N) (h16:f.length<=N/\∀q∈f,qC q.1/\qC q.2) (he:i.length<=20000) (j:∀e∈i,US e)
  (d:qC sl.idx/\(sl.sig.length<=N/\∀x∈sl.sig,x.size<=N)/\(sl.path.length<=N/\∀x∈sl.path,x.size<=N)) (g:qC ps.idx/\(ps.sig.length<=N/\∀x∈ps.sig,x.size<=N)/\(ps.path.length<=N/\∀x∈ps.path,x.size<=N)) :
  nF ⟨k,a,n,c,u,pa,i,s,y,t,v,sl,⟨nm,w,m,f,ps⟩⟩/\pa.length<549755813888:=by
 have b:∀ {l:List B_},(l.length<=N/\∀x∈l,x.size<=N)->nn l:=λh=>⟨X,λx G=>by have:=h.2 x G;omega⟩;have ⟨z,d_,E⟩:=d;have ⟨c_,A,F⟩:=g;exact⟨⟨⟨B,I,D,H,o⟩,⟨G_,G_,G_⟩,b r,⟨G_,j⟩,⟨z,b d_,b E⟩,G_,G_,b p,G_,c_,b A,b F⟩,by have:=r.1;omega⟩
theorem cr{t}(a:t.length<=20000):nF (JO t)/\(JO t).parents.length<549755813888 :=He a (aC1 t) (aCZ t) (aCX t) (aCV t) (aAC t) (aCT t) (aCN t) (aAA t) (Zv t) (Zt t) (aCR t) (Zr t) (Zp t) (NM _) (RP _) (Zx t) (Zm t)
theorem eQ{β:Type}{o:Option _}{g:α->β}:(o.map g=none↔o.isSome=false)/\((o.map g).isSome=o.isSome):=H_
theorem oE{t}{b}(h:b∈Y8 t)(hb:b=false):wM t=false:=by
 rw[wM]
 simp_all
theorem aEJ(t):(KB t).getD (sv a6,t)=(sv (p0 t).1,(p0 t).2):=by exact lD
theorem aCb(t)(h:KB t=none):wM t=false:=oE (mem_of_getElem? (i:=0) Z) (eQ.1.1 h)
theorem aEI(t):(ER (p0 t).2).getD (iv 0,(p0 t).2)=(iv (p1 t).1,(p1 t).2):=by exact lD
theorem aC2(t)(h:ER (p0 t).2=none):wM t=false:=oE (mem_of_getElem? (i:=1) Z) (eQ.1.1 h)
theorem aEH(t):(ER (p1 t).2).getD (iv 0,(p1 t).2)=(iv (p2 t).1,(p2 t).2):=by exact lD
theorem aC0(t)(h:ER (p1 t).2=none):wM t=false:=oE (mem_of_getElem? (i:=2) Z) (eQ.1.1 h)
theorem aEG(t):(ER (p2 t).2).getD (iv 0,(p2 t).2)=(iv (p3 t).1,(p3 t).2):=by exact lD
theorem aCY(t)(h:ER (p2 t).2=none):wM t=false:=oE (mem_of_getElem? (i:=3) Z) (eQ.1.1 h)
theorem aEF(t):(ER (p3 t).2).getD (iv 0,(p3 t).2)=(iv (p4 t).1,(p4 t).2):=by exact lD
theorem aCW(t)(h:ER (p3 t).2=none):wM t=false:=oE (mem_of_getElem? (i:=4) Z) (eQ.1.1 h)
theorem aEE(t):(KB (p4 t).2).getD (sv a6,(p4 t).2)=(sv (p5 t).1,(p5 t).2):=by exact lD
theorem aCU(t)(h:KB (p4 t).2=none):wM t=false:=oE (mem_of_getElem? (i:=5) Z) (eQ.1.1 h)
theorem aED(t):(Ai (p5 t).2).getD (.pv (aL []),(p5 t).2)=(.pv (aL (p6 t).1),(p6 t).2):=by exact lD (e:=λv=>.pv _)
theorem aCS(t)(h:Ai (p5 t).2=none):wM t=false:=oE (mem_of_getElem? (i:=6) Z) (eQ.1.1 h)
theorem aEC(t):(KB (p6 t).2).getD (sv a6,(p6 t).2)=(sv (p7 t).1,(p7 t).2):=by exact lD
theorem aCQ(t)(h:KB (p6 t).2=none):wM t=false:=oE (mem_of_getElem? (i:=7) Z) (eQ.1.1 h)
theorem aEB(t):(KB (p7 t).2).getD (sv a6,(p7 t).2)=(sv (p8 t).1,(p8 t).2):=by exact lD
theorem aCO(t)(h:KB (p7 t).2=none):wM t=false:=oE (mem_of_getElem? (i:=8) Z) (eQ.1.1 h)
theorem aEA(t):(KB (p8 t).2).getD (sv a6,(p8 t).2)=(sv (p9 t).1,(p9 t).2):=by exact lD
theorem aCM(t)(h:KB (p8 t).2=none):wM t=false:=oE (mem_of_getElem? (i:=9) Z) (eQ.1.1 h)
theorem aCa(t):(ER (p9 t).2).getD (iv 0,(p9 t).2)=(iv (jk t).1,(jk t).2):=by exact lD
theorem aAD(t)(h:ER (p9 t).2=none):wM t=false:=oE (mem_of_getElem? (i:=10) Z) (eQ.1.1 h)
theorem aC9(t):(KB (jk t).2).getD (sv a6,(jk t).2)=(sv (jj t).1,(jj t).2):=by exact lD
theorem aAB(t)(h:KB (jk t).2=none):wM t=false:=oE (mem_of_getElem? (i:=11) Z) (eQ.1.1 h)
theorem aC8(t):(Qn (jj t).2).getD (av (lH zS),(jj t).2)=(av (lH (dx t).1),(dx t).2):=by exact lD (e:=λv=>av _)
theorem Zy(t)(h:Qn (jj t).2=none):wM t=false:=oE (mem_of_getElem? (i:=12) Z) (eQ.1.1 h)
theorem aC7(t):(KB (dx t).2).getD (sv a6,(dx t).2)=(sv (ji t).1,(ji t).2):=by exact lD
theorem Zw(t)(h:KB (dx t).2=none):wM t=false:=oE (mem_of_getElem? (i:=13) Z) (eQ.1.1 h)
theorem aC6(t):(KB (ji t).2).getD (sv a6,(ji t).2)=(sv (jh t).1,(jh t).2):=by exact lD
theorem Zu(t)(h:KB (ji t).2=none):wM t=false:=oE (mem_of_getElem? (i:=14) Z) (eQ.1.1 h)
theorem aC5(t):(Ai (jh t).2).getD (.pv (aL []),(jh t).2)=(.pv (aL (jg t).1),(jg t).2):=by exact lD (e:=λv=>.pv _)
theorem Zs(t)(h:Ai (jh t).2=none):wM t=false:=oE (mem_of_getElem? (i:=15) Z) (eQ.1.1 h)
theorem aC4(t):(ew (jg t).2).getD (.pv (xO []),(jg t).2)=(.pv (xO (jf t).1),(jf t).2):=by exact lD (e:=λv=>.pv _)
theorem Zq(t)(h:ew (jg t).2=none):wM t=false:=oE (mem_of_getElem? (i:=16) Z) (eQ.1.1 h)
theorem aC3(t):(Qn (jf t).2).getD (av (lH zS),(jf t).2)=(av (lH (Oy t).1),(Oy t).2):=by exact lD (e:=λv=>av _)
theorem Zn(t)(h:Qn (jf t).2=none):wM t=false:=oE (mem_of_getElem? (i:=17) Z) (eQ.1.1 h)
theorem Ta(t)(r:(KB t).isSome=true)(o:(ER (p0 t).2).isSome=true)(s:(ER (p1 t).2).isSome=true)(p:(ER (p2 t).2).isSome=true)(l:(ER (p3 t).2).isSome=true)(q:(KB (p4 t).2).isSome=true)(j:(Ai (p5 t).2).isSome=true)(n:(KB (p6 t).2).isSome=true)(m:(KB (p7 t).2).isSome=true)(k:(KB (p8 t).2).isSome=true)(g:(ER (p9 t).2).isSome=true)(c:(KB (jk t).2).isSome=true)(h:(Qn (jj t).2).isSome=true)(f:(KB (dx t).2).isSome=true)(b:(KB (ji t).2).isSome=true)(i:(Ai (jh t).2).isSome=true)(d:(ew (jg t).2).isSome=true)(e:(Qn (jf t).2).isSome=true):wM t=true:=by unfold wM Y8;simp[all_cons,List.all_nil,id,Bool.and_true,k_];exact⟨eQ.2▸r,eQ.2▸o,eQ.2▸s,eQ.2▸p,eQ.2▸l,eQ.2▸q,eQ.2▸j,eQ.2▸n,eQ.2▸m,eQ.2▸k,eQ.2▸g,eQ.2▸c,eQ.2▸h,eQ.2▸f,eQ.2▸b,eQ.2▸i,eQ.2▸d,eQ.2▸e⟩
end Go.Proofs.YtopnleflllkbmaaGreatDoor
namespace Go.Proofs.YtopnleflllkbmaaGreatDoor
open Go.Proofs.Tryz
open Go.Abs
theorem ah.mono{P}{F}{args}{H}{u}{K b}(h:ah P F args H u K)(f:∀H,K H->b H):ah P F args H u b :=λI ι w vs d j g=>(h I _ w _ d j g).mono λ_ _ _ ⟨v,c,i,a,e,s,q,r⟩=>⟨v,c,i,a,e,s,f _ q,r⟩
def PQ(t:List UInt8)(r:AV)(H:aF):Prop:=r=.tup [av (dX (dZ t).1),iv (dZ t).2]/\H=[]
abbrev dE:cY:=[(2,.ref 2 0 0 0),(3,.ref 3 0 0 0)]
theorem gu(x)(e){t}(hg:dZ t=(x,e)):∃r,(∀(a) (w) (I) (ι),Rel I ι (mr x e) w->lJ w I ι (mr x e) dE a->∃v,(results f54 a.tmps).run Tryz.prog w=.ok v w/\VRel w I ι (mr x e) v r)/\∃r' H3,Fin [] (mr x e) r H3 r'/\PQ t r' H3 :=⟨.tup [av (dX x),iv e],aDw Z (CN cT bL) (iK Z mV Z Z Z Z),_,[],Fin.wk H_ T_ T_,by rw[PQ];simp_all⟩
theorem rQ{t}{i}{e}{H2}(m:¬ 20000<t.length)(hok:wM t=false)(r:i=H7)(j:e.get 2=some (.ref 2 0 0 0))(q:e.get 3=some (.ref 3 0 0 0))(p:∃o,H2.get 2=some o/\mN o rAJ)(l:∃o,H2.get 3=some o/\mN o eAJ):
  xa Tryz.prog f54 [] (mr zR 0) 97 dcJ (PQ t) (.panic i) e H2:=by
 subst r;have w:dZ t=(zR,5):=by rw[dZ,a8 m,a8 F_]
 refine⟨.panicking H7,dE,pAJ,.inr ⟨H7,Z,Z⟩,cL.toAny (λu v s=>?_) (λid o' c=>?_) (λid n=>?_),ah.mono Zj λH k=>by subst k;exact gu zR 5 w⟩
 ·have a:=iL s;simp only[l9,q7,or_false,Prod.mk.injEq]at a;rcases a with⟨rfl,rfl⟩|⟨rfl,rfl⟩
  ·exact⟨j,by simp;rfl⟩
  exact⟨q,by simp;rfl⟩
 ·have a:=dY c;simp[l9,q7,or_false,Prod.mk.injEq]at a;rcases a with⟨rfl,rfl⟩|⟨rfl,rfl⟩
  ·have ⟨o,d,f⟩:=l;exact⟨o,d,f,H_⟩
  have ⟨o,d,f⟩:=p;exact⟨o,d,f,H_⟩
 by_cases h:3=id
 ·subst h;rfl
 by_cases g:2=id
 ·subst g;rfl
 simp[aF.get,jR h,jR g]at n
theorem V4{t}{x}{e}{b}{H2}(f:dZ t=(x,e))(c:cL (mr zR 0) b H2 dE (mr x e)):xa Tryz.prog f54 [] (mr zR 0) 97 dcJ (PQ t) .ret b H2 :=⟨.returning,dE,mr x e,.inl ⟨.inr Z,Z⟩,c,ah.mono (Zi x e) λH d=>by subst d;exact gu x e f⟩
theorem OW{x}{o}(h:mN (Dc x) o):mN o rAJ:=⟨h.1.symm,h.2.1.symm,h.2.2.1.symm,h.2.2.2.symm⟩
theorem FW{e}{o}(h:mN (Dg e) o):mN o eAJ:=⟨h.1.symm,h.2.1.symm,h.2.2.1.symm,h.2.2.2.symm⟩
theorem YD(x):mN (Dc x) rAJ:=⟨Z,Z,Z,Z⟩
theorem YC(e):mN (Dg e) eAJ:=⟨Z,Z,Z,Z⟩
theorem dp(t:List UInt8)(hts:t.length<2^40)(H:aF):RC 54 [sv (a_ t)] (.tup [av (dX (dZ t).1),iv (dZ t).2]) H:=by
 refine aU.pure (show aU Tryz.prog 54 [sv (a_ t)] [] (PQ t)from ?_) H_ H;have hls:(a_ t).size=t.length:=bZ t;refine aU.bodyD func54 Z ntmps54 (r_ Z)<|vy<|Rd (kl 2 jw)<|V (kl 3 Xr)<|vy<|O aA<|Y (gE U_)<|V iP<|Cn ?_ ?_<;>intro x
 ·have d_:20000<t.length:=I_ x
  have hg:dZ t=(zR,2):=by rw[dZ,b7 d_]
  refine O (oI TH)<|Uu (jA bL)<|Uu (jA sizeOf25)<|Zz<|aC<|fP (H':=[]) (.inr Z) Z (fB Z cT bL Z Z Z u0 Z) (iK Z mV Z Z Z Z) P_ ?_;rw[PQ,hg];exact Qq
 have d_:¬ 20000<t.length:=J_ x
 refine aB<|Ba (F:=97) (cs:=dcJ) Z Z Z Z Z Z Z Z Z call97<|gG.mono (Q:=xa Tryz.prog f54 [] (mr zR 0) 97 dcJ (PQ t)) ?_ (λ_ _ _ h=>h);have t0:=aEJ t;have n0:=aCb t;have c0:=Ja t;have t1:=aEI t;have n1:=aC2 t;have c1:=Iz t;have t2:=aEH t;have n2:=aC0 t;have c2:=Iy t;have t3:=aEG t;have n3:=aCY t;have c3:=Ix t;have t4:=aEF t;have n4:=aCW t;have c4:=mx t;have t5:=aEE t;have n5:=aCU t;have c5:=mw t;have t6:=aED t;have n6:=aCS t;have c6:=mv t;have t7:=aEC t;have n7:=aCQ t;have c7:=mu t;have t8:=aEB t;have n8:=aCO t;have c8:=Iw t;have t9:=aEA t;have n9:=aCM t;have c9:=Iv t;have t10:=aCa t;have n10:=aAD t;have c10:=Y1 t;have t11:=aC9 t;have n11:=aAB t;have c11:=Y0 t;have t12:=aC8 t;have n12:=Zy t;have c12:=YZ t;have t13:=aC7 t;have n13:=Zw t;have c13:=YY t;have t14:=aC6 t;have n14:=Zu t;have c14:=YX t;have t15:=aC5 t;have n15:=Zs t;have c15:=YW t;have t16:=aC4 t;have n16:=Zq t;have c16:=YV t;have t17:=aC3 t;have n17:=Zn t;have c17:=Sg t;have yes:=Ta t;have o:=cr (t:=t) X;have y:JO t=⟨(p1 t).1,(p2 t).1,(p3 t).1,(p4 t).1,(p5 t).1,(p6 t).1,(iD (p7 t).1).1,(p8 t).1,decide ((p9 t).1=BJ),(jk t).1,(jj t).1,(dx t).1,⟨(ji t).1,(jh t).1,(jg t).1,(jf t).1,(Oy t).1⟩⟩:=rfl;have s7:(p7 t).1.size<=t.length:=aCP t;have u:dZ t=if wM t=true/\mF (JO t)=(a_ t,0)then(JO t,0)else(zR,5):=by rw[dZ,a8 d_]
 rw[y]at o u;have ⟨V0,hV0⟩:∃v,v=(p0 t).1:=X_;have ⟨L0,hL0⟩:∃v,v=(p0 t).2:=X_;have ⟨F,hV1⟩:∃v,v=(p1 t).1:=X_;have ⟨L1,hL1⟩:∃v,v=(p1 t).2:=X_;have ⟨E,hV2⟩:∃v,v=(p2 t).1:=X_;have ⟨L2,hL2⟩:∃v,v=(p2 t).2:=X_;have ⟨I,hV3⟩:∃v,v=(p3 t).1:=X_;have ⟨L3,hL3⟩:∃v,v=(p3 t).2:=X_;have ⟨G,hV4⟩:∃v,v=(p4 t).1:=X_;have ⟨L4,hL4⟩:∃v,v=(p4 t).2:=X_;have ⟨N,hV5⟩:∃v,v=(p5 t).1:=X_;have ⟨L5,hL5⟩:∃v,v=(p5 t).2:=X_;have ⟨e_,hV6⟩:∃v,v=(p6 t).1:=X_;have ⟨L6,hL6⟩:∃v,v=(p6 t).2:=X_;have ⟨V7,hV7⟩:∃v,v=(p7 t).1:=X_;have ⟨L7,hL7⟩:∃v,v=(p7 t).2:=X_;have ⟨V8,hV8⟩:∃v,v=(p8 t).1:=X_;have ⟨L8,hL8⟩:∃v,v=(p8 t).2:=X_;have ⟨V9,hV9⟩:∃v,v=(p9 t).1:=X_;have ⟨L9,hL9⟩:∃v,v=(p9 t).2:=X_;have ⟨n,P⟩:∃v,v=(jk t).1:=X_;have ⟨L10,hL10⟩:∃v,v=(jk t).2:=X_;have ⟨V11,hV11⟩:∃v,v=(jj t).1:=X_;have ⟨L11,Q⟩:∃v,v=(jj t).2:=X_;have ⟨p,T⟩:∃v,v=(dx t).1:=X_;have ⟨L12,hL12⟩:∃v,v=(dx t).2:=X_;have ⟨B,R⟩:∃v,v=(ji t).1:=X_;have ⟨L13,A_⟩:∃v,v=(ji t).2:=X_;have ⟨w,W⟩:∃v,v=(jh t).1:=X_;have ⟨L14,hL14⟩:∃v,v=(jh t).2:=X_;have ⟨z,y_⟩:∃v,v=(jg t).1:=X_;have ⟨L15,o_⟩:∃v,v=(jg t).2:=X_;have ⟨s,f_⟩:∃v,v=(jf t).1:=X_;have ⟨L16,hL16⟩:∃v,v=(jf t).2:=X_;have ⟨c_,z_⟩:∃v,v=(Oy t).1:=X_;have ⟨L17,v_⟩:∃v,v=(Oy t).2:=X_;simp only[<-hV0,<-hL0,<-hV1,<-hL1,<-hV2,<-hL2,<-hV3,<-hL3,<-hV4,<-hL4,<-hV5,<-hL5,<-hV6,<-hL6,<-hV7,<-hL7,<-hV8,<-hL8,<-hV9,<-hL9,<-P,<-hL10,<-hV11,<-Q,<-T,<-hL12,<-R,<-A_,<-W,<-hL14,<-y_,<-o_,<-f_,<-hL16,<-z_,<-v_]at t0 n0 c0 t1 n1 c1 t2 n2 c2 t3 n3 c3 t4 n4 c4 t5 n5 c5 t6 n6 c6 t7 n7 c7 t8 n8 c8 t9 n9 c9 t10 n10 c10 t11 n11 c11 t12 n12 c12 t13 n13 c13 t14 n14 c14 t15 n15 c15 t16 n16 c16 t17 n17 c17 yes o u s7;clear y hV0 hL0 hV1 hL1 hV2 hL2 hV3 hL3 hV4 hL4 hV5 hL5 hV6 hL6 hV7 hL7 hV8 hL8 hV9 hL9 P hL10 hV11 Q T hL12 R A_ W hL14 y_ o_ f_ hL16 z_ v_;have hpc:=λH=>Iq V7 H X;have ⟨PE,hPE⟩:∃v,v=iD V7:=X_;rw[<-hPE]at hpc o u;clear hPE;have ⟨u_,EE⟩:=PE;simp only at hpc o u;have htx:=λH=>X4 ⟨F,E,I,G,N,e_,u_,V8,decide (V9=BJ),n,V11,p,⟨B,w,z,s,c_⟩⟩ o.1 o.2 H;have ⟨TX,hTX⟩:∃v,v=mF ⟨F,E,I,G,N,e_,u_,V8,decide (V9=BJ),n,V11,p,⟨B,w,z,s,c_⟩⟩:=X_;rw[<-hTX]at htx u;clear hTX o;refine O aA<|Y (oI aDL)<|Y (kb 980)<|Y (kl 4 aB9)<|Uu (jA sizeOf125)<|Zz<|S ?_;refine gG.ent (E':=[(0,sv (a_ t)),(2,.ref 2 0 0 0),(3,.ref 3 0 0 0),(4,.ref 4 0 0 0)]) (H':=[(980,je t),(4,inO),(3,Dg 0),(2,Dc zR)]) L_<|gS<|iR Z Z Z (aX Z dU Z Z Z Z Z) ?_
 refine Z6 Z Z Z (eL Z Z nC Z (((AG t X).tot t0 Z (gD _)).mono (PP':=λch H'=>wM t=false/\ch=H7/\∃q,H'=mZ q++_) (λ_ _ h=>h) (λch H' ⟨e,e2,e3⟩=>⟨n0 e,e2,e3⟩))) (λch H' h=>by obtain ⟨e,e2,q,rfl⟩:=h;exact rQ d_ e e2 Z Z ⟨_,Z,YD _⟩ ⟨_,Z,YC _⟩) (λh16=>?_);refine PS<|S ?_;refine gG.ent (E':=[(0,sv (a_ t)),(2,.ref 2 0 0 0),(3,.ref 3 0 0 0),(4,.ref 4 0 0 0)]) (H':=[(980,je L0),(4,inO),(3,Dg 0),(2,Dc zR)]) L_<|yS (λch H1 D=>wM t=false/\ch=H7/\∃q,D=mZ q++H1) [2,3] [2,3] [] Z a7 (λch E1 H1 D hts hsh hks ⟨e,e2,q,e3⟩=>by subst e3;have ⟨o2,k1,k2⟩:=hsh 2 H_ _ Z;have ⟨o3,k3,k4⟩:=hsh 3 H_ _ Z;exact rQ d_ e e2 ((hts 2 H_).trans Z) ((hts 3 H_).trans Z) ⟨o2,k1,OW k2⟩ ⟨o3,k3,FW k4⟩) ?_;refine Pr [4] (λ_ h=>lh dU h)<|vI (r:=⟨_,some [980],mZ L1⟩) (.pan Z (λH1 hH=>by exact eL Z Z jF Z (((nZ L0 X).tot t1 ((hH 980 Z).trans Z) (gD _)).mono (PP':=λch H'=>wM t=false/\ch=H7/\∃q,H'=mZ q++_) (λ_ _ h=>h) (λch H' ⟨e,e2,e3⟩=>⟨n1 e,e2,e3⟩)))) Z ?_;refine Pr [4] (λ_ h=>lh dU h)<|vI (r:=⟨_,some [980],mZ L2⟩) (.pan Z (λH1 hH=>by exact eL Z Z jF Z (((nZ L1 X).tot t2 ((hH 980 Z).trans Z) (gD _)).mono (PP':=λch H'=>wM t=false/\ch=H7/\∃q,H'=mZ q++_) (λ_ _ h=>h) (λch H' ⟨e,e2,e3⟩=>⟨n2 e,e2,e3⟩)))) Z ?_;refine Pr [4] (λ_ h=>lh dU h)<|vI (r:=⟨_,some [980],mZ L3⟩) (.pan Z (λH1 hH=>by exact eL Z Z jF Z (((nZ L2 X).tot t3 ((hH 980 Z).trans Z) (gD _)).mono (PP':=λch H'=>wM t=false/\ch=H7/\∃q,H'=mZ q++_) (λ_ _ h=>h) (λch H' ⟨e,e2,e3⟩=>⟨n3 e,e2,e3⟩)))) Z ?_;refine Pr [4] (λ_ h=>lh dU h)<|vI (r:=⟨_,some [980],mZ L4⟩) (.pan Z (λH1 hH=>by exact eL Z Z jF Z (((nZ L3 X).tot t4 ((hH 980 Z).trans Z) (gD _)).mono (PP':=λch H'=>wM t=false/\ch=H7/\∃q,H'=mZ q++_) (λ_ _ h=>h) (λch H' ⟨e,e2,e3⟩=>⟨n4 e,e2,e3⟩)))) Z ?_;refine Pr [2] (λ_ h=>fh oH h)<|Pw [2] (λ_ h=>su sizeOf3 h)<|Pr [2] (λ_ h=>fh E9 h)<|Pw [2] (λ_ h=>su sizeOf3 h)<|Pr [2] (λ_ h=>fh AN h)<|Pw [2] (λ_ h=>su sizeOf3 h)<|Pr [2] (λ_ h=>fh E8 h)<|Pw [2] (λ_ h=>su sizeOf3 h)<|KV ⟨⟨by kernel_rfl,by rfl,by rfl⟩,λA=>?_⟩;simp only[ag,true_and,and_true]at A;refine S ?_;have f4:=A;refine gG.ent (E':=[(0,sv (a_ t)),(2,.ref 2 0 0 0),(3,.ref 3 0 0 0),(4,.ref 4 0 0 0)]) (H':=[(980,je L4),(4,inO),(3,Dg 0),(2,Dc ⟨F,E,I,G,a6,[],[],a6,false,0,a6,zS,⟨a6,a6,[],[],zS⟩⟩)]) L_ ?_
 refine yS (λch H1 D=>wM t=false/\ch=H7/\∃q,D=mZ q++H1) [2,3] [2,3] [] Z a7 (λch E1 H1 D hts hsh hks ⟨e,e2,q,e3⟩=>by subst e3;have ⟨o2,k1,k2⟩:=hsh 2 H_ _ Z;have ⟨o3,k3,k4⟩:=hsh 3 H_ _ Z;exact rQ d_ e e2 ((hts 2 H_).trans Z) ((hts 3 H_).trans Z) ⟨o2,k1,OW k2⟩ ⟨o3,k3,FW k4⟩) ?_;refine Pr [4] (λ_ h=>lh dU h)<|vI (r:=⟨_,some [980],mZ L5⟩) (.pan Z (λH1 hH=>by exact eL Z Z nC Z (((AG L4 X).tot t5 ((hH 980 Z).trans Z) (gD _)).mono (PP':=λch H'=>wM t=false/\ch=H7/\∃q,H'=mZ q++_) (λ_ _ h=>h) (λch H' ⟨e,e2,e3⟩=>⟨n5 e,e2,e3⟩)))) Z ?_;refine Pr [4] (λ_ h=>lh dU h)<|Pr [4] (λ_ h=>lh dU h)<|Pr [] (λH1 hH=>by exact pD Z Z) ?_;refine vI (r:=⟨_,some [980],mZ L6⟩) (.pan Z (λH1 hH=>by exact eL Z Z call100 Z (((ZJ L5 X).tot t6 ((hH 980 Z).trans Z) (gD _)).mono (PP':=λch H'=>wM t=false/\ch=H7/\∃q,H'=mZ q++_) (λ_ _ h=>h) (λch H' ⟨e,e2,e3⟩=>⟨n6 e,e2,e3⟩)))) Z ?_;refine Pr [2] (λ_ h=>fh C9 h)<|Pw [2] (λ_ h=>su V_ h)<|Pr [2] (λ_ h=>fh oG h)<|Pw [2] (λ_ h=>su sizeOf22 h)<|KV ⟨⟨by rfl,by rfl,by rfl⟩,λA=>?_⟩;simp only[ag,true_and,and_true]at A;refine S ?_;have f6:=A;refine gG.ent (E':=[(0,sv (a_ t)),(2,.ref 2 0 0 0),(3,.ref 3 0 0 0),(4,.ref 4 0 0 0)]) (H':=[(980,je L6),(4,inO),(3,Dg 0),(2,Dc ⟨F,E,I,G,N,e_,[],a6,false,0,a6,zS,⟨a6,a6,[],[],zS⟩⟩)]) L_<|gS<|iR Z Z Z (aX Z dU Z Z Z Z Z)<|Z6 Z Z Z (eL Z Z nC Z (((AG L6 X).tot t7 Z (gD _)).mono (PP':=λch H'=>wM t=false/\ch=H7/\∃q,H'=mZ q++_) (λ_ _ h=>h) (λch H' ⟨e,e2,e3⟩=>⟨n7 e,e2,e3⟩))) (λch H' h=>by obtain ⟨e,e2,q,rfl⟩:=h;exact rQ d_ e e2 Z Z ⟨_,Z,YD _⟩ ⟨_,Z,YC _⟩) (λh39=>?_);refine iR Z Z Z (kc call101 (hpc _))<|iR Z Z Z (gU Z Z)<|iR Z Z Z (vB Z Z Z)<|iR Z Z Z (vB Z Z Z)<|iR Z Z Z (nY Z C8 Z Z Z Z)<|Nj Z Z (ku sizeOf46)<|PS<|S ?_;refine gG.ent (E':=[(0,sv (a_ t)),(2,.ref 2 0 0 0),(3,.ref 3 0 0 0),(4,.ref 4 0 0 0)]) (H':=[(980,je L7),(4,inO),(3,Dg 0),(2,Dc ⟨F,E,I,G,N,e_,u_,a6,false,0,a6,zS,⟨a6,a6,[],[],zS⟩⟩)]) L_<|yS (λch H1 D=>wM t=false/\ch=H7/\∃q,D=mZ q++H1) [2,3] [2,3] [] Z a7 (λch E1 H1 D hts hsh hks ⟨e,e2,q,e3⟩=>by subst e3;have ⟨o2,k1,k2⟩:=hsh 2 H_ _ Z;have ⟨o3,k3,k4⟩:=hsh 3 H_ _ Z;exact rQ d_ e e2 ((hts 2 H_).trans Z) ((hts 3 H_).trans Z) ⟨o2,k1,OW k2⟩ ⟨o3,k3,FW k4⟩) ?_;refine Pr [4] (λ_ h=>lh dU h) ?_
 refine vI (r:=⟨_,some [980],mZ L8⟩) (.pan Z (λH1 hH=>by exact eL Z Z nC Z (((AG L7 X).tot t8 ((hH 980 Z).trans Z) (gD _)).mono (PP':=λch H'=>wM t=false/\ch=H7/\∃q,H'=mZ q++_) (λ_ _ h=>h) (λch H' ⟨e,e2,e3⟩=>⟨n8 e,e2,e3⟩)))) Z ?_;refine Pr [4] (λ_ h=>lh dU h)<|vI (r:=⟨_,some [980],mZ L9⟩) (.pan Z (λH1 hH=>by exact eL Z Z nC Z (((AG L8 X).tot t9 ((hH 980 Z).trans Z) (gD _)).mono (PP':=λch H'=>wM t=false/\ch=H7/\∃q,H'=mZ q++_) (λ_ _ h=>h) (λch H' ⟨e,e2,e3⟩=>⟨n9 e,e2,e3⟩)))) Z ?_;refine Pr [] (λH1 hH=>by exact J0 Z Z Z)<|Pr [4] (λ_ h=>lh dU h) ?_;refine vI (r:=⟨_,some [980],mZ L10⟩) (.pan Z (λH1 hH=>by exact eL Z Z jF Z (((nZ L9 X).tot t10 ((hH 980 Z).trans Z) (gD _)).mono (PP':=λch H'=>wM t=false/\ch=H7/\∃q,H'=mZ q++_) (λ_ _ h=>h) (λch H' ⟨e,e2,e3⟩=>⟨n10 e,e2,e3⟩)))) Z ?_;refine Pr [4] (λ_ h=>lh dU h)<|vI (r:=⟨_,some [980],mZ L11⟩) (.pan Z (λH1 hH=>by exact eL Z Z nC Z (((AG L10 X).tot t11 ((hH 980 Z).trans Z) (gD _)).mono (PP':=λch H'=>wM t=false/\ch=H7/\∃q,H'=mZ q++_) (λ_ _ h=>h) (λch H' ⟨e,e2,e3⟩=>⟨n11 e,e2,e3⟩)))) Z ?_;refine Pr [2] (λ_ h=>fh C7 h)<|Pw [2] (λ_ h=>su V_ h)<|Pr [2] (λ_ h=>fh IH h)<|Pw [2] (λ_ h=>su sizeOf4 h)<|Pr [2] (λ_ h=>fh yH h)<|Pw [2] (λ_ h=>su sizeOf3 h)<|Pr [2] (λ_ h=>fh wX h)<|Pw [2] (λ_ h=>su V_ h)<|KV ⟨⟨by kernel_rfl,by rfl,by rfl⟩,λA=>?_⟩;simp only[ag,true_and,and_true]at A;refine S ?_;have K:=A;refine gG.ent (E':=[(0,sv (a_ t)),(2,.ref 2 0 0 0),(3,.ref 3 0 0 0),(4,.ref 4 0 0 0)]) (H':=[(980,je L11),(4,inO),(3,Dg 0),(2,Dc ⟨F,E,I,G,N,e_,u_,V8,decide (V9=BJ),n,V11,zS,⟨a6,a6,[],[],zS⟩⟩)]) L_<|gS<|iR Z Z Z (aX Z dU Z Z Z Z Z)<|Z6 Z Z Z (eL Z Z call102 Z (((sy L11 X).tot t12 Z (gD _)).mono (PP':=λch H'=>wM t=false/\ch=H7/\∃q,H'=mZ q++_) (λ_ _ h=>h) (λch H' ⟨e,e2,e3⟩=>⟨n12 e,e2,e3⟩))) (λch H' h=>by obtain ⟨e,e2,q,rfl⟩:=h;exact rQ d_ e e2 Z Z ⟨_,Z,YD _⟩ ⟨_,Z,YC _⟩) (λh58=>?_);refine iR Z Z Z (nY Z zV Z Z Z Z)<|Nj Z Z (qO Z sizeOf48 Z Z Z Z Z Z Z (r_ Z) Z Z)<|PS<|S ?_;refine gG.ent (E':=[(0,sv (a_ t)),(2,.ref 2 0 0 0),(3,.ref 3 0 0 0),(4,.ref 4 0 0 0)]) (H':=[(980,je L12),(4,inO),(3,Dg 0),(2,Dc ⟨F,E,I,G,N,e_,u_,V8,decide (V9=BJ),n,V11,p,⟨a6,a6,[],[],zS⟩⟩)]) L_ ?_
 refine yS (λch H1 D=>wM t=false/\ch=H7/\∃q,D=mZ q++H1) [2,3] [2,3] [] Z a7 (λch E1 H1 D hts hsh hks ⟨e,e2,q,e3⟩=>by subst e3;have ⟨o2,k1,k2⟩:=hsh 2 H_ _ Z;have ⟨o3,k3,k4⟩:=hsh 3 H_ _ Z;exact rQ d_ e e2 ((hts 2 H_).trans Z) ((hts 3 H_).trans Z) ⟨o2,k1,OW k2⟩ ⟨o3,k3,FW k4⟩) ?_;refine Pr [4] (λ_ h=>lh dU h)<|vI (r:=⟨_,some [980],mZ L13⟩) (.pan Z (λH1 hH=>by exact eL Z Z nC Z (((AG L12 X).tot t13 ((hH 980 Z).trans Z) (gD _)).mono (PP':=λch H'=>wM t=false/\ch=H7/\∃q,H'=mZ q++_) (λ_ _ h=>h) (λch H' ⟨e,e2,e3⟩=>⟨n13 e,e2,e3⟩)))) Z ?_;refine Pr [4] (λ_ h=>lh dU h)<|vI (r:=⟨_,some [980],mZ L14⟩) (.pan Z (λH1 hH=>by exact eL Z Z nC Z (((AG L13 X).tot t14 ((hH 980 Z).trans Z) (gD _)).mono (PP':=λch H'=>wM t=false/\ch=H7/\∃q,H'=mZ q++_) (λ_ _ h=>h) (λch H' ⟨e,e2,e3⟩=>⟨n14 e,e2,e3⟩)))) Z ?_;refine Pr [4] (λ_ h=>lh dU h)<|Pr [4] (λ_ h=>lh dU h)<|Pr [] (λH1 hH=>by exact pD Z Z) ?_;refine vI (r:=⟨_,some [980],mZ L15⟩) (.pan Z (λH1 hH=>by exact eL Z Z call100 Z (((ZJ L14 X).tot t15 ((hH 980 Z).trans Z) (gD _)).mono (PP':=λch H'=>wM t=false/\ch=H7/\∃q,H'=mZ q++_) (λ_ _ h=>h) (λch H' ⟨e,e2,e3⟩=>⟨n15 e,e2,e3⟩)))) Z ?_;refine Pr [4] (λ_ h=>lh dU h)<|Pr [4] (λH1 hH=>by exact gW Z Z) ?_;refine vI (r:=⟨_,some [980,4],mZ L16⟩) (.pan Z (λH1 hH=>by exact eL Z Z call103 Z (((Tx L15 X).tot t16 ((hH 980 Z).trans Z) (HN.sub ⟨(hH 4 Z).trans Z,T_⟩)).mono (PP':=λch H'=>wM t=false/\ch=H7/\∃q,H'=mZ q++_) (λ_ _ h=>h) (λch H' ⟨e,e2,e3⟩=>⟨n16 e,e2,e3⟩)))) Z ?_;refine Pr [] (λH1 hH=>by exact ON Z aE0 Z Z)<|Pr [2] (λ_ h=>fh iE h)<|Pw [2] (λ_ h=>sx sizeOf51 h) ?_;refine KV ⟨⟨by kernel_rfl,by rfl,by rfl⟩,λA=>?_⟩;simp only[ag,true_and,and_true]at A;refine S ?_;have L:=A;refine gG.ent (E':=[(0,sv (a_ t)),(2,.ref 2 0 0 0),(3,.ref 3 0 0 0),(4,.ref 4 0 0 0)]) (H':=[(980,je L16),(4,inO),(3,Dg 0),(2,Dc ⟨F,E,I,G,N,e_,u_,V8,decide (V9=BJ),n,V11,p,⟨B,w,z,s,zS⟩⟩)]) L_<|gS<|iR Z Z Z (aX Z dU Z Z Z Z Z)<|Z6 Z Z Z (eL Z Z call102 Z (((sy L16 X).tot t17 Z (gD _)).mono (PP':=λch H'=>wM t=false/\ch=H7/\∃q,H'=mZ q++_) (λ_ _ h=>h) (λch H' ⟨e,e2,e3⟩=>⟨n17 e,e2,e3⟩))) (λch H' h=>by obtain ⟨e,e2,q,rfl⟩:=h;exact rQ d_ e e2 Z Z ⟨_,Z,YD _⟩ ⟨_,Z,YC _⟩) (λh74=>?_);refine iR Z Z Z (nY Z iE Z Z Z Z)<|iR Z Z Z (nY Z FA Z Z Z Z)<|Nj Z Z (qO Z sizeOf48 Z Z Z Z Z Z Z (r_ Z) Z Z)<|PS<|S<|S ?_
 refine gG.ent (E':=[(0,sv (a_ t)),(2,.ref 2 0 0 0),(3,.ref 3 0 0 0),(4,.ref 4 0 0 0)]) (H':=[(980,je L17),(4,inO),(3,Dg 0),(2,Dc ⟨F,E,I,G,N,e_,u_,V8,decide (V9=BJ),n,V11,p,⟨B,w,z,s,c_⟩⟩)]) L_ ?_;have hokt:=yes h16 f4.1 f4.2.1 f4.2.2.1 f4.2.2.2 f6.1 f6.2 h39 K.1 K.2.1 K.2.2.1 K.2.2.2 h58 L.1 L.2.1 L.2.2.1 L.2.2.2 h74;have hg1:dZ t=if TX=(a_ t,0)then(⟨F,E,I,G,N,e_,u_,V8,decide (V9=BJ),n,V11,p,⟨B,w,z,s,c_⟩⟩,0)else(zR,5):=F_
 refine Rd (wQ cT bL)<|Y (kc call72 (htx _))<|Y aA<|Y dK<|Y dK<|Y aI<|V aI<|S<|aQ (t:=88) (n:=8) (A_:=!decide (TX.2=0)||!decide (TX.1=a_ t)) ?_ ?_
 ·all_goals refine Y aA<|Y zB<|Dm ?_<;>(refine Sp 84 (λh84=>?_) λh84=>?_)<;>(first|exact s_|refine M<|M<|M ?_|refine U aA<|U aA<|U DZ ?_)<;>refine V cC ?_<;>exact Gj (h:=by(rw[h84];rfl))
 refine Cn ?_ ?_<;>intro x
 ·have hne:TX≠(a_ t,0):=by have:=x;rintro rfl;simp at this
  refine O (oI TH)<|Uu (jA bL)<|Uu (jA sizeOf25)<|Zz<|aC ?_;exact V4 (by rw[hg1,a8 hne]) L_
 have heq:TX=(a_ t,0):=by have:=x;rw[q8,Bool.not_eq_false',Bool.not_eq_false',j0,j0]at this;exact Prod.ext this.2 this.1
 refine aB<|O (wQ cT bL)<|Uu (jA bL)<|Uu (jA sizeOf25)<|Zz<|aC ?_;exact V4 (by rw[hg1,b7 heq]) L_
open Go.Lib
theorem lC{α:Type}{f}{d:α}{l}{p}(h:f l=some p):LW f d l=p:=by rw[LW,h];rfl
theorem S8{l}(h:(jW l).2=true):(iD (jW l).1).1=l:=by
 rw[jW]at h |-
 split at h
 ·next a =>
  rw[eq_nil_of_length_eq_zero a];rfl
 next a =>
 rw[a8 a];exact congrArg _ (EK (b9 h))
theorem ba(b:Bool):decide (aT (if b then 1 else 0)=BJ)=b:=by cases b<;>kernel_rfl
def Gh(r:j8):List B_:=[]
def Gi(r:j8):List B_:=fI (.z r.priv.sl.idx r.priv.sl.sig r.priv.sl.path)++Gh r
def j9(r:j8):List B_:=fI (.p r.priv.trace)++Gi r
def Gk(r:j8):List B_:=aT (r.priv.sources.length:Int)::(r.priv.sources++j9 r)
def Gl(r:j8):List B_:=r.priv.reason::Gk r
def Gm(r:j8):List B_:=r.priv.name::Gl r
def Gn(r:j8):List B_:=fI (.z r.sl.idx r.sl.sig r.sl.path)++Gm r
def Gp(r:j8):List B_:=r.from'::Gn r
def Gq(r:j8):List B_:=aT r.order::Gp r
def sf9(r:j8):List B_:=(aT (if r.yes then 1 else 0))::Gq r
def sf8(r:j8):List B_:=r.target::sf9 r
def sf7(r:j8):List B_:=(jW r.edits).1::sf8 r
def sf6(r:j8):List B_:=aT (r.parents.length:Int)::(r.parents++sf7 r)
def sf5(r:j8):List B_:=r.branch::sf6 r
def sf4(r:j8):List B_:=aT r.clock::sf5 r
def sf3(r:j8):List B_:=aT r.number::sf4 r
def sf2(r:j8):List B_:=aT r.author::sf3 r
def sf1(r:j8):List B_:=aT r.kind::sf2 r
def sf0(r:j8):List B_:=GN::sf1 r
theorem Nl(r):jJ r=sf0 r:=by simp[jJ,wJ,yY,MA,LQ,fI,sf0,sf1,sf2,sf3,sf4,sf5,sf6,sf7,sf8,sf9,Gq,Gp,Gn,Gm,Gl,Gk,j9,Gi,Gh]
theorem yr{r:j8}(h:VF r):wM (aN (jJ r))=true/\JO (aN (jJ r))=r:=by
 have hk:=BO h.k;have hau:=h.au;have hnu:=h.nu;have hcl:=h.cl;have hod:=h.order;have hpl:=h.pal;have b:=kX h.sl;have a:=kX h.psl;have s0:=b.i0;have s1:=b.i1;have s2:=b.sl;have s3:=b.pl;have z0:=a.i0;have z1:=a.i1;have z2:=a.sl;have z3:=a.pl;have hso:=h.sol;have htr:=h.trl;have A:=MK h.br;have d_:=P2 h.tx;have E:=h.target;have F:=h.from
 have D:=h.nm;have z:=h.rs;have f:∀ {l:List B_},(∀t∈l,m6 t=true)->∀t∈l,HP t:=λz_ t y=>Nat.lt_of_le_of_lt (C4 (z_ t y)) E_;rw[Nl];have ⟨t,y⟩:∃t,t=aN (sf0 r):=X_;rw[<-y];have N:oU t=some (GN,aN (sf1 r)):=by rw[y];exact mB _ (show GN.size<1000000000000000000 by decide)
 have q0:p0 t=(GN,aN (sf1 r)):=lC N;have o_:xG (p0 t).2=some (r.kind,aN (sf2 r)):=by rw[q0];exact mC _ X X
 have H:p1 t=(r.kind,aN (sf2 r)):=lC o_;have P:xG (p1 t).2=some (r.author,aN (sf3 r)):=by rw[H];exact mC _ X X
 have T:p2 t=(r.author,aN (sf3 r)):=lC P;have e_:xG (p2 t).2=some (r.number,aN (sf4 r)):=by rw[T];exact mC _ X X
 have A_:p3 t=(r.number,aN (sf4 r)):=lC e_;have u_:xG (p3 t).2=some (r.clock,aN (sf5 r)):=by rw[A_];exact mC _ X X
 have W:p4 t=(r.clock,aN (sf5 r)):=lC u_;have R:oU (p4 t).2=some (r.branch,aN (sf6 r)):=by rw[W];exact mB _ (Nat.lt_of_le_of_lt A E_)
 have c_:p5 t=(r.branch,aN (sf6 r)):=lC R;have f_:(C1 oU) (p5 t).2=some (r.parents,aN (sf7 r)):=by rw[c_];exact C0 _ _ (f h.pa) X
 have y_:p6 t=(r.parents,aN (sf7 r)):=lC f_;have Q:oU (p6 t).2=some ((jW r.edits).1,aN (sf8 r)):=by rw[y_];exact mB _ (Nat.lt_of_le_of_lt d_ E_)
 have G:p7 t=((jW r.edits).1,aN (sf8 r)):=lC Q;have v_:oU (p7 t).2=some (r.target,aN (sf9 r)):=by rw[G];exact mB _ (Nat.lt_of_le_of_lt E E_)
 have I:p8 t=(r.target,aN (sf9 r)):=lC v_;have L:oU (p8 t).2=some ((aT (if r.yes then 1 else 0)),aN (Gq r)):=by rw[I];exact mB _ (NV (by split<;>decide) (by split<;>decide))
 have K:p9 t=((aT (if r.yes then 1 else 0)),aN (Gq r)):=lC L;have p:xG (p9 t).2=some (r.order,aN (Gp r)):=by rw[K];exact mC _ X X
 have s:jk t=(r.order,aN (Gp r)):=lC p;have n:oU (jk t).2=some (r.from',aN (Gn r)):=by rw[s];exact mB _ (Nat.lt_of_le_of_lt F E_)
 have c:jj t=(r.from',aN (Gn r)):=lC n;have o:yd (jj t).2=some (r.sl,aN (Gm r)):=by rw[c];exact QO _ _ s0 X (f b.sa) (f b.pa) X X
 have u:dx t=(r.sl,aN (Gm r)):=lC o;have v:oU (dx t).2=some (r.priv.name,aN (Gl r)):=by rw[u];exact mB _ (Nat.lt_of_le_of_lt D E_)
 have j:ji t=(r.priv.name,aN (Gl r)):=lC v;have w:oU (ji t).2=some (r.priv.reason,aN (Gk r)):=by rw[j];exact mB _ (Nat.lt_of_le_of_lt z E_)
 have i:jh t=(r.priv.reason,aN (Gk r)):=lC w;have m:(C1 oU) (jh t).2=some (r.priv.sources,aN (j9 r)):=by rw[i];exact C0 _ _ (λx hx=>Nat.lt_of_le_of_lt (h.so x hx) E_) X
 have e:jg t=(r.priv.sources,aN (j9 r)):=lC m;have k:(C1 RL) (jg t).2=some (r.priv.trace,aN (Gi r)):=by rw[e];exact og _ _ (λq hq=>by have ⟨⟨a1,a2⟩,a3,a4⟩:=h.tr q hq;exact⟨⟨X,X⟩,X,X⟩) X
 have d:jf t=(r.priv.trace,aN (Gi r)):=lC k;have g:yd (jf t).2=some (r.priv.sl,aN (Gh r)):=by rw[d];exact QO _ _ z0 X (f a.sa) (f a.pa) X X
 have B:Oy t=(r.priv.sl,aN (Gh r)):=lC g;constructor
 ·unfold wM Y8;rw[N,o_,P,e_,u_,R,f_,Q,v_,L,p,n,o,v,w,m,k,g];rfl
 unfold JO;rw[H,T,A_,W,c_,y_,G,I,K,s,c,u,j,i,e,d,B,S8 h.tx,ba]
theorem RR{r}{t}(h:mF r=(a_ t,0)):dZ t=(r,0):=by
 have e:=h;rw[mF]at h;by_cases a:gY r=true
 ·rw[b7 a]at h
  split at h
  ·cases h
  next c =>
  have f:t=aN (jJ r):=by
   have:=congrArg (λp=>p.1.data.toList) h;exact this.symm
  have ⟨d,b⟩:=yr (xJ a);rw[<-f]at d b c;rw[dZ,a8 c,b,b7 ⟨d,e⟩]
 rw[a8 a]at h;cases h
theorem RQ{t}(h:(dZ t).2=0):mF (dZ t).1=(a_ t,0):=by
 rw[dZ]at h |-
 grind
variable{α:Type}
def q_(l:List B_):List PV:=[aL l]
def sO(ls:List (List B_)):PV:=.sl (ls.map q_)
theorem TQ{l:List α}{p}(h:∀j,j<l.length->∀b,l[j]?=some b->p b=true):l.all p=true:=by
 rw[all_eq_true];intro b a;have ⟨j,hj⟩:=s8.1 a
 grind
theorem Z7{l:List α}{p}{i:Nat}{b}(hb:l[i]?=some b)(h:p b=false):l.all p=false:=G_
theorem LK{l:List _}{p:α->Bool}{i}{x}(h:∀j,j<i->∀b,l[j]?=some b->p b=true)(hx:l[i]?=some x)(hp:p x=true):∀j,j<i+1->∀b,l[j]?=some b->p b=true:=G_
end Go.Proofs.YtopnleflllkbmaaGreatDoor
namespace Go.Proofs.YtopnleflllkbmaaGreatDoor
open Go.Proofs.Tryz
open Go.Abs Go.Lib
theorem XL(s)(H):∀r∈fO s,∀a∈r,Clo H a:=by intro r d a c;obtain ⟨b,_,rfl⟩:=mem_map.1 d;rw[r6.1 c];exact .pv _
instance(s)(H):W_ (H) (fO s):=⟨XL s H⟩
abbrev TX:B_:=⟨#[48,49,50,51,52,53,54,55,56,57]⟩
theorem Yf:∀q:Fin 10,(TX.extract q.1 (q.1+1)).data.toList=[UInt8.ofNat (48+q.1)]:=λq=>by
 revert q;decide
theorem Et{q}(h:q<10):TX.extract q (q+1)=a_ [UInt8.ofNat (48+q)]:=mS (by rw[Yf ⟨q,h⟩,cG])
theorem Jn(a b):a_ a++a_ b=a_ (a++b):=mS (Z)
def ZW(v:Nat):List UInt8:=if v=0 then[]else decDigits v
theorem Be{v}(h:0<v)(t):ZW (v / 10)++(UInt8.ofNat (48+v % 10)::t)=ZW v++t:=by
 have e:ZW v=decDigits v:=a8 X;rw[e,decDigits];by_cases a:v<10
 ·rw[dif_pos a,ZW,b7 X,mod_eq_of_lt a];rfl
 rw[dif_neg a,ZW,a8 X,append_assoc];rfl
theorem py(n):ZW (n / 10)++[UInt8.ofNat (48+n % 10)]=decDigits n:=by
 rw[decDigits];by_cases a:n<10
 ·rw[dif_pos a,ZW,b7 X,mod_eq_of_lt a];rfl
 rw[dif_neg a,ZW,a8 X]
theorem ct(n:Nat)(hn:n<9223372036854775808)(H:aF):RC 136 [uv n] (sv (a_ (decDigits n))) H:=by
 refine Pu ?_;have step:∀v:Nat,v<18446744073709551616->((v:Nat):Int).tmod 10=((v % 10:Nat):Int)/\IntKind.u64.wrap (((v:Nat):Int).tdiv 10)=((v / 10:Nat):Int)/\IntKind.u64.wrap (((v % 10:Nat):Int)+1)=((v % 10+1:Nat):Int)/\v % 10<10/\v % 10+1<=TX.size:=λv z=>by
  refine⟨by rfl,by rw[Int.tdiv_eq_ediv_of_nonneg X,IntKind.wrap_u64];omega,by rw[IntKind.wrap_u64];omega,mod_lt _ E_,?_⟩;have:TX.size=10:=rfl;omega
 have ⟨l,y,u,w,p⟩:=step n X;have e:=Et w;have b:=py n;generalize n % 10=g at l u w p e b;refine Bd func136 Z ntmps136<|Sz aI<|O aA<|Y (zM Z Z Z E_ l)<|Y aA<|Y (zM Z Z Z E_ l)<|Y (ka u)<|Y (bM (l:=g) (h:=g+1) Z U_ Z Z Z X p e)<|V aI<|S<|O aA<|Y (CU Z Z Z E_ y)<|V aI<|aD<|eU (λ(v:Nat) (t:List UInt8)=>([(0,uv v),(3,sv (a_ t))],[])) (λv t=>v<9223372036854775808/\ZW v++t=decDigits n) (λv t=>v) (n / 10) [UInt8.ofNat (48+g)] ⟨X,b⟩ ?_ ?_
 ·exact Wk
 rintro v t ⟨z,d⟩;have ⟨j,x,s,q,o⟩:=step v X;have e:=Et q;have hlen:t.length<=21:=by
  have B:=congrArg List.length d;rw[j_]at B;have h2:=cV (k:=19) (u:=n) X E_;omega
 by_cases A:0<v
 ·have c:=Be A t;rw[d]at c;generalize v % 10=g at j s q o e c;refine S<|O aA<|V iP<|Cn ?_ ?_<;>intro f
  ·refine aB<|S<|aD<|Rd aA<|Y (zM Z Z Z E_ j)<|Y aA<|Y (zM Z Z Z E_ j)<|Y (ka s)<|Y (bM (l:=g) (h:=g+1) Z U_ Z Z Z X o e)<|Y aA<|Y (by exact fC Z Z Z (by rw[bZ,bZ,length_singleton];omega) (Jn [UInt8.ofNat (48+g)] t))<|V aI<|Rd aA<|Y (CU Z Z Z E_ x)<|Da ?_;exact⟨v / 10,UInt8.ofNat (48+g)::t,⟨X,c⟩,X,Wk⟩
  (have h:=b_ f;omega)
 have k:v=0:=X
 subst k;have d_:t=decDigits n:=d;subst d_;refine S<|O aA<|V iP<|Cn ?_ ?_<;>intro m
 ·cases m
 exact aP<|O aA<|V aI<|aC<|Rt<|Qq
theorem QY(n:Nat)(d:n<9223372036854775808)(H):RC 84 [iv n] (sv (a_ (decDigits n))) H:=by
 refine Pu ?_;have c:=λH=>ct n d H;refine Bd func84 Z ntmps84<|Sz aI<|S<|O aA<|V cJ<|Cn ?_ ?_<;>intro b
 ·(have h:=b9 b;omega)
 exact aB<|O aA<|Y (eE Z underlying3 gL Z (bh X))<|Y (bH Z Z call136 Z (c _))<|V aI<|aC<|Rt<|Qq
def JA(L:List B_):Nat:=(L.map λs=>s.size+21).sum
theorem xm(L)(s):JA (L++[s])=JA L+(s.size+21):=by rw[JA,map_append,sum_append];rfl
theorem sf:∀ {L},(∀s∈L,s.size<=100000000)->JA L<=L.length*100000021
 | [],_=>l7 _
 |s::r,h=>by
  have ih:=sf (λx a=>h x (mem_cons_of_mem _ a));show s.size+21+JA r<=_
  grind
theorem WU:∀ {L},(∀s∈L,s.size<=100000000)->(aN L).length<=JA L
 | [],_=>l7 _
 |s::r,h=>by
  have ih:=WU (λx a=>h x (mem_cons_of_mem _ a));have hs:=h s mem_cons_self;have hd:=cV (k:=9) (u:=s.size) X H_;rw[iB,j_,j7,j_,aR];show _<=s.size+21+JA r;omega
theorem fa(L)(s):aN (L++[s])=(aN L++decDigits s.size)++[58]++s.data.toList:=by
 rw[fb,iB];show aN L++(decDigits _++58::(s.data.toList++[]))=_
 simp_all
theorem VO(L:List B_)(hL:L.length<=100000)(t:∀s∈L,s.size<=100000000)(H:aF):RC 85 [.pv (aL L)] (sv (a_ (aN L))) H:=by
 refine Pu ?_;have hml:(L.map S_).length=L.length:=j6 _;have f:∀i,JA (L.take i)<=10000002100000:=λi=>by
  have h1:=sf (L:=L.take i) (λs h=>t s (mem_of_mem_take h));have B:(L.take i).length<=100000:=G_
  have h3:=mul_le_mul_right 100000021 B;omega
 have n:∀i,(aN (L.take i)).length<=JA (L.take i):=λi=>WU λs h=>t s (mem_of_mem_take h);refine Bd func85 Z ntmps85<|Sz aI<|Sz aI<|S<|Sz aI<|aD<|bF (σ:=Nat) (λi=>([(0,.pv (aL L)),(3,iv (JA (L.take i):Int)),(4,iv (i:Int))],[])) (λi=>i<=L.length) (λi=>L.length - i) 0 (l7 _) ?_ ?_
 ·exact Wk
 intro i A;have y:=f i;refine S<|O aA<|Y aA<|Y (fW aE)<|V cJ<|Cn ?_ ?_<;>intro q
 ·have g:i<L.length:=I_ q
  have ⟨s,c⟩:=aS g;have e:=cE (f:=S_) c;have w:=t s (m8 c);have d:JA (L.take (i+1))=JA (L.take i)+(s.size+21):=by rw[fF c,xm]
  refine aB<|S<|aD<|Rd aA<|Y aA<|Y aA<|Y (bU Z bD Z Z X x6 e Z)<|Y (fZ N_)<|Y (gE U_)<|Y (by exact dB Z Z Z (show IntKind.i64.wrap ((s.size:Int)+21)=((s.size+21:Nat):Int)by rw[mE X X];omega))<|Y (by exact dB Z Z Z (show IntKind.i64.wrap ((JA (L.take i):Int)+((s.size+21:Nat):Int))=((JA (L.take (i+1)):Nat):Int)by rw[d,mE X X];omega))<|V aI<|Rd aA<|Y kp<|Da ?_;exact⟨i+1,X,X,Wk⟩
 have j:i=L.length:=J_ q
 refine aP<|O aA<|Y (D8 (id:=905) Z A8 Xb zo5 Z Z Z X X (l_ _) (l_ _) X Z)<|V aI<|S<|Sz aI<|aD<|bF (σ:=Nat) (λi=>([(0,.pv (aL L)),(5,.osl 905 (3*i) 0 (aN (L.take i)).length),(6,iv (i:Int))],[(905,⟨3*i,1,5,fO (aN (L.take i))⟩)])) (λi=>i<=L.length) (λi=>L.length - i) 0 (l7 _) ?_ ?_
 ·exact L_
 clear j y A;intro i A;have y:=f i;have z:=n i;have hb2:=f (i+1);have hj2:=n (i+1);refine S<|O aA<|Y aA<|Y (fW aE)<|V cJ<|Cn ?_ ?_<;>intro k
 ·have g:i<L.length:=I_ k
  have ⟨s,c⟩:=aS g;have e:=cE (f:=S_) c;have w:=t s (m8 c);have l:=λH=>QY s.size X H;have d:aN (L.take (i+1))=(aN (L.take i)++decDigits s.size)++[58]++s.data.toList:=by rw[fF c,fa]
  have hdl:=cV (k:=9) (u:=s.size) X E_;have ⟨c_,u⟩:∃c_,c_=aN (L.take i):=X_;rw[<-u]at d z |-;have m:=bZ (decDigits s.size);have v:(fO (c_++decDigits s.size)).length=c_.length+(decDigits s.size).length:=by rw[sA,j_]
  have x:(fO ((c_++decDigits s.size)++[58])).length=c_.length+(decDigits s.size).length+1:=by rw[sA,j_,j_];rfl
  refine aB<|S<|aD<|O aA<|Y aA<|Y aA<|Y (kx bD e)<|Y (fZ N_)<|Y (gE U_)<|Y (kc gR (l _))<|Y (by exact wF (rows':=fO (c_++decDigits s.size)) (k:=c_.length+(decDigits s.size).length) Z A8 U_ Xb OM Z Z Z Z Z (sA c_) Z (by rw[m];omega) (by rw[m]) (by rw[cG];exact uI c_ (decDigits s.size)))<|V aI<|O aA<|Y (by exact aK [[.int .u8 58]] Z A8 Z Z Z Z Z (by simp))<|Y (by exact cA (k:=c_.length+(decDigits s.size).length+1) (ps:=[[.int .u8 58]]) Z A8 Xb Z Z Z Z Z v Z (by simp) (m:=1) Z (by omega) Z (uI (c_++decDigits s.size) [58]))<|V aI<|Rd aA<|Y aA<|Dm ?_;refine Y (iO bD)<|Y (fZ N_ (hi:=e))<|Y (by exact wF (k:=c_.length+(decDigits s.size).length+1+s.size) Z A8 U_ Xb OM Z Z Z Z Z x Z (by omega) Z (uI ((c_++decDigits s.size)++[58]) s.data.toList))<|V aI<|Rd aA<|Y kp<|Da ?_;refine⟨i+1,by omega,by omega,?_⟩;rw[d];have o:(c_++decDigits s.size++[58]++s.data.toList).length=c_.length+(decDigits s.size).length+1+s.size:=by
   rw[j_,j_,j_,aR];rfl
  rw[o];exact L_
 have j:i=L.length:=J_ k
 subst j;rw[take_length]at z |-;have ⟨c_,u⟩:∃c_,c_=aN L:=X_;rw[<-u];have p:((fO c_).drop 0).take c_.length=fO c_:=by rw[drop_zero,take_of_length_le (by rw[sA];exact g_ _)]
 exact aP<|O aA<|Y (by exact UP Z dD cZ U_ Z Z Z Z p Z)<|V aI<|aC<|Rt<|Qq
theorem VA{r}{a b}(h:gY r=true)(ha:kY a=true)(hb:kY b=true):gY (Jv r a b)=true:=by simp[gY,k_,r8]at h |-;have ⟨⟨⟨⟨c,f⟩,g⟩,e⟩,d⟩:=h;refine⟨⟨⟨⟨?_,f⟩,g⟩,e⟩,d⟩;simp only[rq,q8]at c |-;have ⟨⟨c,_⟩,_⟩:=c;exact⟨⟨c,by show (!kY b)=false;simp_all⟩,by show (!kY a)=false;simp_all⟩
theorem Uv:kY zS=true:=E_
theorem aCy{s}(h:FSeal s)(hl:s.sig.length=18):kY s=true:=by have b:=h.i0;have a:=h.i1;have l2:=h.pl;rw[kY,j6,j6,decide_eq_true b,decide_eq_true a,decide_eq_true X,decide_eq_true X,all_eq_true.2 h.sa,all_eq_true.2 h.pa];simp
theorem QR{s m}{h i}(a:(OX s h i m).2=0):kY (OX s h i m).1=true:=by have ⟨f,e,_⟩:=lp a;refine aCy f ?_;rw[e];rfl
theorem eo{r x}(h:G6 r=(x,0)):x=r/\(mF r).2=0:=by
 rw[G6]at h
 grind
structure Made(r x:j8)(s:B_)(h:Int):Prop where
 v0:gY (NR r)=true
 a0:(OX s h (2*r.number - 2) (MU (NR r))).2=0
 tx:(mF x).2=0
 e:(uF r.priv=true/\x=mk1 r (OX s h (2*r.number - 2) (MU (NR r))).1)\/(uF r.priv=false/\(OX s h (2*r.number - 1) (ZE (NR r))).2=0/\x=Jv r (OX s h (2*r.number - 2) (MU (NR r))).1 (OX s h (2*r.number - 1) (ZE (NR r))).1)
theorem Tv{r x}{s}{h}(a:NS r s h=(x,0)):Made r x s h:=by
 rw[NS]at a
 split at a
 ·cases a
 next h1 =>
 split at a
 ·next c =>
  have:=congrArg Prod.snd a;exact absurd this c
 next c =>
 have c:(OX s h (2*r.number - 2) (MU (NR r))).2=0:=X
 split at a
 ·next e =>
  have ⟨b,d⟩:=eo a;exact⟨F_,c,b▸d,.inl ⟨e,b⟩⟩
 next e =>
 split at a
 ·next f =>
  have:=congrArg Prod.snd a;exact absurd this f
 next f =>
 have ⟨b,d⟩:=eo a;refine⟨F_,c,b▸d,.inr ⟨F_,?_,b⟩⟩;omega
theorem Made.valid{r x}{s}{h}(a:Made r x s h):gY x=true:=by
 rcases a.e with⟨_,e⟩|⟨_,b,e⟩
 ·rw[e];exact VA (r:=NR r) a.v0 (QR a.a0) Uv
 rw[e];exact VA (r:=NR r) a.v0 (QR a.a0) (QR b)
theorem Made.text{r x}{s}{h}(b:Made r x s h):mF x=(a_ (aN (jJ x)),0):=by
 have a:=b.tx;rw[mF,b7 b.valid]at a |-
 split at a
 ·cases a
 next c=>rw[a8 c]
theorem Made.parse{r x}{s}{h}(a:Made r x s h):dZ (aN (jJ x))=(x,0):=RR a.text
theorem cN.val{P}{N}{o}{E}{H H'}{b a}(h:cN P N o E H (.pv (.bool b)) H')(e:b=a):cN P N o E H (.pv (.bool a)) H':=e▸h
def Qg(c:UInt8):B_:=⟨#[c]⟩
def Wv(c:UInt8):l6:=⟨Qg c,1,(c.toNat:Int),0,[],[]⟩
def cs3:List UInt8:=[97,98,99]
def aDo:l6:=⟨Qg 119,2,0,0,cs3.map Qg,[]⟩
def s0:List l6:=cs3.map Wv++[aDo]
def x1:List l6:=cs3.map Wv++[⟨Qg 118,2,0,0,[Qg 98,Qg 99],[]⟩,⟨Qg 119,2,0,0,[Qg 97,Qg 98],[]⟩]
end Go.Proofs.YtopnleflllkbmaaGreatDoor
section
namespace Go.Proofs.YtopnleflllkbmaaGreatDoor
open Go.Proofs.Tryz
open Go.Abs
structure M3 where
 k:B_
 b:B_
 o:B_
 t:B_
end Go.Proofs.YtopnleflllkbmaaGreatDoor
namespace Go.Abs

end Go.Abs
namespace Go.Proofs.YtopnleflllkbmaaGreatDoor
open Go.Proofs.Tryz
open Go.Abs

end Go.Proofs.YtopnleflllkbmaaGreatDoor
end
namespace Go.Proofs.YtopnleflllkbmaaGreatDoor
open Go.Proofs.Tryz
open Go.Abs
def m1(p:M3):B_×Bool:=if p.t=p.o then(p.o,false)else if p.t=p.b then(p.o,false)else if p.o=p.b then(p.t,false)else(p.b,true)
instance decMemB(s:B_)(l:List B_):Decidable (s∈l):=decidable_of_iff (vi l s=true) Ui
def zs(down:Bool):List Int:=if down then[2,1,0]else[0,1,2]
def aEO(m:List l6)(down:Bool):List l6:=(zs down).flatMap λz=>m.filter λo=>decide (o.kind.tdiv 2=z)
def aAo(b:List l6)(o:l6):Bool:=match aEN b o.id with
 |some p=>!decide (p.kind=o.kind)||(decide (o.kind=5)&&!decide (o.refs=p.refs))
 |none=>false
def rnB(b:List l6)(A_:List B_)(o:l6):Bool:=aAo b o||o.refs.any (vi A_)
def rnL(b:List l6):List B_->List l6->List B_
 |A_,[]=>A_
 |A_,o::L=>rnL b (if rnB b A_ o then A_++[o.id]else A_) L
def aD8(a b:List l6):List B_:=rnL b [] (aEO a false)
section
section
variable{a b:List l6}
def c1(k:l6×l6):l6:=⟨k.1.id,k.1.kind,k.2.x,k.2.y,k.1.refs,k.1.tags⟩
def c2(k:l6×l6):l6:=⟨k.1.id,k.1.kind,k.2.x,k.2.y,k.2.refs,k.1.tags⟩
def c3(k:l6×l6):l6:=⟨k.1.id,k.1.kind,k.2.x,k.2.y,k.2.refs,k.2.tags⟩
end
end
theorem cN.valY{P}{N}{o}{E}{H H'}{b a}(h:cN P N o E H (.pv (.bool b)) H')(e:b=a):cN P N o E H (.pv (.bool a)) H':=e▸h
end Go.Proofs.YtopnleflllkbmaaGreatDoor
namespace Go.Proofs.YtopnleflllkbmaaGreatDoor
open Go.Proofs.Tryz
section
def Ye(u:List Nat)(i:Nat):Nat:=u.getD i i
def aBm:Nat->List Nat->Nat->Nat
 |0,_,i=>i
 |n+1,u,i=>if Ye u i=i then i else aBm n u (Ye u i)
def top(u:List Nat)(i:Nat):Nat:=aBm i u i
def aE3(u:List Nat):Prop:=∀i,Ye u i<=i
def Inv(L:Nat->Nat->Prop)(f:Nat->Nat):Prop:=∀i k,L i k->f i=f k
structure Snd(L:Nat->Nat->Prop)(u:List Nat):Prop where
 ok:aE3 u
 sn:∀f,Inv L f->∀x,f (top u x)=f x
section
variable{f_:Type}[DecidableEq f_]
def Uw:List (f_×Nat)->f_->Option Nat
 | [],_=>none
 |(k,v)::r,s=>if k=s then some v else Uw r s
structure I1(L:Nat->Nat->Prop)(W:Nat->List f_)(k m:Nat)(st:List Nat×List (f_×Nat)):Prop where
 len:st.1.length=m
 snd:Snd L st.1
 at_:∀s j,Uw st.2 s=some j->j<m/\s∈W j
 has:∀j,j<k->∀s,s∈W j->(Uw st.2 s).isSome=true
structure I2(L:Nat->Nat->Prop)(F:List (f_×Nat))(N:Nat->List f_)(n k:Nat)(u:List Nat):Prop where
 len:u.length=n
 snd:Snd L u
 same:∀i,i<k->∀s,s∈N i->∀j,Uw F s=some j->top u i=top u j
end
end
def Wt(f:Nat->Nat)(n:Nat):List Nat:=(List.range n).filter λi=>f i=i
def grp(f:Nat->Nat)(n r:Nat):List Nat:=(List.range n).filter λj=>f j=r
def aEQ(f:Nat->Nat)(n:Nat):List (List Nat):=(Wt f n).map (grp f n)
def aEx(f:Nat->Nat)(n x:Nat):Nat:=(Wt f n).idxOf (f x)
end Go.Proofs.YtopnleflllkbmaaGreatDoor
namespace Go.Proofs.YtopnleflllkbmaaGreatDoor
open Go.Proofs.Tryz
open Go.Abs
theorem NY{l}(h:lG l=true):0<l.length/\l.length<=200/\∀e∈l,fX e=true:=by
 rw[lG,k_]at h
 grind
open Go.Lib
theorem Yz(u:Nat):∀H,u<1000000000->RC 222 [iv (u:Int)] (sv (a_ (decDigits u))) H:=by
 induction u using Nat.strongRecOn with
 | ind u g =>
  intro H hu;refine Pu<|Bd func222 Z ntmps222<|Sz aI<|S<|O aA<|V cJ<|Cn ?_ ?_<;>intro d
  ·have f:u<10:=I_ d
   have h10:(⟨#[48,49,50,51,52,53,54,55,56,57]⟩:B_).size=10:=rfl;have i:(⟨#[48,49,50,51,52,53,54,55,56,57]⟩:B_).extract u (u+1)=a_ (decDigits u):=by
    rw[decDigits,dif_pos f];have h:u=0\/u=1\/u=2\/u=3\/u=4\/u=5\/u=6\/u=7\/u=8\/u=9:=X
    rcases h with rfl|rfl|rfl|rfl|rfl|rfl|rfl|rfl|rfl|rfl<;>rfl
   exact O aA<|Y aA<|Y gX<|Y (bM (l:=u) (h:=u+1) Z U_ Z Z Z X X i)<|V aI<|aC<|Rt<|Qq
  have f:¬ u<10:=J_ d
  have j:IntKind.i64.wrap ((u:Int).tdiv 10)=((u / 10:Nat):Int):=by
   rw[show (u:Int).tdiv 10=((u / 10:Nat):Int)from rfl];exact mE X X
  have hs1:(a_ (decDigits (u / 10))).size<=9:=by rw[bZ];exact cV X E_
  have hs2:(a_ (decDigits (u % 10))).size<=1:=by rw[bZ];exact cV X E_
  have k:a_ (decDigits (u / 10))++a_ (decDigits (u % 10))=a_ (decDigits u):=pq (by
   rw[show (a_ (decDigits (u / 10))++a_ (decDigits (u % 10))).data.toList=(a_ (decDigits (u / 10))).data.toList++(a_ (decDigits (u % 10))).data.toList by simp,cG,cG,cG];rw[show decDigits u=decDigits (u / 10)++[UInt8.ofNat (48+u % 10)]by rw[decDigits,dif_neg f]];congr 1;rw[decDigits,dif_pos X])
  exact aB<|O aA<|Y (CU Z Z Z E_ j)<|Y (kc call222 (g (u / 10) X _ X))<|Y aA<|Y (zM Z Z Z E_ (rfl:(u:Int).tmod 10=((u % 10:Nat):Int)))<|Y (kc call222 (g (u % 10) X _ X))<|Y (fC Z Z Z X k)<|V aI<|aC<|Rt<|Qq
theorem BP{a:List _}{k}{w}(h:a[k]?=some w):a_ (bT [32] (bs (a.take (k+1))))=(if 0<k then a_ (bT [32] (bs (a.take k)))++⟨#[32]⟩else a_ (bT [32] (bs (a.take k))))++w:=by
 have b:=(m9.1 h).1;refine pq ?_;rw[take_add_one,h,bs];cases k with
 |zero =>
  simp[bT,bs,a_]
 | succ k =>
  cases a with
  |nil=>cases b
  |cons x l =>
   simp[a_,bs,bT]
theorem FN(a:List B_)(H:aF)(hb:cX a+a.length<2^40):RC 221 [.pv (aL a)] (sv (a_ (bT [32] (bs a)))) H:=by
 refine Pu ?_;have hmw:(a.map S_).length=a.length:=j6 _;refine Bd func221 Z ntmps221<|Sz aI<|Sz aI<|S<|Sz aI<|aD<|bF (σ:=Nat) (λk=>([(0,.pv (aL a)),(3,sv (a_ (bT [32] (bs (a.take k))))),(4,iv (k:Int))],[])) (λk=>k<=a.length) (λk=>a.length - k) 0 (l7 _) ?_ ?_
 ·exact Wk
 rintro k hk;have hsz:(a_ (bT [32] (bs (a.take k)))).size<=cX a+a.length:=by
  rw[bZ];have m:=fT (a.take k);have n:=nV a k;have h3:(a.take k).length<=a.length:=F_
  omega
 refine S<|O aA<|Y aA<|Y (fW aE)<|V cJ<|Cn ?_ ?_<;>intro g
 ·have h:k<a.length:=I_ g
  have ⟨w,j⟩:=aS h;have hiw:=cE (f:=S_) j;have d:=BP j;have hws:w.size<=cX a:=by
   have m:=xP j;have n:=nV a (k+1);omega
  have h32:(⟨#[32]⟩:B_).size=1:=rfl;have hs2:(a_ (bT [32] (bs (a.take k)))++⟨#[32]⟩).size=(a_ (bT [32] (bs (a.take k)))).size+1:=F_
  refine aB<|S<|aD<|S<|O aA<|V iP<|Cn ?_ ?_<;>intro f
  ·have i:0<k:=I_ f
   rw[b7 i]at d;refine Rd aA<|Y kq<|V aI<|Rd aA<|Y aA<|Y aA<|Y (iO bD)<|Y (fZ N_)<|Y kq<|V aI<|Rd aA<|Y gX<|Da ?_;refine⟨k+1,X,X,?_⟩;rw[d];exact Wk
  have i:¬ 0<k:=J_ f
  rw[a8 i]at d;refine aB<|Rd aA<|Y aA<|Y aA<|Y (iO bD)<|Y (fZ N_)<|Y kq<|V aI<|Rd aA<|Y gX<|Da ?_;refine⟨k+1,X,X,?_⟩;rw[d];exact Wk
 have l:k=a.length:=J_ g
 subst l;rw[take_length];exact aP<|O aA<|V aI<|aC<|Rt<|Qq
def SR(s:B_)(n:Int):Bool:=(List.range s.size).any λj=>decide (aY s j=n)
theorem La(s)(n:Int)(H:aF)(hs:s.size<2^62):RC 262 [sv s,.pv (.int .u8 n)] (bv (SR s n)) H:=by
 refine Pu<|Bd func262 Z ntmps262<|Sz aI<|S<|Sz aI<|aD<|bF (σ:=Nat) (λk=>([(0,sv s),(1,.pv (.int .u8 n)),(5,iv (k:Int))],[])) (λk=>k<=s.size/\∀j,j<k->decide (aY s j=n)=false) (λk=>s.size - k) 0 ⟨X,X⟩ ?_ ?_
 ·exact E0
 rintro k ⟨hk,e⟩;refine S<|O aA<|Y aA<|Y (gE U_)<|V cJ<|Cn ?_ ?_<;>intro b
 ·have f:k<s.size:=I_ b
  refine aB<|S<|aD<|O aA<|Y aA<|Y (cI Z U_ Z Z X (Z) X Z)<|Y aA<|V cD<|Cn ?_ ?_<;>intro c
  ·refine Sz aI<|aC<|Rt ?_;exact⟨by rw[SR,tZ f c],Z⟩
  refine aB<|Rd aA<|Y gX<|Da ?_;refine⟨k+1,⟨X,λj hj=>?_⟩,X,E0⟩
  grind
 have d:k=s.size:=J_ b
 subst d;refine aP<|Sz aI<|aC<|Rt ?_;exact⟨by rw[SR,BE e],Z⟩
theorem Uo:∀n:Fin 256,(SR ⟨#[32,9,10]⟩ (n.val:Int)=decide (yN (n.val)=1))/\(decide ((n.val:Int)=35)=decide (yN (n.val)=2))/\(SR ⟨#[59,44,46,58,40,41,123,125,91,93,61,60,62,47,45]⟩ (n.val:Int)=decide (yN (n.val)=6))/\(decide ((n.val:Int)=34)=decide (yN (n.val)=7))/\(SR ⟨#[92,34,110]⟩ (n.val:Int)=(sV (UInt8.ofNat n.val)).isSome):=by decide +kernel
theorem ZQ(s)(k):(SR ⟨#[32,9,10]⟩ (aY s k)=decide (yN (aY s k)=1))/\(decide (aY s k=35)=decide (yN (aY s k)=2))/\(SR ⟨#[59,44,46,58,40,41,123,125,91,93,61,60,62,47,45]⟩ (aY s k)=decide (yN (aY s k)=6))/\(decide (aY s k=34)=decide (yN (aY s k)=7))/\(SR ⟨#[92,34,110]⟩ (aY s k)=(sV (oX s k)).isSome):=by
 have h:=Uo ⟨(aY s k).toNat,B0 s k⟩;have e:UInt8.ofNat (aY s k).toNat=oX s k:=by rw[tE,l_,UInt8.ofNat_toNat]
 rw[e]at h;exact h
theorem szW(w:List _):(⟨w.toArray⟩:B_).size=w.length:=rfl
theorem FH(w)(t):(⟨w.toArray⟩:B_)++t=⟨(w++t.data.toList).toArray⟩:=mS (Z)
theorem gf{s}{i}(h:i<s.size):(s.extract i (i+1)).data.toList=[oX s i]:=by rw[gB,Nat.add_sub_cancel_left,yK h];rfl
theorem si(s:B_)(f:Nat)(H:aF)(hs:s.size<2^40)(ha:f<s.size):RC 263 [sv s,iv (f:Int)] (.tup [sv (xK (nU (s.data.toList.drop (f+1))) [] (f+1)).1,iv (xK (nU (s.data.toList.drop (f+1))) [] (f+1)).2,bv (nU (s.data.toList.drop (f+1))).isSome]) H:=by
 refine Pu ?_;have ⟨j,x⟩:∃j,j=xK (nU (s.data.toList.drop (f+1))) [] (f+1):=X_;have ⟨ok,E⟩:∃ok,ok=(nU (s.data.toList.drop (f+1))).isSome:=X_;rw[<-x,<-E];refine Bd func263 Z ntmps263<|O aI<|Y aI<|V aI<|Sz aI<|S<|O aA<|Y gX<|V aI<|aD<|eU (λ(i:Nat) (w:List UInt8)=>([(0,sv s),(7,sv ⟨w.toArray⟩),(8,iv (i:Int))],[])) (λi w=>w.length<=i/\i<2199023255552/\j=xK (nU (s.data.toList.drop i)) w i/\ok=(nU (s.data.toList.drop i)).isSome) (λi w=>s.size+1 - i) (f+1) [] ⟨l7 _,X,x,E⟩ ?_ ?_
 ·exact E0
 rintro i w ⟨hwl,hib,d,a⟩;have hsw:=szW w;refine S<|O aA<|Y aA<|Y (gE U_)<|V cJ<|Cn ?_ ?_<;>intro e_
 ·have F:i<s.size:=I_ e_
  have o:=yK F;have Q:=gf F;have L:(⟨w.toArray⟩:B_)++s.extract i (i+1)=⟨(w++[oX s i]).toArray⟩:=by rw[FH,Q]
  have hxs:=fU s i (i+1);refine aB<|S<|aD<|O aA<|Y aA<|Y (ky U_)<|V aI<|S<|O aA<|V cD<|Cn ?_ ?_<;>intro N
  ·have n:oX s i=34:=b9 (B3 (n:=34) E_ N);have t:j=(⟨w.toArray⟩,((i+1:Nat):Int)):=by rw[d,o,n,CD,xK,append_nil]
   have g:ok=true:=by rw[a,o,n,CD];rfl
   rw[t,g];refine O aA<|Y aA<|Y gX<|Y aI<|Y aI<|V aI<|aC<|lX (H':=[]) (.inr Z) Z (aH Z) (aH Z) (aH Z) P_ Qq
  have y:oX s i≠34:=b_ (B3 (n:=34) E_ N);refine aB<|S<|O aA<|V cD<|Cn ?_ ?_<;>intro K
  ·have n:oX s i=10:=b9 (B3 (n:=10) E_ K);have t:j=(a6,0):=by rw[d,o,n,LM,xK]
   have g:ok=false:=by rw[a,o,n,LM];rfl
   rw[t,g];refine O aI<|Y aI<|V aI<|aC<|lX (H':=[]) (.inr Z) Z (aH Z) (aH Z) (aH Z) P_ Qq
  have v:oX s i≠10:=b_ (B3 (n:=10) E_ K);refine aB<|S<|O aA<|V zB<|Cn ?_ ?_<;>intro hc4
  ·have z:oX s i≠92:=by
    have h:decide (aY s i=92)=false:=F_
    exact b_ (B3 (n:=92) E_ h)
   refine O aA<|Y aA<|Y aA<|Y aA<|Y gX<|Y (bM (l:=i) (h:=(i+1)) Z U_ Z Z Z X X Z)<|Y (fC Z Z Z X L)<|V aI<|aP<|Rd aA<|Y gX<|Da ?_;refine⟨i+1,w++[oX s i],⟨F_,X,?_,?_⟩,X,E0⟩
   ·rw[d,o,CE y v z,A6]
   rw[a,o,CE y v z,Option.isSome_map]
  have n:oX s i=92:=by
   have h:decide (aY s i=92)=true:=F_
   exact b9 (B3 (n:=92) E_ h)
  by_cases c_:i+1<s.size
  ·have p:decide ((s.size:Int)<=(i:Int)+1)=false:=decide_eq_false X;have q:=yK c_;have G:=(ZQ s (i+1)).2.2.2.2;have P:=gf c_;have hxs2:=fU s (i+1) (i+1+1);have B:(⟨w.toArray⟩:B_)++s.extract (i+1) (i+1+1)=⟨(w++[oX s (i+1)]).toArray⟩:=by rw[FH,P]
   have A:(⟨w.toArray⟩:B_)++⟨#[10]⟩=⟨(w++[10]).toArray⟩:=by rfl
   refine aB<|O aA<|Y gX<|V aI<|S<|O aA<|Y aA<|Y (gE U_)<|Y (cN.valY (jL Z Z Z) (p))<|Y aA<|U aA<|U aA<|U (ky U_)<|U (bH Z Z call262 Z (La ⟨#[92,34,110]⟩ (aY s (i+1)) _ E_))<|U iI<|V cC<|Cn ?_ ?_<;>intro R
   ·have f_:sV (oX s (i+1))=none:=by
     simp_all
    have t:j=(a6,0):=by rw[d,o,n,q,uO,f_];rfl
    have g:ok=false:=by rw[a,o,n,q,uO,f_];rfl
    rw[t,g];refine O aI<|Y aI<|V aI<|aC<|lX (H':=[]) (.inr Z) Z (aH Z) (aH Z) (aH Z) P_ Qq
   have ⟨b,l⟩:∃b,sV (oX s (i+1))=some b:=by
    rw[G]at R;cases l:sV (oX s (i+1))with
    |none=>simp_all
    |some b=>simp_all
   refine aB<|O aA<|Y aA<|Y (ky U_)<|V cD<|Cn ?_ ?_<;>intro I
   ·have D:oX s (i+1)=110:=b9 (B3 (n:=110) E_ I);have d_:b=10:=by rw[D]at l;exact(Option.some.inj l).symm
    refine Rd aA<|Y (by exact fC Z Z Z (by show (⟨w.toArray⟩:B_).size+1<=_;omega) A)<|V aI<|Rd aA<|Y gX<|Da ?_;refine⟨i+1+1,w++[10],⟨by rw[j_,length_singleton];omega,X,?_,?_⟩,X,E0⟩
    ·rw[d,o,n,q,uO,l,d_];exact A6
    rw[a,o,n,q,uO,l];exact Option.isSome_map
   have D:oX s (i+1)≠110:=b_ (B3 (n:=110) E_ I);have d_:b=oX s (i+1):=by
    rw[sV]at l
    split at l
    ·rename_i e;rw[e];exact(Option.some.inj l).symm
    split at l
    ·rename_i e;rw[e];exact(Option.some.inj l).symm
    first
    |cases l
    |(rw[a8 D]at l;cases l)
   refine Rd aA<|Y aA<|Y aA<|Y aA<|Y gX<|Y (bM (l:=(i+1)) (h:=(i+1+1)) Z U_ Z Z Z X X Z)<|Y (fC Z Z Z X B)<|V aI<|Rd aA<|Y gX<|Da ?_;refine⟨i+1+1,w++[oX s (i+1)],⟨by rw[j_,length_singleton];omega,X,?_,?_⟩,X,E0⟩
   ·rw[d,o,n,q,uO,l,d_];exact A6
   rw[a,o,n,q,uO,l]
   simp_all
  have p:decide ((s.size:Int)<=(i:Int)+1)=true:=decide_eq_true X;have t:j=(a6,0):=by rw[d,o,n,BX X];rfl
  have g:ok=false:=by rw[a,o,n,BX X];rfl
  rw[t,g];refine aB<|O aA<|Y gX<|V aI<|S<|O aA<|Y aA<|Y (gE U_)<|Y (cN.valY (jL Z Z Z) (p))<|Y aA<|M<|M<|M<|M<|M<|V cC<|Cn ?_ ?_<;>intro o_
  ·refine O aI<|Y aI<|V aI<|aC<|lX (H':=[]) (.inr Z) Z (aH Z) (aH Z) (aH Z) P_ Qq
  ((cases o_;done))
 have p:s.size<=i:=J_ e_
 have t:j=(a6,0):=by rw[d,BX p];rfl
 have g:ok=false:=by rw[a,BX p];rfl
 rw[t,g];refine aP<|O aI<|Y aI<|V aI<|aC<|lX (H':=[]) (.inr Z) Z (aH Z) (aH Z) (aH Z) P_ Qq
theorem LZ(s:B_)(H:aF)(G:s.size<17592186044416):RC 223 [sv s] (sv ⟨(cW s.data.toList).toArray⟩) H:=by
 refine Pu ?_;have hsl:=aR s;refine Bd func223 Z ntmps223<|Sz aI<|Sz aI<|Sz aI<|S<|Sz aI<|aD<|B5 (λ(i f:Nat) (w:List UInt8)=>([(0,sv s),(3,sv ⟨w.toArray⟩),(4,iv (f:Int)),(5,iv (i:Int))],[])) (λi f w=>f<=i/\i<=s.size/\w.length<=(lI s i).length/\w++(s.data.toList.drop f).take (i - f)=lI s i) (λi f w=>s.size - i) 0 0 [34] ⟨g_ _,l7 _,g_ _,Z⟩ ?_ ?_
 ·exact E0
 rintro i f w ⟨hf,hi,hwl,k⟩;have hq:=dc (s:=s) (k:=i) G;have hsw:=szW w;refine S<|O aA<|Y aA<|Y (gE U_)<|V cJ<|Cn ?_ ?_<;>intro x
 ·have e:i<s.size:=I_ x
  have d:=VZ e;have g:=gB s f i;have c:(⟨w.toArray⟩:B_)++s.extract f i=⟨(lI s i).toArray⟩:=by rw[FH,g,k]
  have B:=szW (lI s i);have o:(⟨(lI s i).toArray⟩:B_)++⟨#[92,110]⟩=⟨(lI s i++[92,110]).toArray⟩:=by rfl
  have p:(⟨(lI s i).toArray⟩:B_)++⟨#[92]⟩=⟨(lI s i++[92]).toArray⟩:=by rfl
  have A:=fU s f i;refine aB<|S<|aD<|O aA<|Y aA<|Y (ky U_)<|V cD<|Cn ?_ ?_<;>intro q
  ·have v:oX s i=10:=b9 (B3 (n:=10) E_ q);have t:qK (oX s i)=[92,110]:=by rw[qK,b7 v]
   rw[t]at d;refine O aA<|Y aA<|Y aA<|Y aA<|Y (bM (l:=f) (h:=i) Z U_ Z Z Z X X Z)<|Y (fC Z Z Z X c)<|Y (by exact fC Z Z Z (by show (⟨(lI s i).toArray⟩:B_).size+2<=_;omega) o)<|V aI<|Rd aA<|Y gX<|V aI<|Rd aA<|Y gX<|Da ?_;refine⟨i+1,i+1,lI s i++[92,110],⟨g_ _,e,F_,F_⟩,X,E0⟩
  have n:¬ oX s i=10:=b_ (B3 (n:=10) E_ q);refine S<|aQ (t:=34) (n:=11) (A_:=decide (aY s i=34)||decide (aY s i=92)) ?_ ?_
  ·all_goals refine Y aA<|Y aA<|Y (ky U_)<|Y cD<|Dm ?_<;>(refine Sp 29 (λd_=>?_) λd_=>?_)<;>(first|exact s_|refine M<|M<|M<|M ?_|refine U aA<|U aA<|U (ky U_)<|U cD ?_)<;>refine V cC ?_<;>exact Gj (h:=by simp_all)
  refine Cn ?_ ?_<;>intro j
  ·have v:oX s i=34\/oX s i=92:=by
    rw[Bool.or_eq_true]at j;rcases j with h|h
    ·exact .inl (b9 (B3 (n:=34) E_ h))
    exact .inr (b9 (B3 (n:=92) E_ h))
   have t:qK (oX s i)=[92,oX s i]:=by rw[qK,a8 n,b7 v]
   rw[t]at d;refine O aA<|Y aA<|Y aA<|Y aA<|Y (bM (l:=f) (h:=i) Z U_ Z Z Z X X Z)<|Y (fC Z Z Z X c)<|Y (by exact fC Z Z Z (by show (⟨(lI s i).toArray⟩:B_).size+1<=_;omega) p)<|V aI<|Rd aA<|V aI<|Rd aA<|Y gX<|Da ?_;refine⟨i+1,i,lI s i++[92],⟨le_succ _,e,F_,by rw[d,Nat.add_sub_cancel_left,yK e,append_assoc];rfl⟩,X,E0⟩
  have v:¬ (oX s i=34\/oX s i=92):=by
   rw[q8]at j;rintro(h|h)
   ·exact absurd h (b_ (B3 (n:=34) E_ j.1))
   exact absurd h (b_ (B3 (n:=92) E_ j.2))
  have t:qK (oX s i)=[oX s i]:=by rw[qK,a8 n,a8 v]
  rw[t]at d;have z:(s.data.toList.drop f).take (i+1 - f)=(s.data.toList.drop f).take (i - f)++[oX s i]:=by
   have F:i+1 - f=(i - f)+1:=X
   have D:(s.data.toList.drop f)[i - f]?=some (oX s i):=by
    rw[getElem?_drop,show f+(i - f)=i by omega];have E:=yK e;exact(SP E).1
   rw[F,take_add_one,D];rfl
  refine aB<|Rd aA<|Y gX<|Da ?_;refine⟨i+1,f,w,⟨X,e,by rw[d,j_];omega,by rw[z,<-append_assoc,k,d]⟩,X,E0⟩
 have y:i=s.size:=J_ x
 subst y;have g:=gB s f s.size;have c:(⟨w.toArray⟩:B_)++s.extract f s.size=⟨(lI s s.size).toArray⟩:=by rw[FH,g,k]
 have B:=szW (lI s s.size);have A:=fU s f s.size;have u:(⟨(lI s s.size).toArray⟩:B_)++⟨#[34]⟩=⟨(cW s.data.toList).toArray⟩:=by
  rw[FH,lI,take_of_length_le X,cW];rfl
 exact aP<|O aA<|Y aA<|Y aA<|Y (bM (l:=f) (h:=s.size) Z U_ Z Z Z X X Z)<|Y (fC Z Z Z X c)<|Y (by exact fC Z Z Z (by show (⟨(lI s s.size).toArray⟩:B_).size+1<=_;omega) u)<|V aI<|aC<|Rt<|Qq
abbrev oBx(o:l6):Ob:=bx 6 135 ((bP o).map .pv)
def T5(l:List B_):List (List AV):=l.map λs=>[sv s]
theorem YH(l):(T5 l).length=l.length:=j6 _
theorem lT(H)(l):∀r∈T5 l,∀a∈r,Clo H a:=by intro r c a b;obtain ⟨x,_,rfl⟩:=mem_map.1 c;rw[r6]at b;subst b;simp
instance(H)(l):W_ (H) (T5 l):=⟨lT H l⟩
theorem YI{l}{k:Nat}{s}(h:l[k]?=some s):(T5 l)[k]?=some [sv s]:=by rw[T5,r7,h];rfl
theorem YJ(l)(s):T5 l++[(S_ s).map AV.pv]=T5 (l++[s]):=by rw[T5,T5,map_append];rfl
theorem Gx(l):T5 l=(l.map S_).map (·.map .pv):=by rw[map_map];rfl
theorem fmC{α β:Type}{f g:α->List β}:∀ {l:List _},(∀x∈l,f x=g x)->l.flatMap f=l.flatMap g
 | [],_=>rfl
 |x::l,h=>by rw[List.flatMap_cons,List.flatMap_cons,h x List.mem_cons_self,fmC λy a=>h y (List.mem_cons_of_mem _ a)]
theorem aCt{x}(h:0<=x):aT x=a_ (decDigits x.toNat):=by rw[aT,jX _ h];rfl
theorem O1(x)(H)(a:0<=x)(h1:x<1000000000):RC 222 [iv x] (sv (aT x)) H:=by obtain ⟨u,rfl⟩:=Int.eq_ofNat_of_zero_le a;exact Yz u H X
def wO(o:l6)(e_:List B_)(k:Nat):List B_:=[eF o.kind,o.id]++e_++(o.tags.take k).map iQ
theorem rl{o}{e_}{k}{t}(h:o.tags[k]?=some t):wO o e_ (k+1)=wO o e_ k++[iQ t]:=by rw[wO,take_add_one,h,map_append,<-append_assoc];rfl
theorem FV(a b):cX (a++b)=cX a+cX b:=by rw[cX,cX,cX,map_append,sum_append]
theorem np{o}(d:oF o=true):fD o=if 20000<(D1 o).size then(a6,2)else(D1 o,0):=by
 rw[fD,b7 d];by_cases h:0<o.tags.length/\(jN o.tags).2≠0
 ·have b:=(BW d).2.2.1;rw[b7 h];have a:=h.2;rw[jN,b7 b]at a |-
  split at a
  ·next c =>
   rw[b7 c,b7 _];rw[D1,<-aR];rw[sD,j_];cases e:o.tags with
   |nil=>simp_all
   |cons t l =>
    rw[e]at c;have:=VH t l;have f:=congrArg List.length this;rw[aR]at f;rw[nG,flatMap_cons,j_,j7];rw[j_,nG]at f;omega
  exact absurd Z a
 simp_all
theorem rm(o)(e_):(a_ (bT [32] (bs (wO o e_ o.tags.length)))).data.toList=(eF o.kind).data.toList++32::(o.id.data.toList++e_.flatMap λs=>32::s.data.toList)++nG o.tags:=by rw[cG,wO,take_length,cons_append,cons_append,bs,map_cons,bT];simp only[map_cons,map_append,flatMap_cons,flatMap_append,flatMap_map,nil_append,append_assoc,cons_append];congr 3;congr 1;refine fmC λt _=>?_;rw[MM]
theorem rn{o}{e_}(hM:(eF o.kind).data.toList++32::(o.id.data.toList++e_.flatMap λs=>32::s.data.toList)=lV o):a_ (bT [32] (bs (wO o e_ o.tags.length)))=D1 o:=pq (by
 rw[rm,hM];rfl)
theorem WX:∀(l) (k),(bT [32] (bs (l.take k))).length<=(bT [32] (bs l)).length
 | [],k=>by simp
 |x::l,0=>l7 _
 |x::l,k+1=>by
  rw[List.take_succ_cons,yC,yC,j_,j_,GF,GF];have h1:=nV l k;have h2:(l.take k).length<=l.length:=G_
  omega
theorem zJ(a b:B_):(a++b).size=a.size+b.size:=ByteArray.size_append
theorem CQ(o:l6)(H:aF)(ho:jl o):RC 217 [av (bP o)] (.tup [sv (fD o).1,iv (fD o).2]) H:=by
 refine Pu ?_;have hmt:(o.tags.map bS).length=o.tags.length:=j6 _;have hmr:(o.refs.map S_).length=o.refs.length:=j6 _;refine Bd func217 Z ntmps217<|O (kb 1)<|Y aI<|V aI<|S<|O (by exact aW Z bW sizeOf135 Z Z Z Z (by simp only[Zl,bS,bP,S_,bJ,gP];rfl) Z)<|Y (kc call261 (Hw o _ ho))<|V iI ?_;refine Cn ?_ ?_<;>intro hc1
 ·have N:oF o=false:=by have h:=hc1;rwa [r8]at h
  have e:fD o=(a6,1):=by rw[fD,a8 F_]
  rw[e];exact O aI<|V aI<|aC<|Ru<|Qq
 have N:oF o=true:=by have h:=hc1;rwa [Bool.not_eq_false']at h
 obtain ⟨hr,ht,htg,hid,_⟩:=BW N;obtain ⟨hx,hy,hn,hz⟩:=ir N;have D:=(A3 (GC N)).1;have hws:=dI D;have his:=dI hid;have hT:=np N;have o_:∀t∈o.tags,t.key.size<=24/\t.val.size<=200:=λt ht=>by
  obtain ⟨p1,_,_⟩:=xH.1 htg;have:=p1 t ht;exact⟨dI this.1,this.2.2⟩
 have hTs:∀k,cX ((o.tags.take k).map iQ)<=60*427:=λk=>by
  have h1:∀l:List m7,(∀t∈l,t∈o.tags)->cX (l.map iQ)<=l.length*427:=by
   intro l
   induction l with
   |nil=>intro _;exact l7 _
   |cons t l ih =>
    intro h;rw[List.map_cons,cK,j7,Nat.add_mul];have u_:=ih λx hx=>h x (List.mem_cons_of_mem _ hx);have e_:=o_ t (h t List.mem_cons_self);have h4:=WQ e_.1 e_.2;omega
  have u_:=h1 (o.tags.take k) λt ht=>List.mem_of_mem_take ht;have e_:(o.tags.take k).length<=60:=G_
  have h4:(o.tags.take k).length*427<=60*427:=Nat.mul_le_mul_right _ e_;omega
 refine aB<|S<|aM a7<|Cs (λ_ h=>fh eB h)<|Cs (λ_ h=>lh M_ h)<|Cs (λH1 hH=>by exact bH Z Z call214 Z (FZ o.kind _))<|Cs (λ_ h=>fh qR h)<|Cs (λ_ h=>lh N_ h) ?_;refine iH (r:=⟨_,none,[_]⟩) (DStep.plain Z (λH1 hH=>by exact gN (id:=901) Z bD Z Z Z Z F_ ((hH _ Z).trans Z))) Z ?_;refine Cs (λ_ _=>aI)<|bG<|Kr<|S<|S ?_;refine gG.ent (E':=[(1,.ref 1 0 0 0),(4,.osl 901 0 0 2)]) (H':=[(901,⟨0,1,9,T5 [eF o.kind,o.id]⟩),(1,oBx o)]) (cL.wk (Ea<|Ea<|T_) (Hc (lT _ _)<|Hb<|T_) T_)<|Rd (bA eB)<|Y (bQ M_)<|V cD<|Cn ?_ ?_<;>intro A_
 ·have hk:o.kind=1:=b9 A_;have Yp:(aT o.x).size<=7:=by rw[<-aR];show (Lib.itoa o.x).length<=7;rw[jX _ hx.1];exact cV X E_
  have siy:(aT o.y).size<=7:=by rw[<-aR];show (Lib.itoa o.y).length<=7;rw[jX _ hy.1];exact cV X E_
  have hMs:cX [aT o.x,aT o.y]=(aT o.x).size+((aT o.y).size+0):=by rw[cK,cK];rfl
  have hMl:([aT o.x,aT o.y]:List B_).length=2:=rfl;have Q:(eF o.kind).data.toList++32::(o.id.data.toList++([aT o.x,aT o.y]:List B_).flatMap λs=>32::s.data.toList)=lV o:=by
   rw[lV,b7 hk];simp[aT]
  have hFT:fD o=if 20000<(a_ (bT [32] (bs (wO o [aT o.x,aT o.y] o.tags.length)))).size then(a6,2)else(a_ (bT [32] (bs (wO o [aT o.x,aT o.y] o.tags.length))),0):=by rw[rn Q];exact hT
  refine aM a7<|Cs (λ_ _=>aA)<|Cs (λ_ h=>fh mK h)<|Cs (λ_ h=>fh mM h)<|Cs (λ_ h=>lh M_ h)<|Cs (λH1 hH=>by exact bH Z Z call222 Z (O1 o.x _ X X))<|Cs (λ_ h=>fh mK h)<|Cs (λ_ h=>fh mL h)<|Cs (λ_ h=>lh M_ h)<|Cs (λH1 hH=>by exact bH Z Z call222 Z (O1 o.y _ X X))<|Cs (λH1 hH=>by exact aK [S_ (aT o.x),S_ (aT o.y)] Z bD Z Z Z Z Z (by intro r hr;simp only[l9,q7,or_false]at hr;rcases hr with rfl|rfl<;>rfl)) ?_;refine iH (r:=⟨_,none,[_]⟩) (DStep.plain Z (λH1 hH=>by exact cA (ps:=[S_ (aT o.x),S_ (aT o.y)]) Z bD yJ Z ((hH _ Z).trans Z) Z Z Z Z Z (by intro r hr;simp only[l9,q7,or_false]at hr;rcases hr with rfl|rfl<;>rfl) (m:=2) Z X Z (rfl:_=T5 (wO o [aT o.x,aT o.y] 0)))) Z ?_;refine Cs (λ_ _=>aI)<|bG<|Kr<|S<|Sz aI<|aD ?_;have hMs2:cX ([eF o.kind,o.id]++[aT o.x,aT o.y])<=70000:=by rw[FV];have:cX [eF o.kind,o.id]=(eF o.kind).size+(o.id.size+0):=(by rw[cK,cK];rfl);omega
  have K:∀k,k<=o.tags.length->(wO o [aT o.x,aT o.y] k).length<=64:=λk hk=>by rw[wO,j_,j_,j6,q9];show 2+_+_<=_;omega
  have R:∀k,cX (wO o [aT o.x,aT o.y] k)<=100000:=λk=>by
   rw[wO,FV];have h1:=hTs k;omega
  refine bF (σ:=Nat) (λk=>([(1,.ref 1 0 0 0),(4,.osl 901 (1+k) 0 (wO o [aT o.x,aT o.y] k).length),(7,iv (k:Int))],[(901,⟨1+k,1,9,T5 (wO o [aT o.x,aT o.y] k)⟩),(1,oBx o)])) (λk=>k<=o.tags.length) (λk=>o.tags.length - k) 0 (l7 _) ?_ ?_
  ·exact(cL.wk (Ea<|Ea<|Eb<|T_) (Hc (lT _ _)<|Hb<|T_) T_)
  rintro k hk;have P:=K k hk;refine S<|O aA<|Y (bA gA)<|Y (bQ dF)<|Y (fW dO)<|V cJ<|Cn ?_ ?_<;>intro hc3
  ·have hlt:k<o.tags.length:=I_ hc3
   obtain ⟨t,ht⟩:=aS hlt;have hit:=cE (f:=bS) ht;have hnx:=rl (e_:=[aT o.x,aT o.y]) ht;have L:(wO o [aT o.x,aT o.y] k++[iQ t]).length=(wO o [aT o.x,aT o.y] k).length+1:=by rw[j_];rfl
   obtain ⟨hks,hvs⟩:=o_ t (m8 ht);have hq:=rB t.val;have h61:(⟨#[61]⟩:B_).size=1:=rfl;have hk1:(t.key++(⟨#[61]⟩:B_)).size=t.key.size+1:=zJ _ _;refine aB<|S<|aD<|aM a7<|Cs (λ_ _=>aA)<|Cs (λ_ h=>fh gA h)<|Cs (λ_ h=>lh dF h)<|Cs (λ_ _=>aA)<|Cs (λ_ _=>(iO lK))<|Cs (λ_ _=>(E5 pS))<|Cs (λ_ _=>(fZ N_))<|Cs (λH1 hH=>by exact fC Z Z Z X Z)<|Cs (λ_ h=>fh gA h)<|Cs (λ_ h=>lh dF h)<|Cs (λ_ _=>aA)<|Cs (λ_ _=>(iO lK))<|Cs (λ_ _=>(E5 qP))<|Cs (λ_ _=>(fZ N_))<|Cs (λH1 hH=>by exact bH Z Z call223 Z (LZ t.val _ X))<|Cs (λH1 hH=>by exact fC Z Z Z X Z)<|Cs (λH1 hH=>by exact aK [S_ (iQ t)] Z bD Z Z Z Z Z R_) ?_;refine iH (r:=⟨_,none,[_]⟩) (DStep.plain Z (λH1 hH=>by exact cA (ps:=[S_ (iQ t)]) Z bD yJ Z ((hH _ Z).trans Z) Z Z Z (YH _) Z R_ (m:=1) Z X Z (YJ _ (iQ t)))) Z ?_;refine Cs (λ_ _=>aI)<|bG<|Kr<|Rd aA<|Y gX<|Da ?_;refine⟨k+1,X,X,?_⟩;rw[hnx,L];exact(cL.wk (Ea<|Ea<|Eb<|T_) (Hc (lT _ _)<|Hb<|T_) T_)
  have hge:k=o.tags.length:=J_ hc3
  subst hge;obtain ⟨W,hW⟩:∃W,W=wO o [aT o.x,aT o.y] o.tags.length:=X_;have hWs2:=R o.tags.length;rw[<-hW]at P hWs2 hFT;rw[<-hW];obtain ⟨F,hF⟩:∃F,F=a_ (bT [32] (bs W)):=X_;rw[<-hF]at hFT;refine aP<|Sz aI<|S<|Sz aI<|aD<|bF (σ:=Nat) (λk=>([(4,.osl 901 (1+o.tags.length) 0 W.length),(8,sv (a_ (bT [32] (bs (W.take k))))),(9,iv (k:Int))],[(901,⟨1+o.tags.length,1,9,T5 W⟩)])) (λk=>k<=W.length) (λk=>W.length - k) 0 (l7 _) ?_ ?_
  ·exact(cL.wk (Ea<|Eb<|Eb<|T_) (Hc (lT _ _)<|T_) T_)
  rintro k hk;have hsz:(a_ (bT [32] (bs (W.take k)))).size<=100064:=by
   rw[bZ];have h1:=fT (W.take k);have u_:=nV W k;have e_:(W.take k).length<=W.length:=by rw[q9];exact Nat.min_le_right _ _
   omega
  refine S<|O aA<|Y aA<|Y (by exact dS Z aE Z Z Z)<|V cJ<|Cn ?_ ?_<;>intro z_
  ·have hlt:k<W.length:=I_ z_
   obtain ⟨w,D⟩:=aS hlt;have hiw:=YI D;have hnx:=BP D;have hws:w.size<=100000:=by
    have h1:=xP D;have u_:=nV W (k+1);omega
   have h32:(⟨#[32]⟩:B_).size=1:=rfl;have y_:(a_ (bT [32] (bs (W.take k)))++⟨#[32]⟩).size=(a_ (bT [32] (bs (W.take k)))).size+1:=zJ _ _;refine aB<|S<|aD<|S<|O aA<|V iP<|Cn ?_ ?_<;>intro hc5
   ·have hq:0<k:=I_ hc5
    rw[b7 hq]at hnx;refine Rd aA<|Y kq<|V aI<|Rd aA<|Y aA<|Y aA<|Y (by exact dL Z bD Z Z Z Z Z X (by exact l_ _) hlt (r9 _))<|Y (by exact aX Z N_ Z Z Z hiw Z)<|Y kq<|V aI<|Rd aA<|Y gX<|Da ?_;refine⟨k+1,X,X,?_⟩;rw[hnx];exact(cL.wk (Ea<|Eb<|Eb<|T_) (Hc (lT _ _)<|T_) T_)
   have hq:¬ 0<k:=J_ hc5
   rw[a8 hq]at hnx;refine aB<|Rd aA<|Y aA<|Y aA<|Y (by exact dL Z bD Z Z Z Z Z X (by exact l_ _) hlt (r9 _))<|Y (by exact aX Z N_ Z Z Z hiw Z)<|Y kq<|V aI<|Rd aA<|Y gX<|Da ?_;refine⟨k+1,X,X,?_⟩;rw[hnx];exact(cL.wk (Ea<|Eb<|Eb<|T_) (Hc (lT _ _)<|T_) T_)
  have hge:k=W.length:=J_ z_
  subst hge;rw[List.take_length,<-hF];refine aP<|S<|O aA<|Y (gE U_)<|V iP<|Cn ?_ ?_<;>intro hc6
  ·have hbig:20000<F.size:=I_ hc6
   rw[hFT,b7 hbig];exact O aI<|V aI<|aC<|Ru<|Qq
  have hbig:¬ 20000<F.size:=J_ hc6
  rw[hFT,a8 hbig];exact aB<|O aA<|Y aI<|V aI<|aC<|Ru<|Qq
 have hk:o.kind≠1:=b_ A_;have hsz:cX o.refs<=24*o.refs.length:=pA (λs hs=>dI (tY N s hs));have hjl:=fT o.refs;have hSz:∀k,(a_ (bT [32] (bs (o.refs.take k)))).size<=50000:=λk=>by
  rw[bZ];have:=WX o.refs k;omega
 refine Sz aI<|S<|Sz aI<|aD<|bF (σ:=Nat) (λk=>([(1,.ref 1 0 0 0),(4,.osl 901 0 0 2),(5,sv (a_ (bT [32] (bs (o.refs.take k))))),(6,iv (k:Int))],[(901,⟨0,1,9,T5 [eF o.kind,o.id]⟩),(1,oBx o)])) (λk=>k<=o.refs.length) (λk=>o.refs.length - k) 0 (l7 _) ?_ ?_
 ·exact(cL.wk (Ea<|Ea<|Eb<|Eb<|T_) (Hc (lT _ _)<|Hb<|T_) T_)
 rintro k hkr;have hsk:=hSz k;refine S<|S<|aQ (t:=42) (n:=11) (A_:=decide ((k:Int)<((o.refs.map S_).length:Int))&&decide (((a_ (bT [32] (bs (o.refs.take k)))).size:Int)<=20000)) ?_ ?_
 ·all_goals refine Y aA<|Y (bA eA)<|Y (bQ aG)<|Y (fW aE)<|Y cJ<|Dm ?_<;>(refine Sp 38 (λh38=>?_) λh38=>?_)<;>(first|contradiction|refine M<|M<|M ?_|refine U aA<|U (gE U_)<|U G8 ?_)<;>refine V cC ?_<;>exact Gj (h:=by(rw[h38];rfl))
 refine Cn ?_ ?_<;>intro hc7
 ·have hlt:k<o.refs.length:=by have h:=hc7;rw[k_,j0]at h;omega
  obtain ⟨w,T⟩:=aS hlt;have hiw:=cE (f:=S_) T;have hnx:=BP T;have hwsz:=dI (tY N w (m8 T));have h32:(⟨#[32]⟩:B_).size=1:=rfl;have y_:(a_ (bT [32] (bs (o.refs.take k)))++⟨#[32]⟩).size=(a_ (bT [32] (bs (o.refs.take k)))).size+1:=zJ _ _;refine aB<|S<|aD<|S<|O aA<|V iP<|Cn ?_ ?_<;>intro hc8
  ·have hq:0<k:=I_ hc8
   rw[b7 hq]at hnx;refine Rd aA<|Y kq<|V aI<|Rd aA<|Y (bA eA)<|Y (bQ aG)<|Y aA<|Y (iO bD)<|Y (fZ N_)<|Y kq<|V aI<|Rd aA<|Y gX<|Da ?_;refine⟨k+1,X,X,?_⟩;rw[hnx];exact(cL.wk (Ea<|Ea<|Eb<|Eb<|T_) (Hc (lT _ _)<|Hb<|T_) T_)
  have hq:¬ 0<k:=J_ hc8
  rw[a8 hq]at hnx;refine aB<|Rd aA<|Y (bA eA)<|Y (bQ aG)<|Y aA<|Y (iO bD)<|Y (fZ N_)<|Y kq<|V aI<|Rd aA<|Y gX<|Da ?_;refine⟨k+1,X,X,?_⟩;rw[hnx];exact(cL.wk (Ea<|Ea<|Eb<|Eb<|T_) (Hc (lT _ _)<|Hb<|T_) T_)
 have I:k=o.refs.length\/20000<(a_ (bT [32] (bs (o.refs.take k)))).size:=by have h:=hc7;simp only[Bool.and_eq_false_iff,p_]at h;omega
 obtain ⟨f_,hS⟩:∃f_,f_=a_ (bT [32] (bs (o.refs.take k))):=X_;obtain ⟨B,hB⟩:∃B,B=(⟨#[40]⟩:B_)++f_++⟨#[41]⟩:=X_;rw[<-hS]at hsk I;rw[<-hS];have h40:(⟨#[40]⟩:B_).size=1:=rfl;have h41:(⟨#[41]⟩:B_).size=1:=rfl;have hA:((⟨#[40]⟩:B_)++f_).size=1+f_.size:=zJ _ _;have hBs:B.size=1+f_.size+1:=by rw[hB,zJ,hA];rfl
 have hMs:cX [B]=B.size+0:=by rw[cK];rfl
 have hMl:([B]:List B_).length=1:=rfl;have hFT:fD o=if 20000<(a_ (bT [32] (bs (wO o [B] o.tags.length)))).size then(a6,2)else(a_ (bT [32] (bs (wO o [B] o.tags.length))),0):=by
  by_cases he:k=o.refs.length
  ·have Q:(eF o.kind).data.toList++32::(o.id.data.toList++([B]:List B_).flatMap λs=>32::s.data.toList)=lV o:=by
    rw[lV,a8 hk,hB,hS,he,List.take_length];simp[a_]
   rw[rn Q];exact hT
  have hbig:20000<f_.size:=by rcases I with h|h;exact absurd h he;exact h
  have h1:=congrArg List.length (rm o [B]);rw[aR]at h1;have u_:(D1 o).size=(sD o).length:=by rw[<-aR];rfl
  have e_:=WX o.refs k;have h4:f_.size=(bT [32] (bs (o.refs.take k))).length:=by rw[hS,bZ]
  have h5:(sD o).length>=(bT [32] (bs o.refs)).length:=by
   rw[sD,lV,a8 hk];simp only[j_,j7];omega
  have h6:([B]:List B_).flatMap (λs=>32::s.data.toList)=32::B.data.toList:=H_
  rw[h6]at h1;simp only[j_,j7,aR]at h1;rw[hT,b7 X,b7 X]
 refine aP<|Rd aA<|Y aA<|Y kq<|Y (by exact fC Z Z Z (by omega) hB.symm)<|Y (by exact aK [S_ B] Z bD Z Z Z Z Z R_)<|Y (by exact cA (ps:=[S_ B]) Z bD yJ Z Z Z Z Z Z Z R_ (m:=1) Z (by omega) Z (rfl:_=T5 (wO o [B] 0)))<|V aI<|S<|Sz aI<|aD ?_;have hMs2:cX ([eF o.kind,o.id]++[B])<=70000:=by rw[FV];have:cX [eF o.kind,o.id]=(eF o.kind).size+(o.id.size+0):=(by rw[cK,cK];rfl);omega
 have K:∀k,k<=o.tags.length->(wO o [B] k).length<=64:=λk hk=>by rw[wO,j_,j_,j6,q9];show 2+_+_<=_;omega
 have R:∀k,cX (wO o [B] k)<=100000:=λk=>by
  rw[wO,FV];have h1:=hTs k;omega
 refine bF (σ:=Nat) (λk=>([(1,.ref 1 0 0 0),(4,.osl 901 (1+k) 0 (wO o [B] k).length),(7,iv (k:Int))],[(901,⟨1+k,1,9,T5 (wO o [B] k)⟩),(1,oBx o)])) (λk=>k<=o.tags.length) (λk=>o.tags.length - k) 0 (l7 _) ?_ ?_
 ·exact(cL.wk (Ea<|Ea<|Eb<|T_) (Hc (lT _ _)<|Hb<|T_) T_)
 rintro k hk;have P:=K k hk;refine S<|O aA<|Y (bA gA)<|Y (bQ dF)<|Y (fW dO)<|V cJ<|Cn ?_ ?_<;>intro v_
 ·have hlt:k<o.tags.length:=I_ v_
  obtain ⟨t,ht⟩:=aS hlt;have hit:=cE (f:=bS) ht;have hnx:=rl (e_:=[B]) ht;have L:(wO o [B] k++[iQ t]).length=(wO o [B] k).length+1:=by rw[j_];rfl
  obtain ⟨hks,hvs⟩:=o_ t (m8 ht);have hq:=rB t.val;have h61:(⟨#[61]⟩:B_).size=1:=rfl;have hk1:(t.key++(⟨#[61]⟩:B_)).size=t.key.size+1:=zJ _ _;refine aB<|S<|aD<|aM a7<|Cs (λ_ _=>aA)<|Cs (λ_ h=>fh gA h)<|Cs (λ_ h=>lh dF h)<|Cs (λ_ _=>aA)<|Cs (λ_ _=>(iO lK))<|Cs (λ_ _=>(E5 pS))<|Cs (λ_ _=>(fZ N_))<|Cs (λH1 hH=>by exact fC Z Z Z X Z)<|Cs (λ_ h=>fh gA h)<|Cs (λ_ h=>lh dF h)<|Cs (λ_ _=>aA)<|Cs (λ_ _=>(iO lK))<|Cs (λ_ _=>(E5 qP))<|Cs (λ_ _=>(fZ N_))<|Cs (λH1 hH=>by exact bH Z Z call223 Z (LZ t.val _ X))<|Cs (λH1 hH=>by exact fC Z Z Z X Z)<|Cs (λH1 hH=>by exact aK [S_ (iQ t)] Z bD Z Z Z Z Z R_) ?_;refine iH (r:=⟨_,none,[_]⟩) (DStep.plain Z (λH1 hH=>by exact cA (ps:=[S_ (iQ t)]) Z bD yJ Z ((hH _ Z).trans Z) Z Z Z (YH _) Z R_ (m:=1) Z X Z (YJ _ (iQ t)))) Z ?_;refine Cs (λ_ _=>aI)<|bG<|Kr<|Rd aA<|Y gX<|Da ?_;refine⟨k+1,X,X,?_⟩;rw[hnx,L];exact(cL.wk (Ea<|Ea<|Eb<|T_) (Hc (lT _ _)<|Hb<|T_) T_)
 have hge:k=o.tags.length:=J_ v_
 subst hge;obtain ⟨W,hW⟩:∃W,W=wO o [B] o.tags.length:=X_;have hWs2:=R o.tags.length;rw[<-hW]at P hWs2 hFT;rw[<-hW];obtain ⟨F,hF⟩:∃F,F=a_ (bT [32] (bs W)):=X_;rw[<-hF]at hFT;refine aP<|Sz aI<|S<|Sz aI<|aD<|bF (σ:=Nat) (λk=>([(4,.osl 901 (1+o.tags.length) 0 W.length),(8,sv (a_ (bT [32] (bs (W.take k))))),(9,iv (k:Int))],[(901,⟨1+o.tags.length,1,9,T5 W⟩)])) (λk=>k<=W.length) (λk=>W.length - k) 0 (l7 _) ?_ ?_
 ·exact(cL.wk (Ea<|Eb<|Eb<|T_) (Hc (lT _ _)<|T_) T_)
 rintro k hk;have hsz:(a_ (bT [32] (bs (W.take k)))).size<=100064:=by
  rw[bZ];have h1:=fT (W.take k);have u_:=nV W k;have e_:(W.take k).length<=W.length:=by rw[q9];exact Nat.min_le_right _ _
  omega
 refine S<|O aA<|Y aA<|Y (by exact dS Z aE Z Z Z)<|V cJ<|Cn ?_ ?_<;>intro c_
 ·have hlt:k<W.length:=I_ c_
  obtain ⟨w,D⟩:=aS hlt;have hiw:=YI D;have hnx:=BP D;have hws:w.size<=100000:=by
   have h1:=xP D;have u_:=nV W (k+1);omega
  have h32:(⟨#[32]⟩:B_).size=1:=rfl;have y_:(a_ (bT [32] (bs (W.take k)))++⟨#[32]⟩).size=(a_ (bT [32] (bs (W.take k)))).size+1:=zJ _ _;refine aB<|S<|aD<|S<|O aA<|V iP<|Cn ?_ ?_<;>intro E
  ·have hq:0<k:=I_ E
   rw[b7 hq]at hnx;refine Rd aA<|Y kq<|V aI<|Rd aA<|Y aA<|Y aA<|Y (by exact dL Z bD Z Z Z Z Z X (by exact l_ _) hlt (r9 _))<|Y (by exact aX Z N_ Z Z Z hiw Z)<|Y kq<|V aI<|Rd aA<|Y gX<|Da ?_;refine⟨k+1,X,X,?_⟩;rw[hnx];exact(cL.wk (Ea<|Eb<|Eb<|T_) (Hc (lT _ _)<|T_) T_)
  have hq:¬ 0<k:=J_ E
  rw[a8 hq]at hnx;refine aB<|Rd aA<|Y aA<|Y aA<|Y (by exact dL Z bD Z Z Z Z Z X (by exact l_ _) hlt (r9 _))<|Y (by exact aX Z N_ Z Z Z hiw Z)<|Y kq<|V aI<|Rd aA<|Y gX<|Da ?_;refine⟨k+1,X,X,?_⟩;rw[hnx];exact(cL.wk (Ea<|Eb<|Eb<|T_) (Hc (lT _ _)<|T_) T_)
 have hge:k=W.length:=J_ c_
 subst hge;rw[List.take_length,<-hF];refine aP<|S<|O aA<|Y (gE U_)<|V iP<|Cn ?_ ?_<;>intro G
 ·have hbig:20000<F.size:=I_ G
  rw[hFT,b7 hbig];exact O aI<|V aI<|aC<|Ru<|Qq
 have hbig:¬ 20000<F.size:=J_ G
 rw[hFT,a8 hbig];exact aB<|O aA<|Y aI<|V aI<|aC<|Ru<|Qq
end Go.Proofs.YtopnleflllkbmaaGreatDoor
