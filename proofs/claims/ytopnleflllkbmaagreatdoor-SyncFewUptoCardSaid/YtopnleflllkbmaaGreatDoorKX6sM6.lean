/-
  Parts of the proof. Conditions: each theorem's own.
-/
import Derived.Test.YtopnleflllkbmaaGreatDoorKX6sM5
set_option linter.unusedVariables false
set_option linter.unusedSimpArgs false
set_option maxRecDepth 100000
set_option maxHeartbeats 8000000
open List Nat
open List renaming length->C
open Option renaming some->A,none->ζ
open Bool renaming true->T,false->η
open ByteArray renaming size->N,data->μ
open Array renaming toList->ν
open Decidable renaming decide->θ
open Go.IntKind renaming i64->ξ
open Go.Proofs.Tryz renaming prog->φ
open Go.Proofs.YtopnleflllkbmaaGreatDoor
namespace Go.Proofs
open Tryz
theorem gW:type_of% call84:=call84
theorem jQ:type_of% call99:=call99
theorem eD:type_of% isAgg125:=isAgg125
end Go.Proofs
namespace Go.Proofs.C
open Go.Proofs.Tryz
open Go.Abs
variable{α:Type}{i:Nat}
abbrev nxB:AV:=.bnd 98 [SJ]
def Dy(l:List UInt8):Option (AV×List UInt8):=(DH pF l).map λp=>(.pv (aK p.1),p.2)
theorem jj(f){r4 k}{q b}{B:List α}(E:C B=k)(D:k<r4)(h:HK f r4 q=(HK f (r4 - k) b).map λp=>(B++p.1,p.2)):
  HK f r4 q=match f b with
   |none=>ζ
   |some (x,r)=>(HK f (r4 - (k+1)) r).map λp=>((B++[x])++p.1,p.2):=by
 rw[h,show r4 - k=(r4 - (k+1))+1 by omega,HK]
 grind
theorem Np{l}(h:xW l=ζ):Dy l=ζ:=by rw[Dy,DH,h];rfl
theorem No{l q}{n}(h:xW l=A (n,q)):Dy l=(HK pF n.toNat q).map λp=>(.pv (aK p.1),p.2):=by rw[Dy,DH,h]
theorem ca(l:List UInt8)(D:C l<1000000000):ER 100 [SJ,nxB] [] l (Dy l):=by
 refine ER.of (C2 l) Z m3 ?_;have g:=oP l D;have e:=Np (l:=l);have f:=λn q=>No (l:=l) (n:=n) (q:=q);have i:=λn q=>kS (l:=l) (x:=n) (q:=q);rw[FG]at g;generalize xW l=I at g e f i;refine fY.body func100 Z ntmps100 (r_ Z)<|Sz aH<|S ?_;rcases I with _|⟨n,j⟩
 .rw[e rfl];have w:ER 99 [SJ] [] l ζ:=g;refine gZ<|iZ Z Z Z (iA Z Z) ?_;exact qY Z Z (eS Z Z jQ Z (w.no Z (gJ _))) (λJ E h=>by obtain ⟨rfl,q,rfl⟩:=h;exact F8 (H':=nN q) P_ ⟨Z,Z,q,Z⟩)
 have w:ER 99 [SJ] [] l (A (iv n,j)):=g;have ⟨H,F,G⟩:=i n j Z;rw[f n j rfl];refine Rd aA<|Y (kc jQ (w.yes Z (gJ _)))<|V aH<|Sz (dZ (id:=905) (sz:=1) (ty:=9) Z Z Z)<|S<|U aA<|V aA<|aE<|eZ (λ(d:List UInt8) (B:List B_)=>([(0,SJ),(1,nxB),(6,.osl 905 (C B) 0 (C B)),(9,iv n),(10,iv (C B:Int))],(905,⟨C B,1,9,bZ B⟩)::nN d)) (λd B=>C d+C B<C l/\C B<=n.toNat/\HK pF n.toNat j=(HK pF (n.toNat - C B) d).map λp=>(B++p.1,p.2)) (λd B=>C d) j [] ⟨X,l7 _,H_⟩ ?_ ?_
 .exact L_
 rintro d B ⟨hl',hA,y⟩;have b:=AU d X;have k:=λs q=>lO (l:=d) (s:=s) (q:=q);have c:=λh=>jj pF (k:=C B) Z h y;rw[LC]at b;generalize pF d=A_ at b k c;refine Sz cI<|S<|Cn ?_ ?_<;>intro o
 .have t:C B<n.toNat:=I_ o
  have m:=c t;clear c;refine aB<|S<|aE ?_;rcases A_ with _|⟨s,q⟩
  .have m:HK pF n.toNat j=ζ:=m;rw[m];have b:ER 98 [SJ] [] d ζ:=b;refine gZ<|iZ Z Z Z (iA Z Z)<|iZ Z Z Z (iA Z Z) ?_;exact qY Z Z (HT Z Z nQ Z (b.no Z (gJ _))) (λJ E h=>by obtain ⟨rfl,q,rfl⟩:=h;exact F8 (H':=nN q) P_ ⟨Z,Z,q,Z⟩)
  have m:HK pF n.toNat j=(HK pF (n.toNat - (C B+1)) q).map λp=>((B++[s])++p.1,p.2):=m;have b:ER 98 [SJ] [] d (A (sv s,q)):=b;have k:=k s q Z;have u:C (B++[s])=C B+1:=F_
  refine Rd aA<|Y aA<|Y (by exact EP.opr (HT Z Z nQ Z (fY.of (b.yes Z (gJ _)))))<|Y (by exact aL [[.str s]] Z aY Z Z Z Z Z F_)<|Y (by exact bW (ps:=[[.str s]]) Z aY sW Z Z Z Z Z (dI _) Z F_ (m:=1) Z X Z (gT B s))<|V aH<|Rd kp<|V aA ?_;refine⟨q,B++[s],⟨X,X,F_⟩,X,?_⟩;dsimp only;rw[u];exact(cH.wk (Ea<|Ea<|Ea<|Eb<|Eb<|T_) (Hc (aN _ _)<|Hb<|T_) ⟨Z,T_⟩)
 have r:n.toNat=C B:=J_ o
 have v:HK pF n.toNat j=A (B,d):=by rw[y,r,Nat.sub_self,HK];simp
 rw[v];refine aP<|U aA<|V aH<|aC ?_;refine OC ?_;refine cT (H':=(nN d)) (.inr Z) Z (aI Z) (Fin.fz (id:=905) (ob:=⟨C B,1,9,bZ B⟩) (r':=.pv (aK B)) (B.map S_) Z (dA _) (.osl (fR S_ _)) Z ⟨⟨_,Z,Z⟩,m5,T_⟩ ⟨Z,T_⟩) ?_
 simp_all
theorem bu{α:Type}(f)(P:α->Prop)(b)(c:∀l x q,C l<=b->f l=A (x,q)->C q<C l/\P x):∀(n) (l) (xs) (q),C l<=b->HK f n l=A (xs,q)->C q+C xs<=C l/\∀x∈xs,P x
 |0,l,xs,q,_,h=>by rw[HK]at h;simp_all
 | n+1,l,xs,q,d,h=>by
  rw[HK]at h;cases a:f l with
  |none=>simp_all
  | some p =>
   obtain ⟨x,r⟩:=p;have ⟨B,D⟩:=c l x r d a;rw[a]at h;cases e:HK f n r with
   |none=>simp_all
   |some p2 =>
    have ⟨E,k2⟩:=bu f P b c n r _ _ X e
    grind
theorem AC{l q}{xs}(h:DH pF l=A (xs,q)):C q+C xs<C l/\∀x∈xs,N x<=C l:=by
 rw[DH]at h;cases b:xW l with
 |none=>simp_all
 |some p =>
  have ⟨n,r⟩:=p;rw[b]at h;have B:=(kS b).1;have ⟨E,c⟩:=bu _ (λx=>N x<=C r) _ (λl x q D a=>by have:=lO a;exact⟨X,X⟩) _ r _ q (h_ _) h;exact⟨X,λx a=>Nat.le_trans (c x a) X⟩
theorem xm{l q}{p}(h:SU l=A (p,q)):C q<C l/\(qP p.1/\qP p.2):=by
 rw[SU]at h;cases b:xW l with
 |none=>simp_all
 | some z =>
  have ⟨x,r⟩:=z;rw[b]at h;simp at h;cases a:xW r with
  |none=>simp_all
  |some B =>
   rw[a]at h;cases h;have d:=kS b;have c:=kS a;exact⟨X,d.2,c.2⟩
theorem yf{l q}{xs}(h:DH SU l=A (xs,q)):C q+C xs<C l/\∀x∈xs,qP x.1/\qP x.2:=by
 rw[DH]at h;cases a:xW l with
 |none=>simp_all
 |some p =>
  have ⟨n,r⟩:=p;rw[a]at h;have B:=(kS a).1;have ⟨E,c⟩:=bu _ _ _ (λl x q D b=>xm b) _ r _ q (h_ _) h;exact⟨X,c⟩
def Up(l:List UInt8):Option (AV×List UInt8):=(Bw l).map λp=>(av (lQ p.1),p.2)
theorem wj(l:List UInt8)(B:C l<1000000000):ER 102 [SJ] [] l (Up l):=by
 refine ER.of (C2 l) Z m3 ?_;have g:=oP l B;have u:=λq (E:C q<1000000000)=>ca q E;have z:Up l=(match xW l with
  |none=>ζ
  | some (i,r)=>match DH pF r with
   |none=>ζ
   |some (a,q)=>match DH pF q with
    |none=>ζ
    |some (b,p)=>A (.agg [iv i,.pv (aK a),.pv (aK b)],p)):=by
  rw[Up,Bw];cases xW l with
  |none=>rfl
  | some p =>
   have ⟨i,r⟩:=p;simp only;cases DH pF r with
   |none=>rfl
   |some p =>
    have ⟨a,q⟩:=p;simp only;cases DH pF q with
    |none=>rfl
    |some p=>rfl
 rw[z];rw[FG]at g;have j:=λn q=>kS (l:=l) (x:=n) (q:=q);generalize xW l=D at g j |-;clear z;refine fY.body func102 Z ntmps102 (r_ Z)<|Sz (kl 2 eg)<|S ?_;rcases D with _|⟨i,s⟩
 .have t:ER 99 [SJ] [] l ζ:=g;refine gZ<|iZ Z Z Z (iA Z Z) ?_;exact qY Z Z (eS Z Z jQ Z (t.no Z (gJ _))) (λw x h=>by obtain ⟨rfl,q,rfl⟩:=h;exact F8 (H':=nN q) P_ ⟨Z,Z,q,Z⟩)
 have t:ER 99 [SJ] [] l (A (iv i,s)):=g;have F:=(j i s Z).1;have d:=u s X;rw[Dy]at d;have f:=λv q=>AC (l:=s) (xs:=v) (q:=q);simp only;generalize DH pF s=D at d f |-;rcases D with _|⟨a,m⟩
 .have d:ER 100 [SJ,nxB] [] s ζ:=d;refine gZ<|iZ Z Z Z (iA Z Z)<|iZ Z Z Z (kc jQ (t.yes Z (gJ _)))<|iZ Z Z Z (iA Z Z)<|iZ Z Z Z (iA Z Z)<|iZ Z Z Z (pR Z Z) ?_;exact qY Z Z (eS Z Z call100 Z (d.no Z (gJ _))) (λw x h=>by obtain ⟨rfl,q,rfl⟩:=h;exact F8 (H':=nN q) P_ ⟨Z,Z,q,Z⟩)
 have d:ER 100 [SJ,nxB] [] s (A (.pv (aK a),m)):=d;have G:=(f a m Z).1;have e:=u m X;rw[Dy]at e;have o:=λv q=>AC (l:=m) (xs:=v) (q:=q);simp only;generalize DH pF m=D at e o |-;rcases D with _|⟨b,y⟩
 .have e:ER 100 [SJ,nxB] [] m ζ:=e;refine gZ<|iZ Z Z Z (iA Z Z)<|iZ Z Z Z (kc jQ (t.yes Z (gJ _)))<|iZ Z Z Z (iA Z Z)<|iZ Z Z Z (iA Z Z)<|iZ Z Z Z (pR Z Z)<|iZ Z Z Z (kc call100 (d.yes Z (gJ _)))<|iZ Z Z Z (iA Z Z)<|iZ Z Z Z (iA Z Z)<|iZ Z Z Z (pR Z Z) ?_;exact qY Z Z (eS Z Z call100 Z (e.no Z (gJ _))) (λw x h=>by obtain ⟨rfl,q,rfl⟩:=h;exact F8 (H':=nN q) P_ ⟨Z,Z,q,Z⟩)
 have e:ER 100 [SJ,nxB] [] m (some (.pv (aK b),y)):=e;refine Rd aA<|Y (kc jQ (t.yes Z (gJ _)))<|Y aA<|Y aA<|Y (by exact pR Z Z)<|Y (kc call100 (d.yes Z (gJ _)))<|Y aA<|Y aA<|Y (by exact pR Z Z)<|Y (kc call100 (e.yes Z (gJ _)))<|Y (oD Zk)<|Uu (jG sizeOf48)<|Zz<|aC ?_;refine OC ?_;refine cT (H':=(nN y)) (.inr Z) Z (fG Z hU sizeOf48 Z Z Z u0 Z) (Fin.wk (by simp[U7]) (Hb<|T_) ⟨Z,T_⟩) ?_;exact⟨_,Z,Z,Z⟩
abbrev inO:Ob:=bx 1 125 [SJ]
abbrev Om:aF:=[(4,inO)]
theorem yu{H}(h:(H.get 980).isSome=T):∀r∈inO.rows,∀a∈r,Clo H a:=F_
theorem TY(l):dN (nN l++Om):=dN.ofL ⟨Z7 l _,yu Z,T_⟩
def Vx(l:List UInt8):Option (AV×List UInt8):=(SU l).map λp=>(av (kN p.1),p.2)
theorem Ma(l:List UInt8)(r4:C l<1000000000):ER 104 [.ref 4 0 0 0] Om l (Vx l):=by
 refine ER.of (TY l) Z m3 ?_;have D:=oP l r4;have u:=λq (R:C q<1000000000)=>oP q R;have P:=λn q=>kS (l:=l) (x:=n) (q:=q);have K:Vx l=(match xW l with
  |none=>ζ
  |some (x,r)=>match xW r with
   |none=>ζ
   |some (y,q)=>A (.agg [iv x,iv y],q)):=by
  rw[Vx,SU];cases xW l with
  |none=>rfl
  |some p =>
   have ⟨i,r⟩:=p;simp only;cases xW r with
   |none=>rfl
   |some p=>rfl
 have ⟨x,c,H⟩:∃x c,(xW l).getD (0,l)=(x,c):=⟨_,_,Z⟩;have ⟨y,m,I⟩:∃y m,(xW c).getD (0,c)=(y,m):=⟨_,_,Z⟩;have W:C c<=C l:=by
  grind
 have a:(FG l).getD (iv 0,l)=(iv x,c):=by
  rw[FG]
  grind
 have w:(FG c).getD (iv 0,c)=(iv y,m):=by
  rw[FG]
  grind
 have s:FG l=ζ->Vx l=ζ:=λe=>by
  grind
 have o:(FG l).isSome=T->FG c=ζ->Vx l=ζ:=λe g=>by
  rw[FG,Option.map_eq_none_iff]at g
  grind
 have z:(FG l).isSome=T->(FG c).isSome=T->Vx l=A (.agg [iv x,iv y],m):=λe g=>by
  cases k:xW l with
  |none=>rw[FG,k]at e;cases e
  |some p =>
   rw[k]at H;cases H;rw[K,k];simp only;cases F:xW c with
   |none=>rw[FG,F]at g;cases g
   |some p=>rw[F]at I;cases I;rfl
 have Q:FG c=ζ->Vx l=ζ:=λe=>by
  cases h:FG l with
  |none=>exact s h
  |some p=>exact o (by rw[h];rfl) e
 clear K o;refine fY.body func104 Z ntmps104 (r_ Z)<|Sz (kl 1 Hr)<|S<|zE (λv j G=>Vx l=none/\v=I6/\∃q,G=nN q++j) [] [] [4] Z a7 (λv E1 j G hts hsh B ⟨e,g,q,k⟩=>by subst k;have J:aF.get (nN q++j) 4=some inO:=(B 4 (q9.2 Z)).trans Z;exact F8 (H':=nN q++Om) (Fin.wk H_ ⟨⟨_,Z,Z⟩,Z7 _ _,⟨_,J,Z⟩,yu Z,T_⟩ ⟨Z,J.symm,T_⟩) ⟨e,g,q,Z⟩) ?_;refine Pr [4] (λ_ h=>lh eD h)<|wA (r:=⟨_,some [980],nN c⟩) (.pan Z (λj f=>by exact eS Z Z jQ Z ((D.tot a ((f 980 Z).trans Z) (gJ _)).mono (λ_ _ h=>h) (λv L ⟨e,g,k⟩=>⟨s e,g,k⟩)))) Z ?_;refine Pr [4] (λ_ h=>lh eD h)<|wA (r:=⟨_,some [980],nN m⟩) (.pan Z (λj f=>by exact eS Z Z jQ Z (((u c X).tot w ((f 980 Z).trans Z) (gJ _)).mono (λ_ _ h=>h) (λv L ⟨e,g,k⟩=>⟨Q e,g,k⟩)))) Z ?_;refine Pr [] (λj f=>by exact PS Z MC Z Z)<|Pw [1] (λ_ h=>sa sizeOf104 h) ?_;refine LY ⟨⟨by kernel_rfl,by kernel_rfl,by kernel_rfl⟩,λE=>?_⟩;simp only[dv,true_and,and_true]at E;refine aC ?_;refine OC ?_;refine cT (H':=(nN m++Om)) (.inr Z) Z (fG Z eL sizeOf104 Z Z Z u0 Z) (Fin.wk (by simp[U7]) (Hb<|Ha<|T_) ⟨Z,Z,T_⟩) ?_;exact⟨_,z E.1 E.2,Z,Z⟩
abbrev ptB:AV:=.clo 104 [.ref 4 0 0 0]
def wH(B:List (Int×Int)):List (List AV):=(B.map kN).map (·.map AV.pv)
theorem SR(B):C (wH B)=C B:=by simp[wH]
theorem SS(B)(p):wH B++[(kN p).map AV.pv]=wH (B++[p]):=by rw[wH,wH,map_append,map_append];rfl
theorem C5(B)(H):∀r∈wH B,∀a∈r,Clo H a:=cy _ _ _
instance(B)(H):W_ (H) (wH B):=⟨C5 B H⟩
def jm(l:List UInt8):Option (AV×List UInt8):=(DH SU l).map λp=>(.pv (yD p.1),p.2)
theorem Dx{l}(h:xW l=ζ):jm l=ζ:=by rw[jm,DH,h];rfl
theorem Dw{l q}{n}(h:xW l=A (n,q)):jm l=(HK SU n.toNat q).map λp=>(.pv (yD p.1),p.2):=by rw[jm,DH,h]
theorem Xp(l:List UInt8)(F:C l<1000000000):ER 103 [SJ,ptB] Om l (jm l):=by
 refine ER.of (TY l) Z (by simp;exact⟨Z,Z⟩) ?_;have g:=oP l F;have e:=Dx (l:=l);have f:=λn q=>Dw (l:=l) (n:=n) (q:=q);have i:=λn q=>kS (l:=l) (x:=n) (q:=q);rw[FG]at g;generalize xW l=J at g e f i;refine fY.body func103 Z ntmps103 (r_ Z)<|Sz aH<|S ?_;rcases J with _|⟨n,j⟩
 .rw[e rfl];have y:ER 99 [SJ] [] l ζ:=g;refine gZ<|iZ Z Z Z (iA Z Z) ?_;exact qY Z Z (eS Z Z jQ Z (y.no Z (gJ _))) (λE G h=>by obtain ⟨rfl,q,rfl⟩:=h;exact F8 (H':=nN q++Om) P_ ⟨Z,Z,q,Z⟩)
 have y:ER 99 [SJ] [] l (A (iv n,j)):=g;have ⟨I,E,H⟩:=i n j Z;rw[f n j rfl];refine Rd aA<|Y (kc jQ (y.yes Z (gJ _)))<|V aH<|Sz (dZ (id:=905) (sz:=2) (ty:=104) Z Z Z)<|S<|U aA<|V aA<|aE<|eZ (λ(d:List UInt8) (B:List (Int×Int))=>([(0,SJ),(1,ptB),(6,.osl 905 (C B) 0 (C B)),(9,iv n),(10,iv (C B:Int))],(905,⟨C B,2,104,wH B⟩)::(nN d++Om))) (λd B=>C d+C B<C l/\C B<=n.toNat/\HK SU n.toNat j=(HK SU (n.toNat - C B) d).map λp=>(B++p.1,p.2)) (λd B=>C d) j [] ⟨X,l7 _,H_⟩ ?_ ?_
 .exact L_
 rintro d B ⟨hl',hA,D⟩;have b:=Ma d X;have k:=λs q=>xm (l:=d) (p:=s) (q:=q);have c:=λh=>jj SU (k:=C B) Z h D;rw[Vx]at b;generalize SU d=A_ at b k c;refine Sz cI<|S<|Cn ?_ ?_<;>intro m
 .have x:C B<n.toNat:=I_ m
  have o:=c x;clear c;refine aB<|S<|aE ?_;rcases A_ with _|⟨s,q⟩
  .have o:HK SU n.toNat j=ζ:=o;rw[o];have b:ER 104 [.ref 4 0 0 0] Om d ζ:=b;refine gZ<|iZ Z Z Z (iA Z Z)<|iZ Z Z Z (iA Z Z) ?_;exact qY Z Z (HS Z Z call104 Z (b.no Z (EX.sub ⟨Z,T_⟩))) (λE G h=>by obtain ⟨rfl,q,rfl⟩:=h;exact F8 (H':=nN q++Om) P_ ⟨Z,Z,q,Z⟩)
  have o:HK SU n.toNat j=(HK SU (n.toNat - (C B+1)) q).map λp=>((B++[s])++p.1,p.2):=o;have b:ER 104 [.ref 4 0 0 0] Om d (A (av (kN s),q)):=b;have k:=k s q Z;have z:C (B++[s])=C B+1:=F_
  refine Rd aA<|Y aA<|Y (by exact EP.opr (HS Z Z call104 Z (fY.of (b.yes Z (EX.sub ⟨Z,T_⟩)))))<|Y (by exact aL [kN s] Z VM Z Z Z Z Z R_)<|Y (by exact bW (ps:=[kN s]) Z VM aA0 Z Z Z Z Z (SR _) Z R_ (m:=1) Z X Z (SS B s))<|V aH<|Rd kp<|V aA ?_;refine⟨q,B++[s],⟨X,X,F_⟩,X,?_⟩;dsimp only;rw[z];exact(cH.wk (Ea<|Ea<|Ea<|Eb<|Eb<|T_) (Hc (C5 _ _)<|Hb<|Ha<|T_) ⟨Z,Z,T_⟩)
 have w:n.toNat=C B:=J_ m
 have u:HK SU n.toNat j=A (B,d):=by rw[D,w,Nat.sub_self,HK];simp
 rw[u];refine aP<|U aA<|V aH<|aC ?_;refine OC ?_;refine cT (H':=(nN d++Om)) (.inr Z) Z (aI Z) (Fin.fz (id:=905) (ob:=⟨C B,2,104,wH B⟩) (r':=.pv (yD B)) (B.map kN) Z Z (.osl (fR kN _)) Z ⟨⟨_,Z,Z⟩,m5,⟨_,Z,Z⟩,w8,T_⟩ ⟨Z,Z,T_⟩) ?_
 simp_all
def KC(h i:Int):Bool:=((θ (h<0)||θ (8<h))||θ (i<0))||θ (((2 ^ h.toNat:Nat):Int)<=i)
def zS:q6:=⟨0,[],[]⟩
def P6(s:B_)(h i:Int)(m:B_):q6×Int:=if KC h i=T then(zS,1)else(⟨i,pg s i.toNat m,yG h.toNat (yL s h.toNat) i.toNat⟩,0)
theorem By(s m:B_)(h i:Int)(H:aF)(j:KC h i=T):RC 119 [sv s,iv h,iv i,sv m] (.tup [av (lQ zS),iv 1]) H:=by
 refine Pu ?_;have e:θ (h<0)=η->θ (8<h)=η->ξ.wrap (1*2 ^ h.toNat)=((2 ^ h.toNat:Nat):Int):=λg f=>by
  have g:=b_ g;have f:=b_ f;obtain ⟨n,rfl⟩:∃n:Nat,h=(n:Int):=⟨h.toNat,X⟩;rw[l_];have:=aBD (h:=n) X
  rwa [l_]at this
 have B:KC h i=(((θ (h<0)||θ (8<h))||θ (i<0))||θ (((2 ^ h.toNat:Nat):Int)<=i)):=rfl;refine Bd func119 Z ntmps119<|U (kb 4)<|Y (kb 6)<|Y (kl 8 eg)<|V aH<|S<|S<|pX (t:=30) (n:=16) (A_:=KC h i) ?_ ?_
 .cases b:(θ (h<0):Bool)
  .cases c:(θ (8<h):Bool)
   .cases hg25:(θ (i<0):Bool)
    .refine aM a7<|Cq aA<|Cq cI<|Cq aA<|Nf aA<|Nf iX<|Cq sQ<|Cq aA<|Nf (bQ M_)<|Nf cI<|Cq sQ<|Cq aA<|Nf (bQ M_)<|Nf aA<|Nf (by exact QG Z Z Z (J_ b) (by have:=b_ c;simp[IntKind.bits];omega) (e b c))<|Nf AF<|Cq sQ<|bG<|Kr ?_;exact⟨Z,⟨_,Z,F_⟩,Z,Z,Z⟩
    refine aM a7<|Cq aA<|Cq cI<|Cq aA<|Nf aA<|Nf iX<|Cq sQ<|Cq aA<|Nf (bQ M_)<|Nf cI<|Cq sQ<|Cq aA<|Of<|Of<|Of<|Of<|Cq C6<|bG<|Kr ?_;exact⟨Z,⟨_,Z,F_⟩,Z,Z,Z⟩
   refine aM a7<|Cq aA<|Cq cI<|Cq aA<|Nf aA<|Nf iX<|Cq sQ<|Cq aA<|Of<|Of<|Cq C6<|Cq aA<|Of<|Of<|Of<|Of<|Cq cD<|bG<|Kr ?_;exact⟨Z,⟨_,Z,F_⟩,Z,Z,Z⟩
  refine aM a7<|Cq aA<|Cq cI<|Cq aA<|Of<|Of<|Cq C6<|Cq aA<|Of<|Of<|Cq cD<|Cq aA<|Of<|Of<|Of<|Of<|Cq cD<|bG<|Kr ?_;exact⟨Z,⟨_,Z,F_⟩,Z,Z,Z⟩
 refine Cn ?_ ?_<;>intro d
 .refine U (oD Zk)<|Uu (jG sizeOf48)<|V aH<|aC<|gD (H':=[]) (.inr Z) Z (fG Z hU sizeOf48 Z Z Z u0 Z) (aI Z) P_ ?_;exact Qq
 rw[j]at d;cases d
theorem W3(s m)(h i)(H)(c:N s<2^40)(b:N m<2^40):RC 119 [sv s,iv h,iv i,sv m] (.tup [av (lQ (P6 s h i m).1),iv (P6 s h i m).2]) H:=by
 rw[P6];by_cases a:KC h i=T
 .rw[b6 a];exact By s m h i H a
 rw[a8 a];have a:KC h i=η:=F_
 simp only[KC,q_,q7]at a;have ⟨⟨⟨B,D⟩,E⟩,d⟩:=a;obtain ⟨n,rfl⟩:∃n:Nat,h=n:=⟨h.toNat,X⟩;obtain ⟨k,rfl⟩:∃k:Nat,i=k:=⟨i.toNat,X⟩;rw[l_]at d |-;exact Uq s m n k H c b X X
theorem ph{s m}{h i}(a:(P6 s h i m).2=0):FSeal (P6 s h i m).1/\(P6 s h i m).1=⟨i,pg s i.toNat m,yG h.toNat (yL s h.toNat) i.toNat⟩/\(0<=h/\h<=8)/\0<=i/\i<2 ^ h.toNat:=by
 rw[P6]at a |-
 split at a
 .cases a
 next c =>
 rw[a8 c];have c:KC h i=η:=F_
 simp only[KC,q_,q7]at c;have d:i<2 ^ h.toNat:=by
  simp_all
 have b:i.toNat<2 ^ h.toNat:=X
 have B:2 ^ h.toNat<=256:=GQ X;exact⟨⟨F_,G_,by rw[Js];omega,by rw[XK];omega,Jt _ _ _,XL _ _ _ (X7 _ _) b (X8 _ _)⟩,Z,⟨X,X⟩,X,d⟩
def zR:j_:=⟨0,0,0,0,a6,[],[],a6,η,0,a6,zS,⟨a6,a6,[],[],zS⟩⟩
def OR(r:j_):j_:={r with sl:=zS,priv:={r.priv with sl:=zS}}
def HZ(r:j_):j_×Int:=if(mS r).2≠0 then(zR,(mS r).2)else(r,0)
def mk1(r:j_)(a:q6):j_:={r with sl:=a,priv:={r.priv with sl:=zS}}
def Ni(r:j_)(a b:q6):j_:={r with sl:=a,priv:={r.priv with sl:=b}}
def OS(r:j_)(s:B_)(h:Int):j_×Int :=if iE (OR r)=η then(zR,1)
 else if(P6 s h (2*r.number - 2) (JB (OR r))).2≠0 then(zR,(P6 s h (2*r.number - 2) (JB (OR r))).2)
 else if uX r.priv=T then HZ (mk1 r (P6 s h (2*r.number - 2) (JB (OR r))).1)
 else if(P6 s h (2*r.number - 1) (bp (OR r))).2≠0 then(zR,(P6 s h (2*r.number - 1) (bp (OR r))).2)
 else HZ (Ni r (P6 s h (2*r.number - 2) (JB (OR r))).1 (P6 s h (2*r.number - 1) (bp (OR r))).1)
theorem ba{s}(h:FSeal s):yJ s:=by have B:=h.i0;have D:=h.i1;have l1:=h.sl;have l2:=h.pl;exact⟨⟨X,X⟩,⟨X,λt a=>by have:=DK (h.sa t a);omega⟩,⟨X,λt a=>by have:=DK (h.pa t a);omega⟩⟩
theorem okZ:yJ zS:=ba (lI E_)
theorem Mv{r}{a b}(h:mT r)(g:yJ a)(l:yJ b):mT (Ni r a b):=by have ⟨k,j,d,i,_,m,f,e,c,_⟩:=h;exact⟨k,j,d,i,g,m,f,e,c,l⟩
theorem aBu(r:j_)(s:B_)(h:Int)(l:mT r)(F:C r.parents<549755813888)(x:N s<2^40)(H:aF):RC 71 [av (eA r),sv s,iv h] (.tup [av (eA (OS r s h).1),iv (OS r s h).2]) H:=by
 refine aU.pure ?_ F_ H;have g:mT (OR r):=Mv l okZ okZ;have hv:=λH=>ZH (OR r) g F H;have K:=λH=>yy (OR r) g F H;have j:=λH=>Yr (mk1 r zS).priv g.2.2.2.2.2 H;rw[OS];refine Bd func71 Z ntmps71<|U (kb 3)<|Y (kl 6 nx)<|V aH<|U (oD Zk)<|Y (oD Zk)<|Y (bC AG)<|Uu (by exact qZ Z sizeOf48 Z Z Z Z Z Z Z (r_ Z) Z Z)<|Y (bC iM)<|Y (bC FX)<|Uu (by exact qZ Z sizeOf48 Z Z Z Z Z Z Z (r_ Z) Z Z)<|Zz<|S<|U (wY cQ bJ)<|Y (kc call105 (hv _))<|V iH<|Cn ?_ ?_<;>intro q
 .have I:=not_not q;rw[b6 I];refine U (oD UT)<|Uu (jG bJ)<|V aH<|aC<|gD (H':=[]) (.inr Z) Z (fG Z cQ bJ Z Z Z u0 Z) (aI Z) P_ ?_;exact Qq
 have I:=nX q;rw[a8 F_];have hf:=sX I;have L:=hf.nu;have e_:(OR r).number=r.number:=rfl;rw[e_]at L;have n:=λH=>Du (OR r) g F I H;have R:(bp (OR r)).size=16:=rY _;have r4:=yx (OR r);generalize JB (OR r)=a at K r4 |-;generalize bp (OR r)=t at n R |-;have z:=λH=>W3 s a h (2*r.number - 2) H x X;have D:=λH=>W3 s t h (2*r.number - 1) H x X;have f:=ph (s:=s) (m:=a) (h:=h) (i:=2*r.number - 2);have w:=ph (s:=s) (m:=t) (h:=h) (i:=2*r.number - 1);generalize P6 s h (2*r.number - 2) a=J at z f |-;generalize P6 s h (2*r.number - 1) t=B at D w |-;refine aB<|S<|aM a7<|Cq (wY cQ bJ)<|Cq (kc call55 (K _))<|Cq (wY cQ bJ)<|Cq (kc call118 (n _))<|Cq aH<|Cq aH<|bG<|Kr<|Sz aH<|S<|U aA<|Y aA<|Y (bC A1)<|Y (bQ M_)<|Y (by exact oZ Z Z Z (lT X X))<|Y (by exact dT Z Z Z (lT X X))<|Y aA<|Y (kc call119 (z _))<|Y aA<|Y dO<|Y dO<|Y (bC AG)<|Uu (by exact qZ Z sizeOf48 Z Z Z Z Z Z Z (r_ Z) Z Z)<|V aH<|U aA<|V xI<|Cn ?_ ?_<;>intro y
 .have d:J.2≠0:=by have:=y;intro e;simp_all
  rw[b6 d];refine U (oD UT)<|Y aA<|Uu (jG bJ)<|V aH<|aC<|gD (H':=[]) (.inr Z) Z (fG Z cQ bJ Z Z Z u0 Z) (aI Z) P_ ?_;exact Qq
 have c:J.2=0:=by have:=y;by_cases e:J.2=0;exact e;rw[decide_eq_false e]at this;cases this
 rw[a8 X];have f:=(f c).1;have ⟨A_,Q⟩:∃A_,A_=(if uX r.priv=T then HZ (mk1 r J.1)else if B.2≠0 then(zR,B.2)else HZ (Ni r J.1 B.1)):=X_;rw[<-Q];have v:uX r.priv=T->A_=HZ (Ni r J.1 zS):=λe=>by rw[Q,b6 e];rfl
 have i:uX r.priv=η->B.2≠0->A_=(zR,B.2):=λe e2=>by simp_all
 have u:uX r.priv=η->B.2=0->A_=HZ (Ni r J.1 B.1):=λe e2=>by simp_all
 have P:uX (mk1 r zS).priv=uX r.priv:=rfl;rw[P]at j;clear Q;generalize uX r.priv=W at j v i u;refine aB<|eR (λ(b:q6)=>([(3,.ref 3 0 0 0),(6,.ref 6 0 0 0)],[(6,bx 21 53 ((eA zR).map .pv)),(3,bx 21 53 ((eA (Ni r J.1 b)).map .pv))])) (λb=>yJ b/\A_=HZ (Ni r J.1 b)) ?_ ?_
 .refine U (bC iM)<|Y (wY isAgg51 sizeOf51)<|Y (kc call120 (j _))<|V iH<|Cn ?_ ?_<;>intro p
  ·have G:=not_not p;refine U aA<|Y aA<|Y (bC A1)<|Y (bQ M_)<|Y (by exact oZ Z Z Z (lT X X))<|Y (by exact dT Z Z Z (lT X X))<|Y aA<|Y (kc call119 (D _))<|Y aA<|Y dO<|Y dO<|Y (bC iM)<|Y (bC FX)<|Uu (by exact qZ Z sizeOf48 Z Z Z Z Z Z Z (r_ Z) Z Z)<|V aH<|U aA<|V xI<|Cn ?_ ?_<;>intro E
   .have d:B.2≠0:=by have:=E;intro e;rw[e]at this;exact absurd this (by decide)
    rw[i G d];refine U (oD UT)<|Y aA<|Uu (jG bJ)<|V aH<|aC<|gD (H':=[]) (.inr Z) Z (fG Z cQ bJ Z Z Z u0 Z) (aI Z) P_ ?_;exact Qq
   have c:B.2=0:=by have:=E;by_cases e:B.2=0;exact e;rw[decide_eq_false e]at this;cases this
   refine aB ?_;exact⟨B.1,⟨ba (w c).1,u G c⟩,Wk⟩
  have G:=nX p;refine aB ?_;exact⟨zS,⟨okZ,v G⟩,Wk⟩
 rintro b ⟨o_,i⟩;rw[i,HZ];have k:=λH=>ZK (Ni r J.1 b) (Mv l (ba f) o_) F H;generalize mS (Ni r J.1 b)=u4 at k |-;refine S<|U (wY cQ bJ)<|Y (kc call72 (k _))<|Y aA<|Y dO<|Y dO<|Y aH<|V aH<|U aA<|V xI<|Cn ?_ ?_<;>intro o
 .have d:u4.2≠0:=by have:=o;intro e;rw[e]at this;exact absurd this (by decide)
  rw[b6 d];refine U (oD UT)<|Y aA<|Uu (jG bJ)<|V aH<|aC<|gD (H':=[]) (.inr Z) Z (fG Z cQ bJ Z Z Z u0 Z) (aI Z) P_ ?_;exact Qq
 have c:u4.2=0:=by have:=o;by_cases e:u4.2=0;exact e;rw[decide_eq_false e]at this;cases this
 rw[a8 (by rw[c];decide)];refine aB<|U (wY cQ bJ)<|Uu (jG bJ)<|V aH<|aC<|gD (H':=[]) (.inr Z) Z (fG Z cQ bJ Z Z Z u0 Z) (aI Z) (Fin.wk (by simp[eA]) T_ T_) ?_;exact Qq
abbrev Hf(e:Int):Ob:=bx 1 25 [iv e]
abbrev Hd(x:j_):Ob:=bx 21 53 ((eA x).map .pv)
abbrev qj(x:j_)(e:Int):aF:=[(3,Hf e),(2,Hd x)]
abbrev eAJ:Ob:=bx 1 25 [.any]
abbrev rAJ:Ob:=bx 21 53 [.any,.any,.any,.any,.any,.any,.any,.any,.any,.any,.any,.any,.any,.any,.any,.any,.any,.any,.any,.any,.any]
abbrev pAJ:aF:=[(3,eAJ),(2,rAJ)]
abbrev dcJ:List AV:=[.ref 2 0 0 0,.ref 3 0 0 0]
theorem aBX(x)(e):dw φ 97 dcJ (qj x e) .returning (λH2=>H2=qj x e):=by
 refine MG (x:=NJ) func97 Z ntmps97 (r_ Z) Z Z Z Z Z Z (λw I=>.sat Z Z) (.inl ⟨Z,Z⟩)<|UX<|MD<|sP<|O5 Z Z Z (qu Z underlying20 Z)<|HC<|OA Z (λb=>?_) (λb=>?_)
 .refine sP<|O5 Z Z Z (yI Z Z)<|HC ?_;exact⟨.inl Z,qj x e,Fin.wk H_ (Hb<|Hb<|T_) ⟨Z,Z,T_⟩,Z⟩
 cases b
theorem aBY:dw φ 97 dcJ pAJ (.panicking I6) (λH2=>H2=qj zR 5):=by
 refine MG (x:=.ifa 124 []) func97 Z ntmps97 (r_ Z) Z Z Z Z Z Z (λw I=>.ifa _ _ _ Z H_) (.inr ⟨_,Z,Z⟩)<|UX<|MD<|sP<|O5 Z Z Z (qv Z underlying20 Z)<|HC<|OA Z (λc=>?_) (λc=>?_)
 .cases c
 refine MD<|sP<|O5 Z Z Z (S6 Z (dY zI Z) Z)<|O5 Z Z Z (vV Z Z Z)<|O5 Z Z Z (vV Z Z Z)<|HC<|OA Z (λb=>?_) (λb=>?_)
 .refine MD<|sP<|O5 Z Z Z (qx Z zeroValue124)<|Rm Z Z (qp Z Z Z sizeOf124)<|HC<|sP<|O5 Z Z Z (PS Z UT Z Z)<|Rm Z Z (mE Z bJ Z Z Z Z Z Z Z Z)<|Rm Z Z (mE Z sizeOf25 Z Z Z Z Z Z Z Z)<|HC ?_;exact⟨.inl Z,qj zR 5,Fin.wk H_ (Hb<|Hb<|T_) ⟨Z,Z,T_⟩,Z⟩
 cases b
theorem aCB(s:B_)(A_:N s<2^40)(g:(fO s).2.1=0):aU φ 203 [sv s] [] (λr H'=>r=.tup [.osl 905 (C (fO s).1) 0 (C (fO s).1),iv 0,iv (fO s).2.2]/\H'=[(905,⟨C (fO s).1,3,189,lX (fO s).1⟩)]):=by
 refine Bd func203 Z ntmps203<|U (kl 2 aAB)<|Y (kl 3 aAe)<|V (kl 4 zo3)<|S<|U aA<|Y (gL U_)<|V iX<|Cn ?_ ?_<;>intro v
 .have e:fO s=([],2,-1):=by rw[fO,b6 (I_ v)]
  rw[e]at g;exact absurd g (by decide)
 have P:¬ 20000<N s:=by have:=b_ v;omega
 have ⟨b,i⟩:∃b,b=kM s (N s+1) 0:=X_;have J:fO s=kT [] b:=by rw[fO,a8 P,i]
 refine aB<|Sz (kl 5 Hm)<|S<|U aA<|V (kc call254 (ff s _ Z Z Z (dN.ofL ⟨F_,F_,F_,F_,T_⟩)))<|aE ?_;refine fW.ent (E':=[(2,.ref 2 0 0 0),(3,.ref 3 0 0 0),(4,.ref 4 0 0 0),(5,.ref 5 0 0 0),(11,.clo 290 [.ref 921 0 0 0,.ref 924 0 0 0])]) (H':=[(905,⟨0,3,189,[]⟩),(5,bx 1 185 [.osl 905 0 0 0]),(924,tA),(923,tC),(921,tS s),(4,bx 1 3 [iv 0]),(3,bx 1 25 [iv 0]),(2,bx 1 185 [.pv (.sl [])])]) ?_ ?_
 .exact (Q_ 905 3 189)
 have z:C b<=N s+1:=by rw[i];exact BL s _ _
 have ⟨j,W⟩:∃j,j=zM (tN b) (C b) 0:=X_;have G:j<=C b:=by have:=(GL (tN b) (C b) 0).2;omega
 have u:∀k,k<j->tN b k=T:=λk K=>KF (tN b) (C b) 0 k (l7 _) (by rw[<-W];exact K);have L:j<C b->tN b j=η:=λh=>by have:=xV (tN b) (C b) 0 X;rwa [<-W]at this
 have m:=NN G u;refine CH (id:=904) (p:=12) vX Z call290 Z Z l5 ?_;intro x E H u_ l u4 R;have o:∀(k:Nat) (d:b7),b[k]?=A d->k<=j ->
   dQ φ (.yld 904 0) [.agg ((LX d).map .pv)] ((904,LR x vX)::(926,tF d)::kL s (b.take k) (.pv (.sl [])) 0 0) (λr H'=>r=bv (tN b k)/\H'=(if tN b k then(904,LR x vX)::(926,tF d)::kL s (b.take (k+1)) (.pv (.sl [])) 0 0 else(904,LR (left x .ret) vX)::(926,tF d)::kL s (b.take k) (.pv (.sl [])) (if d.err≠0 then d.err else 2) d.pos)):=by
  intro k d y τ;have g:=K8 y;have σ:k<C b:=(m9.1 y).1;have ρ:C (b.take k)=k:=by rw[m_];omega
  have I:b.take (k+1)=b.take k++[d]:=by rw[List.take_add_one,y];rfl
  refine .inl ⟨904,0,Z,?_⟩;refine MS [(2,.ref 2 0 0 0),(3,.ref 3 0 0 0),(4,.ref 4 0 0 0),(5,.ref 5 0 0 0),(6,.ref 907 0 0 0)] ((907,tF d)::(926,tF d)::kL s (b.take k) (.pv (.sl [])) 0 0) E H u_ l u4 R Z Z Z ?_ ?_
  .refine Rd (kl 907 Hq)<|Uu (jG sizeOf266)<|Zz ?_;exact(cH.wk (Ea<|Ea<|Ea<|Ea<|Ea<|T_) (Hc (oI l5)<|Hc (AO _ _)<|Hc (AO _ _)<|Hc (cW _ _)<|Ha<|Hc (tB Z Z)<|Hc (kO _)<|Hc (sZ _ _)<|Hb<|Hb<|Hb<|T_) ⟨Z,Z,Z,Z,Z,Z,Z,Z,Z,Z,T_⟩)
  refine aE<|S<|aE<|U (bC tW)<|Y (bQ nJ)<|Y xI<|Da<|Cn ?_ ?_<;>intro F
  .have q:d.err≠0:=by have h:=F;rw[r9,q7]at h;exact h
   have w:tN b k=η:=by rw[g,decide_eq_false q];rfl
   rw[w,a8 E_,b6 q];refine S<|aM a7<|Cr [907] (λ_ h=>fh tW h)<|Cr [907] (λ_ h=>lh nJ h)<|Cr [907] (λ_ h=>fh pB h)<|Cr [907] (λ_ h=>fh QV h)<|Cr [907] (λ_ h=>lh M_ h)<|Cp [2] (λ_ h=>sa oH h)<|Cp [3] (λ_ h=>sa sizeOf25 h)<|Cp [4] (λ_ h=>sa sizeOf3 h)<|bG<|Kr<|aC ?_;exact⟨(926,tF d)::kL s (b.take k) (.pv (.sl [])) d.err d.pos,(cH.wk T_ (Hc (oI l5)<|Hc (AO _ _)<|Hc (cW _ _)<|Ha<|Hc (tB Z Z)<|Hc (kO _)<|Hc (sZ _ _)<|Hb<|Hb<|Hb<|T_) ⟨Z,Z,Z,Z,Z,Z,Z,Z,Z,Z,T_⟩),Z,Z⟩
  have q:d.err=0:=by have h:=F;rw[Bool.not_eq_false',k_]at h;exact h
  refine U (bQ nP)<|Y (by exact dR Z cU Z Z Z)<|Y cF<|Da<|Cn ?_ ?_<;>intro D
  .have t:k=5000:=by have:=b9 D;omega
   have w:tN b k=η:=by rw[g,decide_eq_true q,decide_eq_true t];rfl
   rw[w,a8 E_,a8 (λh=>h q)];refine S<|aM a7<|Cr [907] (λ_ h=>fh pB h)<|Cr [907] (λ_ h=>fh QV h)<|Cr [907] (λ_ h=>lh M_ h)<|Cp [2] (λ_ h=>sa oH h)<|Cp [3] (λ_ h=>sa sizeOf25 h)<|Cp [4] (λ_ h=>sa sizeOf3 h)<|bG<|Kr<|aC ?_;exact⟨(926,tF d)::kL s (b.take k) (.pv (.sl [])) 2 d.pos,(cH.wk T_ (Hc (oI l5)<|Hc (AO _ _)<|Hc (cW _ _)<|Ha<|Hc (tB Z Z)<|Hc (kO _)<|Hc (sZ _ _)<|Hb<|Hb<|Hb<|T_) ⟨Z,Z,Z,Z,Z,Z,Z,Z,Z,Z,T_⟩),Z,Z⟩
  have t:¬ k=5000:=by have:=b_ D;omega
  have w:tN b k=T:=by rw[g,decide_eq_true q,decide_eq_false t];rfl
  rw[w,b6 Z,I,Oc];refine aB<|Rd (bQ nP)<|Y (bC pB)<|Y (wY jB sizeOf189)<|Y (by exact aL [K_ d] Z iI Z Z Z Z Z R_)<|Y (by exact bW (ps:=[K_ d]) Z iI zq Z Z Z Z Z (yB _) Z R_ (m:=1) Z X Z (CT (b.take k) d))<|Uu (jG oH)<|Zz ?_;exact⟨(926,tF d)::[(905,⟨(b.take k).length+1,3,189,lX (b.take k++[d])⟩),(5,bx 1 185 [.osl 905 ((b.take k).length+1) 0 ((b.take k).length+1)]),(924,tA),(923,tC),(921,tS s),(4,bx 1 3 [iv 0]),(3,bx 1 25 [iv 0]),(2,bx 1 185 [.pv (.sl [])])],(cH.wk T_ (Hc (oI l5)<|Hc (AO _ _)<|Hc (cW _ _)<|Ha<|Hc (tB Z Z)<|Hc (kO _)<|Hc (sZ _ _)<|Hb<|Hb<|Hb<|T_) ⟨Z,Z,Z,Z,Z,Z,Z,Z,Z,Z,T_⟩),Z,Z⟩
 rcases Nat.lt_or_ge j (C b) with n|o_
 .have ⟨f,Q⟩:=aR n;have B:=L n;have f_:b.drop j=f::b.drop (j+1):=by
   rw[drop_eq_getElem_cons n];rw[n_ n]at Q;cases Q;rfl
  have c:fO s=([],(if f.err≠0 then f.err else 2),(f.pos:Int)):=by
   rw[J,m,f_,kT]
   split
   .rfl
   rename_i q;have a:f.err=0:=by
    by_cases h:f.err=0
    .exact h
    exact absurd h q
   rw[K8 Q,decide_eq_true a,Bool.true_and,Bool.not_eq_false',k_]at B;rw[b6 (by rw[m_];omega)]
  rw[c]at g;have g:(if f.err≠0 then f.err else 2)=0:=g
  split at g
  .next h=>exact absurd g h
  exact absurd g (by decide)
 have r4:j=C b:=Nat.le_antisymm G o_;rw[r4,take_length,drop_length]at m;rw[J,m,kT];refine(MW s (.yld 904 0) (λk=>(904,LR x vX)::kL s (b.take k) (.pv (.sl [])) 0 0) (tN b) (C b) A_ (λk=>rfl) (λk=>rfl) (λk=>rfl) (λk=>rfl) (λk=>(dN.ofL ⟨(by exact oI l5),(cW _ _),w8,(tB Z Z),(kO _),(sZ _ _),m5,m5,m5,T_⟩)) (λk=>by simp;rfl) (by rw[<-i];exact h_ _) (λk K=>u k X) (.inl (by rw[<-i])) ?_).mono ?_
 .rw[<-i];intro k d y K;have p:=o k d y X;have g:=u k X;rw[g,b6 rfl]at p;rw[g];exact dQ.congrG p (λj=>nG E_ j) (λj=>nG E_ j)
 rintro r H' ⟨rfl,rfl⟩;rw[take_length];refine⟨x,_,Z,by rw[E];decide,Z,λz=>?_⟩;rw[H];refine U (bQ nP)<|Uu (jG oH)<|Uu (jG sizeOf25)<|Uu (jG sizeOf3)<|Zz<|aC<|mK (H':=[(905,⟨C b,3,189,lX b⟩)]) (.inr Z) Z (iR Z nP Z Z Z Z) (iR Z nJ Z Z Z Z) (iR Z M_ Z Z Z Z) P_ ?_;exact Qq
theorem aCA(s)(H)(c:N s<2^40)(b:(fO s).2.1=0)(B:H.get 905=ζ):aU φ 203 [sv s] H (λr H'=>r=.tup [.osl 905 (C (fO s).1) 0 (C (fO s).1),iv 0,iv (fO s).2.2]/\H'=(905,⟨C (fO s).1,3,189,lX (fO s).1⟩)::H) :=aU.frame (aCB s c b) (λ_ _ h=>by cases h) (λ_ _ h=>by cases h) H_ (λid h=>.inr (by
  by_cases e:id=905
  .simp_all
  rw[get_cons_other _ _ e]at h;cases h))
theorem KG(f:α->List _)(l:List _):l.map (λe=>(f e).map AV.pv)=(l.map f).map (·.map .pv):=H_
theorem lC(f:α->List PV)(l:List _):((l.map f).take (0+C l)).drop 0=l.map f:=take_of_length_le H_
theorem Ee(f)(H):RC 285 [av (K_ f)] (bv (kU f)) H:=by
 refine Pu<|Bd func285 Z ntmps285<|U (tL (id:=1) Z Z Z Z Z)<|V aH<|S<|aT (t:=2) (n:=10) (A_:=kU f) ?_ ?_
 .all_goals refine Y (bC iN)<|Y (bQ N_)<|Y wU<|Dm ?_<;>(refine Sp 6 (λb=>?_) λb=>?_)<;>(first|refine M<|M<|M ?_|refine O (bC vN)<|O (bQ M_)<|O cF ?_)<;>refine Y cD<|Da ?_<;>exact Gj (h:=by(simp only[kU, *];rfl))
 exact aC<|Rt<|Qq
theorem NT(l)(H:aF)(D:C l<2^62):
  RC 284 [.pv (CY l),.pv (.fn 285)] (iv (AY kU l)) H:=by
 refine Pu ?_;have B:C (l.map K_)=C l:=g_ _;refine Bd func284 Z ntmps284<|Sz aH<|S<|U aA<|Y (fM cU)<|V aA<|aE<|bF (σ:=Nat) (λk=>([(0,.pv (CY l)),(1,.pv (.fn 285)),(7,iv (C (l.map K_):Int)),(8,iv (k:Int))],[])) (λk=>k<=C l/\∀j,j<k->∀b,l[j]?=A b->kU b=η) (λk=>C l - k) 0 ⟨X,X⟩ ?_ ?_
 .exact E0
 rintro k ⟨hk,d⟩;refine Sz cI<|S<|Cn ?_ ?_<;>intro f
 .have i:k<C l:=I_ f
  have ⟨o,h⟩:=aR i;have hi:=cC (f:=K_) h;refine aB<|S<|aE<|U aA<|V aH<|U aA<|Y aA<|Y aA<|Y (iV iI)<|Y (by exact fF Z jB sizeOf189 Z X (Z) Z)<|V (by exact dK Z Z Z (dQ.fn call285 (Ee o _)))<|Cn ?_ ?_<;>intro e
  .refine U aA<|V aH<|aC<|Rt ?_;exact⟨by rw[AY,YO d h e],Z⟩
  refine aB<|Rd iD<|V aA ?_;exact⟨k+1,⟨X,SX d h e⟩,X,E0⟩
 have g:k=C l:=J_ f
 subst g;refine aP<|Sz aH<|aC<|Rt ?_;exact⟨by rw[AY,YP d],Z⟩
def KV(u4:List b7)(k:Nat):List b7:=u4++List.replicate k LF
theorem KU(u4)(k):C (KV u4 k)=C u4+k:=by rw[KV,j8,length_replicate]
theorem Mb(u4)(k):lX (KV u4 k)++[(K_ LF).map AV.pv]=lX (KV u4 (k+1)):=by rw[CT,KV,KV,replicate_succ',append_assoc]
def kF(s:B_):Nat->Int
 |0=>0
 |j+1=>if eN ((j+1:Nat):Int)=s then((j+1:Nat):Int)else kF s j
theorem yp(s):kF s 5=EC s:=by simp only[kF,EC,eq_comm];rfl
theorem RR:∀l,sD l=fQ l (C l / 3)
 | []=>rfl
 | [a]=>by simp[sD,fQ]
 | [a,b]=>by simp[sD,fQ]
 |a::b::c::r=>by
  rw[sD,RR r];have d:C (a::b::c::r)=C r+3:=rfl;rw[d,add_div_right _ H_,fQ,fQ,range_succ_eq_map,map_cons,map_map];rfl
theorem Rf(s):atV s=(qK s).1:=by rw[atV,qK];all_goals grind
abbrev oR(id:B_)(k x y:Int)(n m:Nat):Ob:=bx 6 135 [sv id,iv k,iv x,iv y,.osl 906 n 0 n,.osl 907 m 0 m]
def dy(L:List b7):Ob:=⟨C L,3,189,lX L⟩
def rH(L:List b7)(id:B_)(k x y:Int)(R:List B_)(G:List m8):aF:=[(907,⟨C G,2,270,sY G⟩),(906,⟨C R,1,9,bZ R⟩),(3,oR id k x y (C R) (C G)),(905,dy L),(2,bx 6 135 ((bS j7).map .pv))]
abbrev rE(L:List b7):dG:=[(0,.osl 905 (C L) 0 (C L)),(2,.ref 2 0 0 0),(3,.ref 3 0 0 0)]
theorem aF9(L)(id)(k x y)(R)(s)(G):rH L id k x y (R++[s]) G=[(907,⟨C G,2,270,sY G⟩),(906,⟨C R+1,1,9,bZ (R++[s])⟩),(3,oR id k x y (C R+1) (C G)),(905,dy L),(2,bx 6 135 ((bS j7).map .pv))]:=by simp[rH]
theorem aDh(L)(id)(k x y)(R)(t)(G):rH L id k x y R (G++[t])=[(907,⟨C G+1,2,270,sY (G++[t])⟩),(906,⟨C R,1,9,bZ R⟩),(3,oR id k x y (C R) (C G+1)),(905,dy L),(2,bx 6 135 ((bS j7).map .pv))]:=by simp[rH]
theorem CS{L}{f}(h:L[i]?=A f):(lX L)[i]?=A [iv f.kind,sv f.text,iv (f.pos)]:=by rw[lX,r8,h];rfl
theorem u1{p:Prop}(h:p:=by simp only[Zl,bU,bS,S_,gU,K_];rfl):p:=h
theorem aBL(u4:List b7)(hl:C u4<549755813888)(F:∀f∈wJ u4,N f.text<2^40):aU φ 252 [.osl 905 (C u4) 0 (C u4)] [(905,dy u4)] (λr H'=>r=av (bS (tT u4))/\H'=[(905,dy (wJ u4))]):=by
 refine Bd func252 Z ntmps252<|Sz (kl 2 WM)<|S<|aE<|bF (σ:=Nat) (λk=>([(0,.osl 905 (C (KV u4 k)) 0 (C (KV u4 k))),(2,.ref 2 0 0 0)],[(905,dy (KV u4 k)),(2,bx 6 135 ((bS j7).map .pv))])) (λk=>k<=4 - C u4) (λk=>4 - C u4 - k) 0 (l7 _) ?_ ?_
 ·rw[show KV u4 0=u4 by simp[KV]];exact(cH.wk (Ea<|Ea<|T_) (Hc (cW _ _)<|Hb<|T_) ⟨Z,T_⟩)
 rintro k hk;have K:=KU u4 k;unfold dy;refine S<|U aA<|Y (by exact dR Z cU Z Z Z)<|V cI<|Cn ?_ ?_<;>intro y_
 .have z_:C u4+k<4:=by have:=b9 y_;rw[K]at this;omega
  refine aB<|aE<|Rd aA<|Y (oD IE)<|Y (by exact aL [K_ LF] Z iI Z Z Z Z Z R_)<|Y (by exact bW (ps:=[K_ LF]) Z iI zq Z Z Z Z Z (yB _) Z R_ (m:=1) Z X Z (Mb u4 k))<|Da ?_;refine⟨k+1,X,X,?_⟩;rw[show (KV u4 (k+1)).length=(KV u4 k).length+1 by rw[KU,KU];omega];exact(cH.wk (Ea<|Ea<|T_) (Hc (cW _ _)<|Hb<|T_) ⟨Z,T_⟩)
 have W:4<=C u4+k:=by have:=b_ y_;rw[K]at this;omega
 obtain rfl:k=4 - C u4:=by omega
 have ⟨L,hL⟩:∃L,L=KV u4 (4 - C u4):=X_;have G:wJ u4=L:=by rw[hL];rfl
 have hLl:4<=C L/\C L<549755813893:=by rw[hL,KU];omega
 rw[G]at F;rw[G,<-hL];clear K;have ⟨I,v_⟩:=aR (show 0<C L by omega);have ⟨t1,ρ⟩:=aR (show 1<C L by omega);have ⟨P,c_⟩:=aR (show 2<C L by omega);have ⟨Q,o_⟩:=aR (show 3<C L by omega);have w:=CS v_;have hr1:=CS ρ;have s:=CS c_;have hr3:=CS o_;have hd:∀ {i:Nat} {f:b7},L[i]?=A f->L.getD i LF=f:=fun {i f} h=>by rw[getD_eq_getElem?_getD,h];rfl
 have c:=tT.eq_1 u4;rw[G,hd v_,hd ρ,hd c_,hd o_]at c;refine aP<|U aA<|Y (by exact dL Z iI Z Z Z Z Z X (by exact l_ _) (show 1<L.length by omega) Z)<|Y (bC iN)<|Y (by exact aX Z N_ Z Z Z hr1 Z)<|Y (oD Ql)<|Y (kl 3 Hn)<|Uu (jG sizeOf135)<|Zz<|S<|S ?_;refine fW.ent (E':=rE L) (H':=[(906,⟨0,1,9,[]⟩),(3,bx 6 135 [sv t1.text,iv 0,iv 0,iv 0,.osl 906 0 0 0,.pv .nils]),(905,dy L),(2,bx 6 135 ((bS j7).map .pv))]) (cH.nz 906 1 9 Z Z ⟨⟨_,Z,(by exact Nz.same w8)⟩,⟨_,Z,(by exact Nz.same w8)⟩,⟨_,Z,(by exact Nz.same w8)⟩,T_⟩ ⟨⟨_,Z,Z,Z,Z,(by exact .inr ⟨_,_,rfl,rfl,(by repeat(first|exact trivial|refine⟨(by first|exact Nz.own|exact Nz.same m5),?_⟩))⟩)⟩,⟨_,Z,Z,Z,Z,(by exact .inl ⟨Z,(by exact cW _ _)⟩)⟩,⟨_,Z,Z,Z,Z,(by exact .inl ⟨Z,m5⟩)⟩,T_⟩ ⟨Z,T_⟩) ?_;refine fW.ent (E':=rE L) (H':=rH L t1.text 0 0 0 [] []) (cH.nz 907 2 270 Z Z ⟨⟨_,Z,(by exact Nz.same w8)⟩,⟨_,Z,(by exact Nz.same w8)⟩,⟨_,Z,(by exact Nz.same w8)⟩,T_⟩ ⟨⟨_,Z,Z,Z,Z,(by exact .inl ⟨Z,(by exact aN _ _)⟩)⟩,⟨_,Z,Z,Z,Z,(by exact .inr ⟨_,_,rfl,rfl,(by repeat(first|exact trivial|refine⟨(by first|exact Nz.own|exact Nz.same (by first|(simp;done)|(simp;rfl))),?_⟩))⟩)⟩,⟨_,Z,Z,Z,Z,(by exact .inl ⟨Z,(by exact cW _ _)⟩)⟩,⟨_,Z,Z,Z,Z,(by exact .inl ⟨Z,m5⟩)⟩,T_⟩ ⟨Z,T_⟩) ?_;refine Rg<|V aH<|aE<|bF (σ:=Nat) (λj=>(rE L++[(4,iv ((j+1:Nat):Int))],rH L t1.text (kF I.text j) 0 0 [] [])) (λj=>j<=5) (λj=>5 - j) 0 (l7 _) ?_ ?_
 ·exact(cH.wk (Ea<|Ea<|Ea<|Eb<|T_) (Hc (lE _ _)<|Hc (aN _ _)<|Hc (by(simp;exact⟨Z,Z⟩))<|Hc (cW _ _)<|Hb<|T_) ⟨Z,T_⟩)
 rintro j hj;refine S<|U aA<|V H7<|Cn ?_ ?_<;>intro A_
 .have τ:j<5:=by have:=b9 A_;omega
  refine aB<|S<|aE<|S<|aM a7<|Cq aA<|Cq (kc call283 (IG ((j+1:Nat):Int) _))<|Cq aA<|Cq (by exact dL Z iI Z Z Z Z Z X (by exact l_ _) (show 0<L.length by omega) Z)<|Cq (bC iN)<|Cq (by exact aX Z N_ Z Z Z w Z)<|Cq wU<|bG<|Kr<|Cn ?_ ?_<;>intro e
  ·have hw:eN ((j+1:Nat):Int)=I.text:=b9 e;refine Rd aA<|Y (bC eJ)<|Uu (by exact cM Z sizeOf3 Z Z Z Z Z Z y0 u1 u1)<|Zz<|Rd aA<|Y iD<|Da ?_;refine⟨j+1,X,X,?_⟩;rw[show kF I.text (j+1)=((j+1:Nat):Int)by rw[kF,b6 hw]];exact(cH.wk (Ea<|Ea<|Ea<|Eb<|T_) (Hc (lE _ _)<|Hc (aN _ _)<|Hc (by(simp;exact⟨Z,Z⟩))<|Hc (cW _ _)<|Hb<|T_) ⟨Z,T_⟩)
  have hw:eN ((j+1:Nat):Int)≠I.text:=b_ e;refine aB<|Rd aA<|Y iD<|Da ?_;refine⟨j+1,X,X,?_⟩;rw[show kF I.text (j+1)=kF I.text j by rw[kF,a8 hw]];exact(cH.wk (Ea<|Ea<|Ea<|Eb<|T_) (Hc (lE _ _)<|Hc (aN _ _)<|Hc (by(simp;exact⟨Z,Z⟩))<|Hc (cW _ _)<|Hb<|T_) ⟨Z,T_⟩)
 have τ:j=5:=by have:=b_ A_;omega
 subst τ;rw[yp];generalize EC I.text=d at c |-;have htk:(lX L).length=L.length:=yB L;refine aP<|U aA<|Y (by exact kY (l:=4) (h:=L.length) Z iI Z Z Z Z Z Z X X Z Z)<|V aH<|S<|U (bC eJ)<|Y (bQ M_)<|V cF<|Cn ?_ ?_<;>intro R
 .have z:d=1:=b9 R;have hR2:tT u4=⟨t1.text,1,atV P.text,atV Q.text,[],sD (L.drop 4)⟩:=by rw[c,b6 z]
  subst z;refine U aA<|Y (by exact dL Z iI Z Z Z Z Z X (by exact l_ _) (show 2<L.length by omega) Z)<|Y (bC iN)<|Y (by exact aX Z N_ Z Z Z s Z)<|Y (kc wF (QX P.text (F _ (m7 c_)) _))<|Y aA<|Y dO<|Y dO<|Y (bC mY)<|Y (bC nA)<|Uu (by exact cM Z sizeOf3 Z Z Z Z Z Z y0 u1 u1)<|Zz<|Rd aA<|Y (by exact dL Z iI Z Z Z Z Z X (by exact l_ _) (show 3<L.length by omega) Z)<|Y (bC iN)<|Y (by exact aX Z N_ Z Z Z hr3 Z)<|Y (kc wF (QX Q.text (F _ (m7 o_)) _)) ?_;refine Y aA<|Y dO<|Y dO<|Y (bC mY)<|Y (bC mZ)<|Uu (by exact cM Z sizeOf3 Z Z Z Z Z Z y0 u1 u1)<|Zz<|S<|aE ?_;have ⟨D,E⟩:∃D,D=L.drop 4:=X_;have κ:D.length=L.length - 4:=by rw[E,p_]
  refine bF (σ:=Nat) (λj=>(rE L++[(5,.osl 905 (C L) (4+3*j) (C L - 4 - 3*j))],rH L t1.text 1 (qK P.text).1 (qK Q.text).1 ([]:List B_) (fQ D j))) (λj=>3*j<=C D) (λj=>C D - 3*j) 0 (l7 _) ?_ ?_
  ·exact(cH.wk (Ea<|Ea<|Ea<|Ea<|T_) (Hc (lE _ _)<|Hc (aN _ _)<|Hc (by(simp;exact⟨Z,Z⟩))<|Hc (cW _ _)<|Hb<|T_) ⟨Z,T_⟩)
  rintro j hj;have d_:=FZ D j;have hfl:=IA D j;refine S<|U aA<|Y (by exact dR Z cU Z Z Z)<|V iX<|Cn ?_ ?_<;>intro g
  .have z_:3*j+2<C D:=by have:=b9 g;omega
   have ⟨y,u⟩:∃f,L[4+3*j]?=A f:=aR X;have ⟨x,v⟩:∃f,L[4+3*j+2]?=A f:=aR X;have w:=CS u;have s:=CS v;have B:W0 D j=⟨y.text,x.text⟩:=by
    rw[W0,E,getElem?_drop,getElem?_drop,u,show 4+(3*j+2)=4+3*j+2 from Z,v];rfl
   refine aB<|S<|aE<|aM a7<|Cs (λ_ h=>fh gF h)<|Cs (λ_ h=>lh dP h)<|Cs (λ_ _=>aA)<|Cs (λH1 J=>by exact dL Z iI Z ((J _ Z).trans Z) Z Z Z X (by exact l_ _) (show 0<L.length - 4 - 3*j by omega) Z)<|Cs (λ_ h=>fh iN h)<|Cs (λH1 J=>by exact aX Z N_ Z ((J _ Z).trans Z) Z w Z)<|Cs (λ_ _=>aA)<|Cs (λH1 J=>by exact dL Z iI Z ((J _ Z).trans Z) Z Z Z X (by exact l_ _) (show 2<L.length - 4 - 3*j by omega) Z)<|Cs (λ_ h=>fh iN h)<|Cs (λH1 J=>by exact aX Z N_ Z ((J _ Z).trans Z) Z s Z)<|Cs (λ_ _=>(oD Qm))<|Cs (λH1 J=>by exact aL [bU ⟨y.text,x.text⟩] Z lU Z Z Z Z Z R_) ?_;refine iP (r:=⟨_,none,[_]⟩) (DStep.plain Z (λH1 J=>by exact bW (ps:=[bU ⟨y.text,x.text⟩]) Z lU Po Z ((J _ Z).trans Z) Z Z Z (IJ _) Z R_ (m:=1) Z X Z (IK (fQ D j) ⟨y.text,x.text⟩))) Z ?_;refine Cs (λ_ h=>fh gF h)<|iP (r:=⟨_,none,[_]⟩) (DStep.plain Z (λH1 J=>by exact(by exact cM Z sizeOf133 Z Z Z ((J _ Z).trans Z) Z Z y0 u1 u1))) Z ?_;refine bG<|Kr<|Rd aA<|Y (by exact kY (l:=3) (h:=(L.length - 4 - 3*j)) Z iI Z Z Z Z Z Z X X Z Z)<|Da ?_;refine⟨j+1,X,X,?_⟩;dsimp only;rw[d_,B,aDh];exact(cH.wk (Ea<|Ea<|Ea<|Ea<|T_) (Hc (lE _ _)<|Hc (aN _ _)<|Hc (by(simp;exact⟨Z,Z⟩))<|Hc (cW _ _)<|Hb<|T_) ⟨Z,T_⟩)
  have W:C D<3*j+3:=by have:=b_ g;omega
  have r4:C D / 3=j:=by omega
  have hG:sD D=fQ D j:=by rw[RR,r4]
  refine aP<|S ?_;refine fW.ent (cH.fzG (id:=907) (E':=rE L) (H':=[(906,⟨C (([]:List B_)),1,9,bZ (([]:List B_))⟩),(3,bx 6 135 [sv (t1.text),iv (1),iv ((qK P.text).1),iv ((qK Q.text).1),.osl 906 (C (([]:List B_))) 0 (C (([]:List B_))),.pv (qM (fQ D j))]),(905,dy L),(2,bx 6 135 ((bS j7).map .pv))]) ((fQ D j).map bU) Z (KG bU _) ?_ Z ?_ ?_) ?_
  .intro p t;simp only[l9,q8,or_false]at t;rcases t with rfl|rfl|rfl<;>exact⟨_,Z,.same m3⟩
  .exact⟨⟨_,Z,Z,Z,Z,dC (aN _ _)⟩,⟨_,Z,Z,Z,Z,jO Z (bA (.same H_) (bA (.same H_) (bA (.same H_) (bA (.same H_) (bA (.same m3) (bA (.osl (lC bU _)) jA))))))⟩,⟨_,Z,Z,Z,Z,dC (cW _ _)⟩,⟨_,Z,Z,Z,Z,dC H_⟩,T_⟩
  .exact⟨Z,T_⟩
  refine fW.ent (cH.fzG (id:=906) (E':=rE L) (H':=[(3,bx 6 135 [sv (t1.text),iv (1),iv ((qK P.text).1),iv ((qK Q.text).1),.pv (aK (([]:List B_))),.pv (qM (fQ D j))]),(905,dy L),(2,bx 6 135 ((bS j7).map .pv))]) ((([]:List B_)).map S_) Z (dA _) ?_ Z ?_ ?_) ?_
  .intro p t;simp only[l9,q8,or_false]at t;rcases t with rfl|rfl|rfl<;>exact⟨_,Z,.same m3⟩
  .exact⟨⟨_,Z,Z,Z,Z,jO Z (bA (.same H_) (bA (.same H_) (bA (.same H_) (bA (.same H_) (bA (.osl (lC S_ _)) (bA (.same H_) jA))))))⟩,⟨_,Z,Z,Z,Z,dC (cW _ _)⟩,⟨_,Z,Z,Z,Z,dC H_⟩,T_⟩
  .exact⟨Z,T_⟩
  refine Rd (by exact aW Z cB sizeOf135 Z Z Z Z u1 Z)<|Uu (jG sizeOf135)<|Zz<|aC ?_;refine cT (H':=[(905,dy L)]) (.inr Z) Z (fG Z cB sizeOf135 Z Z Z u1 Z) (Fin.wk m5 (Hc (cW _ _)<|T_) ⟨Z,T_⟩) ?_;refine⟨?_,Z⟩;rw[(show tT u4=⟨t1.text,1,(qK P.text).1,(qK Q.text).1,[],sD (L.drop 4)⟩by rw[hR2,Rf,Rf]),<-E,hG];rfl
 have z:d≠1:=b_ R;rw[a8 z]at c;have γ:=NT L [] X;have δ:∀H,H.get 905=A (dy L)->RC 284 [.osl 905 (C L) 0 (C L),.pv (.fn 285)] (iv (AY kU L)) H:=λH J =>
  RO.calls (RO.lend (id:=905) (H1:=[]) (L.map K_) (RO.of γ Z) J (KG K_ L) Z
   (bA (.osl (lC K_ L)) (bA (.same H_) jA)) (λ_ _ h=>by cases h) (λ_ _ h=>by cases h) Z)
 refine U aA<|Y (kc call284 (δ _ Z))<|V aH<|S<|U aA<|V cI<|Cn ?_ ?_<;>intro f_
 ·have b:AY kU L<3:=b9 f_;rw[b6 b]at c;rw[c];refine U (oD F6)<|Uu (jG sizeOf135)<|Zz<|aC<|cT (H':=[(905,dy L)]) (.inr Z) Z (fG Z cB sizeOf135 Z Z Z u1 Z) (Fin.wk m5 (Hc (cW _ _)<|T_) ⟨Z,T_⟩) ?_;exact Qq
 have b:¬ AY kU L<3:=b_ f_;rw[a8 b]at c;have ⟨q,hq,hqL⟩:∃q:Nat,AY kU L=(q:Int)/\q<C L:=by
  rcases sw kU L with⟨e1,_⟩|⟨q,o,e1,e2,_⟩
  .rw[e1]at b;exact absurd (by decide) b
  exact⟨q,e1,(m9.1 e2).1⟩
 rw[hq]at c b |-;rw[l_]at c;have hq3:3<=q:=by omega
 have ⟨a,hM⟩:∃a,a=(L.take q).drop 3:=X_;have hMl:C a=q - 3:=by rw[hM,p_,m_];omega
 rw[<-hM]at c;refine aB<|S<|U aA<|Y aA<|Y (by exact kY (l:=3) (h:=q) Z iI Z Z Z Z Z Z X X Z Z)<|Y (by exact dR Z cU Z Z Z)<|V aA<|aE<|bF (σ:=Nat) (λi=>(rE L++[(5,.osl 905 L.length 4 (L.length - 4)),(6,iv (q:Int)),(66,.osl 905 L.length 3 (q - 3)),(67,iv ((q - 3:Nat):Int)),(68,iv (i:Int))],rH L t1.text d 0 0 ((a.take i).map b7.text) [])) (λi=>i<=a.length) (λi=>a.length - i) 0 (l7 _) ?_ ?_
 ·exact(cH.wk (Ea<|Ea<|Ea<|Ea<|Eb<|Ea<|Eb<|Eb<|T_) (Hc (lE _ _)<|Hc (aN _ _)<|Hc (by(simp;exact⟨Z,Z⟩))<|Hc (cW _ _)<|Hb<|T_) ⟨Z,T_⟩)
 rintro i hi;refine Sz cI<|S<|Cn ?_ ?_<;>intro u_
 .have hiq:i<q - 3:=by have:=b9 u_;omega
  have ⟨f,hf⟩:=aR (show i<C a by omega);have hfL:L[3+i]?=A f:=by
   rw[hM,List.getElem?_drop,List.getElem?_take_of_lt (by omega)]at hf;exact hf
  have hrf:=CS hfL;have hMt:(a.take (i+1)).map b7.text=(a.take i).map b7.text++[f.text]:=by rw[take_add_one,hf,map_append];rfl
  have hRl:C ((a.take i).map b7.text)=i:=by rw[g_,m_];omega
  refine aB<|S<|aE<|U (by exact dL Z iI Z Z Z Z Z X (by exact l_ _) X Z)<|Y (by exact aW Z jB sizeOf189 Z Z Z hrf u1 Z)<|Y (kl 8 uz)<|Uu (jG sizeOf189)<|Zz<|Rd (bC eI)<|Y (bQ aG)<|Y (bC iN)<|Y (bQ N_)<|Y (by exact aL [S_ f.text] Z aY Z Z Z Z Z R_)<|Y (by exact bW (ps:=[S_ f.text]) Z aY sW Z Z Z Z Z (dI _) Z R_ (m:=1) Z X Z (gT ((a.take i).map b7.text) f.text))<|Y (bC eI)<|Uu (by exact cM Z sizeOf22 Z Z Z Z Z Z y0 u1 u1) ?_;refine Zz<|Rd iD<|V aA ?_;refine⟨i+1,X,X,?_⟩;dsimp only;rw[hMt,aF9];exact(cH.wk (Ea<|Ea<|Ea<|Ea<|Eb<|Ea<|Eb<|Eb<|T_) (Hc (lE _ _)<|Hc (aN _ _)<|Hc (by(simp;exact⟨Z,Z⟩))<|Hc (cW _ _)<|Hb<|T_) ⟨Z,T_⟩)
 have hiq:i=q - 3:=by have:=b_ u_;omega
 have β:a.take i=a:=take_of_length_le X;rw[β];refine aP<|Rd aA<|Y aA<|Y kp<|Y (by exact kY (l:=(q+1)) (h:=L.length) Z iI Z Z Z Z Z Z X X Z Z)<|V aH<|S<|aE ?_;rw[<-r7 (q+1)]at c;have ⟨D,E⟩:∃D,D=L.drop (0+(q+1)):=X_;have κ:D.length=L.length - (0+(q+1)):=by rw[E,p_]
 refine bF (σ:=Nat) (λj=>(rE L++[(5,.osl 905 (C L) ((0+(q+1))+3*j) (C L - (q+1) - 3*j))],rH L t1.text d 0 0 (a.map b7.text) (fQ D j))) (λj=>3*j<=C D) (λj=>C D - 3*j) 0 (l7 _) ?_ ?_
 ·exact(cH.wk (Ea<|Ea<|Ea<|Ea<|T_) (Hc (lE _ _)<|Hc (aN _ _)<|Hc (by(simp;exact⟨Z,Z⟩))<|Hc (cW _ _)<|Hb<|T_) ⟨Z,T_⟩)
 rintro j hj;have d_:=FZ D j;have hfl:=IA D j;refine S<|U aA<|Y (by exact dR Z cU Z Z Z)<|V iX<|Cn ?_ ?_<;>intro n
 .have z_:3*j+2<C D:=by have:=b9 n;omega
  have ⟨y,u⟩:∃f,L[(0+(q+1))+3*j]?=A f:=aR X;have ⟨x,v⟩:∃f,L[(0+(q+1))+3*j+2]?=A f:=aR X;have w:=CS u;have s:=CS v;have B:W0 D j=⟨y.text,x.text⟩:=by
   rw[W0,E,getElem?_drop,getElem?_drop,u,show (0+(q+1))+(3*j+2)=(0+(q+1))+3*j+2 from Z,v];rfl
  refine aB<|S<|aE<|aM a7<|Cs (λ_ h=>fh gF h)<|Cs (λ_ h=>lh dP h)<|Cs (λ_ _=>aA)<|Cs (λH1 J=>by exact dL Z iI Z ((J _ Z).trans Z) Z Z Z X (by exact l_ _) (show 0<L.length - (q+1) - 3*j by omega) Z)<|Cs (λ_ h=>fh iN h)<|Cs (λH1 J=>by exact aX Z N_ Z ((J _ Z).trans Z) Z w Z)<|Cs (λ_ _=>aA)<|Cs (λH1 J=>by exact dL Z iI Z ((J _ Z).trans Z) Z Z Z X (by exact l_ _) (show 2<L.length - (q+1) - 3*j by omega) Z)<|Cs (λ_ h=>fh iN h)<|Cs (λH1 J=>by exact aX Z N_ Z ((J _ Z).trans Z) Z s Z)<|Cs (λ_ _=>(oD Qm))<|Cs (λH1 J=>by exact aL [bU ⟨y.text,x.text⟩] Z lU Z Z Z Z Z R_) ?_;refine iP (r:=⟨_,none,[_]⟩) (DStep.plain Z (λH1 J=>by exact bW (ps:=[bU ⟨y.text,x.text⟩]) Z lU Po Z ((J _ Z).trans Z) Z Z Z (IJ _) Z R_ (m:=1) Z X Z (IK (fQ D j) ⟨y.text,x.text⟩))) Z ?_;refine Cs (λ_ h=>fh gF h)<|iP (r:=⟨_,none,[_]⟩) (DStep.plain Z (λH1 J=>by exact(by exact cM Z sizeOf133 Z Z Z ((J _ Z).trans Z) Z Z y0 u1 u1))) Z ?_;refine bG<|Kr<|Rd aA<|Y (by exact kY (l:=3) (h:=(L.length - (q+1) - 3*j)) Z iI Z Z Z Z Z Z X X Z Z)<|Da ?_;refine⟨j+1,X,X,?_⟩;dsimp only;rw[d_,B,aDh];exact(cH.wk (Ea<|Ea<|Ea<|Ea<|T_) (Hc (lE _ _)<|Hc (aN _ _)<|Hc (by(simp;exact⟨Z,Z⟩))<|Hc (cW _ _)<|Hb<|T_) ⟨Z,T_⟩)
 have W:C D<3*j+3:=by have:=b_ n;omega
 have r4:C D / 3=j:=by omega
 have hG:sD D=fQ D j:=by rw[RR,r4]
 refine aP<|S ?_;refine fW.ent (cH.fzG (id:=907) (E':=rE L) (H':=[(906,⟨C ((a.map b7.text)),1,9,bZ ((a.map b7.text))⟩),(3,bx 6 135 [sv (t1.text),iv (d),iv (0),iv (0),.osl 906 (C ((a.map b7.text))) 0 (C ((a.map b7.text))),.pv (qM (fQ D j))]),(905,dy L),(2,bx 6 135 ((bS j7).map .pv))]) ((fQ D j).map bU) Z (KG bU _) ?_ Z ?_ ?_) ?_
 .intro p t;simp only[l9,q8,or_false]at t;rcases t with rfl|rfl|rfl<;>exact⟨_,Z,.same m3⟩
 .exact⟨⟨_,Z,Z,Z,Z,dC (aN _ _)⟩,⟨_,Z,Z,Z,Z,jO Z (bA (.same H_) (bA (.same H_) (bA (.same H_) (bA (.same H_) (bA (.same m3) (bA (.osl (lC bU _)) jA))))))⟩,⟨_,Z,Z,Z,Z,dC (cW _ _)⟩,⟨_,Z,Z,Z,Z,dC H_⟩,T_⟩
 .exact⟨Z,T_⟩
 refine fW.ent (cH.fzG (id:=906) (E':=rE L) (H':=[(3,bx 6 135 [sv (t1.text),iv (d),iv (0),iv (0),.pv (aK ((a.map b7.text))),.pv (qM (fQ D j))]),(905,dy L),(2,bx 6 135 ((bS j7).map .pv))]) (((a.map b7.text)).map S_) Z (dA _) ?_ Z ?_ ?_) ?_
 .intro p t;simp only[l9,q8,or_false]at t;rcases t with rfl|rfl|rfl<;>exact⟨_,Z,.same m3⟩
 .exact⟨⟨_,Z,Z,Z,Z,jO Z (bA (.same H_) (bA (.same H_) (bA (.same H_) (bA (.same H_) (bA (.osl (lC S_ _)) (bA (.same H_) jA))))))⟩,⟨_,Z,Z,Z,Z,dC (cW _ _)⟩,⟨_,Z,Z,Z,Z,dC H_⟩,T_⟩
 .exact⟨Z,T_⟩
 refine Rd (by exact aW Z cB sizeOf135 Z Z Z Z u1 Z)<|Uu (jG sizeOf135)<|Zz<|aC ?_;refine cT (H':=[(905,dy L)]) (.inr Z) Z (fG Z cB sizeOf135 Z Z Z u1 Z) (Fin.wk m5 (Hc (cW _ _)<|T_) ⟨Z,T_⟩) ?_;refine⟨?_,Z⟩;rw[c,<-E,hG];rfl
theorem MV:∀(l) (p),oJ l=A p->C p.1<=C l
 | [],p,h=>by cases h
 | [c],p,h=>by
  rw[oJ]at h
  grind
 | c :: e :: r, p, h => by
  rw[oJ]at h
  split at h
  ·grind
  split at h
  .cases h
  split at h
  .cases g:tQ e with
   |none=>simp_all
   | some b =>
    rw[g]at h;cases f:oJ r with
    |none=>simp_all
    |some q =>
     rw[f]at h;cases h;have:=MV r q f;show C q.1+1<=C r+1+1;omega
  cases f:oJ (e::r)with
  |none=>simp_all
  |some q =>
   rw[f]at h;cases h;have:=MV _ q f
   simp_all
theorem gB(s:B_)(i j):N (s.extract i j)<=N s:=by rw[<-aS,gG,m_,p_,aS];omega
theorem Ba(s):N (A0 s).1<=N s:=by
 rw[A0];cases h:oJ _ with
 |none=>exact l7 _
 |some p =>
  have:=MV _ _ h;rw[p_,aS]at this;rw[<-aS]
  grind
theorem ou{s}{f:b7}{j:Nat}(h:fE s i=(A f,j)):N f.text<=N s:=by
 rw[fE]at h
 split at h
 .cases h
 split at h
 .cases h
 split at h
 .cases h;exact gB _ _ _
 split at h
 .cases h;exact gB _ _ _
 split at h
 .cases h;rw[FO]
  split
  .have h1:=Ba (s.extract i (N s));have B:=gB s i (N s);show N (A0 _).1<=_;omega
  exact l7 _
 split at h
 .cases h;exact gB _ _ _
 cases h;exact l7 _
theorem II(s):∀(n i) (f),f∈kM s n i->N f.text<=N s
 |0,_,_,h=>by cases h
 | n+1,i,f,h=>by
  rw[kM]at h
  split at h
  .split at h
   .exact II s n _ f h
   rename_i g j b;rcases l9.1 h with rfl|h
   .exact ou b
   split at h
   .exact II s n _ f h
   cases h
  cases h
theorem fx:∀(a acc) (f),f∈(kT acc a).1->f∈acc\/f∈a
 | [],acc,f,h=>.inl h
 |d::a,acc,f,h=>by
  rw[kT]at h
  split at h
  .cases h
  split at h
  .cases h
  rcases fx _ _ f h with h|h;all_goals grind
theorem G5(s)(f)(h:f∈(fO s).1):N f.text<=N s:=by
 rw[fO]at h
 split at h
 .cases h
 rcases fx _ _ f h with h|h
 .cases h
 exact II s _ _ f h
theorem ig{u4}{n}(h:∀f∈u4,N f.text<=n):∀f∈wJ u4,N f.text<=n:=λf b=>by
 rcases mem_append.1 b with a|a
 .simp_all
 rw[(mem_replicate.1 a).2];exact l7 _
theorem WU:∀(u4) (n),(∀f∈u4,N f.text<=n)->C (sD u4)<=C u4/\∀t∈sD u4,N t.key<=n/\N t.val<=n
 | [],n,_=>by simp[sD]
 | [a],n,_=>by simp[sD]
 | [a,b],n,_=>by simp[sD]
 |a::b::c::r,n,h=>by
  obtain ⟨D,E⟩:=WU r n λf B=>h f G_;rw[sD]
  grind
theorem Md(u4):C (wJ u4)<=C u4+4:=by rw[wJ,j8,length_replicate];omega
theorem Ks{u4:List b7}{n:Nat}(h:∀f∈u4,N f.text<=n)(m:n<2^62)(D:C u4<549755813888):nh (tT u4):=by
 have o:=ig h;have B:=Md u4;have l:∀i,N ((wJ u4).getD i LF).text<=n:=λi=>by
  rw[getD_eq_getElem?_getD];cases e:(wJ u4)[i]? with
  |none=>exact l7 _
  |some f=>grind
 have j:∀k,NF (sD ((wJ u4).drop k)):=λk=>by
  have ⟨a,b⟩:=WU ((wJ u4).drop k) n λf p=>o f (mem_of_mem_drop p);rw[p_]at a;exact⟨X,λt g=>by have:=b t g;omega⟩
 rw[tT]
 split
 .exact⟨Nat.lt_of_le_of_lt (l 1) m,j _,F_,λs d=>by cases d⟩
 split
 .exact⟨E_,⟨E_,λt h=>by cases h⟩,E_,λs d=>by cases d⟩
 refine⟨Nat.lt_of_le_of_lt (l 1) m,j _,?_,λs d=>?_⟩;all_goals grind
theorem rO(c):∀ {l w},w∈dV c l->C w<=C l
 | [],w,h=>by
  rw[dV]at h
  simp_all
 | b::l,w,h=>by
  have d:=rR c l;rw[dV]at h;cases e:dV c l with
  |nil=>rw[e]at d;exact absurd d (Nat.lt_irrefl 0)
  | cons x r =>
   have a:∀y∈x::r,C y<=C l:=λy B=>rO c F_;rw[e]at h
   split at h
   .rcases l9.1 h with rfl|h
    .exact l7 _
    exact le_succ_of_le (a w h)
   rcases l9.1 h with rfl|h
   .exact succ_le_succ (a _ mem_cons_self)
   exact le_succ_of_le (a w (mem_cons_of_mem _ h))
theorem XO{s}(a:N s<2^40):nh (tT (fO s).1):=Ks (λf b=>G5 s f b) X (xK s a)
theorem JK(l:List _):∀r∈l.map S_,C r=1:=λr a=>by
 obtain ⟨s,_,rfl⟩:=mem_map.1 a;rfl
theorem AK{p q}[Decidable p][Decidable q](h:(θ p&&θ q)=T):p/\q:=F_
theorem AM{p q}[Decidable p][Decidable q](h:(θ p&&θ q)=η):¬ (p/\q):=F_
theorem Ub{H}{id}{o}(h:H.get id=A o):Sub [(id,o)] H:=λj x a=>by
 by_cases e:j=id
 .subst e;rw[get_cons_same]at a
  simp_all
 rw[get_cons_other _ _ e]at a;cases a
theorem Ms{id j}{a b}(h:(aF.get [(id,a)] j).isSome=T):(aF.get [(id,b)] j).isSome=T:=by
 by_cases e:j=id
 .subst e;rw[get_cons_same];rfl
 rw[get_cons_other _ _ e]at h;cases h
theorem rj(s:B_)(H:aF)(g:N s<2^40):RC 201 [sv s] (.tup [av (bS (vM s).1),iv (vM s).2]) H:=by
 refine Pu ?_;have c:=xK s g;have l:=ig (G5 s);have d:=XO g;rw[vM];refine Bd func201 Z ntmps201<|U (kl 2 WM)<|V aH<|S<|U aA<|Y (gL U_)<|V iX<|Cn ?_ ?_<;>intro i
 .have q:20000<N s:=I_ i
  rw[b6 q];refine U (oD F6)<|Uu (jG sizeOf135)<|V aH<|aC<|gD (H':=[]) (.inr Z) Z (C1 cB sizeOf135) (aI Z) (P_ (r:=.tup [av (bS j7),iv 2])) Qq
 have q:¬ 20000<N s:=J_ i
 rw[a8 q];by_cases n:(fO s).2.1=0
 .have e:=λH h=>aCA s H g n h;have ⟨u4,w⟩:∃u4,u4=(fO s).1:=X_;rw[<-w]at c l d |-;simp only[<-w]at e;have k:∀H,H.get 905=A (dy u4)->aU φ 252 [.osl 905 (C u4) 0 (C u4)] H (λr H'=>r=av (bS (tT u4))/\H'=[(905,dy (wJ u4))]++H):=λH x =>
   aU.frame (aBL u4 c (λf y=>Nat.lt_of_le_of_lt (l f y) g)) (Ub x) (dN.ofL ⟨cW _ _,T_⟩) (by intro a v;rw[q9]at v;subst v;simp[aF.get]) (λid h=>.inl (Ms h))
  generalize tT u4=o at k d |-;refine aB<|U aA<|Y (kc call203 (e _ Z))<|Y aA<|Y dO<|Y dO<|Y dO<|Y aH<|Y aH<|V aH<|S<|U aA<|V cF<|Cn ?_ ?_<;>intro u
  .refine U aA<|Y (kc call252 (k _ Z))<|Y (kl 7 WM)<|Uu (jG sizeOf135)<|Zz<|U (wY cB sizeOf135)<|Y (kc call253 (XX o _ d))<|Y aA<|Y dO<|Y dO<|Y aH<|V aH<|S<|aT (t:=35) (n:=8) (A_:=θ ((fK o).2=0)&&θ ((fK o).1=s)) ?_ ?_
   .all_goals refine Y aA<|Y cF<|Dm ?_<;>(refine Sp 31 (λp=>?_) λp=>?_)<;>(first|exact s_|refine M<|M<|M ?_|refine O aA<|O aA<|O wU ?_)<;>refine V cD ?_<;>exact Gj (h:=by simp_all)
   refine Cn ?_ ?_<;>intro j
   .have m:=AK j;rw[b6 ⟨n,Prod.ext m.2 m.1⟩];refine U (wY cB sizeOf135)<|Uu (jG sizeOf135)<|V aH<|aC<|gD (H':=[]) (.inr Z) Z (C1 cB sizeOf135) (aI Z) (P_ (r:=.tup [av (bS o),iv 0])) Qq
   have m:=AM j;rw[a8 (λh=>m ⟨congrArg Prod.snd h.2,congrArg Prod.fst h.2⟩)];refine aB<|U (oD F6)<|Uu (jG sizeOf135)<|V aH<|aC<|gD (H':=[]) (.inr Z) Z (C1 cB sizeOf135) (aI Z) (P_ (r:=.tup [av (bS j7),iv 5])) Qq
  exact absurd Z (b_ u)
 refine aB<|U aA<|Y (kc call203 (aAV s _ g))<|Y aA<|Y dO<|Y dO<|Y dO<|Y aH<|Y aH<|V aH<|S<|U aA<|V cF<|Cn ?_ ?_<;>intro t
 .exact absurd (b9 t) n
 refine aB<|U (oD F6)<|Uu (jG sizeOf135)<|V aH<|aC ?_;rw[a8 (λh=>n h.1)];refine gD (H':=[]) (.inr Z) Z (C1 cB sizeOf135) (aI Z) (P_ (r:=.tup [av (bS j7),iv 5])) Qq
theorem Vj(s:B_)(H:aF)(hs:N s<=20000):RC 143 [sv s] (av (bL (nZ (ν (μ s))))) H:=by
 refine Pu ?_;have A_:=aS s;have ⟨W,p⟩:∃W,W=dV 32 (ν (μ s)):=X_;have ⟨c,E⟩:∃w,w=W.headD []:=X_;have ⟨B,z⟩:∃r,r=s.data.toList.drop (C c+1):=X_;have γ:C B<=N s:=F_
 have hg:nZ (ν (μ s))=E6 W c B:=by rw[nZ,<-p,<-E,<-z]
 have q:∃b,∀H,RC 137 [sv s,sv Sv] (.tup [sv (a_ c),sv (a_ B),bv b]) H:=by
  have ⟨b,hb⟩:=Yx s;rw[<-p,<-E,<-z]at hb;exact⟨b,λH=>by rw[<-hb];exact aEf s H X⟩
 have ⟨b,q⟩:=q;have τ:C (cS s)=C W:=by rw[Bm,p]
 have P:C ((cS s).map S_)=C W:=F_
 have J:∀i,i<C W->((cS s).map S_)[i]?=A [.str (a_ (W.getD i []))]:=λi hi=>by
  rw[p];exact cC (f:=S_) (Bn s i X)
 have R:∀i,N (a_ (W.getD i []))<=N s:=λi=>by
  rw[cA,getD_eq_getElem?_getD];cases e:W[i]? with
  |none=>simp_all
  |some w =>
   have:=rO 32 (l:=ν (μ s)) (w:=w) G_;rw[A_]at this;exact this
 have σ:C W<=N s+1:=by
  rw[p,yC];have:=count_le_length (l:=ν (μ s)) (a:=32);omega
 have κ:C ((cS s).drop 3)<=20001:=G_
 have δ:dF ((cS s).drop 3)<=20000*C ((cS s).drop 3):=pN (λw hw=>by
  have I:=mem_of_mem_drop hw;rw[cS,<-p]at I;obtain ⟨x,hx,rfl⟩:=mem_map.1 I;have:=rO 32 (l:=ν (μ s)) (w:=x) F_;show N (a_ x)<=_;rw[cA];omega)
 rw[hg,E6];refine Bd func143 Z ntmps143<|Sz (kl 2 WL)<|U aA<|Y (kc call200 (Bo s _ X))<|V aH<|U aA<|Y (kc call137 (q _))<|Y aA<|Y dO<|Y dO<|Y dO<|Y aH<|Y aH<|V aH<|S<|aE<|U aA<|Y wU<|Da<|Cn ?_ ?_<;>intro r4
 .have k:c=wPut:=tO.1 (b9 r4);rw[b6 k];refine U aA<|Y (kc call201 (rj (a_ B) _ (by rw[cA];omega)))<|Y aA<|Y dO<|Y dO<|Y (kl 7 WM)<|Uu (jG sizeOf135)<|V aH<|U (wY cB sizeOf135)<|Y (oD uJ)<|Uu (jG bD)<|Zz<|aC ?_;refine cT (H':=[]) (.inr Z) Z (C1 cY bD) P_ Qq
 have k:¬ c=wPut:=λe=>b_ r4 (tO.2 e);rw[a8 k];refine S<|aT (t:=30) (n:=9) (A_:=θ (a_ c=⟨#[109,111,118,101]⟩)&&θ ((C ((cS s).map S_):Int)=4)) ?_ ?_
 .all_goals refine Y aA<|Y wU<|Dm ?_<;>(refine Sp 33 (λh33=>?_) λh33=>?_)<;>(first|exact s_|refine M<|M<|M ?_|refine O aA<|O (fM aD)<|O cF ?_)<;>refine Y cD<|Da ?_<;>exact Gj (h:=by(simp_all;done))
 refine Cn ?_ ?_<;>intro i_
 .have F:a_ c=a_ J1/\_:=AK i_;rw[tO,P]at F;rw[b6 ⟨F.1,X⟩];have G:=J 1 X;have m:=J 2 X;have i3:=J 3 X;have s2:=R 2;have s3:=R 3;refine S<|aM a7<|x_ aA<|x_ ((iV aY))<|x_ ((fS N_))<|x_ aA<|x_ ((iV aY))<|x_ ((fS N_))<|x_ (by exact bH Z Z call202 Z (je (a_ (W.getD 2 [])) _ X))<|x_ aA<|x_ ((iV aY))<|x_ ((fS N_))<|x_ (by exact bH Z Z call202 Z (je (a_ (W.getD 3 [])) _ X))<|x_ ((oD MC))<|x_ ((oD uJ))<|Cp [2] (λ_ h=>sa bD h)<|bG<|Kr<|aC ?_;refine cT (H':=[]) (.inr Z) Z (C1 cY bD) (P_ (r:=av (bL ⟨2,a_ (W.getD 1 []),a6,a6,WB (W.getD 2 []),WB (W.getD 3 []),a6,a6,[],j7⟩))) Qq
 have F:¬ (a_ c=a_ J1/\_):=AM i_;rw[tO,P]at F;rw[a8 (λh=>F ⟨h.1,X⟩)];refine S<|aT (t:=51) (n:=9) (A_:=θ (a_ c=⟨#[116,97,103]⟩)&&θ ((3:Int)<(C ((cS s).map S_):Int))) ?_ ?_
 .all_goals refine Y aA<|Y wU<|Dm ?_<;>(refine Sp 54 (λh54=>?_) λh54=>?_)<;>(first|exact s_|refine M<|M<|M ?_|refine O aA<|O (fM aD)<|O iX ?_)<;>refine Y cD<|Da ?_<;>exact Gj (h:=by(simp_all;done))
 refine Cn ?_ ?_<;>intro u4
 .have K:a_ c=a_ BJ/\_:=AK u4;rw[tO,P]at K;rw[b6 ⟨K.1,X⟩];have G:=J 1 X;have m:=J 2 X;have o_:bs ((cS s).drop 3)=W.drop 3:=by
   rw[bs,cS,<-p,map_drop,map_map];congr 1;exact(map_congr_left λx _=>cG x).trans (map_id _)
  have hj:∀H,RC 204 [.pv (aK ((cS s).drop 3)),sv ⟨#[32]⟩] (sv (a_ (bT [32] (W.drop 3)))) H:=λH=>by
   have:=xM ((cS s).drop 3) ⟨#[32]⟩ H E_ (by show 1*_+_+_<_;omega);rw[o_]at this;exact this
  have Q:N (a_ (bT [32] (W.drop 3)))<2^40:=by
   have:=gA ((cS s).drop 3);rw[o_]at this;rw[cA];omega
  have ⟨g,hJ⟩:∃g,g=a_ (bT [32] (W.drop 3)):=X_;rw[<-hJ]at Q |-;simp only[<-hJ]at hj;have β:C ((fO g).1.map K_)=C (fO g).1:=g_ _;refine U aA<|Y (by exact eM (l:=3) (h:=C ((cS s).map S_)) (rows':=((cS s).drop 3).map S_) Z aY Z (JK _) Z Z X (h_ _) (by rw[take_length];exact map_drop.symm))<|Y (kc sA (hj _))<|Y (kc call203 (aAV g _ Q))<|Y aA<|Y dO<|Y dO<|Y dO<|Y aH<|Y aH<|V aH<|U aA<|Y (fM cU)<|V cF ?_;refine Cn ?_ ?_<;>intro t
  .have d:C (fO g).1=1:=I_ t
   have ⟨f,o⟩:=length_eq_one_iff.1 d;rw[o];have ρ:([f].map K_)[0]?=A [.int .i64 f.kind,.str f.text,.int .i64 f.pos]:=rfl;refine S<|aM a7<|x_ aA<|x_ ((iV aY))<|x_ ((fS N_))<|x_ aA<|x_ ((iV aY))<|x_ ((fS N_))<|x_ aA<|x_ ((iV iI))<|x_ ((F9 iN))<|x_ ((fS N_))<|x_ ((oD uJ))<|Cp [2] (λ_ h=>sa bD h)<|bG<|Kr<|aC<|cT (H':=[]) (.inr Z) Z (C1 cY bD) (P_ (r:=av (bL ⟨3,a_ (W.getD 1 []),a6,a6,0,0,a_ (W.getD 2 []),f.text,[],j7⟩))) Qq
  have d:C (fO g).1≠1:=J_ t
  split
  .next f o=>rw[o]at d;exact absurd Z d
  refine aB<|U (oD uJ)<|Uu (jG bD)<|Zz<|aC<|cT (H':=[]) (.inr Z) Z (C1 cY bD) (P_ (r:=av (bL OZ))) Qq
 have K:¬ (a_ c=a_ BJ/\_):=AM u4;rw[tO,P]at K;rw[a8 (λh=>K ⟨h.1,X⟩)];refine S<|aT (t:=81) (n:=9) (A_:=θ (a_ c=⟨#[114,101,102,115]⟩)&&θ ((1:Int)<(C ((cS s).map S_):Int))) ?_ ?_
 .all_goals refine Y aA<|Y wU<|Dm ?_<;>(refine Sp 84 (λv_=>?_) λv_=>?_)<;>(first|exact s_|refine M<|M<|M ?_|refine O aA<|O (fM aD)<|O iX ?_)<;>refine Y cD<|Da ?_<;>exact Gj (h:=by(simp_all;done))
 refine Cn ?_ ?_<;>intro D
 .have d:a_ c=a_ J0/\_:=AK D;rw[tO,P]at d;rw[b6 ⟨d.1,X⟩];have G:=J 1 X;refine S<|aM a7<|x_ aA<|x_ ((iV aY))<|x_ ((fS N_))<|x_ aA<|x_ (by exact eM (l:=2) (h:=C ((cS s).map S_)) (rows':=((W.drop 2).map a_).map S_) Z aY Z (JK _) Z Z X (h_ _) (by rw[take_length,cS,<-p,map_drop,map_drop];rfl))<|x_ ((oD uJ))<|Cp [2] (λ_ h=>sa bD h)<|bG<|Kr<|aC ?_;refine cT (H':=[]) (.inr Z) Z (C1 cY bD) (P_ (r:=av (bL ⟨4,a_ (W.getD 1 []),a6,a6,0,0,a6,a6,(W.drop 2).map a_,j7⟩))) ?_;exact Qq
 have d:¬ (a_ c=a_ J0/\_):=AM D;rw[tO,P]at d;rw[a8 (λh=>d ⟨h.1,X⟩)];refine S<|aT (t:=95) (n:=9) (A_:=θ (a_ c=⟨#[100,114,111,112]⟩)&&θ ((C ((cS s).map S_):Int)=2)) ?_ ?_
 .all_goals refine Y aA<|Y wU<|Dm ?_<;>(refine Sp 98 (λy_=>?_) λy_=>?_)<;>(first|exact s_|refine M<|M<|M ?_|refine O aA<|O (fM aD)<|O cF ?_)<;>refine Y cD<|Da ?_<;>exact Gj (h:=by(simp_all;done))
 refine Cn ?_ ?_<;>intro L
 .have v:a_ c=a_ J3/\_:=AK L;rw[tO,P]at v;rw[b6 ⟨v.1,X⟩];have G:=J 1 X;refine U aA<|Y (iV aY)<|Y (fS N_)<|Y (oD uJ)<|Uu (jG bD)<|Zz<|aC<|cT (H':=[]) (.inr Z) Z (C1 cY bD) (P_ (r:=av (bL ⟨5,a_ (W.getD 1 []),a6,a6,0,0,a6,a6,[],j7⟩))) Qq
 have v:¬ (a_ c=a_ J3/\_):=AM L;rw[tO,P]at v;rw[a8 (λh=>v ⟨h.1,X⟩)];refine S<|aT (t:=107) (n:=9) (A_:=θ (a_ c=⟨#[115,112,108,105,116]⟩)&&θ ((C ((cS s).map S_):Int)=4)) ?_ ?_
 .all_goals refine Y aA<|Y wU<|Dm ?_<;>(refine Sp 110 (λP=>?_) λP=>?_)<;>(first|exact s_|refine M<|M<|M ?_|refine O aA<|O (fM aD)<|O cF ?_)<;>refine Y cD<|Da ?_<;>exact Gj (h:=by(simp_all;done))
 refine Cn ?_ ?_<;>intro y
 .have j:a_ c=a_ CP/\_:=AK y;rw[tO,P]at j;rw[b6 ⟨j.1,X⟩];have G:=J 1 X;have m:=J 2 X;have i3:=J 3 X;refine S<|aM a7<|x_ aA<|x_ ((iV aY))<|x_ ((fS N_))<|x_ aA<|x_ ((iV aY))<|x_ ((fS N_))<|x_ aA<|x_ ((iV aY))<|x_ ((fS N_))<|x_ ((oD uJ))<|Cp [2] (λ_ h=>sa bD h)<|bG<|Kr<|aC<|cT (H':=[]) (.inr Z) Z (C1 cY bD) (P_ (r:=av (bL ⟨6,a_ (W.getD 1 []),a_ (W.getD 3 []),a_ (W.getD 2 []),0,0,a6,a6,[],j7⟩))) Qq
 have j:¬ (a_ c=a_ CP/\_):=AM y;rw[tO,P]at j;rw[a8 (λh=>j ⟨h.1,X⟩)];refine S<|aT (t:=125) (n:=9) (A_:=θ (a_ c=⟨#[106,111,105,110]⟩)&&θ ((C ((cS s).map S_):Int)=3)) ?_ ?_
 .all_goals refine Y aA<|Y wU<|Dm ?_<;>(refine Sp 128 (λd_=>?_) λd_=>?_)<;>(first|exact s_|refine M<|M<|M ?_|refine O aA<|O (fM aD)<|O cF ?_)<;>refine Y cD<|Da ?_<;>exact Gj (h:=by(simp_all;done))
 refine Cn ?_ ?_<;>intro f_
 .have u:a_ c=a_ J2/\_:=AK f_;rw[tO,P]at u;rw[b6 ⟨u.1,X⟩];have G:=J 1 X;have m:=J 2 X;refine S<|aM a7<|x_ aA<|x_ ((iV aY))<|x_ ((fS N_))<|x_ aA<|x_ ((iV aY))<|x_ ((fS N_))<|x_ ((oD uJ))<|Cp [2] (λ_ h=>sa bD h)<|bG<|Kr<|aC<|cT (H':=[]) (.inr Z) Z (C1 cY bD) (P_ (r:=av (bL ⟨7,a_ (W.getD 1 []),a_ (W.getD 2 []),a6,0,0,a6,a6,[],j7⟩))) Qq
 have u:¬ (a_ c=a_ J2/\_):=AM f_;rw[tO,P]at u;rw[a8 (λh=>u ⟨h.1,X⟩)];refine aB<|U (oD uJ)<|Uu (jG bD)<|Zz<|aC<|cT (H':=[]) (.inr Z) Z (C1 cY bD) (P_ (r:=av (bL OZ))) Qq
def IB(l:List b8):List (List AV):=l.map λe=>(bL e).map AV.pv
theorem YV(l):C (IB l)=C l:=g_ _
theorem YW(l)(e):IB l++[(bL e).map AV.pv]=IB (l++[e]):=by rw[IB,IB,map_append];rfl
theorem xZ(H)(l):∀r∈IB l,∀a∈r,Clo H a:=by intro r c a b;obtain ⟨d,_,rfl⟩:=mem_map.1 c;obtain ⟨p,_,rfl⟩:=mem_map.1 b;simp
instance(H)(l):W_ (H) (IB l):=⟨xZ H l⟩
theorem cb(H)(s):∀r∈(lB s).rows,∀a∈r,Clo H a:=by intro r c a b;simp[lB,bx,q9]at c;subst c;rw[q9]at b;subst b;simp
instance(H)(s):W_ (H) ((lB s).rows):=⟨cb H s⟩
def pcE(t:B_):dG:=[(0,sv t),(4,.ref 4 0 0 0)]
def lnE(t:B_)(k:Nat):b8:=nZ (EV (AB (jS t k))).data.toList
def PG(t:B_)(k:Nat):List b8:=(List.range k).map (lnE t)
theorem Dv(t)(k):PG t (k+1)=PG t k++[lnE t k]:=by rw[PG,range_succ,map_append];rfl
theorem TP(t)(k):C (PG t k)=k:=by rw[PG,g_,length_range]
theorem TQ(t):PG t (C (jE t))=(rW (ν (μ t))).map λs=>nZ (Lib.trimSuffix s [10]):=by
 refine ext_getElem? λk=>?_;rw[PG,r8,r8];by_cases h:k<C (jE t)
 .have b:=(Xr h).1;rw[jE,r8]at b;cases e:(rW _)[k]? with
  |none=>rw[e]at b;cases b
  |some w =>
   rw[e]at b;have b:=Option.some.inj b;rw[getElem?_range h,Option.map_some,lnE,<-b,It];congr 3
 have c:(rW (ν (μ t)))[k]?=ζ:=by
  rw[jE]at h
  simp_all
 rw[c,getElem?_eq_none F_];rfl
def pcK(t s:B_)(k:Nat):aF:=[(933,lB s),(905,⟨k,15,137,IB (PG t k)⟩),(4,bx 1 46 [.osl 905 k 0 k])]
theorem Yj{a b c}{K:aF}(j):aF.get ((904,b)::(933,a)::K) j=aF.get ((933,a)::(904,b)::(933,c)::K) j:=by
 by_cases e:j=904
 .subst e;rfl
 by_cases d:j=933
 .subst d;rfl
 rw[get_cons_other _ _ e,get_cons_other _ _ d,get_cons_other _ _ d,get_cons_other _ _ e,get_cons_other _ _ d]
theorem oi(s):N (EV s)<=N s:=by
 rw[EV]
 split
 all_goals simp_all
theorem TS(s):N (AB s)<=N s:=by
 rw[AB]
 split
 .omega
 rw[<-aS,exL,m_,p_,aS];omega
theorem FL{t}{k}(h:k<=C (jE t)):N (EV (AB (jS t k)))<=N t:=Nat.le_trans (oi _) (Nat.le_trans (TS _) (BQ t k h).2)
theorem XW{w}{n}(h:C w<=n)(B:n<2^62):N (a_ w)<2^62:=by rw[cA];omega
theorem td{s}(a:N s<2^40):nh (vM s).1:=by
 rw[vM]
 split
 .exact⟨E_,⟨E_,λt h=>by cases h⟩,E_,λs a=>by cases a⟩
 split
 .exact XO a
 exact⟨E_,⟨E_,λt h=>by cases h⟩,E_,λs a=>by cases a⟩
theorem CM:nh j7:=⟨E_,⟨E_,λt h=>by cases h⟩,E_,λs a=>by cases a⟩
theorem DB:C ([]:List B_)<2^62/\∀s∈([]:List B_),N s<2^62:=⟨H_,λs a=>by cases a⟩
theorem eY:N a6<2^62:=E_
theorem YK{s:List UInt8}(f:C s<=20000):V4 (nZ s):=by
 have a:∀i,N (a_ ((dV 32 s).getD i []))<2^62:=λi=>by
  refine XW (n:=20000) ?_ E_;rw[getD_eq_getElem?_getD];cases e:(dV 32 s)[i]? with
  |none=>simp_all
  |some w=>exact Nat.le_trans (rO 32 (m7 e)) f
 have c:∀(d x y:Int),V4 ⟨d,a6,a6,a6,x,y,a6,a6,[],j7⟩:=λd x y=>⟨⟨eY,eY,eY,eY⟩,DB,CM⟩;rw[nZ,E6]
 split
 .exact⟨⟨eY,eY,eY,eY⟩,DB,td (by rw[cA,p_];omega)⟩
 split
 .exact⟨⟨a 1,eY,eY,eY⟩,DB,CM⟩
 split
 .split
  .exact⟨⟨a 1,eY,eY,a 2⟩,DB,CM⟩
  exact c _ _ _
 split
 .refine⟨⟨a 1,eY,eY,eY⟩,⟨?_,λx g=>?_⟩,CM⟩
  .have:=count_le_length (l:=s) (a:=32);rw[g_,p_,yC];omega
  obtain ⟨w,b,rfl⟩:=mem_map.1 g;exact XW (n:=20000) (Nat.le_trans (rO 32 (mem_of_mem_drop b)) f) E_
 split
 .exact⟨⟨a 1,eY,eY,eY⟩,DB,CM⟩
 split
 .exact⟨⟨a 1,a 3,a 2,eY⟩,DB,CM⟩
 split
 .exact⟨⟨a 1,a 2,eY,eY⟩,DB,CM⟩
 exact c _ _ _
theorem NL:∀ {t} {n},N t<=n->C (jE t)<=n
 |t,0,h=>by rw[B1 (by omega)];simp_all
 | t,n+1,h=>by
  by_cases a:0<N t
  .rw[(DF a).1];refine Nat.succ_le_succ (NL ?_);rw[TK]
   split
   .exact l7 _
   next d =>
   obtain ⟨w,r,B,D,c,E,b,F⟩:=Od d;rw[c,l_,<-szY,b];omega
  rw[B1 a];simp_all
theorem Lz(t:B_)(H:aF)(e_:N t<2^40):RC 101 [sv t] (.tup [.pv (kP (iL t).1),iv (iL t).2]) H:=by
 refine Pu ?_;rw[iL,<-TQ];refine Bd func101 Z ntmps101<|U aH<|V aH<|S<|U aA<|Y (gL U_)<|V iX<|Cn ?_ ?_<;>intro g
 .have v:20000<N t:=I_ g
  rw[b6 v];exact U aH<|V aH<|aC<|Ru<|Qq
 have v:¬ 20000<N t:=J_ g
 rw[a8 v];refine aB<|Sz (kl 4 aDB)<|S<|U aA<|V (kc call142 (Xq t _ Z))<|aE ?_;have ⟨n,K⟩:∃n,n=C (jE t):=X_;have W:n<=20000:=by rw[K];exact NL X
 refine fW.ent (E':=[(0,sv t),(4,.ref 4 0 0 0),(12,.clo 198 [.ref 933 0 0 0])]) (H':=[(905,⟨0,15,137,[]⟩),(933,lB t),(4,bx 1 46 [.osl 905 0 0 0])]) ?_ ?_
 .exact (Q_ 905 15 137)
 refine fW.ent (E':=[(0,sv t),(4,.ref 4 0 0 0),(12,.clo 198 [.ref 933 0 0 0])]) (H':=pcK t t 0) L_<|CH (id:=904) (p:=13) (pcE t) Z call198 Z Z (by simp[pcE];exact⟨Z,Z⟩) ?_;intro x D i B o q y;have b:∀k,k<n->dQ φ (.yld 904 0) [sv (AB (jS t k))] ((904,LR x (pcE t))::pcK t (jS t (k+1)) k) (λr H'=>r=bv T/\H'=(904,LR x (pcE t))::pcK t (jS t (k+1)) (k+1)):=by
  intro k E;have w:=Dv t k;have G:=TP t k;have R:=FL (t:=t) (k:=k) X;have Q:N (AB (jS t k))<=N t:=Nat.le_trans (TS _) (BQ t k X).2;refine .inl ⟨904,0,Z,?_⟩;refine MS [(0,sv t),(4,.ref 4 0 0 0),(5,sv (AB (jS t k)))] (pcK t (jS t (k+1)) k) D i B o q y Z Z Z ?_ ?_
  .refine Rg<|Da ?_;exact(cH.wk (Eb<|Ea<|Eb<|T_) (Hc (oI (by simp[pcE];rfl))<|Hc (cb _ _)<|Hc (xZ _ _)<|Ha<|T_) ⟨Z,Z,Z,Z,T_⟩)
  refine aE<|aM a7<|Cs (λ_ h=>lh pG h)<|Cs (λ_ _=>aA)<|Cs (λm c=>by exact bH Z Z call144 Z (oh (AB (jS t k)) _ X))<|Cs (λm c=>by exact bH Z Z call143 Z (Vj (EV (AB (jS t k))) _ X))<|Cs (λm c=>by exact aL [bL (lnE t k)] Z fo Z Z Z Z Z R_) ?_;refine iP (r:=⟨_,ζ,[_]⟩) (DStep.plain Z (λm c=>by exact bW (ps:=[bL (lnE t k)]) Z fo aAZ Z ((c _ Z).trans Z) Z Z Z ((YV _).trans G) Z R_ (m:=1) Z X Z (YW (PG t k) (lnE t k)))) Z ?_;refine iP (r:=⟨_,ζ,[_]⟩) (DStep.plain Z (λm c=>by exact(mE Z sizeOf46 Z Z Z Z ((c _ Z).trans Z) Z Z Z))) Z ?_;refine bG<|Kr ?_;exact⟨[(933,lB (jS t (k+1))),(905,⟨k+1,15,137,IB (PG t k++[lnE t k])⟩),(4,bx 1 46 [.osl 905 (k+1) 0 (k+1)])],(cH.wk T_ (Hc (oI (by simp[pcE];rfl))<|Hc (cb _ _)<|Hc (xZ _ _)<|Ha<|T_) ⟨Z,Z,Z,Z,T_⟩),Z,by rw[<-w];rfl⟩
 refine(Nn t (.yld 904 0) (λk=>(904,LR x (pcE t))::pcK t (jS t k) k) e_ (λk=>rfl) (λk E=>?_)).mono ?_
 .exact dQ.congrG (b k X) (λj=>Yj j) (λj=>rfl)
 rintro r H' ⟨rfl,rfl⟩;refine⟨x,_,Z,F_,Z,λz=>?_⟩;rw[i];have ⟨L,l⟩:∃L,L=PG t n:=X_;have P:C L=n:=by rw[l];exact TP t n
 rw[<-K,<-l];have u:∀e∈L,V4 e:=λe J=>by
  rw[l,PG]at J;obtain ⟨k,E,rfl⟩:=mem_map.1 J;have:=FL (t:=t) (k:=k) (by have:=mem_range.1 E;omega);exact YK i8
 refine S<|S ?_;refine fW.ent (cH.fzG (id:=905) (E':=[(0,sv t),(4,.ref 4 0 0 0)]) (H':=[(4,bx 1 46 [.pv (kP L)])]) (L.map bL) Z (by rw[l];exact KG bL _) ?_ Z ?_ ?_) ?_
 .intro p I;simp only[l9,q8,or_false]at I;rcases I with rfl|rfl<;>exact⟨_,Z,.same (by simp;try rfl)⟩
 .exact⟨⟨_,Z,Z,Z,Z,jO Z (bA (.osl (by rw[<-P];exact lC bL L)) jA)⟩,T_⟩
 .exact T_
 refine Rd (bQ pG)<|Y (kc call145 (vw L _ X u))<|Y aA<|Y dO<|Y dO<|Y aH<|V aH<|S<|aT (t:=31) (n:=8) (A_:=!θ ((eG L).2=0)||!θ ((eG L).1=t)) ?_ ?_
 .all_goals refine Y aA<|Y xI<|Dm ?_<;>(refine Sp 27 (λa=>?_) λa=>?_)<;>(first|exact s_|refine M<|M<|M ?_|refine O aA<|O aA<|O E4 ?_)<;>refine V cD ?_<;>exact Gj (h:=by(simp_all;done))
 refine Cn ?_ ?_<;>intro d
 .have s:eG L≠(t,0):=λe=>by have h:=d;rw[e]at h;simp at h
  rw[a8 s];exact U aH<|V aH<|aC<|Ru<|Qq
 have F:eG L=(t,0):=by have h:=d;simp only[q_,Bool.not_eq_false',k_]at h;exact Prod.ext h.2 h.1
 rw[b6 F];exact aB<|U (bQ pG)<|Y aH<|V aH<|aC<|Ru<|Qq
end Go.Proofs.C
namespace Go.Proofs.C
open Go.Proofs.Tryz
open Go.Abs Go.Lib
variable{α:Type}
theorem S2(t):∀e∈(iL t).1,V4 e:=by
 intro e a;rw[iL]at a
 split at a
 .cases a
 next B =>
 split at a
 .rw[<-TQ]at a;obtain ⟨k,b,rfl⟩:=mem_map.1 a;have:=FL (t:=t) (k:=k) (by have:=mem_range.1 b;omega);exact YK i8
 cases a
theorem OM(t):C (iL t).1<=20000:=by
 rw[iL]
 split
 .simp_all
 next B =>
 split
 .rw[<-TQ,TP];exact NL X
 simp_all
def M4{α:Type}(f:List UInt8->Option (α×List UInt8))(d:α)(l:List UInt8):α×List UInt8:=(f l).getD (d,l)
def p0(t:List UInt8):=M4 pF a6 t
def p1(t:List UInt8):=M4 xW 0 (p0 t).2
def p2(t:List UInt8):=M4 xW 0 (p1 t).2
def p3(t:List UInt8):=M4 xW 0 (p2 t).2
def p4(t:List UInt8):=M4 xW 0 (p3 t).2
def p5(t:List UInt8):=M4 pF a6 (p4 t).2
def p6(t:List UInt8):=M4 (DH pF) [] (p5 t).2
def p7(t:List UInt8):=M4 pF a6 (p6 t).2
def p8(t:List UInt8):=M4 pF a6 (p7 t).2
def p9(t:List UInt8):=M4 pF a6 (p8 t).2
def ng(t:List UInt8):=M4 xW 0 (p9 t).2
def nf(t:List UInt8):=M4 pF a6 (ng t).2
def iq(t:List UInt8):=M4 Bw zS (nf t).2
def nc(t:List UInt8):=M4 pF a6 (iq t).2
def mz(t:List UInt8):=M4 pF a6 (nc t).2
def my(t:List UInt8):=M4 (DH pF) [] (mz t).2
def mx(t:List UInt8):=M4 (DH SU) [] (my t).2
def Sx(t:List UInt8):=M4 Bw zS (mx t).2
def BZ:B_:=⟨#[49]⟩
def KJ(t:List UInt8):j_:=⟨(p1 t).1,(p2 t).1,(p3 t).1,(p4 t).1,(p5 t).1,(p6 t).1,(iL (p7 t).1).1,(p8 t).1,θ ((p9 t).1=BZ),(ng t).1,(nf t).1,(iq t).1,⟨(nc t).1,(mz t).1,(my t).1,(mx t).1,(Sx t).1⟩⟩
def bc(t:List UInt8):List Bool:=[(pF t).isSome,(xW (p0 t).2).isSome,(xW (p1 t).2).isSome,(xW (p2 t).2).isSome,(xW (p3 t).2).isSome,(pF (p4 t).2).isSome,((DH pF) (p5 t).2).isSome,(pF (p6 t).2).isSome,(pF (p7 t).2).isSome,(pF (p8 t).2).isSome,(xW (p9 t).2).isSome,(pF (ng t).2).isSome,(Bw (nf t).2).isSome,(pF (iq t).2).isSome,(pF (nc t).2).isSome,((DH pF) (mz t).2).isSome,((DH SU) (my t).2).isSome,(Bw (mx t).2).isSome]
def xG(t:List UInt8):Bool:=(bc t).all id
def eB(t:List UInt8):j_×Int:=if 20000<C t then(zR,2)else if xG t=T/\mS (KJ t)=(a_ t,0)then(KJ t,0)else(zR,5)
theorem lM{f}{d}{l}{e:α->AV}:((f l).map λp=>(e p.1,p.2)).getD (e d,l)=(e (M4 f d l).1,(M4 f d l).2):=by rw[M4];cases f l<;>rfl
theorem oT{f}{d:α}{l}(h:∀p q,f l=A (p,q)->C q<C l):C (M4 f d l).2<=C l:=by
 rw[M4];cases e:f l with
 |none=>simp_all
 |some p=>grind
theorem ZS{l q}{s}(h:Bw l=A (s,q)):C q<C l/\qP s.idx/\(C s.sig<=C l/\∀x∈s.sig,N x<=C l)/\(C s.path<=C l/\∀x∈s.path,N x<=C l):=by
 rw[Bw]at h;cases e:xW l with
 |none=>simp_all
 | some p =>
  have ⟨i,r⟩:=p;have g:=kS e;rw[e]at h;simp at h;cases d:DH _ r with
  |none=>rw[d]at h;cases h
  | some p =>
   have ⟨a,r2⟩:=p;have j:=AC d;rw[d]at h;simp at h;cases c:DH _ _ with
   |none=>rw[c]at h;cases h
   |some p =>
    have f:=AC c;rw[c]at h;cases h;exact⟨X,g.2,⟨G_,λx b=>by have:=j.2 x b;omega⟩,G_,λx b=>by have:=f.2 x b;omega⟩
theorem wV{f}{d}{l}(Q:α->Prop)(B:Q d)(h:∀p q,f l=A (p,q)->Q p):Q (M4 f d l).1:=by
 rw[M4];cases e:f l with
 |none=>exact B
 |some p=>grind
theorem Mj(t):C (p0 t).2<=C t:=oT (λp q h=>by have:=lO h;omega)
theorem Mi(t):C (p1 t).2<=C t:=Nat.le_trans (oT (λp q h=>(kS h).1)) (Mj t)
theorem Mh(t):C (p2 t).2<=C t:=Nat.le_trans (oT (λp q h=>(kS h).1)) (Mi t)
theorem Mg(t):C (p3 t).2<=C t:=Nat.le_trans (oT (λp q h=>(kS h).1)) (Mh t)
theorem qn(t):C (p4 t).2<=C t:=Nat.le_trans (oT (λp q h=>(kS h).1)) (Mg t)
theorem qm(t):C (p5 t).2<=C t:=Nat.le_trans (oT (λp q h=>by have:=lO h;omega)) (qn t)
theorem ql(t):C (p6 t).2<=C t:=Nat.le_trans (oT (λp q h=>by have:=(AC h).1;omega)) (qm t)
theorem qk(t):C (p7 t).2<=C t:=Nat.le_trans (oT (λp q h=>by have:=lO h;omega)) (ql t)
theorem Mf(t):C (p8 t).2<=C t:=Nat.le_trans (oT (λp q h=>by have:=lO h;omega)) (qk t)
theorem Me(t):C (p9 t).2<=C t:=Nat.le_trans (oT (λp q h=>by have:=lO h;omega)) (Mf t)
theorem aq(t):C (ng t).2<=C t:=Nat.le_trans (oT (λp q h=>(kS h).1)) (Me t)
theorem an(t):C (nf t).2<=C t:=Nat.le_trans (oT (λp q h=>by have:=lO h;omega)) (aq t)
theorem al(t):C (iq t).2<=C t:=Nat.le_trans (oT (λp q h=>(ZS h).1)) (an t)
theorem ak(t):C (nc t).2<=C t:=Nat.le_trans (oT (λp q h=>by have:=lO h;omega)) (al t)
theorem aj(t):C (mz t).2<=C t:=Nat.le_trans (oT (λp q h=>by have:=lO h;omega)) (ak t)
theorem ai(t):C (my t).2<=C t:=Nat.le_trans (oT (λp q h=>by have:=(AC h).1;omega)) (aj t)
theorem ah(t):C (mx t).2<=C t:=Nat.le_trans (oT (λp q h=>by have:=(yf h).1;omega)) (ai t)
theorem Wc(t):C (Sx t).2<=C t:=Nat.le_trans (oT (λp q h=>(ZS h).1)) (ah t)
theorem Jo{l q}{s}{n}(h:Bw l=A (s,q))(F:C l<=n):qP s.idx/\(C s.sig<=n/\∀x∈s.sig,N x<=n)/\(C s.path<=n/\∀x∈s.path,N x<=n):=by
 have ⟨_,B,D,E⟩:=ZS h
 grind
theorem aDK(t:List UInt8):qP zS.idx/\(C zS.sig<=C t/\∀x∈zS.sig,N x<=C t)/\(C zS.path<=C t/\∀x∈zS.path,N x<=C t):=by simp[zS,qP]
theorem aEB(t):(qP) (p1 t).1:=wV _ (⟨H_,H_⟩) (λp q h=>(kS h).2)
theorem aDz(t):(qP) (p2 t).1:=wV _ (⟨H_,H_⟩) (λp q h=>(kS h).2)
theorem aDx(t):(qP) (p3 t).1:=wV _ (⟨H_,H_⟩) (λp q h=>(kS h).2)
theorem aDv(t):(qP) (p4 t).1:=wV _ (⟨H_,H_⟩) (λp q h=>(kS h).2)
theorem aDt(t):(λs=>N s<=C t) (p5 t).1:=by exact wV (f:=pF) (λs=>N s<=C t) ((l7 _)) (λp q h=>by have:=lO h;have:=qn t;omega)
theorem aDr(t):(λl=>C l<=C t/\∀x∈l,N x<=C t) (p6 t).1:=by exact wV (f:=(DH pF)) (λl=>C l<=C t/\∀x∈l,N x<=C t) (⟨l7 _,H_⟩) (λp q h=>by have a:=AC h;have B:=qm t;exact⟨X,λx b=>by have:=a.2 x b;omega⟩)
theorem aDp(t):(λs=>N s<=C t) (p7 t).1:=by exact wV (f:=pF) (λs=>N s<=C t) ((l7 _)) (λp q h=>by have:=lO h;have:=ql t;omega)
theorem aDn(t):(λs=>N s<=C t) (p8 t).1:=by exact wV (f:=pF) (λs=>N s<=C t) ((l7 _)) (λp q h=>by have:=lO h;have:=qk t;omega)
theorem aBe(t):(qP) (ng t).1:=wV _ (⟨H_,H_⟩) (λp q h=>(kS h).2)
theorem aBc(t):(λs=>N s<=C t) (nf t).1:=by exact wV (f:=pF) (λs=>N s<=C t) ((l7 _)) (λp q h=>by have:=lO h;have:=aq t;omega)
theorem aBa(t):(λs=>qP s.idx/\(C s.sig<=C t/\∀x∈s.sig,N x<=C t)/\(C s.path<=C t/\∀x∈s.path,N x<=C t)) (iq t).1:=by unfold iq;exact wV (λs:q6=>qP _/\(C s.sig<=C t/\∀x∈s.sig,N x<=C t)/\(C s.path<=C t/\∀x∈s.path,N x<=C t)) (aDK t) (λp q h=>Jo h (an t))
theorem aB8(t):(λs=>N s<=C t) (nc t).1:=by exact wV (f:=pF) (λs=>N s<=C t) ((l7 _)) (λp q h=>by have:=lO h;have:=al t;omega)
theorem aB6(t):(λs=>N s<=C t) (mz t).1:=by exact wV (f:=pF) (λs=>N s<=C t) ((l7 _)) (λp q h=>by have:=lO h;have:=ak t;omega)
theorem aB4(t):(λl=>C l<=C t/\∀x∈l,N x<=C t) (my t).1:=by exact wV (f:=(DH pF)) (λl=>C l<=C t/\∀x∈l,N x<=C t) (⟨l7 _,H_⟩) (λp q h=>by have a:=AC h;have B:=aj t;exact⟨X,λx b=>by have:=a.2 x b;omega⟩)
theorem aB2(t):(λl=>C l<=C t/\∀q∈l,qP q.1/\qP q.2) (mx t).1:=by exact wV (f:=(DH SU)) (λl=>C l<=C t/\∀q∈l,qP q.1/\qP q.2) (⟨l7 _,H_⟩) (λp q h=>by have a:=yf h;have B:=ai t;exact⟨X,a.2⟩)
theorem aB0(t):(λs=>qP s.idx/\(C s.sig<=C t/\∀x∈s.sig,N x<=C t)/\(C s.path<=C t/\∀x∈s.path,N x<=C t)) (Sx t).1:=by unfold Sx;exact wV (λs:q6=>qP _/\(C s.sig<=C t/\∀x∈s.sig,N x<=C t)/\(C s.path<=C t/\∀x∈s.path,N x<=C t)) (aDK t) (λp q h=>Jo h (ah t))
theorem Kn{r4:Nat}(hN:r4<=20000){k a n c t:Int}{u s v nm w:B_}{pa m:List B_}{i:List b8}{y:Bool}{sl ps:q6}{f}(B:qP k)(I:qP a)(D:qP n)(H:qP c)(o:qP t)(h5:N u<=r4)(h8:N s<=r4)(L:N v<=r4)(P:N nm<=r4)(Q:N w<=r4)
  (r:C pa<=r4/\∀x∈pa,N x<=r4) (p:C m<=r4/\∀x∈m,N x<=r4) (R:C f<=r4/\∀q∈f,qP q.1/\qP q.2) (he:C i<=20000) (j:∀e∈i,V4 e)
  (d:qP sl.idx/\(C sl.sig<=r4/\∀x∈sl.sig,N x<=r4)/\(C sl.path<=r4/\∀x∈sl.path,N x<=r4)) (g:qP ps.idx/\(C ps.sig<=r4/\∀x∈ps.sig,N x<=r4)/\(C ps.path<=r4/\∀x∈ps.path,N x<=r4)) :
  mT ⟨k,a,n,c,u,pa,i,s,y,t,v,sl,⟨nm,w,m,f,ps⟩⟩/\C pa<549755813888:=by
 have b:∀ {l:List B_},(C l<=r4/\∀x∈l,N x<=r4)->rf l:=λh=>⟨X,λx G=>by have:=h.2 x G;omega⟩;have ⟨z,K,E⟩:=d;have ⟨J,W,F⟩:=g;exact⟨⟨⟨B,I,D,H,o⟩,⟨G_,G_,G_⟩,b r,⟨G_,j⟩,⟨z,b K,b E⟩,G_,G_,b p,G_,J,b W,b F⟩,by have:=r.1;omega⟩
theorem gf{t}(a:C t<=20000):mT (KJ t)/\C (KJ t).parents<549755813888 :=Kn a (aEB t) (aDz t) (aDx t) (aDv t) (aBe t) (aDt t) (aDn t) (aBc t) (aB8 t) (aB6 t) (aDr t) (aB4 t) (aB2 t) (OM _) (S2 _) (aBa t) (aB0 t)
theorem eW{β:Type}{o:Option _}{g:α->β}:(o.map g=ζ↔o.isSome=η)/\((o.map g).isSome=o.isSome):=H_
theorem oU{t}{b}(h:b∈bc t)(B:b=η):xG t=η:=by
 rw[xG]
 simp_all
theorem aFl(t):(LC t).getD (sv a6,t)=(sv (p0 t).1,(p0 t).2):=by exact lM
theorem aEL(t)(h:LC t=ζ):xG t=η:=oU (mem_of_getElem? (i:=0) Z) (eW.1.1 h)
theorem aFk(t):(FG (p0 t).2).getD (iv 0,(p0 t).2)=(iv (p1 t).1,(p1 t).2):=by exact lM
theorem aEC(t)(h:FG (p0 t).2=ζ):xG t=η:=oU (mem_of_getElem? (i:=1) Z) (eW.1.1 h)
theorem aFj(t):(FG (p1 t).2).getD (iv 0,(p1 t).2)=(iv (p2 t).1,(p2 t).2):=by exact lM
theorem aEA(t)(h:FG (p1 t).2=ζ):xG t=η:=oU (mem_of_getElem? (i:=2) Z) (eW.1.1 h)
theorem aFi(t):(FG (p2 t).2).getD (iv 0,(p2 t).2)=(iv (p3 t).1,(p3 t).2):=by exact lM
theorem aDy(t)(h:FG (p2 t).2=ζ):xG t=η:=oU (mem_of_getElem? (i:=3) Z) (eW.1.1 h)
theorem aFh(t):(FG (p3 t).2).getD (iv 0,(p3 t).2)=(iv (p4 t).1,(p4 t).2):=by exact lM
theorem aDw(t)(h:FG (p3 t).2=ζ):xG t=η:=oU (mem_of_getElem? (i:=4) Z) (eW.1.1 h)
theorem aFg(t):(LC (p4 t).2).getD (sv a6,(p4 t).2)=(sv (p5 t).1,(p5 t).2):=by exact lM
theorem aDu(t)(h:LC (p4 t).2=ζ):xG t=η:=oU (mem_of_getElem? (i:=5) Z) (eW.1.1 h)
theorem aFf(t):(Dy (p5 t).2).getD (.pv (aK []),(p5 t).2)=(.pv (aK (p6 t).1),(p6 t).2):=by exact lM (e:=λv=>.pv _)
theorem aDs(t)(h:Dy (p5 t).2=ζ):xG t=η:=oU (mem_of_getElem? (i:=6) Z) (eW.1.1 h)
theorem aFe(t):(LC (p6 t).2).getD (sv a6,(p6 t).2)=(sv (p7 t).1,(p7 t).2):=by exact lM
theorem aDq(t)(h:LC (p6 t).2=ζ):xG t=η:=oU (mem_of_getElem? (i:=7) Z) (eW.1.1 h)
theorem aFd(t):(LC (p7 t).2).getD (sv a6,(p7 t).2)=(sv (p8 t).1,(p8 t).2):=by exact lM
theorem aDo(t)(h:LC (p7 t).2=ζ):xG t=η:=oU (mem_of_getElem? (i:=8) Z) (eW.1.1 h)
theorem aFc(t):(LC (p8 t).2).getD (sv a6,(p8 t).2)=(sv (p9 t).1,(p9 t).2):=by exact lM
theorem aDm(t)(h:LC (p8 t).2=ζ):xG t=η:=oU (mem_of_getElem? (i:=9) Z) (eW.1.1 h)
theorem aEK(t):(FG (p9 t).2).getD (iv 0,(p9 t).2)=(iv (ng t).1,(ng t).2):=by exact lM
theorem aBf(t)(h:FG (p9 t).2=ζ):xG t=η:=oU (mem_of_getElem? (i:=10) Z) (eW.1.1 h)
theorem aEJ(t):(LC (ng t).2).getD (sv a6,(ng t).2)=(sv (nf t).1,(nf t).2):=by exact lM
theorem aBd(t)(h:LC (ng t).2=ζ):xG t=η:=oU (mem_of_getElem? (i:=11) Z) (eW.1.1 h)
theorem aEI(t):(Up (nf t).2).getD (av (lQ zS),(nf t).2)=(av (lQ (iq t).1),(iq t).2):=by exact lM (e:=λv=>av _)
theorem aBb(t)(h:Up (nf t).2=ζ):xG t=η:=oU (mem_of_getElem? (i:=12) Z) (eW.1.1 h)
theorem aEH(t):(LC (iq t).2).getD (sv a6,(iq t).2)=(sv (nc t).1,(nc t).2):=by exact lM
theorem aB9(t)(h:LC (iq t).2=ζ):xG t=η:=oU (mem_of_getElem? (i:=13) Z) (eW.1.1 h)
theorem aEG(t):(LC (nc t).2).getD (sv a6,(nc t).2)=(sv (mz t).1,(mz t).2):=by exact lM
theorem aB7(t)(h:LC (nc t).2=ζ):xG t=η:=oU (mem_of_getElem? (i:=14) Z) (eW.1.1 h)
theorem aEF(t):(Dy (mz t).2).getD (.pv (aK []),(mz t).2)=(.pv (aK (my t).1),(my t).2):=by exact lM (e:=λv=>.pv _)
theorem aB5(t)(h:Dy (mz t).2=ζ):xG t=η:=oU (mem_of_getElem? (i:=15) Z) (eW.1.1 h)
theorem aEE(t):(jm (my t).2).getD (.pv (yD []),(my t).2)=(.pv (yD (mx t).1),(mx t).2):=by exact lM (e:=λv=>.pv _)
theorem aB3(t)(h:jm (my t).2=ζ):xG t=η:=oU (mem_of_getElem? (i:=16) Z) (eW.1.1 h)
theorem aED(t):(Up (mx t).2).getD (av (lQ zS),(mx t).2)=(av (lQ (Sx t).1),(Sx t).2):=by exact lM (e:=λv=>av _)
theorem aB1(t)(h:Up (mx t).2=ζ):xG t=η:=oU (mem_of_getElem? (i:=17) Z) (eW.1.1 h)
theorem Ws(t)(r:(LC t).isSome=T)(o:(FG (p0 t).2).isSome=T)(s:(FG (p1 t).2).isSome=T)(p:(FG (p2 t).2).isSome=T)(l:(FG (p3 t).2).isSome=T)(q:(LC (p4 t).2).isSome=T)(j:(Dy (p5 t).2).isSome=T)(n:(LC (p6 t).2).isSome=T)(m:(LC (p7 t).2).isSome=T)(k:(LC (p8 t).2).isSome=T)(g:(FG (p9 t).2).isSome=T)(c:(LC (ng t).2).isSome=T)(h:(Up (nf t).2).isSome=T)(f:(LC (iq t).2).isSome=T)(b:(LC (nc t).2).isSome=T)(i:(Dy (mz t).2).isSome=T)(d:(jm (my t).2).isSome=T)(e:(Up (mx t).2).isSome=T):xG t=T:=by unfold xG bc;simp[all_cons,List.all_nil,id,Bool.and_true,l6];exact⟨eW.2▸r,eW.2▸o,eW.2▸s,eW.2▸p,eW.2▸l,eW.2▸q,eW.2▸j,eW.2▸n,eW.2▸m,eW.2▸k,eW.2▸g,eW.2▸c,eW.2▸h,eW.2▸f,eW.2▸b,eW.2▸i,eW.2▸d,eW.2▸e⟩
end Go.Proofs.C
namespace Go.Proofs.C
open Go.Proofs.Tryz
open Go.Abs
theorem dw.mono{P}{F}{args}{H}{u}{K b}(h:dw P F args H u K)(f:∀H,K H->b H):dw P F args H u b :=λI ι w vs d j g=>(h I _ w _ d j g).mono λ_ _ _ ⟨v,c,i,a,e,s,q,r⟩=>⟨v,c,i,a,e,s,f _ q,r⟩
def PQ(t:List UInt8)(r:AV)(H:aF):Prop:=r=.tup [av (eA (eB t).1),iv (eB t).2]/\H=[]
abbrev dE:dG:=[(2,.ref 2 0 0 0),(3,.ref 3 0 0 0)]
theorem lq(x)(e){t}(D:eB t=(x,e)):∃r,(∀(a) (w) (I) (ι),Rel I ι (qj x e) w->lS w I ι (qj x e) dE a->∃v,(results f54 a.tmps).run φ w=.ok v w/\VRel w I ι (qj x e) v r)/\∃r' B,Fin [] (qj x e) r B r'/\PQ t r' B :=⟨.tup [av (eA x),iv e],aF8 Z (C1 cQ bJ) (iR Z nJ Z Z Z Z),_,[],Fin.wk H_ T_ T_,by rw[PQ];simp_all⟩
theorem sH{t}{i}{e}{H2}(m:¬ 20000<C t)(B:xG t=η)(r:i=I6)(j:e.get 2=A (.ref 2 0 0 0))(q:e.get 3=A (.ref 3 0 0 0))(p:∃o,H2.get 2=A o/\nB o rAJ)(l:∃o,H2.get 3=A o/\nB o eAJ):
  Aq φ f54 [] (qj zR 0) 97 dcJ (PQ t) (.panic i) e H2:=by
 subst r;have w:eB t=(zR,5):=by rw[eB,a8 m,a8 F_]
 refine⟨.panicking I6,dE,pAJ,.inr ⟨I6,Z,Z⟩,cH.toAny (λu v s=>?_) (λid D c=>?_) (λid n=>?_),dw.mono aBY λH k=>by subst k;exact lq zR 5 w⟩
 .have a:=iS s;simp only[l9,q8,or_false,Prod.mk.injEq]at a;rcases a with⟨rfl,rfl⟩|⟨rfl,rfl⟩
  .exact⟨j,by simp;rfl⟩
  exact⟨q,by simp;rfl⟩
 .have a:=eH c;simp[l9,q8,or_false,Prod.mk.injEq]at a;rcases a with⟨rfl,rfl⟩|⟨rfl,rfl⟩
  .have ⟨o,d,f⟩:=l;exact⟨o,d,f,H_⟩
  have ⟨o,d,f⟩:=p;exact⟨o,d,f,H_⟩
 by_cases h:3=id
 .subst h;rfl
 by_cases g:2=id
 .subst g;rfl
 simp[aF.get,kE h,kE g]at n
theorem XN{t}{x}{e}{b}{H2}(f:eB t=(x,e))(c:cH (qj zR 0) b H2 dE (qj x e)):Aq φ f54 [] (qj zR 0) 97 dcJ (PQ t) .ret b H2 :=⟨.returning,dE,qj x e,.inl ⟨.inr Z,Z⟩,c,dw.mono (aBX x e) λH d=>by subst d;exact lq x e f⟩
theorem P5{x}{o}(h:nB (Hd x) o):nB o rAJ:=⟨h.1.symm,h.2.1.symm,h.2.2.1.symm,h.2.2.2.symm⟩
theorem GK{e}{o}(h:nB (Hf e) o):nB o eAJ:=⟨h.1.symm,h.2.1.symm,h.2.2.1.symm,h.2.2.2.symm⟩
theorem ZU(x):nB (Hd x) rAJ:=⟨Z,Z,Z,Z⟩
theorem ZT(e):nB (Hf e) eAJ:=⟨Z,Z,Z,Z⟩
theorem ic(t:List UInt8)(b:C t<2^40)(H:aF):RC 54 [sv (a_ t)] (.tup [av (eA (eB t).1),iv (eB t).2]) H:=by
 refine aU.pure (show aU φ 54 [sv (a_ t)] [] (PQ t)from ?_) H_ H;have hls:N (a_ t)=C t:=cA t;refine aU.bodyD func54 Z ntmps54 (r_ Z)<|zt<|Rd (kl 2 nx)<|V (kl 3 aAe)<|zt<|U aA<|Y (gL U_)<|V iX<|Cn ?_ ?_<;>intro x
 .have d:20000<C t:=I_ x
  have hg:eB t=(zR,2):=by rw[eB,b6 d]
  refine U (oD UT)<|Uu (jG bJ)<|Uu (jG sizeOf25)<|Zz<|aC<|gD (H':=[]) (.inr Z) Z (fG Z cQ bJ Z Z Z u0 Z) (iR Z nJ Z Z Z Z) P_ ?_;rw[PQ,hg];exact Qq
 have d:¬ 20000<C t:=J_ x
 refine aB<|Eu (F:=97) (cs:=dcJ) Z Z Z Z Z Z Z Z Z call97<|fW.mono (Q:=Aq φ f54 [] (qj zR 0) 97 dcJ (PQ t)) ?_ (λ_ _ _ h=>h);have t0:=aFl t;have n0:=aEL t;have c0:=Mj t;have t1:=aFk t;have n1:=aEC t;have c1:=Mi t;have t2:=aFj t;have n2:=aEA t;have c2:=Mh t;have t3:=aFi t;have n3:=aDy t;have c3:=Mg t;have t4:=aFh t;have n4:=aDw t;have c4:=qn t;have t5:=aFg t;have n5:=aDu t;have c5:=qm t;have t6:=aFf t;have n6:=aDs t;have c6:=ql t;have t7:=aFe t;have n7:=aDq t;have c7:=qk t;have t8:=aFd t;have n8:=aDo t;have c8:=Mf t;have t9:=aFc t;have n9:=aDm t;have c9:=Me t;have t10:=aEK t;have n10:=aBf t;have c10:=aq t;have t11:=aEJ t;have n11:=aBd t;have c11:=an t;have t12:=aEI t;have n12:=aBb t;have c12:=al t;have t13:=aEH t;have n13:=aB9 t;have c13:=ak t;have t14:=aEG t;have n14:=aB7 t;have c14:=aj t;have t15:=aEF t;have n15:=aB5 t;have c15:=ai t;have t16:=aEE t;have n16:=aB3 t;have c16:=ah t;have t17:=aED t;have n17:=aB1 t;have c17:=Wc t;have yes:=Ws t;have o:=gf (t:=t) X;have y:KJ t=⟨(p1 t).1,(p2 t).1,(p3 t).1,(p4 t).1,(p5 t).1,(p6 t).1,(iL (p7 t).1).1,(p8 t).1,θ ((p9 t).1=BZ),(ng t).1,(nf t).1,(iq t).1,⟨(nc t).1,(mz t).1,(my t).1,(mx t).1,(Sx t).1⟩⟩:=rfl;have s7:N (p7 t).1<=C t:=aDp t;have u:eB t=if xG t=T/\mS (KJ t)=(a_ t,0)then(KJ t,0)else(zR,5):=by rw[eB,a8 d]
 rw[y]at o u;have ⟨V0,hV0⟩:∃v,v=(p0 t).1:=X_;have ⟨L0,hL0⟩:∃v,v=(p0 t).2:=X_;have ⟨F,hV1⟩:∃v,v=(p1 t).1:=X_;have ⟨L1,hL1⟩:∃v,v=(p1 t).2:=X_;have ⟨E,hV2⟩:∃v,v=(p2 t).1:=X_;have ⟨L2,hL2⟩:∃v,v=(p2 t).2:=X_;have ⟨I,hV3⟩:∃v,v=(p3 t).1:=X_;have ⟨L3,hL3⟩:∃v,v=(p3 t).2:=X_;have ⟨G,hV4⟩:∃v,v=(p4 t).1:=X_;have ⟨L4,hL4⟩:∃v,v=(p4 t).2:=X_;have ⟨r4,hV5⟩:∃v,v=(p5 t).1:=X_;have ⟨L5,hL5⟩:∃v,v=(p5 t).2:=X_;have ⟨f,hV6⟩:∃v,v=(p6 t).1:=X_;have ⟨L6,hL6⟩:∃v,v=(p6 t).2:=X_;have ⟨V7,hV7⟩:∃v,v=(p7 t).1:=X_;have ⟨L7,hL7⟩:∃v,v=(p7 t).2:=X_;have ⟨V8,hV8⟩:∃v,v=(p8 t).1:=X_;have ⟨L8,hL8⟩:∃v,v=(p8 t).2:=X_;have ⟨V9,hV9⟩:∃v,v=(p9 t).1:=X_;have ⟨L9,hL9⟩:∃v,v=(p9 t).2:=X_;have ⟨n,P⟩:∃v,v=(ng t).1:=X_;have ⟨κ,g⟩:∃v,v=(ng t).2:=X_;have ⟨c,l⟩:∃v,v=(nf t).1:=X_;have ⟨τ,Q⟩:∃v,v=(nf t).2:=X_;have ⟨p,u4⟩:∃v,v=(iq t).1:=X_;have ⟨δ,i⟩:∃v,v=(iq t).2:=X_;have ⟨B,R⟩:∃v,v=(nc t).1:=X_;have ⟨γ,A_⟩:∃v,v=(nc t).2:=X_;have ⟨w,W⟩:∃v,v=(mz t).1:=X_;have ⟨β,j⟩:∃v,v=(mz t).2:=X_;have ⟨z,y_⟩:∃v,v=(my t).1:=X_;have ⟨L15,o_⟩:∃v,v=(my t).2:=X_;have ⟨s,f_⟩:∃v,v=(mx t).1:=X_;have ⟨σ,k⟩:∃v,v=(mx t).2:=X_;have ⟨c_,z_⟩:∃v,v=(Sx t).1:=X_;have ⟨L17,v_⟩:∃v,v=(Sx t).2:=X_;simp only[<-hV0,<-hL0,<-hV1,<-hL1,<-hV2,<-hL2,<-hV3,<-hL3,<-hV4,<-hL4,<-hV5,<-hL5,<-hV6,<-hL6,<-hV7,<-hL7,<-hV8,<-hL8,<-hV9,<-hL9,<-P,<-g,<-l,<-Q,<-u4,<-i,<-R,<-A_,<-W,<-j,<-y_,<-o_,<-f_,<-k,<-z_,<-v_]at t0 n0 c0 t1 n1 c1 t2 n2 c2 t3 n3 c3 t4 n4 c4 t5 n5 c5 t6 n6 c6 t7 n7 c7 t8 n8 c8 t9 n9 c9 t10 n10 c10 t11 n11 c11 t12 n12 c12 t13 n13 c13 t14 n14 c14 t15 n15 c15 t16 n16 c16 t17 n17 c17 yes o u s7;clear y hV0 hL0 hV1 hL1 hV2 hL2 hV3 hL3 hV4 hL4 hV5 hL5 hV6 hL6 hV7 hL7 hV8 hL8 hV9 hL9 P g l Q u4 i R A_ W j y_ o_ f_ k z_ v_;have ρ:=λH=>Lz V7 H X;have ⟨PE,hPE⟩:∃v,v=iL V7:=X_;rw[<-hPE]at ρ o u;clear hPE;have ⟨m,EE⟩:=PE;simp only at ρ o u;have htx:=λH=>ZK ⟨F,E,I,G,r4,f,m,V8,θ (V9=BZ),n,c,p,⟨B,w,z,s,c_⟩⟩ o.1 o.2 H;have ⟨TX,hTX⟩:∃v,v=mS ⟨F,E,I,G,r4,f,m,V8,θ (V9=BZ),n,c,p,⟨B,w,z,s,c_⟩⟩:=X_;rw[<-hTX]at htx u;clear hTX o;refine U aA<|Y (oD aEl)<|Y (kb 980)<|Y (kl 4 aDJ)<|Uu (jG sizeOf125)<|Zz<|S ?_;refine fW.ent (E':=[(0,sv (a_ t)),(2,.ref 2 0 0 0),(3,.ref 3 0 0 0),(4,.ref 4 0 0 0)]) (H':=[(980,mw t),(4,inO),(3,Hf 0),(2,Hd zR)]) L_<|gZ<|iZ Z Z Z (aX Z eD Z Z Z Z Z) ?_
 refine dj Z Z Z (eS Z Z nQ Z (((AU t X).tot t0 Z (gJ _)).mono (PP':=λch H'=>xG t=η/\ch=I6/\∃q,H'=nN q++_) (λ_ _ h=>h) (λch H' ⟨e,J,e3⟩=>⟨n0 e,J,e3⟩))) (λch H' h=>by obtain ⟨e,J,q,rfl⟩:=h;exact sH d e J Z Z ⟨_,Z,ZU _⟩ ⟨_,Z,ZT _⟩) (λh16=>?_);refine RA<|S ?_;refine fW.ent (E':=[(0,sv (a_ t)),(2,.ref 2 0 0 0),(3,.ref 3 0 0 0),(4,.ref 4 0 0 0)]) (H':=[(980,mw L0),(4,inO),(3,Hf 0),(2,Hd zR)]) L_<|zE (λch H1 D=>xG t=η/\ch=I6/\∃q,D=nN q++H1) [2,3] [2,3] [] Z a7 (λch E1 H1 D b hsh hks ⟨e,J,q,e3⟩=>by subst e3;have ⟨o2,k1,k2⟩:=hsh 2 H_ _ Z;have ⟨o3,k3,k4⟩:=hsh 3 H_ _ Z;exact sH d e J ((b 2 H_).trans Z) ((b 3 H_).trans Z) ⟨o2,k1,P5 k2⟩ ⟨o3,k3,GK k4⟩) ?_;refine Pr [4] (λ_ h=>lh eD h)<|wA (r:=⟨_,A [980],nN L1⟩) (.pan Z (λH1 a=>by exact eS Z Z jQ Z (((oP L0 X).tot t1 ((a 980 Z).trans Z) (gJ _)).mono (PP':=λch H'=>xG t=η/\ch=I6/\∃q,H'=nN q++_) (λ_ _ h=>h) (λch H' ⟨e,J,e3⟩=>⟨n1 e,J,e3⟩)))) Z ?_;refine Pr [4] (λ_ h=>lh eD h)<|wA (r:=⟨_,A [980],nN L2⟩) (.pan Z (λH1 a=>by exact eS Z Z jQ Z (((oP L1 X).tot t2 ((a 980 Z).trans Z) (gJ _)).mono (PP':=λch H'=>xG t=η/\ch=I6/\∃q,H'=nN q++_) (λ_ _ h=>h) (λch H' ⟨e,J,e3⟩=>⟨n2 e,J,e3⟩)))) Z ?_;refine Pr [4] (λ_ h=>lh eD h)<|wA (r:=⟨_,A [980],nN L3⟩) (.pan Z (λH1 a=>by exact eS Z Z jQ Z (((oP L2 X).tot t3 ((a 980 Z).trans Z) (gJ _)).mono (PP':=λch H'=>xG t=η/\ch=I6/\∃q,H'=nN q++_) (λ_ _ h=>h) (λch H' ⟨e,J,e3⟩=>⟨n3 e,J,e3⟩)))) Z ?_;refine Pr [4] (λ_ h=>lh eD h)<|wA (r:=⟨_,A [980],nN L4⟩) (.pan Z (λH1 a=>by exact eS Z Z jQ Z (((oP L3 X).tot t4 ((a 980 Z).trans Z) (gJ _)).mono (PP':=λch H'=>xG t=η/\ch=I6/\∃q,H'=nN q++_) (λ_ _ h=>h) (λch H' ⟨e,J,e3⟩=>⟨n4 e,J,e3⟩)))) Z ?_;refine Pr [2] (λ_ h=>fh oX h)<|Pw [2] (λ_ h=>su sizeOf3 h)<|Pr [2] (λ_ h=>fh FW h)<|Pw [2] (λ_ h=>su sizeOf3 h)<|Pr [2] (λ_ h=>fh A1 h)<|Pw [2] (λ_ h=>su sizeOf3 h)<|Pr [2] (λ_ h=>fh FV h)<|Pw [2] (λ_ h=>su sizeOf3 h)<|LY ⟨⟨by kernel_rfl,by rfl,by rfl⟩,λi_=>?_⟩;simp only[dv,true_and,and_true]at i_;refine S ?_;have f4:=i_;refine fW.ent (E':=[(0,sv (a_ t)),(2,.ref 2 0 0 0),(3,.ref 3 0 0 0),(4,.ref 4 0 0 0)]) (H':=[(980,mw L4),(4,inO),(3,Hf 0),(2,Hd ⟨F,E,I,G,a6,[],[],a6,η,0,a6,zS,⟨a6,a6,[],[],zS⟩⟩)]) L_ ?_
 refine zE (λch H1 D=>xG t=η/\ch=I6/\∃q,D=nN q++H1) [2,3] [2,3] [] Z a7 (λch E1 H1 D b hsh hks ⟨e,J,q,e3⟩=>by subst e3;have ⟨o2,k1,k2⟩:=hsh 2 H_ _ Z;have ⟨o3,k3,k4⟩:=hsh 3 H_ _ Z;exact sH d e J ((b 2 H_).trans Z) ((b 3 H_).trans Z) ⟨o2,k1,P5 k2⟩ ⟨o3,k3,GK k4⟩) ?_;refine Pr [4] (λ_ h=>lh eD h)<|wA (r:=⟨_,A [980],nN L5⟩) (.pan Z (λH1 a=>by exact eS Z Z nQ Z (((AU L4 X).tot t5 ((a 980 Z).trans Z) (gJ _)).mono (PP':=λch H'=>xG t=η/\ch=I6/\∃q,H'=nN q++_) (λ_ _ h=>h) (λch H' ⟨e,J,e3⟩=>⟨n5 e,J,e3⟩)))) Z ?_;refine Pr [4] (λ_ h=>lh eD h)<|Pr [4] (λ_ h=>lh eD h)<|Pr [] (λH1 a=>by exact pR Z Z) ?_;refine wA (r:=⟨_,A [980],nN L6⟩) (.pan Z (λH1 a=>by exact eS Z Z call100 Z (((ca L5 X).tot t6 ((a 980 Z).trans Z) (gJ _)).mono (PP':=λch H'=>xG t=η/\ch=I6/\∃q,H'=nN q++_) (λ_ _ h=>h) (λch H' ⟨e,J,e3⟩=>⟨n6 e,J,e3⟩)))) Z ?_;refine Pr [2] (λ_ h=>fh DQ h)<|Pw [2] (λ_ h=>su V_ h)<|Pr [2] (λ_ h=>fh oW h)<|Pw [2] (λ_ h=>su sizeOf22 h)<|LY ⟨⟨by rfl,by rfl,by rfl⟩,λi_=>?_⟩;simp only[dv,true_and,and_true]at i_;refine S ?_;have f6:=i_;refine fW.ent (E':=[(0,sv (a_ t)),(2,.ref 2 0 0 0),(3,.ref 3 0 0 0),(4,.ref 4 0 0 0)]) (H':=[(980,mw L6),(4,inO),(3,Hf 0),(2,Hd ⟨F,E,I,G,r4,f,[],a6,η,0,a6,zS,⟨a6,a6,[],[],zS⟩⟩)]) L_<|gZ<|iZ Z Z Z (aX Z eD Z Z Z Z Z)<|dj Z Z Z (eS Z Z nQ Z (((AU L6 X).tot t7 Z (gJ _)).mono (PP':=λch H'=>xG t=η/\ch=I6/\∃q,H'=nN q++_) (λ_ _ h=>h) (λch H' ⟨e,J,e3⟩=>⟨n7 e,J,e3⟩))) (λch H' h=>by obtain ⟨e,J,q,rfl⟩:=h;exact sH d e J Z Z ⟨_,Z,ZU _⟩ ⟨_,Z,ZT _⟩) (λh39=>?_);refine iZ Z Z Z (kc call101 (ρ _))<|iZ Z Z Z (iA Z Z)<|iZ Z Z Z (vV Z Z Z)<|iZ Z Z Z (vV Z Z Z)<|iZ Z Z Z (oO Z DP Z Z Z Z)<|Rl Z Z (ku sizeOf46)<|RA<|S ?_;refine fW.ent (E':=[(0,sv (a_ t)),(2,.ref 2 0 0 0),(3,.ref 3 0 0 0),(4,.ref 4 0 0 0)]) (H':=[(980,mw L7),(4,inO),(3,Hf 0),(2,Hd ⟨F,E,I,G,r4,f,m,a6,η,0,a6,zS,⟨a6,a6,[],[],zS⟩⟩)]) L_<|zE (λch H1 D=>xG t=η/\ch=I6/\∃q,D=nN q++H1) [2,3] [2,3] [] Z a7 (λch E1 H1 D b hsh hks ⟨e,J,q,e3⟩=>by subst e3;have ⟨o2,k1,k2⟩:=hsh 2 H_ _ Z;have ⟨o3,k3,k4⟩:=hsh 3 H_ _ Z;exact sH d e J ((b 2 H_).trans Z) ((b 3 H_).trans Z) ⟨o2,k1,P5 k2⟩ ⟨o3,k3,GK k4⟩) ?_;refine Pr [4] (λ_ h=>lh eD h) ?_
 refine wA (r:=⟨_,A [980],nN L8⟩) (.pan Z (λH1 a=>by exact eS Z Z nQ Z (((AU L7 X).tot t8 ((a 980 Z).trans Z) (gJ _)).mono (PP':=λch H'=>xG t=η/\ch=I6/\∃q,H'=nN q++_) (λ_ _ h=>h) (λch H' ⟨e,J,e3⟩=>⟨n8 e,J,e3⟩)))) Z ?_;refine Pr [4] (λ_ h=>lh eD h)<|wA (r:=⟨_,A [980],nN L9⟩) (.pan Z (λH1 a=>by exact eS Z Z nQ Z (((AU L8 X).tot t9 ((a 980 Z).trans Z) (gJ _)).mono (PP':=λch H'=>xG t=η/\ch=I6/\∃q,H'=nN q++_) (λ_ _ h=>h) (λch H' ⟨e,J,e3⟩=>⟨n9 e,J,e3⟩)))) Z ?_;refine Pr [] (λH1 a=>by exact BX Z Z Z)<|Pr [4] (λ_ h=>lh eD h) ?_;refine wA (r:=⟨_,A [980],nN κ⟩) (.pan Z (λH1 a=>by exact eS Z Z jQ Z (((oP L9 X).tot t10 ((a 980 Z).trans Z) (gJ _)).mono (PP':=λch H'=>xG t=η/\ch=I6/\∃q,H'=nN q++_) (λ_ _ h=>h) (λch H' ⟨e,J,e3⟩=>⟨n10 e,J,e3⟩)))) Z ?_;refine Pr [4] (λ_ h=>lh eD h)<|wA (r:=⟨_,A [980],nN τ⟩) (.pan Z (λH1 a=>by exact eS Z Z nQ Z (((AU κ X).tot t11 ((a 980 Z).trans Z) (gJ _)).mono (PP':=λch H'=>xG t=η/\ch=I6/\∃q,H'=nN q++_) (λ_ _ h=>h) (λch H' ⟨e,J,e3⟩=>⟨n11 e,J,e3⟩)))) Z ?_;refine Pr [2] (λ_ h=>fh DO h)<|Pw [2] (λ_ h=>su V_ h)<|Pr [2] (λ_ h=>fh JH h)<|Pw [2] (λ_ h=>su sizeOf4 h)<|Pr [2] (λ_ h=>fh yU h)<|Pw [2] (λ_ h=>su sizeOf3 h)<|Pr [2] (λ_ h=>fh xP h)<|Pw [2] (λ_ h=>su V_ h)<|LY ⟨⟨by kernel_rfl,by rfl,by rfl⟩,λi_=>?_⟩;simp only[dv,true_and,and_true]at i_;refine S ?_;have K:=i_;refine fW.ent (E':=[(0,sv (a_ t)),(2,.ref 2 0 0 0),(3,.ref 3 0 0 0),(4,.ref 4 0 0 0)]) (H':=[(980,mw τ),(4,inO),(3,Hf 0),(2,Hd ⟨F,E,I,G,r4,f,m,V8,θ (V9=BZ),n,c,zS,⟨a6,a6,[],[],zS⟩⟩)]) L_<|gZ<|iZ Z Z Z (aX Z eD Z Z Z Z Z)<|dj Z Z Z (eS Z Z call102 Z (((wj τ X).tot t12 Z (gJ _)).mono (PP':=λch H'=>xG t=η/\ch=I6/\∃q,H'=nN q++_) (λ_ _ h=>h) (λch H' ⟨e,J,e3⟩=>⟨n12 e,J,e3⟩))) (λch H' h=>by obtain ⟨e,J,q,rfl⟩:=h;exact sH d e J Z Z ⟨_,Z,ZU _⟩ ⟨_,Z,ZT _⟩) (λh58=>?_);refine iZ Z Z Z (oO Z AG Z Z Z Z)<|Rl Z Z (qZ Z sizeOf48 Z Z Z Z Z Z Z (r_ Z) Z Z)<|RA<|S ?_;refine fW.ent (E':=[(0,sv (a_ t)),(2,.ref 2 0 0 0),(3,.ref 3 0 0 0),(4,.ref 4 0 0 0)]) (H':=[(980,mw δ),(4,inO),(3,Hf 0),(2,Hd ⟨F,E,I,G,r4,f,m,V8,θ (V9=BZ),n,c,p,⟨a6,a6,[],[],zS⟩⟩)]) L_ ?_
 refine zE (λch H1 D=>xG t=η/\ch=I6/\∃q,D=nN q++H1) [2,3] [2,3] [] Z a7 (λch E1 H1 D b hsh hks ⟨e,J,q,e3⟩=>by subst e3;have ⟨o2,k1,k2⟩:=hsh 2 H_ _ Z;have ⟨o3,k3,k4⟩:=hsh 3 H_ _ Z;exact sH d e J ((b 2 H_).trans Z) ((b 3 H_).trans Z) ⟨o2,k1,P5 k2⟩ ⟨o3,k3,GK k4⟩) ?_;refine Pr [4] (λ_ h=>lh eD h)<|wA (r:=⟨_,A [980],nN γ⟩) (.pan Z (λH1 a=>by exact eS Z Z nQ Z (((AU δ X).tot t13 ((a 980 Z).trans Z) (gJ _)).mono (PP':=λch H'=>xG t=η/\ch=I6/\∃q,H'=nN q++_) (λ_ _ h=>h) (λch H' ⟨e,J,e3⟩=>⟨n13 e,J,e3⟩)))) Z ?_;refine Pr [4] (λ_ h=>lh eD h)<|wA (r:=⟨_,A [980],nN β⟩) (.pan Z (λH1 a=>by exact eS Z Z nQ Z (((AU γ X).tot t14 ((a 980 Z).trans Z) (gJ _)).mono (PP':=λch H'=>xG t=η/\ch=I6/\∃q,H'=nN q++_) (λ_ _ h=>h) (λch H' ⟨e,J,e3⟩=>⟨n14 e,J,e3⟩)))) Z ?_;refine Pr [4] (λ_ h=>lh eD h)<|Pr [4] (λ_ h=>lh eD h)<|Pr [] (λH1 a=>by exact pR Z Z) ?_;refine wA (r:=⟨_,A [980],nN L15⟩) (.pan Z (λH1 a=>by exact eS Z Z call100 Z (((ca β X).tot t15 ((a 980 Z).trans Z) (gJ _)).mono (PP':=λch H'=>xG t=η/\ch=I6/\∃q,H'=nN q++_) (λ_ _ h=>h) (λch H' ⟨e,J,e3⟩=>⟨n15 e,J,e3⟩)))) Z ?_;refine Pr [4] (λ_ h=>lh eD h)<|Pr [4] (λH1 a=>by exact iC Z Z) ?_;refine wA (r:=⟨_,A [980,4],nN σ⟩) (.pan Z (λH1 a=>by exact eS Z Z call103 Z (((Xp L15 X).tot t16 ((a 980 Z).trans Z) (EX.sub ⟨(a 4 Z).trans Z,T_⟩)).mono (PP':=λch H'=>xG t=η/\ch=I6/\∃q,H'=nN q++_) (λ_ _ h=>h) (λch H' ⟨e,J,e3⟩=>⟨n16 e,J,e3⟩)))) Z ?_;refine Pr [] (λH1 a=>by exact PS Z aGD Z Z)<|Pr [2] (λ_ h=>fh iM h)<|Pw [2] (λ_ h=>sx sizeOf51 h) ?_;refine LY ⟨⟨by kernel_rfl,by rfl,by rfl⟩,λi_=>?_⟩;simp only[dv,true_and,and_true]at i_;refine S ?_;have L:=i_;refine fW.ent (E':=[(0,sv (a_ t)),(2,.ref 2 0 0 0),(3,.ref 3 0 0 0),(4,.ref 4 0 0 0)]) (H':=[(980,mw σ),(4,inO),(3,Hf 0),(2,Hd ⟨F,E,I,G,r4,f,m,V8,θ (V9=BZ),n,c,p,⟨B,w,z,s,zS⟩⟩)]) L_<|gZ<|iZ Z Z Z (aX Z eD Z Z Z Z Z)<|dj Z Z Z (eS Z Z call102 Z (((wj σ X).tot t17 Z (gJ _)).mono (PP':=λch H'=>xG t=η/\ch=I6/\∃q,H'=nN q++_) (λ_ _ h=>h) (λch H' ⟨e,J,e3⟩=>⟨n17 e,J,e3⟩))) (λch H' h=>by obtain ⟨e,J,q,rfl⟩:=h;exact sH d e J Z Z ⟨_,Z,ZU _⟩ ⟨_,Z,ZT _⟩) (λh74=>?_);refine iZ Z Z Z (oO Z iM Z Z Z Z)<|iZ Z Z Z (oO Z FX Z Z Z Z)<|Rl Z Z (qZ Z sizeOf48 Z Z Z Z Z Z Z (r_ Z) Z Z)<|RA<|S<|S ?_
 refine fW.ent (E':=[(0,sv (a_ t)),(2,.ref 2 0 0 0),(3,.ref 3 0 0 0),(4,.ref 4 0 0 0)]) (H':=[(980,mw L17),(4,inO),(3,Hf 0),(2,Hd ⟨F,E,I,G,r4,f,m,V8,θ (V9=BZ),n,c,p,⟨B,w,z,s,c_⟩⟩)]) L_ ?_;have hokt:=yes h16 f4.1 f4.2.1 f4.2.2.1 f4.2.2.2 f6.1 f6.2 h39 K.1 K.2.1 K.2.2.1 K.2.2.2 h58 L.1 L.2.1 L.2.2.1 L.2.2.2 h74;have hg1:eB t=if TX=(a_ t,0)then(⟨F,E,I,G,r4,f,m,V8,θ (V9=BZ),n,c,p,⟨B,w,z,s,c_⟩⟩,0)else(zR,5):=F_
 refine Rd (wY cQ bJ)<|Y (kc call72 (htx _))<|Y aA<|Y dO<|Y dO<|Y aH<|V aH<|S<|aT (t:=88) (n:=8) (A_:=!θ (TX.2=0)||!θ (TX.1=a_ t)) ?_ ?_
 .all_goals refine Y aA<|Y xI<|Dm ?_<;>(refine Sp 84 (λh84=>?_) λh84=>?_)<;>(first|exact s_|refine M<|M<|M ?_|refine O aA<|O aA<|O E4 ?_)<;>refine V cD ?_<;>exact Gj (h:=by(rw[h84];rfl))
 refine Cn ?_ ?_<;>intro x
 .have hne:TX≠(a_ t,0):=by have:=x;rintro rfl;simp at this
  refine U (oD UT)<|Uu (jG bJ)<|Uu (jG sizeOf25)<|Zz<|aC ?_;exact XN (by rw[hg1,a8 hne]) L_
 have heq:TX=(a_ t,0):=by have:=x;rw[q_,Bool.not_eq_false',Bool.not_eq_false',k_,k_]at this;exact Prod.ext this.2 this.1
 refine aB<|U (wY cQ bJ)<|Uu (jG bJ)<|Uu (jG sizeOf25)<|Zz<|aC ?_;exact XN (by rw[hg1,b6 heq]) L_
open Go.Lib
theorem lL{α:Type}{f}{d:α}{l}{p}(h:f l=A p):M4 f d l=p:=by rw[M4,h];rfl
theorem JL{l}(h:(kJ l).2=T):(iL (kJ l).1).1=l:=by
 rw[kJ]at h |-
 split at h
 .next a =>
  rw[eq_nil_of_length_eq_zero a];rfl
 next a =>
 rw[a8 a];exact congrArg _ (E8 (b9 h))
theorem eo(b:Bool):θ (aV (if b then 1 else 0)=BZ)=b:=by cases b<;>kernel_rfl
def Jw(r:j_):List B_:=[]
def Jx(r:j_):List B_:=fI (.z r.priv.sl.idx r.priv.sl.sig r.priv.sl.path)++Jw r
def Jy(r:j_):List B_:=fI (.p r.priv.trace)++Jx r
def Jz(r:j_):List B_:=aV (C r.priv.sources:Int)::(r.priv.sources++Jy r)
def Ka(r:j_):List B_:=r.priv.reason::Jz r
def Kb(r:j_):List B_:=r.priv.name::Ka r
def Kc(r:j_):List B_:=fI (.z r.sl.idx r.sl.sig r.sl.path)++Kb r
def Kd(r:j_):List B_:=r.from'::Kc r
def Ke(r:j_):List B_:=aV r.order::Kd r
def sf9(r:j_):List B_:=(aV (if r.yes then 1 else 0))::Ke r
def sf8(r:j_):List B_:=r.target::sf9 r
def sf7(r:j_):List B_:=(kJ r.edits).1::sf8 r
def sf6(r:j_):List B_:=aV (C r.parents:Int)::(r.parents++sf7 r)
def sf5(r:j_):List B_:=r.branch::sf6 r
def sf4(r:j_):List B_:=aV r.clock::sf5 r
def sf3(r:j_):List B_:=aV r.number::sf4 r
def sf2(r:j_):List B_:=aV r.author::sf3 r
def sf1(r:j_):List B_:=aV r.kind::sf2 r
def sf0(r:j_):List B_:=HJ::sf1 r
theorem Rn(r):jU r=sf0 r:=by simp[jU,vR,zK,M8,MY,fI,sf0,sf1,sf2,sf3,sf4,sf5,sf6,sf7,sf8,sf9,Ke,Kd,Kc,Kb,Ka,Jz,Jy,Jx,Jw]
theorem Cj{r:j_}(h:VF r):xG (aO (jU r))=T/\KJ (aO (jU r))=r:=by
 have hk:=B4 h.k;have τ:=h.au;have ρ:=h.nu;have σ:=h.cl;have κ:=h.order;have δ:=h.pal;have b:=lI h.sl;have a:=lI h.psl;have s0:=b.i0;have s1:=b.i1;have s2:=b.sl;have s3:=b.pl;have z0:=a.i0;have z1:=a.i1;have z2:=a.sl;have z3:=a.pl;have γ:=h.sol;have β:=h.trl;have i_:=NK h.br;have d_:=RN h.tx;have E:=h.target;have F:=h.from
 have D:=h.nm;have z:=h.rs;have f:∀ {l:List B_},(∀t∈l,m6 t=T)->∀t∈l,IN t:=λz_ t y=>Nat.lt_of_le_of_lt (DK (z_ t y)) E_;rw[Rn];have ⟨t,y⟩:∃t,t=aO (sf0 r):=X_;rw[<-y];have r4:pF t=A (HJ,aO (sf1 r)):=by rw[y];exact mO _ (show N HJ<1000000000000000000 by decide)
 have q0:p0 t=(HJ,aO (sf1 r)):=lL r4;have o_:xW (p0 t).2=A (r.kind,aO (sf2 r)):=by rw[q0];exact mP _ X X
 have H:p1 t=(r.kind,aO (sf2 r)):=lL o_;have P:xW (p1 t).2=A (r.author,aO (sf3 r)):=by rw[H];exact mP _ X X
 have u4:p2 t=(r.author,aO (sf3 r)):=lL P;have e_:xW (p2 t).2=A (r.number,aO (sf4 r)):=by rw[u4];exact mP _ X X
 have A_:p3 t=(r.number,aO (sf4 r)):=lL e_;have u_:xW (p3 t).2=A (r.clock,aO (sf5 r)):=by rw[A_];exact mP _ X X
 have W:p4 t=(r.clock,aO (sf5 r)):=lL u_;have R:pF (p4 t).2=A (r.branch,aO (sf6 r)):=by rw[W];exact mO _ (Nat.lt_of_le_of_lt i_ E_)
 have J:p5 t=(r.branch,aO (sf6 r)):=lL R;have f_:(DH pF) (p5 t).2=A (r.parents,aO (sf7 r)):=by rw[J];exact DG _ _ (f h.pa) X
 have y_:p6 t=(r.parents,aO (sf7 r)):=lL f_;have Q:pF (p6 t).2=A ((kJ r.edits).1,aO (sf8 r)):=by rw[y_];exact mO _ (Nat.lt_of_le_of_lt d_ E_)
 have G:p7 t=((kJ r.edits).1,aO (sf8 r)):=lL Q;have v_:pF (p7 t).2=A (r.target,aO (sf9 r)):=by rw[G];exact mO _ (Nat.lt_of_le_of_lt E E_)
 have I:p8 t=(r.target,aO (sf9 r)):=lL v_;have L:pF (p8 t).2=A ((aV (if r.yes then 1 else 0)),aO (Ke r)):=by rw[I];exact mO _ (OV (by split<;>decide) (by split<;>decide))
 have K:p9 t=((aV (if r.yes then 1 else 0)),aO (Ke r)):=lL L;have p:xW (p9 t).2=A (r.order,aO (Kd r)):=by rw[K];exact mP _ X X
 have s:ng t=(r.order,aO (Kd r)):=lL p;have n:pF (ng t).2=A (r.from',aO (Kc r)):=by rw[s];exact mO _ (Nat.lt_of_le_of_lt F E_)
 have c:nf t=(r.from',aO (Kc r)):=lL n;have o:Bw (nf t).2=A (r.sl,aO (Kb r)):=by rw[c];exact SA _ _ s0 X (f b.sa) (f b.pa) X X
 have u:iq t=(r.sl,aO (Kb r)):=lL o;have v:pF (iq t).2=A (r.priv.name,aO (Ka r)):=by rw[u];exact mO _ (Nat.lt_of_le_of_lt D E_)
 have j:nc t=(r.priv.name,aO (Ka r)):=lL v;have w:pF (nc t).2=A (r.priv.reason,aO (Jz r)):=by rw[j];exact mO _ (Nat.lt_of_le_of_lt z E_)
 have i:mz t=(r.priv.reason,aO (Jz r)):=lL w;have m:(DH pF) (mz t).2=A (r.priv.sources,aO (Jy r)):=by rw[i];exact DG _ _ (λx hx=>Nat.lt_of_le_of_lt (h.so x hx) E_) X
 have e:my t=(r.priv.sources,aO (Jy r)):=lL m;have k:(DH SU) (my t).2=A (r.priv.trace,aO (Jx r)):=by rw[e];exact ry _ _ (λq hq=>by have ⟨⟨a1,a2⟩,a3,a4⟩:=h.tr q hq;exact⟨⟨X,X⟩,X,X⟩) X
 have d:mx t=(r.priv.trace,aO (Jx r)):=lL k;have g:Bw (mx t).2=A (r.priv.sl,aO (Jw r)):=by rw[d];exact SA _ _ z0 X (f a.sa) (f a.pa) X X
 have B:Sx t=(r.priv.sl,aO (Jw r)):=lL g;constructor
 .unfold xG bc;rw[r4,o_,P,e_,u_,R,f_,Q,v_,L,p,n,o,v,w,m,k,g];rfl
 unfold KJ;rw[H,u4,A_,W,J,y_,G,I,K,s,c,u,j,i,e,d,B,JL h.tx,eo]
theorem S3{r}{t}(h:mS r=(a_ t,0)):eB t=(r,0):=by
 have e:=h;rw[mS]at h;by_cases a:iE r=T
 .rw[b6 a]at h
  split at h
  .cases h
  next c =>
  have f:t=aO (jU r):=by
   have:=congrArg (λp=>ν (μ p.1)) h;exact this.symm
  have ⟨d,b⟩:=Cj (sX a);rw[<-f]at d b c;rw[eB,a8 c,b,b6 ⟨d,e⟩]
 rw[a8 a]at h;cases h
theorem KT{t}(h:(eB t).2=0):mS (eB t).1=(a_ t,0):=by
 rw[eB]at h |-
 grind
variable{α:Type}
def r6(l:List B_):List PV:=[aK l]
def tE(ls:List (List B_)):PV:=.sl (ls.map r6)
theorem U4{l:List α}{p}(h:∀j,j<C l->∀b,l[j]?=A b->p b=T):l.all p=T:=by
 rw[all_eq_true];intro b a;have ⟨j,B⟩:=s8.1 a
 grind
theorem dk{l:List α}{p}{i:Nat}{b}(B:l[i]?=A b)(h:p b=η):l.all p=η:=G_
theorem MT{l:List _}{p:α->Bool}{i}{x}(h:∀j,j<i->∀b,l[j]?=A b->p b=T)(D:l[i]?=A x)(B:p x=T):∀j,j<i+1->∀b,l[j]?=A b->p b=T:=G_
end Go.Proofs.C
namespace Go.Proofs.C
open Go.Proofs.Tryz
open Go.Abs Go.Lib
theorem Y2(s)(H):∀r∈fV s,∀a∈r,Clo H a:=by intro r d a c;obtain ⟨b,_,rfl⟩:=mem_map.1 d;rw[q9.1 c];exact .pv _
instance(s)(H):W_ (H) (fV s):=⟨Y2 s H⟩
abbrev TX:B_:=⟨#[48,49,50,51,52,53,54,55,56,57]⟩
theorem aAs:∀q:Fin 10,(TX.extract q.1 (q.1+1)).data.toList=[UInt8.ofNat (48+q.1)]:=λq=>by
 revert q;decide
theorem Iq{q}(h:q<10):TX.extract q (q+1)=a_ [UInt8.ofNat (48+q)]:=mR (by rw[aAs ⟨q,h⟩,cG])
theorem My(a b):a_ a++a_ b=a_ (a++b):=mR (Z)
def cu(v:Nat):List UInt8:=if v=0 then[]else decDigits v
theorem Ey{v}(h:0<v)(t):cu (v / 10)++(UInt8.ofNat (48+v % 10)::t)=cu v++t:=by
 have e:cu v=decDigits v:=a8 X;rw[e,decDigits];by_cases a:v<10
 .rw[dif_pos a,cu,b6 X,mod_eq_of_lt a];rfl
 rw[dif_neg a,cu,a8 X,append_assoc];rfl
theorem tv(n):cu (n / 10)++[UInt8.ofNat (48+n % 10)]=decDigits n:=by
 rw[decDigits];by_cases a:n<10
 .rw[dif_pos a,cu,b6 X,mod_eq_of_lt a];rfl
 rw[dif_neg a,cu,a8 X]
theorem gh(n:Nat)(I:n<9223372036854775808)(H:aF):RC 136 [uv n] (sv (a_ (decDigits n))) H:=by
 refine Pu ?_;have step:∀v:Nat,v<18446744073709551616->((v:Nat):Int).tmod 10=((v % 10:Nat):Int)/\IntKind.u64.wrap (((v:Nat):Int).tdiv 10)=((v / 10:Nat):Int)/\IntKind.u64.wrap (((v % 10:Nat):Int)+1)=((v % 10+1:Nat):Int)/\v % 10<10/\v % 10+1<=N TX:=λv z=>by
  refine⟨by rfl,by rw[Int.tdiv_eq_ediv_of_nonneg X,IntKind.wrap_u64];omega,by rw[IntKind.wrap_u64];omega,mod_lt _ E_,?_⟩;have:N TX=10:=rfl;omega
 have ⟨l,y,u,w,p⟩:=step n X;have e:=Iq w;have b:=tv n;generalize n % 10=g at l u w p e b;refine Bd func136 Z ntmps136<|Sz aH<|U aA<|Y (xF Z Z Z E_ l)<|Y aA<|Y (xF Z Z Z E_ l)<|Y (ka u)<|Y (bM (l:=g) (h:=g+1) Z U_ Z Z Z X p e)<|V aH<|S<|U aA<|Y (C8 Z Z Z E_ y)<|V aH<|aE<|eZ (λ(v:Nat) (t:List UInt8)=>([(0,uv v),(3,sv (a_ t))],[])) (λv t=>v<9223372036854775808/\cu v++t=decDigits n) (λv t=>v) (n / 10) [UInt8.ofNat (48+g)] ⟨X,b⟩ ?_ ?_
 .exact Wk
 rintro v t ⟨z,d⟩;have ⟨j,x,s,q,o⟩:=step v X;have e:=Iq q;have D:C t<=21:=by
  have B:=congrArg List.length d;rw[j8]at B;have G:=cX (k:=19) (u:=n) X E_;omega
 by_cases F:0<v
 .have c:=Ey F t;rw[d]at c;generalize v % 10=g at j s q o e c;refine S<|U aA<|V iX<|Cn ?_ ?_<;>intro f
  .refine aB<|S<|aE<|Rd aA<|Y (xF Z Z Z E_ j)<|Y aA<|Y (xF Z Z Z E_ j)<|Y (ka s)<|Y (bM (l:=g) (h:=g+1) Z U_ Z Z Z X o e)<|Y aA<|Y (by exact fJ Z Z Z (by rw[cA,cA,length_singleton];omega) (My [UInt8.ofNat (48+g)] t))<|V aH<|Rd aA<|Y (C8 Z Z Z E_ x)<|Da ?_;exact⟨v / 10,UInt8.ofNat (48+g)::t,⟨X,c⟩,X,Wk⟩
  (have h:=b_ f;omega)
 have k:v=0:=X
 subst k;have E:t=decDigits n:=d;subst E;refine S<|U aA<|V iX<|Cn ?_ ?_<;>intro m
 .cases m
 exact aP<|U aA<|V aH<|aC<|Rt<|Qq
theorem SI(n:Nat)(d:n<9223372036854775808)(H):RC 84 [iv n] (sv (a_ (decDigits n))) H:=by
 refine Pu ?_;have c:=λH=>gh n d H;refine Bd func84 Z ntmps84<|Sz aH<|S<|U aA<|V cI<|Cn ?_ ?_<;>intro b
 ·(have h:=b9 b;omega)
 exact aB<|U aA<|Y (eE Z underlying3 gQ Z (ew X))<|Y (bH Z Z call136 Z (c _))<|V aH<|aC<|Rt<|Qq
def J4(L:List B_):Nat:=(L.map λs=>N s+21).sum
theorem Be(L)(s):J4 (L++[s])=J4 L+(N s+21):=by rw[J4,map_append,sum_append];rfl
theorem vy:∀ {L},(∀s∈L,N s<=100000000)->J4 L<=C L*100000021
 | [],_=>l7 _
 |s::r,h=>by
  have B:=vy (λx a=>h x (mem_cons_of_mem _ a));show N s+21+J4 r<=_
  grind
theorem X9:∀ {L},(∀s∈L,N s<=100000000)->C (aO L)<=J4 L
 | [],_=>l7 _
 |s::r,h=>by
  have E:=X9 (λx a=>h x (mem_cons_of_mem _ a));have D:=h s mem_cons_self;have B:=cX (k:=9) (u:=N s) X H_;rw[gY,j8,j6,j8,aS];show _<=N s+21+J4 r;omega
theorem jo(L)(s):aO (L++[s])=(aO L++decDigits (N s))++[58]++ν (μ s):=by
 rw[jq,gY];show aO L++(decDigits _++58::(ν (μ s)++[]))=_
 simp_all
theorem W6(L:List B_)(Q:C L<=100000)(t:∀s∈L,N s<=100000000)(H:aF):RC 85 [.pv (aK L)] (sv (a_ (aO L))) H:=by
 refine Pu ?_;have J:C (L.map S_)=C L:=g_ _;have f:∀i,J4 (L.take i)<=10000002100000:=λi=>by
  have K:=vy (L:=L.take i) (λs h=>t s (mem_of_mem_take h));have B:C (L.take i)<=100000:=G_
  have P:=mul_le_mul_right 100000021 B;omega
 have n:∀i,C (aO (L.take i))<=J4 (L.take i):=λi=>X9 λs h=>t s (mem_of_mem_take h);refine Bd func85 Z ntmps85<|Sz aH<|Sz aH<|S<|Sz aH<|aE<|bF (σ:=Nat) (λi=>([(0,.pv (aK L)),(3,iv (J4 (L.take i):Int)),(4,iv (i:Int))],[])) (λi=>i<=C L) (λi=>C L - i) 0 (l7 _) ?_ ?_
 .exact Wk
 intro i E;have y:=f i;refine S<|U aA<|Y aA<|Y (fM aD)<|V cI<|Cn ?_ ?_<;>intro q
 .have g:i<C L:=I_ q
  have ⟨s,c⟩:=aR g;have e:=cC (f:=S_) c;have w:=t s (m7 c);have d:J4 (L.take (i+1))=J4 (L.take i)+(N s+21):=by rw[eP c,Be]
  refine aB<|S<|aE<|Rd aA<|Y aA<|Y aA<|Y (bP Z aY Z Z X x7 e Z)<|Y (fS N_)<|Y (gL U_)<|Y (by exact dD Z Z Z (show ξ.wrap ((N s:Int)+21)=((N s+21:Nat):Int)by rw[lT X X];omega))<|Y (by exact dD Z Z Z (show ξ.wrap ((J4 (L.take i):Int)+((N s+21:Nat):Int))=((J4 (L.take (i+1)):Nat):Int)by rw[d,lT X X];omega))<|V aH<|Rd aA<|Y kp<|Da ?_;exact⟨i+1,X,X,Wk⟩
 have j:i=C L:=J_ q
 refine aP<|U aA<|Y (ET (id:=905) Z BM ei5 zo5 Z Z Z X X (l_ _) (l_ _) X Z)<|V aH<|S<|Sz aH<|aE<|bF (σ:=Nat) (λi=>([(0,.pv (aK L)),(5,.osl 905 (3*i) 0 (C (aO (L.take i)))),(6,iv (i:Int))],[(905,⟨3*i,1,5,fV (aO (L.take i))⟩)])) (λi=>i<=C L) (λi=>C L - i) 0 (l7 _) ?_ ?_
 .exact L_
 clear j y E;intro i E;have y:=f i;have z:=n i;have F:=f (i+1);have I:=n (i+1);refine S<|U aA<|Y aA<|Y (fM aD)<|V cI<|Cn ?_ ?_<;>intro k
 .have g:i<C L:=I_ k
  have ⟨s,c⟩:=aR g;have e:=cC (f:=S_) c;have w:=t s (m7 c);have l:=λH=>SI (N s) X H;have d:aO (L.take (i+1))=(aO (L.take i)++decDigits (N s))++[58]++ν (μ s):=by rw[eP c,jo]
  have G:=cX (k:=9) (u:=N s) X E_;have ⟨D,u⟩:∃D,D=aO (L.take i):=X_;rw[<-u]at d z |-;have m:=cA (decDigits (N s));have v:C (fV (D++decDigits (N s)))=C D+C (decDigits (N s)):=by rw[sO,j8]
  have x:C (fV ((D++decDigits (N s))++[58]))=C D+C (decDigits (N s))+1:=by rw[sO,j8,j8];rfl
  refine aB<|S<|aE<|U aA<|Y aA<|Y aA<|Y (kx aY e)<|Y (fS N_)<|Y (gL U_)<|Y (kc gW (l _))<|Y (by exact xB (rows':=fV (D++decDigits s.size)) (k:=D.length+(decDigits s.size).length) Z BM U_ ei5 PO Z Z Z Z Z (sO D) Z (by rw[m];omega) (by rw[m]) (by rw[cG];exact vB D (decDigits s.size)))<|V aH<|U aA<|Y (by exact aL [[.int .u8 58]] Z BM Z Z Z Z Z H_)<|Y (by exact bW (k:=D.length+(decDigits s.size).length+1) (ps:=[[.int .u8 58]]) Z BM ei5 Z Z Z Z Z v Z H_ (m:=1) Z X Z (vB (D++decDigits s.size) [58]))<|V aH<|Rd aA<|Y aA<|Dm ?_;refine Y (iV aY)<|Y (fS N_ (hi:=e))<|Y (by exact xB (k:=D.length+(decDigits s.size).length+1+s.size) Z BM U_ ei5 PO Z Z Z Z Z x Z X Z (vB ((D++decDigits s.size)++[58]) s.data.toList))<|V aH<|Rd aA<|Y kp<|Da ?_;refine⟨i+1,X,X,?_⟩;rw[d];have o:(D++decDigits s.size++[58]++s.data.toList).length=D.length+(decDigits s.size).length+1+s.size:=by
   rw[j8,j8,j8,aS];rfl
  rw[o];exact L_
 have j:i=C L:=J_ k
 subst j;rw[take_length]at z |-;have ⟨D,u⟩:∃D,D=aO L:=X_;rw[<-u];have p:((fV D).drop 0).take (C D)=fV D:=by rw[drop_zero,take_of_length_le (by rw[sO];exact h_ _)]
 exact aP<|U aA<|Y (by exact V1 Z dM cZ U_ Z Z Z Z p Z)<|V aH<|aC<|Rt<|Qq
theorem WS{r}{a b}(h:iE r=T)(B:lJ a=T)(D:lJ b=T):iE (Ni r a b)=T:=by simp[iE,l6,r9]at h |-;have ⟨⟨⟨⟨c,f⟩,g⟩,e⟩,d⟩:=h;refine⟨⟨⟨⟨?_,f⟩,g⟩,e⟩,d⟩;simp only[vn,q_]at c |-;have ⟨⟨c,_⟩,_⟩:=c;exact⟨⟨c,by show (!lJ b)=η;simp_all⟩,by show (!lJ a)=η;simp_all⟩
theorem Yl:lJ zS=T:=E_
theorem aE9{s}(h:FSeal s)(B:C s.sig=18):lJ s=T:=by have b:=h.i0;have a:=h.i1;have l2:=h.pl;rw[lJ,g_,g_,decide_eq_true b,decide_eq_true a,decide_eq_true X,decide_eq_true X,all_eq_true.2 h.sa,all_eq_true.2 h.pa];simp
theorem SB{s m}{h i}(a:(P6 s h i m).2=0):lJ (P6 s h i m).1=T:=by have ⟨f,e,_⟩:=ph a;refine aE9 f ?_;rw[e];rfl
theorem ji{r x}(h:HZ r=(x,0)):x=r/\(mS r).2=0:=by
 rw[HZ]at h
 grind
structure Made(r x:j_)(s:B_)(h:Int):Prop where
 v0:iE (OR r)=T
 a0:(P6 s h (2*r.number - 2) (JB (OR r))).2=0
 tx:(mS x).2=0
 e:(uX r.priv=T/\x=mk1 r (P6 s h (2*r.number - 2) (JB (OR r))).1)\/(uX r.priv=η/\(P6 s h (2*r.number - 1) (bp (OR r))).2=0/\x=Ni r (P6 s h (2*r.number - 2) (JB (OR r))).1 (P6 s h (2*r.number - 1) (bp (OR r))).1)
theorem Xn{r x}{s}{h}(a:OS r s h=(x,0)):Made r x s h:=by
 rw[OS]at a
 split at a
 .cases a
 next B =>
 split at a
 .next c =>
  have:=congrArg Prod.snd a;exact absurd this c
 next c =>
 have c:(P6 s h (2*r.number - 2) (JB (OR r))).2=0:=X
 split at a
 .next e =>
  have ⟨b,d⟩:=ji a;exact⟨F_,c,b▸d,.inl ⟨e,b⟩⟩
 next e =>
 split at a
 .next f =>
  have:=congrArg Prod.snd a;exact absurd this f
 next f =>
 have ⟨b,d⟩:=ji a;refine⟨F_,c,b▸d,.inr ⟨F_,?_,b⟩⟩;omega
theorem Made.valid{r x}{s}{h}(a:Made r x s h):iE x=T:=by
 rcases a.e with⟨_,e⟩|⟨_,b,e⟩
 .rw[e];exact WS (r:=OR r) a.v0 (SB a.a0) Yl
 rw[e];exact WS (r:=OR r) a.v0 (SB a.a0) (SB b)
theorem Made.text{r x}{s}{h}(b:Made r x s h):mS x=(a_ (aO (jU x)),0):=by
 have a:=b.tx;rw[mS,b6 b.valid]at a |-
 split at a
 .cases a
 next c=>rw[a8 c]
theorem Made.parse{r x}{s}{h}(a:Made r x s h):eB (aO (jU x))=(x,0):=S3 a.text
theorem cP.val{P}{r4}{o}{E}{H H'}{b a}(h:cP P r4 o E H (.pv (.bool b)) H')(e:b=a):cP P r4 o E H (.pv (.bool a)) H':=e▸h
def Ui(c:UInt8):B_:=⟨#[c]⟩
def aAS(c:UInt8):l8:=⟨Ui c,1,(c.toNat:Int),0,[],[]⟩
def cs3:List UInt8:=[97,98,99]
def aF0:l8:=⟨Ui 119,2,0,0,cs3.map Ui,[]⟩
def s0:List l8:=cs3.map aAS++[aF0]
def x1:List l8:=cs3.map aAS++[⟨Ui 118,2,0,0,[Ui 98,Ui 99],[]⟩,⟨Ui 119,2,0,0,[Ui 97,Ui 98],[]⟩]
end Go.Proofs.C
section
namespace Go.Proofs.C
open Go.Proofs.Tryz
open Go.Abs
structure M3 where
 k:B_
 b:B_
 o:B_
 t:B_
end Go.Proofs.C
namespace Go.Abs

end Go.Abs
namespace Go.Proofs.C
open Go.Proofs.Tryz
open Go.Abs

end Go.Proofs.C
end
namespace Go.Proofs.C
open Go.Proofs.Tryz
open Go.Abs
def m1(p:M3):B_×Bool:=if p.t=p.o then(p.o,η)else if p.t=p.b then(p.o,η)else if p.o=p.b then(p.t,η)else(p.b,T)
instance decMemB(s:B_)(l:List B_):Decidable (s∈l):=decidable_of_iff (yw l s=T) Yc
def zs(B:Bool):List Int:=if B then[2,1,0]else[0,1,2]
def aFq(m:List l8)(B:Bool):List l8:=(zs B).flatMap λz=>m.filter λo=>θ (o.kind.tdiv 2=z)
def aCW(b:List l8)(o:l8):Bool:=match aFp b o.id with
 |some p=>!θ (p.kind=o.kind)||(θ (o.kind=5)&&!θ (o.refs=p.refs))
 |none=>η
def rnB(b:List l8)(A_:List B_)(o:l8):Bool:=aCW b o||o.refs.any (yw A_)
def rnL(b:List l8):List B_->List l8->List B_
 |A_,[]=>A_
 |A_,o::L=>rnL b (if rnB b A_ o then A_++[o.id]else A_) L
def aFK(a b:List l8):List B_:=rnL b [] (aFq a η)
section
section
variable{a b:List l8}
def c1(k:l8×l8):l8:=⟨k.1.id,k.1.kind,k.2.x,k.2.y,k.1.refs,k.1.tags⟩
def c2(k:l8×l8):l8:=⟨k.1.id,k.1.kind,k.2.x,k.2.y,k.2.refs,k.1.tags⟩
def c3(k:l8×l8):l8:=⟨k.1.id,k.1.kind,k.2.x,k.2.y,k.2.refs,k.2.tags⟩
end
end
theorem cP.valY{P}{r4}{o}{E}{H H'}{b a}(h:cP P r4 o E H (.pv (.bool b)) H')(e:b=a):cP P r4 o E H (.pv (.bool a)) H':=e▸h
end Go.Proofs.C
namespace Go.Proofs.C
open Go.Proofs.Tryz
section
def aAr(u:List Nat)(i:Nat):Nat:=u.getD i i
def aDW:Nat->List Nat->Nat->Nat
 |0,_,i=>i
 |n+1,u,i=>if aAr u i=i then i else aDW n u (aAr u i)
def top(u:List Nat)(i:Nat):Nat:=aDW i u i
def aGG(u:List Nat):Prop:=∀i,aAr u i<=i
def Inv(L:Nat->Nat->Prop)(f:Nat->Nat):Prop:=∀i k,L i k->f i=f k
structure Snd(L:Nat->Nat->Prop)(u:List Nat):Prop where
 ok:aGG u
 sn:∀f,Inv L f->∀x,f (top u x)=f x
section
variable{f_:Type}[DecidableEq f_]
def Ym:List (f_×Nat)->f_->Option Nat
 | [],_=>ζ
 |(k,v)::r,s=>if k=s then A v else Ym r s
structure I1(L:Nat->Nat->Prop)(W:Nat->List f_)(k m:Nat)(st:List Nat×List (f_×Nat)):Prop where
 len:C st.1=m
 snd:Snd L st.1
 at_:∀s j,Ym st.2 s=A j->j<m/\s∈W j
 has:∀j,j<k->∀s,s∈W j->(Ym st.2 s).isSome=T
structure I2(L:Nat->Nat->Prop)(F:List (f_×Nat))(r4:Nat->List f_)(n k:Nat)(u:List Nat):Prop where
 len:C u=n
 snd:Snd L u
 same:∀i,i<k->∀s,s∈r4 i->∀j,Ym F s=A j->top u i=top u j
end
end
def aAP(f:Nat->Nat)(n:Nat):List Nat:=(List.range n).filter λi=>f i=i
def grp(f:Nat->Nat)(n r:Nat):List Nat:=(List.range n).filter λj=>f j=r
def aFs(f:Nat->Nat)(n:Nat):List (List Nat):=(aAP f n).map (grp f n)
def aGa(f:Nat->Nat)(n x:Nat):Nat:=(aAP f n).idxOf (f x)
end Go.Proofs.C
namespace Go.Proofs.C
open Go.Proofs.Tryz
open Go.Abs
theorem OY{l}(h:lP l=T):0<C l/\C l<=200/\∀e∈l,gK e=T:=by
 rw[lP,l6]at h
 grind
open Go.Lib
theorem aBO(u:Nat):∀H,u<1000000000->RC 222 [iv (u:Int)] (sv (a_ (decDigits u))) H:=by
 induction u using Nat.strongRecOn with
 | ind u g =>
  intro H F;refine Pu<|Bd func222 Z ntmps222<|Sz aH<|S<|U aA<|V cI<|Cn ?_ ?_<;>intro d
  .have f:u<10:=I_ d
   have B:N (⟨#[48,49,50,51,52,53,54,55,56,57]⟩:B_)=10:=rfl;have i:(⟨#[48,49,50,51,52,53,54,55,56,57]⟩:B_).extract u (u+1)=a_ (decDigits u):=by
    rw[decDigits,dif_pos f];have h:u=0\/u=1\/u=2\/u=3\/u=4\/u=5\/u=6\/u=7\/u=8\/u=9:=X
    rcases h with rfl|rfl|rfl|rfl|rfl|rfl|rfl|rfl|rfl|rfl<;>rfl
   exact U aA<|Y aA<|Y iD<|Y (bM (l:=u) (h:=u+1) Z U_ Z Z Z X X i)<|V aH<|aC<|Rt<|Qq
  have f:¬ u<10:=J_ d
  have j:ξ.wrap ((u:Int).tdiv 10)=((u / 10:Nat):Int):=by
   rw[show (u:Int).tdiv 10=((u / 10:Nat):Int)from rfl];exact lT X X
  have D:N (a_ (decDigits (u / 10)))<=9:=by rw[cA];exact cX X E_
  have E:N (a_ (decDigits (u % 10)))<=1:=by rw[cA];exact cX X E_
  have k:a_ (decDigits (u / 10))++a_ (decDigits (u % 10))=a_ (decDigits u):=tn (by
   rw[show (a_ (decDigits (u / 10))++a_ (decDigits (u % 10))).data.toList=(a_ (decDigits (u / 10))).data.toList++(a_ (decDigits (u % 10))).data.toList by simp,cG,cG,cG];rw[show decDigits u=decDigits (u / 10)++[UInt8.ofNat (48+u % 10)]by rw[decDigits,dif_neg f]];congr 1;rw[decDigits,dif_pos X])
  exact aB<|U aA<|Y (C8 Z Z Z E_ j)<|Y (kc call222 (g (u / 10) X _ X))<|Y aA<|Y (xF Z Z Z E_ (rfl:(u:Int).tmod 10=((u % 10:Nat):Int)))<|Y (kc call222 (g (u % 10) X _ X))<|Y (fJ Z Z Z X k)<|V aH<|aC<|Rt<|Qq
theorem B5{a:List _}{k}{w}(h:a[k]?=A w):a_ (bT [32] (bs (a.take (k+1))))=(if 0<k then a_ (bT [32] (bs (a.take k)))++⟨#[32]⟩else a_ (bT [32] (bs (a.take k))))++w:=by
 have b:=(m9.1 h).1;refine tn ?_;rw[take_add_one,h,bs];cases k with
 |zero =>
  simp[bT,bs,a_]
 | succ k =>
  cases a with
  |nil=>cases b
  |cons x l =>
   simp[a_,bs,bT]
theorem GC(a:List B_)(H:aF)(K:dF a+C a<2^40):RC 221 [.pv (aK a)] (sv (a_ (bT [32] (bs a)))) H:=by
 refine Pu ?_;have E:C (a.map S_)=C a:=g_ _;refine Bd func221 Z ntmps221<|Sz aH<|Sz aH<|S<|Sz aH<|aE<|bF (σ:=Nat) (λk=>([(0,.pv (aK a)),(3,sv (a_ (bT [32] (bs (a.take k))))),(4,iv (k:Int))],[])) (λk=>k<=C a) (λk=>C a - k) 0 (l7 _) ?_ ?_
 .exact Wk
 rintro k L;have G:N (a_ (bT [32] (bs (a.take k))))<=dF a+C a:=by
  rw[cA];have m:=gA (a.take k);have n:=oK a k;have J:C (a.take k)<=C a:=F_
  omega
 refine S<|U aA<|Y aA<|Y (fM aD)<|V cI<|Cn ?_ ?_<;>intro g
 .have h:k<C a:=I_ g
  have ⟨w,j⟩:=aR h;have D:=cC (f:=S_) j;have d:=B5 j;have I:N w<=dF a:=by
   have m:=yE j;have n:=oK a (k+1);omega
  have B:N (⟨#[32]⟩:B_)=1:=rfl;have F:N (a_ (bT [32] (bs (a.take k)))++⟨#[32]⟩)=N (a_ (bT [32] (bs (a.take k))))+1:=F_
  refine aB<|S<|aE<|S<|U aA<|V iX<|Cn ?_ ?_<;>intro f
  .have i:0<k:=I_ f
   rw[b6 i]at d;refine Rd aA<|Y kq<|V aH<|Rd aA<|Y aA<|Y aA<|Y (iV aY)<|Y (fS N_)<|Y kq<|V aH<|Rd aA<|Y iD<|Da ?_;refine⟨k+1,X,X,?_⟩;rw[d];exact Wk
  have i:¬ 0<k:=J_ f
  rw[a8 i]at d;refine aB<|Rd aA<|Y aA<|Y aA<|Y (iV aY)<|Y (fS N_)<|Y kq<|V aH<|Rd aA<|Y iD<|Da ?_;refine⟨k+1,X,X,?_⟩;rw[d];exact Wk
 have l:k=C a:=J_ g
 subst l;rw[take_length];exact aP<|U aA<|V aH<|aC<|Rt<|Qq
def T1(s:B_)(n:Int):Bool:=(List.range (N s)).any λj=>θ (aZ s j=n)
theorem Oz(s)(n:Int)(H:aF)(D:N s<2^62):RC 262 [sv s,.pv (.int .u8 n)] (bv (T1 s n)) H:=by
 refine Pu<|Bd func262 Z ntmps262<|Sz aH<|S<|Sz aH<|aE<|bF (σ:=Nat) (λk=>([(0,sv s),(1,.pv (.int .u8 n)),(5,iv (k:Int))],[])) (λk=>k<=N s/\∀j,j<k->θ (aZ s j=n)=η) (λk=>N s - k) 0 ⟨X,X⟩ ?_ ?_
 .exact E0
 rintro k ⟨hk,e⟩;refine S<|U aA<|Y aA<|Y (gL U_)<|V cI<|Cn ?_ ?_<;>intro b
 .have f:k<N s:=I_ b
  refine aB<|S<|aE<|U aA<|Y aA<|Y (cK Z U_ Z Z X (Z) X Z)<|Y aA<|V cF<|Cn ?_ ?_<;>intro c
  .refine Sz aH<|aC<|Rt ?_;exact⟨by rw[T1,uQ f c],Z⟩
  refine aB<|Rd aA<|Y iD<|Da ?_;refine⟨k+1,⟨X,λj B=>?_⟩,X,E0⟩
  grind
 have d:k=N s:=J_ b
 subst d;refine aP<|Sz aH<|aC<|Rt ?_;exact⟨by rw[T1,BT e],Z⟩
theorem Yg:∀n:Fin 256,(T1 ⟨#[32,9,10]⟩ (n.val:Int)=θ (yZ (n.val)=1))/\(θ ((n.val:Int)=35)=θ (yZ (n.val)=2))/\(T1 ⟨#[59,44,46,58,40,41,123,125,91,93,61,60,62,47,45]⟩ (n.val:Int)=θ (yZ (n.val)=6))/\(θ ((n.val:Int)=34)=θ (yZ (n.val)=7))/\(T1 ⟨#[92,34,110]⟩ (n.val:Int)=(tQ (UInt8.ofNat n.val)).isSome):=by decide +kernel
theorem cm(s)(k):(T1 ⟨#[32,9,10]⟩ (aZ s k)=θ (yZ (aZ s k)=1))/\(θ (aZ s k=35)=θ (yZ (aZ s k)=2))/\(T1 ⟨#[59,44,46,58,40,41,123,125,91,93,61,60,62,47,45]⟩ (aZ s k)=θ (yZ (aZ s k)=6))/\(θ (aZ s k=34)=θ (yZ (aZ s k)=7))/\(T1 ⟨#[92,34,110]⟩ (aZ s k)=(tQ (pI s k)).isSome):=by
 have h:=Yg ⟨(aZ s k).toNat,CE s k⟩;have e:UInt8.ofNat (aZ s k).toNat=pI s k:=by rw[tY,l_,UInt8.ofNat_toNat]
 rw[e]at h;exact h
theorem szW(w:List _):N (⟨w.toArray⟩:B_)=C w:=rfl
theorem F5(w)(t):(⟨w.toArray⟩:B_)++t=⟨(w++ν (μ t)).toArray⟩:=mR (Z)
theorem lb{s}{i}(h:i<N s):(s.extract i (i+1)).data.toList=[pI s i]:=by rw[gG,Nat.add_sub_cancel_left,yW h];rfl
theorem wa(s:B_)(f:Nat)(H:aF)(hs:N s<2^40)(ha:f<N s):RC 263 [sv s,iv (f:Int)] (.tup [sv (yA (oJ (s.data.toList.drop (f+1))) [] (f+1)).1,iv (yA (oJ (s.data.toList.drop (f+1))) [] (f+1)).2,bv (oJ (s.data.toList.drop (f+1))).isSome]) H:=by
 refine Pu ?_;have ⟨j,x⟩:∃j,j=yA (oJ (s.data.toList.drop (f+1))) [] (f+1):=X_;have ⟨ok,E⟩:∃ok,ok=(oJ (s.data.toList.drop (f+1))).isSome:=X_;rw[<-x,<-E];refine Bd func263 Z ntmps263<|U aH<|Y aH<|V aH<|Sz aH<|S<|U aA<|Y iD<|V aH<|aE<|eZ (λ(i:Nat) (w:List UInt8)=>([(0,sv s),(7,sv ⟨w.toArray⟩),(8,iv (i:Int))],[])) (λi w=>C w<=i/\i<2199023255552/\j=yA (oJ (s.data.toList.drop i)) w i/\ok=(oJ (s.data.toList.drop i)).isSome) (λi w=>N s+1 - i) (f+1) [] ⟨l7 _,X,x,E⟩ ?_ ?_
 .exact E0
 rintro i w ⟨hwl,hib,d,a⟩;have r:=szW w;refine S<|U aA<|Y aA<|Y (gL U_)<|V cI<|Cn ?_ ?_<;>intro c
 .have F:i<N s:=I_ c
  have o:=yW F;have Q:=lb F;have L:(⟨w.toArray⟩:B_)++s.extract i (i+1)=⟨(w++[pI s i]).toArray⟩:=by rw[F5,Q]
  have u:=gB s i (i+1);refine aB<|S<|aE<|U aA<|Y aA<|Y (ky U_)<|V aH<|S<|U aA<|V cF<|Cn ?_ ?_<;>intro r4
  .have n:pI s i=34:=b9 (CG (n:=34) E_ r4);have t:j=(⟨w.toArray⟩,((i+1:Nat):Int)):=by rw[d,o,n,CQ,yA,append_nil]
   have g:ok=T:=by rw[a,o,n,CQ];rfl
   rw[t,g];refine U aA<|Y aA<|Y iD<|Y aH<|Y aH<|V aH<|aC<|mK (H':=[]) (.inr Z) Z (aI Z) (aI Z) (aI Z) P_ Qq
  have y:pI s i≠34:=b_ (CG (n:=34) E_ r4);refine aB<|S<|U aA<|V cF<|Cn ?_ ?_<;>intro K
  .have n:pI s i=10:=b9 (CG (n:=10) E_ K);have t:j=(a6,0):=by rw[d,o,n,MU,yA]
   have g:ok=η:=by rw[a,o,n,MU];rfl
   rw[t,g];refine U aH<|Y aH<|V aH<|aC<|mK (H':=[]) (.inr Z) Z (aI Z) (aI Z) (aI Z) P_ Qq
  have v:pI s i≠10:=b_ (CG (n:=10) E_ K);refine aB<|S<|U aA<|V xI<|Cn ?_ ?_<;>intro m
  .have z:pI s i≠92:=by
    have h:θ (aZ s i=92)=η:=F_
    exact b_ (CG (n:=92) E_ h)
   refine U aA<|Y aA<|Y aA<|Y aA<|Y iD<|Y (bM (l:=i) (h:=(i+1)) Z U_ Z Z Z X X Z)<|Y (fJ Z Z Z X L)<|V aH<|aP<|Rd aA<|Y iD<|Da ?_;refine⟨i+1,w++[pI s i],⟨F_,X,?_,?_⟩,X,E0⟩
   .rw[d,o,CR y v z,BK]
   rw[a,o,CR y v z,Option.isSome_map]
  have n:pI s i=92:=by
   have h:θ (aZ s i=92)=T:=F_
   exact b9 (CG (n:=92) E_ h)
  by_cases W:i+1<N s
  .have p:θ ((N s:Int)<=(i:Int)+1)=η:=decide_eq_false X;have q:=yW W;have G:=(cm s (i+1)).2.2.2.2;have P:=lb W;have k:=gB s (i+1) (i+1+1);have B:(⟨w.toArray⟩:B_)++s.extract (i+1) (i+1+1)=⟨(w++[pI s (i+1)]).toArray⟩:=by rw[F5,P]
   have i_:(⟨w.toArray⟩:B_)++⟨#[10]⟩=⟨(w++[10]).toArray⟩:=by rfl
   refine aB<|U aA<|Y iD<|V aH<|S<|U aA<|Y aA<|Y (gL U_)<|Y (cP.valY (jY Z Z Z) (p))<|Y aA<|O aA<|O aA<|O (ky U_)<|O (bH Z Z call262 Z (Oz ⟨#[92,34,110]⟩ (aZ s (i+1)) _ E_))<|O iH<|V cD<|Cn ?_ ?_<;>intro R
   .have f_:tQ (pI s (i+1))=ζ:=by
     simp_all
    have t:j=(a6,0):=by rw[d,o,n,q,vI,f_];rfl
    have g:ok=η:=by rw[a,o,n,q,vI,f_];rfl
    rw[t,g];refine U aH<|Y aH<|V aH<|aC<|mK (H':=[]) (.inr Z) Z (aI Z) (aI Z) (aI Z) P_ Qq
   have ⟨b,l⟩:∃b,tQ (pI s (i+1))=A b:=by
    rw[G]at R;cases l:tQ (pI s (i+1))with
    |none=>simp_all
    |some b=>simp_all
   refine aB<|U aA<|Y aA<|Y (ky U_)<|V cF<|Cn ?_ ?_<;>intro I
   .have D:pI s (i+1)=110:=b9 (CG (n:=110) E_ I);have J:b=10:=by rw[D]at l;exact(Option.some.inj l).symm
    refine Rd aA<|Y (by exact fJ Z Z Z (by show N (⟨w.toArray⟩:B_)+1<=_;omega) i_)<|V aH<|Rd aA<|Y iD<|Da ?_;refine⟨i+1+1,w++[10],⟨by rw[j8,length_singleton];omega,X,?_,?_⟩,X,E0⟩
    .rw[d,o,n,q,vI,l,J];exact BK
    rw[a,o,n,q,vI,l];exact Option.isSome_map
   have D:pI s (i+1)≠110:=b_ (CG (n:=110) E_ I);have J:b=pI s (i+1):=by
    rw[tQ]at l
    split at l
    .rename_i e;rw[e];exact(Option.some.inj l).symm
    split at l
    .rename_i e;rw[e];exact(Option.some.inj l).symm
    first
    |cases l
    |(rw[a8 D]at l;cases l)
   refine Rd aA<|Y aA<|Y aA<|Y aA<|Y iD<|Y (bM (l:=(i+1)) (h:=(i+1+1)) Z U_ Z Z Z X X Z)<|Y (fJ Z Z Z X B)<|V aH<|Rd aA<|Y iD<|Da ?_;refine⟨i+1+1,w++[pI s (i+1)],⟨by rw[j8,length_singleton];omega,X,?_,?_⟩,X,E0⟩
   .rw[d,o,n,q,vI,l,J];exact BK
   rw[a,o,n,q,vI,l]
   simp_all
  have p:θ ((N s:Int)<=(i:Int)+1)=T:=decide_eq_true X;have t:j=(a6,0):=by rw[d,o,n,CC X];rfl
  have g:ok=η:=by rw[a,o,n,CC X];rfl
  rw[t,g];refine aB<|U aA<|Y iD<|V aH<|S<|U aA<|Y aA<|Y (gL U_)<|Y (cP.valY (jY Z Z Z) (p))<|Y aA<|M<|M<|M<|M<|M<|V cD<|Cn ?_ ?_<;>intro o_
  .refine U aH<|Y aH<|V aH<|aC<|mK (H':=[]) (.inr Z) Z (aI Z) (aI Z) (aI Z) P_ Qq
  ((cases o_;done))
 have p:N s<=i:=J_ c
 have t:j=(a6,0):=by rw[d,CC p];rfl
 have g:ok=η:=by rw[a,CC p];rfl
 rw[t,g];refine aP<|U aH<|Y aH<|V aH<|aC<|mK (H':=[]) (.inr Z) Z (aI Z) (aI Z) (aI Z) P_ Qq
theorem M7(s:B_)(H:aF)(G:N s<17592186044416):RC 223 [sv s] (sv ⟨(dB (ν (μ s))).toArray⟩) H:=by
 refine Pu ?_;have I:=aS s;refine Bd func223 Z ntmps223<|Sz aH<|Sz aH<|Sz aH<|S<|Sz aH<|aE<|CI (λ(i f:Nat) (w:List UInt8)=>([(0,sv s),(3,sv ⟨w.toArray⟩),(4,iv (f:Int)),(5,iv (i:Int))],[])) (λi f w=>f<=i/\i<=N s/\C w<=C (lR s i)/\w++(s.data.toList.drop f).take (i - f)=lR s i) (λi f w=>N s - i) 0 0 [34] ⟨h_ _,l7 _,h_ _,Z⟩ ?_ ?_
 .exact E0
 rintro i f w ⟨hf,hi,hwl,k⟩;have L:=gu (s:=s) (k:=i) G;have J:=szW w;refine S<|U aA<|Y aA<|Y (gL U_)<|V cI<|Cn ?_ ?_<;>intro x
 .have e:i<N s:=I_ x
  have d:=XG e;have g:=gG s f i;have c:(⟨w.toArray⟩:B_)++s.extract f i=⟨(lR s i).toArray⟩:=by rw[F5,g,k]
  have B:=szW (lR s i);have o:(⟨(lR s i).toArray⟩:B_)++⟨#[92,110]⟩=⟨(lR s i++[92,110]).toArray⟩:=by rfl
  have p:(⟨(lR s i).toArray⟩:B_)++⟨#[92]⟩=⟨(lR s i++[92]).toArray⟩:=by rfl
  have K:=gB s f i;refine aB<|S<|aE<|U aA<|Y aA<|Y (ky U_)<|V cF<|Cn ?_ ?_<;>intro q
  .have v:pI s i=10:=b9 (CG (n:=10) E_ q);have t:qV (pI s i)=[92,110]:=by rw[qV,b6 v]
   rw[t]at d;refine U aA<|Y aA<|Y aA<|Y aA<|Y (bM (l:=f) (h:=i) Z U_ Z Z Z X X Z)<|Y (fJ Z Z Z X c)<|Y (by exact fJ Z Z Z (by show N (⟨(lR s i).toArray⟩:B_)+2<=_;omega) o)<|V aH<|Rd aA<|Y iD<|V aH<|Rd aA<|Y iD<|Da ?_;refine⟨i+1,i+1,lR s i++[92,110],⟨h_ _,e,F_,F_⟩,X,E0⟩
  have n:¬ pI s i=10:=b_ (CG (n:=10) E_ q);refine S<|aT (t:=34) (n:=11) (A_:=θ (aZ s i=34)||θ (aZ s i=92)) ?_ ?_
  .all_goals refine Y aA<|Y aA<|Y (ky U_)<|Y cF<|Dm ?_<;>(refine Sp 29 (λP=>?_) λP=>?_)<;>(first|exact s_|refine M<|M<|M<|M ?_|refine O aA<|O aA<|O (ky U_)<|O cF ?_)<;>refine V cD ?_<;>exact Gj (h:=by simp_all)
  refine Cn ?_ ?_<;>intro j
  .have v:pI s i=34\/pI s i=92:=by
    rw[Bool.or_eq_true]at j;rcases j with h|h
    .exact .inl (b9 (CG (n:=34) E_ h))
    exact .inr (b9 (CG (n:=92) E_ h))
   have t:qV (pI s i)=[92,pI s i]:=by rw[qV,a8 n,b6 v]
   rw[t]at d;refine U aA<|Y aA<|Y aA<|Y aA<|Y (bM (l:=f) (h:=i) Z U_ Z Z Z X X Z)<|Y (fJ Z Z Z X c)<|Y (by exact fJ Z Z Z (by show N (⟨(lR s i).toArray⟩:B_)+1<=_;omega) p)<|V aH<|Rd aA<|V aH<|Rd aA<|Y iD<|Da ?_;refine⟨i+1,i,lR s i++[92],⟨le_succ _,e,F_,by rw[d,Nat.add_sub_cancel_left,yW e,append_assoc];rfl⟩,X,E0⟩
  have v:¬ (pI s i=34\/pI s i=92):=by
   rw[q_]at j;rintro(h|h)
   .exact absurd h (b_ (CG (n:=34) E_ j.1))
   exact absurd h (b_ (CG (n:=92) E_ j.2))
  have t:qV (pI s i)=[pI s i]:=by rw[qV,a8 n,a8 v]
  rw[t]at d;have z:(s.data.toList.drop f).take (i+1 - f)=(s.data.toList.drop f).take (i - f)++[pI s i]:=by
   have F:i+1 - f=(i - f)+1:=X
   have D:(s.data.toList.drop f)[i - f]?=A (pI s i):=by
    rw[getElem?_drop,show f+(i - f)=i by omega];have E:=yW e;exact(TZ E).1
   rw[F,take_add_one,D];rfl
  refine aB<|Rd aA<|Y iD<|Da ?_;refine⟨i+1,f,w,⟨X,e,by rw[d,j8];omega,by rw[z,<-append_assoc,k,d]⟩,X,E0⟩
 have y:i=N s:=J_ x
 subst y;have g:=gG s f (N s);have c:(⟨w.toArray⟩:B_)++s.extract f (N s)=⟨(lR s (N s)).toArray⟩:=by rw[F5,g,k]
 have B:=szW (lR s (N s));have K:=gB s f (N s);have u:(⟨(lR s (N s)).toArray⟩:B_)++⟨#[34]⟩=⟨(dB (ν (μ s))).toArray⟩:=by
  rw[F5,lR,take_of_length_le X,dB];rfl
 exact aP<|U aA<|Y aA<|Y aA<|Y (bM (l:=f) (h:=N s) Z U_ Z Z Z X X Z)<|Y (fJ Z Z Z X c)<|Y (by exact fJ Z Z Z (by show N (⟨(lR s (N s)).toArray⟩:B_)+1<=_;omega) u)<|V aH<|aC<|Rt<|Qq
abbrev oBx(o:l8):Ob:=bx 6 135 ((bS o).map .pv)
def VI(l:List B_):List (List AV):=l.map λs=>[sv s]
theorem ZZ(l):C (VI l)=C l:=g_ _
theorem mG(H)(l):∀r∈VI l,∀a∈r,Clo H a:=by intro r c a b;obtain ⟨x,_,rfl⟩:=mem_map.1 c;rw[q9]at b;subst b;simp
instance(H)(l):W_ (H) (VI l):=⟨mG H l⟩
theorem Z0{l}{k:Nat}{s}(h:l[k]?=A s):(VI l)[k]?=A [sv s]:=by rw[VI,r8,h];rfl
theorem Z1(l)(s):VI l++[(S_ s).map AV.pv]=VI (l++[s]):=by rw[VI,VI,map_append];rfl
theorem Kl(l):VI l=(l.map S_).map (·.map .pv):=by rw[map_map];rfl
theorem fmC{α β:Type}{f g:α->List β}:∀ {l:List _},(∀x∈l,f x=g x)->l.flatMap f=l.flatMap g
 | [],_=>rfl
 |x::l,h=>by rw[List.flatMap_cons,List.flatMap_cons,h x List.mem_cons_self,fmC λy a=>h y (List.mem_cons_of_mem _ a)]
theorem aE4{x}(h:0<=x):aV x=a_ (decDigits x.toNat):=by rw[aV,kK _ h];rfl
theorem QB(x)(H)(a:0<=x)(B:x<1000000000):RC 222 [iv x] (sv (aV x)) H:=by obtain ⟨u,rfl⟩:=Int.eq_ofNat_of_zero_le a;exact aBO u H X
def wO(o:l8)(e_:List B_)(k:Nat):List B_:=[eN o.kind,o.id]++e_++(o.tags.take k).map iY
theorem vj{o}{e_}{k}{t}(h:o.tags[k]?=A t):wO o e_ (k+1)=wO o e_ k++[iY t]:=by rw[wO,take_add_one,h,map_append,<-append_assoc];rfl
theorem GJ(a b):dF (a++b)=dF a+dF b:=by rw[dF,dF,dF,map_append,sum_append]
theorem ri{o}(d:oV o=T):fK o=if 20000<N (EL o) then(a6,2)else(EL o,0):=by
 rw[fK,b6 d];by_cases h:0<C o.tags/\(kA o.tags).2≠0
 .have b:=(CB d).2.2.1;rw[b6 h];have a:=h.2;rw[kA,b6 b]at a |-
  split at a
  .next c =>
   rw[b6 c,b6 _];rw[EL,<-aS];rw[sR,j8];cases e:o.tags with
   |nil=>simp_all
   |cons t l =>
    rw[e]at c;have:=WY t l;have f:=congrArg List.length this;rw[aS]at f;rw[nT,flatMap_cons,j8,j6];rw[j8,nT]at f;omega
  exact absurd Z a
 simp_all
theorem vk(o)(e_):(a_ (bT [32] (bs (wO o e_ (C o.tags))))).data.toList=(eN o.kind).data.toList++32::(ν (μ o.id)++e_.flatMap λs=>32::ν (μ s))++nT o.tags:=by rw[cG,wO,take_length,cons_append,cons_append,bs,map_cons,bT];simp only[map_cons,map_append,flatMap_cons,flatMap_append,flatMap_map,nil_append,append_assoc,cons_append];congr 3;congr 1;refine fmC λt _=>?_;rw[NM]
theorem vl{o}{e_}(B:(eN o.kind).data.toList++32::(ν (μ o.id)++e_.flatMap λs=>32::ν (μ s))=mJ o):a_ (bT [32] (bs (wO o e_ (C o.tags))))=EL o:=tn (by
 rw[vk,B];rfl)
theorem YC:∀(l) (k),C (bT [32] (bs (l.take k)))<=C (bT [32] (bs l))
 | [],k=>by simp
 |x::l,0=>l7 _
 |x::l,k+1=>by
  rw[List.take_succ_cons,yP,yP,j8,j8,HB,HB];have B:=oK l k;have D:C (l.take k)<=C l:=G_
  omega
theorem zX(a b:B_):N (a++b)=N a+N b:=ByteArray.size_append
theorem C4(o:l8)(H:aF)(ho:nh o):RC 217 [av (bS o)] (.tup [sv (fK o).1,iv (fK o).2]) H:=by
 refine Pu ?_;have hmt:C (o.tags.map bU)=C o.tags:=g_ _;have hmr:C (o.refs.map S_)=C o.refs:=g_ _;refine Bd func217 Z ntmps217<|U (kb 1)<|Y aH<|V aH<|S<|U (by exact aW Z cB sizeOf135 Z Z Z Z (by simp only[Zl,bU,bS,S_,bL,gU];rfl) Z)<|Y (kc call261 (Ld o _ ho))<|V iH ?_;refine Cn ?_ ?_<;>intro κ
 .have r4:oV o=η:=by have h:=κ;rwa [r9]at h
  have e:fK o=(a6,1):=by rw[fK,a8 F_]
  rw[e];exact U aH<|V aH<|aC<|Ru<|Qq
 have r4:oV o=T:=by have h:=κ;rwa [Bool.not_eq_false']at h
 have ⟨v,p,htg,hid,_⟩:=CB r4;have ⟨hx,hy,hn,hz⟩:=ml r4;have D:=(BH (G6 r4)).1;have hws:=dS D;have his:=dS hid;have hT:=ri r4;have o_:∀t∈o.tags,N t.key<=24/\N t.val<=200:=λt p=>by
  have ⟨p1,_,_⟩:=xY.1 htg;have:=p1 t p;exact⟨dS this.1,this.2.2⟩
 have ρ:∀k,dF ((o.tags.take k).map iY)<=60*427:=λk=>by
  have q:∀l:List m8,(∀t∈l,t∈o.tags)->dF (l.map iY)<=C l*427:=by
   intro l
   induction l with
   |nil=>intro _;exact l7 _
   |cons t l ih =>
    intro h;rw[map_cons,cN,j6,Nat.add_mul];have y:=ih λx hx=>h x (mem_cons_of_mem _ hx);have e_:=o_ t (h t mem_cons_self);have h4:=X5 e_.1 e_.2;omega
  have y:=q (o.tags.take k) λt p=>List.mem_of_mem_take p;have e_:C (o.tags.take k)<=60:=G_
  have h4:C (o.tags.take k)*427<=60*427:=Nat.mul_le_mul_right _ e_;omega
 refine aB<|S<|aM a7<|Cs (λ_ h=>fh eJ h)<|Cs (λ_ h=>lh M_ h)<|Cs (λH1 c=>by exact bH Z Z call214 Z (GO o.kind _))<|Cs (λ_ h=>fh rD h)<|Cs (λ_ h=>lh N_ h) ?_;refine iP (r:=⟨_,ζ,[_]⟩) (DStep.plain Z (λH1 c=>by exact eO (id:=901) Z aY Z Z Z Z F_ ((c _ Z).trans Z))) Z ?_;refine Cs (λ_ _=>aH)<|bG<|Kr<|S<|S ?_;refine fW.ent (E':=[(1,.ref 1 0 0 0),(4,.osl 901 0 0 2)]) (H':=[(901,⟨0,1,9,VI [eN o.kind,o.id]⟩),(1,oBx o)]) L_<|Rd (bC eJ)<|Y (bQ M_)<|V cF<|Cn ?_ ?_<;>intro A_
 .have j:o.kind=1:=b9 A_;have six:N (aV o.x)<=7:=by rw[<-aS];show C (Lib.itoa o.x)<=7;rw[kK _ hx.1];exact cX X E_
  have siy:N (aV o.y)<=7:=by rw[<-aS];show C (Lib.itoa o.y)<=7;rw[kK _ hy.1];exact cX X E_
  have hMs:dF [aV o.x,aV o.y]=N (aV o.x)+(N (aV o.y)+0):=by rw[cN,cN];rfl
  have hMl:C ([aV o.x,aV o.y]:List B_)=2:=rfl;have Q:(eN o.kind).data.toList++32::(ν (μ o.id)++([aV o.x,aV o.y]:List B_).flatMap λs=>32::ν (μ s))=mJ o:=by
   rw[mJ,b6 j];simp[aV]
  have b:fK o=if 20000<N (a_ (bT [32] (bs (wO o [aV o.x,aV o.y] (C o.tags))))) then(a6,2)else(a_ (bT [32] (bs (wO o [aV o.x,aV o.y] (C o.tags)))),0):=by rw[vl Q];exact hT
  refine aM a7<|Cs (λ_ _=>aA)<|Cs (λ_ h=>fh mY h)<|Cs (λ_ h=>fh nA h)<|Cs (λ_ h=>lh M_ h)<|Cs (λH1 c=>by exact bH Z Z call222 Z (QB o.x _ X X))<|Cs (λ_ h=>fh mY h)<|Cs (λ_ h=>fh mZ h)<|Cs (λ_ h=>lh M_ h)<|Cs (λH1 c=>by exact bH Z Z call222 Z (QB o.y _ X X))<|Cs (λH1 c=>by exact aL [S_ (aV o.x),S_ (aV o.y)] Z aY Z Z Z Z Z (by intro r v;simp only[l9,q8,or_false]at v;rcases v with rfl|rfl<;>rfl)) ?_;refine iP (r:=⟨_,ζ,[_]⟩) (DStep.plain Z (λH1 c=>by exact bW (ps:=[S_ (aV o.x),S_ (aV o.y)]) Z aY sW Z ((c _ Z).trans Z) Z Z Z Z Z (by intro r v;simp only[l9,q8,or_false]at v;rcases v with rfl|rfl<;>rfl) (m:=2) Z X Z (rfl:_=VI (wO o [aV o.x,aV o.y] 0)))) Z ?_;refine Cs (λ_ _=>aH)<|bG<|Kr<|S<|Sz aH<|aE ?_;have τ:dF ([eN o.kind,o.id]++[aV o.x,aV o.y])<=70000:=by rw[GJ];have:dF [eN o.kind,o.id]=N (eN o.kind)+(N o.id+0):=(by rw[cN,cN];rfl);omega
  have K:∀k,k<=C o.tags->C (wO o [aV o.x,aV o.y] k)<=64:=λk j=>by rw[wO,j8,j8,g_,m_];show 2+_+_<=_;omega
  have R:∀k,dF (wO o [aV o.x,aV o.y] k)<=100000:=λk=>by
   rw[wO,GJ];have q:=ρ k;omega
  refine bF (σ:=Nat) (λk=>([(1,.ref 1 0 0 0),(4,.osl 901 (1+k) 0 (C (wO o [aV o.x,aV o.y] k))),(7,iv (k:Int))],[(901,⟨1+k,1,9,VI (wO o [aV o.x,aV o.y] k)⟩),(1,oBx o)])) (λk=>k<=C o.tags) (λk=>C o.tags - k) 0 (l7 _) ?_ ?_
  .exact L_
  rintro k j;have P:=K k j;refine S<|U aA<|Y (bC gF)<|Y (bQ dP)<|Y (fM dU)<|V cI<|Cn ?_ ?_<;>intro δ
  .have hlt:k<C o.tags:=I_ δ
   have ⟨t,p⟩:=aR hlt;have hit:=cC (f:=bU) p;have J:=vj (e_:=[aV o.x,aV o.y]) p;have L:C (wO o [aV o.x,aV o.y] k++[iY t])=C (wO o [aV o.x,aV o.y] k)+1:=by rw[j8];rfl
   have ⟨hks,hvs⟩:=o_ t (m7 p);have i:=rT t.val;have h61:N (⟨#[61]⟩:B_)=1:=rfl;have hk1:N (t.key++(⟨#[61]⟩:B_))=N t.key+1:=zX _ _;refine aB<|S<|aE<|aM a7<|Cs (λ_ _=>aA)<|Cs (λ_ h=>fh gF h)<|Cs (λ_ h=>lh dP h)<|Cs (λ_ _=>aA)<|Cs (λ_ _=>(iV lU))<|Cs (λ_ _=>(F9 qD))<|Cs (λ_ _=>(fS N_))<|Cs (λH1 c=>by exact fJ Z Z Z X Z)<|Cs (λ_ h=>fh gF h)<|Cs (λ_ h=>lh dP h)<|Cs (λ_ _=>aA)<|Cs (λ_ _=>(iV lU))<|Cs (λ_ _=>(F9 rB))<|Cs (λ_ _=>(fS N_))<|Cs (λH1 c=>by exact bH Z Z call223 Z (M7 t.val _ X))<|Cs (λH1 c=>by exact fJ Z Z Z X Z)<|Cs (λH1 c=>by exact aL [S_ (iY t)] Z aY Z Z Z Z Z R_) ?_;refine iP (r:=⟨_,ζ,[_]⟩) (DStep.plain Z (λH1 c=>by exact bW (ps:=[S_ (iY t)]) Z aY sW Z ((c _ Z).trans Z) Z Z Z (ZZ _) Z R_ (m:=1) Z X Z (Z1 _ (iY t)))) Z ?_;refine Cs (λ_ _=>aH)<|bG<|Kr<|Rd aA<|Y iD<|Da ?_;refine⟨k+1,X,X,?_⟩;rw[J,L];exact L_
  have d:k=C o.tags:=J_ δ
  subst d;have ⟨W,hW⟩:∃W,W=wO o [aV o.x,aV o.y] (C o.tags):=X_;have u:=R (C o.tags);rw[<-hW]at P u b;rw[<-hW];have ⟨F,hF⟩:∃F,F=a_ (bT [32] (bs W)):=X_;rw[<-hF]at b;refine aP<|Sz aH<|S<|Sz aH<|aE<|bF (σ:=Nat) (λk=>([(4,.osl 901 (1+C o.tags) 0 (C W)),(8,sv (a_ (bT [32] (bs (W.take k))))),(9,iv (k:Int))],[(901,⟨1+C o.tags,1,9,VI W⟩)])) (λk=>k<=C W) (λk=>C W - k) 0 (l7 _) ?_ ?_
  .exact L_
  rintro k j;have hsz:N (a_ (bT [32] (bs (W.take k))))<=100064:=by
   rw[cA];have q:=gA (W.take k);have y:=oK W k;have e_:C (W.take k)<=C W:=by rw[m_];exact Nat.min_le_right _ _
   omega
  refine S<|U aA<|Y aA<|Y (by exact dR Z aD Z Z Z)<|V cI<|Cn ?_ ?_<;>intro z_
  .have hlt:k<C W:=I_ z_
   have ⟨w,D⟩:=aR hlt;have g:=Z0 D;have J:=B5 D;have hws:N w<=100000:=by
    have q:=yE D;have y:=oK W (k+1);omega
   have z:N (⟨#[32]⟩:B_)=1:=rfl;have y_:N (a_ (bT [32] (bs (W.take k)))++⟨#[32]⟩)=N (a_ (bT [32] (bs (W.take k))))+1:=zX _ _;refine aB<|S<|aE<|S<|U aA<|V iX<|Cn ?_ ?_<;>intro γ
   .have i:0<k:=I_ γ
    rw[b6 i]at J;refine Rd aA<|Y kq<|V aH<|Rd aA<|Y aA<|Y aA<|Y (by exact dL Z aY Z Z Z Z Z X (by exact l_ _) hlt (r7 _))<|Y (by exact aX Z N_ Z Z Z g Z)<|Y kq<|V aH<|Rd aA<|Y iD<|Da ?_;refine⟨k+1,X,X,?_⟩;rw[J];exact(cH.wk (Ea<|Eb<|Eb<|T_) (Hc (mG _ _)<|T_) T_)
   have i:¬ 0<k:=J_ γ
   rw[a8 i]at J;refine aB<|Rd aA<|Y aA<|Y aA<|Y (by exact dL Z aY Z Z Z Z Z X (by exact l_ _) hlt (r7 _))<|Y (by exact aX Z N_ Z Z Z g Z)<|Y kq<|V aH<|Rd aA<|Y iD<|Da ?_;refine⟨k+1,X,X,?_⟩;rw[J];exact(cH.wk (Ea<|Eb<|Eb<|T_) (Hc (mG _ _)<|T_) T_)
  have d:k=C W:=J_ z_
  subst d;rw[take_length,<-hF];refine aP<|S<|U aA<|Y (gL U_)<|V iX<|Cn ?_ ?_<;>intro β
  .have a:20000<N F:=I_ β
   rw[b,b6 a];exact U aH<|V aH<|aC<|Ru<|Qq
  have a:¬ 20000<N F:=J_ β
  rw[b,a8 a];exact aB<|U aA<|Y aH<|V aH<|aC<|Ru<|Qq
 have j:o.kind≠1:=b_ A_;have hsz:dF o.refs<=24*C o.refs:=pN (λs hs=>dS (uP r4 s hs));have hjl:=gA o.refs;have hSz:∀k,N (a_ (bT [32] (bs (o.refs.take k))))<=50000:=λk=>by
  rw[cA];have:=YC o.refs k;omega
 refine Sz aH<|S<|Sz aH<|aE<|bF (σ:=Nat) (λk=>([(1,.ref 1 0 0 0),(4,.osl 901 0 0 2),(5,sv (a_ (bT [32] (bs (o.refs.take k))))),(6,iv (k:Int))],[(901,⟨0,1,9,VI [eN o.kind,o.id]⟩),(1,oBx o)])) (λk=>k<=C o.refs) (λk=>C o.refs - k) 0 (l7 _) ?_ ?_
 .exact L_
 rintro k hkr;have hsk:=hSz k;refine S<|S<|aT (t:=42) (n:=11) (A_:=θ ((k:Int)<(C (o.refs.map S_):Int))&&θ ((N (a_ (bT [32] (bs (o.refs.take k)))):Int)<=20000)) ?_ ?_
 .all_goals refine Y aA<|Y (bC eI)<|Y (bQ aG)<|Y (fM aD)<|Y cI<|Dm ?_<;>(refine Sp 38 (λh38=>?_) λh38=>?_)<;>(first|exact s_|refine M<|M<|M ?_|refine O aA<|O (gL U_)<|O H7 ?_)<;>refine V cD ?_<;>exact Gj (h:=by(rw[h38];rfl))
 refine Cn ?_ ?_<;>intro hc7
 .have hlt:k<C o.refs:=by have h:=hc7;rw[l6,k_]at h;omega
  have ⟨w,u4⟩:=aR hlt;have g:=cC (f:=S_) u4;have J:=B5 u4;have hwsz:=dS (uP r4 w (m7 u4));have z:N (⟨#[32]⟩:B_)=1:=rfl;have y_:N (a_ (bT [32] (bs (o.refs.take k)))++⟨#[32]⟩)=N (a_ (bT [32] (bs (o.refs.take k))))+1:=zX _ _;refine aB<|S<|aE<|S<|U aA<|V iX<|Cn ?_ ?_<;>intro hc8
  .have i:0<k:=I_ hc8
   rw[b6 i]at J;refine Rd aA<|Y kq<|V aH<|Rd aA<|Y (bC eI)<|Y (bQ aG)<|Y aA<|Y (iV aY)<|Y (fS N_)<|Y kq<|V aH<|Rd aA<|Y iD<|Da ?_;refine⟨k+1,X,X,?_⟩;rw[J];exact L_
  have i:¬ 0<k:=J_ hc8
  rw[a8 i]at J;refine aB<|Rd aA<|Y (bC eI)<|Y (bQ aG)<|Y aA<|Y (iV aY)<|Y (fS N_)<|Y kq<|V aH<|Rd aA<|Y iD<|Da ?_;refine⟨k+1,X,X,?_⟩;rw[J];exact L_
 have I:k=C o.refs\/20000<N (a_ (bT [32] (bs (o.refs.take k)))):=by have h:=hc7;simp only[Bool.and_eq_false_iff,q7]at h;omega
 have ⟨f_,hS⟩:∃f_,f_=a_ (bT [32] (bs (o.refs.take k))):=X_;have ⟨B,hB⟩:∃B,B=(⟨#[40]⟩:B_)++f_++⟨#[41]⟩:=X_;rw[<-hS]at hsk I;rw[<-hS];have h40:N (⟨#[40]⟩:B_)=1:=rfl;have h41:N (⟨#[41]⟩:B_)=1:=rfl;have hA:N ((⟨#[40]⟩:B_)++f_)=1+N f_:=zX _ _;have hBs:N B=1+N f_+1:=by rw[hB,zX,hA];rfl
 have hMs:dF [B]=N B+0:=by rw[cN];rfl
 have hMl:C ([B]:List B_)=1:=rfl;have b:fK o=if 20000<N (a_ (bT [32] (bs (wO o [B] (C o.tags))))) then(a6,2)else(a_ (bT [32] (bs (wO o [B] (C o.tags)))),0):=by
  by_cases he:k=C o.refs
  .have Q:(eN o.kind).data.toList++32::(ν (μ o.id)++([B]:List B_).flatMap λs=>32::ν (μ s))=mJ o:=by
    rw[mJ,a8 j,hB,hS,he,take_length];simp[a_]
   rw[vl Q];exact hT
  have a:20000<N f_:=by rcases I with h|h;exact absurd h he;exact h
  have q:=congrArg List.length (vk o [B]);rw[aS]at q;have y:N (EL o)=C (sR o):=by rw[<-aS];rfl
  have e_:=YC o.refs k;have h4:N f_=C (bT [32] (bs (o.refs.take k))):=by rw[hS,cA]
  have h5:C (sR o)>=C (bT [32] (bs o.refs)):=by
   rw[sR,mJ,a8 j];simp only[j8,j6];omega
  have h6:([B]:List B_).flatMap (λs=>32::ν (μ s))=32::ν (μ B):=H_
  rw[h6]at q;simp only[j8,j6,aS]at q;rw[hT,b6 X,b6 X]
 refine aP<|Rd aA<|Y aA<|Y kq<|Y (by exact fJ Z Z Z X hB.symm)<|Y (by exact aL [S_ B] Z aY Z Z Z Z Z R_)<|Y (by exact bW (ps:=[S_ B]) Z aY sW Z Z Z Z Z Z Z R_ (m:=1) Z X Z (rfl:_=VI (wO o [B] 0)))<|V aH<|S<|Sz aH<|aE ?_;have τ:dF ([eN o.kind,o.id]++[B])<=70000:=by rw[GJ];have:dF [eN o.kind,o.id]=(eN o.kind).size+(o.id.size+0):=(by rw[cN,cN];rfl);omega
 have K:∀k,k<=C o.tags->C (wO o [B] k)<=64:=λk j=>by rw[wO,j8,j8,g_,m_];show 2+_+_<=_;omega
 have R:∀k,dF (wO o [B] k)<=100000:=λk=>by
  rw[wO,GJ];have q:=ρ k;omega
 refine bF (σ:=Nat) (λk=>([(1,.ref 1 0 0 0),(4,.osl 901 (1+k) 0 (C (wO o [B] k))),(7,iv (k:Int))],[(901,⟨1+k,1,9,VI (wO o [B] k)⟩),(1,oBx o)])) (λk=>k<=C o.tags) (λk=>C o.tags - k) 0 (l7 _) ?_ ?_
 .exact L_
 rintro k j;have P:=K k j;refine S<|U aA<|Y (bC gF)<|Y (bQ dP)<|Y (fM dU)<|V cI<|Cn ?_ ?_<;>intro v_
 .have hlt:k<C o.tags:=I_ v_
  have ⟨t,p⟩:=aR hlt;have hit:=cC (f:=bU) p;have J:=vj (e_:=[B]) p;have L:C (wO o [B] k++[iY t])=C (wO o [B] k)+1:=by rw[j8];rfl
  have ⟨hks,hvs⟩:=o_ t (m7 p);have i:=rT t.val;have h61:N (⟨#[61]⟩:B_)=1:=rfl;have hk1:N (t.key++(⟨#[61]⟩:B_))=N t.key+1:=zX _ _;refine aB<|S<|aE<|aM a7<|Cs (λ_ _=>aA)<|Cs (λ_ h=>fh gF h)<|Cs (λ_ h=>lh dP h)<|Cs (λ_ _=>aA)<|Cs (λ_ _=>(iV lU))<|Cs (λ_ _=>(F9 qD))<|Cs (λ_ _=>(fS N_))<|Cs (λH1 c=>by exact fJ Z Z Z X Z)<|Cs (λ_ h=>fh gF h)<|Cs (λ_ h=>lh dP h)<|Cs (λ_ _=>aA)<|Cs (λ_ _=>(iV lU))<|Cs (λ_ _=>(F9 rB))<|Cs (λ_ _=>(fS N_))<|Cs (λH1 c=>by exact bH Z Z call223 Z (M7 t.val _ X))<|Cs (λH1 c=>by exact fJ Z Z Z X Z)<|Cs (λH1 c=>by exact aL [S_ (iY t)] Z aY Z Z Z Z Z R_) ?_;refine iP (r:=⟨_,ζ,[_]⟩) (DStep.plain Z (λH1 c=>by exact bW (ps:=[S_ (iY t)]) Z aY sW Z ((c _ Z).trans Z) Z Z Z (ZZ _) Z R_ (m:=1) Z X Z (Z1 _ (iY t)))) Z ?_;refine Cs (λ_ _=>aH)<|bG<|Kr<|Rd aA<|Y iD<|Da ?_;refine⟨k+1,X,X,?_⟩;rw[J,L];exact L_
 have d:k=C o.tags:=J_ v_
 subst d;have ⟨W,hW⟩:∃W,W=wO o [B] (C o.tags):=X_;have u:=R (C o.tags);rw[<-hW]at P u b;rw[<-hW];have ⟨F,hF⟩:∃F,F=a_ (bT [32] (bs W)):=X_;rw[<-hF]at b;refine aP<|Sz aH<|S<|Sz aH<|aE<|bF (σ:=Nat) (λk=>([(4,.osl 901 (1+C o.tags) 0 (C W)),(8,sv (a_ (bT [32] (bs (W.take k))))),(9,iv (k:Int))],[(901,⟨1+C o.tags,1,9,VI W⟩)])) (λk=>k<=C W) (λk=>C W - k) 0 (l7 _) ?_ ?_
 .exact L_
 rintro k j;have hsz:N (a_ (bT [32] (bs (W.take k))))<=100064:=by
  rw[cA];have q:=gA (W.take k);have y:=oK W k;have e_:C (W.take k)<=C W:=by rw[m_];exact Nat.min_le_right _ _
  omega
 refine S<|U aA<|Y aA<|Y (by exact dR Z aD Z Z Z)<|V cI<|Cn ?_ ?_<;>intro c_
 .have hlt:k<C W:=I_ c_
  have ⟨w,D⟩:=aR hlt;have g:=Z0 D;have J:=B5 D;have hws:N w<=100000:=by
   have q:=yE D;have y:=oK W (k+1);omega
  have z:N (⟨#[32]⟩:B_)=1:=rfl;have y_:N (a_ (bT [32] (bs (W.take k)))++⟨#[32]⟩)=N (a_ (bT [32] (bs (W.take k))))+1:=zX _ _;refine aB<|S<|aE<|S<|U aA<|V iX<|Cn ?_ ?_<;>intro E
  .have i:0<k:=I_ E
   rw[b6 i]at J;refine Rd aA<|Y kq<|V aH<|Rd aA<|Y aA<|Y aA<|Y (by exact dL Z aY Z Z Z Z Z X (by exact l_ _) hlt (r7 _))<|Y (by exact aX Z N_ Z Z Z g Z)<|Y kq<|V aH<|Rd aA<|Y iD<|Da ?_;refine⟨k+1,X,X,?_⟩;rw[J];exact(cH.wk (Ea<|Eb<|Eb<|T_) (Hc (mG _ _)<|T_) T_)
  have i:¬ 0<k:=J_ E
  rw[a8 i]at J;refine aB<|Rd aA<|Y aA<|Y aA<|Y (by exact dL Z aY Z Z Z Z Z X (by exact l_ _) hlt (r7 _))<|Y (by exact aX Z N_ Z Z Z g Z)<|Y kq<|V aH<|Rd aA<|Y iD<|Da ?_;refine⟨k+1,X,X,?_⟩;rw[J];exact(cH.wk (Ea<|Eb<|Eb<|T_) (Hc (mG _ _)<|T_) T_)
 have d:k=C W:=J_ c_
 subst d;rw[take_length,<-hF];refine aP<|S<|U aA<|Y (gL U_)<|V iX<|Cn ?_ ?_<;>intro G
 .have a:20000<N F:=I_ G
  rw[b,b6 a];exact U aH<|V aH<|aC<|Ru<|Qq
 have a:¬ 20000<N F:=J_ G
 rw[b,a8 a];exact aB<|U aA<|Y aH<|V aH<|aC<|Ru<|Qq
end Go.Proofs.C
