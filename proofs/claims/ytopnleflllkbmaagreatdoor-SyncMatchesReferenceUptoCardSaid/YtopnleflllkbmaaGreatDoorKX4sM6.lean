/-
  Parts of the proof. Conditions: each theorem's own.
-/
import Derived.Test.YtopnleflllkbmaaGreatDoorKX4sM5
set_option linter.unusedVariables false
set_option linter.unusedSimpArgs false
set_option maxRecDepth 100000
set_option maxHeartbeats 8000000
open List Nat
open List renaming length->C
open Option renaming some->A,none->ζ
open Bool renaming true->N,false->η
open ByteArray renaming size->T,data->μ
open Array renaming toList->ν
open Decidable renaming decide->θ
open Go.IntKind renaming i64->ξ
open Go.Proofs.Tryz renaming prog->φ
open Go.Proofs.YtopnleflllkbmaaGreatDoor
namespace Go.Proofs
open Tryz
theorem fZ:type_of% call84:=call84
theorem jS:type_of% call99:=call99
theorem eF:type_of% isAgg125:=isAgg125
end Go.Proofs
namespace Go.Proofs.C
open Go.Proofs.Tryz
open Go.Abs
variable{α:Type}{i:Nat}
abbrev nxB:AV:=.bnd 98 [SI]
def Ch(l:List UInt8):Option (AV×List UInt8):=(DO pJ l).map λp=>(.pv (aL p.1),p.2)
theorem ix(f){m4 k}{q b}{B:List α}(E:C B=k)(D:k<m4)(h:HM f m4 q=(HM f (m4 - k) b).map λp=>(B++p.1,p.2)):
  HM f m4 q=match f b with
   |none=>ζ
   |some (x,r)=>(HM f (m4 - (k+1)) r).map λp=>((B++[x])++p.1,p.2):=by
 rw[h,show m4 - k=(m4 - (k+1))+1 by omega,HM]
 grind
theorem Ma{l}(h:yA l=ζ):Ch l=ζ:=by rw[Ch,DO,h];rfl
theorem Lz{l q}{n}(h:yA l=A (n,q)):Ch l=(HM pJ n.toNat q).map λp=>(.pv (aL p.1),p.2):=by rw[Ch,DO,h]
theorem bh(l:List UInt8)(D:C l<1000000000):EV 100 [SI,nxB] [] l (Ch l):=by
 refine EV.of (C9 l) Z m3 ?_;have g:=oU l D;have e:=Ma (l:=l);have f:=λn q=>Lz (l:=l) (n:=n) (q:=q);have i:=λn q=>kS (l:=l) (x:=n) (q:=q);rw[FI]at g;generalize yA l=I at g e f i;refine gA.body func100 Z ntmps100 (r_ Z)<|Sz aJ<|S ?_;rcases I with _|⟨n,j⟩
 .rw[e rfl];have w:EV 99 [SI] [] l ζ:=g;refine iA<|jC Z Z Z (iD Z Z) ?_;exact rB Z Z (eV Z Z jS Z (w.no Z (gM _))) (λJ E h=>by obtain ⟨rfl,q,rfl⟩:=h;exact GA (H':=nT q) P_ ⟨Z,Z,q,Z⟩)
 have w:EV 99 [SI] [] l (A (iv n,j)):=g;have ⟨H,F,G⟩:=i n j Z;rw[f n j rfl];refine Rd aA<|Y (kc jS (w.yes Z (gM _)))<|V aJ<|Sz (cZ (id:=905) (sz:=1) (ty:=9) Z Z Z)<|S<|O aA<|V aA<|aD<|dU (λ(d:List UInt8) (B:List B_)=>([(0,SI),(1,nxB),(6,.osl 905 (C B) 0 (C B)),(9,iv n),(10,iv (C B:Int))],(905,⟨C B,1,9,bQ B⟩)::nT d)) (λd B=>C d+C B<C l/\C B<=n.toNat/\HM pJ n.toNat j=(HM pJ (n.toNat - C B) d).map λp=>(B++p.1,p.2)) (λd B=>C d) j [] ⟨X,k_ _,H_⟩ ?_ ?_
 .exact L_
 rintro d B ⟨hl',hA,y⟩;have b:=A0 d X;have k:=λs q=>lT (l:=d) (s:=s) (q:=q);have c:=λh=>ix pJ (k:=C B) Z h y;rw[LC]at b;generalize pJ d=A_ at b k c;refine Sz cF<|S<|Cn ?_ ?_<;>intro o
 .have t:C B<n.toNat:=I_ o
  have m:=c t;clear c;refine aB<|S<|aD ?_;rcases A_ with _|⟨s,q⟩
  .have m:HM pJ n.toNat j=ζ:=m;rw[m];have b:EV 98 [SI] [] d ζ:=b;refine iA<|jC Z Z Z (iD Z Z)<|jC Z Z Z (iD Z Z) ?_;exact rB Z Z (HV Z Z nW Z (b.no Z (gM _))) (λJ E h=>by obtain ⟨rfl,q,rfl⟩:=h;exact GA (H':=nT q) P_ ⟨Z,Z,q,Z⟩)
  have m:HM pJ n.toNat j=(HM pJ (n.toNat - (C B+1)) q).map λp=>((B++[s])++p.1,p.2):=m;have b:EV 98 [SI] [] d (A (sv s,q)):=b;have k:=k s q Z;have u:C (B++[s])=C B+1:=F_
  refine Rd aA<|Y aA<|Y (by exact ET.opr (HV Z Z nW Z (gA.of (b.yes Z (gM _)))))<|Y (by exact aM [[.str s]] Z aZ Z Z Z Z Z F_)<|Y (by exact bW (ps:=[[.str s]]) Z aZ sZ Z Z Z Z Z (cY _) Z F_ (m:=1) Z X Z (gB B s))<|V aJ<|Rd kp<|V aA ?_;refine⟨q,B++[s],⟨X,X,F_⟩,X,?_⟩;dsimp only;rw[u];exact(cH.wk (Ea<|Ea<|Ea<|Eb<|Eb<|T_) (Hc (aQ _ _)<|Hb<|T_) ⟨Z,T_⟩)
 have r:n.toNat=C B:=J_ o
 have v:HM pJ n.toNat j=A (B,d):=by rw[y,r,Nat.sub_self,HM];simp
 rw[v];refine aP<|O aA<|V aJ<|aC ?_;refine OE ?_;refine cN (H':=(nT d)) (.inr Z) Z (aI Z) (Fin.fz (id:=905) (ob:=⟨C B,1,9,bQ B⟩) (r':=.pv (aL B)) (B.map S_) Z (dS _) (.osl (gY S_ _)) Z ⟨⟨_,Z,Z⟩,l5,T_⟩ ⟨Z,T_⟩) ?_
 simp_all
theorem bc{α:Type}(f)(P:α->Prop)(b)(c:∀l x q,C l<=b->f l=A (x,q)->C q<C l/\P x):∀(n) (l) (xs) (q),C l<=b->HM f n l=A (xs,q)->C q+C xs<=C l/\∀x∈xs,P x
 |0,l,xs,q,_,h=>by rw[HM]at h;simp_all
 | n+1,l,xs,q,d,h=>by
  rw[HM]at h;cases a:f l with
  |none=>simp_all
  | some p =>
   obtain ⟨x,r⟩:=p;have ⟨B,D⟩:=c l x r d a;rw[a]at h;cases e:HM f n r with
   |none=>simp_all
   |some p2 =>
    have ⟨E,k2⟩:=bc f P b c n r _ _ X e
    grind
theorem AI{l q}{xs}(h:DO pJ l=A (xs,q)):C q+C xs<C l/\∀x∈xs,T x<=C l:=by
 rw[DO]at h;cases b:yA l with
 |none=>simp_all
 |some p =>
  have ⟨n,r⟩:=p;rw[b]at h;have B:=(kS b).1;have ⟨E,c⟩:=bc _ (λx=>T x<=C r) _ (λl x q D a=>by have:=lT a;exact⟨X,X⟩) _ r _ q (h_ _) h;exact⟨X,λx a=>Nat.le_trans (c x a) X⟩
theorem wj{l q}{p}(h:SS l=A (p,q)):C q<C l/\(qS p.1/\qS p.2):=by
 rw[SS]at h;cases b:yA l with
 |none=>simp_all
 | some z =>
  have ⟨x,r⟩:=z;rw[b]at h;simp at h;cases a:yA r with
  |none=>simp_all
  |some B =>
   rw[a]at h;cases h;have d:=kS b;have c:=kS a;exact⟨X,d.2,c.2⟩
theorem xa{l q}{xs}(h:DO SS l=A (xs,q)):C q+C xs<C l/\∀x∈xs,qS x.1/\qS x.2:=by
 rw[DO]at h;cases a:yA l with
 |none=>simp_all
 |some p =>
  have ⟨n,r⟩:=p;rw[a]at h;have B:=(kS a).1;have ⟨E,c⟩:=bc _ _ _ (λl x q D b=>wj b) _ r _ q (h_ _) h;exact⟨X,c⟩
def Sy(l:List UInt8):Option (AV×List UInt8):=(Al l).map λp=>(av (lV p.1),p.2)
theorem vn(l:List UInt8)(B:C l<1000000000):EV 102 [SI] [] l (Sy l):=by
 refine EV.of (C9 l) Z m3 ?_;have g:=oU l B;have u:=λq (E:C q<1000000000)=>bh q E;have z:Sy l=(match yA l with
  |none=>ζ
  | some (i,r)=>match DO pJ r with
   |none=>ζ
   |some (a,q)=>match DO pJ q with
    |none=>ζ
    |some (b,p)=>A (.agg [iv i,.pv (aL a),.pv (aL b)],p)):=by
  rw[Sy,Al];cases yA l with
  |none=>rfl
  | some p =>
   have ⟨i,r⟩:=p;simp only;cases DO pJ r with
   |none=>rfl
   |some p =>
    have ⟨a,q⟩:=p;simp only;cases DO pJ q with
    |none=>rfl
    |some p=>rfl
 rw[z];rw[FI]at g;have j:=λn q=>kS (l:=l) (x:=n) (q:=q);generalize yA l=D at g j |-;clear z;refine gA.body func102 Z ntmps102 (r_ Z)<|Sz (kl 2 du)<|S ?_;rcases D with _|⟨i,s⟩
 .have t:EV 99 [SI] [] l ζ:=g;refine iA<|jC Z Z Z (iD Z Z) ?_;exact rB Z Z (eV Z Z jS Z (t.no Z (gM _))) (λw x h=>by obtain ⟨rfl,q,rfl⟩:=h;exact GA (H':=nT q) P_ ⟨Z,Z,q,Z⟩)
 have t:EV 99 [SI] [] l (A (iv i,s)):=g;have F:=(j i s Z).1;have d:=u s X;rw[Ch]at d;have f:=λv q=>AI (l:=s) (xs:=v) (q:=q);simp only;generalize DO pJ s=D at d f |-;rcases D with _|⟨a,m⟩
 .have d:EV 100 [SI,nxB] [] s ζ:=d;refine iA<|jC Z Z Z (iD Z Z)<|jC Z Z Z (kc jS (t.yes Z (gM _)))<|jC Z Z Z (iD Z Z)<|jC Z Z Z (iD Z Z)<|jC Z Z Z (pU Z Z) ?_;exact rB Z Z (eV Z Z call100 Z (d.no Z (gM _))) (λw x h=>by obtain ⟨rfl,q,rfl⟩:=h;exact GA (H':=nT q) P_ ⟨Z,Z,q,Z⟩)
 have d:EV 100 [SI,nxB] [] s (A (.pv (aL a),m)):=d;have G:=(f a m Z).1;have e:=u m X;rw[Ch]at e;have o:=λv q=>AI (l:=m) (xs:=v) (q:=q);simp only;generalize DO pJ m=D at e o |-;rcases D with _|⟨b,y⟩
 .have e:EV 100 [SI,nxB] [] m ζ:=e;refine iA<|jC Z Z Z (iD Z Z)<|jC Z Z Z (kc jS (t.yes Z (gM _)))<|jC Z Z Z (iD Z Z)<|jC Z Z Z (iD Z Z)<|jC Z Z Z (pU Z Z)<|jC Z Z Z (kc call100 (d.yes Z (gM _)))<|jC Z Z Z (iD Z Z)<|jC Z Z Z (iD Z Z)<|jC Z Z Z (pU Z Z) ?_;exact rB Z Z (eV Z Z call100 Z (e.no Z (gM _))) (λw x h=>by obtain ⟨rfl,q,rfl⟩:=h;exact GA (H':=nT q) P_ ⟨Z,Z,q,Z⟩)
 have e:EV 100 [SI,nxB] [] m (some (.pv (aL b),y)):=e;refine Rd aA<|Y (kc jS (t.yes Z (gM _)))<|Y aA<|Y aA<|Y (by exact pU Z Z)<|Y (kc call100 (d.yes Z (gM _)))<|Y aA<|Y aA<|Y (by exact pU Z Z)<|Y (kc call100 (e.yes Z (gM _)))<|Y (pB Xs)<|Uu (jH sizeOf48)<|Zz<|aC ?_;refine OE ?_;refine cN (H':=(nT y)) (.inr Z) Z (fG Z iC sizeOf48 Z Z Z u0 Z) (Fin.wk (by simp[U0]) (Hb<|T_) ⟨Z,T_⟩) ?_;exact⟨_,Z,Z,Z⟩
abbrev inO:Ob:=bx 1 125 [SI]
abbrev Mr:aF:=[(4,inO)]
theorem xq{H}(h:(H.get 980).isSome=N):∀r∈inO.rows,∀a∈r,Clo H a:=F_
theorem TV(l):dI (nT l++Mr):=dI.ofL ⟨ZZ l _,xq Z,T_⟩
def Uh(l:List UInt8):Option (AV×List UInt8):=(SS l).map λp=>(av (kP p.1),p.2)
theorem Km(l:List UInt8)(m4:C l<1000000000):EV 104 [.ref 4 0 0 0] Mr l (Uh l):=by
 refine EV.of (TV l) Z m3 ?_;have D:=oU l m4;have u:=λq (R:C q<1000000000)=>oU q R;have P:=λn q=>kS (l:=l) (x:=n) (q:=q);have K:Uh l=(match yA l with
  |none=>ζ
  |some (x,r)=>match yA r with
   |none=>ζ
   |some (y,q)=>A (.agg [iv x,iv y],q)):=by
  rw[Uh,SS];cases yA l with
  |none=>rfl
  |some p =>
   have ⟨i,r⟩:=p;simp only;cases yA r with
   |none=>rfl
   |some p=>rfl
 have ⟨x,c,H⟩:∃x c,(yA l).getD (0,l)=(x,c):=⟨_,_,Z⟩;have ⟨y,m,I⟩:∃y m,(yA c).getD (0,c)=(y,m):=⟨_,_,Z⟩;have W:C c<=C l:=by
  grind
 have a:(FI l).getD (iv 0,l)=(iv x,c):=by
  rw[FI]
  grind
 have w:(FI c).getD (iv 0,c)=(iv y,m):=by
  rw[FI]
  grind
 have s:FI l=ζ->Uh l=ζ:=λe=>by
  grind
 have o:(FI l).isSome=N->FI c=ζ->Uh l=ζ:=λe g=>by
  rw[FI,Option.map_eq_none_iff]at g
  grind
 have z:(FI l).isSome=N->(FI c).isSome=N->Uh l=A (.agg [iv x,iv y],m):=λe g=>by
  cases k:yA l with
  |none=>rw[FI,k]at e;cases e
  |some p =>
   rw[k]at H;cases H;rw[K,k];simp only;cases F:yA c with
   |none=>rw[FI,F]at g;cases g
   |some p=>rw[F]at I;cases I;rfl
 have Q:FI c=ζ->Uh l=ζ:=λe=>by
  cases h:FI l with
  |none=>exact s h
  |some p=>exact o (by rw[h];rfl) e
 clear K o;refine gA.body func104 Z ntmps104 (r_ Z)<|Sz (kl 1 Gb)<|S<|zK (λv j G=>Uh l=none/\v=JA/\∃q,G=nT q++j) [] [] [4] Z a7 (λv E1 j G hts hsh B ⟨e,g,q,k⟩=>by subst k;have J:aF.get (nT q++j) 4=some inO:=(B 4 (q_.2 Z)).trans Z;exact GA (H':=nT q++Mr) (Fin.wk H_ ⟨⟨_,Z,Z⟩,ZZ _ _,⟨_,J,Z⟩,xq Z,T_⟩ ⟨Z,J.symm,T_⟩) ⟨e,g,q,Z⟩) ?_;refine Pr [4] (λ_ h=>lh eF h)<|wH (r:=⟨_,some [980],nT c⟩) (.pan Z (λj f=>by exact eV Z Z jS Z ((D.tot a ((f 980 Z).trans Z) (gM _)).mono (λ_ _ h=>h) (λv L ⟨e,g,k⟩=>⟨s e,g,k⟩)))) Z ?_;refine Pr [4] (λ_ h=>lh eF h)<|wH (r:=⟨_,some [980],nT m⟩) (.pan Z (λj f=>by exact eV Z Z jS Z (((u c X).tot w ((f 980 Z).trans Z) (gM _)).mono (λ_ _ h=>h) (λv L ⟨e,g,k⟩=>⟨Q e,g,k⟩)))) Z ?_;refine Pr [] (λj f=>by exact PT Z MC Z Z)<|Pw [1] (λ_ h=>sa sizeOf104 h) ?_;refine LY ⟨⟨by kernel_rfl,by kernel_rfl,by kernel_rfl⟩,λE=>?_⟩;simp only[dc,true_and,and_true]at E;refine aC ?_;refine OE ?_;refine cN (H':=(nT m++Mr)) (.inr Z) Z (fG Z eN sizeOf104 Z Z Z u0 Z) (Fin.wk (by simp[U0]) (Hb<|Ha<|T_) ⟨Z,Z,T_⟩) ?_;exact⟨_,z E.1 E.2,Z,Z⟩
abbrev ptB:AV:=.clo 104 [.ref 4 0 0 0]
def wP(B:List (Int×Int)):List (List AV):=(B.map kP).map (·.map AV.pv)
theorem SQ(B):C (wP B)=C B:=by simp[wP]
theorem SR(B)(p):wP B++[(kP p).map AV.pv]=wP (B++[p]):=by rw[wP,wP,map_append,map_append];rfl
theorem DD(B)(H):∀r∈wP B,∀a∈r,Clo H a:=cg _ _ _
instance(B)(H):W_ (H) (wP B):=⟨DD B H⟩
def ja(l:List UInt8):Option (AV×List UInt8):=(DO SS l).map λp=>(.pv (yG p.1),p.2)
theorem Cg{l}(h:yA l=ζ):ja l=ζ:=by rw[ja,DO,h];rfl
theorem Cf{l q}{n}(h:yA l=A (n,q)):ja l=(HM SS n.toNat q).map λp=>(.pv (yG p.1),p.2):=by rw[ja,DO,h]
theorem Vz(l:List UInt8)(F:C l<1000000000):EV 103 [SI,ptB] Mr l (ja l):=by
 refine EV.of (TV l) Z (by simp;exact⟨Z,Z⟩) ?_;have g:=oU l F;have e:=Cg (l:=l);have f:=λn q=>Cf (l:=l) (n:=n) (q:=q);have i:=λn q=>kS (l:=l) (x:=n) (q:=q);rw[FI]at g;generalize yA l=J at g e f i;refine gA.body func103 Z ntmps103 (r_ Z)<|Sz aJ<|S ?_;rcases J with _|⟨n,j⟩
 .rw[e rfl];have y:EV 99 [SI] [] l ζ:=g;refine iA<|jC Z Z Z (iD Z Z) ?_;exact rB Z Z (eV Z Z jS Z (y.no Z (gM _))) (λE G h=>by obtain ⟨rfl,q,rfl⟩:=h;exact GA (H':=nT q++Mr) P_ ⟨Z,Z,q,Z⟩)
 have y:EV 99 [SI] [] l (A (iv n,j)):=g;have ⟨I,E,H⟩:=i n j Z;rw[f n j rfl];refine Rd aA<|Y (kc jS (y.yes Z (gM _)))<|V aJ<|Sz (cZ (id:=905) (sz:=2) (ty:=104) Z Z Z)<|S<|O aA<|V aA<|aD<|dU (λ(d:List UInt8) (B:List (Int×Int))=>([(0,SI),(1,ptB),(6,.osl 905 (C B) 0 (C B)),(9,iv n),(10,iv (C B:Int))],(905,⟨C B,2,104,wP B⟩)::(nT d++Mr))) (λd B=>C d+C B<C l/\C B<=n.toNat/\HM SS n.toNat j=(HM SS (n.toNat - C B) d).map λp=>(B++p.1,p.2)) (λd B=>C d) j [] ⟨X,k_ _,H_⟩ ?_ ?_
 .exact L_
 rintro d B ⟨hl',hA,D⟩;have b:=Km d X;have k:=λs q=>wj (l:=d) (p:=s) (q:=q);have c:=λh=>ix SS (k:=C B) Z h D;rw[Uh]at b;generalize SS d=A_ at b k c;refine Sz cF<|S<|Cn ?_ ?_<;>intro m
 .have x:C B<n.toNat:=I_ m
  have o:=c x;clear c;refine aB<|S<|aD ?_;rcases A_ with _|⟨s,q⟩
  .have o:HM SS n.toNat j=ζ:=o;rw[o];have b:EV 104 [.ref 4 0 0 0] Mr d ζ:=b;refine iA<|jC Z Z Z (iD Z Z)<|jC Z Z Z (iD Z Z) ?_;exact rB Z Z (HU Z Z call104 Z (b.no Z (HI.sub ⟨Z,T_⟩))) (λE G h=>by obtain ⟨rfl,q,rfl⟩:=h;exact GA (H':=nT q++Mr) P_ ⟨Z,Z,q,Z⟩)
  have o:HM SS n.toNat j=(HM SS (n.toNat - (C B+1)) q).map λp=>((B++[s])++p.1,p.2):=o;have b:EV 104 [.ref 4 0 0 0] Mr d (A (av (kP s),q)):=b;have k:=k s q Z;have z:C (B++[s])=C B+1:=F_
  refine Rd aA<|Y aA<|Y (by exact ET.opr (HU Z Z call104 Z (gA.of (b.yes Z (HI.sub ⟨Z,T_⟩)))))<|Y (by exact aM [kP s] Z VH Z Z Z Z Z R_)<|Y (by exact bW (ps:=[kP s]) Z VH Ze Z Z Z Z Z (SQ _) Z R_ (m:=1) Z X Z (SR B s))<|V aJ<|Rd kp<|V aA ?_;refine⟨q,B++[s],⟨X,X,F_⟩,X,?_⟩;dsimp only;rw[z];exact(cH.wk (Ea<|Ea<|Ea<|Eb<|Eb<|T_) (Hc (DD _ _)<|Hb<|Ha<|T_) ⟨Z,Z,T_⟩)
 have w:n.toNat=C B:=J_ m
 have u:HM SS n.toNat j=A (B,d):=by rw[D,w,Nat.sub_self,HM];simp
 rw[u];refine aP<|O aA<|V aJ<|aC ?_;refine OE ?_;refine cN (H':=(nT d++Mr)) (.inr Z) Z (aI Z) (Fin.fz (id:=905) (ob:=⟨C B,2,104,wP B⟩) (r':=.pv (yG B)) (B.map kP) Z Z (.osl (gY kP _)) Z ⟨⟨_,Z,Z⟩,l5,⟨_,Z,Z⟩,w8,T_⟩ ⟨Z,Z,T_⟩) ?_
 simp_all
def KF(h i:Int):Bool:=((θ (h<0)||θ (8<h))||θ (i<0))||θ (((2 ^ h.toNat:Nat):Int)<=i)
def zS:q7:=⟨0,[],[]⟩
def P4(s:B_)(h i:Int)(m:B_):q7×Int:=if KF h i=N then(zS,1)else(⟨i,oi s i.toNat m,yJ h.toNat (yR s h.toNat) i.toNat⟩,0)
theorem An(s m:B_)(h i:Int)(H:aF)(j:KF h i=N):RC 119 [sv s,iv h,iv i,sv m] (.tup [av (lV zS),iv 1]) H:=by
 refine Pu ?_;have e:θ (h<0)=η->θ (8<h)=η->ξ.wrap (1*2 ^ h.toNat)=((2 ^ h.toNat:Nat):Int):=λg f=>by
  have g:=b_ g;have f:=b_ f;obtain ⟨n,rfl⟩:∃n:Nat,h=(n:Int):=⟨h.toNat,X⟩;rw[l_];have:=aAV (h:=n) X
  rwa [l_]at this
 have B:KF h i=(((θ (h<0)||θ (8<h))||θ (i<0))||θ (((2 ^ h.toNat:Nat):Int)<=i)):=rfl;refine Bd func119 Z ntmps119<|O (kb 4)<|Y (kb 6)<|Y (kl 8 du)<|V aJ<|S<|S<|lL (t:=30) (n:=16) (A_:=KF h i) ?_ ?_
 .cases b:(θ (h<0):Bool)
  .cases c:(θ (8<h):Bool)
   .cases hg25:(θ (i<0):Bool)
    .refine aN a7<|Cq aA<|Cq cF<|Cq aA<|Nf aA<|Nf iZ<|Cq rD<|Cq aA<|Nf (bU M_)<|Nf cF<|Cq rD<|Cq aA<|Nf (bU M_)<|Nf aA<|Nf (by exact QG Z Z Z (J_ b) (by have:=b_ c;simp[IntKind.bits];omega) (e b c))<|Nf AN<|Cq rD<|bG<|Kr ?_;exact⟨Z,⟨_,Z,F_⟩,Z,Z,Z⟩
    refine aN a7<|Cq aA<|Cq cF<|Cq aA<|Nf aA<|Nf iZ<|Cq rD<|Cq aA<|Nf (bU M_)<|Nf cF<|Cq rD<|Cq aA<|Of<|Of<|Of<|Of<|Cq BO<|bG<|Kr ?_;exact⟨Z,⟨_,Z,F_⟩,Z,Z,Z⟩
   refine aN a7<|Cq aA<|Cq cF<|Cq aA<|Nf aA<|Nf iZ<|Cq rD<|Cq aA<|Of<|Of<|Cq BO<|Cq aA<|Of<|Of<|Of<|Of<|Cq cE<|bG<|Kr ?_;exact⟨Z,⟨_,Z,F_⟩,Z,Z,Z⟩
  refine aN a7<|Cq aA<|Cq cF<|Cq aA<|Of<|Of<|Cq BO<|Cq aA<|Of<|Of<|Cq cE<|Cq aA<|Of<|Of<|Of<|Of<|Cq cE<|bG<|Kr ?_;exact⟨Z,⟨_,Z,F_⟩,Z,Z,Z⟩
 refine Cn ?_ ?_<;>intro d
 .refine O (pB Xs)<|Uu (jH sizeOf48)<|V aJ<|aC<|fO (H':=[]) (.inr Z) Z (fG Z iC sizeOf48 Z Z Z u0 Z) (aI Z) P_ ?_;exact Qq
 rw[j]at d;cases d
theorem WZ(s m)(h i)(H)(c:T s<2^40)(b:T m<2^40):RC 119 [sv s,iv h,iv i,sv m] (.tup [av (lV (P4 s h i m).1),iv (P4 s h i m).2]) H:=by
 rw[P4];by_cases a:KF h i=N
 .rw[b6 a];exact An s m h i H a
 rw[a8 a];have a:KF h i=η:=F_
 simp only[KF,r6,n_]at a;have ⟨⟨⟨B,D⟩,E⟩,d⟩:=a;obtain ⟨n,rfl⟩:∃n:Nat,h=n:=⟨h.toNat,X⟩;obtain ⟨k,rfl⟩:∃k:Nat,i=k:=⟨i.toNat,X⟩;rw[l_]at d |-;exact Ta s m n k H c b X X
theorem oj{s m}{h i}(a:(P4 s h i m).2=0):FSeal (P4 s h i m).1/\(P4 s h i m).1=⟨i,oi s i.toNat m,yJ h.toNat (yR s h.toNat) i.toNat⟩/\(0<=h/\h<=8)/\0<=i/\i<2 ^ h.toNat:=by
 rw[P4]at a |-
 split at a
 .cases a
 next c =>
 rw[a8 c];have c:KF h i=η:=F_
 simp only[KF,r6,n_]at c;have d:i<2 ^ h.toNat:=by
  simp_all
 have b:i.toNat<2 ^ h.toNat:=X
 have B:2 ^ h.toNat<=256:=GS X;exact⟨⟨F_,G_,by rw[Ig];omega,by rw[XG];omega,Ih _ _ _,XH _ _ _ (X2 _ _) b (X3 _ _)⟩,Z,⟨X,X⟩,X,d⟩
def zR:j_:=⟨0,0,0,0,a6,[],[],a6,η,0,a6,zS,⟨a6,a6,[],[],zS⟩⟩
def OS(r:j_):j_:={r with sl:=zS,priv:={r.priv with sl:=zS}}
def H7(r:j_):j_×Int:=if(mW r).2≠0 then(zR,(mW r).2)else(r,0)
def mk1(r:j_)(a:q7):j_:={r with sl:=a,priv:={r.priv with sl:=zS}}
def Lr(r:j_)(a b:q7):j_:={r with sl:=a,priv:={r.priv with sl:=b}}
def OT(r:j_)(s:B_)(h:Int):j_×Int :=if iI (OS r)=η then(zR,1)
 else if(P4 s h (2*r.number - 2) (H9 (OS r))).2≠0 then(zR,(P4 s h (2*r.number - 2) (H9 (OS r))).2)
 else if uZ r.priv=N then H7 (mk1 r (P4 s h (2*r.number - 2) (H9 (OS r))).1)
 else if(P4 s h (2*r.number - 1) (ba (OS r))).2≠0 then(zR,(P4 s h (2*r.number - 1) (ba (OS r))).2)
 else H7 (Lr r (P4 s h (2*r.number - 2) (H9 (OS r))).1 (P4 s h (2*r.number - 1) (ba (OS r))).1)
theorem al{s}(h:FSeal s):yO s:=by have B:=h.i0;have D:=h.i1;have l1:=h.sl;have l2:=h.pl;exact⟨⟨X,X⟩,⟨X,λt a=>by have:=DQ (h.sa t a);omega⟩,⟨X,λt a=>by have:=DQ (h.pa t a);omega⟩⟩
theorem okZ:yO zS:=al (lJ E_)
theorem Lf{r}{a b}(h:mX r)(g:yO a)(l:yO b):mX (Lr r a b):=by have ⟨k,j,d,i,_,m,f,e,c,_⟩:=h;exact⟨k,j,d,i,g,m,f,e,c,l⟩
theorem aBL(r:j_)(s:B_)(h:Int)(l:mX r)(F:C r.parents<549755813888)(x:T s<2^40)(H:aF):RC 71 [av (eD r),sv s,iv h] (.tup [av (eD (OT r s h).1),iv (OT r s h).2]) H:=by
 refine aW.pure ?_ F_ H;have g:mX (OS r):=Lf l okZ okZ;have hv:=λH=>ZA (OS r) g F H;have K:=λH=>xv (OS r) g F H;have j:=λH=>Xa (mk1 r zS).priv g.2.2.2.2.2 H;rw[OT];refine Bd func71 Z ntmps71<|O (kb 3)<|Y (kl 6 dt)<|V aJ<|O (pB Xs)<|Y (pB Xs)<|Y (bD AO)<|Uu (by exact rC Z sizeOf48 Z Z Z Z Z Z Z (r_ Z) Z Z)<|Y (bD iO)<|Y (bD F1)<|Uu (by exact rC Z sizeOf48 Z Z Z Z Z Z Z (r_ Z) Z Z)<|Zz<|S<|O (xD cQ bL)<|Y (kc call105 (hv _))<|V iE<|Cn ?_ ?_<;>intro q
 .have I:=not_not q;rw[b6 I];refine O (pB UP)<|Uu (jH bL)<|V aJ<|aC<|fO (H':=[]) (.inr Z) Z (fG Z cQ bL Z Z Z u0 Z) (aI Z) P_ ?_;exact Qq
 have I:=pE q;rw[a8 F_];have hf:=tB I;have L:=hf.nu;have e_:(OS r).number=r.number:=rfl;rw[e_]at L;have n:=λH=>Cd (OS r) g F I H;have R:(ba (OS r)).size=16:=sC _;have m4:=xu (OS r);generalize H9 (OS r)=a at K m4 |-;generalize ba (OS r)=t at n R |-;have z:=λH=>WZ s a h (2*r.number - 2) H x X;have D:=λH=>WZ s t h (2*r.number - 1) H x X;have f:=oj (s:=s) (m:=a) (h:=h) (i:=2*r.number - 2);have w:=oj (s:=s) (m:=t) (h:=h) (i:=2*r.number - 1);generalize P4 s h (2*r.number - 2) a=J at z f |-;generalize P4 s h (2*r.number - 1) t=B at D w |-;refine aB<|S<|aN a7<|Cq (xD cQ bL)<|Cq (kc call55 (K _))<|Cq (xD cQ bL)<|Cq (kc call118 (n _))<|Cq aJ<|Cq aJ<|bG<|Kr<|Sz aJ<|S<|O aA<|Y aA<|Y (bD A9)<|Y (bU M_)<|Y (by exact pC Z Z Z (lZ X X))<|Y (by exact dV Z Z Z (lZ X X))<|Y aA<|Y (kc call119 (z _))<|Y aA<|Y dL<|Y dL<|Y (bD AO)<|Uu (by exact rC Z sizeOf48 Z Z Z Z Z Z Z (r_ Z) Z Z)<|V aJ<|O aA<|V yQ<|Cn ?_ ?_<;>intro y
 .have d:J.2≠0:=by have:=y;intro e;simp_all
  rw[b6 d];refine O (pB UP)<|Y aA<|Uu (jH bL)<|V aJ<|aC<|fO (H':=[]) (.inr Z) Z (fG Z cQ bL Z Z Z u0 Z) (aI Z) P_ ?_;exact Qq
 have c:J.2=0:=by have:=y;by_cases e:J.2=0;exact e;rw[decide_eq_false e]at this;cases this
 rw[a8 X];have f:=(f c).1;have ⟨A_,Q⟩:∃A_,A_=(if uZ r.priv=N then H7 (mk1 r J.1)else if B.2≠0 then(zR,B.2)else H7 (Lr r J.1 B.1)):=X_;rw[<-Q];have v:uZ r.priv=N->A_=H7 (Lr r J.1 zS):=λe=>by rw[Q,b6 e];rfl
 have i:uZ r.priv=η->B.2≠0->A_=(zR,B.2):=λe e2=>by simp_all
 have u:uZ r.priv=η->B.2=0->A_=H7 (Lr r J.1 B.1):=λe e2=>by simp_all
 have P:uZ (mk1 r zS).priv=uZ r.priv:=rfl;rw[P]at j;clear Q;generalize uZ r.priv=W at j v i u;refine aB<|eU (λ(b:q7)=>([(3,.ref 3 0 0 0),(6,.ref 6 0 0 0)],[(6,bx 21 53 ((eD zR).map .pv)),(3,bx 21 53 ((eD (Lr r J.1 b)).map .pv))])) (λb=>yO b/\A_=H7 (Lr r J.1 b)) ?_ ?_
 .refine O (bD iO)<|Y (xD isAgg51 sizeOf51)<|Y (kc call120 (j _))<|V iE<|Cn ?_ ?_<;>intro p
  ·have G:=not_not p;refine O aA<|Y aA<|Y (bD A9)<|Y (bU M_)<|Y (by exact pC Z Z Z (lZ X X))<|Y (by exact dV Z Z Z (lZ X X))<|Y aA<|Y (kc call119 (D _))<|Y aA<|Y dL<|Y dL<|Y (bD iO)<|Y (bD F1)<|Uu (by exact rC Z sizeOf48 Z Z Z Z Z Z Z (r_ Z) Z Z)<|V aJ<|O aA<|V yQ<|Cn ?_ ?_<;>intro E
   .have d:B.2≠0:=by have:=E;intro e;rw[e]at this;exact absurd this (by decide)
    rw[i G d];refine O (pB UP)<|Y aA<|Uu (jH bL)<|V aJ<|aC<|fO (H':=[]) (.inr Z) Z (fG Z cQ bL Z Z Z u0 Z) (aI Z) P_ ?_;exact Qq
   have c:B.2=0:=by have:=E;by_cases e:B.2=0;exact e;rw[decide_eq_false e]at this;cases this
   refine aB ?_;exact⟨B.1,⟨al (w c).1,u G c⟩,Wk⟩
  have G:=pE p;refine aB ?_;exact⟨zS,⟨okZ,v G⟩,Wk⟩
 rintro b ⟨o_,i⟩;rw[i,H7];have k:=λH=>ZE (Lr r J.1 b) (Lf l (al f) o_) F H;generalize mW (Lr r J.1 b)=J0 at k |-;refine S<|O (xD cQ bL)<|Y (kc call72 (k _))<|Y aA<|Y dL<|Y dL<|Y aJ<|V aJ<|O aA<|V yQ<|Cn ?_ ?_<;>intro o
 .have d:J0.2≠0:=by have:=o;intro e;rw[e]at this;exact absurd this (by decide)
  rw[b6 d];refine O (pB UP)<|Y aA<|Uu (jH bL)<|V aJ<|aC<|fO (H':=[]) (.inr Z) Z (fG Z cQ bL Z Z Z u0 Z) (aI Z) P_ ?_;exact Qq
 have c:J0.2=0:=by have:=o;by_cases e:J0.2=0;exact e;rw[decide_eq_false e]at this;cases this
 rw[a8 (by rw[c];decide)];refine aB<|O (xD cQ bL)<|Uu (jH bL)<|V aJ<|aC<|fO (H':=[]) (.inr Z) Z (fG Z cQ bL Z Z Z u0 Z) (aI Z) (Fin.wk (by simp[eD]) T_ T_) ?_;exact Qq
abbrev Fm(e:Int):Ob:=bx 1 25 [iv e]
abbrev Fk(x:j_):Ob:=bx 21 53 ((eD x).map .pv)
abbrev pq(x:j_)(e:Int):aF:=[(3,Fm e),(2,Fk x)]
abbrev eAJ:Ob:=bx 1 25 [.any]
abbrev rAJ:Ob:=bx 21 53 [.any,.any,.any,.any,.any,.any,.any,.any,.any,.any,.any,.any,.any,.any,.any,.any,.any,.any,.any,.any,.any]
abbrev pAJ:aF:=[(3,eAJ),(2,rAJ)]
abbrev dcJ:List AV:=[.ref 2 0 0 0,.ref 3 0 0 0]
theorem aAd(x)(e):df φ 97 dcJ (pq x e) .returning (λH2=>H2=pq x e):=by
 refine MI (x:=NK) func97 Z ntmps97 (r_ Z) Z Z Z Z Z Z (λw I=>.sat Z Z) (.inl ⟨Z,Z⟩)<|UT<|MD<|sT<|O6 Z Z Z (qc Z underlying20 Z)<|HE<|OC Z (λb=>?_) (λb=>?_)
 .refine sT<|O6 Z Z Z (yN Z Z)<|HE ?_;exact⟨.inl Z,pq x e,Fin.wk H_ (Hb<|Hb<|T_) ⟨Z,Z,T_⟩,Z⟩
 cases b
theorem aAe:df φ 97 dcJ pAJ (.panicking JA) (λH2=>H2=pq zR 5):=by
 refine MI (x:=.ifa 124 []) func97 Z ntmps97 (r_ Z) Z Z Z Z Z Z (λw I=>.ifa _ _ _ Z H_) (.inr ⟨_,Z,Z⟩)<|UT<|MD<|sT<|O6 Z Z Z (qd Z underlying20 Z)<|HE<|OC Z (λc=>?_) (λc=>?_)
 .cases c
 refine MD<|sT<|O6 Z Z Z (S3 Z (eC zO Z) Z)<|O6 Z Z Z (wA Z Z Z)<|O6 Z Z Z (wA Z Z Z)<|HE<|OC Z (λb=>?_) (λb=>?_)
 .refine MD<|sT<|O6 Z Z Z (qf Z zeroValue124)<|Pt Z Z (pz Z Z Z sizeOf124)<|HE<|sT<|O6 Z Z Z (PT Z UP Z Z)<|Pt Z Z (mH Z bL Z Z Z Z Z Z Z Z)<|Pt Z Z (mH Z sizeOf25 Z Z Z Z Z Z Z Z)<|HE ?_;exact⟨.inl Z,pq zR 5,Fin.wk H_ (Hb<|Hb<|T_) ⟨Z,Z,T_⟩,Z⟩
 cases b
theorem aBS(s:B_)(A_:T s<2^40)(g:(fR s).2.1=0):aW φ 203 [sv s] [] (λr H'=>r=.tup [.osl 905 (C (fR s).1) 0 (C (fR s).1),iv 0,iv (fR s).2.2]/\H'=[(905,⟨C (fR s).1,3,189,mA (fR s).1⟩)]):=by
 refine Bd func203 Z ntmps203<|O (kl 2 Yg)<|Y (kl 3 Zu)<|V (kl 4 Zt)<|S<|O aA<|Y (gG U_)<|V iZ<|Cn ?_ ?_<;>intro v
 .have e:fR s=([],2,-1):=by rw[fR,b6 (I_ v)]
  rw[e]at g;exact absurd g (by decide)
 have P:¬ 20000<T s:=by have:=b_ v;omega
 have ⟨b,i⟩:∃b,b=kO s (T s+1) 0:=X_;have J:fR s=kT [] b:=by rw[fR,a8 P,i]
 refine aB<|Sz (kl 5 Fw)<|S<|O aA<|V (kc call254 (eu s _ Z Z Z (dI.ofL ⟨F_,F_,F_,F_,T_⟩)))<|aD ?_;refine gO.ent (E':=[(2,.ref 2 0 0 0),(3,.ref 3 0 0 0),(4,.ref 4 0 0 0),(5,.ref 5 0 0 0),(11,.clo 290 [.ref 921 0 0 0,.ref 924 0 0 0])]) (H':=[(905,⟨0,3,189,[]⟩),(5,bx 1 185 [.osl 905 0 0 0]),(924,tA),(923,tC),(921,tS s),(4,bx 1 3 [iv 0]),(3,bx 1 25 [iv 0]),(2,bx 1 185 [.pv (.sl [])])]) ?_ ?_
 .exact (Q_ 905 3 189)
 have z:C b<=T s+1:=by rw[i];exact BU s _ _
 have ⟨j,W⟩:∃j,j=zU (tQ b) (C b) 0:=X_;have G:j<=C b:=by have:=(GO (tQ b) (C b) 0).2;omega
 have u:∀k,k<j->tQ b k=N:=λk K=>KG (tQ b) (C b) 0 k (k_ _) (by rw[<-W];exact K);have L:j<C b->tQ b j=η:=λh=>by have:=xY (tQ b) (C b) 0 X;rwa [<-W]at this
 have m:=NO G u;refine CN (id:=904) (p:=12) wD Z call290 Z Z j5 ?_;intro x E H u_ l J0 R;have o:∀(k:Nat) (d:b7),b[k]?=A d->k<=j ->
   dO φ (.yld 904 0) [.agg ((LX d).map .pv)] ((904,LR x wD)::(926,tF d)::kL s (b.take k) (.pv (.sl [])) 0 0) (λr H'=>r=bv (tQ b k)/\H'=(if tQ b k then(904,LR x wD)::(926,tF d)::kL s (b.take (k+1)) (.pv (.sl [])) 0 0 else(904,LR (left x .ret) wD)::(926,tF d)::kL s (b.take k) (.pv (.sl [])) (if d.err≠0 then d.err else 2) d.pos)):=by
  intro k d y τ;have g:=K8 y;have σ:k<C b:=(m_.1 y).1;have ρ:C (b.take k)=k:=by rw[q9];omega
  have I:b.take (k+1)=b.take k++[d]:=by rw[List.take_add_one,y];rfl
  refine .inl ⟨904,0,Z,?_⟩;refine MV [(2,.ref 2 0 0 0),(3,.ref 3 0 0 0),(4,.ref 4 0 0 0),(5,.ref 5 0 0 0),(6,.ref 907 0 0 0)] ((907,tF d)::(926,tF d)::kL s (b.take k) (.pv (.sl [])) 0 0) E H u_ l J0 R Z Z Z ?_ ?_
  .refine Rd (kl 907 Ga)<|Uu (jH sizeOf266)<|Zz ?_;exact(cH.wk (Ea<|Ea<|Ea<|Ea<|Ea<|T_) (Hc (oM j5)<|Hc (AU _ _)<|Hc (AU _ _)<|Hc (cV _ _)<|Ha<|Hc (tG Z Z)<|Hc (kQ _)<|Hc (tE _ _)<|Hb<|Hb<|Hb<|T_) ⟨Z,Z,Z,Z,Z,Z,Z,Z,Z,Z,T_⟩)
  refine aD<|S<|aD<|O (bD tY)<|Y (bU nP)<|Y yQ<|Da<|Cn ?_ ?_<;>intro F
  .have q:d.err≠0:=by have h:=F;rw[r9,n_]at h;exact h
   have w:tQ b k=η:=by rw[g,decide_eq_false q];rfl
   rw[w,a8 E_,b6 q];refine S<|aN a7<|Cr [907] (λ_ h=>fh tY h)<|Cr [907] (λ_ h=>lh nP h)<|Cr [907] (λ_ h=>fh pF h)<|Cr [907] (λ_ h=>fh QU h)<|Cr [907] (λ_ h=>lh M_ h)<|Cp [2] (λ_ h=>sa oL h)<|Cp [3] (λ_ h=>sa sizeOf25 h)<|Cp [4] (λ_ h=>sa sizeOf3 h)<|bG<|Kr<|aC ?_;exact⟨(926,tF d)::kL s (b.take k) (.pv (.sl [])) d.err d.pos,(cH.wk T_ (Hc (oM j5)<|Hc (AU _ _)<|Hc (cV _ _)<|Ha<|Hc (tG Z Z)<|Hc (kQ _)<|Hc (tE _ _)<|Hb<|Hb<|Hb<|T_) ⟨Z,Z,Z,Z,Z,Z,Z,Z,Z,Z,T_⟩),Z,Z⟩
  have q:d.err=0:=by have h:=F;rw[Bool.not_eq_false',j0]at h;exact h
  refine O (bU nV)<|Y (by exact dQ Z cS Z Z Z)<|Y cG<|Da<|Cn ?_ ?_<;>intro D
  .have t:k=5000:=I_ D
   have w:tQ b k=η:=by rw[g,decide_eq_true q,decide_eq_true t];rfl
   rw[w,a8 E_,a8 (λh=>h q)];refine S<|aN a7<|Cr [907] (λ_ h=>fh pF h)<|Cr [907] (λ_ h=>fh QU h)<|Cr [907] (λ_ h=>lh M_ h)<|Cp [2] (λ_ h=>sa oL h)<|Cp [3] (λ_ h=>sa sizeOf25 h)<|Cp [4] (λ_ h=>sa sizeOf3 h)<|bG<|Kr<|aC ?_;exact⟨(926,tF d)::kL s (b.take k) (.pv (.sl [])) 2 d.pos,(cH.wk T_ (Hc (oM j5)<|Hc (AU _ _)<|Hc (cV _ _)<|Ha<|Hc (tG Z Z)<|Hc (kQ _)<|Hc (tE _ _)<|Hb<|Hb<|Hb<|T_) ⟨Z,Z,Z,Z,Z,Z,Z,Z,Z,Z,T_⟩),Z,Z⟩
  have t:¬ k=5000:=by have:=b_ D;omega
  have w:tQ b k=N:=by rw[g,decide_eq_true q,decide_eq_false t];rfl
  rw[w,b6 Z,I,Mj];refine aB<|Rd (bU nV)<|Y (bD pF)<|Y (xD jD sizeOf189)<|Y (by exact aM [K_ d] Z iL Z Z Z Z Z R_)<|Y (by exact bW (ps:=[K_ d]) Z iL yh Z Z Z Z Z (yE _) Z R_ (m:=1) Z X Z (CZ (b.take k) d))<|Uu (jH oL)<|Zz ?_;exact⟨(926,tF d)::[(905,⟨(b.take k).length+1,3,189,mA (b.take k++[d])⟩),(5,bx 1 185 [.osl 905 ((b.take k).length+1) 0 ((b.take k).length+1)]),(924,tA),(923,tC),(921,tS s),(4,bx 1 3 [iv 0]),(3,bx 1 25 [iv 0]),(2,bx 1 185 [.pv (.sl [])])],(cH.wk T_ (Hc (oM j5)<|Hc (AU _ _)<|Hc (cV _ _)<|Ha<|Hc (tG Z Z)<|Hc (kQ _)<|Hc (tE _ _)<|Hb<|Hb<|Hb<|T_) ⟨Z,Z,Z,Z,Z,Z,Z,Z,Z,Z,T_⟩),Z,Z⟩
 rcases Nat.lt_or_ge j (C b) with n|o_
 .have ⟨f,Q⟩:=aR n;have B:=L n;have f_:b.drop j=f::b.drop (j+1):=by
   rw[drop_eq_getElem_cons n];rw[p_ n]at Q;cases Q;rfl
  have c:fR s=([],(if f.err≠0 then f.err else 2),(f.pos:Int)):=by
   rw[J,m,f_,kT]
   split
   .rfl
   rename_i q;have a:f.err=0:=by
    by_cases h:f.err=0
    .exact h
    exact absurd h q
   rw[K8 Q,decide_eq_true a,Bool.true_and,Bool.not_eq_false',j0]at B;rw[b6 (by rw[q9];omega)]
  rw[c]at g;have g:(if f.err≠0 then f.err else 2)=0:=g
  split at g
  .next h=>exact absurd g h
  exact absurd g (by decide)
 have m4:j=C b:=Nat.le_antisymm G o_;rw[m4,take_length,drop_length]at m;rw[J,m,kT];refine(MY s (.yld 904 0) (λk=>(904,LR x wD)::kL s (b.take k) (.pv (.sl [])) 0 0) (tQ b) (C b) A_ (λk=>rfl) (λk=>rfl) (λk=>rfl) (λk=>rfl) (λk=>(dI.ofL ⟨(by exact oM j5),(cV _ _),w8,(tG Z Z),(kQ _),(tE _ _),l5,l5,l5,T_⟩)) (λk=>by simp;rfl) (by rw[<-i];exact h_ _) (λk K=>u k X) (.inl (by rw[<-i])) ?_).mono ?_
 .rw[<-i];intro k d y K;have p:=o k d y X;have g:=u k X;rw[g,b6 rfl]at p;rw[g];exact dO.congrG p (λj=>nK E_ j) (λj=>nK E_ j)
 rintro r H' ⟨rfl,rfl⟩;rw[take_length];refine⟨x,_,Z,by rw[E];decide,Z,λz=>?_⟩;rw[H];refine O (bU nV)<|Uu (jH oL)<|Uu (jH sizeOf25)<|Uu (jH sizeOf3)<|Zz<|aC<|mP (H':=[(905,⟨C b,3,189,mA b⟩)]) (.inr Z) Z (iU Z nV Z Z Z Z) (iU Z nP Z Z Z Z) (iU Z M_ Z Z Z Z) P_ ?_;exact Qq
theorem aBR(s)(H)(c:T s<2^40)(b:(fR s).2.1=0)(B:H.get 905=ζ):aW φ 203 [sv s] H (λr H'=>r=.tup [.osl 905 (C (fR s).1) 0 (C (fR s).1),iv 0,iv (fR s).2.2]/\H'=(905,⟨C (fR s).1,3,189,mA (fR s).1⟩)::H) :=aW.frame (aBS s c b) (λ_ _ h=>by cases h) (λ_ _ h=>by cases h) H_ (λid h=>.inr (by
  by_cases e:id=905
  .simp_all
  rw[get_cons_other _ _ e]at h;cases h))
theorem KH(f:α->List _)(l:List _):l.map (λe=>(f e).map AV.pv)=(l.map f).map (·.map .pv):=H_
theorem lE(f:α->List PV)(l:List _):((l.map f).take (0+C l)).drop 0=l.map f:=take_of_length_le H_
theorem Ck(f)(H):RC 285 [av (K_ f)] (bv (kU f)) H:=by
 refine Pu<|Bd func285 Z ntmps285<|O (tP (id:=1) Z Z Z Z Z)<|V aJ<|S<|aT (t:=2) (n:=10) (A_:=kU f) ?_ ?_
 .all_goals refine Y (bD iP)<|Y (bU N_)<|Y vT<|Dm ?_<;>(refine Sp 6 (λb=>?_) λb=>?_)<;>(first|refine M<|M<|M ?_|refine U (bD vQ)<|U (bU M_)<|U cG ?_)<;>refine Y cE<|Da ?_<;>exact Gj (h:=by(simp only[kU, *];rfl))
 exact aC<|Rt<|Qq
theorem NV(l)(H:aF)(D:C l<2^62):
  RC 284 [.pv (C6 l),.pv (.fn 285)] (iv (A6 kU l)) H:=by
 refine Pu ?_;have B:C (l.map K_)=C l:=g_ _;refine Bd func284 Z ntmps284<|Sz aJ<|S<|O aA<|Y (fJ cS)<|V aA<|aD<|bC (σ:=Nat) (λk=>([(0,.pv (C6 l)),(1,.pv (.fn 285)),(7,iv (C (l.map K_):Int)),(8,iv (k:Int))],[])) (λk=>k<=C l/\∀j,j<k->∀b,l[j]?=A b->kU b=η) (λk=>C l - k) 0 ⟨X,X⟩ ?_ ?_
 .exact E0
 rintro k ⟨hk,d⟩;refine Sz cF<|S<|Cn ?_ ?_<;>intro f
 .have i:k<C l:=I_ f
  have ⟨o,h⟩:=aR i;have hi:=cC (f:=K_) h;refine aB<|S<|aD<|O aA<|V aJ<|O aA<|Y aA<|Y aA<|Y (jA iL)<|Y (by exact eY Z jD sizeOf189 Z X (Z) Z)<|V (by exact dH Z Z Z (dO.fn call285 (Ck o _)))<|Cn ?_ ?_<;>intro e
  .refine O aA<|V aJ<|aC<|Rt ?_;exact⟨by rw[A6,YH d h e],Z⟩
  refine aB<|Rd iH<|V aA ?_;exact⟨k+1,⟨X,SW d h e⟩,X,E0⟩
 have g:k=C l:=J_ f
 subst g;refine aP<|Sz aJ<|aC<|Rt ?_;exact⟨by rw[A6,YI d],Z⟩
def KV(J0:List b7)(k:Nat):List b7:=J0++List.replicate k LF
theorem KU(J0)(k):C (KV J0 k)=C J0+k:=by rw[KV,j8,length_replicate]
theorem Kn(J0)(k):mA (KV J0 k)++[(K_ LF).map AV.pv]=mA (KV J0 (k+1)):=by rw[CZ,KV,KV,replicate_succ',append_assoc]
def kF(s:B_):Nat->Int
 |0=>0
 |j+1=>if eP ((j+1:Nat):Int)=s then((j+1:Nat):Int)else kF s j
theorem xk(s):kF s 5=EG s:=by simp only[kF,EG,eq_comm];rfl
theorem RP:∀l,sH l=fT l (C l / 3)
 | []=>rfl
 | [a]=>by simp[sH,fT]
 | [a,b]=>by simp[sH,fT]
 |a::b::c::r=>by
  rw[sH,RP r];have d:C (a::b::c::r)=C r+3:=rfl;rw[d,add_div_right _ H_,fT,fT,range_succ_eq_map,map_cons,map_map];rfl
theorem Pn(s):atV s=(qN s).1:=by rw[atV,qN];all_goals grind
abbrev oR(id:B_)(k x y:Int)(n m:Nat):Ob:=bx 6 135 [sv id,iv k,iv x,iv y,.osl 906 n 0 n,.osl 907 m 0 m]
def di(L:List b7):Ob:=⟨C L,3,189,mA L⟩
def rH(L:List b7)(id:B_)(k x y:Int)(R:List B_)(G:List m9):aF:=[(907,⟨C G,2,270,tD G⟩),(906,⟨C R,1,9,bQ R⟩),(3,oR id k x y (C R) (C G)),(905,di L),(2,bx 6 135 ((bT j7).map .pv))]
abbrev rE(L:List b7):dD:=[(0,.osl 905 (C L) 0 (C L)),(2,.ref 2 0 0 0),(3,.ref 3 0 0 0)]
theorem aEm(L)(id)(k x y)(R)(s)(G):rH L id k x y (R++[s]) G=[(907,⟨C G,2,270,tD G⟩),(906,⟨C R+1,1,9,bQ (R++[s])⟩),(3,oR id k x y (C R+1) (C G)),(905,di L),(2,bx 6 135 ((bT j7).map .pv))]:=by simp[rH]
theorem aCw(L)(id)(k x y)(R)(t)(G):rH L id k x y R (G++[t])=[(907,⟨C G+1,2,270,tD (G++[t])⟩),(906,⟨C R,1,9,bQ R⟩),(3,oR id k x y (C R) (C G+1)),(905,di L),(2,bx 6 135 ((bT j7).map .pv))]:=by simp[rH]
theorem CY{L}{f}(h:L[i]?=A f):(mA L)[i]?=A [iv f.kind,sv f.text,iv (f.pos)]:=by rw[mA,r7,h];rfl
theorem y0{p:Prop}(h:p:=by simp only[Zl,cA,bT,S_,gV,K_];rfl):p:=h
theorem aA2(J0:List b7)(hl:C J0<549755813888)(F:∀f∈wR J0,T f.text<2^40):aW φ 252 [.osl 905 (C J0) 0 (C J0)] [(905,di J0)] (λr H'=>r=av (bT (tV J0))/\H'=[(905,di (wR J0))]):=by
 refine Bd func252 Z ntmps252<|Sz (kl 2 WH)<|S<|aD<|bC (σ:=Nat) (λk=>([(0,.osl 905 (C (KV J0 k)) 0 (C (KV J0 k))),(2,.ref 2 0 0 0)],[(905,di (KV J0 k)),(2,bx 6 135 ((bT j7).map .pv))])) (λk=>k<=4 - C J0) (λk=>4 - C J0 - k) 0 (k_ _) ?_ ?_
 ·rw[show KV J0 0=J0 by simp[KV]];exact(cH.wk (Ea<|Ea<|T_) (Hc (cV _ _)<|Hb<|T_) ⟨Z,T_⟩)
 rintro k hk;have K:=KU J0 k;unfold di;refine S<|O aA<|Y (by exact dQ Z cS Z Z Z)<|V cF<|Cn ?_ ?_<;>intro y_
 .have z_:C J0+k<4:=by have:=b8 y_;rw[K]at this;omega
  refine aB<|aD<|Rd aA<|Y (pB IG)<|Y (by exact aM [K_ LF] Z iL Z Z Z Z Z R_)<|Y (by exact bW (ps:=[K_ LF]) Z iL yh Z Z Z Z Z (yE _) Z R_ (m:=1) Z X Z (Kn J0 k))<|Da ?_;refine⟨k+1,X,X,?_⟩;rw[show (KV J0 (k+1)).length=(KV J0 k).length+1 by rw[KU,KU];omega];exact(cH.wk (Ea<|Ea<|T_) (Hc (cV _ _)<|Hb<|T_) ⟨Z,T_⟩)
 have W:4<=C J0+k:=by have:=b_ y_;rw[K]at this;omega
 obtain rfl:k=4 - C J0:=by omega
 have ⟨L,hL⟩:∃L,L=KV J0 (4 - C J0):=X_;have G:wR J0=L:=by rw[hL];rfl
 have hLl:4<=C L/\C L<549755813893:=by rw[hL,KU];omega
 rw[G]at F;rw[G,<-hL];clear K;have ⟨I,v_⟩:=aR (show 0<C L by omega);have ⟨t1,ρ⟩:=aR (show 1<C L by omega);have ⟨P,c_⟩:=aR (show 2<C L by omega);have ⟨Q,o_⟩:=aR (show 3<C L by omega);have w:=CY v_;have hr1:=CY ρ;have s:=CY c_;have hr3:=CY o_;have hd:∀ {i:Nat} {f:b7},L[i]?=A f->L.getD i LF=f:=fun {i f} h=>by rw[getD_eq_getElem?_getD,h];rfl
 have c:=tV.eq_1 J0;rw[G,hd v_,hd ρ,hd c_,hd o_]at c;refine aP<|O aA<|Y (by exact dK Z iL Z Z Z Z Z X (by exact l_ _) (show 1<L.length by omega) Z)<|Y (bD iP)<|Y (by exact aY Z N_ Z Z Z hr1 Z)<|Y (pB Ov)<|Y (kl 3 Fx)<|Uu (jH sizeOf135)<|Zz<|S<|S ?_;refine gO.ent (E':=rE L) (H':=[(906,⟨0,1,9,[]⟩),(3,bx 6 135 [sv t1.text,iv 0,iv 0,iv 0,.osl 906 0 0 0,.pv .nils]),(905,di L),(2,bx 6 135 ((bT j7).map .pv))]) (cH.nz 906 1 9 Z Z ⟨⟨_,Z,(by exact Nz.same w8)⟩,⟨_,Z,(by exact Nz.same w8)⟩,⟨_,Z,(by exact Nz.same w8)⟩,T_⟩ ⟨⟨_,Z,Z,Z,Z,(by exact .inr ⟨_,_,rfl,rfl,(by repeat(first|exact trivial|refine⟨(by first|exact Nz.own|exact Nz.same l5),?_⟩))⟩)⟩,⟨_,Z,Z,Z,Z,(by exact .inl ⟨Z,(by exact cV _ _)⟩)⟩,⟨_,Z,Z,Z,Z,(by exact .inl ⟨Z,l5⟩)⟩,T_⟩ ⟨Z,T_⟩) ?_;refine gO.ent (E':=rE L) (H':=rH L t1.text 0 0 0 [] []) (cH.nz 907 2 270 Z Z ⟨⟨_,Z,(by exact Nz.same w8)⟩,⟨_,Z,(by exact Nz.same w8)⟩,⟨_,Z,(by exact Nz.same w8)⟩,T_⟩ ⟨⟨_,Z,Z,Z,Z,(by exact .inl ⟨Z,(by exact aQ _ _)⟩)⟩,⟨_,Z,Z,Z,Z,(by exact .inr ⟨_,_,rfl,rfl,(by repeat(first|exact trivial|refine⟨(by first|exact Nz.own|exact Nz.same (by first|(simp;done)|(simp;rfl))),?_⟩))⟩)⟩,⟨_,Z,Z,Z,Z,(by exact .inl ⟨Z,(by exact cV _ _)⟩)⟩,⟨_,Z,Z,Z,Z,(by exact .inl ⟨Z,l5⟩)⟩,T_⟩ ⟨Z,T_⟩) ?_;refine Rg<|V aJ<|aD<|bC (σ:=Nat) (λj=>(rE L++[(4,iv ((j+1:Nat):Int))],rH L t1.text (kF I.text j) 0 0 [] [])) (λj=>j<=5) (λj=>5 - j) 0 (k_ _) ?_ ?_
 ·exact(cH.wk (Ea<|Ea<|Ea<|Eb<|T_) (Hc (lG _ _)<|Hc (aQ _ _)<|Hc (by(simp;exact⟨Z,Z⟩))<|Hc (cV _ _)<|Hb<|T_) ⟨Z,T_⟩)
 rintro j hj;refine S<|O aA<|V EQ<|Cn ?_ ?_<;>intro A_
 .have τ:j<5:=I_ A_
  refine aB<|S<|aD<|S<|aN a7<|Cq aA<|Cq (kc call283 (II ((j+1:Nat):Int) _))<|Cq aA<|Cq (by exact dK Z iL Z Z Z Z Z X (by exact l_ _) (show 0<L.length by omega) Z)<|Cq (bD iP)<|Cq (by exact aY Z N_ Z Z Z w Z)<|Cq vT<|bG<|Kr<|Cn ?_ ?_<;>intro e
  ·have hw:eP ((j+1:Nat):Int)=I.text:=b8 e;refine Rd aA<|Y (bD eK)<|Uu (by exact cT Z sizeOf3 Z Z Z Z Z Z u1 y0 y0)<|Zz<|Rd aA<|Y iH<|Da ?_;refine⟨j+1,X,X,?_⟩;rw[show kF I.text (j+1)=((j+1:Nat):Int)by rw[kF,b6 hw]];exact(cH.wk (Ea<|Ea<|Ea<|Eb<|T_) (Hc (lG _ _)<|Hc (aQ _ _)<|Hc (by(simp;exact⟨Z,Z⟩))<|Hc (cV _ _)<|Hb<|T_) ⟨Z,T_⟩)
  have hw:eP ((j+1:Nat):Int)≠I.text:=b_ e;refine aB<|Rd aA<|Y iH<|Da ?_;refine⟨j+1,X,X,?_⟩;rw[show kF I.text (j+1)=kF I.text j by rw[kF,a8 hw]];exact(cH.wk (Ea<|Ea<|Ea<|Eb<|T_) (Hc (lG _ _)<|Hc (aQ _ _)<|Hc (by(simp;exact⟨Z,Z⟩))<|Hc (cV _ _)<|Hb<|T_) ⟨Z,T_⟩)
 have τ:j=5:=by have:=b_ A_;omega
 subst τ;rw[xk];generalize EG I.text=d at c |-;have htk:(mA L).length=L.length:=yE L;refine aP<|O aA<|Y (by exact kZ (l:=4) (h:=L.length) Z iL Z Z Z Z Z Z X X Z Z)<|V aJ<|S<|O (bD eK)<|Y (bU M_)<|V cG<|Cn ?_ ?_<;>intro R
 .have z:d=1:=b8 R;have hR2:tV J0=⟨t1.text,1,atV P.text,atV Q.text,[],sH (L.drop 4)⟩:=by rw[c,b6 z]
  subst z;refine O aA<|Y (by exact dK Z iL Z Z Z Z Z X (by exact l_ _) (show 2<L.length by omega) Z)<|Y (bD iP)<|Y (by exact aY Z N_ Z Z Z s Z)<|Y (kc wM (QX P.text (F _ (m7 c_)) _))<|Y aA<|Y dL<|Y dL<|Y (bD nC)<|Y (bD nE)<|Uu (by exact cT Z sizeOf3 Z Z Z Z Z Z u1 y0 y0)<|Zz<|Rd aA<|Y (by exact dK Z iL Z Z Z Z Z X (by exact l_ _) (show 3<L.length by omega) Z)<|Y (bD iP)<|Y (by exact aY Z N_ Z Z Z hr3 Z)<|Y (kc wM (QX Q.text (F _ (m7 o_)) _)) ?_;refine Y aA<|Y dL<|Y dL<|Y (bD nC)<|Y (bD nD)<|Uu (by exact cT Z sizeOf3 Z Z Z Z Z Z u1 y0 y0)<|Zz<|S<|aD ?_;have ⟨D,E⟩:∃D,D=L.drop 4:=X_;have κ:D.length=L.length - 4:=by rw[E,q6]
  refine bC (σ:=Nat) (λj=>(rE L++[(5,.osl 905 (C L) (4+3*j) (C L - 4 - 3*j))],rH L t1.text 1 (qN P.text).1 (qN Q.text).1 ([]:List B_) (fT D j))) (λj=>3*j<=C D) (λj=>C D - 3*j) 0 (k_ _) ?_ ?_
  ·exact(cH.wk (Ea<|Ea<|Ea<|Ea<|T_) (Hc (lG _ _)<|Hc (aQ _ _)<|Hc (by(simp;exact⟨Z,Z⟩))<|Hc (cV _ _)<|Hb<|T_) ⟨Z,T_⟩)
  rintro j hj;have d_:=F2 D j;have hfl:=IC D j;refine S<|O aA<|Y (by exact dQ Z cS Z Z Z)<|V iZ<|Cn ?_ ?_<;>intro g
  .have z_:3*j+2<C D:=I_ g
   have ⟨y,u⟩:∃f,L[4+3*j]?=A f:=aR X;have ⟨x,v⟩:∃f,L[4+3*j+2]?=A f:=aR X;have w:=CY u;have s:=CY v;have B:WV D j=⟨y.text,x.text⟩:=by
    rw[WV,E,getElem?_drop,getElem?_drop,u,show 4+(3*j+2)=4+3*j+2 from Z,v];rfl
   refine aB<|S<|aD<|aN a7<|Cs (λ_ h=>fh gJ h)<|Cs (λ_ h=>lh dN h)<|Cs (λ_ _=>aA)<|Cs (λH1 J=>by exact dK Z iL Z ((J _ Z).trans Z) Z Z Z X (by exact l_ _) (show 0<L.length - 4 - 3*j by omega) Z)<|Cs (λ_ h=>fh iP h)<|Cs (λH1 J=>by exact aY Z N_ Z ((J _ Z).trans Z) Z w Z)<|Cs (λ_ _=>aA)<|Cs (λH1 J=>by exact dK Z iL Z ((J _ Z).trans Z) Z Z Z X (by exact l_ _) (show 2<L.length - 4 - 3*j by omega) Z)<|Cs (λ_ h=>fh iP h)<|Cs (λH1 J=>by exact aY Z N_ Z ((J _ Z).trans Z) Z s Z)<|Cs (λ_ _=>(pB Ow))<|Cs (λH1 J=>by exact aM [cA ⟨y.text,x.text⟩] Z lY Z Z Z Z Z R_) ?_;refine iR (r:=⟨_,none,[_]⟩) (DStep.plain Z (λH1 J=>by exact bW (ps:=[cA ⟨y.text,x.text⟩]) Z lY No Z ((J _ Z).trans Z) Z Z Z (IL _) Z R_ (m:=1) Z X Z (IM (fT D j) ⟨y.text,x.text⟩))) Z ?_;refine Cs (λ_ h=>fh gJ h)<|iR (r:=⟨_,none,[_]⟩) (DStep.plain Z (λH1 J=>by exact(by exact cT Z sizeOf133 Z Z Z ((J _ Z).trans Z) Z Z u1 y0 y0))) Z ?_;refine bG<|Kr<|Rd aA<|Y (by exact kZ (l:=3) (h:=(L.length - 4 - 3*j)) Z iL Z Z Z Z Z Z X X Z Z)<|Da ?_;refine⟨j+1,X,X,?_⟩;dsimp only;rw[d_,B,aCw];exact(cH.wk (Ea<|Ea<|Ea<|Ea<|T_) (Hc (lG _ _)<|Hc (aQ _ _)<|Hc (by(simp;exact⟨Z,Z⟩))<|Hc (cV _ _)<|Hb<|T_) ⟨Z,T_⟩)
  have W:C D<3*j+3:=by have:=b_ g;omega
  have m4:C D / 3=j:=by omega
  have hG:sH D=fT D j:=by rw[RP,m4]
  refine aP<|S ?_;refine gO.ent (cH.fzG (id:=907) (E':=rE L) (H':=[(906,⟨C (([]:List B_)),1,9,bQ (([]:List B_))⟩),(3,bx 6 135 [sv (t1.text),iv (1),iv ((qN P.text).1),iv ((qN Q.text).1),.osl 906 (C (([]:List B_))) 0 (C (([]:List B_))),.pv (qP (fT D j))]),(905,di L),(2,bx 6 135 ((bT j7).map .pv))]) ((fT D j).map cA) Z (KH cA _) ?_ Z ?_ ?_) ?_
  .intro p t;simp only[l9,q8,or_false]at t;rcases t with rfl|rfl|rfl<;>exact⟨_,Z,.same m3⟩
  .exact⟨⟨_,Z,Z,Z,Z,eL (aQ _ _)⟩,⟨_,Z,Z,Z,Z,mO Z (bJ (.same H_) (bJ (.same H_) (bJ (.same H_) (bJ (.same H_) (bJ (.same m3) (bJ (.osl (lE cA _)) kG))))))⟩,⟨_,Z,Z,Z,Z,eL (cV _ _)⟩,⟨_,Z,Z,Z,Z,eL H_⟩,T_⟩
  .exact⟨Z,T_⟩
  refine gO.ent (cH.fzG (id:=906) (E':=rE L) (H':=[(3,bx 6 135 [sv (t1.text),iv (1),iv ((qN P.text).1),iv ((qN Q.text).1),.pv (aL (([]:List B_))),.pv (qP (fT D j))]),(905,di L),(2,bx 6 135 ((bT j7).map .pv))]) ((([]:List B_)).map S_) Z (dS _) ?_ Z ?_ ?_) ?_
  .intro p t;simp only[l9,q8,or_false]at t;rcases t with rfl|rfl|rfl<;>exact⟨_,Z,.same m3⟩
  .exact⟨⟨_,Z,Z,Z,Z,mO Z (bJ (.same H_) (bJ (.same H_) (bJ (.same H_) (bJ (.same H_) (bJ (.osl (lE S_ _)) (bJ (.same H_) kG))))))⟩,⟨_,Z,Z,Z,Z,eL (cV _ _)⟩,⟨_,Z,Z,Z,Z,eL H_⟩,T_⟩
  .exact⟨Z,T_⟩
  refine Rd (by exact aX Z cD sizeOf135 Z Z Z Z y0 Z)<|Uu (jH sizeOf135)<|Zz<|aC ?_;refine cN (H':=[(905,di L)]) (.inr Z) Z (fG Z cD sizeOf135 Z Z Z y0 Z) (Fin.wk l5 (Hc (cV _ _)<|T_) ⟨Z,T_⟩) ?_;refine⟨?_,Z⟩;rw[(show tV J0=⟨t1.text,1,(qN P.text).1,(qN Q.text).1,[],sH (L.drop 4)⟩by rw[hR2,Pn,Pn]),<-E,hG];rfl
 have z:d≠1:=b_ R;rw[a8 z]at c;have γ:=NV L [] X;have δ:∀H,H.get 905=A (di L)->RC 284 [.osl 905 (C L) 0 (C L),.pv (.fn 285)] (iv (A6 kU L)) H:=λH J =>
  RO.calls (RO.lend (id:=905) (H1:=[]) (L.map K_) (RO.of γ Z) J (KH K_ L) Z
   (bJ (.osl (lE K_ L)) (bJ (.same H_) kG)) (λ_ _ h=>by cases h) (λ_ _ h=>by cases h) Z)
 refine O aA<|Y (kc call284 (δ _ Z))<|V aJ<|S<|O aA<|V cF<|Cn ?_ ?_<;>intro f_
 ·have b:A6 kU L<3:=b8 f_;rw[b6 b]at c;rw[c];refine O (pB F9)<|Uu (jH sizeOf135)<|Zz<|aC<|cN (H':=[(905,di L)]) (.inr Z) Z (fG Z cD sizeOf135 Z Z Z y0 Z) (Fin.wk l5 (Hc (cV _ _)<|T_) ⟨Z,T_⟩) ?_;exact Qq
 have b:¬ A6 kU L<3:=b_ f_;rw[a8 b]at c;have ⟨q,hq,hqL⟩:∃q:Nat,A6 kU L=(q:Int)/\q<C L:=by
  rcases rr kU L with⟨e1,_⟩|⟨q,o,e1,e2,_⟩
  .rw[e1]at b;exact absurd (by decide) b
  exact⟨q,e1,(m_.1 e2).1⟩
 rw[hq]at c b |-;rw[l_]at c;have hq3:3<=q:=by omega
 obtain ⟨a,hM⟩:∃a,a=(L.take q).drop 3:=X_;have hMl:C a=q - 3:=by rw[hM,q6,q9];omega
 rw[<-hM]at c;refine aB<|S<|O aA<|Y aA<|Y (by exact kZ (l:=3) (h:=q) Z iL Z Z Z Z Z Z X X Z Z)<|Y (by exact dQ Z cS Z Z Z)<|V aA<|aD<|bC (σ:=Nat) (λi=>(rE L++[(5,.osl 905 L.length 4 (L.length - 4)),(6,iv (q:Int)),(66,.osl 905 L.length 3 (q - 3)),(67,iv ((q - 3:Nat):Int)),(68,iv (i:Int))],rH L t1.text d 0 0 ((a.take i).map b7.text) [])) (λi=>i<=a.length) (λi=>a.length - i) 0 (k_ _) ?_ ?_
 ·exact(cH.wk (Ea<|Ea<|Ea<|Ea<|Eb<|Ea<|Eb<|Eb<|T_) (Hc (lG _ _)<|Hc (aQ _ _)<|Hc (by(simp;exact⟨Z,Z⟩))<|Hc (cV _ _)<|Hb<|T_) ⟨Z,T_⟩)
 rintro i hi;refine Sz cF<|S<|Cn ?_ ?_<;>intro u_
 .have hiq:i<q - 3:=I_ u_
  have ⟨f,hf⟩:=aR (show i<C a by omega);have hfL:L[3+i]?=A f:=by
   rw[hM,List.getElem?_drop,List.getElem?_take_of_lt (by omega)]at hf;exact hf
  have hrf:=CY hfL;have hMt:(a.take (i+1)).map b7.text=(a.take i).map b7.text++[f.text]:=by rw[take_add_one,hf,map_append];rfl
  have hRl:C ((a.take i).map b7.text)=i:=by rw[g_,q9];omega
  refine aB<|S<|aD<|O (by exact dK Z iL Z Z Z Z Z X (by exact l_ _) X Z)<|Y (by exact aX Z jD sizeOf189 Z Z Z hrf y0 Z)<|Y (kl 8 ub)<|Uu (jH sizeOf189)<|Zz<|Rd (bD eJ)<|Y (bU aG)<|Y (bD iP)<|Y (bU N_)<|Y (by exact aM [S_ f.text] Z aZ Z Z Z Z Z R_)<|Y (by exact bW (ps:=[S_ f.text]) Z aZ sZ Z Z Z Z Z (cY _) Z R_ (m:=1) Z X Z (gB ((a.take i).map b7.text) f.text))<|Y (bD eJ)<|Uu (by exact cT Z sizeOf22 Z Z Z Z Z Z u1 y0 y0) ?_;refine Zz<|Rd iH<|V aA ?_;refine⟨i+1,X,X,?_⟩;dsimp only;rw[hMt,aEm];exact(cH.wk (Ea<|Ea<|Ea<|Ea<|Eb<|Ea<|Eb<|Eb<|T_) (Hc (lG _ _)<|Hc (aQ _ _)<|Hc (by(simp;exact⟨Z,Z⟩))<|Hc (cV _ _)<|Hb<|T_) ⟨Z,T_⟩)
 have hiq:i=q - 3:=by have:=b_ u_;omega
 have β:a.take i=a:=take_of_length_le X;rw[β];refine aP<|Rd aA<|Y aA<|Y kp<|Y (by exact kZ (l:=(q+1)) (h:=L.length) Z iL Z Z Z Z Z Z X X Z Z)<|V aJ<|S<|aD ?_;rw[<-r8 (q+1)]at c;have ⟨D,E⟩:∃D,D=L.drop (0+(q+1)):=X_;have κ:D.length=L.length - (0+(q+1)):=by rw[E,q6]
 refine bC (σ:=Nat) (λj=>(rE L++[(5,.osl 905 (C L) ((0+(q+1))+3*j) (C L - (q+1) - 3*j))],rH L t1.text d 0 0 (a.map b7.text) (fT D j))) (λj=>3*j<=C D) (λj=>C D - 3*j) 0 (k_ _) ?_ ?_
 ·exact(cH.wk (Ea<|Ea<|Ea<|Ea<|T_) (Hc (lG _ _)<|Hc (aQ _ _)<|Hc (by(simp;exact⟨Z,Z⟩))<|Hc (cV _ _)<|Hb<|T_) ⟨Z,T_⟩)
 rintro j hj;have d_:=F2 D j;have hfl:=IC D j;refine S<|O aA<|Y (by exact dQ Z cS Z Z Z)<|V iZ<|Cn ?_ ?_<;>intro n
 .have z_:3*j+2<C D:=I_ n
  have ⟨y,u⟩:∃f,L[(0+(q+1))+3*j]?=A f:=aR X;have ⟨x,v⟩:∃f,L[(0+(q+1))+3*j+2]?=A f:=aR X;have w:=CY u;have s:=CY v;have B:WV D j=⟨y.text,x.text⟩:=by
   rw[WV,E,getElem?_drop,getElem?_drop,u,show (0+(q+1))+(3*j+2)=(0+(q+1))+3*j+2 from Z,v];rfl
  refine aB<|S<|aD<|aN a7<|Cs (λ_ h=>fh gJ h)<|Cs (λ_ h=>lh dN h)<|Cs (λ_ _=>aA)<|Cs (λH1 J=>by exact dK Z iL Z ((J _ Z).trans Z) Z Z Z X (by exact l_ _) (show 0<L.length - (q+1) - 3*j by omega) Z)<|Cs (λ_ h=>fh iP h)<|Cs (λH1 J=>by exact aY Z N_ Z ((J _ Z).trans Z) Z w Z)<|Cs (λ_ _=>aA)<|Cs (λH1 J=>by exact dK Z iL Z ((J _ Z).trans Z) Z Z Z X (by exact l_ _) (show 2<L.length - (q+1) - 3*j by omega) Z)<|Cs (λ_ h=>fh iP h)<|Cs (λH1 J=>by exact aY Z N_ Z ((J _ Z).trans Z) Z s Z)<|Cs (λ_ _=>(pB Ow))<|Cs (λH1 J=>by exact aM [cA ⟨y.text,x.text⟩] Z lY Z Z Z Z Z R_) ?_;refine iR (r:=⟨_,none,[_]⟩) (DStep.plain Z (λH1 J=>by exact bW (ps:=[cA ⟨y.text,x.text⟩]) Z lY No Z ((J _ Z).trans Z) Z Z Z (IL _) Z R_ (m:=1) Z X Z (IM (fT D j) ⟨y.text,x.text⟩))) Z ?_;refine Cs (λ_ h=>fh gJ h)<|iR (r:=⟨_,none,[_]⟩) (DStep.plain Z (λH1 J=>by exact(by exact cT Z sizeOf133 Z Z Z ((J _ Z).trans Z) Z Z u1 y0 y0))) Z ?_;refine bG<|Kr<|Rd aA<|Y (by exact kZ (l:=3) (h:=(L.length - (q+1) - 3*j)) Z iL Z Z Z Z Z Z X X Z Z)<|Da ?_;refine⟨j+1,X,X,?_⟩;dsimp only;rw[d_,B,aCw];exact(cH.wk (Ea<|Ea<|Ea<|Ea<|T_) (Hc (lG _ _)<|Hc (aQ _ _)<|Hc (by(simp;exact⟨Z,Z⟩))<|Hc (cV _ _)<|Hb<|T_) ⟨Z,T_⟩)
 have W:C D<3*j+3:=by have:=b_ n;omega
 have m4:C D / 3=j:=by omega
 have hG:sH D=fT D j:=by rw[RP,m4]
 refine aP<|S ?_;refine gO.ent (cH.fzG (id:=907) (E':=rE L) (H':=[(906,⟨C ((a.map b7.text)),1,9,bQ ((a.map b7.text))⟩),(3,bx 6 135 [sv (t1.text),iv (d),iv (0),iv (0),.osl 906 (C ((a.map b7.text))) 0 (C ((a.map b7.text))),.pv (qP (fT D j))]),(905,di L),(2,bx 6 135 ((bT j7).map .pv))]) ((fT D j).map cA) Z (KH cA _) ?_ Z ?_ ?_) ?_
 .intro p t;simp only[l9,q8,or_false]at t;rcases t with rfl|rfl|rfl<;>exact⟨_,Z,.same m3⟩
 .exact⟨⟨_,Z,Z,Z,Z,eL (aQ _ _)⟩,⟨_,Z,Z,Z,Z,mO Z (bJ (.same H_) (bJ (.same H_) (bJ (.same H_) (bJ (.same H_) (bJ (.same m3) (bJ (.osl (lE cA _)) kG))))))⟩,⟨_,Z,Z,Z,Z,eL (cV _ _)⟩,⟨_,Z,Z,Z,Z,eL H_⟩,T_⟩
 .exact⟨Z,T_⟩
 refine gO.ent (cH.fzG (id:=906) (E':=rE L) (H':=[(3,bx 6 135 [sv (t1.text),iv (d),iv (0),iv (0),.pv (aL ((a.map b7.text))),.pv (qP (fT D j))]),(905,di L),(2,bx 6 135 ((bT j7).map .pv))]) (((a.map b7.text)).map S_) Z (dS _) ?_ Z ?_ ?_) ?_
 .intro p t;simp only[l9,q8,or_false]at t;rcases t with rfl|rfl|rfl<;>exact⟨_,Z,.same m3⟩
 .exact⟨⟨_,Z,Z,Z,Z,mO Z (bJ (.same H_) (bJ (.same H_) (bJ (.same H_) (bJ (.same H_) (bJ (.osl (lE S_ _)) (bJ (.same H_) kG))))))⟩,⟨_,Z,Z,Z,Z,eL (cV _ _)⟩,⟨_,Z,Z,Z,Z,eL H_⟩,T_⟩
 .exact⟨Z,T_⟩
 refine Rd (by exact aX Z cD sizeOf135 Z Z Z Z y0 Z)<|Uu (jH sizeOf135)<|Zz<|aC ?_;refine cN (H':=[(905,di L)]) (.inr Z) Z (fG Z cD sizeOf135 Z Z Z y0 Z) (Fin.wk l5 (Hc (cV _ _)<|T_) ⟨Z,T_⟩) ?_;refine⟨?_,Z⟩;rw[c,<-E,hG];rfl
theorem MX:∀(l) (p),oN l=A p->C p.1<=C l
 | [],p,h=>by cases h
 | [c],p,h=>by
  rw[oN]at h
  grind
 | c :: e :: r, p, h => by
  rw[oN]at h
  split at h
  ·grind
  split at h
  .cases h
  split at h
  .cases g:tT e with
   |none=>simp_all
   | some b =>
    rw[g]at h;cases f:oN r with
    |none=>simp_all
    |some q =>
     rw[f]at h;cases h;have:=MX r q f;show C q.1+1<=C r+1+1;omega
  cases f:oN (e::r)with
  |none=>simp_all
  |some q =>
   rw[f]at h;cases h;have:=MX _ q f
   simp_all
theorem gE(s:B_)(i j):T (s.extract i j)<=T s:=by rw[<-aU,gK,q9,q6,aU];omega
theorem zo(s):T (A8 s).1<=T s:=by
 rw[A8];cases h:oN _ with
 |none=>exact k_ _
 |some p =>
  have:=MX _ _ h;rw[q6,aU]at this;rw[<-aU]
  grind
theorem nv{s}{f:b7}{j:Nat}(h:fF s i=(A f,j)):T f.text<=T s:=by
 rw[fF]at h
 split at h
 .cases h
 split at h
 .cases h
 split at h
 .cases h;exact gE _ _ _
 split at h
 .cases h;exact gE _ _ _
 split at h
 .cases h;rw[FR]
  split
  .have h1:=zo (s.extract i (T s));have B:=gE s i (T s);show T (A8 _).1<=_;omega
  exact k_ _
 split at h
 .cases h;exact gE _ _ _
 cases h;exact k_ _
theorem IK(s):∀(n i) (f),f∈kO s n i->T f.text<=T s
 |0,_,_,h=>by cases h
 | n+1,i,f,h=>by
  rw[kO]at h
  split at h
  .split at h
   .exact IK s n _ f h
   rename_i g j b;rcases l9.1 h with rfl|h
   .exact nv b
   split at h
   .exact IK s n _ f h
   cases h
  cases h
theorem fj:∀(a acc) (f),f∈(kT acc a).1->f∈acc\/f∈a
 | [],acc,f,h=>.inl h
 |d::a,acc,f,h=>by
  rw[kT]at h
  split at h
  .cases h
  split at h
  .cases h
  rcases fj _ _ f h with h|h;all_goals grind
theorem G8(s)(f)(h:f∈(fR s).1):T f.text<=T s:=by
 rw[fR]at h
 split at h
 .cases h
 rcases fj _ _ f h with h|h
 .cases h
 exact IK s _ _ f h
theorem gv{J0}{n}(h:∀f∈J0,T f.text<=n):∀f∈wR J0,T f.text<=n:=λf b=>by
 rcases mem_append.1 b with a|a
 .simp_all
 rw[(mem_replicate.1 a).2];exact k_ _
theorem WP:∀(J0) (n),(∀f∈J0,T f.text<=n)->C (sH J0)<=C J0/\∀t∈sH J0,T t.key<=n/\T t.val<=n
 | [],n,_=>by simp[sH]
 | [a],n,_=>by simp[sH]
 | [a,b],n,_=>by simp[sH]
 |a::b::c::r,n,h=>by
  obtain ⟨D,E⟩:=WP r n λf B=>h f G_;rw[sH]
  grind
theorem Kp(J0):C (wR J0)<=C J0+4:=by rw[wR,j8,length_replicate];omega
theorem Ji{J0:List b7}{n:Nat}(h:∀f∈J0,T f.text<=n)(m:n<2^62)(D:C J0<549755813888):mw (tV J0):=by
 have o:=gv h;have B:=Kp J0;have l:∀i,T ((wR J0).getD i LF).text<=n:=λi=>by
  rw[getD_eq_getElem?_getD];cases e:(wR J0)[i]? with
  |none=>exact k_ _
  |some f=>grind
 have j:∀k,NF (sH ((wR J0).drop k)):=λk=>by
  have ⟨a,b⟩:=WP ((wR J0).drop k) n λf p=>o f (mem_of_mem_drop p);rw[q6]at a;exact⟨X,λt g=>by have:=b t g;omega⟩
 rw[tV]
 split
 .exact⟨Nat.lt_of_le_of_lt (l 1) m,j _,F_,λs d=>by cases d⟩
 split
 .exact⟨E_,⟨E_,λt h=>by cases h⟩,E_,λs d=>by cases d⟩
 refine⟨Nat.lt_of_le_of_lt (l 1) m,j _,?_,λs d=>?_⟩;all_goals grind
theorem rS(c):∀ {l w},w∈dZ c l->C w<=C l
 | [],w,h=>by
  rw[dZ]at h
  simp_all
 | b::l,w,h=>by
  have d:=rV c l;rw[dZ]at h;cases e:dZ c l with
  |nil=>rw[e]at d;exact absurd d (Nat.lt_irrefl 0)
  | cons x r =>
   have a:∀y∈x::r,C y<=C l:=λy B=>rS c F_;rw[e]at h
   split at h
   .rcases l9.1 h with rfl|h
    .exact k_ _
    exact le_succ_of_le (a w h)
   rcases l9.1 h with rfl|h
   .exact succ_le_succ (a _ mem_cons_self)
   exact le_succ_of_le (a w (mem_cons_of_mem _ h))
theorem XJ{s}(a:T s<2^40):mw (tV (fR s).1):=Ji (λf b=>G8 s f b) X (xN s a)
theorem JN(l:List _):∀r∈l.map S_,C r=1:=λr a=>by
 obtain ⟨s,_,rfl⟩:=mem_map.1 a;rfl
theorem AS{p q}[Decidable p][Decidable q](h:(θ p&&θ q)=N):p/\q:=F_
theorem AT{p q}[Decidable p][Decidable q](h:(θ p&&θ q)=η):¬ (p/\q):=F_
theorem Sg{H}{id}{o}(h:H.get id=A o):Sub [(id,o)] H:=λj x a=>by
 by_cases e:j=id
 .subst e;rw[get_cons_same]at a
  simp_all
 rw[get_cons_other _ _ e]at a;cases a
theorem Ld{id j}{a b}(h:(aF.get [(id,a)] j).isSome=N):(aF.get [(id,b)] j).isSome=N:=by
 by_cases e:j=id
 .subst e;rw[get_cons_same];rfl
 rw[get_cons_other _ _ e]at h;cases h
theorem ql(s:B_)(H:aF)(g:T s<2^40):RC 201 [sv s] (.tup [av (bT (vP s).1),iv (vP s).2]) H:=by
 refine Pu ?_;have c:=xN s g;have l:=gv (G8 s);have d:=XJ g;rw[vP];refine Bd func201 Z ntmps201<|O (kl 2 WH)<|V aJ<|S<|O aA<|Y (gG U_)<|V iZ<|Cn ?_ ?_<;>intro i
 .have q:20000<T s:=I_ i
  rw[b6 q];refine O (pB F9)<|Uu (jH sizeOf135)<|V aJ<|aC<|fO (H':=[]) (.inr Z) Z (C8 cD sizeOf135) (aI Z) (P_ (r:=.tup [av (bT j7),iv 2])) ?_;exact Qq
 have q:¬ 20000<T s:=J_ i
 rw[a8 q];by_cases n:(fR s).2.1=0
 .have e:=λH h=>aBR s H g n h;have ⟨J0,w⟩:∃J0,J0=(fR s).1:=X_;rw[<-w]at c l d |-;simp only[<-w]at e;have k:∀H,H.get 905=A (di J0)->aW φ 252 [.osl 905 (C J0) 0 (C J0)] H (λr H'=>r=av (bT (tV J0))/\H'=[(905,di (wR J0))]++H):=λH x =>
   aW.frame (aA2 J0 c (λf y=>Nat.lt_of_le_of_lt (l f y) g)) (Sg x) (dI.ofL ⟨cV _ _,T_⟩) (by intro a v;rw[q_]at v;subst v;simp[aF.get]) (λid h=>.inl (Ld h))
  generalize tV J0=o at k d |-;refine aB<|O aA<|Y (kc call203 (e _ Z))<|Y aA<|Y dL<|Y dL<|Y dL<|Y aJ<|Y aJ<|V aJ<|S<|O aA<|V cG<|Cn ?_ ?_<;>intro u
  .refine O aA<|Y (kc call252 (k _ Z))<|Y (kl 7 WH)<|Uu (jH sizeOf135)<|Zz<|O (xD cD sizeOf135)<|Y (kc call253 (XS o _ d))<|Y aA<|Y dL<|Y dL<|Y aJ<|V aJ<|S<|aT (t:=35) (n:=8) (A_:=θ ((fM o).2=0)&&θ ((fM o).1=s)) ?_ ?_
   .all_goals refine Y aA<|Y cG<|Dm ?_<;>(refine Sp 31 (λp=>?_) λp=>?_)<;>(first|exact s_|refine M<|M<|M ?_|refine U aA<|U aA<|U vT ?_)<;>refine V cE ?_<;>exact Gj (h:=by simp_all)
   refine Cn ?_ ?_<;>intro j
   .have m:=AS j;rw[b6 ⟨n,Prod.ext m.2 m.1⟩];refine O (xD cD sizeOf135)<|Uu (jH sizeOf135)<|V aJ<|aC<|fO (H':=[]) (.inr Z) Z (C8 cD sizeOf135) (aI Z) (P_ (r:=.tup [av (bT o),iv 0])) ?_;exact Qq
   have m:=AT j;rw[a8 (λh=>m ⟨congrArg Prod.snd h.2,congrArg Prod.fst h.2⟩)];refine aB<|O (pB F9)<|Uu (jH sizeOf135)<|V aJ<|aC<|fO (H':=[]) (.inr Z) Z (C8 cD sizeOf135) (aI Z) (P_ (r:=.tup [av (bT j7),iv 5])) ?_;exact Qq
  exact absurd Z (b_ u)
 refine aB<|O aA<|Y (kc call203 (Yy s _ g))<|Y aA<|Y dL<|Y dL<|Y dL<|Y aJ<|Y aJ<|V aJ<|S<|O aA<|V cG<|Cn ?_ ?_<;>intro t
 .exact absurd (b8 t) n
 refine aB<|O (pB F9)<|Uu (jH sizeOf135)<|V aJ<|aC ?_;rw[a8 (λh=>n h.1)];refine fO (H':=[]) (.inr Z) Z (C8 cD sizeOf135) (aI Z) (P_ (r:=.tup [av (bT j7),iv 5])) ?_;exact Qq
theorem Tt(s:B_)(H:aF)(hs:T s<=20000):RC 143 [sv s] (av (bM (oF (ν (μ s))))) H:=by
 refine Pu ?_;have A_:=aU s;have ⟨W,p⟩:∃W,W=dZ 32 (ν (μ s)):=X_;have ⟨c,E⟩:∃w,w=W.headD []:=X_;have ⟨B,z⟩:∃r,r=s.data.toList.drop (C c+1):=X_;have γ:C B<=T s:=F_
 have hg:oF (ν (μ s))=E8 W c B:=by rw[oF,<-p,<-E,<-z]
 have q:∃b,∀H,RC 137 [sv s,sv Qw] (.tup [sv (a_ c),sv (a_ B),bv b]) H:=by
  have ⟨b,hb⟩:=Xg s;rw[<-p,<-E,<-z]at hb;exact⟨b,λH=>by rw[<-hb];exact aDv s H X⟩
 have ⟨b,q⟩:=q;have τ:C (cR s)=C W:=by rw[Ac,p]
 have P:C ((cR s).map S_)=C W:=F_
 have J:∀i,i<C W->((cR s).map S_)[i]?=A [.str (a_ (W.getD i []))]:=λi hi=>by
  rw[p];exact cC (f:=S_) (Ad s i X)
 have R:∀i,T (a_ (W.getD i []))<=T s:=λi=>by
  rw[cB,getD_eq_getElem?_getD];cases e:W[i]? with
  |none=>simp_all
  |some w =>
   have:=rS 32 (l:=ν (μ s)) (w:=w) G_;rw[A_]at this;exact this
 have σ:C W<=T s+1:=by
  rw[p,yF];have:=count_le_length (l:=ν (μ s)) (a:=32);omega
 have κ:C ((cR s).drop 3)<=20001:=G_
 have δ:dA ((cR s).drop 3)<=20000*C ((cR s).drop 3):=pR (λw hw=>by
  have I:=mem_of_mem_drop hw;rw[cR,<-p]at I;obtain ⟨x,hx,rfl⟩:=mem_map.1 I;have:=rS 32 (l:=ν (μ s)) (w:=x) F_;show T (a_ x)<=_;rw[cB];omega)
 rw[hg,E8];refine Bd func143 Z ntmps143<|Sz (kl 2 WG)<|O aA<|Y (kc call200 (Ae s _ X))<|V aJ<|O aA<|Y (kc call137 (q _))<|Y aA<|Y dL<|Y dL<|Y dL<|Y aJ<|Y aJ<|V aJ<|S<|aD<|O aA<|Y vT<|Da<|Cn ?_ ?_<;>intro m4
 ·have k:c=wPut:=tR.1 (b8 m4);rw[b6 k];refine O aA<|Y (kc call201 (ql (a_ B) _ (by rw[cB];omega)))<|Y aA<|Y dL<|Y dL<|Y (kl 7 WH)<|Uu (jH sizeOf135)<|V aJ<|O (xD cD sizeOf135)<|Y (pB uO)<|Uu (jH bF)<|Zz<|aC ?_;refine cN (H':=[]) (.inr Z) Z (C8 cW bF) (Fin.wk (r:=av (bM ⟨1,a6,a6,a6,0,0,a6,a6,[],(vP (a_ B)).1⟩)) H_ T_ T_) ?_;exact Qq
 have k:¬ c=wPut:=λe=>b_ m4 (tR.2 e);rw[a8 k];refine S<|aT (t:=30) (n:=9) (A_:=θ (a_ c=⟨#[109,111,118,101]⟩)&&θ ((C ((cR s).map S_):Int)=4)) ?_ ?_
 .all_goals refine Y aA<|Y vT<|Dm ?_<;>(refine Sp 33 (λh33=>?_) λh33=>?_)<;>(first|exact s_|refine M<|M<|M ?_|refine U aA<|U (fJ aE)<|U cG ?_)<;>refine Y cE<|Da ?_<;>exact Gj (h:=by(simp_all;done))
 refine Cn ?_ ?_<;>intro i_
 .have F:a_ c=a_ J3/\_:=AS i_;rw[tR,P]at F;rw[b6 ⟨F.1,X⟩];have G:=J 1 X;have m:=J 2 X;have i3:=J 3 X;have s2:=R 2;have s3:=R 3;refine S<|aN a7<|x_ aA<|x_ ((jA aZ))<|x_ ((fK N_))<|x_ aA<|x_ ((jA aZ))<|x_ ((fK N_))<|x_ (by exact bH Z Z call202 Z (il (a_ (W.getD 2 [])) _ X))<|x_ aA<|x_ ((jA aZ))<|x_ ((fK N_))<|x_ (by exact bH Z Z call202 Z (il (a_ (W.getD 3 [])) _ X))<|x_ ((pB MC))<|x_ ((pB uO))<|Cp [2] (λ_ h=>sa bF h)<|bG<|Kr<|aC ?_;refine cN (H':=[]) (.inr Z) Z (C8 cW bF) (P_ (r:=av (bM ⟨2,a_ (W.getD 1 []),a6,a6,V1 (W.getD 2 []),V1 (W.getD 3 []),a6,a6,[],j7⟩))) ?_;exact Qq
 have F:¬ (a_ c=a_ J3/\_):=AT i_;rw[tR,P]at F;rw[a8 (λh=>F ⟨h.1,X⟩)];refine S<|aT (t:=51) (n:=9) (A_:=θ (a_ c=⟨#[116,97,103]⟩)&&θ ((3:Int)<(C ((cR s).map S_):Int))) ?_ ?_
 .all_goals refine Y aA<|Y vT<|Dm ?_<;>(refine Sp 54 (λh54=>?_) λh54=>?_)<;>(first|exact s_|refine M<|M<|M ?_|refine U aA<|U (fJ aE)<|U iZ ?_)<;>refine Y cE<|Da ?_<;>exact Gj (h:=by(simp_all;done))
 refine Cn ?_ ?_<;>intro J0
 .have K:a_ c=a_ BS/\_:=AS J0;rw[tR,P]at K;rw[b6 ⟨K.1,X⟩];have G:=J 1 X;have m:=J 2 X;have o_:bs ((cR s).drop 3)=W.drop 3:=by
   rw[bs,cR,<-p,map_drop,map_map];congr 1;exact(map_congr_left λx _=>cJ x).trans (map_id _)
  have hj:∀H,RC 204 [.pv (aL ((cR s).drop 3)),sv ⟨#[32]⟩] (sv (a_ (bZ [32] (W.drop 3)))) H:=λH=>by
   have:=xP ((cR s).drop 3) ⟨#[32]⟩ H E_ (by show 1*_+_+_<_;omega);rw[o_]at this;exact this
  have Q:T (a_ (bZ [32] (W.drop 3)))<2^40:=by
   have:=gD ((cR s).drop 3);rw[o_]at this;rw[cB];omega
  have ⟨g,hJ⟩:∃g,g=a_ (bZ [32] (W.drop 3)):=X_;rw[<-hJ]at Q |-;simp only[<-hJ]at hj;have β:C ((fR g).1.map K_)=C (fR g).1:=g_ _;refine O aA<|Y (by exact eG (l:=3) (h:=C ((cR s).map S_)) (rows':=((cR s).drop 3).map S_) Z aZ Z (JN _) Z Z X (h_ _) (by rw[take_length];exact map_drop.symm))<|Y (kc sD (hj _))<|Y (kc call203 (Yy g _ Q))<|Y aA<|Y dL<|Y dL<|Y dL<|Y aJ<|Y aJ<|V aJ<|O aA<|Y (fJ cS)<|V cG ?_;refine Cn ?_ ?_<;>intro t
  .have d:C (fR g).1=1:=I_ t
   have ⟨f,o⟩:=length_eq_one_iff.1 d;rw[o];have ρ:([f].map K_)[0]?=A [.int .i64 f.kind,.str f.text,.int .i64 f.pos]:=rfl;refine S<|aN a7<|x_ aA<|x_ ((jA aZ))<|x_ ((fK N_))<|x_ aA<|x_ ((jA aZ))<|x_ ((fK N_))<|x_ aA<|x_ ((jA iL))<|x_ ((FV iP))<|x_ ((fK N_))<|x_ ((pB uO))<|Cp [2] (λ_ h=>sa bF h)<|bG<|Kr<|aC<|cN (H':=[]) (.inr Z) Z (C8 cW bF) (P_ (r:=av (bM ⟨3,a_ (W.getD 1 []),a6,a6,0,0,a_ (W.getD 2 []),f.text,[],j7⟩))) ?_;exact Qq
  have d:C (fR g).1≠1:=J_ t
  split
  .next f o=>rw[o]at d;exact absurd Z d
  refine aB<|O (pB uO)<|Uu (jH bF)<|Zz<|aC<|cN (H':=[]) (.inr Z) Z (C8 cW bF) (P_ (r:=av (bM O0))) ?_;exact Qq
 have K:¬ (a_ c=a_ BS/\_):=AT J0;rw[tR,P]at K;rw[a8 (λh=>K ⟨h.1,X⟩)];refine S<|aT (t:=81) (n:=9) (A_:=θ (a_ c=⟨#[114,101,102,115]⟩)&&θ ((1:Int)<(C ((cR s).map S_):Int))) ?_ ?_
 .all_goals refine Y aA<|Y vT<|Dm ?_<;>(refine Sp 84 (λv_=>?_) λv_=>?_)<;>(first|exact s_|refine M<|M<|M ?_|refine U aA<|U (fJ aE)<|U iZ ?_)<;>refine Y cE<|Da ?_<;>exact Gj (h:=by(simp_all;done))
 refine Cn ?_ ?_<;>intro D
 .have d:a_ c=a_ J2/\_:=AS D;rw[tR,P]at d;rw[b6 ⟨d.1,X⟩];have G:=J 1 X;refine S<|aN a7<|x_ aA<|x_ ((jA aZ))<|x_ ((fK N_))<|x_ aA<|x_ (by exact eG (l:=2) (h:=C ((cR s).map S_)) (rows':=((W.drop 2).map a_).map S_) Z aZ Z (JN _) Z Z X (h_ _) (by rw[take_length,cR,<-p,map_drop,map_drop];rfl))<|x_ ((pB uO))<|Cp [2] (λ_ h=>sa bF h)<|bG<|Kr<|aC ?_;refine cN (H':=[]) (.inr Z) Z (C8 cW bF) (P_ (r:=av (bM ⟨4,a_ (W.getD 1 []),a6,a6,0,0,a6,a6,(W.drop 2).map a_,j7⟩))) ?_;exact Qq
 have d:¬ (a_ c=a_ J2/\_):=AT D;rw[tR,P]at d;rw[a8 (λh=>d ⟨h.1,X⟩)];refine S<|aT (t:=95) (n:=9) (A_:=θ (a_ c=⟨#[100,114,111,112]⟩)&&θ ((C ((cR s).map S_):Int)=2)) ?_ ?_
 .all_goals refine Y aA<|Y vT<|Dm ?_<;>(refine Sp 98 (λy_=>?_) λy_=>?_)<;>(first|exact s_|refine M<|M<|M ?_|refine U aA<|U (fJ aE)<|U cG ?_)<;>refine Y cE<|Da ?_<;>exact Gj (h:=by(simp_all;done))
 refine Cn ?_ ?_<;>intro L
 .have v:a_ c=a_ J5/\_:=AS L;rw[tR,P]at v;rw[b6 ⟨v.1,X⟩];have G:=J 1 X;refine O aA<|Y (jA aZ)<|Y (fK N_)<|Y (pB uO)<|Uu (jH bF)<|Zz<|aC<|cN (H':=[]) (.inr Z) Z (C8 cW bF) (P_ (r:=av (bM ⟨5,a_ (W.getD 1 []),a6,a6,0,0,a6,a6,[],j7⟩))) ?_;exact Qq
 have v:¬ (a_ c=a_ J5/\_):=AT L;rw[tR,P]at v;rw[a8 (λh=>v ⟨h.1,X⟩)];refine S<|aT (t:=107) (n:=9) (A_:=θ (a_ c=⟨#[115,112,108,105,116]⟩)&&θ ((C ((cR s).map S_):Int)=4)) ?_ ?_
 .all_goals refine Y aA<|Y vT<|Dm ?_<;>(refine Sp 110 (λP=>?_) λP=>?_)<;>(first|exact s_|refine M<|M<|M ?_|refine U aA<|U (fJ aE)<|U cG ?_)<;>refine Y cE<|Da ?_<;>exact Gj (h:=by(simp_all;done))
 refine Cn ?_ ?_<;>intro y
 .have j:a_ c=a_ CV/\_:=AS y;rw[tR,P]at j;rw[b6 ⟨j.1,X⟩];have G:=J 1 X;have m:=J 2 X;have i3:=J 3 X;refine S<|aN a7<|x_ aA<|x_ ((jA aZ))<|x_ ((fK N_))<|x_ aA<|x_ ((jA aZ))<|x_ ((fK N_))<|x_ aA<|x_ ((jA aZ))<|x_ ((fK N_))<|x_ ((pB uO))<|Cp [2] (λ_ h=>sa bF h)<|bG<|Kr<|aC<|cN (H':=[]) (.inr Z) Z (C8 cW bF) (P_ (r:=av (bM ⟨6,a_ (W.getD 1 []),a_ (W.getD 3 []),a_ (W.getD 2 []),0,0,a6,a6,[],j7⟩))) ?_;exact Qq
 have j:¬ (a_ c=a_ CV/\_):=AT y;rw[tR,P]at j;rw[a8 (λh=>j ⟨h.1,X⟩)];refine S<|aT (t:=125) (n:=9) (A_:=θ (a_ c=⟨#[106,111,105,110]⟩)&&θ ((C ((cR s).map S_):Int)=3)) ?_ ?_
 .all_goals refine Y aA<|Y vT<|Dm ?_<;>(refine Sp 128 (λd_=>?_) λd_=>?_)<;>(first|exact s_|refine M<|M<|M ?_|refine U aA<|U (fJ aE)<|U cG ?_)<;>refine Y cE<|Da ?_<;>exact Gj (h:=by(simp_all;done))
 refine Cn ?_ ?_<;>intro f_
 .have u:a_ c=a_ J4/\_:=AS f_;rw[tR,P]at u;rw[b6 ⟨u.1,X⟩];have G:=J 1 X;have m:=J 2 X;refine S<|aN a7<|x_ aA<|x_ ((jA aZ))<|x_ ((fK N_))<|x_ aA<|x_ ((jA aZ))<|x_ ((fK N_))<|x_ ((pB uO))<|Cp [2] (λ_ h=>sa bF h)<|bG<|Kr<|aC<|cN (H':=[]) (.inr Z) Z (C8 cW bF) (P_ (r:=av (bM ⟨7,a_ (W.getD 1 []),a_ (W.getD 2 []),a6,0,0,a6,a6,[],j7⟩))) ?_;exact Qq
 have u:¬ (a_ c=a_ J4/\_):=AT f_;rw[tR,P]at u;rw[a8 (λh=>u ⟨h.1,X⟩)];refine aB<|O (pB uO)<|Uu (jH bF)<|Zz<|aC<|cN (H':=[]) (.inr Z) Z (C8 cW bF) (P_ (r:=av (bM O0))) ?_;exact Qq
def ID(l:List b9):List (List AV):=l.map λe=>(bM e).map AV.pv
theorem YO(l):C (ID l)=C l:=g_ _
theorem YP(l)(e):ID l++[(bM e).map AV.pv]=ID (l++[e]):=by rw[ID,ID,map_append];rfl
theorem yC(H)(l):∀r∈ID l,∀a∈r,Clo H a:=by intro r c a b;obtain ⟨d,_,rfl⟩:=mem_map.1 c;obtain ⟨p,_,rfl⟩:=mem_map.1 b;simp
instance(H)(l):W_ (H) (ID l):=⟨yC H l⟩
theorem bj(H)(s):∀r∈(lB s).rows,∀a∈r,Clo H a:=by intro r c a b;simp[lB,bx,q_]at c;subst c;rw[q_]at b;subst b;simp
instance(H)(s):W_ (H) ((lB s).rows):=⟨bj H s⟩
def pcE(t:B_):dD:=[(0,sv t),(4,.ref 4 0 0 0)]
def lnE(t:B_)(k:Nat):b9:=oF (EZ (AH (jU t k))).data.toList
def PH(t:B_)(k:Nat):List b9:=(List.range k).map (lnE t)
theorem Ce(t)(k):PH t (k+1)=PH t k++[lnE t k]:=by rw[PH,range_succ,map_append];rfl
theorem TL(t)(k):C (PH t k)=k:=by rw[PH,g_,length_range]
theorem TM(t):PH t (C (jK t))=(sB (ν (μ t))).map λs=>oF (Lib.trimSuffix s [10]):=by
 refine ext_getElem? λk=>?_;rw[PH,r7,r7];by_cases h:k<C (jK t)
 .have b:=(Wb h).1;rw[jK,r7]at b;cases e:(sB _)[k]? with
  |none=>rw[e]at b;cases b
  |some w =>
   rw[e]at b;have b:=Option.some.inj b;rw[getElem?_range h,Option.map_some,lnE,<-b,Hf];congr 3
 have c:(sB (ν (μ t)))[k]?=ζ:=by
  rw[jK]at h
  simp_all
 rw[c,getElem?_eq_none F_];rfl
def pcK(t s:B_)(k:Nat):aF:=[(933,lB s),(905,⟨k,15,137,ID (PH t k)⟩),(4,bx 1 46 [.osl 905 k 0 k])]
theorem Wt{a b c}{K:aF}(j):aF.get ((904,b)::(933,a)::K) j=aF.get ((933,a)::(904,b)::(933,c)::K) j:=by
 by_cases e:j=904
 .subst e;rfl
 by_cases d:j=933
 .subst d;rfl
 rw[get_cons_other _ _ e,get_cons_other _ _ d,get_cons_other _ _ d,get_cons_other _ _ e,get_cons_other _ _ d]
theorem nr(s):T (EZ s)<=T s:=by
 rw[EZ]
 split
 all_goals simp_all
theorem TO(s):T (AH s)<=T s:=by
 rw[AH]
 split
 .omega
 rw[<-aU,exL,q9,q6,aU];omega
theorem FN{t}{k}(h:k<=C (jK t)):T (EZ (AH (jU t k)))<=T t:=Nat.le_trans (nr _) (Nat.le_trans (TO _) (BY t k h).2)
theorem XR{w}{n}(h:C w<=n)(B:n<2^62):T (a_ w)<2^62:=by rw[cB];omega
theorem ry{s}(a:T s<2^40):mw (vP s).1:=by
 rw[vP]
 split
 .exact⟨E_,⟨E_,λt h=>by cases h⟩,E_,λs a=>by cases a⟩
 split
 .exact XJ a
 exact⟨E_,⟨E_,λt h=>by cases h⟩,E_,λs a=>by cases a⟩
theorem CS:mw j7:=⟨E_,⟨E_,λt h=>by cases h⟩,E_,λs a=>by cases a⟩
theorem DJ:C ([]:List B_)<2^62/\∀s∈([]:List B_),T s<2^62:=⟨H_,λs a=>by cases a⟩
theorem fB:T a6<2^62:=E_
theorem YE{s:List UInt8}(f:C s<=20000):VY (oF s):=by
 have a:∀i,T (a_ ((dZ 32 s).getD i []))<2^62:=λi=>by
  refine XR (n:=20000) ?_ E_;rw[getD_eq_getElem?_getD];cases e:(dZ 32 s)[i]? with
  |none=>simp_all
  |some w=>exact Nat.le_trans (rS 32 (m7 e)) f
 have c:∀(d x y:Int),VY ⟨d,a6,a6,a6,x,y,a6,a6,[],j7⟩:=λd x y=>⟨⟨fB,fB,fB,fB⟩,DJ,CS⟩;rw[oF,E8]
 split
 .exact⟨⟨fB,fB,fB,fB⟩,DJ,ry (by rw[cB,q6];omega)⟩
 split
 .exact⟨⟨a 1,fB,fB,fB⟩,DJ,CS⟩
 split
 .split
  .exact⟨⟨a 1,fB,fB,a 2⟩,DJ,CS⟩
  exact c _ _ _
 split
 .refine⟨⟨a 1,fB,fB,fB⟩,⟨?_,λx g=>?_⟩,CS⟩
  .have:=count_le_length (l:=s) (a:=32);rw[g_,q6,yF];omega
  obtain ⟨w,b,rfl⟩:=mem_map.1 g;exact XR (n:=20000) (Nat.le_trans (rS 32 (mem_of_mem_drop b)) f) E_
 split
 .exact⟨⟨a 1,fB,fB,fB⟩,DJ,CS⟩
 split
 .exact⟨⟨a 1,a 3,a 2,fB⟩,DJ,CS⟩
 split
 .exact⟨⟨a 1,a 2,fB,fB⟩,DJ,CS⟩
 exact c _ _ _
theorem NM:∀ {t} {n},T t<=n->C (jK t)<=n
 |t,0,h=>by rw[CA (by omega)];simp_all
 | t,n+1,h=>by
  by_cases a:0<T t
  .rw[(DM a).1];refine Nat.succ_le_succ (NM ?_);rw[TF]
   split
   .exact k_ _
   next d =>
   obtain ⟨w,r,B,D,c,E,b,F⟩:=Mk d;rw[c,l_,<-szY,b];omega
  rw[CA a];simp_all
theorem Kl(t:B_)(H:aF)(e_:T t<2^40):RC 101 [sv t] (.tup [.pv (kR (iN t).1),iv (iN t).2]) H:=by
 refine Pu ?_;rw[iN,<-TM];refine Bd func101 Z ntmps101<|O aJ<|V aJ<|S<|O aA<|Y (gG U_)<|V iZ<|Cn ?_ ?_<;>intro g
 .have v:20000<T t:=I_ g
  rw[b6 v];exact O aJ<|V aJ<|aC<|Ru<|Qq
 have v:¬ 20000<T t:=J_ g
 rw[a8 v];refine aB<|Sz (kl 4 aCQ)<|S<|O aA<|V (kc call142 (Wa t _ Z))<|aD ?_;have ⟨n,K⟩:∃n,n=C (jK t):=X_;have W:n<=20000:=by rw[K];exact NM X
 refine gO.ent (E':=[(0,sv t),(4,.ref 4 0 0 0),(12,.clo 198 [.ref 933 0 0 0])]) (H':=[(905,⟨0,15,137,[]⟩),(933,lB t),(4,bx 1 46 [.osl 905 0 0 0])]) ?_ ?_
 .exact (Q_ 905 15 137)
 refine gO.ent (E':=[(0,sv t),(4,.ref 4 0 0 0),(12,.clo 198 [.ref 933 0 0 0])]) (H':=pcK t t 0) L_<|CN (id:=904) (p:=13) (pcE t) Z call198 Z Z (by simp[pcE];exact⟨Z,Z⟩) ?_;intro x D i B o q y;have b:∀k,k<n->dO φ (.yld 904 0) [sv (AH (jU t k))] ((904,LR x (pcE t))::pcK t (jU t (k+1)) k) (λr H'=>r=bv N/\H'=(904,LR x (pcE t))::pcK t (jU t (k+1)) (k+1)):=by
  intro k E;have w:=Ce t k;have G:=TL t k;have R:=FN (t:=t) (k:=k) X;have Q:T (AH (jU t k))<=T t:=Nat.le_trans (TO _) (BY t k X).2;refine .inl ⟨904,0,Z,?_⟩;refine MV [(0,sv t),(4,.ref 4 0 0 0),(5,sv (AH (jU t k)))] (pcK t (jU t (k+1)) k) D i B o q y Z Z Z ?_ ?_
  .refine Rg<|Da ?_;exact(cH.wk (Eb<|Ea<|Eb<|T_) (Hc (oM (by simp[pcE];rfl))<|Hc (bj _ _)<|Hc (yC _ _)<|Ha<|T_) ⟨Z,Z,Z,Z,T_⟩)
  refine aD<|aN a7<|Cs (λ_ h=>lh pK h)<|Cs (λ_ _=>aA)<|Cs (λm c=>by exact bH Z Z call144 Z (nq (AH (jU t k)) _ X))<|Cs (λm c=>by exact bH Z Z call143 Z (Tt (EZ (AH (jU t k))) _ X))<|Cs (λm c=>by exact aM [bM (lnE t k)] Z fa Z Z Z Z Z R_) ?_;refine iR (r:=⟨_,ζ,[_]⟩) (DStep.plain Z (λm c=>by exact bW (ps:=[bM (lnE t k)]) Z fa Zc Z ((c _ Z).trans Z) Z Z Z ((YO _).trans G) Z R_ (m:=1) Z X Z (YP (PH t k) (lnE t k)))) Z ?_;refine iR (r:=⟨_,ζ,[_]⟩) (DStep.plain Z (λm c=>by exact(mH Z sizeOf46 Z Z Z Z ((c _ Z).trans Z) Z Z Z))) Z ?_;refine bG<|Kr ?_;exact⟨[(933,lB (jU t (k+1))),(905,⟨k+1,15,137,ID (PH t k++[lnE t k])⟩),(4,bx 1 46 [.osl 905 (k+1) 0 (k+1)])],(cH.wk T_ (Hc (oM (by simp[pcE];rfl))<|Hc (bj _ _)<|Hc (yC _ _)<|Ha<|T_) ⟨Z,Z,Z,Z,T_⟩),Z,by rw[<-w];rfl⟩
 refine(Lx t (.yld 904 0) (λk=>(904,LR x (pcE t))::pcK t (jU t k) k) e_ (λk=>rfl) (λk E=>?_)).mono ?_
 .exact dO.congrG (b k X) (λj=>Wt j) (λj=>rfl)
 rintro r H' ⟨rfl,rfl⟩;refine⟨x,_,Z,F_,Z,λz=>?_⟩;rw[i];have ⟨L,l⟩:∃L,L=PH t n:=X_;have P:C L=n:=by rw[l];exact TL t n
 rw[<-K,<-l];have u:∀e∈L,VY e:=λe J=>by
  rw[l,PH]at J;obtain ⟨k,E,rfl⟩:=mem_map.1 J;have:=FN (t:=t) (k:=k) (by have:=mem_range.1 E;omega);exact YE v7
 refine S<|S ?_;refine gO.ent (cH.fzG (id:=905) (E':=[(0,sv t),(4,.ref 4 0 0 0)]) (H':=[(4,bx 1 46 [.pv (kR L)])]) (L.map bM) Z (by rw[l];exact KH bM _) ?_ Z ?_ ?_) ?_
 .intro p I;simp only[l9,q8,or_false]at I;rcases I with rfl|rfl<;>exact⟨_,Z,.same (by simp;try rfl)⟩
 .exact⟨⟨_,Z,Z,Z,Z,mO Z (bJ (.osl (by rw[<-P];exact lE bM L)) kG)⟩,T_⟩
 .exact T_
 refine Rd (bU pK)<|Y (kc call145 (ve L _ X u))<|Y aA<|Y dL<|Y dL<|Y aJ<|V aJ<|S<|aT (t:=31) (n:=8) (A_:=!θ ((eH L).2=0)||!θ ((eH L).1=t)) ?_ ?_
 .all_goals refine Y aA<|Y yQ<|Dm ?_<;>(refine Sp 27 (λa=>?_) λa=>?_)<;>(first|exact s_|refine M<|M<|M ?_|refine U aA<|U aA<|U EN ?_)<;>refine V cE ?_<;>exact Gj (h:=by(simp_all;done))
 refine Cn ?_ ?_<;>intro d
 .have s:eH L≠(t,0):=λe=>by have h:=d;rw[e]at h;simp at h
  rw[a8 s];exact O aJ<|V aJ<|aC<|Ru<|Qq
 have F:eH L=(t,0):=by have h:=d;simp only[r6,Bool.not_eq_false',j0]at h;exact Prod.ext h.2 h.1
 rw[b6 F];exact aB<|O (bU pK)<|Y aJ<|V aJ<|aC<|Ru<|Qq
end Go.Proofs.C
namespace Go.Proofs.C
open Go.Proofs.Tryz
open Go.Abs Go.Lib
variable{α:Type}
theorem SX(t):∀e∈(iN t).1,VY e:=by
 intro e a;rw[iN]at a
 split at a
 .cases a
 next B =>
 split at a
 .rw[<-TM]at a;obtain ⟨k,b,rfl⟩:=mem_map.1 a;have:=FN (t:=t) (k:=k) (by have:=mem_range.1 b;omega);exact YE v7
 cases a
theorem ON(t):C (iN t).1<=20000:=by
 rw[iN]
 split
 .simp_all
 next B =>
 split
 .rw[<-TM,TL];exact NM X
 simp_all
def M6{α:Type}(f:List UInt8->Option (α×List UInt8))(d:α)(l:List UInt8):α×List UInt8:=(f l).getD (d,l)
def p0(t:List UInt8):=M6 pJ a6 t
def p1(t:List UInt8):=M6 yA 0 (p0 t).2
def p2(t:List UInt8):=M6 yA 0 (p1 t).2
def p3(t:List UInt8):=M6 yA 0 (p2 t).2
def p4(t:List UInt8):=M6 yA 0 (p3 t).2
def p5(t:List UInt8):=M6 pJ a6 (p4 t).2
def p6(t:List UInt8):=M6 (DO pJ) [] (p5 t).2
def p7(t:List UInt8):=M6 pJ a6 (p6 t).2
def p8(t:List UInt8):=M6 pJ a6 (p7 t).2
def p9(t:List UInt8):=M6 pJ a6 (p8 t).2
def mv(t:List UInt8):=M6 yA 0 (p9 t).2
def mu(t:List UInt8):=M6 pJ a6 (mv t).2
def gz(t:List UInt8):=M6 Al zS (mu t).2
def mr(t:List UInt8):=M6 pJ a6 (gz t).2
def mq(t:List UInt8):=M6 pJ a6 (mr t).2
def mo(t:List UInt8):=M6 (DO pJ) [] (mq t).2
def mn(t:List UInt8):=M6 (DO SS) [] (mo t).2
def Qy(t:List UInt8):=M6 Al zS (mn t).2
def B8:B_:=⟨#[49]⟩
def KJ(t:List UInt8):j_:=⟨(p1 t).1,(p2 t).1,(p3 t).1,(p4 t).1,(p5 t).1,(p6 t).1,(iN (p7 t).1).1,(p8 t).1,θ ((p9 t).1=B8),(mv t).1,(mu t).1,(gz t).1,⟨(mr t).1,(mq t).1,(mo t).1,(mn t).1,(Qy t).1⟩⟩
def ao(t:List UInt8):List Bool:=[(pJ t).isSome,(yA (p0 t).2).isSome,(yA (p1 t).2).isSome,(yA (p2 t).2).isSome,(yA (p3 t).2).isSome,(pJ (p4 t).2).isSome,((DO pJ) (p5 t).2).isSome,(pJ (p6 t).2).isSome,(pJ (p7 t).2).isSome,(pJ (p8 t).2).isSome,(yA (p9 t).2).isSome,(pJ (mv t).2).isSome,(Al (mu t).2).isSome,(pJ (gz t).2).isSome,(pJ (mr t).2).isSome,((DO pJ) (mq t).2).isSome,((DO SS) (mo t).2).isSome,(Al (mn t).2).isSome]
def xK(t:List UInt8):Bool:=(ao t).all id
def dP(t:List UInt8):j_×Int:=if 20000<C t then(zR,2)else if xK t=N/\mW (KJ t)=(a_ t,0)then(KJ t,0)else(zR,5)
theorem lQ{f}{d}{l}{e:α->AV}:((f l).map λp=>(e p.1,p.2)).getD (e d,l)=(e (M6 f d l).1,(M6 f d l).2):=by rw[M6];cases f l<;>rfl
theorem oW{f}{d:α}{l}(h:∀p q,f l=A (p,q)->C q<C l):C (M6 f d l).2<=C l:=by
 rw[M6];cases e:f l with
 |none=>simp_all
 |some p=>grind
theorem ZK{l q}{s}(h:Al l=A (s,q)):C q<C l/\qS s.idx/\(C s.sig<=C l/\∀x∈s.sig,T x<=C l)/\(C s.path<=C l/\∀x∈s.path,T x<=C l):=by
 rw[Al]at h;cases e:yA l with
 |none=>simp_all
 | some p =>
  have ⟨i,r⟩:=p;have g:=kS e;rw[e]at h;simp at h;cases d:DO _ r with
  |none=>rw[d]at h;cases h
  | some p =>
   have ⟨a,r2⟩:=p;have j:=AI d;rw[d]at h;simp at h;cases c:DO _ _ with
   |none=>rw[c]at h;cases h
   |some p =>
    have f:=AI c;rw[c]at h;cases h;exact⟨X,g.2,⟨G_,λx b=>by have:=j.2 x b;omega⟩,G_,λx b=>by have:=f.2 x b;omega⟩
theorem xB{f}{d}{l}(Q:α->Prop)(B:Q d)(h:∀p q,f l=A (p,q)->Q p):Q (M6 f d l).1:=by
 rw[M6];cases e:f l with
 |none=>exact B
 |some p=>grind
theorem Kw(t):C (p0 t).2<=C t:=oW (λp q h=>by have:=lT h;omega)
theorem Kv(t):C (p1 t).2<=C t:=Nat.le_trans (oW (λp q h=>(kS h).1)) (Kw t)
theorem Ku(t):C (p2 t).2<=C t:=Nat.le_trans (oW (λp q h=>(kS h).1)) (Kv t)
theorem Kt(t):C (p3 t).2<=C t:=Nat.le_trans (oW (λp q h=>(kS h).1)) (Ku t)
theorem px(t):C (p4 t).2<=C t:=Nat.le_trans (oW (λp q h=>(kS h).1)) (Kt t)
theorem pw(t):C (p5 t).2<=C t:=Nat.le_trans (oW (λp q h=>by have:=lT h;omega)) (px t)
theorem pt(t):C (p6 t).2<=C t:=Nat.le_trans (oW (λp q h=>by have:=(AI h).1;omega)) (pw t)
theorem pr(t):C (p7 t).2<=C t:=Nat.le_trans (oW (λp q h=>by have:=lT h;omega)) (pt t)
theorem Ks(t):C (p8 t).2<=C t:=Nat.le_trans (oW (λp q h=>by have:=lT h;omega)) (pr t)
theorem Kq(t):C (p9 t).2<=C t:=Nat.le_trans (oW (λp q h=>by have:=lT h;omega)) (Ks t)
theorem ag(t):C (mv t).2<=C t:=Nat.le_trans (oW (λp q h=>(kS h).1)) (Kq t)
theorem ae(t):C (mu t).2<=C t:=Nat.le_trans (oW (λp q h=>by have:=lT h;omega)) (ag t)
theorem ab(t):C (gz t).2<=C t:=Nat.le_trans (oW (λp q h=>(ZK h).1)) (ae t)
theorem aa(t):C (mr t).2<=C t:=Nat.le_trans (oW (λp q h=>by have:=lT h;omega)) (ab t)
theorem Z9(t):C (mq t).2<=C t:=Nat.le_trans (oW (λp q h=>by have:=lT h;omega)) (aa t)
theorem Z8(t):C (mo t).2<=C t:=Nat.le_trans (oW (λp q h=>by have:=(AI h).1;omega)) (Z9 t)
theorem Z7(t):C (mn t).2<=C t:=Nat.le_trans (oW (λp q h=>by have:=(xa h).1;omega)) (Z8 t)
theorem Ul(t):C (Qy t).2<=C t:=Nat.le_trans (oW (λp q h=>(ZK h).1)) (Z7 t)
theorem Ib{l q}{s}{n}(h:Al l=A (s,q))(F:C l<=n):qS s.idx/\(C s.sig<=n/\∀x∈s.sig,T x<=n)/\(C s.path<=n/\∀x∈s.path,T x<=n):=by
 have ⟨_,B,D,E⟩:=ZK h
 grind
theorem aC0(t:List UInt8):qS zS.idx/\(C zS.sig<=C t/\∀x∈zS.sig,T x<=C t)/\(C zS.path<=C t/\∀x∈zS.path,T x<=C t):=by simp[zS,qS]
theorem aDQ(t):(qS) (p1 t).1:=xB _ (⟨H_,H_⟩) (λp q h=>(kS h).2)
theorem aDO(t):(qS) (p2 t).1:=xB _ (⟨H_,H_⟩) (λp q h=>(kS h).2)
theorem aDM(t):(qS) (p3 t).1:=xB _ (⟨H_,H_⟩) (λp q h=>(kS h).2)
theorem aDK(t):(qS) (p4 t).1:=xB _ (⟨H_,H_⟩) (λp q h=>(kS h).2)
theorem aDI(t):(λs=>T s<=C t) (p5 t).1:=by exact xB (f:=pJ) (λs=>T s<=C t) ((k_ _)) (λp q h=>by have:=lT h;have:=px t;omega)
theorem aDG(t):(λl=>C l<=C t/\∀x∈l,T x<=C t) (p6 t).1:=by exact xB (f:=(DO pJ)) (λl=>C l<=C t/\∀x∈l,T x<=C t) (⟨k_ _,H_⟩) (λp q h=>by have a:=AI h;have B:=pw t;exact⟨X,λx b=>by have:=a.2 x b;omega⟩)
theorem aDE(t):(λs=>T s<=C t) (p7 t).1:=by exact xB (f:=pJ) (λs=>T s<=C t) ((k_ _)) (λp q h=>by have:=lT h;have:=pt t;omega)
theorem aDC(t):(λs=>T s<=C t) (p8 t).1:=by exact xB (f:=pJ) (λs=>T s<=C t) ((k_ _)) (λp q h=>by have:=lT h;have:=pr t;omega)
theorem aAu(t):(qS) (mv t).1:=xB _ (⟨H_,H_⟩) (λp q h=>(kS h).2)
theorem aAs(t):(λs=>T s<=C t) (mu t).1:=by exact xB (f:=pJ) (λs=>T s<=C t) ((k_ _)) (λp q h=>by have:=lT h;have:=ag t;omega)
theorem aAq(t):(λs=>qS s.idx/\(C s.sig<=C t/\∀x∈s.sig,T x<=C t)/\(C s.path<=C t/\∀x∈s.path,T x<=C t)) (gz t).1:=by unfold gz;exact xB (λs:q7=>qS _/\(C s.sig<=C t/\∀x∈s.sig,T x<=C t)/\(C s.path<=C t/\∀x∈s.path,T x<=C t)) (aC0 t) (λp q h=>Ib h (ae t))
theorem aAo(t):(λs=>T s<=C t) (mr t).1:=by exact xB (f:=pJ) (λs=>T s<=C t) ((k_ _)) (λp q h=>by have:=lT h;have:=ab t;omega)
theorem aAm(t):(λs=>T s<=C t) (mq t).1:=by exact xB (f:=pJ) (λs=>T s<=C t) ((k_ _)) (λp q h=>by have:=lT h;have:=aa t;omega)
theorem aAk(t):(λl=>C l<=C t/\∀x∈l,T x<=C t) (mo t).1:=by exact xB (f:=(DO pJ)) (λl=>C l<=C t/\∀x∈l,T x<=C t) (⟨k_ _,H_⟩) (λp q h=>by have a:=AI h;have B:=Z9 t;exact⟨X,λx b=>by have:=a.2 x b;omega⟩)
theorem aAi(t):(λl=>C l<=C t/\∀q∈l,qS q.1/\qS q.2) (mn t).1:=by exact xB (f:=(DO SS)) (λl=>C l<=C t/\∀q∈l,qS q.1/\qS q.2) (⟨k_ _,H_⟩) (λp q h=>by have a:=xa h;have B:=Z8 t;exact⟨X,a.2⟩)
theorem aAg(t):(λs=>qS s.idx/\(C s.sig<=C t/\∀x∈s.sig,T x<=C t)/\(C s.path<=C t/\∀x∈s.path,T x<=C t)) (Qy t).1:=by unfold Qy;exact xB (λs:q7=>qS _/\(C s.sig<=C t/\∀x∈s.sig,T x<=C t)/\(C s.path<=C t/\∀x∈s.path,T x<=C t)) (aC0 t) (λp q h=>Ib h (Z7 t))
theorem Je{m4:Nat}(hN:m4<=20000){k a n c t:Int}{u s v nm w:B_}{pa m:List B_}{i:List b9}{y:Bool}{sl ps:q7}{f}(B:qS k)(I:qS a)(D:qS n)(H:qS c)(o:qS t)(h5:T u<=m4)(h8:T s<=m4)(L:T v<=m4)(P:T nm<=m4)(Q:T w<=m4)
  (r:C pa<=m4/\∀x∈pa,T x<=m4) (p:C m<=m4/\∀x∈m,T x<=m4) (R:C f<=m4/\∀q∈f,qS q.1/\qS q.2) (he:C i<=20000) (j:∀e∈i,VY e)
  (d:qS sl.idx/\(C sl.sig<=m4/\∀x∈sl.sig,T x<=m4)/\(C sl.path<=m4/\∀x∈sl.path,T x<=m4)) (g:qS ps.idx/\(C ps.sig<=m4/\∀x∈ps.sig,T x<=m4)/\(C ps.path<=m4/\∀x∈ps.path,T x<=m4)) :
  mX ⟨k,a,n,c,u,pa,i,s,y,t,v,sl,⟨nm,w,m,f,ps⟩⟩/\C pa<549755813888:=by
 have b:∀ {l:List B_},(C l<=m4/\∀x∈l,T x<=m4)->ie l:=λh=>⟨X,λx G=>by have:=h.2 x G;omega⟩;have ⟨z,K,E⟩:=d;have ⟨J,W,F⟩:=g;exact⟨⟨⟨B,I,D,H,o⟩,⟨G_,G_,G_⟩,b r,⟨G_,j⟩,⟨z,b K,b E⟩,G_,G_,b p,G_,J,b W,b F⟩,by have:=r.1;omega⟩
theorem fp{t}(a:C t<=20000):mX (KJ t)/\C (KJ t).parents<549755813888 :=Je a (aDQ t) (aDO t) (aDM t) (aDK t) (aAu t) (aDI t) (aDC t) (aAs t) (aAo t) (aAm t) (aDG t) (aAk t) (aAi t) (ON _) (SX _) (aAq t) (aAg t)
theorem fA{β:Type}{o:Option _}{g:α->β}:(o.map g=ζ↔o.isSome=η)/\((o.map g).isSome=o.isSome):=H_
theorem oX{t}{b}(h:b∈ao t)(B:b=η):xK t=η:=by
 rw[xK]
 simp_all
theorem aEy(t):(LC t).getD (sv a6,t)=(sv (p0 t).1,(p0 t).2):=by exact lQ
theorem aD0(t)(h:LC t=ζ):xK t=η:=oX (mem_of_getElem? (i:=0) Z) (fA.1.1 h)
theorem aEx(t):(FI (p0 t).2).getD (iv 0,(p0 t).2)=(iv (p1 t).1,(p1 t).2):=by exact lQ
theorem aDR(t)(h:FI (p0 t).2=ζ):xK t=η:=oX (mem_of_getElem? (i:=1) Z) (fA.1.1 h)
theorem aEw(t):(FI (p1 t).2).getD (iv 0,(p1 t).2)=(iv (p2 t).1,(p2 t).2):=by exact lQ
theorem aDP(t)(h:FI (p1 t).2=ζ):xK t=η:=oX (mem_of_getElem? (i:=2) Z) (fA.1.1 h)
theorem aEv(t):(FI (p2 t).2).getD (iv 0,(p2 t).2)=(iv (p3 t).1,(p3 t).2):=by exact lQ
theorem aDN(t)(h:FI (p2 t).2=ζ):xK t=η:=oX (mem_of_getElem? (i:=3) Z) (fA.1.1 h)
theorem aEu(t):(FI (p3 t).2).getD (iv 0,(p3 t).2)=(iv (p4 t).1,(p4 t).2):=by exact lQ
theorem aDL(t)(h:FI (p3 t).2=ζ):xK t=η:=oX (mem_of_getElem? (i:=4) Z) (fA.1.1 h)
theorem aEt(t):(LC (p4 t).2).getD (sv a6,(p4 t).2)=(sv (p5 t).1,(p5 t).2):=by exact lQ
theorem aDJ(t)(h:LC (p4 t).2=ζ):xK t=η:=oX (mem_of_getElem? (i:=5) Z) (fA.1.1 h)
theorem aEs(t):(Ch (p5 t).2).getD (.pv (aL []),(p5 t).2)=(.pv (aL (p6 t).1),(p6 t).2):=by exact lQ (e:=λv=>.pv _)
theorem aDH(t)(h:Ch (p5 t).2=ζ):xK t=η:=oX (mem_of_getElem? (i:=6) Z) (fA.1.1 h)
theorem aEr(t):(LC (p6 t).2).getD (sv a6,(p6 t).2)=(sv (p7 t).1,(p7 t).2):=by exact lQ
theorem aDF(t)(h:LC (p6 t).2=ζ):xK t=η:=oX (mem_of_getElem? (i:=7) Z) (fA.1.1 h)
theorem aEq(t):(LC (p7 t).2).getD (sv a6,(p7 t).2)=(sv (p8 t).1,(p8 t).2):=by exact lQ
theorem aDD(t)(h:LC (p7 t).2=ζ):xK t=η:=oX (mem_of_getElem? (i:=8) Z) (fA.1.1 h)
theorem aEp(t):(LC (p8 t).2).getD (sv a6,(p8 t).2)=(sv (p9 t).1,(p9 t).2):=by exact lQ
theorem aDB(t)(h:LC (p8 t).2=ζ):xK t=η:=oX (mem_of_getElem? (i:=9) Z) (fA.1.1 h)
theorem aDZ(t):(FI (p9 t).2).getD (iv 0,(p9 t).2)=(iv (mv t).1,(mv t).2):=by exact lQ
theorem aAv(t)(h:FI (p9 t).2=ζ):xK t=η:=oX (mem_of_getElem? (i:=10) Z) (fA.1.1 h)
theorem aDY(t):(LC (mv t).2).getD (sv a6,(mv t).2)=(sv (mu t).1,(mu t).2):=by exact lQ
theorem aAt(t)(h:LC (mv t).2=ζ):xK t=η:=oX (mem_of_getElem? (i:=11) Z) (fA.1.1 h)
theorem aDX(t):(Sy (mu t).2).getD (av (lV zS),(mu t).2)=(av (lV (gz t).1),(gz t).2):=by exact lQ (e:=λv=>av _)
theorem aAr(t)(h:Sy (mu t).2=ζ):xK t=η:=oX (mem_of_getElem? (i:=12) Z) (fA.1.1 h)
theorem aDW(t):(LC (gz t).2).getD (sv a6,(gz t).2)=(sv (mr t).1,(mr t).2):=by exact lQ
theorem aAp(t)(h:LC (gz t).2=ζ):xK t=η:=oX (mem_of_getElem? (i:=13) Z) (fA.1.1 h)
theorem aDV(t):(LC (mr t).2).getD (sv a6,(mr t).2)=(sv (mq t).1,(mq t).2):=by exact lQ
theorem aAn(t)(h:LC (mr t).2=ζ):xK t=η:=oX (mem_of_getElem? (i:=14) Z) (fA.1.1 h)
theorem aDU(t):(Ch (mq t).2).getD (.pv (aL []),(mq t).2)=(.pv (aL (mo t).1),(mo t).2):=by exact lQ (e:=λv=>.pv _)
theorem aAl(t)(h:Ch (mq t).2=ζ):xK t=η:=oX (mem_of_getElem? (i:=15) Z) (fA.1.1 h)
theorem aDT(t):(ja (mo t).2).getD (.pv (yG []),(mo t).2)=(.pv (yG (mn t).1),(mn t).2):=by exact lQ (e:=λv=>.pv _)
theorem aAj(t)(h:ja (mo t).2=ζ):xK t=η:=oX (mem_of_getElem? (i:=16) Z) (fA.1.1 h)
theorem aDS(t):(Sy (mn t).2).getD (av (lV zS),(mn t).2)=(av (lV (Qy t).1),(Qy t).2):=by exact lQ (e:=λv=>av _)
theorem aAh(t)(h:Sy (mn t).2=ζ):xK t=η:=oX (mem_of_getElem? (i:=17) Z) (fA.1.1 h)
theorem Vb(t)(r:(LC t).isSome=N)(o:(FI (p0 t).2).isSome=N)(s:(FI (p1 t).2).isSome=N)(p:(FI (p2 t).2).isSome=N)(l:(FI (p3 t).2).isSome=N)(q:(LC (p4 t).2).isSome=N)(j:(Ch (p5 t).2).isSome=N)(n:(LC (p6 t).2).isSome=N)(m:(LC (p7 t).2).isSome=N)(k:(LC (p8 t).2).isSome=N)(g:(FI (p9 t).2).isSome=N)(c:(LC (mv t).2).isSome=N)(h:(Sy (mu t).2).isSome=N)(f:(LC (gz t).2).isSome=N)(b:(LC (mr t).2).isSome=N)(i:(Ch (mq t).2).isSome=N)(d:(ja (mo t).2).isSome=N)(e:(Sy (mn t).2).isSome=N):xK t=N:=by unfold xK ao;simp[all_cons,List.all_nil,id,Bool.and_true,l6];exact⟨fA.2▸r,fA.2▸o,fA.2▸s,fA.2▸p,fA.2▸l,fA.2▸q,fA.2▸j,fA.2▸n,fA.2▸m,fA.2▸k,fA.2▸g,fA.2▸c,fA.2▸h,fA.2▸f,fA.2▸b,fA.2▸i,fA.2▸d,fA.2▸e⟩
end Go.Proofs.C
namespace Go.Proofs.C
open Go.Proofs.Tryz
open Go.Abs
theorem df.mono{P}{F}{args}{H}{u}{K b}(h:df P F args H u K)(f:∀H,K H->b H):df P F args H u b :=λI ι w vs d j g=>(h I _ w _ d j g).mono λ_ _ _ ⟨v,c,i,a,e,s,q,r⟩=>⟨v,c,i,a,e,s,f _ q,r⟩
def PQ(t:List UInt8)(r:AV)(H:aF):Prop:=r=.tup [av (eD (dP t).1),iv (dP t).2]/\H=[]
abbrev dE:dD:=[(2,.ref 2 0 0 0),(3,.ref 3 0 0 0)]
theorem kz(x)(e){t}(D:dP t=(x,e)):∃r,(∀(a) (w) (I) (ι),Rel I ι (pq x e) w->lX w I ι (pq x e) dE a->∃v,(results f54 a.tmps).run φ w=.ok v w/\VRel w I ι (pq x e) v r)/\∃r' B,Fin [] (pq x e) r B r'/\PQ t r' B :=⟨.tup [av (eD x),iv e],aEl Z (C8 cQ bL) (iU Z nP Z Z Z Z),_,[],Fin.wk H_ T_ T_,by rw[PQ];simp_all⟩
theorem sK{t}{i}{e}{H2}(m:¬ 20000<C t)(B:xK t=η)(r:i=JA)(j:e.get 2=A (.ref 2 0 0 0))(q:e.get 3=A (.ref 3 0 0 0))(p:∃o,H2.get 2=A o/\nF o rAJ)(l:∃o,H2.get 3=A o/\nF o eAJ):
  ze φ f54 [] (pq zR 0) 97 dcJ (PQ t) (.panic i) e H2:=by
 subst r;have w:dP t=(zR,5):=by rw[dP,a8 m,a8 F_]
 refine⟨.panicking JA,dE,pAJ,.inr ⟨JA,Z,Z⟩,cH.toAny (λu v s=>?_) (λid D c=>?_) (λid n=>?_),df.mono aAe λH k=>by subst k;exact kz zR 5 w⟩
 .have a:=iV s;simp only[l9,q8,or_false,Prod.mk.injEq]at a;rcases a with⟨rfl,rfl⟩|⟨rfl,rfl⟩
  .exact⟨j,by simp;rfl⟩
  exact⟨q,by simp;rfl⟩
 .have a:=eI c;simp[l9,q8,or_false,Prod.mk.injEq]at a;rcases a with⟨rfl,rfl⟩|⟨rfl,rfl⟩
  .have ⟨o,d,f⟩:=l;exact⟨o,d,f,H_⟩
  have ⟨o,d,f⟩:=p;exact⟨o,d,f,H_⟩
 by_cases h:3=id
 .subst h;rfl
 by_cases g:2=id
 .subst g;rfl
 simp[aF.get,kH h,kH g]at n
theorem XI{t}{x}{e}{b}{H2}(f:dP t=(x,e))(c:cH (pq zR 0) b H2 dE (pq x e)):ze φ f54 [] (pq zR 0) 97 dcJ (PQ t) .ret b H2 :=⟨.returning,dE,pq x e,.inl ⟨.inr Z,Z⟩,c,df.mono (aAd x e) λH d=>by subst d;exact kz x e f⟩
theorem P3{x}{o}(h:nF (Fk x) o):nF o rAJ:=⟨h.1.symm,h.2.1.symm,h.2.2.1.symm,h.2.2.2.symm⟩
theorem GN{e}{o}(h:nF (Fm e) o):nF o eAJ:=⟨h.1.symm,h.2.1.symm,h.2.2.1.symm,h.2.2.2.symm⟩
theorem ZM(x):nF (Fk x) rAJ:=⟨Z,Z,Z,Z⟩
theorem ZL(e):nF (Fm e) eAJ:=⟨Z,Z,Z,Z⟩
theorem gp(t:List UInt8)(b:C t<2^40)(H:aF):RC 54 [sv (a_ t)] (.tup [av (eD (dP t).1),iv (dP t).2]) H:=by
 refine aW.pure (show aW φ 54 [sv (a_ t)] [] (PQ t)from ?_) H_ H;have hls:T (a_ t)=C t:=cB t;refine aW.bodyD func54 Z ntmps54 (r_ Z)<|yi<|Rd (kl 2 dt)<|V (kl 3 Zu)<|yi<|O aA<|Y (gG U_)<|V iZ<|Cn ?_ ?_<;>intro x
 .have d:20000<C t:=I_ x
  have hg:dP t=(zR,2):=by rw[dP,b6 d]
  refine O (pB UP)<|Uu (jH bL)<|Uu (jH sizeOf25)<|Zz<|aC<|fO (H':=[]) (.inr Z) Z (fG Z cQ bL Z Z Z u0 Z) (iU Z nP Z Z Z Z) P_ ?_;rw[PQ,hg];exact Qq
 have d:¬ 20000<C t:=J_ x
 refine aB<|Df (F:=97) (cs:=dcJ) Z Z Z Z Z Z Z Z Z call97<|gO.mono (Q:=ze φ f54 [] (pq zR 0) 97 dcJ (PQ t)) ?_ (λ_ _ _ h=>h);have t0:=aEy t;have n0:=aD0 t;have c0:=Kw t;have t1:=aEx t;have n1:=aDR t;have c1:=Kv t;have t2:=aEw t;have n2:=aDP t;have c2:=Ku t;have t3:=aEv t;have n3:=aDN t;have c3:=Kt t;have t4:=aEu t;have n4:=aDL t;have c4:=px t;have t5:=aEt t;have n5:=aDJ t;have c5:=pw t;have t6:=aEs t;have n6:=aDH t;have c6:=pt t;have t7:=aEr t;have n7:=aDF t;have c7:=pr t;have t8:=aEq t;have n8:=aDD t;have c8:=Ks t;have t9:=aEp t;have n9:=aDB t;have c9:=Kq t;have t10:=aDZ t;have n10:=aAv t;have c10:=ag t;have t11:=aDY t;have n11:=aAt t;have c11:=ae t;have t12:=aDX t;have n12:=aAr t;have c12:=ab t;have t13:=aDW t;have n13:=aAp t;have c13:=aa t;have t14:=aDV t;have n14:=aAn t;have c14:=Z9 t;have t15:=aDU t;have n15:=aAl t;have c15:=Z8 t;have t16:=aDT t;have n16:=aAj t;have c16:=Z7 t;have t17:=aDS t;have n17:=aAh t;have c17:=Ul t;have yes:=Vb t;have o:=fp (t:=t) X;have y:KJ t=⟨(p1 t).1,(p2 t).1,(p3 t).1,(p4 t).1,(p5 t).1,(p6 t).1,(iN (p7 t).1).1,(p8 t).1,θ ((p9 t).1=B8),(mv t).1,(mu t).1,(gz t).1,⟨(mr t).1,(mq t).1,(mo t).1,(mn t).1,(Qy t).1⟩⟩:=rfl;have s7:T (p7 t).1<=C t:=aDE t;have u:dP t=if xK t=N/\mW (KJ t)=(a_ t,0)then(KJ t,0)else(zR,5):=by rw[dP,a8 d]
 rw[y]at o u;have ⟨V0,hV0⟩:∃v,v=(p0 t).1:=X_;have ⟨L0,hL0⟩:∃v,v=(p0 t).2:=X_;have ⟨F,hV1⟩:∃v,v=(p1 t).1:=X_;have ⟨L1,hL1⟩:∃v,v=(p1 t).2:=X_;have ⟨E,hV2⟩:∃v,v=(p2 t).1:=X_;have ⟨L2,hL2⟩:∃v,v=(p2 t).2:=X_;have ⟨I,hV3⟩:∃v,v=(p3 t).1:=X_;have ⟨L3,hL3⟩:∃v,v=(p3 t).2:=X_;have ⟨G,hV4⟩:∃v,v=(p4 t).1:=X_;have ⟨L4,hL4⟩:∃v,v=(p4 t).2:=X_;have ⟨m4,hV5⟩:∃v,v=(p5 t).1:=X_;have ⟨L5,hL5⟩:∃v,v=(p5 t).2:=X_;have ⟨f,hV6⟩:∃v,v=(p6 t).1:=X_;have ⟨L6,hL6⟩:∃v,v=(p6 t).2:=X_;have ⟨V7,hV7⟩:∃v,v=(p7 t).1:=X_;have ⟨L7,hL7⟩:∃v,v=(p7 t).2:=X_;have ⟨V8,hV8⟩:∃v,v=(p8 t).1:=X_;have ⟨L8,hL8⟩:∃v,v=(p8 t).2:=X_;have ⟨V9,hV9⟩:∃v,v=(p9 t).1:=X_;have ⟨L9,hL9⟩:∃v,v=(p9 t).2:=X_;have ⟨n,P⟩:∃v,v=(mv t).1:=X_;have ⟨κ,g⟩:∃v,v=(mv t).2:=X_;have ⟨c,l⟩:∃v,v=(mu t).1:=X_;have ⟨τ,Q⟩:∃v,v=(mu t).2:=X_;have ⟨p,J0⟩:∃v,v=(gz t).1:=X_;have ⟨δ,i⟩:∃v,v=(gz t).2:=X_;have ⟨B,R⟩:∃v,v=(mr t).1:=X_;have ⟨γ,A_⟩:∃v,v=(mr t).2:=X_;have ⟨w,W⟩:∃v,v=(mq t).1:=X_;have ⟨β,j⟩:∃v,v=(mq t).2:=X_;have ⟨z,y_⟩:∃v,v=(mo t).1:=X_;have ⟨L15,o_⟩:∃v,v=(mo t).2:=X_;have ⟨s,f_⟩:∃v,v=(mn t).1:=X_;have ⟨σ,k⟩:∃v,v=(mn t).2:=X_;have ⟨c_,z_⟩:∃v,v=(Qy t).1:=X_;have ⟨L17,v_⟩:∃v,v=(Qy t).2:=X_;simp only[<-hV0,<-hL0,<-hV1,<-hL1,<-hV2,<-hL2,<-hV3,<-hL3,<-hV4,<-hL4,<-hV5,<-hL5,<-hV6,<-hL6,<-hV7,<-hL7,<-hV8,<-hL8,<-hV9,<-hL9,<-P,<-g,<-l,<-Q,<-J0,<-i,<-R,<-A_,<-W,<-j,<-y_,<-o_,<-f_,<-k,<-z_,<-v_]at t0 n0 c0 t1 n1 c1 t2 n2 c2 t3 n3 c3 t4 n4 c4 t5 n5 c5 t6 n6 c6 t7 n7 c7 t8 n8 c8 t9 n9 c9 t10 n10 c10 t11 n11 c11 t12 n12 c12 t13 n13 c13 t14 n14 c14 t15 n15 c15 t16 n16 c16 t17 n17 c17 yes o u s7;clear y hV0 hL0 hV1 hL1 hV2 hL2 hV3 hL3 hV4 hL4 hV5 hL5 hV6 hL6 hV7 hL7 hV8 hL8 hV9 hL9 P g l Q J0 i R A_ W j y_ o_ f_ k z_ v_;have ρ:=λH=>Kl V7 H X;have ⟨PE,hPE⟩:∃v,v=iN V7:=X_;rw[<-hPE]at ρ o u;clear hPE;have ⟨m,EE⟩:=PE;simp only at ρ o u;have htx:=λH=>ZE ⟨F,E,I,G,m4,f,m,V8,θ (V9=B8),n,c,p,⟨B,w,z,s,c_⟩⟩ o.1 o.2 H;have ⟨TX,hTX⟩:∃v,v=mW ⟨F,E,I,G,m4,f,m,V8,θ (V9=B8),n,c,p,⟨B,w,z,s,c_⟩⟩:=X_;rw[<-hTX]at htx u;clear hTX o;refine O aA<|Y (pB aEB)<|Y (kb 980)<|Y (kl 4 aCZ)<|Uu (jH sizeOf125)<|Zz<|S ?_;refine gO.ent (E':=[(0,sv (a_ t)),(2,.ref 2 0 0 0),(3,.ref 3 0 0 0),(4,.ref 4 0 0 0)]) (H':=[(980,ml t),(4,inO),(3,Fm 0),(2,Fk zR)]) L_<|iA<|jC Z Z Z (aY Z eF Z Z Z Z Z) ?_
 refine cu Z Z Z (eV Z Z nW Z (((A0 t X).tot t0 Z (gM _)).mono (PP':=λch H'=>xK t=η/\ch=JA/\∃q,H'=nT q++_) (λ_ _ h=>h) (λch H' ⟨e,J,e3⟩=>⟨n0 e,J,e3⟩))) (λch H' h=>by obtain ⟨e,J,q,rfl⟩:=h;exact sK d e J Z Z ⟨_,Z,ZM _⟩ ⟨_,Z,ZL _⟩) (λh16=>?_);refine QZ<|S ?_;refine gO.ent (E':=[(0,sv (a_ t)),(2,.ref 2 0 0 0),(3,.ref 3 0 0 0),(4,.ref 4 0 0 0)]) (H':=[(980,ml L0),(4,inO),(3,Fm 0),(2,Fk zR)]) L_<|zK (λch H1 D=>xK t=η/\ch=JA/\∃q,D=nT q++H1) [2,3] [2,3] [] Z a7 (λch E1 H1 D b hsh hks ⟨e,J,q,e3⟩=>by subst e3;have ⟨o2,k1,k2⟩:=hsh 2 H_ _ Z;have ⟨o3,k3,k4⟩:=hsh 3 H_ _ Z;exact sK d e J ((b 2 H_).trans Z) ((b 3 H_).trans Z) ⟨o2,k1,P3 k2⟩ ⟨o3,k3,GN k4⟩) ?_;refine Pr [4] (λ_ h=>lh eF h)<|wH (r:=⟨_,A [980],nT L1⟩) (.pan Z (λH1 a=>by exact eV Z Z jS Z (((oU L0 X).tot t1 ((a 980 Z).trans Z) (gM _)).mono (PP':=λch H'=>xK t=η/\ch=JA/\∃q,H'=nT q++_) (λ_ _ h=>h) (λch H' ⟨e,J,e3⟩=>⟨n1 e,J,e3⟩)))) Z ?_;refine Pr [4] (λ_ h=>lh eF h)<|wH (r:=⟨_,A [980],nT L2⟩) (.pan Z (λH1 a=>by exact eV Z Z jS Z (((oU L1 X).tot t2 ((a 980 Z).trans Z) (gM _)).mono (PP':=λch H'=>xK t=η/\ch=JA/\∃q,H'=nT q++_) (λ_ _ h=>h) (λch H' ⟨e,J,e3⟩=>⟨n2 e,J,e3⟩)))) Z ?_;refine Pr [4] (λ_ h=>lh eF h)<|wH (r:=⟨_,A [980],nT L3⟩) (.pan Z (λH1 a=>by exact eV Z Z jS Z (((oU L2 X).tot t3 ((a 980 Z).trans Z) (gM _)).mono (PP':=λch H'=>xK t=η/\ch=JA/\∃q,H'=nT q++_) (λ_ _ h=>h) (λch H' ⟨e,J,e3⟩=>⟨n3 e,J,e3⟩)))) Z ?_;refine Pr [4] (λ_ h=>lh eF h)<|wH (r:=⟨_,A [980],nT L4⟩) (.pan Z (λH1 a=>by exact eV Z Z jS Z (((oU L3 X).tot t4 ((a 980 Z).trans Z) (gM _)).mono (PP':=λch H'=>xK t=η/\ch=JA/\∃q,H'=nT q++_) (λ_ _ h=>h) (λch H' ⟨e,J,e3⟩=>⟨n4 e,J,e3⟩)))) Z ?_;refine Pr [2] (λ_ h=>fh pA h)<|Pw [2] (λ_ h=>su sizeOf3 h)<|Pr [2] (λ_ h=>fh F0 h)<|Pw [2] (λ_ h=>su sizeOf3 h)<|Pr [2] (λ_ h=>fh A9 h)<|Pw [2] (λ_ h=>su sizeOf3 h)<|Pr [2] (λ_ h=>fh FZ h)<|Pw [2] (λ_ h=>su sizeOf3 h)<|LY ⟨⟨by kernel_rfl,by rfl,by rfl⟩,λi_=>?_⟩;simp only[dc,true_and,and_true]at i_;refine S ?_;have f4:=i_;refine gO.ent (E':=[(0,sv (a_ t)),(2,.ref 2 0 0 0),(3,.ref 3 0 0 0),(4,.ref 4 0 0 0)]) (H':=[(980,ml L4),(4,inO),(3,Fm 0),(2,Fk ⟨F,E,I,G,a6,[],[],a6,η,0,a6,zS,⟨a6,a6,[],[],zS⟩⟩)]) L_ ?_
 refine zK (λch H1 D=>xK t=η/\ch=JA/\∃q,D=nT q++H1) [2,3] [2,3] [] Z a7 (λch E1 H1 D b hsh hks ⟨e,J,q,e3⟩=>by subst e3;have ⟨o2,k1,k2⟩:=hsh 2 H_ _ Z;have ⟨o3,k3,k4⟩:=hsh 3 H_ _ Z;exact sK d e J ((b 2 H_).trans Z) ((b 3 H_).trans Z) ⟨o2,k1,P3 k2⟩ ⟨o3,k3,GN k4⟩) ?_;refine Pr [4] (λ_ h=>lh eF h)<|wH (r:=⟨_,A [980],nT L5⟩) (.pan Z (λH1 a=>by exact eV Z Z nW Z (((A0 L4 X).tot t5 ((a 980 Z).trans Z) (gM _)).mono (PP':=λch H'=>xK t=η/\ch=JA/\∃q,H'=nT q++_) (λ_ _ h=>h) (λch H' ⟨e,J,e3⟩=>⟨n5 e,J,e3⟩)))) Z ?_;refine Pr [4] (λ_ h=>lh eF h)<|Pr [4] (λ_ h=>lh eF h)<|Pr [] (λH1 a=>by exact pU Z Z) ?_;refine wH (r:=⟨_,A [980],nT L6⟩) (.pan Z (λH1 a=>by exact eV Z Z call100 Z (((bh L5 X).tot t6 ((a 980 Z).trans Z) (gM _)).mono (PP':=λch H'=>xK t=η/\ch=JA/\∃q,H'=nT q++_) (λ_ _ h=>h) (λch H' ⟨e,J,e3⟩=>⟨n6 e,J,e3⟩)))) Z ?_;refine Pr [2] (λ_ h=>fh DV h)<|Pw [2] (λ_ h=>su V_ h)<|Pr [2] (λ_ h=>fh oZ h)<|Pw [2] (λ_ h=>su sizeOf22 h)<|LY ⟨⟨by rfl,by rfl,by rfl⟩,λi_=>?_⟩;simp only[dc,true_and,and_true]at i_;refine S ?_;have f6:=i_;refine gO.ent (E':=[(0,sv (a_ t)),(2,.ref 2 0 0 0),(3,.ref 3 0 0 0),(4,.ref 4 0 0 0)]) (H':=[(980,ml L6),(4,inO),(3,Fm 0),(2,Fk ⟨F,E,I,G,m4,f,[],a6,η,0,a6,zS,⟨a6,a6,[],[],zS⟩⟩)]) L_<|iA<|jC Z Z Z (aY Z eF Z Z Z Z Z)<|cu Z Z Z (eV Z Z nW Z (((A0 L6 X).tot t7 Z (gM _)).mono (PP':=λch H'=>xK t=η/\ch=JA/\∃q,H'=nT q++_) (λ_ _ h=>h) (λch H' ⟨e,J,e3⟩=>⟨n7 e,J,e3⟩))) (λch H' h=>by obtain ⟨e,J,q,rfl⟩:=h;exact sK d e J Z Z ⟨_,Z,ZM _⟩ ⟨_,Z,ZL _⟩) (λh39=>?_);refine jC Z Z Z (kc call101 (ρ _))<|jC Z Z Z (iD Z Z)<|jC Z Z Z (wA Z Z Z)<|jC Z Z Z (wA Z Z Z)<|jC Z Z Z (oT Z DU Z Z Z Z)<|Ps Z Z (ku sizeOf46)<|QZ<|S ?_;refine gO.ent (E':=[(0,sv (a_ t)),(2,.ref 2 0 0 0),(3,.ref 3 0 0 0),(4,.ref 4 0 0 0)]) (H':=[(980,ml L7),(4,inO),(3,Fm 0),(2,Fk ⟨F,E,I,G,m4,f,m,a6,η,0,a6,zS,⟨a6,a6,[],[],zS⟩⟩)]) L_<|zK (λch H1 D=>xK t=η/\ch=JA/\∃q,D=nT q++H1) [2,3] [2,3] [] Z a7 (λch E1 H1 D b hsh hks ⟨e,J,q,e3⟩=>by subst e3;have ⟨o2,k1,k2⟩:=hsh 2 H_ _ Z;have ⟨o3,k3,k4⟩:=hsh 3 H_ _ Z;exact sK d e J ((b 2 H_).trans Z) ((b 3 H_).trans Z) ⟨o2,k1,P3 k2⟩ ⟨o3,k3,GN k4⟩) ?_;refine Pr [4] (λ_ h=>lh eF h) ?_
 refine wH (r:=⟨_,A [980],nT L8⟩) (.pan Z (λH1 a=>by exact eV Z Z nW Z (((A0 L7 X).tot t8 ((a 980 Z).trans Z) (gM _)).mono (PP':=λch H'=>xK t=η/\ch=JA/\∃q,H'=nT q++_) (λ_ _ h=>h) (λch H' ⟨e,J,e3⟩=>⟨n8 e,J,e3⟩)))) Z ?_;refine Pr [4] (λ_ h=>lh eF h)<|wH (r:=⟨_,A [980],nT L9⟩) (.pan Z (λH1 a=>by exact eV Z Z nW Z (((A0 L8 X).tot t9 ((a 980 Z).trans Z) (gM _)).mono (PP':=λch H'=>xK t=η/\ch=JA/\∃q,H'=nT q++_) (λ_ _ h=>h) (λch H' ⟨e,J,e3⟩=>⟨n9 e,J,e3⟩)))) Z ?_;refine Pr [] (λH1 a=>by exact FD Z Z Z)<|Pr [4] (λ_ h=>lh eF h) ?_;refine wH (r:=⟨_,A [980],nT κ⟩) (.pan Z (λH1 a=>by exact eV Z Z jS Z (((oU L9 X).tot t10 ((a 980 Z).trans Z) (gM _)).mono (PP':=λch H'=>xK t=η/\ch=JA/\∃q,H'=nT q++_) (λ_ _ h=>h) (λch H' ⟨e,J,e3⟩=>⟨n10 e,J,e3⟩)))) Z ?_;refine Pr [4] (λ_ h=>lh eF h)<|wH (r:=⟨_,A [980],nT τ⟩) (.pan Z (λH1 a=>by exact eV Z Z nW Z (((A0 κ X).tot t11 ((a 980 Z).trans Z) (gM _)).mono (PP':=λch H'=>xK t=η/\ch=JA/\∃q,H'=nT q++_) (λ_ _ h=>h) (λch H' ⟨e,J,e3⟩=>⟨n11 e,J,e3⟩)))) Z ?_;refine Pr [2] (λ_ h=>fh DT h)<|Pw [2] (λ_ h=>su V_ h)<|Pr [2] (λ_ h=>fh JK h)<|Pw [2] (λ_ h=>su sizeOf4 h)<|Pr [2] (λ_ h=>fh zB h)<|Pw [2] (λ_ h=>su sizeOf3 h)<|Pr [2] (λ_ h=>fh xS h)<|Pw [2] (λ_ h=>su V_ h)<|LY ⟨⟨by kernel_rfl,by rfl,by rfl⟩,λi_=>?_⟩;simp only[dc,true_and,and_true]at i_;refine S ?_;have K:=i_;refine gO.ent (E':=[(0,sv (a_ t)),(2,.ref 2 0 0 0),(3,.ref 3 0 0 0),(4,.ref 4 0 0 0)]) (H':=[(980,ml τ),(4,inO),(3,Fm 0),(2,Fk ⟨F,E,I,G,m4,f,m,V8,θ (V9=B8),n,c,zS,⟨a6,a6,[],[],zS⟩⟩)]) L_<|iA<|jC Z Z Z (aY Z eF Z Z Z Z Z)<|cu Z Z Z (eV Z Z call102 Z (((vn τ X).tot t12 Z (gM _)).mono (PP':=λch H'=>xK t=η/\ch=JA/\∃q,H'=nT q++_) (λ_ _ h=>h) (λch H' ⟨e,J,e3⟩=>⟨n12 e,J,e3⟩))) (λch H' h=>by obtain ⟨e,J,q,rfl⟩:=h;exact sK d e J Z Z ⟨_,Z,ZM _⟩ ⟨_,Z,ZL _⟩) (λh58=>?_);refine jC Z Z Z (oT Z AO Z Z Z Z)<|Ps Z Z (rC Z sizeOf48 Z Z Z Z Z Z Z (r_ Z) Z Z)<|QZ<|S ?_;refine gO.ent (E':=[(0,sv (a_ t)),(2,.ref 2 0 0 0),(3,.ref 3 0 0 0),(4,.ref 4 0 0 0)]) (H':=[(980,ml δ),(4,inO),(3,Fm 0),(2,Fk ⟨F,E,I,G,m4,f,m,V8,θ (V9=B8),n,c,p,⟨a6,a6,[],[],zS⟩⟩)]) L_ ?_
 refine zK (λch H1 D=>xK t=η/\ch=JA/\∃q,D=nT q++H1) [2,3] [2,3] [] Z a7 (λch E1 H1 D b hsh hks ⟨e,J,q,e3⟩=>by subst e3;have ⟨o2,k1,k2⟩:=hsh 2 H_ _ Z;have ⟨o3,k3,k4⟩:=hsh 3 H_ _ Z;exact sK d e J ((b 2 H_).trans Z) ((b 3 H_).trans Z) ⟨o2,k1,P3 k2⟩ ⟨o3,k3,GN k4⟩) ?_;refine Pr [4] (λ_ h=>lh eF h)<|wH (r:=⟨_,A [980],nT γ⟩) (.pan Z (λH1 a=>by exact eV Z Z nW Z (((A0 δ X).tot t13 ((a 980 Z).trans Z) (gM _)).mono (PP':=λch H'=>xK t=η/\ch=JA/\∃q,H'=nT q++_) (λ_ _ h=>h) (λch H' ⟨e,J,e3⟩=>⟨n13 e,J,e3⟩)))) Z ?_;refine Pr [4] (λ_ h=>lh eF h)<|wH (r:=⟨_,A [980],nT β⟩) (.pan Z (λH1 a=>by exact eV Z Z nW Z (((A0 γ X).tot t14 ((a 980 Z).trans Z) (gM _)).mono (PP':=λch H'=>xK t=η/\ch=JA/\∃q,H'=nT q++_) (λ_ _ h=>h) (λch H' ⟨e,J,e3⟩=>⟨n14 e,J,e3⟩)))) Z ?_;refine Pr [4] (λ_ h=>lh eF h)<|Pr [4] (λ_ h=>lh eF h)<|Pr [] (λH1 a=>by exact pU Z Z) ?_;refine wH (r:=⟨_,A [980],nT L15⟩) (.pan Z (λH1 a=>by exact eV Z Z call100 Z (((bh β X).tot t15 ((a 980 Z).trans Z) (gM _)).mono (PP':=λch H'=>xK t=η/\ch=JA/\∃q,H'=nT q++_) (λ_ _ h=>h) (λch H' ⟨e,J,e3⟩=>⟨n15 e,J,e3⟩)))) Z ?_;refine Pr [4] (λ_ h=>lh eF h)<|Pr [4] (λH1 a=>by exact iG Z Z) ?_;refine wH (r:=⟨_,A [980,4],nT σ⟩) (.pan Z (λH1 a=>by exact eV Z Z call103 Z (((Vz L15 X).tot t16 ((a 980 Z).trans Z) (HI.sub ⟨(a 4 Z).trans Z,T_⟩)).mono (PP':=λch H'=>xK t=η/\ch=JA/\∃q,H'=nT q++_) (λ_ _ h=>h) (λch H' ⟨e,J,e3⟩=>⟨n16 e,J,e3⟩)))) Z ?_;refine Pr [] (λH1 a=>by exact PT Z aFQ Z Z)<|Pr [2] (λ_ h=>fh iO h)<|Pw [2] (λ_ h=>sx sizeOf51 h) ?_;refine LY ⟨⟨by kernel_rfl,by rfl,by rfl⟩,λi_=>?_⟩;simp only[dc,true_and,and_true]at i_;refine S ?_;have L:=i_;refine gO.ent (E':=[(0,sv (a_ t)),(2,.ref 2 0 0 0),(3,.ref 3 0 0 0),(4,.ref 4 0 0 0)]) (H':=[(980,ml σ),(4,inO),(3,Fm 0),(2,Fk ⟨F,E,I,G,m4,f,m,V8,θ (V9=B8),n,c,p,⟨B,w,z,s,zS⟩⟩)]) L_<|iA<|jC Z Z Z (aY Z eF Z Z Z Z Z)<|cu Z Z Z (eV Z Z call102 Z (((vn σ X).tot t17 Z (gM _)).mono (PP':=λch H'=>xK t=η/\ch=JA/\∃q,H'=nT q++_) (λ_ _ h=>h) (λch H' ⟨e,J,e3⟩=>⟨n17 e,J,e3⟩))) (λch H' h=>by obtain ⟨e,J,q,rfl⟩:=h;exact sK d e J Z Z ⟨_,Z,ZM _⟩ ⟨_,Z,ZL _⟩) (λh74=>?_);refine jC Z Z Z (oT Z iO Z Z Z Z)<|jC Z Z Z (oT Z F1 Z Z Z Z)<|Ps Z Z (rC Z sizeOf48 Z Z Z Z Z Z Z (r_ Z) Z Z)<|QZ<|S<|S ?_
 refine gO.ent (E':=[(0,sv (a_ t)),(2,.ref 2 0 0 0),(3,.ref 3 0 0 0),(4,.ref 4 0 0 0)]) (H':=[(980,ml L17),(4,inO),(3,Fm 0),(2,Fk ⟨F,E,I,G,m4,f,m,V8,θ (V9=B8),n,c,p,⟨B,w,z,s,c_⟩⟩)]) L_ ?_;have hokt:=yes h16 f4.1 f4.2.1 f4.2.2.1 f4.2.2.2 f6.1 f6.2 h39 K.1 K.2.1 K.2.2.1 K.2.2.2 h58 L.1 L.2.1 L.2.2.1 L.2.2.2 h74;have hg1:dP t=if TX=(a_ t,0)then(⟨F,E,I,G,m4,f,m,V8,θ (V9=B8),n,c,p,⟨B,w,z,s,c_⟩⟩,0)else(zR,5):=F_
 refine Rd (xD cQ bL)<|Y (kc call72 (htx _))<|Y aA<|Y dL<|Y dL<|Y aJ<|V aJ<|S<|aT (t:=88) (n:=8) (A_:=!θ (TX.2=0)||!θ (TX.1=a_ t)) ?_ ?_
 .all_goals refine Y aA<|Y yQ<|Dm ?_<;>(refine Sp 84 (λh84=>?_) λh84=>?_)<;>(first|exact s_|refine M<|M<|M ?_|refine U aA<|U aA<|U EN ?_)<;>refine V cE ?_<;>exact Gj (h:=by(rw[h84];rfl))
 refine Cn ?_ ?_<;>intro x
 .have hne:TX≠(a_ t,0):=by have:=x;rintro rfl;simp at this
  refine O (pB UP)<|Uu (jH bL)<|Uu (jH sizeOf25)<|Zz<|aC ?_;exact XI (by rw[hg1,a8 hne]) L_
 have heq:TX=(a_ t,0):=by have:=x;rw[r6,Bool.not_eq_false',Bool.not_eq_false',j0,j0]at this;exact Prod.ext this.2 this.1
 refine aB<|O (xD cQ bL)<|Uu (jH bL)<|Uu (jH sizeOf25)<|Zz<|aC ?_;exact XI (by rw[hg1,b6 heq]) L_
open Go.Lib
theorem lP{α:Type}{f}{d:α}{l}{p}(h:f l=A p):M6 f d l=p:=by rw[M6,h];rfl
theorem JO{l}(h:(kM l).2=N):(iN (kM l).1).1=l:=by
 rw[kM]at h |-
 split at h
 .next a =>
  rw[eq_nil_of_length_eq_zero a];rfl
 next a =>
 rw[a8 a];exact congrArg _ (FA (b8 h))
theorem dz(b:Bool):θ (aV (if b then 1 else 0)=B8)=b:=by cases b<;>kernel_rfl
def Il(r:j_):List B_:=[]
def Im(r:j_):List B_:=fI (.z r.priv.sl.idx r.priv.sl.sig r.priv.sl.path)++Il r
def Io(r:j_):List B_:=fI (.p r.priv.trace)++Im r
def Ip(r:j_):List B_:=aV (C r.priv.sources:Int)::(r.priv.sources++Io r)
def Iq(r:j_):List B_:=r.priv.reason::Ip r
def Ir(r:j_):List B_:=r.priv.name::Iq r
def Is(r:j_):List B_:=fI (.z r.sl.idx r.sl.sig r.sl.path)++Ir r
def It(r:j_):List B_:=r.from'::Is r
def Iu(r:j_):List B_:=aV r.order::It r
def sf9(r:j_):List B_:=(aV (if r.yes then 1 else 0))::Iu r
def sf8(r:j_):List B_:=r.target::sf9 r
def sf7(r:j_):List B_:=(kM r.edits).1::sf8 r
def sf6(r:j_):List B_:=aV (C r.parents:Int)::(r.parents++sf7 r)
def sf5(r:j_):List B_:=r.branch::sf6 r
def sf4(r:j_):List B_:=aV r.clock::sf5 r
def sf3(r:j_):List B_:=aV r.number::sf4 r
def sf2(r:j_):List B_:=aV r.author::sf3 r
def sf1(r:j_):List B_:=aV r.kind::sf2 r
def sf0(r:j_):List B_:=HL::sf1 r
theorem Pv(r):jW r=sf0 r:=by simp[jW,vW,zQ,NA,M0,fI,sf0,sf1,sf2,sf3,sf4,sf5,sf6,sf7,sf8,sf9,Iu,It,Is,Ir,Iq,Ip,Io,Im,Il]
theorem Ay{r:j_}(h:VF r):xK (aO (jW r))=N/\KJ (aO (jW r))=r:=by
 have hk:=CB h.k;have τ:=h.au;have ρ:=h.nu;have σ:=h.cl;have κ:=h.order;have δ:=h.pal;have b:=lJ h.sl;have a:=lJ h.psl;have s0:=b.i0;have s1:=b.i1;have s2:=b.sl;have s3:=b.pl;have z0:=a.i0;have z1:=a.i1;have z2:=a.sl;have z3:=a.pl;have γ:=h.sol;have β:=h.trl;have i_:=NL h.br;have d_:=RM h.tx;have E:=h.target;have F:=h.from
 have D:=h.nm;have z:=h.rs;have f:∀ {l:List B_},(∀t∈l,m6 t=N)->∀t∈l,IR t:=λz_ t y=>Nat.lt_of_le_of_lt (DQ (z_ t y)) E_;rw[Pv];have ⟨t,y⟩:∃t,t=aO (sf0 r):=X_;rw[<-y];have m4:pJ t=A (HL,aO (sf1 r)):=by rw[y];exact mT _ (show T HL<1000000000000000000 by decide)
 have q0:p0 t=(HL,aO (sf1 r)):=lP m4;have o_:yA (p0 t).2=A (r.kind,aO (sf2 r)):=by rw[q0];exact mU _ X X
 have H:p1 t=(r.kind,aO (sf2 r)):=lP o_;have P:yA (p1 t).2=A (r.author,aO (sf3 r)):=by rw[H];exact mU _ X X
 have J0:p2 t=(r.author,aO (sf3 r)):=lP P;have e_:yA (p2 t).2=A (r.number,aO (sf4 r)):=by rw[J0];exact mU _ X X
 have A_:p3 t=(r.number,aO (sf4 r)):=lP e_;have u_:yA (p3 t).2=A (r.clock,aO (sf5 r)):=by rw[A_];exact mU _ X X
 have W:p4 t=(r.clock,aO (sf5 r)):=lP u_;have R:pJ (p4 t).2=A (r.branch,aO (sf6 r)):=by rw[W];exact mT _ (Nat.lt_of_le_of_lt i_ E_)
 have J:p5 t=(r.branch,aO (sf6 r)):=lP R;have f_:(DO pJ) (p5 t).2=A (r.parents,aO (sf7 r)):=by rw[J];exact DN _ _ (f h.pa) X
 have y_:p6 t=(r.parents,aO (sf7 r)):=lP f_;have Q:pJ (p6 t).2=A ((kM r.edits).1,aO (sf8 r)):=by rw[y_];exact mT _ (Nat.lt_of_le_of_lt d_ E_)
 have G:p7 t=((kM r.edits).1,aO (sf8 r)):=lP Q;have v_:pJ (p7 t).2=A (r.target,aO (sf9 r)):=by rw[G];exact mT _ (Nat.lt_of_le_of_lt E E_)
 have I:p8 t=(r.target,aO (sf9 r)):=lP v_;have L:pJ (p8 t).2=A ((aV (if r.yes then 1 else 0)),aO (Iu r)):=by rw[I];exact mT _ (OW (by split<;>decide) (by split<;>decide))
 have K:p9 t=((aV (if r.yes then 1 else 0)),aO (Iu r)):=lP L;have p:yA (p9 t).2=A (r.order,aO (It r)):=by rw[K];exact mU _ X X
 have s:mv t=(r.order,aO (It r)):=lP p;have n:pJ (mv t).2=A (r.from',aO (Is r)):=by rw[s];exact mT _ (Nat.lt_of_le_of_lt F E_)
 have c:mu t=(r.from',aO (Is r)):=lP n;have o:Al (mu t).2=A (r.sl,aO (Ir r)):=by rw[c];exact R8 _ _ s0 X (f b.sa) (f b.pa) X X
 have u:gz t=(r.sl,aO (Ir r)):=lP o;have v:pJ (gz t).2=A (r.priv.name,aO (Iq r)):=by rw[u];exact mT _ (Nat.lt_of_le_of_lt D E_)
 have j:mr t=(r.priv.name,aO (Iq r)):=lP v;have w:pJ (mr t).2=A (r.priv.reason,aO (Ip r)):=by rw[j];exact mT _ (Nat.lt_of_le_of_lt z E_)
 have i:mq t=(r.priv.reason,aO (Ip r)):=lP w;have m:(DO pJ) (mq t).2=A (r.priv.sources,aO (Io r)):=by rw[i];exact DN _ _ (λx hx=>Nat.lt_of_le_of_lt (h.so x hx) E_) X
 have e:mo t=(r.priv.sources,aO (Io r)):=lP m;have k:(DO SS) (mo t).2=A (r.priv.trace,aO (Im r)):=by rw[e];exact qy _ _ (λq hq=>by have ⟨⟨a1,a2⟩,a3,a4⟩:=h.tr q hq;exact⟨⟨X,X⟩,X,X⟩) X
 have d:mn t=(r.priv.trace,aO (Im r)):=lP k;have g:Al (mn t).2=A (r.priv.sl,aO (Il r)):=by rw[d];exact R8 _ _ z0 X (f a.sa) (f a.pa) X X
 have B:Qy t=(r.priv.sl,aO (Il r)):=lP g;constructor
 .unfold xK ao;rw[m4,o_,P,e_,u_,R,f_,Q,v_,L,p,n,o,v,w,m,k,g];rfl
 unfold KJ;rw[H,J0,A_,W,J,y_,G,I,K,s,c,u,j,i,e,d,B,JO h.tx,dz]
theorem SY{r}{t}(h:mW r=(a_ t,0)):dP t=(r,0):=by
 have e:=h;rw[mW]at h;by_cases a:iI r=N
 .rw[b6 a]at h
  split at h
  .cases h
  next c =>
  have f:t=aO (jW r):=by
   have:=congrArg (λp=>ν (μ p.1)) h;exact this.symm
  have ⟨d,b⟩:=Ay (tB a);rw[<-f]at d b c;rw[dP,a8 c,b,b6 ⟨d,e⟩]
 rw[a8 a]at h;cases h
theorem KT{t}(h:(dP t).2=0):mW (dP t).1=(a_ t,0):=by
 rw[dP]at h |-
 grind
variable{α:Type}
def m8(l:List B_):List PV:=[aL l]
def iT(ls:List (List B_)):PV:=.sl (ls.map m8)
theorem MG{l:List α}{p}(h:∀j,j<C l->∀b,l[j]?=A b->p b=N):l.all p=N:=by
 rw[all_eq_true];intro b a;have ⟨j,B⟩:=s8.1 a
 grind
theorem RB{l:List α}{p}{i:Nat}{b}(B:l[i]?=A b)(h:p b=η):l.all p=η:=G_
theorem GG{l:List _}{p:α->Bool}{i}{x}(h:∀j,j<i->∀b,l[j]?=A b->p b=N)(D:l[i]?=A x)(B:p x=N):∀j,j<i+1->∀b,l[j]?=A b->p b=N:=G_
end Go.Proofs.C
namespace Go.Proofs.C
open Go.Proofs.Tryz
open Go.Abs Go.Lib
theorem YV(s)(H):∀r∈fX s,∀a∈r,Clo H a:=by intro r d a c;obtain ⟨b,_,rfl⟩:=mem_map.1 d;rw[q_.1 c];exact .pv _
instance(s)(H):W_ (H) (fX s):=⟨YV s H⟩
abbrev TX:B_:=⟨#[48,49,50,51,52,53,54,55,56,57]⟩
theorem aAJ:∀q:Fin 10,(TX.extract q.1 (q.1+1)).data.toList=[UInt8.ofNat (48+q.1)]:=λq=>by
 revert q;decide
theorem Gz{q}(h:q<10):TX.extract q (q+1)=a_ [UInt8.ofNat (48+q)]:=nM (by rw[aAJ ⟨q,h⟩,cJ])
theorem Li(a b):a_ a++a_ b=a_ (a++b):=nM (Z)
def cd(v:Nat):List UInt8:=if v=0 then[]else decDigits v
theorem Di{v}(h:0<v)(t):cd (v / 10)++(UInt8.ofNat (48+v % 10)::t)=cd v++t:=by
 have e:cd v=decDigits v:=a8 X;rw[e,decDigits];by_cases a:v<10
 .rw[dif_pos a,cd,b6 X,mod_eq_of_lt a];rfl
 rw[dif_neg a,cd,a8 X,append_assoc];rfl
theorem sq(n):cd (n / 10)++[UInt8.ofNat (48+n % 10)]=decDigits n:=by
 rw[decDigits];by_cases a:n<10
 .rw[dif_pos a,cd,b6 X,mod_eq_of_lt a];rfl
 rw[dif_neg a,cd,a8 X]
theorem fq(n:Nat)(I:n<9223372036854775808)(H:aF):RC 136 [uv n] (sv (a_ (decDigits n))) H:=by
 refine Pu ?_;have step:∀v:Nat,v<18446744073709551616->((v:Nat):Int).tmod 10=((v % 10:Nat):Int)/\IntKind.u64.wrap (((v:Nat):Int).tdiv 10)=((v / 10:Nat):Int)/\IntKind.u64.wrap (((v % 10:Nat):Int)+1)=((v % 10+1:Nat):Int)/\v % 10<10/\v % 10+1<=T TX:=λv z=>by
  refine⟨by rfl,by rw[Int.tdiv_eq_ediv_of_nonneg X,IntKind.wrap_u64];omega,by rw[IntKind.wrap_u64];omega,mod_lt _ E_,?_⟩;have:T TX=10:=rfl;omega
 have ⟨l,y,u,w,p⟩:=step n X;have e:=Gz w;have b:=sq n;generalize n % 10=g at l u w p e b;refine Bd func136 Z ntmps136<|Sz aJ<|O aA<|Y (AF Z Z Z E_ l)<|Y aA<|Y (AF Z Z Z E_ l)<|Y (ka u)<|Y (bP (l:=g) (h:=g+1) Z U_ Z Z Z X p e)<|V aJ<|S<|O aA<|Y (DF Z Z Z E_ y)<|V aJ<|aD<|dU (λ(v:Nat) (t:List UInt8)=>([(0,uv v),(3,sv (a_ t))],[])) (λv t=>v<9223372036854775808/\cd v++t=decDigits n) (λv t=>v) (n / 10) [UInt8.ofNat (48+g)] ⟨X,b⟩ ?_ ?_
 .exact Wk
 rintro v t ⟨z,d⟩;have ⟨j,x,s,q,o⟩:=step v X;have e:=Gz q;have D:C t<=21:=by
  have B:=congrArg List.length d;rw[j8]at B;have G:=cU (k:=19) (u:=n) X E_;omega
 by_cases F:0<v
 .have c:=Di F t;rw[d]at c;generalize v % 10=g at j s q o e c;refine S<|O aA<|V iZ<|Cn ?_ ?_<;>intro f
  .refine aB<|S<|aD<|Rd aA<|Y (AF Z Z Z E_ j)<|Y aA<|Y (AF Z Z Z E_ j)<|Y (ka s)<|Y (bP (l:=g) (h:=g+1) Z U_ Z Z Z X o e)<|Y aA<|Y (by exact fC Z Z Z (by rw[cB,cB,length_singleton];omega) (Li [UInt8.ofNat (48+g)] t))<|V aJ<|Rd aA<|Y (DF Z Z Z E_ x)<|Da ?_;exact⟨v / 10,UInt8.ofNat (48+g)::t,⟨X,c⟩,X,Wk⟩
  (have h:=b_ f;omega)
 have k:v=0:=X
 subst k;have E:t=decDigits n:=d;subst E;refine S<|O aA<|V iZ<|Cn ?_ ?_<;>intro m
 .cases m
 exact aP<|O aA<|V aJ<|aC<|Rt<|Qq
theorem SH(n:Nat)(d:n<9223372036854775808)(H):RC 84 [iv n] (sv (a_ (decDigits n))) H:=by
 refine Pu ?_;have c:=λH=>fq n d H;refine Bd func84 Z ntmps84<|Sz aJ<|S<|O aA<|V cF<|Cn ?_ ?_<;>intro b
 ·(have h:=b8 b;omega)
 exact aB<|O aA<|Y (eO Z underlying3 gT Z (ei X))<|Y (bH Z Z call136 Z (c _))<|V aJ<|aC<|Rt<|Qq
def J6(L:List B_):Nat:=(L.map λs=>T s+21).sum
theorem zu(L)(s):J6 (L++[s])=J6 L+(T s+21):=by rw[J6,map_append,sum_append];rfl
theorem vf:∀ {L},(∀s∈L,T s<=100000000)->J6 L<=C L*100000021
 | [],_=>k_ _
 |s::r,h=>by
  have B:=vf (λx a=>h x (mem_cons_of_mem _ a));show T s+21+J6 r<=_
  grind
theorem X4:∀ {L},(∀s∈L,T s<=100000000)->C (aO L)<=J6 L
 | [],_=>k_ _
 |s::r,h=>by
  have E:=X4 (λx a=>h x (mem_cons_of_mem _ a));have D:=h s mem_cons_self;have B:=cU (k:=9) (u:=T s) X H_;rw[gZ,j8,j6,j8,aU];show _<=T s+21+J6 r;omega
theorem jd(L)(s):aO (L++[s])=(aO L++decDigits (T s))++[58]++ν (μ s):=by
 rw[je,gZ];show aO L++(decDigits _++58::(ν (μ s)++[]))=_
 simp_all
theorem W0(L:List B_)(Q:C L<=100000)(t:∀s∈L,T s<=100000000)(H:aF):RC 85 [.pv (aL L)] (sv (a_ (aO L))) H:=by
 refine Pu ?_;have J:C (L.map S_)=C L:=g_ _;have f:∀i,J6 (L.take i)<=10000002100000:=λi=>by
  have K:=vf (L:=L.take i) (λs h=>t s (mem_of_mem_take h));have B:C (L.take i)<=100000:=G_
  have P:=mul_le_mul_right 100000021 B;omega
 have n:∀i,C (aO (L.take i))<=J6 (L.take i):=λi=>X4 λs h=>t s (mem_of_mem_take h);refine Bd func85 Z ntmps85<|Sz aJ<|Sz aJ<|S<|Sz aJ<|aD<|bC (σ:=Nat) (λi=>([(0,.pv (aL L)),(3,iv (J6 (L.take i):Int)),(4,iv (i:Int))],[])) (λi=>i<=C L) (λi=>C L - i) 0 (k_ _) ?_ ?_
 .exact Wk
 intro i E;have y:=f i;refine S<|O aA<|Y aA<|Y (fJ aE)<|V cF<|Cn ?_ ?_<;>intro q
 .have g:i<C L:=I_ q
  have ⟨s,c⟩:=aR g;have e:=cC (f:=S_) c;have w:=t s (m7 c);have d:J6 (L.take (i+1))=J6 (L.take i)+(T s+21):=by rw[dT c,zu]
  refine aB<|S<|aD<|Rd aA<|Y aA<|Y aA<|Y (bS Z aZ Z Z X x7 e Z)<|Y (fK N_)<|Y (gG U_)<|Y (by exact dB Z Z Z (show ξ.wrap ((T s:Int)+21)=((T s+21:Nat):Int)by rw[lZ X X];omega))<|Y (by exact dB Z Z Z (show ξ.wrap ((J6 (L.take i):Int)+((T s+21:Nat):Int))=((J6 (L.take (i+1)):Nat):Int)by rw[d,lZ X X];omega))<|V aJ<|Rd aA<|Y kp<|Da ?_;exact⟨i+1,X,X,Wk⟩
 have j:i=C L:=J_ q
 refine aP<|O aA<|Y (EX (id:=905) Z BV Zb zo5 Z Z Z X X (l_ _) (l_ _) X Z)<|V aJ<|S<|Sz aJ<|aD<|bC (σ:=Nat) (λi=>([(0,.pv (aL L)),(5,.osl 905 (3*i) 0 (C (aO (L.take i)))),(6,iv (i:Int))],[(905,⟨3*i,1,5,fX (aO (L.take i))⟩)])) (λi=>i<=C L) (λi=>C L - i) 0 (k_ _) ?_ ?_
 .exact L_
 clear j y E;intro i E;have y:=f i;have z:=n i;have F:=f (i+1);have I:=n (i+1);refine S<|O aA<|Y aA<|Y (fJ aE)<|V cF<|Cn ?_ ?_<;>intro k
 .have g:i<C L:=I_ k
  have ⟨s,c⟩:=aR g;have e:=cC (f:=S_) c;have w:=t s (m7 c);have l:=λH=>SH (T s) X H;have d:aO (L.take (i+1))=(aO (L.take i)++decDigits (T s))++[58]++ν (μ s):=by rw[dT c,jd]
  have G:=cU (k:=9) (u:=T s) X E_;have ⟨D,u⟩:∃D,D=aO (L.take i):=X_;rw[<-u]at d z |-;have m:=cB (decDigits (T s));have v:C (fX (D++decDigits (T s)))=C D+C (decDigits (T s)):=by rw[sS,j8]
  have x:C (fX ((D++decDigits (T s))++[58]))=C D+C (decDigits (T s))+1:=by rw[sS,j8,j8];rfl
  refine aB<|S<|aD<|O aA<|Y aA<|Y aA<|Y (kx aZ e)<|Y (fK N_)<|Y (gG U_)<|Y (kc fZ (l _))<|Y (by exact xG (rows':=fX (D++decDigits s.size)) (k:=D.length+(decDigits s.size).length) Z BV U_ Zb PS Z Z Z Z Z (sS D) Z (by rw[m];omega) (by rw[m]) (by rw[cJ];exact vD D (decDigits s.size)))<|V aJ<|O aA<|Y (by exact aM [[.int .u8 58]] Z BV Z Z Z Z Z H_)<|Y (by exact bW (k:=D.length+(decDigits s.size).length+1) (ps:=[[.int .u8 58]]) Z BV Zb Z Z Z Z Z v Z H_ (m:=1) Z X Z (vD (D++decDigits s.size) [58]))<|V aJ<|Rd aA<|Y aA<|Dm ?_;refine Y (jA aZ)<|Y (fK N_ (hi:=e))<|Y (by exact xG (k:=D.length+(decDigits s.size).length+1+s.size) Z BV U_ Zb PS Z Z Z Z Z x Z X Z (vD ((D++decDigits s.size)++[58]) s.data.toList))<|V aJ<|Rd aA<|Y kp<|Da ?_;refine⟨i+1,X,X,?_⟩;rw[d];have o:(D++decDigits s.size++[58]++s.data.toList).length=D.length+(decDigits s.size).length+1+s.size:=by
   rw[j8,j8,j8,aU];rfl
  rw[o];exact L_
 have j:i=C L:=J_ k
 subst j;rw[take_length]at z |-;have ⟨D,u⟩:∃D,D=aO L:=X_;rw[<-u];have p:((fX D).drop 0).take (C D)=fX D:=by rw[drop_zero,take_of_length_le (by rw[sS];exact h_ _)]
 exact aP<|O aA<|Y (by exact VV Z dM dG U_ Z Z Z Z p Z)<|V aJ<|aC<|Rt<|Qq
theorem WN{r}{a b}(h:iI r=N)(B:lK a=N)(D:lK b=N):iI (Lr r a b)=N:=by simp[iI,l6,r9]at h |-;have ⟨⟨⟨⟨c,f⟩,g⟩,e⟩,d⟩:=h;refine⟨⟨⟨⟨?_,f⟩,g⟩,e⟩,d⟩;simp only[uw,r6]at c |-;have ⟨⟨c,_⟩,_⟩:=c;exact⟨⟨c,by show (!lK b)=η;simp_all⟩,by show (!lK a)=η;simp_all⟩
theorem Wv:lK zS=N:=E_
theorem aDo{s}(h:FSeal s)(B:C s.sig=18):lK s=N:=by have b:=h.i0;have a:=h.i1;have l2:=h.pl;rw[lK,g_,g_,decide_eq_true b,decide_eq_true a,decide_eq_true X,decide_eq_true X,all_eq_true.2 h.sa,all_eq_true.2 h.pa];simp
theorem R9{s m}{h i}(a:(P4 s h i m).2=0):lK (P4 s h i m).1=N:=by have ⟨f,e,_⟩:=oj a;refine aDo f ?_;rw[e];rfl
theorem iu{r x}(h:H7 r=(x,0)):x=r/\(mW r).2=0:=by
 rw[H7]at h
 grind
structure Made(r x:j_)(s:B_)(h:Int):Prop where
 v0:iI (OS r)=N
 a0:(P4 s h (2*r.number - 2) (H9 (OS r))).2=0
 tx:(mW x).2=0
 e:(uZ r.priv=N/\x=mk1 r (P4 s h (2*r.number - 2) (H9 (OS r))).1)\/(uZ r.priv=η/\(P4 s h (2*r.number - 1) (ba (OS r))).2=0/\x=Lr r (P4 s h (2*r.number - 2) (H9 (OS r))).1 (P4 s h (2*r.number - 1) (ba (OS r))).1)
theorem Vx{r x}{s}{h}(a:OT r s h=(x,0)):Made r x s h:=by
 rw[OT]at a
 split at a
 .cases a
 next B =>
 split at a
 .next c =>
  have:=congrArg Prod.snd a;exact absurd this c
 next c =>
 have c:(P4 s h (2*r.number - 2) (H9 (OS r))).2=0:=X
 split at a
 .next e =>
  have ⟨b,d⟩:=iu a;exact⟨F_,c,b▸d,.inl ⟨e,b⟩⟩
 next e =>
 split at a
 .next f =>
  have:=congrArg Prod.snd a;exact absurd this f
 next f =>
 have ⟨b,d⟩:=iu a;refine⟨F_,c,b▸d,.inr ⟨F_,?_,b⟩⟩;omega
theorem Made.valid{r x}{s}{h}(a:Made r x s h):iI x=N:=by
 rcases a.e with⟨_,e⟩|⟨_,b,e⟩
 .rw[e];exact WN (r:=OS r) a.v0 (R9 a.a0) Wv
 rw[e];exact WN (r:=OS r) a.v0 (R9 a.a0) (R9 b)
theorem Made.text{r x}{s}{h}(b:Made r x s h):mW x=(a_ (aO (jW x)),0):=by
 have a:=b.tx;rw[mW,b6 b.valid]at a |-
 split at a
 .cases a
 next c=>rw[a8 c]
theorem Made.parse{r x}{s}{h}(a:Made r x s h):dP (aO (jW x))=(x,0):=SY a.text
theorem cP.val{P}{m4}{o}{E}{H H'}{b a}(h:cP P m4 o E H (.pv (.bool b)) H')(e:b=a):cP P m4 o E H (.pv (.bool a)) H':=e▸h
def Sn(c:UInt8):B_:=⟨#[c]⟩
def Yv(c:UInt8):l7:=⟨Sn c,1,(c.toNat:Int),0,[],[]⟩
def cs3:List UInt8:=[97,98,99]
def aEd:l7:=⟨Sn 119,2,0,0,cs3.map Sn,[]⟩
def s0:List l7:=cs3.map Yv++[aEd]
def x1:List l7:=cs3.map Yv++[⟨Sn 118,2,0,0,[Sn 98,Sn 99],[]⟩,⟨Sn 119,2,0,0,[Sn 97,Sn 98],[]⟩]
end Go.Proofs.C
section
namespace Go.Proofs.C
open Go.Proofs.Tryz
open Go.Abs
structure M3 where
 k:B_
 b:B_
 o:B_
 t:B_
end Go.Proofs.C
namespace Go.Abs

end Go.Abs
namespace Go.Proofs.C
open Go.Proofs.Tryz
open Go.Abs

end Go.Proofs.C
end
namespace Go.Proofs.C
open Go.Proofs.Tryz
open Go.Abs
def m1(p:M3):B_×Bool:=if p.t=p.o then(p.o,η)else if p.t=p.b then(p.o,η)else if p.o=p.b then(p.t,η)else(p.b,N)
instance decMemB(s:B_)(l:List B_):Decidable (s∈l):=decidable_of_iff (xr l s=N) Wl
def zs(B:Bool):List Int:=if B then[2,1,0]else[0,1,2]
def aFD(m:List l7)(B:Bool):List l7:=(zs B).flatMap λz=>m.filter λo=>θ (o.kind.tdiv 2=z)
def aBe(b:List l7)(o:l7):Bool:=match aFC b o.id with
 |some p=>!θ (p.kind=o.kind)||(θ (o.kind=5)&&!θ (o.refs=p.refs))
 |none=>η
def rnB(b:List l7)(A_:List B_)(o:l7):Bool:=aBe b o||o.refs.any (xr A_)
def rnL(b:List l7):List B_->List l7->List B_
 |A_,[]=>A_
 |A_,o::L=>rnL b (if rnB b A_ o then A_++[o.id]else A_) L
def aEY(a b:List l7):List B_:=rnL b [] (aFD a η)
end Go.Proofs.C
namespace Go.Abs
theorem aW.sub{P}{f}{args}{H0 H}{c}(h:aW P f args H0 (λr H'=>r=c/\H'=H0))(i:Sub H0 H)(q:dI H0)(t:∀a∈args,Clo H0 a):aW P f args H (λr H'=>r=c/\H'=H):=by
 intro I ι w vs n m l;refine(aW.frame h i q t (λid h=>.inl h) I _ w _ n m l).mono ?_;rintro e w' ⟨r,H',k,b,v,rfl,⟨rfl,rfl⟩,u,g,p⟩;have ⟨s,d⟩:=g.congr (H':=H) (λj=>by
  rw[gH];cases e:H0.get j with
  |none=>rfl
  |some o=>exact i j o e)
 exact⟨r,H,k,b,v,Z,⟨Z,Z⟩,u.mono g d,s,p.trans d⟩
end Go.Abs
namespace Go.Proofs.C
open Go.Proofs.Tryz
open Go.Abs
section
section
variable{a b:List l7}
def c1(k:l7×l7):l7:=⟨k.1.id,k.1.kind,k.2.x,k.2.y,k.1.refs,k.1.tags⟩
def c2(k:l7×l7):l7:=⟨k.1.id,k.1.kind,k.2.x,k.2.y,k.2.refs,k.1.tags⟩
def c3(k:l7×l7):l7:=⟨k.1.id,k.1.kind,k.2.x,k.2.y,k.2.refs,k.2.tags⟩
end
end
theorem cP.valY{P}{m4}{o}{E}{H H'}{b a}(h:cP P m4 o E H (.pv (.bool b)) H')(e:b=a):cP P m4 o E H (.pv (.bool a)) H':=e▸h
end Go.Proofs.C
namespace Go.Proofs.C
open Go.Proofs.Tryz
section
def aAI(u:List Nat)(i:Nat):Nat:=u.getD i i
def aCc:Nat->List Nat->Nat->Nat
 |0,_,i=>i
 |n+1,u,i=>if aAI u i=i then i else aCc n u (aAI u i)
def top(u:List Nat)(i:Nat):Nat:=aCc i u i
def aFT(u:List Nat):Prop:=∀i,aAI u i<=i
def Inv(L:Nat->Nat->Prop)(f:Nat->Nat):Prop:=∀i k,L i k->f i=f k
structure Snd(L:Nat->Nat->Prop)(u:List Nat):Prop where
 ok:aFT u
 sn:∀f,Inv L f->∀x,f (top u x)=f x
section
variable{f_:Type}[DecidableEq f_]
def Ww:List (f_×Nat)->f_->Option Nat
 | [],_=>ζ
 |(k,v)::r,s=>if k=s then A v else Ww r s
structure I1(L:Nat->Nat->Prop)(W:Nat->List f_)(k m:Nat)(st:List Nat×List (f_×Nat)):Prop where
 len:C st.1=m
 snd:Snd L st.1
 at_:∀s j,Ww st.2 s=A j->j<m/\s∈W j
 has:∀j,j<k->∀s,s∈W j->(Ww st.2 s).isSome=N
structure I2(L:Nat->Nat->Prop)(F:List (f_×Nat))(m4:Nat->List f_)(n k:Nat)(u:List Nat):Prop where
 len:C u=n
 snd:Snd L u
 same:∀i,i<k->∀s,s∈m4 i->∀j,Ww F s=A j->top u i=top u j
end
end
def Yt(f:Nat->Nat)(n:Nat):List Nat:=(List.range n).filter λi=>f i=i
def grp(f:Nat->Nat)(n r:Nat):List Nat:=(List.range n).filter λj=>f j=r
def aFG(f:Nat->Nat)(n:Nat):List (List Nat):=(Yt f n).map (grp f n)
def aFo(f:Nat->Nat)(n x:Nat):Nat:=(Yt f n).idxOf (f x)
end Go.Proofs.C
namespace Go.Proofs.C
open Go.Proofs.Tryz
open Go.Abs
theorem OZ{l}(h:lU l=N):0<C l/\C l<=200/\∀e∈l,gN e=N:=by
 rw[lU,l6]at h
 grind
open Go.Lib
theorem aA5(u:Nat):∀H,u<1000000000->RC 222 [iv (u:Int)] (sv (a_ (decDigits u))) H:=by
 induction u using Nat.strongRecOn with
 | ind u g =>
  intro H F;refine Pu<|Bd func222 Z ntmps222<|Sz aJ<|S<|O aA<|V cF<|Cn ?_ ?_<;>intro d
  .have f:u<10:=I_ d
   have B:T (⟨#[48,49,50,51,52,53,54,55,56,57]⟩:B_)=10:=rfl;have i:(⟨#[48,49,50,51,52,53,54,55,56,57]⟩:B_).extract u (u+1)=a_ (decDigits u):=by
    rw[decDigits,dif_pos f];have h:u=0\/u=1\/u=2\/u=3\/u=4\/u=5\/u=6\/u=7\/u=8\/u=9:=X
    rcases h with rfl|rfl|rfl|rfl|rfl|rfl|rfl|rfl|rfl|rfl<;>rfl
   exact O aA<|Y aA<|Y iH<|Y (bP (l:=u) (h:=u+1) Z U_ Z Z Z X X i)<|V aJ<|aC<|Rt<|Qq
  have f:¬ u<10:=J_ d
  have j:ξ.wrap ((u:Int).tdiv 10)=((u / 10:Nat):Int):=by
   rw[show (u:Int).tdiv 10=((u / 10:Nat):Int)from rfl];exact lZ X X
  have D:T (a_ (decDigits (u / 10)))<=9:=by rw[cB];exact cU X E_
  have E:T (a_ (decDigits (u % 10)))<=1:=by rw[cB];exact cU X E_
  have k:a_ (decDigits (u / 10))++a_ (decDigits (u % 10))=a_ (decDigits u):=sg (by
   rw[show (a_ (decDigits (u / 10))++a_ (decDigits (u % 10))).data.toList=(a_ (decDigits (u / 10))).data.toList++(a_ (decDigits (u % 10))).data.toList by simp,cJ,cJ,cJ];rw[show decDigits u=decDigits (u / 10)++[UInt8.ofNat (48+u % 10)]by rw[decDigits,dif_neg f]];congr 1;rw[decDigits,dif_pos X])
  exact aB<|O aA<|Y (DF Z Z Z E_ j)<|Y (kc call222 (g (u / 10) X _ X))<|Y aA<|Y (AF Z Z Z E_ (rfl:(u:Int).tmod 10=((u % 10:Nat):Int)))<|Y (kc call222 (g (u % 10) X _ X))<|Y (fC Z Z Z X k)<|V aJ<|aC<|Rt<|Qq
theorem CC{a:List _}{k}{w}(h:a[k]?=A w):a_ (bZ [32] (bs (a.take (k+1))))=(if 0<k then a_ (bZ [32] (bs (a.take k)))++⟨#[32]⟩else a_ (bZ [32] (bs (a.take k))))++w:=by
 have b:=(m_.1 h).1;refine sg ?_;rw[take_add_one,h,bs];cases k with
 |zero =>
  simp[bZ,bs,a_]
 | succ k =>
  cases a with
  |nil=>cases b
  |cons x l =>
   simp[a_,bs,bZ]
theorem GE(a:List B_)(H:aF)(K:dA a+C a<2^40):RC 221 [.pv (aL a)] (sv (a_ (bZ [32] (bs a)))) H:=by
 refine Pu ?_;have E:C (a.map S_)=C a:=g_ _;refine Bd func221 Z ntmps221<|Sz aJ<|Sz aJ<|S<|Sz aJ<|aD<|bC (σ:=Nat) (λk=>([(0,.pv (aL a)),(3,sv (a_ (bZ [32] (bs (a.take k))))),(4,iv (k:Int))],[])) (λk=>k<=C a) (λk=>C a - k) 0 (k_ _) ?_ ?_
 .exact Wk
 rintro k L;have G:T (a_ (bZ [32] (bs (a.take k))))<=dA a+C a:=by
  rw[cB];have m:=gD (a.take k);have n:=oO a k;have J:C (a.take k)<=C a:=F_
  omega
 refine S<|O aA<|Y aA<|Y (fJ aE)<|V cF<|Cn ?_ ?_<;>intro g
 .have h:k<C a:=I_ g
  have ⟨w,j⟩:=aR h;have D:=cC (f:=S_) j;have d:=CC j;have I:T w<=dA a:=by
   have m:=yH j;have n:=oO a (k+1);omega
  have B:T (⟨#[32]⟩:B_)=1:=rfl;have F:T (a_ (bZ [32] (bs (a.take k)))++⟨#[32]⟩)=T (a_ (bZ [32] (bs (a.take k))))+1:=F_
  refine aB<|S<|aD<|S<|O aA<|V iZ<|Cn ?_ ?_<;>intro f
  .have i:0<k:=I_ f
   rw[b6 i]at d;refine Rd aA<|Y kq<|V aJ<|Rd aA<|Y aA<|Y aA<|Y (jA aZ)<|Y (fK N_)<|Y kq<|V aJ<|Rd aA<|Y iH<|Da ?_;refine⟨k+1,X,X,?_⟩;rw[d];exact Wk
  have i:¬ 0<k:=J_ f
  rw[a8 i]at d;refine aB<|Rd aA<|Y aA<|Y aA<|Y (jA aZ)<|Y (fK N_)<|Y kq<|V aJ<|Rd aA<|Y iH<|Da ?_;refine⟨k+1,X,X,?_⟩;rw[d];exact Wk
 have l:k=C a:=J_ g
 subst l;rw[take_length];exact aP<|O aA<|V aJ<|aC<|Rt<|Qq
def T0(s:B_)(n:Int):Bool:=(List.range (T s)).any λj=>θ (bA s j=n)
theorem My(s)(n:Int)(H:aF)(D:T s<2^62):RC 262 [sv s,.pv (.int .u8 n)] (bv (T0 s n)) H:=by
 refine Pu<|Bd func262 Z ntmps262<|Sz aJ<|S<|Sz aJ<|aD<|bC (σ:=Nat) (λk=>([(0,sv s),(1,.pv (.int .u8 n)),(5,iv (k:Int))],[])) (λk=>k<=T s/\∀j,j<k->θ (bA s j=n)=η) (λk=>T s - k) 0 ⟨X,X⟩ ?_ ?_
 .exact E0
 rintro k ⟨hk,e⟩;refine S<|O aA<|Y aA<|Y (gG U_)<|V cF<|Cn ?_ ?_<;>intro b
 .have f:k<T s:=I_ b
  refine aB<|S<|aD<|O aA<|Y aA<|Y (cL Z U_ Z Z X (Z) X Z)<|Y aA<|V cG<|Cn ?_ ?_<;>intro c
  .refine Sz aJ<|aC<|Rt ?_;exact⟨by rw[T0,uV f c],Z⟩
  refine aB<|Rd aA<|Y iH<|Da ?_;refine⟨k+1,⟨X,λj B=>?_⟩,X,E0⟩
  grind
 have d:k=T s:=J_ b
 subst d;refine aP<|Sz aJ<|aC<|Rt ?_;exact⟨by rw[T0,B1 e],Z⟩
theorem Wq:∀n:Fin 256,(T0 ⟨#[32,9,10]⟩ (n.val:Int)=θ (zF (n.val)=1))/\(θ ((n.val:Int)=35)=θ (zF (n.val)=2))/\(T0 ⟨#[59,44,46,58,40,41,123,125,91,93,61,60,62,47,45]⟩ (n.val:Int)=θ (zF (n.val)=6))/\(θ ((n.val:Int)=34)=θ (zF (n.val)=7))/\(T0 ⟨#[92,34,110]⟩ (n.val:Int)=(tT (UInt8.ofNat n.val)).isSome):=by decide +kernel
theorem bw(s)(k):(T0 ⟨#[32,9,10]⟩ (bA s k)=θ (zF (bA s k)=1))/\(θ (bA s k=35)=θ (zF (bA s k)=2))/\(T0 ⟨#[59,44,46,58,40,41,123,125,91,93,61,60,62,47,45]⟩ (bA s k)=θ (zF (bA s k)=6))/\(θ (bA s k=34)=θ (zF (bA s k)=7))/\(T0 ⟨#[92,34,110]⟩ (bA s k)=(tT (pN s k)).isSome):=by
 have h:=Wq ⟨(bA s k).toNat,CK s k⟩;have e:UInt8.ofNat (bA s k).toNat=pN s k:=by rw[uB,l_,UInt8.ofNat_toNat]
 rw[e]at h;exact h
theorem szW(w:List _):T (⟨w.toArray⟩:B_)=C w:=rfl
theorem F8(w)(t):(⟨w.toArray⟩:B_)++t=⟨(w++ν (μ t)).toArray⟩:=nM (Z)
theorem ke{s}{i}(h:i<T s):(s.extract i (i+1)).data.toList=[pN s i]:=by rw[gK,Nat.add_sub_cancel_left,zD h];rfl
theorem vh(s:B_)(f:Nat)(H:aF)(hs:T s<2^40)(ha:f<T s):RC 263 [sv s,iv (f:Int)] (.tup [sv (yD (oN (s.data.toList.drop (f+1))) [] (f+1)).1,iv (yD (oN (s.data.toList.drop (f+1))) [] (f+1)).2,bv (oN (s.data.toList.drop (f+1))).isSome]) H:=by
 refine Pu ?_;have ⟨j,x⟩:∃j,j=yD (oN (s.data.toList.drop (f+1))) [] (f+1):=X_;have ⟨ok,E⟩:∃ok,ok=(oN (s.data.toList.drop (f+1))).isSome:=X_;rw[<-x,<-E];refine Bd func263 Z ntmps263<|O aJ<|Y aJ<|V aJ<|Sz aJ<|S<|O aA<|Y iH<|V aJ<|aD<|dU (λ(i:Nat) (w:List UInt8)=>([(0,sv s),(7,sv ⟨w.toArray⟩),(8,iv (i:Int))],[])) (λi w=>C w<=i/\i<2199023255552/\j=yD (oN (s.data.toList.drop i)) w i/\ok=(oN (s.data.toList.drop i)).isSome) (λi w=>T s+1 - i) (f+1) [] ⟨k_ _,X,x,E⟩ ?_ ?_
 .exact E0
 rintro i w ⟨hwl,hib,d,a⟩;have r:=szW w;refine S<|O aA<|Y aA<|Y (gG U_)<|V cF<|Cn ?_ ?_<;>intro c
 .have F:i<T s:=I_ c
  have o:=zD F;have Q:=ke F;have L:(⟨w.toArray⟩:B_)++s.extract i (i+1)=⟨(w++[pN s i]).toArray⟩:=by rw[F8,Q]
  have u:=gE s i (i+1);refine aB<|S<|aD<|O aA<|Y aA<|Y (ky U_)<|V aJ<|S<|O aA<|V cG<|Cn ?_ ?_<;>intro m4
  .have n:pN s i=34:=b8 (CM (n:=34) E_ m4);have t:j=(⟨w.toArray⟩,((i+1:Nat):Int)):=by rw[d,o,n,CW,yD,append_nil]
   have g:ok=N:=by rw[a,o,n,CW];rfl
   rw[t,g];refine O aA<|Y aA<|Y iH<|Y aJ<|Y aJ<|V aJ<|aC<|mP (H':=[]) (.inr Z) Z (aI Z) (aI Z) (aI Z) P_ ?_;exact Qq
  have y:pN s i≠34:=b_ (CM (n:=34) E_ m4);refine aB<|S<|O aA<|V cG<|Cn ?_ ?_<;>intro K
  .have n:pN s i=10:=b8 (CM (n:=10) E_ K);have t:j=(a6,0):=by rw[d,o,n,MW,yD]
   have g:ok=η:=by rw[a,o,n,MW];rfl
   rw[t,g];refine O aJ<|Y aJ<|V aJ<|aC<|mP (H':=[]) (.inr Z) Z (aI Z) (aI Z) (aI Z) P_ ?_;exact Qq
  have v:pN s i≠10:=b_ (CM (n:=10) E_ K);refine aB<|S<|O aA<|V yQ<|Cn ?_ ?_<;>intro m
  .have z:pN s i≠92:=by
    have h:θ (bA s i=92)=η:=F_
    exact b_ (CM (n:=92) E_ h)
   refine O aA<|Y aA<|Y aA<|Y aA<|Y iH<|Y (bP (l:=i) (h:=(i+1)) Z U_ Z Z Z X X Z)<|Y (fC Z Z Z X L)<|V aJ<|aP<|Rd aA<|Y iH<|Da ?_;refine⟨i+1,w++[pN s i],⟨F_,X,?_,?_⟩,X,E0⟩
   .rw[d,o,CX y v z,BT]
   rw[a,o,CX y v z,Option.isSome_map]
  have n:pN s i=92:=by
   have h:θ (bA s i=92)=N:=F_
   exact b8 (CM (n:=92) E_ h)
  by_cases W:i+1<T s
  .have p:θ ((T s:Int)<=(i:Int)+1)=η:=decide_eq_false X;have q:=zD W;have G:=(bw s (i+1)).2.2.2.2;have P:=ke W;have k:=gE s (i+1) (i+1+1);have B:(⟨w.toArray⟩:B_)++s.extract (i+1) (i+1+1)=⟨(w++[pN s (i+1)]).toArray⟩:=by rw[F8,P]
   have i_:(⟨w.toArray⟩:B_)++⟨#[10]⟩=⟨(w++[10]).toArray⟩:=by rfl
   refine aB<|O aA<|Y iH<|V aJ<|S<|O aA<|Y aA<|Y (gG U_)<|Y (cP.valY (jZ Z Z Z) (p))<|Y aA<|U aA<|U aA<|U (ky U_)<|U (bH Z Z call262 Z (My ⟨#[92,34,110]⟩ (bA s (i+1)) _ E_))<|U iE<|V cE<|Cn ?_ ?_<;>intro R
   .have f_:tT (pN s (i+1))=ζ:=by
     simp_all
    have t:j=(a6,0):=by rw[d,o,n,q,vL,f_];rfl
    have g:ok=η:=by rw[a,o,n,q,vL,f_];rfl
    rw[t,g];refine O aJ<|Y aJ<|V aJ<|aC<|mP (H':=[]) (.inr Z) Z (aI Z) (aI Z) (aI Z) P_ ?_;exact Qq
   have ⟨b,l⟩:∃b,tT (pN s (i+1))=A b:=by
    rw[G]at R;cases l:tT (pN s (i+1))with
    |none=>simp_all
    |some b=>simp_all
   refine aB<|O aA<|Y aA<|Y (ky U_)<|V cG<|Cn ?_ ?_<;>intro I
   .have D:pN s (i+1)=110:=b8 (CM (n:=110) E_ I);have J:b=10:=by rw[D]at l;exact(Option.some.inj l).symm
    refine Rd aA<|Y (by exact fC Z Z Z (by show T (⟨w.toArray⟩:B_)+1<=_;omega) i_)<|V aJ<|Rd aA<|Y iH<|Da ?_;refine⟨i+1+1,w++[10],⟨by rw[j8,length_singleton];omega,X,?_,?_⟩,X,E0⟩
    .rw[d,o,n,q,vL,l,J];exact BT
    rw[a,o,n,q,vL,l];exact Option.isSome_map
   have D:pN s (i+1)≠110:=b_ (CM (n:=110) E_ I);have J:b=pN s (i+1):=by
    rw[tT]at l
    split at l
    .rename_i e;rw[e];exact(Option.some.inj l).symm
    split at l
    .rename_i e;rw[e];exact(Option.some.inj l).symm
    first
    |cases l
    |(rw[a8 D]at l;cases l)
   refine Rd aA<|Y aA<|Y aA<|Y aA<|Y iH<|Y (bP (l:=(i+1)) (h:=(i+1+1)) Z U_ Z Z Z X X Z)<|Y (fC Z Z Z X B)<|V aJ<|Rd aA<|Y iH<|Da ?_;refine⟨i+1+1,w++[pN s (i+1)],⟨by rw[j8,length_singleton];omega,X,?_,?_⟩,X,E0⟩
   .rw[d,o,n,q,vL,l,J];exact BT
   rw[a,o,n,q,vL,l]
   simp_all
  have p:θ ((T s:Int)<=(i:Int)+1)=N:=decide_eq_true X;have t:j=(a6,0):=by rw[d,o,n,CI X];rfl
  have g:ok=η:=by rw[a,o,n,CI X];rfl
  rw[t,g];refine aB<|O aA<|Y iH<|V aJ<|S<|O aA<|Y aA<|Y (gG U_)<|Y (cP.valY (jZ Z Z Z) (p))<|Y aA<|M<|M<|M<|M<|M<|V cE<|Cn ?_ ?_<;>intro o_
  .refine O aJ<|Y aJ<|V aJ<|aC<|mP (H':=[]) (.inr Z) Z (aI Z) (aI Z) (aI Z) P_ ?_;exact Qq
  ((cases o_;done))
 have p:T s<=i:=J_ c
 have t:j=(a6,0):=by rw[d,CI p];rfl
 have g:ok=η:=by rw[a,CI p];rfl
 rw[t,g];refine aP<|O aJ<|Y aJ<|V aJ<|aC<|mP (H':=[]) (.inr Z) Z (aI Z) (aI Z) (aI Z) P_ ?_;exact Qq
theorem M9(s:B_)(H:aF)(G:T s<17592186044416):RC 223 [sv s] (sv ⟨(cX (ν (μ s))).toArray⟩) H:=by
 refine Pu ?_;have I:=aU s;refine Bd func223 Z ntmps223<|Sz aJ<|Sz aJ<|Sz aJ<|S<|Sz aJ<|aD<|CO (λ(i f:Nat) (w:List UInt8)=>([(0,sv s),(3,sv ⟨w.toArray⟩),(4,iv (f:Int)),(5,iv (i:Int))],[])) (λi f w=>f<=i/\i<=T s/\C w<=C (lW s i)/\w++(s.data.toList.drop f).take (i - f)=lW s i) (λi f w=>T s - i) 0 0 [34] ⟨h_ _,k_ _,h_ _,Z⟩ ?_ ?_
 .exact E0
 rintro i f w ⟨hf,hi,hwl,k⟩;have L:=gd (s:=s) (k:=i) G;have J:=szW w;refine S<|O aA<|Y aA<|Y (gG U_)<|V cF<|Cn ?_ ?_<;>intro x
 .have e:i<T s:=I_ x
  have d:=XE e;have g:=gK s f i;have c:(⟨w.toArray⟩:B_)++s.extract f i=⟨(lW s i).toArray⟩:=by rw[F8,g,k]
  have B:=szW (lW s i);have o:(⟨(lW s i).toArray⟩:B_)++⟨#[92,110]⟩=⟨(lW s i++[92,110]).toArray⟩:=by rfl
  have p:(⟨(lW s i).toArray⟩:B_)++⟨#[92]⟩=⟨(lW s i++[92]).toArray⟩:=by rfl
  have K:=gE s f i;refine aB<|S<|aD<|O aA<|Y aA<|Y (ky U_)<|V cG<|Cn ?_ ?_<;>intro q
  .have v:pN s i=10:=b8 (CM (n:=10) E_ q);have t:qY (pN s i)=[92,110]:=by rw[qY,b6 v]
   rw[t]at d;refine O aA<|Y aA<|Y aA<|Y aA<|Y (bP (l:=f) (h:=i) Z U_ Z Z Z X X Z)<|Y (fC Z Z Z X c)<|Y (by exact fC Z Z Z (by show T (⟨(lW s i).toArray⟩:B_)+2<=_;omega) o)<|V aJ<|Rd aA<|Y iH<|V aJ<|Rd aA<|Y iH<|Da ?_;refine⟨i+1,i+1,lW s i++[92,110],⟨h_ _,e,F_,F_⟩,X,E0⟩
  have n:¬ pN s i=10:=b_ (CM (n:=10) E_ q);refine S<|aT (t:=34) (n:=11) (A_:=θ (bA s i=34)||θ (bA s i=92)) ?_ ?_
  .all_goals refine Y aA<|Y aA<|Y (ky U_)<|Y cG<|Dm ?_<;>(refine Sp 29 (λP=>?_) λP=>?_)<;>(first|exact s_|refine M<|M<|M<|M ?_|refine U aA<|U aA<|U (ky U_)<|U cG ?_)<;>refine V cE ?_<;>exact Gj (h:=by simp_all)
  refine Cn ?_ ?_<;>intro j
  .have v:pN s i=34\/pN s i=92:=by
    rw[Bool.or_eq_true]at j;rcases j with h|h
    .exact .inl (b8 (CM (n:=34) E_ h))
    exact .inr (b8 (CM (n:=92) E_ h))
   have t:qY (pN s i)=[92,pN s i]:=by rw[qY,a8 n,b6 v]
   rw[t]at d;refine O aA<|Y aA<|Y aA<|Y aA<|Y (bP (l:=f) (h:=i) Z U_ Z Z Z X X Z)<|Y (fC Z Z Z X c)<|Y (by exact fC Z Z Z (by show T (⟨(lW s i).toArray⟩:B_)+1<=_;omega) p)<|V aJ<|Rd aA<|V aJ<|Rd aA<|Y iH<|Da ?_;refine⟨i+1,i,lW s i++[92],⟨le_succ _,e,F_,by rw[d,Nat.add_sub_cancel_left,zD e,append_assoc];rfl⟩,X,E0⟩
  have v:¬ (pN s i=34\/pN s i=92):=by
   rw[r6]at j;rintro(h|h)
   .exact absurd h (b_ (CM (n:=34) E_ j.1))
   exact absurd h (b_ (CM (n:=92) E_ j.2))
  have t:qY (pN s i)=[pN s i]:=by rw[qY,a8 n,a8 v]
  rw[t]at d;have z:(s.data.toList.drop f).take (i+1 - f)=(s.data.toList.drop f).take (i - f)++[pN s i]:=by
   have F:i+1 - f=(i - f)+1:=X
   have D:(s.data.toList.drop f)[i - f]?=A (pN s i):=by
    rw[getElem?_drop,show f+(i - f)=i by omega];have E:=zD e;exact(TY E).1
   rw[F,take_add_one,D];rfl
  refine aB<|Rd aA<|Y iH<|Da ?_;refine⟨i+1,f,w,⟨X,e,by rw[d,j8];omega,by rw[z,<-append_assoc,k,d]⟩,X,E0⟩
 have y:i=T s:=J_ x
 subst y;have g:=gK s f (T s);have c:(⟨w.toArray⟩:B_)++s.extract f (T s)=⟨(lW s (T s)).toArray⟩:=by rw[F8,g,k]
 have B:=szW (lW s (T s));have K:=gE s f (T s);have u:(⟨(lW s (T s)).toArray⟩:B_)++⟨#[34]⟩=⟨(cX (ν (μ s))).toArray⟩:=by
  rw[F8,lW,take_of_length_le X,cX];rfl
 exact aP<|O aA<|Y aA<|Y aA<|Y (bP (l:=f) (h:=T s) Z U_ Z Z Z X X Z)<|Y (fC Z Z Z X c)<|Y (by exact fC Z Z Z (by show T (⟨(lW s (T s)).toArray⟩:B_)+1<=_;omega) u)<|V aJ<|aC<|Rt<|Qq
abbrev oBx(o:l7):Ob:=bx 6 135 ((bT o).map .pv)
def VA(l:List B_):List (List AV):=l.map λs=>[sv s]
theorem ZQ(l):C (VA l)=C l:=g_ _
theorem mK(H)(l):∀r∈VA l,∀a∈r,Clo H a:=by intro r c a b;obtain ⟨x,_,rfl⟩:=mem_map.1 c;rw[q_]at b;subst b;simp
instance(H)(l):W_ (H) (VA l):=⟨mK H l⟩
theorem ZR{l}{k:Nat}{s}(h:l[k]?=A s):(VA l)[k]?=A [sv s]:=by rw[VA,r7,h];rfl
theorem ZS(l)(s):VA l++[(S_ s).map AV.pv]=VA (l++[s]):=by rw[VA,VA,map_append];rfl
theorem Jb(l):VA l=(l.map S_).map (·.map .pv):=by rw[map_map];rfl
theorem fmC{α β:Type}{f g:α->List β}:∀ {l:List _},(∀x∈l,f x=g x)->l.flatMap f=l.flatMap g
 | [],_=>rfl
 |x::l,h=>by rw[List.flatMap_cons,List.flatMap_cons,h x List.mem_cons_self,fmC λy a=>h y (List.mem_cons_of_mem _ a)]
theorem aDj{x}(h:0<=x):aV x=a_ (decDigits x.toNat):=by rw[aV,kN _ h];rfl
theorem QB(x)(H)(a:0<=x)(B:x<1000000000):RC 222 [iv x] (sv (aV x)) H:=by obtain ⟨u,rfl⟩:=Int.eq_ofNat_of_zero_le a;exact aA5 u H X
def wO(o:l7)(e_:List B_)(k:Nat):List B_:=[eP o.kind,o.id]++e_++(o.tags.take k).map jB
theorem uo{o}{e_}{k}{t}(h:o.tags[k]?=A t):wO o e_ (k+1)=wO o e_ k++[jB t]:=by rw[wO,take_add_one,h,map_append,<-append_assoc];rfl
theorem GM(a b):dA (a++b)=dA a+dA b:=by rw[dA,dA,dA,map_append,sum_append]
theorem qk{o}(d:oY o=N):fM o=if 20000<T (EP o) then(a6,2)else(EP o,0):=by
 rw[fM,b6 d];by_cases h:0<C o.tags/\(kB o.tags).2≠0
 .have b:=(CH d).2.2.1;rw[b6 h];have a:=h.2;rw[kB,b6 b]at a |-
  split at a
  .next c =>
   rw[b6 c,b6 _];rw[EP,<-aU];rw[sV,j8];cases e:o.tags with
   |nil=>simp_all
   |cons t l =>
    rw[e]at c;have:=WT t l;have f:=congrArg List.length this;rw[aU]at f;rw[nZ,flatMap_cons,j8,j6];rw[j8,nZ]at f;omega
  exact absurd Z a
 simp_all
theorem uq(o)(e_):(a_ (bZ [32] (bs (wO o e_ (C o.tags))))).data.toList=(eP o.kind).data.toList++32::(ν (μ o.id)++e_.flatMap λs=>32::ν (μ s))++nZ o.tags:=by rw[cJ,wO,take_length,cons_append,cons_append,bs,map_cons,bZ];simp only[map_cons,map_append,flatMap_cons,flatMap_append,flatMap_map,nil_append,append_assoc,cons_append];congr 3;congr 1;refine fmC λt _=>?_;rw[NN]
theorem ur{o}{e_}(B:(eP o.kind).data.toList++32::(ν (μ o.id)++e_.flatMap λs=>32::ν (μ s))=mN o):a_ (bZ [32] (bs (wO o e_ (C o.tags))))=EP o:=sg (by
 rw[uq,B];rfl)
theorem X7:∀(l) (k),C (bZ [32] (bs (l.take k)))<=C (bZ [32] (bs l))
 | [],k=>by simp
 |x::l,0=>k_ _
 |x::l,k+1=>by
  rw[List.take_succ_cons,yW,yW,j8,j8,HC,HC];have B:=oO l k;have D:C (l.take k)<=C l:=G_
  omega
theorem AC(a b:B_):T (a++b)=T a+T b:=ByteArray.size_append
theorem DB(o:l7)(H:aF)(ho:mw o):RC 217 [av (bT o)] (.tup [sv (fM o).1,iv (fM o).2]) H:=by
 refine Pu ?_;have hmt:C (o.tags.map cA)=C o.tags:=g_ _;have hmr:C (o.refs.map S_)=C o.refs:=g_ _;refine Bd func217 Z ntmps217<|O (kb 1)<|Y aJ<|V aJ<|S<|O (by exact aX Z cD sizeOf135 Z Z Z Z (by simp only[Zl,cA,bT,S_,bM,gV];rfl) Z)<|Y (kc call261 (Jt o _ ho))<|V iE ?_;refine Cn ?_ ?_<;>intro κ
 .have m4:oY o=η:=by have h:=κ;rwa [r9]at h
  have e:fM o=(a6,1):=by rw[fM,a8 F_]
  rw[e];exact O aJ<|V aJ<|aC<|Ru<|Qq
 have m4:oY o=N:=by have h:=κ;rwa [Bool.not_eq_false']at h
 have ⟨hr,p,htg,hid,_⟩:=CH m4;have ⟨hx,hy,hn,hz⟩:=ma m4;have D:=(BQ (G9 m4)).1;have hws:=dR D;have his:=dR hid;have hT:=qk m4;have o_:∀t∈o.tags,T t.key<=24/\T t.val<=200:=λt p=>by
  have ⟨p1,_,_⟩:=yB.1 htg;have:=p1 t p;exact⟨dR this.1,this.2.2⟩
 have ρ:∀k,dA ((o.tags.take k).map jB)<=60*427:=λk=>by
  have q:∀l:List m9,(∀t∈l,t∈o.tags)->dA (l.map jB)<=C l*427:=by
   intro l
   induction l with
   |nil=>intro _;exact k_ _
   |cons t l ih =>
    intro h;rw[map_cons,cM,j6,Nat.add_mul];have v:=ih λx hx=>h x (mem_cons_of_mem _ hx);have e_:=o_ t (h t mem_cons_self);have h4:=X0 e_.1 e_.2;omega
  have v:=q (o.tags.take k) λt p=>List.mem_of_mem_take p;have e_:C (o.tags.take k)<=60:=G_
  have h4:C (o.tags.take k)*427<=60*427:=Nat.mul_le_mul_right _ e_;omega
 refine aB<|S<|aN a7<|Cs (λ_ h=>fh eK h)<|Cs (λ_ h=>lh M_ h)<|Cs (λH1 c=>by exact bH Z Z call214 Z (GQ o.kind _))<|Cs (λ_ h=>fh rI h)<|Cs (λ_ h=>lh N_ h) ?_;refine iR (r:=⟨_,ζ,[_]⟩) (DStep.plain Z (λH1 c=>by exact eQ (id:=901) Z aZ Z Z Z Z F_ ((c _ Z).trans Z))) Z ?_;refine Cs (λ_ _=>aJ)<|bG<|Kr<|S<|S ?_;refine gO.ent (E':=[(1,.ref 1 0 0 0),(4,.osl 901 0 0 2)]) (H':=[(901,⟨0,1,9,VA [eP o.kind,o.id]⟩),(1,oBx o)]) L_<|Rd (bD eK)<|Y (bU M_)<|V cG<|Cn ?_ ?_<;>intro A_
 .have j:o.kind=1:=b8 A_;have six:T (aV o.x)<=7:=by rw[<-aU];show C (Lib.itoa o.x)<=7;rw[kN _ hx.1];exact cU X E_
  have siy:T (aV o.y)<=7:=by rw[<-aU];show C (Lib.itoa o.y)<=7;rw[kN _ hy.1];exact cU X E_
  have hMs:dA [aV o.x,aV o.y]=T (aV o.x)+(T (aV o.y)+0):=by rw[cM,cM];rfl
  have hMl:C ([aV o.x,aV o.y]:List B_)=2:=rfl;have Q:(eP o.kind).data.toList++32::(ν (μ o.id)++([aV o.x,aV o.y]:List B_).flatMap λs=>32::ν (μ s))=mN o:=by
   rw[mN,b6 j];simp[aV]
  have b:fM o=if 20000<T (a_ (bZ [32] (bs (wO o [aV o.x,aV o.y] (C o.tags))))) then(a6,2)else(a_ (bZ [32] (bs (wO o [aV o.x,aV o.y] (C o.tags)))),0):=by rw[ur Q];exact hT
  refine aN a7<|Cs (λ_ _=>aA)<|Cs (λ_ h=>fh nC h)<|Cs (λ_ h=>fh nE h)<|Cs (λ_ h=>lh M_ h)<|Cs (λH1 c=>by exact bH Z Z call222 Z (QB o.x _ X X))<|Cs (λ_ h=>fh nC h)<|Cs (λ_ h=>fh nD h)<|Cs (λ_ h=>lh M_ h)<|Cs (λH1 c=>by exact bH Z Z call222 Z (QB o.y _ X X))<|Cs (λH1 c=>by exact aM [S_ (aV o.x),S_ (aV o.y)] Z aZ Z Z Z Z Z v6) ?_;refine iR (r:=⟨_,ζ,[_]⟩) (DStep.plain Z (λH1 c=>by exact bW (ps:=[S_ (aV o.x),S_ (aV o.y)]) Z aZ sZ Z ((c _ Z).trans Z) Z Z Z Z Z v6 (m:=2) Z X Z (rfl:_=VA (wO o [aV o.x,aV o.y] 0)))) Z ?_;refine Cs (λ_ _=>aJ)<|bG<|Kr<|S<|Sz aJ<|aD ?_;have τ:dA ([eP o.kind,o.id]++[aV o.x,aV o.y])<=70000:=by rw[GM];have:dA [eP o.kind,o.id]=T (eP o.kind)+(T o.id+0):=(by rw[cM,cM];rfl);omega
  have K:∀k,k<=C o.tags->C (wO o [aV o.x,aV o.y] k)<=64:=λk j=>by rw[wO,j8,j8,g_,q9];show 2+_+_<=_;omega
  have R:∀k,dA (wO o [aV o.x,aV o.y] k)<=100000:=λk=>by
   rw[wO,GM];have q:=ρ k;omega
  refine bC (σ:=Nat) (λk=>([(1,.ref 1 0 0 0),(4,.osl 901 (1+k) 0 (C (wO o [aV o.x,aV o.y] k))),(7,iv (k:Int))],[(901,⟨1+k,1,9,VA (wO o [aV o.x,aV o.y] k)⟩),(1,oBx o)])) (λk=>k<=C o.tags) (λk=>C o.tags - k) 0 (k_ _) ?_ ?_
  .exact L_
  rintro k j;have P:=K k j;refine S<|O aA<|Y (bD gJ)<|Y (bU dN)<|Y (fJ dY)<|V cF<|Cn ?_ ?_<;>intro δ
  .have hlt:k<C o.tags:=I_ δ
   have ⟨t,p⟩:=aR hlt;have hit:=cC (f:=cA) p;have J:=uo (e_:=[aV o.x,aV o.y]) p;have L:C (wO o [aV o.x,aV o.y] k++[jB t])=C (wO o [aV o.x,aV o.y] k)+1:=by rw[j8];rfl
   have ⟨hks,hvs⟩:=o_ t (m7 p);have i:=rY t.val;have h61:T (⟨#[61]⟩:B_)=1:=rfl;have hk1:T (t.key++(⟨#[61]⟩:B_))=T t.key+1:=AC _ _;refine aB<|S<|aD<|aN a7<|Cs (λ_ _=>aA)<|Cs (λ_ h=>fh gJ h)<|Cs (λ_ h=>lh dN h)<|Cs (λ_ _=>aA)<|Cs (λ_ _=>(jA lY))<|Cs (λ_ _=>(FV qK))<|Cs (λ_ _=>(fK N_))<|Cs (λH1 c=>by exact fC Z Z Z X Z)<|Cs (λ_ h=>fh gJ h)<|Cs (λ_ h=>lh dN h)<|Cs (λ_ _=>aA)<|Cs (λ_ _=>(jA lY))<|Cs (λ_ _=>(FV rF))<|Cs (λ_ _=>(fK N_))<|Cs (λH1 c=>by exact bH Z Z call223 Z (M9 t.val _ X))<|Cs (λH1 c=>by exact fC Z Z Z X Z)<|Cs (λH1 c=>by exact aM [S_ (jB t)] Z aZ Z Z Z Z Z R_) ?_;refine iR (r:=⟨_,ζ,[_]⟩) (DStep.plain Z (λH1 c=>by exact bW (ps:=[S_ (jB t)]) Z aZ sZ Z ((c _ Z).trans Z) Z Z Z (ZQ _) Z R_ (m:=1) Z X Z (ZS _ (jB t)))) Z ?_;refine Cs (λ_ _=>aJ)<|bG<|Kr<|Rd aA<|Y iH<|Da ?_;refine⟨k+1,X,X,?_⟩;rw[J,L];exact L_
  have d:k=C o.tags:=J_ δ
  subst d;have ⟨W,hW⟩:∃W,W=wO o [aV o.x,aV o.y] (C o.tags):=X_;have u:=R (C o.tags);rw[<-hW]at P u b;rw[<-hW];have ⟨F,z⟩:∃F,F=a_ (bZ [32] (bs W)):=X_;rw[<-z]at b;refine aP<|Sz aJ<|S<|Sz aJ<|aD<|bC (σ:=Nat) (λk=>([(4,.osl 901 (1+C o.tags) 0 (C W)),(8,sv (a_ (bZ [32] (bs (W.take k))))),(9,iv (k:Int))],[(901,⟨1+C o.tags,1,9,VA W⟩)])) (λk=>k<=C W) (λk=>C W - k) 0 (k_ _) ?_ ?_
  .exact L_
  rintro k j;have hsz:T (a_ (bZ [32] (bs (W.take k))))<=100064:=by
   rw[cB];have q:=gD (W.take k);have v:=oO W k;have e_:C (W.take k)<=C W:=by rw[q9];exact Nat.min_le_right _ _
   omega
  refine S<|O aA<|Y aA<|Y (by exact dQ Z aE Z Z Z)<|V cF<|Cn ?_ ?_<;>intro z_
  .have hlt:k<C W:=I_ z_
   have ⟨w,D⟩:=aR hlt;have g:=ZR D;have J:=CC D;have hws:T w<=100000:=by
    have q:=yH D;have v:=oO W (k+1);omega
   have y:T (⟨#[32]⟩:B_)=1:=rfl;have y_:T (a_ (bZ [32] (bs (W.take k)))++⟨#[32]⟩)=T (a_ (bZ [32] (bs (W.take k))))+1:=AC _ _;refine aB<|S<|aD<|S<|O aA<|V iZ<|Cn ?_ ?_<;>intro γ
   .have i:0<k:=I_ γ
    rw[b6 i]at J;refine Rd aA<|Y kq<|V aJ<|Rd aA<|Y aA<|Y aA<|Y (by exact dK Z aZ Z Z Z Z Z X (by exact l_ _) hlt (r8 _))<|Y (by exact aY Z N_ Z Z Z g Z)<|Y kq<|V aJ<|Rd aA<|Y iH<|Da ?_;refine⟨k+1,X,X,?_⟩;rw[J];exact(cH.wk (Ea<|Eb<|Eb<|T_) (Hc (mK _ _)<|T_) T_)
   have i:¬ 0<k:=J_ γ
   rw[a8 i]at J;refine aB<|Rd aA<|Y aA<|Y aA<|Y (by exact dK Z aZ Z Z Z Z Z X (by exact l_ _) hlt (r8 _))<|Y (by exact aY Z N_ Z Z Z g Z)<|Y kq<|V aJ<|Rd aA<|Y iH<|Da ?_;refine⟨k+1,X,X,?_⟩;rw[J];exact(cH.wk (Ea<|Eb<|Eb<|T_) (Hc (mK _ _)<|T_) T_)
  have d:k=C W:=J_ z_
  subst d;rw[take_length,<-z];refine aP<|S<|O aA<|Y (gG U_)<|V iZ<|Cn ?_ ?_<;>intro β
  .have a:20000<T F:=I_ β
   rw[b,b6 a];exact O aJ<|V aJ<|aC<|Ru<|Qq
  have a:¬ 20000<T F:=J_ β
  rw[b,a8 a];exact aB<|O aA<|Y aJ<|V aJ<|aC<|Ru<|Qq
 have j:o.kind≠1:=b_ A_;have hsz:dA o.refs<=24*C o.refs:=pR (λs hs=>dR (uU m4 s hs));have hjl:=gD o.refs;have hSz:∀k,T (a_ (bZ [32] (bs (o.refs.take k))))<=50000:=λk=>by
  rw[cB];have:=X7 o.refs k;omega
 refine Sz aJ<|S<|Sz aJ<|aD<|bC (σ:=Nat) (λk=>([(1,.ref 1 0 0 0),(4,.osl 901 0 0 2),(5,sv (a_ (bZ [32] (bs (o.refs.take k))))),(6,iv (k:Int))],[(901,⟨0,1,9,VA [eP o.kind,o.id]⟩),(1,oBx o)])) (λk=>k<=C o.refs) (λk=>C o.refs - k) 0 (k_ _) ?_ ?_
 .exact L_
 rintro k hkr;have hsk:=hSz k;refine S<|S<|aT (t:=42) (n:=11) (A_:=θ ((k:Int)<(C (o.refs.map S_):Int))&&θ ((T (a_ (bZ [32] (bs (o.refs.take k)))):Int)<=20000)) ?_ ?_
 .all_goals refine Y aA<|Y (bD eJ)<|Y (bU aG)<|Y (fJ aE)<|Y cF<|Dm ?_<;>(refine Sp 38 (λh38=>?_) λh38=>?_)<;>(first|exact s_|refine M<|M<|M ?_|refine U aA<|U (gG U_)<|U EQ ?_)<;>refine V cE ?_<;>exact Gj (h:=by(rw[h38];rfl))
 refine Cn ?_ ?_<;>intro hc7
 .have hlt:k<C o.refs:=by have h:=hc7;rw[l6,j0]at h;omega
  have ⟨w,J0⟩:=aR hlt;have g:=cC (f:=S_) J0;have J:=CC J0;have hwsz:=dR (uU m4 w (m7 J0));have y:T (⟨#[32]⟩:B_)=1:=rfl;have y_:T (a_ (bZ [32] (bs (o.refs.take k)))++⟨#[32]⟩)=T (a_ (bZ [32] (bs (o.refs.take k))))+1:=AC _ _;refine aB<|S<|aD<|S<|O aA<|V iZ<|Cn ?_ ?_<;>intro hc8
  .have i:0<k:=I_ hc8
   rw[b6 i]at J;refine Rd aA<|Y kq<|V aJ<|Rd aA<|Y (bD eJ)<|Y (bU aG)<|Y aA<|Y (jA aZ)<|Y (fK N_)<|Y kq<|V aJ<|Rd aA<|Y iH<|Da ?_;refine⟨k+1,X,X,?_⟩;rw[J];exact L_
  have i:¬ 0<k:=J_ hc8
  rw[a8 i]at J;refine aB<|Rd aA<|Y (bD eJ)<|Y (bU aG)<|Y aA<|Y (jA aZ)<|Y (fK N_)<|Y kq<|V aJ<|Rd aA<|Y iH<|Da ?_;refine⟨k+1,X,X,?_⟩;rw[J];exact L_
 have I:k=C o.refs\/20000<T (a_ (bZ [32] (bs (o.refs.take k)))):=by have h:=hc7;simp only[Bool.and_eq_false_iff,n_]at h;omega
 have ⟨f_,hS⟩:∃f_,f_=a_ (bZ [32] (bs (o.refs.take k))):=X_;have ⟨B,hB⟩:∃B,B=(⟨#[40]⟩:B_)++f_++⟨#[41]⟩:=X_;rw[<-hS]at hsk I;rw[<-hS];have h40:T (⟨#[40]⟩:B_)=1:=rfl;have h41:T (⟨#[41]⟩:B_)=1:=rfl;have hA:T ((⟨#[40]⟩:B_)++f_)=1+T f_:=AC _ _;have hBs:T B=1+T f_+1:=by rw[hB,AC,hA];rfl
 have hMs:dA [B]=T B+0:=by rw[cM];rfl
 have hMl:C ([B]:List B_)=1:=rfl;have b:fM o=if 20000<T (a_ (bZ [32] (bs (wO o [B] (C o.tags))))) then(a6,2)else(a_ (bZ [32] (bs (wO o [B] (C o.tags)))),0):=by
  by_cases he:k=C o.refs
  .have Q:(eP o.kind).data.toList++32::(ν (μ o.id)++([B]:List B_).flatMap λs=>32::ν (μ s))=mN o:=by
    rw[mN,a8 j,hB,hS,he,take_length];simp[a_]
   rw[ur Q];exact hT
  have a:20000<T f_:=by rcases I with h|h;exact absurd h he;exact h
  have q:=congrArg List.length (uq o [B]);rw[aU]at q;have v:T (EP o)=C (sV o):=by rw[<-aU];rfl
  have e_:=X7 o.refs k;have h4:T f_=C (bZ [32] (bs (o.refs.take k))):=by rw[hS,cB]
  have h5:C (sV o)>=C (bZ [32] (bs o.refs)):=by
   rw[sV,mN,a8 j];simp only[j8,j6];omega
  have h6:([B]:List B_).flatMap (λs=>32::ν (μ s))=32::ν (μ B):=H_
  rw[h6]at q;simp only[j8,j6,aU]at q;rw[hT,b6 X,b6 X]
 refine aP<|Rd aA<|Y aA<|Y kq<|Y (by exact fC Z Z Z X hB.symm)<|Y (by exact aM [S_ B] Z aZ Z Z Z Z Z R_)<|Y (by exact bW (ps:=[S_ B]) Z aZ sZ Z Z Z Z Z Z Z R_ (m:=1) Z X Z (rfl:_=VA (wO o [B] 0)))<|V aJ<|S<|Sz aJ<|aD ?_;have τ:dA ([eP o.kind,o.id]++[B])<=70000:=by rw[GM];have:dA [eP o.kind,o.id]=(eP o.kind).size+(o.id.size+0):=(by rw[cM,cM];rfl);omega
 have K:∀k,k<=C o.tags->C (wO o [B] k)<=64:=λk j=>by rw[wO,j8,j8,g_,q9];show 2+_+_<=_;omega
 have R:∀k,dA (wO o [B] k)<=100000:=λk=>by
  rw[wO,GM];have q:=ρ k;omega
 refine bC (σ:=Nat) (λk=>([(1,.ref 1 0 0 0),(4,.osl 901 (1+k) 0 (C (wO o [B] k))),(7,iv (k:Int))],[(901,⟨1+k,1,9,VA (wO o [B] k)⟩),(1,oBx o)])) (λk=>k<=C o.tags) (λk=>C o.tags - k) 0 (k_ _) ?_ ?_
 .exact L_
 rintro k j;have P:=K k j;refine S<|O aA<|Y (bD gJ)<|Y (bU dN)<|Y (fJ dY)<|V cF<|Cn ?_ ?_<;>intro v_
 .have hlt:k<C o.tags:=I_ v_
  have ⟨t,p⟩:=aR hlt;have hit:=cC (f:=cA) p;have J:=uo (e_:=[B]) p;have L:C (wO o [B] k++[jB t])=C (wO o [B] k)+1:=by rw[j8];rfl
  have ⟨hks,hvs⟩:=o_ t (m7 p);have i:=rY t.val;have h61:T (⟨#[61]⟩:B_)=1:=rfl;have hk1:T (t.key++(⟨#[61]⟩:B_))=T t.key+1:=AC _ _;refine aB<|S<|aD<|aN a7<|Cs (λ_ _=>aA)<|Cs (λ_ h=>fh gJ h)<|Cs (λ_ h=>lh dN h)<|Cs (λ_ _=>aA)<|Cs (λ_ _=>(jA lY))<|Cs (λ_ _=>(FV qK))<|Cs (λ_ _=>(fK N_))<|Cs (λH1 c=>by exact fC Z Z Z X Z)<|Cs (λ_ h=>fh gJ h)<|Cs (λ_ h=>lh dN h)<|Cs (λ_ _=>aA)<|Cs (λ_ _=>(jA lY))<|Cs (λ_ _=>(FV rF))<|Cs (λ_ _=>(fK N_))<|Cs (λH1 c=>by exact bH Z Z call223 Z (M9 t.val _ X))<|Cs (λH1 c=>by exact fC Z Z Z X Z)<|Cs (λH1 c=>by exact aM [S_ (jB t)] Z aZ Z Z Z Z Z R_) ?_;refine iR (r:=⟨_,ζ,[_]⟩) (DStep.plain Z (λH1 c=>by exact bW (ps:=[S_ (jB t)]) Z aZ sZ Z ((c _ Z).trans Z) Z Z Z (ZQ _) Z R_ (m:=1) Z X Z (ZS _ (jB t)))) Z ?_;refine Cs (λ_ _=>aJ)<|bG<|Kr<|Rd aA<|Y iH<|Da ?_;refine⟨k+1,X,X,?_⟩;rw[J,L];exact L_
 have d:k=C o.tags:=J_ v_
 subst d;have ⟨W,hW⟩:∃W,W=wO o [B] (C o.tags):=X_;have u:=R (C o.tags);rw[<-hW]at P u b;rw[<-hW];have ⟨F,z⟩:∃F,F=a_ (bZ [32] (bs W)):=X_;rw[<-z]at b;refine aP<|Sz aJ<|S<|Sz aJ<|aD<|bC (σ:=Nat) (λk=>([(4,.osl 901 (1+C o.tags) 0 (C W)),(8,sv (a_ (bZ [32] (bs (W.take k))))),(9,iv (k:Int))],[(901,⟨1+C o.tags,1,9,VA W⟩)])) (λk=>k<=C W) (λk=>C W - k) 0 (k_ _) ?_ ?_
 .exact L_
 rintro k j;have hsz:T (a_ (bZ [32] (bs (W.take k))))<=100064:=by
  rw[cB];have q:=gD (W.take k);have v:=oO W k;have e_:C (W.take k)<=C W:=by rw[q9];exact Nat.min_le_right _ _
  omega
 refine S<|O aA<|Y aA<|Y (by exact dQ Z aE Z Z Z)<|V cF<|Cn ?_ ?_<;>intro c_
 .have hlt:k<C W:=I_ c_
  have ⟨w,D⟩:=aR hlt;have g:=ZR D;have J:=CC D;have hws:T w<=100000:=by
   have q:=yH D;have v:=oO W (k+1);omega
  have y:T (⟨#[32]⟩:B_)=1:=rfl;have y_:T (a_ (bZ [32] (bs (W.take k)))++⟨#[32]⟩)=T (a_ (bZ [32] (bs (W.take k))))+1:=AC _ _;refine aB<|S<|aD<|S<|O aA<|V iZ<|Cn ?_ ?_<;>intro E
  .have i:0<k:=I_ E
   rw[b6 i]at J;refine Rd aA<|Y kq<|V aJ<|Rd aA<|Y aA<|Y aA<|Y (by exact dK Z aZ Z Z Z Z Z X (by exact l_ _) hlt (r8 _))<|Y (by exact aY Z N_ Z Z Z g Z)<|Y kq<|V aJ<|Rd aA<|Y iH<|Da ?_;refine⟨k+1,X,X,?_⟩;rw[J];exact(cH.wk (Ea<|Eb<|Eb<|T_) (Hc (mK _ _)<|T_) T_)
  have i:¬ 0<k:=J_ E
  rw[a8 i]at J;refine aB<|Rd aA<|Y aA<|Y aA<|Y (by exact dK Z aZ Z Z Z Z Z X (by exact l_ _) hlt (r8 _))<|Y (by exact aY Z N_ Z Z Z g Z)<|Y kq<|V aJ<|Rd aA<|Y iH<|Da ?_;refine⟨k+1,X,X,?_⟩;rw[J];exact(cH.wk (Ea<|Eb<|Eb<|T_) (Hc (mK _ _)<|T_) T_)
 have d:k=C W:=J_ c_
 subst d;rw[take_length,<-z];refine aP<|S<|O aA<|Y (gG U_)<|V iZ<|Cn ?_ ?_<;>intro G
 .have a:20000<T F:=I_ G
  rw[b,b6 a];exact O aJ<|V aJ<|aC<|Ru<|Qq
 have a:¬ 20000<T F:=J_ G
 rw[b,a8 a];exact aB<|O aA<|Y aJ<|V aJ<|aC<|Ru<|Qq
end Go.Proofs.C
