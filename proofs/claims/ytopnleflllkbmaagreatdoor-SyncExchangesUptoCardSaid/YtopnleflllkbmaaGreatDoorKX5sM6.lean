/-
  Parts of the proof. Conditions: each theorem's own.
-/
import Derived.Test.YtopnleflllkbmaaGreatDoorKX5sM5
set_option linter.unusedVariables false
set_option linter.unusedSimpArgs false
set_option maxRecDepth 100000
set_option maxHeartbeats 8000000
open List Nat
open List renaming length->C
open Option renaming some->N,none->ζ
open Bool renaming true->A,false->η
open ByteArray renaming size->T,data->μ
open Array renaming toList->ν
open Decidable renaming decide->θ
open Go.IntKind renaming i64->ξ
open Go.Proofs.Tryz renaming prog->φ
open List renaming take_length->Â,map_append->Ã,append_assoc->Ä,length_nil->Å,take_of_length_le->Æ,mem_cons_of_mem->Ç,length_singleton->È,take_add_one->É,mem_of_mem_drop->Ê,mem_cons_self->Ë,cons_append->Ì,map_cons->Í,length_replicate->Î,mem_of_mem_take->Ï,count_le_length->Ð,map_drop->Ò,flatMap_cons->Ó,all_eq_true->Ô,map_map->Õ,sum_append->Ö
open _root_.Nat renaming le_succ_of_le->Ñ
open Go.Proofs.YtopnleflllkbmaaGreatDoor
namespace Go.Proofs
open Tryz
theorem gZ:type_of% call84:=call84
theorem jR:type_of% call99:=call99
theorem eE:type_of% isAgg125:=isAgg125
end Go.Proofs
namespace Go.Proofs.C
open Go.Proofs.Tryz
open Go.Abs
variable{α:Type}{i:Nat}
abbrev nxB:AV:=.bnd 98 [S7]
def Ft(l:List UInt8):Option (AV×List UInt8):=(DS pN l).map λp=>(.pv (aK p.1),p.2)
theorem kr(f){i_ k}{q b}{B:List α}(E:C B=k)(D:k<i_)(h:HU f i_ q=(HU f (i_ - k) b).map λp=>(B++p.1,p.2)):
  HU f i_ q=match f b with
   |none=>ζ
   |some (x,r)=>(HU f (i_ - (k+1)) r).map λp=>((B++[x])++p.1,p.2):=by
 rw[h,show i_ - k=(i_ - (k+1))+1 by omega,HU]
 grind
theorem Pp{l}(h:yK l=ζ):Ft l=ζ:=by rw[Ft,DS,h];rfl
theorem Po{l q}{n}(h:yK l=N (n,q)):Ft l=(HU pN n.toNat q).map λp=>(.pv (aK p.1),p.2):=by rw[Ft,DS,h]
theorem dj(l:List UInt8)(D:C l<1000000000):E4 100 [S7,nxB] [] l (Ft l):=by
 refine E4.of (DE l) Z u3 ?_;have g:=oW l D;have e:=Pp (l:=l);have f:=λn q=>Po (l:=l) (n:=n) (q:=q);have i:=λn q=>kV (l:=l) (x:=n) (q:=q);rw[FR]at g;generalize yK l=I at g e f i;refine gD.body func100 Z ntmps100 (r_ Z)<|Sz aH<|S ?_;rcases I with _|⟨n,j⟩
 .rw[e rfl];have w:E4 99 [S7] [] l ζ:=g;refine iA<|jD Z Z Z (iC Z Z) ?_;exact rJ Z Z (eU Z Z jR Z (w.no Z (gN _))) (λJ E h=>by obtain ⟨rfl,q,rfl⟩:=h;exact GG (H':=nT q) P_ ⟨Z,Z,q,Z⟩)
 have w:E4 99 [S7] [] l (N (iv n,j)):=g;have ⟨H,F,G⟩:=i n j Z;rw[f n j rfl];refine Rd aA<|Y (kc jR (w.yes Z (gN _)))<|V aH<|Sz (dM (id:=905) (sz:=1) (ty:=9) Z Z Z)<|S<|U aA<|V aA<|aD<|eN (λ(d:List UInt8) (B:List B_)=>([(0,S7),(1,nxB),(6,.osl 905 (C B) 0 (C B)),(9,iv n),(10,iv (C B:Int))],(905,⟨C B,1,9,bP B⟩)::nT d)) (λd B=>C d+C B<C l/\C B<=n.toNat/\HU pN n.toNat j=(HU pN (n.toNat - C B) d).map λp=>(B++p.1,p.2)) (λd B=>C d) j [] ⟨X,k_ _,H_⟩ ?_ ?_
 .exact L_
 rintro d B ⟨hl',hA,y⟩;have b:=A7 d X;have k:=λs q=>lU (l:=d) (s:=s) (q:=q);have c:=λh=>kr pN (k:=C B) Z h y;rw[LN]at b;generalize pN d=A_ at b k c;refine Sz cH<|S<|Cn ?_ ?_<;>intro o
 .have t:C B<n.toNat:=I_ o
  have m:=c t;clear c;refine aB<|S<|aD ?_;rcases A_ with _|⟨s,q⟩
  .have m:HU pN n.toNat j=ζ:=m;rw[m];have b:E4 98 [S7] [] d ζ:=b;refine iA<|jD Z Z Z (iC Z Z)<|jD Z Z Z (iC Z Z) ?_;exact rJ Z Z (IC Z Z nW Z (b.no Z (gN _))) (λJ E h=>by obtain ⟨rfl,q,rfl⟩:=h;exact GG (H':=nT q) P_ ⟨Z,Z,q,Z⟩)
  have m:HU pN n.toNat j=(HU pN (n.toNat - (C B+1)) q).map λp=>((B++[s])++p.1,p.2):=m;have b:E4 98 [S7] [] d (N (sv s,q)):=b;have k:=k s q Z;have u:C (B++[s])=C B+1:=F_
  refine Rd aA<|Y aA<|Y (by exact EY.opr (IC Z Z nW Z (gD.of (b.yes Z (gN _)))))<|Y (by exact aM [[.str s]] Z aY Z Z Z Z Z F_)<|Y (by exact bU (ps:=[[.str s]]) Z aY sX Z Z Z Z Z (dB _) Z F_ (m:=1) Z X Z (gP B s))<|V aH<|Rd kp<|V aA ?_;refine⟨q,B++[s],⟨X,X,F_⟩,X,?_⟩;dsimp only;rw[u];exact L_
 have r:n.toNat=C B:=J_ o
 have v:HU pN n.toNat j=N (B,d):=by rw[y,r,Nat.sub_self,HU];simp
 rw[v];refine aP<|U aA<|V aH<|aC ?_;refine OT ?_;refine cR (H':=(nT d)) (.inr Z) Z (aI Z) (Fin.fz (id:=905) (ob:=⟨C B,1,9,bP B⟩) (r':=.pv (aK B)) (B.map S_) Z (cX _) (.osl (fV S_ _)) Z ⟨⟨_,Z,Z⟩,r5,T_⟩ ⟨Z,T_⟩) ?_
 simp_all
theorem df{α:Type}(f)(P:α->Prop)(b)(c:∀l x q,C l<=b->f l=N (x,q)->C q<C l/\P x):∀(n) (l) (xs) (q),C l<=b->HU f n l=N (xs,q)->C q+C xs<=C l/\∀x∈xs,P x
 |0,l,xs,q,_,h=>by rw[HU]at h;simp_all
 | n+1,l,xs,q,d,h=>by
  rw[HU]at h;cases a:f l with
  |none=>simp_all
  | some p =>
   obtain ⟨x,r⟩:=p;have ⟨B,D⟩:=c l x r d a;rw[a]at h;cases e:HU f n r with
   |none=>simp_all
   |some p2 =>
    have ⟨E,k2⟩:=df f P b c n r _ _ X e
    grind
theorem AR{l q}{xs}(h:DS pN l=N (xs,q)):C q+C xs<C l/\∀x∈xs,T x<=C l:=by
 rw[DS]at h;cases b:yK l with
 |none=>simp_all
 |some p =>
  have ⟨n,r⟩:=p;rw[b]at h;have B:=(kV b).1;have ⟨E,c⟩:=df _ (λx=>T x<=C r) _ (λl x q D a=>by have:=lU a;exact⟨X,X⟩) _ r _ q (h_ _) h;exact⟨X,λx a=>Nat.le_trans (c x a) X⟩
theorem zb{l q}{p}(h:TH l=N (p,q)):C q<C l/\(qY p.1/\qY p.2):=by
 rw[TH]at h;cases b:yK l with
 |none=>simp_all
 | some z =>
  have ⟨x,r⟩:=z;rw[b]at h;simp at h;cases a:yK r with
  |none=>simp_all
  |some B =>
   rw[a]at h;cases h;have d:=kV b;have c:=kV a;exact⟨X,d.2,c.2⟩
theorem zw{l q}{xs}(h:DS TH l=N (xs,q)):C q+C xs<C l/\∀x∈xs,qY x.1/\qY x.2:=by
 rw[DS]at h;cases a:yK l with
 |none=>simp_all
 |some p =>
  have ⟨n,r⟩:=p;rw[a]at h;have B:=(kV a).1;have ⟨E,c⟩:=df _ _ _ (λl x q D b=>zb b) _ r _ q (h_ _) h;exact⟨X,c⟩
def Wi(l:List UInt8):Option (AV×List UInt8):=(Dk l).map λp=>(av (lW p.1),p.2)
theorem yb(l:List UInt8)(B:C l<1000000000):E4 102 [S7] [] l (Wi l):=by
 refine E4.of (DE l) Z u3 ?_;have g:=oW l B;have u:=λq (E:C q<1000000000)=>dj q E;have z:Wi l=(match yK l with
  |none=>ζ
  | some (i,r)=>match DS pN r with
   |none=>ζ
   |some (a,q)=>match DS pN q with
    |none=>ζ
    |some (b,p)=>N (.agg [iv i,.pv (aK a),.pv (aK b)],p)):=by
  rw[Wi,Dk];cases yK l with
  |none=>rfl
  | some p =>
   have ⟨i,r⟩:=p;simp only;cases DS pN r with
   |none=>rfl
   |some p =>
    have ⟨a,q⟩:=p;simp only;cases DS pN q with
    |none=>rfl
    |some p=>rfl
 rw[z];rw[FR]at g;have j:=λn q=>kV (l:=l) (x:=n) (q:=q);generalize yK l=D at g j |-;clear z;refine gD.body func102 Z ntmps102 (r_ Z)<|Sz (kl 2 fy)<|S ?_;rcases D with _|⟨i,s⟩
 .have t:E4 99 [S7] [] l ζ:=g;refine iA<|jD Z Z Z (iC Z Z) ?_;exact rJ Z Z (eU Z Z jR Z (t.no Z (gN _))) (λw x h=>by obtain ⟨rfl,q,rfl⟩:=h;exact GG (H':=nT q) P_ ⟨Z,Z,q,Z⟩)
 have t:E4 99 [S7] [] l (N (iv i,s)):=g;have F:=(j i s Z).1;have d:=u s X;rw[Ft]at d;have f:=λv q=>AR (l:=s) (xs:=v) (q:=q);simp only;generalize DS pN s=D at d f |-;rcases D with _|⟨a,m⟩
 .have d:E4 100 [S7,nxB] [] s ζ:=d;refine iA<|jD Z Z Z (iC Z Z)<|jD Z Z Z (kc jR (t.yes Z (gN _)))<|jD Z Z Z (iC Z Z)<|jD Z Z Z (iC Z Z)<|jD Z Z Z (pZ Z Z) ?_;exact rJ Z Z (eU Z Z call100 Z (d.no Z (gN _))) (λw x h=>by obtain ⟨rfl,q,rfl⟩:=h;exact GG (H':=nT q) P_ ⟨Z,Z,q,Z⟩)
 have d:E4 100 [S7,nxB] [] s (N (.pv (aK a),m)):=d;have G:=(f a m Z).1;have e:=u m X;rw[Ft]at e;have o:=λv q=>AR (l:=m) (xs:=v) (q:=q);simp only;generalize DS pN m=D at e o |-;rcases D with _|⟨b,y⟩
 .have e:E4 100 [S7,nxB] [] m ζ:=e;refine iA<|jD Z Z Z (iC Z Z)<|jD Z Z Z (kc jR (t.yes Z (gN _)))<|jD Z Z Z (iC Z Z)<|jD Z Z Z (iC Z Z)<|jD Z Z Z (pZ Z Z)<|jD Z Z Z (kc call100 (d.yes Z (gN _)))<|jD Z Z Z (iC Z Z)<|jD Z Z Z (iC Z Z)<|jD Z Z Z (pZ Z Z) ?_;exact rJ Z Z (eU Z Z call100 Z (e.no Z (gN _))) (λw x h=>by obtain ⟨rfl,q,rfl⟩:=h;exact GG (H':=nT q) P_ ⟨Z,Z,q,Z⟩)
 have e:E4 100 [S7,nxB] [] m (some (.pv (aK b),y)):=e;refine Rd aA<|Y (kc jR (t.yes Z (gN _)))<|Y aA<|Y aA<|Y (by exact pZ Z Z)<|Y (kc call100 (d.yes Z (gN _)))<|Y aA<|Y aA<|Y (by exact pZ Z Z)<|Y (kc call100 (e.yes Z (gN _)))<|Y (oU aA3)<|Uu (jH sizeOf48)<|Zz<|aC ?_;refine OT ?_;refine cR (H':=(nT y)) (.inr Z) Z (fJ Z iB sizeOf48 Z Z Z u0 Z) (Fin.wk (by simp[VV]) (Hb<|T_) ⟨Z,T_⟩) ?_;exact⟨_,Z,Z,Z⟩
abbrev inO:Ob:=bx 1 125 [S7]
abbrev Qj:aF:=[(4,inO)]
theorem Ak{H}(h:(H.get 980).isSome=A):∀r∈inO.rows,∀a∈r,Clo H a:=F_
theorem UL(l):dO (nT l++Qj):=dO.ofL ⟨bj l _,Ak Z,T_⟩
def Xo(l:List UInt8):Option (AV×List UInt8):=(TH l).map λp=>(av (kS p.1),p.2)
theorem Nr(l:List UInt8)(i_:C l<1000000000):E4 104 [.ref 4 0 0 0] Qj l (Xo l):=by
 refine E4.of (UL l) Z u3 ?_;have D:=oW l i_;have u:=λq (W:C q<1000000000)=>oW q W;have P:=λn q=>kV (l:=l) (x:=n) (q:=q);have K:Xo l=(match yK l with
  |none=>ζ
  |some (x,r)=>match yK r with
   |none=>ζ
   |some (y,q)=>N (.agg [iv x,iv y],q)):=by
  rw[Xo,TH];cases yK l with
  |none=>rfl
  |some p =>
   have ⟨i,r⟩:=p;simp only;cases yK r with
   |none=>rfl
   |some p=>rfl
 have ⟨x,c,H⟩:∃x c,(yK l).getD (0,l)=(x,c):=⟨_,_,Z⟩;have ⟨y,m,I⟩:∃y m,(yK c).getD (0,c)=(y,m):=⟨_,_,Z⟩;have a:C c<=C l:=by
  grind
 have Q:(FR l).getD (iv 0,l)=(iv x,c):=by
  rw[FR]
  grind
 have w:(FR c).getD (iv 0,c)=(iv y,m):=by
  rw[FR]
  grind
 have s:FR l=ζ->Xo l=ζ:=λe=>by
  grind
 have o:(FR l).isSome=A->FR c=ζ->Xo l=ζ:=λe g=>by
  rw[FR,Option.map_eq_none_iff]at g
  grind
 have z:(FR l).isSome=A->(FR c).isSome=A->Xo l=N (.agg [iv x,iv y],m):=λe g=>by
  cases k:yK l with
  |none=>rw[FR,k]at e;cases e
  |some p =>
   rw[k]at H;cases H;rw[K,k];simp only;cases F:yK c with
   |none=>rw[FR,F]at g;cases g
   |some p=>rw[F]at I;cases I;rfl
 have R:FR c=ζ->Xo l=ζ:=λe=>by
  cases h:FR l with
  |none=>exact s h
  |some p=>exact o (by rw[h];rfl) e
 clear K o;refine gD.body func104 Z ntmps104 (r_ Z)<|Sz (kl 1 Je)<|S<|zQ (λv j G=>Xo l=none/\v=JH/\∃q,G=nT q++j) [] [] [4] Z a7 (λv E1 j G hts hsh B ⟨e,g,q,k⟩=>by subst k;have J:aF.get (nT q++j) 4=some inO:=(B 4 (q9.2 Z)).trans Z;exact GG (H':=nT q++Qj) (Fin.wk H_ ⟨⟨_,Z,Z⟩,bj _ _,⟨_,J,Z⟩,Ak Z,T_⟩ ⟨Z,J.symm,T_⟩) ⟨e,g,q,Z⟩) ?_;refine Pr [4] (λ_ h=>lh eE h)<|wM (r:=⟨_,some [980],nT c⟩) (.pan Z (λj f=>by exact eU Z Z jR Z ((D.tot Q ((f 980 Z).trans Z) (gN _)).mono (λ_ _ h=>h) (λv L ⟨e,g,k⟩=>⟨s e,g,k⟩)))) Z ?_;refine Pr [4] (λ_ h=>lh eE h)<|wM (r:=⟨_,some [980],nT m⟩) (.pan Z (λj f=>by exact eU Z Z jR Z (((u c X).tot w ((f 980 Z).trans Z) (gN _)).mono (λ_ _ h=>h) (λv L ⟨e,g,k⟩=>⟨R e,g,k⟩)))) Z ?_;refine Pr [] (λj f=>by exact QB Z MP Z Z)<|Pw [1] (λ_ h=>sa sizeOf104 h) ?_;refine MK ⟨⟨by kernel_rfl,by kernel_rfl,by kernel_rfl⟩,λE=>?_⟩;simp only[fk,true_and,and_true]at E;refine aC ?_;refine OT ?_;refine cR (H':=(nT m++Qj)) (.inr Z) Z (fJ Z eM sizeOf104 Z Z Z u0 Z) (Fin.wk (by simp[VV]) (Hb<|Ha<|T_) ⟨Z,Z,T_⟩) ?_;exact⟨_,z E.1 E.2,Z,Z⟩
abbrev ptB:AV:=.clo 104 [.ref 4 0 0 0]
def wX(B:List (Int×Int)):List (List AV):=(B.map kS).map (·.map AV.pv)
theorem TF(B):C (wX B)=C B:=by simp[wX]
theorem TG(B)(p):wX B++[(kS p).map AV.pv]=wX (B++[p]):=by rw[wX,wX,Ã,Ã];rfl
theorem DH(B)(H):∀r∈wX B,∀a∈r,Clo H a:=ei _ _ _
instance(B)(H):W_ (H) (wX B):=⟨DH B H⟩
def lb(l:List UInt8):Option (AV×List UInt8):=(DS TH l).map λp=>(.pv (yQ p.1),p.2)
theorem Fq{l}(h:yK l=ζ):lb l=ζ:=by rw[lb,DS,h];rfl
theorem Fp{l q}{n}(h:yK l=N (n,q)):lb l=(HU TH n.toNat q).map λp=>(.pv (yQ p.1),p.2):=by rw[lb,DS,h]
theorem Zg(l:List UInt8)(F:C l<1000000000):E4 103 [S7,ptB] Qj l (lb l):=by
 refine E4.of (UL l) Z (by simp;exact⟨Z,Z⟩) ?_;have g:=oW l F;have e:=Fq (l:=l);have f:=λn q=>Fp (l:=l) (n:=n) (q:=q);have i:=λn q=>kV (l:=l) (x:=n) (q:=q);rw[FR]at g;generalize yK l=J at g e f i;refine gD.body func103 Z ntmps103 (r_ Z)<|Sz aH<|S ?_;rcases J with _|⟨n,j⟩
 .rw[e rfl];have y:E4 99 [S7] [] l ζ:=g;refine iA<|jD Z Z Z (iC Z Z) ?_;exact rJ Z Z (eU Z Z jR Z (y.no Z (gN _))) (λE G h=>by obtain ⟨rfl,q,rfl⟩:=h;exact GG (H':=nT q++Qj) P_ ⟨Z,Z,q,Z⟩)
 have y:E4 99 [S7] [] l (N (iv n,j)):=g;have ⟨I,E,H⟩:=i n j Z;rw[f n j rfl];refine Rd aA<|Y (kc jR (y.yes Z (gN _)))<|V aH<|Sz (dM (id:=905) (sz:=2) (ty:=104) Z Z Z)<|S<|U aA<|V aA<|aD<|eN (λ(d:List UInt8) (B:List (Int×Int))=>([(0,S7),(1,ptB),(6,.osl 905 (C B) 0 (C B)),(9,iv n),(10,iv (C B:Int))],(905,⟨C B,2,104,wX B⟩)::(nT d++Qj))) (λd B=>C d+C B<C l/\C B<=n.toNat/\HU TH n.toNat j=(HU TH (n.toNat - C B) d).map λp=>(B++p.1,p.2)) (λd B=>C d) j [] ⟨X,k_ _,H_⟩ ?_ ?_
 .exact L_
 rintro d B ⟨hl',hA,D⟩;have b:=Nr d X;have k:=λs q=>zb (l:=d) (p:=s) (q:=q);have c:=λh=>kr TH (k:=C B) Z h D;rw[Xo]at b;generalize TH d=A_ at b k c;refine Sz cH<|S<|Cn ?_ ?_<;>intro m
 .have x:C B<n.toNat:=I_ m
  have o:=c x;clear c;refine aB<|S<|aD ?_;rcases A_ with _|⟨s,q⟩
  .have o:HU TH n.toNat j=ζ:=o;rw[o];have b:E4 104 [.ref 4 0 0 0] Qj d ζ:=b;refine iA<|jD Z Z Z (iC Z Z)<|jD Z Z Z (iC Z Z) ?_;exact rJ Z Z (IB Z Z call104 Z (b.no Z (FB.sub ⟨Z,T_⟩))) (λE G h=>by obtain ⟨rfl,q,rfl⟩:=h;exact GG (H':=nT q++Qj) P_ ⟨Z,Z,q,Z⟩)
  have o:HU TH n.toNat j=(HU TH (n.toNat - (C B+1)) q).map λp=>((B++[s])++p.1,p.2):=o;have b:E4 104 [.ref 4 0 0 0] Qj d (N (av (kS s),q)):=b;have k:=k s q Z;have z:C (B++[s])=C B+1:=F_
  refine Rd aA<|Y aA<|Y (by exact EY.opr (IB Z Z call104 Z (gD.of (b.yes Z (FB.sub ⟨Z,T_⟩)))))<|Y (by exact aM [kS s] Z WH Z Z Z Z Z R_)<|Y (by exact bU (ps:=[kS s]) Z WH aBH Z Z Z Z Z (TF _) Z R_ (m:=1) Z X Z (TG B s))<|V aH<|Rd kp<|V aA ?_;refine⟨q,B++[s],⟨X,X,F_⟩,X,?_⟩;dsimp only;rw[z];exact L_
 have w:n.toNat=C B:=J_ m
 have u:HU TH n.toNat j=N (B,d):=by rw[D,w,Nat.sub_self,HU];simp
 rw[u];refine aP<|U aA<|V aH<|aC ?_;refine OT ?_;refine cR (H':=(nT d++Qj)) (.inr Z) Z (aI Z) (Fin.fz (id:=905) (ob:=⟨C B,2,104,wX B⟩) (r':=.pv (yQ B)) (B.map kS) Z Z (.osl (fV kS _)) Z ⟨⟨_,Z,Z⟩,r5,⟨_,Z,Z⟩,x8,T_⟩ ⟨Z,Z,T_⟩) ?_
 simp_all
def KN(h i:Int):Bool:=((θ (h<0)||θ (8<h))||θ (i<0))||θ (((2 ^ h.toNat:Nat):Int)<=i)
def zS:p_:=⟨0,[],[]⟩
def QP(s:B_)(h i:Int)(m:B_):p_×Int:=if KN h i=A then(zS,1)else(⟨i,qx s i.toNat m,xM h.toNat (xO s h.toNat) i.toNat⟩,0)
theorem Dn(s m:B_)(h i:Int)(H:aF)(j:KN h i=A):RC 119 [sv s,iv h,iv i,sv m] (.tup [av (lW zS),iv 1]) H:=by
 refine Pu ?_;have e:θ (h<0)=η->θ (8<h)=η->ξ.wrap (1*2 ^ h.toNat)=((2 ^ h.toNat:Nat):Int):=λg f=>by
  have g:=b_ g;have f:=b_ f;obtain ⟨n,rfl⟩:∃n:Nat,h=(n:Int):=⟨h.toNat,X⟩;rw[l_];have:=aBm (h:=n) X
  rwa [l_]at this
 have B:KN h i=(((θ (h<0)||θ (8<h))||θ (i<0))||θ (((2 ^ h.toNat:Nat):Int)<=i)):=rfl;refine Bd func119 Z ntmps119<|U (kb 4)<|Y (kb 6)<|Y (kl 8 fy)<|V aH<|S<|S<|qI (t:=30) (n:=16) (A_:=KN h i) ?_ ?_
 .cases b:(θ (h<0):Bool)
  .cases c:(θ (8<h):Bool)
   .cases hg25:(θ (i<0):Bool)
    .refine aN a7<|Cq aA<|Cq cH<|Cq aA<|Nf aA<|Nf jB<|Cq tB<|Cq aA<|Nf (bT M_)<|Nf cH<|Cq tB<|Cq aA<|Nf (bT M_)<|Nf aA<|Nf (by exact RB Z Z Z (J_ b) (by have:=b_ c;simp[IntKind.bits];omega) (e b c))<|Nf AU<|Cq tB<|bF<|Kr ?_;exact⟨Z,⟨_,Z,F_⟩,Z,Z,Z⟩
    refine aN a7<|Cq aA<|Cq cH<|Cq aA<|Nf aA<|Nf jB<|Cq tB<|Cq aA<|Nf (bT M_)<|Nf cH<|Cq tB<|Cq aA<|Of<|Of<|Of<|Of<|Cq DI<|bF<|Kr ?_;exact⟨Z,⟨_,Z,F_⟩,Z,Z,Z⟩
   refine aN a7<|Cq aA<|Cq cH<|Cq aA<|Nf aA<|Nf jB<|Cq tB<|Cq aA<|Of<|Of<|Cq DI<|Cq aA<|Of<|Of<|Of<|Of<|Cq cE<|bF<|Kr ?_;exact⟨Z,⟨_,Z,F_⟩,Z,Z,Z⟩
  refine aN a7<|Cq aA<|Cq cH<|Cq aA<|Of<|Of<|Cq DI<|Cq aA<|Of<|Of<|Cq cE<|Cq aA<|Of<|Of<|Of<|Of<|Cq cE<|bF<|Kr ?_;exact⟨Z,⟨_,Z,F_⟩,Z,Z,Z⟩
 refine Cn ?_ ?_<;>intro d
 .refine U (oU aA3)<|Uu (jH sizeOf48)<|V aH<|aC<|gH (H':=[]) (.inr Z) Z (fJ Z iB sizeOf48 Z Z Z u0 Z) (aI Z) P_ ?_;exact Qq
 rw[j]at d;cases d
theorem XU(s m)(h i)(H)(c:T s<2^40)(b:T m<2^40):RC 119 [sv s,iv h,iv i,sv m] (.tup [av (lW (QP s h i m).1),iv (QP s h i m).2]) H:=by
 rw[QP];by_cases a:KN h i=A
 .rw[b6 a];exact Dn s m h i H a
 rw[a8 a];have a:KN h i=η:=F_
 simp only[KN,q_,q7]at a;have ⟨⟨⟨B,D⟩,E⟩,d⟩:=a;obtain ⟨n,rfl⟩:∃n:Nat,h=n:=⟨h.toNat,X⟩;obtain ⟨k,rfl⟩:∃k:Nat,i=k:=⟨i.toNat,X⟩;rw[l_]at d |-;exact Wj s m n k H c b X X
theorem qy{s m}{h i}(a:(QP s h i m).2=0):FSeal (QP s h i m).1/\(QP s h i m).1=⟨i,qx s i.toNat m,xM h.toNat (xO s h.toNat) i.toNat⟩/\(0<=h/\h<=8)/\0<=i/\i<2 ^ h.toNat:=by
 rw[QP]at a |-
 split at a
 .cases a
 next c =>
 rw[a8 c];have c:KN h i=η:=F_
 simp only[KN,q_,q7]at c;have d:i<2 ^ h.toNat:=by
  simp_all
 have b:i.toNat<2 ^ h.toNat:=X
 have B:2 ^ h.toNat<=256:=G3 X;exact⟨⟨F_,G_,by rw[Lg];omega,by rw[X8];omega,Lh _ _ _,X9 _ _ _ (YV _ _) b (YW _ _)⟩,Z,⟨X,X⟩,X,d⟩
def zR:j_:=⟨0,0,0,0,a6,[],[],a6,η,0,a6,zS,⟨a6,a6,[],[],zS⟩⟩
def O7(r:j_):j_:={r with sl:=zS,priv:={r.priv with sl:=zS}}
def IH(r:j_):j_×Int:=if(mX r).2≠0 then(zR,(mX r).2)else(r,0)
def mk1(r:j_)(a:p_):j_:={r with sl:=a,priv:={r.priv with sl:=zS}}
def Pi(r:j_)(a b:p_):j_:={r with sl:=a,priv:={r.priv with sl:=b}}
def O8(r:j_)(s:B_)(h:Int):j_×Int :=if iG (O7 r)=η then(zR,1)
 else if(QP s h (2*r.number - 2) (JL (O7 r))).2≠0 then(zR,(QP s h (2*r.number - 2) (JL (O7 r))).2)
 else if vJ r.priv=A then IH (mk1 r (QP s h (2*r.number - 2) (JL (O7 r))).1)
 else if(QP s h (2*r.number - 1) (db (O7 r))).2≠0 then(zR,(QP s h (2*r.number - 1) (db (O7 r))).2)
 else IH (Pi r (QP s h (2*r.number - 2) (JL (O7 r))).1 (QP s h (2*r.number - 1) (db (O7 r))).1)
theorem cp{s}(h:FSeal s):yX s:=by have B:=h.i0;have D:=h.i1;have l1:=h.sl;have l2:=h.pl;exact⟨⟨X,X⟩,⟨X,λt a=>by have:=DV (h.sa t a);omega⟩,⟨X,λt a=>by have:=DV (h.pa t a);omega⟩⟩
theorem okZ:yX zS:=cp (lM E_)
theorem Ow{r}{a b}(h:mY r)(g:yX a)(l:yX b):mY (Pi r a b):=by have ⟨k,j,d,i,_,m,f,e,c,_⟩:=h;exact⟨k,j,d,i,g,m,f,e,c,l⟩
theorem aCc(r:j_)(s:B_)(h:Int)(l:mY r)(F:C r.parents<549755813888)(x:T s<2^40)(H:aF):RC 71 [av (eC r),sv s,iv h] (.tup [av (eC (O8 r s h).1),iv (O8 r s h).2]) H:=by
 refine aU.pure ?_ F_ H;have g:mY (O7 r):=Ow l okZ okZ;have hv:=λH=>Z5 (O7 r) g F H;have K:=λH=>lx (O7 r) g F H;have j:=λH=>aAJ (mk1 r zS).priv g.2.2.2.2.2 H;rw[O8];refine Bd func71 Z ntmps71<|U (kb 3)<|Y (kl 6 fx)<|V aH<|U (oU aA3)<|Y (oU aA3)<|Y (bC AW)<|Uu (by exact rK Z sizeOf48 Z Z Z Z Z Z Z (r_ Z) Z Z)<|Y (bC iN)<|Y (bC F7)<|Uu (by exact rK Z sizeOf48 Z Z Z Z Z Z Z (r_ Z) Z Z)<|Zz<|S<|U (xB cP bJ)<|Y (kc call105 (hv _))<|V iJ<|Cn ?_ ?_<;>intro q
 .have I:=not_not q;rw[b6 I];refine U (oU VI)<|Uu (jH bJ)<|V aH<|aC<|gH (H':=[]) (.inr Z) Z (fJ Z cP bJ Z Z Z u0 Z) (aI Z) P_ ?_;exact Qq
 have I:=pG q;rw[a8 F_];have hf:=tJ I;have L:=hf.nu;have e_:(O7 r).number=r.number:=rfl;rw[e_]at L;have n:=λH=>Fl (O7 r) g F I H;have R:(db (O7 r)).size=16:=sJ _;have i_:=Am (O7 r);generalize JL (O7 r)=a at K i_ |-;generalize db (O7 r)=t at n R |-;have z:=λH=>XU s a h (2*r.number - 2) H x X;have D:=λH=>XU s t h (2*r.number - 1) H x X;have f:=qy (s:=s) (m:=a) (h:=h) (i:=2*r.number - 2);have w:=qy (s:=s) (m:=t) (h:=h) (i:=2*r.number - 1);generalize QP s h (2*r.number - 2) a=J at z f |-;generalize QP s h (2*r.number - 1) t=B at D w |-;refine aB<|S<|aN a7<|Cq (xB cP bJ)<|Cq (kc call55 (K _))<|Cq (xB cP bJ)<|Cq (kc call118 (n _))<|Cq aH<|Cq aH<|bF<|Kr<|Sz aH<|S<|U aA<|Y aA<|Y (bC BE)<|Y (bT M_)<|Y (by exact pE Z Z Z (mI X X))<|Y (by exact dT Z Z Z (mI X X))<|Y aA<|Y (kc call119 (z _))<|Y aA<|Y dK<|Y dK<|Y (bC AW)<|Uu (by exact rK Z sizeOf48 Z Z Z Z Z Z Z (r_ Z) Z Z)<|V aH<|U aA<|V xN<|Cn ?_ ?_<;>intro y
 .have d:J.2≠0:=by have:=y;intro e;simp_all
  rw[b6 d];refine U (oU VI)<|Y aA<|Uu (jH bJ)<|V aH<|aC<|gH (H':=[]) (.inr Z) Z (fJ Z cP bJ Z Z Z u0 Z) (aI Z) P_ ?_;exact Qq
 have c:J.2=0:=by have:=y;by_cases e:J.2=0;exact e;rw[Á e]at this;cases this
 rw[a8 X];have f:=(f c).1;have ⟨A_,Q⟩:∃A_,A_=(if vJ r.priv=A then IH (mk1 r J.1)else if B.2≠0 then(zR,B.2)else IH (Pi r J.1 B.1)):=X_;rw[<-Q];have v:vJ r.priv=A->A_=IH (Pi r J.1 zS):=λe=>by rw[Q,b6 e];rfl
 have i:vJ r.priv=η->B.2≠0->A_=(zR,B.2):=λe e2=>by simp_all
 have u:vJ r.priv=η->B.2=0->A_=IH (Pi r J.1 B.1):=λe e2=>by simp_all
 have P:vJ (mk1 r zS).priv=vJ r.priv:=rfl;rw[P]at j;clear Q;generalize vJ r.priv=W at j v i u;refine aB<|eT (λ(b:p_)=>([(3,.ref 3 0 0 0),(6,.ref 6 0 0 0)],[(6,bx 21 53 ((eC zR).map .pv)),(3,bx 21 53 ((eC (Pi r J.1 b)).map .pv))])) (λb=>yX b/\A_=IH (Pi r J.1 b)) ?_ ?_
 .refine U (bC iN)<|Y (xB isAgg51 sizeOf51)<|Y (kc call120 (j _))<|V iJ<|Cn ?_ ?_<;>intro p
  ·have G:=not_not p;refine U aA<|Y aA<|Y (bC BE)<|Y (bT M_)<|Y (by exact pE Z Z Z (mI X X))<|Y (by exact dT Z Z Z (mI X X))<|Y aA<|Y (kc call119 (D _))<|Y aA<|Y dK<|Y dK<|Y (bC iN)<|Y (bC F7)<|Uu (by exact rK Z sizeOf48 Z Z Z Z Z Z Z (r_ Z) Z Z)<|V aH<|U aA<|V xN<|Cn ?_ ?_<;>intro E
   .have d:B.2≠0:=by have:=E;intro e;rw[e]at this;exact absurd this (by decide)
    rw[i G d];refine U (oU VI)<|Y aA<|Uu (jH bJ)<|V aH<|aC<|gH (H':=[]) (.inr Z) Z (fJ Z cP bJ Z Z Z u0 Z) (aI Z) P_ ?_;exact Qq
   have c:B.2=0:=by have:=E;by_cases e:B.2=0;exact e;rw[Á e]at this;cases this
   refine aB ?_;exact⟨B.1,⟨cp (w c).1,u G c⟩,Wk⟩
  have G:=pG p;refine aB ?_;exact⟨zS,⟨okZ,v G⟩,Wk⟩
 rintro b ⟨o_,i⟩;rw[i,IH];have k:=λH=>Z8 (Pi r J.1 b) (Ow l (cp f) o_) F H;generalize mX (Pi r J.1 b)=J3 at k |-;refine S<|U (xB cP bJ)<|Y (kc call72 (k _))<|Y aA<|Y dK<|Y dK<|Y aH<|V aH<|U aA<|V xN<|Cn ?_ ?_<;>intro o
 .have d:J3.2≠0:=by have:=o;intro e;rw[e]at this;exact absurd this (by decide)
  rw[b6 d];refine U (oU VI)<|Y aA<|Uu (jH bJ)<|V aH<|aC<|gH (H':=[]) (.inr Z) Z (fJ Z cP bJ Z Z Z u0 Z) (aI Z) P_ ?_;exact Qq
 have c:J3.2=0:=by have:=o;by_cases e:J3.2=0;exact e;rw[Á e]at this;cases this
 rw[a8 (by rw[c];decide)];refine aB<|U (xB cP bJ)<|Uu (jH bJ)<|V aH<|aC<|gH (H':=[]) (.inr Z) Z (fJ Z cP bJ Z Z Z u0 Z) (aI Z) (Fin.wk (by simp[eC]) T_ T_) ?_;exact Qq
abbrev Iw(e:Int):Ob:=bx 1 25 [iv e]
abbrev Iu(x:j_):Ob:=bx 21 53 ((eC x).map .pv)
abbrev sc(x:j_)(e:Int):aF:=[(3,Iw e),(2,Iu x)]
abbrev eAJ:Ob:=bx 1 25 [.any]
abbrev rAJ:Ob:=bx 21 53 [.any,.any,.any,.any,.any,.any,.any,.any,.any,.any,.any,.any,.any,.any,.any,.any,.any,.any,.any,.any,.any]
abbrev pAJ:aF:=[(3,eAJ),(2,rAJ)]
abbrev dcJ:List AV:=[.ref 2 0 0 0,.ref 3 0 0 0]
theorem aCF(x)(e):fl φ 97 dcJ (sc x e) .returning (λH2=>H2=sc x e):=by
 refine MU (x:=N0) func97 Z ntmps97 (r_ Z) Z Z Z Z Z Z (λw I=>.sat Z Z) (.inl ⟨Z,Z⟩)<|VM<|MQ<|sZ<|PN Z Z Z (sw Z underlying20 Z)<|HM<|OR Z (λb=>?_) (λb=>?_)
 .refine sZ<|PN Z Z Z (yW Z Z)<|HM ?_;exact⟨.inl Z,sc x e,Fin.wk H_ (Hb<|Hb<|T_) ⟨Z,Z,T_⟩,Z⟩
 cases b
theorem aCG:fl φ 97 dcJ pAJ (.panicking JH) (λH2=>H2=sc zR 5):=by
 refine MU (x:=.ifa 124 []) func97 Z ntmps97 (r_ Z) Z Z Z Z Z Z (λw I=>.ifa _ _ _ Z H_) (.inr ⟨_,Z,Z⟩)<|VM<|MQ<|sZ<|PN Z Z Z (sy Z underlying20 Z)<|HM<|OR Z (λc=>?_) (λc=>?_)
 .cases c
 refine MQ<|sZ<|PN Z Z Z (TR Z (dZ zW Z) Z)<|PN Z Z Z (wE Z Z Z)<|PN Z Z Z (wE Z Z Z)<|HM<|OR Z (λb=>?_) (λb=>?_)
 .refine MQ<|sZ<|PN Z Z Z (tc Z zeroValue124)<|Tj Z Z (sk Z Z Z sizeOf124)<|HM<|sZ<|PN Z Z Z (QB Z VI Z Z)<|Tj Z Z (mH Z bJ Z Z Z Z Z Z Z Z)<|Tj Z Z (mH Z sizeOf25 Z Z Z Z Z Z Z Z)<|HM ?_;exact⟨.inl Z,sc zR 5,Fin.wk H_ (Hb<|Hb<|T_) ⟨Z,Z,T_⟩,Z⟩
 cases b
theorem aCj(s:B_)(A_:T s<2^40)(g:(fS s).2.1=0):aU φ 203 [sv s] [] (λr H'=>r=.tup [.osl 905 (C (fS s).1) 0 (C (fS s).1),iv 0,iv (fS s).2.2]/\H'=[(905,⟨C (fS s).1,3,189,mA (fS s).1⟩)]):=by
 refine Bd func203 Z ntmps203<|U (kl 2 aAh)<|Y (kl 3 aBW)<|V (kl 4 zo3)<|S<|U aA<|Y (gQ U_)<|V jB<|Cn ?_ ?_<;>intro v
 .have e:fS s=([],2,-1):=by rw[fS,b6 (I_ v)]
  rw[e]at g;exact absurd g (by decide)
 have P:¬ 20000<T s:=by have:=b_ v;omega
 have ⟨b,i⟩:∃b,b=kR s (T s+1) 0:=X_;have J:fS s=kW [] b:=by rw[fS,a8 P,i]
 refine aB<|Sz (kl 5 Ja)<|S<|U aA<|V (kc call254 (gv s _ Z Z Z (dO.ofL ⟨F_,F_,F_,F_,T_⟩)))<|aD ?_;refine gK.ent (E':=[(2,.ref 2 0 0 0),(3,.ref 3 0 0 0),(4,.ref 4 0 0 0),(5,.ref 5 0 0 0),(11,.clo 290 [.ref 921 0 0 0,.ref 924 0 0 0])]) (H':=[(905,⟨0,3,189,[]⟩),(5,bx 1 185 [.osl 905 0 0 0]),(924,tA),(923,tC),(921,tS s),(4,bx 1 3 [iv 0]),(3,bx 1 25 [iv 0]),(2,bx 1 185 [.pv (.sl [])])]) ?_ ?_
 .exact (Q_ 905 3 189)
 have z:C b<=T s+1:=by rw[i];exact BX s _ _
 have ⟨j,W⟩:∃j,j=AA (tX b) (C b) 0:=X_;have G:j<=C b:=by have:=(GT (tX b) (C b) 0).2;omega
 have u:∀k,k<j->tX b k=A:=λk K=>KO (tX b) (C b) 0 k (k_ _) (by rw[<-W];exact K);have L:j<C b->tX b j=η:=λh=>by have:=yJ (tX b) (C b) 0 X;rwa [<-W]at this
 have m:=N4 G u;refine CS (id:=904) (p:=12) wH Z call290 Z Z m5 ?_;intro x E H u_ l J3 R;have o:∀(k:Nat) (d:b7),b[k]?=N d->k<=j ->
   dQ φ (.yld 904 0) [.agg ((MI d).map .pv)] ((904,LR x wH)::(926,tF d)::kL s (b.take k) (.pv (.sl [])) 0 0) (λr H'=>r=bv (tX b k)/\H'=(if tX b k then(904,LR x wH)::(926,tF d)::kL s (b.take (k+1)) (.pv (.sl [])) 0 0 else(904,LR (left x .ret) wH)::(926,tF d)::kL s (b.take k) (.pv (.sl [])) (if d.err≠0 then d.err else 2) d.pos)):=by
  intro k d y τ;have g:=LI y;have σ:k<C b:=(m9.1 y).1;have ρ:C (b.take k)=k:=by rw[n_];omega
  have I:b.take (k+1)=b.take k++[d]:=by rw[List.take_add_one,y];rfl
  refine .inl ⟨904,0,Z,?_⟩;refine M7 [(2,.ref 2 0 0 0),(3,.ref 3 0 0 0),(4,.ref 4 0 0 0),(5,.ref 5 0 0 0),(6,.ref 907 0 0 0)] ((907,tF d)::(926,tF d)::kL s (b.take k) (.pv (.sl [])) 0 0) E H u_ l J3 R Z Z Z ?_ ?_
  .refine Rd (kl 907 Jd)<|Uu (jH sizeOf266)<|Zz ?_;exact(cJ.wk (Ea<|Ea<|Ea<|Ea<|Ea<|T_) (Hc (oN m5)<|Hc (A2 _ _)<|Hc (A2 _ _)<|Hc (cV _ _)<|Ha<|Hc (tO Z Z)<|Hc (kT _)<|Hc (tN _ _)<|Hb<|Hb<|Hb<|T_) ⟨Z,Z,Z,Z,Z,Z,Z,Z,Z,Z,T_⟩)
  refine aD<|S<|aD<|U (bC uE)<|Y (bT nP)<|Y xN<|Da<|Cn ?_ ?_<;>intro F
  .have q:d.err≠0:=by have h:=F;rw[r9,q7]at h;exact h
   have w:tX b k=η:=by rw[g,Á q];rfl
   rw[w,a8 E_,b6 q];refine S<|aN a7<|Cr [907] (λ_ h=>fh uE h)<|Cr [907] (λ_ h=>lh nP h)<|Cr [907] (λ_ h=>fh pI h)<|Cr [907] (λ_ h=>fh RQ h)<|Cr [907] (λ_ h=>lh M_ h)<|Cp [2] (λ_ h=>sa oM h)<|Cp [3] (λ_ h=>sa sizeOf25 h)<|Cp [4] (λ_ h=>sa sizeOf3 h)<|bF<|Kr<|aC ?_;exact⟨(926,tF d)::kL s (b.take k) (.pv (.sl [])) d.err d.pos,(cJ.wk T_ (Hc (oN m5)<|Hc (A2 _ _)<|Hc (cV _ _)<|Ha<|Hc (tO Z Z)<|Hc (kT _)<|Hc (tN _ _)<|Hb<|Hb<|Hb<|T_) ⟨Z,Z,Z,Z,Z,Z,Z,Z,Z,Z,T_⟩),Z,Z⟩
  have q:d.err=0:=by have h:=F;rw[Bool.not_eq_false',l6]at h;exact h
  refine U (bT nV)<|Y (by exact eB Z cU Z Z Z)<|Y cI<|Da<|Cn ?_ ?_<;>intro D
  .have t:k=5000:=by have:=b9 D;omega
   have w:tX b k=η:=by rw[g,À q,À t];rfl
   rw[w,a8 E_,a8 (λh=>h q)];refine S<|aN a7<|Cr [907] (λ_ h=>fh pI h)<|Cr [907] (λ_ h=>fh RQ h)<|Cr [907] (λ_ h=>lh M_ h)<|Cp [2] (λ_ h=>sa oM h)<|Cp [3] (λ_ h=>sa sizeOf25 h)<|Cp [4] (λ_ h=>sa sizeOf3 h)<|bF<|Kr<|aC ?_;exact⟨(926,tF d)::kL s (b.take k) (.pv (.sl [])) 2 d.pos,(cJ.wk T_ (Hc (oN m5)<|Hc (A2 _ _)<|Hc (cV _ _)<|Ha<|Hc (tO Z Z)<|Hc (kT _)<|Hc (tN _ _)<|Hb<|Hb<|Hb<|T_) ⟨Z,Z,Z,Z,Z,Z,Z,Z,Z,Z,T_⟩),Z,Z⟩
  have t:¬ k=5000:=by have:=b_ D;omega
  have w:tX b k=A:=by rw[g,À q,Á t];rfl
  rw[w,b6 Z,I,Qb];refine aB<|Rd (bT nV)<|Y (bC pI)<|Y (xB jF sizeOf189)<|Y (by exact aM [K_ d] Z iK Z Z Z Z Z R_)<|Y (by exact bU (ps:=[K_ d]) Z iK Bc Z Z Z Z Z (yO _) Z R_ (m:=1) Z X Z (C4 (b.take k) d))<|Uu (jH oM)<|Zz ?_;exact⟨(926,tF d)::[(905,⟨(b.take k).length+1,3,189,mA (b.take k++[d])⟩),(5,bx 1 185 [.osl 905 ((b.take k).length+1) 0 ((b.take k).length+1)]),(924,tA),(923,tC),(921,tS s),(4,bx 1 3 [iv 0]),(3,bx 1 25 [iv 0]),(2,bx 1 185 [.pv (.sl [])])],(cJ.wk T_ (Hc (oN m5)<|Hc (A2 _ _)<|Hc (cV _ _)<|Ha<|Hc (tO Z Z)<|Hc (kT _)<|Hc (tN _ _)<|Hb<|Hb<|Hb<|T_) ⟨Z,Z,Z,Z,Z,Z,Z,Z,Z,Z,T_⟩),Z,Z⟩
 rcases Nat.lt_or_ge j (C b) with n|o_
 .have ⟨f,Q⟩:=aQ n;have B:=L n;have f_:b.drop j=f::b.drop (j+1):=by
   rw[List.drop_eq_getElem_cons n];rw[m_ n]at Q;cases Q;rfl
  have c:fS s=([],(if f.err≠0 then f.err else 2),(f.pos:Int)):=by
   rw[J,m,f_,kW]
   split
   .rfl
   rename_i q;have a:f.err=0:=by
    by_cases h:f.err=0
    .exact h
    exact absurd h q
   rw[LI Q,À a,Bool.true_and,Bool.not_eq_false',l6]at B;rw[b6 (by rw[n_];omega)]
  rw[c]at g;have g:(if f.err≠0 then f.err else 2)=0:=g
  split at g
  .next h=>exact absurd g h
  exact absurd g (by decide)
 have i_:j=C b:=Nat.le_antisymm G o_;rw[i_,Â,drop_length]at m;rw[J,m,kW];refine(NB s (.yld 904 0) (λk=>(904,LR x wH)::kL s (b.take k) (.pv (.sl [])) 0 0) (tX b) (C b) A_ (λk=>rfl) (λk=>rfl) (λk=>rfl) (λk=>rfl) (λk=>(dO.ofL ⟨(by exact oN m5),(cV _ _),x8,(tO Z Z),(kT _),(tN _ _),r5,r5,r5,T_⟩)) (λk=>by simp;rfl) (by rw[<-i];exact h_ _) (λk K=>u k X) (.inl (by rw[<-i])) ?_).mono ?_
 .rw[<-i];intro k d y K;have p:=o k d y X;have g:=u k X;rw[g,b6 rfl]at p;rw[g];exact dQ.congrG p (λj=>nM E_ j) (λj=>nM E_ j)
 rintro r H' ⟨rfl,rfl⟩;rw[Â];refine⟨x,_,Z,by rw[E];decide,Z,λz=>?_⟩;rw[H];refine U (bT nV)<|Uu (jH oM)<|Uu (jH sizeOf25)<|Uu (jH sizeOf3)<|Zz<|aC<|mP (H':=[(905,⟨C b,3,189,mA b⟩)]) (.inr Z) Z (iT Z nV Z Z Z Z) (iT Z nP Z Z Z Z) (iT Z M_ Z Z Z Z) P_ ?_;exact Qq
theorem aCi(s)(H)(c:T s<2^40)(b:(fS s).2.1=0)(B:H.get 905=ζ):aU φ 203 [sv s] H (λr H'=>r=.tup [.osl 905 (C (fS s).1) 0 (C (fS s).1),iv 0,iv (fS s).2.2]/\H'=(905,⟨C (fS s).1,3,189,mA (fS s).1⟩)::H) :=aU.frame (aCj s c b) (λ_ _ h=>by cases h) (λ_ _ h=>by cases h) H_ (λid h=>.inr (by
  by_cases e:id=905
  .simp_all
  rw[get_cons_other _ _ e]at h;cases h))
theorem KP(f:α->List _)(l:List _):l.map (λe=>(f e).map AV.pv)=(l.map f).map (·.map .pv):=H_
theorem lG(f:α->List PV)(l:List _):((l.map f).take (0+C l)).drop 0=l.map f:=Æ H_
theorem Fy(f)(H):RC 285 [av (K_ f)] (bv (kX f)) H:=by
 refine Pu<|Bd func285 Z ntmps285<|U (tW (id:=1) Z Z Z Z Z)<|V aH<|S<|aT (t:=2) (n:=10) (A_:=kX f) ?_ ?_
 .all_goals refine Y (bC iO)<|Y (bT N_)<|Y wV<|Dm ?_<;>(refine Sp 6 (λb=>?_) λb=>?_)<;>(first|refine M<|M<|M ?_|refine O (bC vW)<|O (bT M_)<|O cI ?_)<;>refine Y cE<|Da ?_<;>exact Gj (h:=by(simp only[kX, *];rfl))
 exact aC<|Rt<|Qq
theorem OA(l)(H:aF)(D:C l<2^62):
  RC 284 [.pv (DA l),.pv (.fn 285)] (iv (BB kX l)) H:=by
 refine Pu ?_;have B:C (l.map K_)=C l:=g_ _;refine Bd func284 Z ntmps284<|Sz aH<|S<|U aA<|Y (fP cU)<|V aA<|aD<|bA (σ:=Nat) (λk=>([(0,.pv (DA l)),(1,.pv (.fn 285)),(7,iv (C (l.map K_):Int)),(8,iv (k:Int))],[])) (λk=>k<=C l/\∀j,j<k->∀b,l[j]?=N b->kX b=η) (λk=>C l - k) 0 ⟨X,X⟩ ?_ ?_
 .exact E0
 rintro k ⟨hk,d⟩;refine Sz cH<|S<|Cn ?_ ?_<;>intro f
 .have i:k<C l:=I_ f
  have ⟨o,h⟩:=aQ i;have hi:=cA (f:=K_) h;refine aB<|S<|aD<|U aA<|V aH<|U aA<|Y aA<|Y aA<|Y (jA iK)<|Y (by exact fG Z jF sizeOf189 Z X (Z) Z)<|V (by exact dL Z Z Z (dQ.fn call285 (Fy o _)))<|Cn ?_ ?_<;>intro e
  .refine U aA<|V aH<|aC<|Rt ?_;exact⟨by rw[BB,ZB d h e],Z⟩
  refine aB<|Rd iF<|V aA ?_;exact⟨k+1,⟨X,TK d h e⟩,X,E0⟩
 have g:k=C l:=J_ f
 subst g;refine aP<|Sz aH<|aC<|Rt ?_;exact⟨by rw[BB,ZC d],Z⟩
def K6(J3:List b7)(k:Nat):List b7:=J3++List.replicate k LQ
theorem K5(J3)(k):C (K6 J3 k)=C J3+k:=by rw[K6,j7,Î]
theorem Ns(J3)(k):mA (K6 J3 k)++[(K_ LQ).map AV.pv]=mA (K6 J3 (k+1)):=by rw[C4,K6,K6,replicate_succ',Ä]
def kF(s:B_):Nat->Int
 |0=>0
 |j+1=>if eQ ((j+1:Nat):Int)=s then((j+1:Nat):Int)else kF s j
theorem Ag(s):kF s 5=EN s:=by simp only[kF,EN,eq_comm];rfl
theorem SB:∀l,sO l=fU l (C l / 3)
 | []=>rfl
 | [a]=>by simp[sO,fU]
 | [a,b]=>by simp[sO,fU]
 |a::b::c::r=>by
  rw[sO,SB r];have d:C (a::b::c::r)=C r+3:=rfl;rw[d,add_div_right _ H_,fU,fU,range_succ_eq_map,Í,Õ];rfl
theorem Td(s):atV s=(qT s).1:=by rw[atV,qT];all_goals grind
abbrev oR(id:B_)(k x y:Int)(n m:Nat):Ob:=bx 6 135 [sv id,iv k,iv x,iv y,.osl 906 n 0 n,.osl 907 m 0 m]
def fp(L:List b7):Ob:=⟨C L,3,189,mA L⟩
def rH(L:List b7)(id:B_)(k x y:Int)(R:List B_)(G:List m8):aF:=[(907,⟨C G,2,270,tL G⟩),(906,⟨C R,1,9,bP R⟩),(3,oR id k x y (C R) (C G)),(905,fp L),(2,bx 6 135 ((bS j8).map .pv))]
abbrev rE(L:List b7):dG:=[(0,.osl 905 (C L) 0 (C L)),(2,.ref 2 0 0 0),(3,.ref 3 0 0 0)]
theorem aGR(L)(id)(k x y)(R)(s)(G):rH L id k x y (R++[s]) G=[(907,⟨C G,2,270,tL G⟩),(906,⟨C R+1,1,9,bP (R++[s])⟩),(3,oR id k x y (C R+1) (C G)),(905,fp L),(2,bx 6 135 ((bS j8).map .pv))]:=by simp[rH]
theorem aE0(L)(id)(k x y)(R)(t)(G):rH L id k x y R (G++[t])=[(907,⟨C G+1,2,270,tL (G++[t])⟩),(906,⟨C R,1,9,bP R⟩),(3,oR id k x y (C R) (C G+1)),(905,fp L),(2,bx 6 135 ((bS j8).map .pv))]:=by simp[rH]
theorem C3{L}{f}(h:L[i]?=N f):(mA L)[i]?=N [iv f.kind,sv f.text,iv (f.pos)]:=by rw[mA,r7,h];rfl
theorem u1{p:Prop}(h:p:=by simp only[Zl,bZ,bS,S_,gX,K_];rfl):p:=h
theorem aBt(J3:List b7)(hl:C J3<549755813888)(F:∀f∈wZ J3,T f.text<2^40):aU φ 252 [.osl 905 (C J3) 0 (C J3)] [(905,fp J3)] (λr H'=>r=av (bS (uB J3))/\H'=[(905,fp (wZ J3))]):=by
 refine Bd func252 Z ntmps252<|Sz (kl 2 XC)<|S<|aD<|bA (σ:=Nat) (λk=>([(0,.osl 905 (C (K6 J3 k)) 0 (C (K6 J3 k))),(2,.ref 2 0 0 0)],[(905,fp (K6 J3 k)),(2,bx 6 135 ((bS j8).map .pv))])) (λk=>k<=4 - C J3) (λk=>4 - C J3 - k) 0 (k_ _) ?_ ?_
 ·rw[show K6 J3 0=J3 by simp[K6]];exact(cJ.wk (Ea<|Ea<|T_) (Hc (cV _ _)<|Hb<|T_) ⟨Z,T_⟩)
 rintro k hk;have K:=K5 J3 k;unfold fp;refine S<|U aA<|Y (by exact eB Z cU Z Z Z)<|V cH<|Cn ?_ ?_<;>intro y_
 .have z_:C J3+k<4:=by have:=b9 y_;rw[K]at this;omega
  refine aB<|aD<|Rd aA<|Y (oU IQ)<|Y (by exact aM [K_ LQ] Z iK Z Z Z Z Z R_)<|Y (by exact bU (ps:=[K_ LQ]) Z iK Bc Z Z Z Z Z (yO _) Z R_ (m:=1) Z X Z (Ns J3 k))<|Da ?_;refine⟨k+1,X,X,?_⟩;rw[show (K6 J3 (k+1)).length=(K6 J3 k).length+1 by rw[K5,K5];omega];exact(cJ.wk (Ea<|Ea<|T_) (Hc (cV _ _)<|Hb<|T_) ⟨Z,T_⟩)
 have W:4<=C J3+k:=by have:=b_ y_;rw[K]at this;omega
 obtain rfl:k=4 - C J3:=by omega
 have ⟨L,hL⟩:∃L,L=K6 J3 (4 - C J3):=X_;have G:wZ J3=L:=by rw[hL];rfl
 have hLl:4<=C L/\C L<549755813893:=by rw[hL,K5];omega
 rw[G]at F;rw[G,<-hL];clear K;have ⟨I,v_⟩:=aQ (show 0<C L by omega);have ⟨t1,ρ⟩:=aQ (show 1<C L by omega);have ⟨P,c_⟩:=aQ (show 2<C L by omega);have ⟨Q,o_⟩:=aQ (show 3<C L by omega);have w:=C3 v_;have hr1:=C3 ρ;have s:=C3 c_;have hr3:=C3 o_;have hd:∀ {i:Nat} {f:b7},L[i]?=N f->L.getD i LQ=f:=fun {i f} h=>by rw[getD_eq_getElem?_getD,h];rfl
 have c:=uB.eq_1 J3;rw[G,hd v_,hd ρ,hd c_,hd o_]at c;refine aP<|U aA<|Y (by exact dS Z iK Z Z Z Z Z X (by exact l_ _) (show 1<L.length by omega) Z)<|Y (bC iO)<|Y (by exact aX Z N_ Z Z Z hr1 Z)<|Y (oU Sf)<|Y (kl 3 Jb)<|Uu (jH sizeOf135)<|Zz<|S<|S ?_;refine gK.ent (E':=rE L) (H':=[(906,⟨0,1,9,[]⟩),(3,bx 6 135 [sv t1.text,iv 0,iv 0,iv 0,.osl 906 0 0 0,.pv .nils]),(905,fp L),(2,bx 6 135 ((bS j8).map .pv))]) (cJ.nz 906 1 9 Z Z ⟨⟨_,Z,(by exact Nz.same x8)⟩,⟨_,Z,(by exact Nz.same x8)⟩,⟨_,Z,(by exact Nz.same x8)⟩,T_⟩ ⟨⟨_,Z,Z,Z,Z,(by exact .inr ⟨_,_,rfl,rfl,(by repeat(first|exact trivial|refine⟨(by first|exact Nz.own|exact Nz.same r5),?_⟩))⟩)⟩,⟨_,Z,Z,Z,Z,(by exact .inl ⟨Z,(by exact cV _ _)⟩)⟩,⟨_,Z,Z,Z,Z,(by exact .inl ⟨Z,r5⟩)⟩,T_⟩ ⟨Z,T_⟩) ?_;refine gK.ent (E':=rE L) (H':=rH L t1.text 0 0 0 [] []) (cJ.nz 907 2 270 Z Z ⟨⟨_,Z,(by exact Nz.same x8)⟩,⟨_,Z,(by exact Nz.same x8)⟩,⟨_,Z,(by exact Nz.same x8)⟩,T_⟩ ⟨⟨_,Z,Z,Z,Z,(by exact .inl ⟨Z,(by exact aL _ _)⟩)⟩,⟨_,Z,Z,Z,Z,(by exact .inr ⟨_,_,rfl,rfl,(by repeat(first|exact trivial|refine⟨(by first|exact Nz.own|exact Nz.same (by first|(simp;done)|(simp;rfl))),?_⟩))⟩)⟩,⟨_,Z,Z,Z,Z,(by exact .inl ⟨Z,(by exact cV _ _)⟩)⟩,⟨_,Z,Z,Z,Z,(by exact .inl ⟨Z,r5⟩)⟩,T_⟩ ⟨Z,T_⟩) ?_;refine Rg<|V aH<|aD<|bA (σ:=Nat) (λj=>(rE L++[(4,iv ((j+1:Nat):Int))],rH L t1.text (kF I.text j) 0 0 [] [])) (λj=>j<=5) (λj=>5 - j) 0 (k_ _) ?_ ?_
 ·exact(cJ.wk (Ea<|Ea<|Ea<|Eb<|T_) (Hc (lI _ _)<|Hc (aL _ _)<|Hc (by(simp;exact⟨Z,Z⟩))<|Hc (cV _ _)<|Hb<|T_) ⟨Z,T_⟩)
 rintro j hj;refine S<|U aA<|V HV<|Cn ?_ ?_<;>intro A_
 .have τ:j<5:=by have:=b9 A_;omega
  refine aB<|S<|aD<|S<|aN a7<|Cq aA<|Cq (kc call283 (IS ((j+1:Nat):Int) _))<|Cq aA<|Cq (by exact dS Z iK Z Z Z Z Z X (by exact l_ _) (show 0<L.length by omega) Z)<|Cq (bC iO)<|Cq (by exact aX Z N_ Z Z Z w Z)<|Cq wV<|bF<|Kr<|Cn ?_ ?_<;>intro e
  ·have hw:eQ ((j+1:Nat):Int)=I.text:=b9 e;refine Rd aA<|Y (bC eK)<|Uu (by exact cM Z sizeOf3 Z Z Z Z Z Z y0 u1 u1)<|Zz<|Rd aA<|Y iF<|Da ?_;refine⟨j+1,X,X,?_⟩;rw[show kF I.text (j+1)=((j+1:Nat):Int)by rw[kF,b6 hw]];exact(cJ.wk (Ea<|Ea<|Ea<|Eb<|T_) (Hc (lI _ _)<|Hc (aL _ _)<|Hc (by(simp;exact⟨Z,Z⟩))<|Hc (cV _ _)<|Hb<|T_) ⟨Z,T_⟩)
  have hw:eQ ((j+1:Nat):Int)≠I.text:=b_ e;refine aB<|Rd aA<|Y iF<|Da ?_;refine⟨j+1,X,X,?_⟩;rw[show kF I.text (j+1)=kF I.text j by rw[kF,a8 hw]];exact(cJ.wk (Ea<|Ea<|Ea<|Eb<|T_) (Hc (lI _ _)<|Hc (aL _ _)<|Hc (by(simp;exact⟨Z,Z⟩))<|Hc (cV _ _)<|Hb<|T_) ⟨Z,T_⟩)
 have τ:j=5:=by have:=b_ A_;omega
 subst τ;rw[Ag];generalize EN I.text=d at c |-;have htk:(mA L).length=L.length:=yO L;refine aP<|U aA<|Y (by exact lD (l:=4) (h:=L.length) Z iK Z Z Z Z Z Z X X Z Z)<|V aH<|S<|U (bC eK)<|Y (bT M_)<|V cI<|Cn ?_ ?_<;>intro R
 .have z:d=1:=b9 R;have hR2:uB J3=⟨t1.text,1,atV P.text,atV Q.text,[],sO (L.drop 4)⟩:=by rw[c,b6 z]
  subst z;refine U aA<|Y (by exact dS Z iK Z Z Z Z Z X (by exact l_ _) (show 2<L.length by omega) Z)<|Y (bC iO)<|Y (by exact aX Z N_ Z Z Z s Z)<|Y (kc wS (RT P.text (F _ (m7 c_)) _))<|Y aA<|Y dK<|Y dK<|Y (bC nD)<|Y (bC nF)<|Uu (by exact cM Z sizeOf3 Z Z Z Z Z Z y0 u1 u1)<|Zz<|Rd aA<|Y (by exact dS Z iK Z Z Z Z Z X (by exact l_ _) (show 3<L.length by omega) Z)<|Y (bC iO)<|Y (by exact aX Z N_ Z Z Z hr3 Z)<|Y (kc wS (RT Q.text (F _ (m7 o_)) _)) ?_;refine Y aA<|Y dK<|Y dK<|Y (bC nD)<|Y (bC nE)<|Uu (by exact cM Z sizeOf3 Z Z Z Z Z Z y0 u1 u1)<|Zz<|S<|aD ?_;have ⟨D,E⟩:∃D,D=L.drop 4:=X_;have κ:D.length=L.length - 4:=by rw[E,q6]
  refine bA (σ:=Nat) (λj=>(rE L++[(5,.osl 905 (C L) (4+3*j) (C L - 4 - 3*j))],rH L t1.text 1 (qT P.text).1 (qT Q.text).1 ([]:List B_) (fU D j))) (λj=>3*j<=C D) (λj=>C D - 3*j) 0 (k_ _) ?_ ?_
  ·exact(cJ.wk (Ea<|Ea<|Ea<|Ea<|T_) (Hc (lI _ _)<|Hc (aL _ _)<|Hc (by(simp;exact⟨Z,Z⟩))<|Hc (cV _ _)<|Hb<|T_) ⟨Z,T_⟩)
  rintro j hj;have d_:=F9 D j;have hfl:=IL D j;refine S<|U aA<|Y (by exact eB Z cU Z Z Z)<|V jB<|Cn ?_ ?_<;>intro g
  .have z_:3*j+2<C D:=by have:=b9 g;omega
   have ⟨y,u⟩:∃f,L[4+3*j]?=N f:=aQ X;have ⟨x,v⟩:∃f,L[4+3*j+2]?=N f:=aQ X;have w:=C3 u;have s:=C3 v;have B:XQ D j=⟨y.text,x.text⟩:=by
    rw[XQ,E,getElem?_drop,getElem?_drop,u,show 4+(3*j+2)=4+3*j+2 from Z,v];rfl
   refine aB<|S<|aD<|aN a7<|Cs (λ_ h=>fh gL h)<|Cs (λ_ h=>lh dP h)<|Cs (λ_ _=>aA)<|Cs (λH1 J=>by exact dS Z iK Z ((J _ Z).trans Z) Z Z Z X (by exact l_ _) (show 0<L.length - 4 - 3*j by omega) Z)<|Cs (λ_ h=>fh iO h)<|Cs (λH1 J=>by exact aX Z N_ Z ((J _ Z).trans Z) Z w Z)<|Cs (λ_ _=>aA)<|Cs (λH1 J=>by exact dS Z iK Z ((J _ Z).trans Z) Z Z Z X (by exact l_ _) (show 2<L.length - 4 - 3*j by omega) Z)<|Cs (λ_ h=>fh iO h)<|Cs (λH1 J=>by exact aX Z N_ Z ((J _ Z).trans Z) Z s Z)<|Cs (λ_ _=>(oU Sg))<|Cs (λH1 J=>by exact aM [bZ ⟨y.text,x.text⟩] Z lZ Z Z Z Z Z R_) ?_;refine iQ (r:=⟨_,none,[_]⟩) (DStep.plain Z (λH1 J=>by exact bU (ps:=[bZ ⟨y.text,x.text⟩]) Z lZ Re Z ((J _ Z).trans Z) Z Z Z (IW _) Z R_ (m:=1) Z X Z (IX (fU D j) ⟨y.text,x.text⟩))) Z ?_;refine Cs (λ_ h=>fh gL h)<|iQ (r:=⟨_,none,[_]⟩) (DStep.plain Z (λH1 J=>by exact(by exact cM Z sizeOf133 Z Z Z ((J _ Z).trans Z) Z Z y0 u1 u1))) Z ?_;refine bF<|Kr<|Rd aA<|Y (by exact lD (l:=3) (h:=(L.length - 4 - 3*j)) Z iK Z Z Z Z Z Z X X Z Z)<|Da ?_;refine⟨j+1,X,X,?_⟩;dsimp only;rw[d_,B,aE0];exact(cJ.wk (Ea<|Ea<|Ea<|Ea<|T_) (Hc (lI _ _)<|Hc (aL _ _)<|Hc (by(simp;exact⟨Z,Z⟩))<|Hc (cV _ _)<|Hb<|T_) ⟨Z,T_⟩)
  have W:C D<3*j+3:=by have:=b_ g;omega
  have i_:C D / 3=j:=by omega
  have hG:sO D=fU D j:=by rw[SB,i_]
  refine aP<|S ?_;refine gK.ent (cJ.fzG (id:=907) (E':=rE L) (H':=[(906,⟨C (([]:List B_)),1,9,bP (([]:List B_))⟩),(3,bx 6 135 [sv (t1.text),iv (1),iv ((qT P.text).1),iv ((qT Q.text).1),.osl 906 (C (([]:List B_))) 0 (C (([]:List B_))),.pv (qV (fU D j))]),(905,fp L),(2,bx 6 135 ((bS j8).map .pv))]) ((fU D j).map bZ) Z (KP bZ _) ?_ Z ?_ ?_) ?_
  .intro p t;simp only[l9,q8,or_false]at t;rcases t with rfl|rfl|rfl<;>exact⟨_,Z,.same u3⟩
  .exact⟨⟨_,Z,Z,Z,Z,dF (aL _ _)⟩,⟨_,Z,Z,Z,Z,kY Z (bG (.same H_) (bG (.same H_) (bG (.same H_) (bG (.same H_) (bG (.same u3) (bG (.osl (lG bZ _)) jV))))))⟩,⟨_,Z,Z,Z,Z,dF (cV _ _)⟩,⟨_,Z,Z,Z,Z,dF H_⟩,T_⟩
  .exact⟨Z,T_⟩
  refine gK.ent (cJ.fzG (id:=906) (E':=rE L) (H':=[(3,bx 6 135 [sv (t1.text),iv (1),iv ((qT P.text).1),iv ((qT Q.text).1),.pv (aK (([]:List B_))),.pv (qV (fU D j))]),(905,fp L),(2,bx 6 135 ((bS j8).map .pv))]) ((([]:List B_)).map S_) Z (cX _) ?_ Z ?_ ?_) ?_
  .intro p t;simp only[l9,q8,or_false]at t;rcases t with rfl|rfl|rfl<;>exact⟨_,Z,.same u3⟩
  .exact⟨⟨_,Z,Z,Z,Z,kY Z (bG (.same H_) (bG (.same H_) (bG (.same H_) (bG (.same H_) (bG (.osl (lG S_ _)) (bG (.same H_) jV))))))⟩,⟨_,Z,Z,Z,Z,dF (cV _ _)⟩,⟨_,Z,Z,Z,Z,dF H_⟩,T_⟩
  .exact⟨Z,T_⟩
  refine Rd (by exact aW Z cC sizeOf135 Z Z Z Z u1 Z)<|Uu (jH sizeOf135)<|Zz<|aC ?_;refine cR (H':=[(905,fp L)]) (.inr Z) Z (fJ Z cC sizeOf135 Z Z Z u1 Z) (Fin.wk r5 (Hc (cV _ _)<|T_) ⟨Z,T_⟩) ?_;refine⟨?_,Z⟩;rw[(show uB J3=⟨t1.text,1,(qT P.text).1,(qT Q.text).1,[],sO (L.drop 4)⟩by rw[hR2,Td,Td]),<-E,hG];rfl
 have z:d≠1:=b_ R;rw[a8 z]at c;have γ:=OA L [] X;have δ:∀H,H.get 905=N (fp L)->RC 284 [.osl 905 (C L) 0 (C L),.pv (.fn 285)] (iv (BB kX L)) H:=λH J =>
  RO.calls (RO.lend (id:=905) (H1:=[]) (L.map K_) (RO.of γ Z) J (KP K_ L) Z
   (bG (.osl (lG K_ L)) (bG (.same H_) jV)) (λ_ _ h=>by cases h) (λ_ _ h=>by cases h) Z)
 refine U aA<|Y (kc call284 (δ _ Z))<|V aH<|S<|U aA<|V cH<|Cn ?_ ?_<;>intro f_
 ·have b:BB kX L<3:=b9 f_;rw[b6 b]at c;rw[c];refine U (oU GF)<|Uu (jH sizeOf135)<|Zz<|aC<|cR (H':=[(905,fp L)]) (.inr Z) Z (fJ Z cC sizeOf135 Z Z Z u1 Z) (Fin.wk r5 (Hc (cV _ _)<|T_) ⟨Z,T_⟩) ?_;exact Qq
 have b:¬ BB kX L<3:=b_ f_;rw[a8 b]at c;have ⟨q,hq,hqL⟩:∃q:Nat,BB kX L=(q:Int)/\q<C L:=by
  rcases ur kX L with⟨e1,_⟩|⟨q,o,e1,e2,_⟩
  .rw[e1]at b;exact absurd (by decide) b
  exact⟨q,e1,(m9.1 e2).1⟩
 rw[hq]at c b |-;rw[l_]at c;have hq3:3<=q:=by omega
 have ⟨a,hM⟩:∃a,a=(L.take q).drop 3:=X_;have hMl:C a=q - 3:=by rw[hM,q6,n_];omega
 rw[<-hM]at c;refine aB<|S<|U aA<|Y aA<|Y (by exact lD (l:=3) (h:=q) Z iK Z Z Z Z Z Z X X Z Z)<|Y (by exact eB Z cU Z Z Z)<|V aA<|aD<|bA (σ:=Nat) (λi=>(rE L++[(5,.osl 905 L.length 4 (L.length - 4)),(6,iv (q:Int)),(66,.osl 905 L.length 3 (q - 3)),(67,iv ((q - 3:Nat):Int)),(68,iv (i:Int))],rH L t1.text d 0 0 ((a.take i).map b7.text) [])) (λi=>i<=a.length) (λi=>a.length - i) 0 (k_ _) ?_ ?_
 ·exact(cJ.wk (Ea<|Ea<|Ea<|Ea<|Eb<|Ea<|Eb<|Eb<|T_) (Hc (lI _ _)<|Hc (aL _ _)<|Hc (by(simp;exact⟨Z,Z⟩))<|Hc (cV _ _)<|Hb<|T_) ⟨Z,T_⟩)
 rintro i hi;refine Sz cH<|S<|Cn ?_ ?_<;>intro u_
 .have hiq:i<q - 3:=by have:=b9 u_;omega
  have ⟨f,hf⟩:=aQ (show i<C a by omega);have hfL:L[3+i]?=N f:=by
   rw[hM,List.getElem?_drop,List.getElem?_take_of_lt (by omega)]at hf;exact hf
  have hrf:=C3 hfL;have hMt:(a.take (i+1)).map b7.text=(a.take i).map b7.text++[f.text]:=by rw[É,hf,Ã];rfl
  have hRl:C ((a.take i).map b7.text)=i:=by rw[g_,n_];omega
  refine aB<|S<|aD<|U (by exact dS Z iK Z Z Z Z Z X (by exact l_ _) X Z)<|Y (by exact aW Z jF sizeOf189 Z Z Z hrf u1 Z)<|Y (kl 8 wo)<|Uu (jH sizeOf189)<|Zz<|Rd (bC eJ)<|Y (bT aG)<|Y (bC iO)<|Y (bT N_)<|Y (by exact aM [S_ f.text] Z aY Z Z Z Z Z R_)<|Y (by exact bU (ps:=[S_ f.text]) Z aY sX Z Z Z Z Z (dB _) Z R_ (m:=1) Z X Z (gP ((a.take i).map b7.text) f.text))<|Y (bC eJ)<|Uu (by exact cM Z sizeOf22 Z Z Z Z Z Z y0 u1 u1) ?_;refine Zz<|Rd iF<|V aA ?_;refine⟨i+1,X,X,?_⟩;dsimp only;rw[hMt,aGR];exact(cJ.wk (Ea<|Ea<|Ea<|Ea<|Eb<|Ea<|Eb<|Eb<|T_) (Hc (lI _ _)<|Hc (aL _ _)<|Hc (by(simp;exact⟨Z,Z⟩))<|Hc (cV _ _)<|Hb<|T_) ⟨Z,T_⟩)
 have hiq:i=q - 3:=by have:=b_ u_;omega
 have β:a.take i=a:=Æ X;rw[β];refine aP<|Rd aA<|Y aA<|Y kp<|Y (by exact lD (l:=(q+1)) (h:=L.length) Z iK Z Z Z Z Z Z X X Z Z)<|V aH<|S<|aD ?_;rw[<-r8 (q+1)]at c;have ⟨D,E⟩:∃D,D=L.drop (0+(q+1)):=X_;have κ:D.length=L.length - (0+(q+1)):=by rw[E,q6]
 refine bA (σ:=Nat) (λj=>(rE L++[(5,.osl 905 (C L) ((0+(q+1))+3*j) (C L - (q+1) - 3*j))],rH L t1.text d 0 0 (a.map b7.text) (fU D j))) (λj=>3*j<=C D) (λj=>C D - 3*j) 0 (k_ _) ?_ ?_
 ·exact(cJ.wk (Ea<|Ea<|Ea<|Ea<|T_) (Hc (lI _ _)<|Hc (aL _ _)<|Hc (by(simp;exact⟨Z,Z⟩))<|Hc (cV _ _)<|Hb<|T_) ⟨Z,T_⟩)
 rintro j hj;have d_:=F9 D j;have hfl:=IL D j;refine S<|U aA<|Y (by exact eB Z cU Z Z Z)<|V jB<|Cn ?_ ?_<;>intro n
 .have z_:3*j+2<C D:=by have:=b9 n;omega
  have ⟨y,u⟩:∃f,L[(0+(q+1))+3*j]?=N f:=aQ X;have ⟨x,v⟩:∃f,L[(0+(q+1))+3*j+2]?=N f:=aQ X;have w:=C3 u;have s:=C3 v;have B:XQ D j=⟨y.text,x.text⟩:=by
   rw[XQ,E,getElem?_drop,getElem?_drop,u,show (0+(q+1))+(3*j+2)=(0+(q+1))+3*j+2 from Z,v];rfl
  refine aB<|S<|aD<|aN a7<|Cs (λ_ h=>fh gL h)<|Cs (λ_ h=>lh dP h)<|Cs (λ_ _=>aA)<|Cs (λH1 J=>by exact dS Z iK Z ((J _ Z).trans Z) Z Z Z X (by exact l_ _) (show 0<L.length - (q+1) - 3*j by omega) Z)<|Cs (λ_ h=>fh iO h)<|Cs (λH1 J=>by exact aX Z N_ Z ((J _ Z).trans Z) Z w Z)<|Cs (λ_ _=>aA)<|Cs (λH1 J=>by exact dS Z iK Z ((J _ Z).trans Z) Z Z Z X (by exact l_ _) (show 2<L.length - (q+1) - 3*j by omega) Z)<|Cs (λ_ h=>fh iO h)<|Cs (λH1 J=>by exact aX Z N_ Z ((J _ Z).trans Z) Z s Z)<|Cs (λ_ _=>(oU Sg))<|Cs (λH1 J=>by exact aM [bZ ⟨y.text,x.text⟩] Z lZ Z Z Z Z Z R_) ?_;refine iQ (r:=⟨_,none,[_]⟩) (DStep.plain Z (λH1 J=>by exact bU (ps:=[bZ ⟨y.text,x.text⟩]) Z lZ Re Z ((J _ Z).trans Z) Z Z Z (IW _) Z R_ (m:=1) Z X Z (IX (fU D j) ⟨y.text,x.text⟩))) Z ?_;refine Cs (λ_ h=>fh gL h)<|iQ (r:=⟨_,none,[_]⟩) (DStep.plain Z (λH1 J=>by exact(by exact cM Z sizeOf133 Z Z Z ((J _ Z).trans Z) Z Z y0 u1 u1))) Z ?_;refine bF<|Kr<|Rd aA<|Y (by exact lD (l:=3) (h:=(L.length - (q+1) - 3*j)) Z iK Z Z Z Z Z Z X X Z Z)<|Da ?_;refine⟨j+1,X,X,?_⟩;dsimp only;rw[d_,B,aE0];exact(cJ.wk (Ea<|Ea<|Ea<|Ea<|T_) (Hc (lI _ _)<|Hc (aL _ _)<|Hc (by(simp;exact⟨Z,Z⟩))<|Hc (cV _ _)<|Hb<|T_) ⟨Z,T_⟩)
 have W:C D<3*j+3:=by have:=b_ n;omega
 have i_:C D / 3=j:=by omega
 have hG:sO D=fU D j:=by rw[SB,i_]
 refine aP<|S ?_;refine gK.ent (cJ.fzG (id:=907) (E':=rE L) (H':=[(906,⟨C ((a.map b7.text)),1,9,bP ((a.map b7.text))⟩),(3,bx 6 135 [sv (t1.text),iv (d),iv (0),iv (0),.osl 906 (C ((a.map b7.text))) 0 (C ((a.map b7.text))),.pv (qV (fU D j))]),(905,fp L),(2,bx 6 135 ((bS j8).map .pv))]) ((fU D j).map bZ) Z (KP bZ _) ?_ Z ?_ ?_) ?_
 .intro p t;simp only[l9,q8,or_false]at t;rcases t with rfl|rfl|rfl<;>exact⟨_,Z,.same u3⟩
 .exact⟨⟨_,Z,Z,Z,Z,dF (aL _ _)⟩,⟨_,Z,Z,Z,Z,kY Z (bG (.same H_) (bG (.same H_) (bG (.same H_) (bG (.same H_) (bG (.same u3) (bG (.osl (lG bZ _)) jV))))))⟩,⟨_,Z,Z,Z,Z,dF (cV _ _)⟩,⟨_,Z,Z,Z,Z,dF H_⟩,T_⟩
 .exact⟨Z,T_⟩
 refine gK.ent (cJ.fzG (id:=906) (E':=rE L) (H':=[(3,bx 6 135 [sv (t1.text),iv (d),iv (0),iv (0),.pv (aK ((a.map b7.text))),.pv (qV (fU D j))]),(905,fp L),(2,bx 6 135 ((bS j8).map .pv))]) (((a.map b7.text)).map S_) Z (cX _) ?_ Z ?_ ?_) ?_
 .intro p t;simp only[l9,q8,or_false]at t;rcases t with rfl|rfl|rfl<;>exact⟨_,Z,.same u3⟩
 .exact⟨⟨_,Z,Z,Z,Z,kY Z (bG (.same H_) (bG (.same H_) (bG (.same H_) (bG (.same H_) (bG (.osl (lG S_ _)) (bG (.same H_) jV))))))⟩,⟨_,Z,Z,Z,Z,dF (cV _ _)⟩,⟨_,Z,Z,Z,Z,dF H_⟩,T_⟩
 .exact⟨Z,T_⟩
 refine Rd (by exact aW Z cC sizeOf135 Z Z Z Z u1 Z)<|Uu (jH sizeOf135)<|Zz<|aC ?_;refine cR (H':=[(905,fp L)]) (.inr Z) Z (fJ Z cC sizeOf135 Z Z Z u1 Z) (Fin.wk r5 (Hc (cV _ _)<|T_) ⟨Z,T_⟩) ?_;refine⟨?_,Z⟩;rw[c,<-E,hG];rfl
theorem NA:∀(l) (p),oO l=N p->C p.1<=C l
 | [],p,h=>by cases h
 | [c],p,h=>by
  rw[oO]at h
  grind
 | c :: e :: r, p, h => by
  rw[oO]at h
  split at h
  ·grind
  split at h
  .cases h
  split at h
  .cases g:tZ e with
   |none=>simp_all
   | some b =>
    rw[g]at h;cases f:oO r with
    |none=>simp_all
    |some q =>
     rw[f]at h;cases h;have:=NA r q f;show C q.1+1<=C r+1+1;omega
  cases f:oO (e::r)with
  |none=>simp_all
  |some q =>
   rw[f]at h;cases h;have:=NA _ q f
   simp_all
theorem gF(s:B_)(i j):T (s.extract i j)<=T s:=by rw[<-aS,fW,n_,q6,aS];omega
theorem Cj(s):T (BD s).1<=T s:=by
 rw[BD];cases h:oO _ with
 |none=>exact k_ _
 |some p =>
  have:=NA _ _ h;rw[q6,aS]at this;rw[<-aS]
  grind
theorem qj{s}{f:b7}{j:Nat}(h:fF s i=(N f,j)):T f.text<=T s:=by
 rw[fF]at h
 split at h
 .cases h
 split at h
 .cases h
 split at h
 .cases h;exact gF _ _ _
 split at h
 .cases h;exact gF _ _ _
 split at h
 .cases h;rw[FY]
  split
  .have h1:=Cj (s.extract i (T s));have B:=gF s i (T s);show T (BD _).1<=_;omega
  exact k_ _
 split at h
 .cases h;exact gF _ _ _
 cases h;exact k_ _
theorem IU(s):∀(n i) (f),f∈kR s n i->T f.text<=T s
 |0,_,_,h=>by cases h
 | n+1,i,f,h=>by
  rw[kR]at h
  split at h
  .split at h
   .exact IU s n _ f h
   rename_i g j b;rcases l9.1 h with rfl|h
   .exact qj b
   split at h
   .exact IU s n _ f h
   cases h
  cases h
theorem il:∀(a acc) (f),f∈(kW acc a).1->f∈acc\/f∈a
 | [],acc,f,h=>.inl h
 |d::a,acc,f,h=>by
  rw[kW]at h
  split at h
  .cases h
  split at h
  .cases h
  rcases il _ _ f h with h|h;all_goals grind
theorem HF(s)(f)(h:f∈(fS s).1):T f.text<=T s:=by
 rw[fS]at h
 split at h
 .cases h
 rcases il _ _ f h with h|h
 .cases h
 exact IU s _ _ f h
theorem jr{J3}{n}(h:∀f∈J3,T f.text<=n):∀f∈wZ J3,T f.text<=n:=λf b=>by
 rcases mem_append.1 b with a|a
 .simp_all
 rw[(mem_replicate.1 a).2];exact k_ _
theorem XK:∀(J3) (n),(∀f∈J3,T f.text<=n)->C (sO J3)<=C J3/\∀t∈sO J3,T t.key<=n/\T t.val<=n
 | [],n,_=>by simp[sO]
 | [a],n,_=>by simp[sO]
 | [a,b],n,_=>by simp[sO]
 |a::b::c::r,n,h=>by
  obtain ⟨D,E⟩:=XK r n λf B=>h f G_;rw[sO]
  grind
theorem Nv(J3):C (wZ J3)<=C J3+4:=by rw[wZ,j7,Î];omega
theorem Mk{J3:List b7}{n:Nat}(h:∀f∈J3,T f.text<=n)(m:n<2^62)(D:C J3<549755813888):pn (uB J3):=by
 have o:=jr h;have B:=Nv J3;have l:∀i,T ((wZ J3).getD i LQ).text<=n:=λi=>by
  rw[getD_eq_getElem?_getD];cases e:(wZ J3)[i]? with
  |none=>exact k_ _
  |some f=>grind
 have j:∀k,NV (sO ((wZ J3).drop k)):=λk=>by
  have ⟨a,b⟩:=XK ((wZ J3).drop k) n λf p=>o f (Ê p);rw[q6]at a;exact⟨X,λt g=>by have:=b t g;omega⟩
 rw[uB]
 split
 .exact⟨Nat.lt_of_le_of_lt (l 1) m,j _,F_,λs d=>by cases d⟩
 split
 .exact⟨E_,⟨E_,λt h=>by cases h⟩,E_,λs d=>by cases d⟩
 refine⟨Nat.lt_of_le_of_lt (l 1) m,j _,?_,λs d=>?_⟩;all_goals grind
theorem sB(c):∀ {l w},w∈dX c l->C w<=C l
 | [],w,h=>by
  rw[dX]at h
  simp_all
 | b::l,w,h=>by
  have d:=sD c l;rw[dX]at h;cases e:dX c l with
  |nil=>rw[e]at d;exact absurd d (Nat.lt_irrefl 0)
  | cons x r =>
   have a:∀y∈x::r,C y<=C l:=λy hy=>sB c F_;rw[e]at h
   split at h
   .rcases l9.1 h with rfl|h
    .exact k_ _
    exact Ñ (a w h)
   rcases l9.1 h with rfl|h
   .exact succ_le_succ (a _ Ë)
   exact Ñ (a w (Ç _ h))
theorem YC{s}(a:T s<2^40):pn (uB (fS s).1):=Mk (λf b=>HF s f b) X (xY s a)
theorem JU(l:List _):∀r∈l.map S_,C r=1:=λr a=>by
 obtain ⟨s,_,rfl⟩:=mem_map.1 a;rfl
theorem A0{p q}[Decidable p][Decidable q](h:(θ p&&θ q)=A):p/\q:=F_
theorem A1{p q}[Decidable p][Decidable q](h:(θ p&&θ q)=η):¬ (p/\q):=F_
theorem Vt{H}{id}{o}(h:H.get id=N o):Sub [(id,o)] H:=λj x a=>by
 by_cases e:j=id
 .subst e;rw[get_cons_same]at a
  simp_all
 rw[get_cons_other _ _ e]at a;cases a
theorem Oq{id j}{a b}(h:(aF.get [(id,a)] j).isSome=A):(aF.get [(id,b)] j).isSome=A:=by
 by_cases e:j=id
 .subst e;rw[get_cons_same];rfl
 rw[get_cons_other _ _ e]at h;cases h
theorem tk(s:B_)(H:aF)(g:T s<2^40):RC 201 [sv s] (.tup [av (bS (vV s).1),iv (vV s).2]) H:=by
 refine Pu ?_;have c:=xY s g;have l:=jr (HF s);have d:=YC g;rw[vV];refine Bd func201 Z ntmps201<|U (kl 2 XC)<|V aH<|S<|U aA<|Y (gQ U_)<|V jB<|Cn ?_ ?_<;>intro i
 .have q:20000<T s:=I_ i
  rw[b6 q];refine U (oU GF)<|Uu (jH sizeOf135)<|V aH<|aC<|gH (H':=[]) (.inr Z) Z (DD cC sizeOf135) (aI Z) (P_ (r:=.tup [av (bS j8),iv 2])) ?_;exact Qq
 have q:¬ 20000<T s:=J_ i
 rw[a8 q];by_cases n:(fS s).2.1=0
 .have e:=λH h=>aCi s H g n h;have ⟨J3,w⟩:∃J3,J3=(fS s).1:=X_;rw[<-w]at c l d |-;simp only[<-w]at e;have k:∀H,H.get 905=N (fp J3)->aU φ 252 [.osl 905 (C J3) 0 (C J3)] H (λr H'=>r=av (bS (uB J3))/\H'=[(905,fp (wZ J3))]++H):=λH x =>
   aU.frame (aBt J3 c (λf y=>Nat.lt_of_le_of_lt (l f y) g)) (Vt x) (dO.ofL ⟨cV _ _,T_⟩) (by intro a v;rw[q9]at v;subst v;simp[aF.get]) (λid h=>.inl (Oq h))
  generalize uB J3=o at k d |-;refine aB<|U aA<|Y (kc call203 (e _ Z))<|Y aA<|Y dK<|Y dK<|Y dK<|Y aH<|Y aH<|V aH<|S<|U aA<|V cI<|Cn ?_ ?_<;>intro u
  .refine U aA<|Y (kc call252 (k _ Z))<|Y (kl 7 XC)<|Uu (jH sizeOf135)<|Zz<|U (xB cC sizeOf135)<|Y (kc call253 (YL o _ d))<|Y aA<|Y dK<|Y dK<|Y aH<|V aH<|S<|aT (t:=35) (n:=8) (A_:=θ ((fM o).2=0)&&θ ((fM o).1=s)) ?_ ?_
   .all_goals refine Y aA<|Y cI<|Dm ?_<;>(refine Sp 31 (λp=>?_) λp=>?_)<;>(first|exact s_|refine M<|M<|M ?_|refine O aA<|O aA<|O wV ?_)<;>refine V cE ?_<;>exact Gj (h:=by simp_all)
   refine Cn ?_ ?_<;>intro j
   .have m:=A0 j;rw[b6 ⟨n,Prod.ext m.2 m.1⟩];refine U (xB cC sizeOf135)<|Uu (jH sizeOf135)<|V aH<|aC<|gH (H':=[]) (.inr Z) Z (DD cC sizeOf135) (aI Z) (P_ (r:=.tup [av (bS o),iv 0])) ?_;exact Qq
   have m:=A1 j;rw[a8 (λh=>m ⟨congrArg Prod.snd h.2,congrArg Prod.fst h.2⟩)];refine aB<|U (oU GF)<|Uu (jH sizeOf135)<|V aH<|aC<|gH (H':=[]) (.inr Z) Z (DD cC sizeOf135) (aI Z) (P_ (r:=.tup [av (bS j8),iv 5])) ?_;exact Qq
  exact absurd Z (b_ u)
 refine aB<|U aA<|Y (kc call203 (aBA s _ g))<|Y aA<|Y dK<|Y dK<|Y dK<|Y aH<|Y aH<|V aH<|S<|U aA<|V cI<|Cn ?_ ?_<;>intro t
 .exact absurd (b9 t) n
 refine aB<|U (oU GF)<|Uu (jH sizeOf135)<|V aH<|aC ?_;rw[a8 (λh=>n h.1)];refine gH (H':=[]) (.inr Z) Z (DD cC sizeOf135) (aI Z) (P_ (r:=.tup [av (bS j8),iv 5])) ?_;exact Qq
theorem Xa(s:B_)(H:aF)(hs:T s<=20000):RC 143 [sv s] (av (bL (oG (ν (μ s))))) H:=by
 refine Pu ?_;have A_:=aS s;have ⟨W,p⟩:∃W,W=dX 32 (ν (μ s)):=X_;have ⟨c,E⟩:∃w,w=W.headD []:=X_;have ⟨B,z⟩:∃r,r=s.data.toList.drop (C c+1):=X_;have γ:C B<=T s:=F_
 have hg:oG (ν (μ s))=FH W c B:=by rw[oG,<-p,<-E,<-z]
 have q:∃b,∀H,RC 137 [sv s,sv Ul] (.tup [sv (a_ c),sv (a_ B),bv b]) H:=by
  have ⟨b,hb⟩:=aAP s;rw[<-p,<-E,<-z]at hb;exact⟨b,λH=>by rw[<-hb];exact aFX s H X⟩
 have ⟨b,q⟩:=q;have τ:C (cS s)=C W:=by rw[Cy,p]
 have P:C ((cS s).map S_)=C W:=F_
 have J:∀i,i<C W->((cS s).map S_)[i]?=N [.str (a_ (W.getD i []))]:=λi hi=>by
  rw[p];exact cA (f:=S_) (Cz s i X)
 have R:∀i,T (a_ (W.getD i []))<=T s:=λi=>by
  rw[cB,getD_eq_getElem?_getD];cases e:W[i]? with
  |none=>simp_all
  |some w =>
   have:=sB 32 (l:=ν (μ s)) (w:=w) G_;rw[A_]at this;exact this
 have σ:C W<=T s+1:=by
  rw[p,yP];have:=Ð (l:=ν (μ s)) (a:=32);omega
 have κ:C ((cS s).drop 3)<=20001:=G_
 have δ:dC ((cS s).drop 3)<=20000*C ((cS s).drop 3):=pV (λw hw=>by
  have I:=Ê hw;rw[cS,<-p]at I;obtain ⟨x,hx,rfl⟩:=mem_map.1 I;have:=sB 32 (l:=ν (μ s)) (w:=x) F_;show T (a_ x)<=_;rw[cB];omega)
 rw[hg,FH];refine Bd func143 Z ntmps143<|Sz (kl 2 XB)<|U aA<|Y (kc call200 (Db s _ X))<|V aH<|U aA<|Y (kc call137 (q _))<|Y aA<|Y dK<|Y dK<|Y dK<|Y aH<|Y aH<|V aH<|S<|aD<|U aA<|Y wV<|Da<|Cn ?_ ?_<;>intro i_
 ·have k:c=wPut:=tY.1 (b9 i_);rw[b6 k];refine U aA<|Y (kc call201 (tk (a_ B) _ (by rw[cB];omega)))<|Y aA<|Y dK<|Y dK<|Y (kl 7 XC)<|Uu (jH sizeOf135)<|V aH<|U (xB cC sizeOf135)<|Y (oU uS)<|Uu (jH bD)<|Zz<|aC ?_;refine cR (H':=[]) (.inr Z) Z (DD cW bD) (Fin.wk (r:=av (bL ⟨1,a6,a6,a6,0,0,a6,a6,[],(vV (a_ B)).1⟩)) H_ T_ T_) ?_;exact Qq
 have k:¬ c=wPut:=λe=>b_ i_ (tY.2 e);rw[a8 k];refine S<|aT (t:=30) (n:=9) (A_:=θ (a_ c=⟨#[109,111,118,101]⟩)&&θ ((C ((cS s).map S_):Int)=4)) ?_ ?_
 .all_goals refine Y aA<|Y wV<|Dm ?_<;>(refine Sp 33 (λh33=>?_) λh33=>?_)<;>(first|exact s_|refine M<|M<|M ?_|refine O aA<|O (fP aE)<|O cI ?_)<;>refine Y cE<|Da ?_<;>exact Gj (h:=by(simp_all;done))
 refine Cn ?_ ?_<;>intro H4
 .have F:a_ c=a_ KA/\_:=A0 H4;rw[tY,P]at F;rw[b6 ⟨F.1,X⟩];have G:=J 1 X;have m:=J 2 X;have i3:=J 3 X;have s2:=R 2;have s3:=R 3;refine S<|aN a7<|x_ aA<|x_ ((jA aY))<|x_ ((fK N_))<|x_ aA<|x_ ((jA aY))<|x_ ((fK N_))<|x_ (by exact bH Z Z call202 Z (kg (a_ (W.getD 2 [])) _ X))<|x_ aA<|x_ ((jA aY))<|x_ ((fK N_))<|x_ (by exact bH Z Z call202 Z (kg (a_ (W.getD 3 [])) _ X))<|x_ ((oU MP))<|x_ ((oU uS))<|Cp [2] (λ_ h=>sa bD h)<|bF<|Kr<|aC ?_;refine cR (H':=[]) (.inr Z) Z (DD cW bD) (P_ (r:=av (bL ⟨2,a_ (W.getD 1 []),a6,a6,W0 (W.getD 2 []),W0 (W.getD 3 []),a6,a6,[],j8⟩))) ?_;exact Qq
 have F:¬ (a_ c=a_ KA/\_):=A1 H4;rw[tY,P]at F;rw[a8 (λh=>F ⟨h.1,X⟩)];refine S<|aT (t:=51) (n:=9) (A_:=θ (a_ c=⟨#[116,97,103]⟩)&&θ ((3:Int)<(C ((cS s).map S_):Int))) ?_ ?_
 .all_goals refine Y aA<|Y wV<|Dm ?_<;>(refine Sp 54 (λh54=>?_) λh54=>?_)<;>(first|exact s_|refine M<|M<|M ?_|refine O aA<|O (fP aE)<|O jB ?_)<;>refine Y cE<|Da ?_<;>exact Gj (h:=by(simp_all;done))
 refine Cn ?_ ?_<;>intro J3
 .have K:a_ c=a_ BV/\_:=A0 J3;rw[tY,P]at K;rw[b6 ⟨K.1,X⟩];have G:=J 1 X;have m:=J 2 X;have o_:bs ((cS s).drop 3)=W.drop 3:=by
   rw[bs,cS,<-p,Ò,Õ];congr 1;exact(map_congr_left λx _=>cG x).trans (map_id _)
  have hj:∀H,RC 204 [.pv (aK ((cS s).drop 3)),sv ⟨#[32]⟩] (sv (a_ (bW [32] (W.drop 3)))) H:=λH=>by
   have:=yA ((cS s).drop 3) ⟨#[32]⟩ H E_ (by show 1*_+_+_<_;omega);rw[o_]at this;exact this
  have Q:T (a_ (bW [32] (W.drop 3)))<2^40:=by
   have:=gE ((cS s).drop 3);rw[o_]at this;rw[cB];omega
  have ⟨g,hJ⟩:∃g,g=a_ (bW [32] (W.drop 3)):=X_;rw[<-hJ]at Q |-;simp only[<-hJ]at hj;have β:C ((fS g).1.map K_)=C (fS g).1:=g_ _;refine U aA<|Y (by exact eZ (l:=3) (h:=C ((cS s).map S_)) (rows':=((cS s).drop 3).map S_) Z aY Z (JU _) Z Z X (h_ _) (by rw[Â];exact map_drop.symm))<|Y (kc sK (hj _))<|Y (kc call203 (aBA g _ Q))<|Y aA<|Y dK<|Y dK<|Y dK<|Y aH<|Y aH<|V aH<|U aA<|Y (fP cU)<|V cI ?_;refine Cn ?_ ?_<;>intro t
  .have d:C (fS g).1=1:=I_ t
   have ⟨f,o⟩:=length_eq_one_iff.1 d;rw[o];have ρ:([f].map K_)[0]?=N [.int .i64 f.kind,.str f.text,.int .i64 f.pos]:=rfl;refine S<|aN a7<|x_ aA<|x_ ((jA aY))<|x_ ((fK N_))<|x_ aA<|x_ ((jA aY))<|x_ ((fK N_))<|x_ aA<|x_ ((jA iK))<|x_ ((F2 iO))<|x_ ((fK N_))<|x_ ((oU uS))<|Cp [2] (λ_ h=>sa bD h)<|bF<|Kr<|aC<|cR (H':=[]) (.inr Z) Z (DD cW bD) (P_ (r:=av (bL ⟨3,a_ (W.getD 1 []),a6,a6,0,0,a_ (W.getD 2 []),f.text,[],j8⟩))) ?_;exact Qq
  have d:C (fS g).1≠1:=J_ t
  split
  .next f o=>rw[o]at d;exact absurd Z d
  refine aB<|U (oU uS)<|Uu (jH bD)<|Zz<|aC<|cR (H':=[]) (.inr Z) Z (DD cW bD) (P_ (r:=av (bL PG))) ?_;exact Qq
 have K:¬ (a_ c=a_ BV/\_):=A1 J3;rw[tY,P]at K;rw[a8 (λh=>K ⟨h.1,X⟩)];refine S<|aT (t:=81) (n:=9) (A_:=θ (a_ c=⟨#[114,101,102,115]⟩)&&θ ((1:Int)<(C ((cS s).map S_):Int))) ?_ ?_
 .all_goals refine Y aA<|Y wV<|Dm ?_<;>(refine Sp 84 (λv_=>?_) λv_=>?_)<;>(first|exact s_|refine M<|M<|M ?_|refine O aA<|O (fP aE)<|O jB ?_)<;>refine Y cE<|Da ?_<;>exact Gj (h:=by(simp_all;done))
 refine Cn ?_ ?_<;>intro D
 .have d:a_ c=a_ J9/\_:=A0 D;rw[tY,P]at d;rw[b6 ⟨d.1,X⟩];have G:=J 1 X;refine S<|aN a7<|x_ aA<|x_ ((jA aY))<|x_ ((fK N_))<|x_ aA<|x_ (by exact eZ (l:=2) (h:=C ((cS s).map S_)) (rows':=((W.drop 2).map a_).map S_) Z aY Z (JU _) Z Z X (h_ _) (by rw[Â,cS,<-p,Ò,Ò];rfl))<|x_ ((oU uS))<|Cp [2] (λ_ h=>sa bD h)<|bF<|Kr<|aC ?_;refine cR (H':=[]) (.inr Z) Z (DD cW bD) (P_ (r:=av (bL ⟨4,a_ (W.getD 1 []),a6,a6,0,0,a6,a6,(W.drop 2).map a_,j8⟩))) ?_;exact Qq
 have d:¬ (a_ c=a_ J9/\_):=A1 D;rw[tY,P]at d;rw[a8 (λh=>d ⟨h.1,X⟩)];refine S<|aT (t:=95) (n:=9) (A_:=θ (a_ c=⟨#[100,114,111,112]⟩)&&θ ((C ((cS s).map S_):Int)=2)) ?_ ?_
 .all_goals refine Y aA<|Y wV<|Dm ?_<;>(refine Sp 98 (λy_=>?_) λy_=>?_)<;>(first|exact s_|refine M<|M<|M ?_|refine O aA<|O (fP aE)<|O cI ?_)<;>refine Y cE<|Da ?_<;>exact Gj (h:=by(simp_all;done))
 refine Cn ?_ ?_<;>intro L
 .have v:a_ c=a_ KC/\_:=A0 L;rw[tY,P]at v;rw[b6 ⟨v.1,X⟩];have G:=J 1 X;refine U aA<|Y (jA aY)<|Y (fK N_)<|Y (oU uS)<|Uu (jH bD)<|Zz<|aC<|cR (H':=[]) (.inr Z) Z (DD cW bD) (P_ (r:=av (bL ⟨5,a_ (W.getD 1 []),a6,a6,0,0,a6,a6,[],j8⟩))) ?_;exact Qq
 have v:¬ (a_ c=a_ KC/\_):=A1 L;rw[tY,P]at v;rw[a8 (λh=>v ⟨h.1,X⟩)];refine S<|aT (t:=107) (n:=9) (A_:=θ (a_ c=⟨#[115,112,108,105,116]⟩)&&θ ((C ((cS s).map S_):Int)=4)) ?_ ?_
 .all_goals refine Y aA<|Y wV<|Dm ?_<;>(refine Sp 110 (λP=>?_) λP=>?_)<;>(first|exact s_|refine M<|M<|M ?_|refine O aA<|O (fP aE)<|O cI ?_)<;>refine Y cE<|Da ?_<;>exact Gj (h:=by(simp_all;done))
 refine Cn ?_ ?_<;>intro y
 .have j:a_ c=a_ C0/\_:=A0 y;rw[tY,P]at j;rw[b6 ⟨j.1,X⟩];have G:=J 1 X;have m:=J 2 X;have i3:=J 3 X;refine S<|aN a7<|x_ aA<|x_ ((jA aY))<|x_ ((fK N_))<|x_ aA<|x_ ((jA aY))<|x_ ((fK N_))<|x_ aA<|x_ ((jA aY))<|x_ ((fK N_))<|x_ ((oU uS))<|Cp [2] (λ_ h=>sa bD h)<|bF<|Kr<|aC<|cR (H':=[]) (.inr Z) Z (DD cW bD) (P_ (r:=av (bL ⟨6,a_ (W.getD 1 []),a_ (W.getD 3 []),a_ (W.getD 2 []),0,0,a6,a6,[],j8⟩))) ?_;exact Qq
 have j:¬ (a_ c=a_ C0/\_):=A1 y;rw[tY,P]at j;rw[a8 (λh=>j ⟨h.1,X⟩)];refine S<|aT (t:=125) (n:=9) (A_:=θ (a_ c=⟨#[106,111,105,110]⟩)&&θ ((C ((cS s).map S_):Int)=3)) ?_ ?_
 .all_goals refine Y aA<|Y wV<|Dm ?_<;>(refine Sp 128 (λd_=>?_) λd_=>?_)<;>(first|exact s_|refine M<|M<|M ?_|refine O aA<|O (fP aE)<|O cI ?_)<;>refine Y cE<|Da ?_<;>exact Gj (h:=by(simp_all;done))
 refine Cn ?_ ?_<;>intro f_
 .have u:a_ c=a_ KB/\_:=A0 f_;rw[tY,P]at u;rw[b6 ⟨u.1,X⟩];have G:=J 1 X;have m:=J 2 X;refine S<|aN a7<|x_ aA<|x_ ((jA aY))<|x_ ((fK N_))<|x_ aA<|x_ ((jA aY))<|x_ ((fK N_))<|x_ ((oU uS))<|Cp [2] (λ_ h=>sa bD h)<|bF<|Kr<|aC<|cR (H':=[]) (.inr Z) Z (DD cW bD) (P_ (r:=av (bL ⟨7,a_ (W.getD 1 []),a_ (W.getD 2 []),a6,0,0,a6,a6,[],j8⟩))) ?_;exact Qq
 have u:¬ (a_ c=a_ KB/\_):=A1 f_;rw[tY,P]at u;rw[a8 (λh=>u ⟨h.1,X⟩)];refine aB<|U (oU uS)<|Uu (jH bD)<|Zz<|aC<|cR (H':=[]) (.inr Z) Z (DD cW bD) (P_ (r:=av (bL PG))) ?_;exact Qq
def IM(l:List b8):List (List AV):=l.map λe=>(bL e).map AV.pv
theorem ZG(l):C (IM l)=C l:=g_ _
theorem ZH(l)(e):IM l++[(bL e).map AV.pv]=IM (l++[e]):=by rw[IM,IM,Ã];rfl
theorem yM(H)(l):∀r∈IM l,∀a∈r,Clo H a:=by intro r c a b;obtain ⟨d,_,rfl⟩:=mem_map.1 c;obtain ⟨p,_,rfl⟩:=mem_map.1 b;simp
instance(H)(l):W_ (H) (IM l):=⟨yM H l⟩
theorem dk(H)(s):∀r∈(lB s).rows,∀a∈r,Clo H a:=by intro r c a b;simp[lB,bx,q9]at c;subst c;rw[q9]at b;subst b;simp
instance(H)(s):W_ (H) ((lB s).rows):=⟨dk H s⟩
def pcE(t:B_):dG:=[(0,sv t),(4,.ref 4 0 0 0)]
def lnE(t:B_)(k:Nat):b8:=oG (E8 (AQ (jU t k))).data.toList
def P3(t:B_)(k:Nat):List b8:=(List.range k).map (lnE t)
theorem Fm(t)(k):P3 t (k+1)=P3 t k++[lnE t k]:=by rw[P3,range_succ,Ã];rfl
theorem UD(t)(k):C (P3 t k)=k:=by rw[P3,g_,length_range]
theorem UE(t):P3 t (C (jJ t))=(sI (ν (μ t))).map λs=>oG (Lib.trimSuffix s [10]):=by
 refine ext_getElem? λk=>?_;rw[P3,r7,r7];by_cases h:k<C (jJ t)
 .have b:=(Zi h).1;rw[jJ,r7]at b;cases e:(sI _)[k]? with
  |none=>rw[e]at b;cases b
  |some w =>
   rw[e]at b;have b:=Option.some.inj b;rw[getElem?_range h,Option.map_some,lnE,<-b,Kd];congr 3
 have c:(sI (ν (μ t)))[k]?=ζ:=by
  rw[jJ]at h
  simp_all
 rw[c,getElem?_eq_none F_];rfl
def pcK(t s:B_)(k:Nat):aF:=[(933,lB s),(905,⟨k,15,137,IM (P3 t k)⟩),(4,bx 1 46 [.osl 905 k 0 k])]
theorem aAC{a b c}{K:aF}(j):aF.get ((904,b)::(933,a)::K) j=aF.get ((933,a)::(904,b)::(933,c)::K) j:=by
 by_cases e:j=904
 .subst e;rfl
 by_cases d:j=933
 .subst d;rfl
 rw[get_cons_other _ _ e,get_cons_other _ _ d,get_cons_other _ _ d,get_cons_other _ _ e,get_cons_other _ _ d]
theorem qg(s):T (E8 s)<=T s:=by
 rw[E8]
 split
 all_goals simp_all
theorem UG(s):T (AQ s)<=T s:=by
 rw[AQ]
 split
 .omega
 rw[<-aS,exL,n_,q6,aS];omega
theorem FW{t}{k}(h:k<=C (jJ t)):T (E8 (AQ (jU t k)))<=T t:=Nat.le_trans (qg _) (Nat.le_trans (UG _) (B1 t k h).2)
theorem YK{w}{n}(h:C w<=n)(B:n<2^62):T (a_ w)<2^62:=by rw[cB];omega
theorem uy{s}(a:T s<2^40):pn (vV s).1:=by
 rw[vV]
 split
 .exact⟨E_,⟨E_,λt h=>by cases h⟩,E_,λs a=>by cases a⟩
 split
 .exact YC a
 exact⟨E_,⟨E_,λt h=>by cases h⟩,E_,λs a=>by cases a⟩
theorem CX:pn j8:=⟨E_,⟨E_,λt h=>by cases h⟩,E_,λs a=>by cases a⟩
theorem DN:C ([]:List B_)<2^62/\∀s∈([]:List B_),T s<2^62:=⟨H_,λs a=>by cases a⟩
theorem fA:T a6<2^62:=E_
theorem Y7{s:List UInt8}(f:C s<=20000):WY (oG s):=by
 have a:∀i,T (a_ ((dX 32 s).getD i []))<2^62:=λi=>by
  refine YK (n:=20000) ?_ E_;rw[getD_eq_getElem?_getD];cases e:(dX 32 s)[i]? with
  |none=>simp_all
  |some w=>exact Nat.le_trans (sB 32 (m7 e)) f
 have c:∀(d x y:Int),WY ⟨d,a6,a6,a6,x,y,a6,a6,[],j8⟩:=λd x y=>⟨⟨fA,fA,fA,fA⟩,DN,CX⟩;rw[oG,FH]
 split
 .exact⟨⟨fA,fA,fA,fA⟩,DN,uy (by rw[cB,q6];omega)⟩
 split
 .exact⟨⟨a 1,fA,fA,fA⟩,DN,CX⟩
 split
 .split
  .exact⟨⟨a 1,fA,fA,a 2⟩,DN,CX⟩
  exact c _ _ _
 split
 .refine⟨⟨a 1,fA,fA,fA⟩,⟨?_,λx g=>?_⟩,CX⟩
  .have:=Ð (l:=s) (a:=32);rw[g_,q6,yP];omega
  obtain ⟨w,b,rfl⟩:=mem_map.1 g;exact YK (n:=20000) (Nat.le_trans (sB 32 (Ê b)) f) E_
 split
 .exact⟨⟨a 1,fA,fA,fA⟩,DN,CX⟩
 split
 .exact⟨⟨a 1,a 3,a 2,fA⟩,DN,CX⟩
 split
 .exact⟨⟨a 1,a 2,fA,fA⟩,DN,CX⟩
 exact c _ _ _
theorem N2:∀ {t} {n},T t<=n->C (jJ t)<=n
 |t,0,h=>by rw[CC (by omega)];simp_all
 | t,n+1,h=>by
  by_cases a:0<T t
  .rw[(DQ a).1];refine Nat.succ_le_succ (N2 ?_);rw[T8]
   split
   .exact k_ _
   next d =>
   obtain ⟨w,r,B,D,c,E,b,F⟩:=Qc d;rw[c,l_,<-szY,b];omega
  rw[CC a];simp_all
theorem Nq(t:B_)(H:aF)(e_:T t<2^40):RC 101 [sv t] (.tup [.pv (kU (iM t).1),iv (iM t).2]) H:=by
 refine Pu ?_;rw[iM,<-UE];refine Bd func101 Z ntmps101<|U aH<|V aH<|S<|U aA<|Y (gQ U_)<|V jB<|Cn ?_ ?_<;>intro g
 .have v:20000<T t:=I_ g
  rw[b6 v];exact U aH<|V aH<|aC<|Ru<|Qq
 have v:¬ 20000<T t:=J_ g
 rw[a8 v];refine aB<|Sz (kl 4 aDk)<|S<|U aA<|V (kc call142 (Zh t _ Z))<|aD ?_;have ⟨n,K⟩:∃n,n=C (jJ t):=X_;have W:n<=20000:=by rw[K];exact N2 X
 refine gK.ent (E':=[(0,sv t),(4,.ref 4 0 0 0),(12,.clo 198 [.ref 933 0 0 0])]) (H':=[(905,⟨0,15,137,[]⟩),(933,lB t),(4,bx 1 46 [.osl 905 0 0 0])]) ?_ ?_
 .exact (Q_ 905 15 137)
 refine gK.ent (E':=[(0,sv t),(4,.ref 4 0 0 0),(12,.clo 198 [.ref 933 0 0 0])]) (H':=pcK t t 0) L_<|CS (id:=904) (p:=13) (pcE t) Z call198 Z Z (by simp[pcE];exact⟨Z,Z⟩) ?_;intro x D i B o q y;have b:∀k,k<n->dQ φ (.yld 904 0) [sv (AQ (jU t k))] ((904,LR x (pcE t))::pcK t (jU t (k+1)) k) (λr H'=>r=bv A/\H'=(904,LR x (pcE t))::pcK t (jU t (k+1)) (k+1)):=by
  intro k E;have w:=Fm t k;have G:=UD t k;have R:=FW (t:=t) (k:=k) X;have Q:T (AQ (jU t k))<=T t:=Nat.le_trans (UG _) (B1 t k X).2;refine .inl ⟨904,0,Z,?_⟩;refine M7 [(0,sv t),(4,.ref 4 0 0 0),(5,sv (AQ (jU t k)))] (pcK t (jU t (k+1)) k) D i B o q y Z Z Z ?_ ?_
  .refine Rg<|Da ?_;exact(cJ.wk (Eb<|Ea<|Eb<|T_) (Hc (oN (by simp[pcE];rfl))<|Hc (dk _ _)<|Hc (yM _ _)<|Ha<|T_) ⟨Z,Z,Z,Z,T_⟩)
  refine aD<|aN a7<|Cs (λ_ h=>lh pO h)<|Cs (λ_ _=>aA)<|Cs (λm c=>by exact bH Z Z call144 Z (qf (AQ (jU t k)) _ X))<|Cs (λm c=>by exact bH Z Z call143 Z (Xa (E8 (AQ (jU t k))) _ X))<|Cs (λm c=>by exact aM [bL (lnE t k)] Z ia Z Z Z Z Z R_) ?_;refine iQ (r:=⟨_,ζ,[_]⟩) (DStep.plain Z (λm c=>by exact bU (ps:=[bL (lnE t k)]) Z ia aBG Z ((c _ Z).trans Z) Z Z Z ((ZG _).trans G) Z R_ (m:=1) Z X Z (ZH (P3 t k) (lnE t k)))) Z ?_;refine iQ (r:=⟨_,ζ,[_]⟩) (DStep.plain Z (λm c=>by exact(mH Z sizeOf46 Z Z Z Z ((c _ Z).trans Z) Z Z Z))) Z ?_;refine bF<|Kr ?_;exact⟨[(933,lB (jU t (k+1))),(905,⟨k+1,15,137,IM (P3 t k++[lnE t k])⟩),(4,bx 1 46 [.osl 905 (k+1) 0 (k+1)])],(cJ.wk T_ (Hc (oN (by simp[pcE];rfl))<|Hc (dk _ _)<|Hc (yM _ _)<|Ha<|T_) ⟨Z,Z,Z,Z,T_⟩),Z,by rw[<-w];rfl⟩
 refine(Pn t (.yld 904 0) (λk=>(904,LR x (pcE t))::pcK t (jU t k) k) e_ (λk=>rfl) (λk E=>?_)).mono ?_
 .exact dQ.congrG (b k X) (λj=>aAC j) (λj=>rfl)
 rintro r H' ⟨rfl,rfl⟩;refine⟨x,_,Z,F_,Z,λz=>?_⟩;rw[i];have ⟨L,l⟩:∃L,L=P3 t n:=X_;have P:C L=n:=by rw[l];exact UD t n
 rw[<-K,<-l];have u:∀e∈L,WY e:=λe J=>by
  rw[l,P3]at J;obtain ⟨k,E,rfl⟩:=mem_map.1 J;have:=FW (t:=t) (k:=k) (by have:=mem_range.1 E;omega);exact Y7 i8
 refine S<|S ?_;refine gK.ent (cJ.fzG (id:=905) (E':=[(0,sv t),(4,.ref 4 0 0 0)]) (H':=[(4,bx 1 46 [.pv (kU L)])]) (L.map bL) Z (by rw[l];exact KP bL _) ?_ Z ?_ ?_) ?_
 .intro p I;simp only[l9,q8,or_false]at I;rcases I with rfl|rfl<;>exact⟨_,Z,.same (by simp;try rfl)⟩
 .exact⟨⟨_,Z,Z,Z,Z,kY Z (bG (.osl (by rw[<-P];exact lG bL L)) jV)⟩,T_⟩
 .exact T_
 refine Rd (bT pO)<|Y (kc call145 (xo L _ X u))<|Y aA<|Y dK<|Y dK<|Y aH<|V aH<|S<|aT (t:=31) (n:=8) (A_:=!θ ((eH L).2=0)||!θ ((eH L).1=t)) ?_ ?_
 .all_goals refine Y aA<|Y xN<|Dm ?_<;>(refine Sp 27 (λa=>?_) λa=>?_)<;>(first|exact s_|refine M<|M<|M ?_|refine O aA<|O aA<|O FD ?_)<;>refine V cE ?_<;>exact Gj (h:=by(simp_all;done))
 refine Cn ?_ ?_<;>intro d
 .have s:eH L≠(t,0):=λe=>by have h:=d;rw[e]at h;simp at h
  rw[a8 s];exact U aH<|V aH<|aC<|Ru<|Qq
 have F:eH L=(t,0):=by have h:=d;simp only[q_,Bool.not_eq_false',l6]at h;exact Prod.ext h.2 h.1
 rw[b6 F];exact aB<|U (bT pO)<|Y aH<|V aH<|aC<|Ru<|Qq
end Go.Proofs.C
namespace Go.Proofs.C
open Go.Proofs.Tryz
open Go.Abs Go.Lib
variable{α:Type}
theorem TM(t):∀e∈(iM t).1,WY e:=by
 intro e a;rw[iM]at a
 split at a
 .cases a
 next B =>
 split at a
 .rw[<-UE]at a;obtain ⟨k,b,rfl⟩:=mem_map.1 a;have:=FW (t:=t) (k:=k) (by have:=mem_range.1 b;omega);exact Y7 i8
 cases a
theorem O3(t):C (iM t).1<=20000:=by
 rw[iM]
 split
 .simp_all
 next B =>
 split
 .rw[<-UE,UD];exact N2 X
 simp_all
def NK{α:Type}(f:List UInt8->Option (α×List UInt8))(d:α)(l:List UInt8):α×List UInt8:=(f l).getD (d,l)
def p0(t:List UInt8):=NK pN a6 t
def p1(t:List UInt8):=NK yK 0 (p0 t).2
def p2(t:List UInt8):=NK yK 0 (p1 t).2
def p3(t:List UInt8):=NK yK 0 (p2 t).2
def p4(t:List UInt8):=NK yK 0 (p3 t).2
def p5(t:List UInt8):=NK pN a6 (p4 t).2
def p6(t:List UInt8):=NK (DS pN) [] (p5 t).2
def p7(t:List UInt8):=NK pN a6 (p6 t).2
def p8(t:List UInt8):=NK pN a6 (p7 t).2
def p9(t:List UInt8):=NK pN a6 (p8 t).2
def pk(t:List UInt8):=NK yK 0 (p9 t).2
def pj(t:List UInt8):=NK pN a6 (pk t).2
def jv(t:List UInt8):=NK Dk zS (pj t).2
def ph(t:List UInt8):=NK pN a6 (jv t).2
def pg(t:List UInt8):=NK pN a6 (ph t).2
def pf(t:List UInt8):=NK (DS pN) [] (pg t).2
def pd(t:List UInt8):=NK (DS TH) [] (pf t).2
def Un(t:List UInt8):=NK Dk zS (pd t).2
def CA:B_:=⟨#[49]⟩
def KR(t:List UInt8):j_:=⟨(p1 t).1,(p2 t).1,(p3 t).1,(p4 t).1,(p5 t).1,(p6 t).1,(iM (p7 t).1).1,(p8 t).1,θ ((p9 t).1=CA),(pk t).1,(pj t).1,(jv t).1,⟨(ph t).1,(pg t).1,(pf t).1,(pd t).1,(Un t).1⟩⟩
def cr(t:List UInt8):List Bool:=[(pN t).isSome,(yK (p0 t).2).isSome,(yK (p1 t).2).isSome,(yK (p2 t).2).isSome,(yK (p3 t).2).isSome,(pN (p4 t).2).isSome,((DS pN) (p5 t).2).isSome,(pN (p6 t).2).isSome,(pN (p7 t).2).isSome,(pN (p8 t).2).isSome,(yK (p9 t).2).isSome,(pN (pk t).2).isSome,(Dk (pj t).2).isSome,(pN (jv t).2).isSome,(pN (ph t).2).isSome,((DS pN) (pg t).2).isSome,((DS TH) (pf t).2).isSome,(Dk (pd t).2).isSome]
def xV(t:List UInt8):Bool:=(cr t).all id
def dU(t:List UInt8):j_×Int:=if 20000<C t then(zR,2)else if xV t=A/\mX (KR t)=(a_ t,0)then(KR t,0)else(zR,5)
theorem lR{f}{d}{l}{e:α->AV}:((f l).map λp=>(e p.1,p.2)).getD (e d,l)=(e (NK f d l).1,(NK f d l).2):=by rw[NK];cases f l<;>rfl
theorem oZ{f}{d:α}{l}(h:∀p q,f l=N (p,q)->C q<C l):C (NK f d l).2<=C l:=by
 rw[NK];cases e:f l with
 |none=>simp_all
 |some p=>grind
theorem aj{l q}{s}(h:Dk l=N (s,q)):C q<C l/\qY s.idx/\(C s.sig<=C l/\∀x∈s.sig,T x<=C l)/\(C s.path<=C l/\∀x∈s.path,T x<=C l):=by
 rw[Dk]at h;cases e:yK l with
 |none=>simp_all
 | some p =>
  have ⟨i,r⟩:=p;have g:=kV e;rw[e]at h;simp at h;cases d:DS _ r with
  |none=>rw[d]at h;cases h
  | some p =>
   have ⟨a,r2⟩:=p;have j:=AR d;rw[d]at h;simp at h;cases c:DS _ _ with
   |none=>rw[c]at h;cases h
   |some p =>
    have f:=AR c;rw[c]at h;cases h;exact⟨X,g.2,⟨G_,λx b=>by have:=j.2 x b;omega⟩,G_,λx b=>by have:=f.2 x b;omega⟩
theorem xK{f}{d}{l}(Q:α->Prop)(B:Q d)(h:∀p q,f l=N (p,q)->Q p):Q (NK f d l).1:=by
 rw[NK];cases e:f l with
 |none=>exact B
 |some p=>grind
theorem Oe(t):C (p0 t).2<=C t:=oZ (λp q h=>by have:=lU h;omega)
theorem Od(t):C (p1 t).2<=C t:=Nat.le_trans (oZ (λp q h=>(kV h).1)) (Oe t)
theorem Oc(t):C (p2 t).2<=C t:=Nat.le_trans (oZ (λp q h=>(kV h).1)) (Od t)
theorem Ny(t):C (p3 t).2<=C t:=Nat.le_trans (oZ (λp q h=>(kV h).1)) (Oc t)
theorem si(t):C (p4 t).2<=C t:=Nat.le_trans (oZ (λp q h=>(kV h).1)) (Ny t)
theorem sg(t):C (p5 t).2<=C t:=Nat.le_trans (oZ (λp q h=>by have:=lU h;omega)) (si t)
theorem sf(t):C (p6 t).2<=C t:=Nat.le_trans (oZ (λp q h=>by have:=(AR h).1;omega)) (sg t)
theorem se(t):C (p7 t).2<=C t:=Nat.le_trans (oZ (λp q h=>by have:=lU h;omega)) (sf t)
theorem Nx(t):C (p8 t).2<=C t:=Nat.le_trans (oZ (λp q h=>by have:=lU h;omega)) (se t)
theorem Nw(t):C (p9 t).2<=C t:=Nat.le_trans (oZ (λp q h=>by have:=lU h;omega)) (Nx t)
theorem cf(t):C (pk t).2<=C t:=Nat.le_trans (oZ (λp q h=>(kV h).1)) (Nw t)
theorem cd(t):C (pj t).2<=C t:=Nat.le_trans (oZ (λp q h=>by have:=lU h;omega)) (cf t)
theorem cc(t):C (jv t).2<=C t:=Nat.le_trans (oZ (λp q h=>(aj h).1)) (cd t)
theorem cb(t):C (ph t).2<=C t:=Nat.le_trans (oZ (λp q h=>by have:=lU h;omega)) (cc t)
theorem ca(t):C (pg t).2<=C t:=Nat.le_trans (oZ (λp q h=>by have:=lU h;omega)) (cb t)
theorem bz(t):C (pf t).2<=C t:=Nat.le_trans (oZ (λp q h=>by have:=(AR h).1;omega)) (ca t)
theorem bw(t):C (pd t).2<=C t:=Nat.le_trans (oZ (λp q h=>by have:=(zw h).1;omega)) (bz t)
theorem Xv(t):C (Un t).2<=C t:=Nat.le_trans (oZ (λp q h=>(aj h).1)) (bw t)
theorem Lc{l q}{s}{n}(h:Dk l=N (s,q))(F:C l<=n):qY s.idx/\(C s.sig<=n/\∀x∈s.sig,T x<=n)/\(C s.path<=n/\∀x∈s.path,T x<=n):=by
 have ⟨_,B,D,E⟩:=aj h
 grind
theorem aDt(t:List UInt8):qY zS.idx/\(C zS.sig<=C t/\∀x∈zS.sig,T x<=C t)/\(C zS.path<=C t/\∀x∈zS.path,T x<=C t):=by simp[zS,qY]
theorem aEk(t):(qY) (p1 t).1:=xK _ (⟨H_,H_⟩) (λp q h=>(kV h).2)
theorem aEi(t):(qY) (p2 t).1:=xK _ (⟨H_,H_⟩) (λp q h=>(kV h).2)
theorem aEg(t):(qY) (p3 t).1:=xK _ (⟨H_,H_⟩) (λp q h=>(kV h).2)
theorem aEe(t):(qY) (p4 t).1:=xK _ (⟨H_,H_⟩) (λp q h=>(kV h).2)
theorem aEc(t):(λs=>T s<=C t) (p5 t).1:=by exact xK (f:=pN) (λs=>T s<=C t) ((k_ _)) (λp q h=>by have:=lU h;have:=si t;omega)
theorem aEa(t):(λl=>C l<=C t/\∀x∈l,T x<=C t) (p6 t).1:=by exact xK (f:=(DS pN)) (λl=>C l<=C t/\∀x∈l,T x<=C t) (⟨k_ _,H_⟩) (λp q h=>by have a:=AR h;have B:=sg t;exact⟨X,λx b=>by have:=a.2 x b;omega⟩)
theorem aE8(t):(λs=>T s<=C t) (p7 t).1:=by exact xK (f:=pN) (λs=>T s<=C t) ((k_ _)) (λp q h=>by have:=lU h;have:=sf t;omega)
theorem aE6(t):(λs=>T s<=C t) (p8 t).1:=by exact xK (f:=pN) (λs=>T s<=C t) ((k_ _)) (λp q h=>by have:=lU h;have:=se t;omega)
theorem aCW(t):(qY) (pk t).1:=xK _ (⟨H_,H_⟩) (λp q h=>(kV h).2)
theorem aCU(t):(λs=>T s<=C t) (pj t).1:=by exact xK (f:=pN) (λs=>T s<=C t) ((k_ _)) (λp q h=>by have:=lU h;have:=cf t;omega)
theorem aCS(t):(λs=>qY s.idx/\(C s.sig<=C t/\∀x∈s.sig,T x<=C t)/\(C s.path<=C t/\∀x∈s.path,T x<=C t)) (jv t).1:=by unfold jv;exact xK (λs:p_=>qY _/\(C s.sig<=C t/\∀x∈s.sig,T x<=C t)/\(C s.path<=C t/\∀x∈s.path,T x<=C t)) (aDt t) (λp q h=>Lc h (cd t))
theorem aCQ(t):(λs=>T s<=C t) (ph t).1:=by exact xK (f:=pN) (λs=>T s<=C t) ((k_ _)) (λp q h=>by have:=lU h;have:=cc t;omega)
theorem aCO(t):(λs=>T s<=C t) (pg t).1:=by exact xK (f:=pN) (λs=>T s<=C t) ((k_ _)) (λp q h=>by have:=lU h;have:=cb t;omega)
theorem aCM(t):(λl=>C l<=C t/\∀x∈l,T x<=C t) (pf t).1:=by exact xK (f:=(DS pN)) (λl=>C l<=C t/\∀x∈l,T x<=C t) (⟨k_ _,H_⟩) (λp q h=>by have a:=AR h;have B:=ca t;exact⟨X,λx b=>by have:=a.2 x b;omega⟩)
theorem aCK(t):(λl=>C l<=C t/\∀q∈l,qY q.1/\qY q.2) (pd t).1:=by exact xK (f:=(DS TH)) (λl=>C l<=C t/\∀q∈l,qY q.1/\qY q.2) (⟨k_ _,H_⟩) (λp q h=>by have a:=zw h;have B:=bz t;exact⟨X,a.2⟩)
theorem aCI(t):(λs=>qY s.idx/\(C s.sig<=C t/\∀x∈s.sig,T x<=C t)/\(C s.path<=C t/\∀x∈s.path,T x<=C t)) (Un t).1:=by unfold Un;exact xK (λs:p_=>qY _/\(C s.sig<=C t/\∀x∈s.sig,T x<=C t)/\(C s.path<=C t/\∀x∈s.path,T x<=C t)) (aDt t) (λp q h=>Lc h (bw t))
theorem Mg{i_:Nat}(hN:i_<=20000){k a n c t:Int}{u s v nm w:B_}{pa m:List B_}{i:List b8}{y:Bool}{sl ps:p_}{f}(B:qY k)(I:qY a)(D:qY n)(H:qY c)(o:qY t)(h5:T u<=i_)(h8:T s<=i_)(P:T v<=i_)(Q:T nm<=i_)(R:T w<=i_)
  (r:C pa<=i_/\∀x∈pa,T x<=i_) (p:C m<=i_/\∀x∈m,T x<=i_) (W:C f<=i_/\∀q∈f,qY q.1/\qY q.2) (he:C i<=20000) (j:∀e∈i,WY e)
  (d:qY sl.idx/\(C sl.sig<=i_/\∀x∈sl.sig,T x<=i_)/\(C sl.path<=i_/\∀x∈sl.path,T x<=i_)) (g:qY ps.idx/\(C ps.sig<=i_/\∀x∈ps.sig,T x<=i_)/\(C ps.path<=i_/\∀x∈ps.path,T x<=i_)) :
  mY ⟨k,a,n,c,u,pa,i,s,y,t,v,sl,⟨nm,w,m,f,ps⟩⟩/\C pa<549755813888:=by
 have b:∀ {l:List B_},(C l<=i_/\∀x∈l,T x<=i_)->th l:=λh=>⟨X,λx G=>by have:=h.2 x G;omega⟩;have ⟨z,L,E⟩:=d;have ⟨K,J,F⟩:=g;exact⟨⟨⟨B,I,D,H,o⟩,⟨G_,G_,G_⟩,b r,⟨G_,j⟩,⟨z,b L,b E⟩,G_,G_,b p,G_,K,b J,b F⟩,by have:=r.1;omega⟩
theorem iw{t}(a:C t<=20000):mY (KR t)/\C (KR t).parents<549755813888 :=Mg a (aEk t) (aEi t) (aEg t) (aEe t) (aCW t) (aEc t) (aE6 t) (aCU t) (aCQ t) (aCO t) (aEa t) (aCM t) (aCK t) (O3 _) (TM _) (aCS t) (aCI t)
theorem eY{β:Type}{o:Option _}{g:α->β}:(o.map g=ζ↔o.isSome=η)/\((o.map g).isSome=o.isSome):=H_
theorem pA{t}{b}(h:b∈cr t)(B:b=η):xV t=η:=by
 rw[xV]
 simp_all
theorem aG3(t):(LN t).getD (sv a6,t)=(sv (p0 t).1,(p0 t).2):=by exact lR
theorem aEu(t)(h:LN t=ζ):xV t=η:=pA (mem_of_getElem? (i:=0) Z) (eY.1.1 h)
theorem aG2(t):(FR (p0 t).2).getD (iv 0,(p0 t).2)=(iv (p1 t).1,(p1 t).2):=by exact lR
theorem aEl(t)(h:FR (p0 t).2=ζ):xV t=η:=pA (mem_of_getElem? (i:=1) Z) (eY.1.1 h)
theorem aG1(t):(FR (p1 t).2).getD (iv 0,(p1 t).2)=(iv (p2 t).1,(p2 t).2):=by exact lR
theorem aEj(t)(h:FR (p1 t).2=ζ):xV t=η:=pA (mem_of_getElem? (i:=2) Z) (eY.1.1 h)
theorem aG0(t):(FR (p2 t).2).getD (iv 0,(p2 t).2)=(iv (p3 t).1,(p3 t).2):=by exact lR
theorem aEh(t)(h:FR (p2 t).2=ζ):xV t=η:=pA (mem_of_getElem? (i:=3) Z) (eY.1.1 h)
theorem aGZ(t):(FR (p3 t).2).getD (iv 0,(p3 t).2)=(iv (p4 t).1,(p4 t).2):=by exact lR
theorem aEf(t)(h:FR (p3 t).2=ζ):xV t=η:=pA (mem_of_getElem? (i:=4) Z) (eY.1.1 h)
theorem aGY(t):(LN (p4 t).2).getD (sv a6,(p4 t).2)=(sv (p5 t).1,(p5 t).2):=by exact lR
theorem aEd(t)(h:LN (p4 t).2=ζ):xV t=η:=pA (mem_of_getElem? (i:=5) Z) (eY.1.1 h)
theorem aGX(t):(Ft (p5 t).2).getD (.pv (aK []),(p5 t).2)=(.pv (aK (p6 t).1),(p6 t).2):=by exact lR (e:=λv=>.pv _)
theorem aEb(t)(h:Ft (p5 t).2=ζ):xV t=η:=pA (mem_of_getElem? (i:=6) Z) (eY.1.1 h)
theorem aGW(t):(LN (p6 t).2).getD (sv a6,(p6 t).2)=(sv (p7 t).1,(p7 t).2):=by exact lR
theorem aE9(t)(h:LN (p6 t).2=ζ):xV t=η:=pA (mem_of_getElem? (i:=7) Z) (eY.1.1 h)
theorem aGV(t):(LN (p7 t).2).getD (sv a6,(p7 t).2)=(sv (p8 t).1,(p8 t).2):=by exact lR
theorem aE7(t)(h:LN (p7 t).2=ζ):xV t=η:=pA (mem_of_getElem? (i:=8) Z) (eY.1.1 h)
theorem aGU(t):(LN (p8 t).2).getD (sv a6,(p8 t).2)=(sv (p9 t).1,(p9 t).2):=by exact lR
theorem aE5(t)(h:LN (p8 t).2=ζ):xV t=η:=pA (mem_of_getElem? (i:=9) Z) (eY.1.1 h)
theorem aEt(t):(FR (p9 t).2).getD (iv 0,(p9 t).2)=(iv (pk t).1,(pk t).2):=by exact lR
theorem aCX(t)(h:FR (p9 t).2=ζ):xV t=η:=pA (mem_of_getElem? (i:=10) Z) (eY.1.1 h)
theorem aEs(t):(LN (pk t).2).getD (sv a6,(pk t).2)=(sv (pj t).1,(pj t).2):=by exact lR
theorem aCV(t)(h:LN (pk t).2=ζ):xV t=η:=pA (mem_of_getElem? (i:=11) Z) (eY.1.1 h)
theorem aEr(t):(Wi (pj t).2).getD (av (lW zS),(pj t).2)=(av (lW (jv t).1),(jv t).2):=by exact lR (e:=λv=>av _)
theorem aCT(t)(h:Wi (pj t).2=ζ):xV t=η:=pA (mem_of_getElem? (i:=12) Z) (eY.1.1 h)
theorem aEq(t):(LN (jv t).2).getD (sv a6,(jv t).2)=(sv (ph t).1,(ph t).2):=by exact lR
theorem aCR(t)(h:LN (jv t).2=ζ):xV t=η:=pA (mem_of_getElem? (i:=13) Z) (eY.1.1 h)
theorem aEp(t):(LN (ph t).2).getD (sv a6,(ph t).2)=(sv (pg t).1,(pg t).2):=by exact lR
theorem aCP(t)(h:LN (ph t).2=ζ):xV t=η:=pA (mem_of_getElem? (i:=14) Z) (eY.1.1 h)
theorem aEo(t):(Ft (pg t).2).getD (.pv (aK []),(pg t).2)=(.pv (aK (pf t).1),(pf t).2):=by exact lR (e:=λv=>.pv _)
theorem aCN(t)(h:Ft (pg t).2=ζ):xV t=η:=pA (mem_of_getElem? (i:=15) Z) (eY.1.1 h)
theorem aEn(t):(lb (pf t).2).getD (.pv (yQ []),(pf t).2)=(.pv (yQ (pd t).1),(pd t).2):=by exact lR (e:=λv=>.pv _)
theorem aCL(t)(h:lb (pf t).2=ζ):xV t=η:=pA (mem_of_getElem? (i:=16) Z) (eY.1.1 h)
theorem aEm(t):(Wi (pd t).2).getD (av (lW zS),(pd t).2)=(av (lW (Un t).1),(Un t).2):=by exact lR (e:=λv=>av _)
theorem aCJ(t)(h:Wi (pd t).2=ζ):xV t=η:=pA (mem_of_getElem? (i:=17) Z) (eY.1.1 h)
theorem Yi(t)(r:(LN t).isSome=A)(o:(FR (p0 t).2).isSome=A)(s:(FR (p1 t).2).isSome=A)(p:(FR (p2 t).2).isSome=A)(l:(FR (p3 t).2).isSome=A)(q:(LN (p4 t).2).isSome=A)(j:(Ft (p5 t).2).isSome=A)(n:(LN (p6 t).2).isSome=A)(m:(LN (p7 t).2).isSome=A)(k:(LN (p8 t).2).isSome=A)(g:(FR (p9 t).2).isSome=A)(c:(LN (pk t).2).isSome=A)(h:(Wi (pj t).2).isSome=A)(f:(LN (jv t).2).isSome=A)(b:(LN (ph t).2).isSome=A)(i:(Ft (pg t).2).isSome=A)(d:(lb (pf t).2).isSome=A)(e:(Wi (pd t).2).isSome=A):xV t=A:=by unfold xV cr;simp[all_cons,List.all_nil,id,Bool.and_true,l7];exact⟨eY.2▸r,eY.2▸o,eY.2▸s,eY.2▸p,eY.2▸l,eY.2▸q,eY.2▸j,eY.2▸n,eY.2▸m,eY.2▸k,eY.2▸g,eY.2▸c,eY.2▸h,eY.2▸f,eY.2▸b,eY.2▸i,eY.2▸d,eY.2▸e⟩
end Go.Proofs.C
namespace Go.Proofs.C
open Go.Proofs.Tryz
open Go.Abs
theorem fl.mono{P}{F}{args}{H}{u}{K b}(h:fl P F args H u K)(f:∀H,K H->b H):fl P F args H u b :=λI ι w vs d j g=>(h I _ w _ d j g).mono λ_ _ _ ⟨v,c,i,a,e,s,q,r⟩=>⟨v,c,i,a,e,s,f _ q,r⟩
def PQ(t:List UInt8)(r:AV)(H:aF):Prop:=r=.tup [av (eC (dU t).1),iv (dU t).2]/\H=[]
abbrev dE:dG:=[(2,.ref 2 0 0 0),(3,.ref 3 0 0 0)]
theorem ni(x)(e){t}(D:dU t=(x,e)):∃r,(∀(a) (w) (I) (ι),Rel I ι (sc x e) w->lY w I ι (sc x e) dE a->∃v,(results f54 a.tmps).run φ w=.ok v w/\VRel w I ι (sc x e) v r)/\∃r' B,Fin [] (sc x e) r B r'/\PQ t r' B :=⟨.tup [av (eC x),iv e],aGQ Z (DD cP bJ) (iT Z nP Z Z Z Z),_,[],Fin.wk H_ T_ T_,by rw[PQ];simp_all⟩
theorem sR{t}{i}{e}{H2}(m:¬ 20000<C t)(B:xV t=η)(r:i=JH)(j:e.get 2=N (.ref 2 0 0 0))(q:e.get 3=N (.ref 3 0 0 0))(p:∃o,H2.get 2=N o/\nG o rAJ)(l:∃o,H2.get 3=N o/\nG o eAJ):
  Ca φ f54 [] (sc zR 0) 97 dcJ (PQ t) (.panic i) e H2:=by
 subst r;have w:dU t=(zR,5):=by rw[dU,a8 m,a8 F_]
 refine⟨.panicking JH,dE,pAJ,.inr ⟨JH,Z,Z⟩,cJ.toAny (λu v s=>?_) (λid D c=>?_) (λid n=>?_),fl.mono aCG λH k=>by subst k;exact ni zR 5 w⟩
 .have a:=iU s;simp only[l9,q8,or_false,Prod.mk.injEq]at a;rcases a with⟨rfl,rfl⟩|⟨rfl,rfl⟩
  .exact⟨j,by simp;rfl⟩
  exact⟨q,by simp;rfl⟩
 .have a:=eI c;simp[l9,q8,or_false,Prod.mk.injEq]at a;rcases a with⟨rfl,rfl⟩|⟨rfl,rfl⟩
  .have ⟨o,d,f⟩:=l;exact⟨o,d,f,H_⟩
  have ⟨o,d,f⟩:=p;exact⟨o,d,f,H_⟩
 by_cases h:3=id
 .subst h;rfl
 by_cases g:2=id
 .subst g;rfl
 simp[aF.get,jX h,jX g]at n
theorem YB{t}{x}{e}{b}{H2}(f:dU t=(x,e))(c:cJ (sc zR 0) b H2 dE (sc x e)):Ca φ f54 [] (sc zR 0) 97 dcJ (PQ t) .ret b H2 :=⟨.returning,dE,sc x e,.inl ⟨.inr Z,Z⟩,c,fl.mono (aCF x e) λH d=>by subst d;exact ni x e f⟩
theorem QO{x}{o}(h:nG (Iu x) o):nG o rAJ:=⟨h.1.symm,h.2.1.symm,h.2.2.1.symm,h.2.2.2.symm⟩
theorem GS{e}{o}(h:nG (Iw e) o):nG o eAJ:=⟨h.1.symm,h.2.1.symm,h.2.2.1.symm,h.2.2.2.symm⟩
theorem al(x):nG (Iu x) rAJ:=⟨Z,Z,Z,Z⟩
theorem ak(e):nG (Iw e) eAJ:=⟨Z,Z,Z,Z⟩
theorem TN(t:List UInt8)(b:C t<2^40)(H:aF):RC 54 [sv (a_ t)] (.tup [av (eC (dU t).1),iv (dU t).2]) H:=by
 refine aU.pure (show aU φ 54 [sv (a_ t)] [] (PQ t)from ?_) H_ H;have hls:T (a_ t)=C t:=cB t;refine aU.bodyD func54 Z ntmps54 (r_ Z)<|Be<|Rd (kl 2 fx)<|V (kl 3 aBW)<|Be<|U aA<|Y (gQ U_)<|V jB<|Cn ?_ ?_<;>intro x
 .have d:20000<C t:=I_ x
  have hg:dU t=(zR,2):=by rw[dU,b6 d]
  refine U (oU VI)<|Uu (jH bJ)<|Uu (jH sizeOf25)<|Zz<|aC<|gH (H':=[]) (.inr Z) Z (fJ Z cP bJ Z Z Z u0 Z) (iT Z nP Z Z Z Z) P_ ?_;rw[PQ,hg];exact Qq
 have d:¬ 20000<C t:=J_ x
 refine aB<|Gn (F:=97) (cs:=dcJ) Z Z Z Z Z Z Z Z Z call97<|gK.mono (Q:=Ca φ f54 [] (sc zR 0) 97 dcJ (PQ t)) ?_ (λ_ _ _ h=>h);have t0:=aG3 t;have n0:=aEu t;have c0:=Oe t;have t1:=aG2 t;have n1:=aEl t;have c1:=Od t;have t2:=aG1 t;have n2:=aEj t;have c2:=Oc t;have t3:=aG0 t;have n3:=aEh t;have c3:=Ny t;have t4:=aGZ t;have n4:=aEf t;have c4:=si t;have t5:=aGY t;have n5:=aEd t;have c5:=sg t;have t6:=aGX t;have n6:=aEb t;have c6:=sf t;have t7:=aGW t;have n7:=aE9 t;have c7:=se t;have t8:=aGV t;have n8:=aE7 t;have c8:=Nx t;have t9:=aGU t;have n9:=aE5 t;have c9:=Nw t;have t10:=aEt t;have n10:=aCX t;have c10:=cf t;have t11:=aEs t;have n11:=aCV t;have c11:=cd t;have t12:=aEr t;have n12:=aCT t;have c12:=cc t;have t13:=aEq t;have n13:=aCR t;have c13:=cb t;have t14:=aEp t;have n14:=aCP t;have c14:=ca t;have t15:=aEo t;have n15:=aCN t;have c15:=bz t;have t16:=aEn t;have n16:=aCL t;have c16:=bw t;have t17:=aEm t;have n17:=aCJ t;have c17:=Xv t;have yes:=Yi t;have o:=iw (t:=t) X;have y:KR t=⟨(p1 t).1,(p2 t).1,(p3 t).1,(p4 t).1,(p5 t).1,(p6 t).1,(iM (p7 t).1).1,(p8 t).1,θ ((p9 t).1=CA),(pk t).1,(pj t).1,(jv t).1,⟨(ph t).1,(pg t).1,(pf t).1,(pd t).1,(Un t).1⟩⟩:=rfl;have s7:T (p7 t).1<=C t:=aE8 t;have u:dU t=if xV t=A/\mX (KR t)=(a_ t,0)then(KR t,0)else(zR,5):=by rw[dU,a8 d]
 rw[y]at o u;have ⟨V0,hV0⟩:∃v,v=(p0 t).1:=X_;have ⟨L0,hL0⟩:∃v,v=(p0 t).2:=X_;have ⟨F,hV1⟩:∃v,v=(p1 t).1:=X_;have ⟨L1,hL1⟩:∃v,v=(p1 t).2:=X_;have ⟨E,hV2⟩:∃v,v=(p2 t).1:=X_;have ⟨L2,hL2⟩:∃v,v=(p2 t).2:=X_;have ⟨I,hV3⟩:∃v,v=(p3 t).1:=X_;have ⟨L3,hL3⟩:∃v,v=(p3 t).2:=X_;have ⟨G,hV4⟩:∃v,v=(p4 t).1:=X_;have ⟨L4,hL4⟩:∃v,v=(p4 t).2:=X_;have ⟨i_,hV5⟩:∃v,v=(p5 t).1:=X_;have ⟨L5,hL5⟩:∃v,v=(p5 t).2:=X_;have ⟨f,hV6⟩:∃v,v=(p6 t).1:=X_;have ⟨L6,hL6⟩:∃v,v=(p6 t).2:=X_;have ⟨V7,hV7⟩:∃v,v=(p7 t).1:=X_;have ⟨L7,hL7⟩:∃v,v=(p7 t).2:=X_;have ⟨V8,hV8⟩:∃v,v=(p8 t).1:=X_;have ⟨L8,hL8⟩:∃v,v=(p8 t).2:=X_;have ⟨V9,hV9⟩:∃v,v=(p9 t).1:=X_;have ⟨L9,hL9⟩:∃v,v=(p9 t).2:=X_;have ⟨n,P⟩:∃v,v=(pk t).1:=X_;have ⟨κ,g⟩:∃v,v=(pk t).2:=X_;have ⟨c,l⟩:∃v,v=(pj t).1:=X_;have ⟨τ,Q⟩:∃v,v=(pj t).2:=X_;have ⟨p,J3⟩:∃v,v=(jv t).1:=X_;have ⟨δ,i⟩:∃v,v=(jv t).2:=X_;have ⟨B,R⟩:∃v,v=(ph t).1:=X_;have ⟨γ,A_⟩:∃v,v=(ph t).2:=X_;have ⟨w,W⟩:∃v,v=(pg t).1:=X_;have ⟨β,j⟩:∃v,v=(pg t).2:=X_;have ⟨z,y_⟩:∃v,v=(pf t).1:=X_;have ⟨L15,o_⟩:∃v,v=(pf t).2:=X_;have ⟨s,f_⟩:∃v,v=(pd t).1:=X_;have ⟨σ,k⟩:∃v,v=(pd t).2:=X_;have ⟨c_,z_⟩:∃v,v=(Un t).1:=X_;have ⟨L17,v_⟩:∃v,v=(Un t).2:=X_;simp only[<-hV0,<-hL0,<-hV1,<-hL1,<-hV2,<-hL2,<-hV3,<-hL3,<-hV4,<-hL4,<-hV5,<-hL5,<-hV6,<-hL6,<-hV7,<-hL7,<-hV8,<-hL8,<-hV9,<-hL9,<-P,<-g,<-l,<-Q,<-J3,<-i,<-R,<-A_,<-W,<-j,<-y_,<-o_,<-f_,<-k,<-z_,<-v_]at t0 n0 c0 t1 n1 c1 t2 n2 c2 t3 n3 c3 t4 n4 c4 t5 n5 c5 t6 n6 c6 t7 n7 c7 t8 n8 c8 t9 n9 c9 t10 n10 c10 t11 n11 c11 t12 n12 c12 t13 n13 c13 t14 n14 c14 t15 n15 c15 t16 n16 c16 t17 n17 c17 yes o u s7;clear y hV0 hL0 hV1 hL1 hV2 hL2 hV3 hL3 hV4 hL4 hV5 hL5 hV6 hL6 hV7 hL7 hV8 hL8 hV9 hL9 P g l Q J3 i R A_ W j y_ o_ f_ k z_ v_;have ρ:=λH=>Nq V7 H X;have ⟨PE,hPE⟩:∃v,v=iM V7:=X_;rw[<-hPE]at ρ o u;clear hPE;have ⟨m,EE⟩:=PE;simp only at ρ o u;have htx:=λH=>Z8 ⟨F,E,I,G,i_,f,m,V8,θ (V9=CA),n,c,p,⟨B,w,z,s,c_⟩⟩ o.1 o.2 H;have ⟨TX,hTX⟩:∃v,v=mX ⟨F,E,I,G,i_,f,m,V8,θ (V9=CA),n,c,p,⟨B,w,z,s,c_⟩⟩:=X_;rw[<-hTX]at htx u;clear hTX o;refine U aA<|Y (oU aF3)<|Y (kb 980)<|Y (kl 4 aDs)<|Uu (jH sizeOf125)<|Zz<|S ?_;refine gK.ent (E':=[(0,sv (a_ t)),(2,.ref 2 0 0 0),(3,.ref 3 0 0 0),(4,.ref 4 0 0 0)]) (H':=[(980,pc t),(4,inO),(3,Iw 0),(2,Iu zR)]) L_<|iA<|jD Z Z Z (aX Z eE Z Z Z Z Z) ?_
 refine ez Z Z Z (eU Z Z nW Z (((A7 t X).tot t0 Z (gN _)).mono (PP':=λch H'=>xV t=η/\ch=JH/\∃q,H'=nT q++_) (λ_ _ h=>h) (λch H' ⟨e,J,e3⟩=>⟨n0 e,J,e3⟩))) (λch H' h=>by obtain ⟨e,J,q,rfl⟩:=h;exact sR d e J Z Z ⟨_,Z,al _⟩ ⟨_,Z,ak _⟩) (λh16=>?_);refine RW<|S ?_;refine gK.ent (E':=[(0,sv (a_ t)),(2,.ref 2 0 0 0),(3,.ref 3 0 0 0),(4,.ref 4 0 0 0)]) (H':=[(980,pc L0),(4,inO),(3,Iw 0),(2,Iu zR)]) L_<|zQ (λch H1 D=>xV t=η/\ch=JH/\∃q,D=nT q++H1) [2,3] [2,3] [] Z a7 (λch E1 H1 D b hsh hks ⟨e,J,q,e3⟩=>by subst e3;have ⟨o2,k1,k2⟩:=hsh 2 H_ _ Z;have ⟨o3,k3,k4⟩:=hsh 3 H_ _ Z;exact sR d e J ((b 2 H_).trans Z) ((b 3 H_).trans Z) ⟨o2,k1,QO k2⟩ ⟨o3,k3,GS k4⟩) ?_;refine Pr [4] (λ_ h=>lh eE h)<|wM (r:=⟨_,N [980],nT L1⟩) (.pan Z (λH1 a=>by exact eU Z Z jR Z (((oW L0 X).tot t1 ((a 980 Z).trans Z) (gN _)).mono (PP':=λch H'=>xV t=η/\ch=JH/\∃q,H'=nT q++_) (λ_ _ h=>h) (λch H' ⟨e,J,e3⟩=>⟨n1 e,J,e3⟩)))) Z ?_;refine Pr [4] (λ_ h=>lh eE h)<|wM (r:=⟨_,N [980],nT L2⟩) (.pan Z (λH1 a=>by exact eU Z Z jR Z (((oW L1 X).tot t2 ((a 980 Z).trans Z) (gN _)).mono (PP':=λch H'=>xV t=η/\ch=JH/\∃q,H'=nT q++_) (λ_ _ h=>h) (λch H' ⟨e,J,e3⟩=>⟨n2 e,J,e3⟩)))) Z ?_;refine Pr [4] (λ_ h=>lh eE h)<|wM (r:=⟨_,N [980],nT L3⟩) (.pan Z (λH1 a=>by exact eU Z Z jR Z (((oW L2 X).tot t3 ((a 980 Z).trans Z) (gN _)).mono (PP':=λch H'=>xV t=η/\ch=JH/\∃q,H'=nT q++_) (λ_ _ h=>h) (λch H' ⟨e,J,e3⟩=>⟨n3 e,J,e3⟩)))) Z ?_;refine Pr [4] (λ_ h=>lh eE h)<|wM (r:=⟨_,N [980],nT L4⟩) (.pan Z (λH1 a=>by exact eU Z Z jR Z (((oW L3 X).tot t4 ((a 980 Z).trans Z) (gN _)).mono (PP':=λch H'=>xV t=η/\ch=JH/\∃q,H'=nT q++_) (λ_ _ h=>h) (λch H' ⟨e,J,e3⟩=>⟨n4 e,J,e3⟩)))) Z ?_;refine Pr [2] (λ_ h=>fh pD h)<|Pw [2] (λ_ h=>su sizeOf3 h)<|Pr [2] (λ_ h=>fh F6 h)<|Pw [2] (λ_ h=>su sizeOf3 h)<|Pr [2] (λ_ h=>fh BE h)<|Pw [2] (λ_ h=>su sizeOf3 h)<|Pr [2] (λ_ h=>fh F5 h)<|Pw [2] (λ_ h=>su sizeOf3 h)<|MK ⟨⟨by kernel_rfl,by rfl,by rfl⟩,λH4=>?_⟩;simp only[fk,true_and,and_true]at H4;refine S ?_;have f4:=H4;refine gK.ent (E':=[(0,sv (a_ t)),(2,.ref 2 0 0 0),(3,.ref 3 0 0 0),(4,.ref 4 0 0 0)]) (H':=[(980,pc L4),(4,inO),(3,Iw 0),(2,Iu ⟨F,E,I,G,a6,[],[],a6,η,0,a6,zS,⟨a6,a6,[],[],zS⟩⟩)]) L_ ?_
 refine zQ (λch H1 D=>xV t=η/\ch=JH/\∃q,D=nT q++H1) [2,3] [2,3] [] Z a7 (λch E1 H1 D b hsh hks ⟨e,J,q,e3⟩=>by subst e3;have ⟨o2,k1,k2⟩:=hsh 2 H_ _ Z;have ⟨o3,k3,k4⟩:=hsh 3 H_ _ Z;exact sR d e J ((b 2 H_).trans Z) ((b 3 H_).trans Z) ⟨o2,k1,QO k2⟩ ⟨o3,k3,GS k4⟩) ?_;refine Pr [4] (λ_ h=>lh eE h)<|wM (r:=⟨_,N [980],nT L5⟩) (.pan Z (λH1 a=>by exact eU Z Z nW Z (((A7 L4 X).tot t5 ((a 980 Z).trans Z) (gN _)).mono (PP':=λch H'=>xV t=η/\ch=JH/\∃q,H'=nT q++_) (λ_ _ h=>h) (λch H' ⟨e,J,e3⟩=>⟨n5 e,J,e3⟩)))) Z ?_;refine Pr [4] (λ_ h=>lh eE h)<|Pr [4] (λ_ h=>lh eE h)<|Pr [] (λH1 a=>by exact pZ Z Z) ?_;refine wM (r:=⟨_,N [980],nT L6⟩) (.pan Z (λH1 a=>by exact eU Z Z call100 Z (((dj L5 X).tot t6 ((a 980 Z).trans Z) (gN _)).mono (PP':=λch H'=>xV t=η/\ch=JH/\∃q,H'=nT q++_) (λ_ _ h=>h) (λch H' ⟨e,J,e3⟩=>⟨n6 e,J,e3⟩)))) Z ?_;refine Pr [2] (λ_ h=>fh D0 h)<|Pw [2] (λ_ h=>su V_ h)<|Pr [2] (λ_ h=>fh pC h)<|Pw [2] (λ_ h=>su sizeOf22 h)<|MK ⟨⟨by rfl,by rfl,by rfl⟩,λH4=>?_⟩;simp only[fk,true_and,and_true]at H4;refine S ?_;have f6:=H4;refine gK.ent (E':=[(0,sv (a_ t)),(2,.ref 2 0 0 0),(3,.ref 3 0 0 0),(4,.ref 4 0 0 0)]) (H':=[(980,pc L6),(4,inO),(3,Iw 0),(2,Iu ⟨F,E,I,G,i_,f,[],a6,η,0,a6,zS,⟨a6,a6,[],[],zS⟩⟩)]) L_<|iA<|jD Z Z Z (aX Z eE Z Z Z Z Z)<|ez Z Z Z (eU Z Z nW Z (((A7 L6 X).tot t7 Z (gN _)).mono (PP':=λch H'=>xV t=η/\ch=JH/\∃q,H'=nT q++_) (λ_ _ h=>h) (λch H' ⟨e,J,e3⟩=>⟨n7 e,J,e3⟩))) (λch H' h=>by obtain ⟨e,J,q,rfl⟩:=h;exact sR d e J Z Z ⟨_,Z,al _⟩ ⟨_,Z,ak _⟩) (λh39=>?_);refine jD Z Z Z (kc call101 (ρ _))<|jD Z Z Z (iC Z Z)<|jD Z Z Z (wE Z Z Z)<|jD Z Z Z (wE Z Z Z)<|jD Z Z Z (oV Z DZ Z Z Z Z)<|Ti Z Z (ku sizeOf46)<|RW<|S ?_;refine gK.ent (E':=[(0,sv (a_ t)),(2,.ref 2 0 0 0),(3,.ref 3 0 0 0),(4,.ref 4 0 0 0)]) (H':=[(980,pc L7),(4,inO),(3,Iw 0),(2,Iu ⟨F,E,I,G,i_,f,m,a6,η,0,a6,zS,⟨a6,a6,[],[],zS⟩⟩)]) L_<|zQ (λch H1 D=>xV t=η/\ch=JH/\∃q,D=nT q++H1) [2,3] [2,3] [] Z a7 (λch E1 H1 D b hsh hks ⟨e,J,q,e3⟩=>by subst e3;have ⟨o2,k1,k2⟩:=hsh 2 H_ _ Z;have ⟨o3,k3,k4⟩:=hsh 3 H_ _ Z;exact sR d e J ((b 2 H_).trans Z) ((b 3 H_).trans Z) ⟨o2,k1,QO k2⟩ ⟨o3,k3,GS k4⟩) ?_;refine Pr [4] (λ_ h=>lh eE h) ?_
 refine wM (r:=⟨_,N [980],nT L8⟩) (.pan Z (λH1 a=>by exact eU Z Z nW Z (((A7 L7 X).tot t8 ((a 980 Z).trans Z) (gN _)).mono (PP':=λch H'=>xV t=η/\ch=JH/\∃q,H'=nT q++_) (λ_ _ h=>h) (λch H' ⟨e,J,e3⟩=>⟨n8 e,J,e3⟩)))) Z ?_;refine Pr [4] (λ_ h=>lh eE h)<|wM (r:=⟨_,N [980],nT L9⟩) (.pan Z (λH1 a=>by exact eU Z Z nW Z (((A7 L8 X).tot t9 ((a 980 Z).trans Z) (gN _)).mono (PP':=λch H'=>xV t=η/\ch=JH/\∃q,H'=nT q++_) (λ_ _ h=>h) (λch H' ⟨e,J,e3⟩=>⟨n9 e,J,e3⟩)))) Z ?_;refine Pr [] (λH1 a=>by exact yV Z Z Z)<|Pr [4] (λ_ h=>lh eE h) ?_;refine wM (r:=⟨_,N [980],nT κ⟩) (.pan Z (λH1 a=>by exact eU Z Z jR Z (((oW L9 X).tot t10 ((a 980 Z).trans Z) (gN _)).mono (PP':=λch H'=>xV t=η/\ch=JH/\∃q,H'=nT q++_) (λ_ _ h=>h) (λch H' ⟨e,J,e3⟩=>⟨n10 e,J,e3⟩)))) Z ?_;refine Pr [4] (λ_ h=>lh eE h)<|wM (r:=⟨_,N [980],nT τ⟩) (.pan Z (λH1 a=>by exact eU Z Z nW Z (((A7 κ X).tot t11 ((a 980 Z).trans Z) (gN _)).mono (PP':=λch H'=>xV t=η/\ch=JH/\∃q,H'=nT q++_) (λ_ _ h=>h) (λch H' ⟨e,J,e3⟩=>⟨n11 e,J,e3⟩)))) Z ?_;refine Pr [2] (λ_ h=>fh DY h)<|Pw [2] (λ_ h=>su V_ h)<|Pr [2] (λ_ h=>fh JR h)<|Pw [2] (λ_ h=>su sizeOf4 h)<|Pr [2] (λ_ h=>fh zH h)<|Pw [2] (λ_ h=>su sizeOf3 h)<|Pr [2] (λ_ h=>fh yD h)<|Pw [2] (λ_ h=>su V_ h)<|MK ⟨⟨by kernel_rfl,by rfl,by rfl⟩,λH4=>?_⟩;simp only[fk,true_and,and_true]at H4;refine S ?_;have K:=H4;refine gK.ent (E':=[(0,sv (a_ t)),(2,.ref 2 0 0 0),(3,.ref 3 0 0 0),(4,.ref 4 0 0 0)]) (H':=[(980,pc τ),(4,inO),(3,Iw 0),(2,Iu ⟨F,E,I,G,i_,f,m,V8,θ (V9=CA),n,c,zS,⟨a6,a6,[],[],zS⟩⟩)]) L_<|iA<|jD Z Z Z (aX Z eE Z Z Z Z Z)<|ez Z Z Z (eU Z Z call102 Z (((yb τ X).tot t12 Z (gN _)).mono (PP':=λch H'=>xV t=η/\ch=JH/\∃q,H'=nT q++_) (λ_ _ h=>h) (λch H' ⟨e,J,e3⟩=>⟨n12 e,J,e3⟩))) (λch H' h=>by obtain ⟨e,J,q,rfl⟩:=h;exact sR d e J Z Z ⟨_,Z,al _⟩ ⟨_,Z,ak _⟩) (λh58=>?_);refine jD Z Z Z (oV Z AW Z Z Z Z)<|Ti Z Z (rK Z sizeOf48 Z Z Z Z Z Z Z (r_ Z) Z Z)<|RW<|S ?_;refine gK.ent (E':=[(0,sv (a_ t)),(2,.ref 2 0 0 0),(3,.ref 3 0 0 0),(4,.ref 4 0 0 0)]) (H':=[(980,pc δ),(4,inO),(3,Iw 0),(2,Iu ⟨F,E,I,G,i_,f,m,V8,θ (V9=CA),n,c,p,⟨a6,a6,[],[],zS⟩⟩)]) L_ ?_
 refine zQ (λch H1 D=>xV t=η/\ch=JH/\∃q,D=nT q++H1) [2,3] [2,3] [] Z a7 (λch E1 H1 D b hsh hks ⟨e,J,q,e3⟩=>by subst e3;have ⟨o2,k1,k2⟩:=hsh 2 H_ _ Z;have ⟨o3,k3,k4⟩:=hsh 3 H_ _ Z;exact sR d e J ((b 2 H_).trans Z) ((b 3 H_).trans Z) ⟨o2,k1,QO k2⟩ ⟨o3,k3,GS k4⟩) ?_;refine Pr [4] (λ_ h=>lh eE h)<|wM (r:=⟨_,N [980],nT γ⟩) (.pan Z (λH1 a=>by exact eU Z Z nW Z (((A7 δ X).tot t13 ((a 980 Z).trans Z) (gN _)).mono (PP':=λch H'=>xV t=η/\ch=JH/\∃q,H'=nT q++_) (λ_ _ h=>h) (λch H' ⟨e,J,e3⟩=>⟨n13 e,J,e3⟩)))) Z ?_;refine Pr [4] (λ_ h=>lh eE h)<|wM (r:=⟨_,N [980],nT β⟩) (.pan Z (λH1 a=>by exact eU Z Z nW Z (((A7 γ X).tot t14 ((a 980 Z).trans Z) (gN _)).mono (PP':=λch H'=>xV t=η/\ch=JH/\∃q,H'=nT q++_) (λ_ _ h=>h) (λch H' ⟨e,J,e3⟩=>⟨n14 e,J,e3⟩)))) Z ?_;refine Pr [4] (λ_ h=>lh eE h)<|Pr [4] (λ_ h=>lh eE h)<|Pr [] (λH1 a=>by exact pZ Z Z) ?_;refine wM (r:=⟨_,N [980],nT L15⟩) (.pan Z (λH1 a=>by exact eU Z Z call100 Z (((dj β X).tot t15 ((a 980 Z).trans Z) (gN _)).mono (PP':=λch H'=>xV t=η/\ch=JH/\∃q,H'=nT q++_) (λ_ _ h=>h) (λch H' ⟨e,J,e3⟩=>⟨n15 e,J,e3⟩)))) Z ?_;refine Pr [4] (λ_ h=>lh eE h)<|Pr [4] (λH1 a=>by exact iE Z Z) ?_;refine wM (r:=⟨_,N [980,4],nT σ⟩) (.pan Z (λH1 a=>by exact eU Z Z call103 Z (((Zg L15 X).tot t16 ((a 980 Z).trans Z) (FB.sub ⟨(a 4 Z).trans Z,T_⟩)).mono (PP':=λch H'=>xV t=η/\ch=JH/\∃q,H'=nT q++_) (λ_ _ h=>h) (λch H' ⟨e,J,e3⟩=>⟨n16 e,J,e3⟩)))) Z ?_;refine Pr [] (λH1 a=>by exact QB Z aGk Z Z)<|Pr [2] (λ_ h=>fh iN h)<|Pw [2] (λ_ h=>sx sizeOf51 h) ?_;refine MK ⟨⟨by kernel_rfl,by rfl,by rfl⟩,λH4=>?_⟩;simp only[fk,true_and,and_true]at H4;refine S ?_;have L:=H4;refine gK.ent (E':=[(0,sv (a_ t)),(2,.ref 2 0 0 0),(3,.ref 3 0 0 0),(4,.ref 4 0 0 0)]) (H':=[(980,pc σ),(4,inO),(3,Iw 0),(2,Iu ⟨F,E,I,G,i_,f,m,V8,θ (V9=CA),n,c,p,⟨B,w,z,s,zS⟩⟩)]) L_<|iA<|jD Z Z Z (aX Z eE Z Z Z Z Z)<|ez Z Z Z (eU Z Z call102 Z (((yb σ X).tot t17 Z (gN _)).mono (PP':=λch H'=>xV t=η/\ch=JH/\∃q,H'=nT q++_) (λ_ _ h=>h) (λch H' ⟨e,J,e3⟩=>⟨n17 e,J,e3⟩))) (λch H' h=>by obtain ⟨e,J,q,rfl⟩:=h;exact sR d e J Z Z ⟨_,Z,al _⟩ ⟨_,Z,ak _⟩) (λh74=>?_);refine jD Z Z Z (oV Z iN Z Z Z Z)<|jD Z Z Z (oV Z F7 Z Z Z Z)<|Ti Z Z (rK Z sizeOf48 Z Z Z Z Z Z Z (r_ Z) Z Z)<|RW<|S<|S ?_
 refine gK.ent (E':=[(0,sv (a_ t)),(2,.ref 2 0 0 0),(3,.ref 3 0 0 0),(4,.ref 4 0 0 0)]) (H':=[(980,pc L17),(4,inO),(3,Iw 0),(2,Iu ⟨F,E,I,G,i_,f,m,V8,θ (V9=CA),n,c,p,⟨B,w,z,s,c_⟩⟩)]) L_ ?_;have hokt:=yes h16 f4.1 f4.2.1 f4.2.2.1 f4.2.2.2 f6.1 f6.2 h39 K.1 K.2.1 K.2.2.1 K.2.2.2 h58 L.1 L.2.1 L.2.2.1 L.2.2.2 h74;have hg1:dU t=if TX=(a_ t,0)then(⟨F,E,I,G,i_,f,m,V8,θ (V9=CA),n,c,p,⟨B,w,z,s,c_⟩⟩,0)else(zR,5):=F_
 refine Rd (xB cP bJ)<|Y (kc call72 (htx _))<|Y aA<|Y dK<|Y dK<|Y aH<|V aH<|S<|aT (t:=88) (n:=8) (A_:=!θ (TX.2=0)||!θ (TX.1=a_ t)) ?_ ?_
 .all_goals refine Y aA<|Y xN<|Dm ?_<;>(refine Sp 84 (λh84=>?_) λh84=>?_)<;>(first|exact s_|refine M<|M<|M ?_|refine O aA<|O aA<|O FD ?_)<;>refine V cE ?_<;>exact Gj (h:=by(rw[h84];rfl))
 refine Cn ?_ ?_<;>intro x
 .have hne:TX≠(a_ t,0):=by have:=x;rintro rfl;simp at this
  refine U (oU VI)<|Uu (jH bJ)<|Uu (jH sizeOf25)<|Zz<|aC ?_;exact YB (by rw[hg1,a8 hne]) L_
 have heq:TX=(a_ t,0):=by have:=x;rw[q_,Bool.not_eq_false',Bool.not_eq_false',l6,l6]at this;exact Prod.ext this.2 this.1
 refine aB<|U (xB cP bJ)<|Uu (jH bJ)<|Uu (jH sizeOf25)<|Zz<|aC ?_;exact YB (by rw[hg1,b6 heq]) L_
open Go.Lib
theorem lQ{α:Type}{f}{d:α}{l}{p}(h:f l=N p):NK f d l=p:=by rw[NK,h];rfl
theorem JV{l}(h:(kO l).2=A):(iM (kO l).1).1=l:=by
 rw[kO]at h |-
 split at h
 .next a =>
  rw[eq_nil_of_length_eq_zero a];rfl
 next a =>
 rw[a8 a];exact congrArg _ (FJ (b9 h))
theorem gh(b:Bool):θ (aV (if b then 1 else 0)=CA)=b:=by cases b<;>kernel_rfl
def Ll(r:j_):List B_:=[]
def Lm(r:j_):List B_:=fI (.z r.priv.sl.idx r.priv.sl.sig r.priv.sl.path)++Ll r
def Ln(r:j_):List B_:=fI (.p r.priv.trace)++Lm r
def Lo(r:j_):List B_:=aV (C r.priv.sources:Int)::(r.priv.sources++Ln r)
def Lq(r:j_):List B_:=r.priv.reason::Lo r
def Lr(r:j_):List B_:=r.priv.name::Lq r
def Ls(r:j_):List B_:=fI (.z r.sl.idx r.sl.sig r.sl.path)++Lr r
def Lu(r:j_):List B_:=r.from'::Ls r
def Lv(r:j_):List B_:=aV r.order::Lu r
def sf9(r:j_):List B_:=(aV (if r.yes then 1 else 0))::Lv r
def sf8(r:j_):List B_:=r.target::sf9 r
def sf7(r:j_):List B_:=(kO r.edits).1::sf8 r
def sf6(r:j_):List B_:=aV (C r.parents:Int)::(r.parents++sf7 r)
def sf5(r:j_):List B_:=r.branch::sf6 r
def sf4(r:j_):List B_:=aV r.clock::sf5 r
def sf3(r:j_):List B_:=aV r.number::sf4 r
def sf2(r:j_):List B_:=aV r.author::sf3 r
def sf1(r:j_):List B_:=aV r.kind::sf2 r
def sf0(r:j_):List B_:=HT::sf1 r
theorem Tk(r):jY r=sf0 r:=by simp[jY,wA,zY,NO,NF,fI,sf0,sf1,sf2,sf3,sf4,sf5,sf6,sf7,sf8,sf9,Lv,Lu,Ls,Lr,Lq,Lo,Ln,Lm,Ll]
theorem Ed{r:j_}(h:VF r):xV (aO (jY r))=A/\KR (aO (jY r))=r:=by
 have hk:=CE h.k;have τ:=h.au;have ρ:=h.nu;have σ:=h.cl;have κ:=h.order;have δ:=h.pal;have b:=lM h.sl;have a:=lM h.psl;have s0:=b.i0;have s1:=b.i1;have s2:=b.sl;have s3:=b.pl;have z0:=a.i0;have z1:=a.i1;have z2:=a.sl;have z3:=a.pl;have γ:=h.sol;have β:=h.trl;have H4:=N1 h.br;have d_:=R8 h.tx;have E:=h.target;have F:=h.from
 have D:=h.nm;have z:=h.rs;have f:∀ {l:List B_},(∀t∈l,m6 t=A)->∀t∈l,I0 t:=λz_ t y=>Nat.lt_of_le_of_lt (DV (z_ t y)) E_;rw[Tk];have ⟨t,y⟩:∃t,t=aO (sf0 r):=X_;rw[<-y];have i_:pN t=N (HT,aO (sf1 r)):=by rw[y];exact mT _ (show T HT<1000000000000000000 by decide)
 have q0:p0 t=(HT,aO (sf1 r)):=lQ i_;have o_:yK (p0 t).2=N (r.kind,aO (sf2 r)):=by rw[q0];exact mU _ X X
 have H:p1 t=(r.kind,aO (sf2 r)):=lQ o_;have P:yK (p1 t).2=N (r.author,aO (sf3 r)):=by rw[H];exact mU _ X X
 have J3:p2 t=(r.author,aO (sf3 r)):=lQ P;have e_:yK (p2 t).2=N (r.number,aO (sf4 r)):=by rw[J3];exact mU _ X X
 have A_:p3 t=(r.number,aO (sf4 r)):=lQ e_;have u_:yK (p3 t).2=N (r.clock,aO (sf5 r)):=by rw[A_];exact mU _ X X
 have W:p4 t=(r.clock,aO (sf5 r)):=lQ u_;have R:pN (p4 t).2=N (r.branch,aO (sf6 r)):=by rw[W];exact mT _ (Nat.lt_of_le_of_lt H4 E_)
 have J:p5 t=(r.branch,aO (sf6 r)):=lQ R;have f_:(DS pN) (p5 t).2=N (r.parents,aO (sf7 r)):=by rw[J];exact DR _ _ (f h.pa) X
 have y_:p6 t=(r.parents,aO (sf7 r)):=lQ f_;have Q:pN (p6 t).2=N ((kO r.edits).1,aO (sf8 r)):=by rw[y_];exact mT _ (Nat.lt_of_le_of_lt d_ E_)
 have G:p7 t=((kO r.edits).1,aO (sf8 r)):=lQ Q;have v_:pN (p7 t).2=N (r.target,aO (sf9 r)):=by rw[G];exact mT _ (Nat.lt_of_le_of_lt E E_)
 have I:p8 t=(r.target,aO (sf9 r)):=lQ v_;have L:pN (p8 t).2=N ((aV (if r.yes then 1 else 0)),aO (Lv r)):=by rw[I];exact mT _ (PB (by split<;>decide) (by split<;>decide))
 have K:p9 t=((aV (if r.yes then 1 else 0)),aO (Lv r)):=lQ L;have p:yK (p9 t).2=N (r.order,aO (Lu r)):=by rw[K];exact mU _ X X
 have s:pk t=(r.order,aO (Lu r)):=lQ p;have n:pN (pk t).2=N (r.from',aO (Ls r)):=by rw[s];exact mT _ (Nat.lt_of_le_of_lt F E_)
 have c:pj t=(r.from',aO (Ls r)):=lQ n;have o:Dk (pj t).2=N (r.sl,aO (Lr r)):=by rw[c];exact SU _ _ s0 X (f b.sa) (f b.pa) X X
 have u:jv t=(r.sl,aO (Lr r)):=lQ o;have v:pN (jv t).2=N (r.priv.name,aO (Lq r)):=by rw[u];exact mT _ (Nat.lt_of_le_of_lt D E_)
 have j:ph t=(r.priv.name,aO (Lq r)):=lQ v;have w:pN (ph t).2=N (r.priv.reason,aO (Lo r)):=by rw[j];exact mT _ (Nat.lt_of_le_of_lt z E_)
 have i:pg t=(r.priv.reason,aO (Lo r)):=lQ w;have m:(DS pN) (pg t).2=N (r.priv.sources,aO (Ln r)):=by rw[i];exact DR _ _ (λx hx=>Nat.lt_of_le_of_lt (h.so x hx) E_) X
 have e:pf t=(r.priv.sources,aO (Ln r)):=lQ m;have k:(DS TH) (pf t).2=N (r.priv.trace,aO (Lm r)):=by rw[e];exact ua _ _ (λq hq=>by have ⟨⟨a1,a2⟩,a3,a4⟩:=h.tr q hq;exact⟨⟨X,X⟩,X,X⟩) X
 have d:pd t=(r.priv.trace,aO (Lm r)):=lQ k;have g:Dk (pd t).2=N (r.priv.sl,aO (Ll r)):=by rw[d];exact SU _ _ z0 X (f a.sa) (f a.pa) X X
 have B:Un t=(r.priv.sl,aO (Ll r)):=lQ g;constructor
 .unfold xV cr;rw[i_,o_,P,e_,u_,R,f_,Q,v_,L,p,n,o,v,w,m,k,g];rfl
 unfold KR;rw[H,J3,A_,W,J,y_,G,I,K,s,c,u,j,i,e,d,B,JV h.tx,gh]
theorem TO{r}{t}(h:mX r=(a_ t,0)):dU t=(r,0):=by
 have e:=h;rw[mX]at h;by_cases a:iG r=A
 .rw[b6 a]at h
  split at h
  .cases h
  next c =>
  have f:t=aO (jY r):=by
   have:=congrArg (λp=>ν (μ p.1)) h;exact this.symm
  have ⟨d,b⟩:=Ed (tJ a);rw[<-f]at d b c;rw[dU,a8 c,b,b6 ⟨d,e⟩]
 rw[a8 a]at h;cases h
theorem K4{t}(h:(dU t).2=0):mX (dU t).1=(a_ t,0):=by
 rw[dU]at h |-
 grind
variable{α:Type}
def r6(l:List B_):List PV:=[aK l]
def tQ(ls:List (List B_)):PV:=.sl (ls.map r6)
theorem VS{l:List α}{p}(h:∀j,j<C l->∀b,l[j]?=N b->p b=A):l.all p=A:=by
 rw[Ô];intro b a;have ⟨j,B⟩:=s8.1 a
 grind
theorem fa{l:List α}{p}{i:Nat}{b}(B:l[i]?=N b)(h:p b=η):l.all p=η:=G_
theorem M8{l:List _}{p:α->Bool}{i}{x}(h:∀j,j<i->∀b,l[j]?=N b->p b=A)(D:l[i]?=N x)(B:p x=A):∀j,j<i+1->∀b,l[j]?=N b->p b=A:=G_
end Go.Proofs.C
namespace Go.Proofs.C
open Go.Proofs.Tryz
open Go.Abs Go.Lib
theorem ZN(s)(H):∀r∈fZ s,∀a∈r,Clo H a:=by intro r d a c;obtain ⟨b,_,rfl⟩:=mem_map.1 d;rw[q9.1 c];exact .pv _
instance(s)(H):W_ (H) (fZ s):=⟨ZN s H⟩
abbrev TX:B_:=⟨#[48,49,50,51,52,53,54,55,56,57]⟩
theorem aBb:∀q:Fin 10,(TX.extract q.1 (q.1+1)).data.toList=[UInt8.ofNat (48+q.1)]:=λq=>by
 revert q;decide
theorem Ka{q}(h:q<10):TX.extract q (q+1)=a_ [UInt8.ofNat (48+q)]:=mC (by rw[aBb ⟨q,h⟩,cG])
theorem Oz(a b):a_ a++a_ b=a_ (a++b):=mC (Z)
def eg(v:Nat):List UInt8:=if v=0 then[]else decDigits v
theorem Gr{v}(h:0<v)(t):eg (v / 10)++(UInt8.ofNat (48+v % 10)::t)=eg v++t:=by
 have e:eg v=decDigits v:=a8 X;rw[e,decDigits];by_cases a:v<10
 ·rw[dif_pos a,eg,b6 X,Nat.mod_eq_of_lt a];rfl
 rw[dif_neg a,eg,a8 X,Ä];rfl
theorem vl(n):eg (n / 10)++[UInt8.ofNat (48+n % 10)]=decDigits n:=by
 rw[decDigits];by_cases a:n<10
 ·rw[dif_pos a,eg,b6 X,Nat.mod_eq_of_lt a];rfl
 rw[dif_neg a,eg,a8 X]
theorem ix(n:Nat)(I:n<9223372036854775808)(H:aF):RC 136 [uv n] (sv (a_ (decDigits n))) H:=by
 refine Pu ?_;have step:∀v:Nat,v<18446744073709551616->((v:Nat):Int).tmod 10=((v % 10:Nat):Int)/\IntKind.u64.wrap (((v:Nat):Int).tdiv 10)=((v / 10:Nat):Int)/\IntKind.u64.wrap (((v % 10:Nat):Int)+1)=((v % 10+1:Nat):Int)/\v % 10<10/\v % 10+1<=T TX:=λv z=>by
  refine⟨by rfl,by rw[Int.tdiv_eq_ediv_of_nonneg X,IntKind.wrap_u64];omega,by rw[IntKind.wrap_u64];omega,mod_lt _ E_,?_⟩;have:T TX=10:=rfl;omega
 have ⟨l,y,u,w,p⟩:=step n X;have e:=Ka w;have b:=vl n;generalize n % 10=g at l u w p e b;refine Bd func136 Z ntmps136<|Sz aH<|U aA<|Y (AO Z Z Z E_ l)<|Y aA<|Y (AO Z Z Z E_ l)<|Y (ka u)<|Y (bM (l:=g) (h:=g+1) Z U_ Z Z Z X p e)<|V aH<|S<|U aA<|Y (DL Z Z Z E_ y)<|V aH<|aD<|eN (λ(v:Nat) (t:List UInt8)=>([(0,uv v),(3,sv (a_ t))],[])) (λv t=>v<9223372036854775808/\eg v++t=decDigits n) (λv t=>v) (n / 10) [UInt8.ofNat (48+g)] ⟨X,b⟩ ?_ ?_
 .exact Wk
 rintro v t ⟨z,d⟩;have ⟨j,x,s,q,o⟩:=step v X;have e:=Ka q;have D:C t<=21:=by
  have B:=congrArg List.length d;rw[j7]at B;have G:=cY (k:=19) (u:=n) X E_;omega
 by_cases E:0<v
 .have c:=Gr E t;rw[d]at c;generalize v % 10=g at j s q o e c;refine S<|U aA<|V jB<|Cn ?_ ?_<;>intro f
  .refine aB<|S<|aD<|Rd aA<|Y (AO Z Z Z E_ j)<|Y aA<|Y (AO Z Z Z E_ j)<|Y (ka s)<|Y (bM (l:=g) (h:=g+1) Z U_ Z Z Z X o e)<|Y aA<|Y (by exact fL Z Z Z (by rw[cB,cB,È];omega) (Oz [UInt8.ofNat (48+g)] t))<|V aH<|Rd aA<|Y (DL Z Z Z E_ x)<|Da ?_;exact⟨v / 10,UInt8.ofNat (48+g)::t,⟨X,c⟩,X,Wk⟩
  (have h:=b_ f;omega)
 have k:v=0:=X
 subst k;have F:t=decDigits n:=d;subst F;refine S<|U aA<|V jB<|Cn ?_ ?_<;>intro m
 .cases m
 exact aP<|U aA<|V aH<|aC<|Rt<|Qq
theorem S6(n:Nat)(d:n<9223372036854775808)(H):RC 84 [iv n] (sv (a_ (decDigits n))) H:=by
 refine Pu ?_;have c:=λH=>ix n d H;refine Bd func84 Z ntmps84<|Sz aH<|S<|U aA<|V cH<|Cn ?_ ?_<;>intro b
 ·(have h:=b9 b;omega)
 exact aB<|U aA<|Y (eP Z underlying3 gV Z (gl X))<|Y (bH Z Z call136 Z (c _))<|V aH<|aC<|Rt<|Qq
def KD(L:List B_):Nat:=(L.map λs=>T s+21).sum
theorem Cm(L)(s):KD (L++[s])=KD L+(T s+21):=by rw[KD,Ã,Ö];rfl
theorem xp:∀ {L},(∀s∈L,T s<=100000000)->KD L<=C L*100000021
 | [],_=>k_ _
 |s::r,h=>by
  have B:=xp (λx a=>h x (Ç _ a));show T s+21+KD r<=_
  grind
theorem YX:∀ {L},(∀s∈L,T s<=100000000)->C (aO L)<=KD L
 | [],_=>k_ _
 |s::r,h=>by
  have E:=YX (λx a=>h x (Ç _ a));have D:=h s Ë;have B:=cY (k:=9) (u:=T s) X H_;rw[hU,j7,j6,j7,aS];show _<=T s+21+KD r;omega
theorem lj(L)(s):aO (L++[s])=(aO L++decDigits (T s))++[58]++ν (μ s):=by
 rw[ll,hU];show aO L++(decDigits _++58::(ν (μ s)++[]))=_
 simp_all
theorem GW(L:List B_)(Q:C L<=100000)(t:∀s∈L,T s<=100000000)(H:aF):RC 85 [.pv (aK L)] (sv (a_ (aO L))) H:=by
 refine Pu ?_;have J:C (L.map S_)=C L:=g_ _;have f:∀i,KD (L.take i)<=10000002100000:=λi=>by
  have K:=xp (L:=L.take i) (λs h=>t s (Ï h));have B:C (L.take i)<=100000:=G_
  have P:=mul_le_mul_right 100000021 B;omega
 have n:∀i,C (aO (L.take i))<=KD (L.take i):=λi=>YX λs h=>t s (Ï h);refine Bd func85 Z ntmps85<|Sz aH<|Sz aH<|S<|Sz aH<|aD<|bA (σ:=Nat) (λi=>([(0,.pv (aK L)),(3,iv (KD (L.take i):Int)),(4,iv (i:Int))],[])) (λi=>i<=C L) (λi=>C L - i) 0 (k_ _) ?_ ?_
 .exact Wk
 intro i E;have y:=f i;refine S<|U aA<|Y aA<|Y (fP aE)<|V cH<|Cn ?_ ?_<;>intro q
 .have g:i<C L:=I_ q
  have ⟨s,c⟩:=aQ g;have e:=cA (f:=S_) c;have w:=t s (m7 c);have d:KD (L.take (i+1))=KD (L.take i)+(T s+21):=by rw[eA c,Cm]
  refine aB<|S<|aD<|Rd aA<|Y aA<|Y aA<|Y (bQ Z aY Z Z X y7 e Z)<|Y (fK N_)<|Y (gQ U_)<|Y (by exact dD Z Z Z (show ξ.wrap ((T s:Int)+21)=((T s+21:Nat):Int)by rw[mI X X];omega))<|Y (by exact dD Z Z Z (show ξ.wrap ((KD (L.take i):Int)+((T s+21:Nat):Int))=((KD (L.take (i+1)):Nat):Int)by rw[d,mI X X];omega))<|V aH<|Rd aA<|Y kp<|Da ?_;exact⟨i+1,X,X,Wk⟩
 have j:i=C L:=J_ q
 refine aP<|U aA<|Y (E6 (id:=905) Z BY ei5 zo5 Z Z Z X X (l_ _) (l_ _) X Z)<|V aH<|S<|Sz aH<|aD<|bA (σ:=Nat) (λi=>([(0,.pv (aK L)),(5,.osl 905 (3*i) 0 (C (aO (L.take i)))),(6,iv (i:Int))],[(905,⟨3*i,1,5,fZ (aO (L.take i))⟩)])) (λi=>i<=C L) (λi=>C L - i) 0 (k_ _) ?_ ?_
 .exact L_
 clear j y E;intro i E;have y:=f i;have z:=n i;have F:=f (i+1);have I:=n (i+1);refine S<|U aA<|Y aA<|Y (fP aE)<|V cH<|Cn ?_ ?_<;>intro k
 .have g:i<C L:=I_ k
  have ⟨s,c⟩:=aQ g;have e:=cA (f:=S_) c;have w:=t s (m7 c);have l:=λH=>S6 (T s) X H;have d:aO (L.take (i+1))=(aO (L.take i)++decDigits (T s))++[58]++ν (μ s):=by rw[eA c,lj]
  have G:=cY (k:=9) (u:=T s) X E_;have ⟨D,u⟩:∃D,D=aO (L.take i):=X_;rw[<-u]at d z |-;have m:=cB (decDigits (T s));have v:C (fZ (D++decDigits (T s)))=C D+C (decDigits (T s)):=by rw[sY,j7]
  have x:C (fZ ((D++decDigits (T s))++[58]))=C D+C (decDigits (T s))+1:=by rw[sY,j7,j7];rfl
  refine aB<|S<|aD<|U aA<|Y aA<|Y aA<|Y (kx aY e)<|Y (fK N_)<|Y (gQ U_)<|Y (kc gZ (l _))<|Y (by exact xR (rows':=fZ (D++decDigits s.size)) (k:=D.length+(decDigits s.size).length) Z BY U_ ei5 QA Z Z Z Z Z (sY D) Z (by rw[m];omega) (by rw[m]) (by rw[cG];exact vM D (decDigits s.size)))<|V aH<|U aA<|Y (by exact aM [[.int .u8 58]] Z BY Z Z Z Z Z H_)<|Y (by exact bU (k:=D.length+(decDigits s.size).length+1) (ps:=[[.int .u8 58]]) Z BY ei5 Z Z Z Z Z v Z H_ (m:=1) Z X Z (vM (D++decDigits s.size) [58]))<|V aH<|Rd aA<|Y aA<|Dm ?_;refine Y (jA aY)<|Y (fK N_ (hi:=e))<|Y (by exact xR (k:=D.length+(decDigits s.size).length+1+s.size) Z BY U_ ei5 QA Z Z Z Z Z x Z X Z (vM ((D++decDigits s.size)++[58]) s.data.toList))<|V aH<|Rd aA<|Y kp<|Da ?_;refine⟨i+1,X,X,?_⟩;rw[d];have o:(D++decDigits s.size++[58]++s.data.toList).length=D.length+(decDigits s.size).length+1+s.size:=by
   rw[j7,j7,j7,aS];rfl
  rw[o];exact L_
 have j:i=C L:=J_ k
 subst j;rw[Â]at z |-;have ⟨D,u⟩:∃D,D=aO L:=X_;rw[<-u];have p:((fZ D).drop 0).take (C D)=fZ D:=by rw[drop_zero,Æ (by rw[sY];exact h_ _)]
 exact aP<|U aA<|Y (by exact WV Z dN dI U_ Z Z Z Z p Z)<|V aH<|aC<|Rt<|Qq
theorem XI{r}{a b}(h:iG r=A)(B:lN a=A)(D:lN b=A):iG (Pi r a b)=A:=by simp[iG,l7,r9]at h |-;have ⟨⟨⟨⟨c,f⟩,g⟩,e⟩,d⟩:=h;refine⟨⟨⟨⟨?_,f⟩,g⟩,e⟩,d⟩;simp only[xg,q_]at c |-;have ⟨⟨c,_⟩,_⟩:=c;exact⟨⟨c,by show (!lN b)=η;simp_all⟩,by show (!lN a)=η;simp_all⟩
theorem aAE:lN zS=A:=E_
theorem aFS{s}(h:FSeal s)(B:C s.sig=18):lN s=A:=by have b:=h.i0;have a:=h.i1;have l2:=h.pl;rw[lN,g_,g_,À b,À a,À X,À X,all_eq_true.2 h.sa,all_eq_true.2 h.pa];simp
theorem SW{s m}{h i}(a:(QP s h i m).2=0):lN (QP s h i m).1=A:=by have ⟨f,e,_⟩:=qy a;refine aFS f ?_;rw[e];rfl
theorem ko{r x}(h:IH r=(x,0)):x=r/\(mX r).2=0:=by
 rw[IH]at h
 grind
structure Made(r x:j_)(s:B_)(h:Int):Prop where
 v0:iG (O7 r)=A
 a0:(QP s h (2*r.number - 2) (JL (O7 r))).2=0
 tx:(mX x).2=0
 e:(vJ r.priv=A/\x=mk1 r (QP s h (2*r.number - 2) (JL (O7 r))).1)\/(vJ r.priv=η/\(QP s h (2*r.number - 1) (db (O7 r))).2=0/\x=Pi r (QP s h (2*r.number - 2) (JL (O7 r))).1 (QP s h (2*r.number - 1) (db (O7 r))).1)
theorem Ze{r x}{s}{h}(a:O8 r s h=(x,0)):Made r x s h:=by
 rw[O8]at a
 split at a
 .cases a
 next B =>
 split at a
 .next c =>
  have:=congrArg Prod.snd a;exact absurd this c
 next c =>
 have c:(QP s h (2*r.number - 2) (JL (O7 r))).2=0:=X
 split at a
 .next e =>
  have ⟨b,d⟩:=ko a;exact⟨F_,c,b▸d,.inl ⟨e,b⟩⟩
 next e =>
 split at a
 .next f =>
  have:=congrArg Prod.snd a;exact absurd this f
 next f =>
 have ⟨b,d⟩:=ko a;refine⟨F_,c,b▸d,.inr ⟨F_,?_,b⟩⟩;omega
theorem Made.valid{r x}{s}{h}(a:Made r x s h):iG x=A:=by
 rcases a.e with⟨_,e⟩|⟨_,b,e⟩
 .rw[e];exact XI (r:=O7 r) a.v0 (SW a.a0) aAE
 rw[e];exact XI (r:=O7 r) a.v0 (SW a.a0) (SW b)
theorem Made.text{r x}{s}{h}(b:Made r x s h):mX x=(a_ (aO (jY x)),0):=by
 have a:=b.tx;rw[mX,b6 b.valid]at a |-
 split at a
 .cases a
 next c=>rw[a8 c]
theorem Made.parse{r x}{s}{h}(a:Made r x s h):dU (aO (jY x))=(x,0):=TO a.text
def Wb(c:UInt8):B_:=⟨#[c]⟩
def aAx(c:UInt8):l8:=⟨Wb c,1,(c.toNat:Int),0,[],[]⟩
def cs3:List UInt8:=[97,98,99]
def aGH:l8:=⟨Wb 119,2,0,0,cs3.map Wb,[]⟩
def s0:List l8:=cs3.map aAx++[aGH]
def x1:List l8:=cs3.map aAx++[⟨Wb 118,2,0,0,[Wb 98,Wb 99],[]⟩,⟨Wb 119,2,0,0,[Wb 97,Wb 98],[]⟩]
end Go.Proofs.C
section
namespace Go.Proofs.C
open Go.Proofs.Tryz
open Go.Abs
structure M3 where
 k:B_
 b:B_
 o:B_
 t:B_
end Go.Proofs.C
namespace Go.Abs

end Go.Abs
namespace Go.Proofs.C
open Go.Proofs.Tryz
open Go.Abs

end Go.Proofs.C
end
namespace Go.Proofs.C
open Go.Proofs.Tryz
open Go.Abs
def m1(p:M3):B_×Bool:=if p.t=p.o then(p.o,η)else if p.t=p.b then(p.o,η)else if p.o=p.b then(p.t,η)else(p.b,A)
instance decMemB(s:B_)(l:List B_):Decidable (s∈l):=decidable_of_iff (Al l s=A) Zv
def zs(B:Bool):List Int:=if B then[2,1,0]else[0,1,2]
def aG8(m:List l8)(B:Bool):List l8:=(zs B).flatMap λz=>m.filter λo=>θ (o.kind.tdiv 2=z)
def aDE(b:List l8)(o:l8):Bool:=match aG7 b o.id with
 |some p=>!θ (p.kind=o.kind)||(θ (o.kind=5)&&!θ (o.refs=p.refs))
 |none=>η
def rnB(b:List l8)(A_:List B_)(o:l8):Bool:=aDE b o||o.refs.any (Al A_)
def rnL(b:List l8):List B_->List l8->List B_
 |A_,[]=>A_
 |A_,o::L=>rnL b (if rnB b A_ o then A_++[o.id]else A_) L
def aFr(a b:List l8):List B_:=rnL b [] (aG8 a η)
section
section
variable{a b:List l8}
def c1(k:l8×l8):l8:=⟨k.1.id,k.1.kind,k.2.x,k.2.y,k.1.refs,k.1.tags⟩
def c2(k:l8×l8):l8:=⟨k.1.id,k.1.kind,k.2.x,k.2.y,k.2.refs,k.1.tags⟩
def c3(k:l8×l8):l8:=⟨k.1.id,k.1.kind,k.2.x,k.2.y,k.2.refs,k.2.tags⟩
end
end
theorem cQ.valY{P}{i_}{o}{E}{H H'}{b a}(h:cQ P i_ o E H (.pv (.bool b)) H')(e:b=a):cQ P i_ o E H (.pv (.bool a)) H':=e▸h
end Go.Proofs.C
namespace Go.Proofs.C
open Go.Proofs.Tryz
section
def aBa(u:List Nat)(i:Nat):Nat:=u.getD i i
def aEF:Nat->List Nat->Nat->Nat
 |0,_,i=>i
 |n+1,u,i=>if aBa u i=i then i else aEF n u (aBa u i)
def top(u:List Nat)(i:Nat):Nat:=aEF i u i
def aGn(u:List Nat):Prop:=∀i,aBa u i<=i
def Inv(L:Nat->Nat->Prop)(f:Nat->Nat):Prop:=∀i k,L i k->f i=f k
structure Snd(L:Nat->Nat->Prop)(u:List Nat):Prop where
 ok:aGn u
 sn:∀f,Inv L f->∀x,f (top u x)=f x
section
variable{f_:Type}[DecidableEq f_]
def aAF:List (f_×Nat)->f_->Option Nat
 | [],_=>ζ
 |(k,v)::r,s=>if k=s then N v else aAF r s
structure I1(L:Nat->Nat->Prop)(W:Nat->List f_)(k m:Nat)(st:List Nat×List (f_×Nat)):Prop where
 len:C st.1=m
 snd:Snd L st.1
 at_:∀s j,aAF st.2 s=N j->j<m/\s∈W j
 has:∀j,j<k->∀s,s∈W j->(aAF st.2 s).isSome=A
structure I2(L:Nat->Nat->Prop)(F:List (f_×Nat))(i_:Nat->List f_)(n k:Nat)(u:List Nat):Prop where
 len:C u=n
 snd:Snd L u
 same:∀i,i<k->∀s,s∈i_ i->∀j,aAF F s=N j->top u i=top u j
end
end
def aAv(f:Nat->Nat)(n:Nat):List Nat:=(List.range n).filter λi=>f i=i
def grp(f:Nat->Nat)(n r:Nat):List Nat:=(List.range n).filter λj=>f j=r
def aGa(f:Nat->Nat)(n:Nat):List (List Nat):=(aAv f n).map (grp f n)
def aHU(f:Nat->Nat)(n x:Nat):Nat:=(aAv f n).idxOf (f x)
end Go.Proofs.C
namespace Go.Proofs.C
open Go.Proofs.Tryz
open Go.Abs
theorem PF{l}(h:lV l=A):0<C l/\C l<=200/\∀e∈l,gO e=A:=by
 rw[lV,l7]at h
 grind
open Go.Lib
theorem aBw(u:Nat):∀H,u<1000000000->RC 222 [iv (u:Int)] (sv (a_ (decDigits u))) H:=by
 induction u using Nat.strongRecOn with
 | ind u g =>
  intro H F;refine Pu<|Bd func222 Z ntmps222<|Sz aH<|S<|U aA<|V cH<|Cn ?_ ?_<;>intro d
  .have f:u<10:=I_ d
   have B:T (⟨#[48,49,50,51,52,53,54,55,56,57]⟩:B_)=10:=rfl;have i:(⟨#[48,49,50,51,52,53,54,55,56,57]⟩:B_).extract u (u+1)=a_ (decDigits u):=by
    rw[decDigits,dif_pos f];have h:u=0\/u=1\/u=2\/u=3\/u=4\/u=5\/u=6\/u=7\/u=8\/u=9:=X
    rcases h with rfl|rfl|rfl|rfl|rfl|rfl|rfl|rfl|rfl|rfl<;>rfl
   exact U aA<|Y aA<|Y iF<|Y (bM (l:=u) (h:=u+1) Z U_ Z Z Z X X i)<|V aH<|aC<|Rt<|Qq
  have f:¬ u<10:=J_ d
  have j:ξ.wrap ((u:Int).tdiv 10)=((u / 10:Nat):Int):=by
   rw[show (u:Int).tdiv 10=((u / 10:Nat):Int)from rfl];exact mI X X
  have D:T (a_ (decDigits (u / 10)))<=9:=by rw[cB];exact cY X E_
  have E:T (a_ (decDigits (u % 10)))<=1:=by rw[cB];exact cY X E_
  have k:a_ (decDigits (u / 10))++a_ (decDigits (u % 10))=a_ (decDigits u):=vg (by
   rw[show (a_ (decDigits (u / 10))++a_ (decDigits (u % 10))).data.toList=(a_ (decDigits (u / 10))).data.toList++(a_ (decDigits (u % 10))).data.toList by simp,cG,cG,cG];rw[show decDigits u=decDigits (u / 10)++[UInt8.ofNat (48+u % 10)]by rw[decDigits,dif_neg f]];congr 1;rw[decDigits,dif_pos X])
  exact aB<|U aA<|Y (DL Z Z Z E_ j)<|Y (kc call222 (g (u / 10) X _ X))<|Y aA<|Y (AO Z Z Z E_ (rfl:(u:Int).tmod 10=((u % 10:Nat):Int)))<|Y (kc call222 (g (u % 10) X _ X))<|Y (fL Z Z Z X k)<|V aH<|aC<|Rt<|Qq
theorem CF{a:List _}{k}{w}(h:a[k]?=N w):a_ (bW [32] (bs (a.take (k+1))))=(if 0<k then a_ (bW [32] (bs (a.take k)))++⟨#[32]⟩else a_ (bW [32] (bs (a.take k))))++w:=by
 have b:=(m9.1 h).1;refine vg ?_;rw[É,h,bs];cases k with
 |zero =>
  simp[bW,bs,a_]
 | succ k =>
  cases a with
  |nil=>cases b
  |cons x l =>
   simp[a_,bs,bW]
theorem GK(a:List B_)(H:aF)(K:dC a+C a<2^40):RC 221 [.pv (aK a)] (sv (a_ (bW [32] (bs a)))) H:=by
 refine Pu ?_;have E:C (a.map S_)=C a:=g_ _;refine Bd func221 Z ntmps221<|Sz aH<|Sz aH<|S<|Sz aH<|aD<|bA (σ:=Nat) (λk=>([(0,.pv (aK a)),(3,sv (a_ (bW [32] (bs (a.take k))))),(4,iv (k:Int))],[])) (λk=>k<=C a) (λk=>C a - k) 0 (k_ _) ?_ ?_
 .exact Wk
 rintro k L;have G:T (a_ (bW [32] (bs (a.take k))))<=dC a+C a:=by
  rw[cB];have m:=gE (a.take k);have n:=oP a k;have J:C (a.take k)<=C a:=F_
  omega
 refine S<|U aA<|Y aA<|Y (fP aE)<|V cH<|Cn ?_ ?_<;>intro g
 .have h:k<C a:=I_ g
  have ⟨w,j⟩:=aQ h;have D:=cA (f:=S_) j;have d:=CF j;have I:T w<=dC a:=by
   have m:=yR j;have n:=oP a (k+1);omega
  have B:T (⟨#[32]⟩:B_)=1:=rfl;have F:T (a_ (bW [32] (bs (a.take k)))++⟨#[32]⟩)=T (a_ (bW [32] (bs (a.take k))))+1:=F_
  refine aB<|S<|aD<|S<|U aA<|V jB<|Cn ?_ ?_<;>intro f
  .have i:0<k:=I_ f
   rw[b6 i]at d;refine Rd aA<|Y kq<|V aH<|Rd aA<|Y aA<|Y aA<|Y (jA aY)<|Y (fK N_)<|Y kq<|V aH<|Rd aA<|Y iF<|Da ?_;refine⟨k+1,X,X,?_⟩;rw[d];exact Wk
  have i:¬ 0<k:=J_ f
  rw[a8 i]at d;refine aB<|Rd aA<|Y aA<|Y aA<|Y (jA aY)<|Y (fK N_)<|Y kq<|V aH<|Rd aA<|Y iF<|Da ?_;refine⟨k+1,X,X,?_⟩;rw[d];exact Wk
 have l:k=C a:=J_ g
 subst l;rw[Â];exact aP<|U aA<|V aH<|aC<|Rt<|Qq
def UP(s:B_)(n:Int):Bool:=(List.range (T s)).any λj=>θ (aZ s j=n)
theorem Qp(s)(n:Int)(H:aF)(D:T s<2^62):RC 262 [sv s,.pv (.int .u8 n)] (bv (UP s n)) H:=by
 refine Pu<|Bd func262 Z ntmps262<|Sz aH<|S<|Sz aH<|aD<|bA (σ:=Nat) (λk=>([(0,sv s),(1,.pv (.int .u8 n)),(5,iv (k:Int))],[])) (λk=>k<=T s/\∀j,j<k->θ (aZ s j=n)=η) (λk=>T s - k) 0 ⟨X,X⟩ ?_ ?_
 .exact E0
 rintro k ⟨hk,e⟩;refine S<|U aA<|Y aA<|Y (gQ U_)<|V cH<|Cn ?_ ?_<;>intro b
 .have f:k<T s:=I_ b
  refine aB<|S<|aD<|U aA<|Y aA<|Y (cL Z U_ Z Z X (Z) X Z)<|Y aA<|V cI<|Cn ?_ ?_<;>intro c
  .refine Sz aH<|aC<|Rt ?_;exact⟨by rw[UP,uY f c],Z⟩
  refine aB<|Rd aA<|Y iF<|Da ?_;refine⟨k+1,⟨X,λj B=>?_⟩,X,E0⟩
  grind
 have d:k=T s:=J_ b
 subst d;refine aP<|Sz aH<|aC<|Rt ?_;exact⟨by rw[UP,B5 e],Z⟩
theorem Zy:∀n:Fin 256,(UP ⟨#[32,9,10]⟩ (n.val:Int)=θ (zL (n.val)=1))/\(θ ((n.val:Int)=35)=θ (zL (n.val)=2))/\(UP ⟨#[59,44,46,58,40,41,123,125,91,93,61,60,62,47,45]⟩ (n.val:Int)=θ (zL (n.val)=6))/\(θ ((n.val:Int)=34)=θ (zL (n.val)=7))/\(UP ⟨#[92,34,110]⟩ (n.val:Int)=(tZ (UInt8.ofNat n.val)).isSome):=by decide +kernel
theorem dv(s)(k):(UP ⟨#[32,9,10]⟩ (aZ s k)=θ (zL (aZ s k)=1))/\(θ (aZ s k=35)=θ (zL (aZ s k)=2))/\(UP ⟨#[59,44,46,58,40,41,123,125,91,93,61,60,62,47,45]⟩ (aZ s k)=θ (zL (aZ s k)=6))/\(θ (aZ s k=34)=θ (zL (aZ s k)=7))/\(UP ⟨#[92,34,110]⟩ (aZ s k)=(tZ (pR s k)).isSome):=by
 have h:=Zy ⟨(aZ s k).toNat,CP s k⟩;have e:UInt8.ofNat (aZ s k).toNat=pR s k:=by rw[uG,l_,UInt8.ofNat_toNat]
 rw[e]at h;exact h
theorem szW(w:List _):T (⟨w.toArray⟩:B_)=C w:=rfl
theorem GE(w)(t):(⟨w.toArray⟩:B_)++t=⟨(w++ν (μ t)).toArray⟩:=mC (Z)
theorem mv{s}{i}(h:i<T s):(s.extract i (i+1)).data.toList=[pR s i]:=by rw[fW,Nat.add_sub_cancel_left,zJ h];rfl
theorem xv(s:B_)(f:Nat)(H:aF)(hs:T s<2^40)(ha:f<T s):RC 263 [sv s,iv (f:Int)] (.tup [sv (yN (oO (s.data.toList.drop (f+1))) [] (f+1)).1,iv (yN (oO (s.data.toList.drop (f+1))) [] (f+1)).2,bv (oO (s.data.toList.drop (f+1))).isSome]) H:=by
 refine Pu ?_;have ⟨j,x⟩:∃j,j=yN (oO (s.data.toList.drop (f+1))) [] (f+1):=X_;have ⟨ok,E⟩:∃ok,ok=(oO (s.data.toList.drop (f+1))).isSome:=X_;rw[<-x,<-E];refine Bd func263 Z ntmps263<|U aH<|Y aH<|V aH<|Sz aH<|S<|U aA<|Y iF<|V aH<|aD<|eN (λ(i:Nat) (w:List UInt8)=>([(0,sv s),(7,sv ⟨w.toArray⟩),(8,iv (i:Int))],[])) (λi w=>C w<=i/\i<2199023255552/\j=yN (oO (s.data.toList.drop i)) w i/\ok=(oO (s.data.toList.drop i)).isSome) (λi w=>T s+1 - i) (f+1) [] ⟨k_ _,X,x,E⟩ ?_ ?_
 .exact E0
 rintro i w ⟨hwl,hib,d,a⟩;have u:=szW w;refine S<|U aA<|Y aA<|Y (gQ U_)<|V cH<|Cn ?_ ?_<;>intro c
 .have F:i<T s:=I_ c
  have o:=zJ F;have Q:=mv F;have L:(⟨w.toArray⟩:B_)++s.extract i (i+1)=⟨(w++[pR s i]).toArray⟩:=by rw[GE,Q]
  have τ:=gF s i (i+1);refine aB<|S<|aD<|U aA<|Y aA<|Y (ky U_)<|V aH<|S<|U aA<|V cI<|Cn ?_ ?_<;>intro i_
  .have n:pR s i=34:=b9 (CR (n:=34) E_ i_);have t:j=(⟨w.toArray⟩,((i+1:Nat):Int)):=by rw[d,o,n,C1,yN,append_nil]
   have g:ok=A:=by rw[a,o,n,C1];rfl
   rw[t,g];refine U aA<|Y aA<|Y iF<|Y aH<|Y aH<|V aH<|aC<|mP (H':=[]) (.inr Z) Z (aI Z) (aI Z) (aI Z) P_ ?_;exact Qq
  have y:pR s i≠34:=b_ (CR (n:=34) E_ i_);refine aB<|S<|U aA<|V cI<|Cn ?_ ?_<;>intro K
  .have n:pR s i=10:=b9 (CR (n:=10) E_ K);have t:j=(a6,0):=by rw[d,o,n,M9,yN]
   have g:ok=η:=by rw[a,o,n,M9];rfl
   rw[t,g];refine U aH<|Y aH<|V aH<|aC<|mP (H':=[]) (.inr Z) Z (aI Z) (aI Z) (aI Z) P_ ?_;exact Qq
  have v:pR s i≠10:=b_ (CR (n:=10) E_ K);refine aB<|S<|U aA<|V xN<|Cn ?_ ?_<;>intro r
  .have z:pR s i≠92:=by
    have h:θ (aZ s i=92)=η:=F_
    exact b_ (CR (n:=92) E_ h)
   refine U aA<|Y aA<|Y aA<|Y aA<|Y iF<|Y (bM (l:=i) (h:=(i+1)) Z U_ Z Z Z X X Z)<|Y (fL Z Z Z X L)<|V aH<|aP<|Rd aA<|Y iF<|Da ?_;refine⟨i+1,w++[pR s i],⟨F_,X,?_,?_⟩,X,E0⟩
   .rw[d,o,C2 y v z,BW]
   rw[a,o,C2 y v z,Option.isSome_map]
  have n:pR s i=92:=by
   have h:θ (aZ s i=92)=A:=F_
   exact b9 (CR (n:=92) E_ h)
  by_cases W:i+1<T s
  .have p:θ ((T s:Int)<=(i:Int)+1)=η:=Á X;have q:=zJ W;have G:=(dv s (i+1)).2.2.2.2;have P:=mv W;have k:=gF s (i+1) (i+1+1);have B:(⟨w.toArray⟩:B_)++s.extract (i+1) (i+1+1)=⟨(w++[pR s (i+1)]).toArray⟩:=by rw[GE,P]
   have m:(⟨w.toArray⟩:B_)++⟨#[10]⟩=⟨(w++[10]).toArray⟩:=by rfl
   refine aB<|U aA<|Y iF<|V aH<|S<|U aA<|Y aA<|Y (gQ U_)<|Y (cQ.valY (kC Z Z Z) (p))<|Y aA<|O aA<|O aA<|O (ky U_)<|O (bH Z Z call262 Z (Qp ⟨#[92,34,110]⟩ (aZ s (i+1)) _ E_))<|O iJ<|V cE<|Cn ?_ ?_<;>intro R
   .have f_:tZ (pR s (i+1))=ζ:=by
     simp_all
    have t:j=(a6,0):=by rw[d,o,n,q,vR,f_];rfl
    have g:ok=η:=by rw[a,o,n,q,vR,f_];rfl
    rw[t,g];refine U aH<|Y aH<|V aH<|aC<|mP (H':=[]) (.inr Z) Z (aI Z) (aI Z) (aI Z) P_ ?_;exact Qq
   have ⟨b,l⟩:∃b,tZ (pR s (i+1))=N b:=by
    rw[G]at R;cases l:tZ (pR s (i+1))with
    |none=>simp_all
    |some b=>simp_all
   refine aB<|U aA<|Y aA<|Y (ky U_)<|V cI<|Cn ?_ ?_<;>intro I
   .have D:pR s (i+1)=110:=b9 (CR (n:=110) E_ I);have J:b=10:=by rw[D]at l;exact(Option.some.inj l).symm
    refine Rd aA<|Y (by exact fL Z Z Z (by show T (⟨w.toArray⟩:B_)+1<=_;omega) m)<|V aH<|Rd aA<|Y iF<|Da ?_;refine⟨i+1+1,w++[10],⟨by rw[j7,È];omega,X,?_,?_⟩,X,E0⟩
    .rw[d,o,n,q,vR,l,J];exact BW
    rw[a,o,n,q,vR,l];exact Option.isSome_map
   have D:pR s (i+1)≠110:=b_ (CR (n:=110) E_ I);have J:b=pR s (i+1):=by
    rw[tZ]at l
    split at l
    .rename_i e;rw[e];exact(Option.some.inj l).symm
    split at l
    .rename_i e;rw[e];exact(Option.some.inj l).symm
    first
    |cases l
    |(rw[a8 D]at l;cases l)
   refine Rd aA<|Y aA<|Y aA<|Y aA<|Y iF<|Y (bM (l:=(i+1)) (h:=(i+1+1)) Z U_ Z Z Z X X Z)<|Y (fL Z Z Z X B)<|V aH<|Rd aA<|Y iF<|Da ?_;refine⟨i+1+1,w++[pR s (i+1)],⟨by rw[j7,È];omega,X,?_,?_⟩,X,E0⟩
   .rw[d,o,n,q,vR,l,J];exact BW
   rw[a,o,n,q,vR,l]
   simp_all
  have p:θ ((T s:Int)<=(i:Int)+1)=A:=À X;have t:j=(a6,0):=by rw[d,o,n,CN X];rfl
  have g:ok=η:=by rw[a,o,n,CN X];rfl
  rw[t,g];refine aB<|U aA<|Y iF<|V aH<|S<|U aA<|Y aA<|Y (gQ U_)<|Y (cQ.valY (kC Z Z Z) (p))<|Y aA<|M<|M<|M<|M<|M<|V cE<|Cn ?_ ?_<;>intro o_
  .refine U aH<|Y aH<|V aH<|aC<|mP (H':=[]) (.inr Z) Z (aI Z) (aI Z) (aI Z) P_ ?_;exact Qq
  ((cases o_;done))
 have p:T s<=i:=J_ c
 have t:j=(a6,0):=by rw[d,CN p];rfl
 have g:ok=η:=by rw[a,CN p];rfl
 rw[t,g];refine aP<|U aH<|Y aH<|V aH<|aC<|mP (H':=[]) (.inr Z) Z (aI Z) (aI Z) (aI Z) P_ ?_;exact Qq
theorem NN(s:B_)(H:aF)(G:T s<17592186044416):RC 223 [sv s] (sv ⟨(cZ (ν (μ s))).toArray⟩) H:=by
 refine Pu ?_;have J:=aS s;refine Bd func223 Z ntmps223<|Sz aH<|Sz aH<|Sz aH<|S<|Sz aH<|aD<|CT (λ(i f:Nat) (w:List UInt8)=>([(0,sv s),(3,sv ⟨w.toArray⟩),(4,iv (f:Int)),(5,iv (i:Int))],[])) (λi f w=>f<=i/\i<=T s/\C w<=C (lX s i)/\w++(s.data.toList.drop f).take (i - f)=lX s i) (λi f w=>T s - i) 0 0 [34] ⟨h_ _,k_ _,h_ _,Z⟩ ?_ ?_
 .exact E0
 rintro i f w ⟨hf,hi,hwl,k⟩;have L:=jg (s:=s) (k:=i) G;have K:=szW w;refine S<|U aA<|Y aA<|Y (gQ U_)<|V cH<|Cn ?_ ?_<;>intro x
 .have e:i<T s:=I_ x
  have d:=X6 e;have g:=fW s f i;have c:(⟨w.toArray⟩:B_)++s.extract f i=⟨(lX s i).toArray⟩:=by rw[GE,g,k]
  have B:=szW (lX s i);have o:(⟨(lX s i).toArray⟩:B_)++⟨#[92,110]⟩=⟨(lX s i++[92,110]).toArray⟩:=by rfl
  have p:(⟨(lX s i).toArray⟩:B_)++⟨#[92]⟩=⟨(lX s i++[92]).toArray⟩:=by rfl
  have I:=gF s f i;refine aB<|S<|aD<|U aA<|Y aA<|Y (ky U_)<|V cI<|Cn ?_ ?_<;>intro q
  .have v:pR s i=10:=b9 (CR (n:=10) E_ q);have t:rF (pR s i)=[92,110]:=by rw[rF,b6 v]
   rw[t]at d;refine U aA<|Y aA<|Y aA<|Y aA<|Y (bM (l:=f) (h:=i) Z U_ Z Z Z X X Z)<|Y (fL Z Z Z X c)<|Y (by exact fL Z Z Z (by show T (⟨(lX s i).toArray⟩:B_)+2<=_;omega) o)<|V aH<|Rd aA<|Y iF<|V aH<|Rd aA<|Y iF<|Da ?_;refine⟨i+1,i+1,lX s i++[92,110],⟨h_ _,e,F_,F_⟩,X,E0⟩
  have n:¬ pR s i=10:=b_ (CR (n:=10) E_ q);refine S<|aT (t:=34) (n:=11) (A_:=θ (aZ s i=34)||θ (aZ s i=92)) ?_ ?_
  .all_goals refine Y aA<|Y aA<|Y (ky U_)<|Y cI<|Dm ?_<;>(refine Sp 29 (λP=>?_) λP=>?_)<;>(first|exact s_|refine M<|M<|M<|M ?_|refine O aA<|O aA<|O (ky U_)<|O cI ?_)<;>refine V cE ?_<;>exact Gj (h:=by simp_all)
  refine Cn ?_ ?_<;>intro j
  .have v:pR s i=34\/pR s i=92:=by
    rw[Bool.or_eq_true]at j;rcases j with h|h
    .exact .inl (b9 (CR (n:=34) E_ h))
    exact .inr (b9 (CR (n:=92) E_ h))
   have t:rF (pR s i)=[92,pR s i]:=by rw[rF,a8 n,b6 v]
   rw[t]at d;refine U aA<|Y aA<|Y aA<|Y aA<|Y (bM (l:=f) (h:=i) Z U_ Z Z Z X X Z)<|Y (fL Z Z Z X c)<|Y (by exact fL Z Z Z (by show T (⟨(lX s i).toArray⟩:B_)+1<=_;omega) p)<|V aH<|Rd aA<|V aH<|Rd aA<|Y iF<|Da ?_;refine⟨i+1,i,lX s i++[92],⟨le_succ _,e,F_,by rw[d,Nat.add_sub_cancel_left,zJ e,Ä];rfl⟩,X,E0⟩
  have v:¬ (pR s i=34\/pR s i=92):=by
   rw[q_]at j;rintro(h|h)
   .exact absurd h (b_ (CR (n:=34) E_ j.1))
   exact absurd h (b_ (CR (n:=92) E_ j.2))
  have t:rF (pR s i)=[pR s i]:=by rw[rF,a8 n,a8 v]
  rw[t]at d;have z:(s.data.toList.drop f).take (i+1 - f)=(s.data.toList.drop f).take (i - f)++[pR s i]:=by
   have F:i+1 - f=(i - f)+1:=X
   have D:(s.data.toList.drop f)[i - f]?=N (pR s i):=by
    rw[getElem?_drop,show f+(i - f)=i by omega];have E:=zJ e;exact(UN E).1
   rw[F,É,D];rfl
  refine aB<|Rd aA<|Y iF<|Da ?_;refine⟨i+1,f,w,⟨X,e,by rw[d,j7];omega,by rw[z,<-Ä,k,d]⟩,X,E0⟩
 have y:i=T s:=J_ x
 subst y;have g:=fW s f (T s);have c:(⟨w.toArray⟩:B_)++s.extract f (T s)=⟨(lX s (T s)).toArray⟩:=by rw[GE,g,k]
 have B:=szW (lX s (T s));have I:=gF s f (T s);have u:(⟨(lX s (T s)).toArray⟩:B_)++⟨#[34]⟩=⟨(cZ (ν (μ s))).toArray⟩:=by
  rw[GE,lX,Æ X,cZ];rfl
 exact aP<|U aA<|Y aA<|Y aA<|Y (bM (l:=f) (h:=T s) Z U_ Z Z Z X X Z)<|Y (fL Z Z Z X c)<|Y (by exact fL Z Z Z (by show T (⟨(lX s (T s)).toArray⟩:B_)+1<=_;omega) u)<|V aH<|aC<|Rt<|Qq
abbrev oBx(o:l8):Ob:=bx 6 135 ((bS o).map .pv)
def WD(l:List B_):List (List AV):=l.map λs=>[sv s]
theorem aw(l):C (WD l)=C l:=g_ _
theorem mK(H)(l):∀r∈WD l,∀a∈r,Clo H a:=by intro r c a b;obtain ⟨x,_,rfl⟩:=mem_map.1 c;rw[q9]at b;subst b;simp
instance(H)(l):W_ (H) (WD l):=⟨mK H l⟩
theorem ay{l}{k:Nat}{s}(h:l[k]?=N s):(WD l)[k]?=N [sv s]:=by rw[WD,r7,h];rfl
theorem az(l)(s):WD l++[(S_ s).map AV.pv]=WD (l++[s]):=by rw[WD,WD,Ã];rfl
theorem Md(l):WD l=(l.map S_).map (·.map .pv):=by rw[Õ];rfl
theorem fmC{α β:Type}{f g:α->List β}:∀ {l:List _},(∀x∈l,f x=g x)->l.flatMap f=l.flatMap g
 | [],_=>rfl
 |x::l,h=>by rw[List.flatMap_cons,List.flatMap_cons,h x List.mem_cons_self,fmC λy a=>h y (List.mem_cons_of_mem _ a)]
theorem aFN{x}(h:0<=x):aV x=a_ (decDigits x.toNat):=by rw[aV,kQ _ h];rfl
theorem QV(x)(H)(a:0<=x)(B:x<1000000000):RC 222 [iv x] (sv (aV x)) H:=by obtain ⟨u,rfl⟩:=Int.eq_ofNat_of_zero_le a;exact aBw u H X
def wO(o:l8)(e_:List B_)(k:Nat):List B_:=[eQ o.kind,o.id]++e_++(o.tags.take k).map jC
theorem xc{o}{e_}{k}{t}(h:o.tags[k]?=N t):wO o e_ (k+1)=wO o e_ k++[jC t]:=by rw[wO,É,h,Ã,<-Ä];rfl
theorem GR(a b):dC (a++b)=dC a+dC b:=by rw[dC,dC,dC,Ã,Ö]
theorem tj{o}(d:pB o=A):fM o=if 20000<T (ET o) then(a6,2)else(ET o,0):=by
 rw[fM,b6 d];by_cases h:0<C o.tags/\(kE o.tags).2≠0
 .have b:=(CM d).2.2.1;rw[b6 h];have a:=h.2;rw[kE,b6 b]at a |-
  split at a
  .next c =>
   rw[b6 c,b6 _];rw[ET,<-aS];rw[tD,j7];cases e:o.tags with
   |nil=>simp_all
   |cons t l =>
    rw[e]at c;have:=XO t l;have f:=congrArg List.length this;rw[aS]at f;rw[nZ,Ó,j7,j6];rw[j7,nZ]at f;omega
  exact absurd Z a
 simp_all
theorem xd(o)(e_):(a_ (bW [32] (bs (wO o e_ (C o.tags))))).data.toList=(eQ o.kind).data.toList++32::(ν (μ o.id)++e_.flatMap λs=>32::ν (μ s))++nZ o.tags:=by rw[cG,wO,Â,Ì,Ì,bs,Í,bW];simp only[Í,Ã,Ó,flatMap_append,flatMap_map,nil_append,Ä,Ì];congr 3;congr 1;refine fmC λt _=>?_;rw[N3]
theorem xe{o}{e_}(B:(eQ o.kind).data.toList++32::(ν (μ o.id)++e_.flatMap λs=>32::ν (μ s))=mN o):a_ (bW [32] (bs (wO o e_ (C o.tags))))=ET o:=vg (by
 rw[xd,B];rfl)
theorem Y0:∀(l) (k),C (bW [32] (bs (l.take k)))<=C (bW [32] (bs l))
 | [],k=>by simp
 |x::l,0=>k_ _
 |x::l,k+1=>by
  rw[List.take_succ_cons,zC,zC,j7,j7,HK,HK];have B:=oP l k;have D:C (l.take k)<=C l:=G_
  omega
theorem AJ(a b:B_):T (a++b)=T a+T b:=ByteArray.size_append
theorem DG(o:l8)(H:aF)(ho:pn o):RC 217 [av (bS o)] (.tup [sv (fM o).1,iv (fM o).2]) H:=by
 refine Pu ?_;have hmt:C (o.tags.map bZ)=C o.tags:=g_ _;have hmr:C (o.refs.map S_)=C o.refs:=g_ _;refine Bd func217 Z ntmps217<|U (kb 1)<|Y aH<|V aH<|S<|U (by exact aW Z cC sizeOf135 Z Z Z Z (by simp only[Zl,bZ,bS,S_,bL,gX];rfl) Z)<|Y (kc call261 (Mv o _ ho))<|V iJ ?_;refine Cn ?_ ?_<;>intro κ
 .have i_:pB o=η:=by have h:=κ;rwa [r9]at h
  have e:fM o=(a6,1):=by rw[fM,a8 F_]
  rw[e];exact U aH<|V aH<|aC<|Ru<|Qq
 have i_:pB o=A:=by have h:=κ;rwa [Bool.not_eq_false']at h
 have ⟨v,p,htg,hid,_⟩:=CM i_;have ⟨hx,hy,hn,hz⟩:=om i_;have D:=(BT (HG i_)).1;have hws:=dR D;have his:=dR hid;have hT:=tj i_;have o_:∀t∈o.tags,T t.key<=24/\T t.val<=200:=λt p=>by
  have ⟨p1,_,_⟩:=yL.1 htg;have:=p1 t p;exact⟨dR this.1,this.2.2⟩
 have ρ:∀k,dC ((o.tags.take k).map jC)<=60*427:=λk=>by
  have q:∀l:List m8,(∀t∈l,t∈o.tags)->dC (l.map jC)<=C l*427:=by
   intro l
   induction l with
   |nil=>intro _;exact k_ _
   |cons t l ih =>
    intro h;rw[Í,cN,j6,Nat.add_mul];have y:=ih λx hx=>h x (Ç _ hx);have e_:=o_ t (h t Ë);have h4:=YT e_.1 e_.2;omega
  have y:=q (o.tags.take k) λt p=>List.mem_of_mem_take p;have e_:C (o.tags.take k)<=60:=G_
  have h4:C (o.tags.take k)*427<=60*427:=Nat.mul_le_mul_right _ e_;omega
 refine aB<|S<|aN a7<|Cs (λ_ h=>fh eK h)<|Cs (λ_ h=>lh M_ h)<|Cs (λH1 c=>by exact bH Z Z call214 Z (GY o.kind _))<|Cs (λ_ h=>fh rR h)<|Cs (λ_ h=>lh N_ h) ?_;refine iQ (r:=⟨_,ζ,[_]⟩) (DStep.plain Z (λH1 c=>by exact eR (id:=901) Z aY Z Z Z Z F_ ((c _ Z).trans Z))) Z ?_;refine Cs (λ_ _=>aH)<|bF<|Kr<|S<|S ?_;refine gK.ent (E':=[(1,.ref 1 0 0 0),(4,.osl 901 0 0 2)]) (H':=[(901,⟨0,1,9,WD [eQ o.kind,o.id]⟩),(1,oBx o)]) L_<|Rd (bC eK)<|Y (bT M_)<|V cI<|Cn ?_ ?_<;>intro A_
 .have j:o.kind=1:=b9 A_;have six:T (aV o.x)<=7:=by rw[<-aS];show C (Lib.itoa o.x)<=7;rw[kQ _ hx.1];exact cY X E_
  have siy:T (aV o.y)<=7:=by rw[<-aS];show C (Lib.itoa o.y)<=7;rw[kQ _ hy.1];exact cY X E_
  have hMs:dC [aV o.x,aV o.y]=T (aV o.x)+(T (aV o.y)+0):=by rw[cN,cN];rfl
  have hMl:C ([aV o.x,aV o.y]:List B_)=2:=rfl;have Q:(eQ o.kind).data.toList++32::(ν (μ o.id)++([aV o.x,aV o.y]:List B_).flatMap λs=>32::ν (μ s))=mN o:=by
   rw[mN,b6 j];simp[aV]
  have b:fM o=if 20000<T (a_ (bW [32] (bs (wO o [aV o.x,aV o.y] (C o.tags))))) then(a6,2)else(a_ (bW [32] (bs (wO o [aV o.x,aV o.y] (C o.tags)))),0):=by rw[xe Q];exact hT
  refine aN a7<|Cs (λ_ _=>aA)<|Cs (λ_ h=>fh nD h)<|Cs (λ_ h=>fh nF h)<|Cs (λ_ h=>lh M_ h)<|Cs (λH1 c=>by exact bH Z Z call222 Z (QV o.x _ X X))<|Cs (λ_ h=>fh nD h)<|Cs (λ_ h=>fh nE h)<|Cs (λ_ h=>lh M_ h)<|Cs (λH1 c=>by exact bH Z Z call222 Z (QV o.y _ X X))<|Cs (λH1 c=>by exact aM [S_ (aV o.x),S_ (aV o.y)] Z aY Z Z Z Z Z (by intro r v;simp only[l9,q8,or_false]at v;rcases v with rfl|rfl<;>rfl)) ?_;refine iQ (r:=⟨_,ζ,[_]⟩) (DStep.plain Z (λH1 c=>by exact bU (ps:=[S_ (aV o.x),S_ (aV o.y)]) Z aY sX Z ((c _ Z).trans Z) Z Z Z Z Z (by intro r v;simp only[l9,q8,or_false]at v;rcases v with rfl|rfl<;>rfl) (m:=2) Z X Z (rfl:_=WD (wO o [aV o.x,aV o.y] 0)))) Z ?_;refine Cs (λ_ _=>aH)<|bF<|Kr<|S<|Sz aH<|aD ?_;have τ:dC ([eQ o.kind,o.id]++[aV o.x,aV o.y])<=70000:=by rw[GR];have:dC [eQ o.kind,o.id]=T (eQ o.kind)+(T o.id+0):=(by rw[cN,cN];rfl);omega
  have K:∀k,k<=C o.tags->C (wO o [aV o.x,aV o.y] k)<=64:=λk j=>by rw[wO,j7,j7,g_,n_];show 2+_+_<=_;omega
  have R:∀k,dC (wO o [aV o.x,aV o.y] k)<=100000:=λk=>by
   rw[wO,GR];have q:=ρ k;omega
  refine bA (σ:=Nat) (λk=>([(1,.ref 1 0 0 0),(4,.osl 901 (1+k) 0 (C (wO o [aV o.x,aV o.y] k))),(7,iv (k:Int))],[(901,⟨1+k,1,9,WD (wO o [aV o.x,aV o.y] k)⟩),(1,oBx o)])) (λk=>k<=C o.tags) (λk=>C o.tags - k) 0 (k_ _) ?_ ?_
  .exact L_
  rintro k j;have P:=K k j;refine S<|U aA<|Y (bC gL)<|Y (bT dP)<|Y (fP dW)<|V cH<|Cn ?_ ?_<;>intro δ
  .have hlt:k<C o.tags:=I_ δ
   have ⟨t,p⟩:=aQ hlt;have hit:=cA (f:=bZ) p;have J:=xc (e_:=[aV o.x,aV o.y]) p;have L:C (wO o [aV o.x,aV o.y] k++[jC t])=C (wO o [aV o.x,aV o.y] k)+1:=by rw[j7];rfl
   have ⟨hks,hvs⟩:=o_ t (m7 p);have i:=sF t.val;have h61:T (⟨#[61]⟩:B_)=1:=rfl;have hk1:T (t.key++(⟨#[61]⟩:B_))=T t.key+1:=AJ _ _;refine aB<|S<|aD<|aN a7<|Cs (λ_ _=>aA)<|Cs (λ_ h=>fh gL h)<|Cs (λ_ h=>lh dP h)<|Cs (λ_ _=>aA)<|Cs (λ_ _=>(jA lZ))<|Cs (λ_ _=>(F2 qO))<|Cs (λ_ _=>(fK N_))<|Cs (λH1 c=>by exact fL Z Z Z X Z)<|Cs (λ_ h=>fh gL h)<|Cs (λ_ h=>lh dP h)<|Cs (λ_ _=>aA)<|Cs (λ_ _=>(jA lZ))<|Cs (λ_ _=>(F2 rO))<|Cs (λ_ _=>(fK N_))<|Cs (λH1 c=>by exact bH Z Z call223 Z (NN t.val _ X))<|Cs (λH1 c=>by exact fL Z Z Z X Z)<|Cs (λH1 c=>by exact aM [S_ (jC t)] Z aY Z Z Z Z Z R_) ?_;refine iQ (r:=⟨_,ζ,[_]⟩) (DStep.plain Z (λH1 c=>by exact bU (ps:=[S_ (jC t)]) Z aY sX Z ((c _ Z).trans Z) Z Z Z (aw _) Z R_ (m:=1) Z X Z (az _ (jC t)))) Z ?_;refine Cs (λ_ _=>aH)<|bF<|Kr<|Rd aA<|Y iF<|Da ?_;refine⟨k+1,X,X,?_⟩;rw[J,L];exact L_
  have d:k=C o.tags:=J_ δ
  subst d;have ⟨W,hW⟩:∃W,W=wO o [aV o.x,aV o.y] (C o.tags):=X_;have u:=R (C o.tags);rw[<-hW]at P u b;rw[<-hW];have ⟨F,hF⟩:∃F,F=a_ (bW [32] (bs W)):=X_;rw[<-hF]at b;refine aP<|Sz aH<|S<|Sz aH<|aD<|bA (σ:=Nat) (λk=>([(4,.osl 901 (1+C o.tags) 0 (C W)),(8,sv (a_ (bW [32] (bs (W.take k))))),(9,iv (k:Int))],[(901,⟨1+C o.tags,1,9,WD W⟩)])) (λk=>k<=C W) (λk=>C W - k) 0 (k_ _) ?_ ?_
  .exact L_
  rintro k j;have hsz:T (a_ (bW [32] (bs (W.take k))))<=100064:=by
   rw[cB];have q:=gE (W.take k);have y:=oP W k;have e_:C (W.take k)<=C W:=by rw[n_];exact Nat.min_le_right _ _
   omega
  refine S<|U aA<|Y aA<|Y (by exact eB Z aE Z Z Z)<|V cH<|Cn ?_ ?_<;>intro z_
  .have hlt:k<C W:=I_ z_
   have ⟨w,D⟩:=aQ hlt;have g:=ay D;have J:=CF D;have hws:T w<=100000:=by
    have q:=yR D;have y:=oP W (k+1);omega
   have z:T (⟨#[32]⟩:B_)=1:=rfl;have y_:T (a_ (bW [32] (bs (W.take k)))++⟨#[32]⟩)=T (a_ (bW [32] (bs (W.take k))))+1:=AJ _ _;refine aB<|S<|aD<|S<|U aA<|V jB<|Cn ?_ ?_<;>intro γ
   .have i:0<k:=I_ γ
    rw[b6 i]at J;refine Rd aA<|Y kq<|V aH<|Rd aA<|Y aA<|Y aA<|Y (by exact dS Z aY Z Z Z Z Z X (by exact l_ _) hlt (r8 _))<|Y (by exact aX Z N_ Z Z Z g Z)<|Y kq<|V aH<|Rd aA<|Y iF<|Da ?_;refine⟨k+1,X,X,?_⟩;rw[J];exact(cJ.wk (Ea<|Eb<|Eb<|T_) (Hc (mK _ _)<|T_) T_)
   have i:¬ 0<k:=J_ γ
   rw[a8 i]at J;refine aB<|Rd aA<|Y aA<|Y aA<|Y (by exact dS Z aY Z Z Z Z Z X (by exact l_ _) hlt (r8 _))<|Y (by exact aX Z N_ Z Z Z g Z)<|Y kq<|V aH<|Rd aA<|Y iF<|Da ?_;refine⟨k+1,X,X,?_⟩;rw[J];exact(cJ.wk (Ea<|Eb<|Eb<|T_) (Hc (mK _ _)<|T_) T_)
  have d:k=C W:=J_ z_
  subst d;rw[Â,<-hF];refine aP<|S<|U aA<|Y (gQ U_)<|V jB<|Cn ?_ ?_<;>intro β
  .have a:20000<T F:=I_ β
   rw[b,b6 a];exact U aH<|V aH<|aC<|Ru<|Qq
  have a:¬ 20000<T F:=J_ β
  rw[b,a8 a];exact aB<|U aA<|Y aH<|V aH<|aC<|Ru<|Qq
 have j:o.kind≠1:=b_ A_;have hsz:dC o.refs<=24*C o.refs:=pV (λs hs=>dR (uX i_ s hs));have hjl:=gE o.refs;have hSz:∀k,T (a_ (bW [32] (bs (o.refs.take k))))<=50000:=λk=>by
  rw[cB];have:=Y0 o.refs k;omega
 refine Sz aH<|S<|Sz aH<|aD<|bA (σ:=Nat) (λk=>([(1,.ref 1 0 0 0),(4,.osl 901 0 0 2),(5,sv (a_ (bW [32] (bs (o.refs.take k))))),(6,iv (k:Int))],[(901,⟨0,1,9,WD [eQ o.kind,o.id]⟩),(1,oBx o)])) (λk=>k<=C o.refs) (λk=>C o.refs - k) 0 (k_ _) ?_ ?_
 .exact L_
 rintro k hkr;have hsk:=hSz k;refine S<|S<|aT (t:=42) (n:=11) (A_:=θ ((k:Int)<(C (o.refs.map S_):Int))&&θ ((T (a_ (bW [32] (bs (o.refs.take k)))):Int)<=20000)) ?_ ?_
 .all_goals refine Y aA<|Y (bC eJ)<|Y (bT aG)<|Y (fP aE)<|Y cH<|Dm ?_<;>(refine Sp 38 (λh38=>?_) λh38=>?_)<;>(first|exact s_|refine M<|M<|M ?_|refine O aA<|O (gQ U_)<|O HV ?_)<;>refine V cE ?_<;>exact Gj (h:=by(rw[h38];rfl))
 refine Cn ?_ ?_<;>intro hc7
 .have hlt:k<C o.refs:=by have h:=hc7;rw[l7,l6]at h;omega
  have ⟨w,J3⟩:=aQ hlt;have g:=cA (f:=S_) J3;have J:=CF J3;have hwsz:=dR (uX i_ w (m7 J3));have z:T (⟨#[32]⟩:B_)=1:=rfl;have y_:T (a_ (bW [32] (bs (o.refs.take k)))++⟨#[32]⟩)=T (a_ (bW [32] (bs (o.refs.take k))))+1:=AJ _ _;refine aB<|S<|aD<|S<|U aA<|V jB<|Cn ?_ ?_<;>intro hc8
  .have i:0<k:=I_ hc8
   rw[b6 i]at J;refine Rd aA<|Y kq<|V aH<|Rd aA<|Y (bC eJ)<|Y (bT aG)<|Y aA<|Y (jA aY)<|Y (fK N_)<|Y kq<|V aH<|Rd aA<|Y iF<|Da ?_;refine⟨k+1,X,X,?_⟩;rw[J];exact L_
  have i:¬ 0<k:=J_ hc8
  rw[a8 i]at J;refine aB<|Rd aA<|Y (bC eJ)<|Y (bT aG)<|Y aA<|Y (jA aY)<|Y (fK N_)<|Y kq<|V aH<|Rd aA<|Y iF<|Da ?_;refine⟨k+1,X,X,?_⟩;rw[J];exact L_
 have I:k=C o.refs\/20000<T (a_ (bW [32] (bs (o.refs.take k)))):=by have h:=hc7;simp only[Bool.and_eq_false_iff,q7]at h;omega
 have ⟨f_,hS⟩:∃f_,f_=a_ (bW [32] (bs (o.refs.take k))):=X_;have ⟨B,hB⟩:∃B,B=(⟨#[40]⟩:B_)++f_++⟨#[41]⟩:=X_;rw[<-hS]at hsk I;rw[<-hS];have h40:T (⟨#[40]⟩:B_)=1:=rfl;have h41:T (⟨#[41]⟩:B_)=1:=rfl;have hA:T ((⟨#[40]⟩:B_)++f_)=1+T f_:=AJ _ _;have hBs:T B=1+T f_+1:=by rw[hB,AJ,hA];rfl
 have hMs:dC [B]=T B+0:=by rw[cN];rfl
 have hMl:C ([B]:List B_)=1:=rfl;have b:fM o=if 20000<T (a_ (bW [32] (bs (wO o [B] (C o.tags))))) then(a6,2)else(a_ (bW [32] (bs (wO o [B] (C o.tags)))),0):=by
  by_cases he:k=C o.refs
  .have Q:(eQ o.kind).data.toList++32::(ν (μ o.id)++([B]:List B_).flatMap λs=>32::ν (μ s))=mN o:=by
    rw[mN,a8 j,hB,hS,he,Â];simp[a_]
   rw[xe Q];exact hT
  have a:20000<T f_:=by rcases I with h|h;exact absurd h he;exact h
  have q:=congrArg List.length (xd o [B]);rw[aS]at q;have y:T (ET o)=C (tD o):=by rw[<-aS];rfl
  have e_:=Y0 o.refs k;have h4:T f_=C (bW [32] (bs (o.refs.take k))):=by rw[hS,cB]
  have h5:C (tD o)>=C (bW [32] (bs o.refs)):=by
   rw[tD,mN,a8 j];simp only[j7,j6];omega
  have h6:([B]:List B_).flatMap (λs=>32::ν (μ s))=32::ν (μ B):=H_
  rw[h6]at q;simp only[j7,j6,aS]at q;rw[hT,b6 X,b6 X]
 refine aP<|Rd aA<|Y aA<|Y kq<|Y (by exact fL Z Z Z X hB.symm)<|Y (by exact aM [S_ B] Z aY Z Z Z Z Z R_)<|Y (by exact bU (ps:=[S_ B]) Z aY sX Z Z Z Z Z Z Z R_ (m:=1) Z X Z (rfl:_=WD (wO o [B] 0)))<|V aH<|S<|Sz aH<|aD ?_;have τ:dC ([eQ o.kind,o.id]++[B])<=70000:=by rw[GR];have:dC [eQ o.kind,o.id]=(eQ o.kind).size+(o.id.size+0):=(by rw[cN,cN];rfl);omega
 have K:∀k,k<=C o.tags->C (wO o [B] k)<=64:=λk j=>by rw[wO,j7,j7,g_,n_];show 2+_+_<=_;omega
 have R:∀k,dC (wO o [B] k)<=100000:=λk=>by
  rw[wO,GR];have q:=ρ k;omega
 refine bA (σ:=Nat) (λk=>([(1,.ref 1 0 0 0),(4,.osl 901 (1+k) 0 (C (wO o [B] k))),(7,iv (k:Int))],[(901,⟨1+k,1,9,WD (wO o [B] k)⟩),(1,oBx o)])) (λk=>k<=C o.tags) (λk=>C o.tags - k) 0 (k_ _) ?_ ?_
 .exact L_
 rintro k j;have P:=K k j;refine S<|U aA<|Y (bC gL)<|Y (bT dP)<|Y (fP dW)<|V cH<|Cn ?_ ?_<;>intro v_
 .have hlt:k<C o.tags:=I_ v_
  have ⟨t,p⟩:=aQ hlt;have hit:=cA (f:=bZ) p;have J:=xc (e_:=[B]) p;have L:C (wO o [B] k++[jC t])=C (wO o [B] k)+1:=by rw[j7];rfl
  have ⟨hks,hvs⟩:=o_ t (m7 p);have i:=sF t.val;have h61:T (⟨#[61]⟩:B_)=1:=rfl;have hk1:T (t.key++(⟨#[61]⟩:B_))=T t.key+1:=AJ _ _;refine aB<|S<|aD<|aN a7<|Cs (λ_ _=>aA)<|Cs (λ_ h=>fh gL h)<|Cs (λ_ h=>lh dP h)<|Cs (λ_ _=>aA)<|Cs (λ_ _=>(jA lZ))<|Cs (λ_ _=>(F2 qO))<|Cs (λ_ _=>(fK N_))<|Cs (λH1 c=>by exact fL Z Z Z X Z)<|Cs (λ_ h=>fh gL h)<|Cs (λ_ h=>lh dP h)<|Cs (λ_ _=>aA)<|Cs (λ_ _=>(jA lZ))<|Cs (λ_ _=>(F2 rO))<|Cs (λ_ _=>(fK N_))<|Cs (λH1 c=>by exact bH Z Z call223 Z (NN t.val _ X))<|Cs (λH1 c=>by exact fL Z Z Z X Z)<|Cs (λH1 c=>by exact aM [S_ (jC t)] Z aY Z Z Z Z Z R_) ?_;refine iQ (r:=⟨_,ζ,[_]⟩) (DStep.plain Z (λH1 c=>by exact bU (ps:=[S_ (jC t)]) Z aY sX Z ((c _ Z).trans Z) Z Z Z (aw _) Z R_ (m:=1) Z X Z (az _ (jC t)))) Z ?_;refine Cs (λ_ _=>aH)<|bF<|Kr<|Rd aA<|Y iF<|Da ?_;refine⟨k+1,X,X,?_⟩;rw[J,L];exact L_
 have d:k=C o.tags:=J_ v_
 subst d;have ⟨W,hW⟩:∃W,W=wO o [B] (C o.tags):=X_;have u:=R (C o.tags);rw[<-hW]at P u b;rw[<-hW];have ⟨F,hF⟩:∃F,F=a_ (bW [32] (bs W)):=X_;rw[<-hF]at b;refine aP<|Sz aH<|S<|Sz aH<|aD<|bA (σ:=Nat) (λk=>([(4,.osl 901 (1+C o.tags) 0 (C W)),(8,sv (a_ (bW [32] (bs (W.take k))))),(9,iv (k:Int))],[(901,⟨1+C o.tags,1,9,WD W⟩)])) (λk=>k<=C W) (λk=>C W - k) 0 (k_ _) ?_ ?_
 .exact L_
 rintro k j;have hsz:T (a_ (bW [32] (bs (W.take k))))<=100064:=by
  rw[cB];have q:=gE (W.take k);have y:=oP W k;have e_:C (W.take k)<=C W:=by rw[n_];exact Nat.min_le_right _ _
  omega
 refine S<|U aA<|Y aA<|Y (by exact eB Z aE Z Z Z)<|V cH<|Cn ?_ ?_<;>intro c_
 .have hlt:k<C W:=I_ c_
  have ⟨w,D⟩:=aQ hlt;have g:=ay D;have J:=CF D;have hws:T w<=100000:=by
   have q:=yR D;have y:=oP W (k+1);omega
  have z:T (⟨#[32]⟩:B_)=1:=rfl;have y_:T (a_ (bW [32] (bs (W.take k)))++⟨#[32]⟩)=T (a_ (bW [32] (bs (W.take k))))+1:=AJ _ _;refine aB<|S<|aD<|S<|U aA<|V jB<|Cn ?_ ?_<;>intro E
  .have i:0<k:=I_ E
   rw[b6 i]at J;refine Rd aA<|Y kq<|V aH<|Rd aA<|Y aA<|Y aA<|Y (by exact dS Z aY Z Z Z Z Z X (by exact l_ _) hlt (r8 _))<|Y (by exact aX Z N_ Z Z Z g Z)<|Y kq<|V aH<|Rd aA<|Y iF<|Da ?_;refine⟨k+1,X,X,?_⟩;rw[J];exact(cJ.wk (Ea<|Eb<|Eb<|T_) (Hc (mK _ _)<|T_) T_)
  have i:¬ 0<k:=J_ E
  rw[a8 i]at J;refine aB<|Rd aA<|Y aA<|Y aA<|Y (by exact dS Z aY Z Z Z Z Z X (by exact l_ _) hlt (r8 _))<|Y (by exact aX Z N_ Z Z Z g Z)<|Y kq<|V aH<|Rd aA<|Y iF<|Da ?_;refine⟨k+1,X,X,?_⟩;rw[J];exact(cJ.wk (Ea<|Eb<|Eb<|T_) (Hc (mK _ _)<|T_) T_)
 have d:k=C W:=J_ c_
 subst d;rw[Â,<-hF];refine aP<|S<|U aA<|Y (gQ U_)<|V jB<|Cn ?_ ?_<;>intro G
 .have a:20000<T F:=I_ G
  rw[b,b6 a];exact U aH<|V aH<|aC<|Ru<|Qq
 have a:¬ 20000<T F:=J_ G
 rw[b,a8 a];exact aB<|U aA<|Y aH<|V aH<|aC<|Ru<|Qq
theorem Jq(a:List B_)(H:aF)(id g:Nat)(i:H.get id=N ⟨g,1,9,WD a⟩)(I:dC a+C a<2^40):RC 221 [.osl id g 0 (C a)] (sv (a_ (bW [32] (bs a)))) H:=by
 refine Bd func221 Z ntmps221<|Sz aH<|Sz aH<|S<|Sz aH<|aD<|bA (σ:=Nat) (λk=>([(0,.osl id g 0 (C a)),(3,sv (a_ (bW [32] (bs (a.take k))))),(4,iv (k:Int))],H)) (λk=>k<=C a) (λk=>C a - k) 0 (k_ _) ?_ ?_
 .exact E0
 rintro k J;have E:T (a_ (bW [32] (bs (a.take k))))<=dC a+C a:=by
  rw[cB];have o:=gE (a.take k);have p:=oP a k;have G:C (a.take k)<=C a:=F_
  omega
 refine S<|U aA<|Y aA<|Y (eB Z aE Z i Z)<|V cH<|Cn ?_ ?_<;>intro h
 .have e:k<C a:=I_ h
  have ⟨w,m⟩:=aQ e;have j:=ay m;have d:=CF m;have F:T w<=dC a:=by
   have o:=yR m;have p:=oP a (k+1);omega
  have B:T (⟨#[32]⟩:B_)=1:=rfl;have D:T (a_ (bW [32] (bs (a.take k)))++⟨#[32]⟩)=T (a_ (bW [32] (bs (a.take k))))+1:=AJ _ _;refine aB<|S<|aD<|S<|U aA<|V jB<|Cn ?_ ?_<;>intro f
  .have n:0<k:=I_ f
   rw[b6 n]at d;refine Rd aA<|Y kq<|V aH<|Rd aA<|Y aA<|Y aA<|Y (dS Z aY Z i Z Z Z X y7 e (r8 _))<|Y (aX Z N_ Z i Z j Z)<|Y kq<|V aH<|Rd aA<|Y iF<|Da ?_;refine⟨k+1,X,X,?_⟩;rw[d];exact E0
  have n:¬ 0<k:=J_ f
  rw[a8 n]at d;refine aB<|Rd aA<|Y aA<|Y aA<|Y (dS Z aY Z i Z Z Z X y7 e (r8 _))<|Y (aX Z N_ Z i Z j Z)<|Y kq<|V aH<|Rd aA<|Y iF<|Da ?_;refine⟨k+1,X,X,?_⟩;rw[d];exact E0
 have l:k=C a:=J_ h
 subst l;rw[Â];refine aP<|U aA<|V aH<|aC<|cR (H':=H) (.inr Z) Z (aI Z) Fin.refl ?_;exact Qq
theorem XH{e}{a}(b:e.op≠1)(h:bs a=gW e):a_ (bW [32] (bs a))++⟨#[10]⟩=a_ (fX e++[10]):=zA b h
theorem x7{p:Prop}(h:p:=by simp only[cN,j6,Å];omega):p:=h
theorem Xg(e:b8)(H:aF)(i_:WY e)(I:gO e=A):RC 166 [av (bL e)] (.tup [sv (a_ (fX e++[10])),bv (θ (gC e=0))]) H:=by
 refine Pu ?_;have ⟨⟨o1,o2⟩,f,o4⟩:=vI.1 I;rw[xW]at f;have g:=JO I;have y:dC []=0:=rfl;refine Bd func166 Z ntmps166<|U (kb 1)<|Y aH<|V aH<|S<|U (bC iZ)<|V (bT M_)<|aD<|U cI<|Da<|Cn ?_ ?_<;>intro u
 .have p:e.op=1:=b9 u;have b:=NY (o:=e.obj);have n:T (⟨#[112,117,116]⟩:B_)=3:=rfl;have E:T (⟨#[10]⟩:B_)=1:=rfl;have J:T (a_ (bW [32] (bs [⟨#[112,117,116]⟩,(fM e.obj).1])))<=70000:=by
   rw[cB];have:=gE [⟨#[112,117,116]⟩,(fM e.obj).1];simp only[cN,j6,Å]at this;omega
  have c:a_ (bW [32] (bs [⟨#[112,117,116]⟩,(fM e.obj).1]))++⟨#[10]⟩=a_ (fX e++[10]):=vg (by
   rw[cG,fX,b6 p];simp[a_,bs,bW,wPut])
  refine U (bC vX)<|Y (by exact aW Z cC sizeOf135 Z Z Z Z (by simp only[Zl,bZ,bS,S_,bL,gX];rfl) Z)<|Y (kc call217 (DG e.obj _ i_.2.2))<|Y aA<|Y dK<|Y dK<|Y aH<|V aH<|U aA<|Y (aM [S_ ⟨#[112,117,116]⟩,S_ (fM e.obj).1] Z aY Z Z Z Z Z (jK [⟨#[112,117,116]⟩,(fM e.obj).1]))<|Y (kc call221 (GK [⟨#[112,117,116]⟩,(fM e.obj).1] _ x7))<|Y (fL Z Z Z X c)<|Y aA<|Y cI<|Y aH<|V aH<|aC<|Ru ?_;rw[show gC e=(fM e.obj).2 from b6 p];exact Qq
 have p:e.op≠1:=b_ u;rw[a8 p,l7]at f;have ⟨h,D⟩:=f;have j:=dR h;refine U cI<|Da<|Cn ?_ ?_<;>intro R
 .have m:e.op=2:=b9 R;rw[b6 m,tf,l7,l6,l6]at D;have z:0<=e.x/\e.x<1048576:=X
  have K:0<=e.y/\e.y<1048576:=X
  have six:T (aV e.x)<=7:=by rw[<-aS];show C (Lib.itoa e.x)<=7;rw[kQ _ z.1];exact cY X E_
  have τ:T (aV e.y)<=7:=by rw[<-aS];show C (Lib.itoa e.y)<=7;rw[kQ _ K.1];exact cY X E_
  have k:T (⟨#[109,111,118,101]⟩:B_)=4:=rfl;have l:bs [⟨#[109,111,118,101]⟩,e.id,aV e.x,aV e.y]=gW e:=by
   rw[gW]
   (rw[b6 m];rfl)
  have B:e.op≠1:=X
  have J:T (a_ (bW [32] (bs [⟨#[109,111,118,101]⟩,e.id,aV e.x,aV e.y])))<=70000:=by
   rw[cB];have:=gE [⟨#[109,111,118,101]⟩,e.id,aV e.x,aV e.y];simp only[cN,j6,Å]at this;omega
  have E:T (⟨#[10]⟩:B_)=1:=rfl;refine S<|aN a7<|Cq (bC kG)<|Cq (bT N_)<|Cq (bC jQ)<|Cq (bC nF)<|Cq (bT M_)<|Cq (kc call222 (QV e.x _ X X))<|Cq (bC jQ)<|Cq (bC nE)<|Cq (bT M_)<|Cq (kc call222 (QV e.y _ X X))<|Cq (aM (([⟨#[109,111,118,101]⟩,e.id,aV e.x,aV e.y]:List B_).map S_) Z aY Z Z Z Z Z (jK _))<|Cq (kc call221 (GK [⟨#[109,111,118,101]⟩,e.id,aV e.x,aV e.y] _ x7))<|Cq kq<|Cq aH<|Cq aH<|bF<|Kr<|aC<|Ru ?_;rw[XH B l,show gC e=0 from a8 B];exact Qq
 have m:e.op≠2:=b_ R;rw[a8 m]at D;refine U cI<|Da<|Cn ?_ ?_<;>intro W
 .have n:e.op=3:=b9 W;rw[b6 n,l7,l6]at D;have r:=dR D.1;have hq:=sF e.val;have k:T (⟨#[116,97,103]⟩:B_)=3:=rfl;have l:bs [⟨#[116,97,103]⟩,e.id,e.key,⟨(cZ (ν (μ e.val))).toArray⟩]=gW e:=by
   rw[gW]
   (rw[a8 m,b6 n];rfl)
  have B:e.op≠1:=X
  have J:T (a_ (bW [32] (bs [⟨#[116,97,103]⟩,e.id,e.key,⟨(cZ (ν (μ e.val))).toArray⟩])))<=70000:=by
   rw[cB];have:=gE [⟨#[116,97,103]⟩,e.id,e.key,⟨(cZ (ν (μ e.val))).toArray⟩];simp only[cN,j6,Å]at this;omega
  have E:T (⟨#[10]⟩:B_)=1:=rfl;refine S<|aN a7<|Cq (bC kG)<|Cq (bT N_)<|Cq (bC oH)<|Cq (bT N_)<|Cq (bC pJ)<|Cq (bT N_)<|Cq (kc call223 (NN e.val _ X))<|Cq (aM (([⟨#[116,97,103]⟩,e.id,e.key,⟨(cZ (ν (μ e.val))).toArray⟩]:List B_).map S_) Z aY Z Z Z Z Z (jK _))<|Cq (kc call221 (GK [⟨#[116,97,103]⟩,e.id,e.key,⟨(cZ (ν (μ e.val))).toArray⟩] _ x7))<|Cq kq<|Cq aH<|Cq aH<|bF<|Kr<|aC<|Ru ?_;rw[XH B l,show gC e=0 from a8 B];exact Qq
 have n:e.op≠3:=b_ W;rw[a8 n]at D;refine U cI<|Da<|Cn ?_ ?_<;>intro q
 .have o:e.op=4:=b9 q;rw[b6 o,l7,l7,l6,l6,Ô]at D;have ⟨⟨r1,r2⟩,P⟩:=D;have x:dC e.refs<=24*C e.refs:=pV (λs i=>dR (P s i));have k:T (⟨#[114,101,102,115]⟩:B_)=4:=rfl;have F:∀H,H.get 901=N ⟨1,1,9,WD (⟨#[114,101,102,115]⟩::e.id::e.refs)⟩->RC 221 [.osl 901 1 0 (C (⟨#[114,101,102,115]⟩::e.id::e.refs))] (sv (a_ (bW [32] (bs (⟨#[114,101,102,115]⟩::e.id::e.refs))))) H:=λH L=>Jq _ H 901 1 L (by simp only[cN,j6];omega);have l:bs (⟨#[114,101,102,115]⟩::e.id::e.refs)=gW e:=by rw[gW,a8 m,a8 n,b6 o];rfl
  have J:(a_ (bW [32] (bs (⟨#[114,101,102,115]⟩::e.id::e.refs)))).size<=70000:=by
   rw[cB];have:=gE (⟨#[114,101,102,115]⟩::e.id::e.refs);simp only[cN,j6]at this;omega
  have E:T (⟨#[10]⟩:B_)=1:=rfl;have G:C (e.refs.map S_)=C e.refs:=g_ _;have d:WD [⟨#[114,101,102,115]⟩,e.id]++(e.refs.map S_).map (·.map .pv)=WD (⟨#[114,101,102,115]⟩::e.id::e.refs):=by rw[<-Md];rfl
  refine U (bC kG)<|Y (bT N_)<|Y (eR (id:=901) Z aY Z Z Z Z F_ Z)<|Y (bC iW)<|Y (bT aG)<|Y (bU (ps:=e.refs.map S_) Z aY sX Z Z Z Z Z Z Z (jK e.refs) (m:=C e.refs) G X (Nat.add_comm 2 _:2+C e.refs=C (⟨#[114,101,102,115]⟩::e.id::e.refs)) d)<|Y (kc call221 (F _ Z))<|Y kq<|Y aH<|V aH<|aC<|Ru ?_;rw[XH p l,show gC e=0 from a8 p];exact Qq
 have o:e.op≠4:=b_ q;rw[a8 o]at D;refine U cI<|Da<|Cn ?_ ?_<;>intro v
 .have t:e.op=5:=b9 v;have k:T (⟨#[100,114,111,112]⟩:B_)=4:=rfl;have l:bs [⟨#[100,114,111,112]⟩,e.id]=gW e:=by
   rw[gW]
   (rw[a8 m,a8 n,a8 o,b6 t];rfl)
  have B:e.op≠1:=X
  have J:T (a_ (bW [32] (bs [⟨#[100,114,111,112]⟩,e.id])))<=70000:=by
   rw[cB];have:=gE [⟨#[100,114,111,112]⟩,e.id];simp only[cN,j6,Å]at this;omega
  have E:T (⟨#[10]⟩:B_)=1:=rfl;refine U (bC kG)<|Y (bT N_)<|Y (aM (([⟨#[100,114,111,112]⟩,e.id]:List B_).map S_) Z aY Z Z Z Z Z (jK _))<|Y (kc call221 (GK [⟨#[100,114,111,112]⟩,e.id] _ x7))<|Y kq<|Y aH<|V aH<|aC<|Ru ?_;rw[XH B l,show gC e=0 from a8 B];exact Qq
 have t:e.op≠5:=b_ v;rw[a8 t]at D;refine U cI<|Da<|Cn ?_ ?_<;>intro a
 .have Q:e.op=6:=b9 a;rw[b6 Q,l7]at D;have w:=dR D.1;have b:=dR D.2;have k:T (⟨#[115,112,108,105,116]⟩:B_)=5:=rfl;have l:bs [⟨#[115,112,108,105,116]⟩,e.id,e.node,e.other]=gW e:=by
   rw[gW]
   (rw[a8 m,a8 n,a8 o,a8 t,b6 Q];rfl)
  have B:e.op≠1:=X
  have J:T (a_ (bW [32] (bs [⟨#[115,112,108,105,116]⟩,e.id,e.node,e.other])))<=70000:=by
   rw[cB];have:=gE [⟨#[115,112,108,105,116]⟩,e.id,e.node,e.other];simp only[cN,j6,Å]at this;omega
  have E:T (⟨#[10]⟩:B_)=1:=rfl;refine U (bC kG)<|Y (bT N_)<|Y (bC rQ)<|Y (bT N_)<|Y (bC kZ)<|Y (bT N_)<|Y (aM (([⟨#[115,112,108,105,116]⟩,e.id,e.node,e.other]:List B_).map S_) Z aY Z Z Z Z Z (jK _))<|Y (kc call221 (GK [⟨#[115,112,108,105,116]⟩,e.id,e.node,e.other] _ x7))<|Y kq<|Y aH<|V aH<|aC<|Ru ?_;rw[XH B l,show gC e=0 from a8 B];exact Qq
 have Q:e.op≠6:=b_ a;rw[a8 Q]at D;have b:=dR D;have k:T (⟨#[106,111,105,110]⟩:B_)=4:=rfl;have l:bs [⟨#[106,111,105,110]⟩,e.id,e.other]=gW e:=by
  rw[gW]
  (rw[a8 m,a8 n,a8 o,a8 t,a8 Q];rfl)
 have B:e.op≠1:=X
 have J:T (a_ (bW [32] (bs [⟨#[106,111,105,110]⟩,e.id,e.other])))<=70000:=by
  rw[cB];have:=gE [⟨#[106,111,105,110]⟩,e.id,e.other];simp only[cN,j6,Å]at this;omega
 have E:T (⟨#[10]⟩:B_)=1:=rfl;refine aB<|U (bC kG)<|Y (bT N_)<|Y (bC kZ)<|Y (bT N_)<|Y (aM (([⟨#[106,111,105,110]⟩,e.id,e.other]:List B_).map S_) Z aY Z Z Z Z Z (jK _))<|Y (kc call221 (GK [⟨#[106,111,105,110]⟩,e.id,e.other] _ x7))<|Y kq<|Y aH<|V aH<|aC<|Ru ?_;rw[XH B l,show gC e=0 from a8 B];exact Qq
end Go.Proofs.C
