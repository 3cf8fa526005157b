/-
  Parts of the proof. Conditions: each theorem's own.
-/
import Derived.Test.YtopnleflllkbmaaGreatDoorKX4sM4
set_option linter.unusedVariables false
set_option linter.unusedSimpArgs false
set_option maxRecDepth 100000
set_option maxHeartbeats 8000000
open List Nat
open List renaming length->C
open Option renaming some->A,none->ζ
open Bool renaming true->N,false->η
open ByteArray renaming size->T,data->μ
open Array renaming toList->ν
open Decidable renaming decide->θ
open Go.IntKind renaming i64->ξ
open Go.Proofs.Tryz renaming prog->φ
open Go.Proofs.YtopnleflllkbmaaGreatDoor
namespace Go.Proofs
open Tryz
theorem gF:type_of% call113:=call113
theorem wM:type_of% call138:=call138
theorem sE:type_of% call146:=call146
theorem nW:type_of% call98:=call98
theorem qB:type_of% isAgg174:=isAgg174
theorem pK:type_of% isAgg46:=isAgg46
theorem cQ:type_of% isAgg53:=isAgg53
theorem bL:type_of% sizeOf53:=sizeOf53
theorem zO:type_of% underlying124:=underlying124
theorem oJ:type_of% underlying163:=underlying163
end Go.Proofs
namespace Go.Proofs.C
open Go.Proofs.Tryz
open Go.Abs
theorem aBU(g)(l)(u):aW Tryz.prog 208 [.ref 2001 0 0 0] (zH g l u) (λr H'=>r=iv (l.length)/\H'=zH g l u):=by refine Bd func208 Z ntmps208<|Sz aJ<|O aA<|Y sW<|Y (bD iQ)<|Y (bU eM)<|Y (by exact dQ Z dM Z Z Z)<|V aJ<|aC ?_;refine cN (.inr Z) Z (aI Z) Fin.refl ?_;exact Qq
abbrev Oy(l:List UInt8)(g:Nat)(u:Bool):Ob:=ES (.osl 2002 g 0 (C l)) u
abbrev Ox(l:List UInt8)(g:Nat):Ob:=⟨g,1,5,fX l⟩
theorem aDh{g c}{l b}{u u'}{id}(h:(aF.get (zH g l u) id).isSome=N):(aF.get (zH c b u') id).isSome=N:=xh h
theorem aDg{g}{l}{u u':Bool}{id}(h:(aF.get (Dv g l u) id).isSome=N):(aF.get (zH g l u) id).isSome=N:=by
 simp[Dv,zH,aF.get]at h |-
 grind
theorem aC1{H}{g}{l}{u}(s)(b:H.get 2001=A (Oy l g u))(a:H.get 2002=A (Ox l g))(c:C l+T s<70368744177664):aW φ 132 [.ref 2001 0 0 0,sv s] H (λr H'=>r=.tup [iv (T s),.pv NK]/\H'=zH (g+1) (l++ν (μ s)) N++H) :=aW.frame (jO g l u s c) (Sub.of2 b a) (dI.ofL ⟨(gR Z Z),(eW _ _),T_⟩) m3 (λid h=>.inl (aDh h))
theorem aBT{H}{g}{l}{u}(a:H.get 2001=A (Oy l g u))(b:H.get 2002=A (Ox l g)):RC 208 [.ref 2001 0 0 0] (iv (C l)) H :=aW.frameS (aBU g l u) (Sub.of2 a b) (dI.ofL ⟨(gR Z Z),(eW _ _),T_⟩) m3
theorem aAO{H}{g}{l}{u}(b:H.get 2001=A (Oy l g u))(a:H.get 2002=A (Ox l g))(c:C l<70368744177664):aW φ 133 [.ref 2001 0 0 0] H (λr H'=>r=sv ⟨l.toArray⟩/\H'=Dv g l u++H) :=aW.frame (RU g l u c) (Sub.of2 b a) (dI.ofL ⟨(gR Z Z),(eW _ _),T_⟩) m3 (λid h=>.inl (aDg (u':=u) h))
def uK:Nat->Bool
 |0=>η
 |_+1=>N
def qM(l:List b9)(k:Nat):List UInt8:=(l.take k).flatMap λe=>fV e++[10]
theorem Y5{l}{k}{e}(h:l[k]?=A e):qM l (k+1)=qM l k++(fV e++[10]):=by rw[qM,take_add_one,h];simp[qM]
theorem y5{p:Prop}(h:p:=by simp only[cM,j6,length_nil,show dA []=0 from rfl];omega):p:=h
theorem X1{e:b9}(r:gN e=N):C (fV e)<=100000:=by
 have ⟨⟨J,K⟩,o,L⟩:=uY.1 r;rw[xL]at o;have B:=JG r;by_cases q:e.op=1
 .rw[fV,b6 q,j8,j6,aU];have:=NI (o:=e.obj);show 3+_<=_;omega
 rw[a8 q,l6]at o;have ⟨t,c⟩:=o;have D:=dR t;have d:∀k:List B_,bs k=gU e->C k+dA k<=100000->C (fV e)<=100000:=λk h g=>by
  rw[fV,a8 q,<-h];exact Nat.le_trans (gD k) g
 by_cases g:e.op=2
 .rw[b6 g,qh,l6,j0,j0]at c;have six:T (aV e.x)<=7:=by rw[<-aU];show C (Lib.itoa e.x)<=7;rw[kN _ X];exact cU X E_
  have H:T (aV e.y)<=7:=by rw[<-aU];show C (Lib.itoa e.y)<=7;rw[kN _ X];exact cU X E_
  have f:T (⟨#[109,111,118,101]⟩:B_)=4:=rfl;exact d [⟨#[109,111,118,101]⟩,e.id,aV e.x,aV e.y] (by rw[gU,b6 g];rfl) y5
 rw[a8 g]at c;by_cases i:e.op=3
 .rw[b6 i,l6]at c;have E:=dR c.1;have I:=rY e.val;have f:T (⟨#[116,97,103]⟩:B_)=3:=rfl;exact d [⟨#[116,97,103]⟩,e.id,e.key,⟨(cX (ν (μ e.val))).toArray⟩] (by rw[gU,a8 g,b6 i];rfl) y5
 rw[a8 i]at c;by_cases j:e.op=4
 .rw[b6 j,l6,l6,j0,j0,all_eq_true]at c;have ⟨⟨r1,r2⟩,v⟩:=c;have G:dA e.refs<=24*C e.refs:=pR (λs u=>dR (v s u));have f:T (⟨#[114,101,102,115]⟩:B_)=4:=rfl;exact d (⟨#[114,101,102,115]⟩::e.id::e.refs) (by rw[gU,a8 g,a8 i,b6 j];rfl) (by simp only[cM,j6];omega)
 rw[a8 j]at c;by_cases m:e.op=5
 .have f:T (⟨#[100,114,111,112]⟩:B_)=4:=rfl;exact d [⟨#[100,114,111,112]⟩,e.id] (by rw[gU,a8 g,a8 i,a8 j,b6 m];rfl) y5
 rw[a8 m]at c;by_cases l:e.op=6
 .rw[b6 l,l6]at c;have F:=dR c.1;have n:=dR c.2;have f:T (⟨#[115,112,108,105,116]⟩:B_)=5:=rfl;exact d [⟨#[115,112,108,105,116]⟩,e.id,e.node,e.other] (by rw[gU,a8 g,a8 i,a8 j,a8 m,b6 l];rfl) y5
 rw[a8 l]at c;have n:=dR c;have f:T (⟨#[106,111,105,110]⟩:B_)=4:=rfl;exact d [⟨#[106,111,105,110]⟩,e.id,e.other] (by rw[gU,a8 g,a8 i,a8 j,a8 m,a8 l];rfl) y5
theorem ve(l:List b9)(H:aF)(K:C l<2^62)(y:∀e∈l,VY e):RC 145 [.pv (kR l)] (.tup [sv (eH l).1,iv (eH l).2]) H:=by
 refine Pu ?_;have G:C (l.map bM)=C l:=g_ _;refine Bd func145 Z ntmps145<|O aJ<|V aJ<|S<|O aA<|Y (kc call206 (WE l _ K y))<|V iE<|Cn ?_ ?_<;>intro m
 .have s:lU l=η:=by have h:=m;rwa [r9]at h
  rw[show eH l=(a6,1)by rw[eH,s];rfl];exact O aJ<|V aJ<|aC<|Ru<|Qq
 have s:lU l=N:=by have h:=m;rwa [Bool.not_eq_false']at h
 have x:=(JH s).2;have z:eH l=(a_ (sF [] l).1,(sF [] l).2):=by rw[eH,b6 s]
 refine aB<|Sz (kl 2001 IH)<|S<|S ?_;refine gO.ent (E':=[(0,.pv (kR l)),(4,.ref 2001 0 0 0)]) (H':=[(2002,⟨0,1,5,[]⟩),(2001,ES (.osl 2002 0 0 0) η)]) (Q_ 2002 1 5) ?_;refine Rd aA<|Y (fJ fE)<|V aA<|aD<|bC (σ:=Nat) (λk=>([(4,.ref 2001 0 0 0),(12,.pv (kR l)),(13,iv (C (l.map bM):Int)),(14,iv (k:Int))],[(2001,Oy (qM l k) k (uK k)),(2002,Ox (qM l k) k)])) (λk=>k<=C l/\sF [] l=sF (qM l k) (l.drop k)/\C (qM l k)<=20000) (λk=>C l - k) 0 ⟨k_ _,Z,k_ _⟩ ?_ ?_
 .exact(cH.wk (Ea<|Eb<|Eb<|Eb<|T_) (Hc (gR Z Z)<|Hc (eW _ _)<|T_) T_)
 rintro k ⟨hk,f,hA⟩;refine Sz cF<|S<|Cn ?_ ?_<;>intro n
 .have g:k<C l:=I_ n
  have ⟨e,j⟩:=aR g;have hi:=cC (f:=bM) j;have i:=m7 j;have c:=Y5 j;have F:=X1 (x e i);have w:l.drop k=e::l.drop (k+1):=by
   rw[drop_eq_getElem_cons g]
   simp_all
  rw[w,sF]at f;have J:T (a_ (fV e++[10]))=C (fV e)+1:=by rw[cB,j8];rfl
  have t:zH (k+1) (qM l k++(a_ (fV e++[10])).data.toList) N=zH (k+1) (qM l (k+1)) N:=by rw[cJ,c]
  have I:C (qM l (k+1))=C (qM l k)+(C (fV e)+1):=F_
  have D:∀H,H.get 2001=A (Oy (qM l k) k (uK k))->H.get 2002=A (Ox (qM l k) k)->aW φ 132 [.ref 2001 0 0 0,sv (a_ (fV e++[10]))] H (λr H'=>r=.tup [iv (T (a_ (fV e++[10])):Int),.pv NK]/\H'=zH (k+1) (qM l (k+1)) N++H):=λH B E=>by
   have:=aC1 (H:=H) (a_ (fV e++[10])) B E X
   rwa [t]at this
  refine aB<|S<|aD<|O (jA fa)<|Y (eY Z cW bF Z X Z Z)<|Y (kl 6 WG)<|Uu (jH bF)<|Zz<|O (xD cW bF)<|Y (kc call207 (aBP e _ (y e i) (x e i)))<|Y aA<|Y dL<|Y dL<|Y aJ<|V aJ<|O aA<|V (kc nS (D _ Z Z))<|S<|aT (t:=30) (n:=7) (A_:=!θ (fY e=0)||θ ((20000:Int)<(C (qM l (k+1)):Int))) ?_ ?_
  .all_goals refine Y aA<|Y yQ<|Dm ?_<;>(refine Sp 27 (λu=>?_) λu=>?_)<;>(first|exact s_|refine M<|M ?_|refine U (kc call208 (aBT (l:=qM l (k+1)) (g:=k+1) (u:=N) Z Z))<|U iZ ?_)<;>refine V cE ?_<;>exact Gj (h:=by simp_all)
  refine Cn ?_ ?_<;>intro p
  .have q:fY e≠0\/20000<C (qM l k++(fV e++[10])):=by have h:=p;rw[<-c];simp only[Bool.or_eq_true,r9,n_,j0]at h;omega
   rw[b6 q]at f;rw[z,f];exact O aJ<|V aJ<|aC<|Ru<|Qq
  have d:¬ (fY e≠0\/20000<C (qM l k++(fV e++[10]))):=by have h:=p;rw[<-c];simp only[r6,Bool.not_eq_false',n_,j0]at h;omega
  rw[a8 d,<-c]at f;rw[<-c]at d;refine aB<|Rd iH<|V aA ?_;exact⟨k+1,⟨g,f,X⟩,X,(cH.wk (Ea<|Eb<|Eb<|Eb<|T_) (Hc (gR Z Z)<|Hc (eW _ _)<|T_) T_)⟩
 have v:k=C l:=J_ n
 subst v;rw[drop_length,sF]at f;rw[z,f];exact aP<|O (kc nR (aAO (l:=qM l (C l)) (g:=C l) (u:=uK (C l)) Z Z X))<|Y aJ<|V aJ<|aC<|Ru<|Qq
theorem gk(s):(qQ s).data.toList=(aV (T s)).data.toList++[58]++ν (μ s):=rfl
theorem X6(l:List B_)(H:aF)(K:C (aO l)<35184372088832):RC 108 [.pv (aL l)] (sv ⟨(aO l).toArray⟩) H:=by
 refine Pu ?_;have G:C (l.map S_)=C l:=g_ _;have F:=AK l;refine Bd func108 Z ntmps108<|Sz aJ<|Sz (kl 2001 IH)<|S<|S ?_;refine gO.ent (E':=[(0,.pv (aL l)),(3,.ref 2001 0 0 0)]) (H':=zH 0 [] η) (cH.bld0 ⟨⟨_,Z,.same H_⟩,⟨_,Z,.same m3⟩,T_⟩) ?_;refine Rd aA<|Y (fJ underlying131)<|V aA<|aD<|CO (λ(k g:Nat) (u:Bool)=>([(3,.ref 2001 0 0 0),(6,.pv (aL l)),(7,iv (C (l.map S_):Int)),(8,iv (k:Int))],zH g (aO (l.take k)) u)) (λk g u=>k<=C l) (λk g u=>C l - k) 0 0 η (k_ _) ?_ ?_
 .exact(cH.wk (Ea<|Eb<|Eb<|Eb<|T_) (Hc (gR Z Z)<|Hc (eW _ _)<|T_) T_)
 intro k g u J;have E:=uX l k;refine Sz cF<|S<|Cn ?_ ?_<;>intro e
 .have m:k<C l:=I_ e
  have ⟨s,j⟩:=aR m;have n:=cC (f:=S_) j;have d:=uX l (k+1);rw[dT j,qF,j8,pS,nY]at d;have I:T s<35184372088832:=X
  have h:aO (l.take (k+1))=aO (l.take k)++(aV (T s:Int)).data.toList++[58]++ν (μ s):=by
   rw[dT j,qF,gk,append_assoc,append_assoc,append_assoc]
  have B:C (aO (l.take k)++(aV (T s:Int)).data.toList)=C (aO (l.take k))+T (aV (T s:Int)):=F_
  have D:C (aO (l.take k)++(aV (T s:Int)).data.toList++[58])=C (aO (l.take k))+T (aV (T s:Int))+1:=G_
  refine aB<|S<|aD<|O (bS Z R6 Z Z X x7 n Z)<|Y (fK N_ (hi:=n))<|V aJ<|O aA<|Y (gG U_)<|Y (kc mD (qI (T s:Int) X X _))<|V (kc nS (jO g (aO (l.take k)) u (aV (T s:Int)) X))<|Sz (kc nQ (lA (g+1) (aO (l.take k)++(aV (T s:Int)).data.toList) N 58 X))<|Rd aA<|V (kc nS (jO (g+1+1) (aO (l.take k)++(aV (T s:Int)).data.toList++[58]) N s X))<|Rd kp<|V aA ?_;refine⟨k+1,g+1+1+1,N,X,X,?_⟩;rw[h];exact(cH.wk (Ea<|Eb<|Eb<|Eb<|T_) (Hc (gR Z Z)<|Hc (eW _ _)<|T_) T_)
 have i:k=C l:=J_ e
 subst i;rw[take_length];exact aP<|O (kc nR (RU g (aO l) u X))<|V aJ<|aC<|Rt<|Qq
def kM(l:List b9):B_×Bool:=if C l=0 then(a6,N)else((eH l).1,θ ((eH l).2=0))
theorem vd(l)(H)(E:C l<2^40)(f:∀e∈l,VY e):RC 156 [.pv (kR l)] (.tup [sv (kM l).1,bv (kM l).2]) H:=by
 refine Pu ?_;have B:C (l.map bM)=C l:=g_ _;have c:=λH=>ve l H X f;have i:C l=0->kM l=(a6,N):=λh=>by rw[kM,b6 h]
 have g:C l≠0->kM l=((eH l).1,θ _):=λh=>by rw[kM,a8 h]
 have ⟨J0,D⟩:∃J0,J0=eH l:=X_;refine Bd func156 Z ntmps156<|O aJ<|V aJ<|S<|O aA<|Y (fJ fE)<|V cG<|Cn ?_ ?_<;>intro b
 .have d:C l=0:=I_ b
  rw[i d];exact O aJ<|V aJ<|aC<|Ru<|Qq
 have d:C l≠0:=J_ b
 rw[g d];exact aB<|O aA<|Y (bH Z Z call145 Z (c _))<|Y aA<|Y dL<|Y dL<|Y aJ<|V aJ<|O aA<|Y aA<|Y cG<|Y aJ<|V aJ<|aC<|Ru<|Qq
def HL:B_:=⟨#[114,101,99,111,114,100]⟩
def NA(r:j_)(J0:B_):List IV:=[.t HL,.n r.kind,.n r.author,.n r.number,.n r.clock,.t r.branch,.l r.parents,.t J0,.t r.target,.b r.yes,.n r.order,.t r.from']
def mX(r:j_):Prop:=(qS r.kind/\qS r.author/\qS r.number/\qS r.clock/\qS r.order)/\(T r.branch<2^40/\T r.target<2^40/\T r.from'<2^40)/\ie r.parents/\(C r.edits<2^40/\∀e∈r.edits,VY e)/\yO r.sl/\qi r.priv
theorem Ug{r}(h:mX r)(J0):∀v∈NA r J0,okI v:=by
 have ⟨⟨f,c,g,b,e⟩,_,d,_⟩:=h;intro v a;simp[NA,l9,q8,or_false]at a;rcases a with rfl|rfl|rfl|rfl|rfl|rfl|rfl|rfl|rfl|rfl|rfl|rfl
 .exact T_
 .exact f
 .exact c
 .exact g
 .exact b
 .exact T_
 .exact d.1
 .exact T_
 .exact T_
 .exact T_
 .exact e
 exact T_
theorem gf{r}(J0):C (zQ (NA r J0))=C r.parents+12:=by simp[NA,zQ,fI]
def vW(r:j_):List B_:=zQ (NA r (kM r.edits).1)
def pf(r:j_):Nat:=ya (NA r (kM r.edits).1)
theorem XF(r:j_)(f:mX r)(D:C r.parents<549755813888):aW φ 107 [av (eD r)] [] (λx H'=>x=.osl 971 (pf r) 0 (C (vW r))/\H'=[(971,⟨pf r,1,9,bQ (vW r)⟩)]):=by
 have d:=λH=>vd r.edits H f.2.2.2.1.1 f.2.2.2.1.2;rw[vW,pf];have ⟨J0,g⟩:∃J0,J0=(kM r.edits).1:=X_;have ⟨b,h⟩:∃b,b=(kM r.edits).2:=X_;rw[<-g,<-h]at d;rw[<-g];have B:=gf (r:=r) J0;have c:=tv (NA r J0) (Ug f J0) 0 [] (show 12<2^40 by decide) G_;rw[r8,nil_append]at c;refine Bd func107 Z ntmps107<|O (kb 1)<|V aJ<|Sz (kl 970 Zs)<|O (bD DU)<|Y (bU pK)<|Y (kc call156 (d _))<|Y aA<|Y dL<|Y dL<|Y aJ<|V aJ<|S ?_;refine gO.ent (E':=[(1,.ref 1 0 0 0),(3,.ref 970 0 0 0),(4,sv J0)]) (H':=(971,⟨0,1,9,[]⟩)::(970,bx 1 131 [.osl 971 0 0 0])::(1,bx 21 53 ((eD r).map .pv))::[]) ?_ ?_
 .exact (Q_ 971 1 9)
 refine Rd (gQ (p:=.str HL) Z (eC U_ Z) Z)<|Y (bD pA)<|Y (bU M_)<|Y (gQ (p:=.int .i64 r.kind) Z (eC underlying3 Z) Z)<|Y (bD F0)<|Y (bU M_)<|Y (gQ (p:=.int .i64 r.author) Z (eC underlying3 Z) Z)<|Y (bD A9)<|Y (bU M_)<|Y (gQ (p:=.int .i64 r.number) Z (eC underlying3 Z) Z)<|Y (bD FZ)<|Y (bU M_)<|Y (gQ (p:=.int .i64 r.clock) Z (eC underlying3 Z) Z)<|Y (bD DV)<|Y (bU N_)<|Y (gQ (p:=.str r.branch) Z (eC U_ Z) Z)<|Y (bD oZ)<|Y (bU aG)<|Y (gQ (p:=aL r.parents) Z (eC aE Z) Z)<|Y aA<|Y (gQ (p:=.str J0) Z (eC U_ Z) Z)<|Y (bD DT)<|Y (bU N_)<|Y (gQ (p:=.str r.target) Z (eC U_ Z) Z)<|Y (bD JK)<|Y (bU nU)<|Y (gQ (p:=.bool r.yes) Z (eC fP Z) Z)<|Y (bD zB)<|Y (bU M_)<|Y (gQ (p:=.int .i64 r.order) Z (eC underlying3 Z) Z)<|Y (bD xS)<|Y (bU N_)<|Y (gQ (p:=.str r.from') Z (eC U_ Z) Z)<|Y (aM ((NA r J0).map BA) Z AA Z Z Z Z Z (UG (NA r J0)))<|V (kc wN (mf c ⟨Z,Z,T_⟩ m3))<|O (bU isAgg131)<|V aJ<|aC ?_;refine cN (H':=[(971,⟨ya (NA r J0),1,9,bQ (zQ (NA r J0))⟩)]) (.inr Z) Z (aI Z) P_ ?_;exact Qq
end Go.Proofs.C
section
namespace Go.Proofs
open Go.RowKit Go.Sort Go.Shelf
def aGN:Go.Shelf.Ren:=⟨λ|172=>138|244=>195|245=>196|247=>245|279=>246|280=>247|281=>248|282=>249|287=>276|316=>277|171=>79|205=>278|321=>301|322=>302|243=>134|246=>192|283=>240|284=>241|285=>242|286=>243|129=>190|317=>271|318=>272|319=>273|320=>274|337=>298|338=>299|n=>n,λ|9=>9|3=>3|75=>163|76=>164|4=>4|5=>5|167=>254|37=>159|0=>0|85=>255|2=>2|168=>257|53=>169|175=>289|46=>157|210=>292|127=>215|145=>311|143=>309|21=>21|171=>249|173=>251|212=>286|51=>213|20=>20|213=>287|232=>317|233=>318|80=>100|n=>n,λ|15=>4|16=>5|17=>2|18=>6|19=>7|n=>n⟩
theorem aGU:Go.Proofs.LaysC.n172 φ aGN:={
  mixed:=by rfl
  f129:=Tryz.func190.trans C_
  f171:=Tryz.func79.trans C_
  f172:=Tryz.func138.trans C_
  f205:=Tryz.func278.trans C_
  f243:=Tryz.func134.trans C_
  f244:=Tryz.func195.trans C_
  f245:=Tryz.func196.trans C_
  f246:=Tryz.func192.trans C_
  f247:=Tryz.func245.trans C_
  f279:=Tryz.func246.trans C_
  f280:=Tryz.func247.trans C_
  f281:=Tryz.func248.trans C_
  f282:=Tryz.func249.trans C_
  f283:=Tryz.func240.trans C_
  f284:=Tryz.func241.trans C_
  f285:=Tryz.func242.trans C_
  f286:=Tryz.func243.trans C_
  f287:=Tryz.func276.trans C_
  f316:=Tryz.func277.trans C_
  f317:=Tryz.func271.trans C_
  f318:=Tryz.func272.trans C_
  f319:=Tryz.func273.trans C_
  f320:=Tryz.func274.trans C_
  f321:=Tryz.func301.trans C_
  f322:=Tryz.func302.trans C_
  f337:=Tryz.func298.trans C_
  f338:=Tryz.func299.trans C_
  t0:=EA
  a0:=Tryz.isAgg0
  z0:=Tryz.sizeOf0
  v0:=Tryz.zeroValue0
  t2:=Tryz.underlying2
  a2:=Tryz.isAgg2
  z2:=Tryz.sizeOf2
  v2:=Tryz.zeroValue2
  t3:=Tryz.underlying3
  a3:=Tryz.isAgg3
  z3:=Tryz.sizeOf3
  v3:=sY
  t4:=fP
  a4:=nU
  z4:=Tryz.sizeOf4
  v4:=jG
  t5:=dG
  a5:=vI
  z5:=cO
  v5:=sX
  t9:=Tryz.underlying9
  a9:=Tryz.isAgg9
  z9:=Tryz.sizeOf9
  v9:=gW
  t20:=Tryz.underlying20
  a20:=wL
  z20:=Tryz.sizeOf20
  v20:=Tryz.zeroValue20
  t21:=Tryz.underlying21
  a21:=Tryz.isAgg21
  z21:=Tryz.sizeOf21
  v21:=Tryz.zeroValue21
  t37:=dM
  a37:=eM
  z37:=qU
  v37:=Tryz.zeroValue159
  t46:=lM
  a46:=Tryz.isAgg157
  z46:=BH
  v46:=uD
  t51:=Tryz.underlying213
  a51:=Tryz.isAgg213
  z51:=Tryz.sizeOf213
  v51:=Tryz.zeroValue213
  t53:=gT
  a53:=xW
  z53:=vF
  v53:=uC
  t75:=oJ
  a75:=Tryz.isAgg163
  z75:=Tryz.sizeOf163
  v75:=Tryz.zeroValue163
  t76:=Tryz.underlying164
  a76:=Tryz.isAgg164
  z76:=Tryz.sizeOf164
  v76:=Tryz.zeroValue164
  t85:=Tryz.underlying255
  a85:=Tryz.isAgg255
  z85:=Tryz.sizeOf255
  v85:=Tryz.zeroValue255
  t127:=zM
  a127:=Tryz.isAgg215
  z127:=Tryz.sizeOf215
  v127:=Tryz.zeroValue215
  t143:=Tryz.underlying309
  a143:=Tryz.isAgg309
  z143:=Tryz.sizeOf309
  v143:=Tryz.zeroValue309
  t145:=Tryz.underlying311
  a145:=Tryz.isAgg311
  z145:=Tryz.sizeOf311
  v145:=Tryz.zeroValue311
  t167:=Tryz.underlying254
  a167:=Tryz.isAgg254
  z167:=Tryz.sizeOf254
  v167:=Tryz.zeroValue254
  t168:=Tryz.underlying257
  a168:=Tryz.isAgg257
  z168:=Tryz.sizeOf257
  v168:=Tryz.zeroValue257
  t171:=Tryz.underlying249
  a171:=Tryz.isAgg249
  z171:=Tryz.sizeOf249
  v171:=Tryz.zeroValue249
  t173:=Tryz.underlying251
  a173:=Tryz.isAgg251
  z173:=Tryz.sizeOf251
  v173:=Tryz.zeroValue251
  t175:=Tryz.underlying289
  a175:=Tryz.isAgg289
  z175:=Tryz.sizeOf289
  v175:=Tryz.zeroValue289
  t210:=Tryz.underlying292
  a210:=Tryz.isAgg292
  z210:=Tryz.sizeOf292
  v210:=Tryz.zeroValue292
  t212:=Tryz.underlying286
  a212:=Tryz.isAgg286
  z212:=Tryz.sizeOf286
  v212:=Tryz.zeroValue286
  t213:=Tryz.underlying287
  a213:=Tryz.isAgg287
  z213:=Tryz.sizeOf287
  t232:=Tryz.underlying317
  a232:=Tryz.isAgg317
  z232:=Tryz.sizeOf317
  v232:=Tryz.zeroValue317
  t233:=Tryz.underlying318
  a233:=Tryz.isAgg318
  z233:=Tryz.sizeOf318
  v233:=Tryz.zeroValue318
  g15:=by kernel_rfl
  g16:=by kernel_rfl
  g17:=by kernel_rfl
  g18:=by kernel_rfl
  g19:=by kernel_rfl
  t80:=Tryz.underlying100
  a80:=Tryz.isAgg100
  z80:=Tryz.sizeOf100
  v80:=Tryz.zeroValue100
  i0:=by rfl
  i2:=by rfl
  i3:=by rfl
  i4:=by rfl
  i5:=by rfl
  i9:=by rfl
  i20:=by rfl
  i21:=by rfl
  i37:=by rfl
  i46:=by rfl
  i51:=by rfl
  i53:=by rfl
  i75:=by rfl
  i76:=by rfl
  i80:=by rfl
  i85:=by rfl
  i127:=by rfl
  i143:=by rfl
  i145:=by kernel_rfl
  i167:=by kernel_rfl
  i168:=by kernel_rfl
  i171:=by kernel_rfl
  i173:=by kernel_rfl
  i175:=by kernel_rfl
  i210:=by kernel_rfl
  i212:=by kernel_rfl
  i232:=by kernel_rfl
  i233:=by kernel_rfl
  m15:=by kernel_rfl
  m16:=by kernel_rfl
  m17:=by kernel_rfl
  m18:=by kernel_rfl
  m19:=by kernel_rfl
  c0:=by kernel_rfl
  c2:=by kernel_rfl
  c3:=by kernel_rfl
  c4:=by kernel_rfl
  c5:=by kernel_rfl
  c9:=by kernel_rfl
  c20:=by kernel_rfl
  c21:=by kernel_rfl
  c37:=by kernel_rfl
  c46:=by kernel_rfl
  c51:=by kernel_rfl
  c53:=by kernel_rfl
  c75:=by kernel_rfl
  c76:=by kernel_rfl
  c80:=by kernel_rfl
  c85:=by kernel_rfl
  c127:=by kernel_rfl
  c143:=by kernel_rfl
  c145:=by kernel_rfl
  c167:=by kernel_rfl
  c168:=by kernel_rfl
  c171:=by kernel_rfl
  c173:=by kernel_rfl
  c175:=by kernel_rfl
  c210:=by kernel_rfl
  c212:=by kernel_rfl
  c213:=by kernel_rfl
  c232:=by kernel_rfl
  c233:=by kernel_rfl}
end Go.Proofs
namespace Go.Proofs.C
open Go.Proofs.Tryz
open Go.Abs
theorem QX(s)(b:T s<2^40)(H):RC 138 [sv s] (.tup [iv (qN s).1,.pv (qN s).2]) H :=Go.Abs.atoi_c aGU (G1:=4) (G2:=5) (by unfold jr;simp_all) (Z) (by unfold jr;simp_all) (Z) s b H
end Go.Proofs.C
end
namespace Go.Proofs.C
open Go.Proofs.Tryz
open Go.Abs
theorem il(s:B_)(H:aF)(d:T s<2^40):RC 202 [sv s] (iv (V1 (ν (μ s)))) H:=by
 refine Pu ?_;have c:=QX s d;unfold qN at c;unfold V1;cases h:Lib.atoiAll (ν (μ s)) with
 |ok v =>
  simp only[h]at c;refine Bd func202 Z ntmps202<|Sz aJ<|O aA<|Y (kc wM (c _))<|Y aA<|Y dL<|Y dL<|Y aJ<|V aJ<|S<|O aA<|V (S4 Z oJ Z)<|Cn ?_ ?_<;>intro b
  .cases b
  exact aB<|O aA<|V aJ<|aC<|Rt<|Qq
 |range =>
  simp only[h]at c;refine Bd func202 Z ntmps202<|Sz aJ<|O aA<|Y (kc wM (c _))<|Y aA<|Y dL<|Y dL<|Y aJ<|V aJ<|S<|O aA<|V (IY Z oJ Z)<|Cn ?_ ?_<;>intro b
  .exact Sz aJ<|aC<|Rt<|Qq
  cases b
 |_ =>
  simp only[h]at c;refine Bd func202 Z ntmps202<|Sz aJ<|O aA<|Y (kc wM (c _))<|Y aA<|Y dL<|Y dL<|Y aJ<|V aJ<|S<|O aA<|V (IY Z oJ Z)<|Cn ?_ ?_<;>intro b
  .exact Sz aJ<|aC<|Rt<|Qq
  cases b
end Go.Proofs.C
section
namespace Go.Abs
section
variable{P:Program}{m4:Nat}{o:Oper}{E:dD}{H:aF}{t t':TypeId}{x:Operand}
abbrev aBd(b:Bool):PV:=bif b then Db else NK
theorem S5{b}(a:o.op=.binOp .neq t x (.const .nilIface) t')(d:P.underlying t=A (.interface (P.methodsAt t)))(c:aS E x=A (.pv (aBd b))):cP P m4 o E H (.pv (.bool b)) H:=by
 cases b
 .exact S4 a d c
 exact IY a d c
end
def jN(s:B_):Int:=(qN s).1
def uP(s:B_):Bool:=match Lib.atoiAll (ν (μ s)) with
 |.ok _=>η
 |_=>N
theorem Pm(s):qN s=(jN s,aBd (uP s)):=by rw[jN,uP,qN];all_goals grind
open Go.Lib
theorem O1(b):∀(a) (n),decFrom n (a++b)=(decFrom n a).bind λx=>decFrom x b
 | [],n=>rfl
 |c::a,n=>by
  rw[List.cons_append,decFrom,decFrom];cases h:digitVal c with
  |none=>rfl
  |some d=>exact O1 b a _
theorem Dz{l}{u}(D:l≠[])(E:∀b∈l,48<=b.toNat/\b.toNat<=57)(B:decFrom 0 l=A u):atoi l=A (u:Int):=by
 cases l with
 |nil=>simp_all
 |cons b r =>
  have d:decNat (b::r)=A u:=by rw[decNat,B];rfl
  have a:¬ (b == 43)=N:=λh=>by simp_all
  have c:¬ (b == 45)=N:=λh=>by simp_all
  rw[atoi,a8 c,a8 a,d];rfl
theorem cr{l}{u}(d:C l<=18)(a:l≠[])(c:∀b∈l,48<=b.toNat/\b.toNat<=57)(B:decFrom 0 l=A u):atoiAll l=.ok u:=by rw[atoiAll_short _ d,Dz a c B];rfl
end Go.Abs
namespace Go.Proofs.C
open Go.Proofs.Tryz
open Go.Abs Go.Lib
theorem cq(s)(a:T s<2^40)(H):RC 138 [sv s] (.tup [iv (jN s),.pv (aBd (uP s))]) H:=by
 have:=QX s a H
 rwa [Pm]at this
abbrev sCo:B_:=⟨#[58]⟩
theorem oh(s)(H:aF):RC 244 [sv s,sv sCo] (iv (Lib.indexByte (ν (μ s)) 58)) H:=by
 refine Pu<|Bd func244 Z ntmps244<|Sz aJ<|O aA<|Y (gG U_)<|V aJ<|S<|aD<|S<|aT (t:=16) (n:=9) (A_:=θ (sCo=s)) ?_ ?_
 .all_goals refine Y aA<|Y cG<|Dm ?_<;>(refine Sp 19 (λc=>?_) λc=>?_)<;>(try contradiction)<;>refine U aA<|U aA<|U vT<|Y cE<|Da ?_<;>exact Gj (h:=by rfl)
 refine Cn ?_ ?_<;>intro d
 .have e:=b8 d;subst e;exact Sz aJ<|aC<|Rt<|Qq
 refine O aA<|Y cG<|Da<|Cn ?_ ?_<;>intro b
 .exact O aA<|Y aA<|Y (cL Z U_ Z Z X x7 (show 0<T (⟨#[58]⟩:B_) from Nat.zero_lt_one) Z)<|Y (kc call250 (AW s 58 _))<|V aJ<|aC<|Rt<|Qq
 cases b
def tb(s:B_):AV:=if Lib.indexByte (ν (μ s)) 58 = -1 then .tup [sv s,sv ⟨#[]⟩,bv η]else .tup [sv (s.extract 0 (Lib.indexByte (ν (μ s)) 58).toNat),sv (s.extract ((Lib.indexByte (ν (μ s)) 58).toNat+1) (T s)),bv N]
theorem Ic(s:B_)(H:aF)(E:T s<2^40):RC 194 [sv s,sv sCo] (tb s) H:=by
 refine Pu ?_;have d:=λH=>oh s H;rw[tb];rcases Classical.em (Lib.indexByte (ν (μ s)) 58 = -1)with c|c
 .rw[b6 c];simp only[c]at d;refine Bd func194 Z ntmps194<|O aJ<|Y aJ<|V aJ<|S<|O aA<|Y aA<|Y (kc call244 (d _))<|V aJ<|O aA<|V AN<|Cn ?_ ?_<;>intro b
  .cases b
  refine aB<|O aA<|Y aJ<|Y aJ<|V aJ<|aC<|mP (H':=[]) (.inr Z) Z (aI Z) (aI Z) (aI Z) P_ ?_;exact Qq
 rw[a8 c];have ⟨w,r,f,B,e⟩:=yZ c;simp only[e]at d;rw[e,l_];have D:C w+1+C r=T s:=by rw[<-show C s.data.toList=T s by simp,f,j8,j6];omega
 refine Bd func194 Z ntmps194<|O aJ<|Y aJ<|V aJ<|S<|O aA<|Y aA<|Y (kc call244 (d _))<|V aJ<|O aA<|V AN<|Cn ?_ ?_<;>intro b
 .refine S<|aN a7<|Cq aA<|Cq aA<|Cq (bP (l:=0) (h:=(C w)) Z U_ Z Z Z X X Z)<|Cq aA<|Cq aA<|Cq aA<|Cq (gG U_)<|Cq kp<|Cq (bP (l:=(C w+1)) (h:=T s) Z U_ Z Z Z X X Z)<|Cq aJ<|Cq aJ<|Cq aJ<|bG<|Kr<|aC<|mP (H':=[]) (.inr Z) Z (aI Z) (aI Z) (aI Z) P_ ?_;exact Qq
 have F:=b_ b;omega
theorem Nv(s)(H:aF)(d:T s<2^40):RC 137 [sv s,sv sCo] (tb s) H:=by
 refine Pu ?_;have b:=λH=>Ic s H d;rcases Classical.em (Lib.indexByte (ν (μ s)) 58 = -1)with c|c
 .simp only[tb,b6 c]at b |-;refine Bd func137 Z ntmps137<|O aJ<|Y aJ<|V aJ<|O aA<|Y aA<|Y (bH Z Z call194 Z (b _))<|Y dL<|Y dL<|Y dL<|Y aJ<|Y aJ<|V aJ<|aC<|mP (H':=[]) (.inr Z) Z (aI Z) (aI Z) (aI Z) P_ ?_;exact Qq
 simp only[tb,a8 c]at b |-;refine Bd func137 Z ntmps137<|O aJ<|Y aJ<|V aJ<|O aA<|Y aA<|Y (bH Z Z call194 Z (b _))<|Y dL<|Y dL<|Y dL<|Y aJ<|Y aJ<|V aJ<|aC<|mP (H':=[]) (.inr Z) Z (aI Z) (aI Z) (aI Z) P_ ?_;exact Qq
def CR(l:List UInt8):List UInt8:=l.takeWhile λb=>!θ (b=58)
def EH(l:List UInt8):List UInt8:=(l.dropWhile λb=>!θ (b=58)).drop 1
theorem lj{w r}(h:58∉w):CR (w++58::r)=w/\EH (w++58::r)=r:=by
 induction w with
 |nil=>exact⟨Z,Z⟩
 |cons b w d =>
  have ⟨a,c⟩:=d (λe=>h (mem_cons_of_mem _ e));rw[CR]at a |-;rw[EH]at c |-;rw[cons_append,takeWhile_cons,dropWhile_cons,b6 G_,b6 G_,a];exact⟨Z,c⟩
theorem Oc:∀ {l},58∉l->CR l=l/\EH l=[]
 | [],_=>⟨Z,Z⟩
 |b::l,h=>by
  obtain ⟨a,c⟩:=Oc (λe=>h (mem_cons_of_mem _ e));rw[CR]at a |-;rw[EH]at c |-;rw[takeWhile_cons,dropWhile_cons,b6 G_,b6 G_,a];exact⟨Z,c⟩
theorem yo(l:List UInt8):tb (a_ l)=.tup [sv (a_ (CR l)),sv (a_ (EH l)),bv (θ ((58:UInt8)∈l))]:=by
 rw[tb,cJ];by_cases h:Lib.indexByte l 58 = -1
 .rw[b6 h];have b:=yY.1 h;rw[(Oc b).1,(Oc b).2,decide_eq_false b];rfl
 rw[a8 h];have ⟨w,r,e,c,f⟩:=yZ h;rw[f,l_];subst e;rw[(lj c).1,(lj c).2,decide_eq_true H_];have g:(a_ (w++58::r)).extract 0 (C w)=a_ w:=nM (by rw[gK,cJ,cJ,drop_zero,Nat.sub_zero,take_left]);have d:(a_ (w++58::r)).extract (C w+1) _=a_ r:=nM (by
  rw[sR,cJ,cJ,<-drop_drop,drop_left];rfl)
 rw[g,d]
theorem Y1(s): -9223372036854775808<=jN s/\jN s<=9223372036854775807:=by
 rw[jN,qN];cases e:Lib.atoiAll _ with
 |ok v=>exact Lib.atoiAll_bounds e
 |range =>
  show _<=Lib.atoiSat _/\Lib.atoiSat _<=_;rw[Lib.atoiSat];omega
 |_ =>
  simp_all
theorem Od(l):C (CR l)<=C l/\C (EH l)<=C l:=by
 constructor
 .exact(takeWhile_sublist _).length_le
 rw[EH,q6];have:=(dropWhile_sublist (l:=l) λb=>!θ (b=58)).length_le;omega
theorem Pl{l}{u}(d:C l<=18)(a:l≠[])(c:∀b∈l,48<=b.toNat/\b.toNat<=57)(B:decFrom 0 l=A u):uP (a_ l)=η/\jN (a_ l)=u:=by
 have h:=cr d a c B;constructor
 .rw[uP,cJ,h]
 rw[jN,qN,cJ,h]
theorem NU(n:Nat):(aV n).data.toList=decDigits n:=rfl
theorem gZ(x)(L):aO (x::L)=decDigits (T x)++58::(ν (μ x)++aO L):=by have a:aO (x::L)=(qQ x).data.toList++aO L:=rfl;rw[a,qQ,ByteArray.data_append,Array.toList_append,ByteArray.data_append,Array.toList_append,NU];simp
theorem UI(n):58∉decDigits n:=λh=>by
 have:=pZ n h;exact absurd this.2 H_
theorem je(D B):aO (D++B)=aO D++aO B:=flatMap_append
end Go.Proofs.C
end
namespace Go.Proofs.C
open Go.Proofs.Tryz
open Go.Abs Go.Lib
def LB(l:List UInt8):Bool:=((!θ ((58:UInt8)∈l)||uP (a_ (CR l)))||θ (jN (a_ (CR l))<0))||θ ((C (EH l):Int)<jN (a_ (CR l)))
def nxN(l:List UInt8):Nat:=(jN (a_ (CR l))).toNat
def pJ(l:List UInt8):Option (B_×List UInt8):=if LB l=N then ζ else A (a_ ((EH l).take (nxN l)),(EH l).drop (nxN l))
def yA(l:List UInt8):Option (Int×List UInt8):=match pJ l with
 |none=>ζ
 |some (s,r)=>if uP s=N then ζ else A (jN s,r)
def HM{α:Type}(f:List UInt8->Option (α×List UInt8)):Nat->List UInt8->Option (List α×List UInt8)
 |0,l=>A ([],l)
 | n+1,l=>match f l with
  |none=>ζ
  |some (x,r)=>match HM f n r with
   |none=>ζ
   |some (xs,q)=>A (x::xs,q)
def DO{α:Type}(f:List UInt8->Option (α×List UInt8))(l:List UInt8):Option (List α×List UInt8):=match yA l with
 |none=>ζ
 |some (n,r)=>HM f n.toNat r
def SS(l:List UInt8):Option ((Int×Int)×List UInt8):=match yA l with
 |none=>ζ
 |some (x,r)=>match yA r with
  |none=>ζ
  |some (y,q)=>A ((x,y),q)
def Al(l:List UInt8):Option (q7×List UInt8):=match yA l with
 |none=>ζ
 | some (i,r)=>match DO pJ r with
  |none=>ζ
  |some (a,q)=>match DO pJ q with
   |none=>ζ
   |some (b,p)=>A (⟨i,a,b⟩,p)
def IR(x:B_):Prop:=T x<1000000000000000000
theorem mT{x}(L)(d:IR x):pJ (aO (x::L))=A (x,aO L):=by
 obtain ⟨c,a⟩:=lj (UI _);rw[<-gZ]at c a;obtain ⟨f,g⟩:=Pl (cU (show x.size<10 ^ 18 from d) H_) (oH _) (λb=>pZ _) (jV _);have e:58∈aO (x::L):=by rw[gZ];simp
 have hb:LB (aO (x::L))=η:=by
  rw[LB,c,a,f,decide_eq_true e,decide_eq_false X,decide_eq_false (by rw[j8,aU];omega)];rfl
 rw[pJ,a8 F_,nxN,c,g,a,l_,drop_left' (aU x),take_left' (aU x),fU]
theorem OW{n}(B:0<=n)(D:n<1000000000000000000):IR (aV n):=Nat.lt_of_le_of_lt (oE X X) H_
theorem UV{n}(b:0<=n)(a:n<1000000000000000000):uP (aV n)=η/\jN (aV n)=n:=by
 have h:=D7 b a;have e:(aV n).data.toList=itoa n:=rfl;constructor
 .rw[uP,e,h]
 rw[jN,qN,e,h]
theorem mU{n}(L)(b:0<=n)(a:n<1000000000000000000):yA (aO (aV n::L))=A (n,aO L):=by
 have ⟨B,D⟩:=UV b a;rw[yA,mT L (OW b a)]
 simp_all
theorem TK:∀(a L),(∀t∈a,IR t)->HM pJ (C a) (aO (a++L))=A (a,aO L)
 | [],L,_=>rfl
 |t::a,L,h=>by
  rw[j6,HM,List.cons_append,mT _ (h t List.mem_cons_self)];simp[TK _ L λx B=>h x (List.mem_cons_of_mem _ _)]
theorem DN(a L)(h:∀t∈a,IR t)(B:C a<1000000000000000000):DO pJ (aO (aV (C a)::(a++L)))=A (a,aO L):=by rw[DO,mU _ X X];show HM _ _ _=_;rw[l_,TK _ L h]
theorem R8(s)(L)(h:0<=s.idx)(f:s.idx<1000000000000000000)(i:∀t∈s.sig,IR t)(g:∀t∈s.path,IR t)(d:C s.sig<1000000000000000000)(c:C s.path<1000000000000000000):
  Al (aO (fI (.z s.idx s.sig s.path)++L))=A (s,aO L):=by
 have e:fI (.z s.idx s.sig s.path)++L=aV s.idx::(aV (C s.sig)::(s.sig++(aV (C s.path)::(s.path++L)))):=by simp[fI]
 rw[e,Al,mU _ h f];show (match DO pJ _ with|none=>ζ|some (a,q)=>match DO pJ q with|none=>ζ|some (b,p)=>A _)=_;rw[DN _ _ i d];show (match DO pJ _ with|none=>ζ|some (b,p)=>A _)=_;rw[DN _ _ g c]
theorem TJ:∀(ps) (L),(∀q∈ps,(0<=q.1/\q.1<1000000000000000000)/\(0<=q.2/\q.2<1000000000000000000))->HM SS (C ps) (aO (QF ps++L))=A (ps,aO L)
 | [],L,_=>rfl
 | p::ps,L,h=>by
  obtain ⟨⟨d,c⟩,f,a⟩:=h p mem_cons_self;have e:QF (p::ps)++L=aV _::(aV _::(QF _++L)):=rfl;have b:SS (aO (QF (p::ps)++L))=A (p,aO (QF ps++L)):=by
   rw[e,SS,mU _ d c];show (match yA _ with|none=>ζ|some (y,q)=>A _)=_;rw[mU _ f a]
  rw[j6,HM,b];simp[TJ _ L λx B=>h x (mem_cons_of_mem _ _)]
theorem qy(ps)(L)(h:∀q∈ps,(0<=q.1/\q.1<1000000000000000000)/\(0<=q.2/\q.2<1000000000000000000))(B:C ps<1000000000000000000):DO SS (aO (fI (.p ps)++L))=A (ps,aO L):=by have e:fI (.p _)++L=aV _::(QF ps++L):=rfl;rw[e,DO,mU _ X X];show HM _ _ _=_;rw[l_,TJ _ L h]
variable{α:Type}{a b:List _}
theorem rl(m:AV)(l:List (Int×Int))(p:Nat->Bool)(e:Nat->aF)(E:C l<2^62)(o:∀k s,l[k]?=A s->dO φ m [av (kP s)] (e k) (λr H'=>r=bv (p k)/\H'=e (k+1))):
  aW φ 209 [.pv (yG l),m] (e 0) (λr H'=>r=iv (OX p (C l))/\H'=e (HR p (C l))):=by
 have B:C (l.map kP)=C l:=g_ _;refine Bd func209 Z ntmps209<|Sz aJ<|S<|O aA<|Y (fJ gL)<|V aA<|aD<|bC (σ:=Nat) (λk=>([(0,.pv (yG l)),(1,m),(7,iv (C (l.map kP):Int)),(8,iv (k:Int))],e k)) (λk=>k<=C l/\∀j,j<k->p j=η) (λk=>C l - k) 0 ⟨X,X⟩ ?_ ?_
 .exact E0
 rintro k ⟨hk,c⟩;refine Sz cF<|S<|Cn ?_ ?_<;>intro f
 .have d:k<C l:=I_ f
  have ⟨s,n⟩:=aR d;have hi:=cC (f:=kP) n;have h:=o k s n;refine aB<|S<|aD<|O aA<|V aJ<|O aA<|Y aA<|Y aA<|Y (jA VH)<|Y (eY Z eN sizeOf104 Z X (Z) Z)<|V (dH Z Z Z (h))<|Cn ?_ ?_<;>intro g
  .refine O aA<|V aJ<|aC ?_;exact cN (H':=e (k+1)) (.inr Z) Z (aI Z) Fin.refl ⟨by rw[OX,DX d g c],by rw[HR,DX d g c]⟩
  refine aB<|Rd iH<|V aA ?_;refine⟨k+1,⟨X,λj D=>?_⟩,X,E0⟩
  grind
 have i:k=C l:=J_ f
 subst i;refine aP<|Sz aJ<|aC ?_;exact cN (H':=e (C l)) (.inr Z) Z (aI Z) Fin.refl ⟨by rw[OX,DY c],by rw[HR,DY c]⟩
theorem WD(c)(l)(p)(b:Nat->aF)(d:C l<2^62)(e:∀k s,l[k]?=A s->dO φ c [av (kP s)] (b k) (λr H'=>r=bv (p k)/\H'=b (k+1))):
  aW φ 149 [.pv (yG l),c] (b 0) (λr H'=>r=bv ((List.range (C l)).any p)/\H'=b (HR p (C l))):=by
 refine Bd func149 Z ntmps149<|Sz aJ<|O aA<|Y aA<|Y (bH Z Z call209 Z (rl c l p b d e))<|Y AN<|V aJ<|aC ?_;exact cN (.inr Z) Z (aI Z) Fin.refl ⟨by rw[YB],Z⟩
def aw(q:Int×Int):Bool:=!(θ (0<=q.1)&&θ (q.1<=1048575))||!(θ (0<=q.2)&&θ (q.2<=1048575))
def Rs:Ob:=bx 1 174 [.pv (.fn 146)]
theorem zY(H):∀r∈Rs.rows,∀a∈r,Clo H a:=by intro r c a b;simp[Rs,bx,q_]at c;subst c;rw[q_]at b;subst b;simp
instance(H):W_ (H) (Rs.rows):=⟨zY H⟩
theorem aD6(q:Int×Int):aW φ 150 [av (kP q),.ref 3 0 0 0] [(3,Rs)] (λr H'=>r=bv (aw q)/\H'=[(3,Rs)]):=by
 have c:=λH=>RH q.1 0 1048575 H;have b:=λH=>RH q.2 0 1048575 H;have B:aw q=(!(θ (0<=q.1)&&θ _)||!(θ (0<=q.2)&&θ _)):=rfl;have ⟨u,e⟩:∃u,u=(θ (0<=q.1)&&θ (q.1<=1048575)):=X_;have ⟨v,d⟩:∃v,v=(θ (0<=q.2)&&θ (q.2<=1048575)):=X_;clear e d;refine Bd func150 Z ntmps150<|O (kb 2)<|V aJ<|S<|aT (t:=3) (n:=14) (A_:=aw q) ?_ ?_
 .all_goals refine Y (bU qB)<|Y (bD nE)<|Y (bU M_)<|Y (dH Z Z Z (dO.fn sE (c _)))<|Y iE<|Dm ?_<;>(refine Sp 9 (λf=>?_) λf=>?_)<;>(first|refine M<|M<|M<|M<|M ?_|refine U (bU qB)<|U (bD nD)<|U (bU M_)<|U (dH Z Z Z (dO.fn sE (b _)))<|U iE ?_)<;>refine Y cE<|Da ?_<;>exact Gj (h:=by simp_all)
 refine aC<|cN (H':=[(3,Rs)]) (.inr Z) Z (aI Z) P_ ?_;exact Qq
theorem tn(l:List (Int×Int))(q):((List.range (C l)).any λk=>match l[k]? with|some s=>q s|none=>η)=l.any q:=by
 rw[Bool.eq_iff_iff,any_eq_true,any_eq_true];constructor
 .grind
 rintro⟨s,a,h⟩;have ⟨k,B⟩:=s8.1 a
 grind
def aA8(l:List (Int×Int))(k:Nat):Bool:=match l[k]? with|some s=>aw s|none=>η
theorem aBC(l)(B:C l<2^40):aW φ 149 [.pv (yG l),.clo 150 [.ref 3 0 0 0]] [(3,Rs)] (λr H'=>r=bv (l.any aw)/\H'=[(3,Rs)]):=by
 have b:=WD _ l (aA8 l) _ X (λk s c=>by
  rw[aA8,c];exact dO.clo call150 (aD6 s))
 rw[show (List.range _).any (aA8 l)=l.any _ from tn l _]at b;exact b
theorem Mn(s)(H):RC 238 [sv s] (bv η) H:=by
 refine Pu<|Bd func238 Z ntmps238<|Sz aJ<|O aA<|Y aA<|Y EN<|V aJ<|aC<|Rt ?_
 simp_all
theorem xc(s t)(H):RC 186 [sv s,sv t] (bv (jI s t)) H:=by
 refine Pu<|Bd func186 Z ntmps186<|Sz aJ<|S<|aT (t:=4) (n:=15) (A_:=jI s t) ?_ ?_
 .all_goals refine Y aA<|Y (bH Z Z call238 Z (Mn _ _))<|Dm ?_<;>(refine Sp 7 (λc=>?_) λc=>?_)<;>(try contradiction)<;>refine M<|M<|M<|Y cE<|Dm ?_<;>(refine Sp 12 (λb=>?_) λb=>?_)<;>(try contradiction)<;>refine U aA<|U aA<|U (ib Z Z Z)<|Y cE<|Da ?_<;>(exact⟨⟨_,Z,Z⟩,Z,Z,Z⟩)
 exact aC<|Rt<|Qq
def oA:List B_->Bool
 |a::b::r=>!jI b a&&oA (b::r)
 |_=>N
theorem ZJ{a}{l}(h:oA (a::l)=N):oA l=N:=by
 cases l with
 |nil=>rfl
 |cons b r=>exact(l6 _ _▸h).2
theorem KC:∀(i) {l},oA l=N->oA (l.drop i)=N
 |0,_,h=>h
 |i+1,[],_=>rfl
 |i+1,a::l,h=>KC i (ZJ h)
theorem oe{l:List _}{k}{a b}(f:l[k]?=A a)(c:l[k+1]?=A b):oA (l.drop k)=(!jI b a&&oA (l.drop (k+1))):=by have ⟨h,e⟩:=m_.1 f;have ⟨g,d⟩:=m_.1 c;rw[drop_eq_getElem_cons h,drop_eq_getElem_cons g,e,d];rfl
theorem jh(l:List B_)(H:aF)(E:C l<2^40):RC 152 [.pv (aL l)] (bv (oA l)) H:=by
 refine Pu ?_;have n:C (l.map S_)=C l:=g_ _;refine Bd func152 Z ntmps152<|Sz aJ<|S<|O aA<|Y (fJ aE)<|Y (by exact dV Z Z Z (show ξ.wrap ((C (l.map S_):Int) - 1)=(C (l.map S_):Int) - 1 by rw[IntKind.wrap_i64];omega))<|V aJ<|aD ?_;refine bC (σ:=Nat) (λk=>([(0,.pv (aL l)),(3,iv ((k:Int) - 1))],[])) (λk=>k<=C l/\oA (l.drop (k - 1))=N) (λk=>k) (C l) ⟨h_ _,?_⟩ ?_ ?_
 .have:C (l.drop (C l - 1))<=1:=G_
  match l.drop (C l - 1),this with
  | [],_=>rfl
  | [a],_=>rfl
 .rw[n];exact Wk
 rintro k ⟨hk,p⟩;refine S<|O aA<|V iZ<|Cn ?_ ?_<;>intro f
 .have hlt:2<=k:=I_ f
  obtain ⟨m,rfl⟩:∃m,k=m+2:=⟨k - 2,X⟩;have ⟨b,s⟩:=aR (l:=l) (k:=m+1) X;have ⟨a,q⟩:=aR (l:=l) (k:=m) X;have j:=cC (f:=S_) s;have D:=cC (f:=S_) q;have i:=oe q s;rw[show m+2 - 1=m+1 by omega]at p;rw[p,Bool.and_true]at i;refine aB<|S<|aD<|S<|aN a7<|Cq aA<|Cq aA<|Cq (bS (m:=m+1) Z aZ Z Z X (show (((m+2:Nat):Int) - 1).toNat=m+1 by omega) j Z)<|Cq (fK N_)<|Cq aA<|Cq aA<|Cq (by exact dV Z Z Z (show ξ.wrap ((((m+2:Nat):Int) - 1) - 1)=((m:Nat):Int)by rw[IntKind.wrap_i64];omega))<|Cq (jA aZ)<|Cq (fK N_)<|Cq (kc call186 (xc b a _))<|bG<|Kr ?_;refine Cn ?_ ?_<;>intro g
  .have e:jI b a=N:=g;have o:oA l=η:=by
    rw[Bool.eq_false_iff];intro h;rw[KC m h,e]at i
    grind
   rw[o];exact Sz aJ<|aC<|Rt<|Qq
  have e:jI b a=η:=g;refine aB<|Rd aA<|Y (by exact dV Z Z Z (show ξ.wrap ((((m+2:Nat):Int) - 1) - 1)=((m+1:Nat):Int) - 1 by rw[IntKind.wrap_i64];omega))<|Da ?_;refine⟨m+1,⟨X,?_⟩,X,?_⟩
  .simp_all
  exact Wk
 have B:k<=1:=J_ f
 have o:oA l=N:=F_
 rw[o];exact aP<|Sz aJ<|aC<|Rt<|Qq
abbrev uG(l:List B_):List (List AV):=l.map (λe=>(S_ e).map .pv)
theorem aCd(l:List _):∀r∈l.map S_,C r=1:=λr a=>by
 obtain ⟨t,_,rfl⟩:=mem_map.1 a;rfl
theorem Og(l)(H:aF)(B:dI H)(f:H.get 901=ζ)(D:C l<2^40):
  aW φ 153 [.pv (aL l)] H (λr H'=>r=.osl 901 1 0 (C l)/\H'=(901,⟨1,1,9,uG l⟩)::H):=by
 have e:C (l.map S_)=C l:=g_ _;refine Bd func153 Z ntmps153<|Sz aJ<|S<|Sr<|Dm<|tq Z Z (py Z aE Z) ?_;rintro _ H2 ⟨g,b,rfl,h⟩;rw[g];refine Zz<|Cn ?_ ?_<;>intro d
 .have i:=h d;have c:=map_eq_nil_iff.1 i;subst c;refine Sz (cZ (sz:=1) (ty:=9) Z f Z)<|aC ?_;refine cN (.inr Z) Z (aI Z) ((Fin.bump (g:=0) (k:=1) Z Z E_ Z Z Z).trans (Fin.get' (λj=>xR _ _ _ _ j))) ?_;exact Qq
 refine aB<|O (eQ Z aZ Z Z Z Z H_ f)<|Y aA<|Y (bW Z aZ sZ Z Z Z Z Z Z Z (aCd l) e X (r8 _) (show []++(l.map S_).map _=uG l by simp_all))<|V aJ<|aC ?_;refine cN (.inr Z) Z (aI Z) (Fin.get' (λj=>xR _ _ _ _ j)) ?_;exact Qq
theorem M8(n)(H):RC 168 [.pv (.int .u8 n)] (bv (wE n)) H:=by
 refine Pu<|Bd func168 Z ntmps168<|Sz aJ<|S<|aT (t:=2) (n:=18) (A_:=wE n) ?_ ?_
 .all_goals refine Y aA<|Y AN<|Dm ?_<;>(refine Sp 5 (λc=>?_) λc=>?_)<;>(first|refine M<|M ?_|refine U aA<|U EQ ?_)<;>refine Y cE<|Dm ?_<;>(refine Sp 9 (λd=>?_) λd=>?_)<;>(first|refine M<|M<|M ?_|refine U aA<|U AN<|U aA ?_)<;>(first|refine Sp 12 (λb=>?_) λb=>?_|refine kX (t:=12) Z ?_)<;>(first|exact s_|refine M ?_|refine Fu ?_|refine U aA ?_)<;>(first|refine M ?_|refine Fu ?_|refine U EQ ?_)<;>(first|refine M ?_|refine U cE ?_)<;>refine Y cE<|Da ?_<;>exact Gj (h:=by(simp only[wE, *];rfl))
 exact aC<|Rt<|Qq
theorem SO(n)(H):RC 224 [.pv (.int .u8 n)] (bv (yX n)) H:=by
 refine Pu<|Bd func224 Z ntmps224<|Sz aJ<|S<|aT (t:=2) (n:=8) (A_:=yX n) ?_ ?_
 .all_goals refine Y aA<|Y AN<|Dm ?_<;>(refine Sp 5 (λb=>?_) λb=>?_)<;>(first|refine M<|M ?_|refine U aA<|U EQ ?_)<;>refine Y cE<|Da ?_<;>exact Gj (h:=by(simp only[yX, *];rfl))
 exact aC<|Rt<|Qq
def Fl(n:Int):Bool:=(wE n||yX n)||θ (n=95)
theorem Z0(n)(H):RC 167 [.pv (.int .u8 n)] (bv (Fl n)) H:=by
 refine Pu<|Bd func167 Z ntmps167<|Sz aJ<|S<|aT (t:=2) (n:=13) (A_:=Fl n) ?_ ?_
 .all_goals refine Y aA<|Y (bH Z Z call168 Z (M8 n _))<|Dm ?_<;>(refine Sp 5 (λb=>?_) λb=>?_)<;>(first|refine M<|M ?_|refine U aA<|U (bH Z Z call224 Z (SO n _)) ?_)<;>refine Y cE<|Dm ?_<;>(refine Sp 9 (λc=>?_) λc=>?_)<;>(first|exact s_|refine M<|M ?_|refine U aA<|U cG ?_)<;>refine Y cE<|Da ?_<;>exact Gj (h:=by(simp only[Fl, *];rfl))
 exact aC<|Rt<|Qq
theorem Xk:∀n:Fin 256,(θ (zF (n.val)=3)=wE (n.val))/\(θ (zF (n.val)=4)=yX (n.val))/\(θ (zF (n.val)=5)=θ ((n.val:Int)=95)):=by decide +kernel
theorem UN(s)(k):(θ (zF (bA s k)=3)=wE (bA s k))/\(θ (zF (bA s k)=4)=yX (bA s k))/\(θ (zF (bA s k)=5)=θ (bA s k=95)):=by have h:=Xk ⟨(bA s k).toNat,CK s k⟩;exact h
def Xv(s:B_)(k:Nat):Bool:=!Fl (bA s k)
def XC(s:B_):Bool:=!((List.range (T s)).any (Xv s))&&(θ ((0:Int)<(T s:Int))&&θ ((T s:Int)<=24)&&wE (bA s 0))
theorem fg{s}:s=a6↔T s=0:=by
 constructor
 .rintro rfl;rfl
 intro h;exact ByteArray.ext (Array.eq_empty_of_size_eq_zero h)
theorem Ju(s:B_):XC s=cK s:=by
 have m:∀k,lx s k=(!wE (bA s k)&&(θ ((k:Int)=0)||(!yX (bA s k)&&!θ (bA s k=95)))):=λk=>by
  have ⟨a,b,c⟩:=UN s k;rw[lx,a,b,c]
 rw[Bool.eq_iff_iff,XC,cK];simp only[l6,r9,j0,n_,any_eq_false,mem_range,fg,Xv,m];constructor
 .rintro⟨f,⟨l,e⟩,j⟩;refine⟨λk i=>?_,X,e⟩;by_cases g:k=0
  .subst g;simp[j]
  have d:Fl (bA s k)=N:=by
   simp_all
  simp only[Fl,Bool.or_eq_true,j0]at d;rcases d with(h|h)|h
  .simp[h]
  .simp[h,g]
  simp[h,g]
 rintro⟨f,l,e⟩;refine⟨λk i=>?_,⟨X,e⟩,?_⟩
 .have:=f k i;intro d;apply this;simp only[Fl,r9,r6]at d
  simp_all
 have:=f 0 X;cases B:wE (bA s 0)with
 |true=>rfl
 |false=>exact absurd G_ this
theorem Jv(s:B_)(H:aF)(E:T s<2^62):RC 113 [sv s] (bv (XC s)) H:=by
 refine Pu<|Bd func113 Z ntmps113<|Sz aJ<|S<|Sz aJ<|aD<|bC (σ:=Nat) (λk=>([(0,sv s),(3,iv (k:Int))],[])) (λk=>k<=T s/\∀j,j<k->Xv s j=η) (λk=>T s - k) 0 ⟨X,X⟩ ?_ ?_
 .exact E0
 rintro k ⟨hk,i⟩;refine S<|O aA<|Y aA<|Y (gG U_)<|V cF<|Cn ?_ ?_<;>intro d
 .have f:k<T s:=I_ d
  refine aB<|S<|aD<|O aA<|Y aA<|Y (ky U_)<|Y (kc call167 (Z0 (bA s k) _))<|V iE<|Cn ?_ ?_<;>intro b
  .have o:Xv s k=N:=b;refine Sz aJ<|aC<|Rt ?_;exact⟨by rw[XC,uV f o];rfl,Z⟩
  refine aB<|Rd aA<|Y iH<|Da ?_;refine⟨k+1,⟨X,λj D=>?_⟩,X,E0⟩;by_cases e:j=k
  .subst e;exact b
  grind
 have h:k=T s:=J_ d
 have m:XC s=(θ ((0:Int)<(T s:Int))&&θ ((T s:Int)<=24)&&wE (bA s 0)):=by
  subst h;rw[XC,B1 i];rfl
 rw[m];clear m;by_cases n:(0:Int)<(T s:Int)
 .have g:=decide_eq_true n;have B:0<T s:=X
  rw[g,Bool.true_and];by_cases c:(T s:Int)<=24
  .have l:=decide_eq_true c;rw[l,Bool.true_and];exact aP<|O aA<|Y (gG U_)<|Y iZ<|Y aA<|Oa aA<|Oa (gG U_)<|Oa EQ<|Y BO<|Y aA<|Oa aA<|Oa (ky U_)<|Oa (kc call168 (M8 (bA s 0) _))<|Y BO<|V aJ<|aC<|Rt<|Qq
  have l:=decide_eq_false c;rw[l];exact aP<|O aA<|Y (gG U_)<|Y iZ<|Y aA<|Oa aA<|Oa (gG U_)<|Oa EQ<|Y BO<|Y aA<|Fa<|Fa<|Fa<|Y rD<|V aJ<|aC<|Rt<|Qq
 have g:=decide_eq_false n;rw[g];exact aP<|O aA<|Y (gG U_)<|Y iZ<|Y aA<|Fa<|Fa<|Fa<|Y rD<|Y aA<|M<|M<|M<|Y cE<|V aJ<|aC<|Rt<|Qq
theorem lR(s)(H)(a:T s<2^62):RC 113 [sv s] (bv (cK s)) H:=by rw[<-Ju];exact Jv s H a
theorem Js(x y:Int)(H:aF):RC 170 [.agg [iv x,iv y]] (bv (ca x y)) H:=by
 refine Pu<|Bd func170 Z ntmps170<|O (kb 1)<|V aJ<|S<|aT (t:=2) (n:=22) (A_:=ca x y) ?_ ?_
 .all_goals refine Y (bD nE)<|Y (bU M_)<|Y AN<|Dm ?_<;>(refine Sp 6 (λd=>?_) λd=>?_)<;>(first|refine M<|M<|M ?_|refine U (bD nE)<|U (bU M_)<|U cF ?_)<;>refine Y cE<|Dm ?_<;>(refine Sp 11 (λb=>?_) λb=>?_)<;>(first|refine M<|M<|M ?_|refine U (bD nD)<|U (bU M_)<|U AN ?_)<;>refine Y cE<|Dm ?_<;>(refine Sp 16 (λc=>?_) λc=>?_)<;>(first|exact s_|refine M<|M<|M ?_|refine U (bD nD)<|U (bU M_)<|U cF ?_)<;>refine Y cE<|Da ?_<;>exact Gj (h:=by(simp only[ca, *];rfl))
 exact aC<|Rt<|Qq
theorem Au{n:Nat}(a:1<=n)(b:n<=5):[S_ a6,S_ ⟨#[110,111,100,101]⟩,S_ ⟨#[119,97,121]⟩,S_ ⟨#[97,114,101,97]⟩,S_ ⟨#[114,111,117,116,101]⟩,S_ ⟨#[116,117,114,110]⟩][n]?=A (S_ (eP n)):=by
 match n,a,b with
 |1,_,_=>rfl
 |2,_,_=>rfl
 |3,_,_=>rfl
 |4,_,_=>rfl
 |5,_,_=>rfl
 |n+6,_,h=>exact absurd h X
theorem GQ(k:Int)(H:aF):RC 214 [iv k] (sv (eP k)) H:=by
 refine Pu<|Bd func214 Z ntmps214<|Sz aJ<|O (aM [S_ a6,S_ _,S_ _,S_ _,S_ _,S_ _] Z aZ Z Z Z Z Z v8)<|V aJ<|S<|S<|aT (t:=10) (n:=7) (A_:=θ (k<1)||θ (5<k)) ?_ ?_
 .all_goals refine Y aA<|Y cF<|Dm ?_<;>(refine Sp 7 (λd=>?_) λd=>?_)<;>(first|refine M<|M ?_|refine U aA<|U iZ ?_)<;>refine V cE ?_<;>(exact⟨⟨_,Z,G_⟩,Z,Z,Z⟩)
 refine Cn ?_ ?_<;>intro B
 .have b:¬ (k=1)/\¬ (k=2)/\¬ (k=3)/\¬ (k=4)/\¬ (k=5):=by
   grind
  refine Sz aJ<|aC<|Rt ?_;exact⟨by simp only[eP,b.1,b.2.1,b.2.2.1,b.2.2.2.1,b.2.2.2.2,if_false],Z⟩
 obtain ⟨n,rfl⟩:∃n:Nat,k=(n:Int):=⟨k.toNat,G_⟩;have c:1<=n/\n<=5:=by
  grind
 have hi:=Au c.1 c.2;exact aB<|O aA<|Y aA<|Y (jA aZ)<|Y (fK N_)<|V aJ<|aC<|Rt<|Qq
theorem Du(l)(k:Nat)(t a)(c:0<k->l[k - 1]?=A a):(((!cK t.key||θ ((T t.val:Int)<1))||θ (200<(T t.val:Int)))||(θ ((0:Int)<k)&&!jI a.key t.key))=D4 (kW m9.key l k) t:=by
 have d:θ ((T t.val:Int)<1)=θ (t.val=a6):=decide_eq_decide.2 (by rw[fg];omega);rw[d,D4];cases g:cK t.key with
 |false=>simp
 | true =>
  have f:sle t.key (kW m9.key l k)=(θ (0<(k:Int))&&!jI a.key t.key):=by
   cases k with
   | zero =>
    have:jI a6 t.key=N:=by
     cases e:jI a6 t.key with
     |true=>rfl
     |false=>exact absurd (C4 (vk _) e) (T5 g)
    rw[kW,P2.2 this];rfl
   | succ k =>
    have h:=c X;rw[show k+1 - 1=k from rfl]at h;rw[AR h,decide_eq_true (show 0<((k+1:Nat):Int)by omega)];cases e:jI _ t.key with
    |true=>rw[P2.2 e];rfl
    |false =>
     cases b:sle t.key _ with
     |true=>rfl
     |false=>rw[P2]at b;rw[e]at b;cases b
  rw[<-f];cases sle t.key _<;>cases θ (t.val=a6)<;>cases θ (200<(T t.val:Int))<;>rfl
theorem vw(l:List m9)(H:aF)(w:NF l):RC 296 [.pv (qP l)] (bv (tU l)) H:=by
 refine Pu ?_;have ⟨w,u⟩:=w;have E:C (l.map cA)=C l:=g_ _;refine Bd func296 Z ntmps296<|Sz aJ<|S<|O aA<|Y (fJ dY)<|V iZ<|Cn ?_ ?_<;>intro n
 .have f:θ ((C l:Int)<=60)=η:=by
   have:=b8 n;exact decide_eq_false X
  refine Sz aJ<|aC<|Rt ?_;exact⟨by rw[tU,f,Bool.and_false],Z⟩
 have f:θ ((C l:Int)<=60)=N:=by
  have:=b_ n;exact decide_eq_true X
 rw[tU,f,Bool.and_true];refine aB<|S<|Sz aJ<|aD<|bC (σ:=Nat) (λk=>([(0,.pv (qP l)),(3,iv (k:Int))],[])) (λk=>k<=C l/\∀j,j<k->UR D4 m9.key l j=η) (λk=>C l - k) 0 ⟨X,X⟩ ?_ ?_
 .exact E0
 rintro k ⟨hk,hno⟩;refine S<|O aA<|Y aA<|Y (fJ dY)<|V cF<|Cn ?_ ?_<;>intro g
 .have o:k<C l:=I_ g
  have ⟨t,q⟩:=aR o;have hi:=cC (f:=cA) q;have B:=u t (m7 q);have ⟨p,v⟩:∃p,0<k->l[k - 1]?=A p:=by
   grind
  have m:0<k->(l.map cA)[k - 1]?=A (cA p):=λh=>cC (f:=cA) (v h);have i:=Du l k t p v;refine aB<|S<|aD<|S<|lL (t:=55) (n:=43) (A_:=((!cK t.key||θ ((T t.val:Int)<1))||θ (200<(T t.val:Int)))||(θ ((0:Int)<(k:Int))&&!jI p.key t.key)) ?_ ?_
  .cases hg20:(!cK t.key:Bool)
   .cases hg29:(θ ((T t.val:Int)<1):Bool)
    .cases hg38:(θ (200<(T t.val:Int)):Bool)
     .cases hg41:(θ ((0:Int)<(k:Int)):Bool)
      .refine aN a7<|Cq aA<|Cq aA<|Cq (jA lY)<|Cq (FV qK)<|Cq (fK N_)<|Cq (kc gF (lR t.key _ B.1))<|Cq iE<|Cq aA<|Nf aA<|Nf aA<|Nf (jA lY)<|Nf (FV rF)<|Nf (fK N_)<|Nf (gG U_)<|Nf cF<|Cq rD<|Cq aA<|Nf aA<|Nf aA<|Nf (jA lY)<|Nf (FV rF)<|Nf (fK N_)<|Nf (gG U_)<|Nf iZ<|Cq rD<|Cq aA<|Nf aA<|Nf iZ<|Nf aA<|Ot<|Ot<|Ot<|Ot<|Ot<|Ot<|Ot<|Ot<|Ot<|Ot<|Ot<|Ot<|Nf rD<|Cq rD<|bG<|Kr ?_;exact⟨Z,⟨_,Z,by rfl⟩,Z,Z,Z⟩
      refine aN a7<|Cq aA<|Cq aA<|Cq (jA lY)<|Cq (FV qK)<|Cq (fK N_)<|Cq (kc gF (lR t.key _ B.1))<|Cq iE<|Cq aA<|Nf aA<|Nf aA<|Nf (jA lY)<|Nf (FV rF)<|Nf (fK N_)<|Nf (gG U_)<|Nf cF<|Cq rD<|Cq aA<|Nf aA<|Nf aA<|Nf (jA lY)<|Nf (FV rF)<|Nf (fK N_)<|Nf (gG U_)<|Nf iZ<|Cq rD<|Cq aA<|Nf aA<|Nf iZ<|Nf aA<|Nt aA<|Nt aA<|Nt (dV Z Z Z (lZ X X))<|Nt (bS Z lY Z Z (I_ hg41) (show ((k:Int) - 1).toNat=k - 1 by omega) (m (I_ hg41)) Z)<|Nt (FV qK)<|Nt (eB Z N_ Z (m (I_ hg41)) Z)<|Nt aA<|Nt aA<|Nt (jA lY)<|Nt (FV qK)<|Nt (fK N_) ?_;refine Nt (KY Z Z Z)<|Nf BO<|Cq rD<|bG<|Kr ?_;exact⟨Z,⟨_,Z,by rfl⟩,Z,Z,Z⟩
     refine aN a7<|Cq aA<|Cq aA<|Cq (jA lY)<|Cq (FV qK)<|Cq (fK N_)<|Cq (kc gF (lR t.key _ B.1))<|Cq iE<|Cq aA<|Nf aA<|Nf aA<|Nf (jA lY)<|Nf (FV rF)<|Nf (fK N_)<|Nf (gG U_)<|Nf cF<|Cq rD<|Cq aA<|Nf aA<|Nf aA<|Nf (jA lY)<|Nf (FV rF)<|Nf (fK N_)<|Nf (gG U_)<|Nf iZ<|Cq rD<|Cq aA<|Of<|Of<|Of<|Ou<|Ou<|Ou<|Ou<|Ou<|Ou<|Ou<|Ou<|Ou<|Ou<|Ou<|Ou<|Of<|Cq BO<|bG<|Kr ?_;exact⟨Z,⟨_,Z,by rfl⟩,Z,Z,Z⟩
    refine aN a7<|Cq aA<|Cq aA<|Cq (jA lY)<|Cq (FV qK)<|Cq (fK N_)<|Cq (kc gF (lR t.key _ B.1))<|Cq iE<|Cq aA<|Nf aA<|Nf aA<|Nf (jA lY)<|Nf (FV rF)<|Nf (fK N_)<|Nf (gG U_)<|Nf cF<|Cq rD<|Cq aA<|Of<|Of<|Of<|Of<|Of<|Of<|Of<|Cq BO<|Cq aA<|Of<|Of<|Of<|Ou<|Ou<|Ou<|Ou<|Ou<|Ou<|Ou<|Ou<|Ou<|Ou<|Ou<|Ou<|Of<|Cq cE<|bG<|Kr ?_;exact⟨Z,⟨_,Z,by rfl⟩,Z,Z,Z⟩
   refine aN a7<|Cq aA<|Cq aA<|Cq (jA lY)<|Cq (FV qK)<|Cq (fK N_)<|Cq (kc gF (lR t.key _ B.1))<|Cq iE<|Cq aA<|Of<|Of<|Of<|Of<|Of<|Of<|Of<|Cq BO<|Cq aA<|Of<|Of<|Of<|Of<|Of<|Of<|Of<|Cq cE<|Cq aA<|Of<|Of<|Of<|Ou<|Ou<|Ou<|Ou<|Ou<|Ou<|Ou<|Ou<|Ou<|Ou<|Ou<|Ou<|Of<|Cq cE<|bG<|Kr ?_;exact⟨Z,⟨_,Z,by rfl⟩,Z,Z,Z⟩
  refine Cn ?_ ?_<;>intro D
  .rw[i]at D;refine Sz aJ<|aC<|Rt ?_;exact⟨by rw[uV o ((D5 q).trans D)];rfl,Z⟩
  rw[i]at D;refine aB<|Rd aA<|Y iH<|Da ?_;refine⟨k+1,⟨X,λj F=>?_⟩,X,E0⟩;by_cases e:j=k
  .subst e;exact(D5 q).trans D
  grind
 have s:k=C l:=J_ g
 subst s;refine aP<|Sz aJ<|aC<|Rt ?_
 simp_all
theorem Gm(o)(k:Nat)(s p)(a:0<k->o.refs[k - 1]?=A p):
  ((!cK s||((θ (o.kind=2)&&θ (0<(k:Int)))&&θ (p=s)))||(θ (o.kind=3)&&xr (BW o.refs k) s))=NW o (kW id o.refs k) (BW o.refs k) s:=by
 rw[NW,T3];cases c:cK s with
 |false=>simp
 | true =>
  have b:(θ (0<(k:Int))&&θ (p=s))=θ (s=kW id o.refs k):=by
   cases k with
   |zero=>rw[kW,decide_eq_false (T5 c)];rfl
   |succ k =>
    have h:=a X;rw[show k+1 - 1=k from rfl]at h;rw[AR h,decide_eq_true (show 0<((k+1:Nat):Int)by omega)];exact decide_eq_decide.2 eq_comm
  rw[<-b];simp[Bool.and_assoc]
theorem Ix{l}{k}{s}(h:l[k]?=A s):BW l (k+1)=RX (BW l k) s:=by rw[BW,h];rfl
def aB8(k n:Int):Bool:=if k=1 then θ (n=0)else if k=2 then θ (2<=n)else if k=3 then θ (3<=n)else if k=4 then θ (1<=n)else θ (n=3)
def SK(o:l7):Bool:=(θ ((C o.refs:Int)<=2000)&&!((List.range (C o.refs)).any (vK o)))&&aB8 o.kind (C o.refs:Int)
theorem vy(o:l7)(H:aF)(m:mw o):RC 297 [av (bT o)] (bv (SK o)) H:=by
 refine Pu ?_;have ⟨r,u,v,G⟩:=m;have c:C (o.refs.map S_)=C o.refs:=g_ _;refine Bd func297 Z ntmps297<|O (kb 1)<|V aJ<|O (bD eJ)<|Y (bU aG)<|Y (fJ aE)<|V aJ<|S<|O aA<|V iZ<|Cn ?_ ?_<;>intro J
 .have a:θ ((C o.refs:Int)<=2000)=η:=by
   have:=b8 J;exact decide_eq_false X
  refine Sz aJ<|aC<|Rt ?_;exact⟨by rw[SK,a];rfl,Z⟩
 have a:θ ((C o.refs:Int)<=2000)=N:=by
  have:=b_ J;exact decide_eq_true X
 rw[SK,a,Bool.true_and];refine aB<|O (vZ (id:=11) J9 Z Z)<|V aJ<|S<|Sz aJ<|aD<|bC (σ:=Nat) (λk=>([(1,.ref 1 0 0 0),(3,iv (C (o.refs.map S_):Int)),(4,.mp 11 0),(5,iv (k:Int))],[(11,sob (BW o.refs k)),(1,bx 6 135 ((bT o).map .pv))])) (λk=>k<=C o.refs/\∀j,j<k->vK o j=η) (λk=>C o.refs - k) 0 ⟨X,X⟩ ?_ ?_
 .exact L_
 rintro k ⟨hk,hno⟩;refine S<|O aA<|Y aA<|V cF<|Cn ?_ ?_<;>intro K
 .have hlt:k<C o.refs:=I_ K
  have ⟨s,E⟩:=aR hlt;have hi:=cC (f:=S_) E;have ⟨p,W⟩:∃p,0<k->o.refs[k - 1]?=A p:=by
   by_cases q:0<k
   .have ⟨p,W⟩:=aR (l:=o.refs) (k:=k - 1) X;exact⟨p,λ_=>W⟩
   exact⟨s,λh=>absurd h q⟩
  have D:0<k->(o.refs.map S_)[k - 1]?=A (S_ p):=λh=>cC (f:=S_) (W h);have I:=Gm o k s p W;have i:vK o k=NW o (kW id o.refs k) (BW o.refs k) s:=by rw[vK,E]
  have d:=Ix E;refine aB<|S<|aD<|S<|S<|lL (t:=60) (n:=44) (A_:=(!cK s||((θ (o.kind=2)&&θ ((0:Int)<(k:Int)))&&θ (p=s)))||(θ (o.kind=3)&&xr (BW o.refs k) s)) ?_ ?_
  .cases hg24:(!cK s:Bool)
   .cases hg28:(θ (o.kind=2):Bool)
    .cases hg51:(θ (o.kind=3):Bool)
     .refine aN a7<|Cq (bD eJ)<|Cq (bU aG)<|Cq aA<|Cq (jA aZ)<|Cq (fK N_)<|Cq (kc gF (lR s _ (G s (m7 E))))<|Cq iE<|Cq aA<|Nf (bD eK)<|Nf (bU M_)<|Nf cG<|Nf aA<|Ot<|Ot<|Nf rD<|Nf aA<|Ot<|Ot<|Ot<|Ot<|Ot<|Ot<|Ot<|Ot<|Ot<|Ot<|Ot<|Ot<|Nf cE<|Cq rD<|Cq aA<|Nf (bD eK)<|Nf (bU M_)<|Nf cG<|Nf aA<|Ot<|Ot<|Ot<|Ot<|Ot<|Ot<|Ot<|Nf rD<|Cq cE<|bG<|Kr ?_;exact⟨Z,⟨_,Z,by rfl⟩,Z,Z,Z⟩
     refine aN a7<|Cq (bD eJ)<|Cq (bU aG)<|Cq aA<|Cq (jA aZ)<|Cq (fK N_)<|Cq (kc gF (lR s _ (G s (m7 E))))<|Cq iE<|Cq aA<|Nf (bD eK)<|Nf (bU M_)<|Nf cG<|Nf aA<|Ot<|Ot<|Nf rD<|Nf aA<|Ot<|Ot<|Ot<|Ot<|Ot<|Ot<|Ot<|Ot<|Ot<|Ot<|Ot<|Ot<|Nf cE<|Cq rD<|Cq aA<|Nf (bD eK)<|Nf (bU M_)<|Nf cG<|Nf aA<|Nt aA<|Nt (bD eJ)<|Nt (bU aG)<|Nt aA<|Nt (jA aZ)<|Nt (fK N_)<|Nt (by exact xF Z mQ U_ Z Z Z Z Z jG (.inl Z))<|Nf BO<|Cq cE<|bG<|Kr ?_;exact⟨Z,⟨_,Z,by rfl⟩,Z,Z,Z⟩
    cases B:(θ ((0:Int)<(k:Int)):Bool)
    .cases hg51:(θ (o.kind=3):Bool)
     .refine aN a7<|Cq (bD eJ)<|Cq (bU aG)<|Cq aA<|Cq (jA aZ)<|Cq (fK N_)<|Cq (kc gF (lR s _ (G s (m7 E))))<|Cq iE<|Cq aA<|Nf (bD eK)<|Nf (bU M_)<|Nf cG<|Nf aA<|Nt aA<|Nt iZ<|Nf BO<|Nf aA<|Ot<|Ot<|Ot<|Ot<|Ot<|Ot<|Ot<|Ot<|Ot<|Ot<|Ot<|Ot<|Nf rD<|Cq rD<|Cq aA<|Nf (bD eK)<|Nf (bU M_)<|Nf cG<|Nf aA<|Ot<|Ot<|Ot<|Ot<|Ot<|Ot<|Ot<|Nf rD<|Cq cE<|bG<|Kr ?_;exact⟨Z,⟨_,Z,by rfl⟩,Z,Z,Z⟩
     refine aN a7<|Cq (bD eJ)<|Cq (bU aG)<|Cq aA<|Cq (jA aZ)<|Cq (fK N_)<|Cq (kc gF (lR s _ (G s (m7 E))))<|Cq iE<|Cq aA<|Nf (bD eK)<|Nf (bU M_)<|Nf cG<|Nf aA<|Nt aA<|Nt iZ<|Nf BO<|Nf aA<|Ot<|Ot<|Ot<|Ot<|Ot<|Ot<|Ot<|Ot<|Ot<|Ot<|Ot<|Ot<|Nf rD<|Cq rD<|Cq aA<|Nf (bD eK)<|Nf (bU M_)<|Nf cG<|Nf aA<|Nt aA<|Nt (bD eJ)<|Nt (bU aG)<|Nt aA<|Nt (jA aZ)<|Nt (fK N_)<|Nt (by exact xF Z mQ U_ Z Z Z Z Z jG (.inl Z))<|Nf BO<|Cq cE<|bG<|Kr ?_;exact⟨Z,⟨_,Z,by rfl⟩,Z,Z,Z⟩
    cases g:(θ (p=s):Bool)
    .cases hg51:(θ (o.kind=3):Bool)
     .refine aN a7<|Cq (bD eJ)<|Cq (bU aG)<|Cq aA<|Cq (jA aZ)<|Cq (fK N_)<|Cq (kc gF (lR s _ (G s (m7 E))))<|Cq iE<|Cq aA<|Nf (bD eK)<|Nf (bU M_)<|Nf cG<|Nf aA<|Nt aA<|Nt iZ<|Nf BO<|Nf aA<|Nt (bD eJ)<|Nt (bU aG)<|Nt aA<|Nt (dV Z Z Z (lZ X X))<|Nt (bS Z aZ Z Z (I_ B) (show ((k:Int) - 1).toNat=k - 1 by omega) (D (I_ B)) Z)<|Nt (eB Z N_ Z (D (I_ B)) Z)<|Nt (bD eJ)<|Nt (bU aG)<|Nt aA<|Nt (jA aZ)<|Nt (fK N_)<|Nt vT<|Nf BO<|Cq rD<|Cq aA<|Nf (bD eK)<|Nf (bU M_)<|Nf cG<|Nf aA<|Ot<|Ot<|Ot ?_;refine Ot<|Ot<|Ot<|Ot<|Nf rD<|Cq rD<|bG<|Kr ?_;exact⟨Z,⟨_,Z,by rfl⟩,Z,Z,Z⟩
     refine aN a7<|Cq (bD eJ)<|Cq (bU aG)<|Cq aA<|Cq (jA aZ)<|Cq (fK N_)<|Cq (kc gF (lR s _ (G s (m7 E))))<|Cq iE<|Cq aA<|Nf (bD eK)<|Nf (bU M_)<|Nf cG<|Nf aA<|Nt aA<|Nt iZ<|Nf BO<|Nf aA<|Nt (bD eJ)<|Nt (bU aG)<|Nt aA<|Nt (dV Z Z Z (lZ X X))<|Nt (bS Z aZ Z Z (I_ B) (show ((k:Int) - 1).toNat=k - 1 by omega) (D (I_ B)) Z)<|Nt (eB Z N_ Z (D (I_ B)) Z)<|Nt (bD eJ)<|Nt (bU aG)<|Nt aA<|Nt (jA aZ)<|Nt (fK N_)<|Nt vT<|Nf BO<|Cq rD<|Cq aA<|Nf (bD eK)<|Nf (bU M_)<|Nf cG<|Nf aA<|Nt aA<|Nt (bD eJ) ?_;refine Nt (bU aG)<|Nt aA<|Nt (jA aZ)<|Nt (fK N_)<|Nt (xF Z mQ U_ Z Z Z Z Z jG (.inl Z))<|Nf BO<|Cq rD<|bG<|Kr ?_;exact⟨Z,⟨_,Z,by rfl⟩,Z,Z,Z⟩
    refine aN a7<|Cq (bD eJ)<|Cq (bU aG)<|Cq aA<|Cq (jA aZ)<|Cq (fK N_)<|Cq (kc gF (lR s _ (G s (m7 E))))<|Cq iE<|Cq aA<|Nf (bD eK)<|Nf (bU M_)<|Nf cG<|Nf aA<|Nt aA<|Nt iZ<|Nf BO<|Nf aA<|Nt (bD eJ)<|Nt (bU aG)<|Nt aA<|Nt (dV Z Z Z (lZ X X))<|Nt (bS Z aZ Z Z (I_ B) (show ((k:Int) - 1).toNat=k - 1 by omega) (D (I_ B)) Z)<|Nt (eB Z N_ Z (D (I_ B)) Z)<|Nt (bD eJ)<|Nt (bU aG)<|Nt aA<|Nt (jA aZ)<|Nt (fK N_)<|Nt vT<|Nf BO<|Cq rD<|Cq aA<|Of<|Of<|Of<|Of<|Ou<|Ou<|Ou<|Ou<|Ou<|Ou<|Ou<|Of<|Cq BO<|bG<|Kr ?_;exact⟨Z,⟨_,Z,by rfl⟩,Z,Z,Z⟩
   refine aN a7<|Cq (bD eJ)<|Cq (bU aG)<|Cq aA<|Cq (jA aZ)<|Cq (fK N_)<|Cq (kc gF (lR s _ (G s (m7 E))))<|Cq iE<|Cq aA<|Of<|Of<|Of<|Of<|Ou<|Ou<|Of<|Of<|Ou<|Ou<|Ou<|Ou<|Ou<|Ou<|Ou<|Ou<|Ou<|Ou<|Ou<|Ou<|Of<|Cq BO<|Cq aA<|Of<|Of<|Of<|Of<|Ou<|Ou<|Ou<|Ou<|Ou<|Ou<|Ou<|Of<|Cq cE<|bG<|Kr ?_;exact⟨Z,⟨_,Z,by rfl⟩,Z,Z,Z⟩
  refine Cn ?_ ?_<;>intro F
  .rw[I,<-i]at F;refine Sz aJ<|aC<|Rt ?_;exact⟨by rw[uV hlt F];rfl,Z⟩
  rw[I,<-i]at F;refine aB<|Rd aA<|Y (bD eJ)<|Y (bU aG)<|Y aA<|Y (jA aZ)<|Y (fK N_)<|Uu (by exact WI (.inl Z) mQ U_ Z Z Z Z Z Z Z)<|Zz<|Rd aA<|Y iH<|Da ?_;refine⟨k+1,⟨X,λj w=>?_⟩,X,?_⟩
  .by_cases e:j=k
   .subst e;exact F
   exact hno j X
  rw[d];exact L_
 have b:k=C o.refs:=J_ K
 subst b;rw[B1 hno,Bool.not_false,Bool.true_and,aB8,<-c];refine aP<|S<|O (bD eK)<|V (bU M_)<|aD<|O cG<|Da<|Cn ?_ ?_<;>intro L
 .rw[b6 (b8 L)];exact O aA<|Y cG<|V aJ<|aC<|Rt<|Qq
 rw[a8 (b_ L)];refine O cG<|Da<|Cn ?_ ?_<;>intro P
 .rw[b6 (b8 P)];exact O aA<|Y AN<|V aJ<|aC<|Rt<|Qq
 rw[a8 (b_ P)];refine O cG<|Da<|Cn ?_ ?_<;>intro Q
 .rw[b6 (b8 Q)];exact O aA<|Y AN<|V aJ<|aC<|Rt<|Qq
 rw[a8 (b_ Q)];refine O cG<|Da<|Cn ?_ ?_<;>intro R
 .rw[b6 (b8 R)];exact O aA<|Y AN<|V aJ<|aC<|Rt<|Qq
 rw[a8 (b_ R)];exact aB<|O aA<|Y cG<|V aJ<|aC<|Rt<|Qq
def Zh(o:l7):Bool:=if o.kind=1 then ca o.x o.y else(θ (o.x=0)&&θ (o.y=0))
theorem Ty(o):((((cK o.id&&!θ (eP o.kind=a6))&&Zh o)&&tU o.tags)&&SK o)=oY o:=by
 cases f:θ (eP _=a6)with
 |true=>simp[oY,OY,wU,f]
 |false =>
  have D:=BR f;have B:¬ o.kind=0:=λe=>by rw[e]at f;simp[eP]at f
  simp only[oY,OY,wU,f,SK,Zh,T6,aB8,FT];generalize cK o.id=a;generalize tU o.tags=b;generalize (List.range _).any _=w;generalize ca o.x o.y=c;generalize (θ (o.x=0)&&θ (o.y=0))=d;generalize o.kind=k at *;rcases(by omega:k=1\/k=2\/k=3\/k=4\/k=5)with rfl|rfl|rfl|rfl|rfl<;>cases a<;>cases b<;>cases w<;>cases c<;>cases d<;>rw[Bool.eq_iff_iff]<;>simp<;>omega
theorem y6{p:Prop}(h:p:=by exact aX Z eN sizeOf104 Z Z Z Z (by simp only[Zl,cA,bT,S_];rfl) Z):p:=h
theorem z6{p:Prop}(h:p:=by simp only[Zl,cA,bT,S_];rfl):p:=h
theorem Jt(o:l7)(H:aF)(f:mw o):RC 261 [av (bT o)] (bv (oY o)) H:=by
 refine Pu ?_;rw[<-Ty];refine Bd func261 Z ntmps261<|O (kb 1)<|V aJ<|O (bD nC)<|Y y6<|Y (kc call170 (Js o.x o.y _))<|V aJ<|S<|O (bD eK)<|Y (bU M_)<|V yQ ?_;refine Cn ?_ ?_<;>intro g
 .have i:Zh o=(θ (o.x=0)&&θ (o.y=0)):=by
   have h:(!θ (o.kind=1))=N:=g;rw[Zh,a8 F_]
  refine Rd (bD nC)<|Y y6<|Y (pB MC)<|Y (B7 Z Z Z Z Z mZ (SB _ _ _ _))<|V aJ<|S ?_;refine aT (t:=2) (n:=26) (A_:=(((cK o.id&&!θ (eP o.kind=a6))&&Zh o)&&tU o.tags)&&SK o) ?_ ?_
  .all_goals refine Y (bD rI)<|Y (bU N_)<|Y (kc gF (lR o.id _ f.1))<|Dm ?_<;>(refine Sp 17 (λd=>?_) λd=>?_)<;>(first|exact s_|refine M<|M<|M<|M ?_|refine U (bD eK)<|U (bU M_)<|U (kc call214 (GQ o.kind _))<|U EN ?_)<;>refine Y cE<|Dm ?_<;>(refine Sp 23 (λb=>?_) λb=>?_)<;>(first|exact s_|refine M ?_|refine U aA ?_)<;>refine Y cE<|Dm ?_<;>(refine Sp 26 (λe=>?_) λe=>?_)<;>(first|exact s_|refine M<|M<|M ?_|refine U (bD gJ)<|U (bU dN)<|U (kc call296 (vw o.tags _ f.2.1)) ?_)<;>refine Y cE<|Dm ?_<;>(refine Sp 31 (λc=>?_) λc=>?_)<;>(first|exact s_|refine M<|M ?_|refine U (by exact aX Z cD sizeOf135 Z Z Z Z z6 Z)<|U (kc call297 (vy o _ f)) ?_)<;>refine Y cE<|Da ?_<;>exact Gj (h:=by simp_all)
  exact aC<|Rt<|Qq
 have i:Zh o=ca o.x o.y:=by
  have h:(!θ (o.kind=1))=η:=g;rw[Zh,b6 F_]
 refine aB<|S<|aT (t:=2) (n:=26) (A_:=(((cK o.id&&!θ (eP o.kind=a6))&&Zh o)&&tU o.tags)&&SK o) ?_ ?_
 .all_goals refine Y (bD rI)<|Y (bU N_)<|Y (kc gF (lR o.id _ f.1))<|Dm ?_<;>(refine Sp 17 (λd=>?_) λd=>?_)<;>(first|exact s_|refine M<|M<|M<|M ?_|refine U (bD eK)<|U (bU M_)<|U (kc call214 (GQ o.kind _))<|U EN ?_)<;>refine Y cE<|Dm ?_<;>(refine Sp 23 (λb=>?_) λb=>?_)<;>(first|exact s_|refine M ?_|refine U aA ?_)<;>refine Y cE<|Dm ?_<;>(refine Sp 26 (λe=>?_) λe=>?_)<;>(first|exact s_|refine M<|M<|M ?_|refine U (bD gJ)<|U (bU dN)<|U (kc call296 (vw o.tags _ f.2.1)) ?_)<;>refine Y cE<|Dm ?_<;>(refine Sp 31 (λc=>?_) λc=>?_)<;>(first|exact s_|refine M<|M ?_|refine U (by exact aX Z cD sizeOf135 Z Z Z Z z6 Z)<|U (kc call297 (vy o _ f)) ?_)<;>refine Y cE<|Da ?_<;>exact Gj (h:=by simp_all)
 exact aC<|Rt<|Qq
def cc{α:Type}(e:α->α->Bool)(a b:List α):Bool:=θ (C a=C b)&&(List.range (C a)).all λk=>match a[k]?,b[k]? with|some x,A y=>e x y|_,_=>N
theorem km{e}(B:∀x y,e x y=N↔x=y){a b:List α}:cc e a b=N↔a=b:=by
 constructor
 .intro h;simp[cc,l6,j0,all_eq_true,mem_range]at h;apply ext_getElem h.1
  grind
 simp[cc,l6,j0,all_eq_true,mem_range,true_and]
 simp_all
theorem ko{e}{a b}{k:Nat}{x y:α}(B:a[k]?=A x)(D:b[k]?=A y)(h:e x y=η):cc e a b=η:=by
 rw[cc]
 grind
theorem YJ{e}{a b:List α}(B:C a=C b)(h:∀k,k<C a->∀x y,a[k]?=A x->b[k]?=A y->e x y=N):cc e a b=N:=by
 simp[cc,l6,j0,all_eq_true,mem_range]
 simp_all
def OL(a b:B_):Bool:=θ (a=b)
theorem zz(a b):OL a b=N↔a=b:=by simp[OL]
def JE(a b:l7):Bool:=θ (a.id=b.id)&&θ (a.kind=b.kind)&&(θ (a.x=b.x)&&θ (a.y=b.y))&&θ (C a.refs=C b.refs)&&θ (C a.tags=C b.tags)
def NX(a b:l7):Bool:=JE a b&&(cc OL a.refs b.refs&&cc xA a.tags b.tags)
theorem rv{a b}:NX a b=N↔a=b:=by
 rw[NX,l6,l6,km zz,km WU];cases a;cases b;simp[JE,l6,j0,l7.mk.injEq]
 grind
def TZ(a b:l7)(B D E F:Int):Bool:=!θ (a.id=b.id)||!θ (a.kind=b.kind)||!(θ (a.x=b.x)&&θ (a.y=b.y))||!θ (B=D)||!θ (E=F)
theorem X9(a b):TZ a b (C (a.refs.map S_)) (C (b.refs.map S_)) (C (a.tags.map cA)) (C (b.tags.map cA))=!JE a b:=by simp[TZ,JE,g_,Bool.not_and,Int.natCast_inj]
theorem Ja(a b:l7)(H:aF)(e:C a.refs<2^62)(W:C a.tags<2^62):RC 265 [av (bT a),av (bT b)] (bv (NX a b)) H:=by
 refine Pu ?_;have c:C (a.refs.map S_)=C a.refs:=g_ _;have d:C (a.tags.map cA)=C a.tags:=g_ _;refine Bd func265 Z ntmps265<|O (kb 2)<|Y (kb 3)<|V aJ<|S<|S<|aT (t:=43) (n:=41) (A_:=TZ a b (C (a.refs.map S_):Int) (C (b.refs.map S_):Int) (C (a.tags.map cA):Int) (C (b.tags.map cA):Int)) ?_ ?_
 .all_goals refine Y (bD rI)<|Y (bU N_)<|Y (bD rI)<|Y (bU N_)<|Y EN<|Dm ?_<;>(refine Sp 12 (λE=>?_) λE=>?_)<;>(first|exact s_|refine M<|M<|M<|M<|M ?_|refine U (bD eK)<|U (bU M_)<|U (bD eK)<|U (bU M_)<|U yQ ?_)<;>refine Y cE<|Dm ?_<;>(refine Sp 19 (λg=>?_) λg=>?_)<;>(first|exact s_|refine M<|M<|M<|M<|M ?_|refine U (bD nC)<|U y6<|U (bD nC)<|U y6<|U (K7 Z Z Z Z Z mZ (SB _ _ _ _)) ?_)<;>refine Y cE<|Dm ?_<;>(refine Sp 26 (λz=>?_) λz=>?_)<;>(first|exact s_|refine M<|M<|M<|M<|M<|M<|M ?_|refine U (bD eJ)<|U (bU aG)<|U (fJ aE)<|U (bD eJ)<|U (bU aG)<|U (fJ aE)<|U yQ ?_)<;>refine Y cE<|Dm ?_<;>(refine Sp 35 (λw=>?_) λw=>?_)<;>(first|exact s_|refine M<|M<|M<|M<|M<|M<|M ?_|refine U (bD gJ)<|U (bU dN)<|U (fJ dY)<|U (bD gJ)<|U (bU dN)<|U (fJ dY)<|U yQ ?_)<;>refine V cE ?_<;>exact Gj (h:=by first|(simp only[TZ, *];rfl)|(simp_all[TZ];done))
 refine Cn ?_ ?_<;>intro q
 .rw[X9]at q;refine Sz aJ<|aC<|Rt ?_;refine⟨?_,Z⟩;have:JE a b=η:=F_
  rw[NX,this];rfl
 rw[X9]at q;have F:JE a b=N:=F_
 have J:C a.refs=C b.refs/\C a.tags=C b.tags:=by
  simp only[JE,l6,j0]at F;omega
 have ⟨B,D⟩:=J;rw[NX,F,Bool.true_and];refine aB<|S<|Sz aJ<|aD<|bC (σ:=Nat) (λk=>([(2,.ref 2 0 0 0),(3,.ref 3 0 0 0),(5,iv (k:Int))],[(3,bx 6 135 ((bT b).map .pv)),(2,bx 6 135 ((bT a).map .pv))])) (λk=>k<=C a.refs/\∀j,j<k->∀x y,a.refs[j]?=A x->b.refs[j]?=A y->OL x y=N) (λk=>C a.refs - k) 0 ⟨X,X⟩ ?_ ?_
 .exact Wk
 rintro k ⟨I,s⟩;refine S<|O aA<|Y (bD eJ)<|Y (bU aG)<|Y (fJ aE)<|V cF<|Cn ?_ ?_<;>intro v
 .have hlt:k<C a.refs:=I_ v
  have ⟨x,n⟩:=aR hlt;have ⟨y,p⟩:=aR (l:=b.refs) (k:=k) X;have m4:=cC (f:=S_) n;have Q:=cC (f:=S_) p;refine aB<|S<|aD<|S<|aN a7<|Cq (bD eJ)<|Cq (bU aG)<|Cq aA<|Cq (jA aZ)<|Cq (fK N_)<|Cq (bD eJ)<|Cq (bU aG)<|Cq aA<|Cq (jA aZ)<|Cq (fK N_)<|Cq EN<|bG<|Kr<|Cn ?_ ?_<;>intro t
  .have u:OL x y=η:=by
    have h:(!OL x y)=N:=t
    simpa using h
   refine Sz aJ<|aC<|Rt ?_;exact⟨by rw[ko n p u];rfl,Z⟩
  have u:OL x y=N:=by
   have h:(!OL x y)=η:=t
   simpa using h
  refine aB<|Rd aA<|Y iH<|Da ?_;refine⟨k+1,⟨X,λj K G L R P=>?_⟩,X,Wk⟩
  grind
 have E:k=C a.refs:=J_ v
 subst E;rw[YJ B s,Bool.true_and];refine aP<|S<|Sz aJ<|aD<|bC (σ:=Nat) (λk=>([(2,.ref 2 0 0 0),(3,.ref 3 0 0 0),(6,iv (k:Int))],[(3,bx 6 135 ((bT b).map .pv)),(2,bx 6 135 ((bT a).map .pv))])) (λk=>k<=C a.tags/\∀j,j<k->∀x y,a.tags[j]?=A x->b.tags[j]?=A y->xA x y=N) (λk=>C a.tags - k) 0 ⟨X,X⟩ ?_ ?_
 .exact Wk
 rintro k ⟨I,hall2⟩;refine S<|O aA<|Y (bD gJ)<|Y (bU dN)<|Y (fJ dY)<|V cF<|Cn ?_ ?_<;>intro m
 .have hlt:k<C a.tags:=I_ m
  have ⟨x,n⟩:=aR hlt;have ⟨y,p⟩:=aR (l:=b.tags) (k:=k) X;have m4:=cC (f:=cA) n;have Q:=cC (f:=cA) p;refine aB<|S<|aD<|S<|aN a7<|Cq (bD gJ)<|Cq (bU dN)<|Cq aA<|Cq (jA lY)<|Cq (by exact eY Z xV mC Z X z6 Z)<|Cq (bD gJ)<|Cq (bU dN)<|Cq aA<|Cq (jA lY)<|Cq (by exact eY Z xV mC Z X z6 Z)<|Cq (K7 Z Z Z Z Z eqGuardType270 (Ys _ _ _ _))<|bG<|Kr ?_;refine Cn ?_ ?_<;>intro o
  .have u:xA x y=η:=by
    have h:(!xA x y)=N:=o
    simpa using h
   refine Sz aJ<|aC<|Rt ?_;exact⟨by rw[ko n p u],Z⟩
  have u:xA x y=N:=by
   have h:(!xA x y)=η:=o
   simpa using h
  refine aB<|Rd aA<|Y iH<|Da ?_;refine⟨k+1,⟨X,λj K G L R P=>?_⟩,X,Wk⟩
  grind
 have E:k=C a.tags:=J_ m
 subst E;refine aP<|Sz aJ<|aC<|Rt ?_;exact⟨by rw[YJ D hall2],Z⟩
theorem Cu(a b):NX a b=zA a b:=by rw[Bool.eq_iff_iff,rv,JF]
theorem Tv(a b)(H)(d:C a.refs<2^62)(c:C a.tags<2^62):RC 265 [av (bT a),av (bT b)] (bv (zA a b)) H:=by rw[<-Cu];exact Ja a b H d c
def raw(e:b9)(s:B_):Prop:=s=e.id\/s=e.other\/s=e.node\/s=e.obj.id\/s∈e.refs\/s∈e.obj.refs
def rb(b:b9):Bool:=((((((!θ (b.id=a6)||!θ (b.other=a6))||!θ (b.node=a6))||!(θ (b.x=0)&&θ (b.y=0)))||!θ (b.key=a6))||!θ (b.val=a6))||θ ((0:Int)<(C (b.refs.map S_):Int)))||!zA b.obj j7
theorem IW(b):rb b=η↔(b.id=a6/\b.other=a6/\b.node=a6/\(b.x=0/\b.y=0)/\b.key=a6/\b.val=a6/\b.refs=[]/\b.obj=j7):=by
 have a:θ (0<(C (b.refs.map S_)))=η↔b.refs=[]:=H_
 simp[rb,r6,Bool.not_eq_false',l6,j0,a,JF];constructor;all_goals simp_all
theorem wS(x y):qh x y=ca x y:=by rw[Bool.eq_iff_iff];simp[qh,ca,l6,j0];omega
theorem FJ:(T a6:Int)<=200:=E_
def Pg(e:b9):b9:=⟨e.op,e.id,e.other,e.node,e.x,e.y,e.key,e.val,e.refs,j7⟩
theorem ed1(e)(B:e.op=1):gN e=(!rb (Pg e)&&oY e.obj):=by
 have ⟨op,id,a,b,x,y,g,f,c,d⟩:=e;have h:=IW (Pg ⟨1,id,a,b,x,y,g,f,c,d⟩);rw[Bool.eq_iff_iff];simp[Pg]at h |-;simp[gN,l6,r9,h,pX,wS,xL,GD]
 grind
def Pf(e:b9):b9:=⟨e.op,a6,e.other,e.node,0,0,e.key,e.val,e.refs,e.obj⟩
theorem ed2(e)(B:e.op=2):gN e=(!rb (Pf e)&&([e.id].all cK&&(θ ((T e.val:Int)<=200)&&ca e.x e.y))):=by
 have ⟨op,id,a,b,x,y,g,f,c,d⟩:=e;have i:=IW (Pf ⟨2,id,a,b,x,y,g,f,c,d⟩);rw[Bool.eq_iff_iff];simp[Pf]at i |-;simp[gN,l6,r9,i,pX,wS,xL,GD];simp only[Int.reduceEq,if_true,if_false,reduceIte,Int.reduceLE,decide_true,b9.mk.injEq,true_and,and_true,all_cons,List.all_nil,Bool.and_true,l6,wS,j0,r9,r6,n_,g_,eq_comm,eq_comm,eq_comm,eq_comm];constructor
 .intro h;have D:=FJ
  simp_all
 simp_all
def Pe(e:b9):b9:=⟨e.op,a6,e.other,e.node,e.x,e.y,a6,a6,e.refs,e.obj⟩
theorem ed3(e)(B:e.op=3):gN e=(!rb (Pe e)&&([e.id,e.key].all cK&&θ ((T e.val:Int)<=200))):=by
 have ⟨op,id,a,b,x,y,g,f,c,d⟩:=e;have h:=IW (Pe ⟨3,id,a,b,x,y,g,f,c,d⟩);rw[Bool.eq_iff_iff];simp[Pe]at h |-;simp[gN,l6,r9,h,pX,wS,xL,GD]
 grind
def Pd(e:b9):b9:=⟨e.op,a6,e.other,e.node,e.x,e.y,e.key,e.val,[],e.obj⟩
theorem ed4(e)(B:e.op=4):gN e=(!rb (Pd e)&&((e.id::e.refs).all cK&&(!(θ ((C (e.refs.map S_):Int)<1)||θ (2000<(C (e.refs.map S_):Int)))&&θ ((T e.val:Int)<=200)))):=by
 have ⟨op,id,b,c,x,y,i,f,d,g⟩:=e;have j:=IW (Pd ⟨4,id,b,c,x,y,i,f,d,g⟩);rw[Bool.eq_iff_iff];simp[Pd]at j |-;simp[gN,l6,r9,j,pX,wS,xL,GD];simp only[Int.reduceEq,if_true,if_false,reduceIte,Int.reduceLE,decide_true,b9.mk.injEq,true_and,and_true,all_cons,List.all_nil,Bool.and_true,l6,wS,j0,r9,r6,n_,g_,eq_comm,eq_comm,eq_comm,eq_comm];constructor
 .intro h;have D:=FJ
  simp_all
  omega
 grind
def Pc(e:b9):b9:=⟨e.op,a6,e.other,e.node,e.x,e.y,e.key,e.val,e.refs,e.obj⟩
theorem ed5(e)(i:e.op=5):gN e=(!rb (Pc e)&&([e.id].all cK&&θ ((T e.val:Int)<=200))):=by
 have ⟨op,id,a,b,x,y,g,f,c,d⟩:=e;subst i;have h:=IW (Pc ⟨5,id,a,b,x,y,g,f,c,d⟩);rw[Bool.eq_iff_iff];simp[Pc]at h |-;simp[gN,l6,r9,h,pX,wS,xL,GD];simp only[Int.reduceEq,if_true,if_false,reduceIte,Int.reduceLE,decide_true,b9.mk.injEq,true_and,and_true,all_cons,List.all_nil,Bool.and_true,l6,wS,j0,r9,r6,n_,g_,eq_comm,eq_comm,eq_comm,eq_comm];constructor
 .have hs:=FJ
  simp_all
 simp_all
def Pb(e:b9):b9:=⟨e.op,a6,a6,a6,e.x,e.y,e.key,e.val,e.refs,e.obj⟩
theorem ed6(e)(i:e.op=6):gN e=(!rb (Pb e)&&([e.id,e.node,e.other].all cK&&θ ((T e.val:Int)<=200))):=by
 have ⟨op,id,a,b,x,y,g,f,c,d⟩:=e;subst i;have h:=IW (Pb ⟨6,id,a,b,x,y,g,f,c,d⟩);rw[Bool.eq_iff_iff];simp[Pb]at h |-;simp[gN,l6,r9,h,pX,wS,xL,GD];simp only[Int.reduceEq,if_true,if_false,reduceIte,Int.reduceLE,decide_true,b9.mk.injEq,true_and,and_true,all_cons,List.all_nil,Bool.and_true,l6,wS,j0,r9,r6,n_,g_,eq_comm,eq_comm,eq_comm,eq_comm];constructor
 .have hs:=FJ
  simp_all
 simp_all
def Pa(e:b9):b9:=⟨e.op,a6,a6,e.node,e.x,e.y,e.key,e.val,e.refs,e.obj⟩
theorem ed7(e)(i:e.op=7):gN e=(!rb (Pa e)&&([e.id,e.other].all cK&&θ ((T e.val:Int)<=200))):=by
 have ⟨op,id,a,b,x,y,g,f,c,d⟩:=e;subst i;have h:=IW (Pa ⟨7,id,a,b,x,y,g,f,c,d⟩);rw[Bool.eq_iff_iff];simp[Pa]at h |-;simp[gN,l6,r9,h,pX,wS,xL,GD];simp only[Int.reduceEq,if_true,if_false,reduceIte,Int.reduceLE,decide_true,b9.mk.injEq,true_and,and_true,all_cons,List.all_nil,Bool.and_true,l6,wS,j0,r9,r6,n_,g_,eq_comm,eq_comm,eq_comm,eq_comm];constructor
 .have hs:=FJ
  simp_all
 simp_all
abbrev fN(l:List B_):List (List AV):=l.map (λs=>(S_ s).map .pv)
theorem zZ(l m):fN l++(m.map S_).map (·.map .pv)=fN (l++m):=H_
theorem xH(H)(l):∀r∈fN l,∀a∈r,Clo H a:=cg _ _ _
instance(H)(l):W_ (H) (fN l):=⟨xH H l⟩
theorem J7(l:List _):∀r∈l.map S_,C r=1:=λr a=>by
 obtain ⟨o,_,rfl⟩:=mem_map.1 a;rfl
def bI(e:b9):B_:=if e.op=1 then e.id else a6
def bB(e:b9):l7:=if e.op=1 then j7 else e.obj
def bX(e:b9):Int:=if e.op=2 then 0 else e.x
def bY(e:b9):Int:=if e.op=2 then 0 else e.y
def bK(e:b9):B_:=if e.op=3 then a6 else e.key
def bV(e:b9):B_:=if e.op=3 then a6 else e.val
def bR(e:b9):List B_:=if e.op=4 then[]else e.refs
def bN(e:b9):B_:=if e.op=6 then a6 else e.node
def bO(e:b9):B_:=if(θ (e.op=6)||θ (e.op=7))=N then a6 else e.other
def xE(e:b9):b9:=⟨e.op,bI e,bO e,bN e,bX e,bY e,bK e,bV e,bR e,bB e⟩
abbrev bE(e:b9):Ob:=bx 15 137 ((bM e).map .pv)
def eNo:b9:=⟨0,a6,a6,a6,0,0,a6,a6,[],j7⟩
theorem aBr(e:b9)(H:aF):RC 264 [av (bM e)] (av (bM (xE e))) H:=by
 refine Pu ?_;rw[xE];have ⟨i,z⟩:∃x,x=bI e:=X_;have ⟨b,t⟩:∃x,x=bB e:=X_;have ⟨x,p⟩:∃x,x=bX e:=X_;have ⟨y,s⟩:∃x,x=bY e:=X_;have ⟨k,D⟩:∃x,x=bK e:=X_;have ⟨v,w⟩:∃x,x=bV e:=X_;have ⟨r,q⟩:∃x,x=bR e:=X_;have ⟨n,u⟩:∃x,x=bN e:=X_;have ⟨o,B⟩:∃x,x=bO e:=X_;rw[<-z,<-t,<-p,<-s,<-D,<-w,<-q,<-u,<-B];refine Bd func264 Z ntmps264<|O (kb 1)<|V (kl 2 WG)<|eU (λ(_:Unit)=>([(1,.ref 1 0 0 0),(2,.ref 2 0 0 0)],[(1,bE ⟨e.op,i,e.other,e.node,e.x,e.y,e.key,e.val,e.refs,b⟩),(2,bE eNo)])) (λ_=>True) ?_ ?_
 .refine O (bD iY)<|Y (bU M_)<|V cG<|Cn ?_ ?_<;>intro j
  .have h:=b8 j
   (rw[z,t,bI,bB,b6 h,b6 h])
   refine Rd (pB F9)<|Y (bD vR)<|Uu (by exact rC Z sizeOf135 Z Z Z Z Z Z Z (r_ Z) Z Z)<|Zz ?_;exact⟨(),T_,Wk⟩
  have h:=b_ j
  (rw[z,t,bI,bB,a8 h,a8 h])
  refine Rd (bD kC)<|Uu (ku V_)<|Zz ?_;exact⟨(),T_,Wk⟩
 rintro _ -;refine eU (λ(_:Unit)=>([(1,.ref 1 0 0 0),(2,.ref 2 0 0 0)],[(1,bE ⟨e.op,i,e.other,e.node,x,y,e.key,e.val,e.refs,b⟩),(2,bE eNo)])) (λ_=>True) ?_ ?_
 .refine O (bD iY)<|Y (bU M_)<|V cG<|Cn ?_ ?_<;>intro l
  .have h:=b8 l
   (rw[p,s,bX,bY,b6 h,b6 h])
   refine Rd (pB MC)<|Y (bD jR)<|Uu (by exact rC Z sizeOf104 Z Z Z Z Z Z Z (r_ Z) Z Z)<|Zz ?_;exact⟨(),T_,Wk⟩
  have h:=b_ l
  (rw[p,s,bX,bY,a8 h,a8 h])
  refine aB ?_;exact⟨(),T_,Wk⟩
 rintro _ -;refine eU (λ(_:Unit)=>([(1,.ref 1 0 0 0),(2,.ref 2 0 0 0)],[(1,bE ⟨e.op,i,e.other,e.node,x,y,k,v,e.refs,b⟩),(2,bE eNo)])) (λ_=>True) ?_ ?_
 .refine O (bD iY)<|Y (bU M_)<|V cG<|Cn ?_ ?_<;>intro f
  .have h:=b8 f
   (rw[D,w,bK,bV,b6 h,b6 h])
   refine O (bD oG)<|Uu (ku V_)<|Zz<|Rd (bD pG)<|Uu (ku V_)<|Zz ?_;exact⟨(),T_,Wk⟩
  have h:=b_ f
  (rw[D,w,bK,bV,a8 h,a8 h])
  refine aB ?_;exact⟨(),T_,Wk⟩
 rintro _ -;refine eU (λ(_:Unit)=>([(1,.ref 1 0 0 0),(2,.ref 2 0 0 0)],[(1,bE ⟨e.op,i,e.other,e.node,x,y,k,v,r,b⟩),(2,bE eNo)])) (λ_=>True) ?_ ?_
 .refine O (bD iY)<|Y (bU M_)<|V cG<|Cn ?_ ?_<;>intro c
  .have h:=b8 c
   (rw[q,bR,b6 h])
   refine Rd (bD iX)<|Uu (ku sizeOf22)<|Zz ?_;exact⟨(),T_,Wk⟩
  have h:=b_ c
  (rw[q,bR,a8 h])
  refine aB ?_;exact⟨(),T_,Wk⟩
 rintro _ -;refine eU (λ(_:Unit)=>([(1,.ref 1 0 0 0),(2,.ref 2 0 0 0)],[(1,bE ⟨e.op,i,e.other,n,x,y,k,v,r,b⟩),(2,bE eNo)])) (λ_=>True) ?_ ?_
 .refine O (bD iY)<|Y (bU M_)<|V cG<|Cn ?_ ?_<;>intro d
  .have h:=b8 d
   (rw[u,bN,b6 h])
   refine Rd (bD rG)<|Uu (ku V_)<|Zz ?_;exact⟨(),T_,Wk⟩
  have h:=b_ d
  (rw[u,bN,a8 h])
  refine aB ?_;exact⟨(),T_,Wk⟩
 rintro _ -;refine eU (λ(_:Unit)=>([(1,.ref 1 0 0 0),(2,.ref 2 0 0 0)],[(1,bE ⟨e.op,i,o,n,x,y,k,v,r,b⟩),(2,bE eNo)])) (λ_=>True) ?_ ?_
 .refine S<|aT (t:=34) (n:=9) (A_:=θ (e.op=6)||θ (e.op=7)) ?_ ?_
  .all_goals refine Y (bD iY)<|Y (bU M_)<|Y cG<|Dm ?_<;>(refine Sp 30 (λm=>?_) λm=>?_)<;>(first|exact s_|refine M<|M<|M ?_|refine U (bD iY)<|U (bU M_)<|U cG ?_)<;>refine V cE ?_<;>exact Gj (h:=by simp_all)
  refine Cn ?_ ?_<;>intro g
  .have h:=g;rw[B,bO,b6 h];refine Rd (bD kV)<|Uu (ku V_)<|Zz ?_;exact⟨(),T_,Wk⟩
  have h:=g;rw[B,bO,a8 (by simp_all)];refine aB ?_;exact⟨(),T_,Wk⟩
 rintro _ -;refine O (xD cW bF)<|Uu (jH bF)<|Zz<|aC<|cN (H':=[]) (.inr Z) Z (C8 cW bF) (P_ (r:=av (bM ⟨e.op,i,o,n,x,y,k,v,r,b⟩))) ?_;exact Qq
def XX(e:b9):List B_:=if e.op=3 then[e.id]++[e.key]else[e.id]
def ay(e:b9):List B_:=if e.op=4 then XX e++e.refs else XX e
def dm(e:b9):List B_:=if e.op=6 then ay e++[e.node]else ay e
def Vl(e:b9):List B_:=if(θ (e.op=6)||θ (e.op=7))=N then dm e++[e.other]else dm e
def aEC(e:b9):Bool:=θ ((C (e.refs.map S_):Int)<1)||θ (2000<(C (e.refs.map S_):Int))
def vG(e:b9):Bool:=!rb (xE e)&&(if e.op=1 then oY e.obj else(Vl e).all cK&&(!(θ (e.op=4)&&aEC e)&&(θ ((T e.val:Int)<=200)&&(!θ (e.op=2)||ca e.x e.y))))
theorem aC7(e)(h:1<=e.op/\e.op<=7):gN e=vG e:=by
 have ⟨a,id,other,node,x,y,key,val,refs,obj⟩:=e;simp only at h;rcases(by omega:a=1\/a=2\/a=3\/a=4\/a=5\/a=6\/a=7)with rfl|rfl|rfl|rfl|rfl|rfl|rfl
 .rw[ed1 _ rfl];rfl
 .rw[ed2 _ rfl];rfl
 .rw[ed3 _ Z,vG];show _=(_&&(_&&(N&&(_&&N))));rw[Bool.and_true];rfl
 .rw[ed4 _ Z,vG];show _=(_&&(_&&(!(N&&_)&&(_&&N))));rw[Bool.and_true];rfl
 .rw[ed5 _ Z,vG];show _=(_&&(_&&(N&&(_&&N))));rw[Bool.and_true];rfl
 .rw[ed6 _ Z,vG];show _=(_&&(_&&(N&&(_&&N))));rw[Bool.and_true];rfl
 rw[ed7 _ Z,vG];show _=(_&&(_&&(N&&(_&&N))));rw[Bool.and_true];rfl
theorem wz(e):C (Vl e)<=C e.refs+5:=by
 rw[Vl,dm,ay,XX]
 grind
theorem Vo(e):C (XX e)<=C e.refs+5:=by rw[XX];all_goals grind
theorem Vn(e):C (ay e)<=C e.refs+5:=by
 rw[ay,XX]
 grind
theorem Vm(e):C (dm e)<=C e.refs+5:=by
 rw[dm,ay,XX]
 grind
theorem LI{P:α->Prop}{p}[Decidable p](B:∀s∈a,P s)(D:∀s∈b,P s):∀s∈(if p then a else b),P s:=G_
theorem LJ{P:α->Prop}(c:∀s∈a,P s)(d:∀s∈b,P s):∀s∈a++b,P s:=λs e=>(mem_append.1 e).elim (c s) (d s)
theorem FM{P:α->Prop}{a}(h:P a):∀s∈[a],P s:=λs B=>by
 simp_all
theorem Vk{e}(j:VY e):∀s∈Vl e,T s<2^62:=by have ⟨⟨d,i,f,h⟩,⟨B,g⟩,D⟩:=j;have c:∀s∈XX e,T s<2^62:=LI (LJ (FM d) (FM h)) (FM d);have b:∀s∈ay e,T s<2^62:=LI (LJ c g) c;have a:∀s∈dm e,T s<2^62:=LI (LJ b (FM f)) b;exact LI (LJ a (FM i)) a
def Yw(e:b9):List B_:=[e.id]
theorem Ba(e:b9)(H:aF)(v:VY e)(hr:C e.refs<2^40):RC 220 [av (bM e)] (bv (gN e)) H:=by
 refine Pu ?_;have L:=Vk v;have w:=wz e;have β:C (e.refs.map S_)=C e.refs:=g_ _;have E:C (xE e).obj.refs<2^62/\C (xE e).obj.tags<2^62:=by
  show C (bB e).refs<_/\C (bB e).tags<_;rw[bB]
  split
  .exact⟨E_,E_⟩
  exact⟨v.2.2.2.2.1,v.2.2.2.1.1⟩
 refine Bd func220 Z ntmps220<|O (kb 1)<|V aJ<|S<|S<|aT (t:=13) (n:=9) (A_:=θ (e.op<1)||θ (7<e.op)) ?_ ?_
 .all_goals refine Y (bD iY)<|Y (bU M_)<|Y cF<|Dm ?_<;>(refine Sp 9 (λh9=>?_) λh9=>?_)<;>(first|exact s_|refine M<|M<|M ?_|refine U (bD iY)<|U (bU M_)<|U iZ ?_)<;>refine V cE ?_<;>(exact⟨⟨_,Z,G_⟩,Z,Z,Z⟩)
 refine Cn ?_ ?_<;>intro a
 .have h:=a;have I:gN e=η:=by
   simp only[Bool.or_eq_true,j0]at h;rw[gN,Bool.and_eq_false_iff,Bool.and_eq_false_iff,n_,n_];omega
  rw[I];exact Sz aJ<|aC<|Rt<|Qq
 have h:=a;simp only[r6,n_]at h;rw[aC7 e X,vG];have P:rb (xE e)=(((((((!θ ((xE e).id=a6)||!θ ((xE e).other=a6))||!θ ((xE e).node=a6))||!(θ ((xE e).x=0)&&θ ((xE e).y=0)))||!θ ((xE e).key=a6))||!θ ((xE e).val=a6))||θ ((0:Int)<(C ((xE e).refs.map S_):Int)))||!zA (xE e).obj j7):=rfl;have W:=λH=>aBr e H;have ⟨G,hG⟩:∃G,G=xE e:=X_;simp only[<-hG]at P E W;rw[<-hG];clear hG;have ⟨g0,g1,g2,g3,g4,g5,g6,g7,g8,g9⟩:=G;simp only at P E;refine aB<|O (by exact aX Z cW bF Z Z Z Z y4 Z)<|Y (kc call264 (W _))<|Y (kl 3 WG)<|Uu (jH bF)<|Zz<|S<|S ?_;refine aT (t:=57) (n:=49) (A_:=rb ⟨g0,g1,g2,g3,g4,g5,g6,g7,g8,g9⟩) ?_ ?_
 .all_goals refine Y (bD kC)<|Y (bU N_)<|Y EN<|Dm ?_<;>(refine Sp 19 (λh19=>?_) λh19=>?_)<;>(try exact w_)<;>(first|refine M<|M<|M ?_|refine U (bD kV)<|U (bU N_)<|U EN ?_)<;>refine Y cE<|Dm ?_<;>(refine Sp 24 (λh24=>?_) λh24=>?_)<;>(try exact w_)<;>(first|refine M<|M<|M ?_|refine U (bD rG)<|U (bU N_)<|U EN ?_)<;>refine Y cE<|Dm ?_<;>(refine Sp 29 (λh29=>?_) λh29=>?_)<;>(try exact w_)<;>(first|refine M<|M<|M<|M ?_|refine U (bD jR)<|U (by exact aX Z eN sizeOf104 Z Z Z Z y4 Z)<|U (pB MC)<|U (K7 Z Z Z Z Z mZ (SB _ _ _ _)) ?_)<;>refine Y cE<|Dm ?_<;>(refine Sp 35 (λh35=>?_) λh35=>?_)<;>(try exact w_)<;>(first|refine M<|M<|M ?_|refine U (bD oG)<|U (bU N_)<|U EN ?_)<;>refine Y cE<|Dm ?_<;>(refine Sp 40 (λh40=>?_) λh40=>?_)<;>(try exact w_)<;>(first|refine M<|M<|M ?_|refine U (bD pG)<|U (bU N_)<|U EN ?_)<;>refine Y cE<|Dm ?_<;>(refine Sp 45 (λh45=>?_) λh45=>?_)<;>(try exact w_)<;>(first|refine M<|M<|M<|M ?_|refine U (bD iX)<|U (bU aG)<|U (fJ aE)<|U iZ ?_)<;>refine Y cE<|Dm ?_<;>(refine Sp 51 (λh51=>?_) λh51=>?_)<;>(try exact w_)<;>(first|refine M<|M<|M<|M<|M ?_|refine U (bD vR)<|U (by exact aX Z cD sizeOf135 Z Z Z Z y4 Z)<|U (pB F9)<|U (kc call265 (Tv g9 j7 _ E.1 E.2))<|U iE ?_)<;>refine V cE ?_<;>exact Gj (h:=by simp_all)
 refine Cn ?_ ?_<;>intro c
 .have x:=c;rw[x,Bool.not_true,Bool.false_and];exact Sz aJ<|aC<|Rt<|Qq
 have x:=c;rw[x,Bool.not_false,Bool.true_and];clear P E x;refine aB<|S<|O (bD iY)<|Y (bU M_)<|V cG<|Cn ?_ ?_<;>intro d
 .have y:e.op=1:=b8 d;rw[b6 y];exact O (bD vR)<|Y (by exact aX Z cD sizeOf135 Z Z Z Z y4 Z)<|Y (kc call261 (Jt e.obj _ v.2.2))<|V aJ<|aC<|Rt<|Qq
 have y:¬ e.op=1:=b_ d;rw[a8 y];refine aB<|O (bD kC)<|Y (bU N_)<|Y (eQ (id:=66) Z aZ Z Z Z Z H_ Z)<|Da<|eU (λ(g:Nat)=>([(1,.ref 1 0 0 0),(4,.osl 66 g 0 (C (XX e)))],[(1,bE e),(66,⟨g,1,9,fN (XX e)⟩)])) (λ_=>True) ?_ ?_
 .refine O (bD iY)<|Y (bU M_)<|V cG<|Cn ?_ ?_<;>intro i
  .have h:=b8 i;have B:XX e=Yw e++[e.key]:=b6 h;have K:C (Yw e)+C ([e.key])=C (Yw e++[e.key]):=j8.symm;have J:C (Yw e++[e.key])<8796093022208:=by rw[<-B];have:=Vo e;omega
   rw[B];refine Rd aA<|Y (bD oG)<|Y (bU N_)<|Y (by exact aM [S_ e.key] Z aZ Z Z Z Z Z v8)<|Y (by exact bW (ps:=([e.key]).map S_) Z aZ sZ Z Z Z Z Z (show (fN (Yw e)).length=(Yw e).length from g_ _) Z (J7 _) (m:=([e.key]).length) (g_ _) X K (zZ (Yw e) [e.key]))<|Da ?_;exact⟨0+1,T_,(cH.wk (Ea<|Ea<|T_) (Hb<|Hc (xH _ _)<|T_) T_)⟩
  have h:=i;have B:XX e=Yw e:=a8 (b_ h);rw[B];refine aB ?_;exact⟨0,T_,Wk⟩
 rintro g -;refine eU (λ(g:Nat)=>([(1,.ref 1 0 0 0),(4,.osl 66 g 0 (C (ay e)))],[(1,bE e),(66,⟨g,1,9,fN (ay e)⟩)])) (λ_=>True) ?_ ?_
 .refine O (bD iY)<|Y (bU M_)<|V cG<|Cn ?_ ?_<;>intro k
  .have h:=b8 k;have B:ay e=XX e++e.refs:=b6 h;have K:C (XX e)+C (e.refs)=C (XX e++e.refs):=j8.symm;have J:C (XX e++e.refs)<8796093022208:=by rw[<-B];have:=Vn e;omega
   rw[B];refine Rd aA<|Y (bD iX)<|Y (bU aG)<|Y (by exact bW (ps:=(e.refs).map S_) Z aZ sZ Z Z Z Z Z (show (fN (XX e)).length=(XX e).length from g_ _) Z (J7 _) (m:=(e.refs).length) (g_ _) X K (zZ (XX e) e.refs))<|Da ?_;exact⟨g+1,T_,(cH.wk (Ea<|Ea<|T_) (Hb<|Hc (xH _ _)<|T_) T_)⟩
  have h:=k;have B:ay e=XX e:=a8 (b_ h);rw[B];refine aB ?_;exact⟨g,T_,Wk⟩
 rintro g -;refine eU (λ(g:Nat)=>([(1,.ref 1 0 0 0),(4,.osl 66 g 0 (C (dm e)))],[(1,bE e),(66,⟨g,1,9,fN (dm e)⟩)])) (λ_=>True) ?_ ?_
 .refine O (bD iY)<|Y (bU M_)<|V cG<|Cn ?_ ?_<;>intro l
  .have h:=b8 l;have B:dm e=ay e++[e.node]:=b6 h;have K:C (ay e)+C ([e.node])=C (ay e++[e.node]):=j8.symm;have J:C (ay e++[e.node])<8796093022208:=by rw[<-B];have:=Vm e;omega
   rw[B];refine Rd aA<|Y (bD rG)<|Y (bU N_)<|Y (by exact aM [S_ e.node] Z aZ Z Z Z Z Z v8)<|Y (by exact bW (ps:=([e.node]).map S_) Z aZ sZ Z Z Z Z Z (show (fN (ay e)).length=(ay e).length from g_ _) Z (J7 _) (m:=([e.node]).length) (g_ _) X K (zZ (ay e) [e.node]))<|Da ?_;exact⟨g+1,T_,(cH.wk (Ea<|Ea<|T_) (Hb<|Hc (xH _ _)<|T_) T_)⟩
  have h:=l;have B:dm e=ay e:=a8 (b_ h);rw[B];refine aB ?_;exact⟨g,T_,Wk⟩
 rintro g -;refine eU (λ(g:Nat)=>([(1,.ref 1 0 0 0),(4,.osl 66 g 0 (C (Vl e)))],[(1,bE e),(66,⟨g,1,9,fN (Vl e)⟩)])) (λ_=>True) ?_ ?_
 .refine S<|aT (t:=97) (n:=9) (A_:=θ (e.op=6)||θ (e.op=7)) ?_ ?_
  .all_goals refine Y (bD iY)<|Y (bU M_)<|Y cG<|Dm ?_<;>(refine Sp 93 (λδ=>?_) λδ=>?_)<;>(try exact w_)<;>(first|refine M<|M<|M ?_|refine U (bD iY)<|U (bU M_)<|U cG ?_)<;>refine V cE ?_<;>exact Gj (h:=by(rw[δ];rfl))
  refine Cn ?_ ?_<;>intro o
  .have h:=id o;have B:Vl e=dm e++[e.other]:=b6 h;have K:C (dm e)+C ([e.other])=C (dm e++[e.other]):=j8.symm;have J:C (dm e++[e.other])<8796093022208:=by rw[<-B];have:=wz e;omega
   rw[B];refine Rd aA<|Y (bD kV)<|Y (bU N_)<|Y (by exact aM [S_ e.other] Z aZ Z Z Z Z Z v8)<|Y (by exact bW (ps:=([e.other]).map S_) Z aZ sZ Z Z Z Z Z (show (fN (dm e)).length=(dm e).length from g_ _) Z (J7 _) (m:=([e.other]).length) (g_ _) X K (zZ (dm e) [e.other]))<|Da ?_;exact⟨g+1,T_,(cH.wk (Ea<|Ea<|T_) (Hb<|Hc (xH _ _)<|T_) T_)⟩
  have h:=o;have B:Vl e=dm e:=a8 (by(rw[h];decide));rw[B];refine aB ?_;exact⟨g,T_,Wk⟩
 rintro g -;have ⟨m4,hN⟩:∃m4,m4=Vl e:=X_;rw[<-hN]at L w;rw[<-hN];clear hN;have γ:C (m4.map S_)=C m4:=g_ _;refine S<|S ?_;refine gO.ent (cH.fz (id:=66) (E':=[(1,.ref 1 0 0 0),(4,.pv (aL m4))]) (H':=[(1,bE e)]) (m4.map S_) Z (Tn S_ m4)
  (by intro p hp;simp only[l9,q8,or_false]at hp;rcases hp with rfl|rfl;exact⟨_,Z,.same (.ref Z)⟩;exact⟨_,Z,.osl (by rw[r8,drop_zero,<-length_map (f:=S_),take_length])⟩) Z ⟨⟨_,Z,Z⟩,l5,T_⟩ T_) ?_
 refine Rg<|V aJ<|aD<|bC (σ:=Nat) (λq=>([(1,.ref 1 0 0 0),(4,.pv (aL m4)),(5,iv (q:Int))],[(1,bE e)])) (λq=>q<=C m4/\∀j,j<q->∀b,m4[j]?=A b->(!cK b)=η) (λq=>C m4 - q) 0 ⟨X,X⟩ ?_ ?_
 .exact Wk
 rintro q ⟨hq,hno⟩;refine S<|O aA<|Y aA<|Y (fJ aE)<|V cF<|Cn ?_ ?_<;>intro r
 .have hlt:q<C m4:=I_ r
  have ⟨s,I⟩:=aR hlt;have hi:=cC (f:=S_) I;refine aB<|S<|aD<|O aA<|Y aA<|Y (jA aZ)<|Y (fK N_)<|Y (kc gF (lR s _ (L s (m7 I))))<|V iE<|Cn ?_ ?_<;>intro u
  .have J:(!cK s)=N:=u;have D:m4.all cK=η:=by
    rw[all_eq_false];exact⟨s,m7 I,by simpa using J⟩
   rw[D];exact Sz aJ<|aC<|Rt<|Qq
  have J:(!cK s)=η:=u;refine aB<|Rd aA<|Y iH<|Da ?_;exact⟨q+1,⟨X,SW hno I J⟩,X,Wk⟩
 have τ:q=C m4:=J_ r
 subst τ;have D:m4.all cK=N:=by
  rw[all_eq_true];intro s I;have ⟨j,hj⟩:=s8.1 I;have:=hno j (m_.1 hj).1 s hj
  simpa using this
 rw[D,Bool.true_and,aEC];clear L w hno D v;refine aP<|S<|S<|aT (t:=129) (n:=17) (A_:=θ (e.op=4)&&(θ ((C (e.refs.map S_):Int)<1)||θ (2000<(C (e.refs.map S_):Int)))) ?_ ?_
 .all_goals refine Y (bD iY)<|Y (bU M_)<|Y cG<|Dm ?_<;>(refine Sp 118 (λQ=>?_) λQ=>?_)<;>(try exact w_)<;>(first|refine M<|M<|M<|M<|M ?_|refine U (bD iX)<|U (bU aG)<|U (fJ aE)<|U cF<|U aA ?_)<;>(first|refine Sp 123 (λρ=>?_) λρ=>?_|refine kX (t:=123) Z ?_)<;>(try exact w_)<;>(first|refine M ?_|refine Fu ?_|refine U (bD iX) ?_)<;>(first|refine M ?_|refine Fu ?_|refine U (bU aG) ?_)<;>(first|refine M ?_|refine Fu ?_|refine U (fJ aE) ?_)<;>(first|refine M ?_|refine Fu ?_|refine U iZ ?_)<;>(first|refine M ?_|refine U cE ?_)<;>refine V cE ?_<;>exact Gj (h:=by first|(rw[Q];rfl)|(rw[Q,ρ];rfl))
 refine Cn ?_ ?_<;>intro F
 .have z:=F;rw[z];exact Sz aJ<|aC<|Rt<|Qq
 have z:=F;rw[z,Bool.not_false,Bool.true_and];refine aB<|S<|aT (t:=2) (n:=17) (A_:=θ ((T e.val:Int)<=200)&&(!θ (e.op=2)||ca e.x e.y)) ?_ ?_
 .all_goals refine Y (bD pG)<|Y (bU N_)<|Y (gG U_)<|Y EQ<|Dm ?_<;>(refine Sp 134 (λR=>?_) λR=>?_)<;>(try exact w_)<;>(first|refine M<|M<|M<|M ?_|refine U (bD iY)<|U (bU M_)<|U yQ<|U aA ?_)<;>(first|refine Sp 138 (λκ=>?_) λκ=>?_|refine kX (t:=138) Z ?_)<;>(try exact w_)<;>(first|refine M ?_|refine Fu ?_|refine U (bD jR) ?_)<;>(first|refine M ?_|refine Fu ?_|refine U (by exact aX Z eN sizeOf104 Z Z Z Z y4 Z) ?_)<;>(first|refine M ?_|refine Fu ?_|refine U (kc call170 (Js e.x e.y _)) ?_)<;>(first|refine M ?_|refine U cE ?_)<;>refine Y cE<|Da ?_<;>exact Gj (h:=by first|(rw[R];rfl)|(rw[R,κ];rfl))
 exact aC<|Rt<|Qq
theorem Be(l:List b9)(H:aF)(D:C l<2^40)(s:∀e∈l,VY e)(p:∀e∈l,C e.refs<2^40):RC 165 [.pv (kR l)] (bv (lU l)) H:=by
 refine Pu ?_;have B:C (l.map bM)=C l:=g_ _;refine Bd func165 Z ntmps165<|Sz aJ<|S<|S<|aT (t:=11) (n:=9) (A_:=θ ((C (l.map bM):Int)<1)||θ (200<(C (l.map bM):Int))) ?_ ?_
 .all_goals refine Y aA<|Y (fJ fE)<|Y cF<|Dm ?_<;>(refine Sp 7 (λq=>?_) λq=>?_)<;>(first|exact s_|refine M<|M<|M ?_|refine U aA<|U (fJ fE)<|U iZ ?_)<;>refine V cE ?_<;>(exact⟨⟨_,Z,G_⟩,Z,Z,Z⟩)
 refine Cn ?_ ?_<;>intro g
 .have o:lU l=η:=by
   simp only[Bool.or_eq_true,j0]at g;rw[lU,Bool.and_eq_false_iff,Bool.and_eq_false_iff,n_,n_];omega
  refine Sz aJ<|aC<|Rt ?_
  simp_all
 have o:lU l=!(l.any (λe=>!gN e)):=by
  simp only[r6,n_]at g;rw[lU,decide_eq_true (by omega:(0:Int)<(C l:Int)),decide_eq_true (by omega:(C l:Int)<=200)];rfl
 rw[o];refine aB<|S<|Sz aJ<|aD<|bC (σ:=Nat) (λk=>([(0,.pv (kR l)),(3,iv (k:Int))],[])) (λk=>k<=C l/\∀j,j<k->∀b,l[j]?=A b->(!gN b)=η) (λk=>C l - k) 0 ⟨X,X⟩ ?_ ?_
 .exact E0
 rintro k ⟨hk,f⟩;refine S<|O aA<|Y aA<|Y (fJ fE)<|V cF<|Cn ?_ ?_<;>intro d
 .have i:k<C l:=I_ d
  have ⟨e,h⟩:=aR i;have hi:=cC (f:=bM) h;refine aB<|S<|aD<|O aA<|Y aA<|Y (jA fa)<|Y (by exact eY Z cW bF Z X y4 Z)<|Y (kc call220 (Ba e _ (s e (m7 h)) (p e (m7 h))))<|V iE ?_;refine Cn ?_ ?_<;>intro m
  .refine Sz aJ<|aC<|Rt ?_
   grind
  refine aB<|Rd aA<|Y iH<|Da ?_;exact⟨k+1,⟨X,SW f h m⟩,X,E0⟩
 have n:k=C l:=J_ d
 subst n;refine aP<|Sz aJ<|aC<|Rt ?_;exact⟨by rw[Po f];rfl,Z⟩
def aDl(l:List B_):Prop:=l.Pairwise (λa b=>jI a b=N)
end Go.Proofs.C
section
namespace Go.Abs
theorem VU{P}{m4}{o}{E}{H}{J0}{t}{e}{id g off len sz:Nat}{ob}{b}{rows'}(z:o.op=.call {callee:=.builtin .clear,args:=#[.tmp t],argTypes:=#[J0]})(B:fQ P J0 e sz)(s:eX P e b)(f:C b=sz)
  (r:E.get t=A (.osl id g off len)) (p:H.get id=A ob) (q:ob.g=g) (i:ob.sz=sz) (h:off<=C ob.rows) (d:ob.rows.take off++(List.replicate len b++ob.rows.drop (off+len))=rows') :
  cP P m4 o E H .any ((id,⟨g,sz,ob.ty,rows'⟩)::H):=by
 intro a w I ι D y n m K Q l;have ⟨v,L,j⟩:=m t _ r;have ⟨c,F,G,J⟩:=wt n j p q;refine Bs (E:=(t,.osc _ g _ _ c)::E) z B s f (dD.get_cons_same _ _ _) p q i h d a w I _ D y n (λu x k=>?_) K Q l;by_cases e:t=u
 .subst e;rw[dD.get_cons_same]at k;simp_all
 rw[dD.get_cons_other _ _ e]at k;exact m u x k
end Go.Abs
namespace Go.Proofs.C
open Go.Proofs.Tryz
open Go.Abs
def fW:List B_->List B_
 | []=>[]
 | [x]=>[x]
 |x::y::r=>if x=y then fW (y::r)else x::fW (y::r)
theorem N6:∀(l) (x y),fW (l++[x,y])=fW (l++[x])++(if x=y then[]else[y])
 | [],x,y=>by
  show (if x=y then fW [y]else x::fW [y])=[x]++_;by_cases e:x=y
  .rw[b6 e,b6 e,e];rfl
  rw[a8 e,a8 e];rfl
 | [a],x,y=>by
  show (if a=x then fW _ else a::fW _)=(if a=x then fW [x]else a::fW [x])++_;have:=N6 [] x y;rw[show fW [x,y]=fW ([]++[x,y])from Z,this]
  split<;>rfl
 |a::b::l,x,y=>by
  have:=N6 (b::l) x y;show (if a=b then fW ((b::l)++[x,y])else a::fW ((b::l)++[x,y]))=(if a=b then fW ((b::l)++[x])else a::fW ((b::l)++[x]))++_
  grind
theorem YU{L:List B_}{k:Nat}{x y:B_}(B:1<=k)(b:L[k - 1]?=A x)(c:L[k]?=A y):fW (L.take (k+1))=fW (L.take k)++(if x=y then[]else[y]):=by
 obtain ⟨j,rfl⟩:∃j,k=j+1:=⟨k - 1,X⟩;rw[show j+1 - 1=j by omega]at b;have a:L.take (j+1)=L.take j++[x]:=by rw[take_add_one,b];rfl
 have d:L.take (j+1+1)=L.take j++[x,y]:=by rw[take_add_one,a,c,append_assoc];rfl
 rw[d,a,N6]
theorem F7:∀ {l} {x},x∈fW l↔x∈l
 | [],x=>Iff.rfl
 | [a],x=>Iff.rfl
 | a::b::l,x=>by
  show x∈(if a=b then fW _ else a::fW _)↔_;have c:=F7 (l:=b::l) (x:=x)
  split
  .next e =>
   rw[c,e];simp
  rw[l9,c,mem_cons (b:=a)]
theorem MA:∀ {l},l.Pairwise (λa b=>jI b a=η)->aDl (fW l)
 | [],_=>.nil
 | [a],_=>List.pairwise_singleton _ _
 | a::b::l,h=>by
  have j:=(pairwise_cons.1 h).2;have i:=MA j;show aDl (if a=b then fW _ else a::fW _)
  split
  .exact i
  next e =>
  refine pairwise_cons.2 ⟨λy m=>?_,i⟩;have d:=F7.1 m;have g:=(pairwise_cons.1 h).1 b mem_cons_self;have c:jI a b=N:=by
   cases f:jI a b with
   |true=>rfl
   |false=>exact absurd (C4 f g) e
  rcases l9.1 d with rfl|d
  .exact c
  have k:=(pairwise_cons.1 j).1 y d;cases f:jI b y with
  |true=>exact GK c f
  |false=>rw[C4 k f];exact c
theorem YC:∀(l),C (fW l)<=C l
 | []=>h_ _
 | [a]=>h_ _
 |a::b::l=>by
  have B:=YC (b::l);show C (if a=b then fW _ else a::fW _)<=C (b::l)+1
  grind
theorem J8{l}{i:Nat}{s}(h:l[i]?=A s):(uG l)[i]?=A ((S_ s).map .pv):=F_
theorem qw{P L:List B_}{j}{s}(h:C P<=j)(B:L[j]?=A s):(P++L.drop (C P))[j]?=A s:=G_
theorem rz{H:aF}{id}{o}(h:H.get id=A o)(j):aF.get ((id,o)::H) j=H.get j:=by
 by_cases e:j=id
 .subst e;rw[get_cons_same,h]
 exact get_cons_other _ _ e
theorem YT(L:List B_)(g:Nat)(H:aF)(h1:H.get 901=A ⟨g,1,9,uG L⟩)(hl:C L<2^40):
  aW φ 31 [.osl 901 g 0 (C L)] H (λr H'=>r=.osl 901 g 0 (C (fW L))/\H'=(901,⟨g,1,9,uG (fW L++List.replicate (C L - C (fW L)) a6)⟩)::H):=by
 refine Bd func31 Z ntmps31 ?_;refine gO.ent (E':=[(0,.osl 901 g 0 L.length)]) (H':=(901,⟨g,1,9,uG L⟩)::H) (cH.get' ⟨⟨_,Z,Z⟩,T_⟩ (rz h1))<|Sz aJ<|S<|O aA<|Y (by exact dQ Z aE Z Z Z)<|V cF<|Cn ?_ ?_<;>intro E
 .have m4:C L<2:=I_ E
  have o_:fW L=L:=by
   match L,m4 with
   | [],_=>rfl
   | [a],_=>rfl
  refine O aA<|V aJ<|aC<|cN (H':=(901,⟨g,1,9,uG L⟩)::H) (.inr Z) Z (aI Z) Fin.refl ⟨by rw[o_],F_⟩
 have τ:2<=C L:=J_ E
 refine aB<|S<|Sz aJ<|aD<|bC (σ:=Nat) (λi=>([(0,.osl 901 g 0 (C L)),(3,iv (i:Int))],(901,⟨g,1,9,uG L⟩)::H)) (λi=>1<=i/\i<=C L/\fW (L.take i)=L.take i) (λi=>C L - i) 1 ⟨X,X,by
  have ⟨x,K⟩:=aR (l:=L) (k:=0) X;rw[take_add_one,K];rfl⟩ ?_ ?_
 .exact cH.get' ⟨⟨_,Z,Z⟩,⟨_,Z,Z⟩,T_⟩ (λj=>rfl)
 rintro i ⟨P,hi2,f⟩;refine S<|O aA<|Y aA<|Y (by exact dQ Z aE Z Z Z)<|V cF<|Cn ?_ ?_<;>intro I
 .have w:i<C L:=I_ I
  have ⟨y,b⟩:=aR w;have ⟨x,K⟩:=aR (l:=L) (k:=i - 1) X;have J:=YU P K b;refine aB<|S<|aD<|S<|aN a7<|Cq aA<|Cq aA<|Cq (by exact dK Z aZ Z Z Z Z Z X x7 w (r8 _))<|Cq (by exact aY Z N_ Z Z Z (J8 b) Z)<|Cq aA<|Cq aA<|Cq (by exact dV Z Z Z (by exact lZ X X))<|Cq (by exact dK (m:=i - 1) Z aZ Z Z Z Z Z X (show ((i:Int) - 1).toNat=i - 1 by omega) X (r8 _))<|Cq (by exact aY Z N_ Z Z Z (J8 K) Z)<|Cq vT<|bG<|Kr<|Cn ?_ ?_<;>intro F
  ·have n:=b8 F;rw[b6 n.symm,append_nil,f]at J;refine O aA<|Y aA<|Y (by exact kZ (l:=i) (h:=L.length) Z aZ Z Z Z Z Z Z X (h_ _) (r8 _) Z)<|V aJ<|S<|Sz aJ<|aD<|dU (λ(k:Nat) (R:List B_)=>([(0,.osl 901 g 0 L.length),(3,iv (R.length:Int)),(4,.osl 901 g i (L.length - i)),(5,iv (k:Int))],(901,⟨g,1,9,uG (R++L.drop R.length)⟩)::H)) (λk R=>1<=k/\i+k<=L.length/\R=fW (L.take (i+k))/\R.length+1<=i+k) (λk R=>L.length - (i+k)) 1 (L.take i) ⟨X,X,J.symm,F_⟩ ?_ ?_
   .have f_:C (L.take i)=i:=F_
    rw[f_,take_append_drop];exact cH.get' ⟨⟨_,Z,Z⟩,⟨_,Z,Z⟩,⟨_,Z,Z⟩,⟨_,Z,Z⟩,T_⟩ (λj=>rfl)
   rintro k R ⟨hk1,hk2,d,hk4⟩;refine S<|O aA<|Y aA<|Y (by exact dQ Z aE Z Z Z)<|V cF<|Cn ?_ ?_<;>intro c
   .have Q:i+k<C L:=I_ c
    have ⟨v,hv⟩:=aR Q;have ⟨u,o⟩:=aR (l:=L) (k:=i+k - 1) X;have l:=YU X o hv;have t:=J8 (qw (P:=R) X hv);have u_:=J8 (qw (P:=R) X o);refine aB<|S<|aD<|S<|aN a7<|Cq aA<|Cq aA<|Cq (by exact dK (m:=k) Z aZ Z Z Z Z Z X (l_ _) X Z)<|Cq (by exact aY Z N_ Z Z Z t Z)<|Cq aA<|Cq aA<|Cq (by exact dV Z Z Z (by exact lZ X X))<|Cq (by exact dK (m:=k - 1) (m2:=i+k - 1) Z aZ Z Z Z Z Z X (show ((k:Int) - 1).toNat=k - 1 by omega) X X)<|Cq (by exact aY Z N_ Z Z Z u_ Z)<|Cq EN<|bG<|Kr<|Cn ?_ ?_<;>intro B
    .have J0:¬ u=v:=λe=>by
      have h:=B;rw[e]at h;simp at h
     rw[a8 J0,<-d]at l;have y_:∃z,L[C R]?=A z:=aR X;have ⟨z,hz⟩:=y_;have A_:(uG (R++L.drop (C R)))[C R]?=A ((S_ z).map .pv):=J8 (qw (P:=R) (h_ _) hz);have i_:(uG (R++L.drop (C R))).set (C R) [sv v]=uG ((R++[v])++L.drop (C (R++[v]))):=by
      have hd:L.drop (C R)=z::L.drop (C R+1):=by
       have ⟨p,q⟩:=m_.1 hz;rw[drop_eq_getElem_cons p,q]
      rw[hd,j8,length_singleton,uG,map_append,map_cons,set_append_right _ _ (by rw[g_];exact h_ _),g_,Nat.sub_self,set_cons_zero,append_assoc,uG,map_append,map_append];rfl
     refine O aA<|Y aA<|Y aA<|Y aA<|Y (by exact dK (m:=k) Z aZ Z Z Z Z Z X (l_ _) X Z)<|Y (by exact aY Z N_ Z Z Z t Z)<|Y (by exact dK Z aZ Z Z Z Z Z X (by exact l_ _) (by omega:R.length<L.length) (r8 _))<|Uu (by exact cT Z V_ Z Z Z Z Z A_ v8 Z i_)<|Zz<|Rd aA<|Y iH<|V aJ<|Rd aA<|Y iH<|Da ?_;refine⟨k+1,R++[v],⟨X,X,l.symm,by rw[j8,length_singleton];omega⟩,X,?_⟩;rw[show (((R++[v]).length:Nat):Int)=(R.length:Int)+1 by rw[j8,length_singleton];rfl];exact cH.dup ⟨⟨_,Z,Z⟩,⟨_,Z,Z⟩,⟨_,Z,Z⟩,⟨_,Z,Z⟩,T_⟩
    have he:u=v:=by
     have h:=B;have h2:v=u:=by simpa using h
     exact h2.symm
    rw[b6 he,append_nil,<-d]at l;refine aB<|Rd aA<|Y iH<|Da ?_;refine⟨k+1,R,⟨X,X,l.symm,X⟩,X,?_⟩;exact cH.get' ⟨⟨_,Z,Z⟩,⟨_,Z,Z⟩,⟨_,Z,Z⟩,⟨_,Z,Z⟩,T_⟩ (λj=>rfl)
   have D:i+k=C L:=J_ c
   rw[D,take_length]at d;have s:C R<=C L:=X
   have m:C (uG (R++L.drop (C R)))=C L:=by
    rw[g_,j8,q6];omega
   have W:(uG (R++L.drop (C R))).take (C R)++(List.replicate (C L - C R) [sv a6]++(uG (R++L.drop (C R))).drop (C R+(C L - C R)))=uG (R++List.replicate (C L - C R) a6):=by
    have v_:(uG (R++L.drop (C R))).drop (C R+(C L - C R))=[]:=drop_eq_nil_of_le (by rw[m];omega);rw[v_,append_nil,uG,map_append,take_left' (g_ _),uG,map_append,map_replicate];rfl
   refine aP<|O aA<|Y aA<|Y (by exact kZ (l:=R.length) (h:=L.length) Z aZ Z Z Z Z Z Z s (h_ _) (r8 _) Z)<|Uu (by exact VU Z aZ Rl Z Z Z Z Z (by rw[m];exact s) W)<|Zz<|O aA<|Y aA<|Y (by exact kZ (l:=0) (h:=R.length) Z aZ Z Z Z Z Z Z (k_ _) s (r8 _) Z)<|V aJ<|aC ?_;refine cN (H':=(901,⟨g,1,9,uG (R++List.replicate (L.length - R.length) a6)⟩)::H) (.inr Z) Z (aI Z) (Fin.get' (λj=>xR _ _ _ _ j)) ⟨by rw[d];rfl,by rw[d]⟩
  have n:=b_ F;rw[a8 (λe=>n e.symm),f]at J;refine aB<|Rd aA<|Y iH<|Da ?_;refine⟨i+1,⟨X,X,?_⟩,X,cH.get' ⟨⟨_,Z,Z⟩,⟨_,Z,Z⟩,T_⟩ (λj=>rfl)⟩;rw[J,take_add_one,b];rfl
 have G:i=C L:=J_ I
 subst G;rw[take_length]at f;refine aP<|O aA<|V aJ<|aC<|cN (H':=(901,⟨g,1,9,uG L⟩)::H) (.inr Z) Z (aI Z) Fin.refl ⟨by rw[f],by rw[f,Nat.sub_self,replicate_zero,append_nil]⟩
end Go.Proofs.C
end
namespace Go.Proofs.C
open Go.Proofs.Tryz
open Go.Abs
def nA(n a b:Int):Bool:=θ (a<=n)&&θ (n<=b)
def uw(r:j_):Bool:=(((((r.priv.trace.any aw||!(!([r.priv.name,r.priv.reason].any LM)))||!(!r.priv.sources.any LM))||θ (16<(C (r.priv.sources.map S_):Int)))||θ (200<(C (r.priv.trace.map kP):Int)))||!lK r.priv.sl)||!lK r.sl
def Mp(l:List B_):Bool:=oA l&&θ ((C (fW l):Int)=(C (l.map S_):Int))
theorem aBm(l)(a:C l<2^40){H}(B:H.get 901=ζ):aW φ 153 [.pv (aL l)] H (λr H'=>r=.osl 901 1 0 (C l)/\H'=(901,⟨1,1,9,uG l⟩)::H) :=aW.frame (Og l [] (λ_ _ h=>by cases h) Z a) (λ_ _ h=>by cases h) (λ_ _ h=>by cases h) H_ (λid h=>.inr (by
  by_cases e:901=id
  .simp_all
  simp[aF.get,kH e]at h))
def mj(r:j_):Bool:=(((((!nA r.author 0 59||!nA r.number 1 128)||!nA r.clock 1 1000000)||!cK r.branch)||θ (16<(C (r.parents.map S_):Int)))||!r.parents.all m6)||!Mp r.parents
def Yx(r:j_):Bool:=θ (r.kind=2)||θ (r.kind=3)
def NS(r:j_):Bool:=if r.kind=3 then nA r.order 1 4 else if r.kind=4 then(cK r.from'&&!θ (r.from'=r.branch))else θ (1<=r.kind/\r.kind<=5)
def dh(r:j_):B_:=if r.kind=2\/r.kind=3 then r.target else a6
def Qu(r:j_):Bool:=if r.kind=2 then r.yes else η
def Fh(r:j_):Int:=if r.kind=3 then r.order else 0
def Gu(r:j_):B_:=if r.kind=4 then r.from' else a6
def Qv(r:j_):Bool:=if r.kind=1 then N else if r.kind=3 then θ (r.order=3)else η
def v5G(r:j_):Bool:=((((θ (r.target=dh r)&&(r.yes == Qu r))&&θ (r.order=Fh r))&&θ (r.from'=Gu r))&&(θ (0<(C (r.edits.map bM):Int)) == Qv r))&&(!Yx r||m6 (dh r))
def iI(r:j_):Bool:=(((!uw r&&!mj r)&&(kM r.edits).2)&&NS r)&&v5G r
abbrev W5:=B_×Bool×Int×B_×Bool
def EC(r:j_):W5:=(dh r,Qu r,Fh r,Gu r,Qv r)
theorem aC6{r}(h:r.kind=1):NS r=N/\(a6,η,0,a6,N)=EC r:=by simp[NS,EC,dh,Qu,Fh,Gu,Qv,h]
theorem aC5{r}(h:r.kind=2):NS r=N/\(r.target,r.yes,0,a6,η)=EC r:=by simp[NS,EC,dh,Qu,Fh,Gu,Qv,h]
theorem aC4{r}(h:r.kind=3)(a:nA r.order 1 4=N):NS r=N/\(r.target,η,r.order,a6,θ (r.order=3))=EC r:=by simp[NS,EC,dh,Qu,Fh,Gu,Qv,h,a]
theorem aC3{r}(h:r.kind=4)(b:cK r.from'=N)(a:r.from'≠r.branch):NS r=N/\(a6,η,0,r.from',η)=EC r:=by simp[NS,EC,dh,Qu,Fh,Gu,Qv,h,b,a]
theorem aC2{r}(h:r.kind=5):NS r=N/\(a6,η,0,a6,η)=EC r:=by simp[NS,EC,dh,Qu,Fh,Gu,Qv,h]
theorem Rx{r}(h:uw r=N):iI r=η:=by simp[iI,h]
theorem uu{r}(h:mj r=N):iI r=η:=by simp[iI,h]
theorem Rw{r}(h:(kM r.edits).2=η):iI r=η:=by simp[iI,h]
theorem ZB{r}(h:NS r=η):iI r=η:=by simp[iI,h]
theorem Rv{r}(a:uw r=η)(d:mj r=η)(b:(kM r.edits).2=N)(c:NS r=N):iI r=v5G r:=by simp[iI,a,d,b,c]
theorem Gt{r}(h:T r.target<2^40):T (dh r)<2^40:=by
 rw[dh]
 split
 ·exact h
 exact E_
theorem ZA(r:j_)(hr:mX r)(hp:C r.parents<549755813888)(H:aF):RC 105 [av (eD r)] (bv (iI r)) H:=by
 refine Pu ?_;have ⟨_,⟨b1,b2,b3⟩,hpa,δ,hs,hpv⟩:=hr;have β:=λH=>vd r.edits H δ.1 δ.2;have ⟨p1,p2,p3,p4,p5⟩:=hpv;have Q:=aBC r.priv.trace p4;have γ:=λH=>vm [r.priv.name,r.priv.reason] (show 2<2^40 by decide) H;have J0:=λH=>vm r.priv.sources p3.1 H;have hf1:=λH=>jv r.priv.sl p5 H;have hf2:=λH=>jv r.sl hs H;have s:=λH=>jh r.parents H X;have A_:=λH=>N4 r.parents hpa H;have u_:=λH=>DL r.branch H X;have hnf:=λH=>DL r.from' H X
 have hwt:=Gt b2;have P:∀(n a b:Int) (H:aF),RC 146 [iv n,iv a,iv b] (bv (nA n a b)) H:=λn a b H=>RH n a b H;refine Bd func105 Z ntmps105<|O (kb 1)<|V aJ<|O (kl 3 aCX)<|Uu (jH sizeOf174)<|Zz<|Sz aJ<|O (bD iO)<|Y (xD isAgg51 sizeOf51)<|Y (kl 5 aEb)<|Uu (jH sizeOf51)<|Zz<|O (bD tX)<|Y (bU kK)<|Y (iG Z Z)<|Y (kc call149 (aW.frameS Q (HI.sub ⟨Z,T_⟩) (dI.ofL ⟨zY _,T_⟩) m3))<|V aJ<|S<|S ?_;refine aT (t:=63) (n:=48) (A_:=uw r) ?_ ?_
 .all_goals refine Y aA<|Dm ?_<;>(refine Sp 23 (λK=>?_) λK=>?_)<;>(first|exact s_|refine M<|M<|M<|M<|M<|M<|M<|M ?_|refine U aA<|U (bD JM)<|U (bU N_)<|U (bD JL)<|U (bU N_)<|U (aM [[.str r.priv.name],[.str r.priv.reason]] Z aZ Z Z Z Z Z F_)<|U (dH Z Z Z (dO.fn call147 (γ _)))<|U iE ?_)<;>refine Y cE<|Dm ?_<;>(refine Sp 33 (λd=>?_) λd=>?_)<;>(first|exact s_|refine M<|M<|M<|M<|M ?_|refine U aA<|U (bD zC)<|U (bU aG)<|U (dH Z Z Z (dO.fn call147 (J0 _)))<|U iE ?_)<;>refine Y cE<|Dm ?_<;>(refine Sp 40 (λm=>?_) λm=>?_)<;>(first|exact s_|refine M<|M<|M<|M ?_|refine U (bD zC)<|U (bU aG)<|U (fJ aE)<|U iZ ?_)<;>refine Y cE<|Dm ?_<;>(refine Sp 46 (λw=>?_) λw=>?_)<;>(first|exact s_|refine M<|M<|M<|M ?_|refine U (bD tX)<|U (bU kK)<|U (fJ gL)<|U iZ ?_)<;>refine Y cE<|Dm ?_<;>(refine Sp 52 (λR=>?_) λR=>?_)<;>(first|exact s_|refine M<|M<|M<|M ?_|refine U (bD F1)<|U (xD iC sizeOf48)<|U (kc call151 (hf1 _))<|U iE ?_)<;>refine Y cE<|Dm ?_<;>(refine Sp 58 (λy_=>?_) λy_=>?_)<;>(first|exact s_|refine M<|M<|M<|M ?_|refine U (bD AO)<|U (xD iC sizeOf48)<|U (kc call151 (hf2 _))<|U iE ?_)<;>refine V cE ?_<;>exact Gj (h:=by first|(rw[uw,K];rfl)|(rw[uw,K,d];rfl)|(rw[uw,K,d,m];rfl)|(rw[uw,K,d,m,w];rfl)|(rw[uw,K,d,m,w,R];rfl)|(rw[uw,K,d,m,w,R,y_];rfl))
 refine Cn ?_ ?_<;>intro z_
 .rw[Rx z_];exact Sz aJ<|aC<|Rt<|Qq
 have h1:=z_;have D:Mp r.parents=(oA r.parents&&θ ((C (fW r.parents):Int)=(C (r.parents.map S_):Int))):=rfl;generalize oA r.parents=so at s D;refine aB<|S ?_;refine gO.ent (E':=[(1,.ref 1 0 0 0),(3,.ref 3 0 0 0),(5,.ref 5 0 0 0),(4,.pv (.fn 147))]) (H':=[(5,bx 7 51 ((xU r.priv).map .pv)),(3,Rs),(1,bx 21 53 ((eD r).map .pv))]) L_ ?_;cases so with
 | false =>
  have h2:mj r=N:=by rw[mj,D,Bool.false_and,Bool.not_false,Bool.or_true]
  rw[uu h2];refine aN a7<|Cr [1] (λ_ h=>fh oZ h)<|Cr [1] (λ_ h=>lh aG h)<|x_ (by exact bH Z Z call152 Z (s _))<|x_ aA<|Ot<|Ot<|Ot<|Ot<|Ot<|Ot<|Ot<|Ot<|Ot<|x_ cE<|x_ aJ<|bG<|Kr<|S<|S ?_;refine aT (t:=118) (n:=47) (A_:=mj r) ?_ ?_
  .all_goals refine Y (bU qB)<|Y (bD F0)<|Y (bU M_)<|Y (dH Z Z Z (dO.fn sE (P r.author 0 59 _)))<|Y iE<|Dm ?_<;>(refine Sp 83 (λL=>?_) λL=>?_)<;>(first|exact s_|refine M<|M<|M<|M<|M ?_|refine U (bU qB)<|U (bD A9)<|U (bU M_)<|U (dH Z Z Z (dO.fn sE (P r.number 1 128 _)))<|U iE ?_)<;>refine Y cE<|Dm ?_<;>(refine Sp 90 (λe=>?_) λe=>?_)<;>(first|exact s_|refine M<|M<|M<|M<|M ?_|refine U (bU qB)<|U (bD FZ)<|U (bU M_)<|U (dH Z Z Z (dO.fn sE (P r.clock 1 1000000 _)))<|U iE ?_)<;>refine Y cE<|Dm ?_<;>(refine Sp 97 (λo=>?_) λo=>?_)<;>(first|exact s_|refine M<|M<|M<|M ?_|refine U (bD DV)<|U (bU N_)<|U (kc pL (u_ _))<|U iE ?_)<;>refine Y cE<|Dm ?_<;>(refine Sp 103 (λg=>?_) λg=>?_)<;>(first|exact s_|refine M<|M<|M<|M ?_|refine U (bD oZ)<|U (bU aG)<|U (fJ aE)<|U iZ ?_)<;>refine Y cE<|Dm ?_<;>(refine Sp 109 (λu=>?_) λu=>?_)<;>(first|exact s_|refine M<|M<|M<|M ?_|refine U (bD oZ)<|U (bU aG)<|U (kc call155 (A_ _))<|U iE ?_)<;>refine Y cE<|Dm ?_<;>(refine Sp 115 (λh115=>?_) λh115=>?_)<;>(first|exact s_|refine M<|M ?_|refine U aA<|U iE ?_)<;>refine V cE ?_<;>exact Gj (h:=by simp_all)
  refine Cn ?_ ?_<;>intro x
  .exact Sz aJ<|aC<|Rt<|Qq
  rw[h2]at x;cases x
 | true =>
  refine aN a7<|Cr [1] (λ_ h=>fh oZ h)<|Cr [1] (λ_ h=>lh aG h)<|x_ (by exact bH Z Z call152 Z (s _))<|x_ aA<|Lt [1] (λ_ h=>fh oZ h)<|Lt [1] (λ_ h=>lh aG h)<|Lp [901] (λH1 q=>by exact bH Z Z call153 Z (aBm r.parents X ((q _ Z).trans Z)))<|Lp [901] (λH1 q=>by exact bH Z Z call31 Z (YT r.parents 1 _ ((q _ Z).trans Z) X))<|Lt [901] (λH1 q=>by exact dQ Z aE Z ((q _ Z).trans Z) Z)<|Lt [1] (λ_ h=>fh oZ h)<|Lt [1] (λ_ h=>lh aG h)<|Lt [] (λH1 q=>by exact lI Z aE Z)<|Lt [] (λH1 q=>by exact mM Z Z Z) ?_;refine x_ cE<|x_ aJ<|bG<|Kr<|S<|S<|aT (t:=118) (n:=47) (A_:=mj r) ?_ ?_
  .all_goals refine Y (bU qB)<|Y (bD F0)<|Y (bU M_)<|Y (dH Z Z Z (dO.fn sE (P r.author 0 59 _)))<|Y iE<|Dm ?_<;>(refine Sp 83 (λL=>?_) λL=>?_)<;>(first|exact s_|refine M<|M<|M<|M<|M ?_|refine U (bU qB)<|U (bD A9)<|U (bU M_)<|U (dH Z Z Z (dO.fn sE (P r.number 1 128 _)))<|U iE ?_)<;>refine Y cE<|Dm ?_<;>(refine Sp 90 (λe=>?_) λe=>?_)<;>(first|exact s_|refine M<|M<|M<|M<|M ?_|refine U (bU qB)<|U (bD FZ)<|U (bU M_)<|U (dH Z Z Z (dO.fn sE (P r.clock 1 1000000 _)))<|U iE ?_)<;>refine Y cE<|Dm ?_<;>(refine Sp 97 (λo=>?_) λo=>?_)<;>(first|exact s_|refine M<|M<|M<|M ?_|refine U (bD DV)<|U (bU N_)<|U (kc pL (u_ _))<|U iE ?_)<;>refine Y cE<|Dm ?_<;>(refine Sp 103 (λg=>?_) λg=>?_)<;>(first|exact s_|refine M<|M<|M<|M ?_|refine U (bD oZ)<|U (bU aG)<|U (fJ aE)<|U iZ ?_)<;>refine Y cE<|Dm ?_<;>(refine Sp 109 (λu=>?_) λu=>?_)<;>(first|exact s_|refine M<|M<|M<|M ?_|refine U (bD oZ)<|U (bU aG)<|U (kc call155 (A_ _))<|U iE ?_)<;>refine Y cE<|Dm ?_<;>(refine Sp 115 (λh115=>?_) λh115=>?_)<;>(first|exact s_|refine M<|M ?_|refine U aA<|U iE ?_)<;>refine V cE ?_<;>exact Gj (h:=by first|(rw[mj,D,L];rfl)|(rw[mj,D,L,e];rfl)|(rw[mj,D,L,e,o];rfl)|(rw[mj,D,L,e,o,g];rfl)|(rw[mj,D,L,e,o,g,u];rfl)|(rw[mj,D,L,e,o,g,u,h115];rfl))
  refine Cn ?_ ?_<;>intro y
  .rw[uu y];exact Sz aJ<|aC<|Rt<|Qq
  have h2:=y;have ⟨tx,l⟩:∃tx,tx=(kM r.edits).1:=X_;have ⟨f_,G⟩:∃f_,f_=(kM r.edits).2:=X_;rw[<-l,<-G]at β;refine aB<|S<|O (bD DU)<|Y (bU pK)<|Y (kc call156 (β _))<|Y aA<|Y dL<|Y dL<|Y aJ<|V aJ<|O aA<|V iE<|Cn ?_ ?_<;>intro z
  .have hb:f_=η:=by have:=z;cases f_;rfl;cases this
   rw[Rw (G.symm.trans hb)];exact Sz aJ<|aC<|Rt<|Qq
  have hb:f_=N:=by have:=z;cases f_;cases this;rfl
  have h3:(kM r.edits).2=N:=G.symm.trans hb;have hyes:=λh4=>Rv h1 h2 h3 h4;clear l G;refine aB<|O aJ<|Y aJ<|Y aJ<|Y aJ<|Da<|eU (λ(p:W5)=>([(1,.ref 1 0 0 0),(3,.ref 3 0 0 0),(10,sv p.1),(11,bv p.2.1),(12,iv p.2.2.1),(13,sv p.2.2.2.1),(14,bv p.2.2.2.2)],[(5,bx 7 51 ((xU r.priv).map .pv)),(3,Rs),(1,bx 21 53 ((eD r).map .pv))])) (λp=>NS r=N/\p=EC r) ?_ ?_
  .refine O (bD pA)<|V (bU M_)<|aD<|O cG<|Da<|Cn ?_ ?_<;>intro W
   .have E:=aC6 (b8 W);refine Rg<|Da ?_;exact⟨_,E,L_⟩
   have hk1:=b_ W;refine O cG<|Da<|Cn ?_ ?_<;>intro τ
   .have E:=aC5 (b8 τ);refine aN a7<|Cq (bD DT)<|Cq (bU N_)<|Cq (bD JK)<|Cq (bU nU)<|Cq aJ<|Cq aJ<|bG<|Kr ?_;exact⟨_,E,L_⟩
   have hk2:=b_ τ;refine O cG<|Da<|Cn ?_ ?_<;>intro σ
   .have c:=b8 σ;refine S<|aN a7<|Cq (bD DT)<|Cq (bU N_)<|Cq (bD zB)<|Cq (bU M_)<|Cq (bD zB)<|Cq (bU M_)<|Cq cG<|Cq aJ<|Cq aJ<|Cq aJ<|bG<|Kr<|O (bU qB)<|Y aA<|Y (dH Z Z Z (dO.fn sE (P r.order 1 4 _)))<|V iE<|Cn ?_ ?_<;>intro ρ
    .have E:nA r.order 1 4=η:=by have:=ρ;revert this;cases nA r.order 1 4<;>simp
     rw[ZB (by rw[NS,b6 c];exact E)];exact Sz aJ<|aC<|Rt<|Qq
    have E:=aC4 c (by have:=ρ;revert this;cases nA r.order 1 4<;>simp);refine aB ?_;exact⟨_,E,L_⟩
   have c:=b_ σ;refine O cG<|Da<|Cn ?_ ?_<;>intro κ
   .have f:=b8 κ;refine O (bD xS)<|Y (bU N_)<|V aJ<|S<|aT (t:=162) (n:=10) (A_:=!cK r.from'||θ (r.from'=r.branch)) ?_ ?_
    .all_goals refine Y aA<|Y (kc pL (hnf _))<|Y iE<|Dm ?_<;>(refine Sp 157 (λh157=>?_) λh157=>?_)<;>(first|exact s_|refine M<|M<|M<|M ?_|refine U aA<|U (bD DV)<|U (bU N_)<|U vT ?_)<;>refine V cE ?_<;>exact Gj (h:=by(rw[h157];rfl))
    refine Cn ?_ ?_<;>intro j
    .have E:(cK r.from'&&!θ (r.from'=r.branch))=η:=by have:=j;revert this;cases cK r.from'<;>cases θ (r.from'=r.branch)<;>simp
     rw[ZB (by rw[NS,a8 c,b6 f];exact E)];exact Sz aJ<|aC<|Rt<|Qq
    have E:cK r.from'=N/\¬ r.from'=r.branch:=by have:=j;rw[r6,Bool.not_eq_false',n_]at this;exact this
    have E:=aC3 f E.1 E.2;refine aB ?_;exact⟨_,E,L_⟩
   have f:=b_ κ;refine O cG<|Da<|Cn ?_ ?_<;>intro k
   .have E:=aC2 (b8 k);refine aB ?_;exact⟨_,E,L_⟩
   have hk5:=b_ k;rw[ZB (by rw[NS,a8 c,a8 f,decide_eq_false X])];exact Sz aJ<|aC<|Rt<|Qq
  rintro _ ⟨h4,rfl⟩;rw[hyes h4];have hdT:=λH=>X8 (dh r) hwt H;have I:v5G r=(((((θ (r.target=dh r)&&(r.yes == Qu r))&&θ (r.order=Fh r))&&θ (r.from'=Gu r))&&(θ (0<(C (r.edits.map bM):Int)) == Qv r))&&(!Yx r||m6 (dh r))):=rfl;rw[EC];refine S<|aT (t:=15) (n:=10) (A_:=Yx r) ?_ ?_
  .all_goals refine Y (bD pA)<|Y (bU M_)<|Y cG<|Dm ?_<;>(refine Sp 168 (λh168=>?_) λh168=>?_)<;>(first|exact s_|refine M<|M<|M ?_|refine U (bD pA)<|U (bU M_)<|U cG ?_)<;>refine Y cE<|Da ?_<;>exact Gj (h:=by(rw[Yx,h168];rfl))
  refine S<|aT (t:=2) (n:=45) (A_:=v5G r) ?_ ?_
  .all_goals refine Y (bD DT)<|Y (bU N_)<|Y aA<|Y vT<|Dm ?_<;>(refine Sp 177 (λB=>?_) λB=>?_)<;>(first|exact s_|refine M<|M<|M<|M ?_|refine U (bD JK)<|U (bU nU)<|U aA<|U (ic Z fP Z Z) ?_)<;>refine Y cE<|Dm ?_<;>(refine Sp 183 (λF=>?_) λF=>?_)<;>(first|exact s_|refine M<|M<|M<|M ?_|refine U (bD zB)<|U (bU M_)<|U aA<|U cG ?_)<;>refine Y cE<|Dm ?_<;>(refine Sp 189 (λJ=>?_) λJ=>?_)<;>(first|exact s_|refine M<|M<|M<|M ?_|refine U (bD xS)<|U (bU N_)<|U aA<|U vT ?_)<;>refine Y cE<|Dm ?_<;>(refine Sp 195 (λi=>?_) λi=>?_)<;>(first|exact s_|refine M<|M<|M<|M<|M<|M ?_|refine U (bD DU)<|U (bU pK)<|U (fJ fE)<|U iZ<|U aA<|U (ic Z fP Z Z) ?_)<;>refine Y cE<|Dm ?_<;>(refine Sp 203 (λv=>?_) λv=>?_)<;>(first|exact s_|refine M<|M<|M ?_|refine U aA<|U iE<|U aA ?_)<;>(first|refine Sp 206 (λh206=>?_) λh206=>?_|refine kX (t:=206) Z ?_)<;>(first|exact s_|refine M ?_|refine Fu ?_|refine U aA ?_)<;>(first|refine M ?_|refine Fu ?_|refine U (kc call30 (hdT _)) ?_)<;>(first|refine M ?_|refine U cE ?_)<;>refine Y cE<|Da ?_<;>exact Gj (h:=by first|(rw[I,B];rfl)|(rw[I,B,F];rfl)|(rw[I,B,F,J];rfl)|(rw[I,B,F,J,i];rfl)|(rw[I,B,F,J,i,v];rfl)|(rw[I,B,F,J,i,v,h206];rfl))
  exact aC<|Rt<|Qq
open Go.Lib
structure FSeal(s:q7):Prop where
 i0:0<=s.idx
 i1:s.idx<256
 sl:C s.sig<=18
 pl:C s.path<=8
 sa:∀t∈s.sig,m6 t=N
 pa:∀t∈s.path,m6 t=N
theorem nh{s}(h:BP s=N):s=⟨0,[],[]⟩:=by rw[BP,l6,g_]at h;have ⟨i,a,b⟩:=s;have ⟨c,e⟩:=h;simp at c e;have f:a=[]:=eq_nil_of_length_eq_zero X;have d:b=[]:=eq_nil_of_length_eq_zero X;subst c f d;rfl
theorem lJ{s}(h:lK s=N):FSeal s:=by
 rw[lK,Bool.or_eq_true]at h;rcases h with h|h
 .have:=nh h;subst this;exact⟨H_,H_,H_,H_,H_,H_⟩
 simp[l6,j0,g_,all_eq_true]at h;have ⟨⟨⟨⟨⟨d,c⟩,B⟩,D⟩,a⟩,b⟩:=h;exact⟨d,c,X,X,a,b⟩
structure VF(r:j_):Prop where
 tr:∀q∈r.priv.trace,(0<=q.1/\q.1<=1048575)/\(0<=q.2/\q.2<=1048575)
 nm:T r.priv.name<=200
 rs:T r.priv.reason<=200
 so:∀s∈r.priv.sources,T s<=200
 sol:C r.priv.sources<=16
 trl:C r.priv.trace<=200
 psl:lK r.priv.sl=N
 sl:lK r.sl=N
 au:0<=r.author/\r.author<=59
 nu:1<=r.number/\r.number<=128
 cl:1<=r.clock/\r.clock<=1000000
 br:cK r.branch=N
 pal:C r.parents<=16
 pa:∀p∈r.parents,m6 p=N
 inc:Mp r.parents=N
 tx:(kM r.edits).2=N
 k:NS r=N
 ta:r.target=dh r
 ye:r.yes=Qu r
 od:r.order=Fh r
 fr:r.from'=Gu r
 ed:θ (0<C r.edits)=Qv r
 nd:Yx r=N->m6 (dh r)=N
theorem bf{s}:LM s=η↔T s<=200:=by rw[LM,n_];omega
theorem tB{r}(h:iI r=N):VF r:=by
 simp[iI,l6,r9]at h;have ⟨⟨⟨⟨b,a⟩,m⟩,g⟩,d⟩:=h;simp only[uw,r6,Bool.not_eq_false',r9,n_,g_,any_eq_false,Bool.not_eq_true]at b;have ⟨⟨⟨⟨⟨⟨v,c⟩,w⟩,B⟩,D⟩,l⟩,t⟩:=b;simp[mj,r6,Bool.not_eq_false',n_,g_,all_eq_true,nA,l6,j0]at a;have ⟨⟨⟨⟨⟨⟨z,i⟩,n⟩,u⟩,E⟩,x⟩,f⟩:=a;simp[v5G,l6,j0,beq_iff_eq,g_,Bool.or_eq_true,r9]at d;have ⟨⟨⟨⟨⟨k,y⟩,j⟩,e⟩,F⟩,G⟩:=d;refine⟨λq o=>?_,bf.1 (c _ H_),bf.1 (c _ H_),λs p=>bf.1 (w s p),X,X,l,t,z,i,n,u,X,x,f,m,g,k,y,j,e,?_,λH=>?_⟩
 .have:=v q o;simp[aw,r6,Bool.not_eq_false',l6,j0]at this;exact this
 all_goals simp_all
theorem CB{r}(h:NS r=N):1<=r.kind/\r.kind<=5:=by
 rw[NS]at h
 grind
theorem NL{s}(h:cK s=N):T s<=24:=by simp[cK,l6,j0]at h;omega
theorem ns{l}(h:(eH l).2=0):T (eH l).1<=20000:=by
 have a:=FA h;rw[iN]at a
 split at a
 .have:=congrArg Prod.snd a;cases this
 omega
theorem RM{l}(h:(kM l).2=N):T (kM l).1<=20000:=by
 rw[kM]at h |-
 split at h
 .next a =>
  rw[b6 a];exact E_
 next a =>
 rw[a8 a];exact ns (b8 h)
theorem DQ{s}(h:m6 s=N):T s<=16:=Nat.le_of_eq (iW h)
theorem VF.target{r}(h:VF r):T r.target<=16:=by
 rw[h.ta];by_cases a:Yx r=N
 .exact DQ (h.nd a)
 have:dh r=a6:=by
  rw[dh,a8];rintro(e|e)<;>simp[Yx,e]at a
 rw[this];decide
theorem VF.from{r}(h:VF r):T r.from'<=24:=by
 rw[h.fr,Gu]
 split
 .next e =>
  have a:=h.k;rw[NS,a8 X,b6 e,l6]at a;exact NL a.1
 decide
theorem VF.order{r}(h:VF r):0<=r.order/\r.order<=4:=by
 rw[h.od,Fh]
 split
 .next e =>
  have a:=h.k;rw[NS,b6 e,nA,l6,j0,j0]at a;omega
 decide
def VL(p:GPriv):List IV:=[.t p.name,.t p.reason,.l p.sources,.p p.trace]
def M0(r:j_):List IV:=[.z r.sl.idx r.sl.sig r.sl.path,.t r.priv.name,.t r.priv.reason,.l r.priv.sources,.p r.priv.trace,.z r.priv.sl.idx r.priv.sl.sig r.priv.sl.path]
def jW(r:j_):List B_:=vW r++zQ (M0 r)
def H9(r:j_):B_:=if iI r=N then uI (vW r)else a6
def mW(r:j_):B_×Int:=if iI r=N then(if 20000<C (aO (jW r)) then(a6,2)else(a_ (aO (jW r)),0))else(a6,1)
def prW:B_:=⟨#[112,114,105,118,97,116,101]⟩
def ba(r:j_):B_:=uI ([prW,H9 r]++zQ (VL r.priv))
def Yz(x:B_):Prop:=T x<=20000
theorem qV{n}(a : -9223372036854775808<=n)(b:n<=9223372036854775807):Yz (aV n):=Nat.le_trans (oE a b) H_
theorem LG{n:Nat}(h:n<2^40):Yz (aV n):=qV X X
theorem ff{s}(h:FSeal s):∀x∈fI (.z s.idx s.sig s.path),Yz x:=by
 intro x a;have B:=h.i0;have D:=h.i1;have l1:=h.sl;have l2:=h.pl;simp only[fI,l9,mem_append]at a;rcases a with rfl|(rfl|a)|(rfl|a)
 .exact qV X X
 .exact LG X
 .exact Nat.le_trans (DQ (h.sa x a)) H_
 .exact LG X
 exact Nat.le_trans (DQ (h.pa x a)) H_
theorem fe{s}(h:FSeal s):C (fI (.z s.idx s.sig s.path))<=29:=by have l1:=h.sl;have l2:=h.pl;simp[fI,j6,j8];omega
theorem KP{r:j_}(h:VF r):∀x∈vW r,Yz x:=by
 intro x a;have ⟨v,b,a⟩:=mem_flatMap.1 a;have G:=CB h.k;have B:=h.au;have D:=h.nu;have E:=h.cl;have F:=h.order;have e:=NL h.br;have d:=h.target;have c:=h.from
 have H:=h.pal;simp only[NA,l9,q8,or_false]at b;rcases b with rfl|rfl|rfl|rfl|rfl|rfl|rfl|rfl|rfl|rfl|rfl|rfl<;>simp only[fI,l9,q8,or_false]at a
 .subst a;exact(by decide:T HL<=20000)
 .subst a;exact qV X X
 .subst a;exact qV X X
 .subst a;exact qV X X
 .subst a;exact qV X X
 .subst a;exact Nat.le_trans e E_
 .rcases a with rfl|a
  .exact LG X
  exact Nat.le_trans (DQ (h.pa x a)) E_
 .subst a;exact RM h.tx
 .subst a;exact Nat.le_trans d E_
 .subst a;split<;>exact qV E_ E_
 .subst a;exact qV X X
 subst a;exact Nat.le_trans c E_
theorem KO{r}(h:VF r):C (vW r)<=28:=by have:=h.pal;rw[vW,gf];omega
theorem Jz{r}(h:VF r):∀x∈zQ (VL r.priv),Yz x:=by
 intro x a;have ⟨v,b,a⟩:=mem_flatMap.1 a;have d:=h.nm;have c:=h.rs;have B:=h.sol;have D:=h.trl;simp[VL,l9,q8,or_false]at b;rcases b with rfl|rfl|rfl|rfl<;>simp only[fI,l9,q8,or_false,mem_flatMap]at a
 .subst a;exact Nat.le_trans d H_
 .subst a;exact Nat.le_trans c H_
 .rcases a with rfl|a
  .exact LG X
  exact Nat.le_trans (h.so x a) H_
 rcases a with rfl|⟨q,e,a⟩
 .exact LG X
 have ⟨E,F⟩:=h.tr q e;rcases a with rfl|rfl
 .exact qV X X
 exact qV X X
theorem Kf(ps):C (fI (.p ps))=1+2*C ps:=by rw[show fI _=aV _::QF _ from Z,j6,QE];omega
theorem Jy{r}(h:VF r):C (zQ (VL r.priv))<=420:=by have B:=h.sol;have D:=h.trl;have:=Kf r.priv.trace;simp[zQ,VL,flatMap_cons,flatMap_nil,j8,this];simp[fI,j6,length_nil];omega
theorem om(r):zQ (M0 r)=fI (.z r.sl.idx r.sl.sig r.sl.path)++(zQ (VL r.priv)++fI (.z r.priv.sl.idx r.priv.sl.sig r.priv.sl.path)):=by simp[zQ,M0,VL,flatMap_cons]
theorem ZO{r}(h:VF r):∀x∈zQ (M0 r),Yz x:=by
 intro x a;rw[om]at a;rcases mem_append.1 a with a|a
 .exact ff (lJ h.sl) x a
 rcases mem_append.1 a with a|a
 .exact Jz h x a
 exact ff (lJ h.psl) x a
theorem ZN{r}(h:VF r):C (zQ (M0 r))<=478:=by have B:=fe (lJ h.sl);have D:=fe (lJ h.psl);have E:=Jy h;rw[om,j8,j8];omega
theorem LO{e_}(a:e_<1000000000000000000):∀(L),(∀s∈L,T s<=e_)->C (aO L)<=C L*(e_+22)
 | [],_=>k_ _
 |s::L,h=>by
  have D:=LO a L λx b=>h x (mem_cons_of_mem _ b);have B:=h s mem_cons_self;have hi:=oE (n:=(T s)) X X;rw[show aO _=(qQ s).data.toList++aO L by rfl,j8,pS,nY,j6,succ_mul];omega
theorem yS{L}(h:∀x∈L,Yz x){n}(a:C L<=n):C (aO L)<=n*20022:=Nat.le_trans (LO H_ L h) (mul_le_mul_right _ a)
end Go.Proofs.C
namespace Go.Abs
theorem aW.fin{P}{f}{args}{H}{Q a}(h:aW P f args H Q)(c:∀r H1,Q r H1->∃r' H2,Fin H H1 r H2 r'/\a r' H2):aW P f args H a :=λI l w vs j i d=>(h I _ w _ j i d).mono λ_ w' ⟨r,H',I',ι',v,e,q,m,b,g⟩=>by
  have ⟨r',H2,k,B⟩:=c r _ q;have ⟨I2,D,E,F,G⟩:=k ⟨I,l,H,w,[]⟩ Z _ _ _ v b g m
  grind
end Go.Abs
namespace Go.Proofs.C
open Go.Proofs.Tryz
open Go.Abs
theorem not_not{b}(h:(!b)=N):b=η:=F_
theorem pE{b}(h:(!b)=η):b=N:=F_
theorem gY{α:Type}(f:α->List PV)(l:List _):((l.map f).take (0+C l)).drop 0=l.map f:=take_of_length_le H_
theorem Zf(l):F4 ⟨(aO l).toArray⟩=uI l:=rfl
theorem Bi(r)(b:mX r)(a:C r.parents<549755813888)(H):RC 107 [av (eD r)] (.pv (aL (vW r))) H:=by refine aW.pure ((XF r b a).fin ?_) H_ H;rintro _ _ ⟨rfl,rfl⟩;exact⟨_,[],Fin.fz (id:=971) _ Z (dS _) (.osl (gY _ _)) Z T_ T_,Z,Z⟩
theorem Bj(r)(b:mX r)(a:C r.parents<549755813888){H}(B:H.get 971=ζ):aW φ 107 [av (eD r)] H (λx H'=>x=.osl 971 (pf r) 0 (C (vW r))/\H'=(971,⟨pf r,1,9,bQ (vW r)⟩)::H) :=aW.frame (XF r b a) (λ_ _ h=>by cases h) (λ_ _ h=>by cases h) H_ (λid h=>.inr (by
  by_cases e:971=id
  .simp_all
  simp[aF.get,kH e]at h))
theorem xv(r:j_)(g:mX r)(f:C r.parents<549755813888)(H:aF):RC 55 [av (eD r)] (sv (H9 r)) H:=by
 refine aW.pure ?_ F_ H;have j:=λH=>ZA r g f H;have e:=λH=>Bi r g f H;rw[H9];refine Bd func55 Z ntmps55<|O (kb 1)<|V aJ<|S<|O (xD cQ bL)<|Y (kc call105 (j _))<|V iE<|Cn ?_ ?_<;>intro c
 .rw[a8 F_];exact Sz aJ<|aC<|Rt<|Qq
 have h:=pE c;have i:=tB h;have B:=yS (KP i) (KO i);rw[b6 h];have b:=λH=>X6 (vW r) H X;have d:=λH=>vg _ H (by rw[show T (⟨(aO (vW r)).toArray⟩:B_)=C (aO (vW r)) from by rfl];omega);exact aB<|O (xD cQ bL)<|Y (bH Z Z call107 Z (e _))<|Y (bH Z Z call108 Z (b _))<|Y (kc call106 (d _))<|V aJ<|aC<|Rt<|Qq
theorem Ti{r}(h:mX r)(e:VF r):∀v∈M0 r,okI v:=by
 have ⟨_,_,_,_,⟨l,j,k⟩,B,D,i,c,g,b,f⟩:=h;intro v a;simp[M0,l9,q8,or_false]at a;rcases a with rfl|rfl|rfl|rfl|rfl|rfl
 .exact⟨l,j.1,k.1⟩
 .exact T_
 .exact T_
 .exact i.1
 .exact⟨c,λq d=>by
   have ⟨⟨E,F⟩,G,H⟩:=e.tr q d;exact⟨⟨X,X⟩,X,X⟩⟩
 exact⟨g,b.1,f.1⟩
theorem aAa{r}(h:mX r)(e:VF r):∀v∈VL r.priv,okI v:=by
 have ⟨_,_,_,_,_,B,D,b,c,c1,c2,c3⟩:=h;intro v a;simp[VL,l9,q8,or_false]at a;rcases a with rfl|rfl|rfl|rfl
 .exact T_
 .exact T_
 .exact b.1
 exact⟨c,λq d=>by
  have ⟨⟨E,F⟩,G,H⟩:=e.tr q d;exact⟨⟨X,X⟩,X,X⟩⟩
theorem ZE(r:j_)(n:mX r)(j:C r.parents<549755813888)(H:aF):RC 72 [av (eD r)] (.tup [sv (mW r).1,iv (mW r).2]) H:=by
 refine aW.pure ?_ F_ H;have t:=λH=>ZA r n j H;have s:=λH k=>Bj r n j (H:=H) k;rw[mW];refine Bd func72 Z ntmps72<|O (kb 1)<|Y aJ<|V aJ<|S<|O (xD cQ bL)<|Y (kc call105 (t _))<|V iE<|Cn ?_ ?_<;>intro i
 .have m:=not_not i;rw[a8 F_];exact O aJ<|V aJ<|aC<|Ru<|Qq
 have m:=pE i;have e:=tB m;have l:=yS (L:=jW r) (n:=506) (λx v=>(mem_append.1 v).elim (KP e x) (ZO e x)) (by
  have:=KO e;have:=ZN e;rw[jW,j8];omega)
 have D:=KO e;have E:=ZN e;rw[b6 m];have c:=tv (M0 r) (Ti n e) (pf r) (vW r) (show 6<2^40 by decide) X;have f:=λH=>X6 (jW r) H X;have q:jW r=vW r++zQ (M0 r):=rfl;rw[<-q]at c;generalize jW r=f_ at c f l |-;generalize pf r+ya (M0 r)=g at c;have o:(⟨(aO f_).toArray⟩:B_)=a_ (aO f_):=rfl;rw[o]at f;have B:T (a_ (aO f_))=C (aO f_):=cB _;refine aB<|O (xD cQ bL)<|Y (kc call107 (s _ Z))<|Y (kl 970 Yh)<|Uu (jH sizeOf131)<|Zz<|O (bD AO)<|Y (xD iC sizeOf48)<|Y (K3 (ps:=lV r.sl) Z (eC kI Z) Z)<|Y (bD iO)<|Y (bD JM)<|Y (bU N_)<|Y (gQ (p:=.str r.priv.name) Z (eC U_ Z) Z)<|Y (bD iO)<|Y (bD JL)<|Y (bU N_)<|Y (gQ (p:=.str r.priv.reason) Z (eC U_ Z) Z)<|Y (bD iO)<|Y (bD zC)<|Y (bU aG)<|Y (gQ (p:=aL r.priv.sources) Z (eC aE Z) Z)<|Y (bD iO)<|Y (bD tX)<|Y (bU kK)<|Y (gQ (p:=yG r.priv.trace) Z (eC gL Z) Z)<|Y (bD iO)<|Y (bD F1)<|Y (xD iC sizeOf48)<|Y (K3 (ps:=lV r.priv.sl) Z (eC kI Z) Z)<|Y (aM ((M0 r).map BA) Z AA Z Z Z Z Z (UG (M0 r)))<|V (kc wN (mf c ⟨Z,Z,T_⟩ m3))<|S ?_;refine gO.ent (cH.fzG (id:=971) (E':=[(4,.ref 970 0 0 0)]) (H':=[(970,bx 1 131 [.pv (aL f_)])]) (f_.map S_) Z (dS _) ?_ Z ?_ ?_) ?_
 .intro p j;simp only[l9,q8,or_false]at j;rcases j with rfl;exact⟨_,Z,.same m3⟩
 .exact⟨⟨_,Z,Z,Z,Z,mO Z (bJ (.osl (gY S_ _)) kG)⟩,T_⟩
 .exact T_
 refine Rd (bU isAgg131)<|Y (kc call108 (f _))<|V aJ<|S<|O aA<|Y (gG U_)<|V iZ<|Cn ?_ ?_<;>intro h
 .have d:20000<C (aO f_):=I_ h
  rw[b6 d];exact O aJ<|V aJ<|aC<|Ru<|Qq
 have d:¬ 20000<C (aO f_):=J_ h
 rw[a8 d];exact aB<|O aA<|Y aJ<|V aJ<|aC<|Ru<|Qq
theorem xu(r):T (H9 r)<=20000:=by
 by_cases h:iI r=N
 .rw[H9,b6 h];exact Nat.le_trans (Nat.le_of_eq (sC _)) H_
 rw[H9,a8 h];decide
theorem Cd(r:j_)(j:mX r)(e:C r.parents<549755813888)(l:iI r=N)(H:aF):RC 118 [av (eD r)] (sv (ba r)) H:=by
 refine aW.pure ?_ F_ H;have B:=λH=>xv r j e H;have h:=tB l;have D:=Jy h;have b:=tv (VL r.priv) (aAa j h) 0 [prW,H9 r] (show 4<2^40 by decide) G_;have f:=xu r;have E:=yS (L:=[prW,H9 r]++zQ (VL r.priv)) (n:=422) (λx d=>(mem_append.1 d).elim (λd=>by
   simp only[l9,q8,or_false]at d;rcases d with rfl|rfl
   .exact(by decide:T prW<=20000)
   exact f) (Jz h x)) G_
 rw[ba];have c:=λH=>bg ([prW,H9 r]++zQ (VL r.priv)) H X;generalize [prW,H9 r]++zQ (VL r.priv)=f_ at b c |-;generalize 0+ya (VL r.priv)=g at b;generalize H9 r=i at B b;refine Bd func118 Z ntmps118<|O (kb 1)<|V aJ<|O (xD cQ bL)<|Y (kc call55 (B _))<|Y (eQ (id:=971) Z R6 Z Z Z Z F_ Z)<|Y (kl 970 Yh)<|Uu (jH sizeOf131)<|Zz<|O (bD iO)<|Y (bD JM)<|Y (bU N_)<|Y (gQ (p:=.str r.priv.name) Z (eC U_ Z) Z)<|Y (bD iO)<|Y (bD JL)<|Y (bU N_)<|Y (gQ (p:=.str r.priv.reason) Z (eC U_ Z) Z)<|Y (bD iO)<|Y (bD zC)<|Y (bU aG)<|Y (gQ (p:=aL r.priv.sources) Z (eC aE Z) Z)<|Y (bD iO)<|Y (bD tX)<|Y (bU kK)<|Y (gQ (p:=yG r.priv.trace) Z (eC gL Z) Z)<|Y (aM ((VL r.priv).map BA) Z AA Z Z Z Z Z (UG (VL r.priv)))<|V (kc wN (mf b ⟨Z,Z,T_⟩ m3))<|S ?_;refine gO.ent (cH.fzG (id:=971) (E':=[(3,.ref 970 0 0 0)]) (H':=[(970,bx 1 131 [.pv (aL f_)])]) (f_.map S_) Z (dS _) ?_ Z ?_ ?_) ?_
 .intro p e;simp only[l9,q8,or_false]at e;rcases e with rfl;exact⟨_,Z,.same m3⟩
 .exact⟨⟨_,Z,Z,Z,Z,mO Z (bJ (.osl (gY S_ _)) kG)⟩,T_⟩
 .exact T_
 exact Rd (bU isAgg131)<|Y (kc call81 (c _))<|V aJ<|aC<|Rt<|Qq
end Go.Proofs.C
namespace Go.Abs
variable{F f:FuncId}{args:List AV}{c:Code}{P:Program}{H H0:aF}
section
theorem ET.of{P}{m4}{o}{E}{H}{R}{PP}(h:nf P m4 o E H R):ET P m4 o E H R PP :=λa w I ι e c d K Q b _=>h a w I _ T_ e c d K Q b
theorem ET.opr{P}{m4}{o}{E}{H}{R}(h:ET P m4 o E H R (λ_ _=>False)):nf P m4 o E H R :=λa w I ι _ f c e K Q b=>h a w I _ f c e K Q b (λ_ _ _ _ _ d=>d.elim)
def gA(P:Program)(f:FuncId)(args:List AV)(H:aF)(Q:AV->aF->Prop)(PP:dq->aF->Prop):Prop :=∀(I:Nat->Prop) (ι:mG) (w:World) (vs:Array Value),Rel I ι H w->vs.size=C args->(∀(i:Nat) (v:Value) (a:AV),vs[i]?=A v->args[i]?=A a->VRel w I ι H v a) ->
  Calls P f vs w λe w'=>(∃r H' D B v,e=.returned v/\Q r H'/\VRel w' D B H' v r/\Rel D B H' w'/\Step I ι H w D B H' w')\/(∃ch H' D B,e=.panicked ch/\PP ch H'/\Rel D B H' w'/\Step I ι H w D B H' w')
section
variable{Q:AV->aF->Prop}{PP:dq->aF->Prop}
theorem gA.of(h:aW P f args H Q):gA P f args H Q PP:=λI ι w vs b a c=>(h I _ w _ b a c).mono λ_ _ h=>.inl h
theorem gA.mono{g}{PP'}(h:gA P f args H Q PP)(l:∀r H',Q r H'->g r H')(m:∀c H',PP c H'->PP' c H'):gA P f args H g PP' :=λI ι w vs k j i=>(h I _ w _ k j i).mono λ_ _ h=>h.elim (λ⟨r,H',d,b,v,e,q,a⟩=>.inl ⟨r,H',d,b,v,e,l _ _ q,a⟩) (λ⟨c,H',d,b,e,q,a⟩=>.inr ⟨c,H',d,b,e,m _ _ q,a⟩)
theorem gA.calls(h:gA P f args H Q PP)(d:∀a H',¬ PP a H'):aW P f args H Q :=λI ι w vs c b e=>(h I _ w _ c b e).mono λ_ _ h=>h.elim id (λ⟨a,H',_,_,_,q,_⟩=>(d _ _ q).elim)
end
section
variable{m4:Nat}{o:Oper}{E:dD}{Q:AV->aF->Prop}{PP:dq->aF->Prop}
theorem eV{F}{f}{args}{c}{e}(m:o.op=.call {callee:=.value f,args:=args,argTypes:=c})(p:aS E f=A (.pv (.fn F)))
  (q:∀(args) (w),(callFunc F args).run P w=.ok (.enter F args) w) (g:zL E args.toList=A e) (h:gA P F e H Q PP):ET P m4 o E H Q PP:=by
 intro a w I r _ n j K B G J;have d:=(aK j p).fn_inv;have ⟨D,k⟩:=pW j (oI g);unfold Oper.wpW execOp;simp[m,resolve,d,Deferred.ofValue,Sem.run_bind,Sem.run_pure,Result.andThen_ok,invoke,q,Oper.uponW_enter];refine(h I r w _ n F_ (λi v b g l=>k i v b F_ l)).mono ?_
 grind
theorem HU{f:Operand}{args:Array Operand}{m:Array TypeId}{k c:List AV}(x:o.op=.call {callee:=.value f,args:=args,argTypes:=m})(t:aS E f=A (.clo F c))
  (s:∀(args:Array Value) (w:World),(callFunc F args).run P w=.ok (.enter F args) w) (d:zL E args.toList=A k) (h:gA P F (k++c) H Q PP):ET P m4 o E H Q PP:=by
 intro a w I u _ r n K B J L;have e:=aK n t;generalize j:a.eval f=D at e;have ⟨G,p⟩:=pW n (oI d);cases e with
 | @clo _ us _ hl q =>
  unfold Oper.wpW execOp;simp only[x,resolve,j,Deferred.ofValue,Sem.run_bind,Sem.run_pure,Result.andThen_ok,invoke,s,Oper.uponW_enter,Array.empty_append];have l:args.size=C k:=X
  refine(h I u w _ r F_ (λi v b d g=>?_)).mono ?_
  .by_cases hi:i<args.size
   .rw[Array.getElem?_append_left F_]at d;rw[getElem?_append_left X]at g;exact p i v b F_ g
   rw[Array.getElem?_append_right G_]at d;rw[getElem?_append_right X]at g;simp only[Array.size_map]at d;rw[l]at d;exact q _ v b d g
  grind
end
section
variable{m4:Nat}{o:Oper}{E:dD}{Q:AV->aF->Prop}{PP:dq->aF->Prop}{t t' J0:TypeId}{x y:Operand}
theorem pU{f}{xs}{c}(e:o.op=.makeFunc (.func f) xs #[])(d:zL E xs.toList=A c):cP P m4 o E H (.bnd f c) H :=.of_run λa w I ι _ h=>by
  have ⟨B,j⟩:=pW h (oI d);exact⟨.func _ (xs.map a.eval) #[],by simp[execOp,e,Instr.makeFunc],.bnd F_ (λi v b d g=>j i v b F_ g)⟩
theorem HV{f:Operand}{args:Array Operand}{j:Array TypeId}{l xs:List AV}(r:o.op=.call {callee:=.value f,args:=args,argTypes:=j})(u:aS E f=A (.bnd F xs))
  (z:∀(args:Array Value) (w:World),(callFunc F args).run P w=.ok (.enter F args) w) (d:zL E args.toList=A l) (h:gA P F (xs++l) H Q PP):ET P m4 o E H Q PP:=by
 intro a w I B _ m k K D L R;have c:=aK k u;generalize g:a.eval f=G at c;have ⟨J,n⟩:=pW k (oI d);cases c with
 | @bnd _ s _ hl p =>
  unfold Oper.wpW execOp;simp only[r,resolve,g,Deferred.ofValue,Sem.run_bind,Sem.run_pure,Result.andThen_ok,invoke,z,Oper.uponW_enter,Array.append_empty];refine(h I B w _ m F_ (λi v b d e=>?_)).mono ?_
  ·by_cases q:i<s.size
   ·rw[Array.getElem?_append_left q]at d;rw[getElem?_append_left X]at e;exact p i v b d e
   rw[Array.getElem?_append_right (by omega)]at d;rw[List.getElem?_append_right (by omega)]at e;exact n _ v b (by simp_all) e
  grind
abbrev ms(t:TypeId):dq:=[{v:=.iface t (.agg #[]),recovered:=η}]
theorem XO(e:o.op=.panic x)(f:aS E x=A (.pv (.ifa t []))):ET P m4 o E H (λ_ _=>False) (λc H'=>c=ms t/\H'=H):=by intro a w I ι _ g h K B D b;have ⟨cs,d,F,_⟩:=(aK h f).ifa_inv;have:=Array.eq_empty_of_size_eq_zero X;subst this;unfold Oper.wpW execOp;simp[e,d];exact b _ w I _ H ⟨Z,Z⟩ g (Step.refl _ _ _ _)
end
section
variable{G0:aF}{m4:Nat}{E:dD}{ops:Array Oper}{Q:Exit->dD->aF->Prop}{o:Oper}{rest:List Oper}{R:AV->aF->Prop}{PP:dq->aF->Prop}
def Fg(P:Program)(G0:aF)(m4:Nat)(ops:Array Oper)(Q:Exit->dD->aF->Prop)(l:List Oper)(E:dD)(H:aF):Prop :=∀G:Entry,G.H=G0->∀a w,St G m4 E H a w->∀ro,(ro=ζ\/l.all Oper.noDefer=N)->wpListIn (RF ro) 0 P ops (λe a w=>∃E H,Q e E H/\St G m4 E H a w) l a w
theorem QZ(h:Q .normal E H):Fg P G0 m4 ops Q [] E H:=λ_ _ a w b _ _=>⟨E,H,h,b⟩
theorem Pq(l:o.guard=ζ)(B:jM m4 o.dst=N)(h:ET P m4 o E H R PP)(e:∀d H',PP d H'->Q (.panic d) E H')(i:∀r H',R r H'->Fg P G0 m4 ops Q rest (nX E o.dst r) H'):Fg P G0 m4 ops Q (o::rest) E H:=by intro G j a w k ro c;refine wpListIn_plain l λF m=>?_;exact k.opP B h (λr H' D g n b=>m _ _ (i r _ n G j _ _ b _ (oD c).2)) (λd H' g f b=>⟨E,H',e _ _ f,b⟩) (oD c).1
theorem Zj(b:o.guard=ζ)(B:jM m4 o.dst=N)(h:nf P m4 o E H R)(a:∀r H',R r H'->Fg P G0 m4 ops Q rest (nX E o.dst r) H'):Fg P G0 m4 ops Q (o::rest) E H :=Pq (PP:=λ_ _=>False) b B (.of h) (λ_ _ h=>h.elim) a
theorem jC{d}{v}{H2}(a:o.guard=ζ)(B:o.dst=A d)(c:Nat.blt d m4=N)(h:cP P m4 o E H v H2)(e:Fg P G0 m4 ops Q rest ((d,v)::E) H2):Fg P G0 m4 ops Q (o::rest) E H :=Zj a (by rw[B];exact c) h λr H' ⟨b,f⟩=>by subst b f;rw[B];exact e
theorem Ps{v}{H2}(d:o.guard=ζ)(B:o.dst=ζ)(h:cP P m4 o E H v H2)(a:Fg P G0 m4 ops Q rest E H2):Fg P G0 m4 ops Q (o::rest) E H :=Zj d (by rw[B];rfl) h λr H' ⟨c,b⟩=>by subst c b;rw[B];exact a
theorem cu{d}{v}{H2}{F}(j:o.guard=ζ)(B:o.dst=A d)(e:Nat.blt d m4=N)(h:ET P m4 o E H (λr H'=>r=v/\H'=H2/\F) PP)(b:∀a H',PP a H'->Q (.panic a) E H')(f:F->Fg P G0 m4 ops Q rest ((d,v)::E) H2):Fg P G0 m4 ops Q (o::rest) E H :=Pq j (by rw[B];exact e) h b λr H' ⟨c,g,i⟩=>by subst c g;rw[B];exact f i
theorem rB(c:o.guard=ζ)(B:jM m4 o.dst=N)(h:ET P m4 o E H (λ_ _=>False) PP)(b:∀a H',PP a H'->Q (.panic a) E H'):Fg P G0 m4 ops Q (o::rest) E H:=Pq c B h b (λ_ _ h=>h.elim)
theorem iA{id}(h:Fg P G0 m4 ops Q ops.toList E H):gO P G0 m4 (.region id ops η) Q E H:=λG d a w b ro c=>wpIn_region_list (h G d a w b _ c)
end
def Qp(P:Program)(fn:Func)(G0:aF)(Q:AV->aF->Prop)(PP:dq->aF->Prop)(e:Exit)(E:dD)(H:aF):Prop :=OI P fn G0 Q e E H\/∃ch H',e=.panic ch/\Fin G0 H (.tup []) H' (.tup [])/\PP ch H'
theorem OE{P}{a}{G0 H}{Q}{PP}{e}{E}(h:OI P a G0 Q e E H):Qp P a G0 Q PP e E H:=.inl h
theorem GA{P}{d}{G0 H H'}{Q}{PP}{a:dq}{E}(c:Fin G0 H (.tup []) H' (.tup []))(b:PP a H'):Qp P d G0 Q PP (.panic a) E H:=.inr ⟨a,H',Z,c,b⟩
theorem gA.body{o:Func}{Q:AV->aF->Prop}{PP:dq->aF->Prop}{m4:Nat}(v_:P.funcs[f]?=some o)(y_:o.body=some c)(hN:o.ntmps=m4)(hlen:args.length<=m4)
  (h:gO P H m4 c (Qp P o H Q PP) (oS args) H):gA P f args H Q PP:=by
 intro I n w s o_ hl f_;refine callsIn_wide.1 (callsIn_of_wp_marks (F:=Fence.wide) (n:=0) v_ y_ T_ ?_);have F:St ⟨I,n,H,w,[]⟩ m4 (oS args) H {tmps:=s++Array.replicate (o.ntmps - s.size) undef,defers:=[]} w:=by
  refine⟨uQ.nil _ _ _,?_,I,n,o_,Step.refl _ _ _ _,λt a z_=>?_⟩
  ·grind
  have R:=xT z_;have G:t<s.size:=G_
  have W:s[t]?=some s[t]:=Array.getElem?_eq_getElem G;exact⟨s[t],by grind,f_ t _ a W R⟩
 refine wpIn_mono (h ⟨I,n,H,w,[]⟩ Z _ w F none (.inl Z)) ?_;rintro e y m ⟨E',k,(⟨u_,r,d_,r',z,i,L⟩|⟨B,z,rfl,i,L⟩),D⟩
 ·have u:LeavesInM Fence.wide 0 P o y.tmps (λe m=>(∃r k g b v,e=.returned v/\Q r k/\VRel m g b k v r/\Rel g b k m/\Step I n H w g b k m)\/(∃B k g b,e=.panicked B/\PP B k/\Rel g b k m/\Step I n H w g b k m)) y.defers .returning m:=by
   have ⟨g,b,q,d,p⟩:=D.rel;refine xO D.defers q d p ?_;intro E l j i_;have ⟨v,h1,A_⟩:=d_ y E g b l i_;have ⟨e_,x,c_,K,J0⟩:=i ⟨I,n,H,w,[]⟩ Z g b E v l j A_
   grind
  rcases u_ with rfl|rfl
  ·exact u
  exact u
 have ⟨g,b,q,d,p⟩:=D.rel;show LeavesInM Fence.wide 0 P o y.tmps _ y.defers (.panicking B) m;refine A3 H_ D.defers q d p ?_;intro E l j i_;have ⟨e_,x,c_,K,J0⟩:=i ⟨I,n,H,w,[]⟩ Z g b E (.tuple #[]) l j (.tup Z H_);exact .inr ⟨B,z,e_,x,Z,L,c_,K⟩
theorem T7{I x:Nat->Prop}{ι s:mG}{H':aF}{w w':World}(p:Rel I ι H w)(G:Sub H0 H)(k2:Rel x s H' w')(m:Step I ι H0 w x s H' w')(hk:∀id,(H'.get id).isSome=N->(H0.get id).isSome=N\/H.get id=ζ):
  ∃f,Rel x f (H'++H) w'/\Step I ι H w x f (H'++H) w'/\∀v a,VRel w' x s H' v a->VRel w' x f (H'++H) v a:=by
 have ⟨f,τ⟩:∃f:mG,f=(λj=>if(H'.get j).isSome=N then s j else ι j):=X_;have B:∀j o,H'.get j=A o->f j=s j:=λj o d=>by simp_all
 have D:∀j,H'.get j=ζ->f j=ι j:=λj d=>by simp_all
 have W:∀j o,H'.get j=A o->aF.get (H'++H) j=A o:=λj o d=>by rw[gH,d]
 have F:∀j,H'.get j=ζ->aF.get (H'++H) j=H.get j:=λj d=>by rw[gH,d]
 have u_:∀j o,H.get j=A o->H'.get j=ζ->H0.get j=ζ:=λj o d E=>by
  cases e:H0.get j with
  |none=>rfl
  |some o0 =>
   have ⟨l,J0,_⟩:=m.objs j o0 e
   simp_all
 have y:∀j o b c,H.get j=A o->H'.get j=ζ->ι j=A (b,c)->¬ OH ι H0 b:=λj o b c d E K ⟨n,l,J,k,R⟩=>by
  have:=p.inj j n o l b c J d (G _ _ k) K R;subst this;rw[u_ j o d E]at k;cases k
 have o_:Step I ι H w x f (H'++H) w':=by
  refine⟨m.os,m.tape,m.output,m.size,λa ha E=>m.froz a ha (λh=>E (h.sub G)),m.imm,λb K=>?_,?_,?_,?_⟩
  .rcases m.immNew b K with g|g|g
   .simp_all
   .exact .inr (.inl (g.sub G))
   omega
  .rintro b ⟨j,o,c,d,t⟩;cases e:H'.get j with
   |some l =>
    rw[B j l e]at t;rcases m.own b ⟨j,l,c,e,t⟩with g|g
    .exact .inl (g.sub G)
    omega
   |none =>
    rw[D j e]at t;rw[F j e]at d;exact .inl ⟨j,o,c,d,t⟩
  .intro b K E;exact m.keep b K (λh=>E (h.sub G))
  intro j o d;cases e:H'.get j with
  |some l =>
   rcases hk j (by rw[e];rfl)with g|g
   .have ⟨o0,y_⟩:=Option.isSome_iff_exists.1 g;have:=G _ _ y_;rw[d]at this;cases this;have ⟨f_,z_,q2,q3⟩:=m.objs j o y_;exact⟨f_,W j f_ z_,q2,λe=>by rw[B j f_ z_];exact q3 e⟩
   rw[d]at g;cases g
  |none=>exact⟨o,(F j e).trans d,h_ _,λ_=>⟨D j e,Z,λ_=>h_ _⟩⟩
 have L:∀ {v:Value} {a:AV},VRel w' x s H' v a->VRel w' x f (H'++H) v a:=λv_ =>
  v_.mono' (λ_ _=>rfl) (λ_ h=>h) (λid o A_=>⟨o,W id o A_,h_ _,λ_=>⟨B id o A_,Z,λ_=>h_ _⟩⟩)
 refine⟨f,⟨k2.imm,λj o d=>?_,λj n o l b c J d k t i=>?_,k2.glob⟩,o_,λv a h=>L h⟩
 .cases e:H'.get j with
  |some l =>
   rw[W j l e]at d;obtain rfl:l=o:=Option.some.inj d;exact(k2.obj j l e).keep (B j l e) (λ_ _ _ _=>⟨Z,λh=>h⟩) (λr _ a _ v Q=>L Q)
  |none =>
   rw[F j e]at d;refine(p.obj j o d).keep (D j e) (λP z J0 r=>⟨m.keep P r (y j o P z d e J0),λe3 hi=>?_⟩) (λr _ a _ v Q=>Q.mono p o_);rcases m.immNew P hi with g|g|g
   .exact e3 g
   .exact y j o P z d e J0 g
   omega
 cases e:H'.get j with
 | some q =>
  rw[B j q e]at t;cases u:H'.get n with
  |some m4 =>
   rw[B n m4 u]at i;exact k2.inj j n q m4 b c J e u t i
  |none =>
   rw[D n u]at i;rw[F n u]at k;have r:=p.lt ⟨n,l,J,k,i⟩;rcases m.own b ⟨j,q,c,e,t⟩with g|g
   .exact absurd g (y n l b J k u i)
   omega
 | none =>
  rw[D j e]at t;rw[F j e]at d;cases u:H'.get n with
  |some m4 =>
   rw[B n m4 u]at i;have r:=p.lt ⟨j,o,c,d,t⟩;rcases m.own b ⟨n,m4,J,u,i⟩with g|g
   .exact absurd g (y j o b c d e t)
   omega
  |none =>
   rw[D n u]at i;rw[F n u]at k;exact p.inj j n o l b c J d k t i
theorem gA.conv{P}{f}{args}{H}{Q n}{PP PP'}(h:gA P f args H Q PP)(u:∀r H',Q r H'->∃H2,(∀j,H2.get j=H'.get j)/\n r H2)(x:∀c H',PP c H'->∃H2,(∀j,H2.get j=H'.get j)/\PP' c H2):gA P f args H n PP' :=λI ι w vs p t o=>(h I _ w _ p t o).mono λ_ _ h=>by
  rcases h with⟨r,H',k,b,v,e,q,s,d,i⟩|⟨c,H',k,b,e,q,d,i⟩
  .have ⟨H2,m,a⟩:=u r _ q;have ⟨l,g⟩:=d.congr m;exact .inl ⟨r,H2,k,b,v,e,a,s.mono d g,l,i.trans g⟩
  have ⟨H2,m,a⟩:=x _ _ q;have ⟨l,g⟩:=d.congr m;exact .inr ⟨c,H2,k,b,e,a,l,i.trans g⟩
theorem gA.frame{R}{PP}(h:gA P f args H0 R PP)(d:Sub H0 H)(s:dI H0)(y:∀a∈args,Clo H0 a)
  (g:∀r H1,R r H1->∀id,(H1.get id).isSome=N->(H0.get id).isSome=N\/H.get id=ζ) (l:∀c H1,PP c H1->∀id,(H1.get id).isSome=N->(H0.get id).isSome=N\/H.get id=ζ) :
  gA P f args H (λr H'=>∃K,R r K/\H'=K++H) (λc H'=>∃K,PP c K/\H'=K++H):=by
 intro I t w F j B x;refine(h I t w F (j.restrict d s) B (λi v a G q=>(x i v a G q).restrict d (y a (m7 q)))).mono ?_;rintro e w' (⟨r,H',E,k,v,rfl,n,k1,o,p⟩|⟨c,H',E,k,rfl,n,o,p⟩)
 .have ⟨m,u,z,D⟩:=T7 j d o p (g r H' n)
  grind
 have ⟨m,u,z,D⟩:=T7 j d o p (l c H' n)
 grind
end
section
def Ri(P:Program)(m4:Nat)(PP:dq->aF->aF->Prop)(ops rest:List Oper)(E:dD)(H:aF)(K:List Rec->List Prop->dD->aF->Prop):Prop:=∃rs Fs E' H',DChainP P m4 ops PP rest E H rs Fs E' H'/\K rs Fs E' H'
theorem LY{P}{m4}{PP}{ops}{E}{H}{K}(h:K [] [] E H):Ri P m4 PP ops [] E H K:=⟨_,_,_,_,.nil,h⟩
theorem wH{P}{m4}{PP}{ops rest}{o}{E}{H}{K}{r}{F}(h:DStepP P m4 ops PP o E H r F)(B:jM m4 o.dst=N)
  (d:Ri P m4 PP ops rest (nX E o.dst r.v) (r.W++H) (λa b E' H'=>K (r::a) (F::b) E' H')):Ri P m4 PP ops (o::rest) E H K:=by
 have ⟨a,b,E',H',c,e⟩:=d;exact⟨_,_,_,_,.cons h B c,e⟩
theorem ld{P}{m4}{PP}{ops rest}{o}{E}{H}{K}{r}(h:DStep P m4 ops o E H r)(B:jM m4 o.dst=N)
  (c:Ri P m4 PP ops rest (nX E o.dst r.v) (r.W++H) (λa b E' H'=>K (r::a) (True::b) E' H')):Ri P m4 PP ops (o::rest) E H K:=wH (.old T_ h) B c
theorem zK{P}{G0}{m4 id}{Q}{ops}{E}{H}(PP)(d a B)(i:xj d ops=N)(g:P.follows .mixedOrders=N)
  (j:∀e c H1 H2,(∀t∈d,c.get t=E.get t)->Shp a H H1->(∀id∈B,H1.get id=H.get id)->PP e H1 H2->Q (.panic e) c H2)
  (h:Ri P m4 PP ops.toList ops.toList E H (λb f E' H'=>(S8 ops.toList b=N/\Tb a H b=N/\xi B b=N)/\(dc f->Q .normal E' H'))):gO P G0 m4 (.region id ops N) Q E H:=by
 have ⟨b,f,E',H',n,⟨m,l,o⟩,k⟩:=h;exact Y0 g n m _ _ l o _ i j k
section
variable{G0:aF}{m4:Nat}{PP:dq->aF->aF->Prop}{ops rest:List Oper}{E:dD}{K:List Rec->List Prop->dD->aF->Prop}{dst:Option Tmp}{op:Op}{ty:TypeId}{pos:String}{af:Array Edge}{v:AV}{w:Nat×Ob}
theorem Pr(R:List Nat)(h:∀H1:aF,(∀id,uH (A R) id=N->H1.get id=H.get id)->cP P m4 ⟨dst,op,ty,pos,af,ζ⟩ (restr E (jJ ops ⟨dst,op,ty,pos,af,ζ⟩)) H1 v H1)(D:Ri P m4 PP ops rest (nX E dst v) H (λrs Fs E' H'=>K (⟨v,A R,[]⟩::rs) (True::Fs) E' H'))(B:jM m4 dst=N:=by rfl):Ri P m4 PP ops (⟨dst,op,ty,pos,af,ζ⟩::rest) E H K:=ld (r:=⟨v,A R,[]⟩) (DStep.plain Z h) B D
theorem Pw(R:List Nat)(h:∀H1:aF,(∀id,uH (A R) id=N->H1.get id=H.get id)->cP P m4 ⟨dst,op,ty,pos,af,ζ⟩ (restr E (jJ ops ⟨dst,op,ty,pos,af,ζ⟩)) H1 v (w::H1))(D:Ri P m4 PP ops rest (nX E dst v) (w::H) (λrs Fs E' H'=>K (⟨v,A R,[w]⟩::rs) (True::Fs) E' H'))(B:jM m4 dst=N:=by rfl):Ri P m4 PP ops (⟨dst,op,ty,pos,af,ζ⟩::rest) E H K:=ld (r:=⟨v,A R,[w]⟩) (DStep.plain Z h) B D
end
end
section
abbrev Qi(G:Entry)(Q:AV->aF->Prop):Ending->World->Prop:=λe w'=>∃r H' D B v,e=.returned v/\Q r H'/\VRel w' D B H' v r/\Rel D B H' w'/\Step G.I G.ι G.H G.w D B H' w'
def DWp(P:Program)(fn:Func)(G0:aF)(m4:Nat)(Q:AV->aF->Prop)(c:Code)(E:dD)(H:aF):Prop :=∀G:Entry,G.H=G0->G.ds=[]->∀a w,St G m4 E H a w->c.wpIn Fence.wide 0 P (bodyPostM Fence.wide 0 P fn (Qi G Q)) a w
section
variable{fn:Func}{G0 H:aF}{m4:Nat}{Q:AV->aF->Prop}{E:dD}
theorem CP{G}{e}{a}{w}(n:G.H=G0)(B:G.ds=[])(h:OI P fn G0 Q e E H)(m:St G m4 E H a w):bodyPostM Fence.wide 0 P fn (Qi G Q) e a w:=by
 have ⟨o,r,g,r',H'',b,K⟩:=h;have c:LeavesInM Fence.wide 0 P fn a.tmps (Qi G Q) a.defers .returning w:=by
  have ⟨I,D,k,f,l⟩:=m.rel;refine xO (B▸m.defers) k f l ?_;intro W i d j;have ⟨v,J,p⟩:=g a _ _ _ i j;have ⟨I2,F,L,k2,R⟩:=b G n _ _ _ v i d p
  grind
 rcases o with rfl|rfl
 .exact c
 exact c
theorem yi{x y}(h:gO P G0 m4 x (zP (λg H1=>DWp P fn G0 m4 Q y g H1) (OI P fn G0 Q)) E H):DWp P fn G0 m4 Q (.seq x y) E H:=by
 intro G c d a w i;refine wpIn_seq (wpIn_mono (h G c a w i _ (.inl Z)) ?_);rintro e B w' ⟨E',H',f,b⟩;cases e with
 |normal=>exact f G c d _ _ b
 |exit id=>exact CP c d f b
 |goto l=>exact CP c d f b
 |ret=>exact CP c d f b
 |panic ch=>exact CP c d f b
 |outgrown=>exact CP c d f b
theorem aW.bodyD(k:P.funcs[f]?=A fn)(o:fn.body=A c)(D:fn.ntmps=m4)(B:C args<=m4)(h:DWp P fn H m4 Q c (oS args) H):aW P f args H Q:=by
 intro I g w b j E i;refine callsIn_wide.1 (callsIn_of_wp_marks (n:=0) k o T_ ?_);have d:St ⟨I,g,H,w,[]⟩ m4 (oS args) H {tmps:=b++Array.replicate (fn.ntmps - b.size) undef,defers:=[]} w:=by
  refine⟨uQ.nil _ _ _,?_,I,g,j,Step.refl _ _ _ _,λt a n=>?_⟩
  ·grind
  have m:=xT n;have e:t<b.size:=G_
  have l:=Array.getElem?_eq_getElem e;exact⟨b[t],by grind,i t _ a l m⟩
 exact h _ Z Z _ w d
end
def df(P:Program)(F:FuncId)(args:List AV)(H:aF)(u:FrameMode)(K:aF->Prop):Prop :=∀(I:Nat->Prop) (ι:mG) (w:World) (vs:Array Value),Rel I ι H w->vs.size=C args->(∀(i:Nat) (v:Value) (a:AV),vs[i]?=A v->args[i]?=A a->VRel w I ι H v a) ->
  CallsDIn Fence.wide 0 P F vs u w λe E w'=>∃v H' D B,e=.returned v/\settle E=.returning/\K H'/\Rel D B H' w'/\Step I ι H w D B H' w'
def ze(P:Program)(fn:Func)(G0 H0:aF)(F:FuncId)(cs:List AV)(Q:AV->aF->Prop)(e:Exit)(E:dD)(H:aF):Prop :=∃u B H1,((e=.normal\/e=.ret)/\u=.returning\/∃ch,e=.panic ch/\u=.panicking ch)/\cH H0 E H B H1 /\
  df P F cs H1 u λH2=>∃r,(∀(a:Act) (w:World) (I:Nat->Prop) (ι:mG),Rel I ι H2 w->lX w I ι H2 B a->∃v,(results fn a.tmps).run P w=.ok v w/\VRel w I ι H2 v r)/\∃r' D,Fin G0 H2 r D r'/\Q r' D
section
variable{fn:Func}{G0 H:aF}{m4:Nat}{Q:AV->aF->Prop}{E:dD}
theorem Df{id:Nat}{A_ y_:Oper}{ops:Array Oper}{rest:Code}{l:Array Operand}{at_:Array TypeId}{d:Tmp}{cs:List AV}(z:ops.toList=[A_,y_])(hg1:A_.guard=ζ)(R:A_.dst=A d)(δ:Nat.blt d m4=N)(ho1:A_.op=.makeFunc (.func F) #[] l)
  (hg2:y_.guard=ζ) (κ:y_.dst=ζ) (ho2:y_.op=.defer {callee:=.value (.tmp d),args:=#[],argTypes:=at_}) (hv:zL E l.toList=A cs)
  (hc:∀(args:Array Value) (w:World),(callFunc F args).run P w=.ok (.enter F args) w)
  (h:gO P H m4 rest (ze P fn G0 H F cs Q) ((d,.clo F cs)::E) H):DWp P fn G0 m4 Q (.seq (.region id ops η) rest) E H:=by
 intro G hG hd a w hs;refine wpIn_seq (wpIn_region_list ?_);rw[z];refine wpListIn_plain hg1 λK1 τ=>?_;refine hs.op (ro:=ζ) (by rw[R];exact δ) (iG ho1 (oI hv)) ?_ (.inl Z);rintro r H' j q ⟨rfl,rfl⟩ k;refine τ j q ?_;rw[R]at k;refine wpListIn_plain hg2 λK2 σ=>?_;refine Oper.wpW_in (ro:=ζ) (.inl Z) ?_;have ⟨I1,f_,o,B,i_⟩:=k.rel;have ⟨c1,ρ,hv1⟩:=i_ d _ (dD.get_cons_same _ _ _);have hev:j.eval (.tmp d)=c1:=by simp[Act.eval,ρ]
 cases hv1 with
 | @clo _ K _ hl hh =>
  unfold Oper.wpW execOp;simp only[ho2,resolve,hev,Deferred.ofValue,Sem.run_bind,Sem.run_pure,Result.andThen_ok,Oper.uponW,κ,Act.put];refine σ _ q ?_;show Exit.then _ _ .normal _ q
  let dd:Deferred:={target:=.fn (.func F) K,args:=#[]++(#[]:Array Operand).map j.eval}
  have d_:St ⟨I1,f_,H',q,dd::j.defers⟩ m4 ((d,.clo F cs)::E) H' {j with defers:=dd::j.defers} q :=
   ⟨uQ.nil _ _ _,k.size,I1,f_,o,Step.refl _ _ _ _,i_⟩
  refine wpIn_mono (h _ Z _ q d_ ζ (.inl Z)) ?_;rintro e J w' ⟨E',H2,⟨u,E1,H1,n,I,W⟩,z_⟩;have L:=I _ Z m4 J w' z_;have p:u≠.run->LeavesInM Fence.wide 0 P fn J.tmps (Qi G Q) J.defers u w':=by
   intro hu;have ⟨I3,ι3,hr3,o_,γ⟩:=L.rel;refine A3 hu L.defers hr3 o_ γ ?_;intro w4 y g β;refine⟨hu,.inr ⟨(λhx=>by cases hx),.func F,K,F,K,Z,?_,λ_ _=>trivial,?_⟩⟩
   .show (invoke (.fn (.func F) K) (#[]++(#[]:Array Operand).map j.eval)).run P w4=_;simp only[invoke,Array.map_empty,Array.empty_append,hc]
   refine(W I3 ι3 w4 K y X (λi v b hv hb=>(hh i v b hv hb).mono o g)).mono ?_;rintro e2 u' w5 ⟨v,H5,I5,m,rfl,c_,⟨r,u_,r',H6,D,hq⟩,hr5,f⟩;show LeavesInM Fence.wide 0 P fn J.tmps (Qi G Q) j.defers (settle u') w5;rw[c_];have s:Step G.I G.ι G.H G.w I5 m H5 w5:=(B.trans g).trans f;have hm1:uQ [] G.w w5 j.defers:=(hd▸k.defers).step o (g.trans f);refine xO hm1 hr5 s (λt v ht=>let ⟨c,x1,x2⟩:=β t v ht;⟨c,x1,x2.mono y f⟩) ?_;intro w7 v_ x he7;have ⟨v,h1,h2⟩:=u_ J w7 I5 m v_ he7;have ⟨I8,ι8,k1,k2,k3⟩:=D G hG I5 m w7 v v_ x h2
   grind
  rcases n with⟨rfl|rfl,rfl⟩|⟨ch,rfl,rfl⟩
  .exact p H_
  .exact p H_
  exact p H_
end
end
end Go.Abs
namespace Go.Abs
open Go.Proofs
variable{d:Tmp}{E:dD}
section
section
variable{P:Program}{G0:aF}{m4:Nat}{Q:Exit->dD->aF->Prop}{H:aF}
def WF(P:Program)(G0:aF)(m4:Nat)(c:Code)(Q:Exit->dD->aF->Prop)(E:dD)(H:aF):Prop :=∀G:Entry,G.H=G0->∀a w,St G m4 E H a w->c.wpIn (RF ζ) 0 P (λe B w'=>(∃E H,Q e E H/\St G m4 E H B w')/\B.defers=a.defers) a w
def Zp(P:Program)(G0:aF)(m4:Nat)(ops:Array Oper)(K:dD->aF->Prop)(l:List Oper)(E:dD)(H:aF):Prop :=∀G:Entry,G.H=G0->∀a w,St G m4 E H a w->∀Q:Exit->Act->World->Prop,(∀E H B w',K E H->St G m4 E H B w'->B.defers=a.defers->Q .normal B w')->wpListIn (RF ζ) 0 P ops Q l a w
theorem HE{ops}{K}(h:K E H):Zp P G0 m4 ops K [] E H:=λ_ _ a w b _ c=>c _ _ a w h b Z
theorem St.opN{G}{a}{w}{o}{R}(d:St G m4 E H a w)(D:jM m4 o.dst=N)(h:nf P m4 o E H R){K}{Q}
  (l:∀r H' B w',R r H'->St G m4 (nX E o.dst r) H' B w'->B.defers=a.defers->K B w'):o.wpIn (RF ζ) 0 P a w K Q:=by
 refine Oper.wpW_in (.inl Z) ?_;have ⟨I,ι,g,e,j⟩:=d.rel;refine h a w I _ T_ d.size g j K Q ?_;intro c w' m f r H' n k i b;refine l r _ _ _ n ⟨?_,?_,m,f,i,e.trans b,lX.put g b j k (by rw[d.size];exact D)⟩ (mS _ _ _)
 .rw[mS];exact d.defers.step g b
 have:=d.size;cases o.dst<;>simpa[Act.put]using this
theorem Zk{ops}{K}{o}{rest}{R}(m:o.guard=ζ)(D:jM m4 o.dst=N)(h:nf P m4 o E H R)(k:∀r H',R r H'->Zp P G0 m4 ops K rest (nX E o.dst r) H'):Zp P G0 m4 ops K (o::rest) E H:=by intro G j a w l Q i;refine wpListIn_plain m λJ n=>?_;exact l.opN D h λr H' I w' g f e=>n _ _ (k r _ g G j _ _ f Q λE H B F d c b=>i E H _ _ d c (b.trans e))
theorem O6{ops}{K}{o}{rest}{v}{H2}(a:o.guard=ζ)(B:o.dst=A d)(c:Nat.blt d m4=N)(h:cP P m4 o E H v H2)(e:Zp P G0 m4 ops K rest ((d,v)::E) H2):Zp P G0 m4 ops K (o::rest) E H :=Zk a (by rw[B];exact c) h λr H' ⟨b,f⟩=>by subst b f;rw[B];exact e
theorem Pt{ops}{K}{o}{rest}{v}{H2}(d:o.guard=ζ)(B:o.dst=ζ)(h:cP P m4 o E H v H2)(a:Zp P G0 m4 ops K rest E H2):Zp P G0 m4 ops K (o::rest) E H :=Zk d (by rw[B];rfl) h λr H' ⟨c,b⟩=>by subst c b;rw[B];exact a
theorem sT{id}{ops}(h:Zp P G0 m4 ops (λE H=>Q .normal E H) ops.toList E H):WF P G0 m4 (.region id ops η) Q E H:=λG c a w d =>
 wpIn_region_list (h G c a w d _ λE H B w' q s b=>⟨⟨E,H,q,s⟩,b⟩)
theorem MD{x y}(h:WF P G0 m4 x (zP (WF P G0 m4 y Q) Q) E H):WF P G0 m4 (.seq x y) Q E H:=by intro G c a w g;refine wpIn_seq (wpIn_mono (h G c a w g) ?_);rintro e B w' ⟨⟨f,d,q,s⟩,b⟩;cases e<;>first|exact wpIn_mono (q G c _ _ s) (λe a w ⟨i,j⟩=>⟨i,j.trans b⟩)|exact⟨⟨f,d,q,s⟩,b⟩
theorem UT{id}{c}(h:WF P G0 m4 c (MK id Q) E H):WF P G0 m4 (.block id c) Q E H:=by
 intro G f a w i;refine wpIn_block (wpIn_mono (h G f a w i) ?_);rintro e B w' ⟨⟨g,d,q,s⟩,j⟩;cases e<;>try exact⟨⟨g,d,q,s⟩,j⟩
 simp only[MK]at q;simp[Exit.inBlock]
 split
 .rename_i b;subst b;rw[qA]at q;grind
 rename_i b;rw[kH b]at q;grind
theorem OC{c}{x y}{b}(j:aS E c=A (.pv (.bool b)))(g:b=N->WF P G0 m4 x Q E H)(k:b=η->WF P G0 m4 y Q E H):WF P G0 m4 (.cond c x y) Q E H:=by intro G f a w d;have ⟨I,ι,D,B,h⟩:=d.rel;have i:=(aK h j).bool_inv;exact wpIn_cond_split i (λe=>g e G f a w d) (λe=>k e G f a w d)
end
section
variable{P:Program}{fn:Func}{H:aF}{m4:Nat}{F:FuncId}{args:List AV}{K:aF->Prop}
def aFe(H:aF)(K:aF->Prop)(e:Exit)(E':dD)(H':aF):Prop:=(e=.normal\/e=.ret)/\∃H2,Fin H H' (.tup []) H2 (.tup [])/\K H2
theorem MI{id:Nat}{o:Oper}{ops:Array Oper}{e_:Code}{J0:Array TypeId}{u:FrameMode}{x:PV}{vx:Value}(hf:P.funcs[F]?=some fn)(hb:fn.body=some (.seq (.region id ops false) e_))(hN:fn.ntmps=m4)(hlen:args.length<=m4)(hr0:fn.results=#[])
  (z:ops=#[o]) (hg:o.guard=none) (hd:o.dst=some d) (W:Nat.blt d m4=true) (ho:o.op=.call {callee:=.builtin .recover,args:=#[],argTypes:=J0})
  (hx:∀(w:World) (I:Nat->Prop),PRep w I vx x) (f_:(u=.returning/\vx=.nilIface)\/(∃t,u=.panicking (ms t)/\vx=.iface t (.agg #[])))
  (h:WF P H m4 e_ (aFe H K) ((d,.pv x)::oS args) H):df P F args H u K:=by
 intro I r w k hr hl hv;refine callsDIn_of_wpSIn hf hb T_ ?_;intro b p c;refine wpSIn_seq (wpSIn_region ?_);subst z;have f:St ⟨I,r,H,w,[]⟩ m4 (oS args) H {tmps:=k++Array.replicate (fn.ntmps - k.size) undef,defers:=[]} w:=by
  refine⟨uQ.nil _ _ _,?_,I,r,hr,Step.refl _ _ _ _,λt a ht=>?_⟩
  ·grind
  have c_:=xT ht;have L:t<k.size:=G_
  have f_:k[t]?=some k[t]:=Array.getElem?_eq_getElem L;exact⟨k[t],by grind,hv t _ a f_ c_⟩
 obtain ⟨a,c_⟩:∃a:Act,a={tmps:=k++Array.replicate (fn.ntmps - k.size) undef,defers:=[]}:=X_;rw[<-c_]at f |-;have q:a.defers=[]:=by rw[c_]
 have D:St ⟨I,r,H,w,[]⟩ m4 ((d,.pv x)::oS args) H (a.put (some d) vx) w:=by
  obtain ⟨I1,v_,G,u_,k3⟩:=f.rel;refine⟨by rw[mS];exact f.defers,?_,I1,v_,G,u_,?_⟩
  ·have:=f.size
   simpa[Act.put]using this
  exact lX.put (d:=some d) G (Step.refl _ _ _ _) k3 (.pv (hx _ _)) (by rw[f.size];exact W)
 have l:∀s,settle s=.returning->e_.wpSIn Fence.wide 0 P (bodyPostS P fn b p λe s m=>∃v n d_ i,e=.returned v/\settle s=.returning/\K n/\Rel d_ i n m/\Step I r H w d_ i n m) (a.put (some d) vx) ({b with mode:=s}::p) w:=by
  intro s B;refine wpSIn_of_wpIn Z (wpIn_mono (h ⟨I,r,H,w,[]⟩ Z _ w D) ?_);rintro e a' m ⟨⟨E',n,⟨he,H2,y,hK⟩,z_⟩,hdf⟩;obtain ⟨I3,y_,G,u_,k3⟩:=z_.rel;obtain ⟨I4,R,q1,q2,q3⟩:=y ⟨I,r,H,w,[]⟩ Z I3 y_ m (.tuple #[]) G u_ (.tup Z (by simp));have Q:a'.defers=[]:=hdf.trans ((mS _ _ _).trans q);have i_:a'.defers=[]/\∃E,({b with mode:=s}::p:List Frame)={b with mode:=E}::p/\∃v,(results fn a'.tmps).run P m=.ok v m/\∃v0 n d_ i,Ending.returned v=.returned v0/\settle E=.returning/\K n/\Rel d_ i n m/\Step I r H w d_ i n m :=
   ⟨Q,s,Z,.tuple #[],by simp[results,hr0],.tuple #[],H2,I4,R,Z,B,hK,q1,q2⟩
  rcases he with rfl|rfl
  ·exact i_
  exact i_
 have A_:(execOp a.eval o).run P w=.ok .recover w:=by
  simp[execOp,ho,resolve,invoke];rfl
 have hw:Region.wanted o (yielded #[o] a.tmps)=true:=by simp[Region.wanted,hg]
 show wpOpsSIn _ _ _ _ _ [0] _ _ _;unfold wpOpsSIn;simp only[List.getElem?_toArray,List.getElem?_cons_zero,hw,if_true,A_];refine⟨λ_ _=>trivial,?_⟩;rcases f_ with⟨rfl,rfl⟩|⟨t,rfl,rfl⟩
 ·have g:recoverD (b::p)=none:=by simp[recoverD,c]
  rw[g];have hc:({b with mode:=.returning}:Frame)=b:=by rw[<-c]
  have:=l .returning Z;rw[hc]at this;rw[hd];exact this
 have g:recoverD (b::p)=some (.iface t (.agg #[]),{b with mode:=.panicking ({v:=.iface t (.agg #[]),recovered:=true}::[])}::p):=by simp[recoverD,c]
 rw[g];rw[hd];exact l (.panicking ({v:=.iface t (.agg #[]),recovered:=true}::[])) Z
end
section
variable{P:Program}{m4:Nat}{o:Oper}{H:aF}{t t' J0:TypeId}{x y:Operand}
theorem qc(e:o.op=.binOp .eql t x (.const .nilIface) t')(d:P.underlying t=A (.interface (P.methodsAt t)))(f:aS E x=A (.pv NK)):cP P m4 o E H (.pv (.bool N)) H :=.of_run λa w I ι _ b=>⟨.bool _,by
  have c:=(aK b f).sat_inv;have g:a.eval (.const _)=.nilIface:=rfl;simp[execOp,e,c,g,eqGuard,Sem.run_bind,Sem.run_pure,Result.andThen_ok,run_eql_nil_nil _ _ d,Bool.or_true,Bool.true_or,if_true,Bool.not_true,Bool.false_eq_true,if_false],.pv (.bool _)⟩
theorem qd{ps:List PV}{h:TypeId}(e:o.op=.binOp .eql t x (.const .nilIface) t')(d:P.underlying t=A (.interface (P.methodsAt t)))(f:aS E x=A (.pv (.ifa h ps))):cP P m4 o E H (.pv (.bool η)) H :=.of_run λa w I ι _ b=>⟨.bool η,by
  have ⟨cs,c,_⟩:=(aK b f).ifa_inv;have g:a.eval (.const .nilIface)=.nilIface:=rfl;simp only[execOp,e,c,g,eqGuard,Sem.run_bind,Sem.run_pure,Result.andThen_ok,binOp,run_equal_held_nil _ _ _ _ d];rfl,.pv (.bool _)⟩
abbrev aCz:PV:=.sat λv=>∃b,v=.pointer (A ⟨b,0,ζ⟩)
theorem qf(f:o.op=.alloc J0)(c:∀w,(zeroValue J0).run P w=.ok (.agg #[]) w):cP P m4 o E H (.pv aCz) H:=by intro a w I ι _ _ g he K Q e;unfold Oper.wpW execOp;simp[f,Instr.alloc,c,newVar,newRow,Sem.run_bind,run_newObj,Sem.run_pure,Result.andThen_ok];obtain ⟨d,b⟩:=Rel.newImm (w':={w with heap:=w.heap.push _}) g Z Z Z Z;exact e _ _ _ _ _ _ ⟨Z,Z⟩ (.pv (.sat Z ⟨_,Z⟩)) d b
theorem pz(k:o.op=.store J0 x y)(l:aS E x=A (.pv aCz))(n:aS E y=A (.agg []))(j:∀w,(sizeOf J0).run P w=.ok 0 w):cP P m4 o E H (.tup []) H:=by
 intro a w I ι _ _ p g K Q m;have ⟨b,i⟩:=(aK g l).sat_inv;have h:=aK g n;generalize f:a.eval y=B at h;cases h with
 | @agg vs _ hl h1 hh =>
  have:=Array.eq_empty_of_size_eq_zero X;subst this;have d:(execOp a.eval o).run P w=.ok .skip w:=by
   simp[execOp,k,i,f];simp[Instr.storeAt,Instr.sureAddr,storeVar,j,Value.cells,storeCells]
  unfold Oper.wpW;rw[d];exact m _ w I _ _ _ ⟨Z,Z⟩ (.tup Z H_) p (Step.refl _ _ _ _)
end
theorem cH.toAny{G0 H H':aF}{E':dD}(f_:∀t v,E'.get t=A v->E.get t=A v/\Clo H' v)(u:∀id J,H'.get id=A J->∃o,H.get id=A o/\nF o J/\∀r∈J.rows,∀a∈r,a=.any)(hG:∀id,(G0.get id).isSome=N->(H'.get id).isSome=N):cH G0 E H E' H':=by
 intro G c_ m4 a w K;have ⟨I,v_,B,s,he⟩:=K.rel;have g:∀ {o J:Ob},nF o J->C J.rows=C o.rows:=λh=>by
  have:=congrArg List.length h.2.2.2
  simpa using this
 have o_:zg H H':=λj J d=>by
  have ⟨o,m,f,_⟩:=u j J d;exact⟨o,m,f.1.symm,f.2.1.symm,f.2.2.1.symm,(g f).symm⟩
 refine⟨K.defers,K.size,I,v_,⟨B.imm,λid J d=>?_,λid z o J b c c' k d=>?_,B.glob⟩,?_,λt v J0=>?_⟩
 .have ⟨o,m,f,Q⟩:=u id J d;refine(B.obj id o m).keepG f.2.1 f.2.2.1 (g f) (λy P R hy=>?_) Z (λ_ _ _ _=>⟨Z,λh=>h⟩) (λi R F=>?_)
  .have:=Q [.raw y P] F_ (.raw y P) H_;cases this
  have x:i<C o.rows:=by rw[<-g f];exact(m_.1 F).1
  refine⟨o.rows[i],p_ x,?_,λk a p _ d_ v _=>?_⟩
  .have e:=congrArg (λl:List Nat=>l[i]?) f.2.2.2;simp only[r7,F,p_ x,Option.map_some,Option.some.injEq]at e;exact e.symm
  rw[Q R (m7 F) p (m7 d_)];exact .any v
 .have ⟨q,m,_⟩:=u id o k;have ⟨y_,D,_⟩:=u z J d;exact B.inj id z q y_ b c c' m D
 .refine {s with own:=λb ⟨id,J,L,d,n⟩=>?_,objs:=λid o k=>?_}
  .have ⟨o,m,_⟩:=u id J d;exact s.own b ⟨id,o,L,m,n⟩
  have ⟨o1,W,k2,A_⟩:=s.objs id o k;have ⟨J,d⟩:=Option.isSome_iff_exists.1 (hG id (by rw[<-c_,k];rfl));have ⟨o2,m,f,_⟩:=u id J d;rw[W]at m;cases m;refine⟨J,d,by rw[f.1];exact k2,λe=>?_⟩;have ⟨q1,z_,q3⟩:=A_ (by rw[<-f.1];exact e);exact⟨q1,by rw[f.2.1];exact z_,λhz=>by rw[g f];exact q3 hz⟩
 have ⟨m,f⟩:=f_ t v J0;have ⟨c,n,u_⟩:=he t v m;exact⟨c,n,u_.alike o_ f⟩
theorem aEl{P}{c}{H}{x y}{r s:AV}(g:c.results=#[x,y])(f:PN P E H x r)(e:PN P E H y s):
  ∀(a:Act) (w) (I) (ι),Rel I ι H w->lX w I ι H E a->∃v,(results c a.tmps).run P w=.ok v w/\VRel w I ι H v (.tup [r,s]):=λa w I ι d b=>by
 have ⟨v,B,D⟩:=f a w I ι d b;have ⟨u,F,G⟩:=e a w I ι d b;refine⟨.tuple #[v,u],by rw[vM,g];simp_all,.tup Z ?_⟩
 grind
end
end Go.Abs
namespace Go.Proofs.C
open Go.Proofs.Tryz
open Go.Abs
abbrev ml(l:List UInt8):Ob:=bx 1 127 [sv (a_ l)]
abbrev nT(l:List UInt8):aF:=[(980,ml l)]
abbrev SI:AV:=.ref 980 0 0 0
abbrev JA:dq:=ms 124
theorem ZZ(l)(H):∀r∈(ml l).rows,∀a∈r,Clo H a:=H_
instance(l)(H):W_ (H) ((ml l).rows):=⟨ZZ l H⟩
theorem C9(l):dI (nT l):=dI.ofL ⟨ZZ l _,T_⟩
def EV(f:FuncId)(xs:List AV)(K:aF)(l:List UInt8)(o:Option (AV×List UInt8)):Prop :=∀H1:aF,H1.get 980=A (ml l)->Sub K H1->gA φ f xs H1 (λr H'=>∃p,o=A p/\r=p.1/\H'=nT p.2++H1) (λch H'=>o=ζ/\ch=JA/\∃q,H'=nT q++H1)
theorem EV.of{f:FuncId}{xs:List AV}{K:aF}{l:List UInt8}{o}(y:dI (nT l++K))(D:K.get 980=ζ)(B:∀a∈xs,Clo (nT l++K) a)
  (h:gA φ f xs (nT l++K) (λr H'=>∃p,o=A p/\r=p.1/\H'=nT p.2++K) (λi H'=>o=ζ/\i=JA/\∃q,H'=nT q++K)):EV f xs K l o:=by
 intro t s w;have g:Sub (nT l++K) t:=λid n d=>by
  rw[gH]at d;by_cases e:980=id
  .subst e;have:(nT l).get 980=A (ml l):=rfl;rw[this]at d;cases d;exact s
  have:(nT l).get id=ζ:=by simp[aF.get,kH e]
  rw[this]at d;exact w id n d
 have u:∀q id,(aF.get (nT q++K) id).isSome=N->((nT l++K).get id).isSome=N:=λq id c=>by
  rw[gH]at c |-;by_cases e:980=id
  .subst e;rfl
  have s:∀q,(nT q).get id=ζ:=λq=>by simp[aF.get,kH e]
  rw[s]at c |-;exact c
 have v:∀(q:List UInt8) (j:Nat),aF.get (nT q++t) j=aF.get ((nT q++K)++t) j:=λq j=>by
  rw[append_assoc,gH,gH (nT q)];cases (nT q).get j with
  |some _=>rfl
  |none =>
   simp only;rw[gH];cases e:K.get j with
   |none=>rfl
   |some n=>exact w j n e
 refine(h.frame g y B (λr H' ⟨p,_,_,x⟩ id c=>.inl (by subst x;exact u _ id c)) (λi H' ⟨_,_,q,i_⟩ id c=>.inl (by subst i_;exact u _ id c))).conv ?_ ?_
 .rintro r H' ⟨z,⟨p,m,k,rfl⟩,rfl⟩;exact⟨_,v _,p,m,k,Z⟩
 rintro i H' ⟨z,⟨m,k,q,rfl⟩,rfl⟩;exact⟨_,v _,m,k,q,Z⟩
theorem EV.yes{f}{xs}{K}{l q}{v}(h:EV f xs K l (A (v,q))){H1}(b:H1.get 980=A (ml l))(a:Sub K H1):aW φ f xs H1 (λr H'=>r=v/\H'=nT q++H1) :=((h _ b a).mono (λr H' ⟨p,e1,e2,e3⟩=>by grind) (λch H' ⟨e,_⟩=>by cases e)).calls (λ_ _ h=>h)
theorem EV.no{f}{xs}{K}{l}(h:EV f xs K l ζ){H1}(d:H1.get 980=A (ml l))(b:Sub K H1):gA φ f xs H1 (λ_ _=>False) (λa H'=>a=JA/\∃q,H'=nT q++H1) :=(h _ d b).mono (λr H' ⟨p,c,_⟩=>by cases c) (λa H' ⟨_,e,g⟩=>⟨e,g⟩)
theorem EV.tot{f}{xs}{K}{l}{o}(h:EV f xs K l o){v}{q}{d}(B:(o.getD (d,l))=(v,q)){H1}(c:H1.get 980=A (ml l))(b:Sub K H1):
  gA φ f xs H1 (λr H'=>r=v/\H'=nT q++H1/\o.isSome=N) (λa H'=>o=ζ/\a=JA/\∃q,H'=nT q++H1) :=
 (h _ c b).mono (λr H' ⟨p,e1,e2,e3⟩=>by simp_all) (λa H' h=>h)
theorem gM(H):Sub [] H:=λ_ _ h=>by cases h
def LC(l:List UInt8):Option (AV×List UInt8):=(pJ l).map λp=>(sv p.1,p.2)
def FI(l:List UInt8):Option (AV×List UInt8):=(yA l).map λp=>(iv p.1,p.2)
theorem A0(l:List UInt8)(P:C l<1000000000):EV 98 [SI] [] l (LC l):=by
 refine EV.of (C9 l) Z m3 ?_;have K:T (a_ l)=C l:=cB l;have n:=Od l;have b:=λH=>Nv (a_ l) H X;rw[yo]at b;have i:=λH=>cq (a_ (CR l)) (by rw[cB];omega) H;have m:T (a_ (EH l))=C (EH l):=cB _;have d:LB l=(((!θ ((58:UInt8)∈l)||uP (a_ (CR l)))||θ (jN (a_ (CR l))<0))||θ ((C (EH l):Int)<jN (a_ (CR l)))):=rfl;have q:nxN l=(jN (a_ (CR l))).toNat:=rfl;have D:LC l=if LB l=N then ζ else A (sv (a_ ((EH l).take (nxN l))),(EH l).drop (nxN l)):=by rw[LC,pJ];all_goals grind
 rw[D];have ⟨x,J⟩:∃x,x=a_ (CR l):=X_;have ⟨v,z⟩:∃v,v=jN (a_ (CR l)):=X_;have ⟨e,E⟩:∃e,e=uP (a_ (CR l)):=X_;have ⟨o,I⟩:∃o,o=θ ((58:UInt8)∈l):=X_;have ⟨r,B⟩:∃r,r=EH l:=X_;simp only[<-z,<-E,<-I,<-B]at b i d q m n |-;simp only[<-J]at b i d;clear J z E I B D;refine gA.body func98 Z ntmps98 (r_ Z)<|Sz aJ<|O aA<|Y sW<|Y (bD yb)<|Y (bU N_)<|Y (kc call137 (b _))<|Y aA<|Y dL<|Y dL<|Y dL<|Y aJ<|Y aJ<|V aJ<|O aA<|Y (kc wM (i _))<|Y aA<|Y dL<|Y dL<|Y aJ<|V aJ<|S<|S<|aT (t:=37) (n:=19) (A_:=LB l) ?_ ?_
 .all_goals refine Y aA<|Y iE<|Dm ?_<;>(refine Sp 24 (λs=>?_) λs=>?_)<;>(try exact w_)<;>(first|refine M<|M ?_|refine U aA<|U (S5 Z oJ Z) ?_)<;>refine Y cE<|Dm ?_<;>(refine Sp 28 (λy=>?_) λy=>?_)<;>(try exact w_)<;>(first|refine M<|M ?_|refine U aA<|U cF ?_)<;>refine Y cE<|Dm ?_<;>(refine Sp 32 (λt=>?_) λt=>?_)<;>(try exact w_)<;>(first|refine M<|M<|M<|M ?_|refine U aA<|U aA<|U (gG U_)<|U iZ ?_)<;>refine V cE ?_<;>(exact⟨⟨_,Z,G_⟩,Z,Z,Z⟩)
 refine Cn ?_ ?_<;>intro j
 .have k:LB l=N:=j;rw[b6 k];refine iA<|jC Z Z Z (ND (fs:=#[]) (places:=#[]) (v0:=.agg []) (l0:=[]) (aps:=[]) (l:=[]) Z zO zeroValue124 (.inl Z) Z (λw=>by simp) Z Z) ?_;refine jC Z Z Z (K3 (ps:=[]) Z (eC zO Z) Z) ?_;exact rB Z Z (XO Z Z) (λch H' h=>by obtain ⟨rfl,rfl⟩:=h;exact GA (H':=nT l) P_ ⟨Z,Z,l,Z⟩)
 have k:LB l=η:=j;rw[a8 (by rw[k];decide)];have p:=d.symm.trans k;simp only[r6,n_]at p;obtain ⟨u,rfl⟩:∃u:Nat,v=(u:Int):=⟨v.toNat,X⟩;rw[l_]at q;rw[q];have L:u<=C r:=X
 have F:(a_ r).extract 0 u=a_ (r.take u):=nM (by rw[gK,cJ,cJ,drop_zero,Nat.sub_zero]);have G:(a_ r).extract u (T (a_ r))=a_ (r.drop u):=nM (by rw[sR,cJ,cJ]);refine aB<|O aA<|Y aA<|Y aA<|Y (bP (l:=u) (h:=T (a_ r)) Z U_ Z Z Z X (h_ _) G)<|Y sW<|Y (bD yb)<|Uu (jH V_)<|Zz<|O aA<|Y aA<|Y (bP (l:=0) (h:=u) Z U_ Z Z Z (k_ _) X F)<|V aJ<|aC ?_;refine OE ?_;refine cN (H':=(nT (r.drop u))) (.inr Z) Z (aI Z) P_ ?_
 simp_all
theorem Xi{l}(h:58∈l):C (EH l)<C l:=by rw[EH,q6];have:=(dropWhile_sublist (l:=l) λb=>!θ (b=58)).length_le;have:=length_pos_of_mem h;omega
theorem lT{l q}{s}(h:pJ l=A (s,q)):T s+C q<C l:=by
 rw[pJ]at h
 split at h
 .cases h
 next a =>
 simp[LB,r6,Bool.not_eq_false',n_,j0]at a;have B:=Xi a.1.1.1;cases h;rw[cB,q9,q6];omega
theorem kS{l q}{x}(h:yA l=A (x,q)):C q<C l/\(-9223372036854775808<=x/\x<=9223372036854775807):=by
 rw[yA]at h;cases a:pJ l with
 |none=>simp_all
 |some p =>
  have ⟨s,r⟩:=p;rw[a]at h;simp only at h
  split at h
  .cases h
  cases h;have:=lT a;exact⟨X,Y1 s⟩
theorem oU(l:List UInt8)(u:C l<1000000000):EV 99 [SI] [] l (FI l):=by
 refine EV.of (C9 l) Z m3 ?_;have c:=A0 l u;have b:=λs q=>lT (l:=l) (s:=s) (q:=q);have g:LC l=(pJ l).map λp=>(sv p.1,p.2):=rfl;have n:FI l=(match pJ l with
  |none=>ζ
  |some (s,r)=>if uP s=N then ζ else A (iv (jN s),r)):=by
  rw[FI,yA]
  grind
 rw[n];rw[g]at c;generalize pJ l=B at c b |-;clear g n;refine gA.body func99 Z ntmps99 (r_ Z)<|Sz aJ<|S ?_;rcases B with _|⟨s,q⟩
 .have c:EV 98 [SI] [] l ζ:=c;refine iA<|jC Z Z Z (iD Z Z) ?_;exact rB Z Z (eV Z Z nW Z (c.no Z (gM _))) (λt o h=>by obtain ⟨rfl,q,rfl⟩:=h;exact GA (H':=nT q) P_ ⟨Z,Z,q,Z⟩)
 have c:EV 98 [SI] [] l (A (sv s,q)):=c;have b:=b s q Z;have f:=λH=>cq s X H;have ⟨e,k⟩:∃e,e=uP s:=X_;have ⟨v,j⟩:∃v,v=jN s:=X_;simp only[<-k,<-j]at f |-;clear k j;refine Rd aA<|Y (kc nW (c.yes Z (gM _)))<|Y (kc wM (f _))<|Y aA<|Y dL<|Y dL<|Y aJ<|V aJ<|S<|O aA<|V (S5 Z oJ Z)<|Cn ?_ ?_<;>intro d
 .have i:e=N:=d;rw[b6 i];refine iA<|jC Z Z Z (ND (fs:=#[]) (places:=#[]) (v0:=.agg []) (l0:=[]) (aps:=[]) (l:=[]) Z zO zeroValue124 (.inl Z) Z (λw=>by simp) Z Z) ?_;refine jC Z Z Z (K3 (ps:=[]) Z (eC zO Z) Z) ?_;exact rB Z Z (XO Z Z) (λt o h=>by obtain ⟨rfl,rfl⟩:=h;exact GA (H':=nT q) P_ ⟨Z,Z,q,Z⟩)
 have i:e=η:=d;rw[a8 F_];refine aB<|O aA<|V aJ<|aC ?_;refine OE ?_;refine cN (H':=(nT q)) (.inr Z) Z (aI Z) P_ ?_
 simp_all
end Go.Proofs.C
