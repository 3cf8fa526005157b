/-
  Parts of the proof. Conditions: each theorem's own.
-/
import Derived.Test.YtopnleflllkbmaaGreatDoorKX6sM4
set_option linter.unusedVariables false
set_option linter.unusedSimpArgs false
set_option maxRecDepth 100000
set_option maxHeartbeats 8000000
open List Nat
open List renaming length->C
open Option renaming some->A,none->ζ
open Bool renaming true->T,false->η
open ByteArray renaming size->N,data->μ
open Array renaming toList->ν
open Decidable renaming decide->θ
open Go.IntKind renaming i64->ξ
open Go.Proofs.Tryz renaming prog->φ
open Go.Proofs.YtopnleflllkbmaaGreatDoor
namespace Go.Proofs
open Tryz
theorem gC:type_of% call113:=call113
theorem wF:type_of% call138:=call138
theorem sB:type_of% call146:=call146
theorem nQ:type_of% call98:=call98
theorem pY:type_of% isAgg174:=isAgg174
theorem pG:type_of% isAgg46:=isAgg46
theorem cQ:type_of% isAgg53:=isAgg53
theorem bJ:type_of% sizeOf53:=sizeOf53
theorem zI:type_of% underlying124:=underlying124
theorem oF:type_of% underlying163:=underlying163
end Go.Proofs
namespace Go.Proofs.C
open Go.Proofs.Tryz
open Go.Abs
theorem aCD(g)(l)(u):aU Tryz.prog 208 [.ref 2001 0 0 0] (zB g l u) (λr H'=>r=iv (l.length)/\H'=zB g l u):=by refine Bd func208 Z ntmps208<|Sz aH<|U aA<|Y pA<|Y (bC iO)<|Y (bQ eK)<|Y (by exact dR Z dM Z Z Z)<|V aH<|aC ?_;refine cT (.inr Z) Z (aI Z) Fin.refl Qq
abbrev Qo(l:List UInt8)(g:Nat)(u:Bool):Ob:=EM (.osl 2002 g 0 (C l)) u
abbrev Qn(l:List UInt8)(g:Nat):Ob:=⟨g,1,5,fV l⟩
theorem aE1{g c}{l b}{u u'}{id}(h:(aF.get (zB g l u) id).isSome=T):(aF.get (zB c b u') id).isSome=T:=ym h
theorem aE0{g}{l}{u u':Bool}{id}(h:(aF.get (Fm g l u) id).isSome=T):(aF.get (zB g l u) id).isSome=T:=by
 simp[Fm,zB,aF.get]at h |-
 grind
theorem aDL{H}{g}{l}{u}(s)(b:H.get 2001=A (Qo l g u))(a:H.get 2002=A (Qn l g))(c:C l+N s<70368744177664):aU φ 132 [.ref 2001 0 0 0,sv s] H (λr H'=>r=.tup [iv (N s),.pv NJ]/\H'=zB (g+1) (l++ν (μ s)) T++H) :=aU.frame (jK g l u s c) (Sub.of2 b a) (dN.ofL ⟨(gO Z Z),(eT _ _),T_⟩) m3 (λid h=>.inl (aE1 h))
theorem aCC{H}{g}{l}{u}(a:H.get 2001=A (Qo l g u))(b:H.get 2002=A (Qn l g)):RC 208 [.ref 2001 0 0 0] (iv (C l)) H :=aU.frameS (aCD g l u) (Sub.of2 a b) (dN.ofL ⟨(gO Z Z),(eT _ _),T_⟩) m3
theorem aAx{H}{g}{l}{u}(b:H.get 2001=A (Qo l g u))(a:H.get 2002=A (Qn l g))(c:C l<70368744177664):aU φ 133 [.ref 2001 0 0 0] H (λr H'=>r=sv ⟨l.toArray⟩/\H'=Fm g l u++H) :=aU.frame (RW g l u c) (Sub.of2 b a) (dN.ofL ⟨(gO Z Z),(eT _ _),T_⟩) m3 (λid h=>.inl (aE0 (u':=u) h))
def uK:Nat->Bool
 |0=>η
 |_+1=>T
def qI(l:List b8)(k:Nat):List UInt8:=(l.take k).flatMap λe=>fT e++[10]
theorem ZC{l}{k}{e}(h:l[k]?=A e):qI l (k+1)=qI l k++(fT e++[10]):=by rw[qI,take_add_one,h];simp[qI]
theorem v6{p:Prop}(h:p:=by simp only[cN,j6,length_nil,show dF []=0 from rfl];omega):p:=h
theorem X6{e:b8}(r:gK e=T):C (fT e)<=100000:=by
 have ⟨⟨J,K⟩,o,L⟩:=uW.1 r;rw[xH]at o;have B:=JE r;by_cases q:e.op=1
 .rw[fT,b6 q,j8,j6,aS];have:=NH (o:=e.obj);show 3+_<=_;omega
 rw[a8 q,l6]at o;have ⟨t,c⟩:=o;have D:=dS t;have d:∀k:List B_,bs k=gS e->C k+dF k<=100000->C (fT e)<=100000:=λk h g=>by
  rw[fT,a8 q,<-h];exact Nat.le_trans (gA k) g
 by_cases g:e.op=2
 .rw[b6 g,ra,l6,k_,k_]at c;have six:N (aV e.x)<=7:=by rw[<-aS];show C (Lib.itoa e.x)<=7;rw[kK _ X];exact cX X E_
  have H:N (aV e.y)<=7:=by rw[<-aS];show C (Lib.itoa e.y)<=7;rw[kK _ X];exact cX X E_
  have f:N (⟨#[109,111,118,101]⟩:B_)=4:=rfl;exact d [⟨#[109,111,118,101]⟩,e.id,aV e.x,aV e.y] (by rw[gS,b6 g];rfl) v6
 rw[a8 g]at c;by_cases i:e.op=3
 .rw[b6 i,l6]at c;have E:=dS c.1;have I:=rT e.val;have f:N (⟨#[116,97,103]⟩:B_)=3:=rfl;exact d [⟨#[116,97,103]⟩,e.id,e.key,⟨(dB (ν (μ e.val))).toArray⟩] (by rw[gS,a8 g,b6 i];rfl) v6
 rw[a8 i]at c;by_cases j:e.op=4
 .rw[b6 j,l6,l6,k_,k_,all_eq_true]at c;have ⟨⟨r1,r2⟩,v⟩:=c;have G:dF e.refs<=24*C e.refs:=pN (λs u=>dS (v s u));have f:N (⟨#[114,101,102,115]⟩:B_)=4:=rfl;exact d (⟨#[114,101,102,115]⟩::e.id::e.refs) (by rw[gS,a8 g,a8 i,b6 j];rfl) (by simp only[cN,j6];omega)
 rw[a8 j]at c;by_cases m:e.op=5
 .have f:N (⟨#[100,114,111,112]⟩:B_)=4:=rfl;exact d [⟨#[100,114,111,112]⟩,e.id] (by rw[gS,a8 g,a8 i,a8 j,b6 m];rfl) v6
 rw[a8 m]at c;by_cases l:e.op=6
 .rw[b6 l,l6]at c;have F:=dS c.1;have n:=dS c.2;have f:N (⟨#[115,112,108,105,116]⟩:B_)=5:=rfl;exact d [⟨#[115,112,108,105,116]⟩,e.id,e.node,e.other] (by rw[gS,a8 g,a8 i,a8 j,a8 m,b6 l];rfl) v6
 rw[a8 l]at c;have n:=dS c;have f:N (⟨#[106,111,105,110]⟩:B_)=4:=rfl;exact d [⟨#[106,111,105,110]⟩,e.id,e.other] (by rw[gS,a8 g,a8 i,a8 j,a8 m,a8 l];rfl) v6
theorem vw(l:List b8)(H:aF)(K:C l<2^62)(y:∀e∈l,V4 e):RC 145 [.pv (kP l)] (.tup [sv (eG l).1,iv (eG l).2]) H:=by
 refine Pu ?_;have G:C (l.map bL)=C l:=g_ _;refine Bd func145 Z ntmps145<|U aH<|V aH<|S<|U aA<|Y (kc call206 (WJ l _ K y))<|V iH<|Cn ?_ ?_<;>intro m
 .have s:lP l=η:=by have h:=m;rwa [r9]at h
  rw[show eG l=(a6,1)by rw[eG,s];rfl];exact U aH<|V aH<|aC<|Ru<|Qq
 have s:lP l=T:=by have h:=m;rwa [Bool.not_eq_false']at h
 have x:=(JF s).2;have z:eG l=(a_ (sC [] l).1,(sC [] l).2):=by rw[eG,b6 s]
 refine aB<|Sz (kl 2001 IF)<|S<|S ?_;refine fW.ent (E':=[(0,.pv (kP l)),(4,.ref 2001 0 0 0)]) (H':=[(2002,⟨0,1,5,[]⟩),(2001,EM (.osl 2002 0 0 0) η)]) (Q_ 2002 1 5) ?_;refine Rd aA<|Y (fM fD)<|V aA<|aE<|bF (σ:=Nat) (λk=>([(4,.ref 2001 0 0 0),(12,.pv (kP l)),(13,iv (C (l.map bL):Int)),(14,iv (k:Int))],[(2001,Qo (qI l k) k (uK k)),(2002,Qn (qI l k) k)])) (λk=>k<=C l/\sC [] l=sC (qI l k) (l.drop k)/\C (qI l k)<=20000) (λk=>C l - k) 0 ⟨l7 _,Z,l7 _⟩ ?_ ?_
 .exact(cH.wk (Ea<|Eb<|Eb<|Eb<|T_) (Hc (gO Z Z)<|Hc (eT _ _)<|T_) T_)
 rintro k ⟨hk,f,hA⟩;refine Sz cI<|S<|Cn ?_ ?_<;>intro n
 .have g:k<C l:=I_ n
  have ⟨e,j⟩:=aR g;have hi:=cC (f:=bL) j;have i:=m7 j;have c:=ZC j;have F:=X6 (x e i);have w:l.drop k=e::l.drop (k+1):=by
   rw[drop_eq_getElem_cons g]
   simp_all
  rw[w,sC]at f;have J:N (a_ (fT e++[10]))=C (fT e)+1:=by rw[cA,j8];rfl
  have t:zB (k+1) (qI l k++(a_ (fT e++[10])).data.toList) T=zB (k+1) (qI l (k+1)) T:=by rw[cG,c]
  have I:C (qI l (k+1))=C (qI l k)+(C (fT e)+1):=F_
  have D:∀H,H.get 2001=A (Qo (qI l k) k (uK k))->H.get 2002=A (Qn (qI l k) k)->aU φ 132 [.ref 2001 0 0 0,sv (a_ (fT e++[10]))] H (λr H'=>r=.tup [iv (N (a_ (fT e++[10])):Int),.pv NJ]/\H'=zB (k+1) (qI l (k+1)) T++H):=λH B E=>by
   have:=aDL (H:=H) (a_ (fT e++[10])) B E X
   rwa [t]at this
  refine aB<|S<|aE<|U (iV fo)<|Y (fF Z cY bD Z X Z Z)<|Y (kl 6 WL)<|Uu (jG bD)<|Zz<|U (wY cY bD)<|Y (kc call207 (aBy e _ (y e i) (x e i)))<|Y aA<|Y dO<|Y dO<|Y aH<|V aH<|U aA<|V (kc nM (D _ Z Z))<|S<|aT (t:=30) (n:=7) (A_:=!θ (fX e=0)||θ ((20000:Int)<(C (qI l (k+1)):Int))) ?_ ?_
  .all_goals refine Y aA<|Y xI<|Dm ?_<;>(refine Sp 27 (λu=>?_) λu=>?_)<;>(first|exact s_|refine M<|M ?_|refine O (kc call208 (aCC (l:=qI l (k+1)) (g:=k+1) (u:=T) Z Z))<|O iX ?_)<;>refine V cD ?_<;>exact Gj (h:=by simp_all)
  refine Cn ?_ ?_<;>intro p
  .have q:fX e≠0\/20000<C (qI l k++(fT e++[10])):=by have h:=p;rw[<-c];simp only[Bool.or_eq_true,r9,q7,k_]at h;omega
   rw[b6 q]at f;rw[z,f];exact U aH<|V aH<|aC<|Ru<|Qq
  have d:¬ (fX e≠0\/20000<C (qI l k++(fT e++[10]))):=by have h:=p;rw[<-c];simp only[q_,Bool.not_eq_false',q7,k_]at h;omega
  rw[a8 d,<-c]at f;rw[<-c]at d;refine aB<|Rd iD<|V aA ?_;exact⟨k+1,⟨g,f,X⟩,X,(cH.wk (Ea<|Eb<|Eb<|Eb<|T_) (Hc (gO Z Z)<|Hc (eT _ _)<|T_) T_)⟩
 have v:k=C l:=J_ n
 subst v;rw[drop_length,sC]at f;rw[z,f];exact aP<|U (kc nL (aAx (l:=qI l (C l)) (g:=C l) (u:=uK (C l)) Z Z X))<|Y aH<|V aH<|aC<|Ru<|Qq
theorem gy(s):(qN s).data.toList=(aV (N s)).data.toList++[58]++ν (μ s):=rfl
theorem YB(l:List B_)(H:aF)(K:C (aO l)<35184372088832):RC 108 [.pv (aK l)] (sv ⟨(aO l).toArray⟩) H:=by
 refine Pu ?_;have G:C (l.map S_)=C l:=g_ _;have F:=AE l;refine Bd func108 Z ntmps108<|Sz aH<|Sz (kl 2001 IF)<|S<|S ?_;refine fW.ent (E':=[(0,.pv (aK l)),(3,.ref 2001 0 0 0)]) (H':=zB 0 [] η) (cH.bld0 ⟨⟨_,Z,.same H_⟩,⟨_,Z,.same m3⟩,T_⟩) ?_;refine Rd aA<|Y (fM underlying131)<|V aA<|aE<|CI (λ(k g:Nat) (u:Bool)=>([(3,.ref 2001 0 0 0),(6,.pv (aK l)),(7,iv (C (l.map S_):Int)),(8,iv (k:Int))],zB g (aO (l.take k)) u)) (λk g u=>k<=C l) (λk g u=>C l - k) 0 0 η (l7 _) ?_ ?_
 .exact(cH.wk (Ea<|Eb<|Eb<|Eb<|T_) (Hc (gO Z Z)<|Hc (eT _ _)<|T_) T_)
 intro k g u J;have E:=uV l k;refine Sz cI<|S<|Cn ?_ ?_<;>intro e
 .have m:k<C l:=I_ e
  have ⟨s,j⟩:=aR m;have n:=cC (f:=S_) j;have d:=uV l (k+1);rw[eP j,qA,j8,pO,nS]at d;have I:N s<35184372088832:=X
  have h:aO (l.take (k+1))=aO (l.take k)++(aV (N s:Int)).data.toList++[58]++ν (μ s):=by
   rw[eP j,qA,gy,append_assoc,append_assoc,append_assoc]
  have B:C (aO (l.take k)++(aV (N s:Int)).data.toList)=C (aO (l.take k))+N (aV (N s:Int)):=F_
  have D:C (aO (l.take k)++(aV (N s:Int)).data.toList++[58])=C (aO (l.take k))+N (aV (N s:Int))+1:=G_
  refine aB<|S<|aE<|U (bP Z R9 Z Z X x7 n Z)<|Y (fS N_ (hi:=n))<|V aH<|U aA<|Y (gL U_)<|Y (kc mB (qB (N s:Int) X X _))<|V (kc nM (jK g (aO (l.take k)) u (aV (N s:Int)) X))<|Sz (kc nK (kZ (g+1) (aO (l.take k)++(aV (N s:Int)).data.toList) T 58 X))<|Rd aA<|V (kc nM (jK (g+1+1) (aO (l.take k)++(aV (N s:Int)).data.toList++[58]) T s X))<|Rd kp<|V aA ?_;refine⟨k+1,g+1+1+1,T,X,X,?_⟩;rw[h];exact(cH.wk (Ea<|Eb<|Eb<|Eb<|T_) (Hc (gO Z Z)<|Hc (eT _ _)<|T_) T_)
 have i:k=C l:=J_ e
 subst i;rw[take_length];exact aP<|U (kc nL (RW g (aO l) u X))<|V aH<|aC<|Rt<|Qq
def kJ(l:List b8):B_×Bool:=if C l=0 then(a6,T)else((eG l).1,θ ((eG l).2=0))
theorem vv(l)(H)(E:C l<2^40)(f:∀e∈l,V4 e):RC 156 [.pv (kP l)] (.tup [sv (kJ l).1,bv (kJ l).2]) H:=by
 refine Pu ?_;have B:C (l.map bL)=C l:=g_ _;have c:=λH=>vw l H X f;have i:C l=0->kJ l=(a6,T):=λh=>by rw[kJ,b6 h]
 have g:C l≠0->kJ l=((eG l).1,θ _):=λh=>by rw[kJ,a8 h]
 have ⟨u4,D⟩:∃u4,u4=eG l:=X_;refine Bd func156 Z ntmps156<|U aH<|V aH<|S<|U aA<|Y (fM fD)<|V cF<|Cn ?_ ?_<;>intro b
 .have d:C l=0:=I_ b
  rw[i d];exact U aH<|V aH<|aC<|Ru<|Qq
 have d:C l≠0:=J_ b
 rw[g d];exact aB<|U aA<|Y (bH Z Z call145 Z (c _))<|Y aA<|Y dO<|Y dO<|Y aH<|V aH<|U aA<|Y aA<|Y cF<|Y aH<|V aH<|aC<|Ru<|Qq
def HJ:B_:=⟨#[114,101,99,111,114,100]⟩
def M8(r:j_)(u4:B_):List IV:=[.t HJ,.n r.kind,.n r.author,.n r.number,.n r.clock,.t r.branch,.l r.parents,.t u4,.t r.target,.b r.yes,.n r.order,.t r.from']
def mT(r:j_):Prop:=(qP r.kind/\qP r.author/\qP r.number/\qP r.clock/\qP r.order)/\(N r.branch<2^40/\N r.target<2^40/\N r.from'<2^40)/\rf r.parents/\(C r.edits<2^40/\∀e∈r.edits,V4 e)/\yJ r.sl/\re r.priv
theorem Vw{r}(h:mT r)(u4):∀v∈M8 r u4,okI v:=by
 have ⟨⟨f,c,g,b,e⟩,_,d,_⟩:=h;intro v a;simp[M8,l9,q8,or_false]at a;rcases a with rfl|rfl|rfl|rfl|rfl|rfl|rfl|rfl|rfl|rfl|rfl|rfl
 .exact T_
 .exact f
 .exact c
 .exact g
 .exact b
 .exact T_
 .exact d.1
 .exact T_
 .exact T_
 .exact T_
 .exact e
 exact T_
theorem gv{r}(u4):C (zK (M8 r u4))=C r.parents+12:=by simp[M8,zK,fI]
def vR(r:j_):List B_:=zK (M8 r (kJ r.edits).1)
def qb(r:j_):Nat:=zi (M8 r (kJ r.edits).1)
theorem XH(r:j_)(f:mT r)(D:C r.parents<549755813888):aU φ 107 [av (eA r)] [] (λx H'=>x=.osl 971 (qb r) 0 (C (vR r))/\H'=[(971,⟨qb r,1,9,bZ (vR r)⟩)]):=by
 have d:=λH=>vv r.edits H f.2.2.2.1.1 f.2.2.2.1.2;rw[vR,qb];have ⟨u4,g⟩:∃u4,u4=(kJ r.edits).1:=X_;have ⟨b,h⟩:∃b,b=(kJ r.edits).2:=X_;rw[<-g,<-h]at d;rw[<-g];have B:=gv (r:=r) u4;have c:=uu (M8 r u4) (Vw f u4) 0 [] (show 12<2^40 by decide) G_;rw[r7,nil_append]at c;refine Bd func107 Z ntmps107<|U (kb 1)<|V aH<|Sz (kl 970 aAc)<|U (bC DP)<|Y (bQ pG)<|Y (kc call156 (d _))<|Y aA<|Y dO<|Y dO<|Y aH<|V aH<|S ?_;refine fW.ent (E':=[(1,.ref 1 0 0 0),(3,.ref 970 0 0 0),(4,sv u4)]) (H':=(971,⟨0,1,9,[]⟩)::(970,bx 1 131 [.osl 971 0 0 0])::(1,bx 21 53 ((eA r).map .pv))::[]) ?_ ?_
 .exact (Q_ 971 1 9)
 refine Rd (gM (p:=.str HJ) Z (dY U_ Z) Z)<|Y (bC oX)<|Y (bQ M_)<|Y (gM (p:=.int .i64 r.kind) Z (dY underlying3 Z) Z)<|Y (bC FW)<|Y (bQ M_)<|Y (gM (p:=.int .i64 r.author) Z (dY underlying3 Z) Z)<|Y (bC A1)<|Y (bQ M_)<|Y (gM (p:=.int .i64 r.number) Z (dY underlying3 Z) Z)<|Y (bC FV)<|Y (bQ M_)<|Y (gM (p:=.int .i64 r.clock) Z (dY underlying3 Z) Z)<|Y (bC DQ)<|Y (bQ N_)<|Y (gM (p:=.str r.branch) Z (dY U_ Z) Z)<|Y (bC oW)<|Y (bQ aG)<|Y (gM (p:=aK r.parents) Z (dY aD Z) Z)<|Y aA<|Y (gM (p:=.str u4) Z (dY U_ Z) Z)<|Y (bC DO)<|Y (bQ N_)<|Y (gM (p:=.str r.target) Z (dY U_ Z) Z)<|Y (bC JH)<|Y (bQ nO)<|Y (gM (p:=.bool r.yes) Z (dY fB Z) Z)<|Y (bC yU)<|Y (bQ M_)<|Y (gM (p:=.int .i64 r.order) Z (dY underlying3 Z) Z)<|Y (bC xP)<|Y (bQ N_)<|Y (gM (p:=.str r.from') Z (dY U_ Z) Z)<|Y (aL ((M8 r u4).map A3) Z zU Z Z Z Z Z (UJ (M8 r u4)))<|V (kc wG (mo c ⟨Z,Z,T_⟩ m3))<|U (bQ isAgg131)<|V aH<|aC ?_;refine cT (H':=[(971,⟨zi (M8 r u4),1,9,bZ (zK (M8 r u4))⟩)]) (.inr Z) Z (aI Z) P_ ?_;exact Qq
end Go.Proofs.C
section
namespace Go.Proofs
open Go.RowKit Go.Sort Go.Shelf
def aGw:Go.Shelf.Ren:=⟨λ|172=>138|244=>195|245=>196|247=>245|279=>246|280=>247|281=>248|282=>249|287=>276|316=>277|171=>79|205=>278|321=>301|322=>302|243=>134|246=>192|283=>240|284=>241|285=>242|286=>243|129=>190|317=>271|318=>272|319=>273|320=>274|337=>298|338=>299|n=>n,λ|9=>9|3=>3|75=>163|76=>164|4=>4|5=>5|167=>254|37=>159|0=>0|85=>255|2=>2|168=>257|53=>169|175=>289|46=>157|210=>292|127=>215|145=>311|143=>309|21=>21|171=>249|173=>251|212=>286|51=>213|20=>20|213=>287|232=>317|233=>318|80=>100|n=>n,λ|15=>4|16=>5|17=>2|18=>6|19=>7|n=>n⟩
theorem aHE:Go.Proofs.LaysC.n172 φ aGw:={
  mixed:=by rfl
  f129:=Tryz.func190.trans C_
  f171:=Tryz.func79.trans C_
  f172:=Tryz.func138.trans C_
  f205:=Tryz.func278.trans C_
  f243:=Tryz.func134.trans C_
  f244:=Tryz.func195.trans C_
  f245:=Tryz.func196.trans C_
  f246:=Tryz.func192.trans C_
  f247:=Tryz.func245.trans C_
  f279:=Tryz.func246.trans C_
  f280:=Tryz.func247.trans C_
  f281:=Tryz.func248.trans C_
  f282:=Tryz.func249.trans C_
  f283:=Tryz.func240.trans C_
  f284:=Tryz.func241.trans C_
  f285:=Tryz.func242.trans C_
  f286:=Tryz.func243.trans C_
  f287:=Tryz.func276.trans C_
  f316:=Tryz.func277.trans C_
  f317:=Tryz.func271.trans C_
  f318:=Tryz.func272.trans C_
  f319:=Tryz.func273.trans C_
  f320:=Tryz.func274.trans C_
  f321:=Tryz.func301.trans C_
  f322:=Tryz.func302.trans C_
  f337:=Tryz.func298.trans C_
  f338:=Tryz.func299.trans C_
  t0:=D7
  a0:=Tryz.isAgg0
  z0:=Tryz.sizeOf0
  v0:=Tryz.zeroValue0
  t2:=Tryz.underlying2
  a2:=Tryz.isAgg2
  z2:=Tryz.sizeOf2
  v2:=Tryz.zeroValue2
  t3:=Tryz.underlying3
  a3:=Tryz.isAgg3
  z3:=Tryz.sizeOf3
  v3:=sU
  t4:=fB
  a4:=nO
  z4:=Tryz.sizeOf4
  v4:=jC
  t5:=cZ
  a5:=vE
  z5:=cO
  v5:=sT
  t9:=Tryz.underlying9
  a9:=Tryz.isAgg9
  z9:=Tryz.sizeOf9
  v9:=gV
  t20:=Tryz.underlying20
  a20:=wE
  z20:=Tryz.sizeOf20
  v20:=Tryz.zeroValue20
  t21:=Tryz.underlying21
  a21:=Tryz.isAgg21
  z21:=Tryz.sizeOf21
  v21:=Tryz.zeroValue21
  t37:=dM
  a37:=eK
  z37:=qR
  v37:=Tryz.zeroValue159
  t46:=lK
  a46:=Tryz.isAgg157
  z46:=A9
  v46:=uA
  t51:=Tryz.underlying213
  a51:=Tryz.isAgg213
  z51:=Tryz.sizeOf213
  v51:=Tryz.zeroValue213
  t53:=gQ
  a53:=xT
  z53:=vD
  v53:=tZ
  t75:=oF
  a75:=Tryz.isAgg163
  z75:=Tryz.sizeOf163
  v75:=Tryz.zeroValue163
  t76:=Tryz.underlying164
  a76:=Tryz.isAgg164
  z76:=Tryz.sizeOf164
  v76:=Tryz.zeroValue164
  t85:=Tryz.underlying255
  a85:=Tryz.isAgg255
  z85:=Tryz.sizeOf255
  v85:=Tryz.zeroValue255
  t127:=zG
  a127:=Tryz.isAgg215
  z127:=Tryz.sizeOf215
  v127:=Tryz.zeroValue215
  t143:=Tryz.underlying309
  a143:=Tryz.isAgg309
  z143:=Tryz.sizeOf309
  v143:=Tryz.zeroValue309
  t145:=Tryz.underlying311
  a145:=Tryz.isAgg311
  z145:=Tryz.sizeOf311
  v145:=Tryz.zeroValue311
  t167:=Tryz.underlying254
  a167:=Tryz.isAgg254
  z167:=Tryz.sizeOf254
  v167:=Tryz.zeroValue254
  t168:=Tryz.underlying257
  a168:=Tryz.isAgg257
  z168:=Tryz.sizeOf257
  v168:=Tryz.zeroValue257
  t171:=Tryz.underlying249
  a171:=Tryz.isAgg249
  z171:=Tryz.sizeOf249
  v171:=Tryz.zeroValue249
  t173:=Tryz.underlying251
  a173:=Tryz.isAgg251
  z173:=Tryz.sizeOf251
  v173:=Tryz.zeroValue251
  t175:=Tryz.underlying289
  a175:=Tryz.isAgg289
  z175:=Tryz.sizeOf289
  v175:=Tryz.zeroValue289
  t210:=Tryz.underlying292
  a210:=Tryz.isAgg292
  z210:=Tryz.sizeOf292
  v210:=Tryz.zeroValue292
  t212:=Tryz.underlying286
  a212:=Tryz.isAgg286
  z212:=Tryz.sizeOf286
  v212:=Tryz.zeroValue286
  t213:=Tryz.underlying287
  a213:=Tryz.isAgg287
  z213:=Tryz.sizeOf287
  t232:=Tryz.underlying317
  a232:=Tryz.isAgg317
  z232:=Tryz.sizeOf317
  v232:=Tryz.zeroValue317
  t233:=Tryz.underlying318
  a233:=Tryz.isAgg318
  z233:=Tryz.sizeOf318
  v233:=Tryz.zeroValue318
  g15:=by kernel_rfl
  g16:=by kernel_rfl
  g17:=by kernel_rfl
  g18:=by kernel_rfl
  g19:=by kernel_rfl
  t80:=Tryz.underlying100
  a80:=Tryz.isAgg100
  z80:=Tryz.sizeOf100
  v80:=Tryz.zeroValue100
  i0:=by rfl
  i2:=by rfl
  i3:=by rfl
  i4:=by rfl
  i5:=by rfl
  i9:=by rfl
  i20:=by rfl
  i21:=by rfl
  i37:=by rfl
  i46:=by rfl
  i51:=by rfl
  i53:=by rfl
  i75:=by rfl
  i76:=by rfl
  i80:=by rfl
  i85:=by rfl
  i127:=by rfl
  i143:=by rfl
  i145:=by kernel_rfl
  i167:=by kernel_rfl
  i168:=by kernel_rfl
  i171:=by kernel_rfl
  i173:=by kernel_rfl
  i175:=by kernel_rfl
  i210:=by kernel_rfl
  i212:=by kernel_rfl
  i232:=by kernel_rfl
  i233:=by kernel_rfl
  m15:=by kernel_rfl
  m16:=by kernel_rfl
  m17:=by kernel_rfl
  m18:=by kernel_rfl
  m19:=by kernel_rfl
  c0:=by kernel_rfl
  c2:=by kernel_rfl
  c3:=by kernel_rfl
  c4:=by kernel_rfl
  c5:=by kernel_rfl
  c9:=by kernel_rfl
  c20:=by kernel_rfl
  c21:=by kernel_rfl
  c37:=by kernel_rfl
  c46:=by kernel_rfl
  c51:=by kernel_rfl
  c53:=by kernel_rfl
  c75:=by kernel_rfl
  c76:=by kernel_rfl
  c80:=by kernel_rfl
  c85:=by kernel_rfl
  c127:=by kernel_rfl
  c143:=by kernel_rfl
  c145:=by kernel_rfl
  c167:=by kernel_rfl
  c168:=by kernel_rfl
  c171:=by kernel_rfl
  c173:=by kernel_rfl
  c175:=by kernel_rfl
  c210:=by kernel_rfl
  c212:=by kernel_rfl
  c213:=by kernel_rfl
  c232:=by kernel_rfl
  c233:=by kernel_rfl}
end Go.Proofs
namespace Go.Proofs.C
open Go.Proofs.Tryz
open Go.Abs
theorem QX(s)(b:N s<2^40)(H):RC 138 [sv s] (.tup [iv (qK s).1,.pv (qK s).2]) H :=Go.Abs.atoi_c aHE (G1:=4) (G2:=5) (by unfold kh;simp_all) (Z) (by unfold kh;simp_all) (Z) s b H
end Go.Proofs.C
end
namespace Go.Proofs.C
open Go.Proofs.Tryz
open Go.Abs
theorem je(s:B_)(H:aF)(d:N s<2^40):RC 202 [sv s] (iv (WB (ν (μ s)))) H:=by
 refine Pu ?_;have c:=QX s d;unfold qK at c;unfold WB;cases h:Lib.atoiAll (ν (μ s)) with
 |ok v =>
  simp only[h]at c;refine Bd func202 Z ntmps202<|Sz aH<|U aA<|Y (kc wF (c _))<|Y aA<|Y dO<|Y dO<|Y aH<|V aH<|S<|U aA<|V (S7 Z oF Z)<|Cn ?_ ?_<;>intro b
  .cases b
  exact aB<|U aA<|V aH<|aC<|Rt<|Qq
 |range =>
  simp only[h]at c;refine Bd func202 Z ntmps202<|Sz aH<|U aA<|Y (kc wF (c _))<|Y aA<|Y dO<|Y dO<|Y aH<|V aH<|S<|U aA<|V (IT Z oF Z)<|Cn ?_ ?_<;>intro b
  .exact Sz aH<|aC<|Rt<|Qq
  cases b
 |_ =>
  simp only[h]at c;refine Bd func202 Z ntmps202<|Sz aH<|U aA<|Y (kc wF (c _))<|Y aA<|Y dO<|Y dO<|Y aH<|V aH<|S<|U aA<|V (IT Z oF Z)<|Cn ?_ ?_<;>intro b
  .exact Sz aH<|aC<|Rt<|Qq
  cases b
end Go.Proofs.C
section
namespace Go.Abs
section
variable{P:Program}{r4:Nat}{o:Oper}{E:dG}{H:aF}{t t':TypeId}{x:Operand}
abbrev aCU(b:Bool):PV:=bif b then Es else NJ
theorem S8{b}(a:o.op=.binOp .neq t x (.const .nilIface) t')(d:P.underlying t=A (.interface (P.methodsAt t)))(c:aQ E x=A (.pv (aCU b))):cP P r4 o E H (.pv (.bool b)) H:=by
 cases b
 .exact S7 a d c
 exact IT a d c
end
def jJ(s:B_):Int:=(qK s).1
def uL(s:B_):Bool:=match Lib.atoiAll (ν (μ s)) with
 |.ok _=>η
 |_=>T
theorem Re(s):qK s=(jJ s,aCU (uL s)):=by rw[jJ,uL,qK];all_goals grind
open Go.Lib
theorem O0(b):∀(a) (n),decFrom n (a++b)=(decFrom n a).bind λx=>decFrom x b
 | [],n=>rfl
 |c::a,n=>by
  rw[List.cons_append,decFrom,decFrom];cases h:digitVal c with
  |none=>rfl
  |some d=>exact O0 b a _
theorem Fv{l}{u}(D:l≠[])(E:∀b∈l,48<=b.toNat/\b.toNat<=57)(B:decFrom 0 l=A u):atoi l=A (u:Int):=by
 cases l with
 |nil=>simp_all
 |cons b r =>
  have d:decNat (b::r)=A u:=by rw[decNat,B];rfl
  have a:¬ (b == 43)=T:=λh=>by simp_all
  have c:¬ (b == 45)=T:=λh=>by simp_all
  rw[atoi,a8 c,a8 a,d];rfl
theorem dh{l}{u}(d:C l<=18)(a:l≠[])(c:∀b∈l,48<=b.toNat/\b.toNat<=57)(B:decFrom 0 l=A u):atoiAll l=.ok u:=by rw[atoiAll_short _ d,Fv a c B];rfl
end Go.Abs
namespace Go.Proofs.C
open Go.Proofs.Tryz
open Go.Abs Go.Lib
theorem df(s)(a:N s<2^40)(H):RC 138 [sv s] (.tup [iv (jJ s),.pv (aCU (uL s))]) H:=by
 have:=QX s a H
 rwa [Re]at this
abbrev sCo:B_:=⟨#[58]⟩
theorem pf(s)(H:aF):RC 244 [sv s,sv sCo] (iv (Lib.indexByte (ν (μ s)) 58)) H:=by
 refine Pu<|Bd func244 Z ntmps244<|Sz aH<|U aA<|Y (gL U_)<|V aH<|S<|aE<|S<|aT (t:=16) (n:=9) (A_:=θ (sCo=s)) ?_ ?_
 .all_goals refine Y aA<|Y cF<|Dm ?_<;>(refine Sp 19 (λc=>?_) λc=>?_)<;>(try contradiction)<;>refine O aA<|O aA<|O wU<|Y cD<|Da ?_<;>exact Gj (h:=by rfl)
 refine Cn ?_ ?_<;>intro d
 .have e:=b9 d;subst e;exact Sz aH<|aC<|Rt<|Qq
 refine U aA<|Y cF<|Da<|Cn ?_ ?_<;>intro b
 .exact U aA<|Y aA<|Y (cK Z U_ Z Z X x7 (show 0<N (⟨#[58]⟩:B_) from Nat.zero_lt_one) Z)<|Y (kc call250 (AP s 58 _))<|V aH<|aC<|Rt<|Qq
 cases b
def ub(s:B_):AV:=if Lib.indexByte (ν (μ s)) 58 = -1 then .tup [sv s,sv ⟨#[]⟩,bv η]else .tup [sv (s.extract 0 (Lib.indexByte (ν (μ s)) 58).toNat),sv (s.extract ((Lib.indexByte (ν (μ s)) 58).toNat+1) (N s)),bv T]
theorem Jp(s:B_)(H:aF)(E:N s<2^40):RC 194 [sv s,sv sCo] (ub s) H:=by
 refine Pu ?_;have d:=λH=>pf s H;rw[ub];rcases Classical.em (Lib.indexByte (ν (μ s)) 58 = -1)with c|c
 .rw[b6 c];simp only[c]at d;refine Bd func194 Z ntmps194<|U aH<|Y aH<|V aH<|S<|U aA<|Y aA<|Y (kc call244 (d _))<|V aH<|U aA<|V AF<|Cn ?_ ?_<;>intro b
  .cases b
  refine aB<|U aA<|Y aH<|Y aH<|V aH<|aC<|mK (H':=[]) (.inr Z) Z (aI Z) (aI Z) (aI Z) P_ Qq
 rw[a8 c];have ⟨w,r,f,B,e⟩:=yS c;simp only[e]at d;rw[e,l_];have D:C w+1+C r=N s:=by rw[<-show C s.data.toList=N s by simp,f,j8,j6];omega
 refine Bd func194 Z ntmps194<|U aH<|Y aH<|V aH<|S<|U aA<|Y aA<|Y (kc call244 (d _))<|V aH<|U aA<|V AF<|Cn ?_ ?_<;>intro b
 .refine S<|aM a7<|Cq aA<|Cq aA<|Cq (bM (l:=0) (h:=(C w)) Z U_ Z Z Z X X Z)<|Cq aA<|Cq aA<|Cq aA<|Cq (gL U_)<|Cq kp<|Cq (bM (l:=(C w+1)) (h:=N s) Z U_ Z Z Z X X Z)<|Cq aH<|Cq aH<|Cq aH<|bG<|Kr<|aC<|mK (H':=[]) (.inr Z) Z (aI Z) (aI Z) (aI Z) P_ Qq
 have F:=b_ b;omega
theorem Pv(s)(H:aF)(d:N s<2^40):RC 137 [sv s,sv sCo] (ub s) H:=by
 refine Pu ?_;have b:=λH=>Jp s H d;rcases Classical.em (Lib.indexByte (ν (μ s)) 58 = -1)with c|c
 .simp only[ub,b6 c]at b |-;refine Bd func137 Z ntmps137<|U aH<|Y aH<|V aH<|U aA<|Y aA<|Y (bH Z Z call194 Z (b _))<|Y dO<|Y dO<|Y dO<|Y aH<|Y aH<|V aH<|aC<|mK (H':=[]) (.inr Z) Z (aI Z) (aI Z) (aI Z) P_ Qq
 simp only[ub,a8 c]at b |-;refine Bd func137 Z ntmps137<|U aH<|Y aH<|V aH<|U aA<|Y aA<|Y (bH Z Z call194 Z (b _))<|Y dO<|Y dO<|Y dO<|Y aH<|Y aH<|V aH<|aC<|mK (H':=[]) (.inr Z) Z (aI Z) (aI Z) (aI Z) P_ Qq
def CL(l:List UInt8):List UInt8:=l.takeWhile λb=>!θ (b=58)
def EF(l:List UInt8):List UInt8:=(l.dropWhile λb=>!θ (b=58)).drop 1
theorem lz{w r}(h:58∉w):CL (w++58::r)=w/\EF (w++58::r)=r:=by
 induction w with
 |nil=>exact⟨Z,Z⟩
 |cons b w d =>
  have ⟨a,c⟩:=d (λe=>h (mem_cons_of_mem _ e));rw[CL]at a |-;rw[EF]at c |-;rw[cons_append,takeWhile_cons,dropWhile_cons,b6 G_,b6 G_,a];exact⟨Z,c⟩
theorem Qa:∀ {l},58∉l->CL l=l/\EF l=[]
 | [],_=>⟨Z,Z⟩
 |b::l,h=>by
  obtain ⟨a,c⟩:=Qa (λe=>h (mem_cons_of_mem _ e));rw[CL]at a |-;rw[EF]at c |-;rw[takeWhile_cons,dropWhile_cons,b6 G_,b6 G_,a];exact⟨Z,c⟩
theorem Aa(l:List UInt8):ub (a_ l)=.tup [sv (a_ (CL l)),sv (a_ (EF l)),bv (θ ((58:UInt8)∈l))]:=by
 rw[ub,cG];by_cases h:Lib.indexByte l 58 = -1
 .rw[b6 h];have b:=yR.1 h;rw[(Qa b).1,(Qa b).2,decide_eq_false b];rfl
 rw[a8 h];have ⟨w,r,e,c,f⟩:=yS h;rw[f,l_];subst e;rw[(lz c).1,(lz c).2,decide_eq_true H_];have g:(a_ (w++58::r)).extract 0 (C w)=a_ w:=mR (by rw[gG,cG,cG,drop_zero,Nat.sub_zero,take_left]);have d:(a_ (w++58::r)).extract (C w+1) _=a_ r:=mR (by
  rw[sN,cG,cG,<-drop_drop,drop_left];rfl)
 rw[g,d]
theorem Y8(s): -9223372036854775808<=jJ s/\jJ s<=9223372036854775807:=by
 rw[jJ,qK];cases e:Lib.atoiAll _ with
 |ok v=>exact Lib.atoiAll_bounds e
 |range =>
  show _<=Lib.atoiSat _/\Lib.atoiSat _<=_;rw[Lib.atoiSat];omega
 |_ =>
  simp_all
theorem Qb(l):C (CL l)<=C l/\C (EF l)<=C l:=by
 constructor
 .exact(takeWhile_sublist _).length_le
 rw[EF,p_];have:=(dropWhile_sublist (l:=l) λb=>!θ (b=58)).length_le;omega
theorem Rc{l}{u}(d:C l<=18)(a:l≠[])(c:∀b∈l,48<=b.toNat/\b.toNat<=57)(B:decFrom 0 l=A u):uL (a_ l)=η/\jJ (a_ l)=u:=by
 have h:=dh d a c B;constructor
 .rw[uL,cG,h]
 rw[jJ,qK,cG,h]
theorem NS(n:Nat):(aV n).data.toList=decDigits n:=rfl
theorem gY(x)(L):aO (x::L)=decDigits (N x)++58::(ν (μ x)++aO L):=by have a:aO (x::L)=(qN x).data.toList++aO L:=rfl;rw[a,qN,ByteArray.data_append,Array.toList_append,ByteArray.data_append,Array.toList_append,NS];simp
theorem UL(n):58∉decDigits n:=λh=>by
 have:=pV n h;exact absurd this.2 H_
theorem jq(D B):aO (D++B)=aO D++aO B:=flatMap_append
end Go.Proofs.C
end
namespace Go.Proofs.C
open Go.Proofs.Tryz
open Go.Abs Go.Lib
def LB(l:List UInt8):Bool:=((!θ ((58:UInt8)∈l)||uL (a_ (CL l)))||θ (jJ (a_ (CL l))<0))||θ ((C (EF l):Int)<jJ (a_ (CL l)))
def nxN(l:List UInt8):Nat:=(jJ (a_ (CL l))).toNat
def pF(l:List UInt8):Option (B_×List UInt8):=if LB l=T then ζ else A (a_ ((EF l).take (nxN l)),(EF l).drop (nxN l))
def xW(l:List UInt8):Option (Int×List UInt8):=match pF l with
 |none=>ζ
 |some (s,r)=>if uL s=T then ζ else A (jJ s,r)
def HK{α:Type}(f:List UInt8->Option (α×List UInt8)):Nat->List UInt8->Option (List α×List UInt8)
 |0,l=>A ([],l)
 | n+1,l=>match f l with
  |none=>ζ
  |some (x,r)=>match HK f n r with
   |none=>ζ
   |some (xs,q)=>A (x::xs,q)
def DH{α:Type}(f:List UInt8->Option (α×List UInt8))(l:List UInt8):Option (List α×List UInt8):=match xW l with
 |none=>ζ
 |some (n,r)=>HK f n.toNat r
def SU(l:List UInt8):Option ((Int×Int)×List UInt8):=match xW l with
 |none=>ζ
 |some (x,r)=>match xW r with
  |none=>ζ
  |some (y,q)=>A ((x,y),q)
def Bw(l:List UInt8):Option (q6×List UInt8):=match xW l with
 |none=>ζ
 | some (i,r)=>match DH pF r with
  |none=>ζ
  |some (a,q)=>match DH pF q with
   |none=>ζ
   |some (b,p)=>A (⟨i,a,b⟩,p)
def IN(x:B_):Prop:=N x<1000000000000000000
theorem mO{x}(L)(d:IN x):pF (aO (x::L))=A (x,aO L):=by
 obtain ⟨c,a⟩:=lz (UL _);rw[<-gY]at c a;obtain ⟨f,g⟩:=Rc (cX (show x.size<10 ^ 18 from d) H_) (oC _) (λb=>pV _) (jT _);have e:58∈aO (x::L):=by rw[gY];simp
 have hb:LB (aO (x::L))=η:=by
  rw[LB,c,a,f,decide_eq_true e,decide_eq_false X,decide_eq_false (by rw[j8,aS];omega)];rfl
 rw[pF,a8 F_,nxN,c,g,a,l_,drop_left' (aS x),take_left' (aS x),gE]
theorem OV{n}(B:0<=n)(D:n<1000000000000000000):IN (aV n):=Nat.lt_of_le_of_lt (nY X X) H_
theorem UZ{n}(b:0<=n)(a:n<1000000000000000000):uL (aV n)=η/\jJ (aV n)=n:=by
 have h:=D4 b a;have e:(aV n).data.toList=itoa n:=rfl;constructor
 .rw[uL,e,h]
 rw[jJ,qK,e,h]
theorem mP{n}(L)(b:0<=n)(a:n<1000000000000000000):xW (aO (aV n::L))=A (n,aO L):=by
 have ⟨B,D⟩:=UZ b a;rw[xW,mO L (OV b a)]
 simp_all
theorem TO:∀(a L),(∀t∈a,IN t)->HK pF (C a) (aO (a++L))=A (a,aO L)
 | [],L,_=>rfl
 |t::a,L,h=>by
  rw[j6,HK,List.cons_append,mO _ (h t List.mem_cons_self)];simp[TO _ L λx B=>h x (List.mem_cons_of_mem _ _)]
theorem DG(a L)(h:∀t∈a,IN t)(B:C a<1000000000000000000):DH pF (aO (aV (C a)::(a++L)))=A (a,aO L):=by rw[DH,mP _ X X];show HK _ _ _=_;rw[l_,TO _ L h]
theorem SA(s)(L)(h:0<=s.idx)(f:s.idx<1000000000000000000)(i:∀t∈s.sig,IN t)(g:∀t∈s.path,IN t)(d:C s.sig<1000000000000000000)(c:C s.path<1000000000000000000):
  Bw (aO (fI (.z s.idx s.sig s.path)++L))=A (s,aO L):=by
 have e:fI (.z s.idx s.sig s.path)++L=aV s.idx::(aV (C s.sig)::(s.sig++(aV (C s.path)::(s.path++L)))):=by simp[fI]
 rw[e,Bw,mP _ h f];show (match DH pF _ with|none=>ζ|some (a,q)=>match DH pF q with|none=>ζ|some (b,p)=>A _)=_;rw[DG _ _ i d];show (match DH pF _ with|none=>ζ|some (b,p)=>A _)=_;rw[DG _ _ g c]
theorem TN:∀(ps) (L),(∀q∈ps,(0<=q.1/\q.1<1000000000000000000)/\(0<=q.2/\q.2<1000000000000000000))->HK SU (C ps) (aO (QF ps++L))=A (ps,aO L)
 | [],L,_=>rfl
 | p::ps,L,h=>by
  obtain ⟨⟨d,c⟩,f,a⟩:=h p mem_cons_self;have e:QF (p::ps)++L=aV _::(aV _::(QF _++L)):=rfl;have b:SU (aO (QF (p::ps)++L))=A (p,aO (QF ps++L)):=by
   rw[e,SU,mP _ d c];show (match xW _ with|none=>ζ|some (y,q)=>A _)=_;rw[mP _ f a]
  rw[j6,HK,b];simp[TN _ L λx B=>h x (mem_cons_of_mem _ _)]
theorem ry(ps)(L)(h:∀q∈ps,(0<=q.1/\q.1<1000000000000000000)/\(0<=q.2/\q.2<1000000000000000000))(B:C ps<1000000000000000000):DH SU (aO (fI (.p ps)++L))=A (ps,aO L):=by have e:fI (.p _)++L=aV _::(QF ps++L):=rfl;rw[e,DH,mP _ X X];show HK _ _ _=_;rw[l_,TN _ L h]
variable{α:Type}{a b:List _}
theorem sq(m:AV)(l:List (Int×Int))(p:Nat->Bool)(e:Nat->aF)(E:C l<2^62)(o:∀k s,l[k]?=A s->dQ φ m [av (kN s)] (e k) (λr H'=>r=bv (p k)/\H'=e (k+1))):
  aU φ 209 [.pv (yD l),m] (e 0) (λr H'=>r=iv (OW p (C l))/\H'=e (HP p (C l))):=by
 have B:C (l.map kN)=C l:=g_ _;refine Bd func209 Z ntmps209<|Sz aH<|S<|U aA<|Y (fM gH)<|V aA<|aE<|bF (σ:=Nat) (λk=>([(0,.pv (yD l)),(1,m),(7,iv (C (l.map kN):Int)),(8,iv (k:Int))],e k)) (λk=>k<=C l/\∀j,j<k->p j=η) (λk=>C l - k) 0 ⟨X,X⟩ ?_ ?_
 .exact E0
 rintro k ⟨hk,c⟩;refine Sz cI<|S<|Cn ?_ ?_<;>intro f
 .have d:k<C l:=I_ f
  have ⟨s,n⟩:=aR d;have hi:=cC (f:=kN) n;have h:=o k s n;refine aB<|S<|aE<|U aA<|V aH<|U aA<|Y aA<|Y aA<|Y (iV VM)<|Y (fF Z eL sizeOf104 Z X (Z) Z)<|V (dK Z Z Z (h))<|Cn ?_ ?_<;>intro g
  .refine U aA<|V aH<|aC ?_;exact cT (H':=e (k+1)) (.inr Z) Z (aI Z) Fin.refl ⟨by rw[OW,DS d g c],by rw[HP,DS d g c]⟩
  refine aB<|Rd iD<|V aA ?_;refine⟨k+1,⟨X,λj D=>?_⟩,X,E0⟩
  grind
 have i:k=C l:=J_ f
 subst i;refine aP<|Sz aH<|aC ?_;exact cT (H':=e (C l)) (.inr Z) Z (aI Z) Fin.refl ⟨by rw[OW,DT c],by rw[HP,DT c]⟩
theorem WI(c)(l)(p)(b:Nat->aF)(d:C l<2^62)(e:∀k s,l[k]?=A s->dQ φ c [av (kN s)] (b k) (λr H'=>r=bv (p k)/\H'=b (k+1))):
  aU φ 149 [.pv (yD l),c] (b 0) (λr H'=>r=bv ((List.range (C l)).any p)/\H'=b (HP p (C l))):=by
 refine Bd func149 Z ntmps149<|Sz aH<|U aA<|Y aA<|Y (bH Z Z call209 Z (sq c l p b d e))<|Y AF<|V aH<|aC ?_;exact cT (.inr Z) Z (aI Z) Fin.refl ⟨by rw[YH],Z⟩
def bk(q:Int×Int):Bool:=!(θ (0<=q.1)&&θ (q.1<=1048575))||!(θ (0<=q.2)&&θ (q.2<=1048575))
def To:Ob:=bx 1 174 [.pv (.fn 146)]
theorem zQ(H):∀r∈To.rows,∀a∈r,Clo H a:=by intro r c a b;simp[To,bx,q9]at c;subst c;rw[q9]at b;subst b;simp
instance(H):W_ (H) (To.rows):=⟨zQ H⟩
theorem aEQ(q:Int×Int):aU φ 150 [av (kN q),.ref 3 0 0 0] [(3,To)] (λr H'=>r=bv (bk q)/\H'=[(3,To)]):=by
 have c:=λH=>RH q.1 0 1048575 H;have b:=λH=>RH q.2 0 1048575 H;have B:bk q=(!(θ (0<=q.1)&&θ _)||!(θ (0<=q.2)&&θ _)):=rfl;have ⟨u,e⟩:∃u,u=(θ (0<=q.1)&&θ (q.1<=1048575)):=X_;have ⟨v,d⟩:∃v,v=(θ (0<=q.2)&&θ (q.2<=1048575)):=X_;clear e d;refine Bd func150 Z ntmps150<|U (kb 2)<|V aH<|S<|aT (t:=3) (n:=14) (A_:=bk q) ?_ ?_
 .all_goals refine Y (bQ pY)<|Y (bC nA)<|Y (bQ M_)<|Y (dK Z Z Z (dQ.fn sB (c _)))<|Y iH<|Dm ?_<;>(refine Sp 9 (λf=>?_) λf=>?_)<;>(first|refine M<|M<|M<|M<|M ?_|refine O (bQ pY)<|O (bC mZ)<|O (bQ M_)<|O (dK Z Z Z (dQ.fn sB (b _)))<|O iH ?_)<;>refine Y cD<|Da ?_<;>exact Gj (h:=by simp_all)
 refine aC<|cT (H':=[(3,To)]) (.inr Z) Z (aI Z) P_ Qq
theorem um(l:List (Int×Int))(q):((List.range (C l)).any λk=>match l[k]? with|some s=>q s|none=>η)=l.any q:=by
 rw[Bool.eq_iff_iff,any_eq_true,any_eq_true];constructor
 .grind
 rintro⟨s,a,h⟩;have ⟨k,B⟩:=s8.1 a
 grind
def aBR(l:List (Int×Int))(k:Nat):Bool:=match l[k]? with|some s=>bk s|none=>η
theorem aBl(l)(B:C l<2^40):aU φ 149 [.pv (yD l),.clo 150 [.ref 3 0 0 0]] [(3,To)] (λr H'=>r=bv (l.any bk)/\H'=[(3,To)]):=by
 have b:=WI _ l (aBR l) _ X (λk s c=>by
  rw[aBR,c];exact dQ.clo call150 (aEQ s))
 rw[show (List.range _).any (aBR l)=l.any _ from um l _]at b;exact b
theorem Oh(s)(H):RC 238 [sv s] (bv η) H:=by
 refine Pu<|Bd func238 Z ntmps238<|Sz aH<|U aA<|Y aA<|Y E4<|V aH<|aC<|Rt ?_
 simp_all
theorem yh(s t)(H):RC 186 [sv s,sv t] (bv (jV s t)) H:=by
 refine Pu<|Bd func186 Z ntmps186<|Sz aH<|S<|aT (t:=4) (n:=15) (A_:=jV s t) ?_ ?_
 .all_goals refine Y aA<|Y (bH Z Z call238 Z (Oh _ _))<|Dm ?_<;>(refine Sp 7 (λc=>?_) λc=>?_)<;>(try contradiction)<;>refine M<|M<|M<|Y cD<|Dm ?_<;>(refine Sp 12 (λb=>?_) λb=>?_)<;>(try contradiction)<;>refine O aA<|O aA<|O (iy Z Z Z)<|Y cD<|Da ?_<;>(exact⟨⟨_,Z,Z⟩,Z,Z,Z⟩)
 exact aC<|Rt<|Qq
def nU:List B_->Bool
 |a::b::r=>!jV b a&&nU (b::r)
 |_=>T
theorem ZR{a}{l}(h:nU (a::l)=T):nU l=T:=by
 cases l with
 |nil=>rfl
 |cons b r=>exact(l6 _ _▸h).2
theorem KA:∀(i) {l},nU l=T->nU (l.drop i)=T
 |0,_,h=>h
 |i+1,[],_=>rfl
 |i+1,a::l,h=>KA i (ZR h)
theorem pb{l:List _}{k}{a b}(f:l[k]?=A a)(c:l[k+1]?=A b):nU (l.drop k)=(!jV b a&&nU (l.drop (k+1))):=by have ⟨h,e⟩:=m9.1 f;have ⟨g,d⟩:=m9.1 c;rw[drop_eq_getElem_cons h,drop_eq_getElem_cons g,e,d];rfl
theorem jt(l:List B_)(H:aF)(E:C l<2^40):RC 152 [.pv (aK l)] (bv (nU l)) H:=by
 refine Pu ?_;have n:C (l.map S_)=C l:=g_ _;refine Bd func152 Z ntmps152<|Sz aH<|S<|U aA<|Y (fM aD)<|Y (by exact dT Z Z Z (show ξ.wrap ((C (l.map S_):Int) - 1)=(C (l.map S_):Int) - 1 by rw[IntKind.wrap_i64];omega))<|V aH<|aE ?_;refine bF (σ:=Nat) (λk=>([(0,.pv (aK l)),(3,iv ((k:Int) - 1))],[])) (λk=>k<=C l/\nU (l.drop (k - 1))=T) (λk=>k) (C l) ⟨h_ _,?_⟩ ?_ ?_
 .have:C (l.drop (C l - 1))<=1:=G_
  match l.drop (C l - 1),this with
  | [],_=>rfl
  | [a],_=>rfl
 .rw[n];exact Wk
 rintro k ⟨hk,p⟩;refine S<|U aA<|V iX<|Cn ?_ ?_<;>intro f
 .have hlt:2<=k:=I_ f
  obtain ⟨m,rfl⟩:∃m,k=m+2:=⟨k - 2,X⟩;have ⟨b,s⟩:=aR (l:=l) (k:=m+1) X;have ⟨a,q⟩:=aR (l:=l) (k:=m) X;have j:=cC (f:=S_) s;have D:=cC (f:=S_) q;have i:=pb q s;rw[show m+2 - 1=m+1 by omega]at p;rw[p,Bool.and_true]at i;refine aB<|S<|aE<|S<|aM a7<|Cq aA<|Cq aA<|Cq (bP (m:=m+1) Z aY Z Z X (show (((m+2:Nat):Int) - 1).toNat=m+1 by omega) j Z)<|Cq (fS N_)<|Cq aA<|Cq aA<|Cq (by exact dT Z Z Z (show ξ.wrap ((((m+2:Nat):Int) - 1) - 1)=((m:Nat):Int)by rw[IntKind.wrap_i64];omega))<|Cq (iV aY)<|Cq (fS N_)<|Cq (kc call186 (yh b a _))<|bG<|Kr ?_;refine Cn ?_ ?_<;>intro g
  .have e:jV b a=T:=g;have o:nU l=η:=by
    rw[Bool.eq_false_iff];intro h;rw[KA m h,e]at i
    grind
   rw[o];exact Sz aH<|aC<|Rt<|Qq
  have e:jV b a=η:=g;refine aB<|Rd aA<|Y (by exact dT Z Z Z (show ξ.wrap ((((m+2:Nat):Int) - 1) - 1)=((m+1:Nat):Int) - 1 by rw[IntKind.wrap_i64];omega))<|Da ?_;refine⟨m+1,⟨X,?_⟩,X,?_⟩
  .simp_all
  exact Wk
 have B:k<=1:=J_ f
 have o:nU l=T:=F_
 rw[o];exact aP<|Sz aH<|aC<|Rt<|Qq
abbrev uE(l:List B_):List (List AV):=l.map (λe=>(S_ e).map .pv)
theorem aDX(l:List _):∀r∈l.map S_,C r=1:=λr a=>by
 obtain ⟨t,_,rfl⟩:=mem_map.1 a;rfl
theorem Qd(l)(H:aF)(B:dN H)(f:H.get 901=ζ)(D:C l<2^40):
  aU φ 153 [.pv (aK l)] H (λr H'=>r=.osl 901 1 0 (C l)/\H'=(901,⟨1,1,9,uE l⟩)::H):=by
 have e:C (l.map S_)=C l:=g_ _;refine Bd func153 Z ntmps153<|Sz aH<|S<|Sr<|Dm<|uo Z Z (qo Z aD Z) ?_;rintro _ H2 ⟨g,b,rfl,h⟩;rw[g];refine Zz<|Cn ?_ ?_<;>intro d
 .have i:=h d;have c:=map_eq_nil_iff.1 i;subst c;refine Sz (dZ (sz:=1) (ty:=9) Z f Z)<|aC ?_;refine cT (.inr Z) Z (aI Z) ((Fin.bump (g:=0) (k:=1) Z Z E_ Z Z Z).trans (Fin.get' (λj=>xO _ _ _ _ j))) ?_;exact Qq
 refine aB<|U (eO Z aY Z Z Z Z H_ f)<|Y aA<|Y (bW Z aY sW Z Z Z Z Z Z Z (aDX l) e X (r7 _) (show []++(l.map S_).map _=uE l by simp_all))<|V aH<|aC ?_;refine cT (.inr Z) Z (aI Z) (Fin.get' (λj=>xO _ _ _ _ j)) ?_;exact Qq
theorem M6(n)(H):RC 168 [.pv (.int .u8 n)] (bv (vY n)) H:=by
 refine Pu<|Bd func168 Z ntmps168<|Sz aH<|S<|aT (t:=2) (n:=18) (A_:=vY n) ?_ ?_
 .all_goals refine Y aA<|Y AF<|Dm ?_<;>(refine Sp 5 (λc=>?_) λc=>?_)<;>(first|refine M<|M ?_|refine O aA<|O H7 ?_)<;>refine Y cD<|Dm ?_<;>(refine Sp 9 (λd=>?_) λd=>?_)<;>(first|refine M<|M<|M ?_|refine O aA<|O AF<|O aA ?_)<;>(first|refine Sp 12 (λb=>?_) λb=>?_|refine kX (t:=12) Z ?_)<;>(first|exact s_|refine M ?_|refine Fu ?_|refine O aA ?_)<;>(first|refine M ?_|refine Fu ?_|refine O H7 ?_)<;>(first|refine M ?_|refine O cD ?_)<;>refine Y cD<|Da ?_<;>exact Gj (h:=by(simp only[vY, *];rfl))
 exact aC<|Rt<|Qq
theorem SP(n)(H):RC 224 [.pv (.int .u8 n)] (bv (yQ n)) H:=by
 refine Pu<|Bd func224 Z ntmps224<|Sz aH<|S<|aT (t:=2) (n:=8) (A_:=yQ n) ?_ ?_
 .all_goals refine Y aA<|Y AF<|Dm ?_<;>(refine Sp 5 (λb=>?_) λb=>?_)<;>(first|refine M<|M ?_|refine O aA<|O H7 ?_)<;>refine Y cD<|Da ?_<;>exact Gj (h:=by(simp only[yQ, *];rfl))
 exact aC<|Rt<|Qq
def He(n:Int):Bool:=(vY n||yQ n)||θ (n=95)
theorem Z8(n)(H):RC 167 [.pv (.int .u8 n)] (bv (He n)) H:=by
 refine Pu<|Bd func167 Z ntmps167<|Sz aH<|S<|aT (t:=2) (n:=13) (A_:=He n) ?_ ?_
 .all_goals refine Y aA<|Y (bH Z Z call168 Z (M6 n _))<|Dm ?_<;>(refine Sp 5 (λb=>?_) λb=>?_)<;>(first|refine M<|M ?_|refine O aA<|O (bH Z Z call224 Z (SP n _)) ?_)<;>refine Y cD<|Dm ?_<;>(refine Sp 9 (λc=>?_) λc=>?_)<;>(first|exact s_|refine M<|M ?_|refine O aA<|O cF ?_)<;>refine Y cD<|Da ?_<;>exact Gj (h:=by(simp only[He, *];rfl))
 exact aC<|Rt<|Qq
theorem Zb:∀n:Fin 256,(θ (yZ (n.val)=3)=vY (n.val))/\(θ (yZ (n.val)=4)=yQ (n.val))/\(θ (yZ (n.val)=5)=θ ((n.val:Int)=95)):=by decide +kernel
theorem UR(s)(k):(θ (yZ (aZ s k)=3)=vY (aZ s k))/\(θ (yZ (aZ s k)=4)=yQ (aZ s k))/\(θ (yZ (aZ s k)=5)=θ (aZ s k=95)):=by have h:=Zb ⟨(aZ s k).toNat,CE s k⟩;exact h
def Zq(s:B_)(k:Nat):Bool:=!He (aZ s k)
def XE(s:B_):Bool:=!((List.range (N s)).any (Zq s))&&(θ ((0:Int)<(N s:Int))&&θ ((N s:Int)<=24)&&vY (aZ s 0))
theorem fu{s}:s=a6↔N s=0:=by
 constructor
 .rintro rfl;rfl
 intro h;exact ByteArray.ext (Array.eq_empty_of_size_eq_zero h)
theorem Le(s:B_):XE s=cJ s:=by
 have m:∀k,mh s k=(!vY (aZ s k)&&(θ ((k:Int)=0)||(!yQ (aZ s k)&&!θ (aZ s k=95)))):=λk=>by
  have ⟨a,b,c⟩:=UR s k;rw[mh,a,b,c]
 rw[Bool.eq_iff_iff,XE,cJ];simp only[l6,r9,k_,q7,any_eq_false,mem_range,fu,Zq,m];constructor
 .rintro⟨f,⟨l,e⟩,j⟩;refine⟨λk i=>?_,X,e⟩;by_cases g:k=0
  .subst g;simp[j]
  have d:He (aZ s k)=T:=by
   simp_all
  simp only[He,Bool.or_eq_true,k_]at d;rcases d with(h|h)|h
  .simp[h]
  .simp[h,g]
  simp[h,g]
 rintro⟨f,l,e⟩;refine⟨λk i=>?_,⟨X,e⟩,?_⟩
 .have:=f k i;intro d;apply this;simp only[He,r9,q_]at d
  simp_all
 have:=f 0 X;cases B:vY (aZ s 0)with
 |true=>rfl
 |false=>exact absurd G_ this
theorem Lf(s:B_)(H:aF)(E:N s<2^62):RC 113 [sv s] (bv (XE s)) H:=by
 refine Pu<|Bd func113 Z ntmps113<|Sz aH<|S<|Sz aH<|aE<|bF (σ:=Nat) (λk=>([(0,sv s),(3,iv (k:Int))],[])) (λk=>k<=N s/\∀j,j<k->Zq s j=η) (λk=>N s - k) 0 ⟨X,X⟩ ?_ ?_
 .exact E0
 rintro k ⟨hk,i⟩;refine S<|U aA<|Y aA<|Y (gL U_)<|V cI<|Cn ?_ ?_<;>intro d
 .have f:k<N s:=I_ d
  refine aB<|S<|aE<|U aA<|Y aA<|Y (ky U_)<|Y (kc call167 (Z8 (aZ s k) _))<|V iH<|Cn ?_ ?_<;>intro b
  .have o:Zq s k=T:=b;refine Sz aH<|aC<|Rt ?_;exact⟨by rw[XE,uQ f o];rfl,Z⟩
  refine aB<|Rd aA<|Y iD<|Da ?_;refine⟨k+1,⟨X,λj D=>?_⟩,X,E0⟩;by_cases e:j=k
  .subst e;exact b
  grind
 have h:k=N s:=J_ d
 have m:XE s=(θ ((0:Int)<(N s:Int))&&θ ((N s:Int)<=24)&&vY (aZ s 0)):=by
  subst h;rw[XE,BT i];rfl
 rw[m];clear m;by_cases n:(0:Int)<(N s:Int)
 .have g:=decide_eq_true n;have B:0<N s:=X
  rw[g,Bool.true_and];by_cases c:(N s:Int)<=24
  .have l:=decide_eq_true c;rw[l,Bool.true_and];exact aP<|U aA<|Y (gL U_)<|Y iX<|Y aA<|Oa aA<|Oa (gL U_)<|Oa H7<|Y C6<|Y aA<|Oa aA<|Oa (ky U_)<|Oa (kc call168 (M6 (aZ s 0) _))<|Y C6<|V aH<|aC<|Rt<|Qq
  have l:=decide_eq_false c;rw[l];exact aP<|U aA<|Y (gL U_)<|Y iX<|Y aA<|Oa aA<|Oa (gL U_)<|Oa H7<|Y C6<|Y aA<|Fa<|Fa<|Fa<|Y sQ<|V aH<|aC<|Rt<|Qq
 have g:=decide_eq_false n;rw[g];exact aP<|U aA<|Y (gL U_)<|Y iX<|Y aA<|Fa<|Fa<|Fa<|Y sQ<|Y aA<|M<|M<|M<|Y cD<|V aH<|aC<|Rt<|Qq
theorem lN(s)(H)(a:N s<2^62):RC 113 [sv s] (bv (cJ s)) H:=by rw[<-Le];exact Lf s H a
theorem Lc(x y:Int)(H:aF):RC 170 [.agg [iv x,iv y]] (bv (cn x y)) H:=by
 refine Pu<|Bd func170 Z ntmps170<|U (kb 1)<|V aH<|S<|aT (t:=2) (n:=22) (A_:=cn x y) ?_ ?_
 .all_goals refine Y (bC nA)<|Y (bQ M_)<|Y AF<|Dm ?_<;>(refine Sp 6 (λd=>?_) λd=>?_)<;>(first|refine M<|M<|M ?_|refine O (bC nA)<|O (bQ M_)<|O cI ?_)<;>refine Y cD<|Dm ?_<;>(refine Sp 11 (λb=>?_) λb=>?_)<;>(first|refine M<|M<|M ?_|refine O (bC mZ)<|O (bQ M_)<|O AF ?_)<;>refine Y cD<|Dm ?_<;>(refine Sp 16 (λc=>?_) λc=>?_)<;>(first|exact s_|refine M<|M<|M ?_|refine O (bC mZ)<|O (bQ M_)<|O cI ?_)<;>refine Y cD<|Da ?_<;>exact Gj (h:=by(simp only[cn, *];rfl))
 exact aC<|Rt<|Qq
theorem Cf{n:Nat}(a:1<=n)(b:n<=5):[S_ a6,S_ ⟨#[110,111,100,101]⟩,S_ ⟨#[119,97,121]⟩,S_ ⟨#[97,114,101,97]⟩,S_ ⟨#[114,111,117,116,101]⟩,S_ ⟨#[116,117,114,110]⟩][n]?=A (S_ (eN n)):=by
 match n,a,b with
 |1,_,_=>rfl
 |2,_,_=>rfl
 |3,_,_=>rfl
 |4,_,_=>rfl
 |5,_,_=>rfl
 |n+6,_,h=>exact absurd h X
theorem GO(k:Int)(H:aF):RC 214 [iv k] (sv (eN k)) H:=by
 refine Pu<|Bd func214 Z ntmps214<|Sz aH<|U (aL [S_ a6,S_ _,S_ _,S_ _,S_ _,S_ _] Z aY Z Z Z Z Z (by simp[S_]))<|V aH<|S<|S<|aT (t:=10) (n:=7) (A_:=θ (k<1)||θ (5<k)) ?_ ?_
 .all_goals refine Y aA<|Y cI<|Dm ?_<;>(refine Sp 7 (λd=>?_) λd=>?_)<;>(first|refine M<|M ?_|refine O aA<|O iX ?_)<;>refine V cD ?_<;>(exact⟨⟨_,Z,G_⟩,Z,Z,Z⟩)
 refine Cn ?_ ?_<;>intro B
 .have b:¬ (k=1)/\¬ (k=2)/\¬ (k=3)/\¬ (k=4)/\¬ (k=5):=by
   grind
  refine Sz aH<|aC<|Rt ?_;exact⟨by simp only[eN,b.1,b.2.1,b.2.2.1,b.2.2.2.1,b.2.2.2.2,if_false],Z⟩
 obtain ⟨n,rfl⟩:∃n:Nat,k=(n:Int):=⟨k.toNat,G_⟩;have c:1<=n/\n<=5:=by
  grind
 have hi:=Cf c.1 c.2;exact aB<|U aA<|Y aA<|Y (iV aY)<|Y (fS N_)<|V aH<|aC<|Rt<|Qq
theorem Fl(l)(k:Nat)(t a)(c:0<k->l[k - 1]?=A a):(((!cJ t.key||θ ((N t.val:Int)<1))||θ (200<(N t.val:Int)))||(θ ((0:Int)<k)&&!jV a.key t.key))=DZ (kW m8.key l k) t:=by
 have d:θ ((N t.val:Int)<1)=θ (t.val=a6):=decide_eq_decide.2 (by rw[fu];omega);rw[d,DZ];cases g:cJ t.key with
 |false=>simp
 | true =>
  have f:sle t.key (kW m8.key l k)=(θ (0<(k:Int))&&!jV a.key t.key):=by
   cases k with
   | zero =>
    have:jV a6 t.key=T:=by
     cases e:jV a6 t.key with
     |true=>rfl
     |false=>exact absurd (CX (wg _) e) (T5 g)
    rw[kW,P4.2 this];rfl
   | succ k =>
    have h:=c X;rw[show k+1 - 1=k from rfl]at h;rw[AJ h,decide_eq_true (show 0<((k+1:Nat):Int)by omega)];cases e:jV _ t.key with
    |true=>rw[P4.2 e];rfl
    |false =>
     cases b:sle t.key _ with
     |true=>rfl
     |false=>rw[P4]at b;rw[e]at b;cases b
  rw[<-f];cases sle t.key _<;>cases θ (t.val=a6)<;>cases θ (200<(N t.val:Int))<;>rfl
theorem xc(l:List m8)(H:aF)(w:NF l):RC 296 [.pv (qM l)] (bv (tR l)) H:=by
 refine Pu ?_;have ⟨w,u⟩:=w;have E:C (l.map bU)=C l:=g_ _;refine Bd func296 Z ntmps296<|Sz aH<|S<|U aA<|Y (fM dU)<|V iX<|Cn ?_ ?_<;>intro n
 .have f:θ ((C l:Int)<=60)=η:=by
   have:=b9 n;exact decide_eq_false X
  refine Sz aH<|aC<|Rt ?_;exact⟨by rw[tR,f,Bool.and_false],Z⟩
 have f:θ ((C l:Int)<=60)=T:=by
  have:=b_ n;exact decide_eq_true X
 rw[tR,f,Bool.and_true];refine aB<|S<|Sz aH<|aE<|bF (σ:=Nat) (λk=>([(0,.pv (qM l)),(3,iv (k:Int))],[])) (λk=>k<=C l/\∀j,j<k->UV DZ m8.key l j=η) (λk=>C l - k) 0 ⟨X,X⟩ ?_ ?_
 .exact E0
 rintro k ⟨hk,hno⟩;refine S<|U aA<|Y aA<|Y (fM dU)<|V cI<|Cn ?_ ?_<;>intro g
 .have o:k<C l:=I_ g
  have ⟨t,q⟩:=aR o;have hi:=cC (f:=bU) q;have B:=u t (m7 q);have ⟨p,v⟩:∃p,0<k->l[k - 1]?=A p:=by
   grind
  have m:0<k->(l.map bU)[k - 1]?=A (bU p):=λh=>cC (f:=bU) (v h);have i:=Fl l k t p v;refine aB<|S<|aE<|S<|pX (t:=55) (n:=43) (A_:=((!cJ t.key||θ ((N t.val:Int)<1))||θ (200<(N t.val:Int)))||(θ ((0:Int)<(k:Int))&&!jV p.key t.key)) ?_ ?_
  .cases hg20:(!cJ t.key:Bool)
   .cases hg29:(θ ((N t.val:Int)<1):Bool)
    .cases hg38:(θ (200<(N t.val:Int)):Bool)
     .cases hg41:(θ ((0:Int)<(k:Int)):Bool)
      .refine aM a7<|Cq aA<|Cq aA<|Cq (iV lU)<|Cq (F9 qD)<|Cq (fS N_)<|Cq (kc gC (lN t.key _ B.1))<|Cq iH<|Cq aA<|Nf aA<|Nf aA<|Nf (iV lU)<|Nf (F9 rB)<|Nf (fS N_)<|Nf (gL U_)<|Nf cI<|Cq sQ<|Cq aA<|Nf aA<|Nf aA<|Nf (iV lU)<|Nf (F9 rB)<|Nf (fS N_)<|Nf (gL U_)<|Nf iX<|Cq sQ<|Cq aA<|Nf aA<|Nf iX<|Nf aA<|Ot<|Ot<|Ot<|Ot<|Ot<|Ot<|Ot<|Ot<|Ot<|Ot<|Ot<|Ot<|Nf sQ<|Cq sQ<|bG<|Kr ?_;exact⟨Z,⟨_,Z,by rfl⟩,Z,Z,Z⟩
      refine aM a7<|Cq aA<|Cq aA<|Cq (iV lU)<|Cq (F9 qD)<|Cq (fS N_)<|Cq (kc gC (lN t.key _ B.1))<|Cq iH<|Cq aA<|Nf aA<|Nf aA<|Nf (iV lU)<|Nf (F9 rB)<|Nf (fS N_)<|Nf (gL U_)<|Nf cI<|Cq sQ<|Cq aA<|Nf aA<|Nf aA<|Nf (iV lU)<|Nf (F9 rB)<|Nf (fS N_)<|Nf (gL U_)<|Nf iX<|Cq sQ<|Cq aA<|Nf aA<|Nf iX<|Nf aA<|Nt aA<|Nt aA<|Nt (dT Z Z Z (lT X X))<|Nt (bP Z lU Z Z (I_ hg41) (show ((k:Int) - 1).toNat=k - 1 by omega) (m (I_ hg41)) Z)<|Nt (F9 qD)<|Nt (eF Z N_ Z (m (I_ hg41)) Z)<|Nt aA<|Nt aA<|Nt (iV lU)<|Nt (F9 qD)<|Nt (fS N_) ?_;refine Nt (KY Z Z Z)<|Nf C6<|Cq sQ<|bG<|Kr ?_;exact⟨Z,⟨_,Z,by rfl⟩,Z,Z,Z⟩
     refine aM a7<|Cq aA<|Cq aA<|Cq (iV lU)<|Cq (F9 qD)<|Cq (fS N_)<|Cq (kc gC (lN t.key _ B.1))<|Cq iH<|Cq aA<|Nf aA<|Nf aA<|Nf (iV lU)<|Nf (F9 rB)<|Nf (fS N_)<|Nf (gL U_)<|Nf cI<|Cq sQ<|Cq aA<|Nf aA<|Nf aA<|Nf (iV lU)<|Nf (F9 rB)<|Nf (fS N_)<|Nf (gL U_)<|Nf iX<|Cq sQ<|Cq aA<|Of<|Of<|Of<|Ou<|Ou<|Ou<|Ou<|Ou<|Ou<|Ou<|Ou<|Ou<|Ou<|Ou<|Ou<|Of<|Cq C6<|bG<|Kr ?_;exact⟨Z,⟨_,Z,by rfl⟩,Z,Z,Z⟩
    refine aM a7<|Cq aA<|Cq aA<|Cq (iV lU)<|Cq (F9 qD)<|Cq (fS N_)<|Cq (kc gC (lN t.key _ B.1))<|Cq iH<|Cq aA<|Nf aA<|Nf aA<|Nf (iV lU)<|Nf (F9 rB)<|Nf (fS N_)<|Nf (gL U_)<|Nf cI<|Cq sQ<|Cq aA<|Of<|Of<|Of<|Of<|Of<|Of<|Of<|Cq C6<|Cq aA<|Of<|Of<|Of<|Ou<|Ou<|Ou<|Ou<|Ou<|Ou<|Ou<|Ou<|Ou<|Ou<|Ou<|Ou<|Of<|Cq cD<|bG<|Kr ?_;exact⟨Z,⟨_,Z,by rfl⟩,Z,Z,Z⟩
   refine aM a7<|Cq aA<|Cq aA<|Cq (iV lU)<|Cq (F9 qD)<|Cq (fS N_)<|Cq (kc gC (lN t.key _ B.1))<|Cq iH<|Cq aA<|Of<|Of<|Of<|Of<|Of<|Of<|Of<|Cq C6<|Cq aA<|Of<|Of<|Of<|Of<|Of<|Of<|Of<|Cq cD<|Cq aA<|Of<|Of<|Of<|Ou<|Ou<|Ou<|Ou<|Ou<|Ou<|Ou<|Ou<|Ou<|Ou<|Ou<|Ou<|Of<|Cq cD<|bG<|Kr ?_;exact⟨Z,⟨_,Z,by rfl⟩,Z,Z,Z⟩
  refine Cn ?_ ?_<;>intro D
  .rw[i]at D;refine Sz aH<|aC<|Rt ?_;exact⟨by rw[uQ o ((D0 q).trans D)];rfl,Z⟩
  rw[i]at D;refine aB<|Rd aA<|Y iD<|Da ?_;refine⟨k+1,⟨X,λj F=>?_⟩,X,E0⟩;by_cases e:j=k
  .subst e;exact(D0 q).trans D
  grind
 have s:k=C l:=J_ g
 subst s;refine aP<|Sz aH<|aC<|Rt ?_
 simp_all
theorem Ie(o)(k:Nat)(s p)(a:0<k->o.refs[k - 1]?=A p):
  ((!cJ s||((θ (o.kind=2)&&θ (0<(k:Int)))&&θ (p=s)))||(θ (o.kind=3)&&yw (BO o.refs k) s))=NV o (kW id o.refs k) (BO o.refs k) s:=by
 rw[NV,T4];cases c:cJ s with
 |false=>simp
 | true =>
  have b:(θ (0<(k:Int))&&θ (p=s))=θ (s=kW id o.refs k):=by
   cases k with
   |zero=>rw[kW,decide_eq_false (T5 c)];rfl
   |succ k =>
    have h:=a X;rw[show k+1 - 1=k from rfl]at h;rw[AJ h,decide_eq_true (show 0<((k+1:Nat):Int)by omega)];exact decide_eq_decide.2 eq_comm
  rw[<-b];simp[Bool.and_assoc]
theorem Kh{l}{k}{s}(h:l[k]?=A s):BO l (k+1)=RZ (BO l k) s:=by rw[BO,h];rfl
def aCP(k n:Int):Bool:=if k=1 then θ (n=0)else if k=2 then θ (2<=n)else if k=3 then θ (3<=n)else if k=4 then θ (1<=n)else θ (n=3)
def SL(o:l8):Bool:=(θ ((C o.refs:Int)<=2000)&&!((List.range (C o.refs)).any (vF o)))&&aCP o.kind (C o.refs:Int)
theorem xd(o:l8)(H:aF)(m:nh o):RC 297 [av (bS o)] (bv (SL o)) H:=by
 refine Pu ?_;have ⟨r,u,v,G⟩:=m;have c:C (o.refs.map S_)=C o.refs:=g_ _;refine Bd func297 Z ntmps297<|U (kb 1)<|V aH<|U (bC eI)<|Y (bQ aG)<|Y (fM aD)<|V aH<|S<|U aA<|V iX<|Cn ?_ ?_<;>intro J
 .have a:θ ((C o.refs:Int)<=2000)=η:=by
   have:=b9 J;exact decide_eq_false X
  refine Sz aH<|aC<|Rt ?_;exact⟨by rw[SL,a];rfl,Z⟩
 have a:θ ((C o.refs:Int)<=2000)=T:=by
  have:=b_ J;exact decide_eq_true X
 rw[SL,a,Bool.true_and];refine aB<|U (vU (id:=11) J7 Z Z)<|V aH<|S<|Sz aH<|aE<|bF (σ:=Nat) (λk=>([(1,.ref 1 0 0 0),(3,iv (C (o.refs.map S_):Int)),(4,.mp 11 0),(5,iv (k:Int))],[(11,sob (BO o.refs k)),(1,bx 6 135 ((bS o).map .pv))])) (λk=>k<=C o.refs/\∀j,j<k->vF o j=η) (λk=>C o.refs - k) 0 ⟨X,X⟩ ?_ ?_
 .exact L_
 rintro k ⟨hk,hno⟩;refine S<|U aA<|Y aA<|V cI<|Cn ?_ ?_<;>intro K
 .have hlt:k<C o.refs:=I_ K
  have ⟨s,E⟩:=aR hlt;have hi:=cC (f:=S_) E;have ⟨p,W⟩:∃p,0<k->o.refs[k - 1]?=A p:=by
   by_cases q:0<k
   .have ⟨p,W⟩:=aR (l:=o.refs) (k:=k - 1) X;exact⟨p,λ_=>W⟩
   exact⟨s,λh=>absurd h q⟩
  have D:0<k->(o.refs.map S_)[k - 1]?=A (S_ p):=λh=>cC (f:=S_) (W h);have I:=Ie o k s p W;have i:vF o k=NV o (kW id o.refs k) (BO o.refs k) s:=by rw[vF,E]
  have d:=Kh E;refine aB<|S<|aE<|S<|S<|pX (t:=60) (n:=44) (A_:=(!cJ s||((θ (o.kind=2)&&θ ((0:Int)<(k:Int)))&&θ (p=s)))||(θ (o.kind=3)&&yw (BO o.refs k) s)) ?_ ?_
  .cases hg24:(!cJ s:Bool)
   .cases hg28:(θ (o.kind=2):Bool)
    .cases hg51:(θ (o.kind=3):Bool)
     .refine aM a7<|Cq (bC eI)<|Cq (bQ aG)<|Cq aA<|Cq (iV aY)<|Cq (fS N_)<|Cq (kc gC (lN s _ (G s (m7 E))))<|Cq iH<|Cq aA<|Nf (bC eJ)<|Nf (bQ M_)<|Nf cF<|Nf aA<|Ot<|Ot<|Nf sQ<|Nf aA<|Ot<|Ot<|Ot<|Ot<|Ot<|Ot<|Ot<|Ot<|Ot<|Ot<|Ot<|Ot<|Nf cD<|Cq sQ<|Cq aA<|Nf (bC eJ)<|Nf (bQ M_)<|Nf cF<|Nf aA<|Ot<|Ot<|Ot<|Ot<|Ot<|Ot<|Ot<|Nf sQ<|Cq cD<|bG<|Kr ?_;exact⟨Z,⟨_,Z,by rfl⟩,Z,Z,Z⟩
     refine aM a7<|Cq (bC eI)<|Cq (bQ aG)<|Cq aA<|Cq (iV aY)<|Cq (fS N_)<|Cq (kc gC (lN s _ (G s (m7 E))))<|Cq iH<|Cq aA<|Nf (bC eJ)<|Nf (bQ M_)<|Nf cF<|Nf aA<|Ot<|Ot<|Nf sQ<|Nf aA<|Ot<|Ot<|Ot<|Ot<|Ot<|Ot<|Ot<|Ot<|Ot<|Ot<|Ot<|Ot<|Nf cD<|Cq sQ<|Cq aA<|Nf (bC eJ)<|Nf (bQ M_)<|Nf cF<|Nf aA<|Nt aA<|Nt (bC eI)<|Nt (bQ aG)<|Nt aA<|Nt (iV aY)<|Nt (fS N_)<|Nt (by exact xA Z mL U_ Z Z Z Z Z jC (.inl Z))<|Nf C6<|Cq cD<|bG<|Kr ?_;exact⟨Z,⟨_,Z,by rfl⟩,Z,Z,Z⟩
    cases B:(θ ((0:Int)<(k:Int)):Bool)
    .cases hg51:(θ (o.kind=3):Bool)
     .refine aM a7<|Cq (bC eI)<|Cq (bQ aG)<|Cq aA<|Cq (iV aY)<|Cq (fS N_)<|Cq (kc gC (lN s _ (G s (m7 E))))<|Cq iH<|Cq aA<|Nf (bC eJ)<|Nf (bQ M_)<|Nf cF<|Nf aA<|Nt aA<|Nt iX<|Nf C6<|Nf aA<|Ot<|Ot<|Ot<|Ot<|Ot<|Ot<|Ot<|Ot<|Ot<|Ot<|Ot<|Ot<|Nf sQ<|Cq sQ<|Cq aA<|Nf (bC eJ)<|Nf (bQ M_)<|Nf cF<|Nf aA<|Ot<|Ot<|Ot<|Ot<|Ot<|Ot<|Ot<|Nf sQ<|Cq cD<|bG<|Kr ?_;exact⟨Z,⟨_,Z,by rfl⟩,Z,Z,Z⟩
     refine aM a7<|Cq (bC eI)<|Cq (bQ aG)<|Cq aA<|Cq (iV aY)<|Cq (fS N_)<|Cq (kc gC (lN s _ (G s (m7 E))))<|Cq iH<|Cq aA<|Nf (bC eJ)<|Nf (bQ M_)<|Nf cF<|Nf aA<|Nt aA<|Nt iX<|Nf C6<|Nf aA<|Ot<|Ot<|Ot<|Ot<|Ot<|Ot<|Ot<|Ot<|Ot<|Ot<|Ot<|Ot<|Nf sQ<|Cq sQ<|Cq aA<|Nf (bC eJ)<|Nf (bQ M_)<|Nf cF<|Nf aA<|Nt aA<|Nt (bC eI)<|Nt (bQ aG)<|Nt aA<|Nt (iV aY)<|Nt (fS N_)<|Nt (by exact xA Z mL U_ Z Z Z Z Z jC (.inl Z))<|Nf C6<|Cq cD<|bG<|Kr ?_;exact⟨Z,⟨_,Z,by rfl⟩,Z,Z,Z⟩
    cases g:(θ (p=s):Bool)
    .cases hg51:(θ (o.kind=3):Bool)
     .refine aM a7<|Cq (bC eI)<|Cq (bQ aG)<|Cq aA<|Cq (iV aY)<|Cq (fS N_)<|Cq (kc gC (lN s _ (G s (m7 E))))<|Cq iH<|Cq aA<|Nf (bC eJ)<|Nf (bQ M_)<|Nf cF<|Nf aA<|Nt aA<|Nt iX<|Nf C6<|Nf aA<|Nt (bC eI)<|Nt (bQ aG)<|Nt aA<|Nt (dT Z Z Z (lT X X))<|Nt (bP Z aY Z Z (I_ B) (show ((k:Int) - 1).toNat=k - 1 by omega) (D (I_ B)) Z)<|Nt (eF Z N_ Z (D (I_ B)) Z)<|Nt (bC eI)<|Nt (bQ aG)<|Nt aA<|Nt (iV aY)<|Nt (fS N_)<|Nt wU<|Nf C6<|Cq sQ<|Cq aA<|Nf (bC eJ)<|Nf (bQ M_)<|Nf cF<|Nf aA<|Ot<|Ot<|Ot ?_;refine Ot<|Ot<|Ot<|Ot<|Nf sQ<|Cq sQ<|bG<|Kr ?_;exact⟨Z,⟨_,Z,by rfl⟩,Z,Z,Z⟩
     refine aM a7<|Cq (bC eI)<|Cq (bQ aG)<|Cq aA<|Cq (iV aY)<|Cq (fS N_)<|Cq (kc gC (lN s _ (G s (m7 E))))<|Cq iH<|Cq aA<|Nf (bC eJ)<|Nf (bQ M_)<|Nf cF<|Nf aA<|Nt aA<|Nt iX<|Nf C6<|Nf aA<|Nt (bC eI)<|Nt (bQ aG)<|Nt aA<|Nt (dT Z Z Z (lT X X))<|Nt (bP Z aY Z Z (I_ B) (show ((k:Int) - 1).toNat=k - 1 by omega) (D (I_ B)) Z)<|Nt (eF Z N_ Z (D (I_ B)) Z)<|Nt (bC eI)<|Nt (bQ aG)<|Nt aA<|Nt (iV aY)<|Nt (fS N_)<|Nt wU<|Nf C6<|Cq sQ<|Cq aA<|Nf (bC eJ)<|Nf (bQ M_)<|Nf cF<|Nf aA<|Nt aA<|Nt (bC eI) ?_;refine Nt (bQ aG)<|Nt aA<|Nt (iV aY)<|Nt (fS N_)<|Nt (xA Z mL U_ Z Z Z Z Z jC (.inl Z))<|Nf C6<|Cq sQ<|bG<|Kr ?_;exact⟨Z,⟨_,Z,by rfl⟩,Z,Z,Z⟩
    refine aM a7<|Cq (bC eI)<|Cq (bQ aG)<|Cq aA<|Cq (iV aY)<|Cq (fS N_)<|Cq (kc gC (lN s _ (G s (m7 E))))<|Cq iH<|Cq aA<|Nf (bC eJ)<|Nf (bQ M_)<|Nf cF<|Nf aA<|Nt aA<|Nt iX<|Nf C6<|Nf aA<|Nt (bC eI)<|Nt (bQ aG)<|Nt aA<|Nt (dT Z Z Z (lT X X))<|Nt (bP Z aY Z Z (I_ B) (show ((k:Int) - 1).toNat=k - 1 by omega) (D (I_ B)) Z)<|Nt (eF Z N_ Z (D (I_ B)) Z)<|Nt (bC eI)<|Nt (bQ aG)<|Nt aA<|Nt (iV aY)<|Nt (fS N_)<|Nt wU<|Nf C6<|Cq sQ<|Cq aA<|Of<|Of<|Of<|Of<|Ou<|Ou<|Ou<|Ou<|Ou<|Ou<|Ou<|Of<|Cq C6<|bG<|Kr ?_;exact⟨Z,⟨_,Z,by rfl⟩,Z,Z,Z⟩
   refine aM a7<|Cq (bC eI)<|Cq (bQ aG)<|Cq aA<|Cq (iV aY)<|Cq (fS N_)<|Cq (kc gC (lN s _ (G s (m7 E))))<|Cq iH<|Cq aA<|Of<|Of<|Of<|Of<|Ou<|Ou<|Of<|Of<|Ou<|Ou<|Ou<|Ou<|Ou<|Ou<|Ou<|Ou<|Ou<|Ou<|Ou<|Ou<|Of<|Cq C6<|Cq aA<|Of<|Of<|Of<|Of<|Ou<|Ou<|Ou<|Ou<|Ou<|Ou<|Ou<|Of<|Cq cD<|bG<|Kr ?_;exact⟨Z,⟨_,Z,by rfl⟩,Z,Z,Z⟩
  refine Cn ?_ ?_<;>intro F
  .rw[I,<-i]at F;refine Sz aH<|aC<|Rt ?_;exact⟨by rw[uQ hlt F];rfl,Z⟩
  rw[I,<-i]at F;refine aB<|Rd aA<|Y (bC eI)<|Y (bQ aG)<|Y aA<|Y (iV aY)<|Y (fS N_)<|Uu (by exact WN (.inl Z) mL U_ Z Z Z Z Z Z Z)<|Zz<|Rd aA<|Y iD<|Da ?_;refine⟨k+1,⟨X,λj w=>?_⟩,X,?_⟩
  .by_cases e:j=k
   .subst e;exact F
   exact hno j X
  rw[d];exact L_
 have b:k=C o.refs:=J_ K
 subst b;rw[BT hno,Bool.not_false,Bool.true_and,aCP,<-c];refine aP<|S<|U (bC eJ)<|V (bQ M_)<|aE<|U cF<|Da<|Cn ?_ ?_<;>intro L
 .rw[b6 (b9 L)];exact U aA<|Y cF<|V aH<|aC<|Rt<|Qq
 rw[a8 (b_ L)];refine U cF<|Da<|Cn ?_ ?_<;>intro P
 .rw[b6 (b9 P)];exact U aA<|Y AF<|V aH<|aC<|Rt<|Qq
 rw[a8 (b_ P)];refine U cF<|Da<|Cn ?_ ?_<;>intro Q
 .rw[b6 (b9 Q)];exact U aA<|Y AF<|V aH<|aC<|Rt<|Qq
 rw[a8 (b_ Q)];refine U cF<|Da<|Cn ?_ ?_<;>intro R
 .rw[b6 (b9 R)];exact U aA<|Y AF<|V aH<|aC<|Rt<|Qq
 rw[a8 (b_ R)];exact aB<|U aA<|Y cF<|V aH<|aC<|Rt<|Qq
def atO(o:l8):Bool:=if o.kind=1 then cn o.x o.y else(θ (o.x=0)&&θ (o.y=0))
theorem Vo(o):((((cJ o.id&&!θ (eN o.kind=a6))&&atO o)&&tR o.tags)&&SL o)=oV o:=by
 cases f:θ (eN _=a6)with
 |true=>simp[oV,OX,wM,f]
 |false =>
  have D:=BI f;have B:¬ o.kind=0:=λe=>by rw[e]at f;simp[eN]at f
  simp only[oV,OX,wM,f,SL,atO,T6,aCP,FQ];generalize cJ o.id=a;generalize tR o.tags=b;generalize (List.range _).any _=w;generalize cn o.x o.y=c;generalize (θ (o.x=0)&&θ (o.y=0))=d;generalize o.kind=k at *;rcases(by omega:k=1\/k=2\/k=3\/k=4\/k=5)with rfl|rfl|rfl|rfl|rfl<;>cases a<;>cases b<;>cases w<;>cases c<;>cases d<;>rw[Bool.eq_iff_iff]<;>simp<;>omega
theorem z6{p:Prop}(h:p:=by exact aW Z eL sizeOf104 Z Z Z Z (by simp only[Zl,bU,bS,S_];rfl) Z):p:=h
theorem i7{p:Prop}(h:p:=by simp only[Zl,bU,bS,S_];rfl):p:=h
theorem Ld(o:l8)(H:aF)(f:nh o):RC 261 [av (bS o)] (bv (oV o)) H:=by
 refine Pu ?_;rw[<-Vo];refine Bd func261 Z ntmps261<|U (kb 1)<|V aH<|U (bC mY)<|Y z6<|Y (kc call170 (Lc o.x o.y _))<|V aH<|S<|U (bC eJ)<|Y (bQ M_)<|V xI ?_;refine Cn ?_ ?_<;>intro g
 .have i:atO o=(θ (o.x=0)&&θ (o.y=0)):=by
   have h:(!θ (o.kind=1))=T:=g;rw[atO,a8 F_]
  refine Rd (bC mY)<|Y z6<|Y (oD MC)<|Y (BY Z Z Z Z Z mU (SD _ _ _ _))<|V aH<|S ?_;refine aT (t:=2) (n:=26) (A_:=(((cJ o.id&&!θ (eN o.kind=a6))&&atO o)&&tR o.tags)&&SL o) ?_ ?_
  .all_goals refine Y (bC rD)<|Y (bQ N_)<|Y (kc gC (lN o.id _ f.1))<|Dm ?_<;>(refine Sp 17 (λd=>?_) λd=>?_)<;>(first|exact s_|refine M<|M<|M<|M ?_|refine O (bC eJ)<|O (bQ M_)<|O (kc call214 (GO o.kind _))<|O E4 ?_)<;>refine Y cD<|Dm ?_<;>(refine Sp 23 (λb=>?_) λb=>?_)<;>(first|exact s_|refine M ?_|refine O aA ?_)<;>refine Y cD<|Dm ?_<;>(refine Sp 26 (λe=>?_) λe=>?_)<;>(first|exact s_|refine M<|M<|M ?_|refine O (bC gF)<|O (bQ dP)<|O (kc call296 (xc o.tags _ f.2.1)) ?_)<;>refine Y cD<|Dm ?_<;>(refine Sp 31 (λc=>?_) λc=>?_)<;>(first|exact s_|refine M<|M ?_|refine O (by exact aW Z cB sizeOf135 Z Z Z Z i7 Z)<|O (kc call297 (xd o _ f)) ?_)<;>refine Y cD<|Da ?_<;>exact Gj (h:=by simp_all)
  exact aC<|Rt<|Qq
 have i:atO o=cn o.x o.y:=by
  have h:(!θ (o.kind=1))=η:=g;rw[atO,b6 F_]
 refine aB<|S<|aT (t:=2) (n:=26) (A_:=(((cJ o.id&&!θ (eN o.kind=a6))&&atO o)&&tR o.tags)&&SL o) ?_ ?_
 .all_goals refine Y (bC rD)<|Y (bQ N_)<|Y (kc gC (lN o.id _ f.1))<|Dm ?_<;>(refine Sp 17 (λd=>?_) λd=>?_)<;>(first|exact s_|refine M<|M<|M<|M ?_|refine O (bC eJ)<|O (bQ M_)<|O (kc call214 (GO o.kind _))<|O E4 ?_)<;>refine Y cD<|Dm ?_<;>(refine Sp 23 (λb=>?_) λb=>?_)<;>(first|exact s_|refine M ?_|refine O aA ?_)<;>refine Y cD<|Dm ?_<;>(refine Sp 26 (λe=>?_) λe=>?_)<;>(first|exact s_|refine M<|M<|M ?_|refine O (bC gF)<|O (bQ dP)<|O (kc call296 (xc o.tags _ f.2.1)) ?_)<;>refine Y cD<|Dm ?_<;>(refine Sp 31 (λc=>?_) λc=>?_)<;>(first|exact s_|refine M<|M ?_|refine O (by exact aW Z cB sizeOf135 Z Z Z Z i7 Z)<|O (kc call297 (xd o _ f)) ?_)<;>refine Y cD<|Da ?_<;>exact Gj (h:=by simp_all)
 exact aC<|Rt<|Qq
def ct{α:Type}(e:α->α->Bool)(a b:List α):Bool:=θ (C a=C b)&&(List.range (C a)).all λk=>match a[k]?,b[k]? with|some x,A y=>e x y|_,_=>T
theorem lk{e}(B:∀x y,e x y=T↔x=y){a b:List α}:ct e a b=T↔a=b:=by
 constructor
 .intro h;simp[ct,l6,k_,all_eq_true,mem_range]at h;apply ext_getElem h.1
  grind
 simp[ct,l6,k_,all_eq_true,mem_range,true_and]
 simp_all
theorem ll{e}{a b}{k:Nat}{x y:α}(B:a[k]?=A x)(D:b[k]?=A y)(h:e x y=η):ct e a b=η:=by
 rw[ct]
 grind
theorem YR{e}{a b:List α}(B:C a=C b)(h:∀k,k<C a->∀x y,a[k]?=A x->b[k]?=A y->e x y=T):ct e a b=T:=by
 simp[ct,l6,k_,all_eq_true,mem_range]
 simp_all
def OJ(a b:B_):Bool:=θ (a=b)
theorem Bj(a b):OJ a b=T↔a=b:=by simp[OJ]
def JC(a b:l8):Bool:=θ (a.id=b.id)&&θ (a.kind=b.kind)&&(θ (a.x=b.x)&&θ (a.y=b.y))&&θ (C a.refs=C b.refs)&&θ (C a.tags=C b.tags)
def NW(a b:l8):Bool:=JC a b&&(ct OJ a.refs b.refs&&ct wT a.tags b.tags)
theorem tb{a b}:NW a b=T↔a=b:=by
 rw[NW,l6,l6,lk Bj,lk WZ];cases a;cases b;simp[JC,l6,k_,l8.mk.injEq]
 grind
def T0(a b:l8)(B D E F:Int):Bool:=!θ (a.id=b.id)||!θ (a.kind=b.kind)||!(θ (a.x=b.x)&&θ (a.y=b.y))||!θ (B=D)||!θ (E=F)
theorem YF(a b):T0 a b (C (a.refs.map S_)) (C (b.refs.map S_)) (C (a.tags.map bU)) (C (b.tags.map bU))=!JC a b:=by simp[T0,JC,g_,Bool.not_and,Int.natCast_inj]
theorem Kk(a b:l8)(H:aF)(e:C a.refs<2^62)(W:C a.tags<2^62):RC 265 [av (bS a),av (bS b)] (bv (NW a b)) H:=by
 refine Pu ?_;have c:C (a.refs.map S_)=C a.refs:=g_ _;have d:C (a.tags.map bU)=C a.tags:=g_ _;refine Bd func265 Z ntmps265<|U (kb 2)<|Y (kb 3)<|V aH<|S<|S<|aT (t:=43) (n:=41) (A_:=T0 a b (C (a.refs.map S_):Int) (C (b.refs.map S_):Int) (C (a.tags.map bU):Int) (C (b.tags.map bU):Int)) ?_ ?_
 .all_goals refine Y (bC rD)<|Y (bQ N_)<|Y (bC rD)<|Y (bQ N_)<|Y E4<|Dm ?_<;>(refine Sp 12 (λE=>?_) λE=>?_)<;>(first|exact s_|refine M<|M<|M<|M<|M ?_|refine O (bC eJ)<|O (bQ M_)<|O (bC eJ)<|O (bQ M_)<|O xI ?_)<;>refine Y cD<|Dm ?_<;>(refine Sp 19 (λg=>?_) λg=>?_)<;>(first|exact s_|refine M<|M<|M<|M<|M ?_|refine O (bC mY)<|O z6<|O (bC mY)<|O z6<|O (K7 Z Z Z Z Z mU (SD _ _ _ _)) ?_)<;>refine Y cD<|Dm ?_<;>(refine Sp 26 (λz=>?_) λz=>?_)<;>(first|exact s_|refine M<|M<|M<|M<|M<|M<|M ?_|refine O (bC eI)<|O (bQ aG)<|O (fM aD)<|O (bC eI)<|O (bQ aG)<|O (fM aD)<|O xI ?_)<;>refine Y cD<|Dm ?_<;>(refine Sp 35 (λw=>?_) λw=>?_)<;>(first|exact s_|refine M<|M<|M<|M<|M<|M<|M ?_|refine O (bC gF)<|O (bQ dP)<|O (fM dU)<|O (bC gF)<|O (bQ dP)<|O (fM dU)<|O xI ?_)<;>refine V cD ?_<;>exact Gj (h:=by first|(simp only[T0, *];rfl)|(simp_all[T0];done))
 refine Cn ?_ ?_<;>intro q
 .rw[YF]at q;refine Sz aH<|aC<|Rt ?_;refine⟨?_,Z⟩;have:JC a b=η:=F_
  rw[NW,this];rfl
 rw[YF]at q;have F:JC a b=T:=F_
 have J:C a.refs=C b.refs/\C a.tags=C b.tags:=by
  simp only[JC,l6,k_]at F;omega
 have ⟨B,D⟩:=J;rw[NW,F,Bool.true_and];refine aB<|S<|Sz aH<|aE<|bF (σ:=Nat) (λk=>([(2,.ref 2 0 0 0),(3,.ref 3 0 0 0),(5,iv (k:Int))],[(3,bx 6 135 ((bS b).map .pv)),(2,bx 6 135 ((bS a).map .pv))])) (λk=>k<=C a.refs/\∀j,j<k->∀x y,a.refs[j]?=A x->b.refs[j]?=A y->OJ x y=T) (λk=>C a.refs - k) 0 ⟨X,X⟩ ?_ ?_
 .exact Wk
 rintro k ⟨I,s⟩;refine S<|U aA<|Y (bC eI)<|Y (bQ aG)<|Y (fM aD)<|V cI<|Cn ?_ ?_<;>intro v
 .have hlt:k<C a.refs:=I_ v
  have ⟨x,n⟩:=aR hlt;have ⟨y,p⟩:=aR (l:=b.refs) (k:=k) X;have r4:=cC (f:=S_) n;have Q:=cC (f:=S_) p;refine aB<|S<|aE<|S<|aM a7<|Cq (bC eI)<|Cq (bQ aG)<|Cq aA<|Cq (iV aY)<|Cq (fS N_)<|Cq (bC eI)<|Cq (bQ aG)<|Cq aA<|Cq (iV aY)<|Cq (fS N_)<|Cq E4<|bG<|Kr<|Cn ?_ ?_<;>intro t
  .have u:OJ x y=η:=by
    have h:(!OJ x y)=T:=t
    simpa using h
   refine Sz aH<|aC<|Rt ?_;exact⟨by rw[ll n p u];rfl,Z⟩
  have u:OJ x y=T:=by
   have h:(!OJ x y)=η:=t
   simpa using h
  refine aB<|Rd aA<|Y iD<|Da ?_;refine⟨k+1,⟨X,λj K G L R P=>?_⟩,X,Wk⟩
  grind
 have E:k=C a.refs:=J_ v
 subst E;rw[YR B s,Bool.true_and];refine aP<|S<|Sz aH<|aE<|bF (σ:=Nat) (λk=>([(2,.ref 2 0 0 0),(3,.ref 3 0 0 0),(6,iv (k:Int))],[(3,bx 6 135 ((bS b).map .pv)),(2,bx 6 135 ((bS a).map .pv))])) (λk=>k<=C a.tags/\∀j,j<k->∀x y,a.tags[j]?=A x->b.tags[j]?=A y->wT x y=T) (λk=>C a.tags - k) 0 ⟨X,X⟩ ?_ ?_
 .exact Wk
 rintro k ⟨I,hall2⟩;refine S<|U aA<|Y (bC gF)<|Y (bQ dP)<|Y (fM dU)<|V cI<|Cn ?_ ?_<;>intro m
 .have hlt:k<C a.tags:=I_ m
  have ⟨x,n⟩:=aR hlt;have ⟨y,p⟩:=aR (l:=b.tags) (k:=k) X;have r4:=cC (f:=bU) n;have Q:=cC (f:=bU) p;refine aB<|S<|aE<|S<|aM a7<|Cq (bC gF)<|Cq (bQ dP)<|Cq aA<|Cq (iV lU)<|Cq (by exact fF Z xS mA Z X i7 Z)<|Cq (bC gF)<|Cq (bQ dP)<|Cq aA<|Cq (iV lU)<|Cq (by exact fF Z xS mA Z X i7 Z)<|Cq (K7 Z Z Z Z Z eqGuardType270 (aAO _ _ _ _))<|bG<|Kr ?_;refine Cn ?_ ?_<;>intro o
  .have u:wT x y=η:=by
    have h:(!wT x y)=T:=o
    simpa using h
   refine Sz aH<|aC<|Rt ?_;exact⟨by rw[ll n p u],Z⟩
  have u:wT x y=T:=by
   have h:(!wT x y)=η:=o
   simpa using h
  refine aB<|Rd aA<|Y iD<|Da ?_;refine⟨k+1,⟨X,λj K G L R P=>?_⟩,X,Wk⟩
  grind
 have E:k=C a.tags:=J_ m
 subst E;refine aP<|Sz aH<|aC<|Rt ?_;exact⟨by rw[YR D hall2],Z⟩
theorem Ej(a b):NW a b=yT a b:=by rw[Bool.eq_iff_iff,tb,JD]
theorem Vl(a b)(H)(d:C a.refs<2^62)(c:C a.tags<2^62):RC 265 [av (bS a),av (bS b)] (bv (yT a b)) H:=by rw[<-Ej];exact Kk a b H d c
def raw(e:b8)(s:B_):Prop:=s=e.id\/s=e.other\/s=e.node\/s=e.obj.id\/s∈e.refs\/s∈e.obj.refs
def rb(b:b8):Bool:=((((((!θ (b.id=a6)||!θ (b.other=a6))||!θ (b.node=a6))||!(θ (b.x=0)&&θ (b.y=0)))||!θ (b.key=a6))||!θ (b.val=a6))||θ ((0:Int)<(C (b.refs.map S_):Int)))||!yT b.obj j7
theorem IR(b):rb b=η↔(b.id=a6/\b.other=a6/\b.node=a6/\(b.x=0/\b.y=0)/\b.key=a6/\b.val=a6/\b.refs=[]/\b.obj=j7):=by
 have a:θ (0<(C (b.refs.map S_)))=η↔b.refs=[]:=H_
 simp[rb,q_,Bool.not_eq_false',l6,k_,a,JD];constructor;all_goals simp_all
theorem wL(x y):ra x y=cn x y:=by rw[Bool.eq_iff_iff];simp[ra,cn,l6,k_];omega
theorem FH:(N a6:Int)<=200:=E_
def Qx(e:b8):b8:=⟨e.op,e.id,e.other,e.node,e.x,e.y,e.key,e.val,e.refs,j7⟩
theorem ed1(e)(B:e.op=1):gK e=(!rb (Qx e)&&oV e.obj):=by
 have ⟨op,id,a,b,x,y,g,f,c,d⟩:=e;have h:=IR (Qx ⟨1,id,a,b,x,y,g,f,c,d⟩);rw[Bool.eq_iff_iff];simp[Qx]at h |-;simp[gK,l6,r9,h,pU,wL,xH,GB]
 grind
def Qw(e:b8):b8:=⟨e.op,a6,e.other,e.node,0,0,e.key,e.val,e.refs,e.obj⟩
theorem ed2(e)(B:e.op=2):gK e=(!rb (Qw e)&&([e.id].all cJ&&(θ ((N e.val:Int)<=200)&&cn e.x e.y))):=by
 have ⟨op,id,a,b,x,y,g,f,c,d⟩:=e;have i:=IR (Qw ⟨2,id,a,b,x,y,g,f,c,d⟩);rw[Bool.eq_iff_iff];simp[Qw]at i |-;simp[gK,l6,r9,i,pU,wL,xH,GB];simp only[Int.reduceEq,if_true,if_false,reduceIte,Int.reduceLE,decide_true,b8.mk.injEq,true_and,and_true,all_cons,List.all_nil,Bool.and_true,l6,wL,k_,r9,q_,q7,g_,eq_comm,eq_comm,eq_comm,eq_comm];constructor
 .intro h;have D:=FH
  simp_all
 simp_all
def Qv(e:b8):b8:=⟨e.op,a6,e.other,e.node,e.x,e.y,a6,a6,e.refs,e.obj⟩
theorem ed3(e)(B:e.op=3):gK e=(!rb (Qv e)&&([e.id,e.key].all cJ&&θ ((N e.val:Int)<=200))):=by
 have ⟨op,id,a,b,x,y,g,f,c,d⟩:=e;have h:=IR (Qv ⟨3,id,a,b,x,y,g,f,c,d⟩);rw[Bool.eq_iff_iff];simp[Qv]at h |-;simp[gK,l6,r9,h,pU,wL,xH,GB]
 grind
def Qu(e:b8):b8:=⟨e.op,a6,e.other,e.node,e.x,e.y,e.key,e.val,[],e.obj⟩
theorem ed4(e)(B:e.op=4):gK e=(!rb (Qu e)&&((e.id::e.refs).all cJ&&(!(θ ((C (e.refs.map S_):Int)<1)||θ (2000<(C (e.refs.map S_):Int)))&&θ ((N e.val:Int)<=200)))):=by
 have ⟨op,id,b,c,x,y,i,f,d,g⟩:=e;have j:=IR (Qu ⟨4,id,b,c,x,y,i,f,d,g⟩);rw[Bool.eq_iff_iff];simp[Qu]at j |-;simp[gK,l6,r9,j,pU,wL,xH,GB];simp only[Int.reduceEq,if_true,if_false,reduceIte,Int.reduceLE,decide_true,b8.mk.injEq,true_and,and_true,all_cons,List.all_nil,Bool.and_true,l6,wL,k_,r9,q_,q7,g_,eq_comm,eq_comm,eq_comm,eq_comm];constructor
 .intro h;have D:=FH
  simp_all
  omega
 grind
def Qt(e:b8):b8:=⟨e.op,a6,e.other,e.node,e.x,e.y,e.key,e.val,e.refs,e.obj⟩
theorem ed5(e)(i:e.op=5):gK e=(!rb (Qt e)&&([e.id].all cJ&&θ ((N e.val:Int)<=200))):=by
 have ⟨op,id,a,b,x,y,g,f,c,d⟩:=e;subst i;have h:=IR (Qt ⟨5,id,a,b,x,y,g,f,c,d⟩);rw[Bool.eq_iff_iff];simp[Qt]at h |-;simp[gK,l6,r9,h,pU,wL,xH,GB];simp only[Int.reduceEq,if_true,if_false,reduceIte,Int.reduceLE,decide_true,b8.mk.injEq,true_and,and_true,all_cons,List.all_nil,Bool.and_true,l6,wL,k_,r9,q_,q7,g_,eq_comm,eq_comm,eq_comm,eq_comm];constructor
 .have hs:=FH
  simp_all
 simp_all
def Qs(e:b8):b8:=⟨e.op,a6,a6,a6,e.x,e.y,e.key,e.val,e.refs,e.obj⟩
theorem ed6(e)(i:e.op=6):gK e=(!rb (Qs e)&&([e.id,e.node,e.other].all cJ&&θ ((N e.val:Int)<=200))):=by
 have ⟨op,id,a,b,x,y,g,f,c,d⟩:=e;subst i;have h:=IR (Qs ⟨6,id,a,b,x,y,g,f,c,d⟩);rw[Bool.eq_iff_iff];simp[Qs]at h |-;simp[gK,l6,r9,h,pU,wL,xH,GB];simp only[Int.reduceEq,if_true,if_false,reduceIte,Int.reduceLE,decide_true,b8.mk.injEq,true_and,and_true,all_cons,List.all_nil,Bool.and_true,l6,wL,k_,r9,q_,q7,g_,eq_comm,eq_comm,eq_comm,eq_comm];constructor
 .have hs:=FH
  simp_all
 simp_all
def Qr(e:b8):b8:=⟨e.op,a6,a6,e.node,e.x,e.y,e.key,e.val,e.refs,e.obj⟩
theorem ed7(e)(i:e.op=7):gK e=(!rb (Qr e)&&([e.id,e.other].all cJ&&θ ((N e.val:Int)<=200))):=by
 have ⟨op,id,a,b,x,y,g,f,c,d⟩:=e;subst i;have h:=IR (Qr ⟨7,id,a,b,x,y,g,f,c,d⟩);rw[Bool.eq_iff_iff];simp[Qr]at h |-;simp[gK,l6,r9,h,pU,wL,xH,GB];simp only[Int.reduceEq,if_true,if_false,reduceIte,Int.reduceLE,decide_true,b8.mk.injEq,true_and,and_true,all_cons,List.all_nil,Bool.and_true,l6,wL,k_,r9,q_,q7,g_,eq_comm,eq_comm,eq_comm,eq_comm];constructor
 .have hs:=FH
  simp_all
 simp_all
abbrev fL(l:List B_):List (List AV):=l.map (λs=>(S_ s).map .pv)
theorem zT(l m):fL l++(m.map S_).map (·.map .pv)=fL (l++m):=H_
theorem xC(H)(l):∀r∈fL l,∀a∈r,Clo H a:=cy _ _ _
instance(H)(l):W_ (H) (fL l):=⟨xC H l⟩
theorem J5(l:List _):∀r∈l.map S_,C r=1:=λr a=>by
 obtain ⟨o,_,rfl⟩:=mem_map.1 a;rfl
def bI(e:b8):B_:=if e.op=1 then e.id else a6
def bB(e:b8):l8:=if e.op=1 then j7 else e.obj
def bX(e:b8):Int:=if e.op=2 then 0 else e.x
def bY(e:b8):Int:=if e.op=2 then 0 else e.y
def bK(e:b8):B_:=if e.op=3 then a6 else e.key
def bV(e:b8):B_:=if e.op=3 then a6 else e.val
def bR(e:b8):List B_:=if e.op=4 then[]else e.refs
def bN(e:b8):B_:=if e.op=6 then a6 else e.node
def bO(e:b8):B_:=if(θ (e.op=6)||θ (e.op=7))=T then a6 else e.other
def wZ(e:b8):b8:=⟨e.op,bI e,bO e,bN e,bX e,bY e,bK e,bV e,bR e,bB e⟩
abbrev bE(e:b8):Ob:=bx 15 137 ((bL e).map .pv)
def eNo:b8:=⟨0,a6,a6,a6,0,0,a6,a6,[],j7⟩
theorem aCb(e:b8)(H:aF):RC 264 [av (bL e)] (av (bL (wZ e))) H:=by
 refine Pu ?_;rw[wZ];have ⟨i,z⟩:∃x,x=bI e:=X_;have ⟨b,t⟩:∃x,x=bB e:=X_;have ⟨x,p⟩:∃x,x=bX e:=X_;have ⟨y,s⟩:∃x,x=bY e:=X_;have ⟨k,D⟩:∃x,x=bK e:=X_;have ⟨v,w⟩:∃x,x=bV e:=X_;have ⟨r,q⟩:∃x,x=bR e:=X_;have ⟨n,u⟩:∃x,x=bN e:=X_;have ⟨o,B⟩:∃x,x=bO e:=X_;rw[<-z,<-t,<-p,<-s,<-D,<-w,<-q,<-u,<-B];refine Bd func264 Z ntmps264<|U (kb 1)<|V (kl 2 WL)<|eR (λ(_:Unit)=>([(1,.ref 1 0 0 0),(2,.ref 2 0 0 0)],[(1,bE ⟨e.op,i,e.other,e.node,e.x,e.y,e.key,e.val,e.refs,b⟩),(2,bE eNo)])) (λ_=>True) ?_ ?_
 .refine U (bC iU)<|Y (bQ M_)<|V cF<|Cn ?_ ?_<;>intro j
  .have h:=b9 j
   (rw[z,t,bI,bB,b6 h,b6 h])
   refine Rd (oD F6)<|Y (bC vO)<|Uu (by exact qZ Z sizeOf135 Z Z Z Z Z Z Z (r_ Z) Z Z)<|Zz ?_;exact⟨(),T_,Wk⟩
  have h:=b_ j
  (rw[z,t,bI,bB,a8 h,a8 h])
  refine Rd (bC kB)<|Uu (ku V_)<|Zz ?_;exact⟨(),T_,Wk⟩
 rintro _ -;refine eR (λ(_:Unit)=>([(1,.ref 1 0 0 0),(2,.ref 2 0 0 0)],[(1,bE ⟨e.op,i,e.other,e.node,x,y,e.key,e.val,e.refs,b⟩),(2,bE eNo)])) (λ_=>True) ?_ ?_
 .refine U (bC iU)<|Y (bQ M_)<|V cF<|Cn ?_ ?_<;>intro l
  .have h:=b9 l
   (rw[p,s,bX,bY,b6 h,b6 h])
   refine Rd (oD MC)<|Y (bC jP)<|Uu (by exact qZ Z sizeOf104 Z Z Z Z Z Z Z (r_ Z) Z Z)<|Zz ?_;exact⟨(),T_,Wk⟩
  have h:=b_ l
  (rw[p,s,bX,bY,a8 h,a8 h])
  refine aB ?_;exact⟨(),T_,Wk⟩
 rintro _ -;refine eR (λ(_:Unit)=>([(1,.ref 1 0 0 0),(2,.ref 2 0 0 0)],[(1,bE ⟨e.op,i,e.other,e.node,x,y,k,v,e.refs,b⟩),(2,bE eNo)])) (λ_=>True) ?_ ?_
 .refine U (bC iU)<|Y (bQ M_)<|V cF<|Cn ?_ ?_<;>intro f
  .have h:=b9 f
   (rw[D,w,bK,bV,b6 h,b6 h])
   refine U (bC oA)<|Uu (ku V_)<|Zz<|Rd (bC pC)<|Uu (ku V_)<|Zz ?_;exact⟨(),T_,Wk⟩
  have h:=b_ f
  (rw[D,w,bK,bV,a8 h,a8 h])
  refine aB ?_;exact⟨(),T_,Wk⟩
 rintro _ -;refine eR (λ(_:Unit)=>([(1,.ref 1 0 0 0),(2,.ref 2 0 0 0)],[(1,bE ⟨e.op,i,e.other,e.node,x,y,k,v,r,b⟩),(2,bE eNo)])) (λ_=>True) ?_ ?_
 .refine U (bC iU)<|Y (bQ M_)<|V cF<|Cn ?_ ?_<;>intro c
  .have h:=b9 c
   (rw[q,bR,b6 h])
   refine Rd (bC iT)<|Uu (ku sizeOf22)<|Zz ?_;exact⟨(),T_,Wk⟩
  have h:=b_ c
  (rw[q,bR,a8 h])
  refine aB ?_;exact⟨(),T_,Wk⟩
 rintro _ -;refine eR (λ(_:Unit)=>([(1,.ref 1 0 0 0),(2,.ref 2 0 0 0)],[(1,bE ⟨e.op,i,e.other,n,x,y,k,v,r,b⟩),(2,bE eNo)])) (λ_=>True) ?_ ?_
 .refine U (bC iU)<|Y (bQ M_)<|V cF<|Cn ?_ ?_<;>intro d
  .have h:=b9 d
   (rw[u,bN,b6 h])
   refine Rd (bC rC)<|Uu (ku V_)<|Zz ?_;exact⟨(),T_,Wk⟩
  have h:=b_ d
  (rw[u,bN,a8 h])
  refine aB ?_;exact⟨(),T_,Wk⟩
 rintro _ -;refine eR (λ(_:Unit)=>([(1,.ref 1 0 0 0),(2,.ref 2 0 0 0)],[(1,bE ⟨e.op,i,o,n,x,y,k,v,r,b⟩),(2,bE eNo)])) (λ_=>True) ?_ ?_
 .refine S<|aT (t:=34) (n:=9) (A_:=θ (e.op=6)||θ (e.op=7)) ?_ ?_
  .all_goals refine Y (bC iU)<|Y (bQ M_)<|Y cF<|Dm ?_<;>(refine Sp 30 (λm=>?_) λm=>?_)<;>(first|exact s_|refine M<|M<|M ?_|refine O (bC iU)<|O (bQ M_)<|O cF ?_)<;>refine V cD ?_<;>exact Gj (h:=by simp_all)
  refine Cn ?_ ?_<;>intro g
  .have h:=g;rw[B,bO,b6 h];refine Rd (bC kV)<|Uu (ku V_)<|Zz ?_;exact⟨(),T_,Wk⟩
  have h:=g;rw[B,bO,a8 (by simp_all)];refine aB ?_;exact⟨(),T_,Wk⟩
 rintro _ -;refine U (wY cY bD)<|Uu (jG bD)<|Zz<|aC<|cT (H':=[]) (.inr Z) Z (C1 cY bD) (P_ (r:=av (bL ⟨e.op,i,o,n,x,y,k,v,r,b⟩))) Qq
def X2(e:b8):List B_:=if e.op=3 then[e.id]++[e.key]else[e.id]
def bl(e:b8):List B_:=if e.op=4 then X2 e++e.refs else X2 e
def eb(e:b8):List B_:=if e.op=6 then bl e++[e.node]else bl e
def Xc(e:b8):List B_:=if(θ (e.op=6)||θ (e.op=7))=T then eb e++[e.other]else eb e
def aEm(e:b8):Bool:=θ ((C (e.refs.map S_):Int)<1)||θ (2000<(C (e.refs.map S_):Int))
def vG(e:b8):Bool:=!rb (wZ e)&&(if e.op=1 then oV e.obj else(Xc e).all cJ&&(!(θ (e.op=4)&&aEm e)&&(θ ((N e.val:Int)<=200)&&(!θ (e.op=2)||cn e.x e.y))))
theorem aDR(e)(h:1<=e.op/\e.op<=7):gK e=vG e:=by
 have ⟨a,id,other,node,x,y,key,val,refs,obj⟩:=e;simp only at h;rcases(by omega:a=1\/a=2\/a=3\/a=4\/a=5\/a=6\/a=7)with rfl|rfl|rfl|rfl|rfl|rfl|rfl
 .rw[ed1 _ rfl];rfl
 .rw[ed2 _ rfl];rfl
 .rw[ed3 _ Z,vG];show _=(_&&(_&&(T&&(_&&T))));rw[Bool.and_true];rfl
 .rw[ed4 _ Z,vG];show _=(_&&(_&&(!(T&&_)&&(_&&T))));rw[Bool.and_true];rfl
 .rw[ed5 _ Z,vG];show _=(_&&(_&&(T&&(_&&T))));rw[Bool.and_true];rfl
 .rw[ed6 _ Z,vG];show _=(_&&(_&&(T&&(_&&T))));rw[Bool.and_true];rfl
 rw[ed7 _ Z,vG];show _=(_&&(_&&(T&&(_&&T))));rw[Bool.and_true];rfl
theorem yd(e):C (Xc e)<=C e.refs+5:=by
 rw[Xc,eb,bl,X2]
 grind
theorem Xf(e):C (X2 e)<=C e.refs+5:=by rw[X2];all_goals grind
theorem Xe(e):C (bl e)<=C e.refs+5:=by
 rw[bl,X2]
 grind
theorem Xd(e):C (eb e)<=C e.refs+5:=by
 rw[eb,bl,X2]
 grind
theorem LI{P:α->Prop}{p}[Decidable p](B:∀s∈a,P s)(D:∀s∈b,P s):∀s∈(if p then a else b),P s:=G_
theorem LJ{P:α->Prop}(c:∀s∈a,P s)(d:∀s∈b,P s):∀s∈a++b,P s:=λs e=>(mem_append.1 e).elim (c s) (d s)
theorem FK{P:α->Prop}{a}(h:P a):∀s∈[a],P s:=λs B=>by
 simp_all
theorem Xb{e}(j:V4 e):∀s∈Xc e,N s<2^62:=by have ⟨⟨d,i,f,h⟩,⟨B,g⟩,D⟩:=j;have c:∀s∈X2 e,N s<2^62:=LI (LJ (FK d) (FK h)) (FK d);have b:∀s∈bl e,N s<2^62:=LI (LJ c g) c;have a:∀s∈eb e,N s<2^62:=LI (LJ b (FK f)) b;exact LI (LJ a (FK i)) a
def nm0(e:b8):List B_:=[e.id]
theorem Cl(e:b8)(H:aF)(v:V4 e)(hr:C e.refs<2^40):RC 220 [av (bL e)] (bv (gK e)) H:=by
 refine Pu ?_;have L:=Xb v;have w:=yd e;have β:C (e.refs.map S_)=C e.refs:=g_ _;have E:C (wZ e).obj.refs<2^62/\C (wZ e).obj.tags<2^62:=by
  show C (bB e).refs<_/\C (bB e).tags<_;rw[bB]
  split
  .exact⟨E_,E_⟩
  exact⟨v.2.2.2.2.1,v.2.2.2.1.1⟩
 refine Bd func220 Z ntmps220<|U (kb 1)<|V aH<|S<|S<|aT (t:=13) (n:=9) (A_:=θ (e.op<1)||θ (7<e.op)) ?_ ?_
 .all_goals refine Y (bC iU)<|Y (bQ M_)<|Y cI<|Dm ?_<;>(refine Sp 9 (λh9=>?_) λh9=>?_)<;>(first|exact s_|refine M<|M<|M ?_|refine O (bC iU)<|O (bQ M_)<|O iX ?_)<;>refine V cD ?_<;>(exact⟨⟨_,Z,G_⟩,Z,Z,Z⟩)
 refine Cn ?_ ?_<;>intro a
 .have h:=a;have I:gK e=η:=by
   simp only[Bool.or_eq_true,k_]at h;rw[gK,Bool.and_eq_false_iff,Bool.and_eq_false_iff,q7,q7];omega
  rw[I];exact Sz aH<|aC<|Rt<|Qq
 have h:=a;simp only[q_,q7]at h;rw[aDR e X,vG];have P:rb (wZ e)=(((((((!θ ((wZ e).id=a6)||!θ ((wZ e).other=a6))||!θ ((wZ e).node=a6))||!(θ ((wZ e).x=0)&&θ ((wZ e).y=0)))||!θ ((wZ e).key=a6))||!θ ((wZ e).val=a6))||θ ((0:Int)<(C ((wZ e).refs.map S_):Int)))||!yT (wZ e).obj j7):=rfl;have W:=λH=>aCb e H;have ⟨G,hG⟩:∃G,G=wZ e:=X_;simp only[<-hG]at P E W;rw[<-hG];clear hG;have ⟨g0,g1,g2,g3,g4,g5,g6,g7,g8,g9⟩:=G;simp only at P E;refine aB<|U (by exact aW Z cY bD Z Z Z Z j5 Z)<|Y (kc call264 (W _))<|Y (kl 3 WL)<|Uu (jG bD)<|Zz<|S<|S ?_;refine aT (t:=57) (n:=49) (A_:=rb ⟨g0,g1,g2,g3,g4,g5,g6,g7,g8,g9⟩) ?_ ?_
 .all_goals refine Y (bC kB)<|Y (bQ N_)<|Y E4<|Dm ?_<;>(refine Sp 19 (λh19=>?_) λh19=>?_)<;>(try exact w_)<;>(first|refine M<|M<|M ?_|refine O (bC kV)<|O (bQ N_)<|O E4 ?_)<;>refine Y cD<|Dm ?_<;>(refine Sp 24 (λh24=>?_) λh24=>?_)<;>(try exact w_)<;>(first|refine M<|M<|M ?_|refine O (bC rC)<|O (bQ N_)<|O E4 ?_)<;>refine Y cD<|Dm ?_<;>(refine Sp 29 (λh29=>?_) λh29=>?_)<;>(try exact w_)<;>(first|refine M<|M<|M<|M ?_|refine O (bC jP)<|O (by exact aW Z eL sizeOf104 Z Z Z Z j5 Z)<|O (oD MC)<|O (K7 Z Z Z Z Z mU (SD _ _ _ _)) ?_)<;>refine Y cD<|Dm ?_<;>(refine Sp 35 (λh35=>?_) λh35=>?_)<;>(try exact w_)<;>(first|refine M<|M<|M ?_|refine O (bC oA)<|O (bQ N_)<|O E4 ?_)<;>refine Y cD<|Dm ?_<;>(refine Sp 40 (λh40=>?_) λh40=>?_)<;>(try exact w_)<;>(first|refine M<|M<|M ?_|refine O (bC pC)<|O (bQ N_)<|O E4 ?_)<;>refine Y cD<|Dm ?_<;>(refine Sp 45 (λh45=>?_) λh45=>?_)<;>(try exact w_)<;>(first|refine M<|M<|M<|M ?_|refine O (bC iT)<|O (bQ aG)<|O (fM aD)<|O iX ?_)<;>refine Y cD<|Dm ?_<;>(refine Sp 51 (λh51=>?_) λh51=>?_)<;>(try exact w_)<;>(first|refine M<|M<|M<|M<|M ?_|refine O (bC vO)<|O (by exact aW Z cB sizeOf135 Z Z Z Z j5 Z)<|O (oD F6)<|O (kc call265 (Vl g9 j7 _ E.1 E.2))<|O iH ?_)<;>refine V cD ?_<;>exact Gj (h:=by simp_all)
 refine Cn ?_ ?_<;>intro c
 .have x:=c;rw[x,Bool.not_true,Bool.false_and];exact Sz aH<|aC<|Rt<|Qq
 have x:=c;rw[x,Bool.not_false,Bool.true_and];clear P E x;refine aB<|S<|U (bC iU)<|Y (bQ M_)<|V cF<|Cn ?_ ?_<;>intro d
 .have y:e.op=1:=b9 d;rw[b6 y];exact U (bC vO)<|Y (by exact aW Z cB sizeOf135 Z Z Z Z j5 Z)<|Y (kc call261 (Ld e.obj _ v.2.2))<|V aH<|aC<|Rt<|Qq
 have y:¬ e.op=1:=b_ d;rw[a8 y];refine aB<|U (bC kB)<|Y (bQ N_)<|Y (eO (id:=66) Z aY Z Z Z Z H_ Z)<|Da<|eR (λ(g:Nat)=>([(1,.ref 1 0 0 0),(4,.osl 66 g 0 (C (X2 e)))],[(1,bE e),(66,⟨g,1,9,fL (X2 e)⟩)])) (λ_=>True) ?_ ?_
 .refine U (bC iU)<|Y (bQ M_)<|V cF<|Cn ?_ ?_<;>intro i
  .have h:=b9 i;have B:X2 e=nm0 e++[e.key]:=b6 h;have K:C (nm0 e)+C ([e.key])=C (nm0 e++[e.key]):=j8.symm;have J:C (nm0 e++[e.key])<8796093022208:=by rw[<-B];have:=Xf e;omega
   rw[B];refine Rd aA<|Y (bC oA)<|Y (bQ N_)<|Y (by exact aL [S_ e.key] Z aY Z Z Z Z Z (by simp[S_]))<|Y (by exact bW (ps:=([e.key]).map S_) Z aY sW Z Z Z Z Z (show (fL (nm0 e)).length=(nm0 e).length from g_ _) Z (J5 _) (m:=([e.key]).length) (g_ _) X K (zT (nm0 e) [e.key]))<|Da ?_;exact⟨0+1,T_,(cH.wk (Ea<|Ea<|T_) (Hb<|Hc (xC _ _)<|T_) T_)⟩
  have h:=i;have B:X2 e=nm0 e:=a8 (b_ h);rw[B];refine aB ?_;exact⟨0,T_,Wk⟩
 rintro g -;refine eR (λ(g:Nat)=>([(1,.ref 1 0 0 0),(4,.osl 66 g 0 (C (bl e)))],[(1,bE e),(66,⟨g,1,9,fL (bl e)⟩)])) (λ_=>True) ?_ ?_
 .refine U (bC iU)<|Y (bQ M_)<|V cF<|Cn ?_ ?_<;>intro k
  .have h:=b9 k;have B:bl e=X2 e++e.refs:=b6 h;have K:C (X2 e)+C (e.refs)=C (X2 e++e.refs):=j8.symm;have J:C (X2 e++e.refs)<8796093022208:=by rw[<-B];have:=Xe e;omega
   rw[B];refine Rd aA<|Y (bC iT)<|Y (bQ aG)<|Y (by exact bW (ps:=(e.refs).map S_) Z aY sW Z Z Z Z Z (show (fL (X2 e)).length=(X2 e).length from g_ _) Z (J5 _) (m:=(e.refs).length) (g_ _) X K (zT (X2 e) e.refs))<|Da ?_;exact⟨g+1,T_,(cH.wk (Ea<|Ea<|T_) (Hb<|Hc (xC _ _)<|T_) T_)⟩
  have h:=k;have B:bl e=X2 e:=a8 (b_ h);rw[B];refine aB ?_;exact⟨g,T_,Wk⟩
 rintro g -;refine eR (λ(g:Nat)=>([(1,.ref 1 0 0 0),(4,.osl 66 g 0 (C (eb e)))],[(1,bE e),(66,⟨g,1,9,fL (eb e)⟩)])) (λ_=>True) ?_ ?_
 .refine U (bC iU)<|Y (bQ M_)<|V cF<|Cn ?_ ?_<;>intro l
  .have h:=b9 l;have B:eb e=bl e++[e.node]:=b6 h;have K:C (bl e)+C ([e.node])=C (bl e++[e.node]):=j8.symm;have J:C (bl e++[e.node])<8796093022208:=by rw[<-B];have:=Xd e;omega
   rw[B];refine Rd aA<|Y (bC rC)<|Y (bQ N_)<|Y (by exact aL [S_ e.node] Z aY Z Z Z Z Z (by simp[S_]))<|Y (by exact bW (ps:=([e.node]).map S_) Z aY sW Z Z Z Z Z (show (fL (bl e)).length=(bl e).length from g_ _) Z (J5 _) (m:=([e.node]).length) (g_ _) X K (zT (bl e) [e.node]))<|Da ?_;exact⟨g+1,T_,(cH.wk (Ea<|Ea<|T_) (Hb<|Hc (xC _ _)<|T_) T_)⟩
  have h:=l;have B:eb e=bl e:=a8 (b_ h);rw[B];refine aB ?_;exact⟨g,T_,Wk⟩
 rintro g -;refine eR (λ(g:Nat)=>([(1,.ref 1 0 0 0),(4,.osl 66 g 0 (C (Xc e)))],[(1,bE e),(66,⟨g,1,9,fL (Xc e)⟩)])) (λ_=>True) ?_ ?_
 .refine S<|aT (t:=97) (n:=9) (A_:=θ (e.op=6)||θ (e.op=7)) ?_ ?_
  .all_goals refine Y (bC iU)<|Y (bQ M_)<|Y cF<|Dm ?_<;>(refine Sp 93 (λδ=>?_) λδ=>?_)<;>(try exact w_)<;>(first|refine M<|M<|M ?_|refine O (bC iU)<|O (bQ M_)<|O cF ?_)<;>refine V cD ?_<;>exact Gj (h:=by(rw[δ];rfl))
  refine Cn ?_ ?_<;>intro o
  .have h:=id o;have B:Xc e=eb e++[e.other]:=b6 h;have K:C (eb e)+C ([e.other])=C (eb e++[e.other]):=j8.symm;have J:C (eb e++[e.other])<8796093022208:=by rw[<-B];have:=yd e;omega
   rw[B];refine Rd aA<|Y (bC kV)<|Y (bQ N_)<|Y (by exact aL [S_ e.other] Z aY Z Z Z Z Z (by simp[S_]))<|Y (by exact bW (ps:=([e.other]).map S_) Z aY sW Z Z Z Z Z (show (fL (eb e)).length=(eb e).length from g_ _) Z (J5 _) (m:=([e.other]).length) (g_ _) X K (zT (eb e) [e.other]))<|Da ?_;exact⟨g+1,T_,(cH.wk (Ea<|Ea<|T_) (Hb<|Hc (xC _ _)<|T_) T_)⟩
  have h:=o;have B:Xc e=eb e:=a8 (by(rw[h];decide));rw[B];refine aB ?_;exact⟨g,T_,Wk⟩
 rintro g -;have ⟨r4,hN⟩:∃r4,r4=Xc e:=X_;rw[<-hN]at L w;rw[<-hN];clear hN;have γ:C (r4.map S_)=C r4:=g_ _;refine S<|S ?_;refine fW.ent (cH.fz (id:=66) (E':=[(1,.ref 1 0 0 0),(4,.pv (aK r4))]) (H':=[(1,bE e)]) (r4.map S_) Z (Vf S_ r4)
  (by intro p hp;simp only[l9,q8,or_false]at hp;rcases hp with rfl|rfl;exact⟨_,Z,.same (.ref Z)⟩;exact⟨_,Z,.osl (by rw[r7,drop_zero,<-length_map (f:=S_),take_length])⟩) Z ⟨⟨_,Z,Z⟩,m5,T_⟩ T_) ?_
 refine Rg<|V aH<|aE<|bF (σ:=Nat) (λq=>([(1,.ref 1 0 0 0),(4,.pv (aK r4)),(5,iv (q:Int))],[(1,bE e)])) (λq=>q<=C r4/\∀j,j<q->∀b,r4[j]?=A b->(!cJ b)=η) (λq=>C r4 - q) 0 ⟨X,X⟩ ?_ ?_
 .exact Wk
 rintro q ⟨hq,hno⟩;refine S<|U aA<|Y aA<|Y (fM aD)<|V cI<|Cn ?_ ?_<;>intro r
 .have hlt:q<C r4:=I_ r
  have ⟨s,I⟩:=aR hlt;have hi:=cC (f:=S_) I;refine aB<|S<|aE<|U aA<|Y aA<|Y (iV aY)<|Y (fS N_)<|Y (kc gC (lN s _ (L s (m7 I))))<|V iH<|Cn ?_ ?_<;>intro u
  .have J:(!cJ s)=T:=u;have D:r4.all cJ=η:=by
    rw[all_eq_false];exact⟨s,m7 I,by simpa using J⟩
   rw[D];exact Sz aH<|aC<|Rt<|Qq
  have J:(!cJ s)=η:=u;refine aB<|Rd aA<|Y iD<|Da ?_;exact⟨q+1,⟨X,SX hno I J⟩,X,Wk⟩
 have τ:q=C r4:=J_ r
 subst τ;have D:r4.all cJ=T:=by
  rw[all_eq_true];intro s I;have ⟨j,hj⟩:=s8.1 I;have:=hno j (m9.1 hj).1 s hj
  simpa using this
 rw[D,Bool.true_and,aEm];clear L w hno D v;refine aP<|S<|S<|aT (t:=129) (n:=17) (A_:=θ (e.op=4)&&(θ ((C (e.refs.map S_):Int)<1)||θ (2000<(C (e.refs.map S_):Int)))) ?_ ?_
 .all_goals refine Y (bC iU)<|Y (bQ M_)<|Y cF<|Dm ?_<;>(refine Sp 118 (λQ=>?_) λQ=>?_)<;>(try exact w_)<;>(first|refine M<|M<|M<|M<|M ?_|refine O (bC iT)<|O (bQ aG)<|O (fM aD)<|O cI<|O aA ?_)<;>(first|refine Sp 123 (λρ=>?_) λρ=>?_|refine kX (t:=123) Z ?_)<;>(try exact w_)<;>(first|refine M ?_|refine Fu ?_|refine O (bC iT) ?_)<;>(first|refine M ?_|refine Fu ?_|refine O (bQ aG) ?_)<;>(first|refine M ?_|refine Fu ?_|refine O (fM aD) ?_)<;>(first|refine M ?_|refine Fu ?_|refine O iX ?_)<;>(first|refine M ?_|refine O cD ?_)<;>refine V cD ?_<;>exact Gj (h:=by first|(rw[Q];rfl)|(rw[Q,ρ];rfl))
 refine Cn ?_ ?_<;>intro F
 .have z:=F;rw[z];exact Sz aH<|aC<|Rt<|Qq
 have z:=F;rw[z,Bool.not_false,Bool.true_and];refine aB<|S<|aT (t:=2) (n:=17) (A_:=θ ((N e.val:Int)<=200)&&(!θ (e.op=2)||cn e.x e.y)) ?_ ?_
 .all_goals refine Y (bC pC)<|Y (bQ N_)<|Y (gL U_)<|Y H7<|Dm ?_<;>(refine Sp 134 (λR=>?_) λR=>?_)<;>(try exact w_)<;>(first|refine M<|M<|M<|M ?_|refine O (bC iU)<|O (bQ M_)<|O xI<|O aA ?_)<;>(first|refine Sp 138 (λκ=>?_) λκ=>?_|refine kX (t:=138) Z ?_)<;>(try exact w_)<;>(first|refine M ?_|refine Fu ?_|refine O (bC jP) ?_)<;>(first|refine M ?_|refine Fu ?_|refine O (by exact aW Z eL sizeOf104 Z Z Z Z j5 Z) ?_)<;>(first|refine M ?_|refine Fu ?_|refine O (kc call170 (Lc e.x e.y _)) ?_)<;>(first|refine M ?_|refine O cD ?_)<;>refine Y cD<|Da ?_<;>exact Gj (h:=by first|(rw[R];rfl)|(rw[R,κ];rfl))
 exact aC<|Rt<|Qq
theorem Ct(l:List b8)(H:aF)(D:C l<2^40)(s:∀e∈l,V4 e)(p:∀e∈l,C e.refs<2^40):RC 165 [.pv (kP l)] (bv (lP l)) H:=by
 refine Pu ?_;have B:C (l.map bL)=C l:=g_ _;refine Bd func165 Z ntmps165<|Sz aH<|S<|S<|aT (t:=11) (n:=9) (A_:=θ ((C (l.map bL):Int)<1)||θ (200<(C (l.map bL):Int))) ?_ ?_
 .all_goals refine Y aA<|Y (fM fD)<|Y cI<|Dm ?_<;>(refine Sp 7 (λq=>?_) λq=>?_)<;>(first|exact s_|refine M<|M<|M ?_|refine O aA<|O (fM fD)<|O iX ?_)<;>refine V cD ?_<;>(exact⟨⟨_,Z,G_⟩,Z,Z,Z⟩)
 refine Cn ?_ ?_<;>intro g
 .have o:lP l=η:=by
   simp only[Bool.or_eq_true,k_]at g;rw[lP,Bool.and_eq_false_iff,Bool.and_eq_false_iff,q7,q7];omega
  refine Sz aH<|aC<|Rt ?_
  simp_all
 have o:lP l=!(l.any (λe=>!gK e)):=by
  simp only[q_,q7]at g;rw[lP,decide_eq_true (by omega:(0:Int)<(C l:Int)),decide_eq_true (by omega:(C l:Int)<=200)];rfl
 rw[o];refine aB<|S<|Sz aH<|aE<|bF (σ:=Nat) (λk=>([(0,.pv (kP l)),(3,iv (k:Int))],[])) (λk=>k<=C l/\∀j,j<k->∀b,l[j]?=A b->(!gK b)=η) (λk=>C l - k) 0 ⟨X,X⟩ ?_ ?_
 .exact E0
 rintro k ⟨hk,f⟩;refine S<|U aA<|Y aA<|Y (fM fD)<|V cI<|Cn ?_ ?_<;>intro d
 .have i:k<C l:=I_ d
  have ⟨e,h⟩:=aR i;have hi:=cC (f:=bL) h;refine aB<|S<|aE<|U aA<|Y aA<|Y (iV fo)<|Y (by exact fF Z cY bD Z X j5 Z)<|Y (kc call220 (Cl e _ (s e (m7 h)) (p e (m7 h))))<|V iH ?_;refine Cn ?_ ?_<;>intro m
  .refine Sz aH<|aC<|Rt ?_
   grind
  refine aB<|Rd aA<|Y iD<|Da ?_;exact⟨k+1,⟨X,SX f h m⟩,X,E0⟩
 have n:k=C l:=J_ d
 subst n;refine aP<|Sz aH<|aC<|Rt ?_;exact⟨by rw[Rh f];rfl,Z⟩
def aE6(l:List B_):Prop:=l.Pairwise (λa b=>jV a b=T)
end Go.Proofs.C
section
namespace Go.Abs
theorem VZ{P}{r4}{o}{E}{H}{u4}{t}{e}{id g off len sz:Nat}{ob}{b}{rows'}(z:o.op=.call {callee:=.builtin .clear,args:=#[.tmp t],argTypes:=#[u4]})(B:fN P u4 e sz)(s:eU P e b)(f:C b=sz)
  (r:E.get t=A (.osl id g off len)) (p:H.get id=A ob) (q:ob.g=g) (i:ob.sz=sz) (h:off<=C ob.rows) (d:ob.rows.take off++(List.replicate len b++ob.rows.drop (off+len))=rows') :
  cP P r4 o E H .any ((id,⟨g,sz,ob.ty,rows'⟩)::H):=by
 intro a w I ι D y n m K Q l;have ⟨v,L,j⟩:=m t _ r;have ⟨c,F,G,J⟩:=xx n j p q;refine Di (E:=(t,.osc _ g _ _ c)::E) z B s f (dG.get_cons_same _ _ _) p q i h d a w I _ D y n (λu x k=>?_) K Q l;by_cases e:t=u
 .subst e;rw[dG.get_cons_same]at k;simp_all
 rw[dG.get_cons_other _ _ e]at k;exact m u x k
end Go.Abs
namespace Go.Proofs.C
open Go.Proofs.Tryz
open Go.Abs
def fU:List B_->List B_
 | []=>[]
 | [x]=>[x]
 |x::y::r=>if x=y then fU (y::r)else x::fU (y::r)
theorem N4:∀(l) (x y),fU (l++[x,y])=fU (l++[x])++(if x=y then[]else[y])
 | [],x,y=>by
  show (if x=y then fU [y]else x::fU [y])=[x]++_;by_cases e:x=y
  .rw[b6 e,b6 e,e];rfl
  rw[a8 e,a8 e];rfl
 | [a],x,y=>by
  show (if a=x then fU _ else a::fU _)=(if a=x then fU [x]else a::fU [x])++_;have:=N4 [] x y;rw[show fU [x,y]=fU ([]++[x,y])from Z,this]
  split<;>rfl
 |a::b::l,x,y=>by
  have:=N4 (b::l) x y;show (if a=b then fU ((b::l)++[x,y])else a::fU ((b::l)++[x,y]))=(if a=b then fU ((b::l)++[x])else a::fU ((b::l)++[x]))++_
  grind
theorem Y1{L:List B_}{k:Nat}{x y:B_}(B:1<=k)(b:L[k - 1]?=A x)(c:L[k]?=A y):fU (L.take (k+1))=fU (L.take k)++(if x=y then[]else[y]):=by
 obtain ⟨j,rfl⟩:∃j,k=j+1:=⟨k - 1,X⟩;rw[show j+1 - 1=j by omega]at b;have a:L.take (j+1)=L.take j++[x]:=by rw[take_add_one,b];rfl
 have d:L.take (j+1+1)=L.take j++[x,y]:=by rw[take_add_one,a,c,append_assoc];rfl
 rw[d,a,N4]
theorem F4:∀ {l} {x},x∈fU l↔x∈l
 | [],x=>Iff.rfl
 | [a],x=>Iff.rfl
 | a::b::l,x=>by
  show x∈(if a=b then fU _ else a::fU _)↔_;have c:=F4 (l:=b::l) (x:=x)
  split
  .next e =>
   rw[c,e];simp
  rw[l9,c,mem_cons (b:=a)]
theorem MA:∀ {l},l.Pairwise (λa b=>jV b a=η)->aE6 (fU l)
 | [],_=>.nil
 | [a],_=>List.pairwise_singleton _ _
 | a::b::l,h=>by
  have j:=(pairwise_cons.1 h).2;have i:=MA j;show aE6 (if a=b then fU _ else a::fU _)
  split
  .exact i
  next e =>
  refine pairwise_cons.2 ⟨λy m=>?_,i⟩;have d:=F4.1 m;have g:=(pairwise_cons.1 h).1 b mem_cons_self;have c:jV a b=T:=by
   cases f:jV a b with
   |true=>rfl
   |false=>exact absurd (CX f g) e
  rcases l9.1 d with rfl|d
  .exact c
  have k:=(pairwise_cons.1 j).1 y d;cases f:jV b y with
  |true=>exact GH c f
  |false=>rw[CX k f];exact c
theorem YI:∀(l),C (fU l)<=C l
 | []=>h_ _
 | [a]=>h_ _
 |a::b::l=>by
  have B:=YI (b::l);show C (if a=b then fU _ else a::fU _)<=C (b::l)+1
  grind
theorem J6{l}{i:Nat}{s}(h:l[i]?=A s):(uE l)[i]?=A ((S_ s).map .pv):=F_
theorem ru{P L:List B_}{j}{s}(h:C P<=j)(B:L[j]?=A s):(P++L.drop (C P))[j]?=A s:=G_
theorem tf{H:aF}{id}{o}(h:H.get id=A o)(j):aF.get ((id,o)::H) j=H.get j:=by
 by_cases e:j=id
 .subst e;rw[get_cons_same,h]
 exact get_cons_other _ _ e
theorem Y0(L:List B_)(g:Nat)(H:aF)(h1:H.get 901=A ⟨g,1,9,uE L⟩)(hl:C L<2^40):
  aU φ 31 [.osl 901 g 0 (C L)] H (λr H'=>r=.osl 901 g 0 (C (fU L))/\H'=(901,⟨g,1,9,uE (fU L++List.replicate (C L - C (fU L)) a6)⟩)::H):=by
 refine Bd func31 Z ntmps31 ?_;refine fW.ent (E':=[(0,.osl 901 g 0 L.length)]) (H':=(901,⟨g,1,9,uE L⟩)::H) (cH.get' ⟨⟨_,Z,Z⟩,T_⟩ (tf h1))<|Sz aH<|S<|U aA<|Y (by exact dR Z aD Z Z Z)<|V cI<|Cn ?_ ?_<;>intro E
 .have r4:C L<2:=I_ E
  have o_:fU L=L:=by
   match L,r4 with
   | [],_=>rfl
   | [a],_=>rfl
  refine U aA<|V aH<|aC<|cT (H':=(901,⟨g,1,9,uE L⟩)::H) (.inr Z) Z (aI Z) Fin.refl ⟨by rw[o_],F_⟩
 have τ:2<=C L:=J_ E
 refine aB<|S<|Sz aH<|aE<|bF (σ:=Nat) (λi=>([(0,.osl 901 g 0 (C L)),(3,iv (i:Int))],(901,⟨g,1,9,uE L⟩)::H)) (λi=>1<=i/\i<=C L/\fU (L.take i)=L.take i) (λi=>C L - i) 1 ⟨X,X,by
  have ⟨x,K⟩:=aR (l:=L) (k:=0) X;rw[take_add_one,K];rfl⟩ ?_ ?_
 .exact cH.get' ⟨⟨_,Z,Z⟩,⟨_,Z,Z⟩,T_⟩ (λj=>rfl)
 rintro i ⟨P,hi2,f⟩;refine S<|U aA<|Y aA<|Y (by exact dR Z aD Z Z Z)<|V cI<|Cn ?_ ?_<;>intro I
 .have w:i<C L:=I_ I
  have ⟨y,b⟩:=aR w;have ⟨x,K⟩:=aR (l:=L) (k:=i - 1) X;have J:=Y1 P K b;refine aB<|S<|aE<|S<|aM a7<|Cq aA<|Cq aA<|Cq (by exact dL Z aY Z Z Z Z Z X x7 w (r7 _))<|Cq (by exact aX Z N_ Z Z Z (J6 b) Z)<|Cq aA<|Cq aA<|Cq (by exact dT Z Z Z (by exact lT X X))<|Cq (by exact dL (m:=i - 1) Z aY Z Z Z Z Z X (show ((i:Int) - 1).toNat=i - 1 by omega) X (r7 _))<|Cq (by exact aX Z N_ Z Z Z (J6 K) Z)<|Cq wU<|bG<|Kr<|Cn ?_ ?_<;>intro F
  ·have n:=b9 F;rw[b6 n.symm,append_nil,f]at J;refine U aA<|Y aA<|Y (by exact kY (l:=i) (h:=L.length) Z aY Z Z Z Z Z Z X (h_ _) (r7 _) Z)<|V aH<|S<|Sz aH<|aE<|eZ (λ(k:Nat) (R:List B_)=>([(0,.osl 901 g 0 L.length),(3,iv (R.length:Int)),(4,.osl 901 g i (L.length - i)),(5,iv (k:Int))],(901,⟨g,1,9,uE (R++L.drop R.length)⟩)::H)) (λk R=>1<=k/\i+k<=L.length/\R=fU (L.take (i+k))/\R.length+1<=i+k) (λk R=>L.length - (i+k)) 1 (L.take i) ⟨X,X,J.symm,F_⟩ ?_ ?_
   .have f_:C (L.take i)=i:=F_
    rw[f_,take_append_drop];exact cH.get' ⟨⟨_,Z,Z⟩,⟨_,Z,Z⟩,⟨_,Z,Z⟩,⟨_,Z,Z⟩,T_⟩ (λj=>rfl)
   rintro k R ⟨hk1,hk2,d,hk4⟩;refine S<|U aA<|Y aA<|Y (by exact dR Z aD Z Z Z)<|V cI<|Cn ?_ ?_<;>intro c
   .have Q:i+k<C L:=I_ c
    have ⟨v,hv⟩:=aR Q;have ⟨u,o⟩:=aR (l:=L) (k:=i+k - 1) X;have l:=Y1 X o hv;have t:=J6 (ru (P:=R) X hv);have u_:=J6 (ru (P:=R) X o);refine aB<|S<|aE<|S<|aM a7<|Cq aA<|Cq aA<|Cq (by exact dL (m:=k) Z aY Z Z Z Z Z X (l_ _) X Z)<|Cq (by exact aX Z N_ Z Z Z t Z)<|Cq aA<|Cq aA<|Cq (by exact dT Z Z Z (by exact lT X X))<|Cq (by exact dL (m:=k - 1) (m2:=i+k - 1) Z aY Z Z Z Z Z X (show ((k:Int) - 1).toNat=k - 1 by omega) X X)<|Cq (by exact aX Z N_ Z Z Z u_ Z)<|Cq E4<|bG<|Kr<|Cn ?_ ?_<;>intro B
    .have u4:¬ u=v:=λe=>by
      have h:=B;rw[e]at h;simp at h
     rw[a8 u4,<-d]at l;have y_:∃z,L[C R]?=A z:=aR X;have ⟨z,hz⟩:=y_;have A_:(uE (R++L.drop (C R)))[C R]?=A ((S_ z).map .pv):=J6 (ru (P:=R) (h_ _) hz);have i_:(uE (R++L.drop (C R))).set (C R) [sv v]=uE ((R++[v])++L.drop (C (R++[v]))):=by
      have hd:L.drop (C R)=z::L.drop (C R+1):=by
       have ⟨p,q⟩:=m9.1 hz;rw[drop_eq_getElem_cons p,q]
      rw[hd,j8,length_singleton,uE,map_append,map_cons,set_append_right _ _ (by rw[g_];exact h_ _),g_,Nat.sub_self,set_cons_zero,append_assoc,uE,map_append,map_append];rfl
     refine U aA<|Y aA<|Y aA<|Y aA<|Y (by exact dL (m:=k) Z aY Z Z Z Z Z X (l_ _) X Z)<|Y (by exact aX Z N_ Z Z Z t Z)<|Y (by exact dL Z aY Z Z Z Z Z X (by exact l_ _) (by omega:R.length<L.length) (r7 _))<|Uu (by exact cM Z V_ Z Z Z Z Z A_ (by simp[S_]) Z i_)<|Zz<|Rd aA<|Y iD<|V aH<|Rd aA<|Y iD<|Da ?_;refine⟨k+1,R++[v],⟨X,X,l.symm,by rw[j8,length_singleton];omega⟩,X,?_⟩;rw[show (((R++[v]).length:Nat):Int)=(R.length:Int)+1 by rw[j8,length_singleton];rfl];exact cH.dup ⟨⟨_,Z,Z⟩,⟨_,Z,Z⟩,⟨_,Z,Z⟩,⟨_,Z,Z⟩,T_⟩
    have he:u=v:=by
     have h:=B;have h2:v=u:=by simpa using h
     exact h2.symm
    rw[b6 he,append_nil,<-d]at l;refine aB<|Rd aA<|Y iD<|Da ?_;refine⟨k+1,R,⟨X,X,l.symm,X⟩,X,?_⟩;exact cH.get' ⟨⟨_,Z,Z⟩,⟨_,Z,Z⟩,⟨_,Z,Z⟩,⟨_,Z,Z⟩,T_⟩ (λj=>rfl)
   have D:i+k=C L:=J_ c
   rw[D,take_length]at d;have s:C R<=C L:=X
   have m:C (uE (R++L.drop (C R)))=C L:=by
    rw[g_,j8,p_];omega
   have W:(uE (R++L.drop (C R))).take (C R)++(List.replicate (C L - C R) [sv a6]++(uE (R++L.drop (C R))).drop (C R+(C L - C R)))=uE (R++List.replicate (C L - C R) a6):=by
    have v_:(uE (R++L.drop (C R))).drop (C R+(C L - C R))=[]:=drop_eq_nil_of_le (by rw[m];omega);rw[v_,append_nil,uE,map_append,take_left' (g_ _),uE,map_append,map_replicate];rfl
   refine aP<|U aA<|Y aA<|Y (by exact kY (l:=R.length) (h:=L.length) Z aY Z Z Z Z Z Z s (h_ _) (r7 _) Z)<|Uu (by exact VZ Z aY Th Z Z Z Z Z (by rw[m];exact s) W)<|Zz<|U aA<|Y aA<|Y (by exact kY (l:=0) (h:=R.length) Z aY Z Z Z Z Z Z (l7 _) s (r7 _) Z)<|V aH<|aC ?_;refine cT (H':=(901,⟨g,1,9,uE (R++List.replicate (L.length - R.length) a6)⟩)::H) (.inr Z) Z (aI Z) (Fin.get' (λj=>xO _ _ _ _ j)) ⟨by rw[d];rfl,by rw[d]⟩
  have n:=b_ F;rw[a8 (λe=>n e.symm),f]at J;refine aB<|Rd aA<|Y iD<|Da ?_;refine⟨i+1,⟨X,X,?_⟩,X,cH.get' ⟨⟨_,Z,Z⟩,⟨_,Z,Z⟩,T_⟩ (λj=>rfl)⟩;rw[J,take_add_one,b];rfl
 have G:i=C L:=J_ I
 subst G;rw[take_length]at f;refine aP<|U aA<|V aH<|aC<|cT (H':=(901,⟨g,1,9,uE L⟩)::H) (.inr Z) Z (aI Z) Fin.refl ⟨by rw[f],by rw[f,Nat.sub_self,replicate_zero,append_nil]⟩
end Go.Proofs.C
end
namespace Go.Proofs.C
open Go.Proofs.Tryz
open Go.Abs
def mV(n a b:Int):Bool:=θ (a<=n)&&θ (n<=b)
def vn(r:j_):Bool:=(((((r.priv.trace.any bk||!(!([r.priv.name,r.priv.reason].any LM)))||!(!r.priv.sources.any LM))||θ (16<(C (r.priv.sources.map S_):Int)))||θ (200<(C (r.priv.trace.map kN):Int)))||!lJ r.priv.sl)||!lJ r.sl
def Oj(l:List B_):Bool:=nU l&&θ ((C (fU l):Int)=(C (l.map S_):Int))
theorem aC6(l)(a:C l<2^40){H}(B:H.get 901=ζ):aU φ 153 [.pv (aK l)] H (λr H'=>r=.osl 901 1 0 (C l)/\H'=(901,⟨1,1,9,uE l⟩)::H) :=aU.frame (Qd l [] (λ_ _ h=>by cases h) Z a) (λ_ _ h=>by cases h) (λ_ _ h=>by cases h) H_ (λid h=>.inr (by
  by_cases e:901=id
  .simp_all
  simp[aF.get,kE e]at h))
def mv(r:j_):Bool:=(((((!mV r.author 0 59||!mV r.number 1 128)||!mV r.clock 1 1000000)||!cJ r.branch)||θ (16<(C (r.parents.map S_):Int)))||!r.parents.all m6)||!Oj r.parents
def ndG(r:j_):Bool:=θ (r.kind=2)||θ (r.kind=3)
def NQ(r:j_):Bool:=if r.kind=3 then mV r.order 1 4 else if r.kind=4 then(cJ r.from'&&!θ (r.from'=r.branch))else θ (1<=r.kind/\r.kind<=5)
def dx(r:j_):B_:=if r.kind=2\/r.kind=3 then r.target else a6
def So(r:j_):Bool:=if r.kind=2 then r.yes else η
def Gx(r:j_):Int:=if r.kind=3 then r.order else 0
def Ik(r:j_):B_:=if r.kind=4 then r.from' else a6
def Ss(r:j_):Bool:=if r.kind=1 then T else if r.kind=3 then θ (r.order=3)else η
def v5G(r:j_):Bool:=((((θ (r.target=dx r)&&(r.yes == So r))&&θ (r.order=Gx r))&&θ (r.from'=Ik r))&&(θ (0<(C (r.edits.map bL):Int)) == Ss r))&&(!ndG r||m6 (dx r))
def iE(r:j_):Bool:=(((!vn r&&!mv r)&&(kJ r.edits).2)&&NQ r)&&v5G r
abbrev W5:=B_×Bool×Int×B_×Bool
def D9(r:j_):W5:=(dx r,So r,Gx r,Ik r,Ss r)
theorem aDQ{r}(h:r.kind=1):NQ r=T/\(a6,η,0,a6,T)=D9 r:=by simp[NQ,D9,dx,So,Gx,Ik,Ss,h]
theorem aDP{r}(h:r.kind=2):NQ r=T/\(r.target,r.yes,0,a6,η)=D9 r:=by simp[NQ,D9,dx,So,Gx,Ik,Ss,h]
theorem aDO{r}(h:r.kind=3)(a:mV r.order 1 4=T):NQ r=T/\(r.target,η,r.order,a6,θ (r.order=3))=D9 r:=by simp[NQ,D9,dx,So,Gx,Ik,Ss,h,a]
theorem aDN{r}(h:r.kind=4)(b:cJ r.from'=T)(a:r.from'≠r.branch):NQ r=T/\(a6,η,0,r.from',η)=D9 r:=by simp[NQ,D9,dx,So,Gx,Ik,Ss,h,b,a]
theorem aDM{r}(h:r.kind=5):NQ r=T/\(a6,η,0,a6,η)=D9 r:=by simp[NQ,D9,dx,So,Gx,Ik,Ss,h]
theorem Tt{r}(h:vn r=T):iE r=η:=by simp[iE,h]
theorem vm{r}(h:mv r=T):iE r=η:=by simp[iE,h]
theorem Ts{r}(h:(kJ r.edits).2=η):iE r=η:=by simp[iE,h]
theorem ZI{r}(h:NQ r=η):iE r=η:=by simp[iE,h]
theorem Tr{r}(a:vn r=η)(d:mv r=η)(b:(kJ r.edits).2=T)(c:NQ r=T):iE r=v5G r:=by simp[iE,a,d,b,c]
theorem Ij{r}(h:N r.target<2^40):N (dx r)<2^40:=by
 rw[dx]
 split
 ·exact h
 exact E_
theorem ZH(r:j_)(hr:mT r)(hp:C r.parents<549755813888)(H:aF):RC 105 [av (eA r)] (bv (iE r)) H:=by
 refine Pu ?_;have ⟨_,⟨b1,b2,b3⟩,hpa,δ,hs,hpv⟩:=hr;have β:=λH=>vv r.edits H δ.1 δ.2;have ⟨p1,p2,p3,p4,p5⟩:=hpv;have Q:=aBl r.priv.trace p4;have γ:=λH=>wi [r.priv.name,r.priv.reason] (show 2<2^40 by decide) H;have u4:=λH=>wi r.priv.sources p3.1 H;have hf1:=λH=>kr r.priv.sl p5 H;have hf2:=λH=>kr r.sl hs H;have s:=λH=>jt r.parents H X;have A_:=λH=>N3 r.parents hpa H;have u_:=λH=>DE r.branch H X;have hnf:=λH=>DE r.from' H X
 have hwt:=Ij b2;have P:∀(n a b:Int) (H:aF),RC 146 [iv n,iv a,iv b] (bv (mV n a b)) H:=λn a b H=>RH n a b H;refine Bd func105 Z ntmps105<|U (kb 1)<|V aH<|U (kl 3 aDH)<|Uu (jG sizeOf174)<|Zz<|Sz aH<|U (bC iM)<|Y (wY isAgg51 sizeOf51)<|Y (kl 5 aFY)<|Uu (jG sizeOf51)<|Zz<|U (bC tV)<|Y (bQ kI)<|Y (iC Z Z)<|Y (kc call149 (aU.frameS Q (EX.sub ⟨Z,T_⟩) (dN.ofL ⟨zQ _,T_⟩) m3))<|V aH<|S<|S ?_;refine aT (t:=63) (n:=48) (A_:=vn r) ?_ ?_
 .all_goals refine Y aA<|Dm ?_<;>(refine Sp 23 (λK=>?_) λK=>?_)<;>(first|exact s_|refine M<|M<|M<|M<|M<|M<|M<|M ?_|refine O aA<|O (bC JJ)<|O (bQ N_)<|O (bC JI)<|O (bQ N_)<|O (aL [[.str r.priv.name],[.str r.priv.reason]] Z aY Z Z Z Z Z F_)<|O (dK Z Z Z (dQ.fn call147 (γ _)))<|O iH ?_)<;>refine Y cD<|Dm ?_<;>(refine Sp 33 (λd=>?_) λd=>?_)<;>(first|exact s_|refine M<|M<|M<|M<|M ?_|refine O aA<|O (bC yV)<|O (bQ aG)<|O (dK Z Z Z (dQ.fn call147 (u4 _)))<|O iH ?_)<;>refine Y cD<|Dm ?_<;>(refine Sp 40 (λm=>?_) λm=>?_)<;>(first|exact s_|refine M<|M<|M<|M ?_|refine O (bC yV)<|O (bQ aG)<|O (fM aD)<|O iX ?_)<;>refine Y cD<|Dm ?_<;>(refine Sp 46 (λw=>?_) λw=>?_)<;>(first|exact s_|refine M<|M<|M<|M ?_|refine O (bC tV)<|O (bQ kI)<|O (fM gH)<|O iX ?_)<;>refine Y cD<|Dm ?_<;>(refine Sp 52 (λR=>?_) λR=>?_)<;>(first|exact s_|refine M<|M<|M<|M ?_|refine O (bC FX)<|O (wY hU sizeOf48)<|O (kc call151 (hf1 _))<|O iH ?_)<;>refine Y cD<|Dm ?_<;>(refine Sp 58 (λy_=>?_) λy_=>?_)<;>(first|exact s_|refine M<|M<|M<|M ?_|refine O (bC AG)<|O (wY hU sizeOf48)<|O (kc call151 (hf2 _))<|O iH ?_)<;>refine V cD ?_<;>exact Gj (h:=by first|(rw[vn,K];rfl)|(rw[vn,K,d];rfl)|(rw[vn,K,d,m];rfl)|(rw[vn,K,d,m,w];rfl)|(rw[vn,K,d,m,w,R];rfl)|(rw[vn,K,d,m,w,R,y_];rfl))
 refine Cn ?_ ?_<;>intro z_
 .rw[Tt z_];exact Sz aH<|aC<|Rt<|Qq
 have h1:=z_;have D:Oj r.parents=(nU r.parents&&θ ((C (fU r.parents):Int)=(C (r.parents.map S_):Int))):=rfl;generalize nU r.parents=so at s D;refine aB<|S ?_;refine fW.ent (E':=[(1,.ref 1 0 0 0),(3,.ref 3 0 0 0),(5,.ref 5 0 0 0),(4,.pv (.fn 147))]) (H':=[(5,bx 7 51 ((xR r.priv).map .pv)),(3,To),(1,bx 21 53 ((eA r).map .pv))]) L_ ?_;cases so with
 | false =>
  have h2:mv r=T:=by rw[mv,D,Bool.false_and,Bool.not_false,Bool.or_true]
  rw[vm h2];refine aM a7<|Cr [1] (λ_ h=>fh oW h)<|Cr [1] (λ_ h=>lh aG h)<|x_ (by exact bH Z Z call152 Z (s _))<|x_ aA<|Ot<|Ot<|Ot<|Ot<|Ot<|Ot<|Ot<|Ot<|Ot<|x_ cD<|x_ aH<|bG<|Kr<|S<|S ?_;refine aT (t:=118) (n:=47) (A_:=mv r) ?_ ?_
  .all_goals refine Y (bQ pY)<|Y (bC FW)<|Y (bQ M_)<|Y (dK Z Z Z (dQ.fn sB (P r.author 0 59 _)))<|Y iH<|Dm ?_<;>(refine Sp 83 (λL=>?_) λL=>?_)<;>(first|exact s_|refine M<|M<|M<|M<|M ?_|refine O (bQ pY)<|O (bC A1)<|O (bQ M_)<|O (dK Z Z Z (dQ.fn sB (P r.number 1 128 _)))<|O iH ?_)<;>refine Y cD<|Dm ?_<;>(refine Sp 90 (λe=>?_) λe=>?_)<;>(first|exact s_|refine M<|M<|M<|M<|M ?_|refine O (bQ pY)<|O (bC FV)<|O (bQ M_)<|O (dK Z Z Z (dQ.fn sB (P r.clock 1 1000000 _)))<|O iH ?_)<;>refine Y cD<|Dm ?_<;>(refine Sp 97 (λo=>?_) λo=>?_)<;>(first|exact s_|refine M<|M<|M<|M ?_|refine O (bC DQ)<|O (bQ N_)<|O (kc pH (u_ _))<|O iH ?_)<;>refine Y cD<|Dm ?_<;>(refine Sp 103 (λg=>?_) λg=>?_)<;>(first|exact s_|refine M<|M<|M<|M ?_|refine O (bC oW)<|O (bQ aG)<|O (fM aD)<|O iX ?_)<;>refine Y cD<|Dm ?_<;>(refine Sp 109 (λu=>?_) λu=>?_)<;>(first|exact s_|refine M<|M<|M<|M ?_|refine O (bC oW)<|O (bQ aG)<|O (kc call155 (A_ _))<|O iH ?_)<;>refine Y cD<|Dm ?_<;>(refine Sp 115 (λh115=>?_) λh115=>?_)<;>(first|exact s_|refine M<|M ?_|refine O aA<|O iH ?_)<;>refine V cD ?_<;>exact Gj (h:=by simp_all)
  refine Cn ?_ ?_<;>intro x
  .exact Sz aH<|aC<|Rt<|Qq
  rw[h2]at x;cases x
 | true =>
  refine aM a7<|Cr [1] (λ_ h=>fh oW h)<|Cr [1] (λ_ h=>lh aG h)<|x_ (by exact bH Z Z call152 Z (s _))<|x_ aA<|Lt [1] (λ_ h=>fh oW h)<|Lt [1] (λ_ h=>lh aG h)<|Lp [901] (λH1 q=>by exact bH Z Z call153 Z (aC6 r.parents X ((q _ Z).trans Z)))<|Lp [901] (λH1 q=>by exact bH Z Z call31 Z (Y0 r.parents 1 _ ((q _ Z).trans Z) X))<|Lt [901] (λH1 q=>by exact dR Z aD Z ((q _ Z).trans Z) Z)<|Lt [1] (λ_ h=>fh oW h)<|Lt [1] (λ_ h=>lh aG h)<|Lt [] (λH1 q=>by exact lH Z aD Z)<|Lt [] (λH1 q=>by exact kR Z Z Z) ?_;refine x_ cD<|x_ aH<|bG<|Kr<|S<|S<|aT (t:=118) (n:=47) (A_:=mv r) ?_ ?_
  .all_goals refine Y (bQ pY)<|Y (bC FW)<|Y (bQ M_)<|Y (dK Z Z Z (dQ.fn sB (P r.author 0 59 _)))<|Y iH<|Dm ?_<;>(refine Sp 83 (λL=>?_) λL=>?_)<;>(first|exact s_|refine M<|M<|M<|M<|M ?_|refine O (bQ pY)<|O (bC A1)<|O (bQ M_)<|O (dK Z Z Z (dQ.fn sB (P r.number 1 128 _)))<|O iH ?_)<;>refine Y cD<|Dm ?_<;>(refine Sp 90 (λe=>?_) λe=>?_)<;>(first|exact s_|refine M<|M<|M<|M<|M ?_|refine O (bQ pY)<|O (bC FV)<|O (bQ M_)<|O (dK Z Z Z (dQ.fn sB (P r.clock 1 1000000 _)))<|O iH ?_)<;>refine Y cD<|Dm ?_<;>(refine Sp 97 (λo=>?_) λo=>?_)<;>(first|exact s_|refine M<|M<|M<|M ?_|refine O (bC DQ)<|O (bQ N_)<|O (kc pH (u_ _))<|O iH ?_)<;>refine Y cD<|Dm ?_<;>(refine Sp 103 (λg=>?_) λg=>?_)<;>(first|exact s_|refine M<|M<|M<|M ?_|refine O (bC oW)<|O (bQ aG)<|O (fM aD)<|O iX ?_)<;>refine Y cD<|Dm ?_<;>(refine Sp 109 (λu=>?_) λu=>?_)<;>(first|exact s_|refine M<|M<|M<|M ?_|refine O (bC oW)<|O (bQ aG)<|O (kc call155 (A_ _))<|O iH ?_)<;>refine Y cD<|Dm ?_<;>(refine Sp 115 (λh115=>?_) λh115=>?_)<;>(first|exact s_|refine M<|M ?_|refine O aA<|O iH ?_)<;>refine V cD ?_<;>exact Gj (h:=by first|(rw[mv,D,L];rfl)|(rw[mv,D,L,e];rfl)|(rw[mv,D,L,e,o];rfl)|(rw[mv,D,L,e,o,g];rfl)|(rw[mv,D,L,e,o,g,u];rfl)|(rw[mv,D,L,e,o,g,u,h115];rfl))
  refine Cn ?_ ?_<;>intro y
  .rw[vm y];exact Sz aH<|aC<|Rt<|Qq
  have h2:=y;have ⟨tx,l⟩:∃tx,tx=(kJ r.edits).1:=X_;have ⟨f_,G⟩:∃f_,f_=(kJ r.edits).2:=X_;rw[<-l,<-G]at β;refine aB<|S<|U (bC DP)<|Y (bQ pG)<|Y (kc call156 (β _))<|Y aA<|Y dO<|Y dO<|Y aH<|V aH<|U aA<|V iH<|Cn ?_ ?_<;>intro z
  .have hb:f_=η:=by have:=z;cases f_;rfl;cases this
   rw[Ts (G.symm.trans hb)];exact Sz aH<|aC<|Rt<|Qq
  have hb:f_=T:=by have:=z;cases f_;cases this;rfl
  have h3:(kJ r.edits).2=T:=G.symm.trans hb;have hyes:=λh4=>Tr h1 h2 h3 h4;clear l G;refine aB<|U aH<|Y aH<|Y aH<|Y aH<|Da<|eR (λ(p:W5)=>([(1,.ref 1 0 0 0),(3,.ref 3 0 0 0),(10,sv p.1),(11,bv p.2.1),(12,iv p.2.2.1),(13,sv p.2.2.2.1),(14,bv p.2.2.2.2)],[(5,bx 7 51 ((xR r.priv).map .pv)),(3,To),(1,bx 21 53 ((eA r).map .pv))])) (λp=>NQ r=T/\p=D9 r) ?_ ?_
  .refine U (bC oX)<|V (bQ M_)<|aE<|U cF<|Da<|Cn ?_ ?_<;>intro W
   .have E:=aDQ (b9 W);refine Rg<|Da ?_;exact⟨_,E,L_⟩
   have hk1:=b_ W;refine U cF<|Da<|Cn ?_ ?_<;>intro τ
   .have E:=aDP (b9 τ);refine aM a7<|Cq (bC DO)<|Cq (bQ N_)<|Cq (bC JH)<|Cq (bQ nO)<|Cq aH<|Cq aH<|bG<|Kr ?_;exact⟨_,E,L_⟩
   have hk2:=b_ τ;refine U cF<|Da<|Cn ?_ ?_<;>intro σ
   .have c:=b9 σ;refine S<|aM a7<|Cq (bC DO)<|Cq (bQ N_)<|Cq (bC yU)<|Cq (bQ M_)<|Cq (bC yU)<|Cq (bQ M_)<|Cq cF<|Cq aH<|Cq aH<|Cq aH<|bG<|Kr<|U (bQ pY)<|Y aA<|Y (dK Z Z Z (dQ.fn sB (P r.order 1 4 _)))<|V iH<|Cn ?_ ?_<;>intro ρ
    .have E:mV r.order 1 4=η:=by have:=ρ;revert this;cases mV r.order 1 4<;>simp
     rw[ZI (by rw[NQ,b6 c];exact E)];exact Sz aH<|aC<|Rt<|Qq
    have E:=aDO c (by have:=ρ;revert this;cases mV r.order 1 4<;>simp);refine aB ?_;exact⟨_,E,L_⟩
   have c:=b_ σ;refine U cF<|Da<|Cn ?_ ?_<;>intro κ
   .have f:=b9 κ;refine U (bC xP)<|Y (bQ N_)<|V aH<|S<|aT (t:=162) (n:=10) (A_:=!cJ r.from'||θ (r.from'=r.branch)) ?_ ?_
    .all_goals refine Y aA<|Y (kc pH (hnf _))<|Y iH<|Dm ?_<;>(refine Sp 157 (λh157=>?_) λh157=>?_)<;>(first|exact s_|refine M<|M<|M<|M ?_|refine O aA<|O (bC DQ)<|O (bQ N_)<|O wU ?_)<;>refine V cD ?_<;>exact Gj (h:=by(rw[h157];rfl))
    refine Cn ?_ ?_<;>intro j
    .have E:(cJ r.from'&&!θ (r.from'=r.branch))=η:=by have:=j;revert this;cases cJ r.from'<;>cases θ (r.from'=r.branch)<;>simp
     rw[ZI (by rw[NQ,a8 c,b6 f];exact E)];exact Sz aH<|aC<|Rt<|Qq
    have E:cJ r.from'=T/\¬ r.from'=r.branch:=by have:=j;rw[q_,Bool.not_eq_false',q7]at this;exact this
    have E:=aDN f E.1 E.2;refine aB ?_;exact⟨_,E,L_⟩
   have f:=b_ κ;refine U cF<|Da<|Cn ?_ ?_<;>intro k
   .have E:=aDM (b9 k);refine aB ?_;exact⟨_,E,L_⟩
   have hk5:=b_ k;rw[ZI (by rw[NQ,a8 c,a8 f,decide_eq_false X])];exact Sz aH<|aC<|Rt<|Qq
  rintro _ ⟨h4,rfl⟩;rw[hyes h4];have hdT:=λH=>YE (dx r) hwt H;have I:v5G r=(((((θ (r.target=dx r)&&(r.yes == So r))&&θ (r.order=Gx r))&&θ (r.from'=Ik r))&&(θ (0<(C (r.edits.map bL):Int)) == Ss r))&&(!ndG r||m6 (dx r))):=rfl;rw[D9];refine S<|aT (t:=15) (n:=10) (A_:=ndG r) ?_ ?_
  .all_goals refine Y (bC oX)<|Y (bQ M_)<|Y cF<|Dm ?_<;>(refine Sp 168 (λh168=>?_) λh168=>?_)<;>(first|exact s_|refine M<|M<|M ?_|refine O (bC oX)<|O (bQ M_)<|O cF ?_)<;>refine Y cD<|Da ?_<;>exact Gj (h:=by(rw[ndG,h168];rfl))
  refine S<|aT (t:=2) (n:=45) (A_:=v5G r) ?_ ?_
  .all_goals refine Y (bC DO)<|Y (bQ N_)<|Y aA<|Y wU<|Dm ?_<;>(refine Sp 177 (λB=>?_) λB=>?_)<;>(first|exact s_|refine M<|M<|M<|M ?_|refine O (bC JH)<|O (bQ nO)<|O aA<|O (iz Z fB Z Z) ?_)<;>refine Y cD<|Dm ?_<;>(refine Sp 183 (λF=>?_) λF=>?_)<;>(first|exact s_|refine M<|M<|M<|M ?_|refine O (bC yU)<|O (bQ M_)<|O aA<|O cF ?_)<;>refine Y cD<|Dm ?_<;>(refine Sp 189 (λJ=>?_) λJ=>?_)<;>(first|exact s_|refine M<|M<|M<|M ?_|refine O (bC xP)<|O (bQ N_)<|O aA<|O wU ?_)<;>refine Y cD<|Dm ?_<;>(refine Sp 195 (λi=>?_) λi=>?_)<;>(first|exact s_|refine M<|M<|M<|M<|M<|M ?_|refine O (bC DP)<|O (bQ pG)<|O (fM fD)<|O iX<|O aA<|O (iz Z fB Z Z) ?_)<;>refine Y cD<|Dm ?_<;>(refine Sp 203 (λv=>?_) λv=>?_)<;>(first|exact s_|refine M<|M<|M ?_|refine O aA<|O iH<|O aA ?_)<;>(first|refine Sp 206 (λh206=>?_) λh206=>?_|refine kX (t:=206) Z ?_)<;>(first|exact s_|refine M ?_|refine Fu ?_|refine O aA ?_)<;>(first|refine M ?_|refine Fu ?_|refine O (kc call30 (hdT _)) ?_)<;>(first|refine M ?_|refine O cD ?_)<;>refine Y cD<|Da ?_<;>exact Gj (h:=by first|(rw[I,B];rfl)|(rw[I,B,F];rfl)|(rw[I,B,F,J];rfl)|(rw[I,B,F,J,i];rfl)|(rw[I,B,F,J,i,v];rfl)|(rw[I,B,F,J,i,v,h206];rfl))
  exact aC<|Rt<|Qq
open Go.Lib
structure FSeal(s:q6):Prop where
 i0:0<=s.idx
 i1:s.idx<256
 sl:C s.sig<=18
 pl:C s.path<=8
 sa:∀t∈s.sig,m6 t=T
 pa:∀t∈s.path,m6 t=T
theorem ny{s}(h:BG s=T):s=⟨0,[],[]⟩:=by rw[BG,l6,g_]at h;have ⟨i,a,b⟩:=s;have ⟨c,e⟩:=h;simp at c e;have f:a=[]:=eq_nil_of_length_eq_zero X;have d:b=[]:=eq_nil_of_length_eq_zero X;subst c f d;rfl
theorem lI{s}(h:lJ s=T):FSeal s:=by
 rw[lJ,Bool.or_eq_true]at h;rcases h with h|h
 .have:=ny h;subst this;exact⟨H_,H_,H_,H_,H_,H_⟩
 simp[l6,k_,g_,all_eq_true]at h;have ⟨⟨⟨⟨⟨d,c⟩,B⟩,D⟩,a⟩,b⟩:=h;exact⟨d,c,X,X,a,b⟩
structure VF(r:j_):Prop where
 tr:∀q∈r.priv.trace,(0<=q.1/\q.1<=1048575)/\(0<=q.2/\q.2<=1048575)
 nm:N r.priv.name<=200
 rs:N r.priv.reason<=200
 so:∀s∈r.priv.sources,N s<=200
 sol:C r.priv.sources<=16
 trl:C r.priv.trace<=200
 psl:lJ r.priv.sl=T
 sl:lJ r.sl=T
 au:0<=r.author/\r.author<=59
 nu:1<=r.number/\r.number<=128
 cl:1<=r.clock/\r.clock<=1000000
 br:cJ r.branch=T
 pal:C r.parents<=16
 pa:∀p∈r.parents,m6 p=T
 inc:Oj r.parents=T
 tx:(kJ r.edits).2=T
 k:NQ r=T
 ta:r.target=dx r
 ye:r.yes=So r
 od:r.order=Gx r
 fr:r.from'=Ik r
 ed:θ (0<C r.edits)=Ss r
 nd:ndG r=T->m6 (dx r)=T
theorem bw{s}:LM s=η↔N s<=200:=by rw[LM,q7];omega
theorem sX{r}(h:iE r=T):VF r:=by
 simp[iE,l6,r9]at h;have ⟨⟨⟨⟨b,a⟩,m⟩,g⟩,d⟩:=h;simp only[vn,q_,Bool.not_eq_false',r9,q7,g_,any_eq_false,Bool.not_eq_true]at b;have ⟨⟨⟨⟨⟨⟨v,c⟩,w⟩,B⟩,D⟩,l⟩,t⟩:=b;simp[mv,q_,Bool.not_eq_false',q7,g_,all_eq_true,mV,l6,k_]at a;have ⟨⟨⟨⟨⟨⟨z,i⟩,n⟩,u⟩,E⟩,x⟩,f⟩:=a;simp[v5G,l6,k_,beq_iff_eq,g_,Bool.or_eq_true,r9]at d;have ⟨⟨⟨⟨⟨k,y⟩,j⟩,e⟩,F⟩,G⟩:=d;refine⟨λq o=>?_,bw.1 (c _ H_),bw.1 (c _ H_),λs p=>bw.1 (w s p),X,X,l,t,z,i,n,u,X,x,f,m,g,k,y,j,e,?_,λH=>?_⟩
 .have:=v q o;simp[bk,q_,Bool.not_eq_false',l6,k_]at this;exact this
 all_goals simp_all
theorem B4{r}(h:NQ r=T):1<=r.kind/\r.kind<=5:=by
 rw[NQ]at h
 grind
theorem NK{s}(h:cJ s=T):N s<=24:=by simp[cJ,l6,k_]at h;omega
theorem oj{l}(h:(eG l).2=0):N (eG l).1<=20000:=by
 have a:=E8 h;rw[iL]at a
 split at a
 .have:=congrArg Prod.snd a;cases this
 omega
theorem RN{l}(h:(kJ l).2=T):N (kJ l).1<=20000:=by
 rw[kJ]at h |-
 split at h
 .next a =>
  rw[b6 a];exact E_
 next a =>
 rw[a8 a];exact oj (b9 h)
theorem DK{s}(h:m6 s=T):N s<=16:=Nat.le_of_eq (iJ h)
theorem VF.target{r}(h:VF r):N r.target<=16:=by
 rw[h.ta];by_cases a:ndG r=T
 .exact DK (h.nd a)
 have:dx r=a6:=by
  rw[dx,a8];rintro(e|e)<;>simp[ndG,e]at a
 rw[this];decide
theorem VF.from{r}(h:VF r):N r.from'<=24:=by
 rw[h.fr,Ik]
 split
 .next e =>
  have a:=h.k;rw[NQ,a8 X,b6 e,l6]at a;exact NK a.1
 decide
theorem VF.order{r}(h:VF r):0<=r.order/\r.order<=4:=by
 rw[h.od,Gx]
 split
 .next e =>
  have a:=h.k;rw[NQ,b6 e,mV,l6,k_,k_]at a;omega
 decide
def VQ(p:GPriv):List IV:=[.t p.name,.t p.reason,.l p.sources,.p p.trace]
def MY(r:j_):List IV:=[.z r.sl.idx r.sl.sig r.sl.path,.t r.priv.name,.t r.priv.reason,.l r.priv.sources,.p r.priv.trace,.z r.priv.sl.idx r.priv.sl.sig r.priv.sl.path]
def jU(r:j_):List B_:=vR r++zK (MY r)
def JB(r:j_):B_:=if iE r=T then yY (vR r)else a6
def mS(r:j_):B_×Int:=if iE r=T then(if 20000<C (aO (jU r)) then(a6,2)else(a_ (aO (jU r)),0))else(a6,1)
def prW:B_:=⟨#[112,114,105,118,97,116,101]⟩
def bp(r:j_):B_:=yY ([prW,JB r]++zK (VQ r.priv))
def le2(x:B_):Prop:=N x<=20000
theorem qT{n}(a : -9223372036854775808<=n)(b:n<=9223372036854775807):le2 (aV n):=Nat.le_trans (nY a b) H_
theorem LG{n:Nat}(h:n<2^40):le2 (aV n):=qT X X
theorem ft{s}(h:FSeal s):∀x∈fI (.z s.idx s.sig s.path),le2 x:=by
 intro x a;have B:=h.i0;have D:=h.i1;have l1:=h.sl;have l2:=h.pl;simp only[fI,l9,mem_append]at a;rcases a with rfl|(rfl|a)|(rfl|a)
 .exact qT X X
 .exact LG X
 .exact Nat.le_trans (DK (h.sa x a)) H_
 .exact LG X
 exact Nat.le_trans (DK (h.pa x a)) H_
theorem fq{s}(h:FSeal s):C (fI (.z s.idx s.sig s.path))<=29:=by have l1:=h.sl;have l2:=h.pl;simp[fI,j6,j8];omega
theorem KP{r:j_}(h:VF r):∀x∈vR r,le2 x:=by
 intro x a;have ⟨v,b,a⟩:=mem_flatMap.1 a;have G:=B4 h.k;have B:=h.au;have D:=h.nu;have E:=h.cl;have F:=h.order;have e:=NK h.br;have d:=h.target;have c:=h.from
 have H:=h.pal;simp only[M8,l9,q8,or_false]at b;rcases b with rfl|rfl|rfl|rfl|rfl|rfl|rfl|rfl|rfl|rfl|rfl|rfl<;>simp only[fI,l9,q8,or_false]at a
 .subst a;exact(by decide:N HJ<=20000)
 .subst a;exact qT X X
 .subst a;exact qT X X
 .subst a;exact qT X X
 .subst a;exact qT X X
 .subst a;exact Nat.le_trans e E_
 .rcases a with rfl|a
  .exact LG X
  exact Nat.le_trans (DK (h.pa x a)) E_
 .subst a;exact RN h.tx
 .subst a;exact Nat.le_trans d E_
 .subst a;split<;>exact qT E_ E_
 .subst a;exact qT X X
 subst a;exact Nat.le_trans c E_
theorem KO{r}(h:VF r):C (vR r)<=28:=by have:=h.pal;rw[vR,gv];omega
theorem Lj{r}(h:VF r):∀x∈zK (VQ r.priv),le2 x:=by
 intro x a;have ⟨v,b,a⟩:=mem_flatMap.1 a;have d:=h.nm;have c:=h.rs;have B:=h.sol;have D:=h.trl;simp[VQ,l9,q8,or_false]at b;rcases b with rfl|rfl|rfl|rfl<;>simp only[fI,l9,q8,or_false,mem_flatMap]at a
 .subst a;exact Nat.le_trans d H_
 .subst a;exact Nat.le_trans c H_
 .rcases a with rfl|a
  .exact LG X
  exact Nat.le_trans (h.so x a) H_
 rcases a with rfl|⟨q,e,a⟩
 .exact LG X
 have ⟨E,F⟩:=h.tr q e;rcases a with rfl|rfl
 .exact qT X X
 exact qT X X
theorem Lq(ps):C (fI (.p ps))=1+2*C ps:=by rw[show fI _=aV _::QF _ from Z,j6,QE];omega
theorem Li{r}(h:VF r):C (zK (VQ r.priv))<=420:=by have B:=h.sol;have D:=h.trl;have:=Lq r.priv.trace;simp[zK,VQ,flatMap_cons,flatMap_nil,j8,this];simp[fI,j6,length_nil];omega
theorem pj(r):zK (MY r)=fI (.z r.sl.idx r.sl.sig r.sl.path)++(zK (VQ r.priv)++fI (.z r.priv.sl.idx r.priv.sl.sig r.priv.sl.path)):=by simp[zK,MY,VQ,flatMap_cons]
theorem ZX{r}(h:VF r):∀x∈zK (MY r),le2 x:=by
 intro x a;rw[pj]at a;rcases mem_append.1 a with a|a
 .exact ft (lI h.sl) x a
 rcases mem_append.1 a with a|a
 .exact Lj h x a
 exact ft (lI h.psl) x a
theorem ZW{r}(h:VF r):C (zK (MY r))<=478:=by have B:=fq (lI h.sl);have D:=fq (lI h.psl);have E:=Li h;rw[pj,j8,j8];omega
theorem LO{e_}(a:e_<1000000000000000000):∀(L),(∀s∈L,N s<=e_)->C (aO L)<=C L*(e_+22)
 | [],_=>l7 _
 |s::L,h=>by
  have D:=LO a L λx b=>h x (mem_cons_of_mem _ b);have B:=h s mem_cons_self;have hi:=nY (n:=(N s)) X X;rw[show aO _=(qN s).data.toList++aO L by rfl,j8,pO,nS,j6,succ_mul];omega
theorem yM{L}(h:∀x∈L,le2 x){n}(a:C L<=n):C (aO L)<=n*20022:=Nat.le_trans (LO H_ L h) (mul_le_mul_right _ a)
end Go.Proofs.C
namespace Go.Abs
theorem aU.fin{P}{f}{args}{H}{Q a}(h:aU P f args H Q)(c:∀r H1,Q r H1->∃r' H2,Fin H H1 r H2 r'/\a r' H2):aU P f args H a :=λI l w vs j i d=>(h I _ w _ j i d).mono λ_ w' ⟨r,H',I',ι',v,e,q,m,b,g⟩=>by
  have ⟨r',H2,k,B⟩:=c r _ q;have ⟨I2,D,E,F,G⟩:=k ⟨I,l,H,w,[]⟩ Z _ _ _ v b g m
  grind
end Go.Abs
namespace Go.Proofs.C
open Go.Proofs.Tryz
open Go.Abs
theorem not_not{b}(h:(!b)=T):b=η:=F_
theorem nX{b}(h:(!b)=η):b=T:=F_
theorem fR{α:Type}(f:α->List PV)(l:List _):((l.map f).take (0+C l)).drop 0=l.map f:=take_of_length_le H_
theorem aA1(l):F1 ⟨(aO l).toArray⟩=yY l:=rfl
theorem Cx(r)(b:mT r)(a:C r.parents<549755813888)(H):RC 107 [av (eA r)] (.pv (aK (vR r))) H:=by refine aU.pure ((XH r b a).fin ?_) H_ H;rintro _ _ ⟨rfl,rfl⟩;exact⟨_,[],Fin.fz (id:=971) _ Z (dA _) (.osl (fR _ _)) Z T_ T_,Z,Z⟩
theorem Cy(r)(b:mT r)(a:C r.parents<549755813888){H}(B:H.get 971=ζ):aU φ 107 [av (eA r)] H (λx H'=>x=.osl 971 (qb r) 0 (C (vR r))/\H'=(971,⟨qb r,1,9,bZ (vR r)⟩)::H) :=aU.frame (XH r b a) (λ_ _ h=>by cases h) (λ_ _ h=>by cases h) H_ (λid h=>.inr (by
  by_cases e:971=id
  .simp_all
  simp[aF.get,kE e]at h))
theorem yy(r:j_)(g:mT r)(f:C r.parents<549755813888)(H:aF):RC 55 [av (eA r)] (sv (JB r)) H:=by
 refine aU.pure ?_ F_ H;have j:=λH=>ZH r g f H;have e:=λH=>Cx r g f H;rw[JB];refine Bd func55 Z ntmps55<|U (kb 1)<|V aH<|S<|U (wY cQ bJ)<|Y (kc call105 (j _))<|V iH<|Cn ?_ ?_<;>intro c
 .rw[a8 F_];exact Sz aH<|aC<|Rt<|Qq
 have h:=nX c;have i:=sX h;have B:=yM (KP i) (KO i);rw[b6 h];have b:=λH=>YB (vR r) H X;have d:=λH=>vz _ H (by rw[show N (⟨(aO (vR r)).toArray⟩:B_)=C (aO (vR r)) from by rfl];omega);exact aB<|U (wY cQ bJ)<|Y (bH Z Z call107 Z (e _))<|Y (bH Z Z call108 Z (b _))<|Y (kc call106 (d _))<|V aH<|aC<|Rt<|Qq
theorem Va{r}(h:mT r)(e:VF r):∀v∈MY r,okI v:=by
 have ⟨_,_,_,_,⟨l,j,k⟩,B,D,i,c,g,b,f⟩:=h;intro v a;simp[MY,l9,q8,or_false]at a;rcases a with rfl|rfl|rfl|rfl|rfl|rfl
 .exact⟨l,j.1,k.1⟩
 .exact T_
 .exact T_
 .exact i.1
 .exact⟨c,λq d=>by
   have ⟨⟨E,F⟩,G,H⟩:=e.tr q d;exact⟨⟨X,X⟩,X,X⟩⟩
 exact⟨g,b.1,f.1⟩
theorem aBT{r}(h:mT r)(e:VF r):∀v∈VQ r.priv,okI v:=by
 have ⟨_,_,_,_,_,B,D,b,c,c1,c2,c3⟩:=h;intro v a;simp[VQ,l9,q8,or_false]at a;rcases a with rfl|rfl|rfl|rfl
 .exact T_
 .exact T_
 .exact b.1
 exact⟨c,λq d=>by
  have ⟨⟨E,F⟩,G,H⟩:=e.tr q d;exact⟨⟨X,X⟩,X,X⟩⟩
theorem ZK(r:j_)(n:mT r)(j:C r.parents<549755813888)(H:aF):RC 72 [av (eA r)] (.tup [sv (mS r).1,iv (mS r).2]) H:=by
 refine aU.pure ?_ F_ H;have t:=λH=>ZH r n j H;have s:=λH k=>Cy r n j (H:=H) k;rw[mS];refine Bd func72 Z ntmps72<|U (kb 1)<|Y aH<|V aH<|S<|U (wY cQ bJ)<|Y (kc call105 (t _))<|V iH<|Cn ?_ ?_<;>intro i
 .have m:=not_not i;rw[a8 F_];exact U aH<|V aH<|aC<|Ru<|Qq
 have m:=nX i;have e:=sX m;have l:=yM (L:=jU r) (n:=506) (λx v=>(mem_append.1 v).elim (KP e x) (ZX e x)) (by
  have:=KO e;have:=ZW e;rw[jU,j8];omega)
 have D:=KO e;have E:=ZW e;rw[b6 m];have c:=uu (MY r) (Va n e) (qb r) (vR r) (show 6<2^40 by decide) X;have f:=λH=>YB (jU r) H X;have q:jU r=vR r++zK (MY r):=rfl;rw[<-q]at c;generalize jU r=f_ at c f l |-;generalize qb r+zi (MY r)=g at c;have o:(⟨(aO f_).toArray⟩:B_)=a_ (aO f_):=rfl;rw[o]at f;have B:N (a_ (aO f_))=C (aO f_):=cA _;refine aB<|U (wY cQ bJ)<|Y (kc call107 (s _ Z))<|Y (kl 970 aAC)<|Uu (jG sizeOf131)<|Zz<|U (bC AG)<|Y (wY hU sizeOf48)<|Y (K3 (ps:=lQ r.sl) Z (dY kG Z) Z)<|Y (bC iM)<|Y (bC JJ)<|Y (bQ N_)<|Y (gM (p:=.str r.priv.name) Z (dY U_ Z) Z)<|Y (bC iM)<|Y (bC JI)<|Y (bQ N_)<|Y (gM (p:=.str r.priv.reason) Z (dY U_ Z) Z)<|Y (bC iM)<|Y (bC yV)<|Y (bQ aG)<|Y (gM (p:=aK r.priv.sources) Z (dY aD Z) Z)<|Y (bC iM)<|Y (bC tV)<|Y (bQ kI)<|Y (gM (p:=yD r.priv.trace) Z (dY gH Z) Z)<|Y (bC iM)<|Y (bC FX)<|Y (wY hU sizeOf48)<|Y (K3 (ps:=lQ r.priv.sl) Z (dY kG Z) Z)<|Y (aL ((MY r).map A3) Z zU Z Z Z Z Z (UJ (MY r)))<|V (kc wG (mo c ⟨Z,Z,T_⟩ m3))<|S ?_;refine fW.ent (cH.fzG (id:=971) (E':=[(4,.ref 970 0 0 0)]) (H':=[(970,bx 1 131 [.pv (aK f_)])]) (f_.map S_) Z (dA _) ?_ Z ?_ ?_) ?_
 .intro p j;simp only[l9,q8,or_false]at j;rcases j with rfl;exact⟨_,Z,.same m3⟩
 .exact⟨⟨_,Z,Z,Z,Z,jO Z (bA (.osl (fR S_ _)) jA)⟩,T_⟩
 .exact T_
 refine Rd (bQ isAgg131)<|Y (kc call108 (f _))<|V aH<|S<|U aA<|Y (gL U_)<|V iX<|Cn ?_ ?_<;>intro h
 .have d:20000<C (aO f_):=I_ h
  rw[b6 d];exact U aH<|V aH<|aC<|Ru<|Qq
 have d:¬ 20000<C (aO f_):=J_ h
 rw[a8 d];exact aB<|U aA<|Y aH<|V aH<|aC<|Ru<|Qq
theorem yx(r):N (JB r)<=20000:=by
 by_cases h:iE r=T
 .rw[JB,b6 h];exact Nat.le_trans (Nat.le_of_eq (rY _)) H_
 rw[JB,a8 h];decide
theorem Du(r:j_)(j:mT r)(e:C r.parents<549755813888)(l:iE r=T)(H:aF):RC 118 [av (eA r)] (sv (bp r)) H:=by
 refine aU.pure ?_ F_ H;have B:=λH=>yy r j e H;have h:=sX l;have D:=Li h;have b:=uu (VQ r.priv) (aBT j h) 0 [prW,JB r] (show 4<2^40 by decide) G_;have f:=yx r;have E:=yM (L:=[prW,JB r]++zK (VQ r.priv)) (n:=422) (λx d=>(mem_append.1 d).elim (λd=>by
   simp only[l9,q8,or_false]at d;rcases d with rfl|rfl
   .exact(by decide:N prW<=20000)
   exact f) (Lj h x)) G_
 rw[bp];have c:=λH=>bz ([prW,JB r]++zK (VQ r.priv)) H X;generalize [prW,JB r]++zK (VQ r.priv)=f_ at b c |-;generalize 0+zi (VQ r.priv)=g at b;generalize JB r=i at B b;refine Bd func118 Z ntmps118<|U (kb 1)<|V aH<|U (wY cQ bJ)<|Y (kc call55 (B _))<|Y (eO (id:=971) Z R9 Z Z Z Z F_ Z)<|Y (kl 970 aAC)<|Uu (jG sizeOf131)<|Zz<|U (bC iM)<|Y (bC JJ)<|Y (bQ N_)<|Y (gM (p:=.str r.priv.name) Z (dY U_ Z) Z)<|Y (bC iM)<|Y (bC JI)<|Y (bQ N_)<|Y (gM (p:=.str r.priv.reason) Z (dY U_ Z) Z)<|Y (bC iM)<|Y (bC yV)<|Y (bQ aG)<|Y (gM (p:=aK r.priv.sources) Z (dY aD Z) Z)<|Y (bC iM)<|Y (bC tV)<|Y (bQ kI)<|Y (gM (p:=yD r.priv.trace) Z (dY gH Z) Z)<|Y (aL ((VQ r.priv).map A3) Z zU Z Z Z Z Z (UJ (VQ r.priv)))<|V (kc wG (mo b ⟨Z,Z,T_⟩ m3))<|S ?_;refine fW.ent (cH.fzG (id:=971) (E':=[(3,.ref 970 0 0 0)]) (H':=[(970,bx 1 131 [.pv (aK f_)])]) (f_.map S_) Z (dA _) ?_ Z ?_ ?_) ?_
 .intro p e;simp only[l9,q8,or_false]at e;rcases e with rfl;exact⟨_,Z,.same m3⟩
 .exact⟨⟨_,Z,Z,Z,Z,jO Z (bA (.osl (fR S_ _)) jA)⟩,T_⟩
 .exact T_
 exact Rd (bQ isAgg131)<|Y (kc call81 (c _))<|V aH<|aC<|Rt<|Qq
end Go.Proofs.C
namespace Go.Abs
variable{F f:FuncId}{args:List AV}{c:Code}{P:Program}{H H0:aF}
section
theorem EP.of{P}{r4}{o}{E}{H}{R}{PP}(h:nv P r4 o E H R):EP P r4 o E H R PP :=λa w I ι e c d K Q b _=>h a w I _ T_ e c d K Q b
theorem EP.opr{P}{r4}{o}{E}{H}{R}(h:EP P r4 o E H R (λ_ _=>False)):nv P r4 o E H R :=λa w I ι _ f c e K Q b=>h a w I _ f c e K Q b (λ_ _ _ _ _ d=>d.elim)
def fY(P:Program)(f:FuncId)(args:List AV)(H:aF)(Q:AV->aF->Prop)(PP:ef->aF->Prop):Prop :=∀(I:Nat->Prop) (ι:mD) (w:World) (vs:Array Value),Rel I ι H w->vs.size=C args->(∀(i:Nat) (v:Value) (a:AV),vs[i]?=A v->args[i]?=A a->VRel w I ι H v a) ->
  Calls P f vs w λe w'=>(∃r H' D B v,e=.returned v/\Q r H'/\VRel w' D B H' v r/\Rel D B H' w'/\Step I ι H w D B H' w')\/(∃ch H' D B,e=.panicked ch/\PP ch H'/\Rel D B H' w'/\Step I ι H w D B H' w')
section
variable{Q:AV->aF->Prop}{PP:ef->aF->Prop}
theorem fY.of(h:aU P f args H Q):fY P f args H Q PP:=λI ι w vs b a c=>(h I _ w _ b a c).mono λ_ _ h=>.inl h
theorem fY.mono{g}{PP'}(h:fY P f args H Q PP)(l:∀r H',Q r H'->g r H')(m:∀c H',PP c H'->PP' c H'):fY P f args H g PP' :=λI ι w vs k j i=>(h I _ w _ k j i).mono λ_ _ h=>h.elim (λ⟨r,H',d,b,v,e,q,a⟩=>.inl ⟨r,H',d,b,v,e,l _ _ q,a⟩) (λ⟨c,H',d,b,e,q,a⟩=>.inr ⟨c,H',d,b,e,m _ _ q,a⟩)
theorem fY.calls(h:fY P f args H Q PP)(d:∀a H',¬ PP a H'):aU P f args H Q :=λI ι w vs c b e=>(h I _ w _ c b e).mono λ_ _ h=>h.elim id (λ⟨a,H',_,_,_,q,_⟩=>(d _ _ q).elim)
end
section
variable{r4:Nat}{o:Oper}{E:dG}{Q:AV->aF->Prop}{PP:ef->aF->Prop}
theorem eS{F}{f}{args}{c}{e}(m:o.op=.call {callee:=.value f,args:=args,argTypes:=c})(p:aQ E f=A (.pv (.fn F)))
  (q:∀(args) (w),(callFunc F args).run P w=.ok (.enter F args) w) (g:zF E args.toList=A e) (h:fY P F e H Q PP):EP P r4 o E H Q PP:=by
 intro a w I r _ n j K B G J;have d:=(aJ j p).fn_inv;have ⟨D,k⟩:=pT j (oE g);unfold Oper.wpW execOp;simp[m,resolve,d,Deferred.ofValue,Sem.run_bind,Sem.run_pure,Result.andThen_ok,invoke,q,Oper.uponW_enter];refine(h I r w _ n F_ (λi v b g l=>k i v b F_ l)).mono ?_
 grind
theorem HS{f:Operand}{args:Array Operand}{m:Array TypeId}{k c:List AV}(x:o.op=.call {callee:=.value f,args:=args,argTypes:=m})(t:aQ E f=A (.clo F c))
  (s:∀(args:Array Value) (w:World),(callFunc F args).run P w=.ok (.enter F args) w) (d:zF E args.toList=A k) (h:fY P F (k++c) H Q PP):EP P r4 o E H Q PP:=by
 intro a w I u _ r n K B J L;have e:=aJ n t;generalize j:a.eval f=D at e;have ⟨G,p⟩:=pT n (oE d);cases e with
 | @clo _ us _ hl q =>
  unfold Oper.wpW execOp;simp only[x,resolve,j,Deferred.ofValue,Sem.run_bind,Sem.run_pure,Result.andThen_ok,invoke,s,Oper.uponW_enter,Array.empty_append];have l:args.size=C k:=X
  refine(h I u w _ r F_ (λi v b d g=>?_)).mono ?_
  .by_cases hi:i<args.size
   .rw[Array.getElem?_append_left F_]at d;rw[getElem?_append_left X]at g;exact p i v b F_ g
   rw[Array.getElem?_append_right G_]at d;rw[getElem?_append_right X]at g;simp only[Array.size_map]at d;rw[l]at d;exact q _ v b d g
  grind
end
section
variable{r4:Nat}{o:Oper}{E:dG}{Q:AV->aF->Prop}{PP:ef->aF->Prop}{t t' u4:TypeId}{x y:Operand}
theorem pR{f}{xs}{c}(e:o.op=.makeFunc (.func f) xs #[])(d:zF E xs.toList=A c):cP P r4 o E H (.bnd f c) H :=.of_run λa w I ι _ h=>by
  have ⟨B,j⟩:=pT h (oE d);exact⟨.func _ (xs.map a.eval) #[],by simp[execOp,e,Instr.makeFunc],.bnd F_ (λi v b d g=>j i v b F_ g)⟩
theorem HT{f:Operand}{args:Array Operand}{j:Array TypeId}{l xs:List AV}(r:o.op=.call {callee:=.value f,args:=args,argTypes:=j})(u:aQ E f=some (.bnd F xs))
  (z:∀(args:Array Value) (w:World),(callFunc F args).run P w=.ok (.enter F args) w) (d:zF E args.toList=some l) (h:fY P F (xs++l) H Q PP):EP P r4 o E H Q PP:=by
 intro a w I i_ _ m k K QQ hk hp;have c:=aJ k u;generalize g:a.eval f=fc at c;have ⟨h1,n⟩:=pT k (oE d);cases c with
 | @bnd _ s _ hl p =>
  unfold Oper.wpW execOp;simp only[r,resolve,g,Deferred.ofValue,Sem.run_bind,Sem.run_pure,Result.andThen_ok,invoke,z,Oper.uponW_enter,Array.append_empty];refine(h I i_ w _ m F_ (λi v b d e=>?_)).mono ?_
  ·by_cases q:i<s.size
   ·rw[Array.getElem?_append_left q]at d;rw[getElem?_append_left X]at e;exact p i v b d e
   rw[Array.getElem?_append_right (by omega)]at d;rw[List.getElem?_append_right (by omega)]at e;exact n _ v b (by simp_all) e
  grind
abbrev ms(t:TypeId):ef:=[{v:=.iface t (.agg #[]),recovered:=η}]
theorem XT(e:o.op=.panic x)(f:aQ E x=A (.pv (.ifa t []))):EP P r4 o E H (λ_ _=>False) (λc H'=>c=ms t/\H'=H):=by intro a w I ι _ g h K B D b;have ⟨cs,d,F,_⟩:=(aJ h f).ifa_inv;have:=Array.eq_empty_of_size_eq_zero X;subst this;unfold Oper.wpW execOp;simp[e,d];exact b _ w I _ H ⟨Z,Z⟩ g (Step.refl _ _ _ _)
end
section
variable{G0:aF}{r4:Nat}{E:dG}{ops:Array Oper}{Q:Exit->dG->aF->Prop}{o:Oper}{rest:List Oper}{R:AV->aF->Prop}{PP:ef->aF->Prop}
def Gw(P:Program)(G0:aF)(r4:Nat)(ops:Array Oper)(Q:Exit->dG->aF->Prop)(l:List Oper)(E:dG)(H:aF):Prop :=∀G:Entry,G.H=G0->∀a w,St G r4 E H a w->∀ro,(ro=ζ\/l.all Oper.noDefer=T)->wpListIn (RF ro) 0 P ops (λe a w=>∃E H,Q e E H/\St G r4 E H a w) l a w
theorem RA(h:Q .normal E H):Gw P G0 r4 ops Q [] E H:=λ_ _ a w b _ _=>⟨E,H,h,b⟩
theorem Rk(l:o.guard=ζ)(B:jI r4 o.dst=T)(h:EP P r4 o E H R PP)(e:∀d H',PP d H'->Q (.panic d) E H')(i:∀r H',R r H'->Gw P G0 r4 ops Q rest (nR E o.dst r) H'):Gw P G0 r4 ops Q (o::rest) E H:=by intro G j a w k ro c;refine wpListIn_plain l λF m=>?_;exact k.opP B h (λr H' D g n b=>m _ _ (i r _ n G j _ _ b _ (nW c).2)) (λd H' g f b=>⟨E,H',e _ _ f,b⟩) (nW c).1
theorem aA5(b:o.guard=ζ)(B:jI r4 o.dst=T)(h:nv P r4 o E H R)(a:∀r H',R r H'->Gw P G0 r4 ops Q rest (nR E o.dst r) H'):Gw P G0 r4 ops Q (o::rest) E H :=Rk (PP:=λ_ _=>False) b B (.of h) (λ_ _ h=>h.elim) a
theorem iZ{d}{v}{H2}(a:o.guard=ζ)(B:o.dst=A d)(c:Nat.blt d r4=T)(h:cP P r4 o E H v H2)(e:Gw P G0 r4 ops Q rest ((d,v)::E) H2):Gw P G0 r4 ops Q (o::rest) E H :=aA5 a (by rw[B];exact c) h λr H' ⟨b,f⟩=>by subst b f;rw[B];exact e
theorem Rl{v}{H2}(d:o.guard=ζ)(B:o.dst=ζ)(h:cP P r4 o E H v H2)(a:Gw P G0 r4 ops Q rest E H2):Gw P G0 r4 ops Q (o::rest) E H :=aA5 d (by rw[B];rfl) h λr H' ⟨c,b⟩=>by subst c b;rw[B];exact a
theorem dj{d}{v}{H2}{F}(j:o.guard=ζ)(B:o.dst=A d)(e:Nat.blt d r4=T)(h:EP P r4 o E H (λr H'=>r=v/\H'=H2/\F) PP)(b:∀a H',PP a H'->Q (.panic a) E H')(f:F->Gw P G0 r4 ops Q rest ((d,v)::E) H2):Gw P G0 r4 ops Q (o::rest) E H :=Rk j (by rw[B];exact e) h b λr H' ⟨c,g,i⟩=>by subst c g;rw[B];exact f i
theorem qY(c:o.guard=ζ)(B:jI r4 o.dst=T)(h:EP P r4 o E H (λ_ _=>False) PP)(b:∀a H',PP a H'->Q (.panic a) E H'):Gw P G0 r4 ops Q (o::rest) E H:=Rk c B h b (λ_ _ h=>h.elim)
theorem gZ{id}(h:Gw P G0 r4 ops Q ops.toList E H):fW P G0 r4 (.region id ops η) Q E H:=λG d a w b ro c=>wpIn_region_list (h G d a w b _ c)
end
def Sk(P:Program)(fn:Func)(G0:aF)(Q:AV->aF->Prop)(PP:ef->aF->Prop)(e:Exit)(E:dG)(H:aF):Prop :=OG P fn G0 Q e E H\/∃ch H',e=.panic ch/\Fin G0 H (.tup []) H' (.tup [])/\PP ch H'
theorem OC{P}{a}{G0 H}{Q}{PP}{e}{E}(h:OG P a G0 Q e E H):Sk P a G0 Q PP e E H:=.inl h
theorem F8{P}{d}{G0 H H'}{Q}{PP}{a:ef}{E}(c:Fin G0 H (.tup []) H' (.tup []))(b:PP a H'):Sk P d G0 Q PP (.panic a) E H:=.inr ⟨a,H',Z,c,b⟩
theorem fY.body{o:Func}{Q:AV->aF->Prop}{PP:ef->aF->Prop}{r4:Nat}(v_:P.funcs[f]?=some o)(y_:o.body=some c)(hN:o.ntmps=r4)(hlen:args.length<=r4)
  (h:fW P H r4 c (Sk P o H Q PP) (oN args) H):fY P f args H Q PP:=by
 intro I n w s o_ hl f_;refine callsIn_wide.1 (callsIn_of_wp_marks (F:=Fence.wide) (n:=0) v_ y_ T_ ?_);have F:St ⟨I,n,H,w,[]⟩ r4 (oN args) H {tmps:=s++Array.replicate (o.ntmps - s.size) undef,defers:=[]} w:=by
  refine⟨uM.nil _ _ _,?_,I,n,o_,Step.refl _ _ _ _,λt a z_=>?_⟩
  ·grind
  have R:=xQ z_;have G:t<s.size:=G_
  have W:s[t]?=some s[t]:=Array.getElem?_eq_getElem G;exact⟨s[t],by grind,f_ t _ a W R⟩
 refine wpIn_mono (h ⟨I,n,H,w,[]⟩ Z _ w F none (.inl Z)) ?_;rintro e y m ⟨E',k,(⟨u_,r,d_,r',z,i,L⟩|⟨B,z,rfl,i,L⟩),D⟩
 ·have u:LeavesInM Fence.wide 0 P o y.tmps (λe m=>(∃r k g b v,e=.returned v/\Q r k/\VRel m g b k v r/\Rel g b k m/\Step I n H w g b k m)\/(∃B k g b,e=.panicked B/\PP B k/\Rel g b k m/\Step I n H w g b k m)) y.defers .returning m:=by
   have ⟨g,b,q,d,p⟩:=D.rel;refine xL D.defers q d p ?_;intro E l j i_;have ⟨v,h1,A_⟩:=d_ y E g b l i_;have ⟨e_,x,c_,K,u4⟩:=i ⟨I,n,H,w,[]⟩ Z g b E v l j A_
   grind
  rcases u_ with rfl|rfl
  ·exact u
  exact u
 have ⟨g,b,q,d,p⟩:=D.rel;show LeavesInM Fence.wide 0 P o y.tmps _ y.defers (.panicking B) m;refine AW H_ D.defers q d p ?_;intro E l j i_;have ⟨e_,x,c_,K,u4⟩:=i ⟨I,n,H,w,[]⟩ Z g b E (.tuple #[]) l j (.tup Z H_);exact .inr ⟨B,z,e_,x,Z,L,c_,K⟩
theorem T7{I x:Nat->Prop}{ι s:mD}{H':aF}{w w':World}(p:Rel I ι H w)(G:Sub H0 H)(k2:Rel x s H' w')(m:Step I ι H0 w x s H' w')(hk:∀id,(H'.get id).isSome=T->(H0.get id).isSome=T\/H.get id=ζ):
  ∃f,Rel x f (H'++H) w'/\Step I ι H w x f (H'++H) w'/\∀v a,VRel w' x s H' v a->VRel w' x f (H'++H) v a:=by
 have ⟨f,τ⟩:∃f:mD,f=(λj=>if(H'.get j).isSome=T then s j else ι j):=X_;have B:∀j o,H'.get j=A o->f j=s j:=λj o d=>by simp_all
 have D:∀j,H'.get j=ζ->f j=ι j:=λj d=>by simp_all
 have W:∀j o,H'.get j=A o->aF.get (H'++H) j=A o:=λj o d=>by rw[gN,d]
 have F:∀j,H'.get j=ζ->aF.get (H'++H) j=H.get j:=λj d=>by rw[gN,d]
 have u_:∀j o,H.get j=A o->H'.get j=ζ->H0.get j=ζ:=λj o d E=>by
  cases e:H0.get j with
  |none=>rfl
  |some o0 =>
   have ⟨l,u4,_⟩:=m.objs j o0 e
   simp_all
 have y:∀j o b c,H.get j=A o->H'.get j=ζ->ι j=A (b,c)->¬ OF ι H0 b:=λj o b c d E K ⟨n,l,J,k,R⟩=>by
  have:=p.inj j n o l b c J d (G _ _ k) K R;subst this;rw[u_ j o d E]at k;cases k
 have o_:Step I ι H w x f (H'++H) w':=by
  refine⟨m.os,m.tape,m.output,m.size,λa ha E=>m.froz a ha (λh=>E (h.sub G)),m.imm,λb K=>?_,?_,?_,?_⟩
  .rcases m.immNew b K with g|g|g
   .simp_all
   .exact .inr (.inl (g.sub G))
   omega
  .rintro b ⟨j,o,c,d,t⟩;cases e:H'.get j with
   |some l =>
    rw[B j l e]at t;rcases m.own b ⟨j,l,c,e,t⟩with g|g
    .exact .inl (g.sub G)
    omega
   |none =>
    rw[D j e]at t;rw[F j e]at d;exact .inl ⟨j,o,c,d,t⟩
  .intro b K E;exact m.keep b K (λh=>E (h.sub G))
  intro j o d;cases e:H'.get j with
  |some l =>
   rcases hk j (by rw[e];rfl)with g|g
   .have ⟨o0,y_⟩:=Option.isSome_iff_exists.1 g;have:=G _ _ y_;rw[d]at this;cases this;have ⟨f_,z_,q2,q3⟩:=m.objs j o y_;exact⟨f_,W j f_ z_,q2,λe=>by rw[B j f_ z_];exact q3 e⟩
   rw[d]at g;cases g
  |none=>exact⟨o,(F j e).trans d,h_ _,λ_=>⟨D j e,Z,λ_=>h_ _⟩⟩
 have L:∀ {v:Value} {a:AV},VRel w' x s H' v a->VRel w' x f (H'++H) v a:=λv_ =>
  v_.mono' (λ_ _=>rfl) (λ_ h=>h) (λid o A_=>⟨o,W id o A_,h_ _,λ_=>⟨B id o A_,Z,λ_=>h_ _⟩⟩)
 refine⟨f,⟨k2.imm,λj o d=>?_,λj n o l b c J d k t i=>?_,k2.glob⟩,o_,λv a h=>L h⟩
 .cases e:H'.get j with
  |some l =>
   rw[W j l e]at d;obtain rfl:l=o:=Option.some.inj d;exact(k2.obj j l e).keep (B j l e) (λ_ _ _ _=>⟨Z,λh=>h⟩) (λr _ a _ v Q=>L Q)
  |none =>
   rw[F j e]at d;refine(p.obj j o d).keep (D j e) (λP z u4 r=>⟨m.keep P r (y j o P z d e u4),λe3 hi=>?_⟩) (λr _ a _ v Q=>Q.mono p o_);rcases m.immNew P hi with g|g|g
   .exact e3 g
   .exact y j o P z d e u4 g
   omega
 cases e:H'.get j with
 | some q =>
  rw[B j q e]at t;cases u:H'.get n with
  |some r4 =>
   rw[B n r4 u]at i;exact k2.inj j n q r4 b c J e u t i
  |none =>
   rw[D n u]at i;rw[F n u]at k;have r:=p.lt ⟨n,l,J,k,i⟩;rcases m.own b ⟨j,q,c,e,t⟩with g|g
   .exact absurd g (y n l b J k u i)
   omega
 | none =>
  rw[D j e]at t;rw[F j e]at d;cases u:H'.get n with
  |some r4 =>
   rw[B n r4 u]at i;have r:=p.lt ⟨j,o,c,d,t⟩;rcases m.own b ⟨n,r4,J,u,i⟩with g|g
   .exact absurd g (y j o b c d e t)
   omega
  |none =>
   rw[D n u]at i;rw[F n u]at k;exact p.inj j n o l b c J d k t i
theorem fY.conv{P}{f}{args}{H}{Q n}{PP PP'}(h:fY P f args H Q PP)(u:∀r H',Q r H'->∃H2,(∀j,H2.get j=H'.get j)/\n r H2)(x:∀c H',PP c H'->∃H2,(∀j,H2.get j=H'.get j)/\PP' c H2):fY P f args H n PP' :=λI ι w vs p t o=>(h I _ w _ p t o).mono λ_ _ h=>by
  rcases h with⟨r,H',k,b,v,e,q,s,d,i⟩|⟨c,H',k,b,e,q,d,i⟩
  .have ⟨H2,m,a⟩:=u r _ q;have ⟨l,g⟩:=d.congr m;exact .inl ⟨r,H2,k,b,v,e,a,s.mono d g,l,i.trans g⟩
  have ⟨H2,m,a⟩:=x _ _ q;have ⟨l,g⟩:=d.congr m;exact .inr ⟨c,H2,k,b,e,a,l,i.trans g⟩
theorem fY.frame{R}{PP}(h:fY P f args H0 R PP)(d:Sub H0 H)(s:dN H0)(y:∀a∈args,Clo H0 a)
  (g:∀r H1,R r H1->∀id,(H1.get id).isSome=T->(H0.get id).isSome=T\/H.get id=ζ) (l:∀c H1,PP c H1->∀id,(H1.get id).isSome=T->(H0.get id).isSome=T\/H.get id=ζ) :
  fY P f args H (λr H'=>∃K,R r K/\H'=K++H) (λc H'=>∃K,PP c K/\H'=K++H):=by
 intro I t w F j B x;refine(h I t w F (j.restrict d s) B (λi v a G q=>(x i v a G q).restrict d (y a (m7 q)))).mono ?_;rintro e w' (⟨r,H',E,k,v,rfl,n,k1,o,p⟩|⟨c,H',E,k,rfl,n,o,p⟩)
 .have ⟨m,u,z,D⟩:=T7 j d o p (g r H' n)
  grind
 have ⟨m,u,z,D⟩:=T7 j d o p (l c H' n)
 grind
end
section
def Te(P:Program)(r4:Nat)(PP:ef->aF->aF->Prop)(ops rest:List Oper)(E:dG)(H:aF)(K:List Rec->List Prop->dG->aF->Prop):Prop:=∃rs Fs E' H',DChainP P r4 ops PP rest E H rs Fs E' H'/\K rs Fs E' H'
theorem LY{P}{r4}{PP}{ops}{E}{H}{K}(h:K [] [] E H):Te P r4 PP ops [] E H K:=⟨_,_,_,_,.nil,h⟩
theorem wA{P}{r4}{PP}{ops rest}{o}{E}{H}{K}{r}{F}(h:DStepP P r4 ops PP o E H r F)(B:jI r4 o.dst=T)
  (d:Te P r4 PP ops rest (nR E o.dst r.v) (r.W++H) (λa b E' H'=>K (r::a) (F::b) E' H')):Te P r4 PP ops (o::rest) E H K:=by
 have ⟨a,b,E',H',c,e⟩:=d;exact⟨_,_,_,_,.cons h B c,e⟩
theorem lu{P}{r4}{PP}{ops rest}{o}{E}{H}{K}{r}(h:DStep P r4 ops o E H r)(B:jI r4 o.dst=T)
  (c:Te P r4 PP ops rest (nR E o.dst r.v) (r.W++H) (λa b E' H'=>K (r::a) (True::b) E' H')):Te P r4 PP ops (o::rest) E H K:=wA (.old T_ h) B c
theorem zE{P}{G0}{r4 id}{Q}{ops}{E}{H}(PP)(d a B)(i:yo d ops=T)(g:P.follows .mixedOrders=T)
  (j:∀e c H1 H2,(∀t∈d,c.get t=E.get t)->Shp a H H1->(∀id∈B,H1.get id=H.get id)->PP e H1 H2->Q (.panic e) c H2)
  (h:Te P r4 PP ops.toList ops.toList E H (λb f E' H'=>(TB ops.toList b=T/\Ur a H b=T/\yn B b=T)/\(dv f->Q .normal E' H'))):fW P G0 r4 (.region id ops T) Q E H:=by
 have ⟨b,f,E',H',n,⟨m,l,o⟩,k⟩:=h;exact Y7 g n m _ _ l o _ i j k
section
variable{G0:aF}{r4:Nat}{PP:ef->aF->aF->Prop}{ops rest:List Oper}{E:dG}{K:List Rec->List Prop->dG->aF->Prop}{dst:Option Tmp}{op:Op}{ty:TypeId}{pos:String}{af:Array Edge}{v:AV}{w:Nat×Ob}
theorem Pr(R:List Nat)(h:∀H1:aF,(∀id,uF (A R) id=T->H1.get id=H.get id)->cP P r4 ⟨dst,op,ty,pos,af,ζ⟩ (restr E (jD ops ⟨dst,op,ty,pos,af,ζ⟩)) H1 v H1)(D:Te P r4 PP ops rest (nR E dst v) H (λrs Fs E' H'=>K (⟨v,A R,[]⟩::rs) (True::Fs) E' H'))(B:jI r4 dst=T:=by rfl):Te P r4 PP ops (⟨dst,op,ty,pos,af,ζ⟩::rest) E H K:=lu (r:=⟨v,A R,[]⟩) (DStep.plain Z h) B D
theorem Pw(R:List Nat)(h:∀H1:aF,(∀id,uF (A R) id=T->H1.get id=H.get id)->cP P r4 ⟨dst,op,ty,pos,af,ζ⟩ (restr E (jD ops ⟨dst,op,ty,pos,af,ζ⟩)) H1 v (w::H1))(D:Te P r4 PP ops rest (nR E dst v) (w::H) (λrs Fs E' H'=>K (⟨v,A R,[w]⟩::rs) (True::Fs) E' H'))(B:jI r4 dst=T:=by rfl):Te P r4 PP ops (⟨dst,op,ty,pos,af,ζ⟩::rest) E H K:=lu (r:=⟨v,A R,[w]⟩) (DStep.plain Z h) B D
end
end
section
abbrev Sb(G:Entry)(Q:AV->aF->Prop):Ending->World->Prop:=λe w'=>∃r H' D B v,e=.returned v/\Q r H'/\VRel w' D B H' v r/\Rel D B H' w'/\Step G.I G.ι G.H G.w D B H' w'
def DWp(P:Program)(fn:Func)(G0:aF)(r4:Nat)(Q:AV->aF->Prop)(c:Code)(E:dG)(H:aF):Prop :=∀G:Entry,G.H=G0->G.ds=[]->∀a w,St G r4 E H a w->c.wpIn Fence.wide 0 P (bodyPostM Fence.wide 0 P fn (Sb G Q)) a w
section
variable{fn:Func}{G0 H:aF}{r4:Nat}{Q:AV->aF->Prop}{E:dG}
theorem CJ{G}{e}{a}{w}(n:G.H=G0)(B:G.ds=[])(h:OG P fn G0 Q e E H)(m:St G r4 E H a w):bodyPostM Fence.wide 0 P fn (Sb G Q) e a w:=by
 have ⟨o,r,g,r',H'',b,K⟩:=h;have c:LeavesInM Fence.wide 0 P fn a.tmps (Sb G Q) a.defers .returning w:=by
  have ⟨I,D,k,f,l⟩:=m.rel;refine xL (B▸m.defers) k f l ?_;intro W i d j;have ⟨v,J,p⟩:=g a _ _ _ i j;have ⟨I2,F,L,k2,R⟩:=b G n _ _ _ v i d p
  grind
 rcases o with rfl|rfl
 .exact c
 exact c
theorem zt{x y}(h:fW P G0 r4 x (zJ (λg H1=>DWp P fn G0 r4 Q y g H1) (OG P fn G0 Q)) E H):DWp P fn G0 r4 Q (.seq x y) E H:=by
 intro G c d a w i;refine wpIn_seq (wpIn_mono (h G c a w i _ (.inl Z)) ?_);rintro e B w' ⟨E',H',f,b⟩;cases e with
 |normal=>exact f G c d _ _ b
 |exit id=>exact CJ c d f b
 |goto l=>exact CJ c d f b
 |ret=>exact CJ c d f b
 |panic ch=>exact CJ c d f b
 |outgrown=>exact CJ c d f b
theorem aU.bodyD(k:P.funcs[f]?=A fn)(o:fn.body=A c)(D:fn.ntmps=r4)(B:C args<=r4)(h:DWp P fn H r4 Q c (oN args) H):aU P f args H Q:=by
 intro I g w b j E i;refine callsIn_wide.1 (callsIn_of_wp_marks (n:=0) k o T_ ?_);have d:St ⟨I,g,H,w,[]⟩ r4 (oN args) H {tmps:=b++Array.replicate (fn.ntmps - b.size) undef,defers:=[]} w:=by
  refine⟨uM.nil _ _ _,?_,I,g,j,Step.refl _ _ _ _,λt a n=>?_⟩
  ·grind
  have m:=xQ n;have e:t<b.size:=G_
  have l:=Array.getElem?_eq_getElem e;exact⟨b[t],by grind,i t _ a l m⟩
 exact h _ Z Z _ w d
end
def dw(P:Program)(F:FuncId)(args:List AV)(H:aF)(u:FrameMode)(K:aF->Prop):Prop :=∀(I:Nat->Prop) (ι:mD) (w:World) (vs:Array Value),Rel I ι H w->vs.size=C args->(∀(i:Nat) (v:Value) (a:AV),vs[i]?=A v->args[i]?=A a->VRel w I ι H v a) ->
  CallsDIn Fence.wide 0 P F vs u w λe E w'=>∃v H' D B,e=.returned v/\settle E=.returning/\K H'/\Rel D B H' w'/\Step I ι H w D B H' w'
def Aq(P:Program)(fn:Func)(G0 H0:aF)(F:FuncId)(cs:List AV)(Q:AV->aF->Prop)(e:Exit)(E:dG)(H:aF):Prop :=∃u B H1,((e=.normal\/e=.ret)/\u=.returning\/∃ch,e=.panic ch/\u=.panicking ch)/\cH H0 E H B H1 /\
  dw P F cs H1 u λH2=>∃r,(∀(a:Act) (w:World) (I:Nat->Prop) (ι:mD),Rel I ι H2 w->lS w I ι H2 B a->∃v,(results fn a.tmps).run P w=.ok v w/\VRel w I ι H2 v r)/\∃r' D,Fin G0 H2 r D r'/\Q r' D
section
variable{fn:Func}{G0 H:aF}{r4:Nat}{Q:AV->aF->Prop}{E:dG}
theorem Eu{id:Nat}{A_ y_:Oper}{ops:Array Oper}{rest:Code}{l:Array Operand}{at_:Array TypeId}{d:Tmp}{cs:List AV}(z:ops.toList=[A_,y_])(hg1:A_.guard=ζ)(R:A_.dst=A d)(δ:Nat.blt d r4=T)(ho1:A_.op=.makeFunc (.func F) #[] l)
  (hg2:y_.guard=ζ) (κ:y_.dst=ζ) (ho2:y_.op=.defer {callee:=.value (.tmp d),args:=#[],argTypes:=at_}) (hv:zF E l.toList=A cs)
  (hc:∀(args:Array Value) (w:World),(callFunc F args).run P w=.ok (.enter F args) w)
  (h:fW P H r4 rest (Aq P fn G0 H F cs Q) ((d,.clo F cs)::E) H):DWp P fn G0 r4 Q (.seq (.region id ops η) rest) E H:=by
 intro G hG hd a w hs;refine wpIn_seq (wpIn_region_list ?_);rw[z];refine wpListIn_plain hg1 λK1 τ=>?_;refine hs.op (ro:=ζ) (by rw[R];exact δ) (iC ho1 (oE hv)) ?_ (.inl Z);rintro r H' j q ⟨rfl,rfl⟩ k;refine τ j q ?_;rw[R]at k;refine wpListIn_plain hg2 λK2 σ=>?_;refine Oper.wpW_in (ro:=ζ) (.inl Z) ?_;have ⟨I1,f_,o,B,i_⟩:=k.rel;have ⟨c1,ρ,hv1⟩:=i_ d _ (dG.get_cons_same _ _ _);have hev:j.eval (.tmp d)=c1:=by simp[Act.eval,ρ]
 cases hv1 with
 | @clo _ K _ hl hh =>
  unfold Oper.wpW execOp;simp only[ho2,resolve,hev,Deferred.ofValue,Sem.run_bind,Sem.run_pure,Result.andThen_ok,Oper.uponW,κ,Act.put];refine σ _ q ?_;show Exit.then _ _ .normal _ q
  let dd:Deferred:={target:=.fn (.func F) K,args:=#[]++(#[]:Array Operand).map j.eval}
  have d_:St ⟨I1,f_,H',q,dd::j.defers⟩ r4 ((d,.clo F cs)::E) H' {j with defers:=dd::j.defers} q :=
   ⟨uM.nil _ _ _,k.size,I1,f_,o,Step.refl _ _ _ _,i_⟩
  refine wpIn_mono (h _ Z _ q d_ ζ (.inl Z)) ?_;rintro e J w' ⟨E',H2,⟨u,E1,H1,n,I,W⟩,z_⟩;have L:=I _ Z r4 J w' z_;have p:u≠.run->LeavesInM Fence.wide 0 P fn J.tmps (Sb G Q) J.defers u w':=by
   intro hu;have ⟨I3,ι3,hr3,o_,γ⟩:=L.rel;refine AW hu L.defers hr3 o_ γ ?_;intro w4 y g β;refine⟨hu,.inr ⟨(λhx=>by cases hx),.func F,K,F,K,Z,?_,λ_ _=>trivial,?_⟩⟩
   .show (invoke (.fn (.func F) K) (#[]++(#[]:Array Operand).map j.eval)).run P w4=_;simp only[invoke,Array.map_empty,Array.empty_append,hc]
   refine(W I3 ι3 w4 K y X (λi v b hv hb=>(hh i v b hv hb).mono o g)).mono ?_;rintro e2 u' w5 ⟨v,H5,I5,m,rfl,c_,⟨r,u_,r',H6,D,hq⟩,hr5,f⟩;show LeavesInM Fence.wide 0 P fn J.tmps (Sb G Q) j.defers (settle u') w5;rw[c_];have s:Step G.I G.ι G.H G.w I5 m H5 w5:=(B.trans g).trans f;have hm1:uM [] G.w w5 j.defers:=(hd▸k.defers).step o (g.trans f);refine xL hm1 hr5 s (λt v ht=>let ⟨c,x1,x2⟩:=β t v ht;⟨c,x1,x2.mono y f⟩) ?_;intro w7 v_ x he7;have ⟨v,h1,h2⟩:=u_ J w7 I5 m v_ he7;have ⟨I8,ι8,k1,k2,k3⟩:=D G hG I5 m w7 v v_ x h2
   grind
  rcases n with⟨rfl|rfl,rfl⟩|⟨ch,rfl,rfl⟩
  .exact p H_
  .exact p H_
  exact p H_
end
end
end Go.Abs
namespace Go.Abs
open Go.Proofs
variable{d:Tmp}{E:dG}
section
section
variable{P:Program}{G0:aF}{r4:Nat}{Q:Exit->dG->aF->Prop}{H:aF}
def WK(P:Program)(G0:aF)(r4:Nat)(c:Code)(Q:Exit->dG->aF->Prop)(E:dG)(H:aF):Prop :=∀G:Entry,G.H=G0->∀a w,St G r4 E H a w->c.wpIn (RF ζ) 0 P (λe B w'=>(∃E H,Q e E H/\St G r4 E H B w')/\B.defers=a.defers) a w
def ALN(P:Program)(G0:aF)(r4:Nat)(ops:Array Oper)(K:dG->aF->Prop)(l:List Oper)(E:dG)(H:aF):Prop :=∀G:Entry,G.H=G0->∀a w,St G r4 E H a w->∀Q:Exit->Act->World->Prop,(∀E H B w',K E H->St G r4 E H B w'->B.defers=a.defers->Q .normal B w')->wpListIn (RF ζ) 0 P ops Q l a w
theorem HC{ops}{K}(h:K E H):ALN P G0 r4 ops K [] E H:=λ_ _ a w b _ c=>c _ _ a w h b Z
theorem St.opN{G}{a}{w}{o}{R}(d:St G r4 E H a w)(D:jI r4 o.dst=T)(h:nv P r4 o E H R){K}{Q}
  (l:∀r H' B w',R r H'->St G r4 (nR E o.dst r) H' B w'->B.defers=a.defers->K B w'):o.wpIn (RF ζ) 0 P a w K Q:=by
 refine Oper.wpW_in (.inl Z) ?_;have ⟨I,ι,g,e,j⟩:=d.rel;refine h a w I _ T_ d.size g j K Q ?_;intro c w' m f r H' n k i b;refine l r _ _ _ n ⟨?_,?_,m,f,i,e.trans b,lS.put g b j k (by rw[d.size];exact D)⟩ (mN _ _ _)
 .rw[mN];exact d.defers.step g b
 have:=d.size;cases o.dst<;>simpa[Act.put]using this
theorem aA6{ops}{K}{o}{rest}{R}(m:o.guard=ζ)(D:jI r4 o.dst=T)(h:nv P r4 o E H R)(k:∀r H',R r H'->ALN P G0 r4 ops K rest (nR E o.dst r) H'):ALN P G0 r4 ops K (o::rest) E H:=by intro G j a w l Q i;refine wpListIn_plain m λJ n=>?_;exact l.opN D h λr H' I w' g f e=>n _ _ (k r _ g G j _ _ f Q λE H B F d c b=>i E H _ _ d c (b.trans e))
theorem O5{ops}{K}{o}{rest}{v}{H2}(a:o.guard=ζ)(B:o.dst=A d)(c:Nat.blt d r4=T)(h:cP P r4 o E H v H2)(e:ALN P G0 r4 ops K rest ((d,v)::E) H2):ALN P G0 r4 ops K (o::rest) E H :=aA6 a (by rw[B];exact c) h λr H' ⟨b,f⟩=>by subst b f;rw[B];exact e
theorem Rm{ops}{K}{o}{rest}{v}{H2}(d:o.guard=ζ)(B:o.dst=ζ)(h:cP P r4 o E H v H2)(a:ALN P G0 r4 ops K rest E H2):ALN P G0 r4 ops K (o::rest) E H :=aA6 d (by rw[B];rfl) h λr H' ⟨c,b⟩=>by subst c b;rw[B];exact a
theorem sP{id}{ops}(h:ALN P G0 r4 ops (λE H=>Q .normal E H) ops.toList E H):WK P G0 r4 (.region id ops η) Q E H:=λG c a w d =>
 wpIn_region_list (h G c a w d _ λE H B w' q s b=>⟨⟨E,H,q,s⟩,b⟩)
theorem MD{x y}(h:WK P G0 r4 x (zJ (WK P G0 r4 y Q) Q) E H):WK P G0 r4 (.seq x y) Q E H:=by intro G c a w g;refine wpIn_seq (wpIn_mono (h G c a w g) ?_);rintro e B w' ⟨⟨f,d,q,s⟩,b⟩;cases e<;>first|exact wpIn_mono (q G c _ _ s) (λe a w ⟨i,j⟩=>⟨i,j.trans b⟩)|exact⟨⟨f,d,q,s⟩,b⟩
theorem UX{id}{c}(h:WK P G0 r4 c (MI id Q) E H):WK P G0 r4 (.block id c) Q E H:=by
 intro G f a w i;refine wpIn_block (wpIn_mono (h G f a w i) ?_);rintro e B w' ⟨⟨g,d,q,s⟩,j⟩;cases e<;>try exact⟨⟨g,d,q,s⟩,j⟩
 simp only[MI]at q;simp[Exit.inBlock]
 split
 .rename_i b;subst b;rw[pW]at q;grind
 rename_i b;rw[kE b]at q;grind
theorem OA{c}{x y}{b}(j:aQ E c=A (.pv (.bool b)))(g:b=T->WK P G0 r4 x Q E H)(k:b=η->WK P G0 r4 y Q E H):WK P G0 r4 (.cond c x y) Q E H:=by intro G f a w d;have ⟨I,ι,D,B,h⟩:=d.rel;have i:=(aJ h j).bool_inv;exact wpIn_cond_split i (λe=>g e G f a w d) (λe=>k e G f a w d)
end
section
variable{P:Program}{fn:Func}{H:aF}{r4:Nat}{F:FuncId}{args:List AV}{K:aF->Prop}
def aG0(H:aF)(K:aF->Prop)(e:Exit)(E':dG)(H':aF):Prop:=(e=.normal\/e=.ret)/\∃H2,Fin H H' (.tup []) H2 (.tup [])/\K H2
theorem MG{id:Nat}{o:Oper}{ops:Array Oper}{e_:Code}{u4:Array TypeId}{u:FrameMode}{x:PV}{vx:Value}(hf:P.funcs[F]?=some fn)(hb:fn.body=some (.seq (.region id ops false) e_))(hN:fn.ntmps=r4)(hlen:args.length<=r4)(hr0:fn.results=#[])
  (z:ops=#[o]) (hg:o.guard=none) (hd:o.dst=some d) (W:Nat.blt d r4=true) (ho:o.op=.call {callee:=.builtin .recover,args:=#[],argTypes:=u4})
  (hx:∀(w:World) (I:Nat->Prop),PRep w I vx x) (f_:(u=.returning/\vx=.nilIface)\/(∃t,u=.panicking (ms t)/\vx=.iface t (.agg #[])))
  (h:WK P H r4 e_ (aG0 H K) ((d,.pv x)::oN args) H):dw P F args H u K:=by
 intro I r w k hr hl hv;refine callsDIn_of_wpSIn hf hb T_ ?_;intro b p c;refine wpSIn_seq (wpSIn_region ?_);subst z;have f:St ⟨I,r,H,w,[]⟩ r4 (oN args) H {tmps:=k++Array.replicate (fn.ntmps - k.size) undef,defers:=[]} w:=by
  refine⟨uM.nil _ _ _,?_,I,r,hr,Step.refl _ _ _ _,λt a ht=>?_⟩
  ·grind
  have c_:=xQ ht;have L:t<k.size:=by grind
  have f_:k[t]?=some k[t]:=Array.getElem?_eq_getElem L;exact⟨k[t],by grind,hv t _ a f_ c_⟩
 obtain ⟨a,c_⟩:∃a:Act,a={tmps:=k++Array.replicate (fn.ntmps - k.size) undef,defers:=[]}:=X_;rw[<-c_]at f |-;have q:a.defers=[]:=by rw[c_]
 have D:St ⟨I,r,H,w,[]⟩ r4 ((d,.pv x)::oN args) H (a.put (some d) vx) w:=by
  obtain ⟨I1,v_,G,u_,k3⟩:=f.rel;refine⟨by rw[mN];exact f.defers,?_,I1,v_,G,u_,?_⟩
  ·have:=f.size
   simpa[Act.put]using this
  exact lS.put (d:=some d) G (Step.refl _ _ _ _) k3 (.pv (hx _ _)) (by rw[f.size];exact W)
 have l:∀s,settle s=.returning->e_.wpSIn Fence.wide 0 P (bodyPostS P fn b p λe s m=>∃v n d_ i,e=.returned v/\settle s=.returning/\K n/\Rel d_ i n m/\Step I r H w d_ i n m) (a.put (some d) vx) ({b with mode:=s}::p) w:=by
  intro s B;refine wpSIn_of_wpIn Z (wpIn_mono (h ⟨I,r,H,w,[]⟩ Z _ w D) ?_);rintro e a' m ⟨⟨E',n,⟨he,H2,y,hK⟩,z_⟩,hdf⟩;obtain ⟨I3,y_,G,u_,k3⟩:=z_.rel;obtain ⟨I4,R,q1,q2,q3⟩:=y ⟨I,r,H,w,[]⟩ Z I3 y_ m (.tuple #[]) G u_ (.tup Z (by simp));have Q:a'.defers=[]:=hdf.trans ((mN _ _ _).trans q);have i_:a'.defers=[]/\∃E,({b with mode:=s}::p:List Frame)={b with mode:=E}::p/\∃v,(results fn a'.tmps).run P m=.ok v m/\∃v0 n d_ i,Ending.returned v=.returned v0/\settle E=.returning/\K n/\Rel d_ i n m/\Step I r H w d_ i n m :=
   ⟨Q,s,Z,.tuple #[],by simp[results,hr0],.tuple #[],H2,I4,R,Z,B,hK,q1,q2⟩
  rcases he with rfl|rfl
  ·exact i_
  exact i_
 have A_:(execOp a.eval o).run P w=.ok .recover w:=by
  simp[execOp,ho,resolve,invoke];rfl
 have hw:Region.wanted o (yielded #[o] a.tmps)=true:=by simp[Region.wanted,hg]
 show wpOpsSIn _ _ _ _ _ [0] _ _ _;unfold wpOpsSIn;simp only[List.getElem?_toArray,List.getElem?_cons_zero,hw,if_true,A_];refine⟨λ_ _=>trivial,?_⟩;rcases f_ with⟨rfl,rfl⟩|⟨t,rfl,rfl⟩
 ·have g:recoverD (b::p)=none:=by simp[recoverD,c]
  rw[g];have hc:({b with mode:=.returning}:Frame)=b:=by rw[<-c]
  have:=l .returning Z;rw[hc]at this;rw[hd];exact this
 have g:recoverD (b::p)=some (.iface t (.agg #[]),{b with mode:=.panicking ({v:=.iface t (.agg #[]),recovered:=true}::[])}::p):=by simp[recoverD,c]
 rw[g];rw[hd];exact l (.panicking ({v:=.iface t (.agg #[]),recovered:=true}::[])) Z
end
section
variable{P:Program}{r4:Nat}{o:Oper}{H:aF}{t t' u4:TypeId}{x y:Operand}
theorem qu(e:o.op=.binOp .eql t x (.const .nilIface) t')(d:P.underlying t=A (.interface (P.methodsAt t)))(f:aQ E x=A (.pv NJ)):cP P r4 o E H (.pv (.bool T)) H :=.of_run λa w I ι _ b=>⟨.bool _,by
  have c:=(aJ b f).sat_inv;have g:a.eval (.const _)=.nilIface:=rfl;simp[execOp,e,c,g,eqGuard,Sem.run_bind,Sem.run_pure,Result.andThen_ok,run_eql_nil_nil _ _ d,Bool.or_true,Bool.true_or,if_true,Bool.not_true,Bool.false_eq_true,if_false],.pv (.bool _)⟩
theorem qv{ps:List PV}{h:TypeId}(e:o.op=.binOp .eql t x (.const .nilIface) t')(d:P.underlying t=A (.interface (P.methodsAt t)))(f:aQ E x=A (.pv (.ifa h ps))):cP P r4 o E H (.pv (.bool η)) H :=.of_run λa w I ι _ b=>⟨.bool η,by
  have ⟨cs,c,_⟩:=(aJ b f).ifa_inv;have g:a.eval (.const .nilIface)=.nilIface:=rfl;simp only[execOp,e,c,g,eqGuard,Sem.run_bind,Sem.run_pure,Result.andThen_ok,binOp,run_equal_held_nil _ _ _ _ d];rfl,.pv (.bool _)⟩
abbrev aDk:PV:=.sat λv=>∃b,v=.pointer (A ⟨b,0,ζ⟩)
theorem qx(f:o.op=.alloc u4)(c:∀w,(zeroValue u4).run P w=.ok (.agg #[]) w):cP P r4 o E H (.pv aDk) H:=by intro a w I ι _ _ g he K Q e;unfold Oper.wpW execOp;simp[f,Instr.alloc,c,newVar,newRow,Sem.run_bind,run_newObj,Sem.run_pure,Result.andThen_ok];obtain ⟨d,b⟩:=Rel.newImm (w':={w with heap:=w.heap.push _}) g Z Z Z Z;exact e _ _ _ _ _ _ ⟨Z,Z⟩ (.pv (.sat Z ⟨_,Z⟩)) d b
theorem qp(k:o.op=.store u4 x y)(l:aQ E x=A (.pv aDk))(n:aQ E y=A (.agg []))(j:∀w,(sizeOf u4).run P w=.ok 0 w):cP P r4 o E H (.tup []) H:=by
 intro a w I ι _ _ p g K Q m;have ⟨b,i⟩:=(aJ g l).sat_inv;have h:=aJ g n;generalize f:a.eval y=B at h;cases h with
 | @agg vs _ hl h1 hh =>
  have:=Array.eq_empty_of_size_eq_zero X;subst this;have d:(execOp a.eval o).run P w=.ok .skip w:=by
   simp[execOp,k,i,f];simp[Instr.storeAt,Instr.sureAddr,storeVar,j,Value.cells,storeCells]
  unfold Oper.wpW;rw[d];exact m _ w I _ _ _ ⟨Z,Z⟩ (.tup Z H_) p (Step.refl _ _ _ _)
end
theorem cH.toAny{G0 H H':aF}{E':dG}(f_:∀t v,E'.get t=A v->E.get t=A v/\Clo H' v)(u:∀id J,H'.get id=A J->∃o,H.get id=A o/\nB o J/\∀r∈J.rows,∀a∈r,a=.any)(hG:∀id,(G0.get id).isSome=T->(H'.get id).isSome=T):cH G0 E H E' H':=by
 intro G c_ r4 a w K;have ⟨I,v_,B,s,he⟩:=K.rel;have g:∀ {o J:Ob},nB o J->C J.rows=C o.rows:=λh=>by
  have:=congrArg List.length h.2.2.2
  simpa using this
 have o_:As H H':=λj J d=>by
  have ⟨o,m,f,_⟩:=u j J d;exact⟨o,m,f.1.symm,f.2.1.symm,f.2.2.1.symm,(g f).symm⟩
 refine⟨K.defers,K.size,I,v_,⟨B.imm,λid J d=>?_,λid z o J b c c' k d=>?_,B.glob⟩,?_,λt v u4=>?_⟩
 .have ⟨o,m,f,Q⟩:=u id J d;refine(B.obj id o m).keepG f.2.1 f.2.2.1 (g f) (λy P R hy=>?_) Z (λ_ _ _ _=>⟨Z,λh=>h⟩) (λi R F=>?_)
  .have:=Q [.raw y P] F_ (.raw y P) H_;cases this
  have x:i<C o.rows:=by rw[<-g f];exact(m9.1 F).1
  refine⟨o.rows[i],n_ x,?_,λk a p _ d_ v _=>?_⟩
  .have e:=congrArg (λl:List Nat=>l[i]?) f.2.2.2;simp only[r8,F,n_ x,Option.map_some,Option.some.injEq]at e;exact e.symm
  rw[Q R (m7 F) p (m7 d_)];exact .any v
 .have ⟨q,m,_⟩:=u id o k;have ⟨y_,D,_⟩:=u z J d;exact B.inj id z q y_ b c c' m D
 .refine {s with own:=λb ⟨id,J,L,d,n⟩=>?_,objs:=λid o k=>?_}
  .have ⟨o,m,_⟩:=u id J d;exact s.own b ⟨id,o,L,m,n⟩
  have ⟨o1,W,k2,A_⟩:=s.objs id o k;have ⟨J,d⟩:=Option.isSome_iff_exists.1 (hG id (by rw[<-c_,k];rfl));have ⟨o2,m,f,_⟩:=u id J d;rw[W]at m;cases m;refine⟨J,d,by rw[f.1];exact k2,λe=>?_⟩;have ⟨q1,z_,q3⟩:=A_ (by rw[<-f.1];exact e);exact⟨q1,by rw[f.2.1];exact z_,λhz=>by rw[g f];exact q3 hz⟩
 have ⟨m,f⟩:=f_ t v u4;have ⟨c,n,u_⟩:=he t v m;exact⟨c,n,u_.alike o_ f⟩
theorem aF8{P}{c}{H}{x y}{r s:AV}(g:c.results=#[x,y])(f:PM P E H x r)(e:PM P E H y s):
  ∀(a:Act) (w) (I) (ι),Rel I ι H w->lS w I ι H E a->∃v,(results c a.tmps).run P w=.ok v w/\VRel w I ι H v (.tup [r,s]):=λa w I ι d b=>by
 have ⟨v,B,D⟩:=f a w I ι d b;have ⟨u,F,G⟩:=e a w I ι d b;refine⟨.tuple #[v,u],by rw[vJ,g];simp_all,.tup Z ?_⟩
 grind
end
end Go.Abs
namespace Go.Proofs.C
open Go.Proofs.Tryz
open Go.Abs
abbrev mw(l:List UInt8):Ob:=bx 1 127 [sv (a_ l)]
abbrev nN(l:List UInt8):aF:=[(980,mw l)]
abbrev SJ:AV:=.ref 980 0 0 0
abbrev I6:ef:=ms 124
theorem Z7(l)(H):∀r∈(mw l).rows,∀a∈r,Clo H a:=H_
instance(l)(H):W_ (H) ((mw l).rows):=⟨Z7 l H⟩
theorem C2(l):dN (nN l):=dN.ofL ⟨Z7 l _,T_⟩
def ER(f:FuncId)(xs:List AV)(K:aF)(l:List UInt8)(o:Option (AV×List UInt8)):Prop :=∀H1:aF,H1.get 980=A (mw l)->Sub K H1->fY φ f xs H1 (λr H'=>∃p,o=A p/\r=p.1/\H'=nN p.2++H1) (λch H'=>o=ζ/\ch=I6/\∃q,H'=nN q++H1)
theorem ER.of{f:FuncId}{xs:List AV}{K:aF}{l:List UInt8}{o}(y:dN (nN l++K))(D:K.get 980=ζ)(B:∀a∈xs,Clo (nN l++K) a)
  (h:fY φ f xs (nN l++K) (λr H'=>∃p,o=A p/\r=p.1/\H'=nN p.2++K) (λi H'=>o=ζ/\i=I6/\∃q,H'=nN q++K)):ER f xs K l o:=by
 intro t s w;have g:Sub (nN l++K) t:=λid n d=>by
  rw[gN]at d;by_cases e:980=id
  .subst e;have:(nN l).get 980=A (mw l):=rfl;rw[this]at d;cases d;exact s
  have:(nN l).get id=ζ:=by simp[aF.get,kE e]
  rw[this]at d;exact w id n d
 have u:∀q id,(aF.get (nN q++K) id).isSome=T->((nN l++K).get id).isSome=T:=λq id c=>by
  rw[gN]at c |-;by_cases e:980=id
  .subst e;rfl
  have s:∀q,(nN q).get id=ζ:=λq=>by simp[aF.get,kE e]
  rw[s]at c |-;exact c
 have v:∀(q:List UInt8) (j:Nat),aF.get (nN q++t) j=aF.get ((nN q++K)++t) j:=λq j=>by
  rw[append_assoc,gN,gN (nN q)];cases (nN q).get j with
  |some _=>rfl
  |none =>
   simp only;rw[gN];cases e:K.get j with
   |none=>rfl
   |some n=>exact w j n e
 refine(h.frame g y B (λr H' ⟨p,_,_,x⟩ id c=>.inl (by subst x;exact u _ id c)) (λi H' ⟨_,_,q,i_⟩ id c=>.inl (by subst i_;exact u _ id c))).conv ?_ ?_
 .rintro r H' ⟨z,⟨p,m,k,rfl⟩,rfl⟩;exact⟨_,v _,p,m,k,Z⟩
 rintro i H' ⟨z,⟨m,k,q,rfl⟩,rfl⟩;exact⟨_,v _,m,k,q,Z⟩
theorem ER.yes{f}{xs}{K}{l q}{v}(h:ER f xs K l (A (v,q))){H1}(b:H1.get 980=A (mw l))(a:Sub K H1):aU φ f xs H1 (λr H'=>r=v/\H'=nN q++H1) :=((h _ b a).mono (λr H' ⟨p,e1,e2,e3⟩=>by grind) (λch H' ⟨e,_⟩=>by cases e)).calls (λ_ _ h=>h)
theorem ER.no{f}{xs}{K}{l}(h:ER f xs K l ζ){H1}(d:H1.get 980=A (mw l))(b:Sub K H1):fY φ f xs H1 (λ_ _=>False) (λa H'=>a=I6/\∃q,H'=nN q++H1) :=(h _ d b).mono (λr H' ⟨p,c,_⟩=>by cases c) (λa H' ⟨_,e,g⟩=>⟨e,g⟩)
theorem ER.tot{f}{xs}{K}{l}{o}(h:ER f xs K l o){v}{q}{d}(B:(o.getD (d,l))=(v,q)){H1}(c:H1.get 980=A (mw l))(b:Sub K H1):
  fY φ f xs H1 (λr H'=>r=v/\H'=nN q++H1/\o.isSome=T) (λa H'=>o=ζ/\a=I6/\∃q,H'=nN q++H1) :=
 (h _ c b).mono (λr H' ⟨p,e1,e2,e3⟩=>by simp_all) (λa H' h=>h)
theorem gJ(H):Sub [] H:=λ_ _ h=>by cases h
def LC(l:List UInt8):Option (AV×List UInt8):=(pF l).map λp=>(sv p.1,p.2)
def FG(l:List UInt8):Option (AV×List UInt8):=(xW l).map λp=>(iv p.1,p.2)
theorem AU(l:List UInt8)(P:C l<1000000000):ER 98 [SJ] [] l (LC l):=by
 refine ER.of (C2 l) Z m3 ?_;have K:N (a_ l)=C l:=cA l;have n:=Qb l;have b:=λH=>Pv (a_ l) H X;rw[Aa]at b;have i:=λH=>df (a_ (CL l)) (by rw[cA];omega) H;have m:N (a_ (EF l))=C (EF l):=cA _;have d:LB l=(((!θ ((58:UInt8)∈l)||uL (a_ (CL l)))||θ (jJ (a_ (CL l))<0))||θ ((C (EF l):Int)<jJ (a_ (CL l)))):=rfl;have q:nxN l=(jJ (a_ (CL l))).toNat:=rfl;have D:LC l=if LB l=T then ζ else A (sv (a_ ((EF l).take (nxN l))),(EF l).drop (nxN l)):=by rw[LC,pF];all_goals grind
 rw[D];have ⟨x,J⟩:∃x,x=a_ (CL l):=X_;have ⟨v,z⟩:∃v,v=jJ (a_ (CL l)):=X_;have ⟨e,E⟩:∃e,e=uL (a_ (CL l)):=X_;have ⟨o,I⟩:∃o,o=θ ((58:UInt8)∈l):=X_;have ⟨r,B⟩:∃r,r=EF l:=X_;simp only[<-z,<-E,<-I,<-B]at b i d q m n |-;simp only[<-J]at b i d;clear J z E I B D;refine fY.body func98 Z ntmps98 (r_ Z)<|Sz aH<|U aA<|Y pA<|Y (bC zj)<|Y (bQ N_)<|Y (kc call137 (b _))<|Y aA<|Y dO<|Y dO<|Y dO<|Y aH<|Y aH<|V aH<|U aA<|Y (kc wF (i _))<|Y aA<|Y dO<|Y dO<|Y aH<|V aH<|S<|S<|aT (t:=37) (n:=19) (A_:=LB l) ?_ ?_
 .all_goals refine Y aA<|Y iH<|Dm ?_<;>(refine Sp 24 (λs=>?_) λs=>?_)<;>(try exact w_)<;>(first|refine M<|M ?_|refine O aA<|O (S8 Z oF Z) ?_)<;>refine Y cD<|Dm ?_<;>(refine Sp 28 (λy=>?_) λy=>?_)<;>(try exact w_)<;>(first|refine M<|M ?_|refine O aA<|O cI ?_)<;>refine Y cD<|Dm ?_<;>(refine Sp 32 (λt=>?_) λt=>?_)<;>(try exact w_)<;>(first|refine M<|M<|M<|M ?_|refine O aA<|O aA<|O (gL U_)<|O iX ?_)<;>refine V cD ?_<;>(exact⟨⟨_,Z,G_⟩,Z,Z,Z⟩)
 refine Cn ?_ ?_<;>intro j
 .have k:LB l=T:=j;rw[b6 k];refine gZ<|iZ Z Z Z (ND (fs:=#[]) (places:=#[]) (v0:=.agg []) (l0:=[]) (aps:=[]) (l:=[]) Z zI zeroValue124 (.inl Z) Z (λw=>by simp) Z Z) ?_;refine iZ Z Z Z (K3 (ps:=[]) Z (dY zI Z) Z) ?_;exact qY Z Z (XT Z Z) (λch H' h=>by obtain ⟨rfl,rfl⟩:=h;exact F8 (H':=nN l) P_ ⟨Z,Z,l,Z⟩)
 have k:LB l=η:=j;rw[a8 (by rw[k];decide)];have p:=d.symm.trans k;simp only[q_,q7]at p;obtain ⟨u,rfl⟩:∃u:Nat,v=(u:Int):=⟨v.toNat,X⟩;rw[l_]at q;rw[q];have L:u<=C r:=X
 have F:(a_ r).extract 0 u=a_ (r.take u):=mR (by rw[gG,cG,cG,drop_zero,Nat.sub_zero]);have G:(a_ r).extract u (N (a_ r))=a_ (r.drop u):=mR (by rw[sN,cG,cG]);refine aB<|U aA<|Y aA<|Y aA<|Y (bM (l:=u) (h:=N (a_ r)) Z U_ Z Z Z X (h_ _) G)<|Y pA<|Y (bC zj)<|Uu (jG V_)<|Zz<|U aA<|Y aA<|Y (bM (l:=0) (h:=u) Z U_ Z Z Z (l7 _) X F)<|V aH<|aC ?_;refine OC ?_;refine cT (H':=(nN (r.drop u))) (.inr Z) Z (aI Z) P_ ?_
 simp_all
theorem Yz{l}(h:58∈l):C (EF l)<C l:=by rw[EF,p_];have:=(dropWhile_sublist (l:=l) λb=>!θ (b=58)).length_le;have:=length_pos_of_mem h;omega
theorem lO{l q}{s}(h:pF l=A (s,q)):N s+C q<C l:=by
 rw[pF]at h
 split at h
 .cases h
 next a =>
 simp[LB,q_,Bool.not_eq_false',q7,k_]at a;have B:=Yz a.1.1.1;cases h;rw[cA,m_,p_];omega
theorem kS{l q}{x}(h:xW l=A (x,q)):C q<C l/\(-9223372036854775808<=x/\x<=9223372036854775807):=by
 rw[xW]at h;cases a:pF l with
 |none=>simp_all
 |some p =>
  have ⟨s,r⟩:=p;rw[a]at h;simp only at h
  split at h
  .cases h
  cases h;have:=lO a;exact⟨X,Y8 s⟩
theorem oP(l:List UInt8)(u:C l<1000000000):ER 99 [SJ] [] l (FG l):=by
 refine ER.of (C2 l) Z m3 ?_;have c:=AU l u;have b:=λs q=>lO (l:=l) (s:=s) (q:=q);have g:LC l=(pF l).map λp=>(sv p.1,p.2):=rfl;have n:FG l=(match pF l with
  |none=>ζ
  |some (s,r)=>if uL s=T then ζ else A (iv (jJ s),r)):=by
  rw[FG,xW]
  grind
 rw[n];rw[g]at c;generalize pF l=B at c b |-;clear g n;refine fY.body func99 Z ntmps99 (r_ Z)<|Sz aH<|S ?_;rcases B with _|⟨s,q⟩
 .have c:ER 98 [SJ] [] l ζ:=c;refine gZ<|iZ Z Z Z (iA Z Z) ?_;exact qY Z Z (eS Z Z nQ Z (c.no Z (gJ _))) (λt o h=>by obtain ⟨rfl,q,rfl⟩:=h;exact F8 (H':=nN q) P_ ⟨Z,Z,q,Z⟩)
 have c:ER 98 [SJ] [] l (A (sv s,q)):=c;have b:=b s q Z;have f:=λH=>df s X H;have ⟨e,k⟩:∃e,e=uL s:=X_;have ⟨v,j⟩:∃v,v=jJ s:=X_;simp only[<-k,<-j]at f |-;clear k j;refine Rd aA<|Y (kc nQ (c.yes Z (gJ _)))<|Y (kc wF (f _))<|Y aA<|Y dO<|Y dO<|Y aH<|V aH<|S<|U aA<|V (S8 Z oF Z)<|Cn ?_ ?_<;>intro d
 .have i:e=T:=d;rw[b6 i];refine gZ<|iZ Z Z Z (ND (fs:=#[]) (places:=#[]) (v0:=.agg []) (l0:=[]) (aps:=[]) (l:=[]) Z zI zeroValue124 (.inl Z) Z (λw=>by simp) Z Z) ?_;refine iZ Z Z Z (K3 (ps:=[]) Z (dY zI Z) Z) ?_;exact qY Z Z (XT Z Z) (λt o h=>by obtain ⟨rfl,rfl⟩:=h;exact F8 (H':=nN q) P_ ⟨Z,Z,q,Z⟩)
 have i:e=η:=d;rw[a8 F_];refine aB<|U aA<|V aH<|aC ?_;refine OC ?_;refine cT (H':=(nN q)) (.inr Z) Z (aI Z) P_ ?_
 simp_all
end Go.Proofs.C
