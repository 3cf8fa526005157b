/-
  Parts of the proof. Conditions: each theorem's own.
-/
import Derived.Test.YtopnleflllkbmaaGreatDoorKX5sM4
set_option linter.unusedVariables false
set_option linter.unusedSimpArgs false
set_option maxRecDepth 100000
set_option maxHeartbeats 8000000
open List Nat
open List renaming length->C
open Option renaming some->N,none->ζ
open Bool renaming true->A,false->η
open ByteArray renaming size->T,data->μ
open Array renaming toList->ν
open Decidable renaming decide->θ
open Go.IntKind renaming i64->ξ
open Go.Proofs.Tryz renaming prog->φ
open List renaming drop_eq_getElem_cons->Â,all_eq_true->Ã,append_assoc->Ä,mem_cons_of_mem->Å,take_add_one->Æ,map_append->Ç,eq_nil_of_length_eq_zero->È,length_singleton->É,take_length->Ê,all_cons->Ë,append_nil->Ì,mem_cons_self->Í,mem_range->Î,dropWhile_sublist->Ï,dropWhile_cons->Ð,takeWhile_cons->Ñ,drop_zero->Ò,any_eq_false->Ó,flatMap_cons->Ô,any_eq_true->Õ,length_nil->Ö,take_left'->Ø
open Go.Proofs.YtopnleflllkbmaaGreatDoor
namespace Go.Proofs
open Tryz
theorem gG:type_of% call113:=call113
theorem wS:type_of% call138:=call138
theorem sL:type_of% call146:=call146
theorem nW:type_of% call98:=call98
theorem qJ:type_of% isAgg174:=isAgg174
theorem pO:type_of% isAgg46:=isAgg46
theorem cP:type_of% isAgg53:=isAgg53
theorem bJ:type_of% sizeOf53:=sizeOf53
theorem zW:type_of% underlying124:=underlying124
theorem oK:type_of% underlying163:=underlying163
end Go.Proofs
namespace Go.Proofs.C
open Go.Proofs.Tryz
open Go.Abs
theorem aCl(g)(l)(u):aU Tryz.prog 208 [.ref 2001 0 0 0] (zN g l u) (λr H'=>r=iv (l.length)/\H'=zN g l u):=by refine Bd func208 Z ntmps208<|Sz aH<|U aA<|Y pQ<|Y (bC iP)<|Y (bT eL)<|Y (by exact eB Z dN Z Z Z)<|V aH<|aC ?_;refine cR (.inr Z) Z (aI Z) Fin.refl ?_;exact Qq
abbrev Sj(l:List UInt8)(g:Nat)(u:Bool):Ob:=EU (.osl 2002 g 0 (C l)) u
abbrev Si(l:List UInt8)(g:Nat):Ob:=⟨g,1,5,fZ l⟩
theorem aFK{g c}{l b}{u u'}{id}(h:(aF.get (zN g l u) id).isSome=A):(aF.get (zN c b u') id).isSome=A:=Ad h
theorem aFJ{g}{l}{u u':Bool}{id}(h:(aF.get (Hh g l u) id).isSome=A):(aF.get (zN g l u) id).isSome=A:=by
 simp[Hh,zN,aF.get]at h |-
 grind
theorem aDu{H}{g}{l}{u}(s)(b:H.get 2001=N (Sj l g u))(a:H.get 2002=N (Si l g))(c:C l+T s<70368744177664):aU φ 132 [.ref 2001 0 0 0,sv s] H (λr H'=>r=.tup [iv (T s),.pv N0]/\H'=zN (g+1) (l++ν (μ s)) A++H) :=aU.frame (jN g l u s c) (Sub.of2 b a) (dO.ofL ⟨(gT Z Z),(eV _ _),T_⟩) u3 (λid h=>.inl (aFK h))
theorem aCk{H}{g}{l}{u}(a:H.get 2001=N (Sj l g u))(b:H.get 2002=N (Si l g)):RC 208 [.ref 2001 0 0 0] (iv (C l)) H :=aU.frameS (aCl g l u) (Sub.of2 a b) (dO.ofL ⟨(gT Z Z),(eV _ _),T_⟩) u3
theorem aBg{H}{g}{l}{u}(b:H.get 2001=N (Sj l g u))(a:H.get 2002=N (Si l g))(c:C l<70368744177664):aU φ 133 [.ref 2001 0 0 0] H (λr H'=>r=sv ⟨l.toArray⟩/\H'=Hh g l u++H) :=aU.frame (SG g l u c) (Sub.of2 b a) (dO.ofL ⟨(gT Z Z),(eV _ _),T_⟩) u3 (λid h=>.inl (aFJ (u':=u) h))
def uK:Nat->Bool
 |0=>η
 |_+1=>A
def qR(l:List b8)(k:Nat):List UInt8:=(l.take k).flatMap λe=>fX e++[10]
theorem ZY{l}{k}{e}(h:l[k]?=N e):qR l (k+1)=qR l k++(fX e++[10]):=by rw[qR,Æ,h];simp[qR]
theorem w6{p:Prop}(h:p:=by simp only[cN,j6,Ö,show dC []=0 from rfl];omega):p:=h
theorem YU{e:b8}(r:gO e=A):C (fX e)<=100000:=by
 have ⟨⟨J,K⟩,o,L⟩:=vI.1 r;rw[xW]at o;have B:=JO r;by_cases q:e.op=1
 .rw[fX,b6 q,j7,j6,aS];have:=NY (o:=e.obj);show 3+_<=_;omega
 rw[a8 q,l7]at o;have ⟨t,c⟩:=o;have D:=dR t;have d:∀k:List B_,bs k=gW e->C k+dC k<=100000->C (fX e)<=100000:=λk h g=>by
  rw[fX,a8 q,<-h];exact Nat.le_trans (gE k) g
 by_cases g:e.op=2
 .rw[b6 g,tf,l7,l6,l6]at c;have six:T (aV e.x)<=7:=by rw[<-aS];show C (Lib.itoa e.x)<=7;rw[kQ _ X];exact cY X E_
  have H:T (aV e.y)<=7:=by rw[<-aS];show C (Lib.itoa e.y)<=7;rw[kQ _ X];exact cY X E_
  have f:T (⟨#[109,111,118,101]⟩:B_)=4:=rfl;exact d [⟨#[109,111,118,101]⟩,e.id,aV e.x,aV e.y] (by rw[gW,b6 g];rfl) w6
 rw[a8 g]at c;by_cases i:e.op=3
 .rw[b6 i,l7]at c;have E:=dR c.1;have I:=sF e.val;have f:T (⟨#[116,97,103]⟩:B_)=3:=rfl;exact d [⟨#[116,97,103]⟩,e.id,e.key,⟨(cZ (ν (μ e.val))).toArray⟩] (by rw[gW,a8 g,b6 i];rfl) w6
 rw[a8 i]at c;by_cases j:e.op=4
 .rw[b6 j,l7,l7,l6,l6,Ã]at c;have ⟨⟨r1,r2⟩,v⟩:=c;have G:dC e.refs<=24*C e.refs:=pV (λs u=>dR (v s u));have f:T (⟨#[114,101,102,115]⟩:B_)=4:=rfl;exact d (⟨#[114,101,102,115]⟩::e.id::e.refs) (by rw[gW,a8 g,a8 i,b6 j];rfl) (by simp only[cN,j6];omega)
 rw[a8 j]at c;by_cases m:e.op=5
 .have f:T (⟨#[100,114,111,112]⟩:B_)=4:=rfl;exact d [⟨#[100,114,111,112]⟩,e.id] (by rw[gW,a8 g,a8 i,a8 j,b6 m];rfl) w6
 rw[a8 m]at c;by_cases l:e.op=6
 .rw[b6 l,l7]at c;have F:=dR c.1;have n:=dR c.2;have f:T (⟨#[115,112,108,105,116]⟩:B_)=5:=rfl;exact d [⟨#[115,112,108,105,116]⟩,e.id,e.node,e.other] (by rw[gW,a8 g,a8 i,a8 j,a8 m,b6 l];rfl) w6
 rw[a8 l]at c;have n:=dR c;have f:T (⟨#[106,111,105,110]⟩:B_)=4:=rfl;exact d [⟨#[106,111,105,110]⟩,e.id,e.other] (by rw[gW,a8 g,a8 i,a8 j,a8 m,a8 l];rfl) w6
theorem xo(l:List b8)(H:aF)(E:C l<2^62)(y:∀e∈l,WY e):RC 145 [.pv (kU l)] (.tup [sv (eH l).1,iv (eH l).2]) H:=by
 refine Pu ?_;have I:C (l.map bL)=C l:=g_ _;refine Bd func145 Z ntmps145<|U aH<|V aH<|S<|U aA<|Y (kc call206 (W9 l _ E y))<|V iJ<|Cn ?_ ?_<;>intro m
 .have s:lV l=η:=by have h:=m;rwa [r9]at h
  rw[show eH l=(a6,1)by rw[eH,s];rfl];exact U aH<|V aH<|aC<|Ru<|Qq
 have s:lV l=A:=by have h:=m;rwa [Bool.not_eq_false']at h
 have x:=(JP s).2;have z:eH l=(a_ (sN [] l).1,(sN [] l).2):=by rw[eH,b6 s]
 refine aB<|Sz (kl 2001 IR)<|S<|S ?_;refine gK.ent (E':=[(0,.pv (kU l)),(4,.ref 2001 0 0 0)]) (H':=[(2002,⟨0,1,5,[]⟩),(2001,EU (.osl 2002 0 0 0) η)]) (Q_ 2002 1 5) ?_;refine Rd aA<|Y (fP fE)<|V aA<|aD<|bA (σ:=Nat) (λk=>([(4,.ref 2001 0 0 0),(12,.pv (kU l)),(13,iv (C (l.map bL):Int)),(14,iv (k:Int))],[(2001,Sj (qR l k) k (uK k)),(2002,Si (qR l k) k)])) (λk=>k<=C l/\sN [] l=sN (qR l k) (l.drop k)/\C (qR l k)<=20000) (λk=>C l - k) 0 ⟨k_ _,Z,k_ _⟩ ?_ ?_
 .exact(cJ.wk (Ea<|Eb<|Eb<|Eb<|T_) (Hc (gT Z Z)<|Hc (eV _ _)<|T_) T_)
 rintro k ⟨hk,f,hA⟩;refine Sz cH<|S<|Cn ?_ ?_<;>intro n
 .have g:k<C l:=I_ n
  have ⟨e,j⟩:=aQ g;have hi:=cA (f:=bL) j;have i:=m7 j;have c:=ZY j;have G:=YU (x e i);have w:l.drop k=e::l.drop (k+1):=by
   rw[Â g]
   simp_all
  rw[w,sN]at f;have K:T (a_ (fX e++[10]))=C (fX e)+1:=by rw[cB,j7];rfl
  have t:zN (k+1) (qR l k++(a_ (fX e++[10])).data.toList) A=zN (k+1) (qR l (k+1)) A:=by rw[cG,c]
  have J:C (qR l (k+1))=C (qR l k)+(C (fX e)+1):=F_
  have D:∀H,H.get 2001=N (Sj (qR l k) k (uK k))->H.get 2002=N (Si (qR l k) k)->aU φ 132 [.ref 2001 0 0 0,sv (a_ (fX e++[10]))] H (λr H'=>r=.tup [iv (T (a_ (fX e++[10])):Int),.pv N0]/\H'=zN (k+1) (qR l (k+1)) A++H):=λH B F=>by
   have:=aDu (H:=H) (a_ (fX e++[10])) B F X
   rwa [t]at this
  refine aB<|S<|aD<|U (jA ia)<|Y (fG Z cW bD Z X Z Z)<|Y (kl 6 XB)<|Uu (jH bD)<|Zz<|U (xB cW bD)<|Y (kc call207 (aCg e _ (y e i) (x e i)))<|Y aA<|Y dK<|Y dK<|Y aH<|V aH<|U aA<|V (kc nS (D _ Z Z))<|S<|aT (t:=30) (n:=7) (A_:=!θ (gC e=0)||θ ((20000:Int)<(C (qR l (k+1)):Int))) ?_ ?_
  .all_goals refine Y aA<|Y xN<|Dm ?_<;>(refine Sp 27 (λu=>?_) λu=>?_)<;>(first|exact s_|refine M<|M ?_|refine O (kc call208 (aCk (l:=qR l (k+1)) (g:=k+1) (u:=A) Z Z))<|O jB ?_)<;>refine V cE ?_<;>exact Gj (h:=by simp_all)
  refine Cn ?_ ?_<;>intro p
  .have q:gC e≠0\/20000<C (qR l k++(fX e++[10])):=by have h:=p;rw[<-c];simp only[Bool.or_eq_true,r9,q7,l6]at h;omega
   rw[b6 q]at f;rw[z,f];exact U aH<|V aH<|aC<|Ru<|Qq
  have d:¬ (gC e≠0\/20000<C (qR l k++(fX e++[10]))):=by have h:=p;rw[<-c];simp only[q_,Bool.not_eq_false',q7,l6]at h;omega
  rw[a8 d,<-c]at f;rw[<-c]at d;refine aB<|Rd iF<|V aA ?_;exact⟨k+1,⟨g,f,X⟩,X,(cJ.wk (Ea<|Eb<|Eb<|Eb<|T_) (Hc (gT Z Z)<|Hc (eV _ _)<|T_) T_)⟩
 have v:k=C l:=J_ n
 subst v;rw[drop_length,sN]at f;rw[z,f];exact aP<|U (kc nR (aBg (l:=qR l (C l)) (g:=C l) (u:=uK (C l)) Z Z X))<|Y aH<|V aH<|aC<|Ru<|Qq
theorem jl(s):(qW s).data.toList=(aV (T s)).data.toList++[58]++ν (μ s):=rfl
theorem YZ(l:List B_)(H:aF)(K:C (aO l)<35184372088832):RC 108 [.pv (aK l)] (sv ⟨(aO l).toArray⟩) H:=by
 refine Pu ?_;have G:C (l.map S_)=C l:=g_ _;have F:=AT l;refine Bd func108 Z ntmps108<|Sz aH<|Sz (kl 2001 IR)<|S<|S ?_;refine gK.ent (E':=[(0,.pv (aK l)),(3,.ref 2001 0 0 0)]) (H':=zN 0 [] η) (cJ.bld0 ⟨⟨_,Z,.same H_⟩,⟨_,Z,.same u3⟩,T_⟩) ?_;refine Rd aA<|Y (fP underlying131)<|V aA<|aD<|CT (λ(k g:Nat) (u:Bool)=>([(3,.ref 2001 0 0 0),(6,.pv (aK l)),(7,iv (C (l.map S_):Int)),(8,iv (k:Int))],zN g (aO (l.take k)) u)) (λk g u=>k<=C l) (λk g u=>C l - k) 0 0 η (k_ _) ?_ ?_
 .exact(cJ.wk (Ea<|Eb<|Eb<|Eb<|T_) (Hc (gT Z Z)<|Hc (eV _ _)<|T_) T_)
 intro k g u J;have E:=vF l k;refine Sz cH<|S<|Cn ?_ ?_<;>intro e
 .have m:k<C l:=I_ e
  have ⟨s,j⟩:=aQ m;have n:=cA (f:=S_) j;have d:=vF l (k+1);rw[eA j,qL,j7,pW,nY]at d;have I:T s<35184372088832:=X
  have h:aO (l.take (k+1))=aO (l.take k)++(aV (T s:Int)).data.toList++[58]++ν (μ s):=by
   rw[eA j,qL,jl,Ä,Ä,Ä]
  have B:C (aO (l.take k)++(aV (T s:Int)).data.toList)=C (aO (l.take k))+T (aV (T s:Int)):=F_
  have D:C (aO (l.take k)++(aV (T s:Int)).data.toList++[58])=C (aO (l.take k))+T (aV (T s:Int))+1:=G_
  refine aB<|S<|aD<|U (bQ Z SS Z Z X y7 n Z)<|Y (fK N_ (hi:=n))<|V aH<|U aA<|Y (gQ U_)<|Y (kc mE (qM (T s:Int) X X _))<|V (kc nS (jN g (aO (l.take k)) u (aV (T s:Int)) X))<|Sz (kc nQ (lE (g+1) (aO (l.take k)++(aV (T s:Int)).data.toList) A 58 X))<|Rd aA<|V (kc nS (jN (g+1+1) (aO (l.take k)++(aV (T s:Int)).data.toList++[58]) A s X))<|Rd kp<|V aA ?_;refine⟨k+1,g+1+1+1,A,X,X,?_⟩;rw[h];exact(cJ.wk (Ea<|Eb<|Eb<|Eb<|T_) (Hc (gT Z Z)<|Hc (eV _ _)<|T_) T_)
 have i:k=C l:=J_ e
 subst i;rw[Ê];exact aP<|U (kc nR (SG g (aO l) u X))<|V aH<|aC<|Rt<|Qq
def kO(l:List b8):B_×Bool:=if C l=0 then(a6,A)else((eH l).1,θ ((eH l).2=0))
theorem xn(l)(H)(E:C l<2^40)(f:∀e∈l,WY e):RC 156 [.pv (kU l)] (.tup [sv (kO l).1,bv (kO l).2]) H:=by
 refine Pu ?_;have B:C (l.map bL)=C l:=g_ _;have c:=λH=>xo l H X f;have i:C l=0->kO l=(a6,A):=λh=>by rw[kO,b6 h]
 have g:C l≠0->kO l=((eH l).1,θ _):=λh=>by rw[kO,a8 h]
 have ⟨J3,D⟩:∃J3,J3=eH l:=X_;refine Bd func156 Z ntmps156<|U aH<|V aH<|S<|U aA<|Y (fP fE)<|V cI<|Cn ?_ ?_<;>intro b
 .have d:C l=0:=I_ b
  rw[i d];exact U aH<|V aH<|aC<|Ru<|Qq
 have d:C l≠0:=J_ b
 rw[g d];exact aB<|U aA<|Y (bH Z Z call145 Z (c _))<|Y aA<|Y dK<|Y dK<|Y aH<|V aH<|U aA<|Y aA<|Y cI<|Y aH<|V aH<|aC<|Ru<|Qq
def HT:B_:=⟨#[114,101,99,111,114,100]⟩
def NO(r:j_)(J3:B_):List IV:=[.t HT,.n r.kind,.n r.author,.n r.number,.n r.clock,.t r.branch,.l r.parents,.t J3,.t r.target,.b r.yes,.n r.order,.t r.from']
def mY(r:j_):Prop:=(qY r.kind/\qY r.author/\qY r.number/\qY r.clock/\qY r.order)/\(T r.branch<2^40/\T r.target<2^40/\T r.from'<2^40)/\th r.parents/\(C r.edits<2^40/\∀e∈r.edits,WY e)/\yX r.sl/\tg r.priv
theorem Xn{r}(h:mY r)(J3):∀v∈NO r J3,okI v:=by
 have ⟨⟨f,c,g,b,e⟩,_,d,_⟩:=h;intro v a;simp[NO,l9,q8,or_false]at a;rcases a with rfl|rfl|rfl|rfl|rfl|rfl|rfl|rfl|rfl|rfl|rfl|rfl
 .exact T_
 .exact f
 .exact c
 .exact g
 .exact b
 .exact T_
 .exact d.1
 .exact T_
 .exact T_
 .exact T_
 .exact e
 exact T_
theorem jh{r}(J3):C (zY (NO r J3))=C r.parents+12:=by simp[NO,zY,fI]
def wA(r:j_):List B_:=zY (NO r (kO r.edits).1)
def rq(r:j_):Nat:=Aw (NO r (kO r.edits).1)
theorem X7(r:j_)(f:mY r)(D:C r.parents<549755813888):aU φ 107 [av (eC r)] [] (λx H'=>x=.osl 971 (rq r) 0 (C (wA r))/\H'=[(971,⟨rq r,1,9,bP (wA r)⟩)]):=by
 have d:=λH=>xn r.edits H f.2.2.2.1.1 f.2.2.2.1.2;rw[wA,rq];have ⟨J3,g⟩:∃J3,J3=(kO r.edits).1:=X_;have ⟨b,h⟩:∃b,b=(kO r.edits).2:=X_;rw[<-g,<-h]at d;rw[<-g];have B:=jh (r:=r) J3;have c:=wh (NO r J3) (Xn f J3) 0 [] (show 12<2^40 by decide) G_;rw[r8,nil_append]at c;refine Bd func107 Z ntmps107<|U (kb 1)<|V aH<|Sz (kl 970 aBU)<|U (bC DZ)<|Y (bT pO)<|Y (kc call156 (d _))<|Y aA<|Y dK<|Y dK<|Y aH<|V aH<|S ?_;refine gK.ent (E':=[(1,.ref 1 0 0 0),(3,.ref 970 0 0 0),(4,sv J3)]) (H':=(971,⟨0,1,9,[]⟩)::(970,bx 1 131 [.osl 971 0 0 0])::(1,bx 21 53 ((eC r).map .pv))::[]) ?_ ?_
 .exact (Q_ 971 1 9)
 refine Rd (gR (p:=.str HT) Z (dZ U_ Z) Z)<|Y (bC pD)<|Y (bT M_)<|Y (gR (p:=.int .i64 r.kind) Z (dZ underlying3 Z) Z)<|Y (bC F6)<|Y (bT M_)<|Y (gR (p:=.int .i64 r.author) Z (dZ underlying3 Z) Z)<|Y (bC BE)<|Y (bT M_)<|Y (gR (p:=.int .i64 r.number) Z (dZ underlying3 Z) Z)<|Y (bC F5)<|Y (bT M_)<|Y (gR (p:=.int .i64 r.clock) Z (dZ underlying3 Z) Z)<|Y (bC D0)<|Y (bT N_)<|Y (gR (p:=.str r.branch) Z (dZ U_ Z) Z)<|Y (bC pC)<|Y (bT aG)<|Y (gR (p:=aK r.parents) Z (dZ aE Z) Z)<|Y aA<|Y (gR (p:=.str J3) Z (dZ U_ Z) Z)<|Y (bC DY)<|Y (bT N_)<|Y (gR (p:=.str r.target) Z (dZ U_ Z) Z)<|Y (bC JR)<|Y (bT nU)<|Y (gR (p:=.bool r.yes) Z (dZ fO Z) Z)<|Y (bC zH)<|Y (bT M_)<|Y (gR (p:=.int .i64 r.order) Z (dZ underlying3 Z) Z)<|Y (bC yD)<|Y (bT N_)<|Y (gR (p:=.str r.from') Z (dZ U_ Z) Z)<|Y (aM ((NO r J3).map BF) Z AG Z Z Z Z Z (U5 (NO r J3)))<|V (kc wT (ov c ⟨Z,Z,T_⟩ u3))<|U (bT isAgg131)<|V aH<|aC ?_;refine cR (H':=[(971,⟨Aw (NO r J3),1,9,bP (zY (NO r J3))⟩)]) (.inr Z) Z (aI Z) P_ ?_;exact Qq
end Go.Proofs.C
section
namespace Go.Proofs
open Go.RowKit Go.Sort Go.Shelf
def aHh:Go.Shelf.Ren:=⟨λ|172=>138|244=>195|245=>196|247=>245|279=>246|280=>247|281=>248|282=>249|287=>276|316=>277|171=>79|205=>278|321=>301|322=>302|243=>134|246=>192|283=>240|284=>241|285=>242|286=>243|129=>190|317=>271|318=>272|319=>273|320=>274|337=>298|338=>299|n=>n,λ|9=>9|3=>3|75=>163|76=>164|4=>4|5=>5|167=>254|37=>159|0=>0|85=>255|2=>2|168=>257|53=>169|175=>289|46=>157|210=>292|127=>215|145=>311|143=>309|21=>21|171=>249|173=>251|212=>286|51=>213|20=>20|213=>287|232=>317|233=>318|80=>100|n=>n,λ|15=>4|16=>5|17=>2|18=>6|19=>7|n=>n⟩
theorem aHn:Go.Proofs.LaysC.n172 φ aHh:={
  mixed:=by rfl
  f129:=Tryz.func190.trans C_
  f171:=Tryz.func79.trans C_
  f172:=Tryz.func138.trans C_
  f205:=Tryz.func278.trans C_
  f243:=Tryz.func134.trans C_
  f244:=Tryz.func195.trans C_
  f245:=Tryz.func196.trans C_
  f246:=Tryz.func192.trans C_
  f247:=Tryz.func245.trans C_
  f279:=Tryz.func246.trans C_
  f280:=Tryz.func247.trans C_
  f281:=Tryz.func248.trans C_
  f282:=Tryz.func249.trans C_
  f283:=Tryz.func240.trans C_
  f284:=Tryz.func241.trans C_
  f285:=Tryz.func242.trans C_
  f286:=Tryz.func243.trans C_
  f287:=Tryz.func276.trans C_
  f316:=Tryz.func277.trans C_
  f317:=Tryz.func271.trans C_
  f318:=Tryz.func272.trans C_
  f319:=Tryz.func273.trans C_
  f320:=Tryz.func274.trans C_
  f321:=Tryz.func301.trans C_
  f322:=Tryz.func302.trans C_
  f337:=Tryz.func298.trans C_
  f338:=Tryz.func299.trans C_
  t0:=EH
  a0:=Tryz.isAgg0
  z0:=Tryz.sizeOf0
  v0:=Tryz.zeroValue0
  t2:=Tryz.underlying2
  a2:=Tryz.isAgg2
  z2:=Tryz.sizeOf2
  v2:=Tryz.zeroValue2
  t3:=Tryz.underlying3
  a3:=Tryz.isAgg3
  z3:=Tryz.sizeOf3
  v3:=tH
  t4:=fO
  a4:=nU
  z4:=Tryz.sizeOf4
  v4:=jG
  t5:=dI
  a5:=vP
  z5:=cO
  v5:=tG
  t9:=Tryz.underlying9
  a9:=Tryz.isAgg9
  z9:=Tryz.sizeOf9
  v9:=gY
  t20:=Tryz.underlying20
  a20:=wR
  z20:=Tryz.sizeOf20
  v20:=Tryz.zeroValue20
  t21:=Tryz.underlying21
  a21:=Tryz.isAgg21
  z21:=Tryz.sizeOf21
  v21:=Tryz.zeroValue21
  t37:=dN
  a37:=eL
  z37:=rA
  v37:=Tryz.zeroValue159
  t46:=lP
  a46:=Tryz.isAgg157
  z46:=BL
  v46:=uI
  t51:=Tryz.underlying213
  a51:=Tryz.isAgg213
  z51:=Tryz.sizeOf213
  v51:=Tryz.zeroValue213
  t53:=gV
  a53:=yH
  z53:=vO
  v53:=uH
  t75:=oK
  a75:=Tryz.isAgg163
  z75:=Tryz.sizeOf163
  v75:=Tryz.zeroValue163
  t76:=Tryz.underlying164
  a76:=Tryz.isAgg164
  z76:=Tryz.sizeOf164
  v76:=Tryz.zeroValue164
  t85:=Tryz.underlying255
  a85:=Tryz.isAgg255
  z85:=Tryz.sizeOf255
  v85:=Tryz.zeroValue255
  t127:=zU
  a127:=Tryz.isAgg215
  z127:=Tryz.sizeOf215
  v127:=Tryz.zeroValue215
  t143:=Tryz.underlying309
  a143:=Tryz.isAgg309
  z143:=Tryz.sizeOf309
  v143:=Tryz.zeroValue309
  t145:=Tryz.underlying311
  a145:=Tryz.isAgg311
  z145:=Tryz.sizeOf311
  v145:=Tryz.zeroValue311
  t167:=Tryz.underlying254
  a167:=Tryz.isAgg254
  z167:=Tryz.sizeOf254
  v167:=Tryz.zeroValue254
  t168:=Tryz.underlying257
  a168:=Tryz.isAgg257
  z168:=Tryz.sizeOf257
  v168:=Tryz.zeroValue257
  t171:=Tryz.underlying249
  a171:=Tryz.isAgg249
  z171:=Tryz.sizeOf249
  v171:=Tryz.zeroValue249
  t173:=Tryz.underlying251
  a173:=Tryz.isAgg251
  z173:=Tryz.sizeOf251
  v173:=Tryz.zeroValue251
  t175:=Tryz.underlying289
  a175:=Tryz.isAgg289
  z175:=Tryz.sizeOf289
  v175:=Tryz.zeroValue289
  t210:=Tryz.underlying292
  a210:=Tryz.isAgg292
  z210:=Tryz.sizeOf292
  v210:=Tryz.zeroValue292
  t212:=Tryz.underlying286
  a212:=Tryz.isAgg286
  z212:=Tryz.sizeOf286
  v212:=Tryz.zeroValue286
  t213:=Tryz.underlying287
  a213:=Tryz.isAgg287
  z213:=Tryz.sizeOf287
  t232:=Tryz.underlying317
  a232:=Tryz.isAgg317
  z232:=Tryz.sizeOf317
  v232:=Tryz.zeroValue317
  t233:=Tryz.underlying318
  a233:=Tryz.isAgg318
  z233:=Tryz.sizeOf318
  v233:=Tryz.zeroValue318
  g15:=by kernel_rfl
  g16:=by kernel_rfl
  g17:=by kernel_rfl
  g18:=by kernel_rfl
  g19:=by kernel_rfl
  t80:=Tryz.underlying100
  a80:=Tryz.isAgg100
  z80:=Tryz.sizeOf100
  v80:=Tryz.zeroValue100
  i0:=by rfl
  i2:=by rfl
  i3:=by rfl
  i4:=by rfl
  i5:=by rfl
  i9:=by rfl
  i20:=by rfl
  i21:=by rfl
  i37:=by rfl
  i46:=by rfl
  i51:=by rfl
  i53:=by rfl
  i75:=by rfl
  i76:=by rfl
  i80:=by rfl
  i85:=by rfl
  i127:=by rfl
  i143:=by rfl
  i145:=by kernel_rfl
  i167:=by kernel_rfl
  i168:=by kernel_rfl
  i171:=by kernel_rfl
  i173:=by kernel_rfl
  i175:=by kernel_rfl
  i210:=by kernel_rfl
  i212:=by kernel_rfl
  i232:=by kernel_rfl
  i233:=by kernel_rfl
  m15:=by kernel_rfl
  m16:=by kernel_rfl
  m17:=by kernel_rfl
  m18:=by kernel_rfl
  m19:=by kernel_rfl
  c0:=by kernel_rfl
  c2:=by kernel_rfl
  c3:=by kernel_rfl
  c4:=by kernel_rfl
  c5:=by kernel_rfl
  c9:=by kernel_rfl
  c20:=by kernel_rfl
  c21:=by kernel_rfl
  c37:=by kernel_rfl
  c46:=by kernel_rfl
  c51:=by kernel_rfl
  c53:=by kernel_rfl
  c75:=by kernel_rfl
  c76:=by kernel_rfl
  c80:=by kernel_rfl
  c85:=by kernel_rfl
  c127:=by kernel_rfl
  c143:=by kernel_rfl
  c145:=by kernel_rfl
  c167:=by kernel_rfl
  c168:=by kernel_rfl
  c171:=by kernel_rfl
  c173:=by kernel_rfl
  c175:=by kernel_rfl
  c210:=by kernel_rfl
  c212:=by kernel_rfl
  c213:=by kernel_rfl
  c232:=by kernel_rfl
  c233:=by kernel_rfl}
end Go.Proofs
namespace Go.Proofs.C
open Go.Proofs.Tryz
open Go.Abs
theorem RT(s)(b:T s<2^40)(H):RC 138 [sv s] (.tup [iv (qT s).1,.pv (qT s).2]) H :=Go.Abs.atoi_c aHn (G1:=4) (G2:=5) (by unfold mh;simp_all) (Z) (by unfold mh;simp_all) (Z) s b H
end Go.Proofs.C
end
namespace Go.Proofs.C
open Go.Proofs.Tryz
open Go.Abs
theorem kg(s:B_)(H:aF)(d:T s<2^40):RC 202 [sv s] (iv (W0 (ν (μ s)))) H:=by
 refine Pu ?_;have c:=RT s d;unfold qT at c;unfold W0;cases h:Lib.atoiAll (ν (μ s)) with
 |ok v =>
  simp only[h]at c;refine Bd func202 Z ntmps202<|Sz aH<|U aA<|Y (kc wS (c _))<|Y aA<|Y dK<|Y dK<|Y aH<|V aH<|S<|U aA<|V (TT Z oK Z)<|Cn ?_ ?_<;>intro b
  .cases b
  exact aB<|U aA<|V aH<|aC<|Rt<|Qq
 |range =>
  simp only[h]at c;refine Bd func202 Z ntmps202<|Sz aH<|U aA<|Y (kc wS (c _))<|Y aA<|Y dK<|Y dK<|Y aH<|V aH<|S<|U aA<|V (JA Z oK Z)<|Cn ?_ ?_<;>intro b
  .exact Sz aH<|aC<|Rt<|Qq
  cases b
 |_ =>
  simp only[h]at c;refine Bd func202 Z ntmps202<|Sz aH<|U aA<|Y (kc wS (c _))<|Y aA<|Y dK<|Y dK<|Y aH<|V aH<|S<|U aA<|V (JA Z oK Z)<|Cn ?_ ?_<;>intro b
  .exact Sz aH<|aC<|Rt<|Qq
  cases b
end Go.Proofs.C
section
namespace Go.Abs
section
variable{P:Program}{i_:Nat}{o:Oper}{E:dG}{H:aF}{t t':TypeId}{x:Operand}
abbrev aDC(b:Bool):PV:=bif b then Gl else N0
theorem TU{b}(a:o.op=.binOp .neq t x (.const .nilIface) t')(d:P.underlying t=N (.interface (P.methodsAt t)))(c:aR E x=N (.pv (aDC b))):cQ P i_ o E H (.pv (.bool b)) H:=by
 cases b
 .exact TT a d c
 exact JA a d c
end
def jM(s:B_):Int:=(qT s).1
def uT(s:B_):Bool:=match Lib.atoiAll (ν (μ s)) with
 |.ok _=>η
 |_=>A
theorem Tc(s):qT s=(jM s,aDC (uT s)):=by rw[jM,uT,qT];all_goals grind
open Go.Lib
theorem PI(b):∀(a) (n),decFrom n (a++b)=(decFrom n a).bind λx=>decFrom x b
 | [],n=>rfl
 |c::a,n=>by
  rw[List.cons_append,decFrom,decFrom];cases h:digitVal c with
  |none=>rfl
  |some d=>exact PI b a _
theorem Hm{l}{u}(D:l≠[])(E:∀b∈l,48<=b.toNat/\b.toNat<=57)(B:decFrom 0 l=N u):atoi l=N (u:Int):=by
 cases l with
 |nil=>simp_all
 |cons b r =>
  have d:decNat (b::r)=N u:=by rw[decNat,B];rfl
  have a:¬ (b == 43)=A:=λh=>by simp_all
  have c:¬ (b == 45)=A:=λh=>by simp_all
  rw[atoi,a8 c,a8 a,d];rfl
theorem ev{l}{u}(d:C l<=18)(a:l≠[])(c:∀b∈l,48<=b.toNat/\b.toNat<=57)(B:decFrom 0 l=N u):atoiAll l=.ok u:=by rw[atoiAll_short _ d,Hm a c B];rfl
end Go.Abs
namespace Go.Proofs.C
open Go.Proofs.Tryz
open Go.Abs Go.Lib
theorem eu(s)(a:T s<2^40)(H):RC 138 [sv s] (.tup [iv (jM s),.pv (aDC (uT s))]) H:=by
 have:=RT s a H
 rwa [Tc]at this
abbrev sCo:B_:=⟨#[58]⟩
theorem qw(s)(H:aF):RC 244 [sv s,sv sCo] (iv (Lib.indexByte (ν (μ s)) 58)) H:=by
 refine Pu<|Bd func244 Z ntmps244<|Sz aH<|U aA<|Y (gQ U_)<|V aH<|S<|aD<|S<|aT (t:=16) (n:=9) (A_:=θ (sCo=s)) ?_ ?_
 .all_goals refine Y aA<|Y cI<|Dm ?_<;>(refine Sp 19 (λc=>?_) λc=>?_)<;>(try contradiction)<;>refine O aA<|O aA<|O wV<|Y cE<|Da ?_<;>exact Gj (h:=by rfl)
 refine Cn ?_ ?_<;>intro d
 .have e:=b9 d;subst e;exact Sz aH<|aC<|Rt<|Qq
 refine U aA<|Y cI<|Da<|Cn ?_ ?_<;>intro b
 .exact U aA<|Y aA<|Y (cL Z U_ Z Z X y7 (show 0<T (⟨#[58]⟩:B_) from Nat.zero_lt_one) Z)<|Y (kc call250 (A3 s 58 _))<|V aH<|aC<|Rt<|Qq
 cases b
def vp(s:B_):AV:=if Lib.indexByte (ν (μ s)) 58 = -1 then .tup [sv s,sv ⟨#[]⟩,bv η]else .tup [sv (s.extract 0 (Lib.indexByte (ν (μ s)) 58).toNat),sv (s.extract ((Lib.indexByte (ν (μ s)) 58).toNat+1) (T s)),bv A]
theorem Ld(s:B_)(H:aF)(E:T s<2^40):RC 194 [sv s,sv sCo] (vp s) H:=by
 refine Pu ?_;have d:=λH=>qw s H;rw[vp];rcases Classical.em (Lib.indexByte (ν (μ s)) 58 = -1)with c|c
 .rw[b6 c];simp only[c]at d;refine Bd func194 Z ntmps194<|U aH<|Y aH<|V aH<|S<|U aA<|Y aA<|Y (kc call244 (d _))<|V aH<|U aA<|V AU<|Cn ?_ ?_<;>intro b
  .cases b
  refine aB<|U aA<|Y aH<|Y aH<|V aH<|aC<|mP (H':=[]) (.inr Z) Z (aI Z) (aI Z) (aI Z) P_ ?_;exact Qq
 rw[a8 c];have ⟨w,r,f,B,e⟩:=zF c;simp only[e]at d;rw[e,l_];have D:C w+1+C r=T s:=by rw[<-show C s.data.toList=T s by simp,f,j7,j6];omega
 refine Bd func194 Z ntmps194<|U aH<|Y aH<|V aH<|S<|U aA<|Y aA<|Y (kc call244 (d _))<|V aH<|U aA<|V AU<|Cn ?_ ?_<;>intro b
 .refine S<|aN a7<|Cq aA<|Cq aA<|Cq (bM (l:=0) (h:=(C w)) Z U_ Z Z Z X X Z)<|Cq aA<|Cq aA<|Cq aA<|Cq (gQ U_)<|Cq kp<|Cq (bM (l:=(C w+1)) (h:=T s) Z U_ Z Z Z X X Z)<|Cq aH<|Cq aH<|Cq aH<|bF<|Kr<|aC<|mP (H':=[]) (.inr Z) Z (aI Z) (aI Z) (aI Z) P_ ?_;exact Qq
 have F:=b_ b;omega
theorem Rm(s)(H:aF)(d:T s<2^40):RC 137 [sv s,sv sCo] (vp s) H:=by
 refine Pu ?_;have b:=λH=>Ld s H d;rcases Classical.em (Lib.indexByte (ν (μ s)) 58 = -1)with c|c
 .simp only[vp,b6 c]at b |-;refine Bd func137 Z ntmps137<|U aH<|Y aH<|V aH<|U aA<|Y aA<|Y (bH Z Z call194 Z (b _))<|Y dK<|Y dK<|Y dK<|Y aH<|Y aH<|V aH<|aC<|mP (H':=[]) (.inr Z) Z (aI Z) (aI Z) (aI Z) P_ ?_;exact Qq
 simp only[vp,a8 c]at b |-;refine Bd func137 Z ntmps137<|U aH<|Y aH<|V aH<|U aA<|Y aA<|Y (bH Z Z call194 Z (b _))<|Y dK<|Y dK<|Y dK<|Y aH<|Y aH<|V aH<|aC<|mP (H':=[]) (.inr Z) Z (aI Z) (aI Z) (aI Z) P_ ?_;exact Qq
def CW(l:List UInt8):List UInt8:=l.takeWhile λb=>!θ (b=58)
def EO(l:List UInt8):List UInt8:=(l.dropWhile λb=>!θ (b=58)).drop 1
theorem nt{w r}(h:58∉w):CW (w++58::r)=w/\EO (w++58::r)=r:=by
 induction w with
 |nil=>exact⟨Z,Z⟩
 |cons b w d =>
  have ⟨a,c⟩:=d (λe=>h (Å _ e));rw[CW]at a |-;rw[EO]at c |-;rw[cons_append,Ñ,Ð,b6 G_,b6 G_,a];exact⟨Z,c⟩
theorem Rq:∀ {l},58∉l->CW l=l/\EO l=[]
 | [],_=>⟨Z,Z⟩
 |b::l,h=>by
  obtain ⟨a,c⟩:=Rq (λe=>h (Å _ e));rw[CW]at a |-;rw[EO]at c |-;rw[Ñ,Ð,b6 G_,b6 G_,a];exact⟨Z,c⟩
theorem Bl(l:List UInt8):vp (a_ l)=.tup [sv (a_ (CW l)),sv (a_ (EO l)),bv (θ ((58:UInt8)∈l))]:=by
 rw[vp,cG];by_cases h:Lib.indexByte l 58 = -1
 .rw[b6 h];have b:=zE.1 h;rw[(Rq b).1,(Rq b).2,Á b];rfl
 rw[a8 h];have ⟨w,r,e,c,f⟩:=zF h;rw[f,l_];subst e;rw[(nt c).1,(nt c).2,À H_];have g:(a_ (w++58::r)).extract 0 (C w)=a_ w:=mC (by rw[fW,cG,cG,Ò,Nat.sub_zero,take_left]);have d:(a_ (w++58::r)).extract (C w+1) _=a_ r:=mC (by
  rw[sW,cG,cG,<-drop_drop,drop_left];rfl)
 rw[g,d]
theorem ZT(s): -9223372036854775808<=jM s/\jM s<=9223372036854775807:=by
 rw[jM,qT];cases e:Lib.atoiAll _ with
 |ok v=>exact Lib.atoiAll_bounds e
 |range =>
  show _<=Lib.atoiSat _/\Lib.atoiSat _<=_;rw[Lib.atoiSat];omega
 |_ =>
  simp_all
theorem Rr(l):C (CW l)<=C l/\C (EO l)<=C l:=by
 constructor
 .exact(takeWhile_sublist _).length_le
 rw[EO,q6];have:=(Ï (l:=l) λb=>!θ (b=58)).length_le;omega
theorem Tb{l}{u}(d:C l<=18)(a:l≠[])(c:∀b∈l,48<=b.toNat/\b.toNat<=57)(B:decFrom 0 l=N u):uT (a_ l)=η/\jM (a_ l)=u:=by
 have h:=ev d a c B;constructor
 .rw[uT,cG,h]
 rw[jM,qT,cG,h]
theorem N9(n:Nat):(aV n).data.toList=decDigits n:=rfl
theorem hU(x)(L):aO (x::L)=decDigits (T x)++58::(ν (μ x)++aO L):=by have a:aO (x::L)=(qW x).data.toList++aO L:=rfl;rw[a,qW,ByteArray.data_append,Array.toList_append,ByteArray.data_append,Array.toList_append,N9];simp
theorem U7(n):58∉decDigits n:=λh=>by
 have:=qF n h;exact absurd this.2 H_
theorem ll(D B):aO (D++B)=aO D++aO B:=flatMap_append
end Go.Proofs.C
end
namespace Go.Proofs.C
open Go.Proofs.Tryz
open Go.Abs Go.Lib
def LM(l:List UInt8):Bool:=((!θ ((58:UInt8)∈l)||uT (a_ (CW l)))||θ (jM (a_ (CW l))<0))||θ ((C (EO l):Int)<jM (a_ (CW l)))
def nxN(l:List UInt8):Nat:=(jM (a_ (CW l))).toNat
def pN(l:List UInt8):Option (B_×List UInt8):=if LM l=A then ζ else N (a_ ((EO l).take (nxN l)),(EO l).drop (nxN l))
def yK(l:List UInt8):Option (Int×List UInt8):=match pN l with
 |none=>ζ
 |some (s,r)=>if uT s=A then ζ else N (jM s,r)
def HU{α:Type}(f:List UInt8->Option (α×List UInt8)):Nat->List UInt8->Option (List α×List UInt8)
 |0,l=>N ([],l)
 | n+1,l=>match f l with
  |none=>ζ
  |some (x,r)=>match HU f n r with
   |none=>ζ
   |some (xs,q)=>N (x::xs,q)
def DS{α:Type}(f:List UInt8->Option (α×List UInt8))(l:List UInt8):Option (List α×List UInt8):=match yK l with
 |none=>ζ
 |some (n,r)=>HU f n.toNat r
def TH(l:List UInt8):Option ((Int×Int)×List UInt8):=match yK l with
 |none=>ζ
 |some (x,r)=>match yK r with
  |none=>ζ
  |some (y,q)=>N ((x,y),q)
def Dk(l:List UInt8):Option (p_×List UInt8):=match yK l with
 |none=>ζ
 | some (i,r)=>match DS pN r with
  |none=>ζ
  |some (a,q)=>match DS pN q with
   |none=>ζ
   |some (b,p)=>N (⟨i,a,b⟩,p)
def I0(x:B_):Prop:=T x<1000000000000000000
theorem mT{x}(L)(d:I0 x):pN (aO (x::L))=N (x,aO L):=by
 obtain ⟨c,a⟩:=nt (U7 _);rw[<-hU]at c a;obtain ⟨f,g⟩:=Tb (cY (show x.size<10 ^ 18 from d) H_) (oI _) (λb=>qF _) (jW _);have e:58∈aO (x::L):=by rw[hU];simp
 have hb:LM (aO (x::L))=η:=by
  rw[LM,c,a,f,À e,Á X,Á (by rw[j7,aS];omega)];rfl
 rw[pN,a8 F_,nxN,c,g,a,l_,drop_left' (aS x),Ø (aS x),gA]
theorem PB{n}(B:0<=n)(D:n<1000000000000000000):I0 (aV n):=Nat.lt_of_le_of_lt (oF X X) H_
theorem VO{n}(b:0<=n)(a:n<1000000000000000000):uT (aV n)=η/\jM (aV n)=n:=by
 have h:=EC b a;have e:(aV n).data.toList=itoa n:=rfl;constructor
 .rw[uT,e,h]
 rw[jM,qT,e,h]
theorem mU{n}(L)(b:0<=n)(a:n<1000000000000000000):yK (aO (aV n::L))=N (n,aO L):=by
 have ⟨B,D⟩:=VO b a;rw[yK,mT L (PB b a)]
 simp_all
theorem UC:∀(a L),(∀t∈a,I0 t)->HU pN (C a) (aO (a++L))=N (a,aO L)
 | [],L,_=>rfl
 |t::a,L,h=>by
  rw[j6,HU,List.cons_append,mT _ (h t List.mem_cons_self)];simp[UC _ L λx B=>h x (List.mem_cons_of_mem _ _)]
theorem DR(a L)(h:∀t∈a,I0 t)(B:C a<1000000000000000000):DS pN (aO (aV (C a)::(a++L)))=N (a,aO L):=by rw[DS,mU _ X X];show HU _ _ _=_;rw[l_,UC _ L h]
theorem SU(s)(L)(h:0<=s.idx)(f:s.idx<1000000000000000000)(i:∀t∈s.sig,I0 t)(g:∀t∈s.path,I0 t)(d:C s.sig<1000000000000000000)(c:C s.path<1000000000000000000):
  Dk (aO (fI (.z s.idx s.sig s.path)++L))=N (s,aO L):=by
 have e:fI (.z s.idx s.sig s.path)++L=aV s.idx::(aV (C s.sig)::(s.sig++(aV (C s.path)::(s.path++L)))):=by simp[fI]
 rw[e,Dk,mU _ h f];show (match DS pN _ with|none=>ζ|some (a,q)=>match DS pN q with|none=>ζ|some (b,p)=>N _)=_;rw[DR _ _ i d];show (match DS pN _ with|none=>ζ|some (b,p)=>N _)=_;rw[DR _ _ g c]
theorem UB:∀(ps) (L),(∀q∈ps,(0<=q.1/\q.1<1000000000000000000)/\(0<=q.2/\q.2<1000000000000000000))->HU TH (C ps) (aO (QZ ps++L))=N (ps,aO L)
 | [],L,_=>rfl
 | p::ps,L,h=>by
  obtain ⟨⟨d,c⟩,f,a⟩:=h p Í;have e:QZ (p::ps)++L=aV _::(aV _::(QZ _++L)):=rfl;have b:TH (aO (QZ (p::ps)++L))=N (p,aO (QZ ps++L)):=by
   rw[e,TH,mU _ d c];show (match yK _ with|none=>ζ|some (y,q)=>N _)=_;rw[mU _ f a]
  rw[j6,HU,b];simp[UB _ L λx B=>h x (Å _ _)]
theorem ua(ps)(L)(h:∀q∈ps,(0<=q.1/\q.1<1000000000000000000)/\(0<=q.2/\q.2<1000000000000000000))(B:C ps<1000000000000000000):DS TH (aO (fI (.p ps)++L))=N (ps,aO L):=by have e:fI (.p _)++L=aV _::(QZ ps++L):=rfl;rw[e,DS,mU _ X X];show HU _ _ _=_;rw[l_,UB _ L h]
variable{α:Type}{a b:List _}
theorem uj(m:AV)(l:List (Int×Int))(p:Nat->Bool)(e:Nat->aF)(E:C l<2^62)(o:∀k s,l[k]?=N s->dQ φ m [av (kS s)] (e k) (λr H'=>r=bv (p k)/\H'=e (k+1))):
  aU φ 209 [.pv (yQ l),m] (e 0) (λr H'=>r=iv (PC p (C l))/\H'=e (H8 p (C l))):=by
 have B:C (l.map kS)=C l:=g_ _;refine Bd func209 Z ntmps209<|Sz aH<|S<|U aA<|Y (fP gM)<|V aA<|aD<|bA (σ:=Nat) (λk=>([(0,.pv (yQ l)),(1,m),(7,iv (C (l.map kS):Int)),(8,iv (k:Int))],e k)) (λk=>k<=C l/\∀j,j<k->p j=η) (λk=>C l - k) 0 ⟨X,X⟩ ?_ ?_
 .exact E0
 rintro k ⟨hk,c⟩;refine Sz cH<|S<|Cn ?_ ?_<;>intro f
 .have d:k<C l:=I_ f
  have ⟨s,n⟩:=aQ d;have hi:=cA (f:=kS) n;have h:=o k s n;refine aB<|S<|aD<|U aA<|V aH<|U aA<|Y aA<|Y aA<|Y (jA WH)<|Y (fG Z eM sizeOf104 Z X (Z) Z)<|V (dL Z Z Z (h))<|Cn ?_ ?_<;>intro g
  .refine U aA<|V aH<|aC ?_;exact cR (H':=e (k+1)) (.inr Z) Z (aI Z) Fin.refl ⟨by rw[PC,D2 d g c],by rw[H8,D2 d g c]⟩
  refine aB<|Rd iF<|V aA ?_;refine⟨k+1,⟨X,λj D=>?_⟩,X,E0⟩
  grind
 have i:k=C l:=J_ f
 subst i;refine aP<|Sz aH<|aC ?_;exact cR (H':=e (C l)) (.inr Z) Z (aI Z) Fin.refl ⟨by rw[PC,D3 c],by rw[H8,D3 c]⟩
theorem W8(c)(l)(p)(b:Nat->aF)(d:C l<2^62)(e:∀k s,l[k]?=N s->dQ φ c [av (kS s)] (b k) (λr H'=>r=bv (p k)/\H'=b (k+1))):
  aU φ 149 [.pv (yQ l),c] (b 0) (λr H'=>r=bv ((List.range (C l)).any p)/\H'=b (H8 p (C l))):=by
 refine Bd func149 Z ntmps149<|Sz aH<|U aA<|Y aA<|Y (bH Z Z call209 Z (uj c l p b d e))<|Y AU<|V aH<|aC ?_;exact cR (.inr Z) Z (aI Z) Fin.refl ⟨by rw[Y4],Z⟩
def cy(q:Int×Int):Bool:=!(θ (0<=q.1)&&θ (q.1<=1048575))||!(θ (0<=q.2)&&θ (q.2<=1048575))
def Vg:Ob:=bx 1 174 [.pv (.fn 146)]
theorem AE(H):∀r∈Vg.rows,∀a∈r,Clo H a:=by intro r c a b;simp[Vg,bx,q9]at c;subst c;rw[q9]at b;subst b;simp
instance(H):W_ (H) (Vg.rows):=⟨AE H⟩
theorem aEz(q:Int×Int):aU φ 150 [av (kS q),.ref 3 0 0 0] [(3,Vg)] (λr H'=>r=bv (cy q)/\H'=[(3,Vg)]):=by
 have c:=λH=>R1 q.1 0 1048575 H;have b:=λH=>R1 q.2 0 1048575 H;have B:cy q=(!(θ (0<=q.1)&&θ _)||!(θ (0<=q.2)&&θ _)):=rfl;have ⟨u,e⟩:∃u,u=(θ (0<=q.1)&&θ (q.1<=1048575)):=X_;have ⟨v,d⟩:∃v,v=(θ (0<=q.2)&&θ (q.2<=1048575)):=X_;clear e d;refine Bd func150 Z ntmps150<|U (kb 2)<|V aH<|S<|aT (t:=3) (n:=14) (A_:=cy q) ?_ ?_
 .all_goals refine Y (bT qJ)<|Y (bC nF)<|Y (bT M_)<|Y (dL Z Z Z (dQ.fn sL (c _)))<|Y iJ<|Dm ?_<;>(refine Sp 9 (λf=>?_) λf=>?_)<;>(first|refine M<|M<|M<|M<|M ?_|refine O (bT qJ)<|O (bC nE)<|O (bT M_)<|O (dL Z Z Z (dQ.fn sL (b _)))<|O iJ ?_)<;>refine Y cE<|Da ?_<;>exact Gj (h:=by simp_all)
 refine aC<|cR (H':=[(3,Vg)]) (.inr Z) Z (aI Z) P_ ?_;exact Qq
theorem wb(l:List (Int×Int))(q):((List.range (C l)).any λk=>match l[k]? with|some s=>q s|none=>η)=l.any q:=by
 rw[Bool.eq_iff_iff,Õ,Õ];constructor
 .grind
 rintro⟨s,a,h⟩;have ⟨k,B⟩:=s8.1 a
 grind
def aBz(l:List (Int×Int))(k:Nat):Bool:=match l[k]? with|some s=>cy s|none=>η
theorem aC3(l)(B:C l<2^40):aU φ 149 [.pv (yQ l),.clo 150 [.ref 3 0 0 0]] [(3,Vg)] (λr H'=>r=bv (l.any cy)/\H'=[(3,Vg)]):=by
 have b:=W8 _ l (aBz l) _ X (λk s c=>by
  rw[aBz,c];exact dQ.clo call150 (aEz s))
 rw[show (List.range _).any (aBz l)=l.any _ from wb l _]at b;exact b
theorem Qf(s)(H):RC 238 [sv s] (bv η) H:=by
 refine Pu<|Bd func238 Z ntmps238<|Sz aH<|U aA<|Y aA<|Y FD<|V aH<|aC<|Rt ?_
 simp_all
theorem zy(s t)(H):RC 186 [sv s,sv t] (bv (jZ s t)) H:=by
 refine Pu<|Bd func186 Z ntmps186<|Sz aH<|S<|aT (t:=4) (n:=15) (A_:=jZ s t) ?_ ?_
 .all_goals refine Y aA<|Y (bH Z Z call238 Z (Qf _ _))<|Dm ?_<;>(refine Sp 7 (λc=>?_) λc=>?_)<;>(try contradiction)<;>refine M<|M<|M<|Y cE<|Dm ?_<;>(refine Sp 12 (λb=>?_) λb=>?_)<;>(try contradiction)<;>refine O aA<|O aA<|O (jz Z Z Z)<|Y cE<|Da ?_<;>(exact⟨⟨_,Z,Z⟩,Z,Z,Z⟩)
 exact aC<|Rt<|Qq
def oA:List B_->Bool
 |a::b::r=>!jZ b a&&oA (b::r)
 |_=>A
theorem ai{a}{l}(h:oA (a::l)=A):oA l=A:=by
 cases l with
 |nil=>rfl
 |cons b r=>exact(l7 _ _▸h).2
theorem KK:∀(i) {l},oA l=A->oA (l.drop i)=A
 |0,_,h=>h
 |i+1,[],_=>rfl
 |i+1,a::l,h=>KK i (ai h)
theorem qt{l:List _}{k}{a b}(f:l[k]?=N a)(c:l[k+1]?=N b):oA (l.drop k)=(!jZ b a&&oA (l.drop (k+1))):=by have ⟨h,e⟩:=m9.1 f;have ⟨g,d⟩:=m9.1 c;rw[Â h,Â g,e,d];rfl
theorem lq(l:List B_)(H:aF)(E:C l<2^40):RC 152 [.pv (aK l)] (bv (oA l)) H:=by
 refine Pu ?_;have n:C (l.map S_)=C l:=g_ _;refine Bd func152 Z ntmps152<|Sz aH<|S<|U aA<|Y (fP aE)<|Y (by exact dT Z Z Z (show ξ.wrap ((C (l.map S_):Int) - 1)=(C (l.map S_):Int) - 1 by rw[IntKind.wrap_i64];omega))<|V aH<|aD ?_;refine bA (σ:=Nat) (λk=>([(0,.pv (aK l)),(3,iv ((k:Int) - 1))],[])) (λk=>k<=C l/\oA (l.drop (k - 1))=A) (λk=>k) (C l) ⟨h_ _,?_⟩ ?_ ?_
 .have:C (l.drop (C l - 1))<=1:=G_
  match l.drop (C l - 1),this with
  | [],_=>rfl
  | [a],_=>rfl
 .rw[n];exact Wk
 rintro k ⟨hk,p⟩;refine S<|U aA<|V jB<|Cn ?_ ?_<;>intro f
 .have hlt:2<=k:=I_ f
  obtain ⟨m,rfl⟩:∃m,k=m+2:=⟨k - 2,X⟩;have ⟨b,s⟩:=aQ (l:=l) (k:=m+1) X;have ⟨a,q⟩:=aQ (l:=l) (k:=m) X;have j:=cA (f:=S_) s;have D:=cA (f:=S_) q;have i:=qt q s;rw[show m+2 - 1=m+1 by omega]at p;rw[p,Bool.and_true]at i;refine aB<|S<|aD<|S<|aN a7<|Cq aA<|Cq aA<|Cq (bQ (m:=m+1) Z aY Z Z X (show (((m+2:Nat):Int) - 1).toNat=m+1 by omega) j Z)<|Cq (fK N_)<|Cq aA<|Cq aA<|Cq (by exact dT Z Z Z (show ξ.wrap ((((m+2:Nat):Int) - 1) - 1)=((m:Nat):Int)by rw[IntKind.wrap_i64];omega))<|Cq (jA aY)<|Cq (fK N_)<|Cq (kc call186 (zy b a _))<|bF<|Kr ?_;refine Cn ?_ ?_<;>intro g
  .have e:jZ b a=A:=g;have o:oA l=η:=by
    rw[Bool.eq_false_iff];intro h;rw[KK m h,e]at i
    grind
   rw[o];exact Sz aH<|aC<|Rt<|Qq
  have e:jZ b a=η:=g;refine aB<|Rd aA<|Y (by exact dT Z Z Z (show ξ.wrap ((((m+2:Nat):Int) - 1) - 1)=((m+1:Nat):Int) - 1 by rw[IntKind.wrap_i64];omega))<|Da ?_;refine⟨m+1,⟨X,?_⟩,X,?_⟩
  .simp_all
  exact Wk
 have B:k<=1:=J_ f
 have o:oA l=A:=F_
 rw[o];exact aP<|Sz aH<|aC<|Rt<|Qq
abbrev uN(l:List B_):List (List AV):=l.map (λe=>(S_ e).map .pv)
theorem aEG(l:List _):∀r∈l.map S_,C r=1:=λr a=>by
 obtain ⟨t,_,rfl⟩:=mem_map.1 a;rfl
theorem Rw(l)(H:aF)(B:dO H)(f:H.get 901=ζ)(D:C l<2^40):
  aU φ 153 [.pv (aK l)] H (λr H'=>r=.osl 901 1 0 (C l)/\H'=(901,⟨1,1,9,uN l⟩)::H):=by
 have e:C (l.map S_)=C l:=g_ _;refine Bd func153 Z ntmps153<|Sz aH<|S<|Sr<|Dm<|wc Z Z (sj Z aE Z) ?_;rintro _ H2 ⟨g,b,rfl,h⟩;rw[g];refine Zz<|Cn ?_ ?_<;>intro d
 .have i:=h d;have c:=map_eq_nil_iff.1 i;subst c;refine Sz (dM (sz:=1) (ty:=9) Z f Z)<|aC ?_;refine cR (.inr Z) Z (aI Z) ((Fin.bump (g:=0) (k:=1) Z Z E_ Z Z Z).trans (Fin.get' (λj=>yC _ _ _ _ j))) ?_;exact Qq
 refine aB<|U (eR Z aY Z Z Z Z H_ f)<|Y aA<|Y (bU Z aY sX Z Z Z Z Z Z Z (aEG l) e X (r8 _) (show []++(l.map S_).map _=uN l by simp_all))<|V aH<|aC ?_;refine cR (.inr Z) Z (aI Z) (Fin.get' (λj=>yC _ _ _ _ j)) ?_;exact Qq
theorem NM(n)(H):RC 168 [.pv (.int .u8 n)] (bv (wI n)) H:=by
 refine Pu<|Bd func168 Z ntmps168<|Sz aH<|S<|aT (t:=2) (n:=18) (A_:=wI n) ?_ ?_
 .all_goals refine Y aA<|Y AU<|Dm ?_<;>(refine Sp 5 (λc=>?_) λc=>?_)<;>(first|refine M<|M ?_|refine O aA<|O HV ?_)<;>refine Y cE<|Dm ?_<;>(refine Sp 9 (λd=>?_) λd=>?_)<;>(first|refine M<|M<|M ?_|refine O aA<|O AU<|O aA ?_)<;>(first|refine Sp 12 (λb=>?_) λb=>?_|refine lC (t:=12) Z ?_)<;>(first|exact s_|refine M ?_|refine Fu ?_|refine O aA ?_)<;>(first|refine M ?_|refine Fu ?_|refine O HV ?_)<;>(first|refine M ?_|refine O cE ?_)<;>refine Y cE<|Da ?_<;>exact Gj (h:=by(simp only[wI, *];rfl))
 exact aC<|Rt<|Qq
theorem TD(n)(H):RC 224 [.pv (.int .u8 n)] (bv (zD n)) H:=by
 refine Pu<|Bd func224 Z ntmps224<|Sz aH<|S<|aT (t:=2) (n:=8) (A_:=zD n) ?_ ?_
 .all_goals refine Y aA<|Y AU<|Dm ?_<;>(refine Sp 5 (λb=>?_) λb=>?_)<;>(first|refine M<|M ?_|refine O aA<|O HV ?_)<;>refine Y cE<|Da ?_<;>exact Gj (h:=by(simp only[zD, *];rfl))
 exact aC<|Rt<|Qq
def Iv(n:Int):Bool:=(wI n||zD n)||θ (n=95)
theorem bk(n)(H):RC 167 [.pv (.int .u8 n)] (bv (Iv n)) H:=by
 refine Pu<|Bd func167 Z ntmps167<|Sz aH<|S<|aT (t:=2) (n:=13) (A_:=Iv n) ?_ ?_
 .all_goals refine Y aA<|Y (bH Z Z call168 Z (NM n _))<|Dm ?_<;>(refine Sp 5 (λb=>?_) λb=>?_)<;>(first|refine M<|M ?_|refine O aA<|O (bH Z Z call224 Z (TD n _)) ?_)<;>refine Y cE<|Dm ?_<;>(refine Sp 9 (λc=>?_) λc=>?_)<;>(first|exact s_|refine M<|M ?_|refine O aA<|O cI ?_)<;>refine Y cE<|Da ?_<;>exact Gj (h:=by(simp only[Iv, *];rfl))
 exact aC<|Rt<|Qq
theorem aAV:∀n:Fin 256,(θ (zL (n.val)=3)=wI (n.val))/\(θ (zL (n.val)=4)=zD (n.val))/\(θ (zL (n.val)=5)=θ ((n.val:Int)=95)):=by decide +kernel
theorem VG(s)(k):(θ (zL (aZ s k)=3)=wI (aZ s k))/\(θ (zL (aZ s k)=4)=zD (aZ s k))/\(θ (zL (aZ s k)=5)=θ (aZ s k=95)):=by have h:=aAV ⟨(aZ s k).toNat,CP s k⟩;exact h
def aA7(s:B_)(k:Nat):Bool:=!Iv (aZ s k)
def X4(s:B_):Bool:=!((List.range (T s)).any (aA7 s))&&(θ ((0:Int)<(T s:Int))&&θ ((T s:Int)<=24)&&wI (aZ s 0))
theorem ig{s}:s=a6↔T s=0:=by
 constructor
 .rintro rfl;rfl
 intro h;exact ByteArray.ext (Array.eq_empty_of_size_eq_zero h)
theorem Mw(s:B_):X4 s=cK s:=by
 have m:∀k,oh s k=(!wI (aZ s k)&&(θ ((k:Int)=0)||(!zD (aZ s k)&&!θ (aZ s k=95)))):=λk=>by
  have ⟨a,b,c⟩:=VG s k;rw[oh,a,b,c]
 rw[Bool.eq_iff_iff,X4,cK];simp only[l7,r9,l6,q7,Ó,Î,ig,aA7,m];constructor
 .rintro⟨f,⟨l,e⟩,j⟩;refine⟨λk i=>?_,X,e⟩;by_cases g:k=0
  .subst g;simp[j]
  have d:Iv (aZ s k)=A:=by
   simp_all
  simp only[Iv,Bool.or_eq_true,l6]at d;rcases d with(h|h)|h
  .simp[h]
  .simp[h,g]
  simp[h,g]
 rintro⟨f,l,e⟩;refine⟨λk i=>?_,⟨X,e⟩,?_⟩
 .have:=f k i;intro d;apply this;simp only[Iv,r9,q_]at d
  simp_all
 have:=f 0 X;cases B:wI (aZ s 0)with
 |true=>rfl
 |false=>exact absurd G_ this
theorem Mx(s:B_)(H:aF)(E:T s<2^62):RC 113 [sv s] (bv (X4 s)) H:=by
 refine Pu<|Bd func113 Z ntmps113<|Sz aH<|S<|Sz aH<|aD<|bA (σ:=Nat) (λk=>([(0,sv s),(3,iv (k:Int))],[])) (λk=>k<=T s/\∀j,j<k->aA7 s j=η) (λk=>T s - k) 0 ⟨X,X⟩ ?_ ?_
 .exact E0
 rintro k ⟨hk,i⟩;refine S<|U aA<|Y aA<|Y (gQ U_)<|V cH<|Cn ?_ ?_<;>intro d
 .have f:k<T s:=I_ d
  refine aB<|S<|aD<|U aA<|Y aA<|Y (ky U_)<|Y (kc call167 (bk (aZ s k) _))<|V iJ<|Cn ?_ ?_<;>intro b
  .have o:aA7 s k=A:=b;refine Sz aH<|aC<|Rt ?_;exact⟨by rw[X4,uY f o];rfl,Z⟩
  refine aB<|Rd aA<|Y iF<|Da ?_;refine⟨k+1,⟨X,λj D=>?_⟩,X,E0⟩;by_cases e:j=k
  .subst e;exact b
  grind
 have h:k=T s:=J_ d
 have m:X4 s=(θ ((0:Int)<(T s:Int))&&θ ((T s:Int)<=24)&&wI (aZ s 0)):=by
  subst h;rw[X4,B5 i];rfl
 rw[m];clear m;by_cases n:(0:Int)<(T s:Int)
 .have g:=À n;have B:0<T s:=X
  rw[g,Bool.true_and];by_cases c:(T s:Int)<=24
  .have l:=À c;rw[l,Bool.true_and];exact aP<|U aA<|Y (gQ U_)<|Y jB<|Y aA<|Oa aA<|Oa (gQ U_)<|Oa HV<|Y DI<|Y aA<|Oa aA<|Oa (ky U_)<|Oa (kc call168 (NM (aZ s 0) _))<|Y DI<|V aH<|aC<|Rt<|Qq
  have l:=Á c;rw[l];exact aP<|U aA<|Y (gQ U_)<|Y jB<|Y aA<|Oa aA<|Oa (gQ U_)<|Oa HV<|Y DI<|Y aA<|Fa<|Fa<|Fa<|Y tB<|V aH<|aC<|Rt<|Qq
 have g:=Á n;rw[g];exact aP<|U aA<|Y (gQ U_)<|Y jB<|Y aA<|Fa<|Fa<|Fa<|Y tB<|Y aA<|M<|M<|M<|Y cE<|V aH<|aC<|Rt<|Qq
theorem lS(s)(H)(a:T s<2^62):RC 113 [sv s] (bv (cK s)) H:=by rw[<-Mw];exact Mx s H a
theorem Mu(x y:Int)(H:aF):RC 170 [.agg [iv x,iv y]] (bv (dw x y)) H:=by
 refine Pu<|Bd func170 Z ntmps170<|U (kb 1)<|V aH<|S<|aT (t:=2) (n:=22) (A_:=dw x y) ?_ ?_
 .all_goals refine Y (bC nF)<|Y (bT M_)<|Y AU<|Dm ?_<;>(refine Sp 6 (λd=>?_) λd=>?_)<;>(first|refine M<|M<|M ?_|refine O (bC nF)<|O (bT M_)<|O cH ?_)<;>refine Y cE<|Dm ?_<;>(refine Sp 11 (λb=>?_) λb=>?_)<;>(first|refine M<|M<|M ?_|refine O (bC nE)<|O (bT M_)<|O AU ?_)<;>refine Y cE<|Dm ?_<;>(refine Sp 16 (λc=>?_) λc=>?_)<;>(first|exact s_|refine M<|M<|M ?_|refine O (bC nE)<|O (bT M_)<|O cH ?_)<;>refine Y cE<|Da ?_<;>exact Gj (h:=by(simp only[dw, *];rfl))
 exact aC<|Rt<|Qq
theorem Dv{n:Nat}(a:1<=n)(b:n<=5):[S_ a6,S_ ⟨#[110,111,100,101]⟩,S_ ⟨#[119,97,121]⟩,S_ ⟨#[97,114,101,97]⟩,S_ ⟨#[114,111,117,116,101]⟩,S_ ⟨#[116,117,114,110]⟩][n]?=N (S_ (eQ n)):=by
 match n,a,b with
 |1,_,_=>rfl
 |2,_,_=>rfl
 |3,_,_=>rfl
 |4,_,_=>rfl
 |5,_,_=>rfl
 |n+6,_,h=>exact absurd h X
theorem GY(k:Int)(H:aF):RC 214 [iv k] (sv (eQ k)) H:=by
 refine Pu<|Bd func214 Z ntmps214<|Sz aH<|U (aM [S_ a6,S_ _,S_ _,S_ _,S_ _,S_ _] Z aY Z Z Z Z Z (by simp[S_]))<|V aH<|S<|S<|aT (t:=10) (n:=7) (A_:=θ (k<1)||θ (5<k)) ?_ ?_
 .all_goals refine Y aA<|Y cH<|Dm ?_<;>(refine Sp 7 (λd=>?_) λd=>?_)<;>(first|refine M<|M ?_|refine O aA<|O jB ?_)<;>refine V cE ?_<;>(exact⟨⟨_,Z,G_⟩,Z,Z,Z⟩)
 refine Cn ?_ ?_<;>intro B
 .have b:¬ (k=1)/\¬ (k=2)/\¬ (k=3)/\¬ (k=4)/\¬ (k=5):=by
   grind
  refine Sz aH<|aC<|Rt ?_;exact⟨by simp only[eQ,b.1,b.2.1,b.2.2.1,b.2.2.2.1,b.2.2.2.2,if_false],Z⟩
 obtain ⟨n,rfl⟩:∃n:Nat,k=(n:Int):=⟨k.toNat,G_⟩;have c:1<=n/\n<=5:=by
  grind
 have hi:=Dv c.1 c.2;exact aB<|U aA<|Y aA<|Y (jA aY)<|Y (fK N_)<|V aH<|aC<|Rt<|Qq
theorem Hg(l)(k:Nat)(t a)(c:0<k->l[k - 1]?=N a):(((!cK t.key||θ ((T t.val:Int)<1))||θ (200<(T t.val:Int)))||(θ ((0:Int)<k)&&!jZ a.key t.key))=D9 (lA m8.key l k) t:=by
 have d:θ ((T t.val:Int)<1)=θ (t.val=a6):=decide_eq_decide.2 (by rw[ig];omega);rw[d,D9];cases g:cK t.key with
 |false=>simp
 | true =>
  have f:sle t.key (lA m8.key l k)=(θ (0<(k:Int))&&!jZ a.key t.key):=by
   cases k with
   | zero =>
    have:jZ a6 t.key=A:=by
     cases e:jZ a6 t.key with
     |true=>rfl
     |false=>exact absurd (C9 (xy _) e) (US g)
    rw[lA,QM.2 this];rfl
   | succ k =>
    have h:=c X;rw[show k+1 - 1=k from rfl]at h;rw[AZ h,À (show 0<((k+1:Nat):Int)by omega)];cases e:jZ _ t.key with
    |true=>rw[QM.2 e];rfl
    |false =>
     cases b:sle t.key _ with
     |true=>rfl
     |false=>rw[QM]at b;rw[e]at b;cases b
  rw[<-f];cases sle t.key _<;>cases θ (t.val=a6)<;>cases θ (200<(T t.val:Int))<;>rfl
theorem yp(l:List m8)(H:aF)(w:NV l):RC 296 [.pv (qV l)] (bv (uA l)) H:=by
 refine Pu ?_;have ⟨w,u⟩:=w;have E:C (l.map bZ)=C l:=g_ _;refine Bd func296 Z ntmps296<|Sz aH<|S<|U aA<|Y (fP dW)<|V jB<|Cn ?_ ?_<;>intro n
 .have f:θ ((C l:Int)<=60)=η:=by
   have:=b9 n;exact Á X
  refine Sz aH<|aC<|Rt ?_;exact⟨by rw[uA,f,Bool.and_false],Z⟩
 have f:θ ((C l:Int)<=60)=A:=by
  have:=b_ n;exact À X
 rw[uA,f,Bool.and_true];refine aB<|S<|Sz aH<|aD<|bA (σ:=Nat) (λk=>([(0,.pv (qV l)),(3,iv (k:Int))],[])) (λk=>k<=C l/\∀j,j<k->VK D9 m8.key l j=η) (λk=>C l - k) 0 ⟨X,X⟩ ?_ ?_
 .exact E0
 rintro k ⟨hk,hno⟩;refine S<|U aA<|Y aA<|Y (fP dW)<|V cH<|Cn ?_ ?_<;>intro g
 .have o:k<C l:=I_ g
  have ⟨t,q⟩:=aQ o;have hi:=cA (f:=bZ) q;have B:=u t (m7 q);have ⟨p,v⟩:∃p,0<k->l[k - 1]?=N p:=by
   grind
  have m:0<k->(l.map bZ)[k - 1]?=N (bZ p):=λh=>cA (f:=bZ) (v h);have i:=Hg l k t p v;refine aB<|S<|aD<|S<|qI (t:=55) (n:=43) (A_:=((!cK t.key||θ ((T t.val:Int)<1))||θ (200<(T t.val:Int)))||(θ ((0:Int)<(k:Int))&&!jZ p.key t.key)) ?_ ?_
  .cases hg20:(!cK t.key:Bool)
   .cases hg29:(θ ((T t.val:Int)<1):Bool)
    .cases hg38:(θ (200<(T t.val:Int)):Bool)
     .cases hg41:(θ ((0:Int)<(k:Int)):Bool)
      .refine aN a7<|Cq aA<|Cq aA<|Cq (jA lZ)<|Cq (F2 qO)<|Cq (fK N_)<|Cq (kc gG (lS t.key _ B.1))<|Cq iJ<|Cq aA<|Nf aA<|Nf aA<|Nf (jA lZ)<|Nf (F2 rO)<|Nf (fK N_)<|Nf (gQ U_)<|Nf cH<|Cq tB<|Cq aA<|Nf aA<|Nf aA<|Nf (jA lZ)<|Nf (F2 rO)<|Nf (fK N_)<|Nf (gQ U_)<|Nf jB<|Cq tB<|Cq aA<|Nf aA<|Nf jB<|Nf aA<|Ot<|Ot<|Ot<|Ot<|Ot<|Ot<|Ot<|Ot<|Ot<|Ot<|Ot<|Ot<|Nf tB<|Cq tB<|bF<|Kr ?_;exact⟨Z,⟨_,Z,by rfl⟩,Z,Z,Z⟩
      refine aN a7<|Cq aA<|Cq aA<|Cq (jA lZ)<|Cq (F2 qO)<|Cq (fK N_)<|Cq (kc gG (lS t.key _ B.1))<|Cq iJ<|Cq aA<|Nf aA<|Nf aA<|Nf (jA lZ)<|Nf (F2 rO)<|Nf (fK N_)<|Nf (gQ U_)<|Nf cH<|Cq tB<|Cq aA<|Nf aA<|Nf aA<|Nf (jA lZ)<|Nf (F2 rO)<|Nf (fK N_)<|Nf (gQ U_)<|Nf jB<|Cq tB<|Cq aA<|Nf aA<|Nf jB<|Nf aA<|Nt aA<|Nt aA<|Nt (dT Z Z Z (mI X X))<|Nt (bQ Z lZ Z Z (I_ hg41) (show ((k:Int) - 1).toNat=k - 1 by omega) (m (I_ hg41)) Z)<|Nt (F2 qO)<|Nt (eG Z N_ Z (m (I_ hg41)) Z)<|Nt aA<|Nt aA<|Nt (jA lZ)<|Nt (F2 qO)<|Nt (fK N_) ?_;refine Nt (K9 Z Z Z)<|Nf DI<|Cq tB<|bF<|Kr ?_;exact⟨Z,⟨_,Z,by rfl⟩,Z,Z,Z⟩
     refine aN a7<|Cq aA<|Cq aA<|Cq (jA lZ)<|Cq (F2 qO)<|Cq (fK N_)<|Cq (kc gG (lS t.key _ B.1))<|Cq iJ<|Cq aA<|Nf aA<|Nf aA<|Nf (jA lZ)<|Nf (F2 rO)<|Nf (fK N_)<|Nf (gQ U_)<|Nf cH<|Cq tB<|Cq aA<|Nf aA<|Nf aA<|Nf (jA lZ)<|Nf (F2 rO)<|Nf (fK N_)<|Nf (gQ U_)<|Nf jB<|Cq tB<|Cq aA<|Of<|Of<|Of<|Ou<|Ou<|Ou<|Ou<|Ou<|Ou<|Ou<|Ou<|Ou<|Ou<|Ou<|Ou<|Of<|Cq DI<|bF<|Kr ?_;exact⟨Z,⟨_,Z,by rfl⟩,Z,Z,Z⟩
    refine aN a7<|Cq aA<|Cq aA<|Cq (jA lZ)<|Cq (F2 qO)<|Cq (fK N_)<|Cq (kc gG (lS t.key _ B.1))<|Cq iJ<|Cq aA<|Nf aA<|Nf aA<|Nf (jA lZ)<|Nf (F2 rO)<|Nf (fK N_)<|Nf (gQ U_)<|Nf cH<|Cq tB<|Cq aA<|Of<|Of<|Of<|Of<|Of<|Of<|Of<|Cq DI<|Cq aA<|Of<|Of<|Of<|Ou<|Ou<|Ou<|Ou<|Ou<|Ou<|Ou<|Ou<|Ou<|Ou<|Ou<|Ou<|Of<|Cq cE<|bF<|Kr ?_;exact⟨Z,⟨_,Z,by rfl⟩,Z,Z,Z⟩
   refine aN a7<|Cq aA<|Cq aA<|Cq (jA lZ)<|Cq (F2 qO)<|Cq (fK N_)<|Cq (kc gG (lS t.key _ B.1))<|Cq iJ<|Cq aA<|Of<|Of<|Of<|Of<|Of<|Of<|Of<|Cq DI<|Cq aA<|Of<|Of<|Of<|Of<|Of<|Of<|Of<|Cq cE<|Cq aA<|Of<|Of<|Of<|Ou<|Ou<|Ou<|Ou<|Ou<|Ou<|Ou<|Ou<|Ou<|Ou<|Ou<|Ou<|Of<|Cq cE<|bF<|Kr ?_;exact⟨Z,⟨_,Z,by rfl⟩,Z,Z,Z⟩
  refine Cn ?_ ?_<;>intro D
  .rw[i]at D;refine Sz aH<|aC<|Rt ?_;exact⟨by rw[uY o ((EA q).trans D)];rfl,Z⟩
  rw[i]at D;refine aB<|Rd aA<|Y iF<|Da ?_;refine⟨k+1,⟨X,λj F=>?_⟩,X,E0⟩;by_cases e:j=k
  .subst e;exact(EA q).trans D
  grind
 have s:k=C l:=J_ g
 subst s;refine aP<|Sz aH<|aC<|Rt ?_
 simp_all
theorem Jp(o)(k:Nat)(s p)(a:0<k->o.refs[k - 1]?=N p):
  ((!cK s||((θ (o.kind=2)&&θ (0<(k:Int)))&&θ (p=s)))||(θ (o.kind=3)&&Al (BZ o.refs k) s))=OB o (lA id o.refs k) (BZ o.refs k) s:=by
 rw[OB,UR];cases c:cK s with
 |false=>simp
 | true =>
  have b:(θ (0<(k:Int))&&θ (p=s))=θ (s=lA id o.refs k):=by
   cases k with
   |zero=>rw[lA,Á (US c)];rfl
   |succ k =>
    have h:=a X;rw[show k+1 - 1=k from rfl]at h;rw[AZ h,À (show 0<((k+1:Nat):Int)by omega)];exact decide_eq_decide.2 eq_comm
  rw[<-b];simp[Bool.and_assoc]
theorem Lz{l}{k}{s}(h:l[k]?=N s):BZ l (k+1)=SJ (BZ l k) s:=by rw[BZ,h];rfl
def aCx(k n:Int):Bool:=if k=1 then θ (n=0)else if k=2 then θ (2<=n)else if k=3 then θ (3<=n)else if k=4 then θ (1<=n)else θ (n=3)
def S9(o:l8):Bool:=(θ ((C o.refs:Int)<=2000)&&!((List.range (C o.refs)).any (vQ o)))&&aCx o.kind (C o.refs:Int)
theorem yq(o:l8)(H:aF)(m:pn o):RC 297 [av (bS o)] (bv (S9 o)) H:=by
 refine Pu ?_;have ⟨r,u,v,G⟩:=m;have c:C (o.refs.map S_)=C o.refs:=g_ _;refine Bd func297 Z ntmps297<|U (kb 1)<|V aH<|U (bC eJ)<|Y (bT aG)<|Y (fP aE)<|V aH<|S<|U aA<|V jB<|Cn ?_ ?_<;>intro J
 .have a:θ ((C o.refs:Int)<=2000)=η:=by
   have:=b9 J;exact Á X
  refine Sz aH<|aC<|Rt ?_;exact⟨by rw[S9,a];rfl,Z⟩
 have a:θ ((C o.refs:Int)<=2000)=A:=by
  have:=b_ J;exact À X
 rw[S9,a,Bool.true_and];refine aB<|U (wD (id:=11) KH Z Z)<|V aH<|S<|Sz aH<|aD<|bA (σ:=Nat) (λk=>([(1,.ref 1 0 0 0),(3,iv (C (o.refs.map S_):Int)),(4,.mp 11 0),(5,iv (k:Int))],[(11,sob (BZ o.refs k)),(1,bx 6 135 ((bS o).map .pv))])) (λk=>k<=C o.refs/\∀j,j<k->vQ o j=η) (λk=>C o.refs - k) 0 ⟨X,X⟩ ?_ ?_
 .exact L_
 rintro k ⟨hk,hno⟩;refine S<|U aA<|Y aA<|V cH<|Cn ?_ ?_<;>intro K
 .have hlt:k<C o.refs:=I_ K
  have ⟨s,E⟩:=aQ hlt;have hi:=cA (f:=S_) E;have ⟨p,W⟩:∃p,0<k->o.refs[k - 1]?=N p:=by
   by_cases q:0<k
   .have ⟨p,W⟩:=aQ (l:=o.refs) (k:=k - 1) X;exact⟨p,λ_=>W⟩
   exact⟨s,λh=>absurd h q⟩
  have D:0<k->(o.refs.map S_)[k - 1]?=N (S_ p):=λh=>cA (f:=S_) (W h);have I:=Jp o k s p W;have i:vQ o k=OB o (lA id o.refs k) (BZ o.refs k) s:=by rw[vQ,E]
  have d:=Lz E;refine aB<|S<|aD<|S<|S<|qI (t:=60) (n:=44) (A_:=(!cK s||((θ (o.kind=2)&&θ ((0:Int)<(k:Int)))&&θ (p=s)))||(θ (o.kind=3)&&Al (BZ o.refs k) s)) ?_ ?_
  .cases hg24:(!cK s:Bool)
   .cases hg28:(θ (o.kind=2):Bool)
    .cases hg51:(θ (o.kind=3):Bool)
     .refine aN a7<|Cq (bC eJ)<|Cq (bT aG)<|Cq aA<|Cq (jA aY)<|Cq (fK N_)<|Cq (kc gG (lS s _ (G s (m7 E))))<|Cq iJ<|Cq aA<|Nf (bC eK)<|Nf (bT M_)<|Nf cI<|Nf aA<|Ot<|Ot<|Nf tB<|Nf aA<|Ot<|Ot<|Ot<|Ot<|Ot<|Ot<|Ot<|Ot<|Ot<|Ot<|Ot<|Ot<|Nf cE<|Cq tB<|Cq aA<|Nf (bC eK)<|Nf (bT M_)<|Nf cI<|Nf aA<|Ot<|Ot<|Ot<|Ot<|Ot<|Ot<|Ot<|Nf tB<|Cq cE<|bF<|Kr ?_;exact⟨Z,⟨_,Z,by rfl⟩,Z,Z,Z⟩
     refine aN a7<|Cq (bC eJ)<|Cq (bT aG)<|Cq aA<|Cq (jA aY)<|Cq (fK N_)<|Cq (kc gG (lS s _ (G s (m7 E))))<|Cq iJ<|Cq aA<|Nf (bC eK)<|Nf (bT M_)<|Nf cI<|Nf aA<|Ot<|Ot<|Nf tB<|Nf aA<|Ot<|Ot<|Ot<|Ot<|Ot<|Ot<|Ot<|Ot<|Ot<|Ot<|Ot<|Ot<|Nf cE<|Cq tB<|Cq aA<|Nf (bC eK)<|Nf (bT M_)<|Nf cI<|Nf aA<|Nt aA<|Nt (bC eJ)<|Nt (bT aG)<|Nt aA<|Nt (jA aY)<|Nt (fK N_)<|Nt (by exact xQ Z mQ U_ Z Z Z Z Z jG (.inl Z))<|Nf DI<|Cq cE<|bF<|Kr ?_;exact⟨Z,⟨_,Z,by rfl⟩,Z,Z,Z⟩
    cases B:(θ ((0:Int)<(k:Int)):Bool)
    .cases hg51:(θ (o.kind=3):Bool)
     .refine aN a7<|Cq (bC eJ)<|Cq (bT aG)<|Cq aA<|Cq (jA aY)<|Cq (fK N_)<|Cq (kc gG (lS s _ (G s (m7 E))))<|Cq iJ<|Cq aA<|Nf (bC eK)<|Nf (bT M_)<|Nf cI<|Nf aA<|Nt aA<|Nt jB<|Nf DI<|Nf aA<|Ot<|Ot<|Ot<|Ot<|Ot<|Ot<|Ot<|Ot<|Ot<|Ot<|Ot<|Ot<|Nf tB<|Cq tB<|Cq aA<|Nf (bC eK)<|Nf (bT M_)<|Nf cI<|Nf aA<|Ot<|Ot<|Ot<|Ot<|Ot<|Ot<|Ot<|Nf tB<|Cq cE<|bF<|Kr ?_;exact⟨Z,⟨_,Z,by rfl⟩,Z,Z,Z⟩
     refine aN a7<|Cq (bC eJ)<|Cq (bT aG)<|Cq aA<|Cq (jA aY)<|Cq (fK N_)<|Cq (kc gG (lS s _ (G s (m7 E))))<|Cq iJ<|Cq aA<|Nf (bC eK)<|Nf (bT M_)<|Nf cI<|Nf aA<|Nt aA<|Nt jB<|Nf DI<|Nf aA<|Ot<|Ot<|Ot<|Ot<|Ot<|Ot<|Ot<|Ot<|Ot<|Ot<|Ot<|Ot<|Nf tB<|Cq tB<|Cq aA<|Nf (bC eK)<|Nf (bT M_)<|Nf cI<|Nf aA<|Nt aA<|Nt (bC eJ)<|Nt (bT aG)<|Nt aA<|Nt (jA aY)<|Nt (fK N_)<|Nt (by exact xQ Z mQ U_ Z Z Z Z Z jG (.inl Z))<|Nf DI<|Cq cE<|bF<|Kr ?_;exact⟨Z,⟨_,Z,by rfl⟩,Z,Z,Z⟩
    cases g:(θ (p=s):Bool)
    .cases hg51:(θ (o.kind=3):Bool)
     .refine aN a7<|Cq (bC eJ)<|Cq (bT aG)<|Cq aA<|Cq (jA aY)<|Cq (fK N_)<|Cq (kc gG (lS s _ (G s (m7 E))))<|Cq iJ<|Cq aA<|Nf (bC eK)<|Nf (bT M_)<|Nf cI<|Nf aA<|Nt aA<|Nt jB<|Nf DI<|Nf aA<|Nt (bC eJ)<|Nt (bT aG)<|Nt aA<|Nt (dT Z Z Z (mI X X))<|Nt (bQ Z aY Z Z (I_ B) (show ((k:Int) - 1).toNat=k - 1 by omega) (D (I_ B)) Z)<|Nt (eG Z N_ Z (D (I_ B)) Z)<|Nt (bC eJ)<|Nt (bT aG)<|Nt aA<|Nt (jA aY)<|Nt (fK N_)<|Nt wV<|Nf DI<|Cq tB<|Cq aA<|Nf (bC eK)<|Nf (bT M_)<|Nf cI<|Nf aA<|Ot<|Ot<|Ot ?_;refine Ot<|Ot<|Ot<|Ot<|Nf tB<|Cq tB<|bF<|Kr ?_;exact⟨Z,⟨_,Z,by rfl⟩,Z,Z,Z⟩
     refine aN a7<|Cq (bC eJ)<|Cq (bT aG)<|Cq aA<|Cq (jA aY)<|Cq (fK N_)<|Cq (kc gG (lS s _ (G s (m7 E))))<|Cq iJ<|Cq aA<|Nf (bC eK)<|Nf (bT M_)<|Nf cI<|Nf aA<|Nt aA<|Nt jB<|Nf DI<|Nf aA<|Nt (bC eJ)<|Nt (bT aG)<|Nt aA<|Nt (dT Z Z Z (mI X X))<|Nt (bQ Z aY Z Z (I_ B) (show ((k:Int) - 1).toNat=k - 1 by omega) (D (I_ B)) Z)<|Nt (eG Z N_ Z (D (I_ B)) Z)<|Nt (bC eJ)<|Nt (bT aG)<|Nt aA<|Nt (jA aY)<|Nt (fK N_)<|Nt wV<|Nf DI<|Cq tB<|Cq aA<|Nf (bC eK)<|Nf (bT M_)<|Nf cI<|Nf aA<|Nt aA<|Nt (bC eJ) ?_;refine Nt (bT aG)<|Nt aA<|Nt (jA aY)<|Nt (fK N_)<|Nt (xQ Z mQ U_ Z Z Z Z Z jG (.inl Z))<|Nf DI<|Cq tB<|bF<|Kr ?_;exact⟨Z,⟨_,Z,by rfl⟩,Z,Z,Z⟩
    refine aN a7<|Cq (bC eJ)<|Cq (bT aG)<|Cq aA<|Cq (jA aY)<|Cq (fK N_)<|Cq (kc gG (lS s _ (G s (m7 E))))<|Cq iJ<|Cq aA<|Nf (bC eK)<|Nf (bT M_)<|Nf cI<|Nf aA<|Nt aA<|Nt jB<|Nf DI<|Nf aA<|Nt (bC eJ)<|Nt (bT aG)<|Nt aA<|Nt (dT Z Z Z (mI X X))<|Nt (bQ Z aY Z Z (I_ B) (show ((k:Int) - 1).toNat=k - 1 by omega) (D (I_ B)) Z)<|Nt (eG Z N_ Z (D (I_ B)) Z)<|Nt (bC eJ)<|Nt (bT aG)<|Nt aA<|Nt (jA aY)<|Nt (fK N_)<|Nt wV<|Nf DI<|Cq tB<|Cq aA<|Of<|Of<|Of<|Of<|Ou<|Ou<|Ou<|Ou<|Ou<|Ou<|Ou<|Of<|Cq DI<|bF<|Kr ?_;exact⟨Z,⟨_,Z,by rfl⟩,Z,Z,Z⟩
   refine aN a7<|Cq (bC eJ)<|Cq (bT aG)<|Cq aA<|Cq (jA aY)<|Cq (fK N_)<|Cq (kc gG (lS s _ (G s (m7 E))))<|Cq iJ<|Cq aA<|Of<|Of<|Of<|Of<|Ou<|Ou<|Of<|Of<|Ou<|Ou<|Ou<|Ou<|Ou<|Ou<|Ou<|Ou<|Ou<|Ou<|Ou<|Ou<|Of<|Cq DI<|Cq aA<|Of<|Of<|Of<|Of<|Ou<|Ou<|Ou<|Ou<|Ou<|Ou<|Ou<|Of<|Cq cE<|bF<|Kr ?_;exact⟨Z,⟨_,Z,by rfl⟩,Z,Z,Z⟩
  refine Cn ?_ ?_<;>intro F
  .rw[I,<-i]at F;refine Sz aH<|aC<|Rt ?_;exact⟨by rw[uY hlt F];rfl,Z⟩
  rw[I,<-i]at F;refine aB<|Rd aA<|Y (bC eJ)<|Y (bT aG)<|Y aA<|Y (jA aY)<|Y (fK N_)<|Uu (by exact XD (.inl Z) mQ U_ Z Z Z Z Z Z Z)<|Zz<|Rd aA<|Y iF<|Da ?_;refine⟨k+1,⟨X,λj w=>?_⟩,X,?_⟩
  .by_cases e:j=k
   .subst e;exact F
   exact hno j X
  rw[d];exact L_
 have b:k=C o.refs:=J_ K
 subst b;rw[B5 hno,Bool.not_false,Bool.true_and,aCx,<-c];refine aP<|S<|U (bC eK)<|V (bT M_)<|aD<|U cI<|Da<|Cn ?_ ?_<;>intro L
 .rw[b6 (b9 L)];exact U aA<|Y cI<|V aH<|aC<|Rt<|Qq
 rw[a8 (b_ L)];refine U cI<|Da<|Cn ?_ ?_<;>intro P
 .rw[b6 (b9 P)];exact U aA<|Y AU<|V aH<|aC<|Rt<|Qq
 rw[a8 (b_ P)];refine U cI<|Da<|Cn ?_ ?_<;>intro Q
 .rw[b6 (b9 Q)];exact U aA<|Y AU<|V aH<|aC<|Rt<|Qq
 rw[a8 (b_ Q)];refine U cI<|Da<|Cn ?_ ?_<;>intro R
 .rw[b6 (b9 R)];exact U aA<|Y AU<|V aH<|aC<|Rt<|Qq
 rw[a8 (b_ R)];exact aB<|U aA<|Y cI<|V aH<|aC<|Rt<|Qq
def atO(o:l8):Bool:=if o.kind=1 then dw o.x o.y else(θ (o.x=0)&&θ (o.y=0))
theorem Xf(o):((((cK o.id&&!θ (eQ o.kind=a6))&&atO o)&&uA o.tags)&&S9 o)=pB o:=by
 cases f:θ (eQ _=a6)with
 |true=>simp[pB,PD,xD,f]
 |false =>
  have D:=BU f;have B:¬ o.kind=0:=λe=>by rw[e]at f;simp[eQ]at f
  simp only[pB,PD,xD,f,S9,atO,UT,aCx,F0];generalize cK o.id=a;generalize uA o.tags=b;generalize (List.range _).any _=w;generalize dw o.x o.y=c;generalize (θ (o.x=0)&&θ (o.y=0))=d;generalize o.kind=k at *;rcases(by omega:k=1\/k=2\/k=3\/k=4\/k=5)with rfl|rfl|rfl|rfl|rfl<;>cases a<;>cases b<;>cases w<;>cases c<;>cases d<;>rw[Bool.eq_iff_iff]<;>simp<;>omega
theorem i7{p:Prop}(h:p:=by exact aW Z eM sizeOf104 Z Z Z Z (by simp only[Zl,bZ,bS,S_];rfl) Z):p:=h
theorem u7{p:Prop}(h:p:=by simp only[Zl,bZ,bS,S_];rfl):p:=h
theorem Mv(o:l8)(H:aF)(f:pn o):RC 261 [av (bS o)] (bv (pB o)) H:=by
 refine Pu ?_;rw[<-Xf];refine Bd func261 Z ntmps261<|U (kb 1)<|V aH<|U (bC nD)<|Y i7<|Y (kc call170 (Mu o.x o.y _))<|V aH<|S<|U (bC eK)<|Y (bT M_)<|V xN ?_;refine Cn ?_ ?_<;>intro g
 .have i:atO o=(θ (o.x=0)&&θ (o.y=0)):=by
   have h:(!θ (o.kind=1))=A:=g;rw[atO,a8 F_]
  refine Rd (bC nD)<|Y i7<|Y (oU MP)<|Y (B9 Z Z Z Z Z nA (S1 _ _ _ _))<|V aH<|S ?_;refine aT (t:=2) (n:=26) (A_:=(((cK o.id&&!θ (eQ o.kind=a6))&&atO o)&&uA o.tags)&&S9 o) ?_ ?_
  .all_goals refine Y (bC rR)<|Y (bT N_)<|Y (kc gG (lS o.id _ f.1))<|Dm ?_<;>(refine Sp 17 (λd=>?_) λd=>?_)<;>(first|exact s_|refine M<|M<|M<|M ?_|refine O (bC eK)<|O (bT M_)<|O (kc call214 (GY o.kind _))<|O FD ?_)<;>refine Y cE<|Dm ?_<;>(refine Sp 23 (λb=>?_) λb=>?_)<;>(first|exact s_|refine M ?_|refine O aA ?_)<;>refine Y cE<|Dm ?_<;>(refine Sp 26 (λe=>?_) λe=>?_)<;>(first|exact s_|refine M<|M<|M ?_|refine O (bC gL)<|O (bT dP)<|O (kc call296 (yp o.tags _ f.2.1)) ?_)<;>refine Y cE<|Dm ?_<;>(refine Sp 31 (λc=>?_) λc=>?_)<;>(first|exact s_|refine M<|M ?_|refine O (by exact aW Z cC sizeOf135 Z Z Z Z u7 Z)<|O (kc call297 (yq o _ f)) ?_)<;>refine Y cE<|Da ?_<;>exact Gj (h:=by simp_all)
  exact aC<|Rt<|Qq
 have i:atO o=dw o.x o.y:=by
  have h:(!θ (o.kind=1))=η:=g;rw[atO,b6 F_]
 refine aB<|S<|aT (t:=2) (n:=26) (A_:=(((cK o.id&&!θ (eQ o.kind=a6))&&atO o)&&uA o.tags)&&S9 o) ?_ ?_
 .all_goals refine Y (bC rR)<|Y (bT N_)<|Y (kc gG (lS o.id _ f.1))<|Dm ?_<;>(refine Sp 17 (λd=>?_) λd=>?_)<;>(first|exact s_|refine M<|M<|M<|M ?_|refine O (bC eK)<|O (bT M_)<|O (kc call214 (GY o.kind _))<|O FD ?_)<;>refine Y cE<|Dm ?_<;>(refine Sp 23 (λb=>?_) λb=>?_)<;>(first|exact s_|refine M ?_|refine O aA ?_)<;>refine Y cE<|Dm ?_<;>(refine Sp 26 (λe=>?_) λe=>?_)<;>(first|exact s_|refine M<|M<|M ?_|refine O (bC gL)<|O (bT dP)<|O (kc call296 (yp o.tags _ f.2.1)) ?_)<;>refine Y cE<|Dm ?_<;>(refine Sp 31 (λc=>?_) λc=>?_)<;>(first|exact s_|refine M<|M ?_|refine O (by exact aW Z cC sizeOf135 Z Z Z Z u7 Z)<|O (kc call297 (yq o _ f)) ?_)<;>refine Y cE<|Da ?_<;>exact Gj (h:=by simp_all)
 exact aC<|Rt<|Qq
def eb{α:Type}(e:α->α->Bool)(a b:List α):Bool:=θ (C a=C b)&&(List.range (C a)).all λk=>match a[k]?,b[k]? with|some x,N y=>e x y|_,_=>A
theorem nc{e}(B:∀x y,e x y=A↔x=y){a b:List α}:eb e a b=A↔a=b:=by
 constructor
 .intro h;simp[eb,l7,l6,Ã,Î]at h;apply ext_getElem h.1
  grind
 simp[eb,l7,l6,Ã,Î,true_and]
 simp_all
theorem nf{e}{a b}{k:Nat}{x y:α}(B:a[k]?=N x)(D:b[k]?=N y)(h:e x y=η):eb e a b=η:=by
 rw[eb]
 grind
theorem ZD{e}{a b:List α}(B:C a=C b)(h:∀k,k<C a->∀x y,a[k]?=N x->b[k]?=N y->e x y=A):eb e a b=A:=by
 simp[eb,l7,l6,Ã,Î]
 simp_all
def O0(a b:B_):Bool:=θ (a=b)
theorem Cv(a b):O0 a b=A↔a=b:=by simp[O0]
def JM(a b:l8):Bool:=θ (a.id=b.id)&&θ (a.kind=b.kind)&&(θ (a.x=b.x)&&θ (a.y=b.y))&&θ (C a.refs=C b.refs)&&θ (C a.tags=C b.tags)
def OC(a b:l8):Bool:=JM a b&&(eb O0 a.refs b.refs&&eb xJ a.tags b.tags)
theorem uw{a b}:OC a b=A↔a=b:=by
 rw[OC,l7,l7,nc Cv,nc XP];cases a;cases b;simp[JM,l7,l6,l8.mk.injEq]
 grind
def UO(a b:l8)(B D E F:Int):Bool:=!θ (a.id=b.id)||!θ (a.kind=b.kind)||!(θ (a.x=b.x)&&θ (a.y=b.y))||!θ (B=D)||!θ (E=F)
theorem Y2(a b):UO a b (C (a.refs.map S_)) (C (b.refs.map S_)) (C (a.tags.map bZ)) (C (b.tags.map bZ))=!JM a b:=by simp[UO,JM,g_,Bool.not_and,Int.natCast_inj]
theorem Mc(a b:l8)(H:aF)(e:C a.refs<2^62)(W:C a.tags<2^62):RC 265 [av (bS a),av (bS b)] (bv (OC a b)) H:=by
 refine Pu ?_;have c:C (a.refs.map S_)=C a.refs:=g_ _;have d:C (a.tags.map bZ)=C a.tags:=g_ _;refine Bd func265 Z ntmps265<|U (kb 2)<|Y (kb 3)<|V aH<|S<|S<|aT (t:=43) (n:=41) (A_:=UO a b (C (a.refs.map S_):Int) (C (b.refs.map S_):Int) (C (a.tags.map bZ):Int) (C (b.tags.map bZ):Int)) ?_ ?_
 .all_goals refine Y (bC rR)<|Y (bT N_)<|Y (bC rR)<|Y (bT N_)<|Y FD<|Dm ?_<;>(refine Sp 12 (λE=>?_) λE=>?_)<;>(first|exact s_|refine M<|M<|M<|M<|M ?_|refine O (bC eK)<|O (bT M_)<|O (bC eK)<|O (bT M_)<|O xN ?_)<;>refine Y cE<|Dm ?_<;>(refine Sp 19 (λg=>?_) λg=>?_)<;>(first|exact s_|refine M<|M<|M<|M<|M ?_|refine O (bC nD)<|O i7<|O (bC nD)<|O i7<|O (LH Z Z Z Z Z nA (S1 _ _ _ _)) ?_)<;>refine Y cE<|Dm ?_<;>(refine Sp 26 (λz=>?_) λz=>?_)<;>(first|exact s_|refine M<|M<|M<|M<|M<|M<|M ?_|refine O (bC eJ)<|O (bT aG)<|O (fP aE)<|O (bC eJ)<|O (bT aG)<|O (fP aE)<|O xN ?_)<;>refine Y cE<|Dm ?_<;>(refine Sp 35 (λw=>?_) λw=>?_)<;>(first|exact s_|refine M<|M<|M<|M<|M<|M<|M ?_|refine O (bC gL)<|O (bT dP)<|O (fP dW)<|O (bC gL)<|O (bT dP)<|O (fP dW)<|O xN ?_)<;>refine V cE ?_<;>exact Gj (h:=by first|(simp only[UO, *];rfl)|(simp_all[UO];done))
 refine Cn ?_ ?_<;>intro q
 .rw[Y2]at q;refine Sz aH<|aC<|Rt ?_;refine⟨?_,Z⟩;have:JM a b=η:=F_
  rw[OC,this];rfl
 rw[Y2]at q;have F:JM a b=A:=F_
 have J:C a.refs=C b.refs/\C a.tags=C b.tags:=by
  simp only[JM,l7,l6]at F;omega
 have ⟨B,D⟩:=J;rw[OC,F,Bool.true_and];refine aB<|S<|Sz aH<|aD<|bA (σ:=Nat) (λk=>([(2,.ref 2 0 0 0),(3,.ref 3 0 0 0),(5,iv (k:Int))],[(3,bx 6 135 ((bS b).map .pv)),(2,bx 6 135 ((bS a).map .pv))])) (λk=>k<=C a.refs/\∀j,j<k->∀x y,a.refs[j]?=N x->b.refs[j]?=N y->O0 x y=A) (λk=>C a.refs - k) 0 ⟨X,X⟩ ?_ ?_
 .exact Wk
 rintro k ⟨I,s⟩;refine S<|U aA<|Y (bC eJ)<|Y (bT aG)<|Y (fP aE)<|V cH<|Cn ?_ ?_<;>intro v
 .have hlt:k<C a.refs:=I_ v
  have ⟨x,n⟩:=aQ hlt;have ⟨y,p⟩:=aQ (l:=b.refs) (k:=k) X;have i_:=cA (f:=S_) n;have Q:=cA (f:=S_) p;refine aB<|S<|aD<|S<|aN a7<|Cq (bC eJ)<|Cq (bT aG)<|Cq aA<|Cq (jA aY)<|Cq (fK N_)<|Cq (bC eJ)<|Cq (bT aG)<|Cq aA<|Cq (jA aY)<|Cq (fK N_)<|Cq FD<|bF<|Kr<|Cn ?_ ?_<;>intro t
  .have u:O0 x y=η:=by
    have h:(!O0 x y)=A:=t
    simpa using h
   refine Sz aH<|aC<|Rt ?_;exact⟨by rw[nf n p u];rfl,Z⟩
  have u:O0 x y=A:=by
   have h:(!O0 x y)=η:=t
   simpa using h
  refine aB<|Rd aA<|Y iF<|Da ?_;refine⟨k+1,⟨X,λj K G L R P=>?_⟩,X,Wk⟩
  grind
 have E:k=C a.refs:=J_ v
 subst E;rw[ZD B s,Bool.true_and];refine aP<|S<|Sz aH<|aD<|bA (σ:=Nat) (λk=>([(2,.ref 2 0 0 0),(3,.ref 3 0 0 0),(6,iv (k:Int))],[(3,bx 6 135 ((bS b).map .pv)),(2,bx 6 135 ((bS a).map .pv))])) (λk=>k<=C a.tags/\∀j,j<k->∀x y,a.tags[j]?=N x->b.tags[j]?=N y->xJ x y=A) (λk=>C a.tags - k) 0 ⟨X,X⟩ ?_ ?_
 .exact Wk
 rintro k ⟨I,hall2⟩;refine S<|U aA<|Y (bC gL)<|Y (bT dP)<|Y (fP dW)<|V cH<|Cn ?_ ?_<;>intro m
 .have hlt:k<C a.tags:=I_ m
  have ⟨x,n⟩:=aQ hlt;have ⟨y,p⟩:=aQ (l:=b.tags) (k:=k) X;have i_:=cA (f:=bZ) n;have Q:=cA (f:=bZ) p;refine aB<|S<|aD<|S<|aN a7<|Cq (bC gL)<|Cq (bT dP)<|Cq aA<|Cq (jA lZ)<|Cq (by exact fG Z yG mD Z X u7 Z)<|Cq (bC gL)<|Cq (bT dP)<|Cq aA<|Cq (jA lZ)<|Cq (by exact fG Z yG mD Z X u7 Z)<|Cq (LH Z Z Z Z Z eqGuardType270 (aAu _ _ _ _))<|bF<|Kr ?_;refine Cn ?_ ?_<;>intro o
  .have u:xJ x y=η:=by
    have h:(!xJ x y)=A:=o
    simpa using h
   refine Sz aH<|aC<|Rt ?_;exact⟨by rw[nf n p u],Z⟩
  have u:xJ x y=A:=by
   have h:(!xJ x y)=η:=o
   simpa using h
  refine aB<|Rd aA<|Y iF<|Da ?_;refine⟨k+1,⟨X,λj K G L R P=>?_⟩,X,Wk⟩
  grind
 have E:k=C a.tags:=J_ m
 subst E;refine aP<|Sz aH<|aC<|Rt ?_;exact⟨by rw[ZD D hall2],Z⟩
theorem Ge(a b):OC a b=zG a b:=by rw[Bool.eq_iff_iff,uw,JN]
theorem Xc(a b)(H)(d:C a.refs<2^62)(c:C a.tags<2^62):RC 265 [av (bS a),av (bS b)] (bv (zG a b)) H:=by rw[<-Ge];exact Mc a b H d c
def raw(e:b8)(s:B_):Prop:=s=e.id\/s=e.other\/s=e.node\/s=e.obj.id\/s∈e.refs\/s∈e.obj.refs
def rb(b:b8):Bool:=((((((!θ (b.id=a6)||!θ (b.other=a6))||!θ (b.node=a6))||!(θ (b.x=0)&&θ (b.y=0)))||!θ (b.key=a6))||!θ (b.val=a6))||θ ((0:Int)<(C (b.refs.map S_):Int)))||!zG b.obj j8
theorem I7(b):rb b=η↔(b.id=a6/\b.other=a6/\b.node=a6/\(b.x=0/\b.y=0)/\b.key=a6/\b.val=a6/\b.refs=[]/\b.obj=j8):=by
 have a:θ (0<(C (b.refs.map S_)))=η↔b.refs=[]:=H_
 simp[rb,q_,Bool.not_eq_false',l7,l6,a,JN];constructor;all_goals simp_all
theorem xA(x y):tf x y=dw x y:=by rw[Bool.eq_iff_iff];simp[tf,dw,l7,l6];omega
theorem Fd:(T a6:Int)<=200:=E_
def Sv(e:b8):b8:=⟨e.op,e.id,e.other,e.node,e.x,e.y,e.key,e.val,e.refs,j8⟩
theorem ed1(e)(B:e.op=1):gO e=(!rb (Sv e)&&pB e.obj):=by
 have ⟨op,id,a,b,x,y,g,f,c,d⟩:=e;have h:=I7 (Sv ⟨1,id,a,b,x,y,g,f,c,d⟩);rw[Bool.eq_iff_iff];simp[Sv]at h |-;simp[gO,l7,r9,h,qD,xA,xW,GJ]
 grind
def Su(e:b8):b8:=⟨e.op,a6,e.other,e.node,0,0,e.key,e.val,e.refs,e.obj⟩
theorem ed2(e)(B:e.op=2):gO e=(!rb (Su e)&&([e.id].all cK&&(θ ((T e.val:Int)<=200)&&dw e.x e.y))):=by
 have ⟨op,id,a,b,x,y,g,f,c,d⟩:=e;have i:=I7 (Su ⟨2,id,a,b,x,y,g,f,c,d⟩);rw[Bool.eq_iff_iff];simp[Su]at i |-;simp[gO,l7,r9,i,qD,xA,xW,GJ];simp only[Int.reduceEq,if_true,if_false,reduceIte,Int.reduceLE,decide_true,b8.mk.injEq,true_and,and_true,Ë,List.all_nil,Bool.and_true,l7,xA,l6,r9,q_,q7,g_,eq_comm,eq_comm,eq_comm,eq_comm];constructor
 .intro h;have D:=Fd
  simp_all
 simp_all
def Ss(e:b8):b8:=⟨e.op,a6,e.other,e.node,e.x,e.y,a6,a6,e.refs,e.obj⟩
theorem ed3(e)(B:e.op=3):gO e=(!rb (Ss e)&&([e.id,e.key].all cK&&θ ((T e.val:Int)<=200))):=by
 have ⟨op,id,a,b,x,y,g,f,c,d⟩:=e;have h:=I7 (Ss ⟨3,id,a,b,x,y,g,f,c,d⟩);rw[Bool.eq_iff_iff];simp[Ss]at h |-;simp[gO,l7,r9,h,qD,xA,xW,GJ]
 grind
def So(e:b8):b8:=⟨e.op,a6,e.other,e.node,e.x,e.y,e.key,e.val,[],e.obj⟩
theorem ed4(e)(B:e.op=4):gO e=(!rb (So e)&&((e.id::e.refs).all cK&&(!(θ ((C (e.refs.map S_):Int)<1)||θ (2000<(C (e.refs.map S_):Int)))&&θ ((T e.val:Int)<=200)))):=by
 have ⟨op,id,b,c,x,y,i,f,d,g⟩:=e;have j:=I7 (So ⟨4,id,b,c,x,y,i,f,d,g⟩);rw[Bool.eq_iff_iff];simp[So]at j |-;simp[gO,l7,r9,j,qD,xA,xW,GJ];simp only[Int.reduceEq,if_true,if_false,reduceIte,Int.reduceLE,decide_true,b8.mk.injEq,true_and,and_true,Ë,List.all_nil,Bool.and_true,l7,xA,l6,r9,q_,q7,g_,eq_comm,eq_comm,eq_comm,eq_comm];constructor
 .intro h;have D:=Fd
  simp_all
  omega
 grind
def Sn(e:b8):b8:=⟨e.op,a6,e.other,e.node,e.x,e.y,e.key,e.val,e.refs,e.obj⟩
theorem ed5(e)(i:e.op=5):gO e=(!rb (Sn e)&&([e.id].all cK&&θ ((T e.val:Int)<=200))):=by
 have ⟨op,id,a,b,x,y,g,f,c,d⟩:=e;subst i;have h:=I7 (Sn ⟨5,id,a,b,x,y,g,f,c,d⟩);rw[Bool.eq_iff_iff];simp[Sn]at h |-;simp[gO,l7,r9,h,qD,xA,xW,GJ];simp only[Int.reduceEq,if_true,if_false,reduceIte,Int.reduceLE,decide_true,b8.mk.injEq,true_and,and_true,Ë,List.all_nil,Bool.and_true,l7,xA,l6,r9,q_,q7,g_,eq_comm,eq_comm,eq_comm,eq_comm];constructor
 .have hs:=Fd
  simp_all
 simp_all
def Sm(e:b8):b8:=⟨e.op,a6,a6,a6,e.x,e.y,e.key,e.val,e.refs,e.obj⟩
theorem ed6(e)(i:e.op=6):gO e=(!rb (Sm e)&&([e.id,e.node,e.other].all cK&&θ ((T e.val:Int)<=200))):=by
 have ⟨op,id,a,b,x,y,g,f,c,d⟩:=e;subst i;have h:=I7 (Sm ⟨6,id,a,b,x,y,g,f,c,d⟩);rw[Bool.eq_iff_iff];simp[Sm]at h |-;simp[gO,l7,r9,h,qD,xA,xW,GJ];simp only[Int.reduceEq,if_true,if_false,reduceIte,Int.reduceLE,decide_true,b8.mk.injEq,true_and,and_true,Ë,List.all_nil,Bool.and_true,l7,xA,l6,r9,q_,q7,g_,eq_comm,eq_comm,eq_comm,eq_comm];constructor
 .have hs:=Fd
  simp_all
 simp_all
def Sl(e:b8):b8:=⟨e.op,a6,a6,e.node,e.x,e.y,e.key,e.val,e.refs,e.obj⟩
theorem ed7(e)(i:e.op=7):gO e=(!rb (Sl e)&&([e.id,e.other].all cK&&θ ((T e.val:Int)<=200))):=by
 have ⟨op,id,a,b,x,y,g,f,c,d⟩:=e;subst i;have h:=I7 (Sl ⟨7,id,a,b,x,y,g,f,c,d⟩);rw[Bool.eq_iff_iff];simp[Sl]at h |-;simp[gO,l7,r9,h,qD,xA,xW,GJ];simp only[Int.reduceEq,if_true,if_false,reduceIte,Int.reduceLE,decide_true,b8.mk.injEq,true_and,and_true,Ë,List.all_nil,Bool.and_true,l7,xA,l6,r9,q_,q7,g_,eq_comm,eq_comm,eq_comm,eq_comm];constructor
 .have hs:=Fd
  simp_all
 simp_all
abbrev fN(l:List B_):List (List AV):=l.map (λs=>(S_ s).map .pv)
theorem AF(l m):fN l++(m.map S_).map (·.map .pv)=fN (l++m):=H_
theorem xS(H)(l):∀r∈fN l,∀a∈r,Clo H a:=ei _ _ _
instance(H)(l):W_ (H) (fN l):=⟨xS H l⟩
theorem KF(l:List _):∀r∈l.map S_,C r=1:=λr a=>by
 obtain ⟨o,_,rfl⟩:=mem_map.1 a;rfl
def bI(e:b8):B_:=if e.op=1 then e.id else a6
def bB(e:b8):l8:=if e.op=1 then j8 else e.obj
def bX(e:b8):Int:=if e.op=2 then 0 else e.x
def bY(e:b8):Int:=if e.op=2 then 0 else e.y
def bK(e:b8):B_:=if e.op=3 then a6 else e.key
def bV(e:b8):B_:=if e.op=3 then a6 else e.val
def bR(e:b8):List B_:=if e.op=4 then[]else e.refs
def bN(e:b8):B_:=if e.op=6 then a6 else e.node
def bO(e:b8):B_:=if(θ (e.op=6)||θ (e.op=7))=A then a6 else e.other
def xP(e:b8):b8:=⟨e.op,bI e,bO e,bN e,bX e,bY e,bK e,bV e,bR e,bB e⟩
abbrev bE(e:b8):Ob:=bx 15 137 ((bL e).map .pv)
def eNo:b8:=⟨0,a6,a6,a6,0,0,a6,a6,[],j8⟩
theorem aDS(e:b8)(H:aF):RC 264 [av (bL e)] (av (bL (xP e))) H:=by
 refine Pu ?_;rw[xP];have ⟨i,z⟩:∃x,x=bI e:=X_;have ⟨b,t⟩:∃x,x=bB e:=X_;have ⟨x,p⟩:∃x,x=bX e:=X_;have ⟨y,s⟩:∃x,x=bY e:=X_;have ⟨k,D⟩:∃x,x=bK e:=X_;have ⟨v,w⟩:∃x,x=bV e:=X_;have ⟨r,q⟩:∃x,x=bR e:=X_;have ⟨n,u⟩:∃x,x=bN e:=X_;have ⟨o,B⟩:∃x,x=bO e:=X_;rw[<-z,<-t,<-p,<-s,<-D,<-w,<-q,<-u,<-B];refine Bd func264 Z ntmps264<|U (kb 1)<|V (kl 2 XB)<|eT (λ(_:Unit)=>([(1,.ref 1 0 0 0),(2,.ref 2 0 0 0)],[(1,bE ⟨e.op,i,e.other,e.node,e.x,e.y,e.key,e.val,e.refs,b⟩),(2,bE eNo)])) (λ_=>True) ?_ ?_
 .refine U (bC iZ)<|Y (bT M_)<|V cI<|Cn ?_ ?_<;>intro j
  .have h:=b9 j
   (rw[z,t,bI,bB,b6 h,b6 h])
   refine Rd (oU GF)<|Y (bC vX)<|Uu (by exact rK Z sizeOf135 Z Z Z Z Z Z Z (r_ Z) Z Z)<|Zz ?_;exact⟨(),T_,Wk⟩
  have h:=b_ j
  (rw[z,t,bI,bB,a8 h,a8 h])
  refine Rd (bC kG)<|Uu (ku V_)<|Zz ?_;exact⟨(),T_,Wk⟩
 rintro _ -;refine eT (λ(_:Unit)=>([(1,.ref 1 0 0 0),(2,.ref 2 0 0 0)],[(1,bE ⟨e.op,i,e.other,e.node,x,y,e.key,e.val,e.refs,b⟩),(2,bE eNo)])) (λ_=>True) ?_ ?_
 .refine U (bC iZ)<|Y (bT M_)<|V cI<|Cn ?_ ?_<;>intro l
  .have h:=b9 l
   (rw[p,s,bX,bY,b6 h,b6 h])
   refine Rd (oU MP)<|Y (bC jQ)<|Uu (by exact rK Z sizeOf104 Z Z Z Z Z Z Z (r_ Z) Z Z)<|Zz ?_;exact⟨(),T_,Wk⟩
  have h:=b_ l
  (rw[p,s,bX,bY,a8 h,a8 h])
  refine aB ?_;exact⟨(),T_,Wk⟩
 rintro _ -;refine eT (λ(_:Unit)=>([(1,.ref 1 0 0 0),(2,.ref 2 0 0 0)],[(1,bE ⟨e.op,i,e.other,e.node,x,y,k,v,e.refs,b⟩),(2,bE eNo)])) (λ_=>True) ?_ ?_
 .refine U (bC iZ)<|Y (bT M_)<|V cI<|Cn ?_ ?_<;>intro f
  .have h:=b9 f
   (rw[D,w,bK,bV,b6 h,b6 h])
   refine U (bC oH)<|Uu (ku V_)<|Zz<|Rd (bC pJ)<|Uu (ku V_)<|Zz ?_;exact⟨(),T_,Wk⟩
  have h:=b_ f
  (rw[D,w,bK,bV,a8 h,a8 h])
  refine aB ?_;exact⟨(),T_,Wk⟩
 rintro _ -;refine eT (λ(_:Unit)=>([(1,.ref 1 0 0 0),(2,.ref 2 0 0 0)],[(1,bE ⟨e.op,i,e.other,e.node,x,y,k,v,r,b⟩),(2,bE eNo)])) (λ_=>True) ?_ ?_
 .refine U (bC iZ)<|Y (bT M_)<|V cI<|Cn ?_ ?_<;>intro c
  .have h:=b9 c
   (rw[q,bR,b6 h])
   refine Rd (bC iW)<|Uu (ku sizeOf22)<|Zz ?_;exact⟨(),T_,Wk⟩
  have h:=b_ c
  (rw[q,bR,a8 h])
  refine aB ?_;exact⟨(),T_,Wk⟩
 rintro _ -;refine eT (λ(_:Unit)=>([(1,.ref 1 0 0 0),(2,.ref 2 0 0 0)],[(1,bE ⟨e.op,i,e.other,n,x,y,k,v,r,b⟩),(2,bE eNo)])) (λ_=>True) ?_ ?_
 .refine U (bC iZ)<|Y (bT M_)<|V cI<|Cn ?_ ?_<;>intro d
  .have h:=b9 d
   (rw[u,bN,b6 h])
   refine Rd (bC rQ)<|Uu (ku V_)<|Zz ?_;exact⟨(),T_,Wk⟩
  have h:=b_ d
  (rw[u,bN,a8 h])
  refine aB ?_;exact⟨(),T_,Wk⟩
 rintro _ -;refine eT (λ(_:Unit)=>([(1,.ref 1 0 0 0),(2,.ref 2 0 0 0)],[(1,bE ⟨e.op,i,o,n,x,y,k,v,r,b⟩),(2,bE eNo)])) (λ_=>True) ?_ ?_
 .refine S<|aT (t:=34) (n:=9) (A_:=θ (e.op=6)||θ (e.op=7)) ?_ ?_
  .all_goals refine Y (bC iZ)<|Y (bT M_)<|Y cI<|Dm ?_<;>(refine Sp 30 (λm=>?_) λm=>?_)<;>(first|exact s_|refine M<|M<|M ?_|refine O (bC iZ)<|O (bT M_)<|O cI ?_)<;>refine V cE ?_<;>exact Gj (h:=by simp_all)
  refine Cn ?_ ?_<;>intro g
  .have h:=g;rw[B,bO,b6 h];refine Rd (bC kZ)<|Uu (ku V_)<|Zz ?_;exact⟨(),T_,Wk⟩
  have h:=g;rw[B,bO,a8 (by simp_all)];refine aB ?_;exact⟨(),T_,Wk⟩
 rintro _ -;refine U (xB cW bD)<|Uu (jH bD)<|Zz<|aC<|cR (H':=[]) (.inr Z) Z (DD cW bD) (P_ (r:=av (bL ⟨e.op,i,o,n,x,y,k,v,r,b⟩))) ?_;exact Qq
def YQ(e:b8):List B_:=if e.op=3 then[e.id]++[e.key]else[e.id]
def cz(e:b8):List B_:=if e.op=4 then YQ e++e.refs else YQ e
def ft(e:b8):List B_:=if e.op=6 then cz e++[e.node]else cz e
def Yr(e:b8):List B_:=if(θ (e.op=6)||θ (e.op=7))=A then ft e++[e.other]else ft e
def aF4(e:b8):Bool:=θ ((C (e.refs.map S_):Int)<1)||θ (2000<(C (e.refs.map S_):Int))
def vG(e:b8):Bool:=!rb (xP e)&&(if e.op=1 then pB e.obj else(Yr e).all cK&&(!(θ (e.op=4)&&aF4 e)&&(θ ((T e.val:Int)<=200)&&(!θ (e.op=2)||dw e.x e.y))))
theorem aEA(e)(h:1<=e.op/\e.op<=7):gO e=vG e:=by
 have ⟨a,id,other,node,x,y,key,val,refs,obj⟩:=e;simp only at h;rcases(by omega:a=1\/a=2\/a=3\/a=4\/a=5\/a=6\/a=7)with rfl|rfl|rfl|rfl|rfl|rfl|rfl
 .rw[ed1 _ rfl];rfl
 .rw[ed2 _ rfl];rfl
 .rw[ed3 _ Z,vG];show _=(_&&(_&&(A&&(_&&A))));rw[Bool.and_true];rfl
 .rw[ed4 _ Z,vG];show _=(_&&(_&&(!(A&&_)&&(_&&A))));rw[Bool.and_true];rfl
 .rw[ed5 _ Z,vG];show _=(_&&(_&&(A&&(_&&A))));rw[Bool.and_true];rfl
 .rw[ed6 _ Z,vG];show _=(_&&(_&&(A&&(_&&A))));rw[Bool.and_true];rfl
 rw[ed7 _ Z,vG];show _=(_&&(_&&(A&&(_&&A))));rw[Bool.and_true];rfl
theorem zt(e):C (Yr e)<=C e.refs+5:=by
 rw[Yr,ft,cz,YQ]
 grind
theorem Yv(e):C (YQ e)<=C e.refs+5:=by rw[YQ];all_goals grind
theorem Yu(e):C (cz e)<=C e.refs+5:=by
 rw[cz,YQ]
 grind
theorem Yt(e):C (ft e)<=C e.refs+5:=by
 rw[ft,cz,YQ]
 grind
theorem LV{P:α->Prop}{p}[Decidable p](B:∀s∈a,P s)(D:∀s∈b,P s):∀s∈(if p then a else b),P s:=G_
theorem LW{P:α->Prop}(c:∀s∈a,P s)(d:∀s∈b,P s):∀s∈a++b,P s:=λs e=>(mem_append.1 e).elim (c s) (d s)
theorem FV{P:α->Prop}{a}(h:P a):∀s∈[a],P s:=λs B=>by
 simp_all
theorem Yq{e}(j:WY e):∀s∈Yr e,T s<2^62:=by have ⟨⟨d,i,f,h⟩,⟨B,g⟩,D⟩:=j;have c:∀s∈YQ e,T s<2^62:=LV (LW (FV d) (FV h)) (FV d);have b:∀s∈cz e,T s<2^62:=LV (LW c g) c;have a:∀s∈ft e,T s<2^62:=LV (LW b (FV f)) b;exact LV (LW a (FV i)) a
def nm0(e:b8):List B_:=[e.id]
theorem Eg(e:b8)(H:aF)(v:WY e)(hr:C e.refs<2^40):RC 220 [av (bL e)] (bv (gO e)) H:=by
 refine Pu ?_;have L:=Yq v;have w:=zt e;have β:C (e.refs.map S_)=C e.refs:=g_ _;have E:C (xP e).obj.refs<2^62/\C (xP e).obj.tags<2^62:=by
  show C (bB e).refs<_/\C (bB e).tags<_;rw[bB]
  split
  .exact⟨E_,E_⟩
  exact⟨v.2.2.2.2.1,v.2.2.2.1.1⟩
 refine Bd func220 Z ntmps220<|U (kb 1)<|V aH<|S<|S<|aT (t:=13) (n:=9) (A_:=θ (e.op<1)||θ (7<e.op)) ?_ ?_
 .all_goals refine Y (bC iZ)<|Y (bT M_)<|Y cH<|Dm ?_<;>(refine Sp 9 (λh9=>?_) λh9=>?_)<;>(first|exact s_|refine M<|M<|M ?_|refine O (bC iZ)<|O (bT M_)<|O jB ?_)<;>refine V cE ?_<;>(exact⟨⟨_,Z,G_⟩,Z,Z,Z⟩)
 refine Cn ?_ ?_<;>intro a
 .have h:=a;have I:gO e=η:=by
   simp only[Bool.or_eq_true,l6]at h;rw[gO,Bool.and_eq_false_iff,Bool.and_eq_false_iff,q7,q7];omega
  rw[I];exact Sz aH<|aC<|Rt<|Qq
 have h:=a;simp only[q_,q7]at h;rw[aEA e X,vG];have P:rb (xP e)=(((((((!θ ((xP e).id=a6)||!θ ((xP e).other=a6))||!θ ((xP e).node=a6))||!(θ ((xP e).x=0)&&θ ((xP e).y=0)))||!θ ((xP e).key=a6))||!θ ((xP e).val=a6))||θ ((0:Int)<(C ((xP e).refs.map S_):Int)))||!zG (xP e).obj j8):=rfl;have W:=λH=>aDS e H;have ⟨G,hG⟩:∃G,G=xP e:=X_;simp only[<-hG]at P E W;rw[<-hG];clear hG;have ⟨g0,g1,g2,g3,g4,g5,g6,g7,g8,g9⟩:=G;simp only at P E;refine aB<|U (by exact aW Z cW bD Z Z Z Z l5 Z)<|Y (kc call264 (W _))<|Y (kl 3 XB)<|Uu (jH bD)<|Zz<|S<|S ?_;refine aT (t:=57) (n:=49) (A_:=rb ⟨g0,g1,g2,g3,g4,g5,g6,g7,g8,g9⟩) ?_ ?_
 .all_goals refine Y (bC kG)<|Y (bT N_)<|Y FD<|Dm ?_<;>(refine Sp 19 (λh19=>?_) λh19=>?_)<;>(try exact w_)<;>(first|refine M<|M<|M ?_|refine O (bC kZ)<|O (bT N_)<|O FD ?_)<;>refine Y cE<|Dm ?_<;>(refine Sp 24 (λh24=>?_) λh24=>?_)<;>(try exact w_)<;>(first|refine M<|M<|M ?_|refine O (bC rQ)<|O (bT N_)<|O FD ?_)<;>refine Y cE<|Dm ?_<;>(refine Sp 29 (λh29=>?_) λh29=>?_)<;>(try exact w_)<;>(first|refine M<|M<|M<|M ?_|refine O (bC jQ)<|O (by exact aW Z eM sizeOf104 Z Z Z Z l5 Z)<|O (oU MP)<|O (LH Z Z Z Z Z nA (S1 _ _ _ _)) ?_)<;>refine Y cE<|Dm ?_<;>(refine Sp 35 (λh35=>?_) λh35=>?_)<;>(try exact w_)<;>(first|refine M<|M<|M ?_|refine O (bC oH)<|O (bT N_)<|O FD ?_)<;>refine Y cE<|Dm ?_<;>(refine Sp 40 (λh40=>?_) λh40=>?_)<;>(try exact w_)<;>(first|refine M<|M<|M ?_|refine O (bC pJ)<|O (bT N_)<|O FD ?_)<;>refine Y cE<|Dm ?_<;>(refine Sp 45 (λh45=>?_) λh45=>?_)<;>(try exact w_)<;>(first|refine M<|M<|M<|M ?_|refine O (bC iW)<|O (bT aG)<|O (fP aE)<|O jB ?_)<;>refine Y cE<|Dm ?_<;>(refine Sp 51 (λh51=>?_) λh51=>?_)<;>(try exact w_)<;>(first|refine M<|M<|M<|M<|M ?_|refine O (bC vX)<|O (by exact aW Z cC sizeOf135 Z Z Z Z l5 Z)<|O (oU GF)<|O (kc call265 (Xc g9 j8 _ E.1 E.2))<|O iJ ?_)<;>refine V cE ?_<;>exact Gj (h:=by simp_all)
 refine Cn ?_ ?_<;>intro c
 .have x:=c;rw[x,Bool.not_true,Bool.false_and];exact Sz aH<|aC<|Rt<|Qq
 have x:=c;rw[x,Bool.not_false,Bool.true_and];clear P E x;refine aB<|S<|U (bC iZ)<|Y (bT M_)<|V cI<|Cn ?_ ?_<;>intro d
 .have y:e.op=1:=b9 d;rw[b6 y];exact U (bC vX)<|Y (by exact aW Z cC sizeOf135 Z Z Z Z l5 Z)<|Y (kc call261 (Mv e.obj _ v.2.2))<|V aH<|aC<|Rt<|Qq
 have y:¬ e.op=1:=b_ d;rw[a8 y];refine aB<|U (bC kG)<|Y (bT N_)<|Y (eR (id:=66) Z aY Z Z Z Z H_ Z)<|Da<|eT (λ(g:Nat)=>([(1,.ref 1 0 0 0),(4,.osl 66 g 0 (C (YQ e)))],[(1,bE e),(66,⟨g,1,9,fN (YQ e)⟩)])) (λ_=>True) ?_ ?_
 .refine U (bC iZ)<|Y (bT M_)<|V cI<|Cn ?_ ?_<;>intro i
  .have h:=b9 i;have B:YQ e=nm0 e++[e.key]:=b6 h;have K:C (nm0 e)+C ([e.key])=C (nm0 e++[e.key]):=j7.symm;have J:C (nm0 e++[e.key])<8796093022208:=by rw[<-B];have:=Yv e;omega
   rw[B];refine Rd aA<|Y (bC oH)<|Y (bT N_)<|Y (by exact aM [S_ e.key] Z aY Z Z Z Z Z (by simp[S_]))<|Y (by exact bU (ps:=([e.key]).map S_) Z aY sX Z Z Z Z Z (show (fN (nm0 e)).length=(nm0 e).length from g_ _) Z (KF _) (m:=([e.key]).length) (g_ _) X K (AF (nm0 e) [e.key]))<|Da ?_;exact⟨0+1,T_,L_⟩
  have h:=i;have B:YQ e=nm0 e:=a8 (b_ h);rw[B];refine aB ?_;exact⟨0,T_,Wk⟩
 rintro g -;refine eT (λ(g:Nat)=>([(1,.ref 1 0 0 0),(4,.osl 66 g 0 (C (cz e)))],[(1,bE e),(66,⟨g,1,9,fN (cz e)⟩)])) (λ_=>True) ?_ ?_
 .refine U (bC iZ)<|Y (bT M_)<|V cI<|Cn ?_ ?_<;>intro k
  .have h:=b9 k;have B:cz e=YQ e++e.refs:=b6 h;have K:C (YQ e)+C (e.refs)=C (YQ e++e.refs):=j7.symm;have J:C (YQ e++e.refs)<8796093022208:=by rw[<-B];have:=Yu e;omega
   rw[B];refine Rd aA<|Y (bC iW)<|Y (bT aG)<|Y (by exact bU (ps:=(e.refs).map S_) Z aY sX Z Z Z Z Z (show (fN (YQ e)).length=(YQ e).length from g_ _) Z (KF _) (m:=(e.refs).length) (g_ _) X K (AF (YQ e) e.refs))<|Da ?_;exact⟨g+1,T_,L_⟩
  have h:=k;have B:cz e=YQ e:=a8 (b_ h);rw[B];refine aB ?_;exact⟨g,T_,Wk⟩
 rintro g -;refine eT (λ(g:Nat)=>([(1,.ref 1 0 0 0),(4,.osl 66 g 0 (C (ft e)))],[(1,bE e),(66,⟨g,1,9,fN (ft e)⟩)])) (λ_=>True) ?_ ?_
 .refine U (bC iZ)<|Y (bT M_)<|V cI<|Cn ?_ ?_<;>intro l
  .have h:=b9 l;have B:ft e=cz e++[e.node]:=b6 h;have K:C (cz e)+C ([e.node])=C (cz e++[e.node]):=j7.symm;have J:C (cz e++[e.node])<8796093022208:=by rw[<-B];have:=Yt e;omega
   rw[B];refine Rd aA<|Y (bC rQ)<|Y (bT N_)<|Y (by exact aM [S_ e.node] Z aY Z Z Z Z Z (by simp[S_]))<|Y (by exact bU (ps:=([e.node]).map S_) Z aY sX Z Z Z Z Z (show (fN (cz e)).length=(cz e).length from g_ _) Z (KF _) (m:=([e.node]).length) (g_ _) X K (AF (cz e) [e.node]))<|Da ?_;exact⟨g+1,T_,L_⟩
  have h:=l;have B:ft e=cz e:=a8 (b_ h);rw[B];refine aB ?_;exact⟨g,T_,Wk⟩
 rintro g -;refine eT (λ(g:Nat)=>([(1,.ref 1 0 0 0),(4,.osl 66 g 0 (C (Yr e)))],[(1,bE e),(66,⟨g,1,9,fN (Yr e)⟩)])) (λ_=>True) ?_ ?_
 .refine S<|aT (t:=97) (n:=9) (A_:=θ (e.op=6)||θ (e.op=7)) ?_ ?_
  .all_goals refine Y (bC iZ)<|Y (bT M_)<|Y cI<|Dm ?_<;>(refine Sp 93 (λδ=>?_) λδ=>?_)<;>(try exact w_)<;>(first|refine M<|M<|M ?_|refine O (bC iZ)<|O (bT M_)<|O cI ?_)<;>refine V cE ?_<;>exact Gj (h:=by(rw[δ];rfl))
  refine Cn ?_ ?_<;>intro o
  .have h:=id o;have B:Yr e=ft e++[e.other]:=b6 h;have K:C (ft e)+C ([e.other])=C (ft e++[e.other]):=j7.symm;have J:C (ft e++[e.other])<8796093022208:=by rw[<-B];have:=zt e;omega
   rw[B];refine Rd aA<|Y (bC kZ)<|Y (bT N_)<|Y (by exact aM [S_ e.other] Z aY Z Z Z Z Z (by simp[S_]))<|Y (by exact bU (ps:=([e.other]).map S_) Z aY sX Z Z Z Z Z (show (fN (ft e)).length=(ft e).length from g_ _) Z (KF _) (m:=([e.other]).length) (g_ _) X K (AF (ft e) [e.other]))<|Da ?_;exact⟨g+1,T_,L_⟩
  have h:=o;have B:Yr e=ft e:=a8 (by(rw[h];decide));rw[B];refine aB ?_;exact⟨g,T_,Wk⟩
 rintro g -;have ⟨i_,hN⟩:∃i_,i_=Yr e:=X_;rw[<-hN]at L w;rw[<-hN];clear hN;have γ:C (i_.map S_)=C i_:=g_ _;refine S<|S ?_;refine gK.ent (cJ.fz (id:=66) (E':=[(1,.ref 1 0 0 0),(4,.pv (aK i_))]) (H':=[(1,bE e)]) (i_.map S_) Z (Ww S_ i_)
  (by intro p hp;simp only[l9,q8,or_false]at hp;rcases hp with rfl|rfl;exact⟨_,Z,.same (.ref Z)⟩;exact⟨_,Z,.osl (by rw[r8,Ò,<-length_map (f:=S_),Ê])⟩) Z ⟨⟨_,Z,Z⟩,r5,T_⟩ T_) ?_
 refine Rg<|V aH<|aD<|bA (σ:=Nat) (λq=>([(1,.ref 1 0 0 0),(4,.pv (aK i_)),(5,iv (q:Int))],[(1,bE e)])) (λq=>q<=C i_/\∀j,j<q->∀b,i_[j]?=N b->(!cK b)=η) (λq=>C i_ - q) 0 ⟨X,X⟩ ?_ ?_
 .exact Wk
 rintro q ⟨hq,hno⟩;refine S<|U aA<|Y aA<|Y (fP aE)<|V cH<|Cn ?_ ?_<;>intro r
 .have hlt:q<C i_:=I_ r
  have ⟨s,I⟩:=aQ hlt;have hi:=cA (f:=S_) I;refine aB<|S<|aD<|U aA<|Y aA<|Y (jA aY)<|Y (fK N_)<|Y (kc gG (lS s _ (L s (m7 I))))<|V iJ<|Cn ?_ ?_<;>intro u
  .have J:(!cK s)=A:=u;have D:i_.all cK=η:=by
    rw[all_eq_false];exact⟨s,m7 I,by simpa using J⟩
   rw[D];exact Sz aH<|aC<|Rt<|Qq
  have J:(!cK s)=η:=u;refine aB<|Rd aA<|Y iF<|Da ?_;exact⟨q+1,⟨X,TK hno I J⟩,X,Wk⟩
 have τ:q=C i_:=J_ r
 subst τ;have D:i_.all cK=A:=by
  rw[Ã];intro s I;have ⟨j,hj⟩:=s8.1 I;have:=hno j (m9.1 hj).1 s hj
  simpa using this
 rw[D,Bool.true_and,aF4];clear L w hno D v;refine aP<|S<|S<|aT (t:=129) (n:=17) (A_:=θ (e.op=4)&&(θ ((C (e.refs.map S_):Int)<1)||θ (2000<(C (e.refs.map S_):Int)))) ?_ ?_
 .all_goals refine Y (bC iZ)<|Y (bT M_)<|Y cI<|Dm ?_<;>(refine Sp 118 (λQ=>?_) λQ=>?_)<;>(try exact w_)<;>(first|refine M<|M<|M<|M<|M ?_|refine O (bC iW)<|O (bT aG)<|O (fP aE)<|O cH<|O aA ?_)<;>(first|refine Sp 123 (λρ=>?_) λρ=>?_|refine lC (t:=123) Z ?_)<;>(try exact w_)<;>(first|refine M ?_|refine Fu ?_|refine O (bC iW) ?_)<;>(first|refine M ?_|refine Fu ?_|refine O (bT aG) ?_)<;>(first|refine M ?_|refine Fu ?_|refine O (fP aE) ?_)<;>(first|refine M ?_|refine Fu ?_|refine O jB ?_)<;>(first|refine M ?_|refine O cE ?_)<;>refine V cE ?_<;>exact Gj (h:=by first|(rw[Q];rfl)|(rw[Q,ρ];rfl))
 refine Cn ?_ ?_<;>intro F
 .have z:=F;rw[z];exact Sz aH<|aC<|Rt<|Qq
 have z:=F;rw[z,Bool.not_false,Bool.true_and];refine aB<|S<|aT (t:=2) (n:=17) (A_:=θ ((T e.val:Int)<=200)&&(!θ (e.op=2)||dw e.x e.y)) ?_ ?_
 .all_goals refine Y (bC pJ)<|Y (bT N_)<|Y (gQ U_)<|Y HV<|Dm ?_<;>(refine Sp 134 (λR=>?_) λR=>?_)<;>(try exact w_)<;>(first|refine M<|M<|M<|M ?_|refine O (bC iZ)<|O (bT M_)<|O xN<|O aA ?_)<;>(first|refine Sp 138 (λκ=>?_) λκ=>?_|refine lC (t:=138) Z ?_)<;>(try exact w_)<;>(first|refine M ?_|refine Fu ?_|refine O (bC jQ) ?_)<;>(first|refine M ?_|refine Fu ?_|refine O (by exact aW Z eM sizeOf104 Z Z Z Z l5 Z) ?_)<;>(first|refine M ?_|refine Fu ?_|refine O (kc call170 (Mu e.x e.y _)) ?_)<;>(first|refine M ?_|refine O cE ?_)<;>refine Y cE<|Da ?_<;>exact Gj (h:=by first|(rw[R];rfl)|(rw[R,κ];rfl))
 exact aC<|Rt<|Qq
theorem Ej(l:List b8)(H:aF)(D:C l<2^40)(s:∀e∈l,WY e)(p:∀e∈l,C e.refs<2^40):RC 165 [.pv (kU l)] (bv (lV l)) H:=by
 refine Pu ?_;have B:C (l.map bL)=C l:=g_ _;refine Bd func165 Z ntmps165<|Sz aH<|S<|S<|aT (t:=11) (n:=9) (A_:=θ ((C (l.map bL):Int)<1)||θ (200<(C (l.map bL):Int))) ?_ ?_
 .all_goals refine Y aA<|Y (fP fE)<|Y cH<|Dm ?_<;>(refine Sp 7 (λq=>?_) λq=>?_)<;>(first|exact s_|refine M<|M<|M ?_|refine O aA<|O (fP fE)<|O jB ?_)<;>refine V cE ?_<;>(exact⟨⟨_,Z,G_⟩,Z,Z,Z⟩)
 refine Cn ?_ ?_<;>intro g
 .have o:lV l=η:=by
   simp only[Bool.or_eq_true,l6]at g;rw[lV,Bool.and_eq_false_iff,Bool.and_eq_false_iff,q7,q7];omega
  refine Sz aH<|aC<|Rt ?_
  simp_all
 have o:lV l=!(l.any (λe=>!gO e)):=by
  simp only[q_,q7]at g;rw[lV,À (by omega:(0:Int)<(C l:Int)),À (by omega:(C l:Int)<=200)];rfl
 rw[o];refine aB<|S<|Sz aH<|aD<|bA (σ:=Nat) (λk=>([(0,.pv (kU l)),(3,iv (k:Int))],[])) (λk=>k<=C l/\∀j,j<k->∀b,l[j]?=N b->(!gO b)=η) (λk=>C l - k) 0 ⟨X,X⟩ ?_ ?_
 .exact E0
 rintro k ⟨hk,f⟩;refine S<|U aA<|Y aA<|Y (fP fE)<|V cH<|Cn ?_ ?_<;>intro d
 .have i:k<C l:=I_ d
  have ⟨e,h⟩:=aQ i;have hi:=cA (f:=bL) h;refine aB<|S<|aD<|U aA<|Y aA<|Y (jA ia)<|Y (by exact fG Z cW bD Z X l5 Z)<|Y (kc call220 (Eg e _ (s e (m7 h)) (p e (m7 h))))<|V iJ ?_;refine Cn ?_ ?_<;>intro m
  .refine Sz aH<|aC<|Rt ?_
   grind
  refine aB<|Rd aA<|Y iF<|Da ?_;exact⟨k+1,⟨X,TK f h m⟩,X,E0⟩
 have n:k=C l:=J_ d
 subst n;refine aP<|Sz aH<|aC<|Rt ?_;exact⟨by rw[Te f];rfl,Z⟩
def aFP(l:List B_):Prop:=l.Pairwise (λa b=>jZ a b=A)
end Go.Proofs.C
section
namespace Go.Abs
theorem WU{P}{i_}{o}{E}{H}{J3}{t}{e}{id g off len sz:Nat}{ob}{b}{rows'}(z:o.op=.call {callee:=.builtin .clear,args:=#[.tmp t],argTypes:=#[J3]})(D:fQ P J3 e sz)(s:eW P e b)(f:C b=sz)
  (r:E.get t=N (.osl id g off len)) (p:H.get id=N ob) (q:ob.g=g) (i:ob.sz=sz) (h:off<=C ob.rows) (d:ob.rows.take off++(List.replicate len b++ob.rows.drop (off+len))=rows') :
  cQ P i_ o E H .any ((id,⟨g,sz,ob.ty,rows'⟩)::H):=by
 intro a w I ι B y n m K Q l;have ⟨v,L,j⟩:=m t _ r;have ⟨c,F,G,J⟩:=zk n j p q;refine Ez (E:=(t,.osc _ g _ _ c)::E) z D s f (dG.get_cons_same _ _ _) p q i h d a w I _ B y n (λu x k=>?_) K Q l;by_cases e:t=u
 .subst e;rw[dG.get_cons_same]at k;simp_all
 rw[dG.get_cons_other _ _ e]at k;exact m u x k
end Go.Abs
namespace Go.Proofs.C
open Go.Proofs.Tryz
open Go.Abs
def fY:List B_->List B_
 | []=>[]
 | [x]=>[x]
 |x::y::r=>if x=y then fY (y::r)else x::fY (y::r)
theorem OL:∀(l) (x y),fY (l++[x,y])=fY (l++[x])++(if x=y then[]else[y])
 | [],x,y=>by
  show (if x=y then fY [y]else x::fY [y])=[x]++_;by_cases e:x=y
  .rw[b6 e,b6 e,e];rfl
  rw[a8 e,a8 e];rfl
 | [a],x,y=>by
  show (if a=x then fY _ else a::fY _)=(if a=x then fY [x]else a::fY [x])++_;have:=OL [] x y;rw[show fY [x,y]=fY ([]++[x,y])from Z,this]
  split<;>rfl
 |a::b::l,x,y=>by
  have:=OL (b::l) x y;show (if a=b then fY ((b::l)++[x,y])else a::fY ((b::l)++[x,y]))=(if a=b then fY ((b::l)++[x])else a::fY ((b::l)++[x]))++_
  grind
theorem ZM{L:List B_}{k:Nat}{x y:B_}(B:1<=k)(b:L[k - 1]?=N x)(c:L[k]?=N y):fY (L.take (k+1))=fY (L.take k)++(if x=y then[]else[y]):=by
 obtain ⟨j,rfl⟩:∃j,k=j+1:=⟨k - 1,X⟩;rw[show j+1 - 1=j by omega]at b;have a:L.take (j+1)=L.take j++[x]:=by rw[Æ,b];rfl
 have d:L.take (j+1+1)=L.take j++[x,y]:=by rw[Æ,a,c,Ä];rfl
 rw[d,a,OL]
theorem GD:∀ {l} {x},x∈fY l↔x∈l
 | [],x=>Iff.rfl
 | [a],x=>Iff.rfl
 | a::b::l,x=>by
  show x∈(if a=b then fY _ else a::fY _)↔_;have c:=GD (l:=b::l) (x:=x)
  split
  .next e =>
   rw[c,e];simp
  rw[l9,c,mem_cons (b:=a)]
theorem MM:∀ {l},l.Pairwise (λa b=>jZ b a=η)->aFP (fY l)
 | [],_=>.nil
 | [a],_=>List.pairwise_singleton _ _
 | a::b::l,h=>by
  have j:=(pairwise_cons.1 h).2;have i:=MM j;show aFP (if a=b then fY _ else a::fY _)
  split
  .exact i
  next e =>
  refine pairwise_cons.2 ⟨λy m=>?_,i⟩;have d:=GD.1 m;have g:=(pairwise_cons.1 h).1 b Í;have c:jZ a b=A:=by
   cases f:jZ a b with
   |true=>rfl
   |false=>exact absurd (C9 f g) e
  rcases l9.1 d with rfl|d
  .exact c
  have k:=(pairwise_cons.1 j).1 y d;cases f:jZ b y with
  |true=>exact GP c f
  |false=>rw[C9 k f];exact c
theorem Y5:∀(l),C (fY l)<=C l
 | []=>h_ _
 | [a]=>h_ _
 |a::b::l=>by
  have B:=Y5 (b::l);show C (if a=b then fY _ else a::fY _)<=C (b::l)+1
  grind
theorem KG{l}{i:Nat}{s}(h:l[i]?=N s):(uN l)[i]?=N ((S_ s).map .pv):=F_
theorem tw{P L:List B_}{j}{s}(h:C P<=j)(B:L[j]?=N s):(P++L.drop (C P))[j]?=N s:=G_
theorem uz{H:aF}{id}{o}(h:H.get id=N o)(j):aF.get ((id,o)::H) j=H.get j:=by
 by_cases e:j=id
 .subst e;rw[get_cons_same,h]
 exact get_cons_other _ _ e
theorem ZL(L:List B_)(g:Nat)(H:aF)(h1:H.get 901=N ⟨g,1,9,uN L⟩)(hl:C L<2^40):
  aU φ 31 [.osl 901 g 0 (C L)] H (λr H'=>r=.osl 901 g 0 (C (fY L))/\H'=(901,⟨g,1,9,uN (fY L++List.replicate (C L - C (fY L)) a6)⟩)::H):=by
 refine Bd func31 Z ntmps31 ?_;refine gK.ent (E':=[(0,.osl 901 g 0 L.length)]) (H':=(901,⟨g,1,9,uN L⟩)::H) (cJ.get' ⟨⟨_,Z,Z⟩,T_⟩ (uz h1))<|Sz aH<|S<|U aA<|Y (by exact eB Z aE Z Z Z)<|V cH<|Cn ?_ ?_<;>intro E
 .have i_:C L<2:=I_ E
  have o_:fY L=L:=by
   match L,i_ with
   | [],_=>rfl
   | [a],_=>rfl
  refine U aA<|V aH<|aC<|cR (H':=(901,⟨g,1,9,uN L⟩)::H) (.inr Z) Z (aI Z) Fin.refl ⟨by rw[o_],F_⟩
 have τ:2<=C L:=J_ E
 refine aB<|S<|Sz aH<|aD<|bA (σ:=Nat) (λi=>([(0,.osl 901 g 0 (C L)),(3,iv (i:Int))],(901,⟨g,1,9,uN L⟩)::H)) (λi=>1<=i/\i<=C L/\fY (L.take i)=L.take i) (λi=>C L - i) 1 ⟨X,X,by
  have ⟨x,K⟩:=aQ (l:=L) (k:=0) X;rw[Æ,K];rfl⟩ ?_ ?_
 .exact cJ.get' ⟨⟨_,Z,Z⟩,⟨_,Z,Z⟩,T_⟩ (λj=>rfl)
 rintro i ⟨P,hi2,f⟩;refine S<|U aA<|Y aA<|Y (by exact eB Z aE Z Z Z)<|V cH<|Cn ?_ ?_<;>intro I
 .have w:i<C L:=I_ I
  have ⟨y,b⟩:=aQ w;have ⟨x,K⟩:=aQ (l:=L) (k:=i - 1) X;have J:=ZM P K b;refine aB<|S<|aD<|S<|aN a7<|Cq aA<|Cq aA<|Cq (by exact dS Z aY Z Z Z Z Z X y7 w (r8 _))<|Cq (by exact aX Z N_ Z Z Z (KG b) Z)<|Cq aA<|Cq aA<|Cq (by exact dT Z Z Z (by exact mI X X))<|Cq (by exact dS (m:=i - 1) Z aY Z Z Z Z Z X (show ((i:Int) - 1).toNat=i - 1 by omega) X (r8 _))<|Cq (by exact aX Z N_ Z Z Z (KG K) Z)<|Cq wV<|bF<|Kr<|Cn ?_ ?_<;>intro F
  ·have n:=b9 F;rw[b6 n.symm,Ì,f]at J;refine U aA<|Y aA<|Y (by exact lD (l:=i) (h:=L.length) Z aY Z Z Z Z Z Z X (h_ _) (r8 _) Z)<|V aH<|S<|Sz aH<|aD<|eN (λ(k:Nat) (R:List B_)=>([(0,.osl 901 g 0 L.length),(3,iv (R.length:Int)),(4,.osl 901 g i (L.length - i)),(5,iv (k:Int))],(901,⟨g,1,9,uN (R++L.drop R.length)⟩)::H)) (λk R=>1<=k/\i+k<=L.length/\R=fY (L.take (i+k))/\R.length+1<=i+k) (λk R=>L.length - (i+k)) 1 (L.take i) ⟨X,X,J.symm,F_⟩ ?_ ?_
   .have f_:C (L.take i)=i:=F_
    rw[f_,take_append_drop];exact cJ.get' ⟨⟨_,Z,Z⟩,⟨_,Z,Z⟩,⟨_,Z,Z⟩,⟨_,Z,Z⟩,T_⟩ (λj=>rfl)
   rintro k R ⟨hk1,hk2,d,hk4⟩;refine S<|U aA<|Y aA<|Y (by exact eB Z aE Z Z Z)<|V cH<|Cn ?_ ?_<;>intro c
   .have Q:i+k<C L:=I_ c
    have ⟨v,hv⟩:=aQ Q;have ⟨u,o⟩:=aQ (l:=L) (k:=i+k - 1) X;have l:=ZM X o hv;have t:=KG (tw (P:=R) X hv);have u_:=KG (tw (P:=R) X o);refine aB<|S<|aD<|S<|aN a7<|Cq aA<|Cq aA<|Cq (by exact dS (m:=k) Z aY Z Z Z Z Z X (l_ _) X Z)<|Cq (by exact aX Z N_ Z Z Z t Z)<|Cq aA<|Cq aA<|Cq (by exact dT Z Z Z (by exact mI X X))<|Cq (by exact dS (m:=k - 1) (m2:=i+k - 1) Z aY Z Z Z Z Z X (show ((k:Int) - 1).toNat=k - 1 by omega) X X)<|Cq (by exact aX Z N_ Z Z Z u_ Z)<|Cq FD<|bF<|Kr<|Cn ?_ ?_<;>intro B
    .have J3:¬ u=v:=λe=>by
      have h:=B;rw[e]at h;simp at h
     rw[a8 J3,<-d]at l;have y_:∃z,L[C R]?=N z:=aQ X;have ⟨z,hz⟩:=y_;have A_:(uN (R++L.drop (C R)))[C R]?=N ((S_ z).map .pv):=KG (tw (P:=R) (h_ _) hz);have H4:(uN (R++L.drop (C R))).set (C R) [sv v]=uN ((R++[v])++L.drop (C (R++[v]))):=by
      have hd:L.drop (C R)=z::L.drop (C R+1):=by
       have ⟨p,q⟩:=m9.1 hz;rw[Â p,q]
      rw[hd,j7,É,uN,Ç,map_cons,set_append_right _ _ (by rw[g_];exact h_ _),g_,Nat.sub_self,set_cons_zero,Ä,uN,Ç,Ç];rfl
     refine U aA<|Y aA<|Y aA<|Y aA<|Y (by exact dS (m:=k) Z aY Z Z Z Z Z X (l_ _) X Z)<|Y (by exact aX Z N_ Z Z Z t Z)<|Y (by exact dS Z aY Z Z Z Z Z X (by exact l_ _) (by omega:R.length<L.length) (r8 _))<|Uu (by exact cM Z V_ Z Z Z Z Z A_ (by simp[S_]) Z H4)<|Zz<|Rd aA<|Y iF<|V aH<|Rd aA<|Y iF<|Da ?_;refine⟨k+1,R++[v],⟨X,X,l.symm,by rw[j7,É];omega⟩,X,?_⟩;rw[show (((R++[v]).length:Nat):Int)=(R.length:Int)+1 by rw[j7,É];rfl];exact cJ.dup ⟨⟨_,Z,Z⟩,⟨_,Z,Z⟩,⟨_,Z,Z⟩,⟨_,Z,Z⟩,T_⟩
    have he:u=v:=by
     have h:=B;have h2:v=u:=by simpa using h
     exact h2.symm
    rw[b6 he,Ì,<-d]at l;refine aB<|Rd aA<|Y iF<|Da ?_;refine⟨k+1,R,⟨X,X,l.symm,X⟩,X,?_⟩;exact cJ.get' ⟨⟨_,Z,Z⟩,⟨_,Z,Z⟩,⟨_,Z,Z⟩,⟨_,Z,Z⟩,T_⟩ (λj=>rfl)
   have D:i+k=C L:=J_ c
   rw[D,Ê]at d;have s:C R<=C L:=X
   have m:C (uN (R++L.drop (C R)))=C L:=by
    rw[g_,j7,q6];omega
   have W:(uN (R++L.drop (C R))).take (C R)++(List.replicate (C L - C R) [sv a6]++(uN (R++L.drop (C R))).drop (C R+(C L - C R)))=uN (R++List.replicate (C L - C R) a6):=by
    have v_:(uN (R++L.drop (C R))).drop (C R+(C L - C R))=[]:=drop_eq_nil_of_le (by rw[m];omega);rw[v_,Ì,uN,Ç,Ø (g_ _),uN,Ç,map_replicate];rfl
   refine aP<|U aA<|Y aA<|Y (by exact lD (l:=R.length) (h:=L.length) Z aY Z Z Z Z Z Z s (h_ _) (r8 _) Z)<|Uu (by exact WU Z aY Uz Z Z Z Z Z (by rw[m];exact s) W)<|Zz<|U aA<|Y aA<|Y (by exact lD (l:=0) (h:=R.length) Z aY Z Z Z Z Z Z (k_ _) s (r8 _) Z)<|V aH<|aC ?_;refine cR (H':=(901,⟨g,1,9,uN (R++List.replicate (L.length - R.length) a6)⟩)::H) (.inr Z) Z (aI Z) (Fin.get' (λj=>yC _ _ _ _ j)) ⟨by rw[d];rfl,by rw[d]⟩
  have n:=b_ F;rw[a8 (λe=>n e.symm),f]at J;refine aB<|Rd aA<|Y iF<|Da ?_;refine⟨i+1,⟨X,X,?_⟩,X,cJ.get' ⟨⟨_,Z,Z⟩,⟨_,Z,Z⟩,T_⟩ (λj=>rfl)⟩;rw[J,Æ,b];rfl
 have G:i=C L:=J_ I
 subst G;rw[Ê]at f;refine aP<|U aA<|V aH<|aC<|cR (H':=(901,⟨g,1,9,uN L⟩)::H) (.inr Z) Z (aI Z) Fin.refl ⟨by rw[f],by rw[f,Nat.sub_self,replicate_zero,Ì]⟩
end Go.Proofs.C
end
namespace Go.Proofs.C
open Go.Proofs.Tryz
open Go.Abs
def nB(n a b:Int):Bool:=θ (a<=n)&&θ (n<=b)
def xg(r:j_):Bool:=(((((r.priv.trace.any cy||!(!([r.priv.name,r.priv.reason].any LY)))||!(!r.priv.sources.any LY))||θ (16<(C (r.priv.sources.map S_):Int)))||θ (200<(C (r.priv.trace.map kS):Int)))||!lN r.priv.sl)||!lN r.sl
def Qh(l:List B_):Bool:=oA l&&θ ((C (fY l):Int)=(C (l.map S_):Int))
theorem aDN(l)(a:C l<2^40){H}(B:H.get 901=ζ):aU φ 153 [.pv (aK l)] H (λr H'=>r=.osl 901 1 0 (C l)/\H'=(901,⟨1,1,9,uN l⟩)::H) :=aU.frame (Rw l [] (λ_ _ h=>by cases h) Z a) (λ_ _ h=>by cases h) (λ_ _ h=>by cases h) H_ (λid h=>.inr (by
  by_cases e:901=id
  .simp_all
  simp[aF.get,jX e]at h))
def pb(r:j_):Bool:=(((((!nB r.author 0 59||!nB r.number 1 128)||!nB r.clock 1 1000000)||!cK r.branch)||θ (16<(C (r.parents.map S_):Int)))||!r.parents.all m6)||!Qh r.parents
def ndG(r:j_):Bool:=θ (r.kind=2)||θ (r.kind=3)
def N7(r:j_):Bool:=if r.kind=3 then nB r.order 1 4 else if r.kind=4 then(cK r.from'&&!θ (r.from'=r.branch))else θ (1<=r.kind/\r.kind<=5)
def fo(r:j_):B_:=if r.kind=2\/r.kind=3 then r.target else a6
def Uj(r:j_):Bool:=if r.kind=2 then r.yes else η
def Iq(r:j_):Int:=if r.kind=3 then r.order else 0
def Jv(r:j_):B_:=if r.kind=4 then r.from' else a6
def Uk(r:j_):Bool:=if r.kind=1 then A else if r.kind=3 then θ (r.order=3)else η
def v5G(r:j_):Bool:=((((θ (r.target=fo r)&&(r.yes == Uj r))&&θ (r.order=Iq r))&&θ (r.from'=Jv r))&&(θ (0<(C (r.edits.map bL):Int)) == Uk r))&&(!ndG r||m6 (fo r))
def iG(r:j_):Bool:=(((!xg r&&!pb r)&&(kO r.edits).2)&&N7 r)&&v5G r
abbrev W5:=B_×Bool×Int×B_×Bool
def EK(r:j_):W5:=(fo r,Uj r,Iq r,Jv r,Uk r)
theorem aDz{r}(h:r.kind=1):N7 r=A/\(a6,η,0,a6,A)=EK r:=by simp[N7,EK,fo,Uj,Iq,Jv,Uk,h]
theorem aDy{r}(h:r.kind=2):N7 r=A/\(r.target,r.yes,0,a6,η)=EK r:=by simp[N7,EK,fo,Uj,Iq,Jv,Uk,h]
theorem aDx{r}(h:r.kind=3)(a:nB r.order 1 4=A):N7 r=A/\(r.target,η,r.order,a6,θ (r.order=3))=EK r:=by simp[N7,EK,fo,Uj,Iq,Jv,Uk,h,a]
theorem aDw{r}(h:r.kind=4)(b:cK r.from'=A)(a:r.from'≠r.branch):N7 r=A/\(a6,η,0,r.from',η)=EK r:=by simp[N7,EK,fo,Uj,Iq,Jv,Uk,h,b,a]
theorem aDv{r}(h:r.kind=5):N7 r=A/\(a6,η,0,a6,η)=EK r:=by simp[N7,EK,fo,Uj,Iq,Jv,Uk,h]
theorem Vl{r}(h:xg r=A):iG r=η:=by simp[iG,h]
theorem xf{r}(h:pb r=A):iG r=η:=by simp[iG,h]
theorem Vk{r}(h:(kO r.edits).2=η):iG r=η:=by simp[iG,h]
theorem Z6{r}(h:N7 r=η):iG r=η:=by simp[iG,h]
theorem Vj{r}(a:xg r=η)(d:pb r=η)(b:(kO r.edits).2=A)(c:N7 r=A):iG r=v5G r:=by simp[iG,a,d,b,c]
theorem Ju{r}(h:T r.target<2^40):T (fo r)<2^40:=by
 rw[fo]
 split
 ·exact h
 exact E_
theorem Z5(r:j_)(hr:mY r)(hp:C r.parents<549755813888)(H:aF):RC 105 [av (eC r)] (bv (iG r)) H:=by
 refine Pu ?_;have ⟨_,⟨b1,b2,b3⟩,hpa,δ,hs,hpv⟩:=hr;have β:=λH=>xn r.edits H δ.1 δ.2;have ⟨p1,p2,p3,p4,p5⟩:=hpv;have Q:=aC3 r.priv.trace p4;have γ:=λH=>ya [r.priv.name,r.priv.reason] (show 2<2^40 by decide) H;have J3:=λH=>ya r.priv.sources p3.1 H;have hf1:=λH=>mm r.priv.sl p5 H;have hf2:=λH=>mm r.sl hs H;have s:=λH=>lq r.parents H X;have A_:=λH=>OK r.parents hpa H;have u_:=λH=>DP r.branch H X;have hnf:=λH=>DP r.from' H X
 have hwt:=Ju b2;have P:∀(n a b:Int) (H:aF),RC 146 [iv n,iv a,iv b] (bv (nB n a b)) H:=λn a b H=>R1 n a b H;refine Bd func105 Z ntmps105<|U (kb 1)<|V aH<|U (kl 3 aDq)<|Uu (jH sizeOf174)<|Zz<|Sz aH<|U (bC iN)<|Y (xB isAgg51 sizeOf51)<|Y (kl 5 aGF)<|Uu (jH sizeOf51)<|Zz<|U (bC uD)<|Y (bT kN)<|Y (iE Z Z)<|Y (kc call149 (aU.frameS Q (FB.sub ⟨Z,T_⟩) (dO.ofL ⟨AE _,T_⟩) u3))<|V aH<|S<|S ?_;refine aT (t:=63) (n:=48) (A_:=xg r) ?_ ?_
 .all_goals refine Y aA<|Dm ?_<;>(refine Sp 23 (λK=>?_) λK=>?_)<;>(first|exact s_|refine M<|M<|M<|M<|M<|M<|M<|M ?_|refine O aA<|O (bC JT)<|O (bT N_)<|O (bC JS)<|O (bT N_)<|O (aM [[.str r.priv.name],[.str r.priv.reason]] Z aY Z Z Z Z Z F_)<|O (dL Z Z Z (dQ.fn call147 (γ _)))<|O iJ ?_)<;>refine Y cE<|Dm ?_<;>(refine Sp 33 (λd=>?_) λd=>?_)<;>(first|exact s_|refine M<|M<|M<|M<|M ?_|refine O aA<|O (bC zI)<|O (bT aG)<|O (dL Z Z Z (dQ.fn call147 (J3 _)))<|O iJ ?_)<;>refine Y cE<|Dm ?_<;>(refine Sp 40 (λm=>?_) λm=>?_)<;>(first|exact s_|refine M<|M<|M<|M ?_|refine O (bC zI)<|O (bT aG)<|O (fP aE)<|O jB ?_)<;>refine Y cE<|Dm ?_<;>(refine Sp 46 (λw=>?_) λw=>?_)<;>(first|exact s_|refine M<|M<|M<|M ?_|refine O (bC uD)<|O (bT kN)<|O (fP gM)<|O jB ?_)<;>refine Y cE<|Dm ?_<;>(refine Sp 52 (λR=>?_) λR=>?_)<;>(first|exact s_|refine M<|M<|M<|M ?_|refine O (bC F7)<|O (xB iB sizeOf48)<|O (kc call151 (hf1 _))<|O iJ ?_)<;>refine Y cE<|Dm ?_<;>(refine Sp 58 (λy_=>?_) λy_=>?_)<;>(first|exact s_|refine M<|M<|M<|M ?_|refine O (bC AW)<|O (xB iB sizeOf48)<|O (kc call151 (hf2 _))<|O iJ ?_)<;>refine V cE ?_<;>exact Gj (h:=by first|(rw[xg,K];rfl)|(rw[xg,K,d];rfl)|(rw[xg,K,d,m];rfl)|(rw[xg,K,d,m,w];rfl)|(rw[xg,K,d,m,w,R];rfl)|(rw[xg,K,d,m,w,R,y_];rfl))
 refine Cn ?_ ?_<;>intro z_
 .rw[Vl z_];exact Sz aH<|aC<|Rt<|Qq
 have h1:=z_;have D:Qh r.parents=(oA r.parents&&θ ((C (fY r.parents):Int)=(C (r.parents.map S_):Int))):=rfl;generalize oA r.parents=so at s D;refine aB<|S ?_;refine gK.ent (E':=[(1,.ref 1 0 0 0),(3,.ref 3 0 0 0),(5,.ref 5 0 0 0),(4,.pv (.fn 147))]) (H':=[(5,bx 7 51 ((yF r.priv).map .pv)),(3,Vg),(1,bx 21 53 ((eC r).map .pv))]) L_ ?_;cases so with
 | false =>
  have h2:pb r=A:=by rw[pb,D,Bool.false_and,Bool.not_false,Bool.or_true]
  rw[xf h2];refine aN a7<|Cr [1] (λ_ h=>fh pC h)<|Cr [1] (λ_ h=>lh aG h)<|x_ (by exact bH Z Z call152 Z (s _))<|x_ aA<|Ot<|Ot<|Ot<|Ot<|Ot<|Ot<|Ot<|Ot<|Ot<|x_ cE<|x_ aH<|bF<|Kr<|S<|S ?_;refine aT (t:=118) (n:=47) (A_:=pb r) ?_ ?_
  .all_goals refine Y (bT qJ)<|Y (bC F6)<|Y (bT M_)<|Y (dL Z Z Z (dQ.fn sL (P r.author 0 59 _)))<|Y iJ<|Dm ?_<;>(refine Sp 83 (λL=>?_) λL=>?_)<;>(first|exact s_|refine M<|M<|M<|M<|M ?_|refine O (bT qJ)<|O (bC BE)<|O (bT M_)<|O (dL Z Z Z (dQ.fn sL (P r.number 1 128 _)))<|O iJ ?_)<;>refine Y cE<|Dm ?_<;>(refine Sp 90 (λe=>?_) λe=>?_)<;>(first|exact s_|refine M<|M<|M<|M<|M ?_|refine O (bT qJ)<|O (bC F5)<|O (bT M_)<|O (dL Z Z Z (dQ.fn sL (P r.clock 1 1000000 _)))<|O iJ ?_)<;>refine Y cE<|Dm ?_<;>(refine Sp 97 (λo=>?_) λo=>?_)<;>(first|exact s_|refine M<|M<|M<|M ?_|refine O (bC D0)<|O (bT N_)<|O (kc pP (u_ _))<|O iJ ?_)<;>refine Y cE<|Dm ?_<;>(refine Sp 103 (λg=>?_) λg=>?_)<;>(first|exact s_|refine M<|M<|M<|M ?_|refine O (bC pC)<|O (bT aG)<|O (fP aE)<|O jB ?_)<;>refine Y cE<|Dm ?_<;>(refine Sp 109 (λu=>?_) λu=>?_)<;>(first|exact s_|refine M<|M<|M<|M ?_|refine O (bC pC)<|O (bT aG)<|O (kc call155 (A_ _))<|O iJ ?_)<;>refine Y cE<|Dm ?_<;>(refine Sp 115 (λh115=>?_) λh115=>?_)<;>(first|exact s_|refine M<|M ?_|refine O aA<|O iJ ?_)<;>refine V cE ?_<;>exact Gj (h:=by simp_all)
  refine Cn ?_ ?_<;>intro x
  .exact Sz aH<|aC<|Rt<|Qq
  rw[h2]at x;cases x
 | true =>
  refine aN a7<|Cr [1] (λ_ h=>fh pC h)<|Cr [1] (λ_ h=>lh aG h)<|x_ (by exact bH Z Z call152 Z (s _))<|x_ aA<|Lt [1] (λ_ h=>fh pC h)<|Lt [1] (λ_ h=>lh aG h)<|Lp [901] (λH1 q=>by exact bH Z Z call153 Z (aDN r.parents X ((q _ Z).trans Z)))<|Lp [901] (λH1 q=>by exact bH Z Z call31 Z (ZL r.parents 1 _ ((q _ Z).trans Z) X))<|Lt [901] (λH1 q=>by exact eB Z aE Z ((q _ Z).trans Z) Z)<|Lt [1] (λ_ h=>fh pC h)<|Lt [1] (λ_ h=>lh aG h)<|Lt [] (λH1 q=>by exact lK Z aE Z)<|Lt [] (λH1 q=>by exact oE Z Z Z) ?_;refine x_ cE<|x_ aH<|bF<|Kr<|S<|S<|aT (t:=118) (n:=47) (A_:=pb r) ?_ ?_
  .all_goals refine Y (bT qJ)<|Y (bC F6)<|Y (bT M_)<|Y (dL Z Z Z (dQ.fn sL (P r.author 0 59 _)))<|Y iJ<|Dm ?_<;>(refine Sp 83 (λL=>?_) λL=>?_)<;>(first|exact s_|refine M<|M<|M<|M<|M ?_|refine O (bT qJ)<|O (bC BE)<|O (bT M_)<|O (dL Z Z Z (dQ.fn sL (P r.number 1 128 _)))<|O iJ ?_)<;>refine Y cE<|Dm ?_<;>(refine Sp 90 (λe=>?_) λe=>?_)<;>(first|exact s_|refine M<|M<|M<|M<|M ?_|refine O (bT qJ)<|O (bC F5)<|O (bT M_)<|O (dL Z Z Z (dQ.fn sL (P r.clock 1 1000000 _)))<|O iJ ?_)<;>refine Y cE<|Dm ?_<;>(refine Sp 97 (λo=>?_) λo=>?_)<;>(first|exact s_|refine M<|M<|M<|M ?_|refine O (bC D0)<|O (bT N_)<|O (kc pP (u_ _))<|O iJ ?_)<;>refine Y cE<|Dm ?_<;>(refine Sp 103 (λg=>?_) λg=>?_)<;>(first|exact s_|refine M<|M<|M<|M ?_|refine O (bC pC)<|O (bT aG)<|O (fP aE)<|O jB ?_)<;>refine Y cE<|Dm ?_<;>(refine Sp 109 (λu=>?_) λu=>?_)<;>(first|exact s_|refine M<|M<|M<|M ?_|refine O (bC pC)<|O (bT aG)<|O (kc call155 (A_ _))<|O iJ ?_)<;>refine Y cE<|Dm ?_<;>(refine Sp 115 (λh115=>?_) λh115=>?_)<;>(first|exact s_|refine M<|M ?_|refine O aA<|O iJ ?_)<;>refine V cE ?_<;>exact Gj (h:=by first|(rw[pb,D,L];rfl)|(rw[pb,D,L,e];rfl)|(rw[pb,D,L,e,o];rfl)|(rw[pb,D,L,e,o,g];rfl)|(rw[pb,D,L,e,o,g,u];rfl)|(rw[pb,D,L,e,o,g,u,h115];rfl))
  refine Cn ?_ ?_<;>intro y
  .rw[xf y];exact Sz aH<|aC<|Rt<|Qq
  have h2:=y;have ⟨tx,l⟩:∃tx,tx=(kO r.edits).1:=X_;have ⟨f_,G⟩:∃f_,f_=(kO r.edits).2:=X_;rw[<-l,<-G]at β;refine aB<|S<|U (bC DZ)<|Y (bT pO)<|Y (kc call156 (β _))<|Y aA<|Y dK<|Y dK<|Y aH<|V aH<|U aA<|V iJ<|Cn ?_ ?_<;>intro z
  .have hb:f_=η:=by have:=z;cases f_;rfl;cases this
   rw[Vk (G.symm.trans hb)];exact Sz aH<|aC<|Rt<|Qq
  have hb:f_=A:=by have:=z;cases f_;cases this;rfl
  have h3:(kO r.edits).2=A:=G.symm.trans hb;have hyes:=λh4=>Vj h1 h2 h3 h4;clear l G;refine aB<|U aH<|Y aH<|Y aH<|Y aH<|Da<|eT (λ(p:W5)=>([(1,.ref 1 0 0 0),(3,.ref 3 0 0 0),(10,sv p.1),(11,bv p.2.1),(12,iv p.2.2.1),(13,sv p.2.2.2.1),(14,bv p.2.2.2.2)],[(5,bx 7 51 ((yF r.priv).map .pv)),(3,Vg),(1,bx 21 53 ((eC r).map .pv))])) (λp=>N7 r=A/\p=EK r) ?_ ?_
  .refine U (bC pD)<|V (bT M_)<|aD<|U cI<|Da<|Cn ?_ ?_<;>intro W
   .have E:=aDz (b9 W);refine Rg<|Da ?_;exact⟨_,E,L_⟩
   have hk1:=b_ W;refine U cI<|Da<|Cn ?_ ?_<;>intro τ
   .have E:=aDy (b9 τ);refine aN a7<|Cq (bC DY)<|Cq (bT N_)<|Cq (bC JR)<|Cq (bT nU)<|Cq aH<|Cq aH<|bF<|Kr ?_;exact⟨_,E,L_⟩
   have hk2:=b_ τ;refine U cI<|Da<|Cn ?_ ?_<;>intro σ
   .have c:=b9 σ;refine S<|aN a7<|Cq (bC DY)<|Cq (bT N_)<|Cq (bC zH)<|Cq (bT M_)<|Cq (bC zH)<|Cq (bT M_)<|Cq cI<|Cq aH<|Cq aH<|Cq aH<|bF<|Kr<|U (bT qJ)<|Y aA<|Y (dL Z Z Z (dQ.fn sL (P r.order 1 4 _)))<|V iJ<|Cn ?_ ?_<;>intro ρ
    .have E:nB r.order 1 4=η:=by have:=ρ;revert this;cases nB r.order 1 4<;>simp
     rw[Z6 (by rw[N7,b6 c];exact E)];exact Sz aH<|aC<|Rt<|Qq
    have E:=aDx c (by have:=ρ;revert this;cases nB r.order 1 4<;>simp);refine aB ?_;exact⟨_,E,L_⟩
   have c:=b_ σ;refine U cI<|Da<|Cn ?_ ?_<;>intro κ
   .have f:=b9 κ;refine U (bC yD)<|Y (bT N_)<|V aH<|S<|aT (t:=162) (n:=10) (A_:=!cK r.from'||θ (r.from'=r.branch)) ?_ ?_
    .all_goals refine Y aA<|Y (kc pP (hnf _))<|Y iJ<|Dm ?_<;>(refine Sp 157 (λh157=>?_) λh157=>?_)<;>(first|exact s_|refine M<|M<|M<|M ?_|refine O aA<|O (bC D0)<|O (bT N_)<|O wV ?_)<;>refine V cE ?_<;>exact Gj (h:=by(rw[h157];rfl))
    refine Cn ?_ ?_<;>intro j
    .have E:(cK r.from'&&!θ (r.from'=r.branch))=η:=by have:=j;revert this;cases cK r.from'<;>cases θ (r.from'=r.branch)<;>simp
     rw[Z6 (by rw[N7,a8 c,b6 f];exact E)];exact Sz aH<|aC<|Rt<|Qq
    have E:cK r.from'=A/\¬ r.from'=r.branch:=by have:=j;rw[q_,Bool.not_eq_false',q7]at this;exact this
    have E:=aDw f E.1 E.2;refine aB ?_;exact⟨_,E,L_⟩
   have f:=b_ κ;refine U cI<|Da<|Cn ?_ ?_<;>intro k
   .have E:=aDv (b9 k);refine aB ?_;exact⟨_,E,L_⟩
   have hk5:=b_ k;rw[Z6 (by rw[N7,a8 c,a8 f,Á X])];exact Sz aH<|aC<|Rt<|Qq
  rintro _ ⟨h4,rfl⟩;rw[hyes h4];have hdT:=λH=>Y1 (fo r) hwt H;have I:v5G r=(((((θ (r.target=fo r)&&(r.yes == Uj r))&&θ (r.order=Iq r))&&θ (r.from'=Jv r))&&(θ (0<(C (r.edits.map bL):Int)) == Uk r))&&(!ndG r||m6 (fo r))):=rfl;rw[EK];refine S<|aT (t:=15) (n:=10) (A_:=ndG r) ?_ ?_
  .all_goals refine Y (bC pD)<|Y (bT M_)<|Y cI<|Dm ?_<;>(refine Sp 168 (λh168=>?_) λh168=>?_)<;>(first|exact s_|refine M<|M<|M ?_|refine O (bC pD)<|O (bT M_)<|O cI ?_)<;>refine Y cE<|Da ?_<;>exact Gj (h:=by(rw[ndG,h168];rfl))
  refine S<|aT (t:=2) (n:=45) (A_:=v5G r) ?_ ?_
  .all_goals refine Y (bC DY)<|Y (bT N_)<|Y aA<|Y wV<|Dm ?_<;>(refine Sp 177 (λB=>?_) λB=>?_)<;>(first|exact s_|refine M<|M<|M<|M ?_|refine O (bC JR)<|O (bT nU)<|O aA<|O (kd Z fO Z Z) ?_)<;>refine Y cE<|Dm ?_<;>(refine Sp 183 (λF=>?_) λF=>?_)<;>(first|exact s_|refine M<|M<|M<|M ?_|refine O (bC zH)<|O (bT M_)<|O aA<|O cI ?_)<;>refine Y cE<|Dm ?_<;>(refine Sp 189 (λJ=>?_) λJ=>?_)<;>(first|exact s_|refine M<|M<|M<|M ?_|refine O (bC yD)<|O (bT N_)<|O aA<|O wV ?_)<;>refine Y cE<|Dm ?_<;>(refine Sp 195 (λi=>?_) λi=>?_)<;>(first|exact s_|refine M<|M<|M<|M<|M<|M ?_|refine O (bC DZ)<|O (bT pO)<|O (fP fE)<|O jB<|O aA<|O (kd Z fO Z Z) ?_)<;>refine Y cE<|Dm ?_<;>(refine Sp 203 (λv=>?_) λv=>?_)<;>(first|exact s_|refine M<|M<|M ?_|refine O aA<|O iJ<|O aA ?_)<;>(first|refine Sp 206 (λh206=>?_) λh206=>?_|refine lC (t:=206) Z ?_)<;>(first|exact s_|refine M ?_|refine Fu ?_|refine O aA ?_)<;>(first|refine M ?_|refine Fu ?_|refine O (kc call30 (hdT _)) ?_)<;>(first|refine M ?_|refine O cE ?_)<;>refine Y cE<|Da ?_<;>exact Gj (h:=by first|(rw[I,B];rfl)|(rw[I,B,F];rfl)|(rw[I,B,F,J];rfl)|(rw[I,B,F,J,i];rfl)|(rw[I,B,F,J,i,v];rfl)|(rw[I,B,F,J,i,v,h206];rfl))
  exact aC<|Rt<|Qq
open Go.Lib
structure FSeal(s:p_):Prop where
 i0:0<=s.idx
 i1:s.idx<256
 sl:C s.sig<=18
 pl:C s.path<=8
 sa:∀t∈s.sig,m6 t=A
 pa:∀t∈s.path,m6 t=A
theorem qb{s}(h:BS s=A):s=⟨0,[],[]⟩:=by rw[BS,l7,g_]at h;have ⟨i,a,b⟩:=s;have ⟨c,e⟩:=h;simp at c e;have f:a=[]:=È X;have d:b=[]:=È X;subst c f d;rfl
theorem lM{s}(h:lN s=A):FSeal s:=by
 rw[lN,Bool.or_eq_true]at h;rcases h with h|h
 .have:=qb h;subst this;exact⟨H_,H_,H_,H_,H_,H_⟩
 simp[l7,l6,g_,Ã]at h;have ⟨⟨⟨⟨⟨d,c⟩,B⟩,D⟩,a⟩,b⟩:=h;exact⟨d,c,X,X,a,b⟩
structure VF(r:j_):Prop where
 tr:∀q∈r.priv.trace,(0<=q.1/\q.1<=1048575)/\(0<=q.2/\q.2<=1048575)
 nm:T r.priv.name<=200
 rs:T r.priv.reason<=200
 so:∀s∈r.priv.sources,T s<=200
 sol:C r.priv.sources<=16
 trl:C r.priv.trace<=200
 psl:lN r.priv.sl=A
 sl:lN r.sl=A
 au:0<=r.author/\r.author<=59
 nu:1<=r.number/\r.number<=128
 cl:1<=r.clock/\r.clock<=1000000
 br:cK r.branch=A
 pal:C r.parents<=16
 pa:∀p∈r.parents,m6 p=A
 inc:Qh r.parents=A
 tx:(kO r.edits).2=A
 k:N7 r=A
 ta:r.target=fo r
 ye:r.yes=Uj r
 od:r.order=Iq r
 fr:r.from'=Jv r
 ed:θ (0<C r.edits)=Uk r
 nd:ndG r=A->m6 (fo r)=A
theorem dh{s}:LY s=η↔T s<=200:=by rw[LY,q7];omega
theorem tJ{r}(h:iG r=A):VF r:=by
 simp[iG,l7,r9]at h;have ⟨⟨⟨⟨b,a⟩,m⟩,g⟩,d⟩:=h;simp only[xg,q_,Bool.not_eq_false',r9,q7,g_,Ó,Bool.not_eq_true]at b;have ⟨⟨⟨⟨⟨⟨v,c⟩,w⟩,B⟩,D⟩,l⟩,t⟩:=b;simp[pb,q_,Bool.not_eq_false',q7,g_,Ã,nB,l7,l6]at a;have ⟨⟨⟨⟨⟨⟨z,i⟩,n⟩,u⟩,E⟩,x⟩,f⟩:=a;simp[v5G,l7,l6,beq_iff_eq,g_,Bool.or_eq_true,r9]at d;have ⟨⟨⟨⟨⟨k,y⟩,j⟩,e⟩,F⟩,G⟩:=d;refine⟨λq o=>?_,dh.1 (c _ H_),dh.1 (c _ H_),λs p=>dh.1 (w s p),X,X,l,t,z,i,n,u,X,x,f,m,g,k,y,j,e,?_,λH=>?_⟩
 .have:=v q o;simp[cy,q_,Bool.not_eq_false',l7,l6]at this;exact this
 all_goals simp_all
theorem CE{r}(h:N7 r=A):1<=r.kind/\r.kind<=5:=by
 rw[N7]at h
 grind
theorem N1{s}(h:cK s=A):T s<=24:=by simp[cK,l7,l6]at h;omega
theorem qh{l}(h:(eH l).2=0):T (eH l).1<=20000:=by
 have a:=FJ h;rw[iM]at a
 split at a
 .have:=congrArg Prod.snd a;cases this
 omega
theorem R8{l}(h:(kO l).2=A):T (kO l).1<=20000:=by
 rw[kO]at h |-
 split at h
 .next a =>
  rw[b6 a];exact E_
 next a =>
 rw[a8 a];exact qh (b9 h)
theorem DV{s}(h:m6 s=A):T s<=16:=Nat.le_of_eq (fR h)
theorem VF.target{r}(h:VF r):T r.target<=16:=by
 rw[h.ta];by_cases a:ndG r=A
 .exact DV (h.nd a)
 have:fo r=a6:=by
  rw[fo,a8];rintro(e|e)<;>simp[ndG,e]at a
 rw[this];decide
theorem VF.from{r}(h:VF r):T r.from'<=24:=by
 rw[h.fr,Jv]
 split
 .next e =>
  have a:=h.k;rw[N7,a8 X,b6 e,l7]at a;exact N1 a.1
 decide
theorem VF.order{r}(h:VF r):0<=r.order/\r.order<=4:=by
 rw[h.od,Iq]
 split
 .next e =>
  have a:=h.k;rw[N7,b6 e,nB,l7,l6,l6]at a;omega
 decide
def WL(p:GPriv):List IV:=[.t p.name,.t p.reason,.l p.sources,.p p.trace]
def NF(r:j_):List IV:=[.z r.sl.idx r.sl.sig r.sl.path,.t r.priv.name,.t r.priv.reason,.l r.priv.sources,.p r.priv.trace,.z r.priv.sl.idx r.priv.sl.sig r.priv.sl.path]
def jY(r:j_):List B_:=wA r++zY (NF r)
def JL(r:j_):B_:=if iG r=A then wL (wA r)else a6
def mX(r:j_):B_×Int:=if iG r=A then(if 20000<C (aO (jY r)) then(a6,2)else(a_ (aO (jY r)),0))else(a6,1)
def prW:B_:=⟨#[112,114,105,118,97,116,101]⟩
def db(r:j_):B_:=wL ([prW,JL r]++zY (WL r.priv))
def le2(x:B_):Prop:=T x<=20000
theorem rD{n}(a : -9223372036854775808<=n)(b:n<=9223372036854775807):le2 (aV n):=Nat.le_trans (oF a b) H_
theorem LS{n:Nat}(h:n<2^40):le2 (aV n):=rD X X
theorem ie{s}(h:FSeal s):∀x∈fI (.z s.idx s.sig s.path),le2 x:=by
 intro x a;have B:=h.i0;have D:=h.i1;have l1:=h.sl;have l2:=h.pl;simp only[fI,l9,mem_append]at a;rcases a with rfl|(rfl|a)|(rfl|a)
 .exact rD X X
 .exact LS X
 .exact Nat.le_trans (DV (h.sa x a)) H_
 .exact LS X
 exact Nat.le_trans (DV (h.pa x a)) H_
theorem ic{s}(h:FSeal s):C (fI (.z s.idx s.sig s.path))<=29:=by have l1:=h.sl;have l2:=h.pl;simp[fI,j6,j7];omega
theorem KX{r:j_}(h:VF r):∀x∈wA r,le2 x:=by
 intro x a;have ⟨v,b,a⟩:=mem_flatMap.1 a;have G:=CE h.k;have B:=h.au;have D:=h.nu;have E:=h.cl;have F:=h.order;have e:=N1 h.br;have d:=h.target;have c:=h.from
 have H:=h.pal;simp only[NO,l9,q8,or_false]at b;rcases b with rfl|rfl|rfl|rfl|rfl|rfl|rfl|rfl|rfl|rfl|rfl|rfl<;>simp only[fI,l9,q8,or_false]at a
 .subst a;exact(by decide:T HT<=20000)
 .subst a;exact rD X X
 .subst a;exact rD X X
 .subst a;exact rD X X
 .subst a;exact rD X X
 .subst a;exact Nat.le_trans e E_
 .rcases a with rfl|a
  .exact LS X
  exact Nat.le_trans (DV (h.pa x a)) E_
 .subst a;exact R8 h.tx
 .subst a;exact Nat.le_trans d E_
 .subst a;split<;>exact rD E_ E_
 .subst a;exact rD X X
 subst a;exact Nat.le_trans c E_
theorem KW{r}(h:VF r):C (wA r)<=28:=by have:=h.pal;rw[wA,jh];omega
theorem Nb{r}(h:VF r):∀x∈zY (WL r.priv),le2 x:=by
 intro x a;have ⟨v,b,a⟩:=mem_flatMap.1 a;have d:=h.nm;have c:=h.rs;have B:=h.sol;have D:=h.trl;simp[WL,l9,q8,or_false]at b;rcases b with rfl|rfl|rfl|rfl<;>simp only[fI,l9,q8,or_false,mem_flatMap]at a
 .subst a;exact Nat.le_trans d H_
 .subst a;exact Nat.le_trans c H_
 .rcases a with rfl|a
  .exact LS X
  exact Nat.le_trans (h.so x a) H_
 rcases a with rfl|⟨q,e,a⟩
 .exact LS X
 have ⟨E,F⟩:=h.tr q e;rcases a with rfl|rfl
 .exact rD X X
 exact rD X X
theorem Nj(ps):C (fI (.p ps))=1+2*C ps:=by rw[show fI _=aV _::QZ _ from Z,j6,QY];omega
theorem Na{r}(h:VF r):C (zY (WL r.priv))<=420:=by have B:=h.sol;have D:=h.trl;have:=Nj r.priv.trace;simp[zY,WL,Ô,flatMap_nil,j7,this];simp[fI,j6,Ö];omega
theorem qz(r):zY (NF r)=fI (.z r.sl.idx r.sl.sig r.sl.path)++(zY (WL r.priv)++fI (.z r.priv.sl.idx r.priv.sl.sig r.priv.sl.path)):=by simp[zY,NF,WL,Ô]
theorem aq{r}(h:VF r):∀x∈zY (NF r),le2 x:=by
 intro x a;rw[qz]at a;rcases mem_append.1 a with a|a
 .exact ie (lM h.sl) x a
 rcases mem_append.1 a with a|a
 .exact Nb h x a
 exact ie (lM h.psl) x a
theorem an{r}(h:VF r):C (zY (NF r))<=478:=by have B:=ic (lM h.sl);have D:=ic (lM h.psl);have E:=Na h;rw[qz,j7,j7];omega
theorem MA{e_}(a:e_<1000000000000000000):∀(L),(∀s∈L,T s<=e_)->C (aO L)<=C L*(e_+22)
 | [],_=>k_ _
 |s::L,h=>by
  have D:=MA a L λx b=>h x (Å _ b);have B:=h s Í;have hi:=oF (n:=(T s)) X X;rw[show aO _=(qW s).data.toList++aO L by rfl,j7,pW,nY,j6,succ_mul];omega
theorem yZ{L}(h:∀x∈L,le2 x){n}(a:C L<=n):C (aO L)<=n*20022:=Nat.le_trans (MA H_ L h) (mul_le_mul_right _ a)
end Go.Proofs.C
namespace Go.Abs
theorem aU.fin{P}{f}{args}{H}{Q a}(h:aU P f args H Q)(c:∀r H1,Q r H1->∃r' H2,Fin H H1 r H2 r'/\a r' H2):aU P f args H a :=λI l w vs j i d=>(h I _ w _ j i d).mono λ_ w' ⟨r,H',I',ι',v,e,q,m,b,g⟩=>by
  have ⟨r',H2,k,B⟩:=c r _ q;have ⟨I2,D,E,F,G⟩:=k ⟨I,l,H,w,[]⟩ Z _ _ _ v b g m
  grind
end Go.Abs
namespace Go.Proofs.C
open Go.Proofs.Tryz
open Go.Abs
theorem not_not{b}(h:(!b)=A):b=η:=F_
theorem pG{b}(h:(!b)=η):b=A:=F_
theorem fV{α:Type}(f:α->List PV)(l:List _):((l.map f).take (0+C l)).drop 0=l.map f:=take_of_length_le H_
theorem aBI(l):lO ⟨(aO l).toArray⟩=wL l:=rfl
theorem Eo(r)(b:mY r)(a:C r.parents<549755813888)(H):RC 107 [av (eC r)] (.pv (aK (wA r))) H:=by refine aU.pure ((X7 r b a).fin ?_) H_ H;rintro _ _ ⟨rfl,rfl⟩;exact⟨_,[],Fin.fz (id:=971) _ Z (cX _) (.osl (fV _ _)) Z T_ T_,Z,Z⟩
theorem Ep(r)(b:mY r)(a:C r.parents<549755813888){H}(B:H.get 971=ζ):aU φ 107 [av (eC r)] H (λx H'=>x=.osl 971 (rq r) 0 (C (wA r))/\H'=(971,⟨rq r,1,9,bP (wA r)⟩)::H) :=aU.frame (X7 r b a) (λ_ _ h=>by cases h) (λ_ _ h=>by cases h) H_ (λid h=>.inr (by
  by_cases e:971=id
  .simp_all
  simp[aF.get,jX e]at h))
theorem lx(r:j_)(g:mY r)(f:C r.parents<549755813888)(H:aF):RC 55 [av (eC r)] (sv (JL r)) H:=by
 refine aU.pure ?_ F_ H;have j:=λH=>Z5 r g f H;have e:=λH=>Eo r g f H;rw[JL];refine Bd func55 Z ntmps55<|U (kb 1)<|V aH<|S<|U (xB cP bJ)<|Y (kc call105 (j _))<|V iJ<|Cn ?_ ?_<;>intro c
 .rw[a8 F_];exact Sz aH<|aC<|Rt<|Qq
 have h:=pG c;have i:=tJ h;have B:=yZ (KX i) (KW i);rw[b6 h];have b:=λH=>YZ (wA r) H X;have d:=λH=>xr _ H (by rw[show T (⟨(aO (wA r)).toArray⟩:B_)=C (aO (wA r)) from by rfl];omega);exact aB<|U (xB cP bJ)<|Y (bH Z Z call107 Z (e _))<|Y (bH Z Z call108 Z (b _))<|Y (kc call106 (d _))<|V aH<|aC<|Rt<|Qq
theorem Ws{r}(h:mY r)(e:VF r):∀v∈NF r,okI v:=by
 have ⟨_,_,_,_,⟨l,j,k⟩,B,D,i,c,g,b,f⟩:=h;intro v a;simp[NF,l9,q8,or_false]at a;rcases a with rfl|rfl|rfl|rfl|rfl|rfl
 .exact⟨l,j.1,k.1⟩
 .exact T_
 .exact T_
 .exact i.1
 .exact⟨c,λq d=>by
   have ⟨⟨E,F⟩,G,H⟩:=e.tr q d;exact⟨⟨X,X⟩,X,X⟩⟩
 exact⟨g,b.1,f.1⟩
theorem aCB{r}(h:mY r)(e:VF r):∀v∈WL r.priv,okI v:=by
 have ⟨_,_,_,_,_,B,D,b,c,c1,c2,c3⟩:=h;intro v a;simp[WL,l9,q8,or_false]at a;rcases a with rfl|rfl|rfl|rfl
 .exact T_
 .exact T_
 .exact b.1
 exact⟨c,λq d=>by
  have ⟨⟨E,F⟩,G,H⟩:=e.tr q d;exact⟨⟨X,X⟩,X,X⟩⟩
theorem Z8(r:j_)(n:mY r)(j:C r.parents<549755813888)(H:aF):RC 72 [av (eC r)] (.tup [sv (mX r).1,iv (mX r).2]) H:=by
 refine aU.pure ?_ F_ H;have t:=λH=>Z5 r n j H;have s:=λH k=>Ep r n j (H:=H) k;rw[mX];refine Bd func72 Z ntmps72<|U (kb 1)<|Y aH<|V aH<|S<|U (xB cP bJ)<|Y (kc call105 (t _))<|V iJ<|Cn ?_ ?_<;>intro i
 .have m:=not_not i;rw[a8 F_];exact U aH<|V aH<|aC<|Ru<|Qq
 have m:=pG i;have e:=tJ m;have l:=yZ (L:=jY r) (n:=506) (λx v=>(mem_append.1 v).elim (KX e x) (aq e x)) (by
  have:=KW e;have:=an e;rw[jY,j7];omega)
 have D:=KW e;have E:=an e;rw[b6 m];have c:=wh (NF r) (Ws n e) (rq r) (wA r) (show 6<2^40 by decide) X;have f:=λH=>YZ (jY r) H X;have q:jY r=wA r++zY (NF r):=rfl;rw[<-q]at c;generalize jY r=f_ at c f l |-;generalize rq r+Aw (NF r)=g at c;have o:(⟨(aO f_).toArray⟩:B_)=a_ (aO f_):=rfl;rw[o]at f;have B:T (a_ (aO f_))=C (aO f_):=cB _;refine aB<|U (xB cP bJ)<|Y (kc call107 (s _ Z))<|Y (kl 970 aAi)<|Uu (jH sizeOf131)<|Zz<|U (bC AW)<|Y (xB iB sizeOf48)<|Y (LC (ps:=lW r.sl) Z (dZ kK Z) Z)<|Y (bC iN)<|Y (bC JT)<|Y (bT N_)<|Y (gR (p:=.str r.priv.name) Z (dZ U_ Z) Z)<|Y (bC iN)<|Y (bC JS)<|Y (bT N_)<|Y (gR (p:=.str r.priv.reason) Z (dZ U_ Z) Z)<|Y (bC iN)<|Y (bC zI)<|Y (bT aG)<|Y (gR (p:=aK r.priv.sources) Z (dZ aE Z) Z)<|Y (bC iN)<|Y (bC uD)<|Y (bT kN)<|Y (gR (p:=yQ r.priv.trace) Z (dZ gM Z) Z)<|Y (bC iN)<|Y (bC F7)<|Y (xB iB sizeOf48)<|Y (LC (ps:=lW r.priv.sl) Z (dZ kK Z) Z)<|Y (aM ((NF r).map BF) Z AG Z Z Z Z Z (U5 (NF r)))<|V (kc wT (ov c ⟨Z,Z,T_⟩ u3))<|S ?_;refine gK.ent (cJ.fzG (id:=971) (E':=[(4,.ref 970 0 0 0)]) (H':=[(970,bx 1 131 [.pv (aK f_)])]) (f_.map S_) Z (cX _) ?_ Z ?_ ?_) ?_
 .intro p j;simp only[l9,q8,or_false]at j;rcases j with rfl;exact⟨_,Z,.same u3⟩
 .exact⟨⟨_,Z,Z,Z,Z,kY Z (bG (.osl (fV S_ _)) jV)⟩,T_⟩
 .exact T_
 refine Rd (bT isAgg131)<|Y (kc call108 (f _))<|V aH<|S<|U aA<|Y (gQ U_)<|V jB<|Cn ?_ ?_<;>intro h
 .have d:20000<C (aO f_):=I_ h
  rw[b6 d];exact U aH<|V aH<|aC<|Ru<|Qq
 have d:¬ 20000<C (aO f_):=J_ h
 rw[a8 d];exact aB<|U aA<|Y aH<|V aH<|aC<|Ru<|Qq
theorem Am(r):T (JL r)<=20000:=by
 by_cases h:iG r=A
 .rw[JL,b6 h];exact Nat.le_trans (Nat.le_of_eq (sJ _)) H_
 rw[JL,a8 h];decide
theorem Fl(r:j_)(j:mY r)(e:C r.parents<549755813888)(l:iG r=A)(H:aF):RC 118 [av (eC r)] (sv (db r)) H:=by
 refine aU.pure ?_ F_ H;have B:=λH=>lx r j e H;have h:=tJ l;have D:=Na h;have b:=wh (WL r.priv) (aCB j h) 0 [prW,JL r] (show 4<2^40 by decide) G_;have f:=Am r;have E:=yZ (L:=[prW,JL r]++zY (WL r.priv)) (n:=422) (λx d=>(mem_append.1 d).elim (λd=>by
   simp only[l9,q8,or_false]at d;rcases d with rfl|rfl
   .exact(by decide:T prW<=20000)
   exact f) (Nb h x)) G_
 rw[db];have c:=λH=>di ([prW,JL r]++zY (WL r.priv)) H X;generalize [prW,JL r]++zY (WL r.priv)=f_ at b c |-;generalize 0+Aw (WL r.priv)=g at b;generalize JL r=i at B b;refine Bd func118 Z ntmps118<|U (kb 1)<|V aH<|U (xB cP bJ)<|Y (kc call55 (B _))<|Y (eR (id:=971) Z SS Z Z Z Z F_ Z)<|Y (kl 970 aAi)<|Uu (jH sizeOf131)<|Zz<|U (bC iN)<|Y (bC JT)<|Y (bT N_)<|Y (gR (p:=.str r.priv.name) Z (dZ U_ Z) Z)<|Y (bC iN)<|Y (bC JS)<|Y (bT N_)<|Y (gR (p:=.str r.priv.reason) Z (dZ U_ Z) Z)<|Y (bC iN)<|Y (bC zI)<|Y (bT aG)<|Y (gR (p:=aK r.priv.sources) Z (dZ aE Z) Z)<|Y (bC iN)<|Y (bC uD)<|Y (bT kN)<|Y (gR (p:=yQ r.priv.trace) Z (dZ gM Z) Z)<|Y (aM ((WL r.priv).map BF) Z AG Z Z Z Z Z (U5 (WL r.priv)))<|V (kc wT (ov b ⟨Z,Z,T_⟩ u3))<|S ?_;refine gK.ent (cJ.fzG (id:=971) (E':=[(3,.ref 970 0 0 0)]) (H':=[(970,bx 1 131 [.pv (aK f_)])]) (f_.map S_) Z (cX _) ?_ Z ?_ ?_) ?_
 .intro p e;simp only[l9,q8,or_false]at e;rcases e with rfl;exact⟨_,Z,.same u3⟩
 .exact⟨⟨_,Z,Z,Z,Z,kY Z (bG (.osl (fV S_ _)) jV)⟩,T_⟩
 .exact T_
 exact Rd (bT isAgg131)<|Y (kc call81 (c _))<|V aH<|aC<|Rt<|Qq
end Go.Proofs.C
namespace Go.Abs
variable{F f:FuncId}{args:List AV}{c:Code}{P:Program}{H H0:aF}
section
theorem EY.of{P}{i_}{o}{E}{H}{R}{PP}(h:pz P i_ o E H R):EY P i_ o E H R PP :=λa w I ι e c d K Q b _=>h a w I _ T_ e c d K Q b
theorem EY.opr{P}{i_}{o}{E}{H}{R}(h:EY P i_ o E H R (λ_ _=>False)):pz P i_ o E H R :=λa w I ι _ f c e K Q b=>h a w I _ f c e K Q b (λ_ _ _ _ _ d=>d.elim)
def gD(P:Program)(f:FuncId)(args:List AV)(H:aF)(Q:AV->aF->Prop)(PP:fw->aF->Prop):Prop :=∀(I:Nat->Prop) (ι:mG) (w:World) (vs:Array Value),Rel I ι H w->vs.size=C args->(∀(i:Nat) (v:Value) (a:AV),vs[i]?=N v->args[i]?=N a->VRel w I ι H v a) ->
  Calls P f vs w λe w'=>(∃r H' D B v,e=.returned v/\Q r H'/\VRel w' D B H' v r/\Rel D B H' w'/\Step I ι H w D B H' w')\/(∃ch H' D B,e=.panicked ch/\PP ch H'/\Rel D B H' w'/\Step I ι H w D B H' w')
section
variable{Q:AV->aF->Prop}{PP:fw->aF->Prop}
theorem gD.of(h:aU P f args H Q):gD P f args H Q PP:=λI ι w vs b a c=>(h I _ w _ b a c).mono λ_ _ h=>.inl h
theorem gD.mono{g}{PP'}(h:gD P f args H Q PP)(l:∀r H',Q r H'->g r H')(m:∀c H',PP c H'->PP' c H'):gD P f args H g PP' :=λI ι w vs k j i=>(h I _ w _ k j i).mono λ_ _ h=>h.elim (λ⟨r,H',d,b,v,e,q,a⟩=>.inl ⟨r,H',d,b,v,e,l _ _ q,a⟩) (λ⟨c,H',d,b,e,q,a⟩=>.inr ⟨c,H',d,b,e,m _ _ q,a⟩)
theorem gD.calls(h:gD P f args H Q PP)(d:∀a H',¬ PP a H'):aU P f args H Q :=λI ι w vs c b e=>(h I _ w _ c b e).mono λ_ _ h=>h.elim id (λ⟨a,H',_,_,_,q,_⟩=>(d _ _ q).elim)
end
section
variable{i_:Nat}{o:Oper}{E:dG}{Q:AV->aF->Prop}{PP:fw->aF->Prop}
theorem eU{F}{f}{args}{c}{e}(m:o.op=.call {callee:=.value f,args:=args,argTypes:=c})(p:aR E f=N (.pv (.fn F)))
  (q:∀(args) (w),(callFunc F args).run P w=.ok (.enter F args) w) (g:zT E args.toList=N e) (h:gD P F e H Q PP):EY P i_ o E H Q PP:=by
 intro a w I r _ n j K B G J;have d:=(aJ j p).fn_inv;have ⟨D,k⟩:=qB j (oJ g);unfold Oper.wpW execOp;simp[m,resolve,d,Deferred.ofValue,Sem.run_bind,Sem.run_pure,Result.andThen_ok,invoke,q,Oper.uponW_enter];refine(h I r w _ n F_ (λi v b g l=>k i v b F_ l)).mono ?_
 grind
theorem IB{f:Operand}{args:Array Operand}{m:Array TypeId}{k c:List AV}(x:o.op=.call {callee:=.value f,args:=args,argTypes:=m})(t:aR E f=N (.clo F c))
  (s:∀(args:Array Value) (w:World),(callFunc F args).run P w=.ok (.enter F args) w) (d:zT E args.toList=N k) (h:gD P F (k++c) H Q PP):EY P i_ o E H Q PP:=by
 intro a w I u _ r n K B J L;have e:=aJ n t;generalize j:a.eval f=D at e;have ⟨G,p⟩:=qB n (oJ d);cases e with
 | @clo _ us _ hl q =>
  unfold Oper.wpW execOp;simp only[x,resolve,j,Deferred.ofValue,Sem.run_bind,Sem.run_pure,Result.andThen_ok,invoke,s,Oper.uponW_enter,Array.empty_append];have l:args.size=C k:=X
  refine(h I u w _ r F_ (λi v b d g=>?_)).mono ?_
  .by_cases hi:i<args.size
   .rw[Array.getElem?_append_left F_]at d;rw[getElem?_append_left X]at g;exact p i v b F_ g
   rw[Array.getElem?_append_right G_]at d;rw[getElem?_append_right X]at g;simp only[Array.size_map]at d;rw[l]at d;exact q _ v b d g
  grind
end
section
variable{i_:Nat}{o:Oper}{E:dG}{Q:AV->aF->Prop}{PP:fw->aF->Prop}{t t' J3:TypeId}{x y:Operand}
theorem pZ{f}{xs}{c}(e:o.op=.makeFunc (.func f) xs #[])(d:zT E xs.toList=N c):cQ P i_ o E H (.bnd f c) H :=.of_run λa w I ι _ h=>by
  have ⟨B,j⟩:=qB h (oJ d);exact⟨.func _ (xs.map a.eval) #[],by simp[execOp,e,Instr.makeFunc],.bnd F_ (λi v b d g=>j i v b F_ g)⟩
theorem IC{f:Operand}{args:Array Operand}{j:Array TypeId}{l xs:List AV}(r:o.op=.call {callee:=.value f,args:=args,argTypes:=j})(u:aR E f=N (.bnd F xs))
  (z:∀(args:Array Value) (w:World),(callFunc F args).run P w=.ok (.enter F args) w) (d:zT E args.toList=N l) (h:gD P F (xs++l) H Q PP):EY P i_ o E H Q PP:=by
 intro a w I B _ m k K D L R;have c:=aJ k u;generalize g:a.eval f=G at c;have ⟨J,n⟩:=qB k (oJ d);cases c with
 | @bnd _ s _ hl p =>
  unfold Oper.wpW execOp;simp only[r,resolve,g,Deferred.ofValue,Sem.run_bind,Sem.run_pure,Result.andThen_ok,invoke,z,Oper.uponW_enter,Array.append_empty];refine(h I B w _ m F_ (λi v b d e=>?_)).mono ?_
  ·by_cases q:i<s.size
   ·rw[Array.getElem?_append_left q]at d;rw[getElem?_append_left X]at e;exact p i v b d e
   rw[Array.getElem?_append_right (by omega)]at d;rw[List.getElem?_append_right (by omega)]at e;exact n _ v b (by simp_all) e
  grind
abbrev ms(t:TypeId):fw:=[{v:=.iface t (.agg #[]),recovered:=η}]
theorem YH(e:o.op=.panic x)(f:aR E x=N (.pv (.ifa t []))):EY P i_ o E H (λ_ _=>False) (λc H'=>c=ms t/\H'=H):=by intro a w I ι _ g h K B D b;have ⟨cs,d,F,_⟩:=(aJ h f).ifa_inv;have:=Array.eq_empty_of_size_eq_zero X;subst this;unfold Oper.wpW execOp;simp[e,d];exact b _ w I _ H ⟨Z,Z⟩ g (Step.refl _ _ _ _)
end
section
variable{G0:aF}{i_:Nat}{E:dG}{ops:Array Oper}{Q:Exit->dG->aF->Prop}{o:Oper}{rest:List Oper}{R:AV->aF->Prop}{PP:fw->aF->Prop}
def Ip(P:Program)(G0:aF)(i_:Nat)(ops:Array Oper)(Q:Exit->dG->aF->Prop)(l:List Oper)(E:dG)(H:aF):Prop :=∀G:Entry,G.H=G0->∀a w,St G i_ E H a w->∀ro,(ro=ζ\/l.all Oper.noDefer=A)->wpListIn (RF ro) 0 P ops (λe a w=>∃E H,Q e E H/\St G i_ E H a w) l a w
theorem RW(h:Q .normal E H):Ip P G0 i_ ops Q [] E H:=λ_ _ a w b _ _=>⟨E,H,h,b⟩
theorem Th(l:o.guard=ζ)(B:jL i_ o.dst=A)(h:EY P i_ o E H R PP)(e:∀d H',PP d H'->Q (.panic d) E H')(i:∀r H',R r H'->Ip P G0 i_ ops Q rest (nX E o.dst r) H'):Ip P G0 i_ ops Q (o::rest) E H:=by intro G j a w k ro c;refine wpListIn_plain l λF m=>?_;exact k.opP B h (λr H' D g n b=>m _ _ (i r _ n G j _ _ b _ (oD c).2)) (λd H' g f b=>⟨E,H',e _ _ f,b⟩) (oD c).1
theorem aBN(b:o.guard=ζ)(B:jL i_ o.dst=A)(h:pz P i_ o E H R)(a:∀r H',R r H'->Ip P G0 i_ ops Q rest (nX E o.dst r) H'):Ip P G0 i_ ops Q (o::rest) E H :=Th (PP:=λ_ _=>False) b B (.of h) (λ_ _ h=>h.elim) a
theorem jD{d}{v}{H2}(a:o.guard=ζ)(B:o.dst=N d)(c:Nat.blt d i_=A)(h:cQ P i_ o E H v H2)(e:Ip P G0 i_ ops Q rest ((d,v)::E) H2):Ip P G0 i_ ops Q (o::rest) E H :=aBN a (by rw[B];exact c) h λr H' ⟨b,f⟩=>by subst b f;rw[B];exact e
theorem Ti{v}{H2}(d:o.guard=ζ)(B:o.dst=ζ)(h:cQ P i_ o E H v H2)(a:Ip P G0 i_ ops Q rest E H2):Ip P G0 i_ ops Q (o::rest) E H :=aBN d (by rw[B];rfl) h λr H' ⟨c,b⟩=>by subst c b;rw[B];exact a
theorem ez{d}{v}{H2}{F}(j:o.guard=ζ)(B:o.dst=N d)(e:Nat.blt d i_=A)(h:EY P i_ o E H (λr H'=>r=v/\H'=H2/\F) PP)(b:∀a H',PP a H'->Q (.panic a) E H')(f:F->Ip P G0 i_ ops Q rest ((d,v)::E) H2):Ip P G0 i_ ops Q (o::rest) E H :=Th j (by rw[B];exact e) h b λr H' ⟨c,g,i⟩=>by subst c g;rw[B];exact f i
theorem rJ(c:o.guard=ζ)(B:jL i_ o.dst=A)(h:EY P i_ o E H (λ_ _=>False) PP)(b:∀a H',PP a H'->Q (.panic a) E H'):Ip P G0 i_ ops Q (o::rest) E H:=Th c B h b (λ_ _ h=>h.elim)
theorem iA{id}(h:Ip P G0 i_ ops Q ops.toList E H):gK P G0 i_ (.region id ops η) Q E H:=λG d a w b ro c=>wpIn_region_list (h G d a w b _ c)
end
def Uf(P:Program)(fn:Func)(G0:aF)(Q:AV->aF->Prop)(PP:fw->aF->Prop)(e:Exit)(E:dG)(H:aF):Prop :=OX P fn G0 Q e E H\/∃ch H',e=.panic ch/\Fin G0 H (.tup []) H' (.tup [])/\PP ch H'
theorem OT{P}{a}{G0 H}{Q}{PP}{e}{E}(h:OX P a G0 Q e E H):Uf P a G0 Q PP e E H:=.inl h
theorem GG{P}{d}{G0 H H'}{Q}{PP}{a:fw}{E}(c:Fin G0 H (.tup []) H' (.tup []))(b:PP a H'):Uf P d G0 Q PP (.panic a) E H:=.inr ⟨a,H',Z,c,b⟩
theorem gD.body{o:Func}{Q:AV->aF->Prop}{PP:fw->aF->Prop}{i_:Nat}(v_:P.funcs[f]?=some o)(y_:o.body=some c)(hN:o.ntmps=i_)(hlen:args.length<=i_)
  (h:gK P H i_ c (Uf P o H Q PP) (oT args) H):gD P f args H Q PP:=by
 intro I n w s o_ hl f_;refine callsIn_wide.1 (callsIn_of_wp_marks (F:=Fence.wide) (n:=0) v_ y_ T_ ?_);have F:St ⟨I,n,H,w,[]⟩ i_ (oT args) H {tmps:=s++Array.replicate (o.ntmps - s.size) undef,defers:=[]} w:=by
  refine⟨uU.nil _ _ _,?_,I,n,o_,Step.refl _ _ _ _,λt a z_=>?_⟩
  ·grind
  have R:=yE z_;have G:t<s.size:=G_
  have W:s[t]?=some s[t]:=Array.getElem?_eq_getElem G;exact⟨s[t],by grind,f_ t _ a W R⟩
 refine wpIn_mono (h ⟨I,n,H,w,[]⟩ Z _ w F none (.inl Z)) ?_;rintro e y m ⟨E',k,(⟨u_,r,d_,r',z,i,L⟩|⟨B,z,rfl,i,L⟩),D⟩
 ·have u:LeavesInM Fence.wide 0 P o y.tmps (λe m=>(∃r k g b v,e=.returned v/\Q r k/\VRel m g b k v r/\Rel g b k m/\Step I n H w g b k m)\/(∃B k g b,e=.panicked B/\PP B k/\Rel g b k m/\Step I n H w g b k m)) y.defers .returning m:=by
   have ⟨g,b,q,d,p⟩:=D.rel;refine xZ D.defers q d p ?_;intro E l j H4;have ⟨v,h1,A_⟩:=d_ y E g b l H4;have ⟨e_,x,c_,K,J3⟩:=i ⟨I,n,H,w,[]⟩ Z g b E v l j A_
   grind
  rcases u_ with rfl|rfl
  ·exact u
  exact u
 have ⟨g,b,q,d,p⟩:=D.rel;show LeavesInM Fence.wide 0 P o y.tmps _ y.defers (.panicking B) m;refine A8 H_ D.defers q d p ?_;intro E l j H4;have ⟨e_,x,c_,K,J3⟩:=i ⟨I,n,H,w,[]⟩ Z g b E (.tuple #[]) l j (.tup Z H_);exact .inr ⟨B,z,e_,x,Z,L,c_,K⟩
theorem UU{I x:Nat->Prop}{ι s:mG}{H':aF}{w w':World}(p:Rel I ι H w)(G:Sub H0 H)(k2:Rel x s H' w')(m:Step I ι H0 w x s H' w')(hk:∀id,(H'.get id).isSome=A->(H0.get id).isSome=A\/H.get id=ζ):
  ∃f,Rel x f (H'++H) w'/\Step I ι H w x f (H'++H) w'/\∀v a,VRel w' x s H' v a->VRel w' x f (H'++H) v a:=by
 have ⟨f,τ⟩:∃f:mG,f=(λj=>if(H'.get j).isSome=A then s j else ι j):=X_;have B:∀j o,H'.get j=N o->f j=s j:=λj o d=>by simp_all
 have D:∀j,H'.get j=ζ->f j=ι j:=λj d=>by simp_all
 have W:∀j o,H'.get j=N o->aF.get (H'++H) j=N o:=λj o d=>by rw[gS,d]
 have F:∀j,H'.get j=ζ->aF.get (H'++H) j=H.get j:=λj d=>by rw[gS,d]
 have u_:∀j o,H.get j=N o->H'.get j=ζ->H0.get j=ζ:=λj o d E=>by
  cases e:H0.get j with
  |none=>rfl
  |some o0 =>
   have ⟨l,J3,_⟩:=m.objs j o0 e
   simp_all
 have y:∀j o b c,H.get j=N o->H'.get j=ζ->ι j=N (b,c)->¬ OW ι H0 b:=λj o b c d E K ⟨n,l,J,k,R⟩=>by
  have:=p.inj j n o l b c J d (G _ _ k) K R;subst this;rw[u_ j o d E]at k;cases k
 have o_:Step I ι H w x f (H'++H) w':=by
  refine⟨m.os,m.tape,m.output,m.size,λa ha E=>m.froz a ha (λh=>E (h.sub G)),m.imm,λb K=>?_,?_,?_,?_⟩
  .rcases m.immNew b K with g|g|g
   .simp_all
   .exact .inr (.inl (g.sub G))
   omega
  .rintro b ⟨j,o,c,d,t⟩;cases e:H'.get j with
   |some l =>
    rw[B j l e]at t;rcases m.own b ⟨j,l,c,e,t⟩with g|g
    .exact .inl (g.sub G)
    omega
   |none =>
    rw[D j e]at t;rw[F j e]at d;exact .inl ⟨j,o,c,d,t⟩
  .intro b K E;exact m.keep b K (λh=>E (h.sub G))
  intro j o d;cases e:H'.get j with
  |some l =>
   rcases hk j (by rw[e];rfl)with g|g
   .have ⟨o0,y_⟩:=Option.isSome_iff_exists.1 g;have:=G _ _ y_;rw[d]at this;cases this;have ⟨f_,z_,q2,q3⟩:=m.objs j o y_;exact⟨f_,W j f_ z_,q2,λe=>by rw[B j f_ z_];exact q3 e⟩
   rw[d]at g;cases g
  |none=>exact⟨o,(F j e).trans d,h_ _,λ_=>⟨D j e,Z,λ_=>h_ _⟩⟩
 have L:∀ {v:Value} {a:AV},VRel w' x s H' v a->VRel w' x f (H'++H) v a:=λv_ =>
  v_.mono' (λ_ _=>rfl) (λ_ h=>h) (λid o A_=>⟨o,W id o A_,h_ _,λ_=>⟨B id o A_,Z,λ_=>h_ _⟩⟩)
 refine⟨f,⟨k2.imm,λj o d=>?_,λj n o l b c J d k t i=>?_,k2.glob⟩,o_,λv a h=>L h⟩
 .cases e:H'.get j with
  |some l =>
   rw[W j l e]at d;obtain rfl:l=o:=Option.some.inj d;exact(k2.obj j l e).keep (B j l e) (λ_ _ _ _=>⟨Z,λh=>h⟩) (λr _ a _ v Q=>L Q)
  |none =>
   rw[F j e]at d;refine(p.obj j o d).keep (D j e) (λP z J3 r=>⟨m.keep P r (y j o P z d e J3),λe3 hi=>?_⟩) (λr _ a _ v Q=>Q.mono p o_);rcases m.immNew P hi with g|g|g
   .exact e3 g
   .exact y j o P z d e J3 g
   omega
 cases e:H'.get j with
 | some q =>
  rw[B j q e]at t;cases u:H'.get n with
  |some i_ =>
   rw[B n i_ u]at i;exact k2.inj j n q i_ b c J e u t i
  |none =>
   rw[D n u]at i;rw[F n u]at k;have r:=p.lt ⟨n,l,J,k,i⟩;rcases m.own b ⟨j,q,c,e,t⟩with g|g
   .exact absurd g (y n l b J k u i)
   omega
 | none =>
  rw[D j e]at t;rw[F j e]at d;cases u:H'.get n with
  |some i_ =>
   rw[B n i_ u]at i;have r:=p.lt ⟨j,o,c,d,t⟩;rcases m.own b ⟨n,i_,J,u,i⟩with g|g
   .exact absurd g (y j o b c d e t)
   omega
  |none =>
   rw[D n u]at i;rw[F n u]at k;exact p.inj j n o l b c J d k t i
theorem gD.conv{P}{f}{args}{H}{Q n}{PP PP'}(h:gD P f args H Q PP)(u:∀r H',Q r H'->∃H2,(∀j,H2.get j=H'.get j)/\n r H2)(x:∀c H',PP c H'->∃H2,(∀j,H2.get j=H'.get j)/\PP' c H2):gD P f args H n PP' :=λI ι w vs p t o=>(h I _ w _ p t o).mono λ_ _ h=>by
  rcases h with⟨r,H',k,b,v,e,q,s,d,i⟩|⟨c,H',k,b,e,q,d,i⟩
  .have ⟨H2,m,a⟩:=u r _ q;have ⟨l,g⟩:=d.congr m;exact .inl ⟨r,H2,k,b,v,e,a,s.mono d g,l,i.trans g⟩
  have ⟨H2,m,a⟩:=x _ _ q;have ⟨l,g⟩:=d.congr m;exact .inr ⟨c,H2,k,b,e,a,l,i.trans g⟩
theorem gD.frame{R}{PP}(h:gD P f args H0 R PP)(d:Sub H0 H)(s:dO H0)(y:∀a∈args,Clo H0 a)
  (g:∀r H1,R r H1->∀id,(H1.get id).isSome=A->(H0.get id).isSome=A\/H.get id=ζ) (l:∀c H1,PP c H1->∀id,(H1.get id).isSome=A->(H0.get id).isSome=A\/H.get id=ζ) :
  gD P f args H (λr H'=>∃K,R r K/\H'=K++H) (λc H'=>∃K,PP c K/\H'=K++H):=by
 intro I t w G j B x;refine(h I t w G (j.restrict d s) B (λi v a F q=>(x i v a F q).restrict d (y a (m7 q)))).mono ?_;rintro e w' (⟨r,H',E,k,v,rfl,n,k1,o,p⟩|⟨c,H',E,k,rfl,n,o,p⟩)
 .have ⟨m,u,z,D⟩:=UU j d o p (g r H' n)
  grind
 have ⟨m,u,z,D⟩:=UU j d o p (l c H' n)
 grind
end
section
def Uw(P:Program)(i_:Nat)(PP:fw->aF->aF->Prop)(ops rest:List Oper)(E:dG)(H:aF)(K:List Rec->List Prop->dG->aF->Prop):Prop:=∃rs Fs E' H',DChainP P i_ ops PP rest E H rs Fs E' H'/\K rs Fs E' H'
theorem MK{P}{i_}{PP}{ops}{E}{H}{K}(h:K [] [] E H):Uw P i_ PP ops [] E H K:=⟨_,_,_,_,.nil,h⟩
theorem wM{P}{i_}{PP}{ops rest}{o}{E}{H}{K}{r}{F}(h:DStepP P i_ ops PP o E H r F)(B:jL i_ o.dst=A)
  (d:Uw P i_ PP ops rest (nX E o.dst r.v) (r.W++H) (λa b E' H'=>K (r::a) (F::b) E' H')):Uw P i_ PP ops (o::rest) E H K:=by
 have ⟨a,b,E',H',c,e⟩:=d;exact⟨_,_,_,_,.cons h B c,e⟩
theorem nq{P}{i_}{PP}{ops rest}{o}{E}{H}{K}{r}(h:DStep P i_ ops o E H r)(B:jL i_ o.dst=A)
  (c:Uw P i_ PP ops rest (nX E o.dst r.v) (r.W++H) (λa b E' H'=>K (r::a) (True::b) E' H')):Uw P i_ PP ops (o::rest) E H K:=wM (.old T_ h) B c
theorem zQ{P}{G0}{i_ id}{Q}{ops}{E}{H}(PP)(d a B)(i:Af d ops=A)(g:P.follows .mixedOrders=A)
  (j:∀e c H1 H2,(∀t∈d,c.get t=E.get t)->Shp a H H1->(∀id∈B,H1.get id=H.get id)->PP e H1 H2->Q (.panic e) c H2)
  (h:Uw P i_ PP ops.toList ops.toList E H (λb f E' H'=>(TY ops.toList b=A/\Wl a H b=A/\Ae B b=A)/\(fk f->Q .normal E' H'))):gK P G0 i_ (.region id ops A) Q E H:=by
 have ⟨b,f,E',H',n,⟨m,l,o⟩,k⟩:=h;exact ZS g n m _ _ l o _ i j k
section
variable{G0:aF}{i_:Nat}{PP:fw->aF->aF->Prop}{ops rest:List Oper}{E:dG}{K:List Rec->List Prop->dG->aF->Prop}{dst:Option Tmp}{op:Op}{ty:TypeId}{pos:String}{af:Array Edge}{v:AV}{w:Nat×Ob}
theorem Pr(R:List Nat)(h:∀H1:aF,(∀id,uO (N R) id=A->H1.get id=H.get id)->cQ P i_ ⟨dst,op,ty,pos,af,ζ⟩ (restr E (jI ops ⟨dst,op,ty,pos,af,ζ⟩)) H1 v H1)(D:Uw P i_ PP ops rest (nX E dst v) H (λrs Fs E' H'=>K (⟨v,N R,[]⟩::rs) (True::Fs) E' H'))(B:jL i_ dst=A:=by rfl):Uw P i_ PP ops (⟨dst,op,ty,pos,af,ζ⟩::rest) E H K:=nq (r:=⟨v,N R,[]⟩) (DStep.plain Z h) B D
theorem Pw(R:List Nat)(h:∀H1:aF,(∀id,uO (N R) id=A->H1.get id=H.get id)->cQ P i_ ⟨dst,op,ty,pos,af,ζ⟩ (restr E (jI ops ⟨dst,op,ty,pos,af,ζ⟩)) H1 v (w::H1))(D:Uw P i_ PP ops rest (nX E dst v) (w::H) (λrs Fs E' H'=>K (⟨v,N R,[w]⟩::rs) (True::Fs) E' H'))(B:jL i_ dst=A:=by rfl):Uw P i_ PP ops (⟨dst,op,ty,pos,af,ζ⟩::rest) E H K:=nq (r:=⟨v,N R,[w]⟩) (DStep.plain Z h) B D
end
end
section
abbrev Tw(G:Entry)(Q:AV->aF->Prop):Ending->World->Prop:=λe w'=>∃r H' D B v,e=.returned v/\Q r H'/\VRel w' D B H' v r/\Rel D B H' w'/\Step G.I G.ι G.H G.w D B H' w'
def DWp(P:Program)(fn:Func)(G0:aF)(i_:Nat)(Q:AV->aF->Prop)(c:Code)(E:dG)(H:aF):Prop :=∀G:Entry,G.H=G0->G.ds=[]->∀a w,St G i_ E H a w->c.wpIn Fence.wide 0 P (bodyPostM Fence.wide 0 P fn (Tw G Q)) a w
section
variable{fn:Func}{G0 H:aF}{i_:Nat}{Q:AV->aF->Prop}{E:dG}
theorem CU{G}{e}{a}{w}(n:G.H=G0)(B:G.ds=[])(h:OX P fn G0 Q e E H)(m:St G i_ E H a w):bodyPostM Fence.wide 0 P fn (Tw G Q) e a w:=by
 have ⟨o,r,g,r',H'',b,K⟩:=h;have c:LeavesInM Fence.wide 0 P fn a.tmps (Tw G Q) a.defers .returning w:=by
  have ⟨I,D,k,f,l⟩:=m.rel;refine xZ (B▸m.defers) k f l ?_;intro W i d j;have ⟨v,J,p⟩:=g a _ _ _ i j;have ⟨I2,F,L,k2,R⟩:=b G n _ _ _ v i d p
  grind
 rcases o with rfl|rfl
 .exact c
 exact c
theorem Be{x y}(h:gK P G0 i_ x (zX (λg H1=>DWp P fn G0 i_ Q y g H1) (OX P fn G0 Q)) E H):DWp P fn G0 i_ Q (.seq x y) E H:=by
 intro G c d a w i;refine wpIn_seq (wpIn_mono (h G c a w i _ (.inl Z)) ?_);rintro e B w' ⟨E',H',f,b⟩;cases e with
 |normal=>exact f G c d _ _ b
 |exit id=>exact CU c d f b
 |goto l=>exact CU c d f b
 |ret=>exact CU c d f b
 |panic ch=>exact CU c d f b
 |outgrown=>exact CU c d f b
theorem aU.bodyD(k:P.funcs[f]?=N fn)(o:fn.body=N c)(D:fn.ntmps=i_)(B:C args<=i_)(h:DWp P fn H i_ Q c (oT args) H):aU P f args H Q:=by
 intro I g w b j E i;refine callsIn_wide.1 (callsIn_of_wp_marks (n:=0) k o T_ ?_);have d:St ⟨I,g,H,w,[]⟩ i_ (oT args) H {tmps:=b++Array.replicate (fn.ntmps - b.size) undef,defers:=[]} w:=by
  refine⟨uU.nil _ _ _,?_,I,g,j,Step.refl _ _ _ _,λt a n=>?_⟩
  ·grind
  have m:=yE n;have e:t<b.size:=G_
  have l:=Array.getElem?_eq_getElem e;exact⟨b[t],by grind,i t _ a l m⟩
 exact h _ Z Z _ w d
end
def fl(P:Program)(F:FuncId)(args:List AV)(H:aF)(u:FrameMode)(K:aF->Prop):Prop :=∀(I:Nat->Prop) (ι:mG) (w:World) (vs:Array Value),Rel I ι H w->vs.size=C args->(∀(i:Nat) (v:Value) (a:AV),vs[i]?=N v->args[i]?=N a->VRel w I ι H v a) ->
  CallsDIn Fence.wide 0 P F vs u w λe E w'=>∃v H' D B,e=.returned v/\settle E=.returning/\K H'/\Rel D B H' w'/\Step I ι H w D B H' w'
def Ca(P:Program)(fn:Func)(G0 H0:aF)(F:FuncId)(cs:List AV)(Q:AV->aF->Prop)(e:Exit)(E:dG)(H:aF):Prop :=∃u B H1,((e=.normal\/e=.ret)/\u=.returning\/∃ch,e=.panic ch/\u=.panicking ch)/\cJ H0 E H B H1 /\
  fl P F cs H1 u λH2=>∃r,(∀(a:Act) (w:World) (I:Nat->Prop) (ι:mG),Rel I ι H2 w->lY w I ι H2 B a->∃v,(results fn a.tmps).run P w=.ok v w/\VRel w I ι H2 v r)/\∃r' D,Fin G0 H2 r D r'/\Q r' D
section
variable{fn:Func}{G0 H:aF}{i_:Nat}{Q:AV->aF->Prop}{E:dG}
theorem Gn{id:Nat}{A_ y_:Oper}{ops:Array Oper}{rest:Code}{l:Array Operand}{at_:Array TypeId}{d:Tmp}{cs:List AV}(z:ops.toList=[A_,y_])(hg1:A_.guard=ζ)(R:A_.dst=N d)(δ:Nat.blt d i_=A)(ho1:A_.op=.makeFunc (.func F) #[] l)
  (hg2:y_.guard=ζ) (κ:y_.dst=ζ) (ho2:y_.op=.defer {callee:=.value (.tmp d),args:=#[],argTypes:=at_}) (hv:zT E l.toList=N cs)
  (hc:∀(args:Array Value) (w:World),(callFunc F args).run P w=.ok (.enter F args) w)
  (h:gK P H i_ rest (Ca P fn G0 H F cs Q) ((d,.clo F cs)::E) H):DWp P fn G0 i_ Q (.seq (.region id ops η) rest) E H:=by
 intro G hG hd a w hs;refine wpIn_seq (wpIn_region_list ?_);rw[z];refine wpListIn_plain hg1 λK1 τ=>?_;refine hs.op (ro:=ζ) (by rw[R];exact δ) (iE ho1 (oJ hv)) ?_ (.inl Z);rintro r H' j q ⟨rfl,rfl⟩ k;refine τ j q ?_;rw[R]at k;refine wpListIn_plain hg2 λK2 σ=>?_;refine Oper.wpW_in (ro:=ζ) (.inl Z) ?_;have ⟨I1,f_,o,B,H4⟩:=k.rel;have ⟨c1,ρ,hv1⟩:=H4 d _ (dG.get_cons_same _ _ _);have hev:j.eval (.tmp d)=c1:=by simp[Act.eval,ρ]
 cases hv1 with
 | @clo _ K _ hl hh =>
  unfold Oper.wpW execOp;simp only[ho2,resolve,hev,Deferred.ofValue,Sem.run_bind,Sem.run_pure,Result.andThen_ok,Oper.uponW,κ,Act.put];refine σ _ q ?_;show Exit.then _ _ .normal _ q
  let dd:Deferred:={target:=.fn (.func F) K,args:=#[]++(#[]:Array Operand).map j.eval}
  have d_:St ⟨I1,f_,H',q,dd::j.defers⟩ i_ ((d,.clo F cs)::E) H' {j with defers:=dd::j.defers} q :=
   ⟨uU.nil _ _ _,k.size,I1,f_,o,Step.refl _ _ _ _,H4⟩
  refine wpIn_mono (h _ Z _ q d_ ζ (.inl Z)) ?_;rintro e J w' ⟨E',H2,⟨u,E1,H1,n,I,W⟩,z_⟩;have L:=I _ Z i_ J w' z_;have p:u≠.run->LeavesInM Fence.wide 0 P fn J.tmps (Tw G Q) J.defers u w':=by
   intro hu;have ⟨I3,ι3,hr3,o_,γ⟩:=L.rel;refine A8 hu L.defers hr3 o_ γ ?_;intro w4 y g β;refine⟨hu,.inr ⟨(λhx=>by cases hx),.func F,K,F,K,Z,?_,λ_ _=>trivial,?_⟩⟩
   .show (invoke (.fn (.func F) K) (#[]++(#[]:Array Operand).map j.eval)).run P w4=_;simp only[invoke,Array.map_empty,Array.empty_append,hc]
   refine(W I3 ι3 w4 K y X (λi v b hv hb=>(hh i v b hv hb).mono o g)).mono ?_;rintro e2 u' w5 ⟨v,H5,I5,m,rfl,c_,⟨r,u_,r',H6,D,hq⟩,hr5,f⟩;show LeavesInM Fence.wide 0 P fn J.tmps (Tw G Q) j.defers (settle u') w5;rw[c_];have s:Step G.I G.ι G.H G.w I5 m H5 w5:=(B.trans g).trans f;have hm1:uU [] G.w w5 j.defers:=(hd▸k.defers).step o (g.trans f);refine xZ hm1 hr5 s (λt v ht=>let ⟨c,x1,x2⟩:=β t v ht;⟨c,x1,x2.mono y f⟩) ?_;intro w7 v_ x he7;have ⟨v,h1,h2⟩:=u_ J w7 I5 m v_ he7;have ⟨I8,ι8,k1,k2,k3⟩:=D G hG I5 m w7 v v_ x h2
   grind
  rcases n with⟨rfl|rfl,rfl⟩|⟨ch,rfl,rfl⟩
  .exact p H_
  .exact p H_
  exact p H_
end
end
end Go.Abs
namespace Go.Abs
open Go.Proofs
variable{d:Tmp}{E:dG}
section
section
variable{P:Program}{G0:aF}{i_:Nat}{Q:Exit->dG->aF->Prop}{H:aF}
def XA(P:Program)(G0:aF)(i_:Nat)(c:Code)(Q:Exit->dG->aF->Prop)(E:dG)(H:aF):Prop :=∀G:Entry,G.H=G0->∀a w,St G i_ E H a w->c.wpIn (RF ζ) 0 P (λe B w'=>(∃E H,Q e E H/\St G i_ E H B w')/\B.defers=a.defers) a w
def ALN(P:Program)(G0:aF)(i_:Nat)(ops:Array Oper)(K:dG->aF->Prop)(l:List Oper)(E:dG)(H:aF):Prop :=∀G:Entry,G.H=G0->∀a w,St G i_ E H a w->∀Q:Exit->Act->World->Prop,(∀E H B w',K E H->St G i_ E H B w'->B.defers=a.defers->Q .normal B w')->wpListIn (RF ζ) 0 P ops Q l a w
theorem HM{ops}{K}(h:K E H):ALN P G0 i_ ops K [] E H:=λ_ _ a w b _ c=>c _ _ a w h b Z
theorem St.opN{G}{a}{w}{o}{R}(d:St G i_ E H a w)(D:jL i_ o.dst=A)(h:pz P i_ o E H R){K}{Q}
  (l:∀r H' B w',R r H'->St G i_ (nX E o.dst r) H' B w'->B.defers=a.defers->K B w'):o.wpIn (RF ζ) 0 P a w K Q:=by
 refine Oper.wpW_in (.inl Z) ?_;have ⟨I,ι,g,e,j⟩:=d.rel;refine h a w I _ T_ d.size g j K Q ?_;intro c w' m f r H' n k i b;refine l r _ _ _ n ⟨?_,?_,m,f,i,e.trans b,lY.put g b j k (by rw[d.size];exact D)⟩ (mS _ _ _)
 .rw[mS];exact d.defers.step g b
 have:=d.size;cases o.dst<;>simpa[Act.put]using this
theorem aBO{ops}{K}{o}{rest}{R}(m:o.guard=ζ)(D:jL i_ o.dst=A)(h:pz P i_ o E H R)(k:∀r H',R r H'->ALN P G0 i_ ops K rest (nX E o.dst r) H'):ALN P G0 i_ ops K (o::rest) E H:=by intro G j a w l Q i;refine wpListIn_plain m λJ n=>?_;exact l.opN D h λr H' I w' g f e=>n _ _ (k r _ g G j _ _ f Q λE H B F d c b=>i E H _ _ d c (b.trans e))
theorem PN{ops}{K}{o}{rest}{v}{H2}(a:o.guard=ζ)(B:o.dst=N d)(c:Nat.blt d i_=A)(h:cQ P i_ o E H v H2)(e:ALN P G0 i_ ops K rest ((d,v)::E) H2):ALN P G0 i_ ops K (o::rest) E H :=aBO a (by rw[B];exact c) h λr H' ⟨b,f⟩=>by subst b f;rw[B];exact e
theorem Tj{ops}{K}{o}{rest}{v}{H2}(d:o.guard=ζ)(B:o.dst=ζ)(h:cQ P i_ o E H v H2)(a:ALN P G0 i_ ops K rest E H2):ALN P G0 i_ ops K (o::rest) E H :=aBO d (by rw[B];rfl) h λr H' ⟨c,b⟩=>by subst c b;rw[B];exact a
theorem sZ{id}{ops}(h:ALN P G0 i_ ops (λE H=>Q .normal E H) ops.toList E H):XA P G0 i_ (.region id ops η) Q E H:=λG c a w d =>
 wpIn_region_list (h G c a w d _ λE H B w' q s b=>⟨⟨E,H,q,s⟩,b⟩)
theorem MQ{x y}(h:XA P G0 i_ x (zX (XA P G0 i_ y Q) Q) E H):XA P G0 i_ (.seq x y) Q E H:=by intro G c a w g;refine wpIn_seq (wpIn_mono (h G c a w g) ?_);rintro e B w' ⟨⟨f,d,q,s⟩,b⟩;cases e<;>first|exact wpIn_mono (q G c _ _ s) (λe a w ⟨i,j⟩=>⟨i,j.trans b⟩)|exact⟨⟨f,d,q,s⟩,b⟩
theorem VM{id}{c}(h:XA P G0 i_ c (MW id Q) E H):XA P G0 i_ (.block id c) Q E H:=by
 intro G f a w i;refine wpIn_block (wpIn_mono (h G f a w i) ?_);rintro e B w' ⟨⟨g,d,q,s⟩,j⟩;cases e<;>try exact⟨⟨g,d,q,s⟩,j⟩
 simp only[MW]at q;simp[Exit.inBlock]
 split
 .rename_i b;subst b;rw[qG]at q;grind
 rename_i b;rw[jX b]at q;grind
theorem OR{c}{x y}{b}(j:aR E c=N (.pv (.bool b)))(g:b=A->XA P G0 i_ x Q E H)(k:b=η->XA P G0 i_ y Q E H):XA P G0 i_ (.cond c x y) Q E H:=by intro G f a w d;have ⟨I,ι,D,B,h⟩:=d.rel;have i:=(aJ h j).bool_inv;exact wpIn_cond_split i (λe=>g e G f a w d) (λe=>k e G f a w d)
end
section
variable{P:Program}{fn:Func}{H:aF}{i_:Nat}{F:FuncId}{args:List AV}{K:aF->Prop}
def aHH(H:aF)(K:aF->Prop)(e:Exit)(E':dG)(H':aF):Prop:=(e=.normal\/e=.ret)/\∃H2,Fin H H' (.tup []) H2 (.tup [])/\K H2
theorem MU{id:Nat}{o:Oper}{ops:Array Oper}{e_:Code}{J3:Array TypeId}{u:FrameMode}{x:PV}{vx:Value}(hf:P.funcs[F]?=some fn)(hb:fn.body=some (.seq (.region id ops false) e_))(hN:fn.ntmps=i_)(hlen:args.length<=i_)(hr0:fn.results=#[])
  (z:ops=#[o]) (hg:o.guard=none) (hd:o.dst=some d) (W:Nat.blt d i_=true) (ho:o.op=.call {callee:=.builtin .recover,args:=#[],argTypes:=J3})
  (hx:∀(w:World) (I:Nat->Prop),PRep w I vx x) (f_:(u=.returning/\vx=.nilIface)\/(∃t,u=.panicking (ms t)/\vx=.iface t (.agg #[])))
  (h:XA P H i_ e_ (aHH H K) ((d,.pv x)::oT args) H):fl P F args H u K:=by
 intro I r w k hr hl hv;refine callsDIn_of_wpSIn hf hb T_ ?_;intro b p c;refine wpSIn_seq (wpSIn_region ?_);subst z;have f:St ⟨I,r,H,w,[]⟩ i_ (oT args) H {tmps:=k++Array.replicate (fn.ntmps - k.size) undef,defers:=[]} w:=by
  refine⟨uU.nil _ _ _,?_,I,r,hr,Step.refl _ _ _ _,λt a ht=>?_⟩
  ·grind
  have c_:=yE ht;have L:t<k.size:=G_
  have f_:k[t]?=some k[t]:=Array.getElem?_eq_getElem L;exact⟨k[t],by grind,hv t _ a f_ c_⟩
 obtain ⟨a,c_⟩:∃a:Act,a={tmps:=k++Array.replicate (fn.ntmps - k.size) undef,defers:=[]}:=X_;rw[<-c_]at f |-;have q:a.defers=[]:=by rw[c_]
 have D:St ⟨I,r,H,w,[]⟩ i_ ((d,.pv x)::oT args) H (a.put (some d) vx) w:=by
  obtain ⟨I1,v_,G,u_,k3⟩:=f.rel;refine⟨by rw[mS];exact f.defers,?_,I1,v_,G,u_,?_⟩
  ·have:=f.size
   simpa[Act.put]using this
  exact lY.put (d:=some d) G (Step.refl _ _ _ _) k3 (.pv (hx _ _)) (by rw[f.size];exact W)
 have l:∀s,settle s=.returning->e_.wpSIn Fence.wide 0 P (bodyPostS P fn b p λe s m=>∃v n d_ i,e=.returned v/\settle s=.returning/\K n/\Rel d_ i n m/\Step I r H w d_ i n m) (a.put (some d) vx) ({b with mode:=s}::p) w:=by
  intro s B;refine wpSIn_of_wpIn Z (wpIn_mono (h ⟨I,r,H,w,[]⟩ Z _ w D) ?_);rintro e a' m ⟨⟨E',n,⟨he,H2,y,hK⟩,z_⟩,hdf⟩;obtain ⟨I3,y_,G,u_,k3⟩:=z_.rel;obtain ⟨I4,R,q1,q2,q3⟩:=y ⟨I,r,H,w,[]⟩ Z I3 y_ m (.tuple #[]) G u_ (.tup Z (by simp));have Q:a'.defers=[]:=hdf.trans ((mS _ _ _).trans q);have H4:a'.defers=[]/\∃E,({b with mode:=s}::p:List Frame)={b with mode:=E}::p/\∃v,(results fn a'.tmps).run P m=.ok v m/\∃v0 n d_ i,Ending.returned v=.returned v0/\settle E=.returning/\K n/\Rel d_ i n m/\Step I r H w d_ i n m :=
   ⟨Q,s,Z,.tuple #[],by simp[results,hr0],.tuple #[],H2,I4,R,Z,B,hK,q1,q2⟩
  rcases he with rfl|rfl
  ·exact H4
  exact H4
 have A_:(execOp a.eval o).run P w=.ok .recover w:=by
  simp[execOp,ho,resolve,invoke];rfl
 have hw:Region.wanted o (yielded #[o] a.tmps)=true:=by simp[Region.wanted,hg]
 show wpOpsSIn _ _ _ _ _ [0] _ _ _;unfold wpOpsSIn;simp only[List.getElem?_toArray,List.getElem?_cons_zero,hw,if_true,A_];refine⟨λ_ _=>trivial,?_⟩;rcases f_ with⟨rfl,rfl⟩|⟨t,rfl,rfl⟩
 ·have g:recoverD (b::p)=none:=by simp[recoverD,c]
  rw[g];have hc:({b with mode:=.returning}:Frame)=b:=by rw[<-c]
  have:=l .returning Z;rw[hc]at this;rw[hd];exact this
 have g:recoverD (b::p)=some (.iface t (.agg #[]),{b with mode:=.panicking ({v:=.iface t (.agg #[]),recovered:=true}::[])}::p):=by simp[recoverD,c]
 rw[g];rw[hd];exact l (.panicking ({v:=.iface t (.agg #[]),recovered:=true}::[])) Z
end
section
variable{P:Program}{i_:Nat}{o:Oper}{H:aF}{t t' J3:TypeId}{x y:Operand}
theorem sw(e:o.op=.binOp .eql t x (.const .nilIface) t')(d:P.underlying t=N (.interface (P.methodsAt t)))(f:aR E x=N (.pv N0)):cQ P i_ o E H (.pv (.bool A)) H :=.of_run λa w I ι _ b=>⟨.bool _,by
  have c:=(aJ b f).sat_inv;have g:a.eval (.const _)=.nilIface:=rfl;simp[execOp,e,c,g,eqGuard,Sem.run_bind,Sem.run_pure,Result.andThen_ok,run_eql_nil_nil _ _ d,Bool.or_true,Bool.true_or,if_true,Bool.not_true,Bool.false_eq_true,if_false],.pv (.bool _)⟩
theorem sy{ps:List PV}{h:TypeId}(e:o.op=.binOp .eql t x (.const .nilIface) t')(d:P.underlying t=N (.interface (P.methodsAt t)))(f:aR E x=N (.pv (.ifa h ps))):cQ P i_ o E H (.pv (.bool η)) H :=.of_run λa w I ι _ b=>⟨.bool η,by
  have ⟨cs,c,_⟩:=(aJ b f).ifa_inv;have g:a.eval (.const .nilIface)=.nilIface:=rfl;simp only[execOp,e,c,g,eqGuard,Sem.run_bind,Sem.run_pure,Result.andThen_ok,binOp,run_equal_held_nil _ _ _ _ d];rfl,.pv (.bool _)⟩
abbrev aE3:PV:=.sat λv=>∃b,v=.pointer (N ⟨b,0,ζ⟩)
theorem tc(f:o.op=.alloc J3)(c:∀w,(zeroValue J3).run P w=.ok (.agg #[]) w):cQ P i_ o E H (.pv aE3) H:=by intro a w I ι _ _ g he K Q e;unfold Oper.wpW execOp;simp[f,Instr.alloc,c,newVar,newRow,Sem.run_bind,run_newObj,Sem.run_pure,Result.andThen_ok];obtain ⟨d,b⟩:=Rel.newImm (w':={w with heap:=w.heap.push _}) g Z Z Z Z;exact e _ _ _ _ _ _ ⟨Z,Z⟩ (.pv (.sat Z ⟨_,Z⟩)) d b
theorem sk(k:o.op=.store J3 x y)(l:aR E x=N (.pv aE3))(n:aR E y=N (.agg []))(j:∀w,(sizeOf J3).run P w=.ok 0 w):cQ P i_ o E H (.tup []) H:=by
 intro a w I ι _ _ p g K Q m;have ⟨b,i⟩:=(aJ g l).sat_inv;have h:=aJ g n;generalize f:a.eval y=B at h;cases h with
 | @agg vs _ hl h1 hh =>
  have:=Array.eq_empty_of_size_eq_zero X;subst this;have d:(execOp a.eval o).run P w=.ok .skip w:=by
   simp[execOp,k,i,f];simp[Instr.storeAt,Instr.sureAddr,storeVar,j,Value.cells,storeCells]
  unfold Oper.wpW;rw[d];exact m _ w I _ _ _ ⟨Z,Z⟩ (.tup Z H_) p (Step.refl _ _ _ _)
end
theorem cJ.toAny{G0 H H':aF}{E':dG}(f_:∀t v,E'.get t=N v->E.get t=N v/\Clo H' v)(u:∀id J,H'.get id=N J->∃o,H.get id=N o/\nG o J/\∀r∈J.rows,∀a∈r,a=.any)(hG:∀id,(G0.get id).isSome=A->(H'.get id).isSome=A):cJ G0 E H E' H':=by
 intro G c_ i_ a w K;have ⟨I,v_,B,s,he⟩:=K.rel;have g:∀ {o J:Ob},nG o J->C J.rows=C o.rows:=λh=>by
  have:=congrArg List.length h.2.2.2
  simpa using this
 have o_:Cc H H':=λj J d=>by
  have ⟨o,m,f,_⟩:=u j J d;exact⟨o,m,f.1.symm,f.2.1.symm,f.2.2.1.symm,(g f).symm⟩
 refine⟨K.defers,K.size,I,v_,⟨B.imm,λid J d=>?_,λid z o J b c c' k d=>?_,B.glob⟩,?_,λt v J3=>?_⟩
 .have ⟨o,m,f,Q⟩:=u id J d;refine(B.obj id o m).keepG f.2.1 f.2.2.1 (g f) (λy P R hy=>?_) Z (λ_ _ _ _=>⟨Z,λh=>h⟩) (λi R F=>?_)
  .have:=Q [.raw y P] F_ (.raw y P) H_;cases this
  have x:i<C o.rows:=by rw[<-g f];exact(m9.1 F).1
  refine⟨o.rows[i],m_ x,?_,λk a p _ d_ v _=>?_⟩
  .have e:=congrArg (λl:List Nat=>l[i]?) f.2.2.2;simp only[r7,F,m_ x,Option.map_some,Option.some.injEq]at e;exact e.symm
  rw[Q R (m7 F) p (m7 d_)];exact .any v
 .have ⟨q,m,_⟩:=u id o k;have ⟨y_,D,_⟩:=u z J d;exact B.inj id z q y_ b c c' m D
 .refine {s with own:=λb ⟨id,J,L,d,n⟩=>?_,objs:=λid o k=>?_}
  .have ⟨o,m,_⟩:=u id J d;exact s.own b ⟨id,o,L,m,n⟩
  have ⟨o1,W,k2,A_⟩:=s.objs id o k;have ⟨J,d⟩:=Option.isSome_iff_exists.1 (hG id (by rw[<-c_,k];rfl));have ⟨o2,m,f,_⟩:=u id J d;rw[W]at m;cases m;refine⟨J,d,by rw[f.1];exact k2,λe=>?_⟩;have ⟨q1,z_,q3⟩:=A_ (by rw[<-f.1];exact e);exact⟨q1,by rw[f.2.1];exact z_,λhz=>by rw[g f];exact q3 hz⟩
 have ⟨m,f⟩:=f_ t v J3;have ⟨c,n,u_⟩:=he t v m;exact⟨c,n,u_.alike o_ f⟩
theorem aGQ{P}{c}{H}{x y}{r s:AV}(g:c.results=#[x,y])(f:P8 P E H x r)(e:P8 P E H y s):
  ∀(a:Act) (w) (I) (ι),Rel I ι H w->lY w I ι H E a->∃v,(results c a.tmps).run P w=.ok v w/\VRel w I ι H v (.tup [r,s]):=λa w I ι d b=>by
 have ⟨v,B,D⟩:=f a w I ι d b;have ⟨u,F,G⟩:=e a w I ι d b;refine⟨.tuple #[v,u],by rw[vS,g];simp_all,.tup Z ?_⟩
 grind
end
end Go.Abs
namespace Go.Proofs.C
open Go.Proofs.Tryz
open Go.Abs
abbrev pc(l:List UInt8):Ob:=bx 1 127 [sv (a_ l)]
abbrev nT(l:List UInt8):aF:=[(980,pc l)]
abbrev S7:AV:=.ref 980 0 0 0
abbrev JH:fw:=ms 124
theorem bj(l)(H):∀r∈(pc l).rows,∀a∈r,Clo H a:=H_
instance(l)(H):W_ (H) ((pc l).rows):=⟨bj l H⟩
theorem DE(l):dO (nT l):=dO.ofL ⟨bj l _,T_⟩
def E4(f:FuncId)(xs:List AV)(K:aF)(l:List UInt8)(o:Option (AV×List UInt8)):Prop :=∀H1:aF,H1.get 980=N (pc l)->Sub K H1->gD φ f xs H1 (λr H'=>∃p,o=N p/\r=p.1/\H'=nT p.2++H1) (λch H'=>o=ζ/\ch=JH/\∃q,H'=nT q++H1)
theorem E4.of{f:FuncId}{xs:List AV}{K:aF}{l:List UInt8}{o}(y:dO (nT l++K))(D:K.get 980=ζ)(B:∀a∈xs,Clo (nT l++K) a)
  (h:gD φ f xs (nT l++K) (λr H'=>∃p,o=N p/\r=p.1/\H'=nT p.2++K) (λi H'=>o=ζ/\i=JH/\∃q,H'=nT q++K)):E4 f xs K l o:=by
 intro t s w;have g:Sub (nT l++K) t:=λid n d=>by
  rw[gS]at d;by_cases e:980=id
  .subst e;have:(nT l).get 980=N (pc l):=rfl;rw[this]at d;cases d;exact s
  have:(nT l).get id=ζ:=by simp[aF.get,jX e]
  rw[this]at d;exact w id n d
 have u:∀q id,(aF.get (nT q++K) id).isSome=A->((nT l++K).get id).isSome=A:=λq id c=>by
  rw[gS]at c |-;by_cases e:980=id
  .subst e;rfl
  have s:∀q,(nT q).get id=ζ:=λq=>by simp[aF.get,jX e]
  rw[s]at c |-;exact c
 have v:∀(q:List UInt8) (j:Nat),aF.get (nT q++t) j=aF.get ((nT q++K)++t) j:=λq j=>by
  rw[Ä,gS,gS (nT q)];cases (nT q).get j with
  |some _=>rfl
  |none =>
   simp only;rw[gS];cases e:K.get j with
   |none=>rfl
   |some n=>exact w j n e
 refine(h.frame g y B (λr H' ⟨p,_,_,x⟩ id c=>.inl (by subst x;exact u _ id c)) (λi H' ⟨_,_,q,H4⟩ id c=>.inl (by subst H4;exact u _ id c))).conv ?_ ?_
 .rintro r H' ⟨z,⟨p,m,k,rfl⟩,rfl⟩;exact⟨_,v _,p,m,k,Z⟩
 rintro i H' ⟨z,⟨m,k,q,rfl⟩,rfl⟩;exact⟨_,v _,m,k,q,Z⟩
theorem E4.yes{f}{xs}{K}{l q}{v}(h:E4 f xs K l (N (v,q))){H1}(b:H1.get 980=N (pc l))(a:Sub K H1):aU φ f xs H1 (λr H'=>r=v/\H'=nT q++H1) :=((h _ b a).mono (λr H' ⟨p,e1,e2,e3⟩=>by grind) (λch H' ⟨e,_⟩=>by cases e)).calls (λ_ _ h=>h)
theorem E4.no{f}{xs}{K}{l}(h:E4 f xs K l ζ){H1}(d:H1.get 980=N (pc l))(b:Sub K H1):gD φ f xs H1 (λ_ _=>False) (λa H'=>a=JH/\∃q,H'=nT q++H1) :=(h _ d b).mono (λr H' ⟨p,c,_⟩=>by cases c) (λa H' ⟨_,e,g⟩=>⟨e,g⟩)
theorem E4.tot{f}{xs}{K}{l}{o}(h:E4 f xs K l o){v}{q}{d}(B:(o.getD (d,l))=(v,q)){H1}(c:H1.get 980=N (pc l))(b:Sub K H1):
  gD φ f xs H1 (λr H'=>r=v/\H'=nT q++H1/\o.isSome=A) (λa H'=>o=ζ/\a=JH/\∃q,H'=nT q++H1) :=
 (h _ c b).mono (λr H' ⟨p,e1,e2,e3⟩=>by simp_all) (λa H' h=>h)
theorem gN(H):Sub [] H:=λ_ _ h=>by cases h
def LN(l:List UInt8):Option (AV×List UInt8):=(pN l).map λp=>(sv p.1,p.2)
def FR(l:List UInt8):Option (AV×List UInt8):=(yK l).map λp=>(iv p.1,p.2)
theorem A7(l:List UInt8)(P:C l<1000000000):E4 98 [S7] [] l (LN l):=by
 refine E4.of (DE l) Z u3 ?_;have K:T (a_ l)=C l:=cB l;have n:=Rr l;have b:=λH=>Rm (a_ l) H X;rw[Bl]at b;have i:=λH=>eu (a_ (CW l)) (by rw[cB];omega) H;have m:T (a_ (EO l))=C (EO l):=cB _;have d:LM l=(((!θ ((58:UInt8)∈l)||uT (a_ (CW l)))||θ (jM (a_ (CW l))<0))||θ ((C (EO l):Int)<jM (a_ (CW l)))):=rfl;have q:nxN l=(jM (a_ (CW l))).toNat:=rfl;have D:LN l=if LM l=A then ζ else N (sv (a_ ((EO l).take (nxN l))),(EO l).drop (nxN l)):=by rw[LN,pN];all_goals grind
 rw[D];have ⟨x,I⟩:∃x,x=a_ (CW l):=X_;have ⟨v,z⟩:∃v,v=jM (a_ (CW l)):=X_;have ⟨e,E⟩:∃e,e=uT (a_ (CW l)):=X_;have ⟨o,J⟩:∃o,o=θ ((58:UInt8)∈l):=X_;have ⟨r,B⟩:∃r,r=EO l:=X_;simp only[<-z,<-E,<-J,<-B]at b i d q m n |-;simp only[<-I]at b i d;clear I z E J B D;refine gD.body func98 Z ntmps98 (r_ Z)<|Sz aH<|U aA<|Y pQ<|Y (bC Ay)<|Y (bT N_)<|Y (kc call137 (b _))<|Y aA<|Y dK<|Y dK<|Y dK<|Y aH<|Y aH<|V aH<|U aA<|Y (kc wS (i _))<|Y aA<|Y dK<|Y dK<|Y aH<|V aH<|S<|S<|aT (t:=37) (n:=19) (A_:=LM l) ?_ ?_
 .all_goals refine Y aA<|Y iJ<|Dm ?_<;>(refine Sp 24 (λs=>?_) λs=>?_)<;>(try exact w_)<;>(first|refine M<|M ?_|refine O aA<|O (TU Z oK Z) ?_)<;>refine Y cE<|Dm ?_<;>(refine Sp 28 (λy=>?_) λy=>?_)<;>(try exact w_)<;>(first|refine M<|M ?_|refine O aA<|O cH ?_)<;>refine Y cE<|Dm ?_<;>(refine Sp 32 (λt=>?_) λt=>?_)<;>(try exact w_)<;>(first|refine M<|M<|M<|M ?_|refine O aA<|O aA<|O (gQ U_)<|O jB ?_)<;>refine V cE ?_<;>(exact⟨⟨_,Z,G_⟩,Z,Z,Z⟩)
 refine Cn ?_ ?_<;>intro j
 .have k:LM l=A:=j;rw[b6 k];refine iA<|jD Z Z Z (NT (fs:=#[]) (places:=#[]) (v0:=.agg []) (l0:=[]) (aps:=[]) (l:=[]) Z zW zeroValue124 (.inl Z) Z (λw=>by simp) Z Z) ?_;refine jD Z Z Z (LC (ps:=[]) Z (dZ zW Z) Z) ?_;exact rJ Z Z (YH Z Z) (λch H' h=>by obtain ⟨rfl,rfl⟩:=h;exact GG (H':=nT l) P_ ⟨Z,Z,l,Z⟩)
 have k:LM l=η:=j;rw[a8 (by rw[k];decide)];have p:=d.symm.trans k;simp only[q_,q7]at p;obtain ⟨u,rfl⟩:∃u:Nat,v=(u:Int):=⟨v.toNat,X⟩;rw[l_]at q;rw[q];have L:u<=C r:=X
 have F:(a_ r).extract 0 u=a_ (r.take u):=mC (by rw[fW,cG,cG,Ò,Nat.sub_zero]);have G:(a_ r).extract u (T (a_ r))=a_ (r.drop u):=mC (by rw[sW,cG,cG]);refine aB<|U aA<|Y aA<|Y aA<|Y (bM (l:=u) (h:=T (a_ r)) Z U_ Z Z Z X (h_ _) G)<|Y pQ<|Y (bC Ay)<|Uu (jH V_)<|Zz<|U aA<|Y aA<|Y (bM (l:=0) (h:=u) Z U_ Z Z Z (k_ _) X F)<|V aH<|aC ?_;refine OT ?_;refine cR (H':=(nT (r.drop u))) (.inr Z) Z (aI Z) P_ ?_
 simp_all
theorem aAR{l}(h:58∈l):C (EO l)<C l:=by rw[EO,q6];have:=(Ï (l:=l) λb=>!θ (b=58)).length_le;have:=length_pos_of_mem h;omega
theorem lU{l q}{s}(h:pN l=N (s,q)):T s+C q<C l:=by
 rw[pN]at h
 split at h
 .cases h
 next a =>
 simp[LM,q_,Bool.not_eq_false',q7,l6]at a;have B:=aAR a.1.1.1;cases h;rw[cB,n_,q6];omega
theorem kV{l q}{x}(h:yK l=N (x,q)):C q<C l/\(-9223372036854775808<=x/\x<=9223372036854775807):=by
 rw[yK]at h;cases a:pN l with
 |none=>simp_all
 |some p =>
  have ⟨s,r⟩:=p;rw[a]at h;simp only at h
  split at h
  .cases h
  cases h;have:=lU a;exact⟨X,ZT s⟩
theorem oW(l:List UInt8)(u:C l<1000000000):E4 99 [S7] [] l (FR l):=by
 refine E4.of (DE l) Z u3 ?_;have c:=A7 l u;have b:=λs q=>lU (l:=l) (s:=s) (q:=q);have g:LN l=(pN l).map λp=>(sv p.1,p.2):=rfl;have n:FR l=(match pN l with
  |none=>ζ
  |some (s,r)=>if uT s=A then ζ else N (iv (jM s),r)):=by
  rw[FR,yK]
  grind
 rw[n];rw[g]at c;generalize pN l=B at c b |-;clear g n;refine gD.body func99 Z ntmps99 (r_ Z)<|Sz aH<|S ?_;rcases B with _|⟨s,q⟩
 .have c:E4 98 [S7] [] l ζ:=c;refine iA<|jD Z Z Z (iC Z Z) ?_;exact rJ Z Z (eU Z Z nW Z (c.no Z (gN _))) (λt o h=>by obtain ⟨rfl,q,rfl⟩:=h;exact GG (H':=nT q) P_ ⟨Z,Z,q,Z⟩)
 have c:E4 98 [S7] [] l (N (sv s,q)):=c;have b:=b s q Z;have f:=λH=>eu s X H;have ⟨e,k⟩:∃e,e=uT s:=X_;have ⟨v,j⟩:∃v,v=jM s:=X_;simp only[<-k,<-j]at f |-;clear k j;refine Rd aA<|Y (kc nW (c.yes Z (gN _)))<|Y (kc wS (f _))<|Y aA<|Y dK<|Y dK<|Y aH<|V aH<|S<|U aA<|V (TU Z oK Z)<|Cn ?_ ?_<;>intro d
 .have i:e=A:=d;rw[b6 i];refine iA<|jD Z Z Z (NT (fs:=#[]) (places:=#[]) (v0:=.agg []) (l0:=[]) (aps:=[]) (l:=[]) Z zW zeroValue124 (.inl Z) Z (λw=>by simp) Z Z) ?_;refine jD Z Z Z (LC (ps:=[]) Z (dZ zW Z) Z) ?_;exact rJ Z Z (YH Z Z) (λt o h=>by obtain ⟨rfl,rfl⟩:=h;exact GG (H':=nT q) P_ ⟨Z,Z,q,Z⟩)
 have i:e=η:=d;rw[a8 F_];refine aB<|U aA<|V aH<|aC ?_;refine OT ?_;refine cR (H':=(nT q)) (.inr Z) Z (aI Z) P_ ?_
 simp_all
end Go.Proofs.C
