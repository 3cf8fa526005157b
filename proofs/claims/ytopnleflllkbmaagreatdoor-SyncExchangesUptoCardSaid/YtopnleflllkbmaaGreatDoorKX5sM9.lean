/-
  Parts of the proof. Conditions: each theorem's own.
-/
import Derived.Test.YtopnleflllkbmaaGreatDoorKX5sM8
set_option linter.unusedVariables false
set_option linter.unusedSimpArgs false
set_option maxRecDepth 100000
set_option maxHeartbeats 8000000
open List Nat
open List renaming length->C
open Option renaming some->N,none->ζ
open Bool renaming true->A,false->η
open ByteArray renaming size->T,data->μ
open Array renaming toList->ν
open Decidable renaming decide->θ
open Go.IntKind renaming i64->ξ
open Go.Proofs.Tryz renaming prog->φ
open List renaming drop_eq_getElem_cons->Â,take_of_length_le->Ã,append_nil->Ä,countP_le_length->Å,length_filter_le->Æ,mem_of_mem_take->Ç,append_assoc->È,flatMap_append->É,flatMap_nil->Ê,mem_of_mem_drop->Ë,map_append->Ì,take_zero->Í,filter_cons_of_neg->Î,filter_cons_of_pos->Ï,mem_append->Ð,flatMap_cons->Ñ,take_length->Ò,countP_nil->Ó,mem_cons_self->Ô,filter_append->Õ,countP_append->Ö,drop_drop->Ø,drop_zero->Ù,drop_eq_nil_of_le->Ú,take_append_drop->Û,map_congr_left->Ü,length_range->Ý,mem_filter->Þ,filter_nil->ß
open Go.Proofs.YtopnleflllkbmaaGreatDoor
namespace Go.Proofs
open Tryz
theorem rT:type_of% call64:=call64
end Go.Proofs
namespace Go.Proofs.C
open Go.Proofs.Tryz
open Go.Abs Go.Lib
def rL(q:RS):List B_×RS:=if(C (rU q).2.1:Int)<(rU q).1\/(rU q).1<0 then([],((rU q).2.1,A))else((rU q).2.1.take (rU q).1.toNat,((rU q).2.1.drop (rU q).1.toNat,(rU q).2.2))
def rZ(q:RS):p_×RS:=(⟨(rU q).1,(rL (rU q).2).1,(rL (rL (rU q).2).2).1⟩,(rL (rL (rU q).2).2).2)
theorem aBu(q):C (rN q).2.1<=C q.1:=by show C (q.1.drop 1)<=_;simp_all
theorem bn(q):C (rU q).2.1<=C q.1:=aBu q
theorem aBv(q):C (rL q).2.1<=C q.1:=by
 have:=bn q;rw[rL]
 split
 .exact this
 grind
theorem RJ(q:RS)(F:C q.1<2^40):Tx 65 q (.pv (aK (rL q).1)) (rL q).2:=by
 refine Tx.of ?_;have l:=oX q F;have r:=bn q;have e:(C (rU q).2.1:Int)<(rU q).1\/(rU q).1<0->rL q=([],((rU q).2.1,A)):=λh=>by rw[rL,b6 h]
 have d:¬ ((C (rU q).2.1:Int)<(rU q).1\/(rU q).1<0)->rL q=((rU q).2.1.take (rU q).1.toNat,((rU q).2.1.drop (rU q).1.toNat,(rU q).2.2)):=λh=>by rw[rL,a8 h]
 generalize rL q=y_ at e d |-;have ⟨⟨n,L,b⟩,D⟩:∃p,p=rU q:=X_;rw[<-D]at l r e d;clear D;dsimp only at l r e d;have t:C (L.map S_)=C L:=g_ _;refine Bd func65 Z ntmps65<|Sz aH<|U aA<|Y (kc rT (l _ Z))<|V aH<|S<|S<|aT (t:=18) (n:=12) (A_:=θ ((C (L.map S_):Int)<n)||θ (n<0)) ?_ ?_
 .all_goals refine Y aA<|Y aA<|Y pQ<|Y (bC OF)<|Y (bT aG)<|Y (fP aE)<|Y jB<|Dm ?_<;>(refine Sp 15 (λI=>?_) λI=>?_)<;>(first|exact s_|refine M<|M ?_|refine O aA<|O cH ?_)<;>refine V cE ?_<;>(exact⟨⟨_,Z,G_⟩,Z,Z,Z⟩)
 refine Cn ?_ ?_<;>intro o
 .have j:=o;rw[t,Bool.or_eq_true,l6,l6]at j;rw[e j];refine U aA<|Y pQ<|Y (bC OE)<|Uu (by exact cM Z sizeOf4 Z Z Z Z Z Z F_ u0 u0)<|Zz<|Sz aH<|aC ?_;refine cR (H':=(yx (L,A))) (.inr Z) Z (aI Z) (P_ (r:=.pv (aK []))) ?_;exact Qq
 have j:=o;rw[t,q_,q7,q7]at j;rw[d (λh=>h.elim j.1 j.2)];have ⟨G,H⟩:=j;obtain ⟨k,rfl⟩:∃k:Nat,n=(k:Int):=⟨n.toNat,X⟩;rw[l_];have u:∀i,i<=k->C (L.take i)=i:=λi w=>by grind
 refine aB<|Sz (dM (id:=905) (sz:=1) (ty:=9) Z Z Z)<|S<|Sz aH<|aD<|bA (σ:=Nat) (λi=>([(0,yo),(3,iv (k:Int)),(4,.osl 905 i 0 i),(5,iv (i:Int))],[(905,⟨i,1,9,bP (L.take i)⟩),(980,yw (L.drop i,b))])) (λi=>i<=k) (λi=>k - i) 0 (k_ _) ?_ ?_
 .exact L_
 intro i w;refine S<|U aA<|Y aA<|V cH<|Cn ?_ ?_<;>intro m
 .have hik:i<k:=I_ m
  have ⟨s,z⟩:=aQ (l:=L) (k:=i) X;have B:L.drop i=s::L.drop (i+1):=by
   have E:=(m9.1 z).1;rw[Â E,(m9.1 z).2]
  have x:Tx 63 (L.drop i,b) (sv s) (L.drop (i+1),b):=by
   have:=vU (L.drop i,b) G_;rw[rN]at this
   simpa[B]using this
  have y:=eA z;have g:=u i w;refine aB<|S<|aD<|Rd aA<|Y aA<|Y (kc rV (x _ Z))<|Y (aM [[.str s]] Z aY Z Z Z Z Z F_)<|Y (by exact bU (k:=i+1) (ps:=[[.str s]]) Z aY sX Z Z Z Z Z ((dB _).trans g) Z F_ (m:=1) Z X Z (rows':=bP (L.take (i+1))) (by rw[y];exact gP _ s))<|V aH<|Rd aA<|Y kp<|Da ?_;exact⟨i+1,X,X,L_⟩
 have v:i=k:=J_ m
 subst v;have g:=u i w;refine aP<|U aA<|V aH<|aC ?_;refine cR (H':=(yx (L.drop i,b))) (.inr Z) Z (aI Z) (Fin.fz (id:=905) (ob:=⟨i,1,9,bP (L.take i)⟩) (r':=.pv (aK (L.take i))) ((L.take i).map S_) Z (cX _) (.osl (C5 S_ _ g)) Z ⟨⟨_,Z,Z⟩,r5,T_⟩ ⟨Z,T_⟩) ?_;exact Qq
theorem yc(q:RS)(i:C q.1<2^40):Tx 66 q (av (lW (rZ q).1)) (rZ q).2:=by refine Tx.of ?_;have h:=oX q i;have f:=RJ (rU q).2 (Nat.lt_of_le_of_lt (bn q) i);have d:=RJ (rL (rU q).2).2 (Nat.lt_of_le_of_lt (aBv _) (Nat.lt_of_le_of_lt (bn q) i));rw[rZ];have ⟨⟨n,k⟩,j⟩:∃p,p=rU q:=X_;rw[<-j]at h f d |-;dsimp only at h f d |-;have ⟨⟨a,m⟩,e⟩:∃p,p=rL k:=X_;rw[<-e]at f d |-;dsimp only at f d |-;have ⟨⟨c,l⟩,g⟩:∃p,p=rL m:=X_;rw[<-g]at d |-;dsimp only at d |-;clear j e g;refine Bd func66 Z ntmps66<|Sz (kl 2 fy)<|Sz (kl 3 fy)<|U aA<|Y (kc rT (h _ Z))<|Y (bC D1)<|Uu (ku sizeOf3)<|Zz<|U aA<|Y (kc call65 (f _ Z))<|Y (bC xG)<|Uu (ku sizeOf22)<|Zz<|U aA<|Y (kc call65 (d _ Z))<|Y (bC xF)<|Uu (ku sizeOf22)<|Zz<|U (xB iB sizeOf48)<|Uu (jH sizeOf48)<|Zz<|aC ?_;refine cR (H':=(yx l)) (.inr Z) Z (fJ Z iB sizeOf48 Z Z Z u0 Z) P_ ?_;exact Qq
theorem GA(l:List B_)(H:aF)(t:th l):RC 114 [.pv (aK l)] (bv (l.all m6)) H:=by
 refine Pu ?_;have ⟨B,o⟩:=t;have D:C (l.map S_)=C l:=g_ _;refine Bd func114 Z ntmps114<|Sz aH<|S<|Sz aH<|aD<|bA (σ:=Nat) (λk=>([(0,.pv (aK l)),(3,iv (k:Int))],[])) (λk=>k<=C l/\∀j,j<k->∀b,l[j]?=N b->m6 b=A) (λk=>C l - k) 0 ⟨X,X⟩ ?_ ?_
 .exact Wk
 rintro k ⟨hk,f⟩;refine S<|U aA<|Y aA<|Y (fP aE)<|V cH<|Cn ?_ ?_<;>intro e
 .have i:k<C l:=I_ e
  have ⟨s,g⟩:=aQ i;have q:=cA (f:=S_) g;have E:=o s (m7 g);have p:=λH=>yi s X H;have d:=λh=>fa (p:=m6) g h;refine aB<|S<|aD<|U aA<|Y aA<|Y (bQ Z aY Z Z X y7 q Z)<|Y (fK N_ (hi:=q))<|Y (kc call37 (p _))<|V iJ<|Cn ?_ ?_<;>intro c
  .have n:=not_not c;rw[d n];exact Sz aH<|aC<|Rt<|Qq
  have n:=pG c;refine aB<|Rd aA<|Y kp<|Da ?_;exact⟨k+1,⟨X,M8 f g n⟩,X,Wk⟩
 have m:k=C l:=J_ e
 subst m;rw[VS f];exact aP<|Sz aH<|aC<|Rt<|Qq
theorem Jf(s:p_)(H:aF)(D:yX s):RC 169 [av (lW s)] (bv (BS s)) H:=by
 refine aU.pure ?_ F_ H;have B:BS s=((θ (s.idx=0)&&θ ((C (s.sig.map S_):Int)=0))&&θ ((C (s.path.map S_):Int)=0)):=by
  rw[BS,Bool.and_assoc]
  grind
 refine Bd func169 Z ntmps169<|U (kb 1)<|V aH<|S<|aT (t:=2) (n:=18) (A_:=BS s) ?_ ?_
 .all_goals refine Y (bC D1)<|Y (bT M_)<|Y cI<|Dm ?_<;>(refine Sp 6 (λd=>?_) λd=>?_)<;>(first|exact s_|refine M<|M<|M<|M ?_|refine O (bC xG)<|O (bT aG)<|O (fP aE)<|O cI ?_)<;>refine Y cE<|Dm ?_<;>(refine Sp 12 (λc=>?_) λc=>?_)<;>(first|refine M<|M<|M<|M ?_|refine O (bC xF)<|O (bT aG)<|O (fP aE)<|O cI ?_)<;>refine Y cE<|Da ?_<;>exact Gj (h:=by simp_all)
 exact aC<|Rt<|Qq
theorem UV(s:p_)(H:aF)(n:yX s):RC 116 [av (lW s)] (bv (lN s)) H:=by
 refine aU.pure ?_ F_ H;have o:=λH=>Jf s H n;have ⟨⟨E,F⟩,q,u⟩:=n;have g:=λH=>GA s.sig H q;have h:=λH=>GA s.path H u;have t:θ (s.idx<256)=θ (s.idx<=255):=by
  grind
 have k:lN s=(BS s||(((((θ (0<=s.idx)&&θ (s.idx<=255))&&θ ((C (s.sig.map S_):Int)=18))&&θ ((C (s.path.map S_):Int)<=8))&&s.sig.all m6)&&s.path.all m6)):=by rw[lN,t]
 have ⟨B,e⟩:∃d,d=s.sig.all m6:=X_;have ⟨D,c⟩:∃d,d=s.path.all m6:=X_;generalize BS s=z at o k;rw[<-e]at g k;rw[<-c]at h k;clear e c;refine Bd func116 Z ntmps116<|U (kb 1)<|V aH<|S<|aT (t:=2) (n:=41) (A_:=lN s) ?_ ?_
 .all_goals refine Y (by exact aW Z iB sizeOf48 Z Z Z Z u0 Z) ?_
  all_goals refine Y (kc call169 (o _))<|Dm ?_<;>(refine Sp 5 (λv=>?_) λv=>?_)<;>(first|exact s_|refine M<|M<|M<|M ?_|refine O (bC D1)<|O (bT M_)<|O AU<|O aA ?_)<;>(first|refine Sp 9 (λp=>?_) λp=>?_|refine lC (t:=9) Z ?_)<;>(first|exact s_|refine M ?_|refine Fu ?_|refine O (bC D1) ?_)<;>(first|refine M ?_|refine Fu ?_|refine O (bT M_) ?_)<;>(first|refine M ?_|refine Fu ?_|refine O HV ?_)<;>(first|refine M<|M ?_|refine O cE<|O aA ?_)<;>(first|refine Sp 14 (λm=>?_) λm=>?_|refine lC (t:=14) Z ?_)<;>(first|exact s_|refine M ?_|refine Fu ?_|refine O (bC xG) ?_)<;>(first|refine M ?_|refine Fu ?_|refine O (bT aG) ?_)<;>(first|refine M ?_|refine Fu ?_|refine O (fP aE) ?_)<;>(first|refine M ?_|refine Fu ?_|refine O cI ?_)<;>(first|refine M<|M ?_|refine O cE<|O aA ?_)<;>(first|refine Sp 20 (λi=>?_) λi=>?_|refine lC (t:=20) Z ?_)<;>(first|exact s_|refine M ?_|refine Fu ?_|refine O (bC xF) ?_)<;>(first|refine M ?_|refine Fu ?_|refine O (bT aG) ?_)<;>(first|refine M ?_|refine Fu ?_|refine O (fP aE) ?_)<;>(first|refine M ?_|refine Fu ?_|refine O HV ?_)<;>(first|refine M<|M ?_|refine O cE<|O aA ?_)<;>(first|refine Sp 26 (λj=>?_) λj=>?_|refine lC (t:=26) Z ?_)<;>(first|exact s_|refine M ?_|refine Fu ?_|refine O (bC xG) ?_)<;>(first|refine M ?_|refine Fu ?_|refine O (bT aG) ?_)<;>(first|refine M ?_|refine Fu ?_|refine O (kc call114 (g _)) ?_)<;>(first|refine M<|M ?_|refine O cE<|O aA ?_)<;>(first|refine Sp 31 (λl=>?_) λl=>?_|refine lC (t:=31) Z ?_)<;>(first|exact s_|refine M ?_|refine Fu ?_|refine O (bC xF) ?_)<;>(first|refine M ?_|refine Fu ?_|refine O (bT aG) ?_)<;>(first|refine M ?_|refine Fu ?_|refine O (kc call114 (h _)) ?_)<;>(first|refine M ?_|refine O cE ?_)<;>refine Y cE<|Da ?_<;>(exact⟨⟨_,Z,G_⟩,Z,Z,Z⟩)
 exact aC<|Rt<|Qq
def tP:List B_->Bool
 |a::b::r=>jZ a b&&tP (b::r)
 |_=>A
theorem nr:∀(l),C (fY l)<=C l
 | []=>h_ _
 | [x]=>h_ _
 |x::y::r=>by
  have B:=nr (y::r);show C (if x=y then fY _ else x::fY _)<=_
  grind
theorem UJ:∀(l),Qh l=tP l
 | []=>rfl
 | [x]=>rfl
 | x::y::r=>by
  have d:=UJ (y::r);have E:=nr (y::r);rw[Qh,g_]at d |-;show ((!jZ y x&&oA _)&&θ ((C (if x=y then fY _ else x::fY _):Int)=_))=(jZ x y&&tP _);by_cases e:x=y
  .rw[b6 e,e,GQ,Bool.false_and,Á (by have D:C (y::y::r)=C (y::r)+1:=rfl;omega),Bool.and_false]
  rw[Bool.and_assoc];have B:(!jZ y x)=jZ x y:=by
   cases c:jZ x y
   .cases b:jZ y x
    .exact absurd (C9 c b) e
    rfl
   cases b:jZ y x
   .rfl
   have:=GP c b;rw[GQ]at this;cases this
  simp_all
theorem Ct{l:List _}{k}{a b}(f:l[k]?=N a)(c:l[k+1]?=N b):tP (l.drop k)=(jZ a b&&tP (l.drop (k+1))):=by have ⟨h,e⟩:=m9.1 f;have ⟨g,d⟩:=m9.1 c;rw[Â h,Â g,e,d];rfl
theorem Z9{l}(h:C l<=1):tP l=A:=by
 match l,h with
 | [],_=>rfl
 | [a],_=>rfl
def pvB(p:GPriv):Bool:=(((θ (200<(T p.name:Int))||θ (200<(T p.reason:Int)))||θ (16<(C (p.sources.map S_):Int)))||θ (200<(C (p.trace.map kS):Int)))||!lN p.sl
def td(q:Int×Int):Bool:=dw q.1 q.2
def tR(s:B_):Bool:=!LY s
def B6(p:GPriv):Bool:=!pvB p&&(p.sources.all tR&&p.trace.all td)
theorem Nn{p}(h:pvB p=A):B6 p=η:=by rw[B6,h];rfl
theorem Nm{p}(h:p.sources.all tR=η):B6 p=η:=by rw[B6,h,Bool.false_and,Bool.and_false]
theorem Nl{p}(h:p.trace.all td=η):B6 p=η:=by rw[B6,h,Bool.and_false,Bool.and_false]
theorem Nk{p}(a:pvB p=η)(c:p.sources.all tR=A)(b:p.trace.all td=A):B6 p=A:=by rw[B6,a,c,b];rfl
theorem ji(p:GPriv)(H:aF)(e_:tg p):RC 117 [av (yF p)] (bv (B6 p)) H:=by
 refine aU.pure ?_ F_ H;have i_:=λH=>UV p.sl H e_.2.2.2.2;have ⟨r,y,⟨q3,B⟩,q4,_⟩:=e_;have J:C (p.sources.map S_)=C p.sources:=g_ _;have W:C (p.trace.map kS)=C p.trace:=g_ _;have K:=λh=>Nn (p:=p) h;have G:=λh=>Nm (p:=p) h;have F:=λh=>Nl (p:=p) h;have E:=λP Q R=>Nk (p:=p) P Q R;have ⟨f,u⟩:∃f,f=lN p.sl:=X_;have c:pvB p=((((θ (200<(T p.name:Int))||θ (200<(T p.reason:Int)))||θ (16<(C (p.sources.map S_):Int)))||θ (200<(C (p.trace.map kS):Int)))||!f):=by rw[pvB,<-u]
 rw[<-u]at i_;refine Bd func117 Z ntmps117<|U (kb 1)<|V aH<|S<|S<|aT (t:=32) (n:=32) (A_:=pvB p) ?_ ?_
 .all_goals refine Y (bC JT)<|Y (bT N_)<|Y (gQ U_)<|Y jB<|Dm ?_<;>(refine Sp 9 (λo_=>?_) λo_=>?_)<;>(first|exact s_|refine M<|M<|M<|M ?_|refine O (bC JS)<|O (bT N_)<|O (gQ U_)<|O jB ?_)<;>refine Y cE<|Dm ?_<;>(refine Sp 15 (λc_=>?_) λc_=>?_)<;>(first|exact s_|refine M<|M<|M<|M ?_|refine O (bC zI)<|O (bT aG)<|O (fP aE)<|O jB ?_)<;>refine Y cE<|Dm ?_<;>(refine Sp 21 (λH4=>?_) λH4=>?_)<;>(first|exact s_|refine M<|M<|M<|M ?_|refine O (bC uD)<|O (bT kN)<|O (fP gM)<|O jB ?_)<;>refine Y cE<|Dm ?_<;>(refine Sp 27 (λI=>?_) λI=>?_)<;>(first|exact s_|refine M<|M<|M<|M ?_|refine O (bC F7)<|O (xB iB sizeOf48)<|O (kc call116 (i_ _))<|O iJ ?_)<;>refine V cE ?_<;>(exact⟨⟨_,Z,G_⟩,Z,Z,Z⟩)
 refine Cn ?_ ?_<;>intro v
 .have z:=v;rw[K z];exact Sz aH<|aC<|Rt<|Qq
 have z:=v;refine aB<|S<|Sz aH<|aD<|bA (σ:=Nat) (λk=>([(1,.ref 1 0 0 0),(3,iv (k:Int))],[(1,bx 7 51 ((yF p).map .pv))])) (λk=>k<=C p.sources/\∀j,j<k->∀b,p.sources[j]?=N b->tR b=A) (λk=>C p.sources - k) 0 ⟨X,X⟩ ?_ ?_
 .exact E0
 rintro k ⟨L,e⟩;refine S<|U aA<|Y (bC zI)<|Y (bT aG)<|Y (fP aE)<|V cH<|Cn ?_ ?_<;>intro x
 .have m:k<C p.sources:=I_ x
  have ⟨s,i⟩:=aQ m;have w:=cA (f:=S_) i;have a:=B s (m7 i);have g:=λh=>fa (p:=tR) i h;refine aB<|S<|aD<|U (bC zI)<|Y (bT aG)<|Y aA<|Y (kx aY w)<|Y (fK N_ (hi:=w))<|Y (gQ U_)<|V jB<|Cn ?_ ?_<;>intro o
  .have d:tR s=η:=by rw[tR,LY,o];rfl
   rw[G (g d)];exact Sz aH<|aC<|Rt<|Qq
  have d:tR s=A:=by rw[tR,LY,o];rfl
  refine aB<|Rd aA<|Y kp<|Da ?_;exact⟨k+1,⟨X,M8 e i d⟩,X,E0⟩
 have l:k=C p.sources:=J_ x
 subst l;have D:=VS e;refine aP<|S<|Sz aH<|aD<|bA (σ:=Nat) (λk=>([(1,.ref 1 0 0 0),(4,iv (k:Int))],[(1,bx 7 51 ((yF p).map .pv))])) (λk=>k<=C p.trace/\∀j,j<k->∀b,p.trace[j]?=N b->td b=A) (λk=>C p.trace - k) 0 ⟨X,X⟩ ?_ ?_
 .exact E0
 clear e L;rintro k ⟨L,e⟩;refine S<|U aA<|Y (bC uD)<|Y (bT kN)<|Y (fP gM)<|V cH<|Cn ?_ ?_<;>intro n
 .have m:k<C p.trace:=I_ n
  have ⟨q,i⟩:=aQ m;have w:=cA (f:=kS) i;have I:=λH=>Mu q.1 q.2 H;have g:=λh=>fa (p:=td) i h;refine aB<|S<|aD<|U (bC uD)<|Y (bT kN)<|Y aA<|Y (kx WH w)<|Y (by exact fG Z eM sizeOf104 Z w u0 Z)<|Y (kc call170 (I _))<|V iJ ?_;refine Cn ?_ ?_<;>intro t
  .have d:=not_not t;rw[F (g d)];exact Sz aH<|aC<|Rt<|Qq
  have d:=pG t;refine aB<|Rd aA<|Y kp<|Da ?_;exact⟨k+1,⟨X,M8 e i d⟩,X,E0⟩
 have l:k=C p.trace:=J_ n
 subst l;rw[E z D (VS e)];exact aP<|Sz aH<|aC<|Rt<|Qq
def o0G(r:j_):Bool:=θ (r.kind=1)||(θ (r.kind=3)&&θ (r.order=3))
def o1G(r:j_):Bool:=!o0G r&&θ (0<(C (r.edits.map bL):Int))
def o2G(r:j_):Bool:=o0G r&&!θ ((eH r.edits).2=0)
def o3a(r:j_):Bool:=θ (r.kind=2)||θ (r.kind=3)
def o3G(r:j_):Bool:=if o3a r=A then !m6 r.target else !θ (r.target=a6)
def o4G(r:j_):Bool:=(θ (r.kind=3)&&(θ (r.order<1)||θ (4<r.order)))||(!θ (r.kind=3)&&!θ (r.order=0))
def o5G(r:j_):Bool:=(θ (r.kind=4)&&(!cK r.from'||θ (r.from'=r.branch)))||(!θ (r.kind=4)&&!θ (r.from'=a6))
def o6G(r:j_):Bool:=θ (r.kind=2)||!r.yes
def ES(r:j_):Bool:=!o1G r&&(!o2G r&&(!o3G r&&(!o4G r&&(!o5G r&&o6G r))))
theorem Yb{r}(h:o1G r=A):ES r=η:=by rw[ES,h];rfl
theorem Ya{r}(h:o2G r=A):ES r=η:=by rw[ES];all_goals simp_all
theorem Xz{r}(h:o3G r=A):ES r=η:=by rw[ES];all_goals simp_all
theorem Xy{r}(h:o4G r=A):ES r=η:=by rw[ES];all_goals simp_all
theorem Xx{r}(h:o5G r=A):ES r=η:=by rw[ES];all_goals simp_all
theorem Xw{r}(e:o1G r=η)(d:o2G r=η)(b:o3G r=η)(c:o4G r=η)(a:o5G r=η):ES r=o6G r:=by rw[ES,e,d,b,c,a];rfl
theorem Yc(r:j_)(H:aF)(hr:mY r)(x:∀e∈r.edits,C e.refs<2^40):RC 115 [av (eC r)] (bv (ES r)) H:=by
 refine aU.pure ?_ F_ H;have ⟨_,⟨b1,b2,b3⟩,_,⟨e1,e2⟩,_⟩:=hr;have H4:=λH=>S8 r.edits H e1 e2 x;have o_:=λH=>yi r.target X H;have E:=λH=>lS r.from' H X
 have n:=λh=>Yb (r:=r) h;have d:=λh=>Ya (r:=r) h;have b:=λh=>Xz (r:=r) h;have f:=λh=>Xy (r:=r) h;have g:=λh=>Xx (r:=r) h;have R:=λv_ k J3 f_ A_=>Xw (r:=r) v_ k J3 f_ A_;have l:o0G r=(θ (r.kind=1)||(θ (r.kind=3)&&θ (r.order=3))):=rfl;have B:o1G r=(!o0G r&&θ (0<(C (r.edits.map bL):Int))):=rfl;have a:o2G r=(o0G r&&!θ ((eH r.edits).2=0)):=rfl;have p:o3a r=(θ (r.kind=2)||θ (r.kind=3)):=rfl;have J:o3G r=if o3a r=A then !m6 r.target else !θ (r.target=a6):=rfl
 have c:o4G r=((θ (r.kind=3)&&(θ (r.order<1)||θ (4<r.order)))||(!θ (r.kind=3)&&!θ (r.order=0))):=rfl;have ⟨nm,t⟩:∃nm,nm=cK r.from':=X_
 have s:o5G r=((θ (r.kind=4)&&(!nm||θ (r.from'=r.branch)))||(!θ (r.kind=4)&&!θ (r.from'=a6))):=by rw[o5G,<-t]
 rw[<-t]at E;have Q:o6G r=(θ (r.kind=2)||!r.yes):=rfl;generalize eH r.edits=te at H4 a;generalize m6 r.target=ij at o_ J;clear t;have ⟨o0,h0⟩:∃o,o=o0G r:=X_;have ⟨o1,v_⟩:∃o,o=o1G r:=X_;have ⟨W,k⟩:∃o,o=o2G r:=X_;have ⟨oa,ha⟩:∃o,o=o3a r:=X_;have ⟨F,J3⟩:∃o,o=o3G r:=X_;have ⟨o4,f_⟩:∃o,o=o4G r:=X_;have ⟨o5,A_⟩:∃o,o=o5G r:=X_;have ⟨o6,h6⟩:∃o,o=o6G r:=X_;rw[<-h0]at l B a;rw[<-v_]at B n R;rw[<-k]at a d R;rw[<-ha]at p J;rw[<-J3]at J b R;rw[<-f_]at c f R;rw[<-A_]at s g R;rw[<-h6]at Q R;clear h0 v_ k ha J3 f_ A_ h6;have ⟨ow,P⟩:∃o,o=ES r:=X_;rw[<-P]at n d b f g R |-;clear P;refine Bd func115 Z ntmps115<|U (kb 1)<|V aH<|S<|aT (t:=3) (n:=16) (A_:=o0) ?_ ?_
 .all_goals refine Y (bC pD)<|Y (bT M_)<|Y cI<|Dm ?_<;>(refine Sp 9 (λh9=>?_) λh9=>?_)<;>(first|exact s_|refine M<|M<|M<|M ?_|refine O (bC pD)<|O (bT M_)<|O cI<|O aA ?_)<;>(first|refine Sp 13 (λσ=>?_) λσ=>?_|refine lC (t:=13) Z ?_)<;>(first|exact s_|refine M ?_|refine Fu ?_|refine O (bC zH) ?_)<;>(first|refine M ?_|refine Fu ?_|refine O (bT M_) ?_)<;>(first|refine M ?_|refine Fu ?_|refine O cI ?_)<;>(first|refine M ?_|refine O cE ?_)<;>refine Y cE<|Da ?_<;>exact Gj (h:=by simp_all)
 refine S<|S<|aT (t:=26) (n:=9) (A_:=o1) ?_ ?_
 .all_goals refine Y aA<|Y iJ<|Dm ?_<;>(refine Sp 21 (λρ=>?_) λρ=>?_)<;>(first|exact s_|refine M<|M<|M<|M ?_|refine O (bC DZ)<|O (bT pO)<|O (fP fE)<|O jB ?_)<;>refine V cE ?_<;>exact Gj (h:=by simp_all)
 refine Cn ?_ ?_<;>intro I
 .rw[n I];exact Sz aH<|aC<|Rt<|Qq
 have k1:=I;refine aB<|eT (λ(_:Unit)=>([(1,.ref 1 0 0 0)],[(1,bx 21 53 ((eC r).map .pv))])) (λ_=>W=η) ?_ ?_
 .refine Sz aA<|Cn ?_ ?_<;>intro m
  .refine U (bC DZ)<|Y (bT pO)<|Y (kc call110 (H4 _))<|Y aA<|Y dK<|Y dK<|Y aH<|V aH<|U aA<|V xN<|Cn ?_ ?_<;>intro τ
   .have v:W=A:=by rw[a];simp_all
    rw[d v];exact Sz aH<|aC<|Rt<|Qq
   have v:W=η:=by rw[a];simp_all
   refine aB ?_;exact⟨(),v,E0⟩
  have v:W=η:=by rw[a,m];rfl
  refine aB ?_;exact⟨(),v,E0⟩
 rintro _ v;refine eT (λ(_:Unit)=>([(1,.ref 1 0 0 0)],[(1,bx 21 53 ((eC r).map .pv))])) (λ_=>F=η) ?_ ?_
 .refine S<|aT (t:=43) (n:=9) (A_:=oa) ?_ ?_
  .all_goals refine Y (bC pD)<|Y (bT M_)<|Y cI<|Dm ?_<;>(refine Sp 39 (λD=>?_) λD=>?_)<;>(first|exact s_|refine M<|M<|M ?_|refine O (bC pD)<|O (bT M_)<|O cI ?_)<;>refine V cE ?_<;>exact Gj (h:=by(rw[p,D];rfl))
  refine Cn ?_ ?_<;>intro z
  .have y_:=z;rw[y_]at J;refine U (bC DY)<|Y (bT N_)<|Y (kc call37 (o_ _))<|V iJ<|Cn ?_ ?_<;>intro c_
   .have i:F=A:=by rw[J,c_];rfl
    rw[b i];exact Sz aH<|aC<|Rt<|Qq
   have i:F=η:=by rw[J,c_];rfl
   refine aB ?_;exact⟨(),i,E0⟩
  have y_:=z;rw[y_]at J;refine U (bC DY)<|Y (bT N_)<|V FD<|Cn ?_ ?_<;>intro K
  .have i:F=A:=by rw[J,K];rfl
   rw[b i];exact Sz aH<|aC<|Rt<|Qq
  have i:F=η:=by rw[J,K];rfl
  refine aB ?_;exact⟨(),i,E0⟩
 rintro _ i;refine S<|S<|aT (t:=73) (n:=27) (A_:=o4) ?_ ?_
 .all_goals refine Y (bC pD)<|Y (bT M_)<|Y cI<|Dm ?_<;>(refine Sp 54 (λj=>?_) λj=>?_)<;>(first|exact s_|refine M<|M<|M<|M ?_|refine O (bC zH)<|O (bT M_)<|O cH<|O aA ?_)<;>(first|refine Sp 58 (λy=>?_) λy=>?_|refine lC (t:=58) Z ?_)<;>(first|exact s_|refine M ?_|refine Fu ?_|refine O (bC zH) ?_)<;>(first|refine M ?_|refine Fu ?_|refine O (bT M_) ?_)<;>(first|refine M ?_|refine Fu ?_|refine O jB ?_)<;>(first|refine M ?_|refine O cE ?_)<;>refine Y cE<|Dm ?_<;>(refine Sp 64 (λG=>?_) λG=>?_)<;>(first|exact s_|refine M<|M<|M<|M ?_|refine O (bC pD)<|O (bT M_)<|O xN<|O aA ?_)<;>(first|refine Sp 68 (λκ=>?_) λκ=>?_|refine lC (t:=68) Z ?_)<;>(first|exact s_|refine M ?_|refine Fu ?_|refine O (bC zH) ?_)<;>(first|refine M ?_|refine Fu ?_|refine O (bT M_) ?_)<;>(first|refine M ?_|refine Fu ?_|refine O xN ?_)<;>(first|refine M ?_|refine O cE ?_)<;>refine V cE ?_<;>exact Gj (h:=by first|(rw[c,j,y];rfl)|(rw[c,j,y,G];rfl)|(rw[c,j]at *;simp_all;done))
 refine Cn ?_ ?_<;>intro i_
 .rw[f i_];exact Sz aH<|aC<|Rt<|Qq
 have k4:=i_;refine aB<|S<|S<|aT (t:=99) (n:=30) (A_:=o5) ?_ ?_
 .all_goals refine Y (bC pD)<|Y (bT M_)<|Y cI<|Dm ?_<;>(refine Sp 77 (λw=>?_) λw=>?_)<;>(first|exact s_|refine M<|M<|M<|M<|M ?_|refine O (bC yD)<|O (bT N_)<|O (kc gG (E _))<|O iJ<|O aA ?_)<;>(first|refine Sp 82 (λu=>?_) λu=>?_|refine lC (t:=82) Z ?_)<;>(first|exact s_|refine M ?_|refine Fu ?_|refine O (bC yD) ?_)<;>(first|refine M ?_|refine Fu ?_|refine O (bT N_) ?_)<;>(first|refine M ?_|refine Fu ?_|refine O (bC D0) ?_)<;>(first|refine M ?_|refine Fu ?_|refine O (bT N_) ?_)<;>(first|refine M ?_|refine Fu ?_|refine O wV ?_)<;>(first|refine M ?_|refine O cE ?_)<;>refine Y cE<|Dm ?_<;>(refine Sp 90 (λd_=>?_) λd_=>?_)<;>(first|exact s_|refine M<|M<|M<|M ?_|refine O (bC pD)<|O (bT M_)<|O xN<|O aA ?_)<;>(first|refine Sp 94 (λz_=>?_) λz_=>?_|refine lC (t:=94) Z ?_)<;>(first|exact s_|refine M ?_|refine Fu ?_|refine O (bC yD) ?_)<;>(first|refine M ?_|refine Fu ?_|refine O (bT N_) ?_)<;>(first|refine M ?_|refine Fu ?_|refine O FD ?_)<;>(first|refine M ?_|refine O cE ?_)<;>refine V cE ?_<;>exact Gj (h:=by first|(rw[s,w,u];rfl)|(rw[s,w,u,d_];rfl)|(clear n d b f g R;simp_all;done))
 refine Cn ?_ ?_<;>intro L
 .rw[g L];exact Sz aH<|aC<|Rt<|Qq
 rw[R k1 v i k4 L];refine aB<|S<|aT (t:=2) (n:=10) (A_:=o6) ?_ ?_
 .all_goals refine Y (bC pD)<|Y (bT M_)<|Y cI<|Dm ?_<;>(refine Sp 103 (λq=>?_) λq=>?_)<;>(first|exact s_|refine M<|M<|M ?_|refine O (bC JR)<|O (bT nU)<|O iJ ?_)<;>refine Y cE<|Da ?_<;>exact Gj (h:=by(rw[Q,q];rfl))
 exact aC<|Rt<|Qq
end Go.Proofs.C
section
namespace Go.Proofs.C
open Go.Proofs.Tryz
open Go.Abs
theorem aC4(q):cy q=!td q:=by rw[Bool.eq_iff_iff];simp[cy,td,dw,Bool.or_eq_true,r9,Bool.and_eq_false_iff,q7];omega
theorem Bs{α:Type}{p q}(h:∀x,p x=!q x):∀(l:List α),l.any p=!l.all q
 | []=>rfl
 |x::l=>by grind
theorem aEC(r):xg r=!(B6 r.priv&&lN r.sl):=by
 rw[xg,B6,pvB,Bs aC4,Bs (q:=tR) (λx=>by rw[tR,Bool.not_not]) r.priv.sources];show (((((!r.priv.trace.all _||!(!(θ _||(θ _||false))))||_)||_)||_)||_||_)=_
 grind
def vAk(r:j_):Bool:=θ (1<=r.kind)&&θ (r.kind<=5)
def vA(r:j_):Bool:=(((((((((θ (r.kind<1)||θ (5<r.kind))||θ (r.author<0))||θ (59<r.author))||θ (r.number<1))||θ (128<r.number))||θ (r.clock<1))||θ (1000000<r.clock))||!cK r.branch)||θ (16<(C (r.parents.map S_):Int)))||!r.parents.all m6
theorem aEB(r):(!vA r&&tP r.parents)=(vAk r&&!pb r):=by
 have g:θ (r.kind<1)=!θ (1<=r.kind):=G_
 have c:θ (5<r.kind)=!θ (r.kind<=5):=G_
 have d:θ (r.author<0)=!θ (0<=r.author):=G_
 have f:θ (59<r.author)=!θ (r.author<=59):=G_
 have e:θ (r.number<1)=!θ (1<=r.number):=G_
 have a:θ (128<r.number)=!θ (r.number<=128):=G_
 have h:θ (r.clock<1)=!θ (1<=r.clock):=G_
 have b:θ (1000000<r.clock)=!θ (r.clock<=1000000):=G_
 rw[vA,vAk,pb,nB,nB,nB,UJ,g,c,d,f,e,a,h,b];simp[Bool.not_or,Bool.not_not,Bool.not_and,Bool.and_assoc]
theorem aD4:¬ (eH []).2=0:=E_
theorem aCY{r:j_}(i:vAk r=A):ES r=(((kO r.edits).2&&N7 r)&&v5G r):=by
 rw[vAk,l7,l6,l6]at i;have p:C (r.edits.map bL)=C r.edits:=g_ _;have n:(kO r.edits).2=(θ (C r.edits=0)||θ ((eH r.edits).2=0)):=by
  rw[kO]
  grind
 have k:θ (0<(C (r.edits.map bL):Int))=!θ (C r.edits=0):=by
  grind
 have s:C r.edits=0->θ ((eH r.edits).2=0)=η:=λh=>by
  rw[eq_nil_of_length_eq_zero h];rfl
 rw[v5G,n,ES,o1G,o2G,o3G,o4G,o5G,o6G,k];have ⟨l,m⟩:∃l,l=θ (C r.edits=0):=X_;have ⟨g,e⟩:∃g,g=θ ((eH r.edits).2=0):=X_;have a:l=A->g=η:=λh=>by simp_all
 rw[<-m,<-e];clear m e s k n p;have d:r.kind=1\/r.kind=2\/r.kind=3\/r.kind=4\/r.kind=5:=X
 have B:θ (r.target=a6)=θ (r.target=a6):=rfl;have ⟨y,D⟩:∃y,y=r.yes:=X_;have o:θ (r.order<1)=!θ (1<=r.order):=G_
 have j:θ (4<r.order)=!θ (r.order<=4):=G_
 rw[o0G,o3a,N7,fo,Uj,Iq,Jv,Uk,ndG,o,j,nB];clear o j i;rcases d with h|h|h|h|h
 .simp only[h];by_cases c1:r.target=a6<;>by_cases c2:r.order=0<;>by_cases c3:r.from'=a6<;>cases b:r.yes<;>cases l<;>cases g<;>simp[c1,c2,c3,b]at a |-
 .simp only[h];by_cases c2:r.order=0<;>by_cases c3:r.from'=a6<;>cases b:m6 r.target<;>cases l<;>cases g<;>simp[c2,c3,b]at a |-
 .simp only[h];by_cases c2:r.order=3
  .rw[c2];by_cases c3:r.from'=a6<;>cases b:m6 r.target<;>cases f:r.yes<;>cases l<;>cases g<;>simp[c3,b,f]at a |-
  cases c1:θ (1<=r.order)<;>cases q:θ (r.order<=4)<;>by_cases c3:r.from'=a6<;>cases b:m6 r.target<;>cases f:r.yes<;>cases l<;>cases g<;>simp[c1,c2,c3,b,f,q]at a |-
 .simp only[h];by_cases c1:r.target=a6<;>by_cases c2:r.order=0<;>by_cases c3:r.from'=r.branch<;>cases b:cK r.from'<;>cases f:r.yes<;>cases l<;>cases g<;>simp[c1,c2,c3,b,f]at a |-
 simp only[h];by_cases c1:r.target=a6<;>by_cases c2:r.order=0<;>by_cases c3:r.from'=a6<;>cases b:r.yes<;>cases l<;>cases g<;>simp[c1,c2,c3,b]at a |-
theorem aB9(r):(!vA r&&(tP r.parents&&((ES r&&lN r.sl)&&B6 r.priv)))=iG r:=by
 rw[<-Bool.and_assoc,aEB,iG,aEC];by_cases b:vAk r=A
 .rw[aCY b]
  grind
 have a:vAk r=η:=F_
 have f:N7 r=η:=by
  cases e:N7 r
  .rfl
  have ⟨c,d⟩:=CE e;rw[vAk,À c,À d]at a;cases a
 rw[a,f,Bool.false_and,Bool.false_and,Bool.and_false,Bool.false_and]
end Go.Proofs.C
end
namespace Go.Proofs.C
open Go.Proofs.Tryz
open Go.Abs Go.Lib
variable{l L:List B_}{s t:B_}{k p c n:Nat}{R:List UInt8}
theorem ik(r:j_)(H:aF)(R:mY r)(x:∀e∈r.edits,C e.refs<2^40):RC 69 [av (eC r)] (bv (iG r)) H:=by
 refine aU.pure ?_ F_ H;have j:C (r.parents.map S_)=C r.parents:=g_ _;have K:=λH=>Yc r H R x;have z:=λH=>ji r.priv H R.2.2.2.2.2;have q:=λH=>UV r.sl H R.2.2.2.2.1;have o:=λH=>lS r.branch H (by have:=R.2.1.1;omega);have p:=λH=>GA r.parents H R.2.2.1;have m:=R.2.2.1.1;have D:=aB9 r;have J3:vA r=((((((((((θ (r.kind<1)||θ (5<r.kind))||θ (r.author<0))||θ (59<r.author))||θ (r.number<1))||θ (128<r.number))||θ (r.clock<1))||θ (1000000<r.clock))||!cK r.branch)||θ (16<(C (r.parents.map S_):Int)))||!r.parents.all m6):=rfl;have ⟨a,y_⟩:∃a,a=vA r:=X_;have ⟨b,w⟩:∃a,a=ES r:=X_;have ⟨E,I⟩:∃a,a=lN r.sl:=X_;have ⟨B,L⟩:∃a,a=B6 r.priv:=X_;have ⟨nm,J⟩:∃a,a=cK r.branch:=X_;have ⟨dg,G⟩:∃a,a=r.parents.all m6:=X_;generalize iG r=v at D |-;rw[<-y_]at D J3;rw[<-w]at D K;rw[<-I]at D q;rw[<-L]at D z;rw[<-J]at J3 o;rw[<-G]at J3 p;clear y_ w I L J G;refine Bd func69 Z ntmps69<|U (kb 1)<|V aH<|S<|S<|aT (t:=59) (n:=66) (A_:=a) ?_ ?_
 .all_goals refine Y (bC pD)<|Y (bT M_)<|Y cH<|Dm ?_<;>(refine Sp 7 (λh7=>?_) λh7=>?_)<;>(first|exact s_|refine M<|M<|M ?_|refine O (bC pD)<|O (bT M_)<|O jB ?_)<;>refine Y cE<|Dm ?_<;>(refine Sp 12 (λD=>?_) λD=>?_)<;>(first|exact s_|refine M<|M<|M ?_|refine O (bC F6)<|O (bT M_)<|O cH ?_)<;>refine Y cE<|Dm ?_<;>(refine Sp 17 (λe_=>?_) λe_=>?_)<;>(first|exact s_|refine M<|M<|M ?_|refine O (bC F6)<|O (bT M_)<|O jB ?_)<;>refine Y cE<|Dm ?_<;>(refine Sp 22 (λK=>?_) λK=>?_)<;>(first|exact s_|refine M<|M<|M ?_|refine O (bC BE)<|O (bT M_)<|O cH ?_)<;>refine Y cE<|Dm ?_<;>(refine Sp 27 (λi_=>?_) λi_=>?_)<;>(first|exact s_|refine M<|M<|M ?_|refine O (bC BE)<|O (bT M_)<|O jB ?_)<;>refine Y cE<|Dm ?_<;>(refine Sp 32 (λI=>?_) λI=>?_)<;>(first|exact s_|refine M<|M<|M ?_|refine O (bC F5)<|O (bT M_)<|O cH ?_)<;>refine Y cE<|Dm ?_<;>(refine Sp 37 (λL=>?_) λL=>?_)<;>(first|exact s_|refine M<|M<|M ?_|refine O (bC F5)<|O (bT M_)<|O jB ?_)<;>refine Y cE<|Dm ?_<;>(refine Sp 42 (λo_=>?_) λo_=>?_)<;>(first|exact s_|refine M<|M<|M<|M ?_|refine O (bC D0)<|O (bT N_)<|O (kc gG (o _))<|O iJ ?_)<;>refine Y cE<|Dm ?_<;>(refine Sp 48 (λR=>?_) λR=>?_)<;>(first|exact s_|refine M<|M<|M<|M ?_|refine O (bC pC)<|O (bT aG)<|O (fP aE)<|O jB ?_)<;>refine Y cE<|Dm ?_<;>(refine Sp 54 (λf_=>?_) λf_=>?_)<;>(first|exact s_|refine M<|M<|M<|M ?_|refine O (bC pC)<|O (bT aG)<|O (kc call114 (p _))<|O iJ ?_)<;>refine V cE ?_<;>(exact⟨⟨_,Z,G_⟩,Z,Z,Z⟩)
 refine Cn ?_ ?_<;>intro y
 .have W:=y;rw[W]at D;rw[<-D];exact Sz aH<|aC<|Rt<|Qq
 have W:=y;rw[W]at D;have D:(tP r.parents&&((b&&E)&&B))=v:=D;refine aB<|S<|Sz aH<|aD<|bA (σ:=Nat) (λk=>([(1,.ref 1 0 0 0),(3,iv ((k:Int)+1))],[(1,bx 21 53 ((eC r).map .pv))])) (λk=>k<=C r.parents/\tP r.parents=tP (r.parents.drop k)) (λk=>C r.parents - k) 0 ⟨X,Z⟩ ?_ ?_
 .exact E0
 rintro k ⟨hk,hst⟩;refine S<|U aA<|Y (bC pC)<|Y (bT aG)<|Y (fP aE)<|V cH<|Cn ?_ ?_<;>intro c
 .have P:k+1<C r.parents:=I_ c
  have ⟨s,d⟩:=aQ (l:=r.parents) (k:=k) X;have ⟨t,g⟩:=aQ P;have hi:=cA (f:=S_) d;have u:=cA (f:=S_) g;have F:=Ct d g;have Q:ξ.wrap ((k:Int)+1 - 1)=(k:Int):=by rw[mI X X];omega
  refine aB<|S<|aD<|S<|aN a7<|Cq (bC pC)<|Cq (bT aG)<|Cq aA<|Cq (dT Z Z Z Q)<|Cq (bQ Z aY Z Z X y7 hi Z)<|Cq (fK N_ (hi:=hi))<|Cq (bC pC)<|Cq (bT aG)<|Cq aA<|Cq (bQ Z aY Z Z X y7 u Z)<|Cq (fK N_ (hi:=u))<|Cq (K9 Z Z Z)<|bF<|Kr<|Cn ?_ ?_<;>intro n
  .have A_:=not_not n;rw[hst,F,A_]at D;rw[<-D];exact Sz aH<|aC<|Rt<|Qq
  have A_:=pG n;refine aB<|Rd aA<|Y (by exact dD Z Z Z (show ξ.wrap ((k:Int)+1+1)=((k+1:Nat):Int)+1 by rw[mI X X];omega))<|Da ?_;exact⟨k+1,⟨X,F_⟩,X,E0⟩
 have i:C r.parents<=k+1:=J_ c
 rw[hst,Z9 v6]at D;have D:((b&&E)&&B)=v:=D;rw[<-D];refine aP<|S<|aT (t:=2) (n:=15) (A_:=(b&&E)&&B) ?_ ?_
 .all_goals refine Y (xB cP bJ)<|Y (kc call115 (K _))<|Dm ?_<;>(refine Sp 81 (λG=>?_) λG=>?_)<;>(first|exact s_|refine M<|M<|M ?_|refine O (bC AW)<|O (xB iB sizeOf48)<|O (kc call116 (q _)) ?_)<;>refine Y cE<|Dm ?_<;>(refine Sp 86 (λc_=>?_) λc_=>?_)<;>(first|exact s_|refine M<|M<|M ?_|refine O (bC iN)<|O (xB isAgg51 sizeOf51)<|O (kc call117 (z _)) ?_)<;>refine Y cE<|Da ?_<;>exact Gj (h:=by(simp_all;done))
 exact aC<|Rt<|Qq
theorem aEX(r:j_)(H:aF)(j:mY r)(b:∀e∈r.edits,C e.refs<2^40):RC 26 [av (eC r)] (sv (JL r)) H:=by
 refine aU.pure ?_ F_ H;have i:=λH=>ik r H j b;refine Bd func26 Z ntmps26<|U (tW (id:=1) Z Z Z Z Z)<|V aH<|S<|U (aW Z cP bJ Z Z Z Z (Z) Z)<|Y (bH Z Z call69 Z (i _))<|V iJ<|Cn ?_ ?_<;>intro c
 .have d:=not_not c;rw[JL,d];exact Sz aH<|aC<|Rt<|Qq
 have d:=pG c;have h:=tJ d;have g:=λH=>Ra r j h b H;have f:=λH=>yh (wA r) (Nat.le_trans (KW h) E_) (KX h) H;rw[JL,b6 d];exact aB<|U (aW Z cP bJ Z Z Z Z (Z) Z)<|Y (bH Z Z call70 Z (g _))<|Y (kc call52 (f _))<|V aH<|aC<|Rt<|Qq
def pt2(q:Int×Int):List B_:=[aV q.1,aV q.2]
def ra(p:GPriv):List B_:=[p.name,p.reason,aV (C p.sources:Int)]
def HS(p:GPriv)(k:Nat):List B_:=((ra p++p.sources)++[aV (C p.trace:Int)])++(p.trace.take k).flatMap pt2
theorem Wq(p):HS p (C p.trace)=zY (WL p):=by rw[HS];simp[WL,zY,fI,ra];rfl
theorem Du{p}{k}{q}(h:p.trace[k]?=N q):HS p (k+1)=HS p k++pt2 q:=by simp[HS,eA h,É]
theorem Ma(r:j_)(I:mY r)(o:VF r)(H:aF):RC 112 [av (yF r.priv)] (.pv (aK (zY (WL r.priv)))) H:=by
 refine aU.pure ?_ F_ H;have j:=o.tr;have B:=o.sol;have E:=o.trl;generalize r.priv=p at j B E |-;clear o I;have g:C (p.sources.map S_)=C p.sources:=g_ _;have t:C (p.trace.map kS)=C p.trace:=g_ _;have u:∀H,RC 84 [iv (C (p.sources.map S_):Int)] (sv (aV (C p.sources:Int))) H:=λH=>by
  rw[g];exact CO (C p.sources:Int) X X H
 have P:∀H,RC 84 [iv (C (p.trace.map kS):Int)] (sv (aV (C p.trace:Int))) H:=λH=>by
  rw[t];exact CO (C p.trace:Int) X X H
 have v:C (bP (ra p++p.sources))=3+C p.sources:=by rw[bP,g_,j7];rfl
 have n:∀k,k<=C p.trace->C (HS p k)=4+C p.sources+2*k:=λk i=>by
  have:C ((p.trace.take k).flatMap pt2)=2*k:=by
   have G:∀l:List (Int×Int),C (l.flatMap pt2)=2*C l:=λl=>by
    induction l with
    |nil=>rfl
    |cons q l K=>rw[Ñ,j7,K,j6];show 2+_=_;omega
   rw[G,n_];omega
  rw[HS,j7,j7,j7,this];show 3+_+1+_=_;omega
 have F:∀k,k<=C p.trace->C (bP (HS p k))=4+C p.sources+2*k:=λk i=>by rw[bP,g_,n k i]
 have R:bP (ra p++p.sources)++([aV (C p.trace:Int)].map S_).map (·.map AV.pv)=bP (HS p 0):=by rw[eO,HS,Í,Ê,Ä]
 refine Bd func112 Z ntmps112<|U (kb 1)<|V aH<|S<|aN a7<|Cr [1] (λ_ h=>fh JT h)<|Cr [1] (λ_ h=>lh N_ h)<|Cr [1] (λ_ h=>fh JS h)<|Cr [1] (λ_ h=>lh N_ h)<|Cr [1] (λ_ h=>fh zI h)<|Cr [1] (λ_ h=>lh aG h)<|Cr [] (λ_ _=>(fP aE))<|Cr [] (λe d=>by exact bH Z Z gZ Z (u _))<|Cp [971] (λe d=>by exact eR (id:=971) Z aY Z Z Z Z F_ ((d _ Z).trans Z))<|Cr [971] (λ_ _=>aH)<|bF<|Kr<|U aA<|Y (bC zI)<|Y (bT aG)<|Y (by exact bU (ob:=⟨0,1,9,bP (ra p)⟩) (k:=3+p.sources.length) (ps:=p.sources.map S_) Z aY sX Z Z Z Z Z Z Z (dV _) (m:=p.sources.length) g X Z (rows':=bP (ra p++p.sources)) (by exact eO _ _)) ?_;refine V aH<|U aA<|Y (bC uD)<|Y (bT kN)<|Y (fP gM)<|Y (kc gZ (P _))<|Y (by exact aM ([aV (p.trace.length:Int)].map S_) Z aY Z Z Z Z Z (dV _))<|Y (by exact bU (ob:=⟨1,1,9,bP (ra p++p.sources)⟩) (k:=4+p.sources.length+2*0) (ps:=[aV (p.trace.length:Int)].map S_) Z aY sX Z Z Z Z Z v Z (dV _) (m:=1) Z X X (rows':=bP (HS p 0)) X)<|V aH<|S<|Sz aH<|aD<|bA (σ:=Nat) (λk=>([(1,.ref 1 0 0 0),(3,.osl 971 (2+k) 0 (4+p.sources.length+2*k)),(4,iv (k:Int))],[(1,bx 7 51 ((yF p).map .pv)),(971,⟨2+k,1,9,bP (HS p k)⟩)])) (λk=>k<=p.trace.length) (λk=>p.trace.length - k) 0 X ?_ ?_
 .exact L_
 intro k i;have m:=F k i;refine S<|U aA<|Y (bC uD)<|Y (bT kN)<|Y (fP gM)<|V cH<|Cn ?_ ?_<;>intro f
 .have y:k<C p.trace:=I_ f
  have ⟨q,z⟩:=aQ y;have Q:=j q (m7 z);have s:=cA (f:=kS) z;have L:=λH=>CO q.1 X X H;have J:=λH=>CO q.2 X X H;refine aB<|S<|aD<|aN a7<|Cr [971] (λ_ _=>aA)<|Cr [1] (λ_ h=>fh uD h)<|Cr [1] (λ_ h=>lh kN h)<|x_ aA<|x_ (by exact bQ Z WH Z Z X y7 s Z)<|x_ ((F2 nF))<|x_ ((fK M_ (hi:=s)))<|x_ (by exact bH Z Z gZ Z (L _))<|Cr [1] (λ_ h=>fh uD h)<|Cr [1] (λ_ h=>lh kN h)<|x_ aA<|x_ (by exact bQ Z WH Z Z X y7 s Z)<|x_ ((F2 nE))<|x_ ((fK M_ (hi:=s)))<|x_ (by exact bH Z Z gZ Z (J _))<|x_ (by exact aM ((pt2 q).map S_) Z aY Z Z Z Z Z (dV _))<|Cp [971] (λe d=>by exact bU (ob:=⟨2+k,1,9,bP (HS p k)⟩) (k:=4+C p.sources+2*(k+1)) (ps:=(pt2 q).map S_) Z aY sX Z ((d _ Z).trans Z) Z Z Z m Z (dV _) (m:=2) Z X X (rows':=bP (HS p (k+1))) (by rw[eO,Du z])) ?_;refine Cr [971] (λ_ _=>aH)<|bF<|Kr<|Rd aA<|Y kp<|Da ?_;exact⟨k+1,X,X,L_⟩
 have D:k=C p.trace:=J_ f
 subst D;have w:=n (C p.trace) i;refine aP<|U aA<|V aH<|aC ?_;refine cR (H':=[]) (.inr Z) Z (aI Z) (Fin.fz (id:=971) (ob:=⟨2+C p.trace,1,9,bP (HS p (C p.trace))⟩) ((HS p (C p.trace)).map S_) Z (cX _) (.osl (C5 S_ _ w)) Z T_ T_) ?_;exact⟨by rw[<-Wq];rfl,Z⟩
theorem Gh(r)(b:mY r)(c:VF r)(a:∀e∈r.edits,C e.refs<2^40){H}(B:H.get 971=ζ):aU φ 70 [av (eC r)] H (λx H'=>x=.osl 971 2 0 (C (wA r))/\H'=(971,⟨2,1,9,bP (wA r)⟩)::H) :=aU.frame (ZA r b c a) (λ_ _ h=>by cases h) (λ_ _ h=>by cases h) H_ (λid h=>.inr (by
  by_cases e:971=id
  .simp_all
  simp[aF.get,jX e]at h))
theorem rj(L)(f:C L<=100000)(g:∀s∈L,T s<=100000000)(H)(id)(ob)(n)(j:H.get id=N ob)(d:Nat.blt 0 ob.sz=A)(b:ob.rows=bP L)(h:n=C L):aU φ 85 [.osl id ob.g 0 n] H (λr H'=>r=sv (a_ (aO L))/\H'=(id,HW ob)::H):=by
 subst h;refine aU.retire _ (GW L f g _) j d (by rw[b];exact cX _) Z ?_;intro i a B e c
 match i with
 |0 =>
  cases e;cases c;refine .inr ⟨0,C L,Z,?_⟩;rw[fV];rfl
 |n+1=>cases e
def Dl(s:p_):List B_:=[aV s.idx,aV (C s.sig:Int)]
def Le(s:p_):List B_:=[aV (C s.path:Int)]
theorem SZ(s:p_)(i:FSeal s)(H:aF):RC 111 [av (lW s)] (.pv (aK (fI (.z s.idx s.sig s.path)))) H:=by
 refine aU.pure ?_ F_ H;have q:=i.i0;have B:=i.i1;have l1:=i.sl;have l2:=i.pl;have e:C (s.sig.map S_)=C s.sig:=g_ _;have f:C (s.path.map S_)=C s.path:=g_ _;have l:=λH=>CO s.idx q X H;have m:∀H,RC 84 [iv (C (s.sig.map S_):Int)] (sv (aV (C s.sig:Int))) H:=λH=>by
  rw[e];exact CO (C s.sig:Int) X X H
 have n:∀H,RC 84 [iv (C (s.path.map S_):Int)] (sv (aV (C s.path:Int))) H:=λH=>by
  rw[f];exact CO (C s.path:Int) X X H
 have c:fI (.z s.idx s.sig s.path)=((Dl s++s.sig)++Le s)++s.path:=by simp[fI,Dl,Le]
 rw[c];have g:C (Dl s++s.sig)=2+C s.sig:=by rw[j7];rfl
 have j:C ((Dl s++s.sig)++Le s)=2+C s.sig+1:=by rw[j7,g];rfl
 have o:C (((Dl s++s.sig)++Le s)++s.path)=2+C s.sig+1+C s.path:=G_
 refine Bd func111 Z ntmps111<|U (kb 1)<|V aH<|S<|aN a7<|Cr [1] (λ_ h=>fh D1 h)<|Cr [1] (λ_ h=>lh M_ h)<|Cr [] (λp k=>by exact bH Z Z gZ Z (l _))<|Cr [1] (λ_ h=>fh xG h)<|Cr [1] (λ_ h=>lh aG h)<|Cr [] (λ_ _=>(fP aE))<|Cr [] (λp k=>by exact bH Z Z gZ Z (m _))<|Cp [971] (λp k=>by exact eR (id:=971) Z aY Z Z Z Z F_ ((k _ Z).trans Z))<|Cr [971] (λ_ _=>aH)<|bF<|Kr<|U aA<|Y (bC xG)<|Y (bT aG)<|Y (by exact bU (ob:=⟨0,1,9,bP (Dl s)⟩) (k:=2+s.sig.length) (ps:=s.sig.map S_) Z aY sX Z Z Z Z Z Z Z (dV _) (m:=s.sig.length) e X Z (rows':=bP (Dl s++s.sig)) (by exact eO _ _)) ?_;refine V aH<|U aA<|Y (bC xF)<|Y (bT aG)<|Y (fP aE)<|Y (kc gZ (n _))<|Y (by exact aM ((Le s).map S_) Z aY Z Z Z Z Z (dV _))<|Y (by exact bU (ob:=⟨1,1,9,bP (Dl s++s.sig)⟩) (k:=2+s.sig.length+1) (ps:=(Le s).map S_) Z aY sX Z Z Z Z Z ((dB _).trans g) Z (dV _) (m:=1) Z X Z (rows':=bP ((Dl s++s.sig)++Le s)) (by exact eO _ _))<|V aH<|U aA<|Y (bC xF)<|Y (bT aG)<|Y (by exact bU (ob:=⟨2,1,9,bP ((Dl s++s.sig)++Le s)⟩) (k:=2+s.sig.length+1+s.path.length) (ps:=s.path.map S_) Z aY sX Z Z Z Z Z ((dB _).trans j) Z (dV _) (m:=s.path.length) f X Z (rows':=bP (((Dl s++s.sig)++Le s)++s.path)) (by exact eO _ _))<|V aH<|aC ?_;refine cR (H':=[]) (.inr Z) Z (aI Z) (Fin.fz (id:=971) (ob:=⟨3,1,9,bP (((Dl s++s.sig)++Le s)++s.path)⟩) ((((Dl s++s.sig)++Le s)++s.path).map S_) Z (cX _) (.osl (C5 S_ _ o)) Z T_ T_) ?_;exact Qq
theorem Wv(r:j_)(y:mY r)(t:∀e∈r.edits,C e.refs<2^40)(H:aF):RC 68 [av (eC r)] (.tup [sv (mX r).1,iv (mX r).2]) H:=by
 refine aU.pure ?_ F_ H;have L:=λH=>ik r H y t;rw[mX];refine Bd func68 Z ntmps68<|U (kb 1)<|Y aH<|V aH<|S<|U (by exact aW Z cP bJ Z Z Z Z u0 Z)<|Y (kc call69 (L _))<|V iJ ?_;refine Cn ?_ ?_<;>intro p
 .have G:=not_not p;rw[a8 F_];exact U aH<|V aH<|aC<|Ru<|Qq
 have G:=pG p;have f:=tJ G;have o:jY r=((wA r++fI (.z r.sl.idx r.sl.sig r.sl.path))++zY (WL r.priv))++fI (.z r.priv.sl.idx r.priv.sl.sig r.priv.sl.path):=by rw[jY,qz,È,È]
 have i:∀x∈jY r,le2 x:=λx a=>(mem_append.1 a).elim (KX f x) (aq f x);have v:=KW f;have τ:=an f;have c:C (jY r)<=506:=by rw[jY,j7];omega
 have k:=yZ i c;have m:=λ(H:aF) w=>Gh r y f t (H:=H) w;have n:=λH=>SZ r.sl (lM f.sl) H;have l:=λH=>SZ r.priv.sl (lM f.psl) H;have q:=λH=>Ma r y f H;have d:=λH=>rj (jY r) X (λs I=>Nat.le_trans (i s I) E_) H 971 ⟨5,1,9,bP (jY r)⟩ (C (jY r));rw[b6 G];rw[o]at d c k |-;have ⟨J,R⟩:∃J,J=wA r:=X_;have ⟨B,W⟩:∃B,B=fI (.z r.sl.idx r.sl.sig r.sl.path):=X_;have ⟨P,F⟩:∃P,P=zY (WL r.priv):=X_;have ⟨D,E⟩:∃D,D=fI (.z r.priv.sl.idx r.priv.sl.sig r.priv.sl.path):=X_;rw[<-R,<-W,<-F,<-E]at d c k |-;simp only[<-R]at m;rw[<-W]at n;rw[<-F]at q;rw[<-E]at l;have q1:C (J++B)<=506:=by have:=c;simp only[j7]at this |-;omega
 have K:C ((J++B)++P)<=506:=by have:=c;simp only[j7]at this |-;omega
 have z:=d;generalize aO (((J++B)++P)++D)=Q at d k |-;have b:T (a_ Q)=C Q:=cB _;clear z R W F E o i;refine aB<|S<|aN a7<|Cr [1] (λv g=>by exact aW Z cP bJ Z ((g _ Z).trans Z) Z Z u0 Z)<|Cp [971] (λv g=>by exact bH Z Z call70 Z ((m _ ((g _ Z).trans Z))))<|Cr [1] (λ_ h=>fh AW h)<|Cr [1] (λv g=>by exact aW Z iB sizeOf48 Z ((g _ Z).trans Z) Z Z Z Z)<|x_ (by exact bH Z Z call111 Z (n _))<|Cp [971] (λv g=>by exact bU (ob:=⟨2,1,9,bP J⟩) (k:=C (J++B)) (ps:=B.map S_) Z aY sX Z ((g _ Z).trans Z) Z Z Z (dB _) Z (dV _) (m:=C B) (g_ _) G_ F_ (rows':=bP (J++B)) (eO _ _))<|x_ aH<|bF<|Kr<|S ?_;refine Rd aA<|Y (bC iN)<|Y (xB isAgg51 sizeOf51)<|Y (kc call112 (q _))<|Y (by exact bU (ob:=⟨3,1,9,bP (J++B)⟩) (k:=C ((J++B)++P)) (ps:=P.map S_) Z aY sX Z Z Z Z Z (dB _) Z (dV _) (m:=C P) (g_ _) (by rw[j7]at K;omega) j7.symm (rows':=bP ((J++B)++P)) (eO _ _))<|V aH<|U aA<|Y (bC iN)<|Y (bC F7)<|Y (xB iB sizeOf48)<|Y (kc call111 (l _))<|Y (by exact bU (ob:=⟨4,1,9,bP ((J++B)++P)⟩) (k:=C (((J++B)++P)++D)) (ps:=D.map S_) Z aY sX Z Z Z Z Z (dB _) Z (dV _) (m:=C D) (g_ _) (by rw[j7]at c;omega) j7.symm (rows':=bP (((J++B)++P)++D)) (eO _ _)) ?_;refine V aH<|U aA<|Y (kc call85 (d _ Z Z Z Z))<|V aH<|S<|U aA<|Y (gQ U_)<|V jB<|Cn ?_ ?_<;>intro u
 .have j:20000<C Q:=I_ u
  rw[b6 j];exact U aH<|V aH<|aC<|Ru<|Qq
 have j:¬ 20000<C Q:=J_ u
 rw[a8 j];exact aB<|U aA<|Y aH<|V aH<|aC<|Ru<|Qq
theorem iu(t)(H)(c:T t<1000000000):RC 67 [sv t] (.tup [.pv (kU (iM t).1),iv (iM t).2]) H:=by
 have h:=Ei (λx a=>Mz (λy B=>Mt X) a) (λx H a=>My (λx H a=>rn x H a) x H a) t H c
 rwa [Qu (λe f b=>S5 (λo d=>by rw[je d]) f b)]at h
theorem K3(t):∀e∈(iM t).1,C e.refs<2^40:=by
 rw[<-Qu (rE:=yy λs=>(Xe s).1) (λe c b=>S5 (λo a=>by rw[je a]) c b) t,gPr]
 split
 .simp_all
 next h =>
 split
 .exact QS (λx B=>(Mz (λy D=>Mt X) X).2) _
 simp_all
theorem aBi:∀(n:Nat) (l:List UInt8) (L:List B_),C l<=n->PX l=N L->2*C L<=C l/\∀s∈L,T s<=C l:=by
 intro n
 induction n with
 |zero =>
  intro l L g h;rw[PX]at h
  simp_all
 | succ n d =>
  intro l L g h;rw[PX]at h
  split at h
  .simp_all
  next E =>
  split at h
  .cases h
  next b =>
  have F:PY l≠0:=λe=>b (.inl e);have D:l[PY l]?=N 58:=Classical.byContradiction λe=>b (.inr (.inl e));cases e:PX _ with
  |none=>rw[e]at h;cases h
  |some B =>
   rw[e]at h;cases h;have ⟨f,c⟩:=d _ B G_ e;rw[q6]at f c;refine⟨G_,λs a=>?_⟩;rcases l9.1 a with rfl|a
   .rw[cB,n_,q6];omega
   have:=c s a;omega
def TA:Nat->RS->List (Int×Int)×RS
 |0,q=>([],q)
 |k+1,q=>if q.2=A then([],q)else(((rU q).1,(rU (rU q).2).1)::(TA k (rU (rU q).2).2).1,(TA k (rU (rU q).2).2).2)
def Um(q:RS):List (Int×Int)×RS:=TA (rU q).1.toNat (rU q).2
def Ui(L:List B_):=rN (L,η)
def z1r(L:List B_):=rU (Ui L).2
def z2r(L:List B_):=rU (z1r L).2
def z3r(L:List B_):=rU (z2r L).2
def z4r(L:List B_):=rU (z3r L).2
def z5r(L:List B_):=rN (z4r L).2
def Va(L:List B_):=rL (z5r L).2
def Uh(L:List B_):=rN (Va L).2
def z8r(L:List B_):=rN (Uh L).2
def z9r(L:List B_):=rN (z8r L).2
def gf(L:List B_):=rU (z9r L).2
def gd(L:List B_):=rN (gf L).2
def PO(L:List B_):=rZ (gd L).2
def gb(L:List B_):=rN (PO L).2
def ga(L:List B_):=rN (gb L).2
def Z1(L:List B_):=rL (ga L).2
def Z0(L:List B_):=Um (Z1 L).2
def J8(L:List B_):=rZ (Z0 L).2
def IA(L:List B_):j_:=⟨(z1r L).1,(z2r L).1,(z3r L).1,(z4r L).1,(z5r L).1,(Va L).1,(iM (Uh L).1).1,(z8r L).1,θ ((z9r L).1=CA),(gf L).1,(gd L).1,(PO L).1,⟨(gb L).1,(ga L).1,(Z1 L).1,(Z0 L).1,(J8 L).1⟩⟩
def vw(t:List UInt8)(L:List B_):Prop:=(J8 L).2.2=A\/(Ui L).1≠HT\/mX (IA L)≠(a_ t,0)
instance (t:List UInt8) (L:List B_):Decidable (vw t L):=inferInstanceAs (Decidable (_\/_\/_))
def uC(t:List UInt8):j_×Int:=if 20000<C t then(zR,2)else match PX t with
 |none=>(zR,5)
 |some L=>if vw t L then(zR,5)else(IA L,0)
def jP(q:RS):Prop:=C q.1<=10000/\∀s∈q.1,T s<=20000
theorem NW{L}{b c}(h:jP (L,b))(k):jP (L.drop k,c):=⟨by have:=h.1;grind,λs a=>h.2 s (Ë a)⟩
theorem xL{q}(h:jP q):T (rN q).1<=20000/\jP (rN q).2:=by
 have ⟨L,b⟩:=q;refine⟨?_,NW h 1⟩;cases L with
 |nil=>exact k_ _
 |cons s L=>exact h.2 s Ô
theorem Ym(s):qY ((yY s).getD 0):=by
 rw[yY]
 split
 .exact⟨H_,H_⟩
 next B =>
 split
 .have:=NZ (l:=ν (μ s)) F_;show qY (W1 _);exact⟨X,X⟩
 exact⟨H_,H_⟩
theorem uR{q}(h:jP q):qY (rU q).1/\jP (rU q).2:=⟨Ym _,NW h 1⟩
theorem X5{q}(h:jP q):(C (rL q).1<=20000/\∀x∈(rL q).1,T x<=20000)/\jP (rL q).2:=by
 have d:=(uR h).2;have ⟨c,a⟩:=d;rw[rL]
 split
 .exact⟨⟨k_ _,λx b=>by cases b⟩,c,a⟩
 refine⟨⟨?_,λx b=>a x (Ç b)⟩,NW ⟨c,a⟩ _⟩
 grind
theorem yl{q}(h:jP q):(qY (rZ q).1.idx/\(C (rZ q).1.sig<=20000/\∀x∈(rZ q).1.sig,T x<=20000)/\(C (rZ q).1.path<=20000/\∀x∈(rZ q).1.path,T x<=20000))/\jP (rZ q).2:=by have e:=uR h;have d:=X5 e.2;have c:=X5 d.2;exact⟨⟨e.1,d.1,c.1⟩,c.2⟩
theorem Mm{q}(h:C q.1=0\/q.2=A):(rU q).2.2=A:=by
 rw[rU,rN]
 grind
theorem Mo:∀(k) (q),jP q->(C (TA k q).1<=C q.1+1/\∀p∈(TA k q).1,qY p.1/\qY p.2)/\jP (TA k q).2
 |0,q,h=>⟨⟨k_ _,λp b=>by cases b⟩,h⟩
 | k + 1, q, h => by
  rw[TA]
  split
  .simp_all
  next E =>
  have f:=uR h;have g:=uR f.2;have d:=Mo k _ g.2;refine⟨⟨?_,λp b=>?_⟩,d.2⟩
  .rw[j6];by_cases e:C q.1=0
   .have c:TA k (rU (rU q).2).2=([],(rU (rU q).2).2):=by
     cases k with
     |zero=>rfl
     |succ k=>rw[TA,b6 (Mm (.inr (Mm (.inl e))))]
    rw[c];exact le_add_left _ _
   have B:C (rU q).2.1=C q.1 - 1:=q6;have D:C (rU _).2.1=C (rU q).2.1 - 1:=q6;omega
  grind
theorem Mp{q}(h:jP q):(C (Um q).1<=20000/\∀p∈(Um q).1,qY p.1/\qY p.2)/\jP (Um q).2:=by have a:=uR h;have b:=Mo (rU q).1.toNat _ a.2;have B:=a.2.1;exact⟨⟨by rw[Um];omega,b.1.2⟩,b.2⟩
theorem aB0{L}(h:jP (L,η)):T ((Ui L).1)<=20000/\jP (Ui L).2:=xL h
theorem Jn{L}(h:jP (L,η)):qY (z1r L).1/\jP (z1r L).2:=uR (aB0 h).2
theorem Jm{L}(h:jP (L,η)):qY (z2r L).1/\jP (z2r L).2:=uR (Jn h).2
theorem Jl{L}(h:jP (L,η)):qY (z3r L).1/\jP (z3r L).2:=uR (Jm h).2
theorem Jk{L}(h:jP (L,η)):qY (z4r L).1/\jP (z4r L).2:=uR (Jl h).2
theorem Jj{L}(h:jP (L,η)):T ((z5r L).1)<=20000/\jP (z5r L).2:=xL (Jk h).2
theorem Ji{L}(h:jP (L,η)):(C (Va L).1<=20000/\∀x∈(Va L).1,T x<=20000)/\jP (Va L).2:=X5 (Jj h).2
theorem Jh{L}(h:jP (L,η)):T ((Uh L).1)<=20000/\jP (Uh L).2:=xL (Ji h).2
theorem Jg{L}(h:jP (L,η)):T ((z8r L).1)<=20000/\jP (z8r L).2:=xL (Jh h).2
theorem aBZ{L}(h:jP (L,η)):T ((z9r L).1)<=20000/\jP (z9r L).2:=xL (Jg h).2
theorem xa{L}(h:jP (L,η)):qY (gf L).1/\jP (gf L).2:=uR (aBZ h).2
theorem wz{L}(h:jP (L,η)):T ((gd L).1)<=20000/\jP (gd L).2:=xL (xa h).2
theorem wy{L}(h:jP (L,η)):(qY (PO L).1.idx/\(C (PO L).1.sig<=20000/\∀x∈(PO L).1.sig,T x<=20000)/\(C (PO L).1.path<=20000/\∀x∈(PO L).1.path,T x<=20000))/\jP (PO L).2:=yl (wz h).2
theorem wx{L}(h:jP (L,η)):T ((gb L).1)<=20000/\jP (gb L).2:=xL (wy h).2
theorem wv{L}(h:jP (L,η)):T ((ga L).1)<=20000/\jP (ga L).2:=xL (wx h).2
theorem wu{L}(h:jP (L,η)):(C (Z1 L).1<=20000/\∀x∈(Z1 L).1,T x<=20000)/\jP (Z1 L).2:=X5 (wv h).2
theorem wt{L}(h:jP (L,η)):(C (Z0 L).1<=20000/\∀p∈(Z0 L).1,qY p.1/\qY p.2)/\jP (Z0 L).2:=Mp (wu h).2
theorem Vb{L}(h:jP (L,η)):(qY (J8 L).1.idx/\(C (J8 L).1.sig<=20000/\∀x∈(J8 L).1.sig,T x<=20000)/\(C (J8 L).1.path<=20000/\∀x∈(J8 L).1.path,T x<=20000))/\jP (J8 L).2:=yl (wt h).2
theorem Mj{L}(h:jP (L,η)):mY (IA L)/\C (IA L).parents<549755813888 :=Mg (h_ _) (Jn h).1 (Jm h).1 (Jl h).1 (Jk h).1 (xa h).1 (Jj h).1 (Jg h).1 (wz h).1 (wx h).1 (wv h).1 (Ji h).1 (wu h).1 (wt h).1 (O3 _) (TM _) (wy h).1 (Vb h).1
theorem Kx{t}{L}(c:C t<=20000)(h:PX t=N L):jP (L,η):=by have ⟨B,a⟩:=aBi _ t L (h_ _) h;exact⟨G_,λs b=>Nat.le_trans (a s b) c⟩
theorem QT(s)(L)(b):rN (s::L,b)=(s,(L,b)):=by simp[rN]
theorem zq:∀(l) (n v),decFrom n l=N v->l.foldl (λn b=>10*n+(b.toNat:Int) - 48) n=v
 | [],n,v,h=>by
  obtain rfl:=Option.some.inj h;rfl
 | b::l,n,v,h=>by
  rw[decFrom]at h;cases e:digitVal b with
  |none=>simp_all
  | some d =>
   rw[e]at h;have a:(10*n+(b.toNat) - 48)=((n*10+d):Int):=by
    rw[digitVal]at e
    grind
   rw[foldl_cons,a];exact zq l _ v h
theorem Fh{x}(B:0<=x)(D:x<10000000):yY (aV x)=N x:=by obtain ⟨k,rfl⟩:∃k:Nat,x=k:=⟨x.toNat,X⟩;have a:=N9 k;have E:T (aV k)<=7:=cY X H_;have c:W1 _=k:=zq _ 0 k (jW k);have b:VB k=aV k:=rfl;rw[yY,a8 X,a,c,b6 b]
theorem vT{x}(a:0<=x)(c:x<10000000)(L)(b):rU (aV x::L,b)=(x,(L,b)):=by rw[rU,QT];rw[Fh a c];simp
theorem QU{l}(h:C l<10000000)(L)(b):rL (aV (C l)::(l++L),b)=(l,(L,b)):=by rw[rL,vT X X];rw[a8 G_,l_,take_left' Z,drop_left' rfl]
theorem ym{s}(d:0<=s.idx)(a:s.idx<10000000)(f:C s.sig<10000000)(c:C s.path<10000000)(L)(b):rZ (fI (.z s.idx s.sig s.path)++L,b)=(s,(L,b)):=by
 have e:fI (.z s.idx s.sig s.path)++L=aV s.idx::(aV (C s.sig)::(s.sig++(aV (C s.path)::(s.path++L)))):=by simp[fI]
 rw[e,rZ,vT d a];rw[QU f];rw[QU c]
theorem yr:∀(ps) (L),(∀q∈ps,(0<=q.1/\q.1<10000000)/\(0<=q.2/\q.2<10000000))->TA (C ps) (QZ ps++L,η)=(ps,(L,η))
 | [],L,_=>rfl
 |q::ps,L,h=>by
  obtain ⟨⟨a,b⟩,c,d⟩:=h q Ô;have e:QZ (q::ps)++L=aV _::(aV _::(QZ _++L)):=rfl;rw[j6,TA,a8 H_,e,vT a b];rw[vT c d];rw[yr _ L λx f=>h x (mem_cons_of_mem _ f)]
theorem Mq{ps}(B:C ps<10000000)(h:∀q∈ps,(0<=q.1/\q.1<10000000)/\(0<=q.2/\q.2<10000000))(L):Um (fI (.p ps)++L,η)=(ps,(L,η)):=by have e:fI (.p ps)++L=aV _::(QZ _++L):=rfl;rw[e,Um,vT X X];rw[l_,yr _ L h]
theorem rl{r:j_}(h:VF r):IA (jY r)=r/\(Ui (jY r)).1=HT/\(J8 (jY r)).2.2=η:=by
 have J:=CE h.k;have B:=h.au;have E:=h.nu;have D:=h.cl;have F:=h.order;have G:=h.pal;have H:=h.sol;have I:=h.trl;have j:=lM h.sl;have k:=lM h.psl;have K:=j.i0;have L:=j.i1;have P:=j.sl;have Q:=j.pl;have R:=k.i0;have W:=k.i1;have j3:=k.sl;have j4:=k.pl;have l:∀q∈r.priv.trace,(0<=q.1/\q.1<10000000)/\(0<=q.2/\q.2<10000000):=λq z=>by have:=h.tr q z;omega
 have o:Ui (jY r)=(HT,(sf1 r,η)):=by rw[Ui,Tk];rfl
 have w:z1r (jY r)=(r.kind,(sf2 r,η)):=by rw[z1r,o];exact vT X X _ _
 have s:z2r (jY r)=(r.author,(sf3 r,η)):=by rw[z2r,w];exact vT X X _ _
 have x:z3r (jY r)=(r.number,(sf4 r,η)):=by rw[z3r,s];exact vT X X _ _
 have t:z4r (jY r)=(r.clock,(sf5 r,η)):=by rw[z4r,x];exact vT X X _ _
 have u:z5r (jY r)=(r.branch,(sf6 r,η)):=by rw[z5r,t];rfl
 have v:Va (jY r)=(r.parents,(sf7 r,η)):=by rw[Va,u];exact QU X _ _
 have m:Uh (jY r)=((kO r.edits).1,(sf8 r,η)):=by rw[Uh,v];rfl
 have p:z8r (jY r)=(r.target,(sf9 r,η)):=by rw[z8r,m];rfl
 have n:z9r (jY r)=(aV (if r.yes then 1 else 0),(Lv r,η)):=by rw[z9r,p];rfl
 have c:gf (jY r)=(r.order,(Lu r,η)):=by rw[gf,n];exact vT X X _ _
 have d:gd (jY r)=(r.from',(Ls r,η)):=by rw[gd,c];exact QT _ _ _
 have f:PO (jY r)=(r.sl,(Lr r,η)):=by rw[PO,d];exact ym X X X X _ _
 have g:gb (jY r)=(r.priv.name,(Lq r,η)):=by rw[gb,f];exact QT _ _ _
 have a:ga (jY r)=(r.priv.reason,(Lo r,η)):=by rw[ga,g];exact QT _ _ _
 have b:Z1 (jY r)=(r.priv.sources,(Ln r,η)):=by rw[Z1,a];exact QU X _ _
 have e:Z0 (jY r)=(r.priv.trace,(Lm r,η)):=by rw[Z0,b];exact Mq X l _
 have i:J8 (jY r)=(r.priv.sl,(Ll r,η)):=by rw[J8,e];exact ym X X X X _ _
 refine⟨?_,by rw[o],by rw[i]⟩;rw[IA,w,s,x,t,u,v,m,p,n,c,d,f,g,a,b,e,i,JV h.tx];have y:θ (aV (if r.yes then 1 else 0)=CA)=r.yes:=gh r.yes;simp only[y]
theorem iq{r}{t}(h:mX r=(a_ t,0)):uC t=(r,0):=by
 have d:iG r=A:=by
  rw[mX]at h
  grind
 have c:=tJ d;have f:t=aO (jY r)/\C t<=20000:=by
  rw[mX,b6 d]at h
  split at h
  .cases h
  next B =>
  have:=congrArg (λs=>ν (μ s)) (congrArg Prod.fst h);simp[cG]at this;rw[<-this];exact⟨Z,X⟩
 have a:PX t=N (jY r):=by
  rw[f.1];exact SN _ λs g=>Nat.lt_of_le_of_lt (show T s<=20000 from(mem_append.1 g).elim (KX c s) (aq c s)) E_
 have ⟨e,r2,i⟩:=rl c;have b:¬ vw t (jY r):=by
  rw[vw,e,i]
  simp_all
 rw[uC,a8 X,a];dsimp only;rw[a8 b,e]
theorem ux(t):uC t=dU t:=by
 by_cases d:(dU t).2=0
 .rw[iq (K4 d)];exact Prod.ext Z d.symm
 by_cases b:20000<C t
 .rw[uC,b6 b,dU,b6 b]
 have c:dU t=(zR,5):=by
  rw[dU]at d |-
  grind
 rw[c,uC,a8 b];cases e:PX t with
 |none=>rfl
 |some L =>
  dsimp only;by_cases a:vw t L
  .rw[b6 a]
  have f:=Classical.byContradiction λh=>a (.inr (.inr h));rw[TO f]at c;have g:=congrArg Prod.snd c;exact absurd g H_
theorem tt(s):(yY s).getD 0<=300000000:=by
 rw[yY]
 split
 .decide
 next B =>
 split
 .have:=NZ (l:=ν (μ s)) F_;show W1 _<=_;omega
 decide
theorem Xd{q}(h:q.2=A):∀k,TA k q=([],q)
 |0=>rfl
 |k+1=>by rw[TA,b6 h]
theorem aCu:(iM a6).1=[]:=by kernel_rfl
theorem ri(t:List UInt8)(hts:C t<1000000000)(H:aF):RC 25 [sv (a_ t)] (.tup [av (eC (uC t).1),iv (uC t).2]) H:=by
 refine Pu ?_;have hls:T (a_ t)=C t:=cB t;have i:=λH=>De t hts H;refine Bd func25 Z ntmps25<|U (kl 2 fx)<|V aH<|S<|U aA<|Y (gQ U_)<|V jB<|Cn ?_ ?_<;>intro hc1
 .have hb:20000<C t:=I_ hc1
  rw[show uC t=(zR,2)by rw[uC,b6 hb]];refine U (oU VI)<|Uu (jH bJ)<|V aH<|aC<|gH (H':=[]) (.inr Z) Z (fJ Z cP bJ Z Z Z u0 Z) (aI Z) P_ ?_;exact Qq
 have hb:¬ 20000<C t:=J_ hc1
 rw[We]at i;have hg:uC t=match PX t with
  |none=>(zR,5)
  |some L=>if vw t L then(zR,5)else(IA L,0):=by rw[uC,a8 hb];all_goals rfl
 have hok:=λL h=>Kx (t:=t) (L:=L) X h;rw[hg];clear hg;generalize PX t=o_ at i hok |-;rcases o_ with _|L
 .have i:∀H,RC 62 [sv (a_ t)] (.tup [.pv (aK []),bv η]) H:=i;refine aB<|U aA<|Y (kc call62 (i _))<|Y aA<|Y dK<|Y dK<|Y aH<|V aH<|S<|U aA<|V iJ<|Cn ?_ ?_<;>intro hc2
  .refine U (oU VI)<|Uu (jH bJ)<|V aH<|aC<|gH (H':=[]) (.inr Z) Z (fJ Z cP bJ Z Z Z u0 Z) (aI Z) P_ ?_;exact Qq
  cases hc2
 have i:∀H,RC 62 [sv (a_ t)] (.tup [.pv (aK L),bv A]) H:=i;have hS:=hok L Z;have W:=Mj hS;have hrf:=K3 (Uh L).1;have s7:=(Jh hS).1;have δ:=λH=>iu (Uh L).1 H X;have g:vw t L↔((J8 L).2.2=A\/(Ui L).1≠HT\/mX (IA L)≠(a_ t,0)):=Iff.rfl;rw[IA]at W g;have F:=λH=>Wv _ W.1 hrf H;dsimp only;rw[IA];have J:∀q:RS,jP q->C q.1<2^40:=λq h=>by have:=h.1;omega
 have k0:=vU (L,η) (J _ hS);have o0:=xL (q:=(L,η)) hS;have e0:Ui L=rN (L,η):=by rw[Ui]
 have ⟨⟨G,Q0⟩,h0⟩:∃p,p=rN (L,η):=X_;rw[<-h0]at k0 o0 e0;dsimp only at k0 o0;have k1:=oX Q0 (J _ o0.2);have o1:=uR (q:=Q0) o0.2;have e1:z1r L=rU Q0:=by rw[z1r,e0]
 have ⟨⟨I,Q1⟩,h1⟩:∃p,p=rU Q0:=X_;rw[<-h1]at k1 o1 e1;dsimp only at k1 o1;have k2:=oX Q1 (J _ o1.2);have o2:=uR (q:=Q1) o1.2;have e2:z2r L=rU Q1:=by rw[z2r,e1]
 have ⟨⟨r,Q2⟩,h2⟩:∃p,p=rU Q1:=X_;rw[<-h2]at k2 o2 e2;dsimp only at k2 o2;have k3:=oX Q2 (J _ o2.2);have o3:=uR (q:=Q2) o2.2;have e3:z3r L=rU Q2:=by rw[z3r,e2]
 have ⟨⟨j,Q3⟩,h3⟩:∃p,p=rU Q2:=X_;rw[<-h3]at k3 o3 e3;dsimp only at k3 o3;have k4:=oX Q3 (J _ o3.2);have o4:=uR (q:=Q3) o3.2;have e4:z4r L=rU Q3:=by rw[z4r,e3]
 have ⟨⟨K,Q4⟩,h4⟩:∃p,p=rU Q3:=X_;rw[<-h4]at k4 o4 e4;dsimp only at k4 o4;have k5:=vU Q4 (J _ o4.2);have o5:=xL (q:=Q4) o4.2;have e5:z5r L=rN Q4:=by rw[z5r,e4]
 have ⟨⟨V5,Q5⟩,h5⟩:∃p,p=rN Q4:=X_;rw[<-h5]at k5 o5 e5;dsimp only at k5 o5;have k6:=RJ Q5 (J _ o5.2);have o6:=X5 (q:=Q5) o5.2;have e6:Va L=rL Q5:=by rw[Va,e5]
 have ⟨⟨V6,Q6⟩,h6⟩:∃p,p=rL Q5:=X_;rw[<-h6]at k6 o6 e6;dsimp only at k6 o6;have k7:=vU Q6 (J _ o6.2);have o7:=xL (q:=Q6) o6.2;have e7:Uh L=rN Q6:=by rw[Uh,e6]
 have ⟨⟨y_,Q7⟩,h7⟩:∃p,p=rN Q6:=X_;rw[<-h7]at k7 o7 e7;dsimp only at k7 o7;have k8:=vU Q7 (J _ o7.2);have o8:=xL (q:=Q7) o7.2;have e8:z8r L=rN Q7:=by rw[z8r,e7]
 have ⟨⟨V8,Q8⟩,h8⟩:∃p,p=rN Q7:=X_;rw[<-h8]at k8 o8 e8;dsimp only at k8 o8;have k9:=vU Q8 (J _ o8.2);have o9:=xL (q:=Q8) o8.2;have e9:z9r L=rN Q8:=by rw[z9r,e8]
 have ⟨⟨V9,Q9⟩,h9⟩:∃p,p=rN Q8:=X_;rw[<-h9]at k9 o9 e9;dsimp only at k9 o9;have k10:=oX Q9 (J _ o9.2);have γ:=uR (q:=Q9) o9.2;have P:gf L=rU Q9:=by rw[gf,e9]
 have ⟨⟨f,τ⟩,h10⟩:∃p,p=rU Q9:=X_;rw[<-h10]at k10 γ P;dsimp only at k10 γ;have k11:=vU τ (J _ γ.2);have β:=xL (q:=τ) γ.2;have Q:gd L=rN τ:=by rw[gd,P]
 have ⟨⟨n,D⟩,h11⟩:∃p,p=rN τ:=X_;rw[<-h11]at k11 β Q;dsimp only at k11 β;have k12:=yc D (J _ β.2);have o12:=yl (q:=D) β.2;have R:PO L=rZ D:=by rw[PO,Q]
 have ⟨⟨a,E⟩,h12⟩:∃p,p=rZ D:=X_;rw[<-h12]at k12 o12 R;dsimp only at k12 o12;have k13:=vU E (J _ o12.2);have o13:=xL (q:=E) o12.2;have ρ:gb L=rN E:=by rw[gb,R]
 have ⟨⟨z,f_⟩,h13⟩:∃p,p=rN E:=X_;rw[<-h13]at k13 o13 ρ;dsimp only at k13 o13;have k14:=vU f_ (J _ o13.2);have v_:=xL (q:=f_) o13.2;have z_:ga L=rN f_:=by rw[ga,ρ]
 have ⟨⟨u,u_⟩,h14⟩:∃p,p=rN f_:=X_;rw[<-h14]at k14 v_ z_;dsimp only at k14 v_;have k15:=RJ u_ (J _ v_.2);have d_:=X5 (q:=u_) v_.2;have κ:Z1 L=rL u_:=by rw[Z1,z_]
 have ⟨⟨w,d⟩,h15⟩:∃p,p=rL u_:=X_;rw[<-h15]at k15 d_ κ;dsimp only at k15 d_;have k16:=oX d (J _ d_.2);have u16:=uR d_.2;have σ:=tt (rN d).1;have B:Um d=TA (rU d).1.toNat (rU d).2:=rfl;have σ:(rU d).1<=300000000:=σ;have ⟨⟨i_,QN⟩,hN⟩:∃p,p=rU d:=X_;rw[<-hN]at k16 u16 σ B;dsimp only at k16 u16 σ B;have o16:=Mp (q:=d) d_.2;have J3:Z0 L=Um d:=by rw[Z0,κ]
 have ⟨⟨s,l⟩,h16⟩:∃p,p=Um d:=X_;rw[<-h16]at B o16 J3;dsimp only at B o16;have k17:=yc l (J _ o16.2);have o17:=yl (q:=l) o16.2;have e17:J8 L=rZ l:=by rw[J8,J3]
 have ⟨⟨V17,Q17⟩,h17⟩:∃p,p=rZ l:=X_;rw[<-h17]at k17 o17 e17;dsimp only at k17 o17;simp only[e0,e1,e2,e3,e4,e5,e6,e7,e8,e9,P,Q,R,ρ,z_,κ,J3,e17]at W hrf s7 δ g F |-;clear W hS hok hrf h0 h1 h2 h3 h4 h5 h6 h7 h8 h9 h10 h11 h12 h13 h14 h15 h16 h17 e0 e1 e2 e3 e4 e5 e6 e7 e8 e9 P Q R ρ z_ κ J3 e17;have hpn:y_=a6->(iM y_).1=[]:=λh=>by rw[h];exact aCu
 have ⟨PE,hPE⟩:∃v,v=iM y_:=X_;rw[<-hPE]at δ F g hpn |-;clear hPE;have ⟨ED,EE⟩:=PE;dsimp only at δ F g hpn |-;have ⟨TX,hTX⟩:∃v,v=mX ⟨I,r,j,K,V5,V6,ED,V8,θ (V9=CA),f,n,a,⟨z,u,w,s,V17⟩⟩:=X_;rw[<-hTX]at F g;clear hTX;rw[show HT=⟨#[114,101,99,111,114,100]⟩from rfl]at g;refine aB<|U aA<|Y (kc call62 (i _))<|Y aA<|Y dK<|Y dK<|Y aH<|V aH<|S<|U aA<|V iJ<|Cn ?_ ?_<;>intro hc3
 .cases hc3
 refine aB<|U aA<|Y (oU aGi)<|Y (kb 980)<|V aH<|Sz (kl 7 aDj)<|U aA<|Y (kc rV (k0 _ Z))<|V aH<|U aA<|Y (kc rT (k1 _ Z))<|Y (bC pD)<|Uu (ku sizeOf3)<|Zz<|U aA<|Y (kc rT (k2 _ Z))<|Y (bC F6)<|Uu (ku sizeOf3)<|Zz<|U aA<|Y (kc rT (k3 _ Z))<|Y (bC BE)<|Uu (ku sizeOf3)<|Zz<|U aA<|Y (kc rT (k4 _ Z))<|Y (bC F5)<|Uu (ku sizeOf3)<|Zz<|S ?_;refine gK.ent (E':=[(0,sv (a_ t)),(2,.ref 2 0 0 0),(6,yo),(7,.ref 7 0 0 0),(8,sv G)]) (H':=[(980,yw Q4),(7,bx 21 53 [iv I,iv r,iv j,iv K,sv a6,.pv .nils,.pv .nils,sv a6,bv η,iv 0,sv a6,iv 0,.pv .nils,.pv .nils,sv a6,sv a6,.pv .nils,.pv .nils,iv 0,.pv .nils,.pv .nils]),(2,bx 21 53 ((eC zR).map .pv))]) Wk<|Rd aA<|Y (kc rV (k5 _ Z))<|Y (bC D0)<|Uu (by exact cM Z V_ Z Z Z Z Z Z y0 u0 u0)<|Zz<|U aA<|Y (kc call65 (k6 _ Z))<|Y (bC pC)<|Uu (by exact cM Z sizeOf22 Z Z Z Z Z Z y0 u0 u0)<|Zz<|S ?_;refine gK.ent (E':=[(0,sv (a_ t)),(2,.ref 2 0 0 0),(6,yo),(7,.ref 7 0 0 0),(8,sv G)]) (H':=[(980,yw Q6),(7,bx 21 53 [iv I,iv r,iv j,iv K,sv V5,.pv (aK V6),.pv .nils,sv a6,bv η,iv 0,sv a6,iv 0,.pv .nils,.pv .nils,sv a6,sv a6,.pv .nils,.pv .nils,iv 0,.pv .nils,.pv .nils]),(2,bx 21 53 ((eC zR).map .pv))]) Wk<|Rd aA<|Y (kc rV (k7 _ Z))<|V aH<|U aA<|Y (kc rV (k8 _ Z))<|Y (bC DY)<|Uu (by exact cM Z V_ Z Z Z Z Z Z y0 u0 u0)<|Zz<|U aA<|Y (kc rV (k9 _ Z))<|Y wV<|Y (bC JR)<|Uu (by exact cM Z sizeOf4 Z Z Z Z Z Z y0 u0 u0)<|Zz<|U aA<|Y (kc rT (k10 _ Z))<|Y (bC zH)<|Uu (by exact cM Z sizeOf3 Z Z Z Z Z Z y0 u0 u0) ?_;refine Zz<|U aA<|Y (kc rV (k11 _ Z))<|Y (bC yD)<|Uu (by exact cM Z V_ Z Z Z Z Z Z y0 u0 u0)<|Zz<|S ?_;refine gK.ent (E':=[(0,sv (a_ t)),(2,.ref 2 0 0 0),(6,yo),(7,.ref 7 0 0 0),(8,sv G),(9,sv y_)]) (H':=[(980,yw D),(7,bx 21 53 [iv I,iv r,iv j,iv K,sv V5,.pv (aK V6),.pv .nils,sv V8,bv (θ (V9=CA)),iv f,sv n,iv 0,.pv .nils,.pv .nils,sv a6,sv a6,.pv .nils,.pv .nils,iv 0,.pv .nils,.pv .nils]),(2,bx 21 53 ((eC zR).map .pv))]) Wk<|Rd aA<|Y (kc call66 (k12 _ Z))<|Y (bC AW)<|Uu (by exact rK Z sizeOf48 Z Z Z Z Z Z Z y0 u0 u0)<|Zz<|S ?_
 refine gK.ent (E':=[(0,sv (a_ t)),(2,.ref 2 0 0 0),(6,yo),(7,.ref 7 0 0 0),(8,sv G),(9,sv y_)]) (H':=[(980,yw E),(7,bx 21 53 [iv I,iv r,iv j,iv K,sv V5,.pv (aK V6),.pv .nils,sv V8,bv (θ (V9=CA)),iv f,sv n,iv a.idx,.pv (aK a.sig),.pv (aK a.path),sv a6,sv a6,.pv .nils,.pv .nils,iv 0,.pv .nils,.pv .nils]),(2,bx 21 53 ((eC zR).map .pv))]) Wk<|Rd aA<|Y (kc rV (k13 _ Z))<|Y (bC iN)<|Y (bC JT)<|Uu (by exact cM Z V_ Z Z Z Z Z Z y0 u0 u0)<|Zz<|U aA<|Y (kc rV (k14 _ Z))<|Y (bC iN)<|Y (bC JS)<|Uu (by exact cM Z V_ Z Z Z Z Z Z y0 u0 u0)<|Zz<|U aA<|Y (kc call65 (k15 _ Z))<|Y (bC iN)<|Y (bC zI)<|Uu (by exact cM Z sizeOf22 Z Z Z Z Z Z y0 u0 u0) ?_;refine Zz<|S ?_;refine gK.ent (E':=[(0,sv (a_ t)),(2,.ref 2 0 0 0),(6,yo),(7,.ref 7 0 0 0),(8,sv G),(9,sv y_)]) (H':=[(980,yw d),(7,bx 21 53 [iv I,iv r,iv j,iv K,sv V5,.pv (aK V6),.pv .nils,sv V8,bv (θ (V9=CA)),iv f,sv n,iv a.idx,.pv (aK a.sig),.pv (aK a.path),sv z,sv u,.pv (aK w),.pv .nils,iv 0,.pv .nils,.pv .nils]),(2,bx 21 53 ((eC zR).map .pv))]) Wk<|Rd aA<|Y (kc rT (k16 _ Z))<|V aH<|S<|S ?_;refine gK.ent (E':=[(0,sv (a_ t)),(2,.ref 2 0 0 0),(6,yo),(7,.ref 7 0 0 0),(8,sv G),(9,sv y_),(10,iv i_)]) (H':=(905,⟨0,2,104,[]⟩)::(7,bx 21 53 [iv I,iv r,iv j,iv K,sv V5,.pv (aK V6),.pv (kU []),sv V8,bv (θ (V9=CA)),iv f,sv n,iv a.idx,.pv (aK a.sig),.pv (aK a.path),sv z,sv u,.pv (aK w),.osl 905 (0) 0 (0),iv 0,.pv (aK []),.pv (aK [])])::(980,yw QN)::(2,bx 21 53 ((eC zR).map .pv))::[]) ?_ ?_
 ·exact(cJ.nz 905 2 104 Z Z ⟨⟨_,Z,(by exact Nz.same (by(simp;done)))⟩,⟨_,Z,(by exact Nz.same (by(simp;rfl)))⟩,⟨_,Z,(by exact Nz.same (by(simp;rfl)))⟩,⟨_,Z,(by exact Nz.same (by(simp;rfl)))⟩,⟨_,Z,(by exact Nz.same (by(simp;done)))⟩,⟨_,Z,(by exact Nz.same (by(simp;done)))⟩,⟨_,Z,(by exact Nz.same (by(simp;done)))⟩,T_⟩ ⟨⟨_,Z,Z,Z,Z,(by exact .inr ⟨_,_,rfl,rfl,(by repeat(first|exact trivial|refine⟨(by first|exact Nz.own|exact Nz.weak|exact Nz.same (by(simp;done))),?_⟩))⟩)⟩,⟨_,Z,Z,Z,Z,(by exact .inl ⟨Z,(by(simp;done))⟩)⟩,⟨_,Z,Z,Z,Z,(by exact .inl ⟨Z,(by(simp;done))⟩)⟩,T_⟩ T_)
 refine Rg<|V aH<|aD<|eN (λ(b:List (Int×Int)) (q:RS)=>([(0,sv (a_ t)),(2,.ref 2 0 0 0),(6,yo),(7,.ref 7 0 0 0),(8,sv G),(9,sv y_),(10,iv i_),(11,iv (C b:Int))],[(905,⟨C b,2,104,wX b⟩),(7,bx 21 53 [iv I,iv r,iv j,iv K,sv V5,.pv (aK V6),.pv (kU []),sv V8,bv (θ (V9=CA)),iv f,sv n,iv a.idx,.pv (aK a.sig),.pv (aK a.path),sv z,sv u,.pv (aK w),.osl 905 (C b) 0 (C b),iv 0,.pv (aK []),.pv (aK [])]),(980,yw q),(2,bx 21 53 ((eC zR).map .pv))])) (λb q=>jP q/\C b<=i_.toNat/\(s,l)=(b++(TA (i_.toNat - C b) q).1,(TA (i_.toNat - C b) q).2)) (λb q=>i_.toNat - C b) [] QN ⟨u16.2,k_ _,by rw[B];rfl⟩ ?_ ?_
 .exact L_
 rintro b q ⟨hq,hA,hR⟩;have m1:=oX q (J _ hq);have p1:=uR hq;have m2:=oX (rU q).2 (J _ p1.2);have p2:=uR p1.2;have c:q.2=η->∀m,TA (m+1) q=(((rU q).1,(rU (rU q).2).1)::(TA m (rU (rU q).2).2).1,(TA m (rU (rU q).2).2).2):=λh m=>by rw[TA,a8 (by rw[h];decide)]
 have ⟨⟨x,q1⟩,hx⟩:∃p,p=rU q:=X_;rw[<-hx]at m1 m2 p1 p2 c;dsimp only at m1 m2 p1 p2 c;have ⟨⟨y,q2⟩,hy⟩:∃p,p=rU q1:=X_;rw[<-hy]at m2 p2 c;dsimp only at m2 p2 c;clear hx hy;refine S<|S<|aT (t:=91) (n:=11) (A_:=θ ((C b:Int)<i_)&&!q.2) ?_ ?_
 .all_goals refine Y aA<|Y aA<|Y cH<|Dm ?_<;>(refine Sp 85 (λh85=>?_) λh85=>?_)<;>(first|exact s_|refine M<|M<|M<|M<|M ?_|refine O aA<|O pQ<|O (bC OE)<|O (bT nU)<|O iJ ?_)<;>refine V cE ?_<;>exact Gj (h:=by(simp only[*,Zo];done))
 refine Cn ?_ ?_<;>intro hc4
 .have o:=hc4;rw[l7,r9,l6]at o;have A_:C (b++[(x,y)])=C b+1:=by rw[j7];rfl
  have hR2:(s,l)=((b++[(x,y)])++(TA (i_.toNat - (C b+1)) q2).1,(TA (i_.toNat - (C b+1)) q2).2):=by
   rw[hR,show i_.toNat - C b=(i_.toNat - (C b+1))+1 by omega,c o.2];simp
  refine aB<|S<|aD<|Sz (kl 12 Je)<|U aA<|Y (kc rT (m1 _ Z))<|Y (bC nF)<|Uu (ku sizeOf3)<|Zz<|U aA<|Y (kc rT (m2 _ Z))<|Y (bC nE)<|Uu (ku sizeOf3)<|Zz<|Rd (bC iN)<|Y (bC uD)<|Y (bT kN)<|Y (xB eM sizeOf104)<|Y (aM [kS (x,y)] Z WH Z Z Z Z Z R_)<|Y (bU (ob:=⟨C b,2,104,wX b⟩) (k:=C b+1) (ps:=[kS (x,y)]) Z WH aBH Z Z Z Z Z (TF _) Z R_ (m:=1) Z X Z (rows':=wX (b++[(x,y)])) (TG b (x,y))) ?_;refine Y (bC iN)<|Y (bC uD)<|Uu (by exact cM Z sizeOf49 Z Z Z Z Z Z y0 u0 u0)<|Zz<|Rd aA<|Y kp<|Da ?_;refine⟨b++[(x,y)],q2,⟨p2.2,by rw[A_];omega,by rw[A_];exact hR2⟩,by rw[A_];omega,?_⟩;rw[A_];exact L_
 have o:=hc4;have hend:(s,l)=(b,q):=by
  rw[Bool.and_eq_false_iff,q7,Bool.not_eq_false']at o;rcases o with h|h
  .rw[hR,show i_.toNat - C b=0 by omega,TA,Ä]
  rw[hR,Xd h,Ä]
 obtain ⟨rfl,rfl⟩:=Prod.mk.inj hend;clear hR c m1 m2 hend;refine gK.ent (cJ.fzG (id:=905) (E':=[(0,sv (a_ t)),(2,.ref 2 0 0 0),(6,yo),(7,.ref 7 0 0 0),(8,sv G),(9,sv y_)]) (H':=[(7,bx 21 53 ((eC ⟨I,r,j,K,V5,V6,[],V8,θ (V9=CA),f,n,a,⟨z,u,w,s,zS⟩⟩).map .pv)),(980,yw l),(2,bx 21 53 ((eC zR).map .pv))]) (s.map kS) Z Z ?_ Z ?_ ?_) ?_
 .intro p hp;simp only[l9,q8,or_false]at hp;rcases hp with rfl|rfl|rfl|rfl|rfl|rfl
  .exact⟨_,Z,.same (by(simp;done))⟩
  .exact⟨_,Z,.same (by(simp;rfl))⟩
  .exact⟨_,Z,.same (by(simp;rfl))⟩
  .exact⟨_,Z,.same (by(simp;rfl))⟩
  .exact⟨_,Z,.same (by(simp;done))⟩
  exact⟨_,Z,.same r5⟩
 .exact⟨⟨_,Z,Z,Z,Z,kY Z (bG (.same H_) (bG (.same H_) (bG (.same H_) (bG (.same H_) (bG (.same H_) (bG (.same H_) (bG (.same H_) (bG (.same H_) (bG (.same H_) (bG (.same H_) (bG (.same H_) (bG (.same H_) (bG (.same H_) (bG (.same H_) (bG (.same H_) (bG (.same H_) (bG (.same H_) (bG (.osl (fV kS _)) (bG (.same H_) (bG (.same H_) (bG (.same H_) jV)))))))))))))))))))))⟩,⟨_,Z,Z,Z,Z,dF (yu _ _)⟩,⟨_,Z,Z,Z,Z,dF (by simp[bx,eC])⟩,T_⟩
 .exact T_
 refine aP<|U aA<|Y (kc call66 (k17 _ Z))<|Y (bC iN)<|Y (bC F7)<|Uu (by exact rK Z sizeOf48 Z Z Z Z Z Z Z (r_ Z) Z Z)<|Zz<|eT (λ(_:Unit)=>([(0,sv (a_ t)),(2,.ref 2 0 0 0),(6,yo),(7,.ref 7 0 0 0),(8,sv G)],[(980,yw Q17),(7,bx 21 53 ((eC ⟨I,r,j,K,V5,V6,ED,V8,decide (V9=CA),f,n,a,⟨z,u,w,s,V17⟩⟩).map .pv)),(2,bx 21 53 ((eC zR).map .pv))])) (λ_=>True) ?_ ?_
 .refine U aA<|V FD<|Cn ?_ ?_<;>intro hc5
  .refine Rd aA<|Y (kc call67 (δ _))<|Y aA<|Y dK<|Y dK<|Y (bC DZ)<|Uu (ku sizeOf46)<|Zz ?_;exact⟨(),T_,Wk⟩
  have hn:=hc5;rw[hpn (by rw[Bool.not_eq_false']at hn;exact b9 hn)];refine aB ?_;exact⟨(),T_,Wk⟩
 rintro _ -;refine U (xB cP bJ)<|Y (kc call68 (F _))<|Y aA<|Y dK<|Y dK<|Y aH<|V aH<|S<|S<|aT (t:=141) (n:=20) (A_:=((Q17.2||!θ (G=⟨#[114,101,99,111,114,100]⟩))||!θ (TX.2=0))||!θ (TX.1=a_ t)) ?_ ?_
 .all_goals refine Y aA<|Y pQ<|Y (bC OE)<|Y (bT nU)<|Dm ?_<;>(refine Sp 129 (λh129=>?_) λh129=>?_)<;>(first|exact s_|refine M<|M ?_|refine O aA<|O FD ?_)<;>refine Y cE<|Dm ?_<;>(refine Sp 133 (λh133=>?_) λh133=>?_)<;>(first|exact s_|refine M<|M ?_|refine O aA<|O xN ?_)<;>refine Y cE<|Dm ?_<;>(refine Sp 137 (λh137=>?_) λh137=>?_)<;>(first|exact s_|refine M<|M<|M ?_|refine O aA<|O aA<|O FD ?_)<;>refine V cE ?_<;>exact Gj (h:=by(simp only[*,Zo];done))
 refine Cn ?_ ?_<;>intro hc6
 .have o:=hc6;rw[b6 (g.2 (by
   simp only[Bool.or_eq_true,r9,q7]at o;rcases o with((h|h)|h)|h
   .exact .inl h
   .exact .inr (.inl h)
   .exact .inr (.inr λe=>h (by rw[e]))
   exact .inr (.inr λe=>h (by rw[e]))))]
  refine U (oU VI)<|Uu (jH bJ)<|V aH<|aC<|gH (H':=[]) (.inr Z) Z (fJ Z cP bJ Z Z Z u0 Z) (aI Z) P_ ?_;exact Qq
 have o:=hc6;rw[a8 (λh=>by
  simp only[q_,Bool.not_eq_false',l6]at o;rcases g.1 h with h|h|h
  .rw[h]at o;cases o.1.1.1
  .exact h o.1.1.2
  exact h (Prod.ext o.2 o.1.2))]
 refine aB<|U (xB cP bJ)<|Uu (jH bJ)<|V aH<|aC<|gH (H':=[]) (.inr Z) Z (fJ Z cP bJ Z Z Z (by simp only[Zl,S_];rfl) Z) (aI Z) (Fin.wk (by simp[eC,lW,yF]) T_ T_) ?_;exact Qq
theorem Xp(l:List B_)(s:B_)(H:aF)(a:C l<2^40):RC 38 [.pv (aK l),sv s] (iv (EM id l s:Nat)) H:=by
 refine Pu ?_;have P:C (l.map S_)=C l:=g_ _;refine Bd func38 Z ntmps38<|Sz aH<|Sz aH<|S<|aD<|bA (σ:=Nat) (λk=>([(0,.pv (aK l)),(1,sv s),(5,iv (k:Int))],[])) (λk=>k<=C l/\∀j,j<k->∀o,l[j]?=N o->jZ (id o) s=A) (λk=>C l - k) 0 ⟨k_ _,λj h=>by omega⟩ ?_ ?_
 .exact E0
 rintro k ⟨hk,hlo⟩;have ⟨x,Q⟩:∃x,x=l.getD k a6:=X_;have E:k<C l->l[k]?=N x:=λh=>by
  have ⟨z,R⟩:=aQ h;rw[Q,getD_eq_getElem?_getD,R];rfl
 have hi:=λh=>cA (f:=S_) (E h);have ⟨B,I⟩:∃B,B=(θ ((k:Int)<(C (l.map S_):Int))&&jZ x s):=X_;refine S<|S<|aT (t:=17) (n:=13) (A_:=B) ?_ ?_
 .all_goals refine Y aA<|Y aA<|Y (fP aE)<|Y cH<|Dm ?_<;>(refine Sp 10 (λF=>?_) λF=>?_)<;>(try exact w_)<;>(first|refine M<|M<|M<|M<|M<|M ?_|refine O aA<|O aA<|O (bQ Z aY Z Z X (l_ _) (hi (I_ F)) Z)<|O (eG Z N_ Z (hi (I_ F)) Z)<|O aA<|O (jz Z Z Z) ?_)<;>refine V cE ?_<;>exact Gj (h:=by rw[I];(rw[F];rfl))
 refine Cn ?_ ?_<;>intro G
 .have hBt:=I.symm.trans G;rw[l7,l6]at hBt;refine aB<|aD<|Rd aA<|Y kp<|Da ?_;refine⟨k+1,⟨X,λj W o D=>?_⟩,X,E0⟩;by_cases e:j=k
  .subst e;rw[E X]at D;cases D;exact hBt.2
  exact hlo j X o D
 have J:=I.symm.trans G;have K:EM id l s=k:=Pt hk hlo (λo D=>by
  have L:=(m9.1 D).1;rw[E L]at D;cases D
  rwa [À (by omega:(k:Int)<(C (l.map S_):Int)),Bool.true_and]at J)
 rw[K];exact aP<|U aA<|V aH<|aC<|Rt<|Qq
theorem lr(l:List B_)(j:Nat)(s:B_)(H:aF)(K:C l<2^40)(J:j<=C l):RC 39 [.pv (aK l),iv (j:Int),sv s] (.pv (aK (l.take j++s::l.drop j))) H:=by
 refine Pu ?_;have I:C (l.map S_)=C l:=g_ _;have B:C ((l.take j).map S_)=j:=by rw[g_,n_];omega
 have D:C ((l.drop j).map S_)=C l - j:=by rw[g_,q6]
 have E:C (l.take j++s::l.drop j)=j+1+(C l - j):=by rw[j7,j6,n_,q6];omega
 have F:C (bP (l.take j))=j:=by rw[dB,n_];omega
 have G:C (bP (l.take j++[s]))=j+1:=by rw[dB,j7,n_];simp only[j6,length_nil];omega
 refine Bd func39 Z ntmps39<|Sz aH<|U (by exact eR (id:=905) Z aY Z Z Z Z H_ Z)<|Y aA<|Y aA<|Y (by exact eZ (l:=0) (h:=j) Z aY Z (dV l) Z Z (k_ _) X (show ((l.map S_).take j).drop 0=(l.take j).map S_ by rw[List.drop_zero,List.map_take]))<|Y (by exact bU (ob:=⟨0,1,9,[]⟩) (k:=j) (ps:=(l.take j).map S_) Z aY sX Z Z Z Z Z Z Z (dV _) B X (r8 _) (rows':=bP (l.take j)) (by rw[List.nil_append];exact(cX _).symm))<|V aH<|U aA<|Y aA<|Y (by exact aM ([s].map S_) Z aY Z Z Z Z Z (dV _))<|Y (by exact bU (k:=j+1) (ps:=[s].map S_) Z aY sX Z Z Z Z Z F Z (dV _) (m:=1) Z X Z (rows':=bP (l.take j++[s])) (eO _ _)) ?_;refine V aH<|U aA<|Y aA<|Y aA<|Y (by exact eZ (l:=j) (h:=(l.map S_).length) Z aY Z (dV l) Z Z X (h_ _) (show ((l.map S_).take _).drop j=(l.drop j).map S_ by rw[List.take_length,List.map_drop]))<|Y (by exact bU (k:=(l.take j++s::l.drop j).length) (ps:=(l.drop j).map S_) Z aY sX Z Z Z Z Z G Z (dV _) D X E.symm (rows':=bP (l.take j++s::l.drop j)) (by rw[eO,List.append_assoc];rfl))<|V aH<|aC ?_;refine cR (H':=[]) (.inr Z) Z (aI Z) (Fin.fz (id:=905) (ob:=⟨3,1,9,bP (l.take j++s::l.drop j)⟩) ((l.take j++s::l.drop j).map S_) Z (cX _) (.osl (fV S_ _)) Z T_ T_) ?_;exact Qq
theorem Zs(H:zZ l)(F:s∉l):zZ (l.take (EM id l s)++s::l.drop (EM id l s)):=by
 induction l with
 |nil=>exact pairwise_singleton _ _
 | cons a l G =>
  rw[l9,not_or]at F;have E:=pairwise_cons.1 H;have G:=G E.2 F.2;rw[EM,findIdx_cons];cases h:jZ (id a) s with
  |true =>
   show zZ (a::(l.take (EM id l s)++s::l.drop (EM id l s)));refine pairwise_cons.2 ⟨λy B=>?_,G⟩;rcases mem_append.1 B with B|B
   .exact E.1 y (Ç B)
   rcases l9.1 B with rfl|B
   .exact h
   exact E.1 y (Ë B)
  | false =>
   show zZ (s::a::l);have D:jZ s a=A:=by
    cases I:jZ s a with
    |true=>rfl
    |false=>exact absurd (C9 I h) F.1
   refine pairwise_cons.2 ⟨λy B=>?_,H⟩;rcases l9.1 B with rfl|B
   .exact D
   exact sE D (E.1 y B)
theorem Zt(j:Nat)(x:B_):x∈l.take j++s::l.drop j↔x=s\/x∈l:=by
 conv=>rhs;rw[<-Û j l]
 simp only[Ð,l9];constructor
 .rintro(h|h|h)
  .exact .inr (.inl h)
  .exact .inl h
  exact .inr (.inr h)
 rintro(h|h|h)
 .exact .inr (.inl h)
 .exact .inl h
 exact .inr (.inr h)
def DJ(L:List B_):List B_:=(cD L).map (iV (jE L))
theorem Og{i:B_}(h:L[k]?=N t)(hi:tI t=N i)(I:i∉cD (L.take k)):cD (L.take (k+1))=(cD (L.take k)).take (EM id (cD (L.take k)) i)++i::(cD (L.take k)).drop (EM id (cD (L.take k)) i) /\
  DJ (L.take (k+1))=(DJ (L.take k)).take (EM id (cD (L.take k)) i)++t::(DJ (L.take k)).drop (EM id (cD (L.take k)) i):=by
 have F:∀x,x∈(jE (L.take k)).map Prod.fst↔x∈cD (L.take k):=λx=>(pU _).mem_iff.symm;have J:jE (L.take (k+1))=jE (L.take k)++[(i,t)]:=by
  rw[NQ h,kA,hi];refine a8 λP=>I ((F i).1 ?_);have ⟨p,D,e⟩:=any_eq_true.1 P;exact mem_map.2 ⟨p,D,b9 e⟩
 have K:cD (L.take (k+1))=(cD (L.take k)).take (EM id (cD (L.take k)) i)++i::(cD (L.take k)).drop (EM id (cD (L.take k)) i):=by
  refine ND _ _ (lL _) (Zs (lL _) I) λx=>?_;rw[Zt,<-F,cD,(pU _).mem_iff,J,Ì,Ð];simp only[map_cons,map_nil,q9];exact or_comm
 refine⟨K,?_⟩;have B:∀x∈cD (L.take k),iV (jE (L.take (k+1))) x=iV (jE (L.take k)) x:=λx E=>by
  have ⟨p,D,e⟩:=mem_map.1 ((F x).2 E);rw[J,iV,iV,find?_append];cases G:(jE (L.take k)).find? λp=>θ (p.1=x)with
  |none=>exact absurd (À e) (find?_eq_none.1 G p D)
  |some q=>rfl
 have H:iV (jE (L.take (k+1))) i=t:=by
  rw[J,iV,find?_append];have G:((jE (L.take k)).find? λp=>θ (p.1=i))=ζ:=find?_eq_none.2 λp D P=>I ((F i).1 (mem_map.2 ⟨p,D,b9 P⟩));rw[G,Option.none_or,find?_cons,À rfl];rfl
 rw[DJ,K,Ì,map_cons,H,DJ,<-map_take,<-map_drop];congr 1
 .exact Ü λx E=>B x (Ç E)
 congr 1;exact Ü λx E=>B x (Ë E)
theorem Oh(h:L[k]?=N t)(hi:tI t=ζ\/∃i,tI t=N i/\i∈cD (L.take k)):jE (L.take (k+1))=jE (L.take k):=by
 rw[NQ h,kA];rcases hi with hi|⟨i,hi,hm⟩
 .rw[hi]
 rw[hi];refine b6 ?_;have ⟨p,B,e⟩:=mem_map.1 ((pU _).mem_iff.1 hm);exact any_eq_true.2 ⟨p,B,À e⟩
theorem jo{t:List UInt8}(h:(dU t).2=0):∀e∈(dU t).1.edits,C e.refs<2^40:=by have B:=tJ (R6 (r:=(dU t).1) (by rw[K4 h]));rw[<-JV B.tx];exact K3 _
theorem YG(L:List B_)(H:aF)(hl:C L<1000000)(hs:∀t∈L,T t<1000000000):RC 19 [.pv (aK L)] (.tup [.pv (aK (cD L)),.pv (aK (DJ L))]) H:=by
 refine Pu ?_;have hml:C (L.map S_)=C L:=g_ _;refine Bd func19 Z ntmps19<|U aH<|V aH<|Sz aH<|Sz aH<|S<|Sz aH<|aD<|bA (σ:=Nat) (λk=>([(0,.pv (aK L)),(4,.pv (aK (cD (L.take k)))),(5,.pv (aK (DJ (L.take k)))),(6,iv (k:Int))],[])) (λk=>k<=C L) (λk=>C L - k) 0 (k_ _) ?_ ?_
 .dsimp only;rw[Í,RM,show DJ []=[]by rw[DJ,RM];rfl];exact Wk
 intro k hk;refine S<|U aA<|Y aA<|Y (fP aE)<|V cH<|Cn ?_ ?_<;>intro hc1
 .have hlt:k<C L:=I_ hc1
  have ⟨t,ht⟩:=aQ hlt;have hi:=cA (f:=S_) ht;have hts:=hs t (m7 ht);have hpa:=λH=>ri (ν (μ t)) i8 H;rw[gA,ux]at hpa;have hok:=G4 (ν (μ t));have hrf:=jo (t:=ν (μ t));have hidT:tI t=if(dU (ν (μ t))).2=0 then N (JL (dU (ν (μ t))).1)else ζ:=rfl
  have hst:=λi=>Og (i:=i) ht;have hsm:=Oh ht;have hle:=TQ (L.take k);have hil:C (cD (L.take k))=C (jE (L.take k)):=by rw[cD,jO,g_]
  have hol:C (DJ (L.take k))=C (cD (L.take k)):=g_ _;rw[n_]at hle;have hsr:=lL (L.take k);generalize dU (ν (μ t))=G at hpa hidT hok hrf;have hwr:ξ.wrap ((k:Int)+1)=((k+1:Nat):Int):=by rw[mI X X];omega
  refine aB<|S<|aD<|U aA<|Y aA<|Y (kx aY hi)<|Y (fK N_ (hi:=hi))<|Y (kc call25 (hpa _))<|Y aA<|Y dK<|Y dK<|Y (kl 7 fx)<|Uu (jH bJ)<|V aH<|S<|U aA<|V xN<|Cn ?_ ?_<;>intro hc2
  .have hne:G.2≠0:=by have:=hc2;intro e;rw[e]at this;exact absurd this E_
   rw[a8 hne]at hidT;have e:=hsm (.inl hidT);have e2:cD (L.take (k+1))=cD (L.take k):=by rw[cD,cD,e]
   have e3:DJ (L.take (k+1))=DJ (L.take k):=by rw[DJ,DJ,e2,e]
   refine aP<|Rd aA<|Y (ka hwr)<|Da ?_;refine⟨k+1,X,X,?_⟩;dsimp only;rw[e2,e3];exact Wk
  have heq:G.2=0:=by have:=hc2;by_cases e:G.2=0;exact e;rw[Á e]at this;cases this
  rw[b6 heq]at hidT;have hid:=λH=>aEX G.1 H hok.1 (hrf heq);generalize JL G.1=I at hid hidT;have hst:=hst I hidT;have hsm:=λh=>hsm (.inr ⟨I,hidT,h⟩);have ⟨A_,hX⟩:∃A_,A_=cD (L.take k):=X_;have ⟨o_,hO⟩:∃o_,o_=DJ (L.take k):=X_;have hpl:=λH=>Xp A_ I H (by rw[hX];omega);rw[<-hX]at hst hsm hil hol hsr |-;rw[<-hO]at hst hol |-;have hjl:=uc id A_ I;have hfnd:EM id A_ I<C A_->(A_[EM id A_ I]?=N I↔I∈A_):=λhlt2=>by
   constructor
   .exact m7
   intro hm;have hk2:=Aq A_ I;rw[À hm]at hk2;have ⟨q,hq⟩:=s8.1 hm;have hlo:∀a,a<EM id A_ I->∀o,A_[a]?=N o->jZ (id o) I=A:=λa ha o ho=>by
    have:=not_of_lt_findIdx ha;rw[(m9.1 ho).2]at this
    simpa using this
   have ⟨o,ho⟩:=aQ hlt2;have hle2:jZ (id o) I=η:=by
    have h3:=List.findIdx_getElem (xs:=A_) (p:=λo=>!jZ (id o) I) (w:=hlt2);have e:A_[A_.findIdx λo=>!jZ (id o) I]'hlt2=o:=(m9.1 ho).2;rw[e]at h3
    simpa using h3
   have:=Ar (f:=id) hsr hlo ho hle2;rw[hk2]at this;have e2:o=I:=b9 this.symm;rw[ho,e2]
  have hout:¬ EM id A_ I<C A_->I∉A_:=λh hm=>by
   have e:EM id A_ I=C A_:=X
   have:=findIdx_eq_length.1 e I hm;rw[show jZ (id I) I=jZ I I from Z,KM]at this;cases this
  have hin1:=λH=>lr A_ (EM id A_ I) I H X hjl;have hin2:=λH=>lr o_ (EM id A_ I) t H X X;generalize EM id A_ I=j at hst hpl hjl hfnd hout hin1 hin2;have ⟨x,hx⟩:∃x,x=A_.getD j a6:=X_;have hxg:j<C A_->A_[j]?=N x:=λh=>by
   have ⟨z,hz⟩:=aQ h;rw[hx,getD_eq_getElem?_getD,hz];rfl
  have hxi:=λh=>cA (f:=S_) (hxg h);have hmX:C (A_.map S_)=C A_:=g_ _;have ⟨B,hB⟩:∃B,B=(θ ((j:Int)<(C (A_.map S_):Int))&&θ (x=I)):=X_;have hBm:B=θ (I∈A_):=by
   rw[hB];by_cases hlt2:j<C A_
   .rw[À X,Bool.true_and];refine decide_eq_decide.2 ?_;rw[<-hfnd hlt2,hxg hlt2];exact⟨λh=>by rw[h],λh=>Option.some.inj h⟩
   rw[Á X,Bool.false_and,Á (hout hlt2)]
  clear hx;refine aB<|U (xB cP bJ)<|Y (kc call26 (hid _))<|V aH<|U aA<|Y aA<|Y (kc call38 (hpl _))<|V aH<|S<|S<|aT (t:=43) (n:=13) (A_:=B) ?_ ?_
  .all_goals refine Y aA<|Y aA<|Y (fP aE)<|Y cH<|Dm ?_<;>(refine Sp 36 (λh36=>?_) λh36=>?_)<;>(try exact w_)<;>(first|refine M<|M<|M<|M<|M<|M ?_|refine O aA<|O aA<|O (bQ Z aY Z Z X (l_ _) (hxi (I_ h36)) Z)<|O (eG Z N_ Z (hxi (I_ h36)) Z)<|O aA<|O wV ?_)<;>refine V cE ?_<;>exact Gj (h:=by rw[hB];(rw[h36];rfl))
  refine Cn ?_ ?_<;>intro hc3
  .have hm:I∈A_:=b9 (hBm.symm.trans hc3);have e:=hsm hm;have e2:cD (L.take (k+1))=A_:=by rw[hX,cD,cD,e]
   have e3:DJ (L.take (k+1))=o_:=by rw[hO,DJ,DJ,e2,e,hX]
   refine aP<|Rd aA<|Y (ka hwr)<|Da ?_;refine⟨k+1,X,X,?_⟩;dsimp only;rw[e2,e3];exact Wk
  have hm:I∉A_:=b_ (hBm.symm.trans hc3);have ⟨e2,e3⟩:=hst hm;refine aB<|U aA<|Y aA<|Y aA<|Y (kc call39 (hin1 _))<|V aH<|Rd aA<|Y aA<|Y aA<|Y aA<|Y (kx aY hi)<|Y (fK N_ (hi:=hi))<|Y (kc call39 (hin2 _))<|V aH<|Rd aA<|Y (ka hwr)<|Da ?_;refine⟨k+1,X,X,?_⟩;dsimp only;rw[e2,e3];exact Wk
 have hge:k=C L:=J_ hc1
 subst hge;rw[Ò];exact aP<|U aA<|Y aA<|Y aH<|V aH<|aC<|Ru<|Qq
theorem ti(l:List B_):JE (cD l)=gJ (cD l)/\JF (cD l)=0:=by have e:(cD l).all m6=A:=all_eq_true.2 (xC l);rw[JE,JF,b6 e,b6 e,NR (lL l)];exact Qq
theorem oe(x p:B_)(H:aF):RC 94 [sv x,sv p] (bv (mO p x)) H:=by
 refine Pu ?_;have D:=og p x;refine Bd func94 Z ntmps94<|Sz aH<|S<|aT (t:=4) (n:=15) (A_:=mO p x) ?_ ?_
 .all_goals refine Y aA<|Y (gQ U_)<|Y aA<|Y (gQ U_)<|Y AU<|Dm ?_<;>(refine Sp 10 (λB=>?_) λB=>?_)<;>(first|exact s_|refine M<|M<|M<|M<|M<|M ?_|refine O aA<|O aA<|O (gQ U_)<|O (bM (l:=0) (h:=T p) Z U_ Z Z Z (k_ _) (I_ B) Z)<|O aA<|O wV ?_)<;>refine Y cE<|Da ?_<;>exact Gj (h:=by rw[D];(rw[B];rfl))
 exact aC<|Rt<|Qq
theorem vj(s:B_)(H:aF)(W:T s<2^40):RC 60 [sv s] (bv (pH s)) H:=by
 refine Pu ?_;have R:=aS s;have L:pH s=(θ (T s<=16)&&s.data.toList.all tE):=rfl;refine Bd func60 Z ntmps60<|Sz aH<|S<|Sz aH<|aD<|bA (σ:=Nat) (λi=>([(0,sv s),(3,iv (i:Int))],[])) (λi=>i<=T s/\∀k,k<i->∀y,s.data.toList[k]?=N y->tE y=A) (λi=>T s - i) 0 ⟨k_ _,λk h=>by omega⟩ ?_ ?_
 .exact Wk
 rintro i ⟨hi,hall⟩;refine S<|U aA<|Y aA<|Y (gQ U_)<|V cH<|Cn ?_ ?_<;>intro E
 .have hlt:i<T s:=I_ E
  have ⟨y,I⟩:=aQ (l:=ν (μ s)) (k:=i) X;have B:=ly I;have ⟨d,G,P⟩:∃d:Int,(θ (d<0)=!tE y)/\∀H,RC 83 [.pv (.int .u8 (aZ s i))] (iv d) H:=by
   by_cases D:tE y=A
   .refine⟨_,?_,λH=>Bg _ (B.2 D) H⟩;rw[D];refine Á ?_;have:=B.2 D;unfold IJ at this
    split<;>omega
   refine⟨_,?_,λH=>nj _ (λh=>D (B.1 h)) H⟩;rw[show tE y=η by simpa using D];rfl
  refine aB<|S<|aD<|U aA<|Y aA<|Y (cL Z U_ Z Z X (l_ _) hlt Z)<|Y (kc call83 (P _))<|V cH<|Cn ?_ ?_<;>intro F
  .have D:tE y=η:=not_not (G.symm.trans F);have e:s.data.toList.all tE=η:=all_eq_false.2 ⟨y,m7 I,by rw[D];decide⟩;rw[L,e,Bool.and_false];exact Sz aH<|aC<|Rt<|Qq
  have D:tE y=A:=pG (G.symm.trans F);refine aB<|Rd aA<|Y kp<|Da ?_;refine⟨i+1,⟨X,λk J z K=>?_⟩,X,Wk⟩;by_cases e:k=i
  .subst e;rw[I]at K;cases K;exact D
  exact hall k X z K
 have Q:i=T s:=J_ E
 have e:s.data.toList.all tE=A:=all_eq_true.2 λy I=>by
  have ⟨k,J⟩:=s8.1 I;have:=(m9.1 J).1;exact hall k X y J
 rw[L,e,Bool.and_true];exact aP<|U aA<|Y (gQ U_)<|Y (by exact cQ.eqv (pF Z Z Z) (show AV.pv (.bool (θ ((T s:Int)<=16)))=bv (θ (T s<=16))by congr 3;exact propext ⟨λh=>by omega,λh=>by omega⟩))<|V aH<|aC<|Rt<|Qq
theorem zM{l:List UInt8}{i:Nat}{b:UInt8}(h:l[i]?=N b):aZ (a_ l) i=(b.toNat:Int):=by rw[aZ,cG,h];rfl
theorem T3(l:List UInt8)(H:aF)(u:C l<1000000000):RC 59 [sv (a_ l)] (iv (eS (a_ l))) H:=by
 refine Pu ?_;have v:=cB l;refine Bd func59 Z ntmps59<|Sz aH<|Sz aH<|S<|Sz aH<|aD<|eN (λ(k n:Nat)=>([(0,sv (a_ l)),(3,iv (n:Int)),(4,iv (k:Int))],[])) (λk n=>k<=C l/\k<=7/\n<10 ^ k/\decFrom 0 (l.take k)=N n) (λk n=>7 - k) 0 0 ⟨k_ _,E_,E_,Z⟩ ?_ ?_
 .exact Wk
 rintro k n ⟨hk,hk7,hn,hd⟩;have q:10 ^ k<=10000000:=Nat.le_trans (Nat.pow_le_pow_right E_ hk7) E_;have ⟨B,R⟩:∃B,B=(θ ((k:Int)<(T (a_ l):Int))&&θ ((k:Int)<7)):=X_;refine S<|S<|aT (t:=12) (n:=9) (A_:=B) ?_ ?_
 .all_goals refine Y aA<|Y aA<|Y (gQ U_)<|Y cH<|Dm ?_<;>(refine Sp 9 (λr=>?_) λr=>?_)<;>(try exact w_)<;>(first|refine M<|M ?_|refine O aA<|O cH ?_)<;>refine V cE ?_<;>exact Gj (h:=by rw[R];(rw[r];rfl))
 refine Cn ?_ ?_<;>intro J
 .have hBt:=R.symm.trans J;rw[l7,l6,l6]at hBt;have ⟨b,a⟩:=aQ (l:=l) (k:=k) X;have I:=zM a;have c:=b.toNat_lt;have ⟨x,Q⟩:∃x,x=aZ (a_ l) k:=X_;rw[<-Q]at I;have ⟨E,F⟩:∃E,E=(θ (x<48)||θ (57<x)):=X_;refine aB<|S<|aD<|S<|S<|aT (t:=24) (n:=11) (A_:=E) ?_ ?_
  .all_goals refine Y aA<|Y aA<|Y (cL Z U_ Z Z X (l_ _) X Q.symm)<|Y cH<|Dm ?_<;>(refine Sp 19 (λj=>?_) λj=>?_)<;>(try exact w_)<;>(first|refine M<|M<|M<|M ?_|refine O aA<|O aA<|O (cL Z U_ Z Z X (l_ _) X Q.symm)<|O jB ?_)<;>refine V cE ?_<;>exact Gj (h:=by rw[F];(rw[j];rfl))
  refine Cn ?_ ?_<;>intro K
  .have hCt:=F.symm.trans K;rw[Bool.or_eq_true,l6,l6]at hCt;rw[tp (m7 a) X];exact Sz aH<|aC<|Rt<|Qq
  have D:=F.symm.trans K;rw[q_,q7,q7]at D;have g:10*n+(b.toNat - 48)<10 ^ (k+1):=by rw[Nat.pow_succ];omega
  refine aB<|Rd aA<|Y (by exact pE Z Z Z (show ξ.wrap (10*(n:Int))=((10*n:Nat):Int)by rw[mI X X];omega))<|Y aA<|Y aA<|Y (cL Z U_ Z Z X (l_ _) X Q.symm)<|Y (by exact dT Z Z Z (show IntKind.u8.wrap (x - 48)=((b.toNat - 48:Nat):Int)by rw[I,IntKind.wrap_u8];omega))<|Y (eP Z dI underlying3 Z (mI X X))<|Y (by exact dD Z Z Z (show ξ.wrap (((10*n:Nat):Int)+((b.toNat - 48:Nat):Int))=((10*n+(b.toNat - 48):Nat):Int)by rw[mI X X];omega))<|V aH<|Rd aA<|Y kp<|Da ?_;refine⟨k+1,_,⟨X,X,g,?_⟩,X,Wk⟩;rw[eA a,PI,hd];show decFrom n [b]=_;rw[decFrom,digitVal,b6 ⟨X,X⟩,Nat.mul_comm n 10];rfl
 have W:=R.symm.trans J;have f:C l<=k\/k=7:=by
  by_cases i:(k:Int)<(T (a_ l):Int)
  .rw[À i,Bool.true_and,q7]at W;exact .inr X
  exact .inl X
 have P:=λH=>vk (n:Int) X X H;have d:VB (n:Int)=a_ (decDigits n):=by rw[VB,a8 X,l_]
 rw[d]at P;have ⟨E,F⟩:∃E,E=(θ ((6:Int)<(T (a_ l):Int))||!θ (a_ (decDigits n)=a_ l)):=X_;have G:C l<=6->decFrom 0 l=N n:=λh=>by
  rcases f with h2|h2
  .rwa [Ã h2]at hd
  omega
 refine aP<|S<|S<|aT (t:=41) (n:=10) (A_:=E) ?_ ?_
 .all_goals refine Y aA<|Y (gQ U_)<|Y jB<|Dm ?_<;>(refine Sp 36 (λm=>?_) λm=>?_)<;>(try exact w_)<;>(first|refine M<|M<|M<|M ?_|refine O aA<|O (kc gZ (P _))<|O aA<|O FD ?_)<;>refine V cE ?_<;>exact Gj (h:=by rw[F];(rw[m];rfl))
 refine Cn ?_ ?_<;>intro L
 .have hCt:=F.symm.trans L;rw[show eS (a_ l) = -1 by
   by_cases o:6<C l
   .exact Fg o
   rw[Á X,Bool.false_or,r9,q7]at hCt;exact Yk (G X) λe=>hCt (by rw[e])]
  exact Sz aH<|aC<|Rt<|Qq
 have D:=F.symm.trans L;rw[q_,Bool.not_eq_false',l6,q7]at D;have p:decDigits n=l:=by have:=congrArg (λs:B_=>ν (μ s)) D.2;simpa only[cG]using this
 rw[Pc X p];exact aB<|U aA<|V aH<|aC<|Rt<|Qq
def dgT(l:List UInt8)(p c:Nat):Bool:=((θ (((p+c:Nat):Int)<(T (a_ l):Int))&&θ (((p+c:Nat):Int)<((p+6:Nat):Int)))&&θ (48<=aZ (a_ l) (p+c)))&&θ (aZ (a_ l) (p+c)<=57)
theorem aAL{l:List UInt8}(H:∀c,R[c]?=l[p+c]?)(h:dgT l p c=A):∃b,l[p+c]?=N b/\c<6/\P4 b=A/\WI (R.drop c) c n=WI (R.drop (c+1)) (c+1) (10*n+(b.toNat - 48)):=by
 rw[dgT,l7,l7,l7,l6,l6,l6,l6,cB]at h;have ⟨b,B⟩:=aQ (l:=l) (k:=p+c) X;rw[zM B]at h;have F:P4 b=A:=by rw[P4,À X,À X];rfl
 have D:R.drop c=b::R.drop (c+1):=by
  have E:R[c]?=N b:=(H c).trans B;have G:=(m9.1 E).1;rw[Â G,(m9.1 E).2]
 exact⟨b,B,X,F,by rw[D,WI,F,À (by omega:c<6)];rfl⟩
theorem aDG{l:List UInt8}(F:∀c,R[c]?=l[p+c]?)(J:p+c<=C l)(h:dgT l p c=η):WI (R.drop c) c n=(c,n):=by
 by_cases D:p+c<C l
 .have ⟨b,hb⟩:=aQ D;have B:R.drop c=b::R.drop (c+1):=by
   have E:R[c]?=N b:=(F c).trans hb;have G:=(m9.1 E).1;rw[Â G,(m9.1 E).2]
  rw[B,WI,a8];intro I;rw[l7,P4,l7,l6,l6,l6]at I;rw[dgT,zM hb,cB,À X,À X,À X,À X]at h;cases h
 have:R.drop c=[]:=Ú (by
  have H:l[p+c]?=ζ:=getElem?_eq_none X;exact List.getElem?_eq_none_iff.1 ((F c).trans H))
 rw[this,WI]
theorem Dc(l:List UInt8)(H:aF)(hl:C l<1000000000):RC 58 [sv (a_ l)] (.tup [.pv (aK ((rM l).getD [])),bv (rM l).isSome]) H:=by
 refine Pu ?_;have hz:=cB l;refine Bd func58 Z ntmps58<|U aH<|V aH<|Sz (dM (id:=905) (sz:=1) (ty:=9) Z Z Z)<|Sz aH<|S<|aD<|eN (λ(p:Nat) (D:List B_)=>([(0,sv (a_ l)),(4,.osl 905 (C D) 0 (C D)),(5,iv (p:Int))],[(905,⟨C D,1,9,bP D⟩)])) (λp D=>p<=C l/\C D<=p/\rM l=(rM (l.drop p)).map (D++·)) (λp D=>C l - p) 0 [] ⟨k_ _,h_ _,by rw[Ù];cases rM l<;>rfl⟩ ?_ ?_
 .exact L_
 rintro p D ⟨hp,hAp,hJ⟩;refine S<|U aA<|Y aA<|Y (gQ U_)<|V cH<|Cn ?_ ?_<;>intro τ
 .have hlt:p<C l:=by have:=b9 τ;rw[hz]at this;omega
  have ⟨R,q⟩:∃R,R=l.drop p:=X_;have w:C R=C l - p:=by rw[q,q6]
  have K:∀c,R[c]?=l[p+c]?:=λc=>by rw[q,getElem?_drop]
  rw[<-q]at hJ;have v:R≠[]:=λe=>by rw[e]at w;simp at w;omega
  refine aB<|aD<|Sz aH<|U aA<|V aH<|S<|aD<|eN (λ(c n:Nat)=>([(0,sv (a_ l)),(4,.osl 905 (C D) 0 (C D)),(5,iv ((p+c:Nat):Int)),(6,iv (n:Int)),(7,iv (p:Int))],[(905,⟨C D,1,9,bP D⟩)])) (λc n=>WI R 0 0=WI (R.drop c) c n/\c<=6/\p+c<=C l/\n<10 ^ c) (λc n=>6 - c) 0 0 ⟨by rw[Ù],E_,X,E_⟩ ?_ ?_
  .exact L_
  rintro c n ⟨hsc,hle6,hcl,hn⟩;have hp6:10 ^ c<=1000000:=Nat.le_trans (Nat.pow_le_pow_right E_ hle6) E_;have hB:dgT l p c=(((θ (((p+c:Nat):Int)<(T (a_ l):Int))&&θ (((p+c:Nat):Int)<((p+6:Nat):Int)))&&θ (48<=aZ (a_ l) (p+c)))&&θ (aZ (a_ l) (p+c)<=57)):=rfl;have hy:=aAL (n:=n) K (p:=p) (c:=c);have k:=aDG (n:=n) K hcl;generalize dgT l p c=B at hB hy k;refine S<|S<|aT (t:=34) (n:=25) (A_:=B) ?_ ?_
  .all_goals refine Y aA<|Y aA<|Y (gQ U_)<|Y cH<|Dm ?_<;>(refine Sp 17 (λI=>?_) λI=>?_)<;>(try exact w_)<;>(first|refine M<|M<|M<|M ?_|refine O aA<|O aA<|O (by exact dD Z Z Z (show ξ.wrap ((p:Int)+6)=((p+6:Nat):Int)by rw[mI X X];omega))<|O cH ?_)<;>refine Y cE<|Dm ?_<;>(refine Sp 23 (λβ=>?_) λβ=>?_)<;>(try exact w_)<;>(first|refine M<|M<|M<|M ?_|refine O aA<|O aA<|O (cL Z U_ Z Z X (l_ _) (I_ I) Z)<|O AU ?_)<;>refine Y cE<|Dm ?_<;>(refine Sp 29 (λh29=>?_) λh29=>?_)<;>(try exact w_)<;>(first|refine M<|M<|M<|M ?_|refine O aA<|O aA<|O (cL Z U_ Z Z X (l_ _) (I_ I) Z)<|O HV ?_)<;>refine V cE ?_<;>exact Gj (h:=by rw[hB];first|(rw[I];rfl)|(rw[I,β];rfl)|(rw[I,β,h29];rfl))
  refine Cn ?_ ?_<;>intro σ
  .have ⟨b,x,hc6,hdg,hst⟩:=hy σ;have L:=zM x;have hb256:=b.toNat_lt;have hplt:=(m9.1 x).1;rw[P4,l7,l6,l6]at hdg;have W:10*n+(b.toNat - 48)<10 ^ (c+1):=by rw[Nat.pow_succ];omega
   refine aB<|aD<|U aA<|Y (by exact pE Z Z Z (show ξ.wrap (10*(n:Int))=((10*n:Nat):Int)by rw[mI X X];omega))<|Y aA<|Y aA<|Y (ky U_)<|Y (by exact dT Z Z Z (show IntKind.u8.wrap (aZ (a_ l) (p+c) - 48)=((b.toNat - 48:Nat):Int)by rw[L,IntKind.wrap_u8];omega))<|Y (eP Z dI underlying3 Z (mI X X))<|Y (by exact dD Z Z Z (show ξ.wrap (((10*n:Nat):Int)+((b.toNat - 48:Nat):Int))=((10*n+(b.toNat - 48):Nat):Int)by rw[mI X X];omega))<|V aH<|Rd aA<|Y (by exact dD Z Z Z (show ξ.wrap (((p+c:Nat):Int)+1)=((p+(c+1):Nat):Int)by rw[mI X X];omega)) ?_;refine Da ?_;exact⟨c+1,_,⟨hsc.trans hst,X,X,W⟩,X,L_⟩
  have G:=hsc.trans (k σ);have hC:PY R=c:=congrArg Prod.fst G;have hN:qq R=n:=congrArg Prod.snd G;have z:CQ R->rM l=ζ:=λh=>by rw[hJ,ae v (aDT h)];rfl
  have hgd:¬ CQ R->rM R=(rM ((R.drop (c+1)).drop n)).map (a_ ((R.drop (c+1)).take n)::·):=λh=>by
   have ⟨g1,g2,g3,g4⟩:=aCv h X;rw[SK v g1,g2,g4,hC,hN]
  have d:CQ R↔(c=0\/R[c]?≠N 58\/decDigits n≠R.take c\/C R - c - 1<n):=by rw[CQ,hC,hN]
  have i:=λH=>vk (n:Int) X X H;rw[VB,a8 X,l_]at i;clear hsc G hy k hC hN hB;have ⟨a,F⟩:∃a,a=@θ (CQ R) (Classical.propDecidable _):=X_;have E:CQ R->a=A:=λh=>by rw[F,@À _ (Classical.propDecidable _) h]
  have u:¬ CQ R->a=η:=λh=>by rw[F,@Á _ (Classical.propDecidable _) h]
  have hBi:a=A->CQ R:=λh=>@of_decide_eq_true _ (Classical.propDecidable _) (F.symm.trans h);have hBn:a=η->¬ CQ R:=λh=>@of_decide_eq_false _ (Classical.propDecidable _) (F.symm.trans h);rw[d]at E u;clear F;have f:(a_ l).extract p (p+c)=a_ (R.take c):=mC (by rw[fW,cG,cG,q,show p+c - p=c by omega]);refine aP<|S<|S<|qI (t:=77) (n:=33) (A_:=a) ?_ ?_
  .by_cases c0:c=0
   .have e1:θ (((p+c:Nat):Int)=(p:Int))=A:=À X;refine aN a7<|Cq aA<|Cq aA<|Cq cI<|Cq aA<|Of<|Of<|Of<|Of<|Cq DI<|Cq aA<|Of<|Of<|Of<|Of<|Cq cE<|Cq aA<|Of<|Of<|Of<|Of<|Of<|Of<|Of<|Cq cE<|Cq aA<|Of<|Of<|Of<|Of<|Of<|Of<|Of<|Cq cE<|bF<|Kr ?_;exact⟨Z,⟨_,Z,((E (.inl c0)).symm)⟩,Z,Z,Z⟩
   have e1:θ (((p+c:Nat):Int)=(p:Int))=η:=Á X;by_cases κ:p+c<C l
   .have e2:θ ((T (a_ l):Int)<=((p+c:Nat):Int))=η:=Á X;have ⟨b,x⟩:=aQ κ;have y:R[c]?=N b:=(K c).trans x;have L:=zM x;by_cases J:b=58
    .have e3:(!θ (aZ (a_ l) (p+c)=58))=η:=by rw[L,J];rfl
     by_cases P:decDigits n=R.take c
     .have e4:(!θ (a_ (decDigits n)=a_ (R.take c)))=η:=by rw[P,À rfl];rfl
      have δ:θ ((C l - (p+c) - 1:Nat)<(n:Int))=a:=by
       by_cases h:C R - c - 1<n
       .rw[E (.inr (.inr (.inr h)))];exact À X
       rw[u (λh2=>h2.elim c0 λh2=>h2.elim (λh2=>h2 (by rw[y,J])) λh2=>h2.elim (λh2=>h2 P) h)];exact Á X
      refine aN a7<|Cq aA<|Cq aA<|Cq cI<|Cq aA<|Nf aA<|Nf aA<|Nf (gQ U_)<|Nf AU<|Cq tB<|Cq aA<|Nf aA<|Nf aA<|Nf (ky U_)<|Nf xN<|Cq tB<|Cq aA<|Nf aA<|Nf (kc gZ (i _))<|Nf aA<|Nf aA<|Nf aA<|Nf (bM (l:=p) (h:=p+c) Z U_ Z Z Z X X f)<|Nf FD<|Cq tB<|Cq aA<|Nf aA<|Nf aA<|Nf (gQ U_)<|Nf aA<|Nf (by exact dT Z Z Z (show ξ.wrap ((T (a_ l):Int) - ((p+c:Nat):Int))=((C l - (p+c):Nat):Int)by rw[hz,mI X X];omega))<|Nf (by exact dT Z Z Z (show ξ.wrap (((C l - (p+c):Nat):Int) - 1)=((C l - (p+c) - 1:Nat):Int)by rw[mI X X];omega)) ?_;refine Nf jB<|Cq tB<|bF<|Kr ?_;exact⟨Z,⟨_,Z,δ⟩,Z,Z,Z⟩
     have e4:(!θ (a_ (decDigits n)=a_ (R.take c)))=A:=by
      rw[Á λe=>P (by have:=congrArg (λs:B_=>ν (μ s)) e;simpa only[cG]using this)];rfl
     refine aN a7<|Cq aA<|Cq aA<|Cq cI<|Cq aA<|Nf aA<|Nf aA<|Nf (gQ U_)<|Nf AU<|Cq tB<|Cq aA<|Nf aA<|Nf aA<|Nf (ky U_)<|Nf xN<|Cq tB<|Cq aA<|Nf aA<|Nf (kc gZ (i _))<|Nf aA<|Nf aA<|Nf aA<|Nf (bM (l:=p) (h:=p+c) Z U_ Z Z Z X X f)<|Nf FD<|Cq tB<|Cq aA<|Of<|Of<|Of<|Of<|Of<|Of<|Of<|Cq DI<|bF<|Kr ?_;exact⟨Z,⟨_,Z,((E (.inr (.inr (.inl P)))).symm)⟩,Z,Z,Z⟩
    have e3:(!θ (aZ (a_ l) (p+c)=58))=A:=by
     rw[L,Á λe=>J (UInt8.toNat_inj.1 (by show b.toNat=58;omega))];rfl
    refine aN a7<|Cq aA<|Cq aA<|Cq cI<|Cq aA<|Nf aA<|Nf aA<|Nf (gQ U_)<|Nf AU<|Cq tB<|Cq aA<|Nf aA<|Nf aA<|Nf (ky U_)<|Nf xN<|Cq tB<|Cq aA<|Of<|Of<|Of<|Of<|Of<|Of<|Of<|Cq DI<|Cq aA<|Of<|Of<|Of<|Of<|Of<|Of<|Of<|Cq cE<|bF<|Kr ?_;exact⟨Z,⟨_,Z,(by exact(E (.inr (.inl (by rw[y];exact λe=>J (Option.some.inj e))))).symm)⟩,Z,Z,Z⟩
   have e2:θ ((T (a_ l):Int)<=((p+c:Nat):Int))=A:=À X;refine aN a7<|Cq aA<|Cq aA<|Cq cI<|Cq aA<|Nf aA<|Nf aA<|Nf (gQ U_)<|Nf AU<|Cq tB<|Cq aA<|Of<|Of<|Of<|Of<|Cq DI<|Cq aA<|Of<|Of<|Of<|Of<|Of<|Of<|Of<|Cq cE<|Cq aA<|Of<|Of<|Of<|Of<|Of<|Of<|Of<|Cq cE<|bF<|Kr ?_;exact⟨Z,⟨_,Z,(by exact(E (.inr (.inl (by rw[K,getElem?_eq_none X];exact λe=>by cases e)))).symm)⟩,Z,Z,Z⟩
  refine Cn ?_ ?_<;>intro ρ
  .rw[z (hBi ρ)];refine U aH<|V aH<|aC<|gH (H':=[]) (.inr Z) Z (aI Z) (aI Z) (P_ (r:=.tup [.pv (aK []),bv η])) ?_;exact Qq
  have Q:=hBn ρ;have hg:=hgd Q;rw[d,not_or,not_or,not_or]at Q;have hRc:c<C R:=by
   by_cases h:c<C R
   .exact h
   exact absurd (by rw[getElem?_eq_none X];exact λe=>by cases e) Q.2.1
  have hnn:=Q.2.2.2;have g:(a_ l).extract (p+c+1) (p+c+1+n)=a_ ((R.drop (c+1)).take n):=mC (by rw[fW,cG,cG,q,Ø,show p+c+1+n - (p+c+1)=n by omega,show p+(c+1)=p+c+1 by omega]);have hdr:(R.drop (c+1)).drop n=l.drop (p+c+1+n):=by rw[q,Ø,Ø,show p+(c+1+n)=p+c+1+n by omega]
  rw[hdr]at hg;have j:C (D++[a_ ((R.drop (c+1)).take n)])=C D+1:=by rw[j7];rfl
  have W:rM l=(rM (l.drop (p+c+1+n))).map ((D++[a_ ((R.drop (c+1)).take n)])++·):=by
   rw[hJ,hg];cases rM (l.drop (p+c+1+n))<;>simp
  generalize a_ ((R.drop (c+1)).take n)=A_ at g j W;have o:ξ.wrap (((p+c:Nat):Int)+1)=((p+c+1:Nat):Int):=by rw[mI X X];omega
  have γ:ξ.wrap (((p+c+1:Nat):Int)+(n:Int))=((p+c+1+n:Nat):Int):=by rw[mI X X];omega
  refine aB<|U aA<|Y aA<|Y aA<|Y (ka o)<|Y aA<|Y (ka o)<|Y aA<|Y (ka γ)<|Y (by exact bM (l:=p+c+1) (h:=p+c+1+n) Z U_ Z Z Z X (by rw[hz];omega) g)<|Y (by exact aM [[.str A_]] Z aY Z Z Z Z Z R_)<|Y (by exact bU (ps:=[[.str A_]]) Z aY sX Z Z Z Z Z (dB _) Z R_ (m:=1) Z X Z (gP D A_))<|V aH<|Rd aA<|Y (ka o)<|Y aA<|Y (ka γ)<|Da ?_;refine⟨p+c+1+n,D++[A_],⟨X,by rw[j];omega,W⟩,X,?_⟩;dsimp only;rw[j];exact(cJ.wk (Eb<|Ea<|Eb<|T_) (Hc (aL _ _)<|T_) T_)
 have hge:p=C l:=by have:=b_ τ;rw[hz]at this;omega
 rw[hJ,hge,drop_length,QJ];refine aP<|U aA<|Y aH<|V aH<|aC ?_;refine gH (H':=[]) (.inr Z) Z (aI Z) (aI Z) (Fin.st2J (D++[]) (bv A) Z Z (by rw[Ä]) (by rw[Ä]) H_) ?_;exact Qq
def qS(p:j0):List PV:=[.str p.pre,.int .i64 (p.cnt:Int),.str p.sum,aK p.ids]
def qv(P:List j0):PV:=.sl (P.map qS)
theorem Dx(p:j0)(H:aF)(hl:C p.ids<=2000)(hs:∀s∈p.ids,T s<1000000):RC 61 [av (qS p)] (bv (A9 p.pre p.ids&&θ (wL p.ids=p.sum))) H:=by
 refine aU.pure ?_ (by simp[qS]) H;have ρ:C (p.ids.map S_)=C p.ids:=g_ _;have G:=UK p.pre p.ids;generalize A9 p.pre p.ids=I at G |-;refine Bd func61 Z ntmps61<|U (kb 1)<|V aH<|S<|Sz aH<|aD<|bA (σ:=Nat) (λk=>([(1,.ref 1 0 0 0),(3,iv (k:Int))],[(1,bx 4 92 ((qS p).map .pv))])) (λk=>k<=C p.ids/\∀j x,j<k->p.ids[j]?=N x->(m6 x=A/\mO p.pre x=A)/\∀(i:Nat) (y:B_),j=i+1->p.ids[i]?=N y->jZ y x=A) (λk=>C p.ids - k) 0 ⟨k_ _,λj x h=>by omega⟩ ?_ ?_
 .exact Wk
 rintro k ⟨hk,B⟩;refine S<|U aA<|Y (bC xE)<|Y (bT aG)<|Y (fP aE)<|V cH<|Cn ?_ ?_<;>intro Q
 .have hlt:k<C p.ids:=I_ Q
  have ⟨x,J⟩:=aQ hlt;have hi:=cA (f:=S_) J;have κ:=hs x (m7 J);have ⟨y,hy⟩:∃y,y=p.ids.getD (k - 1) a6:=X_;have K:(0:Int)<(k:Int)->p.ids[k - 1]?=N y:=λh=>by
   have ⟨z,L⟩:=aQ (l:=p.ids) (k:=k - 1) X;rw[hy,getD_eq_getElem?_getD,L];rfl
  have g:=λh=>cA (f:=S_) (K h);have D:=λH=>yi x X H;have E:=λH=>oe x p.pre H;have ⟨a,m⟩:∃a,a=m6 x:=X_;have ⟨b,o⟩:∃b,b=mO p.pre x:=X_;have c:((!a||!b)||(θ ((0:Int)<(k:Int))&&!jZ y x))=η->(m6 x=A/\mO p.pre x=A)/\∀(i:Nat) (z:B_),k=i+1->p.ids[i]?=N z->jZ z x=A:=λh=>by
   rw[q_,q_,Bool.not_eq_false',Bool.not_eq_false',m,o]at h;refine⟨h.1,λi z e L=>?_⟩;have F:(0:Int)<(k:Int):=X
   have w:=h.2;rw[À F,Bool.true_and,Bool.not_eq_false']at w;have:=K F;rw[show k - 1=i by omega,L]at this;cases this;exact w
  have W:((!a||!b)||(θ ((0:Int)<(k:Int))&&!jZ y x))=A->I=η:=λh=>by
   cases r:I with
   |false=>rfl
   |true =>
    have ⟨⟨q1,q2⟩,q3⟩:=G.1 r k x J;rw[<-m]at q1;rw[<-o]at q2;rw[q1,q2,Bool.not_true,Bool.or_false,Bool.false_or,l7,l6,r9]at h;have:=q3 (k - 1) y X (K h.1);rw[h.2]at this;cases this
  have ⟨A_,P⟩:∃A_,A_=((!a||!b)||(θ ((0:Int)<(k:Int))&&!jZ y x)):=X_;rw[<-P]at c W;rw[<-m]at D;rw[<-o]at E;clear m o;refine aB<|S<|aD<|S<|qI (t:=46) (n:=36) (A_:=A_) ?_ ?_
  .cases a with
   |false =>
    refine aN a7<|Cq (bC xE)<|Cq (bT aG)<|Cq aA<|Cq (kx aY hi)<|Cq (fK N_ (hi:=hi))<|Cq (kc call37 (D _))<|Cq iJ<|Cq aA<|Of<|Of<|Of<|Of<|Of<|Of<|Of<|Of<|Of<|Cq cE<|Cq aA<|Of<|Of<|Of<|Ou<|Ou<|Ou<|Ou<|Ou<|Ou<|Ou<|Ou<|Ou<|Ou<|Ou<|Ou<|Of<|Cq cE<|bF<|Kr ?_;exact⟨Z,⟨_,Z,(by rw[P];rfl)⟩,Z,Z,Z⟩
   | true =>
    cases b with
    |false =>
     refine aN a7<|Cq (bC xE)<|Cq (bT aG)<|Cq aA<|Cq (kx aY hi)<|Cq (fK N_ (hi:=hi))<|Cq (kc call37 (D _))<|Cq iJ<|Cq aA<|Nf (bC xE)<|Nf (bT aG)<|Nf aA<|Nf (kx aY hi)<|Nf (fK N_ (hi:=hi))<|Nf (bC dx)<|Nf (bT N_)<|Nf (kc call94 (E _))<|Nf iJ<|Cq cE<|Cq aA<|Of<|Of<|Of<|Ou<|Ou<|Ou<|Ou<|Ou<|Ou<|Ou<|Ou<|Ou<|Ou<|Ou<|Ou<|Of<|Cq cE<|bF<|Kr ?_;exact⟨Z,⟨_,Z,(by rw[P];rfl)⟩,Z,Z,Z⟩
    |true =>
     by_cases F:(0:Int)<(k:Int)
     .have e:θ ((0:Int)<(k:Int))=A:=À F;refine aN a7<|Cq (bC xE)<|Cq (bT aG)<|Cq aA<|Cq (kx aY hi)<|Cq (fK N_ (hi:=hi))<|Cq (kc call37 (D _))<|Cq iJ<|Cq aA<|Nf (bC xE)<|Nf (bT aG)<|Nf aA<|Nf (kx aY hi)<|Nf (fK N_ (hi:=hi))<|Nf (bC dx)<|Nf (bT N_)<|Nf (kc call94 (E _))<|Nf iJ<|Cq cE<|Cq aA<|Nf aA<|Nf jB<|Nf aA<|Nt (bC xE)<|Nt (bT aG)<|Nt aA<|Nt (by exact dT Z Z Z (show ξ.wrap ((k:Int) - 1)=((k - 1:Nat):Int)by rw[mI X X];omega))<|Nt (bQ Z aY Z Z X (l_ _) (g F) Z)<|Nt (eG Z N_ Z (g F) Z) ?_;refine Nt (bC xE)<|Nt (bT aG)<|Nt aA<|Nt (kx aY hi)<|Nt (fK N_ (hi:=hi))<|Nt (K9 Z Z Z)<|Nf DI<|Cq cE<|bF<|Kr ?_;exact⟨Z,⟨_,Z,(by rw[P,e];rfl)⟩,Z,Z,Z⟩
     have e:θ ((0:Int)<(k:Int))=η:=Á F;refine aN a7<|Cq (bC xE)<|Cq (bT aG)<|Cq aA<|Cq (kx aY hi)<|Cq (fK N_ (hi:=hi))<|Cq (kc call37 (D _))<|Cq iJ<|Cq aA<|Nf (bC xE)<|Nf (bT aG)<|Nf aA<|Nf (kx aY hi)<|Nf (fK N_ (hi:=hi))<|Nf (bC dx)<|Nf (bT N_)<|Nf (kc call94 (E _))<|Nf iJ<|Cq cE<|Cq aA<|Nf aA<|Nf jB<|Nf aA<|Ot<|Ot<|Ot<|Ot<|Ot<|Ot<|Ot<|Ot<|Ot<|Ot<|Ot<|Ot<|Nf tB<|Cq cE<|bF<|Kr ?_;exact⟨Z,⟨_,Z,(by rw[P,e];rfl)⟩,Z,Z,Z⟩
  refine Cn ?_ ?_<;>intro R
  .rw[W R];exact Sz aH<|aC<|Rt<|Qq
  have d:=c R;refine aB<|Rd aA<|Y kp<|Da ?_;refine⟨k+1,⟨X,λj z hj L=>?_⟩,X,Wk⟩;by_cases e:j=k
  .subst e;rw[J]at L;cases L;exact d
  exact B j z X L
 have τ:k=C p.ids:=J_ Q
 have B:∀(j:Nat) (x:B_),p.ids[j]?=N x->(m6 x=A/\mO p.pre x=A)/\∀(i:Nat) (y:B_),j=i+1->p.ids[i]?=N y->jZ y x=A:=λj x J=>B j x (by have:=(m9.1 J).1;omega) J;have q:I=A:=G.2 B;rw[q,Bool.true_and];have u:=λH=>yh p.ids hl (λs v=>by
  have ⟨j,hj⟩:=s8.1 v;have:=fR (B j s hj).1.1;omega) H
 exact aP<|S<|aN a7<|Cq (bC xE)<|Cq (bT aG)<|Cq (kc call52 (u _))<|Cq (bC Qw)<|Cq (bT N_)<|Cq wV<|Cq aH<|bF<|Kr<|aC<|Rt<|Qq
def WM:Nat->List B_->Option (List j0×List B_)
 |0,l=>N ([],l)
 |n+1,a::b::c::r =>
  if((!pH a||θ (eS b<0))||!m6 c)=A then ζ
  else if eS b<=16 then(if(C r:Int)<eS b then ζ else if(A9 a (r.take (eS b).toNat)&&θ (wL (r.take (eS b).toNat)=c))=A then(WM n (r.drop (eS b).toNat)).map (λq=>(⟨a,(eS b).toNat,c,r.take (eS b).toNat⟩::q.1,q.2))else ζ)
  else(WM n r).map (λq=>(⟨a,(eS b).toNat,c,[]⟩::q.1,q.2))
 |_,_=>ζ
theorem aCD{a:B_}{P:List j0}(h:TJ (a::l)=N P):P≠[]:=by
 match l,h with
 | [],h=>rw[KZ H_ H_]at h;cases h
 | [b],h=>rw[KZ H_ H_]at h;cases h
 | b::c::r,h =>
  by_cases B:((!pH a||θ (eS b<0))||!m6 c)=A
  .rw[bq r B]at h;cases h
  rw[TI r (by simpa using B)]at h;rintro rfl
  split at h
  .split at h
   .cases h
   split at h
   .have ⟨q,_,e⟩:=Option.map_eq_some_iff.1 h;cases e
   cases h
  have ⟨q,_,e⟩:=Option.map_eq_some_iff.1 h;cases e
theorem bp:∀(n:Nat) (l:List B_) (P:List j0),WM n l=N (P,[])↔TJ l=N P/\C P=n
 |0,l,P=>by
  rw[WM];constructor
  .intro h;cases h;exact⟨QX,Z⟩
  rintro⟨B,E⟩;have J:=length_eq_zero_iff.1 E;subst J;cases l with
  |nil=>rfl
  |cons a l=>exact absurd Z (aCD B)
 |n+1,[],P=>by
  rw[show WM (n+1) []=ζ from Z,QX];constructor
  .intro h;cases h
  rintro⟨B,E⟩;cases B;cases E
 |n+1,[a],P=>by
  rw[show WM (n+1) [a]=ζ from Z,KZ H_ H_];constructor
  .intro h;cases h
  rintro⟨B,E⟩;cases B
 |n+1,[a,b],P=>by
  rw[show WM (n+1) [a,b]=ζ from Z,KZ H_ H_];constructor
  .intro h;cases h
  rintro⟨B,E⟩;cases B
 | n+1,a::b::c::r,P=>by
  rw[WM];by_cases F:((!pH a||θ (eS b<0))||!m6 c)=A
  .rw[b6 F,bq r F];constructor
   .intro h;cases h
   rintro⟨B,E⟩;cases B
  rw[a8 F,TI r (by simpa using F)];have key:∀(p:j0) (t:List B_),((WM n t).map (λq=>(p::q.1,q.2))=N (P,[])↔(TJ t).map (p::·)=N P/\C P=n+1):=λp t=>by
   rw[Option.map_eq_some_iff,Option.map_eq_some_iff];constructor
   .rintro⟨⟨Q,z⟩,B,E⟩;cases E;have ⟨G,H⟩:=(bp n t Q).1 B;exact⟨⟨Q,G,Z⟩,by rw[j6,H]⟩
   rintro⟨⟨Q,G,rfl⟩,H⟩;exact⟨(Q,[]),(bp n t Q).2 ⟨G,by simpa using H⟩,Z⟩
  have D:((ζ:Option (List j0×List B_))=N (P,[])↔(ζ:Option (List j0))=N P/\C P=n+1):=⟨(λh=>by cases h),(λh=>by have:=h.1;cases this)⟩
  split
  .next h16 =>
   have I:A4 ⟨a,(eS b).toNat,c,r.take (eS b).toNat⟩=(A9 a (r.take (eS b).toNat)&&θ (wL (r.take (eS b).toNat)=c)):=by
    rw[A4,À (show (((⟨a,(eS b).toNat,c,r.take (eS b).toNat⟩:j0).cnt:Nat):Int)<=16 by show ((eS b).toNat:Int)<=16;omega)];rfl
   rw[I]
   split
   .exact D
   split
   .exact key _ _
   exact D
  exact key _ _
def FI(i_:Int)(l:List B_):List j0×Bool:=match WM i_.toNat l with
 |none=>([],η)
 |some (P,t)=>(P,θ (1<=i_)&&θ (t=[]))
def wY(m:B_):List j0×Bool:=if WZ (rM (ν (μ m)))=A then([],η)else match rM (ν (μ m)) with
 |some (_::n::r)=>FI (eS n) r
 |_=>([],η)
theorem ru(m:B_):(wY m).2=θ (nK m≠[])/\((wY m).2=A->(wY m).1=nK m):=by
 rw[wY];by_cases hX:WZ (rM (ν (μ m)))=A
 .rw[b6 hX,kf hX];exact⟨Z,λh=>by cases h⟩
 rw[a8 hX];obtain ⟨n,r,e1,e2⟩:=cx (by simpa using hX);rw[e1,e2];show (FI (eS n) r).2=_/\((FI (eS n) r).2=true->(FI (eS n) r).1=_);have hlt:=G9 n;generalize eS n=v at hlt |-;have hiff:=bp v.toNat r;rw[FI];cases hp:WM v.toNat r with
 | none =>
  rw[hp]at hiff;refine⟨?_,λh=>by cases h⟩;symm;apply Á;intro h;apply h;cases hq:TJ r with
  |none=>rfl
  |some P =>
   show (if(C P:Int)=v then P else[])=[]
   split
   .next e=>have:=(hiff P).2 ⟨hq,X⟩;cases this
   rfl
 | some q =>
  have ⟨P,t⟩:=q;rw[hp]at hiff;show (θ (1<=v)&&θ (t=[]))=_/\((θ (1<=v)&&θ (t=[]))=A->P=_);by_cases ht:t=[]
  .subst ht;have ⟨e1,e2⟩:=(hiff P).1 Z;rw[e1];show (θ (1<=v)&&A)=θ ((if(C P:Int)=v then P else[])≠[])/\_;by_cases h1:1<=v
   .rw[b6 X,À h1];have hP:P≠[]:=λe=>by rw[e]at e2;simp at e2;omega
    refine⟨by rw[À hP];rfl,λ_=>?_⟩;show P=if(C P:Int)=v then P else[]
    rw[b6 X]
   rw[Á h1];refine⟨?_,λh=>by cases h⟩;symm;apply Á;intro h;apply h
   split
   .next e=>exact length_eq_zero_iff.1 X
   rfl
  rw[Á ht,Bool.and_false];refine⟨?_,λh=>by cases h⟩;symm;apply Á;intro h;apply h;cases hq:TJ r with
  |none=>rfl
  | some Q =>
   show (if(C Q:Int)=v then Q else[])=[]
   split
   .next e =>
    have:=(hiff Q).2 ⟨hq,X⟩;cases this;exact absurd Z ht
   rfl
theorem jn(P:List j0):∀r∈P.map qS,C r=4:=λr B=>by
 obtain ⟨p,_,rfl⟩:=mem_map.1 B;rfl
abbrev TP(P:List j0):List (List AV):=El (P.map qS)
theorem Fin.p52{H1:aF}{id g:Nat}{ob:Ob}(l:List j0)(v:AV)(D:H1.get id=N ob)(E:ob.g=g)(B:ob.rows=TP l)(F:n=C l)(G:Clo [] v):
  Fin [] H1 (.tup [.osl id g 0 n,v]) [] (.tup [.pv (qv l),v]):=by
 subst F E;exact Fin.fz (id:=id) (ob:=ob) (l.map qS) D B (.tup Z (bG (.osl (lG qS l)) (bG (.same G) jV))) Z T_ T_
theorem u5{p:Prop}(h:p:=by simp only[Zl,S_,qS];rfl):p:=h
theorem YA(t:B_)(H:aF)(ht:T t<1000000):RC 23 [sv t] (.tup [.pv (qv (wY t).1),bv (wY t).2]) H:=by
 refine Pu ?_;have G:=λH=>Dc (ν (μ t)) H i8;rw[gA]at G;have hy:WZ (rM (ν (μ t)))=A->wY t=([],η):=λh=>by rw[wY,b6 h]
 have hn:WZ (rM (ν (μ t)))=η->∃n r,rM (ν (μ t))=N (fC::n::r)/\wY t=FI (eS n) r:=λh=>by
  have ⟨n,r,e,_⟩:=cx h;exact⟨n,r,e,by rw[wY,a8 (by rw[h];decide),e]⟩
 have I:∀s∈(rM (ν (μ t))).getD [],T s<1000000:=λs g=>by
  cases h:rM (ν (μ t)) with
  |none=>rw[h]at g;cases g
  |some L =>
   rw[h]at g;have:=(xT _ _ L (h_ _) h).2 s g;rw[aS]at this;omega
 have γ:C ((rM (ν (μ t))).getD [])<1000000:=by
  cases h:rM (ν (μ t)) with
  |none=>exact zero_lt_succ _
  |some L =>
   have:=(xT _ _ L (h_ _) h).1;rw[aS]at this;show C L<_;omega
 generalize rM (ν (μ t))=z at G hy hn I γ;have hX:WZ z=((!z.isSome||θ ((C ((z.getD []).map S_):Int)<2))||!θ ((z.getD []).headD a6=fC)):=rfl;generalize wY t=W at hy hn |-;have ⟨o,ho⟩:∃o,o=z.isSome:=X_;have ⟨L,hL⟩:∃L,L=z.getD []:=X_;have hzL:∀e_,z=N e_->L=e_:=λe_ h=>by rw[hL,h];rfl
 rw[<-ho,<-hL]at G hX;rw[<-hL]at I γ;generalize WZ z=A_ at hX hy hn;have hn:A_=η->∃n r,L=fC::n::r/\W=FI (eS n) r:=λh=>by
  have ⟨n,r,e1,D⟩:=hn h;exact⟨n,r,hzL _ e1,D⟩
 clear ho hL hzL;have h0:¬ ((C (L.map S_):Int)<2)->(L.map S_)[0]?=N (S_ (L.headD a6)):=λh=>by
  cases L with
  |nil=>exact absurd E_ h
  |cons a L=>rfl
 refine Bd func23 Z ntmps23<|U aH<|V aH<|U aA<|Y (kc call58 (G _))<|Y aA<|Y dK<|Y dK<|Y aH<|V aH<|S<|S<|aT (t:=28) (n:=15) (A_:=A_) ?_ ?_
 .all_goals refine Y aA<|Y iJ<|Dm ?_<;>(refine Sp 18 (λh18=>?_) λh18=>?_)<;>(try exact w_)<;>(first|refine M<|M<|M ?_|refine O aA<|O (fP aE)<|O cH ?_)<;>refine Y cE<|Dm ?_<;>(refine Sp 23 (λβ=>?_) λβ=>?_)<;>(try exact w_)<;>(first|refine M<|M<|M<|M ?_|refine O aA<|O (bQ Z aY Z Z X (l_ _) (h0 (b_ β)) Z)<|O (eG Z N_ Z (h0 (b_ β)) Z)<|O FD ?_)<;>refine V cE ?_<;>exact Gj (h:=by rw[hX];first|(rw[h18];rfl)|(rw[h18,β];rfl))
 refine Cn ?_ ?_<;>intro hc1
 .rw[hy hc1];refine U aH<|V aH<|aC<|gH (H':=[]) (.inr Z) Z (aI Z) (aI Z) (P_ (r:=.tup [.pv (qv []),bv η])) ?_;exact Qq
 have ⟨n,B,e1,D⟩:=hn hc1;subst e1;have E:C ((fC::n::B).map S_)=C B+2:=g_ _;have d:∀s∈B,T s<1000000:=λs g=>I s (by simp[g]);have κ:=λH=>T3 (ν (μ n)) H (by have:=I n H_;rw[aS];omega);rw[gA]at κ;have hlt:=G9 n;generalize eS n=i_ at κ D hlt;rw[FI]at D;simp only[j6]at γ;have F:∀(j:Nat) (x:B_),B[j]?=N x->((fC::n::B).map S_)[2+j]?=N (S_ x):=λj x hx=>by
  rw[Nat.add_comm];show (B.map S_)[j]?=_;rw[r7,hx];rfl
 have u:∀j:Nat,((fC::n::B).map S_).drop (2+j)=(B.drop j).map S_:=λj=>by
  rw[Nat.add_comm];show (B.map S_).drop j=_;rw[map_drop]
 clear hX hn hy I h0 G;have ⟨Q,hQ⟩:∃Q,Q=(fC::n::B).map S_:=X_;refine aB<|U aA<|Y (bQ Z aY Z Z X (l_ _) (show ((fC::n::B).map S_)[1]?=N (S_ n)from Z) Z)<|Y (eG Z N_ Z (show ((fC::n::B).map S_)[1]?=N (S_ n)from Z) Z)<|Y (kc call59 (κ _))<|V aH<|Sz (dM (id:=905) (sz:=4) (ty:=92) Z Z Z)<|Sz aH<|S<|Sz aH<|aD<|eN (λ(j:Nat) (P:List j0)=>([(4,.pv (aK (fC::n::B))),(6,iv i_),(7,.osl 905 (C P) 0 (C P)),(8,iv ((2+j:Nat):Int)),(9,iv (C P:Int))],[(905,⟨C P,4,92,TP P⟩)])) (λj P=>j<=C B/\C P<=j/\C P<=i_.toNat/\WM i_.toNat B=(WM (i_.toNat - C P) (B.drop j)).map (λq=>(P++q.1,q.2))) (λj P=>C B - j) 0 [] ⟨k_ _,h_ _,k_ _,by show _=(WM i_.toNat B).map _;cases WM i_.toNat B<;>rfl⟩ ?_ ?_
 .exact Wk
 rintro j P ⟨hj,hPj,hPN,hpt⟩;refine S<|U aA<|Y aA<|V cH<|Cn ?_ ?_<;>intro hc2
 .have hPN2:C P<i_.toNat:=I_ hc2
  have ⟨m,hm⟩:∃m,i_.toNat - C P=m+1:=⟨i_.toNat - C P - 1,X⟩;rw[hm]at hpt;refine aB<|S<|aD<|S<|U aA<|Y (by exact dD Z Z Z (show ξ.wrap (((2+j:Nat):Int)+3)=((2+(j+3):Nat):Int)by rw[mI X X];omega))<|Y aA<|Y (fP aE)<|V jB ?_;refine Cn ?_ ?_<;>intro hc3
  .have hshort:C B<j+3:=by have:=b9 hc3;rw[E]at this;omega
   have δ:WM (m+1) (B.drop j)=ζ:=by
    have hl:C (B.drop j)<3:=by rw[q6];omega
    generalize B.drop j=l at hl
    match l,hl with
    | [],_=>rfl
    | [a],_=>rfl
    | [a,b],_=>rfl
   rw[hpt,δ]at D;rw[D];refine U aH<|V aH<|aC<|gH (H':=[]) (.inr Z) Z (aI Z) (aI Z) (P_ (r:=.tup [.pv (qv []),bv η])) ?_;exact Qq
  have ρ:j+3<=C B:=by have:=b_ hc3;rw[E]at this;omega
  have ⟨a,w⟩:=aQ (l:=B) (k:=j) X;have ⟨b,y⟩:=aQ (l:=B) (k:=j+1) X;have ⟨c,τ⟩:=aQ (l:=B) (k:=j+2) X;have hdr:B.drop j=a::b::c::B.drop (j+3):=by
   have ⟨i1,e1⟩:=m9.1 w;have ⟨i2,D⟩:=m9.1 y;have ⟨i3,e3⟩:=m9.1 τ;rw[Â i1,Â i2,Â i3,e1,D,e3]
  have hal:=d a (m7 w);have hbl:=d b (m7 y);have hcl:=d c (m7 τ);have hia:=F _ _ w;have hib:=F _ _ y;have hic:=F _ _ τ;have hvl:=G9 b;have K:=λH=>T3 (ν (μ b)) H i8;rw[gA]at K;have p:=λH=>vj a H X;have σ:=λH=>yi c X H;rw[hdr,WM]at hpt;generalize eS b=v at hpt K hvl;generalize pH a=pa at hpt p;generalize m6 c=jc at hpt σ;have ⟨y_,hY⟩:∃y_,y_=((!pa||θ (v<0))||!jc):=X_;rw[<-hY]at hpt;refine aB<|S<|aN a7<|x_ aA<|x_ aA<|x_ (by exact bQ Z aY Z Z X (l_ _) hia Z)<|x_ ((fK N_ (hi:=hia)))<|x_ aA<|x_ aA<|x_ (by exact dD Z Z Z (show ξ.wrap (((2+j:Nat):Int)+1)=((2+(j+1):Nat):Int)by rw[mI X X];omega))<|x_ (by exact bQ Z aY Z Z X (l_ _) hib Z)<|x_ ((fK N_ (hi:=hib)))<|x_ (by exact bH Z Z call59 Z (K _))<|x_ aA<|x_ aA<|x_ (by exact dD Z Z Z (show ξ.wrap (((2+j:Nat):Int)+2)=((2+(j+2):Nat):Int)by rw[mI X X];omega)) ?_;refine x_ (by exact bQ Z aY Z Z X (l_ _) hic Z)<|x_ ((fK N_ (hi:=hic)))<|x_ ((oU aGj))<|Cp [10] (λH1 hH=>by exact CY (id:=10) Z aGD Z ((hH _ Z).trans Z))<|Cp [10] (λ_ h=>sa sizeOf92 h)<|bF<|Kr<|U aA<|Y (by exact dD Z Z Z (show ξ.wrap (((2+j:Nat):Int)+3)=((2+(j+3):Nat):Int)by rw[mI X X];omega))<|V aH<|S<|S ?_;refine aT (t:=75) (n:=17) (A_:=y_) ?_ ?_
  .all_goals refine Y (bC dx)<|Y (bT N_)<|Y (kc call60 (p _))<|Y iJ<|Dm ?_<;>(refine Sp 65 (λh65=>?_) λh65=>?_)<;>(try exact w_)<;>(first|refine M<|M<|M ?_|refine O (bC UX)<|O (bT M_)<|O cH ?_)<;>refine Y cE<|Dm ?_<;>(refine Sp 70 (λh70=>?_) λh70=>?_)<;>(try exact w_)<;>(first|refine M<|M<|M<|M ?_|refine O (bC Qw)<|O (bT N_)<|O (kc call37 (σ _))<|O iJ ?_)<;>refine V cE ?_<;>exact Gj (h:=by rw[hY];first|(rw[h65];rfl)|(rw[h65,h70];rfl))
  refine Cn ?_ ?_<;>intro hc4
  .rw[b6 hc4]at hpt;rw[hpt]at D;rw[D];refine U aH<|V aH<|aC<|gH (H':=[]) (.inr Z) Z (aI Z) (aI Z) (P_ (r:=.tup [.pv (qv []),bv η])) ?_;exact Qq
  have hYf:y_=η:=hc4;rw[a8 (by rw[hYf];decide)]at hpt;have hv0:0<=v:=by
   rw[hYf]at hY;have:=hY.symm;rw[q_,q_,q7]at this;omega
  obtain ⟨k,rfl⟩:∃k:Nat,v=(k:Int):=⟨v.toNat,X⟩;rw[l_]at hpt;clear hY K p σ;refine aB<|eT (λ(q:List B_×Nat)=>([(4,.pv (aK (fC::n::B))),(6,iv i_),(7,.osl 905 (C P) 0 (C P)),(8,iv ((2+q.2:Nat):Int)),(9,iv (C P:Int)),(10,.ref 10 0 0 0)],[(10,bx 4 92 [sv a,iv (k:Int),sv c,.pv (aK q.1)]),(905,⟨C P,4,92,TP P⟩)])) (λq=>j+3<=q.2/\q.2<=C B/\WM i_.toNat B=((WM m (B.drop q.2)).map (λz=>(⟨a,k,c,q.1⟩::z.1,z.2))).map (λz=>(P++z.1,z.2))) ?_ ?_
  .refine U (bC UX)<|Y (bT M_)<|V HV<|Cn ?_ ?_<;>intro hc5
   .have h16:(k:Int)<=16:=b9 hc5;rw[b6 h16]at hpt;refine S<|U aA<|Y (bC UX)<|Y (bT M_)<|Y (by exact dD Z Z Z (show ξ.wrap (((2+(j+3):Nat):Int)+(k:Int))=((2+(j+3+k):Nat):Int)by rw[mI X X];omega))<|Y aA<|Y (fP aE)<|V jB ?_;refine Cn ?_ ?_<;>intro hc6
    .have hgt:(C (B.drop (j+3)):Int)<(k:Int):=by have:=b9 hc6;rw[E]at this;rw[q6];omega
     rw[b6 hgt]at hpt;rw[hpt]at D;rw[D];refine U aH<|V aH<|aC<|gH (H':=[]) (.inr Z) Z (aI Z) (aI Z) (P_ (r:=.tup [.pv (qv []),bv η])) ?_;exact Qq
    have hgt:j+3+k<=C B:=by have:=b_ hc6;rw[E]at this;omega
    rw[a8 v6]at hpt;have i:(((fC::n::B).map S_).take (2+(j+3+k))).drop (2+(j+3))=((B.drop (j+3)).take k).map S_:=by
     rw[drop_take,u,show 2+(j+3+k) - (2+(j+3))=k by omega,map_take]
    have hq:C ((B.drop (j+3)).take k)<=2000:=by rw[n_];omega
    have f:=λH=>Dx ⟨a,k,c,(B.drop (j+3)).take k⟩ H hq (λs g=>d s (Ë (Ç g)));rw[Ø]at hpt;simp only at f;generalize (B.drop (j+3)).take k=J at hpt i f hq;generalize (A9 a J&&θ (wL J=c))=rb at hpt f;refine aB<|U aA<|Y aA<|Y aA<|Y (bC UX)<|Y (bT M_)<|Y (by exact dD Z Z Z (show ξ.wrap (((2+(j+3):Nat):Int)+(k:Int))=((2+(j+3+k):Nat):Int)by rw[mI X X];omega))<|Y (by exact eZ (l:=2+(j+3)) (h:=2+(j+3+k)) Z aY Z (dV (fC::n::B)) Z Z X (by rw[E];omega) i)<|Y (bC xE)<|Uu (ku sizeOf22)<|Zz<|U aA<|Y (bC UX)<|Y (bT M_)<|Y (by exact dD Z Z Z (show ξ.wrap (((2+(j+3):Nat):Int)+(k:Int))=((2+(j+3+k):Nat):Int)by rw[mI X X];omega))<|V aH<|U (by exact aW Z isAgg92 sizeOf92 Z Z Z Z u5 Z) ?_;refine Y (kc call61 (f _))<|V iJ<|Cn ?_ ?_<;>intro hc7
    .rw[a8 (by have h:=hc7;intro e;rw[e]at h;cases h)]at hpt;rw[hpt]at D;rw[D];refine U aH<|V aH<|aC<|gH (H':=[]) (.inr Z) Z (aI Z) (aI Z) (P_ (r:=.tup [.pv (qv []),bv η])) ?_;exact Qq
    rw[b6 (pG hc7)]at hpt;refine aB ?_;exact⟨(J,j+3+k),⟨by simp only;omega,by simp only;omega,hpt⟩,Wk⟩
   rw[a8 (b_ hc5)]at hpt;refine aB ?_;exact⟨([],j+3),⟨h_ _,ρ,hpt⟩,Wk⟩
  rintro⟨J,j2⟩ ⟨hj2,hj3,hq⟩;simp only at hj2 hj3 hq;refine Rd aA<|Y (by exact aW Z isAgg92 sizeOf92 Z Z Z Z u5 Z)<|Y (aM [qS ⟨a,k,c,J⟩] Z aEH Z Z Z Z Z (jn [⟨a,k,c,J⟩]))<|Y (by exact bU (k:=C P+1) (ps:=[qS ⟨a,k,c,J⟩]) Z aEH aGd Z Z Z Z Z (by rw[KU,g_]) Z (jn [⟨a,k,c,J⟩]) (m:=1) Z X Z (rows':=TP (P++[⟨a,k,c,J⟩])) (by rw[TP,TP,Ì,El,El,Ì];rfl))<|V aH<|Rd aA<|Y kp<|Da ?_;have R:C (P++[(⟨a,k,c,J⟩:j0)])=C P+1:=by rw[j7];rfl
  refine⟨j2,P++[⟨a,k,c,J⟩],⟨hj3,by rw[R];omega,by rw[R];omega,?_⟩,X,?_⟩
  .rw[hq,R,show i_.toNat - (C P+1)=m by omega];cases WM m (B.drop j2)with
   |none=>rfl
   |some z=>simp
  dsimp only;rw[R];exact L_
 have hge:i_.toNat<=C P:=J_ hc2
 have hPl:C (TP P)=C P:=by rw[KU,g_]
 rw[show i_.toNat - C P=0 by omega,WM]at hpt;rw[hpt]at D;have e3:W=(P,θ (1<=i_)&&θ (B.drop j=[])):=by
  rw[D];show (P++[],_)=_;rw[Ä]
 have hdt:θ (B.drop j=[])=θ (((2+j:Nat):Int)=(C ((fC::n::B).map S_):Int)):=by
  rw[E];exact decide_eq_decide.2 ⟨λh=>by have:=congrArg List.length h;rw[q6]at this;simp at this;omega,λh=>Ú X⟩
 rw[hdt]at e3;rw[e3];by_cases h1:1<=i_
 .have e:θ (1<=i_)=A:=À h1;refine aP<|U aA<|Y aA<|Y AU<|Y aA<|Oa aA<|Oa aA<|Oa (fP aE)<|Oa cI<|Y DI<|Y aH<|V aH<|aC ?_;refine gH (H':=[]) (.inr Z) Z (aI Z) (aI Z) (Fin.p52 (id:=905) P (bv (θ (((2+j:Nat):Int)=(C ((fC::n::B).map S_):Int)))) Z Z Z Z H_) ?_;exact⟨by rw[e];rfl,Z⟩
 have e:θ (1<=i_)=η:=Á h1;refine aP<|U aA<|Y aA<|Y AU<|Y aA<|Fa<|Fa<|Fa<|Fa<|Y tB<|Y aH<|V aH<|aC ?_;refine gH (H':=[]) (.inr Z) Z (aI Z) (aI Z) (Fin.p52 (id:=905) P (bv η) Z Z Z Z H_) ?_;exact⟨by rw[e];rfl,Z⟩
theorem Ef(l:List B_)(p:B_)(H:aF)(Q:C l<1000000):RC 51 [.pv (aK l),sv p] (.pv (aK (eF l p))) H:=by
 refine Pu ?_;have J:C (l.map S_)=C l:=g_ _;refine Bd func51 Z ntmps51<|Sz aH<|Sz (dM (id:=905) (sz:=1) (ty:=9) Z Z Z)<|S<|Sz aH<|aD<|eN (λ(k:Nat) (B:List B_)=>([(0,.pv (aK l)),(1,sv p),(5,.osl 905 (C B) 0 (C B)),(6,iv (k:Int))],[(905,⟨C B,1,9,bP B⟩)])) (λk B=>k<=C l/\C B<=k/\B=eF (l.take k) p) (λk B=>C l - k) 0 [] ⟨k_ _,h_ _,Z⟩ ?_ ?_
 .exact L_
 rintro k B ⟨hk,hAk,hA⟩;refine S<|U aA<|Y aA<|Y (fP aE)<|V cH<|Cn ?_ ?_<;>intro G
 .have hlt:k<C l:=by have:=b9 G;rw[J]at this;omega
  have ⟨x,P⟩:=aQ hlt;have E:=cA (f:=S_) P;have F:=λH=>oe x p H;have D:eF (l.take (k+1)) p=if mO p x=A then B++[x]else B:=by
   rw[eA P,eF,Õ,<-eF,<-hA];by_cases h:mO p x=A
   .rw[b6 h,Ï h];rfl
   rw[a8 h,Î h];simp
  generalize mO p x=b at F D;have K:C (B++[x])=C B+1:=by rw[j7];rfl
  refine aB<|S<|aD<|U aA<|Y aA<|Y (kx aY E)<|Y (fK N_ (hi:=E))<|Y aA<|V (kc call94 (F _))<|Cn ?_ ?_<;>intro I
  ·rw[b6 I]at D;refine Rd aA<|Y aA<|Y aA<|Y (kx aY E)<|Y (fK N_ (hi:=E))<|Y (by exact aM [[.str x]] Z aY Z Z Z Z Z R_)<|Y (by exact bU (ps:=[[.str x]]) Z aY sX Z Z Z Z Z (dB _) Z R_ (m:=1) Z X Z (gP B x))<|V aH<|Rd aA<|Y kp<|Da ?_;refine⟨k+1,B++[x],⟨X,by rw[K];omega,D.symm⟩,X,?_⟩;dsimp only;rw[K];exact(cJ.wk (Eb<|Eb<|Ea<|Eb<|T_) (Hc (aL _ _)<|T_) T_)
  rw[a8 (by rw[show b=η from I];decide)]at D;refine aB<|Rd aA<|Y kp<|Da ?_;exact⟨k+1,B,⟨X,X,D.symm⟩,X,L_⟩
 have L:C l<=k:=by have:=b_ G;rw[J]at this;omega
 rw[Ã L]at hA;rw[<-hA];refine aP<|U aA<|V aH<|aC ?_;refine cR (H':=[]) (.inr Z) Z (aI Z) (Fin.slice0 (id:=905) (B.map S_) Z Z (cX B) (g_ _)) ?_;exact Qq
end Go.Proofs.C
namespace Go.Proofs.C
open Go.Proofs.Tryz
open Go.Abs
def lT(L:List B_):B_:=a_ (aO L)
def ntx(a b:B_):B_:=lT [LP,a,b]
def NIn(f_:B_->Prop):B_->List B_->Nat->Prop
 |_,[],_=>True
 |a,o::r,i=>f_ (if i % 2=1 then ntx o a else ntx a o)/\NIn f_ (if i % 2=1 then T6 o a else T6 a o) r (i / 2)
structure Texts(f_:B_->Prop)(s m:B_)(h:Nat)(sig path:List B_)(i:Nat):Prop where
 m1:∀i,i<2 ^ h->∀k,k<18->∀j,j<15->f_ (MO (oY s i k) j)
 m2:∀i,i<2 ^ h->f_ (lT (U4 s i))
 m3:∀i,i<2 ^ h->NIn f_ (lg s i) (xM h (xO s h) i) i
 c1:∀k,k<18->∀j,j<15 - (Bj m).getD k 0->f_ (MO (sig.getD k a6) j)
 c2:f_ (lT (aBE m sig))
 c3:NIn f_ (wL (aBE m sig)) path i
open Go.Lib
variable{x:B_}{H:aF}{A_:List B_}
def NCl(l:List B_):Prop:=∀(i k:Nat) (x y:B_),k<i->l[i]?=N x->l[k]?=N y->lO x=lO y->x=y
noncomputable def wU(l:List B_):Bool:=!@θ (NCl l) (Classical.propDecidable _)
theorem Dq{l}{i k:Nat}{x y}(e:k<i)(b:l[i]?=N x)(c:l[k]?=N y)(h:lO x=lO y)(d:x≠y):wU l=A:=by rw[wU,@Á _ (Classical.propDecidable _) (λa=>d (a i k x y e b c h))];rfl
theorem Lj{l}(h:NCl l):wU l=η:=by rw[wU,@À _ (Classical.propDecidable _) h];rfl
theorem Me(l:List B_)(H:aF)(hl:C l<=1000000)(hs:∀s∈l,T s<=20000000):RC 56 [.pv (aK l)] (bv (wU l)) H:=by
 refine Pu ?_;have τ:C (l.map S_)=C l:=g_ _;have v:=λi k x y i_ g j D E=>Dq (l:=l) (i:=i) (k:=k) (x:=x) (y:=y) i_ g j D E;have F:=λh=>Lj (l:=l) h;generalize wU l=B at v F |-;refine Bd func56 Z ntmps56<|Sz aH<|Sz (dM (id:=905) (sz:=1) (ty:=9) Z Z Z)<|S<|Sz aH<|aD<|bA (σ:=Nat) (λk=>([(0,.pv (aK l)),(3,.osl 905 k 0 k),(4,iv (k:Int))],[(905,⟨k,1,9,bP ((l.take k).map lO)⟩)])) (λk=>k<=C l) (λk=>C l - k) 0 (k_ _) ?_ ?_
 .exact L_
 intro k hk;have R:C (bP ((l.take k).map lO))=k:=by rw[dB,g_,n_];omega
 refine S<|U aA<|Y aA<|Y (fP aE)<|V cH<|Cn ?_ ?_<;>intro K
 .have w:k<C l:=I_ K
  have ⟨s,J⟩:=aQ w;have f_:=cA (f:=S_) J;have ρ:=hs s (m7 J);have v_:=λH=>yd s X H;have J3:(l.take (k+1)).map lO=(l.take k).map lO++[lO s]:=by rw[eA J,Ì];rfl
  refine aB<|S<|aD<|Rd aA<|Y aA<|Y aA<|Y (kx aY f_)<|Y (fK N_ (hi:=f_))<|Y (kc call95 (v_ _))<|Y (aM ([lO s].map S_) Z aY Z Z Z Z Z (dV _))<|Y (by exact bU (ob:=⟨k,1,9,bP ((l.take k).map lO)⟩) (k:=k+1) (ps:=[lO s].map S_) Z aY sX Z Z Z Z Z R Z (dV _) (m:=1) Z X Z (rows':=bP ((l.take (k+1)).map lO)) (by rw[J3];exact eO _ _))<|V aH<|Rd aA<|Y kp<|Da ?_;exact⟨k+1,X,X,L_⟩
 have n:k=C l:=J_ K
 subst n;have W:C (l.map lO)=C l:=g_ _;rw[Ò];refine aP<|S<|S ?_;refine gK.ent (cJ.fz (id:=905) (E':=[(0,.pv (aK l)),(3,.pv (aK (l.map lO)))]) (H':=[]) ((l.map lO).map S_) Z (cX _)
  (by intro p r;simp only[l9,q8,or_false]at r;rcases r with rfl|rfl<;>first|exact⟨_,Z,.same H_⟩|exact⟨_,Z,.osl (C5 S_ _ W)⟩) Z T_ T_) ?_
 refine Rg<|V aH<|aD<|bA (σ:=Nat) (λi=>([(0,.pv (aK l)),(3,.pv (aK (l.map lO))),(5,iv (i:Int))],[])) (λi=>i<=C l/\∀(t k:Nat) (x y:B_),t<i->k<t->l[t]?=N x->l[k]?=N y->lO x=lO y->x=y) (λi=>C l - i) 0 ⟨k_ _,λ_ _ _ _ h=>by omega⟩ ?_ ?_
 .exact Wk
 rintro i ⟨f_,c_⟩;refine S<|U aA<|Y aA<|Y (fP aE)<|V cH<|Cn ?_ ?_<;>intro d
 .have w:i<C l:=I_ d
  have ⟨x,P⟩:=aQ w;have o:=cA (f:=S_) P;have y_:(l.map lO)[i]?=N (lO x):=by rw[r7,P];rfl
  have c:=cA (f:=S_) y_;refine aB<|S<|aD<|Sz aH<|aD<|bA (σ:=Nat) (λk=>([(0,.pv (aK l)),(3,.pv (aK (l.map lO))),(5,iv (i:Int)),(6,iv (k:Int))],[])) (λk=>k<=i/\∀(m:Nat) (y:B_),m<k->l[m]?=N y->lO x=lO y->x=y) (λk=>i - k) 0 ⟨k_ _,λ_ _ h=>by omega⟩ ?_ ?_
  .exact Wk
  rintro k ⟨hk,d_⟩;refine S<|U aA<|Y aA<|V cH<|Cn ?_ ?_<;>intro G
  .have A_:k<i:=I_ G
   have ⟨y,L⟩:=aQ (l:=l) (k:=k) X;have q:=cA (f:=S_) L;have u_:(l.map lO)[k]?=N (lO y):=by rw[r7,L];rfl
   have b:=cA (f:=S_) u_;by_cases I:lO x=lO y
   .by_cases o_:x=y
    .refine aB<|S<|aD<|S<|aN a7<|Cq aA<|Cq aA<|Cq (kx aY c)<|Cq (fK N_ (hi:=c))<|Cq aA<|Cq aA<|Cq (kx aY b)<|Cq (fK N_ (hi:=b))<|Cq (cQ.valY (yV Z Z Z) ((À I)))<|Cq aA<|Nt aA<|Nt aA<|Nt (kx aY o)<|Nt (fK N_ (hi:=o))<|Nt aA<|Nt aA<|Nt (kx aY q)<|Nt (fK N_ (hi:=q))<|Nt (by exact cQ.valY (TS Z Z Z) ((by rw[À o_];rfl:(!θ (x=y))=η)))<|Cq cE<|bF<|Kr ?_;refine Cn ?_ ?_<;>intro Q
     .cases Q
     refine aB<|Rd aA<|Y kp<|Da ?_;refine⟨k+1,⟨X,λm z i_ g j=>?_⟩,X,Wk⟩;by_cases e:m=k
     .subst e;rw[L]at g;cases g;exact o_
     exact d_ m z X g j
    rw[v i k x y A_ P L I o_];refine aB<|S<|aD<|S<|aN a7<|Cq aA<|Cq aA<|Cq (kx aY c)<|Cq (fK N_ (hi:=c))<|Cq aA<|Cq aA<|Cq (kx aY b)<|Cq (fK N_ (hi:=b))<|Cq (cQ.valY (yV Z Z Z) ((À I)))<|Cq aA<|Nt aA<|Nt aA<|Nt (kx aY o)<|Nt (fK N_ (hi:=o))<|Nt aA<|Nt aA<|Nt (kx aY q)<|Nt (fK N_ (hi:=q))<|Nt (by exact cQ.valY (TS Z Z Z) ((by rw[Á o_];rfl:(!θ (x=y))=A)))<|Cq cE<|bF<|Kr ?_;refine Cn ?_ ?_<;>intro a
    .exact Sz aH<|aC<|Rt<|Qq
    cases a
   refine aB<|S<|aD<|S<|aN a7<|Cq aA<|Cq aA<|Cq (kx aY c)<|Cq (fK N_ (hi:=c))<|Cq aA<|Cq aA<|Cq (kx aY b)<|Cq (fK N_ (hi:=b))<|Cq (cQ.valY (yV Z Z Z) ((Á I)))<|Cq aA<|Ot<|Ot<|Ot<|Ot<|Ot<|Ot<|Ot<|Ot<|Ot<|Cq cE<|bF<|Kr<|Cn ?_ ?_<;>intro z_
   .cases z_
   refine aB<|Rd aA<|Y kp<|Da ?_;refine⟨k+1,⟨X,λm z i_ g j=>?_⟩,X,Wk⟩;by_cases e:m=k
   .subst e;rw[L]at g;cases g;exact absurd j I
   exact d_ m z X g j
  have n:k=i:=J_ G
  subst n;refine aP<|Rd aA<|Y kp<|Da ?_;refine⟨k+1,⟨X,λt m u z i_ g j D E=>?_⟩,X,Wk⟩;by_cases e:t=k
  .subst e;rw[P]at j;cases j;exact d_ m z g D E
  exact c_ t m u z X g j D E
 have n:i=C l:=J_ d
 subst n;rw[F λt m u z g j D E=>c_ t m u z (m9.1 j).1 g j D E];exact aP<|Sz aH<|aC<|Rt<|Qq
theorem Dw(L:List B_)(I:C L<=1000000)(K:∀s∈L,T s<=20000000)(H:aF)(id:Nat)(ob:Ob)(n:Nat)(G:H.get id=N ob)(E:Nat.blt 0 ob.sz=A)(B:ob.rows=bP L)(J:n=C L):aU φ 56 [.osl id ob.g 0 n] H (λr H'=>r=bv (wU L)/\H'=(id,HW ob)::H):=by
 subst J;refine aU.retire (L.map S_) (Me L _ I K) G E (by rw[B];exact cX _) Z ?_;intro i a P F D
 match i with
 |0 =>
  cases F;cases D;refine .inr ⟨0,C L,Z,?_⟩;rw[fV];rfl
 |n+1=>cases F
def ef(ids:List B_)(x:B_):List B_:=(List.range (T x)).map λn=>a_ (aO (eF ids (x.extract 0 (n+1))))
def MJ(ids:List B_):List B_:=ids.flatMap (ef ids)
theorem ee(ids:List B_):mZ ids=a_ (aO ids)::MJ ids:=rfl
theorem Rj{ids:List B_}:C (ef ids x)=T x:=by rw[ef,g_,Ý]
theorem U9{ids:List B_}:∀(l:List B_),(∀x∈l,m6 x=A)->C (l.flatMap (ef ids))=16*C l
 | [],_=>rfl
 |x::l,h=>by
  rw[List.flatMap_cons,j7,Rj,fR (h x List.mem_cons_self),U9 l λy B=>h y (List.mem_cons_of_mem _ B),j6];omega
theorem PH(A_:List B_)(u:C A_<=1000)(o:∀x∈A_,m6 x=A):aU φ 57 [.pv (aK A_)] [] (λr H'=>r=.osl 905 (C (MJ A_)) 0 (C (MJ A_)+1)/\H'=[(905,⟨C (MJ A_),1,9,bP (mZ A_)⟩)]):=by
 have R:C (A_.map S_)=C A_:=g_ _;have F:∀x∈A_,T x=16:=λx I=>fR (o x I);have P:=λH=>GW A_ X (λs h=>by rw[F s h];decide) H;rw[ee,MJ];generalize a_ (aO A_)=J at P |-;have j:=λi=>U9 (ids:=A_) (A_.take i) λx I=>o x (Ç I);refine Bd func57 Z ntmps57<|Sz aH<|U aA<|Y (kc call85 (P _))<|Y (eR (id:=905) Z aY Z Z Z Z H_ Z)<|V aH<|S<|Sz aH<|aD<|eN (λ(i:Nat) (D:List B_)=>([(0,.pv (aK A_)),(3,.osl 905 (C D) 0 (C D+1)),(4,iv (i:Int))],[(905,⟨C D,1,9,bP (J::D)⟩)])) (λi D=>i<=C A_/\D=(A_.take i).flatMap (ef A_)) (λi D=>C A_ - i) 0 [] ⟨k_ _,Z⟩ ?_ ?_
 .exact L_
 rintro i D ⟨hi,hC⟩;have c:=j i;rw[<-hC,n_]at c;refine S<|U aA<|Y aA<|Y (fP aE)<|V cH<|Cn ?_ ?_<;>intro K
 .have hlt:i<C A_:=by have:=b9 K;rw[R]at this;omega
  have ⟨x,I⟩:=aQ hlt;have E:=cA (f:=S_) I;have W:=F x (m7 I);have e:(A_.take (i+1)).flatMap (ef A_)=D++ef A_ x:=by rw[eA I,É,<-hC,Ñ,Ê,Ä]
  refine aB<|S<|aD<|Sz aH<|aD<|eN (λ(n:Nat) (B:List B_)=>([(0,.pv (aK A_)),(3,.osl 905 (C B) 0 (C B+1)),(4,iv (i:Int)),(5,iv ((n+1:Nat):Int))],[(905,⟨C B,1,9,bP (J::B)⟩)])) (λn B=>n<=16/\B=D++(List.range n).map λn=>a_ (aO (eF A_ (x.extract 0 (n+1))))) (λn B=>16 - n) 0 D ⟨k_ _,H_⟩ ?_ ?_
  .exact L_
  rintro n B ⟨hn,hB⟩;have q:C B=C D+n:=by rw[hB,j7,g_,Ý]
  refine S<|U aA<|Y aA<|Y aA<|Y (kx aY E)<|Y (fK N_ (hi:=E))<|Y (gQ U_)<|V HV<|Cn ?_ ?_<;>intro L
  .have hlt2:n<16:=I_ L
   have g:=λH=>Ef A_ (x.extract 0 (n+1)) H X;have t:C (eF A_ (x.extract 0 (n+1)))<=C A_:=Æ _ _;have Q:=λH=>GW (eF A_ (x.extract 0 (n+1))) X (λs h=>by rw[F s (mM.1 h).1];decide) H;have ⟨y,p⟩:∃y,y=a_ (aO (eF A_ (x.extract 0 (n+1)))):=X_;rw[<-p]at Q;have d:D++(List.range (n+1)).map (λn=>a_ (aO (eF A_ (x.extract 0 (n+1)))))=B++[y]:=by rw[range_succ,Ì,<-È,<-hB,p];rfl
   have b:C (B++[y])=C B+1:=by rw[j7];rfl
   refine aB<|S<|aD<|Rd aA<|Y aA<|Y aA<|Y aA<|Y (kx aY E)<|Y (fK N_ (hi:=E))<|Y aA<|Y (by exact bM (l:=0) (h:=n+1) Z U_ Z Z Z X X Z)<|Y (kc call51 (g _))<|Y (kc call85 (Q _))<|Y (by exact aM ([y].map S_) Z aY Z Z Z Z Z (dV _))<|Y (by exact bU (ob:=⟨B.length,1,9,bP (J::B)⟩) (k:=B.length+1+1) (ps:=[y].map S_) Z aY sX Z Z Z Z Z (dB _) Z (dV _) (m:=1) Z X Z (rows':=bP (J::(B++[y]))) (by exact eO (J::B) [y]))<|V aH<|Rd aA<|Y (by exact dD Z Z Z (show IntKind.i64.wrap (((n+1:Nat):Int)+1)=((n+1+1:Nat):Int)by rw[mI X X];omega)) ?_;refine Da ?_;refine⟨n+1,B++[y],⟨X,d.symm⟩,X,?_⟩;dsimp only;rw[b];exact(cJ.wk (Eb<|Ea<|Eb<|Eb<|T_) (Hc (aL _ _)<|T_) T_)
  have G:n=16:=J_ L
  subst G;have a:B=D++ef A_ x:=by rw[hB,ef,W]
  refine aP<|Rd aA<|Y kp<|Da ?_;exact⟨i+1,B,⟨X,a.trans e.symm⟩,X,L_⟩
 have G:C A_<=i:=by have:=b_ K;rw[R]at this;omega
 rw[Ã G]at hC;rw[<-hC];refine aP<|U aA<|V aH<|aC<|cR (H':=[(905,⟨C D,1,9,bP (J::D)⟩)]) (.inr Z) Z (aI Z) P_ ?_;exact Qq
theorem nn(A_:List B_)(D:C A_<=1000)(E:∀x∈A_,m6 x=A)(B:H.get 905=ζ):aU φ 57 [.pv (aK A_)] H (λr H'=>r=.osl 905 (C (MJ A_)) 0 (C (MJ A_)+1)/\H'=(905,⟨C (MJ A_),1,9,bP (mZ A_)⟩)::H) :=aU.frame (PH A_ D E) (λ_ _ h=>by cases h) (λ_ _ h=>by cases h) H_ (λid h=>.inr (by
  by_cases e:905=id
  .subst e;exact B
  simp[aF.get,jX e]at h))
theorem nk(A_:List B_)(B:C A_<=1000)(D:∀x∈A_,m6 x=A)(H:aF):RC 57 [.pv (aK A_)] (.pv (aK (mZ A_))) H:=by refine Pu ?_;refine aU.fin (PH A_ B D) ?_;rintro r H1 ⟨rfl,rfl⟩;exact⟨_,_,Fin.slice0 (id:=905) ((mZ A_).map S_) Z Z (cX _) (by rw[g_,ee];rfl),Z,Z⟩
theorem kj{y_:List B_}(F:IdS A_)(G:IdS y_)(h:¬ wU (mZ A_++mZ y_)=A):V4 A_ y_:=by
 have I:NCl (mZ A_++mZ y_):=Classical.byContradiction λL=>h (by
  rw[wU,@Á _ (Classical.propDecidable _) L];rfl)
 refine Pf F G λx J y K e=>?_;have ⟨i,hi⟩:=getElem?_of_mem J;have ⟨j,H⟩:=getElem?_of_mem K;have B:=(m9.1 hi).1;have D:(mZ A_++mZ y_)[i]?=N x:=by rw[getElem?_append_left B];exact hi
 have E:(mZ A_++mZ y_)[C (mZ A_)+j]?=N y:=by rw[getElem?_append_right X,Nat.add_sub_cancel_left];exact H
 exact(I _ _ y x X E D e.symm).symm
theorem U8(F:C A_<=1000)(B:∀x∈A_,m6 x=A):C (MJ A_)<=16000/\∀s∈mZ A_,T s<=20000000:=by
 refine⟨by rw[MJ,U9 A_ B];omega,λs h=>?_⟩;have E:∀(D:List B_),C D<=1000->(∀x∈D,m6 x=A)->T (a_ (aO D))<=20000000:=λD I G=>by
  rw[cB];refine Nat.le_trans (vE D λs B=>?_) X;rw[fR (G s B)];exact h_ _
 rw[ee]at h;rcases l9.1 h with rfl|h
 .exact E A_ F B
 have ⟨x,_,h⟩:=mem_flatMap.1 h;obtain ⟨n,_,rfl⟩:=mem_map.1 h;exact E _ (Nat.le_trans (Æ _ _) F) λx H=>B x (mM.1 H).1
theorem Gs(G B:List B_)(H:aF)(n:C G<=1000)(o:C B<=1000)(W:∀s∈G,T s<1000000000)(a:∀s∈B,T s<1000000000):RC 22 [.pv (aK G),.pv (aK B)] (bv (wU (mZ (cD G)++mZ (cD B)))) H:=by
 refine Pu ?_;have Q:=λH=>YG G H X W;have R:=λH=>YG B H X a;have j:=qC G;have l:=qC B;have ⟨h,d⟩:=U8 (A_:=cD G) X (xC G);have ⟨i,e⟩:=U8 (A_:=cD B) X (xC B);have J:=λ(H:aF) hno=>nn (cD G) (H:=H) X (xC G) hno;have K:=λH=>nk (cD B) X (xC B) H;have L:C (mZ (cD G))=C (MJ (cD G))+1:=rfl;have f:C (mZ (cD B))=C (MJ (cD B))+1:=rfl;generalize MJ (cD G)=I at *;generalize MJ (cD B)=E at *;generalize cD G=A_ at *;generalize cD B=y_ at *;generalize mZ A_=D at *;generalize mZ y_=F at *;have b:=λH=>Dw (D++F) (by rw[j7];omega) (λx g=>(mem_append.1 g).elim (d x) (e x)) H 905 ⟨C I+1,1,9,bP (D++F)⟩ (C (D++F));have P:C (F.map S_)=C F:=g_ _;have c:C (bP D)=C I+1:=by rw[dB];exact L
 exact Bd func22 Z ntmps22<|Sz aH<|U aA<|Y (kc call19 (Q _))<|Y aA<|Y dK<|Y dK<|Y aH<|V aH<|U aA<|Y (kc call19 (R _))<|Y aA<|Y dK<|Y dK<|Y aH<|V aH<|U aA<|Y (kc call57 (J _ Z))<|Y aA<|Y (kc call57 (K _))<|Y (by exact bU (ob:=⟨C I,1,9,bP D⟩) (k:=C (D++F)) (ps:=F.map S_) Z aY sX Z Z Z Z Z c Z (dV _) (m:=C F) P X (by rw[j7];omega) (rows':=bP (D++F)) (eO _ _))<|Y (kc call56 (b _ Z Z Z Z))<|V aH<|aC<|Rt<|Qq
theorem lf(J3 A_:List B_)(H:aF)(r:C J3<1000000)(s:C A_<1000000)(n:∀t∈J3,T t<1000000000)(h:∀t∈J3,∃i,tI t=N i/\i∉A_):RC 21 [.pv (aK J3),.pv (aK A_)] (bv A) H:=by
 refine Pu ?_;have b:C (J3.map S_)=C J3:=g_ _;have K:C (A_.map S_)=C A_:=g_ _;refine Bd func21 Z ntmps21<|Sz aH<|S<|Sz aH<|aD<|bA (σ:=Nat) (λk=>([(0,.pv (aK J3)),(1,.pv (aK A_)),(5,iv (k:Int))],[])) (λk=>k<=C J3) (λk=>C J3 - k) 0 (k_ _) ?_ ?_
 .exact Wk
 intro k q;refine S<|U aA<|Y aA<|Y (fP aE)<|V cH<|Cn ?_ ?_<;>intro R
 .have hlt:k<C J3:=by have:=b9 R;rw[b]at this;omega
  have ⟨t,l⟩:=aQ hlt;have hi:=cA (f:=S_) l;have L:=m7 l;have o:=n t L;have ⟨I,F,c⟩:=h t L;have E:=λH=>TN (ν (μ t)) i8 H;rw[gA]at E;have D:=G4 (ν (μ t));have B:=λH=>lx (dU (ν (μ t))).1 D.1 D.2 H;rw[tI]at F;generalize dU (ν (μ t))=G at E B F D;have g:G.2=0:=by
   by_cases e:G.2=0
   .exact e
   rw[a8 e]at F;cases F
  rw[b6 g]at F;rw[Option.some.inj F]at B;refine aB<|S<|aD<|U aA<|Y aA<|Y (kx aY hi)<|Y (fK N_ (hi:=hi))<|Y (kc call54 (E _))<|Y aA<|Y dK<|Y dK<|Y (kl 6 fx)<|Uu (jH bJ)<|V aH<|S<|U aA<|V xN<|Cn ?_ ?_<;>intro W
  .exact absurd W (by rw[g];decide)
  refine aB<|U (xB cP bJ)<|Y (kc call55 (B _))<|V aH<|Sz aH<|aD<|bA (σ:=Nat) (λj=>([(0,.pv (aK J3)),(1,.pv (aK A_)),(5,iv (k:Int)),(8,sv I),(9,iv (j:Int))],[])) (λj=>j<=C A_) (λj=>C A_ - j) 0 (k_ _) ?_ ?_
  .exact Wk
  intro j p;refine S<|U aA<|Y aA<|Y (fP aE)<|V cH<|Cn ?_ ?_<;>intro J
  .have hlj:j<C A_:=by have:=b9 J;rw[K]at this;omega
   have ⟨x,Q⟩:=aQ hlj;have P:=cA (f:=S_) Q;have d:x≠I:=λe=>c (by rw[<-e];exact m7 Q);refine aB<|S<|aD<|U aA<|Y aA<|Y (kx aY P)<|Y (fK N_ (hi:=P))<|Y aA<|V wV<|Cn ?_ ?_<;>intro a
   .exact(d (b9 a)).elim
   refine aB<|Rd aA<|Y kp<|Da ?_;exact⟨j+1,X,X,Wk⟩
  have m:C A_<=j:=by have:=b_ J;rw[K]at this;omega
  refine aP<|Rd aA<|Y kp<|Da ?_;exact⟨k+1,X,X,Wk⟩
 exact aP<|Sz aH<|aC<|Rt<|Qq
theorem Tf{a b:List B_}(ha:C a<1000000)(hb:C b<1000000){n:Nat}{t:B_}(h:MsgW (cD a) (cD b) (n+1) t):∀u∈gB b t,recT u=A->u∈b:=by
 have y:=nL ha;have G:=nL hb;generalize hn:n+1=k at h;cases h with
 |recd K E g =>
  intro u B;have ⟨d,f⟩:=AM K;rw[OD b d f]at B;cases B
 | @want m L K E g =>
  intro u B _;rw[gB,FG (λs hs=>G.dig s (E s hs).1) K]at B;rcases mem_append.1 B with B|B
  .obtain ⟨i,hi,rfl⟩:=mem_map.1 B;rcases FE _ _ _ i hi with h|⟨hL,hiY⟩
   .cases h
   exact(FL hiY).2
  cases B
 | @offr m P K E g h4 =>
  intro u B D;have ⟨r,hr⟩:∃r,r=yT (cD b) (kP (P.map fB)):=X_;have hi:=QR y G E g;rw[gB,<-hr]at B;rw[<-hr]at hi;have ⟨s1,⟨L,s2,s3⟩,⟨Q,s4,s5⟩⟩:=hi;rcases mem_append.1 B with B|B
  .obtain ⟨i,hi,rfl⟩:=mem_map.1 B;exact(FL (s1 i hi).1).2
  rcases mem_append.1 B with B|B
  .rw[s2]at B;obtain ⟨R,l,rfl,v,_⟩:=XG y (m:=m+1) s3 u B;rw[recT,UM (λs hs=>y.dig s (s3 s (v s hs)).1) l]at D;cases D
  rw[s4]at B;cases Q with
  |nil=>cases B
  | cons p Q =>
   obtain ⟨W,rfl,_⟩:=s5 p Ô;have j:∀w∈p::Q,By (cD b) W w:=λw hw=>by
    have ⟨m2,e,h⟩:=s5 w hw;obtain rfl:W=m2:=X
    exact h
   obtain ⟨R,rfl,l,x,_⟩:=ke G (cD a) (m:=W) j u B;by_cases H:R=[]
   .subst H;have hz:nK (kP (([]:List j0).map fB))=[]:=G6 [] (λp hp=>by cases hp) E_;cases hx:tI (kP (([]:List j0).map fB))with
    |none=>rw[recT,hx]at D;cases D
    | some i =>
     have ⟨d_,d,f,e3⟩:=NP kP ((p::Q).map fB);rw[d]at B;have ⟨c,z,τ⟩:=mem_map.1 B;obtain ⟨J,rfl,o⟩:=HL fB f c z;have F:J≠[]:=λe=>(e3 _ z).1 (by rw[e];rfl);have ρ:=cw J;have σ:C J<=20000:=by
      rcases(e3 _ z).2 with E|E
      .rw[g_]at E;omega
      omega
     have I:=(wF G (n:=W) (P:=J) (λq hq=>j q (o q hq)) σ).1;rw[τ,hz]at I;exact absurd I.symm F
   rw[recT,MC (wF G (λq hq=>j q (l q hq)) x).1 H]at D;cases D
theorem aAs{a b:List B_}(E:C a<1000000)(G:C b<1000000):∀k,k<=19->(∀t∈(kI a b k).q,recT t=A->t∈a\/t∈b)/\∀t∈(kI a b k).ag++(kI a b k).bg,t∈a\/t∈b
 |0,_=>by
  refine⟨λt B D=>?_,λt B=>by cases B⟩;have B:t∈[gJ (cD a)]:=B;rw[q9]at B;subst B;have e:tI (gJ (cD a))=ζ:=MC (P:=[dA (cD a) a6]) (vC (lL a) (xC a) (nL E).len) (λe=>by cases e);rw[recT,e]at D;cases D
 | k+1,hk=>by
  have H:=IY E G k X;have ⟨n,K⟩:∃n,19 - k=n+1:=⟨18 - k,X⟩;rw[K]at H;have ⟨J,I⟩:=aAs E G k X;rw[kI];by_cases F:k % 2=0
  .rw[b6 F];refine⟨λt B D=>?_,λt B=>?_⟩
   .have ⟨u,hu,htu⟩:=mem_flatMap.1 B;have:=H u hu;rw[b6 F]at this;exact .inr (Tf E G this t htu D)
   have B:t∈(kI a b k).ag++((kI a b k).bg++(kI a b k).q.filter recT):=B;rw[<-È,Ð]at B;rcases B with h|h
   .exact I t h
   rw[Þ]at h;exact J t h.1 h.2
  rw[a8 F];refine⟨λt B D=>?_,λt B=>?_⟩
  .have ⟨u,hu,htu⟩:=mem_flatMap.1 B;have:=H u hu;rw[a8 F]at this;exact .inl (Tf G E this t htu D)
  have B:t∈((kI a b k).ag++(kI a b k).q.filter recT)++(kI a b k).bg:=B;rw[Ð,Ð]at B;rcases B with(h|h)|h
  .exact I t (mem_append_left _ h)
  .rw[Þ]at h;exact J t h.1 h.2
  exact I t (mem_append_right _ h)
theorem qk{D B:List B_}(h:∀k,k<=19->C (kI D B k).q<=1000):∀k,k<=19->C (kI D B k).ag<=1000*k/\C (kI D B k).bg<=1000*k/\(kI D B k).ao<=1+1000*k/\(kI D B k).bo<=1000*k
 |0,_=>⟨h_ _,h_ _,h_ _,h_ _⟩
 | k+1,hk=>by
  obtain ⟨I,J,K,L⟩:=qk h k X;have H:=h k X;have E:=h (k+1) hk;have G:=Æ recT (kI D B k).q;rw[kI]at E |-;by_cases F:k % 2=0
  .rw[b6 F]at E |-;have E:C ((kI D B k).q.flatMap (gB B))<=1000:=E;have c1:=Å (p:=offB) (l:=(kI D B k).q.flatMap (gB B));refine⟨by show C (kI D B k).ag<=_;omega,?_,by show (kI D B k).ao<=_;omega,?_⟩
   .show C ((kI D B k).bg++(kI D B k).q.filter recT)<=_;rw[j7];omega
   show (kI D B k).bo+_<=_;omega
  rw[a8 F]at E |-;have E:C ((kI D B k).q.flatMap (gB D))<=1000:=E;have c1:=Å (p:=offB) (l:=(kI D B k).q.flatMap (gB D));refine⟨?_,by show C (kI D B k).bg<=_;omega,?_,by show (kI D B k).bo<=_;omega⟩
  .show C ((kI D B k).ag++(kI D B k).q.filter recT)<=_;rw[j7];omega
  show (kI D B k).ao+_<=_;omega
theorem aa{D B:List B_}{k:Nat}(h:(kI D B k).q=[]):∀j,kI D B (k+j)=kI D B k
 |0=>rfl
 | j+1=>by
  have e:=aa h j;rw[<-Nat.add_assoc,kI]
  split
  all_goals
   rw[e];generalize kI D B k=s at h |-;have ⟨a,b,c,d,q⟩:=s;have h:q=[]:=h;subst h;simp[Kq,Kp]
def uq(D B:List B_):Nat->Nat
 |0=>0
 |k+1=>if k % 2=0 then uq D B k else uq D B k+C (kI D B k).q
def uo(D B:List B_):Nat->Nat
 |0=>0
 |k+1=>if k % 2=0 then uo D B k+C (kI D B k).q else uo D B k
theorem As{D B:List B_}{k:Nat}(h:(kI D B k).q=[]):∀j,uq D B (k+j)=uq D B k/\uo D B (k+j)=uo D B k
 |0=>⟨Z,Z⟩
 |j+1=>by
  obtain ⟨E,F⟩:=As h j;have e:C (kI D B (k+j)).q=0:=by rw[aa h j,h];rfl
  rw[<-Nat.add_assoc,uq,uo,e,E,F,Nat.add_zero,Nat.add_zero,ite_self,ite_self];exact Qq
theorem zn(t:B_):(wY t).2=offB t:=by rw[(ru t).1,offB];cases nK t<;>simp
theorem HJ{q:List B_}(f:B_->List B_)(i:Nat):C ((q.take i).flatMap f)<=C (q.flatMap f):=by have h:=congrArg (λl=>C (List.flatMap f l)) (Û i q);simp only[É,j7]at h;omega
theorem VE{p:B_->Bool}{l:List B_}{j:Nat}(h:l[j]?=N x):(l.take (j+1)).countP p=(l.take j).countP p+(if p x=A then 1 else 0):=by
 rw[eA h,Ö];by_cases B:p x=A
 .rw[b6 B,countP_cons_of_pos B];rfl
 rw[a8 B,countP_cons_of_neg B];rfl
abbrev sdO(J3:List B_)(id g n o:Nat):Ob:=bx 3 38 [.pv (aK J3),.osl id g 0 n,iv (o:Int)]
abbrev sdF(J3 g:List B_)(o:Nat):Ob:=bx 3 38 [.pv (aK J3),.pv (aK g),iv (o:Int)]
abbrev Is(n:Nat)(g:List B_):Ob:=⟨n,1,9,bP g⟩
abbrev Gk(F B ag bg:List B_)(ao bo D E:Nat):aF:=[(701,sdO F 731 D (C ag) ao),(731,Is D ag),(702,sdO B 732 E (C bg) bo),(732,Is E bg)]
theorem vf(D B:List B_)(ha:C D<500000)(hb:C B<500000)(hsA:∀s∈D,T s<1000000000)(hsB:∀s∈B,T s<1000000000)(τ:∀k,k<=19->C (kI D B k).q<=1000):
  aU φ 20 [.ref 701 0 0 0,.ref 702 0 0 0] (Gk D B [] [] 0 0 0 0)
   (λr H'=>r=bv A/\H'=Gk D B (kI D B 19).ag (kI D B 19).bg (kI D B 19).ao (kI D B 19).bo (uq D B 19) (uo D B 19)):=by
 have how:=λH=>YG D H X hsA;have ⟨o1,o2⟩:=ti D;have hil:=qC D;have β:=λH=>LJ (cD D) H X (λt v=>by rw[fR (xC D t v)];decide);rw[o1,o2]at β;have hlen:=qk τ;have hsz:=λk hk t v=>Vz (a:=D) (b:=B) X X (k:=k) (t:=t) hk v;have hend:=Ks (a:=D) (b:=B) X X;have hst0:kI D B 0=⟨[],[],1,0,[gJ (cD D)]⟩:=rfl;generalize gJ (cD D)=m at β hst0;generalize cD D=A_ at how β;clear o1 o2 hil;refine Bd func20 Z ntmps20<|Sz aH<|U aA<|Y pQ<|Y (bC vd)<|Y (bT aG)<|Y (kc call19 (how _))<|Y aA<|Y dK<|Y dK<|Y aH<|V aH<|U aA<|Y (kc call12 (β _))<|Y aA<|Y dK<|Y dK<|Y aH<|V aH<|S<|U aA<|V xN<|Cn ?_ ?_<;>intro hc1
 .cases hc1
 refine aB<|U aA<|Y pQ<|Y (bC OH)<|Y (bT M_)<|Y (dD Z Z Z (rfl:ξ.wrap (((0:Nat):Int)+1)=((1:Nat):Int)))<|Y pQ<|Y (bC OH)<|Uu (by exact cM Z sizeOf3 Z Z Z Z Z Z y0 u5 u5)<|Zz<|U aA<|V aH<|U aA<|V aH<|U aA<|Y (aM [[.str m]] Z aY Z Z Z Z Z R_)<|V aH<|S<|Sz aH<|aD ?_;refine bA (σ:=Nat) (λk=>([(0,.ref 701 0 0 0),(1,.ref 702 0 0 0),(9,if k % 2=0 then .ref 702 0 0 0 else .ref 701 0 0 0),(10,if k % 2=0 then .ref 701 0 0 0 else .ref 702 0 0 0),(11,.pv (aK (kI D B k).q)),(12,iv (k:Int))],Gk D B (kI D B k).ag (kI D B k).bg (kI D B k).ao (kI D B k).bo (uq D B k) (uo D B k))) (λk=>k<=19) (λk=>19 - k) 0 (k_ _) ?_ ?_
 .rw[hst0];exact L_
 intro k hk;have ⟨l1,l2,l3,l4⟩:=hlen k hk;have hq:=τ k hk;have hz:=hsz k hk;have hbk:∀h:(kI D B k).q≠[],k<=18:=λh=>by
  rcases Nat.lt_or_ge k 19 with h1|h1
  .omega
  exact absurd hend (by rw[show (19:Nat)=k by omega];exact h)
 have I:(kI D B k).q=[]->kI D B 19=kI D B k:=λh=>by
  have:=aa h (19 - k)
  rwa [show k+(19 - k)=19 by omega]at this
 have E:(kI D B k).q=[]->uq D B 19=uq D B k/\uo D B 19=uo D B k:=λh=>by
  have:=As h (19 - k)
  rwa [show k+(19 - k)=19 by omega]at this
 have J:uq D B (k+1)=if k % 2=0 then uq D B k else uq D B k+C (kI D B k).q:=rfl
 have K:uo D B (k+1)=if k % 2=0 then uo D B k+C (kI D B k).q else uo D B k:=rfl
 have ⟨na,hna⟩:∃n,n=uq D B k:=X_;have ⟨nb,hnb⟩:∃n,n=uo D B k:=X_;rw[<-hna]at E J |-;rw[<-hnb]at E K |-;clear hna hnb;have y:kI D B (k+1)=if k % 2=0 then Kp B (kI D B k)else Kq D (kI D B k):=rfl
 have Q:k<=18->C (kI D B (k+1)).q<=1000:=λh=>τ (k+1) X;have L:k<=18->∀t∈(kI D B (k+1)).q,T t<=20000:=λh t v=>hsz (k+1) X t v;rw[y]at Q L;generalize kI D B k=s at l1 l2 l3 l4 hq hz hbk I E J K y Q L |-;clear hst0 how β hlen hsz;have ⟨ag,bg,ao,bo,q⟩:=s;simp only at l1 l2 l3 l4 hq hz hbk I E J K;have hmq:C (q.map S_)=C q:=g_ _;by_cases h2:k % 2=0
 .rw [b6 h2] at y Q L J K;rw [b6 h2,b6 h2];refine S<|S<|aT (t:=52) (n:=8) (A_:=θ ((0:Int) < (C (q.map S_):Int))) ?_ ?_
  .all_goals refine Y aA<|Y cH<|Dm ?_<;>(refine Sp 48 (λh48=>?_) λh48=>?_)<;>(try exact w_)<;>(first|refine M<|M<|M ?_|refine O aA<|O (fP aE)<|O jB ?_)<;>refine V cE ?_<;>exact Gj (h:=by first|rfl|(exfalso;have:=b_ h48;omega))
  refine Cn ?_ ?_<;>intro hc2
  .have hne:q≠[]:=λe=>by have:=b9 hc2;rw[e]at this;exact absurd this E_
   have γ:=hbk hne;have Q:C (q.flatMap (gB B))<=1000:=Q γ;have L:∀t∈q.flatMap (gB B),T t<=20000:=L γ;refine aB<|S<|aD<|Sz (dM (id:=741) (sz:=1) (ty:=9) Z Z Z)<|S<|Sz aH<|aD<|bA (σ:=Nat) (λi=>([(0,.ref 701 0 0 0),(1,.ref 702 0 0 0),(9,.ref 702 0 0 0),(10,.ref 701 0 0 0),(11,.pv (aK q)),(12,iv (k:Int)),(13,.osl 741 i 0 (C ((q.take i).flatMap (gB B)))),(14,iv (i:Int))],Gk D B ag (bg++(q.take i).filter recT) ao (bo+((q.take i).flatMap (gB B)).countP offB) na (nb+i)++[(741,Is i ((q.take i).flatMap (gB B)))])) (λi=>i<=C q) (λi=>C q - i) 0 (k_ _) ?_ ?_
   .simp only[Í,ß,Ê,Ä,Ó,Nat.add_zero];exact L_
   intro i hi;have ρ:=Æ recT (q.take i);rw[n_]at ρ;have κ:=HJ (q:=q) (gB B) i;have δ:=Å (p:=offB) (l:=(q.take i).flatMap (gB B));refine S<|U aA<|Y aA<|Y (fP aE)<|V cH<|Cn ?_ ?_<;>intro hc3
   .have hlt:i<C q:=I_ hc3
    have ⟨t,v⟩:=aQ hlt;have P:=cA (f:=S_) v;have htm:=m7 v;have hts:=hz t htm;have g:=HJ (q:=q) (gB B) (i+1);have e1:(q.take (i+1)).filter recT=(q.take i).filter recT++(if(tI t).isSome=A then[t]else[]):=by
     rw[eA v,Õ];by_cases h:recT t=A
     .rw[b6 (show (tI t).isSome=A from h),Ï h];rfl
     rw[a8 (show ¬ (tI t).isSome=A from h),Î h];rfl
    have e2:(q.take (i+1)).flatMap (gB B)=(q.take i).flatMap (gB B)++gB B t:=by
     rw[eA v,É,Ñ,Ê,Ä]
    have hzt:∀x∈gB B t,T x<=20000:=λx hx=>L x (mem_flatMap.2 ⟨t,htm,hx⟩);rw[e2,j7]at g;have htx:=λH=>QG t H X;have d:=λH=>VR B t H X (λs h=>hsB s h);rw[a8 X,a8 X]at d;have hT1:C (if(tI t).isSome=A then[t]else[])<=1:=by split<;>simp
    have ⟨J3,hT⟩:∃J3,J3=if(tI t).isSome=A then[t]else[]:=X_
    have ⟨G,hG⟩:∃G,G=bg++(q.take i).filter recT:=X_;have hGl:C G<=C bg+i:=by rw[hG,j7];omega
    rw[<-hT]at e1 htx hT1;generalize gB B t=l at e2 d hzt g;generalize (q.take i).flatMap (gB B)=R at e2 κ δ g |-;rw[<-hG];have ⟨w,hO⟩:∃w,w=bo+R.countP offB:=X_;have hOl:w<=bo+1000:=X
    have e3:bg++(q.take (i+1)).filter recT=G++J3:=by rw[e1,hG,È]
    have e4:bo+(R++l).countP offB=w+l.countP offB:=by rw[Ö,hO,Nat.add_assoc]
    rw[<-hO];clear hT hG hO;have hml:C (l.map S_)=C l:=g_ _;refine aB<|S<|aD<|S<|aN a7<|Cr [702] (λ_ _=>aA)<|Cr [702] (λ_ _=>aA)<|Cr [702] (λH1 W=>by exact cT Z Z ((W _ Z).trans Z) Z)<|Cr [702] (λ_ h=>fh F8 h)<|Cr [702] (λ_ h=>lh aG h)<|x_ aA<|x_ aA<|x_ (by exact bQ Z aY Z Z X (l_ _) P Z)<|x_ ((fK N_ (hi:=P)))<|x_ (by exact bH Z Z call17 Z (htx _))<|Cp [732] (λH1 W=>by exact bU (ob:=Is (nb+i) G) (k:=C (G++J3)) (ps:=J3.map S_) Z aY sX Z ((W _ Z).trans Z) Z Z Z (dB _) Z (dV _) (m:=C J3) (g_ _) X (j7).symm (rows':=bP (G++J3)) (eO _ _))<|Cr [702] (λH1 W=>by exact cT Z Z ((W _ Z).trans Z) Z) ?_;refine Cr [702] (λ_ h=>fh F8 h)<|Cp [702] (λH1 W=>by exact cM Z sizeOf22 Z Z Z ((W _ Z).trans Z) Z Z y0 u5 u5)<|bF<|Kr<|S<|aN a7<|Cq aA<|Cq pQ<|Cq (bC vd)<|Cq (bT aG)<|Cq aA<|Cq aA<|Cq (kx aY P)<|Cq (fK N_ (hi:=P))<|Cq (kc call14 (d _))<|Cq aA<|Cq dK<|Cq dK<|Cq aH<|Cq aH<|bF<|Kr<|S<|U aA<|V xN ?_;refine Cn ?_ ?_<;>intro hc4
    .cases hc4
    refine aB<|S<|Sz aH<|aD<|bA (σ:=Nat) (λj=>([(0,.ref 701 0 0 0),(1,.ref 702 0 0 0),(9,.ref 702 0 0 0),(10,.ref 701 0 0 0),(11,.pv (aK q)),(12,iv (k:Int)),(13,.osl 741 i 0 (C R)),(14,iv (i:Int)),(15,.pv (aK l)),(17,iv (j:Int))],Gk D B ag (G++J3) ao (w+(l.take j).countP offB) na (nb+i+1)++[(741,Is i R)])) (λj=>j<=C l) (λj=>C l - j) 0 (k_ _) ?_ ?_
    .simp only[Í,Ó,Nat.add_zero];exact L_
    intro j hj;have z:=Å (p:=offB) (l:=l.take j);rw[n_]at z;refine S<|U aA<|Y aA<|Y (fP aE)<|V cH<|Cn ?_ ?_<;>intro hc5
    .have hlj:j<C l:=I_ hc5
     have ⟨x,hx⟩:=aQ hlj;have hxi:=cA (f:=S_) hx;have hxs:=hzt x (m7 hx);have u:=λH=>YA x H X;have F:=VE (p:=offB) hx;rw[zn x]at u;generalize offB x=b at u F;generalize (l.take j).countP offB=c at F z |-;refine aB<|S<|aD<|U aA<|Y aA<|Y (kx aY hxi)<|Y (fK N_ (hi:=hxi))<|Y (kc call23 (u _))<|Y aA<|Y dK<|Y dK<|Y aH<|V aH<|Sz aA<|Cn ?_ ?_<;>intro hc6
     .rw[b6 hc6]at F;refine Rd aA<|Y pQ<|Y (bC OH)<|Y (bT M_)<|Y (by exact dD Z Z Z (show ξ.wrap (((w+c:Nat):Int)+1)=((w+c+1:Nat):Int)by rw[mI X X];omega))<|Y pQ<|Y (bC OH)<|Uu (by exact cM Z sizeOf3 Z Z Z Z Z Z y0 u5 u5)<|Zz<|Rd aA<|Y kp<|Da ?_;refine⟨j+1,X,X,?_⟩;dsimp only;rw[F];exact L_
     rw[a8 (by rw[show b=η from hc6];decide),Nat.add_zero]at F;refine aB<|Rd aA<|Y kp<|Da ?_;refine⟨j+1,X,X,?_⟩;dsimp only;rw[F];exact L_
    have o:C l<=j:=J_ hc5
    rw[Ã o];refine aP<|Rd aA<|Y aA<|Y (bU (ob:=Is i R) (k:=C (R++l)) (ps:=l.map S_) Z aY sX Z Z Z Z Z (dB _) Z (dV _) (m:=C l) (g_ _) X (j7).symm (rows':=bP (R++l)) (eO _ _))<|V aH<|Rd aA<|Y kp<|Da ?_;refine⟨i+1,X,X,?_⟩;dsimp only;rw[e2,e3,e4];exact L_
   have o:i=C q:=J_ hc3
   subst o;rw[Ò]at ρ κ δ |-;refine aP<|S ?_;refine gK.ent (cJ.fzG (id:=741) (E':=[(0,.ref 701 0 0 0),(1,.ref 702 0 0 0),(9,.ref 702 0 0 0),(10,.ref 701 0 0 0),(12,iv (k:Int)),(13,.pv (aK (q.flatMap (gB B))))]) (H':=Gk D B ag (bg++q.filter recT) ao (bo+(q.flatMap (gB B)).countP offB) na (nb+C q)) ((q.flatMap (gB B)).map S_) Z (cX _) ?_ Z ?_ ?_) ?_
   .intro p hp;simp only[l9,q8,or_false]at hp;rcases hp with rfl|rfl|rfl|rfl|rfl|rfl
    .exact⟨_,Z,.same u3⟩
    .exact⟨_,Z,.same u3⟩
    .exact⟨_,Z,.same u3⟩
    .exact⟨_,Z,.same u3⟩
    .exact⟨_,Z,.same H_⟩
    exact⟨_,Z,.osl (by rw[r8,Ù];exact Ã (by rw[g_];exact h_ _))⟩
   .exact⟨⟨_,Z,Z,Z,Z,dF u3⟩,⟨_,Z,Z,Z,Z,dF (aL _ _)⟩,⟨_,Z,Z,Z,Z,dF u3⟩,⟨_,Z,Z,Z,Z,dF (aL _ _)⟩,T_⟩
   .exact⟨Z,Z,Z,Z,T_⟩
   refine Rd aA<|V aH<|Rd aA<|Y aA<|Y aH<|V aH<|Rd aA<|Y kp<|Da ?_;refine⟨k+1,X,X,?_⟩;dsimp only;rw[y,J,K,a8 (show ¬ (k+1) % 2=0 by omega),a8 (show ¬ (k+1) % 2=0 by omega)];exact L_
  have he:q=[]:=length_eq_zero_iff.1 (J_ hc2);have I:=I he;rw[I,(E he).1,(E he).2];subst he;refine aP<|U aA<|Y (fP aE)<|Y cI<|V aH<|aC<|cR (H':=(Gk D B ag bg ao bo na nb)) (.inr Z) Z (aI Z) Fin.refl ?_;exact Qq
 rw[a8 h2]at y Q L J K;rw[a8 h2,a8 h2];refine S<|S<|aT (t:=52) (n:=8) (A_:=θ ((0:Int)<(C (q.map S_):Int))) ?_ ?_
 .all_goals refine Y aA<|Y cH<|Dm ?_<;>(refine Sp 48 (λh48=>?_) λh48=>?_)<;>(try exact w_)<;>(first|refine M<|M<|M ?_|refine O aA<|O (fP aE)<|O jB ?_)<;>refine V cE ?_<;>exact Gj (h:=by first|rfl|(exfalso;have:=b_ h48;omega))
 refine Cn ?_ ?_<;>intro hc7
 .have hne:q≠[]:=λe=>by have:=b9 hc7;rw[e]at this;exact absurd this E_
  have γ:=hbk hne;have Q:C (q.flatMap (gB D))<=1000:=Q γ;have L:∀t∈q.flatMap (gB D),T t<=20000:=L γ;refine aB<|S<|aD<|Sz (dM (id:=741) (sz:=1) (ty:=9) Z Z Z)<|S<|Sz aH<|aD<|bA (σ:=Nat) (λi=>([(0,.ref 701 0 0 0),(1,.ref 702 0 0 0),(9,.ref 701 0 0 0),(10,.ref 702 0 0 0),(11,.pv (aK q)),(12,iv (k:Int)),(13,.osl 741 i 0 (C ((q.take i).flatMap (gB D)))),(14,iv (i:Int))],Gk D B (ag++(q.take i).filter recT) bg (ao+((q.take i).flatMap (gB D)).countP offB) bo (na+i) nb++[(741,Is i ((q.take i).flatMap (gB D)))])) (λi=>i<=C q) (λi=>C q - i) 0 (k_ _) ?_ ?_
  .simp only[Í,ß,Ê,Ä,Ó,Nat.add_zero];exact L_
  intro i hi;have ρ:=Æ recT (q.take i);rw[n_]at ρ;have κ:=HJ (q:=q) (gB D) i;have δ:=Å (p:=offB) (l:=(q.take i).flatMap (gB D));refine S<|U aA<|Y aA<|Y (fP aE)<|V cH<|Cn ?_ ?_<;>intro hc8
  .have hlt:i<C q:=I_ hc8
   have ⟨t,v⟩:=aQ hlt;have P:=cA (f:=S_) v;have htm:=m7 v;have hts:=hz t htm;have g:=HJ (q:=q) (gB D) (i+1);have e1:(q.take (i+1)).filter recT=(q.take i).filter recT++(if(tI t).isSome=A then[t]else[]):=by
    rw[eA v,Õ];by_cases h:recT t=A
    .rw[b6 (show (tI t).isSome=A from h),Ï h];rfl
    rw[a8 (show ¬ (tI t).isSome=A from h),Î h];rfl
   have e2:(q.take (i+1)).flatMap (gB D)=(q.take i).flatMap (gB D)++gB D t:=by
    rw[eA v,É,Ñ,Ê,Ä]
   have hzt:∀x∈gB D t,T x<=20000:=λx hx=>L x (mem_flatMap.2 ⟨t,htm,hx⟩);rw[e2,j7]at g;have htx:=λH=>QG t H X;have d:=λH=>VR D t H X (λs h=>hsA s h);rw[a8 X,a8 X]at d;have hT1:C (if(tI t).isSome=A then[t]else[])<=1:=by split<;>simp
   have ⟨J3,hT⟩:∃J3,J3=if(tI t).isSome=A then[t]else[]:=X_
   have ⟨G,hG⟩:∃G,G=ag++(q.take i).filter recT:=X_;have hGl:C G<=C ag+i:=by rw[hG,j7];omega
   rw[<-hT]at e1 htx hT1;generalize gB D t=l at e2 d hzt g;generalize (q.take i).flatMap (gB D)=R at e2 κ δ g |-;rw[<-hG];have ⟨w,hO⟩:∃w,w=ao+R.countP offB:=X_;have hOl:w<=ao+1000:=X
   have e3:ag++(q.take (i+1)).filter recT=G++J3:=by rw[e1,hG,È]
   have e4:ao+(R++l).countP offB=w+l.countP offB:=by rw[Ö,hO,Nat.add_assoc]
   rw[<-hO];clear hT hG hO;have hml:C (l.map S_)=C l:=g_ _;refine aB<|S<|aD<|S<|aN a7<|Cr [701] (λ_ _=>aA)<|Cr [701] (λ_ _=>aA)<|Cr [701] (λH1 W=>by exact cT Z Z ((W _ Z).trans Z) Z)<|Cr [701] (λ_ h=>fh F8 h)<|Cr [701] (λ_ h=>lh aG h)<|x_ aA<|x_ aA<|x_ (by exact bQ Z aY Z Z X (l_ _) P Z)<|x_ ((fK N_ (hi:=P)))<|x_ (by exact bH Z Z call17 Z (htx _))<|Cp [731] (λH1 W=>by exact bU (ob:=Is (na+i) G) (k:=C (G++J3)) (ps:=J3.map S_) Z aY sX Z ((W _ Z).trans Z) Z Z Z (dB _) Z (dV _) (m:=C J3) (g_ _) X (j7).symm (rows':=bP (G++J3)) (eO _ _))<|Cr [701] (λH1 W=>by exact cT Z Z ((W _ Z).trans Z) Z) ?_;refine Cr [701] (λ_ h=>fh F8 h)<|Cp [701] (λH1 W=>by exact cM Z sizeOf22 Z Z Z ((W _ Z).trans Z) Z Z y0 u5 u5)<|bF<|Kr<|S<|aN a7<|Cq aA<|Cq pQ<|Cq (bC vd)<|Cq (bT aG)<|Cq aA<|Cq aA<|Cq (kx aY P)<|Cq (fK N_ (hi:=P))<|Cq (kc call14 (d _))<|Cq aA<|Cq dK<|Cq dK<|Cq aH<|Cq aH<|bF<|Kr<|S<|U aA<|V xN ?_;refine Cn ?_ ?_<;>intro hc9
   .cases hc9
   refine aB<|S<|Sz aH<|aD<|bA (σ:=Nat) (λj=>([(0,.ref 701 0 0 0),(1,.ref 702 0 0 0),(9,.ref 701 0 0 0),(10,.ref 702 0 0 0),(11,.pv (aK q)),(12,iv (k:Int)),(13,.osl 741 i 0 (C R)),(14,iv (i:Int)),(15,.pv (aK l)),(17,iv (j:Int))],Gk D B (G++J3) bg (w+(l.take j).countP offB) bo (na+i+1) nb++[(741,Is i R)])) (λj=>j<=C l) (λj=>C l - j) 0 (k_ _) ?_ ?_
   .simp only[Í,Ó,Nat.add_zero];exact L_
   intro j hj;have z:=Å (p:=offB) (l:=l.take j);rw[n_]at z;refine S<|U aA<|Y aA<|Y (fP aE)<|V cH<|Cn ?_ ?_<;>intro hc10
   .have hlj:j<C l:=I_ hc10
    have ⟨x,hx⟩:=aQ hlj;have hxi:=cA (f:=S_) hx;have hxs:=hzt x (m7 hx);have u:=λH=>YA x H X;have F:=VE (p:=offB) hx;rw[zn x]at u;generalize offB x=b at u F;generalize (l.take j).countP offB=c at F z |-;refine aB<|S<|aD<|U aA<|Y aA<|Y (kx aY hxi)<|Y (fK N_ (hi:=hxi))<|Y (kc call23 (u _))<|Y aA<|Y dK<|Y dK<|Y aH<|V aH<|Sz aA<|Cn ?_ ?_<;>intro hc11
    .rw[b6 hc11]at F;refine Rd aA<|Y pQ<|Y (bC OH)<|Y (bT M_)<|Y (by exact dD Z Z Z (show ξ.wrap (((w+c:Nat):Int)+1)=((w+c+1:Nat):Int)by rw[mI X X];omega))<|Y pQ<|Y (bC OH)<|Uu (by exact cM Z sizeOf3 Z Z Z Z Z Z y0 u5 u5)<|Zz<|Rd aA<|Y kp<|Da ?_;refine⟨j+1,X,X,?_⟩;dsimp only;rw[F];exact L_
    rw[a8 (by rw[show b=η from hc11];decide),Nat.add_zero]at F;refine aB<|Rd aA<|Y kp<|Da ?_;refine⟨j+1,X,X,?_⟩;dsimp only;rw[F];exact L_
   have o:C l<=j:=J_ hc10
   rw[Ã o];refine aP<|Rd aA<|Y aA<|Y (bU (ob:=Is i R) (k:=C (R++l)) (ps:=l.map S_) Z aY sX Z Z Z Z Z (dB _) Z (dV _) (m:=C l) (g_ _) X (j7).symm (rows':=bP (R++l)) (eO _ _))<|V aH<|Rd aA<|Y kp<|Da ?_;refine⟨i+1,X,X,?_⟩;dsimp only;rw[e2,e3,e4];exact L_
  have o:i=C q:=J_ hc8
  subst o;rw[Ò]at ρ κ δ |-;refine aP<|S ?_;refine gK.ent (cJ.fzG (id:=741) (E':=[(0,.ref 701 0 0 0),(1,.ref 702 0 0 0),(9,.ref 701 0 0 0),(10,.ref 702 0 0 0),(12,iv (k:Int)),(13,.pv (aK (q.flatMap (gB D))))]) (H':=Gk D B (ag++q.filter recT) bg (ao+(q.flatMap (gB D)).countP offB) bo (na+C q) nb) ((q.flatMap (gB D)).map S_) Z (cX _) ?_ Z ?_ ?_) ?_
  .intro p hp;simp only[l9,q8,or_false]at hp;rcases hp with rfl|rfl|rfl|rfl|rfl|rfl
   .exact⟨_,Z,.same u3⟩
   .exact⟨_,Z,.same u3⟩
   .exact⟨_,Z,.same u3⟩
   .exact⟨_,Z,.same u3⟩
   .exact⟨_,Z,.same H_⟩
   exact⟨_,Z,.osl (by rw[r8,Ù];exact Ã (by rw[g_];exact h_ _))⟩
  .exact⟨⟨_,Z,Z,Z,Z,dF u3⟩,⟨_,Z,Z,Z,Z,dF (aL _ _)⟩,⟨_,Z,Z,Z,Z,dF u3⟩,⟨_,Z,Z,Z,Z,dF (aL _ _)⟩,T_⟩
  .exact⟨Z,Z,Z,Z,T_⟩
  refine Rd aA<|V aH<|Rd aA<|Y aA<|Y aH<|V aH<|Rd aA<|Y kp<|Da ?_;refine⟨k+1,X,X,?_⟩;dsimp only;rw[y,J,K,b6 (show (k+1) % 2=0 by omega),b6 (show (k+1) % 2=0 by omega)];exact L_
 have he:q=[]:=length_eq_zero_iff.1 (J_ hc7);have I:=I he;rw[I,(E he).1,(E he).2];subst he;refine aP<|U aA<|Y (fP aE)<|Y cI<|V aH<|aC<|cR (H':=(Gk D B ag bg ao bo na nb)) (.inr Z) Z (aI Z) Fin.refl ?_;exact Qq
theorem aFL{B D E F:Nat}{a b c d G H I J:Ob}{id:Nat}(h:(aF.get [(B,a),(D,b),(E,c),(F,d)] id).isSome=A):(aF.get [(B,G),(D,H),(E,I),(F,J)] id).isSome=A:=by simp only[aF.get]at h |-;generalize Nat.beq B id=x1,Nat.beq D id=x2,Nat.beq E id=x3,Nat.beq F id=K at h |-;cases x1<;>cases x2<;>cases x3<;>cases K<;>first|rfl|exact h
theorem j9(D B:List B_)(I:C D<500000)(J:C B<500000)(F:∀s∈D,T s<1000000000)(G:∀s∈B,T s<1000000000)(E:∀k,k<=19->C (kI D B k).q<=1000)(K:FB H (Gk D B [] [] 0 0 0 0)):
  aU φ 20 [.ref 701 0 0 0,.ref 702 0 0 0] H (λr H'=>r=bv A/\H'=Gk D B (kI D B 19).ag (kI D B 19).bg (kI D B 19).ao (kI D B 19).bo (uq D B 19) (uo D B 19)++H) :=
 aU.frame (vf D B I J F G E) (FB.sub K) (dO.ofL ⟨x8,(aL _ _),x8,(aL _ _),T_⟩) (by simp;exact⟨Z,Z⟩) (λid h=>.inl (aFL h))
end Go.Proofs.C
