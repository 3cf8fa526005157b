/-
  Parts of the proof. Conditions: each theorem's own.
-/
import Derived.Test.YtopnleflllkbmaaGreatDoorKX3rM4
import Derived.RecoverIn
set_option linter.unusedVariables false
set_option linter.unusedSimpArgs false
set_option maxRecDepth 100000
set_option maxHeartbeats 8000000
open List Nat
namespace Go.Proofs
open Tryz
theorem fV:type_of% call113:=call113
theorem vN:type_of% call138:=call138
theorem rI:type_of% call146:=call146
theorem nC:type_of% call98:=call98
theorem pK:type_of% isAgg174:=isAgg174
theorem oV:type_of% isAgg46:=isAgg46
theorem cT:type_of% isAgg53:=isAgg53
theorem bL:type_of% sizeOf53:=sizeOf53
theorem yW:type_of% underlying124:=underlying124
theorem nQ:type_of% underlying163:=underlying163
end Go.Proofs
namespace Go.Proofs.YtopnleflllkbmaaGreatDoor
open Go.Proofs.Tryz
open Go.Abs
theorem aA1(g)(l)(u):aU Tryz.prog 208 [.ref 2001 0 0 0] (yP g l u) (λr H'=>r=iv (l.length)/\H'=yP g l u):=by refine Bd func208 Z ntmps208<|Sz aI<|O aA<|Y sE<|Y (bA iG)<|Y (bQ eC)<|Y (by exact dS Z dD Z Z Z)<|V aI<|aC ?_;refine cR (.inr Z) Z (aH Z) Fin.refl Qq
abbrev Mn(l:List UInt8)(g:Nat)(u:Bool):Ob:=D2 (.osl 2002 g 0 l.length) u
abbrev Mm(l:List UInt8)(g:Nat):Ob:=⟨g,1,5,fO l⟩
theorem aCr{g c}{l b}{u u'}{id}(h:(aF.get (yP g l u) id).isSome=true):(aF.get (yP c b u') id).isSome=true:=va h
theorem aCq{g}{l}{u u':Bool}{id}(h:(aF.get (Bp g l u) id).isSome=true):(aF.get (yP g l u) id).isSome=true:=by
 simp[Bp,yP,aF.get]at h |-
 grind
theorem aBb{H}{g}{l}{u}(s)(b:H.get 2001=some (Mn l g u))(a:H.get 2002=some (Mm l g))(c:l.length+s.size<70368744177664):aU Tryz.prog 132 [.ref 2001 0 0 0,sv s] H (λr H'=>r=.tup [iv (s.size),.pv MJ]/\H'=yP (g+1) (l++s.data.toList) true++H) :=aU.frame (jC g l u s c) (Sub.of2 b a) (dG.ofL ⟨(gJ Z Z),(eM _ _),T_⟩) m3 (λid h=>.inl (aCr h))
theorem aA0{H}{g}{l}{u}(a:H.get 2001=some (Mn l g u))(b:H.get 2002=some (Mm l g)):RC 208 [.ref 2001 0 0 0] (iv (l.length)) H :=aU.frameS (aA1 g l u) (Sub.of2 a b) (dG.ofL ⟨(gJ Z Z),(eM _ _),T_⟩) m3
theorem Yk{H}{g}{l}{u}(b:H.get 2001=some (Mn l g u))(a:H.get 2002=some (Mm l g))(c:l.length<70368744177664):aU Tryz.prog 133 [.ref 2001 0 0 0] H (λr H'=>r=sv ⟨l.toArray⟩/\H'=Bp g l u++H) :=aU.frame (P9 g l u c) (Sub.of2 b a) (dG.ofL ⟨(gJ Z Z),(eM _ _),T_⟩) m3 (λid h=>.inl (aCq (u':=u) h))
def uK:Nat->Bool
 |0=>false
 |_+1=>true
def pV(l:List b8)(k:Nat):List UInt8:=(l.take k).flatMap λe=>fM e++[10]
theorem XV{l}{k}{e}(h:l[k]?=some e):pV l (k+1)=pV l k++(fM e++[10]):=by rw[pV,take_add_one,h];simp[pV]
theorem r5{p:Prop}(h:p:=by simp only[cK,j7,length_nil,show cX []=0 from rfl];omega):p:=h
theorem WR{e:b8}(r:fX e=true):(fM e).length<=100000:=by
 have ⟨⟨o1,o2⟩,o,o4⟩:=uE.1 r;rw[wN]at o;have hval:=IE r;by_cases q:e.op=1
 ·rw[fM,b7 q,j_,j7,aR];have:=MH (o:=e.obj);show 3+_<=_;omega
 rw[a8 q,k_]at o;have ⟨t,c⟩:=o;have hid:=dI t;have d:∀k:List B_,bs k=gM e->k.length+cX k<=100000->(fM e).length<=100000:=λk h g=>by
  rw[fM,a8 q,<-h];exact Nat.le_trans (fT k) g
 by_cases g:e.op=2
 ·rw[b7 g,nj,k_,j0,j0]at c;have Yp:(aT e.x).size<=7:=by rw[<-aR];show (Lib.itoa e.x).length<=7;rw[jX _ X];exact cV X E_
  have siy:(aT e.y).size<=7:=by rw[<-aR];show (Lib.itoa e.y).length<=7;rw[jX _ X];exact cV X E_
  have f:(⟨#[109,111,118,101]⟩:B_).size=4:=rfl;exact d [⟨#[109,111,118,101]⟩,e.id,aT e.x,aT e.y] (by rw[gM,b7 g];rfl) r5
 rw[a8 g]at c;by_cases i:e.op=3
 ·rw[b7 i,k_]at c;have hks:=dI c.1;have hq:=rB e.val;have f:(⟨#[116,97,103]⟩:B_).size=3:=rfl;exact d [⟨#[116,97,103]⟩,e.id,e.key,⟨(cW e.val.data.toList).toArray⟩] (by rw[gM,a8 g,b7 i];rfl) r5
 rw[a8 i]at c;by_cases j:e.op=4
 ·rw[b7 j,k_,k_,j0,j0,all_eq_true]at c;have ⟨⟨r1,r2⟩,v⟩:=c;have hrs:cX e.refs<=24*e.refs.length:=pA (λs u=>dI (v s u));have f:(⟨#[114,101,102,115]⟩:B_).size=4:=rfl;exact d (⟨#[114,101,102,115]⟩::e.id::e.refs) (by rw[gM,a8 g,a8 i,b7 j];rfl) (by simp only[cK,j7];omega)
 rw[a8 j]at c;by_cases m:e.op=5
 ·have f:(⟨#[100,114,111,112]⟩:B_).size=4:=rfl;exact d [⟨#[100,114,111,112]⟩,e.id] (by rw[gM,a8 g,a8 i,a8 j,b7 m];rfl) r5
 rw[a8 m]at c;by_cases l:e.op=6
 ·rw[b7 l,k_]at c;have hns:=dI c.1;have n:=dI c.2;have f:(⟨#[115,112,108,105,116]⟩:B_).size=5:=rfl;exact d [⟨#[115,112,108,105,116]⟩,e.id,e.node,e.other] (by rw[gM,a8 g,a8 i,a8 j,a8 m,b7 l];rfl) r5
 rw[a8 l]at c;have n:=dI c;have f:(⟨#[106,111,105,110]⟩:B_).size=4:=rfl;exact d [⟨#[106,111,105,110]⟩,e.id,e.other] (by rw[gM,a8 g,a8 i,a8 j,a8 m,a8 l];rfl) r5
theorem se(l:List b8)(H:aF)(A:l.length<2^62)(y:∀e∈l,US e):RC 145 [.pv (kD l)] (.tup [sv (dW l).1,iv (dW l).2]) H:=by
 refine Pu ?_;have hml:(l.map bJ).length=l.length:=j6 _;refine Bd func145 Z ntmps145<|O aI<|V aI<|S<|O aA<|Y (kc call206 (U2 l _ A y))<|V iI<|Cn ?_ ?_<;>intro m
 ·have s:lG l=false:=by have h:=m;rwa [r8]at h
  rw[show dW l=(a6,1)by rw[dW,s];rfl];exact O aI<|V aI<|aC<|Ru<|Qq
 have s:lG l=true:=by have h:=m;rwa [Bool.not_eq_false']at h
 have x:=(IF s).2;have z:dW l=(a_ (rJ [] l).1,(rJ [] l).2):=by rw[dW,b7 s]
 refine aB<|Sz (kl 2001 HG)<|S<|S ?_;refine gG.ent (E':=[(0,.pv (kD l)),(4,.ref 2001 0 0 0)]) (H':=[(2002,⟨0,1,5,[]⟩),(2001,D2 (.osl 2002 0 0 0) false)]) (Q_ 2002 1 5) ?_;refine Rd aA<|Y (fW eW)<|V aA<|aD<|bF (σ:=Nat) (λk=>([(4,.ref 2001 0 0 0),(12,.pv (kD l)),(13,iv ((l.map bJ).length:Int)),(14,iv (k:Int))],[(2001,Mn (pV l k) k (uK k)),(2002,Mm (pV l k) k)])) (λk=>k<=l.length/\rJ [] l=rJ (pV l k) (l.drop k)/\(pV l k).length<=20000) (λk=>l.length - k) 0 ⟨l7 _,Z,l7 _⟩ ?_ ?_
 ·exact(cL.wk (Ea<|Eb<|Eb<|Eb<|T_) (Hc (gJ Z Z)<|Hc (eM _ _)<|T_) T_)
 rintro k ⟨hk,f,hA⟩;refine Sz cJ<|S<|Cn ?_ ?_<;>intro n
 ·have g:k<l.length:=I_ n
  have ⟨e,j⟩:=aS g;have hi:=cE (f:=bJ) j;have i:=m8 j;have c:=XV j;have hYl:=WR (x e i);have w:l.drop k=e::l.drop (k+1):=by
   rw[drop_eq_getElem_cons g]
   simp_all
  rw[w,rJ]at f;have hsz:(a_ (fM e++[10])).size=(fM e).length+1:=by rw[bZ,j_];rfl
  have t:yP (k+1) (pV l k++(a_ (fM e++[10])).data.toList) true=yP (k+1) (pV l (k+1)) true:=by rw[cG,c]
  have hnl:(pV l (k+1)).length=(pV l k).length+((fM e).length+1):=F_
  have D:∀H,H.get 2001=some (Mn (pV l k) k (uK k))->H.get 2002=some (Mm (pV l k) k)->aU Tryz.prog 132 [.ref 2001 0 0 0,sv (a_ (fM e++[10]))] H (λr H'=>r=.tup [iv ((a_ (fM e++[10])).size:Int),.pv MJ]/\H'=yP (k+1) (pV l (k+1)) true++H):=λH B d_=>by
   have:=aBb (H:=H) (a_ (fM e++[10])) B d_ X
   rwa [t]at this
  refine aB<|S<|aD<|O (iO ca)<|Y (fA Z cU aZ Z X Z Z)<|Y (kl 6 U4)<|Uu (jA aZ)<|Zz<|O (wQ cU aZ)<|Y (kc call207 (aAW e _ (y e i) (x e i)))<|Y aA<|Y dK<|Y dK<|Y aI<|V aI<|O aA<|V (kc mY (D _ Z Z))<|S<|aQ (t:=30) (n:=7) (A_:=!decide (fR e=0)||decide ((20000:Int)<((pV l (k+1)).length:Int))) ?_ ?_
  ·all_goals refine Y aA<|Y zB<|Dm ?_<;>(refine Sp 27 (λu=>?_) λu=>?_)<;>(first|exact s_|refine M<|M ?_|refine U (kc call208 (aA0 (l:=pV l (k+1)) (g:=k+1) (u:=true) Z Z))<|U iP ?_)<;>refine V cC ?_<;>exact Gj (h:=by simp_all)
  refine Cn ?_ ?_<;>intro p
  ·have q:fR e≠0\/20000<(pV l k++(fM e++[10])).length:=by have h:=p;rw[<-c];simp only[Bool.or_eq_true,r8,p_,j0]at h;omega
   rw[b7 q]at f;rw[z,f];exact O aI<|V aI<|aC<|Ru<|Qq
  have d:¬ (fR e≠0\/20000<(pV l k++(fM e++[10])).length):=by have h:=p;rw[<-c];simp only[q8,Bool.not_eq_false',p_,j0]at h;omega
  rw[a8 d,<-c]at f;rw[<-c]at d;refine aB<|Rd gX<|V aA ?_;exact⟨k+1,⟨g,f,X⟩,X,(cL.wk (Ea<|Eb<|Eb<|Eb<|T_) (Hc (gJ Z Z)<|Hc (eM _ _)<|T_) T_)⟩
 have v:k=l.length:=J_ n
 subst v;rw[drop_length,rJ]at f;rw[z,f];exact aP<|O (kc mX (Yk (l:=pV l l.length) (g:=l.length) (u:=uK l.length) Z Z X))<|Y aI<|V aI<|aC<|Ru<|Qq
theorem dj(s):(pZ s).data.toList=(aT (s.size)).data.toList++[58]++s.data.toList:=rfl
theorem WW(l:List B_)(H:aF)(hl:(aN l).length<35184372088832):RC 108 [.pv (aL l)] (sv ⟨(aN l).toArray⟩) H:=by
 refine Pu ?_;have hml:(l.map S_).length=l.length:=j6 _;have hll:=zT l;refine Bd func108 Z ntmps108<|Sz aI<|Sz (kl 2001 HG)<|S<|S ?_;refine gG.ent (E':=[(0,.pv (aL l)),(3,.ref 2001 0 0 0)]) (H':=yP 0 [] false) (cL.bld0 ⟨⟨_,Z,.same H_⟩,⟨_,Z,.same m3⟩,T_⟩) ?_;refine Rd aA<|Y (fW underlying131)<|V aA<|aD<|B5 (λ(k g:Nat) (u:Bool)=>([(3,.ref 2001 0 0 0),(6,.pv (aL l)),(7,iv ((l.map S_).length:Int)),(8,iv (k:Int))],yP g (aN (l.take k)) u)) (λk g u=>k<=l.length) (λk g u=>l.length - k) 0 0 false (l7 _) ?_ ?_
 ·exact(cL.wk (Ea<|Eb<|Eb<|Eb<|T_) (Hc (gJ Z Z)<|Hc (eM _ _)<|T_) T_)
 intro k g u hk;have hle:=uD l k;refine Sz cJ<|S<|Cn ?_ ?_<;>intro e
 ·have m:k<l.length:=I_ e
  have ⟨s,j⟩:=aS m;have n:=cE (f:=S_) j;have d:=uD l (k+1);rw[fF j,pP,j_,pB,nE]at d;have hsz:s.size<35184372088832:=X
  have h:aN (l.take (k+1))=aN (l.take k)++(aT (s.size:Int)).data.toList++[58]++s.data.toList:=by
   rw[fF j,pP,dj,append_assoc,append_assoc,append_assoc]
  have hl1:(aN (l.take k)++(aT (s.size:Int)).data.toList).length=(aN (l.take k)).length+(aT (s.size:Int)).size:=F_
  have hl2:(aN (l.take k)++(aT (s.size:Int)).data.toList++[58]).length=(aN (l.take k)).length+(aT (s.size:Int)).size+1:=G_
  refine aB<|S<|aD<|O (bU Z QL Z Z X x6 n Z)<|Y (fZ N_ (hi:=n))<|V aI<|O aA<|Y (gE U_)<|Y (kc lO (pQ (s.size:Int) X X _))<|V (kc mY (jC g (aN (l.take k)) u (aT (s.size:Int)) X))<|Sz (kc mW (kQ (g+1) (aN (l.take k)++(aT (s.size:Int)).data.toList) true 58 X))<|Rd aA<|V (kc mY (jC (g+1+1) (aN (l.take k)++(aT (s.size:Int)).data.toList++[58]) true s X))<|Rd kp<|V aA ?_;refine⟨k+1,g+1+1+1,true,X,X,?_⟩;rw[h];exact(cL.wk (Ea<|Eb<|Eb<|Eb<|T_) (Hc (gJ Z Z)<|Hc (eM _ _)<|T_) T_)
 have i:k=l.length:=J_ e
 subst i;rw[take_length];exact aP<|O (kc mX (P9 g (aN l) u X))<|V aI<|aC<|Rt<|Qq
def jW(l:List b8):B_×Bool:=if l.length=0 then(a6,true)else((dW l).1,decide ((dW l).2=0))
theorem sc(l)(H)(hl:l.length<2^40)(f:∀e∈l,US e):RC 156 [.pv (kD l)] (.tup [sv (jW l).1,bv (jW l).2]) H:=by
 refine Pu ?_;have hml:(l.map bJ).length=l.length:=j6 _;have c:=λH=>se l H X f;have i:l.length=0->jW l=(a6,true):=λh=>by rw[jW,b7 h]
 have g:l.length≠0->jW l=((dW l).1,decide _):=λh=>by rw[jW,a8 h]
 have ⟨T,hT⟩:∃T,T=dW l:=X_;refine Bd func156 Z ntmps156<|O aI<|V aI<|S<|O aA<|Y (fW eW)<|V cD<|Cn ?_ ?_<;>intro b
 ·have d:l.length=0:=I_ b
  rw[i d];exact O aI<|V aI<|aC<|Ru<|Qq
 have d:l.length≠0:=J_ b
 rw[g d];exact aB<|O aA<|Y (bH Z Z call145 Z (c _))<|Y aA<|Y dK<|Y dK<|Y aI<|V aI<|O aA<|Y aA<|Y cD<|Y aI<|V aI<|aC<|Ru<|Qq
def GN:B_:=⟨#[114,101,99,111,114,100]⟩
def MA(r:j8)(T:B_):List IV:=[.t GN,.n r.kind,.n r.author,.n r.number,.n r.clock,.t r.branch,.l r.parents,.t T,.t r.target,.b r.yes,.n r.order,.t r.from']
def nF(r:j8):Prop:=(qC r.kind/\qC r.author/\qC r.number/\qC r.clock/\qC r.order)/\(r.branch.size<2^40/\r.target.size<2^40/\r.from'.size<2^40)/\nn r.parents/\(r.edits.length<2^40/\∀e∈r.edits,US e)/\xU r.sl/\nk r.priv
theorem Sa{r}(h:nF r)(T):∀v∈MA r T,okI v:=by
 have ⟨⟨f,c,g,b,e⟩,_,d,_⟩:=h;intro v a;simp[MA,l9,q7,or_false]at a;rcases a with rfl|rfl|rfl|rfl|rfl|rfl|rfl|rfl|rfl|rfl|rfl|rfl
 ·exact T_
 ·exact f
 ·exact c
 ·exact g
 ·exact b
 ·exact T_
 ·exact d.1
 ·exact T_
 ·exact T_
 ·exact T_
 ·exact e
 exact T_
theorem df{r}(T):(yY (MA r T)).length=r.parents.length+12:=by simp[MA,yY,fI]
def wJ(r:j8):List B_:=yY (MA r (jW r.edits).1)
def mh(r:j8):Nat:=vq (MA r (jW r.edits).1)
theorem V1(r:j8)(f:nF r)(hp:r.parents.length<549755813888):aU Tryz.prog 107 [av (dX r)] [] (λx H'=>x=.osl 971 (mh r) 0 (wJ r).length/\H'=[(971,⟨mh r,1,9,cB (wJ r)⟩)]):=by
 have d:=λH=>sc r.edits H f.2.2.2.1.1 f.2.2.2.1.2;rw[wJ,mh];have ⟨T,g⟩:∃T,T=(jW r.edits).1:=X_;have ⟨b,h⟩:∃b,b=(jW r.edits).2:=X_;rw[<-g,<-h]at d;rw[<-g];have hlen:=df (r:=r) T;have c:=qq (MA r T) (Sa f T) 0 [] (show 12<2^40 by decide) G_;rw[r9,nil_append]at c;refine Bd func107 Z ntmps107<|O (kb 1)<|V aI<|Sz (kl 970 Xp)<|O (bA C8)<|Y (bQ oV)<|Y (kc call156 (d _))<|Y aA<|Y dK<|Y dK<|Y aI<|V aI<|S ?_;refine gG.ent (E':=[(1,.ref 1 0 0 0),(3,.ref 970 0 0 0),(4,sv T)]) (H':=(971,⟨0,1,9,[]⟩)::(970,bx 1 131 [.osl 971 0 0 0])::(1,bx 21 53 ((dX r).map .pv))::[]) ?_ ?_
 ·exact (Q_ 971 1 9)
 refine Rd (gF (p:=.str GN) Z (dR U_ Z) Z)<|Y (bA oH)<|Y (bQ M_)<|Y (gF (p:=.int .i64 r.kind) Z (dR underlying3 Z) Z)<|Y (bA E9)<|Y (bQ M_)<|Y (gF (p:=.int .i64 r.author) Z (dR underlying3 Z) Z)<|Y (bA AN)<|Y (bQ M_)<|Y (gF (p:=.int .i64 r.number) Z (dR underlying3 Z) Z)<|Y (bA E8)<|Y (bQ M_)<|Y (gF (p:=.int .i64 r.clock) Z (dR underlying3 Z) Z)<|Y (bA C9)<|Y (bQ N_)<|Y (gF (p:=.str r.branch) Z (dR U_ Z) Z)<|Y (bA oG)<|Y (bQ aG)<|Y (gF (p:=aL r.parents) Z (dR aE Z) Z)<|Y aA<|Y (gF (p:=.str T) Z (dR U_ Z) Z)<|Y (bA C7)<|Y (bQ N_)<|Y (gF (p:=.str r.target) Z (dR U_ Z) Z)<|Y (bA IH)<|Y (bQ nA)<|Y (gF (p:=.bool r.yes) Z (dR eH Z) Z)<|Y (bA yH)<|Y (bQ M_)<|Y (gF (p:=.int .i64 r.order) Z (dR underlying3 Z) Z)<|Y (bA wX)<|Y (bQ N_)<|Y (gF (p:=.str r.from') Z (dR U_ Z) Z)<|Y (aK ((MA r T).map AO) Z zH Z Z Z Z Z (S7 (MA r T)))<|V (kc vO (iy c ⟨Z,Z,T_⟩ m3))<|O (bQ isAgg131)<|V aI<|aC ?_;refine cR (H':=[(971,⟨vq (MA r T),1,9,cB (yY (MA r T))⟩)]) (.inr Z) Z (aH Z) P_ ?_;exact Qq
end Go.Proofs.YtopnleflllkbmaaGreatDoor
section
namespace Go.Proofs
open Go.RowKit Go.Sort Go.Shelf
def aFW:Go.Shelf.Ren:=⟨λ|172=>138|244=>195|245=>196|247=>245|279=>246|280=>247|281=>248|282=>249|287=>276|316=>277|171=>79|205=>278|321=>301|322=>302|243=>134|246=>192|283=>240|284=>241|285=>242|286=>243|129=>190|317=>271|318=>272|319=>273|320=>274|337=>298|338=>299|n=>n,λ|9=>9|3=>3|75=>163|76=>164|4=>4|5=>5|167=>254|37=>159|0=>0|85=>255|2=>2|168=>257|53=>169|175=>289|46=>157|210=>292|127=>215|145=>311|143=>309|21=>21|171=>249|173=>251|212=>286|51=>213|20=>20|213=>287|232=>317|233=>318|80=>100|n=>n,λ|15=>4|16=>5|17=>2|18=>6|19=>7|n=>n⟩
theorem aF3:Go.Proofs.LaysC.n172 Tryz.prog aFW:={
  mixed:=by rfl
  f129:=Tryz.func190.trans C_
  f171:=Tryz.func79.trans C_
  f172:=Tryz.func138.trans C_
  f205:=Tryz.func278.trans C_
  f243:=Tryz.func134.trans C_
  f244:=Tryz.func195.trans C_
  f245:=Tryz.func196.trans C_
  f246:=Tryz.func192.trans C_
  f247:=Tryz.func245.trans C_
  f279:=Tryz.func246.trans C_
  f280:=Tryz.func247.trans C_
  f281:=Tryz.func248.trans C_
  f282:=Tryz.func249.trans C_
  f283:=Tryz.func240.trans C_
  f284:=Tryz.func241.trans C_
  f285:=Tryz.func242.trans C_
  f286:=Tryz.func243.trans C_
  f287:=Tryz.func276.trans C_
  f316:=Tryz.func277.trans C_
  f317:=Tryz.func271.trans C_
  f318:=Tryz.func272.trans C_
  f319:=Tryz.func273.trans C_
  f320:=Tryz.func274.trans C_
  f321:=Tryz.func301.trans C_
  f322:=Tryz.func302.trans C_
  f337:=Tryz.func298.trans C_
  f338:=Tryz.func299.trans C_
  t0:=DP
  a0:=Tryz.isAgg0
  z0:=Tryz.sizeOf0
  v0:=Tryz.zeroValue0
  t2:=Tryz.underlying2
  a2:=Tryz.isAgg2
  z2:=Tryz.sizeOf2
  v2:=Tryz.zeroValue2
  t3:=Tryz.underlying3
  a3:=Tryz.isAgg3
  z3:=Tryz.sizeOf3
  v3:=sH
  t4:=eH
  a4:=nA
  z4:=Tryz.sizeOf4
  v4:=iU
  t5:=cZ
  a5:=uM
  z5:=cM
  v5:=sF
  t9:=Tryz.underlying9
  a9:=Tryz.isAgg9
  z9:=Tryz.sizeOf9
  v9:=gQ
  t20:=Tryz.underlying20
  a20:=vM
  z20:=Tryz.sizeOf20
  v20:=Tryz.zeroValue20
  t21:=Tryz.underlying21
  a21:=Tryz.isAgg21
  z21:=Tryz.sizeOf21
  v21:=Tryz.zeroValue21
  t37:=dD
  a37:=eC
  z37:=qF
  v37:=Tryz.zeroValue159
  t46:=kZ
  a46:=Tryz.isAgg157
  z46:=AU
  v46:=tH
  t51:=Tryz.underlying213
  a51:=Tryz.isAgg213
  z51:=Tryz.sizeOf213
  v51:=Tryz.zeroValue213
  t53:=gL
  a53:=xC
  z53:=uL
  v53:=tG
  t75:=nQ
  a75:=Tryz.isAgg163
  z75:=Tryz.sizeOf163
  v75:=Tryz.zeroValue163
  t76:=Tryz.underlying164
  a76:=Tryz.isAgg164
  z76:=Tryz.sizeOf164
  v76:=Tryz.zeroValue164
  t85:=Tryz.underlying255
  a85:=Tryz.isAgg255
  z85:=Tryz.sizeOf255
  v85:=Tryz.zeroValue255
  t127:=yU
  a127:=Tryz.isAgg215
  z127:=Tryz.sizeOf215
  v127:=Tryz.zeroValue215
  t143:=Tryz.underlying309
  a143:=Tryz.isAgg309
  z143:=Tryz.sizeOf309
  v143:=Tryz.zeroValue309
  t145:=Tryz.underlying311
  a145:=Tryz.isAgg311
  z145:=Tryz.sizeOf311
  v145:=Tryz.zeroValue311
  t167:=Tryz.underlying254
  a167:=Tryz.isAgg254
  z167:=Tryz.sizeOf254
  v167:=Tryz.zeroValue254
  t168:=Tryz.underlying257
  a168:=Tryz.isAgg257
  z168:=Tryz.sizeOf257
  v168:=Tryz.zeroValue257
  t171:=Tryz.underlying249
  a171:=Tryz.isAgg249
  z171:=Tryz.sizeOf249
  v171:=Tryz.zeroValue249
  t173:=Tryz.underlying251
  a173:=Tryz.isAgg251
  z173:=Tryz.sizeOf251
  v173:=Tryz.zeroValue251
  t175:=Tryz.underlying289
  a175:=Tryz.isAgg289
  z175:=Tryz.sizeOf289
  v175:=Tryz.zeroValue289
  t210:=Tryz.underlying292
  a210:=Tryz.isAgg292
  z210:=Tryz.sizeOf292
  v210:=Tryz.zeroValue292
  t212:=Tryz.underlying286
  a212:=Tryz.isAgg286
  z212:=Tryz.sizeOf286
  v212:=Tryz.zeroValue286
  t213:=Tryz.underlying287
  a213:=Tryz.isAgg287
  z213:=Tryz.sizeOf287
  t232:=Tryz.underlying317
  a232:=Tryz.isAgg317
  z232:=Tryz.sizeOf317
  v232:=Tryz.zeroValue317
  t233:=Tryz.underlying318
  a233:=Tryz.isAgg318
  z233:=Tryz.sizeOf318
  v233:=Tryz.zeroValue318
  g15:=by kernel_rfl
  g16:=by kernel_rfl
  g17:=by kernel_rfl
  g18:=by kernel_rfl
  g19:=by kernel_rfl
  t80:=Tryz.underlying100
  a80:=Tryz.isAgg100
  z80:=Tryz.sizeOf100
  v80:=Tryz.zeroValue100
  i0:=by rfl
  i2:=by rfl
  i3:=by rfl
  i4:=by rfl
  i5:=by rfl
  i9:=by rfl
  i20:=by rfl
  i21:=by rfl
  i37:=by rfl
  i46:=by rfl
  i51:=by rfl
  i53:=by rfl
  i75:=by rfl
  i76:=by rfl
  i80:=by rfl
  i85:=by rfl
  i127:=by rfl
  i143:=by rfl
  i145:=by kernel_rfl
  i167:=by kernel_rfl
  i168:=by kernel_rfl
  i171:=by kernel_rfl
  i173:=by kernel_rfl
  i175:=by kernel_rfl
  i210:=by kernel_rfl
  i212:=by kernel_rfl
  i232:=by kernel_rfl
  i233:=by kernel_rfl
  m15:=by kernel_rfl
  m16:=by kernel_rfl
  m17:=by kernel_rfl
  m18:=by kernel_rfl
  m19:=by kernel_rfl
  c0:=by kernel_rfl
  c2:=by kernel_rfl
  c3:=by kernel_rfl
  c4:=by kernel_rfl
  c5:=by kernel_rfl
  c9:=by kernel_rfl
  c20:=by kernel_rfl
  c21:=by kernel_rfl
  c37:=by kernel_rfl
  c46:=by kernel_rfl
  c51:=by kernel_rfl
  c53:=by kernel_rfl
  c75:=by kernel_rfl
  c76:=by kernel_rfl
  c80:=by kernel_rfl
  c85:=by kernel_rfl
  c127:=by kernel_rfl
  c143:=by kernel_rfl
  c145:=by kernel_rfl
  c167:=by kernel_rfl
  c168:=by kernel_rfl
  c171:=by kernel_rfl
  c173:=by kernel_rfl
  c175:=by kernel_rfl
  c210:=by kernel_rfl
  c212:=by kernel_rfl
  c213:=by kernel_rfl
  c232:=by kernel_rfl
  c233:=by kernel_rfl}
end Go.Proofs
namespace Go.Proofs.YtopnleflllkbmaaGreatDoor
open Go.Proofs.Tryz
open Go.Abs
theorem PN(s)(b:s.size<2^40)(H):RC 138 [sv s] (.tup [iv (pW s).1,.pv (pW s).2]) H :=Go.Abs.atoi_c aF3 (G1:=4) (G2:=5) (by unfold ft;simp_all) (Z) (by unfold ft;simp_all) (Z) s b H
end Go.Proofs.YtopnleflllkbmaaGreatDoor
end
namespace Go.Proofs.YtopnleflllkbmaaGreatDoor
open Go.Proofs.Tryz
open Go.Abs
theorem eh(s:B_)(H:aF)(d:s.size<2^40):RC 202 [sv s] (iv (UU s.data.toList)) H:=by
 refine Pu ?_;have c:=PN s d;unfold pW at c;unfold UU;cases h:Lib.atoiAll s.data.toList with
 |ok v =>
  simp only[h]at c;refine Bd func202 Z ntmps202<|Sz aI<|O aA<|Y (kc vN (c _))<|Y aA<|Y dK<|Y dK<|Y aI<|V aI<|S<|O aA<|V (RV Z nQ Z)<|Cn ?_ ?_<;>intro b
  ·cases b
  exact aB<|O aA<|V aI<|aC<|Rt<|Qq
 |range =>
  simp only[h]at c;refine Bd func202 Z ntmps202<|Sz aI<|O aA<|Y (kc vN (c _))<|Y aA<|Y dK<|Y dK<|Y aI<|V aI<|S<|O aA<|V (HU Z nQ Z)<|Cn ?_ ?_<;>intro b
  ·exact Sz aI<|aC<|Rt<|Qq
  cases b
 |_ =>
  simp only[h]at c;refine Bd func202 Z ntmps202<|Sz aI<|O aA<|Y (kc vN (c _))<|Y aA<|Y dK<|Y dK<|Y aI<|V aI<|S<|O aA<|V (HU Z nQ Z)<|Cn ?_ ?_<;>intro b
  ·exact Sz aI<|aC<|Rt<|Qq
  cases b
end Go.Proofs.YtopnleflllkbmaaGreatDoor
section
namespace Go.Abs
section
variable{P:Program}{N:Nat}{o:Oper}{E:cY}{H:aF}{t t':TypeId}{x:Operand}
abbrev aAm(b:Bool):PV:=bif b then Ay else MJ
theorem RW{b}(a:o.op=.binOp .neq t x (.const .nilIface) t')(d:P.underlying t=some (.interface (P.methodsAt t)))(c:aO E x=some (.pv (aAm b))):cN P N o E H (.pv (.bool b)) H:=by
 cases b
 ·exact RV a d c
 exact HU a d c
end
def jP(s:B_):Int:=(pW s).1
def vK(s:B_):Bool:=match Lib.atoiAll s.data.toList with
 |.ok _=>false
 |_=>true
theorem Nc(s):pW s=(jP s,aAm (vK s)):=by rw[jP,vK,pW];all_goals grind
open Go.Lib
theorem N0(b):∀(a) (n),decFrom n (a++b)=(decFrom n a).bind λx=>decFrom x b
 | [],n=>rfl
 |c::a,n=>by
  rw[List.cons_append,decFrom,decFrom];cases h:digitVal c with
  |none=>rfl
  |some d=>exact N0 b a _
theorem Bt{l}{u}(hne:l≠[])(hm:∀b∈l,48<=b.toNat/\b.toNat<=57)(hd:decFrom 0 l=some u):atoi l=some (u:Int):=by
 cases l with
 |nil=>simp_all
 |cons b r =>
  have d:decNat (b::r)=some u:=by rw[decNat,hd];rfl
  have a:¬ (b == 43)=true:=λh=>by simp_all
  have c:¬ (b == 45)=true:=λh=>by simp_all
  rw[atoi,a8 c,a8 a,d];rfl
theorem Z4{l}{u}(d:l.length<=18)(a:l≠[])(c:∀b∈l,48<=b.toNat/\b.toNat<=57)(hd:decFrom 0 l=some u):atoiAll l=.ok u:=by rw[atoiAll_short _ d,Bt a c hd];rfl
end Go.Abs
namespace Go.Proofs.YtopnleflllkbmaaGreatDoor
open Go.Proofs.Tryz
open Go.Abs Go.Lib
theorem Z3(s)(a:s.size<2^40)(H):RC 138 [sv s] (.tup [iv (jP s),.pv (aAm (vK s))]) H:=by
 have:=PN s a H
 rwa [Nc]at this
abbrev sCo:B_:=⟨#[58]⟩
theorem ll(s)(H:aF):RC 244 [sv s,sv sCo] (iv (Lib.indexByte s.data.toList 58)) H:=by
 refine Pu<|Bd func244 Z ntmps244<|Sz aI<|O aA<|Y (gE U_)<|V aI<|S<|aD<|S<|aQ (t:=16) (n:=9) (A_:=decide (sCo=s)) ?_ ?_
 ·all_goals refine Y aA<|Y cD<|Dm ?_<;>(refine Sp 19 (λc=>?_) λc=>?_)<;>(try contradiction)<;>refine U aA<|U aA<|U wH<|Y cC<|Da ?_<;>exact Gj (h:=by rfl)
 refine Cn ?_ ?_<;>intro d
 ·have e:=b9 d;subst e;exact Sz aI<|aC<|Rt<|Qq
 refine O aA<|Y cD<|Da<|Cn ?_ ?_<;>intro b
 ·exact O aA<|Y aA<|Y (cI Z U_ Z Z X x6 (show 0<(⟨#[58]⟩:B_).size from Nat.zero_lt_one) Z)<|Y (kc call250 (AC s 58 _))<|V aI<|aC<|Rt<|Qq
 cases b
def qc(s:B_):AV:=if Lib.indexByte s.data.toList 58 = -1 then .tup [sv s,sv ⟨#[]⟩,bv false]else .tup [sv (s.extract 0 (Lib.indexByte s.data.toList 58).toNat),sv (s.extract ((Lib.indexByte s.data.toList 58).toNat+1) s.size),bv true]
theorem Fy(s:B_)(H:aF)(hs:s.size<2^40):RC 194 [sv s,sv sCo] (qc s) H:=by
 refine Pu ?_;have d:=λH=>ll s H;rw[qc];rcases Classical.em (Lib.indexByte s.data.toList 58 = -1)with c|c
 ·rw[b7 c];simp only[c]at d;refine Bd func194 Z ntmps194<|O aI<|Y aI<|V aI<|S<|O aA<|Y aA<|Y (kc call244 (d _))<|V aI<|O aA<|V zU<|Cn ?_ ?_<;>intro b
  ·cases b
  refine aB<|O aA<|Y aI<|Y aI<|V aI<|aC<|lX (H':=[]) (.inr Z) Z (aH Z) (aH Z) (aH Z) P_ Qq
 rw[a8 c];have ⟨w,r,f,e2,e⟩:=yF c;simp only[e]at d;rw[e,l_];have hl:w.length+1+r.length=s.size:=by rw[<-show s.data.toList.length=s.size by simp,f,j_,j7];omega
 refine Bd func194 Z ntmps194<|O aI<|Y aI<|V aI<|S<|O aA<|Y aA<|Y (kc call244 (d _))<|V aI<|O aA<|V zU<|Cn ?_ ?_<;>intro b
 ·refine S<|aM a7<|Cq aA<|Cq aA<|Cq (bM (l:=0) (h:=(w.length)) Z U_ Z Z Z X X Z)<|Cq aA<|Cq aA<|Cq aA<|Cq (gE U_)<|Cq kp<|Cq (bM (l:=(w.length+1)) (h:=s.size) Z U_ Z Z Z X X Z)<|Cq aI<|Cq aI<|Cq aI<|bG<|Kr<|aC<|lX (H':=[]) (.inr Z) Z (aH Z) (aH Z) (aH Z) P_ Qq
 have hx:=b_ b;omega
theorem Lu(s)(H:aF)(d:s.size<2^40):RC 137 [sv s,sv sCo] (qc s) H:=by
 refine Pu ?_;have b:=λH=>Fy s H d;rcases Classical.em (Lib.indexByte s.data.toList 58 = -1)with c|c
 ·simp only[qc,b7 c]at b |-;refine Bd func137 Z ntmps137<|O aI<|Y aI<|V aI<|O aA<|Y aA<|Y (bH Z Z call194 Z (b _))<|Y dK<|Y dK<|Y dK<|Y aI<|Y aI<|V aI<|aC<|lX (H':=[]) (.inr Z) Z (aH Z) (aH Z) (aH Z) P_ Qq
 simp only[qc,a8 c]at b |-;refine Bd func137 Z ntmps137<|O aI<|Y aI<|V aI<|O aA<|Y aA<|Y (bH Z Z call194 Z (b _))<|Y dK<|Y dK<|Y dK<|Y aI<|Y aI<|V aI<|aC<|lX (H':=[]) (.inr Z) Z (aH Z) (aH Z) (aH Z) P_ Qq
def B8(l:List UInt8):List UInt8:=l.takeWhile λb=>!decide (b=58)
def DV(l:List UInt8):List UInt8:=(l.dropWhile λb=>!decide (b=58)).drop 1
theorem gz{w r}(h:58∉w):B8 (w++58::r)=w/\DV (w++58::r)=r:=by
 induction w with
 |nil=>exact⟨Z,Z⟩
 |cons b w d =>
  have ⟨a,c⟩:=d (λe=>h (mem_cons_of_mem _ e));rw[B8]at a |-;rw[DV]at c |-;rw[cons_append,takeWhile_cons,dropWhile_cons,b7 G_,b7 G_,a];exact⟨Z,c⟩
theorem Lz:∀ {l},58∉l->B8 l=l/\DV l=[]
 | [],_=>⟨Z,Z⟩
 |b::l,h=>by
  obtain ⟨a,c⟩:=Lz (λe=>h (mem_cons_of_mem _ e));rw[B8]at a |-;rw[DV]at c |-;rw[takeWhile_cons,dropWhile_cons,b7 G_,b7 G_,a];exact⟨Z,c⟩
theorem wg(l:List UInt8):qc (a_ l)=.tup [sv (a_ (B8 l)),sv (a_ (DV l)),bv (decide ((58:UInt8)∈l))]:=by
 rw[qc,cG];by_cases h:Lib.indexByte l 58 = -1
 ·rw[b7 h];have b:=yE.1 h;rw[(Lz b).1,(Lz b).2,decide_eq_false b];rfl
 rw[a8 h];have ⟨w,r,e,c,f⟩:=yF h;rw[f,l_];subst e;rw[(gz c).1,(gz c).2,decide_eq_true H_];have g:(a_ (w++58::r)).extract 0 w.length=a_ w:=mS (by rw[gB,cG,cG,drop_zero,Nat.sub_zero,take_left]);have d:(a_ (w++58::r)).extract (w.length+1) _=a_ r:=mS (by
  rw[rY,cG,cG,<-drop_drop,drop_left];rfl)
 rw[g,d]
theorem XR(s): -9223372036854775808<=jP s/\jP s<=9223372036854775807:=by
 rw[jP,pW];cases e:Lib.atoiAll _ with
 |ok v=>exact Lib.atoiAll_bounds e
 |range =>
  show _<=Lib.atoiSat _/\Lib.atoiSat _<=_;rw[Lib.atoiSat];omega
 |_ =>
  simp_all
theorem Ma(l):(B8 l).length<=l.length/\(DV l).length<=l.length:=by
 constructor
 ·exact(takeWhile_sublist _).length_le
 rw[DV,q6];have:=(dropWhile_sublist (l:=l) λb=>!decide (b=58)).length_le;omega
theorem Nb{l}{u}(d:l.length<=18)(a:l≠[])(c:∀b∈l,48<=b.toNat/\b.toNat<=57)(hd:decFrom 0 l=some u):vK (a_ l)=false/\jP (a_ l)=u:=by
 have h:=Z4 d a c hd;constructor
 ·rw[vK,cG,h]
 rw[jP,pW,cG,h]
theorem MS(n:Nat):(aT n).data.toList=decDigits n:=rfl
theorem iB(x)(L):aN (x::L)=decDigits x.size++58::(x.data.toList++aN L):=by have a:aN (x::L)=(pZ x).data.toList++aN L:=rfl;rw[a,pZ,ByteArray.data_append,Array.toList_append,ByteArray.data_append,Array.toList_append,MS];simp
theorem TA(n):58∉decDigits n:=λh=>by
 have:=pH n h;exact absurd this.2 H_
theorem fb(A B):aN (A++B)=aN A++aN B:=flatMap_append
end Go.Proofs.YtopnleflllkbmaaGreatDoor
end
namespace Go.Proofs.YtopnleflllkbmaaGreatDoor
open Go.Proofs.Tryz
open Go.Abs Go.Lib
def KA(l:List UInt8):Bool:=((!decide ((58:UInt8)∈l)||vK (a_ (B8 l)))||decide (jP (a_ (B8 l))<0))||decide (((DV l).length:Int)<jP (a_ (B8 l)))
def nxN(l:List UInt8):Nat:=(jP (a_ (B8 l))).toNat
def oU(l:List UInt8):Option (B_×List UInt8):=if KA l=true then none else some (a_ ((DV l).take (nxN l)),(DV l).drop (nxN l))
def xG(l:List UInt8):Option (Int×List UInt8):=match oU l with
 |none=>none
 |some (s,r)=>if vK s=true then none else some (jP s,r)
def GO{α:Type}(f:List UInt8->Option (α×List UInt8)):Nat->List UInt8->Option (List α×List UInt8)
 |0,l=>some ([],l)
 | n+1,l=>match f l with
  |none=>none
  |some (x,r)=>match GO f n r with
   |none=>none
   |some (xs,q)=>some (x::xs,q)
def C1{α:Type}(f:List UInt8->Option (α×List UInt8))(l:List UInt8):Option (List α×List UInt8):=match xG l with
 |none=>none
 |some (n,r)=>GO f n.toNat r
def RL(l:List UInt8):Option ((Int×Int)×List UInt8):=match xG l with
 |none=>none
 |some (x,r)=>match xG r with
  |none=>none
  |some (y,q)=>some ((x,y),q)
def yd(l:List UInt8):Option (n_×List UInt8):=match xG l with
 |none=>none
 | some (i,r)=>match C1 oU r with
  |none=>none
  |some (a,q)=>match C1 oU q with
   |none=>none
   |some (b,p)=>some (⟨i,a,b⟩,p)
def HP(x:B_):Prop:=x.size<1000000000000000000
theorem mB{x}(L)(d:HP x):oU (aN (x::L))=some (x,aN L):=by
 obtain ⟨c,a⟩:=gz (TA _);rw[<-iB]at c a;obtain ⟨f,g⟩:=Nb (cV (show x.size<10 ^ 18 from d) H_) (nO _) (λb=>pH _) (jI _);have e:58∈aN (x::L):=by rw[iB];simp
 have hb:KA (aN (x::L))=false:=by
  rw[KA,c,a,f,decide_eq_true e,decide_eq_false X,decide_eq_false (by rw[j_,aR];omega)];rfl
 rw[oU,a8 F_,nxN,c,g,a,l_,drop_left' (aR x),take_left' (aR x),fQ]
theorem NV{n}(h0:0<=n)(h1:n<1000000000000000000):HP (aT n):=Nat.lt_of_le_of_lt (nL X X) H_
theorem TN{n}(b:0<=n)(a:n<1000000000000000000):vK (aT n)=false/\jP (aT n)=n:=by
 have h:=DM b a;have e:(aT n).data.toList=itoa n:=rfl;constructor
 ·rw[vK,e,h]
 rw[jP,pW,e,h]
theorem mC{n}(L)(b:0<=n)(a:n<1000000000000000000):xG (aN (aT n::L))=some (n,aN L):=by
 have ⟨a1,a2⟩:=TN b a;rw[xG,mB L (NV b a)]
 simp_all
theorem SE:∀(a L),(∀t∈a,HP t)->GO oU a.length (aN (a++L))=some (a,aN L)
 | [],L,_=>rfl
 |t::a,L,h=>by
  rw[j7,GO,List.cons_append,mB _ (h t List.mem_cons_self)];simp[SE _ L λx hx=>h x (List.mem_cons_of_mem _ _)]
theorem C0(a L)(h:∀t∈a,HP t)(hl:a.length<1000000000000000000):C1 oU (aN (aT (a.length)::(a++L)))=some (a,aN L):=by rw[C1,mC _ X X];show GO _ _ _=_;rw[l_,SE _ L h]
theorem QO(s)(L)(h:0<=s.idx)(f:s.idx<1000000000000000000)(i:∀t∈s.sig,HP t)(g:∀t∈s.path,HP t)(d:s.sig.length<1000000000000000000)(c:s.path.length<1000000000000000000):
  yd (aN (fI (.z s.idx s.sig s.path)++L))=some (s,aN L):=by
 have e:fI (.z s.idx s.sig s.path)++L=aT s.idx::(aT (s.sig.length)::(s.sig++(aT (s.path.length)::(s.path++L)))):=by simp[fI]
 rw[e,yd,mC _ h f];show (match C1 oU _ with|none=>none|some (a,q)=>match C1 oU q with|none=>none|some (b,p)=>some _)=_;rw[C0 _ _ i d];show (match C1 oU _ with|none=>none|some (b,p)=>some _)=_;rw[C0 _ _ g c]
theorem SD:∀(ps) (L),(∀q∈ps,(0<=q.1/\q.1<1000000000000000000)/\(0<=q.2/\q.2<1000000000000000000))->GO RL ps.length (aN (O7 ps++L))=some (ps,aN L)
 | [],L,_=>rfl
 | p::ps,L,h=>by
  obtain ⟨⟨d,c⟩,f,a⟩:=h p mem_cons_self;have e:O7 (p::ps)++L=aT _::(aT _::(O7 _++L)):=rfl;have b:RL (aN (O7 (p::ps)++L))=some (p,aN (O7 ps++L)):=by
   rw[e,RL,mC _ d c];show (match xG _ with|none=>none|some (y,q)=>some _)=_;rw[mC _ f a]
  rw[j7,GO,b];simp[SD _ L λx hx=>h x (mem_cons_of_mem _ _)]
theorem og(ps)(L)(h:∀q∈ps,(0<=q.1/\q.1<1000000000000000000)/\(0<=q.2/\q.2<1000000000000000000))(hl:ps.length<1000000000000000000):C1 RL (aN (fI (.p ps)++L))=some (ps,aN L):=by have e:fI (.p _)++L=aT _::(O7 ps++L):=rfl;rw[e,C1,mC _ X X];show GO _ _ _=_;rw[l_,SD _ L h]
variable{α:Type}{a b:List _}
theorem oy(m:AV)(l:List (Int×Int))(p:Nat->Bool)(e:Nat->aF)(hl:l.length<2^62)(o:∀k s,l[k]?=some s->dH Tryz.prog m [av (kA s)] (e k) (λr H'=>r=bv (p k)/\H'=e (k+1))):
  aU Tryz.prog 209 [.pv (xO l),m] (e 0) (λr H'=>r=iv (NW p l.length)/\H'=e (GT p l.length)):=by
 have hml:(l.map kA).length=l.length:=j6 _;refine Bd func209 Z ntmps209<|Sz aI<|S<|O aA<|Y (fW gC)<|V aA<|aD<|bF (σ:=Nat) (λk=>([(0,.pv (xO l)),(1,m),(7,iv ((l.map kA).length:Int)),(8,iv (k:Int))],e k)) (λk=>k<=l.length/\∀j,j<k->p j=false) (λk=>l.length - k) 0 ⟨X,X⟩ ?_ ?_
 ·exact E0
 rintro k ⟨hk,c⟩;refine Sz cJ<|S<|Cn ?_ ?_<;>intro f
 ·have d:k<l.length:=I_ f
  have ⟨s,n⟩:=aS d;have hi:=cE (f:=kA) n;have h:=o k s n;refine aB<|S<|aD<|O aA<|V aI<|O aA<|Y aA<|Y aA<|Y (iO UB)<|Y (fA Z eD sizeOf104 Z X (Z) Z)<|V (dA Z Z Z (h))<|Cn ?_ ?_<;>intro g
  ·refine O aA<|V aI<|aC ?_;exact cR (H':=e (k+1)) (.inr Z) Z (aH Z) Fin.refl ⟨by rw[NW,DB d g c],by rw[GT,DB d g c]⟩
  refine aB<|Rd gX<|V aA ?_;refine⟨k+1,⟨X,λj hj=>?_⟩,X,E0⟩
  grind
 have i:k=l.length:=J_ f
 subst i;refine aP<|Sz aI<|aC ?_;exact cR (H':=e l.length) (.inr Z) Z (aH Z) Fin.refl ⟨by rw[NW,DD c],by rw[GT,DD c]⟩
theorem U1(c)(l)(p)(b:Nat->aF)(d:l.length<2^62)(e:∀k s,l[k]?=some s->dH Tryz.prog c [av (kA s)] (b k) (λr H'=>r=bv (p k)/\H'=b (k+1))):
  aU Tryz.prog 149 [.pv (xO l),c] (b 0) (λr H'=>r=bv ((List.range l.length).any p)/\H'=b (GT p l.length)):=by
 refine Bd func149 Z ntmps149<|Sz aI<|O aA<|Y aA<|Y (bH Z Z call209 Z (oy c l p b d e))<|Y zU<|V aI<|aC ?_;exact cR (.inr Z) Z (aH Z) Fin.refl ⟨by rw[W1],Z⟩
def ZB(q:Int×Int):Bool:=!(decide (0<=q.1)&&decide (q.1<=1048575))||!(decide (0<=q.2)&&decide (q.2<=1048575))
def Pm:Ob:=bx 1 174 [.pv (.fn 146)]
theorem zF(H):∀r∈Pm.rows,∀a∈r,Clo H a:=by intro r c a b;simp[Pm,bx,r6]at c;subst c;rw[r6]at b;subst b;simp
instance(H):W_ (H) (Pm.rows):=⟨zF H⟩
theorem aCg(q:Int×Int):aU Tryz.prog 150 [av (kA q),.ref 3 0 0 0] [(3,Pm)] (λr H'=>r=bv (ZB q)/\H'=[(3,Pm)]):=by
 have c:=λH=>PY q.1 0 1048575 H;have b:=λH=>PY q.2 0 1048575 H;have hof:ZB q=(!(decide (0<=q.1)&&decide _)||!(decide (0<=q.2)&&decide _)):=rfl;have ⟨u,e⟩:∃u,u=(decide (0<=q.1)&&decide (q.1<=1048575)):=X_;have ⟨v,d⟩:∃v,v=(decide (0<=q.2)&&decide (q.2<=1048575)):=X_;clear e d;refine Bd func150 Z ntmps150<|O (kb 2)<|V aI<|S<|aQ (t:=3) (n:=14) (A_:=ZB q) ?_ ?_
 ·all_goals refine Y (bQ pK)<|Y (bA mM)<|Y (bQ M_)<|Y (dA Z Z Z (dH.fn rI (c _)))<|Y iI<|Dm ?_<;>(refine Sp 9 (λf=>?_) λf=>?_)<;>(first|refine M<|M<|M<|M<|M ?_|refine U (bQ pK)<|U (bA mL)<|U (bQ M_)<|U (dA Z Z Z (dH.fn rI (b _)))<|U iI ?_)<;>refine Y cC<|Da ?_<;>exact Gj (h:=by simp_all)
 refine aC<|cR (H':=[(3,Pm)]) (.inr Z) Z (aH Z) P_ Qq
theorem qm(l:List (Int×Int))(q):((List.range l.length).any λk=>match l[k]? with|some s=>q s|none=>false)=l.any q:=by
 rw[Bool.eq_iff_iff,any_eq_true,any_eq_true];constructor
 ·grind
 rintro⟨s,a,h⟩;have ⟨k,hk⟩:=s8.1 a
 grind
def Zc(l:List (Int×Int))(k:Nat):Bool:=match l[k]? with|some s=>ZB s|none=>false
theorem aAJ(l)(hl:l.length<2^40):aU Tryz.prog 149 [.pv (xO l),.clo 150 [.ref 3 0 0 0]] [(3,Pm)] (λr H'=>r=bv (l.any ZB)/\H'=[(3,Pm)]):=by
 have b:=U1 _ l (Zc l) _ X (λk s c=>by
  rw[Zc,c];exact dH.clo call150 (aCg s))
 rw[show (List.range _).any (Zc l)=l.any _ from qm l _]at b;exact b
theorem Kp(s)(H):RC 238 [sv s] (bv false) H:=by
 refine Pu<|Bd func238 Z ntmps238<|Sz aI<|O aA<|Y aA<|Y DZ<|V aI<|aC<|Rt ?_
 simp_all
theorem uu(s t)(H):RC 186 [sv s,sv t] (bv (lA s t)) H:=by
 refine Pu<|Bd func186 Z ntmps186<|Sz aI<|S<|aQ (t:=4) (n:=15) (A_:=lA s t) ?_ ?_
 ·all_goals refine Y aA<|Y (bH Z Z call238 Z (Kp _ _))<|Dm ?_<;>(refine Sp 7 (λc=>?_) λc=>?_)<;>(try contradiction)<;>refine M<|M<|M<|Y cC<|Dm ?_<;>(refine Sp 12 (λb=>?_) λb=>?_)<;>(try contradiction)<;>refine U aA<|U aA<|U (Je Z Z Z)<|Y cC<|Da ?_<;>(exact⟨⟨_,Z,Z⟩,Z,Z,Z⟩)
 exact aC<|Rt<|Qq
def nH:List B_->Bool
 |a::b::r=>!lA b a&&nH (b::r)
 |_=>true
theorem YA{a}{l}(h:nH (a::l)=true):nH l=true:=by
 cases l with
 |nil=>rfl
 |cons b r=>exact(k_ _ _▸h).2
theorem JG:∀(i) {l},nH l=true->nH (l.drop i)=true
 |0,_,h=>h
 |i+1,[],_=>rfl
 |i+1,a::l,h=>JG i (YA h)
theorem lg{l:List _}{k}{a b}(f:l[k]?=some a)(c:l[k+1]?=some b):nH (l.drop k)=(!lA b a&&nH (l.drop (k+1))):=by have ⟨h,e⟩:=m9.1 f;have ⟨g,d⟩:=m9.1 c;rw[drop_eq_getElem_cons h,drop_eq_getElem_cons g,e,d];rfl
theorem fg(l:List B_)(H:aF)(hl:l.length<2^40):RC 152 [.pv (aL l)] (bv (nH l)) H:=by
 refine Pu ?_;have n:(l.map S_).length=l.length:=j6 _;refine Bd func152 Z ntmps152<|Sz aI<|S<|O aA<|Y (fW aE)<|Y (by exact dM Z Z Z (show IntKind.i64.wrap (((l.map S_).length:Int) - 1)=((l.map S_).length:Int) - 1 by rw[IntKind.wrap_i64];omega))<|V aI<|aD ?_;refine bF (σ:=Nat) (λk=>([(0,.pv (aL l)),(3,iv ((k:Int) - 1))],[])) (λk=>k<=l.length/\nH (l.drop (k - 1))=true) (λk=>k) l.length ⟨g_ _,?_⟩ ?_ ?_
 ·have:(l.drop (l.length - 1)).length<=1:=G_
  match l.drop (l.length - 1),this with
  | [],_=>rfl
  | [a],_=>rfl
 ·rw[n];exact Wk
 rintro k ⟨hk,p⟩;refine S<|O aA<|V iP<|Cn ?_ ?_<;>intro f
 ·have hlt:2<=k:=I_ f
  obtain ⟨m,rfl⟩:∃m,k=m+2:=⟨k - 2,X⟩;have ⟨b,s⟩:=aS (l:=l) (k:=m+1) X;have ⟨a,q⟩:=aS (l:=l) (k:=m) X;have j:=cE (f:=S_) s;have hia:=cE (f:=S_) q;have i:=lg q s;rw[show m+2 - 1=m+1 by omega]at p;rw[p,Bool.and_true]at i;refine aB<|S<|aD<|S<|aM a7<|Cq aA<|Cq aA<|Cq (bU (m:=m+1) Z bD Z Z X (show (((m+2:Nat):Int) - 1).toNat=m+1 by omega) j Z)<|Cq (fZ N_)<|Cq aA<|Cq aA<|Cq (by exact dM Z Z Z (show IntKind.i64.wrap ((((m+2:Nat):Int) - 1) - 1)=((m:Nat):Int)by rw[IntKind.wrap_i64];omega))<|Cq (iO bD)<|Cq (fZ N_)<|Cq (kc call186 (uu b a _))<|bG<|Kr ?_;refine Cn ?_ ?_<;>intro g
  ·have e:lA b a=true:=g;have o:nH l=false:=by
    rw[Bool.eq_false_iff];intro h;rw[JG m h,e]at i
    grind
   rw[o];exact Sz aI<|aC<|Rt<|Qq
  have e:lA b a=false:=g;refine aB<|Rd aA<|Y (by exact dM Z Z Z (show IntKind.i64.wrap ((((m+2:Nat):Int) - 1) - 1)=((m+1:Nat):Int) - 1 by rw[IntKind.wrap_i64];omega))<|Da ?_;refine⟨m+1,⟨X,?_⟩,X,?_⟩
  ·simp_all
  exact Wk
 have hge:k<=1:=J_ f
 have o:nH l=true:=F_
 rw[o];exact aP<|Sz aI<|aC<|Rt<|Qq
abbrev tN(l:List B_):List (List AV):=l.map (λe=>(S_ e).map .pv)
theorem aBn(l:List _):∀r∈l.map S_,r.length=1:=λr a=>by
 obtain ⟨t,_,rfl⟩:=mem_map.1 a;rfl
theorem Mc(l)(H:aF)(hc:dG H)(f:H.get 901=none)(hl:l.length<2^40):
  aU Tryz.prog 153 [.pv (aL l)] H (λr H'=>r=.osl 901 1 0 l.length/\H'=(901,⟨1,1,9,tN l⟩)::H):=by
 have e:(l.map S_).length=l.length:=j6 _;refine Bd func153 Z ntmps153<|Sz aI<|S<|Sr<|Dm<|qn Z Z (my Z aE Z) ?_;rintro _ H2 ⟨g,b,rfl,h⟩;rw[g];refine Zz<|Cn ?_ ?_<;>intro d
 ·have i:=h d;have c:=map_eq_nil_iff.1 i;subst c;refine Sz (eI (sz:=1) (ty:=9) Z f Z)<|aC ?_;refine cR (.inr Z) Z (aH Z) ((Fin.bump (g:=0) (k:=1) Z Z E_ Z Z Z).trans (Fin.get' (λj=>wV _ _ _ _ j))) ?_;exact Qq
 refine aB<|O (gN Z bD Z Z Z Z H_ f)<|Y aA<|Y (cA Z bD yJ Z Z Z Z Z Z Z (aBn l) e X (r9 _) (show []++(l.map S_).map _=tN l by simp_all))<|V aI<|aC ?_;refine cR (.inr Z) Z (aH Z) (Fin.get' (λj=>wV _ _ _ _ j)) ?_;exact Qq
theorem LY(n)(H):RC 168 [.pv (.int .u8 n)] (bv (vE n)) H:=by
 refine Pu<|Bd func168 Z ntmps168<|Sz aI<|S<|aQ (t:=2) (n:=18) (A_:=vE n) ?_ ?_
 ·all_goals refine Y aA<|Y zU<|Dm ?_<;>(refine Sp 5 (λc=>?_) λc=>?_)<;>(first|refine M<|M ?_|refine U aA<|U G8 ?_)<;>refine Y cC<|Dm ?_<;>(refine Sp 9 (λd=>?_) λd=>?_)<;>(first|refine M<|M<|M ?_|refine U aA<|U zU<|U aA ?_)<;>(first|refine Sp 12 (λb=>?_) λb=>?_|refine jS (t:=12) Z ?_)<;>(first|exact s_|refine M ?_|refine Fu ?_|refine U aA ?_)<;>(first|refine M ?_|refine Fu ?_|refine U G8 ?_)<;>(first|refine M ?_|refine U cC ?_)<;>refine Y cC<|Da ?_<;>exact Gj (h:=by(simp only[vE, *];rfl))
 exact aC<|Rt<|Qq
theorem RH(n)(H):RC 224 [.pv (.int .u8 n)] (bv (yD n)) H:=by
 refine Pu<|Bd func224 Z ntmps224<|Sz aI<|S<|aQ (t:=2) (n:=8) (A_:=yD n) ?_ ?_
 ·all_goals refine Y aA<|Y zU<|Dm ?_<;>(refine Sp 5 (λb=>?_) λb=>?_)<;>(first|refine M<|M ?_|refine U aA<|U G8 ?_)<;>refine Y cC<|Da ?_<;>exact Gj (h:=by(simp only[yD, *];rfl))
 exact aC<|Rt<|Qq
def Df(n:Int):Bool:=(vE n||yD n)||decide (n=95)
theorem YO(n)(H):RC 167 [.pv (.int .u8 n)] (bv (Df n)) H:=by
 refine Pu<|Bd func167 Z ntmps167<|Sz aI<|S<|aQ (t:=2) (n:=13) (A_:=Df n) ?_ ?_
 ·all_goals refine Y aA<|Y (bH Z Z call168 Z (LY n _))<|Dm ?_<;>(refine Sp 5 (λb=>?_) λb=>?_)<;>(first|refine M<|M ?_|refine U aA<|U (bH Z Z call224 Z (RH n _)) ?_)<;>refine Y cC<|Dm ?_<;>(refine Sp 9 (λc=>?_) λc=>?_)<;>(first|exact s_|refine M<|M ?_|refine U aA<|U cD ?_)<;>refine Y cC<|Da ?_<;>exact Gj (h:=by(simp only[Df, *];rfl))
 exact aC<|Rt<|Qq
theorem Vk:∀n:Fin 256,(decide (yN (n.val)=3)=vE (n.val))/\(decide (yN (n.val)=4)=yD (n.val))/\(decide (yN (n.val)=5)=decide ((n.val:Int)=95)):=by decide +kernel
theorem TF(s)(k):(decide (yN (aY s k)=3)=vE (aY s k))/\(decide (yN (aY s k)=4)=yD (aY s k))/\(decide (yN (aY s k)=5)=decide (aY s k=95)):=by have h:=Vk ⟨(aY s k).toNat,B0 s k⟩;exact h
def Vv(s:B_)(k:Nat):Bool:=!Df (aY s k)
def VX(s:B_):Bool:=!((List.range s.size).any (Vv s))&&(decide ((0:Int)<(s.size:Int))&&decide ((s.size:Int)<=24)&&vE (aY s 0))
theorem cf{s}:s=a6↔s.size=0:=by
 constructor
 ·rintro rfl;rfl
 intro h;exact ByteArray.ext (Array.eq_empty_of_size_eq_zero h)
theorem Hx(s:B_):VX s=cH s:=by
 have m:∀k,il s k=(!vE (aY s k)&&(decide ((k:Int)=0)||(!yD (aY s k)&&!decide (aY s k=95)))):=λk=>by
  have ⟨a,b,c⟩:=TF s k;rw[il,a,b,c]
 rw[Bool.eq_iff_iff,VX,cH];simp only[k_,r8,j0,p_,any_eq_false,mem_range,cf,Vv,m];constructor
 ·rintro⟨f,⟨l,e⟩,j⟩;refine⟨λk i=>?_,X,e⟩;by_cases g:k=0
  ·subst g;simp[j]
  have d:Df (aY s k)=true:=by
   simp_all
  simp only[Df,Bool.or_eq_true,j0]at d;rcases d with(h|h)|h
  ·simp[h]
  ·simp[h,g]
  simp[h,g]
 rintro⟨f,l,e⟩;refine⟨λk i=>?_,⟨X,e⟩,?_⟩
 ·have:=f k i;intro d;apply this;simp only[Df,r8,q8]at d
  simp_all
 have:=f 0 X;cases hl:vE (aY s 0)with
 |true=>rfl
 |false=>exact absurd G_ this
theorem Hy(s:B_)(H:aF)(hs:s.size<2^62):RC 113 [sv s] (bv (VX s)) H:=by
 refine Pu<|Bd func113 Z ntmps113<|Sz aI<|S<|Sz aI<|aD<|bF (σ:=Nat) (λk=>([(0,sv s),(3,iv (k:Int))],[])) (λk=>k<=s.size/\∀j,j<k->Vv s j=false) (λk=>s.size - k) 0 ⟨X,X⟩ ?_ ?_
 ·exact E0
 rintro k ⟨hk,i⟩;refine S<|O aA<|Y aA<|Y (gE U_)<|V cJ<|Cn ?_ ?_<;>intro d
 ·have f:k<s.size:=I_ d
  refine aB<|S<|aD<|O aA<|Y aA<|Y (ky U_)<|Y (kc call167 (YO (aY s k) _))<|V iI<|Cn ?_ ?_<;>intro b
  ·have o:Vv s k=true:=b;refine Sz aI<|aC<|Rt ?_;exact⟨by rw[VX,tZ f o];rfl,Z⟩
  refine aB<|Rd aA<|Y gX<|Da ?_;refine⟨k+1,⟨X,λj hj=>?_⟩,X,E0⟩;by_cases e:j=k
  ·subst e;exact b
  grind
 have h:k=s.size:=J_ d
 have m:VX s=(decide ((0:Int)<(s.size:Int))&&decide ((s.size:Int)<=24)&&vE (aY s 0)):=by
  subst h;rw[VX,BE i];rfl
 rw[m];clear m;by_cases n:(0:Int)<(s.size:Int)
 ·have g:=decide_eq_true n;have h00:0<s.size:=X
  rw[g,Bool.true_and];by_cases c:(s.size:Int)<=24
  ·have l:=decide_eq_true c;rw[l,Bool.true_and];exact aP<|O aA<|Y (gE U_)<|Y iP<|Y aA<|Oa aA<|Oa (gE U_)<|Oa G8<|Y CS<|Y aA<|Oa aA<|Oa (ky U_)<|Oa (kc call168 (LY (aY s 0) _))<|Y CS<|V aI<|aC<|Rt<|Qq
  have l:=decide_eq_false c;rw[l];exact aP<|O aA<|Y (gE U_)<|Y iP<|Y aA<|Oa aA<|Oa (gE U_)<|Oa G8<|Y CS<|Y aA<|Fa<|Fa<|Fa<|Y sC<|V aI<|aC<|Rt<|Qq
 have g:=decide_eq_false n;rw[g];exact aP<|O aA<|Y (gE U_)<|Y iP<|Y aA<|Fa<|Fa<|Fa<|Y sC<|Y aA<|M<|M<|M<|Y cC<|V aI<|aC<|Rt<|Qq
theorem lE(s)(H)(a:s.size<2^62):RC 113 [sv s] (bv (cH s)) H:=by rw[<-Hx];exact Hy s H a
theorem Hv(x y:Int)(H:aF):RC 170 [.agg [iv x,iv y]] (bv (ZR x y)) H:=by
 refine Pu<|Bd func170 Z ntmps170<|O (kb 1)<|V aI<|S<|aQ (t:=2) (n:=22) (A_:=ZR x y) ?_ ?_
 ·all_goals refine Y (bA mM)<|Y (bQ M_)<|Y zU<|Dm ?_<;>(refine Sp 6 (λd=>?_) λd=>?_)<;>(first|refine M<|M<|M ?_|refine U (bA mM)<|U (bQ M_)<|U cJ ?_)<;>refine Y cC<|Dm ?_<;>(refine Sp 11 (λb=>?_) λb=>?_)<;>(first|refine M<|M<|M ?_|refine U (bA mL)<|U (bQ M_)<|U zU ?_)<;>refine Y cC<|Dm ?_<;>(refine Sp 16 (λc=>?_) λc=>?_)<;>(first|exact s_|refine M<|M<|M ?_|refine U (bA mL)<|U (bQ M_)<|U cJ ?_)<;>refine Y cC<|Da ?_<;>exact Gj (h:=by(simp only[ZR, *];rfl))
 exact aC<|Rt<|Qq
theorem yn{n:Nat}(a:1<=n)(b:n<=5):[S_ a6,S_ ⟨#[110,111,100,101]⟩,S_ ⟨#[119,97,121]⟩,S_ ⟨#[97,114,101,97]⟩,S_ ⟨#[114,111,117,116,101]⟩,S_ ⟨#[116,117,114,110]⟩][n]?=some (S_ (eF n)):=by
 match n,a,b with
 |1,_,_=>rfl
 |2,_,_=>rfl
 |3,_,_=>rfl
 |4,_,_=>rfl
 |5,_,_=>rfl
 |n+6,_,h=>exact absurd h X
theorem FZ(k:Int)(H:aF):RC 214 [iv k] (sv (eF k)) H:=by
 refine Pu<|Bd func214 Z ntmps214<|Sz aI<|O (aK [S_ a6,S_ _,S_ _,S_ _,S_ _,S_ _] Z bD Z Z Z Z Z (by simp[S_]))<|V aI<|S<|S<|aQ (t:=10) (n:=7) (A_:=decide (k<1)||decide (5<k)) ?_ ?_
 ·all_goals refine Y aA<|Y cJ<|Dm ?_<;>(refine Sp 7 (λd=>?_) λd=>?_)<;>(first|refine M<|M ?_|refine U aA<|U iP ?_)<;>refine V cC ?_<;>(exact⟨⟨_,Z,G_⟩,Z,Z,Z⟩)
 refine Cn ?_ ?_<;>intro hc1
 ·have b:¬ (k=1)/\¬ (k=2)/\¬ (k=3)/\¬ (k=4)/\¬ (k=5):=by
   grind
  refine Sz aI<|aC<|Rt ?_;exact⟨by simp only[eF,b.1,b.2.1,b.2.2.1,b.2.2.2.1,b.2.2.2.2,if_false],Z⟩
 obtain ⟨n,rfl⟩:∃n:Nat,k=(n:Int):=⟨k.toNat,G_⟩;have c:1<=n/\n<=5:=by
  grind
 have hi:=yn c.1 c.2;exact aB<|O aA<|Y aA<|Y (iO bD)<|Y (fZ N_)<|V aI<|aC<|Rt<|Qq
theorem Bo(l)(k:Nat)(t a)(c:0<k->l[k - 1]?=some a):(((!cH t.key||decide ((t.val.size:Int)<1))||decide (200<(t.val.size:Int)))||(decide ((0:Int)<k)&&!lA a.key t.key))=DJ (kN m7.key l k) t:=by
 have d:decide ((t.val.size:Int)<1)=decide (t.val=a6):=decide_eq_decide.2 (by rw[cf];omega);rw[d,DJ];cases g:cH t.key with
 |false=>simp
 | true =>
  have f:Yo t.key (kN m7.key l k)=(decide (0<(k:Int))&&!lA a.key t.key):=by
   cases k with
   | zero =>
    have:lA a6 t.key=true:=by
     cases e:lA a6 t.key with
     |true=>rfl
     |false=>exact absurd (Fd (sq _) e) (SV g)
    rw[kN,OV.2 this];rfl
   | succ k =>
    have h:=c X;rw[show k+1 - 1=k from rfl]at h;rw[zY h,decide_eq_true (show 0<((k+1:Nat):Int)by omega)];cases e:lA _ t.key with
    |true=>rw[OV.2 e];rfl
    |false =>
     cases b:Yo t.key _ with
     |true=>rfl
     |false=>rw[OV]at b;rw[e]at b;cases b
  rw[<-f];cases Yo t.key _<;>cases decide (t.val=a6)<;>cases decide (200<(t.val.size:Int))<;>rfl
theorem tl(l:List m7)(H:aF)(w:MF l):RC 296 [.pv (pY l)] (bv (sW l)) H:=by
 refine Pu ?_;have ⟨w,u⟩:=w;have hml:(l.map bS).length=l.length:=j6 _;refine Bd func296 Z ntmps296<|Sz aI<|S<|O aA<|Y (fW dO)<|V iP<|Cn ?_ ?_<;>intro n
 ·have f:decide ((l.length:Int)<=60)=false:=by
   have:=b9 n;exact decide_eq_false X
  refine Sz aI<|aC<|Rt ?_;exact⟨by rw[sW,f,Bool.and_false],Z⟩
 have f:decide ((l.length:Int)<=60)=true:=by
  have:=b_ n;exact decide_eq_true X
 rw[sW,f,Bool.and_true];refine aB<|S<|Sz aI<|aD<|bF (σ:=Nat) (λk=>([(0,.pv (pY l)),(3,iv (k:Int))],[])) (λk=>k<=l.length/\∀j,j<k->TJ DJ m7.key l j=false) (λk=>l.length - k) 0 ⟨X,X⟩ ?_ ?_
 ·exact E0
 rintro k ⟨hk,hno⟩;refine S<|O aA<|Y aA<|Y (fW dO)<|V cJ<|Cn ?_ ?_<;>intro g
 ·have o:k<l.length:=I_ g
  have ⟨t,q⟩:=aS o;have hi:=cE (f:=bS) q;have hkt:=u t (m8 q);have ⟨p,v⟩:∃p,0<k->l[k - 1]?=some p:=by
   grind
  have m:0<k->(l.map bS)[k - 1]?=some (bS p):=λh=>cE (f:=bS) (v h);have i:=Bo l k t p v;refine aB<|S<|aD<|S<|pJ (t:=55) (n:=43) (A_:=((!cH t.key||decide ((t.val.size:Int)<1))||decide (200<(t.val.size:Int)))||(decide ((0:Int)<(k:Int))&&!lA p.key t.key)) ?_ ?_
  ·cases hg20:(!cH t.key:Bool)
   ·cases hg29:(decide ((t.val.size:Int)<1):Bool)
    ·cases hg38:(decide (200<(t.val.size:Int)):Bool)
     ·cases hg41:(decide ((0:Int)<(k:Int)):Bool)
      ·refine aM a7<|Cq aA<|Cq aA<|Cq (iO lK)<|Cq (E5 pS)<|Cq (fZ N_)<|Cq (kc fV (lE t.key _ hkt.1))<|Cq iI<|Cq aA<|Nf aA<|Nf aA<|Nf (iO lK)<|Nf (E5 qP)<|Nf (fZ N_)<|Nf (gE U_)<|Nf cJ<|Cq sC<|Cq aA<|Nf aA<|Nf aA<|Nf (iO lK)<|Nf (E5 qP)<|Nf (fZ N_)<|Nf (gE U_)<|Nf iP<|Cq sC<|Cq aA<|Nf aA<|Nf iP<|Nf aA<|Ot<|Ot<|Ot<|Ot<|Ot<|Ot<|Ot<|Ot<|Ot<|Ot<|Ot<|Ot<|Nf sC<|Cq sC<|bG<|Kr ?_;exact⟨Z,⟨_,Z,by rfl⟩,Z,Z,Z⟩
      refine aM a7<|Cq aA<|Cq aA<|Cq (iO lK)<|Cq (E5 pS)<|Cq (fZ N_)<|Cq (kc fV (lE t.key _ hkt.1))<|Cq iI<|Cq aA<|Nf aA<|Nf aA<|Nf (iO lK)<|Nf (E5 qP)<|Nf (fZ N_)<|Nf (gE U_)<|Nf cJ<|Cq sC<|Cq aA<|Nf aA<|Nf aA<|Nf (iO lK)<|Nf (E5 qP)<|Nf (fZ N_)<|Nf (gE U_)<|Nf iP<|Cq sC<|Cq aA<|Nf aA<|Nf iP<|Nf aA<|Nt aA<|Nt aA<|Nt (dM Z Z Z (mE X X))<|Nt (bU Z lK Z Z (I_ hg41) (show ((k:Int) - 1).toNat=k - 1 by omega) (m (I_ hg41)) Z)<|Nt (E5 pS)<|Nt (dV Z N_ Z (m (I_ hg41)) Z)<|Nt aA<|Nt aA<|Nt (iO lK)<|Nt (E5 pS)<|Nt (fZ N_) ?_;refine Nt (JZ Z Z Z)<|Nf CS<|Cq sC<|bG<|Kr ?_;exact⟨Z,⟨_,Z,by rfl⟩,Z,Z,Z⟩
     refine aM a7<|Cq aA<|Cq aA<|Cq (iO lK)<|Cq (E5 pS)<|Cq (fZ N_)<|Cq (kc fV (lE t.key _ hkt.1))<|Cq iI<|Cq aA<|Nf aA<|Nf aA<|Nf (iO lK)<|Nf (E5 qP)<|Nf (fZ N_)<|Nf (gE U_)<|Nf cJ<|Cq sC<|Cq aA<|Nf aA<|Nf aA<|Nf (iO lK)<|Nf (E5 qP)<|Nf (fZ N_)<|Nf (gE U_)<|Nf iP<|Cq sC<|Cq aA<|Of<|Of<|Of<|Ou<|Ou<|Ou<|Ou<|Ou<|Ou<|Ou<|Ou<|Ou<|Ou<|Ou<|Ou<|Of<|Cq CS<|bG<|Kr ?_;exact⟨Z,⟨_,Z,by rfl⟩,Z,Z,Z⟩
    refine aM a7<|Cq aA<|Cq aA<|Cq (iO lK)<|Cq (E5 pS)<|Cq (fZ N_)<|Cq (kc fV (lE t.key _ hkt.1))<|Cq iI<|Cq aA<|Nf aA<|Nf aA<|Nf (iO lK)<|Nf (E5 qP)<|Nf (fZ N_)<|Nf (gE U_)<|Nf cJ<|Cq sC<|Cq aA<|Of<|Of<|Of<|Of<|Of<|Of<|Of<|Cq CS<|Cq aA<|Of<|Of<|Of<|Ou<|Ou<|Ou<|Ou<|Ou<|Ou<|Ou<|Ou<|Ou<|Ou<|Ou<|Ou<|Of<|Cq cC<|bG<|Kr ?_;exact⟨Z,⟨_,Z,by rfl⟩,Z,Z,Z⟩
   refine aM a7<|Cq aA<|Cq aA<|Cq (iO lK)<|Cq (E5 pS)<|Cq (fZ N_)<|Cq (kc fV (lE t.key _ hkt.1))<|Cq iI<|Cq aA<|Of<|Of<|Of<|Of<|Of<|Of<|Of<|Cq CS<|Cq aA<|Of<|Of<|Of<|Of<|Of<|Of<|Of<|Cq cC<|Cq aA<|Of<|Of<|Of<|Ou<|Ou<|Ou<|Ou<|Ou<|Ou<|Ou<|Ou<|Ou<|Ou<|Ou<|Ou<|Of<|Cq cC<|bG<|Kr ?_;exact⟨Z,⟨_,Z,by rfl⟩,Z,Z,Z⟩
  refine Cn ?_ ?_<;>intro hc3
  ·rw[i]at hc3;refine Sz aI<|aC<|Rt ?_;exact⟨by rw[tZ o ((DK q).trans hc3)];rfl,Z⟩
  rw[i]at hc3;refine aB<|Rd aA<|Y gX<|Da ?_;refine⟨k+1,⟨X,λj hj=>?_⟩,X,E0⟩;by_cases e:j=k
  ·subst e;exact(DK q).trans hc3
  grind
 have s:k=l.length:=J_ g
 subst s;refine aP<|Sz aI<|aC<|Rt ?_
 simp_all
theorem Ef(o)(k:Nat)(s p)(a:0<k->o.refs[k - 1]?=some p):
  ((!cH s||((decide (o.kind=2)&&decide (0<(k:Int)))&&decide (p=s)))||(decide (o.kind=3)&&vi (A9 o.refs k) s))=MW o (kN id o.refs k) (A9 o.refs k) s:=by
 rw[MW,SU];cases c:cH s with
 |false=>simp
 | true =>
  have b:(decide (0<(k:Int))&&decide (p=s))=decide (s=kN id o.refs k):=by
   cases k with
   |zero=>rw[kN,decide_eq_false (SV c)];rfl
   |succ k =>
    have h:=a X;rw[show k+1 - 1=k from rfl]at h;rw[zY h,decide_eq_true (show 0<((k+1:Nat):Int)by omega)];exact decide_eq_decide.2 eq_comm
  rw[<-b];simp[Bool.and_assoc]
theorem Gt{l}{k}{s}(h:l[k]?=some s):A9 l (k+1)=QC (A9 l k) s:=by rw[A9,h];rfl
def aAh(k n:Int):Bool:=if k=1 then decide (n=0)else if k=2 then decide (2<=n)else if k=3 then decide (3<=n)else if k=4 then decide (1<=n)else decide (n=3)
def RB(o:l6):Bool:=(decide ((o.refs.length:Int)<=2000)&&!((List.range o.refs.length).any (uN o)))&&aAh o.kind (o.refs.length:Int)
theorem tn(o:l6)(H:aF)(ho:jl o):RC 297 [av (bP o)] (bv (RB o)) H:=by
 refine Pu ?_;have ⟨h1,h2,h3,h4⟩:=ho;have hml:(o.refs.map S_).length=o.refs.length:=j6 _;refine Bd func297 Z ntmps297<|O (kb 1)<|V aI<|O (bA eA)<|Y (bQ aG)<|Y (fW aE)<|V aI<|S<|O aA<|V iP<|Cn ?_ ?_<;>intro hc1
 ·have hb:decide ((o.refs.length:Int)<=2000)=false:=by
   have:=b9 hc1;exact decide_eq_false X
  refine Sz aI<|aC<|Rt ?_;exact⟨by rw[RB,hb];rfl,Z⟩
 have hb:decide ((o.refs.length:Int)<=2000)=true:=by
  have:=b_ hc1;exact decide_eq_true X
 rw[RB,hb,Bool.true_and];refine aB<|O (uZ (id:=11) JD Z Z)<|V aI<|S<|Sz aI<|aD<|bF (σ:=Nat) (λk=>([(1,.ref 1 0 0 0),(3,iv ((o.refs.map S_).length:Int)),(4,.mp 11 0),(5,iv (k:Int))],[(11,sob (A9 o.refs k)),(1,bx 6 135 ((bP o).map .pv))])) (λk=>k<=o.refs.length/\∀j,j<k->uN o j=false) (λk=>o.refs.length - k) 0 ⟨X,X⟩ ?_ ?_
 ·exact L_
 rintro k ⟨hk,hno⟩;refine S<|O aA<|Y aA<|V cJ<|Cn ?_ ?_<;>intro hc2
 ·have hlt:k<o.refs.length:=I_ hc2
  have ⟨s,hs⟩:=aS hlt;have hi:=cE (f:=S_) hs;have ⟨p,hp⟩:∃p,0<k->o.refs[k - 1]?=some p:=by
   by_cases k0:0<k
   ·have ⟨p,hp⟩:=aS (l:=o.refs) (k:=k - 1) X;exact⟨p,λ_=>hp⟩
   exact⟨s,λh=>absurd h k0⟩
  have hpv:0<k->(o.refs.map S_)[k - 1]?=some (S_ p):=λh=>cE (f:=S_) (hp h);have hbe:=Ef o k s p hp;have hw:uN o k=MW o (kN id o.refs k) (A9 o.refs k) s:=by rw[uN,hs]
  have hse:=Gt hs;refine aB<|S<|aD<|S<|S<|pJ (t:=60) (n:=44) (A_:=(!cH s||((decide (o.kind=2)&&decide ((0:Int)<(k:Int)))&&decide (p=s)))||(decide (o.kind=3)&&vi (A9 o.refs k) s)) ?_ ?_
  ·cases hg24:(!cH s:Bool)
   ·cases hg28:(decide (o.kind=2):Bool)
    ·cases hg51:(decide (o.kind=3):Bool)
     ·refine aM a7<|Cq (bA eA)<|Cq (bQ aG)<|Cq aA<|Cq (iO bD)<|Cq (fZ N_)<|Cq (kc fV (lE s _ (h4 s (m8 hs))))<|Cq iI<|Cq aA<|Nf (bA eB)<|Nf (bQ M_)<|Nf cD<|Nf aA<|Ot<|Ot<|Nf sC<|Nf aA<|Ot<|Ot<|Ot<|Ot<|Ot<|Ot<|Ot<|Ot<|Ot<|Ot<|Ot<|Ot<|Nf cC<|Cq sC<|Cq aA<|Nf (bA eB)<|Nf (bQ M_)<|Nf cD<|Nf aA<|Ot<|Ot<|Ot<|Ot<|Ot<|Ot<|Ot<|Nf sC<|Cq cC<|bG<|Kr ?_;exact⟨Z,⟨_,Z,by rfl⟩,Z,Z,Z⟩
     refine aM a7<|Cq (bA eA)<|Cq (bQ aG)<|Cq aA<|Cq (iO bD)<|Cq (fZ N_)<|Cq (kc fV (lE s _ (h4 s (m8 hs))))<|Cq iI<|Cq aA<|Nf (bA eB)<|Nf (bQ M_)<|Nf cD<|Nf aA<|Ot<|Ot<|Nf sC<|Nf aA<|Ot<|Ot<|Ot<|Ot<|Ot<|Ot<|Ot<|Ot<|Ot<|Ot<|Ot<|Ot<|Nf cC<|Cq sC<|Cq aA<|Nf (bA eB)<|Nf (bQ M_)<|Nf cD<|Nf aA<|Nt aA<|Nt (bA eA)<|Nt (bQ aG)<|Nt aA<|Nt (iO bD)<|Nt (fZ N_)<|Nt (by exact wE Z lY U_ Z Z Z Z Z iU (.inl Z))<|Nf CS<|Cq cC<|bG<|Kr ?_;exact⟨Z,⟨_,Z,by rfl⟩,Z,Z,Z⟩
    cases hg32:(decide ((0:Int)<(k:Int)):Bool)
    ·cases hg51:(decide (o.kind=3):Bool)
     ·refine aM a7<|Cq (bA eA)<|Cq (bQ aG)<|Cq aA<|Cq (iO bD)<|Cq (fZ N_)<|Cq (kc fV (lE s _ (h4 s (m8 hs))))<|Cq iI<|Cq aA<|Nf (bA eB)<|Nf (bQ M_)<|Nf cD<|Nf aA<|Nt aA<|Nt iP<|Nf CS<|Nf aA<|Ot<|Ot<|Ot<|Ot<|Ot<|Ot<|Ot<|Ot<|Ot<|Ot<|Ot<|Ot<|Nf sC<|Cq sC<|Cq aA<|Nf (bA eB)<|Nf (bQ M_)<|Nf cD<|Nf aA<|Ot<|Ot<|Ot<|Ot<|Ot<|Ot<|Ot<|Nf sC<|Cq cC<|bG<|Kr ?_;exact⟨Z,⟨_,Z,by rfl⟩,Z,Z,Z⟩
     refine aM a7<|Cq (bA eA)<|Cq (bQ aG)<|Cq aA<|Cq (iO bD)<|Cq (fZ N_)<|Cq (kc fV (lE s _ (h4 s (m8 hs))))<|Cq iI<|Cq aA<|Nf (bA eB)<|Nf (bQ M_)<|Nf cD<|Nf aA<|Nt aA<|Nt iP<|Nf CS<|Nf aA<|Ot<|Ot<|Ot<|Ot<|Ot<|Ot<|Ot<|Ot<|Ot<|Ot<|Ot<|Ot<|Nf sC<|Cq sC<|Cq aA<|Nf (bA eB)<|Nf (bQ M_)<|Nf cD<|Nf aA<|Nt aA<|Nt (bA eA)<|Nt (bQ aG)<|Nt aA<|Nt (iO bD)<|Nt (fZ N_)<|Nt (by exact wE Z lY U_ Z Z Z Z Z iU (.inl Z))<|Nf CS<|Cq cC<|bG<|Kr ?_;exact⟨Z,⟨_,Z,by rfl⟩,Z,Z,Z⟩
    cases hg47:(decide (p=s):Bool)
    ·cases hg51:(decide (o.kind=3):Bool)
     ·refine aM a7<|Cq (bA eA)<|Cq (bQ aG)<|Cq aA<|Cq (iO bD)<|Cq (fZ N_)<|Cq (kc fV (lE s _ (h4 s (m8 hs))))<|Cq iI<|Cq aA<|Nf (bA eB)<|Nf (bQ M_)<|Nf cD<|Nf aA<|Nt aA<|Nt iP<|Nf CS<|Nf aA<|Nt (bA eA)<|Nt (bQ aG)<|Nt aA<|Nt (dM Z Z Z (mE X X))<|Nt (bU Z bD Z Z (I_ hg32) (show ((k:Int) - 1).toNat=k - 1 by omega) (hpv (I_ hg32)) Z)<|Nt (dV Z N_ Z (hpv (I_ hg32)) Z)<|Nt (bA eA)<|Nt (bQ aG)<|Nt aA<|Nt (iO bD)<|Nt (fZ N_)<|Nt wH<|Nf CS<|Cq sC<|Cq aA<|Nf (bA eB)<|Nf (bQ M_)<|Nf cD<|Nf aA<|Ot<|Ot<|Ot ?_;refine Ot<|Ot<|Ot<|Ot<|Nf sC<|Cq sC<|bG<|Kr ?_;exact⟨Z,⟨_,Z,by rfl⟩,Z,Z,Z⟩
     refine aM a7<|Cq (bA eA)<|Cq (bQ aG)<|Cq aA<|Cq (iO bD)<|Cq (fZ N_)<|Cq (kc fV (lE s _ (h4 s (m8 hs))))<|Cq iI<|Cq aA<|Nf (bA eB)<|Nf (bQ M_)<|Nf cD<|Nf aA<|Nt aA<|Nt iP<|Nf CS<|Nf aA<|Nt (bA eA)<|Nt (bQ aG)<|Nt aA<|Nt (dM Z Z Z (mE X X))<|Nt (bU Z bD Z Z (I_ hg32) (show ((k:Int) - 1).toNat=k - 1 by omega) (hpv (I_ hg32)) Z)<|Nt (dV Z N_ Z (hpv (I_ hg32)) Z)<|Nt (bA eA)<|Nt (bQ aG)<|Nt aA<|Nt (iO bD)<|Nt (fZ N_)<|Nt wH<|Nf CS<|Cq sC<|Cq aA<|Nf (bA eB)<|Nf (bQ M_)<|Nf cD<|Nf aA<|Nt aA<|Nt (bA eA) ?_;refine Nt (bQ aG)<|Nt aA<|Nt (iO bD)<|Nt (fZ N_)<|Nt (wE Z lY U_ Z Z Z Z Z iU (.inl Z))<|Nf CS<|Cq sC<|bG<|Kr ?_;exact⟨Z,⟨_,Z,by rfl⟩,Z,Z,Z⟩
    refine aM a7<|Cq (bA eA)<|Cq (bQ aG)<|Cq aA<|Cq (iO bD)<|Cq (fZ N_)<|Cq (kc fV (lE s _ (h4 s (m8 hs))))<|Cq iI<|Cq aA<|Nf (bA eB)<|Nf (bQ M_)<|Nf cD<|Nf aA<|Nt aA<|Nt iP<|Nf CS<|Nf aA<|Nt (bA eA)<|Nt (bQ aG)<|Nt aA<|Nt (dM Z Z Z (mE X X))<|Nt (bU Z bD Z Z (I_ hg32) (show ((k:Int) - 1).toNat=k - 1 by omega) (hpv (I_ hg32)) Z)<|Nt (dV Z N_ Z (hpv (I_ hg32)) Z)<|Nt (bA eA)<|Nt (bQ aG)<|Nt aA<|Nt (iO bD)<|Nt (fZ N_)<|Nt wH<|Nf CS<|Cq sC<|Cq aA<|Of<|Of<|Of<|Of<|Ou<|Ou<|Ou<|Ou<|Ou<|Ou<|Ou<|Of<|Cq CS<|bG<|Kr ?_;exact⟨Z,⟨_,Z,by rfl⟩,Z,Z,Z⟩
   refine aM a7<|Cq (bA eA)<|Cq (bQ aG)<|Cq aA<|Cq (iO bD)<|Cq (fZ N_)<|Cq (kc fV (lE s _ (h4 s (m8 hs))))<|Cq iI<|Cq aA<|Of<|Of<|Of<|Of<|Ou<|Ou<|Of<|Of<|Ou<|Ou<|Ou<|Ou<|Ou<|Ou<|Ou<|Ou<|Ou<|Ou<|Ou<|Ou<|Of<|Cq CS<|Cq aA<|Of<|Of<|Of<|Of<|Ou<|Ou<|Ou<|Ou<|Ou<|Ou<|Ou<|Of<|Cq cC<|bG<|Kr ?_;exact⟨Z,⟨_,Z,by rfl⟩,Z,Z,Z⟩
  refine Cn ?_ ?_<;>intro hc3
  ·rw[hbe,<-hw]at hc3;refine Sz aI<|aC<|Rt ?_;exact⟨by rw[tZ hlt hc3];rfl,Z⟩
  rw[hbe,<-hw]at hc3;refine aB<|Rd aA<|Y (bA eA)<|Y (bQ aG)<|Y aA<|Y (iO bD)<|Y (fZ N_)<|Uu (by exact U6 (.inl Z) lY U_ Z Z Z Z Z Z Z)<|Zz<|Rd aA<|Y gX<|Da ?_;refine⟨k+1,⟨by omega,λj hj=>?_⟩,by omega,?_⟩
  ·by_cases e:j=k
   ·subst e;exact hc3
   exact hno j X
  rw[hse];exact L_
 have hge:k=o.refs.length:=J_ hc2
 subst hge;rw[BE hno,Bool.not_false,Bool.true_and,aAh,<-hml];refine aP<|S<|O (bA eB)<|V (bQ M_)<|aD<|O cD<|Da<|Cn ?_ ?_<;>intro hc4
 ·rw[b7 (b9 hc4)];exact O aA<|Y cD<|V aI<|aC<|Rt<|Qq
 rw[a8 (b_ hc4)];refine O cD<|Da<|Cn ?_ ?_<;>intro hc5
 ·rw[b7 (b9 hc5)];exact O aA<|Y zU<|V aI<|aC<|Rt<|Qq
 rw[a8 (b_ hc5)];refine O cD<|Da<|Cn ?_ ?_<;>intro hc6
 ·rw[b7 (b9 hc6)];exact O aA<|Y zU<|V aI<|aC<|Rt<|Qq
 rw[a8 (b_ hc6)];refine O cD<|Da<|Cn ?_ ?_<;>intro hc7
 ·rw[b7 (b9 hc7)];exact O aA<|Y zU<|V aI<|aC<|Rt<|Qq
 rw[a8 (b_ hc7)];exact aB<|O aA<|Y cD<|V aI<|aC<|Rt<|Qq
def Xg(o:l6):Bool:=if o.kind=1 then ZR o.x o.y else(decide (o.x=0)&&decide (o.y=0))
theorem Rq(o):((((cH o.id&&!decide (eF o.kind=a6))&&Xg o)&&sW o.tags)&&RB o)=oF o:=by
 cases f:decide (eF _=a6)with
 |true=>simp[oF,NX,vU,f]
 |false =>
  have hk:=A4 f;have hk0:¬ o.kind=0:=λe=>by rw[e]at f;simp[eF]at f
  simp only[oF,NX,vU,f,RB,Xg,SW,aAh,EZ];generalize cH o.id=a;generalize sW o.tags=b;generalize (List.range _).any _=w;generalize ZR o.x o.y=c;generalize (decide (o.x=0)&&decide (o.y=0))=d;generalize o.kind=k at *;rcases(by omega:k=1\/k=2\/k=3\/k=4\/k=5)with rfl|rfl|rfl|rfl|rfl<;>cases a<;>cases b<;>cases w<;>cases c<;>cases d<;>rw[Bool.eq_iff_iff]<;>simp<;>omega
theorem y5{p:Prop}(h:p:=by exact aW Z eD sizeOf104 Z Z Z Z (by simp only[Zl,bS,bP,S_];rfl) Z):p:=h
theorem u6{p:Prop}(h:p:=by simp only[Zl,bS,bP,S_];rfl):p:=h
theorem Hw(o:l6)(H:aF)(f:jl o):RC 261 [av (bP o)] (bv (oF o)) H:=by
 refine Pu ?_;rw[<-Rq];refine Bd func261 Z ntmps261<|O (kb 1)<|V aI<|O (bA mK)<|Y y5<|Y (kc call170 (Hv o.x o.y _))<|V aI<|S<|O (bA eB)<|Y (bQ M_)<|V zB ?_;refine Cn ?_ ?_<;>intro g
 ·have i:Xg o=(decide (o.x=0)&&decide (o.y=0)):=by
   have h:(!decide (o.kind=1))=true:=g;rw[Xg,a8 F_]
  refine Rd (bA mK)<|Y y5<|Y (oI KZ)<|Y (BI Z Z Z Z Z mG (QT _ _ _ _))<|V aI<|S ?_;refine aQ (t:=2) (n:=26) (A_:=(((cH o.id&&!decide (eF o.kind=a6))&&Xg o)&&sW o.tags)&&RB o) ?_ ?_
  ·all_goals refine Y (bA qR)<|Y (bQ N_)<|Y (kc fV (lE o.id _ f.1))<|Dm ?_<;>(refine Sp 17 (λd=>?_) λd=>?_)<;>(first|exact s_|refine M<|M<|M<|M ?_|refine U (bA eB)<|U (bQ M_)<|U (kc call214 (FZ o.kind _))<|U DZ ?_)<;>refine Y cC<|Dm ?_<;>(refine Sp 23 (λb=>?_) λb=>?_)<;>(first|exact s_|refine M ?_|refine U aA ?_)<;>refine Y cC<|Dm ?_<;>(refine Sp 26 (λe=>?_) λe=>?_)<;>(first|exact s_|refine M<|M<|M ?_|refine U (bA gA)<|U (bQ dF)<|U (kc call296 (tl o.tags _ f.2.1)) ?_)<;>refine Y cC<|Dm ?_<;>(refine Sp 31 (λc=>?_) λc=>?_)<;>(first|exact s_|refine M<|M ?_|refine U (by exact aW Z bW sizeOf135 Z Z Z Z u6 Z)<|U (kc call297 (tn o _ f)) ?_)<;>refine Y cC<|Da ?_<;>exact Gj (h:=by simp_all)
  exact aC<|Rt<|Qq
 have i:Xg o=ZR o.x o.y:=by
  have h:(!decide (o.kind=1))=false:=g;rw[Xg,b7 F_]
 refine aB<|S<|aQ (t:=2) (n:=26) (A_:=(((cH o.id&&!decide (eF o.kind=a6))&&Xg o)&&sW o.tags)&&RB o) ?_ ?_
 ·all_goals refine Y (bA qR)<|Y (bQ N_)<|Y (kc fV (lE o.id _ f.1))<|Dm ?_<;>(refine Sp 17 (λd=>?_) λd=>?_)<;>(first|exact s_|refine M<|M<|M<|M ?_|refine U (bA eB)<|U (bQ M_)<|U (kc call214 (FZ o.kind _))<|U DZ ?_)<;>refine Y cC<|Dm ?_<;>(refine Sp 23 (λb=>?_) λb=>?_)<;>(first|exact s_|refine M ?_|refine U aA ?_)<;>refine Y cC<|Dm ?_<;>(refine Sp 26 (λe=>?_) λe=>?_)<;>(first|exact s_|refine M<|M<|M ?_|refine U (bA gA)<|U (bQ dF)<|U (kc call296 (tl o.tags _ f.2.1)) ?_)<;>refine Y cC<|Dm ?_<;>(refine Sp 31 (λc=>?_) λc=>?_)<;>(first|exact s_|refine M<|M ?_|refine U (by exact aW Z bW sizeOf135 Z Z Z Z u6 Z)<|U (kc call297 (tn o _ f)) ?_)<;>refine Y cC<|Da ?_<;>exact Gj (h:=by simp_all)
 exact aC<|Rt<|Qq
def ZU{α:Type}(e:α->α->Bool)(a b:List α):Bool:=decide (a.length=b.length)&&(List.range a.length).all λk=>match a[k]?,b[k]? with|some x,some y=>e x y|_,_=>true
theorem gl{e}(he:∀x y,e x y=true↔x=y){a b:List α}:ZU e a b=true↔a=b:=by
 constructor
 ·intro h;simp[ZU,k_,j0,all_eq_true,mem_range]at h;apply ext_getElem h.1
  grind
 simp[ZU,k_,j0,all_eq_true,mem_range,true_and]
 simp_all
theorem gm{e}{a b}{k:Nat}{x y:α}(hx:a[k]?=some x)(hy:b[k]?=some y)(h:e x y=false):ZU e a b=false:=by
 rw[ZU]
 grind
theorem XA{e}{a b:List α}(hl:a.length=b.length)(h:∀k,k<a.length->∀x y,a[k]?=some x->b[k]?=some y->e x y=true):ZU e a b=true:=by
 simp[ZU,k_,j0,all_eq_true,mem_range]
 simp_all
def NK(a b:B_):Bool:=decide (a=b)
theorem xq(a b):NK a b=true↔a=b:=by simp[NK]
def IC(a b:l6):Bool:=decide (a.id=b.id)&&decide (a.kind=b.kind)&&(decide (a.x=b.x)&&decide (a.y=b.y))&&decide (a.refs.length=b.refs.length)&&decide (a.tags.length=b.tags.length)
def MX(a b:l6):Bool:=IC a b&&(ZU NK a.refs b.refs&&ZU wA a.tags b.tags)
theorem pf{a b}:MX a b=true↔a=b:=by
 rw[MX,k_,k_,gl xq,gl VI];cases a;cases b;simp[IC,k_,j0,l6.mk.injEq]
 grind
def SQ(a b:l6)(n1 n2 n3 n4:Int):Bool:=!decide (a.id=b.id)||!decide (a.kind=b.kind)||!(decide (a.x=b.x)&&decide (a.y=b.y))||!decide (n1=n2)||!decide (n3=n4)
theorem WZ(a b):SQ a b ((a.refs.map S_).length) ((b.refs.map S_).length) ((a.tags.map bS).length) ((b.tags.map bS).length)=!IC a b:=by simp[SQ,IC,j6,Bool.not_and,Int.natCast_inj]
theorem Gw(a b:l6)(H:aF)(ha:a.refs.length<2^62)(ha2:a.tags.length<2^62):RC 265 [av (bP a),av (bP b)] (bv (MX a b)) H:=by
 refine Pu ?_;have hra:(a.refs.map S_).length=a.refs.length:=j6 _;have hta:(a.tags.map bS).length=a.tags.length:=j6 _;refine Bd func265 Z ntmps265<|O (kb 2)<|Y (kb 3)<|V aI<|S<|S<|aQ (t:=43) (n:=41) (A_:=SQ a b ((a.refs.map S_).length:Int) ((b.refs.map S_).length:Int) ((a.tags.map bS).length:Int) ((b.tags.map bS).length:Int)) ?_ ?_
 ·all_goals refine Y (bA qR)<|Y (bQ N_)<|Y (bA qR)<|Y (bQ N_)<|Y DZ<|Dm ?_<;>(refine Sp 12 (λE=>?_) λE=>?_)<;>(first|exact s_|refine M<|M<|M<|M<|M ?_|refine U (bA eB)<|U (bQ M_)<|U (bA eB)<|U (bQ M_)<|U zB ?_)<;>refine Y cC<|Dm ?_<;>(refine Sp 19 (λA=>?_) λA=>?_)<;>(first|exact s_|refine M<|M<|M<|M<|M ?_|refine U (bA mK)<|U y5<|U (bA mK)<|U y5<|U (J7 Z Z Z Z Z mG (QT _ _ _ _)) ?_)<;>refine Y cC<|Dm ?_<;>(refine Sp 26 (λz=>?_) λz=>?_)<;>(first|exact s_|refine M<|M<|M<|M<|M<|M<|M ?_|refine U (bA eA)<|U (bQ aG)<|U (fW aE)<|U (bA eA)<|U (bQ aG)<|U (fW aE)<|U zB ?_)<;>refine Y cC<|Dm ?_<;>(refine Sp 35 (λw=>?_) λw=>?_)<;>(first|exact s_|refine M<|M<|M<|M<|M<|M<|M ?_|refine U (bA gA)<|U (bQ dF)<|U (fW dO)<|U (bA gA)<|U (bQ dF)<|U (fW dO)<|U zB ?_)<;>refine V cC ?_<;>exact Gj (h:=by first|(simp only[SQ, *];rfl)|(simp_all[SQ];done))
 refine Cn ?_ ?_<;>intro q
 ·rw[WZ]at q;refine Sz aI<|aC<|Rt ?_;refine⟨?_,Z⟩;have:IC a b=false:=F_
  rw[MX,this];rfl
 rw[WZ]at q;have F:IC a b=true:=F_
 have hlens:a.refs.length=b.refs.length/\a.tags.length=b.tags.length:=by
  simp only[IC,k_,j0]at F;omega
 have ⟨B,D⟩:=hlens;rw[MX,F,Bool.true_and];refine aB<|S<|Sz aI<|aD<|bF (σ:=Nat) (λk=>([(2,.ref 2 0 0 0),(3,.ref 3 0 0 0),(5,iv (k:Int))],[(3,bx 6 135 ((bP b).map .pv)),(2,bx 6 135 ((bP a).map .pv))])) (λk=>k<=a.refs.length/\∀j,j<k->∀x y,a.refs[j]?=some x->b.refs[j]?=some y->NK x y=true) (λk=>a.refs.length - k) 0 ⟨X,X⟩ ?_ ?_
 ·exact Wk
 rintro k ⟨I,s⟩;refine S<|O aA<|Y (bA eA)<|Y (bQ aG)<|Y (fW aE)<|V cJ<|Cn ?_ ?_<;>intro v
 ·have hlt:k<a.refs.length:=I_ v
  have ⟨x,n⟩:=aS hlt;have ⟨y,p⟩:=aS (l:=b.refs) (k:=k) X;have N:=cE (f:=S_) n;have d_:=cE (f:=S_) p;refine aB<|S<|aD<|S<|aM a7<|Cq (bA eA)<|Cq (bQ aG)<|Cq aA<|Cq (iO bD)<|Cq (fZ N_)<|Cq (bA eA)<|Cq (bQ aG)<|Cq aA<|Cq (iO bD)<|Cq (fZ N_)<|Cq DZ<|bG<|Kr<|Cn ?_ ?_<;>intro t
  ·have u:NK x y=false:=by
    have h:(!NK x y)=true:=t
    simpa using h
   refine Sz aI<|aC<|Rt ?_;exact⟨by rw[gm n p u];rfl,Z⟩
  have u:NK x y=true:=by
   have h:(!NK x y)=false:=t
   simpa using h
  refine aB<|Rd aA<|Y gX<|Da ?_;refine⟨k+1,⟨X,λj K G L e_ c_=>?_⟩,X,Wk⟩
  grind
 have hge:k=a.refs.length:=J_ v
 subst hge;rw[XA B s,Bool.true_and];refine aP<|S<|Sz aI<|aD<|bF (σ:=Nat) (λk=>([(2,.ref 2 0 0 0),(3,.ref 3 0 0 0),(6,iv (k:Int))],[(3,bx 6 135 ((bP b).map .pv)),(2,bx 6 135 ((bP a).map .pv))])) (λk=>k<=a.tags.length/\∀j,j<k->∀x y,a.tags[j]?=some x->b.tags[j]?=some y->wA x y=true) (λk=>a.tags.length - k) 0 ⟨X,X⟩ ?_ ?_
 ·exact Wk
 rintro k ⟨I,hall2⟩;refine S<|O aA<|Y (bA gA)<|Y (bQ dF)<|Y (fW dO)<|V cJ<|Cn ?_ ?_<;>intro m
 ·have hlt:k<a.tags.length:=I_ m
  have ⟨x,n⟩:=aS hlt;have ⟨y,p⟩:=aS (l:=b.tags) (k:=k) X;have N:=cE (f:=bS) n;have d_:=cE (f:=bS) p;refine aB<|S<|aD<|S<|aM a7<|Cq (bA gA)<|Cq (bQ dF)<|Cq aA<|Cq (iO lK)<|Cq (by exact fA Z xB lN Z X u6 Z)<|Cq (bA gA)<|Cq (bQ dF)<|Cq aA<|Cq (iO lK)<|Cq (by exact fA Z xB lN Z X u6 Z)<|Cq (J7 Z Z Z Z Z eqGuardType270 (Ws _ _ _ _))<|bG<|Kr ?_;refine Cn ?_ ?_<;>intro o
  ·have u:wA x y=false:=by
    have h:(!wA x y)=true:=o
    simpa using h
   refine Sz aI<|aC<|Rt ?_;exact⟨by rw[gm n p u],Z⟩
  have u:wA x y=true:=by
   have h:(!wA x y)=false:=o
   simpa using h
  refine aB<|Rd aA<|Y gX<|Da ?_;refine⟨k+1,⟨X,λj K G L e_ c_=>?_⟩,X,Wk⟩
  grind
 have hge:k=a.tags.length:=J_ m
 subst hge;refine aP<|Sz aI<|aC<|Rt ?_;exact⟨by rw[XA D hall2],Z⟩
theorem Aq(a b):MX a b=yG a b:=by rw[Bool.eq_iff_iff,pf,ID]
theorem Rn(a b)(H)(d:a.refs.length<2^62)(c:a.tags.length<2^62):RC 265 [av (bP a),av (bP b)] (bv (yG a b)) H:=by rw[<-Aq];exact Gw a b H d c
def raw(e:b8)(s:B_):Prop:=s=e.id\/s=e.other\/s=e.node\/s=e.obj.id\/s∈e.refs\/s∈e.obj.refs
def rb(b:b8):Bool:=((((((!decide (b.id=a6)||!decide (b.other=a6))||!decide (b.node=a6))||!(decide (b.x=0)&&decide (b.y=0)))||!decide (b.key=a6))||!decide (b.val=a6))||decide ((0:Int)<((b.refs.map S_).length:Int)))||!yG b.obj h_
theorem HS(b):rb b=false↔(b.id=a6/\b.other=a6/\b.node=a6/\(b.x=0/\b.y=0)/\b.key=a6/\b.val=a6/\b.refs=[]/\b.obj=h_):=by
 have a:decide (0<((b.refs.map S_).length))=false↔b.refs=[]:=H_
 simp[rb,q8,Bool.not_eq_false',k_,j0,a,ID];constructor;all_goals simp_all
theorem vS(x y):nj x y=ZR x y:=by rw[Bool.eq_iff_iff];simp[nj,ZR,k_,j0];omega
theorem ES:(a6.size:Int)<=200:=E_
def Mw(e:b8):b8:=⟨e.op,e.id,e.other,e.node,e.x,e.y,e.key,e.val,e.refs,h_⟩
theorem ed1(e)(ho:e.op=1):fX e=(!rb (Mw e)&&oF e.obj):=by
 have ⟨op,id,a,b,x,y,g,f,c,d⟩:=e;have h:=HS (Mw ⟨1,id,a,b,x,y,g,f,c,d⟩);rw[Bool.eq_iff_iff];simp[Mw]at h |-;simp[fX,k_,r8,h,pG,vS,wN,FM]
 grind
def Mv(e:b8):b8:=⟨e.op,a6,e.other,e.node,0,0,e.key,e.val,e.refs,e.obj⟩
theorem ed2(e)(ho:e.op=2):fX e=(!rb (Mv e)&&([e.id].all cH&&(decide ((e.val.size:Int)<=200)&&ZR e.x e.y))):=by
 have ⟨op,id,a,b,x,y,g,f,c,d⟩:=e;have i:=HS (Mv ⟨2,id,a,b,x,y,g,f,c,d⟩);rw[Bool.eq_iff_iff];simp[Mv]at i |-;simp[fX,k_,r8,i,pG,vS,wN,FM];simp only[Int.reduceEq,if_true,if_false,reduceIte,Int.reduceLE,decide_true,b8.mk.injEq,true_and,and_true,all_cons,List.all_nil,Bool.and_true,k_,vS,j0,r8,q8,p_,j6,eq_comm,eq_comm,eq_comm,eq_comm];constructor
 ·intro h;have hs:=ES
  simp_all
 simp_all
def Mu(e:b8):b8:=⟨e.op,a6,e.other,e.node,e.x,e.y,a6,a6,e.refs,e.obj⟩
theorem ed3(e)(ho:e.op=3):fX e=(!rb (Mu e)&&([e.id,e.key].all cH&&decide ((e.val.size:Int)<=200))):=by
 have ⟨op,id,a,b,x,y,g,f,c,d⟩:=e;have h:=HS (Mu ⟨3,id,a,b,x,y,g,f,c,d⟩);rw[Bool.eq_iff_iff];simp[Mu]at h |-;simp[fX,k_,r8,h,pG,vS,wN,FM]
 grind
def Mt(e:b8):b8:=⟨e.op,a6,e.other,e.node,e.x,e.y,e.key,e.val,[],e.obj⟩
theorem ed4(e)(ho:e.op=4):fX e=(!rb (Mt e)&&((e.id::e.refs).all cH&&(!(decide (((e.refs.map S_).length:Int)<1)||decide (2000<((e.refs.map S_).length:Int)))&&decide ((e.val.size:Int)<=200)))):=by
 have ⟨op,id,b,c,x,y,i,f,d,g⟩:=e;have j:=HS (Mt ⟨4,id,b,c,x,y,i,f,d,g⟩);rw[Bool.eq_iff_iff];simp[Mt]at j |-;simp[fX,k_,r8,j,pG,vS,wN,FM];simp only[Int.reduceEq,if_true,if_false,reduceIte,Int.reduceLE,decide_true,b8.mk.injEq,true_and,and_true,all_cons,List.all_nil,Bool.and_true,k_,vS,j0,r8,q8,p_,j6,eq_comm,eq_comm,eq_comm,eq_comm];constructor
 ·intro h;have hs:=ES
  simp_all
  omega
 grind
def Ms(e:b8):b8:=⟨e.op,a6,e.other,e.node,e.x,e.y,e.key,e.val,e.refs,e.obj⟩
theorem ed5(e)(i:e.op=5):fX e=(!rb (Ms e)&&([e.id].all cH&&decide ((e.val.size:Int)<=200))):=by
 have ⟨op,id,a,b,x,y,g,f,c,d⟩:=e;subst i;have h:=HS (Ms ⟨5,id,a,b,x,y,g,f,c,d⟩);rw[Bool.eq_iff_iff];simp[Ms]at h |-;simp[fX,k_,r8,h,pG,vS,wN,FM];simp only[Int.reduceEq,if_true,if_false,reduceIte,Int.reduceLE,decide_true,b8.mk.injEq,true_and,and_true,all_cons,List.all_nil,Bool.and_true,k_,vS,j0,r8,q8,p_,j6,eq_comm,eq_comm,eq_comm,eq_comm];constructor
 ·have hs:=ES
  simp_all
 simp_all
def Mr(e:b8):b8:=⟨e.op,a6,a6,a6,e.x,e.y,e.key,e.val,e.refs,e.obj⟩
theorem ed6(e)(i:e.op=6):fX e=(!rb (Mr e)&&([e.id,e.node,e.other].all cH&&decide ((e.val.size:Int)<=200))):=by
 have ⟨op,id,a,b,x,y,g,f,c,d⟩:=e;subst i;have h:=HS (Mr ⟨6,id,a,b,x,y,g,f,c,d⟩);rw[Bool.eq_iff_iff];simp[Mr]at h |-;simp[fX,k_,r8,h,pG,vS,wN,FM];simp only[Int.reduceEq,if_true,if_false,reduceIte,Int.reduceLE,decide_true,b8.mk.injEq,true_and,and_true,all_cons,List.all_nil,Bool.and_true,k_,vS,j0,r8,q8,p_,j6,eq_comm,eq_comm,eq_comm,eq_comm];constructor
 ·have hs:=ES
  simp_all
 simp_all
def Mq(e:b8):b8:=⟨e.op,a6,a6,e.node,e.x,e.y,e.key,e.val,e.refs,e.obj⟩
theorem ed7(e)(i:e.op=7):fX e=(!rb (Mq e)&&([e.id,e.other].all cH&&decide ((e.val.size:Int)<=200))):=by
 have ⟨op,id,a,b,x,y,g,f,c,d⟩:=e;subst i;have h:=HS (Mq ⟨7,id,a,b,x,y,g,f,c,d⟩);rw[Bool.eq_iff_iff];simp[Mq]at h |-;simp[fX,k_,r8,h,pG,vS,wN,FM];simp only[Int.reduceEq,if_true,if_false,reduceIte,Int.reduceLE,decide_true,b8.mk.injEq,true_and,and_true,all_cons,List.all_nil,Bool.and_true,k_,vS,j0,r8,q8,p_,j6,eq_comm,eq_comm,eq_comm,eq_comm];constructor
 ·have hs:=ES
  simp_all
 simp_all
abbrev fE(l:List B_):List (List AV):=l.map (λs=>(S_ s).map .pv)
theorem zG(l m):fE l++(m.map S_).map (·.map .pv)=fE (l++m):=H_
theorem wG(H)(l):∀r∈fE l,∀a∈r,Clo H a:=ZY _ _ _
instance(H)(l):W_ (H) (fE l):=⟨wG H l⟩
theorem JB(l:List _):∀r∈l.map S_,r.length=1:=λr a=>by
 obtain ⟨o,_,rfl⟩:=mem_map.1 a;rfl
def bI(e:b8):B_:=if e.op=1 then e.id else a6
def bB(e:b8):l6:=if e.op=1 then h_ else e.obj
def bX(e:b8):Int:=if e.op=2 then 0 else e.x
def bY(e:b8):Int:=if e.op=2 then 0 else e.y
def bK(e:b8):B_:=if e.op=3 then a6 else e.key
def bV(e:b8):B_:=if e.op=3 then a6 else e.val
def bR(e:b8):List B_:=if e.op=4 then[]else e.refs
def bN(e:b8):B_:=if e.op=6 then a6 else e.node
def bO(e:b8):B_:=if(decide (e.op=6)||decide (e.op=7))=true then a6 else e.other
def wD(e:b8):b8:=⟨e.op,bI e,bO e,bN e,bX e,bY e,bK e,bV e,bR e,bB e⟩
abbrev bE(e:b8):Ob:=bx 15 137 ((bJ e).map .pv)
def eNo:b8:=⟨0,a6,a6,a6,0,0,a6,a6,[],h_⟩
theorem aBC(e:b8)(H:aF):RC 264 [av (bJ e)] (av (bJ (wD e))) H:=by
 refine Pu ?_;rw[wD];obtain ⟨i,z⟩:∃x,x=bI e:=X_;obtain ⟨b,t⟩:∃x,x=bB e:=X_;obtain ⟨x,p⟩:∃x,x=bX e:=X_;obtain ⟨y,s⟩:∃x,x=bY e:=X_;obtain ⟨k,A⟩:∃x,x=bK e:=X_;obtain ⟨v,w⟩:∃x,x=bV e:=X_;obtain ⟨r,q⟩:∃x,x=bR e:=X_;obtain ⟨n,u⟩:∃x,x=bN e:=X_;obtain ⟨o,B⟩:∃x,x=bO e:=X_;rw[<-z,<-t,<-p,<-s,<-A,<-w,<-q,<-u,<-B];refine Bd func264 Z ntmps264<|O (kb 1)<|V (kl 2 U4)<|eK (λ(_:Unit)=>([(1,.ref 1 0 0 0),(2,.ref 2 0 0 0)],[(1,bE ⟨e.op,i,e.other,e.node,e.x,e.y,e.key,e.val,e.refs,b⟩),(2,bE eNo)])) (λ_=>True) ?_ ?_
 ·refine O (bA iN)<|Y (bQ M_)<|V cD<|Cn ?_ ?_<;>intro j
  ·have h:=b9 j
   (rw[z,t,bI,bB,b7 h,b7 h])
   refine Rd (oI FI)<|Y (bA uU)<|Uu (by exact qO Z sizeOf135 Z Z Z Z Z Z Z (r_ Z) Z Z)<|Zz ?_;exact⟨(),T_,Wk⟩
  have h:=b_ j
  (rw[z,t,bI,bB,a8 h,a8 h])
  refine Rd (bA jO)<|Uu (ku V_)<|Zz ?_;exact⟨(),T_,Wk⟩
 rintro _ -;refine eK (λ(_:Unit)=>([(1,.ref 1 0 0 0),(2,.ref 2 0 0 0)],[(1,bE ⟨e.op,i,e.other,e.node,x,y,e.key,e.val,e.refs,b⟩),(2,bE eNo)])) (λ_=>True) ?_ ?_
 ·refine O (bA iN)<|Y (bQ M_)<|V cD<|Cn ?_ ?_<;>intro l
  ·have h:=b9 l
   (rw[p,s,bX,bY,b7 h,b7 h])
   refine Rd (oI KZ)<|Y (bA jE)<|Uu (by exact qO Z sizeOf104 Z Z Z Z Z Z Z (r_ Z) Z Z)<|Zz ?_;exact⟨(),T_,Wk⟩
  have h:=b_ l
  (rw[p,s,bX,bY,a8 h,a8 h])
  refine aB ?_;exact⟨(),T_,Wk⟩
 rintro _ -;refine eK (λ(_:Unit)=>([(1,.ref 1 0 0 0),(2,.ref 2 0 0 0)],[(1,bE ⟨e.op,i,e.other,e.node,x,y,k,v,e.refs,b⟩),(2,bE eNo)])) (λ_=>True) ?_ ?_
 ·refine O (bA iN)<|Y (bQ M_)<|V cD<|Cn ?_ ?_<;>intro f
  ·have h:=b9 f
   (rw[A,w,bK,bV,b7 h,b7 h])
   refine O (bA nN)<|Uu (ku V_)<|Zz<|Rd (bA oP)<|Uu (ku V_)<|Zz ?_;exact⟨(),T_,Wk⟩
  have h:=b_ f
  (rw[A,w,bK,bV,a8 h,a8 h])
  refine aB ?_;exact⟨(),T_,Wk⟩
 rintro _ -;refine eK (λ(_:Unit)=>([(1,.ref 1 0 0 0),(2,.ref 2 0 0 0)],[(1,bE ⟨e.op,i,e.other,e.node,x,y,k,v,r,b⟩),(2,bE eNo)])) (λ_=>True) ?_ ?_
 ·refine O (bA iN)<|Y (bQ M_)<|V cD<|Cn ?_ ?_<;>intro c
  ·have h:=b9 c
   (rw[q,bR,b7 h])
   refine Rd (bA iM)<|Uu (ku sizeOf22)<|Zz ?_;exact⟨(),T_,Wk⟩
  have h:=b_ c
  (rw[q,bR,a8 h])
  refine aB ?_;exact⟨(),T_,Wk⟩
 rintro _ -;refine eK (λ(_:Unit)=>([(1,.ref 1 0 0 0),(2,.ref 2 0 0 0)],[(1,bE ⟨e.op,i,e.other,n,x,y,k,v,r,b⟩),(2,bE eNo)])) (λ_=>True) ?_ ?_
 ·refine O (bA iN)<|Y (bQ M_)<|V cD<|Cn ?_ ?_<;>intro d
  ·have h:=b9 d
   (rw[u,bN,b7 h])
   refine Rd (bA qQ)<|Uu (ku V_)<|Zz ?_;exact⟨(),T_,Wk⟩
  have h:=b_ d
  (rw[u,bN,a8 h])
  refine aB ?_;exact⟨(),T_,Wk⟩
 rintro _ -;refine eK (λ(_:Unit)=>([(1,.ref 1 0 0 0),(2,.ref 2 0 0 0)],[(1,bE ⟨e.op,i,o,n,x,y,k,v,r,b⟩),(2,bE eNo)])) (λ_=>True) ?_ ?_
 ·refine S<|aQ (t:=34) (n:=9) (A_:=decide (e.op=6)||decide (e.op=7)) ?_ ?_
  ·all_goals refine Y (bA iN)<|Y (bQ M_)<|Y cD<|Dm ?_<;>(refine Sp 30 (λm=>?_) λm=>?_)<;>(first|contradiction|refine M<|M<|M ?_|refine U (bA iN)<|U (bQ M_)<|U cD ?_)<;>refine V cC ?_<;>exact Gj (h:=by simp_all)
  refine Cn ?_ ?_<;>intro g
  ·have h:=g;rw[B,bO,b7 h];refine Rd (bA kM)<|Uu (ku V_)<|Zz ?_;exact⟨(),T_,Wk⟩
  have h:=g;rw[B,bO,a8 (by simp_all)];refine aB ?_;exact⟨(),T_,Wk⟩
 rintro _ -;refine O (wQ cU aZ)<|Uu (jA aZ)<|Zz<|aC<|cR (H':=[]) (.inr Z) Z (CN cU aZ) (Fin.wk (r:=av (bJ ⟨e.op,i,o,n,x,y,k,v,r,b⟩)) (by simp) T_ T_) Qq
def WN(e:b8):List B_:=if e.op=3 then[e.id]++[e.key]else[e.id]
def ZC(e:b8):List B_:=if e.op=4 then WN e++e.refs else WN e
def al(e:b8):List B_:=if e.op=6 then ZC e++[e.node]else ZC e
def Tk(e:b8):List B_:=if(decide (e.op=6)||decide (e.op=7))=true then al e++[e.other]else al e
def aDM(e:b8):Bool:=decide (((e.refs.map S_).length:Int)<1)||decide (2000<((e.refs.map S_).length:Int))
def vG(e:b8):Bool:=!rb (wD e)&&(if e.op=1 then oF e.obj else(Tk e).all cH&&(!(decide (e.op=4)&&aDM e)&&(decide ((e.val.size:Int)<=200)&&(!decide (e.op=2)||ZR e.x e.y))))
theorem aBh(e)(h:1<=e.op/\e.op<=7):fX e=vG e:=by
 have ⟨a,id,other,node,x,y,key,val,refs,obj⟩:=e;simp only at h;rcases(by omega:a=1\/a=2\/a=3\/a=4\/a=5\/a=6\/a=7)with rfl|rfl|rfl|rfl|rfl|rfl|rfl
 ·rw[ed1 _ rfl];rfl
 ·rw[ed2 _ rfl];rfl
 ·rw[ed3 _ Z,vG];show _=(_&&(_&&(true&&(_&&true))));rw[Bool.and_true];rfl
 ·rw[ed4 _ Z,vG];show _=(_&&(_&&(!(true&&_)&&(_&&true))));rw[Bool.and_true];rfl
 ·rw[ed5 _ Z,vG];show _=(_&&(_&&(true&&(_&&true))));rw[Bool.and_true];rfl
 ·rw[ed6 _ Z,vG];show _=(_&&(_&&(true&&(_&&true))));rw[Bool.and_true];rfl
 rw[ed7 _ Z,vG];show _=(_&&(_&&(true&&(_&&true))));rw[Bool.and_true];rfl
theorem uo(e):(Tk e).length<=e.refs.length+5:=by
 rw[Tk,al,ZC,WN]
 grind
theorem Tn(e):(WN e).length<=e.refs.length+5:=by rw[WN];all_goals grind
theorem Tm(e):(ZC e).length<=e.refs.length+5:=by
 rw[ZC,WN]
 grind
theorem Tl(e):(al e).length<=e.refs.length+5:=by
 rw[al,ZC,WN]
 grind
theorem KH{P:α->Prop}{p}[Decidable p](ha:∀s∈a,P s)(hb:∀s∈b,P s):∀s∈(if p then a else b),P s:=G_
theorem KI{P:α->Prop}(c:∀s∈a,P s)(d:∀s∈b,P s):∀s∈a++b,P s:=λs e=>(mem_append.1 e).elim (c s) (d s)
theorem EV{P:α->Prop}{a}(h:P a):∀s∈[a],P s:=λs hs=>by
 simp_all
theorem Tj{e}(j:US e):∀s∈Tk e,s.size<2^62:=by have ⟨⟨d,i,f,h⟩,⟨h5,g⟩,h7⟩:=j;have c:∀s∈WN e,s.size<2^62:=KH (KI (EV d) (EV h)) (EV d);have b:∀s∈ZC e,s.size<2^62:=KH (KI c g) c;have a:∀s∈al e,s.size<2^62:=KH (KI b (EV f)) b;exact KH (KI a (EV i)) a
def Ww(e:b8):List B_:=[e.id]
theorem yu(e:b8)(H:aF)(he:US e)(hr:e.refs.length<2^40):RC 220 [av (bJ e)] (bv (fX e)) H:=by
 refine Pu ?_;have hnm:=Tj he;have hnl:=uo e;have hrl:(e.refs.map S_).length=e.refs.length:=j6 _;have hbo:(wD e).obj.refs.length<2^62/\(wD e).obj.tags.length<2^62:=by
  show (bB e).refs.length<_/\(bB e).tags.length<_;rw[bB]
  split
  ·exact⟨E_,E_⟩
  exact⟨he.2.2.2.2.1,he.2.2.2.1.1⟩
 refine Bd func220 Z ntmps220<|O (kb 1)<|V aI<|S<|S<|aQ (t:=13) (n:=9) (A_:=decide (e.op<1)||decide (7<e.op)) ?_ ?_
 ·all_goals refine Y (bA iN)<|Y (bQ M_)<|Y cJ<|Dm ?_<;>(refine Sp 9 (λh9=>?_) λh9=>?_)<;>(first|exact s_|refine M<|M<|M ?_|refine U (bA iN)<|U (bQ M_)<|U iP ?_)<;>refine V cC ?_<;>(exact⟨⟨_,Z,G_⟩,Z,Z,Z⟩)
 refine Cn ?_ ?_<;>intro hc1
 ·have h:=hc1;have hs:fX e=false:=by
   simp only[Bool.or_eq_true,j0]at h;rw[fX,Bool.and_eq_false_iff,Bool.and_eq_false_iff,p_,p_];omega
  rw[hs];exact Sz aI<|aC<|Rt<|Qq
 have h:=hc1;simp only[q8,p_]at h;rw[aBh e X,vG];have hrb:rb (wD e)=(((((((!decide ((wD e).id=a6)||!decide ((wD e).other=a6))||!decide ((wD e).node=a6))||!(decide ((wD e).x=0)&&decide ((wD e).y=0)))||!decide ((wD e).key=a6))||!decide ((wD e).val=a6))||decide ((0:Int)<(((wD e).refs.map S_).length:Int)))||!yG (wD e).obj h_):=rfl;have hbc:=λH=>aBC e H;have ⟨G,hG⟩:∃G,G=wD e:=X_;simp only[<-hG]at hrb hbo hbc;rw[<-hG];clear hG;have ⟨g0,g1,g2,g3,g4,g5,g6,g7,g8,g9⟩:=G;simp only at hrb hbo;refine aB<|O (by exact aW Z cU aZ Z Z Z Z m4 Z)<|Y (kc call264 (hbc _))<|Y (kl 3 U4)<|Uu (jA aZ)<|Zz<|S<|S ?_;refine aQ (t:=57) (n:=49) (A_:=rb ⟨g0,g1,g2,g3,g4,g5,g6,g7,g8,g9⟩) ?_ ?_
 ·all_goals refine Y (bA jO)<|Y (bQ N_)<|Y DZ<|Dm ?_<;>(refine Sp 19 (λh19=>?_) λh19=>?_)<;>(try exact w_)<;>(first|refine M<|M<|M ?_|refine U (bA kM)<|U (bQ N_)<|U DZ ?_)<;>refine Y cC<|Dm ?_<;>(refine Sp 24 (λh24=>?_) λh24=>?_)<;>(try exact w_)<;>(first|refine M<|M<|M ?_|refine U (bA qQ)<|U (bQ N_)<|U DZ ?_)<;>refine Y cC<|Dm ?_<;>(refine Sp 29 (λh29=>?_) λh29=>?_)<;>(try exact w_)<;>(first|refine M<|M<|M<|M ?_|refine U (bA jE)<|U (by exact aW Z eD sizeOf104 Z Z Z Z m4 Z)<|U (oI KZ)<|U (J7 Z Z Z Z Z mG (QT _ _ _ _)) ?_)<;>refine Y cC<|Dm ?_<;>(refine Sp 35 (λh35=>?_) λh35=>?_)<;>(try exact w_)<;>(first|refine M<|M<|M ?_|refine U (bA nN)<|U (bQ N_)<|U DZ ?_)<;>refine Y cC<|Dm ?_<;>(refine Sp 40 (λh40=>?_) λh40=>?_)<;>(try exact w_)<;>(first|refine M<|M<|M ?_|refine U (bA oP)<|U (bQ N_)<|U DZ ?_)<;>refine Y cC<|Dm ?_<;>(refine Sp 45 (λh45=>?_) λh45=>?_)<;>(try exact w_)<;>(first|refine M<|M<|M<|M ?_|refine U (bA iM)<|U (bQ aG)<|U (fW aE)<|U iP ?_)<;>refine Y cC<|Dm ?_<;>(refine Sp 51 (λh51=>?_) λh51=>?_)<;>(try exact w_)<;>(first|refine M<|M<|M<|M<|M ?_|refine U (bA uU)<|U (by exact aW Z bW sizeOf135 Z Z Z Z m4 Z)<|U (oI FI)<|U (kc call265 (Rn g9 h_ _ hbo.1 hbo.2))<|U iI ?_)<;>refine V cC ?_<;>exact Gj (h:=by simp_all)
 refine Cn ?_ ?_<;>intro hc2
 ·have h2:=hc2;rw[h2,Bool.not_true,Bool.false_and];exact Sz aI<|aC<|Rt<|Qq
 have h2:=hc2;rw[h2,Bool.not_false,Bool.true_and];clear hrb hbo h2;refine aB<|S<|O (bA iN)<|Y (bQ M_)<|V cD<|Cn ?_ ?_<;>intro hc3
 ·have h3:e.op=1:=b9 hc3;rw[b7 h3];exact O (bA uU)<|Y (by exact aW Z bW sizeOf135 Z Z Z Z m4 Z)<|Y (kc call261 (Hw e.obj _ he.2.2))<|V aI<|aC<|Rt<|Qq
 have h3:¬ e.op=1:=b_ hc3;rw[a8 h3];refine aB<|O (bA jO)<|Y (bQ N_)<|Y (gN (id:=66) Z bD Z Z Z Z H_ Z)<|Da<|eK (λ(g:Nat)=>([(1,.ref 1 0 0 0),(4,.osl 66 g 0 (WN e).length)],[(1,bE e),(66,⟨g,1,9,fE (WN e)⟩)])) (λ_=>True) ?_ ?_
 ·refine O (bA iN)<|Y (bQ M_)<|V cD<|Cn ?_ ?_<;>intro hc4
  ·have h:=b9 hc4;have hm:WN e=Ww e++[e.key]:=b7 h;have hl:(Ww e).length+([e.key]).length=(Ww e++[e.key]).length:=j_.symm;have hb:(Ww e++[e.key]).length<8796093022208:=by rw[<-hm];have:=Tn e;omega
   rw[hm];refine Rd aA<|Y (bA nN)<|Y (bQ N_)<|Y (by exact aK [S_ e.key] Z bD Z Z Z Z Z (by simp[S_]))<|Y (by exact cA (ps:=([e.key]).map S_) Z bD yJ Z Z Z Z Z (show (fE (Ww e)).length=(Ww e).length from j6 _) Z (JB _) (m:=([e.key]).length) (j6 _) (by omega) hl (zG (Ww e) [e.key]))<|Da ?_;exact⟨0+1,T_,(cL.wk (Ea<|Ea<|T_) (Hb<|Hc (wG _ _)<|T_) T_)⟩
  have h:=hc4;have hm:WN e=Ww e:=a8 (b_ h);rw[hm];refine aB ?_;exact⟨0,T_,Wk⟩
 rintro g -;refine eK (λ(g:Nat)=>([(1,.ref 1 0 0 0),(4,.osl 66 g 0 (ZC e).length)],[(1,bE e),(66,⟨g,1,9,fE (ZC e)⟩)])) (λ_=>True) ?_ ?_
 ·refine O (bA iN)<|Y (bQ M_)<|V cD<|Cn ?_ ?_<;>intro hc5
  ·have h:=b9 hc5;have hm:ZC e=WN e++e.refs:=b7 h;have hl:(WN e).length+(e.refs).length=(WN e++e.refs).length:=j_.symm;have hb:(WN e++e.refs).length<8796093022208:=by rw[<-hm];have:=Tm e;omega
   rw[hm];refine Rd aA<|Y (bA iM)<|Y (bQ aG)<|Y (by exact cA (ps:=(e.refs).map S_) Z bD yJ Z Z Z Z Z (show (fE (WN e)).length=(WN e).length from j6 _) Z (JB _) (m:=(e.refs).length) (j6 _) (by omega) hl (zG (WN e) e.refs))<|Da ?_;exact⟨g+1,T_,(cL.wk (Ea<|Ea<|T_) (Hb<|Hc (wG _ _)<|T_) T_)⟩
  have h:=hc5;have hm:ZC e=WN e:=a8 (b_ h);rw[hm];refine aB ?_;exact⟨g,T_,Wk⟩
 rintro g -;refine eK (λ(g:Nat)=>([(1,.ref 1 0 0 0),(4,.osl 66 g 0 (al e).length)],[(1,bE e),(66,⟨g,1,9,fE (al e)⟩)])) (λ_=>True) ?_ ?_
 ·refine O (bA iN)<|Y (bQ M_)<|V cD<|Cn ?_ ?_<;>intro hc6
  ·have h:=b9 hc6;have hm:al e=ZC e++[e.node]:=b7 h;have hl:(ZC e).length+([e.node]).length=(ZC e++[e.node]).length:=j_.symm;have hb:(ZC e++[e.node]).length<8796093022208:=by rw[<-hm];have:=Tl e;omega
   rw[hm];refine Rd aA<|Y (bA qQ)<|Y (bQ N_)<|Y (by exact aK [S_ e.node] Z bD Z Z Z Z Z (by simp[S_]))<|Y (by exact cA (ps:=([e.node]).map S_) Z bD yJ Z Z Z Z Z (show (fE (ZC e)).length=(ZC e).length from j6 _) Z (JB _) (m:=([e.node]).length) (j6 _) (by omega) hl (zG (ZC e) [e.node]))<|Da ?_;exact⟨g+1,T_,(cL.wk (Ea<|Ea<|T_) (Hb<|Hc (wG _ _)<|T_) T_)⟩
  have h:=hc6;have hm:al e=ZC e:=a8 (b_ h);rw[hm];refine aB ?_;exact⟨g,T_,Wk⟩
 rintro g -;refine eK (λ(g:Nat)=>([(1,.ref 1 0 0 0),(4,.osl 66 g 0 (Tk e).length)],[(1,bE e),(66,⟨g,1,9,fE (Tk e)⟩)])) (λ_=>True) ?_ ?_
 ·refine S<|aQ (t:=97) (n:=9) (A_:=decide (e.op=6)||decide (e.op=7)) ?_ ?_
  ·all_goals refine Y (bA iN)<|Y (bQ M_)<|Y cD<|Dm ?_<;>(refine Sp 93 (λh93=>?_) λh93=>?_)<;>(try exact w_)<;>(first|refine M<|M<|M ?_|refine U (bA iN)<|U (bQ M_)<|U cD ?_)<;>refine V cC ?_<;>exact Gj (h:=by(rw[h93];rfl))
  refine Cn ?_ ?_<;>intro hc7
  ·have h:=id hc7;have hm:Tk e=al e++[e.other]:=b7 h;have hl:(al e).length+([e.other]).length=(al e++[e.other]).length:=j_.symm;have hb:(al e++[e.other]).length<8796093022208:=by rw[<-hm];have:=uo e;omega
   rw[hm];refine Rd aA<|Y (bA kM)<|Y (bQ N_)<|Y (by exact aK [S_ e.other] Z bD Z Z Z Z Z (by simp[S_]))<|Y (by exact cA (ps:=([e.other]).map S_) Z bD yJ Z Z Z Z Z (show (fE (al e)).length=(al e).length from j6 _) Z (JB _) (m:=([e.other]).length) (j6 _) (by omega) hl (zG (al e) [e.other]))<|Da ?_;exact⟨g+1,T_,(cL.wk (Ea<|Ea<|T_) (Hb<|Hc (wG _ _)<|T_) T_)⟩
  have h:=hc7;have hm:Tk e=al e:=a8 (by(rw[h];decide));rw[hm];refine aB ?_;exact⟨g,T_,Wk⟩
 rintro g -;have ⟨N,hN⟩:∃N,N=Tk e:=X_;rw[<-hN]at hnm hnl;rw[<-hN];clear hN;have hNl:(N.map S_).length=N.length:=j6 _;refine S<|S ?_;refine gG.ent (cL.fz (id:=66) (E':=[(1,.ref 1 0 0 0),(4,.pv (aL N))]) (H':=[(1,bE e)]) (N.map S_) Z (Rc S_ N)
  (by intro p hp;simp only[l9,q7,or_false]at hp;rcases hp with rfl|rfl;exact⟨_,Z,.same (.ref Z)⟩;exact⟨_,Z,.osl (by rw[r9,drop_zero,<-length_map (f:=S_),take_length])⟩) Z ⟨⟨_,Z,Z⟩,y4,T_⟩ T_) ?_
 refine Rg<|V aI<|aD<|bF (σ:=Nat) (λq=>([(1,.ref 1 0 0 0),(4,.pv (aL N)),(5,iv (q:Int))],[(1,bE e)])) (λq=>q<=N.length/\∀j,j<q->∀b,N[j]?=some b->(!cH b)=false) (λq=>N.length - q) 0 ⟨X,X⟩ ?_ ?_
 ·exact Wk
 rintro q ⟨hq,hno⟩;refine S<|O aA<|Y aA<|Y (fW aE)<|V cJ<|Cn ?_ ?_<;>intro hc8
 ·have hlt:q<N.length:=I_ hc8
  have ⟨s,hs⟩:=aS hlt;have hi:=cE (f:=S_) hs;refine aB<|S<|aD<|O aA<|Y aA<|Y (iO bD)<|Y (fZ N_)<|Y (kc fV (lE s _ (hnm s (m8 hs))))<|V iI<|Cn ?_ ?_<;>intro hc9
  ·have hb:(!cH s)=true:=hc9;have hall:N.all cH=false:=by
    rw[all_eq_false];exact⟨s,m8 hs,by simpa using hb⟩
   rw[hall];exact Sz aI<|aC<|Rt<|Qq
  have hb:(!cH s)=false:=hc9;refine aB<|Rd aA<|Y gX<|Da ?_;exact⟨q+1,⟨X,RN hno hs hb⟩,X,Wk⟩
 have hge:q=N.length:=J_ hc8
 subst hge;have hall:N.all cH=true:=by
  rw[all_eq_true];intro s hs;have ⟨j,hj⟩:=s8.1 hs;have:=hno j (m9.1 hj).1 s hj
  simpa using this
 rw[hall,Bool.true_and,aDM];clear hnm hnl hno hall he;refine aP<|S<|S<|aQ (t:=129) (n:=17) (A_:=decide (e.op=4)&&(decide (((e.refs.map S_).length:Int)<1)||decide (2000<((e.refs.map S_).length:Int)))) ?_ ?_
 ·all_goals refine Y (bA iN)<|Y (bQ M_)<|Y cD<|Dm ?_<;>(refine Sp 118 (λh118=>?_) λh118=>?_)<;>(try exact w_)<;>(first|refine M<|M<|M<|M<|M ?_|refine U (bA iM)<|U (bQ aG)<|U (fW aE)<|U cJ<|U aA ?_)<;>(first|refine Sp 123 (λh123=>?_) λh123=>?_|refine jS (t:=123) Z ?_)<;>(try exact w_)<;>(first|refine M ?_|refine Fu ?_|refine U (bA iM) ?_)<;>(first|refine M ?_|refine Fu ?_|refine U (bQ aG) ?_)<;>(first|refine M ?_|refine Fu ?_|refine U (fW aE) ?_)<;>(first|refine M ?_|refine Fu ?_|refine U iP ?_)<;>(first|refine M ?_|refine U cC ?_)<;>refine V cC ?_<;>exact Gj (h:=by first|(rw[h118];rfl)|(rw[h118,h123];rfl))
 refine Cn ?_ ?_<;>intro hc10
 ·have h5:=hc10;rw[h5];exact Sz aI<|aC<|Rt<|Qq
 have h5:=hc10;rw[h5,Bool.not_false,Bool.true_and];refine aB<|S<|aQ (t:=2) (n:=17) (A_:=decide ((e.val.size:Int)<=200)&&(!decide (e.op=2)||ZR e.x e.y)) ?_ ?_
 ·all_goals refine Y (bA oP)<|Y (bQ N_)<|Y (gE U_)<|Y G8<|Dm ?_<;>(refine Sp 134 (λh134=>?_) λh134=>?_)<;>(try exact w_)<;>(first|refine M<|M<|M<|M ?_|refine U (bA iN)<|U (bQ M_)<|U zB<|U aA ?_)<;>(first|refine Sp 138 (λh138=>?_) λh138=>?_|refine jS (t:=138) Z ?_)<;>(try exact w_)<;>(first|refine M ?_|refine Fu ?_|refine U (bA jE) ?_)<;>(first|refine M ?_|refine Fu ?_|refine U (by exact aW Z eD sizeOf104 Z Z Z Z m4 Z) ?_)<;>(first|refine M ?_|refine Fu ?_|refine U (kc call170 (Hv e.x e.y _)) ?_)<;>(first|refine M ?_|refine U cC ?_)<;>refine Y cC<|Da ?_<;>exact Gj (h:=by first|(rw[h134];rfl)|(rw[h134,h138];rfl))
 exact aC<|Rt<|Qq
theorem yy(l:List b8)(H:aF)(hl:l.length<2^40)(s:∀e∈l,US e)(p:∀e∈l,e.refs.length<2^40):RC 165 [.pv (kD l)] (bv (lG l)) H:=by
 refine Pu ?_;have hml:(l.map bJ).length=l.length:=j6 _;refine Bd func165 Z ntmps165<|Sz aI<|S<|S<|aQ (t:=11) (n:=9) (A_:=decide (((l.map bJ).length:Int)<1)||decide (200<((l.map bJ).length:Int))) ?_ ?_
 ·all_goals refine Y aA<|Y (fW eW)<|Y cJ<|Dm ?_<;>(refine Sp 7 (λq=>?_) λq=>?_)<;>(first|exact s_|refine M<|M<|M ?_|refine U aA<|U (fW eW)<|U iP ?_)<;>refine V cC ?_<;>(exact⟨⟨_,Z,G_⟩,Z,Z,Z⟩)
 refine Cn ?_ ?_<;>intro g
 ·have o:lG l=false:=by
   simp only[Bool.or_eq_true,j0]at g;rw[lG,Bool.and_eq_false_iff,Bool.and_eq_false_iff,p_,p_];omega
  refine Sz aI<|aC<|Rt ?_
  simp_all
 have o:lG l=!(l.any (λe=>!fX e)):=by
  simp only[q8,p_]at g;rw[lG,decide_eq_true (by omega:(0:Int)<(l.length:Int)),decide_eq_true (by omega:(l.length:Int)<=200)];rfl
 rw[o];refine aB<|S<|Sz aI<|aD<|bF (σ:=Nat) (λk=>([(0,.pv (kD l)),(3,iv (k:Int))],[])) (λk=>k<=l.length/\∀j,j<k->∀b,l[j]?=some b->(!fX b)=false) (λk=>l.length - k) 0 ⟨X,X⟩ ?_ ?_
 ·exact E0
 rintro k ⟨hk,f⟩;refine S<|O aA<|Y aA<|Y (fW eW)<|V cJ<|Cn ?_ ?_<;>intro d
 ·have i:k<l.length:=I_ d
  have ⟨e,h⟩:=aS i;have hi:=cE (f:=bJ) h;refine aB<|S<|aD<|O aA<|Y aA<|Y (iO ca)<|Y (by exact fA Z cU aZ Z X m4 Z)<|Y (kc call220 (yu e _ (s e (m8 h)) (p e (m8 h))))<|V iI ?_;refine Cn ?_ ?_<;>intro m
  ·refine Sz aI<|aC<|Rt ?_
   grind
  refine aB<|Rd aA<|Y gX<|Da ?_;exact⟨k+1,⟨X,RN f h m⟩,X,E0⟩
 have n:k=l.length:=J_ d
 subst n;refine aP<|Sz aI<|aC<|Rt ?_;exact⟨by rw[Ng f];rfl,Z⟩
def aCv(l:List B_):Prop:=l.Pairwise (λa b=>lA a b=true)
end Go.Proofs.YtopnleflllkbmaaGreatDoor
section
namespace Go.Abs
theorem UO{P}{N}{o}{E}{H}{T}{t}{e}{id g off len sz:Nat}{ob}{b}{rows'}(z:o.op=.call {callee:=.builtin .clear,args:=#[.tmp t],argTypes:=#[T]})(hS:fG P T e sz)(s:eN P e b)(f:b.length=sz)
  (r:E.get t=some (.osl id g off len)) (p:H.get id=some ob) (q:ob.g=g) (i:ob.sz=sz) (h:off<=ob.rows.length) (d:ob.rows.take off++(List.replicate len b++ob.rows.drop (off+len))=rows') :
  cN P N o E H .any ((id,⟨g,sz,ob.ty,rows'⟩)::H):=by
 intro a w I ι A y n m K Q l;have ⟨v,hv,j⟩:=m t _ r;have ⟨c,h3,h4,h5⟩:=uh n j p q;refine zp (E:=(t,.osc _ g _ _ c)::E) z hS s f (cY.get_cons_same _ _ _) p q i h d a w I _ A y n (λu x k=>?_) K Q l;by_cases e:t=u
 ·subst e;rw[cY.get_cons_same]at k;simp_all
 rw[cY.get_cons_other _ _ e]at k;exact m u x k
end Go.Abs
namespace Go.Proofs.YtopnleflllkbmaaGreatDoor
open Go.Proofs.Tryz
open Go.Abs
def fN:List B_->List B_
 | []=>[]
 | [x]=>[x]
 |x::y::r=>if x=y then fN (y::r)else x::fN (y::r)
theorem M5:∀(l) (x y),fN (l++[x,y])=fN (l++[x])++(if x=y then[]else[y])
 | [],x,y=>by
  show (if x=y then fN [y]else x::fN [y])=[x]++_;by_cases e:x=y
  ·rw[b7 e,b7 e,e];rfl
  rw[a8 e,a8 e];rfl
 | [a],x,y=>by
  show (if a=x then fN _ else a::fN _)=(if a=x then fN [x]else a::fN [x])++_;have:=M5 [] x y;rw[show fN [x,y]=fN ([]++[x,y])from Z,this]
  split<;>rfl
 |a::b::l,x,y=>by
  have:=M5 (b::l) x y;show (if a=b then fN ((b::l)++[x,y])else a::fN ((b::l)++[x,y]))=(if a=b then fN ((b::l)++[x])else a::fN ((b::l)++[x]))++_
  grind
theorem XK{L:List B_}{k:Nat}{x y:B_}(hk:1<=k)(b:L[k - 1]?=some x)(c:L[k]?=some y):fN (L.take (k+1))=fN (L.take k)++(if x=y then[]else[y]):=by
 obtain ⟨j,rfl⟩:∃j,k=j+1:=⟨k - 1,X⟩;rw[show j+1 - 1=j by omega]at b;have a:L.take (j+1)=L.take j++[x]:=by rw[take_add_one,b];rfl
 have d:L.take (j+1+1)=L.take j++[x,y]:=by rw[take_add_one,a,c,append_assoc];rfl
 rw[d,a,M5]
theorem FG:∀ {l} {x},x∈fN l↔x∈l
 | [],x=>Iff.rfl
 | [a],x=>Iff.rfl
 | a::b::l,x=>by
  show x∈(if a=b then fN _ else a::fN _)↔_;have c:=FG (l:=b::l) (x:=x)
  split
  ·next e =>
   rw[c,e];simp
  rw[l9,c,mem_cons (b:=a)]
theorem KX:∀ {l},l.Pairwise (λa b=>lA b a=false)->aCv (fN l)
 | [],_=>.nil
 | [a],_=>List.pairwise_singleton _ _
 | a::b::l,h=>by
  have j:=(pairwise_cons.1 h).2;have i:=KX j;show aCv (if a=b then fN _ else a::fN _)
  split
  ·exact i
  next e =>
  refine pairwise_cons.2 ⟨λy m=>?_,i⟩;have d:=FG.1 m;have g:=(pairwise_cons.1 h).1 b mem_cons_self;have c:lA a b=true:=by
   cases f:lA a b with
   |true=>rfl
   |false=>exact absurd (Fd f g) e
  rcases l9.1 d with rfl|d
  ·exact c
  have k:=(pairwise_cons.1 j).1 y d;cases f:lA b y with
  |true=>exact FT c f
  |false=>rw[Fd k f];exact c
theorem W2:∀(l),(fN l).length<=l.length
 | []=>g_ _
 | [a]=>g_ _
 |a::b::l=>by
  have ih:=W2 (b::l);show (if a=b then fN _ else a::fN _).length<=(b::l).length+1
  grind
theorem JC{l}{i:Nat}{s}(h:l[i]?=some s):(tN l)[i]?=some ((S_ s).map .pv):=F_
theorem oc{P L:List B_}{j}{s}(h:P.length<=j)(hs:L[j]?=some s):(P++L.drop P.length)[j]?=some s:=G_
theorem pj{H:aF}{id}{o}(h:H.get id=some o)(j):aF.get ((id,o)::H) j=H.get j:=by
 by_cases e:j=id
 ·subst e;rw[get_cons_same,h]
 exact get_cons_other _ _ e
theorem XJ(L:List B_)(g:Nat)(H:aF)(h1:H.get 901=some ⟨g,1,9,tN L⟩)(hl:L.length<2^40):
  aU Tryz.prog 31 [.osl 901 g 0 L.length] H (λr H'=>r=.osl 901 g 0 (fN L).length/\H'=(901,⟨g,1,9,tN (fN L++List.replicate (L.length - (fN L).length) a6)⟩)::H):=by
 refine Bd func31 Z ntmps31 ?_;refine gG.ent (E':=[(0,.osl 901 g 0 L.length)]) (H':=(901,⟨g,1,9,tN L⟩)::H) (cL.get' ⟨⟨_,Z,Z⟩,T_⟩ (pj h1))<|Sz aI<|S<|O aA<|Y (by exact dS Z aE Z Z Z)<|V cJ<|Cn ?_ ?_<;>intro E
 ·have N:L.length<2:=I_ E
  have o_:fN L=L:=by
   match L,N with
   | [],_=>rfl
   | [a],_=>rfl
  refine O aA<|V aI<|aC<|cR (H':=(901,⟨g,1,9,tN L⟩)::H) (.inr Z) Z (aH Z) Fin.refl ⟨by rw[o_],F_⟩
 have hge:2<=L.length:=J_ E
 refine aB<|S<|Sz aI<|aD<|bF (σ:=Nat) (λi=>([(0,.osl 901 g 0 L.length),(3,iv (i:Int))],(901,⟨g,1,9,tN L⟩)::H)) (λi=>1<=i/\i<=L.length/\fN (L.take i)=L.take i) (λi=>L.length - i) 1 ⟨X,X,by
  have ⟨x,K⟩:=aS (l:=L) (k:=0) X;rw[take_add_one,K];rfl⟩ ?_ ?_
 ·exact cL.get' ⟨⟨_,Z,Z⟩,⟨_,Z,Z⟩,T_⟩ (λj=>rfl)
 rintro i ⟨P,hi2,f⟩;refine S<|O aA<|Y aA<|Y (by exact dS Z aE Z Z Z)<|V cJ<|Cn ?_ ?_<;>intro I
 ·have w:i<L.length:=I_ I
  have ⟨y,z_⟩:=aS w;have ⟨x,K⟩:=aS (l:=L) (k:=i - 1) X;have e_:=XK P K z_;refine aB<|S<|aD<|S<|aM a7<|Cq aA<|Cq aA<|Cq (by exact dL Z bD Z Z Z Z Z X x6 w (r9 _))<|Cq (by exact aX Z N_ Z Z Z (JC z_) Z)<|Cq aA<|Cq aA<|Cq (by exact dM Z Z Z (by exact mE X X))<|Cq (by exact dL (m:=i - 1) Z bD Z Z Z Z Z X (show ((i:Int) - 1).toNat=i - 1 by omega) X (r9 _))<|Cq (by exact aX Z N_ Z Z Z (JC K) Z)<|Cq wH<|bG<|Kr<|Cn ?_ ?_<;>intro F
  ·have n:=b9 F;rw[b7 n.symm,append_nil,f]at e_;refine O aA<|Y aA<|Y (by exact kP (l:=i) (h:=L.length) Z bD Z Z Z Z Z Z X (g_ _) (r9 _) Z)<|V aI<|S<|Sz aI<|aD<|eU (λ(k:Nat) (R:List B_)=>([(0,.osl 901 g 0 L.length),(3,iv (R.length:Int)),(4,.osl 901 g i (L.length - i)),(5,iv (k:Int))],(901,⟨g,1,9,tN (R++L.drop R.length)⟩)::H)) (λk R=>1<=k/\i+k<=L.length/\R=fN (L.take (i+k))/\R.length+1<=i+k) (λk R=>L.length - (i+k)) 1 (L.take i) ⟨X,X,e_.symm,F_⟩ ?_ ?_
   ·have f_:(L.take i).length=i:=F_
    rw[f_,take_append_drop];exact cL.get' ⟨⟨_,Z,Z⟩,⟨_,Z,Z⟩,⟨_,Z,Z⟩,⟨_,Z,Z⟩,T_⟩ (λj=>rfl)
   rintro k R ⟨hk1,hk2,d,hk4⟩;refine S<|O aA<|Y aA<|Y (by exact dS Z aE Z Z Z)<|V cJ<|Cn ?_ ?_<;>intro c_
   ·have Q:i+k<L.length:=I_ c_
    have ⟨v,hv⟩:=aS Q;have ⟨u,hu⟩:=aS (l:=L) (k:=i+k - 1) X;have l:=XK X hu hv;have t:=JC (oc (P:=R) X hv);have u_:=JC (oc (P:=R) X hu);refine aB<|S<|aD<|S<|aM a7<|Cq aA<|Cq aA<|Cq (by exact dL (m:=k) Z bD Z Z Z Z Z X (l_ _) X Z)<|Cq (by exact aX Z N_ Z Z Z t Z)<|Cq aA<|Cq aA<|Cq (by exact dM Z Z Z (by exact mE X X))<|Cq (by exact dL (m:=k - 1) (m2:=i+k - 1) Z bD Z Z Z Z Z X (show ((k:Int) - 1).toNat=k - 1 by omega) X X)<|Cq (by exact aX Z N_ Z Z Z u_ Z)<|Cq DZ<|bG<|Kr<|Cn ?_ ?_<;>intro B
    ·have T:¬ u=v:=λe=>by
      have h:=B;rw[e]at h;simp at h
     rw[a8 T,<-d]at l;have y_:∃z,L[R.length]?=some z:=aS X;have ⟨z,hz⟩:=y_;have A_:(tN (R++L.drop R.length))[R.length]?=some ((S_ z).map .pv):=JC (oc (P:=R) (g_ _) hz);have A:(tN (R++L.drop R.length)).set R.length [sv v]=tN ((R++[v])++L.drop (R++[v]).length):=by
      have hd:L.drop R.length=z::L.drop (R.length+1):=by
       have ⟨p,q⟩:=m9.1 hz;rw[drop_eq_getElem_cons p,q]
      rw[hd,j_,length_singleton,tN,map_append,map_cons,set_append_right _ _ (by rw[j6];exact g_ _),j6,Nat.sub_self,set_cons_zero,append_assoc,tN,map_append,map_append];rfl
     refine O aA<|Y aA<|Y aA<|Y aA<|Y (by exact dL (m:=k) Z bD Z Z Z Z Z X (l_ _) X Z)<|Y (by exact aX Z N_ Z Z Z t Z)<|Y (by exact dL Z bD Z Z Z Z Z X (by exact l_ _) (by omega:R.length<L.length) (r9 _))<|Uu (by exact cQ Z V_ Z Z Z Z Z A_ (by simp[S_]) Z A)<|Zz<|Rd aA<|Y gX<|V aI<|Rd aA<|Y gX<|Da ?_;refine⟨k+1,R++[v],⟨X,X,l.symm,by rw[j_,length_singleton];omega⟩,X,?_⟩;rw[show (((R++[v]).length:Nat):Int)=(R.length:Int)+1 by rw[j_,length_singleton];rfl];exact cL.dup ⟨⟨_,Z,Z⟩,⟨_,Z,Z⟩,⟨_,Z,Z⟩,⟨_,Z,Z⟩,T_⟩
    have he:u=v:=by
     have h:=B;have h2:v=u:=by simpa using h
     exact h2.symm
    rw[b7 he,append_nil,<-d]at l;refine aB<|Rd aA<|Y gX<|Da ?_;refine⟨k+1,R,⟨X,X,l.symm,X⟩,X,?_⟩;exact cL.get' ⟨⟨_,Z,Z⟩,⟨_,Z,Z⟩,⟨_,Z,Z⟩,⟨_,Z,Z⟩,T_⟩ (λj=>rfl)
   have D:i+k=L.length:=J_ c_
   rw[D,take_length]at d;have s:R.length<=L.length:=X
   have m:(tN (R++L.drop R.length)).length=L.length:=by
    rw[j6,j_,q6];omega
   have W:(tN (R++L.drop R.length)).take R.length++(List.replicate (L.length - R.length) [sv a6]++(tN (R++L.drop R.length)).drop (R.length+(L.length - R.length)))=tN (R++List.replicate (L.length - R.length) a6):=by
    have v_:(tN (R++L.drop R.length)).drop (R.length+(L.length - R.length))=[]:=drop_eq_nil_of_le (by rw[m];omega);rw[v_,append_nil,tN,map_append,take_left' (j6 _),tN,map_append,map_replicate];rfl
   refine aP<|O aA<|Y aA<|Y (by exact kP (l:=R.length) (h:=L.length) Z bD Z Z Z Z Z Z s (g_ _) (r9 _) Z)<|Uu (by exact UO Z bD Pf Z Z Z Z Z (by rw[m];exact s) W)<|Zz<|O aA<|Y aA<|Y (by exact kP (l:=0) (h:=R.length) Z bD Z Z Z Z Z Z (l7 _) s (r9 _) Z)<|V aI<|aC ?_;refine cR (H':=(901,⟨g,1,9,tN (R++List.replicate (L.length - R.length) a6)⟩)::H) (.inr Z) Z (aH Z) (Fin.get' (λj=>wV _ _ _ _ j)) ⟨by rw[d];rfl,by rw[d]⟩
  have n:=b_ F;rw[a8 (λe=>n e.symm),f]at e_;refine aB<|Rd aA<|Y gX<|Da ?_;refine⟨i+1,⟨X,X,?_⟩,X,cL.get' ⟨⟨_,Z,Z⟩,⟨_,Z,Z⟩,T_⟩ (λj=>rfl)⟩;rw[e_,take_add_one,z_];rfl
 have G:i=L.length:=J_ I
 subst G;rw[take_length]at f;refine aP<|O aA<|V aI<|aC<|cR (H':=(901,⟨g,1,9,tN L⟩)::H) (.inr Z) Z (aH Z) Fin.refl ⟨by rw[f],by rw[f,Nat.sub_self,replicate_zero,append_nil]⟩
end Go.Proofs.YtopnleflllkbmaaGreatDoor
end
namespace Go.Proofs.YtopnleflllkbmaaGreatDoor
open Go.Proofs.Tryz
open Go.Abs
def mH(n a b:Int):Bool:=decide (a<=n)&&decide (n<=b)
def rq(r:j8):Bool:=(((((r.priv.trace.any ZB||!(!([r.priv.name,r.priv.reason].any KK)))||!(!r.priv.sources.any KK))||decide (16<((r.priv.sources.map S_).length:Int)))||decide (200<((r.priv.trace.map kA).length:Int)))||!kY r.priv.sl)||!kY r.sl
def Ks(l:List B_):Bool:=nH l&&decide (((fN l).length:Int)=((l.map S_).length:Int))
theorem aAx(l)(a:l.length<2^40){H}(hno:H.get 901=none):aU Tryz.prog 153 [.pv (aL l)] H (λr H'=>r=.osl 901 1 0 l.length/\H'=(901,⟨1,1,9,tN l⟩)::H) :=aU.frame (Mc l [] (λ_ _ h=>by cases h) Z a) (λ_ _ h=>by cases h) (λ_ _ h=>by cases h) H_ (λid h=>.inr (by
  by_cases e:901=id
  ·simp_all
  simp[aF.get,jR e]at h))
def jd(r:j8):Bool:=(((((!mH r.author 0 59||!mH r.number 1 128)||!mH r.clock 1 1000000)||!cH r.branch)||decide (16<((r.parents.map S_).length:Int)))||!r.parents.all m6)||!Ks r.parents
def Wx(r:j8):Bool:=decide (r.kind=2)||decide (r.kind=3)
def MQ(r:j8):Bool:=if r.kind=3 then mH r.order 1 4 else if r.kind=4 then(cH r.from'&&!decide (r.from'=r.branch))else decide (1<=r.kind/\r.kind<=5)
def ai(r:j8):B_:=if r.kind=2\/r.kind=3 then r.target else a6
def Oq(r:j8):Bool:=if r.kind=2 then r.yes else false
def Cy(r:j8):Int:=if r.kind=3 then r.order else 0
def En(r:j8):B_:=if r.kind=4 then r.from' else a6
def Ov(r:j8):Bool:=if r.kind=1 then true else if r.kind=3 then decide (r.order=3)else false
def Yc(r:j8):Bool:=((((decide (r.target=ai r)&&(r.yes == Oq r))&&decide (r.order=Cy r))&&decide (r.from'=En r))&&(decide (0<((r.edits.map bJ).length:Int)) == Ov r))&&(!Wx r||m6 (ai r))
def gY(r:j8):Bool:=(((!rq r&&!jd r)&&(jW r.edits).2)&&MQ r)&&Yc r
abbrev W5:=B_×Bool×Int×B_×Bool
def DR(r:j8):W5:=(ai r,Oq r,Cy r,En r,Ov r)
theorem aBg{r}(h:r.kind=1):MQ r=true/\(a6,false,0,a6,true)=DR r:=by simp[MQ,DR,ai,Oq,Cy,En,Ov,h]
theorem aBf{r}(h:r.kind=2):MQ r=true/\(r.target,r.yes,0,a6,false)=DR r:=by simp[MQ,DR,ai,Oq,Cy,En,Ov,h]
theorem aBe{r}(h:r.kind=3)(a:mH r.order 1 4=true):MQ r=true/\(r.target,false,r.order,a6,decide (r.order=3))=DR r:=by simp[MQ,DR,ai,Oq,Cy,En,Ov,h,a]
theorem aBd{r}(h:r.kind=4)(b:cH r.from'=true)(a:r.from'≠r.branch):MQ r=true/\(a6,false,0,r.from',false)=DR r:=by simp[MQ,DR,ai,Oq,Cy,En,Ov,h,b,a]
theorem aBc{r}(h:r.kind=5):MQ r=true/\(a6,false,0,a6,false)=DR r:=by simp[MQ,DR,ai,Oq,Cy,En,Ov,h]
theorem Pp{r}(h:rq r=true):gY r=false:=by simp[gY,h]
theorem rp{r}(h:jd r=true):gY r=false:=by simp[gY,h]
theorem Po{r}(h:(jW r.edits).2=false):gY r=false:=by simp[gY,h]
theorem X1{r}(h:MQ r=false):gY r=false:=by simp[gY,h]
theorem Pn{r}(a:rq r=false)(d:jd r=false)(b:(jW r.edits).2=true)(c:MQ r=true):gY r=Yc r:=by simp[gY,a,d,b,c]
theorem Em{r}(h:r.target.size<2^40):(ai r).size<2^40:=by
 rw[ai]
 split
 ·exact h
 exact E_
theorem X0(r:j8)(hr:nF r)(hp:r.parents.length<549755813888)(H:aF):RC 105 [av (dX r)] (bv (gY r)) H:=by
 refine Pu ?_;have ⟨_,⟨b1,b2,b3⟩,hpa,hed,hs,hpv⟩:=hr;have htx:=λH=>sc r.edits H hed.1 hed.2;have ⟨p1,p2,p3,p4,p5⟩:=hpv;have Q:=aAJ r.priv.trace p4;have hsh1:=λH=>sw [r.priv.name,r.priv.reason] (show 2<2^40 by decide) H;have T:=λH=>sw r.priv.sources p3.1 H;have hf1:=λH=>fy r.priv.sl p5 H;have hf2:=λH=>fy r.sl hs H;have hso:=λH=>fg r.parents H X;have A_:=λH=>M4 r.parents hpa H;have u_:=λH=>CY r.branch H X;have hnf:=λH=>CY r.from' H X
 have hwt:=Em b2;have P:∀(n a b:Int) (H:aF),RC 146 [iv n,iv a,iv b] (bv (mH n a b)) H:=λn a b H=>PY n a b H;refine Bd func105 Z ntmps105<|O (kb 1)<|V aI<|O (kl 3 aB7)<|Uu (jA sizeOf174)<|Zz<|Sz aI<|O (bA iE)<|Y (wQ isAgg51 sizeOf51)<|Y (kl 5 aDm)<|Uu (jA sizeOf51)<|Zz<|O (bA sZ)<|Y (bQ jV)<|Y (gW Z Z)<|Y (kc call149 (aU.frameS Q (HN.sub ⟨Z,T_⟩) (dG.ofL ⟨zF _,T_⟩) m3))<|V aI<|S<|S ?_;refine aQ (t:=63) (n:=48) (A_:=rq r) ?_ ?_
 ·all_goals refine Y aA<|Dm ?_<;>(refine Sp 23 (λh23=>?_) λh23=>?_)<;>(first|exact s_|refine M<|M<|M<|M<|M<|M<|M<|M ?_|refine U aA<|U (bA IJ)<|U (bQ N_)<|U (bA II)<|U (bQ N_)<|U (aK [[.str r.priv.name],[.str r.priv.reason]] Z bD Z Z Z Z Z F_)<|U (dA Z Z Z (dH.fn call147 (hsh1 _)))<|U iI ?_)<;>refine Y cC<|Dm ?_<;>(refine Sp 33 (λh33=>?_) λh33=>?_)<;>(first|exact s_|refine M<|M<|M<|M<|M ?_|refine U aA<|U (bA yI)<|U (bQ aG)<|U (dA Z Z Z (dH.fn call147 (T _)))<|U iI ?_)<;>refine Y cC<|Dm ?_<;>(refine Sp 40 (λh40=>?_) λh40=>?_)<;>(first|exact s_|refine M<|M<|M<|M ?_|refine U (bA yI)<|U (bQ aG)<|U (fW aE)<|U iP ?_)<;>refine Y cC<|Dm ?_<;>(refine Sp 46 (λh46=>?_) λh46=>?_)<;>(first|exact s_|refine M<|M<|M<|M ?_|refine U (bA sZ)<|U (bQ jV)<|U (fW gC)<|U iP ?_)<;>refine Y cC<|Dm ?_<;>(refine Sp 52 (λR=>?_) λR=>?_)<;>(first|exact s_|refine M<|M<|M<|M ?_|refine U (bA FA)<|U (wQ gT sizeOf48)<|U (kc call151 (hf1 _))<|U iI ?_)<;>refine Y cC<|Dm ?_<;>(refine Sp 58 (λy_=>?_) λy_=>?_)<;>(first|exact s_|refine M<|M<|M<|M ?_|refine U (bA zV)<|U (wQ gT sizeOf48)<|U (kc call151 (hf2 _))<|U iI ?_)<;>refine V cC ?_<;>exact Gj (h:=by first|(rw[rq,h23];rfl)|(rw[rq,h23,h33];rfl)|(rw[rq,h23,h33,h40];rfl)|(rw[rq,h23,h33,h40,h46];rfl)|(rw[rq,h23,h33,h40,h46,R];rfl)|(rw[rq,h23,h33,h40,h46,R,y_];rfl))
 refine Cn ?_ ?_<;>intro z_
 ·rw[Pp z_];exact Sz aI<|aC<|Rt<|Qq
 have h1:=z_;have hin:Ks r.parents=(nH r.parents&&decide (((fN r.parents).length:Int)=((r.parents.map S_).length:Int))):=rfl;generalize nH r.parents=so at hso hin;refine aB<|S ?_;refine gG.ent (E':=[(1,.ref 1 0 0 0),(3,.ref 3 0 0 0),(5,.ref 5 0 0 0),(4,.pv (.fn 147))]) (H':=[(5,bx 7 51 ((wZ r.priv).map .pv)),(3,Pm),(1,bx 21 53 ((dX r).map .pv))]) L_ ?_;cases so with
 | false =>
  have h2:jd r=true:=by rw[jd,hin,Bool.false_and,Bool.not_false,Bool.or_true]
  rw[rp h2];refine aM a7<|Cr [1] (λ_ h=>fh oG h)<|Cr [1] (λ_ h=>lh aG h)<|x_ (by exact bH Z Z call152 Z (hso _))<|x_ aA<|Ot<|Ot<|Ot<|Ot<|Ot<|Ot<|Ot<|Ot<|Ot<|x_ cC<|x_ aI<|bG<|Kr<|S<|S ?_;refine aQ (t:=118) (n:=47) (A_:=jd r) ?_ ?_
  ·all_goals refine Y (bQ pK)<|Y (bA E9)<|Y (bQ M_)<|Y (dA Z Z Z (dH.fn rI (P r.author 0 59 _)))<|Y iI<|Dm ?_<;>(refine Sp 83 (λh83=>?_) λh83=>?_)<;>(first|exact s_|refine M<|M<|M<|M<|M ?_|refine U (bQ pK)<|U (bA AN)<|U (bQ M_)<|U (dA Z Z Z (dH.fn rI (P r.number 1 128 _)))<|U iI ?_)<;>refine Y cC<|Dm ?_<;>(refine Sp 90 (λh90=>?_) λh90=>?_)<;>(first|exact s_|refine M<|M<|M<|M<|M ?_|refine U (bQ pK)<|U (bA E8)<|U (bQ M_)<|U (dA Z Z Z (dH.fn rI (P r.clock 1 1000000 _)))<|U iI ?_)<;>refine Y cC<|Dm ?_<;>(refine Sp 97 (λh97=>?_) λh97=>?_)<;>(first|exact s_|refine M<|M<|M<|M ?_|refine U (bA C9)<|U (bQ N_)<|U (kc oW (u_ _))<|U iI ?_)<;>refine Y cC<|Dm ?_<;>(refine Sp 103 (λh103=>?_) λh103=>?_)<;>(first|exact s_|refine M<|M<|M<|M ?_|refine U (bA oG)<|U (bQ aG)<|U (fW aE)<|U iP ?_)<;>refine Y cC<|Dm ?_<;>(refine Sp 109 (λh109=>?_) λh109=>?_)<;>(first|exact s_|refine M<|M<|M<|M ?_|refine U (bA oG)<|U (bQ aG)<|U (kc call155 (A_ _))<|U iI ?_)<;>refine Y cC<|Dm ?_<;>(refine Sp 115 (λh115=>?_) λh115=>?_)<;>(first|exact s_|refine M<|M ?_|refine U aA<|U iI ?_)<;>refine V cC ?_<;>exact Gj (h:=by simp_all)
  refine Cn ?_ ?_<;>intro hc2
  ·exact Sz aI<|aC<|Rt<|Qq
  rw[h2]at hc2;cases hc2
 | true =>
  refine aM a7<|Cr [1] (λ_ h=>fh oG h)<|Cr [1] (λ_ h=>lh aG h)<|x_ (by exact bH Z Z call152 Z (hso _))<|x_ aA<|Lt [1] (λ_ h=>fh oG h)<|Lt [1] (λ_ h=>lh aG h)<|Lp [901] (λH1 hH=>by exact bH Z Z call153 Z (aAx r.parents X ((hH _ Z).trans Z)))<|Lp [901] (λH1 hH=>by exact bH Z Z call31 Z (XJ r.parents 1 _ ((hH _ Z).trans Z) X))<|Lt [901] (λH1 hH=>by exact dS Z aE Z ((hH _ Z).trans Z) Z)<|Lt [1] (λ_ h=>fh oG h)<|Lt [1] (λ_ h=>lh aG h)<|Lt [] (λH1 hH=>by exact kW Z aE Z)<|Lt [] (λH1 hH=>by exact nK Z Z Z) ?_;refine x_ cC<|x_ aI<|bG<|Kr<|S<|S<|aQ (t:=118) (n:=47) (A_:=jd r) ?_ ?_
  ·all_goals refine Y (bQ pK)<|Y (bA E9)<|Y (bQ M_)<|Y (dA Z Z Z (dH.fn rI (P r.author 0 59 _)))<|Y iI<|Dm ?_<;>(refine Sp 83 (λh83=>?_) λh83=>?_)<;>(first|exact s_|refine M<|M<|M<|M<|M ?_|refine U (bQ pK)<|U (bA AN)<|U (bQ M_)<|U (dA Z Z Z (dH.fn rI (P r.number 1 128 _)))<|U iI ?_)<;>refine Y cC<|Dm ?_<;>(refine Sp 90 (λh90=>?_) λh90=>?_)<;>(first|exact s_|refine M<|M<|M<|M<|M ?_|refine U (bQ pK)<|U (bA E8)<|U (bQ M_)<|U (dA Z Z Z (dH.fn rI (P r.clock 1 1000000 _)))<|U iI ?_)<;>refine Y cC<|Dm ?_<;>(refine Sp 97 (λh97=>?_) λh97=>?_)<;>(first|exact s_|refine M<|M<|M<|M ?_|refine U (bA C9)<|U (bQ N_)<|U (kc oW (u_ _))<|U iI ?_)<;>refine Y cC<|Dm ?_<;>(refine Sp 103 (λh103=>?_) λh103=>?_)<;>(first|exact s_|refine M<|M<|M<|M ?_|refine U (bA oG)<|U (bQ aG)<|U (fW aE)<|U iP ?_)<;>refine Y cC<|Dm ?_<;>(refine Sp 109 (λh109=>?_) λh109=>?_)<;>(first|exact s_|refine M<|M<|M<|M ?_|refine U (bA oG)<|U (bQ aG)<|U (kc call155 (A_ _))<|U iI ?_)<;>refine Y cC<|Dm ?_<;>(refine Sp 115 (λh115=>?_) λh115=>?_)<;>(first|exact s_|refine M<|M ?_|refine U aA<|U iI ?_)<;>refine V cC ?_<;>exact Gj (h:=by first|(rw[jd,hin,h83];rfl)|(rw[jd,hin,h83,h90];rfl)|(rw[jd,hin,h83,h90,h97];rfl)|(rw[jd,hin,h83,h90,h97,h103];rfl)|(rw[jd,hin,h83,h90,h97,h103,h109];rfl)|(rw[jd,hin,h83,h90,h97,h103,h109,h115];rfl))
  refine Cn ?_ ?_<;>intro hc3
  ·rw[rp hc3];exact Sz aI<|aC<|Rt<|Qq
  have h2:=hc3;have ⟨tx,htxe⟩:∃tx,tx=(jW r.edits).1:=X_;have ⟨f_,htbe⟩:∃f_,f_=(jW r.edits).2:=X_;rw[<-htxe,<-htbe]at htx;refine aB<|S<|O (bA C8)<|Y (bQ oV)<|Y (kc call156 (htx _))<|Y aA<|Y dK<|Y dK<|Y aI<|V aI<|O aA<|V iI<|Cn ?_ ?_<;>intro hc4
  ·have hb:f_=false:=by have:=hc4;cases f_;rfl;cases this
   rw[Po (htbe.symm.trans hb)];exact Sz aI<|aC<|Rt<|Qq
  have hb:f_=true:=by have:=hc4;cases f_;cases this;rfl
  have h3:(jW r.edits).2=true:=htbe.symm.trans hb;have hyes:=λh4=>Pn h1 h2 h3 h4;clear htxe htbe;refine aB<|O aI<|Y aI<|Y aI<|Y aI<|Da<|eK (λ(p:W5)=>([(1,.ref 1 0 0 0),(3,.ref 3 0 0 0),(10,sv p.1),(11,bv p.2.1),(12,iv p.2.2.1),(13,sv p.2.2.2.1),(14,bv p.2.2.2.2)],[(5,bx 7 51 ((wZ r.priv).map .pv)),(3,Pm),(1,bx 21 53 ((dX r).map .pv))])) (λp=>MQ r=true/\p=DR r) ?_ ?_
  ·refine O (bA oH)<|V (bQ M_)<|aD<|O cD<|Da<|Cn ?_ ?_<;>intro W
   ·have hk:=aBg (b9 W);refine Rg<|Da ?_;exact⟨_,hk,L_⟩
   have hk1:=b_ W;refine O cD<|Da<|Cn ?_ ?_<;>intro hc6
   ·have hk:=aBf (b9 hc6);refine aM a7<|Cq (bA C7)<|Cq (bQ N_)<|Cq (bA IH)<|Cq (bQ nA)<|Cq aI<|Cq aI<|bG<|Kr ?_;exact⟨_,hk,L_⟩
   have hk2:=b_ hc6;refine O cD<|Da<|Cn ?_ ?_<;>intro hc7
   ·have hk3:=b9 hc7;refine S<|aM a7<|Cq (bA C7)<|Cq (bQ N_)<|Cq (bA yH)<|Cq (bQ M_)<|Cq (bA yH)<|Cq (bQ M_)<|Cq cD<|Cq aI<|Cq aI<|Cq aI<|bG<|Kr<|O (bQ pK)<|Y aA<|Y (dA Z Z Z (dH.fn rI (P r.order 1 4 _)))<|V iI<|Cn ?_ ?_<;>intro hc8
    ·have hk:mH r.order 1 4=false:=by have:=hc8;revert this;cases mH r.order 1 4<;>simp
     rw[X1 (by rw[MQ,b7 hk3];exact hk)];exact Sz aI<|aC<|Rt<|Qq
    have hk:=aBe hk3 (by have:=hc8;revert this;cases mH r.order 1 4<;>simp);refine aB ?_;exact⟨_,hk,L_⟩
   have hk3:=b_ hc7;refine O cD<|Da<|Cn ?_ ?_<;>intro hc9
   ·have hk4:=b9 hc9;refine O (bA wX)<|Y (bQ N_)<|V aI<|S<|aQ (t:=162) (n:=10) (A_:=!cH r.from'||decide (r.from'=r.branch)) ?_ ?_
    ·all_goals refine Y aA<|Y (kc oW (hnf _))<|Y iI<|Dm ?_<;>(refine Sp 157 (λh157=>?_) λh157=>?_)<;>(first|exact s_|refine M<|M<|M<|M ?_|refine U aA<|U (bA C9)<|U (bQ N_)<|U wH ?_)<;>refine V cC ?_<;>exact Gj (h:=by(rw[h157];rfl))
    refine Cn ?_ ?_<;>intro hc10
    ·have hk:(cH r.from'&&!decide (r.from'=r.branch))=false:=by have:=hc10;revert this;cases cH r.from'<;>cases decide (r.from'=r.branch)<;>simp
     rw[X1 (by rw[MQ,a8 hk3,b7 hk4];exact hk)];exact Sz aI<|aC<|Rt<|Qq
    have hk:cH r.from'=true/\¬ r.from'=r.branch:=by have:=hc10;rw[q8,Bool.not_eq_false',p_]at this;exact this
    have hk:=aBd hk4 hk.1 hk.2;refine aB ?_;exact⟨_,hk,L_⟩
   have hk4:=b_ hc9;refine O cD<|Da<|Cn ?_ ?_<;>intro hc11
   ·have hk:=aBc (b9 hc11);refine aB ?_;exact⟨_,hk,L_⟩
   have hk5:=b_ hc11;rw[X1 (by rw[MQ,a8 hk3,a8 hk4,decide_eq_false X])];exact Sz aI<|aC<|Rt<|Qq
  rintro _ ⟨h4,rfl⟩;rw[hyes h4];have hdT:=λH=>WY (ai r) hwt H;have hv5:Yc r=(((((decide (r.target=ai r)&&(r.yes == Oq r))&&decide (r.order=Cy r))&&decide (r.from'=En r))&&(decide (0<((r.edits.map bJ).length:Int)) == Ov r))&&(!Wx r||m6 (ai r))):=rfl;rw[DR];refine S<|aQ (t:=15) (n:=10) (A_:=Wx r) ?_ ?_
  ·all_goals refine Y (bA oH)<|Y (bQ M_)<|Y cD<|Dm ?_<;>(refine Sp 168 (λh168=>?_) λh168=>?_)<;>(first|exact s_|refine M<|M<|M ?_|refine U (bA oH)<|U (bQ M_)<|U cD ?_)<;>refine Y cC<|Da ?_<;>exact Gj (h:=by(rw[Wx,h168];rfl))
  refine S<|aQ (t:=2) (n:=45) (A_:=Yc r) ?_ ?_
  ·all_goals refine Y (bA C7)<|Y (bQ N_)<|Y aA<|Y wH<|Dm ?_<;>(refine Sp 177 (λh177=>?_) λh177=>?_)<;>(first|exact s_|refine M<|M<|M<|M ?_|refine U (bA IH)<|U (bQ nA)<|U aA<|U (RY Z eH Z Z) ?_)<;>refine Y cC<|Dm ?_<;>(refine Sp 183 (λh183=>?_) λh183=>?_)<;>(first|exact s_|refine M<|M<|M<|M ?_|refine U (bA yH)<|U (bQ M_)<|U aA<|U cD ?_)<;>refine Y cC<|Dm ?_<;>(refine Sp 189 (λh189=>?_) λh189=>?_)<;>(first|exact s_|refine M<|M<|M<|M ?_|refine U (bA wX)<|U (bQ N_)<|U aA<|U wH ?_)<;>refine Y cC<|Dm ?_<;>(refine Sp 195 (λh195=>?_) λh195=>?_)<;>(first|exact s_|refine M<|M<|M<|M<|M<|M ?_|refine U (bA C8)<|U (bQ oV)<|U (fW eW)<|U iP<|U aA<|U (RY Z eH Z Z) ?_)<;>refine Y cC<|Dm ?_<;>(refine Sp 203 (λh203=>?_) λh203=>?_)<;>(first|exact s_|refine M<|M<|M ?_|refine U aA<|U iI<|U aA ?_)<;>(first|refine Sp 206 (λh206=>?_) λh206=>?_|refine jS (t:=206) Z ?_)<;>(first|exact s_|refine M ?_|refine Fu ?_|refine U aA ?_)<;>(first|refine M ?_|refine Fu ?_|refine U (kc call30 (hdT _)) ?_)<;>(first|refine M ?_|refine U cC ?_)<;>refine Y cC<|Da ?_<;>exact Gj (h:=by first|(rw[hv5,h177];rfl)|(rw[hv5,h177,h183];rfl)|(rw[hv5,h177,h183,h189];rfl)|(rw[hv5,h177,h183,h189,h195];rfl)|(rw[hv5,h177,h183,h189,h195,h203];rfl)|(rw[hv5,h177,h183,h189,h195,h203,h206];rfl))
  exact aC<|Rt<|Qq
open Go.Lib
structure FSeal(s:n_):Prop where
 i0:0<=s.idx
 i1:s.idx<256
 sl:s.sig.length<=18
 pl:s.path.length<=8
 sa:∀t∈s.sig,m6 t=true
 pa:∀t∈s.path,m6 t=true
theorem jy{s}(h:A2 s=true):s=⟨0,[],[]⟩:=by rw[A2,k_,j6]at h;have ⟨i,a,b⟩:=s;have ⟨c,e⟩:=h;simp at c e;have f:a=[]:=eq_nil_of_length_eq_zero X;have d:b=[]:=eq_nil_of_length_eq_zero X;subst c f d;rfl
theorem kX{s}(h:kY s=true):FSeal s:=by
 rw[kY,Bool.or_eq_true]at h;rcases h with h|h
 ·have:=jy h;subst this;exact⟨H_,H_,H_,H_,H_,H_⟩
 simp[k_,j0,j6,all_eq_true]at h;have ⟨⟨⟨⟨⟨d,c⟩,h3⟩,h4⟩,a⟩,b⟩:=h;exact⟨d,c,X,X,a,b⟩
structure VF(r:j8):Prop where
 tr:∀q∈r.priv.trace,(0<=q.1/\q.1<=1048575)/\(0<=q.2/\q.2<=1048575)
 nm:r.priv.name.size<=200
 rs:r.priv.reason.size<=200
 so:∀s∈r.priv.sources,s.size<=200
 sol:r.priv.sources.length<=16
 trl:r.priv.trace.length<=200
 psl:kY r.priv.sl=true
 sl:kY r.sl=true
 au:0<=r.author/\r.author<=59
 nu:1<=r.number/\r.number<=128
 cl:1<=r.clock/\r.clock<=1000000
 br:cH r.branch=true
 pal:r.parents.length<=16
 pa:∀p∈r.parents,m6 p=true
 inc:Ks r.parents=true
 tx:(jW r.edits).2=true
 k:MQ r=true
 ta:r.target=ai r
 ye:r.yes=Oq r
 od:r.order=Cy r
 fr:r.from'=En r
 ed:decide (0<r.edits.length)=Ov r
 nd:Wx r=true->m6 (ai r)=true
theorem ZH{s}:KK s=false↔s.size<=200:=by rw[KK,p_];omega
theorem xJ{r}(h:gY r=true):VF r:=by
 simp[gY,k_,r8]at h;have ⟨⟨⟨⟨b,a⟩,m⟩,g⟩,d⟩:=h;simp only[rq,q8,Bool.not_eq_false',r8,p_,j6,any_eq_false,Bool.not_eq_true]at b;have ⟨⟨⟨⟨⟨⟨v,c⟩,w⟩,a4⟩,a5⟩,l⟩,t⟩:=b;simp[jd,q8,Bool.not_eq_false',p_,j6,all_eq_true,mH,k_,j0]at a;have ⟨⟨⟨⟨⟨⟨z,i⟩,n⟩,u⟩,b5⟩,x⟩,f⟩:=a;simp[Yc,k_,j0,beq_iff_eq,j6,Bool.or_eq_true,r8]at d;have ⟨⟨⟨⟨⟨k,y⟩,j⟩,e⟩,c5⟩,c6⟩:=d;refine⟨λq o=>?_,ZH.1 (c _ H_),ZH.1 (c _ H_),λs p=>ZH.1 (w s p),X,X,l,t,z,i,n,u,X,x,f,m,g,k,y,j,e,?_,λhn=>?_⟩
 ·have:=v q o;simp[ZB,q8,Bool.not_eq_false',k_,j0]at this;exact this
 all_goals simp_all
theorem BO{r}(h:MQ r=true):1<=r.kind/\r.kind<=5:=by
 rw[MQ]at h
 grind
theorem MK{s}(h:cH s=true):s.size<=24:=by simp[cH,k_,j0]at h;omega
theorem ko{l}(h:(dW l).2=0):(dW l).1.size<=20000:=by
 have a:=EK h;rw[iD]at a
 split at a
 ·have:=congrArg Prod.snd a;cases this
 omega
theorem P2{l}(h:(jW l).2=true):(jW l).1.size<=20000:=by
 rw[jW]at h |-
 split at h
 ·next a =>
  rw[b7 a];exact E_
 next a =>
 rw[a8 a];exact ko (b9 h)
theorem C4{s}(h:m6 s=true):s.size<=16:=Nat.le_of_eq (jY h)
theorem VF.target{r}(h:VF r):r.target.size<=16:=by
 rw[h.ta];by_cases a:Wx r=true
 ·exact C4 (h.nd a)
 have:ai r=a6:=by
  rw[ai,a8];rintro(e|e)<;>simp[Wx,e]at a
 rw[this];decide
theorem VF.from{r}(h:VF r):r.from'.size<=24:=by
 rw[h.fr,En]
 split
 ·next e =>
  have a:=h.k;rw[MQ,a8 X,b7 e,k_]at a;exact MK a.1
 decide
theorem VF.order{r}(h:VF r):0<=r.order/\r.order<=4:=by
 rw[h.od,Cy]
 split
 ·next e =>
  have a:=h.k;rw[MQ,b7 e,mH,k_,j0,j0]at a;omega
 decide
def UF(p:GPriv):List IV:=[.t p.name,.t p.reason,.l p.sources,.p p.trace]
def LQ(r:j8):List IV:=[.z r.sl.idx r.sl.sig r.sl.path,.t r.priv.name,.t r.priv.reason,.l r.priv.sources,.p r.priv.trace,.z r.priv.sl.idx r.priv.sl.sig r.priv.sl.path]
def jJ(r:j8):List B_:=wJ r++yY (LQ r)
def MU(r:j8):B_:=if gY r=true then yM (wJ r)else a6
def mF(r:j8):B_×Int:=if gY r=true then(if 20000<(aN (jJ r)).length then(a6,2)else(a_ (aN (jJ r)),0))else(a6,1)
def prW:B_:=⟨#[112,114,105,118,97,116,101]⟩
def ZE(r:j8):B_:=yM ([prW,MU r]++yY (UF r.priv))
def Wz(x:B_):Prop:=x.size<=20000
theorem qJ{n}(a : -9223372036854775808<=n)(b:n<=9223372036854775807):Wz (aT n):=Nat.le_trans (nL a b) H_
theorem KF{n:Nat}(h:n<2^40):Wz (aT n):=qJ X X
theorem cd{s}(h:FSeal s):∀x∈fI (.z s.idx s.sig s.path),Wz x:=by
 intro x a;have i0:=h.i0;have i1:=h.i1;have l1:=h.sl;have l2:=h.pl;simp only[fI,l9,mem_append]at a;rcases a with rfl|(rfl|a)|(rfl|a)
 ·exact qJ X X
 ·exact KF X
 ·exact Nat.le_trans (C4 (h.sa x a)) H_
 ·exact KF X
 exact Nat.le_trans (C4 (h.pa x a)) H_
theorem cc{s}(h:FSeal s):(fI (.z s.idx s.sig s.path)).length<=29:=by have l1:=h.sl;have l2:=h.pl;simp[fI,j7,j_];omega
theorem O3{r:j8}(h:VF r):∀x∈wJ r,Wz x:=by
 intro x a;have ⟨v,b,a⟩:=mem_flatMap.1 a;have hk:=BO h.k;have h1:=h.au;have h2:=h.nu;have h3:=h.cl;have h4:=h.order;have e:=MK h.br;have d:=h.target;have c:=h.from
 have hl:=h.pal;simp only[MA,l9,q7,or_false]at b;rcases b with rfl|rfl|rfl|rfl|rfl|rfl|rfl|rfl|rfl|rfl|rfl|rfl<;>simp only[fI,l9,q7,or_false]at a
 ·subst a;exact(by decide:GN.size<=20000)
 ·subst a;exact qJ X X
 ·subst a;exact qJ X X
 ·subst a;exact qJ X X
 ·subst a;exact qJ X X
 ·subst a;exact Nat.le_trans e E_
 ·rcases a with rfl|a
  ·exact KF X
  exact Nat.le_trans (C4 (h.pa x a)) E_
 ·subst a;exact P2 h.tx
 ·subst a;exact Nat.le_trans d E_
 ·subst a;split<;>exact qJ E_ E_
 ·subst a;exact qJ X X
 subst a;exact Nat.le_trans c E_
theorem O2{r}(h:VF r):(wJ r).length<=28:=by have:=h.pal;rw[wJ,df];omega
theorem Ic{r}(h:VF r):∀x∈yY (UF r.priv),Wz x:=by
 intro x a;have ⟨v,b,a⟩:=mem_flatMap.1 a;have d:=h.nm;have c:=h.rs;have h3:=h.sol;have h4:=h.trl;simp[UF,l9,q7,or_false]at b;rcases b with rfl|rfl|rfl|rfl<;>simp only[fI,l9,q7,or_false,mem_flatMap]at a
 ·subst a;exact Nat.le_trans d H_
 ·subst a;exact Nat.le_trans c H_
 ·rcases a with rfl|a
  ·exact KF X
  exact Nat.le_trans (h.so x a) H_
 rcases a with rfl|⟨q,e,a⟩
 ·exact KF X
 have ⟨q1,q2⟩:=h.tr q e;rcases a with rfl|rfl
 ·exact qJ X X
 exact qJ X X
theorem Ij(ps):(fI (.p ps)).length=1+2*ps.length:=by rw[show fI _=aT _::O7 _ from Z,j7,O6];omega
theorem Ib{r}(h:VF r):(yY (UF r.priv)).length<=420:=by have h3:=h.sol;have h4:=h.trl;have:=Ij r.priv.trace;simp[yY,UF,flatMap_cons,flatMap_nil,j_,this];simp[fI,j7,length_nil];omega
theorem lq(r):yY (LQ r)=fI (.z r.sl.idx r.sl.sig r.sl.path)++(yY (UF r.priv)++fI (.z r.priv.sl.idx r.priv.sl.sig r.priv.sl.path)):=by simp[yY,LQ,UF,flatMap_cons]
theorem YF{r}(h:VF r):∀x∈yY (LQ r),Wz x:=by
 intro x a;rw[lq]at a;rcases mem_append.1 a with a|a
 ·exact cd (kX h.sl) x a
 rcases mem_append.1 a with a|a
 ·exact Ic h x a
 exact cd (kX h.psl) x a
theorem YE{r}(h:VF r):(yY (LQ r)).length<=478:=by have h1:=cc (kX h.sl);have h2:=cc (kX h.psl);have h3:=Ib h;rw[lq,j_,j_];omega
theorem KM{e_}(a:e_<1000000000000000000):∀(L),(∀s∈L,s.size<=e_)->(aN L).length<=L.length*(e_+22)
 | [],_=>l7 _
 |s::L,h=>by
  have ih:=KM a L λx b=>h x (mem_cons_of_mem _ b);have hs:=h s mem_cons_self;have hi:=nL (n:=(s.size)) X X;rw[show aN _=(pZ s).data.toList++aN L by rfl,j_,pB,nE,j7,succ_mul];omega
theorem xY{L}(h:∀x∈L,Wz x){n}(a:L.length<=n):(aN L).length<=n*20022:=Nat.le_trans (KM H_ L h) (mul_le_mul_right _ a)
end Go.Proofs.YtopnleflllkbmaaGreatDoor
namespace Go.Abs
theorem aU.fin{P}{f}{args}{H}{Q a}(h:aU P f args H Q)(c:∀r H1,Q r H1->∃r' H2,Fin H H1 r H2 r'/\a r' H2):aU P f args H a :=λI l w vs j i d=>(h I _ w _ j i d).mono λ_ w' ⟨r,H',I',ι',v,e,q,m,b,g⟩=>by
  have ⟨r',H2,k,hq'⟩:=c r _ q;have ⟨I2,ι2,a1,a2,a3⟩:=k ⟨I,l,H,w,[]⟩ Z _ _ _ v b g m
  grind
end Go.Abs
namespace Go.Proofs.YtopnleflllkbmaaGreatDoor
open Go.Proofs.Tryz
open Go.Abs
theorem not_not{b}(h:(!b)=true):b=false:=F_
theorem pO{b}(h:(!b)=false):b=true:=F_
theorem iW{α:Type}(f:α->List PV)(l:List _):((l.map f).take (0+l.length)).drop 0=l.map f:=take_of_length_le H_
theorem Xe(l):FD ⟨(aN l).toArray⟩=yM l:=rfl
theorem zd(r)(b:nF r)(a:r.parents.length<549755813888)(H):RC 107 [av (dX r)] (.pv (aL (wJ r))) H:=by refine aU.pure ((V1 r b a).fin ?_) H_ H;rintro _ _ ⟨rfl,rfl⟩;exact⟨_,[],Fin.fz (id:=971) _ Z (eT _) (.osl (iW _ _)) Z T_ T_,Z,Z⟩
theorem ze(r)(b:nF r)(a:r.parents.length<549755813888){H}(hno:H.get 971=none):aU Tryz.prog 107 [av (dX r)] H (λx H'=>x=.osl 971 (mh r) 0 (wJ r).length/\H'=(971,⟨mh r,1,9,cB (wJ r)⟩)::H) :=aU.frame (V1 r b a) (λ_ _ h=>by cases h) (λ_ _ h=>by cases h) H_ (λid h=>.inr (by
  by_cases e:971=id
  ·simp_all
  simp[aF.get,jR e]at h))
theorem vl(r:j8)(g:nF r)(f:r.parents.length<549755813888)(H:aF):RC 55 [av (dX r)] (sv (MU r)) H:=by
 refine aU.pure ?_ F_ H;have j:=λH=>X0 r g f H;have e:=λH=>zd r g f H;rw[MU];refine Bd func55 Z ntmps55<|O (kb 1)<|V aI<|S<|O (wQ cT bL)<|Y (kc call105 (j _))<|V iI<|Cn ?_ ?_<;>intro c
 ·rw[a8 F_];exact Sz aI<|aC<|Rt<|Qq
 have h:=pO c;have i:=xJ h;have hsz:=xY (O3 i) (O2 i);rw[b7 h];have b:=λH=>WW (wJ r) H X;have d:=λH=>sg _ H (by rw[show (⟨(aN (wJ r)).toArray⟩:B_).size=(aN (wJ r)).length from by rfl];omega);exact aB<|O (wQ cT bL)<|Y (bH Z Z call107 Z (e _))<|Y (bH Z Z call108 Z (b _))<|Y (kc call106 (d _))<|V aI<|aC<|Rt<|Qq
theorem Qx{r}(h:nF r)(e:VF r):∀v∈LQ r,okI v:=by
 have ⟨_,_,_,_,⟨l,j,k⟩,b1,b2,i,c,g,b,f⟩:=h;intro v a;simp[LQ,l9,q7,or_false]at a;rcases a with rfl|rfl|rfl|rfl|rfl|rfl
 ·exact⟨l,j.1,k.1⟩
 ·exact T_
 ·exact T_
 ·exact i.1
 ·exact⟨c,λq d=>by
   have ⟨⟨q1,q2⟩,q3,q4⟩:=e.tr q d;exact⟨⟨X,X⟩,X,X⟩⟩
 exact⟨g,b.1,f.1⟩
theorem Zf{r}(h:nF r)(e:VF r):∀v∈UF r.priv,okI v:=by
 have ⟨_,_,_,_,_,b1,b2,b,c,c1,c2,c3⟩:=h;intro v a;simp[UF,l9,q7,or_false]at a;rcases a with rfl|rfl|rfl|rfl
 ·exact T_
 ·exact T_
 ·exact b.1
 exact⟨c,λq d=>by
  have ⟨⟨q1,q2⟩,q3,q4⟩:=e.tr q d;exact⟨⟨X,X⟩,X,X⟩⟩
theorem X4(r:j8)(n:nF r)(j:r.parents.length<549755813888)(H:aF):RC 72 [av (dX r)] (.tup [sv (mF r).1,iv (mF r).2]) H:=by
 refine aU.pure ?_ F_ H;have t:=λH=>X0 r n j H;have s:=λH k=>ze r n j (H:=H) k;rw[mF];refine Bd func72 Z ntmps72<|O (kb 1)<|Y aI<|V aI<|S<|O (wQ cT bL)<|Y (kc call105 (t _))<|V iI<|Cn ?_ ?_<;>intro i
 ·have m:=not_not i;rw[a8 F_];exact O aI<|V aI<|aC<|Ru<|Qq
 have m:=pO i;have e:=xJ m;have l:=xY (L:=jJ r) (n:=506) (λx v=>(mem_append.1 v).elim (O3 e x) (YF e x)) (by
  have:=O2 e;have:=YE e;rw[jJ,j_];omega)
 have hpl:=O2 e;have hsl:=YE e;rw[b7 m];have c:=qq (LQ r) (Qx n e) (mh r) (wJ r) (show 6<2^40 by decide) X;have f:=λH=>WW (jJ r) H X;have q:jJ r=wJ r++yY (LQ r):=rfl;rw[<-q]at c;generalize jJ r=f_ at c f l |-;generalize mh r+vq (LQ r)=g at c;have o:(⟨(aN f_).toArray⟩:B_)=a_ (aN f_):=rfl;rw[o]at f;have hos:(a_ (aN f_)).size=(aN f_).length:=bZ _;refine aB<|O (wQ cT bL)<|Y (kc call107 (s _ Z))<|Y (kl 970 Wg)<|Uu (jA sizeOf131)<|Zz<|O (bA zV)<|Y (wQ gT sizeOf48)<|Y (J3 (ps:=lH r.sl) Z (dR jT Z) Z)<|Y (bA iE)<|Y (bA IJ)<|Y (bQ N_)<|Y (gF (p:=.str r.priv.name) Z (dR U_ Z) Z)<|Y (bA iE)<|Y (bA II)<|Y (bQ N_)<|Y (gF (p:=.str r.priv.reason) Z (dR U_ Z) Z)<|Y (bA iE)<|Y (bA yI)<|Y (bQ aG)<|Y (gF (p:=aL r.priv.sources) Z (dR aE Z) Z)<|Y (bA iE)<|Y (bA sZ)<|Y (bQ jV)<|Y (gF (p:=xO r.priv.trace) Z (dR gC Z) Z)<|Y (bA iE)<|Y (bA FA)<|Y (wQ gT sizeOf48)<|Y (J3 (ps:=lH r.priv.sl) Z (dR jT Z) Z)<|Y (aK ((LQ r).map AO) Z zH Z Z Z Z Z (S7 (LQ r)))<|V (kc vO (iy c ⟨Z,Z,T_⟩ m3))<|S ?_;refine gG.ent (cL.fzG (id:=971) (E':=[(4,.ref 970 0 0 0)]) (H':=[(970,bx 1 131 [.pv (aL f_)])]) (f_.map S_) Z (eT _) ?_ Z ?_ ?_) ?_
 ·intro p j;simp only[l9,q7,or_false]at j;rcases j with rfl;exact⟨_,Z,.same m3⟩
 ·exact⟨⟨_,Z,Z,Z,Z,lW Z (bC (.osl (iW S_ _)) kK)⟩,T_⟩
 ·exact T_
 refine Rd (bQ isAgg131)<|Y (kc call108 (f _))<|V aI<|S<|O aA<|Y (gE U_)<|V iP<|Cn ?_ ?_<;>intro h
 ·have d:20000<(aN f_).length:=I_ h
  rw[b7 d];exact O aI<|V aI<|aC<|Ru<|Qq
 have d:¬ 20000<(aN f_).length:=J_ h
 rw[a8 d];exact aB<|O aA<|Y aI<|V aI<|aC<|Ru<|Qq
theorem vk(r):(MU r).size<=20000:=by
 by_cases h:gY r=true
 ·rw[MU,b7 h];exact Nat.le_trans (Nat.le_of_eq (rF _)) H_
 rw[MU,a8 h];decide
theorem Ae(r:j8)(j:nF r)(e:r.parents.length<549755813888)(l:gY r=true)(H:aF):RC 118 [av (dX r)] (sv (ZE r)) H:=by
 refine aU.pure ?_ F_ H;have hid:=λH=>vl r j e H;have h:=xJ l;have hpl:=Ib h;have b:=qq (UF r.priv) (Zf j h) 0 [prW,MU r] (show 4<2^40 by decide) G_;have f:=vk r;have hsz:=xY (L:=[prW,MU r]++yY (UF r.priv)) (n:=422) (λx d=>(mem_append.1 d).elim (λd=>by
   simp only[l9,q7,or_false]at d;rcases d with rfl|rfl
   ·exact(by decide:prW.size<=20000)
   exact f) (Ic h x)) G_
 rw[ZE];have c:=λH=>ZI ([prW,MU r]++yY (UF r.priv)) H X;generalize [prW,MU r]++yY (UF r.priv)=f_ at b c |-;generalize 0+vq (UF r.priv)=g at b;generalize MU r=i at hid b;refine Bd func118 Z ntmps118<|O (kb 1)<|V aI<|O (wQ cT bL)<|Y (kc call55 (hid _))<|Y (gN (id:=971) Z QL Z Z Z Z F_ Z)<|Y (kl 970 Wg)<|Uu (jA sizeOf131)<|Zz<|O (bA iE)<|Y (bA IJ)<|Y (bQ N_)<|Y (gF (p:=.str r.priv.name) Z (dR U_ Z) Z)<|Y (bA iE)<|Y (bA II)<|Y (bQ N_)<|Y (gF (p:=.str r.priv.reason) Z (dR U_ Z) Z)<|Y (bA iE)<|Y (bA yI)<|Y (bQ aG)<|Y (gF (p:=aL r.priv.sources) Z (dR aE Z) Z)<|Y (bA iE)<|Y (bA sZ)<|Y (bQ jV)<|Y (gF (p:=xO r.priv.trace) Z (dR gC Z) Z)<|Y (aK ((UF r.priv).map AO) Z zH Z Z Z Z Z (S7 (UF r.priv)))<|V (kc vO (iy b ⟨Z,Z,T_⟩ m3))<|S ?_;refine gG.ent (cL.fzG (id:=971) (E':=[(3,.ref 970 0 0 0)]) (H':=[(970,bx 1 131 [.pv (aL f_)])]) (f_.map S_) Z (eT _) ?_ Z ?_ ?_) ?_
 ·intro p e;simp only[l9,q7,or_false]at e;rcases e with rfl;exact⟨_,Z,.same m3⟩
 ·exact⟨⟨_,Z,Z,Z,Z,lW Z (bC (.osl (iW S_ _)) kK)⟩,T_⟩
 ·exact T_
 exact Rd (bQ isAgg131)<|Y (kc call81 (c _))<|V aI<|aC<|Rt<|Qq
end Go.Proofs.YtopnleflllkbmaaGreatDoor
namespace Go.Abs
variable{F f:FuncId}{args:List AV}{c:Code}{P:Program}{H H0:aF}
section
theorem D4.of{P}{N}{o}{E}{H}{R}{PP}(h:ju P N o E H R):D4 P N o E H R PP :=λa w I ι e c d K Q b _=>h a w I _ T_ e c d K Q b
theorem D4.opr{P}{N}{o}{E}{H}{R}(h:D4 P N o E H R (λ_ _=>False)):ju P N o E H R :=λa w I ι _ f c e K Q b=>h a w I _ f c e K Q b (λ_ _ _ _ _ d=>d.elim)
def fS(P:Program)(f:FuncId)(args:List AV)(H:aF)(Q:AV->aF->Prop)(PP:ao->aF->Prop):Prop :=∀(I:Nat->Prop) (ι:lQ) (w:World) (vs:Array Value),Rel I ι H w->vs.size=args.length->(∀(i:Nat) (v:Value) (a:AV),vs[i]?=some v->args[i]?=some a->VRel w I ι H v a) ->
  Calls P f vs w λe w'=>(∃r H' I' ι' v,e=.returned v/\Q r H'/\VRel w' I' ι' H' v r/\Rel I' ι' H' w'/\Step I ι H w I' ι' H' w')\/(∃ch H' I' ι',e=.panicked ch/\PP ch H'/\Rel I' ι' H' w'/\Step I ι H w I' ι' H' w')
section
variable{Q:AV->aF->Prop}{PP:ao->aF->Prop}
theorem fS.of(h:aU P f args H Q):fS P f args H Q PP:=λI ι w vs b a c=>(h I _ w _ b a c).mono λ_ _ h=>.inl h
theorem fS.mono{g}{PP'}(h:fS P f args H Q PP)(l:∀r H',Q r H'->g r H')(m:∀c H',PP c H'->PP' c H'):fS P f args H g PP' :=λI ι w vs k j i=>(h I _ w _ k j i).mono λ_ _ h=>h.elim (λ⟨r,H',d,b,v,e,q,a⟩=>.inl ⟨r,H',d,b,v,e,l _ _ q,a⟩) (λ⟨c,H',d,b,e,q,a⟩=>.inr ⟨c,H',d,b,e,m _ _ q,a⟩)
theorem fS.calls(h:fS P f args H Q PP)(d:∀a H',¬ PP a H'):aU P f args H Q :=λI ι w vs c b e=>(h I _ w _ c b e).mono λ_ _ h=>h.elim id (λ⟨a,H',_,_,_,q,_⟩=>(d _ _ q).elim)
end
section
variable{N:Nat}{o:Oper}{E:cY}{Q:AV->aF->Prop}{PP:ao->aF->Prop}
theorem eL{F}{f}{args}{c}{e}(m:o.op=.call {callee:=.value f,args:=args,argTypes:=c})(p:aO E f=some (.pv (.fn F)))
  (q:∀(args) (w),(callFunc F args).run P w=.ok (.enter F args) w) (g:yT E args.toList=some e) (h:fS P F e H Q PP):D4 P N o E H Q PP:=by
 intro a w I r _ n j K QQ hk hp;have d:=(aJ j p).fn_inv;have ⟨h1,k⟩:=pF j (nP g);unfold Oper.wpW execOp;simp[m,resolve,d,Deferred.ofValue,Sem.run_bind,Sem.run_pure,Result.andThen_ok,invoke,q,Oper.uponW_enter];refine(h I r w _ n F_ (λi v b g l=>k i v b F_ l)).mono ?_
 grind
theorem GX{f:Operand}{args:Array Operand}{m:Array TypeId}{k c:List AV}(x:o.op=.call {callee:=.value f,args:=args,argTypes:=m})(t:aO E f=some (.clo F c))
  (s:∀(args:Array Value) (w:World),(callFunc F args).run P w=.ok (.enter F args) w) (d:yT E args.toList=some k) (h:fS P F (k++c) H Q PP):D4 P N o E H Q PP:=by
 intro a w I u _ r n K QQ hk hp;have e:=aJ n t;generalize j:a.eval f=fc at e;have ⟨h1,p⟩:=pF n (nP d);cases e with
 | @clo _ us _ hl q =>
  unfold Oper.wpW execOp;simp only[x,resolve,j,Deferred.ofValue,Sem.run_bind,Sem.run_pure,Result.andThen_ok,invoke,s,Oper.uponW_enter,Array.empty_append];have l:args.size=k.length:=X
  refine(h I u w _ r F_ (λi v b d g=>?_)).mono ?_
  ·by_cases hi:i<args.size
   ·rw[Array.getElem?_append_left F_]at d;rw[getElem?_append_left X]at g;exact p i v b F_ g
   rw[Array.getElem?_append_right G_]at d;rw[getElem?_append_right X]at g;simp only[Array.size_map]at d;rw[l]at d;exact q _ v b d g
  grind
end
section
variable{N:Nat}{o:Oper}{E:cY}{Q:AV->aF->Prop}{PP:ao->aF->Prop}{t t' T:TypeId}{x y:Operand}
theorem pD{f}{xs}{c}(e:o.op=.makeFunc (.func f) xs #[])(d:yT E xs.toList=some c):cN P N o E H (.bnd f c) H :=.of_run λa w I ι _ h=>by
  have ⟨h1,j⟩:=pF h (nP d);exact⟨.func _ (xs.map a.eval) #[],by simp[execOp,e,Instr.makeFunc],.bnd F_ (λi v b d g=>j i v b F_ g)⟩
theorem GY{f:Operand}{args:Array Operand}{j:Array TypeId}{l xs:List AV}(r:o.op=.call {callee:=.value f,args:=args,argTypes:=j})(u:aO E f=some (.bnd F xs))
  (z:∀(args:Array Value) (w:World),(callFunc F args).run P w=.ok (.enter F args) w) (d:yT E args.toList=some l) (h:fS P F (xs++l) H Q PP):D4 P N o E H Q PP:=by
 intro a w I A _ m k K QQ hk hp;have c:=aJ k u;generalize g:a.eval f=fc at c;have ⟨h1,n⟩:=pF k (nP d);cases c with
 | @bnd _ s _ hl p =>
  unfold Oper.wpW execOp;simp only[r,resolve,g,Deferred.ofValue,Sem.run_bind,Sem.run_pure,Result.andThen_ok,invoke,z,Oper.uponW_enter,Array.append_empty];refine(h I A w _ m F_ (λi v b d e=>?_)).mono ?_
  ·by_cases q:i<s.size
   ·rw[Array.getElem?_append_left q]at d;rw[getElem?_append_left X]at e;exact p i v b d e
   rw[Array.getElem?_append_right (by omega)]at d;rw[List.getElem?_append_right (by omega)]at e;exact n _ v b (by simp_all) e
  grind
abbrev ms(t:TypeId):ao:=[{v:=.iface t (.agg #[]),recovered:=false}]
theorem WF(e:o.op=.panic x)(f:aO E x=some (.pv (.ifa t []))):D4 P N o E H (λ_ _=>False) (λc H'=>c=ms t/\H'=H):=by intro a w I ι _ g h K QQ hk b;have ⟨cs,d,hl,_⟩:=(aJ h f).ifa_inv;have:=Array.eq_empty_of_size_eq_zero X;subst this;unfold Oper.wpW execOp;simp[e,d];exact b _ w I _ H ⟨Z,Z⟩ g (Step.refl _ _ _ _)
end
section
variable{G0:aF}{N:Nat}{E:cY}{ops:Array Oper}{Q:Exit->cY->aF->Prop}{o:Oper}{rest:List Oper}{R:AV->aF->Prop}{PP:ao->aF->Prop}
def Cx(P:Program)(G0:aF)(N:Nat)(ops:Array Oper)(Q:Exit->cY->aF->Prop)(l:List Oper)(E:cY)(H:aF):Prop :=∀G:Entry,G.H=G0->∀a w,St G N E H a w->∀ro,(ro=none\/l.all Oper.noDefer=true)->wpListIn (RF ro) 0 P ops (λe a w=>∃E H,Q e E H/\St G N E H a w) l a w
theorem PS(h:Q .normal E H):Cx P G0 N ops Q [] E H:=λ_ _ a w b _ _=>⟨E,H,h,b⟩
theorem Ni(l:o.guard=none)(hd:jB N o.dst=true)(h:D4 P N o E H R PP)(e:∀d H',PP d H'->Q (.panic d) E H')(i:∀r H',R r H'->Cx P G0 N ops Q rest (nD E o.dst r) H'):Cx P G0 N ops Q (o::rest) E H:=by intro G j a w k ro c;refine wpListIn_plain l λK' m=>?_;exact k.opP hd h (λr H' a' g n b=>m _ _ (i r _ n G j _ _ b _ (nJ c).2)) (λd H' g f b=>⟨E,H',e _ _ f,b⟩) (nJ c).1
theorem Xi(b:o.guard=none)(hd:jB N o.dst=true)(h:ju P N o E H R)(a:∀r H',R r H'->Cx P G0 N ops Q rest (nD E o.dst r) H'):Cx P G0 N ops Q (o::rest) E H :=Ni (PP:=λ_ _=>False) b hd (.of h) (λ_ _ h=>h.elim) a
theorem iR{d}{v}{H2}(a:o.guard=none)(hd:o.dst=some d)(c:Nat.blt d N=true)(h:cN P N o E H v H2)(e:Cx P G0 N ops Q rest ((d,v)::E) H2):Cx P G0 N ops Q (o::rest) E H :=Xi a (by rw[hd];exact c) h λr H' ⟨b,f⟩=>by subst b f;rw[hd];exact e
theorem Nj{v}{H2}(d:o.guard=none)(hd:o.dst=none)(h:cN P N o E H v H2)(a:Cx P G0 N ops Q rest E H2):Cx P G0 N ops Q (o::rest) E H :=Xi d (by rw[hd];rfl) h λr H' ⟨c,b⟩=>by subst c b;rw[hd];exact a
theorem Z6{d}{v}{H2}{F}(j:o.guard=none)(hd:o.dst=some d)(e:Nat.blt d N=true)(h:D4 P N o E H (λr H'=>r=v/\H'=H2/\F) PP)(b:∀a H',PP a H'->Q (.panic a) E H')(f:F->Cx P G0 N ops Q rest ((d,v)::E) H2):Cx P G0 N ops Q (o::rest) E H :=Ni j (by rw[hd];exact e) h b λr H' ⟨c,g,i⟩=>by subst c g;rw[hd];exact f i
theorem qN(c:o.guard=none)(hd:jB N o.dst=true)(h:D4 P N o E H (λ_ _=>False) PP)(b:∀a H',PP a H'->Q (.panic a) E H'):Cx P G0 N ops Q (o::rest) E H:=Ni c hd h b (λ_ _ h=>h.elim)
theorem gS{id}(h:Cx P G0 N ops Q ops.toList E H):gG P G0 N (.region id ops false) Q E H:=λG d a w b ro c=>wpIn_region_list (h G d a w b _ c)
end
def Oj(P:Program)(fn:Func)(G0:aF)(Q:AV->aF->Prop)(PP:ao->aF->Prop)(e:Exit)(E:cY)(H:aF):Prop :=NH P fn G0 Q e E H\/∃ch H',e=.panic ch/\Fin G0 H (.tup []) H' (.tup [])/\PP ch H'
theorem ND{P}{a}{G0 H}{Q}{PP}{e}{E}(h:NH P a G0 Q e E H):Oj P a G0 Q PP e E H:=.inl h
theorem FJ{P}{d}{G0 H H'}{Q}{PP}{a:ao}{E}(c:Fin G0 H (.tup []) H' (.tup []))(b:PP a H'):Oj P d G0 Q PP (.panic a) E H:=.inr ⟨a,H',Z,c,b⟩
theorem fS.body{o:Func}{Q:AV->aF->Prop}{PP:ao->aF->Prop}{N:Nat}(v_:P.funcs[f]?=some o)(y_:o.body=some c)(hN:o.ntmps=N)(hlen:args.length<=N)
  (h:gG P H N c (Oj P o H Q PP) (nX args) H):fS P f args H Q PP:=by
 intro I n w s o_ hl f_;refine callsIn_wide.1 (callsIn_of_wp_marks (F:=Fence.wide) (n:=0) v_ y_ T_ ?_);have F:St ⟨I,n,H,w,[]⟩ N (nX args) H {tmps:=s++Array.replicate (o.ntmps - s.size) undef,defers:=[]} w:=by
  refine⟨tU.nil _ _ _,?_,I,n,o_,Step.refl _ _ _ _,λt a z_=>?_⟩
  ·grind
  have R:=wY z_;have G:t<s.size:=G_
  have W:s[t]?=some s[t]:=Array.getElem?_eq_getElem G;exact⟨s[t],by grind,f_ t _ a W R⟩
 refine wpIn_mono (h ⟨I,n,H,w,[]⟩ Z _ w F none (.inl Z)) ?_;rintro e y m ⟨E',k,(⟨u_,r,d_,r',z,i,L⟩|⟨B,z,rfl,i,L⟩),D⟩
 ·have u:LeavesInM Fence.wide 0 P o y.tmps (λe m=>(∃r k g b v,e=.returned v/\Q r k/\VRel m g b k v r/\Rel g b k m/\Step I n H w g b k m)\/(∃B k g b,e=.panicked B/\PP B k/\Rel g b k m/\Step I n H w g b k m)) y.defers .returning m:=by
   have ⟨g,b,q,d,p⟩:=D.rel;refine wS D.defers q d p ?_;intro E l j A;have ⟨v,h1,A_⟩:=d_ y E g b l A;have ⟨e_,x,c_,K,T⟩:=i ⟨I,n,H,w,[]⟩ Z g b E v l j A_
   grind
  rcases u_ with rfl|rfl
  ·exact u
  exact u
 have ⟨g,b,q,d,p⟩:=D.rel;show LeavesInM Fence.wide 0 P o y.tmps _ y.defers (.panicking B) m;refine AH H_ D.defers q d p ?_;intro E l j A;have ⟨e_,x,c_,K,T⟩:=i ⟨I,n,H,w,[]⟩ Z g b E (.tuple #[]) l j (.tup Z H_);exact .inr ⟨B,z,e_,x,Z,L,c_,K⟩
theorem SX{I x:Nat->Prop}{ι s:lQ}{H':aF}{w w':World}(c_:Rel I ι H w)(G:Sub H0 H)(k2:Rel x s H' w')(m:Step I ι H0 w x s H' w')(hk:∀id,(H'.get id).isSome=true->(H0.get id).isSome=true\/H.get id=none):
  ∃f,Rel x f (H'++H) w'/\Step I ι H w x f (H'++H) w'/\∀v a,VRel w' x s H' v a->VRel w' x f (H'++H) v a:=by
 have ⟨f,hι2⟩:∃f:lQ,f=(λj=>if(H'.get j).isSome=true then s j else ι j):=X_;have B:∀j o,H'.get j=some o->f j=s j:=λj o d=>by simp_all
 have D:∀j,H'.get j=none->f j=ι j:=λj d=>by simp_all
 have W:∀j o,H'.get j=some o->aF.get (H'++H) j=some o:=λj o d=>by rw[gH,d]
 have F:∀j,H'.get j=none->aF.get (H'++H) j=H.get j:=λj d=>by rw[gH,d]
 have u_:∀j o,H.get j=some o->H'.get j=none->H0.get j=none:=λj o d E=>by
  cases e:H0.get j with
  |none=>rfl
  |some o0 =>
   have ⟨l,T,_⟩:=m.objs j o0 e
   simp_all
 have y:∀j o b c,H.get j=some o->H'.get j=none->ι j=some (b,c)->¬ NG ι H0 b:=λj o b c d E K ⟨n,l,d_,k,R⟩=>by
  have:=c_.inj j n o l b c d_ d (G _ _ k) K R;subst this;rw[u_ j o d E]at k;cases k
 have o_:Step I ι H w x f (H'++H) w':=by
  refine⟨m.os,m.tape,m.output,m.size,λa ha E=>m.froz a ha (λh=>E (h.sub G)),m.imm,λb K=>?_,?_,?_,?_⟩
  ·rcases m.immNew b K with g|g|g
   ·simp_all
   ·exact .inr (.inl (g.sub G))
   omega
  ·rintro b ⟨j,o,c,d,t⟩;cases e:H'.get j with
   |some l =>
    rw[B j l e]at t;rcases m.own b ⟨j,l,c,e,t⟩with g|g
    ·exact .inl (g.sub G)
    omega
   |none =>
    rw[D j e]at t;rw[F j e]at d;exact .inl ⟨j,o,c,d,t⟩
  ·intro b K E;exact m.keep b K (λh=>E (h.sub G))
  intro j o d;cases e:H'.get j with
  |some l =>
   rcases hk j (by rw[e];rfl)with g|g
   ·have ⟨o0,y_⟩:=Option.isSome_iff_exists.1 g;have:=G _ _ y_;rw[d]at this;cases this;have ⟨f_,z_,q2,q3⟩:=m.objs j o y_;exact⟨f_,W j f_ z_,q2,λe=>by rw[B j f_ z_];exact q3 e⟩
   rw[d]at g;cases g
  |none=>exact⟨o,(F j e).trans d,g_ _,λ_=>⟨D j e,Z,λ_=>g_ _⟩⟩
 have L:∀ {v:Value} {a:AV},VRel w' x s H' v a->VRel w' x f (H'++H) v a:=λv_ =>
  v_.mono' (λ_ _=>rfl) (λ_ h=>h) (λid o A_=>⟨o,W id o A_,g_ _,λ_=>⟨B id o A_,Z,λ_=>g_ _⟩⟩)
 refine⟨f,⟨k2.imm,λj o d=>?_,λj n o l b c d_ d k t i=>?_,k2.glob⟩,o_,λv a h=>L h⟩
 ·cases e:H'.get j with
  |some l =>
   rw[W j l e]at d;obtain rfl:l=o:=Option.some.inj d;exact(k2.obj j l e).keep (B j l e) (λ_ _ _ _=>⟨Z,λh=>h⟩) (λr _ a _ v Q=>L Q)
  |none =>
   rw[F j e]at d;refine(c_.obj j o d).keep (D j e) (λP z T A=>⟨m.keep P A (y j o P z d e T),λe3 hi=>?_⟩) (λr _ a _ v Q=>Q.mono c_ o_);rcases m.immNew P hi with g|g|g
   ·exact e3 g
   ·exact y j o P z d e T g
   omega
 cases e:H'.get j with
 | some q =>
  rw[B j q e]at t;cases u:H'.get n with
  |some N =>
   rw[B n N u]at i;exact k2.inj j n q N b c d_ e u t i
  |none =>
   rw[D n u]at i;rw[F n u]at k;have A:=c_.lt ⟨n,l,d_,k,i⟩;rcases m.own b ⟨j,q,c,e,t⟩with g|g
   ·exact absurd g (y n l b d_ k u i)
   omega
 | none =>
  rw[D j e]at t;rw[F j e]at d;cases u:H'.get n with
  |some N =>
   rw[B n N u]at i;have A:=c_.lt ⟨j,o,c,d,t⟩;rcases m.own b ⟨n,N,d_,u,i⟩with g|g
   ·exact absurd g (y j o b c d e t)
   omega
  |none =>
   rw[D n u]at i;rw[F n u]at k;exact c_.inj j n o l b c d_ d k t i
theorem fS.conv{P}{f}{args}{H}{Q n}{PP PP'}(h:fS P f args H Q PP)(u:∀r H',Q r H'->∃H2,(∀j,H2.get j=H'.get j)/\n r H2)(x:∀c H',PP c H'->∃H2,(∀j,H2.get j=H'.get j)/\PP' c H2):fS P f args H n PP' :=λI ι w vs p t o=>(h I _ w _ p t o).mono λ_ _ h=>by
  rcases h with⟨r,H',k,b,v,e,q,s,d,i⟩|⟨c,H',k,b,e,q,d,i⟩
  ·have ⟨H2,m,a⟩:=u r _ q;have ⟨l,g⟩:=d.congr m;exact .inl ⟨r,H2,k,b,v,e,a,s.mono d g,l,i.trans g⟩
  have ⟨H2,m,a⟩:=x _ _ q;have ⟨l,g⟩:=d.congr m;exact .inr ⟨c,H2,k,b,e,a,l,i.trans g⟩
theorem fS.frame{R}{PP}(h:fS P f args H0 R PP)(d:Sub H0 H)(s:dG H0)(y:∀a∈args,Clo H0 a)
  (g:∀r H1,R r H1->∀id,(H1.get id).isSome=true->(H0.get id).isSome=true\/H.get id=none) (l:∀c H1,PP c H1->∀id,(H1.get id).isSome=true->(H0.get id).isSome=true\/H.get id=none) :
  fS P f args H (λr H'=>∃K,R r K/\H'=K++H) (λc H'=>∃K,PP c K/\H'=K++H):=by
 intro I t w d_ j B x;refine(h I t w d_ (j.restrict d s) B (λi v a A q=>(x i v a A q).restrict d (y a (m8 q)))).mono ?_;rintro e w' (⟨r,H',E,k,v,rfl,n,k1,o,p⟩|⟨c,H',E,k,rfl,n,o,p⟩)
 ·have ⟨m,u,z,D⟩:=SX j d o p (g r H' n)
  grind
 have ⟨m,u,z,D⟩:=SX j d o p (l c H' n)
 grind
end
section
def Pc(P:Program)(N:Nat)(PP:ao->aF->aF->Prop)(ops rest:List Oper)(E:cY)(H:aF)(K:List Rec->List Prop->cY->aF->Prop):Prop:=∃rs Fs E' H',DChainP P N ops PP rest E H rs Fs E' H'/\K rs Fs E' H'
theorem KV{P}{N}{PP}{ops}{E}{H}{K}(h:K [] [] E H):Pc P N PP ops [] E H K:=⟨_,_,_,_,.nil,h⟩
theorem vI{P}{N}{PP}{ops rest}{o}{E}{H}{K}{r}{F}(h:DStepP P N ops PP o E H r F)(hd:jB N o.dst=true)
  (d:Pc P N PP ops rest (nD E o.dst r.v) (r.W++H) (λa b E' H'=>K (r::a) (F::b) E' H')):Pc P N PP ops (o::rest) E H K:=by
 have ⟨a,b,E',H',c,e⟩:=d;exact⟨_,_,_,_,.cons h hd c,e⟩
theorem gw{P}{N}{PP}{ops rest}{o}{E}{H}{K}{r}(h:DStep P N ops o E H r)(hd:jB N o.dst=true)
  (c:Pc P N PP ops rest (nD E o.dst r.v) (r.W++H) (λa b E' H'=>K (r::a) (True::b) E' H')):Pc P N PP ops (o::rest) E H K:=vI (.old T_ h) hd c
theorem yS{P}{G0}{N id}{Q}{ops}{E}{H}(PP)(d a ks)(i:vc d ops=true)(g:P.follows .mixedOrders=true)
  (j:∀e c H1 H2,(∀t∈d,c.get t=E.get t)->Shp a H H1->(∀id∈ks,H1.get id=H.get id)->PP e H1 H2->Q (.panic e) c H2)
  (h:Pc P N PP ops.toList ops.toList E H (λb f E' H'=>(R0 ops.toList b=true/\Qp a H b=true/\vb ks b=true)/\(ag f->Q .normal E' H'))):gG P G0 N (.region id ops true) Q E H:=by
 have ⟨b,f,E',H',n,⟨m,l,o⟩,k⟩:=h;exact XQ g n m _ _ l o _ i j k
section
variable{G0:aF}{N:Nat}{PP:ao->aF->aF->Prop}{ops rest:List Oper}{E:cY}{K:List Rec->List Prop->cY->aF->Prop}{dst:Option Tmp}{op:Op}{ty:TypeId}{pos:String}{af:Array Edge}{v:AV}{w:Nat×Ob}
theorem Pr(R:List Nat)(h:∀H1:aF,(∀id,tO (some R) id=true->H1.get id=H.get id)->cN P N ⟨dst,op,ty,pos,af,none⟩ (restr E (iX ops ⟨dst,op,ty,pos,af,none⟩)) H1 v H1)(hk:Pc P N PP ops rest (nD E dst v) H (λrs Fs E' H'=>K (⟨v,some R,[]⟩::rs) (True::Fs) E' H'))(hd:jB N dst=true:=by rfl):Pc P N PP ops (⟨dst,op,ty,pos,af,none⟩::rest) E H K:=gw (r:=⟨v,some R,[]⟩) (DStep.plain Z h) hd hk
theorem Pw(R:List Nat)(h:∀H1:aF,(∀id,tO (some R) id=true->H1.get id=H.get id)->cN P N ⟨dst,op,ty,pos,af,none⟩ (restr E (iX ops ⟨dst,op,ty,pos,af,none⟩)) H1 v (w::H1))(hk:Pc P N PP ops rest (nD E dst v) (w::H) (λrs Fs E' H'=>K (⟨v,some R,[w]⟩::rs) (True::Fs) E' H'))(hd:jB N dst=true:=by rfl):Pc P N PP ops (⟨dst,op,ty,pos,af,none⟩::rest) E H K:=gw (r:=⟨v,some R,[w]⟩) (DStep.plain Z h) hd hk
end
end
section
abbrev Ny(G:Entry)(Q:AV->aF->Prop):Ending->World->Prop:=λe w'=>∃r H' I' ι' v,e=.returned v/\Q r H'/\VRel w' I' ι' H' v r/\Rel I' ι' H' w'/\Step G.I G.ι G.H G.w I' ι' H' w'
def DWp(P:Program)(fn:Func)(G0:aF)(N:Nat)(Q:AV->aF->Prop)(c:Code)(E:cY)(H:aF):Prop :=∀G:Entry,G.H=G0->G.ds=[]->∀a w,St G N E H a w->c.wpIn Fence.wide 0 P (bodyPostM Fence.wide 0 P fn (Ny G Q)) a w
section
variable{fn:Func}{G0 H:aF}{N:Nat}{Q:AV->aF->Prop}{E:cY}
theorem B6{G}{e}{a}{w}(n:G.H=G0)(hd:G.ds=[])(h:NH P fn G0 Q e E H)(m:St G N E H a w):bodyPostM Fence.wide 0 P fn (Ny G Q) e a w:=by
 have ⟨o,r,g,r',H'',b,hq⟩:=h;have c:LeavesInM Fence.wide 0 P fn a.tmps (Ny G Q) a.defers .returning w:=by
  have ⟨I',ι',k,f,l⟩:=m.rel;refine wS (hd▸m.defers) k f l ?_;intro w2 i d j;have ⟨v,h1,p⟩:=g a _ _ _ i j;have ⟨I2,ι2,k1,k2,k3⟩:=b G n _ _ _ v i d p
  grind
 rcases o with rfl|rfl
 ·exact c
 exact c
theorem vy{x y}(h:gG P G0 N x (yX (λg H1=>DWp P fn G0 N Q y g H1) (NH P fn G0 Q)) E H):DWp P fn G0 N Q (.seq x y) E H:=by
 intro G c d a w i;refine wpIn_seq (wpIn_mono (h G c a w i _ (.inl Z)) ?_);rintro e a' w' ⟨E',H',f,b⟩;cases e with
 |normal=>exact f G c d _ _ b
 |exit id=>exact B6 c d f b
 |goto l=>exact B6 c d f b
 |ret=>exact B6 c d f b
 |panic ch=>exact B6 c d f b
 |outgrown=>exact B6 c d f b
theorem aU.bodyD(k:P.funcs[f]?=some fn)(o:fn.body=some c)(hN:fn.ntmps=N)(hlen:args.length<=N)(h:DWp P fn H N Q c (nX args) H):aU P f args H Q:=by
 intro I g w b j hl i;refine callsIn_wide.1 (callsIn_of_wp_marks (n:=0) k o T_ ?_);have d:St ⟨I,g,H,w,[]⟩ N (nX args) H {tmps:=b++Array.replicate (fn.ntmps - b.size) undef,defers:=[]} w:=by
  refine⟨tU.nil _ _ _,?_,I,g,j,Step.refl _ _ _ _,λt a n=>?_⟩
  ·grind
  have m:=wY n;have e:t<b.size:=G_
  have l:=Array.getElem?_eq_getElem e;exact⟨b[t],by grind,i t _ a l m⟩
 exact h _ Z Z _ w d
end
def ah(P:Program)(F:FuncId)(args:List AV)(H:aF)(u:FrameMode)(K:aF->Prop):Prop :=∀(I:Nat->Prop) (ι:lQ) (w:World) (vs:Array Value),Rel I ι H w->vs.size=args.length->(∀(i:Nat) (v:Value) (a:AV),vs[i]?=some v->args[i]?=some a->VRel w I ι H v a) ->
  CallsDIn Fence.wide 0 P F vs u w λe u' w'=>∃v H' I' ι',e=.returned v/\settle u'=.returning/\K H'/\Rel I' ι' H' w'/\Step I ι H w I' ι' H' w'
def xa(P:Program)(fn:Func)(G0 H0:aF)(F:FuncId)(cs:List AV)(Q:AV->aF->Prop)(e:Exit)(E:cY)(H:aF):Prop :=∃u E1 H1,((e=.normal\/e=.ret)/\u=.returning\/∃ch,e=.panic ch/\u=.panicking ch)/\cL H0 E H E1 H1 /\
  ah P F cs H1 u λH2=>∃r,(∀(a:Act) (w:World) (I:Nat->Prop) (ι:lQ),Rel I ι H2 w->lJ w I ι H2 E1 a->∃v,(results fn a.tmps).run P w=.ok v w/\VRel w I ι H2 v r)/\∃r' H3,Fin G0 H2 r H3 r'/\Q r' H3
section
variable{fn:Func}{G0 H:aF}{N:Nat}{Q:AV->aF->Prop}{E:cY}
theorem Ba{id:Nat}{A_ y_:Oper}{ops:Array Oper}{rest:Code}{l:Array Operand}{at_:Array TypeId}{d:Tmp}{cs:List AV}(z:ops.toList=[A_,y_])(hg1:A_.guard=none)(R:A_.dst=some d)(hdN:Nat.blt d N=true)(ho1:A_.op=.makeFunc (.func F) #[] l)
  (hg2:y_.guard=none) (hd2:y_.dst=none) (ho2:y_.op=.defer {callee:=.value (.tmp d),args:=#[],argTypes:=at_}) (hv:yT E l.toList=some cs)
  (hc:∀(args:Array Value) (w:World),(callFunc F args).run P w=.ok (.enter F args) w)
  (h:gG P H N rest (xa P fn G0 H F cs Q) ((d,.clo F cs)::E) H):DWp P fn G0 N Q (.seq (.region id ops false) rest) E H:=by
 intro G hG hd a w hs;refine wpIn_seq (wpIn_region_list ?_);rw[z];refine wpListIn_plain hg1 λK1 hK1=>?_;refine hs.op (ro:=none) (by rw[R];exact hdN) (gW ho1 (nP hv)) ?_ (.inl Z);rintro r H' j q ⟨rfl,rfl⟩ k;refine hK1 j q ?_;rw[R]at k;refine wpListIn_plain hg2 λK2 hK2=>?_;refine Oper.wpW_in (ro:=none) (.inl Z) ?_;have ⟨I1,f_,o,B,A⟩:=k.rel;have ⟨c1,hc1,hv1⟩:=A d _ (cY.get_cons_same _ _ _);have hev:j.eval (.tmp d)=c1:=by simp[Act.eval,hc1]
 cases hv1 with
 | @clo _ K _ hl hh =>
  unfold Oper.wpW execOp;simp only[ho2,resolve,hev,Deferred.ofValue,Sem.run_bind,Sem.run_pure,Result.andThen_ok,Oper.uponW,hd2,Act.put];refine hK2 _ q ?_;show Exit.then _ _ .normal _ q
  let dd:Deferred:={target:=.fn (.func F) K,args:=#[]++(#[]:Array Operand).map j.eval}
  have d_:St ⟨I1,f_,H',q,dd::j.defers⟩ N ((d,.clo F cs)::E) H' {j with defers:=dd::j.defers} q :=
   ⟨tU.nil _ _ _,k.size,I1,f_,o,Step.refl _ _ _ _,A⟩
  refine wpIn_mono (h _ Z _ q d_ none (.inl Z)) ?_;rintro e e_ w' ⟨E',H2,⟨u,E1,H1,n,I,W⟩,z_⟩;have L:=I _ Z N e_ w' z_;have p:u≠.run->LeavesInM Fence.wide 0 P fn e_.tmps (Ny G Q) e_.defers u w':=by
   intro hu;have ⟨I3,ι3,hr3,o_,he3⟩:=L.rel;refine AH hu L.defers hr3 o_ he3 ?_;intro w4 y g he4;refine⟨hu,.inr ⟨(λhx=>by cases hx),.func F,K,F,K,Z,?_,λ_ _=>trivial,?_⟩⟩
   ·show (invoke (.fn (.func F) K) (#[]++(#[]:Array Operand).map j.eval)).run P w4=_;simp only[invoke,Array.map_empty,Array.empty_append,hc]
   refine(W I3 ι3 w4 K y X (λi v b hv hb=>(hh i v b hv hb).mono o g)).mono ?_;rintro e2 u' w5 ⟨v,H5,I5,m,rfl,c_,⟨r,u_,r',H6,D,hq⟩,hr5,f⟩;show LeavesInM Fence.wide 0 P fn e_.tmps (Ny G Q) j.defers (settle u') w5;rw[c_];have s:Step G.I G.ι G.H G.w I5 m H5 w5:=(B.trans g).trans f;have hm1:tU [] G.w w5 j.defers:=(hd▸k.defers).step o (g.trans f);refine wS hm1 hr5 s (λt v ht=>let ⟨c,x1,x2⟩:=he4 t v ht;⟨c,x1,x2.mono y f⟩) ?_;intro w7 v_ x he7;have ⟨v,h1,h2⟩:=u_ e_ w7 I5 m v_ he7;have ⟨I8,ι8,k1,k2,k3⟩:=D G hG I5 m w7 v v_ x h2
   grind
  rcases n with⟨rfl|rfl,rfl⟩|⟨ch,rfl,rfl⟩
  ·exact p H_
  ·exact p H_
  exact p H_
end
end
end Go.Abs
namespace Go.Abs
open Go.Proofs
variable{d:Tmp}{E:cY}
section
section
variable{P:Program}{G0:aF}{N:Nat}{Q:Exit->cY->aF->Prop}{H:aF}
def U3(P:Program)(G0:aF)(N:Nat)(c:Code)(Q:Exit->cY->aF->Prop)(E:cY)(H:aF):Prop :=∀G:Entry,G.H=G0->∀a w,St G N E H a w->c.wpIn (RF none) 0 P (λe a' w'=>(∃E H,Q e E H/\St G N E H a' w')/\a'.defers=a.defers) a w
def Xm(P:Program)(G0:aF)(N:Nat)(ops:Array Oper)(K:cY->aF->Prop)(l:List Oper)(E:cY)(H:aF):Prop :=∀G:Entry,G.H=G0->∀a w,St G N E H a w->∀Q:Exit->Act->World->Prop,(∀E H a' w',K E H->St G N E H a' w'->a'.defers=a.defers->Q .normal a' w')->wpListIn (RF none) 0 P ops Q l a w
theorem GG{ops}{K}(h:K E H):Xm P G0 N ops K [] E H:=λ_ _ a w b _ c=>c _ _ a w h b Z
theorem St.opN{G}{a}{w}{o}{R}(d:St G N E H a w)(hd:jB N o.dst=true)(h:ju P N o E H R){K}{Q}
  (l:∀r H' a' w',R r H'->St G N (nD E o.dst r) H' a' w'->a'.defers=a.defers->K a' w'):o.wpIn (RF none) 0 P a w K Q:=by
 refine Oper.wpW_in (.inl Z) ?_;have ⟨I,ι,g,e,j⟩:=d.rel;refine h a w I _ T_ d.size g j K Q ?_;intro c w' m f r H' n k i b;refine l r _ _ _ n ⟨?_,?_,m,f,i,e.trans b,lJ.put g b j k (by rw[d.size];exact hd)⟩ (mA _ _ _)
 ·rw[mA];exact d.defers.step g b
 have:=d.size;cases o.dst<;>simpa[Act.put]using this
theorem Xj{ops}{K}{o}{rest}{R}(m:o.guard=none)(hd:jB N o.dst=true)(h:ju P N o E H R)(k:∀r H',R r H'->Xm P G0 N ops K rest (nD E o.dst r) H'):Xm P G0 N ops K (o::rest) E H:=by intro G j a w l Q i;refine wpListIn_plain m λK' n=>?_;exact l.opN hd h λr H' a' w' g f e=>n _ _ (k r _ g G j _ _ f Q λE H a'' w'' d c b=>i E H _ _ d c (b.trans e))
theorem N5{ops}{K}{o}{rest}{v}{H2}(a:o.guard=none)(hd:o.dst=some d)(c:Nat.blt d N=true)(h:cN P N o E H v H2)(e:Xm P G0 N ops K rest ((d,v)::E) H2):Xm P G0 N ops K (o::rest) E H :=Xj a (by rw[hd];exact c) h λr H' ⟨b,f⟩=>by subst b f;rw[hd];exact e
theorem Nk{ops}{K}{o}{rest}{v}{H2}(d:o.guard=none)(hd:o.dst=none)(h:cN P N o E H v H2)(a:Xm P G0 N ops K rest E H2):Xm P G0 N ops K (o::rest) E H :=Xj d (by rw[hd];rfl) h λr H' ⟨c,b⟩=>by subst c b;rw[hd];exact a
theorem sB{id}{ops}(h:Xm P G0 N ops (λE H=>Q .normal E H) ops.toList E H):U3 P G0 N (.region id ops false) Q E H:=λG c a w d =>
 wpIn_region_list (h G c a w d _ λE H a' w' q s b=>⟨⟨E,H,q,s⟩,b⟩)
theorem K0{x y}(h:U3 P G0 N x (yX (U3 P G0 N y Q) Q) E H):U3 P G0 N (.seq x y) Q E H:=by intro G c a w g;refine wpIn_seq (wpIn_mono (h G c a w g) ?_);rintro e a' w' ⟨⟨f,d,q,s⟩,b⟩;cases e<;>first|exact wpIn_mono (q G c _ _ s) (λe a w ⟨i,j⟩=>⟨i,j.trans b⟩)|exact⟨⟨f,d,q,s⟩,b⟩
theorem TL{id}{c}(h:U3 P G0 N c (K8 id Q) E H):U3 P G0 N (.block id c) Q E H:=by
 intro G f a w i;refine wpIn_block (wpIn_mono (h G f a w i) ?_);rintro e a' w' ⟨⟨g,d,q,s⟩,j⟩;cases e<;>try exact⟨⟨g,d,q,s⟩,j⟩
 simp only[K8]at q;simp[Exit.inBlock]
 split
 ·rename_i b;subst b;rw[pI]at q;grind
 rename_i b;rw[jR b]at q;grind
theorem NB{c}{x y}{b}(j:aO E c=some (.pv (.bool b)))(g:b=true->U3 P G0 N x Q E H)(k:b=false->U3 P G0 N y Q E H):U3 P G0 N (.cond c x y) Q E H:=by intro G f a w d;have ⟨I,ι,hr,hst,h⟩:=d.rel;have i:=(aJ h j).bool_inv;exact wpIn_cond_split i (λe=>g e G f a w d) (λe=>k e G f a w d)
end
section
variable{P:Program}{fn:Func}{H:aF}{N:Nat}{F:FuncId}{args:List AV}{K:aF->Prop}
def aEn(H:aF)(K:aF->Prop)(e:Exit)(E':cY)(H':aF):Prop:=(e=.normal\/e=.ret)/\∃H2,Fin H H' (.tup []) H2 (.tup [])/\K H2
theorem K6{id:Nat}{o:Oper}{ops:Array Oper}{e_:Code}{T:Array TypeId}{u:FrameMode}{x:PV}{vx:Value}(hf:P.funcs[F]?=some fn)(hb:fn.body=some (.seq (.region id ops false) e_))(hN:fn.ntmps=N)(hlen:args.length<=N)(hr0:fn.results=#[])
  (z:ops=#[o]) (hg:o.guard=none) (hd:o.dst=some d) (W:Nat.blt d N=true) (ho:o.op=.call {callee:=.builtin .recover,args:=#[],argTypes:=T})
  (hx:∀(w:World) (I:Nat->Prop),PRep w I vx x) (f_:(u=.returning/\vx=.nilIface)\/(∃t,u=.panicking (ms t)/\vx=.iface t (.agg #[])))
  (h:U3 P H N e_ (aEn H K) ((d,.pv x)::nX args) H):ah P F args H u K:=by
 intro I r w k hr hl hv;refine callsDIn_of_wpSIn hf hb T_ ?_;intro b p c;refine wpSIn_seq (wpSIn_region ?_);subst z;have f:St ⟨I,r,H,w,[]⟩ N (nX args) H {tmps:=k++Array.replicate (fn.ntmps - k.size) undef,defers:=[]} w:=by
  refine⟨tU.nil _ _ _,?_,I,r,hr,Step.refl _ _ _ _,λt a ht=>?_⟩
  ·grind
  have c_:=wY ht;have L:t<k.size:=G_
  have f_:k[t]?=some k[t]:=Array.getElem?_eq_getElem L;exact⟨k[t],by grind,hv t _ a f_ c_⟩
 obtain ⟨a,c_⟩:∃a:Act,a={tmps:=k++Array.replicate (fn.ntmps - k.size) undef,defers:=[]}:=X_;rw[<-c_]at f |-;have q:a.defers=[]:=by rw[c_]
 have D:St ⟨I,r,H,w,[]⟩ N ((d,.pv x)::nX args) H (a.put (some d) vx) w:=by
  have ⟨I1,v_,G,u_,k3⟩:=f.rel;refine⟨by rw[mA];exact f.defers,?_,I1,v_,G,u_,?_⟩
  ·have:=f.size
   simpa[Act.put]using this
  exact lJ.put (d:=some d) G (Step.refl _ _ _ _) k3 (.pv (hx _ _)) (by rw[f.size];exact W)
 have l:∀s,settle s=.returning->e_.wpSIn Fence.wide 0 P (bodyPostS P fn b p λe s m=>∃v n d_ i,e=.returned v/\settle s=.returning/\K n/\Rel d_ i n m/\Step I r H w d_ i n m) (a.put (some d) vx) ({b with mode:=s}::p) w:=by
  intro s B;refine wpSIn_of_wpIn Z (wpIn_mono (h ⟨I,r,H,w,[]⟩ Z _ w D) ?_);rintro e a' m ⟨⟨E',n,⟨he,H2,y,hK⟩,z_⟩,hdf⟩;have ⟨I3,y_,G,u_,k3⟩:=z_.rel;have ⟨I4,R,q1,q2,q3⟩:=y ⟨I,r,H,w,[]⟩ Z I3 y_ m (.tuple #[]) G u_ (.tup Z H_);have Q:a'.defers=[]:=hdf.trans ((mA _ _ _).trans q);have A:a'.defers=[]/\∃E,({b with mode:=s}::p:List Frame)={b with mode:=E}::p/\∃v,(results fn a'.tmps).run P m=.ok v m/\∃v0 n d_ i,Ending.returned v=.returned v0/\settle E=.returning/\K n/\Rel d_ i n m/\Step I r H w d_ i n m :=
   ⟨Q,s,Z,.tuple #[],by simp[results,hr0],.tuple #[],H2,I4,R,Z,B,hK,q1,q2⟩
  rcases he with rfl|rfl
  ·exact A
  exact A
 have A_:(execOp a.eval o).run P w=.ok .recover w:=by
  simp[execOp,ho,resolve,invoke];rfl
 have hw:Region.wanted o (yielded #[o] a.tmps)=true:=by simp[Region.wanted,hg]
 show wpOpsSIn _ _ _ _ _ [0] _ _ _;unfold wpOpsSIn;simp only[List.getElem?_toArray,List.getElem?_cons_zero,hw,if_true,A_];refine⟨λ_ _=>trivial,?_⟩;rcases f_ with⟨rfl,rfl⟩|⟨t,rfl,rfl⟩
 ·have g:recoverD (b::p)=none:=by simp[recoverD,c]
  rw[g];have hc:({b with mode:=.returning}:Frame)=b:=by rw[<-c]
  have:=l .returning Z;rw[hc]at this;rw[hd];exact this
 have g:recoverD (b::p)=some (.iface t (.agg #[]),{b with mode:=.panicking ({v:=.iface t (.agg #[]),recovered:=true}::[])}::p):=by simp[recoverD,c]
 rw[g];rw[hd];exact l (.panicking ({v:=.iface t (.agg #[]),recovered:=true}::[])) Z
end
section
variable{P:Program}{N:Nat}{o:Oper}{H:aF}{t t' T:TypeId}{x y:Operand}
theorem nc(e:o.op=.binOp .eql t x (.const .nilIface) t')(d:P.underlying t=some (.interface (P.methodsAt t)))(f:aO E x=some (.pv MJ)):cN P N o E H (.pv (.bool true)) H :=.of_run λa w I ι _ b=>⟨.bool _,by
  have c:=(aJ b f).sat_inv;have g:a.eval (.const _)=.nilIface:=rfl;simp[execOp,e,c,g,eqGuard,Sem.run_bind,Sem.run_pure,Result.andThen_ok,run_eql_nil_nil _ _ d,Bool.or_true,Bool.true_or,if_true,Bool.not_true,Bool.false_eq_true,if_false],.pv (.bool _)⟩
theorem nf{ps:List PV}{h:TypeId}(e:o.op=.binOp .eql t x (.const .nilIface) t')(d:P.underlying t=some (.interface (P.methodsAt t)))(f:aO E x=some (.pv (.ifa h ps))):cN P N o E H (.pv (.bool false)) H :=.of_run λa w I ι _ b=>⟨.bool false,by
  have ⟨cs,c,_⟩:=(aJ b f).ifa_inv;have g:a.eval (.const .nilIface)=.nilIface:=rfl;simp only[execOp,e,c,g,eqGuard,Sem.run_bind,Sem.run_pure,Result.andThen_ok,binOp,run_equal_held_nil _ _ _ _ d];rfl,.pv (.bool _)⟩
abbrev aCJ:PV:=.sat λv=>∃b,v=.pointer (some ⟨b,0,none⟩)
theorem nh(f:o.op=.alloc T)(c:∀w,(zeroValue T).run P w=.ok (.agg #[]) w):cN P N o E H (.pv aCJ) H:=by intro a w I ι _ _ g he K Q e;unfold Oper.wpW execOp;simp[f,Instr.alloc,c,newVar,newRow,Sem.run_bind,run_newObj,Sem.run_pure,Result.andThen_ok];obtain ⟨d,b⟩:=Rel.newImm (w':={w with heap:=w.heap.push _}) g Z Z Z Z;exact e _ _ _ _ _ _ ⟨Z,Z⟩ (.pv (.sat Z ⟨_,Z⟩)) d b
theorem mz(k:o.op=.store T x y)(l:aO E x=some (.pv aCJ))(n:aO E y=some (.agg []))(j:∀w,(sizeOf T).run P w=.ok 0 w):cN P N o E H (.tup []) H:=by
 intro a w I ι _ _ p g K Q m;have ⟨b,i⟩:=(aJ g l).sat_inv;have h:=aJ g n;generalize f:a.eval y=v2 at h;cases h with
 | @agg vs _ hl h1 hh =>
  have:=Array.eq_empty_of_size_eq_zero X;subst this;have d:(execOp a.eval o).run P w=.ok .skip w:=by
   simp[execOp,k,i,f];simp[Instr.storeAt,Instr.sureAddr,storeVar,j,Value.cells,storeCells]
  unfold Oper.wpW;rw[d];exact m _ w I _ _ _ ⟨Z,Z⟩ (.tup Z H_) p (Step.refl _ _ _ _)
end
theorem cL.toAny{G0 H H':aF}{E':cY}(f_:∀t v,E'.get t=some v->E.get t=some v/\Clo H' v)(u:∀id o',H'.get id=some o'->∃o,H.get id=some o/\mN o o'/\∀r∈o'.rows,∀a∈r,a=.any)(hG:∀id,(G0.get id).isSome=true->(H'.get id).isSome=true):cL G0 E H E' H':=by
 intro G c_ N a w K;have ⟨I,v_,B,s,he⟩:=K.rel;have g:∀ {o o':Ob},mN o o'->o'.rows.length=o.rows.length:=λh=>by
  have:=congrArg List.length h.2.2.2
  simpa using this
 have o_:xc H H':=λj o' d=>by
  have ⟨o,m,f,_⟩:=u j o' d;exact⟨o,m,f.1.symm,f.2.1.symm,f.2.2.1.symm,(g f).symm⟩
 refine⟨K.defers,K.size,I,v_,⟨B.imm,λid o' d=>?_,λid z o o' b c c' A d=>?_,B.glob⟩,?_,λt v T=>?_⟩
 ·have ⟨o,m,f,Q⟩:=u id o' d;refine(B.obj id o m).keepG f.2.1 f.2.2.1 (g f) (λy P R hy=>?_) Z (λ_ _ _ _=>⟨Z,λh=>h⟩) (λi R F=>?_)
  ·have:=Q [.raw y P] F_ (.raw y P) H_;cases this
  have x:i<o.rows.length:=by rw[<-g f];exact(m9.1 F).1
  refine⟨o.rows[i],m_ x,?_,λk a a' _ d_ v _=>?_⟩
  ·have e:=congrArg (λl:List Nat=>l[i]?) f.2.2.2;simp only[r7,F,m_ x,Option.map_some,Option.some.injEq]at e;exact e.symm
  rw[Q R (m8 F) a' (m8 d_)];exact .any v
 ·have ⟨q,m,_⟩:=u id o A;have ⟨y_,D,_⟩:=u z o' d;exact B.inj id z q y_ b c c' m D
 ·refine {s with own:=λb ⟨id,o',L,d,e_⟩=>?_,objs:=λid o A=>?_}
  ·have ⟨o,m,_⟩:=u id o' d;exact s.own b ⟨id,o,L,m,e_⟩
  have ⟨o1,W,k2,A_⟩:=s.objs id o A;have ⟨o',d⟩:=Option.isSome_iff_exists.1 (hG id (by rw[<-c_,A];rfl));have ⟨o2,m,f,_⟩:=u id o' d;rw[W]at m;cases m;refine⟨o',d,by rw[f.1];exact k2,λe=>?_⟩;have ⟨q1,z_,q3⟩:=A_ (by rw[<-f.1];exact e);exact⟨q1,by rw[f.2.1];exact z_,λhz=>by rw[g f];exact q3 hz⟩
 have ⟨m,f⟩:=f_ t v T;have ⟨c,e_,u_⟩:=he t v m;exact⟨c,e_,u_.alike o_ f⟩
theorem aDw{P}{c}{H}{x y}{r s:AV}(g:c.results=#[x,y])(f:OK P E H x r)(e:OK P E H y s):
  ∀(a:Act) (w) (I) (ι),Rel I ι H w->lJ w I ι H E a->∃v,(results c a.tmps).run P w=.ok v w/\VRel w I ι H v (.tup [r,s]):=λa w I ι d b=>by
 have ⟨v,h1,h2⟩:=f a w I ι d b;have ⟨u,h3,h4⟩:=e a w I ι d b;refine⟨.tuple #[v,u],by rw[uP,g];simp_all,.tup Z ?_⟩
 grind
end
end Go.Abs
namespace Go.Proofs.YtopnleflllkbmaaGreatDoor
open Go.Proofs.Tryz
open Go.Abs
abbrev je(l:List UInt8):Ob:=bx 1 127 [sv (a_ l)]
abbrev mZ(l:List UInt8):aF:=[(980,je l)]
abbrev QZ:AV:=.ref 980 0 0 0
abbrev H7:ao:=ms 124
theorem YN(l)(H):∀r∈(je l).rows,∀a∈r,Clo H a:=H_
instance(l)(H):W_ (H) ((je l).rows):=⟨YN l H⟩
theorem CO(l):dG (mZ l):=dG.ofL ⟨YN l _,T_⟩
def D6(f:FuncId)(xs:List AV)(K:aF)(l:List UInt8)(o:Option (AV×List UInt8)):Prop :=∀H1:aF,H1.get 980=some (je l)->Sub K H1->fS Tryz.prog f xs H1 (λr H'=>∃p,o=some p/\r=p.1/\H'=mZ p.2++H1) (λch H'=>o=none/\ch=H7/\∃q,H'=mZ q++H1)
theorem D6.of{f:FuncId}{xs:List AV}{K:aF}{l:List UInt8}{o}(y:dG (mZ l++K))(hK9:K.get 980=none)(B:∀a∈xs,Clo (mZ l++K) a)
  (h:fS Tryz.prog f xs (mZ l++K) (λr H'=>∃p,o=some p/\r=p.1/\H'=mZ p.2++K) (λi H'=>o=none/\i=H7/\∃q,H'=mZ q++K)):D6 f xs K l o:=by
 intro t s w;have g:Sub (mZ l++K) t:=λid n d=>by
  rw[gH]at d;by_cases e:980=id
  ·subst e;have:(mZ l).get 980=some (je l):=rfl;rw[this]at d;cases d;exact s
  have:(mZ l).get id=none:=by simp[aF.get,jR e]
  rw[this]at d;exact w id n d
 have u:∀q id,(aF.get (mZ q++K) id).isSome=true->((mZ l++K).get id).isSome=true:=λq id c=>by
  rw[gH]at c |-;by_cases e:980=id
  ·subst e;rfl
  have s:∀q,(mZ q).get id=none:=λq=>by simp[aF.get,jR e]
  rw[s]at c |-;exact c
 have v:∀(q:List UInt8) (j:Nat),aF.get (mZ q++t) j=aF.get ((mZ q++K)++t) j:=λq j=>by
  rw[append_assoc,gH,gH (mZ q)];cases (mZ q).get j with
  |some _=>rfl
  |none =>
   simp only;rw[gH];cases e:K.get j with
   |none=>rfl
   |some n=>exact w j n e
 refine(h.frame g y B (λr H' ⟨p,_,_,x⟩ id c=>.inl (by subst x;exact u _ id c)) (λi H' ⟨_,_,q,A⟩ id c=>.inl (by subst A;exact u _ id c))).conv ?_ ?_
 ·rintro r H' ⟨z,⟨p,m,k,rfl⟩,rfl⟩;exact⟨_,v _,p,m,k,Z⟩
 rintro i H' ⟨z,⟨m,k,q,rfl⟩,rfl⟩;exact⟨_,v _,m,k,q,Z⟩
theorem D6.yes{f}{xs}{K}{l q}{v}(h:D6 f xs K l (some (v,q))){H1}(b:H1.get 980=some (je l))(a:Sub K H1):aU Tryz.prog f xs H1 (λr H'=>r=v/\H'=mZ q++H1) :=((h _ b a).mono (λr H' ⟨p,e1,e2,e3⟩=>by grind) (λch H' ⟨e,_⟩=>by cases e)).calls (λ_ _ h=>h)
theorem D6.no{f}{xs}{K}{l}(h:D6 f xs K l none){H1}(d:H1.get 980=some (je l))(b:Sub K H1):fS Tryz.prog f xs H1 (λ_ _=>False) (λa H'=>a=H7/\∃q,H'=mZ q++H1) :=(h _ d b).mono (λr H' ⟨p,c,_⟩=>by cases c) (λa H' ⟨_,e,g⟩=>⟨e,g⟩)
theorem D6.tot{f}{xs}{K}{l}{o}(h:D6 f xs K l o){v}{q}{d}(hv:(o.getD (d,l))=(v,q)){H1}(c:H1.get 980=some (je l))(b:Sub K H1):
  fS Tryz.prog f xs H1 (λr H'=>r=v/\H'=mZ q++H1/\o.isSome=true) (λa H'=>o=none/\a=H7/\∃q,H'=mZ q++H1) :=
 (h _ c b).mono (λr H' ⟨p,e1,e2,e3⟩=>by simp_all) (λa H' h=>h)
theorem gD(H):Sub [] H:=λ_ _ h=>by cases h
def KB(l:List UInt8):Option (AV×List UInt8):=(oU l).map λp=>(sv p.1,p.2)
def ER(l:List UInt8):Option (AV×List UInt8):=(xG l).map λp=>(iv p.1,p.2)
theorem AG(l:List UInt8)(hl:l.length<1000000000):D6 98 [QZ] [] l (KB l):=by
 refine D6.of (CO l) Z m3 ?_;have hls:(a_ l).size=l.length:=bZ l;have n:=Ma l;have b:=λH=>Lu (a_ l) H X;rw[wg]at b;have i:=λH=>Z3 (a_ (B8 l)) (by rw[bZ];omega) H;have m:(a_ (DV l)).size=(DV l).length:=bZ _;have d:KA l=(((!decide ((58:UInt8)∈l)||vK (a_ (B8 l)))||decide (jP (a_ (B8 l))<0))||decide (((DV l).length:Int)<jP (a_ (B8 l)))):=rfl;have q:nxN l=(jP (a_ (B8 l))).toNat:=rfl;have D:KB l=if KA l=true then none else some (sv (a_ ((DV l).take (nxN l))),(DV l).drop (nxN l)):=by rw[KB,oU];all_goals grind
 rw[D];have ⟨x,A⟩:∃x,x=a_ (B8 l):=X_;have ⟨v,z⟩:∃v,v=jP (a_ (B8 l)):=X_;have ⟨e,E⟩:∃e,e=vK (a_ (B8 l)):=X_;have ⟨o,d_⟩:∃o,o=decide ((58:UInt8)∈l):=X_;have ⟨r,B⟩:∃r,r=DV l:=X_;simp only[<-z,<-E,<-d_,<-B]at b i d q m n |-;simp only[<-A]at b i d;clear A z E d_ B D;refine fS.body func98 Z ntmps98 (r_ Z)<|Sz aI<|O aA<|Y sE<|Y (bA vr)<|Y (bQ N_)<|Y (kc call137 (b _))<|Y aA<|Y dK<|Y dK<|Y dK<|Y aI<|Y aI<|V aI<|O aA<|Y (kc vN (i _))<|Y aA<|Y dK<|Y dK<|Y aI<|V aI<|S<|S<|aQ (t:=37) (n:=19) (A_:=KA l) ?_ ?_
 ·all_goals refine Y aA<|Y iI<|Dm ?_<;>(refine Sp 24 (λs=>?_) λs=>?_)<;>(try exact w_)<;>(first|refine M<|M ?_|refine U aA<|U (RW Z nQ Z) ?_)<;>refine Y cC<|Dm ?_<;>(refine Sp 28 (λy=>?_) λy=>?_)<;>(try exact w_)<;>(first|refine M<|M ?_|refine U aA<|U cJ ?_)<;>refine Y cC<|Dm ?_<;>(refine Sp 32 (λt=>?_) λt=>?_)<;>(try exact w_)<;>(first|refine M<|M<|M<|M ?_|refine U aA<|U aA<|U (gE U_)<|U iP ?_)<;>refine V cC ?_<;>(exact⟨⟨_,Z,G_⟩,Z,Z,Z⟩)
 refine Cn ?_ ?_<;>intro j
 ·have k:KA l=true:=j;rw[b7 k];refine gS<|iR Z Z Z (MD (fs:=#[]) (places:=#[]) (v0:=.agg []) (l0:=[]) (aps:=[]) (l:=[]) Z yW zeroValue124 (.inl Z) Z (λw=>by simp) Z Z) ?_;refine iR Z Z Z (J3 (ps:=[]) Z (dR yW Z) Z) ?_;exact qN Z Z (WF Z Z) (λch H' h=>by obtain ⟨rfl,rfl⟩:=h;exact FJ (H':=mZ l) P_ ⟨Z,Z,l,Z⟩)
 have k:KA l=false:=j;rw[a8 (by rw[k];decide)];have p:=d.symm.trans k;simp only[q8,p_]at p;obtain ⟨u,rfl⟩:∃u:Nat,v=(u:Int):=⟨v.toNat,X⟩;rw[l_]at q;rw[q];have hur:u<=r.length:=X
 have F:(a_ r).extract 0 u=a_ (r.take u):=mS (by rw[gB,cG,cG,drop_zero,Nat.sub_zero]);have G:(a_ r).extract u (a_ r).size=a_ (r.drop u):=mS (by rw[rY,cG,cG]);refine aB<|O aA<|Y aA<|Y aA<|Y (bM (l:=u) (h:=(a_ r).size) Z U_ Z Z Z X (g_ _) G)<|Y sE<|Y (bA vr)<|Uu (jA V_)<|Zz<|O aA<|Y aA<|Y (bM (l:=0) (h:=u) Z U_ Z Z Z (l7 _) X F)<|V aI<|aC ?_;refine ND ?_;refine cR (H':=(mZ (r.drop u))) (.inr Z) Z (aH Z) P_ ?_
 simp_all
theorem Vi{l}(h:58∈l):(DV l).length<l.length:=by rw[DV,q6];have:=(dropWhile_sublist (l:=l) λb=>!decide (b=58)).length_le;have:=length_pos_of_mem h;omega
theorem lF{l q}{s}(h:oU l=some (s,q)):s.size+q.length<l.length:=by
 rw[oU]at h
 split at h
 ·cases h
 next a =>
 simp[KA,q8,Bool.not_eq_false',p_,j0]at a;have hlt:=Vi a.1.1.1;cases h;rw[bZ,q9,q6];omega
theorem kH{l q}{x}(h:xG l=some (x,q)):q.length<l.length/\(-9223372036854775808<=x/\x<=9223372036854775807):=by
 rw[xG]at h;cases a:oU l with
 |none=>simp_all
 |some p =>
  have ⟨s,r⟩:=p;rw[a]at h;simp only at h
  split at h
  ·cases h
  cases h;have:=lF a;exact⟨X,XR s⟩
theorem nZ(l:List UInt8)(u:l.length<1000000000):D6 99 [QZ] [] l (ER l):=by
 refine D6.of (CO l) Z m3 ?_;have c:=AG l u;have b:=λs q=>lF (l:=l) (s:=s) (q:=q);have g:KB l=(oU l).map λp=>(sv p.1,p.2):=rfl;have n:ER l=(match oU l with
  |none=>none
  |some (s,r)=>if vK s=true then none else some (iv (jP s),r)):=by
  rw[ER,xG]
  grind
 rw[n];rw[g]at c;generalize oU l=o_ at c b |-;clear g n;refine fS.body func99 Z ntmps99 (r_ Z)<|Sz aI<|S ?_;rcases o_ with _|⟨s,q⟩
 ·have c:D6 98 [QZ] [] l none:=c;refine gS<|iR Z Z Z (gU Z Z) ?_;exact qN Z Z (eL Z Z nC Z (c.no Z (gD _))) (λt o h=>by obtain ⟨rfl,q,rfl⟩:=h;exact FJ (H':=mZ q) P_ ⟨Z,Z,q,Z⟩)
 have c:D6 98 [QZ] [] l (some (sv s,q)):=c;have b:=b s q Z;have f:=λH=>Z3 s X H;have ⟨e,k⟩:∃e,e=vK s:=X_;have ⟨v,j⟩:∃v,v=jP s:=X_;simp only[<-k,<-j]at f |-;clear k j;refine Rd aA<|Y (kc nC (c.yes Z (gD _)))<|Y (kc vN (f _))<|Y aA<|Y dK<|Y dK<|Y aI<|V aI<|S<|O aA<|V (RW Z nQ Z)<|Cn ?_ ?_<;>intro d
 ·have i:e=true:=d;rw[b7 i];refine gS<|iR Z Z Z (MD (fs:=#[]) (places:=#[]) (v0:=.agg []) (l0:=[]) (aps:=[]) (l:=[]) Z yW zeroValue124 (.inl Z) Z (λw=>by simp) Z Z) ?_;refine iR Z Z Z (J3 (ps:=[]) Z (dR yW Z) Z) ?_;exact qN Z Z (WF Z Z) (λt o h=>by obtain ⟨rfl,rfl⟩:=h;exact FJ (H':=mZ q) P_ ⟨Z,Z,q,Z⟩)
 have i:e=false:=d;rw[a8 F_];refine aB<|O aA<|V aI<|aC ?_;refine ND ?_;refine cR (H':=(mZ q)) (.inr Z) Z (aH Z) P_ ?_
 simp_all
end Go.Proofs.YtopnleflllkbmaaGreatDoor
