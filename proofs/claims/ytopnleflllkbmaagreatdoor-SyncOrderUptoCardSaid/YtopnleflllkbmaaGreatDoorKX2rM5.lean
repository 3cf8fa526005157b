/-
  Parts of the proof. Conditions: each theorem's own.
-/
import Derived.Test.YtopnleflllkbmaaGreatDoorKX2rM4
import Derived.RecoverIn
set_option linter.unusedVariables false
set_option linter.unusedSimpArgs false
set_option maxRecDepth 100000
set_option maxHeartbeats 8000000
namespace Go.Proofs
open Tryz
theorem aE0:type_of% call105:=call105
theorem fS:type_of% call113:=call113
theorem aEW:type_of% call137:=call137
theorem vN:type_of% call138:=call138
theorem rI:type_of% call146:=call146
theorem aEU:type_of% call167:=call167
theorem aET:type_of% call168:=call168
theorem aES:type_of% call170:=call170
theorem Bk:type_of% call214:=call214
theorem aEO:type_of% call224:=call224
theorem Ns:type_of% call55:=call55
theorem nF:type_of% call98:=call98
theorem aEL:type_of% func202:=func202
theorem pG:type_of% isAgg174:=isAgg174
theorem oT:type_of% isAgg46:=isAgg46
theorem Bb:type_of% isAgg51:=isAgg51
theorem cF:type_of% isAgg53:=isAgg53
theorem aDH:type_of% ntmps202:=ntmps202
theorem aY:type_of% sizeOf53:=sizeOf53
theorem yO:type_of% underlying124:=underlying124
theorem nT:type_of% underlying163:=underlying163
theorem As:type_of% zeroValue124:=zeroValue124
end Go.Proofs
namespace Go.Proofs.YtopnleflllkbmaaGreatDoor
open Go.Proofs.Tryz
open Go.Abs
theorem aAQ(g)(l)(u):aS Tryz.prog 208 [.ref 2001 0 0 0] (yH g l u) (fun r H'=>r=iv (l.length)/\H'=yH g l u):=by refine Bd func208 Z ntmps208<|Sz U<|C V<|Y sC<|Y (bD iE)<|Y (bS eA)<|Y (by exact dT Z dB Z Z Z)<|O U<|aC ?_;refine cR (.inr Z) Z (aJ Z) Fin.refl Qq
abbrev Ln(l:List UInt8)(g:Nat)(u:Bool):Ob:=DU (.osl 2002 g 0 l.length) u
abbrev Lm(l:List UInt8)(g:Nat):Ob:=⟨g,1,5,fK l⟩
theorem aC9{g c}{l b}{u u'}{id}(h:(aF.get (yH g l u) id).isSome=true):(aF.get (yH c b u') id).isSome=true:=tv h
theorem aC8{g}{l}{u u':Bool}{id}(h:(aF.get (Aj g l u) id).isSome=true):(aF.get (yH g l u) id).isSome=true:=by
 simp[Aj,yH,aF.get]at h |-
 grind
theorem aBT{H}{g}{l}{u}(s)(b:H.get 2001=some (Ln l g u))(a:H.get 2002=some (Lm l g))(c:l.length+s.size<70368744177664):aS Tryz.prog 132 [.ref 2001 0 0 0,sv s] H (fun r H'=>r=.tup [iv (s.size),.pv MJ]/\H'=yH (g+1) (l++s.data.toList) true++H) :=aS.frame (jA g l u s c) (Sub.of2 b a) (dD.ofL ⟨(gD Z Z),(eJ _ _),T_⟩) (by simp;rfl) (fun id h=>.inl (aC9 h))
theorem aAP{H}{g}{l}{u}(a:H.get 2001=some (Ln l g u))(b:H.get 2002=some (Lm l g)):RC 208 [.ref 2001 0 0 0] (iv (l.length)) H :=aS.frameS (aAQ g l u) (Sub.of2 a b) (dD.ofL ⟨(gD Z Z),(eJ _ _),T_⟩) (by simp;rfl)
theorem Ya{H}{g}{l}{u}(b:H.get 2001=some (Ln l g u))(a:H.get 2002=some (Lm l g))(c:l.length<70368744177664):aS Tryz.prog 133 [.ref 2001 0 0 0] H (fun r H'=>r=sv ⟨l.toArray⟩/\H'=Aj g l u++H) :=aS.frame (P7 g l u c) (Sub.of2 b a) (dD.ofL ⟨(gD Z Z),(eJ _ _),T_⟩) (by simp;rfl) (fun id h=>.inl (aC8 (u':=u) h))
def uK:Nat->Bool
 |0=>false
 |_+1=>true
def pS(l:List b8)(k:Nat):List UInt8:=(l.take k).flatMap fun e=>fG e++[10]
theorem XI{l}{k}{e}(h:l[k]?=some e):pS l (k+1)=pS l k++(fG e++[10]):=by rw[pS,List.take_add_one,h];simp[pS]
theorem WA{e:b8}(r:fT e=true):(fG e).length<=100000:=by
 obtain ⟨⟨o1,o2⟩,o,o4⟩:=uB.1 r;rw[wI]at o;have hval:=IE r;by_cases q:e.op=1
 ·rw[fG,b6 q,j9,j8,aT];have:=MG (o:=e.obj);show 3+_<=_;omega
 rw[a8 q,j0]at o;obtain ⟨t,c⟩:=o;have hid:=dG t;have d:∀k:List B_,bs k=gG e->k.length+cX k<=100000->(fG e).length<=100000:=fun k h g=>by
  rw[fG,a8 q,<-h];exact Nat.le_trans (fP k) g
 by_cases g:e.op=2
 ·rw[b6 g,mf,j0,k_,k_]at c;have Yf:(aQ e.x).size<=7:=by rw[<-aT];show (Lib.itoa e.x).length<=7;rw[jU _ X];exact cU X E_
  have siy:(aQ e.y).size<=7:=by rw[<-aT];show (Lib.itoa e.y).length<=7;rw[jU _ X];exact cU X E_
  have f:(⟨#[109,111,118,101]⟩:B_).size=4:=rfl;exact d [⟨#[109,111,118,101]⟩,e.id,aQ e.x,aQ e.y] (by rw[gG,b6 g];rfl) (by simp only[cI,j8,List.length_nil,show cX []=0 from rfl];omega)
 rw[a8 g]at c;by_cases i:e.op=3
 ·rw[b6 i,j0]at c;have hks:=dG c.1;have hq:=qZ e.val;have f:(⟨#[116,97,103]⟩:B_).size=3:=rfl;exact d [⟨#[116,97,103]⟩,e.id,e.key,⟨(cW e.val.data.toList).toArray⟩] (by rw[gG,a8 g,b6 i];rfl) (by simp only[cI,j8,List.length_nil,show cX []=0 from rfl];omega)
 rw[a8 i]at c;by_cases j:e.op=4
 ·rw[b6 j,j0,j0,k_,k_,List.all_eq_true]at c;obtain ⟨⟨r1,r2⟩,v⟩:=c;have hrs:cX e.refs<=24*e.refs.length:=oY (fun s u=>dG (v s u));have f:(⟨#[114,101,102,115]⟩:B_).size=4:=rfl;exact d (⟨#[114,101,102,115]⟩::e.id::e.refs) (by rw[gG,a8 g,a8 i,b6 j];rfl) (by simp only[cI,j8];omega)
 rw[a8 j]at c;by_cases m:e.op=5
 ·have f:(⟨#[100,114,111,112]⟩:B_).size=4:=rfl;exact d [⟨#[100,114,111,112]⟩,e.id] (by rw[gG,a8 g,a8 i,a8 j,b6 m];rfl) (by simp only[cI,j8,List.length_nil,show cX []=0 from rfl];omega)
 rw[a8 m]at c;by_cases l:e.op=6
 ·rw[b6 l,j0]at c;have hns:=dG c.1;have n:=dG c.2;have f:(⟨#[115,112,108,105,116]⟩:B_).size=5:=rfl;exact d [⟨#[115,112,108,105,116]⟩,e.id,e.node,e.other] (by rw[gG,a8 g,a8 i,a8 j,a8 m,b6 l];rfl) (by simp only[cI,j8,List.length_nil,show cX []=0 from rfl];omega)
 rw[a8 l]at c;have n:=dG c;have f:(⟨#[106,111,105,110]⟩:B_).size=4:=rfl;exact d [⟨#[106,111,105,110]⟩,e.id,e.other] (by rw[gG,a8 g,a8 i,a8 j,a8 m,a8 l];rfl) (by simp only[cI,j8,List.length_nil,show cX []=0 from rfl];omega)
theorem qq(l:List b8)(H:aF)(A:l.length<2^62)(y:∀e∈l,UB e):RC 145 [.pv (jZ l)] (.tup [sv (dW l).1,iv (dW l).2]) H:=by
 refine Pu ?_;have hml:(l.map bL).length=l.length:=h_ _;refine Bd func145 Z ntmps145<|C U<|O U<|S<|C V<|Y (kc call206 (UK l _ A y))<|O iT<|Cn ?_ ?_<;>intro m
 ·have s:lD l=false:=by have h:=m;rwa [r8]at h
  rw[show dW l=(a6,1)by rw[dW,s];rfl];exact C U<|O U<|aC<|Ru<|Qq
 have s:lD l=true:=by have h:=m;rwa [Bool.not_eq_false']at h
 have x:=(IF s).2;have z:dW l=(b7 (rJ [] l).1,(rJ [] l).2):=by rw[dW,b6 s]
 refine aA<|Sz (kl 2001 HG)<|S<|S ?_;refine fZ.ent (E':=[(0,.pv (jZ l)),(4,.ref 2001 0 0 0)]) (H':=[(2002,⟨0,1,5,[]⟩),(2001,DU (.osl 2002 0 0 0) false)]) (Q_ 2002 1 5) ?_;refine Rd V<|Y (fV eS)<|O V<|aD<|bC (σ:=Nat) (fun k=>([(4,.ref 2001 0 0 0),(12,.pv (jZ l)),(13,iv ((l.map bL).length:Int)),(14,iv (k:Int))],[(2001,Ln (pS l k) k (uK k)),(2002,Lm (pS l k) k)])) (fun k=>k<=l.length/\rJ [] l=rJ (pS l k) (l.drop k)/\(pS l k).length<=20000) (fun k=>l.length - k) 0 ⟨l6 _,Z,l6 _⟩ ?_ ?_
 ·exact(cJ.wk (Ea<|Eb<|Eb<|Eb<|T_) (Hc (gD Z Z)<|Hc (eJ _ _)<|T_) T_)
 rintro k ⟨hk,f,hA⟩;refine Sz cM<|S<|Cn ?_ ?_<;>intro n
 ·have g:k<l.length:=I_ n
  obtain ⟨e,j⟩:=aU g;have hi:=cC (f:=bL) j;have i:=m7 j;have c:=XI j;have hYl:=WA (x e i);have w:l.drop k=e::l.drop (k+1):=by
   rw[List.drop_eq_getElem_cons g]
   simp_all
  rw[w,rJ]at f;have hsz:(b7 (fG e++[10])).size=(fG e).length+1:=by rw[cB,j9];rfl
  have t:yH (k+1) (pS l k++(b7 (fG e++[10])).data.toList) true=yH (k+1) (pS l (k+1)) true:=by rw[cO,c]
  have hnl:(pS l (k+1)).length=(pS l k).length+((fG e).length+1):=F_
  have D:∀H,H.get 2001=some (Ln (pS l k) k (uK k))->H.get 2002=some (Lm (pS l k) k)->aS Tryz.prog 132 [.ref 2001 0 0 0,sv (b7 (fG e++[10]))] H (fun r H'=>r=.tup [iv ((b7 (fG e++[10])).size:Int),.pv MJ]/\H'=yH (k+1) (pS l (k+1)) true++H):=fun H B d_=>by
   have:=aBT (H:=H) (b7 (fG e++[10])) B d_ X
   rwa [t]at this
  refine aA<|S<|aD<|C (iM ay)<|Y (eU Z cT aZ Z X Z Z)<|Y (kl 6 UM)<|Uu (iU aZ)<|Zz<|C (vC cT aZ)<|Y (kc call207 (aAL e _ (y e i) (x e i)))<|Y V<|Y dH<|Y dH<|Y U<|O U<|C V<|O (kc nB (D _ Z Z))<|S<|aR (t:=30) (n:=7) (A_:=!decide (fL e=0)||decide ((20000:Int)<((pS l (k+1)).length:Int))) ?_ ?_
  ·all_goals refine Y V<|Y AY<|Dm ?_<;>(refine Sp 27 (fun u=>?_) fun u=>?_)<;>(first|contradiction|refine M<|M ?_|refine J (kc AT (aAP (l:=pS l (k+1)) (g:=k+1) (u:=true) Z Z))<|J iY ?_)<;>refine O cE ?_<;>exact Gj (h:=by simp_all)
  refine Cn ?_ ?_<;>intro p
  ·have q:fL e≠0\/20000<(pS l k++(fG e++[10])).length:=by have h:=p;rw[<-c];simp only[Bool.or_eq_true,r8,p_,k_]at h;omega
   rw[b6 q]at f;rw[z,f];exact C U<|O U<|aC<|Ru<|Qq
  have d:¬ (fL e≠0\/20000<(pS l k++(fG e++[10])).length):=by have h:=p;rw[<-c];simp only[q9,Bool.not_eq_false',p_,k_]at h;omega
  rw[a8 d,<-c]at f;rw[<-c]at d;refine aA<|Rd gT<|O V ?_;exact⟨k+1,⟨g,f,X⟩,X,(cJ.wk (Ea<|Eb<|Eb<|Eb<|T_) (Hc (gD Z Z)<|Hc (eJ _ _)<|T_) T_)⟩
 have v:k=l.length:=J_ n
 subst v;rw[List.drop_length,rJ]at f;rw[z,f];exact aP<|C (kc nA (Ya (l:=pS l l.length) (g:=l.length) (u:=uK l.length) Z Z X))<|Y U<|O U<|aC<|Ru<|Qq
theorem cn(s):(pY s).data.toList=(aQ (s.size)).data.toList++[58]++s.data.toList:=rfl
theorem WF(l:List B_)(H:aF)(hl:(aM l).length<35184372088832):RC 108 [.pv (aK l)] (sv ⟨(aM l).toArray⟩) H:=by
 refine Pu ?_;have hml:(l.map S_).length=l.length:=h_ _;have hll:=zJ l;refine Bd func108 Z ntmps108<|Sz U<|Sz (kl 2001 HG)<|S<|S ?_;refine fZ.ent (E':=[(0,.pv (aK l)),(3,.ref 2001 0 0 0)]) (H':=yH 0 [] false) (cJ.bld0 ⟨⟨_,Z,.same H_⟩,⟨_,Z,.same (by simp;rfl)⟩,T_⟩) ?_;refine Rd V<|Y (fV underlying131)<|O V<|aD<|BX (fun(k g:Nat) (u:Bool)=>([(3,.ref 2001 0 0 0),(6,.pv (aK l)),(7,iv ((l.map S_).length:Int)),(8,iv (k:Int))],yH g (aM (l.take k)) u)) (fun k g u=>k<=l.length) (fun k g u=>l.length - k) 0 0 false (l6 _) ?_ ?_
 ·exact(cJ.wk (Ea<|Eb<|Eb<|Eb<|T_) (Hc (gD Z Z)<|Hc (eJ _ _)<|T_) T_)
 intro k g u hk;have hle:=uA l k;refine Sz cM<|S<|Cn ?_ ?_<;>intro e
 ·have m:k<l.length:=I_ e
  obtain ⟨s,j⟩:=aU m;have n:=cC (f:=S_) j;have d:=uA l (k+1);rw[fN j,pK,j9,oZ,nJ]at d;have hsz:s.size<35184372088832:=X
  have h:aM (l.take (k+1))=aM (l.take k)++(aQ (s.size:Int)).data.toList++[58]++s.data.toList:=by
   rw[fN j,pK,cn,List.append_assoc,List.append_assoc,List.append_assoc]
  have hl1:(aM (l.take k)++(aQ (s.size:Int)).data.toList).length=(aM (l.take k)).length+(aQ (s.size:Int)).size:=F_
  have hl2:(aM (l.take k)++(aQ (s.size:Int)).data.toList++[58]).length=(aM (l.take k)).length+(aQ (s.size:Int)).size+1:=G_
  refine aA<|S<|aD<|C (bU Z QJ Z Z X (by rfl) n Z)<|Y (fY N_ (hi:=n))<|O U<|C V<|Y (gM U_)<|Y (kc lM (pL (s.size:Int) X X _))<|O (kc nB (jA g (aM (l.take k)) u (aQ (s.size:Int)) X))<|Sz (kc mZ (kK (g+1) (aM (l.take k)++(aQ (s.size:Int)).data.toList) true 58 X))<|Rd V<|O (kc nB (jA (g+1+1) (aM (l.take k)++(aQ (s.size:Int)).data.toList++[58]) true s X))<|Rd kp<|O V ?_;refine⟨k+1,g+1+1+1,true,X,X,?_⟩;rw[h];exact(cJ.wk (Ea<|Eb<|Eb<|Eb<|T_) (Hc (gD Z Z)<|Hc (eJ _ _)<|T_) T_)
 have i:k=l.length:=J_ e
 subst i;rw[List.take_length];exact aP<|C (kc nA (P7 g (aM l) u X))<|O U<|aC<|Rt<|Qq
def jT(l:List b8):B_×Bool:=if l.length=0 then(a6,true)else((dW l).1,decide ((dW l).2=0))
theorem qp(l)(H)(hl:l.length<2^40)(f:∀e∈l,UB e):RC 156 [.pv (jZ l)] (.tup [sv (jT l).1,bv (jT l).2]) H:=by
 refine Pu ?_;have hml:(l.map bL).length=l.length:=h_ _;have c:=fun H=>qq l H X f;have i:l.length=0->jT l=(a6,true):=fun h=>by rw[jT,b6 h]
 have g:l.length≠0->jT l=((dW l).1,decide _):=fun h=>by rw[jT,a8 h]
 obtain ⟨T,hT⟩:∃T,T=dW l:=X_;refine Bd func156 Z ntmps156<|C U<|O U<|S<|C V<|Y (fV eS)<|O cD<|Cn ?_ ?_<;>intro b
 ·have d:l.length=0:=I_ b
  rw[i d];exact C U<|O U<|aC<|Ru<|Qq
 have d:l.length≠0:=J_ b
 rw[g d];exact aA<|C V<|Y (bF Z Z call145 Z (c _))<|Y V<|Y dH<|Y dH<|Y U<|O U<|C V<|Y V<|Y cD<|Y U<|O U<|aC<|Ru<|Qq
def GK:B_:=⟨#[114,101,99,111,114,100]⟩
def MA(r:j7)(T:B_):List IV:=[.t GK,.n r.kind,.n r.author,.n r.number,.n r.clock,.t r.branch,.l r.parents,.t T,.t r.target,.b r.yes,.n r.order,.t r.from']
def mI(r:j7):Prop:=(qA r.kind/\qA r.author/\qA r.number/\qA r.clock/\qA r.order)/\(r.branch.size<2^40/\r.target.size<2^40/\r.from'.size<2^40)/\df r.parents/\(r.edits.length<2^40/\∀e∈r.edits,UB e)/\xQ r.sl/\mg r.priv
theorem Rh{r}(h:mI r)(T):∀v∈MA r T,okI v:=by
 obtain ⟨⟨f,c,g,b,e⟩,_,d,_⟩:=h;intro v a;simp[MA,l7,n_,or_false]at a;rcases a with rfl|rfl|rfl|rfl|rfl|rfl|rfl|rfl|rfl|rfl|rfl|rfl
 ·exact T_
 ·exact f
 ·exact c
 ·exact g
 ·exact b
 ·exact T_
 ·exact d.1
 ·exact T_
 ·exact T_
 ·exact T_
 ·exact e
 exact T_
theorem cf{r}(T):(yR (MA r T)).length=r.parents.length+12:=by simp[MA,yR,fI]
def uV(r:j7):List B_:=yR (MA r (jT r.edits).1)
def kr(r:j7):Nat:=ur (MA r (jT r.edits).1)
theorem VI(r:j7)(f:mI r)(hp:r.parents.length<549755813888):aS Tryz.prog 107 [av (dR r)] [] (fun x H'=>x=.osl 971 (kr r) 0 (uV r).length/\H'=[(971,⟨kr r,1,9,bZ (uV r)⟩)]):=by
 have d:=fun H=>qp r.edits H f.2.2.2.1.1 f.2.2.2.1.2;rw[uV,kr];obtain ⟨T,g⟩:∃T,T=(jT r.edits).1:=X_;obtain ⟨b,h⟩:∃b,b=(jT r.edits).2:=X_;rw[<-g,<-h]at d;rw[<-g];have hlen:=cf (r:=r) T;have c:=pj (MA r T) (Rh f T) 0 [] (show 12<2^40 by decide) G_;rw[r7,List.nil_append]at c;refine Bd func107 Z ntmps107<|C (kb 1)<|O U<|Sz (kl 970 Xf)<|C (bD C0)<|Y (bS oT)<|Y (kc call156 (d _))<|Y V<|Y dH<|Y dH<|Y U<|O U<|S ?_;refine fZ.ent (E':=[(1,.ref 1 0 0 0),(3,.ref 970 0 0 0),(4,sv T)]) (H':=(971,⟨0,1,9,[]⟩)::(970,bx 1 131 [.osl 971 0 0 0])::(1,bx 21 53 ((dR r).map .pv))::[]) ?_ ?_
 ·exact (Q_ 971 1 9)
 refine Rd (gA (p:=.str GK) Z (dS U_ Z) Z)<|Y (bD oJ)<|Y (bS M_)<|Y (gA (p:=.int .i64 r.kind) Z (dS underlying3 Z) Z)<|Y (bD EZ)<|Y (bS M_)<|Y (gA (p:=.int .i64 r.author) Z (dS underlying3 Z) Z)<|Y (bD AH)<|Y (bS M_)<|Y (gA (p:=.int .i64 r.number) Z (dS underlying3 Z) Z)<|Y (bD EY)<|Y (bS M_)<|Y (gA (p:=.int .i64 r.clock) Z (dS underlying3 Z) Z)<|Y (bD C1)<|Y (bS N_)<|Y (gA (p:=.str r.branch) Z (dS U_ Z) Z)<|Y (bD oI)<|Y (bS aH)<|Y (gA (p:=aK r.parents) Z (dS aE Z) Z)<|Y V<|Y (gA (p:=.str T) Z (dS U_ Z) Z)<|Y (bD CZ)<|Y (bS N_)<|Y (gA (p:=.str r.target) Z (dS U_ Z) Z)<|Y (bD IH)<|Y (bS nD)<|Y (gA (p:=.bool r.yes) Z (dS eZ Z) Z)<|Y (bD yC)<|Y (bS M_)<|Y (gA (p:=.int .i64 r.order) Z (dS underlying3 Z) Z)<|Y (bD wR)<|Y (bS N_)<|Y (gA (p:=.str r.from') Z (dS U_ Z) Z)<|Y (aL ((MA r T).map AI) Z yZ Z Z Z Z Z (SW (MA r T)))<|O (kc vO (gu c ⟨Z,Z,T_⟩ (by simp;rfl)))<|C (bS DP)<|O U<|aC ?_;refine cR (H':=[(971,⟨ur (MA r T),1,9,bZ (yR (MA r T))⟩)]) (.inr Z) Z (aJ Z) P_ ?_;exact Qq
end Go.Proofs.YtopnleflllkbmaaGreatDoor
section
namespace Go.Proofs
open Go.RowKit Go.Sort Go.Shelf
def aEy:Go.Shelf.Ren:=⟨fun|172=>138|244=>195|245=>196|247=>245|279=>246|280=>247|281=>248|282=>249|287=>276|316=>277|171=>79|205=>278|321=>301|322=>302|243=>134|246=>192|283=>240|284=>241|285=>242|286=>243|129=>190|317=>271|318=>272|319=>273|320=>274|337=>298|338=>299|n=>n,fun|9=>9|3=>3|75=>163|76=>164|4=>4|5=>5|167=>254|37=>159|0=>0|85=>255|2=>2|168=>257|53=>169|175=>289|46=>157|210=>292|127=>215|145=>311|143=>309|21=>21|171=>249|173=>251|212=>286|51=>213|20=>20|213=>287|232=>317|233=>318|80=>100|n=>n,fun|15=>4|16=>5|17=>2|18=>6|19=>7|n=>n⟩
theorem aFE:Go.Proofs.LaysC.n172 Tryz.prog aEy:={
  mixed:=by rfl
  f129:=Tryz.func190.trans C_
  f171:=Tryz.func79.trans C_
  f172:=Tryz.func138.trans C_
  f205:=Tryz.func278.trans C_
  f243:=Tryz.func134.trans C_
  f244:=Tryz.func195.trans C_
  f245:=Tryz.func196.trans C_
  f246:=Tryz.func192.trans C_
  f247:=Tryz.func245.trans C_
  f279:=Tryz.func246.trans C_
  f280:=Tryz.func247.trans C_
  f281:=Tryz.func248.trans C_
  f282:=Tryz.func249.trans C_
  f283:=Tryz.func240.trans C_
  f284:=Tryz.func241.trans C_
  f285:=Tryz.func242.trans C_
  f286:=Tryz.func243.trans C_
  f287:=Tryz.func276.trans C_
  f316:=Tryz.func277.trans C_
  f317:=Tryz.func271.trans C_
  f318:=Tryz.func272.trans C_
  f319:=Tryz.func273.trans C_
  f320:=Tryz.func274.trans C_
  f321:=Tryz.func301.trans C_
  f322:=Tryz.func302.trans C_
  f337:=Tryz.func298.trans C_
  f338:=Tryz.func299.trans C_
  t0:=DI
  a0:=ZQ
  z0:=TI
  v0:=FE
  t2:=Tryz.underlying2
  a2:=Tryz.isAgg2
  z2:=Tryz.sizeOf2
  v2:=Tryz.zeroValue2
  t3:=Tryz.underlying3
  a3:=Tryz.isAgg3
  z3:=Tryz.sizeOf3
  v3:=sE
  t4:=eZ
  a4:=nD
  z4:=Tryz.sizeOf4
  v4:=iS
  t5:=dM
  a5:=uI
  z5:=cK
  v5:=sD
  t9:=Tryz.underlying9
  a9:=Tryz.isAgg9
  z9:=Tryz.sizeOf9
  v9:=gK
  t20:=LD
  a20:=vM
  z20:=aDF
  v20:=Mu
  t21:=Az
  a21:=Tryz.isAgg21
  z21:=Tryz.sizeOf21
  v21:=Tryz.zeroValue21
  t37:=dB
  a37:=eA
  z37:=qC
  v37:=Tryz.zeroValue159
  t46:=kW
  a46:=DO
  z46:=AP
  v46:=tE
  t51:=IU
  a51:=iz
  z51:=ZO
  v51:=LB
  t53:=gF
  a53:=wY
  z53:=uH
  v53:=tD
  t75:=nT
  a75:=Tryz.isAgg163
  z75:=Tryz.sizeOf163
  v75:=Tryz.zeroValue163
  t76:=Tryz.underlying164
  a76:=Tryz.isAgg164
  z76:=Tryz.sizeOf164
  v76:=Tryz.zeroValue164
  t85:=Tryz.underlying255
  a85:=Tryz.isAgg255
  z85:=Tryz.sizeOf255
  v85:=Tryz.zeroValue255
  t127:=yM
  a127:=Tryz.isAgg215
  z127:=Tryz.sizeOf215
  v127:=Tryz.zeroValue215
  t143:=Tryz.underlying309
  a143:=Tryz.isAgg309
  z143:=Tryz.sizeOf309
  v143:=Tryz.zeroValue309
  t145:=Tryz.underlying311
  a145:=Tryz.isAgg311
  z145:=Tryz.sizeOf311
  v145:=Tryz.zeroValue311
  t167:=Tryz.underlying254
  a167:=Tryz.isAgg254
  z167:=Tryz.sizeOf254
  v167:=Tryz.zeroValue254
  t168:=Tryz.underlying257
  a168:=Tryz.isAgg257
  z168:=Tryz.sizeOf257
  v168:=Tryz.zeroValue257
  t171:=Tryz.underlying249
  a171:=Tryz.isAgg249
  z171:=Tryz.sizeOf249
  v171:=Tryz.zeroValue249
  t173:=Tryz.underlying251
  a173:=Tryz.isAgg251
  z173:=Tryz.sizeOf251
  v173:=Tryz.zeroValue251
  t175:=Tryz.underlying289
  a175:=Tryz.isAgg289
  z175:=Tryz.sizeOf289
  v175:=Tryz.zeroValue289
  t210:=Tryz.underlying292
  a210:=Tryz.isAgg292
  z210:=Tryz.sizeOf292
  v210:=Tryz.zeroValue292
  t212:=Tryz.underlying286
  a212:=Tryz.isAgg286
  z212:=Tryz.sizeOf286
  v212:=Tryz.zeroValue286
  t213:=Tryz.underlying287
  a213:=Tryz.isAgg287
  z213:=Tryz.sizeOf287
  t232:=Tryz.underlying317
  a232:=Tryz.isAgg317
  z232:=Tryz.sizeOf317
  v232:=Tryz.zeroValue317
  t233:=Tryz.underlying318
  a233:=Tryz.isAgg318
  z233:=Tryz.sizeOf318
  v233:=Tryz.zeroValue318
  g15:=by kernel_rfl
  g16:=by kernel_rfl
  g17:=by kernel_rfl
  g18:=by kernel_rfl
  g19:=by kernel_rfl
  t80:=Tryz.underlying100
  a80:=Tryz.isAgg100
  z80:=Tryz.sizeOf100
  v80:=Tryz.zeroValue100
  i0:=by rfl
  i2:=by rfl
  i3:=by rfl
  i4:=by rfl
  i5:=by rfl
  i9:=by rfl
  i20:=by rfl
  i21:=by rfl
  i37:=by rfl
  i46:=by rfl
  i51:=by rfl
  i53:=by rfl
  i75:=by rfl
  i76:=by rfl
  i80:=by rfl
  i85:=by rfl
  i127:=by rfl
  i143:=by rfl
  i145:=by kernel_rfl
  i167:=by kernel_rfl
  i168:=by kernel_rfl
  i171:=by kernel_rfl
  i173:=by kernel_rfl
  i175:=by kernel_rfl
  i210:=by kernel_rfl
  i212:=by kernel_rfl
  i232:=by kernel_rfl
  i233:=by kernel_rfl
  m15:=by kernel_rfl
  m16:=by kernel_rfl
  m17:=by kernel_rfl
  m18:=by kernel_rfl
  m19:=by kernel_rfl
  c0:=by kernel_rfl
  c2:=by kernel_rfl
  c3:=by kernel_rfl
  c4:=by kernel_rfl
  c5:=by kernel_rfl
  c9:=by kernel_rfl
  c20:=by kernel_rfl
  c21:=by kernel_rfl
  c37:=by kernel_rfl
  c46:=by kernel_rfl
  c51:=by kernel_rfl
  c53:=by kernel_rfl
  c75:=by kernel_rfl
  c76:=by kernel_rfl
  c80:=by kernel_rfl
  c85:=by kernel_rfl
  c127:=by kernel_rfl
  c143:=by kernel_rfl
  c145:=by kernel_rfl
  c167:=by kernel_rfl
  c168:=by kernel_rfl
  c171:=by kernel_rfl
  c173:=by kernel_rfl
  c175:=by kernel_rfl
  c210:=by kernel_rfl
  c212:=by kernel_rfl
  c213:=by kernel_rfl
  c232:=by kernel_rfl
  c233:=by kernel_rfl}
end Go.Proofs
namespace Go.Proofs.YtopnleflllkbmaaGreatDoor
open Go.Proofs.Tryz
open Go.Abs
theorem PH(s)(b:s.size<2^40)(H):RC 138 [sv s] (.tup [iv (pV s).1,.pv (pV s).2]) H :=Go.Abs.atoi_c aFE (G1:=4) (G2:=5) (by unfold eu;simp_all) (Z) (by unfold eu;simp_all) (Z) s b H
end Go.Proofs.YtopnleflllkbmaaGreatDoor
end
namespace Go.Proofs.YtopnleflllkbmaaGreatDoor
open Go.Proofs.Tryz
open Go.Abs
theorem di(s:B_)(H:aF)(d:s.size<2^40):RC 202 [sv s] (iv (UC s.data.toList)) H:=by
 refine Pu ?_;have c:=PH s d;unfold pV at c;unfold UC;cases h:Lib.atoiAll s.data.toList with
 |ok v =>
  simp only[h]at c;refine Bd aEL Z aDH<|Sz U<|C V<|Y (kc vN (c _))<|Y V<|Y dH<|Y dH<|Y U<|O U<|S<|C V<|O (RQ Z nT Z)<|Cn ?_ ?_<;>intro b
  ·cases b
  exact aA<|C V<|O U<|aC<|Rt<|Qq
 |range =>
  simp only[h]at c;refine Bd aEL Z aDH<|Sz U<|C V<|Y (kc vN (c _))<|Y V<|Y dH<|Y dH<|Y U<|O U<|S<|C V<|O (HU Z nT Z)<|Cn ?_ ?_<;>intro b
  ·exact Sz U<|aC<|Rt<|Qq
  cases b
 |_ =>
  simp only[h]at c;refine Bd aEL Z aDH<|Sz U<|C V<|Y (kc vN (c _))<|Y V<|Y dH<|Y dH<|Y U<|O U<|S<|C V<|O (HU Z nT Z)<|Cn ?_ ?_<;>intro b
  ·exact Sz U<|aC<|Rt<|Qq
  cases b
end Go.Proofs.YtopnleflllkbmaaGreatDoor
section
namespace Go.Abs
section
variable{P:Program}{N:Nat}{o:Oper}{E:cY}{H:aF}{t t':TypeId}{x:Operand}
abbrev aA7(b:Bool):PV:=bif b then zq else MJ
theorem RR{b}(a:o.op=.binOp .neq t x (.const .nilIface) t')(d:P.underlying t=some (.interface (P.methodsAt t)))(c:aO E x=some (.pv (aA7 b))):cL P N o E H (.pv (.bool b)) H:=by
 cases b
 ·exact RQ a d c
 exact HU a d c
end
def kN(s:B_):Int:=(pV s).1
def vK(s:B_):Bool:=match Lib.atoiAll s.data.toList with
 |.ok _=>false
 |_=>true
theorem Mf(s):pV s=(kN s,aA7 (vK s)):=by rw[kN,vK,pV];all_goals grind
open Go.Lib
theorem An{l}{u}(hne:l≠[])(hm:∀b∈l,48<=b.toNat/\b.toNat<=57)(hd:decFrom 0 l=some u):atoi l=some (u:Int):=by
 cases l with
 |nil=>simp_all
 |cons b r =>
  have d:decNat (b::r)=some u:=by rw[decNat,hd];rfl
  have a:¬ (b == 43)=true:=fun h=>by simp_all
  have c:¬ (b == 45)=true:=fun h=>by simp_all
  rw[atoi,a8 c,a8 a,d];rfl
theorem ZK{l}{u}(d:l.length<=18)(a:l≠[])(c:∀b∈l,48<=b.toNat/\b.toNat<=57)(hd:decFrom 0 l=some u):atoiAll l=.ok u:=by rw[atoiAll_short _ d,An a c hd];rfl
end Go.Abs
namespace Go.Proofs.YtopnleflllkbmaaGreatDoor
open Go.Proofs.Tryz
open Go.Abs Go.Lib
theorem ZJ(s)(a:s.size<2^40)(H):RC 138 [sv s] (.tup [iv (kN s),.pv (aA7 (vK s))]) H:=by
 have:=PH s a H
 rwa [Mf]at this
abbrev sCo:B_:=⟨#[58]⟩
theorem ju(s)(H:aF):RC 244 [sv s,sv sCo] (iv (Lib.indexByte s.data.toList 58)) H:=by
 refine Pu<|Bd func244 Z ntmps244<|Sz U<|C V<|Y (gM U_)<|O U<|S<|aD<|S<|aR (t:=16) (n:=9) (A_:=decide (sCo=s)) ?_ ?_
 ·all_goals refine Y V<|Y cD<|Dm ?_<;>(refine Sp 19 (fun c=>?_) fun c=>?_)<;>(try contradiction)<;>refine J V<|J V<|J wF<|Y cE<|Da ?_<;>exact Gj (h:=by rfl)
 refine Cn ?_ ?_<;>intro d
 ·have e:=b9 d;subst e;exact Sz U<|aC<|Rt<|Qq
 refine C V<|Y cD<|Da<|Cn ?_ ?_<;>intro b
 ·exact C V<|Y V<|Y (cV Z U_ Z Z X (by rfl) (show 0<(⟨#[58]⟩:B_).size from Nat.zero_lt_one) Z)<|Y (kc aEN (zW s 58 _))<|O U<|aC<|Rt<|Qq
 cases b
def oj(s:B_):AV:=if Lib.indexByte s.data.toList 58 = -1 then .tup [sv s,sv ⟨#[]⟩,bv false]else .tup [sv (s.extract 0 (Lib.indexByte s.data.toList 58).toNat),sv (s.extract ((Lib.indexByte s.data.toList 58).toNat+1) s.size),bv true]
theorem Em(s:B_)(H:aF)(hs:s.size<2^40):RC 194 [sv s,sv sCo] (oj s) H:=by
 refine Pu ?_;have d:=fun H=>ju s H;rw[oj];rcases Classical.em (Lib.indexByte s.data.toList 58 = -1)with c|c
 ·rw[b6 c];simp only[c]at d;refine Bd Bc Z iu<|C U<|Y U<|O U<|S<|C V<|Y V<|Y (kc TL (d _))<|O U<|C V<|O B0<|Cn ?_ ?_<;>intro b
  ·cases b
  refine aA<|C V<|Y U<|Y U<|O U<|aC<|lX (H':=[]) (.inr Z) Z (aJ Z) (aJ Z) (aJ Z) P_ Qq
 rw[a8 c];obtain ⟨w,r,f,e2,e⟩:=yA c;simp only[e]at d;rw[e,l8];have hl:w.length+1+r.length=s.size:=by rw[<-show s.data.toList.length=s.size by simp,f,j9,j8];omega
 refine Bd Bc Z iu<|C U<|Y U<|O U<|S<|C V<|Y V<|Y (kc TL (d _))<|O U<|C V<|O B0<|Cn ?_ ?_<;>intro b
 ·refine S<|aN a7<|Cq V<|Cq V<|Cq (bT (l:=0) (h:=(w.length)) Z U_ Z Z Z X X Z)<|Cq V<|Cq V<|Cq V<|Cq (gM U_)<|Cq kp<|Cq (bT (l:=(w.length+1)) (h:=s.size) Z U_ Z Z Z X X Z)<|Cq U<|Cq U<|Cq U<|bJ<|Kr<|aC<|lX (H':=[]) (.inr Z) Z (aJ Z) (aJ Z) (aJ Z) P_ Qq
 have hx:=b_ b;omega
theorem Kv(s)(H:aF)(d:s.size<2^40):RC 137 [sv s,sv sCo] (oj s) H:=by
 refine Pu ?_;have b:=fun H=>Em s H d;rcases Classical.em (Lib.indexByte s.data.toList 58 = -1)with c|c
 ·simp only[oj,b6 c]at b |-;refine Bd Bf Z ix<|C U<|Y U<|O U<|C V<|Y V<|Y (bF Z Z Bl Z (b _))<|Y dH<|Y dH<|Y dH<|Y U<|Y U<|O U<|aC<|lX (H':=[]) (.inr Z) Z (aJ Z) (aJ Z) (aJ Z) P_ Qq
 simp only[oj,a8 c]at b |-;refine Bd Bf Z ix<|C U<|Y U<|O U<|C V<|Y V<|Y (bF Z Z Bl Z (b _))<|Y dH<|Y dH<|Y dH<|Y U<|Y U<|O U<|aC<|lX (H':=[]) (.inr Z) Z (aJ Z) (aJ Z) (aJ Z) P_ Qq
def M4(l:List UInt8):List UInt8:=l.takeWhile fun b=>!decide (b=58)
def IZ(l:List UInt8):List UInt8:=(l.dropWhile fun b=>!decide (b=58)).drop 1
theorem vg{w r}(h:58∉w):M4 (w++58::r)=w/\IZ (w++58::r)=r:=by
 induction w with
 |nil=>exact⟨Z,Z⟩
 |cons b w d =>
  obtain ⟨a,c⟩:=d (fun e=>h (List.mem_cons_of_mem _ e));rw[M4]at a |-;rw[IZ]at c |-;rw[List.cons_append,List.takeWhile_cons,List.dropWhile_cons,b6 G_,b6 G_,a];exact⟨Z,c⟩
theorem Kz:∀ {l},58∉l->M4 l=l/\IZ l=[]
 | [],_=>⟨Z,Z⟩
 |b::l,h=>by
  obtain ⟨a,c⟩:=Kz (fun e=>h (List.mem_cons_of_mem _ e));rw[M4]at a |-;rw[IZ]at c |-;rw[List.takeWhile_cons,List.dropWhile_cons,b6 G_,b6 G_,a];exact⟨Z,c⟩
theorem vf(l:List UInt8):oj (b7 l)=.tup [sv (b7 (M4 l)),sv (b7 (IZ l)),bv (decide ((58:UInt8)∈l))]:=by
 rw[oj,cO];by_cases h:Lib.indexByte l 58 = -1
 ·rw[b6 h];have b:=xZ.1 h;rw[(Kz b).1,(Kz b).2,decide_eq_false b];rfl
 rw[a8 h];obtain ⟨w,r,e,c,f⟩:=yA h;rw[f,l8];subst e;rw[(vg c).1,(vg c).2,decide_eq_true H_];have g:(b7 (w++58::r)).extract 0 w.length=b7 w:=oK (by rw[gS,cO,cO,List.drop_zero,Nat.sub_zero,List.take_left]);have d:(b7 (w++58::r)).extract (w.length+1) _=b7 r:=oK (by
  rw[rW,cO,cO,<-List.drop_drop,List.drop_left];rfl)
 rw[g,d]
theorem XE(s): -9223372036854775808<=kN s/\kN s<=9223372036854775807:=by
 rw[kN,pV];cases e:Lib.atoiAll _ with
 |ok v=>exact Lib.atoiAll_bounds e
 |range =>
  show _<=Lib.atoiSat _/\Lib.atoiSat _<=_;rw[Lib.atoiSat];omega
 |_ =>
  simp_all
theorem La(l):(M4 l).length<=l.length/\(IZ l).length<=l.length:=by
 constructor
 ·exact(List.takeWhile_sublist _).length_le
 rw[IZ,q6];have:=(List.dropWhile_sublist (l:=l) fun b=>!decide (b=58)).length_le;omega
theorem Me{l}{u}(d:l.length<=18)(a:l≠[])(c:∀b∈l,48<=b.toNat/\b.toNat<=57)(hd:decFrom 0 l=some u):vK (b7 l)=false/\kN (b7 l)=u:=by
 have h:=ZK d a c hd;constructor
 ·rw[vK,cO,h]
 rw[kN,pV,cO,h]
theorem WH(n:Nat):(aQ n).data.toList=decDigits n:=rfl
theorem gZ(x)(L):aM (x::L)=decDigits x.size++58::(x.data.toList++aM L):=by have a:aM (x::L)=(pY x).data.toList++aM L:=rfl;rw[a,pY,ByteArray.data_append,Array.toList_append,ByteArray.data_append,Array.toList_append,WH];simp
theorem fu(n):58∉decDigits n:=fun h=>by
 have:=rC n h;exact absurd this.2 H_
theorem dy(A B):aM (A++B)=aM A++aM B:=List.flatMap_append
end Go.Proofs.YtopnleflllkbmaaGreatDoor
end
namespace Go.Proofs.YtopnleflllkbmaaGreatDoor
open Go.Proofs.Tryz
open Go.Abs Go.Lib
def KA(l:List UInt8):Bool:=((!decide ((58:UInt8)∈l)||vK (b7 (M4 l)))||decide (kN (b7 (M4 l))<0))||decide (((IZ l).length:Int)<kN (b7 (M4 l)))
def nxN(l:List UInt8):Nat:=(kN (b7 (M4 l))).toNat
def oS(l:List UInt8):Option (B_×List UInt8):=if KA l=true then none else some (b7 ((IZ l).take (nxN l)),(IZ l).drop (nxN l))
def xC(l:List UInt8):Option (Int×List UInt8):=match oS l with
 |none=>none
 |some (s,r)=>if vK s=true then none else some (kN s,r)
def GM{α:Type}(f:List UInt8->Option (α×List UInt8)):Nat->List UInt8->Option (List α×List UInt8)
 |0,l=>some ([],l)
 | n+1,l=>match f l with
  |none=>none
  |some (x,r)=>match GM f n r with
   |none=>none
   |some (xs,q)=>some (x::xs,q)
def CT{α:Type}(f:List UInt8->Option (α×List UInt8))(l:List UInt8):Option (List α×List UInt8):=match xC l with
 |none=>none
 |some (n,r)=>GM f n.toNat r
def RJ(l:List UInt8):Option ((Int×Int)×List UInt8):=match xC l with
 |none=>none
 |some (x,r)=>match xC r with
  |none=>none
  |some (y,q)=>some ((x,y),q)
def xf(l:List UInt8):Option (m9×List UInt8):=match xC l with
 |none=>none
 | some (i,r)=>match CT oS r with
  |none=>none
  |some (a,q)=>match CT oS q with
   |none=>none
   |some (b,p)=>some (⟨i,a,b⟩,p)
def HP(x:B_):Prop:=x.size<1000000000000000000
theorem mC{x}(L)(d:HP x):oS (aM (x::L))=some (x,aM L):=by
 obtain ⟨c,a⟩:=vg (fu _);rw[<-gZ]at c a;obtain ⟨f,g⟩:=Me (cU (show x.size<10 ^ 18 from d) H_) (pQ _) (fun b=>rC _) (mU _);have e:58∈aM (x::L):=by rw[gZ];simp
 have hb:KA (aM (x::L))=false:=by
  rw[KA,c,a,f,decide_eq_true e,decide_eq_false X,decide_eq_false (by rw[j9,aT];omega)];rfl
 rw[oS,a8 F_,nxN,c,g,a,l8,List.drop_left' (aT x),List.take_left' (aT x),gB]
theorem NV{n}(h0:0<=n)(h1:n<1000000000000000000):HP (aQ n):=Nat.lt_of_le_of_lt (nP X X) H_
theorem TA{n}(b:0<=n)(a:n<1000000000000000000):vK (aQ n)=false/\kN (aQ n)=n:=by
 have h:=DF b a;have e:(aQ n).data.toList=itoa n:=rfl;constructor
 ·rw[vK,e,h]
 rw[kN,pV,e,h]
theorem mD{n}(L)(b:0<=n)(a:n<1000000000000000000):xC (aM (aQ n::L))=some (n,aM L):=by
 obtain ⟨a1,a2⟩:=TA b a;rw[xC,mC L (NV b a)]
 simp_all
theorem R5:∀(a L),(∀t∈a,HP t)->GM oS a.length (aM (a++L))=some (a,aM L)
 | [],L,_=>rfl
 |t::a,L,h=>by
  rw[j8,GM,List.cons_append,mC _ (h t List.mem_cons_self)];simp[R5 _ L fun x hx=>h x (List.mem_cons_of_mem _ _)]
theorem CS(a L)(h:∀t∈a,HP t)(hl:a.length<1000000000000000000):CT oS (aM (aQ (a.length)::(a++L)))=some (a,aM L):=by rw[CT,mD _ X X];show GM _ _ _=_;rw[l8,R5 _ L h]
theorem QL(s)(L)(h:0<=s.idx)(f:s.idx<1000000000000000000)(i:∀t∈s.sig,HP t)(g:∀t∈s.path,HP t)(d:s.sig.length<1000000000000000000)(c:s.path.length<1000000000000000000):
  xf (aM (fI (.z s.idx s.sig s.path)++L))=some (s,aM L):=by
 have e:fI (.z s.idx s.sig s.path)++L=aQ s.idx::(aQ (s.sig.length)::(s.sig++(aQ (s.path.length)::(s.path++L)))):=by simp[fI]
 rw[e,xf,mD _ h f];show (match CT oS _ with|none=>none|some (a,q)=>match CT oS q with|none=>none|some (b,p)=>some _)=_;rw[CS _ _ i d];show (match CT oS _ with|none=>none|some (b,p)=>some _)=_;rw[CS _ _ g c]
theorem R4:∀(ps) (L),(∀q∈ps,(0<=q.1/\q.1<1000000000000000000)/\(0<=q.2/\q.2<1000000000000000000))->GM RJ ps.length (aM (O0 ps++L))=some (ps,aM L)
 | [],L,_=>rfl
 | p::ps,L,h=>by
  obtain ⟨⟨d,c⟩,f,a⟩:=h p List.mem_cons_self;have e:O0 (p::ps)++L=aQ _::(aQ _::(O0 _++L)):=rfl;have b:RJ (aM (O0 (p::ps)++L))=some (p,aM (O0 ps++L)):=by
   rw[e,RJ,mD _ d c];show (match xC _ with|none=>none|some (y,q)=>some _)=_;rw[mD _ f a]
  rw[j8,GM,b];simp[R4 _ L fun x hx=>h x (List.mem_cons_of_mem _ _)]
theorem mv(ps)(L)(h:∀q∈ps,(0<=q.1/\q.1<1000000000000000000)/\(0<=q.2/\q.2<1000000000000000000))(hl:ps.length<1000000000000000000):CT RJ (aM (fI (.p ps)++L))=some (ps,aM L):=by have e:fI (.p _)++L=aQ _::(O0 ps++L):=rfl;rw[e,CT,mD _ X X];show GM _ _ _=_;rw[l8,R4 _ L h]
variable{α:Type}{a b:List _}
theorem nh(m:AV)(l:List (Int×Int))(p:Nat->Bool)(e:Nat->aF)(hl:l.length<2^62)(o:∀k s,l[k]?=some s->dF Tryz.prog m [av (jW s)] (e k) (fun r H'=>r=bv (p k)/\H'=e (k+1))):
  aS Tryz.prog 209 [.pv (xK l),m] (e 0) (fun r H'=>r=iv (NW p l.length)/\H'=e (GT p l.length)):=by
 have hml:(l.map jW).length=l.length:=h_ _;refine Bd func209 Z ntmps209<|Sz U<|S<|C V<|Y (fV fW)<|O V<|aD<|bC (σ:=Nat) (fun k=>([(0,.pv (xK l)),(1,m),(7,iv ((l.map jW).length:Int)),(8,iv (k:Int))],e k)) (fun k=>k<=l.length/\∀j,j<k->p j=false) (fun k=>l.length - k) 0 ⟨X,X⟩ ?_ ?_
 ·exact E0
 rintro k ⟨hk,c⟩;refine Sz cM<|S<|Cn ?_ ?_<;>intro f
 ·have d:k<l.length:=I_ f
  obtain ⟨s,n⟩:=aU d;have hi:=cC (f:=jW) n;have h:=o k s n;refine aA<|S<|aD<|C V<|O U<|C V<|Y V<|Y V<|Y (iM TU)<|Y (eU Z eB sizeOf104 Z X (Z) Z)<|O (cZ Z Z Z (h))<|Cn ?_ ?_<;>intro g
  ·refine C V<|O U<|aC ?_;exact cR (H':=e (k+1)) (.inr Z) Z (aJ Z) Fin.refl ⟨by rw[NW,C3 d g c],by rw[GT,C3 d g c]⟩
  refine aA<|Rd gT<|O V ?_;refine⟨k+1,⟨X,fun j hj=>?_⟩,X,E0⟩
  grind
 have i:k=l.length:=J_ f
 subst i;refine aP<|Sz U<|aC ?_;exact cR (H':=e l.length) (.inr Z) Z (aJ Z) Fin.refl ⟨by rw[NW,C4 c],by rw[GT,C4 c]⟩
theorem UJ(c)(l)(p)(b:Nat->aF)(d:l.length<2^62)(e:∀k s,l[k]?=some s->dF Tryz.prog c [av (jW s)] (b k) (fun r H'=>r=bv (p k)/\H'=b (k+1))):
  aS Tryz.prog 149 [.pv (xK l),c] (b 0) (fun r H'=>r=bv ((List.range l.length).any p)/\H'=b (GT p l.length)):=by
 refine Bd func149 Z ntmps149<|Sz U<|C V<|Y V<|Y (bF Z Z call209 Z (nh c l p b d e))<|Y B0<|O U<|aC ?_;exact cR (.inr Z) Z (aJ Z) Fin.refl ⟨by rw[WL],Z⟩
def YT(q:Int×Int):Bool:=!(decide (0<=q.1)&&decide (q.1<=1048575))||!(decide (0<=q.2)&&decide (q.2<=1048575))
def Ol:Ob:=bx 1 174 [.pv (.fn 146)]
theorem yX(H):∀r∈Ol.rows,∀a∈r,Clo H a:=by intro r c a b;simp[Ol,bx,q_]at c;subst c;rw[q_]at b;subst b;simp
instance(H):W_ (H) (Ol.rows):=⟨yX H⟩
theorem aCY(q:Int×Int):aS Tryz.prog 150 [av (jW q),.ref 3 0 0 0] [(3,Ol)] (fun r H'=>r=bv (YT q)/\H'=[(3,Ol)]):=by
 have c:=fun H=>PU q.1 0 1048575 H;have b:=fun H=>PU q.2 0 1048575 H;have hof:YT q=(!(decide (0<=q.1)&&decide _)||!(decide (0<=q.2)&&decide _)):=rfl;obtain ⟨u,e⟩:∃u,u=(decide (0<=q.1)&&decide (q.1<=1048575)):=X_;obtain ⟨v,d⟩:∃v,v=(decide (0<=q.2)&&decide (q.2<=1048575)):=X_;clear e d;refine Bd func150 Z ntmps150<|C (kb 2)<|O U<|S<|aR (t:=3) (n:=14) (A_:=YT q) ?_ ?_
 ·all_goals refine Y (bS pG)<|Y (bD mO)<|Y (bS M_)<|Y (cZ Z Z Z (dF.fn rI (c _)))<|Y iT<|Dm ?_<;>(refine Sp 9 (fun f=>?_) fun f=>?_)<;>(first|refine M<|M<|M<|M<|M ?_|refine J (bS pG)<|J (bD mN)<|J (bS M_)<|J (cZ Z Z Z (dF.fn rI (b _)))<|J iT ?_)<;>refine Y cE<|Da ?_<;>exact Gj (h:=by simp_all)
 refine aC<|cR (H':=[(3,Ol)]) (.inr Z) Z (aJ Z) P_ Qq
theorem pd(l:List (Int×Int))(q):((List.range l.length).any fun k=>match l[k]? with|some s=>q s|none=>false)=l.any q:=by
 rw[Bool.eq_iff_iff,List.any_eq_true,List.any_eq_true];constructor
 ·grind
 rintro⟨s,a,h⟩;obtain ⟨k,hk⟩:=r_.1 a
 grind
def Ys(l:List (Int×Int))(k:Nat):Bool:=match l[k]? with|some s=>YT s|none=>false
theorem Zx(l)(hl:l.length<2^40):aS Tryz.prog 149 [.pv (xK l),.clo 150 [.ref 3 0 0 0]] [(3,Ol)] (fun r H'=>r=bv (l.any YT)/\H'=[(3,Ol)]):=by
 have b:=UJ _ l (Ys l) _ X (fun k s c=>by
  rw[Ys,c];exact dF.clo call150 (aCY s))
 rw[show (List.range _).any (Ys l)=l.any _ from pd l _]at b;exact b
theorem Jl(s)(H):RC 238 [sv s] (bv false) H:=by
 refine Pu<|Bd func238 Z ntmps238<|Sz U<|C V<|Y V<|Y GU<|O U<|aC<|Rt ?_
 simp_all
theorem tn(s t)(H):RC 186 [sv s,sv t] (bv (lY s t)) H:=by
 refine Pu<|Bd func186 Z ntmps186<|Sz U<|S<|aR (t:=4) (n:=15) (A_:=lY s t) ?_ ?_
 ·all_goals refine Y V<|Y (bF Z Z call238 Z (Jl _ _))<|Dm ?_<;>(refine Sp 7 (fun c=>?_) fun c=>?_)<;>(try contradiction)<;>refine M<|M<|M<|Y cE<|Dm ?_<;>(refine Sp 12 (fun b=>?_) fun b=>?_)<;>(try contradiction)<;>refine J V<|J V<|J (Hz Z Z Z)<|Y cE<|Da ?_<;>(exact⟨⟨_,Z,Z⟩,Z,Z,Z⟩)
 exact aC<|Rt<|Qq
def nM:List B_->Bool
 |a::b::r=>!lY b a&&nM (b::r)
 |_=>true
theorem XU{a}{l}(h:nM (a::l)=true):nM l=true:=by
 cases l with
 |nil=>rfl
 |cons b r=>exact(j0 _ _▸h).2
theorem JH:∀(i) {l},nM l=true->nM (l.drop i)=true
 |0,_,h=>h
 |i+1,[],_=>rfl
 |i+1,a::l,h=>JH i (XU h)
theorem js{l:List _}{k}{a b}(f:l[k]?=some a)(c:l[k+1]?=some b):nM (l.drop k)=(!lY b a&&nM (l.drop (k+1))):=by obtain ⟨h,e⟩:=m_.1 f;obtain ⟨g,d⟩:=m_.1 c;rw[List.drop_eq_getElem_cons h,List.drop_eq_getElem_cons g,e,d];rfl
theorem ee(l:List B_)(H:aF)(hl:l.length<2^40):RC 152 [.pv (aK l)] (bv (nM l)) H:=by
 refine Pu ?_;have n:(l.map S_).length=l.length:=h_ _;refine Bd func152 Z ntmps152<|Sz U<|S<|C V<|Y (fV aE)<|Y (by exact dP Z Z Z (show IntKind.i64.wrap (((l.map S_).length:Int) - 1)=((l.map S_).length:Int) - 1 by rw[IntKind.wrap_i64];omega))<|O U<|aD ?_;refine bC (σ:=Nat) (fun k=>([(0,.pv (aK l)),(3,iv ((k:Int) - 1))],[])) (fun k=>k<=l.length/\nM (l.drop (k - 1))=true) (fun k=>k) l.length ⟨j6 _,?_⟩ ?_ ?_
 ·have:(l.drop (l.length - 1)).length<=1:=G_
  match l.drop (l.length - 1),this with
  | [],_=>rfl
  | [a],_=>rfl
 ·rw[n];exact Wk
 rintro k ⟨hk,p⟩;refine S<|C V<|O iY<|Cn ?_ ?_<;>intro f
 ·have hlt:2<=k:=I_ f
  obtain ⟨m,rfl⟩:∃m,k=m+2:=⟨k - 2,X⟩;obtain ⟨b,s⟩:=aU (l:=l) (k:=m+1) X;obtain ⟨a,q⟩:=aU (l:=l) (k:=m) X;have j:=cC (f:=S_) s;have hia:=cC (f:=S_) q;have i:=js q s;rw[show m+2 - 1=m+1 by omega]at p;rw[p,Bool.and_true]at i;refine aA<|S<|aD<|S<|aN a7<|Cq V<|Cq V<|Cq (bU (m:=m+1) Z bH Z Z X (show (((m+2:Nat):Int) - 1).toNat=m+1 by omega) j Z)<|Cq (fY N_)<|Cq V<|Cq V<|Cq (by exact dP Z Z Z (show IntKind.i64.wrap ((((m+2:Nat):Int) - 1) - 1)=((m:Nat):Int)by rw[IntKind.wrap_i64];omega))<|Cq (iM bH)<|Cq (fY N_)<|Cq (kc call186 (tn b a _))<|bJ<|Kr ?_;refine Cn ?_ ?_<;>intro g
  ·have e:lY b a=true:=g;have o:nM l=false:=by
    rw[Bool.eq_false_iff];intro h;rw[JH m h,e]at i
    grind
   rw[o];exact Sz U<|aC<|Rt<|Qq
  have e:lY b a=false:=g;refine aA<|Rd V<|Y (by exact dP Z Z Z (show IntKind.i64.wrap ((((m+2:Nat):Int) - 1) - 1)=((m+1:Nat):Int) - 1 by rw[IntKind.wrap_i64];omega))<|Da ?_;refine⟨m+1,⟨X,?_⟩,X,?_⟩
  ·simp_all
  exact Wk
 have hge:k<=1:=J_ f
 have o:nM l=true:=F_
 rw[o];exact aP<|Sz U<|aC<|Rt<|Qq
abbrev tJ(l:List B_):List (List AV):=l.map (fun e=>(S_ e).map .pv)
theorem aB5(l:List _):∀r∈l.map S_,r.length=1:=fun r a=>by
 obtain ⟨t,_,rfl⟩:=List.mem_map.1 a;rfl
theorem Lc(l)(H:aF)(hc:dD H)(f:H.get 901=none)(hl:l.length<2^40):
  aS Tryz.prog 153 [.pv (aK l)] H (fun r H'=>r=.osl 901 1 0 l.length/\H'=(901,⟨1,1,9,tJ l⟩)::H):=by
 have e:(l.map S_).length=l.length:=h_ _;refine Bd func153 Z ntmps153<|Sz U<|S<|Sr<|Dm<|pf Z Z (lr Z aE Z) ?_;rintro _ H2 ⟨g,b,rfl,h⟩;rw[g];refine Zz<|Cn ?_ ?_<;>intro d
 ·have i:=h d;have c:=List.map_eq_nil_iff.1 i;subst c;refine Sz (eF (sz:=1) (ty:=9) Z f Z)<|aC ?_;refine cR (.inr Z) Z (aJ Z) ((Fin.bump (g:=0) (k:=1) Z Z E_ Z Z Z).trans (Fin.get' (fun j=>wQ _ _ _ _ j))) ?_;exact Qq
 refine aA<|C (gH Z bH Z Z Z Z H_ f)<|Y V<|Y (cA Z bH xE Z Z Z Z Z Z Z (aB5 l) e X (r7 _) (show []++(l.map S_).map _=tJ l by simp_all))<|O U<|aC ?_;refine cR (.inr Z) Z (aJ Z) (Fin.get' (fun j=>wQ _ _ _ _ j)) ?_;exact Qq
theorem LY(n)(H):RC 168 [.pv (.int .u8 n)] (bv (vE n)) H:=by
 refine Pu<|Bd func168 Z ntmps168<|Sz U<|S<|aR (t:=2) (n:=18) (A_:=vE n) ?_ ?_
 ·all_goals refine Y V<|Y B0<|Dm ?_<;>(refine Sp 5 (fun c=>?_) fun c=>?_)<;>(first|refine M<|M ?_|refine J V<|J IA ?_)<;>refine Y cE<|Dm ?_<;>(refine Sp 9 (fun d=>?_) fun d=>?_)<;>(first|refine M<|M<|M ?_|refine J V<|J B0<|J V ?_)<;>(first|refine Sp 12 (fun b=>?_) fun b=>?_|refine kI (t:=12) Z ?_)<;>(first|contradiction|refine M ?_|refine Fu ?_|refine J V ?_)<;>(first|refine M ?_|refine Fu ?_|refine J IA ?_)<;>(first|refine M ?_|refine J cE ?_)<;>refine Y cE<|Da ?_<;>exact Gj (h:=by(simp only[vE, *];rfl))
 exact aC<|Rt<|Qq
theorem RE(n)(H):RC 224 [.pv (.int .u8 n)] (bv (xY n)) H:=by
 refine Pu<|Bd func224 Z ntmps224<|Sz U<|S<|aR (t:=2) (n:=8) (A_:=xY n) ?_ ?_
 ·all_goals refine Y V<|Y B0<|Dm ?_<;>(refine Sp 5 (fun b=>?_) fun b=>?_)<;>(first|refine M<|M ?_|refine J V<|J IA ?_)<;>refine Y cE<|Da ?_<;>exact Gj (h:=by(simp only[xY, *];rfl))
 exact aC<|Rt<|Qq
def Bv(n:Int):Bool:=(vE n||xY n)||decide (n=95)
theorem X9(n)(H):RC 167 [.pv (.int .u8 n)] (bv (Bv n)) H:=by
 refine Pu<|Bd func167 Z ntmps167<|Sz U<|S<|aR (t:=2) (n:=13) (A_:=Bv n) ?_ ?_
 ·all_goals refine Y V<|Y (bF Z Z aET Z (LY n _))<|Dm ?_<;>(refine Sp 5 (fun b=>?_) fun b=>?_)<;>(first|refine M<|M ?_|refine J V<|J (bF Z Z aEO Z (RE n _)) ?_)<;>refine Y cE<|Dm ?_<;>(refine Sp 9 (fun c=>?_) fun c=>?_)<;>(first|contradiction|refine M<|M ?_|refine J V<|J cD ?_)<;>refine Y cE<|Da ?_<;>exact Gj (h:=by(simp only[Bv, *];rfl))
 exact aC<|Rt<|Qq
theorem Uw:∀n:Fin 256,(decide (yG (n.val)=3)=vE (n.val))/\(decide (yG (n.val)=4)=xY (n.val))/\(decide (yG (n.val)=5)=decide ((n.val:Int)=95)):=by decide +kernel
theorem S1(s)(k):(decide (yG (bA s k)=3)=vE (bA s k))/\(decide (yG (bA s k)=4)=xY (bA s k))/\(decide (yG (bA s k)=5)=decide (bA s k=95)):=by have h:=Uw ⟨(bA s k).toNat,BU s k⟩;exact h
def Vi(s:B_)(k:Nat):Bool:=!Bv (bA s k)
def VE(s:B_):Bool:=!((List.range s.size).any (Vi s))&&(decide ((0:Int)<(s.size:Int))&&decide ((s.size:Int)<=24)&&vE (bA s 0))
theorem bc{s}:s=a6↔s.size=0:=by
 constructor
 ·rintro rfl;rfl
 intro h;exact ByteArray.ext (Array.eq_empty_of_size_eq_zero h)
theorem Gm(s:B_):VE s=cG s:=by
 have m:∀k,gj s k=(!vE (bA s k)&&(decide ((k:Int)=0)||(!xY (bA s k)&&!decide (bA s k=95)))):=fun k=>by
  obtain ⟨a,b,c⟩:=S1 s k;rw[gj,a,b,c]
 rw[Bool.eq_iff_iff,VE,cG];simp only[j0,r8,k_,p_,List.any_eq_false,List.mem_range,bc,Vi,m];constructor
 ·rintro⟨f,⟨l,e⟩,j⟩;refine⟨fun k i=>?_,X,e⟩;by_cases g:k=0
  ·subst g;simp[j]
  have d:Bv (bA s k)=true:=by
   simp_all
  simp only[Bv,Bool.or_eq_true,k_]at d;rcases d with(h|h)|h
  ·simp[h]
  ·simp[h,g]
  simp[h,g]
 rintro⟨f,l,e⟩;refine⟨fun k i=>?_,⟨X,e⟩,?_⟩
 ·have:=f k i;intro d;apply this;simp only[Bv,r8,q9]at d
  simp_all
 have:=f 0 X;cases hl:vE (bA s 0)with
 |true=>rfl
 |false=>exact absurd G_ this
theorem Gn(s:B_)(H:aF)(hs:s.size<2^62):RC 113 [sv s] (bv (VE s)) H:=by
 refine Pu<|Bd func113 Z ntmps113<|Sz U<|S<|Sz U<|aD<|bC (σ:=Nat) (fun k=>([(0,sv s),(3,iv (k:Int))],[])) (fun k=>k<=s.size/\∀j,j<k->Vi s j=false) (fun k=>s.size - k) 0 ⟨X,X⟩ ?_ ?_
 ·exact E0
 rintro k ⟨hk,i⟩;refine S<|C V<|Y V<|Y (gM U_)<|O cM<|Cn ?_ ?_<;>intro d
 ·have f:k<s.size:=I_ d
  refine aA<|S<|aD<|C V<|Y V<|Y (ky U_)<|Y (kc aEU (X9 (bA s k) _))<|O iT<|Cn ?_ ?_<;>intro b
  ·have o:Vi s k=true:=b;refine Sz U<|aC<|Rt ?_;exact⟨by rw[VE,tX f o];rfl,Z⟩
  refine aA<|Rd V<|Y gT<|Da ?_;refine⟨k+1,⟨X,fun j hj=>?_⟩,X,E0⟩;by_cases e:j=k
  ·subst e;exact b
  grind
 have h:k=s.size:=J_ d
 have m:VE s=(decide ((0:Int)<(s.size:Int))&&decide ((s.size:Int)<=24)&&vE (bA s 0)):=by
  subst h;rw[VE,BB i];rfl
 rw[m];clear m;by_cases n:(0:Int)<(s.size:Int)
 ·have g:=decide_eq_true n;have h00:0<s.size:=X
  rw[g,Bool.true_and];by_cases c:(s.size:Int)<=24
  ·have l:=decide_eq_true c;rw[l,Bool.true_and];exact aP<|C V<|Y (gM U_)<|Y iY<|Y V<|Oa V<|Oa (gM U_)<|Oa IA<|Y CK<|Y V<|Oa V<|Oa (ky U_)<|Oa (kc aET (LY (bA s 0) _))<|Y CK<|O U<|aC<|Rt<|Qq
  have l:=decide_eq_false c;rw[l];exact aP<|C V<|Y (gM U_)<|Y iY<|Y V<|Oa V<|Oa (gM U_)<|Oa IA<|Y CK<|Y V<|Fa<|Fa<|Fa<|Y vP<|O U<|aC<|Rt<|Qq
 have g:=decide_eq_false n;rw[g];exact aP<|C V<|Y (gM U_)<|Y iY<|Y V<|Fa<|Fa<|Fa<|Y vP<|Y V<|M<|M<|M<|Y cE<|O U<|aC<|Rt<|Qq
theorem kZ(s)(H)(a:s.size<2^62):RC 113 [sv s] (bv (cG s)) H:=by rw[<-Gm];exact Gn s H a
theorem Gk(x y:Int)(H:aF):RC 170 [.agg [iv x,iv y]] (bv (Y9 x y)) H:=by
 refine Pu<|Bd func170 Z ntmps170<|C (kb 1)<|O U<|S<|aR (t:=2) (n:=22) (A_:=Y9 x y) ?_ ?_
 ·all_goals refine Y (bD mO)<|Y (bS M_)<|Y B0<|Dm ?_<;>(refine Sp 6 (fun d=>?_) fun d=>?_)<;>(first|refine M<|M<|M ?_|refine J (bD mO)<|J (bS M_)<|J cM ?_)<;>refine Y cE<|Dm ?_<;>(refine Sp 11 (fun b=>?_) fun b=>?_)<;>(first|refine M<|M<|M ?_|refine J (bD mN)<|J (bS M_)<|J B0 ?_)<;>refine Y cE<|Dm ?_<;>(refine Sp 16 (fun c=>?_) fun c=>?_)<;>(first|contradiction|refine M<|M<|M ?_|refine J (bD mN)<|J (bS M_)<|J cM ?_)<;>refine Y cE<|Da ?_<;>exact Gj (h:=by(simp only[Y9, *];rfl))
 exact aC<|Rt<|Qq
theorem xn{n:Nat}(a:1<=n)(b:n<=5):[S_ a6,S_ ⟨#[110,111,100,101]⟩,S_ ⟨#[119,97,121]⟩,S_ ⟨#[97,114,101,97]⟩,S_ ⟨#[114,111,117,116,101]⟩,S_ ⟨#[116,117,114,110]⟩][n]?=some (S_ (eD n)):=by
 match n,a,b with
 |1,_,_=>rfl
 |2,_,_=>rfl
 |3,_,_=>rfl
 |4,_,_=>rfl
 |5,_,_=>rfl
 |n+6,_,h=>exact absurd h X
theorem FV(k:Int)(H:aF):RC 214 [iv k] (sv (eD k)) H:=by
 refine Pu<|Bd func214 Z ntmps214<|Sz U<|C (aL [S_ a6,S_ _,S_ _,S_ _,S_ _,S_ _] Z bH Z Z Z Z Z (by simp[S_]))<|O U<|S<|S<|aR (t:=10) (n:=7) (A_:=decide (k<1)||decide (5<k)) ?_ ?_
 ·all_goals refine Y V<|Y cM<|Dm ?_<;>(refine Sp 7 (fun d=>?_) fun d=>?_)<;>(first|refine M<|M ?_|refine J V<|J iY ?_)<;>refine O cE ?_<;>(exact⟨⟨_,Z,G_⟩,Z,Z,Z⟩)
 refine Cn ?_ ?_<;>intro hc1
 ·have b:¬ (k=1)/\¬ (k=2)/\¬ (k=3)/\¬ (k=4)/\¬ (k=5):=by
   grind
  refine Sz U<|aC<|Rt ?_;exact⟨by simp only[eD,b.1,b.2.1,b.2.2.1,b.2.2.2.1,b.2.2.2.2,if_false],Z⟩
 obtain ⟨n,rfl⟩:∃n:Nat,k=(n:Int):=⟨k.toNat,G_⟩;have c:1<=n/\n<=5:=by
  grind
 have hi:=xn c.1 c.2;exact aA<|C V<|Y V<|Y (iM bH)<|Y (fY N_)<|O U<|aC<|Rt<|Qq
theorem Ai(l)(k:Nat)(t a)(c:0<k->l[k - 1]?=some a):(((!cG t.key||decide ((t.val.size:Int)<1))||decide (200<(t.val.size:Int)))||(decide ((0:Int)<k)&&!lY a.key t.key))=DB (kH l_.key l k) t:=by
 have d:decide ((t.val.size:Int)<1)=decide (t.val=a6):=decide_eq_decide.2 (by rw[bc];omega);rw[d,DB];cases g:cG t.key with
 |false=>simp
 | true =>
  have f:Ye t.key (kH l_.key l k)=(decide (0<(k:Int))&&!lY a.key t.key):=by
   cases k with
   | zero =>
    have:lY a6 t.key=true:=by
     cases e:lY a6 t.key with
     |true=>rfl
     |false=>exact absurd (FO (qz _) e) (SK g)
    rw[kH,OR.2 this];rfl
   | succ k =>
    have h:=c X;rw[show k+1 - 1=k from rfl]at h;rw[zO h,decide_eq_true (show 0<((k+1:Nat):Int)by omega)];cases e:lY _ t.key with
    |true=>rw[OR.2 e];rfl
    |false =>
     cases b:Ye t.key _ with
     |true=>rfl
     |false=>rw[OR]at b;rw[e]at b;cases b
  rw[<-f];cases Ye t.key _<;>cases decide (t.val=a6)<;>cases decide (200<(t.val.size:Int))<;>rfl
theorem ru(l:List l_)(H:aF)(w:ME l):RC 296 [.pv (pX l)] (bv (sU l)) H:=by
 refine Pu ?_;obtain ⟨w,u⟩:=w;have hml:(l.map bP).length=l.length:=h_ _;refine Bd func296 Z ntmps296<|Sz U<|S<|C V<|Y (fV dL)<|O iY<|Cn ?_ ?_<;>intro n
 ·have f:decide ((l.length:Int)<=60)=false:=by
   have:=b9 n;exact decide_eq_false X
  refine Sz U<|aC<|Rt ?_;exact⟨by rw[sU,f,Bool.and_false],Z⟩
 have f:decide ((l.length:Int)<=60)=true:=by
  have:=b_ n;exact decide_eq_true X
 rw[sU,f,Bool.and_true];refine aA<|S<|Sz U<|aD<|bC (σ:=Nat) (fun k=>([(0,.pv (pX l)),(3,iv (k:Int))],[])) (fun k=>k<=l.length/\∀j,j<k->S5 DB l_.key l j=false) (fun k=>l.length - k) 0 ⟨X,X⟩ ?_ ?_
 ·exact E0
 rintro k ⟨hk,hno⟩;refine S<|C V<|Y V<|Y (fV dL)<|O cM<|Cn ?_ ?_<;>intro g
 ·have o:k<l.length:=I_ g
  obtain ⟨t,q⟩:=aU o;have hi:=cC (f:=bP) q;have hkt:=u t (m7 q);obtain ⟨p,v⟩:∃p,0<k->l[k - 1]?=some p:=by
   grind
  have m:0<k->(l.map bP)[k - 1]?=some (bP p):=fun h=>cC (f:=bP) (v h);have i:=Ai l k t p v;refine aA<|S<|aD<|S<|rF (t:=55) (n:=43) (A_:=((!cG t.key||decide ((t.val.size:Int)<1))||decide (200<(t.val.size:Int)))||(decide ((0:Int)<(k:Int))&&!lY p.key t.key)) ?_ ?_
  ·cases hg20:(!cG t.key:Bool)
   ·cases hg29:(decide ((t.val.size:Int)<1):Bool)
    ·cases hg38:(decide (200<(t.val.size:Int)):Bool)
     ·cases hg41:(decide ((0:Int)<(k:Int)):Bool)
      ·refine aN a7<|Cq V<|Cq V<|Cq (iM lI)<|Cq (EV pO)<|Cq (fY N_)<|Cq (kc fS (kZ t.key _ hkt.1))<|Cq iT<|Cq V<|Nf V<|Nf V<|Nf (iM lI)<|Nf (EV qO)<|Nf (fY N_)<|Nf (gM U_)<|Nf cM<|Cq vP<|Cq V<|Nf V<|Nf V<|Nf (iM lI)<|Nf (EV qO)<|Nf (fY N_)<|Nf (gM U_)<|Nf iY<|Cq vP<|Cq V<|Nf V<|Nf iY<|Nf V<|Ot<|Ot<|Ot<|Ot<|Ot<|Ot<|Ot<|Ot<|Ot<|Ot<|Ot<|Ot<|Nf vP<|Cq vP<|bJ<|Kr ?_;exact⟨Z,⟨_,Z,by rfl⟩,Z,Z,Z⟩
      refine aN a7<|Cq V<|Cq V<|Cq (iM lI)<|Cq (EV pO)<|Cq (fY N_)<|Cq (kc fS (kZ t.key _ hkt.1))<|Cq iT<|Cq V<|Nf V<|Nf V<|Nf (iM lI)<|Nf (EV qO)<|Nf (fY N_)<|Nf (gM U_)<|Nf cM<|Cq vP<|Cq V<|Nf V<|Nf V<|Nf (iM lI)<|Nf (EV qO)<|Nf (fY N_)<|Nf (gM U_)<|Nf iY<|Cq vP<|Cq V<|Nf V<|Nf iY<|Nf V<|Nt V<|Nt V<|Nt (dP Z Z Z (qD X X))<|Nt (bU Z lI Z Z (I_ hg41) (show ((k:Int) - 1).toNat=k - 1 by omega) (m (I_ hg41)) Z)<|Nt (EV pO)<|Nt (fO Z N_ Z (m (I_ hg41)) Z)<|Nt V<|Nt V<|Nt (iM lI)<|Nt (EV pO)<|Nt (fY N_) ?_;refine Nt (RP Z Z Z)<|Nf CK<|Cq vP<|bJ<|Kr ?_;exact⟨Z,⟨_,Z,by rfl⟩,Z,Z,Z⟩
     refine aN a7<|Cq V<|Cq V<|Cq (iM lI)<|Cq (EV pO)<|Cq (fY N_)<|Cq (kc fS (kZ t.key _ hkt.1))<|Cq iT<|Cq V<|Nf V<|Nf V<|Nf (iM lI)<|Nf (EV qO)<|Nf (fY N_)<|Nf (gM U_)<|Nf cM<|Cq vP<|Cq V<|Nf V<|Nf V<|Nf (iM lI)<|Nf (EV qO)<|Nf (fY N_)<|Nf (gM U_)<|Nf iY<|Cq vP<|Cq V<|Of<|Of<|Of<|Ou<|Ou<|Ou<|Ou<|Ou<|Ou<|Ou<|Ou<|Ou<|Ou<|Ou<|Ou<|Of<|Cq CK<|bJ<|Kr ?_;exact⟨Z,⟨_,Z,by rfl⟩,Z,Z,Z⟩
    refine aN a7<|Cq V<|Cq V<|Cq (iM lI)<|Cq (EV pO)<|Cq (fY N_)<|Cq (kc fS (kZ t.key _ hkt.1))<|Cq iT<|Cq V<|Nf V<|Nf V<|Nf (iM lI)<|Nf (EV qO)<|Nf (fY N_)<|Nf (gM U_)<|Nf cM<|Cq vP<|Cq V<|Of<|Of<|Of<|Of<|Of<|Of<|Of<|Cq CK<|Cq V<|Of<|Of<|Of<|Ou<|Ou<|Ou<|Ou<|Ou<|Ou<|Ou<|Ou<|Ou<|Ou<|Ou<|Ou<|Of<|Cq cE<|bJ<|Kr ?_;exact⟨Z,⟨_,Z,by rfl⟩,Z,Z,Z⟩
   refine aN a7<|Cq V<|Cq V<|Cq (iM lI)<|Cq (EV pO)<|Cq (fY N_)<|Cq (kc fS (kZ t.key _ hkt.1))<|Cq iT<|Cq V<|Of<|Of<|Of<|Of<|Of<|Of<|Of<|Cq CK<|Cq V<|Of<|Of<|Of<|Of<|Of<|Of<|Of<|Cq cE<|Cq V<|Of<|Of<|Of<|Ou<|Ou<|Ou<|Ou<|Ou<|Ou<|Ou<|Ou<|Ou<|Ou<|Ou<|Ou<|Of<|Cq cE<|bJ<|Kr ?_;exact⟨Z,⟨_,Z,by rfl⟩,Z,Z,Z⟩
  refine Cn ?_ ?_<;>intro hc3
  ·rw[i]at hc3;refine Sz U<|aC<|Rt ?_;exact⟨by rw[tX o ((DD q).trans hc3)];rfl,Z⟩
  rw[i]at hc3;refine aA<|Rd V<|Y gT<|Da ?_;refine⟨k+1,⟨X,fun j hj=>?_⟩,X,E0⟩;by_cases e:j=k
  ·subst e;exact(DD q).trans hc3
  grind
 have s:k=l.length:=J_ g
 subst s;refine aP<|Sz U<|aC<|Rt ?_
 simp_all
theorem Cv(o)(k:Nat)(s p)(a:0<k->o.refs[k - 1]?=some p):
  ((!cG s||((decide (o.kind=2)&&decide (0<(k:Int)))&&decide (p=s)))||(decide (o.kind=3)&&uf (A6 o.refs k) s))=MU o (kH id o.refs k) (A6 o.refs k) s:=by
 rw[MU,SI];cases c:cG s with
 |false=>simp
 | true =>
  have b:(decide (0<(k:Int))&&decide (p=s))=decide (s=kH id o.refs k):=by
   cases k with
   |zero=>rw[kH,decide_eq_false (SK c)];rfl
   |succ k =>
    have h:=a X;rw[show k+1 - 1=k from rfl]at h;rw[zO h,decide_eq_true (show 0<((k+1:Nat):Int)by omega)];exact decide_eq_decide.2 eq_comm
  rw[<-b];simp[Bool.and_assoc]
theorem Fj{l}{k}{s}(h:l[k]?=some s):A6 l (k+1)=QB (A6 l k) s:=by rw[A6,h];rfl
def aA2(k n:Int):Bool:=if k=1 then decide (n=0)else if k=2 then decide (2<=n)else if k=3 then decide (3<=n)else if k=4 then decide (1<=n)else decide (n=3)
def QZ(o:j_):Bool:=(decide ((o.refs.length:Int)<=2000)&&!((List.range o.refs.length).any (uJ o)))&&aA2 o.kind (o.refs.length:Int)
theorem rv(o:j_)(H:aF)(ho:iq o):RC 297 [av (bM o)] (bv (QZ o)) H:=by
 refine Pu ?_;obtain ⟨h1,h2,h3,h4⟩:=ho;have hml:(o.refs.map S_).length=o.refs.length:=h_ _;refine Bd func297 Z ntmps297<|C (kb 1)<|O U<|C (bD dY)<|Y (bS aH)<|Y (fV aE)<|O U<|S<|C V<|O iY<|Cn ?_ ?_<;>intro hc1
 ·have hb:decide ((o.refs.length:Int)<=2000)=false:=by
   have:=b9 hc1;exact decide_eq_false (by omega)
  refine Sz U<|aC<|Rt ?_;exact⟨by rw[QZ,hb];rfl,Z⟩
 have hb:decide ((o.refs.length:Int)<=2000)=true:=by
  have:=b_ hc1;exact decide_eq_true (by omega)
 rw[QZ,hb,Bool.true_and];refine aA<|C (by exact uY (id:=11) JE Z Z)<|O U<|S<|Sz U<|aD<|bC (σ:=Nat) (fun k=>([(1,.ref 1 0 0 0),(3,iv ((o.refs.map S_).length:Int)),(4,.mp 11 0),(5,iv (k:Int))],[(11,sob (A6 o.refs k)),(1,bx 6 135 ((bM o).map .pv))])) (fun k=>k<=o.refs.length/\∀j,j<k->uJ o j=false) (fun k=>o.refs.length - k) 0 ⟨by omega,by omega⟩ ?_ ?_
 ·exact(cJ.wk (Ea<|Eb<|Ea<|Eb<|T_) (Hc (OQ _ _)<|Hb<|T_) T_)
 rintro k ⟨hk,hno⟩;refine S<|C V<|Y V<|O cM<|Cn ?_ ?_<;>intro hc2
 ·have hlt:k<o.refs.length:=by have:=b9 hc2;omega
  obtain ⟨s,hs⟩:=aU hlt;have hi:=cC (f:=S_) hs;obtain ⟨p,hp⟩:∃p,0<k->o.refs[k - 1]?=some p:=by
   by_cases k0:0<k
   ·obtain ⟨p,hp⟩:=aU (l:=o.refs) (k:=k - 1) (by omega);exact⟨p,fun _=>hp⟩
   exact⟨s,fun h=>absurd h k0⟩
  have hpv:0<k->(o.refs.map S_)[k - 1]?=some (S_ p):=fun h=>cC (f:=S_) (hp h);have hbe:=Cv o k s p hp;have hw:uJ o k=MU o (kH id o.refs k) (A6 o.refs k) s:=by rw[uJ,hs]
  have hse:=Fj hs;refine aA<|S<|aD<|S<|S<|rF (t:=60) (n:=44) (A_:=(!cG s||((decide (o.kind=2)&&decide ((0:Int)<(k:Int)))&&decide (p=s)))||(decide (o.kind=3)&&uf (A6 o.refs k) s)) ?_ ?_
  ·cases hg24:(!cG s:Bool)
   ·cases hg28:(decide (o.kind=2):Bool)
    ·cases hg51:(decide (o.kind=3):Bool)
     ·refine aN a7<|Cq (bD dY)<|Cq (bS aH)<|Cq V<|Cq (iM bH)<|Cq (fY N_)<|Cq (kc fS (kZ s _ (h4 s (m7 hs))))<|Cq iT<|Cq V<|Nf (bD dZ)<|Nf (bS M_)<|Nf cD<|Nf V<|Ot<|Ot<|Nf vP<|Nf V<|Ot<|Ot<|Ot<|Ot<|Ot<|Ot<|Ot<|Ot<|Ot<|Ot<|Ot<|Ot<|Nf cE<|Cq vP<|Cq V<|Nf (bD dZ)<|Nf (bS M_)<|Nf cD<|Nf V<|Ot<|Ot<|Ot<|Ot<|Ot<|Ot<|Ot<|Nf vP<|Cq cE<|bJ<|Kr ?_;exact⟨Z,⟨_,Z,by rfl⟩,Z,Z,Z⟩
     refine aN a7<|Cq (bD dY)<|Cq (bS aH)<|Cq V<|Cq (iM bH)<|Cq (fY N_)<|Cq (kc fS (kZ s _ (h4 s (m7 hs))))<|Cq iT<|Cq V<|Nf (bD dZ)<|Nf (bS M_)<|Nf cD<|Nf V<|Ot<|Ot<|Nf vP<|Nf V<|Ot<|Ot<|Ot<|Ot<|Ot<|Ot<|Ot<|Ot<|Ot<|Ot<|Ot<|Ot<|Nf cE<|Cq vP<|Cq V<|Nf (bD dZ)<|Nf (bS M_)<|Nf cD<|Nf V<|Nt V<|Nt (bD dY)<|Nt (bS aH)<|Nt V<|Nt (iM bH)<|Nt (fY N_)<|Nt (by exact wC Z lZ U_ Z Z Z Z Z iS (.inl Z))<|Nf CK<|Cq cE<|bJ<|Kr ?_;exact⟨Z,⟨_,Z,by rfl⟩,Z,Z,Z⟩
    cases hg32:(decide ((0:Int)<(k:Int)):Bool)
    ·cases hg51:(decide (o.kind=3):Bool)
     ·refine aN a7<|Cq (bD dY)<|Cq (bS aH)<|Cq V<|Cq (iM bH)<|Cq (fY N_)<|Cq (kc fS (kZ s _ (h4 s (m7 hs))))<|Cq iT<|Cq V<|Nf (bD dZ)<|Nf (bS M_)<|Nf cD<|Nf V<|Nt V<|Nt iY<|Nf CK<|Nf V<|Ot<|Ot<|Ot<|Ot<|Ot<|Ot<|Ot<|Ot<|Ot<|Ot<|Ot<|Ot<|Nf vP<|Cq vP<|Cq V<|Nf (bD dZ)<|Nf (bS M_)<|Nf cD<|Nf V<|Ot<|Ot<|Ot<|Ot<|Ot<|Ot<|Ot<|Nf vP<|Cq cE<|bJ<|Kr ?_;exact⟨Z,⟨_,Z,by rfl⟩,Z,Z,Z⟩
     refine aN a7<|Cq (bD dY)<|Cq (bS aH)<|Cq V<|Cq (iM bH)<|Cq (fY N_)<|Cq (kc fS (kZ s _ (h4 s (m7 hs))))<|Cq iT<|Cq V<|Nf (bD dZ)<|Nf (bS M_)<|Nf cD<|Nf V<|Nt V<|Nt iY<|Nf CK<|Nf V<|Ot<|Ot<|Ot<|Ot<|Ot<|Ot<|Ot<|Ot<|Ot<|Ot<|Ot<|Ot<|Nf vP<|Cq vP<|Cq V<|Nf (bD dZ)<|Nf (bS M_)<|Nf cD<|Nf V<|Nt V<|Nt (bD dY)<|Nt (bS aH)<|Nt V<|Nt (iM bH)<|Nt (fY N_)<|Nt (by exact wC Z lZ U_ Z Z Z Z Z iS (.inl Z))<|Nf CK<|Cq cE<|bJ<|Kr ?_;exact⟨Z,⟨_,Z,by rfl⟩,Z,Z,Z⟩
    cases hg47:(decide (p=s):Bool)
    ·cases hg51:(decide (o.kind=3):Bool)
     ·refine aN a7<|Cq (bD dY)<|Cq (bS aH)<|Cq V<|Cq (iM bH)<|Cq (fY N_)<|Cq (kc fS (kZ s _ (h4 s (m7 hs))))<|Cq iT<|Cq V<|Nf (bD dZ)<|Nf (bS M_)<|Nf cD<|Nf V<|Nt V<|Nt iY<|Nf CK<|Nf V<|Nt (bD dY)<|Nt (bS aH)<|Nt V<|Nt (by exact dP Z Z Z (by exact qD (by omega) (by omega)))<|Nt (by exact bU Z bH Z Z (by have:=b9 hg32;omega) (show ((k:Int) - 1).toNat=k - 1 by omega) (hpv (by have:=b9 hg32;omega)) Z)<|Nt (by exact fO Z N_ Z (hpv (by have:=b9 hg32;omega)) Z)<|Nt (bD dY)<|Nt (bS aH)<|Nt V<|Nt (iM bH)<|Nt (fY N_)<|Nt wF<|Nf CK<|Cq vP<|Cq V<|Nf (bD dZ)<|Nf (bS M_)<|Nf cD<|Nf V<|Ot<|Ot<|Ot ?_;refine Ot<|Ot<|Ot<|Ot<|Nf vP<|Cq vP<|bJ<|Kr ?_;exact⟨Z,⟨_,Z,by rfl⟩,Z,Z,Z⟩
     refine aN a7<|Cq (bD dY)<|Cq (bS aH)<|Cq V<|Cq (iM bH)<|Cq (fY N_)<|Cq (kc fS (kZ s _ (h4 s (m7 hs))))<|Cq iT<|Cq V<|Nf (bD dZ)<|Nf (bS M_)<|Nf cD<|Nf V<|Nt V<|Nt iY<|Nf CK<|Nf V<|Nt (bD dY)<|Nt (bS aH)<|Nt V<|Nt (by exact dP Z Z Z (by exact qD (by omega) (by omega)))<|Nt (by exact bU Z bH Z Z (by have:=b9 hg32;omega) (show ((k:Int) - 1).toNat=k - 1 by omega) (hpv (by have:=b9 hg32;omega)) Z)<|Nt (by exact fO Z N_ Z (hpv (by have:=b9 hg32;omega)) Z)<|Nt (bD dY)<|Nt (bS aH)<|Nt V<|Nt (iM bH)<|Nt (fY N_)<|Nt wF<|Nf CK<|Cq vP<|Cq V<|Nf (bD dZ)<|Nf (bS M_)<|Nf cD<|Nf V<|Nt V<|Nt (bD dY) ?_;refine Nt (bS aH)<|Nt V<|Nt (iM bH)<|Nt (fY N_)<|Nt (by exact wC Z lZ U_ Z Z Z Z Z iS (.inl Z))<|Nf CK<|Cq vP<|bJ<|Kr ?_;exact⟨Z,⟨_,Z,by rfl⟩,Z,Z,Z⟩
    refine aN a7<|Cq (bD dY)<|Cq (bS aH)<|Cq V<|Cq (iM bH)<|Cq (fY N_)<|Cq (kc fS (kZ s _ (h4 s (m7 hs))))<|Cq iT<|Cq V<|Nf (bD dZ)<|Nf (bS M_)<|Nf cD<|Nf V<|Nt V<|Nt iY<|Nf CK<|Nf V<|Nt (bD dY)<|Nt (bS aH)<|Nt V<|Nt (by exact dP Z Z Z (by exact qD (by omega) (by omega)))<|Nt (by exact bU Z bH Z Z (by have:=b9 hg32;omega) (show ((k:Int) - 1).toNat=k - 1 by omega) (hpv (by have:=b9 hg32;omega)) Z)<|Nt (by exact fO Z N_ Z (hpv (by have:=b9 hg32;omega)) Z)<|Nt (bD dY)<|Nt (bS aH)<|Nt V<|Nt (iM bH)<|Nt (fY N_)<|Nt wF<|Nf CK<|Cq vP<|Cq V<|Of<|Of<|Of<|Of<|Ou<|Ou<|Ou<|Ou<|Ou<|Ou<|Ou<|Of<|Cq CK<|bJ<|Kr ?_;exact⟨Z,⟨_,Z,by rfl⟩,Z,Z,Z⟩
   refine aN a7<|Cq (bD dY)<|Cq (bS aH)<|Cq V<|Cq (iM bH)<|Cq (fY N_)<|Cq (kc fS (kZ s _ (h4 s (m7 hs))))<|Cq iT<|Cq V<|Of<|Of<|Of<|Of<|Ou<|Ou<|Of<|Of<|Ou<|Ou<|Ou<|Ou<|Ou<|Ou<|Ou<|Ou<|Ou<|Ou<|Ou<|Ou<|Of<|Cq CK<|Cq V<|Of<|Of<|Of<|Of<|Ou<|Ou<|Ou<|Ou<|Ou<|Ou<|Ou<|Of<|Cq cE<|bJ<|Kr ?_;exact⟨Z,⟨_,Z,by rfl⟩,Z,Z,Z⟩
  refine Cn ?_ ?_<;>intro hc3
  ·rw[hbe,<-hw]at hc3;refine Sz U<|aC<|Rt ?_;exact⟨by rw[tX hlt hc3];rfl,Z⟩
  rw[hbe,<-hw]at hc3;refine aA<|Rd V<|Y (bD dY)<|Y (bS aH)<|Y V<|Y (iM bH)<|Y (fY N_)<|Uu (by exact UO (.inl Z) lZ U_ Z Z Z Z Z Z Z)<|Zz<|Rd V<|Y gT<|Da ?_;refine⟨k+1,⟨by omega,fun j hj=>?_⟩,by omega,?_⟩
  ·by_cases e:j=k
   ·subst e;exact hc3
   exact hno j (by omega)
  rw[hse];exact(cJ.wk (Ea<|Eb<|Ea<|Eb<|T_) (Hc (OQ _ _)<|Hb<|T_) T_)
 have hge:k=o.refs.length:=by have:=b_ hc2;omega
 subst hge;rw[BB hno,Bool.not_false,Bool.true_and,aA2,<-hml];refine aP<|S<|C (bD dZ)<|O (bS M_)<|aD<|C cD<|Da<|Cn ?_ ?_<;>intro hc4
 ·rw[b6 (b9 hc4)];exact C V<|Y cD<|O U<|aC<|Rt<|Qq
 rw[a8 (b_ hc4)];refine C cD<|Da<|Cn ?_ ?_<;>intro hc5
 ·rw[b6 (b9 hc5)];exact C V<|Y B0<|O U<|aC<|Rt<|Qq
 rw[a8 (b_ hc5)];refine C cD<|Da<|Cn ?_ ?_<;>intro hc6
 ·rw[b6 (b9 hc6)];exact C V<|Y B0<|O U<|aC<|Rt<|Qq
 rw[a8 (b_ hc6)];refine C cD<|Da<|Cn ?_ ?_<;>intro hc7
 ·rw[b6 (b9 hc7)];exact C V<|Y B0<|O U<|aC<|Rt<|Qq
 rw[a8 (b_ hc7)];exact aA<|C V<|Y cD<|O U<|aC<|Rt<|Qq
def Ww(o:j_):Bool:=if o.kind=1 then Y9 o.x o.y else(decide (o.x=0)&&decide (o.y=0))
theorem Qx(o):((((cG o.id&&!decide (eD o.kind=a6))&&Ww o)&&sU o.tags)&&QZ o)=oH o:=by
 cases f:decide (eD _=a6)with
 |true=>simp[oH,NX,vT,f]
 |false =>
  have hk:=A1 f;have hk0:¬ o.kind=0:=fun e=>by rw[e]at f;simp[eD]at f
  simp only[oH,NX,vT,f,QZ,Ww,SL,aA2,ET];generalize cG o.id=a;generalize sU o.tags=b;generalize (List.range _).any _=w;generalize Y9 o.x o.y=c;generalize (decide (o.x=0)&&decide (o.y=0))=d;generalize o.kind=k at *;rcases(by omega:k=1\/k=2\/k=3\/k=4\/k=5)with rfl|rfl|rfl|rfl|rfl<;>cases a<;>cases b<;>cases w<;>cases c<;>cases d<;>rw[Bool.eq_iff_iff]<;>simp<;>omega
theorem Gl(o:j_)(H:aF)(f:iq o):RC 261 [av (bM o)] (bv (oH o)) H:=by
 refine Pu ?_;rw[<-Qx];refine Bd func261 Z ntmps261<|C (kb 1)<|O U<|C (bD mM)<|Y (by exact aW Z eB sizeOf104 Z Z Z Z (by simp only[Zl,bP,bM,S_];rfl) Z)<|Y (kc aES (Gk o.x o.y _))<|O U<|S<|C (bD dZ)<|Y (bS M_)<|O AY ?_;refine Cn ?_ ?_<;>intro g
 ·have i:Ww o=(decide (o.x=0)&&decide (o.y=0)):=by
   have h:(!decide (o.kind=1))=true:=g;rw[Ww,a8 F_]
  refine Rd (bD mM)<|Y (by exact aW Z eB sizeOf104 Z Z Z Z (by simp only[Zl,bP,bM,S_];rfl) Z)<|Y (oO K0)<|Y (BF Z Z Z Z Z mJ (QP _ _ _ _))<|O U<|S ?_;refine aR (t:=2) (n:=26) (A_:=(((cG o.id&&!decide (eD o.kind=a6))&&Ww o)&&sU o.tags)&&QZ o) ?_ ?_
  ·all_goals refine Y (bD qQ)<|Y (bS N_)<|Y (kc fS (kZ o.id _ f.1))<|Dm ?_<;>(refine Sp 17 (fun d=>?_) fun d=>?_)<;>(first|contradiction|refine M<|M<|M<|M ?_|refine J (bD dZ)<|J (bS M_)<|J (kc Bk (FV o.kind _))<|J GU ?_)<;>refine Y cE<|Dm ?_<;>(refine Sp 23 (fun b=>?_) fun b=>?_)<;>(first|contradiction|refine M ?_|refine J V ?_)<;>refine Y cE<|Dm ?_<;>(refine Sp 26 (fun e=>?_) fun e=>?_)<;>(first|contradiction|refine M<|M<|M ?_|refine J (bD fU)<|J (bS dC)<|J (kc call296 (ru o.tags _ f.2.1)) ?_)<;>refine Y cE<|Dm ?_<;>(refine Sp 31 (fun c=>?_) fun c=>?_)<;>(first|contradiction|refine M<|M ?_|refine J (by exact aW Z bW sizeOf135 Z Z Z Z (by simp only[Zl,bP,bM,S_];rfl) Z)<|J (kc call297 (rv o _ f)) ?_)<;>refine Y cE<|Da ?_<;>exact Gj (h:=by simp_all)
  exact aC<|Rt<|Qq
 have i:Ww o=Y9 o.x o.y:=by
  have h:(!decide (o.kind=1))=false:=g;rw[Ww,b6 F_]
 refine aA<|S<|aR (t:=2) (n:=26) (A_:=(((cG o.id&&!decide (eD o.kind=a6))&&Ww o)&&sU o.tags)&&QZ o) ?_ ?_
 ·all_goals refine Y (bD qQ)<|Y (bS N_)<|Y (kc fS (kZ o.id _ f.1))<|Dm ?_<;>(refine Sp 17 (fun d=>?_) fun d=>?_)<;>(first|contradiction|refine M<|M<|M<|M ?_|refine J (bD dZ)<|J (bS M_)<|J (kc Bk (FV o.kind _))<|J GU ?_)<;>refine Y cE<|Dm ?_<;>(refine Sp 23 (fun b=>?_) fun b=>?_)<;>(first|contradiction|refine M ?_|refine J V ?_)<;>refine Y cE<|Dm ?_<;>(refine Sp 26 (fun e=>?_) fun e=>?_)<;>(first|contradiction|refine M<|M<|M ?_|refine J (bD fU)<|J (bS dC)<|J (kc call296 (ru o.tags _ f.2.1)) ?_)<;>refine Y cE<|Dm ?_<;>(refine Sp 31 (fun c=>?_) fun c=>?_)<;>(first|contradiction|refine M<|M ?_|refine J (by exact aW Z bW sizeOf135 Z Z Z Z (by simp only[Zl,bP,bM,S_];rfl) Z)<|J (kc call297 (rv o _ f)) ?_)<;>refine Y cE<|Da ?_<;>exact Gj (h:=by simp_all)
 exact aC<|Rt<|Qq
def ZB{α:Type}(e:α->α->Bool)(a b:List α):Bool:=decide (a.length=b.length)&&(List.range a.length).all fun k=>match a[k]?,b[k]? with|some x,some y=>e x y|_,_=>true
theorem fm{e}(he:∀x y,e x y=true↔x=y){a b:List α}:ZB e a b=true↔a=b:=by
 constructor
 ·intro h;simp[ZB,j0,k_,List.all_eq_true,List.mem_range]at h;apply List.ext_getElem h.1
  grind
 simp[ZB,j0,k_,List.all_eq_true,List.mem_range,true_and]
 simp_all
theorem fo{e}{a b}{k:Nat}{x y:α}(hx:a[k]?=some x)(hy:b[k]?=some y)(h:e x y=false):ZB e a b=false:=by
 rw[ZB]
 grind
theorem WU{e}{a b:List α}(hl:a.length=b.length)(h:∀k,k<a.length->∀x y,a[k]?=some x->b[k]?=some y->e x y=true):ZB e a b=true:=by
 simp[ZB,j0,k_,List.all_eq_true,List.mem_range]
 simp_all
def NJ(a b:B_):Bool:=decide (a=b)
theorem wq(a b):NJ a b=true↔a=b:=by simp[NJ]
def IC(a b:j_):Bool:=decide (a.id=b.id)&&decide (a.kind=b.kind)&&(decide (a.x=b.x)&&decide (a.y=b.y))&&decide (a.refs.length=b.refs.length)&&decide (a.tags.length=b.tags.length)
def MV(a b:j_):Bool:=IC a b&&(ZB NJ a.refs b.refs&&ZB vY a.tags b.tags)
theorem np{a b}:MV a b=true↔a=b:=by
 rw[MV,j0,j0,fm wq,fm UZ];cases a;cases b;simp[IC,j0,k_,j_.mk.injEq]
 grind
def SF(a b:j_)(n1 n2 n3 n4:Int):Bool:=!decide (a.id=b.id)||!decide (a.kind=b.kind)||!(decide (a.x=b.x)&&decide (a.y=b.y))||!decide (n1=n2)||!decide (n3=n4)
theorem WJ(a b):SF a b ((a.refs.map S_).length) ((b.refs.map S_).length) ((a.tags.map bP).length) ((b.tags.map bP).length)=!IC a b:=by simp[SF,IC,h_,Bool.not_and,Int.natCast_inj]
theorem Fm(a b:j_)(H:aF)(ha:a.refs.length<2^62)(ha2:a.tags.length<2^62):RC 265 [av (bM a),av (bM b)] (bv (MV a b)) H:=by
 refine Pu ?_;have hra:(a.refs.map S_).length=a.refs.length:=h_ _;have hta:(a.tags.map bP).length=a.tags.length:=h_ _;refine Bd func265 Z ntmps265<|C (kb 2)<|Y (kb 3)<|O U<|S<|S<|aR (t:=43) (n:=41) (A_:=SF a b ((a.refs.map S_).length:Int) ((b.refs.map S_).length:Int) ((a.tags.map bP).length:Int) ((b.tags.map bP).length:Int)) ?_ ?_
 ·all_goals refine Y (bD qQ)<|Y (bS N_)<|Y (bD qQ)<|Y (bS N_)<|Y GU<|Dm ?_<;>(refine Sp 12 (fun E=>?_) fun E=>?_)<;>(first|contradiction|refine M<|M<|M<|M<|M ?_|refine J (bD dZ)<|J (bS M_)<|J (bD dZ)<|J (bS M_)<|J AY ?_)<;>refine Y cE<|Dm ?_<;>(refine Sp 19 (fun A=>?_) fun A=>?_)<;>(first|contradiction|refine M<|M<|M<|M<|M ?_|refine J (bD mM)<|J (by exact aW Z eB sizeOf104 Z Z Z Z (by simp only[Zl,bP,bM,S_];rfl) Z)<|J (bD mM)<|J (by exact aW Z eB sizeOf104 Z Z Z Z (by simp only[Zl,bP,bM,S_];rfl) Z)<|J (J7 Z Z Z Z Z mJ (QP _ _ _ _)) ?_)<;>refine Y cE<|Dm ?_<;>(refine Sp 26 (fun z=>?_) fun z=>?_)<;>(first|contradiction|refine M<|M<|M<|M<|M<|M<|M ?_|refine J (bD dY)<|J (bS aH)<|J (fV aE)<|J (bD dY)<|J (bS aH)<|J (fV aE)<|J AY ?_)<;>refine Y cE<|Dm ?_<;>(refine Sp 35 (fun w=>?_) fun w=>?_)<;>(first|contradiction|refine M<|M<|M<|M<|M<|M<|M ?_|refine J (bD fU)<|J (bS dC)<|J (fV dL)<|J (bD fU)<|J (bS dC)<|J (fV dL)<|J AY ?_)<;>refine O cE ?_<;>exact Gj (h:=by first|(simp only[SF, *];rfl)|(simp_all[SF];done))
 refine Cn ?_ ?_<;>intro q
 ·rw[WJ]at q;refine Sz U<|aC<|Rt ?_;refine⟨?_,Z⟩;have:IC a b=false:=F_
  rw[MV,this];rfl
 rw[WJ]at q;have F:IC a b=true:=F_
 have hlens:a.refs.length=b.refs.length/\a.tags.length=b.tags.length:=by
  simp only[IC,j0,k_]at F;omega
 obtain ⟨B,D⟩:=hlens;rw[MV,F,Bool.true_and];refine aA<|S<|Sz U<|aD<|bC (σ:=Nat) (fun k=>([(2,.ref 2 0 0 0),(3,.ref 3 0 0 0),(5,iv (k:Int))],[(3,bx 6 135 ((bM b).map .pv)),(2,bx 6 135 ((bM a).map .pv))])) (fun k=>k<=a.refs.length/\∀j,j<k->∀x y,a.refs[j]?=some x->b.refs[j]?=some y->NJ x y=true) (fun k=>a.refs.length - k) 0 ⟨X,X⟩ ?_ ?_
 ·exact Wk
 rintro k ⟨I,s⟩;refine S<|C V<|Y (bD dY)<|Y (bS aH)<|Y (fV aE)<|O cM<|Cn ?_ ?_<;>intro v
 ·have hlt:k<a.refs.length:=I_ v
  obtain ⟨x,n⟩:=aU hlt;obtain ⟨y,p⟩:=aU (l:=b.refs) (k:=k) X;have N:=cC (f:=S_) n;have d_:=cC (f:=S_) p;refine aA<|S<|aD<|S<|aN a7<|Cq (bD dY)<|Cq (bS aH)<|Cq V<|Cq (iM bH)<|Cq (fY N_)<|Cq (bD dY)<|Cq (bS aH)<|Cq V<|Cq (iM bH)<|Cq (fY N_)<|Cq GU<|bJ<|Kr<|Cn ?_ ?_<;>intro t
  ·have u:NJ x y=false:=by
    have h:(!NJ x y)=true:=t
    simpa using h
   refine Sz U<|aC<|Rt ?_;exact⟨by rw[fo n p u];rfl,Z⟩
  have u:NJ x y=true:=by
   have h:(!NJ x y)=false:=t
   simpa using h
  refine aA<|Rd V<|Y gT<|Da ?_;refine⟨k+1,⟨X,fun j K G L e_ c_=>?_⟩,X,Wk⟩
  grind
 have hge:k=a.refs.length:=J_ v
 subst hge;rw[WU B s,Bool.true_and];refine aP<|S<|Sz U<|aD<|bC (σ:=Nat) (fun k=>([(2,.ref 2 0 0 0),(3,.ref 3 0 0 0),(6,iv (k:Int))],[(3,bx 6 135 ((bM b).map .pv)),(2,bx 6 135 ((bM a).map .pv))])) (fun k=>k<=a.tags.length/\∀j,j<k->∀x y,a.tags[j]?=some x->b.tags[j]?=some y->vY x y=true) (fun k=>a.tags.length - k) 0 ⟨X,X⟩ ?_ ?_
 ·exact Wk
 rintro k ⟨I,hall2⟩;refine S<|C V<|Y (bD fU)<|Y (bS dC)<|Y (fV dL)<|O cM<|Cn ?_ ?_<;>intro m
 ·have hlt:k<a.tags.length:=I_ m
  obtain ⟨x,n⟩:=aU hlt;obtain ⟨y,p⟩:=aU (l:=b.tags) (k:=k) X;have N:=cC (f:=bP) n;have d_:=cC (f:=bP) p;refine aA<|S<|aD<|S<|aN a7<|Cq (bD fU)<|Cq (bS dC)<|Cq V<|Cq (iM lI)<|Cq (by exact eU Z wX lL Z X (by simp only[Zl,bP,bM,S_];rfl) Z)<|Cq (bD fU)<|Cq (bS dC)<|Cq V<|Cq (iM lI)<|Cq (by exact eU Z wX lL Z X (by simp only[Zl,bP,bM,S_];rfl) Z)<|Cq (J7 Z Z Z Z Z eqGuardType270 (Wf _ _ _ _))<|bJ<|Kr ?_;refine Cn ?_ ?_<;>intro o
  ·have u:vY x y=false:=by
    have h:(!vY x y)=true:=o
    simpa using h
   refine Sz U<|aC<|Rt ?_;exact⟨by rw[fo n p u],Z⟩
  have u:vY x y=true:=by
   have h:(!vY x y)=false:=o
   simpa using h
  refine aA<|Rd V<|Y gT<|Da ?_;refine⟨k+1,⟨X,fun j K G L e_ c_=>?_⟩,X,Wk⟩
  grind
 have hge:k=a.tags.length:=J_ m
 subst hge;refine aP<|Sz U<|aC<|Rt ?_;exact⟨by rw[WU D hall2],Z⟩
theorem zj(a b):MV a b=yB a b:=by rw[Bool.eq_iff_iff,np,ID]
theorem Qu(a b)(H)(d:a.refs.length<2^62)(c:a.tags.length<2^62):RC 265 [av (bM a),av (bM b)] (bv (yB a b)) H:=by rw[<-zj];exact Fm a b H d c
def raw(e:b8)(s:B_):Prop:=s=e.id\/s=e.other\/s=e.node\/s=e.obj.id\/s∈e.refs\/s∈e.obj.refs
def rb(b:b8):Bool:=((((((!decide (b.id=a6)||!decide (b.other=a6))||!decide (b.node=a6))||!(decide (b.x=0)&&decide (b.y=0)))||!decide (b.key=a6))||!decide (b.val=a6))||decide ((0:Int)<((b.refs.map S_).length:Int)))||!yB b.obj g_
theorem HS(b):rb b=false↔(b.id=a6/\b.other=a6/\b.node=a6/\(b.x=0/\b.y=0)/\b.key=a6/\b.val=a6/\b.refs=[]/\b.obj=g_):=by
 have a:decide (0<((b.refs.map S_).length))=false↔b.refs=[]:=H_
 simp[rb,q9,Bool.not_eq_false',j0,k_,a,ID];constructor;all_goals simp_all
theorem vS(x y):mf x y=Y9 x y:=by rw[Bool.eq_iff_iff];simp[mf,Y9,j0,k_];omega
theorem EM:(a6.size:Int)<=200:=E_
def Lz(e:b8):b8:=⟨e.op,e.id,e.other,e.node,e.x,e.y,e.key,e.val,e.refs,g_⟩
theorem ed1(e)(ho:e.op=1):fT e=(!rb (Lz e)&&oH e.obj):=by
 obtain ⟨op,id,a,b,x,y,g,f,c,d⟩:=e;have h:=HS (Lz ⟨1,id,a,b,x,y,g,f,c,d⟩);rw[Bool.eq_iff_iff];simp[Lz]at h |-;simp[fT,j0,r8,h,pE,vS,wI,FH]
 grind
def Lx(e:b8):b8:=⟨e.op,a6,e.other,e.node,0,0,e.key,e.val,e.refs,e.obj⟩
theorem ed2(e)(ho:e.op=2):fT e=(!rb (Lx e)&&([e.id].all cG&&(decide ((e.val.size:Int)<=200)&&Y9 e.x e.y))):=by
 obtain ⟨op,id,a,b,x,y,g,f,c,d⟩:=e;have i:=HS (Lx ⟨2,id,a,b,x,y,g,f,c,d⟩);rw[Bool.eq_iff_iff];simp[Lx]at i |-;simp[fT,j0,r8,i,pE,vS,wI,FH];simp only[Int.reduceEq,if_true,if_false,reduceIte,Int.reduceLE,decide_true,b8.mk.injEq,true_and,and_true,List.all_cons,List.all_nil,Bool.and_true,j0,vS,k_,r8,q9,p_,h_,eq_comm,eq_comm,eq_comm,eq_comm];constructor
 ·intro h;have hs:=EM
  simp_all
 simp_all
def Lw(e:b8):b8:=⟨e.op,a6,e.other,e.node,e.x,e.y,a6,a6,e.refs,e.obj⟩
theorem ed3(e)(ho:e.op=3):fT e=(!rb (Lw e)&&([e.id,e.key].all cG&&decide ((e.val.size:Int)<=200))):=by
 obtain ⟨op,id,a,b,x,y,g,f,c,d⟩:=e;have h:=HS (Lw ⟨3,id,a,b,x,y,g,f,c,d⟩);rw[Bool.eq_iff_iff];simp[Lw]at h |-;simp[fT,j0,r8,h,pE,vS,wI,FH]
 grind
def Lv(e:b8):b8:=⟨e.op,a6,e.other,e.node,e.x,e.y,e.key,e.val,[],e.obj⟩
theorem ed4(e)(ho:e.op=4):fT e=(!rb (Lv e)&&((e.id::e.refs).all cG&&(!(decide (((e.refs.map S_).length:Int)<1)||decide (2000<((e.refs.map S_).length:Int)))&&decide ((e.val.size:Int)<=200)))):=by
 obtain ⟨op,id,b,c,x,y,i,f,d,g⟩:=e;have j:=HS (Lv ⟨4,id,b,c,x,y,i,f,d,g⟩);rw[Bool.eq_iff_iff];simp[Lv]at j |-;simp[fT,j0,r8,j,pE,vS,wI,FH];simp only[Int.reduceEq,if_true,if_false,reduceIte,Int.reduceLE,decide_true,b8.mk.injEq,true_and,and_true,List.all_cons,List.all_nil,Bool.and_true,j0,vS,k_,r8,q9,p_,h_,eq_comm,eq_comm,eq_comm,eq_comm];constructor
 ·intro h;have hs:=EM
  simp_all
  omega
 grind
def Lu(e:b8):b8:=⟨e.op,a6,e.other,e.node,e.x,e.y,e.key,e.val,e.refs,e.obj⟩
theorem ed5(e)(i:e.op=5):fT e=(!rb (Lu e)&&([e.id].all cG&&decide ((e.val.size:Int)<=200))):=by
 obtain ⟨op,id,a,b,x,y,g,f,c,d⟩:=e;subst i;have h:=HS (Lu ⟨5,id,a,b,x,y,g,f,c,d⟩);rw[Bool.eq_iff_iff];simp[Lu]at h |-;simp[fT,j0,r8,h,pE,vS,wI,FH];simp only[Int.reduceEq,if_true,if_false,reduceIte,Int.reduceLE,decide_true,b8.mk.injEq,true_and,and_true,List.all_cons,List.all_nil,Bool.and_true,j0,vS,k_,r8,q9,p_,h_,eq_comm,eq_comm,eq_comm,eq_comm];constructor
 ·have hs:=EM
  simp_all
 simp_all
def Ls(e:b8):b8:=⟨e.op,a6,a6,a6,e.x,e.y,e.key,e.val,e.refs,e.obj⟩
theorem ed6(e)(i:e.op=6):fT e=(!rb (Ls e)&&([e.id,e.node,e.other].all cG&&decide ((e.val.size:Int)<=200))):=by
 obtain ⟨op,id,a,b,x,y,g,f,c,d⟩:=e;subst i;have h:=HS (Ls ⟨6,id,a,b,x,y,g,f,c,d⟩);rw[Bool.eq_iff_iff];simp[Ls]at h |-;simp[fT,j0,r8,h,pE,vS,wI,FH];simp only[Int.reduceEq,if_true,if_false,reduceIte,Int.reduceLE,decide_true,b8.mk.injEq,true_and,and_true,List.all_cons,List.all_nil,Bool.and_true,j0,vS,k_,r8,q9,p_,h_,eq_comm,eq_comm,eq_comm,eq_comm];constructor
 ·have hs:=EM
  simp_all
 simp_all
def Lr(e:b8):b8:=⟨e.op,a6,a6,e.node,e.x,e.y,e.key,e.val,e.refs,e.obj⟩
theorem ed7(e)(i:e.op=7):fT e=(!rb (Lr e)&&([e.id,e.other].all cG&&decide ((e.val.size:Int)<=200))):=by
 obtain ⟨op,id,a,b,x,y,g,f,c,d⟩:=e;subst i;have h:=HS (Lr ⟨7,id,a,b,x,y,g,f,c,d⟩);rw[Bool.eq_iff_iff];simp[Lr]at h |-;simp[fT,j0,r8,h,pE,vS,wI,FH];simp only[Int.reduceEq,if_true,if_false,reduceIte,Int.reduceLE,decide_true,b8.mk.injEq,true_and,and_true,List.all_cons,List.all_nil,Bool.and_true,j0,vS,k_,r8,q9,p_,h_,eq_comm,eq_comm,eq_comm,eq_comm];constructor
 ·have hs:=EM
  simp_all
 simp_all
abbrev eY(l:List B_):List (List AV):=l.map (fun s=>(S_ s).map .pv)
theorem yY(l m):eY l++(m.map S_).map (·.map .pv)=eY (l++m):=H_
theorem wE(H)(l):∀r∈eY l,∀a∈r,Clo H a:=ZE _ _ _
instance(H)(l):W_ (H) (eY l):=⟨wE H l⟩
theorem JC(l:List _):∀r∈l.map S_,r.length=1:=fun r a=>by
 obtain ⟨o,_,rfl⟩:=List.mem_map.1 a;rfl
def bI(e:b8):B_:=if e.op=1 then e.id else a6
def bB(e:b8):j_:=if e.op=1 then g_ else e.obj
def bX(e:b8):Int:=if e.op=2 then 0 else e.x
def bY(e:b8):Int:=if e.op=2 then 0 else e.y
def bK(e:b8):B_:=if e.op=3 then a6 else e.key
def bV(e:b8):B_:=if e.op=3 then a6 else e.val
def bR(e:b8):List B_:=if e.op=4 then[]else e.refs
def bN(e:b8):B_:=if e.op=6 then a6 else e.node
def bO(e:b8):B_:=if(decide (e.op=6)||decide (e.op=7))=true then a6 else e.other
def wB(e:b8):b8:=⟨e.op,bI e,bO e,bN e,bX e,bY e,bK e,bV e,bR e,bB e⟩
abbrev bE(e:b8):Ob:=bx 15 137 ((bL e).map .pv)
def eNo:b8:=⟨0,a6,a6,a6,0,0,a6,a6,[],g_⟩
theorem aAm(e:b8)(H:aF):RC 264 [av (bL e)] (av (bL (wB e))) H:=by
 refine Pu ?_;rw[wB];obtain ⟨i,z⟩:∃x,x=bI e:=X_;obtain ⟨b,t⟩:∃x,x=bB e:=X_;obtain ⟨x,p⟩:∃x,x=bX e:=X_;obtain ⟨y,s⟩:∃x,x=bY e:=X_;obtain ⟨k,A⟩:∃x,x=bK e:=X_;obtain ⟨v,w⟩:∃x,x=bV e:=X_;obtain ⟨r,q⟩:∃x,x=bR e:=X_;obtain ⟨n,u⟩:∃x,x=bN e:=X_;obtain ⟨o,B⟩:∃x,x=bO e:=X_;rw[<-z,<-t,<-p,<-s,<-A,<-w,<-q,<-u,<-B];refine Bd func264 Z ntmps264<|C (kb 1)<|O (kl 2 UM)<|eN (fun(_:Unit)=>([(1,.ref 1 0 0 0),(2,.ref 2 0 0 0)],[(1,bE ⟨e.op,i,e.other,e.node,e.x,e.y,e.key,e.val,e.refs,b⟩),(2,bE eNo)])) (fun _=>True) ?_ ?_
 ·refine C (bD iL)<|Y (bS M_)<|O cD<|Cn ?_ ?_<;>intro j
  ·have h:=b9 j
   (rw[z,t,bI,bB,b6 h,b6 h])
   refine Rd (oO FC)<|Y (bD uS)<|Uu (by exact qL Z sizeOf135 Z Z Z Z Z Z Z (r9 Z) Z Z)<|Zz ?_;exact⟨(),T_,Wk⟩
  have h:=b_ j
  (rw[z,t,bI,bB,a8 h,a8 h])
  refine Rd (bD jN)<|Uu (ku V_)<|Zz ?_;exact⟨(),T_,Wk⟩
 rintro _ -;refine eN (fun(_:Unit)=>([(1,.ref 1 0 0 0),(2,.ref 2 0 0 0)],[(1,bE ⟨e.op,i,e.other,e.node,x,y,e.key,e.val,e.refs,b⟩),(2,bE eNo)])) (fun _=>True) ?_ ?_
 ·refine C (bD iL)<|Y (bS M_)<|O cD<|Cn ?_ ?_<;>intro l
  ·have h:=b9 l
   (rw[p,s,bX,bY,b6 h,b6 h])
   refine Rd (oO K0)<|Y (bD jC)<|Uu (by exact qL Z sizeOf104 Z Z Z Z Z Z Z (r9 Z) Z Z)<|Zz ?_;exact⟨(),T_,Wk⟩
  have h:=b_ l
  (rw[p,s,bX,bY,a8 h,a8 h])
  refine aA ?_;exact⟨(),T_,Wk⟩
 rintro _ -;refine eN (fun(_:Unit)=>([(1,.ref 1 0 0 0),(2,.ref 2 0 0 0)],[(1,bE ⟨e.op,i,e.other,e.node,x,y,k,v,e.refs,b⟩),(2,bE eNo)])) (fun _=>True) ?_ ?_
 ·refine C (bD iL)<|Y (bS M_)<|O cD<|Cn ?_ ?_<;>intro f
  ·have h:=b9 f
   (rw[A,w,bK,bV,b6 h,b6 h])
   refine C (bD nR)<|Uu (ku V_)<|Zz<|Rd (bD oM)<|Uu (ku V_)<|Zz ?_;exact⟨(),T_,Wk⟩
  have h:=b_ f
  (rw[A,w,bK,bV,a8 h,a8 h])
  refine aA ?_;exact⟨(),T_,Wk⟩
 rintro _ -;refine eN (fun(_:Unit)=>([(1,.ref 1 0 0 0),(2,.ref 2 0 0 0)],[(1,bE ⟨e.op,i,e.other,e.node,x,y,k,v,r,b⟩),(2,bE eNo)])) (fun _=>True) ?_ ?_
 ·refine C (bD iL)<|Y (bS M_)<|O cD<|Cn ?_ ?_<;>intro c
  ·have h:=b9 c
   (rw[q,bR,b6 h])
   refine Rd (bD iK)<|Uu (ku sizeOf22)<|Zz ?_;exact⟨(),T_,Wk⟩
  have h:=b_ c
  (rw[q,bR,a8 h])
  refine aA ?_;exact⟨(),T_,Wk⟩
 rintro _ -;refine eN (fun(_:Unit)=>([(1,.ref 1 0 0 0),(2,.ref 2 0 0 0)],[(1,bE ⟨e.op,i,e.other,n,x,y,k,v,r,b⟩),(2,bE eNo)])) (fun _=>True) ?_ ?_
 ·refine C (bD iL)<|Y (bS M_)<|O cD<|Cn ?_ ?_<;>intro d
  ·have h:=b9 d
   (rw[u,bN,b6 h])
   refine Rd (bD qP)<|Uu (ku V_)<|Zz ?_;exact⟨(),T_,Wk⟩
  have h:=b_ d
  (rw[u,bN,a8 h])
  refine aA ?_;exact⟨(),T_,Wk⟩
 rintro _ -;refine eN (fun(_:Unit)=>([(1,.ref 1 0 0 0),(2,.ref 2 0 0 0)],[(1,bE ⟨e.op,i,o,n,x,y,k,v,r,b⟩),(2,bE eNo)])) (fun _=>True) ?_ ?_
 ·refine S<|aR (t:=34) (n:=9) (A_:=decide (e.op=6)||decide (e.op=7)) ?_ ?_
  ·all_goals refine Y (bD iL)<|Y (bS M_)<|Y cD<|Dm ?_<;>(refine Sp 30 (fun m=>?_) fun m=>?_)<;>(first|contradiction|refine M<|M<|M ?_|refine J (bD iL)<|J (bS M_)<|J cD ?_)<;>refine O cE ?_<;>exact Gj (h:=by simp_all)
  refine Cn ?_ ?_<;>intro g
  ·have h:=g;rw[B,bO,b6 h];refine Rd (bD kG)<|Uu (ku V_)<|Zz ?_;exact⟨(),T_,Wk⟩
  have h:=g;rw[B,bO,a8 (by simp_all)];refine aA ?_;exact⟨(),T_,Wk⟩
 rintro _ -;refine C (vC cT aZ)<|Uu (iU aZ)<|Zz<|aC<|cR (H':=[]) (.inr Z) Z (CF cT aZ) (Fin.wk (r:=av (bL ⟨e.op,i,o,n,x,y,k,v,r,b⟩)) (by simp) T_ T_) Qq
def V1(e:b8):List B_:=if e.op=3 then[e.id]++[e.key]else[e.id]
def YU(e:b8):List B_:=if e.op=4 then V1 e++e.refs else V1 e
def ZZ(e:b8):List B_:=if e.op=6 then YU e++[e.node]else YU e
def Sw(e:b8):List B_:=if(decide (e.op=6)||decide (e.op=7))=true then ZZ e++[e.other]else ZZ e
def aCu(e:b8):Bool:=decide (((e.refs.map S_).length:Int)<1)||decide (2000<((e.refs.map S_).length:Int))
def vG(e:b8):Bool:=!rb (wB e)&&(if e.op=1 then oH e.obj else(Sw e).all cG&&(!(decide (e.op=4)&&aCu e)&&(decide ((e.val.size:Int)<=200)&&(!decide (e.op=2)||Y9 e.x e.y))))
theorem aBZ(e)(h:1<=e.op/\e.op<=7):fT e=vG e:=by
 obtain ⟨a,id,other,node,x,y,key,val,refs,obj⟩:=e;simp only at h;rcases(by omega:a=1\/a=2\/a=3\/a=4\/a=5\/a=6\/a=7)with rfl|rfl|rfl|rfl|rfl|rfl|rfl
 ·rw[ed1 _ rfl];rfl
 ·rw[ed2 _ rfl];rfl
 ·rw[ed3 _ Z,vG];show _=(_&&(_&&(true&&(_&&true))));rw[Bool.and_true];rfl
 ·rw[ed4 _ Z,vG];show _=(_&&(_&&(!(true&&_)&&(_&&true))));rw[Bool.and_true];rfl
 ·rw[ed5 _ Z,vG];show _=(_&&(_&&(true&&(_&&true))));rw[Bool.and_true];rfl
 ·rw[ed6 _ Z,vG];show _=(_&&(_&&(true&&(_&&true))));rw[Bool.and_true];rfl
 rw[ed7 _ Z,vG];show _=(_&&(_&&(true&&(_&&true))));rw[Bool.and_true];rfl
theorem tj(e):(Sw e).length<=e.refs.length+5:=by
 rw[Sw,ZZ,YU,V1]
 grind
theorem Ta(e):(V1 e).length<=e.refs.length+5:=by rw[V1];all_goals grind
theorem Sy(e):(YU e).length<=e.refs.length+5:=by
 rw[YU,V1]
 grind
theorem Sx(e):(ZZ e).length<=e.refs.length+5:=by
 rw[ZZ,YU,V1]
 grind
theorem KG{P:α->Prop}{p}[Decidable p](ha:∀s∈a,P s)(hb:∀s∈b,P s):∀s∈(if p then a else b),P s:=G_
theorem KH{P:α->Prop}(c:∀s∈a,P s)(d:∀s∈b,P s):∀s∈a++b,P s:=fun s e=>(List.mem_append.1 e).elim (c s) (d s)
theorem EP{P:α->Prop}{a}(h:P a):∀s∈[a],P s:=fun s hs=>by
 simp_all
theorem Sv{e}(j:UB e):∀s∈Sw e,s.size<2^62:=by obtain ⟨⟨d,i,f,h⟩,⟨h5,g⟩,h7⟩:=j;have c:∀s∈V1 e,s.size<2^62:=KG (KH (EP d) (EP h)) (EP d);have b:∀s∈YU e,s.size<2^62:=KG (KH c g) c;have a:∀s∈ZZ e,s.size<2^62:=KG (KH b (EP f)) b;exact KG (KH a (EP i)) a
def Wm(e:b8):List B_:=[e.id]
theorem xt(e:b8)(H:aF)(he:UB e)(hr:e.refs.length<2^40):RC 220 [av (bL e)] (bv (fT e)) H:=by
 refine Pu ?_;have hnm:=Sv he;have hnl:=tj e;have hrl:(e.refs.map S_).length=e.refs.length:=h_ _;have hbo:(wB e).obj.refs.length<2^62/\(wB e).obj.tags.length<2^62:=by
  show (bB e).refs.length<_/\(bB e).tags.length<_;rw[bB]
  split
  ·exact⟨by decide,by decide⟩
  exact⟨he.2.2.2.2.1,he.2.2.2.1.1⟩
 refine Bd func220 Z ntmps220<|C (kb 1)<|O U<|S<|S<|aR (t:=13) (n:=9) (A_:=decide (e.op<1)||decide (7<e.op)) ?_ ?_
 ·all_goals refine Y (bD iL)<|Y (bS M_)<|Y cM<|Dm ?_<;>(refine Sp 9 (fun h9=>?_) fun h9=>?_)<;>(first|contradiction|refine M<|M<|M ?_|refine J (bD iL)<|J (bS M_)<|J iY ?_)<;>refine O cE ?_<;>(exact⟨⟨_,Z,by grind⟩,Z,Z,Z⟩)
 refine Cn ?_ ?_<;>intro hc1
 ·have h:=hc1;have hs:fT e=false:=by
   simp only[Bool.or_eq_true,k_]at h;rw[fT,Bool.and_eq_false_iff,Bool.and_eq_false_iff,p_,p_];omega
  rw[hs];exact Sz U<|aC<|Rt<|Qq
 have h:=hc1;simp only[q9,p_]at h;rw[aBZ e X,vG];have hrb:rb (wB e)=(((((((!decide ((wB e).id=a6)||!decide ((wB e).other=a6))||!decide ((wB e).node=a6))||!(decide ((wB e).x=0)&&decide ((wB e).y=0)))||!decide ((wB e).key=a6))||!decide ((wB e).val=a6))||decide ((0:Int)<(((wB e).refs.map S_).length:Int)))||!yB (wB e).obj g_):=rfl;have hbc:=fun H=>aAm e H;obtain ⟨G,hG⟩:∃G,G=wB e:=X_;simp only[<-hG]at hrb hbo hbc;rw[<-hG];clear hG;obtain ⟨g0,g1,g2,g3,g4,g5,g6,g7,g8,g9⟩:=G;simp only at hrb hbo;refine aA<|C (by exact aW Z cT aZ Z Z Z Z (by simp only[Zl,bP,bM,S_,bL,g_];rfl) Z)<|Y (kc call264 (hbc _))<|Y (kl 3 UM)<|Uu (iU aZ)<|Zz<|S<|S ?_;refine aR (t:=57) (n:=49) (A_:=rb ⟨g0,g1,g2,g3,g4,g5,g6,g7,g8,g9⟩) ?_ ?_
 ·all_goals refine Y (bD jN)<|Y (bS N_)<|Y GU<|Dm ?_<;>(refine Sp 19 (fun h19=>?_) fun h19=>?_)<;>(try(with_reducible contradiction))<;>(first|refine M<|M<|M ?_|refine J (bD kG)<|J (bS N_)<|J GU ?_)<;>refine Y cE<|Dm ?_<;>(refine Sp 24 (fun h24=>?_) fun h24=>?_)<;>(try(with_reducible contradiction))<;>(first|refine M<|M<|M ?_|refine J (bD qP)<|J (bS N_)<|J GU ?_)<;>refine Y cE<|Dm ?_<;>(refine Sp 29 (fun h29=>?_) fun h29=>?_)<;>(try(with_reducible contradiction))<;>(first|refine M<|M<|M<|M ?_|refine J (bD jC)<|J (by exact aW Z eB sizeOf104 Z Z Z Z (by simp only[Zl,bP,bM,S_,bL,g_];rfl) Z)<|J (oO K0)<|J (by exact J7 Z Z Z Z Z mJ (QP _ _ _ _)) ?_)<;>refine Y cE<|Dm ?_<;>(refine Sp 35 (fun h35=>?_) fun h35=>?_)<;>(try(with_reducible contradiction))<;>(first|refine M<|M<|M ?_|refine J (bD nR)<|J (bS N_)<|J GU ?_)<;>refine Y cE<|Dm ?_<;>(refine Sp 40 (fun h40=>?_) fun h40=>?_)<;>(try(with_reducible contradiction))<;>(first|refine M<|M<|M ?_|refine J (bD oM)<|J (bS N_)<|J GU ?_)<;>refine Y cE<|Dm ?_<;>(refine Sp 45 (fun h45=>?_) fun h45=>?_)<;>(try(with_reducible contradiction))<;>(first|refine M<|M<|M<|M ?_|refine J (bD iK)<|J (bS aH)<|J (fV aE)<|J iY ?_)<;>refine Y cE<|Dm ?_<;>(refine Sp 51 (fun h51=>?_) fun h51=>?_)<;>(try(with_reducible contradiction))<;>(first|refine M<|M<|M<|M<|M ?_|refine J (bD uS)<|J (by exact aW Z bW sizeOf135 Z Z Z Z (by simp only[Zl,bP,bM,S_,bL,g_];rfl) Z)<|J (oO FC)<|J (kc call265 (Qu g9 g_ _ hbo.1 hbo.2))<|J iT ?_)<;>refine O cE ?_<;>exact Gj (h:=by simp_all)
 refine Cn ?_ ?_<;>intro hc2
 ·have h2:=hc2;rw[h2,Bool.not_true,Bool.false_and];exact Sz U<|aC<|Rt<|Qq
 have h2:=hc2;rw[h2,Bool.not_false,Bool.true_and];clear hrb hbo h2;refine aA<|S<|C (bD iL)<|Y (bS M_)<|O cD<|Cn ?_ ?_<;>intro hc3
 ·have h3:e.op=1:=b9 hc3;rw[b6 h3];exact C (bD uS)<|Y (by exact aW Z bW sizeOf135 Z Z Z Z (by simp only[Zl,bP,bM,S_,bL,g_];rfl) Z)<|Y (kc call261 (Gl e.obj _ he.2.2))<|O U<|aC<|Rt<|Qq
 have h3:¬ e.op=1:=b_ hc3;rw[a8 h3];refine aA<|C (bD jN)<|Y (bS N_)<|Y (by exact gH (id:=66) Z bH Z Z Z Z (by simp) Z)<|Da<|eN (fun(g:Nat)=>([(1,.ref 1 0 0 0),(4,.osl 66 g 0 (V1 e).length)],[(1,bE e),(66,⟨g,1,9,eY (V1 e)⟩)])) (fun _=>True) ?_ ?_
 ·refine C (bD iL)<|Y (bS M_)<|O cD<|Cn ?_ ?_<;>intro hc4
  ·have h:=b9 hc4;have hm:V1 e=Wm e++[e.key]:=b6 h;have hl:(Wm e).length+([e.key]).length=(Wm e++[e.key]).length:=j9.symm;have hb:(Wm e++[e.key]).length<8796093022208:=by rw[<-hm];have:=Ta e;omega
   rw[hm];refine Rd V<|Y (bD nR)<|Y (bS N_)<|Y (by exact aL [S_ e.key] Z bH Z Z Z Z Z (by simp[S_]))<|Y (by exact cA (ps:=([e.key]).map S_) Z bH xE Z Z Z Z Z (show (eY (Wm e)).length=(Wm e).length from h_ _) Z (JC _) (m:=([e.key]).length) (h_ _) (by omega) hl (yY (Wm e) [e.key]))<|Da ?_;exact⟨0+1,T_,(cJ.wk (Ea<|Ea<|T_) (Hb<|Hc (wE _ _)<|T_) T_)⟩
  have h:=hc4;have hm:V1 e=Wm e:=a8 (by exact b_ h);rw[hm];refine aA ?_;exact⟨0,T_,Wk⟩
 rintro g -;refine eN (fun(g:Nat)=>([(1,.ref 1 0 0 0),(4,.osl 66 g 0 (YU e).length)],[(1,bE e),(66,⟨g,1,9,eY (YU e)⟩)])) (fun _=>True) ?_ ?_
 ·refine C (bD iL)<|Y (bS M_)<|O cD<|Cn ?_ ?_<;>intro hc5
  ·have h:=b9 hc5;have hm:YU e=V1 e++e.refs:=b6 h;have hl:(V1 e).length+(e.refs).length=(V1 e++e.refs).length:=j9.symm;have hb:(V1 e++e.refs).length<8796093022208:=by rw[<-hm];have:=Sy e;omega
   rw[hm];refine Rd V<|Y (bD iK)<|Y (bS aH)<|Y (by exact cA (ps:=(e.refs).map S_) Z bH xE Z Z Z Z Z (show (eY (V1 e)).length=(V1 e).length from h_ _) Z (JC _) (m:=(e.refs).length) (h_ _) (by omega) hl (yY (V1 e) e.refs))<|Da ?_;exact⟨g+1,T_,(cJ.wk (Ea<|Ea<|T_) (Hb<|Hc (wE _ _)<|T_) T_)⟩
  have h:=hc5;have hm:YU e=V1 e:=a8 (by exact b_ h);rw[hm];refine aA ?_;exact⟨g,T_,Wk⟩
 rintro g -;refine eN (fun(g:Nat)=>([(1,.ref 1 0 0 0),(4,.osl 66 g 0 (ZZ e).length)],[(1,bE e),(66,⟨g,1,9,eY (ZZ e)⟩)])) (fun _=>True) ?_ ?_
 ·refine C (bD iL)<|Y (bS M_)<|O cD<|Cn ?_ ?_<;>intro hc6
  ·have h:=b9 hc6;have hm:ZZ e=YU e++[e.node]:=b6 h;have hl:(YU e).length+([e.node]).length=(YU e++[e.node]).length:=j9.symm;have hb:(YU e++[e.node]).length<8796093022208:=by rw[<-hm];have:=Sx e;omega
   rw[hm];refine Rd V<|Y (bD qP)<|Y (bS N_)<|Y (by exact aL [S_ e.node] Z bH Z Z Z Z Z (by simp[S_]))<|Y (by exact cA (ps:=([e.node]).map S_) Z bH xE Z Z Z Z Z (show (eY (YU e)).length=(YU e).length from h_ _) Z (JC _) (m:=([e.node]).length) (h_ _) (by omega) hl (yY (YU e) [e.node]))<|Da ?_;exact⟨g+1,T_,(cJ.wk (Ea<|Ea<|T_) (Hb<|Hc (wE _ _)<|T_) T_)⟩
  have h:=hc6;have hm:ZZ e=YU e:=a8 (by exact b_ h);rw[hm];refine aA ?_;exact⟨g,T_,Wk⟩
 rintro g -;refine eN (fun(g:Nat)=>([(1,.ref 1 0 0 0),(4,.osl 66 g 0 (Sw e).length)],[(1,bE e),(66,⟨g,1,9,eY (Sw e)⟩)])) (fun _=>True) ?_ ?_
 ·refine S<|aR (t:=97) (n:=9) (A_:=decide (e.op=6)||decide (e.op=7)) ?_ ?_
  ·all_goals refine Y (bD iL)<|Y (bS M_)<|Y cD<|Dm ?_<;>(refine Sp 93 (fun h93=>?_) fun h93=>?_)<;>(try(with_reducible contradiction))<;>(first|refine M<|M<|M ?_|refine J (bD iL)<|J (bS M_)<|J cD ?_)<;>refine O cE ?_<;>exact Gj (h:=by(rw[h93];rfl))
  refine Cn ?_ ?_<;>intro hc7
  ·have h:=id hc7;have hm:Sw e=ZZ e++[e.other]:=b6 h;have hl:(ZZ e).length+([e.other]).length=(ZZ e++[e.other]).length:=j9.symm;have hb:(ZZ e++[e.other]).length<8796093022208:=by rw[<-hm];have:=tj e;omega
   rw[hm];refine Rd V<|Y (bD kG)<|Y (bS N_)<|Y (by exact aL [S_ e.other] Z bH Z Z Z Z Z (by simp[S_]))<|Y (by exact cA (ps:=([e.other]).map S_) Z bH xE Z Z Z Z Z (show (eY (ZZ e)).length=(ZZ e).length from h_ _) Z (JC _) (m:=([e.other]).length) (h_ _) (by omega) hl (yY (ZZ e) [e.other]))<|Da ?_;exact⟨g+1,T_,(cJ.wk (Ea<|Ea<|T_) (Hb<|Hc (wE _ _)<|T_) T_)⟩
  have h:=hc7;have hm:Sw e=ZZ e:=a8 (by(rw[h];decide));rw[hm];refine aA ?_;exact⟨g,T_,Wk⟩
 rintro g -;obtain ⟨N,hN⟩:∃N,N=Sw e:=X_;rw[<-hN]at hnm hnl;rw[<-hN];clear hN;have hNl:(N.map S_).length=N.length:=h_ _;refine S<|S ?_;refine fZ.ent (cJ.fz (id:=66) (E':=[(1,.ref 1 0 0 0),(4,.pv (aK N))]) (H':=[(1,bE e)]) (N.map S_) Z (Qj S_ N)
  (by intro p hp;simp only[l7,n_,or_false]at hp;rcases hp with rfl|rfl;exact⟨_,Z,.same (.ref Z)⟩;exact⟨_,Z,.osl (by rw[r7,List.drop_zero,<-List.length_map (f:=S_),List.take_length])⟩) Z ⟨⟨_,Z,Z⟩,(by(simp;done)),T_⟩ T_) ?_
 refine Rg<|O U<|aD<|bC (σ:=Nat) (fun q=>([(1,.ref 1 0 0 0),(4,.pv (aK N)),(5,iv (q:Int))],[(1,bE e)])) (fun q=>q<=N.length/\∀j,j<q->∀b,N[j]?=some b->(!cG b)=false) (fun q=>N.length - q) 0 ⟨by omega,by omega⟩ ?_ ?_
 ·exact Wk
 rintro q ⟨hq,hno⟩;refine S<|C V<|Y V<|Y (fV aE)<|O cM<|Cn ?_ ?_<;>intro hc8
 ·have hlt:q<N.length:=by have:=b9 hc8;omega
  obtain ⟨s,hs⟩:=aU hlt;have hi:=cC (f:=S_) hs;refine aA<|S<|aD<|C V<|Y V<|Y (iM bH)<|Y (fY N_)<|Y (kc fS (kZ s _ (hnm s (m7 hs))))<|O iT<|Cn ?_ ?_<;>intro hc9
  ·have hb:(!cG s)=true:=hc9;have hall:N.all cG=false:=by
    rw[List.all_eq_false];exact⟨s,m7 hs,by simpa using hb⟩
   rw[hall];exact Sz U<|aC<|Rt<|Qq
  have hb:(!cG s)=false:=hc9;refine aA<|Rd V<|Y gT<|Da ?_;exact⟨q+1,⟨by omega,RK hno hs hb⟩,by omega,Wk⟩
 have hge:q=N.length:=by have:=b_ hc8;omega
 subst hge;have hall:N.all cG=true:=by
  rw[List.all_eq_true];intro s hs;obtain ⟨j,hj⟩:=r_.1 hs;have:=hno j (m_.1 hj).1 s hj
  simpa using this
 rw[hall,Bool.true_and,aCu];clear hnm hnl hno hall he;refine aP<|S<|S<|aR (t:=129) (n:=17) (A_:=decide (e.op=4)&&(decide (((e.refs.map S_).length:Int)<1)||decide (2000<((e.refs.map S_).length:Int)))) ?_ ?_
 ·all_goals refine Y (bD iL)<|Y (bS M_)<|Y cD<|Dm ?_<;>(refine Sp 118 (fun h118=>?_) fun h118=>?_)<;>(try(with_reducible contradiction))<;>(first|refine M<|M<|M<|M<|M ?_|refine J (bD iK)<|J (bS aH)<|J (fV aE)<|J cM<|J V ?_)<;>(first|refine Sp 123 (fun h123=>?_) fun h123=>?_|refine kI (t:=123) Z ?_)<;>(try(with_reducible contradiction))<;>(first|refine M ?_|refine Fu ?_|refine J (bD iK) ?_)<;>(first|refine M ?_|refine Fu ?_|refine J (bS aH) ?_)<;>(first|refine M ?_|refine Fu ?_|refine J (fV aE) ?_)<;>(first|refine M ?_|refine Fu ?_|refine J iY ?_)<;>(first|refine M ?_|refine J cE ?_)<;>refine O cE ?_<;>exact Gj (h:=by first|(rw[h118];rfl)|(rw[h118,h123];rfl))
 refine Cn ?_ ?_<;>intro hc10
 ·have h5:=hc10;rw[h5];exact Sz U<|aC<|Rt<|Qq
 have h5:=hc10;rw[h5,Bool.not_false,Bool.true_and];refine aA<|S<|aR (t:=2) (n:=17) (A_:=decide ((e.val.size:Int)<=200)&&(!decide (e.op=2)||Y9 e.x e.y)) ?_ ?_
 ·all_goals refine Y (bD oM)<|Y (bS N_)<|Y (gM U_)<|Y IA<|Dm ?_<;>(refine Sp 134 (fun h134=>?_) fun h134=>?_)<;>(try(with_reducible contradiction))<;>(first|refine M<|M<|M<|M ?_|refine J (bD iL)<|J (bS M_)<|J AY<|J V ?_)<;>(first|refine Sp 138 (fun h138=>?_) fun h138=>?_|refine kI (t:=138) Z ?_)<;>(try(with_reducible contradiction))<;>(first|refine M ?_|refine Fu ?_|refine J (bD jC) ?_)<;>(first|refine M ?_|refine Fu ?_|refine J (by exact aW Z eB sizeOf104 Z Z Z Z (by simp only[Zl,bP,bM,S_,bL,g_];rfl) Z) ?_)<;>(first|refine M ?_|refine Fu ?_|refine J (kc aES (Gk e.x e.y _)) ?_)<;>(first|refine M ?_|refine J cE ?_)<;>refine Y cE<|Da ?_<;>exact Gj (h:=by first|(rw[h134];rfl)|(rw[h134,h138];rfl))
 exact aC<|Rt<|Qq
theorem xw(l:List b8)(H:aF)(hl:l.length<2^40)(s:∀e∈l,UB e)(p:∀e∈l,e.refs.length<2^40):RC 165 [.pv (jZ l)] (bv (lD l)) H:=by
 refine Pu ?_;have hml:(l.map bL).length=l.length:=h_ _;refine Bd func165 Z ntmps165<|Sz U<|S<|S<|aR (t:=11) (n:=9) (A_:=decide (((l.map bL).length:Int)<1)||decide (200<((l.map bL).length:Int))) ?_ ?_
 ·all_goals refine Y V<|Y (fV eS)<|Y cM<|Dm ?_<;>(refine Sp 7 (fun q=>?_) fun q=>?_)<;>(first|contradiction|refine M<|M<|M ?_|refine J V<|J (fV eS)<|J iY ?_)<;>refine O cE ?_<;>(exact⟨⟨_,Z,G_⟩,Z,Z,Z⟩)
 refine Cn ?_ ?_<;>intro g
 ·have o:lD l=false:=by
   simp only[Bool.or_eq_true,k_]at g;rw[lD,Bool.and_eq_false_iff,Bool.and_eq_false_iff,p_,p_];omega
  refine Sz U<|aC<|Rt ?_
  simp_all
 have o:lD l=!(l.any (fun e=>!fT e)):=by
  simp only[q9,p_]at g;rw[lD,decide_eq_true (by omega:(0:Int)<(l.length:Int)),decide_eq_true (by omega:(l.length:Int)<=200)];rfl
 rw[o];refine aA<|S<|Sz U<|aD<|bC (σ:=Nat) (fun k=>([(0,.pv (jZ l)),(3,iv (k:Int))],[])) (fun k=>k<=l.length/\∀j,j<k->∀b,l[j]?=some b->(!fT b)=false) (fun k=>l.length - k) 0 ⟨X,X⟩ ?_ ?_
 ·exact E0
 rintro k ⟨hk,f⟩;refine S<|C V<|Y V<|Y (fV eS)<|O cM<|Cn ?_ ?_<;>intro d
 ·have i:k<l.length:=I_ d
  obtain ⟨e,h⟩:=aU i;have hi:=cC (f:=bL) h;refine aA<|S<|aD<|C V<|Y V<|Y (iM ay)<|Y (by exact eU Z cT aZ Z X (by simp only[Zl,bP,bM,S_,bL,g_];rfl) Z)<|Y (kc call220 (xt e _ (s e (m7 h)) (p e (m7 h))))<|O iT ?_;refine Cn ?_ ?_<;>intro m
  ·refine Sz U<|aC<|Rt ?_
   grind
  refine aA<|Rd V<|Y gT<|Da ?_;exact⟨k+1,⟨X,RK f h m⟩,X,E0⟩
 have n:k=l.length:=J_ d
 subst n;refine aP<|Sz U<|aC<|Rt ?_;exact⟨by rw[Mh f];rfl,Z⟩
def aCd(l:List B_):Prop:=l.Pairwise (fun a b=>lY a b=true)
end Go.Proofs.YtopnleflllkbmaaGreatDoor
section
namespace Go.Abs
theorem T7{P}{N}{o}{E}{H}{T}{t}{e}{id g off len sz:Nat}{ob}{b}{rows'}(z:o.op=.call {callee:=.builtin .clear,args:=#[.tmp t],argTypes:=#[T]})(hS:fF P T e sz)(s:eO P e b)(f:b.length=sz)
  (r:E.get t=some (.osl id g off len)) (p:H.get id=some ob) (q:ob.g=g) (i:ob.sz=sz) (h:off<=ob.rows.length) (d:ob.rows.take off++(List.replicate len b++ob.rows.drop (off+len))=rows') :
  cL P N o E H .any ((id,⟨g,sz,ob.ty,rows'⟩)::H):=by
 intro a w I ι A y n m K Q l;obtain ⟨v,hv,j⟩:=m t _ r;obtain ⟨c,h3,h4,h5⟩:=tc n j p q;refine yk (E:=(t,.osc _ g _ _ c)::E) z hS s f (cY.get_cons_same _ _ _) p q i h d a w I _ A y n (fun u x k=>?_) K Q l;by_cases e:t=u
 ·subst e;rw[cY.get_cons_same]at k;simp_all
 rw[cY.get_cons_other _ _ e]at k;exact m u x k
end Go.Abs
namespace Go.Proofs.YtopnleflllkbmaaGreatDoor
open Go.Proofs.Tryz
open Go.Abs
def fJ:List B_->List B_
 | []=>[]
 | [x]=>[x]
 |x::y::r=>if x=y then fJ (y::r)else x::fJ (y::r)
theorem M2:∀(l) (x y),fJ (l++[x,y])=fJ (l++[x])++(if x=y then[]else[y])
 | [],x,y=>by
  show (if x=y then fJ [y]else x::fJ [y])=[x]++_;by_cases e:x=y
  ·rw[b6 e,b6 e,e];rfl
  rw[a8 e,a8 e];rfl
 | [a],x,y=>by
  show (if a=x then fJ _ else a::fJ _)=(if a=x then fJ [x]else a::fJ [x])++_;have:=M2 [] x y;rw[show fJ [x,y]=fJ ([]++[x,y])from Z,this]
  split<;>rfl
 |a::b::l,x,y=>by
  have:=M2 (b::l) x y;show (if a=b then fJ ((b::l)++[x,y])else a::fJ ((b::l)++[x,y]))=(if a=b then fJ ((b::l)++[x])else a::fJ ((b::l)++[x]))++_
  grind
theorem W4{L:List B_}{k:Nat}{x y:B_}(hk:1<=k)(b:L[k - 1]?=some x)(c:L[k]?=some y):fJ (L.take (k+1))=fJ (L.take k)++(if x=y then[]else[y]):=by
 obtain ⟨j,rfl⟩:∃j,k=j+1:=⟨k - 1,X⟩;rw[show j+1 - 1=j by omega]at b;have a:L.take (j+1)=L.take j++[x]:=by rw[List.take_add_one,b];rfl
 have d:L.take (j+1+1)=L.take j++[x,y]:=by rw[List.take_add_one,a,c,List.append_assoc];rfl
 rw[d,a,M2]
theorem FA:∀ {l} {x},x∈fJ l↔x∈l
 | [],x=>Iff.rfl
 | [a],x=>Iff.rfl
 | a::b::l,x=>by
  show x∈(if a=b then fJ _ else a::fJ _)↔_;have c:=FA (l:=b::l) (x:=x)
  split
  ·next e =>
   rw[c,e];simp
  rw[l7,c,List.mem_cons (b:=a)]
theorem KY:∀ {l},l.Pairwise (fun a b=>lY b a=false)->aCd (fJ l)
 | [],_=>.nil
 | [a],_=>List.pairwise_singleton _ _
 | a::b::l,h=>by
  have j:=(List.pairwise_cons.1 h).2;have i:=KY j;show aCd (if a=b then fJ _ else a::fJ _)
  split
  ·exact i
  next e =>
  refine List.pairwise_cons.2 ⟨fun y m=>?_,i⟩;have d:=FA.1 m;have g:=(List.pairwise_cons.1 h).1 b List.mem_cons_self;have c:lY a b=true:=by
   cases f:lY a b with
   |true=>rfl
   |false=>exact absurd (FO f g) e
  rcases l7.1 d with rfl|d
  ·exact c
  have k:=(List.pairwise_cons.1 j).1 y d;cases f:lY b y with
  |true=>exact FP c f
  |false=>rw[FO k f];exact c
theorem WM:∀(l),(fJ l).length<=l.length
 | []=>j6 _
 | [a]=>j6 _
 |a::b::l=>by
  have ih:=WM (b::l);show (if a=b then fJ _ else a::fJ _).length<=(b::l).length+1
  grind
theorem JD{l}{i:Nat}{s}(h:l[i]?=some s):(tJ l)[i]?=some ((S_ s).map .pv):=F_
theorem mr{P L:List B_}{j}{s}(h:P.length<=j)(hs:L[j]?=some s):(P++L.drop P.length)[j]?=some s:=G_
theorem nr{H:aF}{id}{o}(h:H.get id=some o)(j):aF.get ((id,o)::H) j=H.get j:=by
 by_cases e:j=id
 ·subst e;rw[get_cons_same,h]
 exact get_cons_other _ _ e
theorem W3(L:List B_)(g:Nat)(H:aF)(h1:H.get 901=some ⟨g,1,9,tJ L⟩)(hl:L.length<2^40):
  aS Tryz.prog 31 [.osl 901 g 0 L.length] H (fun r H'=>r=.osl 901 g 0 (fJ L).length/\H'=(901,⟨g,1,9,tJ (fJ L++List.replicate (L.length - (fJ L).length) a6)⟩)::H):=by
 refine Bd func31 Z ntmps31 ?_;refine fZ.ent (E':=[(0,.osl 901 g 0 L.length)]) (H':=(901,⟨g,1,9,tJ L⟩)::H) (cJ.get' ⟨⟨_,Z,Z⟩,T_⟩ (nr h1))<|Sz U<|S<|C V<|Y (by exact dT Z aE Z Z Z)<|O cM<|Cn ?_ ?_<;>intro E
 ·have N:L.length<2:=by have:=b9 E;omega
  have o_:fJ L=L:=by
   match L,N with
   | [],_=>rfl
   | [a],_=>rfl
  refine C V<|O U<|aC<|cR (H':=(901,⟨g,1,9,tJ L⟩)::H) (.inr Z) Z (aJ Z) Fin.refl ⟨by rw[o_],by simp_all⟩
 have hge:2<=L.length:=by have:=b_ E;omega
 refine aA<|S<|Sz U<|aD<|bC (σ:=Nat) (fun i=>([(0,.osl 901 g 0 L.length),(3,iv (i:Int))],(901,⟨g,1,9,tJ L⟩)::H)) (fun i=>1<=i/\i<=L.length/\fJ (L.take i)=L.take i) (fun i=>L.length - i) 1 ⟨by omega,by omega,by
  obtain ⟨x,K⟩:=aU (l:=L) (k:=0) (by omega);rw[List.take_add_one,K];rfl⟩ ?_ ?_
 ·exact cJ.get' ⟨⟨_,Z,Z⟩,⟨_,Z,Z⟩,T_⟩ (fun j=>rfl)
 rintro i ⟨P,hi2,f⟩;refine S<|C V<|Y V<|Y (by exact dT Z aE Z Z Z)<|O cM<|Cn ?_ ?_<;>intro I
 ·have w:i<L.length:=by have:=b9 I;omega
  obtain ⟨y,z_⟩:=aU w;obtain ⟨x,K⟩:=aU (l:=L) (k:=i - 1) (by omega);have e_:=W4 P K z_;refine aA<|S<|aD<|S<|aN a7<|Cq V<|Cq V<|Cq (by exact dI Z bH Z Z Z Z Z (by omega) (by rfl) w (r7 _))<|Cq (by exact aX Z N_ Z Z Z (JD z_) Z)<|Cq V<|Cq V<|Cq (by exact dP Z Z Z (by exact qD (by omega) (by omega)))<|Cq (by exact dI (m:=i - 1) Z bH Z Z Z Z Z (by omega) (show ((i:Int) - 1).toNat=i - 1 by omega) (by omega) (r7 _))<|Cq (by exact aX Z N_ Z Z Z (JD K) Z)<|Cq wF<|bJ<|Kr<|Cn ?_ ?_<;>intro F
  ·have n:=b9 F;rw[b6 n.symm,List.append_nil,f]at e_;refine C V<|Y V<|Y (by exact kJ (l:=i) (h:=L.length) Z bH Z Z Z Z Z Z (by omega) (j6 _) (r7 _) Z)<|O U<|S<|Sz U<|aD<|fR (fun(k:Nat) (R:List B_)=>([(0,.osl 901 g 0 L.length),(3,iv (R.length:Int)),(4,.osl 901 g i (L.length - i)),(5,iv (k:Int))],(901,⟨g,1,9,tJ (R++L.drop R.length)⟩)::H)) (fun k R=>1<=k/\i+k<=L.length/\R=fJ (L.take (i+k))/\R.length+1<=i+k) (fun k R=>L.length - (i+k)) 1 (L.take i) ⟨by omega,by omega,e_.symm,by simp_all⟩ ?_ ?_
   ·have f_:(L.take i).length=i:=by simp_all
    rw[f_,List.take_append_drop];exact cJ.get' ⟨⟨_,Z,Z⟩,⟨_,Z,Z⟩,⟨_,Z,Z⟩,⟨_,Z,Z⟩,T_⟩ (fun j=>rfl)
   rintro k R ⟨hk1,hk2,d,hk4⟩;refine S<|C V<|Y V<|Y (by exact dT Z aE Z Z Z)<|O cM<|Cn ?_ ?_<;>intro c_
   ·have Q:i+k<L.length:=by have:=b9 c_;omega
    obtain ⟨v,hv⟩:=aU Q;obtain ⟨u,hu⟩:=aU (l:=L) (k:=i+k - 1) (by omega);have l:=W4 (by omega) hu hv;have t:=JD (mr (P:=R) (by omega) hv);have u_:=JD (mr (P:=R) (by omega) hu);refine aA<|S<|aD<|S<|aN a7<|Cq V<|Cq V<|Cq (by exact dI (m:=k) Z bH Z Z Z Z Z (by omega) (l8 _) (by omega) Z)<|Cq (by exact aX Z N_ Z Z Z t Z)<|Cq V<|Cq V<|Cq (by exact dP Z Z Z (by exact qD (by omega) (by omega)))<|Cq (by exact dI (m:=k - 1) (m2:=i+k - 1) Z bH Z Z Z Z Z (by omega) (show ((k:Int) - 1).toNat=k - 1 by omega) (by omega) (by omega))<|Cq (by exact aX Z N_ Z Z Z u_ Z)<|Cq GU<|bJ<|Kr<|Cn ?_ ?_<;>intro B
    ·have T:¬ u=v:=fun e=>by
      have h:=B;rw[e]at h;simp at h
     rw[a8 T,<-d]at l;have y_:∃z,L[R.length]?=some z:=aU (by omega);obtain ⟨z,hz⟩:=y_;have A_:(tJ (R++L.drop R.length))[R.length]?=some ((S_ z).map .pv):=JD (mr (P:=R) (j6 _) hz);have A:(tJ (R++L.drop R.length)).set R.length [sv v]=tJ ((R++[v])++L.drop (R++[v]).length):=by
      have hd:L.drop R.length=z::L.drop (R.length+1):=by
       obtain ⟨p,q⟩:=m_.1 hz;rw[List.drop_eq_getElem_cons p,q]
      rw[hd,j9,List.length_singleton,tJ,List.map_append,List.map_cons,List.set_append_right _ _ (by rw[h_];exact j6 _),h_,Nat.sub_self,List.set_cons_zero,List.append_assoc,tJ,List.map_append,List.map_append];rfl
     refine C V<|Y V<|Y V<|Y V<|Y (by exact dI (m:=k) Z bH Z Z Z Z Z (by omega) (l8 _) (by omega) Z)<|Y (by exact aX Z N_ Z Z Z t Z)<|Y (by exact dI Z bH Z Z Z Z Z (by omega) (by exact l8 _) (by omega:R.length<L.length) (r7 _))<|Uu (by exact cQ Z V_ Z Z Z Z Z A_ (by simp[S_]) Z A)<|Zz<|Rd V<|Y gT<|O U<|Rd V<|Y gT<|Da ?_;refine⟨k+1,R++[v],⟨by omega,by omega,l.symm,by rw[j9,List.length_singleton];omega⟩,by omega,?_⟩;rw[show (((R++[v]).length:Nat):Int)=(R.length:Int)+1 by rw[j9,List.length_singleton];rfl];exact cJ.dup ⟨⟨_,Z,Z⟩,⟨_,Z,Z⟩,⟨_,Z,Z⟩,⟨_,Z,Z⟩,T_⟩
    have he:u=v:=by
     have h:=B;have h2:v=u:=by simpa using h
     exact h2.symm
    rw[b6 he,List.append_nil,<-d]at l;refine aA<|Rd V<|Y gT<|Da ?_;refine⟨k+1,R,⟨by omega,by omega,l.symm,by omega⟩,by omega,?_⟩;exact cJ.get' ⟨⟨_,Z,Z⟩,⟨_,Z,Z⟩,⟨_,Z,Z⟩,⟨_,Z,Z⟩,T_⟩ (fun j=>rfl)
   have D:i+k=L.length:=by have:=b_ c_;omega
   rw[D,List.take_length]at d;have s:R.length<=L.length:=by omega
   have m:(tJ (R++L.drop R.length)).length=L.length:=by
    rw[h_,j9,q6];omega
   have W:(tJ (R++L.drop R.length)).take R.length++(List.replicate (L.length - R.length) [sv a6]++(tJ (R++L.drop R.length)).drop (R.length+(L.length - R.length)))=tJ (R++List.replicate (L.length - R.length) a6):=by
    have v_:(tJ (R++L.drop R.length)).drop (R.length+(L.length - R.length))=[]:=List.drop_eq_nil_of_le (by rw[m];omega);rw[v_,List.append_nil,tJ,List.map_append,List.take_left' (h_ _),tJ,List.map_append,List.map_replicate];rfl
   refine aP<|C V<|Y V<|Y (by exact kJ (l:=R.length) (h:=L.length) Z bH Z Z Z Z Z Z s (j6 _) (r7 _) Z)<|Uu (by exact T7 Z bH Oc Z Z Z Z Z (by rw[m];exact s) W)<|Zz<|C V<|Y V<|Y (by exact kJ (l:=0) (h:=R.length) Z bH Z Z Z Z Z Z (l6 _) s (r7 _) Z)<|O U<|aC ?_;refine cR (H':=(901,⟨g,1,9,tJ (R++List.replicate (L.length - R.length) a6)⟩)::H) (.inr Z) Z (aJ Z) (Fin.get' (fun j=>wQ _ _ _ _ j)) ⟨by rw[d];rfl,by rw[d]⟩
  have n:=b_ F;rw[a8 (fun e=>n e.symm),f]at e_;refine aA<|Rd V<|Y gT<|Da ?_;refine⟨i+1,⟨by omega,by omega,?_⟩,by omega,cJ.get' ⟨⟨_,Z,Z⟩,⟨_,Z,Z⟩,T_⟩ (fun j=>rfl)⟩;rw[e_,List.take_add_one,z_];rfl
 have G:i=L.length:=by have:=b_ I;omega
 subst G;rw[List.take_length]at f;refine aP<|C V<|O U<|aC<|cR (H':=(901,⟨g,1,9,tJ L⟩)::H) (.inr Z) Z (aJ Z) Fin.refl ⟨by rw[f],by rw[f,Nat.sub_self,List.replicate_zero,List.append_nil]⟩
end Go.Proofs.YtopnleflllkbmaaGreatDoor
end
namespace Go.Proofs.YtopnleflllkbmaaGreatDoor
open Go.Proofs.Tryz
open Go.Abs
def mK(n a b:Int):Bool:=decide (a<=n)&&decide (n<=b)
def qh(r:j7):Bool:=(((((r.priv.trace.any YT||!(!([r.priv.name,r.priv.reason].any KJ)))||!(!r.priv.sources.any KJ))||decide (16<((r.priv.sources.map S_).length:Int)))||decide (200<((r.priv.trace.map jW).length:Int)))||!kV r.priv.sl)||!kV r.sl
def Jn(l:List B_):Bool:=nM l&&decide (((fJ l).length:Int)=((l.map S_).length:Int))
theorem aAh(l)(a:l.length<2^40){H}(hno:H.get 901=none):aS Tryz.prog 153 [.pv (aK l)] H (fun r H'=>r=.osl 901 1 0 l.length/\H'=(901,⟨1,1,9,tJ l⟩)::H) :=aS.frame (Lc l [] (fun _ _ h=>by cases h) Z a) (fun _ _ h=>by cases h) (fun _ _ h=>by cases h) H_ (fun id h=>.inr (by
  by_cases e:901=id
  ·simp_all
  simp[aF.get,jP e]at h))
def ia(r:j7):Bool:=(((((!mK r.author 0 59||!mK r.number 1 128)||!mK r.clock 1 1000000)||!cG r.branch)||decide (16<((r.parents.map S_).length:Int)))||!r.parents.all l9)||!Jn r.parents
def Wn(r:j7):Bool:=decide (r.kind=2)||decide (r.kind=3)
def MQ(r:j7):Bool:=if r.kind=3 then mK r.order 1 4 else if r.kind=4 then(cG r.from'&&!decide (r.from'=r.branch))else decide (1<=r.kind/\r.kind<=5)
def ZW(r:j7):B_:=if r.kind=2\/r.kind=3 then r.target else a6
def Nk(r:j7):Bool:=if r.kind=2 then r.yes else false
def Bp(r:j7):Int:=if r.kind=3 then r.order else 0
def De(r:j7):B_:=if r.kind=4 then r.from' else a6
def Nl(r:j7):Bool:=if r.kind=1 then true else if r.kind=3 then decide (r.order=3)else false
def Xs(r:j7):Bool:=((((decide (r.target=ZW r)&&(r.yes == Nk r))&&decide (r.order=Bp r))&&decide (r.from'=De r))&&(decide (0<((r.edits.map bL).length:Int)) == Nl r))&&(!Wn r||l9 (ZW r))
def gV(r:j7):Bool:=(((!qh r&&!ia r)&&(jT r.edits).2)&&MQ r)&&Xs r
abbrev W5:=B_×Bool×Int×B_×Bool
def DK(r:j7):W5:=(ZW r,Nk r,Bp r,De r,Nl r)
theorem aBY{r}(h:r.kind=1):MQ r=true/\(a6,false,0,a6,true)=DK r:=by simp[MQ,DK,ZW,Nk,Bp,De,Nl,h]
theorem aBX{r}(h:r.kind=2):MQ r=true/\(r.target,r.yes,0,a6,false)=DK r:=by simp[MQ,DK,ZW,Nk,Bp,De,Nl,h]
theorem aBW{r}(h:r.kind=3)(a:mK r.order 1 4=true):MQ r=true/\(r.target,false,r.order,a6,decide (r.order=3))=DK r:=by simp[MQ,DK,ZW,Nk,Bp,De,Nl,h,a]
theorem aBV{r}(h:r.kind=4)(b:cG r.from'=true)(a:r.from'≠r.branch):MQ r=true/\(a6,false,0,r.from',false)=DK r:=by simp[MQ,DK,ZW,Nk,Bp,De,Nl,h,b,a]
theorem aBU{r}(h:r.kind=5):MQ r=true/\(a6,false,0,a6,false)=DK r:=by simp[MQ,DK,ZW,Nk,Bp,De,Nl,h]
theorem Ow{r}(h:qh r=true):gV r=false:=by simp[gV,h]
theorem qg{r}(h:ia r=true):gV r=false:=by simp[gV,h]
theorem Ov{r}(h:(jT r.edits).2=false):gV r=false:=by simp[gV,h]
theorem XO{r}(h:MQ r=false):gV r=false:=by simp[gV,h]
theorem Oq{r}(a:qh r=false)(d:ia r=false)(b:(jT r.edits).2=true)(c:MQ r=true):gV r=Xs r:=by simp[gV,a,d,b,c]
theorem Dc{r}(h:r.target.size<2^40):(ZW r).size<2^40:=by
 rw[ZW]
 split
 ·exact h
 exact E_
theorem XN(r:j7)(hr:mI r)(hp:r.parents.length<549755813888)(H:aF):RC 105 [av (dR r)] (bv (gV r)) H:=by
 refine Pu ?_;obtain ⟨_,⟨b1,b2,b3⟩,hpa,hed,hs,hpv⟩:=hr;have htx:=fun H=>qp r.edits H hed.1 hed.2;obtain ⟨p1,p2,p3,p4,p5⟩:=hpv;have Q:=Zx r.priv.trace p4;have hsh1:=fun H=>re [r.priv.name,r.priv.reason] (show 2<2^40 by decide) H;have T:=fun H=>re r.priv.sources p3.1 H;have hf1:=fun H=>ez r.priv.sl p5 H;have hf2:=fun H=>ez r.sl hs H;have hso:=fun H=>ee r.parents H X;have A_:=fun H=>M1 r.parents hpa H;have u_:=fun H=>CQ r.branch H X;have hnf:=fun H=>CQ r.from' H X
 have hwt:=Dc b2;have P:∀(n a b:Int) (H:aF),RC 146 [iv n,iv a,iv b] (bv (mK n a b)) H:=fun n a b H=>PU n a b H;refine Bd func105 Z ntmps105<|C (kb 1)<|O U<|C (kl 3 aBP)<|Uu (iU sizeOf174)<|Zz<|Sz U<|C (bD iC)<|Y (vC Bb sizeOf51)<|Y (kl 5 aD3)<|Uu (iU sizeOf51)<|Zz<|C (bD sX)<|Y (bS jS)<|Y (gR Z Z)<|Y (kc call149 (aS.frameS Q (HN.sub ⟨Z,T_⟩) (dD.ofL ⟨yX _,T_⟩) (by simp;rfl)))<|O U<|S<|S ?_;refine aR (t:=63) (n:=48) (A_:=qh r) ?_ ?_
 ·all_goals refine Y V<|Dm ?_<;>(refine Sp 23 (fun h23=>?_) fun h23=>?_)<;>(first|contradiction|refine M<|M<|M<|M<|M<|M<|M<|M ?_|refine J V<|J (bD IJ)<|J (bS N_)<|J (bD II)<|J (bS N_)<|J (aL [[.str r.priv.name],[.str r.priv.reason]] Z bH Z Z Z Z Z F_)<|J (cZ Z Z Z (dF.fn call147 (hsh1 _)))<|J iT ?_)<;>refine Y cE<|Dm ?_<;>(refine Sp 33 (fun h33=>?_) fun h33=>?_)<;>(first|contradiction|refine M<|M<|M<|M<|M ?_|refine J V<|J (bD yD)<|J (bS aH)<|J (cZ Z Z Z (dF.fn call147 (T _)))<|J iT ?_)<;>refine Y cE<|Dm ?_<;>(refine Sp 40 (fun h40=>?_) fun h40=>?_)<;>(first|contradiction|refine M<|M<|M<|M ?_|refine J (bD yD)<|J (bS aH)<|J (fV aE)<|J iY ?_)<;>refine Y cE<|Dm ?_<;>(refine Sp 46 (fun h46=>?_) fun h46=>?_)<;>(first|contradiction|refine M<|M<|M<|M ?_|refine J (bD sX)<|J (bS jS)<|J (fV fW)<|J iY ?_)<;>refine Y cE<|Dm ?_<;>(refine Sp 52 (fun R=>?_) fun R=>?_)<;>(first|contradiction|refine M<|M<|M<|M ?_|refine J (bD E4)<|J (vC gN sizeOf48)<|J (kc call151 (hf1 _))<|J iT ?_)<;>refine Y cE<|Dm ?_<;>(refine Sp 58 (fun y_=>?_) fun y_=>?_)<;>(first|contradiction|refine M<|M<|M<|M ?_|refine J (bD zL)<|J (vC gN sizeOf48)<|J (kc call151 (hf2 _))<|J iT ?_)<;>refine O cE ?_<;>exact Gj (h:=by first|(rw[qh,h23];rfl)|(rw[qh,h23,h33];rfl)|(rw[qh,h23,h33,h40];rfl)|(rw[qh,h23,h33,h40,h46];rfl)|(rw[qh,h23,h33,h40,h46,R];rfl)|(rw[qh,h23,h33,h40,h46,R,y_];rfl))
 refine Cn ?_ ?_<;>intro z_
 ·rw[Ow z_];exact Sz U<|aC<|Rt<|Qq
 have h1:=z_;have hin:Jn r.parents=(nM r.parents&&decide (((fJ r.parents).length:Int)=((r.parents.map S_).length:Int))):=rfl;obtain ⟨so,v_⟩:∃so,so=nM r.parents:=X_;rw[<-v_]at hso hin;refine aA<|S ?_;refine fZ.ent (E':=[(1,.ref 1 0 0 0),(3,.ref 3 0 0 0),(5,.ref 5 0 0 0),(4,.pv (.fn 147))]) (H':=[(5,bx 7 51 ((wT r.priv).map .pv)),(3,Ol),(1,bx 21 53 ((dR r).map .pv))]) L_ ?_;cases so with
 | false =>
  have h2:ia r=true:=by rw[ia,hin,Bool.false_and,Bool.not_false,Bool.or_true]
  rw[qg h2];refine aN a7<|Cr [1] (fun _ h=>fh oI h)<|Cr [1] (fun _ h=>lh aH h)<|Cr [] (fun H1 hH=>by exact bF Z Z call152 Z (hso _))<|Cr [] (fun _ _=>V)<|Ot<|Ot<|Ot<|Ot<|Ot<|Ot<|Ot<|Ot<|Ot<|Cr [] (fun _ _=>cE)<|Cr [] (fun _ _=>U)<|bJ<|Kr<|S<|S ?_;refine aR (t:=118) (n:=47) (A_:=ia r) ?_ ?_
  ·all_goals refine Y (bS pG)<|Y (bD EZ)<|Y (bS M_)<|Y (cZ Z Z Z (dF.fn rI (P r.author 0 59 _)))<|Y iT<|Dm ?_<;>(refine Sp 83 (fun h83=>?_) fun h83=>?_)<;>(first|contradiction|refine M<|M<|M<|M<|M ?_|refine J (bS pG)<|J (bD AH)<|J (bS M_)<|J (cZ Z Z Z (dF.fn rI (P r.number 1 128 _)))<|J iT ?_)<;>refine Y cE<|Dm ?_<;>(refine Sp 90 (fun h90=>?_) fun h90=>?_)<;>(first|contradiction|refine M<|M<|M<|M<|M ?_|refine J (bS pG)<|J (bD EY)<|J (bS M_)<|J (cZ Z Z Z (dF.fn rI (P r.clock 1 1000000 _)))<|J iT ?_)<;>refine Y cE<|Dm ?_<;>(refine Sp 97 (fun h97=>?_) fun h97=>?_)<;>(first|contradiction|refine M<|M<|M<|M ?_|refine J (bD C1)<|J (bS N_)<|J (kc oU (u_ _))<|J iT ?_)<;>refine Y cE<|Dm ?_<;>(refine Sp 103 (fun h103=>?_) fun h103=>?_)<;>(first|contradiction|refine M<|M<|M<|M ?_|refine J (bD oI)<|J (bS aH)<|J (fV aE)<|J iY ?_)<;>refine Y cE<|Dm ?_<;>(refine Sp 109 (fun h109=>?_) fun h109=>?_)<;>(first|contradiction|refine M<|M<|M<|M ?_|refine J (bD oI)<|J (bS aH)<|J (kc Bm (A_ _))<|J iT ?_)<;>refine Y cE<|Dm ?_<;>(refine Sp 115 (fun h115=>?_) fun h115=>?_)<;>(first|contradiction|refine M<|M ?_|refine J V<|J iT ?_)<;>refine O cE ?_<;>exact Gj (h:=by simp_all)
  refine Cn ?_ ?_<;>intro hc2
  ·exact Sz U<|aC<|Rt<|Qq
  rw[h2]at hc2;cases hc2
 | true =>
  refine aN a7<|Cr [1] (fun _ h=>fh oI h)<|Cr [1] (fun _ h=>lh aH h)<|Cr [] (fun H1 hH=>by exact bF Z Z call152 Z (hso _))<|Cr [] (fun _ _=>V)<|Lt [1] (fun _ h=>fh oI h)<|Lt [1] (fun _ h=>lh aH h)<|Lp [901] (fun H1 hH=>by exact bF Z Z call153 Z (aAh r.parents X ((hH _ Z).trans Z)))<|Lp [901] (fun H1 hH=>by exact bF Z Z call31 Z (W3 r.parents 1 _ ((hH _ Z).trans Z) X))<|Lt [901] (fun H1 hH=>by exact dT Z aE Z ((hH _ Z).trans Z) Z)<|Lt [1] (fun _ h=>fh oI h)<|Lt [1] (fun _ h=>lh aH h)<|Lt [] (fun H1 hH=>by exact kR Z aE Z)<|Lt [] (fun H1 hH=>by exact lU Z Z Z) ?_;refine Cr [] (fun _ _=>cE)<|Cr [] (fun _ _=>U)<|bJ<|Kr<|S<|S<|aR (t:=118) (n:=47) (A_:=ia r) ?_ ?_
  ·all_goals refine Y (bS pG)<|Y (bD EZ)<|Y (bS M_)<|Y (cZ Z Z Z (dF.fn rI (P r.author 0 59 _)))<|Y iT<|Dm ?_<;>(refine Sp 83 (fun h83=>?_) fun h83=>?_)<;>(first|contradiction|refine M<|M<|M<|M<|M ?_|refine J (bS pG)<|J (bD AH)<|J (bS M_)<|J (cZ Z Z Z (dF.fn rI (P r.number 1 128 _)))<|J iT ?_)<;>refine Y cE<|Dm ?_<;>(refine Sp 90 (fun h90=>?_) fun h90=>?_)<;>(first|contradiction|refine M<|M<|M<|M<|M ?_|refine J (bS pG)<|J (bD EY)<|J (bS M_)<|J (cZ Z Z Z (dF.fn rI (P r.clock 1 1000000 _)))<|J iT ?_)<;>refine Y cE<|Dm ?_<;>(refine Sp 97 (fun h97=>?_) fun h97=>?_)<;>(first|contradiction|refine M<|M<|M<|M ?_|refine J (bD C1)<|J (bS N_)<|J (kc oU (u_ _))<|J iT ?_)<;>refine Y cE<|Dm ?_<;>(refine Sp 103 (fun h103=>?_) fun h103=>?_)<;>(first|contradiction|refine M<|M<|M<|M ?_|refine J (bD oI)<|J (bS aH)<|J (fV aE)<|J iY ?_)<;>refine Y cE<|Dm ?_<;>(refine Sp 109 (fun h109=>?_) fun h109=>?_)<;>(first|contradiction|refine M<|M<|M<|M ?_|refine J (bD oI)<|J (bS aH)<|J (kc Bm (A_ _))<|J iT ?_)<;>refine Y cE<|Dm ?_<;>(refine Sp 115 (fun h115=>?_) fun h115=>?_)<;>(first|contradiction|refine M<|M ?_|refine J V<|J iT ?_)<;>refine O cE ?_<;>exact Gj (h:=by first|(rw[ia,hin,h83];rfl)|(rw[ia,hin,h83,h90];rfl)|(rw[ia,hin,h83,h90,h97];rfl)|(rw[ia,hin,h83,h90,h97,h103];rfl)|(rw[ia,hin,h83,h90,h97,h103,h109];rfl)|(rw[ia,hin,h83,h90,h97,h103,h109,h115];rfl))
  refine Cn ?_ ?_<;>intro hc3
  ·rw[qg hc3];exact Sz U<|aC<|Rt<|Qq
  have h2:=hc3;obtain ⟨tx,htxe⟩:∃tx,tx=(jT r.edits).1:=X_;obtain ⟨f_,htbe⟩:∃f_,f_=(jT r.edits).2:=X_;rw[<-htxe,<-htbe]at htx;refine aA<|S<|C (bD C0)<|Y (bS oT)<|Y (kc call156 (htx _))<|Y V<|Y dH<|Y dH<|Y U<|O U<|C V<|O iT<|Cn ?_ ?_<;>intro hc4
  ·have hb:f_=false:=by have:=hc4;cases f_;rfl;cases this
   rw[Ov (htbe.symm.trans hb)];exact Sz U<|aC<|Rt<|Qq
  have hb:f_=true:=by have:=hc4;cases f_;cases this;rfl
  have h3:(jT r.edits).2=true:=htbe.symm.trans hb;have hyes:=fun h4=>Oq h1 h2 h3 h4;clear htxe htbe;refine aA<|C U<|Y U<|Y U<|Y U<|Da<|eN (fun(p:W5)=>([(1,.ref 1 0 0 0),(3,.ref 3 0 0 0),(10,sv p.1),(11,bv p.2.1),(12,iv p.2.2.1),(13,sv p.2.2.2.1),(14,bv p.2.2.2.2)],[(5,bx 7 51 ((wT r.priv).map .pv)),(3,Ol),(1,bx 21 53 ((dR r).map .pv))])) (fun p=>MQ r=true/\p=DK r) ?_ ?_
  ·refine C (bD oJ)<|O (bS M_)<|aD<|C cD<|Da<|Cn ?_ ?_<;>intro W
   ·have hk:=aBY (b9 W);refine Rg<|Da ?_;exact⟨_,hk,L_⟩
   have hk1:=b_ W;refine C cD<|Da<|Cn ?_ ?_<;>intro hc6
   ·have hk:=aBX (b9 hc6);refine aN a7<|Cq (bD CZ)<|Cq (bS N_)<|Cq (bD IH)<|Cq (bS nD)<|Cq U<|Cq U<|bJ<|Kr ?_;exact⟨_,hk,L_⟩
   have hk2:=b_ hc6;refine C cD<|Da<|Cn ?_ ?_<;>intro hc7
   ·have hk3:=b9 hc7;refine S<|aN a7<|Cq (bD CZ)<|Cq (bS N_)<|Cq (bD yC)<|Cq (bS M_)<|Cq (bD yC)<|Cq (bS M_)<|Cq cD<|Cq U<|Cq U<|Cq U<|bJ<|Kr<|C (bS pG)<|Y V<|Y (cZ Z Z Z (dF.fn rI (P r.order 1 4 _)))<|O iT<|Cn ?_ ?_<;>intro hc8
    ·have hk:mK r.order 1 4=false:=by have:=hc8;revert this;cases mK r.order 1 4<;>simp
     rw[XO (by rw[MQ,b6 hk3];exact hk)];exact Sz U<|aC<|Rt<|Qq
    have hk:=aBW hk3 (by have:=hc8;revert this;cases mK r.order 1 4<;>simp);refine aA ?_;exact⟨_,hk,L_⟩
   have hk3:=b_ hc7;refine C cD<|Da<|Cn ?_ ?_<;>intro hc9
   ·have hk4:=b9 hc9;refine C (bD wR)<|Y (bS N_)<|O U<|S<|aR (t:=162) (n:=10) (A_:=!cG r.from'||decide (r.from'=r.branch)) ?_ ?_
    ·all_goals refine Y V<|Y (kc oU (hnf _))<|Y iT<|Dm ?_<;>(refine Sp 157 (fun h157=>?_) fun h157=>?_)<;>(first|contradiction|refine M<|M<|M<|M ?_|refine J V<|J (bD C1)<|J (bS N_)<|J wF ?_)<;>refine O cE ?_<;>exact Gj (h:=by(rw[h157];rfl))
    refine Cn ?_ ?_<;>intro hc10
    ·have hk:(cG r.from'&&!decide (r.from'=r.branch))=false:=by have:=hc10;revert this;cases cG r.from'<;>cases decide (r.from'=r.branch)<;>simp
     rw[XO (by rw[MQ,a8 hk3,b6 hk4];exact hk)];exact Sz U<|aC<|Rt<|Qq
    have hk:cG r.from'=true/\¬ r.from'=r.branch:=by have:=hc10;rw[q9,Bool.not_eq_false',p_]at this;exact this
    have hk:=aBV hk4 hk.1 hk.2;refine aA ?_;exact⟨_,hk,L_⟩
   have hk4:=b_ hc9;refine C cD<|Da<|Cn ?_ ?_<;>intro hc11
   ·have hk:=aBU (b9 hc11);refine aA ?_;exact⟨_,hk,L_⟩
   have hk5:=b_ hc11;rw[XO (by rw[MQ,a8 hk3,a8 hk4,decide_eq_false X])];exact Sz U<|aC<|Rt<|Qq
  rintro _ ⟨h4,rfl⟩;rw[hyes h4];have hdT:=fun H=>WI (ZW r) hwt H;have hv5:Xs r=(((((decide (r.target=ZW r)&&(r.yes == Nk r))&&decide (r.order=Bp r))&&decide (r.from'=De r))&&(decide (0<((r.edits.map bL).length:Int)) == Nl r))&&(!Wn r||l9 (ZW r))):=rfl;rw[DK];refine S<|aR (t:=15) (n:=10) (A_:=Wn r) ?_ ?_
  ·all_goals refine Y (bD oJ)<|Y (bS M_)<|Y cD<|Dm ?_<;>(refine Sp 168 (fun h168=>?_) fun h168=>?_)<;>(first|contradiction|refine M<|M<|M ?_|refine J (bD oJ)<|J (bS M_)<|J cD ?_)<;>refine Y cE<|Da ?_<;>exact Gj (h:=by(rw[Wn,h168];rfl))
  refine S<|aR (t:=2) (n:=45) (A_:=Xs r) ?_ ?_
  ·all_goals refine Y (bD CZ)<|Y (bS N_)<|Y V<|Y wF<|Dm ?_<;>(refine Sp 177 (fun h177=>?_) fun h177=>?_)<;>(first|contradiction|refine M<|M<|M<|M ?_|refine J (bD IH)<|J (bS nD)<|J V<|J (dc Z eZ Z Z) ?_)<;>refine Y cE<|Dm ?_<;>(refine Sp 183 (fun h183=>?_) fun h183=>?_)<;>(first|contradiction|refine M<|M<|M<|M ?_|refine J (bD yC)<|J (bS M_)<|J V<|J cD ?_)<;>refine Y cE<|Dm ?_<;>(refine Sp 189 (fun h189=>?_) fun h189=>?_)<;>(first|contradiction|refine M<|M<|M<|M ?_|refine J (bD wR)<|J (bS N_)<|J V<|J wF ?_)<;>refine Y cE<|Dm ?_<;>(refine Sp 195 (fun h195=>?_) fun h195=>?_)<;>(first|contradiction|refine M<|M<|M<|M<|M<|M ?_|refine J (bD C0)<|J (bS oT)<|J (fV eS)<|J iY<|J V<|J (dc Z eZ Z Z) ?_)<;>refine Y cE<|Dm ?_<;>(refine Sp 203 (fun h203=>?_) fun h203=>?_)<;>(first|contradiction|refine M<|M<|M ?_|refine J V<|J iT<|J V ?_)<;>(first|refine Sp 206 (fun h206=>?_) fun h206=>?_|refine kI (t:=206) Z ?_)<;>(first|contradiction|refine M ?_|refine Fu ?_|refine J V ?_)<;>(first|refine M ?_|refine Fu ?_|refine J (kc LH (hdT _)) ?_)<;>(first|refine M ?_|refine J cE ?_)<;>refine Y cE<|Da ?_<;>exact Gj (h:=by first|(rw[hv5,h177];rfl)|(rw[hv5,h177,h183];rfl)|(rw[hv5,h177,h183,h189];rfl)|(rw[hv5,h177,h183,h189,h195];rfl)|(rw[hv5,h177,h183,h189,h195,h203];rfl)|(rw[hv5,h177,h183,h189,h195,h203,h206];rfl))
  exact aC<|Rt<|Qq
open Go.Lib
structure FSeal(s:m9):Prop where
 i0:0<=s.idx
 i1:s.idx<256
 sl:s.sig.length<=18
 pl:s.path.length<=8
 sa:∀t∈s.sig,l9 t=true
 pa:∀t∈s.path,l9 t=true
theorem jd{s}(h:AZ s=true):s=⟨0,[],[]⟩:=by rw[AZ,j0,h_]at h;obtain ⟨i,a,b⟩:=s;obtain ⟨c,e⟩:=h;simp at c e;have f:a=[]:=List.eq_nil_of_length_eq_zero X;have d:b=[]:=List.eq_nil_of_length_eq_zero X;subst c f d;rfl
theorem kU{s}(h:kV s=true):FSeal s:=by
 rw[kV,Bool.or_eq_true]at h;rcases h with h|h
 ·have:=jd h;subst this;exact⟨H_,H_,H_,H_,H_,H_⟩
 simp[j0,k_,h_,List.all_eq_true]at h;obtain ⟨⟨⟨⟨⟨d,c⟩,h3⟩,h4⟩,a⟩,b⟩:=h;exact⟨d,c,X,X,a,b⟩
structure VF(r:j7):Prop where
 tr:∀q∈r.priv.trace,(0<=q.1/\q.1<=1048575)/\(0<=q.2/\q.2<=1048575)
 nm:r.priv.name.size<=200
 rs:r.priv.reason.size<=200
 so:∀s∈r.priv.sources,s.size<=200
 sol:r.priv.sources.length<=16
 trl:r.priv.trace.length<=200
 psl:kV r.priv.sl=true
 sl:kV r.sl=true
 au:0<=r.author/\r.author<=59
 nu:1<=r.number/\r.number<=128
 cl:1<=r.clock/\r.clock<=1000000
 br:cG r.branch=true
 pal:r.parents.length<=16
 pa:∀p∈r.parents,l9 p=true
 inc:Jn r.parents=true
 tx:(jT r.edits).2=true
 k:MQ r=true
 ta:r.target=ZW r
 ye:r.yes=Nk r
 od:r.order=Bp r
 fr:r.from'=De r
 ed:decide (0<r.edits.length)=Nl r
 nd:Wn r=true->l9 (ZW r)=true
theorem YZ{s}:KJ s=false↔s.size<=200:=by rw[KJ,p_];omega
theorem sF{r}(h:gV r=true):VF r:=by
 simp[gV,j0,r8]at h;obtain ⟨⟨⟨⟨b,a⟩,m⟩,g⟩,d⟩:=h;simp only[qh,q9,Bool.not_eq_false',r8,p_,h_,List.any_eq_false,Bool.not_eq_true]at b;obtain ⟨⟨⟨⟨⟨⟨v,c⟩,w⟩,a4⟩,a5⟩,l⟩,t⟩:=b;simp[ia,q9,Bool.not_eq_false',p_,h_,List.all_eq_true,mK,j0,k_]at a;obtain ⟨⟨⟨⟨⟨⟨z,i⟩,n⟩,u⟩,b5⟩,x⟩,f⟩:=a;simp[Xs,j0,k_,beq_iff_eq,h_,Bool.or_eq_true,r8]at d;obtain ⟨⟨⟨⟨⟨k,y⟩,j⟩,e⟩,c5⟩,c6⟩:=d;refine⟨fun q o=>?_,YZ.1 (c _ H_),YZ.1 (c _ H_),fun s p=>YZ.1 (w s p),X,X,l,t,z,i,n,u,X,x,f,m,g,k,y,j,e,?_,fun hn=>?_⟩
 ·have:=v q o;simp[YT,q9,Bool.not_eq_false',j0,k_]at this;exact this
 all_goals simp_all
theorem BK{r}(h:MQ r=true):1<=r.kind/\r.kind<=5:=by
 rw[MQ]at h
 grind
theorem MK{s}(h:cG s=true):s.size<=24:=by simp[cG,j0,k_]at h;omega
theorem jk{l}(h:(dW l).2=0):(dW l).1.size<=20000:=by
 have a:=D9 h;rw[iB]at a
 split at a
 ·have:=congrArg Prod.snd a;cases this
 omega
theorem P0{l}(h:(jT l).2=true):(jT l).1.size<=20000:=by
 rw[jT]at h |-
 split at h
 ·next a =>
  rw[b6 a];exact E_
 next a =>
 rw[a8 a];exact jk (b9 h)
theorem CW{s}(h:l9 s=true):s.size<=16:=Nat.le_of_eq (kS h)
theorem VF.target{r}(h:VF r):r.target.size<=16:=by
 rw[h.ta];by_cases a:Wn r=true
 ·exact CW (h.nd a)
 have:ZW r=a6:=by
  rw[ZW,a8];rintro(e|e)<;>simp[Wn,e]at a
 rw[this];decide
theorem VF.from{r}(h:VF r):r.from'.size<=24:=by
 rw[h.fr,De]
 split
 ·next e =>
  have a:=h.k;rw[MQ,a8 X,b6 e,j0]at a;exact MK a.1
 decide
theorem VF.order{r}(h:VF r):0<=r.order/\r.order<=4:=by
 rw[h.od,Bp]
 split
 ·next e =>
  have a:=h.k;rw[MQ,b6 e,mK,j0,k_,k_]at a;omega
 decide
def TY(p:GPriv):List IV:=[.t p.name,.t p.reason,.l p.sources,.p p.trace]
def LQ(r:j7):List IV:=[.z r.sl.idx r.sl.sig r.sl.path,.t r.priv.name,.t r.priv.reason,.l r.priv.sources,.p r.priv.trace,.z r.priv.sl.idx r.priv.sl.sig r.priv.sl.path]
def jI(r:j7):List B_:=uV r++yR (LQ r)
def G9(r:j7):B_:=if gV r=true then C6 (uV r)else a6
def mG(r:j7):B_×Int:=if gV r=true then(if 20000<(aM (jI r)).length then(a6,2)else(b7 (aM (jI r)),0))else(a6,1)
def prW:B_:=⟨#[112,114,105,118,97,116,101]⟩
def YW(r:j7):B_:=C6 ([prW,G9 r]++yR (TY r.priv))
def Wp(x:B_):Prop:=x.size<=20000
theorem qF{n}(a : -9223372036854775808<=n)(b:n<=9223372036854775807):Wp (aQ n):=Nat.le_trans (nP a b) H_
theorem KD{n:Nat}(h:n<2^40):Wp (aQ n):=qF X X
theorem bb{s}(h:FSeal s):∀x∈fI (.z s.idx s.sig s.path),Wp x:=by
 intro x a;have i0:=h.i0;have i1:=h.i1;have l1:=h.sl;have l2:=h.pl;simp only[fI,l7,List.mem_append]at a;rcases a with rfl|(rfl|a)|(rfl|a)
 ·exact qF X X
 ·exact KD X
 ·exact Nat.le_trans (CW (h.sa x a)) H_
 ·exact KD X
 exact Nat.le_trans (CW (h.pa x a)) H_
theorem ba{s}(h:FSeal s):(fI (.z s.idx s.sig s.path)).length<=29:=by have l1:=h.sl;have l2:=h.pl;simp[fI,j8,j9];omega
theorem JS{r:j7}(h:VF r):∀x∈uV r,Wp x:=by
 intro x a;obtain ⟨v,b,a⟩:=List.mem_flatMap.1 a;have hk:=BK h.k;have h1:=h.au;have h2:=h.nu;have h3:=h.cl;have h4:=h.order;have e:=MK h.br;have d:=h.target;have c:=h.from
 have hl:=h.pal;simp only[MA,l7,n_,or_false]at b;rcases b with rfl|rfl|rfl|rfl|rfl|rfl|rfl|rfl|rfl|rfl|rfl|rfl<;>simp only[fI,l7,n_,or_false]at a
 ·subst a;exact(by decide:GK.size<=20000)
 ·subst a;exact qF X X
 ·subst a;exact qF X X
 ·subst a;exact qF X X
 ·subst a;exact qF X X
 ·subst a;exact Nat.le_trans e E_
 ·rcases a with rfl|a
  ·exact KD X
  exact Nat.le_trans (CW (h.pa x a)) E_
 ·subst a;exact P0 h.tx
 ·subst a;exact Nat.le_trans d E_
 ·subst a;split<;>exact qF E_ E_
 ·subst a;exact qF X X
 subst a;exact Nat.le_trans c E_
theorem JR{r}(h:VF r):(uV r).length<=28:=by have:=h.pal;rw[uV,cf];omega
theorem Gs{r}(h:VF r):∀x∈yR (TY r.priv),Wp x:=by
 intro x a;obtain ⟨v,b,a⟩:=List.mem_flatMap.1 a;have d:=h.nm;have c:=h.rs;have h3:=h.sol;have h4:=h.trl;simp[TY,l7,n_,or_false]at b;rcases b with rfl|rfl|rfl|rfl<;>simp only[fI,l7,n_,or_false,List.mem_flatMap]at a
 ·subst a;exact Nat.le_trans d H_
 ·subst a;exact Nat.le_trans c H_
 ·rcases a with rfl|a
  ·exact KD X
  exact Nat.le_trans (h.so x a) H_
 rcases a with rfl|⟨q,e,a⟩
 ·exact KD X
 obtain ⟨q1,q2⟩:=h.tr q e;rcases a with rfl|rfl
 ·exact qF X X
 exact qF X X
theorem Gz(ps):(fI (.p ps)).length=1+2*ps.length:=by rw[show fI _=aQ _::O0 _ from Z,j8,OZ];omega
theorem Gr{r}(h:VF r):(yR (TY r.priv)).length<=420:=by have h3:=h.sol;have h4:=h.trl;have:=Gz r.priv.trace;simp[yR,TY,List.flatMap_cons,List.flatMap_nil,j9,this];simp[fI,j8,List.length_nil];omega
theorem jx(r):yR (LQ r)=fI (.z r.sl.idx r.sl.sig r.sl.path)++(yR (TY r.priv)++fI (.z r.priv.sl.idx r.priv.sl.sig r.priv.sl.path)):=by simp[yR,LQ,TY,List.flatMap_cons]
theorem XZ{r}(h:VF r):∀x∈yR (LQ r),Wp x:=by
 intro x a;rw[jx]at a;rcases List.mem_append.1 a with a|a
 ·exact bb (kU h.sl) x a
 rcases List.mem_append.1 a with a|a
 ·exact Gs h x a
 exact bb (kU h.psl) x a
theorem XY{r}(h:VF r):(yR (LQ r)).length<=478:=by have h1:=ba (kU h.sl);have h2:=ba (kU h.psl);have h3:=Gr h;rw[jx,j9,j9];omega
theorem KL{e_}(a:e_<1000000000000000000):∀(L),(∀s∈L,s.size<=e_)->(aM L).length<=L.length*(e_+22)
 | [],_=>l6 _
 |s::L,h=>by
  have ih:=KL a L fun x b=>h x (List.mem_cons_of_mem _ b);have hs:=h s List.mem_cons_self;have hi:=nP (n:=(s.size)) X X;rw[show aM _=(pY s).data.toList++aM L by rfl,j9,oZ,nJ,j8,Nat.succ_mul];omega
theorem xT{L}(h:∀x∈L,Wp x){n}(a:L.length<=n):(aM L).length<=n*20022:=Nat.le_trans (KL H_ L h) (Nat.mul_le_mul_right _ a)
end Go.Proofs.YtopnleflllkbmaaGreatDoor
namespace Go.Abs
theorem aS.fin{P}{f}{args}{H}{Q a}(h:aS P f args H Q)(c:∀r H1,Q r H1->∃r' H2,Fin H H1 r H2 r'/\a r' H2):aS P f args H a :=fun I l w vs j i d=>(h I _ w _ j i d).mono fun _ w' ⟨r,H',I',ι',v,e,q,m,b,g⟩=>by
  obtain ⟨r',H2,k,hq'⟩:=c r _ q;obtain ⟨I2,ι2,a1,a2,a3⟩:=k ⟨I,l,H,w,[]⟩ Z _ _ _ v b g m
  grind
end Go.Abs
namespace Go.Proofs.YtopnleflllkbmaaGreatDoor
open Go.Proofs.Tryz
open Go.Abs
theorem not_not{b}(h:(!b)=true):b=false:=F_
theorem qN{b}(h:(!b)=false):b=true:=F_
theorem iH{α:Type}(f:α->List PV)(l:List _):((l.map f).take (0+l.length)).drop 0=l.map f:=List.take_of_length_le H_
theorem Wu(l):E7 ⟨(aM l).toArray⟩=C6 l:=rfl
theorem xz(r)(b:mI r)(a:r.parents.length<549755813888)(H):RC 107 [av (dR r)] (.pv (aK (uV r))) H:=by refine aS.pure ((VI r b a).fin ?_) H_ H;rintro _ _ ⟨rfl,rfl⟩;exact⟨_,[],Fin.fz (id:=971) _ Z (eC _) (.osl (iH _ _)) Z T_ T_,Z,Z⟩
theorem ya(r)(b:mI r)(a:r.parents.length<549755813888){H}(hno:H.get 971=none):aS Tryz.prog 107 [av (dR r)] H (fun x H'=>x=.osl 971 (kr r) 0 (uV r).length/\H'=(971,⟨kr r,1,9,bZ (uV r)⟩)::H) :=aS.frame (VI r b a) (fun _ _ h=>by cases h) (fun _ _ h=>by cases h) H_ (fun id h=>.inr (by
  by_cases e:971=id
  ·simp_all
  simp[aF.get,jP e]at h))
theorem uj(r:j7)(g:mI r)(f:r.parents.length<549755813888)(H:aF):RC 55 [av (dR r)] (sv (G9 r)) H:=by
 refine aS.pure ?_ F_ H;have j:=fun H=>XN r g f H;have e:=fun H=>xz r g f H;rw[G9];refine Bd func55 Z ntmps55<|C (kb 1)<|O U<|S<|C (vC cF aY)<|Y (kc aE0 (j _))<|O iT<|Cn ?_ ?_<;>intro c
 ·rw[a8 F_];exact Sz U<|aC<|Rt<|Qq
 have h:=qN c;have i:=sF h;have hsz:=xT (JS i) (JR i);rw[b6 h];have b:=fun H=>WF (uV r) H X;have d:=fun H=>qu _ H (by rw[show (⟨(aM (uV r)).toArray⟩:B_).size=(aM (uV r)).length from by rfl];omega);exact aA<|C (vC cF aY)<|Y (bF Z Z call107 Z (e _))<|Y (bF Z Z call108 Z (b _))<|Y (kc Bn (d _))<|O U<|aC<|Rt<|Qq
theorem Qe{r}(h:mI r)(e:VF r):∀v∈LQ r,okI v:=by
 obtain ⟨_,_,_,_,⟨l,j,k⟩,b1,b2,i,c,g,b,f⟩:=h;intro v a;simp[LQ,l7,n_,or_false]at a;rcases a with rfl|rfl|rfl|rfl|rfl|rfl
 ·exact⟨l,j.1,k.1⟩
 ·exact T_
 ·exact T_
 ·exact i.1
 ·exact⟨c,fun q d=>by
   obtain ⟨⟨q1,q2⟩,q3,q4⟩:=e.tr q d;exact⟨⟨X,X⟩,X,X⟩⟩
 exact⟨g,b.1,f.1⟩
theorem Yu{r}(h:mI r)(e:VF r):∀v∈TY r.priv,okI v:=by
 obtain ⟨_,_,_,_,_,b1,b2,b,c,c1,c2,c3⟩:=h;intro v a;simp[TY,l7,n_,or_false]at a;rcases a with rfl|rfl|rfl|rfl
 ·exact T_
 ·exact T_
 ·exact b.1
 exact⟨c,fun q d=>by
  obtain ⟨⟨q1,q2⟩,q3,q4⟩:=e.tr q d;exact⟨⟨X,X⟩,X,X⟩⟩
theorem XQ(r:j7)(n:mI r)(j:r.parents.length<549755813888)(H:aF):RC 72 [av (dR r)] (.tup [sv (mG r).1,iv (mG r).2]) H:=by
 refine aS.pure ?_ F_ H;have t:=fun H=>XN r n j H;have s:=fun H k=>ya r n j (H:=H) k;rw[mG];refine Bd func72 Z ntmps72<|C (kb 1)<|Y U<|O U<|S<|C (vC cF aY)<|Y (kc aE0 (t _))<|O iT<|Cn ?_ ?_<;>intro i
 ·have m:=not_not i;rw[a8 F_];exact C U<|O U<|aC<|Ru<|Qq
 have m:=qN i;have e:=sF m;have l:=xT (L:=jI r) (n:=506) (fun x v=>(List.mem_append.1 v).elim (JS e x) (XZ e x)) (by
  have:=JR e;have:=XY e;rw[jI,j9];omega)
 have hpl:=JR e;have hsl:=XY e;rw[b6 m];have c:=pj (LQ r) (Qe n e) (kr r) (uV r) (show 6<2^40 by decide) X;have f:=fun H=>WF (jI r) H X;have q:jI r=uV r++yR (LQ r):=rfl;rw[<-q]at c;obtain ⟨f_,u⟩:∃f_,f_=jI r:=X_;obtain ⟨g,w⟩:∃g,g=kr r+ur (LQ r):=X_;rw[<-u]at c f l |-;rw[<-w]at c;have o:(⟨(aM f_).toArray⟩:B_)=b7 (aM f_):=rfl;rw[o]at f;have hos:(b7 (aM f_)).size=(aM f_).length:=cB _;refine aA<|C (vC cF aY)<|Y (kc call107 (s _ Z))<|Y (kl 970 Vu)<|Uu (iU IY)<|Zz<|C (bD zL)<|Y (vC gN sizeOf48)<|Y (J3 (ps:=lE r.sl) Z (dS jQ Z) Z)<|Y (bD iC)<|Y (bD IJ)<|Y (bS N_)<|Y (gA (p:=.str r.priv.name) Z (dS U_ Z) Z)<|Y (bD iC)<|Y (bD II)<|Y (bS N_)<|Y (gA (p:=.str r.priv.reason) Z (dS U_ Z) Z)<|Y (bD iC)<|Y (bD yD)<|Y (bS aH)<|Y (gA (p:=aK r.priv.sources) Z (dS aE Z) Z)<|Y (bD iC)<|Y (bD sX)<|Y (bS jS)<|Y (gA (p:=xK r.priv.trace) Z (dS fW Z) Z)<|Y (bD iC)<|Y (bD E4)<|Y (vC gN sizeOf48)<|Y (J3 (ps:=lE r.priv.sl) Z (dS jQ Z) Z)<|Y (aL ((LQ r).map AI) Z yZ Z Z Z Z Z (SW (LQ r)))<|O (kc vO (gu c ⟨Z,Z,T_⟩ (by simp;rfl)))<|S ?_;refine fZ.ent (cJ.fzG (id:=971) (E':=[(4,.ref 970 0 0 0)]) (H':=[(970,bx 1 131 [.pv (aK f_)])]) (f_.map S_) Z (eC _) ?_ Z ?_ ?_) ?_
 ·intro p j;simp only[l7,n_,or_false]at j;rcases j with rfl;exact⟨_,Z,.same (by simp;rfl)⟩
 ·exact⟨⟨_,Z,Z,Z,Z,lW Z (bG (.osl (iH S_ _)) kT)⟩,T_⟩
 ·exact T_
 refine Rd (bS DP)<|Y (kc call108 (f _))<|O U<|S<|C V<|Y (gM U_)<|O iY<|Cn ?_ ?_<;>intro h
 ·have d:20000<(aM f_).length:=I_ h
  rw[b6 d];exact C U<|O U<|aC<|Ru<|Qq
 have d:¬ 20000<(aM f_).length:=J_ h
 rw[a8 d];exact aA<|C V<|Y U<|O U<|aC<|Ru<|Qq
theorem ui(r):(G9 r).size<=20000:=by
 by_cases h:gV r=true
 ·rw[G9,b6 h];exact Nat.le_trans (Nat.le_of_eq (rD _)) H_
 rw[G9,a8 h];decide
theorem yw(r:j7)(j:mI r)(e:r.parents.length<549755813888)(l:gV r=true)(H:aF):RC 118 [av (dR r)] (sv (YW r)) H:=by
 refine aS.pure ?_ F_ H;have hid:=fun H=>uj r j e H;have h:=sF l;have hpl:=Gr h;have b:=pj (TY r.priv) (Yu j h) 0 [prW,G9 r] (show 4<2^40 by decide) G_;have f:=ui r;have hsz:=xT (L:=[prW,G9 r]++yR (TY r.priv)) (n:=422) (fun x d=>(List.mem_append.1 d).elim (fun d=>by
   simp only[l7,n_,or_false]at d;rcases d with rfl|rfl
   ·exact(by decide:prW.size<=20000)
   exact f) (Gs h x)) G_
 rw[YW];have c:=fun H=>Y0 ([prW,G9 r]++yR (TY r.priv)) H X;obtain ⟨f_,k⟩:∃f_,f_=[prW,G9 r]++yR (TY r.priv):=X_;obtain ⟨g,n⟩:∃g,g=0+ur (TY r.priv):=X_;rw[<-k]at b c |-;rw[<-n]at b;obtain ⟨i,m⟩:∃i,i=G9 r:=X_;rw[<-m]at hid b;refine Bd func118 Z ntmps118<|C (kb 1)<|O U<|C (vC cF aY)<|Y (kc Ns (hid _))<|Y (gH (id:=971) Z QJ Z Z Z Z F_ Z)<|Y (kl 970 Vu)<|Uu (iU IY)<|Zz<|C (bD iC)<|Y (bD IJ)<|Y (bS N_)<|Y (gA (p:=.str r.priv.name) Z (dS U_ Z) Z)<|Y (bD iC)<|Y (bD II)<|Y (bS N_)<|Y (gA (p:=.str r.priv.reason) Z (dS U_ Z) Z)<|Y (bD iC)<|Y (bD yD)<|Y (bS aH)<|Y (gA (p:=aK r.priv.sources) Z (dS aE Z) Z)<|Y (bD iC)<|Y (bD sX)<|Y (bS jS)<|Y (gA (p:=xK r.priv.trace) Z (dS fW Z) Z)<|Y (aL ((TY r.priv).map AI) Z yZ Z Z Z Z Z (SW (TY r.priv)))<|O (kc vO (gu b ⟨Z,Z,T_⟩ (by simp;rfl)))<|S ?_;refine fZ.ent (cJ.fzG (id:=971) (E':=[(3,.ref 970 0 0 0)]) (H':=[(970,bx 1 131 [.pv (aK f_)])]) (f_.map S_) Z (eC _) ?_ Z ?_ ?_) ?_
 ·intro p e;simp only[l7,n_,or_false]at e;rcases e with rfl;exact⟨_,Z,.same (by simp;rfl)⟩
 ·exact⟨⟨_,Z,Z,Z,Z,lW Z (bG (.osl (iH S_ _)) kT)⟩,T_⟩
 ·exact T_
 exact Rd (bS DP)<|Y (kc Nq (c _))<|O U<|aC<|Rt<|Qq
end Go.Proofs.YtopnleflllkbmaaGreatDoor
namespace Go.Abs
variable{F f:FuncId}{args:List AV}{c:Code}{P:Program}{H H0:aF}
section
theorem DW.of{P}{N}{o}{E}{H}{R}{PP}(h:ja P N o E H R):DW P N o E H R PP :=fun a w I ι e c d K Q b _=>h a w I _ T_ e c d K Q b
theorem DW.opr{P}{N}{o}{E}{H}{R}(h:DW P N o E H R (fun _ _=>False)):ja P N o E H R :=fun a w I ι _ f c e K Q b=>h a w I _ f c e K Q b (fun _ _ _ _ _ d=>d.elim)
def fM(P:Program)(f:FuncId)(args:List AV)(H:aF)(Q:AV->aF->Prop)(PP:Z1->aF->Prop):Prop :=∀(I:Nat->Prop) (ι:lP) (w:World) (vs:Array Value),Rel I ι H w->vs.size=args.length->(∀(i:Nat) (v:Value) (a:AV),vs[i]?=some v->args[i]?=some a->VRel w I ι H v a) ->
  Calls P f vs w fun e w'=>(∃r H' I' ι' v,e=.returned v/\Q r H'/\VRel w' I' ι' H' v r/\Rel I' ι' H' w'/\Step I ι H w I' ι' H' w')\/(∃ch H' I' ι',e=.panicked ch/\PP ch H'/\Rel I' ι' H' w'/\Step I ι H w I' ι' H' w')
section
variable{Q:AV->aF->Prop}{PP:Z1->aF->Prop}
theorem fM.of(h:aS P f args H Q):fM P f args H Q PP:=fun I ι w vs b a c=>(h I _ w _ b a c).mono fun _ _ h=>.inl h
theorem fM.mono{g}{PP'}(h:fM P f args H Q PP)(l:∀r H',Q r H'->g r H')(m:∀c H',PP c H'->PP' c H'):fM P f args H g PP' :=fun I ι w vs k j i=>(h I _ w _ k j i).mono fun _ _ h=>h.elim (fun⟨r,H',d,b,v,e,q,a⟩=>.inl ⟨r,H',d,b,v,e,l _ _ q,a⟩) (fun⟨c,H',d,b,e,q,a⟩=>.inr ⟨c,H',d,b,e,m _ _ q,a⟩)
theorem fM.calls(h:fM P f args H Q PP)(d:∀a H',¬ PP a H'):aS P f args H Q :=fun I ι w vs c b e=>(h I _ w _ c b e).mono fun _ _ h=>h.elim id (fun⟨a,H',_,_,_,q,_⟩=>(d _ _ q).elim)
end
section
variable{N:Nat}{o:Oper}{E:cY}{Q:AV->aF->Prop}{PP:Z1->aF->Prop}
theorem eI{F}{f}{args}{c}{e}(m:o.op=.call {callee:=.value f,args:=args,argTypes:=c})(p:aO E f=some (.pv (.fn F)))
  (q:∀(args) (w),(callFunc F args).run P w=.ok (.enter F args) w) (g:yL E args.toList=some e) (h:fM P F e H Q PP):DW P N o E H Q PP:=by
 intro a w I r _ n j K QQ hk hp;have d:=(aI j p).fn_inv;obtain ⟨h1,k⟩:=pD j (nS g);unfold Oper.wpW execOp;simp[m,resolve,d,Deferred.ofValue,Sem.run_bind,Sem.run_pure,Result.andThen_ok,invoke,q,Oper.uponW_enter];refine(h I r w _ n F_ (fun i v b g l=>k i v b F_ l)).mono ?_
 grind
theorem GY{f:Operand}{args:Array Operand}{m:Array TypeId}{k c:List AV}(x:o.op=.call {callee:=.value f,args:=args,argTypes:=m})(t:aO E f=some (.clo F c))
  (s:∀(args:Array Value) (w:World),(callFunc F args).run P w=.ok (.enter F args) w) (d:yL E args.toList=some k) (h:fM P F (k++c) H Q PP):DW P N o E H Q PP:=by
 intro a w I u _ r n K QQ hk hp;have e:=aI n t;generalize j:a.eval f=fc at e;obtain ⟨h1,p⟩:=pD n (nS d);cases e with
 | @clo _ us _ hl q =>
  unfold Oper.wpW execOp;simp only[x,resolve,j,Deferred.ofValue,Sem.run_bind,Sem.run_pure,Result.andThen_ok,invoke,s,Oper.uponW_enter,Array.empty_append];have l:args.size=k.length:=X
  refine(h I u w _ r F_ (fun i v b d g=>?_)).mono ?_
  ·by_cases hi:i<args.size
   ·rw[Array.getElem?_append_left F_]at d;rw[List.getElem?_append_left X]at g;exact p i v b F_ g
   rw[Array.getElem?_append_right G_]at d;rw[List.getElem?_append_right X]at g;simp only[Array.size_map]at d;rw[l]at d;exact q _ v b d g
  grind
end
section
variable{N:Nat}{o:Oper}{E:cY}{Q:AV->aF->Prop}{PP:Z1->aF->Prop}{t t' T:TypeId}{x y:Operand}
theorem pB{f}{xs}{c}(e:o.op=.makeFunc (.func f) xs #[])(d:yL E xs.toList=some c):cL P N o E H (.bnd f c) H :=.of_run fun a w I ι _ h=>by
  obtain ⟨h1,j⟩:=pD h (nS d);exact⟨.func _ (xs.map a.eval) #[],by simp[execOp,e,Instr.makeFunc],.bnd F_ (fun i v b d g=>j i v b F_ g)⟩
theorem GZ{f:Operand}{args:Array Operand}{j:Array TypeId}{l xs:List AV}(r:o.op=.call {callee:=.value f,args:=args,argTypes:=j})(u:aO E f=some (.bnd F xs))
  (z:∀(args:Array Value) (w:World),(callFunc F args).run P w=.ok (.enter F args) w) (d:yL E args.toList=some l) (h:fM P F (xs++l) H Q PP):DW P N o E H Q PP:=by
 intro a w I A _ m k K QQ hk hp;have c:=aI k u;generalize g:a.eval f=fc at c;obtain ⟨h1,n⟩:=pD k (nS d);cases c with
 | @bnd _ s _ hl p =>
  unfold Oper.wpW execOp;simp only[r,resolve,g,Deferred.ofValue,Sem.run_bind,Sem.run_pure,Result.andThen_ok,invoke,z,Oper.uponW_enter,Array.append_empty];refine(h I A w _ m F_ (fun i v b d e=>?_)).mono ?_
  ·by_cases q:i<s.size
   ·rw[Array.getElem?_append_left q]at d;rw[List.getElem?_append_left X]at e;exact p i v b d e
   rw[Array.getElem?_append_right X]at d;rw[List.getElem?_append_right X]at e;exact n _ v b F_ e
  grind
abbrev ms(t:TypeId):Z1:=[{v:=.iface t (.agg #[]),recovered:=false}]
theorem VR(e:o.op=.panic x)(f:aO E x=some (.pv (.ifa t []))):DW P N o E H (fun _ _=>False) (fun c H'=>c=ms t/\H'=H):=by intro a w I ι _ g h K QQ hk b;obtain ⟨cs,d,hl,_⟩:=(aI h f).ifa_inv;have:=Array.eq_empty_of_size_eq_zero X;subst this;unfold Oper.wpW execOp;simp[e,d];exact b _ w I _ H ⟨Z,Z⟩ g (Step.refl _ _ _ _)
end
section
variable{G0:aF}{N:Nat}{E:cY}{ops:Array Oper}{Q:Exit->cY->aF->Prop}{o:Oper}{rest:List Oper}{R:AV->aF->Prop}{PP:Z1->aF->Prop}
def Bo(P:Program)(G0:aF)(N:Nat)(ops:Array Oper)(Q:Exit->cY->aF->Prop)(l:List Oper)(E:cY)(H:aF):Prop :=∀G:Entry,G.H=G0->∀a w,St G N E H a w->∀ro,(ro=none\/l.all Oper.noDefer=true)->wpListIn (RF ro) 0 P ops (fun e a w=>∃E H,Q e E H/\St G N E H a w) l a w
theorem PK(h:Q .normal E H):Bo P G0 N ops Q [] E H:=fun _ _ a w b _ _=>⟨E,H,h,b⟩
theorem Mj(l:o.guard=none)(hd:iZ N o.dst=true)(h:DW P N o E H R PP)(e:∀d H',PP d H'->Q (.panic d) E H')(i:∀r H',R r H'->Bo P G0 N ops Q rest (nG E o.dst r) H'):Bo P G0 N ops Q (o::rest) E H:=by intro G j a w k ro c;refine wpListIn_plain l fun K' m=>?_;exact k.opP hd h (fun r H' a' g n b=>m _ _ (i r _ n G j _ _ b _ (nO c).2)) (fun d H' g f b=>⟨E,H',e _ _ f,b⟩) (nO c).1
theorem Wy(b:o.guard=none)(hd:iZ N o.dst=true)(h:ja P N o E H R)(a:∀r H',R r H'->Bo P G0 N ops Q rest (nG E o.dst r) H'):Bo P G0 N ops Q (o::rest) E H :=Mj (PP:=fun _ _=>False) b hd (.of h) (fun _ _ h=>h.elim) a
theorem iO{d}{v}{H2}(a:o.guard=none)(hd:o.dst=some d)(c:Nat.blt d N=true)(h:cL P N o E H v H2)(e:Bo P G0 N ops Q rest ((d,v)::E) H2):Bo P G0 N ops Q (o::rest) E H :=Wy a (by rw[hd];exact c) h fun r H' ⟨b,f⟩=>by subst b f;rw[hd];exact e
theorem Mk{v}{H2}(d:o.guard=none)(hd:o.dst=none)(h:cL P N o E H v H2)(a:Bo P G0 N ops Q rest E H2):Bo P G0 N ops Q (o::rest) E H :=Wy d (by rw[hd];rfl) h fun r H' ⟨c,b⟩=>by subst c b;rw[hd];exact a
theorem ZM{d}{v}{H2}{F}(j:o.guard=none)(hd:o.dst=some d)(e:Nat.blt d N=true)(h:DW P N o E H (fun r H'=>r=v/\H'=H2/\F) PP)(b:∀a H',PP a H'->Q (.panic a) E H')(f:F->Bo P G0 N ops Q rest ((d,v)::E) H2):Bo P G0 N ops Q (o::rest) E H :=Mj j (by rw[hd];exact e) h b fun r H' ⟨c,g,i⟩=>by subst c g;rw[hd];exact f i
theorem qK(c:o.guard=none)(hd:iZ N o.dst=true)(h:DW P N o E H (fun _ _=>False) PP)(b:∀a H',PP a H'->Q (.panic a) E H'):Bo P G0 N ops Q (o::rest) E H:=Mj c hd h b (fun _ _ h=>h.elim)
theorem gL{id}(h:Bo P G0 N ops Q ops.toList E H):fZ P G0 N (.region id ops false) Q E H:=fun G d a w b ro c=>wpIn_region_list (h G d a w b _ c)
end
def Ng(P:Program)(fn:Func)(G0:aF)(Q:AV->aF->Prop)(PP:Z1->aF->Prop)(e:Exit)(E:cY)(H:aF):Prop :=NG P fn G0 Q e E H\/∃ch H',e=.panic ch/\Fin G0 H (.tup []) H' (.tup [])/\PP ch H'
theorem NC{P}{a}{G0 H}{Q}{PP}{e}{E}(h:NG P a G0 Q e E H):Ng P a G0 Q PP e E H:=.inl h
theorem FD{P}{d}{G0 H H'}{Q}{PP}{a:Z1}{E}(c:Fin G0 H (.tup []) H' (.tup []))(b:PP a H'):Ng P d G0 Q PP (.panic a) E H:=.inr ⟨a,H',Z,c,b⟩
theorem fM.body{o:Func}{Q:AV->aF->Prop}{PP:Z1->aF->Prop}{N:Nat}(v_:P.funcs[f]?=some o)(y_:o.body=some c)(hN:o.ntmps=N)(hlen:args.length<=N)
  (h:fZ P H N c (Ng P o H Q PP) (oA args) H):fM P f args H Q PP:=by
 intro I n w s o_ hl f_;refine callsIn_wide.1 (callsIn_of_wp_marks (F:=Fence.wide) (n:=0) v_ y_ T_ ?_);have F:St ⟨I,n,H,w,[]⟩ N (oA args) H {tmps:=s++Array.replicate (o.ntmps - s.size) undef,defers:=[]} w:=by
  refine⟨tR.nil _ _ _,?_,I,n,o_,Step.refl _ _ _ _,fun t a z_=>?_⟩
  ·grind
  have R:=wS z_;have G:t<s.size:=G_
  have W:s[t]?=some s[t]:=Array.getElem?_eq_getElem G;exact⟨s[t],G_,f_ t _ a W R⟩
 refine wpIn_mono (h ⟨I,n,H,w,[]⟩ Z _ w F none (.inl Z)) ?_;rintro e y m ⟨E',k,(⟨u_,r,d_,r',z,i,L⟩|⟨B,z,rfl,i,L⟩),D⟩
 ·have u:LeavesInM Fence.wide 0 P o y.tmps (fun e m=>(∃r k g b v,e=.returned v/\Q r k/\VRel m g b k v r/\Rel g b k m/\Step I n H w g b k m)\/(∃B k g b,e=.panicked B/\PP B k/\Rel g b k m/\Step I n H w g b k m)) y.defers .returning m:=by
   obtain ⟨g,b,q,d,p⟩:=D.rel;refine wM D.defers q d p ?_;intro E l j A;obtain ⟨v,h1,A_⟩:=d_ y E g b l A;obtain ⟨e_,x,c_,K,T⟩:=i ⟨I,n,H,w,[]⟩ Z g b E v l j A_
   grind
  rcases u_ with rfl|rfl
  ·exact u
  exact u
 obtain ⟨g,b,q,d,p⟩:=D.rel;show LeavesInM Fence.wide 0 P o y.tmps _ y.defers (.panicking B) m;refine AD H_ D.defers q d p ?_;intro E l j A;obtain ⟨e_,x,c_,K,T⟩:=i ⟨I,n,H,w,[]⟩ Z g b E (.tuple #[]) l j (.tup Z H_);exact .inr ⟨B,z,e_,x,Z,L,c_,K⟩
theorem SM{I x:Nat->Prop}{ι s:lP}{H':aF}{w w':World}(c_:Rel I ι H w)(G:Sub H0 H)(k2:Rel x s H' w')(m:Step I ι H0 w x s H' w')(hk:∀id,(H'.get id).isSome=true->(H0.get id).isSome=true\/H.get id=none):
  ∃f,Rel x f (H'++H) w'/\Step I ι H w x f (H'++H) w'/\∀v a,VRel w' x s H' v a->VRel w' x f (H'++H) v a:=by
 obtain ⟨f,hι2⟩:∃f:lP,f=(fun j=>if(H'.get j).isSome=true then s j else ι j):=X_;have B:∀j o,H'.get j=some o->f j=s j:=fun j o d=>by simp_all
 have D:∀j,H'.get j=none->f j=ι j:=fun j d=>by simp_all
 have W:∀j o,H'.get j=some o->aF.get (H'++H) j=some o:=fun j o d=>by rw[gC,d]
 have F:∀j,H'.get j=none->aF.get (H'++H) j=H.get j:=fun j d=>by rw[gC,d]
 have u_:∀j o,H.get j=some o->H'.get j=none->H0.get j=none:=fun j o d E=>by
  cases e:H0.get j with
  |none=>rfl
  |some o0 =>
   obtain ⟨l,T,_⟩:=m.objs j o0 e
   simp_all
 have y:∀j o b c,H.get j=some o->H'.get j=none->ι j=some (b,c)->¬ NF ι H0 b:=fun j o b c d E K ⟨n,l,d_,k,R⟩=>by
  have:=c_.inj j n o l b c d_ d (G _ _ k) K R;subst this;rw[u_ j o d E]at k;cases k
 have o_:Step I ι H w x f (H'++H) w':=by
  refine⟨m.os,m.tape,m.output,m.size,fun a ha E=>m.froz a ha (fun h=>E (h.sub G)),m.imm,fun b K=>?_,?_,?_,?_⟩
  ·rcases m.immNew b K with g|g|g
   ·simp_all
   ·exact .inr (.inl (g.sub G))
   omega
  ·rintro b ⟨j,o,c,d,t⟩;cases e:H'.get j with
   |some l =>
    rw[B j l e]at t;rcases m.own b ⟨j,l,c,e,t⟩with g|g
    ·exact .inl (g.sub G)
    omega
   |none =>
    rw[D j e]at t;rw[F j e]at d;exact .inl ⟨j,o,c,d,t⟩
  ·intro b K E;exact m.keep b K (fun h=>E (h.sub G))
  intro j o d;cases e:H'.get j with
  |some l =>
   rcases hk j (by rw[e];rfl)with g|g
   ·obtain ⟨o0,y_⟩:=Option.isSome_iff_exists.1 g;have:=G _ _ y_;rw[d]at this;cases this;obtain ⟨f_,z_,q2,q3⟩:=m.objs j o y_;exact⟨f_,W j f_ z_,q2,fun e=>by rw[B j f_ z_];exact q3 e⟩
   rw[d]at g;cases g
  |none=>exact⟨o,(F j e).trans d,j6 _,fun _=>⟨D j e,Z,fun _=>j6 _⟩⟩
 have L:∀ {v:Value} {a:AV},VRel w' x s H' v a->VRel w' x f (H'++H) v a:=fun v_ =>
  v_.mono' (fun _ _=>rfl) (fun _ h=>h) (fun id o A_=>⟨o,W id o A_,j6 _,fun _=>⟨B id o A_,Z,fun _=>j6 _⟩⟩)
 refine⟨f,⟨k2.imm,fun j o d=>?_,fun j n o l b c d_ d k t i=>?_,k2.glob⟩,o_,fun v a h=>L h⟩
 ·cases e:H'.get j with
  |some l =>
   rw[W j l e]at d;obtain rfl:l=o:=Option.some.inj d;exact(k2.obj j l e).keep (B j l e) (fun _ _ _ _=>⟨Z,fun h=>h⟩) (fun r _ a _ v Q=>L Q)
  |none =>
   rw[F j e]at d;refine(c_.obj j o d).keep (D j e) (fun P z T A=>⟨m.keep P A (y j o P z d e T),fun e3 hi=>?_⟩) (fun r _ a _ v Q=>Q.mono c_ o_);rcases m.immNew P hi with g|g|g
   ·exact e3 g
   ·exact y j o P z d e T g
   omega
 cases e:H'.get j with
 | some q =>
  rw[B j q e]at t;cases u:H'.get n with
  |some N =>
   rw[B n N u]at i;exact k2.inj j n q N b c d_ e u t i
  |none =>
   rw[D n u]at i;rw[F n u]at k;have A:=c_.lt ⟨n,l,d_,k,i⟩;rcases m.own b ⟨j,q,c,e,t⟩with g|g
   ·exact absurd g (y n l b d_ k u i)
   omega
 | none =>
  rw[D j e]at t;rw[F j e]at d;cases u:H'.get n with
  |some N =>
   rw[B n N u]at i;have A:=c_.lt ⟨j,o,c,d,t⟩;rcases m.own b ⟨n,N,d_,u,i⟩with g|g
   ·exact absurd g (y j o b c d e t)
   omega
  |none =>
   rw[D n u]at i;rw[F n u]at k;exact c_.inj j n o l b c d_ d k t i
theorem fM.conv{P}{f}{args}{H}{Q n}{PP PP'}(h:fM P f args H Q PP)(u:∀r H',Q r H'->∃H2,(∀j,H2.get j=H'.get j)/\n r H2)(x:∀c H',PP c H'->∃H2,(∀j,H2.get j=H'.get j)/\PP' c H2):fM P f args H n PP' :=fun I ι w vs p t o=>(h I _ w _ p t o).mono fun _ _ h=>by
  rcases h with⟨r,H',k,b,v,e,q,s,d,i⟩|⟨c,H',k,b,e,q,d,i⟩
  ·obtain ⟨H2,m,a⟩:=u r _ q;obtain ⟨l,g⟩:=d.congr m;exact .inl ⟨r,H2,k,b,v,e,a,s.mono d g,l,i.trans g⟩
  obtain ⟨H2,m,a⟩:=x _ _ q;obtain ⟨l,g⟩:=d.congr m;exact .inr ⟨c,H2,k,b,e,a,l,i.trans g⟩
theorem fM.frame{R}{PP}(h:fM P f args H0 R PP)(d:Sub H0 H)(s:dD H0)(y:∀a∈args,Clo H0 a)
  (g:∀r H1,R r H1->∀id,(H1.get id).isSome=true->(H0.get id).isSome=true\/H.get id=none) (l:∀c H1,PP c H1->∀id,(H1.get id).isSome=true->(H0.get id).isSome=true\/H.get id=none) :
  fM P f args H (fun r H'=>∃K,R r K/\H'=K++H) (fun c H'=>∃K,PP c K/\H'=K++H):=by
 intro I t w d_ j B x;refine(h I t w d_ (j.restrict d s) B (fun i v a A q=>(x i v a A q).restrict d (y a (m7 q)))).mono ?_;rintro e w' (⟨r,H',E,k,v,rfl,n,k1,o,p⟩|⟨c,H',E,k,rfl,n,o,p⟩)
 ·obtain ⟨m,u,z,D⟩:=SM j d o p (g r H' n)
  grind
 obtain ⟨m,u,z,D⟩:=SM j d o p (l c H' n)
 grind
end
section
def Nw(P:Program)(N:Nat)(PP:Z1->aF->aF->Prop)(ops rest:List Oper)(E:cY)(H:aF)(K:List Rec->List Prop->cY->aF->Prop):Prop:=∃rs Fs E' H',DChainP P N ops PP rest E H rs Fs E' H'/\K rs Fs E' H'
theorem KW{P}{N}{PP}{ops}{E}{H}{K}(h:K [] [] E H):Nw P N PP ops [] E H K:=⟨_,_,_,_,.nil,h⟩
theorem vI{P}{N}{PP}{ops rest}{o}{E}{H}{K}{r}{F}(h:DStepP P N ops PP o E H r F)(hd:iZ N o.dst=true)
  (d:Nw P N PP ops rest (nG E o.dst r.v) (r.W++H) (fun a b E' H'=>K (r::a) (F::b) E' H')):Nw P N PP ops (o::rest) E H K:=by
 obtain ⟨a,b,E',H',c,e⟩:=d;exact⟨_,_,_,_,.cons h hd c,e⟩
theorem fx{P}{N}{PP}{ops rest}{o}{E}{H}{K}{r}(h:DStep P N ops o E H r)(hd:iZ N o.dst=true)
  (c:Nw P N PP ops rest (nG E o.dst r.v) (r.W++H) (fun a b E' H'=>K (r::a) (True::b) E' H')):Nw P N PP ops (o::rest) E H K:=vI (.old T_ h) hd c
theorem yK{P}{G0}{N id}{Q}{ops}{E}{H}(PP)(d a ks)(i:tz d ops=true)(g:P.follows .mixedOrders=true)
  (j:∀e c H1 H2,(∀t∈d,c.get t=E.get t)->Shp a H H1->(∀id∈ks,H1.get id=H.get id)->PP e H1 H2->Q (.panic e) c H2)
  (h:Nw P N PP ops.toList ops.toList E H (fun b f E' H'=>(RV ops.toList b=true/\Px a H b=true/\tw ks b=true)/\(ZT f->Q .normal E' H'))):fZ P G0 N (.region id ops true) Q E H:=by
 obtain ⟨b,f,E',H',n,⟨m,l,o⟩,k⟩:=h;exact XD g n m _ _ l o _ i j k
section
variable{G0:aF}{N:Nat}{PP:Z1->aF->aF->Prop}{ops rest:List Oper}{E:cY}{K:List Rec->List Prop->cY->aF->Prop}{dst:Option Tmp}{op:Op}{ty:TypeId}{pos:String}{af:Array Edge}{v:AV}{w:Nat×Ob}
theorem Pr(R:List Nat)(h:∀H1:aF,(∀id,tL (some R) id=true->H1.get id=H.get id)->cL P N ⟨dst,op,ty,pos,af,none⟩ (restr E (iV ops ⟨dst,op,ty,pos,af,none⟩)) H1 v H1)(hk:Nw P N PP ops rest (nG E dst v) H (fun rs Fs E' H'=>K (⟨v,some R,[]⟩::rs) (True::Fs) E' H'))(hd:iZ N dst=true:=by rfl):Nw P N PP ops (⟨dst,op,ty,pos,af,none⟩::rest) E H K:=fx (r:=⟨v,some R,[]⟩) (DStep.plain Z h) hd hk
theorem Pw(R:List Nat)(h:∀H1:aF,(∀id,tL (some R) id=true->H1.get id=H.get id)->cL P N ⟨dst,op,ty,pos,af,none⟩ (restr E (iV ops ⟨dst,op,ty,pos,af,none⟩)) H1 v (w::H1))(hk:Nw P N PP ops rest (nG E dst v) (w::H) (fun rs Fs E' H'=>K (⟨v,some R,[w]⟩::rs) (True::Fs) E' H'))(hd:iZ N dst=true:=by rfl):Nw P N PP ops (⟨dst,op,ty,pos,af,none⟩::rest) E H K:=fx (r:=⟨v,some R,[w]⟩) (DStep.plain Z h) hd hk
end
end
section
abbrev Mx(G:Entry)(Q:AV->aF->Prop):Ending->World->Prop:=fun e w'=>∃r H' I' ι' v,e=.returned v/\Q r H'/\VRel w' I' ι' H' v r/\Rel I' ι' H' w'/\Step G.I G.ι G.H G.w I' ι' H' w'
def DWp(P:Program)(fn:Func)(G0:aF)(N:Nat)(Q:AV->aF->Prop)(c:Code)(E:cY)(H:aF):Prop :=∀G:Entry,G.H=G0->G.ds=[]->∀a w,St G N E H a w->c.wpIn Fence.wide 0 P (bodyPostM Fence.wide 0 P fn (Mx G Q)) a w
section
variable{fn:Func}{G0 H:aF}{N:Nat}{Q:AV->aF->Prop}{E:cY}
theorem BY{G}{e}{a}{w}(n:G.H=G0)(hd:G.ds=[])(h:NG P fn G0 Q e E H)(m:St G N E H a w):bodyPostM Fence.wide 0 P fn (Mx G Q) e a w:=by
 obtain ⟨o,r,g,r',H'',b,hq⟩:=h;have c:LeavesInM Fence.wide 0 P fn a.tmps (Mx G Q) a.defers .returning w:=by
  obtain ⟨I',ι',k,f,l⟩:=m.rel;refine wM (hd▸m.defers) k f l ?_;intro w2 i d j;obtain ⟨v,h1,p⟩:=g a _ _ _ i j;obtain ⟨I2,ι2,k1,k2,k3⟩:=b G n _ _ _ v i d p
  grind
 rcases o with rfl|rfl
 ·exact c
 exact c
theorem va{x y}(h:fZ P G0 N x (yP (fun g H1=>DWp P fn G0 N Q y g H1) (NG P fn G0 Q)) E H):DWp P fn G0 N Q (.seq x y) E H:=by
 intro G c d a w i;refine wpIn_seq (wpIn_mono (h G c a w i _ (.inl Z)) ?_);rintro e a' w' ⟨E',H',f,b⟩;cases e with
 |normal=>exact f G c d _ _ b
 |exit id=>exact BY c d f b
 |goto l=>exact BY c d f b
 |ret=>exact BY c d f b
 |panic ch=>exact BY c d f b
 |outgrown=>exact BY c d f b
theorem aS.bodyD(k:P.funcs[f]?=some fn)(o:fn.body=some c)(hN:fn.ntmps=N)(hlen:args.length<=N)(h:DWp P fn H N Q c (oA args) H):aS P f args H Q:=by
 intro I g w b j hl i;refine callsIn_wide.1 (callsIn_of_wp_marks (n:=0) k o T_ ?_);have d:St ⟨I,g,H,w,[]⟩ N (oA args) H {tmps:=b++Array.replicate (fn.ntmps - b.size) undef,defers:=[]} w:=by
  refine⟨tR.nil _ _ _,?_,I,g,j,Step.refl _ _ _ _,fun t a n=>?_⟩
  ·grind
  have m:=wS n;have e:t<b.size:=G_
  have l:=Array.getElem?_eq_getElem e;exact⟨b[t],G_,i t _ a l m⟩
 exact h _ Z Z _ w d
end
def ZU(P:Program)(F:FuncId)(args:List AV)(H:aF)(u:FrameMode)(K:aF->Prop):Prop :=∀(I:Nat->Prop) (ι:lP) (w:World) (vs:Array Value),Rel I ι H w->vs.size=args.length->(∀(i:Nat) (v:Value) (a:AV),vs[i]?=some v->args[i]?=some a->VRel w I ι H v a) ->
  CallsDIn Fence.wide 0 P F vs u w fun e u' w'=>∃v H' I' ι',e=.returned v/\settle u'=.returning/\K H'/\Rel I' ι' H' w'/\Step I ι H w I' ι' H' w'
def vt(P:Program)(fn:Func)(G0 H0:aF)(F:FuncId)(cs:List AV)(Q:AV->aF->Prop)(e:Exit)(E:cY)(H:aF):Prop :=∃u E1 H1,((e=.normal\/e=.ret)/\u=.returning\/∃ch,e=.panic ch/\u=.panicking ch)/\cJ H0 E H E1 H1 /\
  ZU P F cs H1 u fun H2=>∃r,(∀(a:Act) (w:World) (I:Nat->Prop) (ι:lP),Rel I ι H2 w->lH w I ι H2 E1 a->∃v,(results fn a.tmps).run P w=.ok v w/\VRel w I ι H2 v r)/\∃r' H3,Fin G0 H2 r H3 r'/\Q r' H3
section
variable{fn:Func}{G0 H:aF}{N:Nat}{Q:AV->aF->Prop}{E:cY}
theorem zu{id:Nat}{A_ y_:Oper}{ops:Array Oper}{rest:Code}{l:Array Operand}{at_:Array TypeId}{d:Tmp}{cs:List AV}(z:ops.toList=[A_,y_])(hg1:A_.guard=none)(R:A_.dst=some d)(hdN:Nat.blt d N=true)(ho1:A_.op=.makeFunc (.func F) #[] l)
  (hg2:y_.guard=none) (hd2:y_.dst=none) (ho2:y_.op=.defer {callee:=.value (.tmp d),args:=#[],argTypes:=at_}) (hv:yL E l.toList=some cs)
  (hc:∀(args:Array Value) (w:World),(callFunc F args).run P w=.ok (.enter F args) w)
  (h:fZ P H N rest (vt P fn G0 H F cs Q) ((d,.clo F cs)::E) H):DWp P fn G0 N Q (.seq (.region id ops false) rest) E H:=by
 intro G hG hd a w hs;refine wpIn_seq (wpIn_region_list ?_);rw[z];refine wpListIn_plain hg1 fun K1 hK1=>?_;refine hs.op (ro:=none) (by rw[R];exact hdN) (gR ho1 (nS hv)) ?_ (.inl Z);rintro r H' j q ⟨rfl,rfl⟩ k;refine hK1 j q ?_;rw[R]at k;refine wpListIn_plain hg2 fun K2 hK2=>?_;refine Oper.wpW_in (ro:=none) (.inl Z) ?_;obtain ⟨I1,f_,o,B,A⟩:=k.rel;obtain ⟨c1,hc1,hv1⟩:=A d _ (cY.get_cons_same _ _ _);have hev:j.eval (.tmp d)=c1:=by simp[Act.eval,hc1]
 cases hv1 with
 | @clo _ K _ hl hh =>
  unfold Oper.wpW execOp;simp only[ho2,resolve,hev,Deferred.ofValue,Sem.run_bind,Sem.run_pure,Result.andThen_ok,Oper.uponW,hd2,Act.put];refine hK2 _ q ?_;show Exit.then _ _ .normal _ q
  let dd:Deferred:={target:=.fn (.func F) K,args:=#[]++(#[]:Array Operand).map j.eval}
  have d_:St ⟨I1,f_,H',q,dd::j.defers⟩ N ((d,.clo F cs)::E) H' {j with defers:=dd::j.defers} q :=
   ⟨tR.nil _ _ _,k.size,I1,f_,o,Step.refl _ _ _ _,A⟩
  refine wpIn_mono (h _ Z _ q d_ none (.inl Z)) ?_;rintro e e_ w' ⟨E',H2,⟨u,E1,H1,n,I,W⟩,z_⟩;have L:=I _ Z N e_ w' z_;have p:u≠.run->LeavesInM Fence.wide 0 P fn e_.tmps (Mx G Q) e_.defers u w':=by
   intro hu;obtain ⟨I3,ι3,hr3,o_,he3⟩:=L.rel;refine AD hu L.defers hr3 o_ he3 ?_;intro w4 y g he4;refine⟨hu,.inr ⟨(fun hx=>by cases hx),.func F,K,F,K,Z,?_,fun _ _=>trivial,?_⟩⟩
   ·show (invoke (.fn (.func F) K) (#[]++(#[]:Array Operand).map j.eval)).run P w4=_;simp only[invoke,Array.map_empty,Array.empty_append,hc]
   refine(W I3 ι3 w4 K y X (fun i v b hv hb=>(hh i v b hv hb).mono o g)).mono ?_;rintro e2 u' w5 ⟨v,H5,I5,m,rfl,c_,⟨r,u_,r',H6,D,hq⟩,hr5,f⟩;show LeavesInM Fence.wide 0 P fn e_.tmps (Mx G Q) j.defers (settle u') w5;rw[c_];have s:Step G.I G.ι G.H G.w I5 m H5 w5:=(B.trans g).trans f;have hm1:tR [] G.w w5 j.defers:=(hd▸k.defers).step o (g.trans f);refine wM hm1 hr5 s (fun t v ht=>let ⟨c,x1,x2⟩:=he4 t v ht;⟨c,x1,x2.mono y f⟩) ?_;intro w7 v_ x he7;obtain ⟨v,h1,h2⟩:=u_ e_ w7 I5 m v_ he7;obtain ⟨I8,ι8,k1,k2,k3⟩:=D G hG I5 m w7 v v_ x h2
   grind
  rcases n with⟨rfl|rfl,rfl⟩|⟨ch,rfl,rfl⟩
  ·exact p H_
  ·exact p H_
  exact p H_
end
end
end Go.Abs
namespace Go.Abs
open Go.Proofs
variable{d:Tmp}{E:cY}
section
section
variable{P:Program}{G0:aF}{N:Nat}{Q:Exit->cY->aF->Prop}{H:aF}
def UL(P:Program)(G0:aF)(N:Nat)(c:Code)(Q:Exit->cY->aF->Prop)(E:cY)(H:aF):Prop :=∀G:Entry,G.H=G0->∀a w,St G N E H a w->c.wpIn (RF none) 0 P (fun e a' w'=>(∃E H,Q e E H/\St G N E H a' w')/\a'.defers=a.defers) a w
def Xc(P:Program)(G0:aF)(N:Nat)(ops:Array Oper)(K:cY->aF->Prop)(l:List Oper)(E:cY)(H:aF):Prop :=∀G:Entry,G.H=G0->∀a w,St G N E H a w->∀Q:Exit->Act->World->Prop,(∀E H a' w',K E H->St G N E H a' w'->a'.defers=a.defers->Q .normal a' w')->wpListIn (RF none) 0 P ops Q l a w
theorem GD{ops}{K}(h:K E H):Xc P G0 N ops K [] E H:=fun _ _ a w b _ c=>c _ _ a w h b Z
theorem St.opN{G}{a}{w}{o}{R}(d:St G N E H a w)(hd:iZ N o.dst=true)(h:ja P N o E H R){K}{Q}
  (l:∀r H' a' w',R r H'->St G N (nG E o.dst r) H' a' w'->a'.defers=a.defers->K a' w'):o.wpIn (RF none) 0 P a w K Q:=by
 refine Oper.wpW_in (.inl Z) ?_;obtain ⟨I,ι,g,e,j⟩:=d.rel;refine h a w I _ T_ d.size g j K Q ?_;intro c w' m f r H' n k i b;refine l r _ _ _ n ⟨?_,?_,m,f,i,e.trans b,lH.put g b j k (by rw[d.size];exact hd)⟩ (mB _ _ _)
 ·rw[mB];exact d.defers.step g b
 have:=d.size;cases o.dst<;>simpa[Act.put]using this
theorem Wz{ops}{K}{o}{rest}{R}(m:o.guard=none)(hd:iZ N o.dst=true)(h:ja P N o E H R)(k:∀r H',R r H'->Xc P G0 N ops K rest (nG E o.dst r) H'):Xc P G0 N ops K (o::rest) E H:=by intro G j a w l Q i;refine wpListIn_plain m fun K' n=>?_;exact l.opN hd h fun r H' a' w' g f e=>n _ _ (k r _ g G j _ _ f Q fun E H a'' w'' d c b=>i E H _ _ d c (b.trans e))
theorem N4{ops}{K}{o}{rest}{v}{H2}(a:o.guard=none)(hd:o.dst=some d)(c:Nat.blt d N=true)(h:cL P N o E H v H2)(e:Xc P G0 N ops K rest ((d,v)::E) H2):Xc P G0 N ops K (o::rest) E H :=Wz a (by rw[hd];exact c) h fun r H' ⟨b,f⟩=>by subst b f;rw[hd];exact e
theorem Ml{ops}{K}{o}{rest}{v}{H2}(d:o.guard=none)(hd:o.dst=none)(h:cL P N o E H v H2)(a:Xc P G0 N ops K rest E H2):Xc P G0 N ops K (o::rest) E H :=Wz d (by rw[hd];rfl) h fun r H' ⟨c,b⟩=>by subst c b;rw[hd];exact a
theorem sA{id}{ops}(h:Xc P G0 N ops (fun E H=>Q .normal E H) ops.toList E H):UL P G0 N (.region id ops false) Q E H:=fun G c a w d =>
 wpIn_region_list (h G c a w d _ fun E H a' w' q s b=>⟨⟨E,H,q,s⟩,b⟩)
theorem K3{x y}(h:UL P G0 N x (yP (UL P G0 N y Q) Q) E H):UL P G0 N (.seq x y) Q E H:=by intro G c a w g;refine wpIn_seq (wpIn_mono (h G c a w g) ?_);rintro e a' w' ⟨⟨f,d,q,s⟩,b⟩;cases e<;>first|exact wpIn_mono (q G c _ _ s) (fun e a w ⟨i,j⟩=>⟨i,j.trans b⟩)|exact⟨⟨f,d,q,s⟩,b⟩
theorem S8{id}{c}(h:UL P G0 N c (K9 id Q) E H):UL P G0 N (.block id c) Q E H:=by
 intro G f a w i;refine wpIn_block (wpIn_mono (h G f a w i) ?_);rintro e a' w' ⟨⟨g,d,q,s⟩,j⟩;cases e<;>try exact⟨⟨g,d,q,s⟩,j⟩
 simp only[K9]at q;simp[Exit.inBlock]
 split
 ·rename_i b;subst b;rw[pF]at q;grind
 rename_i b;rw[jP b]at q;grind
theorem NA{c}{x y}{b}(j:aO E c=some (.pv (.bool b)))(g:b=true->UL P G0 N x Q E H)(k:b=false->UL P G0 N y Q E H):UL P G0 N (.cond c x y) Q E H:=by intro G f a w d;obtain ⟨I,ι,hr,hst,h⟩:=d.rel;have i:=(aI h j).bool_inv;exact wpIn_cond_split i (fun e=>g e G f a w d) (fun e=>k e G f a w d)
end
section
variable{P:Program}{fn:Func}{H:aF}{N:Nat}{F:FuncId}{args:List AV}{K:aF->Prop}
def aE2(H:aF)(K:aF->Prop)(e:Exit)(E':cY)(H':aF):Prop:=(e=.normal\/e=.ret)/\∃H2,Fin H H' (.tup []) H2 (.tup [])/\K H2
theorem K7{id:Nat}{o:Oper}{ops:Array Oper}{e_:Code}{T:Array TypeId}{u:FrameMode}{x:PV}{vx:Value}(hf:P.funcs[F]?=some fn)(hb:fn.body=some (.seq (.region id ops false) e_))(hN:fn.ntmps=N)(hlen:args.length<=N)(hr0:fn.results=#[])
  (z:ops=#[o]) (hg:o.guard=none) (hd:o.dst=some d) (W:Nat.blt d N=true) (ho:o.op=.call {callee:=.builtin .recover,args:=#[],argTypes:=T})
  (hx:∀(w:World) (I:Nat->Prop),PRep w I vx x) (f_:(u=.returning/\vx=.nilIface)\/(∃t,u=.panicking (ms t)/\vx=.iface t (.agg #[])))
  (h:UL P H N e_ (aE2 H K) ((d,.pv x)::oA args) H):ZU P F args H u K:=by
 intro I r w k hr hl hv;refine callsDIn_of_wpSIn hf hb T_ ?_;intro b p c;refine wpSIn_seq (wpSIn_region ?_);subst z;have f:St ⟨I,r,H,w,[]⟩ N (oA args) H {tmps:=k++Array.replicate (fn.ntmps - k.size) undef,defers:=[]} w:=by
  refine⟨tR.nil _ _ _,?_,I,r,hr,Step.refl _ _ _ _,fun t a ht=>?_⟩
  ·grind
  have c_:=wS ht;have L:t<k.size:=G_
  have f_:k[t]?=some k[t]:=Array.getElem?_eq_getElem L;exact⟨k[t],G_,hv t _ a f_ c_⟩
 obtain ⟨a,c_⟩:∃a:Act,a={tmps:=k++Array.replicate (fn.ntmps - k.size) undef,defers:=[]}:=X_;rw[<-c_]at f |-;have q:a.defers=[]:=by rw[c_]
 have D:St ⟨I,r,H,w,[]⟩ N ((d,.pv x)::oA args) H (a.put (some d) vx) w:=by
  obtain ⟨I1,v_,G,u_,k3⟩:=f.rel;refine⟨by rw[mB];exact f.defers,?_,I1,v_,G,u_,?_⟩
  ·have:=f.size
   simpa[Act.put]using this
  exact lH.put (d:=some d) G (Step.refl _ _ _ _) k3 (.pv (hx _ _)) (by rw[f.size];exact W)
 have l:∀s,settle s=.returning->e_.wpSIn Fence.wide 0 P (bodyPostS P fn b p fun e s m=>∃v n d_ i,e=.returned v/\settle s=.returning/\K n/\Rel d_ i n m/\Step I r H w d_ i n m) (a.put (some d) vx) ({b with mode:=s}::p) w:=by
  intro s B;refine wpSIn_of_wpIn Z (wpIn_mono (h ⟨I,r,H,w,[]⟩ Z _ w D) ?_);rintro e a' m ⟨⟨E',n,⟨he,H2,y,hK⟩,z_⟩,hdf⟩;obtain ⟨I3,y_,G,u_,k3⟩:=z_.rel;obtain ⟨I4,R,q1,q2,q3⟩:=y ⟨I,r,H,w,[]⟩ Z I3 y_ m (.tuple #[]) G u_ (.tup Z H_);have Q:a'.defers=[]:=hdf.trans ((mB _ _ _).trans q);have A:a'.defers=[]/\∃E,({b with mode:=s}::p:List Frame)={b with mode:=E}::p/\∃v,(results fn a'.tmps).run P m=.ok v m/\∃v0 n d_ i,Ending.returned v=.returned v0/\settle E=.returning/\K n/\Rel d_ i n m/\Step I r H w d_ i n m :=
   ⟨Q,s,Z,.tuple #[],by simp[results,hr0],.tuple #[],H2,I4,R,Z,B,hK,q1,q2⟩
  rcases he with rfl|rfl
  ·exact A
  exact A
 have A_:(execOp a.eval o).run P w=.ok .recover w:=by
  simp[execOp,ho,resolve,invoke];rfl
 have hw:Region.wanted o (yielded #[o] a.tmps)=true:=by simp[Region.wanted,hg]
 show wpOpsSIn _ _ _ _ _ [0] _ _ _;unfold wpOpsSIn;simp only[List.getElem?_toArray,List.getElem?_cons_zero,hw,if_true,A_];refine⟨fun _ _=>trivial,?_⟩;rcases f_ with⟨rfl,rfl⟩|⟨t,rfl,rfl⟩
 ·have g:recoverD (b::p)=none:=by simp[recoverD,c]
  rw[g];have hc:({b with mode:=.returning}:Frame)=b:=by rw[<-c]
  have:=l .returning Z;rw[hc]at this;rw[hd];exact this
 have g:recoverD (b::p)=some (.iface t (.agg #[]),{b with mode:=.panicking ({v:=.iface t (.agg #[]),recovered:=true}::[])}::p):=by simp[recoverD,c]
 rw[g];rw[hd];exact l (.panicking ({v:=.iface t (.agg #[]),recovered:=true}::[])) Z
end
section
variable{P:Program}{N:Nat}{o:Oper}{H:aF}{t t' T:TypeId}{x y:Operand}
theorem lz(e:o.op=.binOp .eql t x (.const .nilIface) t')(d:P.underlying t=some (.interface (P.methodsAt t)))(f:aO E x=some (.pv MJ)):cL P N o E H (.pv (.bool true)) H :=.of_run fun a w I ι _ b=>⟨.bool _,by
  have c:=(aI b f).sat_inv;have g:a.eval (.const _)=.nilIface:=rfl;simp[execOp,e,c,g,eqGuard,Sem.run_bind,Sem.run_pure,Result.andThen_ok,run_eql_nil_nil _ _ d,Bool.or_true,Bool.true_or,if_true,Bool.not_true,Bool.false_eq_true,if_false],.pv (.bool _)⟩
theorem ma{ps:List PV}{h:TypeId}(e:o.op=.binOp .eql t x (.const .nilIface) t')(d:P.underlying t=some (.interface (P.methodsAt t)))(f:aO E x=some (.pv (.ifa h ps))):cL P N o E H (.pv (.bool false)) H :=.of_run fun a w I ι _ b=>⟨.bool false,by
  obtain ⟨cs,c,_⟩:=(aI b f).ifa_inv;have g:a.eval (.const .nilIface)=.nilIface:=rfl;simp only[execOp,e,c,g,eqGuard,Sem.run_bind,Sem.run_pure,Result.andThen_ok,binOp,run_equal_held_nil _ _ _ _ d];rfl,.pv (.bool _)⟩
abbrev aBr:PV:=.sat fun v=>∃b,v=.pointer (some ⟨b,0,none⟩)
theorem mc(f:o.op=.alloc T)(c:∀w,(zeroValue T).run P w=.ok (.agg #[]) w):cL P N o E H (.pv aBr) H:=by intro a w I ι _ _ g he K Q e;unfold Oper.wpW execOp;simp[f,Instr.alloc,c,newVar,newRow,Sem.run_bind,run_newObj,Sem.run_pure,Result.andThen_ok];obtain ⟨d,b⟩:=Rel.newImm (w':={w with heap:=w.heap.push _}) g Z Z Z Z;exact e _ _ _ _ _ _ ⟨Z,Z⟩ (.pv (.sat Z ⟨_,Z⟩)) d b
theorem lu(k:o.op=.store T x y)(l:aO E x=some (.pv aBr))(n:aO E y=some (.agg []))(j:∀w,(sizeOf T).run P w=.ok 0 w):cL P N o E H (.tup []) H:=by
 intro a w I ι _ _ p g K Q m;obtain ⟨b,i⟩:=(aI g l).sat_inv;have h:=aI g n;generalize f:a.eval y=v2 at h;cases h with
 | @agg vs _ hl h1 hh =>
  have:=Array.eq_empty_of_size_eq_zero X;subst this;have d:(execOp a.eval o).run P w=.ok .skip w:=by
   simp[execOp,k,i,f];simp[Instr.storeAt,Instr.sureAddr,storeVar,j,Value.cells,storeCells]
  unfold Oper.wpW;rw[d];exact m _ w I _ _ _ ⟨Z,Z⟩ (.tup Z H_) p (Step.refl _ _ _ _)
end
theorem cJ.toAny{G0 H H':aF}{E':cY}(f_:∀t v,E'.get t=some v->E.get t=some v/\Clo H' v)(u:∀id o',H'.get id=some o'->∃o,H.get id=some o/\mP o o'/\∀r∈o'.rows,∀a∈r,a=.any)(hG:∀id,(G0.get id).isSome=true->(H'.get id).isSome=true):cJ G0 E H E' H':=by
 intro G c_ N a w K;obtain ⟨I,v_,B,s,he⟩:=K.rel;have g:∀ {o o':Ob},mP o o'->o'.rows.length=o.rows.length:=fun h=>by
  have:=congrArg List.length h.2.2.2
  simpa using this
 have o_:vv H H':=fun j o' d=>by
  obtain ⟨o,m,f,_⟩:=u j o' d;exact⟨o,m,f.1.symm,f.2.1.symm,f.2.2.1.symm,(g f).symm⟩
 refine⟨K.defers,K.size,I,v_,⟨B.imm,fun id o' d=>?_,fun id z o o' b c c' A d=>?_,B.glob⟩,?_,fun t v T=>?_⟩
 ·obtain ⟨o,m,f,Q⟩:=u id o' d;refine(B.obj id o m).keepG f.2.1 f.2.2.1 (g f) (fun y P R hy=>?_) Z (fun _ _ _ _=>⟨Z,fun h=>h⟩) (fun i R F=>?_)
  ·have:=Q [.raw y P] F_ (.raw y P) H_;cases this
  have x:i<o.rows.length:=by rw[<-g f];exact(m_.1 F).1
  refine⟨o.rows[i],m8 x,?_,fun k a a' _ d_ v _=>?_⟩
  ·have e:=congrArg (fun l:List Nat=>l[i]?) f.2.2.2;simp only[r6,F,m8 x,Option.map_some,Option.some.injEq]at e;exact e.symm
  rw[Q R (m7 F) a' (m7 d_)];exact .any v
 ·obtain ⟨q,m,_⟩:=u id o A;obtain ⟨y_,D,_⟩:=u z o' d;exact B.inj id z q y_ b c c' m D
 ·refine {s with own:=fun b ⟨id,o',L,d,e_⟩=>?_,objs:=fun id o A=>?_}
  ·obtain ⟨o,m,_⟩:=u id o' d;exact s.own b ⟨id,o,L,m,e_⟩
  obtain ⟨o1,W,k2,A_⟩:=s.objs id o A;obtain ⟨o',d⟩:=Option.isSome_iff_exists.1 (hG id (by rw[<-c_,A];rfl));obtain ⟨o2,m,f,_⟩:=u id o' d;rw[W]at m;cases m;refine⟨o',d,by rw[f.1];exact k2,fun e=>?_⟩;obtain ⟨q1,z_,q3⟩:=A_ (by rw[<-f.1];exact e);exact⟨q1,by rw[f.2.1];exact z_,fun hz=>by rw[g f];exact q3 hz⟩
 obtain ⟨m,f⟩:=f_ t v T;obtain ⟨c,e_,u_⟩:=he t v m;exact⟨c,e_,u_.alike o_ f⟩
theorem aDd{P}{c}{H}{x y}{r s:AV}(g:c.results=#[x,y])(f:OH P E H x r)(e:OH P E H y s):
  ∀(a:Act) (w) (I) (ι),Rel I ι H w->lH w I ι H E a->∃v,(results c a.tmps).run P w=.ok v w/\VRel w I ι H v (.tup [r,s]):=fun a w I ι d b=>by
 obtain ⟨v,h1,h2⟩:=f a w I ι d b;obtain ⟨u,h3,h4⟩:=e a w I ι d b;refine⟨.tuple #[v,u],by rw[uM,g];simp_all,.tup Z ?_⟩
 grind
end
end Go.Abs
namespace Go.Proofs.YtopnleflllkbmaaGreatDoor
open Go.Proofs.Tryz
open Go.Abs
abbrev ib(l:List UInt8):Ob:=bx 1 127 [sv (b7 l)]
abbrev nC(l:List UInt8):aF:=[(980,ib l)]
abbrev QX:AV:=.ref 980 0 0 0
abbrev H7:Z1:=ms 124
theorem X8(l)(H):∀r∈(ib l).rows,∀a∈r,Clo H a:=H_
instance(l)(H):W_ (H) ((ib l).rows):=⟨X8 l H⟩
theorem CG(l):dD (nC l):=dD.ofL ⟨X8 l _,T_⟩
def DY(f:FuncId)(xs:List AV)(K:aF)(l:List UInt8)(o:Option (AV×List UInt8)):Prop :=∀H1:aF,H1.get 980=some (ib l)->Sub K H1->fM Tryz.prog f xs H1 (fun r H'=>∃p,o=some p/\r=p.1/\H'=nC p.2++H1) (fun ch H'=>o=none/\ch=H7/\∃q,H'=nC q++H1)
theorem DY.of{f:FuncId}{xs:List AV}{K:aF}{l:List UInt8}{o}(y:dD (nC l++K))(hK9:K.get 980=none)(B:∀a∈xs,Clo (nC l++K) a)
  (h:fM Tryz.prog f xs (nC l++K) (fun r H'=>∃p,o=some p/\r=p.1/\H'=nC p.2++K) (fun i H'=>o=none/\i=H7/\∃q,H'=nC q++K)):DY f xs K l o:=by
 intro t s w;have g:Sub (nC l++K) t:=fun id n d=>by
  rw[gC]at d;by_cases e:980=id
  ·subst e;have:(nC l).get 980=some (ib l):=rfl;rw[this]at d;cases d;exact s
  have:(nC l).get id=none:=by simp[aF.get,jP e]
  rw[this]at d;exact w id n d
 have u:∀q id,(aF.get (nC q++K) id).isSome=true->((nC l++K).get id).isSome=true:=fun q id c=>by
  rw[gC]at c |-;by_cases e:980=id
  ·subst e;rfl
  have s:∀q,(nC q).get id=none:=fun q=>by simp[aF.get,jP e]
  rw[s]at c |-;exact c
 have v:∀(q:List UInt8) (j:Nat),aF.get (nC q++t) j=aF.get ((nC q++K)++t) j:=fun q j=>by
  rw[List.append_assoc,gC,gC (nC q)];cases (nC q).get j with
  |some _=>rfl
  |none =>
   simp only;rw[gC];cases e:K.get j with
   |none=>rfl
   |some n=>exact w j n e
 refine(h.frame g y B (fun r H' ⟨p,_,_,x⟩ id c=>.inl (by subst x;exact u _ id c)) (fun i H' ⟨_,_,q,A⟩ id c=>.inl (by subst A;exact u _ id c))).conv ?_ ?_
 ·rintro r H' ⟨z,⟨p,m,k,rfl⟩,rfl⟩;exact⟨_,v _,p,m,k,Z⟩
 rintro i H' ⟨z,⟨m,k,q,rfl⟩,rfl⟩;exact⟨_,v _,m,k,q,Z⟩
theorem DY.yes{f}{xs}{K}{l q}{v}(h:DY f xs K l (some (v,q))){H1}(b:H1.get 980=some (ib l))(a:Sub K H1):aS Tryz.prog f xs H1 (fun r H'=>r=v/\H'=nC q++H1) :=((h _ b a).mono (fun r H' ⟨p,e1,e2,e3⟩=>by grind) (fun ch H' ⟨e,_⟩=>by cases e)).calls (fun _ _ h=>h)
theorem DY.no{f}{xs}{K}{l}(h:DY f xs K l none){H1}(d:H1.get 980=some (ib l))(b:Sub K H1):fM Tryz.prog f xs H1 (fun _ _=>False) (fun a H'=>a=H7/\∃q,H'=nC q++H1) :=(h _ d b).mono (fun r H' ⟨p,c,_⟩=>by cases c) (fun a H' ⟨_,e,g⟩=>⟨e,g⟩)
theorem DY.tot{f}{xs}{K}{l}{o}(h:DY f xs K l o){v}{q}{d}(hv:(o.getD (d,l))=(v,q)){H1}(c:H1.get 980=some (ib l))(b:Sub K H1):
  fM Tryz.prog f xs H1 (fun r H'=>r=v/\H'=nC q++H1/\o.isSome=true) (fun a H'=>o=none/\a=H7/\∃q,H'=nC q++H1) :=
 (h _ c b).mono (fun r H' ⟨p,e1,e2,e3⟩=>by simp_all) (fun a H' h=>h)
theorem fX(H):Sub [] H:=fun _ _ h=>by cases h
def KB(l:List UInt8):Option (AV×List UInt8):=(oS l).map fun p=>(sv p.1,p.2)
def EL(l:List UInt8):Option (AV×List UInt8):=(xC l).map fun p=>(iv p.1,p.2)
theorem AC(l:List UInt8)(hl:l.length<1000000000):DY 98 [QX] [] l (KB l):=by
 refine DY.of (CG l) Z (by simp;rfl) ?_;have hls:(b7 l).size=l.length:=cB l;have n:=La l;have b:=fun H=>Kv (b7 l) H X;rw[vf]at b;have i:=fun H=>ZJ (b7 (M4 l)) (by rw[cB];omega) H;have m:(b7 (IZ l)).size=(IZ l).length:=cB _;have d:KA l=(((!decide ((58:UInt8)∈l)||vK (b7 (M4 l)))||decide (kN (b7 (M4 l))<0))||decide (((IZ l).length:Int)<kN (b7 (M4 l)))):=rfl;have q:nxN l=(kN (b7 (M4 l))).toNat:=rfl;have D:KB l=if KA l=true then none else some (sv (b7 ((IZ l).take (nxN l))),(IZ l).drop (nxN l)):=by rw[KB,oS];all_goals grind
 rw[D];obtain ⟨x,A⟩:∃x,x=b7 (M4 l):=X_;obtain ⟨v,z⟩:∃v,v=kN (b7 (M4 l)):=X_;obtain ⟨e,E⟩:∃e,e=vK (b7 (M4 l)):=X_;obtain ⟨o,d_⟩:∃o,o=decide ((58:UInt8)∈l):=X_;obtain ⟨r,B⟩:∃r,r=IZ l:=X_;simp only[<-z,<-E,<-d_,<-B]at b i d q m n |-;simp only[<-A]at b i d;clear A z E d_ B D;refine fM.body func98 Z ntmps98 (r9 Z)<|Sz U<|C V<|Y sC<|Y (bD uu)<|Y (bS N_)<|Y (kc aEW (b _))<|Y V<|Y dH<|Y dH<|Y dH<|Y U<|Y U<|O U<|C V<|Y (kc vN (i _))<|Y V<|Y dH<|Y dH<|Y U<|O U<|S<|S<|aR (t:=37) (n:=19) (A_:=KA l) ?_ ?_
 ·all_goals refine Y V<|Y iT<|Dm ?_<;>(refine Sp 24 (fun s=>?_) fun s=>?_)<;>(try(with_reducible contradiction))<;>(first|refine M<|M ?_|refine J V<|J (RR Z nT Z) ?_)<;>refine Y cE<|Dm ?_<;>(refine Sp 28 (fun y=>?_) fun y=>?_)<;>(try(with_reducible contradiction))<;>(first|refine M<|M ?_|refine J V<|J cM ?_)<;>refine Y cE<|Dm ?_<;>(refine Sp 32 (fun t=>?_) fun t=>?_)<;>(try(with_reducible contradiction))<;>(first|refine M<|M<|M<|M ?_|refine J V<|J V<|J (gM U_)<|J iY ?_)<;>refine O cE ?_<;>(exact⟨⟨_,Z,G_⟩,Z,Z,Z⟩)
 refine Cn ?_ ?_<;>intro j
 ·have k:KA l=true:=j;rw[b6 k];refine gL<|iO Z Z Z (MC (fs:=#[]) (places:=#[]) (v0:=.agg []) (l0:=[]) (aps:=[]) (l:=[]) Z yO As (.inl Z) Z (fun w=>by simp) Z Z) ?_;refine iO Z Z Z (J3 (ps:=[]) Z (dS yO Z) Z) ?_;exact qK Z Z (VR Z Z) (fun ch H' h=>by obtain ⟨rfl,rfl⟩:=h;exact FD (H':=nC l) P_ ⟨Z,Z,l,Z⟩)
 have k:KA l=false:=j;rw[a8 (by rw[k];decide)];have p:=d.symm.trans k;simp only[q9,p_]at p;obtain ⟨u,rfl⟩:∃u:Nat,v=(u:Int):=⟨v.toNat,X⟩;rw[l8]at q;rw[q];have hur:u<=r.length:=X
 have F:(b7 r).extract 0 u=b7 (r.take u):=oK (by rw[gS,cO,cO,List.drop_zero,Nat.sub_zero]);have G:(b7 r).extract u (b7 r).size=b7 (r.drop u):=oK (by rw[rW,cO,cO]);refine aA<|C V<|Y V<|Y V<|Y (bT (l:=u) (h:=(b7 r).size) Z U_ Z Z Z X (j6 _) G)<|Y sC<|Y (bD uu)<|Uu (iU V_)<|Zz<|C V<|Y V<|Y (bT (l:=0) (h:=u) Z U_ Z Z Z (l6 _) X F)<|O U<|aC ?_;refine NC ?_;refine cR (H':=(nC (r.drop u))) (.inr Z) Z (aJ Z) P_ ?_
 simp_all
theorem Ut{l}(h:58∈l):(IZ l).length<l.length:=by rw[IZ,q6];have:=(List.dropWhile_sublist (l:=l) fun b=>!decide (b=58)).length_le;have:=List.length_pos_of_mem h;omega
theorem lC{l q}{s}(h:oS l=some (s,q)):s.size+q.length<l.length:=by
 rw[oS]at h
 split at h
 ·cases h
 next a =>
 simp[KA,q9,Bool.not_eq_false',p_,k_]at a;have hlt:=Ut a.1.1.1;cases h;rw[cB,q8,q6];omega
theorem kC{l q}{x}(h:xC l=some (x,q)):q.length<l.length/\(-9223372036854775808<=x/\x<=9223372036854775807):=by
 rw[xC]at h;cases a:oS l with
 |none=>simp_all
 |some p =>
  obtain ⟨s,r⟩:=p;rw[a]at h;simp only at h
  split at h
  ·cases h
  cases h;have:=lC a;exact⟨X,XE s⟩
theorem oD(l:List UInt8)(u:l.length<1000000000):DY 99 [QX] [] l (EL l):=by
 refine DY.of (CG l) Z (by simp;rfl) ?_;have c:=AC l u;have b:=fun s q=>lC (l:=l) (s:=s) (q:=q);have g:KB l=(oS l).map fun p=>(sv p.1,p.2):=rfl;have n:EL l=(match oS l with
  |none=>none
  |some (s,r)=>if vK s=true then none else some (iv (kN s),r)):=by
  rw[EL,xC]
  grind
 rw[n];rw[g]at c;obtain ⟨o_,m⟩:∃o_,o_=oS l:=X_;rw[<-m]at c b |-;clear m g n;refine fM.body func99 Z ntmps99 (r9 Z)<|Sz U<|S ?_;rcases o_ with _|⟨s,q⟩
 ·have c:DY 98 [QX] [] l none:=c;refine gL<|iO Z Z Z (gP Z Z) ?_;exact qK Z Z (eI Z Z nF Z (c.no Z (fX _))) (fun t o h=>by obtain ⟨rfl,q,rfl⟩:=h;exact FD (H':=nC q) P_ ⟨Z,Z,q,Z⟩)
 have c:DY 98 [QX] [] l (some (sv s,q)):=c;have b:=b s q Z;have f:=fun H=>ZJ s X H;obtain ⟨e,k⟩:∃e,e=vK s:=X_;obtain ⟨v,j⟩:∃v,v=kN s:=X_;simp only[<-k,<-j]at f |-;clear k j;refine Rd V<|Y (kc nF (c.yes Z (fX _)))<|Y (kc vN (f _))<|Y V<|Y dH<|Y dH<|Y U<|O U<|S<|C V<|O (RR Z nT Z)<|Cn ?_ ?_<;>intro d
 ·have i:e=true:=d;rw[b6 i];refine gL<|iO Z Z Z (MC (fs:=#[]) (places:=#[]) (v0:=.agg []) (l0:=[]) (aps:=[]) (l:=[]) Z yO As (.inl Z) Z (fun w=>by simp) Z Z) ?_;refine iO Z Z Z (J3 (ps:=[]) Z (dS yO Z) Z) ?_;exact qK Z Z (VR Z Z) (fun t o h=>by obtain ⟨rfl,rfl⟩:=h;exact FD (H':=nC q) P_ ⟨Z,Z,q,Z⟩)
 have i:e=false:=d;rw[a8 F_];refine aA<|C V<|O U<|aC ?_;refine NC ?_;refine cR (H':=(nC q)) (.inr Z) Z (aJ Z) P_ ?_
 simp_all
end Go.Proofs.YtopnleflllkbmaaGreatDoor
