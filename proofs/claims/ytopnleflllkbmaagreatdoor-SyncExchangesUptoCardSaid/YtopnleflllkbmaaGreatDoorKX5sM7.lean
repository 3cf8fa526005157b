/-
  Parts of the proof. Conditions: each theorem's own.
-/
import Derived.Test.YtopnleflllkbmaaGreatDoorKX5sM6
set_option linter.unusedVariables false
set_option linter.unusedSimpArgs false
set_option maxRecDepth 100000
set_option maxHeartbeats 8000000
open List Nat
open List renaming length->C
open Option renaming some->N,none->ζ
open Bool renaming true->A,false->η
open ByteArray renaming size->T,data->μ
open Array renaming toList->ν
open Decidable renaming decide->θ
open Go.IntKind renaming i64->ξ
open Go.Proofs.Tryz renaming prog->φ
open List renaming mem_cons_self->Â,mem_cons_of_mem->Ã,mem_append_right->Ä,mem_append_left->Å,flatten_cons->Æ,map_append->Ç,mem_filter->È,take_length->É,drop_zero->Ê,append_nil->Ë,drop_left'->Ì,drop_eq_getElem_cons->Í,findIdx_cons->Î,length_nil->Ï,map_cons->Ð,take_append_drop->Ñ,cons_append->Ò,foldl_cons->Ó,drop_drop->Ô,dropWhile_sublist->Õ,length_filter_le->Ö,mem_of_mem_drop->Ø,mem_append->Ù,take_left'->Ú,map_map->Û,take_succ_cons->Ü,take_left->Ý,append_assoc->Þ,pairwise_map->à,drop_length->á,flatten_nil->â
open _root_.Nat renaming zero_lt_succ->ß
open Go.Proofs.YtopnleflllkbmaaGreatDoor
namespace Go.Proofs
open Tryz
theorem kM:type_of% isAgg68:=isAgg68
theorem iR:type_of% isAgg70:=isAgg70
end Go.Proofs
namespace Go.Proofs.C
open Go.Proofs.Tryz
open Go.Abs Go.Lib
variable{α:Type}{k n m:Nat}{b a ids L A_ y_:List B_}{s x c t i d q:B_}{l:List UInt8}
theorem S8(l:List b8)(H:aF)(E:C l<2^40)(z:∀e∈l,WY e)(B:∀e∈l,C e.refs<2^40):RC 110 [.pv (kU l)] (.tup [sv (eH l).1,iv (eH l).2]) H:=by
 refine Pu ?_;have G:C (l.map bL)=C l:=g_ _;refine Bd func110 Z ntmps110<|U aH<|V aH<|S<|U aA<|Y (kc call165 (Ej l _ E z B))<|V iJ<|Cn ?_ ?_<;>intro p
 .have t:lV l=η:=by have h:=p;rwa [r9]at h
  rw[show eH l=(a6,1)by rw[eH,t];rfl];exact U aH<|V aH<|aC<|Ru<|Qq
 have t:lV l=A:=by have h:=p;rwa [Bool.not_eq_false']at h
 have D:=(PF t).2.2;have y:eH l=(a_ (sN [] l).1,(sN [] l).2):=by rw[eH,t];rfl
 refine aB<|Sz aH<|S<|Sz aH<|aD<|bA (σ:=Nat) (λk=>([(0,.pv (kU l)),(4,sv (a_ (qR l k))),(5,iv (k:Int))],[])) (λk=>k<=C l/\sN [] l=sN (qR l k) (l.drop k)/\C (qR l k)<=20000) (λk=>C l - k) 0 ⟨k_ _,Z,k_ _⟩ ?_ ?_
 .exact Wk
 rintro k ⟨hk,i,hA⟩;refine S<|U aA<|Y aA<|Y (fP fE)<|V cH<|Cn ?_ ?_<;>intro o
 .have m:k<C l:=I_ o
  have ⟨e,n⟩:=aQ m;have hi:=cA (f:=bL) n;have j:=m7 n;have c:=ZY n;have F:=YU (D e j);have u:l.drop k=e::l.drop (k+1):=by
   rw[Í m]
   simp_all
  rw[u,sN]at i;have I:T (a_ (qR l k))=C (qR l k):=cB _;have K:T (a_ (fX e++[10]))=C (fX e)+1:=by rw[cB,j7];rfl
  have x:a_ (qR l k)++a_ (fX e++[10])=a_ (qR l (k+1)):=vg (by
   rw[show (a_ (qR l k)++a_ (fX e++[10])).data.toList=(a_ (qR l k)).data.toList++(a_ (fX e++[10])).data.toList by simp,cG,cG,cG,c])
  have J:T (a_ (qR l (k+1)))=C (qR l (k+1)):=cB _;refine aB<|S<|aD<|U aA<|Y aA<|Y (jA ia)<|Y (by exact fG Z cW bD Z X (by simp only[Zl,bZ,bS,S_,bL,gX];rfl) Z)<|Y (kc call166 (Xg e _ (z e j) (D e j)))<|Y aA<|Y dK<|Y dK<|Y aH<|V aH<|U aA<|Y aA<|Y (fL Z Z Z X x)<|V aH<|S ?_;refine aT (t:=34) (n:=8) (A_:=!θ (gC e=0)||θ ((20000:Int)<(T (a_ (qR l (k+1))):Int))) ?_ ?_
  .all_goals refine Y aA<|Y iJ<|Dm ?_<;>(refine Sp 30 (λw=>?_) λw=>?_)<;>(first|exact s_|refine M<|M<|M ?_|refine O aA<|O (gQ U_)<|O jB ?_)<;>refine V cE ?_<;>exact Gj (h:=by simp_all)
  refine Cn ?_ ?_<;>intro s
  .have q:gC e≠0\/20000<C (qR l k++(fX e++[10])):=by have h:=s;rw[<-c];simp only[Bool.or_eq_true,r9,q7,l6]at h;omega
   rw[b6 q]at i;rw[y,i];exact U aH<|V aH<|aC<|Ru<|Qq
  have f:¬ (gC e≠0\/20000<C (qR l k++(fX e++[10]))):=by have h:=s;rw[<-c];simp only[q_,Bool.not_eq_false',q7,l6]at h;omega
  rw[a8 f,<-c]at i;rw[<-c]at f;refine aB<|Rd aA<|Y iF<|Da ?_;exact⟨k+1,⟨m,i,X⟩,X,Wk⟩
 have v:k=C l:=J_ o
 subst v;rw[á,sN]at i;rw[y,i];exact aP<|U aA<|Y aH<|V aH<|aC<|Ru<|Qq
theorem CG(n:Nat):aV n=a_ (decDigits n):=mC (Z)
theorem CO(x)(a:0<=x)(B:x<9223372036854775808)(H):RC 84 [iv x] (sv (aV x)) H:=by obtain ⟨n,rfl⟩:=Int.eq_ofNat_of_zero_le a;exact S6 n X H
def dy(r:j_):List B_:=[HT,aV r.kind,aV r.author,aV r.number,aV r.clock,r.branch,aV (C r.parents:Int)]
def aFT(r:j_)(J3:B_):List B_:=[J3,r.target,aV (if r.yes then 1 else 0),aV r.order,r.from']
def Qy(r:j_)(J3 y:B_):List B_:=[J3,r.target,y,aV r.order,r.from']
theorem Er(r):wA r=(dy r++r.parents)++aFT r (kO r.edits).1:=rfl
theorem Oj{r}(h:VF r):0<=r.order/\r.order<=4:=by
 rw[h.od,Iq]
 split
 .next a =>
  have:=h.k;rw[N7,b6 a,nB,l7,l6,l6]at this;omega
 omega
theorem C5(f:α->List PV)(l:List _){n}(h:C l=n):((l.map f).take (0+n)).drop 0=l.map f:=by rw[<-h];exact fV f l
theorem dV(l:List _):∀r∈l.map S_,C r=1:=by intro r a;obtain ⟨s,_,rfl⟩:=mem_map.1 a;rfl
theorem ZA(r:j_)(B:mY r)(j:VF r)(D:∀e∈r.edits,C e.refs<2^40):aU φ 70 [av (eC r)] [] (λx H'=>x=.osl 971 2 0 (C (wA r))/\H'=[(971,⟨2,1,9,bP (wA r)⟩)]):=by
 have L:=CE j.k;have E:=j.au;have I:=j.nu;have F:=j.cl;have J:=Oj j;have K:=j.pal;have n:C (r.parents.map S_)=C r.parents:=g_ _;have G:C (r.edits.map bL)=C r.edits:=g_ _;have p:=λH=>CO r.kind X X H;have w:=λH=>CO r.author X X H;have q:=λH=>CO r.number X X H;have o:=λH=>CO r.clock X X H;have v:∀H,RC 84 [iv (C (r.parents.map S_):Int)] (sv (aV (C r.parents:Int))) H:=λH=>by
  rw[n];exact CO (C r.parents:Int) X X H
 have z:=λH=>CO r.order X X H;have t:=λH=>S8 r.edits H B.2.2.2.1.1 B.2.2.2.1.2 D;have s:bP (dy r)++(r.parents.map S_).map (·.map AV.pv)=bP (dy r++r.parents):=eO _ _;rw[Er];have ⟨J3,i⟩:∃J3,J3=(kO r.edits).1:=X_;rw[<-i];rw[kO]at i;refine Bd func70 Z ntmps70 ?_;have u:C (bP (dy r++r.parents))=7+C r.parents:=by rw[bP,g_,j7];rfl
 refine U (kb 1)<|V aH<|S<|aN a7<|Cr [1] (λ_ h=>fh pD h)<|Cr [1] (λ_ h=>lh M_ h)<|x_ (by exact bH Z Z gZ Z (p _))<|Cr [1] (λ_ h=>fh F6 h)<|Cr [1] (λ_ h=>lh M_ h)<|x_ (by exact bH Z Z gZ Z (w _))<|Cr [1] (λ_ h=>fh BE h)<|Cr [1] (λ_ h=>lh M_ h)<|x_ (by exact bH Z Z gZ Z (q _))<|Cr [1] (λ_ h=>fh F5 h)<|Cr [1] (λ_ h=>lh M_ h)<|x_ (by exact bH Z Z gZ Z (o _))<|Cr [1] (λ_ h=>fh D0 h)<|Cr [1] (λ_ h=>lh N_ h)<|Cr [1] (λ_ h=>fh pC h)<|Cr [1] (λ_ h=>lh aG h)<|x_ ((fP aE))<|x_ (by exact bH Z Z gZ Z (v _)) ?_;refine Cp [971] (λg d=>by exact eR (id:=971) Z aY Z Z Z Z F_ ((d _ Z).trans Z))<|Cr [971] (λ_ _=>aH)<|bF<|Kr<|U aA<|Y (bC pC)<|Y (bT aG)<|Y (by exact bU (k:=7+r.parents.length) (ps:=r.parents.map S_) Z aY sX Z Z Z Z Z Z Z (dV _) (m:=r.parents.length) n X Z s)<|V aH<|Sr<|Da ?_;refine eT (λ(_:Unit)=>([(1,.ref 1 0 0 0),(3,.osl 971 1 0 (7+r.parents.length)),(4,sv J3)],[(1,bx 21 53 ((eC r).map .pv)),(971,⟨1,1,9,bP (dy r++r.parents)⟩)])) (λ_=>True) ?_ ?_
 .refine U (bC DZ)<|Y (bT pO)<|Y (fP fE)<|V jB<|Cn ?_ ?_<;>intro l
  .have f:0<C r.edits:=I_ l
   rw[a8 X]at i;subst i;refine Rd (bC DZ)<|Y (bT pO)<|Y (kc call110 (t _))<|Y aA<|Y dK<|Y dK<|Da ?_;exact⟨(),T_,L_⟩
  have f:C r.edits=0:=J_ l
  rw[b6 f]at i;subst i;refine aB ?_;exact⟨(),T_,L_⟩
 rintro _ -;refine Sr<|Da<|eT (λ(y:B_)=>([(1,.ref 1 0 0 0),(3,.osl 971 1 0 (7+C r.parents)),(4,sv J3),(5,sv y)],[(1,bx 21 53 ((eC r).map .pv)),(971,⟨1,1,9,bP (dy r++r.parents)⟩)])) (λy=>y=aV (if r.yes then 1 else 0)) ?_ ?_
 .refine U (bC JR)<|V (bT nU)<|Cn ?_ ?_<;>intro k
  .have m:(⟨#[49]⟩:B_)=aV (if r.yes then 1 else 0):=by rw[k];kernel_rfl
   refine Rg<|Da ?_;exact⟨_,m,L_⟩
  have m:(⟨#[48]⟩:B_)=aV (if r.yes then 1 else 0):=by rw[k];kernel_rfl
  refine aB ?_;exact⟨_,m,L_⟩
 rintro y m;rw[show aFT r J3=Qy r J3 y by rw[m];rfl];refine S<|aN a7<|Cr [971] (λ_ _=>aA)<|x_ aA<|Cr [1] (λ_ h=>fh DY h)<|Cr [1] (λ_ h=>lh N_ h)<|x_ aA<|Cr [1] (λ_ h=>fh zH h)<|Cr [1] (λ_ h=>lh M_ h)<|x_ (by exact bH Z Z gZ Z (z _))<|Cr [1] (λ_ h=>fh yD h)<|Cr [1] (λ_ h=>lh N_ h)<|x_ (by exact aM ((Qy r J3 y).map S_) Z aY Z Z Z Z Z (dV _))<|Cp [971] (λg d=>by exact bU (ob:=⟨1,1,9,bP (dy r++r.parents)⟩) (k:=C ((dy r++r.parents)++Qy r J3 y)) (ps:=(Qy r J3 y).map S_) Z aY sX Z ((d _ Z).trans Z) Z Z Z u Z (dV _) (m:=5) Z X (by rw[j7,j7];rfl) (eO _ _))<|Cr [971] (λ_ _=>aH)<|bF<|Kr<|aC ?_;refine cR (H':=[(971,⟨2,1,9,bP ((dy r++r.parents)++Qy r J3 y)⟩)]) (.inr Z) Z (aI Z) P_ ?_;exact Qq
theorem Ra(r)(b:mY r)(c:VF r)(a:∀e∈r.edits,C e.refs<2^40)(H):RC 70 [av (eC r)] (.pv (aK (wA r))) H:=by refine aU.pure ((ZA r b c a).fin ?_) H_ H;rintro _ _ ⟨rfl,rfl⟩;exact⟨_,[],Fin.fz (id:=971) _ Z (cX _) (.osl (fV _ _)) Z T_ T_,Z,Z⟩
theorem JW{v:Nat}(h:10 ^ k<=v):k<C (decDigits v):=by
 induction k generalizing v with
 |zero=>exact length_pos_iff.2 (oI v)
 |succ k D =>
  rw[Nat.pow_succ]at h;have E:0<10 ^ k:=Nat.pow_pos E_;have B:¬ v<10:=X
  rw[decDigits,dif_neg B,j7];have:=D (v:=v / 10) X;simp only[j6,Ï];omega
def eS(s:B_):Int:=if uT s=η/\0<=jM s/\T s<=6/\aV (jM s)=s then jM s else -1
theorem HA{n:Int}(B:0<=n)(E:n<1000000):eS (aV n)=n:=by
 have ⟨a,b⟩:=VO B X;have D:T (aV n)<=6:=by
  obtain ⟨k,rfl⟩:∃k:Nat,n=(k:Int):=⟨n.toNat,X⟩;rw[CG,cB];exact cY (k:=6) X E_
 rw[eS,b6 (by rw[a,b];exact⟨Z,B,D,Z⟩),b]
theorem G9(s:B_): -1<=eS s/\eS s<1000000:=by
 rw[eS]
 split
 .next h =>
  have ⟨F,G,H,B⟩:=h;refine⟨X,?_⟩;have ⟨k,D⟩:∃k:Nat,jM s=(k:Int):=⟨(jM s).toNat,X⟩;rw[D]at B |-;rw[CG]at B;have J:=jW k;have E:C (decDigits k)<=6:=by have:=congrArg ByteArray.size B;rw[cB]at this;omega
  by_cases I:k<1000000
  .omega
  exact absurd E (by have:=JW (v:=k) (k:=6) X;omega)
 omega
def sA(l:List UInt8):Bool:=!θ ((58:UInt8)∈l)||θ (eS (a_ (CW l))<0)||θ ((C (EO l):Int)<eS (a_ (CW l)))
def ab(l:List UInt8):Nat:=(eS (a_ (CW l))).toNat
def rM(l:List UInt8):Option (List B_) :=if h:l=[]then N []else if sA l=A then ζ else(rM ((EO l).drop (ab l))).map (a_ ((EO l).take (ab l))::·)
termination_by (C l)
decreasing_by
 have h1:=length_pos_iff.2 h;have h2:=(Õ (l:=l) λb=>!θ (b=58)).length_le;rw[q6,EO,q6];omega
theorem pT:∀(L:List B_),(∀s∈L,T s<1000000)->rM (aO L)=N L
 | [],_=>by rw[show aO []=[]from Z,rM,dif_pos rfl]
 | x::L,h=>by
  have J:=h x Â;have ⟨E,B⟩:=nt (r:=ν (μ x)++aO L) (U7 (T x));rw[<-hU]at E B;have F:eS (a_ (CW (aO (x::L))))=(T x:Int):=by rw[E,<-CG,HA X X]
  have D:(58:UInt8)∈aO (x::L):=by rw[hU];simp
  have H:sA (aO (x::L))=η:=by
   rw[sA,F,B,À D,Á X,Á (by rw[j7,aS];omega)];rfl
  have G:ab (aO (x::L))=T x:=by rw[ab,F,l_]
  rw[rM,dif_neg (λe=>by rw[e]at D;cases D),a8 (by rw[H];decide),G,B,Ì (aS x),Ú (aS x),pT L λs I=>h s (Ã _ I),gA];rfl
def mO(p x:B_):Bool:=p.data.toList.isPrefixOf (ν (μ x))
def eF(ids:List B_)(p:B_):List B_:=ids.filter (mO p)
structure j0 where
 pre:B_
 cnt:Nat
 sum:B_
 ids:List B_
variable{p:j0}{P:List j0}
def dA(ids:List B_)(p:B_):j0:=⟨p,C (eF ids p),wL (eF ids p),if C (eF ids p)<=16 then eF ids p else[]⟩
def fB(p:j0):List B_:=[p.pre,aV (p.cnt:Int),p.sum]++p.ids
def fC:B_:=⟨#[111,102,102,101,114]⟩
def pX:B_:=⟨#[119,97,110,116]⟩
def kP(L:List (List B_)):B_:=a_ (aO (fC::aV (C L:Int)::L.flatten))
def iS(L:List (List B_)):B_:=a_ (aO (pX::L.flatten))
def pH(s:B_):Bool:=θ (T s<=16)&&s.data.toList.all tE
def A9(p:B_):List B_->Bool
 | []=>A
 | [x]=>m6 x&&mO p x
 |x::y::r=>m6 x&&mO p x&&jZ x y&&A9 p (y::r)
def WE:Nat->List B_->Option (List j0)
 |_,[]=>N []
 | n + 1, a :: b :: c :: r =>
  if (pH a && θ (0 <= eS b) && m6 c) = A then
   if eS b<=16 then
    if eS b<=(C r:Int)/\A9 a (r.take (eS b).toNat)=A/\wL (r.take (eS b).toNat)=c then
     (WE n (r.drop (eS b).toNat)).map (⟨a,(eS b).toNat,c,r.take (eS b).toNat⟩::·)
    else ζ
   else(WE n r).map (⟨a,(eS b).toNat,c,[]⟩::·)
  else ζ
 |_,_=>ζ
def nK(t:B_):List j0:=match rM (ν (μ t)) with
 |some (o::n::r)=>if o=fC then(match WE (C r) r with|some P=>if(C P:Int)=eS n then P else[]|none=>[])else[]
 |_=>[]
def rC(t:B_):List B_:=match rM (ν (μ t)) with
 |some (o::i::r)=>if o=pX/\(i::r).all m6=A then i::r else[]
 |_=>[]
structure GoodP(p:j0):Prop where
 pre:pH p.pre=A
 cnt:p.cnt<1000000
 sum:m6 p.sum=A
 sml:p.cnt<=16->C p.ids=p.cnt/\A9 p.pre p.ids=A/\wL p.ids=p.sum
 big:16<p.cnt->p.ids=[]
theorem Nh(h:GoodP p)(n:Nat)(R:List B_):WE (n+1) (fB p++R)=(WE n R).map (p::·):=by
 have ⟨a,c,s,l⟩:=p;have ⟨D,E,F,G,H⟩:=h;have I:eS (aV (c:Int))=(c:Int):=HA X (by simp only at E;omega);simp only at D E F G H;show WE (n+1) (a::aV (c:Int)::s::(l++R))=_;rw[WE,b6 (by rw[D,I,F,À X];rfl),I,l_];by_cases J:c<=16
 .have ⟨e1,e2,e3⟩:=G J;have B:(l++R).take c=l:=Ú e1;have K:(l++R).drop c=R:=Ì e1;rw[b6 X,b6 ⟨by rw[j7];omega,by rw[B];exact e2,by rw[B];exact e3⟩,B,K]
 obtain rfl:=H X;rw[a8 X];rfl
theorem QW(n:Nat):WE n []=N []:=by cases n<;>rfl
theorem za:∀(P:List j0) (n:Nat),(∀p∈P,GoodP p)->C P<=n->WE n (P.map fB).flatten=N P
 | [],n,_,_=>QW n
 |p::P,0,_,h=>by simp at h
 |p::P,n+1,h,hn=>by
  rw[List.map_cons,List.flatten_cons,Nh (h p List.mem_cons_self),za P n (λq B=>h q (List.mem_cons_of_mem _ B)) (by simpa using hn)];rfl
theorem MB:∀ {p:B_} {l:List B_},A9 p l=A->∀x∈l,m6 x=A/\mO p x=A
 |_,[],_,x,hx=>by cases hx
 |p,[a],h,x,hx=>by
  rw[q9]at hx;subst hx
  simpa[A9]using h
 |p,a::b::r,h,x,hx=>by
  simp only[A9,l7]at h;rcases l9.1 hx with rfl|hx
  .exact h.1.1
  exact MB h.2 x hx
theorem U1(h:GoodP p):∀s∈fB p,T s<1000000:=by
 intro s B;rw[fB,Ù]at B;rcases B with B|B
 .simp only[l9,q8,or_false]at B;rcases B with rfl|rfl|rfl
  .have:=h.pre;rw[pH,l7,l6]at this;omega
  .have:=oF (n:=(p.cnt:Int)) X (by have:=h.cnt;omega);omega
  have:=fR h.sum;omega
 by_cases D:p.cnt<=16
 .have:=fR ((MB (h.sml D).2.1 s B).1);omega
 rw[h.big X]at B;cases B
theorem G6(P:List j0)(h:∀p∈P,GoodP p)(F:C P<1000000):nK (kP (P.map fB))=P:=by
 have B:∀s∈fC::aV (C (P.map fB):Int)::(P.map fB).flatten,T s<1000000:=by
  intro s B;rcases l9.1 B with rfl|B
  .decide
  rcases l9.1 B with rfl|B
  .have:=oF (n:=(C (P.map fB):Int)) X (by rw[g_];omega);omega
  have ⟨q,H,E⟩:=mem_flatten.1 B;obtain ⟨p,G,rfl⟩:=mem_map.1 H;exact U1 (h p G) s E
 have D:C P<=C ((P.map fB).flatten):=by
  clear B h F
  induction P with
  |nil=>exact h_ _
  |cons p P I=>rw[Ð,Æ,j7,j6,fB,j7];simp only[j6,Ï];omega
 rw[nK,kP,cG,pT _ B];show (if fC=fC then(match WE _ _ with|some Q=>if(C Q:Int)=eS _ then Q else[]|none=>[])else[])=_;rw[b6 Z,za P _ h D];show (if(C P:Int)=eS (aV (C (P.map fB):Int))then P else[])=P;rw[HA X (by rw[g_];omega),g_,b6 rfl]
theorem uV(L:List B_)(h:∀s∈L,m6 s=A)(B:L≠[]):rC (iS (L.map λs=>[s]))=L:=by
 have e:(L.map λs=>[s]).flatten=L:=by clear h B;induction L with|nil=>rfl|cons a L E=>rw[Ð,Æ,E];rfl
 obtain ⟨a,L,rfl⟩:=exists_cons_of_ne_nil B;rw[rC,iS,e,cG,pT _ (by
  intro s D;rcases l9.1 D with rfl|D
  .decide
  have:=fR (h s D);omega)]
 show (if pX=pX/\(a::L).all m6=A then a::L else[])=_;rw[b6 ⟨Z,all_eq_true.2 h⟩]
theorem zd:∀(p x:List UInt8),(∀b∈x,b<103)->p.isPrefixOf x=(!θ (x<p)&&θ (x<p++[103]))
 | [],[],_=>by simp
 | [],b::x,h=>by
  have E:=h b Â;have:(b::x)<[103]:=cons_lt_cons_iff.2 (.inl E);simp[this]
 |c::p,[],_=>by simp
 |c::p,b::x,h=>by
  have G:=zd p x λy F=>h y (Ã _ F);rw[List.isPrefixOf,G,Ò];simp only[cons_lt_cons_iff];by_cases e:b=c
  .subst e;simp[UInt8.lt_irrefl]
  have D:(c == b)=η:=by simpa using λh=>e h.symm
  rw[D];by_cases B:b<c
  .simp[B]
  simp[B,e]
theorem Zx{b:UInt8}(h:tE b=A):b<103:=by simp only[tE,Bool.or_eq_true,l7,l6]at h;rcases h with⟨_,h⟩|⟨_,h⟩<;>simp only[UInt8.le_iff_toNat_le,UInt8.lt_iff_toNat_lt]at *<;>(have B:(57:UInt8).toNat=57:=rfl;have D:(102:UInt8).toNat=102:=rfl;have E:(103:UInt8).toNat=103:=rfl;omega)
theorem Zq(h:m6 s=A):∀b∈ν (μ s),b<103:=by rw[m6,l7]at h;exact λb B=>Zx (all_eq_true.1 h.2 b B)
def sG:B_:=⟨#[103]⟩
theorem aA5(p:B_)(h:m6 x=A):mO p x=(!jZ x p&&jZ x (p++sG)):=by
 rw[mO,zd _ _ (Zq h),AH,AH];have:(p++sG).data.toList=ν (μ p)++[103]:=by rw[ByteArray.data_append,Array.toList_append];rfl
 rw[this]
theorem UA{α:Type}(a b:α->Bool):∀(l:List α),l.Pairwise (λx y=>(a y=A->a x=A)/\(b y=A->b x=A))->(∀x∈l,a x=A->b x=A) ->
  (l.take (l.findIdx λx=>!b x)).drop (l.findIdx λx=>!a x)=l.filter λx=>!a x&&b x
 | [],_,_=>rfl
 | x :: r, h, hab => by
  rw[List.pairwise_cons]at h;have H:=UA a b r h.2 λy B=>hab y (Ã _ B);rw[Î,Î];cases E:a x with
  |true =>
   have D:=hab x Â E;rw[D];simp only[Bool.not_true,cond_false,Ü,drop_succ_cons];rw[H,filter_cons_of_neg (by simp[E])]
  | false =>
   have F:∀y∈r,a y=η:=λy B=>by
    cases e:a y with
    |false=>rfl
    |true=>have:=(h.1 y B).1 e;rw[E]at this;cases this
   have I:(r.findIdx λy=>!a y)=0:=by
    cases r with
    |nil=>rfl
    |cons y r=>rw[Î,F y Â];rfl
   rw[I,Ê]at H;cases D:b x with
   |true =>
    simp only[Bool.not_true,Bool.not_false,cond_false,cond_true,Ü,Ê];rw[H,filter_cons_of_pos (by simp[E,D])]
   | false =>
    have G:∀y∈r,b y=η:=λy B=>by
     cases e:b y with
     |false=>rfl
     |true=>have:=(h.1 y B).2 e;rw[D]at this;cases this
    simp only[Bool.not_false,cond_true,take_zero,Ê];rw[filter_eq_nil_iff.2];intro y B;rcases l9.1 B with rfl|B
    .simp[D]
    simp[G y B]
abbrev zZ(l:List B_):Prop:=l.Pairwise λx y=>jZ x y=A
theorem sE{a b:B_}(B:jZ a b=A)(D:jZ b c=A):jZ a c=A:=by rw[AH,l6]at *;exact List.lt_trans B D
theorem xz(x p q:B_)(h:jZ x p=A):jZ x (p++q)=A:=by
 rw[AH,l6]at *;rw[ByteArray.data_append,Array.toList_append];generalize ν (μ x)=a,ν (μ p)=b,ν (μ q)=c at *
 induction b generalizing a with
 |nil=>exact absurd h (not_lt_nil a)
 | cons y b ih =>
  cases a with
  |nil=>exact nil_lt_cons _ _
  |cons z a =>
   rw[Ò];rcases cons_lt_cons_iff.1 h with h2|⟨e,h2⟩
   .exact cons_lt_cons_iff.2 (.inl h2)
   exact cons_lt_cons_iff.2 (.inr ⟨e,ih _ h2⟩)
theorem Jz(ids:List B_)(p:B_)(E:zZ ids)(D:∀x∈ids,m6 x=A):(ids.take (EM id ids (p++sG))).drop (EM id ids p)=eF ids p:=by rw[EM,EM,eF];show (ids.take (ids.findIdx λx=>!jZ x (p++sG))).drop (ids.findIdx λx=>!jZ x p)=_;rw[UA (λx=>jZ x p) (λx=>jZ x (p++sG)) ids (E.imp λh=>⟨λB=>sE h B,λB=>sE h B⟩) λx _ h=>xz x p sG h];exact filter_congr λx F=>(aA5 p (D x F)).symm
def tI(t:B_):Option B_:=if(dU (ν (μ t))).2=0 then N (JL (dU (ν (μ t))).1)else ζ
def kA(a:List (B_×B_))(t:B_):List (B_×B_):=match tI t with
 |none=>a
 |some i=>if a.any (λp=>θ (p.1=i))=A then a else a++[(i,t)]
def jE(l:List B_):List (B_×B_):=l.foldl kA []
def cD(l:List B_):List B_:=jS ((jE l).map Prod.fst)
def iV(o:List (B_×B_))(i:B_):B_:=((o.find? λp=>θ (p.1=i)).map Prod.snd).getD a6
def jT(ids s:List B_)(i:B_):List B_:=if θ (i∈ids)&&!θ (i∈s)then s++[i]else s
structure GRep where
 sent:List B_
 wants:List (List B_)
 offers:List (List B_)
def BA:List B_:=[48,49,50,51,52,53,54,55,56,57,97,98,99,100,101,102].map λb=>⟨#[b]⟩
def mV(ids:List B_)(r:GRep)(p:j0):GRep :=if p.cnt<=16 then⟨((eF ids p.pre).filter λi=>!θ (i∈p.ids)).foldl (jT ids) r.sent,r.wants++(p.ids.filter λi=>!θ (i∈ids)).map (λi=>[i]),r.offers⟩
 else if p.cnt=(dA ids p.pre).cnt/\p.sum=(dA ids p.pre).sum then r
 else if(dA ids p.pre).cnt<=16 then⟨r.sent,r.wants,r.offers++[fB (dA ids p.pre)]⟩
 else⟨r.sent,r.wants,r.offers++BA.map λd=>fB (dA ids (p.pre++d))⟩
def yT(ids:List B_)(t:B_):GRep:=(nK t).foldl (mV ids) ⟨(rC t).foldl (jT ids) [],[],[]⟩
def bu(J3:List (List B_)->B_)(l:List (List B_)):Nat->Nat->Nat
 |0,n=>n
 |f+1,n=>if n<C l/\T (J3 (l.take (n+1)))<=18000 then bu J3 l f (n+1)else n
def jk(J3:List (List B_)->B_):Nat->List (List B_)->List B_
 |0,_=>[]
 |f+1,l=>if l=[]then[]else J3 (l.take (bu J3 l (C l) 1))::jk J3 f (l.drop (bu J3 l (C l) 1))
def O2(J3:List (List B_)->B_)(l:List (List B_)):List B_:=jk J3 (C l) l
def gB(B:List B_)(t:B_):List B_ :=(yT (cD B) t).sent.map (iV (jE B))++(O2 iS (yT (cD B) t).wants++O2 kP (yT (cD B) t).offers)
theorem Eu(l:List B_)(t:B_):jE (l++[t])=kA (jE l) t:=by rw[jE,foldl_append];rfl
theorem TL(J3:List (List B_)->B_)(l:List (List B_)):∀f n,n<=bu J3 l f n
 |0,n=>h_ n
 |f+1,n=>by
  rw[bu]
  split
  .exact Nat.le_trans (Nat.le_succ n) (TL J3 l f (n+1))
  exact h_ n
theorem Et(l:List B_):((jE l).map Prod.fst).Nodup:=by
 have h:∀(l:List B_) (a:List (B_×B_)),(a.map Prod.fst).Nodup->((l.foldl kA a).map Prod.fst).Nodup:=by
  intro l
  induction l with
  |nil=>exact λa h=>h
  | cons t l ih =>
   intro a h;rw[Ó];refine ih _ ?_;rw[kA];cases tI t with
   |none=>exact h
   |some i =>
    simp only
    split
    .exact h
    next hi =>
    rw[Ç,nodup_append];refine⟨h,H_,?_⟩;intro x E y B e;simp only[Ð,map_nil,q9]at B;subst B e;obtain ⟨p,D,rfl⟩:=mem_map.1 E;exact hi (any_eq_true.2 ⟨p,D,H_⟩)
 exact h l [] H_
theorem zj(l:List B_)(i:B_):i∈(jE l).map Prod.fst↔∃t∈l,tI t=N i:=by
 have h:∀(l:List B_) (a:List (B_×B_)),i∈(l.foldl kA a).map Prod.fst↔i∈a.map Prod.fst\/∃t∈l,tI t=N i:=by
  intro l
  induction l with
  |nil=>intro a;simp
  | cons t l ih =>
   intro a;rw[Ó,ih];have E:i∈(kA a t).map Prod.fst↔i∈a.map Prod.fst\/tI t=N i:=by
    rw[kA];cases e:tI t with
    |none=>simp
    | some j =>
     simp only
     split
     .next hj =>
      have ⟨p,D,B⟩:=any_eq_true.1 hj;rw[l6]at B;constructor
      .exact .inl
      rintro(h|h)
      .exact h
      obtain rfl:=Option.some.inj h;exact mem_map.2 ⟨p,D,B⟩
     simp[eq_comm]
   rw[E,or_assoc];simp
 rw[jE,h];simp
theorem CI(l:List B_)(i:B_):i∈cD l↔∃t∈l,tI t=N i:=by rw[cD,(pU _).mem_iff,zj]
theorem Di(l:List B_)(h:l.Nodup):zZ (jS l):=by
 have E:(jS l).Nodup:=(pU l).nodup_iff.2 h;have F:(jS l).Pairwise λx y=>xm x<=xm y:=by
  rw[jS,à];refine(pairwise_mergeSort (le:=λ(x y:List UInt8)=>θ (x<=y)) (λa b c B D=>?_) (λa b=>?_) (l.map xm)).imp fun {a b} hab=>?_
  .rw[l6]at *;exact List.le_trans B D
  .simp only[Bool.or_eq_true,l6];exact List.le_total a b
  rw[l6]at hab;exact hab
 refine F.imp₂ (λa b B D=>?_) E;rw[AH,l6];rcases List.le_iff_lt_or_eq.1 B with h|h
 ·exact h
 exact absurd (by rw[<-zo a,<-zo b,h]) D
theorem lL(l:List B_):zZ (cD l):=Di _ (Et l)
theorem R6{r}(h:(mX r).2=0):iG r=A:=by
 by_cases a:iG r=A
 .exact a
 rw[mX,a8 a]at h;cases h
theorem Qk(h:tI t=N i):m6 i=A:=by
 rw[tI]at h
 split at h
 .next h0 =>
  obtain rfl:=Option.some.inj h;rw[JL,b6 (R6 (by rw[K4 h0]))];exact DU _
 cases h
theorem xC(l:List B_):∀x∈cD l,m6 x=A:=λx B=>by
 have ⟨t,_,h⟩:=(CI l x).1 B;exact Qk h
theorem qC(l:List B_):C (cD l)<=C l:=by
 rw [cD,jO,g_];have h:∀ (l:List B_) (a:List (B_×B_)),C (l.foldl kA a)<=C a+C l:=by
  intro l
  induction l with
  |nil=>exact λa=>h_ _
  | cons t l ih =>
   intro a;rw[Ó,j6];refine Nat.le_trans (ih _) ?_;have:C (kA a t)<=C a+1:=by
    rw[kA];cases tI t with
    |none=>exact le_succ _
    |some i =>
     simp only
     split
     .exact le_succ _
     rw[j7];exact h_ _
   omega
 have:=h l []
 simpa[jE]using this
theorem KM(s:B_):jZ s s=η:=by rw[AH,q7];exact List.lt_irrefl _
theorem ND:∀(a b:List B_),zZ a->zZ b->(∀x,x∈a↔x∈b)->a=b
 | [],[],_,_,_=>rfl
 | [],y::b,_,_,h=>by have:=(h y).2 Â;cases this
 |x::a,[],_,_,h=>by have:=(h x).1 Â;cases this
 | x::a,y::b,ha,hb,h=>by
  have B:=pairwise_cons.1 ha;have D:=pairwise_cons.1 hb;have e:x=y:=by
   rcases l9.1 ((h x).1 Â)with e|h1
   .exact e
   rcases l9.1 ((h y).2 Â)with e|h2
   .exact e.symm
   have:=sE (B.1 y h2) (D.1 x h1);rw[KM]at this;cases this
  subst e;rw[ND a b B.2 D.2 λz=>?_];constructor
  .intro E;rcases l9.1 ((h z).1 (Ã _ E))with e|h1
   .have:=B.1 z E;rw[e,KM]at this;cases this
   exact h1
  intro E;rcases l9.1 ((h z).2 (Ã _ E))with e|h1
  .have:=D.1 z E;rw[e,KM]at this;cases this
  exact h1
theorem Zw(h:∀t,t∈a↔t∈b):cD a=cD b :=ND _ _ (lL a) (lL b) λx=>by rw[CI,CI];simp only[h]
theorem yg(h:zZ ids)(p:B_):zZ (eF ids p):=h.sublist filter_sublist
theorem Aj:∀(p:B_) (l:List B_),zZ l->(∀x∈l,m6 x=A/\mO p x=A)->A9 p l=A
 |_,[],_,_=>rfl
 |p,[x],_,h=>by
  obtain ⟨a,b⟩:=h x Â;rw[A9,a,b];rfl
 |p,x::y::r,B,h=>by
  have ⟨a,b⟩:=h x Â;have B:=pairwise_cons.1 B;rw[A9,a,b,B.1 y Â,Aj p (y::r) B.2 λz D=>h z (Ã _ D)];rfl
theorem vB(I:zZ ids)(F:∀x∈ids,m6 x=A){p:B_}(H:pH p=A)(G:C ids<1000000):GoodP (dA ids p):=by
 have B:C (eF ids p)<=C ids:=Ö _ _;refine⟨H,Nat.lt_of_le_of_lt B G,DU _,λD=>?_,λD=>?_⟩
 .have D:C (eF ids p)<=16:=D;have e:(dA ids p).ids=eF ids p:=by rw[dA];exact b6 D
  rw[e];exact⟨Z,Aj p _ (yg I p) λx E=>by
   rw[eF,È]at E;exact⟨F x E.1,E.2⟩,Z⟩
 have D:16<C (eF ids p):=D;rw[dA];exact a8 X
theorem GU(ids:List B_):eF ids a6=ids:=filter_eq_self.2 λx _=>rfl
def gJ(ids:List B_):B_:=kP [fB (dA ids a6)]
theorem vC(F:zZ ids)(D:∀x∈ids,m6 x=A)(E:C ids<1000000):nK (gJ ids)=[dA ids a6] :=G6 [dA ids a6] (λp B=>by rw[q9]at B;subst B;exact vB F D E_ E) (show 1<1000000 by decide)
theorem Wd(L:List (List B_))(h:∀s∈L.flatten,T s<1000000)(D:C L<1000000):rM (kP L).data.toList=N (fC::aV (C L:Int)::L.flatten):=by
 rw[kP,cG];refine pT _ λs B=>?_;rcases l9.1 B with rfl|B
 .decide
 rcases l9.1 B with rfl|B
 .have:=oF (n:=(C L:Int)) X X;omega
 exact h s B
theorem R3(P:List j0)(h:∀p∈P,GoodP p)(D:C P<1000000):rC (kP (P.map fB))=[]:=by
 rw[rC,Wd _ (λs G=>by
  have ⟨q,F,B⟩:=mem_flatten.1 G;obtain ⟨p,E,rfl⟩:=mem_map.1 F;exact U1 (h p E) s B) (by rw[g_];exact D)]
 show (if fC=pX/\_ then _ else[])=[];rw[a8 λh=>absurd h.1 E_]
theorem aAS(ids:List B_)(r:GRep)(p:B_):mV ids r (dA ids p)=r:=by
 rw[mV];by_cases D:(dA ids p).cnt<=16
 .have hc':C (eF ids p)<=16:=D;have e:(dA ids p).ids=eF ids p:=by rw[dA];exact b6 hc'
  have E:((eF ids (dA ids p).pre).filter λi=>!θ (i∈(dA ids p).ids))=[]:=by
   rw[e];refine filter_eq_nil_iff.2 λx B=>?_;have B:x∈eF ids p:=B;rw[À B];decide
  have F:((dA ids p).ids.filter λi=>!θ (i∈ids))=[]:=by
   rw[e];refine filter_eq_nil_iff.2 λx B=>?_;rw[eF,È]at B;rw[À B.1];decide
  rw[b6 D,E,F];cases r;simp
 rw[a8 D,b6 ⟨Z,Z⟩]
theorem Bb(B D:List B_)(h:∀t,t∈D↔t∈B)(H:C B<1000000):gB D (gJ (cD B))=[]:=by
 have E:=qC B;have G:∀p∈[dA (cD B) a6],GoodP p:=λp F=>by rw[q9]at F;subst F;exact vB (lL _) (xC _) E_ X
 have e:yT (cD D) (gJ (cD B))=⟨[],[],[]⟩:=by
  rw[yT,vC (lL _) (xC _) X,show rC (gJ (cD B))=[]from R3 [dA (cD B) a6] G (show 1<1000000 by decide),Zw h];exact aAS _ _ _
 rw[gB,e];rfl
theorem OD(l:List B_)(B:nK t=[])(D:rC t=[]):gB l t=[]:=by rw[gB,yT,B,D];rfl
theorem ze(J3:List (List B_)->B_)(l:List (List B_)):∀f n,n<=C l->bu J3 l f n<=C l
 |0,n,h=>h
 |f+1,n,h=>by
  rw[bu]
  split
  .next hc=>exact ze J3 l f (n+1) (by omega)
  exact h
theorem zf(J3:List (List B_)->B_)(l:List (List B_)):∀f n,1<=n->(n=1\/T (J3 (l.take n))<=18000)->bu J3 l f n=1\/T (J3 (l.take (bu J3 l f n)))<=18000
 |0,n,_,h=>h
 |f+1,n,hn,h=>by
  rw[bu]
  split
  .next hc=>exact zf J3 l f (n+1) (by omega) (.inr hc.2)
  exact h
theorem v6{p:Prop}(h:p:=by rw[q6];omega):p:=h
theorem zg(J3:List (List B_)->B_):∀(f:Nat) (l:List (List B_)),C l<=f ->
  ∃D:List (List (List B_)),jk J3 f l=D.map J3/\D.flatten=l/\∀c∈D,c≠[]/\(C c=1\/T (J3 c)<=18000)
 |0,l,h=>⟨[],Z,by rw[List.length_eq_zero_iff.1 (Nat.le_zero.1 h)];rfl,λc B=>by cases B⟩
 | f+1,l,h=>by
  rw[jk]
  split
  .next F=>exact⟨[],Z,F.symm,λc B=>by cases B⟩
  next F =>
  have K:0<C l:=length_pos_iff.2 F;have ⟨n,E⟩:∃n,n=bu J3 l (C l) 1:=X_;have L:1<=n:=by rw[E];exact TL J3 l _ 1
  have P:n<=C l:=by rw[E];exact ze J3 l _ 1 K
  have J:n=1\/T (J3 (l.take n))<=18000:=by rw[E];exact zf J3 l _ 1 (h_ _) (.inl Z)
  rw[<-E];have ⟨D,G,H,I⟩:=zg J3 f (l.drop n) v6;refine⟨l.take n::D,by rw[G];rfl,by rw[Æ,H,Ñ],λc B=>?_⟩;rcases l9.1 B with rfl|B
  .have ht:C (l.take n)=n:=by rw[n_];omega
   exact⟨λe=>by rw[e]at ht;simp at ht;omega,J.imp (λe=>by rw[ht,e]) id⟩
  exact I c B
theorem NP(J3:List (List B_)->B_)(l:List (List B_)):∃B:List (List (List B_)),O2 J3 l=B.map J3/\B.flatten=l/\∀c∈B,c≠[]/\(C c=1\/T (J3 c)<=18000):=zg J3 (C l) l (h_ _)
theorem Kw(L:List B_)(h:∀s∈L,T s<1000000):rM (a_ (aO (pX::L))).data.toList=N (pX::L):=by
 rw[cG];exact pT _ λs B=>by
  rcases l9.1 B with rfl|B
  .decide
  exact h s B
theorem NX(L:List B_)(h:∀s∈L,T s<1000000):nK (iS (L.map λs=>[s]))=[]:=by
 have e:(L.map λs=>[s]).flatten=L:=by clear h;induction L with|nil=>rfl|cons a L B=>rw[Ð,Æ,B];rfl
 rw[nK,iS,e,Kw L h];cases L with
 |nil=>rfl
 |cons a L =>
  show (if pX=fC then _ else[])=[];rw[a8 E_]
theorem NI(h:tI t=N i):∃r:j_,t=a_ (aO (jY r))/\T t<=20000:=by
 rw[tI]at h
 split at h
 .next h0 =>
  have B:=K4 h0;rw[mX]at B
  split at B
  .split at B
   .exact absurd (congrArg Prod.snd B) (by show ¬ ((2:Int)=0);decide)
   next F =>
   have D:=congrArg Prod.fst B;rw[gA]at D;have D:a_ (aO (jY (dU (ν (μ t))).1))=t:=D;refine⟨(dU (ν (μ t))).1,D.symm,?_⟩;have E:=congrArg ByteArray.size D;rw[cB]at E;omega
  exact absurd (congrArg Prod.snd B) (by show ¬ ((1:Int)=0);decide)
 cases h
theorem PA:∀ {L:List B_} {x:B_},x∈L->T x<=C (aO L)
 | [],x,h=>by cases h
 |a::L,x,h=>by
  rw[hU,j7,j6,j7,aS];rcases l9.1 h with rfl|h
  .omega
  have:=PA h;omega
theorem AM(h:tI t=N i):nK t=[]/\rC t=[]:=by
 obtain ⟨r,rfl,F⟩:=NI h;rw[cB]at F;have B:=pT (jY r) (λs E=>by have:=PA E;omega);have ⟨R,D⟩:∃R,jY r=HT::R:=⟨_,rfl⟩;rw[D]at B |-;constructor
 .rw[nK,cG,B];cases R with
  |nil=>rfl
  |cons a R =>
   show (if HT=fC then _ else[])=[];rw[a8 E_]
 rw[rC,cG,B];cases R with
 |nil=>rfl
 |cons a R =>
  show (if HT=pX/\_ then _ else[])=[];rw[a8 λh=>absurd h.1 E_]
theorem MC(h:nK (kP (P.map fB))=P)(B:P≠[]):tI (kP (P.map fB))=ζ:=by
 cases e:tI (kP (P.map fB))with
 |none=>rfl
 |some i=>rw[(AM e).1]at h;exact absurd h.symm B
theorem UM(h:∀s∈L,m6 s=A)(B:L≠[]):tI (iS (L.map λs=>[s]))=ζ:=by
 cases e:tI (iS (L.map λs=>[s]))with
 |none=>rfl
 |some i =>
  have:=uV L h B;rw[(AM e).2]at this;exact absurd this.symm B
theorem lk(B:∀s∈a,T s<1000000)(D:∀s∈b,T s<1000000)(h:aO a=aO b):a=b:=by have:=pT a B;rw[h,pT b D]at this;exact(Option.some.inj this).symm
theorem Ao{b:UInt8}(h:tE b=A):b∈([48,49,50,51,52,53,54,55,56,57,97,98,99,100,101,102]:List UInt8):=by
 have key:∀n:Fin 256,tE (UInt8.ofNat n.val)=A->UInt8.ofNat n.val∈([48,49,50,51,52,53,54,55,56,57,97,98,99,100,101,102]:List UInt8):=by decide +kernel
 have B:=key ⟨b.toNat,b.toNat_lt⟩;simp only[UInt8.ofNat_toNat]at B;exact B h
theorem wN(p x:B_):mO p x=A↔ν (μ p) <+: ν (μ x):=by rw[mO,isPrefixOf_iff_prefix]
theorem MS(a b:B_):(a++b).data.toList=ν (μ a)++ν (μ b):=by rw[ByteArray.data_append,Array.toList_append]
theorem Sk{p:B_}(h:mO (p++d) x=A):mO p x=A:=by rw[wN]at *;rw[MS]at h;exact(List.prefix_append _ _).trans h
theorem He{p:B_}(D:m6 x=A)(h:mO p x=A)(G:T p<16):∃d∈BA,mO (p++d) x=A:=by
 have H:=fR D;rw[wN]at h;have ⟨t,B⟩:=h;cases t with
 |nil =>
  rw[Ë]at B;have:=congrArg List.length B;rw[aS,aS]at this;omega
 | cons b t =>
  have E:b∈ν (μ x):=by rw[<-B];simp
  have F:tE b=A:=by
   rw[m6,l7]at D;exact all_eq_true.1 D.2 b E
  refine⟨⟨#[b]⟩,mem_map.2 ⟨b,Ao F,Z⟩,?_⟩;rw[wN,MS];exact⟨t,by rw[<-B,Þ];rfl⟩
theorem T5:∀(l m:List UInt8),l.Nodup->(∀x∈l,x∈m)->C l<=C m
 | [],m,_,_=>k_ _
 |a::l,m,hn,h=>by
  rw[List.nodup_cons]at hn;have B:=h a Â;have E:=T5 l (m.erase a) hn.2 λx D=>(mem_erase_of_ne (λ(e:x=a)=>hn.1 (by rw[<-e];exact D))).2 (h x (Ã _ D));rw[length_erase_of_mem B]at E;have:=length_pos_of_mem B;rw[j6];omega
theorem XW(i:zZ ids)(Q:∀x∈ids,m6 x=A){p:B_}(g:15<=T p):C (eF ids p)<=16:=by
 have D:∀x∈eF ids p,∃b,ν (μ x)=p.data.toList.take 15++[b]/\tE b=A:=λx D=>by
  rw[eF,È,wN]at D;have ⟨f,t,B⟩:=D;have G:=Q x f;have H:=fR G;rw[m6,l7]at G;have L:x.data.toList.take 15=p.data.toList.take 15:=by rw[<-B,take_append_of_le_length (by rw[aS];exact g)]
  have J:ν (μ x)=x.data.toList.take 15++x.data.toList.drop 15:=(Ñ _ _).symm;have P:C (x.data.toList.drop 15)=1:=by rw[q6,aS,H]
  have ⟨b,E⟩:=length_eq_one_iff.1 P;refine⟨b,by rw[<-L,<-E];exact J,all_eq_true.1 G.2 b ?_⟩;rw[J,E];simp
 have W:=T5 ((eF ids p).map λ(x:B_)=>(x.data.toList.drop 15).headD (0:UInt8)) [48,49,50,51,52,53,54,55,56,57,97,98,99,100,101,102] ?_ ?_
 .rwa [g_]at W
 .rw[List.Nodup,à];refine(yg i p).imp_of_mem fun {a b} ha E h e=>?_;have ⟨c,F,_⟩:=D a ha;have ⟨d,K,_⟩:=D b E;have B:C (p.data.toList.take 15)=15:=by rw[n_,aS];omega
  rw[F,K,Ì B,Ì B]at e;have e:c=d:=e;rw[AH,F,K,e,l6]at h;exact List.lt_irrefl _ h
 intro y j;obtain ⟨x,I,rfl⟩:=mem_map.1 j;have ⟨c,F,R⟩:=D x I;have B:C (p.data.toList.take 15)=15:=by rw[n_,aS];omega
 rw[F,Ì B];exact Ao R
theorem MD:∀d∈BA,T d=1/\d.data.toList.all tE=A:=by decide +kernel
theorem Fx{p:B_}(E:pH p=A)(D:d∈BA)(h:T p<16):pH (p++d)=A:=by have ⟨F,B⟩:=MD d D;rw[pH,l7,l6]at *;refine⟨by rw[ByteArray.size_append];omega,?_⟩;rw[MS,all_append,E.2,B];rfl
structure IdS(A_:List B_):Prop where
 srt:zZ A_
 dig:∀x∈A_,m6 x=A
 len:C A_<1000000
theorem nL{l:List B_}(h:C l<1000000):IdS (cD l):=⟨lL l,xC l,Nat.lt_of_le_of_lt (qC l) h⟩
def By(A_:List B_)(n:Nat)(p:j0):Prop:=∃q,p=dA A_ q/\pH q=A/\(C (eF A_ q)<=16\/15<=T q+n)
theorem By.good(B:IdS A_)(h:By A_ n p):GoodP p:=by obtain ⟨q,rfl,D,_⟩:=h;exact vB B.srt B.dig D B.len
theorem K0(h:C (eF A_ q)<=16):(dA A_ q).ids=eF A_ q:=b6 h
theorem mM:x∈eF A_ q↔x∈A_/\mO q x=A:=È
theorem FE(y_:List B_):∀(l s:List B_),∀i∈l.foldl (jT y_) s,i∈s\/(i∈l/\i∈y_)
 | [],s,i,hi=>.inl hi
 | j::l,s,i,hi=>by
  rw[List.foldl_cons]at hi;rcases FE y_ l _ i hi with h|⟨h1,h2⟩
  .rw[jT]at h
   split at h
   .next hc =>
    rw[l7]at hc;rcases List.mem_append.1 h with h|h
    .exact .inl h
    rw[q9]at h;subst h;exact .inr ⟨List.mem_cons_self,b9 hc.1⟩
   exact .inl h
  exact .inr ⟨List.mem_cons_of_mem _ h1,h2⟩
theorem NE(y_:List B_):∀(l s:List B_),∀i∈s,i∈l.foldl (jT y_) s
 | [],s,i,hi=>hi
 |j::l,s,i,hi=>by
  rw[List.foldl_cons];refine NE y_ l _ i ?_;rw[jT]
  split
  .exact List.mem_append_left _ hi
  exact hi
theorem SY(y_:List B_):∀(l s:List B_),∀i∈l,i∈y_->i∈l.foldl (jT y_) s
 | j::l,s,i,hi,hY=>by
  rw[List.foldl_cons];rcases l9.1 hi with rfl|hi
  .refine NE y_ l _ i ?_;rw[jT,À hY];by_cases B:i∈s
   .rw[À B];exact B
   rw[Á B];show i∈s++[i];simp
  exact SY y_ l _ i hi hY
structure InvR(A_ y_:List B_)(n:Nat)(r:GRep):Prop where
 sent:∀i∈r.sent,i∈y_/\i∉A_
 wants:∃L:List B_,r.wants=L.map (λs=>[s])/\∀s∈L,s∈A_/\s∉y_
 offers:∃Q:List j0,r.offers=Q.map fB/\∀p∈Q,∃m,n=m+1/\By y_ m p
theorem aAT(b:IdS A_)(k:IdS y_){r:GRep}(B:By A_ n p)(j:InvR A_ y_ n r):InvR A_ y_ n (mV y_ r p):=by
 obtain ⟨q,rfl,e,g⟩:=B;have ⟨I,⟨L,F,J⟩,⟨Q,K,P⟩⟩:=j;have G:¬ C (eF A_ q)<=16->T q<=14/\∃m,n=m+1:=λh=>by
  have E:¬ 15<=T q:=λF=>h (XW b.srt b.dig F);exact⟨X,n - 1,X⟩
 rw[mV];by_cases H:C (eF A_ q)<=16
 .rw[b6 (show (dA A_ q).cnt<=16 from H),K0 H];refine⟨λi hi=>?_,⟨L++(eF A_ q).filter λi=>!θ (i∈y_),by rw[F,Ç],λs D=>?_⟩,⟨Q,K,P⟩⟩
  .rcases FE y_ _ _ i hi with h|⟨h,hiY⟩
   .exact I i h
   rw[È]at h;have a:i∉eF A_ q:=by simpa using h.2
   exact⟨hiY,λf=>a (mM.2 ⟨f,(mM.1 h.1).2⟩)⟩
  rcases mem_append.1 D with D|D
  .exact J s D
  rw[È]at D;exact⟨(mM.1 D.1).1,by simpa using D.2⟩
 have ⟨R,m,W⟩:=G H;rw[a8 (show ¬ (dA A_ q).cnt<=16 from H)]
 split
 .exact⟨I,⟨L,F,J⟩,⟨Q,K,P⟩⟩
 split
 .next ho =>
  refine⟨I,⟨L,F,J⟩,⟨Q++[dA y_ q],by rw[K,Ç];rfl,λp B=>?_⟩⟩;rcases mem_append.1 B with B|B
  .exact P p B
  rw[q9]at B;exact⟨m,W,q,B,e,.inl ho⟩
 refine⟨I,⟨L,F,J⟩,⟨Q++BA.map λd=>dA y_ (q++d),by rw[K,Ç,Û];rfl,λp B=>?_⟩⟩;rcases mem_append.1 B with B|B
 .exact P p B
 obtain ⟨d,c,rfl⟩:=mem_map.1 B;have E:=g.resolve_left H;refine⟨m,W,_,Z,Fx e c (Nat.lt_of_le_of_lt R E_),.inr ?_⟩;rw[ByteArray.size_append,(MD d c).1,Nat.add_assoc,Nat.add_comm 1 m,<-W];exact E
inductive MsgW(A_ y_:List B_):Nat->B_->Prop
 |recd {n:Nat} {t i:B_}:tI t=N i->i∈A_->i∉y_->MsgW A_ y_ (n+1) t
 |want {n:Nat} {L:List B_}:L≠[]->(∀s∈L,s∈y_/\s∉A_)->T (iS (L.map λs=>[s]))<=20000->MsgW A_ y_ (n+2) (iS (L.map λs=>[s]))
 |offr {n:Nat} {P:List j0}:P≠[]->(∀p∈P,By A_ n p)->C P<=20000->T (kP (P.map fB))<=20000->MsgW A_ y_ (n+4) (kP (P.map fB))
theorem vE:∀(L:List B_),(∀s∈L,T s<=16)->C (aO L)<=19*C L
 | [],_=>h_ _
 |x::L,h=>by
  have D:=h x Â;have E:=vE L λs B=>h s (Ã _ B);have F:C (decDigits (T x))<=2:=cY (k:=2) X E_;rw[hU,j7,j6,j7,aS,j6];omega
theorem FX:∀(L:List B_),C L<=C (aO L)
 | []=>h_ _
 |x::L=>by
  have B:=FX L;rw[hU];simp only[j7,j6];omega
theorem mo(h:GoodP p):∀s∈fB p,T s<=16:=by
 intro s B;rw[fB,Ù]at B;rcases B with B|B
 .simp only[l9,q8,or_false]at B;rcases B with rfl|rfl|rfl
  .have:=h.pre;rw[pH,l7,l6]at this;exact this.1
  .rw[CG,cB];exact Nat.le_trans (cY (k:=6) h.cnt E_) E_
  exact Nat.le_of_eq (fR h.sum)
 by_cases D:p.cnt<=16
 .exact Nat.le_of_eq (fR ((MB (h.sml D).2.1 s B).1))
 rw[h.big X]at B;cases B
theorem Az(h:GoodP p):C (fB p)<=19:=by
 rw[fB,j7];have:C p.ids<=16:=by
  by_cases B:p.cnt<=16
  .have:=(h.sml B).1;omega
  rw[h.big X];exact k_ _
 simp only[j6,Ï];omega
theorem cu(h:GoodP p):T (kP [fB p])<=20000:=by
 rw[kP,cB];refine Nat.le_trans (vE _ λs B=>?_) ?_
 .rcases l9.1 B with rfl|B
  .decide
  rcases l9.1 B with rfl|B
  .exact(by decide +kernel:T (aV ((1:Nat):Int))<=16)
  rw[Æ,â,Ë]at B;exact mo h s B
 rw[j6,j6,Æ,â,Ë];have:=Az h;omega
theorem gk(h:m6 s=A):T (iS [[s]])<=20000:=by
 rw[iS,cB];refine Nat.le_trans (vE _ λx B=>?_) (by show 19*2<=20000;decide);rcases l9.1 B with rfl|B
 .decide
 have:x=s:=by simpa using B
 rw[this,fR h];decide
theorem HL(f:α->List B_){L:List α}{D:List (List (List B_))}(h:D.flatten=L.map f):∀c∈D,∃l:List α,c=l.map f/\∀x∈l,x∈L:=by
 induction D generalizing L with
 |nil=>intro c B;cases B
 |cons a D J =>
  rw[Æ]at h;have ⟨l1,l2,F,G,H⟩:=map_eq_append_iff.1 h.symm;intro c B;rcases l9.1 B with rfl|B
  .exact⟨l1,G.symm,λx E=>by rw[F];exact Å _ E⟩
  have ⟨l,e,I⟩:=J H.symm c B;exact⟨l,e,λx E=>by rw[F];exact Ä _ (I x E)⟩
theorem FL{l:List B_}(h:i∈cD l):tI (iV (jE l) i)=N i/\iV (jE l) i∈l:=by
 have L:∀(k:List B_) (a:List (B_×B_)),(∀x∈k,x∈l)->(∀p∈a,tI p.2=N p.1/\p.2∈l)->∀p∈k.foldl kA a,tI p.2=N p.1/\p.2∈l:=by
  intro k
  induction k with
  |nil=>exact λa _ h=>h
  | cons s k ih =>
   intro a K D;rw[Ó];refine ih _ (λx H=>K x (Ã _ H)) ?_;rw[kA];cases e:tI s with
   |none=>exact D
   |some j =>
    simp only
    split
    .exact D
    intro p B;rcases mem_append.1 B with B|B
    .exact D p B
    rw[q9]at B;subst B;exact⟨e,K s Â⟩
 have ⟨t,P,G⟩:=(CI l i).1 h;have ⟨p,B,F⟩:=mem_map.1 ((zj l i).2 ⟨t,P,G⟩);rw[iV];cases E:(jE l).find? λp=>θ (p.1=i)with
 |none =>
  have:=find?_eq_none.1 E p B;rw[F]at this;exact absurd H_ this
 |some q =>
  have I:=find?_some E;rw[l6]at I;have J:=L l [] (λx H=>H) (λp B=>by cases B) q (mem_of_find?_eq_some E);rw[I]at J;exact J
theorem yk{A_ y_:List B_}(B:IdS A_)(D:IdS y_){n:Nat}:∀(P:List j0) (r:GRep),(∀p∈P,By A_ n p)->InvR A_ y_ n r->InvR A_ y_ n (P.foldl (mV y_) r)
 | [],r,_,h=>h
 |p::P,r,hP,h=>by
  rw[List.foldl_cons];exact yk B D P _ (λq E=>hP q (List.mem_cons_of_mem _ E)) (aAT B D (hP p List.mem_cons_self) h)
theorem wF(E:IdS A_)(D:∀p∈P,By A_ n p)(F:C P<=20000):nK (kP (P.map fB))=P/\rC (kP (P.map fB))=[] :=⟨G6 P (λp B=>(D p B).good E) X,R3 P (λp B=>(D p B).good E) X⟩
theorem QR(D:IdS A_)(G:IdS y_)(B:∀p∈P,By A_ n p)(H:C P<=20000):InvR A_ y_ n (yT y_ (kP (P.map fB))):=by have ⟨E,F⟩:=wF D B H;rw[yT,E,F];exact yk D G P _ B ⟨(λi hi=>by cases hi),⟨[],Z,(λs J=>by cases J)⟩,⟨[],Z,(λp I=>by cases I)⟩⟩
theorem FG(D:∀s∈L,m6 s=A)(B:L≠[]):yT y_ (iS (L.map λs=>[s]))=⟨L.foldl (jT y_) [],[],[]⟩:=by rw[yT,NX L λs E=>by have:=fR (D s E);omega,uV L D B];rfl
theorem ke(d:IdS y_)(A_:List B_){Q:List j0}(b:∀p∈Q,By y_ m p):∀u∈O2 kP (Q.map fB),∃R:List j0,u=kP (R.map fB)/\(∀p∈R,p∈Q)/\C R<=20000/\MsgW y_ A_ (m+4) u:=by
 intro u J;have ⟨g,W,K,a⟩:=NP kP (Q.map fB);rw[W]at J;obtain ⟨c,I,rfl⟩:=mem_map.1 J;obtain ⟨R,rfl,H⟩:=HL fB K c I;have ⟨L,F⟩:=a _ I;have G:R≠[]:=λe=>L (by rw[e];rfl);have B:∀p∈R,By y_ m p:=λp f=>b p (H p f);have E:T (kP (R.map fB))<=20000:=by
  rcases F with F|F
  .rw[g_]at F;obtain ⟨p,rfl⟩:=length_eq_one_iff.1 F;exact cu ((B p Â).good d)
  omega
 have D:C R<=20000:=by
  refine Nat.le_trans ?_ E;rw[kP,cB];refine Nat.le_trans ?_ (FX _);rw[j6,j6];have:C R<=C ((R.map fB).flatten):=by
   clear E F B G L H I J K
   induction R with
   |nil=>exact h_ _
   |cons p P h=>rw[Ð,Æ,j7,j6,fB,j7];simp only[j6,Ï];omega
  omega
 exact⟨R,Z,H,D,.offr G B D E⟩
theorem XG(W:IdS A_)(G:∀s∈L,s∈A_/\s∉y_):∀u∈O2 iS (L.map λs=>[s]),∃R:List B_,R≠[]/\u=iS (R.map λs=>[s])/\(∀p∈R,p∈L)/\MsgW y_ A_ (m+2) u:=by
 intro u I;have ⟨b,J,K,P⟩:=NP iS (L.map λs=>[s]);rw[J]at I;obtain ⟨c,H,rfl⟩:=mem_map.1 I;obtain ⟨R,rfl,E⟩:=HL (λs=>[s]) K c H;have ⟨Q,B⟩:=P _ H;have D:R≠[]:=λe=>Q (by rw[e];rfl);have F:T (iS (R.map λs=>[s]))<=20000:=by
  rcases B with B|B
  .rw[g_]at B;obtain ⟨p,rfl⟩:=length_eq_one_iff.1 B;exact gk (W.dig p (G p (E p Â)).1)
  omega
 exact⟨R,D,Z,E,.want D (λs a=>G s (E s a)) F⟩
theorem ew(f:C a<1000000)(g:C b<1000000)(h:MsgW (cD a) (cD b) (n+1) t):∀u∈gB b t,MsgW (cD b) (cD a) n u:=by
 have J:=nL f;have G:=nL g;generalize w:n+1=k at h;cases h with
 |recd E D F =>
  intro u B;have ⟨c,d⟩:=AM E;rw[OD b c d]at B;cases B
 | @want m L E D F =>
  intro u B;rw[gB,FG (λs l=>G.dig s (D s l).1) E]at B;rcases mem_append.1 B with B|B
  .obtain ⟨i,hi,rfl⟩:=mem_map.1 B;rcases FE _ _ _ i hi with h|⟨hL,hiY⟩
   .cases h
   obtain rfl:n=m+1:=X
   exact .recd (FL hiY).1 hiY (D i hL).2
  cases B
 | @offr m P E D F h4 =>
  intro u B;have ⟨r,K⟩:∃r,r=yT (cD b) (kP (P.map fB)):=X_;have hi:=QR J G D F;rw[gB,<-K]at B;rw[<-K]at hi;have ⟨I,⟨L,o,q⟩,⟨Q,v,W⟩⟩:=hi;obtain rfl:n=m+3:=X
  rcases mem_append.1 B with B|B
  .obtain ⟨i,hi,rfl⟩:=mem_map.1 B;exact .recd (FL (I i hi).1).1 (I i hi).1 (I i hi).2
  rcases mem_append.1 B with B|B
  .rw[o]at B;have ⟨_,_,_,_,H⟩:=XG J (m:=m+1) q u B;exact H
  rw[v]at B;cases Q with
  |nil=>cases B
  | cons p Q =>
   obtain ⟨R,rfl,_⟩:=W p Â;have ⟨_,_,_,_,H⟩:=ke G (cD a) (m:=R) (λp j=>by
    have ⟨m2,e,h⟩:=W p j;obtain rfl:R=m2:=X
    exact h) u B
   exact H
theorem MsgW.size(h:MsgW A_ y_ n t):T t<=20000:=by
 cases h with
 |recd B _ _=>have ⟨r,_,h⟩:=NI B;exact h
 |want _ _ h=>exact h
 |offr _ _ _ h=>exact h
def aD2(A_:List B_)(t x:B_):Prop:=tI t=N x\/x∈rC t\/∃q,dA A_ q∈nK t/\mO q x=A
def V4(A_ y_:List B_):Prop:=∀q,16<C (eF A_ q)->16<C (eF y_ q)->wL (eF A_ q)=wL (eF y_ q)->eF A_ q=eF y_ q
def Ud(A_ y_:List B_)(x:B_):Prop:=(x∈A_/\x∉y_)\/(x∈y_/\x∉A_)
theorem Rv(y_:List B_)(r:GRep)(p:j0):(∀i∈r.sent,i∈(mV y_ r p).sent)/\(∀i∈r.wants,i∈(mV y_ r p).wants)/\∀i∈r.offers,i∈(mV y_ r p).offers:=by
 rw[mV]
 split
 .exact⟨λi hi=>NE y_ _ _ i hi,λi hi=>Å _ hi,λi hi=>hi⟩
 split
 .exact⟨λi hi=>hi,λi hi=>hi,λi hi=>hi⟩
 split
 .exact⟨λi hi=>hi,λi hi=>hi,λi hi=>Å _ hi⟩
 exact⟨λi hi=>hi,λi hi=>hi,λi hi=>Å _ hi⟩
def Ub(y_:List B_)(r:GRep)(x:B_):Prop:=(x∈r.sent/\x∈y_)\/[x]∈r.wants\/∃q,fB (dA y_ q)∈r.offers/\mO q x=A
theorem mb{y_:List B_}{r:GRep}{x:B_}:∀(P:List j0) (r:GRep),Ub y_ r x->Ub y_ (P.foldl (mV y_) r) x
 | [],r,h=>h
 |p::P,r,h=>by
  rw[List.foldl_cons];obtain ⟨B,D,E⟩:=Rv y_ r p;refine mb (r:=r) P _ ?_;rcases h with⟨a,b⟩|a|⟨q,a,b⟩
  .exact .inl ⟨B x a,b⟩
  .exact .inr (.inl (D _ a))
  exact .inr (.inr ⟨q,E _ a,b⟩)
theorem aAU(F:IdS A_)(I:IdS y_)(D:Ud A_ y_ x)(J:V4 A_ y_)(B:mO q x=A)(r:GRep):Ub y_ (mV y_ r (dA A_ q)) x:=by
 rw[mV];by_cases E:C (eF A_ q)<=16
 .rw[b6 (show (dA A_ q).cnt<=16 from E),K0 E];rcases D with⟨h1,h2⟩|⟨h1,h2⟩
  .refine .inr (.inl (Ä _ (mem_map.2 ⟨x,mem_filter.2 ⟨mM.2 ⟨h1,B⟩,by simpa using h2⟩,Z⟩)))
  refine .inl ⟨SY y_ _ _ x (mem_filter.2 ⟨mM.2 ⟨h1,B⟩,?_⟩) h1,h1⟩;have:x∉eF A_ q:=λh=>h2 (mM.1 h).1
  simpa using this
 have H:¬ 15<=T q:=λh=>E (XW F.srt F.dig h);have K:m6 x=A:=D.elim (λh=>F.dig x h.1) (λh=>I.dig x h.1);rw[a8 (show ¬ (dA A_ q).cnt<=16 from E)]
 split
 .next he =>
  have L:C (eF A_ q)=C (eF y_ q):=he.1;have G:=J q X X he.2;exfalso;rcases D with⟨h1,h2⟩|⟨h1,h2⟩
  .exact h2 (mM.1 (G▸mM.2 ⟨h1,B⟩)).1
  exact h2 (mM.1 (G▸mM.2 ⟨h1,B⟩:x∈eF A_ q)).1
 split
 .exact .inr (.inr ⟨q,Ä _ (q9.2 Z),B⟩)
 have ⟨d,D,h⟩:=He K B X;exact .inr (.inr ⟨q++d,Ä _ (mem_map.2 ⟨d,D,Z⟩),h⟩)
theorem mn{A_ y_:List B_}(B:IdS A_)(D:IdS y_){x q:B_}(G:Ud A_ y_ x)(F:V4 A_ y_)(E:mO q x=A):∀(P:List j0) (r:GRep),dA A_ q∈P->Ub y_ (P.foldl (mV y_) r) x
 |p::P,r,h=>by
  rw[List.foldl_cons];rcases l9.1 h with rfl|h
  .exact mb (r:=r) P _ (aAU B D G F E r)
  exact mn B D G F E P _ h
theorem No(J3:List (List B_)->B_)(f:α->List B_){L:List α}{w:List B_}(h:w∈L.map f):∃l:List α,J3 (l.map f)∈O2 J3 (L.map f)/\w∈l.map f/\(∀y∈l,y∈L)/\(C l=1\/T (J3 (l.map f))<=18000):=by have ⟨I,E,D,F⟩:=NP J3 (L.map f);rw[<-D]at h;have ⟨c,B,H⟩:=mem_flatten.1 h;obtain ⟨l,rfl,G⟩:=HL f D c B;exact⟨l,by rw[E];exact mem_map.2 ⟨_,B,Z⟩,H,G,by have:=(F _ B).2;rwa [g_]at this⟩
theorem cw(R:List j0):C R<=T (kP (R.map fB)):=by
 rw[kP,cB];refine Nat.le_trans ?_ (FX _);rw[j6,j6];have:C R<=C ((R.map fB).flatten):=by
  induction R with
  |nil=>exact h_ _
  |cons p P B=>rw[Ð,Æ,j7,j6,fB,j7];simp only[j6,Ï];omega
 omega
theorem Bt(f:C a<1000000)(g:C b<1000000)(h:MsgW (cD a) (cD b) (n+1) t)(hd:Ud (cD a) (cD b) x)(hc:V4 (cD a) (cD b))
  (B:aD2 (cD a) t x):(tI t=N x/\x∈cD a/\x∉cD b)\/∃u∈gB b t,aD2 (cD b) u x:=by
 have I:=nL f;have J:=nL g;have G:=ew f g h;generalize hn:n+1=k at h;cases h with
 | @recd m _ i h1 h2 h3 =>
  have ⟨w,R⟩:=AM h1;rcases B with h|h|⟨q,h,_⟩
  .rw[h1]at h;obtain rfl:=Option.some.inj h;exact .inl ⟨h1,h2,h3⟩
  .rw[R]at h;cases h
  rw[w]at h;cases h
 | @want m L h1 h2 h3 =>
  have D:∀s∈L,m6 s=A:=λs H=>J.dig s (h2 s H).1;rcases B with h|h|⟨q,h,_⟩
  .rw[UM D h1]at h;cases h
  .rw[uV L D h1]at h;refine .inr ⟨iV (jE b) x,?_,.inl (FL (h2 x h).1).1⟩;rw[gB,FG D h1];exact Å _ (mem_map.2 ⟨x,SY _ _ _ x h (h2 x h).1,Z⟩)
  rw[NX L λs H=>by have:=fR (D s H);omega]at h;cases h
 | @offr m P h1 h2 h3 h4 =>
  have ⟨d,o⟩:=wF I h2 h3;rcases B with h|h|⟨q,h,hbq⟩
  .rw[MC d h1]at h;cases h
  .rw[o]at h;cases h
  rw[d]at h;right;have ⟨r,c⟩:∃r,r=yT (cD b) (kP (P.map fB)):=X_;have y:Ub (cD b) r x:=by
   rw[c,yT,d,o];exact mn I J hd hc hbq P _ h
  have hi:=QR I J h2 h3;rw[gB,<-c]at G |-;rw[<-c]at hi;have ⟨s1,⟨L,s2,s3⟩,⟨Q,s4,v⟩⟩:=hi;rcases y with⟨h1,h2⟩|h1|⟨q',h1,hb'⟩
  .exact⟨_,Å _ (mem_map.2 ⟨x,h1,Z⟩),.inl (FL h2).1⟩
  .rw[s2]at h1 |-;have ⟨l,W,F,E,_⟩:=No iS (λs=>[s]) h1;have ⟨z,j,R⟩:=mem_map.1 F;obtain rfl:z=x:=(List.cons.inj R).1;refine⟨_,Ä _ (Å _ W),.inr (.inl ?_)⟩;rw[uV l (λs H=>I.dig s (s3 s (E s H)).1) (List.ne_nil_of_mem j)];exact j
  rw[s4]at h1 |-;have ⟨l,W,F,E,τ⟩:=No kP fB h1;refine⟨_,Ä _ (Ä _ W),.inr (.inr ⟨q',?_,hb'⟩)⟩;rw[G6 l (λp K=>by
   have ⟨m',_,ho⟩:=v p (E p K);exact ho.good J) (by
   have:=cw l;omega)]
  have ⟨p,K,e⟩:=mem_map.1 F;obtain ⟨_,_,q2,rfl,_⟩:=v p (E p K);obtain rfl:q2=q':=(List.cons.inj e).1;exact K
def recT(t:B_):Bool:=(tI t).isSome
def offB(t:B_):Bool:=!(nK t).isEmpty
structure XS where
 ag:List B_
 bg:List B_
 ao:Nat
 bo:Nat
 q:List B_
def Kp(B:List B_)(s:XS):XS:=⟨s.ag,s.bg++s.q.filter recT,s.ao,s.bo+(s.q.flatMap (gB B)).countP offB,s.q.flatMap (gB B)⟩
def Kq(B:List B_)(s:XS):XS:=⟨s.ag++s.q.filter recT,s.bg,s.ao+(s.q.flatMap (gB B)).countP offB,s.bo,s.q.flatMap (gB B)⟩
def kI(D B:List B_):Nat->XS
 |0=>⟨[],[],1,0,[gJ (cD D)]⟩
 |k+1=>if k % 2=0 then Kp B (kI D B k)else Kq D (kI D B k)
theorem Gg(E:IdS A_):MsgW A_ y_ 19 (gJ A_):=by have B:By A_ 15 (dA A_ a6):=⟨a6,Z,E_,.inr E_⟩;exact .offr (n:=15) (P:=[dA A_ a6]) (λe=>by cases e) (λp D=>by rw[q9]at D;subst D;exact B) (by show 1<=20000;decide) (cu (B.good E))
theorem IY{a b:List B_}(F:C a<1000000)(G:C b<1000000):∀k,k<=19->∀t∈(kI a b k).q,if k % 2=0 then MsgW (cD a) (cD b) (19 - k) t else MsgW (cD b) (cD a) (19 - k) t
 |0,_,t,B=>by
  rw[b6 rfl];have B:t∈[gJ (cD a)]:=B;rw[q9]at B;subst B;exact Gg (nL F)
 |k+1,hk,t,B=>by
  have I:=IY F G k X;rw[kI]at B;have ⟨n,J⟩:∃n,19 - k=n+1/\19 - (k+1)=n:=⟨18 - k,X,X⟩;rw[J.2];rw[J.1]at I;by_cases E:k % 2=0
  .rw[b6 E]at B;rw[a8 X];have ⟨u,H,D⟩:=mem_flatMap.1 (show t∈(kI a b k).q.flatMap (gB b)from B);have:=I u H;rw[b6 E]at this;exact ew F G this t D
  rw[a8 E]at B;rw[b6 X];have ⟨u,H,D⟩:=mem_flatMap.1 (show t∈(kI a b k).q.flatMap (gB a)from B);have:=I u H;rw[a8 E]at this;exact ew G F this t D
theorem Ks(B:C a<1000000)(D:C b<1000000):(kI a b 19).q=[]:=by refine eq_nil_iff_forall_not_mem.2 λt E=>?_;have:=IY B D 19 X t E;rw[a8 E_]at this;generalize F:19 - 19=z at this;cases this<;>omega
theorem Vz(B:C a<1000000)(D:C b<1000000)(E:k<=19)(F:t∈(kI a b k).q):T t<=20000:=by
 have:=IY B D k E t F
 split at this<;>exact this.size
theorem zu(G:IdS A_)(H:IdS y_)(h:MsgW A_ y_ n t)(E:recT t=A):∃i,tI t=N i/\i∈A_/\i∉y_:=by
 rw[recT]at E;cases h with
 |recd B D F=>exact⟨_,B,D,F⟩
 |want B D F=>rw[UM (λs I=>H.dig s (D s I).1) B]at E;cases E
 |offr B D F J=>rw[MC (wF G D F).1 B]at E;cases E
theorem ql{a b:List B_}(E:C a<1000000)(F:C b<1000000):∀k,k<=19 ->
  (∀t∈(kI a b k).ag,∃i,tI t=N i/\i∈cD b/\i∉cD a)/\∀t∈(kI a b k).bg,∃i,tI t=N i/\i∈cD a/\i∉cD b
 |0,_=>⟨(λt B=>by cases B),(λt B=>by cases B)⟩
 | k+1,hk=>by
  obtain ⟨H,I⟩:=ql E F k X;have G:=IY E F k X;rw[kI];by_cases D:k % 2=0
  .rw[b6 D];refine⟨H,λt B=>?_⟩;rcases mem_append.1 (show t∈(kI a b k).bg++(kI a b k).q.filter recT from B)with h|h
   .exact I t h
   rw[È]at h;have:=G t h.1;rw[b6 D]at this;exact zu (nL E) (nL F) this h.2
  rw[a8 D];refine⟨λt B=>?_,I⟩;rcases mem_append.1 (show t∈(kI a b k).ag++(kI a b k).q.filter recT from B)with h|h
  .exact H t h
  rw[È]at h;have:=G t h.1;rw[a8 D]at this;exact zu (nL F) (nL E) this h.2
def aFl(A_ y_:List B_)(s:XS)(x:B_):Prop:=(∃t∈s.bg,tI t=N x/\x∈A_/\x∉y_)\/∃t∈s.ag,tI t=N x/\x∈y_/\x∉A_
theorem qm{a b:List B_}(D:C a<1000000)(E:C b<1000000){x:B_}(G:Ud (cD a) (cD b) x)(F:V4 (cD a) (cD b)):∀k,k<=19 ->
  aFl (cD a) (cD b) (kI a b k) x\/∃t∈(kI a b k).q,aD2 (if k % 2=0 then cD a else cD b) t x
 |0,_=>by
  refine .inr ⟨gJ (cD a),q9.2 Z,.inr (.inr ⟨a6,?_,Z⟩)⟩;rw[b6 Z,vC (lL a) (xC a) (nL D).len];exact q9.2 Z
 | k+1,hk=>by
  have H:=IY D E k X;have ⟨n,K⟩:∃n,19 - k=n+1:=⟨18 - k,X⟩;rw[K]at H;rw[kI];by_cases B:k % 2=0
  .rw[b6 B,a8 (show ¬ (k+1) % 2=0 by omega)];rcases qm D E G F k X with(⟨t,ht,h⟩|⟨t,ht,h⟩)|⟨t,ht,h⟩
   .exact .inl (.inl ⟨t,Å _ ht,h⟩)
   .exact .inl (.inr ⟨t,ht,h⟩)
   rw[b6 B]at h;have:=H t ht;rw[b6 B]at this;rcases Bt D E this G F h with h|⟨u,hu,h⟩
   .exact .inl (.inl ⟨t,Ä _ (mem_filter.2 ⟨ht,by rw[recT,h.1];rfl⟩),h⟩)
   exact .inr ⟨u,mem_flatMap.2 ⟨t,ht,hu⟩,h⟩
  rw[a8 B,b6 (show (k+1) % 2=0 by omega)];rcases qm D E G F k X with(⟨t,ht,h⟩|⟨t,ht,h⟩)|⟨t,ht,h⟩
  .exact .inl (.inl ⟨t,ht,h⟩)
  .exact .inl (.inr ⟨t,Å _ ht,h⟩)
  rw[a8 B]at h;have:=H t ht;rw[a8 B]at this;rcases Bt E D this G.symm (λq I B J=>(F q B I J.symm).symm) h with h|⟨u,hu,h⟩
  .exact .inl (.inr ⟨t,Ä _ (mem_filter.2 ⟨ht,by rw[recT,h.1];rfl⟩),h⟩)
  exact .inr ⟨u,mem_flatMap.2 ⟨t,ht,hu⟩,h⟩
theorem Wa(G:C a<1000000)(H:C b<1000000)(L:V4 (cD a) (cD b))(I:k<=19)(Q:(kI a b k).q=[]):cD (a++(kI a b k).ag)=cD (b++(kI a b k).bg):=by
 have ⟨J,K⟩:=ql G H k I;have D:∀x,Ud (cD a) (cD b) x->aFl (cD a) (cD b) (kI a b k) x:=λx P=>by
  rcases qm G H P L k I with h|⟨t,ht,_⟩
  .exact h
  rw[Q]at ht;cases ht
 have B:∀(c g:List B_) (x:B_),x∈cD (c++g)↔x∈cD c\/∃t∈g,tI t=N x:=λc g x=>by
  rw[CI,CI];simp only[Ù,or_and_right,exists_or]
 refine ND _ _ (lL _) (lL _) λx=>?_;rw[B,B];constructor
 .rintro(h|⟨t,ht,h⟩)
  .by_cases hy:x∈cD b
   .exact .inl hy
   rcases D x (.inl ⟨h,hy⟩)with⟨t,ht,e,_⟩|⟨t,ht,e,E,F⟩
   .exact .inr ⟨t,ht,e⟩
   exact absurd E hy
  have ⟨i,e,E,F⟩:=J t ht;rw[h]at e;obtain rfl:=Option.some.inj e;exact .inl E
 rintro(h|⟨t,ht,h⟩)
 .by_cases hy:x∈cD a
  .exact .inl hy
  rcases D x (.inr ⟨h,hy⟩)with⟨t,ht,e,E,F⟩|⟨t,ht,e,_⟩
  .exact absurd E hy
  exact .inr ⟨t,ht,e⟩
 have ⟨i,e,E,F⟩:=K t ht;rw[h]at e;obtain rfl:=Option.some.inj e;exact .inl E
def mZ(ids:List B_):List B_:=a_ (aO ids)::ids.flatMap λx=>(List.range (T x)).map λn=>a_ (aO (eF ids (x.extract 0 (n+1))))
theorem np(h:0<C (eF A_ q)):a_ (aO (eF A_ q))∈mZ A_:=by
 by_cases D:q=a6
 .rw[D,GU];exact Â
 have ⟨x,H⟩:=List.exists_mem_of_length_pos h;have ⟨F,B⟩:=mM.1 H;refine Ã _ (mem_flatMap.2 ⟨x,F,mem_map.2 ⟨T q - 1,?_,?_⟩⟩)
 .have E:0<T q:=Nat.pos_of_ne_zero λe=>D (ByteArray.ext (Array.eq_empty_of_size_eq_zero e));rw[wN]at B;have:=B.length_le;rw[aS,aS]at this;rw[mem_range];omega
 have E:0<T q:=Nat.pos_of_ne_zero λe=>D (ByteArray.ext (Array.eq_empty_of_size_eq_zero e));have e:x.extract 0 (T q - 1+1)=q:=by
  rw[wN]at B;have ⟨t,G⟩:=B;refine mC ?_;rw[fW,Ê,<-G,Nat.sub_zero,Nat.sub_add_cancel E,<-aS q,Ý]
 rw[e]
theorem Pf(E:IdS A_)(F:IdS y_)(h:∀x∈mZ A_,∀y∈mZ y_,lO x=lO y->x=y):V4 A_ y_:=λq G H D=>by
 have e:=h _ (np (A_:=A_) (q:=q) X) _ (np (A_:=y_) (q:=q) X) D;refine lk (λs B=>?_) (λs B=>?_) (by have:=congrArg (λs:B_=>ν (μ s)) e;simpa only[cG]using this)
 .have:=fR (E.dig s (mM.1 B).1);omega
 have:=fR (F.dig s (mM.1 B).1);omega
theorem aA4{e:B_}(H:T d=1)(I:T e=1)(E:mO (q++d) x=A)(F:mO (q++e) x=A):d=e:=by rw[wN,MS]at *;refine mC ?_;have ⟨s,B⟩:=E;have ⟨t,D⟩:=F;rw[Þ]at B D;have G:=append_cancel_left (B.trans D.symm);have:=append_inj_left G (by rw[aS,aS,H,I]);exact this
theorem cQ.eqv{P}{i_}{o}{E}{H H'}{v a}(h:cQ P i_ o E H v H')(e:v=a):cQ P i_ o E H a H':=e▸h
theorem aBs(x)(B:x<18446744073709551616)(H):RC 140 [uv x] (uv (P1 x)) H:=by refine Pu ?_;refine Bd func140 Z ntmps140<|Sz aH<|U aA<|Y (pE Z Z Z (show IntKind.u64.wrap _=((Fj x):Int)by rfl))<|V aH<|U aA<|Y aA<|Y (G5 Z Z Z H_ E_ (Li _ 32 Z))<|Y (qA Z H_ Z Z (bits_xor_u64_nat _ _ (HD x) (zK 32 (HD x))))<|V aH<|U aA<|Y (pE Z Z Z (show IntKind.u64.wrap _=((Fi x:Nat))by rfl))<|V aH<|U aA<|Y aA<|Y (G5 Z Z Z H_ E_ (Li _ 29 Z))<|Y (qA Z H_ Z Z (bits_xor_u64_nat _ _ (HC x) (zK 29 (HC x)))) ?_;exact V aH<|aC<|Rt<|Qq
def IJ(b:Int):Prop:=(48<=b/\b<=57)\/(97<=b/\b<=102)
theorem Bg(b:Int)(j:IJ b)(H:aF):RC 83 [.pv (.int .u8 b)] (iv (if b<=57 then b - 48 else b - 87)) H:=by
 refine Pu ?_;have f:∀ {p:Prop} [Decidable p],p->AV.pv (.bool (θ p))=bv A:=λh=>by simp_all
 have k:∀ {p:Prop} [Decidable p],¬ p->AV.pv (.bool (θ p))=bv η:=λh=>by simp_all
 by_cases d:b<=57
 .have c:48<=b:=by rcases j with h|h<;>omega
  rw[b6 d];refine Bd func83 Z ntmps83<|Sz aH<|S<|U aA<|Y (cQ.eqv (kC Z Z Z) (f c))<|Y aA<|O aA<|O (cQ.eqv (pF Z Z Z) (f d))<|V cE<|Cn ?_ ?_<;>intro e
  .exact U aA<|Y (by exact dT Z Z Z (show IntKind.u8.wrap (b - 48)=b - 48 by rw[IntKind.wrap_u8];omega))<|Y (eP Z dI underlying3 Z (mI X X))<|V aH<|aC<|Rt<|Qq
  cases e
 have c:97<=b/\b<=102:=by rcases j with h|h<;>omega
 have i:48<=b:=X
 rw[a8 d];refine Bd func83 Z ntmps83<|Sz aH<|S<|U aA<|Y (cQ.eqv (kC Z Z Z) (f i))<|Y aA<|O aA<|O (cQ.eqv (pF Z Z Z) (k d))<|V cE<|Cn ?_ ?_<;>intro e
 .cases e
 refine aB<|S<|U aA<|Y (cQ.eqv (kC Z Z Z) (f c.1))<|Y aA<|O aA<|O (cQ.eqv (pF Z Z Z) (f c.2))<|V cE<|Cn ?_ ?_<;>intro g
 .exact U aA<|Y (by exact dT Z Z Z (show IntKind.u8.wrap (b - 97)=b - 97 by rw[IntKind.wrap_u8];omega))<|Y (eP Z dI underlying3 Z (mI X X))<|Y (by exact dD Z Z Z (show ξ.wrap (b - 97+10)=b - 87 by rw[mI X X];omega))<|V aH<|aC<|Rt<|Qq
 cases g
abbrev HX:B_:=⟨#[48,49,50,51,52,53,54,55,56,57,97,98,99,100,101,102]⟩
instance (b:Int):Decidable (IJ b):=by unfold IJ;infer_instance
theorem aCr:∀q:Fin 16,IJ (aZ HX q.1):=E_
theorem aCo{q}(h:q<16):T (HX.extract q (q+1))=1/\IJ (aZ (HX.extract q (q+1)) 0):=by
 refine⟨by rw[ByteArray.size_extract];have:T HX=16:=rfl;omega,?_⟩;have e:aZ (HX.extract q (q+1)) 0=aZ HX q:=by
  unfold aZ
  simp_all
 rw[e];exact aCr ⟨q,h⟩
theorem Xr{l}{i}{b}(hi:i<8)(a:l[i]?=N b):(nI l)[i]?=N b:=by rw[nI,getElem?_append_left G_,getElem?_take_of_lt hi,a]
theorem Nu{l}{i}(hi:i<8)(B:C l<=i):(nI l)[i]?=N 0:=by rw[nI,getElem?_append_right G_,getElem?_replicate,b6 G_]
theorem Yw(D i)(hi:i<16):D / 16 ^ i % 16=W2 D (15 - i):=by rw[W2,show 60 - 4*(15 - i)=4*i by omega,Nat.pow_mul]
theorem aCp:∀q:Fin 16,(HX.extract q.1 (q.1+1)).data.toList=[UInt8.ofNat (yB q.1).toNat]:=λq=>by
 revert q;decide
theorem lz(D):C (CJ D)=16:=rfl
theorem Qo(D){i}(h:i<16):(CJ D)[i]?=N (UInt8.ofNat (yB (W2 D i)).toNat):=by rw[CJ,r7,getElem?_range h];rfl
theorem Qm(D){i}(h:i<16):HX.extract (D / 16 ^ i % 16) (D / 16 ^ i % 16+1)++a_ ((CJ D).drop (16 - i))=a_ ((CJ D).drop (16 - (i+1))):=by
 refine mC ?_;rw[ByteArray.data_append,Array.toList_append,aCp ⟨_,mod_lt _ H_⟩,cG,cG];show UInt8.ofNat (yB (D / 16 ^ i % 16)).toNat::(CJ D).drop _=_;rw[Yw D i h,show 16 - (i+1)=15 - i by omega,show 16 - i=15 - i+1 by omega];have b:15 - i<C (CJ D):=by rw[lz];omega
 rw[Í b];have:=Qo D (i:=15 - i) X;rw[m_ b]at this;rw[Option.some.inj this]
theorem yd(s:B_)(hs:T s<1000000000)(H:aF):RC 95 [sv s] (sv (lO s)) H:=by
 refine Pu ?_;have γ:=aS s;have H4:bits .xor .u64 1181783497276652981 (T s:Int)=((W7 (T s):Nat):Int):=bits_xor_u64_nat 1181783497276652981 (T s) E_ X;have B:W7 (T s)<18446744073709551616:=Bi X;have ⟨D,hD⟩:∃D,D=VA (W7 (T s)) (ν (μ s)):=X_;have l:lO s=a_ (CJ D):=by rw[lO,<-hD];rfl
 rw[l];clear l;refine Bd func95 Z ntmps95<|Sz aH<|U aA<|Y (gQ U_)<|Y (eP Z underlying3 gV Z (gl X))<|Y (qA Z H_ Z Z H4)<|V aH<|S<|Sz aH<|aD<|eN (λ(j c:Nat)=>([(0,sv s),(3,uv c),(4,iv ((8*j:Nat):Int))],[])) (λj c=>8*j<=T s+8/\c<18446744073709551616/\((8*j<=T s/\VA c (s.data.toList.drop (8*j))=D)\/(T s<8*j/\c=D))) (λj c=>T s+8 - 8*j) 0 (W7 (T s)) ⟨X,B,.inl ⟨X,F_⟩⟩ ?_ ?_
 .exact Wk
 rintro j c ⟨hj,p,u⟩;refine S<|U aA<|Y aA<|Y (gQ U_)<|V HV<|Cn ?_ ?_<;>intro q
 .have hle:8*j<=T s:=I_ q
  have o:VA c (s.data.toList.drop (8*j))=D:=by
   omega
  have ⟨R,F⟩:∃R,R=s.data.toList.drop (8*j):=X_;have τ:C R=T s - 8*j:=F_
  have δ:=jq R;rw[<-F]at o;refine aB<|S<|aD<|Sz aH<|S<|U aA<|V aH<|aD<|bA (σ:=Nat) (λi=>([(0,sv s),(3,uv c),(4,iv ((8*j:Nat):Int)),(5,uv (xI ((nI R).take i))),(6,iv ((8*j+i:Nat):Int))],[])) (λi=>i<=8) (λi=>8 - i) 0 (k_ _) ?_ ?_
  .exact Wk
  intro i hi;by_cases f:i<8
  .have ⟨y,K⟩:=aQ (l:=nI R) (k:=i) X;have e:xI ((nI R).take (i+1))=xI ((nI R).take i)*256+y.toNat:=by rw[eA K,ZX]
   have h7:xI ((nI R).take i)<72057594037927936:=ox G_;have β:y.toNat<256:=y.toNat_lt;generalize xI ((nI R).take i)=b at e h7 |-;refine S<|U aA<|Y aA<|Y (by exact dD Z Z Z (show ξ.wrap (((8*j:Nat):Int)+8)=((8*j+8:Nat):Int)by rw[mI X X];omega))<|V cH ?_;refine Cn ?_ ?_<;>intro J
   .refine aB<|S<|aD<|U aA<|Y (by exact pE Z Z Z (show IntKind.u64.wrap ((b:Int)*256)=((b*256:Nat):Int)by rw[IntKind.wrap_u64];omega))<|V aH<|U aA<|Y aA<|Y (gQ U_)<|V cH ?_;refine Cn ?_ ?_<;>intro x
    .have hlt2:8*j+i<T s:=I_ x
     have c_:aZ s (8*j+i)=(y.toNat:Int):=by
      have v_:R[i]?=s.data.toList[8*j+i]?:=by rw[F,getElem?_drop]
      have ⟨z,hz⟩:=aQ (l:=ν (μ s)) (k:=8*j+i) X;have:=Xr (l:=R) f (v_.trans hz);rw[K]at this;rw[aZ,hz,<-Option.some.inj this];rfl
     refine Rd aA<|Y aA<|Y aA<|Y (ky U_)<|Y (eP Z dI gV Z (show IntKind.u64.wrap (aZ s (8*j+i))=((y.toNat:Nat):Int)by rw[c_,gl X]))<|Y (by exact dD Z Z Z (show IntKind.u64.wrap (((b*256:Nat):Int)+((y.toNat:Nat):Int))=((b*256+y.toNat:Nat):Int)by rw[IntKind.wrap_u64];omega))<|V aH<|Rd aA<|Y (by exact dD Z Z Z (show ξ.wrap (((8*j+i:Nat):Int)+1)=((8*j+(i+1):Nat):Int)by rw[mI X X];omega))<|Da ?_;refine⟨i+1,X,X,?_⟩;rw[e];exact Wk
    have m:T s<=8*j+i:=J_ x
    have e_:y.toNat=0:=by
     have:=Nu (l:=R) f X;rw[K]at this;rw[Option.some.inj this];rfl
    refine aB<|Rd aA<|Y (by exact dD Z Z Z (show ξ.wrap (((8*j+i:Nat):Int)+1)=((8*j+(i+1):Nat):Int)by rw[mI X X];omega))<|Da ?_;refine⟨i+1,X,X,?_⟩;rw[e,e_,Nat.add_zero];exact Wk
   (have h:=b_ J;omega)
  have A_:i=8:=X
  subst A_;have u_:(nI R).take 8=nI R:=take_of_length_le X;rw[u_];refine S<|U aA<|Y aA<|Y (by exact dD Z Z Z (show ξ.wrap (((8*j:Nat):Int)+8)=((8*j+8:Nat):Int)by rw[mI X X];omega))<|V cH ?_;refine Cn ?_ ?_<;>intro L
  ·(have h:=b9 L;omega)
  have a:=VW (l:=nI R) X;have W:=λH=>aBs (c ^^^ xI (nI R)) (E5 p a) H;refine aP<|Rd aA<|Y aA<|Y (qA Z H_ Z Z (bits_xor_u64_nat c (xI (nI R)) p a))<|Y (kc call140 (W _))<|V aH<|Rd aA<|Y (by exact dD Z Z Z (show ξ.wrap (((8*j:Nat):Int)+8)=((8*(j+1):Nat):Int)by rw[mI X X];omega))<|Da ?_;refine⟨j+1,P1 (c ^^^ xI (nI R)),⟨X,dc _,?_⟩,X,Wk⟩;by_cases t:8<=C R
  .refine .inl ⟨X,?_⟩;have y_:nI (R.take 8)=nI R:=by
    rw[nI,nI,take_take,n_,Nat.min_eq_left t];rw[show 8 - C R=0 by omega];rfl
   have d:=ZI c t;rw[y_,o,F,Ô]at d;rw[F,show 8*(j+1)=8*j+8 by omega,d]
  refine .inr ⟨X,?_⟩;rw[<-ZJ c X,o]
 have κ:T s<8*j:=J_ q
 have w:c=D:=by
  rcases u with⟨h,_⟩|⟨_,h⟩
  .omega
  exact h
 subst w;have r:=lz c;have i_:a_ ((CJ c).drop (16 - 0))=⟨#[]⟩:=by rw[drop_of_length_le X];rfl
 have Q:c / 16 ^ 0=c:=by rw[Nat.pow_zero,Nat.div_one]
 refine aP<|Sz aH<|S<|Sz aH<|aD<|bA (σ:=Nat) (λi=>([(3,uv (c / 16 ^ i)),(7,sv (a_ ((CJ c).drop (16 - i)))),(8,iv (i:Int))],[])) (λi=>i<=16) (λi=>16 - i) 0 (k_ _) ?_ ?_
 .rw[i_,Q];exact Wk
 intro i hi;have ⟨v,E⟩:∃v,v=c / 16 ^ i:=X_;have ρ:v<18446744073709551616:=by rw[E];exact Nat.lt_of_le_of_lt (div_le_self _ _) p
 have J3:c / 16 ^ (i+1)=v / 16:=by rw[E,Nat.pow_succ,<-Nat.div_div_eq_div_mul]
 rw[<-E];have P:((v:Nat):Int).tmod 16=((v % 16:Nat):Int):=by rw[Int.tmod_eq_emod_of_nonneg X];omega
 have hq:IntKind.u64.wrap (((v:Nat):Int).tdiv 16)=((v / 16:Nat):Int):=by
  rw[Int.tdiv_eq_ediv_of_nonneg X,IntKind.wrap_u64];omega
 have n:v % 16<16:=mod_lt _ E_;have k:=aCo n;have f_:T (a_ ((CJ c).drop (16 - i)))=i:=by rw[cB,q6];omega
 by_cases o_:i<16
 .have e:=Qm c o_;rw[<-E]at e;generalize v % 16=g at P n k e;refine S<|U aA<|V cH<|Cn ?_ ?_<;>intro I
  .refine aB<|S<|aD<|U aA<|Y (AO Z Z Z E_ P)<|Y aA<|Y (AO Z Z Z E_ P)<|Y (by exact dD Z Z Z (show IntKind.u64.wrap ((g:Int)+1)=((g+1:Nat):Int)by rw[IntKind.wrap_u64];omega))<|Y (by exact bM (l:=g) (h:=g+1) Z U_ Z Z Z X (show g+1<=T HX from by have:T HX=16:=rfl;omega) Z)<|Y aA<|Y (by exact fL Z Z Z (show T (HX.extract g (g+1))+T (a_ ((CJ c).drop (16 - i)))<=9223372036854775807 by rw[k.1,f_];omega) e)<|V aH<|Rd aA<|Y (DL Z Z Z E_ hq)<|V aH<|Rd aA<|Y kp<|Da ?_;refine⟨i+1,X,X,?_⟩;rw[J3];exact Wk
  (have h:=b_ I;omega)
 have G:i=16:=X
 subst G;refine S<|U aA<|V cH<|Cn ?_ ?_<;>intro z_
 ·(have h:=b9 z_;omega)
 exact aP<|U aA<|V aH<|aC<|Rt<|Qq
theorem yh(L)(d:C L<=2000)(c:∀s∈L,T s<=20000)(H):RC 52 [.pv (aK L)] (sv (wL L)) H:=by refine Pu ?_;have e:=λH=>GW L X (λs h=>Nat.le_trans (c s h) H_) H;have B:=yZ c d;have b:=λH=>yd (a_ (aO L)) (by rw[cB];omega) H;exact Bd func52 Z ntmps52<|Sz aH<|U aA<|Y (bH Z Z call85 Z (e _))<|Y (bH Z Z call95 Z (b _))<|V aH<|aC<|Rt<|Qq
theorem nj(b:Int)(l:¬ IJ b)(H:aF):RC 83 [.pv (.int .u8 b)] (iv (-1)) H:=by
 refine Pu ?_;have k:∀ {p:Prop} [Decidable p],p->AV.pv (.bool (θ p))=bv A:=λh=>by simp_all
 have g:∀ {p:Prop} [Decidable p],¬ p->AV.pv (.bool (θ p))=bv η:=λh=>by simp_all
 by_cases e:48<=b
 .have i:¬ b<=57:=λh=>l (.inl ⟨e,h⟩);by_cases f:97<=b
  .have j:¬ b<=102:=λh=>l (.inr ⟨f,h⟩);refine Bd func83 Z ntmps83<|Sz aH<|S<|U aA<|Y (cQ.eqv (kC Z Z Z) (k e))<|Y aA<|O aA<|O (cQ.eqv (pF Z Z Z) (g i))<|V cE<|Cn ?_ ?_<;>intro c
   .cases c
   refine aB<|S<|U aA<|Y (cQ.eqv (kC Z Z Z) (k f))<|Y aA<|O aA<|O (cQ.eqv (pF Z Z Z) (g j))<|V cE<|Cn ?_ ?_<;>intro d
   .cases d
   exact aB<|Sz aH<|aC<|Rt<|Qq
  refine Bd func83 Z ntmps83<|Sz aH<|S<|U aA<|Y (cQ.eqv (kC Z Z Z) (k e))<|Y aA<|O aA<|O (cQ.eqv (pF Z Z Z) (g i))<|V cE<|Cn ?_ ?_<;>intro c
  .cases c
  refine aB<|S<|U aA<|Y (cQ.eqv (kC Z Z Z) (g f))<|Y aA<|M<|M<|V cE<|Cn ?_ ?_<;>intro d
  .cases d
  exact aB<|Sz aH<|aC<|Rt<|Qq
 refine Bd func83 Z ntmps83<|Sz aH<|S<|U aA<|Y (cQ.eqv (kC Z Z Z) (g e))<|Y aA<|M<|M<|V cE<|Cn ?_ ?_<;>intro c
 .cases c
 refine aB<|S<|U aA<|Y (cQ.eqv (kC Z Z Z) (g X))<|Y aA<|M<|M<|V cE<|Cn ?_ ?_<;>intro d
 .cases d
 exact aB<|Sz aH<|aC<|Rt<|Qq
theorem ly{s}{i}{y}(h:s.data.toList[i]?=N y):IJ (aZ s i)↔tE y=A:=by
 rw[aZ];simp[IJ,tE,Bool.or_eq_true,l7,l6,UInt8.le_iff_toNat_le]
 grind
theorem Zp{s}{i:Nat}{y}(h:s.data.toList[i]?=N y)(B:tE y=η):m6 s=η:=by
 rw[m6]
 grind
theorem Zr{s}(h:∀k,k<16->∀y,s.data.toList[k]?=N y->tE y=A):m6 s=θ (T s=16):=by
 rw[m6];by_cases e:T s=16
 .rw[À e,Bool.true_and,all_eq_true];intro y b;have ⟨k,a⟩:=s8.1 b;have:=(m9.1 a).1;rw[aS]at this;exact h k X y a
 simp_all
theorem yi(s:B_)(E:T s<2^62)(H:aF):RC 37 [sv s] (bv (m6 s)) H:=by
 refine Pu ?_;have u:=aS s;refine Bd func37 Z ntmps37<|Sz aH<|S<|Sz aH<|aD<|bA (σ:=Nat) (λi=>([(0,sv s),(3,iv (i:Int))],[])) (λi=>i<=16/\i<=T s/\∀k,k<i->∀y,s.data.toList[k]?=N y->tE y=A) (λi=>16 - i) 0 ⟨k_ _,k_ _,λk h=>by omega⟩ ?_ ?_
 .exact Wk
 rintro i ⟨hi,hi2,g⟩;by_cases q:i<T s/\i<16
 .have ⟨hin1,hin2⟩:=q;have ⟨y,e⟩:=aQ (l:=ν (μ s)) (k:=i) X;have b:=ly e;have ⟨d,c⟩:∃d,d=aZ s i:=X_;rw[<-c]at b;by_cases m:tE y=A
  .have j:=λH=>Bg d (b.2 m) H;have f:¬ (if d<=57 then d - 48 else d - 87)<0:=by
    have:=b.2 m;unfold IJ at this
    split<;>omega
   rw[c]at j f;refine S<|U aA<|Y aA<|Y (gQ U_)<|Y (cQ.eqv (iL Z Z Z) (show AV.pv (.bool (θ ((i:Int)<(T s:Int))))=bv A by simp_all))<|Y aA<|O aA<|O (cQ.eqv (iL Z Z Z) (show AV.pv (.bool (θ ((i:Int)<16)))=bv A by grind))<|V cE<|Cn ?_ ?_<;>intro o
   .refine aB<|S<|aD<|U aA<|Y aA<|Y (ky U_)<|Y (kc call83 (j _))<|V cH<|Cn ?_ ?_<;>intro v
    .exact absurd (b9 v) f
    refine aB<|Rd aA<|Y kp<|Da ?_;refine⟨i+1,⟨X,X,λk B z F=>?_⟩,X,Wk⟩
    grind
   cases o
  have m:tE y=η:=F_
  have j:=λH=>nj d (λh=>by simp_all) H;rw[c]at j;rw[Zp e m];refine S<|U aA<|Y aA<|Y (gQ U_)<|Y (cQ.eqv (iL Z Z Z) (show AV.pv (.bool (θ ((i:Int)<(T s:Int))))=bv A by simp_all))<|Y aA<|O aA<|O (cQ.eqv (iL Z Z Z) (show AV.pv (.bool (θ ((i:Int)<16)))=bv A by grind))<|V cE<|Cn ?_ ?_<;>intro w
  .refine aB<|S<|aD<|U aA<|Y aA<|Y (ky U_)<|Y (kc call83 (j _))<|V cH<|Cn ?_ ?_<;>intro n
   .exact Sz aH<|aC<|Rt<|Qq
   (have h:=b_ n;exact absurd E_ h)
  cases w
 have l:=Zr (s:=s) (λk B y e=>by
  have:=(m9.1 e).1;rw[u]at this;exact g k X y e)
 have x:θ ((T s:Int)=16)=θ (T s=16):=by
  grind
 rw[l];by_cases D:i<T s
 .refine S<|U aA<|Y aA<|Y (gQ U_)<|Y (cQ.eqv (iL Z Z Z) (show AV.pv (.bool (θ ((i:Int)<(T s:Int))))=bv A by simp_all))<|Y aA<|O aA<|O (cQ.eqv (iL Z Z Z) (show AV.pv (.bool (θ ((i:Int)<16)))=bv η by rw[Á X]))<|V cE<|Cn ?_ ?_<;>intro p
  .cases p
  exact aP<|U aA<|Y (gQ U_)<|Y (cQ.eqv (oE Z Z Z) (show AV.pv (.bool (θ ((T s:Int)=16)))=bv (θ (T s=16))by rw[x]))<|V aH<|aC<|Rt<|Qq
 refine S<|U aA<|Y aA<|Y (gQ U_)<|Y (cQ.eqv (iL Z Z Z) (show AV.pv (.bool (θ ((i:Int)<(T s:Int))))=bv η by rw[Á X]))<|Y aA<|M<|M<|V cE<|Cn ?_ ?_<;>intro t
 .cases t
 exact aP<|U aA<|Y (gQ U_)<|Y (cQ.eqv (oE Z Z Z) (show AV.pv (.bool (θ ((T s:Int)=16)))=bv (θ (T s=16))by rw[x]))<|V aH<|aC<|Rt<|Qq
def P4(b:UInt8):Bool:=θ (48<=b.toNat)&&θ (b.toNat<=57)
def WI:List UInt8->Nat->Nat->Nat×Nat
 | [],c,n=>(c,n)
 |b::r,c,n=>if(P4 b&&θ (c<6))=A then WI r (c+1) (10*n+(b.toNat - 48))else(c,n)
def PY(l:List UInt8):Nat:=(WI l 0 0).1
def qq(l:List UInt8):Nat:=(WI l 0 0).2
def SQ(l:List UInt8):Prop:=PY l=0\/l[PY l]?≠N 58\/C l - PY l - 1<qq l
instance (l:List UInt8):Decidable (SQ l):=inferInstanceAs (Decidable (_\/_\/_))
def PX(l:List UInt8):Option (List B_) :=if h:l=[]then N []else if SQ l then ζ else(PX (l.drop (PY l+1+qq l))).map (a_ ((l.drop (PY l+1)).take (qq l))::·)
termination_by (C l)
decreasing_by have:=length_pos_iff.2 h;rw[q6];omega
def We(l:List UInt8):List B_×Bool:=match PX l with|some L=>(L,A)|none=>([],η)
theorem ar:∀(w r) (c n v),decFrom n w=N v->c+C w<=6->WI (w++58::r) c n=(c+C w,v)
 | [],r,c,n,v,h,_=>by
  obtain rfl:=Option.some.inj h;rfl
 | b::w,r,c,n,v,h,g=>by
  rw[decFrom]at h;rw[j6]at g |-;cases e:digitVal b with
  |none=>simp_all
  | some d =>
   rw[e]at h;have f:d=b.toNat - 48/\P4 b=A:=by
    rw[digitVal]at e
    split at e
    .next a=>obtain rfl:=Option.some.inj e;exact⟨Z,by rw[P4,À a.1,À a.2];rfl⟩
    cases e
   rw[Ò,WI,b6 G_,<-f.1,Nat.mul_comm _,ar w r _ _ v h X];exact Prod.ext X Z
theorem SN:∀(L:List B_),(∀s∈L,T s<1000000)->PX (aO L)=N L
 | [],_=>by rw[show aO []=[]from Z,PX,dif_pos rfl]
 | x::L,h=>by
  have E:=h x Â;have D:=cY (k:=6) X E_;have f:=oI (T x);have c:WI (aO (x::L)) 0 0=(C (decDigits (T x)),T x):=by rw[hU,ar _ _ 0 0 _ (jW _) X,r8]
  have g:PY (aO (x::L))=C (decDigits (T x)):=congrArg Prod.fst c;have B:qq (aO (x::L))=T x:=congrArg Prod.snd c;have i:C (aO (x::L))=C (decDigits (T x))+1+(T x+C (aO L)):=by rw[hU,j7,j6,j7,aS];omega
  have d:(aO (x::L))[C (decDigits (T x))]?=N 58:=by rw[hU,getElem?_append_right (h_ _),Nat.sub_self];rfl
  have b:(aO (x::L)).drop (C (decDigits (T x))+1)=ν (μ x)++aO L:=by
   rw[hU,show decDigits (T x)++58::(ν (μ x)++aO L)=(decDigits (T x)++[58])++(ν (μ x)++aO L)by simp,Ì H_]
  rw[PX,dif_neg (λe=>by simp_all),a8 (by rw[SQ,g,B,d,i];have:=length_pos_iff.2 f;exact λh=>h.elim (λh=>by omega) λh=>h.elim (λh=>h Z) λh=>by omega),g,B,b,<-Ô,b,Ì (aS x),Ú (aS x),SN L (λs j=>h s (Ã _ j)),gA];rfl
def VB(n:Int):B_:=if n<0 then a_ (45::decDigits (-n).toNat)else a_ (decDigits n.toNat)
theorem vk(n:Int)(h0 : -4611686018427387904<=n)(G:n<=4611686018427387904)(H:aF):RC 84 [iv n] (sv (VB n)) H:=by
 by_cases e:n<0
 .refine Pu ?_;have g:∃k:Nat,n = -((k:Int)+1):=⟨(-n - 1).toNat,X⟩;have ⟨k,g⟩:=g;have f:=λH=>ix (k+1) X H;have E:VB n=a_ (45::decDigits (k+1)):=by rw[VB,b6 e,show (-n).toNat=k+1 by omega]
  rw[E];have j:ξ.wrap (n+1) = -(k:Int):=by rw[mI X X];omega
  have h:IntKind.u64.wrap (0 - -(k:Int))=(k:Int):=by rw[IntKind.wrap_u64];omega
  have i:IntKind.u64.wrap ((k:Int)+1)=((k+1:Nat):Int):=by rw[IntKind.wrap_u64];omega
  have B:(⟨#[45]⟩:B_)++a_ (decDigits (k+1))=a_ (45::decDigits (k+1)):=by rfl
  have D:T (⟨#[45]⟩:B_)=1:=rfl;have F:T (a_ (decDigits (k+1)))<=19:=by rw[cB];exact cY (k:=19) X E_
  refine Bd func84 Z ntmps84<|Sz aH<|S<|U aA<|V (cQ.eqv (iL Z Z Z) (by rw[À e]))<|Cn ?_ ?_<;>intro d
  .refine U aA<|Y (ka j)<|Y (Yg Z Z (mI X X))<|Y (eP Z underlying3 gV Z h)<|Y (ka i)<|Y (kc call136 (f _))<|Y kq<|V aH<|aC<|Rt ?_
   simp_all
  cases d
 obtain ⟨k,rfl⟩:∃k:Nat,n=(k:Int):=⟨n.toNat,X⟩;rw[VB,a8 e];exact S6 k X H
theorem Fin.st2J{H1}{id g n}{ob}(l)(v)(b:H1.get id=N ob)(c:ob.g=g)(a:ob.rows=bP l)(d:n=C l)(e:Clo [] v):
  Fin [] H1 (.tup [.osl id g 0 n,v]) [] (.tup [.pv (aK l),v]):=by
 subst c d;exact Fin.fz _ b (a.trans (cX l)) (.tup Z (bG (.osl (fV _ l)) (bG (.same e) jV))) Z T_ T_
theorem j5{p:Prop}(h:p:=by exact cL Z U_ Z Z X (l_ _) (by rw[hz];omega) Z):p:=h
theorem y5{p:Prop}(h:p:=by rw[hz];omega):p:=h
theorem De(l:List UInt8)(hl:C l<1000000000)(H:aF):RC 62 [sv (a_ l)] (.tup [.pv (aK (We l).1),bv (We l).2]) H:=by
 refine Pu ?_;have t1:∀ {p:Prop} [Decidable p],p->AV.pv (.bool (θ p))=bv A:=λh=>by simp_all
 have K:∀ {p:Prop} [Decidable p],¬ p->AV.pv (.bool (θ p))=bv η:=λh=>by simp_all
 have n1:∀ {p:Prop} [Decidable p],¬ p->AV.pv (.bool (!θ p))=bv A:=λh=>by simp_all
 have n0:∀ {p:Prop} [Decidable p],p->AV.pv (.bool (!θ p))=bv η:=λh=>by simp_all
 have hz:=cB l;have g:∀i b,l[i]?=N b->aZ (a_ l) i=(b.toNat:Int):=λi b h=>by rw[aZ,cG,h];rfl
 have hvn:PX l=ζ->We l=([],η):=λh=>by rw[We,h]
 have hvs:∀B,PX l=N B->We l=(B,A):=λB h=>by rw[We,h]
 refine Bd func62 Z ntmps62<|U aH<|V aH<|Sz (dM (id:=905) (sz:=1) (ty:=9) Z Z Z)<|Sz aH<|S<|aD<|eN (λ(p:Nat) (B:List B_)=>([(0,sv (a_ l)),(4,.osl 905 (C B) 0 (C B)),(5,iv (p:Int))],[(905,⟨C B,1,9,bP B⟩)])) (λp B=>p<=C l/\C B<=p/\PX l=(PX (l.drop p)).map (B++·)) (λp B=>C l - p) 0 [] ⟨k_ _,h_ _,F_⟩ ?_ ?_
 .exact L_
 rintro p B ⟨hp,hAp,hJ⟩;refine S<|U aA<|Y aA<|Y (gQ U_)<|V cH<|Cn ?_ ?_<;>intro j
 .have hlt:p<C l:=by have:=b9 j;rw[hz]at this;omega
  obtain ⟨R,z⟩:∃R,R=l.drop p:=X_;have hRl:C R=C l - p:=F_
  have f:∀c,R[c]?=l[p+c]?:=λc=>by simp_all
  rw[<-z]at hJ;have d:R≠[]:=λe=>by grind
  refine aB<|aD<|Sz aH<|Sr<|Da<|eT (λ(q:Nat×Nat)=>([(0,sv (a_ l)),(4,.osl 905 (C B) 0 (C B)),(5,iv ((p+q.1:Nat):Int)),(6,iv (q.2:Int)),(7,iv (q.1:Int))],[(905,⟨C B,1,9,bP B⟩)])) (λq=>WI R 0 0=q/\q.1<=6/\p+q.1<=C l/\q.2<1000000) ?_ ?_
  .refine aD<|eN (λ(c n:Nat)=>([(0,sv (a_ l)),(4,.osl 905 (C B) 0 (C B)),(5,iv ((p+c:Nat):Int)),(6,iv (n:Int)),(7,iv (c:Int))],[(905,⟨C B,1,9,bP B⟩)])) (λc n=>WI R 0 0=WI (R.drop c) c n/\c<=6/\p+c<=C l/\n<10 ^ c) (λc n=>6 - c) 0 0 ⟨Z,k_ _,X,E_⟩ ?_ ?_
   .exact L_
   rintro c n ⟨hsc,hle6,hcl,hn⟩;have hp6:10 ^ c<=1000000:=Nat.le_trans (Nat.pow_le_pow_right E_ hle6) E_;by_cases t:p+c<C l
   .have ⟨b,hb⟩:=aQ (l:=R) (k:=c) X;have D:=g (p+c) b ((f c).symm.trans hb);have τ:=b.toNat_lt;have P:R.drop c=b::R.drop (c+1):=by
     have h1:=(m9.1 hb).1;rw[List.drop_eq_getElem_cons h1,(m9.1 hb).2]
    rw[P,WI]at hsc;by_cases G:(P4 b&&θ (c<6))=A
    .rw[b6 G]at hsc;rw[l7,P4,l7,l6,l6,l6]at G;have hn2:10*n+(b.toNat - 48)<10 ^ (c+1):=by rw[Nat.pow_succ];omega
     refine S<|U aA<|Y aA<|Y (gQ U_)<|Y (by exact cQ.eqv (iL Z Z Z) (t1 y5))<|Y aA<|O aA<|O aA<|O j5<|O (by exact cQ.eqv (kC Z Z Z) (t1 (by rw[D];omega)))<|Y cE<|Y aA<|O aA<|O aA<|O j5<|O (by exact cQ.eqv (pF Z Z Z) (t1 (by rw[D];omega)))<|Y cE<|Y aA<|O aA<|O (cQ.eqv (iL Z Z Z) (t1 X))<|V cE ?_;refine Cn ?_ ?_<;>intro σ
     .refine aB<|aD<|U aA<|Y (by exact pE Z Z Z (show ξ.wrap (10*(n:Int))=((10*n:Nat):Int)by rw[mI X X];omega))<|Y aA<|Y aA<|Y j5<|Y (by exact dT Z Z Z (show IntKind.u8.wrap (aZ (a_ l) (p+c) - 48)=((b.toNat - 48:Nat):Int)by rw[D,IntKind.wrap_u8];omega))<|Y (eP Z dI underlying3 Z (mI X X))<|Y (by exact dD Z Z Z (show ξ.wrap (((10*n:Nat):Int)+((b.toNat - 48:Nat):Int))=((10*n+(b.toNat - 48):Nat):Int)by rw[mI X X];omega))<|V aH<|U aA<|Y (by exact dD Z Z Z (show ξ.wrap (((p+c:Nat):Int)+1)=((p+(c+1):Nat):Int)by rw[mI X X];omega)) ?_;refine V aH<|Rd aA<|Y kp<|Da ?_;exact⟨c+1,_,⟨hsc,X,X,hn2⟩,X,L_⟩
     cases σ
    rw[a8 G]at hsc;have G:(P4 b&&θ (c<6))=η:=by simpa using G
    have E:∃a:Nat×Nat,(WI R 0 0=a/\a.1<=6/\p+a.1<=C l/\a.2<1000000)/\a=(c,n):=⟨(c,n),⟨hsc,hle6,hcl,X⟩,Z⟩;obtain ⟨_,E,rfl⟩:=E;by_cases w:48<=b.toNat
    .by_cases h57:b.toNat<=57
     .have hc:¬ c<6:=λh=>by rw[P4,À w,À h57,À h]at G;cases G
      refine S<|U aA<|Y aA<|Y (gQ U_)<|Y (by exact cQ.eqv (iL Z Z Z) (t1 y5))<|Y aA<|O aA<|O aA<|O j5<|O (by exact cQ.eqv (kC Z Z Z) (t1 (by rw[D];omega)))<|Y cE<|Y aA<|O aA<|O aA<|O j5<|O (by exact cQ.eqv (pF Z Z Z) (t1 (by rw[D];omega)))<|Y cE<|Y aA<|O aA<|O (cQ.eqv (iL Z Z Z) (K X))<|V cE ?_;refine Cn ?_ ?_<;>intro ρ
      .cases ρ
      refine aP ?_;exact⟨(c,n),E,L_⟩
     refine S<|U aA<|Y aA<|Y (gQ U_)<|Y (by exact cQ.eqv (iL Z Z Z) (t1 y5))<|Y aA<|O aA<|O aA<|O j5<|O (by exact cQ.eqv (kC Z Z Z) (t1 (by rw[D];omega)))<|Y cE<|Y aA<|O aA<|O aA<|O j5<|O (by exact cQ.eqv (pF Z Z Z) (K (by rw[D];omega)))<|Y cE<|Y aA<|M<|M<|V cE ?_;refine Cn ?_ ?_<;>intro κ
     .cases κ
     refine aP ?_;exact⟨(c,n),E,L_⟩
    refine S<|U aA<|Y aA<|Y (gQ U_)<|Y (by exact cQ.eqv (iL Z Z Z) (t1 y5))<|Y aA<|O aA<|O aA<|O j5<|O (by exact cQ.eqv (kC Z Z Z) (K (by rw[D];omega)))<|Y cE<|Y aA<|M<|M<|M<|M<|Y cE<|Y aA<|M<|M<|V cE ?_;refine Cn ?_ ?_<;>intro δ
    .cases δ
    refine aP ?_;exact⟨(c,n),E,L_⟩
   rw[drop_eq_nil_of_le X,WI]at hsc;refine S<|U aA<|Y aA<|Y (gQ U_)<|Y (by exact cQ.eqv (iL Z Z Z) (K y5))<|Y aA<|M<|M<|M<|M<|Y cE<|Y aA<|M<|M<|M<|M<|Y cE<|Y aA<|M<|M<|V cE ?_;refine Cn ?_ ?_<;>intro γ
   .cases γ
   refine aP ?_;exact⟨(c,n),⟨hsc,hle6,hcl,X⟩,L_⟩
  rintro⟨c,n⟩ ⟨hsc,hle6,hcl,hn⟩;have x:PY R=c:=congrArg Prod.fst hsc;have y:qq R=n:=congrArg Prod.snd hsc;have F:SQ R->We l=([],η):=λh=>hvn (by rw[hJ,PX,dif_neg d,b6 h];rfl);rw[SQ,x,y]at F;dsimp only at hle6 hcl hn |-;by_cases c0:c=0
  .rw[F (.inl c0)];refine S<|U aA<|Y (cQ.eqv (oE Z Z Z) (t1 X))<|Y aA<|M<|M<|M<|M<|Y cE<|Y aA<|M<|M<|M<|M<|Y cE<|Y aA<|M<|M<|M<|M<|M<|M<|M<|V cE<|Cn ?_ ?_<;>intro β
   .refine U aH<|V aH<|aC<|gH (H':=[]) (.inr Z) Z (aI Z) (aI Z) (P_ (r:=.tup [.pv (aK []),bv η])) ?_;exact Qq
   cases β
  by_cases t:p+c<C l
  .have ⟨b,hb⟩:=aQ (l:=R) (k:=c) X;have D:=g (p+c) b ((f c).symm.trans hb);by_cases J:b=58
   .have I:aZ (a_ l) (p+c)=58:=by rw[D,J];rfl
    have w63:ξ.wrap ((T (a_ l):Int) - ((p+c:Nat):Int))=((C l - (p+c):Nat):Int):=by rw[hz,mI X X];omega
    have v:ξ.wrap (((C l - (p+c):Nat):Int) - 1)=((C l - (p+c) - 1:Nat):Int):=by rw[mI X X];omega
    have W:ξ.wrap (((p+c:Nat):Int)+1)=((p+c+1:Nat):Int):=by rw[mI X X];omega
    refine S<|U aA<|Y (cQ.eqv (oE Z Z Z) (K X))<|Y aA<|O aA<|O aA<|O (gQ U_)<|O (by exact cQ.eqv (oE Z Z Z) (K y5))<|Y cE<|Y aA<|O aA<|O aA<|O j5<|O (cQ.eqv (LB Z Z Z) (n0 I))<|Y cE<|Y aA<|O aA<|O aA<|O (gQ U_)<|O aA<|O (dT Z Z Z w63)<|O (dT Z Z Z v)<|O jB<|V cE ?_;refine Cn ?_ ?_<;>intro s
    .have hgt:C l - (p+c) - 1<n:=I_ s
     rw[F (.inr (.inr X))];refine U aH<|V aH<|aC<|gH (H':=[]) (.inr Z) Z (aI Z) (aI Z) (P_ (r:=.tup [.pv (aK []),bv η])) ?_;exact Qq
    have hle:n<=C l - (p+c) - 1:=J_ s
    have hok:¬ SQ R:=by rw[SQ,x,y,hb,J];exact λh=>h.elim c0 λh=>h.elim (λh=>h Z) λh=>by omega
    have L:(a_ l).extract (p+c+1) (p+c+1+n)=a_ ((R.drop (c+1)).take n):=mC (by rw[fW,cG,cG,z,Ô,show p+c+1+n - (p+c+1)=n by omega,show p+(c+1)=p+c+1 by omega]);have P:l.drop (p+c+1+n)=R.drop (c+1+n):=by rw[z,Ô,show p+(c+1+n)=p+c+1+n by omega]
    have Q:C (B++[a_ ((R.drop (c+1)).take n)])=C B+1:=by rw[j7];rfl
    have u:PX l=(PX (l.drop (p+c+1+n))).map ((B++[a_ ((R.drop (c+1)).take n)])++·):=by
     rw[hJ,PX,dif_neg d,a8 hok,x,y,P];cases PX (R.drop (c+1+n))<;>simp
    generalize a_ ((R.drop (c+1)).take n)=A_ at L Q u;refine aB<|U aA<|Y aA<|Y aA<|Y (ka W)<|Y aA<|Y (ka W)<|Y aA<|Y (by exact dD Z Z Z (show IntKind.i64.wrap (((p+c+1:Nat):Int)+(n:Int))=((p+c+1+n:Nat):Int)by rw[mI X X];omega))<|Y (by exact bM (l:=p+c+1) (h:=p+c+1+n) Z U_ Z Z Z X y5 L)<|Y (by exact aM [[.str A_]] Z aY Z Z Z Z Z R_)<|Y (by exact bU (ps:=[[.str A_]]) Z aY sX Z Z Z Z Z (dB _) Z R_ (m:=1) Z X Z (gP B A_))<|V aH<|Rd aA<|Y (ka W)<|Y aA<|Y (by exact dD Z Z Z (show IntKind.i64.wrap (((p+c+1:Nat):Int)+(n:Int))=((p+c+1+n:Nat):Int)by rw[mI X X];omega)) ?_;refine Da ?_;refine⟨p+c+1+n,B++[A_],⟨X,by rw[Q];omega,u⟩,X,?_⟩;rw[Q];exact(cJ.wk (Eb<|Ea<|Eb<|T_) (Hc (aL _ _)<|T_) T_)
   have I:¬ aZ (a_ l) (p+c)=58:=λe=>J (by
    rw[D]at e;exact UInt8.toNat_inj.1 (by show b.toNat=58;omega))
   rw[F (.inr (.inl (by rw[hb];exact λe=>J (Option.some.inj e))))];refine S<|U aA<|Y (cQ.eqv (oE Z Z Z) (K X))<|Y aA<|O aA<|O aA<|O (gQ U_)<|O (by exact cQ.eqv (oE Z Z Z) (K y5))<|Y cE<|Y aA<|O aA<|O aA<|O j5<|O (cQ.eqv (LB Z Z Z) (n1 I))<|Y cE<|Y aA<|M<|M<|M<|M<|M<|M<|M<|V cE ?_;refine Cn ?_ ?_<;>intro hc9
   .refine U aH<|V aH<|aC<|gH (H':=[]) (.inr Z) Z (aI Z) (aI Z) (P_ (r:=.tup [.pv (aK []),bv η])) ?_;exact Qq
   cases hc9
  rw[F (.inr (.inl (by rw[getElem?_eq_none X];exact λe=>by cases e)))];refine S<|U aA<|Y (cQ.eqv (oE Z Z Z) (K X))<|Y aA<|O aA<|O aA<|O (gQ U_)<|O (by exact cQ.eqv (oE Z Z Z) (t1 y5))<|Y cE<|Y aA<|M<|M<|M<|M<|Y cE<|Y aA<|M<|M<|M<|M<|M<|M<|M<|V cE ?_;refine Cn ?_ ?_<;>intro o
  .refine U aH<|V aH<|aC<|gH (H':=[]) (.inr Z) Z (aI Z) (aI Z) (P_ (r:=.tup [.pv (aK []),bv η])) ?_;exact Qq
  cases o
 have hge:p=C l:=by have:=b_ j;rw[hz]at this;omega
 have E:We l=(B,A):=hvs B (by rw[hJ,hge,á,PX,dif_pos rfl];simp);rw[E];refine aP<|U aA<|Y aH<|V aH<|aC ?_;refine gH (H':=[]) (.inr Z) Z (aI Z) (aI Z) (Fin.st2J B (bv A) Z Z Z Z H_) ?_;exact Qq
theorem ns:∀ {l:List UInt8},(58:UInt8)∈l->l=CW l++58::EO l
 | [],h=>by cases h
 | b::l,h=>by
  by_cases e:b=58
  .subst e;simp[CW,EO]
  have E:(58:UInt8)∈l:=by
   rcases l9.1 h with h|h
   .exact absurd h.symm e
   exact h
  have F:=ns E;have B:CW (b::l)=b::CW l:=by simp[CW,e]
  have D:EO (b::l)=EO l:=by simp[EO,e]
  rw[B,D,Ò,<-F]
def CQ(l:List UInt8):Prop:=PY l=0\/l[PY l]?≠N 58\/decDigits (qq l)≠l.take (PY l)\/C l - PY l - 1<qq l
theorem kh(h:n<1000000):eS (a_ (decDigits n))=(n:Int):=by rw[<-CG,HA X X]
theorem LO(h:0<=eS (a_ l)):l=decDigits (eS (a_ l)).toNat/\C l<=6:=by
 have ⟨v,B⟩:∃v,v=eS (a_ l):=X_;rw[<-B]at h |-;rw[eS]at B
 split at B
 .next hc =>
  have ⟨G,H,D,E⟩:=hc;rw[cB]at D;have ⟨k,F⟩:∃k:Nat,jM (a_ l)=(k:Int):=⟨(jM (a_ l)).toNat,X⟩;rw[F]at B E;rw[B,l_];have:=congrArg (λs:B_=>ν (μ s)) E;simp only[N9,cG]at this;exact⟨this.symm,D⟩
 omega
theorem aCv(h:¬ CQ l)(a:PY l<=6):sA l=η/\ab l=qq l/\CW l=l.take (PY l)/\EO l=l.drop (PY l+1):=by
 simp only[CQ,not_or,Decidable.not_not]at h;have ⟨R,E,F,W⟩:=h;have D:=(m9.1 E).1;have L:l=l.take (PY l)++58::l.drop (PY l+1):=by
  have J:l.drop (PY l)=58::l.drop (PY l+1):=by
   rw[Í D];rw[m_ D]at E;rw[Option.some.inj E]
  rw[<-J,Ñ]
 have G:(58:UInt8)∉l.take (PY l):=by rw[<-F];exact U7 _
 have B:=nt (r:=l.drop (PY l+1)) G;rw[<-L]at B;have H:C (decDigits (qq l))=PY l:=by rw[F,n_];omega
 have Q:qq l<1000000:=by
  by_cases K:qq l<1000000
  .exact K
  have:=JW (v:=qq l) (k:=6) X;omega
 have I:eS (a_ (CW l))=(qq l:Int):=by rw[B.1,<-F,kh Q]
 have P:(58:UInt8)∈l:=m7 E;refine⟨?_,by rw[ab,I,l_],B.1,B.2⟩;rw[sA,I,B.2,À P,Á X,Á v6];rfl
theorem aDT(h:CQ l):sA l=A:=by
 cases e:sA l with
 |true=>rfl
 | false =>
  exfalso;simp only[sA,q_,Bool.not_eq_false',q7,l6]at e;have ⟨⟨H,c⟩,I⟩:=e;have ⟨D,W⟩:=LO (l:=CW l) X;have ⟨v,R⟩:∃v,v=(eS (a_ (CW l))).toNat:=X_;rw[<-R]at D;have B:=ns H;have F:WI l 0 0=(C (CW l),v):=by
   conv=>lhs;rw[B]
   rw[ar (CW l) (EO l) 0 0 v (by rw[D];exact jW v) X,r8]
  have G:PY l=C (CW l):=congrArg Prod.fst F;have J:qq l=v:=congrArg Prod.snd F;have ⟨a,K⟩:∃a,a=CW l:=X_;have ⟨b,L⟩:∃b,b=EO l:=X_;rw[<-K]at B D G F;rw[<-L]at B I;have Q:l.take (C a)=a:=by rw[B];exact Ý
  have E:l[C a]?=N 58:=by rw[B,getElem?_append_right (h_ _),Nat.sub_self];rfl
  have P:C l=C a+(1+C b):=by
   have:=congrArg List.length B;rw[j7,j6]at this;omega
  rw[CQ,G,J,E,Q]at h;rcases h with h|h|h|h
  .have:=oI v;rw[<-D]at this;exact this (length_eq_zero_iff.1 h)
  .exact h Z
  .exact h D.symm
  omega
theorem T4(h:¬ 0<=eS s):eS s = -1:=by have:=(G9 s).1;omega
theorem Fg(h:6<C l):eS (a_ l) = -1:=T4 λB=>by have:=(LO B).2;omega
theorem tp{b:UInt8}(B:b∈l)(h:¬ (48<=b.toNat/\b.toNat<=57)):eS (a_ l) = -1:=T4 λD=>by
 rw[(LO D).1]at B;exact h (qF _ B)
theorem Pc(D:C l<=6)(h:decDigits n=l):eS (a_ l)=(n:Int):=by
 subst h;refine kh ?_;by_cases B:n<1000000
 .exact B
 have:=JW (v:=n) (k:=6) X;omega
theorem Yk(B:decFrom 0 l=N n)(h:decDigits n≠l):eS (a_ l) = -1:=T4 λD=>by
 have ⟨e,_⟩:=LO D;rw[e,jW]at B;exact h (by rw[<-Option.some.inj B];exact e.symm)
theorem YY(l:List B_)(H:aF)(P:C (aO l)<35184372088832):RC 78 [.pv (aK l)] (sv (a_ (aO l))) H:=by
 refine Pu ?_;have J:C (l.map S_)=C l:=g_ _;have I:=AT l;refine Bd func78 Z ntmps78<|Sz aH<|Sz (kl 2001 IR)<|S<|S ?_;refine gK.ent (E':=[(0,.pv (aK l)),(3,.ref 2001 0 0 0)]) (H':=zN 0 [] η) (cJ.bld0 ⟨⟨_,Z,.same H_⟩,⟨_,Z,.same u3⟩,T_⟩) ?_;refine Rd aA<|Y (fP aE)<|V aA<|aD<|CT (λ(k g:Nat) (u:Bool)=>([(3,.ref 2001 0 0 0),(6,.pv (aK l)),(7,iv (C (l.map S_):Int)),(8,iv (k:Int))],zN g (aO (l.take k)) u)) (λk g u=>k<=C l) (λk g u=>C l - k) 0 0 η (k_ _) ?_ ?_
 .exact(cJ.wk (Ea<|Eb<|Eb<|Eb<|T_) (Hc (gT Z Z)<|Hc (eV _ _)<|T_) T_)
 intro k g u L;have G:=vF l k;refine Sz cH<|S<|Cn ?_ ?_<;>intro B
 .have hlt:k<C l:=by have:=b9 B;omega
  have ⟨s,F⟩:=aQ hlt;have hi:=cA (f:=S_) F;have D:=vF l (k+1);rw[eA F,qL,j7,pW,nY]at D;have K:T s<35184372088832:=X
  refine aB<|S<|aD<|U (jA aY)<|Y (fK N_ (hi:=hi))<|V aH<|Rd aA<|Y (gQ U_)<|Y (kc mE (qM (T s:Int) X X _))<|Y (by exact fL Z Z Z (by have:T (⟨#[58]⟩:B_)=1:=rfl;omega) Z)<|Y aA<|Y (by exact fL Z Z Z (by rw[ByteArray.size_append];have:T (⟨#[58]⟩:B_)=1:=rfl;omega) Z)<|V (kc nS (jN g (aO (l.take k)) u (qW s) (by rw[nY];omega)))<|Rd iF<|V aA ?_;refine⟨k+1,g+1,A,X,X,?_⟩;rw[eA F,qL];exact(cJ.wk (Ea<|Eb<|Eb<|Eb<|T_) (Hc (gT Z Z)<|Hc (eV _ _)<|T_) T_)
 have E:k=C l:=by have:=b_ B;omega
 subst E;rw[É];exact aP<|U (kc nR (SG g (aO l) u X))<|V aH<|aC<|Rt<|Qq
def nbW(s:B_):Bool:=((uT s||θ (jM s<0))||θ ((6:Int)<(T s:Int)))||!θ (aV (jM s)=s)
theorem Yl(s:B_):eS s=if nbW s=A then -1 else jM s:=by rw[eS,nbW];cases F:uT s<;>by_cases B:jM s<0<;>by_cases D:(6:Int)<(T s:Int)<;>by_cases E:aV (jM s)=s<;>simp[B,D,E]<;>omega
theorem tq(s:B_)(H:aF)(Q:T s<2^40):RC 89 [sv s] (iv (eS s)) H:=by
 refine Pu ?_;have D:=λH=>eu s Q H;have E:=ZT s;have F:=λH=>qM (jM s) E.1 E.2 H;have K:=Yl s;have B:nbW s=(((uT s||θ (jM s<0))||θ ((6:Int)<(T s:Int)))||!θ (aV (jM s)=s)):=rfl;rw[K];clear K;generalize jM s=v at D B E F |-;generalize uT s=e at D B;have ⟨w,L⟩:∃y,y=aV v:=X_;rw[<-L]at F B;clear L;refine Bd func89 Z ntmps89<|Sz aH<|U aA<|Y (kc wS (D _))<|Y aA<|Y dK<|Y dK<|Y aH<|V aH<|S<|S<|aT (t:=26) (n:=20) (A_:=nbW s) ?_ ?_
 .all_goals refine Y aA<|Y (TU Z oK Z)<|Dm ?_<;>(refine Sp 12 (λG=>?_) λG=>?_)<;>(try exact w_)<;>(first|refine M<|M ?_|refine O aA<|O cH ?_)<;>refine Y cE<|Dm ?_<;>(refine Sp 16 (λJ=>?_) λJ=>?_)<;>(try exact w_)<;>(first|refine M<|M<|M ?_|refine O aA<|O (gQ U_)<|O jB ?_)<;>refine Y cE<|Dm ?_<;>(refine Sp 21 (λP=>?_) λP=>?_)<;>(try exact w_)<;>(first|refine M<|M<|M<|M ?_|refine O aA<|O (kc mE (F _))<|O aA<|O FD ?_)<;>refine V cE ?_<;>exact Gj (h:=by rw[B];first|(rw[G];rfl)|(rw[G,J];rfl)|(rw[G,J,P];rfl))
 refine Cn ?_ ?_<;>intro I
 .rw[b6 (show nbW s=A from I)];exact Sz aH<|aC<|Rt<|Qq
 rw[a8 (show ¬ nbW s=A by rw[show nbW s=η from I];decide)];exact aB<|U aA<|V aH<|aC<|Rt<|Qq
theorem Rs(h:l≠[]):C (EO l)<C l:=by rw[EO,q6];have:=(Õ (l:=l) λb=>!θ (b=58)).length_le;have:=length_pos_iff.2 h;omega
theorem QJ:rM []=N []:=by rw[rM,dif_pos rfl]
theorem ae(B:l≠[])(D:sA l=A):rM l=ζ:=by rw[rM,dif_neg B,b6 D]
theorem SK(B:l≠[])(D:sA l=η):rM l=(rM ((EO l).drop (ab l))).map (a_ ((EO l).take (ab l))::·):=by conv=>lhs;rw[rM,dif_neg B,a8 (by rw[D];decide)]
theorem gy(t:List UInt8)(H:aF)(ht:C t<1000000000):RC 87 [sv (a_ t)] (.tup [.pv (aK ((rM t).getD [])),bv (rM t).isSome]) H:=by
 refine Pu<|Bd func87 Z ntmps87<|U aH<|V aH<|Sz (dM (id:=905) (sz:=1) (ty:=9) Z Z Z)<|S<|aD<|eN (λ(l:List UInt8) (E:List B_)=>([(0,sv (a_ l)),(4,.osl 905 (C E) 0 (C E))],[(905,⟨C E,1,9,bP E⟩)])) (λl E=>C l+C E<=C t/\rM t=(rM l).map (E++·)) (λl E=>C l) t [] ⟨h_ _,by cases rM t<;>rfl⟩ ?_ ?_
 .exact L_
 rintro l E ⟨hl,hR⟩;have d:T (a_ l)=C l:=cB l;have c:=Rr l;have D:=λH=>Rm (a_ l) H X;rw[Bl]at D;have I:=λH=>tq (a_ (CW l)) H (by rw[cB];omega);have f:T (a_ (EO l))=C (EO l):=cB _;have B:sA l=((!θ ((58:UInt8)∈l)||θ (eS (a_ (CW l))<0))||θ ((C (EO l):Int)<eS (a_ (CW l)))):=rfl;have R:ab l=(eS (a_ (CW l))).toNat:=rfl;have b:=λ(F:l≠[]) G=>ae F G;have Q:=λ(F:l≠[]) G=>SK F G;have L:=λF=>Rs (l:=l) F;generalize a_ (CW l)=x at D I B R;have ⟨v,p⟩:∃v,v=eS x:=X_;have ⟨o,i⟩:∃o,o=θ ((58:UInt8)∈l):=X_;have ⟨r,j⟩:∃r,r=EO l:=X_;simp only[<-p,<-i,<-j]at D I B R f c L Q;clear p i j;refine S<|U aA<|Y (gQ U_)<|V jB<|Cn ?_ ?_<;>intro J
 .have F:l≠[]:=λe=>by have h:=b9 J;rw[d,e]at h;exact absurd h E_
  refine aB<|aD<|U aA<|Y (kc call137 (D _))<|Y aA<|Y dK<|Y dK<|Y dK<|Y aH<|Y aH<|V aH<|U aA<|Y (kc call89 (I _))<|V aH<|S<|S<|aT (t:=31) (n:=14) (A_:=sA l) ?_ ?_
  .all_goals refine Y aA<|Y iJ<|Dm ?_<;>(refine Sp 22 (λW=>?_) λW=>?_)<;>(try exact w_)<;>(first|refine M<|M ?_|refine O aA<|O cH ?_)<;>refine Y cE<|Dm ?_<;>(refine Sp 26 (λq=>?_) λq=>?_)<;>(try exact w_)<;>(first|refine M<|M<|M<|M ?_|refine O aA<|O aA<|O (gQ U_)<|O jB ?_)<;>refine V cE ?_<;>exact Gj (h:=by rw[B];first|(rw[W];rfl)|(rw[W,q];rfl))
  refine Cn ?_ ?_<;>intro K
  .have G:sA l=A:=K;rw[hR,b F G];refine U aH<|V aH<|aC<|gH (H':=[]) (.inr Z) Z (aI Z) (aI Z) (P_ (r:=.tup [.pv (aK []),bv η])) ?_;exact Qq
  have G:sA l=η:=K;have k:=Q F G;have g:=L F;have a:=B.symm.trans G;simp only[q_,q7]at a;obtain ⟨u,rfl⟩:∃u:Nat,v=(u:Int):=⟨v.toNat,X⟩;rw[l_]at R;rw[R]at k;have w:u<=C r:=X
  have x1:(a_ r).extract 0 u=a_ (r.take u):=mC (by rw[fW,cG,cG,Ê,Nat.sub_zero]);have y:(a_ r).extract u (T (a_ r))=a_ (r.drop u):=mC (by rw[sW,cG,cG]);have P:C (E++[a_ (r.take u)])=C E+1:=by rw[j7];rfl
  refine aB<|aN a7<|Cr [905] (λ_ _=>aA)<|x_ aA<|x_ aA<|x_ (by exact bM (l:=0) (h:=u) Z U_ Z Z Z (k_ _) X x1)<|x_ (by exact aM [[.str (a_ (r.take u))]] Z aY Z Z Z Z Z R_)<|Cp [905] (λH1 s=>by exact bU (ps:=[[.str (a_ (r.take u))]]) Z aY sX Z ((s _ Z).trans Z) Z Z Z (dB _) Z R_ (m:=1) Z X Z (gP _ (a_ (r.take u))))<|x_ aA<|x_ aA<|x_ (by exact bM (l:=u) (h:=T (a_ r)) Z U_ Z Z Z X (h_ _) y)<|Cr [905] (λ_ _=>aH)<|x_ aH<|bF<|Kr ?_;refine⟨r.drop u,E++[a_ (r.take u)],⟨by rw[q6,P];omega,?_⟩,by rw[q6];omega,?_⟩
  .rw[hR,k];cases rM (r.drop u)with
   |none=>rfl
   |some z=>simp
  dsimp only;rw[P];exact L_
 have F:l=[]:=length_eq_zero_iff.1 (J_ J);rw[hR,F,QJ];refine aP<|U aA<|Y aH<|V aH<|aC ?_;refine gH (H':=[]) (.inr Z) Z (aI Z) (aI Z) (Fin.st2J (E++[]) (bv A) Z Z (by rw[Ë]) (by rw[Ë]) H_) ?_;exact Qq
theorem Qg(s:B_)(H:aF):RC 193 [sv s] (bv η) H:=by refine Pu ?_;refine Bd func193 Z ntmps193<|Sz aH<|U aA<|Y aA<|Y FD<|V aH<|aC<|Rt ?_;exact⟨H_,Z⟩
theorem OP(l:List B_)(s:B_)(H:aF)(p:C l<2^40)(R:zZ l):RC 135 [.pv (aK l),sv s] (.tup [iv (EM id l s:Nat),bv (mf id l s)]) H:=by
 refine Pu ?_;have a:C (l.map S_)=C l:=g_ _;refine Bd func135 Z ntmps135<|U aH<|V aH<|U aA<|Y (fP mR)<|V aH<|U aA<|Y aH<|V aH<|S<|aD<|eN (λ(i j:Nat)=>([(0,.pv (aK l)),(1,sv s),(6,iv (C (l.map S_):Int)),(7,iv (i:Int)),(8,iv (j:Int))],[])) (λi j=>i<=j/\j<=C l/\(∀k,k<i->∀o,l[k]?=N o->jZ (id o) s=A)/\∀k,j<=k->∀o,l[k]?=N o->jZ (id o) s=η) (λi j=>j - i) 0 (C l) ⟨X,X,X,λk E o B=>?_⟩ ?_ ?_
 .have:=(m9.1 B).1;omega
 .rw[<-a];exact E0
 rintro i j ⟨hij,hj,hlo,hhi⟩;refine S<|U aA<|Y aA<|V cH<|Cn ?_ ?_<;>intro J
 .have G:i<j:=I_ J
  have ⟨g,n⟩:=aAA G;have ⟨m,d⟩:∃m,m=(i+j) / 2:=X_;rw[<-d]at g n;have ⟨o,B⟩:=aQ (l:=l) (k:=m) X;have hi:=cA (f:=S_) B;have b:IntKind.u64.wrap ((i:Int)+(j:Int))=((i+j:Nat):Int):=by rw[IntKind.wrap_u64];omega
  have c:IntKind.i64.wrap (((i+j:Nat):Int) / 2)=(m:Int):=by rw[IntKind.wrap_i64];omega
  refine aB<|aD<|U aA<|Y aA<|Y iF<|Y (eP Z underlying3 lP Z b)<|Y (by exact G5 Z Z Z X (by simp[IntKind.bits];try omega) Z)<|Y (eP Z lP underlying3 Z c)<|V aH<|U aA<|Y aA<|Y (jA SR)<|Y (fK N_ (hi:=hi))<|Y aA<|V (kc call186 (zy _ _ _)) ?_;refine Cn ?_ ?_<;>intro K
  .have P:jZ o s=A:=K;refine Rd aA<|Y iF<|Da ?_;refine⟨m+1,j,⟨X,X,λk E x I=>?_,hhi⟩,X,E0⟩;by_cases e:k=m
   .subst e;rw[B]at I;cases I;exact P
   exact sE (RU (f:=id) R X I B) P
  have P:jZ o s=η:=K;refine Rd aA<|Da ?_;refine⟨i,m,⟨X,X,hlo,λk E x I=>?_⟩,X,E0⟩;by_cases e:k=m
  .subst e;rw[B]at I;cases I;exact P
  cases h:jZ (id x) s with
  |false=>rfl
  |true =>
   have:=sE (RU (f:=id) R X B I) h;rw[show jZ (id o) s=jZ o s from Z,P]at this;cases this
 have W:i=j:=J_ J
 subst W;have L:EM id l s=i:=Pt hj hlo (λo B=>hhi i (h_ _) o B);by_cases G:i<C l
 .have ⟨o,B⟩:=aQ G;have hi:=cA (f:=S_) B;have D:θ ((i:Int)<(C (l.map S_):Int))=A:=À X;have E:=Ar R hlo B (hhi i (h_ _) o B);have E:mf id l s=θ (o=s):=E;rw[L,E];by_cases Q:o=s
  .rw[À Q];have F:AV.pv (.bool (θ (o=s)))=bv A:=by rw[À Q]
   refine aP<|U aA<|Y aA<|Y aA<|Y (cQ.eqv (iL Z Z Z) (by rw[D]))<|Y aA<|O aA<|O aA<|O (jA SR)<|O (fK N_ (hi:=hi))<|O aA<|O (cQ.eqv (yV Z Z Z) F)<|O aA<|M<|M<|M<|M<|M<|M<|rS Z Z Z rfl<|rS Z Z Z Z ?_;exact M<|O cE<|Y cE<|Y aH<|V aH<|aC<|Ru<|Qq
  rw[Á Q];have F:AV.pv (.bool (θ (o=s)))=bv η:=by rw[Á Q]
  exact aP<|U aA<|Y aA<|Y aA<|Y (cQ.eqv (iL Z Z Z) (by rw[D]))<|Y aA<|O aA<|O aA<|O (jA SR)<|O (fK N_ (hi:=hi))<|O aA<|O (cQ.eqv (yV Z Z Z) F)<|O aA<|O aA<|O aA<|O (jA SR)<|O (fK N_ (hi:=hi))<|O (kc call193 (Qg _ _))<|O aA<|M<|M<|O cE<|O cE<|Y cE<|Y aH<|V aH<|aC<|Ru<|Qq
 have D:AV.pv (.bool (θ ((i:Int)<(C (l.map S_):Int))))=bv η:=by rw[Á X]
 have E:=Ga (λk E o B=>hlo k X o B);rw[L,E];refine aP<|U aA<|Y aA<|Y aA<|Y (cQ.eqv (iL Z Z Z) D)<|Y aA<|M<|M<|M<|M<|M<|M<|M<|rS Z Z Z rfl<|rS Z Z Z rfl<|rS Z Z Z rfl<|rS Z Z Z rfl<|rS Z Z Z rfl<|rS Z Z Z rfl<|rS Z Z Z rfl<|rS Z Z Z rfl<|rS Z Z Z Z ?_;exact M<|Y cE<|Y aH<|V aH<|aC<|Ru<|Qq
theorem Aq(l:List B_)(s:B_):mf id l s=θ (s∈l):=by
 rw[mf,Bool.eq_iff_iff,any_eq_true,l6];constructor
 .rintro⟨x,hx,he⟩;exact b9 he▸hx
 exact λh=>⟨s,h,À Z⟩
theorem Qr(l:List B_)(s:B_)(H:aF)(D:C l<2^40)(B:zZ l):RC 92 [.pv (aK l),sv s] (bv (θ (s∈l))) H:=by refine Pu ?_;rw[<-Aq];exact Bd func92 Z ntmps92<|Sz aH<|U aA<|Y aA<|Y (kc call135 (OP l s _ D B))<|Y aA<|Y dK<|Y dK<|Y aH<|V aH<|U aA<|V aH<|aC<|Rt<|Qq
theorem Pv{l:List B_}(p q:B_):EM id l p<=EM id l (p++q):=by
 rw[EM,EM]
 induction l with
 |nil=>exact h_ _
 | cons x l ih =>
  rw[Î,Î];cases h:jZ (id x) p with
  |true =>
   rw[xz (id x) p q h];exact succ_le_succ ih
  |false=>exact k_ _
theorem gn(l:List B_)(p:B_)(H:aF)(E:C l<2^40)(B:zZ l)(G:∀x∈l,m6 x=A)(R:T p<2^40):RC 80 [.pv (aK l),sv p] (.pv (aK (eF l p))) H:=by
 refine Pu ?_;have P:=uc id l p;have Q:=uc id l (p++sG);have F:=Pv (l:=l) p sG;have J:C (l.map S_)=C l:=g_ _;have K:=Jz l p B G;have L:((l.map S_).take (EM id l (p++sG))).drop (EM id l p)=(eF l p).map S_:=by rw[<-K,map_drop,map_take]
 have I:=λH=>OP l p H E B;have D:=λH=>OP l (p++sG) H E B;generalize EM id l p=a at *;generalize EM id l (p++sG)=b at *;exact Bd func80 Z ntmps80<|Sz aH<|U aA<|Y aA<|Y (kc call135 (I _))<|Y aA<|Y dK<|Y dK<|Y aH<|V aH<|U aA<|Y aA<|Y (by exact fL Z Z Z (by show T p+1<=9223372036854775807;omega) (r:=p++sG) Z)<|Y (kc call135 (D _))<|Y aA<|Y dK<|Y dK<|Y aH<|V aH<|U aA<|Y aA<|Y aA<|Y (eZ (l:=a) (h:=b) Z SR Z (dV l) Z Z F X L)<|V aH<|aC<|Rt<|Qq
def dH(p:j0):List PV:=[.str p.pre,.str p.sum,.int .i64 (p.cnt:Int),aK p.ids]
def DB(P:List j0):PV:=.sl (P.map dH)
theorem KL(p:j0)(H:aF):RC 82 [av (dH p)] (bv (θ ((p.cnt:Int)<=16))) H:=by refine aU.pure ?_ (by simp[dH]) H;exact Bd func82 Z ntmps82<|U (kb 1)<|V aH<|U (bC F4)<|Y (bT M_)<|Y HV<|V aH<|aC<|Rt<|Qq
theorem uf(B:∀x∈A_,m6 x=A):C (aO A_)<=19*C A_:=vE A_ λs D=>Nat.le_of_eq (fR (B s D))
theorem m4{p:Prop}(h:p:=by exact aW Z iR eD Z Z Z Z (by simp only[Zl,S_,dH];rfl) Z):p:=h
theorem r4{p:Prop}(h:p:=by simp only[Zl,S_,dH];rfl):p:=h
theorem jm(l:List B_)(p:B_)(H:aF)(J:IdS l)(b:T p<2^40):RC 35 [.pv (aK l),sv p] (av (dH (dA l p))) H:=by
 refine Pu ?_;have a:=J.len;have I:=λH=>gn l p H X J.srt J.dig b;have P:C (eF l p)<=C l:=Ö _ _;have K:=uf (A_:=eF l p) λx c=>J.dig x (mM.1 c).1;have G:=λH=>di (eF l p) H X;have D:C (eF l p)<=16->dA l p=⟨p,C (eF l p),wL (eF l p),eF l p⟩:=λh=>by rw[dA,b6 h]
 have E:¬ C (eF l p)<=16->dA l p=⟨p,C (eF l p),wL (eF l p),[]⟩:=λh=>by rw[dA,a8 h]
 generalize eF l p=R at I G D E P;generalize dA l p=Q at D E |-;clear K;have L:C (R.map S_)=C R:=g_ _;have W:=λH=>KL ⟨p,C R,wL R,[]⟩ H;refine Bd func35 Z ntmps35<|Sz (kl 4 Jc)<|U aA<|Y aA<|Y (kc call80 (I _))<|V aH<|U aA<|Y aA<|Y (kc call81 (G _))<|Y aA<|Y (cQ.eqv (lK Z mR Z) (show iv (C (R.map S_):Int)=iv (C R:Int)by rw[L]))<|Y (oU aF1)<|Y (kl 6 Jc)<|Uu (jH eD)<|Zz<|S<|U m4<|V (kc call82 (W _)) ?_;refine Cn ?_ ?_<;>intro F
 .have B:C R<=16:=by have:=b9 F;simp only at this;omega
  rw[D B];refine Rd aA<|Y (bC F3)<|Uu (ku sizeOf68)<|Zz<|U m4<|Uu (jH eD)<|Zz<|aC ?_;refine cR (H':=[]) (.inr Z) Z (fJ Z iR eD Z Z Z r4 Z) (P_ (r:=av (dH ⟨p,C R,wL R,R⟩))) ?_;exact Qq
 have B:¬ C R<=16:=by have:=b_ F;simp only at this;omega
 rw[E B];refine aB<|U m4<|Uu (jH eD)<|Zz<|aC ?_;refine cR (H':=[]) (.inr Z) Z (fJ Z iR eD Z Z Z r4 Z) (P_ (r:=av (dH ⟨p,C R,wL R,[]⟩))) ?_;exact Qq
theorem OJ(p:j0)(H:aF)(G:p.cnt<2^40)(I:C p.ids<2^40):RC 36 [av (dH p)] (.pv (aK (fB p))) H:=by
 refine aU.pure ?_ (by simp[dH]) H;have E:C (p.ids.map S_)=C p.ids:=g_ _;have D:3+C p.ids=C (fB p):=by rw[fB,j7];rfl
 refine Bd func36 Z ntmps36<|U (kb 1)<|V aH<|S<|aN a7<|Cr [1] (λ_ h=>fh OG h)<|Cr [1] (λ_ h=>lh N_ h)<|Cr [1] (λ_ h=>fh F4 h)<|Cr [1] (λ_ h=>lh M_ h)<|x_ (by exact bH Z Z mE Z (qM (p.cnt:Int) X X _))<|Cr [1] (λ_ h=>fh U0 h)<|Cr [1] (λ_ h=>lh N_ h)<|Cp [905] (λH1 B=>by exact eR (id:=905) Z aY Z Z Z Z (by intro r F;simp only[l9,q8,or_false]at F;rcases F with rfl|rfl|rfl<;>rfl) ((B _ Z).trans Z))<|Cr [1] (λ_ h=>fh F3 h)<|Cr [1] (λ_ h=>lh kM h)<|Cp [905] (λH1 B=>by exact XE (ob:=⟨0,1,9,bP [p.pre,aV (p.cnt:Int),p.sum]⟩) (k:=C (fB p)) Z mR aY sX Z ((B _ Z).trans Z) Z Z Z Z Z (dV _) E X D (eO _ _)) ?_;refine Cr [905] (λ_ _=>aH)<|bF<|Kr<|aC ?_;refine cR (H':=[]) (.inr Z) Z (aI Z) (Fin.fz (id:=905) (ob:=⟨1,1,9,bP (fB p)⟩) ((fB p).map S_) Z (cX _) (.osl (fV S_ _)) Z T_ T_) ?_;exact Qq
theorem DT:∀(L:List B_),(∀s∈L,T s<=1000000)->C (aO L)<=1000022*C L
 | [],_=>h_ _
 |x::L,h=>by
  have D:=h x Â;have E:=DT L λs B=>h s (Ã _ B);have F:C (decDigits (T x))<=7:=cY (k:=7) X E_;rw[hU,j7,j6,j7,aS,j6];omega
theorem qP(L:List (List B_)):∀r∈L.map r6,C r=1:=λr B=>by
 obtain ⟨t,_,rfl⟩:=mem_map.1 B;rfl
theorem zm(L:List (List B_))(H:aF)(I:C L<2^40)(J:C L.flatten<549755813888)(G:C (aO (fC::aV (C L:Int)::L.flatten))<35184372088832):
  RC 34 [.pv (tQ L)] (sv (kP L)) H:=by
 refine Pu ?_;have E:C (L.map r6)=C L:=g_ _;have D:=λH=>lH L H I X;have F:([[fC,aV (C L:Int)],L.flatten]:List (List B_)).flatten=fC::aV (C L:Int)::L.flatten:=H_
 have B:=λH=>lH [[fC,aV (C L:Int)],L.flatten] H (by decide:2<2^40) (by rw[F,j6,j6];omega);rw[F]at B;exact Bd func34 Z ntmps34<|Sz aH<|U aA<|Y (cQ.eqv (lK Z uL Z) (show iv (C (L.map r6):Int)=iv (C L:Int)by rw[E]))<|Y (kc mE (qM (C L:Int) X X _))<|Y (aM ([fC,aV (C L:Int)].map S_) Z aY Z Z Z Z Z (dV _))<|Y aA<|Y (kc call47 (D _))<|Y (aM ([[fC,aV (C L:Int)],L.flatten].map r6) Z HQ Z Z Z Z Z (qP _))<|Y (kc call47 (B _))<|Y (kc call78 (YY _ _ G))<|V aH<|aC<|Rt<|Qq
theorem aB3(L:List (List B_))(H:aF)(G:C L<2^40)(I:C L.flatten<549755813888)(F:C (aO (pX::L.flatten))<35184372088832):
  RC 49 [.pv (tQ L)] (sv (iS L)) H:=by
 refine Pu ?_;have D:=λH=>lH L H G X;have E:([[pX],L.flatten]:List (List B_)).flatten=pX::L.flatten:=H_
 have B:=λH=>lH [[pX],L.flatten] H (by decide:2<2^40) (by rw[E,j6];omega);rw[E]at B;exact Bd func49 Z ntmps49<|Sz aH<|U (aM ([pX].map S_) Z aY Z Z Z Z Z (dV _))<|Y aA<|Y (kc call47 (D _))<|Y (aM ([[pX],L.flatten].map r6) Z HQ Z Z Z Z Z (qP _))<|Y (kc call47 (B _))<|Y (kc call78 (YY _ _ F))<|V aH<|aC<|Rt<|Qq
theorem og(p x:B_):mO p x=(θ ((T p:Int)<=(T x:Int))&&θ (x.extract 0 (T p)=p)):=by
 rw[Bool.eq_iff_iff,wN,l7,l6,l6];constructor
 .intro h;have D:=h.length_le;rw[aS,aS]at D;refine⟨X,mC ?_⟩;have ⟨t,E⟩:=h;rw[fW,Ê,<-E,Nat.sub_zero,<-aS p,Ý]
 rintro⟨F,B⟩;rw[<-B,fW,Ê];exact take_prefix _ _
theorem qu(x p:B_)(H:aF):RC 197 [sv x,sv p] (bv (mO p x)) H:=by
 refine Pu ?_;have D:=og p x;refine Bd func197 Z ntmps197<|Sz aH<|S<|aT (t:=4) (n:=15) (A_:=mO p x) ?_ ?_
 .all_goals refine Y aA<|Y (gQ U_)<|Y aA<|Y (gQ U_)<|Y AU<|Dm ?_<;>(refine Sp 10 (λB=>?_) λB=>?_)<;>(first|exact s_|refine M<|M<|M<|M<|M<|M ?_|refine O aA<|O aA<|O (gQ U_)<|O (bM (l:=0) (h:=T p) Z U_ Z Z Z (k_ _) (I_ B) Z)<|O aA<|O wV ?_)<;>refine Y cE<|Da ?_<;>exact Gj (h:=by rw[D];(rw[B];rfl))
 exact aC<|Rt<|Qq
theorem me(x p:B_)(H:aF):RC 139 [sv x,sv p] (bv (mO p x)) H:=by refine Pu ?_;exact Bd func139 Z ntmps139<|Sz aH<|U aA<|Y aA<|Y (kc call197 (qu _ _ _))<|V aH<|aC<|Rt<|Qq
theorem uh(s:B_)(H:aF)(I:T s<2^40):RC 90 [sv s] (bv (pH s)) H:=by
 refine Pu ?_;have B:=λH=>xl s I H;have D:=gu (ν (μ s));generalize Lib.trimS (ν (μ s)) (ν (μ Bz))=t at B D;have G:pH s=(θ ((T s:Int)<=16)&&θ ((⟨t.toArray⟩:B_)=a6)):=by
  rw[pH];congr 1
  .exact decide_eq_decide.2 X
  have F:((⟨t.toArray⟩:B_)=a6)↔t=[]:=by
   constructor
   .intro h;have:=congrArg (λb:B_=>ν (μ b)) h
    simpa using this
   intro h;rw[h]
  cases E:s.data.toList.all tE with
  |true=>exact(À (F.2 (D.2 E))).symm
  |false=>exact(Á (λh=>by rw[D.1 (F.1 h)]at E;cases E)).symm
 clear D;refine Bd func90 Z ntmps90<|Sz aH<|S<|aT (t:=2) (n:=10) (A_:=pH s) ?_ ?_
 .all_goals refine Y aA<|Y (gQ U_)<|Y HV<|Dm ?_<;>(refine Sp 6 (λJ=>?_) λJ=>?_)<;>(first|exact s_|refine M<|M<|M ?_|refine O aA<|O (kc call74 (B _))<|O wV ?_)<;>refine Y cE<|Da ?_<;>exact Gj (h:=by(rw[G,J];rfl))
 exact aC<|Rt<|Qq
theorem UK(p:B_):∀(l:List B_),A9 p l=A↔∀(k:Nat) (x:B_),l[k]?=N x->(m6 x=A/\mO p x=A)/\∀(j:Nat) (y:B_),k=j+1->l[j]?=N y->jZ y x=A
 | []=>⟨λ_ k x h=>by simp at h,λ_=>rfl⟩
 | [a]=>by
  rw[A9,l7];constructor
  .intro h k x B;cases k with
   |zero=>cases B;exact⟨h,λj y e=>by omega⟩
   |succ k=>simp at B
  exact λh=>(h 0 a Z).1
 | a::b::r=>by
  rw[A9,l7,l7,l7,UK p (b::r)];constructor
  .rintro⟨⟨h1,h2⟩,h3⟩ k x B;cases k with
   |zero=>cases B;exact⟨h1,λj y e=>by omega⟩
   |succ k =>
    obtain ⟨E,F⟩:=h3 k x B;refine⟨E,λj y e D=>?_⟩;obtain rfl:k=j:=X
    cases k with
    |zero=>cases B;cases D;exact h2
    |succ k=>exact F k y Z D
  intro h;refine⟨⟨(h 0 a Z).1,(h 1 b Z).2 0 a Z Z⟩,λk x B=>?_⟩;have ⟨E,F⟩:=h (k+1) x B;exact⟨E,λj y e D=>F (j+1) y X D⟩
def A4(p:j0):Bool:=A9 p.pre p.ids&&(!θ ((p.cnt:Int)<=16)||θ (wL p.ids=p.sum))
theorem Wy(p:j0)(H:aF)(hl:C p.ids<1000000)(hs:∀s∈p.ids,T s<1000000):RC 91 [av (dH p)] (bv (A4 p)) H:=by
 refine aU.pure ?_ (by simp[dH]) H;have δ:C (p.ids.map S_)=C p.ids:=g_ _;have d:=λH=>KL p H;have D:=UK p.pre p.ids;rw[A4];generalize A9 p.pre p.ids=I at D |-;have w:C (aO p.ids)<35184372088832:=by
  have h:=DT p.ids λs ρ=>Nat.le_of_lt (hs s ρ);have:1000022*C p.ids<=1000022*1000000:=mul_le_mul_left _ X;omega
 have τ:=λH=>di p.ids H w;refine Bd func91 Z ntmps91<|U (kb 1)<|V aH<|S<|U (bC F3)<|Y (bT kM)<|Y (fP mR)<|V aA<|aD<|bA (σ:=Nat) (λk=>([(1,.ref 1 0 0 0),(6,.pv (aK p.ids)),(7,iv (C (p.ids.map S_):Int)),(8,iv (k:Int))],[(1,bx 4 70 ((dH p).map .pv))])) (λk=>k<=C p.ids/\∀j x,j<k->p.ids[j]?=N x->(m6 x=A/\mO p.pre x=A)/\∀(i:Nat) (y:B_),j=i+1->p.ids[i]?=N y->jZ y x=A) (λk=>C p.ids - k) 0 ⟨k_ _,λj x h=>by omega⟩ ?_ ?_
 .exact Wk
 rintro k ⟨hk,hall⟩;refine Sz cH<|S<|Cn ?_ ?_<;>intro K
 .have hlt:k<C p.ids:=I_ K
  have ⟨x,E⟩:=aQ hlt;have hi:=cA (f:=S_) E;have γ:=hs x (m7 E);have ⟨y,hy⟩:∃y,y=p.ids.getD (k - 1) a6:=X_;have F:(0:Int)<(k:Int)->p.ids[k - 1]?=N y:=λh=>by
   have ⟨z,G⟩:=aQ (l:=p.ids) (k:=k - 1) X;rw[hy,getD_eq_getElem?_getD,G];rfl
  have g:=λh=>cA (f:=S_) (F h);have P:=λH=>Y1 x X H;have c:=λH=>me x p.pre H;have ⟨a,m⟩:∃a,a=m6 x:=X_;have ⟨b,o⟩:∃b,b=mO p.pre x:=X_;have R:((!a||!b)||(θ ((0:Int)<(k:Int))&&!jZ y x))=η->(m6 x=A/\mO p.pre x=A)/\∀(i:Nat) (z:B_),k=i+1->p.ids[i]?=N z->jZ z x=A:=λh=>by
   rw[q_,q_,Bool.not_eq_false',Bool.not_eq_false',m,o]at h;refine⟨h.1,λi z e G=>?_⟩;have q:(0:Int)<(k:Int):=X
   have h2:=h.2;rw[À q,Bool.true_and,Bool.not_eq_false']at h2;have:=F q;rw[show k - 1=i by omega,G]at this;cases this;exact h2
  have Q:((!a||!b)||(θ ((0:Int)<(k:Int))&&!jZ y x))=A->I=η:=λh=>by
   cases v:I with
   |false=>rfl
   |true =>
    have ⟨⟨q1,q2⟩,q3⟩:=D.1 v k x E;rw[<-m]at q1;rw[<-o]at q2;rw[q1,q2,Bool.not_true,Bool.or_false,Bool.false_or,l7,l6,r9]at h;have:=q3 (k - 1) y X (F h.1);rw[h.2]at this;cases this
  have ⟨A_,hX⟩:∃A_,A_=((!a||!b)||(θ ((0:Int)<(k:Int))&&!jZ y x)):=X_;rw[<-hX]at R Q;rw[<-m]at P;rw[<-o]at c;clear m o;refine aB<|S<|aD<|U aA<|Y (jA SR)<|Y (fK N_ (hi:=hi))<|Y aH<|V aH<|S<|aT (t:=36) (n:=27) (A_:=A_) ?_ ?_
  .all_goals refine Y aA<|Y (kc call30 (P _))<|Y iJ<|Dm ?_<;>(refine Sp 16 (λJ=>?_) λJ=>?_)<;>(try exact w_)<;>(first|refine M<|M<|M<|M<|M ?_|refine O aA<|O (bC OG)<|O (bT N_)<|O (kc call139 (c _))<|O iJ ?_)<;>refine Y cE<|Dm ?_<;>(refine Sp 23 (λr=>?_) λr=>?_)<;>(try exact w_)<;>(first|refine M<|M<|M ?_|refine O aA<|O jB<|O aA ?_)<;>(first|refine Sp 26 (λB=>?_) λB=>?_|refine lC (t:=26) Z ?_)<;>(try exact w_)<;>(first|refine M ?_|refine Fu ?_|refine O (bC F3) ?_)<;>(first|refine M ?_|refine Fu ?_|refine O (bT kM) ?_)<;>(first|refine M ?_|refine Fu ?_|refine O aA ?_)<;>(first|refine M ?_|refine Fu ?_|refine O (by exact dT Z Z Z (show ξ.wrap ((k:Int) - 1)=((k - 1:Nat):Int)by have q:=b9 B;rw[mI X X];omega)) ?_)<;>(first|refine M ?_|refine Fu ?_|refine O (bQ Z SR Z Z X (l_ _) (g (b9 B)) Z) ?_)<;>(first|refine M ?_|refine Fu ?_|refine O (eG Z N_ Z (g (b9 B)) Z) ?_)<;>(first|refine M ?_|refine Fu ?_|refine O aA ?_)<;>(first|refine M ?_|refine Fu ?_|refine O (K9 Z Z Z) ?_)<;>(first|refine M ?_|refine O cE ?_)<;>refine V cE ?_<;>exact Gj (h:=by rw[hX];first|(rw[J];rfl)|(rw[J,r];rfl)|(rw[J,r,B];rfl))
  refine Cn ?_ ?_<;>intro L
  .rw[Q L];exact Sz aH<|aC<|Rt<|Qq
  have W:=R L;refine aB<|Rd iF<|V aA ?_;refine⟨k+1,⟨X,λj z hj G=>?_⟩,X,Wk⟩;by_cases e:j=k
  .subst e;rw[E]at G;cases G;exact W
  exact hall j z X G
 have κ:k=C p.ids:=J_ K
 have u:I=A:=D.2 λj x E=>hall j x (by have:=(m9.1 E).1;omega) E;rw[u,Bool.true_and];refine aP<|S<|qI (t:=2) (n:=12) (A_:=(!θ ((p.cnt:Int)<=16)||θ (wL p.ids=p.sum))) ?_ ?_
 .cases hg41:(!θ ((p.cnt:Int)<=16):Bool)
  .refine aN a7<|Cq m4<|Cq (kc call82 (d _))<|Cq iJ<|Cq aA<|Nf (bC F3)<|Nf (bT kM)<|Nf (kc call81 (τ _))<|Nf (bC U0)<|Nf (bT N_)<|Nf wV<|Cq tB<|Cq aH<|bF<|Kr ?_;exact⟨Z,⟨_,Z,by rfl⟩,Z,Z,Z⟩
  refine aN a7<|Cq m4<|Cq (kc call82 (d _))<|Cq iJ<|Cq aA<|Of<|Of<|Of<|Of<|Of<|Of<|Cq DI<|Cq aH<|bF<|Kr ?_;exact⟨Z,⟨_,Z,by rfl⟩,Z,Z,Z⟩
 exact aC<|Rt<|Qq
theorem Ce(t:B_)(B:T t<2^40)(H:aF):RC 88 [sv t] (bv (oddJ t)) H:=by refine Pu ?_;exact Bd func88 Z ntmps88<|Sz aH<|U aA<|Y (kc call30 (Y1 t B _))<|Y iJ<|V aH<|aC<|Rt<|Qq
theorem xT:∀(n:Nat) (l:List UInt8) (L:List B_),C l<=n->rM l=N L->C L<=C l/\∀s∈L,T s<=C l
 |0,l,L,hn,h=>by
  rw[List.length_eq_zero_iff.1 (Nat.le_zero.1 hn),QJ]at h;cases h;exact⟨k_ _,λs B=>by cases B⟩
 |n+1,l,L,hn,h=>by
  by_cases D:l=[]
  .rw[D,QJ]at h;cases h;exact⟨k_ _,λs B=>by cases B⟩
  by_cases E:sA l=A
  .rw[ae D E]at h;cases h
  rw[SK D (by simpa using E)]at h;obtain ⟨G,H,rfl⟩:=Option.map_eq_some_iff.1 h;have I:=Rs D;have ⟨J,F⟩:=xT n _ G v6 H;rw[q6]at J F;refine⟨by rw[j6];omega,λs B=>?_⟩;rcases l9.1 B with rfl|B
  .rw[cB,n_];omega
  have:=F s B;omega
def Vi(z:Option (List B_)):Bool:=((!z.isSome||θ ((C ((z.getD []).map S_):Int)<2))||!θ ((z.getD []).headD a6=pX))||((z.getD []).drop 1).any oddJ
theorem Js(h:Vi (rM (ν (μ t)))=A):rC t=[]:=by
 rw[rC];generalize rM (ν (μ t))=z at *
 match z with
 |none=>rfl
 |some []=>rfl
 |some [a]=>rfl
 |some (o::i::r) =>
  have h:((!A||θ ((C ((o::i::r).map S_):Int)<2))||!θ (o=pX))||(i::r).any oddJ:=h;show (if o=pX/\(i::r).all m6=A then _ else _)=_;rw[a8];rintro⟨B,D⟩;rw[À B,RV,D,Á (by rw[g_];simp only[j6];omega)]at h;cases h
theorem Vh(h:Vi (rM (ν (μ t)))=η):rC t=((rM (ν (μ t))).getD []).drop 1:=by
 rw[rC];generalize rM (ν (μ t))=z at *
 match z with
 |none=>cases h
 |some []=>cases h
 |some [a]=>cases h
 |some (o::i::r) =>
  have h:(((!A||θ ((C ((o::i::r).map S_):Int)<2))||!θ (o=pX))||(i::r).any oddJ)=η:=h;show (if o=pX/\(i::r).all m6=A then _ else _)=_;rw[q_,q_,Bool.not_eq_false',l6,RV,Bool.not_eq_false']at h;rw[b6 ⟨h.1.2,h.2⟩];rfl
theorem Jr(t:B_)(H:aF)(k:T t<1000000):RC 43 [sv t] (.pv (aK (rC t))) H:=by
 refine Pu ?_;have D:=λH=>gy (ν (μ t)) H i8;rw[gA]at D;have b:=Js (t:=t);have P:=Vh (t:=t);have F:∀s∈(rM (ν (μ t))).getD [],T s<1000000:=λs G=>by
  cases h:rM (ν (μ t)) with
  |none=>rw[h]at G;cases G
  |some L =>
   rw[h]at G;have:=(xT _ _ L (h_ _) h).2 s G;rw[aS]at this;omega
 have Q:C ((rM (ν (μ t))).getD [])<1000000:=by
  cases h:rM (ν (μ t)) with
  |none=>exact ß _
  |some L =>
   have:=(xT _ _ L (h_ _) h).1;rw[aS]at this;show C L<_;omega
 generalize rM (ν (μ t))=z at D b P F Q;have R:Vi z=(((!z.isSome||θ ((C ((z.getD []).map S_):Int)<2))||!θ ((z.getD []).headD a6=pX))||((z.getD []).drop 1).any oddJ):=rfl;generalize rC t=W at b P |-;have ⟨o,e⟩:∃o,o=z.isSome:=X_;have ⟨L,c⟩:∃L,L=z.getD []:=X_;rw[<-e,<-c]at D R;rw[<-c]at P F Q;generalize Vi z=A_ at R b P;clear e c;have i:C (L.map S_)=C L:=g_ _;have K:(L.map S_).drop 1=(L.drop 1).map S_:=map_drop.symm;have d:¬ ((C (L.map S_):Int)<2)->(L.map S_)[0]?=N (S_ (L.headD a6)):=λh=>by
  cases L with
  |nil=>exact absurd E_ h
  |cons a L=>rfl
 have g:=λH=>D7 88 (L.drop 1) oddJ v6 (λs G=>dQ.fn call88 (Ce s (by have:=F s (Ø G);omega) [])) H;refine Bd func43 Z ntmps43<|Sz aH<|U aA<|Y (kc call87 (D _))<|Y aA<|Y dK<|Y dK<|Y aH<|V aH<|S<|S<|aT (t:=27) (n:=21) (A_:=A_) ?_ ?_
 .all_goals refine Y aA<|Y iJ<|Dm ?_<;>(refine Sp 12 (λI=>?_) λI=>?_)<;>(try exact w_)<;>(first|refine M<|M<|M ?_|refine O aA<|O (fP aE)<|O cH ?_)<;>refine Y cE<|Dm ?_<;>(refine Sp 17 (λB=>?_) λB=>?_)<;>(try exact w_)<;>(first|refine M<|M<|M<|M ?_|refine O aA<|O (bQ Z aY Z Z X (l_ _) (d (b_ B)) Z)<|O (eG Z N_ Z (d (b_ B)) Z)<|O FD ?_)<;>refine Y cE<|Dm ?_<;>(refine Sp 23 (λf=>?_) λf=>?_)<;>(try exact w_)<;>(first|refine M<|M<|M ?_|refine O aA<|O (by exact eZ (l:=1) (h:=C (L.map S_)) Z aY Z (dV L) Z Z (J_ B) (h_ _) (show ((L.map S_).take _).drop 1=(L.drop 1).map S_ by rw[É];exact K))<|O (kc call28 (g _)) ?_)<;>refine V cE ?_<;>exact Gj (h:=by rw[R];first|(rw[I];rfl)|(rw[I,B];rfl)|(rw[I,B,show (!θ (L.headD a6=pX))=_ from f];rfl))
 refine Cn ?_ ?_<;>intro J
 .rw[b J];refine Sz aH<|aC<|cR (H':=[]) (.inr Z) Z (aI Z) (P_ (r:=.pv (aK []))) ?_;exact Qq
 have E:A_=η:=J;rw[P E];have j:¬ ((C (L.map S_):Int)<2):=λh=>by rw[R,À h,Bool.or_true,Bool.true_or,Bool.true_or]at E;cases E
 exact aB<|U aA<|Y (by exact eZ (l:=1) (h:=C (L.map S_)) Z aY Z (dV L) Z Z X (h_ _) (show ((L.map S_).take _).drop 1=(L.drop 1).map S_ by rw[É];exact K))<|V aH<|aC<|Rt<|Qq
theorem KY:∀(n m:Nat) (l:List B_),C l<=n->C l<=m->WE n l=WE m l
 |_,_,[],_,_=>by rw[QW,QW]
 |0,_,a::l,h,_=>by simp at h
 |n+1,0,a::l,_,h=>by simp at h
 |n+1,m+1,[a],_,_=>rfl
 |n+1,m+1,[a,b],_,_=>rfl
 |n+1,m+1,a::b::c::r,h1,h2=>by
  simp only[j6]at h1 h2;rw[WE,WE];rw[KY n m r (by omega) (by omega),KY n m (r.drop (eS b).toNat) v6 v6]
def TJ(l:List B_):Option (List j0):=WE (C l) l
theorem QX:TJ []=N []:=rfl
theorem KZ{l:List B_}(h:l≠[])(B:C l<3):TJ l=ζ:=by
 match l with
 | [a]=>rfl
 | [a,b]=>rfl
 |a::b::c::r=>simp only[j6]at B;omega
theorem bq{a b:B_}(r:List B_)(h:((!pH a||θ (eS b<0))||!m6 c)=A):TJ (a::b::c::r)=ζ:=by rw[TJ];show WE (C r+2+1) _=_;rw[WE,a8];intro B;rw[l7,l7,l6]at B;rw[B.1.1,B.2,Á X]at h;cases h
theorem TI{a b:B_}(r:List B_)(h:((!pH a||θ (eS b<0))||!m6 c)=η):TJ (a::b::c::r) =
  if eS b<=16 then(if(C r:Int)<eS b then ζ else if A4 ⟨a,(eS b).toNat,c,r.take (eS b).toNat⟩=A then(TJ (r.drop (eS b).toNat)).map (⟨a,(eS b).toNat,c,r.take (eS b).toNat⟩::·)else ζ)
  else(TJ r).map (⟨a,(eS b).toNat,c,[]⟩::·):=by
 rw[q_,q_,Bool.not_eq_false',Bool.not_eq_false',q7]at h;rw[TJ];show WE (C r+2+1) _=_;rw[WE,b6 (by rw[h.1.1,h.2,À X];rfl)]
 split
 .next h16 =>
  split
  .next B =>
   rw[a8 X,b6 (by rw[A4,B.2.1,À B.2.2,Bool.or_true];rfl),TJ,KY (C r+2) _ _ v6 (h_ _)]
  next B =>
  split
  .rfl
  next E =>
  rw[a8];intro D;rw[A4,À (show (((⟨a,(eS b).toNat,c,r.take (eS b).toNat⟩:j0).cnt:Nat):Int)<=16 by show ((eS b).toNat:Int)<=16;omega),l7,Bool.not_true,Bool.false_or,l6]at D;exact B ⟨X,D.1,D.2⟩
 rw[TJ,KY (C r+2) _ _ X (h_ _)]
def WZ(z:Option (List B_)):Bool:=(!z.isSome||θ ((C ((z.getD []).map S_):Int)<2))||!θ ((z.getD []).headD a6=fC)
theorem kf(h:WZ (rM (ν (μ t)))=A):nK t=[]:=by
 rw[nK];generalize rM (ν (μ t))=z at *
 match z with
 |none=>rfl
 |some []=>rfl
 |some [a]=>rfl
 |some (o::i::r) =>
  have h:((!A||θ ((C ((o::i::r).map S_):Int)<2))||!θ (o=fC))=A:=h;show (if o=fC then _ else _)=_;rw[a8];intro B;rw[À B,Á (by rw[g_];simp only[j6];omega)]at h;cases h
theorem cx(h:WZ (rM (ν (μ t)))=η):∃n r,rM (ν (μ t))=N (fC::n::r)/\nK t=(match TJ r with|some P=>if(C P:Int)=eS n then P else[]|none=>[]):=by
 rw[nK];generalize rM (ν (μ t))=z at *
 match z with
 |none=>cases h
 |some []=>cases h
 |some [a]=>cases h
 |some (o::i::r) =>
  have h:((!A||θ ((C ((o::i::r).map S_):Int)<2))||!θ (o=fC))=η:=h;rw[q_,Bool.not_eq_false',l6]at h;rw[h.2];exact⟨i,r,Z,b6 Z⟩
theorem zh(P:List j0):∀r∈P.map dH,C r=4:=λr B=>by
 obtain ⟨p,_,rfl⟩:=mem_map.1 B;rfl
abbrev YF(P:List j0):List (List AV):=El (P.map dH)
theorem Fe(t:B_)(H:aF)(ht:T t<1000000):RC 45 [sv t] (.pv (DB (nK t))) H:=by
 refine Pu ?_;have J:=λH=>gy (ν (μ t)) H i8;rw[gA]at J;have hy:=kf (t:=t);have p:=cx (t:=t);have D:∀s∈(rM (ν (μ t))).getD [],T s<1000000:=λs F=>by
  cases h:rM (ν (μ t)) with
  |none=>rw[h]at F;cases F
  |some L =>
   rw[h]at F;have:=(xT _ _ L (h_ _) h).2 s F;rw[aS]at this;omega
 have w:C ((rM (ν (μ t))).getD [])<1000000:=by
  cases h:rM (ν (μ t)) with
  |none=>exact ß _
  |some L =>
   have:=(xT _ _ L (h_ _) h).1;rw[aS]at this;show C L<_;omega
 generalize rM (ν (μ t))=z at J hy p D w;have R:WZ z=((!z.isSome||θ ((C ((z.getD []).map S_):Int)<2))||!θ ((z.getD []).headD a6=fC)):=rfl;generalize nK t=W at hy p |-;have ⟨o,ho⟩:∃o,o=z.isSome:=X_;have ⟨L,hL⟩:∃L,L=z.getD []:=X_;have hzL:∀e_,z=N e_->L=e_:=λe_ h=>by rw[hL,h];rfl
 rw[<-ho,<-hL]at J R;rw[<-hL]at D w;generalize WZ z=A_ at R hy p;have p:A_=η->∃n r,L=fC::n::r/\W=(match TJ r with|some P=>if(C P:Int)=eS n then P else[]|none=>[]):=λh=>by
  have ⟨n,r,e1,Q⟩:=p h;exact⟨n,r,hzL _ e1,Q⟩
 clear ho hL hzL;have h0:¬ ((C (L.map S_):Int)<2)->(L.map S_)[0]?=N (S_ (L.headD a6)):=λh=>by
  cases L with
  |nil=>exact absurd E_ h
  |cons a L=>rfl
 refine Bd func45 Z ntmps45<|Sz aH<|U aA<|Y (kc call87 (J _))<|Y aA<|Y dK<|Y dK<|Y aH<|V aH<|S<|S<|aT (t:=25) (n:=15) (A_:=A_) ?_ ?_
 .all_goals refine Y aA<|Y iJ<|Dm ?_<;>(refine Sp 15 (λh15=>?_) λh15=>?_)<;>(try exact w_)<;>(first|refine M<|M<|M ?_|refine O aA<|O (fP aE)<|O cH ?_)<;>refine Y cE<|Dm ?_<;>(refine Sp 20 (λx=>?_) λx=>?_)<;>(try exact w_)<;>(first|refine M<|M<|M<|M ?_|refine O aA<|O (bQ Z aY Z Z X (l_ _) (h0 (b_ x)) Z)<|O (eG Z N_ Z (h0 (b_ x)) Z)<|O FD ?_)<;>refine V cE ?_<;>exact Gj (h:=by rw[R];first|(rw[h15];rfl)|(rw[h15,x];rfl))
 refine Cn ?_ ?_<;>intro ρ
 .rw[hy ρ];refine Sz aH<|aC<|cR (H':=[]) (.inr Z) Z (aI Z) (P_ (r:=.pv (DB []))) ?_;exact Qq
 have ⟨n,I,e1,Q⟩:=p ρ;subst e1;have j:C ((fC::n::I).map S_)=C I+2:=g_ _;have hr0:∀s∈I,T s<1000000:=λs F=>D s (by simp[F]);have G:=λH=>tq n H (by have:=D n H_;omega);generalize eS n=i_ at G Q;simp only[j6]at w;clear R p hy D h0 J;refine aB<|U aA<|Y (bQ Z aY Z Z X (l_ _) (show ((fC::n::I).map S_)[1]?=N (S_ n)from Z) Z)<|Y (eG Z N_ Z (show ((fC::n::I).map S_)[1]?=N (S_ n)from Z) Z)<|Y (kc call89 (G _))<|V aH<|Sz (dM (id:=905) (sz:=4) (ty:=70) Z Z Z)<|S<|U aA<|Y (by exact eZ (l:=2) (h:=C ((fC::n::I).map S_)) Z aY Z (dV (fC::n::I)) Z Z X (h_ _) (show (((fC::n::I).map S_).take _).drop 2=I.map S_ by rw[É];rfl))<|V aH<|aD ?_;refine eN (λ(l:List B_) (P:List j0)=>([(3,.pv (aK l)),(5,iv i_),(6,.osl 905 (C P) 0 (C P))],[(905,⟨C P,4,70,YF P⟩)])) (λl P=>C l+C P<=C I/\(∀s∈l,T s<1000000)/\TJ I=(TJ l).map (P++·)) (λl P=>C l) I [] ⟨h_ _,hr0,by cases TJ I<;>rfl⟩ ?_ ?_
 .exact Wk
 rintro l P ⟨hlen,D,hpt⟩;have j:C (l.map S_)=C l:=g_ _;refine S<|U aA<|Y (fP aE)<|V AU<|Cn ?_ ?_<;>intro κ
 .have h3:3<=C l:=I_ κ
  obtain ⟨a,b,c,r,rfl⟩:∃a b c r,l=a::b::c::r:=by
   match l,h3 with
   |a::b::c::r,_=>exact⟨a,b,c,r,Z⟩
  have B:=TI (a:=a) (b:=b) (c:=c) r;have E:=bq (a:=a) (b:=b) (c:=c) r;have ha:=D a H_;have hb:=D b H_;have hc:=D c H_;have hr:∀s∈r,T s<1000000:=λs F=>D s (by simp[F]);simp only[j6]at hlen j;have hnb:=G9 b;have G:=λH=>tq b H X;have i:=λH=>uh a H X;have g:=λH=>Y1 c X H;generalize eS b=v at B E G hnb;generalize pH a=pa at B E i;generalize m6 c=jc at B E g;have ⟨y_,y⟩:∃y_,y_=((!pa||θ (v<0))||!jc):=X_;rw[<-y]at B E;have hmr:C (r.map S_)=C r:=g_ _;refine aB<|aD<|S<|aN a7<|x_ aA<|x_ (by exact bQ Z aY Z Z X (l_ _) (show ((a::b::c::r).map S_)[0]?=N (S_ a)from Z) Z)<|x_ (by exact eG Z N_ Z (show ((a::b::c::r).map S_)[0]?=N (S_ a)from Z) Z)<|x_ aA<|x_ (by exact bQ Z aY Z Z X (l_ _) (show ((a::b::c::r).map S_)[1]?=N (S_ b)from Z) Z)<|x_ (by exact eG Z N_ Z (show ((a::b::c::r).map S_)[1]?=N (S_ b)from Z) Z)<|x_ (by exact bH Z Z call89 Z (G _))<|x_ aA<|x_ (by exact bQ Z aY Z Z X (l_ _) (show ((a::b::c::r).map S_)[2]?=N (S_ c)from Z) Z) ?_;refine x_ (by exact eG Z N_ Z (show ((a::b::c::r).map S_)[2]?=N (S_ c)from Z) Z)<|x_ ((oU aF1))<|Cp [7] (λH1 hH=>by exact CY (id:=7) Z Jc Z ((hH _ Z).trans Z))<|Cp [7] (λ_ h=>sa eD h)<|bF<|Kr<|U aA<|Y (by exact eZ (l:=3) (h:=C ((a::b::c::r).map S_)) Z aY Z (dV (a::b::c::r)) Z Z X (h_ _) (show (((a::b::c::r).map S_).take _).drop 3=r.map S_ by rw[É];rfl))<|V aH<|S<|S ?_;refine aT (t:=62) (n:=17) (A_:=y_) ?_ ?_
  .all_goals refine Y (bC OG)<|Y (bT N_)<|Y (kc call90 (i _))<|Y iJ<|Dm ?_<;>(refine Sp 52 (λh52=>?_) λh52=>?_)<;>(try exact w_)<;>(first|refine M<|M<|M ?_|refine O (bC F4)<|O (bT M_)<|O cH ?_)<;>refine Y cE<|Dm ?_<;>(refine Sp 57 (λh57=>?_) λh57=>?_)<;>(try exact w_)<;>(first|refine M<|M<|M<|M ?_|refine O (bC U0)<|O (bT N_)<|O (kc call30 (g _))<|O iJ ?_)<;>refine V cE ?_<;>exact Gj (h:=by rw[y];first|(rw[h52];rfl)|(rw[h52,h57];rfl))
  refine Cn ?_ ?_<;>intro δ
  .rw[Q,hpt,E δ];refine Sz aH<|aC<|cR (H':=[]) (.inr Z) Z (aI Z) (P_ (r:=.pv (DB []))) ?_;exact Qq
  have σ:y_=η:=δ;have B:=B σ;have hv0:0<=v:=by
   rw[σ]at y;have:=y.symm;rw[q_,q_,q7]at this;omega
  obtain ⟨k,rfl⟩:∃k:Nat,v=(k:Int):=⟨v.toNat,X⟩;rw[l_]at B;clear y E G i g;have hsm:=λH=>KL ⟨a,k,c,[]⟩ H;refine aB<|eT (λ(q:List B_×List B_)=>([(3,.pv (aK q.2)),(5,iv i_),(6,.osl 905 (C P) 0 (C P)),(7,.ref 7 0 0 0)],[(7,bx 4 70 [sv a,sv c,iv (k:Int),.pv (aK q.1)]),(905,⟨C P,4,70,YF P⟩)])) (λq=>C q.2<=C r/\C q.1<=C r/\(∀s∈q.1,T s<1000000)/\(∀s∈q.2,T s<1000000)/\TJ (a::b::c::r)=if A4 ⟨a,k,c,q.1⟩=A then(TJ q.2).map (⟨a,k,c,q.1⟩::·)else ζ) ?_ ?_
  .refine U m4<|V (kc call82 (hsm _)) ?_;refine Cn ?_ ?_<;>intro γ
   .have K:(k:Int)<=16:=b9 γ;rw[b6 K]at B;refine S<|U (bC F4)<|Y (bT M_)<|Y aA<|Y (fP aE)<|V jB<|Cn ?_ ?_<;>intro β
    .have f:(C r:Int)<(k:Int):=I_ β
     rw[b6 f]at B;rw[Q,hpt,B];refine Sz aH<|aC<|cR (H':=[]) (.inr Z) Z (aI Z) (P_ (r:=.pv (DB []))) ?_;exact Qq
    have f:¬ (C r:Int)<(k:Int):=J_ β
    rw[a8 f]at B;refine aB<|aN a7<|x_ aA<|Cr [7] (λ_ h=>fh F4 h)<|Cr [7] (λ_ h=>lh M_ h)<|x_ (by exact eZ (l:=0) (h:=k) Z aY Z (dV r) Z Z (k_ _) X (show ((r.map S_).take k).drop 0=(r.take k).map S_ by rw[Ê,map_take]))<|x_ aA<|Cr [7] (λ_ h=>fh F4 h)<|Cr [7] (λ_ h=>lh M_ h)<|x_ (by exact eZ (l:=k) (h:=C (r.map S_)) Z aY Z (dV r) Z Z X (h_ _) (show ((r.map S_).take _).drop k=(r.drop k).map S_ by rw[É,map_drop]))<|Cr [7] (λ_ h=>fh F3 h)<|Cp [7] (λ_ h=>su sizeOf68 h)<|x_ aH<|bF<|Kr ?_;exact⟨(r.take k,r.drop k),⟨by simp only;rw[q6];omega,by simp only;rw[n_];omega,λs F=>hr s (mem_of_mem_take F),λs F=>hr s (Ø F),B⟩,Wk⟩
   have K:¬ (k:Int)<=16:=b_ γ;rw[a8 K]at B;have u:A4 ⟨a,k,c,[]⟩=A:=by rw[A4,Á K];rfl
   refine aB ?_;exact⟨([],r),⟨h_ _,k_ _,(λs F=>by cases F),hr,by rw[b6 u];exact B⟩,Wk⟩
  rintro⟨d,q2⟩ ⟨hq2,hq1,hs1,hs2,hq⟩;simp only at hq2 hq1 hs1 hs2 hq;have u:=λH=>Wy ⟨a,k,c,d⟩ H (by simp only;omega) hs1;refine S<|U m4<|Y (kc call91 (u _))<|V iJ ?_;refine Cn ?_ ?_<;>intro hc6
  .rw[a8 (by have h:=hc6;intro e;rw[e]at h;cases h)]at hq;rw[Q,hpt,hq];refine Sz aH<|aC<|cR (H':=[]) (.inr Z) Z (aI Z) (P_ (r:=.pv (DB []))) ?_;exact Qq
  rw[b6 (pG hc6)]at hq;refine aB<|Rd aA<|Y m4<|Y (aM [dH ⟨a,k,c,d⟩] Z aBj Z Z Z Z Z (zh [⟨a,k,c,d⟩]))<|Y (by exact bU (k:=C P+1) (ps:=[dH ⟨a,k,c,d⟩]) Z aBj aGe Z Z Z Z Z (by rw[KU,g_]) Z (zh [⟨a,k,c,d⟩]) (m:=1) Z X Z (rows':=YF (P++[⟨a,k,c,d⟩])) (by rw[YF,YF,Ç,El,El,Ç];rfl))<|Da ?_;have hnl:C (P++[(⟨a,k,c,d⟩:j0)])=C P+1:=by rw[j7];rfl
  refine⟨q2,P++[⟨a,k,c,d⟩],⟨by rw[hnl];omega,hs2,?_⟩,by simp only[j6];omega,?_⟩
  .rw[hpt,hq];cases TJ q2 with
   |none=>rfl
   |some z=>simp
  dsimp only;rw[hnl];exact L_
 have h3:C l<3:=J_ κ
 have hPl:C (YF P)=C P:=by rw[KU,g_]
 have ⟨A_,R⟩:∃A_,A_=(!θ ((C P:Int)=i_)||θ ((0:Int)<(C l:Int))):=X_;have τ:A_=A->W=[]:=λh=>by
  rw[Q,hpt];cases l with
  |nil =>
   rw[QX];show (if(C (P++[]):Int)=i_ then _ else _)=_;rw[a8];intro e;rw[Ë]at e;rw[R,À e]at h;cases h
  |cons a l=>rw[KZ H_ h3];rfl
 have hNo:A_=η->W=P:=λh=>by
  rw[R,q_,Bool.not_eq_false',l6,q7]at h;have hl0:l=[]:=length_eq_zero_iff.1 X;rw[Q,hpt,hl0,QX];show (if(C (P++[]):Int)=i_ then P++[]else[])=P;rw[Ë,b6 h.1]
 refine aP<|S<|S<|aT (t:=94) (n:=10) (A_:=A_) ?_ ?_
 ·all_goals refine Y aA<|Y (by exact eB Z underlying86 Z Z Z)<|Y aA<|Y xN<|Dm ?_<;>(refine Sp 90 (λh90=>?_) λh90=>?_)<;>(try exact w_)<;>(first|refine M<|M<|M ?_|refine O aA<|O (fP aE)<|O jB ?_)<;>refine V cE ?_<;>exact Gj (h:=by rw[R,<-j];(rw[h90];rfl))
 refine Cn ?_ ?_<;>intro hc7
 .rw[τ hc7];refine Sz aH<|aC<|cR (H':=[]) (.inr Z) Z (aI Z) (P_ (r:=.pv (DB []))) ?_;exact Qq
 rw[hNo hc7];refine aB<|U aA<|V aH<|aC ?_;refine cR (H':=[]) (.inr Z) Z (aI Z) (Fin.slice0 (id:=905) (P.map dH) Z Z Z (g_ _)) ?_;exact Qq
end Go.Proofs.C
section
namespace Go.Proofs
open Go.RowKit Go.Sort Go.Shelf
def aHd:Go.Shelf.Ren:=⟨λ|6=>86|8=>131|9=>130|19=>189|20=>190|21=>180|22=>181|23=>182|24=>183|25=>184|26=>185|27=>186|28=>187|29=>188|36=>233|31=>234|32=>235|37=>236|38=>237|39=>238|41=>270|n=>n,λ|27=>68|29=>9|3=>3|32=>157|26=>22|0=>0|44=>213|46=>169|4=>4|36=>207|35=>206|41=>166|5=>5|9=>9|53=>241|57=>245|63=>282|64=>283|n=>n,λ|n=>n⟩
theorem aHj:Go.Proofs.SlLaysM.n6 φ aHd:={
  mixed:=by kernel_rfl
  f6:=⟨Tryz.f86.name,E_,Tryz.func86.trans D_⟩
  f8:=Tryz.func131.trans D_
  f9:=⟨Tryz.f130.name,E_,Tryz.func130.trans D_⟩
  f19:=Tryz.func189.trans D_
  f20:=Tryz.func190.trans D_
  f21:=⟨Tryz.f180.name,E_,Tryz.func180.trans D_⟩
  f22:=⟨Tryz.f181.name,E_,Tryz.func181.trans D_⟩
  f23:=⟨Tryz.f182.name,E_,Tryz.func182.trans D_⟩
  f24:=⟨Tryz.f183.name,E_,Tryz.func183.trans D_⟩
  f25:=⟨Tryz.f184.name,E_,Tryz.func184.trans D_⟩
  f26:=⟨Tryz.f185.name,E_,Tryz.func185.trans D_⟩
  f27:=⟨Tryz.f186.name,E_,Tryz.func186.trans D_⟩
  f28:=⟨Tryz.f187.name,E_,Tryz.func187.trans D_⟩
  f29:=⟨Tryz.f188.name,E_,Tryz.func188.trans D_⟩
  f31:=Tryz.func234.trans D_
  f32:=Tryz.func235.trans D_
  f36:=⟨Tryz.f233.name,E_,Tryz.func233.trans D_⟩
  f37:=⟨Tryz.f236.name,E_,Tryz.func236.trans D_⟩
  f38:=⟨Tryz.f237.name,E_,Tryz.func237.trans D_⟩
  f39:=⟨Tryz.f238.name,E_,Tryz.func238.trans D_⟩
  f41:=⟨Tryz.f270.name,E_,Tryz.func270.trans D_⟩
  t0:=EH
  a0:=Tryz.isAgg0
  z0:=Tryz.sizeOf0
  v0:=Tryz.zeroValue0
  t3:=Tryz.underlying3
  a3:=Tryz.isAgg3
  z3:=Tryz.sizeOf3
  v3:=tH
  t4:=fO
  a4:=nU
  z4:=Tryz.sizeOf4
  v4:=jG
  t5:=dI
  a5:=vP
  z5:=cO
  v5:=tG
  t9:=Tryz.underlying9
  a9:=Tryz.isAgg9
  z9:=Tryz.sizeOf9
  v9:=gY
  t26:=aE
  a26:=aG
  z26:=Tryz.sizeOf22
  v26:=wQ
  t27:=mR
  a27:=kM
  z27:=Tryz.sizeOf68
  v27:=Tryz.zeroValue68
  t29:=Tryz.underlying9
  a29:=Tryz.isAgg9
  z29:=Tryz.sizeOf9
  v29:=gY
  t32:=lP
  a32:=Tryz.isAgg157
  z32:=BL
  v32:=uI
  t35:=Tryz.underlying206
  a35:=Tryz.isAgg206
  z35:=Tryz.sizeOf206
  v35:=Tryz.zeroValue206
  t36:=Tryz.underlying207
  a36:=Tryz.isAgg207
  z36:=Tryz.sizeOf207
  v36:=Tryz.zeroValue207
  t41:=Tryz.underlying166
  a41:=Tryz.isAgg166
  z41:=Tryz.sizeOf166
  v41:=Tryz.zeroValue166
  t44:=Tryz.underlying213
  a44:=Tryz.isAgg213
  z44:=Tryz.sizeOf213
  v44:=Tryz.zeroValue213
  t46:=gV
  a46:=yH
  z46:=vO
  v46:=uH
  t53:=Tryz.underlying241
  a53:=Tryz.isAgg241
  z53:=Tryz.sizeOf241
  v53:=Tryz.zeroValue241
  t57:=Tryz.underlying245
  a57:=Tryz.isAgg245
  z57:=Tryz.sizeOf245
  v57:=Tryz.zeroValue245
  t63:=Tryz.underlying282
  a63:=Tryz.isAgg282
  z63:=Tryz.sizeOf282
  v63:=Tryz.zeroValue282
  t64:=Tryz.underlying283
  a64:=Tryz.isAgg283
  z64:=Tryz.sizeOf283
  v64:=Tryz.zeroValue283}
end Go.Proofs
namespace Go.Proofs.C
open Go.Proofs.Tryz
open Go.Abs Go.Lib
variable{g n:Nat}{H:aF}
theorem Dh(B:List B_){id ty:Nat}(D:H.get id=N ⟨g,1,ty,fN B⟩)(F:n=C B)(E:C B<2^62):
  aU φ 86 [.osl id g 0 n] H (λr H'=>r=.tup []/\H'=(id,⟨g,1,ty,fN (jS B)⟩)::H):=Ky aHj B D F E
def pM(l:List (B_×PV)):List (B_×AV):=l.map λp=>(p.1,.pv p.2)
abbrev WF(l:List (B_×PV)):Ob:=⟨0,0,C (pM l),sT KH (pM l)⟩
theorem sb:∀(l:List (B_×PV)) (i:B_),AB (pM l) i=(l.find? λp=>θ (p.1=i)).map λp=>.pv p.2
 | [],i=>rfl
 |(k,v)::l,i=>by
  show (if k=i then _ else AB (pM l) i)=_;rw[List.find?_cons];by_cases h:k=i
  .rw[b6 h,À h];rfl
  rw[a8 h,Á h];exact sb l i
theorem rz:∀ {l:List (B_×PV)} {i:B_} (v:PV),i∉l.map Prod.fst->xX (pM l) i (.pv v)=pM (l++[(i,v)])
 | [],i,v,_=>rfl
 |(k,u)::l,i,v,h=>by
  rw[List.map_cons,l9,not_or]at h;show (if k=i then _ else(k,AV.pv u)::xX (pM l) i (.pv v))=_;rw[a8 λe=>h.1 e.symm,rz v h.2];rfl
theorem dY(l:List (B_×PV)):∀r∈(WF l).rows,∀a∈r,Clo H a:=by
 intro r E a B;have ⟨i,hi⟩:=s8.1 E;obtain ⟨p,D,rfl⟩:=HB.1 hi;rw[pM,r7]at D;obtain ⟨q,_,rfl⟩:=Option.map_eq_some_iff.1 D;simp only[l9,q8,or_false]at B;rcases B with rfl|rfl|rfl
 .exact .pv _
 .exact .pv _
 exact .pv _
instance(l:List (B_×PV)):W_ (H) ((WF l).rows):=⟨dY l⟩
def tM(o:List (B_×B_)):List (B_×PV):=o.map λp=>(p.1,.str p.2)
theorem aBc(o:List (B_×B_)):(tM o).map Prod.fst=o.map Prod.fst:=by rw[tM,Û];rfl
theorem Kj(o:List (B_×B_))(i:B_):(AB (pM (tM o)) i).getD (sv a6)=sv (iV o i)/\(AB (pM (tM o)) i).isSome=θ (i∈o.map Prod.fst):=by
 rw[sb,iV,tM,find?_map];show (Option.map _ ((o.find? λp=>θ (p.1=i)).map _)).getD _=_/\(Option.map _ ((o.find? λp=>θ (p.1=i)).map _)).isSome=_;cases h:o.find? λp=>θ (p.1=i)with
 |none =>
  refine⟨Z,(Á λF=>?_).symm⟩;have ⟨p,E,e⟩:=mem_map.1 F;have:=find?_eq_none.1 h p E;exact this (À e)
 |some p =>
  have B:=find?_some h;have D:=mem_of_find?_eq_some h;exact⟨Z,(À (mem_map.2 ⟨p,D,b9 B⟩)).symm⟩
theorem Fin.mirW{H1:aF}{ob:Ob}{o:List (B_×PV)}(f_:List B_)(E:H1.get 711=N ob)(F:ob.g=g)(B:ob.rows=bP f_)(G:n=C f_)(D:H1.get 710=N (WF o)):
  Fin [] H1 (.agg [.osl 711 g 0 n,.mp 710 0]) [(710,WF o)] (.agg [.pv (aK f_),.mp 710 0]):=by
 subst F G;exact Fin.fz (id:=711) (ob:=ob) (f_.map S_) E (B.trans (cX f_)) (.agg Z (bG (.osl (fV S_ f_)) (bG (.same u3) jV))) Z ⟨⟨_,D,Z⟩,dY _,T_⟩ T_
theorem aAw:mY zR:=by have B:qY 0:=⟨E_,E_⟩;exact⟨⟨B,B,B,B,B⟩,⟨E_,E_,E_⟩,⟨E_,λt h=>by cases h⟩,⟨E_,λt h=>by cases h⟩,okZ,E_,E_,⟨E_,λt h=>by cases h⟩,E_,okZ⟩
theorem G4(t:List UInt8):mY (dU t).1/\C (dU t).1.parents<549755813888:=by
 rw[dU]
 split
 .exact⟨aAw,E_⟩
 next h =>
 split
 .exact iw X
 exact⟨aAw,E_⟩
theorem NQ{L:List B_}{k:Nat}{t:B_}(h:L[k]?=N t):jE (L.take (k+1))=kA (jE (L.take k)) t:=by rw[eA h,Eu]
theorem RM:cD []=[]:=eq_nil_of_length_eq_zero (le_zero.1 (qC []))
theorem TQ:∀(L:List B_),C (jE L)<=C L:=λL=>by
 have:=qC L
 rwa [cD,jO,g_]at this
theorem Fk(L:List B_)(hl:C L<1000000)(x:∀t∈L,T t<1000000000):aU φ 42 [.pv (aK L)] [] (λr H'=>r=.agg [.pv (aK (cD L)),.mp 710 0]/\H'=[(710,WF (tM (jE L)))]):=by
 have w:C (L.map S_)=C L:=g_ _;refine Bd func42 Z ntmps42<|Sz (kl 2 aDl)<|U (wD (id:=710) KH Z Z)<|Y (oU aFZ)<|Y (kl 3 aDl)<|Uu (jH sizeOf80)<|Zz<|S<|S ?_;refine gK.ent (E':=[(0,.pv (aK L)),(2,.ref 2 0 0 0),(3,.ref 3 0 0 0)]) (H':=(711,⟨0,1,9,[]⟩)::(3,bx 2 80 [.osl 711 0 0 0,.mp 710 0])::(710,WF [])::(2,bx 2 80 [.pv (.sl []),.pv .nilm])::[]) ?_ ?_
 .exact (Q_ 711 1 9)
 refine Rd aA<|Y (fP aE)<|V aA<|aD<|bA (σ:=Nat) (λk=>([(2,.ref 2 0 0 0),(3,.ref 3 0 0 0),(13,.pv (aK L)),(14,iv (C (L.map S_):Int)),(15,iv (k:Int))],[(3,bx 2 80 [.osl 711 (C (jE (L.take k))) 0 (C (jE (L.take k))),.mp 710 0]),(711,⟨C (jE (L.take k)),1,9,bP ((jE (L.take k)).map Prod.fst)⟩),(710,WF (tM (jE (L.take k)))),(2,bx 2 80 [.pv (.sl []),.pv .nilm])])) (λk=>k<=C L) (λk=>C L - k) 0 (k_ _) ?_ ?_
 .exact L_
 intro k z;refine Sz cH<|S<|Cn ?_ ?_<;>intro P
 .have hlt:k<C L:=I_ P
  have ⟨t,n⟩:=aQ hlt;have hi:=cA (f:=S_) n;have y:=x t (m7 n);have K:=λH=>TN (ν (μ t)) i8 H;rw[gA]at K;have J:=G4 (ν (μ t));have F:=λH=>lx (dU (ν (μ t))).1 J.1 J.2 H;have B:=NQ n;have a:=TQ (L.take k);rw[n_]at a;have E:tI t=if(dU (ν (μ t))).2=0 then N (JL (dU (ν (μ t))).1)else ζ:=rfl
  generalize dU (ν (μ t))=G at K F E;generalize jE (L.take k)=D at B a |-;rw[kA,E]at B;generalize JL G.1=I at F B;clear E J;refine aB<|S<|aD<|U (jA aY)<|Y (fK N_ (hi:=hi))<|V aH<|U aA<|Y (kc call54 (K _))<|Y aA<|Y dK<|Y dK<|Y (kl 6 fx)<|Uu (jH bJ)<|V aH<|S<|U aA<|V xN<|Cn ?_ ?_<;>intro Q
  .have hne:G.2≠0:=by have:=Q;intro e;rw[e]at this;exact absurd this E_
   rw[a8 hne]at B;refine aP<|Rd iF<|V aA ?_;refine⟨k+1,X,X,?_⟩;dsimp only;rw[B];exact L_
  have g:G.2=0:=by have:=Q;by_cases e:G.2=0;exact e;rw[Á e]at this;cases this
  rw[b6 g]at B;have ⟨u,v⟩:=Kj D I;refine aB<|U (xB cP bJ)<|Y (kc call55 (F _))<|V aH<|U (bC vc)<|Y (bT isAgg78)<|Y aA<|Y (by exact cQ.eqv (IG (κ:=KH) Z underlying78 U_ Z Z Z Z Z gY (.inl Z)) (show AV.tup [(AB (pM (tM D)) I).getD (sv a6),.pv (.bool (AB (pM (tM D)) I).isSome)]=.tup [sv (iV D I),bv (decide (I∈D.map Prod.fst))]by rw[u,v]))<|Y aA<|Y dK<|Y dK<|Y aH<|V aH<|U aA<|V iJ<|Cn ?_ ?_<;>intro R
  .have hno:I∉D.map Prod.fst:=b_ (not_not R);have B:jE (L.take (k+1))=D++[(I,t)]:=by
    rw[B];refine a8 λh=>hno ?_;have ⟨p,l,e⟩:=any_eq_true.1 h;exact mem_map.2 ⟨p,l,b9 e⟩
   have b:xX (pM (tM D)) I (sv t)=pM (tM (D++[(I,t)])):=by rw[rz (.str t) (by rw[aBc];exact hno),tM,tM,Ç];rfl
   have q:C (bP (D.map Prod.fst))=C D:=by rw[dB,g_]
   have j:C (D++[(I,t)])=C D+1:=by rw[j7];rfl
   refine U (bC vc)<|Y (bT isAgg78)<|Y aA<|Y aA<|Uu (by exact AC (κ:=KH) (.inl Z) underlying78 U_ Z Z Z Z Z Z Z b)<|Zz<|Rd (bC JQ)<|Y (bT kM)<|Y aA<|Y (by exact aM [[.str I]] Z SR Z Z Z Z Z R_)<|Y (by exact bU (k:=D.length+1) (ps:=[[.str I]]) Z SR sX Z Z Z Z Z q Z R_ (m:=1) Z X Z (rows':=bP ((D++[(I,t)]).map Prod.fst)) (by rw[Ç];exact gP _ I))<|Y (bC JQ)<|Uu (ku sizeOf68)<|Zz<|Rd iF<|V aA ?_;refine⟨k+1,X,X,?_⟩;dsimp only;rw[B,j];exact(cJ.wk (Ea<|Ea<|Eb<|Eb<|Eb<|T_) (Hc (by(simp;exact⟨Z,Z⟩))<|Hc (aL _ _)<|Hc (dY _)<|Hb<|T_) T_)
  have d:I∈D.map Prod.fst:=b9 (pG R);have B:jE (L.take (k+1))=D:=by
   rw[B];have ⟨p,l,e⟩:=mem_map.1 d;exact b6 (any_eq_true.2 ⟨p,l,À e⟩)
  refine aB<|Rd iF<|V aA ?_;refine⟨k+1,X,X,?_⟩;dsimp only;rw[B];exact L_
 have i:k=C L:=J_ P
 subst i;rw[É];have s:=TQ L;have c:C ((jE L).map Prod.fst)=C (jE L):=g_ _;have W:cD L=jS ((jE L).map Prod.fst):=rfl;rw[W];refine aP<|U (bC JQ)<|Y (bT kM)<|V (kc call86 (Dh ((jE L).map Prod.fst) Z c.symm X))<|U (by exact aW Z isAgg80 sizeOf80 Z Z Z Z u0 Z)<|Uu (jH sizeOf80)<|Zz<|aC ?_;refine cR (H':=[(710,WF (tM (jE L)))]) (.inr Z) Z (fJ Z isAgg80 sizeOf80 Z Z Z u0 Z) (Fin.mirW (o:=tM (jE L)) (jS ((jE L).map Prod.fst)) Z Z Z (by rw[jO];exact c.symm) Z) ?_;exact Qq
theorem Pj(L:List B_)(D:C L<1000000)(E:∀t∈L,T t<1000000000)(B:H.get 710=ζ):aU φ 42 [.pv (aK L)] H (λr H'=>r=.agg [.pv (aK (cD L)),.mp 710 0]/\H'=(710,WF (tM (jE L)))::H) :=aU.frame (Fk L D E) (λ_ _ h=>by cases h) (λ_ _ h=>by cases h) H_ (λid h=>.inr (by
  by_cases e:id=710
  .rw[e];exact B
  rw[get_cons_other _ _ e]at h;cases h))
theorem QG(t:B_)(H:aF)(F:T t<1000000000):RC 17 [sv t] (.pv (aK (if(tI t).isSome=A then[t]else[]))) H:=by
 refine Pu ?_;have B:=λH=>TN (ν (μ t)) i8 H;rw[gA]at B;rw[tI];generalize dU (ν (μ t))=G at B |-;refine Bd func17 Z ntmps17<|Sz aH<|S<|U aA<|Y (kc call54 (B _))<|Y aA<|Y dK<|Y dK<|Y (kl 3 fx)<|Uu (jH bJ)<|V aH<|U aA<|V xN<|Cn ?_ ?_<;>intro D
 .have hne:G.2≠0:=by have:=D;intro e;rw[e]at this;exact absurd this E_
  rw[a8 hne];refine Sz aH<|aC<|cR (H':=[]) (.inr Z) Z (aI Z) (P_ (r:=.pv (aK []))) ?_;exact Qq
 have E:G.2=0:=by have:=D;by_cases e:G.2=0;exact e;rw[Á e]at this;cases this
 rw[b6 E];exact aB<|U aA<|Y (aM [[.str t]] Z aY Z Z Z Z Z R_)<|V aH<|aC<|Rt<|Qq
end Go.Proofs.C
end
namespace Go.Abs
section
section
variable{α:Type}
def aHO(κ:KeyKind α)(l:List (α×AV×Nat)):List (List AV):=l.map λp=>[.pv (κ.pv p.1),p.2.1,.pv (.int .i64 (p.2.2:Int))]
variable [DecidableEq α]
end
end
section
section
variable{P:Program}{i_:Nat}{o:Oper}{E:dG}{H:aF}{f_ J3:TypeId}{x:Operand}{q gq:Nat}{oq:Ob}{s:B_}{k:Nat}
abbrev SI(s:B_)(k:Nat):List (List AV):=[[.pv (.str s),.pv (.int .i64 k)]]
theorem sq(D:o.op=.range J3 x)(R:P.underlying J3=N .string)(f:aR E x=N (.pv (.str s)))(d:H.get q=ζ):
  cQ P i_ o E H (.it q 0) ((q,⟨0,0,0,SI s 0⟩)::H):=by
 intro a w I ι _ _ e W K Q c;have G:=(aJ W f).str_inv;have ⟨k2,g⟩:=Rel.placeX (H':=(q,⟨0,0,0,SI s 0⟩)::H) (id:=q) (cap:=1) (ob':=⟨0,0,0,SI s 0⟩) (x:=.stringIter s 0) (w':=w.alloc (.stringIter s 0)) e Z Z Z Z
  (λo D=>by rw[d]at D;cases D) (λJ L F=>.inr (.inr (.inr (.inr ⟨Z,w.heap.size,s,0,H_,J,L,Z,_,_,Z,.pv (.str _),.pv (.int _ _)⟩))))
  (get_cons_same _ _ _) (λj b=>get_cons_other _ _ b)
 have B:(execOp a.eval o).run P w=.ok (.value (.pointer (N ⟨w.heap.size,0,ζ⟩))) (w.alloc (.stringIter s 0)):=by
  simp only[execOp,D,G];simp[Instr.range,run_underlying R]
 unfold Oper.wpW;rw[B];exact c _ _ I _ _ _ ⟨Z,Z⟩ (.it ⟨0,0,0,SI s 0⟩ (get_cons_same _ _ _) (h_ _) Z λ_=>⟨Z,w.heap.size,H_,Z⟩) k2 g
theorem Km{w:World}{I:Nat->Prop}{ι:mG}{b:Nat}(e_:Rel I ι H w)(R:H.get q=N oq)(W:oq.sz=0)(G:oq.rows=SI s k)(t:ι q=N (b,1)):w.heap[b]?=N (.stringIter s k)/\¬ I b:=by
 have ⟨_,c,e,a,D,J,K,d,m,kk,E,L,P⟩:=(e_.obj q oq R).str W t (by rw[G];rfl);rw[t]at D;cases D;rw[G]at E;cases E;have B:=L.str_inv;injection B with B;have F:=P.int_inv;injection F with _ F;have Q:a=k:=X
 subst B Q;exact⟨J,K⟩
theorem Ey{c v:Nat}(p:o.op=.next x A)(z:aR E x=N (.it q gq))(R:H.get q=N oq)(f:oq.g=gq)(r:oq.rows=SI s k)(n:k<T s)(j:Utf8.decode s k=(c,v)):
  cQ P i_ o E H (.tup [.pv (.bool A),.pv (.int .i64 k),.pv (.int .i32 c)]) ((q,⟨gq,0,oq.ty,SI s (k+v)⟩)::H):=by
 intro a w I ι _ _ e l K Q h;have ⟨g,b,t,F⟩:=Qd (aJ l z) R f;have ⟨J,e3⟩:=Km e R g r t;have G:(Instr.next (.pointer (N ⟨b,0,ζ⟩)) A o.type).run P w=.ok (.tuple #[.bool A,.int .i64 k,.int .i32 c]) (World.setObj w b (.stringIter s (k+v))):=by
  have y:∀q:Obj,(setObj b q).run P w=.ok () (World.setObj w b q):=λq=>by simp[setObj,Sem.run,J,World.setObj]
  simp only[Instr.next,getObj,Sem.run_bind,Sem.run,J,Result.andThen,n,if_true,j,y];rfl
 have ⟨k2,k3⟩:=Rel.rewrite (H':=(q,⟨gq,0,oq.ty,SI s (k+v)⟩)::H) (ob':=⟨gq,0,oq.ty,SI s (k+v)⟩) (x:=.stringIter s (k+v)) e R t g J Z Z f.symm Z
  (λ_ W L H4=>.inr (.inr (.inr (.inr ⟨Z,b,s,k+v,t,W,L,Z,_,_,Z,.pv (.str _),.pv (.int _ _)⟩)))) (get_cons_same _ _ _) (λj m=>get_cons_other _ _ m)
 unfold Oper.wpW execOp;simp only[p,F,Sem.run_bind,G,Result.andThen_ok,Sem.run_pure];refine h _ _ I ι _ _ ⟨Z,Z⟩ (.tup Z (λi u d B D=>?_)) k2 k3
 match i with
 |0=>simp at B D;subst B D;exact .pv (.bool _)
 |1=>simp at B D;subst B D;exact .pv (.int _ _)
 |2=>simp at B D;subst B D;exact .pv (.int _ _)
 |i+3=>simp at B
theorem WN(f:o.op=.next x A)(h:aR E x=N (.it q gq))(J:H.get q=N oq)(e:oq.g=gq)(g:oq.rows=SI s k)(m:T s<=k):
  cQ P i_ o E H (.tup [.pv (.bool η)]) H:=by
 intro a w I ι _ _ G c K Q W;have ⟨j,b,t,F⟩:=Qd (aJ c h) J e;have ⟨R,l⟩:=Km G J j g t;have B:(Instr.next (.pointer (N ⟨b,0,ζ⟩)) A o.type).run P w=.ok (.tuple #[.bool η]) w:=by
  simp only[Instr.next,getObj,Sem.run_bind,Sem.run,R,Result.andThen,a8 (show ¬ k<T s by omega),Sem.run_pure]
 unfold Oper.wpW execOp;simp only[f,F,Sem.run_bind,B,Result.andThen_ok,Sem.run_pure];refine W _ _ I ι _ _ ⟨Z,Z⟩ (.tup Z (λi u d D L=>?_)) G (Step.refl _ _ _ _)
 match i with
 |0=>simp at D L;subst D L;exact .pv (.bool _)
 |i+1=>simp at D
theorem cn{n:Int}{j:IntKind}(f:o.op=.convert f_ J3 x)(B:P.underlying f_=N (.int j))(g:P.underlying J3=N .string)(h:aR E x=N (.pv (.int j n))):cQ P i_ o E H (.pv (.str (Utf8.encode n))) H :=.of_run λa w I ι _ c=>⟨.string (Utf8.encode n),by
  have e:=(aJ c h).int_inv;simp[execOp,f,e,convert,run_underlying B,run_underlying g,Conv.intToString],.pv (.str _)⟩
end
end
end Go.Abs
namespace Go.Proofs.C
open Go.Proofs.Tryz
open Go.Abs Go.Lib
variable{i:B_}{H:aF}
def sM(f_:List B_):List (B_×PV):=f_.map λi=>(i,.bool A)
theorem aBq(f_:List B_):(sM f_).map Prod.fst=f_:=by rw[sM,Û];exact map_id' _
theorem aBp(f_:List B_)(i:B_):(AB (pM (sM f_)) i).getD (bv η)=bv (θ (i∈f_)):=by
 rw[sb,sM,find?_map];show (Option.map _ ((f_.find? λp=>θ (p=i)).map _)).getD _=_;cases h:f_.find? λp=>θ (p=i)with
 |none =>
  rw[Á λD=>find?_eq_none.1 h i D (À Z)];rfl
 |some p =>
  have B:=b9 (find?_some (p:=λp=>θ (p=i)) h);subst B;rw[À (mem_of_find?_eq_some h)];rfl
theorem aBo{f_:List B_}(h:i∉f_):xX (pM (sM f_)) i (bv A)=pM (sM (f_++[i])):=by rw[rz (.bool A) (by rw[aBq];exact h),sM,sM,Ç];rfl
abbrev CD(L:List (List B_)):List (List AV):=L.map λw=>[.pv (aK w)]
theorem vD(L:List (List B_)):∀r∈CD L,∀a∈r,Clo H a:=by intro r D a B;obtain ⟨w,_,rfl⟩:=mem_map.1 D;rw[q9]at B;subst B;exact .pv _
instance(L:List (List B_)):W_ (H) (CD L):=⟨vD L⟩
theorem sU(L:List (List B_)):CD L=(L.map r6).map (·.map AV.pv):=by rw[Û];rfl
abbrev rpO(A_:List B_)(r:GRep):Ob:=bx 6 84 [.pv (aK A_),.mp 710 0,.osl 721 (C r.sent) 0 (C r.sent),.mp 720 0,.osl 722 (C r.wants) 0 (C r.wants),.osl 723 (C r.offers) 0 (C r.offers)]
abbrev WJ(A_:List B_)(o:List (B_×B_))(r:GRep):aF:=[(718,rpO A_ r),(710,WF (tM o)),(720,WF (sM r.sent)),(721,⟨C r.sent,1,9,bP (r.sent.map (iV o))⟩),(722,⟨C r.wants,1,22,CD r.wants⟩),(723,⟨C r.offers,1,22,CD r.offers⟩)]
theorem aBC{B D E F G H:Nat}{a b c d e f I J K L P Q:Ob}{id:Nat}(h:(aF.get [(B,a),(D,b),(E,c),(F,d),(G,e),(H,f)] id).isSome=A):(aF.get [(B,I),(D,J),(E,K),(F,L),(G,P),(H,Q)] id).isSome=A:=by simp only[aF.get]at h |-;generalize Nat.beq B id=x1,Nat.beq D id=x2,Nat.beq E id=x3,Nat.beq F id=x4,Nat.beq G id=x5,Nat.beq H id=R at h |-;cases x1<;>cases x2<;>cases x3<;>cases x4<;>cases x5<;>cases R<;>first|rfl|exact h
theorem Wp(A_:List B_)(o:List (B_×B_))(r:GRep)(i:B_)(K:∀i,i∈o.map Prod.fst↔i∈A_)(L:C r.sent<2^40):aU φ 44 [.ref 718 0 0 0,sv i] (WJ A_ o r) (λx H'=>x=.tup []/\H'=WJ A_ o ⟨jT A_ r.sent i,r.wants,r.offers⟩):=by
 have ⟨H,D⟩:=Kj o i;have D:(AB (pM (tM o)) i).isSome=decide (i∈A_):=D.trans (decide_eq_decide.2 (K i));have I:=aBp r.sent i;have ⟨b,E⟩:∃b,b=(decide (i∈A_)&&!decide (i∈r.sent)):=X_;rw[jT,<-E];refine Bd func44 Z ntmps44<|U aA<|Y pQ<|Y (bC UZ)<|Y (bC vc)<|Y (bT isAgg78)<|Y aA<|Y (by exact cQ.eqv (IG (κ:=KH) Z underlying78 U_ Z Z Z Z Z gY (.inl Z)) (show AV.tup [(AB (pM (tM o)) i).getD (sv a6),.pv (.bool (AB (pM (tM o)) i).isSome)]=.tup [sv (iV o i),bv (decide (i∈A_))]by rw[H,D]))<|Y aA<|Y dK<|Y dK<|Y aH<|V aH<|S<|aT (t:=25) (n:=11) (A_:=b) ?_ ?_
 ·all_goals refine Y aA<|Dm ?_<;>(refine Sp 17 (λJ=>?_) λJ=>?_)<;>(try exact w_)<;>(first|refine M<|M<|M<|M<|M<|M<|M ?_|refine O aA<|O pQ<|O (bC Qx)<|O (bT isAgg82)<|O aA<|O (by exact cQ.eqv (JB (κ:=KH) Z mQ U_ Z Z Z Z Z jG (.inl Z)) I)<|O iJ ?_)<;>refine V cE ?_<;>exact Gj (h:=by rw[E];(rw[J];rfl))
 refine Cn ?_ ?_<;>intro B
 .have hbt:=E.symm.trans B;rw[l7,r9,q7]at hbt;have G:C (bP (r.sent.map (iV o)))=C r.sent:=by rw[dB,g_]
  have F:C (r.sent++[i])=C r.sent+1:=by rw[j7];rfl
  rw[b6 (show b=true from B)];refine U aA<|Y pQ<|Y (bC Qx)<|Y (bT isAgg82)<|Y aA<|Uu (by exact AC (κ:=KH) (.inl Z) mQ U_ Z Z Z Z Z Z Z (aBo hbt.2))<|Zz<|Rd aA<|Y aA<|Y pQ<|Y (bC vb)<|Y (bT aG)<|Y aA<|Y (by exact aM [[.str (iV o i)]] Z aY Z Z Z Z Z R_)<|Y (by exact bU (k:=r.sent.length+1) (ps:=[[.str (iV o i)]]) Z aY sX Z Z Z Z Z G Z R_ (m:=1) Z X Z (rows':=bP ((r.sent++[i]).map (iV o))) (by rw[Ç];exact gP _ _))<|Y pQ<|Y (bC vb)<|Uu (by exact cM Z sizeOf22 Z Z Z Z Z Z y0 r4 r4) ?_;refine Zz<|pL (H':=WJ A_ o ⟨r.sent++[i],r.wants,r.offers⟩) (.inl Z) Z ?_ ⟨Z,Z⟩;simp only[WJ,rpO,F];exact(Fin.wk r5 (Hc (by(simp;exact⟨Z,Z,Z,Z,Z⟩))<|Hc (dY _)<|Hc (dY _)<|Hc (aL _ _)<|Hb<|Hb<|T_) ⟨Z,Z,Z,Z,Z,Z,T_⟩)
 rw[a8 (by rw[show b=η from B];decide)];refine aB ?_;exact pL (.inl Z) Z Fin.refl ⟨Z,Z⟩
theorem aAt{A_:List B_}{o:List (B_×B_)}{r:GRep}(B:∀i,i∈o.map Prod.fst↔i∈A_)(D:C r.sent<2^40)(E:FB H (WJ A_ o r)):aU φ 44 [.ref 718 0 0 0,sv i] H (λx H'=>x=.tup []/\H'=WJ A_ o ⟨jT A_ r.sent i,r.wants,r.offers⟩++H) :=aU.frame (Wp A_ o r i B D) (FB.sub E) (dO.ofL ⟨(by(simp;exact⟨Z,Z,Z,Z,Z⟩)),(dY _),(dY _),(aL _ _),r5,r5,T_⟩) u3 (λid h=>.inl (aBC h))
end Go.Proofs.C
