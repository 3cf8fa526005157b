/-
  Parts of the proof. Conditions: each theorem's own.
-/
import Derived.Test.YtopnleflllkbmaaGreatDoorKX6sM7
set_option linter.unusedVariables false
set_option linter.unusedSimpArgs false
set_option maxRecDepth 100000
set_option maxHeartbeats 8000000
open List Nat
open List renaming length->C
open Option renaming some->A,none->ζ
open Bool renaming true->T,false->η
open ByteArray renaming size->N,data->μ
open Array renaming toList->ν
open Decidable renaming decide->θ
open Go.IntKind renaming i64->ξ
open Go.Proofs.Tryz renaming prog->φ
open Go.Proofs.YtopnleflllkbmaaGreatDoor
namespace Go.Proofs
open Tryz
theorem rI:type_of% call63:=call63
theorem rG:type_of% call64:=call64
end Go.Proofs
namespace Go.Proofs.C
open Go.Proofs.Tryz
open Go.Abs Go.Lib
def Ix(b c:b7):Bool:=θ (b.text=⟨#[61]⟩)&&θ (c.kind=3)
abbrev mkT(a c:b7):m8:=⟨a.text,c.text⟩
def MJ:List m8->List b7->List m8×Bool
 |acc,[]=>(acc,T)
 |acc,a::b::c::r=>if Ix b c then MJ (acc++[mkT a c]) r else([],η)
 |_,[_]=>([],η)
 |_,[_,_]=>([],η)
theorem Fin.tg2{H1}{id g n}{ob}(l)(v)(b:H1.get id=A ob)(c:ob.g=g)(a:ob.rows=sY l)(d:n=C l)(e:Clo [] v):
  Fin [] H1 (.tup [.osl id g 0 n,v]) [] (.tup [.pv (qM l),v]):=by
 subst c d;exact Fin.fz _ b (a.trans (by rw[map_map];rfl)) (.tup Z (bA (.osl (lC _ l)) (bA (.same e) jA))) Z T_ T_
theorem aEd{u4:List b7}{i}{a b c}(k:u4[i]?=A a)(d:u4[i+1]?=A b)(h:u4[i+2]?=A c):u4.drop i=a::b::c::u4.drop (i+3):=by have ⟨m,j⟩:=m9.1 k;have ⟨l,f⟩:=m9.1 d;have ⟨e,g⟩:=m9.1 h;rw[drop_eq_getElem_cons m,drop_eq_getElem_cons l,drop_eq_getElem_cons e,j,f,g]
theorem Cm{acc}{u4}(a:0<C u4)(h:C u4<3):MJ acc u4=([],η):=by
 match u4 with
 | []=>exact absurd a (Nat.lt_irrefl 0)
 | [_]=>rfl
 | [_,_]=>rfl
 |_::_::_::_=>rw[j6,j6,j6]at h;omega
theorem M5(u4:List b7)(H:aF)(J:C u4<1000000000):RC 216 [.pv (CY u4)] (.tup [.pv (qM (MJ [] u4).1),bv (MJ [] u4).2]) H:=by
 refine Pu ?_;have I:C (u4.map K_)=C u4:=g_ _;refine Bd func216 Z ntmps216<|U aH<|V aH<|Sz (dZ (id:=906) (sz:=2) (ty:=270) Z Z Z)<|S<|Sz aH<|aE<|eZ (λ(i:Nat) (D:List m8)=>([(0,.pv (CY u4)),(4,.osl 906 (C D) 0 (C D)),(5,iv (i:Int))],[(906,⟨C D,2,270,sY D⟩)])) (λi D=>i<=C u4/\C D<=i/\MJ [] u4=MJ D (u4.drop i)) (λi _=>C u4 - i) 0 [] ⟨l7 _,h_ _,Z⟩ ?_ ?_
 .exact L_
 rintro i D ⟨hi,hA,g⟩;refine S<|U aA<|Y aA<|Y (fM cU)<|V cI<|Cn ?_ ?_<;>intro l
 .have t:i<C u4:=I_ l
  have ⟨a,B⟩:=aR t;have G:=cC (f:=K_) B;by_cases E:i+2<C u4
  .have ⟨b,d_⟩:=aR (l:=u4) (k:=i+1) X;have ⟨c,z⟩:=aR E;have p:=cC (f:=K_) d_;have o:=cC (f:=K_) z;have q:=aEd B d_ z;rw[q,MJ]at g;have x:¬ (θ ((C (u4.map K_):Int)<=(i:Int)+2)=T):=G_
   refine aB<|S<|aE<|S<|S<|aT (t:=34) (n:=25) (A_:=!Ix b c) ?_ ?_
   .all_goals refine Y aA<|Y iD<|Y aA<|Y (fM cU)<|Y AF<|Dm ?_<;>(refine Sp 17 (λk=>?_) λk=>?_)<;>(try contradiction)<;>refine O aA<|O aA<|O iD<|O (bP Z iI Z Z X (show ((i:Int)+1).toNat=i+1 by omega) p Z)<|O (F9 iN)<|O (fS N_)<|O E4<|Y cD<|Dm ?_<;>(refine Sp 26 (λj=>?_) λj=>?_)<;>(first|exact s_|refine M<|M<|M<|M<|M<|M<|M ?_|refine O aA<|O aA<|O iD<|O (bP Z iI Z Z X (show ((i:Int)+2).toNat=i+2 by omega) o Z)<|O (F9 vN)<|O (fS M_)<|O xI ?_)<;>refine V cD ?_<;>exact Gj (h:=by(rw[Ix];simp_all))
   refine Cn ?_ ?_<;>intro n
   .have v:Ix b c=η:=by have h:=n;rwa [r9]at h
    rw[v,a8 H_]at g;rw[g];refine U aH<|V aH<|aC<|gD (H':=[]) (.inr Z) Z (aI Z) (aI Z) (P_ (r:=.tup [.pv (qM []),bv η])) Qq
   have v:Ix b c=T:=by have h:=n;rwa [Bool.not_eq_false']at h
   rw[v,b6 rfl]at g;have s:C (D++[mkT a c])=C D+1:=F_
   refine aB<|aM a7<|Cs (λ_ _=>aA)<|Cs (λ_ _=>aA)<|Cs (λ_ _=>aA)<|Cs (λ_ _=>(iV iI))<|Cs (λ_ _=>(F9 iN))<|Cs (λ_ _=>(fS N_))<|Cs (λ_ _=>aA)<|Cs (λ_ _=>aA)<|Cs (λ_ _=>iD)<|Cs (λD u=>by exact bP Z iI Z Z X (show ((i:Int)+2).toNat=i+2 by omega) o Z)<|Cs (λ_ _=>(F9 iN))<|Cs (λ_ _=>(fS N_))<|Cs (λ_ _=>(oD Qm))<|Cs (λD u=>by exact aL [bU (mkT a c)] Z lU Z Z Z Z Z R_) ?_;refine iP (r:=⟨_,ζ,[_]⟩) (DStep.plain Z (λD u=>by exact bW (ps:=[bU (mkT a c)]) Z lU Po Z ((u _ Z).trans Z) Z Z Z (IJ _) Z R_ (m:=1) Z X Z (IK _ (mkT a c)))) Z ?_;refine Cs (λ_ _=>aH)<|bG<|Kr<|Rd aA<|Y iD<|Da ?_;refine⟨i+3,D++[mkT a c],⟨X,X,g⟩,X,?_⟩;rw[s];exact L_
  have F:MJ [] u4=([],η):=by rw[g];exact Cm u6 u6
  have x:¬ (θ ((C (u4.map K_):Int)<=(i:Int)+2)=η):=by rw[q7];omega
  rw[F];refine aB<|S<|aE<|S<|S<|aT (t:=34) (n:=25) (A_:=T) ?_ ?_
  .all_goals refine Y aA<|Y iD<|Y aA<|Y (fM cU)<|Y AF<|Dm ?_<;>(refine Sp 17 (λk=>?_) λk=>?_)<;>(try contradiction)<;>refine M<|M<|M<|M<|M<|M<|M<|Y cD<|Dm ?_<;>(refine Sp 26 (λj=>?_) λj=>?_)<;>(try contradiction)<;>refine M<|M<|M<|M<|M<|M<|M<|V cD ?_<;>exact Gj (h:=by rfl)
  refine Cn ?_ ?_<;>intro y
  .refine U aH<|V aH<|aC<|gD (H':=[]) (.inr Z) Z (aI Z) (aI Z) (P_ (r:=.tup [.pv (qM []),bv η])) Qq
  cases y
 have w:i=C u4:=J_ l
 rw[w,drop_length,MJ]at g;rw[g];refine aP<|U aA<|Y aH<|V aH<|aC ?_;refine gD (H':=[]) (.inr Z) Z (aI Z) (aI Z) (Fin.tg2 D (bv T) Z Z Z Z H_) ?_;exact Qq
theorem Et(l):IB l=(l.map bL).map (·.map .pv):=by rw[map_map];rfl
def EQ(rE:B_->b8)(s:B_):Nat->Nat×List b8
 |0=>(0,[])
 |i+1=>if θ (aZ s i=10)then(i+1,(EQ rE s i).2++[rE (s.extract (EQ rE s i).1 i)])else EQ rE s i
theorem La(rE)(s):∀i,(EQ rE s i).1<=i/\C (EQ rE s i).2<=i
 |0=>⟨h_ _,h_ _⟩
 |i+1=>by
  obtain ⟨B,D⟩:=La rE s i;rw[EQ]
  grind
theorem gm(rE)(s)(i):∀d,C (EQ rE s i).2<=C (EQ rE s (i+d)).2
 |0=>h_ _
 |d+1=>by
  refine Nat.le_trans (gm _ s i d) ?_;rw[show i+(d+1)=(i+d)+1 by omega,EQ]
  grind
theorem P8{rE}{s}{Q:b8->Prop}(h:∀x,N x<=N s->Q (rE x)):∀i,∀e∈(EQ rE s i).2,Q e
 |0,e,b=>by cases b
 | i+1,e,b=>by
  rw[EQ]at b
  split at b
  .rcases List.mem_append.1 b with c|c
   .exact P8 h i e c
   rw[q9.1 c];exact h _ (gB s _ _)
  exact P8 h i e b
def gPr(rE:B_->b8)(t:B_):List b8×Int:=if 20000<N t then([],2)else if eG (EQ rE t (N t)).2=(t,0)then((EQ rE t (N t)).2,0)else([],5)
theorem Co{rE:B_->b8}(E:∀x:B_,N x<=20000->V4 (rE x)/\C (rE x).refs<2^40)(R:∀(x:B_) (H:aF),N x<=20000->RC 109 [sv x] (av (bL (rE x))) H)(t:B_)(H:aF)(a:N t<1000000000):
  RC 67 [sv t] (.tup [.pv (kP (gPr rE t).1),iv (gPr rE t).2]) H:=by
 refine Pu<|Bd func67 Z ntmps67<|U aH<|V aH<|S<|U aA<|Y (gL U_)<|V iX<|Cn ?_ ?_<;>intro n
 .have J:20000<N t:=I_ n
  rw[gPr,b6 J];refine U aH<|V aH<|aC<|gD (H':=[]) (.inr Z) Z (aI Z) (aI Z) (P_ (r:=.tup [.pv (kP []),iv 2])) Qq
 have J:¬ 20000<N t:=J_ n
 rw[gPr,a8 J];refine aB<|Sz (dZ (id:=905) (sz:=15) (ty:=137) Z Z Z)<|Sz aH<|S<|Sz aH<|aE<|bF (σ:=Nat) (λi=>([(0,sv t),(4,.osl 905 (C (EQ rE t i).2) 0 (C (EQ rE t i).2)),(5,iv ((EQ rE t i).1:Int)),(6,iv (i:Int))],[(905,⟨C (EQ rE t i).2,15,137,IB (EQ rE t i).2⟩)])) (λi=>i<=N t) (λi=>N t - i) 0 (l7 _) ?_ ?_
 .exact L_
 rintro i r4;have ⟨I,D⟩:=La rE t i;have c:EQ rE t (i+1)=if θ (aZ t i=10)then(i+1,(EQ rE t i).2++[rE (t.extract (EQ rE t i).1 i)])else EQ rE t i:=rfl;have m:=gm rE t i (N t - i);rw[show i+(N t - i)=N t by omega]at m;have d:=P8 (rE:=rE) (s:=t) (Q:=λe=>V4 e/\C e.refs<2^40) (λx w=>E x X) i;rcases l:EQ rE t i with⟨f,L⟩;simp only[l]at I D c m d |-;refine S<|S<|aT (t:=20) (n:=10) (A_:=θ ((i:Int)<(N t:Int))&&θ ((C L:Int)<=200)) ?_ ?_
 ·all_goals refine Y aA<|Y aA<|Y (gL U_)<|Y cI<|Dm ?_<;>(refine Sp 16 (λy=>?_) λy=>?_)<;>(first|contradiction|refine M<|M<|M ?_|refine O aA<|O (by exact dR Z fD Z Z Z)<|O H7 ?_)<;>refine V cD ?_<;>(exact⟨⟨_,Z,G_⟩,Z,Z,Z⟩)
 refine Cn ?_ ?_<;>intro u
 .have hlt:i<N t:=by have h:=u;rw[l6,k_]at h;omega
  refine aB<|S<|aE<|U aA<|Y aA<|Y (ky U_)<|V cF<|Cn ?_ ?_<;>intro q
  .have F:θ (aZ t i=10)=T:=q;rw[F,b6 rfl]at c;have ⟨x,w⟩:∃x,x=t.extract f i:=X_;have z:N x<=20000:=by rw[w];have:=gB t f i;omega
   rw[<-w]at c;have G:C (L++[rE x])=C L+1:=F_
   refine U aA<|Y aA<|Y aA<|Y aA<|Y (by exact bM (l:=f) (h:=i) Z U_ Z Z Z I r4 w.symm)<|Y (kc call109 (R x _ z))<|Y (by exact aL [bL (rE x)] Z fo Z Z Z Z Z R_)<|Y (by exact bW (ps:=[bL (rE x)]) Z fo aAZ Z Z Z Z Z (YV _) Z R_ (m:=1) Z X Z (YW L (rE x)))<|V aH<|Rd aA<|Y iD<|V aH<|Rd aA<|Y iD<|Da ?_;refine⟨i+1,X,X,?_⟩;rw[c];simp only;rw[G];exact(cH.wk (Eb<|Ea<|Eb<|Eb<|T_) (Hc (xZ _ _)<|T_) T_)
  have F:θ (aZ t i=10)=η:=q;rw[F,a8 H_]at c;refine aB<|Rd aA<|Y iD<|Da ?_;refine⟨i+1,X,X,?_⟩;rw[c];exact L_
 have j:i=N t\/200<C L:=by have h:=u;rw[Bool.and_eq_false_iff,q7,q7]at h;omega
 have v:(if eG (EQ rE t (N t)).2=(t,0)then((EQ rE t (N t)).2,(0:Int))else([],5))=if eG L=(t,0)then(L,0)else([],5):=by
  rcases j with e|e
  .rw[<-e,l]
  have o:∀P:List b8,200<C P->¬ eG P=(t,0):=λP W h=>by
   rw[eG]at h
   split at h
   .next K=>have:=(OY K).2.1;omega
   have:=congrArg Prod.snd h;cases this
  rw[a8 (o _ X),a8 (o _ e)]
 rw[v];refine fW.ent (cH.fzG (id:=905) (E':=[(0,sv t),(4,.pv (kP L))]) (H':=[]) (L.map bL) Z (Et L) ?_ Z ?_ ?_) ?_
 .intro p l;simp only[l9,q8,or_false]at l;rcases l with rfl|rfl
  .exact⟨_,Z,.same (by simp;try rfl)⟩
  exact⟨_,Z,.osl (lC bL L)⟩
 .exact T_
 .exact T_
 refine aP<|U aA<|Y (kc call110 (SK L _ X (λe h=>(d e h).1) (λe h=>(d e h).2)))<|Y aA<|Y dO<|Y dO<|Y aH<|V aH<|S<|S<|aT (t:=48) (n:=8) (A_:=!θ ((eG L).2=0)||!θ ((eG L).1=t)) ?_ ?_
 .all_goals refine Y aA<|Y xI<|Dm ?_<;>(refine Sp 44 (λk=>?_) λk=>?_)<;>(first|exact s_|refine M<|M<|M ?_|refine O aA<|O aA<|O E4 ?_)<;>refine V cD ?_<;>exact Gj (h:=by(rw[k];rfl))
 refine Cn ?_ ?_<;>intro g
 .have i_:eG L≠(t,0):=λe=>by have h:=g;rw[e]at h;simp at h
  rw[a8 i_];refine U aH<|V aH<|aC<|gD (H':=[]) (.inr Z) Z (aI Z) (aI Z) (P_ (r:=.tup [.pv (kP []),iv 5])) Qq
 have B:eG L=(t,0):=by have h:=g;simp only[q_,Bool.not_eq_false',k_]at h;exact Prod.ext h.2 h.1
 rw[b6 B];exact aB<|U aA<|Y aH<|V aH<|aC<|Ru<|Qq
theorem il{s}{i}(hi:i<N s)(h:nH s i=2):vT s i=T:=by rw[nH,b6 hi]at h;have a:=(cm s i).2.1;rw[h]at a;have e:=b9 (a.trans Z);rw[vT,decide_eq_true hi,e];rfl
theorem MX{s}{i j}(h:fE s i=(ζ,j))(hi:i<N s):i<j/\j<=N s:=by
 rw[fE]at h
 split at h
 .grind
 split at h
 .rename_i b;cases h;have a:=il hi b;have ⟨l1,l2⟩:=GL (vT s) (N s - i) i;rw[G4];refine⟨?_,X⟩;rcases Nat.lt_or_ge i _ with h|h
  .exact h
  have e:zM (vT s) (N s - i) i=i:=X
  have:=xV (vT s) (N s - i) i X;rw[e,a]at this;cases this
 grind
theorem GE(s):∀(n m i),N s - i<n->N s - i<m->kM s n i=kM s m i
 |0,_,_,h,_=>by omega
 |_+1,0,_,_,h=>by omega
 | n + 1, m + 1, i, h1, h2 => by
  rw[kM,kM];by_cases b:i<N s
  .rw[b6 b,b6 b];cases d:fE s i with
   | mk o j =>
    cases o with
    |none =>
     have:=MX d b;exact GE s n m j X X
    |some f =>
     show f::_=f::_;congr 1;by_cases c:f.err=0
     .have:=PY d c b;rw[b6 c,b6 c];exact GE s n m j X X
     simp_all
  grind
def HF(s:B_)(i:Nat):List b7:=kM s (N s+1) i
theorem WT{s}{i j}(hi:i<N s)(h:fE s i=(ζ,j)):HF s i=HF s j:=by have:=MX h hi;rw[HF,kM,b6 hi,h];exact GE s _ _ j X X
theorem Bb{s}{i j}{f}(hi:i<N s)(h:fE s i=(A f,j))(a:f.err=0):HF s i=f::HF s j:=by have:=PY h a hi;rw[HF,kM,b6 hi,h];show f::(if f.err=0 then _ else _)=_;rw[b6 a];congr 1;exact GE s _ _ j X X
theorem Iu{s}{i j}{f}(hi:i<N s)(h:fE s i=(A f,j))(B:f.err≠0):HF s i=[f]:=by
 rw[HF,kM]
 simp_all
theorem Iv{s}{i}(hi:¬ i<N s):HF s i=[]:=by rw[HF,kM,a8 hi]
theorem zh(s:B_)(e:Nat)(H:aF)(J:N s<2^40)(F:e<=N s):aU φ 218 [sv s,iv (e:Int)] H (λr H'=>∃j,r=iv ((j:Nat):Int)/\e<=j/\j<=N s/\HF s e=HF s j/\(j<N s->nH s j≠1/\nH s j≠2)/\H'=H):=by
 refine Bd func218 Z ntmps218<|Sz aH<|S<|aE<|bF (σ:=Nat) (λi=>([(0,sv s),(1,iv (i:Int))],H)) (λi=>e<=i/\i<=N s/\HF s e=HF s i) (λi=>N s - i) e ⟨h_ _,F,Z⟩ ?_ ?_
 .exact E0
 rintro i ⟨hge,B,d⟩;refine S<|U aA<|Y aA<|Y (gL U_)<|V cI<|Cn ?_ ?_<;>intro o
 .have b:i<N s:=I_ o
  have x:nH s i=yZ (aZ s i):=by rw[nH,b6 b]
  have ⟨z,y,_⟩:=cm s i;rw[<-x]at z y;refine aB<|aE<|U aA<|Y aA<|Y (ky U_)<|V (bH Z Z call262 Z (Oz ⟨#[32,9,10]⟩ (aZ s i) _ E_))<|Cn ?_ ?_<;>intro t
  .have u:nH s i=1:=b9 (z.symm.trans t);have c:fE s i=(ζ,i+1):=by rw[fE,b6 u]
   refine Rd aA<|Y iD<|Da ?_;exact⟨i+1,⟨X,b,d.trans (WT b c)⟩,X,E0⟩
  have u:nH s i≠1:=b_ (z.symm.trans t);refine U aA<|Y aA<|Y (ky U_)<|V cF<|Cn ?_ ?_<;>intro q
  .have v:nH s i=2:=b9 (y.symm.trans q);have c:fE s i=(ζ,G4 s i):=by rw[fE,a8 u,b6 v]
   refine aE<|bF (σ:=Nat) (λk=>([(0,sv s),(1,iv (k:Int))],H)) (λk=>i<=k/\k<=N s/\∀j,i<=j->j<k->vT s j=T) (λk=>N s - k) i ⟨h_ _,B,λj u v=>by omega⟩ ?_ ?_
   .exact E0
   rintro k ⟨w,D,p⟩;refine S<|S<|aT (t:=28) (n:=11) (A_:=θ ((k:Int)<(N s:Int))&&!θ (aZ s k=10)) ?_ ?_
   .all_goals refine Y aA<|Y aA<|Y (gL U_)<|Y cI<|Dm ?_<;>(refine Sp 23 (λg=>?_) λg=>?_)<;>(first|exact s_|refine M<|M<|M<|M ?_|refine O aA<|O aA<|O (cK Z U_ Z Z X (l_ _) (I_ g) Z)<|O xI ?_)<;>refine V cD ?_<;>(exact⟨⟨_,Z,G_⟩,Z,Z,Z⟩)
   refine Cn ?_ ?_<;>intro f
   .have h:=f;rw[l6,k_]at h;have l:k<N s:=X
    have I:vT s k=T:=by rw[vT,decide_eq_true l,Bool.true_and];grind
    refine aB<|aE<|Rd aA<|Y iD<|Da ?_;refine⟨k+1,⟨X,l,λj u v=>?_⟩,X,E0⟩
    grind
   have n:G4 s i=k:=by
    refine zW (vT s) w X p ?_;rcases Nat.lt_or_ge k (N s) with h|h
    .left;have E:=f;rw[decide_eq_true (show (k:Int)<(N s:Int)by omega),Bool.true_and]at E;rw[vT,E,Bool.and_false]
    omega
   rw[n]at c;have G:=MX c b;refine aP ?_;exact⟨k,⟨X,D,d.trans (WT b c)⟩,X,E0⟩
  have v:nH s i≠2:=b_ (y.symm.trans q);refine U aA<|V aH<|aC<|cT (H':=H) (.inr Z) Z (aI Z) Fin.refl ?_
  grind
 have m:i=N s:=J_ o
 subst m;refine aP<|U aA<|V aH<|aC<|cT (H':=H) (.inr Z) Z (aI Z) Fin.refl ?_
 grind
def aAg:b7:=⟨0,a6,0,0⟩
def Na(s:B_)(i:Nat):b7×Int×Int:=match fE s i with
 |(A f,j)=>if f.err=0 then(f,(j:Int),0)else(aAg,0,f.err)
 |(ζ,_)=>(aAg,0,0)
theorem LA{s}{i j}{f}(h:fE s i=(A f,j))(B:f.err=0):Na s i=(f,(j:Int),0):=by
 rw[Na]
 simp_all
theorem TF{s}{i j}{f}(h:fE s i=(A f,j))(B:f.err≠0):Na s i=(aAg,0,f.err):=by
 rw[Na]
 simp_all
theorem XQ{s}{k}(h:k<N s):vS s k=He (aZ s k):=by
 have ⟨c1,c2,c3⟩:=UR s k;have a:nH s k=yZ (aZ s k):=by rw[nH,b6 h]
 rw[vS,a,c1,c2,c3];rfl
theorem im{s}{k}(h:k<N s):PB s k=yQ (aZ s k):=by
 have ⟨c1,c2,c3⟩:=UR s k;have a:nH s k=yZ (aZ s k):=by rw[nH,b6 h]
 rw[PB,a,c2]
def aDf(p:b7×Int×Int):AV:=.tup [av (K_ p.1),iv p.2.1,iv p.2.2]
theorem Ue{s}{i:Nat}{H}(b:N s<2^40)(hi:i<N s)(a:oJ (s.data.toList.drop (i+1))=ζ):RC 263 [sv s,iv i] (.tup [sv a6,iv 0,bv η]) H:=by
 have:=wa s i H b hi
 rwa [a]at this
theorem Ud{s}{i:Nat}{H}{p}(b:N s<2^40)(hi:i<N s)(c:oJ (s.data.toList.drop (i+1))=A p):RC 263 [sv s,iv i] (.tup [sv ⟨p.1.toArray⟩,iv ((i+(p.2+1):Nat)),bv T]) H:=by
 have:=wa s i H b hi;rw[c]at this;have e:yA (A p) [] (i+1)=(⟨p.1.toArray⟩,((i+(p.2+1)):Int)):=by
  show ((⟨([]++p.1).toArray⟩:B_),((i+1+p.2):Int))=_
  grind
 rw[e]at this;exact this
theorem Ng(s:B_)(i:Nat)(H:aF)(hs:N s<2^40)(hi:i<N s)(b:nH s i≠1)(c:nH s i≠2):RC 219 [sv s,iv (i:Int)] (aDf (Na s i)) H:=by
 refine aU.pure ?_ (by simp[aDf]) H;have v_:nH s i=yZ (aZ s i):=by rw[nH,b6 hi]
 have ⟨c1,c2,c3⟩:=UR s i;have ⟨q1,q2,u4,z_,q5⟩:=cm s i;rw[<-v_]at c1 c2 c3 q1 q2 u4 z_;refine Bd func219 Z ntmps219<|U (kl 4 uz)<|Y aH<|V aH<|U aA<|Y iD<|V aH<|U aA<|Y aA<|Y (cK Z U_ Z Z X x7 hi Z)<|V aH<|S<|U aA<|V (kc call168 (M6 (aZ s i) _))<|Cn ?_ ?_<;>intro E
 .have o:nH s i=3:=b9 (c1.trans E);have B:fE s i=(A (AZ s i (CO s i)),CO s i):=by rw[fE,a8 b,a8 c,b6 o]
  refine S<|aE<|bF (σ:=Nat) (λk=>([(0,sv s),(1,iv (i:Int)),(4,.ref 4 0 0 0),(7,iv (k:Int))],[(4,bx 3 189 [iv 0,sv a6,iv 0])])) (λk=>i<k/\k<=N s/\∀j,i<=j->j<k->vS s j=T) (λk=>N s - k) (i+1) ⟨lt_succ_self _,hi,λj x f_=>?_⟩ ?_ ?_
  .obtain rfl:j=i:=X
   rw[vS,o];rfl
  .exact Wk
  rintro k ⟨hik,hk,hall⟩;refine S<|S<|aT (t:=28) (n:=11) (A_:=θ ((k:Int)<(N s:Int))&&He (aZ s k)) ?_ ?_
  .all_goals refine Y aA<|Y aA<|Y (gL U_)<|Y cI<|Dm ?_<;>(refine Sp 23 (λD=>?_) λD=>?_)<;>(first|exact s_|refine M<|M<|M<|M ?_|refine O aA<|O aA<|O (cK Z U_ Z Z X (l_ _) (I_ D) Z)<|O (kc call167 (Z8 (aZ s k) _)) ?_)<;>refine V cD ?_<;>(exact⟨⟨_,Z,G_⟩,Z,Z,Z⟩)
  refine Cn ?_ ?_<;>intro L
  .have h:=L;rw[l6,k_]at h;have a:k<N s:=X
   have hp:vS s k=T:=by rw[XQ a];grind
   refine aB<|aE<|Rd aA<|Y iD<|Da ?_;refine⟨k+1,⟨X,a,λj x f_=>?_⟩,X,Wk⟩
   grind
  have J:CO s i=k:=by
   refine zW (vS s) (Nat.le_of_lt hik) X hall ?_;rcases Nat.lt_or_ge k (N s) with h|h
   .left;have r4:=L;rw[decide_eq_true (show (k:Int)<(N s:Int)by omega),Bool.true_and]at r4;rw[XQ h,r4]
   omega
  rw[J]at B;have e:ξ.wrap ((k:Int) - (i:Int))=((k - i:Nat):Int):=by rw[IntKind.wrap_i64];omega
  refine aP<|S<|U aA<|Y aA<|Y (dT Z Z Z e)<|V iX<|Cn ?_ ?_<;>intro I
  .have m:24<k - i:=I_ I
   have f:=TF B (by show (if 24<k - i then(2:Int)else 0)≠0;omega);have A_:(AZ s i k).err=2:=b6 m;rw[A_]at f;rw[f];refine U (oD IE)<|Uu (jG sizeOf189)<|Y aH<|V aH<|aC<|mK (H':=[]) (.inr Z) Z (C1 jB sizeOf189) (aI Z) (aI Z) (P_ (r:=.tup [.agg [iv 0,sv a6,iv 0],iv 0,iv 2])) Qq
  have m:¬ 24<k - i:=J_ I
  have A_:(AZ s i k).err=0:=a8 m;rw[LA B A_];refine aB<|U aA<|Y aA<|Y aA<|Y (bM (l:=i) (h:=k) Z U_ Z Z Z X X Z)<|Y aA<|Y (oD IE)<|Y aA<|Uu (jG sizeOf189)<|Y aH<|V aH<|aC<|mK (H':=[]) (.inr Z) Z (C1 jB sizeOf189) (aI Z) (aI Z) (P_ (r:=.tup [.agg [iv 1,sv (s.extract i k),iv (i:Int)],iv ((k:Nat):Int),iv 0])) Qq
 have o:nH s i≠3:=b_ (c1.trans E);refine aB<|S<|U aA<|V (kc call224 (SP (aZ s i) _))<|Cn ?_ ?_<;>intro v
 .have u:nH s i=4:=b9 (c2.trans v);have B:fE s i=(A (H9 s i (JN s i)),JN s i):=by rw[fE,a8 b,a8 c,a8 o,b6 u]
  refine S<|aE<|bF (σ:=Nat) (λk=>([(0,sv s),(1,iv (i:Int)),(4,.ref 4 0 0 0),(7,iv (k:Int))],[(4,bx 3 189 [iv 0,sv a6,iv 0])])) (λk=>i<k/\k<=N s/\∀j,i<=j->j<k->PB s j=T) (λk=>N s - k) (i+1) ⟨lt_succ_self _,hi,λj x f_=>?_⟩ ?_ ?_
  .obtain rfl:j=i:=X
   rw[PB,u];rfl
  .exact Wk
  rintro k ⟨hik,hk,hall⟩;refine S<|S<|aT (t:=54) (n:=11) (A_:=θ ((k:Int)<(N s:Int))&&yQ (aZ s k)) ?_ ?_
  .all_goals refine Y aA<|Y aA<|Y (gL U_)<|Y cI<|Dm ?_<;>(refine Sp 49 (λy=>?_) λy=>?_)<;>(first|exact s_|refine M<|M<|M<|M ?_|refine O aA<|O aA<|O (cK Z U_ Z Z X (l_ _) (I_ y) Z)<|O (kc call224 (SP (aZ s k) _)) ?_)<;>refine V cD ?_<;>exact Gj (h:=by(rw[y];rfl))
  refine Cn ?_ ?_<;>intro K
  .have h:=K;rw[l6,k_]at h;have a:k<N s:=X
   have hp:PB s k=T:=by rw[im a];exact h.2
   refine aB<|aE<|Rd aA<|Y iD<|Da ?_;refine⟨k+1,⟨X,a,λj x f_=>?_⟩,X,Wk⟩;rcases Nat.lt_or_ge j k with h|h
   .exact hall j x h
   obtain rfl:j=k:=X
   exact hp
  have d:k<N s->yQ (aZ s k)=η:=λh=>by
   have r4:=K
   rwa [decide_eq_true (show (k:Int)<(N s:Int)by omega),Bool.true_and]at r4
  have J:JN s i=k:=by
   refine zW (PB s) (Nat.le_of_lt hik) X hall ?_;rcases Nat.lt_or_ge k (N s) with h|h
   .left;rw[im h,d h]
   right;omega
  rw[J]at B;have e:ξ.wrap ((k:Int) - (i:Int))=((k - i:Nat):Int):=by rw[IntKind.wrap_i64];omega
  have hw:(θ ((k:Int)<(N s:Int))&&He (aZ s k))=(θ (nH s k=3)||θ (nH s k=5)):=by
   rcases Nat.lt_or_ge k (N s) with h|h
   .have ⟨d1,d2,d3⟩:=UR s k;rw[nH,b6 h,d1,d3,He,d h,Bool.or_false,decide_eq_true (show (k:Int)<(N s:Int)by omega),Bool.true_and]
   rw[nH,a8 X,decide_eq_false (show ¬ (k:Int)<(N s:Int)by omega)];rfl
  refine aP<|S<|S<|aT (t:=72) (n:=18) (A_:=θ (7<((k - i:Nat):Int))||(θ ((k:Int)<(N s:Int))&&He (aZ s k))) ?_ ?_
  .all_goals refine Y aA<|Y aA<|Y (dT Z Z Z e)<|Y iX<|Dm ?_<;>(refine Sp 61 (λτ=>?_) λτ=>?_)<;>(first|exact s_|refine M<|M<|M<|M<|M ?_|refine O aA<|O aA<|O (gL U_)<|O cI<|O aA ?_)<;>(first|refine Sp 66 (λρ=>?_) λρ=>?_|refine kX (t:=66) Z ?_)<;>(first|exact s_|refine M ?_|refine Fu ?_|refine O aA ?_)<;>(first|refine M ?_|refine Fu ?_|refine O aA ?_)<;>(first|refine M ?_|refine Fu ?_|refine O (cK Z U_ Z Z X (l_ _) (I_ ρ) Z) ?_)<;>(first|refine M ?_|refine Fu ?_|refine O (kc call167 (Z8 (aZ s k) _)) ?_)<;>(first|refine M ?_|refine O cD ?_)<;>refine V cD ?_<;>exact Gj (h:=by first|(rw[τ];rfl)|(rw[τ,ρ];rfl))
  refine Cn ?_ ?_<;>intro F
  .have w:(H9 s i k).err=4:=by
    have h:=F;rw[hw,<-Bool.or_assoc]at h;have R:θ (7<((k - i:Nat):Int))=θ (7<k - i):=by rw[Bool.eq_iff_iff,k_,k_];omega
    rw[R]at h;exact b6 h
   have f:=TF B (by rw[w];decide);rw[w]at f;rw[f];refine U (oD IE)<|Uu (jG sizeOf189)<|Y aH<|V aH<|aC<|mK (H':=[]) (.inr Z) Z (C1 jB sizeOf189) (aI Z) (aI Z) (P_ (r:=.tup [.agg [iv 0,sv a6,iv 0],iv 0,iv 4])) Qq
  have w:(H9 s i k).err=0:=by
   have h:=F;rw[hw,<-Bool.or_assoc]at h;have R:θ (7<((k - i:Nat):Int))=θ (7<k - i):=by rw[Bool.eq_iff_iff,k_,k_];omega
   rw[R]at h;exact a8 (by rw[h];simp)
  rw[LA B w];refine aB<|U aA<|Y aA<|Y aA<|Y (bM (l:=i) (h:=k) Z U_ Z Z Z X X Z)<|Y aA<|Y (oD IE)<|Y aA<|Uu (jG sizeOf189)<|Y aH<|V aH<|aC<|mK (H':=[]) (.inr Z) Z (C1 jB sizeOf189) (aI Z) (aI Z) (P_ (r:=.tup [.agg [iv 2,sv (s.extract i k),iv (i:Int)],iv ((k:Nat):Int),iv 0])) Qq
 have u:nH s i≠4:=b_ (c2.trans v);refine aB<|S<|U aA<|V cF<|Cn ?_ ?_<;>intro G
 .have P:nH s i=7:=b9 (z_.symm.trans G);have B:fE s i=(A (FO s i).1,(FO s i).2):=by rw[fE,a8 b,a8 c,a8 o,a8 u,b6 P]
  have c_:(s.extract i (N s)).data.toList.drop 1=s.data.toList.drop (i+1):=by rw[sN,drop_drop]
  cases Q:oJ (s.data.toList.drop (i+1))with
  |none =>
   have q:A0 (s.extract i (N s))=(a6,0):=by rw[A0,c_,Q]
   have u_:FO s i=(vW i,i):=by rw[FO,q];rfl
   rw[u_]at B;have f:=TF B (by show (3:Int)≠0;decide);rw[f];refine U aA<|Y aA<|Y (kc call263 (Ue hs hi Q))<|Y aA<|Y dO<|Y dO<|Y dO<|Y aH<|Y aH<|V aH<|S<|U aA<|V iH<|Cn ?_ ?_<;>intro W
   .refine U (oD IE)<|Uu (jG sizeOf189)<|Y aH<|V aH<|aC<|mK (H':=[]) (.inr Z) Z (C1 jB sizeOf189) (aI Z) (aI Z) (P_ (r:=.tup [.agg [iv 0,sv a6,iv 0],iv 0,iv 3])) Qq
   ((cases W;done))
  | some p =>
   have q:A0 (s.extract i (N s))=(⟨p.1.toArray⟩,((p.2+1:Nat):Int)):=by rw[A0,c_,Q]
   have u_:FO s i=(⟨3,⟨p.1.toArray⟩,i,0⟩,i+(p.2+1)):=by
    rw[FO,q,b6 (by show (0:Int)<((_:Nat):Int);omega)];rfl
   rw[u_]at B;rw[LA B rfl];refine U aA<|Y aA<|Y (kc call263 (Ud hs hi Q))<|Y aA<|Y dO<|Y dO<|Y dO<|Y aH<|Y aH<|V aH<|S<|U aA<|V iH<|Cn ?_ ?_<;>intro y_
   ·((cases y_;done))
   refine aB<|U aA<|Y aA<|Y (oD IE)<|Y aA<|Uu (jG sizeOf189)<|Y aH<|V aH<|aC<|mK (H':=[]) (.inr Z) Z (C1 jB sizeOf189) (aI Z) (aI Z) P_ Qq
 have P:nH s i≠7:=b_ (z_.symm.trans G);refine aB<|S<|U aA<|Y (bH Z Z call262 Z (Oz ⟨#[59,44,46,58,40,41,123,125,91,93,61,60,62,47,45]⟩ (aZ s i) _ E_))<|V iH<|Cn ?_ ?_<;>intro g
 .have z:nH s i≠6:=by
   have h:(!T1 ⟨#[59,44,46,58,40,41,123,125,91,93,61,60,62,47,45]⟩ (aZ s i))=T:=g;rw[u4]at h
   simpa using h
  have B:fE s i=(A (vW i),i):=by rw[fE,a8 b,a8 c,a8 o,a8 u,a8 P,a8 z]
  have f:=TF B (by show (3:Int)≠0;decide);rw[f];refine U (oD IE)<|Uu (jG sizeOf189)<|Y aH<|V aH<|aC<|mK (H':=[]) (.inr Z) Z (C1 jB sizeOf189) (aI Z) (aI Z) (P_ (r:=.tup [.agg [iv 0,sv a6,iv 0],iv 0,iv 3])) Qq
 have z:nH s i=6:=by
  have h:(!T1 ⟨#[59,44,46,58,40,41,123,125,91,93,61,60,62,47,45]⟩ (aZ s i))=η:=g;rw[u4]at h
  simpa using h
 have B:fE s i=(A ⟨4,s.extract i (i+1),i,0⟩,i+1):=by rw[fE,a8 b,a8 c,a8 o,a8 u,a8 P,b6 z]
 rw[LA B rfl];refine aB<|U aA<|Y aA<|Y aA<|Y (bM (l:=i) (h:=(i+1)) Z U_ Z Z Z X X Z)<|Y aA<|Y (oD IE)<|Y aA<|Uu (jG sizeOf189)<|Y aH<|V aH<|aC<|mK (H':=[]) (.inr Z) Z (C1 jB sizeOf189) (aI Z) (aI Z) (P_ (r:=.tup [.agg [iv 4,sv (s.extract i (i+1)),iv (i:Int)],iv ((i+1:Nat):Int),iv 0])) Qq
theorem Jd{s}{i j}{f}(h:fE s i=(A f,j)):f.pos=i:=by
 rw[fE]at h
 split at h
 .cases h
 split at h
 .cases h
 split at h
 .cases h;rfl
 split at h
 .cases h;rfl
 split at h
 .cases h;rw[FO]
  split<;>rfl
 split at h<;>(cases h;rfl)
theorem Ug{s}{i}(b:nH s i≠1)(a:nH s i≠2):∃f j,fE s i=(A f,j):=by
 rw[fE,a8 b,a8 a]
 split
 .simp_all
 split
 .simp_all
 split
 .simp_all
 split<;>exact⟨_,_,Z⟩
theorem yg(s:B_)(H:aF)(D:N s<2^40):RC 164 [sv s] (.tup [.pv (CY (fO s).1),iv (fO s).2.1,iv (fO s).2.2]) H:=by
 refine Pu<|Bd func164 Z ntmps164<|U aH<|Y aH<|V aH<|S<|U aA<|Y (gL U_)<|V iX<|Cn ?_ ?_<;>intro p
 .have e:fO s=([],2,-1):=by rw[fO,b6 (I_ p)]
  rw[e];refine U aH<|Y aH<|V aH<|aC<|mK (H':=[]) (.inr Z) Z (aI Z) (aI Z) (aI Z) P_ Qq
 have v:¬ 20000<N s:=J_ p
 have R:fO s=kT [] (HF s 0):=by rw[fO,a8 v];rfl
 generalize fO s=g at R |-;refine aB<|Sz (dZ (id:=905) (sz:=3) (ty:=189) Z Z Z)<|Sr<|Dm<|uo Z Z (bH Z Z call218 Z (zh s 0 _ D (l7 _))) ?_;rintro r H' ⟨r4,rfl,hj1,d_,hj3,B,rfl⟩;refine V aH<|S<|aE<|eZ (λ(j:Nat) (L:List b7)=>([(0,sv s),(5,.osl 905 (C L) 0 (C L)),(6,iv (j:Int))],[(905,⟨C L,3,189,lX L⟩)])) (λj L=>j<=N s/\C L<=5000/\g=kT L (HF s j)/\(j<N s->nH s j≠1/\nH s j≠2)) (λj L=>N s - j) r4 [] ⟨d_,l7 _,F_,B⟩ ?_ ?_
 .exact L_
 rintro j L ⟨hj,hL,b,E⟩;refine S<|U aA<|Y aA<|Y (gL U_)<|V cI<|Cn ?_ ?_<;>intro o
 .have d:j<N s:=I_ o
  have ⟨G,F⟩:=E d;have ⟨f,e,c⟩:=Ug G F;have l:=Ng s j [(905,⟨C L,3,189,lX L⟩)] D d G F;have m:=Jd c;by_cases k:f.err=0
  .rw[LA c k]at l;have w:=PY c k d;have x:=Bb d c k;rw[x]at b;refine aB<|aE<|U aA<|Y aA<|Y (kc call219 (l))<|Y aA<|Y dO<|Y dO<|Y dO<|Y (kl 7 uz)<|Uu (jG sizeOf189)<|Y aH<|V aH<|S<|U aA<|V xI<|Cn ?_ ?_<;>intro J
   ·((cases J;done))
   refine aB<|S<|U aA<|Y (by exact dR Z cU Z Z Z)<|V cF<|Cn ?_ ?_<;>intro n
   .have z:C L=5000:=I_ n
    have i:g=([],2,(j:Int)):=by rw[b,kT,a8 (λh=>h k),b6 z,m]
    rw[i];refine U aA<|Y aH<|Y aH<|V aH<|aC<|mK (H':=[]) (.inr Z) Z (aI Z) (aI Z) (aI Z) P_ Qq
   have z:¬ C L=5000:=J_ n
   rw[kT,a8 (λh=>h k),a8 z]at b;refine aB<|U aA<|Y (by exact aW Z jB sizeOf189 Z Z Z Z (by simp only[Zl,K_];rfl) Z)<|Y (by exact aL [K_ f] Z iI Z Z Z Z Z R_)<|Y (by exact bW (ps:=[K_ f]) Z iI zq Z Z Z Z Z (yB _) Z R_ (m:=1) Z X Z (CT L f))<|V aH<|Rd aA<|Dm ?_;refine uo Z Z (bH Z Z call218 Z (zh s e _ D w.2)) ?_;rintro r H' ⟨e_,rfl,g1,Q,c_,K,rfl⟩;refine Da ?_;refine⟨e_,L++[f],⟨Q,G_,by rw[b,c_],K⟩,X,?_⟩;dsimp only;rw[j8,List.length_singleton];exact(cH.wk (Eb<|Ea<|Eb<|T_) (Hc (cW _ _)<|T_) T_)
  have P:(!θ (f.err=0))=T:=by rw[decide_eq_false k];rfl
  rw[TF c k]at l;have i:g=([],f.err,(j:Int)):=by rw[b,Iu d c k,kT,b6 k,m]
  rw[i];refine aB<|aE<|U aA<|Y aA<|Y (kc call219 (l))<|Y aA<|Y dO<|Y dO<|Y dO<|Y (kl 7 uz)<|Uu (jG sizeOf189)<|Y aH<|V aH<|S<|U aA<|V (cP.valY (K0 Z Z Z) (P))<|Cn ?_ ?_<;>intro y
  .refine U aA<|Y aA<|Y aH<|Y aH<|V aH<|aC<|mK (H':=[]) (.inr Z) Z (aI Z) (aI Z) (aI Z) P_ Qq
  ((cases y;done))
 have u:¬ j<N s:=J_ o
 rw[Iv u,kT]at b;rw[b];refine aP<|S ?_;refine fW.ent (cH.fz (id:=905) (E':=[(5,.pv (CY L))]) (H':=[]) (L.map K_) Z (by rw[map_map];rfl)
  (by intro q I;rw[q9]at I;subst I;exact⟨_,Z,.osl (by rw[r7,drop_zero,take_of_length_le (by rw[g_];exact h_ _)])⟩) Z T_ T_) ?_
 refine Rd aA<|Y aH<|Y aH<|V aH<|aC<|mK (H':=[]) (.inr Z) Z (aI Z) (aI Z) (aI Z) Fin.refl Qq
def wW(s:B_)(i:Nat):B_:=(cS s).getD i a6
def nC(s:B_):B_:=s.extract (N (wW s 0)+N (wW s 1)+N (wW s 2)+3) (N s)
def IS(s:B_):Bool:=(θ ((fO (nC s)).2.1=0)&&θ (C (fO (nC s)).1=1))&&θ (((fO (nC s)).1.getD 0 LF).kind=3)
def xj(rP:B_->l8)(s:B_):b8 :=if wW s 0=a_ wPut/\4<N s then⟨1,a6,a6,a6,0,0,a6,a6,[],rP (s.extract 4 (N s))⟩
 else if wW s 0=a_ J1/\C (cS s)=4 then⟨2,wW s 1,a6,a6,KL (wW s 2),KL (wW s 3),a6,a6,[],j7⟩
 else if(wW s 0=a_ BJ/\4<=C (cS s))/\IS s=T then⟨3,wW s 1,a6,a6,0,0,wW s 2,((fO (nC s)).1.getD 0 LF).text,[],j7⟩
 else if wW s 0=a_ J0/\2<=C (cS s) then⟨4,wW s 1,a6,a6,0,0,a6,a6,(cS s).drop 2,j7⟩
 else if wW s 0=a_ J3/\C (cS s)=2 then⟨5,wW s 1,a6,a6,0,0,a6,a6,[],j7⟩
 else if wW s 0=a_ CP/\C (cS s)=4 then⟨6,wW s 1,wW s 3,wW s 2,0,0,a6,a6,[],j7⟩
 else if wW s 0=a_ J2/\C (cS s)=3 then⟨7,wW s 1,wW s 2,a6,0,0,a6,a6,[],j7⟩
 else OZ
theorem aAl{s}{i}(h:i<C (cS s)):((cS s).map S_)[i]?=A (S_ (wW s i)):=by rw[r8,wW,getD_eq_getElem?_getD,n_ h];rfl
theorem GD(s)(i):N (wW s i)<=N s:=by
 rw[wW,getD_eq_getElem?_getD];cases e:(cS s)[i]? with
 |none=>exact l7 _
 |some w =>
  have b:=m7 e;obtain ⟨x,c,rfl⟩:=mem_map.1 b;have:=rO _ c;rw[aS]at this;show N (a_ x)<=_;rw[cA];omega
theorem IM(c):∀l,((dV c l).map List.length).sum+C (dV c l)=C l+1
 | []=>rfl
 | b::l=>by
  have B:=IM c l;have a:=rR c l;rw[dV]
  split
  .rw[map_cons,sum_cons,j6,j6];show 0+_+_=_;omega
  cases e:dV c l with
  |nil=>rw[e]at a;exact absurd a (Nat.lt_irrefl 0)
  |cons x r =>
   grind
theorem aCR{s}(h:4<=C (cS s)):N (wW s 0)+N (wW s 1)+N (wW s 2)+3<=N s:=by
 have j:=IM 32 (ν (μ s));have g:∀i,wW s i=a_ ((dV _ _).getD i _):=λi=>by
  rw[wW,cS,getD_eq_getElem?_getD,getD_eq_getElem?_getD,r8];cases (dV _ _)[i]?<;>rfl
 rw[g,g,g];rw[cS,g_]at h
 match e:dV _ _ with
 | []=>rw[e]at h;exact absurd h H_
 | [_]=>rw[e]at h;simp only[j6,length_nil]at h;omega
 | [_,_]=>rw[e]at h;simp only[j6,length_nil]at h;omega
 | [_,_,_]=>rw[e]at h;simp only[j6,length_nil]at h;omega
 |a::b::c::d::r =>
  rw[e]at j;simp[map_cons,sum_cons,j6]at j;show C a+C b+C c+3<=_;omega
variable{rP:B_->l8}
def tK(u4:List b7):Int:=EC (u4.getD 0 LF).text
def AS(u4:List b7):List B_:=((u4.drop 3).takeWhile λf=>θ (f.kind=1)).map b7.text
def SO(u4:List b7):Bool:=θ ((u4.getD 2 LF).kind=2)&&θ ((u4.getD 3 LF).kind=2)
def dz(s:B_):Int:=KK s (min (N s) 7)
def tI(u4:List b7):List m8×Bool:=if tK u4=1 then MJ [] (u4.drop 4)else MJ [] (u4.drop (3+C (AS u4)+1))
def uR(u4:List b7):l8:=if tK u4=1 then⟨(u4.getD 1 LF).text,1,dz (u4.getD 2 LF).text,dz (u4.getD 3 LF).text,[],(tI u4).1⟩else⟨(u4.getD 1 LF).text,tK u4,0,0,AS u4,(tI u4).1⟩
def Vn(s:B_):l8×Int:=if 20000<N s then(j7,2)else if(fO s).2.1=0/\4<=C (fO s).1 then
 (if tK (fO s).1=1/\SO (fO s).1=η then(j7,5)else if(tI (fO s).1).2=T/\fK (uR (fO s).1)=(s,0)then(uR (fO s).1,0)else(j7,5))else(j7,5)
theorem gj{s}(B:∀b∈ν (μ s),48<=b.toNat/\b.toNat<=57):∀k,k<=N s->∃n,Lib.decFrom 0 (s.data.toList.take k)=A n/\Z9 s k=n/\KK s k=n
 |0,_=>⟨0,Z,Z,Z⟩
 |k+1,h=>by
  obtain ⟨n,i,g,f⟩:=gj B k X;have ⟨b,d⟩:∃b,s.data.toList[k]?=A b:=aR i8;have j:=B b (m7 d);have e:Lib.digitVal b=A (b.toNat - 48):=by rw[Lib.digitVal,b6 j]
  have c:aZ s k=(b.toNat):=by rw[aZ,d];rfl
  refine⟨n*10+(b.toNat - 48),Lib.decFrom_take _ k 0 n b _ i d e,?_,?_⟩
  .rw[Z9,g];omega
  rw[KK,f,c];show 10*n+((b.toNat:Int) - 48) % 256=_;omega
theorem si{x}(b:0<=x):(aV x).data.toList=Lib.decDigits x.toNat:=by show (Lib.itoa x).toArray.toList=_;rw[kK _ b]
theorem GP{x:Int}(p:0<=x)(D:x<10000000):KL (aV x)=x/\dz (aV x)=x:=by
 have h:=si p;have i:∀b∈(aV x).data.toList,48<=b.toNat/\b.toNat<=57:=λb e=>by rw[h]at e;exact pV _ e
 have d:N (aV x)=C (Lib.decDigits x.toNat):=by rw[<-aS,h]
 have B:0<N (aV x):=by rw[d];exact length_pos_iff.2 (oC _)
 have l:N (aV x)<=7:=by rw[d];exact cX X E_
 have ⟨n,k,m,o⟩:=gj i (N (aV x)) (h_ _);rw[take_of_length_le F_,h,jT]at k;cases k;have g:(List.range (N (aV x))).all (Hg (aV x))=T:=by
  rw[all_eq_true];intro j E;have ⟨b,e⟩:∃b,(aV x).data.toList[j]?=A b:=aR F_;have F:=i b (m7 e);have f:aZ (aV x) j=(b.toNat:Int):=by rw[aZ,e];rfl
  rw[Hg,f,decide_eq_false X,decide_eq_false X];rfl
 constructor
 .rw[KL,g,decide_eq_true l,Bool.and_true,b6 Z,m];omega
 rw[dz,Nat.min_eq_left l,o];omega
theorem OD{s:B_}:∀(l:List m8) (i:Nat),(∀t,t∈l->cJ t.key=T)->s.data.toList.drop i=nT l->∃u4,GA s i (nT l) u4/\VE u4 l/\∀acc,MJ acc u4=(acc++l,T)
 | [],i,_,h=>⟨[],all_nil h,⟨Z,(λf w=>by cases w),Z⟩,λacc=>by rw[MJ,List.append_nil]⟩
 | t::l,i,d,h=>by
  have u:nT (t::l)=32::(ν (μ t.key)++61::(dB (ν (μ t.val))++nT l)):=by
   rw[nT,flatMap_cons,TR];simp[nT]
  rw[u]at h |-;have g:=(qL h).2.2;have b:=fP g;have a:=(qL b).2.2;have o:=fP a;have ⟨u4,r,q,p⟩:=OD l _ (λt n=>d t (mem_cons_of_mem _ n)) o;have j:0<C (dB (ν (μ t.val))):=by rw[dB,j6];omega
  have v:=D5 (J9 a) Z (rV a j) j r;have m:=HD b E_ v;have k:=nI g (d t mem_cons_self) (λc r' e=>by cases e;exact⟨E_,E_,E_⟩) m;refine⟨_,vC h k,VE.cons q Z Z Z,λacc=>?_⟩;rw[MJ,p,append_assoc];rfl
theorem Bc{α:Type}{p}{D B}{c:α}(h:∀a∈D,p a=T)(E:p c=η):(D++c::B).takeWhile p=D:=F_
theorem Ci{o:l8}(J:oV o=T):∃u4,GA (EL o) 0 (sR o) u4/\(∀f,f∈u4->f.err=0)/\C u4<=5000/\4<=C u4/\¬ (tK u4=1/\SO u4=η)/\(tI u4).2=T/\uR u4=o:=by
 have ⟨hr,ht,e_,D,_⟩:=CB J;have ⟨q,v_,hn,hz⟩:=ml J;have ⟨A_,E⟩:=BH (G6 J);have r:∀t,t∈o.tags->cJ t.key=T:=λt h=>((xY.1 e_).1 t h).1;have y:=XZ o;by_cases n:o.kind=1
 .have e:sR o=(eN o.kind).data.toList++32::(ν (μ o.id)++32::(Lib.itoa o.x++32::(Lib.itoa o.y++nT o.tags))):=by
   rw[sR,mJ,b6 n];simp
  rw[e]at y |-;have u:=fP y;rw[aS]at u;have z:=(qL u).2.2;have s:=fP z;rw[aS]at s;have B:=(qL s).2.2;have F:=fP B;have w:=(qL F).2.2;have P:=fP w;have ⟨u4,Q,⟨r1,r4,r3⟩,I⟩:=OD o.tags _ r P;have b:=nI y A_ (mF _) (vC u (nI z D (mF _) (vC s (RB B q.1 X (mF _) (vC F (RB w v_.1 X (RX _) Q))))));have g:∀(a b c d:b7) (R:List b7),tK (⟨1,eN o.kind,0,0⟩::b::c::d::R)=1:=λa b c d R=>by
   show EC (eN o.kind)=1;rw[E,n]
  refine⟨_,b,λf m=>?_,?_,?_,?_,?_,?_⟩
  .simp only[l9]at m;rcases m with rfl|rfl|rfl|rfl|m
   .rfl
   .rfl
   .rfl
   .rfl
   exact r4 f m
  .simp only[j6];omega
  .simp only[j6];omega
  .rintro⟨-,h⟩;simp[SO]at h
  .rw[tI,b6 (g LF _ _ _ _)];show (MJ [] u4).2=T;rw[I]
  rw[uR,b6 (g LF _ _ _ _),tI,b6 (g LF _ _ _ _)];show (⟨o.id,1,dz (aV o.x),dz (aV o.y),[],(MJ [] u4).1⟩:l8)=o;rw[I,(GP q.1 X).2,(GP v_.1 X).2];exact QK Z n Z Z (hn n) Z
 have ⟨k,l,p⟩:=XA J n;have v:=uP J;rw[p]at v;have e:sR o=(eN o.kind).data.toList++32::(ν (μ o.id)++32::(40::(ν (μ k)++(l.flatMap (λk=>32::ν (μ k))++41::nT o.tags)))):=by
  rw[sR,mJ,a8 n,p,yP];simp
 rw[e]at y |-;have u:=fP y;rw[aS]at u;have z:=(qL u).2.2;have s:=fP z;rw[aS]at s;have B:=(qL s).2.2;have F:=(qL B).2.2;have w:=fP F;rw[aS]at w;have P:=fP w;have h8:=(qL P).2.2;have ⟨u4,Q,⟨r1,r4,r3⟩,I⟩:=OD o.tags _ r h8;have o_:=HD P E_ Q;have ⟨R,hR,i,W⟩:=U5 l _ _ _ (λx q=>v x (mem_cons_of_mem _ q)) w (J8 _) o_;have K:HO (l.flatMap (λk=>32::ν (μ k))++41::nT o.tags):=by
  cases l with
  |nil=>exact J8 _
  |cons a l=>rw[flatMap_cons];exact mF _
 have b:=nI y A_ (mF _) (vC u (nI z D (mF _) (vC s (HD B E_ (nI F (v k mem_cons_self) K hR)))));have τ:C R=C l:=by rw[<-i,g_]
 have σ:C o.refs=C l+1:=by rw[p,j6]
 have g:∀(b c d:b7) (z_:List b7),tK (⟨1,eN o.kind,0,0⟩::b::c::d::z_)=o.kind:=λb c d z_=>by
  show EC (eN o.kind)=_;exact E
 have H:∀(a b c d:b7) (j:Nat),d.kind=1->AS (a::b::c::d::(R++⟨4,⟨#[41]⟩,j,0⟩::u4))=d.text::R.map b7.text:=λa b c d j f_=>by
  show (((d::R)++⟨4,⟨#[41]⟩,j,0⟩::u4).takeWhile _).map b7.text=_;rw[Bc (λx q=>?_) x7]
  .rfl
  rcases l9.1 q with rfl|q
  .exact decide_eq_true f_
  exact decide_eq_true (W x q).1
 have G:∀(b c d:b7) (j:Nat),d.kind=1->tI (⟨1,eN o.kind,0,0⟩::b::c::d::(R++⟨4,⟨#[41]⟩,j,0⟩::u4))=(o.tags,T):=λb c d j f_=>by
  rw[tI,a8 (by rw[g];exact n),H _ _ _ _ _ f_];have L:∀a b c:b7,(a::b::c::d::(R++⟨4,⟨#[41]⟩,j,0⟩::u4)).drop (3+C (d.text::R.map b7.text)+1)=u4:=λa b c=>by
   rw[show 3+C (d.text::R.map b7.text)+1=C (a::b::c::d::(R++[⟨4,⟨#[41]⟩,j,0⟩])) by simp;omega,show a::b::c::d::(R++⟨4,⟨#[41]⟩,j,0⟩::u4)=(a::b::c::d::(R++[⟨4,⟨#[41]⟩,j,0⟩]))++u4 by simp];exact drop_left
  rw[L,I];rfl
 refine⟨_,b,λf m=>?_,?_,?_,?_,?_,?_⟩
 .simp only[l9,mem_append]at m;rcases m with rfl|rfl|rfl|rfl|m|rfl|m
  .rfl
  .rfl
  .rfl
  .rfl
  .exact(W f m).2
  .rfl
  exact r4 f m
 .simp only[j6,j8];omega
 .simp only[j6,j8];omega
 .rintro⟨h,-⟩;rw[g]at h;exact n h
 .rw[G _ _ _ _ rfl]
 have ⟨y_,z2⟩:=hz n;rw[uR,a8 (by rw[g];exact n),G _ _ _ _ Z,H _ _ _ _ _ Z,g];refine QK Z Z y_ z2 ?_ Z;rw[p,i]
theorem gn{o}(h:(fK o).2=0):Vn (fK o).1=(o,0):=by
 have ⟨c,d,I⟩:=QL h;have ⟨u4,b,a,D,E,F,G,H⟩:=Ci c;have B:fO (EL o)=(u4,0,0):=by
  rw[fO,a8 X,b _ (by exact le_succ _),NO u4 _ a F_,nil_append]
 rw[d];show Vn (EL o)=(o,0);rw[Vn,a8 X]
 simp_all
theorem Wu{a b}(h:a_ a=a_ b):a=b:=by have:=congrArg (λx=>ν (μ x)) h;exact this
theorem rQ(l):cS (a_ l)=(dV 32 l).map a_:=rfl
theorem IH(l)(i):wW (a_ l) i=a_ ((dV 32 l).getD i []):=by rw[wW,rQ,getD_eq_getElem?_getD,getD_eq_getElem?_getD,r8];cases (dV _ l)[i]?<;>rfl
theorem rz{v}(D:N v<=200):fO (a_ (dB (ν (μ v))))=([⟨3,v,0,0⟩],0,0):=by
 have b:(a_ (dB (ν (μ v)))).data.toList.drop 0=dB (ν (μ v))++[]:=by rw[append_nil];rfl
 have B:C (dB (ν (μ v)))<=402:=by
  have:=UI (ν (μ v));rw[aS]at this;rw[dB,j6,j8,length_singleton];omega
 have c:0<C (dB (ν (μ v))):=by rw[dB,j6];omega
 have d:=D5 (J9 b) Z (rV b c) c (all_nil (fP b));rw[fO,a8 (by rw[cA];omega),d _ (by rw[cA,append_nil];omega)];rfl
theorem LW{l}{k}:(a_ l).extract k (N (a_ l))=a_ (l.drop k):=mR (by rw[sN,cG,cG])
theorem SH(Q:∀o,(fK o).2=0->rP (fK o).1=o){e:b8}(K:gK e=T)(J:fX e=0):xj rP (a_ (fT e))=e:=by
 have ⟨⟨o1,o7⟩,c,j⟩:=uW.1 K;rw[fX]at J;have d:∀ {a b:List UInt8},a≠b->∀ {p:Prop},¬ (a_ a=a_ b/\p):=λh p W=>h (Wu W.1);by_cases m:e.op=1
 .rw[b6 m]at J;have ⟨u,r4,_⟩:=QL J;have H:=Q _ J;rw[GB,b6 m,m]at j;rw[fT,b6 m];have P:0<C (fK e.obj).1.data.toList:=by
   rw[r4];show 0<C (sR e.obj);rw[sR,mJ,j8,j8,j6];omega
  have I:wW (a_ (wPut++32::(fK e.obj).1.data.toList)) 0=a_ wPut:=by
   rfl
  rw[xj,I,b6 ⟨Z,by rw[cA,j8,j6];show 4<3+_;omega⟩,LW];show (⟨1,a6,a6,a6,0,0,a6,a6,[],rP (a_ (fK e.obj).1.data.toList)⟩:b8)=e;rw[gE,H];exact j
 rw[xH,a8 m,l6]at c;have ⟨R,c⟩:=c;have y:=mX R;rw[fT,a8 m];by_cases f:e.op=2
 .rw[b6 f]at c;have r:(0<=e.x/\e.x<1048576)/\0<=e.y/\e.y<1048576:=by
   rw[ra]at c
   grind
  rw[GB,a8 m,b6 f,f]at j;rw[gS,b6 f];have n1:=G7 r.1.1;have n2:=G7 r.2.1;have i:dV 32 (bT [32] [J1,ν (μ e.id),Lib.itoa e.x,Lib.itoa e.y])=[J1,ν (μ e.id),Lib.itoa e.x,Lib.itoa e.y]:=lG E_ F_;simp only[xj,IH,rQ,i,getD_cons_zero,getD_cons_succ];rw[a8 (d E_),b6 ⟨T_,Z⟩,gE];show (⟨2,e.id,a6,a6,KL (aV e.x),KL (aV e.y),a6,a6,[],j7⟩:b8)=e;rw[(GP r.1.1 X).1,(GP r.2.1 X).1];exact j
 by_cases g:e.op=3
 .rw[a8 f,b6 g,l6,k_]at c;have B:=mX c.1;rw[GB,a8 m,a8 f,b6 g,g]at j;rw[gS,a8 f,b6 g];have F:bT [32] [BJ,ν (μ e.id),ν (μ e.key),dB (ν (μ e.val))]=BJ++32::(ν (μ e.id)++32::(ν (μ e.key)++32::dB (ν (μ e.val)))):=by simp[bT]
  have t:=rR 32 (dB (ν (μ e.val)));have i:dV 32 (bT [32] [BJ,ν (μ e.id),ν (μ e.key),dB (ν (μ e.val))])=BJ::ν (μ e.id)::ν (μ e.key)::dV 32 (dB (ν (μ e.val))):=by
   rw[F,kD E_,kD y.1,kD B.1]
  have n:nC (a_ (bT [32] [BJ,ν (μ e.id),ν (μ e.key),dB (ν (μ e.val))]))=a_ (dB (ν (μ e.val))):=by
   rw[nC,LW];simp only[IH,i,getD_cons_zero,getD_cons_succ,cA];rw[F];congr 1;have:BJ++32::(ν (μ e.id)++32::(ν (μ e.key)++32::dB (ν (μ e.val))))=(BJ++32::(ν (μ e.id)++32::(ν (μ e.key)++[32])))++dB (ν (μ e.val)):=H_
   rw[this,show C BJ+C e.id.data.toList+C e.key.data.toList+3=C (BJ++32::(ν (μ e.id)++32::(ν (μ e.key)++[32]))) by grind];exact drop_left
  have z:=rz (v:=e.val) X;have D:IS (a_ (bT [32] [BJ,ν (μ e.id),ν (μ e.key),dB (ν (μ e.val))]))=T:=by
   rw[IS,n,z];rfl
  simp only[xj,IH,rQ,i,getD_cons_zero,getD_cons_succ,n,D,z];rw[a8 (d E_),a8 (d E_),b6 ⟨⟨T_,G_⟩,T_⟩,gE,gE];exact j
 by_cases l:e.op=4
 .rw[a8 f,a8 g,b6 l,l6,l6,all_eq_true]at c;have L:=c.2;rw[GB,a8 m,a8 f,a8 g,b6 l,l]at j;rw[gS,a8 f,a8 g,b6 l];have i:dV 32 (bT [32] (J0::ν (μ e.id)::bs e.refs))=J0::ν (μ e.id)::bs e.refs:=lG E_ (by
   intro w k;rcases l9.1 k with rfl|k
   .exact y.1
   obtain ⟨s,i,rfl⟩:=mem_map.1 k;exact(mX (L s i)).1)
  simp only[xj,IH,rQ,i,getD_cons_zero,getD_cons_succ];rw[a8 (d E_),a8 (d E_),a8 (λh=>d E_ h.1),b6 ⟨T_,by simp only[g_,j6];omega⟩,gE];show (⟨4,e.id,a6,a6,0,0,a6,a6,(bs e.refs).map a_,j7⟩:b8)=e;rw[Qj];exact j
 by_cases q:e.op=5
 .rw[GB,a8 m,a8 f,a8 g,a8 l,b6 q,q]at j;rw[gS,a8 f,a8 g,a8 l,b6 q];have i:dV 32 (bT [32] [J3,ν (μ e.id)])=[J3,ν (μ e.id)]:=lG E_ (by intro w k;rw[q9]at k;subst k;exact y.1);simp only[xj,IH,rQ,i,getD_cons_zero,getD_cons_succ];rw[a8 (d E_),a8 (d E_),a8 (λh=>d E_ h.1),a8 (d E_),b6 ⟨T_,Z⟩,gE];exact j
 by_cases x:e.op=6
 .rw[a8 f,a8 g,a8 l,a8 q,b6 x,l6]at c;have B:=mX c.1;have E:=mX c.2;rw[GB,a8 m,a8 f,a8 g,a8 l,a8 q,b6 x,x]at j;rw[gS,a8 f,a8 g,a8 l,a8 q,b6 x];have i:dV 32 (bT [32] [CP,ν (μ e.id),ν (μ e.node),ν (μ e.other)])=[CP,ν (μ e.id),ν (μ e.node),ν (μ e.other)]:=lG E_ (by intro w k;simp only[l9,q8,or_false]at k;rcases k with rfl|rfl|rfl;all_goals first|exact y.1|exact B.1|exact E.1);simp only[xj,IH,rQ,i,getD_cons_zero,getD_cons_succ];rw[a8 (d E_),a8 (d E_),a8 (λh=>d E_ h.1),a8 (d E_),a8 (d E_),b6 ⟨T_,Z⟩,gE,gE,gE];exact j
 have G:e.op=7:=X
 rw[a8 f,a8 g,a8 l,a8 q,a8 x]at c;have E:=mX c;rw[GB,a8 m,a8 f,a8 g,a8 l,a8 q,a8 x,G]at j;rw[gS,a8 f,a8 g,a8 l,a8 q,a8 x];have i:dV 32 (bT [32] [J2,ν (μ e.id),ν (μ e.other)])=[J2,ν (μ e.id),ν (μ e.other)]:=lG E_ (by intro w k;simp only[l9,q8,or_false]at k;rcases k with rfl|rfl;all_goals first|exact y.1|exact E.1);simp only[xj,IH,rQ,i,getD_cons_zero,getD_cons_succ];rw[a8 (d E_),a8 (d E_),a8 (λh=>d E_ h.1),a8 (d E_),a8 (d E_),a8 (d E_),b6 ⟨T_,Z⟩,gE,gE];exact j
theorem gl{rE:B_->b8}{s:B_}{B w:List UInt8}{r:List UInt8}{acc:List b8}(i:ν (μ s)=B++(w++r))(f:(10:UInt8)∉w)(h:EQ rE s (C B)=(C B,acc)):∀j,j<=C w->EQ rE s (C B+j)=(C B,acc)
 |0,_=>h
 |j+1,hj=>by
  have g:=gl i f h j X;have k:s.data.toList[C B+j]?=w[j]?:=G_
  have ⟨b,c⟩:∃b,w[j]?=A b:=aR X;have d:b≠10:=λe=>f G_;have a:aZ s (C B+j)=(b.toNat:Int):=by rw[aZ,k,c];rfl
  rw[show C B+(j+1)=(C B+j)+1 by omega,EQ,a,a8 ?_,g];rw[k_];intro e;exact d (UInt8.toNat_inj.1 (by show b.toNat=10;omega))
theorem Kz{rE}{s}{B w}{r}{acc}(b:ν (μ s)=B++(w++10::r))(c:10∉w)(h:EQ rE s (C B)=(C B,acc)):EQ rE s (C B+C w+1)=(C B+C w+1,acc++[rE (a_ w)]):=by
 have e:=gl b c h _ (h_ _);have f:s.data.toList[C B+C w]?=A 10:=F_
 have a:aZ s (C B+C w)=10:=by rw[aZ,f];rfl
 have d:s.extract _ _=a_ w:=AI (by rw[b,drop_left]);rw[EQ,a,e,b6 (show θ _=T by decide),d]
theorem XC{rE}{s:B_}:∀(l) (i_) (acc),ν (μ s)=i_++l.flatMap (λe=>fT e++[10])->(∀e∈l,(10:UInt8)∉fT e/\rE (a_ (fT e))=e)->EQ rE s (C i_)=(C i_,acc)->EQ rE s (N s)=(N s,acc++l)
 | [],i_,acc,b,_,h=>by
  rw[List.flatMap_nil,List.append_nil]at b;rw[<-aS,b,h,List.append_nil]
 | e::l,i_,acc,b,c,h=>by
  rw[List.flatMap_cons,List.append_assoc]at b;obtain ⟨d,D⟩:=c e mem_cons_self;have E:=Kz b d h;have B:C (i_++(fT e++[10]))=C i_+C (fT e)+1:=by
   grind
  have:=XC (rE:=rE) (s:=s) l (i_++(fT e++[10])) (acc++[e]) F_ (λx f=>c x (mem_cons_of_mem _ f)) F_;rw[this,append_assoc];rfl
theorem Pd{rE}(k:∀e,gK e=T->fX e=0->rE (a_ (fT e))=e)(t):gPr rE t=iL t:=by
 have key:∀l,eG l=(t,0)->(EQ rE t (N t)).2=l:=λl h=>by
  have a:(eG l).2=0:=by rw[h]
  have g:lP l=T:=by
   rw[eG]at a
   grind
  have ⟨B,d⟩:=JF g;rw[eG,b6 g]at h a;have ⟨f,i,D⟩:=RM a;rw[nil_append]at i;rw[i]at h;have j:t=a_ _:=(congrArg Prod.fst h).symm;have:=XC (s:=t) l [] [] (by rw[j];rfl) (λe b=>⟨(M2 (d e b) (f e b)).2,k e (d e b) (f e b)⟩) Z;rw[this];rfl
 rw[gPr];by_cases c:20000<N t
 .rw[b6 c,iL,b6 c]
 rw[a8 c];by_cases h:eG (EQ rE t (N t)).2=(t,0)
 .rw[b6 h];have a:(eG (EQ rE t (N t)).2).2=0:=by rw[h]
  have:=E8 a;rw[h]at this;exact this.symm
 rw[iL,a8 c]
 grind
theorem py(n):∀(u4) (acc),(∀f∈u4,N f.text<=n)->(∀t∈acc,N t.key<=n/\N t.val<=n)->C (MJ acc u4).1<=C acc+C u4/\∀t∈(MJ acc u4).1,N t.key<=n/\N t.val<=n
 | [],acc,_,h=>by
  rw[MJ]
  simp_all
 | [a],acc,_,h=>by
  rw[MJ]
  simp_all
 | [a,b],acc,_,h=>by
  rw[MJ]
  simp_all
 | a::b::c::r,acc,e,h=>by
  rw[MJ]
  split
  .have d:=py n r (acc++[mkT a c]) (λf B=>e f G_) (λt D=>by
    grind)
   rw[j8,length_singleton]at d;simp[j6];exact⟨X,d.2⟩
  simp_all
theorem Iw{u4:List _}{n}(h:∀f∈u4,N f.text<=n)(i):N (u4.getD i LF).text<=n:=by
 rw[getD_eq_getElem?_getD];cases e:u4[i]? with
 |none=>exact l7 _
 |some f=>grind
theorem pJ:nh j7:=⟨E_,⟨E_,λt h=>by cases h⟩,E_,λs a=>by cases a⟩
theorem xf{u4:List b7}{n:Nat}(E:n<2^40)(d:∀f∈u4,N f.text<=n)(D:C u4<549755813888):nh (uR u4):=by
 have b:NF (tI u4).1:=by
  rw[tI]
  split
  .have h:=py n (u4.drop 4) [] (λf c=>d f (mem_of_mem_drop c)) (λt a=>by cases a);rw[p_,length_nil]at h;exact⟨X,λt a=>⟨by have:=(h.2 t a).1;omega,by have:=(h.2 t a).2;omega⟩⟩
  have h:=py n (u4.drop (3+C (AS u4)+1)) [] (λf c=>d f (mem_of_mem_drop c)) (λt a=>by cases a);rw[p_,length_nil]at h;exact⟨X,λt a=>⟨by have:=(h.2 t a).1;omega,by have:=(h.2 t a).2;omega⟩⟩
 have B:=Iw d 1;rw[uR]
 split
 .exact⟨G_,b,F_,λs e=>by cases e⟩
 refine⟨G_,b,?_,λs e=>?_⟩
 .have:=(takeWhile_sublist (l:=u4.drop 3) λf=>θ (f.kind=1)).length_le;rw[AS,g_];rw[p_]at this;omega
 obtain ⟨f,c,rfl⟩:=mem_map.1 (show s∈AS u4 from e);have:=d f (mem_of_mem_drop ((takeWhile_sublist _).subset c));omega
theorem Lb{s}(a:N s<2^40):nh (Vn s).1:=by
 rw[Vn]
 split
 .exact pJ
 split
 .split
  .exact pJ
  split
  .exact xf a (λf b=>G5 s f b) (xK s a)
  exact pJ
 exact pJ
theorem ox(s):C (cS s)<=N s+1:=by have a:=IM 32 (ν (μ s));rw[aS]at a;rw[cS,g_];omega
theorem fm{s w}(h:w∈cS s):N w<=N s:=by obtain ⟨x,a,rfl⟩:=mem_map.1 h;have:=rO _ a;rw[aS]at this;show N (a_ x)<=_;rw[cA];omega
theorem FJ{f x y}{id b node key d}{refs}{c}(m:N id<=20000)(j:N b<=20000)(g:N node<=20000)(h:N key<=20000)(e:C refs<=20001)(l:∀s∈refs,N s<=20000)(k:nh c):
  V4 ⟨f,id,b,node,x,y,key,d,refs,c⟩/\C (⟨f,id,b,node,x,y,key,d,refs,c⟩:b8).refs<2^40 :=
 ⟨⟨⟨Nat.lt_of_le_of_lt m H_,Nat.lt_of_le_of_lt j H_,Nat.lt_of_le_of_lt g H_,Nat.lt_of_le_of_lt h H_⟩,⟨Nat.lt_of_le_of_lt e H_,λs i=>Nat.lt_of_le_of_lt (l s i) H_⟩,k⟩,Nat.lt_of_le_of_lt e H_⟩
theorem Lh(f:∀x:B_,N x<=20000->nh (rP x)){s:B_}(e:N s<=20000):V4 (xj rP s)/\C (xj rP s).refs<2^40:=by
 have b:=λi=>Nat.le_trans (GD s i) e;have a:N (a6:B_)<=20000:=l7 _;have d:C ([]:List B_)<=20001:=l7 _;have c:∀s∈([]:List B_),N s<=20000:=λs h=>by cases h
 rw[xj]
 split
 .exact FJ a a a a d c (f _ (Nat.le_trans (gB s _ _) e))
 split
 .exact FJ (b 1) a a a d c pJ
 split
 .exact FJ (b 1) a a (b 2) d c pJ
 split
 .exact FJ (b 1) a a a (by rw[p_];have:=ox s;omega) (λw g=>Nat.le_trans (fm (mem_of_mem_drop g)) e) pJ
 split
 .exact FJ (b 1) a a a d c pJ
 split
 .exact FJ (b 1) (b 3) (b 2) a d c pJ
 split
 .exact FJ (b 1) (b 2) a a d c pJ
 exact FJ a a a a d c pJ
abbrev oQ(id:B_)(k x y:Int)(n:Nat):Ob:=bx 6 135 [sv id,iv k,iv x,iv y,.osl 906 n 0 n,.pv .nils]
def qH(id:B_)(k x y:Int)(R:List B_):aF:=[(906,⟨C R,1,9,bZ R⟩),(7,oQ id k x y (C R)),(2,bx 6 135 ((bS j7).map .pv))]
abbrev qE(s:B_)(u4:List b7):dG:=[(0,sv s),(2,.ref 2 0 0 0),(4,.pv (CY u4)),(7,.ref 7 0 0 0)]
theorem aFa(id)(k x y)(R)(s):qH id k x y (R++[s])=[(906,⟨C R+1,1,9,bZ (R++[s])⟩),(7,oQ id k x y (C R+1)),(2,bx 6 135 ((bS j7).map .pv))]:=by simp[qH]
theorem Ir{α:Type}{p}:∀ {l:List α} {i},i<=C (l.takeWhile p)->(C l<=i->C (l.takeWhile p)=i)/\∀a,l[i]?=A a->(p a=T->i<C (l.takeWhile p))/\(p a=η->C (l.takeWhile p)=i)
 | [],i,h=>⟨λ_=>by simp_all,λa E=>by grind⟩
 | b::l,i,h=>by
  rw[List.takeWhile_cons]at h |-;by_cases F:p b=T
  .cases i with
   |zero=>simp_all
   |succ i =>
    obtain ⟨B,D⟩:=Ir (l:=l) (p:=p) (i:=i) F_
    simp_all
  simp_all
theorem TT{s}(h:N s<=20000):C (fO s).1<100000:=by
 unfold fO
 split
 .decide
 have a:=I9 (kM s (N s+1) 0) [];have B:=BL s (N s+1) 0;rw[length_nil]at a;omega
theorem pz(s:B_)(H:aF)(hs:N s<=20000):RC 162 [sv s] (.tup [av (bS (Vn s).1),iv (Vn s).2]) H:=by
 refine Pu ?_;have d:=xK s X;have ρ:=TT hs;have P:=λf hf=>G5 s f hf;have u:=xf (n:=N s) X P d;have hlx:=λH=>yg s H X;rw[Vn,a8 X];have ⟨u4,hT⟩:∃u4,u4=(fO s).1:=X_;have ⟨er,her⟩:∃e,e=(fO s).2.1:=X_;have ⟨pp,hpp⟩:∃e,e=(fO s).2.2:=X_;simp only[<-hT,<-her,<-hpp]at d ρ P u hlx |-;clear hT her hpp;have D:C (u4.map K_)=C u4:=g_ _;refine Bd func162 Z ntmps162<|U (kl 2 WM)<|V aH<|S<|U aA<|Y (gL U_)<|V iX<|Cn ?_ ?_<;>intro hc1
 .exact absurd (b9 hc1) X
 refine aB<|U aA<|Y (kc call164 (hlx _))<|Y aA<|Y dO<|Y dO<|Y dO<|Y aH<|Y aH<|V aH<|S<|S<|aT (t:=30) (n:=8) (A_:=!θ (er=0)||θ ((C (u4.map K_):Int)<4)) ?_ ?_
 .all_goals refine Y aA<|Y xI<|Dm ?_<;>(refine Sp 26 (λh26=>?_) λh26=>?_)<;>(try exact w_)<;>(first|refine M<|M<|M ?_|refine O aA<|O (fM cU)<|O cI ?_)<;>refine V cD ?_<;>exact Gj (h:=by simp_all)
 refine Cn ?_ ?_<;>intro hc2
 .have hb:=hc2;rw[a8 (λe=>by grind)];refine U (oD F6)<|Uu (jG sizeOf135)<|V aH<|aC<|gD (H':=[]) (.inr Z) Z (C1 cB sizeOf135) (aI Z) (P_ (r:=.tup [av (bS j7),iv 5])) Qq
 have hb:=hc2;rw[q_,Bool.not_eq_false',k_,q7]at hb;have h4:4<=C u4:=X
 rw[b6 ⟨hb.1,h4⟩];have ⟨k,ht0⟩:=aR (show 0<C u4 by omega);have ⟨t,ht1⟩:=aR (show 1<C u4 by omega);have ⟨t2,κ⟩:=aR (show 2<C u4 by omega);have ⟨K,δ⟩:=aR (show 3<C u4 by omega);have i0:=cC (f:=K_) ht0;have i1:=cC (f:=K_) ht1;have i2:=cC (f:=K_) κ;have i3:=cC (f:=K_) δ;have hd:∀ {i:Nat} {f:b7},u4[i]?=A f->u4.getD i LF=f:=fun {i f} h=>by simp_all
 have d1:=hd ht1;have d2:=hd κ;have d3:=hd δ;have q:tK u4=EC k.text:=by rw[tK,hd ht0]
 refine aB<|U aA<|Y (iV iI)<|Y (F9 iN)<|Y (fS N_)<|Y (oD Ql)<|Y (kl 7 Hn)<|Uu (jG sizeOf135)<|Zz<|S<|S ?_;refine fW.ent (E':=qE s u4) (H':=qH t.text 0 0 0 []) (Q_ 906 1 9) ?_;refine Rg<|V aH<|aE<|bF (σ:=Nat) (λj=>(qE s u4++[(8,iv ((j+1:Nat):Int))],qH t.text (kF k.text j) 0 0 [])) (λj=>j<=5) (λj=>5 - j) 0 (l7 _) ?_ ?_
 .exact L_
 rintro j hj;refine S<|U aA<|V H7<|Cn ?_ ?_<;>intro hc3
 .have hj5:j<5:=I_ hc3
  refine aB<|S<|aE<|S<|aM a7<|Cq aA<|Cq (iV iI)<|Cq (F9 iN)<|Cq (fS N_)<|Cq aA<|Cq (kc call214 (GO ((j+1:Nat):Int) _))<|Cq wU<|bG<|Kr<|Cn ?_ ?_<;>intro hc4
  .have hw:k.text=eN ((j+1:Nat):Int):=b9 hc4;refine Rd aA<|Y (bC eJ)<|Uu (by exact cM Z sizeOf3 Z Z Z Z Z Z y0 u1 u1)<|Zz<|Rd aA<|Y iD<|Da ?_;refine⟨j+1,X,X,?_⟩;rw[show kF k.text (j+1)=((j+1:Nat):Int)by rw[kF,b6 hw.symm]];exact L_
  have hw:k.text≠eN ((j+1:Nat):Int):=b_ hc4;refine aB<|Rd aA<|Y iD<|Da ?_;refine⟨j+1,X,X,?_⟩;rw[show kF k.text (j+1)=kF k.text j by rw[kF,a8 (Ne.symm hw)]];exact L_
 have hj5:j=5:=J_ hc3
 subst hj5;rw[yp];generalize EC k.text=x at q |-;refine aP<|Sz aH<|S<|U (bC eJ)<|Y (bQ M_)<|V cF<|Cn ?_ ?_<;>intro hc5
 .have z:x=1:=b9 hc5;subst z;have z2:N t2.text<=20000:=Nat.le_trans (P _ (m7 κ)) hs;have z3:N K.text<=20000:=Nat.le_trans (P _ (m7 δ)) hs;refine S<|S<|aT (t:=64) (n:=13) (A_:=!θ (t2.kind=2)||!θ (K.kind=2)) ?_ ?_
  .all_goals refine Y aA<|Y (iV iI)<|Y (F9 vN)<|Y (fS M_)<|Y xI<|Dm ?_<;>(refine Sp 58 (λh58=>?_) λh58=>?_)<;>(try exact w_)<;>(first|refine M<|M<|M<|M<|M ?_|refine O aA<|O (iV iI)<|O (F9 vN)<|O (fS M_)<|O xI ?_)<;>refine V cD ?_<;>exact Gj (h:=by(simp only[*,Zo];done))
  refine Cn ?_ ?_<;>intro hc6
  .have B:=hc6;rw[b6 ⟨q,by rw[SO,d2,d3];revert B;cases θ (t2.kind=2)<;>cases θ (K.kind=2)<;>decide⟩];refine U (oD F6)<|Uu (jG sizeOf135)<|V aH<|aC<|gD (H':=[]) (.inr Z) Z (C1 cB sizeOf135) (aI Z) (P_ (r:=.tup [av (bS j7),iv 5])) Qq
  have B:=hc6;rw[a8 (λe=>by have h2:=e.2;rw[SO,d2,d3]at h2;revert B h2;cases θ (t2.kind=2)<;>cases θ (K.kind=2)<;>decide)];have v:min ((4:Nat):Int) (C (u4.map K_):Int)=((min (4) (C u4):Nat):Int):=by rw[D];omega
  have g:∀r∈u4.map K_,C r=3:=λr hr=>by
   obtain ⟨f,_,rfl⟩:=mem_map.1 hr;rfl
  have y:((u4.map K_).take (C (u4.map K_))).drop (min (4) (C u4))=(u4.drop (4)).map K_:=by
   rw[take_length,map_drop];rcases Nat.le_total (4) (C u4) with h|h
   .rw[Nat.min_eq_left h]
   rw[Nat.min_eq_right h,drop_of_length_le (by rw[D];exact h_ _),drop_of_length_le (by rw[D];exact h)]
  have hml:min (4) (C u4)<=C (u4.map K_):=by rw[D];exact Nat.min_le_right _ _
  have w:=λH=>M5 (u4.drop (4)) H u6;have F:=(show tI u4=MJ [] (u4.drop 4)by rw[tI,b6 q]);have E:=(show uR u4=⟨t.text,1,dz t2.text,dz K.text,[],(tI u4).1⟩by rw[uR,b6 q,d1,d2,d3]);have ⟨G,b⟩:∃G,G=MJ [] (u4.drop (4)):=X_;rw[E,F]at u;rw[E,F];simp only[<-b]at w u |-;clear b F E;refine aB<|aM a7<|x_ aA<|x_ ((iV iI))<|x_ ((F9 iN))<|x_ ((fS N_))<|x_ (by exact bH Z Z call215 Z (SN t2.text _ X))<|x_ aA<|x_ ((iV iI))<|x_ ((F9 iN))<|x_ ((fS N_))<|x_ (by exact bH Z Z call215 Z (SN K.text _ X))<|x_ ((oD MC))<|Cr [7] (λ_ h=>fh mY h)<|Cp [7] (λH1 o=>by exact qZ Z sizeOf104 Z Z Z Z ((o _ Z).trans Z) Z Z y0 u1 u1)<|bG<|Kr<|S ?_;refine fW.ent (cH.fzG (id:=906) (E':=qE s u4++[(9,iv ((4:Nat):Int))]) (H':=[(7,bx 6 135 [sv (t.text),iv (1),iv ((dz t2.text)),iv ((dz K.text)),.pv (aK (([]:List B_))),.pv .nils]),(2,bx 6 135 ((bS j7).map .pv))]) ((([]:List B_)).map S_) Z (dA _) ?_ Z ?_ ?_) ?_
  .intro p hp;simp only[cons_append,nil_append,l9,q8,or_false]at hp;rcases hp with rfl|rfl|rfl|rfl|rfl<;>exact⟨_,Z,.same (by simp;try rfl)⟩
  .exact⟨⟨_,Z,Z,Z,Z,jO Z (bA (.same H_) (bA (.same H_) (bA (.same H_) (bA (.same H_) (bA (.osl (lC S_ _)) (bA (.same H_) jA))))))⟩,⟨_,Z,Z,Z,Z,dC H_⟩,T_⟩
  .exact T_
  refine Rd aA<|Y aA<|Y aA<|Y (fM cU)<|Y (C9 Z Z Z v)<|Y (eM (l:=(min (4) (C u4))) (h:=(C (u4.map K_))) Z iI Z (by assumption) Z Z X X y)<|Y (kc call216 (w _))<|Y aA<|Y dO<|Y dO<|Y aH<|V aH<|U aA<|Y (bC gF)<|Uu (by exact cM Z sizeOf133 Z Z Z Z Z Z y0 u1 u1)<|Zz<|U (wY cB sizeOf135)<|Y (kc call217 (C4 ⟨t.text,1,(dz t2.text),(dz K.text),([]:List B_),G.1⟩ _ u))<|Y aA<|Y dO<|Y dO<|Y aH<|V aH<|S<|S ?_;refine aT (t:=131) (n:=13) (A_:=(!G.2||!θ ((fK ⟨t.text,1,(dz t2.text),(dz K.text),([]:List B_),G.1⟩).2=0))||!θ ((fK ⟨t.text,1,(dz t2.text),(dz K.text),([]:List B_),G.1⟩).1=s)) ?_ ?_
  .all_goals refine Y aA<|Y iH<|Dm ?_<;>(refine Sp 123 (λI=>?_) λI=>?_)<;>(try exact w_)<;>(first|refine M<|M ?_|refine O aA<|O xI ?_)<;>refine Y cD<|Dm ?_<;>(refine Sp 127 (λQ=>?_) λQ=>?_)<;>(try exact w_)<;>(first|refine M<|M<|M ?_|refine O aA<|O aA<|O E4 ?_)<;>refine V cD ?_<;>exact Gj (h:=by first|(rw[I];rfl)|(rw[I,Q];rfl))
  refine Cn ?_ ?_<;>intro hc7
  .have B:=hc7;rw[a8 (λe=>by rw[e.1,e.2]at B;simp at B)];refine U (oD F6)<|Uu (jG sizeOf135)<|V aH<|aC<|gD (H':=[]) (.inr Z) Z (C1 cB sizeOf135) (aI Z) (P_ (r:=.tup [av (bS j7),iv 5])) Qq
  have B:=hc7;simp only[q_,Bool.not_eq_false',k_]at B;rw[b6 ⟨B.1.1,Prod.ext B.2 B.1.2⟩];refine aB<|U (wY cB sizeOf135)<|Uu (jG sizeOf135)<|V aH<|aC<|gD (H':=[]) (.inr Z) Z (C1 cB sizeOf135) (aI Z) (P_ (r:=.tup [av (bS ⟨t.text,1,(dz t2.text),(dz K.text),([]:List B_),G.1⟩),iv 0])) Qq
 have z:x≠1:=b_ hc5;rw[a8 (λe=>z (q.symm.trans e.1))];have ⟨J,hM⟩:∃J,J=u4.drop 3:=X_;have hMl:C J=C u4 - 3:=by rw[hM,p_]
 have ⟨W,hW⟩:∃W,W=J.takeWhile λf=>θ (f.kind=1):=X_;have γ:W=J.take (C W):=by rw[hW];exact prefix_iff_eq_take.1 (takeWhile_prefix _)
 have hWl:C W<=C J:=by rw[hW];exact(takeWhile_sublist _).length_le
 have L:AS u4=W.map b7.text:=by rw[AS,hW,hM]
 have hg:∀i,i<=C W->(C J<=i->C W=i)/\∀a,J[i]?=A a->(θ (a.kind=1)=T->i<C W)/\(θ (a.kind=1)=η->C W=i):=λi hi=>by
  rw[hW]at hi |-;exact Ir hi
 refine Sz aH<|S<|aE<|bF (σ:=Nat) (λi=>(qE s u4++[(9,iv ((3+i:Nat):Int))],qH t.text x 0 0 ((J.take i).map b7.text))) (λi=>i<=C W) (λi=>C W - i) 0 (l7 _) ?_ ?_
 .exact L_
 rintro i hi;have ⟨g1,g2⟩:=hg i hi;by_cases hin:3+i<C u4
 .have ⟨f,hf⟩:=aR hin;have hfM:J[i]?=A f:=by rw[hM,getElem?_drop];exact hf
  have hif:=cC (f:=K_) hf;have ⟨g3,g4⟩:=g2 f hfM;have i_:θ (((3+i:Nat):Int)<(C (u4.map K_):Int))=T:=decide_eq_true X;refine S<|S<|aT (t:=89) (n:=13) (A_:=θ (f.kind=1)) ?_ ?_
  .all_goals refine Y aA<|Y aA<|Y (fM cU)<|Y (cP.valY (iK Z Z Z) (i_))<|Dm ?_<;>(refine Sp 82 (λh82=>?_) λh82=>?_)<;>(try exact w_)<;>refine O aA<|O aA<|O (bP Z iI Z Z X (l_ (3+i)) hif Z)<|O (F9 vN)<|O (fS M_)<|O cF<|V cD ?_<;>exact Gj (h:=by rfl)
  refine Cn ?_ ?_<;>intro hc8
  .have hk:=g3 hc8;have hMt:(J.take (i+1)).map b7.text=(J.take i).map b7.text++[f.text]:=by rw[take_add_one,hfM,map_append];rfl
   have hRl:C ((J.take i).map b7.text)=i:=by rw[g_,m_];omega
   refine aB<|aE<|S<|aM a7<|Cs (λ_ h=>fh eI h)<|Cs (λ_ h=>lh aG h)<|Cs (λ_ _=>aA)<|Cs (λ_ _=>aA)<|Cs (λH1 o=>by exact bP Z iI Z Z X (l_ (3+i)) hif Z)<|Cs (λ_ _=>(F9 iN))<|Cs (λ_ _=>(fS N_))<|Cs (λH1 o=>by exact aL [S_ f.text] Z aY Z Z Z Z Z R_) ?_;refine iP (r:=⟨_,ζ,[_]⟩) (DStep.plain Z (λH1 o=>by exact bW (ps:=[S_ f.text]) Z aY sW Z ((o _ Z).trans Z) Z Z Z (dI _) Z R_ (m:=1) Z X Z (gT ((J.take i).map b7.text) f.text))) Z ?_;refine Cs (λ_ h=>fh eI h)<|iP (r:=⟨_,ζ,[_]⟩) (DStep.plain Z (λH1 o=>by exact(by exact cM Z sizeOf22 Z Z Z ((o _ Z).trans Z) Z Z y0 u1 u1))) Z ?_;refine bG<|Kr<|Rd aA<|Y iD<|Da ?_;refine⟨i+1,X,X,?_⟩;dsimp only;rw[hMt,aFa];exact L_
  have hk:=g4 hc8;have ⟨R,hR⟩:∃R,R=(J.take i).map b7.text:=X_;have τ:AS u4=R:=by rw[L,γ,hk,hR]
  rw[<-hR];have v:min (((3+i+1):Nat):Int) (C (u4.map K_):Int)=((min ((3+i+1)) (C u4):Nat):Int):=by rw[D];omega
  have g:∀r∈u4.map K_,C r=3:=λr hr=>by
   obtain ⟨f,_,rfl⟩:=mem_map.1 hr;rfl
  have y:((u4.map K_).take (C (u4.map K_))).drop (min ((3+i+1)) (C u4))=(u4.drop ((3+i+1))).map K_:=by
   rw[take_length,map_drop];rcases Nat.le_total ((3+i+1)) (C u4) with h|h
   .rw[Nat.min_eq_left h]
   rw[Nat.min_eq_right h,drop_of_length_le (by rw[D];exact h_ _),drop_of_length_le (by rw[D];exact h)]
  have hml:min ((3+i+1)) (C u4)<=C (u4.map K_):=by rw[D];exact Nat.min_le_right _ _
  have w:=λH=>M5 (u4.drop ((3+i+1))) H u6;have F:=(show tI u4=MJ [] (u4.drop (3+i+1))by rw[tI,a8 (λe=>z (q.symm.trans e)),L,g_,hk]);have E:=(show uR u4=⟨t.text,x,0,0,R,(tI u4).1⟩by rw[uR,a8 (λe=>z (q.symm.trans e)),d1,q,τ]);have ⟨G,b⟩:∃G,G=MJ [] (u4.drop ((3+i+1))):=X_;rw[E,F]at u;rw[E,F];simp only[<-b]at w u |-;clear b F E;refine aP<|Rd aA<|Y iD<|V aH<|S ?_;refine fW.ent (cH.fzG (id:=906) (E':=qE s u4++[(9,iv (((3+i+1):Nat):Int))]) (H':=[(7,bx 6 135 [sv (t.text),iv (x),iv (0),iv (0),.pv (aK (R)),.pv .nils]),(2,bx 6 135 ((bS j7).map .pv))]) ((R).map S_) Z (dA _) ?_ Z ?_ ?_) ?_
  .intro p hp;simp only[cons_append,nil_append,l9,q8,or_false]at hp;rcases hp with rfl|rfl|rfl|rfl|rfl<;>exact⟨_,Z,.same (by simp;try rfl)⟩
  .exact⟨⟨_,Z,Z,Z,Z,jO Z (bA (.same H_) (bA (.same H_) (bA (.same H_) (bA (.same H_) (bA (.osl (lC S_ _)) (bA (.same H_) jA))))))⟩,⟨_,Z,Z,Z,Z,dC H_⟩,T_⟩
  .exact T_
  refine Rd aA<|Y aA<|Y aA<|Y (fM cU)<|Y (C9 Z Z Z v)<|Y (eM (l:=(min ((3+i+1)) (C u4))) (h:=(C (u4.map K_))) Z iI Z (by assumption) Z Z X X y)<|Y (kc call216 (w _))<|Y aA<|Y dO<|Y dO<|Y aH<|V aH<|U aA<|Y (bC gF)<|Uu (by exact cM Z sizeOf133 Z Z Z Z Z Z y0 u1 u1)<|Zz<|U (wY cB sizeOf135)<|Y (kc call217 (C4 ⟨t.text,x,0,0,R,G.1⟩ _ u))<|Y aA<|Y dO<|Y dO<|Y aH<|V aH<|S<|S ?_;refine aT (t:=131) (n:=13) (A_:=(!G.2||!θ ((fK ⟨t.text,x,0,0,R,G.1⟩).2=0))||!θ ((fK ⟨t.text,x,0,0,R,G.1⟩).1=s)) ?_ ?_
  .all_goals refine Y aA<|Y iH<|Dm ?_<;>(refine Sp 123 (λI=>?_) λI=>?_)<;>(try exact w_)<;>(first|refine M<|M ?_|refine O aA<|O xI ?_)<;>refine Y cD<|Dm ?_<;>(refine Sp 127 (λQ=>?_) λQ=>?_)<;>(try exact w_)<;>(first|refine M<|M<|M ?_|refine O aA<|O aA<|O E4 ?_)<;>refine V cD ?_<;>exact Gj (h:=by first|(rw[I];rfl)|(rw[I,Q];rfl))
  refine Cn ?_ ?_<;>intro hc9
  .have B:=hc9;rw[a8 (λe=>by rw[e.1,e.2]at B;simp at B)];refine U (oD F6)<|Uu (jG sizeOf135)<|V aH<|aC<|gD (H':=[]) (.inr Z) Z (C1 cB sizeOf135) (aI Z) (P_ (r:=.tup [av (bS j7),iv 5])) Qq
  have B:=hc9;simp only[q_,Bool.not_eq_false',k_]at B;rw[b6 ⟨B.1.1,Prod.ext B.2 B.1.2⟩];refine aB<|U (wY cB sizeOf135)<|Uu (jG sizeOf135)<|V aH<|aC<|gD (H':=[]) (.inr Z) Z (C1 cB sizeOf135) (aI Z) (P_ (r:=.tup [av (bS ⟨t.text,x,0,0,R,G.1⟩),iv 0])) Qq
 have hk:=g1 X;have i_:θ (((3+i:Nat):Int)<(C (u4.map K_):Int))=η:=decide_eq_false X;have ⟨R,hR⟩:∃R,R=(J.take i).map b7.text:=X_;have τ:AS u4=R:=by rw[L,γ,hk,hR]
 rw[<-hR];refine S<|S<|aT (t:=89) (n:=13) (A_:=η) ?_ ?_
 .all_goals refine Y aA<|Y aA<|Y (fM cU)<|Y (cP.valY (iK Z Z Z) (i_))<|Dm ?_<;>(refine Sp 82 (λh82=>?_) λh82=>?_)<;>(try exact w_)<;>refine M<|M<|M<|M<|M<|M<|V cD ?_<;>exact Gj (h:=by rfl)
 refine Cn ?_ ?_<;>intro β
 .cases β
 have v:min (((3+i+1):Nat):Int) (C (u4.map K_):Int)=((min ((3+i+1)) (C u4):Nat):Int):=by rw[D];omega
 have g:∀r∈u4.map K_,C r=3:=λr hr=>by
  obtain ⟨f,_,rfl⟩:=mem_map.1 hr;rfl
 have y:((u4.map K_).take (C (u4.map K_))).drop (min ((3+i+1)) (C u4))=(u4.drop ((3+i+1))).map K_:=by
  rw[take_length,map_drop];rcases Nat.le_total ((3+i+1)) (C u4) with h|h
  .rw[Nat.min_eq_left h]
  rw[Nat.min_eq_right h,drop_of_length_le (by rw[D];exact h_ _),drop_of_length_le (by rw[D];exact h)]
 have hml:min ((3+i+1)) (C u4)<=C (u4.map K_):=by rw[D];exact Nat.min_le_right _ _
 have w:=λH=>M5 (u4.drop ((3+i+1))) H u6;have F:=(show tI u4=MJ [] (u4.drop (3+i+1))by rw[tI,a8 (λe=>z (q.symm.trans e)),L,g_,hk]);have E:=(show uR u4=⟨t.text,x,0,0,R,(tI u4).1⟩by rw[uR,a8 (λe=>z (q.symm.trans e)),d1,q,τ]);have ⟨G,b⟩:∃G,G=MJ [] (u4.drop ((3+i+1))):=X_;rw[E,F]at u;rw[E,F];simp only[<-b]at w u |-;clear b F E;refine aP<|Rd aA<|Y iD<|V aH<|S ?_;refine fW.ent (cH.fzG (id:=906) (E':=qE s u4++[(9,iv (((3+i+1):Nat):Int))]) (H':=[(7,bx 6 135 [sv (t.text),iv (x),iv (0),iv (0),.pv (aK (R)),.pv .nils]),(2,bx 6 135 ((bS j7).map .pv))]) ((R).map S_) Z (dA _) ?_ Z ?_ ?_) ?_
 .intro p hp;simp only[cons_append,nil_append,l9,q8,or_false]at hp;rcases hp with rfl|rfl|rfl|rfl|rfl<;>exact⟨_,Z,.same (by simp;try rfl)⟩
 .exact⟨⟨_,Z,Z,Z,Z,jO Z (bA (.same H_) (bA (.same H_) (bA (.same H_) (bA (.same H_) (bA (.osl (lC S_ _)) (bA (.same H_) jA))))))⟩,⟨_,Z,Z,Z,Z,dC H_⟩,T_⟩
 .exact T_
 refine Rd aA<|Y aA<|Y aA<|Y (fM cU)<|Y (C9 Z Z Z v)<|Y (eM (l:=(min ((3+i+1)) (C u4))) (h:=(C (u4.map K_))) Z iI Z (by assumption) Z Z X X y)<|Y (kc call216 (w _))<|Y aA<|Y dO<|Y dO<|Y aH<|V aH<|U aA<|Y (bC gF)<|Uu (by exact cM Z sizeOf133 Z Z Z Z Z Z y0 u1 u1)<|Zz<|U (wY cB sizeOf135)<|Y (kc call217 (C4 ⟨t.text,x,0,0,R,G.1⟩ _ u))<|Y aA<|Y dO<|Y dO<|Y aH<|V aH<|S<|S ?_;refine aT (t:=131) (n:=13) (A_:=(!G.2||!θ ((fK ⟨t.text,x,0,0,R,G.1⟩).2=0))||!θ ((fK ⟨t.text,x,0,0,R,G.1⟩).1=s)) ?_ ?_
 .all_goals refine Y aA<|Y iH<|Dm ?_<;>(refine Sp 123 (λI=>?_) λI=>?_)<;>(try exact w_)<;>(first|refine M<|M ?_|refine O aA<|O xI ?_)<;>refine Y cD<|Dm ?_<;>(refine Sp 127 (λQ=>?_) λQ=>?_)<;>(try exact w_)<;>(first|refine M<|M<|M ?_|refine O aA<|O aA<|O E4 ?_)<;>refine V cD ?_<;>exact Gj (h:=by first|(rw[I];rfl)|(rw[I,Q];rfl))
 refine Cn ?_ ?_<;>intro c
 .have B:=c;rw[a8 (λe=>by rw[e.1,e.2]at B;simp at B)];refine U (oD F6)<|Uu (jG sizeOf135)<|V aH<|aC<|gD (H':=[]) (.inr Z) Z (C1 cB sizeOf135) (aI Z) (P_ (r:=.tup [av (bS j7),iv 5])) Qq
 have B:=c;simp only[q_,Bool.not_eq_false',k_]at B;rw[b6 ⟨B.1.1,Prod.ext B.2 B.1.2⟩];refine aB<|U (wY cB sizeOf135)<|Uu (jG sizeOf135)<|V aH<|aC<|gD (H':=[]) (.inr Z) Z (C1 cB sizeOf135) (aI Z) (P_ (r:=.tup [av (bS ⟨t.text,x,0,0,R,G.1⟩),iv 0])) Qq
end Go.Proofs.C
namespace Go.Proofs.C
open Go.Proofs.Tryz
open Go.Abs Go.Lib
theorem Lg{rP:B_->l8}{rX:B_->Int}(hP:∀(x:B_) (H:aF),N x<=20000->RC 162 [sv x] (.tup [av (bS (rP x)),iv (rX x)]) H)(s:B_)(H:aF)(hs:N s<=20000):
  RC 109 [sv s] (av (bL (xj rP s))) H:=by
 refine Pu ?_;have w:=λH=>Kv s H X;have B:∀i,i<C (cS s)->((cS s).map S_)[i]?=A (S_ (wW s i)):=λi hi=>aAl hi;have m:4<=C (cS s)->N (wW s 0)+N (wW s 1)+N (wW s 2)+3<=N s:=aCR;have I:0<C (cS s):=by rw[cS,g_];exact rR _ _
 rw[xj];have ⟨L,hL⟩:∃L,L=cS s:=X_;simp only[<-hL]at w B m I |-;clear hL;have κ:C (L.map S_)=C L:=g_ _;have i0:=B 0 I;refine Bd func109 Z ntmps109<|Sz (kl 2 WL)<|U aA<|Y (kc call161 (w _))<|V aH<|U aA<|Y (fM aD)<|V aH<|S<|S<|aT (t:=22) (n:=10) (A_:=θ (wW s 0=⟨#[112,117,116]⟩)&&θ ((4:Int)<(N s:Int))) ?_ ?_
 .all_goals refine Y aA<|Y (iV aY)<|Y (fS N_)<|Y wU<|Dm ?_<;>(refine Sp 18 (λh18=>?_) λh18=>?_)<;>(first|exact s_|refine M<|M<|M ?_|refine O aA<|O (gL U_)<|O iX ?_)<;>refine V cD ?_<;>exact Gj (h:=by(simp only[*,Zo];done))
 refine Cn ?_ ?_<;>intro W
 .have K:wW s 0=a_ wPut/\_:=AK W;rw[b6 ⟨K.1,X⟩];refine U aA<|Y (bM (l:=4) (h:=N s) Z U_ Z Z Z X (h_ _) Z)<|Y (kc call162 (hP (s.extract 4 (N s)) _ (Nat.le_trans (gB s 4 (N s)) hs)))<|Y aA<|Y dO<|Y dO<|Y (kl 5 WM)<|Uu (jG sizeOf135)<|V aH<|U (by exact aW Z cB sizeOf135 Z Z Z Z (by simp only[Zl,bU,bS,S_,bL,gU,K_];rfl) Z)<|Y (oD uJ)<|Uu (jG bD)<|Zz<|aC ?_;refine cT (H':=[]) (.inr Z) Z (C1 cY bD) (P_ (r:=av (bL ⟨1,a6,a6,a6,0,0,a6,a6,[],rP (s.extract 4 (N s))⟩))) ?_;exact Qq
 have K:¬ (wW s 0=a_ wPut/\_):=AM W;rw[a8 (λh=>K ⟨h.1,X⟩)];refine aB<|S<|S<|aT (t:=38) (n:=9) (A_:=θ (wW s 0=⟨#[109,111,118,101]⟩)&&θ ((C (L.map S_):Int)=4)) ?_ ?_
 .all_goals refine Y aA<|Y (iV aY)<|Y (fS N_)<|Y wU<|Dm ?_<;>(refine Sp 35 (λh35=>?_) λh35=>?_)<;>(first|exact s_|refine M<|M ?_|refine O aA<|O cF ?_)<;>refine V cD ?_<;>exact Gj (h:=by(simp only[*,Zo];done))
 refine Cn ?_ ?_<;>intro a
 .have P:wW s 0=a_ J1/\_:=AK a;rw[b6 ⟨P.1,X⟩];have J:=B 1 X;have z:=B 2 X;have i3:=B 3 X;have z2:=GD s 2;have z3:=GD s 3;refine S<|aM a7<|x_ aA<|x_ ((iV aY))<|x_ ((fS N_))<|x_ aA<|x_ ((iV aY))<|x_ ((fS N_))<|x_ (by exact bH Z Z call163 Z (XD (wW s 2) _ X))<|x_ aA<|x_ ((iV aY))<|x_ ((fS N_))<|x_ (by exact bH Z Z call163 Z (XD (wW s 3) _ X))<|x_ ((oD MC))<|x_ ((oD uJ))<|Cp [2] (λ_ h=>sa bD h)<|bG<|Kr<|aC ?_;refine cT (H':=[]) (.inr Z) Z (C1 cY bD) (P_ (r:=av (bL ⟨2,wW s 1,a6,a6,KL (wW s 2),KL (wW s 3),a6,a6,[],j7⟩))) Qq
 have P:¬ (wW s 0=a_ J1/\_):=AM a;rw[a8 (λh=>P ⟨h.1,X⟩)];refine aB<|eR (λ(_:Unit)=>([(0,sv s),(2,.ref 2 0 0 0),(3,.pv (aK L)),(4,iv (C (L.map S_):Int))],[(2,bx 15 137 ((bL OZ).map .pv))])) (λ_=>¬ ((wW s 0=a_ BJ/\4<=C L)/\IS s=T)) ?_ ?_
 .refine S<|aT (t:=59) (n:=9) (A_:=θ (wW s 0=⟨#[116,97,103]⟩)&&θ ((4:Int)<=(C (L.map S_):Int))) ?_ ?_
  .all_goals refine Y aA<|Y (iV aY)<|Y (fS N_)<|Y wU<|Dm ?_<;>(refine Sp 56 (λh56=>?_) λh56=>?_)<;>(try exact w_)<;>(first|refine M<|M ?_|refine O aA<|O AF ?_)<;>refine V cD ?_<;>exact Gj (h:=by(simp only[*,Zo];done))
  refine Cn ?_ ?_<;>intro b
  .have h3:wW s 0=a_ BJ/\_:=AK b;have J:=B 1 X;have z:=B 2 X;have z0:=GD s 0;have z1:=GD s 1;have z2:=GD s 2;have o:=m X;have δ:N (nC s)<=N s:=gB s _ _;have G:=λH=>yg (nC s) H X;have D:IS s=((θ ((fO (nC s)).2.1=0)&&θ (C (fO (nC s)).1=1))&&θ (((fO (nC s)).1.getD 0 LF).kind=3)):=rfl;have ⟨R,y⟩:∃R,R=nC s:=X_;have Q:s.extract (N (wW s 0)+N (wW s 1)+N (wW s 2)+3) (N s)=R:=by rw[y];rfl
   rw[<-y]at G D;have ⟨u4,hT⟩:∃u4,u4=(fO R).1:=X_;have ⟨er,k⟩:∃e,e=(fO R).2.1:=X_;have ⟨pp,v⟩:∃e,e=(fO R).2.2:=X_;have τ:u4=(fO (nC s)).1:=by rw[hT,y]
   simp only[<-hT,<-k,<-v]at G D;clear hT k v y;have ρ:C (u4.map K_)=C u4:=g_ _;clear K P;by_cases F:C u4=1
   .have ⟨t,ht⟩:=length_eq_one_iff.1 F;have q:(u4.map K_)[0]?=A [.int .i64 t.kind,.str t.text,.int .i64 t.pos]:=by rw[ht];rfl
    have p:u4.getD 0 LF=t:=by rw[ht];rfl
    rw[p,decide_eq_true F,Bool.and_true]at D;have E:θ ((C (u4.map K_):Int)=1)=T:=decide_eq_true X;refine S<|aM a7<|Cq aA<|Cq aA<|Cq (iV aY)<|Cq (fS N_)<|Cq (gL U_)<|Cq aA<|Cq (iV aY)<|Cq (fS N_)<|Cq (gL U_)<|Cq iD<|Cq aA<|Cq (iV aY)<|Cq (fS N_)<|Cq (gL U_)<|Cq iD<|Cq iD<|Cq (bM (l:=N (wW s 0)+N (wW s 1)+N (wW s 2)+3) (h:=N s) Z U_ Z Z Z o (h_ _) Q)<|Cq (kc call164 (G _))<|Cq aA<|Cq dO<|Cq dO<|Cq dO<|Cq aH<|Cq aH<|Cq aH<|bG<|Kr<|S<|aT (t:=95) (n:=16) (A_:=θ (er=0)&&θ (t.kind=3)) ?_ ?_
    .all_goals refine Y aA<|Y cF<|Dm ?_<;>(refine Sp 84 (λh84=>?_) λh84=>?_)<;>(try exact w_)<;>(first|refine M<|M<|M ?_|refine O aA<|O (fM cU)<|O (cP.valY (kR Z Z Z) (E)) ?_)<;>refine Y cD<|Dm ?_<;>(refine Sp 89 (λh89=>?_) λh89=>?_)<;>(try exact w_)<;>(first|refine M<|M<|M<|M<|M ?_|refine O aA<|O (bP Z iI Z Z X (show (0:Int).toNat=0 from Z) q Z)<|O (F9 vN)<|O (fS M_)<|O cF ?_)<;>refine V cD ?_<;>exact Gj (h:=by(simp only[*,Zo];done))
    refine Cn ?_ ?_<;>intro c
    .have hq:IS s=T:=D.trans c;rw[b6 ⟨⟨h3.1,X⟩,hq⟩,<-τ,p];refine S<|aM a7<|x_ aA<|x_ (by exact bP Z aY Z Z X (show (1:Int).toNat=1 from Z) J Z)<|x_ ((fS N_))<|x_ aA<|x_ (by exact bP Z aY Z Z X (show (2:Int).toNat=2 from Z) z Z)<|x_ ((fS N_))<|x_ aA<|x_ (by exact bP Z iI Z Z X (show (0:Int).toNat=0 from Z) q Z)<|x_ ((F9 iN))<|x_ ((fS N_))<|x_ ((oD uJ))<|Cp [2] (λ_ h=>sa bD h)<|bG<|Kr<|aC ?_;refine cT (H':=[]) (.inr Z) Z (C1 cY bD) (P_ (r:=av (bL ⟨3,wW s 1,a6,a6,0,0,wW s 2,t.text,[],j7⟩))) Qq
    have hq:IS s=η:=D.trans c;refine aB ?_;exact⟨(),(λh=>by have:=h.2;rw[hq]at this;cases this),Wk⟩
   have E:θ ((C (u4.map K_):Int)=1)=η:=decide_eq_false X;rw[decide_eq_false F,Bool.and_false,Bool.false_and]at D;refine S<|aM a7<|Cq aA<|Cq aA<|Cq (iV aY)<|Cq (fS N_)<|Cq (gL U_)<|Cq aA<|Cq (iV aY)<|Cq (fS N_)<|Cq (gL U_)<|Cq iD<|Cq aA<|Cq (iV aY)<|Cq (fS N_)<|Cq (gL U_)<|Cq iD<|Cq iD<|Cq (bM (l:=N (wW s 0)+N (wW s 1)+N (wW s 2)+3) (h:=N s) Z U_ Z Z Z o (h_ _) Q)<|Cq (kc call164 (G _))<|Cq aA<|Cq dO<|Cq dO<|Cq dO<|Cq aH<|Cq aH<|Cq aH<|bG<|Kr<|S<|aT (t:=95) (n:=16) (A_:=η) ?_ ?_
   .all_goals refine Y aA<|Y cF<|Dm ?_<;>(refine Sp 84 (λh84=>?_) λh84=>?_)<;>(try exact w_)<;>(first|refine M<|M<|M ?_|refine O aA<|O (fM cU)<|O (cP.valY (kR Z Z Z) (E)) ?_)<;>refine Y cD<|Dm ?_<;>(refine Sp 89 (λh89=>?_) λh89=>?_)<;>(try exact w_)<;>refine M<|M<|M<|M<|M<|V cD ?_<;>exact Gj (h:=by rfl)
   refine Cn ?_ ?_<;>intro σ
   .cases σ
   refine aB ?_;exact⟨(),(λh=>by have:=h.2;rw[D]at this;cases this),Wk⟩
  have h3:¬ (wW s 0=a_ BJ/\_):=AM b;refine aB ?_;exact⟨(),(λh=>h3 ⟨h.1.1,X⟩),Wk⟩
 rintro _ u;rw[a8 u];clear K P u;refine S<|S<|aT (t:=114) (n:=9) (A_:=θ (wW s 0=⟨#[114,101,102,115]⟩)&&θ ((2:Int)<=(C (L.map S_):Int))) ?_ ?_
 .all_goals refine Y aA<|Y (iV aY)<|Y (fS N_)<|Y wU<|Dm ?_<;>(refine Sp 111 (λγ=>?_) λγ=>?_)<;>(try exact w_)<;>(first|refine M<|M ?_|refine O aA<|O AF ?_)<;>refine V cD ?_<;>exact Gj (h:=by(simp only[*,Zo];done))
 refine Cn ?_ ?_<;>intro d
 .have h4:wW s 0=a_ J0/\_:=AK d;rw[b6 ⟨h4.1,X⟩];have J:=B 1 X;refine S<|aM a7<|x_ aA<|x_ ((iV aY))<|x_ ((fS N_))<|x_ aA<|x_ (by exact eM (l:=2) (h:=C (L.map S_)) (rows':=(L.drop 2).map S_) Z aY Z (JK _) Z Z X (h_ _) (by rw[take_length];exact map_drop.symm))<|x_ ((oD uJ))<|Cp [2] (λ_ h=>sa bD h)<|bG<|Kr<|aC ?_;refine cT (H':=[]) (.inr Z) Z (C1 cY bD) (P_ (r:=av (bL ⟨4,wW s 1,a6,a6,0,0,a6,a6,L.drop 2,j7⟩))) Qq
 have h4:¬ (wW s 0=a_ J0/\_):=AM d;rw[a8 (λh=>h4 ⟨h.1,X⟩)];refine aB<|S<|S<|aT (t:=128) (n:=9) (A_:=θ (wW s 0=⟨#[100,114,111,112]⟩)&&θ ((C (L.map S_):Int)=2)) ?_ ?_
 .all_goals refine Y aA<|Y (iV aY)<|Y (fS N_)<|Y wU<|Dm ?_<;>(refine Sp 125 (λβ=>?_) λβ=>?_)<;>(try exact w_)<;>(first|refine M<|M ?_|refine O aA<|O cF ?_)<;>refine V cD ?_<;>exact Gj (h:=by(simp only[*,Zo];done))
 refine Cn ?_ ?_<;>intro f
 .have h5:wW s 0=a_ J3/\_:=AK f;rw[b6 ⟨h5.1,X⟩];have J:=B 1 X;refine U aA<|Y (iV aY)<|Y (fS N_)<|Y (oD uJ)<|Uu (jG bD)<|Zz<|aC<|cT (H':=[]) (.inr Z) Z (C1 cY bD) (P_ (r:=av (bL ⟨5,wW s 1,a6,a6,0,0,a6,a6,[],j7⟩))) Qq
 have h5:¬ (wW s 0=a_ J3/\_):=AM f;rw[a8 (λh=>h5 ⟨h.1,X⟩)];refine aB<|S<|S<|aT (t:=140) (n:=9) (A_:=θ (wW s 0=⟨#[115,112,108,105,116]⟩)&&θ ((C (L.map S_):Int)=4)) ?_ ?_
 .all_goals refine Y aA<|Y (iV aY)<|Y (fS N_)<|Y wU<|Dm ?_<;>(refine Sp 137 (λh137=>?_) λh137=>?_)<;>(try exact w_)<;>(first|refine M<|M ?_|refine O aA<|O cF ?_)<;>refine V cD ?_<;>exact Gj (h:=by(simp only[*,Zo];done))
 refine Cn ?_ ?_<;>intro g
 .have h6:wW s 0=a_ CP/\_:=AK g;rw[b6 ⟨h6.1,X⟩];have J:=B 1 X;have z:=B 2 X;have i3:=B 3 X;refine S<|aM a7<|x_ aA<|x_ ((iV aY))<|x_ ((fS N_))<|x_ aA<|x_ ((iV aY))<|x_ ((fS N_))<|x_ aA<|x_ ((iV aY))<|x_ ((fS N_))<|x_ ((oD uJ))<|Cp [2] (λ_ h=>sa bD h)<|bG<|Kr<|aC<|cT (H':=[]) (.inr Z) Z (C1 cY bD) (P_ (r:=av (bL ⟨6,wW s 1,wW s 3,wW s 2,0,0,a6,a6,[],j7⟩))) Qq
 have h6:¬ (wW s 0=a_ CP/\_):=AM g;rw[a8 (λh=>h6 ⟨h.1,X⟩)];refine aB<|S<|S<|aT (t:=158) (n:=9) (A_:=θ (wW s 0=⟨#[106,111,105,110]⟩)&&θ ((C (L.map S_):Int)=3)) ?_ ?_
 .all_goals refine Y aA<|Y (iV aY)<|Y (fS N_)<|Y wU<|Dm ?_<;>(refine Sp 155 (λh155=>?_) λh155=>?_)<;>(try exact w_)<;>(first|refine M<|M ?_|refine O aA<|O cF ?_)<;>refine V cD ?_<;>exact Gj (h:=by(simp only[*,Zo];done))
 refine Cn ?_ ?_<;>intro j
 .have h7:wW s 0=a_ J2/\_:=AK j;rw[b6 ⟨h7.1,X⟩];have J:=B 1 X;have z:=B 2 X;refine S<|aM a7<|x_ aA<|x_ ((iV aY))<|x_ ((fS N_))<|x_ aA<|x_ ((iV aY))<|x_ ((fS N_))<|x_ ((oD uJ))<|Cp [2] (λ_ h=>sa bD h)<|bG<|Kr<|aC<|cT (H':=[]) (.inr Z) Z (C1 cY bD) (P_ (r:=av (bL ⟨7,wW s 1,wW s 2,a6,0,0,a6,a6,[],j7⟩))) Qq
 have h7:¬ (wW s 0=a_ J2/\_):=AM j;rw[a8 (λh=>h7 ⟨h.1,X⟩)];refine aB<|U (oD uJ)<|Uu (jG bD)<|Zz<|aC<|cT (H':=[]) (.inr Z) Z (C1 cY bD) (P_ (r:=av (bL OZ))) Qq
abbrev RS:=List B_×Bool
abbrev xh(q:RS):Ob:=bx 2 99 [.pv (aK q.1),bv q.2]
abbrev xi(q:RS):aF:=[(980,xh q)]
abbrev xb:AV:=.ref 980 0 0 0
theorem xg(q)(H):∀r∈(xh q).rows,∀a∈r,Clo H a:=H_
instance(q)(H):W_ (H) ((xh q).rows):=⟨xg q H⟩
def Sc(f:FuncId)(q:RS)(v:AV)(B:RS):Prop:=∀H1:aF,H1.get 980=A (xh q)->aU φ f [xb] H1 (λr H'=>r=v/\H'=xi B++H1)
theorem Sc.of{f}{q a}{v}(h:aU φ f [xb] (xi q) (λr H'=>r=v/\H'=xi a)):Sc f q v a:=λH1 c=>by
 have B:∀(q) id,980≠id->(xi q).get id=ζ:=λq id e=>by simp[aF.get,kE e]
 refine aU.frame h (λid ob b=>?_) (dN.ofL ⟨xg q _,T_⟩) m3 (λid hi=>?_)
 .by_cases e:980=id
  .subst e;cases b;exact c
  grind
 by_cases e:980=id
 .subst e;exact .inl Z
 grind
def rN(q:RS):B_×RS:=(q.1.headD a6,(q.1.drop 1,q.2||θ (C q.1=0)))
theorem vL(q:RS)(E:C q.1<2^40):Sc 63 q (sv (rN q).1) (rN q).2:=by
 refine Sc.of ?_;have ⟨L,b⟩:=q;rcases L with _|⟨s,L⟩
 .refine Bd func63 Z ntmps63<|Sz aH<|S<|U aA<|Y pA<|Y (bC NZ)<|Y (bQ aG)<|Y (fM aD)<|V (cP.valY (kR Z Z Z) ((decide_eq_true Z)))<|Cn ?_ ?_<;>intro B
  .refine U aA<|Y pA<|Y (bC NY)<|Uu (by exact cM Z sizeOf4 Z Z Z Z Z Z y0 u0 u0)<|Zz<|Sz aH<|aC ?_;refine cT (H':=(xi ([],T))) (.inr Z) Z (aI Z) P_ ?_;exact⟨Z,by simp[rN]⟩
  cases B
 have D:C ((s::L).map S_)=C L+1:=by rw[g_];rfl
 have F:C L+1<2^40:=E;refine Bd func63 Z ntmps63<|Sz aH<|S<|U aA<|Y pA<|Y (bC NZ)<|Y (bQ aG)<|Y (fM aD)<|V (cP.eqv (kR Z Z Z) (by rw[D,decide_eq_false X]))<|Cn ?_ ?_<;>intro B
 .cases B
 refine aB<|U aA<|Y pA<|Y (bC NZ)<|Y (bQ aG)<|Y (bP Z aY Z Z X (l_ _) Z Z)<|Y (fS N_ (hi:=rfl))<|V aH<|U aA<|Y aA<|Y pA<|Y (bC NZ)<|Y (bQ aG)<|Y (by exact eM (l:=1) (h:=C ((s::L).map S_)) (rows':=L.map S_) Z aY Z (dX _) Z Z H_ (h_ _) (by rw[take_length];rfl))<|Y pA<|Y (bC NZ)<|Uu (by exact cM Z sizeOf22 Z Z Z Z Z Z y0 u0 u0)<|Zz<|U aA<|V aH<|aC ?_;refine cT (H':=(xi (L,b))) (.inr Z) Z (aI Z) P_ ?_;exact⟨Z,by simp[rN]⟩
def WC(l:List UInt8):Int:=l.foldl (λn b=>10*n+(b.toNat:Int) - 48) 0
def yK(s:B_):Option Int:=if 7<N s then ζ else if UN (WC (ν (μ s)))=s then A (WC (ν (μ s)))else ζ
def rU(q:RS):Int×RS:=((yK (rN q).1).getD 0,((rN q).2.1,(rN q).2.2||(yK (rN q).1).isNone))
theorem Nc(l)(b):WC (l++[b])=10*WC l+(b.toNat) - 48:=by rw[WC,foldl_append];rfl
theorem Nd:∀(l:List UInt8) (n:Int) (p:Nat),1<=p -> -(30*p - 30)<=n->n<=30*p - 30 -> -(30*((p*10 ^ C l:Nat)) - 30)<=l.foldl (λn b=>10*n+(b.toNat:Int) - 48) n/\l.foldl (λn b=>10*n+(b.toNat:Int) - 48) n<=30*((p*10 ^ C l:Nat)) - 30
 | [],n,p,_,a,c=>by simp_all
 |b::l,n,p,hp,a,c=>by
  have B:=b.toNat_lt;have:=Nd l (10*n+(b.toNat) - 48) (p*10) X X X;rw[j6,Nat.pow_succ,Nat.mul_comm (10 ^ C l),<-Nat.mul_assoc];exact this
theorem NI{l}(h:C l<=7): -300000000<=WC l/\WC l<=300000000:=by have B:=Nd l 0 1 (h_ _) H_ H_;have D:10 ^ C l<=10 ^ 7:=Nat.pow_le_pow_right H_ h;rw[WC];omega
theorem oS(q:RS)(L:C q.1<2^40):Sc 64 q (iv (rU q).1) (rU q).2:=by
 refine Sc.of ?_;have j:=vL q L;rw[rU];have ⟨⟨s,d⟩,G⟩:∃p,p=rN q:=X_;rw[<-G]at j |-;clear G;dsimp only at j |-;have ⟨l,w⟩:∃l,l=ν (μ s):=X_;have Q:C l=N s:=F_
 have z:∀i b,l[i]?=A b->aZ s i=(b.toNat:Int):=λi b h=>by rw[aZ,<-w,h];rfl
 have k:yK s=ζ->((yK s).getD 0,(d.1,d.2||(yK s).isNone))=(0,(d.1,T)):=λh=>by simp_all
 have g:yK s=A (WC l)->((yK s).getD 0,(d.1,d.2||(yK s).isNone))=(WC l,d):=λh=>by simp_all
 have ⟨y_,D⟩:∃y_,y_=((yK s).getD 0,(d.1,d.2||(yK s).isNone)):=X_;rw[<-D]at k g;show aU φ _ [xb] (xi q) (λr K=>r=iv (((yK s).getD 0,(d.1,d.2||(yK s).isNone)):Int×RS).1/\K=xi (((yK s).getD 0,(d.1,d.2||(yK s).isNone)):Int×RS).2);rw[<-D];clear D;refine Bd func64 Z ntmps64<|Sz aH<|U aA<|Y (kc rI (j _ Z))<|V aH<|Sz aH<|S<|U aA<|Y (gL U_)<|V iX<|Cn ?_ ?_<;>intro t
 .have v:7<N s:=I_ t
  rw[k (by rw[yK,b6 v])];refine U aA<|Y pA<|Y (bC NY)<|Uu (by exact cM Z sizeOf4 Z Z Z Z Z Z F_ u0 u0)<|Zz<|Sz aH<|aC ?_;refine cT (H':=(xi (d.1,T))) (.inr Z) Z (aI Z) P_ ?_;exact Qq
 have v:¬ 7<N s:=J_ t
 refine aB<|S<|Sz aH<|aE<|bF (σ:=Nat) (λi=>([(0,xb),(3,sv s),(4,iv (WC (l.take i))),(5,iv (i:Int))],[(980,xh d)])) (λi=>i<=C l) (λi=>C l - i) 0 (l7 _) ?_ ?_
 .exact Wk
 intro i hi;have P:=NI (l:=l.take i) G_;by_cases x:i<C l
 .have ⟨b,I⟩:=aR x;have y:=z i b I;have J:=b.toNat_lt;have n:WC (l.take (i+1))=10*WC (l.take i)+(b.toNat:Int) - 48:=by rw[eP I,Nc]
  refine S<|U aA<|Y aA<|Y (gL U_)<|V cI<|Cn ?_ ?_<;>intro F
  .refine aB<|S<|aE<|Rd aA<|Y (oZ Z Z Z (lT X X))<|Y aA<|Y aA<|Y (ky U_)<|Y (eE Z cZ underlying3 Z (show ξ.wrap (aZ s i)=(b.toNat:Int)by rw[y,lT X X]))<|Y (dD Z Z Z (lT X X))<|Y (dT Z Z Z (show ξ.wrap (10*WC (l.take i)+(b.toNat:Int) - 48)=WC (l.take (i+1))by rw[n,lT X X]))<|V aH<|Rd aA<|Y kp<|Da ?_;exact⟨i+1,X,X,Wk⟩
  (have h:=b_ F;omega)
 have o:i=C l:=X
 subst o;rw[take_length]at P |-;have u:=λH=>tu (WC l) X X H;refine S<|U aA<|Y aA<|Y (gL U_)<|V cI<|Cn ?_ ?_<;>intro E
 ·(have h:=b9 E;omega)
 refine aP<|S<|U aA<|Y (kc gW (u _))<|Y aA<|V E4<|Cn ?_ ?_<;>intro m
 .have i_:¬ UN (WC l)=s:=by have:=m;intro e;rw[decide_eq_true e]at this;cases this
  rw[k (by rw[yK,a8 v,<-w,a8 i_])];refine U aA<|Y pA<|Y (bC NY)<|Uu (by exact cM Z sizeOf4 Z Z Z Z Z Z y0 u0 u0)<|Zz<|Sz aH<|aC ?_;refine cT (H':=(xi (d.1,T))) (.inr Z) Z (aI Z) P_ ?_;exact Qq
 have B:UN (WC l)=s:=by have:=m;rw[Bool.not_eq_false']at this;exact b9 this
 rw[g (by rw[yK,a8 v,<-w,b6 B])];refine aB<|U aA<|V aH<|aC<|cT (H':=(xi d)) (.inr Z) Z (aI Z) P_ Qq
def rL(q:RS):List B_×RS:=if(C (rU q).2.1:Int)<(rU q).1\/(rU q).1<0 then([],((rU q).2.1,T))else((rU q).2.1.take (rU q).1.toNat,((rU q).2.1.drop (rU q).1.toNat,(rU q).2.2))
def rZ(q:RS):q6×RS:=(⟨(rU q).1,(rL (rU q).2).1,(rL (rL (rU q).2).2).1⟩,(rL (rL (rU q).2).2).2)
theorem aBM(q):C (rN q).2.1<=C q.1:=by show C (q.1.drop 1)<=_;simp_all
theorem aa(q):C (rU q).2.1<=C q.1:=aBM q
theorem aBN(q):C (rL q).2.1<=C q.1:=by
 have:=aa q;rw[rL]
 split
 .exact this
 grind
theorem QM(q:RS)(F:C q.1<2^40):Sc 65 q (.pv (aK (rL q).1)) (rL q).2:=by
 refine Sc.of ?_;have l:=oS q F;have r:=aa q;have e:(C (rU q).2.1:Int)<(rU q).1\/(rU q).1<0->rL q=([],((rU q).2.1,T)):=λh=>by rw[rL,b6 h]
 have d:¬ ((C (rU q).2.1:Int)<(rU q).1\/(rU q).1<0)->rL q=((rU q).2.1.take (rU q).1.toNat,((rU q).2.1.drop (rU q).1.toNat,(rU q).2.2)):=λh=>by rw[rL,a8 h]
 generalize rL q=y_ at e d |-;have ⟨⟨n,L,b⟩,D⟩:∃p,p=rU q:=X_;rw[<-D]at l r e d;clear D;dsimp only at l r e d;have t:C (L.map S_)=C L:=g_ _;refine Bd func65 Z ntmps65<|Sz aH<|U aA<|Y (kc rG (l _ Z))<|V aH<|S<|S<|aT (t:=18) (n:=12) (A_:=θ ((C (L.map S_):Int)<n)||θ (n<0)) ?_ ?_
 .all_goals refine Y aA<|Y aA<|Y pA<|Y (bC NZ)<|Y (bQ aG)<|Y (fM aD)<|Y iX<|Dm ?_<;>(refine Sp 15 (λI=>?_) λI=>?_)<;>(first|exact s_|refine M<|M ?_|refine O aA<|O cI ?_)<;>refine V cD ?_<;>(exact⟨⟨_,Z,G_⟩,Z,Z,Z⟩)
 refine Cn ?_ ?_<;>intro o
 .have j:=o;rw[t,Bool.or_eq_true,k_,k_]at j;rw[e j];refine U aA<|Y pA<|Y (bC NY)<|Uu (by exact cM Z sizeOf4 Z Z Z Z Z Z F_ u0 u0)<|Zz<|Sz aH<|aC ?_;refine cT (H':=(xi (L,T))) (.inr Z) Z (aI Z) (P_ (r:=.pv (aK []))) ?_;exact Qq
 have j:=o;rw[t,q_,q7,q7]at j;rw[d (λh=>h.elim j.1 j.2)];have ⟨G,H⟩:=j;obtain ⟨k,rfl⟩:∃k:Nat,n=(k:Int):=⟨n.toNat,X⟩;rw[l_];have u:∀i,i<=k->C (L.take i)=i:=λi w=>by grind
 refine aB<|Sz (dZ (id:=905) (sz:=1) (ty:=9) Z Z Z)<|S<|Sz aH<|aE<|bF (σ:=Nat) (λi=>([(0,xb),(3,iv (k:Int)),(4,.osl 905 i 0 i),(5,iv (i:Int))],[(905,⟨i,1,9,bZ (L.take i)⟩),(980,xh (L.drop i,b))])) (λi=>i<=k) (λi=>k - i) 0 (l7 _) ?_ ?_
 .exact L_
 intro i w;refine S<|U aA<|Y aA<|V cI<|Cn ?_ ?_<;>intro m
 .have hik:i<k:=I_ m
  have ⟨s,z⟩:=aR (l:=L) (k:=i) X;have B:L.drop i=s::L.drop (i+1):=by
   have E:=(m9.1 z).1;rw[drop_eq_getElem_cons E,(m9.1 z).2]
  have x:Sc 63 (L.drop i,b) (sv s) (L.drop (i+1),b):=by
   have:=vL (L.drop i,b) G_;rw[rN]at this
   simpa[B]using this
  have y:=eP z;have g:=u i w;refine aB<|S<|aE<|Rd aA<|Y aA<|Y (kc rI (x _ Z))<|Y (aL [[.str s]] Z aY Z Z Z Z Z F_)<|Y (by exact bW (k:=i+1) (ps:=[[.str s]]) Z aY sW Z Z Z Z Z ((dI _).trans g) Z F_ (m:=1) Z X Z (rows':=bZ (L.take (i+1))) (by rw[y];exact gT _ s))<|V aH<|Rd aA<|Y kp<|Da ?_;exact⟨i+1,X,X,L_⟩
 have v:i=k:=J_ m
 subst v;have g:=u i w;refine aP<|U aA<|V aH<|aC ?_;refine cT (H':=(xi (L.drop i,b))) (.inr Z) Z (aI Z) (Fin.fz (id:=905) (ob:=⟨i,1,9,bZ (L.take i)⟩) (r':=.pv (aK (L.take i))) ((L.take i).map S_) Z (dA _) (.osl (IL S_ _ g)) Z ⟨⟨_,Z,Z⟩,m5,T_⟩ ⟨Z,T_⟩) ?_;exact Qq
theorem wm(q:RS)(i:C q.1<2^40):Sc 66 q (av (lQ (rZ q).1)) (rZ q).2:=by refine Sc.of ?_;have h:=oS q i;have f:=QM (rU q).2 (Nat.lt_of_le_of_lt (aa q) i);have d:=QM (rL (rU q).2).2 (Nat.lt_of_le_of_lt (aBN _) (Nat.lt_of_le_of_lt (aa q) i));rw[rZ];have ⟨⟨n,k⟩,j⟩:∃p,p=rU q:=X_;rw[<-j]at h f d |-;dsimp only at h f d |-;have ⟨⟨a,m⟩,e⟩:∃p,p=rL k:=X_;rw[<-e]at f d |-;dsimp only at f d |-;have ⟨⟨c,l⟩,g⟩:∃p,p=rL m:=X_;rw[<-g]at d |-;dsimp only at d |-;clear j e g;refine Bd func66 Z ntmps66<|Sz (kl 2 eg)<|Sz (kl 3 eg)<|U aA<|Y (kc rG (h _ Z))<|Y (bC DR)<|Uu (ku sizeOf3)<|Zz<|U aA<|Y (kc call65 (f _ Z))<|Y (bC wQ)<|Uu (ku sizeOf22)<|Zz<|U aA<|Y (kc call65 (d _ Z))<|Y (bC wP)<|Uu (ku sizeOf22)<|Zz<|U (wY hU sizeOf48)<|Uu (jG sizeOf48)<|Zz<|aC ?_;refine cT (H':=(xi l)) (.inr Z) Z (fG Z hU sizeOf48 Z Z Z u0 Z) P_ ?_;exact Qq
theorem F0(l:List B_)(H:aF)(t:rf l):RC 114 [.pv (aK l)] (bv (l.all m6)) H:=by
 refine Pu ?_;have ⟨B,o⟩:=t;have D:C (l.map S_)=C l:=g_ _;refine Bd func114 Z ntmps114<|Sz aH<|S<|Sz aH<|aE<|bF (σ:=Nat) (λk=>([(0,.pv (aK l)),(3,iv (k:Int))],[])) (λk=>k<=C l/\∀j,j<k->∀b,l[j]?=A b->m6 b=T) (λk=>C l - k) 0 ⟨X,X⟩ ?_ ?_
 .exact Wk
 rintro k ⟨hk,f⟩;refine S<|U aA<|Y aA<|Y (fM aD)<|V cI<|Cn ?_ ?_<;>intro e
 .have i:k<C l:=I_ e
  have ⟨s,g⟩:=aR i;have q:=cC (f:=S_) g;have E:=o s (m7 g);have p:=λH=>wt s X H;have d:=λh=>dk (p:=m6) g h;refine aB<|S<|aE<|U aA<|Y aA<|Y (bP Z aY Z Z X x7 q Z)<|Y (fS N_ (hi:=q))<|Y (kc call37 (p _))<|V iH<|Cn ?_ ?_<;>intro c
  .have n:=not_not c;rw[d n];exact Sz aH<|aC<|Rt<|Qq
  have n:=nX c;refine aB<|Rd aA<|Y kp<|Da ?_;exact⟨k+1,⟨X,MT f g n⟩,X,Wk⟩
 have m:k=C l:=J_ e
 subst m;rw[U4 f];exact aP<|Sz aH<|aC<|Rt<|Qq
theorem Ht(s:q6)(H:aF)(D:yJ s):RC 169 [av (lQ s)] (bv (BG s)) H:=by
 refine aU.pure ?_ F_ H;have B:BG s=((θ (s.idx=0)&&θ ((C (s.sig.map S_):Int)=0))&&θ ((C (s.path.map S_):Int)=0)):=by
  rw[BG,Bool.and_assoc]
  grind
 refine Bd func169 Z ntmps169<|U (kb 1)<|V aH<|S<|aT (t:=2) (n:=18) (A_:=BG s) ?_ ?_
 .all_goals refine Y (bC DR)<|Y (bQ M_)<|Y cF<|Dm ?_<;>(refine Sp 6 (λd=>?_) λd=>?_)<;>(first|exact s_|refine M<|M<|M<|M ?_|refine O (bC wQ)<|O (bQ aG)<|O (fM aD)<|O cF ?_)<;>refine Y cD<|Dm ?_<;>(refine Sp 12 (λc=>?_) λc=>?_)<;>(first|refine M<|M<|M<|M ?_|refine O (bC wP)<|O (bQ aG)<|O (fM aD)<|O cF ?_)<;>refine Y cD<|Da ?_<;>exact Gj (h:=by simp_all)
 exact aC<|Rt<|Qq
theorem T8(s:q6)(H:aF)(n:yJ s):RC 116 [av (lQ s)] (bv (lJ s)) H:=by
 refine aU.pure ?_ F_ H;have o:=λH=>Ht s H n;have ⟨⟨E,F⟩,q,u⟩:=n;have g:=λH=>F0 s.sig H q;have h:=λH=>F0 s.path H u;have t:θ (s.idx<256)=θ (s.idx<=255):=by
  grind
 have k:lJ s=(BG s||(((((θ (0<=s.idx)&&θ (s.idx<=255))&&θ ((C (s.sig.map S_):Int)=18))&&θ ((C (s.path.map S_):Int)<=8))&&s.sig.all m6)&&s.path.all m6)):=by rw[lJ,t]
 have ⟨B,e⟩:∃d,d=s.sig.all m6:=X_;have ⟨D,c⟩:∃d,d=s.path.all m6:=X_;generalize BG s=z at o k;rw[<-e]at g k;rw[<-c]at h k;clear e c;refine Bd func116 Z ntmps116<|U (kb 1)<|V aH<|S<|aT (t:=2) (n:=41) (A_:=lJ s) ?_ ?_
 .all_goals refine Y (by exact aW Z hU sizeOf48 Z Z Z Z u0 Z) ?_
  all_goals refine Y (kc call169 (o _))<|Dm ?_<;>(refine Sp 5 (λv=>?_) λv=>?_)<;>(first|exact s_|refine M<|M<|M<|M ?_|refine O (bC DR)<|O (bQ M_)<|O AF<|O aA ?_)<;>(first|refine Sp 9 (λp=>?_) λp=>?_|refine kX (t:=9) Z ?_)<;>(first|exact s_|refine M ?_|refine Fu ?_|refine O (bC DR) ?_)<;>(first|refine M ?_|refine Fu ?_|refine O (bQ M_) ?_)<;>(first|refine M ?_|refine Fu ?_|refine O H7 ?_)<;>(first|refine M<|M ?_|refine O cD<|O aA ?_)<;>(first|refine Sp 14 (λm=>?_) λm=>?_|refine kX (t:=14) Z ?_)<;>(first|exact s_|refine M ?_|refine Fu ?_|refine O (bC wQ) ?_)<;>(first|refine M ?_|refine Fu ?_|refine O (bQ aG) ?_)<;>(first|refine M ?_|refine Fu ?_|refine O (fM aD) ?_)<;>(first|refine M ?_|refine Fu ?_|refine O cF ?_)<;>(first|refine M<|M ?_|refine O cD<|O aA ?_)<;>(first|refine Sp 20 (λi=>?_) λi=>?_|refine kX (t:=20) Z ?_)<;>(first|exact s_|refine M ?_|refine Fu ?_|refine O (bC wP) ?_)<;>(first|refine M ?_|refine Fu ?_|refine O (bQ aG) ?_)<;>(first|refine M ?_|refine Fu ?_|refine O (fM aD) ?_)<;>(first|refine M ?_|refine Fu ?_|refine O H7 ?_)<;>(first|refine M<|M ?_|refine O cD<|O aA ?_)<;>(first|refine Sp 26 (λj=>?_) λj=>?_|refine kX (t:=26) Z ?_)<;>(first|exact s_|refine M ?_|refine Fu ?_|refine O (bC wQ) ?_)<;>(first|refine M ?_|refine Fu ?_|refine O (bQ aG) ?_)<;>(first|refine M ?_|refine Fu ?_|refine O (kc call114 (g _)) ?_)<;>(first|refine M<|M ?_|refine O cD<|O aA ?_)<;>(first|refine Sp 31 (λl=>?_) λl=>?_|refine kX (t:=31) Z ?_)<;>(first|exact s_|refine M ?_|refine Fu ?_|refine O (bC wP) ?_)<;>(first|refine M ?_|refine Fu ?_|refine O (bQ aG) ?_)<;>(first|refine M ?_|refine Fu ?_|refine O (kc call114 (h _)) ?_)<;>(first|refine M ?_|refine O cD ?_)<;>refine Y cD<|Da ?_<;>(exact⟨⟨_,Z,G_⟩,Z,Z,Z⟩)
 exact aC<|Rt<|Qq
def tD:List B_->Bool
 |a::b::r=>jV a b&&tD (b::r)
 |_=>T
theorem lx:∀(l),C (fU l)<=C l
 | []=>h_ _
 | [x]=>h_ _
 |x::y::r=>by
  have B:=lx (y::r);show C (if x=y then fU _ else x::fU _)<=_
  grind
theorem TV:∀(l),Oj l=tD l
 | []=>rfl
 | [x]=>rfl
 | x::y::r=>by
  have d:=TV (y::r);have E:=lx (y::r);rw[Oj,g_]at d |-;show ((!jV y x&&nU _)&&θ ((C (if x=y then fU _ else x::fU _):Int)=_))=(jV x y&&tD _);by_cases e:x=y
  .rw[b6 e,e,GI,Bool.false_and,decide_eq_false (by have D:C (y::y::r)=C (y::r)+1:=rfl;omega),Bool.and_false]
  rw[Bool.and_assoc];have B:(!jV y x)=jV x y:=by
   cases c:jV x y
   .cases b:jV y x
    .exact absurd (CX c b) e
    rfl
   cases b:jV y x
   .rfl
   have:=GH c b;rw[GI]at this;cases this
  simp_all
theorem Bh{l:List _}{k}{a b}(f:l[k]?=A a)(c:l[k+1]?=A b):tD (l.drop k)=(jV a b&&tD (l.drop (k+1))):=by have ⟨h,e⟩:=m9.1 f;have ⟨g,d⟩:=m9.1 c;rw[drop_eq_getElem_cons h,drop_eq_getElem_cons g,e,d];rfl
theorem ZL{l}(h:C l<=1):tD l=T:=by
 match l,h with
 | [],_=>rfl
 | [a],_=>rfl
def pvB(p:GPriv):Bool:=(((θ (200<(N p.name:Int))||θ (200<(N p.reason:Int)))||θ (16<(C (p.sources.map S_):Int)))||θ (200<(C (p.trace.map kN):Int)))||!lJ p.sl
def qz(q:Int×Int):Bool:=cn q.1 q.2
def tG(s:B_):Bool:=!LM s
def BU(p:GPriv):Bool:=!pvB p&&(p.sources.all tG&&p.trace.all qz)
theorem Lv{p}(h:pvB p=T):BU p=η:=by rw[BU,h];rfl
theorem Lu{p}(h:p.sources.all tG=η):BU p=η:=by rw[BU,h,Bool.false_and,Bool.and_false]
theorem Ls{p}(h:p.trace.all qz=η):BU p=η:=by rw[BU,h,Bool.and_false,Bool.and_false]
theorem Lr{p}(a:pvB p=η)(c:p.sources.all tG=T)(b:p.trace.all qz=T):BU p=T:=by rw[BU,a,c,b];rfl
theorem gw(p:GPriv)(H:aF)(e_:re p):RC 117 [av (xR p)] (bv (BU p)) H:=by
 refine aU.pure ?_ F_ H;have r4:=λH=>T8 p.sl H e_.2.2.2.2;have ⟨r,y,⟨q3,B⟩,q4,_⟩:=e_;have J:C (p.sources.map S_)=C p.sources:=g_ _;have W:C (p.trace.map kN)=C p.trace:=g_ _;have K:=λh=>Lv (p:=p) h;have G:=λh=>Lu (p:=p) h;have F:=λh=>Ls (p:=p) h;have E:=λP Q R=>Lr (p:=p) P Q R;have ⟨f,u⟩:∃f,f=lJ p.sl:=X_;have c:pvB p=((((θ (200<(N p.name:Int))||θ (200<(N p.reason:Int)))||θ (16<(C (p.sources.map S_):Int)))||θ (200<(C (p.trace.map kN):Int)))||!f):=by rw[pvB,<-u]
 rw[<-u]at r4;refine Bd func117 Z ntmps117<|U (kb 1)<|V aH<|S<|S<|aT (t:=32) (n:=32) (A_:=pvB p) ?_ ?_
 .all_goals refine Y (bC JJ)<|Y (bQ N_)<|Y (gL U_)<|Y iX<|Dm ?_<;>(refine Sp 9 (λo_=>?_) λo_=>?_)<;>(first|exact s_|refine M<|M<|M<|M ?_|refine O (bC JI)<|O (bQ N_)<|O (gL U_)<|O iX ?_)<;>refine Y cD<|Dm ?_<;>(refine Sp 15 (λc_=>?_) λc_=>?_)<;>(first|exact s_|refine M<|M<|M<|M ?_|refine O (bC yV)<|O (bQ aG)<|O (fM aD)<|O iX ?_)<;>refine Y cD<|Dm ?_<;>(refine Sp 21 (λi_=>?_) λi_=>?_)<;>(first|exact s_|refine M<|M<|M<|M ?_|refine O (bC tV)<|O (bQ kI)<|O (fM gH)<|O iX ?_)<;>refine Y cD<|Dm ?_<;>(refine Sp 27 (λI=>?_) λI=>?_)<;>(first|exact s_|refine M<|M<|M<|M ?_|refine O (bC FX)<|O (wY hU sizeOf48)<|O (kc call116 (r4 _))<|O iH ?_)<;>refine V cD ?_<;>(exact⟨⟨_,Z,G_⟩,Z,Z,Z⟩)
 refine Cn ?_ ?_<;>intro v
 .have z:=v;rw[K z];exact Sz aH<|aC<|Rt<|Qq
 have z:=v;refine aB<|S<|Sz aH<|aE<|bF (σ:=Nat) (λk=>([(1,.ref 1 0 0 0),(3,iv (k:Int))],[(1,bx 7 51 ((xR p).map .pv))])) (λk=>k<=C p.sources/\∀j,j<k->∀b,p.sources[j]?=A b->tG b=T) (λk=>C p.sources - k) 0 ⟨X,X⟩ ?_ ?_
 .exact E0
 rintro k ⟨L,e⟩;refine S<|U aA<|Y (bC yV)<|Y (bQ aG)<|Y (fM aD)<|V cI<|Cn ?_ ?_<;>intro x
 .have m:k<C p.sources:=I_ x
  have ⟨s,i⟩:=aR m;have w:=cC (f:=S_) i;have a:=B s (m7 i);have g:=λh=>dk (p:=tG) i h;refine aB<|S<|aE<|U (bC yV)<|Y (bQ aG)<|Y aA<|Y (kx aY w)<|Y (fS N_ (hi:=w))<|Y (gL U_)<|V iX<|Cn ?_ ?_<;>intro o
  .have d:tG s=η:=by rw[tG,LM,o];rfl
   rw[G (g d)];exact Sz aH<|aC<|Rt<|Qq
  have d:tG s=T:=by rw[tG,LM,o];rfl
  refine aB<|Rd aA<|Y kp<|Da ?_;exact⟨k+1,⟨X,MT e i d⟩,X,E0⟩
 have l:k=C p.sources:=J_ x
 subst l;have D:=U4 e;refine aP<|S<|Sz aH<|aE<|bF (σ:=Nat) (λk=>([(1,.ref 1 0 0 0),(4,iv (k:Int))],[(1,bx 7 51 ((xR p).map .pv))])) (λk=>k<=C p.trace/\∀j,j<k->∀b,p.trace[j]?=A b->qz b=T) (λk=>C p.trace - k) 0 ⟨X,X⟩ ?_ ?_
 .exact E0
 clear e L;rintro k ⟨L,e⟩;refine S<|U aA<|Y (bC tV)<|Y (bQ kI)<|Y (fM gH)<|V cI<|Cn ?_ ?_<;>intro n
 .have m:k<C p.trace:=I_ n
  have ⟨q,i⟩:=aR m;have w:=cC (f:=kN) i;have I:=λH=>Lc q.1 q.2 H;have g:=λh=>dk (p:=qz) i h;refine aB<|S<|aE<|U (bC tV)<|Y (bQ kI)<|Y aA<|Y (kx VM w)<|Y (by exact fF Z eL sizeOf104 Z w u0 Z)<|Y (kc call170 (I _))<|V iH ?_;refine Cn ?_ ?_<;>intro t
  .have d:=not_not t;rw[F (g d)];exact Sz aH<|aC<|Rt<|Qq
  have d:=nX t;refine aB<|Rd aA<|Y kp<|Da ?_;exact⟨k+1,⟨X,MT e i d⟩,X,E0⟩
 have l:k=C p.trace:=J_ n
 subst l;rw[E z D (U4 e)];exact aP<|Sz aH<|aC<|Rt<|Qq
def o0G(r:j_):Bool:=θ (r.kind=1)||(θ (r.kind=3)&&θ (r.order=3))
def o1G(r:j_):Bool:=!o0G r&&θ (0<(C (r.edits.map bL):Int))
def o2G(r:j_):Bool:=o0G r&&!θ ((eG r.edits).2=0)
def o3a(r:j_):Bool:=θ (r.kind=2)||θ (r.kind=3)
def o3G(r:j_):Bool:=if o3a r=T then !m6 r.target else !θ (r.target=a6)
def o4G(r:j_):Bool:=(θ (r.kind=3)&&(θ (r.order<1)||θ (4<r.order)))||(!θ (r.kind=3)&&!θ (r.order=0))
def o5G(r:j_):Bool:=(θ (r.kind=4)&&(!cJ r.from'||θ (r.from'=r.branch)))||(!θ (r.kind=4)&&!θ (r.from'=a6))
def o6G(r:j_):Bool:=θ (r.kind=2)||!r.yes
def EK(r:j_):Bool:=!o1G r&&(!o2G r&&(!o3G r&&(!o4G r&&(!o5G r&&o6G r))))
theorem Wi{r}(h:o1G r=T):EK r=η:=by rw[EK,h];rfl
theorem Wh{r}(h:o2G r=T):EK r=η:=by rw[EK];all_goals simp_all
theorem Wg{r}(h:o3G r=T):EK r=η:=by rw[EK];all_goals simp_all
theorem Wf{r}(h:o4G r=T):EK r=η:=by rw[EK];all_goals simp_all
theorem We{r}(h:o5G r=T):EK r=η:=by rw[EK];all_goals simp_all
theorem Wd{r}(e:o1G r=η)(d:o2G r=η)(b:o3G r=η)(c:o4G r=η)(a:o5G r=η):EK r=o6G r:=by rw[EK,e,d,b,c,a];rfl
theorem Wj(r:j_)(H:aF)(hr:mT r)(x:∀e∈r.edits,C e.refs<2^40):RC 115 [av (eA r)] (bv (EK r)) H:=by
 refine aU.pure ?_ F_ H;have ⟨_,⟨b1,b2,b3⟩,_,⟨e1,e2⟩,_⟩:=hr;have i_:=λH=>SK r.edits H e1 e2 x;have o_:=λH=>wt r.target X H;have E:=λH=>lN r.from' H X
 have n:=λh=>Wi (r:=r) h;have d:=λh=>Wh (r:=r) h;have b:=λh=>Wg (r:=r) h;have f:=λh=>Wf (r:=r) h;have g:=λh=>We (r:=r) h;have R:=λv_ k u4 f_ A_=>Wd (r:=r) v_ k u4 f_ A_;have l:o0G r=(θ (r.kind=1)||(θ (r.kind=3)&&θ (r.order=3))):=rfl;have B:o1G r=(!o0G r&&θ (0<(C (r.edits.map bL):Int))):=rfl;have a:o2G r=(o0G r&&!θ ((eG r.edits).2=0)):=rfl;have p:o3a r=(θ (r.kind=2)||θ (r.kind=3)):=rfl;have J:o3G r=if o3a r=T then !m6 r.target else !θ (r.target=a6):=rfl
 have c:o4G r=((θ (r.kind=3)&&(θ (r.order<1)||θ (4<r.order)))||(!θ (r.kind=3)&&!θ (r.order=0))):=rfl;have ⟨nm,t⟩:∃nm,nm=cJ r.from':=X_
 have s:o5G r=((θ (r.kind=4)&&(!nm||θ (r.from'=r.branch)))||(!θ (r.kind=4)&&!θ (r.from'=a6))):=by rw[o5G,<-t]
 rw[<-t]at E;have Q:o6G r=(θ (r.kind=2)||!r.yes):=rfl;generalize eG r.edits=te at i_ a;generalize m6 r.target=ij at o_ J;clear t;have ⟨o0,h0⟩:∃o,o=o0G r:=X_;have ⟨o1,v_⟩:∃o,o=o1G r:=X_;have ⟨W,k⟩:∃o,o=o2G r:=X_;have ⟨oa,ha⟩:∃o,o=o3a r:=X_;have ⟨F,u4⟩:∃o,o=o3G r:=X_;have ⟨o4,f_⟩:∃o,o=o4G r:=X_;have ⟨o5,A_⟩:∃o,o=o5G r:=X_;have ⟨o6,h6⟩:∃o,o=o6G r:=X_;rw[<-h0]at l B a;rw[<-v_]at B n R;rw[<-k]at a d R;rw[<-ha]at p J;rw[<-u4]at J b R;rw[<-f_]at c f R;rw[<-A_]at s g R;rw[<-h6]at Q R;clear h0 v_ k ha u4 f_ A_ h6;have ⟨ow,P⟩:∃o,o=EK r:=X_;rw[<-P]at n d b f g R |-;clear P;refine Bd func115 Z ntmps115<|U (kb 1)<|V aH<|S<|aT (t:=3) (n:=16) (A_:=o0) ?_ ?_
 .all_goals refine Y (bC oX)<|Y (bQ M_)<|Y cF<|Dm ?_<;>(refine Sp 9 (λh9=>?_) λh9=>?_)<;>(first|exact s_|refine M<|M<|M<|M ?_|refine O (bC oX)<|O (bQ M_)<|O cF<|O aA ?_)<;>(first|refine Sp 13 (λσ=>?_) λσ=>?_|refine kX (t:=13) Z ?_)<;>(first|exact s_|refine M ?_|refine Fu ?_|refine O (bC yU) ?_)<;>(first|refine M ?_|refine Fu ?_|refine O (bQ M_) ?_)<;>(first|refine M ?_|refine Fu ?_|refine O cF ?_)<;>(first|refine M ?_|refine O cD ?_)<;>refine Y cD<|Da ?_<;>exact Gj (h:=by simp_all)
 refine S<|S<|aT (t:=26) (n:=9) (A_:=o1) ?_ ?_
 .all_goals refine Y aA<|Y iH<|Dm ?_<;>(refine Sp 21 (λρ=>?_) λρ=>?_)<;>(first|exact s_|refine M<|M<|M<|M ?_|refine O (bC DP)<|O (bQ pG)<|O (fM fD)<|O iX ?_)<;>refine V cD ?_<;>exact Gj (h:=by simp_all)
 refine Cn ?_ ?_<;>intro I
 .rw[n I];exact Sz aH<|aC<|Rt<|Qq
 have k1:=I;refine aB<|eR (λ(_:Unit)=>([(1,.ref 1 0 0 0)],[(1,bx 21 53 ((eA r).map .pv))])) (λ_=>W=η) ?_ ?_
 .refine Sz aA<|Cn ?_ ?_<;>intro m
  .refine U (bC DP)<|Y (bQ pG)<|Y (kc call110 (i_ _))<|Y aA<|Y dO<|Y dO<|Y aH<|V aH<|U aA<|V xI<|Cn ?_ ?_<;>intro τ
   .have v:W=T:=by rw[a];simp_all
    rw[d v];exact Sz aH<|aC<|Rt<|Qq
   have v:W=η:=by rw[a];simp_all
   refine aB ?_;exact⟨(),v,E0⟩
  have v:W=η:=by rw[a,m];rfl
  refine aB ?_;exact⟨(),v,E0⟩
 rintro _ v;refine eR (λ(_:Unit)=>([(1,.ref 1 0 0 0)],[(1,bx 21 53 ((eA r).map .pv))])) (λ_=>F=η) ?_ ?_
 .refine S<|aT (t:=43) (n:=9) (A_:=oa) ?_ ?_
  .all_goals refine Y (bC oX)<|Y (bQ M_)<|Y cF<|Dm ?_<;>(refine Sp 39 (λD=>?_) λD=>?_)<;>(first|exact s_|refine M<|M<|M ?_|refine O (bC oX)<|O (bQ M_)<|O cF ?_)<;>refine V cD ?_<;>exact Gj (h:=by(rw[p,D];rfl))
  refine Cn ?_ ?_<;>intro z
  .have y_:=z;rw[y_]at J;refine U (bC DO)<|Y (bQ N_)<|Y (kc call37 (o_ _))<|V iH<|Cn ?_ ?_<;>intro c_
   .have i:F=T:=by rw[J,c_];rfl
    rw[b i];exact Sz aH<|aC<|Rt<|Qq
   have i:F=η:=by rw[J,c_];rfl
   refine aB ?_;exact⟨(),i,E0⟩
  have y_:=z;rw[y_]at J;refine U (bC DO)<|Y (bQ N_)<|V E4<|Cn ?_ ?_<;>intro K
  .have i:F=T:=by rw[J,K];rfl
   rw[b i];exact Sz aH<|aC<|Rt<|Qq
  have i:F=η:=by rw[J,K];rfl
  refine aB ?_;exact⟨(),i,E0⟩
 rintro _ i;refine S<|S<|aT (t:=73) (n:=27) (A_:=o4) ?_ ?_
 .all_goals refine Y (bC oX)<|Y (bQ M_)<|Y cF<|Dm ?_<;>(refine Sp 54 (λj=>?_) λj=>?_)<;>(first|exact s_|refine M<|M<|M<|M ?_|refine O (bC yU)<|O (bQ M_)<|O cI<|O aA ?_)<;>(first|refine Sp 58 (λy=>?_) λy=>?_|refine kX (t:=58) Z ?_)<;>(first|exact s_|refine M ?_|refine Fu ?_|refine O (bC yU) ?_)<;>(first|refine M ?_|refine Fu ?_|refine O (bQ M_) ?_)<;>(first|refine M ?_|refine Fu ?_|refine O iX ?_)<;>(first|refine M ?_|refine O cD ?_)<;>refine Y cD<|Dm ?_<;>(refine Sp 64 (λG=>?_) λG=>?_)<;>(first|exact s_|refine M<|M<|M<|M ?_|refine O (bC oX)<|O (bQ M_)<|O xI<|O aA ?_)<;>(first|refine Sp 68 (λκ=>?_) λκ=>?_|refine kX (t:=68) Z ?_)<;>(first|exact s_|refine M ?_|refine Fu ?_|refine O (bC yU) ?_)<;>(first|refine M ?_|refine Fu ?_|refine O (bQ M_) ?_)<;>(first|refine M ?_|refine Fu ?_|refine O xI ?_)<;>(first|refine M ?_|refine O cD ?_)<;>refine V cD ?_<;>exact Gj (h:=by first|(rw[c,j,y];rfl)|(rw[c,j,y,G];rfl)|(rw[c,j]at *;simp_all;done))
 refine Cn ?_ ?_<;>intro r4
 .rw[f r4];exact Sz aH<|aC<|Rt<|Qq
 have k4:=r4;refine aB<|S<|S<|aT (t:=99) (n:=30) (A_:=o5) ?_ ?_
 .all_goals refine Y (bC oX)<|Y (bQ M_)<|Y cF<|Dm ?_<;>(refine Sp 77 (λw=>?_) λw=>?_)<;>(first|exact s_|refine M<|M<|M<|M<|M ?_|refine O (bC xP)<|O (bQ N_)<|O (kc gC (E _))<|O iH<|O aA ?_)<;>(first|refine Sp 82 (λu=>?_) λu=>?_|refine kX (t:=82) Z ?_)<;>(first|exact s_|refine M ?_|refine Fu ?_|refine O (bC xP) ?_)<;>(first|refine M ?_|refine Fu ?_|refine O (bQ N_) ?_)<;>(first|refine M ?_|refine Fu ?_|refine O (bC DQ) ?_)<;>(first|refine M ?_|refine Fu ?_|refine O (bQ N_) ?_)<;>(first|refine M ?_|refine Fu ?_|refine O wU ?_)<;>(first|refine M ?_|refine O cD ?_)<;>refine Y cD<|Dm ?_<;>(refine Sp 90 (λd_=>?_) λd_=>?_)<;>(first|exact s_|refine M<|M<|M<|M ?_|refine O (bC oX)<|O (bQ M_)<|O xI<|O aA ?_)<;>(first|refine Sp 94 (λz_=>?_) λz_=>?_|refine kX (t:=94) Z ?_)<;>(first|exact s_|refine M ?_|refine Fu ?_|refine O (bC xP) ?_)<;>(first|refine M ?_|refine Fu ?_|refine O (bQ N_) ?_)<;>(first|refine M ?_|refine Fu ?_|refine O E4 ?_)<;>(first|refine M ?_|refine O cD ?_)<;>refine V cD ?_<;>exact Gj (h:=by first|(rw[s,w,u];rfl)|(rw[s,w,u,d_];rfl)|(clear n d b f g R;simp_all;done))
 refine Cn ?_ ?_<;>intro L
 .rw[g L];exact Sz aH<|aC<|Rt<|Qq
 rw[R k1 v i k4 L];refine aB<|S<|aT (t:=2) (n:=10) (A_:=o6) ?_ ?_
 .all_goals refine Y (bC oX)<|Y (bQ M_)<|Y cF<|Dm ?_<;>(refine Sp 103 (λq=>?_) λq=>?_)<;>(first|exact s_|refine M<|M<|M ?_|refine O (bC JH)<|O (bQ nO)<|O iH ?_)<;>refine Y cD<|Da ?_<;>exact Gj (h:=by(rw[Q,q];rfl))
 exact aC<|Rt<|Qq
end Go.Proofs.C
section
namespace Go.Proofs.C
open Go.Proofs.Tryz
open Go.Abs
theorem aBm(q):bk q=!qz q:=by rw[Bool.eq_iff_iff];simp[bk,qz,cn,Bool.or_eq_true,r9,Bool.and_eq_false_iff,q7];omega
theorem Aj{α:Type}{p q}(h:∀x,p x=!q x):∀(l:List α),l.any p=!l.all q
 | []=>rfl
 |x::l=>by grind
theorem aDT(r):vn r=!(BU r.priv&&lJ r.sl):=by
 rw[vn,BU,pvB,Aj aBm,Aj (q:=tG) (λx=>by rw[tG,Bool.not_not]) r.priv.sources];show (((((!r.priv.trace.all _||!(!(θ _||(θ _||false))))||_)||_)||_)||_||_)=_
 grind
def vAk(r:j_):Bool:=θ (1<=r.kind)&&θ (r.kind<=5)
def vA(r:j_):Bool:=(((((((((θ (r.kind<1)||θ (5<r.kind))||θ (r.author<0))||θ (59<r.author))||θ (r.number<1))||θ (128<r.number))||θ (r.clock<1))||θ (1000000<r.clock))||!cJ r.branch)||θ (16<(C (r.parents.map S_):Int)))||!r.parents.all m6
theorem aDS(r):(!vA r&&tD r.parents)=(vAk r&&!mv r):=by
 have g:θ (r.kind<1)=!θ (1<=r.kind):=G_
 have c:θ (5<r.kind)=!θ (r.kind<=5):=G_
 have d:θ (r.author<0)=!θ (0<=r.author):=G_
 have f:θ (59<r.author)=!θ (r.author<=59):=G_
 have e:θ (r.number<1)=!θ (1<=r.number):=G_
 have a:θ (128<r.number)=!θ (r.number<=128):=G_
 have h:θ (r.clock<1)=!θ (1<=r.clock):=G_
 have b:θ (1000000<r.clock)=!θ (r.clock<=1000000):=G_
 rw[vA,vAk,mv,mV,mV,mV,TV,g,c,d,f,e,a,h,b];simp[Bool.not_or,Bool.not_not,Bool.not_and,Bool.and_assoc]
theorem aCl:¬ (eG []).2=0:=E_
theorem aBg{r:j_}(i:vAk r=T):EK r=(((kJ r.edits).2&&NQ r)&&v5G r):=by
 rw[vAk,l6,k_,k_]at i;have p:C (r.edits.map bL)=C r.edits:=g_ _;have n:(kJ r.edits).2=(θ (C r.edits=0)||θ ((eG r.edits).2=0)):=by
  rw[kJ]
  grind
 have k:θ (0<(C (r.edits.map bL):Int))=!θ (C r.edits=0):=by
  grind
 have s:C r.edits=0->θ ((eG r.edits).2=0)=η:=λh=>by
  rw[eq_nil_of_length_eq_zero h];rfl
 rw[v5G,n,EK,o1G,o2G,o3G,o4G,o5G,o6G,k];have ⟨l,m⟩:∃l,l=θ (C r.edits=0):=X_;have ⟨g,e⟩:∃g,g=θ ((eG r.edits).2=0):=X_;have a:l=T->g=η:=λh=>by simp_all
 rw[<-m,<-e];clear m e s k n p;have d:r.kind=1\/r.kind=2\/r.kind=3\/r.kind=4\/r.kind=5:=X
 have B:θ (r.target=a6)=θ (r.target=a6):=rfl;have ⟨y,D⟩:∃y,y=r.yes:=X_;have o:θ (r.order<1)=!θ (1<=r.order):=G_
 have j:θ (4<r.order)=!θ (r.order<=4):=G_
 rw[o0G,o3a,NQ,dx,So,Gx,Ik,Ss,ndG,o,j,mV];clear o j i;rcases d with h|h|h|h|h
 .simp only[h];by_cases c1:r.target=a6<;>by_cases c2:r.order=0<;>by_cases c3:r.from'=a6<;>cases b:r.yes<;>cases l<;>cases g<;>simp[c1,c2,c3,b]at a |-
 .simp only[h];by_cases c2:r.order=0<;>by_cases c3:r.from'=a6<;>cases b:m6 r.target<;>cases l<;>cases g<;>simp[c2,c3,b]at a |-
 .simp only[h];by_cases c2:r.order=3
  .rw[c2];by_cases c3:r.from'=a6<;>cases b:m6 r.target<;>cases f:r.yes<;>cases l<;>cases g<;>simp[c3,b,f]at a |-
  cases c1:θ (1<=r.order)<;>cases q:θ (r.order<=4)<;>by_cases c3:r.from'=a6<;>cases b:m6 r.target<;>cases f:r.yes<;>cases l<;>cases g<;>simp[c1,c2,c3,b,f,q]at a |-
 .simp only[h];by_cases c1:r.target=a6<;>by_cases c2:r.order=0<;>by_cases c3:r.from'=r.branch<;>cases b:cJ r.from'<;>cases f:r.yes<;>cases l<;>cases g<;>simp[c1,c2,c3,b,f]at a |-
 simp only[h];by_cases c1:r.target=a6<;>by_cases c2:r.order=0<;>by_cases c3:r.from'=a6<;>cases b:r.yes<;>cases l<;>cases g<;>simp[c1,c2,c3,b]at a |-
theorem aAq(r):(!vA r&&(tD r.parents&&((EK r&&lJ r.sl)&&BU r.priv)))=iE r:=by
 rw[<-Bool.and_assoc,aDS,iE,aDT];by_cases b:vAk r=T
 .rw[aBg b]
  grind
 have a:vAk r=η:=F_
 have f:NQ r=η:=by
  cases e:NQ r
  .rfl
  have ⟨c,d⟩:=B4 e;rw[vAk,decide_eq_true c,decide_eq_true d]at a;cases a
 rw[a,f,Bool.false_and,Bool.false_and,Bool.and_false,Bool.false_and]
end Go.Proofs.C
end
namespace Go.Proofs.C
open Go.Proofs.Tryz
open Go.Abs Go.Lib
theorem fw(r:j_)(H:aF)(R:mT r)(x:∀e∈r.edits,C e.refs<2^40):RC 69 [av (eA r)] (bv (iE r)) H:=by
 refine aU.pure ?_ F_ H;have j:C (r.parents.map S_)=C r.parents:=g_ _;have K:=λH=>Wj r H R x;have z:=λH=>gw r.priv H R.2.2.2.2.2;have q:=λH=>T8 r.sl H R.2.2.2.2.1;have o:=λH=>lN r.branch H (by have:=R.2.1.1;omega);have p:=λH=>F0 r.parents H R.2.2.1;have m:=R.2.2.1.1;have D:=aAq r;have u4:vA r=((((((((((θ (r.kind<1)||θ (5<r.kind))||θ (r.author<0))||θ (59<r.author))||θ (r.number<1))||θ (128<r.number))||θ (r.clock<1))||θ (1000000<r.clock))||!cJ r.branch)||θ (16<(C (r.parents.map S_):Int)))||!r.parents.all m6):=rfl;have ⟨a,y_⟩:∃a,a=vA r:=X_;have ⟨b,w⟩:∃a,a=EK r:=X_;have ⟨E,I⟩:∃a,a=lJ r.sl:=X_;have ⟨B,L⟩:∃a,a=BU r.priv:=X_;have ⟨nm,J⟩:∃a,a=cJ r.branch:=X_;have ⟨dg,G⟩:∃a,a=r.parents.all m6:=X_;generalize iE r=v at D |-;rw[<-y_]at D u4;rw[<-w]at D K;rw[<-I]at D q;rw[<-L]at D z;rw[<-J]at u4 o;rw[<-G]at u4 p;clear y_ w I L J G;refine Bd func69 Z ntmps69<|U (kb 1)<|V aH<|S<|S<|aT (t:=59) (n:=66) (A_:=a) ?_ ?_
 .all_goals refine Y (bC oX)<|Y (bQ M_)<|Y cI<|Dm ?_<;>(refine Sp 7 (λh7=>?_) λh7=>?_)<;>(first|exact s_|refine M<|M<|M ?_|refine O (bC oX)<|O (bQ M_)<|O iX ?_)<;>refine Y cD<|Dm ?_<;>(refine Sp 12 (λD=>?_) λD=>?_)<;>(first|exact s_|refine M<|M<|M ?_|refine O (bC FW)<|O (bQ M_)<|O cI ?_)<;>refine Y cD<|Dm ?_<;>(refine Sp 17 (λe_=>?_) λe_=>?_)<;>(first|exact s_|refine M<|M<|M ?_|refine O (bC FW)<|O (bQ M_)<|O iX ?_)<;>refine Y cD<|Dm ?_<;>(refine Sp 22 (λK=>?_) λK=>?_)<;>(first|exact s_|refine M<|M<|M ?_|refine O (bC A1)<|O (bQ M_)<|O cI ?_)<;>refine Y cD<|Dm ?_<;>(refine Sp 27 (λr4=>?_) λr4=>?_)<;>(first|exact s_|refine M<|M<|M ?_|refine O (bC A1)<|O (bQ M_)<|O iX ?_)<;>refine Y cD<|Dm ?_<;>(refine Sp 32 (λI=>?_) λI=>?_)<;>(first|exact s_|refine M<|M<|M ?_|refine O (bC FV)<|O (bQ M_)<|O cI ?_)<;>refine Y cD<|Dm ?_<;>(refine Sp 37 (λL=>?_) λL=>?_)<;>(first|exact s_|refine M<|M<|M ?_|refine O (bC FV)<|O (bQ M_)<|O iX ?_)<;>refine Y cD<|Dm ?_<;>(refine Sp 42 (λo_=>?_) λo_=>?_)<;>(first|exact s_|refine M<|M<|M<|M ?_|refine O (bC DQ)<|O (bQ N_)<|O (kc gC (o _))<|O iH ?_)<;>refine Y cD<|Dm ?_<;>(refine Sp 48 (λR=>?_) λR=>?_)<;>(first|exact s_|refine M<|M<|M<|M ?_|refine O (bC oW)<|O (bQ aG)<|O (fM aD)<|O iX ?_)<;>refine Y cD<|Dm ?_<;>(refine Sp 54 (λf_=>?_) λf_=>?_)<;>(first|exact s_|refine M<|M<|M<|M ?_|refine O (bC oW)<|O (bQ aG)<|O (kc call114 (p _))<|O iH ?_)<;>refine V cD ?_<;>(exact⟨⟨_,Z,G_⟩,Z,Z,Z⟩)
 refine Cn ?_ ?_<;>intro y
 .have W:=y;rw[W]at D;rw[<-D];exact Sz aH<|aC<|Rt<|Qq
 have W:=y;rw[W]at D;have D:(tD r.parents&&((b&&E)&&B))=v:=D;refine aB<|S<|Sz aH<|aE<|bF (σ:=Nat) (λk=>([(1,.ref 1 0 0 0),(3,iv ((k:Int)+1))],[(1,bx 21 53 ((eA r).map .pv))])) (λk=>k<=C r.parents/\tD r.parents=tD (r.parents.drop k)) (λk=>C r.parents - k) 0 ⟨X,Z⟩ ?_ ?_
 .exact E0
 rintro k ⟨hk,hst⟩;refine S<|U aA<|Y (bC oW)<|Y (bQ aG)<|Y (fM aD)<|V cI<|Cn ?_ ?_<;>intro d
 .have P:k+1<C r.parents:=I_ d
  have ⟨s,c⟩:=aR (l:=r.parents) (k:=k) X;have ⟨t,g⟩:=aR P;have hi:=cC (f:=S_) c;have u:=cC (f:=S_) g;have F:=Bh c g;have Q:ξ.wrap ((k:Int)+1 - 1)=(k:Int):=by rw[lT X X];omega
  refine aB<|S<|aE<|S<|aM a7<|Cq (bC oW)<|Cq (bQ aG)<|Cq aA<|Cq (dT Z Z Z Q)<|Cq (bP Z aY Z Z X x7 hi Z)<|Cq (fS N_ (hi:=hi))<|Cq (bC oW)<|Cq (bQ aG)<|Cq aA<|Cq (bP Z aY Z Z X x7 u Z)<|Cq (fS N_ (hi:=u))<|Cq (KY Z Z Z)<|bG<|Kr<|Cn ?_ ?_<;>intro n
  .have A_:=not_not n;rw[hst,F,A_]at D;rw[<-D];exact Sz aH<|aC<|Rt<|Qq
  have A_:=nX n;refine aB<|Rd aA<|Y (by exact dD Z Z Z (show ξ.wrap ((k:Int)+1+1)=((k+1:Nat):Int)+1 by rw[lT X X];omega))<|Da ?_;exact⟨k+1,⟨X,F_⟩,X,E0⟩
 have i:C r.parents<=k+1:=J_ d
 rw[hst,ZL u6]at D;have D:((b&&E)&&B)=v:=D;rw[<-D];refine aP<|S<|aT (t:=2) (n:=15) (A_:=(b&&E)&&B) ?_ ?_
 .all_goals refine Y (wY cQ bJ)<|Y (kc call115 (K _))<|Dm ?_<;>(refine Sp 81 (λG=>?_) λG=>?_)<;>(first|exact s_|refine M<|M<|M ?_|refine O (bC AG)<|O (wY hU sizeOf48)<|O (kc call116 (q _)) ?_)<;>refine Y cD<|Dm ?_<;>(refine Sp 86 (λc_=>?_) λc_=>?_)<;>(first|exact s_|refine M<|M<|M ?_|refine O (bC iM)<|O (wY isAgg51 sizeOf51)<|O (kc call117 (z _)) ?_)<;>refine Y cD<|Da ?_<;>exact Gj (h:=by(simp_all;done))
 exact aC<|Rt<|Qq
theorem aDe(r:j_)(H:aF)(j:mT r)(b:∀e∈r.edits,C e.refs<2^40):RC 26 [av (eA r)] (sv (JB r)) H:=by
 refine aU.pure ?_ F_ H;have i:=λH=>fw r H j b;refine Bd func26 Z ntmps26<|U (tL (id:=1) Z Z Z Z Z)<|V aH<|S<|U (aW Z cQ bJ Z Z Z Z (Z) Z)<|Y (bH Z Z call69 Z (i _))<|V iH<|Cn ?_ ?_<;>intro c
 .have d:=not_not c;rw[JB,d];exact Sz aH<|aC<|Rt<|Qq
 have d:=nX c;have h:=sX d;have g:=λH=>Pj r j h b H;have f:=λH=>wq (vR r) (Nat.le_trans (KO h) E_) (KP h) H;rw[JB,b6 d];exact aB<|U (aW Z cQ bJ Z Z Z Z (Z) Z)<|Y (bH Z Z call70 Z (g _))<|Y (kc call52 (f _))<|V aH<|aC<|Rt<|Qq
def pt2(q:Int×Int):List B_:=[aV q.1,aV q.2]
def pk(p:GPriv):List B_:=[p.name,p.reason,aV (C p.sources:Int)]
def HI(p:GPriv)(k:Nat):List B_:=((pk p++p.sources)++[aV (C p.trace:Int)])++(p.trace.take k).flatMap pt2
theorem Uy(p):HI p (C p.trace)=zK (VQ p):=by rw[HI];simp[VQ,zK,fI,pk];rfl
theorem Cd{p}{k}{q}(h:p.trace[k]?=A q):HI p (k+1)=HI p k++pt2 q:=by simp[HI,eP h,flatMap_append]
theorem Ki(r:j_)(I:mT r)(o:VF r)(H:aF):RC 112 [av (xR r.priv)] (.pv (aK (zK (VQ r.priv)))) H:=by
 refine aU.pure ?_ F_ H;have j:=o.tr;have B:=o.sol;have E:=o.trl;generalize r.priv=p at j B E |-;clear o I;have g:C (p.sources.map S_)=C p.sources:=g_ _;have t:C (p.trace.map kN)=C p.trace:=g_ _;have u:∀H,RC 84 [iv (C (p.sources.map S_):Int)] (sv (aV (C p.sources:Int))) H:=λH=>by
  rw[g];exact CD (C p.sources:Int) X X H
 have J:∀H,RC 84 [iv (C (p.trace.map kN):Int)] (sv (aV (C p.trace:Int))) H:=λH=>by
  rw[t];exact CD (C p.trace:Int) X X H
 have v:C (bZ (pk p++p.sources))=3+C p.sources:=by rw[bZ,g_,j8];rfl
 have n:∀k,k<=C p.trace->C (HI p k)=4+C p.sources+2*k:=λk i=>by
  have:C ((p.trace.take k).flatMap pt2)=2*k:=by
   have G:∀l:List (Int×Int),C (l.flatMap pt2)=2*C l:=λl=>by
    induction l with
    |nil=>rfl
    |cons q l K=>rw[flatMap_cons,j8,K,j6];show 2+_=_;omega
   rw[G,m_];omega
  rw[HI,j8,j8,j8,this];show 3+_+1+_=_;omega
 have R:∀k,k<=C p.trace->C (bZ (HI p k))=4+C p.sources+2*k:=λk i=>by rw[bZ,g_,n k i]
 have Q:bZ (pk p++p.sources)++([aV (C p.trace:Int)].map S_).map (·.map AV.pv)=bZ (HI p 0):=by rw[eX,HI,take_zero,flatMap_nil,append_nil]
 refine Bd func112 Z ntmps112<|U (kb 1)<|V aH<|S<|aM a7<|Cr [1] (λ_ h=>fh JJ h)<|Cr [1] (λ_ h=>lh N_ h)<|Cr [1] (λ_ h=>fh JI h)<|Cr [1] (λ_ h=>lh N_ h)<|Cr [1] (λ_ h=>fh yV h)<|Cr [1] (λ_ h=>lh aG h)<|Cr [] (λ_ _=>(fM aD))<|Cr [] (λe d=>by exact bH Z Z gW Z (u _))<|Cp [971] (λe d=>by exact eO (id:=971) Z aY Z Z Z Z F_ ((d _ Z).trans Z))<|Cr [971] (λ_ _=>aH)<|bG<|Kr<|U aA<|Y (bC yV)<|Y (bQ aG)<|Y (by exact bW (ob:=⟨0,1,9,bZ (pk p)⟩) (k:=3+p.sources.length) (ps:=p.sources.map S_) Z aY sW Z Z Z Z Z Z Z (dX _) (m:=p.sources.length) g X Z (rows':=bZ (pk p++p.sources)) (by exact eX _ _)) ?_;refine V aH<|U aA<|Y (bC tV)<|Y (bQ kI)<|Y (fM gH)<|Y (kc gW (J _))<|Y (by exact aL ([aV (p.trace.length:Int)].map S_) Z aY Z Z Z Z Z (dX _))<|Y (by exact bW (ob:=⟨1,1,9,bZ (pk p++p.sources)⟩) (k:=4+p.sources.length+2*0) (ps:=[aV (p.trace.length:Int)].map S_) Z aY sW Z Z Z Z Z v Z (dX _) (m:=1) Z X X (rows':=bZ (HI p 0)) X)<|V aH<|S<|Sz aH<|aE<|bF (σ:=Nat) (λk=>([(1,.ref 1 0 0 0),(3,.osl 971 (2+k) 0 (4+p.sources.length+2*k)),(4,iv (k:Int))],[(1,bx 7 51 ((xR p).map .pv)),(971,⟨2+k,1,9,bZ (HI p k)⟩)])) (λk=>k<=p.trace.length) (λk=>p.trace.length - k) 0 X ?_ ?_
 .exact L_
 intro k i;have m:=R k i;refine S<|U aA<|Y (bC tV)<|Y (bQ kI)<|Y (fM gH)<|V cI<|Cn ?_ ?_<;>intro f
 .have y:k<C p.trace:=I_ f
  have ⟨q,z⟩:=aR y;have P:=j q (m7 z);have s:=cC (f:=kN) z;have L:=λH=>CD q.1 X X H;have F:=λH=>CD q.2 X X H;refine aB<|S<|aE<|aM a7<|Cr [971] (λ_ _=>aA)<|Cr [1] (λ_ h=>fh tV h)<|Cr [1] (λ_ h=>lh kI h)<|x_ aA<|x_ (by exact bP Z VM Z Z X x7 s Z)<|x_ ((F9 nA))<|x_ ((fS M_ (hi:=s)))<|x_ (by exact bH Z Z gW Z (L _))<|Cr [1] (λ_ h=>fh tV h)<|Cr [1] (λ_ h=>lh kI h)<|x_ aA<|x_ (by exact bP Z VM Z Z X x7 s Z)<|x_ ((F9 mZ))<|x_ ((fS M_ (hi:=s)))<|x_ (by exact bH Z Z gW Z (F _))<|x_ (by exact aL ((pt2 q).map S_) Z aY Z Z Z Z Z (dX _))<|Cp [971] (λe d=>by exact bW (ob:=⟨2+k,1,9,bZ (HI p k)⟩) (k:=4+C p.sources+2*(k+1)) (ps:=(pt2 q).map S_) Z aY sW Z ((d _ Z).trans Z) Z Z Z m Z (dX _) (m:=2) Z X X (rows':=bZ (HI p (k+1))) (by rw[eX,Cd z])) ?_;refine Cr [971] (λ_ _=>aH)<|bG<|Kr<|Rd aA<|Y kp<|Da ?_;exact⟨k+1,X,X,L_⟩
 have D:k=C p.trace:=J_ f
 subst D;have w:=n (C p.trace) i;refine aP<|U aA<|V aH<|aC ?_;refine cT (H':=[]) (.inr Z) Z (aI Z) (Fin.fz (id:=971) (ob:=⟨2+C p.trace,1,9,bZ (HI p (C p.trace))⟩) ((HI p (C p.trace)).map S_) Z (dA _) (.osl (IL S_ _ w)) Z T_ T_) ?_;exact⟨by rw[<-Uy];rfl,Z⟩
theorem En(r)(b:mT r)(c:VF r)(a:∀e∈r.edits,C e.refs<2^40){H}(B:H.get 971=ζ):aU φ 70 [av (eA r)] H (λx H'=>x=.osl 971 2 0 (C (vR r))/\H'=(971,⟨2,1,9,bZ (vR r)⟩)::H) :=aU.frame (YN r b c a) (λ_ _ h=>by cases h) (λ_ _ h=>by cases h) H_ (λid h=>.inr (by
  by_cases e:971=id
  .simp_all
  simp[aF.get,kE e]at h))
theorem pt(L)(f:C L<=100000)(g:∀s∈L,N s<=100000000)(H)(id)(ob)(n)(j:H.get id=A ob)(d:Nat.blt 0 ob.sz=T)(b:ob.rows=bZ L)(h:n=C L):aU φ 85 [.osl id ob.g 0 n] H (λr H'=>r=sv (a_ (aO L))/\H'=(id,LQ ob)::H):=by
 subst h;refine aU.retire _ (W6 L f g _) j d (by rw[b];exact dA _) Z ?_;intro i a B e c
 match i with
 |0 =>
  cases e;cases c;refine .inr ⟨0,C L,Z,?_⟩;rw[fR];rfl
 |n+1=>cases e
def Bx(s:q6):List B_:=[aV s.idx,aV (C s.sig:Int)]
def Jq(s:q6):List B_:=[aV (C s.path:Int)]
theorem SC(s:q6)(i:FSeal s)(H:aF):RC 111 [av (lQ s)] (.pv (aK (fI (.z s.idx s.sig s.path)))) H:=by
 refine aU.pure ?_ F_ H;have q:=i.i0;have B:=i.i1;have l1:=i.sl;have l2:=i.pl;have e:C (s.sig.map S_)=C s.sig:=g_ _;have f:C (s.path.map S_)=C s.path:=g_ _;have l:=λH=>CD s.idx q X H;have m:∀H,RC 84 [iv (C (s.sig.map S_):Int)] (sv (aV (C s.sig:Int))) H:=λH=>by
  rw[e];exact CD (C s.sig:Int) X X H
 have n:∀H,RC 84 [iv (C (s.path.map S_):Int)] (sv (aV (C s.path:Int))) H:=λH=>by
  rw[f];exact CD (C s.path:Int) X X H
 have c:fI (.z s.idx s.sig s.path)=((Bx s++s.sig)++Jq s)++s.path:=by simp[fI,Bx,Jq]
 rw[c];have g:C (Bx s++s.sig)=2+C s.sig:=by rw[j8];rfl
 have j:C ((Bx s++s.sig)++Jq s)=2+C s.sig+1:=by rw[j8,g];rfl
 have o:C (((Bx s++s.sig)++Jq s)++s.path)=2+C s.sig+1+C s.path:=G_
 refine Bd func111 Z ntmps111<|U (kb 1)<|V aH<|S<|aM a7<|Cr [1] (λ_ h=>fh DR h)<|Cr [1] (λ_ h=>lh M_ h)<|Cr [] (λp k=>by exact bH Z Z gW Z (l _))<|Cr [1] (λ_ h=>fh wQ h)<|Cr [1] (λ_ h=>lh aG h)<|Cr [] (λ_ _=>(fM aD))<|Cr [] (λp k=>by exact bH Z Z gW Z (m _))<|Cp [971] (λp k=>by exact eO (id:=971) Z aY Z Z Z Z F_ ((k _ Z).trans Z))<|Cr [971] (λ_ _=>aH)<|bG<|Kr<|U aA<|Y (bC wQ)<|Y (bQ aG)<|Y (by exact bW (ob:=⟨0,1,9,bZ (Bx s)⟩) (k:=2+s.sig.length) (ps:=s.sig.map S_) Z aY sW Z Z Z Z Z Z Z (dX _) (m:=s.sig.length) e X Z (rows':=bZ (Bx s++s.sig)) (by exact eX _ _)) ?_;refine V aH<|U aA<|Y (bC wP)<|Y (bQ aG)<|Y (fM aD)<|Y (kc gW (n _))<|Y (by exact aL ((Jq s).map S_) Z aY Z Z Z Z Z (dX _))<|Y (by exact bW (ob:=⟨1,1,9,bZ (Bx s++s.sig)⟩) (k:=2+s.sig.length+1) (ps:=(Jq s).map S_) Z aY sW Z Z Z Z Z ((dI _).trans g) Z (dX _) (m:=1) Z X Z (rows':=bZ ((Bx s++s.sig)++Jq s)) (by exact eX _ _))<|V aH<|U aA<|Y (bC wP)<|Y (bQ aG)<|Y (by exact bW (ob:=⟨2,1,9,bZ ((Bx s++s.sig)++Jq s)⟩) (k:=2+s.sig.length+1+s.path.length) (ps:=s.path.map S_) Z aY sW Z Z Z Z Z ((dI _).trans j) Z (dX _) (m:=s.path.length) f X Z (rows':=bZ (((Bx s++s.sig)++Jq s)++s.path)) (by exact eX _ _))<|V aH<|aC ?_;refine cT (H':=[]) (.inr Z) Z (aI Z) (Fin.fz (id:=971) (ob:=⟨3,1,9,bZ (((Bx s++s.sig)++Jq s)++s.path)⟩) ((((Bx s++s.sig)++Jq s)++s.path).map S_) Z (dA _) (.osl (IL S_ _ o)) Z T_ T_) ?_;exact Qq
theorem Vd(r:j_)(y:mT r)(t:∀e∈r.edits,C e.refs<2^40)(H:aF):RC 68 [av (eA r)] (.tup [sv (mS r).1,iv (mS r).2]) H:=by
 refine aU.pure ?_ F_ H;have L:=λH=>fw r H y t;rw[mS];refine Bd func68 Z ntmps68<|U (kb 1)<|Y aH<|V aH<|S<|U (by exact aW Z cQ bJ Z Z Z Z u0 Z)<|Y (kc call69 (L _))<|V iH ?_;refine Cn ?_ ?_<;>intro p
 .have G:=not_not p;rw[a8 F_];exact U aH<|V aH<|aC<|Ru<|Qq
 have G:=nX p;have f:=sX G;have o:jU r=((vR r++fI (.z r.sl.idx r.sl.sig r.sl.path))++zK (VQ r.priv))++fI (.z r.priv.sl.idx r.priv.sl.sig r.priv.sl.path):=by rw[jU,pj,append_assoc,append_assoc]
 have i:∀x∈jU r,le2 x:=λx a=>(mem_append.1 a).elim (KP f x) (ZX f x);have v:=KO f;have τ:=ZW f;have c:C (jU r)<=506:=by rw[jU,j8];omega
 have k:=yM i c;have m:=λ(H:aF) w=>En r y f t (H:=H) w;have n:=λH=>SC r.sl (lI f.sl) H;have l:=λH=>SC r.priv.sl (lI f.psl) H;have q:=λH=>Ki r y f H;have d:=λH=>pt (jU r) X (λs I=>Nat.le_trans (i s I) E_) H 971 ⟨5,1,9,bZ (jU r)⟩ (C (jU r));rw[b6 G];rw[o]at d c k |-;have ⟨J,R⟩:∃J,J=vR r:=X_;have ⟨B,W⟩:∃B,B=fI (.z r.sl.idx r.sl.sig r.sl.path):=X_;have ⟨P,F⟩:∃P,P=zK (VQ r.priv):=X_;have ⟨D,E⟩:∃D,D=fI (.z r.priv.sl.idx r.priv.sl.sig r.priv.sl.path):=X_;rw[<-R,<-W,<-F,<-E]at d c k |-;simp only[<-R]at m;rw[<-W]at n;rw[<-F]at q;rw[<-E]at l;have q1:C (J++B)<=506:=by have:=c;simp only[j8]at this |-;omega
 have K:C ((J++B)++P)<=506:=by have:=c;simp only[j8]at this |-;omega
 have z:=d;generalize aO (((J++B)++P)++D)=Q at d k |-;have b:N (a_ Q)=C Q:=cA _;clear z R W F E o i;refine aB<|S<|aM a7<|Cr [1] (λv g=>by exact aW Z cQ bJ Z ((g _ Z).trans Z) Z Z u0 Z)<|Cp [971] (λv g=>by exact bH Z Z call70 Z ((m _ ((g _ Z).trans Z))))<|Cr [1] (λ_ h=>fh AG h)<|Cr [1] (λv g=>by exact aW Z hU sizeOf48 Z ((g _ Z).trans Z) Z Z Z Z)<|x_ (by exact bH Z Z call111 Z (n _))<|Cp [971] (λv g=>by exact bW (ob:=⟨2,1,9,bZ J⟩) (k:=C (J++B)) (ps:=B.map S_) Z aY sW Z ((g _ Z).trans Z) Z Z Z (dI _) Z (dX _) (m:=C B) (g_ _) G_ F_ (rows':=bZ (J++B)) (eX _ _))<|x_ aH<|bG<|Kr<|S ?_;refine Rd aA<|Y (bC iM)<|Y (wY isAgg51 sizeOf51)<|Y (kc call112 (q _))<|Y (by exact bW (ob:=⟨3,1,9,bZ (J++B)⟩) (k:=C ((J++B)++P)) (ps:=P.map S_) Z aY sW Z Z Z Z Z (dI _) Z (dX _) (m:=C P) (g_ _) (by rw[j8]at K;omega) j8.symm (rows':=bZ ((J++B)++P)) (eX _ _))<|V aH<|U aA<|Y (bC iM)<|Y (bC FX)<|Y (wY hU sizeOf48)<|Y (kc call111 (l _))<|Y (by exact bW (ob:=⟨4,1,9,bZ ((J++B)++P)⟩) (k:=C (((J++B)++P)++D)) (ps:=D.map S_) Z aY sW Z Z Z Z Z (dI _) Z (dX _) (m:=C D) (g_ _) (by rw[j8]at c;omega) j8.symm (rows':=bZ (((J++B)++P)++D)) (eX _ _)) ?_;refine V aH<|U aA<|Y (kc call85 (d _ Z Z Z Z))<|V aH<|S<|U aA<|Y (gL U_)<|V iX<|Cn ?_ ?_<;>intro u
 .have j:20000<C Q:=I_ u
  rw[b6 j];exact U aH<|V aH<|aC<|Ru<|Qq
 have j:¬ 20000<C Q:=J_ u
 rw[a8 j];exact aB<|U aA<|Y aH<|V aH<|aC<|Ru<|Qq
theorem gd(t)(H)(c:N t<1000000000):RC 67 [sv t] (.tup [.pv (kP (iL t).1),iv (iL t).2]) H:=by
 have h:=Co (λx a=>Lh (λy B=>Lb X) a) (λx H a=>Lg (λx H a=>pz x H a) x H a) t H c
 rwa [Pd (λe f b=>SH (λo d=>by rw[gn d]) f b)]at h
theorem KS(t):∀e∈(iL t).1,C e.refs<2^40:=by
 rw[<-Pd (rE:=xj λs=>(Vn s).1) (λe c b=>SH (λo a=>by rw[gn a]) c b) t,gPr]
 split
 .simp_all
 next h =>
 split
 .exact P8 (λx B=>(Lh (λy D=>Lb X) X).2) _
 simp_all
theorem aAz:∀(n:Nat) (l:List UInt8) (L:List B_),C l<=n->O9 l=A L->2*C L<=C l/\∀s∈L,N s<=C l:=by
 intro n
 induction n with
 |zero =>
  intro l L g h;rw[O9]at h
  simp_all
 | succ n d =>
  intro l L g h;rw[O9]at h
  split at h
  .simp_all
  next E =>
  split at h
  .cases h
  next b =>
  have F:PA l≠0:=λe=>b (.inl e);have D:l[PA l]?=A 58:=Classical.byContradiction λe=>b (.inr (.inl e));cases e:O9 _ with
  |none=>rw[e]at h;cases h
  |some B =>
   rw[e]at h;cases h;have ⟨f,c⟩:=d _ B G_ e;rw[p_]at f c;refine⟨G_,λs a=>?_⟩;rcases l9.1 a with rfl|a
   .rw[cA,m_,p_];omega
   have:=c s a;omega
def SM:Nat->RS->List (Int×Int)×RS
 |0,q=>([],q)
 |k+1,q=>if q.2=T then([],q)else(((rU q).1,(rU (rU q).2).1)::(SM k (rU (rU q).2).2).1,(SM k (rU (rU q).2).2).2)
def Sw(q:RS):List (Int×Int)×RS:=SM (rU q).1.toNat (rU q).2
def Sn(L:List B_):=rN (L,η)
def z1r(L:List B_):=rU (Sn L).2
def z2r(L:List B_):=rU (z1r L).2
def z3r(L:List B_):=rU (z2r L).2
def z4r(L:List B_):=rU (z3r L).2
def z5r(L:List B_):=rN (z4r L).2
def Ti(L:List B_):=rL (z5r L).2
def Sm(L:List B_):=rN (Ti L).2
def z8r(L:List B_):=rN (Sm L).2
def z9r(L:List B_):=rN (z8r L).2
def el(L:List B_):=rU (z9r L).2
def ek(L:List B_):=rN (el L).2
def O6(L:List B_):=rZ (ek L).2
def ei(L:List B_):=rN (O6 L).2
def eh(L:List B_):=rN (ei L).2
def ZF(L:List B_):=rL (eh L).2
def ZE(L:List B_):=Sw (ZF L).2
def JY(L:List B_):=rZ (ZE L).2
def HR(L:List B_):j_:=⟨(z1r L).1,(z2r L).1,(z3r L).1,(z4r L).1,(z5r L).1,(Ti L).1,(iL (Sm L).1).1,(z8r L).1,θ ((z9r L).1=BZ),(el L).1,(ek L).1,(O6 L).1,⟨(ei L).1,(eh L).1,(ZF L).1,(ZE L).1,(JY L).1⟩⟩
def uh(t:List UInt8)(L:List B_):Prop:=(JY L).2.2=T\/(Sn L).1≠HJ\/mS (HR L)≠(a_ t,0)
instance (t:List UInt8) (L:List B_):Decidable (uh t L):=inferInstanceAs (Decidable (_\/_\/_))
def tU(t:List UInt8):j_×Int:=if 20000<C t then(zR,2)else match O9 t with
 |none=>(zR,5)
 |some L=>if uh t L then(zR,5)else(HR L,0)
def jN(q:RS):Prop:=C q.1<=10000/\∀s∈q.1,N s<=20000
theorem NG{L}{b c}(h:jN (L,b))(k):jN (L.drop k,c):=⟨by have:=h.1;grind,λs a=>h.2 s (mem_of_mem_drop a)⟩
theorem wX{q}(h:jN q):N (rN q).1<=20000/\jN (rN q).2:=by
 have ⟨L,b⟩:=q;refine⟨?_,NG h 1⟩;cases L with
 |nil=>exact l7 _
 |cons s L=>exact h.2 s mem_cons_self
theorem Wx(s):qP ((yK s).getD 0):=by
 rw[yK]
 split
 .exact⟨H_,H_⟩
 next B =>
 split
 .have:=NI (l:=ν (μ s)) F_;show qP (WC _);exact⟨X,X⟩
 exact⟨H_,H_⟩
theorem uI{q}(h:jN q):qP (rU q).1/\jN (rU q).2:=⟨Wx _,NG h 1⟩
theorem XF{q}(h:jN q):(C (rL q).1<=20000/\∀x∈(rL q).1,N x<=20000)/\jN (rL q).2:=by
 have d:=(uI h).2;have ⟨c,a⟩:=d;rw[rL]
 split
 .exact⟨⟨l7 _,λx b=>by cases b⟩,c,a⟩
 refine⟨⟨?_,λx b=>a x (mem_of_mem_take b)⟩,NG ⟨c,a⟩ _⟩
 grind
theorem wy{q}(h:jN q):(qP (rZ q).1.idx/\(C (rZ q).1.sig<=20000/\∀x∈(rZ q).1.sig,N x<=20000)/\(C (rZ q).1.path<=20000/\∀x∈(rZ q).1.path,N x<=20000))/\jN (rZ q).2:=by have e:=uI h;have d:=XF e.2;have c:=XF d.2;exact⟨⟨e.1,d.1,c.1⟩,c.2⟩
theorem Ku{q}(h:C q.1=0\/q.2=T):(rU q).2.2=T:=by
 rw[rU,rN]
 grind
theorem Kw:∀(k) (q),jN q->(C (SM k q).1<=C q.1+1/\∀p∈(SM k q).1,qP p.1/\qP p.2)/\jN (SM k q).2
 |0,q,h=>⟨⟨l7 _,λp b=>by cases b⟩,h⟩
 | k + 1, q, h => by
  rw[SM]
  split
  .simp_all
  next E =>
  have f:=uI h;have g:=uI f.2;have d:=Kw k _ g.2;refine⟨⟨?_,λp b=>?_⟩,d.2⟩
  .rw[j6];by_cases e:C q.1=0
   .have c:SM k (rU (rU q).2).2=([],(rU (rU q).2).2):=by
     cases k with
     |zero=>rfl
     |succ k=>rw[SM,b6 (Ku (.inr (Ku (.inl e))))]
    rw[c];exact le_add_left _ _
   have B:C (rU q).2.1=C q.1 - 1:=p_;have D:C (rU _).2.1=C (rU q).2.1 - 1:=p_;omega
  grind
theorem Kx{q}(h:jN q):(C (Sw q).1<=20000/\∀p∈(Sw q).1,qP p.1/\qP p.2)/\jN (Sw q).2:=by have a:=uI h;have b:=Kw (rU q).1.toNat _ a.2;have B:=a.2.1;exact⟨⟨by rw[Sw];omega,b.1.2⟩,b.2⟩
theorem aAi{L}(h:jN (L,η)):N ((Sn L).1)<=20000/\jN (Sn L).2:=wX h
theorem Ib{L}(h:jN (L,η)):qP (z1r L).1/\jN (z1r L).2:=uI (aAi h).2
theorem Ia{L}(h:jN (L,η)):qP (z2r L).1/\jN (z2r L).2:=uI (Ib h).2
theorem Hz{L}(h:jN (L,η)):qP (z3r L).1/\jN (z3r L).2:=uI (Ia h).2
theorem Hy{L}(h:jN (L,η)):qP (z4r L).1/\jN (z4r L).2:=uI (Hz h).2
theorem Hx{L}(h:jN (L,η)):N ((z5r L).1)<=20000/\jN (z5r L).2:=wX (Hy h).2
theorem Hw{L}(h:jN (L,η)):(C (Ti L).1<=20000/\∀x∈(Ti L).1,N x<=20000)/\jN (Ti L).2:=XF (Hx h).2
theorem Hv{L}(h:jN (L,η)):N ((Sm L).1)<=20000/\jN (Sm L).2:=wX (Hw h).2
theorem Hu{L}(h:jN (L,η)):N ((z8r L).1)<=20000/\jN (z8r L).2:=wX (Hv h).2
theorem aAh{L}(h:jN (L,η)):N ((z9r L).1)<=20000/\jN (z9r L).2:=wX (Hu h).2
theorem vh{L}(h:jN (L,η)):qP (el L).1/\jN (el L).2:=uI (aAh h).2
theorem vg{L}(h:jN (L,η)):N ((ek L).1)<=20000/\jN (ek L).2:=wX (vh h).2
theorem vf{L}(h:jN (L,η)):(qP (O6 L).1.idx/\(C (O6 L).1.sig<=20000/\∀x∈(O6 L).1.sig,N x<=20000)/\(C (O6 L).1.path<=20000/\∀x∈(O6 L).1.path,N x<=20000))/\jN (O6 L).2:=wy (vg h).2
theorem ve{L}(h:jN (L,η)):N ((ei L).1)<=20000/\jN (ei L).2:=wX (vf h).2
theorem vd{L}(h:jN (L,η)):N ((eh L).1)<=20000/\jN (eh L).2:=wX (ve h).2
theorem vc{L}(h:jN (L,η)):(C (ZF L).1<=20000/\∀x∈(ZF L).1,N x<=20000)/\jN (ZF L).2:=XF (vd h).2
theorem vb{L}(h:jN (L,η)):(C (ZE L).1<=20000/\∀p∈(ZE L).1,qP p.1/\qP p.2)/\jN (ZE L).2:=Kx (vc h).2
theorem Tj{L}(h:jN (L,η)):(qP (JY L).1.idx/\(C (JY L).1.sig<=20000/\∀x∈(JY L).1.sig,N x<=20000)/\(C (JY L).1.path<=20000/\∀x∈(JY L).1.path,N x<=20000))/\jN (JY L).2:=wy (vb h).2
theorem Kq{L}(h:jN (L,η)):mT (HR L)/\C (HR L).parents<549755813888 :=Kn (h_ _) (Ib h).1 (Ia h).1 (Hz h).1 (Hy h).1 (vh h).1 (Hx h).1 (Hu h).1 (vg h).1 (ve h).1 (vd h).1 (Hw h).1 (vc h).1 (vb h).1 (OM _) (S2 _) (vf h).1 (Tj h).1
theorem Jj{t}{L}(c:C t<=20000)(h:O9 t=A L):jN (L,η):=by have ⟨B,a⟩:=aAz _ t L (h_ _) h;exact⟨G_,λs b=>Nat.le_trans (a s b) c⟩
theorem P9(s)(L)(b):rN (s::L,b)=(s,(L,b)):=by simp[rN]
theorem yc:∀(l) (n v),decFrom n l=A v->l.foldl (λn b=>10*n+(b.toNat:Int) - 48) n=v
 | [],n,v,h=>by
  obtain rfl:=Option.some.inj h;rfl
 | b::l,n,v,h=>by
  rw[decFrom]at h;cases e:digitVal b with
  |none=>simp_all
  | some d =>
   rw[e]at h;have a:(10*n+(b.toNat) - 48)=((n*10+d):Int):=by
    rw[digitVal]at e
    grind
   rw[foldl_cons,a];exact yc l _ v h
theorem Dp{x}(B:0<=x)(D:x<10000000):yK (aV x)=A x:=by obtain ⟨k,rfl⟩:∃k:Nat,x=k:=⟨x.toNat,X⟩;have a:=NS k;have E:N (aV k)<=7:=cX X H_;have c:WC _=k:=yc _ 0 k (jT k);have b:UN k=aV k:=rfl;rw[yK,a8 X,a,c,b6 b]
theorem vK{x}(a:0<=x)(c:x<10000000)(L)(b):rU (aV x::L,b)=(x,(L,b)):=by rw[rU,P9];rw[Dp a c];simp
theorem QA{l}(h:C l<10000000)(L)(b):rL (aV (C l)::(l++L),b)=(l,(L,b)):=by rw[rL,vK X X];rw[a8 G_,l_,take_left' Z,drop_left' rfl]
theorem wz{s}(d:0<=s.idx)(a:s.idx<10000000)(f:C s.sig<10000000)(c:C s.path<10000000)(L)(b):rZ (fI (.z s.idx s.sig s.path)++L,b)=(s,(L,b)):=by
 have e:fI (.z s.idx s.sig s.path)++L=aV s.idx::(aV (C s.sig)::(s.sig++(aV (C s.path)::(s.path++L)))):=by simp[fI]
 rw[e,rZ,vK d a];rw[QA f];rw[QA c]
theorem xe:∀(ps) (L),(∀q∈ps,(0<=q.1/\q.1<10000000)/\(0<=q.2/\q.2<10000000))->SM (C ps) (QF ps++L,η)=(ps,(L,η))
 | [],L,_=>rfl
 |q::ps,L,h=>by
  obtain ⟨⟨a,b⟩,c,d⟩:=h q mem_cons_self;have e:QF (q::ps)++L=aV _::(aV _::(QF _++L)):=rfl;rw[j6,SM,a8 H_,e,vK a b];rw[vK c d];rw[xe _ L λx f=>h x (mem_cons_of_mem _ f)]
theorem Ky{ps}(B:C ps<10000000)(h:∀q∈ps,(0<=q.1/\q.1<10000000)/\(0<=q.2/\q.2<10000000))(L):Sw (fI (.p ps)++L,η)=(ps,(L,η)):=by have e:fI (.p ps)++L=aV _::(QF _++L):=rfl;rw[e,Sw,vK X X];rw[l_,xe _ L h]
theorem px{r:j_}(h:VF r):HR (jU r)=r/\(Sn (jU r)).1=HJ/\(JY (jU r)).2.2=η:=by
 have J:=B4 h.k;have B:=h.au;have E:=h.nu;have D:=h.cl;have F:=h.order;have G:=h.pal;have H:=h.sol;have I:=h.trl;have j:=lI h.sl;have k:=lI h.psl;have K:=j.i0;have L:=j.i1;have P:=j.sl;have Q:=j.pl;have R:=k.i0;have W:=k.i1;have j3:=k.sl;have j4:=k.pl;have l:∀q∈r.priv.trace,(0<=q.1/\q.1<10000000)/\(0<=q.2/\q.2<10000000):=λq z=>by have:=h.tr q z;omega
 have o:Sn (jU r)=(HJ,(sf1 r,η)):=by rw[Sn,Rn];rfl
 have w:z1r (jU r)=(r.kind,(sf2 r,η)):=by rw[z1r,o];exact vK X X _ _
 have s:z2r (jU r)=(r.author,(sf3 r,η)):=by rw[z2r,w];exact vK X X _ _
 have x:z3r (jU r)=(r.number,(sf4 r,η)):=by rw[z3r,s];exact vK X X _ _
 have t:z4r (jU r)=(r.clock,(sf5 r,η)):=by rw[z4r,x];exact vK X X _ _
 have u:z5r (jU r)=(r.branch,(sf6 r,η)):=by rw[z5r,t];rfl
 have v:Ti (jU r)=(r.parents,(sf7 r,η)):=by rw[Ti,u];exact QA X _ _
 have m:Sm (jU r)=((kJ r.edits).1,(sf8 r,η)):=by rw[Sm,v];rfl
 have p:z8r (jU r)=(r.target,(sf9 r,η)):=by rw[z8r,m];rfl
 have n:z9r (jU r)=(aV (if r.yes then 1 else 0),(Ke r,η)):=by rw[z9r,p];rfl
 have c:el (jU r)=(r.order,(Kd r,η)):=by rw[el,n];exact vK X X _ _
 have d:ek (jU r)=(r.from',(Kc r,η)):=by rw[ek,c];exact P9 _ _ _
 have f:O6 (jU r)=(r.sl,(Kb r,η)):=by rw[O6,d];exact wz X X X X _ _
 have g:ei (jU r)=(r.priv.name,(Ka r,η)):=by rw[ei,f];exact P9 _ _ _
 have a:eh (jU r)=(r.priv.reason,(Jz r,η)):=by rw[eh,g];exact P9 _ _ _
 have b:ZF (jU r)=(r.priv.sources,(Jy r,η)):=by rw[ZF,a];exact QA X _ _
 have e:ZE (jU r)=(r.priv.trace,(Jx r,η)):=by rw[ZE,b];exact Ky X l _
 have i:JY (jU r)=(r.priv.sl,(Jw r,η)):=by rw[JY,e];exact wz X X X X _ _
 refine⟨?_,by rw[o],by rw[i]⟩;rw[HR,w,s,x,t,u,v,m,p,n,c,d,f,g,a,b,e,i,JL h.tx];have y:θ (aV (if r.yes then 1 else 0)=BZ)=r.yes:=eo r.yes;simp only[y]
theorem ga{r}{t}(h:mS r=(a_ t,0)):tU t=(r,0):=by
 have d:iE r=T:=by
  rw[mS]at h
  grind
 have c:=sX d;have f:t=aO (jU r)/\C t<=20000:=by
  rw[mS,b6 d]at h
  split at h
  .cases h
  next B =>
  have:=congrArg (λs=>ν (μ s)) (congrArg Prod.fst h);simp[cG]at this;rw[<-this];exact⟨Z,X⟩
 have a:O9 t=A (jU r):=by
  rw[f.1];exact R4 _ λs g=>Nat.lt_of_le_of_lt (show N s<=20000 from(mem_append.1 g).elim (KP c s) (ZX c s)) E_
 have ⟨e,r2,i⟩:=px c;have b:¬ uh t (jU r):=by
  rw[uh,e,i]
  simp_all
 rw[tU,a8 X,a];dsimp only;rw[a8 b,e]
theorem tc(t):tU t=eB t:=by
 by_cases d:(eB t).2=0
 .rw[ga (KT d)];exact Prod.ext Z d.symm
 by_cases b:20000<C t
 .rw[tU,b6 b,eB,b6 b]
 have c:eB t=(zR,5):=by
  rw[eB]at d |-
  grind
 rw[c,tU,a8 b];cases e:O9 t with
 |none=>rfl
 |some L =>
  dsimp only;by_cases a:uh t L
  .rw[b6 a]
  have f:=Classical.byContradiction λh=>a (.inr (.inr h));rw[S3 f]at c;have g:=congrArg Prod.snd c;exact absurd g H_
theorem rp(s):(yK s).getD 0<=300000000:=by
 rw[yK]
 split
 .decide
 next B =>
 split
 .have:=NI (l:=ν (μ s)) F_;show WC _<=_;omega
 decide
theorem Vm{q}(h:q.2=T):∀k,SM k q=([],q)
 |0=>rfl
 |k+1=>by rw[SM,b6 h]
theorem aCM:(iL a6).1=[]:=by kernel_rfl
theorem pr(t:List UInt8)(hts:C t<1000000000)(H:aF):RC 25 [sv (a_ t)] (.tup [av (eA (tU t).1),iv (tU t).2]) H:=by
 refine Pu ?_;have hls:N (a_ t)=C t:=cA t;have i:=λH=>Bq t hts H;refine Bd func25 Z ntmps25<|U (kl 2 nx)<|V aH<|S<|U aA<|Y (gL U_)<|V iX<|Cn ?_ ?_<;>intro hc1
 .have hb:20000<C t:=I_ hc1
  rw[show tU t=(zR,2)by rw[tU,b6 hb]];refine U (oD UT)<|Uu (jG bJ)<|V aH<|aC<|gD (H':=[]) (.inr Z) Z (fG Z cQ bJ Z Z Z u0 Z) (aI Z) P_ ?_;exact Qq
 have hb:¬ 20000<C t:=J_ hc1
 rw[Ul]at i;have hg:tU t=match O9 t with
  |none=>(zR,5)
  |some L=>if uh t L then(zR,5)else(HR L,0):=by rw[tU,a8 hb];all_goals rfl
 have hok:=λL h=>Jj (t:=t) (L:=L) X h;rw[hg];clear hg;generalize O9 t=o_ at i hok |-;rcases o_ with _|L
 .have i:∀H,RC 62 [sv (a_ t)] (.tup [.pv (aK []),bv η]) H:=i;refine aB<|U aA<|Y (kc call62 (i _))<|Y aA<|Y dO<|Y dO<|Y aH<|V aH<|S<|U aA<|V iH<|Cn ?_ ?_<;>intro hc2
  .refine U (oD UT)<|Uu (jG bJ)<|V aH<|aC<|gD (H':=[]) (.inr Z) Z (fG Z cQ bJ Z Z Z u0 Z) (aI Z) P_ ?_;exact Qq
  cases hc2
 have i:∀H,RC 62 [sv (a_ t)] (.tup [.pv (aK L),bv T]) H:=i;have hS:=hok L Z;have W:=Kq hS;have hrf:=KS (Sm L).1;have s7:=(Hv hS).1;have δ:=λH=>gd (Sm L).1 H X;have g:uh t L↔((JY L).2.2=T\/(Sn L).1≠HJ\/mS (HR L)≠(a_ t,0)):=Iff.rfl;rw[HR]at W g;have F:=λH=>Vd _ W.1 hrf H;dsimp only;rw[HR];have J:∀q:RS,jN q->C q.1<2^40:=λq h=>by have:=h.1;omega
 have k0:=vL (L,η) (J _ hS);have o0:=wX (q:=(L,η)) hS;have e0:Sn L=rN (L,η):=by rw[Sn]
 have ⟨⟨G,Q0⟩,h0⟩:∃p,p=rN (L,η):=X_;rw[<-h0]at k0 o0 e0;dsimp only at k0 o0;have k1:=oS Q0 (J _ o0.2);have o1:=uI (q:=Q0) o0.2;have e1:z1r L=rU Q0:=by rw[z1r,e0]
 have ⟨⟨I,Q1⟩,h1⟩:∃p,p=rU Q0:=X_;rw[<-h1]at k1 o1 e1;dsimp only at k1 o1;have k2:=oS Q1 (J _ o1.2);have o2:=uI (q:=Q1) o1.2;have e2:z2r L=rU Q1:=by rw[z2r,e1]
 have ⟨⟨r,Q2⟩,h2⟩:∃p,p=rU Q1:=X_;rw[<-h2]at k2 o2 e2;dsimp only at k2 o2;have k3:=oS Q2 (J _ o2.2);have o3:=uI (q:=Q2) o2.2;have e3:z3r L=rU Q2:=by rw[z3r,e2]
 have ⟨⟨j,Q3⟩,h3⟩:∃p,p=rU Q2:=X_;rw[<-h3]at k3 o3 e3;dsimp only at k3 o3;have k4:=oS Q3 (J _ o3.2);have o4:=uI (q:=Q3) o3.2;have e4:z4r L=rU Q3:=by rw[z4r,e3]
 have ⟨⟨K,Q4⟩,h4⟩:∃p,p=rU Q3:=X_;rw[<-h4]at k4 o4 e4;dsimp only at k4 o4;have k5:=vL Q4 (J _ o4.2);have o5:=wX (q:=Q4) o4.2;have e5:z5r L=rN Q4:=by rw[z5r,e4]
 have ⟨⟨V5,Q5⟩,h5⟩:∃p,p=rN Q4:=X_;rw[<-h5]at k5 o5 e5;dsimp only at k5 o5;have k6:=QM Q5 (J _ o5.2);have o6:=XF (q:=Q5) o5.2;have e6:Ti L=rL Q5:=by rw[Ti,e5]
 have ⟨⟨V6,Q6⟩,h6⟩:∃p,p=rL Q5:=X_;rw[<-h6]at k6 o6 e6;dsimp only at k6 o6;have k7:=vL Q6 (J _ o6.2);have o7:=wX (q:=Q6) o6.2;have e7:Sm L=rN Q6:=by rw[Sm,e6]
 have ⟨⟨y_,Q7⟩,h7⟩:∃p,p=rN Q6:=X_;rw[<-h7]at k7 o7 e7;dsimp only at k7 o7;have k8:=vL Q7 (J _ o7.2);have o8:=wX (q:=Q7) o7.2;have e8:z8r L=rN Q7:=by rw[z8r,e7]
 have ⟨⟨V8,Q8⟩,h8⟩:∃p,p=rN Q7:=X_;rw[<-h8]at k8 o8 e8;dsimp only at k8 o8;have k9:=vL Q8 (J _ o8.2);have o9:=wX (q:=Q8) o8.2;have e9:z9r L=rN Q8:=by rw[z9r,e8]
 have ⟨⟨V9,Q9⟩,h9⟩:∃p,p=rN Q8:=X_;rw[<-h9]at k9 o9 e9;dsimp only at k9 o9;have k10:=oS Q9 (J _ o9.2);have γ:=uI (q:=Q9) o9.2;have P:el L=rU Q9:=by rw[el,e9]
 have ⟨⟨f,τ⟩,h10⟩:∃p,p=rU Q9:=X_;rw[<-h10]at k10 γ P;dsimp only at k10 γ;have k11:=vL τ (J _ γ.2);have β:=wX (q:=τ) γ.2;have Q:ek L=rN τ:=by rw[ek,P]
 have ⟨⟨n,D⟩,h11⟩:∃p,p=rN τ:=X_;rw[<-h11]at k11 β Q;dsimp only at k11 β;have k12:=wm D (J _ β.2);have o12:=wy (q:=D) β.2;have R:O6 L=rZ D:=by rw[O6,Q]
 have ⟨⟨a,E⟩,h12⟩:∃p,p=rZ D:=X_;rw[<-h12]at k12 o12 R;dsimp only at k12 o12;have k13:=vL E (J _ o12.2);have o13:=wX (q:=E) o12.2;have ρ:ei L=rN E:=by rw[ei,R]
 have ⟨⟨z,f_⟩,h13⟩:∃p,p=rN E:=X_;rw[<-h13]at k13 o13 ρ;dsimp only at k13 o13;have k14:=vL f_ (J _ o13.2);have v_:=wX (q:=f_) o13.2;have z_:eh L=rN f_:=by rw[eh,ρ]
 have ⟨⟨u,u_⟩,h14⟩:∃p,p=rN f_:=X_;rw[<-h14]at k14 v_ z_;dsimp only at k14 v_;have k15:=QM u_ (J _ v_.2);have d_:=XF (q:=u_) v_.2;have κ:ZF L=rL u_:=by rw[ZF,z_]
 have ⟨⟨w,d⟩,h15⟩:∃p,p=rL u_:=X_;rw[<-h15]at k15 d_ κ;dsimp only at k15 d_;have k16:=oS d (J _ d_.2);have u16:=uI d_.2;have σ:=rp (rN d).1;have B:Sw d=SM (rU d).1.toNat (rU d).2:=rfl;have σ:(rU d).1<=300000000:=σ;have ⟨⟨r4,QN⟩,hN⟩:∃p,p=rU d:=X_;rw[<-hN]at k16 u16 σ B;dsimp only at k16 u16 σ B;have o16:=Kx (q:=d) d_.2;have u4:ZE L=Sw d:=by rw[ZE,κ]
 have ⟨⟨s,l⟩,h16⟩:∃p,p=Sw d:=X_;rw[<-h16]at B o16 u4;dsimp only at B o16;have k17:=wm l (J _ o16.2);have o17:=wy (q:=l) o16.2;have e17:JY L=rZ l:=by rw[JY,u4]
 have ⟨⟨V17,Q17⟩,h17⟩:∃p,p=rZ l:=X_;rw[<-h17]at k17 o17 e17;dsimp only at k17 o17;simp only[e0,e1,e2,e3,e4,e5,e6,e7,e8,e9,P,Q,R,ρ,z_,κ,u4,e17]at W hrf s7 δ g F |-;clear W hS hok hrf h0 h1 h2 h3 h4 h5 h6 h7 h8 h9 h10 h11 h12 h13 h14 h15 h16 h17 e0 e1 e2 e3 e4 e5 e6 e7 e8 e9 P Q R ρ z_ κ u4 e17;have hpn:y_=a6->(iL y_).1=[]:=λh=>by rw[h];exact aCM
 have ⟨PE,hPE⟩:∃v,v=iL y_:=X_;rw[<-hPE]at δ F g hpn |-;clear hPE;have ⟨ED,EE⟩:=PE;dsimp only at δ F g hpn |-;have ⟨TX,hTX⟩:∃v,v=mS ⟨I,r,j,K,V5,V6,ED,V8,θ (V9=BZ),f,n,a,⟨z,u,w,s,V17⟩⟩:=X_;rw[<-hTX]at F g;clear hTX;rw[show HJ=⟨#[114,101,99,111,114,100]⟩from rfl]at g;refine aB<|U aA<|Y (kc call62 (i _))<|Y aA<|Y dO<|Y dO<|Y aH<|V aH<|S<|U aA<|V iH<|Cn ?_ ?_<;>intro hc3
 .cases hc3
 refine aB<|U aA<|Y (oD aGB)<|Y (kb 980)<|V aH<|Sz (kl 7 aDA)<|U aA<|Y (kc rI (k0 _ Z))<|V aH<|U aA<|Y (kc rG (k1 _ Z))<|Y (bC oX)<|Uu (ku sizeOf3)<|Zz<|U aA<|Y (kc rG (k2 _ Z))<|Y (bC FW)<|Uu (ku sizeOf3)<|Zz<|U aA<|Y (kc rG (k3 _ Z))<|Y (bC A1)<|Uu (ku sizeOf3)<|Zz<|U aA<|Y (kc rG (k4 _ Z))<|Y (bC FV)<|Uu (ku sizeOf3)<|Zz<|S ?_;refine fW.ent (E':=[(0,sv (a_ t)),(2,.ref 2 0 0 0),(6,xb),(7,.ref 7 0 0 0),(8,sv G)]) (H':=[(980,xh Q4),(7,bx 21 53 [iv I,iv r,iv j,iv K,sv a6,.pv .nils,.pv .nils,sv a6,bv η,iv 0,sv a6,iv 0,.pv .nils,.pv .nils,sv a6,sv a6,.pv .nils,.pv .nils,iv 0,.pv .nils,.pv .nils]),(2,bx 21 53 ((eA zR).map .pv))]) Wk<|Rd aA<|Y (kc rI (k5 _ Z))<|Y (bC DQ)<|Uu (by exact cM Z V_ Z Z Z Z Z Z y0 u0 u0)<|Zz<|U aA<|Y (kc call65 (k6 _ Z))<|Y (bC oW)<|Uu (by exact cM Z sizeOf22 Z Z Z Z Z Z y0 u0 u0)<|Zz<|S ?_;refine fW.ent (E':=[(0,sv (a_ t)),(2,.ref 2 0 0 0),(6,xb),(7,.ref 7 0 0 0),(8,sv G)]) (H':=[(980,xh Q6),(7,bx 21 53 [iv I,iv r,iv j,iv K,sv V5,.pv (aK V6),.pv .nils,sv a6,bv η,iv 0,sv a6,iv 0,.pv .nils,.pv .nils,sv a6,sv a6,.pv .nils,.pv .nils,iv 0,.pv .nils,.pv .nils]),(2,bx 21 53 ((eA zR).map .pv))]) Wk<|Rd aA<|Y (kc rI (k7 _ Z))<|V aH<|U aA<|Y (kc rI (k8 _ Z))<|Y (bC DO)<|Uu (by exact cM Z V_ Z Z Z Z Z Z y0 u0 u0)<|Zz<|U aA<|Y (kc rI (k9 _ Z))<|Y wU<|Y (bC JH)<|Uu (by exact cM Z sizeOf4 Z Z Z Z Z Z y0 u0 u0)<|Zz<|U aA<|Y (kc rG (k10 _ Z))<|Y (bC yU)<|Uu (by exact cM Z sizeOf3 Z Z Z Z Z Z y0 u0 u0) ?_;refine Zz<|U aA<|Y (kc rI (k11 _ Z))<|Y (bC xP)<|Uu (by exact cM Z V_ Z Z Z Z Z Z y0 u0 u0)<|Zz<|S ?_;refine fW.ent (E':=[(0,sv (a_ t)),(2,.ref 2 0 0 0),(6,xb),(7,.ref 7 0 0 0),(8,sv G),(9,sv y_)]) (H':=[(980,xh D),(7,bx 21 53 [iv I,iv r,iv j,iv K,sv V5,.pv (aK V6),.pv .nils,sv V8,bv (θ (V9=BZ)),iv f,sv n,iv 0,.pv .nils,.pv .nils,sv a6,sv a6,.pv .nils,.pv .nils,iv 0,.pv .nils,.pv .nils]),(2,bx 21 53 ((eA zR).map .pv))]) Wk<|Rd aA<|Y (kc call66 (k12 _ Z))<|Y (bC AG)<|Uu (by exact qZ Z sizeOf48 Z Z Z Z Z Z Z y0 u0 u0)<|Zz<|S ?_
 refine fW.ent (E':=[(0,sv (a_ t)),(2,.ref 2 0 0 0),(6,xb),(7,.ref 7 0 0 0),(8,sv G),(9,sv y_)]) (H':=[(980,xh E),(7,bx 21 53 [iv I,iv r,iv j,iv K,sv V5,.pv (aK V6),.pv .nils,sv V8,bv (θ (V9=BZ)),iv f,sv n,iv a.idx,.pv (aK a.sig),.pv (aK a.path),sv a6,sv a6,.pv .nils,.pv .nils,iv 0,.pv .nils,.pv .nils]),(2,bx 21 53 ((eA zR).map .pv))]) Wk<|Rd aA<|Y (kc rI (k13 _ Z))<|Y (bC iM)<|Y (bC JJ)<|Uu (by exact cM Z V_ Z Z Z Z Z Z y0 u0 u0)<|Zz<|U aA<|Y (kc rI (k14 _ Z))<|Y (bC iM)<|Y (bC JI)<|Uu (by exact cM Z V_ Z Z Z Z Z Z y0 u0 u0)<|Zz<|U aA<|Y (kc call65 (k15 _ Z))<|Y (bC iM)<|Y (bC yV)<|Uu (by exact cM Z sizeOf22 Z Z Z Z Z Z y0 u0 u0) ?_;refine Zz<|S ?_;refine fW.ent (E':=[(0,sv (a_ t)),(2,.ref 2 0 0 0),(6,xb),(7,.ref 7 0 0 0),(8,sv G),(9,sv y_)]) (H':=[(980,xh d),(7,bx 21 53 [iv I,iv r,iv j,iv K,sv V5,.pv (aK V6),.pv .nils,sv V8,bv (θ (V9=BZ)),iv f,sv n,iv a.idx,.pv (aK a.sig),.pv (aK a.path),sv z,sv u,.pv (aK w),.pv .nils,iv 0,.pv .nils,.pv .nils]),(2,bx 21 53 ((eA zR).map .pv))]) Wk<|Rd aA<|Y (kc rG (k16 _ Z))<|V aH<|S<|S ?_;refine fW.ent (E':=[(0,sv (a_ t)),(2,.ref 2 0 0 0),(6,xb),(7,.ref 7 0 0 0),(8,sv G),(9,sv y_),(10,iv r4)]) (H':=(905,⟨0,2,104,[]⟩)::(7,bx 21 53 [iv I,iv r,iv j,iv K,sv V5,.pv (aK V6),.pv (kP []),sv V8,bv (θ (V9=BZ)),iv f,sv n,iv a.idx,.pv (aK a.sig),.pv (aK a.path),sv z,sv u,.pv (aK w),.osl 905 (0) 0 (0),iv 0,.pv (aK []),.pv (aK [])])::(980,xh QN)::(2,bx 21 53 ((eA zR).map .pv))::[]) ?_ ?_
 ·exact(cH.nz 905 2 104 Z Z ⟨⟨_,Z,(by exact Nz.same (by(simp;done)))⟩,⟨_,Z,(by exact Nz.same (by(simp;rfl)))⟩,⟨_,Z,(by exact Nz.same (by(simp;rfl)))⟩,⟨_,Z,(by exact Nz.same (by(simp;rfl)))⟩,⟨_,Z,(by exact Nz.same (by(simp;done)))⟩,⟨_,Z,(by exact Nz.same (by(simp;done)))⟩,⟨_,Z,(by exact Nz.same (by(simp;done)))⟩,T_⟩ ⟨⟨_,Z,Z,Z,Z,(by exact .inr ⟨_,_,rfl,rfl,(by repeat(first|exact trivial|refine⟨(by first|exact Nz.own|exact Nz.weak|exact Nz.same (by(simp;done))),?_⟩))⟩)⟩,⟨_,Z,Z,Z,Z,(by exact .inl ⟨Z,(by(simp;done))⟩)⟩,⟨_,Z,Z,Z,Z,(by exact .inl ⟨Z,(by(simp;done))⟩)⟩,T_⟩ T_)
 refine Rg<|V aH<|aE<|eZ (λ(c:List (Int×Int)) (q:RS)=>([(0,sv (a_ t)),(2,.ref 2 0 0 0),(6,xb),(7,.ref 7 0 0 0),(8,sv G),(9,sv y_),(10,iv r4),(11,iv (C c:Int))],[(905,⟨C c,2,104,wH c⟩),(7,bx 21 53 [iv I,iv r,iv j,iv K,sv V5,.pv (aK V6),.pv (kP []),sv V8,bv (θ (V9=BZ)),iv f,sv n,iv a.idx,.pv (aK a.sig),.pv (aK a.path),sv z,sv u,.pv (aK w),.osl 905 (C c) 0 (C c),iv 0,.pv (aK []),.pv (aK [])]),(980,xh q),(2,bx 21 53 ((eA zR).map .pv))])) (λc q=>jN q/\C c<=r4.toNat/\(s,l)=(c++(SM (r4.toNat - C c) q).1,(SM (r4.toNat - C c) q).2)) (λc q=>r4.toNat - C c) [] QN ⟨u16.2,l7 _,by rw[B];rfl⟩ ?_ ?_
 .exact L_
 rintro c q ⟨hq,hA,hR⟩;have m1:=oS q (J _ hq);have p1:=uI hq;have m2:=oS (rU q).2 (J _ p1.2);have p2:=uI p1.2;have b:q.2=η->∀m,SM (m+1) q=(((rU q).1,(rU (rU q).2).1)::(SM m (rU (rU q).2).2).1,(SM m (rU (rU q).2).2).2):=λh m=>by rw[SM,a8 (by rw[h];decide)]
 have ⟨⟨x,q1⟩,hx⟩:∃p,p=rU q:=X_;rw[<-hx]at m1 m2 p1 p2 b;dsimp only at m1 m2 p1 p2 b;have ⟨⟨y,q2⟩,hy⟩:∃p,p=rU q1:=X_;rw[<-hy]at m2 p2 b;dsimp only at m2 p2 b;clear hx hy;refine S<|S<|aT (t:=91) (n:=11) (A_:=θ ((C c:Int)<r4)&&!q.2) ?_ ?_
 .all_goals refine Y aA<|Y aA<|Y cI<|Dm ?_<;>(refine Sp 85 (λh85=>?_) λh85=>?_)<;>(first|exact s_|refine M<|M<|M<|M<|M ?_|refine O aA<|O pA<|O (bC NY)<|O (bQ nO)<|O iH ?_)<;>refine V cD ?_<;>exact Gj (h:=by(simp only[*,Zo];done))
 refine Cn ?_ ?_<;>intro hc4
 .have o:=hc4;rw[l6,r9,k_]at o;have A_:C (c++[(x,y)])=C c+1:=by rw[j8];rfl
  have hR2:(s,l)=((c++[(x,y)])++(SM (r4.toNat - (C c+1)) q2).1,(SM (r4.toNat - (C c+1)) q2).2):=by
   rw[hR,show r4.toNat - C c=(r4.toNat - (C c+1))+1 by omega,b o.2];simp
  refine aB<|S<|aE<|Sz (kl 12 Hr)<|U aA<|Y (kc rG (m1 _ Z))<|Y (bC nA)<|Uu (ku sizeOf3)<|Zz<|U aA<|Y (kc rG (m2 _ Z))<|Y (bC mZ)<|Uu (ku sizeOf3)<|Zz<|Rd (bC iM)<|Y (bC tV)<|Y (bQ kI)<|Y (wY eL sizeOf104)<|Y (aL [kN (x,y)] Z VM Z Z Z Z Z R_)<|Y (bW (ob:=⟨C c,2,104,wH c⟩) (k:=C c+1) (ps:=[kN (x,y)]) Z VM aA0 Z Z Z Z Z (SR _) Z R_ (m:=1) Z X Z (rows':=wH (c++[(x,y)])) (SS c (x,y))) ?_;refine Y (bC iM)<|Y (bC tV)<|Uu (by exact cM Z sizeOf49 Z Z Z Z Z Z y0 u0 u0)<|Zz<|Rd aA<|Y kp<|Da ?_;refine⟨c++[(x,y)],q2,⟨p2.2,by rw[A_];omega,by rw[A_];exact hR2⟩,by rw[A_];omega,?_⟩;rw[A_];exact L_
 have o:=hc4;have hend:(s,l)=(c,q):=by
  rw[Bool.and_eq_false_iff,q7,Bool.not_eq_false']at o;rcases o with h|h
  .rw[hR,show r4.toNat - C c=0 by omega,SM,append_nil]
  rw[hR,Vm h,append_nil]
 obtain ⟨rfl,rfl⟩:=Prod.mk.inj hend;clear hR b m1 m2 hend;refine fW.ent (cH.fzG (id:=905) (E':=[(0,sv (a_ t)),(2,.ref 2 0 0 0),(6,xb),(7,.ref 7 0 0 0),(8,sv G),(9,sv y_)]) (H':=[(7,bx 21 53 ((eA ⟨I,r,j,K,V5,V6,[],V8,θ (V9=BZ),f,n,a,⟨z,u,w,s,zS⟩⟩).map .pv)),(980,xh l),(2,bx 21 53 ((eA zR).map .pv))]) (s.map kN) Z Z ?_ Z ?_ ?_) ?_
 .intro p hp;simp only[l9,q8,or_false]at hp;rcases hp with rfl|rfl|rfl|rfl|rfl|rfl
  .exact⟨_,Z,.same (by(simp;done))⟩
  .exact⟨_,Z,.same (by(simp;rfl))⟩
  .exact⟨_,Z,.same (by(simp;rfl))⟩
  .exact⟨_,Z,.same (by(simp;rfl))⟩
  .exact⟨_,Z,.same (by(simp;done))⟩
  exact⟨_,Z,.same m5⟩
 .exact⟨⟨_,Z,Z,Z,Z,jO Z (bA (.same H_) (bA (.same H_) (bA (.same H_) (bA (.same H_) (bA (.same H_) (bA (.same H_) (bA (.same H_) (bA (.same H_) (bA (.same H_) (bA (.same H_) (bA (.same H_) (bA (.same H_) (bA (.same H_) (bA (.same H_) (bA (.same H_) (bA (.same H_) (bA (.same H_) (bA (.osl (fR kN _)) (bA (.same H_) (bA (.same H_) (bA (.same H_) jA)))))))))))))))))))))⟩,⟨_,Z,Z,Z,Z,dC (xg _ _)⟩,⟨_,Z,Z,Z,Z,dC (by simp[bx,eA])⟩,T_⟩
 .exact T_
 refine aP<|U aA<|Y (kc call66 (k17 _ Z))<|Y (bC iM)<|Y (bC FX)<|Uu (by exact qZ Z sizeOf48 Z Z Z Z Z Z Z (r_ Z) Z Z)<|Zz<|eR (λ(_:Unit)=>([(0,sv (a_ t)),(2,.ref 2 0 0 0),(6,xb),(7,.ref 7 0 0 0),(8,sv G)],[(980,xh Q17),(7,bx 21 53 ((eA ⟨I,r,j,K,V5,V6,ED,V8,decide (V9=BZ),f,n,a,⟨z,u,w,s,V17⟩⟩).map .pv)),(2,bx 21 53 ((eA zR).map .pv))])) (λ_=>True) ?_ ?_
 .refine U aA<|V E4<|Cn ?_ ?_<;>intro hc5
  .refine Rd aA<|Y (kc call67 (δ _))<|Y aA<|Y dO<|Y dO<|Y (bC DP)<|Uu (ku sizeOf46)<|Zz ?_;exact⟨(),T_,Wk⟩
  have hn:=hc5;rw[hpn (by rw[Bool.not_eq_false']at hn;exact b9 hn)];refine aB ?_;exact⟨(),T_,Wk⟩
 rintro _ -;refine U (wY cQ bJ)<|Y (kc call68 (F _))<|Y aA<|Y dO<|Y dO<|Y aH<|V aH<|S<|S<|aT (t:=141) (n:=20) (A_:=((Q17.2||!θ (G=⟨#[114,101,99,111,114,100]⟩))||!θ (TX.2=0))||!θ (TX.1=a_ t)) ?_ ?_
 .all_goals refine Y aA<|Y pA<|Y (bC NY)<|Y (bQ nO)<|Dm ?_<;>(refine Sp 129 (λh129=>?_) λh129=>?_)<;>(first|exact s_|refine M<|M ?_|refine O aA<|O E4 ?_)<;>refine Y cD<|Dm ?_<;>(refine Sp 133 (λh133=>?_) λh133=>?_)<;>(first|exact s_|refine M<|M ?_|refine O aA<|O xI ?_)<;>refine Y cD<|Dm ?_<;>(refine Sp 137 (λh137=>?_) λh137=>?_)<;>(first|exact s_|refine M<|M<|M ?_|refine O aA<|O aA<|O E4 ?_)<;>refine V cD ?_<;>exact Gj (h:=by(simp only[*,Zo];done))
 refine Cn ?_ ?_<;>intro hc6
 .have o:=hc6;rw[b6 (g.2 (by
   simp only[Bool.or_eq_true,r9,q7]at o;rcases o with((h|h)|h)|h
   .exact .inl h
   .exact .inr (.inl h)
   .exact .inr (.inr λe=>h (by rw[e]))
   exact .inr (.inr λe=>h (by rw[e]))))]
  refine U (oD UT)<|Uu (jG bJ)<|V aH<|aC<|gD (H':=[]) (.inr Z) Z (fG Z cQ bJ Z Z Z u0 Z) (aI Z) P_ ?_;exact Qq
 have o:=hc6;rw[a8 (λh=>by
  simp only[q_,Bool.not_eq_false',k_]at o;rcases g.1 h with h|h|h
  .rw[h]at o;cases o.1.1.1
  .exact h o.1.1.2
  exact h (Prod.ext o.2 o.1.2))]
 refine aB<|U (wY cQ bJ)<|Uu (jG bJ)<|V aH<|aC<|gD (H':=[]) (.inr Z) Z (fG Z cQ bJ Z Z Z (by simp only[Zl,S_];rfl) Z) (aI Z) (Fin.wk (by simp[eA,lQ,xR]) T_ T_) ?_;exact Qq
end Go.Proofs.C
