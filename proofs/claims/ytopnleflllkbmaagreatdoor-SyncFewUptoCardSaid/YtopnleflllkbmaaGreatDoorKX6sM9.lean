/-
  Parts of the proof. Conditions: each theorem's own.
-/
import Derived.Test.YtopnleflllkbmaaGreatDoorKX6sM8
set_option linter.unusedVariables false
set_option linter.unusedSimpArgs false
set_option maxRecDepth 100000
set_option maxHeartbeats 8000000
open List Nat
open List renaming length->C
open Option renaming some->A,none->ζ
open Bool renaming true->T,false->η
open ByteArray renaming size->N,data->μ
open Array renaming toList->ν
open Decidable renaming decide->θ
open Go.IntKind renaming i64->ξ
open Go.Proofs.Tryz renaming prog->φ
open Go.Proofs.YtopnleflllkbmaaGreatDoor
namespace Go.Proofs.C
open Go.Proofs.Tryz
open Go.Abs Go.Lib
variable{l L a b:List B_}{s t x r:B_}{k i:Nat}
theorem Vy(l:List B_)(s:B_)(H:aF)(a:C l<2^40):RC 38 [.pv (aK l),sv s] (iv (EB id l s:Nat)) H:=by
 refine Pu ?_;have P:C (l.map S_)=C l:=g_ _;refine Bd func38 Z ntmps38<|Sz aH<|Sz aH<|S<|aE<|bF (σ:=Nat) (λk=>([(0,.pv (aK l)),(1,sv s),(5,iv (k:Int))],[])) (λk=>k<=C l/\∀j,j<k->∀o,l[j]?=A o->jV (id o) s=T) (λk=>C l - k) 0 ⟨l7 _,λj h=>by omega⟩ ?_ ?_
 .exact E0
 rintro k ⟨hk,hlo⟩;have ⟨x,Q⟩:∃x,x=l.getD k a6:=X_;have E:k<C l->l[k]?=A x:=λh=>by
  have ⟨z,R⟩:=aR h;rw[Q,getD_eq_getElem?_getD,R];rfl
 have hi:=λh=>cC (f:=S_) (E h);have ⟨B,I⟩:∃B,B=(θ ((k:Int)<(C (l.map S_):Int))&&jV x s):=X_;refine S<|S<|aT (t:=17) (n:=13) (A_:=B) ?_ ?_
 .all_goals refine Y aA<|Y aA<|Y (fM aD)<|Y cI<|Dm ?_<;>(refine Sp 10 (λF=>?_) λF=>?_)<;>(try exact w_)<;>(first|refine M<|M<|M<|M<|M<|M ?_|refine O aA<|O aA<|O (bP Z aY Z Z X (l_ _) (hi (I_ F)) Z)<|O (eF Z N_ Z (hi (I_ F)) Z)<|O aA<|O (iy Z Z Z) ?_)<;>refine V cD ?_<;>exact Gj (h:=by rw[I];(rw[F];rfl))
 refine Cn ?_ ?_<;>intro G
 .have hBt:=I.symm.trans G;rw[l6,k_]at hBt;refine aB<|aE<|Rd aA<|Y kp<|Da ?_;refine⟨k+1,⟨X,λj W o D=>?_⟩,X,E0⟩;by_cases e:j=k
  .subst e;rw[E X]at D;cases D;exact hBt.2
  exact hlo j X o D
 have J:=I.symm.trans G;have K:EB id l s=k:=Ns hk hlo (λo D=>by
  have L:=(m9.1 D).1;rw[E L]at D;cases D
  rwa [decide_eq_true (by omega:(k:Int)<(C (l.map S_):Int)),Bool.true_and]at J)
 rw[K];exact aP<|U aA<|V aH<|aC<|Rt<|Qq
theorem ju(l:List B_)(j:Nat)(s:B_)(H:aF)(K:C l<2^40)(J:j<=C l):RC 39 [.pv (aK l),iv (j:Int),sv s] (.pv (aK (l.take j++s::l.drop j))) H:=by
 refine Pu ?_;have I:C (l.map S_)=C l:=g_ _;have B:C ((l.take j).map S_)=j:=by rw[g_,m_];omega
 have D:C ((l.drop j).map S_)=C l - j:=by rw[g_,p_]
 have E:C (l.take j++s::l.drop j)=j+1+(C l - j):=by rw[j8,j6,m_,p_];omega
 have F:C (bZ (l.take j))=j:=by rw[dI,m_];omega
 have G:C (bZ (l.take j++[s]))=j+1:=by rw[dI,j8,m_];simp only[j6,length_nil];omega
 refine Bd func39 Z ntmps39<|Sz aH<|U (by exact eO (id:=905) Z aY Z Z Z Z H_ Z)<|Y aA<|Y aA<|Y (by exact eM (l:=0) (h:=j) Z aY Z (dX l) Z Z (l7 _) X (show ((l.map S_).take j).drop 0=(l.take j).map S_ by rw[List.drop_zero,List.map_take]))<|Y (by exact bW (ob:=⟨0,1,9,[]⟩) (k:=j) (ps:=(l.take j).map S_) Z aY sW Z Z Z Z Z Z Z (dX _) B X (r7 _) (rows':=bZ (l.take j)) (by rw[List.nil_append];exact(dA _).symm))<|V aH<|U aA<|Y aA<|Y (by exact aL ([s].map S_) Z aY Z Z Z Z Z (dX _))<|Y (by exact bW (k:=j+1) (ps:=[s].map S_) Z aY sW Z Z Z Z Z F Z (dX _) (m:=1) Z X Z (rows':=bZ (l.take j++[s])) (eX _ _)) ?_;refine V aH<|U aA<|Y aA<|Y aA<|Y (by exact eM (l:=j) (h:=(l.map S_).length) Z aY Z (dX l) Z Z X (h_ _) (show ((l.map S_).take _).drop j=(l.drop j).map S_ by rw[List.take_length,List.map_drop]))<|Y (by exact bW (k:=(l.take j++s::l.drop j).length) (ps:=(l.drop j).map S_) Z aY sW Z Z Z Z Z G Z (dX _) D X E.symm (rows':=bZ (l.take j++s::l.drop j)) (by rw[eX,List.append_assoc];rfl))<|V aH<|aC ?_;refine cT (H':=[]) (.inr Z) Z (aI Z) (Fin.fz (id:=905) (ob:=⟨3,1,9,bZ (l.take j++s::l.drop j)⟩) ((l.take j++s::l.drop j).map S_) Z (dA _) (.osl (fR S_ _)) Z T_ T_) ?_;exact Qq
theorem Xz(H:zL l)(F:s∉l):zL (l.take (EB id l s)++s::l.drop (EB id l s)):=by
 induction l with
 |nil=>exact pairwise_singleton _ _
 | cons a l G =>
  rw[l9,not_or]at F;have E:=pairwise_cons.1 H;have G:=G E.2 F.2;rw[EB,findIdx_cons];cases h:jV (id a) s with
  |true =>
   show zL (a::(l.take (EB id l s)++s::l.drop (EB id l s)));refine pairwise_cons.2 ⟨λy B=>?_,G⟩;rcases mem_append.1 B with B|B
   .exact E.1 y (mem_of_mem_take B)
   rcases l9.1 B with rfl|B
   .exact h
   exact E.1 y (mem_of_mem_drop B)
  | false =>
   show zL (s::a::l);have D:jV s a=T:=by
    cases I:jV s a with
    |true=>rfl
    |false=>exact absurd (CX I h) F.1
   refine pairwise_cons.2 ⟨λy B=>?_,H⟩;rcases l9.1 B with rfl|B
   .exact D
   exact rS D (E.1 y B)
theorem Ya(j:Nat)(x:B_):x∈l.take j++s::l.drop j↔x=s\/x∈l:=by
 conv=>rhs;rw[<-take_append_drop j l]
 simp only[mem_append,l9];constructor
 .rintro(h|h|h)
  .exact .inr (.inl h)
  .exact .inl h
  exact .inr (.inr h)
 rintro(h|h|h)
 .exact .inr (.inl h)
 .exact .inl h
 exact .inr (.inr h)
def lY(L:List B_):List B_:=(cR L).map (jH (jM L))
theorem Mk{i:B_}(h:L[k]?=A t)(hi:sV t=A i)(I:i∉cR (L.take k)):cR (L.take (k+1))=(cR (L.take k)).take (EB id (cR (L.take k)) i)++i::(cR (L.take k)).drop (EB id (cR (L.take k)) i) /\
  lY (L.take (k+1))=(lY (L.take k)).take (EB id (cR (L.take k)) i)++t::(lY (L.take k)).drop (EB id (cR (L.take k)) i):=by
 have F:∀x,x∈(jM (L.take k)).map Prod.fst↔x∈cR (L.take k):=λx=>(pL _).mem_iff.symm;have J:jM (L.take (k+1))=jM (L.take k)++[(i,t)]:=by
  rw[NA h,jW,hi];refine a8 λP=>I ((F i).1 ?_);have ⟨p,D,e⟩:=any_eq_true.1 P;exact mem_map.2 ⟨p,D,b9 e⟩
 have K:cR (L.take (k+1))=(cR (L.take k)).take (EB id (cR (L.take k)) i)++i::(cR (L.take k)).drop (EB id (cR (L.take k)) i):=by
  refine EZ _ _ (oM _) (Xz (oM _) I) λx=>?_;rw[Ya,<-F,cR,(pL _).mem_iff,J,map_append,mem_append];simp only[map_cons,map_nil,q9];exact or_comm
 refine⟨K,?_⟩;have B:∀x∈cR (L.take k),jH (jM (L.take (k+1))) x=jH (jM (L.take k)) x:=λx E=>by
  have ⟨p,D,e⟩:=mem_map.1 ((F x).2 E);rw[J,jH,jH,find?_append];cases G:(jM (L.take k)).find? λp=>θ (p.1=x)with
  |none=>exact absurd (decide_eq_true e) (find?_eq_none.1 G p D)
  |some q=>rfl
 have H:jH (jM (L.take (k+1))) i=t:=by
  rw[J,jH,find?_append];have G:((jM (L.take k)).find? λp=>θ (p.1=i))=ζ:=find?_eq_none.2 λp D P=>I ((F i).1 (mem_map.2 ⟨p,D,b9 P⟩));rw[G,Option.none_or,find?_cons,decide_eq_true rfl];rfl
 rw[lY,K,map_append,map_cons,H,lY,<-map_take,<-map_drop];congr 1
 .exact map_congr_left λx E=>B x (mem_of_mem_take E)
 congr 1;exact map_congr_left λx E=>B x (mem_of_mem_drop E)
theorem Ml(h:L[k]?=A t)(hi:sV t=ζ\/∃i,sV t=A i/\i∈cR (L.take k)):jM (L.take (k+1))=jM (L.take k):=by
 rw[NA h,jW];rcases hi with hi|⟨i,hi,hm⟩
 .rw[hi]
 rw[hi];refine b6 ?_;have ⟨p,B,e⟩:=mem_map.1 ((pL _).mem_iff.1 hm);exact any_eq_true.2 ⟨p,B,decide_eq_true e⟩
theorem ib{t:List UInt8}(h:(eB t).2=0):∀e∈(eB t).1.edits,C e.refs<2^40:=by have B:=sX (RL (r:=(eB t).1) (by rw[KT h]));rw[<-JL B.tx];exact KS _
theorem aAQ(L:List B_)(H:aF)(hl:C L<1000000)(hs:∀t∈L,N t<1000000000):RC 19 [.pv (aK L)] (.tup [.pv (aK (cR L)),.pv (aK (lY L))]) H:=by
 refine Pu ?_;have hml:C (L.map S_)=C L:=g_ _;refine Bd func19 Z ntmps19<|U aH<|V aH<|Sz aH<|Sz aH<|S<|Sz aH<|aE<|bF (σ:=Nat) (λk=>([(0,.pv (aK L)),(4,.pv (aK (cR (L.take k)))),(5,.pv (aK (lY (L.take k)))),(6,iv (k:Int))],[])) (λk=>k<=C L) (λk=>C L - k) 0 (l7 _) ?_ ?_
 .dsimp only;rw[take_zero,QR,show lY []=[]by rw[lY,QR];rfl];exact Wk
 intro k hk;refine S<|U aA<|Y aA<|Y (fM aD)<|V cI<|Cn ?_ ?_<;>intro hc1
 .have hlt:k<C L:=I_ hc1
  have ⟨t,ht⟩:=aR hlt;have hi:=cC (f:=S_) ht;have hts:=hs t (m7 ht);have hpa:=λH=>pr (ν (μ t)) i8 H;rw[gE,tc]at hpa;have hok:=M9 (ν (μ t));have hrf:=ib (t:=ν (μ t));have hidT:sV t=if(eB (ν (μ t))).2=0 then A (JB (eB (ν (μ t))).1)else ζ:=rfl
  have hst:=λi=>Mk (i:=i) ht;have hsm:=Ml ht;have hle:=S5 (L.take k);have hil:C (cR (L.take k))=C (jM (L.take k)):=by rw[cR,jL,g_]
  have hol:C (lY (L.take k))=C (cR (L.take k)):=g_ _;rw[m_]at hle;have hsr:=oM (L.take k);generalize eB (ν (μ t))=G at hpa hidT hok hrf;have hwr:ξ.wrap ((k:Int)+1)=((k+1:Nat):Int):=by rw[lT X X];omega
  refine aB<|S<|aE<|U aA<|Y aA<|Y (kx aY hi)<|Y (fS N_ (hi:=hi))<|Y (kc call25 (hpa _))<|Y aA<|Y dO<|Y dO<|Y (kl 7 nx)<|Uu (jG bJ)<|V aH<|S<|U aA<|V xI<|Cn ?_ ?_<;>intro hc2
  .have hne:G.2≠0:=by have:=hc2;intro e;rw[e]at this;exact absurd this E_
   rw[a8 hne]at hidT;have e:=hsm (.inl hidT);have e2:cR (L.take (k+1))=cR (L.take k):=by rw[cR,cR,e]
   have e3:lY (L.take (k+1))=lY (L.take k):=by rw[lY,lY,e2,e]
   refine aP<|Rd aA<|Y (ka hwr)<|Da ?_;refine⟨k+1,X,X,?_⟩;dsimp only;rw[e2,e3];exact Wk
  have heq:G.2=0:=by have:=hc2;by_cases e:G.2=0;exact e;rw[decide_eq_false e]at this;cases this
  rw[b6 heq]at hidT;have hid:=λH=>aDe G.1 H hok.1 (hrf heq);generalize JB G.1=I at hid hidT;have hst:=hst I hidT;have hsm:=λh=>hsm (.inr ⟨I,hidT,h⟩);have ⟨A_,hX⟩:∃A_,A_=cR (L.take k):=X_;have ⟨o_,hO⟩:∃o_,o_=lY (L.take k):=X_;have hpl:=λH=>Vy A_ I H (by rw[hX];omega);rw[<-hX]at hst hsm hil hol hsr |-;rw[<-hO]at hst hol |-;have hjl:=sb id A_ I;have hfnd:EB id A_ I<C A_->(A_[EB id A_ I]?=A I↔I∈A_):=λhlt2=>by
   constructor
   .exact m7
   intro hm;have hk2:=zd A_ I;rw[decide_eq_true hm]at hk2;have ⟨q,hq⟩:=s8.1 hm;have hlo:∀a,a<EB id A_ I->∀o,A_[a]?=A o->jV (id o) I=T:=λa ha o ho=>by
    have:=not_of_lt_findIdx ha;rw[(m9.1 ho).2]at this
    simpa using this
   have ⟨o,ho⟩:=aR hlt2;have hle2:jV (id o) I=η:=by
    have h3:=List.findIdx_getElem (xs:=A_) (p:=λo=>!jV (id o) I) (w:=hlt2);have e:A_[A_.findIdx λo=>!jV (id o) I]'hlt2=o:=(m9.1 ho).2;rw[e]at h3
    simpa using h3
   have:=ze (f:=id) hsr hlo ho hle2;rw[hk2]at this;have e2:o=I:=b9 this.symm;rw[ho,e2]
  have hout:¬ EB id A_ I<C A_->I∉A_:=λh hm=>by
   have e:EB id A_ I=C A_:=X
   have:=findIdx_eq_length.1 e I hm;rw[show jV (id I) I=jV I I from Z,BN]at this;cases this
  have hin1:=λH=>ju A_ (EB id A_ I) I H X hjl;have hin2:=λH=>ju o_ (EB id A_ I) t H X X;generalize EB id A_ I=j at hst hpl hjl hfnd hout hin1 hin2;have ⟨x,hx⟩:∃x,x=A_.getD j a6:=X_;have hxg:j<C A_->A_[j]?=A x:=λh=>by
   have ⟨z,hz⟩:=aR h;rw[hx,getD_eq_getElem?_getD,hz];rfl
  have hxi:=λh=>cC (f:=S_) (hxg h);have hmX:C (A_.map S_)=C A_:=g_ _;have ⟨B,hB⟩:∃B,B=(θ ((j:Int)<(C (A_.map S_):Int))&&θ (x=I)):=X_;have hBm:B=θ (I∈A_):=by
   rw[hB];by_cases hlt2:j<C A_
   .rw[decide_eq_true X,Bool.true_and];refine decide_eq_decide.2 ?_;rw[<-hfnd hlt2,hxg hlt2];exact⟨λh=>by rw[h],λh=>Option.some.inj h⟩
   rw[decide_eq_false X,Bool.false_and,decide_eq_false (hout hlt2)]
  clear hx;refine aB<|U (wY cQ bJ)<|Y (kc call26 (hid _))<|V aH<|U aA<|Y aA<|Y (kc call38 (hpl _))<|V aH<|S<|S<|aT (t:=43) (n:=13) (A_:=B) ?_ ?_
  .all_goals refine Y aA<|Y aA<|Y (fM aD)<|Y cI<|Dm ?_<;>(refine Sp 36 (λh36=>?_) λh36=>?_)<;>(try exact w_)<;>(first|refine M<|M<|M<|M<|M<|M ?_|refine O aA<|O aA<|O (bP Z aY Z Z X (l_ _) (hxi (I_ h36)) Z)<|O (eF Z N_ Z (hxi (I_ h36)) Z)<|O aA<|O wU ?_)<;>refine V cD ?_<;>exact Gj (h:=by rw[hB];(rw[h36];rfl))
  refine Cn ?_ ?_<;>intro hc3
  .have hm:I∈A_:=b9 (hBm.symm.trans hc3);have e:=hsm hm;have e2:cR (L.take (k+1))=A_:=by rw[hX,cR,cR,e]
   have e3:lY (L.take (k+1))=o_:=by rw[hO,lY,lY,e2,e,hX]
   refine aP<|Rd aA<|Y (ka hwr)<|Da ?_;refine⟨k+1,X,X,?_⟩;dsimp only;rw[e2,e3];exact Wk
  have hm:I∉A_:=b_ (hBm.symm.trans hc3);have ⟨e2,e3⟩:=hst hm;refine aB<|U aA<|Y aA<|Y aA<|Y (kc call39 (hin1 _))<|V aH<|Rd aA<|Y aA<|Y aA<|Y aA<|Y (kx aY hi)<|Y (fS N_ (hi:=hi))<|Y (kc call39 (hin2 _))<|V aH<|Rd aA<|Y (ka hwr)<|Da ?_;refine⟨k+1,X,X,?_⟩;dsimp only;rw[e2,e3];exact Wk
 have hge:k=C L:=J_ hc1
 subst hge;rw[take_length];exact aP<|U aA<|Y aA<|Y aH<|V aH<|aC<|Ru<|Qq
theorem Ri(ha:C a<1000000)(hb:C b<1000000){n:Nat}(h:MsgW (cR a) (cR b) (n+1) t):∀u∈gR b t,recT u=T->u∈b:=by
 have y:=DL ha;have G:=DL hb;generalize hn:n+1=k at h;cases h with
 |recd K E g =>
  intro u B;have ⟨d,f⟩:=GN K;rw[NX b d f]at B;cases B
 | @want m L K E g =>
  intro u B _;rw[gR,KI (λs hs=>G.dig s (E s hs).1) K]at B;rcases mem_append.1 B with B|B
  .obtain ⟨i,hi,rfl⟩:=mem_map.1 B;rcases KD _ _ _ i hi with h|⟨hL,hiY⟩
   .cases h
   exact(FA hiY).2
  cases B
 | @offr m P K E g h4 =>
  intro u B D;have ⟨r,hr⟩:∃r,r=AR (cR b) (mI (P.map fldW)):=X_;have hi:=wv y G E g;rw[gR,<-hr]at B;rw[<-hr]at hi;have ⟨s1,⟨L,s2,s3⟩,⟨Q,s4,s5⟩⟩:=hi;rcases mem_append.1 B with B|B
  .obtain ⟨i,hi,rfl⟩:=mem_map.1 B;exact(FA (s1 i hi).1).2
  rcases mem_append.1 B with B|B
  .rw[s2]at B;obtain ⟨R,l,rfl,v,_⟩:=WQ y (m:=m+1) s3 u B;rw[recT,jw (λs hs=>y.dig s (s3 s (v s hs)).1) l]at D;cases D
  rw[s4]at B;cases Q with
  |nil=>cases B
  | cons p Q =>
   obtain ⟨W,rfl,_⟩:=s5 p mem_cons_self;have j:∀w∈p::Q,Hi (cR b) W w:=λw hw=>by
    have ⟨m2,e,h⟩:=s5 w hw;obtain rfl:W=m2:=X
    exact h
   obtain ⟨R,rfl,l,x,_⟩:=jb G (cR a) (m:=W) j u B;by_cases H:R=[]
   .subst H;have hz:uS (mI (([]:List j0).map fldW))=[]:=GS [] (λp hp=>by cases hp) E_;cases hx:sV (mI (([]:List j0).map fldW))with
    |none=>rw[recT,hx]at D;cases D
    | some i =>
     have ⟨d_,d,f,e3⟩:=qd mI ((p::Q).map fldW);rw[d]at B;have ⟨c,z,τ⟩:=mem_map.1 B;obtain ⟨J,rfl,o⟩:=cx fldW f c z;have F:J≠[]:=λe=>(e3 _ z).1 (by rw[e];rfl);have ρ:=Wt J;have σ:C J<=20000:=by
      rcases(e3 _ z).2 with E|E
      .rw[g_]at E;omega
      omega
     have I:=(TC G (n:=W) (P:=J) (λq hq=>j q (o q hq)) σ).1;rw[τ,hz]at I;exact absurd I.symm F
   rw[recT,QS (TC G (λq hq=>j q (l q hq)) x).1 H]at D;cases D
theorem aAM{a b:List B_}(E:C a<1000000)(G:C b<1000000):∀k,k<=19->(∀t∈(lF a b k).q,recT t=T->t∈a\/t∈b)/\∀t∈(lF a b k).ag++(lF a b k).bg,t∈a\/t∈b
 |0,_=>by
  refine⟨λt B D=>?_,λt B=>by cases B⟩;have B:t∈[gX (cR a)]:=B;rw[q9]at B;subst B;have e:sV (gX (cR a))=ζ:=QS (P:=[cV (cR a) a6]) (DA (oM a) (NU a) (DL E).len) (λe=>by cases e);rw[recT,e]at D;cases D
 | k+1,hk=>by
  have H:=ZN E G k X;have ⟨n,K⟩:∃n,19 - k=n+1:=⟨18 - k,X⟩;rw[K]at H;have ⟨J,I⟩:=aAM E G k X;rw[lF];by_cases F:k % 2=0
  .rw[b6 F];refine⟨λt B D=>?_,λt B=>?_⟩
   .have ⟨u,hu,htu⟩:=mem_flatMap.1 B;have:=H u hu;rw[b6 F]at this;exact .inr (Ri E G this t htu D)
   have B:t∈(lF a b k).ag++((lF a b k).bg++(lF a b k).q.filter recT):=B;rw[<-append_assoc,mem_append]at B;rcases B with h|h
   .exact I t h
   rw[mem_filter]at h;exact J t h.1 h.2
  rw[a8 F];refine⟨λt B D=>?_,λt B=>?_⟩
  .have ⟨u,hu,htu⟩:=mem_flatMap.1 B;have:=H u hu;rw[a8 F]at this;exact .inl (Ri G E this t htu D)
  have B:t∈((lF a b k).ag++(lF a b k).q.filter recT)++(lF a b k).bg:=B;rw[mem_append,mem_append]at B;rcases B with(h|h)|h
  .exact I t (mem_append_left _ h)
  .rw[mem_filter]at h;exact J t h.1 h.2
  exact I t (mem_append_right _ h)
theorem zn(B:C a<1000000)(D:C b<1000000)(h:OneD (cR a) (cR b) x)(k:Nat):C (lF a b k).q<=1000:=by
 rcases tk B D h k with⟨t,f,e,_⟩|⟨e,_⟩
 .rw[e];exact r_ Z
 rw[e];exact l7 _
theorem zm(B:C a<1000000)(D:C b<1000000)(h:OneD (cR a) (cR b) x)(E:∀t,t∈a\/t∈b->sV t=A x->t=r):(lF a b 19).ag++(lF a b 19).bg=[r]/\(lF a b 19).ao+(lF a b 19).bo<=17:=by
 rcases tk B D h 19 with⟨t,f,e,_⟩|⟨e,⟨r',h1,h2⟩,h3⟩
 .rw[Jf B D]at e;cases e
 refine⟨?_,h3⟩;have:=(aAM B D 19 (h_ _)).2 r' (by rw[h1];exact q9.2 Z);rw[h1,E r' this h2]
theorem ir(h:(lY L)[i]?=A t):∃x,(cR L)[i]?=A x/\sV t=A x:=by rw[lY,r8]at h;obtain ⟨x,B,rfl⟩:=Option.map_eq_some_iff.1 h;exact⟨x,B,(FA (m7 B)).1⟩
theorem Yd{j:Nat}(P:(cR L)[i]?=A x)(Q:(cR L)[j]?=A x):i=j:=by
 have ⟨D,E⟩:=m9.1 P;have ⟨F,G⟩:=m9.1 Q;have R:=pairwise_iff_getElem.1 (oM L);have B:∀a b (H:a<C (cR L)) (I:b<C (cR L)),(cR L)[a]=x->(cR L)[b]=x->¬ a<b:=λa b H I J K h=>by
  have:=R a b H I h;rw[J,K,BN]at this;cases this
 have:=B i j D F E G;have:=B j i F D G E;omega
theorem FM:t∈l.take k++l.drop (k+1)↔∃i,i≠k/\l[i]?=A t:=by
 rw[mem_append];constructor
 .rintro(h|h)
  .have ⟨i,hi⟩:=getElem?_of_mem h;have B:i<k:=by
    have:=(m9.1 hi).1;rw[m_]at this;omega
   rw[getElem?_take,b6 B]at hi;exact⟨i,X,hi⟩
  have ⟨i,hi⟩:=getElem?_of_mem h;rw[getElem?_drop]at hi;exact⟨k+1+i,X,hi⟩
 rintro⟨i,hi,h⟩;rcases Nat.lt_or_ge i k with h1|h1
 .exact .inl (mem_of_getElem? (i:=i) (by rw[getElem?_take,b6 h1];exact h))
 exact .inr (mem_of_getElem? (i:=i - (k+1)) (by rw[getElem?_drop,show k+1+(i - (k+1))=i by omega];exact h))
theorem Yn(I:(lY L)[k]?=A r)(K:(cR L)[k]?=A x):OneD (cR (lY L)) (cR ((lY L).take k++(lY L).drop (k+1))) x/\∀t,t∈lY L\/t∈(lY L).take k++(lY L).drop (k+1)->sV t=A x->t=r:=by
 have J:∀i t,(lY L)[i]?=A t->sV t=A x->i=k:=λi t E F=>by
  have ⟨y,P,Q⟩:=ir E;rw[Q]at F;cases F;exact Yd P K
 have H:sV r=A x:=by
  have ⟨y,E,F⟩:=ir I;rw[K]at E;cases E;exact F
 refine⟨⟨.inl ⟨?_,?_⟩,λy R=>?_⟩,λt D B=>?_⟩
 .exact(qU _ _).2 ⟨r,m7 I,H⟩
 .rw[qU];rintro⟨t,D,B⟩;have ⟨i,hi,h⟩:=FM.1 D;exact hi (J i t h B)
 .rcases R with⟨E,F⟩|⟨E,F⟩
  .have ⟨t,D,B⟩:=(qU _ _).1 E;have ⟨i,hi⟩:=getElem?_of_mem D;by_cases G:i=k
   .rw[G,I]at hi;cases hi;rw[H]at B;exact(Option.some.inj B).symm
   exact absurd ((qU _ _).2 ⟨t,FM.2 ⟨i,G,hi⟩,B⟩) F
  have ⟨t,D,B⟩:=(qU _ _).1 E;have ⟨i,hi,h⟩:=FM.1 D;exact absurd ((qU _ _).2 ⟨t,m7 h,B⟩) F
 have D:t∈lY L:=by
  rcases D with h|h
  .exact h
  have ⟨i,_,h⟩:=FM.1 h;exact m7 h
 have ⟨i,hi⟩:=getElem?_of_mem D;rw[J i t hi B,I]at hi;exact(Option.some.inj hi).symm
end Go.Proofs.C
namespace Go.Abs
section
section
variable{α:Type}
def aG4(κ:KeyKind α)(l:List (α×AV×Nat)):List (List AV):=l.map λp=>[.pv (κ.pv p.1),p.2.1,.pv (.int .i64 (p.2.2:Int))]
variable [DecidableEq α]
end
end
section
section
variable{P:Program}{r4:Nat}{o:Oper}{E:dG}{H:aF}{f_ u4:TypeId}{x:Operand}{q gq:Nat}{oq:Ob}{s:B_}{k:Nat}
abbrev RY(s:B_)(k:Nat):List (List AV):=[[.pv (.str s),.pv (.int .i64 k)]]
theorem qq(D:o.op=.range u4 x)(R:P.underlying u4=A .string)(f:aQ E x=A (.pv (.str s)))(d:H.get q=ζ):
  cP P r4 o E H (.it q 0) ((q,⟨0,0,0,RY s 0⟩)::H):=by
 intro a w I ι _ _ e W K Q c;have G:=(aJ W f).str_inv;have ⟨k2,g⟩:=Rel.placeX (H':=(q,⟨0,0,0,RY s 0⟩)::H) (id:=q) (cap:=1) (ob':=⟨0,0,0,RY s 0⟩) (x:=.stringIter s 0) (w':=w.alloc (.stringIter s 0)) e Z Z Z Z
  (λo D=>by rw[d]at D;cases D) (λJ L F=>.inr (.inr (.inr (.inr ⟨Z,w.heap.size,s,0,H_,J,L,Z,_,_,Z,.pv (.str _),.pv (.int _ _)⟩))))
  (get_cons_same _ _ _) (λj b=>get_cons_other _ _ b)
 have B:(execOp a.eval o).run P w=.ok (.value (.pointer (A ⟨w.heap.size,0,ζ⟩))) (w.alloc (.stringIter s 0)):=by
  simp only[execOp,D,G];simp[Instr.range,run_underlying R]
 unfold Oper.wpW;rw[B];exact c _ _ I _ _ _ ⟨Z,Z⟩ (.it ⟨0,0,0,RY s 0⟩ (get_cons_same _ _ _) (h_ _) Z λ_=>⟨Z,w.heap.size,H_,Z⟩) k2 g
theorem Jb{w:World}{I:Nat->Prop}{ι:mD}{b:Nat}(e_:Rel I ι H w)(R:H.get q=A oq)(W:oq.sz=0)(G:oq.rows=RY s k)(t:ι q=A (b,1)):w.heap[b]?=A (.stringIter s k)/\¬ I b:=by
 have ⟨_,c,e,a,D,J,K,d,m,kk,E,L,P⟩:=(e_.obj q oq R).str W t (by rw[G];rfl);rw[t]at D;cases D;rw[G]at E;cases E;have B:=L.str_inv;injection B with B;have F:=P.int_inv;injection F with _ F;have Q:a=k:=X
 subst B Q;exact⟨J,K⟩
theorem Dh{c v:Nat}(p:o.op=.next x T)(z:aQ E x=A (.it q gq))(R:H.get q=A oq)(f:oq.g=gq)(r:oq.rows=RY s k)(n:k<N s)(j:Utf8.decode s k=(c,v)):
  cP P r4 o E H (.tup [.pv (.bool T),.pv (.int .i64 k),.pv (.int .i32 c)]) ((q,⟨gq,0,oq.ty,RY s (k+v)⟩)::H):=by
 intro a w I ι _ _ e l K Q h;have ⟨g,b,t,F⟩:=Oe (aJ l z) R f;have ⟨J,e3⟩:=Jb e R g r t;have G:(Instr.next (.pointer (A ⟨b,0,ζ⟩)) T o.type).run P w=.ok (.tuple #[.bool T,.int .i64 k,.int .i32 c]) (World.setObj w b (.stringIter s (k+v))):=by
  have y:∀q:Obj,(setObj b q).run P w=.ok () (World.setObj w b q):=λq=>by simp[setObj,Sem.run,J,World.setObj]
  simp only[Instr.next,getObj,Sem.run_bind,Sem.run,J,Result.andThen,n,if_true,j,y];rfl
 have ⟨k2,k3⟩:=Rel.rewrite (H':=(q,⟨gq,0,oq.ty,RY s (k+v)⟩)::H) (ob':=⟨gq,0,oq.ty,RY s (k+v)⟩) (x:=.stringIter s (k+v)) e R t g J Z Z f.symm Z
  (λ_ W L i_=>.inr (.inr (.inr (.inr ⟨Z,b,s,k+v,t,W,L,Z,_,_,Z,.pv (.str _),.pv (.int _ _)⟩)))) (get_cons_same _ _ _) (λj m=>get_cons_other _ _ m)
 unfold Oper.wpW execOp;simp only[p,F,Sem.run_bind,G,Result.andThen_ok,Sem.run_pure];refine h _ _ I ι _ _ ⟨Z,Z⟩ (.tup Z (λi u d B D=>?_)) k2 k3
 match i with
 |0=>simp at B D;subst B D;exact .pv (.bool _)
 |1=>simp at B D;subst B D;exact .pv (.int _ _)
 |2=>simp at B D;subst B D;exact .pv (.int _ _)
 |i+3=>simp at B
theorem VS(f:o.op=.next x T)(h:aQ E x=A (.it q gq))(J:H.get q=A oq)(e:oq.g=gq)(g:oq.rows=RY s k)(m:N s<=k):
  cP P r4 o E H (.tup [.pv (.bool η)]) H:=by
 intro a w I ι _ _ G c K Q W;have ⟨j,b,t,F⟩:=Oe (aJ c h) J e;have ⟨R,l⟩:=Jb G J j g t;have B:(Instr.next (.pointer (A ⟨b,0,ζ⟩)) T o.type).run P w=.ok (.tuple #[.bool η]) w:=by
  simp only[Instr.next,getObj,Sem.run_bind,Sem.run,R,Result.andThen,a8 (show ¬ k<N s by omega),Sem.run_pure]
 unfold Oper.wpW execOp;simp only[f,F,Sem.run_bind,B,Result.andThen_ok,Sem.run_pure];refine W _ _ I ι _ _ ⟨Z,Z⟩ (.tup Z (λi u d D L=>?_)) G (Step.refl _ _ _ _)
 match i with
 |0=>simp at D L;subst D L;exact .pv (.bool _)
 |i+1=>simp at D
theorem az{n:Int}{j:IntKind}(f:o.op=.convert f_ u4 x)(B:P.underlying f_=A (.int j))(g:P.underlying u4=A .string)(h:aQ E x=A (.pv (.int j n))):cP P r4 o E H (.pv (.str (Utf8.encode n))) H :=.of_run λa w I ι _ c=>⟨.string (Utf8.encode n),by
  have e:=(aJ c h).int_inv;simp[execOp,f,e,convert,run_underlying B,run_underlying g,Conv.intToString],.pv (.str _)⟩
end
end
end Go.Abs
namespace Go.Proofs.C
open Go.Proofs.Tryz
open Go.Abs Go.Lib
variable{i:B_}{H:aF}{A_ s:List B_}{o:List (B_×B_)}{r:GRep}{p:j0}{n:Nat}{L:List (List B_)}
def sM(f_:List B_):List (B_×PV):=f_.map λi=>(i,.bool T)
theorem aBI(f_:List B_):(sM f_).map Prod.fst=f_:=by rw[sM,map_map];exact map_id' _
theorem aBH(f_:List B_)(i:B_):(zN (pM (sM f_)) i).getD (bv η)=bv (θ (i∈f_)):=by
 rw[qi,sM,find?_map];show (Option.map _ ((f_.find? λp=>θ (p=i)).map _)).getD _=_;cases h:f_.find? λp=>θ (p=i)with
 |none =>
  rw[decide_eq_false λD=>find?_eq_none.1 h i D (decide_eq_true Z)];rfl
 |some p =>
  have B:=b9 (find?_some (p:=λp=>θ (p=i)) h);subst B;rw[decide_eq_true (mem_of_find?_eq_some h)];rfl
theorem aBG{f_:List B_}(h:i∉f_):xJ (pM (sM f_)) i (bv T)=pM (sM (f_++[i])):=by rw[qh (.bool T) (by rw[aBI];exact h),sM,sM,map_append];rfl
abbrev B3(L:List (List B_)):List (List AV):=L.map λw=>[.pv (aK w)]
theorem uT(L:List (List B_)):∀r∈B3 L,∀a∈r,Clo H a:=by intro r D a B;obtain ⟨w,_,rfl⟩:=mem_map.1 D;rw[q9]at B;subst B;exact .pv _
instance(L:List (List B_)):W_ (H) (B3 L):=⟨uT L⟩
theorem sK(L:List (List B_)):B3 L=(L.map r6).map (·.map AV.pv):=by rw[map_map];rfl
abbrev rpO(A_:List B_)(r:GRep):Ob:=bx 6 84 [.pv (aK A_),.mp 710 0,.osl 721 (C r.sent) 0 (C r.sent),.mp 720 0,.osl 722 (C r.wants) 0 (C r.wants),.osl 723 (C r.offers) 0 (C r.offers)]
abbrev VO(A_:List B_)(o:List (B_×B_))(r:GRep):aF:=[(718,rpO A_ r),(710,VK (tM o)),(720,VK (sM r.sent)),(721,⟨C r.sent,1,9,bZ (r.sent.map (jH o))⟩),(722,⟨C r.wants,1,22,B3 r.wants⟩),(723,⟨C r.offers,1,22,B3 r.offers⟩)]
theorem aAX{B D E F G H:Nat}{a b c d e f I J K L P Q:Ob}{id:Nat}(h:(aF.get [(B,a),(D,b),(E,c),(F,d),(G,e),(H,f)] id).isSome=T):(aF.get [(B,I),(D,J),(E,K),(F,L),(G,P),(H,Q)] id).isSome=T:=by simp only[aF.get]at h |-;generalize Nat.beq B id=x1,Nat.beq D id=x2,Nat.beq E id=x3,Nat.beq F id=x4,Nat.beq G id=x5,Nat.beq H id=R at h |-;cases x1<;>cases x2<;>cases x3<;>cases x4<;>cases x5<;>cases R<;>first|rfl|exact h
theorem Ux(A_:List B_)(o:List (B_×B_))(r:GRep)(i:B_)(K:∀i,i∈o.map Prod.fst↔i∈A_)(L:C r.sent<2^40):aU φ 44 [.ref 718 0 0 0,sv i] (VO A_ o r) (λx H'=>x=.tup []/\H'=VO A_ o ⟨lV A_ r.sent i,r.wants,r.offers⟩):=by
 obtain ⟨H,D⟩:=Iz o i;have D:(zN (pM (tM o)) i).isSome=decide (i∈A_):=D.trans (decide_eq_decide.2 (K i));have I:=aBH r.sent i;obtain ⟨b,E⟩:∃b,b=(decide (i∈A_)&&!decide (i∈r.sent)):=X_;rw[lV,<-E];refine Bd func44 Z ntmps44<|U aA<|Y pA<|Y (bC UD)<|Y (bC ti)<|Y (bQ isAgg78)<|Y aA<|Y (by exact cP.eqv (HY (κ:=J7) Z underlying78 U_ Z Z Z Z Z gV (.inl Z)) (show AV.tup [(zN (pM (tM o)) i).getD (sv a6),.pv (.bool (zN (pM (tM o)) i).isSome)]=.tup [sv (jH o i),bv (decide (i∈A_))]by rw[H,D]))<|Y aA<|Y dO<|Y dO<|Y aH<|V aH<|S<|aT (t:=25) (n:=11) (A_:=b) ?_ ?_
 ·all_goals refine Y aA<|Dm ?_<;>(refine Sp 17 (λJ=>?_) λJ=>?_)<;>(try(with_reducible contradiction))<;>(first|refine M<|M<|M<|M<|M<|M<|M ?_|refine O aA<|O pA<|O (bC Pg)<|O (bQ isAgg82)<|O aA<|O (by exact cP.eqv (IU (κ:=J7) Z mL U_ Z Z Z Z Z jC (.inl Z)) I)<|O iH ?_)<;>refine V cD ?_<;>exact Gj (h:=by rw[E];(rw[J];rfl))
 refine Cn ?_ ?_<;>intro B
 .have hbt:=E.symm.trans B;rw[l6,r9,q7]at hbt;have G:C (bZ (r.sent.map (jH o)))=C r.sent:=by rw[dI,g_]
  have F:C (r.sent++[i])=C r.sent+1:=by rw[j8];rfl
  rw[b6 (show b=true from B)];refine U aA<|Y pA<|Y (bC Pg)<|Y (bQ isAgg82)<|Y aA<|Uu (by exact zO (κ:=J7) (.inl Z) mL U_ Z Z Z Z Z Z Z (aBG hbt.2))<|Zz<|Rd aA<|Y aA<|Y pA<|Y (bC th)<|Y (bQ aG)<|Y aA<|Y (by exact aL [[.str (jH o i)]] Z aY Z Z Z Z Z R_)<|Y (by exact bW (k:=r.sent.length+1) (ps:=[[.str (jH o i)]]) Z aY sW Z Z Z Z Z G Z R_ (m:=1) Z X Z (rows':=bZ ((r.sent++[i]).map (jH o))) (by rw[List.map_append];exact gT _ _))<|Y pA<|Y (bC th)<|Uu (by exact cM Z sizeOf22 Z Z Z Z Z Z (by simp only[j6,List.length_nil];omega) (by simp only[Zl,S_,dH];rfl) (by simp only[Zl,S_,dH];rfl)) ?_;refine Zz<|pE (H':=VO A_ o ⟨r.sent++[i],r.wants,r.offers⟩) (.inl Z) Z ?_ ⟨Z,Z⟩;simp only[VO,rpO,F];exact(Fin.wk (by(simp;done)) (Hc (by(simp;exact⟨Z,Z,Z,Z,Z⟩))<|Hc (dW _)<|Hc (dW _)<|Hc (aN _ _)<|Hb<|Hb<|T_) ⟨Z,Z,Z,Z,Z,Z,T_⟩)
 rw[a8 (by rw[show b=η from B];decide)];refine aB ?_;exact pE (.inl Z) Z Fin.refl ⟨Z,Z⟩
theorem aAN(B:∀i,i∈o.map Prod.fst↔i∈A_)(D:C r.sent<2^40)(E:EX H (VO A_ o r)):aU φ 44 [.ref 718 0 0 0,sv i] H (λx H'=>x=.tup []/\H'=VO A_ o ⟨lV A_ r.sent i,r.wants,r.offers⟩++H) :=aU.frame (Ux A_ o r i B D) (EX.sub E) (dN.ofL ⟨(by(simp;exact⟨Z,Z,Z,Z,Z⟩)),(dW _),(dW _),(aN _ _),m5,m5,T_⟩) m3 (λid h=>.inl (aAX h))
theorem jv(p:B_):∀(l:List B_),AX p l=T->zL l
 | [],_=>List.Pairwise.nil
 | [a],_=>List.pairwise_singleton _ _
 |a::b::r,h=>by
  rw[AX,l6,l6]at h;have D:=jv p (b::r) h.2;refine pairwise_cons.2 ⟨λy B=>?_,D⟩;rcases l9.1 B with rfl|B
  .exact h.1.2
  exact rS h.1.2 ((pairwise_cons.1 D).1 y B)
theorem X1:∀(l m:List B_),l.Nodup->(∀x∈l,x∈m)->C l<=C m
 | [],m,_,_=>l7 _
 | a::l,m,hn,h=>by
  rw[List.nodup_cons]at hn;obtain ⟨m1,m2,rfl⟩:=append_of_mem (h a mem_cons_self);have D:=X1 l (m1++m2) hn.2 λx B=>by
   rcases mem_append.1 (h x (mem_cons_of_mem _ B))with h|h
   .exact mem_append_left _ h
   rcases l9.1 h with h|h
   .exact absurd (h▸B) hn.1
   exact mem_append_right _ h
  rw[j8]at D;rw[j6,j8,j6];omega
def qS(A_ s:List B_):Prop:=s.Nodup/\∀i∈s,i∈A_
theorem qS.len(h:qS A_ s):C s<=C A_:=X1 s A_ h.1 h.2
theorem qS.step(h:qS A_ s)(i:B_):qS A_ (lV A_ s i):=by
 rw[lV]
 split
 .next hc =>
  rw[l6,r9,k_,q7]at hc;refine⟨nodup_append.2 ⟨h.1,H_,λx E y D e=>?_⟩,λj B=>?_⟩
  .rw[q9]at D;exact hc.2 (D▸e▸E)
  rcases mem_append.1 B with B|B
  .exact h.2 j B
  rw[q9]at B;exact B▸hc.1
 exact h
theorem qS.fold:∀(l s:List B_),qS A_ s->qS A_ (l.foldl (lV A_) s)
 | [],s,h=>h
 |i::l,s,h=>qS.fold l _ (h.step i)
theorem YL{l:List B_}{k:Nat}{s:B_}(f:B_->Bool)(h:l[k]?=A s):(l.take (k+1)).filter f=(l.take k).filter f++if f s=T then[s]else[]:=by rw[eP h,filter_append,filter_cons,filter_nil]
theorem aE7(k:Nat)(h:k<16):∃c d,Utf8.decode Ap k=(c,1)/\tP[k]?=A d/\Utf8.encode (c:Int)=d/\N d=1:=by
 have key:∀k:Fin 16,(Utf8.decode Ap k.val).2=1/\tP[k.val]?=A (Utf8.encode ((Utf8.decode Ap k.val).1:Int))/\N (Utf8.encode ((Utf8.decode Ap k.val).1:Int))=1:=by decide +kernel
 have ⟨B,D,E⟩:=key ⟨k,h⟩;exact⟨(Utf8.decode Ap k).1,_,by rw[<-B],D,Z,E⟩
theorem uc(A_:List B_)(o:List (B_×B_))(r:GRep)(p:j0)(hX:∀i,i∈o.map Prod.fst↔i∈A_)(v:IdS A_)(hp:GoodP p)(hs:qS A_ r.sent)(hw:C r.wants<549755813888)(ho:C r.offers<549755813888):
  aU φ 46 [.ref 718 0 0 0,av (dH p)] (VO A_ o r) (λx H'=>x=.tup []/\H'=VO A_ o (wB A_ r p)):=by
 have g:=v.len;have hpre:N p.pre<=16:=by have:=hp.pre;rw[lW,l6,k_]at this;exact this.1
 have hpo:=λq hq H=>gz A_ q H v hq;have hsmP:=λH=>KB p H;have hrl:C (fZ A_ p.pre)<=C A_:=length_filter_le _ _;have hun:=λH=>ez A_ p.pre H X v.srt v.dig X;have L:p.cnt<=16->wB A_ r p=⟨((fZ A_ p.pre).filter λi=>!θ (i∈p.ids)).foldl (lV A_) r.sent,r.wants++(p.ids.filter λi=>!θ (i∈A_)).map (λi=>[i]),r.offers⟩:=λh=>b6 h;have B:¬ p.cnt<=16->wB A_ r p=if p.cnt=(cV A_ p.pre).cnt/\p.sum=(cV A_ p.pre).sum then r else if(cV A_ p.pre).cnt<=16 then⟨r.sent,r.wants,r.offers++[fldW (cV A_ p.pre)]⟩else⟨r.sent,r.wants,r.offers++tP.map λd=>fldW (cV A_ (p.pre++d))⟩:=λh=>a8 h
 have hown:(cV A_ p.pre).cnt<1000000/\C (cV A_ p.pre).ids<=16:=by
  have hg:=nD v.srt v.dig hp.pre g;refine⟨hg.cnt,?_⟩;by_cases hc:(cV A_ p.pre).cnt<=16
  .rw[(hg.sml hc).1];exact hc
  rw[hg.big (by omega)];exact l7 _
 have u:=λH=>KB (cV A_ p.pre) H;have hfl:=λH=>N2 (cV A_ p.pre) H X X;have j:=hpo p.pre X;generalize cV A_ p.pre=W at u hfl j hown B;generalize fZ A_ p.pre=R at hun L hrl;generalize wB A_ r p=d_ at L B |-;have hmR:C (R.map S_)=C R:=g_ _;have hmI:C (p.ids.map S_)=C p.ids:=g_ _;refine Bd func46 Z ntmps46<|Sz (kb 3)<|S<|aM a7<|Cr [718] (λ_ _=>aA)<|Cr [718] (λH1 E=>by exact cL Z Z ((E _ Z).trans Z) Z)<|Cr [718] (λ_ h=>fh UD h)<|Cr [718] (λ_ h=>fh JG h)<|Cr [718] (λ_ h=>lh kH h)<|Cr [3] (λ_ h=>fh N0 h)<|Cr [3] (λ_ h=>lh N_ h)<|x_ (by exact bH Z Z call35 Z (j _))<|Cp [4] (λH1 E=>by exact CN (id:=4) Z Ho Z ((E _ Z).trans Z))<|Cp [4] (λ_ h=>sa eC h)<|bG<|Kr<|aE<|U u3<|Y (kc call82 (hsmP _))<|Y aH ?_;refine Zz<|Cn ?_ ?_<;>intro γ
 .have G:p.cnt<=16:=by have:=b9 γ;omega
  have ⟨q1,q2,q3⟩:=hp.sml G;have hsrt:=jv _ _ q2;rw[L G];clear L B;refine S<|S<|aM a7<|Cq aA<|Cq pA<|Cq (bC UD)<|Cq (bC JG)<|Cq (bQ kH)<|Cq (bC N0)<|Cq (bQ N_)<|Cq (kc call80 (hun _))<|Cq (fM mM)<|Cq aA<|bG<|Kr<|aE<|bF (σ:=Nat) (λk=>([(0,.ref 718 0 0 0),(3,.ref 3 0 0 0),(54,.pv (aK R)),(55,iv (C (R.map S_):Int)),(56,iv (k:Int))],(3,bx 4 70 ((dH p).map .pv))::VO A_ o ⟨((R.take k).filter λi=>!θ (i∈p.ids)).foldl (lV A_) r.sent,r.wants,r.offers⟩)) (λk=>k<=C R) (λk=>C R - k) 0 (l7 _) ?_ ?_
  .exact L_
  intro k hk;have hso:=(qS.fold ((R.take k).filter λi=>!θ (i∈p.ids)) r.sent hs).len;refine Sz cI<|S<|Cn ?_ ?_<;>intro β
  .have J:k<C R:=by have:=b9 β;omega
   have ⟨s,P⟩:=aR J;have hi:=cC (f:=S_) P;have D:=YL (λi=>!θ (i∈p.ids)) P;have κ:=λH=>Pa p.ids s H X hsrt;have ⟨f_,K⟩:∃f_,f_=((R.take k).filter λi=>!θ (i∈p.ids)).foldl (lV A_) r.sent:=X_;rw[<-K]at hso |-;refine aB<|S<|aE<|U (iV R8)<|Y (fS N_ (hi:=hi))<|V aH<|U (bC FT)<|Y (bQ kH)<|Y aA<|Y (kc call92 (κ _))<|V iH<|Cn ?_ ?_<;>intro hc3
   .have z:(!θ (s∈p.ids))=T:=hc3;refine Rd aA<|Y aA<|V (kc call44 (aAN (r:=⟨f_,r.wants,r.offers⟩) hX (show C f_<2^40 by omega) ⟨Z,Z,Z,Z,Z,Z,T_⟩))<|Rd iD<|V aA ?_;refine⟨k+1,X,X,?_⟩;rw[b6 z]at D;dsimp only;rw[D,foldl_append,<-K];exact L_
   have z:(!θ (s∈p.ids))=η:=hc3;refine aB<|Rd iD<|V aA ?_;refine⟨k+1,X,X,?_⟩;rw[a8 (by rw[z];decide),append_nil]at D;dsimp only;rw[D,<-K];exact L_
  have ρ:k=C R:=J_ β
  subst ρ;rw[take_length];have ⟨f_,K⟩:∃f_,f_=(R.filter λi=>!θ (i∈p.ids)).foldl (lV A_) r.sent:=X_;rw[<-K];refine aP<|U (bC FT)<|Y (bQ kH)<|Y (fM mM)<|V aA<|aE<|bF (σ:=Nat) (λk=>([(0,.ref 718 0 0 0),(70,.pv (aK p.ids)),(71,iv (C (p.ids.map S_):Int)),(72,iv (k:Int))],VO A_ o ⟨f_,r.wants++((p.ids.take k).filter λi=>!θ (i∈A_)).map (λi=>[i]),r.offers⟩)) (λk=>k<=C p.ids) (λk=>C p.ids - k) 0 (l7 _) ?_ ?_
  .simp only[take_zero,filter_nil,map_nil,append_nil];exact L_
  intro k hk;have hwl:C (r.wants++((p.ids.take k).filter λi=>!θ (i∈A_)).map (λi=>[i]))<=C r.wants+16:=by
   have:=length_filter_le (λi=>!θ (i∈A_)) (p.ids.take k);rw[j8,g_];rw[m_]at this;omega
  refine Sz cI<|S<|Cn ?_ ?_<;>intro hc4
  .have J:k<C p.ids:=by have:=b9 hc4;omega
   have ⟨s,P⟩:=aR J;have hi:=cC (f:=S_) P;have D:=YL (λi=>!θ (i∈A_)) P;have κ:=λH=>Pa A_ s H X v.srt;have ⟨F,I⟩:∃F,F=r.wants++((p.ids.take k).filter λi=>!θ (i∈A_)).map (λi=>[i]):=X_;rw[<-I]at hwl |-;have w:C (F++[[s]])=C F+1:=by rw[j8];rfl
   have a:C (B3 F)=C F:=g_ _;refine aB<|S<|aE<|U (iV R8)<|Y (fS N_ (hi:=hi))<|V aH<|U aA<|Y pA<|Y (bC UD)<|Y (bC JG)<|Y (bQ kH)<|Y aA<|Y (kc call92 (κ _))<|V iH<|Cn ?_ ?_<;>intro hc5
   ·have z:(!decide (s∈A_))=true:=hc5;refine Rd aA<|Y aA<|Y pA<|Y (bC tg)<|Y (bQ isAgg73)<|Y aA<|Y (by exact aL ([s].map S_) Z aY Z Z Z Z Z (dX _))<|Y (by exact aL ([[s]].map r6) Z HG Z Z Z Z Z (qF _))<|Y (by exact bW (n:=F.length) (k:=F.length+1) (ps:=[[s]].map r6) Z HG aCV Z Z Z Z Z a Z (qF [[s]]) (m:=1) Z X Z (rows':=B3 (F++[[s]])) (by rw[sK,sK,List.map_append,List.map_append]))<|Y pA<|Y (bC tg)<|Uu (by exact cM Z sizeOf73 Z Z Z Z Z Z (by simp only[j6,List.length_nil];omega) (by simp only[Zl,S_,dH];rfl) (by simp only[Zl,S_,dH];rfl))<|Zz<|Rd iD<|V aA ?_;refine⟨k+1,X,X,?_⟩;rw[b6 z]at D;have e:r.wants++((p.ids.take (k+1)).filter λi=>!decide (i∈A_)).map (λi=>[i])=F++[[s]]:=by rw[D,List.map_append,<-List.append_assoc,<-I];rfl
    simp only[VO,rpO,e,w];exact L_
   have z:(!θ (s∈A_))=η:=hc5;refine aB<|Rd iD<|V aA ?_;refine⟨k+1,X,X,?_⟩;rw[a8 (by rw[z];decide),append_nil]at D;dsimp only;rw[D,<-I];exact L_
  have ρ:k=C p.ids:=J_ hc4
  subst ρ;rw[take_length];refine aP ?_;exact pE (.inl Z) Z Fin.refl ⟨Z,Z⟩
 have G:¬ p.cnt<=16:=by have:=b_ γ;omega
 have B:=B G;clear L;have ⟨y_,hY⟩:∃y_,y_=(θ ((p.cnt:Int)=(W.cnt:Int))&&θ (p.sum=W.sum)):=X_;refine S<|aT (t:=96) (n:=14) (A_:=y_) ?_ ?_
 .all_goals refine Y (bC FU)<|Y (bQ M_)<|Y (bC FU)<|Y (bQ M_)<|Y cF<|Dm ?_<;>(refine Sp 102 (λh102=>?_) λh102=>?_)<;>(try exact w_)<;>(first|refine M<|M<|M<|M<|M ?_|refine O (bC UE)<|O (bQ N_)<|O (bC UE)<|O (bQ N_)<|O wU ?_)<;>refine Y cD<|Da ?_<;>exact Gj (h:=by rw[hY];(rw[h102];rfl))
 refine Cn ?_ ?_<;>intro hc6
 .have hYt:=hY.symm.trans hc6;rw[l6,k_,k_]at hYt;rw[b6 ⟨X,hYt.2⟩]at B;rw[B];refine aB ?_;exact pE (H':=VO A_ o r) (.inl Z) Z P_ ⟨Z,Z⟩
 have δ:=hY.symm.trans hc6;rw[a8 (λh=>by rw[decide_eq_true (by omega:(p.cnt:Int)=(W.cnt:Int)),decide_eq_true h.2]at δ;cases δ)]at B;refine U u3<|Y (kc call82 (u _))<|Da ?_;refine Cn ?_ ?_<;>intro hc7
 .have τ:W.cnt<=16:=I_ hc7
  rw[b6 τ]at B;rw[B];have a:C (B3 r.offers)=C r.offers:=g_ _;have hol:C (r.offers++[fldW W])=C r.offers+1:=by rw[j8];rfl
  refine aM a7<|Cr [718] (λ_ _=>aA)<|Cr [718] (λ_ _=>aA)<|Cr [718] (λH1 E=>by exact cL Z Z ((E _ Z).trans Z) Z)<|Cr [718] (λ_ h=>fh UC h)<|Cr [718] (λ_ h=>lh isAgg73 h)<|Cr [4] (λH1 E=>by exact aW Z iQ eC Z ((E _ Z).trans Z) Z Z m4 Z)<|x_ (by exact bH Z Z call36 Z (hfl _))<|x_ (by exact aL ([fldW W].map r6) Z HG Z Z Z Z Z (qF _))<|Cp [723] (λH1 E=>by exact bW (n:=C r.offers) (k:=C r.offers+1) (ps:=[fldW W].map r6) Z HG aCV Z ((E _ Z).trans Z) Z Z Z a Z (qF [fldW W]) (m:=1) Z X Z (rows':=B3 (r.offers++[fldW W])) (by rw[sK,sK,map_append,map_append])) ?_;refine Cr [718] (λH1 E=>by exact cL Z Z ((E _ Z).trans Z) Z)<|Cr [718] (λ_ h=>fh UC h)<|Cp [718] (λH1 E=>by exact cM Z sizeOf73 Z Z Z ((E _ Z).trans Z) Z Z y0 m4 m4)<|bG<|Kr ?_;refine pE (H':=VO A_ o ⟨r.sent,r.wants,r.offers++[fldW W]⟩) (.inl Z) Z ?_ ⟨Z,Z⟩;simp only[VO,rpO,hol];exact P_
 have τ:¬ W.cnt<=16:=J_ hc7
 rw[a8 τ]at B;rw[B];refine Sz (qq (q:=19) Z U_ Z Z)<|aE<|bF (σ:=Nat) (λk=>([(0,.ref 718 0 0 0),(3,.ref 3 0 0 0),(19,.it 19 0)],(19,⟨0,0,0,RY Ap k⟩)::(3,bx 4 70 ((dH p).map .pv))::VO A_ o ⟨r.sent,r.wants,r.offers++(tP.take k).map λd=>fldW (cV A_ (p.pre++d))⟩)) (λk=>k<=16) (λk=>16 - k) 0 (l7 _) ?_ ?_
 .simp only[take_zero,map_nil,append_nil];exact L_
 intro k hk;by_cases J:k<16
 .have ⟨c,d,d1,d2,d3,d4⟩:=aE7 k J;have D:(tP.take (k+1)).map (λd=>fldW (cV A_ (p.pre++d)))=(tP.take k).map (λd=>fldW (cV A_ (p.pre++d)))++[fldW (cV A_ (p.pre++d))]:=by rw[eP d2,map_append];rfl
  have y:C (r.offers++(tP.take k).map λd=>fldW (cV A_ (p.pre++d)))<=C r.offers+16:=by rw[j8,g_,m_];omega
  have hsz:N (p.pre++d)<2^40:=by rw[ByteArray.size_append];omega
  have l:=hpo (p.pre++d) hsz;have hcn:(cV A_ (p.pre++d)).cnt<1000000:=Nat.lt_of_le_of_lt (length_filter_le _ _) g;have hid:C (cV A_ (p.pre++d)).ids<=16:=by
   show C (if C (fZ A_ (p.pre++d))<=16 then fZ A_ (p.pre++d)else[])<=16
   split
   .assumption
   exact l7 _
  have b:=λH=>N2 (cV A_ (p.pre++d)) H X X;generalize cV A_ (p.pre++d)=Q at l b D;have ⟨F,I⟩:∃F,F=r.offers++(tP.take k).map λd=>fldW (cV A_ (p.pre++d)):=X_;rw[<-I]at y |-;have w:C (F++[fldW Q])=C F+1:=by rw[j8];rfl
  have a:C (B3 F)=C F:=g_ _;refine U (Dh Z Z Z Z Z (show k<N Ap from J) d1)<|V dO<|S<|Cn ?_ ?_<;>intro hc8
  .refine aB<|aE<|U dO<|V aH<|aM a7<|Cr [718] (λ_ _=>aA)<|Cr [718] (λ_ _=>aA)<|Cr [718] (λH1 E=>by exact cL Z Z ((E _ Z).trans Z) Z)<|Cr [718] (λ_ h=>fh UC h)<|Cr [718] (λ_ h=>lh isAgg73 h)<|Cr [718] (λ_ _=>aA)<|Cr [718] (λH1 E=>by exact cL Z Z ((E _ Z).trans Z) Z)<|Cr [718] (λ_ h=>fh UD h)<|Cr [718] (λ_ h=>fh JG h)<|Cr [718] (λ_ h=>lh kH h)<|Cr [3] (λ_ h=>fh N0 h)<|Cr [3] (λ_ h=>lh N_ h)<|x_ aA<|x_ (by exact cP.eqv (az Z underlying21 U_ Z) (by rw[d3]))<|x_ (by exact fJ Z Z Z X (r:=p.pre++d) Z)<|x_ (by exact bH Z Z call35 Z (l _))<|x_ (by exact bH Z Z call36 Z (b _)) ?_;refine x_ (by exact aL ([fldW Q].map r6) Z HG Z Z Z Z Z (qF _))<|Cp [723] (λH1 E=>by exact bW (n:=C F) (k:=C F+1) (ps:=[fldW Q].map r6) Z HG aCV Z ((E _ Z).trans Z) Z Z Z a Z (qF [fldW Q]) (m:=1) Z X Z (rows':=B3 (F++[fldW Q])) (by rw[sK,sK,map_append,map_append]))<|Cr [718] (λH1 E=>by exact cL Z Z ((E _ Z).trans Z) Z)<|Cr [718] (λ_ h=>fh UC h)<|Cp [718] (λH1 E=>by exact cM Z sizeOf73 Z Z Z ((E _ Z).trans Z) Z Z y0 m4 m4)<|bG<|Kr ?_;refine⟨k+1,X,X,?_⟩;have e:r.offers++(tP.take (k+1)).map (λd=>fldW (cV A_ (p.pre++d)))=F++[fldW Q]:=by rw[D,<-append_assoc,<-I]
   simp only[VO,rpO,e,w];exact L_
  cases hc8
 obtain rfl:k=16:=by omega
 refine U (VS Z Z Z Z Z (h_ 16))<|V dO<|S<|Cn ?_ ?_<;>intro hc9
 .cases hc9
 refine aP ?_;exact pE (H':=VO A_ o ⟨r.sent,r.wants,r.offers++tP.map λd=>fldW (cV A_ (p.pre++d))⟩) (.inl Z) Z P_ ⟨Z,Z⟩
theorem Py(E:∀i,i∈o.map Prod.fst↔i∈A_)(D:IdS A_)(G:GoodP p)(I:qS A_ r.sent)(J:C r.wants<549755813888)(F:C r.offers<549755813888)(B:EX H (VO A_ o r)):
  aU φ 46 [.ref 718 0 0 0,av (dH p)] H (λx H'=>x=.tup []/\H'=VO A_ o (wB A_ r p)++H) :=
 aU.frame (uc A_ o r p E D G I J F) (EX.sub B) (dN.ofL ⟨(by(simp;exact⟨Z,Z,Z,Z,Z⟩)),(dW _),(dW _),(aN _ _),m5,m5,T_⟩) (by simp[dH];rfl) (λid h=>.inl (aAX h))
theorem gx(u4:List (List B_)->B_):∀(n m:Nat) (l:List (List B_)),C l<=n->C l<=m->XJ u4 n l=XJ u4 m l
 |0,m,l,h,_=>by
  rw[List.length_eq_zero_iff.1 (Nat.le_zero.1 h)];cases m<;>simp[XJ]
 |n+1,0,l,_,h=>by
  rw[List.length_eq_zero_iff.1 (Nat.le_zero.1 h)];simp[XJ]
 |n+1,m+1,l,h1,h2=>by
  rw[XJ,XJ]
  split
  .rfl
  next B =>
  have D:=length_pos_iff.2 B;have:=SY u4 l (C l) 1;rw[gx u4 n m _ u6 u6]
theorem Lx(u4:List (List B_)->B_){l:List (List B_)}(B:l≠[])(F:SZ u4 l (C l) 1=n):XJ u4 (C l) l=u4 (l.take n)::XJ u4 (C (l.drop n)) (l.drop n):=by
 have G:=length_pos_iff.2 B;have ⟨k,E⟩:∃k,C l=k+1:=⟨C l - 1,X⟩;have D:=SY u4 l (C l) 1
 conv=>lhs;rw[E,XJ,a8 B]
 rw[F]at D |-;rw[gx u4 k _ _ u6 (h_ _)]
theorem ik(f:FuncId)(u4:List (List B_)->B_)(l:List (List B_))(q:C l<1000000000)(o:∀i n H,dQ φ (.pv (.fn f)) [.pv (tE ((l.drop i).take n))] H (λr H'=>r=sv (u4 ((l.drop i).take n))/\H'=H))(H:aF):
  RC 48 [.pv (tE l),.pv (.fn f)] (.pv (aK (OL u4 l))) H:=by
 refine Pu<|Bd func48 Z ntmps48<|Sz aH<|Sz (dZ (id:=905) (sz:=1) (ty:=9) Z Z Z)<|S<|aE<|eZ (λ(i:Nat) (D:List B_)=>([(0,.pv (tE (l.drop i))),(1,.pv (.fn f)),(5,.osl 905 (C D) 0 (C D))],[(905,⟨C D,1,9,bZ D⟩)])) (λi D=>i<=C l/\C D<=i/\OL u4 l=D++XJ u4 (C (l.drop i)) (l.drop i)) (λi D=>C l - i) 0 [] ⟨l7 _,h_ _,by rw[drop_zero,nil_append];rfl⟩ ?_ ?_
 .exact L_
 rintro i D ⟨hi,hA,hpk⟩;have d:C (l.drop i)=C l - i:=p_;have G:=λn H=>o i n H;have F:∀n,(l.drop i).drop n=l.drop (i+n):=λn=>by rw[drop_drop]
 generalize l.drop i=r at d G hpk F |-;have p:C (r.map r6)=C r:=g_ _;have Q:∀n,((r.map r6).take n).drop 0=(r.take n).map r6:=λn=>by rw[drop_zero,map_take]
 refine S<|U aA<|Y (fM uC)<|V iX<|Cn ?_ ?_<;>intro J
 .have hpos:0<C r:=I_ J
  have b:r≠[]:=λe=>by rw[e]at hpos;exact absurd hpos E_
  refine aB<|aE<|Sz aH<|S<|aE<|bF (σ:=Nat) (λn=>([(0,.pv (tE r)),(1,.pv (.fn f)),(5,.osl 905 (C D) 0 (C D)),(6,iv (n:Int))],[(905,⟨C D,1,9,bZ D⟩)])) (λn=>1<=n/\n<=C r/\SZ u4 r (C r) 1=SZ u4 r (C r+1 - n) n) (λn=>C r - n) 1 ⟨h_ _,hpos,by rw[Nat.add_sub_cancel]⟩ ?_ ?_
  .exact L_
  rintro n ⟨h1,h2,h3⟩;have E:SZ u4 r (C r+1 - n) n=if n<C r/\N (u4 (r.take (n+1)))<=18000 then SZ u4 r (C r+1 - (n+1)) (n+1)else n:=by
   rw[show C r+1 - n=(C r+1 - (n+1))+1 by omega,SZ]
  rw[E]at h3;clear E;have ⟨B,W⟩:∃B,B=(θ ((n:Int)<(C (r.map r6):Int))&&θ ((N (u4 (r.take (n+1))):Int)<=18000)):=X_;have a:=λH=>G (n+1) H;refine S<|S<|aT (t:=23) (n:=15) (A_:=B) ?_ ?_
  .all_goals refine Y aA<|Y aA<|Y (fM uC)<|Y cI<|Dm ?_<;>(refine Sp 14 (λR=>?_) λR=>?_)<;>(first|exact s_|refine M<|M<|M<|M<|M<|M<|M<|M ?_|refine O aA<|O aA<|O aA<|O kp<|O (eM (l:=0) (h:=n+1) Z HG Z (qF r) Z Z (l7 _) (I_ R) (Q (n+1)))<|O (dK Z Z Z (a _))<|O (gL U_)<|O H7 ?_)<;>refine V cD ?_<;>exact Gj (h:=by rw[W];(rw[R];rfl))
  refine Cn ?_ ?_<;>intro K
  .have hBt:=W.symm.trans K;rw[l6,k_,k_]at hBt;rw[b6 ⟨X,X⟩]at h3;refine aB<|aE<|Rd aA<|Y kp<|Da ?_;exact⟨n+1,⟨X,X,h3⟩,X,L_⟩
  have I:=W.symm.trans K;rw[a8 (λh=>by rw[decide_eq_true (by omega:(n:Int)<(C (r.map r6):Int)),decide_eq_true (by omega:(N (u4 (r.take (n+1))):Int)<=18000)]at I;cases I)]at h3;have c:=Lx u4 b h3;have P:C (D++[u4 (r.take n)])=C D+1:=by rw[j8];rfl
  have L:=λH=>G n H;refine aP<|aM a7<|Cr [905] (λ_ _=>aA)<|x_ aA<|x_ aA<|x_ aA<|x_ (by exact eM (l:=0) (h:=n) Z HG Z (qF r) Z Z (l7 _) X (Q n))<|x_ (by exact dK Z Z Z (L _))<|x_ (by exact aL [[.str (u4 (r.take n))]] Z aY Z Z Z Z Z R_)<|Cp [905] (λH1 j=>by exact bW (k:=C D+1) (ps:=[[.str (u4 (r.take n))]]) Z aY sW Z ((j _ Z).trans Z) Z Z Z (dI _) Z R_ (m:=1) Z X Z (gT _ (u4 (r.take n))))<|x_ aA<|x_ aA<|x_ (by exact eM (l:=n) (h:=C (r.map r6)) Z HG Z (qF r) Z Z X (h_ _) (show ((r.map r6).take _).drop n=(l.drop (i+n)).map r6 by rw[take_length,<-F,map_drop])) ?_;refine Cr [905] (λ_ _=>aH)<|x_ aH<|bG<|Kr ?_;refine⟨i+n,D++[u4 (r.take n)],⟨X,by rw[P];omega,?_⟩,X,?_⟩
  .rw[hpk,c,F,append_assoc];rfl
  dsimp only;rw[P];exact L_
 have g:r=[]:=length_eq_zero_iff.1 (J_ J);rw[hpk,g];refine aP<|U aA<|V aH<|aC ?_;refine cT (H':=[]) (.inr Z) Z (aI Z) (Fin.slice0 (id:=905) ((D++[]).map S_) Z Z (by rw[append_nil];exact(dA D)) (by rw[append_nil,g_])) ?_;exact Qq
theorem SQ:∀(n:Nat) (l:List B_) (P:List j0),VJ n l=A P->C P<=C l/\∀p∈P,GoodP p
 |n,[],P,h=>by
  rw[QC]at h;cases h;exact⟨h_ _,λp B=>by cases B⟩
 |0,a::l,P,h=>by simp[VJ]at h
 |n+1,[a],P,h=>by cases h
 |n+1,[a,b],P,h=>by cases h
 | n + 1, a :: b :: c :: r, P, h => by
  rw[VJ]at h;have J:=GW b
  split at h
  .next hc =>
   rw[l6,l6,k_]at hc
   split at h
   .next D =>
    split at h
    .next hg =>
     obtain ⟨Q,E,rfl⟩:=Option.map_eq_some_iff.1 h;have ⟨I,H⟩:=SQ n _ Q E;rw[p_]at I;refine⟨by simp only[j6];omega,λp B=>?_⟩;rcases l9.1 B with rfl|B
     .refine⟨hc.1.1,by show (eQ b).toNat<_;omega,hc.2,λ_=>⟨?_,hg.2.1,hg.2.2⟩,λF=>?_⟩
      .show C (r.take (eQ b).toNat)=(eQ b).toNat;rw[m_];omega
      have F:16<(eQ b).toNat:=F;omega
     exact H p B
    cases h
   next D =>
   obtain ⟨Q,E,rfl⟩:=Option.map_eq_some_iff.1 h;have ⟨I,H⟩:=SQ n _ Q E;refine⟨by simp only[j6];omega,λp B=>?_⟩;rcases l9.1 B with rfl|B
   .refine⟨hc.1.1,by show (eQ b).toNat<_;omega,hc.2,λG=>?_,λ_=>rfl⟩;have G:(eQ b).toNat<=16:=G;omega
   exact H p B
  cases h
theorem Dn(t:B_):C (uS t)<=N t/\∀p∈uS t,GoodP p:=by
 rw[uS]
 split
 .next o n r hz =>
  have D:=(xD _ _ _ (h_ _) hz).1;rw[aS]at D;simp only[j6]at D
  split
  .split
   .next P hP =>
    have ⟨F,E⟩:=SQ _ _ P hP
    split
    .exact⟨X,E⟩
    exact⟨l7 _,λp B=>by cases B⟩
   exact⟨l7 _,λp B=>by cases B⟩
  exact⟨l7 _,λp B=>by cases B⟩
 exact⟨l7 _,λp B=>by cases B⟩
theorem Ii(t:B_):C (AN t)<=N t:=by
 rw[AN]
 split
 .next o i r hz =>
  have B:=(xD _ _ _ (h_ _) hz).1;rw[aS]at B;simp only[j6]at B
  split
  .rw[j6];omega
  exact l7 _
 exact l7 _
structure RepOk(A_:List B_)(n:Nat)(r:GRep):Prop where
 sent:qS A_ r.sent
 wl:C r.wants<=16*n
 ol:C r.offers<=16*n
 ws:∀w∈r.wants,C w<=19/\∀s∈w,N s<=24
 os:∀w∈r.offers,C w<=19/\∀s∈w,N s<=24
theorem zk(D:IdS A_){q:B_}(E:N q<=17):C (fldW (cV A_ q))<=19/\∀s∈fldW (cV A_ q),N s<=24:=by
 have hi:C (cV A_ q).ids<=16/\∀s∈(cV A_ q).ids,N s<=24:=by
  show C (if C (fZ A_ q)<=16 then fZ A_ q else[])<=16/\∀s∈(if C (fZ A_ q)<=16 then fZ A_ q else[]),N s<=24
  split
  .exact⟨by assumption,λs B=>by rw[iJ (D.dig s (kQ.1 B).1)];decide⟩
  exact⟨l7 _,λs B=>by cases B⟩
 have F:C (fZ A_ q)<1000000:=Nat.lt_of_le_of_lt (length_filter_le _ _) D.len;refine⟨?_,λs B=>?_⟩
 .rw[fldW,j8];simp only[j6,length_nil];omega
 rw[fldW,mem_append]at B;rcases B with B|B
 .simp only[l9,q8,or_false]at B;rcases B with rfl|rfl|rfl
  .exact Nat.le_trans E E_
  .show N (aV (C (fZ A_ q):Int))<=24;exact Nat.le_trans (nY X X) E_
  show N (F1 ⟨(aO (fZ A_ q)).toArray⟩)<=24;rw[iJ (DJ _)];decide
 exact hi.2 s B
theorem RepOk.step(I:IdS A_)(h:RepOk A_ n r)(J:GoodP p):RepOk A_ (n+1) (wB A_ r p):=by
 have K:N p.pre<=16:=by have:=J.pre;rw[lW,l6,k_]at this;exact this.1
 have ⟨D,G,H,E,F⟩:=h;rw[wB]
 split
 .next hc =>
  have ⟨R,Q,_⟩:=J.sml hc;refine⟨D.fold _ _,?_,Nat.le_trans H X,λw B=>?_,F⟩
  .have:=length_filter_le (λi=>!θ (i∈A_)) p.ids;rw[j8,g_];omega
  rcases mem_append.1 B with B|B
  .exact E w B
  obtain ⟨i,hi,rfl⟩:=mem_map.1 B;rw[mem_filter]at hi;refine⟨(by decide:1<=19),λs L=>?_⟩;rw[q9]at L;rw[L,iJ (LP Q i hi.1).1];decide
 split
 .exact⟨D,Nat.le_trans G X,Nat.le_trans H X,E,F⟩
 split
 .refine⟨D,Nat.le_trans G X,by rw[j8];simp only[j6,length_nil];omega,E,λw B=>?_⟩;rcases mem_append.1 B with B|B
  .exact F w B
  rw[q9]at B;subst B;exact zk I X
 refine⟨D,Nat.le_trans G X,by rw[j8,g_,show C tP=16 from rfl];omega,E,λw B=>?_⟩;rcases mem_append.1 B with B|B
 .exact F w B
 obtain ⟨d,P,rfl⟩:=mem_map.1 B;have:=(G9 d P).1;exact zk I (by rw[ByteArray.size_append];omega)
theorem kz:∀(L:List (List B_)),(∀w∈L,C w<=19/\∀s∈w,N s<=24)->C L.flatten<=19*C L/\∀s∈L.flatten,N s<=24
 | [],_=>⟨h_ _,λs B=>by cases B⟩
 |w::L,h=>by
  obtain ⟨H,F⟩:=kz L λw E=>h w (mem_cons_of_mem _ E);have ⟨G,D⟩:=h w mem_cons_self;rw[flatten_cons,j8,j6];refine⟨X,λs B=>?_⟩;rcases mem_append.1 B with B|B
  .exact D s B
  exact F s B
theorem UH(F:C L<=1000000)(h:∀w∈L,C w<=19/\∀s∈w,N s<=24):C L.flatten<549755813888/\C (aO (fA::aV (C L:Int)::L.flatten))<35184372088832/\C (aO (pP::L.flatten))<35184372088832:=by
 have ⟨E,D⟩:=kz L h;have hi:N (aV (C L:Int))<=1000000:=Nat.le_trans (nY X X) E_;refine⟨X,?_,?_⟩
 .refine Nat.lt_of_le_of_lt (DI _ λs B=>?_) (by rw[j6,j6];omega);rcases l9.1 B with rfl|B
  .decide
  rcases l9.1 B with rfl|B
  .exact hi
  have:=D s B;omega
 refine Nat.lt_of_le_of_lt (DI _ λs B=>?_) (by rw[j6];omega);rcases l9.1 B with rfl|B
 .decide
 have:=D s B;omega
theorem kv(h:∀w∈L,C w<=19/\∀s∈w,N s<=24)(i n:Nat):∀w∈(L.drop i).take n,C w<=19/\∀s∈w,N s<=24:=λw B=>h w (mem_of_mem_drop (mem_of_mem_take B))
theorem Wa(l:List (List B_))(F:C l<=1000000)(h:∀w∈l,C w<=19/\∀s∈w,N s<=24)(H:aF):RC 48 [.pv (tE l),.pv (.fn 49)] (.pv (aK (OL iW l))) H :=ik 49 iW l X (λi n H=>by
  have G:C ((l.drop i).take n)<=C l:=by rw[m_,p_];omega
  have ⟨B,E,D⟩:=UH (L:=(l.drop i).take n) X (kv h i n);exact dQ.fn call49 (aAk _ H X B D)) H
theorem Wb(l:List (List B_))(F:C l<=1000000)(h:∀w∈l,C w<=19/\∀s∈w,N s<=24)(H:aF):RC 48 [.pv (tE l),.pv (.fn 34)] (.pv (aK (OL mI l))) H :=ik 34 mI l X (λi n H=>by
  have G:C ((l.drop i).take n)<=C l:=by rw[m_,p_];omega
  have ⟨B,D,E⟩:=UH (L:=(l.drop i).take n) X (kv h i n);exact dQ.fn call34 (xy _ H X B D)) H
theorem xo(u4:List (List B_)->B_)(l:List (List B_)):C (OL u4 l)<=C l:=by
 have h:∀(f:Nat) (l:List (List B_)),C (XJ u4 f l)<=C l:=by
  intro f
  induction f with
  |zero=>exact λl=>l7 _
  |succ f E =>
   intro l;rw[XJ]
   split
   .exact l7 _
   next D =>
   have G:=length_pos_iff.2 D;have F:=SY u4 l (C l) 1;have B:=E (l.drop (SZ u4 l (C l) 1));rw[p_]at B;rw[j6];omega
 exact h _ l
theorem RP(L:List (List B_)):((L.map r6).take (0+C L)).drop 0=L.map r6:=fR r6 L
theorem om(o:List (B_×B_))(f_:List B_):(((f_.map (jH o)).map S_).take (0+C f_)).drop 0=(f_.map (jH o)).map S_:=by
 have:=fR S_ (f_.map (jH o))
 rwa [g_]at this
theorem U3(L:List B_)(t:B_)(H:aF)(hl:C L<1000000)(hs:∀t∈L,N t<1000000000):
  RC 14 [.pv (aK L),sv t] (.tup [.pv (aK (if 20000<N t then[]else gR L t)),iv (if 20000<N t then 2 else 0)]) H:=by
 refine Pu ?_;have v:=DL hl;have w:∀i,i∈(jM L).map Prod.fst↔i∈cR L:=λi=>(pL _).mem_iff.symm;have b:=Nj L hl hs (H:=[]) Z;have W:=Dn t;have κ:=Ii t;have E:gR L t=([((AR (cR L) t).sent.map (jH (jM L))),OL iW (AR (cR L) t).wants,OL mI (AR (cR L) t).offers]:List (List B_)).flatten:=by rw[gR];simp
 have B:AR (cR L) t=(uS t).foldl (wB (cR L)) ⟨(AN t).foldl (lV (cR L)) [],[],[]⟩:=rfl;have Q:=λh H=>Ig t H h;have I:=λh H=>Dl t H h;generalize uS t=P at W B I;generalize AN t=D at κ B Q;generalize cR L=A_ at v w b E B;generalize jM L=o at w b E;have δ:=v.len;have β:C (D.map S_)=C D:=g_ _;have γ:C (P.map dH)=C P:=g_ _;have R:qS A_ []:=⟨nodup_nil,λi hi=>by cases hi⟩;refine Bd func14 Z ntmps14<|U aH<|V aH<|S<|U aA<|Y (gL U_)<|V iX<|Cn ?_ ?_<;>intro g
 .have hbig:20000<N t:=I_ g
  rw[b6 hbig,b6 hbig];refine U aH<|V aH<|aC<|gD (H':=[]) (.inr Z) Z (aI Z) (aI Z) (P_ (r:=.tup [.pv (aK []),iv 2])) Qq
 have u:¬ 20000<N t:=J_ g
 rw[a8 u,a8 u];have Q:=λH=>Q X H;have I:=λH=>I X H;refine aB<|U aA<|Y (kc call42 (b))<|Y (vU (id:=720) J7 Z Z)<|Y (oD aEg)<|Y (kb 718)<|V aH<|S<|S ?_;refine fW.ent (E':=[(1,sv t),(6,.ref 718 0 0 0)]) (H':=(721,⟨0,1,9,[]⟩)::(718,bx 6 84 [.pv (aK A_),.mp 710 0,.osl 721 0 0 0,.mp 720 0,.pv .nils,.pv .nils])::(720,VK [])::(710,VK (tM o))::[]) ?_ ?_
 .exact (Q_ 721 1 9)
 refine fW.ent (E':=[(1,sv t),(6,.ref 718 0 0 0)]) (H':=(722,⟨0,1,22,[]⟩)::(721,⟨0,1,9,[]⟩)::(718,bx 6 84 [.pv (aK A_),.mp 710 0,.osl 721 0 0 0,.mp 720 0,.osl 722 0 0 0,.pv .nils])::(720,VK [])::(710,VK (tM o))::[]) ?_ ?_
 .exact (Q_ 722 1 22)
 refine fW.ent (E':=[(1,sv t),(6,.ref 718 0 0 0)]) (H':=(723,⟨0,1,22,[]⟩)::(722,⟨0,1,22,[]⟩)::(721,⟨0,1,9,[]⟩)::(718,bx 6 84 [.pv (aK A_),.mp 710 0,.osl 721 0 0 0,.mp 720 0,.osl 722 0 0 0,.osl 723 0 0 0])::(720,VK [])::(710,VK (tM o))::[]) ?_ ?_
 .exact (Q_ 723 1 22)
 refine Rd aA<|Y (kc call43 (Q _))<|Y (fM aD)<|V aA<|aE<|bF (σ:=Nat) (λk=>([(1,sv t),(6,.ref 718 0 0 0),(20,.pv (aK D)),(21,iv (C (D.map S_):Int)),(22,iv (k:Int))],VO A_ o ⟨(D.take k).foldl (lV A_) [],[],[]⟩)) (λk=>k<=C D) (λk=>C D - k) 0 (l7 _) ?_ ?_
 .exact L_
 intro k hk;have K:=(qS.fold (D.take k) [] R).len;refine Sz cI<|S<|Cn ?_ ?_<;>intro j
 .have hlt:k<C D:=I_ j
  have ⟨s,F⟩:=aR hlt;have hi:=cC (f:=S_) F;have G:(D.take (k+1)).foldl (lV A_) []=lV A_ ((D.take k).foldl (lV A_) []) s:=by rw[eP F,foldl_append];rfl
  generalize (D.take k).foldl (lV A_) []=f_ at K G |-;refine aB<|S<|aE<|U (iV aY)<|Y (fS N_ (hi:=hi))<|V aH<|Rd aA<|Y aA<|V (kc call44 (aAN (r:=⟨f_,[],[]⟩) w (show C f_<2^40 by omega) ⟨Z,Z,Z,Z,Z,Z,T_⟩))<|Rd iD<|V aA ?_;refine⟨k+1,X,X,?_⟩;dsimp only;rw[G];exact L_
 have a:k=C D:=J_ j
 subst a;rw[take_length];have K:=qS.fold D [] R;have ⟨c,e⟩:∃f_,f_=D.foldl (lV A_) []:=X_;rw[<-e]at K B |-;clear e;refine aP<|S<|U aA<|Y (kc call45 (I _))<|Y (fM underlying86)<|V aA<|aE<|bF (σ:=Nat) (λk=>([(6,.ref 718 0 0 0),(31,.pv (CZ P)),(32,iv (C (P.map dH):Int)),(33,iv (k:Int))],VO A_ o ((P.take k).foldl (wB A_) ⟨c,[],[]⟩))) (λk=>k<=C P/\RepOk A_ k ((P.take k).foldl (wB A_) ⟨c,[],[]⟩)) (λk=>C P - k) 0 ⟨l7 _,⟨K,h_ _,h_ _,(λw hw=>by cases hw),(λw hw=>by cases hw)⟩⟩ ?_ ?_
 .exact L_
 rintro k ⟨hk,hR⟩;refine Sz cI<|S<|Cn ?_ ?_<;>intro l
 .have hlt:k<C P:=I_ l
  have ⟨p,F⟩:=aR hlt;have hi:=cC (f:=dH) F;have m:=W.2 p (m7 F);have G:(P.take (k+1)).foldl (wB A_) ⟨c,[],[]⟩=wB A_ ((P.take k).foldl (wB A_) ⟨c,[],[]⟩) p:=by rw[eP F,foldl_append];rfl
  have d:=hR.step v m;have ⟨J,n,q,_,_⟩:=hR;generalize (P.take k).foldl (wB A_) ⟨c,[],[]⟩=r at J n q d G |-;refine aB<|S<|aE<|U (iV aBA)<|Y (by exact fF Z iQ eC Z hi m4 Z)<|Y (kl 10 Ho)<|Uu (jG eC)<|Zz<|Rd aA<|Y u3<|V (kc call46 (Py (r:=r) w v m J X X ⟨Z,Z,Z,Z,Z,Z,T_⟩))<|Rd iD<|V aA ?_;refine⟨k+1,⟨X,by rw[G];exact d⟩,X,?_⟩;dsimp only;rw[G];exact L_
 have a:k=C P:=J_ l
 subst a;rw[take_length]at hR |-;rw[<-B]at hR |-;rw[E];clear E B;generalize AR A_ t=r at hR |-;have ⟨J,n,q,τ,ρ⟩:=hR;have hrs:=J.len;have z:=λH=>Wa r.wants X τ H;have y:=λH=>Wb r.offers X ρ H;have hw1:=xo iW r.wants;have ho1:=xo mI r.offers;have x:=λH=>lD [r.sent.map (jH o),OL iW r.wants,OL mI r.offers] H (by decide:3<2^40) (by simp only[flatten_cons,flatten_nil,j8,length_nil,g_];omega);refine aP<|S ?_;refine fW.ent (cH.fzG (id:=721) (E':=[(6,.ref 718 0 0 0)]) (H':=[(718,bx 6 84 [.pv (aK A_),.mp 710 0,.pv (aK (r.sent.map (jH o))),.mp 720 0,.osl 722 (C r.wants) 0 (C r.wants),.osl 723 (C r.offers) 0 (C r.offers)]),(710,VK (tM o)),(720,VK (sM r.sent)),(722,⟨C r.wants,1,22,B3 r.wants⟩),(723,⟨C r.offers,1,22,B3 r.offers⟩)]) ((r.sent.map (jH o)).map S_) Z (dA _) ?_ Z ?_ ?_) ?_
 .intro p hp;simp only[l9,q8,or_false]at hp;rcases hp with rfl;exact⟨_,Z,.same m3⟩
 .exact⟨⟨_,Z,Z,Z,Z,jO Z (bA (.same H_) (bA (.same m3) (bA (.osl (om o r.sent)) (bA (.same m3) (bA (.same m3) (bA (.same m3) jA))))))⟩,⟨_,Z,Z,Z,Z,dC (dW _)⟩,⟨_,Z,Z,Z,Z,dC (dW _)⟩,⟨_,Z,Z,Z,Z,dC (uT _)⟩,⟨_,Z,Z,Z,Z,dC (uT _)⟩,T_⟩
 .exact T_
 refine fW.ent (cH.fzG (id:=722) (E':=[(6,.ref 718 0 0 0)]) (H':=[(718,bx 6 84 [.pv (aK A_),.mp 710 0,.pv (aK (r.sent.map (jH o))),.mp 720 0,.pv (tE r.wants),.osl 723 (C r.offers) 0 (C r.offers)]),(710,VK (tM o)),(720,VK (sM r.sent)),(723,⟨C r.offers,1,22,B3 r.offers⟩)]) (r.wants.map r6) Z (sK _) ?_ Z ?_ ?_) ?_
 .intro p hp;simp only[l9,q8,or_false]at hp;rcases hp with rfl;exact⟨_,Z,.same m3⟩
 .exact⟨⟨_,Z,Z,Z,Z,jO Z (bA (.same H_) (bA (.same m3) (bA (.same H_) (bA (.same m3) (bA (.osl (RP r.wants)) (bA (.same m3) jA))))))⟩,⟨_,Z,Z,Z,Z,dC (dW _)⟩,⟨_,Z,Z,Z,Z,dC (dW _)⟩,⟨_,Z,Z,Z,Z,dC (uT _)⟩,T_⟩
 .exact T_
 refine fW.ent (cH.fzG (id:=723) (E':=[(6,.ref 718 0 0 0)]) (H':=[(718,bx 6 84 [.pv (aK A_),.mp 710 0,.pv (aK (r.sent.map (jH o))),.mp 720 0,.pv (tE r.wants),.pv (tE r.offers)]),(710,VK (tM o)),(720,VK (sM r.sent))]) (r.offers.map r6) Z (sK _) ?_ Z ?_ ?_) ?_
 .intro p hp;simp only[l9,q8,or_false]at hp;rcases hp with rfl;exact⟨_,Z,.same m3⟩
 .exact⟨⟨_,Z,Z,Z,Z,jO Z (bA (.same H_) (bA (.same m3) (bA (.same H_) (bA (.same m3) (bA (.same H_) (bA (.osl (RP r.offers)) jA))))))⟩,⟨_,Z,Z,Z,Z,dC (dW _)⟩,⟨_,Z,Z,Z,Z,dC (dW _)⟩,T_⟩
 .exact T_
 exact aM a7<|Cq aA<|Cq pA<|Cq (bC th)<|Cq (bQ aG)<|Cq aA<|Cq pA<|Cq (bC tg)<|Cq (bQ isAgg73)<|Cq (kc call48 (z _))<|Cq aA<|Cq pA<|Cq (bC UC)<|Cq (bQ isAgg73)<|Cq (kc call48 (y _))<|Cq (aL ([r.sent.map (jH o),OL iW r.wants,OL mI r.offers].map r6) Z HG Z Z Z Z Z (qF _))<|Cq (kc call47 (x _))<|Cq aH<|Cq aH<|bG<|Kr<|aC<|Ru<|Qq
end Go.Proofs.C
namespace Go.Proofs.C
open Go.Proofs.Tryz
open Go.Abs
variable{F:FuncId}{caps:List AV}{PR:List B_->Prop}
def An(F:FuncId)(caps:List AV)(PR:List B_->Prop)(K:aF):Prop :=∀(E:AV) (D:List B_->aF),(∀B,Sub K (D B))->(∀B,(D B).get 946=ζ)->(∀B,dN (D B))->(∀B,Clo (D B) E) ->
  (∀B x,C B<2^40->dQ φ E [sv x] (D B) (λr H'=>r=bv T/\H'=D (B++[x]))) ->
  (∀o B x,C B<2^40->dQ φ E [sv x] ((946,o)::D B) (λr H'=>r=bv T/\H'=(946,o)::D (B++[x]))) ->
  aU φ F (E::caps) (D []) (λr H'=>r=.tup []/\∃B,PR B/\H'=D B)
def Sl:dG:=[(2,.ref 942 0 0 0)]
def Tg(e_:List B_)(K:aF):aF:=(945,⟨C e_,1,9,bZ e_⟩)::(942,bx 1 22 [.osl 945 (C e_) 0 (C e_)])::K
theorem ux(e_:List B_)(s:B_)(K:aF):Tg (e_++[s]) K=(945,⟨C e_+1,1,9,bZ (e_++[s])⟩)::(942,bx 1 22 [.osl 945 (C e_+1) 0 (C e_+1)])::K:=by simp[Tg]
theorem nw{e_:List B_}{K:aF}{x:Go.Loop}(h:dN K):dN ((944,LR x Sl)::Tg e_ K):=by refine dN.app (D:=[(944,LR x Sl),(945,⟨C e_,1,9,bZ e_⟩),(942,bx 1 22 [.osl 945 (C e_) 0 (C e_)])]) ?_ h;refine D8.spec ⟨oI (by simp[Sl];rfl),aN _ _,?_,T_⟩;intro r E a B;simp only[bx,q9]at E;subst E;rw[q9]at B;subst B;exact .osl Z
theorem uk(c:∀(args:Array Value) (w:World),(callFunc F args).run φ w=.ok (.enter F args) w)(K:aF)(d:An F caps PR K)(k2:K.get 942=ζ)(P:K.get 944=ζ)(b:K.get 945=ζ)(e:K.get 946=ζ)(R:dN K)(W:Clo K (.clo F caps)):
  aU φ 129 [.pv .nils,.clo F caps] K (λr H'=>∃B,PR B/\r=.osl 945 (C B) 0 (C B)/\H'=(945,⟨C B,1,9,bZ B⟩)::K):=by
 have Q:aF.get ((945,⟨0,1,9,[]⟩)::K) 942=ζ:=k2;refine Bd func129 Z ntmps129<|UY (t:=0) (id:=945) (sz:=1) (ty:=9) Z b rfl<|Y5 (t:=0) Z Z Z (h_ _)<|U (tL (id:=942) Z Z Z Z Q)<|V aH<|S<|Sz aA<|aE ?_;refine fW.ent (E':=[(2,.ref 942 0 0 0),(6,.clo F caps)]) (H':=Tg [] K) (cH.get' ⟨⟨_,Z,Z⟩,⟨_,Z,Z⟩,T_⟩ (λj=>nG E_ j))<|CH (id:=944) (p:=7) Sl Z c Z P (by simp[Sl];rfl) ?_;intro x E G H I J L;refine(d (.yld 944 0) (λB=>(944,LR x Sl)::Tg B K) (λB=>?_) (λB=>e) (λB=>nw R) (λB=>by simp;rfl) ?_ ?_).mono ?_
 .refine Sub.app (D:=[(944,LR x Sl),(945,⟨C B,1,9,bZ B⟩),(942,bx 1 22 [.osl 945 (C B) 0 (C B)])]) ?_;intro p a;simp only[l9,q8,or_false]at a;rcases a with rfl|rfl|rfl
  .exact P
  .exact b
  exact k2
 .intro B s hM;refine .inl ⟨944,0,Z,?_⟩;rw[ux];refine MS [(2,.ref 942 0 0 0),(5,sv s)] (Tg B K) E G H I J L Z Z Z ?_ ?_
  .refine Rg<|Da ?_;exact E0
  refine aE<|Rd (bQ aG)<|Y aA<|Y (by exact aL [[.str s]] Z aY Z Z Z Z Z R_)<|Y (by exact bW (ps:=[[.str s]]) Z aY sW Z Z Z Z Z (dI _) Z R_ (m:=1) Z X Z (gT _ s))<|Uu (jG sizeOf22)<|Zz ?_;exact⟨(945,⟨B.length+1,1,9,bZ (B++[s])⟩)::(942,bx 1 22 [.osl 945 (B.length+1) 0 (B.length+1)])::K,cH.get' T_ (λj=>km [_,_,_] [_,_,_,_,_] (by repeat(first|exact trivial|refine⟨Z,?_⟩)) j),Z,Z⟩
 .intro o B s hM;refine dQ.congrG (H1:=(944,LR x Sl)::(946,o)::Tg B K) (K1:=(944,LR x Sl)::(946,o)::Tg (B++[s]) K) (.inl ⟨944,0,Z,?_⟩) (λj=>nG E_ j) (λj=>nG E_ j);rw[ux];refine MS [(2,.ref 942 0 0 0),(5,sv s)] ((946,o)::Tg B K) E G H I J L Z Z Z ?_ ?_
  .refine Rg<|Da ?_;exact E0
  refine aE<|Rd (bQ aG)<|Y aA<|Y (by exact aL [[.str s]] Z aY Z Z Z Z Z R_)<|Y (by exact bW (ps:=[[.str s]]) Z aY sW Z Z Z Z Z (dI _) Z R_ (m:=1) Z X Z (gT _ s))<|Uu (jG sizeOf22)<|Zz ?_;exact⟨(946,o)::(945,⟨B.length+1,1,9,bZ (B++[s])⟩)::(942,bx 1 22 [.osl 945 (B.length+1) 0 (B.length+1)])::K,cH.get' T_ (λj=>km [_,_,_,_] [_,_,_,_,_,_] (by repeat(first|exact trivial|refine⟨Z,?_⟩)) j),Z,Z⟩
 rintro r H' ⟨rfl,B,hM,rfl⟩;refine⟨x,_,Z,by rw[E];decide,Z,λz=>?_⟩;rw[G];refine U (bQ aG)<|V aH<|aC ?_;refine cT (H':=((945,⟨C B,1,9,bZ B⟩)::K)) (.inr Z) Z (aI Z) (Fin.front' [(944,LR z Sl),(945,⟨C B,1,9,bZ B⟩),(942,bx 1 22 [.osl 945 (C B) 0 (C B)])] [(945,⟨C B,1,9,bZ B⟩)] (.osl Z) (by simp[k2,P,aF.get]) (by intro p m;rw[mem_singleton]at m;subst m;rfl) (D8.spec ⟨aN _ _,T_⟩) R (by simp[k2,P,aF.get])) ?_;exact⟨B,hM,Z,Z⟩
theorem Pz(E:∀(args:Array Value) (w:World),(callFunc F args).run φ w=.ok (.enter F args) w)(K:aF)(G:An F caps PR K)(k2:K.get 942=ζ)(I:K.get 944=ζ)(J:K.get 945=ζ)(L:K.get 946=ζ)(H:dN K)(D:Clo K (.clo F caps)):
  aU φ 75 [.clo F caps] K (λr H'=>∃B,PR B/\r=.osl 945 (C B) 0 (C B)/\H'=(945,⟨C B,1,9,bZ B⟩)::K):=by
 refine Bd func75 Z ntmps75<|Sz aH<|Sr<|Dm<|uo Z Z (KX Z Z call129 Z (uk E K G k2 I J L H D)) ?_;rintro r H' ⟨B,hM,rfl,rfl⟩;refine V aH<|aC<|cT (H':=((945,⟨C B,1,9,bZ B⟩)::K)) (.inr Z) Z (aI Z) Fin.refl ?_;exact⟨B,hM,Z,Z⟩
theorem Az(l:List B_)(K:aF)(g:C l<2^40)(P:K.get 951=A (bx 1 22 [.pv (aK l)])):An 77 [.ref 951 0 0 0] (λF=>F.Perm l) K:=by
 intro c E Q d R e I b;have L:∀F,(E F).get 951=A (bx 1 22 [.pv (aK l)]):=λF=>Q F _ _ P;have a:C (l.map S_)=C l:=g_ _;refine Bd func77 Z ntmps77<|U (aX Z aG Z (L []) Z Z Z)<|Y (fM aD)<|V aA<|aE<|bF (σ:=Nat) (λi=>([(0,c),(5,.pv (aK l)),(6,iv (C (l.map S_):Int)),(7,iv (i:Int))],E (l.take i))) (λi=>i<=C l) (λi=>C l - i) 0 (l7 _) ?_ ?_
 .exact E0
 rintro i hi;refine Sz cI<|S<|Cn ?_ ?_<;>intro B
 .have hlt:i<C l:=I_ B
  have ⟨s,J⟩:=aR hlt;have W:=cC (f:=S_) J;have D:=I (l.take i) s (by rw[m_];omega);rw[<-eP J]at D;refine aB<|S<|aE<|U (iV aY)<|Y (fS N_)<|V aH<|U aA<|Y aA<|Y (dK Z Z Z (D))<|V iH<|Cn ?_ ?_<;>intro G
  .cases G
  refine aB<|Rd iD<|V aA ?_;exact⟨i+1,X,X,E0⟩
 have H:i=C l:=J_ B
 subst H;refine aP ?_;exact pE (H':=E (l.take (C l))) (.inl Z) Z Fin.refl ⟨Z,_,by rw[take_length],Z⟩
theorem Um{L:List B_}(a:C L<2^40)(I:∀(args:Array Value) (w:World),(callFunc F args).run φ w=.ok (.enter F args) w)(K:aF)(J:An F caps (λB=>B.Perm L) K)(k2:K.get 942=ζ)(Q:K.get 944=ζ)(R:K.get 945=ζ)(W:K.get 946=ζ)(P:dN K)(D:Clo K (.clo F caps)):
  aU φ 32 [.clo F caps] K (λr H'=>r=.osl 945 (C L) 0 (C L)/\H'=(945,⟨C L,1,9,fL (jR L)⟩)::K):=by
 refine Bd func32 Z ntmps32<|Sz aH<|Sr<|Dm<|uo Z Z (bH Z Z call75 Z (Pz I K J k2 Q R W P D)) ?_;rintro r H' ⟨B,hperm,rfl,rfl⟩;have G:C B<2^62:=by rw[hperm.length_eq];omega
 have H:=Jl hperm;have E:C B=C L:=hperm.length_eq;refine V aH<|U aA<|V (kc call76 (Bs B Z Z G))<|U aA<|V aH<|aC ?_;refine cT (H':=((945,⟨C B,1,9,fL (jR B)⟩)::K)) (.inr Z) Z (aI Z) (Fin.get' (λj=>xO _ _ _ _ j)) ?_;exact⟨by rw[E],by rw[H,E]⟩
end Go.Proofs.C
namespace Go.Proofs.C
open Go.Proofs.Tryz
open Go.Abs Go.Lib
variable{l A_:List B_}{x t i:B_}{R:List UInt8}{p c n id:Nat}
abbrev Tu(P:List B_):Ob:=bx 1 22 [.pv (aK P)]
theorem Ay(P:List B_)(H:aF)(B:H.get 951=ζ):
  aU φ 33 [.pv (aK P)] H (λr H'=>r=.clo 77 [.ref 951 0 0 0]/\H'=(951,Tu P)::H):=by
 refine Bd func33 Z ntmps33<|U (tL (id:=951) Z Z Z Z B)<|V aH<|U (iC Z Z)<|V aH<|aC<|cT (H':=((951,Tu P)::H)) (.inr Z) Z (aI Z) Fin.refl Qq
def Gy(i:Nat):Nat:=if i=901 then 945 else if i=945 then 901 else i
theorem Tz(i:Nat):Gy (Gy i)=i:=by
 unfold Gy
 repeat' split
 all_goals omega
abbrev nk(g:Nat)(l:List B_):Ob:=⟨g,1,9,uE l⟩
theorem Z6(ρ:Nat->Nat)(g:Nat)(l:List B_):xE ρ (nk g l)=nk g l:=by
 show (⟨g,1,9,(uE l).map (BR ρ)⟩:Ob)=_;have:∀r∈uE l,BR ρ r=r:=by
  intro r B;obtain ⟨s,_,rfl⟩:=mem_map.1 B;rfl
 rw[map_congr_left this,map_id']
theorem Bi(H:aF)(l:List B_):∀r∈uE l,∀a∈r,Clo H a:=by intro r D a B;obtain ⟨s,_,rfl⟩:=mem_map.1 D;rw[S_,map_cons,map_nil,q9]at B;subst B;exact .pv _
instance(H:aF)(l:List B_):W_ (H) (uE l):=⟨Bi H l⟩
theorem ud(L:List B_)(g:Nat)(H:aF)(G:H.get 945=A (nk g L))(J:C L<2^40):
  aU φ 31 [.osl 945 g 0 (C L)] H (λr H'=>r=.osl 945 g 0 (C (fU L))/\H'=[(945,nk g (fU L++List.replicate (C L - C (fU L)) a6)),(945,nk g L)]++H):=by
 have F:=Y0 L g [(901,nk g L)] Z J;have D:IQ Gy [(901,nk g L)]=[(945,nk g L)]:=by
  show [(Gy 901,xE Gy (nk g L))]=_;rw[Z6];rfl
 have E:IQ Gy [(901,nk g (fU L++List.replicate (C L - C (fU L)) a6)),(901,nk g L)]=[(945,nk g (fU L++List.replicate (C L - C (fU L)) a6)),(945,nk g L)]:=by
  show [(Gy 901,xE Gy (nk g (fU L++List.replicate (C L - C (fU L)) a6))),(Gy 901,xE Gy (nk g L))]=_;rw[Z6,Z6];rfl
 have I:=aU.ren (ρ:=Gy) Tz F (args':=[.osl 945 g 0 (C L)]) (r':=.osl 945 g 0 (C (fU L))) Z D Z E;refine I.frame (EX.sub ⟨G,T_⟩) (dN.of (λp B=>by
  rw[q9]at B;subst B;exact Bi _ _)) m3 (λid h=>.inl ?_)
 simp only[aF.get]at h |-;cases e:Nat.beq 945 id with
 |true=>rfl
 |false=>rw[e]at h;cases h
theorem Bv(l:List B_):(jR l).Pairwise (λa b=>jV b a=η):=by
 rw[jR,pairwise_map];refine(pairwise_mergeSort (le:=λ(x y:List UInt8)=>θ (x<=y)) (λa b c B D=>?_) (λa b=>OI a b) (l.map vu)).imp fun {a b} hab=>?_
 .rw[k_]at *;exact List.le_trans B D
 rw[k_]at hab;rw[zV,q7];exact λh=>absurd hab (List.not_le.2 h)
def KW(l:List B_):List B_:=fU (jR l)
theorem ix:x∈KW l↔x∈l:=F4.trans (pL l).mem_iff
theorem iw(l:List B_):zL (KW l):=MA (Bv l)
theorem Mo(l:List B_):C (KW l)<=C l:=by have B:=YI (jR l);rw[jL]at B;exact B
theorem Wm(P R:List B_):(((KW P++R).map S_).take (0+C (KW P))).drop 0=(KW P).map S_:=by rw[drop_zero,r7,map_append];exact take_left' (g_ _)
theorem NB(h:zL l):KW l=l:=EZ _ _ (iw l) h λx=>ix
def IY(ids:List B_):B_:=if ids.all m6=T then gX (KW ids)else a6
def IZ(ids:List B_):Int:=if ids.all m6=T then 0 else 1
theorem Mw(t:B_)(B:N t<2^40)(H:aF):RC 29 [sv t] (bv (oddJ t)) H:=by refine Pu ?_;exact Bd func29 Z ntmps29<|Sz aH<|U aA<|Y (kc call30 (YE t B _))<|Y iH<|V aH<|aC<|Rt<|Qq
theorem K9(ids:List B_)(H:aF)(c:C ids<1000000)(D:∀t∈ids,N t<2^40):RC 12 [.pv (aK ids)] (.tup [sv (IY ids),iv (IZ ids)]) H:=by
 refine Pu ?_;have b:=λH=>DX 29 ids oddJ X (λs d=>dQ.fn call29 (Mw s (D s d) [])) H;rw[QZ]at b;rw[IY,IZ];refine Bd func12 Z ntmps12<|U aH<|V aH<|S<|U aA<|V (kc call28 (b _))<|Cn ?_ ?_<;>intro G
 .have hno:ids.all m6=η:=not_not G;rw[a8 (by rw[hno];decide),a8 (by rw[hno];decide)];refine U aH<|V aH<|aC<|gD (H':=[]) (.inr Z) Z (aI Z) (aI Z) (P_ (r:=.tup [.pv (.str a6),iv 1])) Qq
 have B:ids.all m6=T:=nX G;rw[b6 B,b6 B];have J:IdS (KW ids):=⟨iw ids,λx e=>all_eq_true.1 B x (ix.1 e),Nat.lt_of_le_of_lt (Mo ids) c⟩;have a:=Um (L:=ids) X call77 ((951,Tu ids)::[]) (Az ids _ X Z) Z Z Z Z (dN.ofL ⟨m5,T_⟩) m3;have K:=nD J.srt J.dig (p:=a6) E_ J.len;have P:=cq K;have Q:=UF K;have W:=λH=>gz (KW ids) a6 H J E_;have I:=λH=>N2 (cV (KW ids) a6) H (by have:=K.cnt;omega) (by rw[fldW,j8]at P;omega);have ⟨F,E⟩:∃F,F=fldW (cV (KW ids) a6):=X_;have R:=λH=>xy [F] H (by decide:1<2^40) (by simp only[flatten_cons,flatten_nil,append_nil];rw[E];omega) (Nat.lt_of_le_of_lt (uU _ λs D=>by
  simp only[flatten_cons,flatten_nil,append_nil]at D;rcases l9.1 D with rfl|D
  .decide
  rcases l9.1 D with rfl|D
  .exact(by decide +kernel:N (aV ((1:Nat):Int))<=16)
  rw[E]at D;exact Q s D) (by simp only[flatten_cons,flatten_nil,append_nil,j6];rw[E];omega))
 rw[gX,<-E];rw[<-E]at I;refine aB<|U aA<|Y (kc call33 (Ay ids _ Z))<|Y (kc call32 (a))<|Y (kc call31 (by have h:=ud (jR ids) (C ids) ((945,nk (C ids) (jR ids))::(951,Tu ids)::[]) Z (by rw[jL];omega);rw[jL]at h;exact h))<|V aH<|S ?_;refine fW.ent (cH.fzG (id:=945) (E':=[(4,.pv (aK (KW ids)))]) (H':=[]) ((KW ids++List.replicate (C ids - C (fU (jR ids))) a6).map S_) Z (by rw[map_map];rfl) ?_ Z T_ T_) ?_
 .intro p hp;rw[q9]at hp;subst hp;exact⟨_,Z,.osl (Wm ids _)⟩
 exact Rd aA<|Y (kc call35 (W _))<|Y (kc call36 (I _))<|Y (aL ([F].map r6) Z HG Z Z Z Z Z (qF _))<|Y (kc call34 (R _))<|Y aH<|V aH<|aC<|Ru<|Qq
theorem Ce(a b:List B_)(H:aF)(d:C a<1000000000)(g:C b<1000000000):RC 16 [.pv (aK a),.pv (aK b)] (bv (θ (a=b))) H:=by
 refine Pu ?_;have R:C (a.map S_)=C a:=g_ _;have W:C (b.map S_)=C b:=g_ _;refine Bd func16 Z ntmps16<|Sz aH<|S<|U aA<|Y (fM aD)<|Y aA<|Y (fM aD)<|V xI<|Cn ?_ ?_<;>intro B
 .have J:¬ C a=C b:=by have h:=B;simp at h;omega
  have I:θ (a=b)=η:=decide_eq_false λe=>J (by rw[e]);rw[I];exact Sz aH<|aC<|Rt<|Qq
 have J:C a=C b:=by have h:=B;simp at h;omega
 refine aB<|S<|Sz aH<|aE<|bF (σ:=Nat) (λk=>([(0,.pv (aK a)),(1,.pv (aK b)),(5,iv (k:Int))],[])) (λk=>k<=C a/\a.take k=b.take k) (λk=>C a - k) 0 ⟨l7 _,Z⟩ ?_ ?_
 .exact Wk
 rintro k ⟨hk,hs⟩;refine S<|U aA<|Y aA<|Y (fM aD)<|V cI<|Cn ?_ ?_<;>intro D
 .have hlt:k<C a:=I_ D
  have ⟨x,G⟩:=aR hlt;have ⟨y,K⟩:=aR (l:=b) (k:=k) X;have P:=cC (f:=S_) G;have Q:=cC (f:=S_) K;refine aB<|S<|aE<|S<|aM a7<|Cq aA<|Cq aA<|Cq (iV aY)<|Cq (fS N_)<|Cq aA<|Cq aA<|Cq (iV aY)<|Cq (fS N_)<|Cq E4<|bG<|Kr<|Cn ?_ ?_<;>intro E
  .have hne:¬ x=y:=by have h:=E;simpa using h
   have I:θ (a=b)=η:=decide_eq_false λe=>hne (by rw[e,K]at G;cases G;rfl);rw[I];exact Sz aH<|aC<|Rt<|Qq
  have L:x=y:=by have h:=E;simpa using h
  refine aB<|Rd aA<|Y iD<|Da ?_;refine⟨k+1,⟨X,?_⟩,X,Wk⟩;rw[eP G,eP K,hs,L]
 have F:k=C a:=J_ D
 have c:θ (a=b)=T:=decide_eq_true (by
  rw[<-take_length (l:=a),<-F,hs,F,J,take_length])
 rw[c];exact aP<|Sz aH<|aC<|Rt<|Qq
def O8(l:List B_):Nat:=(l.map ByteArray.size).sum
theorem Bg{k:Nat}{s:B_}(h:l[k]?=A s):O8 (l.take (k+1))=O8 (l.take k)+N s:=by rw[eP h,O8,map_append,sum_append];rfl
theorem Ua{m:Nat}(h:∀s∈l,N s<=m)(k:Nat):O8 (l.take k)<=C l*m:=by
 have D:∀(l:List B_),(∀s∈l,N s<=m)->O8 l<=C l*m:=by
  intro l
  induction l with
  |nil=>exact λ_=>l7 _
  |cons a l E =>
   intro h;have F:=h a mem_cons_self;have:=E λs B=>h s (mem_cons_of_mem _ B);show N a+O8 l<=(C l+1)*m;rw[succ_mul];omega
 exact Nat.le_trans (D _ λs B=>h s (mem_of_mem_take B)) (mul_le_mul_right _ (by rw[m_];omega))
def Eo(l:List B_)(n:Int):Bool:=θ ((C (l.map S_):Int)<=n)&&θ ((O8 l:Int)<=20000)
theorem aEb(l:List B_)(n:Int)(H:aF)(K:C l<=1048576)(Q:∀s∈l,N s<=1048576):RC 10 [.pv (aK l),iv n] (bv (Eo l n)) H:=by
 refine Pu ?_;have L:C (l.map S_)=C l:=g_ _;have B:=Ua Q;have G:C l*1048576<=1048576*1048576:=mul_le_mul_right _ K;refine Bd func10 Z ntmps10<|Sz aH<|Sz aH<|S<|Sz aH<|aE<|bF (σ:=Nat) (λk=>([(0,.pv (aK l)),(1,iv n),(5,iv (O8 (l.take k):Int)),(6,iv (k:Int))],[])) (λk=>k<=C l) (λk=>C l - k) 0 (l7 _) ?_ ?_
 .exact Wk
 intro k W;have R:=B k;refine S<|U aA<|Y aA<|Y (fM aD)<|V cI<|Cn ?_ ?_<;>intro D
 .have hlt:k<C l:=by have:=b9 D;omega
  have ⟨s,E⟩:=aR hlt;have hi:=cC (f:=S_) E;have P:=Bg E;have I:=B (k+1);refine aB<|S<|aE<|Rd aA<|Y aA<|Y aA<|Y (kx aY hi)<|Y (fS N_ (hi:=hi))<|Y (gL U_)<|Y (by exact dD Z Z Z (show ξ.wrap ((O8 (l.take k):Int)+(N s:Int))=((O8 (l.take (k+1)):Nat):Int)by rw[lT X X];omega))<|V aH<|Rd aA<|Y kp<|Da ?_;exact⟨k+1,X,X,Wk⟩
 have F:k=C l:=by have:=b_ D;omega
 subst F;rw[take_length];refine aP<|S<|aT (t:=4) (n:=10) (A_:=Eo l n) ?_ ?_
 .all_goals refine Y aA<|Y (fM aD)<|Y aA<|Y H7<|Dm ?_<;>(refine Sp 24 (λJ=>?_) λJ=>?_)<;>(try exact w_)<;>(first|refine M<|M ?_|refine O aA<|O H7 ?_)<;>refine Y cD<|Da ?_<;>exact Gj (h:=by rw[Eo];(rw[J];rfl))
 exact aC<|Rt<|Qq
theorem Pl(h:Eo l 40=T):C l<=40/\∀s∈l,N s<=20000:=by
 rw[Eo,l6,k_,k_,g_]at h;refine⟨X,λs B=>?_⟩;have D:∀(l:List B_),∀s∈l,N s<=O8 l:=by
  intro l
  induction l with
  |nil=>intro s B;cases B
  |cons a l E =>
   intro s B;show N s<=N a+O8 l;rcases l9.1 B with rfl|B
   .omega
   have:=E s B;omega
 have:=D l s B;omega
def Uz:B_:=⟨#[115,101,99,114,101,116]⟩
def r0W:j_:=⟨5,0,1,1,⟨#[109,97,105,110]⟩,[],[],a6,η,0,a6,zS,⟨a6,a6,[],[],zS⟩⟩
theorem aBt:(OS r0W Uz 1).2=0:=by kernel_rfl
theorem aBv:∃x,OS r0W Uz 1=(x,0):=by have h:=aBt;generalize OS r0W Uz 1=y at *;exact⟨y.1,Prod.ext Z h⟩
theorem aEM:mT r0W:=by have B:qP 0:=⟨E_,E_⟩;have D:qP 1:=⟨E_,E_⟩;exact⟨⟨⟨E_,E_⟩,B,D,D,B⟩,⟨E_,E_,E_⟩,⟨E_,λt h=>by cases h⟩,⟨E_,λt h=>by cases h⟩,okZ,E_,E_,⟨E_,λt h=>by cases h⟩,E_,okZ⟩
theorem Kj:∃t i,sV t=A i/\∀H,RC 27 [] (.tup [sv t,sv i]) H:=by have ⟨x,I⟩:=aBv;have F:=Xn I;have B:=M9 (aO (jU x));rw[F.parse]at B;have D:=λH=>aBu r0W Uz 1 aEM E_ E_ H;rw[I]at D;have E:=λH=>ZK x B.1 B.2 H;rw[F.text]at E;have G:=λH=>yy x B.1 B.2 H;refine⟨a_ (aO (jU x)),JB x,by rw[sV,cG,F.parse];rfl,λH=>?_⟩;generalize a_ (aO (jU x))=t at *;generalize JB x=i at *;clear I F B;refine Pu ?_;exact Bd func27 Z ntmps27<|U aH<|V aH<|U (oD UT)<|Y (kc call71 (D _))<|Y aA<|Y dO<|Y dO<|Y (kl 2 nx)<|Uu (jG bJ)<|V aH<|U (wY cQ bJ)<|Y (kc call72 (E _))<|Y aA<|Y dO<|Y dO<|Y aH<|V aH<|U aA<|Y (wY cQ bJ)<|Y (kc call55 (G _))<|Y aH<|V aH<|aC<|Ru<|Qq
theorem cg(hi:sV t=A i):cR [t]=[i]:=by
 have h:jM [t]=[(i,t)]:=by
  show jW [] t=_;rw[jW,hi];rfl
 refine EZ _ _ (oM _) (pairwise_singleton _ _) λx=>?_;rw[cR,(pL _).mem_iff,h];rfl
theorem jk(hi:sV t=A i):jH (jM [t]) i=t:=by
 have h:jM [t]=[(i,t)]:=by
  show jW [] t=_;rw[jW,hi];rfl
 rw[h,jH,find?_cons,decide_eq_true rfl];rfl
theorem yz(hi:m6 i=T):IdS [i]:=⟨pairwise_singleton _ _,(λx B=>by rw[q9]at B;rw[B];exact hi),(by decide:1<1000000)⟩
theorem cj:IdS []:=⟨List.Pairwise.nil,(λx B=>by cases B),(by decide:0<1000000)⟩
theorem wu{y_:List B_}(B:IdS A_):AR y_ (gX A_)=wB y_ ⟨[],[],[]⟩ (cV A_ a6):=by rw[AR,DA B.srt B.dig B.len,show AN (gX A_)=[]from JZ [cV A_ a6] (λp D=>by rw[q9]at D;subst D;exact nD B.srt B.dig E_ B.len) (show 1<1000000 by decide)];rfl
theorem aEv:gR [] (gX [])=[]:=by
 have:=zp [] [] (λt=>Iff.rfl) E_
 rwa [QR]at this
theorem aEu(hi:sV t=A i):gR [t] (gX [])=[t]:=by rw[gR,cg hi,wu cj,wB,b6 (show (cV [] a6).cnt<=16 by decide)];show List.map _ (((fZ [i] a6).filter λi=>!θ (i∈(cV [] a6).ids)).foldl (lV [i]) [])++(OL iW _++OL mI [])=_;rw[P7,show (cV [] a6).ids=[]from rfl];simp only[filter_cons,filter_nil,q8,decide_false,Bool.not_false,if_true,foldl_cons,foldl_nil];rw[lV,b6 H_];show [jH (jM [t]) i]++_=_;rw[jk hi];rfl
theorem aEt(B:m6 i=T):gR [] (gX [i])=[iW [[i]]]:=by
 rw[gR,QR,wu (yz B),wB,b6 (show (cV [i] a6).cnt<=16 by show C (fZ [i] a6)<=16;rw[P7];exact r_ Z)];have e:(cV [i] a6).ids=[i]:=by rw[S1 (by rw[P7];exact r_ Z),P7]
 rw[e];simp[fZ,OL,XJ,SZ]
theorem aEs(hi:sV t=A i):gR [t] (iW [[i]])=[t]:=by rw[gR,cg hi,show iW [[i]]=iW ([i].map λs=>[s])from Z,KI (λs B=>by rw[q9]at B;rw[B];exact Oo hi) H_];show List.map _ (lV [i] [] i)++_=_;rw[lV,b6 H_];show [jH (jM [t]) i]++_=_;rw[jk hi];rfl
theorem aEr(hi:sV t=A i):gR [t] (gX [i])=[]:=by rw[<-cg hi];exact zp [t] [t] (λt=>Iff.rfl) (r_ Z)
theorem FF(B:IdS A_):¬ 20000<N (gX A_):=Nat.not_lt.2 (bh (nD B.srt B.dig (p:=a6) E_ B.len))
theorem aCK(H:aF):RC 9 [] (bv T) H:=by
 refine Pu ?_;have ⟨t,i,D,g⟩:=Kj;have Q:=Oo D;have q:N t<=20000:=by have ⟨r,_,h⟩:=M1 D;exact h
 have B:=yz Q;have W:∀H,RC 12 [.pv (aK [])] (.tup [sv (gX []),iv 0]) H:=λH=>by
  have:=K9 [] H E_ (λt h=>by cases h);have e:([]:List B_).all m6=T:=rfl
  rwa [IY,IZ,b6 e,b6 e,NB List.Pairwise.nil]at this
 have a:∀H,RC 12 [.pv (aK [i])] (.tup [sv (gX [i]),iv 0]) H:=λH=>by
  have:=K9 [i] H (r_ Z) (λt h=>by rw[q9]at h;rw[h,iJ Q];decide);have e:[i].all m6=T:=by rw[all_cons,Q];rfl
  rwa [IY,IZ,b6 e,b6 e,NB B.srt]at this
 have l:∀H,RC 12 [.pv (aK [⟨#[120]⟩])] (.tup [sv a6,iv 1]) H:=λH=>by
  have:=K9 [⟨#[120]⟩] H E_ (λt h=>by rw[q9]at h;rw[h];decide)
  rwa [IY,IZ,a8 E_,a8 E_]at this
 have F:∀(L:List B_) (t:B_) (R:List B_),C L<=1->(∀s∈L,N s<=20000)->¬ 20000<N t->gR L t=R->∀H,RC 14 [.pv (aK L),sv t] (.tup [.pv (aK R),iv 0]) H:=λL t R v w u x H=>by
  have:=U3 L t H X (λt y=>by have:=w t y;omega)
  rwa [a8 u,a8 u,x]at this
 have k:∀s∈([]:List B_),N s<=20000:=λs h=>by cases h
 have j:∀s∈[t],N s<=20000:=λs h=>by rw[q9]at h;rw[h];exact q
 have G:=F [] (gX []) _ E_ k (FF cj) aEv;have I:=F [t] (gX []) _ (r_ Z) j (FF cj) (aEu D);have E:=F [] (gX [i]) _ E_ k (FF B) (aEt Q);have J:=F [t] (iW [[i]]) _ (r_ Z) j (Nat.not_lt.2 (ev Q)) (aEs D);have K:=F [t] (gX [i]) _ (r_ Z) j (FF B) (aEr D);have o:∀H,RC 17 [sv t] (.pv (aK [t])) H:=λH=>by
  have:=PW t H X
  rwa [D]at this
 have b:∀H,RC 17 [sv (gX [i])] (.pv (aK [])) H:=λH=>by
  have v:=FF B;have:=PW (gX [i]) H X;have e:sV (gX [i])=ζ:=QS (P:=[cV [i] a6]) (DA B.srt B.dig B.len) H_
  rwa [e]at this
 have n:∀H,RC 16 [.pv (aK [t]),.pv (aK [t])] (bv T) H:=λH=>by
  have:=Ce [t] [t] H (r_ Z) (r_ Z)
  rwa [decide_eq_true rfl]at this
 have ⟨z,c⟩:∃m,m=gX []:=X_;have ⟨m1,d⟩:∃m,m=gX [i]:=X_;have ⟨m2,f⟩:∃m,m=iW [[i]]:=X_;rw[<-c]at W G I;rw[<-d]at a E K b;rw[<-f]at E J;clear c d f F j k B;refine Bd func9 Z ntmps9<|Sz aH<|U (kc call27 (g _))<|Y aA<|Y dO<|Y dO<|Y aH<|V aH<|U (kc call12 (W _))<|Y aA<|Y dO<|Y dO<|Y aH<|V aH<|U aA<|Y (aL ([i].map S_) Z aY Z Z Z Z Z (dX _))<|Y (kc call12 (a _))<|Y aA<|Y dO<|Y dO<|Y aH<|V aH<|U aA<|Y (kc call14 (G _))<|Y aA<|Y dO<|Y dO<|Y aH<|V aH<|U aA<|Y (aL ([t].map S_) Z aY Z Z Z Z Z (dX _))<|Y aA<|Y (kc call14 (I _))<|Y aA<|Y dO<|Y dO<|Y aH<|V aH<|U aA<|Y (kc call14 (E _))<|Y aA<|Y dO<|Y dO<|Y aH<|Y aH<|Zz<|U (aL ([⟨#[120]⟩].map S_) Z aY Z Z Z Z Z (dX _))<|Y (kc call12 (l _))<|Y aA<|Y dO<|Y dO<|Y aH<|V aH<|S<|U aA<|Y (fM aD)<|V (cP.valY (K0 Z Z Z) (x7))<|Cn ?_ ?_<;>intro p
 .cases p
 refine aB<|U aA<|Y (aL ([t].map S_) Z aY Z Z Z Z Z (dX _))<|Y aA<|Y (bP Z aY Z Z X (l_ _) (show ([m2].map S_)[0]?=A (S_ m2)from Z) Z)<|Y (eF Z N_ Z (show ([m2].map S_)[0]?=A (S_ m2)from Z) Z)<|Y (kc call14 (J _))<|Y aA<|Y dO<|Y dO<|Y aH<|V aH<|U aA<|Y (aL ([t].map S_) Z aY Z Z Z Z Z (dX _))<|Y aA<|Y (kc call14 (K _))<|Y aA<|Y dO<|Y dO<|Y aH<|V aH<|U aA<|Y cF<|Y aA<|O aA<|O cF<|Y cD<|Y aA<|O aA<|O cF<|Y cD<|Y aA<|O aA<|O (fM aD)<|O cF<|Y cD<|Y aA<|O aA<|O cF<|Y cD<|Y aA<|O aA<|O aA<|O (aL ([t].map S_) Z aY Z Z Z Z Z (dX _)) ?_;exact O (kc call16 (n _))<|Y cD<|Y aA<|O aA<|O cF<|Y cD<|Y aA<|O aA<|O cF<|Y cD<|Y aA<|O aA<|O cF<|Y cD<|Y aA<|O aA<|O (fM aD)<|O cF<|Y cD<|V aH<|U aA<|Y aA<|O aA<|O cF<|Y cD<|Y aA<|O aA<|O aA<|O (aL ([t].map S_) Z aY Z Z Z Z Z (dX _))<|O (kc call16 (n _))<|Y cD<|Y aA<|O aA<|O (kc call17 (o _))<|O aA<|O (aL ([t].map S_) Z aY Z Z Z Z Z (dX _))<|O (kc call16 (n _))<|Y cD<|Y aA<|O aA<|O (kc call17 (b _))<|O (fM aD)<|O cF<|Y cD<|V aH<|aC<|Rt<|Qq
theorem rh(l:List B_):IY (cR l)=gX (cR l)/\IZ (cR l)=0:=by have e:(cR l).all m6=T:=all_eq_true.2 (NU l);rw[IY,IZ,b6 e,b6 e,NB (oM l)];exact Qq
theorem Qp(x p:B_)(H:aF):RC 94 [sv x,sv p] (bv (oY p x)) H:=by
 refine Pu ?_;have D:=mg p x;refine Bd func94 Z ntmps94<|Sz aH<|S<|aT (t:=4) (n:=15) (A_:=oY p x) ?_ ?_
 .all_goals refine Y aA<|Y (gL U_)<|Y aA<|Y (gL U_)<|Y AF<|Dm ?_<;>(refine Sp 10 (λB=>?_) λB=>?_)<;>(first|exact s_|refine M<|M<|M<|M<|M<|M ?_|refine O aA<|O aA<|O (gL U_)<|O (bM (l:=0) (h:=N p) Z U_ Z Z Z (l7 _) (I_ B) Z)<|O aA<|O wU ?_)<;>refine Y cD<|Da ?_<;>exact Gj (h:=by rw[D];(rw[B];rfl))
 exact aC<|Rt<|Qq
theorem tt(s:B_)(H:aF)(W:N s<2^40):RC 60 [sv s] (bv (lW s)) H:=by
 refine Pu ?_;have R:=aS s;have L:lW s=(θ (N s<=16)&&s.data.toList.all sS):=rfl;refine Bd func60 Z ntmps60<|Sz aH<|S<|Sz aH<|aE<|bF (σ:=Nat) (λi=>([(0,sv s),(3,iv (i:Int))],[])) (λi=>i<=N s/\∀k,k<i->∀y,s.data.toList[k]?=A y->sS y=T) (λi=>N s - i) 0 ⟨l7 _,λk h=>by omega⟩ ?_ ?_
 .exact Wk
 rintro i ⟨hi,hall⟩;refine S<|U aA<|Y aA<|Y (gL U_)<|V cI<|Cn ?_ ?_<;>intro E
 .have hlt:i<N s:=I_ E
  have ⟨y,I⟩:=aR (l:=ν (μ s)) (k:=i) X;have B:=jx I;have ⟨d,G,P⟩:∃d:Int,(θ (d<0)=!sS y)/\∀H,RC 83 [.pv (.int .u8 (aZ s i))] (iv d) H:=by
   by_cases D:sS y=T
   .refine⟨_,?_,λH=>zw _ (B.2 D) H⟩;rw[D];refine decide_eq_false ?_;have:=B.2 D;unfold H8 at this
    split<;>omega
   refine⟨_,?_,λH=>lr _ (λh=>D (B.1 h)) H⟩;rw[show sS y=η by simpa using D];rfl
  refine aB<|S<|aE<|U aA<|Y aA<|Y (cK Z U_ Z Z X (l_ _) hlt Z)<|Y (kc call83 (P _))<|V cI<|Cn ?_ ?_<;>intro F
  .have D:sS y=η:=not_not (G.symm.trans F);have e:s.data.toList.all sS=η:=all_eq_false.2 ⟨y,m7 I,by rw[D];decide⟩;rw[L,e,Bool.and_false];exact Sz aH<|aC<|Rt<|Qq
  have D:sS y=T:=nX (G.symm.trans F);refine aB<|Rd aA<|Y kp<|Da ?_;refine⟨i+1,⟨X,λk J z K=>?_⟩,X,Wk⟩;by_cases e:k=i
  .subst e;rw[I]at K;cases K;exact D
  exact hall k X z K
 have Q:i=N s:=J_ E
 have e:s.data.toList.all sS=T:=all_eq_true.2 λy I=>by
  have ⟨k,J⟩:=s8.1 I;have:=(m9.1 J).1;exact hall k X y J
 rw[L,e,Bool.and_true];exact aP<|U aA<|Y (gL U_)<|Y (by exact cP.eqv (mW Z Z Z) (show AV.pv (.bool (θ ((N s:Int)<=16)))=bv (θ (N s<=16))by congr 3;exact propext ⟨λh=>by omega,λh=>by omega⟩))<|V aH<|aC<|Rt<|Qq
theorem zA{l:List UInt8}{i:Nat}{b:UInt8}(h:l[i]?=A b):aZ (a_ l) i=(b.toNat:Int):=by rw[aZ,cG,h];rfl
theorem TG(l:List UInt8)(H:aF)(u:C l<1000000000):RC 59 [sv (a_ l)] (iv (eQ (a_ l))) H:=by
 refine Pu ?_;have v:=cA l;refine Bd func59 Z ntmps59<|Sz aH<|Sz aH<|S<|Sz aH<|aE<|eZ (λ(k n:Nat)=>([(0,sv (a_ l)),(3,iv (n:Int)),(4,iv (k:Int))],[])) (λk n=>k<=C l/\k<=7/\n<10 ^ k/\decFrom 0 (l.take k)=A n) (λk n=>7 - k) 0 0 ⟨l7 _,E_,E_,Z⟩ ?_ ?_
 .exact Wk
 rintro k n ⟨hk,hk7,hn,hd⟩;have q:10 ^ k<=10000000:=Nat.le_trans (Nat.pow_le_pow_right E_ hk7) E_;have ⟨B,R⟩:∃B,B=(θ ((k:Int)<(N (a_ l):Int))&&θ ((k:Int)<7)):=X_;refine S<|S<|aT (t:=12) (n:=9) (A_:=B) ?_ ?_
 .all_goals refine Y aA<|Y aA<|Y (gL U_)<|Y cI<|Dm ?_<;>(refine Sp 9 (λr=>?_) λr=>?_)<;>(try exact w_)<;>(first|refine M<|M ?_|refine O aA<|O cI ?_)<;>refine V cD ?_<;>exact Gj (h:=by rw[R];(rw[r];rfl))
 refine Cn ?_ ?_<;>intro J
 .have hBt:=R.symm.trans J;rw[l6,k_,k_]at hBt;have ⟨b,a⟩:=aR (l:=l) (k:=k) X;have I:=zA a;have c:=b.toNat_lt;have ⟨x,Q⟩:∃x,x=aZ (a_ l) k:=X_;rw[<-Q]at I;have ⟨E,F⟩:∃E,E=(θ (x<48)||θ (57<x)):=X_;refine aB<|S<|aE<|S<|S<|aT (t:=24) (n:=11) (A_:=E) ?_ ?_
  .all_goals refine Y aA<|Y aA<|Y (cK Z U_ Z Z X (l_ _) X Q.symm)<|Y cI<|Dm ?_<;>(refine Sp 19 (λj=>?_) λj=>?_)<;>(try exact w_)<;>(first|refine M<|M<|M<|M ?_|refine O aA<|O aA<|O (cK Z U_ Z Z X (l_ _) X Q.symm)<|O iX ?_)<;>refine V cD ?_<;>exact Gj (h:=by rw[F];(rw[j];rfl))
  refine Cn ?_ ?_<;>intro K
  .have hCt:=F.symm.trans K;rw[Bool.or_eq_true,k_,k_]at hCt;rw[rm (m7 a) X];exact Sz aH<|aC<|Rt<|Qq
  have D:=F.symm.trans K;rw[q_,q7,q7]at D;have g:10*n+(b.toNat - 48)<10 ^ (k+1):=by rw[Nat.pow_succ];omega
  refine aB<|Rd aA<|Y (by exact oZ Z Z Z (show ξ.wrap (10*(n:Int))=((10*n:Nat):Int)by rw[lT X X];omega))<|Y aA<|Y aA<|Y (cK Z U_ Z Z X (l_ _) X Q.symm)<|Y (by exact dT Z Z Z (show IntKind.u8.wrap (x - 48)=((b.toNat - 48:Nat):Int)by rw[I,IntKind.wrap_u8];omega))<|Y (eE Z cZ underlying3 Z (lT X X))<|Y (by exact dD Z Z Z (show ξ.wrap (((10*n:Nat):Int)+((b.toNat - 48:Nat):Int))=((10*n+(b.toNat - 48):Nat):Int)by rw[lT X X];omega))<|V aH<|Rd aA<|Y kp<|Da ?_;refine⟨k+1,_,⟨X,X,g,?_⟩,X,Wk⟩;rw[eP a,O0,hd];show decFrom n [b]=_;rw[decFrom,digitVal,b6 ⟨X,X⟩,Nat.mul_comm n 10];rfl
 have W:=R.symm.trans J;have f:C l<=k\/k=7:=by
  by_cases i:(k:Int)<(N (a_ l):Int)
  .rw[decide_eq_true i,Bool.true_and,q7]at W;exact .inr X
  exact .inl X
 have P:=λH=>tu (n:Int) X X H;have d:UN (n:Int)=a_ (decDigits n):=by rw[UN,a8 X,l_]
 rw[d]at P;have ⟨E,F⟩:∃E,E=(θ ((6:Int)<(N (a_ l):Int))||!θ (a_ (decDigits n)=a_ l)):=X_;have G:C l<=6->decFrom 0 l=A n:=λh=>by
  rcases f with h2|h2
  .rwa [take_of_length_le h2]at hd
  omega
 refine aP<|S<|S<|aT (t:=41) (n:=10) (A_:=E) ?_ ?_
 .all_goals refine Y aA<|Y (gL U_)<|Y iX<|Dm ?_<;>(refine Sp 36 (λm=>?_) λm=>?_)<;>(try exact w_)<;>(first|refine M<|M<|M<|M ?_|refine O aA<|O (kc gW (P _))<|O aA<|O E4 ?_)<;>refine V cD ?_<;>exact Gj (h:=by rw[F];(rw[m];rfl))
 refine Cn ?_ ?_<;>intro L
 .have hCt:=F.symm.trans L;rw[show eQ (a_ l) = -1 by
   by_cases o:6<C l
   .exact Do o
   rw[decide_eq_false X,Bool.false_or,r9,q7]at hCt;exact Wv (G X) λe=>hCt (by rw[e])]
  exact Sz aH<|aC<|Rt<|Qq
 have D:=F.symm.trans L;rw[q_,Bool.not_eq_false',k_,q7]at D;have p:decDigits n=l:=by have:=congrArg (λs:B_=>ν (μ s)) D.2;simpa only[cG]using this
 rw[Nb X p];exact aB<|U aA<|V aH<|aC<|Rt<|Qq
def dgT(l:List UInt8)(p c:Nat):Bool:=((θ (((p+c:Nat):Int)<(N (a_ l):Int))&&θ (((p+c:Nat):Int)<((p+6:Nat):Int)))&&θ (48<=aZ (a_ l) (p+c)))&&θ (aZ (a_ l) (p+c)<=57)
theorem Yt{l:List UInt8}(H:∀c,R[c]?=l[p+c]?)(h:dgT l p c=T):∃b,l[p+c]?=A b/\c<6/\PH b=T/\VN (R.drop c) c n=VN (R.drop (c+1)) (c+1) (10*n+(b.toNat - 48)):=by
 rw[dgT,l6,l6,l6,k_,k_,k_,k_,cA]at h;have ⟨b,B⟩:=aR (l:=l) (k:=p+c) X;rw[zA B]at h;have F:PH b=T:=by rw[PH,decide_eq_true X,decide_eq_true X];rfl
 have D:R.drop c=b::R.drop (c+1):=by
  have E:R[c]?=A b:=(H c).trans B;have G:=(m9.1 E).1;rw[drop_eq_getElem_cons G,(m9.1 E).2]
 exact⟨b,B,X,F,by rw[D,VN,F,decide_eq_true (by omega:c<6)];rfl⟩
theorem aCY{l:List UInt8}(F:∀c,R[c]?=l[p+c]?)(J:p+c<=C l)(h:dgT l p c=η):VN (R.drop c) c n=(c,n):=by
 by_cases D:p+c<C l
 .have ⟨b,hb⟩:=aR D;have B:R.drop c=b::R.drop (c+1):=by
   have E:R[c]?=A b:=(F c).trans hb;have G:=(m9.1 E).1;rw[drop_eq_getElem_cons G,(m9.1 E).2]
  rw[B,VN,a8];intro I;rw[l6,PH,l6,k_,k_,k_]at I;rw[dgT,zA hb,cA,decide_eq_true X,decide_eq_true X,decide_eq_true X,decide_eq_true X]at h;cases h
 have:R.drop c=[]:=drop_eq_nil_of_le (by
  have H:l[p+c]?=ζ:=getElem?_eq_none X;exact List.getElem?_eq_none_iff.1 ((F c).trans H))
 rw[this,VN]
theorem Bp(l:List UInt8)(H:aF)(hl:C l<1000000000):RC 58 [sv (a_ l)] (.tup [.pv (aK ((rA l).getD [])),bv (rA l).isSome]) H:=by
 refine Pu ?_;have hz:=cA l;refine Bd func58 Z ntmps58<|U aH<|V aH<|Sz (dZ (id:=905) (sz:=1) (ty:=9) Z Z Z)<|Sz aH<|S<|aE<|eZ (λ(p:Nat) (D:List B_)=>([(0,sv (a_ l)),(4,.osl 905 (C D) 0 (C D)),(5,iv (p:Int))],[(905,⟨C D,1,9,bZ D⟩)])) (λp D=>p<=C l/\C D<=p/\rA l=(rA (l.drop p)).map (D++·)) (λp D=>C l - p) 0 [] ⟨l7 _,h_ _,by rw[drop_zero];cases rA l<;>rfl⟩ ?_ ?_
 .exact L_
 rintro p D ⟨hp,hAp,hJ⟩;refine S<|U aA<|Y aA<|Y (gL U_)<|V cI<|Cn ?_ ?_<;>intro τ
 .have hlt:p<C l:=by have:=b9 τ;rw[hz]at this;omega
  have ⟨R,q⟩:∃R,R=l.drop p:=X_;have w:C R=C l - p:=by rw[q,p_]
  have K:∀c,R[c]?=l[p+c]?:=λc=>by rw[q,getElem?_drop]
  rw[<-q]at hJ;have v:R≠[]:=λe=>by rw[e]at w;simp at w;omega
  refine aB<|aE<|Sz aH<|U aA<|V aH<|S<|aE<|eZ (λ(c n:Nat)=>([(0,sv (a_ l)),(4,.osl 905 (C D) 0 (C D)),(5,iv ((p+c:Nat):Int)),(6,iv (n:Int)),(7,iv (p:Int))],[(905,⟨C D,1,9,bZ D⟩)])) (λc n=>VN R 0 0=VN (R.drop c) c n/\c<=6/\p+c<=C l/\n<10 ^ c) (λc n=>6 - c) 0 0 ⟨by rw[drop_zero],E_,X,E_⟩ ?_ ?_
  .exact L_
  rintro c n ⟨hsc,hle6,hcl,hn⟩;have hp6:10 ^ c<=1000000:=Nat.le_trans (Nat.pow_le_pow_right E_ hle6) E_;have hB:dgT l p c=(((θ (((p+c:Nat):Int)<(N (a_ l):Int))&&θ (((p+c:Nat):Int)<((p+6:Nat):Int)))&&θ (48<=aZ (a_ l) (p+c)))&&θ (aZ (a_ l) (p+c)<=57)):=rfl;have hy:=Yt (n:=n) K (p:=p) (c:=c);have k:=aCY (n:=n) K hcl;generalize dgT l p c=B at hB hy k;refine S<|S<|aT (t:=34) (n:=25) (A_:=B) ?_ ?_
  .all_goals refine Y aA<|Y aA<|Y (gL U_)<|Y cI<|Dm ?_<;>(refine Sp 17 (λI=>?_) λI=>?_)<;>(try exact w_)<;>(first|refine M<|M<|M<|M ?_|refine O aA<|O aA<|O (by exact dD Z Z Z (show ξ.wrap ((p:Int)+6)=((p+6:Nat):Int)by rw[lT X X];omega))<|O cI ?_)<;>refine Y cD<|Dm ?_<;>(refine Sp 23 (λβ=>?_) λβ=>?_)<;>(try exact w_)<;>(first|refine M<|M<|M<|M ?_|refine O aA<|O aA<|O (cK Z U_ Z Z X (l_ _) (I_ I) Z)<|O AF ?_)<;>refine Y cD<|Dm ?_<;>(refine Sp 29 (λh29=>?_) λh29=>?_)<;>(try exact w_)<;>(first|refine M<|M<|M<|M ?_|refine O aA<|O aA<|O (cK Z U_ Z Z X (l_ _) (I_ I) Z)<|O H7 ?_)<;>refine V cD ?_<;>exact Gj (h:=by rw[hB];first|(rw[I];rfl)|(rw[I,β];rfl)|(rw[I,β,h29];rfl))
  refine Cn ?_ ?_<;>intro σ
  .have ⟨b,x,hc6,hdg,hst⟩:=hy σ;have L:=zA x;have hb256:=b.toNat_lt;have hplt:=(m9.1 x).1;rw[PH,l6,k_,k_]at hdg;have W:10*n+(b.toNat - 48)<10 ^ (c+1):=by rw[Nat.pow_succ];omega
   refine aB<|aE<|U aA<|Y (by exact oZ Z Z Z (show ξ.wrap (10*(n:Int))=((10*n:Nat):Int)by rw[lT X X];omega))<|Y aA<|Y aA<|Y (ky U_)<|Y (by exact dT Z Z Z (show IntKind.u8.wrap (aZ (a_ l) (p+c) - 48)=((b.toNat - 48:Nat):Int)by rw[L,IntKind.wrap_u8];omega))<|Y (eE Z cZ underlying3 Z (lT X X))<|Y (by exact dD Z Z Z (show ξ.wrap (((10*n:Nat):Int)+((b.toNat - 48:Nat):Int))=((10*n+(b.toNat - 48):Nat):Int)by rw[lT X X];omega))<|V aH<|Rd aA<|Y (by exact dD Z Z Z (show ξ.wrap (((p+c:Nat):Int)+1)=((p+(c+1):Nat):Int)by rw[lT X X];omega)) ?_;refine Da ?_;exact⟨c+1,_,⟨hsc.trans hst,X,X,W⟩,X,L_⟩
  have G:=hsc.trans (k σ);have hC:PA R=c:=congrArg Prod.fst G;have hN:oz R=n:=congrArg Prod.snd G;have z:CF R->rA l=ζ:=λh=>by rw[hJ,ZP v (aCc h)];rfl
  have hgd:¬ CF R->rA R=(rA ((R.drop (c+1)).drop n)).map (a_ ((R.drop (c+1)).take n)::·):=λh=>by
   have ⟨g1,g2,g3,g4⟩:=aCN h X;rw[R0 v g1,g2,g4,hC,hN]
  have d:CF R↔(c=0\/R[c]?≠A 58\/decDigits n≠R.take c\/C R - c - 1<n):=by rw[CF,hC,hN]
  have i:=λH=>tu (n:Int) X X H;rw[UN,a8 X,l_]at i;clear hsc G hy k hC hN hB;have ⟨a,F⟩:∃a,a=@θ (CF R) (Classical.propDecidable _):=X_;have E:CF R->a=T:=λh=>by rw[F,@decide_eq_true _ (Classical.propDecidable _) h]
  have u:¬ CF R->a=η:=λh=>by rw[F,@decide_eq_false _ (Classical.propDecidable _) h]
  have hBi:a=T->CF R:=λh=>@of_decide_eq_true _ (Classical.propDecidable _) (F.symm.trans h);have hBn:a=η->¬ CF R:=λh=>@of_decide_eq_false _ (Classical.propDecidable _) (F.symm.trans h);rw[d]at E u;clear F;have f:(a_ l).extract p (p+c)=a_ (R.take c):=mR (by rw[gG,cG,cG,q,show p+c - p=c by omega]);refine aP<|S<|S<|pX (t:=77) (n:=33) (A_:=a) ?_ ?_
  .by_cases c0:c=0
   .have e1:θ (((p+c:Nat):Int)=(p:Int))=T:=decide_eq_true X;refine aM a7<|Cq aA<|Cq aA<|Cq cF<|Cq aA<|Of<|Of<|Of<|Of<|Cq C6<|Cq aA<|Of<|Of<|Of<|Of<|Cq cD<|Cq aA<|Of<|Of<|Of<|Of<|Of<|Of<|Of<|Cq cD<|Cq aA<|Of<|Of<|Of<|Of<|Of<|Of<|Of<|Cq cD<|bG<|Kr ?_;exact⟨Z,⟨_,Z,((E (.inl c0)).symm)⟩,Z,Z,Z⟩
   have e1:θ (((p+c:Nat):Int)=(p:Int))=η:=decide_eq_false X;by_cases κ:p+c<C l
   .have e2:θ ((N (a_ l):Int)<=((p+c:Nat):Int))=η:=decide_eq_false X;have ⟨b,x⟩:=aR κ;have y:R[c]?=A b:=(K c).trans x;have L:=zA x;by_cases J:b=58
    .have e3:(!θ (aZ (a_ l) (p+c)=58))=η:=by rw[L,J];rfl
     by_cases P:decDigits n=R.take c
     .have e4:(!θ (a_ (decDigits n)=a_ (R.take c)))=η:=by rw[P,decide_eq_true rfl];rfl
      have δ:θ ((C l - (p+c) - 1:Nat)<(n:Int))=a:=by
       by_cases h:C R - c - 1<n
       .rw[E (.inr (.inr (.inr h)))];exact decide_eq_true X
       rw[u (λh2=>h2.elim c0 λh2=>h2.elim (λh2=>h2 (by rw[y,J])) λh2=>h2.elim (λh2=>h2 P) h)];exact decide_eq_false X
      refine aM a7<|Cq aA<|Cq aA<|Cq cF<|Cq aA<|Nf aA<|Nf aA<|Nf (gL U_)<|Nf AF<|Cq sQ<|Cq aA<|Nf aA<|Nf aA<|Nf (ky U_)<|Nf xI<|Cq sQ<|Cq aA<|Nf aA<|Nf (kc gW (i _))<|Nf aA<|Nf aA<|Nf aA<|Nf (bM (l:=p) (h:=p+c) Z U_ Z Z Z X X f)<|Nf E4<|Cq sQ<|Cq aA<|Nf aA<|Nf aA<|Nf (gL U_)<|Nf aA<|Nf (by exact dT Z Z Z (show ξ.wrap ((N (a_ l):Int) - ((p+c:Nat):Int))=((C l - (p+c):Nat):Int)by rw[hz,lT X X];omega))<|Nf (by exact dT Z Z Z (show ξ.wrap (((C l - (p+c):Nat):Int) - 1)=((C l - (p+c) - 1:Nat):Int)by rw[lT X X];omega)) ?_;refine Nf iX<|Cq sQ<|bG<|Kr ?_;exact⟨Z,⟨_,Z,δ⟩,Z,Z,Z⟩
     have e4:(!θ (a_ (decDigits n)=a_ (R.take c)))=T:=by
      rw[decide_eq_false λe=>P (by have:=congrArg (λs:B_=>ν (μ s)) e;simpa only[cG]using this)];rfl
     refine aM a7<|Cq aA<|Cq aA<|Cq cF<|Cq aA<|Nf aA<|Nf aA<|Nf (gL U_)<|Nf AF<|Cq sQ<|Cq aA<|Nf aA<|Nf aA<|Nf (ky U_)<|Nf xI<|Cq sQ<|Cq aA<|Nf aA<|Nf (kc gW (i _))<|Nf aA<|Nf aA<|Nf aA<|Nf (bM (l:=p) (h:=p+c) Z U_ Z Z Z X X f)<|Nf E4<|Cq sQ<|Cq aA<|Of<|Of<|Of<|Of<|Of<|Of<|Of<|Cq C6<|bG<|Kr ?_;exact⟨Z,⟨_,Z,((E (.inr (.inr (.inl P)))).symm)⟩,Z,Z,Z⟩
    have e3:(!θ (aZ (a_ l) (p+c)=58))=T:=by
     rw[L,decide_eq_false λe=>J (UInt8.toNat_inj.1 (by show b.toNat=58;omega))];rfl
    refine aM a7<|Cq aA<|Cq aA<|Cq cF<|Cq aA<|Nf aA<|Nf aA<|Nf (gL U_)<|Nf AF<|Cq sQ<|Cq aA<|Nf aA<|Nf aA<|Nf (ky U_)<|Nf xI<|Cq sQ<|Cq aA<|Of<|Of<|Of<|Of<|Of<|Of<|Of<|Cq C6<|Cq aA<|Of<|Of<|Of<|Of<|Of<|Of<|Of<|Cq cD<|bG<|Kr ?_;exact⟨Z,⟨_,Z,(by exact(E (.inr (.inl (by rw[y];exact λe=>J (Option.some.inj e))))).symm)⟩,Z,Z,Z⟩
   have e2:θ ((N (a_ l):Int)<=((p+c:Nat):Int))=T:=decide_eq_true X;refine aM a7<|Cq aA<|Cq aA<|Cq cF<|Cq aA<|Nf aA<|Nf aA<|Nf (gL U_)<|Nf AF<|Cq sQ<|Cq aA<|Of<|Of<|Of<|Of<|Cq C6<|Cq aA<|Of<|Of<|Of<|Of<|Of<|Of<|Of<|Cq cD<|Cq aA<|Of<|Of<|Of<|Of<|Of<|Of<|Of<|Cq cD<|bG<|Kr ?_;exact⟨Z,⟨_,Z,(by exact(E (.inr (.inl (by rw[K,getElem?_eq_none X];exact λe=>by cases e)))).symm)⟩,Z,Z,Z⟩
  refine Cn ?_ ?_<;>intro ρ
  .rw[z (hBi ρ)];refine U aH<|V aH<|aC<|gD (H':=[]) (.inr Z) Z (aI Z) (aI Z) (P_ (r:=.tup [.pv (aK []),bv η])) Qq
  have Q:=hBn ρ;have hg:=hgd Q;rw[d,not_or,not_or,not_or]at Q;have hRc:c<C R:=by
   by_cases h:c<C R
   .exact h
   exact absurd (by rw[getElem?_eq_none X];exact λe=>by cases e) Q.2.1
  have hnn:=Q.2.2.2;have g:(a_ l).extract (p+c+1) (p+c+1+n)=a_ ((R.drop (c+1)).take n):=mR (by rw[gG,cG,cG,q,drop_drop,show p+c+1+n - (p+c+1)=n by omega,show p+(c+1)=p+c+1 by omega]);have hdr:(R.drop (c+1)).drop n=l.drop (p+c+1+n):=by rw[q,drop_drop,drop_drop,show p+(c+1+n)=p+c+1+n by omega]
  rw[hdr]at hg;have j:C (D++[a_ ((R.drop (c+1)).take n)])=C D+1:=by rw[j8];rfl
  have W:rA l=(rA (l.drop (p+c+1+n))).map ((D++[a_ ((R.drop (c+1)).take n)])++·):=by
   rw[hJ,hg];cases rA (l.drop (p+c+1+n))<;>simp
  generalize a_ ((R.drop (c+1)).take n)=A_ at g j W;have o:ξ.wrap (((p+c:Nat):Int)+1)=((p+c+1:Nat):Int):=by rw[lT X X];omega
  have γ:ξ.wrap (((p+c+1:Nat):Int)+(n:Int))=((p+c+1+n:Nat):Int):=by rw[lT X X];omega
  refine aB<|U aA<|Y aA<|Y aA<|Y (ka o)<|Y aA<|Y (ka o)<|Y aA<|Y (ka γ)<|Y (by exact bM (l:=p+c+1) (h:=p+c+1+n) Z U_ Z Z Z X (by rw[hz];omega) g)<|Y (by exact aL [[.str A_]] Z aY Z Z Z Z Z R_)<|Y (by exact bW (ps:=[[.str A_]]) Z aY sW Z Z Z Z Z (dI _) Z R_ (m:=1) Z X Z (gT D A_))<|V aH<|Rd aA<|Y (ka o)<|Y aA<|Y (ka γ)<|Da ?_;refine⟨p+c+1+n,D++[A_],⟨X,by rw[j];omega,W⟩,X,?_⟩;dsimp only;rw[j];exact(cH.wk (Eb<|Ea<|Eb<|T_) (Hc (aN _ _)<|T_) T_)
 have hge:p=C l:=by have:=b_ τ;rw[hz]at this;omega
 rw[hJ,hge,drop_length,PZ];refine aP<|U aA<|Y aH<|V aH<|aC ?_;refine gD (H':=[]) (.inr Z) Z (aI Z) (aI Z) (Fin.st2J (D++[]) (bv T) Z Z (by rw[append_nil]) (by rw[append_nil]) H_) ?_;exact Qq
def qJ(p:j0):List PV:=[.str p.pre,.int .i64 (p.cnt:Int),.str p.sum,aK p.ids]
def pd(P:List j0):PV:=.sl (P.map qJ)
theorem Cg(p:j0)(H:aF)(hl:C p.ids<=2000)(hs:∀s∈p.ids,N s<1000000):RC 61 [av (qJ p)] (bv (AX p.pre p.ids&&θ (yY p.ids=p.sum))) H:=by
 refine aU.pure ?_ (by simp[qJ]) H;have ρ:C (p.ids.map S_)=C p.ids:=g_ _;have G:=TW p.pre p.ids;generalize AX p.pre p.ids=I at G |-;refine Bd func61 Z ntmps61<|U (kb 1)<|V aH<|S<|Sz aH<|aE<|bF (σ:=Nat) (λk=>([(1,.ref 1 0 0 0),(3,iv (k:Int))],[(1,bx 4 92 ((qJ p).map .pv))])) (λk=>k<=C p.ids/\∀j x,j<k->p.ids[j]?=A x->(m6 x=T/\oY p.pre x=T)/\∀(i:Nat) (y:B_),j=i+1->p.ids[i]?=A y->jV y x=T) (λk=>C p.ids - k) 0 ⟨l7 _,λj x h=>by omega⟩ ?_ ?_
 .exact Wk
 rintro k ⟨hk,B⟩;refine S<|U aA<|Y (bC wN)<|Y (bQ aG)<|Y (fM aD)<|V cI<|Cn ?_ ?_<;>intro Q
 .have hlt:k<C p.ids:=I_ Q
  have ⟨x,J⟩:=aR hlt;have hi:=cC (f:=S_) J;have κ:=hs x (m7 J);have ⟨y,hy⟩:∃y,y=p.ids.getD (k - 1) a6:=X_;have K:(0:Int)<(k:Int)->p.ids[k - 1]?=A y:=λh=>by
   have ⟨z,L⟩:=aR (l:=p.ids) (k:=k - 1) X;rw[hy,getD_eq_getElem?_getD,L];rfl
  have g:=λh=>cC (f:=S_) (K h);have D:=λH=>wt x X H;have E:=λH=>Qp x p.pre H;have ⟨a,m⟩:∃a,a=m6 x:=X_;have ⟨b,o⟩:∃b,b=oY p.pre x:=X_;have c:((!a||!b)||(θ ((0:Int)<(k:Int))&&!jV y x))=η->(m6 x=T/\oY p.pre x=T)/\∀(i:Nat) (z:B_),k=i+1->p.ids[i]?=A z->jV z x=T:=λh=>by
   rw[q_,q_,Bool.not_eq_false',Bool.not_eq_false',m,o]at h;refine⟨h.1,λi z e L=>?_⟩;have F:(0:Int)<(k:Int):=X
   have w:=h.2;rw[decide_eq_true F,Bool.true_and,Bool.not_eq_false']at w;have:=K F;rw[show k - 1=i by omega,L]at this;cases this;exact w
  have W:((!a||!b)||(θ ((0:Int)<(k:Int))&&!jV y x))=T->I=η:=λh=>by
   cases r:I with
   |false=>rfl
   |true =>
    have ⟨⟨q1,q2⟩,q3⟩:=G.1 r k x J;rw[<-m]at q1;rw[<-o]at q2;rw[q1,q2,Bool.not_true,Bool.or_false,Bool.false_or,l6,k_,r9]at h;have:=q3 (k - 1) y X (K h.1);rw[h.2]at this;cases this
  have ⟨A_,P⟩:∃A_,A_=((!a||!b)||(θ ((0:Int)<(k:Int))&&!jV y x)):=X_;rw[<-P]at c W;rw[<-m]at D;rw[<-o]at E;clear m o;refine aB<|S<|aE<|S<|pX (t:=46) (n:=36) (A_:=A_) ?_ ?_
  .cases a with
   |false =>
    refine aM a7<|Cq (bC wN)<|Cq (bQ aG)<|Cq aA<|Cq (kx aY hi)<|Cq (fS N_ (hi:=hi))<|Cq (kc call37 (D _))<|Cq iH<|Cq aA<|Of<|Of<|Of<|Of<|Of<|Of<|Of<|Of<|Of<|Cq cD<|Cq aA<|Of<|Of<|Of<|Ou<|Ou<|Ou<|Ou<|Ou<|Ou<|Ou<|Ou<|Ou<|Ou<|Ou<|Ou<|Of<|Cq cD<|bG<|Kr ?_;exact⟨Z,⟨_,Z,(by rw[P];rfl)⟩,Z,Z,Z⟩
   | true =>
    cases b with
    |false =>
     refine aM a7<|Cq (bC wN)<|Cq (bQ aG)<|Cq aA<|Cq (kx aY hi)<|Cq (fS N_ (hi:=hi))<|Cq (kc call37 (D _))<|Cq iH<|Cq aA<|Nf (bC wN)<|Nf (bQ aG)<|Nf aA<|Nf (kx aY hi)<|Nf (fS N_ (hi:=hi))<|Nf (bC cp)<|Nf (bQ N_)<|Nf (kc call94 (E _))<|Nf iH<|Cq cD<|Cq aA<|Of<|Of<|Of<|Ou<|Ou<|Ou<|Ou<|Ou<|Ou<|Ou<|Ou<|Ou<|Ou<|Ou<|Ou<|Of<|Cq cD<|bG<|Kr ?_;exact⟨Z,⟨_,Z,(by rw[P];rfl)⟩,Z,Z,Z⟩
    |true =>
     by_cases F:(0:Int)<(k:Int)
     .have e:θ ((0:Int)<(k:Int))=T:=decide_eq_true F;refine aM a7<|Cq (bC wN)<|Cq (bQ aG)<|Cq aA<|Cq (kx aY hi)<|Cq (fS N_ (hi:=hi))<|Cq (kc call37 (D _))<|Cq iH<|Cq aA<|Nf (bC wN)<|Nf (bQ aG)<|Nf aA<|Nf (kx aY hi)<|Nf (fS N_ (hi:=hi))<|Nf (bC cp)<|Nf (bQ N_)<|Nf (kc call94 (E _))<|Nf iH<|Cq cD<|Cq aA<|Nf aA<|Nf iX<|Nf aA<|Nt (bC wN)<|Nt (bQ aG)<|Nt aA<|Nt (by exact dT Z Z Z (show ξ.wrap ((k:Int) - 1)=((k - 1:Nat):Int)by rw[lT X X];omega))<|Nt (bP Z aY Z Z X (l_ _) (g F) Z)<|Nt (eF Z N_ Z (g F) Z) ?_;refine Nt (bC wN)<|Nt (bQ aG)<|Nt aA<|Nt (kx aY hi)<|Nt (fS N_ (hi:=hi))<|Nt (KY Z Z Z)<|Nf C6<|Cq cD<|bG<|Kr ?_;exact⟨Z,⟨_,Z,(by rw[P,e];rfl)⟩,Z,Z,Z⟩
     have e:θ ((0:Int)<(k:Int))=η:=decide_eq_false F;refine aM a7<|Cq (bC wN)<|Cq (bQ aG)<|Cq aA<|Cq (kx aY hi)<|Cq (fS N_ (hi:=hi))<|Cq (kc call37 (D _))<|Cq iH<|Cq aA<|Nf (bC wN)<|Nf (bQ aG)<|Nf aA<|Nf (kx aY hi)<|Nf (fS N_ (hi:=hi))<|Nf (bC cp)<|Nf (bQ N_)<|Nf (kc call94 (E _))<|Nf iH<|Cq cD<|Cq aA<|Nf aA<|Nf iX<|Nf aA<|Ot<|Ot<|Ot<|Ot<|Ot<|Ot<|Ot<|Ot<|Ot<|Ot<|Ot<|Ot<|Nf sQ<|Cq cD<|bG<|Kr ?_;exact⟨Z,⟨_,Z,(by rw[P,e];rfl)⟩,Z,Z,Z⟩
  refine Cn ?_ ?_<;>intro R
  .rw[W R];exact Sz aH<|aC<|Rt<|Qq
  have d:=c R;refine aB<|Rd aA<|Y kp<|Da ?_;refine⟨k+1,⟨X,λj z hj L=>?_⟩,X,Wk⟩;by_cases e:j=k
  .subst e;rw[J]at L;cases L;exact d
  exact B j z X L
 have τ:k=C p.ids:=J_ Q
 have B:∀(j:Nat) (x:B_),p.ids[j]?=A x->(m6 x=T/\oY p.pre x=T)/\∀(i:Nat) (y:B_),j=i+1->p.ids[i]?=A y->jV y x=T:=λj x J=>B j x (by have:=(m9.1 J).1;omega) J;have q:I=T:=G.2 B;rw[q,Bool.true_and];have u:=λH=>wq p.ids hl (λs v=>by
  have ⟨j,hj⟩:=s8.1 v;have:=iJ (B j s hj).1.1;omega) H
 exact aP<|S<|aM a7<|Cq (bC wN)<|Cq (bQ aG)<|Cq (kc call52 (u _))<|Cq (bC Pf)<|Cq (bQ N_)<|Cq wU<|Cq aH<|bG<|Kr<|aC<|Rt<|Qq
def VR:Nat->List B_->Option (List j0×List B_)
 |0,l=>A ([],l)
 |n+1,a::b::c::r =>
  if((!lW a||θ (eQ b<0))||!m6 c)=T then ζ
  else if eQ b<=16 then(if(C r:Int)<eQ b then ζ else if(AX a (r.take (eQ b).toNat)&&θ (yY (r.take (eQ b).toNat)=c))=T then(VR n (r.drop (eQ b).toNat)).map (λq=>(⟨a,(eQ b).toNat,c,r.take (eQ b).toNat⟩::q.1,q.2))else ζ)
  else(VR n r).map (λq=>(⟨a,(eQ b).toNat,c,[]⟩::q.1,q.2))
 |_,_=>ζ
theorem aBV{a:B_}{P:List j0}(h:SW (a::l)=A P):P≠[]:=by
 match l,h with
 | [],h=>rw[KR H_ H_]at h;cases h
 | [b],h=>rw[KR H_ H_]at h;cases h
 | b::c::r,h =>
  by_cases B:((!lW a||θ (eQ b<0))||!m6 c)=T
  .rw[ae r B]at h;cases h
  rw[SV r (by simpa using B)]at h;rintro rfl
  split at h
  .split at h
   .cases h
   split at h
   .have ⟨q,_,e⟩:=Option.map_eq_some_iff.1 h;cases e
   cases h
  have ⟨q,_,e⟩:=Option.map_eq_some_iff.1 h;cases e
theorem ab:∀(n:Nat) (l:List B_) (P:List j0),VR n l=A (P,[])↔SW l=A P/\C P=n
 |0,l,P=>by
  rw[VR];constructor
  .intro h;cases h;exact⟨QD,Z⟩
  rintro⟨B,E⟩;have J:=length_eq_zero_iff.1 E;subst J;cases l with
  |nil=>rfl
  |cons a l=>exact absurd Z (aBV B)
 |n+1,[],P=>by
  rw[show VR (n+1) []=ζ from Z,QD];constructor
  .intro h;cases h
  rintro⟨B,E⟩;cases B;cases E
 |n+1,[a],P=>by
  rw[show VR (n+1) [a]=ζ from Z,KR H_ H_];constructor
  .intro h;cases h
  rintro⟨B,E⟩;cases B
 |n+1,[a,b],P=>by
  rw[show VR (n+1) [a,b]=ζ from Z,KR H_ H_];constructor
  .intro h;cases h
  rintro⟨B,E⟩;cases B
 | n+1,a::b::c::r,P=>by
  rw[VR];by_cases F:((!lW a||θ (eQ b<0))||!m6 c)=T
  .rw[b6 F,ae r F];constructor
   .intro h;cases h
   rintro⟨B,E⟩;cases B
  rw[a8 F,SV r (by simpa using F)];have key:∀(p:j0) (t:List B_),((VR n t).map (λq=>(p::q.1,q.2))=A (P,[])↔(SW t).map (p::·)=A P/\C P=n+1):=λp t=>by
   rw[Option.map_eq_some_iff,Option.map_eq_some_iff];constructor
   .rintro⟨⟨Q,z⟩,B,E⟩;cases E;have ⟨G,H⟩:=(ab n t Q).1 B;exact⟨⟨Q,G,Z⟩,by rw[j6,H]⟩
   rintro⟨⟨Q,G,rfl⟩,H⟩;exact⟨(Q,[]),(ab n t Q).2 ⟨G,by simpa using H⟩,Z⟩
  have D:((ζ:Option (List j0×List B_))=A (P,[])↔(ζ:Option (List j0))=A P/\C P=n+1):=⟨(λh=>by cases h),(λh=>by have:=h.1;cases this)⟩
  split
  .next h16 =>
   have I:AQ ⟨a,(eQ b).toNat,c,r.take (eQ b).toNat⟩=(AX a (r.take (eQ b).toNat)&&θ (yY (r.take (eQ b).toNat)=c)):=by
    rw[AQ,decide_eq_true (show (((⟨a,(eQ b).toNat,c,r.take (eQ b).toNat⟩:j0).cnt:Nat):Int)<=16 by show ((eQ b).toNat:Int)<=16;omega)];rfl
   rw[I]
   split
   .exact D
   split
   .exact key _ _
   exact D
  exact key _ _
def E7(r4:Int)(l:List B_):List j0×Bool:=match VR r4.toNat l with
 |none=>([],η)
 |some (P,t)=>(P,θ (1<=r4)&&θ (t=[]))
def wI(m:B_):List j0×Bool:=if WA (rA (ν (μ m)))=T then([],η)else match rA (ν (μ m)) with
 |some (_::n::r)=>E7 (eQ n) r
 |_=>([],η)
theorem qe(m:B_):(wI m).2=θ (uS m≠[])/\((wI m).2=T->(wI m).1=uS m):=by
 rw[wI];by_cases hX:WA (rA (ν (μ m)))=T
 .rw[b6 hX,jd hX];exact⟨Z,λh=>by cases h⟩
 rw[a8 hX];obtain ⟨n,r,e1,e2⟩:=bj (by simpa using hX);rw[e1,e2];show (E7 (eQ n) r).2=_/\((E7 (eQ n) r).2=true->(E7 (eQ n) r).1=_);have hlt:=GW n;generalize eQ n=v at hlt |-;have hiff:=ab v.toNat r;rw[E7];cases hp:VR v.toNat r with
 | none =>
  rw[hp]at hiff;refine⟨?_,λh=>by cases h⟩;symm;apply decide_eq_false;intro h;apply h;cases hq:SW r with
  |none=>rfl
  |some P =>
   show (if(C P:Int)=v then P else[])=[]
   split
   .next e=>have:=(hiff P).2 ⟨hq,X⟩;cases this
   rfl
 | some q =>
  have ⟨P,t⟩:=q;rw[hp]at hiff;show (θ (1<=v)&&θ (t=[]))=_/\((θ (1<=v)&&θ (t=[]))=T->P=_);by_cases ht:t=[]
  .subst ht;have ⟨e1,e2⟩:=(hiff P).1 Z;rw[e1];show (θ (1<=v)&&T)=θ ((if(C P:Int)=v then P else[])≠[])/\_;by_cases h1:1<=v
   .rw[b6 X,decide_eq_true h1];have hP:P≠[]:=λe=>by rw[e]at e2;simp at e2;omega
    refine⟨by rw[decide_eq_true hP];rfl,λ_=>?_⟩;show P=if(C P:Int)=v then P else[]
    rw[b6 X]
   rw[decide_eq_false h1];refine⟨?_,λh=>by cases h⟩;symm;apply decide_eq_false;intro h;apply h
   split
   .next e=>exact length_eq_zero_iff.1 X
   rfl
  rw[decide_eq_false ht,Bool.and_false];refine⟨?_,λh=>by cases h⟩;symm;apply decide_eq_false;intro h;apply h;cases hq:SW r with
  |none=>rfl
  | some Q =>
   show (if(C Q:Int)=v then Q else[])=[]
   split
   .next e =>
    have:=(hiff Q).2 ⟨hq,X⟩;cases this;exact absurd Z ht
   rfl
theorem ia(P:List j0):∀r∈P.map qJ,C r=4:=λr B=>by
 obtain ⟨p,_,rfl⟩:=mem_map.1 B;rfl
abbrev S4(P:List j0):List (List AV):=Cu (P.map qJ)
theorem Fin.p52{H1:aF}{g:Nat}{ob:Ob}(l:List j0)(v:AV)(D:H1.get id=A ob)(E:ob.g=g)(B:ob.rows=S4 l)(F:n=C l)(G:Clo [] v):
  Fin [] H1 (.tup [.osl id g 0 n,v]) [] (.tup [.pv (pd l),v]):=by
 subst F E;exact Fin.fz (id:=id) (ob:=ob) (l.map qJ) D B (.tup Z (bA (.osl (lC qJ l)) (bA (.same G) jA))) Z T_ T_
theorem r5{p:Prop}(h:p:=by simp only[Zl,S_,qJ];rfl):p:=h
theorem XM(t:B_)(H:aF)(ht:N t<1000000):RC 23 [sv t] (.tup [.pv (pd (wI t).1),bv (wI t).2]) H:=by
 refine Pu ?_;have G:=λH=>Bp (ν (μ t)) H i8;rw[gE]at G;have hy:WA (rA (ν (μ t)))=T->wI t=([],η):=λh=>by rw[wI,b6 h]
 have hn:WA (rA (ν (μ t)))=η->∃n r,rA (ν (μ t))=A (fA::n::r)/\wI t=E7 (eQ n) r:=λh=>by
  have ⟨n,r,e,_⟩:=bj h;exact⟨n,r,e,by rw[wI,a8 (by rw[h];decide),e]⟩
 have I:∀s∈(rA (ν (μ t))).getD [],N s<1000000:=λs g=>by
  cases h:rA (ν (μ t)) with
  |none=>rw[h]at g;cases g
  |some L =>
   rw[h]at g;have:=(xD _ _ L (h_ _) h).2 s g;rw[aS]at this;omega
 have γ:C ((rA (ν (μ t))).getD [])<1000000:=by
  cases h:rA (ν (μ t)) with
  |none=>exact zero_lt_succ _
  |some L =>
   have:=(xD _ _ L (h_ _) h).1;rw[aS]at this;show C L<_;omega
 generalize rA (ν (μ t))=z at G hy hn I γ;have hX:WA z=((!z.isSome||θ ((C ((z.getD []).map S_):Int)<2))||!θ ((z.getD []).headD a6=fA)):=rfl;generalize wI t=W at hy hn |-;have ⟨o,ho⟩:∃o,o=z.isSome:=X_;have ⟨L,hL⟩:∃L,L=z.getD []:=X_;have hzL:∀e_,z=A e_->L=e_:=λe_ h=>by rw[hL,h];rfl
 rw[<-ho,<-hL]at G hX;rw[<-hL]at I γ;generalize WA z=A_ at hX hy hn;have hn:A_=η->∃n r,L=fA::n::r/\W=E7 (eQ n) r:=λh=>by
  have ⟨n,r,e1,D⟩:=hn h;exact⟨n,r,hzL _ e1,D⟩
 clear ho hL hzL;have h0:¬ ((C (L.map S_):Int)<2)->(L.map S_)[0]?=A (S_ (L.headD a6)):=λh=>by
  cases L with
  |nil=>exact absurd E_ h
  |cons a L=>rfl
 refine Bd func23 Z ntmps23<|U aH<|V aH<|U aA<|Y (kc call58 (G _))<|Y aA<|Y dO<|Y dO<|Y aH<|V aH<|S<|S<|aT (t:=28) (n:=15) (A_:=A_) ?_ ?_
 .all_goals refine Y aA<|Y iH<|Dm ?_<;>(refine Sp 18 (λh18=>?_) λh18=>?_)<;>(try exact w_)<;>(first|refine M<|M<|M ?_|refine O aA<|O (fM aD)<|O cI ?_)<;>refine Y cD<|Dm ?_<;>(refine Sp 23 (λβ=>?_) λβ=>?_)<;>(try exact w_)<;>(first|refine M<|M<|M<|M ?_|refine O aA<|O (bP Z aY Z Z X (l_ _) (h0 (b_ β)) Z)<|O (eF Z N_ Z (h0 (b_ β)) Z)<|O E4 ?_)<;>refine V cD ?_<;>exact Gj (h:=by rw[hX];first|(rw[h18];rfl)|(rw[h18,β];rfl))
 refine Cn ?_ ?_<;>intro hc1
 .rw[hy hc1];refine U aH<|V aH<|aC<|gD (H':=[]) (.inr Z) Z (aI Z) (aI Z) (P_ (r:=.tup [.pv (pd []),bv η])) Qq
 have ⟨n,B,e1,D⟩:=hn hc1;subst e1;have E:C ((fA::n::B).map S_)=C B+2:=g_ _;have d:∀s∈B,N s<1000000:=λs g=>I s (by simp[g]);have κ:=λH=>TG (ν (μ n)) H (by have:=I n H_;rw[aS];omega);rw[gE]at κ;have hlt:=GW n;generalize eQ n=r4 at κ D hlt;rw[E7]at D;simp only[j6]at γ;have F:∀(j:Nat) (x:B_),B[j]?=A x->((fA::n::B).map S_)[2+j]?=A (S_ x):=λj x hx=>by
  rw[Nat.add_comm];show (B.map S_)[j]?=_;rw[r8,hx];rfl
 have u:∀j:Nat,((fA::n::B).map S_).drop (2+j)=(B.drop j).map S_:=λj=>by
  rw[Nat.add_comm];show (B.map S_).drop j=_;rw[map_drop]
 clear hX hn hy I h0 G;have ⟨Q,hQ⟩:∃Q,Q=(fA::n::B).map S_:=X_;refine aB<|U aA<|Y (bP Z aY Z Z X (l_ _) (show ((fA::n::B).map S_)[1]?=A (S_ n)from Z) Z)<|Y (eF Z N_ Z (show ((fA::n::B).map S_)[1]?=A (S_ n)from Z) Z)<|Y (kc call59 (κ _))<|V aH<|Sz (dZ (id:=905) (sz:=4) (ty:=92) Z Z Z)<|Sz aH<|S<|Sz aH<|aE<|eZ (λ(j:Nat) (P:List j0)=>([(4,.pv (aK (fA::n::B))),(6,iv r4),(7,.osl 905 (C P) 0 (C P)),(8,iv ((2+j:Nat):Int)),(9,iv (C P:Int))],[(905,⟨C P,4,92,S4 P⟩)])) (λj P=>j<=C B/\C P<=j/\C P<=r4.toNat/\VR r4.toNat B=(VR (r4.toNat - C P) (B.drop j)).map (λq=>(P++q.1,q.2))) (λj P=>C B - j) 0 [] ⟨l7 _,h_ _,l7 _,by show _=(VR r4.toNat B).map _;cases VR r4.toNat B<;>rfl⟩ ?_ ?_
 .exact Wk
 rintro j P ⟨hj,hPj,hPN,hpt⟩;refine S<|U aA<|Y aA<|V cI<|Cn ?_ ?_<;>intro hc2
 .have hPN2:C P<r4.toNat:=I_ hc2
  have ⟨m,hm⟩:∃m,r4.toNat - C P=m+1:=⟨r4.toNat - C P - 1,X⟩;rw[hm]at hpt;refine aB<|S<|aE<|S<|U aA<|Y (by exact dD Z Z Z (show ξ.wrap (((2+j:Nat):Int)+3)=((2+(j+3):Nat):Int)by rw[lT X X];omega))<|Y aA<|Y (fM aD)<|V iX ?_;refine Cn ?_ ?_<;>intro hc3
  .have hshort:C B<j+3:=by have:=b9 hc3;rw[E]at this;omega
   have δ:VR (m+1) (B.drop j)=ζ:=by
    have hl:C (B.drop j)<3:=by rw[p_];omega
    generalize B.drop j=l at hl
    match l,hl with
    | [],_=>rfl
    | [a],_=>rfl
    | [a,b],_=>rfl
   rw[hpt,δ]at D;rw[D];refine U aH<|V aH<|aC<|gD (H':=[]) (.inr Z) Z (aI Z) (aI Z) (P_ (r:=.tup [.pv (pd []),bv η])) Qq
  have ρ:j+3<=C B:=by have:=b_ hc3;rw[E]at this;omega
  have ⟨a,w⟩:=aR (l:=B) (k:=j) X;have ⟨b,y⟩:=aR (l:=B) (k:=j+1) X;have ⟨c,τ⟩:=aR (l:=B) (k:=j+2) X;have hdr:B.drop j=a::b::c::B.drop (j+3):=by
   have ⟨i1,e1⟩:=m9.1 w;have ⟨i2,D⟩:=m9.1 y;have ⟨i3,e3⟩:=m9.1 τ;rw[drop_eq_getElem_cons i1,drop_eq_getElem_cons i2,drop_eq_getElem_cons i3,e1,D,e3]
  have hal:=d a (m7 w);have hbl:=d b (m7 y);have hcl:=d c (m7 τ);have hia:=F _ _ w;have hib:=F _ _ y;have hic:=F _ _ τ;have hvl:=GW b;have K:=λH=>TG (ν (μ b)) H i8;rw[gE]at K;have p:=λH=>tt a H X;have σ:=λH=>wt c X H;rw[hdr,VR]at hpt;generalize eQ b=v at hpt K hvl;generalize lW a=pa at hpt p;generalize m6 c=jc at hpt σ;have ⟨y_,hY⟩:∃y_,y_=((!pa||θ (v<0))||!jc):=X_;rw[<-hY]at hpt;refine aB<|S<|aM a7<|x_ aA<|x_ aA<|x_ (by exact bP Z aY Z Z X (l_ _) hia Z)<|x_ ((fS N_ (hi:=hia)))<|x_ aA<|x_ aA<|x_ (by exact dD Z Z Z (show ξ.wrap (((2+j:Nat):Int)+1)=((2+(j+1):Nat):Int)by rw[lT X X];omega))<|x_ (by exact bP Z aY Z Z X (l_ _) hib Z)<|x_ ((fS N_ (hi:=hib)))<|x_ (by exact bH Z Z call59 Z (K _))<|x_ aA<|x_ aA<|x_ (by exact dD Z Z Z (show ξ.wrap (((2+j:Nat):Int)+2)=((2+(j+2):Nat):Int)by rw[lT X X];omega)) ?_;refine x_ (by exact bP Z aY Z Z X (l_ _) hic Z)<|x_ ((fS N_ (hi:=hic)))<|x_ ((oD aGC))<|Cp [10] (λH1 hH=>by exact CN (id:=10) Z aFW Z ((hH _ Z).trans Z))<|Cp [10] (λ_ h=>sa sizeOf92 h)<|bG<|Kr<|U aA<|Y (by exact dD Z Z Z (show ξ.wrap (((2+j:Nat):Int)+3)=((2+(j+3):Nat):Int)by rw[lT X X];omega))<|V aH<|S<|S ?_;refine aT (t:=75) (n:=17) (A_:=y_) ?_ ?_
  .all_goals refine Y (bC cp)<|Y (bQ N_)<|Y (kc call60 (p _))<|Y iH<|Dm ?_<;>(refine Sp 65 (λh65=>?_) λh65=>?_)<;>(try exact w_)<;>(first|refine M<|M<|M ?_|refine O (bC UB)<|O (bQ M_)<|O cI ?_)<;>refine Y cD<|Dm ?_<;>(refine Sp 70 (λh70=>?_) λh70=>?_)<;>(try exact w_)<;>(first|refine M<|M<|M<|M ?_|refine O (bC Pf)<|O (bQ N_)<|O (kc call37 (σ _))<|O iH ?_)<;>refine V cD ?_<;>exact Gj (h:=by rw[hY];first|(rw[h65];rfl)|(rw[h65,h70];rfl))
  refine Cn ?_ ?_<;>intro hc4
  .rw[b6 hc4]at hpt;rw[hpt]at D;rw[D];refine U aH<|V aH<|aC<|gD (H':=[]) (.inr Z) Z (aI Z) (aI Z) (P_ (r:=.tup [.pv (pd []),bv η])) Qq
  have hYf:y_=η:=hc4;rw[a8 (by rw[hYf];decide)]at hpt;have hv0:0<=v:=by
   rw[hYf]at hY;have:=hY.symm;rw[q_,q_,q7]at this;omega
  obtain ⟨k,rfl⟩:∃k:Nat,v=(k:Int):=⟨v.toNat,X⟩;rw[l_]at hpt;clear hY K p σ;refine aB<|eR (λ(q:List B_×Nat)=>([(4,.pv (aK (fA::n::B))),(6,iv r4),(7,.osl 905 (C P) 0 (C P)),(8,iv ((2+q.2:Nat):Int)),(9,iv (C P:Int)),(10,.ref 10 0 0 0)],[(10,bx 4 92 [sv a,iv (k:Int),sv c,.pv (aK q.1)]),(905,⟨C P,4,92,S4 P⟩)])) (λq=>j+3<=q.2/\q.2<=C B/\VR r4.toNat B=((VR m (B.drop q.2)).map (λz=>(⟨a,k,c,q.1⟩::z.1,z.2))).map (λz=>(P++z.1,z.2))) ?_ ?_
  .refine U (bC UB)<|Y (bQ M_)<|V H7<|Cn ?_ ?_<;>intro hc5
   .have h16:(k:Int)<=16:=b9 hc5;rw[b6 h16]at hpt;refine S<|U aA<|Y (bC UB)<|Y (bQ M_)<|Y (by exact dD Z Z Z (show ξ.wrap (((2+(j+3):Nat):Int)+(k:Int))=((2+(j+3+k):Nat):Int)by rw[lT X X];omega))<|Y aA<|Y (fM aD)<|V iX ?_;refine Cn ?_ ?_<;>intro hc6
    .have hgt:(C (B.drop (j+3)):Int)<(k:Int):=by have:=b9 hc6;rw[E]at this;rw[p_];omega
     rw[b6 hgt]at hpt;rw[hpt]at D;rw[D];refine U aH<|V aH<|aC<|gD (H':=[]) (.inr Z) Z (aI Z) (aI Z) (P_ (r:=.tup [.pv (pd []),bv η])) Qq
    have hgt:j+3+k<=C B:=by have:=b_ hc6;rw[E]at this;omega
    rw[a8 u6]at hpt;have i:(((fA::n::B).map S_).take (2+(j+3+k))).drop (2+(j+3))=((B.drop (j+3)).take k).map S_:=by
     rw[drop_take,u,show 2+(j+3+k) - (2+(j+3))=k by omega,map_take]
    have hq:C ((B.drop (j+3)).take k)<=2000:=by rw[m_];omega
    have f:=λH=>Cg ⟨a,k,c,(B.drop (j+3)).take k⟩ H hq (λs g=>d s (mem_of_mem_drop (mem_of_mem_take g)));rw[drop_drop]at hpt;simp only at f;generalize (B.drop (j+3)).take k=J at hpt i f hq;generalize (AX a J&&θ (yY J=c))=rb at hpt f;refine aB<|U aA<|Y aA<|Y aA<|Y (bC UB)<|Y (bQ M_)<|Y (by exact dD Z Z Z (show ξ.wrap (((2+(j+3):Nat):Int)+(k:Int))=((2+(j+3+k):Nat):Int)by rw[lT X X];omega))<|Y (by exact eM (l:=2+(j+3)) (h:=2+(j+3+k)) Z aY Z (dX (fA::n::B)) Z Z X (by rw[E];omega) i)<|Y (bC wN)<|Uu (ku sizeOf22)<|Zz<|U aA<|Y (bC UB)<|Y (bQ M_)<|Y (by exact dD Z Z Z (show ξ.wrap (((2+(j+3):Nat):Int)+(k:Int))=((2+(j+3+k):Nat):Int)by rw[lT X X];omega))<|V aH<|U (by exact aW Z isAgg92 sizeOf92 Z Z Z Z r5 Z) ?_;refine Y (kc call61 (f _))<|V iH<|Cn ?_ ?_<;>intro hc7
    .rw[a8 (by have h:=hc7;intro e;rw[e]at h;cases h)]at hpt;rw[hpt]at D;rw[D];refine U aH<|V aH<|aC<|gD (H':=[]) (.inr Z) Z (aI Z) (aI Z) (P_ (r:=.tup [.pv (pd []),bv η])) Qq
    rw[b6 (nX hc7)]at hpt;refine aB ?_;exact⟨(J,j+3+k),⟨by simp only;omega,by simp only;omega,hpt⟩,Wk⟩
   rw[a8 (b_ hc5)]at hpt;refine aB ?_;exact⟨([],j+3),⟨h_ _,ρ,hpt⟩,Wk⟩
  rintro⟨J,j2⟩ ⟨hj2,hj3,hq⟩;simp only at hj2 hj3 hq;refine Rd aA<|Y (by exact aW Z isAgg92 sizeOf92 Z Z Z Z r5 Z)<|Y (aL [qJ ⟨a,k,c,J⟩] Z aDY Z Z Z Z Z (ia [⟨a,k,c,J⟩]))<|Y (by exact bW (k:=C P+1) (ps:=[qJ ⟨a,k,c,J⟩]) Z aDY aFv Z Z Z Z Z (by rw[KM,g_]) Z (ia [⟨a,k,c,J⟩]) (m:=1) Z X Z (rows':=S4 (P++[⟨a,k,c,J⟩])) (by rw[S4,S4,map_append,Cu,Cu,map_append];rfl))<|V aH<|Rd aA<|Y kp<|Da ?_;have R:C (P++[(⟨a,k,c,J⟩:j0)])=C P+1:=by rw[j8];rfl
  refine⟨j2,P++[⟨a,k,c,J⟩],⟨hj3,by rw[R];omega,by rw[R];omega,?_⟩,X,?_⟩
  .rw[hq,R,show r4.toNat - (C P+1)=m by omega];cases VR m (B.drop j2)with
   |none=>rfl
   |some z=>simp
  dsimp only;rw[R];exact L_
 have hge:r4.toNat<=C P:=J_ hc2
 have hPl:C (S4 P)=C P:=by rw[KM,g_]
 rw[show r4.toNat - C P=0 by omega,VR]at hpt;rw[hpt]at D;have e3:W=(P,θ (1<=r4)&&θ (B.drop j=[])):=by
  rw[D];show (P++[],_)=_;rw[append_nil]
 have hdt:θ (B.drop j=[])=θ (((2+j:Nat):Int)=(C ((fA::n::B).map S_):Int)):=by
  rw[E];exact decide_eq_decide.2 ⟨λh=>by have:=congrArg List.length h;rw[p_]at this;simp at this;omega,λh=>drop_eq_nil_of_le X⟩
 rw[hdt]at e3;rw[e3];by_cases h1:1<=r4
 .have e:θ (1<=r4)=T:=decide_eq_true h1;refine aP<|U aA<|Y aA<|Y AF<|Y aA<|Oa aA<|Oa aA<|Oa (fM aD)<|Oa cF<|Y C6<|Y aH<|V aH<|aC ?_;refine gD (H':=[]) (.inr Z) Z (aI Z) (aI Z) (Fin.p52 (id:=905) P (bv (θ (((2+j:Nat):Int)=(C ((fA::n::B).map S_):Int)))) Z Z Z Z H_) ?_;exact⟨by rw[e];rfl,Z⟩
 have e:θ (1<=r4)=η:=decide_eq_false h1;refine aP<|U aA<|Y aA<|Y AF<|Y aA<|Fa<|Fa<|Fa<|Fa<|Y sQ<|Y aH<|V aH<|aC ?_;refine gD (H':=[]) (.inr Z) Z (aI Z) (aI Z) (Fin.p52 (id:=905) P (bv η) Z Z Z Z H_) ?_;exact⟨by rw[e];rfl,Z⟩
theorem Je{D B:List B_}(h:∀k,k<=19->C (lF D B k).q<=1000):∀k,k<=19->C (lF D B k).ag<=1000*k/\C (lF D B k).bg<=1000*k/\(lF D B k).ao<=1+1000*k/\(lF D B k).bo<=1000*k
 |0,_=>⟨h_ _,h_ _,h_ _,h_ _⟩
 | k+1,hk=>by
  obtain ⟨I,J,K,L⟩:=Je h k X;have H:=h k X;have E:=h (k+1) hk;have G:=length_filter_le recT (lF D B k).q;rw[lF]at E |-;by_cases F:k % 2=0
  .rw[b6 F]at E |-;have E:C ((lF D B k).q.flatMap (gR B))<=1000:=E;have c1:=countP_le_length (p:=offB) (l:=(lF D B k).q.flatMap (gR B));refine⟨by show C (lF D B k).ag<=_;omega,?_,by show (lF D B k).ao<=_;omega,?_⟩
   .show C ((lF D B k).bg++(lF D B k).q.filter recT)<=_;rw[j8];omega
   show (lF D B k).bo+_<=_;omega
  rw[a8 F]at E |-;have E:C ((lF D B k).q.flatMap (gR D))<=1000:=E;have c1:=countP_le_length (p:=offB) (l:=(lF D B k).q.flatMap (gR D));refine⟨?_,by show C (lF D B k).bg<=_;omega,?_,by show (lF D B k).bo<=_;omega⟩
  .show C ((lF D B k).ag++(lF D B k).q.filter recT)<=_;rw[j8];omega
  show (lF D B k).ao+_<=_;omega
theorem ZM{D B:List B_}{k:Nat}(h:(lF D B k).q=[]):∀j,lF D B (k+j)=lF D B k
 |0=>rfl
 | j+1=>by
  have e:=ZM h j;rw[<-Nat.add_assoc,lF]
  split
  all_goals
   rw[e];generalize lF D B k=s at h |-;have ⟨a,b,c,d,q⟩:=s;have h:q=[]:=h;subst h;simp[fi,fg]
def nj(D B:List B_):Nat->Nat
 |0=>0
 |k+1=>if k % 2=0 then nj D B k else nj D B k+C (lF D B k).q
def ni(D B:List B_):Nat->Nat
 |0=>0
 |k+1=>if k % 2=0 then ni D B k+C (lF D B k).q else ni D B k
theorem zf{D B:List B_}{k:Nat}(h:(lF D B k).q=[]):∀j,nj D B (k+j)=nj D B k/\ni D B (k+j)=ni D B k
 |0=>⟨Z,Z⟩
 |j+1=>by
  obtain ⟨E,F⟩:=zf h j;have e:C (lF D B (k+j)).q=0:=by rw[ZM h j,h];rfl
  rw[<-Nat.add_assoc,nj,ni,e,E,F,Nat.add_zero,Nat.add_zero,ite_self,ite_self];exact Qq
theorem xz(t:B_):(wI t).2=offB t:=by rw[(qe t).1,offB];cases uS t<;>simp
theorem HA{q:List B_}(f:B_->List B_)(i:Nat):C ((q.take i).flatMap f)<=C (q.flatMap f):=by have h:=congrArg (λl=>C (List.flatMap f l)) (take_append_drop i q);simp only[flatMap_append,j8]at h;omega
theorem UQ{p:B_->Bool}{j:Nat}(h:l[j]?=A x):(l.take (j+1)).countP p=(l.take j).countP p+(if p x=T then 1 else 0):=by
 rw[eP h,countP_append];by_cases B:p x=T
 .rw[b6 B,countP_cons_of_pos B];rfl
 rw[a8 B,countP_cons_of_neg B];rfl
abbrev Su(u4:List B_)(id g n o:Nat):Ob:=bx 3 38 [.pv (aK u4),.osl id g 0 n,iv (o:Int)]
abbrev sdF(u4 g:List B_)(o:Nat):Ob:=bx 3 38 [.pv (aK u4),.pv (aK g),iv (o:Int)]
abbrev wc(n:Nat)(g:List B_):Ob:=⟨n,1,9,bZ g⟩
abbrev Er(F B ag bg:List B_)(ao bo D E:Nat):aF:=[(701,Su F 731 D (C ag) ao),(731,wc D ag),(702,Su B 732 E (C bg) bo),(732,wc E bg)]
theorem tl(D B:List B_)(ha:C D<500000)(hb:C B<500000)(hsA:∀s∈D,N s<1000000000)(hsB:∀s∈B,N s<1000000000)(τ:∀k,k<=19->C (lF D B k).q<=1000):
  aU φ 20 [.ref 701 0 0 0,.ref 702 0 0 0] (Er D B [] [] 0 0 0 0)
   (λr H'=>r=bv T/\H'=Er D B (lF D B 19).ag (lF D B 19).bg (lF D B 19).ao (lF D B 19).bo (nj D B 19) (ni D B 19)):=by
 have how:=λH=>aAQ D H X hsA;have ⟨o1,o2⟩:=rh D;have hil:=B7 D;have β:=λH=>K9 (cR D) H X (λt v=>by rw[iJ (NU D t v)];decide);rw[o1,o2]at β;have hlen:=Je τ;have hsz:=λk hk t v=>Uh (a:=D) (b:=B) X X (k:=k) (t:=t) hk v;have hend:=Jf (a:=D) (b:=B) X X;have hst0:lF D B 0=⟨[],[],1,0,[gX (cR D)]⟩:=rfl;generalize gX (cR D)=m at β hst0;generalize cR D=A_ at how β;clear o1 o2 hil;refine Bd func20 Z ntmps20<|Sz aH<|U aA<|Y pA<|Y (bC tj)<|Y (bQ aG)<|Y (kc call19 (how _))<|Y aA<|Y dO<|Y dO<|Y aH<|V aH<|U aA<|Y (kc call12 (β _))<|Y aA<|Y dO<|Y dO<|Y aH<|V aH<|S<|U aA<|V xI<|Cn ?_ ?_<;>intro hc1
 .cases hc1
 refine aB<|U aA<|Y pA<|Y (bC A2)<|Y (bQ M_)<|Y (dD Z Z Z (rfl:ξ.wrap (((0:Nat):Int)+1)=((1:Nat):Int)))<|Y pA<|Y (bC A2)<|Uu (by exact cM Z sizeOf3 Z Z Z Z Z Z y0 r5 r5)<|Zz<|U aA<|V aH<|U aA<|V aH<|U aA<|Y (aL [[.str m]] Z aY Z Z Z Z Z R_)<|V aH<|S<|Sz aH<|aE ?_;refine bF (σ:=Nat) (λk=>([(0,.ref 701 0 0 0),(1,.ref 702 0 0 0),(9,if k % 2=0 then .ref 702 0 0 0 else .ref 701 0 0 0),(10,if k % 2=0 then .ref 701 0 0 0 else .ref 702 0 0 0),(11,.pv (aK (lF D B k).q)),(12,iv (k:Int))],Er D B (lF D B k).ag (lF D B k).bg (lF D B k).ao (lF D B k).bo (nj D B k) (ni D B k))) (λk=>k<=19) (λk=>19 - k) 0 (l7 _) ?_ ?_
 .rw[hst0];exact L_
 intro k hk;have ⟨l1,l2,l3,l4⟩:=hlen k hk;have hq:=τ k hk;have hz:=hsz k hk;have hbk:∀h:(lF D B k).q≠[],k<=18:=λh=>by
  rcases Nat.lt_or_ge k 19 with h1|h1
  .omega
  exact absurd hend (by rw[show (19:Nat)=k by omega];exact h)
 have I:(lF D B k).q=[]->lF D B 19=lF D B k:=λh=>by
  have:=ZM h (19 - k)
  rwa [show k+(19 - k)=19 by omega]at this
 have E:(lF D B k).q=[]->nj D B 19=nj D B k/\ni D B 19=ni D B k:=λh=>by
  have:=zf h (19 - k)
  rwa [show k+(19 - k)=19 by omega]at this
 have J:nj D B (k+1)=if k % 2=0 then nj D B k else nj D B k+C (lF D B k).q:=rfl
 have K:ni D B (k+1)=if k % 2=0 then ni D B k+C (lF D B k).q else ni D B k:=rfl
 have ⟨na,hna⟩:∃n,n=nj D B k:=X_;have ⟨nb,hnb⟩:∃n,n=ni D B k:=X_;rw[<-hna]at E J |-;rw[<-hnb]at E K |-;clear hna hnb;have y:lF D B (k+1)=if k % 2=0 then fg B (lF D B k)else fi D (lF D B k):=rfl
 have Q:k<=18->C (lF D B (k+1)).q<=1000:=λh=>τ (k+1) X;have L:k<=18->∀t∈(lF D B (k+1)).q,N t<=20000:=λh t v=>hsz (k+1) X t v;rw[y]at Q L;generalize lF D B k=s at l1 l2 l3 l4 hq hz hbk I E J K y Q L |-;clear hst0 how β hlen hsz;have ⟨ag,bg,ao,bo,q⟩:=s;simp only at l1 l2 l3 l4 hq hz hbk I E J K;have hmq:C (q.map S_)=C q:=g_ _;by_cases h2:k % 2=0
 .rw [b6 h2] at y Q L J K;rw [b6 h2,b6 h2];refine S<|S<|aT (t:=52) (n:=8) (A_:=θ ((0:Int) < (C (q.map S_):Int))) ?_ ?_
  .all_goals refine Y aA<|Y cI<|Dm ?_<;>(refine Sp 48 (λh48=>?_) λh48=>?_)<;>(try exact w_)<;>(first|refine M<|M<|M ?_|refine O aA<|O (fM aD)<|O iX ?_)<;>refine V cD ?_<;>exact Gj (h:=by first|rfl|(exfalso;have:=b_ h48;omega))
  refine Cn ?_ ?_<;>intro hc2
  .have hne:q≠[]:=λe=>by have:=b9 hc2;rw[e]at this;exact absurd this E_
   have γ:=hbk hne;have Q:C (q.flatMap (gR B))<=1000:=Q γ;have L:∀t∈q.flatMap (gR B),N t<=20000:=L γ;refine aB<|S<|aE<|Sz (dZ (id:=741) (sz:=1) (ty:=9) Z Z Z)<|S<|Sz aH<|aE<|bF (σ:=Nat) (λi=>([(0,.ref 701 0 0 0),(1,.ref 702 0 0 0),(9,.ref 702 0 0 0),(10,.ref 701 0 0 0),(11,.pv (aK q)),(12,iv (k:Int)),(13,.osl 741 i 0 (C ((q.take i).flatMap (gR B)))),(14,iv (i:Int))],Er D B ag (bg++(q.take i).filter recT) ao (bo+((q.take i).flatMap (gR B)).countP offB) na (nb+i)++[(741,wc i ((q.take i).flatMap (gR B)))])) (λi=>i<=C q) (λi=>C q - i) 0 (l7 _) ?_ ?_
   .simp only[take_zero,filter_nil,flatMap_nil,append_nil,countP_nil,Nat.add_zero];exact L_
   intro i hi;have ρ:=length_filter_le recT (q.take i);rw[m_]at ρ;have κ:=HA (q:=q) (gR B) i;have δ:=countP_le_length (p:=offB) (l:=(q.take i).flatMap (gR B));refine S<|U aA<|Y aA<|Y (fM aD)<|V cI<|Cn ?_ ?_<;>intro hc3
   .have hlt:i<C q:=I_ hc3
    have ⟨t,v⟩:=aR hlt;have P:=cC (f:=S_) v;have htm:=m7 v;have hts:=hz t htm;have g:=HA (q:=q) (gR B) (i+1);have e1:(q.take (i+1)).filter recT=(q.take i).filter recT++(if(sV t).isSome=T then[t]else[]):=by
     rw[eP v,filter_append];by_cases h:recT t=T
     .rw[b6 (show (sV t).isSome=T from h),filter_cons_of_pos h];rfl
     rw[a8 (show ¬ (sV t).isSome=T from h),filter_cons_of_neg h];rfl
    have e2:(q.take (i+1)).flatMap (gR B)=(q.take i).flatMap (gR B)++gR B t:=by
     rw[eP v,flatMap_append,flatMap_cons,flatMap_nil,append_nil]
    have hzt:∀x∈gR B t,N x<=20000:=λx hx=>L x (mem_flatMap.2 ⟨t,htm,hx⟩);rw[e2,j8]at g;have htx:=λH=>PW t H X;have d:=λH=>U3 B t H X (λs h=>hsB s h);rw[a8 X,a8 X]at d;have hT1:C (if(sV t).isSome=T then[t]else[])<=1:=by split<;>simp
    have ⟨u4,hT⟩:∃u4,u4=if(sV t).isSome=T then[t]else[]:=X_
    have ⟨G,hG⟩:∃G,G=bg++(q.take i).filter recT:=X_;have hGl:C G<=C bg+i:=by rw[hG,j8];omega
    rw[<-hT]at e1 htx hT1;generalize gR B t=l at e2 d hzt g;generalize (q.take i).flatMap (gR B)=R at e2 κ δ g |-;rw[<-hG];have ⟨w,hO⟩:∃w,w=bo+R.countP offB:=X_;have hOl:w<=bo+1000:=X
    have e3:bg++(q.take (i+1)).filter recT=G++u4:=by rw[e1,hG,append_assoc]
    have e4:bo+(R++l).countP offB=w+l.countP offB:=by rw[countP_append,hO,Nat.add_assoc]
    rw[<-hO];clear hT hG hO;have hml:C (l.map S_)=C l:=g_ _;refine aB<|S<|aE<|S<|aM a7<|Cr [702] (λ_ _=>aA)<|Cr [702] (λ_ _=>aA)<|Cr [702] (λH1 W=>by exact cL Z Z ((W _ Z).trans Z) Z)<|Cr [702] (λ_ h=>fh FY h)<|Cr [702] (λ_ h=>lh aG h)<|x_ aA<|x_ aA<|x_ (by exact bP Z aY Z Z X (l_ _) P Z)<|x_ ((fS N_ (hi:=P)))<|x_ (by exact bH Z Z call17 Z (htx _))<|Cp [732] (λH1 W=>by exact bW (ob:=wc (nb+i) G) (k:=C (G++u4)) (ps:=u4.map S_) Z aY sW Z ((W _ Z).trans Z) Z Z Z (dI _) Z (dX _) (m:=C u4) (g_ _) X (j8).symm (rows':=bZ (G++u4)) (eX _ _))<|Cr [702] (λH1 W=>by exact cL Z Z ((W _ Z).trans Z) Z) ?_;refine Cr [702] (λ_ h=>fh FY h)<|Cp [702] (λH1 W=>by exact cM Z sizeOf22 Z Z Z ((W _ Z).trans Z) Z Z y0 r5 r5)<|bG<|Kr<|S<|aM a7<|Cq aA<|Cq pA<|Cq (bC tj)<|Cq (bQ aG)<|Cq aA<|Cq aA<|Cq (kx aY P)<|Cq (fS N_ (hi:=P))<|Cq (kc call14 (d _))<|Cq aA<|Cq dO<|Cq dO<|Cq aH<|Cq aH<|bG<|Kr<|S<|U aA<|V xI ?_;refine Cn ?_ ?_<;>intro hc4
    .cases hc4
    refine aB<|S<|Sz aH<|aE<|bF (σ:=Nat) (λj=>([(0,.ref 701 0 0 0),(1,.ref 702 0 0 0),(9,.ref 702 0 0 0),(10,.ref 701 0 0 0),(11,.pv (aK q)),(12,iv (k:Int)),(13,.osl 741 i 0 (C R)),(14,iv (i:Int)),(15,.pv (aK l)),(17,iv (j:Int))],Er D B ag (G++u4) ao (w+(l.take j).countP offB) na (nb+i+1)++[(741,wc i R)])) (λj=>j<=C l) (λj=>C l - j) 0 (l7 _) ?_ ?_
    .simp only[take_zero,countP_nil,Nat.add_zero];exact L_
    intro j hj;have z:=countP_le_length (p:=offB) (l:=l.take j);rw[m_]at z;refine S<|U aA<|Y aA<|Y (fM aD)<|V cI<|Cn ?_ ?_<;>intro hc5
    .have hlj:j<C l:=I_ hc5
     have ⟨x,hx⟩:=aR hlj;have hxi:=cC (f:=S_) hx;have hxs:=hzt x (m7 hx);have u:=λH=>XM x H X;have F:=UQ (p:=offB) hx;rw[xz x]at u;generalize offB x=b at u F;generalize (l.take j).countP offB=c at F z |-;refine aB<|S<|aE<|U aA<|Y aA<|Y (kx aY hxi)<|Y (fS N_ (hi:=hxi))<|Y (kc call23 (u _))<|Y aA<|Y dO<|Y dO<|Y aH<|V aH<|Sz aA<|Cn ?_ ?_<;>intro hc6
     .rw[b6 hc6]at F;refine Rd aA<|Y pA<|Y (bC A2)<|Y (bQ M_)<|Y (by exact dD Z Z Z (show ξ.wrap (((w+c:Nat):Int)+1)=((w+c+1:Nat):Int)by rw[lT X X];omega))<|Y pA<|Y (bC A2)<|Uu (by exact cM Z sizeOf3 Z Z Z Z Z Z y0 r5 r5)<|Zz<|Rd aA<|Y kp<|Da ?_;refine⟨j+1,X,X,?_⟩;dsimp only;rw[F];exact L_
     rw[a8 (by rw[show b=η from hc6];decide),Nat.add_zero]at F;refine aB<|Rd aA<|Y kp<|Da ?_;refine⟨j+1,X,X,?_⟩;dsimp only;rw[F];exact L_
    have o:C l<=j:=J_ hc5
    rw[take_of_length_le o];refine aP<|Rd aA<|Y aA<|Y (bW (ob:=wc i R) (k:=C (R++l)) (ps:=l.map S_) Z aY sW Z Z Z Z Z (dI _) Z (dX _) (m:=C l) (g_ _) X (j8).symm (rows':=bZ (R++l)) (eX _ _))<|V aH<|Rd aA<|Y kp<|Da ?_;refine⟨i+1,X,X,?_⟩;dsimp only;rw[e2,e3,e4];exact L_
   have o:i=C q:=J_ hc3
   subst o;rw[take_length]at ρ κ δ |-;refine aP<|S ?_;refine fW.ent (cH.fzG (id:=741) (E':=[(0,.ref 701 0 0 0),(1,.ref 702 0 0 0),(9,.ref 702 0 0 0),(10,.ref 701 0 0 0),(12,iv (k:Int)),(13,.pv (aK (q.flatMap (gR B))))]) (H':=Er D B ag (bg++q.filter recT) ao (bo+(q.flatMap (gR B)).countP offB) na (nb+C q)) ((q.flatMap (gR B)).map S_) Z (dA _) ?_ Z ?_ ?_) ?_
   .intro p hp;simp only[l9,q8,or_false]at hp;rcases hp with rfl|rfl|rfl|rfl|rfl|rfl
    .exact⟨_,Z,.same m3⟩
    .exact⟨_,Z,.same m3⟩
    .exact⟨_,Z,.same m3⟩
    .exact⟨_,Z,.same m3⟩
    .exact⟨_,Z,.same H_⟩
    exact⟨_,Z,.osl (by rw[r7,drop_zero];exact take_of_length_le (by rw[g_];exact h_ _))⟩
   .exact⟨⟨_,Z,Z,Z,Z,dC m3⟩,⟨_,Z,Z,Z,Z,dC (aN _ _)⟩,⟨_,Z,Z,Z,Z,dC m3⟩,⟨_,Z,Z,Z,Z,dC (aN _ _)⟩,T_⟩
   .exact⟨Z,Z,Z,Z,T_⟩
   refine Rd aA<|V aH<|Rd aA<|Y aA<|Y aH<|V aH<|Rd aA<|Y kp<|Da ?_;refine⟨k+1,X,X,?_⟩;dsimp only;rw[y,J,K,a8 (show ¬ (k+1) % 2=0 by omega),a8 (show ¬ (k+1) % 2=0 by omega)];exact L_
  have he:q=[]:=length_eq_zero_iff.1 (J_ hc2);have I:=I he;rw[I,(E he).1,(E he).2];subst he;refine aP<|U aA<|Y (fM aD)<|Y cF<|V aH<|aC<|cT (H':=(Er D B ag bg ao bo na nb)) (.inr Z) Z (aI Z) Fin.refl Qq
 rw[a8 h2]at y Q L J K;rw[a8 h2,a8 h2];refine S<|S<|aT (t:=52) (n:=8) (A_:=θ ((0:Int)<(C (q.map S_):Int))) ?_ ?_
 .all_goals refine Y aA<|Y cI<|Dm ?_<;>(refine Sp 48 (λh48=>?_) λh48=>?_)<;>(try exact w_)<;>(first|refine M<|M<|M ?_|refine O aA<|O (fM aD)<|O iX ?_)<;>refine V cD ?_<;>exact Gj (h:=by first|rfl|(exfalso;have:=b_ h48;omega))
 refine Cn ?_ ?_<;>intro hc7
 .have hne:q≠[]:=λe=>by have:=b9 hc7;rw[e]at this;exact absurd this E_
  have γ:=hbk hne;have Q:C (q.flatMap (gR D))<=1000:=Q γ;have L:∀t∈q.flatMap (gR D),N t<=20000:=L γ;refine aB<|S<|aE<|Sz (dZ (id:=741) (sz:=1) (ty:=9) Z Z Z)<|S<|Sz aH<|aE<|bF (σ:=Nat) (λi=>([(0,.ref 701 0 0 0),(1,.ref 702 0 0 0),(9,.ref 701 0 0 0),(10,.ref 702 0 0 0),(11,.pv (aK q)),(12,iv (k:Int)),(13,.osl 741 i 0 (C ((q.take i).flatMap (gR D)))),(14,iv (i:Int))],Er D B (ag++(q.take i).filter recT) bg (ao+((q.take i).flatMap (gR D)).countP offB) bo (na+i) nb++[(741,wc i ((q.take i).flatMap (gR D)))])) (λi=>i<=C q) (λi=>C q - i) 0 (l7 _) ?_ ?_
  .simp only[take_zero,filter_nil,flatMap_nil,append_nil,countP_nil,Nat.add_zero];exact L_
  intro i hi;have ρ:=length_filter_le recT (q.take i);rw[m_]at ρ;have κ:=HA (q:=q) (gR D) i;have δ:=countP_le_length (p:=offB) (l:=(q.take i).flatMap (gR D));refine S<|U aA<|Y aA<|Y (fM aD)<|V cI<|Cn ?_ ?_<;>intro hc8
  .have hlt:i<C q:=I_ hc8
   have ⟨t,v⟩:=aR hlt;have P:=cC (f:=S_) v;have htm:=m7 v;have hts:=hz t htm;have g:=HA (q:=q) (gR D) (i+1);have e1:(q.take (i+1)).filter recT=(q.take i).filter recT++(if(sV t).isSome=T then[t]else[]):=by
    rw[eP v,filter_append];by_cases h:recT t=T
    .rw[b6 (show (sV t).isSome=T from h),filter_cons_of_pos h];rfl
    rw[a8 (show ¬ (sV t).isSome=T from h),filter_cons_of_neg h];rfl
   have e2:(q.take (i+1)).flatMap (gR D)=(q.take i).flatMap (gR D)++gR D t:=by
    rw[eP v,flatMap_append,flatMap_cons,flatMap_nil,append_nil]
   have hzt:∀x∈gR D t,N x<=20000:=λx hx=>L x (mem_flatMap.2 ⟨t,htm,hx⟩);rw[e2,j8]at g;have htx:=λH=>PW t H X;have d:=λH=>U3 D t H X (λs h=>hsA s h);rw[a8 X,a8 X]at d;have hT1:C (if(sV t).isSome=T then[t]else[])<=1:=by split<;>simp
   have ⟨u4,hT⟩:∃u4,u4=if(sV t).isSome=T then[t]else[]:=X_
   have ⟨G,hG⟩:∃G,G=ag++(q.take i).filter recT:=X_;have hGl:C G<=C ag+i:=by rw[hG,j8];omega
   rw[<-hT]at e1 htx hT1;generalize gR D t=l at e2 d hzt g;generalize (q.take i).flatMap (gR D)=R at e2 κ δ g |-;rw[<-hG];have ⟨w,hO⟩:∃w,w=ao+R.countP offB:=X_;have hOl:w<=ao+1000:=X
   have e3:ag++(q.take (i+1)).filter recT=G++u4:=by rw[e1,hG,append_assoc]
   have e4:ao+(R++l).countP offB=w+l.countP offB:=by rw[countP_append,hO,Nat.add_assoc]
   rw[<-hO];clear hT hG hO;have hml:C (l.map S_)=C l:=g_ _;refine aB<|S<|aE<|S<|aM a7<|Cr [701] (λ_ _=>aA)<|Cr [701] (λ_ _=>aA)<|Cr [701] (λH1 W=>by exact cL Z Z ((W _ Z).trans Z) Z)<|Cr [701] (λ_ h=>fh FY h)<|Cr [701] (λ_ h=>lh aG h)<|x_ aA<|x_ aA<|x_ (by exact bP Z aY Z Z X (l_ _) P Z)<|x_ ((fS N_ (hi:=P)))<|x_ (by exact bH Z Z call17 Z (htx _))<|Cp [731] (λH1 W=>by exact bW (ob:=wc (na+i) G) (k:=C (G++u4)) (ps:=u4.map S_) Z aY sW Z ((W _ Z).trans Z) Z Z Z (dI _) Z (dX _) (m:=C u4) (g_ _) X (j8).symm (rows':=bZ (G++u4)) (eX _ _))<|Cr [701] (λH1 W=>by exact cL Z Z ((W _ Z).trans Z) Z) ?_;refine Cr [701] (λ_ h=>fh FY h)<|Cp [701] (λH1 W=>by exact cM Z sizeOf22 Z Z Z ((W _ Z).trans Z) Z Z y0 r5 r5)<|bG<|Kr<|S<|aM a7<|Cq aA<|Cq pA<|Cq (bC tj)<|Cq (bQ aG)<|Cq aA<|Cq aA<|Cq (kx aY P)<|Cq (fS N_ (hi:=P))<|Cq (kc call14 (d _))<|Cq aA<|Cq dO<|Cq dO<|Cq aH<|Cq aH<|bG<|Kr<|S<|U aA<|V xI ?_;refine Cn ?_ ?_<;>intro hc9
   .cases hc9
   refine aB<|S<|Sz aH<|aE<|bF (σ:=Nat) (λj=>([(0,.ref 701 0 0 0),(1,.ref 702 0 0 0),(9,.ref 701 0 0 0),(10,.ref 702 0 0 0),(11,.pv (aK q)),(12,iv (k:Int)),(13,.osl 741 i 0 (C R)),(14,iv (i:Int)),(15,.pv (aK l)),(17,iv (j:Int))],Er D B (G++u4) bg (w+(l.take j).countP offB) bo (na+i+1) nb++[(741,wc i R)])) (λj=>j<=C l) (λj=>C l - j) 0 (l7 _) ?_ ?_
   .simp only[take_zero,countP_nil,Nat.add_zero];exact L_
   intro j hj;have z:=countP_le_length (p:=offB) (l:=l.take j);rw[m_]at z;refine S<|U aA<|Y aA<|Y (fM aD)<|V cI<|Cn ?_ ?_<;>intro hc10
   .have hlj:j<C l:=I_ hc10
    have ⟨x,hx⟩:=aR hlj;have hxi:=cC (f:=S_) hx;have hxs:=hzt x (m7 hx);have u:=λH=>XM x H X;have F:=UQ (p:=offB) hx;rw[xz x]at u;generalize offB x=b at u F;generalize (l.take j).countP offB=c at F z |-;refine aB<|S<|aE<|U aA<|Y aA<|Y (kx aY hxi)<|Y (fS N_ (hi:=hxi))<|Y (kc call23 (u _))<|Y aA<|Y dO<|Y dO<|Y aH<|V aH<|Sz aA<|Cn ?_ ?_<;>intro hc11
    .rw[b6 hc11]at F;refine Rd aA<|Y pA<|Y (bC A2)<|Y (bQ M_)<|Y (by exact dD Z Z Z (show ξ.wrap (((w+c:Nat):Int)+1)=((w+c+1:Nat):Int)by rw[lT X X];omega))<|Y pA<|Y (bC A2)<|Uu (by exact cM Z sizeOf3 Z Z Z Z Z Z y0 r5 r5)<|Zz<|Rd aA<|Y kp<|Da ?_;refine⟨j+1,X,X,?_⟩;dsimp only;rw[F];exact L_
    rw[a8 (by rw[show b=η from hc11];decide),Nat.add_zero]at F;refine aB<|Rd aA<|Y kp<|Da ?_;refine⟨j+1,X,X,?_⟩;dsimp only;rw[F];exact L_
   have o:C l<=j:=J_ hc10
   rw[take_of_length_le o];refine aP<|Rd aA<|Y aA<|Y (bW (ob:=wc i R) (k:=C (R++l)) (ps:=l.map S_) Z aY sW Z Z Z Z Z (dI _) Z (dX _) (m:=C l) (g_ _) X (j8).symm (rows':=bZ (R++l)) (eX _ _))<|V aH<|Rd aA<|Y kp<|Da ?_;refine⟨i+1,X,X,?_⟩;dsimp only;rw[e2,e3,e4];exact L_
  have o:i=C q:=J_ hc8
  subst o;rw[take_length]at ρ κ δ |-;refine aP<|S ?_;refine fW.ent (cH.fzG (id:=741) (E':=[(0,.ref 701 0 0 0),(1,.ref 702 0 0 0),(9,.ref 701 0 0 0),(10,.ref 702 0 0 0),(12,iv (k:Int)),(13,.pv (aK (q.flatMap (gR D))))]) (H':=Er D B (ag++q.filter recT) bg (ao+(q.flatMap (gR D)).countP offB) bo (na+C q) nb) ((q.flatMap (gR D)).map S_) Z (dA _) ?_ Z ?_ ?_) ?_
  .intro p hp;simp only[l9,q8,or_false]at hp;rcases hp with rfl|rfl|rfl|rfl|rfl|rfl
   .exact⟨_,Z,.same m3⟩
   .exact⟨_,Z,.same m3⟩
   .exact⟨_,Z,.same m3⟩
   .exact⟨_,Z,.same m3⟩
   .exact⟨_,Z,.same H_⟩
   exact⟨_,Z,.osl (by rw[r7,drop_zero];exact take_of_length_le (by rw[g_];exact h_ _))⟩
  .exact⟨⟨_,Z,Z,Z,Z,dC m3⟩,⟨_,Z,Z,Z,Z,dC (aN _ _)⟩,⟨_,Z,Z,Z,Z,dC m3⟩,⟨_,Z,Z,Z,Z,dC (aN _ _)⟩,T_⟩
  .exact⟨Z,Z,Z,Z,T_⟩
  refine Rd aA<|V aH<|Rd aA<|Y aA<|Y aH<|V aH<|Rd aA<|Y kp<|Da ?_;refine⟨k+1,X,X,?_⟩;dsimp only;rw[y,J,K,b6 (show (k+1) % 2=0 by omega),b6 (show (k+1) % 2=0 by omega)];exact L_
 have he:q=[]:=length_eq_zero_iff.1 (J_ hc7);have I:=I he;rw[I,(E he).1,(E he).2];subst he;refine aP<|U aA<|Y (fM aD)<|Y cF<|V aH<|aC<|cT (H':=(Er D B ag bg ao bo na nb)) (.inr Z) Z (aI Z) Fin.refl Qq
theorem aE2{B D E F:Nat}{a b c d G H I J:Ob}(h:(aF.get [(B,a),(D,b),(E,c),(F,d)] id).isSome=T):(aF.get [(B,G),(D,H),(E,I),(F,J)] id).isSome=T:=by simp only[aF.get]at h |-;generalize Nat.beq B id=x1,Nat.beq D id=x2,Nat.beq E id=x3,Nat.beq F id=K at h |-;cases x1<;>cases x2<;>cases x3<;>cases K<;>first|rfl|exact h
theorem YQ(D B:List B_)(I:C D<500000)(J:C B<500000)(F:∀s∈D,N s<1000000000)(G:∀s∈B,N s<1000000000)(E:∀k,k<=19->C (lF D B k).q<=1000){H:aF}(K:EX H (Er D B [] [] 0 0 0 0)):
  aU φ 20 [.ref 701 0 0 0,.ref 702 0 0 0] H (λr H'=>r=bv T/\H'=Er D B (lF D B 19).ag (lF D B 19).bg (lF D B 19).ao (lF D B 19).bo (nj D B 19) (ni D B 19)++H) :=
 aU.frame (tl D B I J F G E) (EX.sub K) (dN.ofL ⟨w8,(aN _ _),w8,(aN _ _),T_⟩) (by simp;exact⟨Z,Z⟩) (λid h=>.inl (aE2 h))
theorem Mm{L:List B_}:∀t∈lY L,t∈L:=λt h=>by
 rw[lY,mem_map]at h;obtain ⟨i,hi,rfl⟩:=h;exact(FA hi).2
theorem x8{p:Prop}(h:p:=by rw[nil_append];exact(dA _).symm):p:=h
theorem Bf(L:List B_)(w:Nat)(fb:Bool)(H:aF)(hl:C L<=1048576)(d:∀s∈L,N s<=1048576)(hw:w<=255):RC 6 [.pv (aK L),.pv (.int .u8 (w:Int)),bv fb] (bv T) H:=by
 refine Pu ?_;have e:=λH=>aEb L 40 H hl d;have P:=Pl (l:=L);generalize Eo L 40=f at e P;refine Bd func6 Z ntmps6<|Sz aH<|U (kc call9 (aCK _))<|V aH<|S<|U aA<|Y (kc call10 (e _))<|V iH<|Cn ?_ ?_<;>intro τ
 .exact U aA<|V aH<|aC<|Rt<|Qq
 have ⟨h40,z⟩:=P (nX τ);have y:=λH=>aAQ L H X (λt ht=>by have:=z t ht;omega);have β:C (lY L)=C (cR L):=g_ _;have hil:=B7 L;have u:C ((lY L).map S_)=C (lY L):=g_ _;have hmx:C ((cR L).map S_)=C (cR L):=g_ _;refine aB<|U aA<|Y (kc call19 (y _))<|Y aA<|Y dO<|Y dO<|Y aH<|V aH<|S<|U aA<|Y (fM aD)<|V cF<|Cn ?_ ?_<;>intro σ
 .exact U aA<|V aH<|aC<|Rt<|Qq
 have v:0<C (lY L):=J_ σ
 have ⟨k,hk⟩:∃k,k=w % C (lY L):=X_;have o:k<C (lY L):=by rw[hk];exact mod_lt _ v
 have c:((w:Nat):Int).tmod (C ((lY L).map S_):Int)=(k:Int):=by rw[u,Int.tmod_eq_emod_of_nonneg X,hk];omega
 clear hk;have ⟨r,hr⟩:=aR o;have ⟨x,hx⟩:=aR (l:=cR L) (k:=k) X;have ⟨G,I⟩:=Yn hr hx;have W:∀s∈lY L,N s<1000000000:=λs h=>by have:=z s (Mm s h);omega
 have R:∀s∈(lY L).take k++(lY L).drop (k+1),N s<1000000000:=λs h=>by
  have ⟨i,_,h⟩:=FM.1 h;exact W s (m7 h)
 have n:C ((lY L).take k++(lY L).drop (k+1))=C (lY L) - 1:=by rw[j8,m_,p_];omega
 have K:=cC (f:=S_) hr;clear hx P e y;generalize cR L=A_ at *;generalize lY L=B at β v o c hr G I W R n K u |-;have h1:C ((B.take k).map S_)=k:=by rw[g_,m_];omega
 have h2:C ((B.drop (k+1)).map S_)=C B - (k+1):=by rw[g_,p_]
 have h4:C (bZ (B.take k))=k:=by rw[dI,m_];omega
 refine aB<|U aA<|Y (eE Z cZ underlying3 Z (lT X X))<|Y aA<|Y (fM aD)<|Y (xF Z Z Z X c)<|V aH<|S<|aM a7<|Cp [905] (λH1 D=>by exact eO (id:=905) Z aY Z Z Z Z H_ ((D _ Z).trans Z))<|x_ aA<|x_ aA<|x_ (by exact eM (l:=0) (h:=k) Z aY Z (dX B) Z Z (l7 _) X (show ((B.map S_).take k).drop 0=(B.take k).map S_ by rw[drop_zero,map_take]))<|Cp [905] (λH1 D=>by exact bW (ob:=⟨0,1,9,[]⟩) (k:=k) (ps:=(B.take k).map S_) Z aY sW Z ((D _ Z).trans Z) Z Z Z Z Z (dX _) h1 X (r7 _) (rows':=bZ (B.take k)) x8) ?_;refine x_ aA<|x_ aA<|x_ (by exact dD Z Z Z (show ξ.wrap ((k:Int)+1)=((k+1:Nat):Int)by rw[lT X X];omega))<|x_ (by exact eM (l:=k+1) (h:=C (B.map S_)) Z aY Z (dX B) Z Z X (h_ _) (show ((B.map S_).take _).drop (k+1)=(B.drop (k+1)).map S_ by rw[take_length,map_drop]))<|Cp [905] (λH1 D=>by exact bW (ob:=⟨1,1,9,bZ (B.take k)⟩) (k:=C B - 1) (ps:=(B.drop (k+1)).map S_) Z aY sW Z ((D _ Z).trans Z) Z Z Z h4 Z (dX _) h2 X X (rows':=bZ (B.take k++B.drop (k+1))) (eX _ _))<|Cr [905] (λ_ _=>aH)<|bG<|Kr<|S ?_;refine fW.ent (cH.fzG (id:=905) (E':=[(2,bv fb),(7,bv T),(8,.pv (aK A_)),(9,.pv (aK B)),(10,iv (k:Int)),(11,.pv (aK (B.take k++B.drop (k+1))))]) (H':=[]) ((B.take k++B.drop (k+1)).map S_) Z (dA _) ?_ Z T_ T_) ?_
 .intro p hp;simp only[l9,q8,or_false]at hp;rcases hp with rfl|rfl|rfl|rfl|rfl|rfl
  .exact⟨_,Z,.same H_⟩
  .exact⟨_,Z,.same H_⟩
  .exact⟨_,Z,.same H_⟩
  .exact⟨_,Z,.same H_⟩
  .exact⟨_,Z,.same H_⟩
  exact⟨_,Z,.osl (by rw[r7,drop_zero];exact take_of_length_le (by rw[g_];omega))⟩
 generalize B.take k++B.drop (k+1)=F at G I R n |-;cases fb
 .have J:=λk (h:k<=19)=>zn (a:=F) (b:=B) X X G.symm k;have ⟨Q,j⟩:=zm (a:=F) (b:=B) X X G.symm (r:=r) (λt h=>I t h.symm);have E:=λH d=>YQ F B X X R W J (H:=H) d;generalize nj F B 19=na at E;generalize ni F B 19=nb at E;have ⟨s,d⟩:∃s,s=lF F B 19:=X_;rw[<-d]at E Q j;clear d J;have ⟨ag,bg,ao,bo,q⟩:=s;simp only at E Q j;have g:C ag+C bg=1:=by rw[<-j8,Q];rfl
  refine Rd aA<|Y (oD Af)<|Y (kb 702)<|Y aA<|Y (oD Af)<|Y (kb 701)<|Y aH<|V aH<|S<|U aA<|V iH<|Cn ?_ ?_<;>intro ρ
  .refine Rd aA<|Y aA<|Y aH<|V aH<|S<|S ?_;refine fW.ent (E':=[(7,bv T),(8,.pv (aK A_)),(9,.pv (aK B)),(10,iv (k:Int)),(12,.ref 701 0 0 0),(13,.ref 702 0 0 0)]) (H':=(731,⟨0,1,9,[]⟩)::(701,Su F 731 0 0 0)::(702,bx 3 38 [.pv (aK B),.pv .nils,iv 0])::[]) ?_ ?_
   .exact (Q_ 731 1 9)
   refine fW.ent (E':=[(7,bv T),(8,.pv (aK A_)),(9,.pv (aK B)),(10,iv (k:Int)),(12,.ref 701 0 0 0),(13,.ref 702 0 0 0)]) (H':=(732,⟨0,1,9,[]⟩)::(731,wc 0 [])::(701,Su F 731 0 0 0)::(702,Su B 732 0 0 0)::[]) ?_ ?_
   .exact (Q_ 732 1 9)
   refine Rd aA<|Y aA<|Y (kc call20 (E _ ⟨Z,Z,Z,Z,T_⟩))<|V iH<|Cn ?_ ?_<;>intro κ
   .cases κ
   refine aB<|S ?_;refine fW.ent (cH.fzG (id:=731) (E':=[(7,bv T),(8,.pv (aK A_)),(9,.pv (aK B)),(10,iv (k:Int)),(12,.ref 701 0 0 0),(13,.ref 702 0 0 0)]) (H':=[(701,sdF F ag ao),(702,Su B 732 nb (C bg) bo),(732,wc nb bg)]) (ag.map S_) Z (dA _) ?_ Z ?_ T_) ?_
   .intro p hp;simp only[l9,q8,or_false]at hp;rcases hp with rfl|rfl|rfl|rfl|rfl|rfl<;>exact⟨_,Z,.same (by first|(simp;done)|(simp;rfl))⟩
   .exact⟨⟨_,Z,Z,Z,Z,jO Z (bA (.same H_) (bA (.osl (fR S_ ag)) (bA (.same H_) jA)))⟩,⟨_,Z,Z,Z,Z,dC m3⟩,⟨_,Z,Z,Z,Z,dC (aN _ _)⟩,T_⟩
   refine fW.ent (cH.fzG (id:=732) (E':=[(7,bv T),(8,.pv (aK A_)),(9,.pv (aK B)),(10,iv (k:Int)),(12,.ref 701 0 0 0),(13,.ref 702 0 0 0)]) (H':=[(701,sdF F ag ao),(702,sdF B bg bo)]) (bg.map S_) Z (dA _) ?_ Z ?_ T_) ?_
   .intro p hp;simp only[l9,q8,or_false]at hp;rcases hp with rfl|rfl|rfl|rfl|rfl|rfl<;>exact⟨_,Z,.same (by first|(simp;done)|(simp;rfl))⟩
   .exact⟨⟨_,Z,Z,Z,Z,dC H_⟩,⟨_,Z,Z,Z,Z,jO Z (bA (.same H_) (bA (.osl (fR S_ bg)) (bA (.same H_) jA)))⟩,T_⟩
   refine aM a7<|Cp [906] (λH1 D=>by exact eO (id:=906) Z aY Z Z Z Z H_ ((D _ Z).trans Z))<|Cr [701] (λ_ _=>aA)<|Cr [701] (λH1 D=>by exact cL Z Z ((D _ Z).trans Z) Z)<|Cr [701] (λ_ h=>fh FY h)<|Cr [701] (λ_ h=>lh aG h)<|Cp [906] (λH1 D=>by exact bW (ob:=⟨0,1,9,[]⟩) (k:=ag.length) (ps:=ag.map S_) Z aY sW Z ((D _ Z).trans Z) Z Z Z Z Z (dX _) (g_ _) X (r7 _) (rows':=bZ ag) (by rw[List.nil_append];exact(dA _).symm))<|Cr [702] (λ_ _=>aA)<|Cr [702] (λH1 D=>by exact cL Z Z ((D _ Z).trans Z) Z)<|Cr [702] (λ_ h=>fh FY h)<|Cr [702] (λ_ h=>lh aG h)<|Cp [906] (λH1 D=>by exact bW (ob:=⟨1,1,9,bZ ag⟩) (k:=1) (ps:=bg.map S_) Z aY sW Z ((D _ Z).trans Z) Z Z Z (dI _) Z (dX _) (g_ _) X g (rows':=bZ [r]) (by rw[eX,Q])) ?_;refine Cr [906] (λ_ _=>aH)<|bG<|Kr<|S<|aM a7<|Cq aA<|Cq aA<|Nt aA<|Nt (by exact dR Z aD Z Z Z)<|Nt (by exact cP.val (by exact kR Z Z Z) ((decide_eq_true Z)))<|Nt aA<|Nt aA<|Nt (by exact dL (m:=0) Z aY Z Z Z Z Z (Int.le_refl 0) Z Nat.one_pos Z)<|Nt (bQ N_)<|Nt aA<|Nt aA<|Nt (kx aY K)<|Nt (fS N_ (hi:=K))<|Nt (by exact cP.val (by exact BX Z Z Z) ((decide_eq_true Z)))<|Nt cD<|Nt aA<|Nt aA<|Nt pA<|Nt (bC A2)<|Nt (bQ M_)<|Nt aA<|Nt pA<|Nt (bC A2)<|Nt (bQ M_)<|Nt (by exact dD Z Z Z (show IntKind.i64.wrap ((ao:Int)+(bo:Int))=((ao+bo:Nat):Int)by rw[lT X X];omega))<|Nt (by exact cP.val (by exact mW Z Z Z) ((decide_eq_true X))) ?_;exact Nt cD<|Nt aA<|Nt aA<|Nt (fM aD)<|Nt aA<|Nt (fM aD)<|Nt (by exact cP.val (by exact kR Z Z Z) ((decide_eq_true X)))<|Nt cD<|Nt aA<|Of<|Of<|Of<|Nt cD<|Cq cD<|Cq aH<|bG<|Kr<|aC<|Rt<|Qq
  cases ρ
 have J:=λk (h:k<=19)=>zn (a:=B) (b:=F) X X G k;have ⟨Q,j⟩:=zm (a:=B) (b:=F) X X G (r:=r) (λt h=>I t h);have E:=λH d=>YQ B F X X W R J (H:=H) d;generalize nj B F 19=na at E;generalize ni B F 19=nb at E;generalize lF B F 19=s at E Q j;clear J;have ⟨ag,bg,ao,bo,q⟩:=s;simp only at E Q j;have g:C ag+C bg=1:=by rw[<-j8,Q];rfl
 refine Rd aA<|Y (oD Af)<|Y (kb 701)<|Y aA<|Y (oD Af)<|Y (kb 702)<|Y aH<|V aH<|S<|U aA<|V iH<|Cn ?_ ?_<;>intro δ
 .cases δ
 refine aB<|S<|S ?_;refine fW.ent (E':=[(7,bv T),(8,.pv (aK A_)),(9,.pv (aK B)),(10,iv (k:Int)),(12,.ref 701 0 0 0),(13,.ref 702 0 0 0)]) (H':=(731,⟨0,1,9,[]⟩)::(701,Su B 731 0 0 0)::(702,bx 3 38 [.pv (aK F),.pv .nils,iv 0])::[]) ?_ ?_
 .exact (Q_ 731 1 9)
 refine fW.ent (E':=[(7,bv T),(8,.pv (aK A_)),(9,.pv (aK B)),(10,iv (k:Int)),(12,.ref 701 0 0 0),(13,.ref 702 0 0 0)]) (H':=(732,⟨0,1,9,[]⟩)::(731,wc 0 [])::(701,Su B 731 0 0 0)::(702,Su F 732 0 0 0)::[]) ?_ ?_
 .exact (Q_ 732 1 9)
 refine Rd aA<|Y aA<|Y (kc call20 (E _ ⟨Z,Z,Z,Z,T_⟩))<|V iH<|Cn ?_ ?_<;>intro γ
 .cases γ
 refine aB<|S ?_;refine fW.ent (cH.fzG (id:=731) (E':=[(7,bv T),(8,.pv (aK A_)),(9,.pv (aK B)),(10,iv (k:Int)),(12,.ref 701 0 0 0),(13,.ref 702 0 0 0)]) (H':=[(701,sdF B ag ao),(702,Su F 732 nb (C bg) bo),(732,wc nb bg)]) (ag.map S_) Z (dA _) ?_ Z ?_ T_) ?_
 .intro p hp;simp only[l9,q8,or_false]at hp;rcases hp with rfl|rfl|rfl|rfl|rfl|rfl<;>exact⟨_,Z,.same (by first|(simp;done)|(simp;rfl))⟩
 .exact⟨⟨_,Z,Z,Z,Z,jO Z (bA (.same H_) (bA (.osl (fR S_ ag)) (bA (.same H_) jA)))⟩,⟨_,Z,Z,Z,Z,dC m3⟩,⟨_,Z,Z,Z,Z,dC (aN _ _)⟩,T_⟩
 refine fW.ent (cH.fzG (id:=732) (E':=[(7,bv T),(8,.pv (aK A_)),(9,.pv (aK B)),(10,iv (k:Int)),(12,.ref 701 0 0 0),(13,.ref 702 0 0 0)]) (H':=[(701,sdF B ag ao),(702,sdF F bg bo)]) (bg.map S_) Z (dA _) ?_ Z ?_ T_) ?_
 .intro p hp;simp only[l9,q8,or_false]at hp;rcases hp with rfl|rfl|rfl|rfl|rfl|rfl<;>exact⟨_,Z,.same (by first|(simp;done)|(simp;rfl))⟩
 .exact⟨⟨_,Z,Z,Z,Z,dC H_⟩,⟨_,Z,Z,Z,Z,jO Z (bA (.same H_) (bA (.osl (fR S_ bg)) (bA (.same H_) jA)))⟩,T_⟩
 refine aM a7<|Cp [906] (λH1 D=>by exact eO (id:=906) Z aY Z Z Z Z H_ ((D _ Z).trans Z))<|Cr [701] (λ_ _=>aA)<|Cr [701] (λH1 D=>by exact cL Z Z ((D _ Z).trans Z) Z)<|Cr [701] (λ_ h=>fh FY h)<|Cr [701] (λ_ h=>lh aG h)<|Cp [906] (λH1 D=>by exact bW (ob:=⟨0,1,9,[]⟩) (k:=ag.length) (ps:=ag.map S_) Z aY sW Z ((D _ Z).trans Z) Z Z Z Z Z (dX _) (g_ _) X (r7 _) (rows':=bZ ag) (by rw[List.nil_append];exact(dA _).symm))<|Cr [702] (λ_ _=>aA)<|Cr [702] (λH1 D=>by exact cL Z Z ((D _ Z).trans Z) Z)<|Cr [702] (λ_ h=>fh FY h)<|Cr [702] (λ_ h=>lh aG h)<|Cp [906] (λH1 D=>by exact bW (ob:=⟨1,1,9,bZ ag⟩) (k:=1) (ps:=bg.map S_) Z aY sW Z ((D _ Z).trans Z) Z Z Z (dI _) Z (dX _) (g_ _) X g (rows':=bZ [r]) (by rw[eX,Q])) ?_;refine Cr [906] (λ_ _=>aH)<|bG<|Kr<|S<|aM a7<|Cq aA<|Cq aA<|Nt aA<|Nt (by exact dR Z aD Z Z Z)<|Nt (by exact cP.val (by exact kR Z Z Z) ((decide_eq_true Z)))<|Nt aA<|Nt aA<|Nt (by exact dL (m:=0) Z aY Z Z Z Z Z (Int.le_refl 0) Z Nat.one_pos Z)<|Nt (bQ N_)<|Nt aA<|Nt aA<|Nt (kx aY K)<|Nt (fS N_ (hi:=K))<|Nt (by exact cP.val (by exact BX Z Z Z) ((decide_eq_true Z)))<|Nt cD<|Nt aA<|Nt aA<|Nt pA<|Nt (bC A2)<|Nt (bQ M_)<|Nt aA<|Nt pA<|Nt (bC A2)<|Nt (bQ M_)<|Nt (by exact dD Z Z Z (show IntKind.i64.wrap ((ao:Int)+(bo:Int))=((ao+bo:Nat):Int)by rw[lT X X];omega))<|Nt (by exact cP.val (by exact mW Z Z Z) ((decide_eq_true X))) ?_;exact Nt cD<|Nt aA<|Nt aA<|Nt (fM aD)<|Nt aA<|Nt (fM aD)<|Nt (by exact cP.val (by exact kR Z Z Z) ((decide_eq_true X)))<|Nt cD<|Nt aA<|Of<|Of<|Of<|Nt cD<|Cq cD<|Cq aH<|bG<|Kr<|aC<|Rt<|Qq
theorem ot(L:List B_)(x:Int)(B:Bool)(D:0<=x)(G:x<=255)(H:aF)(E:C L<=1048576)(F:∀s∈L,N s<=1048576):RC 6 [.pv (aK L),.pv (.int .u8 x),bv B] (bv T) H:=by obtain ⟨q,rfl⟩:=Int.eq_ofNat_of_zero_le D;exact Bf L q B H E F X
end Go.Proofs.C
