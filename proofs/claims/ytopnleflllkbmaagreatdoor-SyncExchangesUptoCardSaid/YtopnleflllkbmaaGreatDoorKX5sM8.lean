/-
  Parts of the proof. Conditions: each theorem's own.
-/
import Derived.Test.YtopnleflllkbmaaGreatDoorKX5sM7
set_option linter.unusedVariables false
set_option linter.unusedSimpArgs false
set_option maxRecDepth 100000
set_option maxHeartbeats 8000000
open List Nat
open List renaming length->C
open Option renaming some->N,none->ζ
open Bool renaming true->A,false->η
open ByteArray renaming size->T,data->μ
open Array renaming toList->ν
open Decidable renaming decide->θ
open Go.IntKind renaming i64->ξ
open Go.Proofs.Tryz renaming prog->φ
open List renaming mem_cons_of_mem->Â,take_length->Ã,mem_cons_self->Ä,length_filter_le->Å,length_nil->Æ,append_nil->Ç,map_append->È,drop_of_length_le->É,getD_cons_succ->Ê,getD_cons_zero->Ë,map_cons->Ì,map_map->Í,drop_eq_getElem_cons->Î,mem_of_mem_drop->Ï,sum_cons->Ð,append_assoc->Ñ,nil_append->Ò,flatten_cons->Ó,take_of_length_le->Ô,takeWhile_sublist->Õ,length_singleton->Ö,foldl_append->Ø,flatten_nil->Ù,sum_append->Ú,drop_zero->Û,flatMap_cons->Ü,pairwise_singleton->Ý,countP_cons_of_pos->Þ,countP_cons_of_neg->ß,cons_append->à,map_drop->â,mem_of_mem_take->ã,filter_nil->ä,map_congr_left->å,drop_drop->æ,drop_left->ç,take_add_one->é,all_eq_true->ê,filter_cons->ë,map_nil->ì,foldl_cons->í,mem_append->î
open _root_.Nat renaming mul_le_mul_right->á,lt_succ_self->è
open Go.Proofs.YtopnleflllkbmaaGreatDoor
namespace Go.Proofs
open Tryz
theorem rV:type_of% call63:=call63
end Go.Proofs
namespace Go.Proofs.C
open Go.Proofs.Tryz
open Go.Abs Go.Lib
variable{A_ s:List B_}{r:GRep}{p:j0}{n:Nat}{L:List (List B_)}
theorem lu(p:B_):∀(l:List B_),A9 p l=A->zZ l
 | [],_=>List.Pairwise.nil
 | [a],_=>List.pairwise_singleton _ _
 |a::b::r,h=>by
  rw[A9,l7,l7]at h;have D:=lu p (b::r) h.2;refine pairwise_cons.2 ⟨λy B=>?_,D⟩;rcases l9.1 B with rfl|B
  .exact h.1.2
  exact sE h.1.2 ((pairwise_cons.1 D).1 y B)
theorem YP:∀(l m:List B_),l.Nodup->(∀x∈l,x∈m)->C l<=C m
 | [],m,_,_=>k_ _
 | a::l,m,hn,h=>by
  rw[List.nodup_cons]at hn;obtain ⟨m1,m2,rfl⟩:=append_of_mem (h a Ä);have D:=YP l (m1++m2) hn.2 λx B=>by
   rcases mem_append.1 (h x (Â _ B))with h|h
   .exact mem_append_left _ h
   rcases l9.1 h with h|h
   .exact absurd (h▸B) hn.1
   exact mem_append_right _ h
  rw[j7]at D;rw[j6,j7,j6];omega
def rB(A_ s:List B_):Prop:=s.Nodup/\∀i∈s,i∈A_
theorem rB.len(h:rB A_ s):C s<=C A_:=YP s A_ h.1 h.2
theorem rB.step(h:rB A_ s)(i:B_):rB A_ (jT A_ s i):=by
 rw[jT]
 split
 .next hc =>
  rw[l7,r9,l6,q7]at hc;refine⟨nodup_append.2 ⟨h.1,H_,λx E y D e=>?_⟩,λj B=>?_⟩
  .rw[q9]at D;exact hc.2 (D▸e▸E)
  rcases mem_append.1 B with B|B
  .exact h.2 j B
  rw[q9]at B;exact B▸hc.1
 exact h
theorem rB.fold:∀(l s:List B_),rB A_ s->rB A_ (l.foldl (jT A_) s)
 | [],s,h=>h
 |i::l,s,h=>rB.fold l _ (h.step i)
theorem Y8{l:List B_}{k:Nat}{s:B_}(f:B_->Bool)(h:l[k]?=N s):(l.take (k+1)).filter f=(l.take k).filter f++if f s=A then[s]else[]:=by rw[eA h,filter_append,ë,ä]
theorem aFQ(k:Nat)(h:k<16):∃c d,Utf8.decode Bz k=(c,1)/\BA[k]?=N d/\Utf8.encode (c:Int)=d/\T d=1:=by
 have key:∀k:Fin 16,(Utf8.decode Bz k.val).2=1/\BA[k.val]?=N (Utf8.encode ((Utf8.decode Bz k.val).1:Int))/\T (Utf8.encode ((Utf8.decode Bz k.val).1:Int))=1:=by decide +kernel
 have ⟨B,D,E⟩:=key ⟨k,h⟩;exact⟨(Utf8.decode Bz k).1,_,by rw[<-B],D,Z,E⟩
theorem vq(A_:List B_)(o:List (B_×B_))(r:GRep)(p:j0)(hX:∀i,i∈o.map Prod.fst↔i∈A_)(v:IdS A_)(hp:GoodP p)(hs:rB A_ r.sent)(hw:C r.wants<549755813888)(ho:C r.offers<549755813888):
  aU φ 46 [.ref 718 0 0 0,av (dH p)] (WJ A_ o r) (λx H'=>x=.tup []/\H'=WJ A_ o (mV A_ r p)):=by
 have g:=v.len;have hpre:T p.pre<=16:=by have:=hp.pre;rw[pH,l7,l6]at this;exact this.1
 have hpo:=λq hq H=>jm A_ q H v hq;have hsmP:=λH=>KL p H;have hrl:C (eF A_ p.pre)<=C A_:=Å _ _;have hun:=λH=>gn A_ p.pre H X v.srt v.dig X;have L:p.cnt<=16->mV A_ r p=⟨((eF A_ p.pre).filter λi=>!θ (i∈p.ids)).foldl (jT A_) r.sent,r.wants++(p.ids.filter λi=>!θ (i∈A_)).map (λi=>[i]),r.offers⟩:=λh=>b6 h;have B:¬ p.cnt<=16->mV A_ r p=if p.cnt=(dA A_ p.pre).cnt/\p.sum=(dA A_ p.pre).sum then r else if(dA A_ p.pre).cnt<=16 then⟨r.sent,r.wants,r.offers++[fB (dA A_ p.pre)]⟩else⟨r.sent,r.wants,r.offers++BA.map λd=>fB (dA A_ (p.pre++d))⟩:=λh=>a8 h
 have hown:(dA A_ p.pre).cnt<1000000/\C (dA A_ p.pre).ids<=16:=by
  have hg:=vB v.srt v.dig hp.pre g;refine⟨hg.cnt,?_⟩;by_cases hc:(dA A_ p.pre).cnt<=16
  .rw[(hg.sml hc).1];exact hc
  rw[hg.big X];exact k_ _
 have u:=λH=>KL (dA A_ p.pre) H;have hfl:=λH=>OJ (dA A_ p.pre) H X X;have j:=hpo p.pre X;generalize dA A_ p.pre=W at u hfl j hown B;generalize eF A_ p.pre=R at hun L hrl;generalize mV A_ r p=d_ at L B |-;have hmR:C (R.map S_)=C R:=g_ _;have hmI:C (p.ids.map S_)=C p.ids:=g_ _;refine Bd func46 Z ntmps46<|Sz (kb 3)<|S<|aN a7<|Cr [718] (λ_ _=>aA)<|Cr [718] (λH1 E=>by exact cT Z Z ((E _ Z).trans Z) Z)<|Cr [718] (λ_ h=>fh UZ h)<|Cr [718] (λ_ h=>fh JQ h)<|Cr [718] (λ_ h=>lh kM h)<|Cr [3] (λ_ h=>fh OG h)<|Cr [3] (λ_ h=>lh N_ h)<|x_ (by exact bH Z Z call35 Z (j _))<|Cp [4] (λH1 E=>by exact CY (id:=4) Z Jc Z ((E _ Z).trans Z))<|Cp [4] (λ_ h=>sa eD h)<|bF<|Kr<|aD<|U m4<|Y (kc call82 (hsmP _))<|Y aH ?_;refine Zz<|Cn ?_ ?_<;>intro γ
 .have G:p.cnt<=16:=I_ γ
  have ⟨q1,q2,q3⟩:=hp.sml G;have hsrt:=lu _ _ q2;rw[L G];clear L B;refine S<|S<|aN a7<|Cq aA<|Cq pQ<|Cq (bC UZ)<|Cq (bC JQ)<|Cq (bT kM)<|Cq (bC OG)<|Cq (bT N_)<|Cq (kc call80 (hun _))<|Cq (fP mR)<|Cq aA<|bF<|Kr<|aD<|bA (σ:=Nat) (λk=>([(0,.ref 718 0 0 0),(3,.ref 3 0 0 0),(54,.pv (aK R)),(55,iv (C (R.map S_):Int)),(56,iv (k:Int))],(3,bx 4 70 ((dH p).map .pv))::WJ A_ o ⟨((R.take k).filter λi=>!θ (i∈p.ids)).foldl (jT A_) r.sent,r.wants,r.offers⟩)) (λk=>k<=C R) (λk=>C R - k) 0 (k_ _) ?_ ?_
  .exact L_
  intro k hk;have hso:=(rB.fold ((R.take k).filter λi=>!θ (i∈p.ids)) r.sent hs).len;refine Sz cH<|S<|Cn ?_ ?_<;>intro β
  .have J:k<C R:=I_ β
   have ⟨s,P⟩:=aQ J;have hi:=cA (f:=S_) P;have D:=Y8 (λi=>!θ (i∈p.ids)) P;have κ:=λH=>Qr p.ids s H X hsrt;have ⟨f_,K⟩:∃f_,f_=((R.take k).filter λi=>!θ (i∈p.ids)).foldl (jT A_) r.sent:=X_;rw[<-K]at hso |-;refine aB<|S<|aD<|U (jA SR)<|Y (fK N_ (hi:=hi))<|V aH<|U (bC F3)<|Y (bT kM)<|Y aA<|Y (kc call92 (κ _))<|V iJ<|Cn ?_ ?_<;>intro hc3
   .have z:(!θ (s∈p.ids))=A:=hc3;refine Rd aA<|Y aA<|V (kc call44 (aAt (r:=⟨f_,r.wants,r.offers⟩) hX (show C f_<2^40 by omega) ⟨Z,Z,Z,Z,Z,Z,T_⟩))<|Rd iF<|V aA ?_;refine⟨k+1,X,X,?_⟩;rw[b6 z]at D;dsimp only;rw[D,Ø,<-K];exact L_
   have z:(!θ (s∈p.ids))=η:=hc3;refine aB<|Rd iF<|V aA ?_;refine⟨k+1,X,X,?_⟩;rw[a8 (by rw[z];decide),Ç]at D;dsimp only;rw[D,<-K];exact L_
  have ρ:k=C R:=J_ β
  subst ρ;rw[Ã];have ⟨f_,K⟩:∃f_,f_=(R.filter λi=>!θ (i∈p.ids)).foldl (jT A_) r.sent:=X_;rw[<-K];refine aP<|U (bC F3)<|Y (bT kM)<|Y (fP mR)<|V aA<|aD<|bA (σ:=Nat) (λk=>([(0,.ref 718 0 0 0),(70,.pv (aK p.ids)),(71,iv (C (p.ids.map S_):Int)),(72,iv (k:Int))],WJ A_ o ⟨f_,r.wants++((p.ids.take k).filter λi=>!θ (i∈A_)).map (λi=>[i]),r.offers⟩)) (λk=>k<=C p.ids) (λk=>C p.ids - k) 0 (k_ _) ?_ ?_
  .simp only[take_zero,ä,ì,Ç];exact L_
  intro k hk;have hwl:C (r.wants++((p.ids.take k).filter λi=>!θ (i∈A_)).map (λi=>[i]))<=C r.wants+16:=by
   have:=Å (λi=>!θ (i∈A_)) (p.ids.take k);rw[j7,g_];rw[n_]at this;omega
  refine Sz cH<|S<|Cn ?_ ?_<;>intro hc4
  .have J:k<C p.ids:=I_ hc4
   have ⟨s,P⟩:=aQ J;have hi:=cA (f:=S_) P;have D:=Y8 (λi=>!θ (i∈A_)) P;have κ:=λH=>Qr A_ s H X v.srt;have ⟨F,I⟩:∃F,F=r.wants++((p.ids.take k).filter λi=>!θ (i∈A_)).map (λi=>[i]):=X_;rw[<-I]at hwl |-;have w:C (F++[[s]])=C F+1:=by rw[j7];rfl
   have a:C (CD F)=C F:=g_ _;refine aB<|S<|aD<|U (jA SR)<|Y (fK N_ (hi:=hi))<|V aH<|U aA<|Y pQ<|Y (bC UZ)<|Y (bC JQ)<|Y (bT kM)<|Y aA<|Y (kc call92 (κ _))<|V iJ<|Cn ?_ ?_<;>intro hc5
   ·have z:(!decide (s∈A_))=true:=hc5;refine Rd aA<|Y aA<|Y pQ<|Y (bC va)<|Y (bT isAgg73)<|Y aA<|Y (by exact aM ([s].map S_) Z aY Z Z Z Z Z (dV _))<|Y (by exact aM ([[s]].map r6) Z HQ Z Z Z Z Z (qP _))<|Y (by exact bU (n:=F.length) (k:=F.length+1) (ps:=[[s]].map r6) Z HQ aDD Z Z Z Z Z a Z (qP [[s]]) (m:=1) Z X Z (rows':=CD (F++[[s]])) (by rw[sU,sU,List.map_append,List.map_append]))<|Y pQ<|Y (bC va)<|Uu (by exact cM Z sizeOf73 Z Z Z Z Z Z (by simp only[j6,List.length_nil];omega) (by simp only[Zl,S_,dH];rfl) (by simp only[Zl,S_,dH];rfl))<|Zz<|Rd iF<|V aA ?_;refine⟨k+1,X,X,?_⟩;rw[b6 z]at D;have e:r.wants++((p.ids.take (k+1)).filter λi=>!decide (i∈A_)).map (λi=>[i])=F++[[s]]:=by rw[D,List.map_append,<-List.append_assoc,<-I];rfl
    simp only[WJ,rpO,e,w];exact L_
   have z:(!θ (s∈A_))=η:=hc5;refine aB<|Rd iF<|V aA ?_;refine⟨k+1,X,X,?_⟩;rw[a8 (by rw[z];decide),Ç]at D;dsimp only;rw[D,<-I];exact L_
  have ρ:k=C p.ids:=J_ hc4
  subst ρ;rw[Ã];refine aP ?_;exact pL (.inl Z) Z Fin.refl ⟨Z,Z⟩
 have G:¬ p.cnt<=16:=J_ γ
 have B:=B G;clear L;have ⟨y_,hY⟩:∃y_,y_=(θ ((p.cnt:Int)=(W.cnt:Int))&&θ (p.sum=W.sum)):=X_;refine S<|aT (t:=96) (n:=14) (A_:=y_) ?_ ?_
 .all_goals refine Y (bC F4)<|Y (bT M_)<|Y (bC F4)<|Y (bT M_)<|Y cI<|Dm ?_<;>(refine Sp 102 (λh102=>?_) λh102=>?_)<;>(try exact w_)<;>(first|refine M<|M<|M<|M<|M ?_|refine O (bC U0)<|O (bT N_)<|O (bC U0)<|O (bT N_)<|O wV ?_)<;>refine Y cE<|Da ?_<;>exact Gj (h:=by rw[hY];(rw[h102];rfl))
 refine Cn ?_ ?_<;>intro hc6
 .have hYt:=hY.symm.trans hc6;rw[l7,l6,l6]at hYt;rw[b6 ⟨X,hYt.2⟩]at B;rw[B];refine aB ?_;exact pL (H':=WJ A_ o r) (.inl Z) Z P_ ⟨Z,Z⟩
 have δ:=hY.symm.trans hc6;rw[a8 (λh=>by rw[À (by omega:(p.cnt:Int)=(W.cnt:Int)),À h.2]at δ;cases δ)]at B;refine U m4<|Y (kc call82 (u _))<|Da ?_;refine Cn ?_ ?_<;>intro hc7
 .have τ:W.cnt<=16:=I_ hc7
  rw[b6 τ]at B;rw[B];have a:C (CD r.offers)=C r.offers:=g_ _;have hol:C (r.offers++[fB W])=C r.offers+1:=by rw[j7];rfl
  refine aN a7<|Cr [718] (λ_ _=>aA)<|Cr [718] (λ_ _=>aA)<|Cr [718] (λH1 E=>by exact cT Z Z ((E _ Z).trans Z) Z)<|Cr [718] (λ_ h=>fh UY h)<|Cr [718] (λ_ h=>lh isAgg73 h)<|Cr [4] (λH1 E=>by exact aW Z iR eD Z ((E _ Z).trans Z) Z Z r4 Z)<|x_ (by exact bH Z Z call36 Z (hfl _))<|x_ (by exact aM ([fB W].map r6) Z HQ Z Z Z Z Z (qP _))<|Cp [723] (λH1 E=>by exact bU (n:=C r.offers) (k:=C r.offers+1) (ps:=[fB W].map r6) Z HQ aDD Z ((E _ Z).trans Z) Z Z Z a Z (qP [fB W]) (m:=1) Z X Z (rows':=CD (r.offers++[fB W])) (by rw[sU,sU,È,È])) ?_;refine Cr [718] (λH1 E=>by exact cT Z Z ((E _ Z).trans Z) Z)<|Cr [718] (λ_ h=>fh UY h)<|Cp [718] (λH1 E=>by exact cM Z sizeOf73 Z Z Z ((E _ Z).trans Z) Z Z y0 r4 r4)<|bF<|Kr ?_;refine pL (H':=WJ A_ o ⟨r.sent,r.wants,r.offers++[fB W]⟩) (.inl Z) Z ?_ ⟨Z,Z⟩;simp only[WJ,rpO,hol];exact P_
 have τ:¬ W.cnt<=16:=J_ hc7
 rw[a8 τ]at B;rw[B];refine Sz (sq (q:=19) Z U_ Z Z)<|aD<|bA (σ:=Nat) (λk=>([(0,.ref 718 0 0 0),(3,.ref 3 0 0 0),(19,.it 19 0)],(19,⟨0,0,0,SI Bz k⟩)::(3,bx 4 70 ((dH p).map .pv))::WJ A_ o ⟨r.sent,r.wants,r.offers++(BA.take k).map λd=>fB (dA A_ (p.pre++d))⟩)) (λk=>k<=16) (λk=>16 - k) 0 (k_ _) ?_ ?_
 .simp only[take_zero,ì,Ç];exact L_
 intro k hk;by_cases J:k<16
 .have ⟨c,d,d1,d2,d3,d4⟩:=aFQ k J;have D:(BA.take (k+1)).map (λd=>fB (dA A_ (p.pre++d)))=(BA.take k).map (λd=>fB (dA A_ (p.pre++d)))++[fB (dA A_ (p.pre++d))]:=by rw[eA d2,È];rfl
  have y:C (r.offers++(BA.take k).map λd=>fB (dA A_ (p.pre++d)))<=C r.offers+16:=by rw[j7,g_,n_];omega
  have hsz:T (p.pre++d)<2^40:=by rw[ByteArray.size_append];omega
  have l:=hpo (p.pre++d) hsz;have hcn:(dA A_ (p.pre++d)).cnt<1000000:=Nat.lt_of_le_of_lt (Å _ _) g;have hid:C (dA A_ (p.pre++d)).ids<=16:=by
   show C (if C (eF A_ (p.pre++d))<=16 then eF A_ (p.pre++d)else[])<=16
   split
   .assumption
   exact k_ _
  have b:=λH=>OJ (dA A_ (p.pre++d)) H X X;generalize dA A_ (p.pre++d)=Q at l b D;have ⟨F,I⟩:∃F,F=r.offers++(BA.take k).map λd=>fB (dA A_ (p.pre++d)):=X_;rw[<-I]at y |-;have w:C (F++[fB Q])=C F+1:=by rw[j7];rfl
  have a:C (CD F)=C F:=g_ _;refine U (Ey Z Z Z Z Z (show k<T Bz from J) d1)<|V dK<|S<|Cn ?_ ?_<;>intro hc8
  .refine aB<|aD<|U dK<|V aH<|aN a7<|Cr [718] (λ_ _=>aA)<|Cr [718] (λ_ _=>aA)<|Cr [718] (λH1 E=>by exact cT Z Z ((E _ Z).trans Z) Z)<|Cr [718] (λ_ h=>fh UY h)<|Cr [718] (λ_ h=>lh isAgg73 h)<|Cr [718] (λ_ _=>aA)<|Cr [718] (λH1 E=>by exact cT Z Z ((E _ Z).trans Z) Z)<|Cr [718] (λ_ h=>fh UZ h)<|Cr [718] (λ_ h=>fh JQ h)<|Cr [718] (λ_ h=>lh kM h)<|Cr [3] (λ_ h=>fh OG h)<|Cr [3] (λ_ h=>lh N_ h)<|x_ aA<|x_ (by exact cQ.eqv (cn Z underlying21 U_ Z) (by rw[d3]))<|x_ (by exact fL Z Z Z X (r:=p.pre++d) Z)<|x_ (by exact bH Z Z call35 Z (l _))<|x_ (by exact bH Z Z call36 Z (b _)) ?_;refine x_ (by exact aM ([fB Q].map r6) Z HQ Z Z Z Z Z (qP _))<|Cp [723] (λH1 E=>by exact bU (n:=C F) (k:=C F+1) (ps:=[fB Q].map r6) Z HQ aDD Z ((E _ Z).trans Z) Z Z Z a Z (qP [fB Q]) (m:=1) Z X Z (rows':=CD (F++[fB Q])) (by rw[sU,sU,È,È]))<|Cr [718] (λH1 E=>by exact cT Z Z ((E _ Z).trans Z) Z)<|Cr [718] (λ_ h=>fh UY h)<|Cp [718] (λH1 E=>by exact cM Z sizeOf73 Z Z Z ((E _ Z).trans Z) Z Z y0 r4 r4)<|bF<|Kr ?_;refine⟨k+1,X,X,?_⟩;have e:r.offers++(BA.take (k+1)).map (λd=>fB (dA A_ (p.pre++d)))=F++[fB Q]:=by rw[D,<-Ñ,<-I]
   simp only[WJ,rpO,e,w];exact L_
  cases hc8
 obtain rfl:k=16:=X
 refine U (WN Z Z Z Z Z (h_ 16))<|V dK<|S<|Cn ?_ ?_<;>intro hc9
 .cases hc9
 refine aP ?_;exact pL (H':=WJ A_ o ⟨r.sent,r.wants,r.offers++BA.map λd=>fB (dA A_ (p.pre++d))⟩) (.inl Z) Z P_ ⟨Z,Z⟩
theorem Ro{o:List (B_×B_)}(E:∀i,i∈o.map Prod.fst↔i∈A_)(D:IdS A_)(G:GoodP p)(I:rB A_ r.sent)(J:C r.wants<549755813888)(F:C r.offers<549755813888){H:aF}(B:FB H (WJ A_ o r)):
  aU φ 46 [.ref 718 0 0 0,av (dH p)] H (λx H'=>x=.tup []/\H'=WJ A_ o (mV A_ r p)++H) :=
 aU.frame (vq A_ o r p E D G I J F) (FB.sub B) (dO.ofL ⟨(by(simp;exact⟨Z,Z,Z,Z,Z⟩)),(dY _),(dY _),(aL _ _),r5,r5,T_⟩) (by simp[dH];rfl) (λid h=>.inl (aBC h))
theorem jj(J3:List (List B_)->B_):∀(n m:Nat) (l:List (List B_)),C l<=n->C l<=m->jk J3 n l=jk J3 m l
 |0,m,l,h,_=>by
  rw[List.length_eq_zero_iff.1 (Nat.le_zero.1 h)];cases m<;>simp[jk]
 |n+1,0,l,_,h=>by
  rw[List.length_eq_zero_iff.1 (Nat.le_zero.1 h)];simp[jk]
 |n+1,m+1,l,h1,h2=>by
  rw[jk,jk]
  split
  .rfl
  next B =>
  have D:=length_pos_iff.2 B;have:=TL J3 l (C l) 1;rw[jj J3 n m _ v6 v6]
theorem Np(J3:List (List B_)->B_){l:List (List B_)}(B:l≠[])(F:bu J3 l (C l) 1=n):jk J3 (C l) l=J3 (l.take n)::jk J3 (C (l.drop n)) (l.drop n):=by
 have G:=length_pos_iff.2 B;have ⟨k,E⟩:∃k,C l=k+1:=⟨C l - 1,X⟩;have D:=TL J3 l (C l) 1
 conv=>lhs;rw[E,jk,a8 B]
 rw[F]at D |-;rw[jj J3 k _ _ v6 (h_ _)]
theorem js(f:FuncId)(J3:List (List B_)->B_)(l:List (List B_))(q:C l<1000000000)(o:∀i n H,dQ φ (.pv (.fn f)) [.pv (tQ ((l.drop i).take n))] H (λr H'=>r=sv (J3 ((l.drop i).take n))/\H'=H))(H:aF):
  RC 48 [.pv (tQ l),.pv (.fn f)] (.pv (aK (O2 J3 l))) H:=by
 refine Pu<|Bd func48 Z ntmps48<|Sz aH<|Sz (dM (id:=905) (sz:=1) (ty:=9) Z Z Z)<|S<|aD<|eN (λ(i:Nat) (D:List B_)=>([(0,.pv (tQ (l.drop i))),(1,.pv (.fn f)),(5,.osl 905 (C D) 0 (C D))],[(905,⟨C D,1,9,bP D⟩)])) (λi D=>i<=C l/\C D<=i/\O2 J3 l=D++jk J3 (C (l.drop i)) (l.drop i)) (λi D=>C l - i) 0 [] ⟨k_ _,h_ _,by rw[Û,Ò];rfl⟩ ?_ ?_
 .exact L_
 rintro i D ⟨hi,hA,hpk⟩;have d:C (l.drop i)=C l - i:=q6;have G:=λn H=>o i n H;have F:∀n,(l.drop i).drop n=l.drop (i+n):=λn=>by rw[æ]
 generalize l.drop i=r at d G hpk F |-;have p:C (r.map r6)=C r:=g_ _;have Q:∀n,((r.map r6).take n).drop 0=(r.take n).map r6:=λn=>by rw[Û,map_take]
 refine S<|U aA<|Y (fP uL)<|V jB<|Cn ?_ ?_<;>intro J
 .have hpos:0<C r:=I_ J
  have b:r≠[]:=λe=>by rw[e]at hpos;exact absurd hpos E_
  refine aB<|aD<|Sz aH<|S<|aD<|bA (σ:=Nat) (λn=>([(0,.pv (tQ r)),(1,.pv (.fn f)),(5,.osl 905 (C D) 0 (C D)),(6,iv (n:Int))],[(905,⟨C D,1,9,bP D⟩)])) (λn=>1<=n/\n<=C r/\bu J3 r (C r) 1=bu J3 r (C r+1 - n) n) (λn=>C r - n) 1 ⟨h_ _,hpos,by rw[Nat.add_sub_cancel]⟩ ?_ ?_
  .exact L_
  rintro n ⟨h1,h2,h3⟩;have E:bu J3 r (C r+1 - n) n=if n<C r/\T (J3 (r.take (n+1)))<=18000 then bu J3 r (C r+1 - (n+1)) (n+1)else n:=by
   rw[show C r+1 - n=(C r+1 - (n+1))+1 by omega,bu]
  rw[E]at h3;clear E;have ⟨B,W⟩:∃B,B=(θ ((n:Int)<(C (r.map r6):Int))&&θ ((T (J3 (r.take (n+1))):Int)<=18000)):=X_;have a:=λH=>G (n+1) H;refine S<|S<|aT (t:=23) (n:=15) (A_:=B) ?_ ?_
  .all_goals refine Y aA<|Y aA<|Y (fP uL)<|Y cH<|Dm ?_<;>(refine Sp 14 (λR=>?_) λR=>?_)<;>(first|exact s_|refine M<|M<|M<|M<|M<|M<|M<|M ?_|refine O aA<|O aA<|O aA<|O kp<|O (eZ (l:=0) (h:=n+1) Z HQ Z (qP r) Z Z (k_ _) (I_ R) (Q (n+1)))<|O (dL Z Z Z (a _))<|O (gQ U_)<|O HV ?_)<;>refine V cE ?_<;>exact Gj (h:=by rw[W];(rw[R];rfl))
  refine Cn ?_ ?_<;>intro K
  .have hBt:=W.symm.trans K;rw[l7,l6,l6]at hBt;rw[b6 ⟨X,X⟩]at h3;refine aB<|aD<|Rd aA<|Y kp<|Da ?_;exact⟨n+1,⟨X,X,h3⟩,X,L_⟩
  have I:=W.symm.trans K;rw[a8 (λh=>by rw[À (by omega:(n:Int)<(C (r.map r6):Int)),À (by omega:(T (J3 (r.take (n+1))):Int)<=18000)]at I;cases I)]at h3;have c:=Np J3 b h3;have P:C (D++[J3 (r.take n)])=C D+1:=by rw[j7];rfl
  have L:=λH=>G n H;refine aP<|aN a7<|Cr [905] (λ_ _=>aA)<|x_ aA<|x_ aA<|x_ aA<|x_ (by exact eZ (l:=0) (h:=n) Z HQ Z (qP r) Z Z (k_ _) X (Q n))<|x_ (by exact dL Z Z Z (L _))<|x_ (by exact aM [[.str (J3 (r.take n))]] Z aY Z Z Z Z Z R_)<|Cp [905] (λH1 j=>by exact bU (k:=C D+1) (ps:=[[.str (J3 (r.take n))]]) Z aY sX Z ((j _ Z).trans Z) Z Z Z (dB _) Z R_ (m:=1) Z X Z (gP _ (J3 (r.take n))))<|x_ aA<|x_ aA<|x_ (by exact eZ (l:=n) (h:=C (r.map r6)) Z HQ Z (qP r) Z Z X (h_ _) (show ((r.map r6).take _).drop n=(l.drop (i+n)).map r6 by rw[Ã,<-F,â])) ?_;refine Cr [905] (λ_ _=>aH)<|x_ aH<|bF<|Kr ?_;refine⟨i+n,D++[J3 (r.take n)],⟨X,by rw[P];omega,?_⟩,X,?_⟩
  .rw[hpk,c,F,Ñ];rfl
  dsimp only;rw[P];exact L_
 have g:r=[]:=length_eq_zero_iff.1 (J_ J);rw[hpk,g];refine aP<|U aA<|V aH<|aC ?_;refine cR (H':=[]) (.inr Z) Z (aI Z) (Fin.slice0 (id:=905) ((D++[]).map S_) Z Z (by rw[Ç];exact(cX D)) (by rw[Ç,g_])) ?_;exact Qq
theorem TE:∀(n:Nat) (l:List B_) (P:List j0),WE n l=N P->C P<=C l/\∀p∈P,GoodP p
 |n,[],P,h=>by
  rw[QW]at h;cases h;exact⟨h_ _,λp B=>by cases B⟩
 |0,a::l,P,h=>by simp[WE]at h
 |n+1,[a],P,h=>by cases h
 |n+1,[a,b],P,h=>by cases h
 | n + 1, a :: b :: c :: r, P, h => by
  rw[WE]at h;have J:=G9 b
  split at h
  .next hc =>
   rw[l7,l7,l6]at hc
   split at h
   .next D =>
    split at h
    .next hg =>
     obtain ⟨Q,E,rfl⟩:=Option.map_eq_some_iff.1 h;have ⟨I,H⟩:=TE n _ Q E;rw[q6]at I;refine⟨by simp only[j6];omega,λp B=>?_⟩;rcases l9.1 B with rfl|B
     .refine⟨hc.1.1,by show (eS b).toNat<_;omega,hc.2,λ_=>⟨?_,hg.2.1,hg.2.2⟩,λF=>?_⟩
      .show C (r.take (eS b).toNat)=(eS b).toNat;rw[n_];omega
      have F:16<(eS b).toNat:=F;omega
     exact H p B
    cases h
   next D =>
   obtain ⟨Q,E,rfl⟩:=Option.map_eq_some_iff.1 h;have ⟨I,H⟩:=TE n _ Q E;refine⟨by simp only[j6];omega,λp B=>?_⟩;rcases l9.1 B with rfl|B
   .refine⟨hc.1.1,by show (eS b).toNat<_;omega,hc.2,λG=>?_,λ_=>rfl⟩;have G:(eS b).toNat<=16:=G;omega
   exact H p B
  cases h
theorem Ff(t:B_):C (nK t)<=T t/\∀p∈nK t,GoodP p:=by
 rw[nK]
 split
 .next o n r hz =>
  have D:=(xT _ _ _ (h_ _) hz).1;rw[aS]at D;simp only[j6]at D
  split
  .split
   .next P hP =>
    have ⟨F,E⟩:=TE _ _ P hP
    split
    .exact⟨X,E⟩
    exact⟨k_ _,λp B=>by cases B⟩
   exact⟨k_ _,λp B=>by cases B⟩
  exact⟨k_ _,λp B=>by cases B⟩
 exact⟨k_ _,λp B=>by cases B⟩
theorem Jt(t:B_):C (rC t)<=T t:=by
 rw[rC]
 split
 .next o i r hz =>
  have B:=(xT _ _ _ (h_ _) hz).1;rw[aS]at B;simp only[j6]at B
  split
  .rw[j6];omega
  exact k_ _
 exact k_ _
structure RepOk(A_:List B_)(n:Nat)(r:GRep):Prop where
 sent:rB A_ r.sent
 wl:C r.wants<=16*n
 ol:C r.offers<=16*n
 ws:∀w∈r.wants,C w<=19/\∀s∈w,T s<=24
 os:∀w∈r.offers,C w<=19/\∀s∈w,T s<=24
theorem Ba(D:IdS A_){q:B_}(E:T q<=17):C (fB (dA A_ q))<=19/\∀s∈fB (dA A_ q),T s<=24:=by
 have hi:C (dA A_ q).ids<=16/\∀s∈(dA A_ q).ids,T s<=24:=by
  show C (if C (eF A_ q)<=16 then eF A_ q else[])<=16/\∀s∈(if C (eF A_ q)<=16 then eF A_ q else[]),T s<=24
  split
  .exact⟨by assumption,λs B=>by rw[fR (D.dig s (mM.1 B).1)];decide⟩
  exact⟨k_ _,λs B=>by cases B⟩
 have F:C (eF A_ q)<1000000:=Nat.lt_of_le_of_lt (Å _ _) D.len;refine⟨?_,λs B=>?_⟩
 .rw[fB,j7];simp only[j6,Æ];omega
 rw[fB,î]at B;rcases B with B|B
 .simp only[l9,q8,or_false]at B;rcases B with rfl|rfl|rfl
  .exact Nat.le_trans E E_
  .show T (aV (C (eF A_ q):Int))<=24;exact Nat.le_trans (oF X X) E_
  show T (lO ⟨(aO (eF A_ q)).toArray⟩)<=24;rw[fR (DU _)];decide
 exact hi.2 s B
theorem RepOk.step(I:IdS A_)(h:RepOk A_ n r)(J:GoodP p):RepOk A_ (n+1) (mV A_ r p):=by
 have K:T p.pre<=16:=by have:=J.pre;rw[pH,l7,l6]at this;exact this.1
 have ⟨D,G,H,E,F⟩:=h;rw[mV]
 split
 .next hc =>
  have ⟨R,Q,_⟩:=J.sml hc;refine⟨D.fold _ _,?_,Nat.le_trans H X,λw B=>?_,F⟩
  .have:=Å (λi=>!θ (i∈A_)) p.ids;rw[j7,g_];omega
  rcases mem_append.1 B with B|B
  .exact E w B
  obtain ⟨i,hi,rfl⟩:=mem_map.1 B;rw[mem_filter]at hi;refine⟨(by decide:1<=19),λs L=>?_⟩;rw[q9]at L;rw[L,fR (MB Q i hi.1).1];decide
 split
 .exact⟨D,Nat.le_trans G X,Nat.le_trans H X,E,F⟩
 split
 .refine⟨D,Nat.le_trans G X,by rw[j7];simp only[j6,Æ];omega,E,λw B=>?_⟩;rcases mem_append.1 B with B|B
  .exact F w B
  rw[q9]at B;subst B;exact Ba I X
 refine⟨D,Nat.le_trans G X,by rw[j7,g_,show C BA=16 from rfl];omega,E,λw B=>?_⟩;rcases mem_append.1 B with B|B
 .exact F w B
 obtain ⟨d,P,rfl⟩:=mem_map.1 B;have:=(MD d P).1;exact Ba I (by rw[ByteArray.size_append];omega)
theorem mr:∀(L:List (List B_)),(∀w∈L,C w<=19/\∀s∈w,T s<=24)->C L.flatten<=19*C L/\∀s∈L.flatten,T s<=24
 | [],_=>⟨h_ _,λs B=>by cases B⟩
 |w::L,h=>by
  obtain ⟨H,F⟩:=mr L λw E=>h w (Â _ E);have ⟨G,D⟩:=h w Ä;rw[Ó,j7,j6];refine⟨X,λs B=>?_⟩;rcases mem_append.1 B with B|B
  .exact D s B
  exact F s B
theorem U2(F:C L<=1000000)(h:∀w∈L,C w<=19/\∀s∈w,T s<=24):C L.flatten<549755813888/\C (aO (fC::aV (C L:Int)::L.flatten))<35184372088832/\C (aO (pX::L.flatten))<35184372088832:=by
 have ⟨E,D⟩:=mr L h;have hi:T (aV (C L:Int))<=1000000:=Nat.le_trans (oF X X) E_;refine⟨X,?_,?_⟩
 .refine Nat.lt_of_le_of_lt (DT _ λs B=>?_) (by rw[j6,j6];omega);rcases l9.1 B with rfl|B
  .decide
  rcases l9.1 B with rfl|B
  .exact hi
  have:=D s B;omega
 refine Nat.lt_of_le_of_lt (DT _ λs B=>?_) (by rw[j6];omega);rcases l9.1 B with rfl|B
 .decide
 have:=D s B;omega
theorem mq(h:∀w∈L,C w<=19/\∀s∈w,T s<=24)(i n:Nat):∀w∈(L.drop i).take n,C w<=19/\∀s∈w,T s<=24:=λw B=>h w (Ï (ã B))
theorem Xt(l:List (List B_))(F:C l<=1000000)(h:∀w∈l,C w<=19/\∀s∈w,T s<=24)(H:aF):RC 48 [.pv (tQ l),.pv (.fn 49)] (.pv (aK (O2 iS l))) H :=js 49 iS l X (λi n H=>by
  have G:C ((l.drop i).take n)<=C l:=by rw[n_,q6];omega
  have ⟨B,E,D⟩:=U2 (L:=(l.drop i).take n) X (mq h i n);exact dQ.fn call49 (aB3 _ H X B D)) H
theorem Xu(l:List (List B_))(F:C l<=1000000)(h:∀w∈l,C w<=19/\∀s∈w,T s<=24)(H:aF):RC 48 [.pv (tQ l),.pv (.fn 34)] (.pv (aK (O2 kP l))) H :=js 34 kP l X (λi n H=>by
  have G:C ((l.drop i).take n)<=C l:=by rw[n_,q6];omega
  have ⟨B,D,E⟩:=U2 (L:=(l.drop i).take n) X (mq h i n);exact dQ.fn call34 (zm _ H X B D)) H
theorem RA(J3:List (List B_)->B_)(l:List (List B_)):C (O2 J3 l)<=C l:=by
 have h:∀(f:Nat) (l:List (List B_)),C (jk J3 f l)<=C l:=by
  intro f
  induction f with
  |zero=>exact λl=>k_ _
  |succ f E =>
   intro l;rw[jk]
   split
   .exact k_ _
   next D =>
   have G:=length_pos_iff.2 D;have F:=TL J3 l (C l) 1;have B:=E (l.drop (bu J3 l (C l) 1));rw[q6]at B;rw[j6];omega
 exact h _ l
theorem R9(L:List (List B_)):((L.map r6).take (0+C L)).drop 0=L.map r6:=fV r6 L
theorem qi(o:List (B_×B_))(f_:List B_):(((f_.map (iV o)).map S_).take (0+C f_)).drop 0=(f_.map (iV o)).map S_:=by
 have:=fV S_ (f_.map (iV o))
 rwa [g_]at this
theorem VR(L:List B_)(t:B_)(H:aF)(hl:C L<1000000)(hs:∀t∈L,T t<1000000000):
  RC 14 [.pv (aK L),sv t] (.tup [.pv (aK (if 20000<T t then[]else gB L t)),iv (if 20000<T t then 2 else 0)]) H:=by
 refine Pu ?_;have v:=nL hl;have w:∀i,i∈(jE L).map Prod.fst↔i∈cD L:=λi=>(pU _).mem_iff.symm;have b:=Pj L hl hs (H:=[]) Z;have W:=Ff t;have κ:=Jt t;have E:gB L t=([((yT (cD L) t).sent.map (iV (jE L))),O2 iS (yT (cD L) t).wants,O2 kP (yT (cD L) t).offers]:List (List B_)).flatten:=by rw[gB];simp
 have B:yT (cD L) t=(nK t).foldl (mV (cD L)) ⟨(rC t).foldl (jT (cD L)) [],[],[]⟩:=rfl;have Q:=λh H=>Jr t H h;have I:=λh H=>Fe t H h;generalize nK t=P at W B I;generalize rC t=D at κ B Q;generalize cD L=A_ at v w b E B;generalize jE L=o at w b E;have δ:=v.len;have β:C (D.map S_)=C D:=g_ _;have γ:C (P.map dH)=C P:=g_ _;have R:rB A_ []:=⟨nodup_nil,λi hi=>by cases hi⟩;refine Bd func14 Z ntmps14<|U aH<|V aH<|S<|U aA<|Y (gQ U_)<|V jB<|Cn ?_ ?_<;>intro g
 .have hbig:20000<T t:=I_ g
  rw[b6 hbig,b6 hbig];refine U aH<|V aH<|aC<|gH (H':=[]) (.inr Z) Z (aI Z) (aI Z) (P_ (r:=.tup [.pv (aK []),iv 2])) ?_;exact Qq
 have u:¬ 20000<T t:=J_ g
 rw[a8 u,a8 u];have Q:=λH=>Q X H;have I:=λH=>I X H;refine aB<|U aA<|Y (kc call42 (b))<|Y (wD (id:=720) KH Z Z)<|Y (oU aFY)<|Y (kb 718)<|V aH<|S<|S ?_;refine gK.ent (E':=[(1,sv t),(6,.ref 718 0 0 0)]) (H':=(721,⟨0,1,9,[]⟩)::(718,bx 6 84 [.pv (aK A_),.mp 710 0,.osl 721 0 0 0,.mp 720 0,.pv .nils,.pv .nils])::(720,WF [])::(710,WF (tM o))::[]) ?_ ?_
 .exact (Q_ 721 1 9)
 refine gK.ent (E':=[(1,sv t),(6,.ref 718 0 0 0)]) (H':=(722,⟨0,1,22,[]⟩)::(721,⟨0,1,9,[]⟩)::(718,bx 6 84 [.pv (aK A_),.mp 710 0,.osl 721 0 0 0,.mp 720 0,.osl 722 0 0 0,.pv .nils])::(720,WF [])::(710,WF (tM o))::[]) ?_ ?_
 .exact (Q_ 722 1 22)
 refine gK.ent (E':=[(1,sv t),(6,.ref 718 0 0 0)]) (H':=(723,⟨0,1,22,[]⟩)::(722,⟨0,1,22,[]⟩)::(721,⟨0,1,9,[]⟩)::(718,bx 6 84 [.pv (aK A_),.mp 710 0,.osl 721 0 0 0,.mp 720 0,.osl 722 0 0 0,.osl 723 0 0 0])::(720,WF [])::(710,WF (tM o))::[]) ?_ ?_
 .exact (Q_ 723 1 22)
 refine Rd aA<|Y (kc call43 (Q _))<|Y (fP aE)<|V aA<|aD<|bA (σ:=Nat) (λk=>([(1,sv t),(6,.ref 718 0 0 0),(20,.pv (aK D)),(21,iv (C (D.map S_):Int)),(22,iv (k:Int))],WJ A_ o ⟨(D.take k).foldl (jT A_) [],[],[]⟩)) (λk=>k<=C D) (λk=>C D - k) 0 (k_ _) ?_ ?_
 .exact L_
 intro k hk;have K:=(rB.fold (D.take k) [] R).len;refine Sz cH<|S<|Cn ?_ ?_<;>intro j
 .have hlt:k<C D:=I_ j
  have ⟨s,F⟩:=aQ hlt;have hi:=cA (f:=S_) F;have G:(D.take (k+1)).foldl (jT A_) []=jT A_ ((D.take k).foldl (jT A_) []) s:=by rw[eA F,Ø];rfl
  generalize (D.take k).foldl (jT A_) []=f_ at K G |-;refine aB<|S<|aD<|U (jA aY)<|Y (fK N_ (hi:=hi))<|V aH<|Rd aA<|Y aA<|V (kc call44 (aAt (r:=⟨f_,[],[]⟩) w (show C f_<2^40 by omega) ⟨Z,Z,Z,Z,Z,Z,T_⟩))<|Rd iF<|V aA ?_;refine⟨k+1,X,X,?_⟩;dsimp only;rw[G];exact L_
 have a:k=C D:=J_ j
 subst a;rw[Ã];have K:=rB.fold D [] R;have ⟨c,e⟩:∃f_,f_=D.foldl (jT A_) []:=X_;rw[<-e]at K B |-;clear e;refine aP<|S<|U aA<|Y (kc call45 (I _))<|Y (fP underlying86)<|V aA<|aD<|bA (σ:=Nat) (λk=>([(6,.ref 718 0 0 0),(31,.pv (DB P)),(32,iv (C (P.map dH):Int)),(33,iv (k:Int))],WJ A_ o ((P.take k).foldl (mV A_) ⟨c,[],[]⟩))) (λk=>k<=C P/\RepOk A_ k ((P.take k).foldl (mV A_) ⟨c,[],[]⟩)) (λk=>C P - k) 0 ⟨k_ _,⟨K,h_ _,h_ _,(λw hw=>by cases hw),(λw hw=>by cases hw)⟩⟩ ?_ ?_
 .exact L_
 rintro k ⟨hk,hR⟩;refine Sz cH<|S<|Cn ?_ ?_<;>intro l
 .have hlt:k<C P:=I_ l
  have ⟨p,F⟩:=aQ hlt;have hi:=cA (f:=dH) F;have m:=W.2 p (m7 F);have G:(P.take (k+1)).foldl (mV A_) ⟨c,[],[]⟩=mV A_ ((P.take k).foldl (mV A_) ⟨c,[],[]⟩) p:=by rw[eA F,Ø];rfl
  have d:=hR.step v m;have ⟨J,n,q,_,_⟩:=hR;generalize (P.take k).foldl (mV A_) ⟨c,[],[]⟩=r at J n q d G |-;refine aB<|S<|aD<|U (jA aBj)<|Y (by exact fG Z iR eD Z hi r4 Z)<|Y (kl 10 Jc)<|Uu (jH eD)<|Zz<|Rd aA<|Y m4<|V (kc call46 (Ro (r:=r) w v m J X X ⟨Z,Z,Z,Z,Z,Z,T_⟩))<|Rd iF<|V aA ?_;refine⟨k+1,⟨X,by rw[G];exact d⟩,X,?_⟩;dsimp only;rw[G];exact L_
 have a:k=C P:=J_ l
 subst a;rw[Ã]at hR |-;rw[<-B]at hR |-;rw[E];clear E B;generalize yT A_ t=r at hR |-;have ⟨J,n,q,τ,ρ⟩:=hR;have hrs:=J.len;have z:=λH=>Xt r.wants X τ H;have y:=λH=>Xu r.offers X ρ H;have hw1:=RA iS r.wants;have ho1:=RA kP r.offers;have x:=λH=>lH [r.sent.map (iV o),O2 iS r.wants,O2 kP r.offers] H (by decide:3<2^40) (by simp only[Ó,Ù,j7,Æ,g_];omega);refine aP<|S ?_;refine gK.ent (cJ.fzG (id:=721) (E':=[(6,.ref 718 0 0 0)]) (H':=[(718,bx 6 84 [.pv (aK A_),.mp 710 0,.pv (aK (r.sent.map (iV o))),.mp 720 0,.osl 722 (C r.wants) 0 (C r.wants),.osl 723 (C r.offers) 0 (C r.offers)]),(710,WF (tM o)),(720,WF (sM r.sent)),(722,⟨C r.wants,1,22,CD r.wants⟩),(723,⟨C r.offers,1,22,CD r.offers⟩)]) ((r.sent.map (iV o)).map S_) Z (cX _) ?_ Z ?_ ?_) ?_
 .intro p hp;simp only[l9,q8,or_false]at hp;rcases hp with rfl;exact⟨_,Z,.same u3⟩
 .exact⟨⟨_,Z,Z,Z,Z,kY Z (bG (.same H_) (bG (.same u3) (bG (.osl (qi o r.sent)) (bG (.same u3) (bG (.same u3) (bG (.same u3) jV))))))⟩,⟨_,Z,Z,Z,Z,dF (dY _)⟩,⟨_,Z,Z,Z,Z,dF (dY _)⟩,⟨_,Z,Z,Z,Z,dF (vD _)⟩,⟨_,Z,Z,Z,Z,dF (vD _)⟩,T_⟩
 .exact T_
 refine gK.ent (cJ.fzG (id:=722) (E':=[(6,.ref 718 0 0 0)]) (H':=[(718,bx 6 84 [.pv (aK A_),.mp 710 0,.pv (aK (r.sent.map (iV o))),.mp 720 0,.pv (tQ r.wants),.osl 723 (C r.offers) 0 (C r.offers)]),(710,WF (tM o)),(720,WF (sM r.sent)),(723,⟨C r.offers,1,22,CD r.offers⟩)]) (r.wants.map r6) Z (sU _) ?_ Z ?_ ?_) ?_
 .intro p hp;simp only[l9,q8,or_false]at hp;rcases hp with rfl;exact⟨_,Z,.same u3⟩
 .exact⟨⟨_,Z,Z,Z,Z,kY Z (bG (.same H_) (bG (.same u3) (bG (.same H_) (bG (.same u3) (bG (.osl (R9 r.wants)) (bG (.same u3) jV))))))⟩,⟨_,Z,Z,Z,Z,dF (dY _)⟩,⟨_,Z,Z,Z,Z,dF (dY _)⟩,⟨_,Z,Z,Z,Z,dF (vD _)⟩,T_⟩
 .exact T_
 refine gK.ent (cJ.fzG (id:=723) (E':=[(6,.ref 718 0 0 0)]) (H':=[(718,bx 6 84 [.pv (aK A_),.mp 710 0,.pv (aK (r.sent.map (iV o))),.mp 720 0,.pv (tQ r.wants),.pv (tQ r.offers)]),(710,WF (tM o)),(720,WF (sM r.sent))]) (r.offers.map r6) Z (sU _) ?_ Z ?_ ?_) ?_
 .intro p hp;simp only[l9,q8,or_false]at hp;rcases hp with rfl;exact⟨_,Z,.same u3⟩
 .exact⟨⟨_,Z,Z,Z,Z,kY Z (bG (.same H_) (bG (.same u3) (bG (.same H_) (bG (.same u3) (bG (.same H_) (bG (.osl (R9 r.offers)) jV))))))⟩,⟨_,Z,Z,Z,Z,dF (dY _)⟩,⟨_,Z,Z,Z,Z,dF (dY _)⟩,T_⟩
 .exact T_
 exact aN a7<|Cq aA<|Cq pQ<|Cq (bC vb)<|Cq (bT aG)<|Cq aA<|Cq pQ<|Cq (bC va)<|Cq (bT isAgg73)<|Cq (kc call48 (z _))<|Cq aA<|Cq pQ<|Cq (bC UY)<|Cq (bT isAgg73)<|Cq (kc call48 (y _))<|Cq (aM ([r.sent.map (iV o),O2 iS r.wants,O2 kP r.offers].map r6) Z HQ Z Z Z Z Z (qP _))<|Cq (kc call47 (x _))<|Cq aH<|Cq aH<|bF<|Kr<|aC<|Ru<|Qq
theorem xt{α:Type}(f g:α->Nat):∀L:List α,(L.map λa=>f a+g a).sum=(L.map f).sum+(L.map g).sum
 | []=>rfl
 |a::L=>by
  have:=xt f g L;simp only[Ì,Ð]at *;omega
theorem xq{α:Type}(P:α->Bool):∀L:List α,(L.map λa=>if P a=A then 1 else 0).sum=L.countP P
 | []=>rfl
 |a::L=>by
  have:=xq P L;rw[Ì,Ð,this];by_cases h:P a=A
  .rw[b6 h,Þ h];omega
  rw[a8 h,ß h];omega
theorem Kk{α:Type}(f g:α->Nat):∀L:List α,(∀a∈L,f a<=g a)->(L.map f).sum<=(L.map g).sum
 | [],_=>h_ _
 |a::L,h=>by
  have D:=Kk f g L λb B=>h b (Â _ B);have E:=h a Ä;rw[Ì,Ì,Ð,Ð];omega
theorem YI{α:Type}(P:α->Bool):∀(L:List α),L.Nodup->(∀d∈L,∀e∈L,P d=A->P e=A->d=e)->L.countP P<=1
 | [],_,_=>k_ _
 |d::L,hn,h=>by
  rw[List.nodup_cons]at hn;by_cases D:P d=A
  .have h0:L.countP P=0:=List.countP_eq_zero.2 λe B E=>hn.1 (by rw[h d Ä e (Â _ B) D E];exact B);rw[Þ D,h0];exact h_ _
  rw[ß D];exact YI P L hn.2 λa F e B=>h a (Â _ F) e (Â _ B)
theorem uk:BA.Nodup:=by decide +kernel
theorem xu(q:B_):∀(B:List B_),(BA.map λd=>C (eF B (q++d))).sum<=C (eF B q)
 | []=>by
  rw[show (BA.map λd=>C (eF [] (q++d))).sum=0 from rfl];exact k_ _
 | z::B=>by
  have I:=xu q B;have D:∀p,C (eF (z::B) p)=(if mO p z=A then 1 else 0)+C (eF B p):=λp=>by
   rw[eF,eF];by_cases h:mO p z=A
   .rw[filter_cons_of_pos h,b6 h,j6];omega
   rw[filter_cons_of_neg h,a8 h];omega
  have E:(BA.map λd=>(if mO (q++d) z=A then 1 else 0)).sum<=if mO q z=A then 1 else 0:=by
   rw[xq (λd=>mO (q++d) z)];by_cases h:mO q z=A
   .rw[b6 h];exact YI _ _ uk λd F e H D E=>aA4 (MD d F).1 (MD e H).1 D E
   rw[List.countP_eq_zero.2 λd F G=>h (Sk G)];exact k_ _
  simp only[D];rw[xt (λd=>if mO (q++d) z=A then 1 else 0) (λd=>C (eF B (q++d)))];omega
def fm(B:List B_)(L:List (List B_)):Nat:=(L.map λe=>C (eF B (e.headD a6))).sum
def PT(B:List B_)(P:List j0):Nat:=(P.map λp=>C (eF B p.pre)).sum
theorem aB2(B:List B_)(P:List j0):fm B (P.map fB)=PT B P:=by rw[fm,PT,Í];rfl
theorem Z4(D:List B_)(E B:List (List B_)):fm D (E++B)=fm D E+fm D B:=by rw[fm,È,Ú];rfl
theorem SX(y_:List B_):∀(l s:List B_),C (l.foldl (jT y_) s)<=C s+C l
 | [],s=>h_ _
 | i::l,s=>by
  rw[List.foldl_cons];refine Nat.le_trans (SX y_ l _) ?_;have:C (jT y_ s i)<=C s+1:=by
   rw[jT]
   split
   .rw[j7];exact h_ _
   omega
  rw[j6];omega
theorem aDM(A_ y_:List B_)(q:B_)(r:GRep):C (mV y_ r (dA A_ q)).sent<=C r.sent+C (eF y_ q)/\C (mV y_ r (dA A_ q)).wants<=C r.wants+C (eF A_ q) /\
  (C (mV y_ r (dA A_ q)).offers)<=C r.offers+(C (eF A_ q)+C (eF y_ q))/\∀D,fm D (mV y_ r (dA A_ q)).offers<=fm D r.offers+C (eF D q):=by
 rw[mV]
 split
 .next B =>
  have B:C (eF A_ q)<=16:=B;refine⟨Nat.le_trans (SX y_ _ _) ?_,?_,Nat.le_add_right _ _,λD=>Nat.le_add_right _ _⟩
  .exact Nat.add_le_add_left (Å _ _) _
  rw[j7,g_,K0 B];exact Nat.add_le_add_left (Å _ _) _
 next B =>
 have B:¬ C (eF A_ q)<=16:=B
 split
 .exact⟨Nat.le_add_right _ _,Nat.le_add_right _ _,Nat.le_add_right _ _,λD=>Nat.le_add_right _ _⟩
 split
 .refine⟨Nat.le_add_right _ _,Nat.le_add_right _ _,?_,λD=>?_⟩
  .rw[j7,Ö];omega
  rw[Z4];exact h_ _
 next E =>
 have E:¬ C (eF y_ q)<=16:=E;refine⟨Nat.le_add_right _ _,Nat.le_add_right _ _,?_,λD=>?_⟩
 .rw[j7,g_,show C BA=16 from rfl];omega
 rw[Z4];refine Nat.add_le_add_left ?_ _;rw[fm,Í];exact xu q D
theorem Ax(A_ y_:List B_):∀(P:List j0) (r:GRep),(∀p∈P,∃q,p=dA A_ q)->C (P.foldl (mV y_) r).sent<=C r.sent+PT y_ P/\C (P.foldl (mV y_) r).wants<=C r.wants+PT A_ P /\
  (C (P.foldl (mV y_) r).offers)<=C r.offers+(PT A_ P+PT y_ P)/\∀B,fm B (P.foldl (mV y_) r).offers<=fm B r.offers+PT B P
 | [],r,_=>⟨h_ _,h_ _,h_ _,λB=>h_ _⟩
 |p::P,r,h=>by
  obtain ⟨q,rfl⟩:=h p Ä;have ⟨H,I,J,E⟩:=aDM A_ y_ q r;have ⟨K,L,Q,F⟩:=Ax A_ y_ P (mV y_ r (dA A_ q)) λp G=>h p (Â _ G);have D:∀B,PT B (dA A_ q::P)=C (eF B q)+PT B P:=λB=>by rw[PT,Ì,Ð];rfl
  rw[í,D,D];refine⟨X,X,X,λB=>?_⟩;have:=E B;have:=F B;rw[D];omega
def WC(B:List B_)(q:List B_):Nat:=(q.map λt=>PT B (nK t)).sum
def Z2(q:List B_):Nat:=(q.map λt=>C (rC t)).sum
theorem QD(D E B:List B_):WC D (E++B)=WC D E+WC D B:=by rw[WC,È,Ú];rfl
theorem QC(D B:List B_):Z2 (D++B)=Z2 D+Z2 B:=by rw[Z2,È,Ú];rfl
theorem FA{α:Type}(f:α->Nat):∀L:List α,(∀a∈L,f a=0)->(L.map f).sum=0
 | [],_=>rfl
 |a::L,h=>by rw[List.map_cons,List.sum_cons,h a List.mem_cons_self,FA f L λb B=>h b (List.mem_cons_of_mem _ B)]
theorem SF{β:Type}(g:List β->Nat)(D:g []=0)(E:∀a b,g (a++b)=g a+g b):∀B:List (List β),(B.map g).sum=g B.flatten
 | []=>D.symm
 |c::B=>by rw[List.map_cons,List.sum_cons,List.flatten_cons,E,SF g D E B]
theorem aCE{y_:List B_}(f:IdS y_){m:Nat}{Q:List j0}(b:∀p∈Q,By y_ m p):Z2 (O2 kP (Q.map fB))=0/\∀E,WC E (O2 kP (Q.map fB))=fm E (Q.map fB):=by
 have ⟨H,L,I,P⟩:=NP kP (Q.map fB);have K:∀c∈H,∃R:List j0,c=R.map fB/\nK (kP c)=R/\rC (kP c)=[]:=λc D=>by
  obtain ⟨R,rfl,d⟩:=HL fB I c D;have ⟨i,F⟩:=P _ D;have B:∀p∈R,By y_ m p:=λp g=>b p (d p g);have J:=cw R;have G:C R<=20000:=by
   rcases F with F|F
   .rw[g_]at F;omega
   omega
  have ⟨W,a⟩:=wF f B G;exact⟨R,Z,W,a⟩
 rw[L];refine⟨?_,λE=>?_⟩
 .rw[Z2,Í];exact FA _ _ λc D=>by
   have ⟨R,_,_,h⟩:=K c D;show C (rC (kP c))=0;rw[h];rfl
 rw[WC,Í,<-I,<-SF (fm E) Z (Z4 E) H];congr 1;refine å λc D=>?_;have ⟨R,e,h,_⟩:=K c D;show PT E (nK (kP c))=fm E c;rw[h,e,aB2]
theorem Xq(d:IdS A_){L:List B_}(W:∀s∈L,s∈A_):Z2 (O2 iS (L.map λs=>[s]))<=C L/\∀J,WC J (O2 iS (L.map λs=>[s]))=0:=by
 have ⟨F,K,G,P⟩:=NP iS (L.map λs=>[s]);have I:∀c∈F,∃R:List B_,c=R.map (λs=>[s])/\nK (iS c)=[]/\rC (iS c)=R:=λc B=>by
  obtain ⟨R,rfl,a⟩:=HL (λs=>[s]) G c B;have ⟨Q,f⟩:=P _ B;have D:R≠[]:=λe=>Q (by rw[e];rfl);have H:∀s∈R,m6 s=A:=λs E=>d.dig s (W s (a s E));exact⟨R,Z,NX R λs E=>by have:=fR (H s E);omega,uV R H D⟩
 rw[K];refine⟨?_,λJ=>?_⟩
 .rw[Z2,Í];have h:=SF (λc:List (List B_)=>C c) Z (λa b=>j7) F;rw[G,g_]at h;rw[<-h];refine Kk _ _ _ λc B=>?_;have ⟨R,e,_,h⟩:=I c B;show C (rC (iS c))<=C c;rw[h,e,g_];exact h_ _
 rw[WC,Í];exact FA _ _ λc B=>by
  have ⟨R,_,h,_⟩:=I c B;show PT J (nK (iS c))=0;rw[h];rfl
theorem aDW{a b:List B_}(ha:C a<1000000)(hb:C b<1000000){t:B_}(h:MsgW (cD a) (cD b) (n+1) t):C (gB b t)<=C (rC t)+2*(PT (cD a) (nK t)+PT (cD b) (nK t)) /\
  Z2 (gB b t)<=PT (cD a) (nK t)/\∀B,WC B (gB b t)<=PT B (nK t):=by
 have K:=nL ha;have J:=nL hb;have D:∀(f_:List B_),(∀i∈f_,i∈cD b)->Z2 (f_.map (iV (jE b)))=0/\∀B,WC B (f_.map (iV (jE b)))=0:=λf_ l=>by
  rw[Z2,Í];refine⟨FA _ _ λi hi=>?_,λB=>?_⟩
  .show C (rC (iV (jE b) i))=0;rw[(AM (FL (l i hi)).1).2];rfl
  rw[WC,Í];refine FA _ _ λi hi=>?_;show PT B (nK (iV (jE b) i))=0;rw[(AM (FL (l i hi)).1).1];rfl
 generalize hn:n+1=k at h;cases h with
 |recd F E I =>
  have ⟨y,z⟩:=AM F;rw[OD b y z];exact⟨k_ _,k_ _,λB=>k_ _⟩
 | @want m L F E I =>
  have hw:=uV L (λs H=>J.dig s (E s H).1) F;rw[gB,FG (λs H=>J.dig s (E s H).1) F,hw];have hl:=SX (cD b) L [];have ⟨r1,r2⟩:=D (L.foldl (jT (cD b)) []) λi hi=>(FE _ _ _ i hi).elim (λh=>by cases h) λh=>h.2;refine⟨?_,?_,λB=>?_⟩
  .rw[j7,g_];show C (L.foldl (jT (cD b)) [])+0<=_;rw[Æ]at hl;omega
  .rw[QC,r1];exact k_ _
  rw[QD,r2];exact k_ _
 | @offr m P F E I h4 =>
  have ⟨v,w⟩:=wF K E I;have hi:=QR K J E I;have o:=Ax (cD a) (cD b) P ⟨[],[],[]⟩ λp W=>(E p W).elim λq h=>⟨q,h.1⟩;have G:yT (cD b) (kP (P.map fB))=P.foldl (mV (cD b)) ⟨[],[],[]⟩:=by rw[yT,v,w];rfl
  rw [G] at hi;rw [gB,G,v,w];have ⟨r,hr⟩:∃ r,r=P.foldl (mV (cD b)) ⟨[],[],[]⟩:=X_;rw [<- hr] at hi o |-;have ⟨d,f,g,j⟩:=o;have ⟨s1,⟨L,c,s3⟩,⟨Q,s4,x⟩⟩:=hi;have ⟨r1,r2⟩:=D r.sent λi hi=>(s1 i hi).1;have ⟨w1,w2⟩:=Xq K (L:=L) λs H=>(s3 s H).1;have R:Z2 (O2 kP r.offers)=0/\∀ B,WC B (O2 kP r.offers)=fm B r.offers:=by
   rw[s4];cases Q with
   |nil=>exact⟨Z,λB=>rfl⟩
   | cons p Q =>
    obtain ⟨u,rfl,_⟩:=x p Ä;exact aCE J (m:=u) λp W=>by
     have ⟨m2,e,h⟩:=x p W;obtain rfl:u=m2:=X
     exact h
  have ⟨g1,g2⟩:=R;have p1:=RA iS r.wants;have p2:=RA kP r.offers;have τ:C r.wants=C L:=by rw[c,g_]
  have d:C r.sent<=0+PT (cD b) P:=d;have f:C r.wants<=0+PT (cD a) P:=f;have g:C r.offers<=0+(PT (cD a) P+PT (cD b) P):=g;refine⟨?_,?_,λB=>?_⟩
  .rw[j7,j7,g_,Æ];omega
  .rw[QC,QC,r1,g1,c];omega
  have j:fm B r.offers<=fm B ([]:List (List B_))+PT B P:=j B;rw[QD,QD,r2,g2,c,w2];have h0:fm B ([]:List (List B_))=0:=rfl;omega
theorem dz{a b:List B_}(E:C a<1000000)(F:C b<1000000){n:Nat}:∀(q:List B_),(∀t∈q,MsgW (cD a) (cD b) (n+1) t) ->
  (C (q.flatMap (gB b)))<=Z2 q+2*(WC (cD a) q+WC (cD b) q)/\Z2 (q.flatMap (gB b))<=WC (cD a) q/\∀B,WC B (q.flatMap (gB b))<=WC B q
 | [],_=>⟨h_ _,h_ _,λB=>h_ _⟩
 |t::q,h=>by
  obtain ⟨K,L,G⟩:=aDW E F (h t Ä);have ⟨P,Q,H⟩:=dz E F q λt J=>h t (Â _ J);have D:∀B,WC B (t::q)=PT B (nK t)+WC B q:=λB=>by rw[WC,Ì,Ð];rfl
  have I:Z2 (t::q)=C (rC t)+Z2 q:=by rw[Z2,Ì,Ð];rfl
  rw[Ü,j7,QC,D,D,I];refine⟨X,X,λB=>?_⟩;have:=G B;have:=H B;rw[QD,D];omega
theorem Kt{a b:List B_}(E:C a<1000000)(F:C b<1000000):∀k,k<=19->C (kI a b k).q<=1+3*(C (cD a)+C (cD b))/\Z2 (kI a b k).q<=C (cD a)+C (cD b)/\∀B,WC B (kI a b k).q<=C B
 |0,_=>by
  have R:nK (gJ (cD a))=[dA (cD a) a6]:=vC (lL a) (xC a) (nL E).len;have D:rC (gJ (cD a))=[]:=(wF (nL E) (n:=15) (P:=[dA (cD a) a6]) (λp Q=>by rw[q9]at Q;subst Q;exact⟨a6,Z,E_,.inr E_⟩) (by show 1<=20000;decide)).2;refine⟨by show 1<=_;omega,?_,λB=>?_⟩
  .rw[show Z2 (kI a b 0).q=C (rC (gJ (cD a)))+0 from Z,D];exact k_ _
  rw[show WC B (kI a b 0).q=PT B (nK (gJ (cD a)))+0 from Z,R];show C (eF B a6)+0+0<=_;rw[GU];exact h_ _
 | k+1,hk=>by
  have K:=IY E F k X;have ⟨n,W⟩:∃n,19 - k=n+1:=⟨18 - k,X⟩;rw[W]at K;have ⟨c,d,G⟩:=Kt E F k X;have e:=G (cD a);have f:=G (cD b);rw[kI];by_cases D:k % 2=0
  .rw[b6 D];have ⟨H,I,J⟩:=dz E F (kI a b k).q λt L=>by have:=K t L;rwa [b6 D]at this
   exact⟨Nat.le_trans H X,Nat.le_trans I X,λB=>Nat.le_trans (J B) (G B)⟩
  rw[a8 D];have ⟨H,I,J⟩:=dz F E (kI a b k).q λt L=>by have:=K t L;rwa [a8 D]at this
  exact⟨Nat.le_trans H X,Nat.le_trans I X,λB=>Nat.le_trans (J B) (G B)⟩
end Go.Proofs.C
namespace Go.Proofs.C
open Go.Proofs.Tryz
open Go.Abs
variable{F:FuncId}{caps:List AV}{PR:List B_->Prop}
def Bw(F:FuncId)(caps:List AV)(PR:List B_->Prop)(K:aF):Prop :=∀(E:AV) (D:List B_->aF),(∀B,Sub K (D B))->(∀B,(D B).get 946=ζ)->(∀B,dO (D B))->(∀B,Clo (D B) E) ->
  (∀B x,C B<2^40->dQ φ E [sv x] (D B) (λr H'=>r=bv A/\H'=D (B++[x]))) ->
  (∀o B x,C B<2^40->dQ φ E [sv x] ((946,o)::D B) (λr H'=>r=bv A/\H'=(946,o)::D (B++[x]))) ->
  aU φ F (E::caps) (D []) (λr H'=>r=.tup []/\∃B,PR B/\H'=D B)
def Ug:dG:=[(2,.ref 942 0 0 0)]
def Uy(e_:List B_)(K:aF):aF:=(945,⟨C e_,1,9,bP e_⟩)::(942,bx 1 22 [.osl 945 (C e_) 0 (C e_)])::K
theorem wj(e_:List B_)(s:B_)(K:aF):Uy (e_++[s]) K=(945,⟨C e_+1,1,9,bP (e_++[s])⟩)::(942,bx 1 22 [.osl 945 (C e_+1) 0 (C e_+1)])::K:=by simp[Uy]
theorem qa{e_:List B_}{K:aF}{x:Go.Loop}(h:dO K):dO ((944,LR x Ug)::Uy e_ K):=by refine dO.app (D:=[(944,LR x Ug),(945,⟨C e_,1,9,bP e_⟩),(942,bx 1 22 [.osl 945 (C e_) 0 (C e_)])]) ?_ h;refine EJ.spec ⟨oN (by simp[Ug];rfl),aL _ _,?_,T_⟩;intro r E a B;simp only[bx,q9]at E;subst E;rw[q9]at B;subst B;exact .osl Z
theorem wa(c:∀(args:Array Value) (w:World),(callFunc F args).run φ w=.ok (.enter F args) w)(K:aF)(d:Bw F caps PR K)(k2:K.get 942=ζ)(P:K.get 944=ζ)(b:K.get 945=ζ)(e:K.get 946=ζ)(R:dO K)(W:Clo K (.clo F caps)):
  aU φ 129 [.pv .nils,.clo F caps] K (λr H'=>∃B,PR B/\r=.osl 945 (C B) 0 (C B)/\H'=(945,⟨C B,1,9,bP B⟩)::K):=by
 have Q:aF.get ((945,⟨0,1,9,[]⟩)::K) 942=ζ:=k2;refine Bd func129 Z ntmps129<|VN (t:=0) (id:=945) (sz:=1) (ty:=9) Z b rfl<|ZQ (t:=0) Z Z Z (h_ _)<|U (tW (id:=942) Z Z Z Z Q)<|V aH<|S<|Sz aA<|aD ?_;refine gK.ent (E':=[(2,.ref 942 0 0 0),(6,.clo F caps)]) (H':=Uy [] K) (cJ.get' ⟨⟨_,Z,Z⟩,⟨_,Z,Z⟩,T_⟩ (λj=>nM E_ j))<|CS (id:=944) (p:=7) Ug Z c Z P (by simp[Ug];rfl) ?_;intro x E G H I J L;refine(d (.yld 944 0) (λB=>(944,LR x Ug)::Uy B K) (λB=>?_) (λB=>e) (λB=>qa R) (λB=>by simp;rfl) ?_ ?_).mono ?_
 .refine Sub.app (D:=[(944,LR x Ug),(945,⟨C B,1,9,bP B⟩),(942,bx 1 22 [.osl 945 (C B) 0 (C B)])]) ?_;intro p a;simp only[l9,q8,or_false]at a;rcases a with rfl|rfl|rfl
  .exact P
  .exact b
  exact k2
 .intro B s hM;refine .inl ⟨944,0,Z,?_⟩;rw[wj];refine M7 [(2,.ref 942 0 0 0),(5,sv s)] (Uy B K) E G H I J L Z Z Z ?_ ?_
  .refine Rg<|Da ?_;exact E0
  refine aD<|Rd (bT aG)<|Y aA<|Y (by exact aM [[.str s]] Z aY Z Z Z Z Z R_)<|Y (by exact bU (ps:=[[.str s]]) Z aY sX Z Z Z Z Z (dB _) Z R_ (m:=1) Z X Z (gP _ s))<|Uu (jH sizeOf22)<|Zz ?_;exact⟨(945,⟨B.length+1,1,9,bP (B++[s])⟩)::(942,bx 1 22 [.osl 945 (B.length+1) 0 (B.length+1)])::K,cJ.get' T_ (λj=>mj [_,_,_] [_,_,_,_,_] (by repeat(first|exact trivial|refine⟨Z,?_⟩)) j),Z,Z⟩
 .intro o B s hM;refine dQ.congrG (H1:=(944,LR x Ug)::(946,o)::Uy B K) (K1:=(944,LR x Ug)::(946,o)::Uy (B++[s]) K) (.inl ⟨944,0,Z,?_⟩) (λj=>nM E_ j) (λj=>nM E_ j);rw[wj];refine M7 [(2,.ref 942 0 0 0),(5,sv s)] ((946,o)::Uy B K) E G H I J L Z Z Z ?_ ?_
  .refine Rg<|Da ?_;exact E0
  refine aD<|Rd (bT aG)<|Y aA<|Y (by exact aM [[.str s]] Z aY Z Z Z Z Z R_)<|Y (by exact bU (ps:=[[.str s]]) Z aY sX Z Z Z Z Z (dB _) Z R_ (m:=1) Z X Z (gP _ s))<|Uu (jH sizeOf22)<|Zz ?_;exact⟨(946,o)::(945,⟨B.length+1,1,9,bP (B++[s])⟩)::(942,bx 1 22 [.osl 945 (B.length+1) 0 (B.length+1)])::K,cJ.get' T_ (λj=>mj [_,_,_,_] [_,_,_,_,_,_] (by repeat(first|exact trivial|refine⟨Z,?_⟩)) j),Z,Z⟩
 rintro r H' ⟨rfl,B,hM,rfl⟩;refine⟨x,_,Z,by rw[E];decide,Z,λz=>?_⟩;rw[G];refine U (bT aG)<|V aH<|aC ?_;refine cR (H':=((945,⟨C B,1,9,bP B⟩)::K)) (.inr Z) Z (aI Z) (Fin.front' [(944,LR z Ug),(945,⟨C B,1,9,bP B⟩),(942,bx 1 22 [.osl 945 (C B) 0 (C B)])] [(945,⟨C B,1,9,bP B⟩)] (.osl Z) (by simp[k2,P,aF.get]) (by intro p m;rw[mem_singleton]at m;subst m;rfl) (EJ.spec ⟨aL _ _,T_⟩) R (by simp[k2,P,aF.get])) ?_;exact⟨B,hM,Z,Z⟩
theorem Rp(E:∀(args:Array Value) (w:World),(callFunc F args).run φ w=.ok (.enter F args) w)(K:aF)(G:Bw F caps PR K)(k2:K.get 942=ζ)(I:K.get 944=ζ)(J:K.get 945=ζ)(L:K.get 946=ζ)(H:dO K)(D:Clo K (.clo F caps)):
  aU φ 75 [.clo F caps] K (λr H'=>∃B,PR B/\r=.osl 945 (C B) 0 (C B)/\H'=(945,⟨C B,1,9,bP B⟩)::K):=by
 refine Bd func75 Z ntmps75<|Sz aH<|Sr<|Dm<|wc Z Z (K8 Z Z call129 Z (wa E K G k2 I J L H D)) ?_;rintro r H' ⟨B,hM,rfl,rfl⟩;refine V aH<|aC<|cR (H':=((945,⟨C B,1,9,bP B⟩)::K)) (.inr Z) Z (aI Z) Fin.refl ?_;exact⟨B,hM,Z,Z⟩
theorem Ci(l:List B_)(K:aF)(g:C l<2^40)(P:K.get 951=N (bx 1 22 [.pv (aK l)])):Bw 77 [.ref 951 0 0 0] (λF=>F.Perm l) K:=by
 intro c E Q d R e I b;have L:∀F,(E F).get 951=N (bx 1 22 [.pv (aK l)]):=λF=>Q F _ _ P;have a:C (l.map S_)=C l:=g_ _;refine Bd func77 Z ntmps77<|U (aX Z aG Z (L []) Z Z Z)<|Y (fP aE)<|V aA<|aD<|bA (σ:=Nat) (λi=>([(0,c),(5,.pv (aK l)),(6,iv (C (l.map S_):Int)),(7,iv (i:Int))],E (l.take i))) (λi=>i<=C l) (λi=>C l - i) 0 (k_ _) ?_ ?_
 .exact E0
 rintro i hi;refine Sz cH<|S<|Cn ?_ ?_<;>intro B
 .have hlt:i<C l:=I_ B
  have ⟨s,J⟩:=aQ hlt;have W:=cA (f:=S_) J;have D:=I (l.take i) s (by rw[n_];omega);rw[<-eA J]at D;refine aB<|S<|aD<|U (jA aY)<|Y (fK N_)<|V aH<|U aA<|Y aA<|Y (dL Z Z Z (D))<|V iJ<|Cn ?_ ?_<;>intro G
  .cases G
  refine aB<|Rd iF<|V aA ?_;exact⟨i+1,X,X,E0⟩
 have H:i=C l:=J_ B
 subst H;refine aP ?_;exact pL (H':=E (l.take (C l))) (.inl Z) Z Fin.refl ⟨Z,_,by rw[Ã],Z⟩
theorem Wf{L:List B_}(a:C L<2^40)(I:∀(args:Array Value) (w:World),(callFunc F args).run φ w=.ok (.enter F args) w)(K:aF)(J:Bw F caps (λB=>B.Perm L) K)(k2:K.get 942=ζ)(Q:K.get 944=ζ)(R:K.get 945=ζ)(W:K.get 946=ζ)(P:dO K)(D:Clo K (.clo F caps)):
  aU φ 32 [.clo F caps] K (λr H'=>r=.osl 945 (C L) 0 (C L)/\H'=(945,⟨C L,1,9,fN (jS L)⟩)::K):=by
 refine Bd func32 Z ntmps32<|Sz aH<|Sr<|Dm<|wc Z Z (bH Z Z call75 Z (Rp I K J k2 Q R W P D)) ?_;rintro r H' ⟨B,hperm,rfl,rfl⟩;have G:C B<2^62:=by rw[hperm.length_eq];omega
 have H:=Kz hperm;have E:C B=C L:=hperm.length_eq;refine V aH<|U aA<|V (kc call76 (Dg B Z Z G))<|U aA<|V aH<|aC ?_;refine cR (H':=((945,⟨C B,1,9,fN (jS B)⟩)::K)) (.inr Z) Z (aI Z) (Fin.get' (λj=>yC _ _ _ _ j)) ?_;exact⟨by rw[E],by rw[H,E]⟩
end Go.Proofs.C
namespace Go.Proofs.C
open Go.Proofs.Tryz
open Go.Abs Go.Lib
variable{l A_:List B_}{t i:B_}
abbrev Vm(P:List B_):Ob:=bx 1 22 [.pv (aK P)]
theorem Ch(P:List B_)(H:aF)(B:H.get 951=ζ):
  aU φ 33 [.pv (aK P)] H (λr H'=>r=.clo 77 [.ref 951 0 0 0]/\H'=(951,Vm P)::H):=by
 refine Bd func33 Z ntmps33<|U (tW (id:=951) Z Z Z Z B)<|V aH<|U (iE Z Z)<|V aH<|aC<|cR (H':=((951,Vm P)::H)) (.inr Z) Z (aI Z) Fin.refl ?_;exact Qq
def Ir(i:Nat):Nat:=if i=901 then 945 else if i=945 then 901 else i
theorem Vr(i:Nat):Ir (Ir i)=i:=by
 unfold Ir
 repeat' split
 all_goals omega
abbrev po(g:Nat)(l:List B_):Ob:=⟨g,1,9,uN l⟩
theorem bh(ρ:Nat->Nat)(g:Nat)(l:List B_):xU ρ (po g l)=po g l:=by
 show (⟨g,1,9,(uN l).map (B3 ρ)⟩:Ob)=_;have:∀r∈uN l,B3 ρ r=r:=by
  intro r B;obtain ⟨s,_,rfl⟩:=mem_map.1 B;rfl
 rw[å this,map_id']
theorem Cu(H:aF)(l:List B_):∀r∈uN l,∀a∈r,Clo H a:=by intro r D a B;obtain ⟨s,_,rfl⟩:=mem_map.1 D;rw[S_,Ì,ì,q9]at B;subst B;exact .pv _
instance(H:aF)(l:List B_):W_ (H) (uN l):=⟨Cu H l⟩
theorem vr(L:List B_)(g:Nat)(H:aF)(G:H.get 945=N (po g L))(J:C L<2^40):
  aU φ 31 [.osl 945 g 0 (C L)] H (λr H'=>r=.osl 945 g 0 (C (fY L))/\H'=[(945,po g (fY L++List.replicate (C L - C (fY L)) a6)),(945,po g L)]++H):=by
 have F:=ZL L g [(901,po g L)] Z J;have D:I6 Ir [(901,po g L)]=[(945,po g L)]:=by
  show [(Ir 901,xU Ir (po g L))]=_;rw[bh];rfl
 have E:I6 Ir [(901,po g (fY L++List.replicate (C L - C (fY L)) a6)),(901,po g L)]=[(945,po g (fY L++List.replicate (C L - C (fY L)) a6)),(945,po g L)]:=by
  show [(Ir 901,xU Ir (po g (fY L++List.replicate (C L - C (fY L)) a6))),(Ir 901,xU Ir (po g L))]=_;rw[bh,bh];rfl
 have I:=aU.ren (ρ:=Ir) Vr F (args':=[.osl 945 g 0 (C L)]) (r':=.osl 945 g 0 (C (fY L))) Z D Z E;refine I.frame (FB.sub ⟨G,T_⟩) (dO.of (λp B=>by
  rw[q9]at B;subst B;exact Cu _ _)) u3 (λid h=>.inl ?_)
 simp only[aF.get]at h |-;cases e:Nat.beq 945 id with
 |true=>rfl
 |false=>rw[e]at h;cases h
theorem Dj(l:List B_):(jS l).Pairwise (λa b=>jZ b a=η):=by
 rw[jS,pairwise_map];refine(pairwise_mergeSort (le:=λ(x y:List UInt8)=>θ (x<=y)) (λa b c B D=>?_) (λa b=>OZ a b) (l.map xm)).imp fun {a b} hab=>?_
 .rw[l6]at *;exact List.le_trans B D
 rw[l6]at hab;rw[AH,q7];exact λh=>absurd hab (List.not_le.2 h)
def K7(l:List B_):List B_:=fY (jS l)
theorem jy{x:B_}:x∈K7 l↔x∈l:=GD.trans (pU l).mem_iff
theorem jx(l:List B_):zZ (K7 l):=MM (Dj l)
theorem Ol(l:List B_):C (K7 l)<=C l:=by have B:=Y5 (jS l);rw[jO]at B;exact B
theorem Ye(P R:List B_):(((K7 P++R).map S_).take (0+C (K7 P))).drop 0=(K7 P).map S_:=by rw[Û,r8,È];exact take_left' (g_ _)
theorem NR(h:zZ l):K7 l=l:=ND _ _ (jx l) h λx=>jy
def JE(ids:List B_):B_:=if ids.all m6=A then gJ (K7 ids)else a6
def JF(ids:List B_):Int:=if ids.all m6=A then 0 else 1
theorem Ox(t:B_)(B:T t<2^40)(H:aF):RC 29 [sv t] (bv (oddJ t)) H:=by refine Pu ?_;exact Bd func29 Z ntmps29<|Sz aH<|U aA<|Y (kc call30 (Y1 t B _))<|Y iJ<|V aH<|aC<|Rt<|Qq
theorem LJ(ids:List B_)(H:aF)(c:C ids<1000000)(D:∀t∈ids,T t<2^40):RC 12 [.pv (aK ids)] (.tup [sv (JE ids),iv (JF ids)]) H:=by
 refine Pu ?_;have b:=λH=>D7 29 ids oddJ X (λs d=>dQ.fn call29 (Ox s (D s d) [])) H;rw[RV]at b;rw[JE,JF];refine Bd func12 Z ntmps12<|U aH<|V aH<|S<|U aA<|V (kc call28 (b _))<|Cn ?_ ?_<;>intro G
 .have hno:ids.all m6=η:=not_not G;rw[a8 (by rw[hno];decide),a8 (by rw[hno];decide)];refine U aH<|V aH<|aC<|gH (H':=[]) (.inr Z) Z (aI Z) (aI Z) (P_ (r:=.tup [.pv (.str a6),iv 1])) ?_;exact Qq
 have B:ids.all m6=A:=pG G;rw[b6 B,b6 B];have J:IdS (K7 ids):=⟨jx ids,λx e=>all_eq_true.1 B x (jy.1 e),Nat.lt_of_le_of_lt (Ol ids) c⟩;have a:=Wf (L:=ids) X call77 ((951,Vm ids)::[]) (Ci ids _ X Z) Z Z Z Z (dO.ofL ⟨r5,T_⟩) u3;have K:=vB J.srt J.dig (p:=a6) E_ J.len;have P:=Az K;have Q:=mo K;have W:=λH=>jm (K7 ids) a6 H J E_;have I:=λH=>OJ (dA (K7 ids) a6) H (by have:=K.cnt;omega) (by rw[fB,j7]at P;omega);have ⟨F,E⟩:∃F,F=fB (dA (K7 ids) a6):=X_;have R:=λH=>zm [F] H (by decide:1<2^40) (by simp only[Ó,Ù,Ç];rw[E];omega) (Nat.lt_of_le_of_lt (vE _ λs D=>by
  simp only[Ó,Ù,Ç]at D;rcases l9.1 D with rfl|D
  .decide
  rcases l9.1 D with rfl|D
  .exact(by decide +kernel:T (aV ((1:Nat):Int))<=16)
  rw[E]at D;exact Q s D) (by simp only[Ó,Ù,Ç,j6];rw[E];omega))
 rw[gJ,<-E];rw[<-E]at I;refine aB<|U aA<|Y (kc call33 (Ch ids _ Z))<|Y (kc call32 (a))<|Y (kc call31 (by have h:=vr (jS ids) (C ids) ((945,po (C ids) (jS ids))::(951,Vm ids)::[]) Z (by rw[jO];omega);rw[jO]at h;exact h))<|V aH<|S ?_;refine gK.ent (cJ.fzG (id:=945) (E':=[(4,.pv (aK (K7 ids)))]) (H':=[]) ((K7 ids++List.replicate (C ids - C (fY (jS ids))) a6).map S_) Z (by rw[Í];rfl) ?_ Z T_ T_) ?_
 .intro p hp;rw[q9]at hp;subst hp;exact⟨_,Z,.osl (Ye ids _)⟩
 exact Rd aA<|Y (kc call35 (W _))<|Y (kc call36 (I _))<|Y (aM ([F].map r6) Z HQ Z Z Z Z Z (qP _))<|Y (kc call34 (R _))<|Y aH<|V aH<|aC<|Ru<|Qq
theorem XV(a b:List B_)(H:aF)(d:C a<1000000000)(g:C b<1000000000):RC 16 [.pv (aK a),.pv (aK b)] (bv (θ (a=b))) H:=by
 refine Pu ?_;have R:C (a.map S_)=C a:=g_ _;have W:C (b.map S_)=C b:=g_ _;refine Bd func16 Z ntmps16<|Sz aH<|S<|U aA<|Y (fP aE)<|Y aA<|Y (fP aE)<|V xN<|Cn ?_ ?_<;>intro B
 .have J:¬ C a=C b:=by have h:=B;simp at h;omega
  have I:θ (a=b)=η:=Á λe=>J (by rw[e]);rw[I];exact Sz aH<|aC<|Rt<|Qq
 have J:C a=C b:=by have h:=B;simp at h;omega
 refine aB<|S<|Sz aH<|aD<|bA (σ:=Nat) (λk=>([(0,.pv (aK a)),(1,.pv (aK b)),(5,iv (k:Int))],[])) (λk=>k<=C a/\a.take k=b.take k) (λk=>C a - k) 0 ⟨k_ _,Z⟩ ?_ ?_
 .exact Wk
 rintro k ⟨hk,hs⟩;refine S<|U aA<|Y aA<|Y (fP aE)<|V cH<|Cn ?_ ?_<;>intro D
 .have hlt:k<C a:=I_ D
  have ⟨x,G⟩:=aQ hlt;have ⟨y,K⟩:=aQ (l:=b) (k:=k) X;have P:=cA (f:=S_) G;have Q:=cA (f:=S_) K;refine aB<|S<|aD<|S<|aN a7<|Cq aA<|Cq aA<|Cq (jA aY)<|Cq (fK N_)<|Cq aA<|Cq aA<|Cq (jA aY)<|Cq (fK N_)<|Cq FD<|bF<|Kr<|Cn ?_ ?_<;>intro E
  .have hne:¬ x=y:=by have h:=E;simpa using h
   have I:θ (a=b)=η:=Á λe=>hne (by rw[e,K]at G;cases G;rfl);rw[I];exact Sz aH<|aC<|Rt<|Qq
  have L:x=y:=by have h:=E;simpa using h
  refine aB<|Rd aA<|Y iF<|Da ?_;refine⟨k+1,⟨X,?_⟩,X,Wk⟩;rw[eA G,eA K,hs,L]
 have F:k=C a:=J_ D
 have c:θ (a=b)=A:=À (by
  rw[<-Ã (l:=a),<-F,hs,F,J,Ã])
 rw[c];exact aP<|Sz aH<|aC<|Rt<|Qq
def PW(l:List B_):Nat:=(l.map ByteArray.size).sum
theorem Co{k:Nat}{s:B_}(h:l[k]?=N s):PW (l.take (k+1))=PW (l.take k)+T s:=by rw[eA h,PW,È,Ú];rfl
theorem Vs{m:Nat}(h:∀s∈l,T s<=m)(k:Nat):PW (l.take k)<=C l*m:=by
 have D:∀(l:List B_),(∀s∈l,T s<=m)->PW l<=C l*m:=by
  intro l
  induction l with
  |nil=>exact λ_=>k_ _
  |cons a l E =>
   intro h;have F:=h a Ä;have:=E λs B=>h s (Â _ B);show T a+PW l<=(C l+1)*m;rw[succ_mul];omega
 exact Nat.le_trans (D _ λs B=>h s (ã B)) (á _ (by rw[n_];omega))
def ve(l:List B_)(n:Int):Bool:=θ ((C (l.map S_):Int)<=n)&&θ ((PW l:Int)<=20000)
theorem aBD(l:List B_)(n:Int)(H:aF)(K:C l<=1048576)(Q:∀s∈l,T s<=1048576):RC 10 [.pv (aK l),iv n] (bv (ve l n)) H:=by
 refine Pu ?_;have L:C (l.map S_)=C l:=g_ _;have B:=Vs Q;have G:C l*1048576<=1048576*1048576:=á _ K;refine Bd func10 Z ntmps10<|Sz aH<|Sz aH<|S<|Sz aH<|aD<|bA (σ:=Nat) (λk=>([(0,.pv (aK l)),(1,iv n),(5,iv (PW (l.take k):Int)),(6,iv (k:Int))],[])) (λk=>k<=C l) (λk=>C l - k) 0 (k_ _) ?_ ?_
 .exact Wk
 intro k W;have R:=B k;refine S<|U aA<|Y aA<|Y (fP aE)<|V cH<|Cn ?_ ?_<;>intro D
 .have hlt:k<C l:=by have:=b9 D;omega
  have ⟨s,E⟩:=aQ hlt;have hi:=cA (f:=S_) E;have P:=Co E;have I:=B (k+1);refine aB<|S<|aD<|Rd aA<|Y aA<|Y aA<|Y (kx aY hi)<|Y (fK N_ (hi:=hi))<|Y (gQ U_)<|Y (by exact dD Z Z Z (show ξ.wrap ((PW (l.take k):Int)+(T s:Int))=((PW (l.take (k+1)):Nat):Int)by rw[mI X X];omega))<|V aH<|Rd aA<|Y kp<|Da ?_;exact⟨k+1,X,X,Wk⟩
 have F:k=C l:=by have:=b_ D;omega
 subst F;rw[Ã];refine aP<|S<|aT (t:=4) (n:=10) (A_:=ve l n) ?_ ?_
 .all_goals refine Y aA<|Y (fP aE)<|Y aA<|Y HV<|Dm ?_<;>(refine Sp 24 (λJ=>?_) λJ=>?_)<;>(try exact w_)<;>(first|refine M<|M ?_|refine O aA<|O HV ?_)<;>refine Y cE<|Da ?_<;>exact Gj (h:=by rw[ve];(rw[J];rfl))
 exact aC<|Rt<|Qq
theorem mu(h:ve l 40=A):C l<=40/\∀s∈l,T s<=20000:=by
 rw[ve,l7,l6,l6,g_]at h;refine⟨X,λs B=>?_⟩;have D:∀(l:List B_),∀s∈l,T s<=PW l:=by
  intro l
  induction l with
  |nil=>intro s B;cases B
  |cons a l E =>
   intro s B;show T s<=T a+PW l;rcases l9.1 B with rfl|B
   .omega
   have:=E s B;omega
 have:=D l s B;omega
def Wr:B_:=⟨#[115,101,99,114,101,116]⟩
def r0W:j_:=⟨5,0,1,1,⟨#[109,97,105,110]⟩,[],[],a6,η,0,a6,zS,⟨a6,a6,[],[],zS⟩⟩
theorem aCb:(O8 r0W Wr 1).2=0:=by kernel_rfl
theorem aCd:∃x,O8 r0W Wr 1=(x,0):=by have h:=aCb;generalize O8 r0W Wr 1=y at *;exact⟨y.1,Prod.ext Z h⟩
theorem aEv:mY r0W:=by have B:qY 0:=⟨E_,E_⟩;have D:qY 1:=⟨E_,E_⟩;exact⟨⟨⟨E_,E_⟩,B,D,D,B⟩,⟨E_,E_,E_⟩,⟨E_,λt h=>by cases h⟩,⟨E_,λt h=>by cases h⟩,okZ,E_,E_,⟨E_,λt h=>by cases h⟩,E_,okZ⟩
theorem Mb:∃t i,tI t=N i/\∀H,RC 27 [] (.tup [sv t,sv i]) H:=by have ⟨x,I⟩:=aCd;have F:=Ze I;have B:=G4 (aO (jY x));rw[F.parse]at B;have D:=λH=>aCc r0W Wr 1 aEv E_ E_ H;rw[I]at D;have E:=λH=>Z8 x B.1 B.2 H;rw[F.text]at E;have G:=λH=>lx x B.1 B.2 H;refine⟨a_ (aO (jY x)),JL x,by rw[tI,cG,F.parse];rfl,λH=>?_⟩;generalize a_ (aO (jY x))=t at *;generalize JL x=i at *;clear I F B;refine Pu ?_;exact Bd func27 Z ntmps27<|U aH<|V aH<|U (oU VI)<|Y (kc call71 (D _))<|Y aA<|Y dK<|Y dK<|Y (kl 2 fx)<|Uu (jH bJ)<|V aH<|U (xB cP bJ)<|Y (kc call72 (E _))<|Y aA<|Y dK<|Y dK<|Y aH<|V aH<|U aA<|Y (xB cP bJ)<|Y (kc call55 (G _))<|Y aH<|V aH<|aC<|Ru<|Qq
theorem dt(hi:tI t=N i):cD [t]=[i]:=by
 have h:jE [t]=[(i,t)]:=by
  show kA [] t=_;rw[kA,hi];rfl
 refine ND _ _ (lL _) (Ý _ _) λx=>?_;rw[cD,(pU _).mem_iff,h];rfl
theorem kv(hi:tI t=N i):iV (jE [t]) i=t:=by
 have h:jE [t]=[(i,t)]:=by
  show kA [] t=_;rw[kA,hi];rfl
 rw[h,iV,find?_cons,À rfl];rfl
theorem An(hi:m6 i=A):IdS [i]:=⟨Ý _ _,(λx B=>by rw[q9]at B;rw[B];exact hi),(by decide:1<1000000)⟩
theorem du:IdS []:=⟨List.Pairwise.nil,(λx B=>by cases B),(by decide:0<1000000)⟩
theorem yj{y_:List B_}(B:IdS A_):yT y_ (gJ A_)=mV y_ ⟨[],[],[]⟩ (dA A_ a6):=by rw[yT,vC B.srt B.dig B.len,show rC (gJ A_)=[]from R3 [dA A_ a6] (λp D=>by rw[q9]at D;subst D;exact vB B.srt B.dig E_ B.len) (show 1<1000000 by decide)];rfl
theorem aFd:gB [] (gJ [])=[]:=by
 have:=Bb [] [] (λt=>Iff.rfl) E_
 rwa [RM]at this
theorem aFc(hi:tI t=N i):gB [t] (gJ [])=[t]:=by rw[gB,dt hi,yj du,mV,b6 (show (dA [] a6).cnt<=16 by decide)];show List.map _ (((eF [i] a6).filter λi=>!θ (i∈(dA [] a6).ids)).foldl (jT [i]) [])++(O2 iS _++O2 kP [])=_;rw[GU,show (dA [] a6).ids=[]from rfl];simp only[ë,ä,q8,decide_false,Bool.not_false,if_true,í,foldl_nil];rw[jT,b6 H_];show [iV (jE [t]) i]++_=_;rw[kv hi];rfl
theorem aFb(B:m6 i=A):gB [] (gJ [i])=[iS [[i]]]:=by
 rw[gB,RM,yj (An B),mV,b6 (show (dA [i] a6).cnt<=16 by show C (eF [i] a6)<=16;rw[GU];exact r_ Z)];have e:(dA [i] a6).ids=[i]:=by rw[K0 (by rw[GU];exact r_ Z),GU]
 rw[e];simp[eF,O2,jk,bu]
theorem aFa(hi:tI t=N i):gB [t] (iS [[i]])=[t]:=by rw[gB,dt hi,show iS [[i]]=iS ([i].map λs=>[s])from Z,FG (λs B=>by rw[q9]at B;rw[B];exact Qk hi) H_];show List.map _ (jT [i] [] i)++_=_;rw[jT,b6 H_];show [iV (jE [t]) i]++_=_;rw[kv hi];rfl
theorem aF9(hi:tI t=N i):gB [t] (gJ [i])=[]:=by rw[<-dt hi];exact Bb [t] [t] (λt=>Iff.rfl) (r_ Z)
theorem FQ(B:IdS A_):¬ 20000<T (gJ A_):=Nat.not_lt.2 (cu (vB B.srt B.dig (p:=a6) E_ B.len))
theorem aCs(H:aF):RC 9 [] (bv A) H:=by
 refine Pu ?_;have ⟨t,i,D,g⟩:=Mb;have Q:=Qk D;have q:T t<=20000:=by have ⟨r,_,h⟩:=NI D;exact h
 have B:=An Q;have W:∀H,RC 12 [.pv (aK [])] (.tup [sv (gJ []),iv 0]) H:=λH=>by
  have:=LJ [] H E_ (λt h=>by cases h);have e:([]:List B_).all m6=A:=rfl
  rwa [JE,JF,b6 e,b6 e,NR List.Pairwise.nil]at this
 have a:∀H,RC 12 [.pv (aK [i])] (.tup [sv (gJ [i]),iv 0]) H:=λH=>by
  have:=LJ [i] H (r_ Z) (λt h=>by rw[q9]at h;rw[h,fR Q];decide);have e:[i].all m6=A:=by rw[all_cons,Q];rfl
  rwa [JE,JF,b6 e,b6 e,NR B.srt]at this
 have l:∀H,RC 12 [.pv (aK [⟨#[120]⟩])] (.tup [sv a6,iv 1]) H:=λH=>by
  have:=LJ [⟨#[120]⟩] H E_ (λt h=>by rw[q9]at h;rw[h];decide)
  rwa [JE,JF,a8 E_,a8 E_]at this
 have F:∀(L:List B_) (t:B_) (R:List B_),C L<=1->(∀s∈L,T s<=20000)->¬ 20000<T t->gB L t=R->∀H,RC 14 [.pv (aK L),sv t] (.tup [.pv (aK R),iv 0]) H:=λL t R v w u x H=>by
  have:=VR L t H X (λt y=>by have:=w t y;omega)
  rwa [a8 u,a8 u,x]at this
 have k:∀s∈([]:List B_),T s<=20000:=λs h=>by cases h
 have j:∀s∈[t],T s<=20000:=λs h=>by rw[q9]at h;rw[h];exact q
 have G:=F [] (gJ []) _ E_ k (FQ du) aFd;have I:=F [t] (gJ []) _ (r_ Z) j (FQ du) (aFc D);have E:=F [] (gJ [i]) _ E_ k (FQ B) (aFb Q);have J:=F [t] (iS [[i]]) _ (r_ Z) j (Nat.not_lt.2 (gk Q)) (aFa D);have K:=F [t] (gJ [i]) _ (r_ Z) j (FQ B) (aF9 D);have o:∀H,RC 17 [sv t] (.pv (aK [t])) H:=λH=>by
  have:=QG t H X
  rwa [D]at this
 have b:∀H,RC 17 [sv (gJ [i])] (.pv (aK [])) H:=λH=>by
  have v:=FQ B;have:=QG (gJ [i]) H X;have e:tI (gJ [i])=ζ:=MC (P:=[dA [i] a6]) (vC B.srt B.dig B.len) H_
  rwa [e]at this
 have n:∀H,RC 16 [.pv (aK [t]),.pv (aK [t])] (bv A) H:=λH=>by
  have:=XV [t] [t] H (r_ Z) (r_ Z)
  rwa [À rfl]at this
 have ⟨z,c⟩:∃m,m=gJ []:=X_;have ⟨m1,d⟩:∃m,m=gJ [i]:=X_;have ⟨m2,f⟩:∃m,m=iS [[i]]:=X_;rw[<-c]at W G I;rw[<-d]at a E K b;rw[<-f]at E J;clear c d f F j k B;refine Bd func9 Z ntmps9<|Sz aH<|U (kc call27 (g _))<|Y aA<|Y dK<|Y dK<|Y aH<|V aH<|U (kc call12 (W _))<|Y aA<|Y dK<|Y dK<|Y aH<|V aH<|U aA<|Y (aM ([i].map S_) Z aY Z Z Z Z Z (dV _))<|Y (kc call12 (a _))<|Y aA<|Y dK<|Y dK<|Y aH<|V aH<|U aA<|Y (kc call14 (G _))<|Y aA<|Y dK<|Y dK<|Y aH<|V aH<|U aA<|Y (aM ([t].map S_) Z aY Z Z Z Z Z (dV _))<|Y aA<|Y (kc call14 (I _))<|Y aA<|Y dK<|Y dK<|Y aH<|V aH<|U aA<|Y (kc call14 (E _))<|Y aA<|Y dK<|Y dK<|Y aH<|Y aH<|Zz<|U (aM ([⟨#[120]⟩].map S_) Z aY Z Z Z Z Z (dV _))<|Y (kc call12 (l _))<|Y aA<|Y dK<|Y dK<|Y aH<|V aH<|S<|U aA<|Y (fP aE)<|V (cQ.valY (LB Z Z Z) (y7))<|Cn ?_ ?_<;>intro p
 .cases p
 refine aB<|U aA<|Y (aM ([t].map S_) Z aY Z Z Z Z Z (dV _))<|Y aA<|Y (bQ Z aY Z Z X (l_ _) (show ([m2].map S_)[0]?=N (S_ m2)from Z) Z)<|Y (eG Z N_ Z (show ([m2].map S_)[0]?=N (S_ m2)from Z) Z)<|Y (kc call14 (J _))<|Y aA<|Y dK<|Y dK<|Y aH<|V aH<|U aA<|Y (aM ([t].map S_) Z aY Z Z Z Z Z (dV _))<|Y aA<|Y (kc call14 (K _))<|Y aA<|Y dK<|Y dK<|Y aH<|V aH<|U aA<|Y cI<|Y aA<|O aA<|O cI<|Y cE<|Y aA<|O aA<|O cI<|Y cE<|Y aA<|O aA<|O (fP aE)<|O cI<|Y cE<|Y aA<|O aA<|O cI<|Y cE<|Y aA<|O aA<|O aA<|O (aM ([t].map S_) Z aY Z Z Z Z Z (dV _)) ?_;exact O (kc call16 (n _))<|Y cE<|Y aA<|O aA<|O cI<|Y cE<|Y aA<|O aA<|O cI<|Y cE<|Y aA<|O aA<|O cI<|Y cE<|Y aA<|O aA<|O (fP aE)<|O cI<|Y cE<|V aH<|U aA<|Y aA<|O aA<|O cI<|Y cE<|Y aA<|O aA<|O aA<|O (aM ([t].map S_) Z aY Z Z Z Z Z (dV _))<|O (kc call16 (n _))<|Y cE<|Y aA<|O aA<|O (kc call17 (o _))<|O aA<|O (aM ([t].map S_) Z aY Z Z Z Z Z (dV _))<|O (kc call16 (n _))<|Y cE<|Y aA<|O aA<|O (kc call17 (b _))<|O (fP aE)<|O cI<|Y cE<|V aH<|aC<|Rt<|Qq
def Ix(s:B_)(k:Nat):Bool:=!(θ (aZ s k<48)||θ (57<aZ s k))
def bl(s:B_):Nat->Int
 |0=>0
 |k+1=>10*bl s k+(aZ s k - 48)
def KT(s:B_):Int:=if T s=0 then -1 else if(List.range (T s)).all (Ix s)&&θ (T s<=7)then bl s (T s) else -1
theorem yn{s}:∀ {k},(∀j,j<k->Ix s j=A)->0<=bl s k/\bl s k<10 ^ k
 |0,_=>⟨Int.le_refl 0,by show 0<1;omega⟩
 |k+1,h=>by
  obtain ⟨B,D⟩:=yn (k:=k) λj E=>h j X;have a:=h k X;rw[Ix,r9,q_,q7,q7]at a;rw[bl];omega
theorem aE2{k}(h:k<=7):(10:Int) ^ k<=10000000:=by
 have a:k=0\/k=1\/k=2\/k=3\/k=4\/k=5\/k=6\/k=7:=X
 rcases a with rfl|rfl|rfl|rfl|rfl|rfl|rfl|rfl<;>decide
theorem X3(s:B_)(H:aF)(E:T s<2^40):RC 163 [sv s] (iv (KT s)) H:=by
 refine Pu<|Bd func163 Z ntmps163<|Sz aH<|Sz aH<|S<|Sz aH<|aD<|bA (σ:=Nat) (λk=>([(0,sv s),(3,iv (bl s k)),(4,iv (k:Int))],[])) (λk=>k<=T s/\(∀j,j<k->Ix s j=A)/\(0<k->T s<=7)) (λk=>T s - k) 0 ⟨k_ _,λj q=>absurd q (not_lt_zero _),λh=>absurd h (Nat.lt_irrefl 0)⟩ ?_ ?_
 .exact Wk
 rintro k ⟨hk,t,h7⟩;refine S<|U aA<|Y aA<|Y (gQ U_)<|V cH<|Cn ?_ ?_<;>intro d
 .have hlt:k<T s:=I_ d
  refine aB<|S<|aD<|S<|S<|aT (t:=25) (n:=17) (A_:=(θ (aZ s k<48)||θ (57<aZ s k))||θ (7<(T s:Int))) ?_ ?_
  .all_goals refine Y aA<|Y aA<|Y (ky U_)<|Y cH<|Dm ?_<;>(refine Sp 15 (λp=>?_) λp=>?_)<;>(first|exact s_|refine M<|M<|M<|M ?_|refine O aA<|O aA<|O (ky U_)<|O jB ?_)<;>refine Y cE<|Dm ?_<;>(refine Sp 21 (λo=>?_) λo=>?_)<;>(first|exact s_|refine M<|M<|M ?_|refine O aA<|O (gQ U_)<|O jB ?_)<;>refine V cE ?_<;>(exact⟨⟨_,Z,G_⟩,Z,Z,Z⟩)
  refine Cn ?_ ?_<;>intro c
  .have hbad:Ix s k=η\/7<T s:=by have h:=c;rw[Ix];simp only[Bool.or_eq_true,l6]at h;rcases h with h|h;exact .inl G_;exact .inr X
   have f:KT s = -1:=by
    rw[KT,a8 X,a8 ?_]
    grind
   rw[f];exact Sz aH<|aC<|Rt<|Qq
  have b:Ix s k=A/\T s<=7:=by have h:=c;rw[q_,q7]at h;exact⟨by rw[Ix,h.1];rfl,X⟩
  have B:=yn t;have D:=aE2 (k:=k) X;have m:=b.1;rw[Ix,r9,q_,q7,q7]at m;have n:∀j,j<k+1->Ix s j=A:=λj q=>by
   grind
  refine aB<|Rd aA<|Y (pE Z Z Z (mI X X))<|Y aA<|Y aA<|Y (ky U_)<|Y (dT Z Z Z (wu8 X X))<|Y (eP Z dI underlying3 Z (mI X X))<|Y iF<|V aH<|Rd aA<|Y iF<|Da ?_;exact⟨k+1,⟨X,n,λ_=>b.2⟩,X,Wk⟩
 have l:k=T s:=J_ d
 subst l;refine aP<|S<|U aA<|V wV<|Cn ?_ ?_<;>intro g
 .have i:s=⟨#[]⟩:=b9 g;have f:KT s = -1:=by rw[i];rfl
  rw[f];exact Sz aH<|aC<|Rt<|Qq
 have i:T s≠0:=λe=>b_ g (vg (length_eq_zero_iff.1 F_));have f:KT s=bl s (T s):=by
  rw[KT,a8 i,b6 ?_]
  grind
 rw[f];exact aB<|U aA<|V aH<|aC<|Rt<|Qq
def KS(s:B_):Nat->Int
 |0=>0
 |k+1=>10*KS s k+IntKind.u8.wrap (aZ s k - 48)
theorem aAq(x):0<=IntKind.u8.wrap x/\IntKind.u8.wrap x<=255:=by have:IntKind.u8.wrap x=x % 256:=rfl;omega
theorem ja(s):∀k,k<=7->0<=KS s k/\KS s k+255<=255*10 ^ k
 |0,_=>⟨Int.le_refl 0,by show 0+255<=255*1;omega⟩
 |k+1,h=>by
  obtain ⟨B,D⟩:=ja s k X;have E:=aAq (aZ s k - 48);rw[KS];omega
theorem TB(s:B_)(H:aF)(G:T s<2^40):RC 215 [sv s] (iv (KS s (min (T s) 7))) H:=by
 refine Pu<|Bd func215 Z ntmps215<|Sz aH<|Sz aH<|S<|Sz aH<|aD<|bA (σ:=Nat) (λk=>([(0,sv s),(3,iv (KS s k)),(4,iv (k:Int))],[])) (λk=>k<=T s/\k<=7) (λk=>T s - k) 0 ⟨k_ _,k_ _⟩ ?_ ?_
 .exact Wk
 rintro k ⟨hk,d⟩;refine S<|S<|aT (t:=12) (n:=9) (A_:=θ ((k:Int)<(T s:Int))&&θ ((k:Int)<7)) ?_ ?_
 .all_goals refine Y aA<|Y aA<|Y (gQ U_)<|Y cH<|Dm ?_<;>(refine Sp 9 (λe=>?_) λe=>?_)<;>(first|exact s_|refine M<|M ?_|refine O aA<|O cH ?_)<;>refine V cE ?_<;>(exact⟨⟨_,Z,G_⟩,Z,Z,Z⟩)
 refine Cn ?_ ?_<;>intro c
 .have b:k<T s/\k<7:=by have h:=c;rw[l7,l6,l6]at h;omega
  have ⟨b,E⟩:=b;have B:=ja s k d;have F:=aE2 d;have I:=aAq (aZ s k - 48);refine aB<|S<|aD<|Rd aA<|Y (pE Z Z Z (mI X X))<|Y aA<|Y aA<|Y (ky U_)<|Y (dT Z Z Z Z)<|Y (eP Z dI underlying3 Z (mI X X))<|Y iF<|V aH<|Rd aA<|Y iF<|Da ?_;exact⟨k+1,⟨X,X⟩,X,Wk⟩
 have D:k=min (T s) 7:=by have h:=c;rw[Bool.and_eq_false_iff,q7,q7]at h;omega
 refine aP<|U aA<|V aH<|aC<|Rt ?_
 simp_all
def qp(s:B_)(f:Nat):List B_:=(dX 32 (s.data.toList.drop f)).map a_
theorem Df(s):cS s=qp s 0:=rfl
theorem Rf{s}{f i}(B:f<=i)(hi:i<T s):s.data.toList.drop f=(s.data.toList.drop f).take (i - f)++pR s i::s.data.toList.drop (i+1):=by
 have D:=aS s;have a:(s.data.toList.drop f).drop (i - f)=pR s i::s.data.toList.drop (i+1):=by
  rw[æ,show f+(i - f)=i by omega,Î _];rw[pR,m_ X];rfl
 rw[<-a,take_append_drop]
theorem aBh{s}{f i}(d:f<=i)(hi:i<T s)(e:pR s i=32)(b:32∉(s.data.toList.drop f).take (i - f)):qp s f=a_ ((s.data.toList.drop f).take (i - f))::qp s (i+1):=by have h:=Rf d hi;rw[e]at h;have c:=congrArg (λl=>(dX 32 l).map a_) h;simp[kJ b,Ì]at c;exact c
theorem Wc{s}{f}(a:32∉s.data.toList.drop f):qp s f=[a_ (s.data.toList.drop f)]:=by rw[qp,sQ a];rfl
theorem Yo{s}{f i}(D:f<=i)(hi:i<T s)(b:pR s i≠32)(B:32∉(s.data.toList.drop f).take (i - f)):32∉(s.data.toList.drop f).take (i+1 - f):=by
 rw[show i+1 - f=(i - f)+1 by omega,é,];intro h;rcases mem_append.1 h with h|h
 .grind
 exact b (by rw[pR];simp_all)
theorem Mn(s:B_)(H:aF)(E:T s<1000000000):RC 161 [sv s] (.pv (aK (cS s))) H:=by
 refine Pu ?_;have D:=aS s;refine Bd func161 Z ntmps161<|Sz aH<|Sz (dM (id:=906) (sz:=1) (ty:=9) Z Z Z)<|Sz aH<|S<|Sz aH<|aD<|CT (λ(i f:Nat) (a:List B_)=>([(0,sv s),(3,.osl 906 (C a) 0 (C a)),(4,iv (f:Int)),(5,iv (i:Int))],[(906,⟨C a,1,9,WD a⟩)])) (λi f a=>i<=T s+1/\f<=i/\C a<=i/\(i<=T s->cS s=a++qp s f/\(32:UInt8)∉(s.data.toList.drop f).take (i - f))/\(i=T s+1->cS s=a)) (λi _ _=>T s+1 - i) 0 0 [] ⟨X,h_ _,h_ _,λ_=>⟨Df s,H_⟩,λh=>by omega⟩ ?_ ?_
 .exact L_
 rintro i f a ⟨hi,x,hol,hA,hB⟩;refine S<|U aA<|Y aA<|Y (gQ U_)<|V HV<|Cn ?_ ?_<;>intro o
 .have d:i<=T s:=I_ o
  have ⟨k,g⟩:=hA d;have j:aZ s i=((pR s i).toNat:Int):=uG s i;refine aB<|S<|aD<|S<|aT (t:=21) (n:=11) (A_:=θ ((i:Int)=(T s:Int))||θ (aZ s i=32)) ?_ ?_
  .all_goals refine Y aA<|Y aA<|Y (gQ U_)<|Y cI<|Dm ?_<;>(refine Sp 16 (λm=>?_) λm=>?_)<;>(first|exact s_|refine M<|M<|M<|M ?_|refine O aA<|O aA<|O (cL Z U_ Z Z X (l_ _) (J_ m) Z)<|O cI ?_)<;>refine V cE ?_<;>exact Gj (h:=by simp_all)
  refine Cn ?_ ?_<;>intro l
  .have t:i=T s\/aZ s i=32:=by have h:=l;rw[Bool.or_eq_true,l6,l6]at h;rcases h with h|h;exact .inl X;exact .inr h
   have ⟨w,q⟩:∃w,w=a_ ((s.data.toList.drop f).take (i - f)):=X_;have z:s.extract f i=w:=by rw[q];exact vg (by rw[fW,cG])
   have v:C (a++[w])=C a+1:=F_
   have B:(i+1<=T s->cS s=(a++[w])++qp s (i+1)/\(32:UInt8)∉(s.data.toList.drop (i+1)).take (i+1 - (i+1)))/\(i+1=T s+1->cS s=a++[w]):=by
    constructor
    .intro h;have u:pR s i=32:=by
      rcases t with e|e
      .omega
      rw[j]at e;exact UInt8.toNat_inj.1 G_
     refine⟨?_,F_⟩;rw[k,aBh x X u g,q,Ñ];rfl
    intro h;have e:(s.data.toList.drop f).take (i - f)=s.data.toList.drop f:=Ô v6;rw[e]at g q;rw[k,Wc g,q]
   refine U aA<|Y aA<|Y aA<|Y aA<|Y (by exact bM (l:=f) (h:=i) Z U_ Z Z Z x d z)<|Y (by exact aM [S_ w] Z aY Z Z Z Z Z R_)<|Y (by exact bU (ps:=[S_ w]) Z aY sX Z Z Z Z Z (aw _) Z R_ (m:=1) Z X Z (az _ w))<|V aH<|Rd aA<|Y iF<|V aH<|Rd aA<|Y iF<|Da ?_;refine⟨i+1,i+1,a++[w],⟨X,h_ _,X,B.1,B.2⟩,X,?_⟩;rw[v];exact(cJ.wk (Eb<|Ea<|Eb<|Eb<|T_) (Hc (mK _ _)<|T_) T_)
  have t:i<T s/\aZ s i≠32:=by have h:=l;rw[q_,q7,q7]at h;exact⟨X,h.2⟩
  have u:pR s i≠32:=λe=>t.2 (by rw[j,e];rfl);have n:=Yo x t.1 u g;refine aB<|Rd aA<|Y iF<|Da ?_;exact⟨i+1,f,a,⟨X,X,X,λ_=>⟨k,n⟩,λh=>by omega⟩,X,L_⟩
 have d:i=T s+1:=J_ o
 have y:=hB d;rw[y];refine aP<|U aA<|V aH<|aC ?_;refine cR (H':=[]) (.inr Z) Z (aI Z) (Fin.fz (id:=906) (a.map S_) Z (Md _) (.osl (lG S_ _)) Z T_ T_) ?_;exact Qq
def Kh(b c:b7):Bool:=θ (b.text=⟨#[61]⟩)&&θ (c.kind=3)
abbrev mkT(a c:b7):m8:=⟨a.text,c.text⟩
def MX:List m8->List b7->List m8×Bool
 |acc,[]=>(acc,A)
 |acc,a::b::c::r=>if Kh b c then MX (acc++[mkT a c]) r else([],η)
 |_,[_]=>([],η)
 |_,[_,_]=>([],η)
theorem Fin.tg2{H1}{id g n}{ob}(l)(v)(b:H1.get id=N ob)(c:ob.g=g)(a:ob.rows=tL l)(d:n=C l)(e:Clo [] v):
  Fin [] H1 (.tup [.osl id g 0 n,v]) [] (.tup [.pv (qV l),v]):=by
 subst c d;exact Fin.fz _ b (a.trans (by rw[Í];rfl)) (.tup Z (bG (.osl (lG _ l)) (bG (.same e) jV))) Z T_ T_
theorem aFV{J3:List b7}{i}{a b c}(k:J3[i]?=N a)(d:J3[i+1]?=N b)(h:J3[i+2]?=N c):J3.drop i=a::b::c::J3.drop (i+3):=by have ⟨m,j⟩:=m9.1 k;have ⟨l,f⟩:=m9.1 d;have ⟨e,g⟩:=m9.1 h;rw[Î m,Î l,Î e,j,f,g]
theorem Eh{acc}{J3}(a:0<C J3)(h:C J3<3):MX acc J3=([],η):=by
 match J3 with
 | []=>exact absurd a (Nat.lt_irrefl 0)
 | [_]=>rfl
 | [_,_]=>rfl
 |_::_::_::_=>rw[j6,j6,j6]at h;omega
theorem NL(J3:List b7)(H:aF)(J:C J3<1000000000):RC 216 [.pv (DA J3)] (.tup [.pv (qV (MX [] J3).1),bv (MX [] J3).2]) H:=by
 refine Pu ?_;have I:C (J3.map K_)=C J3:=g_ _;refine Bd func216 Z ntmps216<|U aH<|V aH<|Sz (dM (id:=906) (sz:=2) (ty:=270) Z Z Z)<|S<|Sz aH<|aD<|eN (λ(i:Nat) (D:List m8)=>([(0,.pv (DA J3)),(4,.osl 906 (C D) 0 (C D)),(5,iv (i:Int))],[(906,⟨C D,2,270,tL D⟩)])) (λi D=>i<=C J3/\C D<=i/\MX [] J3=MX D (J3.drop i)) (λi _=>C J3 - i) 0 [] ⟨k_ _,h_ _,Z⟩ ?_ ?_
 .exact L_
 rintro i D ⟨hi,hA,g⟩;refine S<|U aA<|Y aA<|Y (fP cU)<|V cH<|Cn ?_ ?_<;>intro l
 .have t:i<C J3:=I_ l
  have ⟨a,B⟩:=aQ t;have G:=cA (f:=K_) B;by_cases E:i+2<C J3
  .have ⟨b,d_⟩:=aQ (l:=J3) (k:=i+1) X;have ⟨c,z⟩:=aQ E;have p:=cA (f:=K_) d_;have o:=cA (f:=K_) z;have q:=aFV B d_ z;rw[q,MX]at g;have x:¬ (θ ((C (J3.map K_):Int)<=(i:Int)+2)=A):=G_
   refine aB<|S<|aD<|S<|S<|aT (t:=34) (n:=25) (A_:=!Kh b c) ?_ ?_
   .all_goals refine Y aA<|Y iF<|Y aA<|Y (fP cU)<|Y AU<|Dm ?_<;>(refine Sp 17 (λk=>?_) λk=>?_)<;>(try contradiction)<;>refine O aA<|O aA<|O iF<|O (bQ Z iK Z Z X (show ((i:Int)+1).toNat=i+1 by omega) p Z)<|O (F2 iO)<|O (fK N_)<|O FD<|Y cE<|Dm ?_<;>(refine Sp 26 (λj=>?_) λj=>?_)<;>(first|exact s_|refine M<|M<|M<|M<|M<|M<|M ?_|refine O aA<|O aA<|O iF<|O (bQ Z iK Z Z X (show ((i:Int)+2).toNat=i+2 by omega) o Z)<|O (F2 vW)<|O (fK M_)<|O xN ?_)<;>refine V cE ?_<;>exact Gj (h:=by(rw[Kh];simp_all))
   refine Cn ?_ ?_<;>intro n
   .have v:Kh b c=η:=by have h:=n;rwa [r9]at h
    rw[v,a8 H_]at g;rw[g];refine U aH<|V aH<|aC<|gH (H':=[]) (.inr Z) Z (aI Z) (aI Z) (P_ (r:=.tup [.pv (qV []),bv η])) ?_;exact Qq
   have v:Kh b c=A:=by have h:=n;rwa [Bool.not_eq_false']at h
   rw[v,b6 rfl]at g;have s:C (D++[mkT a c])=C D+1:=F_
   refine aB<|aN a7<|Cs (λ_ _=>aA)<|Cs (λ_ _=>aA)<|Cs (λ_ _=>aA)<|Cs (λ_ _=>(jA iK))<|Cs (λ_ _=>(F2 iO))<|Cs (λ_ _=>(fK N_))<|Cs (λ_ _=>aA)<|Cs (λ_ _=>aA)<|Cs (λ_ _=>iF)<|Cs (λD u=>by exact bQ Z iK Z Z X (show ((i:Int)+2).toNat=i+2 by omega) o Z)<|Cs (λ_ _=>(F2 iO))<|Cs (λ_ _=>(fK N_))<|Cs (λ_ _=>(oU Sg))<|Cs (λD u=>by exact aM [bZ (mkT a c)] Z lZ Z Z Z Z Z R_) ?_;refine iQ (r:=⟨_,ζ,[_]⟩) (DStep.plain Z (λD u=>by exact bU (ps:=[bZ (mkT a c)]) Z lZ Re Z ((u _ Z).trans Z) Z Z Z (IW _) Z R_ (m:=1) Z X Z (IX _ (mkT a c)))) Z ?_;refine Cs (λ_ _=>aH)<|bF<|Kr<|Rd aA<|Y iF<|Da ?_;refine⟨i+3,D++[mkT a c],⟨X,X,g⟩,X,?_⟩;rw[s];exact L_
  have F:MX [] J3=([],η):=by rw[g];exact Eh v6 v6
  have x:¬ (θ ((C (J3.map K_):Int)<=(i:Int)+2)=η):=by rw[q7];omega
  rw[F];refine aB<|S<|aD<|S<|S<|aT (t:=34) (n:=25) (A_:=A) ?_ ?_
  .all_goals refine Y aA<|Y iF<|Y aA<|Y (fP cU)<|Y AU<|Dm ?_<;>(refine Sp 17 (λk=>?_) λk=>?_)<;>(try contradiction)<;>refine M<|M<|M<|M<|M<|M<|M<|Y cE<|Dm ?_<;>(refine Sp 26 (λj=>?_) λj=>?_)<;>(try contradiction)<;>refine M<|M<|M<|M<|M<|M<|M<|V cE ?_<;>exact Gj (h:=by rfl)
  refine Cn ?_ ?_<;>intro y
  .refine U aH<|V aH<|aC<|gH (H':=[]) (.inr Z) Z (aI Z) (aI Z) (P_ (r:=.tup [.pv (qV []),bv η])) ?_;exact Qq
  cases y
 have w:i=C J3:=J_ l
 rw[w,drop_length,MX]at g;rw[g];refine aP<|U aA<|Y aH<|V aH<|aC ?_;refine gH (H':=[]) (.inr Z) Z (aI Z) (aI Z) (Fin.tg2 D (bv A) Z Z Z Z H_) ?_;exact Qq
end Go.Proofs.C
namespace Go.Proofs.C
open Go.Proofs.Tryz
open Go.Abs
theorem Gm(l):IM l=(l.map bL).map (·.map .pv):=by rw[Í];rfl
open Go.Lib
def EZ(rE:B_->b8)(s:B_):Nat->Nat×List b8
 |0=>(0,[])
 |i+1=>if θ (aZ s i=10)then(i+1,(EZ rE s i).2++[rE (s.extract (EZ rE s i).1 i)])else EZ rE s i
theorem Ms(rE)(s):∀i,(EZ rE s i).1<=i/\C (EZ rE s i).2<=i
 |0=>⟨h_ _,h_ _⟩
 |i+1=>by
  obtain ⟨B,D⟩:=Ms rE s i;rw[EZ]
  grind
theorem jd(rE)(s)(i):∀d,C (EZ rE s i).2<=C (EZ rE s (i+d)).2
 |0=>h_ _
 |d+1=>by
  refine Nat.le_trans (jd _ s i d) ?_;rw[show i+(d+1)=(i+d)+1 by omega,EZ]
  grind
theorem QS{rE}{s}{Q:b8->Prop}(h:∀x,T x<=T s->Q (rE x)):∀i,∀e∈(EZ rE s i).2,Q e
 |0,e,b=>by cases b
 | i+1,e,b=>by
  rw[EZ]at b
  split at b
  .rcases List.mem_append.1 b with c|c
   .exact QS h i e c
   rw[q9.1 c];exact h _ (gF s _ _)
  exact QS h i e b
def gPr(rE:B_->b8)(t:B_):List b8×Int:=if 20000<T t then([],2)else if eH (EZ rE t (T t)).2=(t,0)then((EZ rE t (T t)).2,0)else([],5)
theorem Ei{rE:B_->b8}(E:∀x:B_,T x<=20000->WY (rE x)/\C (rE x).refs<2^40)(R:∀(x:B_) (H:aF),T x<=20000->RC 109 [sv x] (av (bL (rE x))) H)(t:B_)(H:aF)(a:T t<1000000000):
  RC 67 [sv t] (.tup [.pv (kU (gPr rE t).1),iv (gPr rE t).2]) H:=by
 refine Pu<|Bd func67 Z ntmps67<|U aH<|V aH<|S<|U aA<|Y (gQ U_)<|V jB<|Cn ?_ ?_<;>intro n
 .have J:20000<T t:=I_ n
  rw[gPr,b6 J];refine U aH<|V aH<|aC<|gH (H':=[]) (.inr Z) Z (aI Z) (aI Z) (P_ (r:=.tup [.pv (kU []),iv 2])) ?_;exact Qq
 have J:¬ 20000<T t:=J_ n
 rw[gPr,a8 J];refine aB<|Sz (dM (id:=905) (sz:=15) (ty:=137) Z Z Z)<|Sz aH<|S<|Sz aH<|aD<|bA (σ:=Nat) (λi=>([(0,sv t),(4,.osl 905 (C (EZ rE t i).2) 0 (C (EZ rE t i).2)),(5,iv ((EZ rE t i).1:Int)),(6,iv (i:Int))],[(905,⟨C (EZ rE t i).2,15,137,IM (EZ rE t i).2⟩)])) (λi=>i<=T t) (λi=>T t - i) 0 (k_ _) ?_ ?_
 .exact L_
 rintro i i_;have ⟨I,D⟩:=Ms rE t i;have c:EZ rE t (i+1)=if θ (aZ t i=10)then(i+1,(EZ rE t i).2++[rE (t.extract (EZ rE t i).1 i)])else EZ rE t i:=rfl;have m:=jd rE t i (T t - i);rw[show i+(T t - i)=T t by omega]at m;have d:=QS (rE:=rE) (s:=t) (Q:=λe=>WY e/\C e.refs<2^40) (λx w=>E x X) i;rcases l:EZ rE t i with⟨f,L⟩;simp only[l]at I D c m d |-;refine S<|S<|aT (t:=20) (n:=10) (A_:=θ ((i:Int)<(T t:Int))&&θ ((C L:Int)<=200)) ?_ ?_
 ·all_goals refine Y aA<|Y aA<|Y (gQ U_)<|Y cH<|Dm ?_<;>(refine Sp 16 (λy=>?_) λy=>?_)<;>(first|contradiction|refine M<|M<|M ?_|refine O aA<|O (by exact eB Z fE Z Z Z)<|O HV ?_)<;>refine V cE ?_<;>(exact⟨⟨_,Z,G_⟩,Z,Z,Z⟩)
 refine Cn ?_ ?_<;>intro u
 .have hlt:i<T t:=by have h:=u;rw[l7,l6]at h;omega
  refine aB<|S<|aD<|U aA<|Y aA<|Y (ky U_)<|V cI<|Cn ?_ ?_<;>intro q
  .have F:θ (aZ t i=10)=A:=q;rw[F,b6 rfl]at c;have ⟨x,w⟩:∃x,x=t.extract f i:=X_;have z:T x<=20000:=by rw[w];have:=gF t f i;omega
   rw[<-w]at c;have G:C (L++[rE x])=C L+1:=F_
   refine U aA<|Y aA<|Y aA<|Y aA<|Y (by exact bM (l:=f) (h:=i) Z U_ Z Z Z I i_ w.symm)<|Y (kc call109 (R x _ z))<|Y (by exact aM [bL (rE x)] Z ia Z Z Z Z Z R_)<|Y (by exact bU (ps:=[bL (rE x)]) Z ia aBG Z Z Z Z Z (ZG _) Z R_ (m:=1) Z X Z (ZH L (rE x)))<|V aH<|Rd aA<|Y iF<|V aH<|Rd aA<|Y iF<|Da ?_;refine⟨i+1,X,X,?_⟩;rw[c];simp only;rw[G];exact(cJ.wk (Eb<|Ea<|Eb<|Eb<|T_) (Hc (yM _ _)<|T_) T_)
  have F:θ (aZ t i=10)=η:=q;rw[F,a8 H_]at c;refine aB<|Rd aA<|Y iF<|Da ?_;refine⟨i+1,X,X,?_⟩;rw[c];exact L_
 have j:i=T t\/200<C L:=by have h:=u;rw[Bool.and_eq_false_iff,q7,q7]at h;omega
 have v:(if eH (EZ rE t (T t)).2=(t,0)then((EZ rE t (T t)).2,(0:Int))else([],5))=if eH L=(t,0)then(L,0)else([],5):=by
  rcases j with e|e
  .rw[<-e,l]
  have o:∀P:List b8,200<C P->¬ eH P=(t,0):=λP W h=>by
   rw[eH]at h
   split at h
   .next K=>have:=(PF K).2.1;omega
   have:=congrArg Prod.snd h;cases this
  rw[a8 (o _ X),a8 (o _ e)]
 rw[v];refine gK.ent (cJ.fzG (id:=905) (E':=[(0,sv t),(4,.pv (kU L))]) (H':=[]) (L.map bL) Z (Gm L) ?_ Z ?_ ?_) ?_
 .intro p l;simp only[l9,q8,or_false]at l;rcases l with rfl|rfl
  .exact⟨_,Z,.same (by simp;try rfl)⟩
  exact⟨_,Z,.osl (lG bL L)⟩
 .exact T_
 .exact T_
 refine aP<|U aA<|Y (kc call110 (S8 L _ X (λe h=>(d e h).1) (λe h=>(d e h).2)))<|Y aA<|Y dK<|Y dK<|Y aH<|V aH<|S<|S<|aT (t:=48) (n:=8) (A_:=!θ ((eH L).2=0)||!θ ((eH L).1=t)) ?_ ?_
 .all_goals refine Y aA<|Y xN<|Dm ?_<;>(refine Sp 44 (λk=>?_) λk=>?_)<;>(first|exact s_|refine M<|M<|M ?_|refine O aA<|O aA<|O FD ?_)<;>refine V cE ?_<;>exact Gj (h:=by(rw[k];rfl))
 refine Cn ?_ ?_<;>intro g
 .have H4:eH L≠(t,0):=λe=>by have h:=g;rw[e]at h;simp at h
  rw[a8 H4];refine U aH<|V aH<|aC<|gH (H':=[]) (.inr Z) Z (aI Z) (aI Z) (P_ (r:=.tup [.pv (kU []),iv 5])) ?_;exact Qq
 have B:eH L=(t,0):=by have h:=g;simp only[q_,Bool.not_eq_false',l6]at h;exact Prod.ext h.2 h.1
 rw[b6 B];exact aB<|U aA<|Y aH<|V aH<|aC<|Ru<|Qq
theorem jt{s}{i}(hi:i<T s)(h:nN s i=2):wC s i=A:=by rw[nN,b6 hi]at h;have a:=(dv s i).2.1;rw[h]at a;have e:=b9 (a.trans Z);rw[wC,À hi,e];rfl
theorem NC{s}{i j}(h:fF s i=(ζ,j))(hi:i<T s):i<j/\j<=T s:=by
 rw[fF]at h
 split at h
 .grind
 split at h
 .rename_i b;cases h;have a:=jt hi b;have ⟨l1,l2⟩:=GT (wC s) (T s - i) i;rw[HE];refine⟨?_,X⟩;rcases Nat.lt_or_ge i _ with h|h
  .exact h
  have e:AA (wC s) (T s - i) i=i:=X
  have:=yJ (wC s) (T s - i) i X;rw[e,a]at this;cases this
 grind
theorem GM(s):∀(n m i),T s - i<n->T s - i<m->kR s n i=kR s m i
 |0,_,_,h,_=>by omega
 |_+1,0,_,_,h=>by omega
 | n + 1, m + 1, i, h1, h2 => by
  rw[kR,kR];by_cases b:i<T s
  .rw[b6 b,b6 b];cases d:fF s i with
   | mk o j =>
    cases o with
    |none =>
     have:=NC d b;exact GM s n m j X X
    |some f =>
     show f::_=f::_;congr 1;by_cases c:f.err=0
     .have:=QI d c b;rw[b6 c,b6 c];exact GM s n m j X X
     simp_all
  grind
def HP(s:B_)(i:Nat):List b7:=kR s (T s+1) i
theorem XJ{s}{i j}(hi:i<T s)(h:fF s i=(ζ,j)):HP s i=HP s j:=by have:=NC h hi;rw[HP,kR,b6 hi,h];exact GM s _ _ j X X
theorem Ck{s}{i j}{f}(hi:i<T s)(h:fF s i=(N f,j))(a:f.err=0):HP s i=f::HP s j:=by have:=QI h a hi;rw[HP,kR,b6 hi,h];show f::(if f.err=0 then _ else _)=_;rw[b6 a];congr 1;exact GM s _ _ j X X
theorem Ke{s}{i j}{f}(hi:i<T s)(h:fF s i=(N f,j))(B:f.err≠0):HP s i=[f]:=by
 rw[HP,kR]
 simp_all
theorem Kf{s}{i}(hi:¬ i<T s):HP s i=[]:=by rw[HP,kR,a8 hi]
theorem Av(s:B_)(e:Nat)(H:aF)(J:T s<2^40)(F:e<=T s):aU φ 218 [sv s,iv (e:Int)] H (λr H'=>∃j,r=iv ((j:Nat):Int)/\e<=j/\j<=T s/\HP s e=HP s j/\(j<T s->nN s j≠1/\nN s j≠2)/\H'=H):=by
 refine Bd func218 Z ntmps218<|Sz aH<|S<|aD<|bA (σ:=Nat) (λi=>([(0,sv s),(1,iv (i:Int))],H)) (λi=>e<=i/\i<=T s/\HP s e=HP s i) (λi=>T s - i) e ⟨h_ _,F,Z⟩ ?_ ?_
 .exact E0
 rintro i ⟨hge,B,d⟩;refine S<|U aA<|Y aA<|Y (gQ U_)<|V cH<|Cn ?_ ?_<;>intro o
 .have b:i<T s:=I_ o
  have x:nN s i=zL (aZ s i):=by rw[nN,b6 b]
  have ⟨z,y,_⟩:=dv s i;rw[<-x]at z y;refine aB<|aD<|U aA<|Y aA<|Y (ky U_)<|V (bH Z Z call262 Z (Qp ⟨#[32,9,10]⟩ (aZ s i) _ E_))<|Cn ?_ ?_<;>intro t
  .have u:nN s i=1:=b9 (z.symm.trans t);have c:fF s i=(ζ,i+1):=by rw[fF,b6 u]
   refine Rd aA<|Y iF<|Da ?_;exact⟨i+1,⟨X,b,d.trans (XJ b c)⟩,X,E0⟩
  have u:nN s i≠1:=b_ (z.symm.trans t);refine U aA<|Y aA<|Y (ky U_)<|V cI<|Cn ?_ ?_<;>intro q
  .have v:nN s i=2:=b9 (y.symm.trans q);have c:fF s i=(ζ,HE s i):=by rw[fF,a8 u,b6 v]
   refine aD<|bA (σ:=Nat) (λk=>([(0,sv s),(1,iv (k:Int))],H)) (λk=>i<=k/\k<=T s/\∀j,i<=j->j<k->wC s j=A) (λk=>T s - k) i ⟨h_ _,B,λj u v=>by omega⟩ ?_ ?_
   .exact E0
   rintro k ⟨w,D,p⟩;refine S<|S<|aT (t:=28) (n:=11) (A_:=θ ((k:Int)<(T s:Int))&&!θ (aZ s k=10)) ?_ ?_
   .all_goals refine Y aA<|Y aA<|Y (gQ U_)<|Y cH<|Dm ?_<;>(refine Sp 23 (λg=>?_) λg=>?_)<;>(first|exact s_|refine M<|M<|M<|M ?_|refine O aA<|O aA<|O (cL Z U_ Z Z X (l_ _) (I_ g) Z)<|O xN ?_)<;>refine V cE ?_<;>(exact⟨⟨_,Z,G_⟩,Z,Z,Z⟩)
   refine Cn ?_ ?_<;>intro f
   .have h:=f;rw[l7,l6]at h;have l:k<T s:=X
    have I:wC s k=A:=by rw[wC,À l,Bool.true_and];grind
    refine aB<|aD<|Rd aA<|Y iF<|Da ?_;refine⟨k+1,⟨X,l,λj u v=>?_⟩,X,E0⟩
    grind
   have n:HE s i=k:=by
    refine AI (wC s) w X p ?_;rcases Nat.lt_or_ge k (T s) with h|h
    .left;have E:=f;rw[À (show (k:Int)<(T s:Int)by omega),Bool.true_and]at E;rw[wC,E,Bool.and_false]
    omega
   rw[n]at c;have G:=NC c b;refine aP ?_;exact⟨k,⟨X,D,d.trans (XJ b c)⟩,X,E0⟩
  have v:nN s i≠2:=b_ (y.symm.trans q);refine U aA<|V aH<|aC<|cR (H':=H) (.inr Z) Z (aI Z) Fin.refl ?_
  grind
 have m:i=T s:=J_ o
 subst m;refine aP<|U aA<|V aH<|aC<|cR (H':=H) (.inr Z) Z (aI Z) Fin.refl ?_
 grind
def aBY:b7:=⟨0,a6,0,0⟩
def Pb(s:B_)(i:Nat):b7×Int×Int:=match fF s i with
 |(N f,j)=>if f.err=0 then(f,(j:Int),0)else(aBY,0,f.err)
 |(ζ,_)=>(aBY,0,0)
theorem LK{s}{i j}{f}(h:fF s i=(N f,j))(B:f.err=0):Pb s i=(f,(j:Int),0):=by
 rw[Pb]
 simp_all
theorem T1{s}{i j}{f}(h:fF s i=(N f,j))(B:f.err≠0):Pb s i=(aBY,0,f.err):=by
 rw[Pb]
 simp_all
theorem YE{s}{k}(h:k<T s):wB s k=Iv (aZ s k):=by
 have ⟨c1,c2,c3⟩:=VG s k;have a:nN s k=zL (aZ s k):=by rw[nN,b6 h]
 rw[wB,a,c1,c2,c3];rfl
theorem ju{s}{k}(h:k<T s):PZ s k=zD (aZ s k):=by
 have ⟨c1,c2,c3⟩:=VG s k;have a:nN s k=zL (aZ s k):=by rw[nN,b6 h]
 rw[PZ,a,c2]
def aEY(p:b7×Int×Int):AV:=.tup [av (K_ p.1),iv p.2.1,iv p.2.2]
theorem Vw{s}{i:Nat}{H}(b:T s<2^40)(hi:i<T s)(a:oO (s.data.toList.drop (i+1))=ζ):RC 263 [sv s,iv i] (.tup [sv a6,iv 0,bv η]) H:=by
 have:=xv s i H b hi
 rwa [a]at this
theorem Vv{s}{i:Nat}{H}{p}(b:T s<2^40)(hi:i<T s)(c:oO (s.data.toList.drop (i+1))=N p):RC 263 [sv s,iv i] (.tup [sv ⟨p.1.toArray⟩,iv ((i+(p.2+1):Nat)),bv A]) H:=by
 have:=xv s i H b hi;rw[c]at this;have e:yN (N p) [] (i+1)=(⟨p.1.toArray⟩,((i+(p.2+1)):Int)):=by
  show ((⟨([]++p.1).toArray⟩:B_),((i+1+p.2):Int))=_
  grind
 rw[e]at this;exact this
theorem Pg(s:B_)(i:Nat)(H:aF)(hs:T s<2^40)(hi:i<T s)(b:nN s i≠1)(c:nN s i≠2):RC 219 [sv s,iv (i:Int)] (aEY (Pb s i)) H:=by
 refine aU.pure ?_ (by simp[aEY]) H;have v_:nN s i=zL (aZ s i):=by rw[nN,b6 hi]
 have ⟨c1,c2,c3⟩:=VG s i;have ⟨q1,q2,J3,z_,q5⟩:=dv s i;rw[<-v_]at c1 c2 c3 q1 q2 J3 z_;refine Bd func219 Z ntmps219<|U (kl 4 wo)<|Y aH<|V aH<|U aA<|Y iF<|V aH<|U aA<|Y aA<|Y (cL Z U_ Z Z X y7 hi Z)<|V aH<|S<|U aA<|V (kc call168 (NM (aZ s i) _))<|Cn ?_ ?_<;>intro E
 .have o:nN s i=3:=b9 (c1.trans E);have B:fF s i=(N (BC s i (CZ s i)),CZ s i):=by rw[fF,a8 b,a8 c,b6 o]
  refine S<|aD<|bA (σ:=Nat) (λk=>([(0,sv s),(1,iv (i:Int)),(4,.ref 4 0 0 0),(7,iv (k:Int))],[(4,bx 3 189 [iv 0,sv a6,iv 0])])) (λk=>i<k/\k<=T s/\∀j,i<=j->j<k->wB s j=A) (λk=>T s - k) (i+1) ⟨è _,hi,λj x f_=>?_⟩ ?_ ?_
  .obtain rfl:j=i:=X
   rw[wB,o];rfl
  .exact Wk
  rintro k ⟨hik,hk,hall⟩;refine S<|S<|aT (t:=28) (n:=11) (A_:=θ ((k:Int)<(T s:Int))&&Iv (aZ s k)) ?_ ?_
  .all_goals refine Y aA<|Y aA<|Y (gQ U_)<|Y cH<|Dm ?_<;>(refine Sp 23 (λD=>?_) λD=>?_)<;>(first|exact s_|refine M<|M<|M<|M ?_|refine O aA<|O aA<|O (cL Z U_ Z Z X (l_ _) (I_ D) Z)<|O (kc call167 (bk (aZ s k) _)) ?_)<;>refine V cE ?_<;>(exact⟨⟨_,Z,G_⟩,Z,Z,Z⟩)
  refine Cn ?_ ?_<;>intro L
  .have h:=L;rw[l7,l6]at h;have a:k<T s:=X
   have hp:wB s k=A:=by rw[YE a];grind
   refine aB<|aD<|Rd aA<|Y iF<|Da ?_;refine⟨k+1,⟨X,a,λj x f_=>?_⟩,X,Wk⟩
   grind
  have J:CZ s i=k:=by
   refine AI (wB s) (Nat.le_of_lt hik) X hall ?_;rcases Nat.lt_or_ge k (T s) with h|h
   .left;have i_:=L;rw[À (show (k:Int)<(T s:Int)by omega),Bool.true_and]at i_;rw[YE h,i_]
   omega
  rw[J]at B;have e:ξ.wrap ((k:Int) - (i:Int))=((k - i:Nat):Int):=by rw[IntKind.wrap_i64];omega
  refine aP<|S<|U aA<|Y aA<|Y (dT Z Z Z e)<|V jB<|Cn ?_ ?_<;>intro I
  .have m:24<k - i:=I_ I
   have f:=T1 B (by show (if 24<k - i then(2:Int)else 0)≠0;omega);have A_:(BC s i k).err=2:=b6 m;rw[A_]at f;rw[f];refine U (oU IQ)<|Uu (jH sizeOf189)<|Y aH<|V aH<|aC<|mP (H':=[]) (.inr Z) Z (DD jF sizeOf189) (aI Z) (aI Z) (P_ (r:=.tup [.agg [iv 0,sv a6,iv 0],iv 0,iv 2])) ?_;exact Qq
  have m:¬ 24<k - i:=J_ I
  have A_:(BC s i k).err=0:=a8 m;rw[LK B A_];refine aB<|U aA<|Y aA<|Y aA<|Y (bM (l:=i) (h:=k) Z U_ Z Z Z X X Z)<|Y aA<|Y (oU IQ)<|Y aA<|Uu (jH sizeOf189)<|Y aH<|V aH<|aC<|mP (H':=[]) (.inr Z) Z (DD jF sizeOf189) (aI Z) (aI Z) (P_ (r:=.tup [.agg [iv 1,sv (s.extract i k),iv (i:Int)],iv ((k:Nat):Int),iv 0])) ?_;exact Qq
 have o:nN s i≠3:=b_ (c1.trans E);refine aB<|S<|U aA<|V (kc call224 (TD (aZ s i) _))<|Cn ?_ ?_<;>intro v
 .have u:nN s i=4:=b9 (c2.trans v);have B:fF s i=(N (IK s i (JX s i)),JX s i):=by rw[fF,a8 b,a8 c,a8 o,b6 u]
  refine S<|aD<|bA (σ:=Nat) (λk=>([(0,sv s),(1,iv (i:Int)),(4,.ref 4 0 0 0),(7,iv (k:Int))],[(4,bx 3 189 [iv 0,sv a6,iv 0])])) (λk=>i<k/\k<=T s/\∀j,i<=j->j<k->PZ s j=A) (λk=>T s - k) (i+1) ⟨è _,hi,λj x f_=>?_⟩ ?_ ?_
  .obtain rfl:j=i:=X
   rw[PZ,u];rfl
  .exact Wk
  rintro k ⟨hik,hk,hall⟩;refine S<|S<|aT (t:=54) (n:=11) (A_:=θ ((k:Int)<(T s:Int))&&zD (aZ s k)) ?_ ?_
  .all_goals refine Y aA<|Y aA<|Y (gQ U_)<|Y cH<|Dm ?_<;>(refine Sp 49 (λy=>?_) λy=>?_)<;>(first|exact s_|refine M<|M<|M<|M ?_|refine O aA<|O aA<|O (cL Z U_ Z Z X (l_ _) (I_ y) Z)<|O (kc call224 (TD (aZ s k) _)) ?_)<;>refine V cE ?_<;>exact Gj (h:=by(rw[y];rfl))
  refine Cn ?_ ?_<;>intro K
  .have h:=K;rw[l7,l6]at h;have a:k<T s:=X
   have hp:PZ s k=A:=by rw[ju a];exact h.2
   refine aB<|aD<|Rd aA<|Y iF<|Da ?_;refine⟨k+1,⟨X,a,λj x f_=>?_⟩,X,Wk⟩;rcases Nat.lt_or_ge j k with h|h
   .exact hall j x h
   obtain rfl:j=k:=X
   exact hp
  have d:k<T s->zD (aZ s k)=η:=λh=>by
   have i_:=K
   rwa [À (show (k:Int)<(T s:Int)by omega),Bool.true_and]at i_
  have J:JX s i=k:=by
   refine AI (PZ s) (Nat.le_of_lt hik) X hall ?_;rcases Nat.lt_or_ge k (T s) with h|h
   .left;rw[ju h,d h]
   right;omega
  rw[J]at B;have e:ξ.wrap ((k:Int) - (i:Int))=((k - i:Nat):Int):=by rw[IntKind.wrap_i64];omega
  have hw:(θ ((k:Int)<(T s:Int))&&Iv (aZ s k))=(θ (nN s k=3)||θ (nN s k=5)):=by
   rcases Nat.lt_or_ge k (T s) with h|h
   .have ⟨d1,d2,d3⟩:=VG s k;rw[nN,b6 h,d1,d3,Iv,d h,Bool.or_false,À (show (k:Int)<(T s:Int)by omega),Bool.true_and]
   rw[nN,a8 X,Á (show ¬ (k:Int)<(T s:Int)by omega)];rfl
  refine aP<|S<|S<|aT (t:=72) (n:=18) (A_:=θ (7<((k - i:Nat):Int))||(θ ((k:Int)<(T s:Int))&&Iv (aZ s k))) ?_ ?_
  .all_goals refine Y aA<|Y aA<|Y (dT Z Z Z e)<|Y jB<|Dm ?_<;>(refine Sp 61 (λτ=>?_) λτ=>?_)<;>(first|exact s_|refine M<|M<|M<|M<|M ?_|refine O aA<|O aA<|O (gQ U_)<|O cH<|O aA ?_)<;>(first|refine Sp 66 (λρ=>?_) λρ=>?_|refine lC (t:=66) Z ?_)<;>(first|exact s_|refine M ?_|refine Fu ?_|refine O aA ?_)<;>(first|refine M ?_|refine Fu ?_|refine O aA ?_)<;>(first|refine M ?_|refine Fu ?_|refine O (cL Z U_ Z Z X (l_ _) (I_ ρ) Z) ?_)<;>(first|refine M ?_|refine Fu ?_|refine O (kc call167 (bk (aZ s k) _)) ?_)<;>(first|refine M ?_|refine O cE ?_)<;>refine V cE ?_<;>exact Gj (h:=by first|(rw[τ];rfl)|(rw[τ,ρ];rfl))
  refine Cn ?_ ?_<;>intro F
  .have w:(IK s i k).err=4:=by
    have h:=F;rw[hw,<-Bool.or_assoc]at h;have R:θ (7<((k - i:Nat):Int))=θ (7<k - i):=by rw[Bool.eq_iff_iff,l6,l6];omega
    rw[R]at h;exact b6 h
   have f:=T1 B (by rw[w];decide);rw[w]at f;rw[f];refine U (oU IQ)<|Uu (jH sizeOf189)<|Y aH<|V aH<|aC<|mP (H':=[]) (.inr Z) Z (DD jF sizeOf189) (aI Z) (aI Z) (P_ (r:=.tup [.agg [iv 0,sv a6,iv 0],iv 0,iv 4])) ?_;exact Qq
  have w:(IK s i k).err=0:=by
   have h:=F;rw[hw,<-Bool.or_assoc]at h;have R:θ (7<((k - i:Nat):Int))=θ (7<k - i):=by rw[Bool.eq_iff_iff,l6,l6];omega
   rw[R]at h;exact a8 (by rw[h];simp)
  rw[LK B w];refine aB<|U aA<|Y aA<|Y aA<|Y (bM (l:=i) (h:=k) Z U_ Z Z Z X X Z)<|Y aA<|Y (oU IQ)<|Y aA<|Uu (jH sizeOf189)<|Y aH<|V aH<|aC<|mP (H':=[]) (.inr Z) Z (DD jF sizeOf189) (aI Z) (aI Z) (P_ (r:=.tup [.agg [iv 2,sv (s.extract i k),iv (i:Int)],iv ((k:Nat):Int),iv 0])) ?_;exact Qq
 have u:nN s i≠4:=b_ (c2.trans v);refine aB<|S<|U aA<|V cI<|Cn ?_ ?_<;>intro G
 .have P:nN s i=7:=b9 (z_.symm.trans G);have B:fF s i=(N (FY s i).1,(FY s i).2):=by rw[fF,a8 b,a8 c,a8 o,a8 u,b6 P]
  have c_:(s.extract i (T s)).data.toList.drop 1=s.data.toList.drop (i+1):=by rw[sW,æ]
  cases Q:oO (s.data.toList.drop (i+1))with
  |none =>
   have q:BD (s.extract i (T s))=(a6,0):=by rw[BD,c_,Q]
   have u_:FY s i=(wG i,i):=by rw[FY,q];rfl
   rw[u_]at B;have f:=T1 B (by show (3:Int)≠0;decide);rw[f];refine U aA<|Y aA<|Y (kc call263 (Vw hs hi Q))<|Y aA<|Y dK<|Y dK<|Y dK<|Y aH<|Y aH<|V aH<|S<|U aA<|V iJ<|Cn ?_ ?_<;>intro W
   .refine U (oU IQ)<|Uu (jH sizeOf189)<|Y aH<|V aH<|aC<|mP (H':=[]) (.inr Z) Z (DD jF sizeOf189) (aI Z) (aI Z) (P_ (r:=.tup [.agg [iv 0,sv a6,iv 0],iv 0,iv 3])) ?_;exact Qq
   ((cases W;done))
  | some p =>
   have q:BD (s.extract i (T s))=(⟨p.1.toArray⟩,((p.2+1:Nat):Int)):=by rw[BD,c_,Q]
   have u_:FY s i=(⟨3,⟨p.1.toArray⟩,i,0⟩,i+(p.2+1)):=by
    rw[FY,q,b6 (by show (0:Int)<((_:Nat):Int);omega)];rfl
   rw[u_]at B;rw[LK B rfl];refine U aA<|Y aA<|Y (kc call263 (Vv hs hi Q))<|Y aA<|Y dK<|Y dK<|Y dK<|Y aH<|Y aH<|V aH<|S<|U aA<|V iJ<|Cn ?_ ?_<;>intro y_
   ·((cases y_;done))
   refine aB<|U aA<|Y aA<|Y (oU IQ)<|Y aA<|Uu (jH sizeOf189)<|Y aH<|V aH<|aC<|mP (H':=[]) (.inr Z) Z (DD jF sizeOf189) (aI Z) (aI Z) (Fin.wk (r:=.tup [.agg [iv 3,sv (⟨p.1.toArray⟩),iv (i:Int)],iv ((i+(p.2+1):Nat):Int),iv 0]) H_ T_ T_) ?_;exact Qq
 have P:nN s i≠7:=b_ (z_.symm.trans G);refine aB<|S<|U aA<|Y (bH Z Z call262 Z (Qp ⟨#[59,44,46,58,40,41,123,125,91,93,61,60,62,47,45]⟩ (aZ s i) _ E_))<|V iJ<|Cn ?_ ?_<;>intro g
 .have z:nN s i≠6:=by
   have h:(!UP ⟨#[59,44,46,58,40,41,123,125,91,93,61,60,62,47,45]⟩ (aZ s i))=A:=g;rw[J3]at h
   simpa using h
  have B:fF s i=(N (wG i),i):=by rw[fF,a8 b,a8 c,a8 o,a8 u,a8 P,a8 z]
  have f:=T1 B (by show (3:Int)≠0;decide);rw[f];refine U (oU IQ)<|Uu (jH sizeOf189)<|Y aH<|V aH<|aC<|mP (H':=[]) (.inr Z) Z (DD jF sizeOf189) (aI Z) (aI Z) (P_ (r:=.tup [.agg [iv 0,sv a6,iv 0],iv 0,iv 3])) ?_;exact Qq
 have z:nN s i=6:=by
  have h:(!UP ⟨#[59,44,46,58,40,41,123,125,91,93,61,60,62,47,45]⟩ (aZ s i))=η:=g;rw[J3]at h
  simpa using h
 have B:fF s i=(N ⟨4,s.extract i (i+1),i,0⟩,i+1):=by rw[fF,a8 b,a8 c,a8 o,a8 u,a8 P,b6 z]
 rw[LK B rfl];refine aB<|U aA<|Y aA<|Y aA<|Y (bM (l:=i) (h:=(i+1)) Z U_ Z Z Z X X Z)<|Y aA<|Y (oU IQ)<|Y aA<|Uu (jH sizeOf189)<|Y aH<|V aH<|aC<|mP (H':=[]) (.inr Z) Z (DD jF sizeOf189) (aI Z) (aI Z) (P_ (r:=.tup [.agg [iv 4,sv (s.extract i (i+1)),iv (i:Int)],iv ((i+1:Nat):Int),iv 0])) ?_;exact Qq
theorem Ko{s}{i j}{f}(h:fF s i=(N f,j)):f.pos=i:=by
 rw[fF]at h
 split at h
 .cases h
 split at h
 .cases h
 split at h
 .cases h;rfl
 split at h
 .cases h;rfl
 split at h
 .cases h;rw[FY]
  split<;>rfl
 split at h<;>(cases h;rfl)
theorem Vy{s}{i}(b:nN s i≠1)(a:nN s i≠2):∃f j,fF s i=(N f,j):=by
 rw[fF,a8 b,a8 a]
 split
 .simp_all
 split
 .simp_all
 split
 .simp_all
 split<;>exact⟨_,_,Z⟩
theorem zx(s:B_)(H:aF)(D:T s<2^40):RC 164 [sv s] (.tup [.pv (DA (fS s).1),iv (fS s).2.1,iv (fS s).2.2]) H:=by
 refine Pu<|Bd func164 Z ntmps164<|U aH<|Y aH<|V aH<|S<|U aA<|Y (gQ U_)<|V jB<|Cn ?_ ?_<;>intro p
 .have e:fS s=([],2,-1):=by rw[fS,b6 (I_ p)]
  rw[e];refine U aH<|Y aH<|V aH<|aC<|mP (H':=[]) (.inr Z) Z (aI Z) (aI Z) (aI Z) P_ ?_;exact Qq
 have v:¬ 20000<T s:=J_ p
 have R:fS s=kW [] (HP s 0):=by rw[fS,a8 v];rfl
 generalize fS s=g at R |-;refine aB<|Sz (dM (id:=905) (sz:=3) (ty:=189) Z Z Z)<|Sr<|Dm<|wc Z Z (bH Z Z call218 Z (Av s 0 _ D (k_ _))) ?_;rintro r H' ⟨i_,rfl,hj1,d_,hj3,B,rfl⟩;refine V aH<|S<|aD<|eN (λ(j:Nat) (L:List b7)=>([(0,sv s),(5,.osl 905 (C L) 0 (C L)),(6,iv (j:Int))],[(905,⟨C L,3,189,mA L⟩)])) (λj L=>j<=T s/\C L<=5000/\g=kW L (HP s j)/\(j<T s->nN s j≠1/\nN s j≠2)) (λj L=>T s - j) i_ [] ⟨d_,k_ _,F_,B⟩ ?_ ?_
 .exact L_
 rintro j L ⟨hj,hL,b,E⟩;refine S<|U aA<|Y aA<|Y (gQ U_)<|V cH<|Cn ?_ ?_<;>intro o
 .have d:j<T s:=I_ o
  have ⟨G,F⟩:=E d;have ⟨f,e,c⟩:=Vy G F;have l:=Pg s j [(905,⟨C L,3,189,mA L⟩)] D d G F;have m:=Ko c;by_cases k:f.err=0
  .rw[LK c k]at l;have w:=QI c k d;have x:=Ck d c k;rw[x]at b;refine aB<|aD<|U aA<|Y aA<|Y (kc call219 (l))<|Y aA<|Y dK<|Y dK<|Y dK<|Y (kl 7 wo)<|Uu (jH sizeOf189)<|Y aH<|V aH<|S<|U aA<|V xN<|Cn ?_ ?_<;>intro J
   ·((cases J;done))
   refine aB<|S<|U aA<|Y (by exact eB Z cU Z Z Z)<|V cI<|Cn ?_ ?_<;>intro n
   .have z:C L=5000:=I_ n
    have i:g=([],2,(j:Int)):=by rw[b,kW,a8 (λh=>h k),b6 z,m]
    rw[i];refine U aA<|Y aH<|Y aH<|V aH<|aC<|mP (H':=[]) (.inr Z) Z (aI Z) (aI Z) (aI Z) P_ ?_;exact Qq
   have z:¬ C L=5000:=J_ n
   rw[kW,a8 (λh=>h k),a8 z]at b;refine aB<|U aA<|Y (by exact aW Z jF sizeOf189 Z Z Z Z (by simp only[Zl,K_];rfl) Z)<|Y (by exact aM [K_ f] Z iK Z Z Z Z Z R_)<|Y (by exact bU (ps:=[K_ f]) Z iK Bc Z Z Z Z Z (yO _) Z R_ (m:=1) Z X Z (C4 L f))<|V aH<|Rd aA<|Dm ?_;refine wc Z Z (bH Z Z call218 Z (Av s e _ D w.2)) ?_;rintro r H' ⟨e_,rfl,g1,Q,c_,K,rfl⟩;refine Da ?_;refine⟨e_,L++[f],⟨Q,G_,by rw[b,c_],K⟩,X,?_⟩;dsimp only;rw[j7,List.length_singleton];exact(cJ.wk (Eb<|Ea<|Eb<|T_) (Hc (cV _ _)<|T_) T_)
  have P:(!θ (f.err=0))=A:=by rw[Á k];rfl
  rw[T1 c k]at l;have i:g=([],f.err,(j:Int)):=by rw[b,Ke d c k,kW,b6 k,m]
  rw[i];refine aB<|aD<|U aA<|Y aA<|Y (kc call219 (l))<|Y aA<|Y dK<|Y dK<|Y dK<|Y (kl 7 wo)<|Uu (jH sizeOf189)<|Y aH<|V aH<|S<|U aA<|V (cQ.valY (LB Z Z Z) (P))<|Cn ?_ ?_<;>intro y
  .refine U aA<|Y aA<|Y aH<|Y aH<|V aH<|aC<|mP (H':=[]) (.inr Z) Z (aI Z) (aI Z) (aI Z) P_ ?_;exact Qq
  ((cases y;done))
 have u:¬ j<T s:=J_ o
 rw[Kf u,kW]at b;rw[b];refine aP<|S ?_;refine gK.ent (cJ.fz (id:=905) (E':=[(5,.pv (DA L))]) (H':=[]) (L.map K_) Z (by rw[Í];rfl)
  (by intro q I;rw[q9]at I;subst I;exact⟨_,Z,.osl (by rw[r8,Û,Ô (by rw[g_];exact h_ _)])⟩) Z T_ T_) ?_
 refine Rd aA<|Y aH<|Y aH<|V aH<|aC<|mP (H':=[]) (.inr Z) Z (aI Z) (aI Z) (aI Z) Fin.refl ?_;exact Qq
def wW(s:B_)(i:Nat):B_:=(cS s).getD i a6
def nH(s:B_):B_:=s.extract (T (wW s 0)+T (wW s 1)+T (wW s 2)+3) (T s)
def I9(s:B_):Bool:=(θ ((fS (nH s)).2.1=0)&&θ (C (fS (nH s)).1=1))&&θ (((fS (nH s)).1.getD 0 LQ).kind=3)
def yy(rP:B_->l8)(s:B_):b8 :=if wW s 0=a_ wPut/\4<T s then⟨1,a6,a6,a6,0,0,a6,a6,[],rP (s.extract 4 (T s))⟩
 else if wW s 0=a_ KA/\C (cS s)=4 then⟨2,wW s 1,a6,a6,KT (wW s 2),KT (wW s 3),a6,a6,[],j8⟩
 else if(wW s 0=a_ BV/\4<=C (cS s))/\I9 s=A then⟨3,wW s 1,a6,a6,0,0,wW s 2,((fS (nH s)).1.getD 0 LQ).text,[],j8⟩
 else if wW s 0=a_ J9/\2<=C (cS s) then⟨4,wW s 1,a6,a6,0,0,a6,a6,(cS s).drop 2,j8⟩
 else if wW s 0=a_ KC/\C (cS s)=2 then⟨5,wW s 1,a6,a6,0,0,a6,a6,[],j8⟩
 else if wW s 0=a_ C0/\C (cS s)=4 then⟨6,wW s 1,wW s 3,wW s 2,0,0,a6,a6,[],j8⟩
 else if wW s 0=a_ KB/\C (cS s)=3 then⟨7,wW s 1,wW s 2,a6,0,0,a6,a6,[],j8⟩
 else PG
theorem aB4{s}{i}(h:i<C (cS s)):((cS s).map S_)[i]?=N (S_ (wW s i)):=by rw[r7,wW,getD_eq_getElem?_getD,m_ h];rfl
theorem GL(s)(i):T (wW s i)<=T s:=by
 rw[wW,getD_eq_getElem?_getD];cases e:(cS s)[i]? with
 |none=>exact k_ _
 |some w =>
  have b:=m7 e;obtain ⟨x,c,rfl⟩:=mem_map.1 b;have:=sB _ c;rw[aS]at this;show T (a_ x)<=_;rw[cB];omega
theorem IZ(c):∀l,((dX c l).map List.length).sum+C (dX c l)=C l+1
 | []=>rfl
 | b::l=>by
  have B:=IZ c l;have a:=sD c l;rw[dX]
  split
  .rw[Ì,Ð,j6,j6];show 0+_+_=_;omega
  cases e:dX c l with
  |nil=>rw[e]at a;exact absurd a (Nat.lt_irrefl 0)
  |cons x r =>
   grind
theorem aCz{s}(h:4<=C (cS s)):T (wW s 0)+T (wW s 1)+T (wW s 2)+3<=T s:=by
 have j:=IZ 32 (ν (μ s));have g:∀i,wW s i=a_ ((dX _ _).getD i _):=λi=>by
  rw[wW,cS,getD_eq_getElem?_getD,getD_eq_getElem?_getD,r7];cases (dX _ _)[i]?<;>rfl
 rw[g,g,g];rw[cS,g_]at h
 match e:dX _ _ with
 | []=>rw[e]at h;exact absurd h H_
 | [_]=>rw[e]at h;simp only[j6,Æ]at h;omega
 | [_,_]=>rw[e]at h;simp only[j6,Æ]at h;omega
 | [_,_,_]=>rw[e]at h;simp only[j6,Æ]at h;omega
 |a::b::c::d::r =>
  rw[e]at j;simp[Ì,Ð,j6]at j;show C a+C b+C c+3<=_;omega
variable{rP:B_->l8}
def tK(J3:List b7):Int:=EN (J3.getD 0 LQ).text
def A5(J3:List b7):List B_:=((J3.drop 3).takeWhile λf=>θ (f.kind=1)).map b7.text
def TC(J3:List b7):Bool:=θ ((J3.getD 2 LQ).kind=2)&&θ ((J3.getD 3 LQ).kind=2)
def fq(s:B_):Int:=KS s (min (T s) 7)
def tU(J3:List b7):List m8×Bool:=if tK J3=1 then MX [] (J3.drop 4)else MX [] (J3.drop (3+C (A5 J3)+1))
def uZ(J3:List b7):l8:=if tK J3=1 then⟨(J3.getD 1 LQ).text,1,fq (J3.getD 2 LQ).text,fq (J3.getD 3 LQ).text,[],(tU J3).1⟩else⟨(J3.getD 1 LQ).text,tK J3,0,0,A5 J3,(tU J3).1⟩
def Xe(s:B_):l8×Int:=if 20000<T s then(j8,2)else if(fS s).2.1=0/\4<=C (fS s).1 then
 (if tK (fS s).1=1/\TC (fS s).1=η then(j8,5)else if(tU (fS s).1).2=A/\fM (uZ (fS s).1)=(s,0)then(uZ (fS s).1,0)else(j8,5))else(j8,5)
theorem iz{s}(B:∀b∈ν (μ s),48<=b.toNat/\b.toNat<=57):∀k,k<=T s->∃n,Lib.decFrom 0 (s.data.toList.take k)=N n/\bl s k=n/\KS s k=n
 |0,_=>⟨0,Z,Z,Z⟩
 |k+1,h=>by
  obtain ⟨n,i,g,f⟩:=iz B k X;have ⟨b,d⟩:∃b,s.data.toList[k]?=N b:=aQ i8;have j:=B b (m7 d);have e:Lib.digitVal b=N (b.toNat - 48):=by rw[Lib.digitVal,b6 j]
  have c:aZ s k=(b.toNat):=by rw[aZ,d];rfl
  refine⟨n*10+(b.toNat - 48),Lib.decFrom_take _ k 0 n b _ i d e,?_,?_⟩
  .rw[bl,g];omega
  rw[KS,f,c];show 10*n+((b.toNat:Int) - 48) % 256=_;omega
theorem ug{x}(b:0<=x):(aV x).data.toList=Lib.decDigits x.toNat:=by show (Lib.itoa x).toArray.toList=_;rw[kQ _ b]
theorem GZ{x:Int}(p:0<=x)(D:x<10000000):KT (aV x)=x/\fq (aV x)=x:=by
 have h:=ug p;have i:∀b∈(aV x).data.toList,48<=b.toNat/\b.toNat<=57:=λb e=>by rw[h]at e;exact qF _ e
 have d:T (aV x)=C (Lib.decDigits x.toNat):=by rw[<-aS,h]
 have B:0<T (aV x):=by rw[d];exact length_pos_iff.2 (oI _)
 have l:T (aV x)<=7:=by rw[d];exact cY X E_
 have ⟨n,k,m,o⟩:=iz i (T (aV x)) (h_ _);rw[Ô F_,h,jW]at k;cases k;have g:(List.range (T (aV x))).all (Ix (aV x))=A:=by
  rw[ê];intro j E;have ⟨b,e⟩:∃b,(aV x).data.toList[j]?=N b:=aQ F_;have F:=i b (m7 e);have f:aZ (aV x) j=(b.toNat:Int):=by rw[aZ,e];rfl
  rw[Ix,f,Á X,Á X];rfl
 constructor
 .rw[KT,g,À l,Bool.and_true,b6 Z,m];omega
 rw[fq,Nat.min_eq_left l,o];omega
theorem OU{s:B_}:∀(l:List m8) (i:Nat),(∀t,t∈l->cK t.key=A)->s.data.toList.drop i=nZ l->∃J3,GI s i (nZ l) J3/\V3 J3 l/\∀acc,MX acc J3=(acc++l,A)
 | [],i,_,h=>⟨[],all_nil h,⟨Z,(λf w=>by cases w),Z⟩,λacc=>by rw[MX,List.append_nil]⟩
 | t::l,i,d,h=>by
  have u:nZ (t::l)=32::(ν (μ t.key)++61::(cZ (ν (μ t.val))++nZ l)):=by
   rw[nZ,Ü,UF];simp[nZ]
  rw[u]at h |-;have g:=(qU h).2.2;have b:=fT g;have a:=(qU b).2.2;have o:=fT a;have ⟨J3,r,q,p⟩:=OU l _ (λt n=>d t (Â _ n)) o;have j:0<C (cZ (ν (μ t.val))):=by rw[cZ,j6];omega
  have v:=EF (KJ a) Z (sH a j) j r;have m:=HN b E_ v;have k:=nO g (d t Ä) (λc r' e=>by cases e;exact⟨E_,E_,E_⟩) m;refine⟨_,vN h k,V3.cons q Z Z Z,λacc=>?_⟩;rw[MX,p,Ñ];rfl
theorem Cl{α:Type}{p}{D B}{c:α}(h:∀a∈D,p a=A)(E:p c=η):(D++c::B).takeWhile p=D:=F_
theorem Dz{o:l8}(J:pB o=A):∃J3,GI (ET o) 0 (tD o) J3/\(∀f,f∈J3->f.err=0)/\C J3<=5000/\4<=C J3/\¬ (tK J3=1/\TC J3=η)/\(tU J3).2=A/\uZ J3=o:=by
 have ⟨hr,ht,e_,D,_⟩:=CM J;have ⟨q,v_,hn,hz⟩:=om J;have ⟨A_,E⟩:=BT (HG J);have r:∀t,t∈o.tags->cK t.key=A:=λt h=>((yL.1 e_).1 t h).1;have y:=YN o;by_cases n:o.kind=1
 .have e:tD o=(eQ o.kind).data.toList++32::(ν (μ o.id)++32::(Lib.itoa o.x++32::(Lib.itoa o.y++nZ o.tags))):=by
   rw[tD,mN,b6 n];simp
  rw[e]at y |-;have u:=fT y;rw[aS]at u;have z:=(qU u).2.2;have s:=fT z;rw[aS]at s;have B:=(qU s).2.2;have F:=fT B;have w:=(qU F).2.2;have P:=fT w;have ⟨J3,Q,⟨r1,i_,r3⟩,I⟩:=OU o.tags _ r P;have b:=nO y A_ (mJ _) (vN u (nO z D (mJ _) (vN s (RX B q.1 X (mJ _) (vN F (RX w v_.1 X (SH _) Q))))));have g:∀(a b c d:b7) (R:List b7),tK (⟨1,eQ o.kind,0,0⟩::b::c::d::R)=1:=λa b c d R=>by
   show EN (eQ o.kind)=1;rw[E,n]
  refine⟨_,b,λf m=>?_,?_,?_,?_,?_,?_⟩
  .simp only[l9]at m;rcases m with rfl|rfl|rfl|rfl|m
   .rfl
   .rfl
   .rfl
   .rfl
   exact i_ f m
  .simp only[j6];omega
  .simp only[j6];omega
  .rintro⟨-,h⟩;simp[TC]at h
  .rw[tU,b6 (g LQ _ _ _ _)];show (MX [] J3).2=A;rw[I]
  rw[uZ,b6 (g LQ _ _ _ _),tU,b6 (g LQ _ _ _ _)];show (⟨o.id,1,fq (aV o.x),fq (aV o.y),[],(MX [] J3).1⟩:l8)=o;rw[I,(GZ q.1 X).2,(GZ v_.1 X).2];exact RH Z n Z Z (hn n) Z
 have ⟨k,l,p⟩:=X0 J n;have v:=uX J;rw[p]at v;have e:tD o=(eQ o.kind).data.toList++32::(ν (μ o.id)++32::(40::(ν (μ k)++(l.flatMap (λk=>32::ν (μ k))++41::nZ o.tags)))):=by
  rw[tD,mN,a8 n,p,zC];simp
 rw[e]at y |-;have u:=fT y;rw[aS]at u;have z:=(qU u).2.2;have s:=fT z;rw[aS]at s;have B:=(qU s).2.2;have F:=(qU B).2.2;have w:=fT F;rw[aS]at w;have P:=fT w;have h8:=(qU P).2.2;have ⟨J3,Q,⟨r1,i_,r3⟩,I⟩:=OU o.tags _ r h8;have o_:=HN P E_ Q;have ⟨R,hR,i,W⟩:=VT l _ _ _ (λx q=>v x (Â _ q)) w (KI _) o_;have K:H7 (l.flatMap (λk=>32::ν (μ k))++41::nZ o.tags):=by
  cases l with
  |nil=>exact KI _
  |cons a l=>rw[Ü];exact mJ _
 have b:=nO y A_ (mJ _) (vN u (nO z D (mJ _) (vN s (HN B E_ (nO F (v k Ä) K hR)))));have τ:C R=C l:=by rw[<-i,g_]
 have σ:C o.refs=C l+1:=by rw[p,j6]
 have g:∀(b c d:b7) (z_:List b7),tK (⟨1,eQ o.kind,0,0⟩::b::c::d::z_)=o.kind:=λb c d z_=>by
  show EN (eQ o.kind)=_;exact E
 have H:∀(a b c d:b7) (j:Nat),d.kind=1->A5 (a::b::c::d::(R++⟨4,⟨#[41]⟩,j,0⟩::J3))=d.text::R.map b7.text:=λa b c d j f_=>by
  show (((d::R)++⟨4,⟨#[41]⟩,j,0⟩::J3).takeWhile _).map b7.text=_;rw[Cl (λx q=>?_) y7]
  .rfl
  rcases l9.1 q with rfl|q
  .exact À f_
  exact À (W x q).1
 have G:∀(b c d:b7) (j:Nat),d.kind=1->tU (⟨1,eQ o.kind,0,0⟩::b::c::d::(R++⟨4,⟨#[41]⟩,j,0⟩::J3))=(o.tags,A):=λb c d j f_=>by
  rw[tU,a8 (by rw[g];exact n),H _ _ _ _ _ f_];have L:∀a b c:b7,(a::b::c::d::(R++⟨4,⟨#[41]⟩,j,0⟩::J3)).drop (3+C (d.text::R.map b7.text)+1)=J3:=λa b c=>by
   rw[show 3+C (d.text::R.map b7.text)+1=C (a::b::c::d::(R++[⟨4,⟨#[41]⟩,j,0⟩])) by simp;omega,show a::b::c::d::(R++⟨4,⟨#[41]⟩,j,0⟩::J3)=(a::b::c::d::(R++[⟨4,⟨#[41]⟩,j,0⟩]))++J3 by simp];exact ç
  rw[L,I];rfl
 refine⟨_,b,λf m=>?_,?_,?_,?_,?_,?_⟩
 .simp only[l9,î]at m;rcases m with rfl|rfl|rfl|rfl|m|rfl|m
  .rfl
  .rfl
  .rfl
  .rfl
  .exact(W f m).2
  .rfl
  exact i_ f m
 .simp only[j6,j7];omega
 .simp only[j6,j7];omega
 .rintro⟨h,-⟩;rw[g]at h;exact n h
 .rw[G _ _ _ _ rfl]
 have ⟨y_,z2⟩:=hz n;rw[uZ,a8 (by rw[g];exact n),G _ _ _ _ Z,H _ _ _ _ _ Z,g];refine RH Z Z y_ z2 ?_ Z;rw[p,i]
theorem je{o}(h:(fM o).2=0):Xe (fM o).1=(o,0):=by
 have ⟨c,d,I⟩:=RI h;have ⟨J3,b,a,D,E,F,G,H⟩:=Dz c;have B:fS (ET o)=(J3,0,0):=by
  rw[fS,a8 X,b _ (by exact le_succ _),N5 J3 _ a F_,Ò]
 rw[d];show Xe (ET o)=(o,0);rw[Xe,a8 X]
 simp_all
theorem Yj{a b}(h:a_ a=a_ b):a=b:=by have:=congrArg (λx=>ν (μ x)) h;exact this
theorem sC(l):cS (a_ l)=(dX 32 l).map a_:=rfl
theorem IT(l)(i):wW (a_ l) i=a_ ((dX 32 l).getD i []):=by rw[wW,sC,getD_eq_getElem?_getD,getD_eq_getElem?_getD,r7];cases (dX _ l)[i]?<;>rfl
theorem ub{v}(D:T v<=200):fS (a_ (cZ (ν (μ v))))=([⟨3,v,0,0⟩],0,0):=by
 have b:(a_ (cZ (ν (μ v)))).data.toList.drop 0=cZ (ν (μ v))++[]:=by rw[Ç];rfl
 have B:C (cZ (ν (μ v)))<=402:=by
  have:=U3 (ν (μ v));rw[aS]at this;rw[cZ,j6,j7,Ö];omega
 have c:0<C (cZ (ν (μ v))):=by rw[cZ,j6];omega
 have d:=EF (KJ b) Z (sH b c) c (all_nil (fT b));rw[fS,a8 (by rw[cB];omega),d _ (by rw[cB,Ç];omega)];rfl
theorem MH{l}{k}:(a_ l).extract k (T (a_ l))=a_ (l.drop k):=mC (by rw[sW,cG,cG])
theorem S5(Q:∀o,(fM o).2=0->rP (fM o).1=o){e:b8}(K:gO e=A)(J:gC e=0):yy rP (a_ (fX e))=e:=by
 have ⟨⟨o1,o7⟩,c,j⟩:=vI.1 K;rw[gC]at J;have d:∀ {a b:List UInt8},a≠b->∀ {p:Prop},¬ (a_ a=a_ b/\p):=λh p W=>h (Yj W.1);by_cases m:e.op=1
 .rw[b6 m]at J;have ⟨u,i_,_⟩:=RI J;have H:=Q _ J;rw[GJ,b6 m,m]at j;rw[fX,b6 m];have P:0<C (fM e.obj).1.data.toList:=by
   rw[i_];show 0<C (tD e.obj);rw[tD,mN,j7,j7,j6];omega
  have I:wW (a_ (wPut++32::(fM e.obj).1.data.toList)) 0=a_ wPut:=by
   rfl
  rw[yy,I,b6 ⟨Z,by rw[cB,j7,j6];show 4<3+_;omega⟩,MH];show (⟨1,a6,a6,a6,0,0,a6,a6,[],rP (a_ (fM e.obj).1.data.toList)⟩:b8)=e;rw[gA,H];exact j
 rw[xW,a8 m,l7]at c;have ⟨R,c⟩:=c;have y:=nC R;rw[fX,a8 m];by_cases f:e.op=2
 .rw[b6 f]at c;have r:(0<=e.x/\e.x<1048576)/\0<=e.y/\e.y<1048576:=by
   rw[tf]at c
   grind
  rw[GJ,a8 m,b6 f,f]at j;rw[gW,b6 f];have n1:=HH r.1.1;have n2:=HH r.2.1;have i:dX 32 (bW [32] [KA,ν (μ e.id),Lib.itoa e.x,Lib.itoa e.y])=[KA,ν (μ e.id),Lib.itoa e.x,Lib.itoa e.y]:=lJ E_ F_;simp only[yy,IT,sC,i,Ë,Ê];rw[a8 (d E_),b6 ⟨T_,Z⟩,gA];show (⟨2,e.id,a6,a6,KT (aV e.x),KT (aV e.y),a6,a6,[],j8⟩:b8)=e;rw[(GZ r.1.1 X).1,(GZ r.2.1 X).1];exact j
 by_cases g:e.op=3
 .rw[a8 f,b6 g,l7,l6]at c;have B:=nC c.1;rw[GJ,a8 m,a8 f,b6 g,g]at j;rw[gW,a8 f,b6 g];have F:bW [32] [BV,ν (μ e.id),ν (μ e.key),cZ (ν (μ e.val))]=BV++32::(ν (μ e.id)++32::(ν (μ e.key)++32::cZ (ν (μ e.val)))):=by simp[bW]
  have t:=sD 32 (cZ (ν (μ e.val)));have i:dX 32 (bW [32] [BV,ν (μ e.id),ν (μ e.key),cZ (ν (μ e.val))])=BV::ν (μ e.id)::ν (μ e.key)::dX 32 (cZ (ν (μ e.val))):=by
   rw[F,kJ E_,kJ y.1,kJ B.1]
  have n:nH (a_ (bW [32] [BV,ν (μ e.id),ν (μ e.key),cZ (ν (μ e.val))]))=a_ (cZ (ν (μ e.val))):=by
   rw[nH,MH];simp only[IT,i,Ë,Ê,cB];rw[F];congr 1;have:BV++32::(ν (μ e.id)++32::(ν (μ e.key)++32::cZ (ν (μ e.val))))=(BV++32::(ν (μ e.id)++32::(ν (μ e.key)++[32])))++cZ (ν (μ e.val)):=H_
   rw[this,show C BV+C e.id.data.toList+C e.key.data.toList+3=C (BV++32::(ν (μ e.id)++32::(ν (μ e.key)++[32]))) by grind];exact ç
  have z:=ub (v:=e.val) X;have D:I9 (a_ (bW [32] [BV,ν (μ e.id),ν (μ e.key),cZ (ν (μ e.val))]))=A:=by
   rw[I9,n,z];rfl
  simp only[yy,IT,sC,i,Ë,Ê,n,D,z];rw[a8 (d E_),a8 (d E_),b6 ⟨⟨T_,G_⟩,T_⟩,gA,gA];exact j
 by_cases l:e.op=4
 .rw[a8 f,a8 g,b6 l,l7,l7,ê]at c;have L:=c.2;rw[GJ,a8 m,a8 f,a8 g,b6 l,l]at j;rw[gW,a8 f,a8 g,b6 l];have i:dX 32 (bW [32] (J9::ν (μ e.id)::bs e.refs))=J9::ν (μ e.id)::bs e.refs:=lJ E_ (by
   intro w k;rcases l9.1 k with rfl|k
   .exact y.1
   obtain ⟨s,i,rfl⟩:=mem_map.1 k;exact(nC (L s i)).1)
  simp only[yy,IT,sC,i,Ë,Ê];rw[a8 (d E_),a8 (d E_),a8 (λh=>d E_ h.1),b6 ⟨T_,by simp only[g_,j6];omega⟩,gA];show (⟨4,e.id,a6,a6,0,0,a6,a6,(bs e.refs).map a_,j8⟩:b8)=e;rw[Sc];exact j
 by_cases q:e.op=5
 .rw[GJ,a8 m,a8 f,a8 g,a8 l,b6 q,q]at j;rw[gW,a8 f,a8 g,a8 l,b6 q];have i:dX 32 (bW [32] [KC,ν (μ e.id)])=[KC,ν (μ e.id)]:=lJ E_ (by intro w k;rw[q9]at k;subst k;exact y.1);simp only[yy,IT,sC,i,Ë,Ê];rw[a8 (d E_),a8 (d E_),a8 (λh=>d E_ h.1),a8 (d E_),b6 ⟨T_,Z⟩,gA];exact j
 by_cases x:e.op=6
 .rw[a8 f,a8 g,a8 l,a8 q,b6 x,l7]at c;have B:=nC c.1;have E:=nC c.2;rw[GJ,a8 m,a8 f,a8 g,a8 l,a8 q,b6 x,x]at j;rw[gW,a8 f,a8 g,a8 l,a8 q,b6 x];have i:dX 32 (bW [32] [C0,ν (μ e.id),ν (μ e.node),ν (μ e.other)])=[C0,ν (μ e.id),ν (μ e.node),ν (μ e.other)]:=lJ E_ (by intro w k;simp only[l9,q8,or_false]at k;rcases k with rfl|rfl|rfl;all_goals first|exact y.1|exact B.1|exact E.1);simp only[yy,IT,sC,i,Ë,Ê];rw[a8 (d E_),a8 (d E_),a8 (λh=>d E_ h.1),a8 (d E_),a8 (d E_),b6 ⟨T_,Z⟩,gA,gA,gA];exact j
 have G:e.op=7:=X
 rw[a8 f,a8 g,a8 l,a8 q,a8 x]at c;have E:=nC c;rw[GJ,a8 m,a8 f,a8 g,a8 l,a8 q,a8 x,G]at j;rw[gW,a8 f,a8 g,a8 l,a8 q,a8 x];have i:dX 32 (bW [32] [KB,ν (μ e.id),ν (μ e.other)])=[KB,ν (μ e.id),ν (μ e.other)]:=lJ E_ (by intro w k;simp only[l9,q8,or_false]at k;rcases k with rfl|rfl;all_goals first|exact y.1|exact E.1);simp only[yy,IT,sC,i,Ë,Ê];rw[a8 (d E_),a8 (d E_),a8 (λh=>d E_ h.1),a8 (d E_),a8 (d E_),a8 (d E_),b6 ⟨T_,Z⟩,gA,gA];exact j
theorem jb{rE:B_->b8}{s:B_}{B w:List UInt8}{r:List UInt8}{acc:List b8}(i:ν (μ s)=B++(w++r))(f:(10:UInt8)∉w)(h:EZ rE s (C B)=(C B,acc)):∀j,j<=C w->EZ rE s (C B+j)=(C B,acc)
 |0,_=>h
 |j+1,hj=>by
  have g:=jb i f h j X;have k:s.data.toList[C B+j]?=w[j]?:=G_
  have ⟨b,c⟩:∃b,w[j]?=N b:=aQ X;have d:b≠10:=λe=>f G_;have a:aZ s (C B+j)=(b.toNat:Int):=by rw[aZ,k,c];rfl
  rw[show C B+(j+1)=(C B+j)+1 by omega,EZ,a,a8 ?_,g];rw[l6];intro e;exact d (UInt8.toNat_inj.1 (by show b.toNat=10;omega))
theorem Mr{rE}{s}{B w}{r}{acc}(b:ν (μ s)=B++(w++10::r))(c:10∉w)(h:EZ rE s (C B)=(C B,acc)):EZ rE s (C B+C w+1)=(C B+C w+1,acc++[rE (a_ w)]):=by
 have e:=jb b c h _ (h_ _);have f:s.data.toList[C B+C w]?=N 10:=F_
 have a:aZ s (C B+C w)=10:=by rw[aZ,f];rfl
 have d:s.extract _ _=a_ w:=AY (by rw[b,ç]);rw[EZ,a,e,b6 (show θ _=A by decide),d]
theorem X2{rE}{s:B_}:∀(l) (H4) (acc),ν (μ s)=H4++l.flatMap (λe=>fX e++[10])->(∀e∈l,(10:UInt8)∉fX e/\rE (a_ (fX e))=e)->EZ rE s (C H4)=(C H4,acc)->EZ rE s (T s)=(T s,acc++l)
 | [],H4,acc,b,_,h=>by
  rw[List.flatMap_nil,List.append_nil]at b;rw[<-aS,b,h,List.append_nil]
 | e::l,H4,acc,b,c,h=>by
  rw[List.flatMap_cons,List.append_assoc]at b;obtain ⟨d,D⟩:=c e Ä;have E:=Mr b d h;have B:C (H4++(fX e++[10]))=C H4+C (fX e)+1:=by
   grind
  have:=X2 (rE:=rE) (s:=s) l (H4++(fX e++[10])) (acc++[e]) F_ (λx f=>c x (Â _ f)) F_;rw[this,Ñ];rfl
theorem Qu{rE}(k:∀e,gO e=A->gC e=0->rE (a_ (fX e))=e)(t):gPr rE t=iM t:=by
 have key:∀l,eH l=(t,0)->(EZ rE t (T t)).2=l:=λl h=>by
  have a:(eH l).2=0:=by rw[h]
  have g:lV l=A:=by
   rw[eH]at a
   grind
  have ⟨B,d⟩:=JP g;rw[eH,b6 g]at h a;have ⟨f,i,D⟩:=R7 a;rw[Ò]at i;rw[i]at h;have j:t=a_ _:=(congrArg Prod.fst h).symm;have:=X2 (s:=t) l [] [] (by rw[j];rfl) (λe b=>⟨(NJ (d e b) (f e b)).2,k e (d e b) (f e b)⟩) Z;rw[this];rfl
 rw[gPr];by_cases c:20000<T t
 .rw[b6 c,iM,b6 c]
 rw[a8 c];by_cases h:eH (EZ rE t (T t)).2=(t,0)
 .rw[b6 h];have a:(eH (EZ rE t (T t)).2).2=0:=by rw[h]
  have:=FJ a;rw[h]at this;exact this.symm
 rw[iM,a8 c]
 grind
theorem rm(n):∀(J3) (acc),(∀f∈J3,T f.text<=n)->(∀t∈acc,T t.key<=n/\T t.val<=n)->C (MX acc J3).1<=C acc+C J3/\∀t∈(MX acc J3).1,T t.key<=n/\T t.val<=n
 | [],acc,_,h=>by
  rw[MX]
  simp_all
 | [a],acc,_,h=>by
  rw[MX]
  simp_all
 | [a,b],acc,_,h=>by
  rw[MX]
  simp_all
 | a::b::c::r,acc,e,h=>by
  rw[MX]
  split
  .have d:=rm n r (acc++[mkT a c]) (λf B=>e f G_) (λt D=>by
    grind)
   rw[j7,Ö]at d;simp[j6];exact⟨X,d.2⟩
  simp_all
theorem Kg{J3:List _}{n}(h:∀f∈J3,T f.text<=n)(i):T (J3.getD i LQ).text<=n:=by
 rw[getD_eq_getElem?_getD];cases e:J3[i]? with
 |none=>exact k_ _
 |some f=>grind
theorem pS:pn j8:=⟨E_,⟨E_,λt h=>by cases h⟩,E_,λs a=>by cases a⟩
theorem yt{J3:List b7}{n:Nat}(E:n<2^40)(d:∀f∈J3,T f.text<=n)(D:C J3<549755813888):pn (uZ J3):=by
 have b:NV (tU J3).1:=by
  rw[tU]
  split
  .have h:=rm n (J3.drop 4) [] (λf c=>d f (Ï c)) (λt a=>by cases a);rw[q6,Æ]at h;exact⟨X,λt a=>⟨by have:=(h.2 t a).1;omega,by have:=(h.2 t a).2;omega⟩⟩
  have h:=rm n (J3.drop (3+C (A5 J3)+1)) [] (λf c=>d f (Ï c)) (λt a=>by cases a);rw[q6,Æ]at h;exact⟨X,λt a=>⟨by have:=(h.2 t a).1;omega,by have:=(h.2 t a).2;omega⟩⟩
 have B:=Kg d 1;rw[uZ]
 split
 .exact⟨G_,b,F_,λs e=>by cases e⟩
 refine⟨G_,b,?_,λs e=>?_⟩
 .have:=(Õ (l:=J3.drop 3) λf=>θ (f.kind=1)).length_le;rw[A5,g_];rw[q6]at this;omega
 obtain ⟨f,c,rfl⟩:=mem_map.1 (show s∈A5 J3 from e);have:=d f (Ï ((Õ _).subset c));omega
theorem Mt{s}(a:T s<2^40):pn (Xe s).1:=by
 rw[Xe]
 split
 .exact pS
 split
 .split
  .exact pS
  split
  .exact yt a (λf b=>HF s f b) (xY s a)
  exact pS
 exact pS
theorem qo(s):C (cS s)<=T s+1:=by have a:=IZ 32 (ν (μ s));rw[aS]at a;rw[cS,g_];omega
theorem gz{s w}(h:w∈cS s):T w<=T s:=by obtain ⟨x,a,rfl⟩:=mem_map.1 h;have:=sB _ a;rw[aS]at this;show T (a_ x)<=_;rw[cB];omega
theorem FU{f x y}{id b node key d}{refs}{c}(m:T id<=20000)(j:T b<=20000)(g:T node<=20000)(h:T key<=20000)(e:C refs<=20001)(l:∀s∈refs,T s<=20000)(k:pn c):
  WY ⟨f,id,b,node,x,y,key,d,refs,c⟩/\C (⟨f,id,b,node,x,y,key,d,refs,c⟩:b8).refs<2^40 :=
 ⟨⟨⟨Nat.lt_of_le_of_lt m H_,Nat.lt_of_le_of_lt j H_,Nat.lt_of_le_of_lt g H_,Nat.lt_of_le_of_lt h H_⟩,⟨Nat.lt_of_le_of_lt e H_,λs i=>Nat.lt_of_le_of_lt (l s i) H_⟩,k⟩,Nat.lt_of_le_of_lt e H_⟩
theorem Mz(f:∀x:B_,T x<=20000->pn (rP x)){s:B_}(e:T s<=20000):WY (yy rP s)/\C (yy rP s).refs<2^40:=by
 have b:=λi=>Nat.le_trans (GL s i) e;have a:T (a6:B_)<=20000:=k_ _;have d:C ([]:List B_)<=20001:=k_ _;have c:∀s∈([]:List B_),T s<=20000:=λs h=>by cases h
 rw[yy]
 split
 .exact FU a a a a d c (f _ (Nat.le_trans (gF s _ _) e))
 split
 .exact FU (b 1) a a a d c pS
 split
 .exact FU (b 1) a a (b 2) d c pS
 split
 .exact FU (b 1) a a a (by rw[q6];have:=qo s;omega) (λw g=>Nat.le_trans (gz (Ï g)) e) pS
 split
 .exact FU (b 1) a a a d c pS
 split
 .exact FU (b 1) (b 3) (b 2) a d c pS
 split
 .exact FU (b 1) (b 2) a a d c pS
 exact FU a a a a d c pS
abbrev oQ(id:B_)(k x y:Int)(n:Nat):Ob:=bx 6 135 [sv id,iv k,iv x,iv y,.osl 906 n 0 n,.pv .nils]
def qH(id:B_)(k x y:Int)(R:List B_):aF:=[(906,⟨C R,1,9,bP R⟩),(7,oQ id k x y (C R)),(2,bx 6 135 ((bS j8).map .pv))]
abbrev qE(s:B_)(J3:List b7):dG:=[(0,sv s),(2,.ref 2 0 0 0),(4,.pv (DA J3)),(7,.ref 7 0 0 0)]
theorem aGS(id)(k x y)(R)(s):qH id k x y (R++[s])=[(906,⟨C R+1,1,9,bP (R++[s])⟩),(7,oQ id k x y (C R+1)),(2,bx 6 135 ((bS j8).map .pv))]:=by simp[qH]
theorem Kb{α:Type}{p}:∀ {l:List α} {i},i<=C (l.takeWhile p)->(C l<=i->C (l.takeWhile p)=i)/\∀a,l[i]?=N a->(p a=A->i<C (l.takeWhile p))/\(p a=η->C (l.takeWhile p)=i)
 | [],i,h=>⟨λ_=>by simp_all,λa E=>by grind⟩
 | b::l,i,h=>by
  rw[List.takeWhile_cons]at h |-;by_cases F:p b=A
  .cases i with
   |zero=>simp_all
   |succ i =>
    obtain ⟨B,D⟩:=Kb (l:=l) (p:=p) (i:=i) F_
    simp_all
  simp_all
theorem UH{s}(h:T s<=20000):C (fS s).1<100000:=by
 unfold fS
 split
 .decide
 have a:=JJ (kR s (T s+1) 0) [];have B:=BX s (T s+1) 0;rw[Æ]at a;omega
theorem rn(s:B_)(H:aF)(hs:T s<=20000):RC 162 [sv s] (.tup [av (bS (Xe s).1),iv (Xe s).2]) H:=by
 refine Pu ?_;have d:=xY s X;have ρ:=UH hs;have P:=λf hf=>HF s f hf;have u:=yt (n:=T s) X P d;have hlx:=λH=>zx s H X;rw[Xe,a8 X];have ⟨J3,hT⟩:∃J3,J3=(fS s).1:=X_;have ⟨er,her⟩:∃e,e=(fS s).2.1:=X_;have ⟨pp,hpp⟩:∃e,e=(fS s).2.2:=X_;simp only[<-hT,<-her,<-hpp]at d ρ P u hlx |-;clear hT her hpp;have D:C (J3.map K_)=C J3:=g_ _;refine Bd func162 Z ntmps162<|U (kl 2 XC)<|V aH<|S<|U aA<|Y (gQ U_)<|V jB<|Cn ?_ ?_<;>intro hc1
 .exact absurd (b9 hc1) X
 refine aB<|U aA<|Y (kc call164 (hlx _))<|Y aA<|Y dK<|Y dK<|Y dK<|Y aH<|Y aH<|V aH<|S<|S<|aT (t:=30) (n:=8) (A_:=!θ (er=0)||θ ((C (J3.map K_):Int)<4)) ?_ ?_
 .all_goals refine Y aA<|Y xN<|Dm ?_<;>(refine Sp 26 (λh26=>?_) λh26=>?_)<;>(try exact w_)<;>(first|refine M<|M<|M ?_|refine O aA<|O (fP cU)<|O cH ?_)<;>refine V cE ?_<;>exact Gj (h:=by simp_all)
 refine Cn ?_ ?_<;>intro hc2
 .have hb:=hc2;rw[a8 (λe=>by grind)];refine U (oU GF)<|Uu (jH sizeOf135)<|V aH<|aC<|gH (H':=[]) (.inr Z) Z (DD cC sizeOf135) (aI Z) (P_ (r:=.tup [av (bS j8),iv 5])) ?_;exact Qq
 have hb:=hc2;rw[q_,Bool.not_eq_false',l6,q7]at hb;have h4:4<=C J3:=X
 rw[b6 ⟨hb.1,h4⟩];have ⟨k,ht0⟩:=aQ (show 0<C J3 by omega);have ⟨t,ht1⟩:=aQ (show 1<C J3 by omega);have ⟨t2,κ⟩:=aQ (show 2<C J3 by omega);have ⟨K,δ⟩:=aQ (show 3<C J3 by omega);have i0:=cA (f:=K_) ht0;have i1:=cA (f:=K_) ht1;have i2:=cA (f:=K_) κ;have i3:=cA (f:=K_) δ;have hd:∀ {i:Nat} {f:b7},J3[i]?=N f->J3.getD i LQ=f:=fun {i f} h=>by simp_all
 have d1:=hd ht1;have d2:=hd κ;have d3:=hd δ;have q:tK J3=EN k.text:=by rw[tK,hd ht0]
 refine aB<|U aA<|Y (jA iK)<|Y (F2 iO)<|Y (fK N_)<|Y (oU Sf)<|Y (kl 7 Jb)<|Uu (jH sizeOf135)<|Zz<|S<|S ?_;refine gK.ent (E':=qE s J3) (H':=qH t.text 0 0 0 []) (Q_ 906 1 9) ?_;refine Rg<|V aH<|aD<|bA (σ:=Nat) (λj=>(qE s J3++[(8,iv ((j+1:Nat):Int))],qH t.text (kF k.text j) 0 0 [])) (λj=>j<=5) (λj=>5 - j) 0 (k_ _) ?_ ?_
 .exact L_
 rintro j hj;refine S<|U aA<|V HV<|Cn ?_ ?_<;>intro hc3
 .have hj5:j<5:=I_ hc3
  refine aB<|S<|aD<|S<|aN a7<|Cq aA<|Cq (jA iK)<|Cq (F2 iO)<|Cq (fK N_)<|Cq aA<|Cq (kc call214 (GY ((j+1:Nat):Int) _))<|Cq wV<|bF<|Kr<|Cn ?_ ?_<;>intro hc4
  .have hw:k.text=eQ ((j+1:Nat):Int):=b9 hc4;refine Rd aA<|Y (bC eK)<|Uu (by exact cM Z sizeOf3 Z Z Z Z Z Z y0 u1 u1)<|Zz<|Rd aA<|Y iF<|Da ?_;refine⟨j+1,X,X,?_⟩;rw[show kF k.text (j+1)=((j+1:Nat):Int)by rw[kF,b6 hw.symm]];exact L_
  have hw:k.text≠eQ ((j+1:Nat):Int):=b_ hc4;refine aB<|Rd aA<|Y iF<|Da ?_;refine⟨j+1,X,X,?_⟩;rw[show kF k.text (j+1)=kF k.text j by rw[kF,a8 (Ne.symm hw)]];exact L_
 have hj5:j=5:=J_ hc3
 subst hj5;rw[Ag];generalize EN k.text=x at q |-;refine aP<|Sz aH<|S<|U (bC eK)<|Y (bT M_)<|V cI<|Cn ?_ ?_<;>intro hc5
 .have z:x=1:=b9 hc5;subst z;have z2:T t2.text<=20000:=Nat.le_trans (P _ (m7 κ)) hs;have z3:T K.text<=20000:=Nat.le_trans (P _ (m7 δ)) hs;refine S<|S<|aT (t:=64) (n:=13) (A_:=!θ (t2.kind=2)||!θ (K.kind=2)) ?_ ?_
  .all_goals refine Y aA<|Y (jA iK)<|Y (F2 vW)<|Y (fK M_)<|Y xN<|Dm ?_<;>(refine Sp 58 (λh58=>?_) λh58=>?_)<;>(try exact w_)<;>(first|refine M<|M<|M<|M<|M ?_|refine O aA<|O (jA iK)<|O (F2 vW)<|O (fK M_)<|O xN ?_)<;>refine V cE ?_<;>exact Gj (h:=by(simp only[*,Zo];done))
  refine Cn ?_ ?_<;>intro hc6
  .have B:=hc6;rw[b6 ⟨q,by rw[TC,d2,d3];revert B;cases θ (t2.kind=2)<;>cases θ (K.kind=2)<;>decide⟩];refine U (oU GF)<|Uu (jH sizeOf135)<|V aH<|aC<|gH (H':=[]) (.inr Z) Z (DD cC sizeOf135) (aI Z) (P_ (r:=.tup [av (bS j8),iv 5])) ?_;exact Qq
  have B:=hc6;rw[a8 (λe=>by have h2:=e.2;rw[TC,d2,d3]at h2;revert B h2;cases θ (t2.kind=2)<;>cases θ (K.kind=2)<;>decide)];have v:min ((4:Nat):Int) (C (J3.map K_):Int)=((min (4) (C J3):Nat):Int):=by rw[D];omega
  have g:∀r∈J3.map K_,C r=3:=λr hr=>by
   obtain ⟨f,_,rfl⟩:=mem_map.1 hr;rfl
  have y:((J3.map K_).take (C (J3.map K_))).drop (min (4) (C J3))=(J3.drop (4)).map K_:=by
   rw[Ã,â];rcases Nat.le_total (4) (C J3) with h|h
   .rw[Nat.min_eq_left h]
   rw[Nat.min_eq_right h,É (by rw[D];exact h_ _),É (by rw[D];exact h)]
  have hml:min (4) (C J3)<=C (J3.map K_):=by rw[D];exact Nat.min_le_right _ _
  have w:=λH=>NL (J3.drop (4)) H v6;have F:=(show tU J3=MX [] (J3.drop 4)by rw[tU,b6 q]);have E:=(show uZ J3=⟨t.text,1,fq t2.text,fq K.text,[],(tU J3).1⟩by rw[uZ,b6 q,d1,d2,d3]);have ⟨G,b⟩:∃G,G=MX [] (J3.drop (4)):=X_;rw[E,F]at u;rw[E,F];simp only[<-b]at w u |-;clear b F E;refine aB<|aN a7<|x_ aA<|x_ ((jA iK))<|x_ ((F2 iO))<|x_ ((fK N_))<|x_ (by exact bH Z Z call215 Z (TB t2.text _ X))<|x_ aA<|x_ ((jA iK))<|x_ ((F2 iO))<|x_ ((fK N_))<|x_ (by exact bH Z Z call215 Z (TB K.text _ X))<|x_ ((oU MP))<|Cr [7] (λ_ h=>fh nD h)<|Cp [7] (λH1 o=>by exact rK Z sizeOf104 Z Z Z Z ((o _ Z).trans Z) Z Z y0 u1 u1)<|bF<|Kr<|S ?_;refine gK.ent (cJ.fzG (id:=906) (E':=qE s J3++[(9,iv ((4:Nat):Int))]) (H':=[(7,bx 6 135 [sv (t.text),iv (1),iv ((fq t2.text)),iv ((fq K.text)),.pv (aK (([]:List B_))),.pv .nils]),(2,bx 6 135 ((bS j8).map .pv))]) ((([]:List B_)).map S_) Z (cX _) ?_ Z ?_ ?_) ?_
  .intro p hp;simp only[à,Ò,l9,q8,or_false]at hp;rcases hp with rfl|rfl|rfl|rfl|rfl<;>exact⟨_,Z,.same (by simp;try rfl)⟩
  .exact⟨⟨_,Z,Z,Z,Z,kY Z (bG (.same H_) (bG (.same H_) (bG (.same H_) (bG (.same H_) (bG (.osl (lG S_ _)) (bG (.same H_) jV))))))⟩,⟨_,Z,Z,Z,Z,dF H_⟩,T_⟩
  .exact T_
  refine Rd aA<|Y aA<|Y aA<|Y (fP cU)<|Y (DM Z Z Z v)<|Y (eZ (l:=(min (4) (C J3))) (h:=(C (J3.map K_))) Z iK Z (by assumption) Z Z X X y)<|Y (kc call216 (w _))<|Y aA<|Y dK<|Y dK<|Y aH<|V aH<|U aA<|Y (bC gL)<|Uu (by exact cM Z sizeOf133 Z Z Z Z Z Z y0 u1 u1)<|Zz<|U (xB cC sizeOf135)<|Y (kc call217 (DG ⟨t.text,1,(fq t2.text),(fq K.text),([]:List B_),G.1⟩ _ u))<|Y aA<|Y dK<|Y dK<|Y aH<|V aH<|S<|S ?_;refine aT (t:=131) (n:=13) (A_:=(!G.2||!θ ((fM ⟨t.text,1,(fq t2.text),(fq K.text),([]:List B_),G.1⟩).2=0))||!θ ((fM ⟨t.text,1,(fq t2.text),(fq K.text),([]:List B_),G.1⟩).1=s)) ?_ ?_
  .all_goals refine Y aA<|Y iJ<|Dm ?_<;>(refine Sp 123 (λI=>?_) λI=>?_)<;>(try exact w_)<;>(first|refine M<|M ?_|refine O aA<|O xN ?_)<;>refine Y cE<|Dm ?_<;>(refine Sp 127 (λQ=>?_) λQ=>?_)<;>(try exact w_)<;>(first|refine M<|M<|M ?_|refine O aA<|O aA<|O FD ?_)<;>refine V cE ?_<;>exact Gj (h:=by first|(rw[I];rfl)|(rw[I,Q];rfl))
  refine Cn ?_ ?_<;>intro hc7
  .have B:=hc7;rw[a8 (λe=>by rw[e.1,e.2]at B;simp at B)];refine U (oU GF)<|Uu (jH sizeOf135)<|V aH<|aC<|gH (H':=[]) (.inr Z) Z (DD cC sizeOf135) (aI Z) (P_ (r:=.tup [av (bS j8),iv 5])) ?_;exact Qq
  have B:=hc7;simp only[q_,Bool.not_eq_false',l6]at B;rw[b6 ⟨B.1.1,Prod.ext B.2 B.1.2⟩];refine aB<|U (xB cC sizeOf135)<|Uu (jH sizeOf135)<|V aH<|aC<|gH (H':=[]) (.inr Z) Z (DD cC sizeOf135) (aI Z) (P_ (r:=.tup [av (bS ⟨t.text,1,(fq t2.text),(fq K.text),([]:List B_),G.1⟩),iv 0])) ?_;exact Qq
 have z:x≠1:=b_ hc5;rw[a8 (λe=>z (q.symm.trans e.1))];have ⟨J,hM⟩:∃J,J=J3.drop 3:=X_;have hMl:C J=C J3 - 3:=by rw[hM,q6]
 have ⟨W,hW⟩:∃W,W=J.takeWhile λf=>θ (f.kind=1):=X_;have γ:W=J.take (C W):=by rw[hW];exact prefix_iff_eq_take.1 (takeWhile_prefix _)
 have hWl:C W<=C J:=by rw[hW];exact(Õ _).length_le
 have L:A5 J3=W.map b7.text:=by rw[A5,hW,hM]
 have hg:∀i,i<=C W->(C J<=i->C W=i)/\∀a,J[i]?=N a->(θ (a.kind=1)=A->i<C W)/\(θ (a.kind=1)=η->C W=i):=λi hi=>by
  rw[hW]at hi |-;exact Kb hi
 refine Sz aH<|S<|aD<|bA (σ:=Nat) (λi=>(qE s J3++[(9,iv ((3+i:Nat):Int))],qH t.text x 0 0 ((J.take i).map b7.text))) (λi=>i<=C W) (λi=>C W - i) 0 (k_ _) ?_ ?_
 .exact L_
 rintro i hi;have ⟨g1,g2⟩:=hg i hi;by_cases hin:3+i<C J3
 .have ⟨f,hf⟩:=aQ hin;have hfM:J[i]?=N f:=by rw[hM,getElem?_drop];exact hf
  have hif:=cA (f:=K_) hf;have ⟨g3,g4⟩:=g2 f hfM;have H4:θ (((3+i:Nat):Int)<(C (J3.map K_):Int))=A:=À X;refine S<|S<|aT (t:=89) (n:=13) (A_:=θ (f.kind=1)) ?_ ?_
  .all_goals refine Y aA<|Y aA<|Y (fP cU)<|Y (cQ.valY (iL Z Z Z) (H4))<|Dm ?_<;>(refine Sp 82 (λh82=>?_) λh82=>?_)<;>(try exact w_)<;>refine O aA<|O aA<|O (bQ Z iK Z Z X (l_ (3+i)) hif Z)<|O (F2 vW)<|O (fK M_)<|O cI<|V cE ?_<;>exact Gj (h:=by rfl)
  refine Cn ?_ ?_<;>intro hc8
  .have hk:=g3 hc8;have hMt:(J.take (i+1)).map b7.text=(J.take i).map b7.text++[f.text]:=by rw[é,hfM,È];rfl
   have hRl:C ((J.take i).map b7.text)=i:=by rw[g_,n_];omega
   refine aB<|aD<|S<|aN a7<|Cs (λ_ h=>fh eJ h)<|Cs (λ_ h=>lh aG h)<|Cs (λ_ _=>aA)<|Cs (λ_ _=>aA)<|Cs (λH1 o=>by exact bQ Z iK Z Z X (l_ (3+i)) hif Z)<|Cs (λ_ _=>(F2 iO))<|Cs (λ_ _=>(fK N_))<|Cs (λH1 o=>by exact aM [S_ f.text] Z aY Z Z Z Z Z R_) ?_;refine iQ (r:=⟨_,ζ,[_]⟩) (DStep.plain Z (λH1 o=>by exact bU (ps:=[S_ f.text]) Z aY sX Z ((o _ Z).trans Z) Z Z Z (dB _) Z R_ (m:=1) Z X Z (gP ((J.take i).map b7.text) f.text))) Z ?_;refine Cs (λ_ h=>fh eJ h)<|iQ (r:=⟨_,ζ,[_]⟩) (DStep.plain Z (λH1 o=>by exact(by exact cM Z sizeOf22 Z Z Z ((o _ Z).trans Z) Z Z y0 u1 u1))) Z ?_;refine bF<|Kr<|Rd aA<|Y iF<|Da ?_;refine⟨i+1,X,X,?_⟩;dsimp only;rw[hMt,aGS];exact L_
  have hk:=g4 hc8;have ⟨R,hR⟩:∃R,R=(J.take i).map b7.text:=X_;have τ:A5 J3=R:=by rw[L,γ,hk,hR]
  rw[<-hR];have v:min (((3+i+1):Nat):Int) (C (J3.map K_):Int)=((min ((3+i+1)) (C J3):Nat):Int):=by rw[D];omega
  have g:∀r∈J3.map K_,C r=3:=λr hr=>by
   obtain ⟨f,_,rfl⟩:=mem_map.1 hr;rfl
  have y:((J3.map K_).take (C (J3.map K_))).drop (min ((3+i+1)) (C J3))=(J3.drop ((3+i+1))).map K_:=by
   rw[Ã,â];rcases Nat.le_total ((3+i+1)) (C J3) with h|h
   .rw[Nat.min_eq_left h]
   rw[Nat.min_eq_right h,É (by rw[D];exact h_ _),É (by rw[D];exact h)]
  have hml:min ((3+i+1)) (C J3)<=C (J3.map K_):=by rw[D];exact Nat.min_le_right _ _
  have w:=λH=>NL (J3.drop ((3+i+1))) H v6;have F:=(show tU J3=MX [] (J3.drop (3+i+1))by rw[tU,a8 (λe=>z (q.symm.trans e)),L,g_,hk]);have E:=(show uZ J3=⟨t.text,x,0,0,R,(tU J3).1⟩by rw[uZ,a8 (λe=>z (q.symm.trans e)),d1,q,τ]);have ⟨G,b⟩:∃G,G=MX [] (J3.drop ((3+i+1))):=X_;rw[E,F]at u;rw[E,F];simp only[<-b]at w u |-;clear b F E;refine aP<|Rd aA<|Y iF<|V aH<|S ?_;refine gK.ent (cJ.fzG (id:=906) (E':=qE s J3++[(9,iv (((3+i+1):Nat):Int))]) (H':=[(7,bx 6 135 [sv (t.text),iv (x),iv (0),iv (0),.pv (aK (R)),.pv .nils]),(2,bx 6 135 ((bS j8).map .pv))]) ((R).map S_) Z (cX _) ?_ Z ?_ ?_) ?_
  .intro p hp;simp only[à,Ò,l9,q8,or_false]at hp;rcases hp with rfl|rfl|rfl|rfl|rfl<;>exact⟨_,Z,.same (by simp;try rfl)⟩
  .exact⟨⟨_,Z,Z,Z,Z,kY Z (bG (.same H_) (bG (.same H_) (bG (.same H_) (bG (.same H_) (bG (.osl (lG S_ _)) (bG (.same H_) jV))))))⟩,⟨_,Z,Z,Z,Z,dF H_⟩,T_⟩
  .exact T_
  refine Rd aA<|Y aA<|Y aA<|Y (fP cU)<|Y (DM Z Z Z v)<|Y (eZ (l:=(min ((3+i+1)) (C J3))) (h:=(C (J3.map K_))) Z iK Z (by assumption) Z Z X X y)<|Y (kc call216 (w _))<|Y aA<|Y dK<|Y dK<|Y aH<|V aH<|U aA<|Y (bC gL)<|Uu (by exact cM Z sizeOf133 Z Z Z Z Z Z y0 u1 u1)<|Zz<|U (xB cC sizeOf135)<|Y (kc call217 (DG ⟨t.text,x,0,0,R,G.1⟩ _ u))<|Y aA<|Y dK<|Y dK<|Y aH<|V aH<|S<|S ?_;refine aT (t:=131) (n:=13) (A_:=(!G.2||!θ ((fM ⟨t.text,x,0,0,R,G.1⟩).2=0))||!θ ((fM ⟨t.text,x,0,0,R,G.1⟩).1=s)) ?_ ?_
  .all_goals refine Y aA<|Y iJ<|Dm ?_<;>(refine Sp 123 (λI=>?_) λI=>?_)<;>(try exact w_)<;>(first|refine M<|M ?_|refine O aA<|O xN ?_)<;>refine Y cE<|Dm ?_<;>(refine Sp 127 (λQ=>?_) λQ=>?_)<;>(try exact w_)<;>(first|refine M<|M<|M ?_|refine O aA<|O aA<|O FD ?_)<;>refine V cE ?_<;>exact Gj (h:=by first|(rw[I];rfl)|(rw[I,Q];rfl))
  refine Cn ?_ ?_<;>intro hc9
  .have B:=hc9;rw[a8 (λe=>by rw[e.1,e.2]at B;simp at B)];refine U (oU GF)<|Uu (jH sizeOf135)<|V aH<|aC<|gH (H':=[]) (.inr Z) Z (DD cC sizeOf135) (aI Z) (P_ (r:=.tup [av (bS j8),iv 5])) ?_;exact Qq
  have B:=hc9;simp only[q_,Bool.not_eq_false',l6]at B;rw[b6 ⟨B.1.1,Prod.ext B.2 B.1.2⟩];refine aB<|U (xB cC sizeOf135)<|Uu (jH sizeOf135)<|V aH<|aC<|gH (H':=[]) (.inr Z) Z (DD cC sizeOf135) (aI Z) (P_ (r:=.tup [av (bS ⟨t.text,x,0,0,R,G.1⟩),iv 0])) ?_;exact Qq
 have hk:=g1 X;have H4:θ (((3+i:Nat):Int)<(C (J3.map K_):Int))=η:=Á X;have ⟨R,hR⟩:∃R,R=(J.take i).map b7.text:=X_;have τ:A5 J3=R:=by rw[L,γ,hk,hR]
 rw[<-hR];refine S<|S<|aT (t:=89) (n:=13) (A_:=η) ?_ ?_
 .all_goals refine Y aA<|Y aA<|Y (fP cU)<|Y (cQ.valY (iL Z Z Z) (H4))<|Dm ?_<;>(refine Sp 82 (λh82=>?_) λh82=>?_)<;>(try exact w_)<;>refine M<|M<|M<|M<|M<|M<|V cE ?_<;>exact Gj (h:=by rfl)
 refine Cn ?_ ?_<;>intro β
 .cases β
 have v:min (((3+i+1):Nat):Int) (C (J3.map K_):Int)=((min ((3+i+1)) (C J3):Nat):Int):=by rw[D];omega
 have g:∀r∈J3.map K_,C r=3:=λr hr=>by
  obtain ⟨f,_,rfl⟩:=mem_map.1 hr;rfl
 have y:((J3.map K_).take (C (J3.map K_))).drop (min ((3+i+1)) (C J3))=(J3.drop ((3+i+1))).map K_:=by
  rw[Ã,â];rcases Nat.le_total ((3+i+1)) (C J3) with h|h
  .rw[Nat.min_eq_left h]
  rw[Nat.min_eq_right h,É (by rw[D];exact h_ _),É (by rw[D];exact h)]
 have hml:min ((3+i+1)) (C J3)<=C (J3.map K_):=by rw[D];exact Nat.min_le_right _ _
 have w:=λH=>NL (J3.drop ((3+i+1))) H v6;have F:=(show tU J3=MX [] (J3.drop (3+i+1))by rw[tU,a8 (λe=>z (q.symm.trans e)),L,g_,hk]);have E:=(show uZ J3=⟨t.text,x,0,0,R,(tU J3).1⟩by rw[uZ,a8 (λe=>z (q.symm.trans e)),d1,q,τ]);have ⟨G,b⟩:∃G,G=MX [] (J3.drop ((3+i+1))):=X_;rw[E,F]at u;rw[E,F];simp only[<-b]at w u |-;clear b F E;refine aP<|Rd aA<|Y iF<|V aH<|S ?_;refine gK.ent (cJ.fzG (id:=906) (E':=qE s J3++[(9,iv (((3+i+1):Nat):Int))]) (H':=[(7,bx 6 135 [sv (t.text),iv (x),iv (0),iv (0),.pv (aK (R)),.pv .nils]),(2,bx 6 135 ((bS j8).map .pv))]) ((R).map S_) Z (cX _) ?_ Z ?_ ?_) ?_
 .intro p hp;simp only[à,Ò,l9,q8,or_false]at hp;rcases hp with rfl|rfl|rfl|rfl|rfl<;>exact⟨_,Z,.same (by simp;try rfl)⟩
 .exact⟨⟨_,Z,Z,Z,Z,kY Z (bG (.same H_) (bG (.same H_) (bG (.same H_) (bG (.same H_) (bG (.osl (lG S_ _)) (bG (.same H_) jV))))))⟩,⟨_,Z,Z,Z,Z,dF H_⟩,T_⟩
 .exact T_
 refine Rd aA<|Y aA<|Y aA<|Y (fP cU)<|Y (DM Z Z Z v)<|Y (eZ (l:=(min ((3+i+1)) (C J3))) (h:=(C (J3.map K_))) Z iK Z (by assumption) Z Z X X y)<|Y (kc call216 (w _))<|Y aA<|Y dK<|Y dK<|Y aH<|V aH<|U aA<|Y (bC gL)<|Uu (by exact cM Z sizeOf133 Z Z Z Z Z Z y0 u1 u1)<|Zz<|U (xB cC sizeOf135)<|Y (kc call217 (DG ⟨t.text,x,0,0,R,G.1⟩ _ u))<|Y aA<|Y dK<|Y dK<|Y aH<|V aH<|S<|S ?_;refine aT (t:=131) (n:=13) (A_:=(!G.2||!θ ((fM ⟨t.text,x,0,0,R,G.1⟩).2=0))||!θ ((fM ⟨t.text,x,0,0,R,G.1⟩).1=s)) ?_ ?_
 .all_goals refine Y aA<|Y iJ<|Dm ?_<;>(refine Sp 123 (λI=>?_) λI=>?_)<;>(try exact w_)<;>(first|refine M<|M ?_|refine O aA<|O xN ?_)<;>refine Y cE<|Dm ?_<;>(refine Sp 127 (λQ=>?_) λQ=>?_)<;>(try exact w_)<;>(first|refine M<|M<|M ?_|refine O aA<|O aA<|O FD ?_)<;>refine V cE ?_<;>exact Gj (h:=by first|(rw[I];rfl)|(rw[I,Q];rfl))
 refine Cn ?_ ?_<;>intro c
 .have B:=c;rw[a8 (λe=>by rw[e.1,e.2]at B;simp at B)];refine U (oU GF)<|Uu (jH sizeOf135)<|V aH<|aC<|gH (H':=[]) (.inr Z) Z (DD cC sizeOf135) (aI Z) (P_ (r:=.tup [av (bS j8),iv 5])) ?_;exact Qq
 have B:=c;simp only[q_,Bool.not_eq_false',l6]at B;rw[b6 ⟨B.1.1,Prod.ext B.2 B.1.2⟩];refine aB<|U (xB cC sizeOf135)<|Uu (jH sizeOf135)<|V aH<|aC<|gH (H':=[]) (.inr Z) Z (DD cC sizeOf135) (aI Z) (P_ (r:=.tup [av (bS ⟨t.text,x,0,0,R,G.1⟩),iv 0])) ?_;exact Qq
end Go.Proofs.C
namespace Go.Proofs.C
open Go.Proofs.Tryz
open Go.Abs Go.Lib
theorem My{rP:B_->l8}{rX:B_->Int}(hP:∀(x:B_) (H:aF),T x<=20000->RC 162 [sv x] (.tup [av (bS (rP x)),iv (rX x)]) H)(s:B_)(H:aF)(hs:T s<=20000):
  RC 109 [sv s] (av (bL (yy rP s))) H:=by
 refine Pu ?_;have w:=λH=>Mn s H X;have B:∀i,i<C (cS s)->((cS s).map S_)[i]?=N (S_ (wW s i)):=λi hi=>aB4 hi;have m:4<=C (cS s)->T (wW s 0)+T (wW s 1)+T (wW s 2)+3<=T s:=aCz;have I:0<C (cS s):=by rw[cS,g_];exact sD _ _
 rw[yy];have ⟨L,hL⟩:∃L,L=cS s:=X_;simp only[<-hL]at w B m I |-;clear hL;have κ:C (L.map S_)=C L:=g_ _;have i0:=B 0 I;refine Bd func109 Z ntmps109<|Sz (kl 2 XB)<|U aA<|Y (kc call161 (w _))<|V aH<|U aA<|Y (fP aE)<|V aH<|S<|S<|aT (t:=22) (n:=10) (A_:=θ (wW s 0=⟨#[112,117,116]⟩)&&θ ((4:Int)<(T s:Int))) ?_ ?_
 .all_goals refine Y aA<|Y (jA aY)<|Y (fK N_)<|Y wV<|Dm ?_<;>(refine Sp 18 (λh18=>?_) λh18=>?_)<;>(first|exact s_|refine M<|M<|M ?_|refine O aA<|O (gQ U_)<|O jB ?_)<;>refine V cE ?_<;>exact Gj (h:=by(simp only[*,Zo];done))
 refine Cn ?_ ?_<;>intro W
 .have K:wW s 0=a_ wPut/\_:=A0 W;rw[b6 ⟨K.1,X⟩];refine U aA<|Y (bM (l:=4) (h:=T s) Z U_ Z Z Z X (h_ _) Z)<|Y (kc call162 (hP (s.extract 4 (T s)) _ (Nat.le_trans (gF s 4 (T s)) hs)))<|Y aA<|Y dK<|Y dK<|Y (kl 5 XC)<|Uu (jH sizeOf135)<|V aH<|U (by exact aW Z cC sizeOf135 Z Z Z Z (by simp only[Zl,bZ,bS,S_,bL,gX,K_];rfl) Z)<|Y (oU uS)<|Uu (jH bD)<|Zz<|aC ?_;refine cR (H':=[]) (.inr Z) Z (DD cW bD) (P_ (r:=av (bL ⟨1,a6,a6,a6,0,0,a6,a6,[],rP (s.extract 4 (T s))⟩))) ?_;exact Qq
 have K:¬ (wW s 0=a_ wPut/\_):=A1 W;rw[a8 (λh=>K ⟨h.1,X⟩)];refine aB<|S<|S<|aT (t:=38) (n:=9) (A_:=θ (wW s 0=⟨#[109,111,118,101]⟩)&&θ ((C (L.map S_):Int)=4)) ?_ ?_
 .all_goals refine Y aA<|Y (jA aY)<|Y (fK N_)<|Y wV<|Dm ?_<;>(refine Sp 35 (λh35=>?_) λh35=>?_)<;>(first|exact s_|refine M<|M ?_|refine O aA<|O cI ?_)<;>refine V cE ?_<;>exact Gj (h:=by(simp only[*,Zo];done))
 refine Cn ?_ ?_<;>intro a
 .have P:wW s 0=a_ KA/\_:=A0 a;rw[b6 ⟨P.1,X⟩];have J:=B 1 X;have z:=B 2 X;have i3:=B 3 X;have z2:=GL s 2;have z3:=GL s 3;refine S<|aN a7<|x_ aA<|x_ ((jA aY))<|x_ ((fK N_))<|x_ aA<|x_ ((jA aY))<|x_ ((fK N_))<|x_ (by exact bH Z Z call163 Z (X3 (wW s 2) _ X))<|x_ aA<|x_ ((jA aY))<|x_ ((fK N_))<|x_ (by exact bH Z Z call163 Z (X3 (wW s 3) _ X))<|x_ ((oU MP))<|x_ ((oU uS))<|Cp [2] (λ_ h=>sa bD h)<|bF<|Kr<|aC ?_;refine cR (H':=[]) (.inr Z) Z (DD cW bD) (P_ (r:=av (bL ⟨2,wW s 1,a6,a6,KT (wW s 2),KT (wW s 3),a6,a6,[],j8⟩))) ?_;exact Qq
 have P:¬ (wW s 0=a_ KA/\_):=A1 a;rw[a8 (λh=>P ⟨h.1,X⟩)];refine aB<|eT (λ(_:Unit)=>([(0,sv s),(2,.ref 2 0 0 0),(3,.pv (aK L)),(4,iv (C (L.map S_):Int))],[(2,bx 15 137 ((bL PG).map .pv))])) (λ_=>¬ ((wW s 0=a_ BV/\4<=C L)/\I9 s=A)) ?_ ?_
 .refine S<|aT (t:=59) (n:=9) (A_:=θ (wW s 0=⟨#[116,97,103]⟩)&&θ ((4:Int)<=(C (L.map S_):Int))) ?_ ?_
  .all_goals refine Y aA<|Y (jA aY)<|Y (fK N_)<|Y wV<|Dm ?_<;>(refine Sp 56 (λh56=>?_) λh56=>?_)<;>(try exact w_)<;>(first|refine M<|M ?_|refine O aA<|O AU ?_)<;>refine V cE ?_<;>exact Gj (h:=by(simp only[*,Zo];done))
  refine Cn ?_ ?_<;>intro b
  .have h3:wW s 0=a_ BV/\_:=A0 b;have J:=B 1 X;have z:=B 2 X;have z0:=GL s 0;have z1:=GL s 1;have z2:=GL s 2;have o:=m X;have δ:T (nH s)<=T s:=gF s _ _;have G:=λH=>zx (nH s) H X;have D:I9 s=((θ ((fS (nH s)).2.1=0)&&θ (C (fS (nH s)).1=1))&&θ (((fS (nH s)).1.getD 0 LQ).kind=3)):=rfl;have ⟨R,y⟩:∃R,R=nH s:=X_;have Q:s.extract (T (wW s 0)+T (wW s 1)+T (wW s 2)+3) (T s)=R:=by rw[y];rfl
   rw[<-y]at G D;have ⟨J3,hT⟩:∃J3,J3=(fS R).1:=X_;have ⟨er,k⟩:∃e,e=(fS R).2.1:=X_;have ⟨pp,v⟩:∃e,e=(fS R).2.2:=X_;have τ:J3=(fS (nH s)).1:=by rw[hT,y]
   simp only[<-hT,<-k,<-v]at G D;clear hT k v y;have ρ:C (J3.map K_)=C J3:=g_ _;clear K P;by_cases F:C J3=1
   .have ⟨t,ht⟩:=length_eq_one_iff.1 F;have q:(J3.map K_)[0]?=N [.int .i64 t.kind,.str t.text,.int .i64 t.pos]:=by rw[ht];rfl
    have p:J3.getD 0 LQ=t:=by rw[ht];rfl
    rw[p,À F,Bool.and_true]at D;have E:θ ((C (J3.map K_):Int)=1)=A:=À X;refine S<|aN a7<|Cq aA<|Cq aA<|Cq (jA aY)<|Cq (fK N_)<|Cq (gQ U_)<|Cq aA<|Cq (jA aY)<|Cq (fK N_)<|Cq (gQ U_)<|Cq iF<|Cq aA<|Cq (jA aY)<|Cq (fK N_)<|Cq (gQ U_)<|Cq iF<|Cq iF<|Cq (bM (l:=T (wW s 0)+T (wW s 1)+T (wW s 2)+3) (h:=T s) Z U_ Z Z Z o (h_ _) Q)<|Cq (kc call164 (G _))<|Cq aA<|Cq dK<|Cq dK<|Cq dK<|Cq aH<|Cq aH<|Cq aH<|bF<|Kr<|S<|aT (t:=95) (n:=16) (A_:=θ (er=0)&&θ (t.kind=3)) ?_ ?_
    .all_goals refine Y aA<|Y cI<|Dm ?_<;>(refine Sp 84 (λh84=>?_) λh84=>?_)<;>(try exact w_)<;>(first|refine M<|M<|M ?_|refine O aA<|O (fP cU)<|O (cQ.valY (oE Z Z Z) (E)) ?_)<;>refine Y cE<|Dm ?_<;>(refine Sp 89 (λh89=>?_) λh89=>?_)<;>(try exact w_)<;>(first|refine M<|M<|M<|M<|M ?_|refine O aA<|O (bQ Z iK Z Z X (show (0:Int).toNat=0 from Z) q Z)<|O (F2 vW)<|O (fK M_)<|O cI ?_)<;>refine V cE ?_<;>exact Gj (h:=by(simp only[*,Zo];done))
    refine Cn ?_ ?_<;>intro c
    .have hq:I9 s=A:=D.trans c;rw[b6 ⟨⟨h3.1,X⟩,hq⟩,<-τ,p];refine S<|aN a7<|x_ aA<|x_ (by exact bQ Z aY Z Z X (show (1:Int).toNat=1 from Z) J Z)<|x_ ((fK N_))<|x_ aA<|x_ (by exact bQ Z aY Z Z X (show (2:Int).toNat=2 from Z) z Z)<|x_ ((fK N_))<|x_ aA<|x_ (by exact bQ Z iK Z Z X (show (0:Int).toNat=0 from Z) q Z)<|x_ ((F2 iO))<|x_ ((fK N_))<|x_ ((oU uS))<|Cp [2] (λ_ h=>sa bD h)<|bF<|Kr<|aC ?_;refine cR (H':=[]) (.inr Z) Z (DD cW bD) (P_ (r:=av (bL ⟨3,wW s 1,a6,a6,0,0,wW s 2,t.text,[],j8⟩))) ?_;exact Qq
    have hq:I9 s=η:=D.trans c;refine aB ?_;exact⟨(),(λh=>by have:=h.2;rw[hq]at this;cases this),Wk⟩
   have E:θ ((C (J3.map K_):Int)=1)=η:=Á X;rw[Á F,Bool.and_false,Bool.false_and]at D;refine S<|aN a7<|Cq aA<|Cq aA<|Cq (jA aY)<|Cq (fK N_)<|Cq (gQ U_)<|Cq aA<|Cq (jA aY)<|Cq (fK N_)<|Cq (gQ U_)<|Cq iF<|Cq aA<|Cq (jA aY)<|Cq (fK N_)<|Cq (gQ U_)<|Cq iF<|Cq iF<|Cq (bM (l:=T (wW s 0)+T (wW s 1)+T (wW s 2)+3) (h:=T s) Z U_ Z Z Z o (h_ _) Q)<|Cq (kc call164 (G _))<|Cq aA<|Cq dK<|Cq dK<|Cq dK<|Cq aH<|Cq aH<|Cq aH<|bF<|Kr<|S<|aT (t:=95) (n:=16) (A_:=η) ?_ ?_
   .all_goals refine Y aA<|Y cI<|Dm ?_<;>(refine Sp 84 (λh84=>?_) λh84=>?_)<;>(try exact w_)<;>(first|refine M<|M<|M ?_|refine O aA<|O (fP cU)<|O (cQ.valY (oE Z Z Z) (E)) ?_)<;>refine Y cE<|Dm ?_<;>(refine Sp 89 (λh89=>?_) λh89=>?_)<;>(try exact w_)<;>refine M<|M<|M<|M<|M<|V cE ?_<;>exact Gj (h:=by rfl)
   refine Cn ?_ ?_<;>intro σ
   .cases σ
   refine aB ?_;exact⟨(),(λh=>by have:=h.2;rw[D]at this;cases this),Wk⟩
  have h3:¬ (wW s 0=a_ BV/\_):=A1 b;refine aB ?_;exact⟨(),(λh=>h3 ⟨h.1.1,X⟩),Wk⟩
 rintro _ u;rw[a8 u];clear K P u;refine S<|S<|aT (t:=114) (n:=9) (A_:=θ (wW s 0=⟨#[114,101,102,115]⟩)&&θ ((2:Int)<=(C (L.map S_):Int))) ?_ ?_
 .all_goals refine Y aA<|Y (jA aY)<|Y (fK N_)<|Y wV<|Dm ?_<;>(refine Sp 111 (λγ=>?_) λγ=>?_)<;>(try exact w_)<;>(first|refine M<|M ?_|refine O aA<|O AU ?_)<;>refine V cE ?_<;>exact Gj (h:=by(simp only[*,Zo];done))
 refine Cn ?_ ?_<;>intro d
 .have h4:wW s 0=a_ J9/\_:=A0 d;rw[b6 ⟨h4.1,X⟩];have J:=B 1 X;refine S<|aN a7<|x_ aA<|x_ ((jA aY))<|x_ ((fK N_))<|x_ aA<|x_ (by exact eZ (l:=2) (h:=C (L.map S_)) (rows':=(L.drop 2).map S_) Z aY Z (JU _) Z Z X (h_ _) (by rw[Ã];exact map_drop.symm))<|x_ ((oU uS))<|Cp [2] (λ_ h=>sa bD h)<|bF<|Kr<|aC ?_;refine cR (H':=[]) (.inr Z) Z (DD cW bD) (P_ (r:=av (bL ⟨4,wW s 1,a6,a6,0,0,a6,a6,L.drop 2,j8⟩))) ?_;exact Qq
 have h4:¬ (wW s 0=a_ J9/\_):=A1 d;rw[a8 (λh=>h4 ⟨h.1,X⟩)];refine aB<|S<|S<|aT (t:=128) (n:=9) (A_:=θ (wW s 0=⟨#[100,114,111,112]⟩)&&θ ((C (L.map S_):Int)=2)) ?_ ?_
 .all_goals refine Y aA<|Y (jA aY)<|Y (fK N_)<|Y wV<|Dm ?_<;>(refine Sp 125 (λβ=>?_) λβ=>?_)<;>(try exact w_)<;>(first|refine M<|M ?_|refine O aA<|O cI ?_)<;>refine V cE ?_<;>exact Gj (h:=by(simp only[*,Zo];done))
 refine Cn ?_ ?_<;>intro f
 .have h5:wW s 0=a_ KC/\_:=A0 f;rw[b6 ⟨h5.1,X⟩];have J:=B 1 X;refine U aA<|Y (jA aY)<|Y (fK N_)<|Y (oU uS)<|Uu (jH bD)<|Zz<|aC<|cR (H':=[]) (.inr Z) Z (DD cW bD) (P_ (r:=av (bL ⟨5,wW s 1,a6,a6,0,0,a6,a6,[],j8⟩))) ?_;exact Qq
 have h5:¬ (wW s 0=a_ KC/\_):=A1 f;rw[a8 (λh=>h5 ⟨h.1,X⟩)];refine aB<|S<|S<|aT (t:=140) (n:=9) (A_:=θ (wW s 0=⟨#[115,112,108,105,116]⟩)&&θ ((C (L.map S_):Int)=4)) ?_ ?_
 .all_goals refine Y aA<|Y (jA aY)<|Y (fK N_)<|Y wV<|Dm ?_<;>(refine Sp 137 (λh137=>?_) λh137=>?_)<;>(try exact w_)<;>(first|refine M<|M ?_|refine O aA<|O cI ?_)<;>refine V cE ?_<;>exact Gj (h:=by(simp only[*,Zo];done))
 refine Cn ?_ ?_<;>intro g
 .have h6:wW s 0=a_ C0/\_:=A0 g;rw[b6 ⟨h6.1,X⟩];have J:=B 1 X;have z:=B 2 X;have i3:=B 3 X;refine S<|aN a7<|x_ aA<|x_ ((jA aY))<|x_ ((fK N_))<|x_ aA<|x_ ((jA aY))<|x_ ((fK N_))<|x_ aA<|x_ ((jA aY))<|x_ ((fK N_))<|x_ ((oU uS))<|Cp [2] (λ_ h=>sa bD h)<|bF<|Kr<|aC<|cR (H':=[]) (.inr Z) Z (DD cW bD) (P_ (r:=av (bL ⟨6,wW s 1,wW s 3,wW s 2,0,0,a6,a6,[],j8⟩))) ?_;exact Qq
 have h6:¬ (wW s 0=a_ C0/\_):=A1 g;rw[a8 (λh=>h6 ⟨h.1,X⟩)];refine aB<|S<|S<|aT (t:=158) (n:=9) (A_:=θ (wW s 0=⟨#[106,111,105,110]⟩)&&θ ((C (L.map S_):Int)=3)) ?_ ?_
 .all_goals refine Y aA<|Y (jA aY)<|Y (fK N_)<|Y wV<|Dm ?_<;>(refine Sp 155 (λh155=>?_) λh155=>?_)<;>(try exact w_)<;>(first|refine M<|M ?_|refine O aA<|O cI ?_)<;>refine V cE ?_<;>exact Gj (h:=by(simp only[*,Zo];done))
 refine Cn ?_ ?_<;>intro j
 .have h7:wW s 0=a_ KB/\_:=A0 j;rw[b6 ⟨h7.1,X⟩];have J:=B 1 X;have z:=B 2 X;refine S<|aN a7<|x_ aA<|x_ ((jA aY))<|x_ ((fK N_))<|x_ aA<|x_ ((jA aY))<|x_ ((fK N_))<|x_ ((oU uS))<|Cp [2] (λ_ h=>sa bD h)<|bF<|Kr<|aC<|cR (H':=[]) (.inr Z) Z (DD cW bD) (P_ (r:=av (bL ⟨7,wW s 1,wW s 2,a6,0,0,a6,a6,[],j8⟩))) ?_;exact Qq
 have h7:¬ (wW s 0=a_ KB/\_):=A1 j;rw[a8 (λh=>h7 ⟨h.1,X⟩)];refine aB<|U (oU uS)<|Uu (jH bD)<|Zz<|aC<|cR (H':=[]) (.inr Z) Z (DD cW bD) (P_ (r:=av (bL PG))) ?_;exact Qq
abbrev RS:=List B_×Bool
abbrev yw(q:RS):Ob:=bx 2 99 [.pv (aK q.1),bv q.2]
abbrev yx(q:RS):aF:=[(980,yw q)]
abbrev yo:AV:=.ref 980 0 0 0
theorem yu(q)(H):∀r∈(yw q).rows,∀a∈r,Clo H a:=H_
instance(q)(H):W_ (H) ((yw q).rows):=⟨yu q H⟩
def Tx(f:FuncId)(q:RS)(v:AV)(B:RS):Prop:=∀H1:aF,H1.get 980=N (yw q)->aU φ f [yo] H1 (λr H'=>r=v/\H'=yx B++H1)
theorem Tx.of{f}{q a}{v}(h:aU φ f [yo] (yx q) (λr H'=>r=v/\H'=yx a)):Tx f q v a:=λH1 c=>by
 have B:∀(q) id,980≠id->(yx q).get id=ζ:=λq id e=>by simp[aF.get,jX e]
 refine aU.frame h (λid ob b=>?_) (dO.ofL ⟨yu q _,T_⟩) u3 (λid hi=>?_)
 .by_cases e:980=id
  .subst e;cases b;exact c
  grind
 by_cases e:980=id
 .subst e;exact .inl Z
 grind
def rN(q:RS):B_×RS:=(q.1.headD a6,(q.1.drop 1,q.2||θ (C q.1=0)))
theorem vU(q:RS)(E:C q.1<2^40):Tx 63 q (sv (rN q).1) (rN q).2:=by
 refine Tx.of ?_;have ⟨L,b⟩:=q;rcases L with _|⟨s,L⟩
 .refine Bd func63 Z ntmps63<|Sz aH<|S<|U aA<|Y pQ<|Y (bC OF)<|Y (bT aG)<|Y (fP aE)<|V (cQ.valY (oE Z Z Z) ((À Z)))<|Cn ?_ ?_<;>intro B
  .refine U aA<|Y pQ<|Y (bC OE)<|Uu (by exact cM Z sizeOf4 Z Z Z Z Z Z y0 u0 u0)<|Zz<|Sz aH<|aC ?_;refine cR (H':=(yx ([],A))) (.inr Z) Z (aI Z) P_ ?_;exact⟨Z,by simp[rN]⟩
  cases B
 have D:C ((s::L).map S_)=C L+1:=by rw[g_];rfl
 have F:C L+1<2^40:=E;refine Bd func63 Z ntmps63<|Sz aH<|S<|U aA<|Y pQ<|Y (bC OF)<|Y (bT aG)<|Y (fP aE)<|V (cQ.eqv (oE Z Z Z) (by rw[D,Á X]))<|Cn ?_ ?_<;>intro B
 .cases B
 refine aB<|U aA<|Y pQ<|Y (bC OF)<|Y (bT aG)<|Y (bQ Z aY Z Z X (l_ _) Z Z)<|Y (fK N_ (hi:=rfl))<|V aH<|U aA<|Y aA<|Y pQ<|Y (bC OF)<|Y (bT aG)<|Y (by exact eZ (l:=1) (h:=C ((s::L).map S_)) (rows':=L.map S_) Z aY Z (dV _) Z Z H_ (h_ _) (by rw[Ã];rfl))<|Y pQ<|Y (bC OF)<|Uu (by exact cM Z sizeOf22 Z Z Z Z Z Z y0 u0 u0)<|Zz<|U aA<|V aH<|aC ?_;refine cR (H':=(yx (L,b))) (.inr Z) Z (aI Z) P_ ?_;exact⟨Z,by simp[rN]⟩
def W1(l:List UInt8):Int:=l.foldl (λn b=>10*n+(b.toNat:Int) - 48) 0
def yY(s:B_):Option Int:=if 7<T s then ζ else if VB (W1 (ν (μ s)))=s then N (W1 (ν (μ s)))else ζ
def rU(q:RS):Int×RS:=((yY (rN q).1).getD 0,((rN q).2.1,(rN q).2.2||(yY (rN q).1).isNone))
theorem Pd(l)(b):W1 (l++[b])=10*W1 l+(b.toNat) - 48:=by rw[W1,Ø];rfl
theorem Pe:∀(l:List UInt8) (n:Int) (p:Nat),1<=p -> -(30*p - 30)<=n->n<=30*p - 30 -> -(30*((p*10 ^ C l:Nat)) - 30)<=l.foldl (λn b=>10*n+(b.toNat:Int) - 48) n/\l.foldl (λn b=>10*n+(b.toNat:Int) - 48) n<=30*((p*10 ^ C l:Nat)) - 30
 | [],n,p,_,a,c=>by simp_all
 |b::l,n,p,hp,a,c=>by
  have B:=b.toNat_lt;have:=Pe l (10*n+(b.toNat) - 48) (p*10) X X X;rw[j6,Nat.pow_succ,Nat.mul_comm (10 ^ C l),<-Nat.mul_assoc];exact this
theorem NZ{l}(h:C l<=7): -300000000<=W1 l/\W1 l<=300000000:=by have B:=Pe l 0 1 (h_ _) H_ H_;have D:10 ^ C l<=10 ^ 7:=Nat.pow_le_pow_right H_ h;rw[W1];omega
theorem oX(q:RS)(L:C q.1<2^40):Tx 64 q (iv (rU q).1) (rU q).2:=by
 refine Tx.of ?_;have j:=vU q L;rw[rU];have ⟨⟨s,d⟩,G⟩:∃p,p=rN q:=X_;rw[<-G]at j |-;clear G;dsimp only at j |-;have ⟨l,w⟩:∃l,l=ν (μ s):=X_;have Q:C l=T s:=F_
 have z:∀i b,l[i]?=N b->aZ s i=(b.toNat:Int):=λi b h=>by rw[aZ,<-w,h];rfl
 have k:yY s=ζ->((yY s).getD 0,(d.1,d.2||(yY s).isNone))=(0,(d.1,A)):=λh=>by simp_all
 have g:yY s=N (W1 l)->((yY s).getD 0,(d.1,d.2||(yY s).isNone))=(W1 l,d):=λh=>by simp_all
 have ⟨y_,D⟩:∃y_,y_=((yY s).getD 0,(d.1,d.2||(yY s).isNone)):=X_;rw[<-D]at k g;show aU φ _ [yo] (yx q) (λr K=>r=iv (((yY s).getD 0,(d.1,d.2||(yY s).isNone)):Int×RS).1/\K=yx (((yY s).getD 0,(d.1,d.2||(yY s).isNone)):Int×RS).2);rw[<-D];clear D;refine Bd func64 Z ntmps64<|Sz aH<|U aA<|Y (kc rV (j _ Z))<|V aH<|Sz aH<|S<|U aA<|Y (gQ U_)<|V jB<|Cn ?_ ?_<;>intro t
 .have v:7<T s:=I_ t
  rw[k (by rw[yY,b6 v])];refine U aA<|Y pQ<|Y (bC OE)<|Uu (by exact cM Z sizeOf4 Z Z Z Z Z Z F_ u0 u0)<|Zz<|Sz aH<|aC ?_;refine cR (H':=(yx (d.1,A))) (.inr Z) Z (aI Z) P_ ?_;exact Qq
 have v:¬ 7<T s:=J_ t
 refine aB<|S<|Sz aH<|aD<|bA (σ:=Nat) (λi=>([(0,yo),(3,sv s),(4,iv (W1 (l.take i))),(5,iv (i:Int))],[(980,yw d)])) (λi=>i<=C l) (λi=>C l - i) 0 (k_ _) ?_ ?_
 .exact Wk
 intro i hi;have P:=NZ (l:=l.take i) G_;by_cases x:i<C l
 .have ⟨b,I⟩:=aQ x;have y:=z i b I;have J:=b.toNat_lt;have n:W1 (l.take (i+1))=10*W1 (l.take i)+(b.toNat:Int) - 48:=by rw[eA I,Pd]
  refine S<|U aA<|Y aA<|Y (gQ U_)<|V cH<|Cn ?_ ?_<;>intro F
  .refine aB<|S<|aD<|Rd aA<|Y (pE Z Z Z (mI X X))<|Y aA<|Y aA<|Y (ky U_)<|Y (eP Z dI underlying3 Z (show ξ.wrap (aZ s i)=(b.toNat:Int)by rw[y,mI X X]))<|Y (dD Z Z Z (mI X X))<|Y (dT Z Z Z (show ξ.wrap (10*W1 (l.take i)+(b.toNat:Int) - 48)=W1 (l.take (i+1))by rw[n,mI X X]))<|V aH<|Rd aA<|Y kp<|Da ?_;exact⟨i+1,X,X,Wk⟩
  (have h:=b_ F;omega)
 have o:i=C l:=X
 subst o;rw[Ã]at P |-;have u:=λH=>vk (W1 l) X X H;refine S<|U aA<|Y aA<|Y (gQ U_)<|V cH<|Cn ?_ ?_<;>intro E
 ·(have h:=b9 E;omega)
 refine aP<|S<|U aA<|Y (kc gZ (u _))<|Y aA<|V FD<|Cn ?_ ?_<;>intro m
 .have H4:¬ VB (W1 l)=s:=by have:=m;intro e;rw[À e]at this;cases this
  rw[k (by rw[yY,a8 v,<-w,a8 H4])];refine U aA<|Y pQ<|Y (bC OE)<|Uu (by exact cM Z sizeOf4 Z Z Z Z Z Z y0 u0 u0)<|Zz<|Sz aH<|aC ?_;refine cR (H':=(yx (d.1,A))) (.inr Z) Z (aI Z) P_ ?_;exact Qq
 have B:VB (W1 l)=s:=by have:=m;rw[Bool.not_eq_false']at this;exact b9 this
 rw[g (by rw[yY,a8 v,<-w,b6 B])];refine aB<|U aA<|V aH<|aC<|cR (H':=(yx d)) (.inr Z) Z (aI Z) P_ ?_;exact Qq
end Go.Proofs.C
