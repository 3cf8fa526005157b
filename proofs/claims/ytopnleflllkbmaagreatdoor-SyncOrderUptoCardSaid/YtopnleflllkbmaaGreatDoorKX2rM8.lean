/-
  Parts of the proof. Conditions: each theorem's own.
-/
import Derived.Test.YtopnleflllkbmaaGreatDoorKX2rM7
set_option linter.unusedVariables false
set_option linter.unusedSimpArgs false
set_option maxRecDepth 100000
set_option maxHeartbeats 8000000
namespace Go.Proofs
open Tryz
theorem aEY:type_of% call114:=call114
theorem ZS:type_of% call12:=call12
theorem DV:type_of% call14:=call14
theorem Nv:type_of% call16:=call16
theorem aEV:type_of% call164:=call164
theorem aEQ:type_of% call216:=call216
theorem qT:type_of% call63:=call63
theorem qS:type_of% call64:=call64
theorem Nr:type_of% call65:=call65
end Go.Proofs
namespace Go.Proofs.YtopnleflllkbmaaGreatDoor
open Go.Proofs.Tryz
open Go.Abs Go.Lib
variable{A_:List B_}{L:List (List B_)}
theorem RG:∀(n:Nat) (l:List B_) (P:List m6),TR n l=some P->P.length<=l.length/\∀p∈P,GoodP p
 |n,[],P,h=>by
  rw[OY]at h
  simp_all
 |0,a::l,P,h=>by simp[TR]at h
 |n+1,[a],P,h=>by cases h
 |n+1,[a,b],P,h=>by cases h
 | n + 1, a :: b :: c :: r, P, h => by
  rw[TR]at h;have hb:=th b
  split at h
  ·next j =>
   rw[j0,j0,k_]at j
   split at h
   ·next k =>
    split at h
    ·next s =>
     obtain ⟨Q,m,rfl⟩:=Option.map_eq_some_iff.1 h;obtain ⟨q,o⟩:=RG n _ Q m;rw[q6]at q;refine⟨G_,fun p f=>?_⟩;rcases l7.1 f with rfl|f
     ·refine⟨j.1.1,by show (jH b).toNat<_;omega,j.2,fun _=>⟨?_,s.2.1,s.2.2⟩,fun i=>?_⟩
      ·show (r.take (jH b).toNat).length=(jH b).toNat;rw[q8];omega
      have i:16<(jH b).toNat:=i;omega
     exact o p f
    cases h
   next k =>
   obtain ⟨Q,m,rfl⟩:=Option.map_eq_some_iff.1 h;obtain ⟨q,o⟩:=RG n _ Q m;refine⟨by simp only[j8];omega,fun p f=>?_⟩;rcases l7.1 f with rfl|f
   ·refine⟨j.1.1,by show (jH b).toNat<_;omega,j.2,fun g=>?_,fun _=>rfl⟩;have g:(jH b).toNat<=16:=g;omega
   exact o p f
  cases h
theorem VT(t:B_):(yT t).length<=t.size/\∀p∈yT t,GoodP p:=by
 rw[yT]
 split
 ·next o n r c =>
  have b:=(CA _ _ _ (j6 _) c).1;rw[aT]at b;simp only[j8]at b
  split
  ·split
   ·next P e =>
    obtain ⟨h1,d⟩:=RG _ _ P e
    split
    ·exact⟨X,d⟩
    exact⟨l6 _,fun p a=>by cases a⟩
   exact⟨l6 _,fun p a=>by cases a⟩
  exact⟨l6 _,fun p a=>by cases a⟩
 simp_all
theorem Db(t):(zT t).length<=t.size:=by
 rw[zT]
 split
 ·next o i r b =>
  have a:=(CA _ _ _ (j6 _) b).1;rw[aT]at a;simp only[j8]at a
  split
  ·rw[j8];omega
  exact l6 _
 simp_all
structure RepOk(A_:List B_)(n:Nat)(r:GRep):Prop where
 sent:pH A_ r.sent
 wl:r.wants.length<=16*n
 ol:r.offers.length<=16*n
 ws:∀w∈r.wants,w.length<=19/\∀s∈w,s.size<=24
 os:∀w∈r.offers,w.length<=19/\∀s∈w,s.size<=24
theorem ux(hS:IdS A_){q:B_}(e:q.size<=17):(iQ (eE A_ q)).length<=19/\∀s∈iQ (eE A_ q),s.size<=24:=by
 have f:(eE A_ q).ids.length<=16/\∀s∈(eE A_ q).ids,s.size<=24:=by
  show (if(kA A_ q).length<=16 then kA A_ q else[]).length<=16/\∀s∈(if(kA A_ q).length<=16 then kA A_ q else[]),s.size<=24
  split
  ·exact⟨by assumption,fun s b=>by rw[kS (hS.dig s (rl.1 b).1)];decide⟩
  exact⟨l6 _,fun s b=>by cases b⟩
 have hc:(kA A_ q).length<1000000:=Nat.lt_of_le_of_lt (List.length_filter_le _ _) hS.len;refine⟨?_,fun s b=>?_⟩
 ·rw[iQ,j9];simp only[j8,List.length_nil];omega
 rw[iQ,List.mem_append]at b;rcases b with b|b
 ·simp only[l7,n_,or_false]at b;rcases b with rfl|rfl|rfl
  ·exact Nat.le_trans e E_
  ·show (aQ ((kA A_ q).length:Int)).size<=24;exact Nat.le_trans (nP X X) E_
  show (E7 ⟨(aM (kA A_ q)).toArray⟩).size<=24;rw[kS (CV _)];decide
 exact f.2 s b
theorem RepOk.step(hS:IdS A_){n:Nat}{r:GRep}(h:RepOk A_ n r){p:m6}(g:GoodP p):RepOk A_ (n+1) (wU A_ r p):=by
 have hpre:p.pre.size<=16:=by have:=g.pre;rw[zK,j0,k_]at this;exact this.1
 obtain ⟨b,f,k,e,c⟩:=h;rw[wU]
 split
 ·next q =>
  obtain ⟨q1,o,_⟩:=g.sml q;refine⟨b.fold _ _,?_,Nat.le_trans k X,fun w a=>?_,c⟩
  ·have:=List.length_filter_le (fun i=>!decide (i∈A_)) p.ids;rw[j9,h_];omega
  rcases List.mem_append.1 a with a|a
  ·exact e w a
  obtain ⟨i,l,rfl⟩:=List.mem_map.1 a;rw[List.mem_filter]at l;refine⟨(by decide:1<=19),fun s j=>?_⟩;rw[q_]at j;rw[j,kS (KM o i l.1).1];decide
 split
 ·exact⟨b,Nat.le_trans f X,Nat.le_trans k X,e,c⟩
 split
 ·refine⟨b,Nat.le_trans f X,by rw[j9];simp only[j8,List.length_nil];omega,e,fun w a=>?_⟩;rcases List.mem_append.1 a with a|a
  ·exact c w a
  rw[q_]at a;subst a;exact ux hS X
 refine⟨b,Nat.le_trans f X,by rw[j9,h_,show MT.length=16 from rfl];omega,e,fun w a=>?_⟩;rcases List.mem_append.1 a with a|a
 ·exact c w a
 obtain ⟨d,m,rfl⟩:=List.mem_map.1 a;have:=(Ty d m).1;exact ux hS (by rw[ByteArray.size_append];omega)
theorem fe:∀(L:List (List B_)),(∀w∈L,w.length<=19/\∀s∈w,s.size<=24)->L.flatten.length<=19*L.length/\∀s∈L.flatten,s.size<=24
 | [],_=>⟨j6 _,fun s a=>by cases a⟩
 |w::L,h=>by
  obtain ⟨i1,i2⟩:=fe L fun w b=>h w (List.mem_cons_of_mem _ b)
  grind
theorem SU(hl:L.length<=1000000)(h:∀w∈L,w.length<=19/\∀s∈w,s.size<=24):L.flatten.length<549755813888/\(aM (iP::aQ (L.length:Int)::L.flatten)).length<35184372088832/\(aM (pU::L.flatten)).length<35184372088832:=by
 obtain ⟨h1,c⟩:=fe L h;have d:(aQ (L.length:Int)).size<=1000000:=Nat.le_trans (nP X X) E_;refine⟨X,?_,?_⟩
 ·refine Nat.lt_of_le_of_lt (CU _ fun s a=>?_) (by rw[j8,j8];omega);rcases l7.1 a with rfl|a
  ·decide
  rcases l7.1 a with rfl|a
  ·exact d
  have:=c s a;omega
 refine Nat.lt_of_le_of_lt (CU _ fun s a=>?_) (by rw[j8];omega);rcases l7.1 a with rfl|a
 ·decide
 have:=c s a;omega
theorem fb(h:∀w∈L,w.length<=19/\∀s∈w,s.size<=24)(i n:Nat):∀w∈(L.drop i).take n,w.length<=19/\∀s∈w,s.size<=24:=fun w a=>h w (List.mem_of_mem_drop (List.mem_of_mem_take a))
theorem Rm(l:List (List B_))(hl:l.length<=1000000)(h:∀w∈l,w.length<=19/\∀s∈w,s.size<=24)(H:aF):RC 48 [.pv (sL l),.pv (.fn 49)] (.pv (aK (kz pT l))) H :=cu 49 pT l X (fun i n H=>by
  have hn:((l.drop i).take n).length<=l.length:=G_
  obtain ⟨c,h2,d⟩:=SU (L:=(l.drop i).take n) X (fb h i n);exact dF.fn call49 (Xn _ H X c d)) H
theorem Rn(l:List (List B_))(hl:l.length<=1000000)(h:∀w∈l,w.length<=19/\∀s∈w,s.size<=24)(H:aF):RC 48 [.pv (sL l),.pv (.fn 34)] (.pv (aK (kz AA l))) H :=cu 34 AA l X (fun i n H=>by
  have hn:((l.drop i).take n).length<=l.length:=G_
  obtain ⟨d,c,h3⟩:=SU (L:=(l.drop i).take n) X (fb h i n);exact dF.fn call34 (td _ H X d c)) H
theorem O1(T:List (List B_)->B_)(l:List (List B_)):(kz T l).length<=l.length:=by
 have h:∀(f:Nat) (l:List (List B_)),(sr T f l).length<=l.length:=by
  intro f
  induction f with
  |zero=>exact fun l=>l6 _
  |succ f d =>
   intro l;rw[sr]
   split
   ·exact l6 _
   next b =>
   have hp:=List.length_pos_iff.2 b;have h1:=YD T l l.length 1;have c:=d (l.drop (Bu T l l.length 1));rw[q6]at c;rw[j8];omega
 exact h _ l
theorem P1(L:List (List B_)):((L.map q7).take (0+L.length)).drop 0=L.map q7:=iH q7 L
theorem jl(o)(f_:List B_):(((f_.map (nL o)).map S_).take (0+f_.length)).drop 0=(f_.map (nL o)).map S_:=by
 have:=iH S_ (f_.map (nL o))
 rwa [h_]at this
theorem TD(L:List B_)(t:B_)(H:aF)(hl:L.length<1000000)(hs:∀t∈L,t.size<1000000000):
  RC 14 [.pv (aK L),sv t] (.tup [.pv (aK (if 20000<t.size then[]else wV L t)),iv (if 20000<t.size then 2 else 0)]) H:=by
 refine Pu ?_;have hS:=Jq hl;have hX:∀i,i∈(nH L).map Prod.fst↔i∈mE L:=fun i=>(xJ _).mem_iff.symm;have A:=Is L hl hs (H:=[]) Z;have v:=VT t;have hwl:=Db t;have hans:wV L t=([((DQ (mE L) t).sent.map (nL (nH L))),kz pT (DQ (mE L) t).wants,kz AA (DQ (mE L) t).offers]:List (List B_)).flatten:=by rw[wV];simp
 have hrep:DQ (mE L) t=(yT t).foldl (wU (mE L)) ⟨(zT t).foldl (mH (mE L)) [],[],[]⟩:=rfl;have n:=fun h H=>Cx t H h;have hof:=fun h H=>yn t H h;obtain ⟨P,hP⟩:∃P,P=yT t:=X_;obtain ⟨v_,hV⟩:∃v_,v_=zT t:=X_;obtain ⟨A_,I⟩:∃A_,A_=mE L:=X_;obtain ⟨o,ho⟩:∃o,o=nH L:=X_;rw[<-hP]at v hrep hof;rw[<-hV]at hwl hrep n;rw[<-I]at hS hX A hans hrep;rw[<-ho]at hX A hans;clear hP hV I ho;have hXl:=hS.len;have hmV:(v_.map S_).length=v_.length:=h_ _;have hmP:(P.map dA).length=P.length:=h_ _;have x:pH A_ []:=⟨List.nodup_nil,fun i D=>by cases D⟩;refine Bd func14 Z ntmps14<|C U<|O U<|S<|C V<|Y (gM U_)<|O iY<|Cn ?_ ?_<;>intro K
 ·have q:20000<t.size:=I_ K
  rw[b6 q,b6 q];refine C U<|O U<|aC<|hU (H':=[]) (.inr Z) Z (aJ Z) (aJ Z) (P_ (r:=.tup [.pv (aK []),iv 2])) Qq
 have hsm:¬ 20000<t.size:=J_ K
 rw[a8 hsm,a8 hsm];have n:=fun H=>n X H;have hof:=fun H=>hof X H;refine aA<|C V<|Y (kc call42 (A))<|Y (uY (id:=720) JE Z Z)<|Y (oO aCo)<|Y (kb 718)<|O U<|S<|S ?_;refine fZ.ent (E':=[(1,sv t),(6,.ref 718 0 0 0)]) (H':=(721,⟨0,1,9,[]⟩)::(718,bx 6 84 [.pv (aK A_),.mp 710 0,.osl 721 0 0 0,.mp 720 0,.pv .nils,.pv .nils])::(720,TS [])::(710,TS (tM o))::[]) ?_ ?_
 ·exact (Q_ 721 1 9)
 refine fZ.ent (E':=[(1,sv t),(6,.ref 718 0 0 0)]) (H':=(722,⟨0,1,22,[]⟩)::(721,⟨0,1,9,[]⟩)::(718,bx 6 84 [.pv (aK A_),.mp 710 0,.osl 721 0 0 0,.mp 720 0,.osl 722 0 0 0,.pv .nils])::(720,TS [])::(710,TS (tM o))::[]) ?_ ?_
 ·exact (Q_ 722 1 22)
 refine fZ.ent (E':=[(1,sv t),(6,.ref 718 0 0 0)]) (H':=(723,⟨0,1,22,[]⟩)::(722,⟨0,1,22,[]⟩)::(721,⟨0,1,9,[]⟩)::(718,bx 6 84 [.pv (aK A_),.mp 710 0,.osl 721 0 0 0,.mp 720 0,.osl 722 0 0 0,.osl 723 0 0 0])::(720,TS [])::(710,TS (tM o))::[]) ?_ ?_
 ·exact (Q_ 723 1 22)
 refine Rd V<|Y (kc call43 (n _))<|Y (fV aE)<|O V<|aD<|bC (σ:=Nat) (fun k=>([(1,sv t),(6,.ref 718 0 0 0),(20,.pv (aK v_)),(21,iv ((v_.map S_).length:Int)),(22,iv (k:Int))],TV A_ o ⟨(v_.take k).foldl (mH A_) [],[],[]⟩)) (fun k=>k<=v_.length) (fun k=>v_.length - k) 0 (l6 _) ?_ ?_
 ·exact L_
 intro k hk;have m:=(pH.fold (v_.take k) [] x).len;refine Sz cM<|S<|Cn ?_ ?_<;>intro E
 ·have z:k<v_.length:=I_ E
  obtain ⟨s,hk2⟩:=aU z;have D:=cC (f:=S_) hk2;have hnx:(v_.take (k+1)).foldl (mH A_) []=mH A_ ((v_.take k).foldl (mH A_) []) s:=by rw[fN hk2,List.foldl_append];rfl
  obtain ⟨f_,hSe⟩:∃f_,f_=(v_.take k).foldl (mH A_) []:=X_;rw[<-hSe]at m hnx |-;refine aA<|S<|aD<|C (iM bH)<|Y (fY N_ (hi:=D))<|O U<|Rd V<|Y V<|O (kc call44 (We (r:=⟨f_,[],[]⟩) hX (show f_.length<2^40 by omega) ⟨Z,Z,Z,Z,Z,Z,T_⟩))<|Rd gT<|O V ?_;refine⟨k+1,X,X,?_⟩;dsimp only;rw[hnx];exact L_
 have y:k=v_.length:=J_ E
 subst y;rw[List.take_length];have m:=pH.fold v_ [] x;obtain ⟨G,F⟩:∃f_,f_=v_.foldl (mH A_) []:=X_;rw[<-F]at m hrep |-;clear F;refine aP<|S<|C V<|Y (kc call45 (hof _))<|Y (fV Aw)<|O V<|aD<|bC (σ:=Nat) (fun k=>([(6,.ref 718 0 0 0),(31,.pv (CE P)),(32,iv ((P.map dA).length:Int)),(33,iv (k:Int))],TV A_ o ((P.take k).foldl (wU A_) ⟨G,[],[]⟩))) (fun k=>k<=P.length/\RepOk A_ k ((P.take k).foldl (wU A_) ⟨G,[],[]⟩)) (fun k=>P.length - k) 0 ⟨l6 _,⟨m,j6 _,j6 _,(fun w hw=>by cases hw),(fun w hw=>by cases hw)⟩⟩ ?_ ?_
 ·exact L_
 rintro k ⟨hk,B⟩;refine Sz cM<|S<|Cn ?_ ?_<;>intro hc3
 ·have z:k<P.length:=I_ hc3
  obtain ⟨p,hk2⟩:=aU z;have D:=cC (f:=dA) hk2;have hgp:=v.2 p (m7 hk2);have hnx:(P.take (k+1)).foldl (wU A_) ⟨G,[],[]⟩=wU A_ ((P.take k).foldl (wU A_) ⟨G,[],[]⟩) p:=by rw[fN hk2,List.foldl_append];rfl
  have hRn:=B.step hS hgp;obtain ⟨hr1,d_,c_,_,_⟩:=B;obtain ⟨r,hr⟩:∃r,r=(P.take k).foldl (wU A_) ⟨G,[],[]⟩:=X_;rw[<-hr]at hr1 d_ c_ hRn hnx |-;refine aA<|S<|aD<|C (iM Yd)<|Y (by exact eU Z iG dU Z D (by simp only[Zl,S_,dA];rfl) Z)<|Y (kl 10 Cd)<|Uu (iU dU)<|Zz<|Rd V<|Y (by exact aW Z iG dU Z Z Z Z (by simp only[Zl,S_,dA];rfl) Z)<|O (kc call46 (Kx (r:=r) hX hS hgp hr1 X X ⟨Z,Z,Z,Z,Z,Z,T_⟩))<|Rd gT<|O V ?_;refine⟨k+1,⟨X,by rw[hnx];exact hRn⟩,X,?_⟩;dsimp only;rw[hnx];exact L_
 have y:k=P.length:=J_ hc3
 subst y;rw[List.take_length]at B |-;rw[<-hrep]at B |-;rw[hans];clear hans hrep;obtain ⟨r,hr⟩:∃r,r=DQ A_ t:=X_;rw[<-hr]at B |-;clear hr;obtain ⟨hr1,d_,c_,hr4,hr5⟩:=B;have hrs:=hr1.len;have hpw:=fun H=>Rm r.wants X hr4 H;have hpo:=fun H=>Rn r.offers X hr5 H;have hw1:=O1 pT r.wants;have ho1:=O1 AA r.offers;have hcc:=fun H=>kO [r.sent.map (nL o),kz pT r.wants,kz AA r.offers] H (by decide:3<2^40) (by simp only[List.flatten_cons,List.flatten_nil,j9,List.length_nil,h_];omega);refine aP<|S ?_;refine fZ.ent (cJ.fzG (id:=721) (E':=[(6,.ref 718 0 0 0)]) (H':=[(718,bx 6 84 [.pv (aK A_),.mp 710 0,.pv (aK (r.sent.map (nL o))),.mp 720 0,.osl 722 r.wants.length 0 r.wants.length,.osl 723 r.offers.length 0 r.offers.length]),(710,TS (tM o)),(720,TS (sM r.sent)),(722,⟨r.wants.length,1,22,BJ r.wants⟩),(723,⟨r.offers.length,1,22,BJ r.offers⟩)]) ((r.sent.map (nL o)).map S_) Z (eC _) ?_ Z ?_ ?_) ?_
 ·intro p u;simp only[l7,n_,or_false]at u;rcases u with rfl;exact⟨_,Z,.same (by simp;rfl)⟩
 ·exact⟨⟨_,Z,Z,Z,Z,lW Z (bG (.same H_) (bG (.same (by simp;rfl)) (bG (.osl (jl o r.sent)) (bG (.same (by simp;rfl)) (bG (.same (by simp;rfl)) (bG (.same (by simp;rfl)) kT))))))⟩,⟨_,Z,Z,Z,Z,eG (dO _)⟩,⟨_,Z,Z,Z,Z,eG (dO _)⟩,⟨_,Z,Z,Z,Z,eG (tZ _)⟩,⟨_,Z,Z,Z,Z,eG (tZ _)⟩,T_⟩
 ·exact T_
 refine fZ.ent (cJ.fzG (id:=722) (E':=[(6,.ref 718 0 0 0)]) (H':=[(718,bx 6 84 [.pv (aK A_),.mp 710 0,.pv (aK (r.sent.map (nL o))),.mp 720 0,.pv (sL r.wants),.osl 723 r.offers.length 0 r.offers.length]),(710,TS (tM o)),(720,TS (sM r.sent)),(723,⟨r.offers.length,1,22,BJ r.offers⟩)]) (r.wants.map q7) Z (rT _) ?_ Z ?_ ?_) ?_
 ·intro p u;simp only[l7,n_,or_false]at u;rcases u with rfl;exact⟨_,Z,.same (by simp;rfl)⟩
 ·exact⟨⟨_,Z,Z,Z,Z,lW Z (bG (.same H_) (bG (.same (by simp;rfl)) (bG (.same H_) (bG (.same (by simp;rfl)) (bG (.osl (P1 r.wants)) (bG (.same (by simp;rfl)) kT))))))⟩,⟨_,Z,Z,Z,Z,eG (dO _)⟩,⟨_,Z,Z,Z,Z,eG (dO _)⟩,⟨_,Z,Z,Z,Z,eG (tZ _)⟩,T_⟩
 ·exact T_
 refine fZ.ent (cJ.fzG (id:=723) (E':=[(6,.ref 718 0 0 0)]) (H':=[(718,bx 6 84 [.pv (aK A_),.mp 710 0,.pv (aK (r.sent.map (nL o))),.mp 720 0,.pv (sL r.wants),.pv (sL r.offers)]),(710,TS (tM o)),(720,TS (sM r.sent))]) (r.offers.map q7) Z (rT _) ?_ Z ?_ ?_) ?_
 ·intro p u;simp only[l7,n_,or_false]at u;rcases u with rfl;exact⟨_,Z,.same (by simp;rfl)⟩
 ·exact⟨⟨_,Z,Z,Z,Z,lW Z (bG (.same H_) (bG (.same (by simp;rfl)) (bG (.same H_) (bG (.same (by simp;rfl)) (bG (.same H_) (bG (.osl (P1 r.offers)) kT))))))⟩,⟨_,Z,Z,Z,Z,eG (dO _)⟩,⟨_,Z,Z,Z,Z,eG (dO _)⟩,T_⟩
 ·exact T_
 exact aN a7<|Cq V<|Cq sC<|Cq (bD nt)<|Cq (bS aH)<|Cq V<|Cq sC<|Cq (bD ns)<|Cq (bS TK)<|Cq (kc call48 (hpw _))<|Cq V<|Cq sC<|Cq (bD SP)<|Cq (bS TK)<|Cq (kc call48 (hpo _))<|Cq (aL ([r.sent.map (nL o),kz pT r.wants,kz AA r.offers].map q7) Z GH Z Z Z Z Z (pP _))<|Cq (kc LG (hcc _))<|Cq U<|Cq U<|bJ<|Kr<|aC<|Ru<|Qq
end Go.Proofs.YtopnleflllkbmaaGreatDoor
namespace Go.Proofs.YtopnleflllkbmaaGreatDoor
open Go.Proofs.Tryz
open Go.Abs
variable{F:FuncId}
def vp(F:FuncId)(caps:List AV)(PR:List B_->Prop)(K:aF):Prop :=∀(yv:AV) (Hs:List B_->aF),(∀e_,Sub K (Hs e_))->(∀e_,(Hs e_).get 946=none)->(∀e_,dD (Hs e_))->(∀e_,Clo (Hs e_) yv) ->
  (∀e_ x,e_.length<2^40->dF Tryz.prog yv [sv x] (Hs e_) (fun r H'=>r=bv true/\H'=Hs (e_++[x]))) ->
  (∀o e_ x,e_.length<2^40->dF Tryz.prog yv [sv x] ((946,o)::Hs e_) (fun r H'=>r=bv true/\H'=(946,o)::Hs (e_++[x]))) ->
  aS Tryz.prog F (yv::caps) (Hs []) (fun r H'=>r=.tup []/\∃e_,PR e_/\H'=Hs e_)
def Nh:cY:=[(2,.ref 942 0 0 0)]
def Ny(e_:List B_)(K:aF):aF:=(945,⟨e_.length,1,9,bZ e_⟩)::(942,bx 1 22 [.osl 945 e_.length 0 e_.length])::K
theorem pn(e_)(s)(K:aF):Ny (e_++[s]) K=(945,⟨e_.length+1,1,9,bZ (e_++[s])⟩)::(942,bx 1 22 [.osl 945 (e_.length+1) 0 (e_.length+1)])::K:=by simp[Ny]
theorem jb{e_}{K:aF}{x:Go.Loop}(h:dD K):dD ((944,LR x Nh)::Ny e_ K):=by refine dD.app (D:=[(944,LR x Nh),(945,⟨e_.length,1,9,bZ e_⟩),(942,bx 1 22 _)]) ?_ h;refine DJ.spec ⟨nW (by simp[Nh];rfl),aV _ _,?_,T_⟩;intro r c a b;simp only[bx,q_]at c;subst c;rw[q_]at b;subst b;exact .osl Z
theorem pc{caps:List AV}{PR:List B_->Prop}(hE:∀(args:Array Value) (w:World),(callFunc F args).run Tryz.prog w=.ok (.enter F args) w)(K:aF)(hS:vp F caps PR K)(k2:K.get 942=none)(k4:K.get 944=none)(k5:K.get 945=none)(k6:K.get 946=none)(hc:dD K)(hcap:Clo K (.clo F caps)):
  aS Tryz.prog 129 [.pv .nils,.clo F caps] K (fun r H'=>∃e_,PR e_/\r=.osl 945 e_.length 0 e_.length/\H'=(945,⟨e_.length,1,9,bZ e_⟩)::K):=by
 have k2':aF.get ((945,⟨0,1,9,[]⟩)::K) 942=none:=k2;refine Bd func129 Z ntmps129<|S9 (t:=0) (id:=945) (sz:=1) (ty:=9) Z k5 rfl<|XB (t:=0) Z Z Z (j6 _)<|C (by exact uO (id:=942) Z Z Z Z k2')<|O U<|S<|Sz V<|aD ?_;refine fZ.ent (E':=[(2,.ref 942 0 0 0),(6,.clo F caps)]) (H':=Ny [] K) (cJ.get' ⟨⟨_,Z,Z⟩,⟨_,Z,Z⟩,T_⟩ (fun j=>mT (by decide) j))<|BW (id:=944) (p:=7) Nh Z hE Z k4 (by simp[Nh];rfl) ?_;intro x hx1 hx2 hx3 hx4 hx5 hx6;refine(hS (.yld 944 0) (fun e_=>(944,LR x Nh)::Ny e_ K) (fun e_=>?_) (fun e_=>k6) (fun e_=>jb hc) (fun e_=>by simp;rfl) ?_ ?_).mono ?_
 ·refine Sub.app (D:=[(944,LR x Nh),(945,⟨e_.length,1,9,bZ e_⟩),(942,bx 1 22 [.osl 945 e_.length 0 e_.length])]) ?_;intro p hp;simp only[l7,n_,or_false]at hp;rcases hp with rfl|rfl|rfl
  ·exact k4
  ·exact k5
  exact k2
 ·intro e_ s hM;refine .inl ⟨944,0,Z,?_⟩;rw[pn];refine LJ [(2,.ref 942 0 0 0),(5,sv s)] (Ny e_ K) hx1 hx2 hx3 hx4 hx5 hx6 Z Z Z ?_ ?_
  ·refine Rg<|Da ?_;exact E0
  refine aD<|Rd (bS aH)<|Y V<|Y (by exact aL [[.str s]] Z bH Z Z Z Z Z R_)<|Y (by exact cA (ps:=[[.str s]]) Z bH xE Z Z Z Z Z (eH _) Z R_ (m:=1) Z (by omega) Z (gO _ s))<|Uu (iU sizeOf22)<|Zz ?_;exact⟨(945,⟨e_.length+1,1,9,bZ (e_++[s])⟩)::(942,bx 1 22 [.osl 945 (e_.length+1) 0 (e_.length+1)])::K,cJ.get' T_ (fun j=>ew [_,_,_] [_,_,_,_,_] (by repeat(first|exact trivial|refine⟨Z,?_⟩)) j),Z,Z⟩
 ·intro o e_ s hM;refine dF.congrG (H1:=(944,LR x Nh)::(946,o)::Ny e_ K) (K1:=(944,LR x Nh)::(946,o)::Ny (e_++[s]) K) (.inl ⟨944,0,Z,?_⟩) (fun j=>mT (by decide) j) (fun j=>mT (by decide) j);rw[pn];refine LJ [(2,.ref 942 0 0 0),(5,sv s)] ((946,o)::Ny e_ K) hx1 hx2 hx3 hx4 hx5 hx6 Z Z Z ?_ ?_
  ·refine Rg<|Da ?_;exact E0
  refine aD<|Rd (bS aH)<|Y V<|Y (by exact aL [[.str s]] Z bH Z Z Z Z Z R_)<|Y (by exact cA (ps:=[[.str s]]) Z bH xE Z Z Z Z Z (eH _) Z R_ (m:=1) Z (by omega) Z (gO _ s))<|Uu (iU sizeOf22)<|Zz ?_;exact⟨(946,o)::(945,⟨e_.length+1,1,9,bZ (e_++[s])⟩)::(942,bx 1 22 [.osl 945 (e_.length+1) 0 (e_.length+1)])::K,cJ.get' T_ (fun j=>ew [_,_,_,_] [_,_,_,_,_,_] (by repeat(first|exact trivial|refine⟨Z,?_⟩)) j),Z,Z⟩
 rintro r H' ⟨rfl,e_,hM,rfl⟩;refine⟨x,_,Z,by rw[hx1];decide,Z,fun z=>?_⟩;rw[hx2];refine C (bS aH)<|O U<|aC ?_;refine cR (H':=((945,⟨e_.length,1,9,bZ e_⟩)::K)) (.inr Z) Z (aJ Z) (Fin.front' [(944,LR z Nh),(945,⟨e_.length,1,9,bZ e_⟩),(942,bx 1 22 [.osl 945 e_.length 0 e_.length])] [(945,⟨e_.length,1,9,bZ e_⟩)] (.osl Z) (by simp[k2,k4,aF.get]) (by intro p m;rw[List.mem_singleton]at m;subst m;rfl) (DJ.spec ⟨aV _ _,T_⟩) hc (by simp[k2,k4,aF.get])) ?_;exact⟨e_,hM,Z,Z⟩
theorem Ky{b:List AV}{d:List B_->Prop}(e:∀(args:Array Value) (w:World),(callFunc F args).run Tryz.prog w=.ok (.enter F args) w)(K:aF)(hS:vp F b d K)(k2:K.get 942=none)(h:K.get 944=none)(i:K.get 945=none)(f:K.get 946=none)(g:dD K)(c:Clo K (.clo F b)):
  aS Tryz.prog 75 [.clo F b] K (fun r H'=>∃e_,d e_/\r=.osl 945 e_.length 0 e_.length/\H'=(945,⟨e_.length,1,9,bZ e_⟩)::K):=by
 refine Bd func75 Z ntmps75<|Sz U<|Sr<|Dm<|pf Z Z (J0 Z Z call129 Z (pc e K hS k2 h i f g c)) ?_;rintro r H' ⟨e_,hM,rfl,rfl⟩;refine O U<|aC<|cR (H':=((945,⟨e_.length,1,9,bZ e_⟩)::K)) (.inr Z) Z (aJ Z) Fin.refl ?_
 grind
theorem wc(l:List B_)(K:aF)(hl:l.length<2^40)(m:K.get 951=some (bx 1 22 [.pv (aK l)])):vp 77 [.ref 951 0 0 0] (fun e_=>e_.Perm l) K:=by
 intro p f n h6 hcl hf h hy1;have o:∀e_,(f e_).get 951=some (bx 1 22 [.pv (aK l)]):=fun e_=>n e_ _ _ m;have hml:(l.map S_).length=l.length:=h_ _;refine Bd func77 Z ntmps77<|C (aX Z aH Z (o []) Z Z Z)<|Y (fV aE)<|O V<|aD<|bC (σ:=Nat) (fun i=>([(0,p),(5,.pv (aK l)),(6,iv ((l.map S_).length:Int)),(7,iv (i:Int))],f (l.take i))) (fun i=>i<=l.length) (fun i=>l.length - i) 0 (l6 _) ?_ ?_
 ·exact E0
 rintro i hi;refine Sz cM<|S<|Cn ?_ ?_<;>intro c
 ·have g:i<l.length:=I_ c
  obtain ⟨s,k⟩:=aU g;have his:=cC (f:=S_) k;have d:=h (l.take i) s (by rw[q8];omega);rw[<-fN k]at d;refine aA<|S<|aD<|C (iM bH)<|Y (fY N_)<|O U<|C V<|Y V<|Y (cZ Z Z Z (d))<|O iT<|Cn ?_ ?_<;>intro e
  ·cases e
  refine aA<|Rd gT<|O V ?_;exact⟨i+1,X,X,E0⟩
 have j:i=l.length:=J_ c
 subst j;refine aP ?_;exact oP (H':=f (l.take l.length)) (.inl Z) Z Fin.refl ⟨Z,_,by rw[List.take_length],Z⟩
theorem Pp{c:List AV}{L:List B_}(hL:L.length<2^40)(f:∀(args:Array Value) (w:World),(callFunc F args).run Tryz.prog w=.ok (.enter F args) w)(K:aF)(hS:vp F c (fun e_=>e_.Perm L) K)(k2:K.get 942=none)(g:K.get 944=none)(k:K.get 945=none)(i:K.get 946=none)(h:dD K)(d:Clo K (.clo F c)):
  aS Tryz.prog 32 [.clo F c] K (fun r H'=>r=.osl 945 L.length 0 L.length/\H'=(945,⟨L.length,1,9,eY (jF L)⟩)::K):=by
 refine Bd func32 Z ntmps32<|Sz U<|Sr<|Dm<|pf Z Z (bF Z Z call75 Z (Ky f K hS k2 g k i h d)) ?_;rintro r H' ⟨e_,b,rfl,rfl⟩;have e:e_.length<2^62:=by rw[b.length_eq];omega
 have hSo:=Eh b;have hln:e_.length=L.length:=b.length_eq;refine O U<|C V<|O (kc call76 (xb e_ Z Z e))<|C V<|O U<|aC ?_;refine cR (H':=((945,⟨e_.length,1,9,eY (jF e_)⟩)::K)) (.inr Z) Z (aJ Z) (Fin.get' (fun j=>wQ _ _ _ _ j)) ?_
 simp_all
end Go.Proofs.YtopnleflllkbmaaGreatDoor
namespace Go.Proofs.YtopnleflllkbmaaGreatDoor
open Go.Proofs.Tryz
open Go.Abs Go.Lib
variable{l:List B_}{t i:B_}
abbrev Ox(P:List B_):Ob:=bx 1 22 [.pv (aK P)]
theorem wb(P:List B_)(H:aF)(b:H.get 951=none):
  aS Tryz.prog 33 [.pv (aK P)] H (fun r H'=>r=.clo 77 [.ref 951 0 0 0]/\H'=(951,Ox P)::H):=by
 refine Bd func33 Z ntmps33<|C (uO (id:=951) Z Z Z Z b)<|O U<|C (gR Z Z)<|O U<|aC<|cR (H':=((951,Ox P)::H)) (.inr Z) Z (aJ Z) Fin.refl Qq
def Bq(i:Nat):Nat:=if i=901 then 945 else if i=945 then 901 else i
theorem Pc(i:Nat):Bq (Bq i)=i:=by
 unfold Bq
 grind
abbrev ir(g:Nat)(l:List B_):Ob:=⟨g,1,9,tJ l⟩
theorem X7(ρ:Nat->Nat)(g:Nat)(l:List B_):wG ρ (ir g l)=ir g l:=by
 show (⟨g,1,9,(tJ l).map (A9 ρ)⟩:Ob)=_;have:∀r∈tJ l,A9 ρ r=r:=by
  intro r a;obtain ⟨s,_,rfl⟩:=List.mem_map.1 a;rfl
 rw[List.map_congr_left this,List.map_id']
theorem wo(H:aF)(l):∀r∈tJ l,∀a∈r,Clo H a:=F_
instance(H:aF)(l):W_ (H) (tJ l):=⟨wo H l⟩
theorem ot(L:List B_)(g:Nat)(H:aF)(d:H.get 945=some (ir g L))(f:L.length<2^40):
  aS Tryz.prog 31 [.osl 945 g 0 L.length] H (fun r H'=>r=.osl 945 g 0 (fJ L).length/\H'=[(945,ir g (fJ L++List.replicate (L.length - (fJ L).length) a6)),(945,ir g L)]++H):=by
 have j:=W3 L g [(901,ir g L)] Z f;have c:HR Bq [(901,ir g L)]=[(945,ir g L)]:=by
  show [(Bq 901,wG Bq (ir g L))]=_;rw[X7];rfl
 have i:HR Bq [(901,ir g (fJ L++List.replicate (L.length - (fJ L).length) a6)),(901,ir g L)]=[(945,ir g (fJ L++List.replicate (L.length - (fJ L).length) a6)),(945,ir g L)]:=by
  show [(Bq 901,wG Bq (ir g (fJ L++List.replicate (L.length - (fJ L).length) a6))),(Bq 901,wG Bq (ir g L))]=_;rw[X7,X7];rfl
 have k:=aS.ren (ρ:=Bq) Pc j (args':=[.osl 945 g 0 L.length]) (r':=.osl 945 g 0 (fJ L).length) Z c Z i;refine k.frame (HN.sub ⟨d,T_⟩) (dD.of (fun p b=>by
  rw[q_]at b;subst b;exact wo _ _)) (by simp;rfl) (fun id h=>.inl ?_)
 simp only[aF.get]at h |-;cases e:Nat.beq 945 id with
 |true=>rfl
 |false=>rw[e]at h;cases h
theorem xe(l:List B_):(jF l).Pairwise (fun a b=>lY b a=false):=by
 rw[jF,List.pairwise_map];refine(List.pairwise_mergeSort (le:=fun(x y:List UInt8)=>decide (x<=y)) (fun a b c e f=>?_) (fun a b=>NI a b) (l.map qn)).imp fun {a b} d=>?_
 ·rw[k_]at *;exact List.le_trans e f
 rw[k_]at d;rw[CC,p_];exact fun h=>absurd d (List.not_le.2 h)
def GL(l:List B_):List B_:=fJ (jF l)
theorem JZ{l}{x}:x∈GL l↔x∈l:=FA.trans (xJ l).mem_iff
theorem JY(l):D5 (GL l):=KY (xe l)
theorem Hx(l):(GL l).length<=l.length:=by have a:=WM (jF l);rw[jY]at a;exact a
theorem Sa(P R):(((GL P++R).map S_).take (0+(GL P).length)).drop 0=(GL P).map S_:=F_
theorem Sb{a b}(h:∀t,t∈a↔t∈b):GL a=GL b:=P9 _ _ (JY a) (JY b) fun x=>by rw[JZ,JZ];grind
theorem VQ{l}(h:D5 l):GL l=l:=P9 _ _ (JY l) h fun x=>JZ
def zY(ids:List B_):B_:=if ids.all l9=true then kB (GL ids)else a6
def zZ(ids:List B_):Int:=if ids.all l9=true then 0 else 1
theorem Ig(t:B_)(b:t.size<2^40)(H:aF):RC 29 [sv t] (bv (oddJ t)) H:=by refine Pu ?_;exact Bd func29 Z ntmps29<|Sz U<|C V<|Y (kc LH (WI t b _))<|Y iT<|O U<|aC<|Rt<|Qq
theorem EJ(a:List B_)(H:aF)(w:a.length<1000000)(d:∀t∈a,t.size<2^40):RC 12 [.pv (aK a)] (.tup [sv (zY a),iv (zZ a)]) H:=by
 refine Pu ?_;have v:=fun H=>C9 29 a oddJ X (fun s z=>dF.fn call29 (Ig s (d s z) [])) H;rw[PJ]at v;rw[zY,zZ];refine Bd func12 Z ntmps12<|C U<|O U<|S<|C V<|O (kc LI (v _))<|Cn ?_ ?_<;>intro f
 ·have i:a.all l9=false:=not_not f;rw[a8 (by rw[i];decide),a8 (by rw[i];decide)];refine C U<|O U<|aC<|hU (H':=[]) (.inr Z) Z (aJ Z) (aJ Z) (P_ (r:=.tup [.pv (.str a6),iv 1])) Qq
 have c:a.all l9=true:=qN f;rw[b6 c,b6 c];have hS:IdS (GL a):=⟨JY a,fun x y=>List.all_eq_true.1 c x (JZ.1 y),Nat.lt_of_le_of_lt (Hx a) w⟩;have k:=Pp (L:=a) X call77 ((951,Ox a)::[]) (wc a _ X Z) Z Z Z Z (dD.ofL ⟨(by(simp;done)),T_⟩) (by simp;rfl);have q:=xB hS.srt hS.dig (p:=a6) E_ hS.len;have n:=uw q;have j:=fa q;have l:=fun H=>cp (GL a) a6 H hS E_;have g:=fun H=>M0 (eE (GL a) a6) H (by have:=q.cnt;omega) (by rw[iQ,j9]at n;omega);obtain ⟨F,e⟩:∃F,F=iQ (eE (GL a) a6):=X_;have o:=fun H=>td [F] H (by decide:1<2^40) (by simp only[List.flatten_cons,List.flatten_nil,List.append_nil];rw[e];omega) (Nat.lt_of_le_of_lt (xU _ fun s d=>by
  simp only[List.flatten_cons,List.flatten_nil,List.append_nil]at d;rcases l7.1 d with rfl|d
  ·decide
  rcases l7.1 d with rfl|d
  ·exact(by decide +kernel:(aQ ((1:Nat):Int)).size<=16)
  rw[e]at d;exact j s d) (by simp only[List.flatten_cons,List.flatten_nil,List.append_nil,j8];rw[e];omega))
 rw[kB,<-e];rw[<-e]at g;refine aA<|C V<|Y (kc call33 (wb a _ Z))<|Y (kc call32 (k))<|Y (kc call31 (by have h:=ot (jF a) a.length ((945,ir a.length (jF a))::(951,Ox a)::[]) Z (by rw[jY];omega);rw[jY]at h;exact h))<|O U<|S ?_;refine fZ.ent (cJ.fzG (id:=945) (E':=[(4,.pv (aK (GL a)))]) (H':=[]) ((GL a++List.replicate (a.length - (fJ (jF a)).length) a6).map S_) Z (by rw[List.map_map];rfl) ?_ Z T_ T_) ?_
 ·intro p u;rw[q_]at u;subst u;exact⟨_,Z,.osl (Sa a _)⟩
 exact Rd V<|Y (kc aEs (l _))<|Y (kc aEr (g _))<|Y (aL ([F].map q7) Z GH Z Z Z Z Z (pP _))<|Y (kc call34 (o _))<|Y U<|O U<|aC<|Ru<|Qq
theorem U4(a b:List B_)(H:aF)(ha:a.length<1000000000)(hb:b.length<1000000000):RC 16 [.pv (aK a),.pv (aK b)] (bv (decide (a=b))) H:=by
 refine Pu ?_;have hma:(a.map S_).length=a.length:=h_ _;have hmb:(b.map S_).length=b.length:=h_ _;refine Bd func16 Z ntmps16<|Sz U<|S<|C V<|Y (fV aE)<|Y V<|Y (fV aE)<|O AY<|Cn ?_ ?_<;>intro g
 ·have m:¬ a.length=b.length:=by have h:=g;simp at h;omega
  have p:decide (a=b)=false:=decide_eq_false fun e=>m (by rw[e]);rw[p];exact Sz U<|aC<|Rt<|Qq
 have m:a.length=b.length:=by have h:=g;simp at h;omega
 refine aA<|S<|Sz U<|aD<|bC (σ:=Nat) (fun k=>([(0,.pv (aK a)),(1,.pv (aK b)),(5,iv (k:Int))],[])) (fun k=>k<=a.length/\a.take k=b.take k) (fun k=>a.length - k) 0 ⟨l6 _,Z⟩ ?_ ?_
 ·exact Wk
 rintro k ⟨hk,s⟩;refine S<|C V<|Y V<|Y (fV aE)<|O cM<|Cn ?_ ?_<;>intro f
 ·have o:k<a.length:=I_ f
  obtain ⟨x,l⟩:=aU o;obtain ⟨y,n⟩:=aU (l:=b) (k:=k) X;have hix:=cC (f:=S_) l;have hiy:=cC (f:=S_) n;refine aA<|S<|aD<|S<|aN a7<|Cq V<|Cq V<|Cq (iM bH)<|Cq (fY N_)<|Cq V<|Cq V<|Cq (iM bH)<|Cq (fY N_)<|Cq GU<|bJ<|Kr<|Cn ?_ ?_<;>intro j
  ·have q:¬ x=y:=by have h:=j;simpa using h
   have p:decide (a=b)=false:=decide_eq_false fun e=>q (by rw[e,n]at l;cases l;rfl);rw[p];exact Sz U<|aC<|Rt<|Qq
  have u:x=y:=by have h:=j;simpa using h
  refine aA<|Rd V<|Y gT<|Da ?_;refine⟨k+1,⟨X,?_⟩,X,Wk⟩;rw[fN l,fN n,s,u]
 have i:k=a.length:=J_ f
 have t:decide (a=b)=true:=decide_eq_true (by
  rw[<-List.take_length (l:=a),<-i,s,i,m,List.take_length])
 rw[t];exact aP<|Sz U<|aC<|Rt<|Qq
def N7(l:List B_):Nat:=(l.map ByteArray.size).sum
theorem wj{k:Nat}{s:B_}(h:l[k]?=some s):N7 (l.take (k+1))=N7 (l.take k)+s.size:=by rw[fN h,N7,List.map_append,List.sum_append];rfl
theorem Pd{m:Nat}(h:∀s∈l,s.size<=m)(k:Nat):N7 (l.take k)<=l.length*m:=by
 have d:∀(l:List B_),(∀s∈l,s.size<=m)->N7 l<=l.length*m:=by
  intro l
  induction l with
  |nil=>exact fun _=>l6 _
  |cons a l c =>
   intro h;have h1:=h a List.mem_cons_self;have:=c fun s b=>h s (List.mem_cons_of_mem _ b);show a.size+N7 l<=(l.length+1)*m
   grind
 exact Nat.le_trans (d _ fun s b=>h s (List.mem_of_mem_take b)) (Nat.mul_le_mul_right _ (by rw[q8];omega))
def zn(l:List B_)(n:Int):Bool:=decide (((l.map S_).length:Int)<=n)&&decide ((N7 l:Int)<=20000)
theorem aCi(l:List B_)(n:Int)(H:aF)(j:l.length<=1048576)(i:∀s∈l,s.size<=1048576):RC 10 [.pv (aK l),iv n] (bv (zn l n)) H:=by
 refine Pu ?_;have hml:(l.map S_).length=l.length:=h_ _;have b:=Pd i;have hmul:l.length*1048576<=1048576*1048576:=Nat.mul_le_mul_right _ j;refine Bd func10 Z ntmps10<|Sz U<|Sz U<|S<|Sz U<|aD<|bC (σ:=Nat) (fun k=>([(0,.pv (aK l)),(1,iv n),(5,iv (N7 (l.take k):Int)),(6,iv (k:Int))],[])) (fun k=>k<=l.length) (fun k=>l.length - k) 0 (l6 _) ?_ ?_
 ·exact Wk
 intro k hk;have hsk:=b k;refine S<|C V<|Y V<|Y (fV aE)<|O cM<|Cn ?_ ?_<;>intro e
 ·have g:k<l.length:=I_ e
  obtain ⟨s,c⟩:=aU g;have h:=cC (f:=S_) c;have hnx:=wj c;have hsk1:=b (k+1);refine aA<|S<|aD<|Rd V<|Y V<|Y V<|Y (kx bH h)<|Y (fY N_ (hi:=h))<|Y (gM U_)<|Y (by exact eQ Z Z Z (show IntKind.i64.wrap ((N7 (l.take k):Int)+(s.size:Int))=((N7 (l.take (k+1)):Nat):Int)by rw[qD X X];omega))<|O U<|Rd V<|Y kp<|Da ?_;exact⟨k+1,X,X,Wk⟩
 have f:k=l.length:=J_ e
 subst f;rw[List.take_length];refine aP<|S<|aR (t:=4) (n:=10) (A_:=zn l n) ?_ ?_
 ·all_goals refine Y V<|Y (fV aE)<|Y V<|Y IA<|Dm ?_<;>(refine Sp 24 (fun d=>?_) fun d=>?_)<;>(try(with_reducible contradiction))<;>(first|refine M<|M ?_|refine J V<|J IA ?_)<;>refine Y cE<|Da ?_<;>exact Gj (h:=by rw[zn];(rw[d];rfl))
 exact aC<|Rt<|Qq
theorem Kj(h:zn l 40=true):l.length<=40/\∀s∈l,s.size<=20000:=by
 rw[zn,j0,k_,k_,h_]at h;refine⟨X,fun s b=>?_⟩;have c:∀(l:List B_),∀s∈l,s.size<=N7 l:=by
  intro l
  induction l with
  |nil=>simp_all
  |cons a l ih =>
   intro s b;show s.size<=a.size+N7 l
   grind
 have:=c l s b;omega
def Qd:B_:=⟨#[115,101,99,114,101,116]⟩
def r0W:j7:=⟨5,0,1,1,⟨#[109,97,105,110]⟩,[],[],a6,false,0,a6,zS,⟨a6,a6,[],[],zS⟩⟩
theorem aAG:(NS r0W Qd 1).2=0:=by kernel_rfl
theorem aAI:∃x,NS r0W Qd 1=(x,0):=by have h:=aAG;generalize NS r0W Qd 1=y at *;exact⟨y.1,Prod.ext Z h⟩
theorem aCU:mI r0W:=by have b:qA 0:=⟨E_,H_⟩;have a:qA 1:=⟨E_,E_⟩;exact⟨⟨⟨E_,E_⟩,b,a,a,b⟩,⟨E_,E_,E_⟩,⟨E_,fun t h=>by cases h⟩,⟨E_,fun t h=>by cases h⟩,Zv,E_,E_,⟨E_,fun t h=>by cases h⟩,E_,Zv⟩
theorem Fl:∃t i,yQ t=some i/\∀H,RC 27 [] (.tup [sv t,sv i]) H:=by obtain ⟨x,g⟩:=aAI;have e:=Ti g;have b:=FY (aM (jI x));rw[e.parse]at b;have c:=fun H=>aAH r0W Qd 1 aCU E_ E_ H;rw[g]at c;have d:=fun H=>XQ x b.1 b.2 H;rw[e.text]at d;have f:=fun H=>uj x b.1 b.2 H;refine⟨b7 (aM (jI x)),G9 x,by rw[yQ,cO,e.parse];rfl,fun H=>?_⟩;generalize b7 (aM (jI x))=t at *;generalize G9 x=i at *;clear g e b;refine Pu ?_;exact Bd func27 Z ntmps27<|C U<|O U<|C (oO S3)<|Y (kc call71 (c _))<|Y V<|Y dH<|Y dH<|Y (kl 2 Z2)<|Uu (iU aY)<|O U<|C (vC cF aY)<|Y (kc aEq (d _))<|Y V<|Y dH<|Y dH<|Y U<|O U<|C V<|Y (vC cF aY)<|Y (kc Ns (f _))<|Y U<|O U<|aC<|Ru<|Qq
theorem Y6{t i}(hi:yQ t=some i):mE [t]=[i]:=by
 have h:nH [t]=[(i,t)]:=by
  show lA _ t=_;rw[lA,hi];rfl
 refine P9 _ _ (BN _) (List.pairwise_singleton _ _) fun x=>?_;rw[mE,(xJ _).mem_iff,h];rfl
theorem dq{t i}(hi:yQ t=some i):nL (nH [t]) i=t:=by
 have h:nH [t]=[(i,t)]:=by
  show lA _ t=_;rw[lA,hi];rfl
 rw[h,nL,List.find?_cons,decide_eq_true rfl];rfl
theorem uk{i}(hi:l9 i=true):IdS [i]:=⟨List.pairwise_singleton _ _,(fun x hx=>by simp_all),H_⟩
theorem Y7:IdS []:=⟨List.Pairwise.nil,(fun x a=>by cases a),H_⟩
theorem rm{A_ y_:List B_}(a:IdS A_):DQ y_ (kB A_)=wU y_ ⟨[],[],[]⟩ (eE A_ a6):=by rw[DQ,HZ a.srt a.dig a.len,show zT (kB A_)=[]from ab [eE A_ a6] (fun p b=>by rw[q_]at b;subst b;exact xB a.srt a.dig E_ a.len) (show 1<1000000 by decide)];rfl
theorem aDD:wV [] (kB [])=[]:=by
 have:=uy _ [] (fun t=>Iff.rfl) H_
 rwa [ug]at this
theorem aDC(hi:yQ t=some i):wV [t] (kB [])=[t]:=by rw[wV,Y6 hi,rm Y7,wU,b6 (show (eE [] a6).cnt<=16 by decide)];show List.map _ (((kA [i] a6).filter fun i=>!decide (i∈(eE [] a6).ids)).foldl (mH [i]) [])++(kz pT _++kz AA [])=_;rw[rk,show (eE [] a6).ids=[]from rfl];simp only[List.filter_cons,List.filter_nil,n_,decide_false,Bool.not_false,if_true,List.foldl_cons,List.foldl_nil];rw[mH,b6 H_];show [nL (nH [t]) i]++_=_;rw[dq hi];rfl
theorem aDB(a:l9 i=true):wV [] (kB [i])=[pT [[i]]]:=by rw[wV,ug,rm (uk a),wU,b6 (show (eE [i] a6).cnt<=16 by show (kA [i] a6).length<=16;rw[rk];simp_all)];rfl
theorem aDA(hi:yQ t=some i):wV [t] (pT [[i]])=[t]:=by rw[wV,Y6 hi,show pT [[i]]=pT ([i].map fun s=>[s])from Z,Ft (fun s a=>by rw[q_]at a;rw[a];exact Jt hi) H_];show List.map _ (mH [i] [] i)++_=_;rw[mH,b6 H_];show [nL (nH [t]) i]++_=_;rw[dq hi];rfl
theorem aCz(hi:yQ t=some i):wV [t] (kB [i])=[]:=by rw[<-Y6 hi];exact uy [t] [t] (fun t=>Iff.rfl) (r9 Z)
theorem EK{A_}(a:IdS A_):¬ 20000<(kB A_).size:=Nat.not_lt.2 (Si (xB a.srt a.dig E_ a.len))
theorem aAY(H:aF):RC 9 [] (bv true) H:=by
 refine Pu ?_;obtain ⟨t,i,hid,j⟩:=Fl;have hJ:=Jt hid;have B:t.size<=20000:=by obtain ⟨r,_,h⟩:=VA hid;exact h
 have c:=uk hJ;have k:∀H,RC 12 [.pv (aK [])] (.tup [sv (kB []),iv 0]) H:=fun H=>by
  have:=EJ [] H E_ (fun t h=>by cases h);have e:([]:List B_).all l9=true:=rfl
  rwa [zY,zZ,b6 e,b6 e,VQ List.Pairwise.nil]at this
 have v:∀H,RC 12 [.pv (aK [i])] (.tup [sv (kB [i]),iv 0]) H:=fun H=>by
  have:=EJ [i] H (r9 Z) (fun t h=>by rw[q_]at h;rw[h,kS hJ];decide);have e:[i].all l9=true:=F_
  rwa [zY,zZ,b6 e,b6 e,VQ c.srt]at this
 have D:∀H,RC 12 [.pv (aK [⟨#[120]⟩])] (.tup [sv a6,iv 1]) H:=fun H=>by
  have:=EJ [⟨#[120]⟩] H E_ (fun t h=>by rw[q_]at h;rw[h];decide)
  rwa [zY,zZ,a8 E_,a8 E_]at this
 have hA:∀(L:List B_) (t:B_) (R:List B_),L.length<=1->(∀s∈L,s.size<=20000)->¬ 20000<t.size->wV L t=R->∀H,RC 14 [.pv (aK L),sv t] (.tup [.pv (aK R),iv 0]) H:=fun L t R c_ G E F H=>by
  have:=TD L t H X (fun t I=>by have:=G t I;omega)
  rwa [a8 E,a8 E,F]at this
 have y:∀s∈([]:List B_),s.size<=20000:=fun s h=>by cases h
 have w:∀s∈[t],s.size<=20000:=fun s h=>by rw[q_]at h;rw[h];exact B
 have l:=hA [] (kB []) _ E_ y (EK Y7) aDD;have n:=hA [t] (kB []) _ (r9 Z) w (EK Y7) (aDC hid);have d:=hA [] (kB [i]) _ E_ y (EK c) (aDB hJ);have u:=hA [t] (pT [[i]]) _ (r9 Z) w (Nat.not_lt.2 (Cy hJ)) (aDA hid);have o:=hA [t] (kB [i]) _ (r9 Z) w (EK c) (aCz hid);have d_:∀H,RC 17 [sv t] (.pv (aK [t])) H:=fun H=>by
  have:=qo t H X
  rwa [hid]at this
 have f:∀H,RC 17 [sv (kB [i])] (.pv (aK [])) H:=fun H=>by
  have c_:=EK c;have:=qo (kB [i]) H X;have e:yQ (kB [i])=none:=Tw (P:=[eE [i] a6]) (HZ c.srt c.dig c.len) H_
  rwa [e]at this
 have hS:∀H,RC 16 [.pv (aK [t]),.pv (aK [t])] (bv true) H:=fun H=>by
  have:=U4 [t] [t] H (r9 Z) (r9 Z)
  rwa [decide_eq_true rfl]at this
 obtain ⟨m0,g⟩:∃m,m=kB []:=X_;obtain ⟨m1,p⟩:∃m,m=kB [i]:=X_;obtain ⟨x,q⟩:∃m,m=pT [[i]]:=X_;rw[<-g]at k l n;rw[<-p]at v d o f;rw[<-q]at d u;clear g p q hA w y c;refine Bd func9 Z ntmps9<|Sz U<|C (kc call27 (j _))<|Y V<|Y dH<|Y dH<|Y U<|O U<|C (kc ZS (k _))<|Y V<|Y dH<|Y dH<|Y U<|O U<|C V<|Y (aL ([i].map S_) Z bH Z Z Z Z Z (fE _))<|Y (kc ZS (v _))<|Y V<|Y dH<|Y dH<|Y U<|O U<|C V<|Y (kc DV (l _))<|Y V<|Y dH<|Y dH<|Y U<|O U<|C V<|Y (aL ([t].map S_) Z bH Z Z Z Z Z (fE _))<|Y V<|Y (kc DV (n _))<|Y V<|Y dH<|Y dH<|Y U<|O U<|C V<|Y (kc DV (d _))<|Y V<|Y dH<|Y dH<|Y U<|Y U<|Zz<|C (aL ([⟨#[120]⟩].map S_) Z bH Z Z Z Z Z (fE _))<|Y (kc ZS (D _))<|Y V<|Y dH<|Y dH<|Y U<|O U<|S<|C V<|Y (fV aE)<|O (cL.val (J2 Z Z Z) ((by rfl)))<|Cn ?_ ?_<;>intro A
 ·cases A
 refine aA<|C V<|Y (aL ([t].map S_) Z bH Z Z Z Z Z (fE _))<|Y V<|Y (bU Z bH Z Z X (l8 _) (show ([x].map S_)[0]?=some (S_ x)from Z) Z)<|Y (fO Z N_ Z (show ([x].map S_)[0]?=some (S_ x)from Z) Z)<|Y (kc DV (u _))<|Y V<|Y dH<|Y dH<|Y U<|O U<|C V<|Y (aL ([t].map S_) Z bH Z Z Z Z Z (fE _))<|Y V<|Y (kc DV (o _))<|Y V<|Y dH<|Y dH<|Y U<|O U<|C V<|Y cD<|Y V<|J V<|J cD<|Y cE<|Y V<|J V<|J cD<|Y cE<|Y V<|J V<|J (fV aE)<|J cD<|Y cE<|Y V<|J V<|J cD<|Y cE<|Y V<|J V<|J V<|J (aL ([t].map S_) Z bH Z Z Z Z Z (fE _)) ?_;exact J (kc Nv (hS _))<|Y cE<|Y V<|J V<|J cD<|Y cE<|Y V<|J V<|J cD<|Y cE<|Y V<|J V<|J cD<|Y cE<|Y V<|J V<|J (fV aE)<|J cD<|Y cE<|O U<|C V<|Y V<|J V<|J cD<|Y cE<|Y V<|J V<|J V<|J (aL ([t].map S_) Z bH Z Z Z Z Z (fE _))<|J (kc Nv (hS _))<|Y cE<|Y V<|J V<|J (kc call17 (d_ _))<|J V<|J (aL ([t].map S_) Z bH Z Z Z Z Z (fE _))<|J (kc Nv (hS _))<|Y cE<|Y V<|J V<|J (kc call17 (f _))<|J (fV aE)<|J cD<|Y cE<|O U<|aC<|Rt<|Qq
def Bx(s:B_)(k:Nat):Bool:=!(decide (bA s k<48)||decide (57<bA s k))
def YA(s:B_):Nat->Int
 |0=>0
 |k+1=>10*YA s k+(bA s k - 48)
def JP(s:B_):Int:=if s.size=0 then -1 else if(List.range s.size).all (Bx s)&&decide (s.size<=7)then YA s s.size else -1
theorem rq{s}:∀ {k},(∀j,j<k->Bx s j=true)->0<=YA s k/\YA s k<10 ^ k
 |0,_=>⟨Int.le_refl 0,by show 0<1;omega⟩
 |k+1,h=>by
  obtain ⟨h1,h2⟩:=rq (k:=k) fun j hj=>h j X;have a:=h k X;rw[Bx,r8,q9,p_,p_]at a;rw[YA];omega
theorem aBq{k}(h:k<=7):(10:Int) ^ k<=10000000:=by
 have a:k=0\/k=1\/k=2\/k=3\/k=4\/k=5\/k=6\/k=7:=X
 rcases a with rfl|rfl|rfl|rfl|rfl|rfl|rfl|rfl<;>decide
theorem VD(s:B_)(H:aF)(hs:s.size<2^40):RC 163 [sv s] (iv (JP s)) H:=by
 refine Pu<|Bd func163 Z ntmps163<|Sz U<|Sz U<|S<|Sz U<|aD<|bC (σ:=Nat) (fun k=>([(0,sv s),(3,iv (YA s k)),(4,iv (k:Int))],[])) (fun k=>k<=s.size/\(∀j,j<k->Bx s j=true)/\(0<k->s.size<=7)) (fun k=>s.size - k) 0 ⟨l6 _,fun j q=>absurd q (Nat.not_lt_zero _),fun h=>absurd h (Nat.lt_irrefl 0)⟩ ?_ ?_
 ·exact Wk
 rintro k ⟨hk,t,h7⟩;refine S<|C V<|Y V<|Y (gM U_)<|O cM<|Cn ?_ ?_<;>intro d
 ·have hlt:k<s.size:=I_ d
  refine aA<|S<|aD<|S<|S<|aR (t:=25) (n:=17) (A_:=(decide (bA s k<48)||decide (57<bA s k))||decide (7<(s.size:Int))) ?_ ?_
  ·all_goals refine Y V<|Y V<|Y (ky U_)<|Y cM<|Dm ?_<;>(refine Sp 15 (fun p=>?_) fun p=>?_)<;>(first|contradiction|refine M<|M<|M<|M ?_|refine J V<|J V<|J (ky U_)<|J iY ?_)<;>refine Y cE<|Dm ?_<;>(refine Sp 21 (fun o=>?_) fun o=>?_)<;>(first|contradiction|refine M<|M<|M ?_|refine J V<|J (gM U_)<|J iY ?_)<;>refine O cE ?_<;>(exact⟨⟨_,Z,G_⟩,Z,Z,Z⟩)
  refine Cn ?_ ?_<;>intro c
  ·have hbad:Bx s k=false\/7<s.size:=by have h:=c;rw[Bx];simp only[Bool.or_eq_true,k_]at h;rcases h with h|h;exact .inl G_;exact .inr X
   have f:JP s = -1:=by
    rw[JP,a8 X,a8 ?_]
    grind
   rw[f];exact Sz U<|aC<|Rt<|Qq
  have b:Bx s k=true/\s.size<=7:=by have h:=c;rw[q9,p_]at h;exact⟨by rw[Bx,h.1];rfl,X⟩
  have hbd:=rq t;have hp:=aBq (k:=k) X;have m:=b.1;rw[Bx,r8,q9,p_,p_]at m;have n:∀j,j<k+1->Bx s j=true:=fun j q=>by
   grind
  refine aA<|Rd V<|Y (qM Z Z Z (qD X X))<|Y V<|Y V<|Y (ky U_)<|Y (dP Z Z Z (wu8 X X))<|Y (eP Z dM underlying3 Z (qD X X))<|Y gT<|O U<|Rd V<|Y gT<|Da ?_;exact⟨k+1,⟨X,n,fun _=>b.2⟩,X,Wk⟩
 have l:k=s.size:=J_ d
 subst l;refine aP<|S<|C V<|O wF<|Cn ?_ ?_<;>intro g
 ·have i:s=⟨#[]⟩:=b9 g;have f:JP s = -1:=by rw[i];rfl
  rw[f];exact Sz U<|aC<|Rt<|Qq
 have i:s.size≠0:=fun e=>b_ g (nw (List.length_eq_zero_iff.1 F_));have f:JP s=YA s s.size:=by
  rw[JP,a8 i,b6 ?_]
  grind
 rw[f];exact aA<|C V<|O U<|aC<|Rt<|Qq
def JO(s:B_):Nat->Int
 |0=>0
 |k+1=>10*JO s k+IntKind.u8.wrap (bA s k - 48)
theorem Wc(x):0<=IntKind.u8.wrap x/\IntKind.u8.wrap x<=255:=by have:IntKind.u8.wrap x=x % 256:=rfl;omega
theorem bw(s):∀k,k<=7->0<=JO s k/\JO s k+255<=255*10 ^ k
 |0,_=>⟨Int.le_refl 0,by show 0+255<=255*1;omega⟩
 |k+1,h=>by
  obtain ⟨h1,h2⟩:=bw s k X;have h3:=Wc (bA s k - 48);rw[JO];omega
theorem RB(s:B_)(H:aF)(hs:s.size<2^40):RC 215 [sv s] (iv (JO s (min s.size 7))) H:=by
 refine Pu<|Bd func215 Z ntmps215<|Sz U<|Sz U<|S<|Sz U<|aD<|bC (σ:=Nat) (fun k=>([(0,sv s),(3,iv (JO s k)),(4,iv (k:Int))],[])) (fun k=>k<=s.size/\k<=7) (fun k=>s.size - k) 0 ⟨l6 _,l6 _⟩ ?_ ?_
 ·exact Wk
 rintro k ⟨hk,d⟩;refine S<|S<|aR (t:=12) (n:=9) (A_:=decide ((k:Int)<(s.size:Int))&&decide ((k:Int)<7)) ?_ ?_
 ·all_goals refine Y V<|Y V<|Y (gM U_)<|Y cM<|Dm ?_<;>(refine Sp 9 (fun e=>?_) fun e=>?_)<;>(first|contradiction|refine M<|M ?_|refine J V<|J cM ?_)<;>refine O cE ?_<;>(exact⟨⟨_,Z,G_⟩,Z,Z,Z⟩)
 refine Cn ?_ ?_<;>intro c
 ·have b:k<s.size/\k<7:=by have h:=c;rw[j0,k_,k_]at h;omega
  obtain ⟨b,hl7⟩:=b;have hbd:=bw s k d;have hp:=aBq d;have hw:=Wc (bA s k - 48);refine aA<|S<|aD<|Rd V<|Y (qM Z Z Z (qD X X))<|Y V<|Y V<|Y (ky U_)<|Y (dP Z Z Z Z)<|Y (eP Z dM underlying3 Z (qD X X))<|Y gT<|O U<|Rd V<|Y gT<|Da ?_;exact⟨k+1,⟨X,X⟩,X,Wk⟩
 have hge:k=min s.size 7:=by have h:=c;rw[Bool.and_eq_false_iff,p_,p_]at h;omega
 refine aP<|C V<|O U<|aC<|Rt ?_
 simp_all
def jr(s:B_)(f:Nat):List B_:=(dN 32 (s.data.toList.drop f)).map b7
theorem xa(s):cN s=jr s 0:=rfl
theorem Ko{s}{f i}(hf:f<=i)(hi:i<s.size):s.data.toList.drop f=(s.data.toList.drop f).take (i - f)++oV s i::s.data.toList.drop (i+1):=by
 have hl:=aT s;have a:(s.data.toList.drop f).drop (i - f)=oV s i::s.data.toList.drop (i+1):=by
  rw[List.drop_drop,show f+(i - f)=i by omega,List.drop_eq_getElem_cons _];rw[oV,m8 X];rfl
 rw[<-a,List.take_append_drop]
theorem Yb{s}{f i}(d:f<=i)(hi:i<s.size)(e:oV s i=32)(b:32∉(s.data.toList.drop f).take (i - f)):jr s f=b7 ((s.data.toList.drop f).take (i - f))::jr s (i+1):=by have h:=Ko d hi;rw[e]at h;have c:=congrArg (fun l=>(dN 32 l).map b7) h;simp[jO b,List.map_cons]at c;exact c
theorem Pl{s}{f}(a:32∉s.data.toList.drop f):jr s f=[b7 (s.data.toList.drop f)]:=by rw[jr,rO a];rfl
theorem Ss{s}{f i}(hf:f<=i)(hi:i<s.size)(b:oV s i≠32)(hno:32∉(s.data.toList.drop f).take (i - f)):32∉(s.data.toList.drop f).take (i+1 - f):=by
 rw[show i+1 - f=(i - f)+1 by omega,List.take_add_one,];intro h;rcases List.mem_append.1 h with h|h
 ·grind
 exact b (by rw[oV];simp_all)
theorem Gd(s:B_)(H:aF)(hs:s.size<1000000000):RC 161 [sv s] (.pv (aK (cN s))) H:=by
 refine Pu ?_;have hl:=aT s;refine Bd func161 Z ntmps161<|Sz U<|Sz (by exact eF (id:=906) (sz:=1) (ty:=9) Z Z Z)<|Sz U<|S<|Sz U<|aD<|BX (fun(i f:Nat) (a:List B_)=>([(0,sv s),(3,.osl 906 a.length 0 a.length),(4,iv (f:Int)),(5,iv (i:Int))],[(906,⟨a.length,1,9,TQ a⟩)])) (fun i f a=>i<=s.size+1/\f<=i/\a.length<=i/\(i<=s.size->cN s=a++jr s f/\(32:UInt8)∉(s.data.toList.drop f).take (i - f))/\(i=s.size+1->cN s=a)) (fun i _ _=>s.size+1 - i) 0 0 [] ⟨by omega,j6 _,j6 _,fun _=>⟨xa s,by simp⟩,fun h=>by omega⟩ ?_ ?_
 ·exact(cJ.wk (Eb<|Ea<|Eb<|Eb<|T_) (Hc (lS _ _)<|T_) T_)
 rintro i f a ⟨hi,x,hol,hA,hB⟩;refine S<|C V<|Y V<|Y (gM U_)<|O IA<|Cn ?_ ?_<;>intro o
 ·have d:i<=s.size:=by have:=b9 o;omega
  obtain ⟨k,g⟩:=hA d;have j:bA s i=((oV s i).toNat:Int):=tB s i;refine aA<|S<|aD<|S<|aR (t:=21) (n:=11) (A_:=decide ((i:Int)=(s.size:Int))||decide (bA s i=32)) ?_ ?_
  ·all_goals refine Y V<|Y V<|Y (gM U_)<|Y cD<|Dm ?_<;>(refine Sp 16 (fun m=>?_) fun m=>?_)<;>(first|contradiction|refine M<|M<|M<|M ?_|refine J V<|J V<|J (by exact cV Z U_ Z Z (by omega) (by exact l8 _) (by have:=b_ m;omega) Z)<|J cD ?_)<;>refine O cE ?_<;>exact Gj (h:=by simp_all)
  refine Cn ?_ ?_<;>intro l
  ·have t:i=s.size\/bA s i=32:=by have h:=l;rw[Bool.or_eq_true,k_,k_]at h;rcases h with h|h;exact .inl (by omega);exact .inr h
   obtain ⟨w,q⟩:∃w,w=b7 ((s.data.toList.drop f).take (i - f)):=X_;have z:s.extract f i=w:=by rw[q];exact nw (by rw[gS,cO])
   have v:(a++[w]).length=a.length+1:=by simp_all
   have hN:(i+1<=s.size->cN s=(a++[w])++jr s (i+1)/\(32:UInt8)∉(s.data.toList.drop (i+1)).take (i+1 - (i+1)))/\(i+1=s.size+1->cN s=a++[w]):=by
    constructor
    ·intro h;have u:oV s i=32:=by
      rcases t with e|e
      ·omega
      rw[j]at e;exact UInt8.toNat_inj.1 (by grind)
     refine⟨?_,by simp_all⟩;rw[k,Yb x (by omega) u g,q,List.append_assoc];rfl
    intro h;have e:(s.data.toList.drop f).take (i - f)=s.data.toList.drop f:=List.take_of_length_le (by rw[q6];omega);rw[e]at g q;rw[k,Pl g,q]
   refine C V<|Y V<|Y V<|Y V<|Y (by exact bT (l:=f) (h:=i) Z U_ Z Z Z x d z)<|Y (by exact aL [S_ w] Z bH Z Z Z Z Z R_)<|Y (by exact cA (ps:=[S_ w]) Z bH xE Z Z Z Z Z (X0 _) Z R_ (m:=1) Z (by omega) Z (X2 _ w))<|O U<|Rd V<|Y gT<|O U<|Rd V<|Y gT<|Da ?_;refine⟨i+1,i+1,a++[w],⟨by omega,j6 _,by omega,hN.1,hN.2⟩,by omega,?_⟩;rw[v];exact(cJ.wk (Eb<|Ea<|Eb<|Eb<|T_) (Hc (lS _ _)<|T_) T_)
  have t:i<s.size/\bA s i≠32:=by have h:=l;rw[q9,p_,p_]at h;exact⟨by omega,h.2⟩
  have u:oV s i≠32:=fun e=>t.2 (by rw[j,e];rfl);have n:=Ss x t.1 u g;refine aA<|Rd V<|Y gT<|Da ?_;exact⟨i+1,f,a,⟨by omega,by omega,by omega,fun _=>⟨k,n⟩,fun h=>by omega⟩,by omega,(cJ.wk (Eb<|Ea<|Eb<|Eb<|T_) (Hc (lS _ _)<|T_) T_)⟩
 have d:i=s.size+1:=by have:=b_ o;omega
 have y:=hB d;rw[y];refine aP<|C V<|O U<|aC ?_;refine cR (H':=[]) (.inr Z) Z (aJ Z) (Fin.fz (id:=906) (a.map S_) Z (Fp _) (.osl (lO S_ _)) Z T_ T_) ?_;exact Qq
def Dr(b c:a_):Bool:=decide (b.text=⟨#[61]⟩)&&decide (c.kind=3)
abbrev mkT(a c:a_):l_:=⟨a.text,c.text⟩
def LA:List l_->List a_->List l_×Bool
 |acc,[]=>(acc,true)
 |acc,a::b::c::r=>if Dr b c then LA (acc++[mkT a c]) r else([],false)
 |_,[_]=>([],false)
 |_,[_,_]=>([],false)
theorem Fin.tg2{H1}{id g n}{ob}(l)(v)(b:H1.get id=some ob)(c:ob.g=g)(a:ob.rows=sH l)(d:n=l.length)(e:Clo [] v):
  Fin [] H1 (.tup [.osl id g 0 n,v]) [] (.tup [.pv (pX l),v]):=by
 subst c d;exact Fin.fz _ b (a.trans (by rw[List.map_map];rfl)) (.tup Z (bG (.osl (lO _ l)) (bG (.same e) kT))) Z T_ T_
theorem aCk{T:List a_}{i}{a b c}(k:T[i]?=some a)(d:T[i+1]?=some b)(h:T[i+2]?=some c):T.drop i=a::b::c::T.drop (i+3):=by obtain ⟨m,j⟩:=m_.1 k;obtain ⟨l,f⟩:=m_.1 d;obtain ⟨e,g⟩:=m_.1 h;rw[List.drop_eq_getElem_cons m,List.drop_eq_getElem_cons l,List.drop_eq_getElem_cons e,j,f,g]
theorem xu{acc}{T}(a:0<T.length)(h:T.length<3):LA acc T=([],false):=by
 match T with
 | []=>exact absurd a (Nat.lt_irrefl 0)
 | [_]=>rfl
 | [_,_]=>rfl
 |_::_::_::_=>rw[j8,j8,j8]at h;omega
theorem LX(T:List a_)(H:aF)(hT:T.length<1000000000):RC 216 [.pv (CD T)] (.tup [.pv (pX (LA [] T).1),bv (LA [] T).2]) H:=by
 refine Pu ?_;have hmT:(T.map K_).length=T.length:=h_ _;refine Bd func216 Z ntmps216<|C U<|O U<|Sz (eF (id:=906) (sz:=2) (ty:=270) Z Z Z)<|S<|Sz U<|aD<|fR (fun(i:Nat) (A:List l_)=>([(0,.pv (CD T)),(4,.osl 906 A.length 0 A.length),(5,iv (i:Int))],[(906,⟨A.length,2,270,sH A⟩)])) (fun i A=>i<=T.length/\A.length<=i/\LA [] T=LA A (T.drop i)) (fun i _=>T.length - i) 0 [] ⟨l6 _,j6 _,Z⟩ ?_ ?_
 ·exact L_
 rintro i A ⟨hi,hA,g⟩;refine S<|C V<|Y V<|Y (fV cP)<|O cM<|Cn ?_ ?_<;>intro l
 ·have t:i<T.length:=I_ l
  obtain ⟨a,B⟩:=aU t;have hia:=cC (f:=K_) B;by_cases E:i+2<T.length
  ·obtain ⟨b,d_⟩:=aU (l:=T) (k:=i+1) X;obtain ⟨c,z⟩:=aU E;have p:=cC (f:=K_) d_;have o:=cC (f:=K_) z;have q:=aCk B d_ z;rw[q,LA]at g;have x:¬ (decide (((T.map K_).length:Int)<=(i:Int)+2)=true):=G_
   refine aA<|S<|aD<|S<|S<|aR (t:=34) (n:=25) (A_:=!Dr b c) ?_ ?_
   ·all_goals refine Y V<|Y gT<|Y V<|Y (fV cP)<|Y B0<|Dm ?_<;>(refine Sp 17 (fun k=>?_) fun k=>?_)<;>(try contradiction)<;>refine J V<|J V<|J gT<|J (bU Z gY Z Z X (show ((i:Int)+1).toNat=i+1 by omega) p Z)<|J (EV iD)<|J (fY N_)<|J GU<|Y cE<|Dm ?_<;>(refine Sp 26 (fun j=>?_) fun j=>?_)<;>(first|contradiction|refine M<|M<|M<|M<|M<|M<|M ?_|refine J V<|J V<|J gT<|J (bU Z gY Z Z X (show ((i:Int)+2).toNat=i+2 by omega) o Z)<|J (EV uR)<|J (fY M_)<|J AY ?_)<;>refine O cE ?_<;>exact Gj (h:=by(rw[Dr];simp_all))
   refine Cn ?_ ?_<;>intro n
   ·have v:Dr b c=false:=by have h:=n;rwa [r8]at h
    rw[v,a8 H_]at g;rw[g];refine C U<|O U<|aC<|hU (H':=[]) (.inr Z) Z (aJ Z) (aJ Z) (P_ (r:=.tup [.pv (pX []),bv false])) Qq
   have v:Dr b c=true:=by have h:=n;rwa [Bool.not_eq_false']at h
   rw[v,b6 rfl]at g;have s:(A++[mkT a c]).length=A.length+1:=F_
   refine aA<|aN a7<|Cs (fun _ _=>V)<|Cs (fun _ _=>V)<|Cs (fun _ _=>V)<|Cs (fun _ _=>(iM gY))<|Cs (fun _ _=>(EV iD))<|Cs (fun _ _=>(fY N_))<|Cs (fun _ _=>V)<|Cs (fun _ _=>V)<|Cs (fun _ _=>gT)<|Cs (fun D u=>by exact bU Z gY Z Z X (show ((i:Int)+2).toNat=i+2 by omega) o Z)<|Cs (fun _ _=>(EV iD))<|Cs (fun _ _=>(fY N_))<|Cs (fun _ _=>(oO Ll))<|Cs (fun D u=>by exact aL [bP (mkT a c)] Z lI Z Z Z Z Z R_) ?_;refine iF (r:=⟨_,none,[_]⟩) (DStep.plain Z (fun D u=>by exact cA (ps:=[bP (mkT a c)]) Z lI Kn Z ((u _ Z).trans Z) Z Z Z (HK _) Z R_ (m:=1) Z X Z (HL _ (mkT a c)))) Z ?_;refine Cs (fun _ _=>U)<|bJ<|Kr<|Rd V<|Y gT<|Da ?_;refine⟨i+3,A++[mkT a c],⟨X,X,g⟩,X,?_⟩;rw[s];exact L_
  have hS:LA [] T=([],false):=by rw[g];exact xu (by rw[q6];omega) (by rw[q6];omega)
  have x:¬ (decide (((T.map K_).length:Int)<=(i:Int)+2)=false):=by rw[p_];omega
  rw[hS];refine aA<|S<|aD<|S<|S<|aR (t:=34) (n:=25) (A_:=true) ?_ ?_
  ·all_goals refine Y V<|Y gT<|Y V<|Y (fV cP)<|Y B0<|Dm ?_<;>(refine Sp 17 (fun k=>?_) fun k=>?_)<;>(try contradiction)<;>refine M<|M<|M<|M<|M<|M<|M<|Y cE<|Dm ?_<;>(refine Sp 26 (fun j=>?_) fun j=>?_)<;>(try contradiction)<;>refine M<|M<|M<|M<|M<|M<|M<|O cE ?_<;>exact Gj (h:=by rfl)
  refine Cn ?_ ?_<;>intro y
  ·refine C U<|O U<|aC<|hU (H':=[]) (.inr Z) Z (aJ Z) (aJ Z) (P_ (r:=.tup [.pv (pX []),bv false])) Qq
  cases y
 have w:i=T.length:=J_ l
 rw[w,List.drop_length,LA]at g;rw[g];refine aP<|C V<|Y U<|O U<|aC ?_;refine hU (H':=[]) (.inr Z) Z (aJ Z) (aJ Z) (Fin.tg2 A (bv true) Z Z Z Z H_) ?_;exact Qq
end Go.Proofs.YtopnleflllkbmaaGreatDoor
namespace Go.Proofs.YtopnleflllkbmaaGreatDoor
open Go.Proofs.Tryz
open Go.Abs
theorem zt(l):HC l=(l.map bL).map (·.map .pv):=by rw[List.map_map];rfl
open Go.Lib
def DX(rE:B_->b8)(s:B_):Nat->Nat×List b8
 |0=>(0,[])
 |i+1=>if decide (bA s i=10)then(i+1,(DX rE s i).2++[rE (s.extract (DX rE s i).1 i)])else DX rE s i
theorem Gi(rE)(s):∀i,(DX rE s i).1<=i/\(DX rE s i).2.length<=i
 |0=>⟨j6 _,j6 _⟩
 |i+1=>by
  obtain ⟨h1,h2⟩:=Gi rE s i;rw[DX]
  grind
theorem ca(rE)(s)(i):∀d,(DX rE s i).2.length<=(DX rE s (i+d)).2.length
 |0=>j6 _
 |d+1=>by
  refine Nat.le_trans (ca _ s i d) ?_;rw[show i+(d+1)=(i+d)+1 by omega,DX]
  grind
theorem OU{rE}{s}{Q:b8->Prop}(h:∀x,x.size<=s.size->Q (rE x)):∀i,∀e∈(DX rE s i).2,Q e
 |0,e,b=>by cases b
 | i+1,e,b=>by
  rw[DX]at b
  split at b
  ·rcases List.mem_append.1 b with c|c
   ·exact OU h i e c
   rw[q_.1 c];exact h _ (fQ s _ _)
  exact OU h i e b
def gPr(rE:B_->b8)(t:B_):List b8×Int:=if 20000<t.size then([],2)else if dW (DX rE t t.size).2=(t,0)then((DX rE t t.size).2,0)else([],5)
theorem xv{rE:B_->b8}(E:∀x:B_,x.size<=20000->UB (rE x)/\(rE x).refs.length<2^40)(c_:∀(x:B_) (H:aF),x.size<=20000->RC 109 [sv x] (av (bL (rE x))) H)(t:B_)(H:aF)(hs:t.size<1000000000):
  RC 67 [sv t] (.tup [.pv (jZ (gPr rE t).1),iv (gPr rE t).2]) H:=by
 refine Pu<|Bd func67 Z ntmps67<|C U<|O U<|S<|C V<|Y (gM U_)<|O iY<|Cn ?_ ?_<;>intro n
 ·have d_:20000<t.size:=by have:=b9 n;omega
  rw[gPr,b6 d_];refine C U<|O U<|aC<|hU (H':=[]) (.inr Z) Z (aJ Z) (aJ Z) (Fin.wk (r:=.tup [.pv (jZ []),iv 2]) (by simp) T_ T_) Qq
 have d_:¬ 20000<t.size:=by have:=b_ n;omega
 rw[gPr,a8 d_];refine aA<|Sz (by exact eF (id:=905) (sz:=15) (ty:=137) Z Z Z)<|Sz U<|S<|Sz U<|aD<|bC (σ:=Nat) (fun i=>([(0,sv t),(4,.osl 905 (DX rE t i).2.length 0 (DX rE t i).2.length),(5,iv ((DX rE t i).1:Int)),(6,iv (i:Int))],[(905,⟨(DX rE t i).2.length,15,137,HC (DX rE t i).2⟩)])) (fun i=>i<=t.size) (fun i=>t.size - i) 0 (l6 _) ?_ ?_
 ·exact(cJ.wk (Eb<|Ea<|Eb<|Eb<|T_) (Hc (xF _ _)<|T_) T_)
 rintro i N;obtain ⟨I,D⟩:=Gi rE t i;have c:DX rE t (i+1)=if decide (bA t i=10)then(i+1,(DX rE t i).2++[rE (t.extract (DX rE t i).1 i)])else DX rE t i:=rfl;have m:=ca rE t i (t.size - i);rw[show i+(t.size - i)=t.size by omega]at m;have d:=OU (rE:=rE) (s:=t) (Q:=fun e=>UB e/\e.refs.length<2^40) (fun x w=>E x (by omega)) i;rcases l:DX rE t i with⟨f,L⟩;simp only[l]at I D c m d |-;refine S<|S<|aR (t:=20) (n:=10) (A_:=decide ((i:Int)<(t.size:Int))&&decide ((L.length:Int)<=200)) ?_ ?_
 ·all_goals refine Y V<|Y V<|Y (gM U_)<|Y cM<|Dm ?_<;>(refine Sp 16 (fun y=>?_) fun y=>?_)<;>(first|contradiction|refine M<|M<|M ?_|refine J V<|J (by exact dT Z eS Z Z Z)<|J IA ?_)<;>refine O cE ?_<;>(exact⟨⟨_,Z,by grind⟩,Z,Z,Z⟩)
 refine Cn ?_ ?_<;>intro u
 ·have hlt:i<t.size:=by have h:=u;rw[j0,k_]at h;omega
  refine aA<|S<|aD<|C V<|Y V<|Y (ky U_)<|O cD<|Cn ?_ ?_<;>intro q
  ·have F:decide (bA t i=10)=true:=q;rw[F,b6 rfl]at c;obtain ⟨x,w⟩:∃x,x=t.extract f i:=X_;have z:x.size<=20000:=by rw[w];have:=fQ t f i;omega
   rw[<-w]at c;have G:(L++[rE x]).length=L.length+1:=by simp_all
   refine C V<|Y V<|Y V<|Y V<|Y (by exact bT (l:=f) (h:=i) Z U_ Z Z Z I N w.symm)<|Y (kc call109 (c_ x _ z))<|Y (by exact aL [bL (rE x)] Z ay Z Z Z Z Z R_)<|Y (by exact cA (ps:=[bL (rE x)]) Z ay Ws Z Z Z Z Z (WY _) Z R_ (m:=1) Z (by omega) Z (WZ L (rE x)))<|O U<|Rd V<|Y gT<|O U<|Rd V<|Y gT<|Da ?_;refine⟨i+1,by omega,by omega,?_⟩;rw[c];simp only;rw[G];exact(cJ.wk (Eb<|Ea<|Eb<|Eb<|T_) (Hc (xF _ _)<|T_) T_)
  have F:decide (bA t i=10)=false:=q;rw[F,a8 (by simp)]at c;refine aA<|Rd V<|Y gT<|Da ?_;refine⟨i+1,by omega,by omega,?_⟩;rw[c];exact(cJ.wk (Eb<|Ea<|Eb<|Eb<|T_) (Hc (xF _ _)<|T_) T_)
 have j:i=t.size\/200<L.length:=by have h:=u;rw[Bool.and_eq_false_iff,p_,p_]at h;omega
 have v:(if dW (DX rE t t.size).2=(t,0)then((DX rE t t.size).2,(0:Int))else([],5))=if dW L=(t,0)then(L,0)else([],5):=by
  rcases j with e|e
  ·rw[<-e,l]
  have o:∀e_:List b8,200<e_.length->¬ dW e_=(t,0):=fun e_ hM h=>by
   rw[dW]at h
   split at h
   ·next K=>have:=(NY K).2.1;omega
   have:=congrArg Prod.snd h;cases this
  rw[a8 (o _ (by omega)),a8 (o _ e)]
 rw[v];refine fZ.ent (cJ.fzG (id:=905) (E':=[(0,sv t),(4,.pv (jZ L))]) (H':=[]) (L.map bL) Z (zt L) ?_ Z ?_ ?_) ?_
 ·intro p l;simp only[l7,n_,or_false]at l;rcases l with rfl|rfl
  ·exact⟨_,Z,.same (by simp;try rfl)⟩
  exact⟨_,Z,.osl (lO bL L)⟩
 ·exact T_
 ·exact T_
 refine aP<|C V<|Y (kc aEZ (QY L _ (by omega) (fun e h=>(d e h).1) (fun e h=>(d e h).2)))<|Y V<|Y dH<|Y dH<|Y U<|O U<|S<|S<|aR (t:=48) (n:=8) (A_:=!decide ((dW L).2=0)||!decide ((dW L).1=t)) ?_ ?_
 ·all_goals refine Y V<|Y AY<|Dm ?_<;>(refine Sp 44 (fun k=>?_) fun k=>?_)<;>(first|contradiction|refine M<|M<|M ?_|refine J V<|J V<|J GU ?_)<;>refine O cE ?_<;>exact Gj (h:=by(rw[k];rfl))
 refine Cn ?_ ?_<;>intro g
 ·have A:dW L≠(t,0):=fun e=>by have h:=g;rw[e]at h;simp at h
  rw[a8 A];refine C U<|O U<|aC<|hU (H':=[]) (.inr Z) Z (aJ Z) (aJ Z) (Fin.wk (r:=.tup [.pv (jZ []),iv 5]) (by simp) T_ T_) Qq
 have B:dW L=(t,0):=by have h:=g;simp only[q9,Bool.not_eq_false',k_]at h;exact Prod.ext h.2 h.1
 rw[b6 B];exact aA<|C V<|Y U<|O U<|aC<|Ru<|Qq
theorem cw{s}{i}(hi:i<s.size)(h:mW s i=2):uX s i=true:=by rw[mW,b6 hi]at h;have a:=(Y8 s i).2.1;rw[h]at a;have e:=b9 (a.trans Z);rw[uX,decide_eq_true hi,e];rfl
theorem LO{s}{i j}(h:eT s i=(none,j))(hi:i<s.size):i<j/\j<=s.size:=by
 rw[eT]at h
 split at h
 ·grind
 split at h
 ·rename_i b;cases h;have a:=cw hi b;obtain ⟨l1,l2⟩:=FT (uX s) (s.size - i) i;rw[F5];refine⟨?_,X⟩;rcases Nat.lt_or_ge i _ with h|h
  ·exact h
  have e:yS (uX s) (s.size - i) i=i:=X
  have:=xA (uX s) (s.size - i) i X;rw[e,a]at this;cases this
 grind
theorem FL(s):∀(n m i),s.size - i<n->s.size - i<m->jV s n i=jV s m i
 |0,_,_,h,_=>by omega
 |_+1,0,_,_,h=>by omega
 | n + 1, m + 1, i, h1, h2 => by
  rw[jV,jV];by_cases b:i<s.size
  ·rw[b6 b,b6 b];cases d:eT s i with
   | mk o j =>
    cases o with
    |none =>
     have:=LO d b;exact FL s n m j X X
    |some f =>
     show f::_=f::_;congr 1;by_cases c:f.err=0
     ·have:=OO d c b;rw[b6 c,b6 c];exact FL s n m j X X
     simp_all
  grind
def GG(s:B_)(i:Nat):List a_:=jV s (s.size+1) i
theorem UT{s}{i j}(hi:i<s.size)(h:eT s i=(none,j)):GG s i=GG s j:=by have:=LO h hi;rw[GG,jV,b6 hi,h];exact FL s _ _ j X X
theorem wg{s}{i j}{f}(hi:i<s.size)(h:eT s i=(some f,j))(a:f.err=0):GG s i=f::GG s j:=by have:=OO h a hi;rw[GG,jV,b6 hi,h];show f::(if f.err=0 then _ else _)=_;rw[b6 a];congr 1;exact FL s _ _ j X X
theorem Do{s}{i j}{f}(hi:i<s.size)(h:eT s i=(some f,j))(he:f.err≠0):GG s i=[f]:=by
 rw[GG,jV]
 simp_all
theorem Dp{s}{i}(hi:¬ i<s.size):GG s i=[]:=by rw[GG,jV,a8 hi]
theorem uq(s:B_)(e:Nat)(H:aF)(hs:s.size<2^40)(d_:e<=s.size):aS Tryz.prog 218 [sv s,iv (e:Int)] H (fun r H'=>∃j,r=iv ((j:Nat):Int)/\e<=j/\j<=s.size/\GG s e=GG s j/\(j<s.size->mW s j≠1/\mW s j≠2)/\H'=H):=by
 refine Bd func218 Z ntmps218<|Sz U<|S<|aD<|bC (σ:=Nat) (fun i=>([(0,sv s),(1,iv (i:Int))],H)) (fun i=>e<=i/\i<=s.size/\GG s e=GG s i) (fun i=>s.size - i) e ⟨j6 _,d_,Z⟩ ?_ ?_
 ·exact E0
 rintro i ⟨hge,B,d⟩;refine S<|C V<|Y V<|Y (gM U_)<|O cM<|Cn ?_ ?_<;>intro o
 ·have b:i<s.size:=I_ o
  have x:mW s i=yG (bA s i):=by rw[mW,b6 b]
  obtain ⟨z,y,_⟩:=Y8 s i;rw[<-x]at z y;refine aA<|aD<|C V<|Y V<|Y (ky U_)<|O (bF Z Z aEM Z (Jz ⟨#[32,9,10]⟩ (bA s i) _ E_))<|Cn ?_ ?_<;>intro t
  ·have u:mW s i=1:=b9 (z.symm.trans t);have c:eT s i=(none,i+1):=by rw[eT,b6 u]
   refine Rd V<|Y gT<|Da ?_;exact⟨i+1,⟨X,b,d.trans (UT b c)⟩,X,E0⟩
  have u:mW s i≠1:=b_ (z.symm.trans t);refine C V<|Y V<|Y (ky U_)<|O cD<|Cn ?_ ?_<;>intro q
  ·have v:mW s i=2:=b9 (y.symm.trans q);have c:eT s i=(none,F5 s i):=by rw[eT,a8 u,b6 v]
   refine aD<|bC (σ:=Nat) (fun k=>([(0,sv s),(1,iv (k:Int))],H)) (fun k=>i<=k/\k<=s.size/\∀j,i<=j->j<k->uX s j=true) (fun k=>s.size - k) i ⟨j6 _,B,fun j u v=>by omega⟩ ?_ ?_
   ·exact E0
   rintro k ⟨w,D,p⟩;refine S<|S<|aR (t:=28) (n:=11) (A_:=decide ((k:Int)<(s.size:Int))&&!decide (bA s k=10)) ?_ ?_
   ·all_goals refine Y V<|Y V<|Y (gM U_)<|Y cM<|Dm ?_<;>(refine Sp 23 (fun g=>?_) fun g=>?_)<;>(first|contradiction|refine M<|M<|M<|M ?_|refine J V<|J V<|J (cV Z U_ Z Z X (l8 _) (I_ g) Z)<|J AY ?_)<;>refine O cE ?_<;>(exact⟨⟨_,Z,G_⟩,Z,Z,Z⟩)
   refine Cn ?_ ?_<;>intro f
   ·have h:=f;rw[j0,k_]at h;have l:k<s.size:=X
    have hp:uX s k=true:=by rw[uX,decide_eq_true l,Bool.true_and];grind
    refine aA<|aD<|Rd V<|Y gT<|Da ?_;refine⟨k+1,⟨X,l,fun j u v=>?_⟩,X,E0⟩
    grind
   have n:F5 s i=k:=by
    refine zA (uX s) w X p ?_;rcases Nat.lt_or_ge k s.size with h|h
    ·left;have A:=f;rw[decide_eq_true (show (k:Int)<(s.size:Int)by omega),Bool.true_and]at A;rw[uX,A,Bool.and_false]
    omega
   rw[n]at c;have hgo:=LO c b;refine aP ?_;exact⟨k,⟨X,D,d.trans (UT b c)⟩,X,E0⟩
  have v:mW s i≠2:=b_ (y.symm.trans q);refine C V<|O U<|aC<|cR (H':=H) (.inr Z) Z (aJ Z) Fin.refl ?_
  grind
 have m:i=s.size:=J_ o
 subst m;refine aP<|C V<|O U<|aC<|cR (H':=H) (.inr Z) Z (aJ Z) Fin.refl ?_
 grind
def Xj:a_:=⟨0,a6,0,0⟩
def Il(s:B_)(i:Nat):a_×Int×Int:=match eT s i with
 |(some f,j)=>if f.err=0 then(f,(j:Int),0)else(Xj,0,f.err)
 |(none,_)=>(Xj,0,0)
theorem J9{s}{i j}{f}(h:eT s i=(some f,j))(he:f.err=0):Il s i=(f,(j:Int),0):=by
 rw[Il]
 simp_all
theorem RY{s}{i j}{f}(h:eT s i=(some f,j))(he:f.err≠0):Il s i=(Xj,0,f.err):=by
 rw[Il]
 simp_all
theorem VO{s}{k}(h:k<s.size):uW s k=Bv (bA s k):=by
 obtain ⟨c1,c2,c3⟩:=S1 s k;have a:mW s k=yG (bA s k):=by rw[mW,b6 h]
 rw[uW,a,c1,c2,c3];rfl
theorem cx{s}{k}(h:k<s.size):N9 s k=xY (bA s k):=by
 obtain ⟨c1,c2,c3⟩:=S1 s k;have a:mW s k=yG (bA s k):=by rw[mW,b6 h]
 rw[N9,a,c2]
def aBm(p:a_×Int×Int):AV:=.tup [av (K_ p.1),iv p.2.1,iv p.2.2]
theorem Ph{s}{i:Nat}{H}(b:s.size<2^40)(hi:i<s.size)(a:nX (s.data.toList.drop (i+1))=none):RC 263 [sv s,iv i] (.tup [sv a6,iv 0,bv false]) H:=by
 have:=qv s i H b hi
 rwa [a]at this
theorem Pg{s}{i:Nat}{H}{p}(b:s.size<2^40)(hi:i<s.size)(c:nX (s.data.toList.drop (i+1))=some p):RC 263 [sv s,iv i] (.tup [sv ⟨p.1.toArray⟩,iv ((i+(p.2+1):Nat)),bv true]) H:=by
 have:=qv s i H b hi;rw[c]at this;have e:xG (some p) [] (i+1)=(⟨p.1.toArray⟩,((i+(p.2+1)):Int)):=by
  show ((⟨([]++p.1).toArray⟩:B_),((i+1+p.2):Int))=_
  grind
 rw[e]at this;exact this
theorem Ip(s:B_)(i:Nat)(H:aF)(hs:s.size<2^40)(hi:i<s.size)(hn1:mW s i≠1)(hn2:mW s i≠2):RC 219 [sv s,iv (i:Int)] (aBm (Il s i)) H:=by
 refine aS.pure ?_ (by simp[aBm]) H;have v_:mW s i=yG (bA s i):=by rw[mW,b6 hi]
 obtain ⟨c1,c2,c3⟩:=S1 s i;obtain ⟨q1,q2,T,z_,q5⟩:=Y8 s i;rw[<-v_]at c1 c2 c3 q1 q2 T z_;refine Bd func219 Z ntmps219<|C (kl 4 pq)<|Y U<|O U<|C V<|Y gT<|O U<|C V<|Y V<|Y (cV Z U_ Z Z X (by rfl) hi Z)<|O U<|S<|C V<|O (kc aET (LY (bA s i) _))<|Cn ?_ ?_<;>intro E
 ·have h3:mW s i=3:=b9 (c1.trans E);have hst:eT s i=(some (AF s i (B2 s i)),B2 s i):=by rw[eT,a8 hn1,a8 hn2,b6 h3]
  refine S<|aD<|bC (σ:=Nat) (fun k=>([(0,sv s),(1,iv (i:Int)),(4,.ref 4 0 0 0),(7,iv (k:Int))],[(4,bx 3 189 [iv 0,sv a6,iv 0])])) (fun k=>i<k/\k<=s.size/\∀j,i<=j->j<k->uW s j=true) (fun k=>s.size - k) (i+1) ⟨Nat.lt_succ_self _,hi,fun j o_ f_=>?_⟩ ?_ ?_
  ·obtain rfl:j=i:=X
   rw[uW,h3];rfl
  ·exact Wk
  rintro k ⟨hik,hk,hall⟩;refine S<|S<|aR (t:=28) (n:=11) (A_:=decide ((k:Int)<(s.size:Int))&&Bv (bA s k)) ?_ ?_
  ·all_goals refine Y V<|Y V<|Y (gM U_)<|Y cM<|Dm ?_<;>(refine Sp 23 (fun D=>?_) fun D=>?_)<;>(first|contradiction|refine M<|M<|M<|M ?_|refine J V<|J V<|J (cV Z U_ Z Z X (l8 _) (I_ D) Z)<|J (kc aEU (X9 (bA s k) _)) ?_)<;>refine O cE ?_<;>(exact⟨⟨_,Z,G_⟩,Z,Z,Z⟩)
  refine Cn ?_ ?_<;>intro L
  ·have h:=L;rw[j0,k_]at h;have hkl:k<s.size:=X
   have hp:uW s k=true:=by rw[VO hkl];grind
   refine aA<|aD<|Rd V<|Y gT<|Da ?_;refine⟨k+1,⟨X,hkl,fun j o_ f_=>?_⟩,X,Wk⟩
   grind
  have hend:B2 s i=k:=by
   refine zA (uW s) (Nat.le_of_lt hik) X hall ?_;rcases Nat.lt_or_ge k s.size with h|h
   ·left;have N:=L;rw[decide_eq_true (show (k:Int)<(s.size:Int)by omega),Bool.true_and]at N;rw[VO h,N]
   omega
  rw[hend]at hst;have hsub:IntKind.i64.wrap ((k:Int) - (i:Int))=((k - i:Nat):Int):=by rw[IntKind.wrap_i64];omega
  refine aP<|S<|C V<|Y V<|Y (dP Z Z Z hsub)<|O iY<|Cn ?_ ?_<;>intro I
  ·have h24:24<k - i:=I_ I
   have hb:=RY hst (by show (if 24<k - i then(2:Int)else 0)≠0;omega);have A_:(AF s i k).err=2:=b6 h24;rw[A_]at hb;rw[hb];refine C (oO HF)<|Uu (iU sizeOf189)<|Y U<|O U<|aC<|lX (H':=[]) (.inr Z) Z (CF iR sizeOf189) (aJ Z) (aJ Z) (P_ (r:=.tup [.agg [iv 0,sv a6,iv 0],iv 0,iv 2])) Qq
  have h24:¬ 24<k - i:=J_ I
  have A_:(AF s i k).err=0:=a8 h24;rw[J9 hst A_];refine aA<|C V<|Y V<|Y V<|Y (bT (l:=i) (h:=k) Z U_ Z Z Z X X Z)<|Y V<|Y (oO HF)<|Y V<|Uu (iU sizeOf189)<|Y U<|O U<|aC<|lX (H':=[]) (.inr Z) Z (CF iR sizeOf189) (aJ Z) (aJ Z) (P_ (r:=.tup [.agg [iv 1,sv (s.extract i k),iv (i:Int)],iv ((k:Nat):Int),iv 0])) Qq
 have h3:mW s i≠3:=b_ (c1.trans E);refine aA<|S<|C V<|O (kc aEO (RE (bA s i) _))<|Cn ?_ ?_<;>intro hc4
 ·have h4:mW s i=4:=b9 (c2.trans hc4);have hst:eT s i=(some (HA s i (IM s i)),IM s i):=by rw[eT,a8 hn1,a8 hn2,a8 h3,b6 h4]
  refine S<|aD<|bC (σ:=Nat) (fun k=>([(0,sv s),(1,iv (i:Int)),(4,.ref 4 0 0 0),(7,iv (k:Int))],[(4,bx 3 189 [iv 0,sv a6,iv 0])])) (fun k=>i<k/\k<=s.size/\∀j,i<=j->j<k->N9 s j=true) (fun k=>s.size - k) (i+1) ⟨Nat.lt_succ_self _,hi,fun j o_ f_=>?_⟩ ?_ ?_
  ·obtain rfl:j=i:=X
   rw[N9,h4];rfl
  ·exact Wk
  rintro k ⟨hik,hk,hall⟩;refine S<|S<|aR (t:=54) (n:=11) (A_:=decide ((k:Int)<(s.size:Int))&&xY (bA s k)) ?_ ?_
  ·all_goals refine Y V<|Y V<|Y (gM U_)<|Y cM<|Dm ?_<;>(refine Sp 49 (fun h49=>?_) fun h49=>?_)<;>(first|contradiction|refine M<|M<|M<|M ?_|refine J V<|J V<|J (cV Z U_ Z Z X (l8 _) (I_ h49) Z)<|J (kc aEO (RE (bA s k) _)) ?_)<;>refine O cE ?_<;>exact Gj (h:=by(rw[h49];rfl))
  refine Cn ?_ ?_<;>intro K
  ·have h:=K;rw[j0,k_]at h;have hkl:k<s.size:=X
   have hp:N9 s k=true:=by rw[cx hkl];exact h.2
   refine aA<|aD<|Rd V<|Y gT<|Da ?_;refine⟨k+1,⟨X,hkl,fun j o_ f_=>?_⟩,X,Wk⟩;rcases Nat.lt_or_ge j k with h|h
   ·exact hall j o_ h
   obtain rfl:j=k:=X
   exact hp
  have hstop:k<s.size->xY (bA s k)=false:=fun h=>by
   have N:=K
   rwa [decide_eq_true (show (k:Int)<(s.size:Int)by omega),Bool.true_and]at N
  have hend:IM s i=k:=by
   refine zA (N9 s) (Nat.le_of_lt hik) X hall ?_;rcases Nat.lt_or_ge k s.size with h|h
   ·left;rw[cx h,hstop h]
   right;omega
  rw[hend]at hst;have hsub:IntKind.i64.wrap ((k:Int) - (i:Int))=((k - i:Nat):Int):=by rw[IntKind.wrap_i64];omega
  have hw:(decide ((k:Int)<(s.size:Int))&&Bv (bA s k))=(decide (mW s k=3)||decide (mW s k=5)):=by
   rcases Nat.lt_or_ge k s.size with h|h
   ·obtain ⟨d1,d2,d3⟩:=S1 s k;rw[mW,b6 h,d1,d3,Bv,hstop h,Bool.or_false,decide_eq_true (show (k:Int)<(s.size:Int)by omega),Bool.true_and]
   rw[mW,a8 X,decide_eq_false (show ¬ (k:Int)<(s.size:Int)by omega)];rfl
  refine aP<|S<|S<|aR (t:=72) (n:=18) (A_:=decide (7<((k - i:Nat):Int))||(decide ((k:Int)<(s.size:Int))&&Bv (bA s k))) ?_ ?_
  ·all_goals refine Y V<|Y V<|Y (dP Z Z Z hsub)<|Y iY<|Dm ?_<;>(refine Sp 61 (fun h61=>?_) fun h61=>?_)<;>(first|contradiction|refine M<|M<|M<|M<|M ?_|refine J V<|J V<|J (gM U_)<|J cM<|J V ?_)<;>(first|refine Sp 66 (fun h66=>?_) fun h66=>?_|refine kI (t:=66) Z ?_)<;>(first|contradiction|refine M ?_|refine Fu ?_|refine J V ?_)<;>(first|refine M ?_|refine Fu ?_|refine J V ?_)<;>(first|refine M ?_|refine Fu ?_|refine J (cV Z U_ Z Z X (l8 _) (I_ h66) Z) ?_)<;>(first|refine M ?_|refine Fu ?_|refine J (kc aEU (X9 (bA s k) _)) ?_)<;>(first|refine M ?_|refine J cE ?_)<;>refine O cE ?_<;>exact Gj (h:=by first|(rw[h61];rfl)|(rw[h61,h66];rfl))
  refine Cn ?_ ?_<;>intro F
  ·have e_:(HA s i k).err=4:=by
    have h:=F;rw[hw,<-Bool.or_assoc]at h;have R:decide (7<((k - i:Nat):Int))=decide (7<k - i):=by rw[Bool.eq_iff_iff,k_,k_];omega
    rw[R]at h;exact b6 h
   have hb:=RY hst (by rw[e_];decide);rw[e_]at hb;rw[hb];refine C (oO HF)<|Uu (iU sizeOf189)<|Y U<|O U<|aC<|lX (H':=[]) (.inr Z) Z (CF iR sizeOf189) (aJ Z) (aJ Z) (P_ (r:=.tup [.agg [iv 0,sv a6,iv 0],iv 0,iv 4])) Qq
  have e_:(HA s i k).err=0:=by
   have h:=F;rw[hw,<-Bool.or_assoc]at h;have R:decide (7<((k - i:Nat):Int))=decide (7<k - i):=by rw[Bool.eq_iff_iff,k_,k_];omega
   rw[R]at h;exact a8 (by rw[h];simp)
  rw[J9 hst e_];refine aA<|C V<|Y V<|Y V<|Y (bT (l:=i) (h:=k) Z U_ Z Z Z X X Z)<|Y V<|Y (oO HF)<|Y V<|Uu (iU sizeOf189)<|Y U<|O U<|aC<|lX (H':=[]) (.inr Z) Z (CF iR sizeOf189) (aJ Z) (aJ Z) (P_ (r:=.tup [.agg [iv 2,sv (s.extract i k),iv (i:Int)],iv ((k:Nat):Int),iv 0])) Qq
 have h4:mW s i≠4:=b_ (c2.trans hc4);refine aA<|S<|C V<|O cD<|Cn ?_ ?_<;>intro G
 ·have P:mW s i=7:=b9 (z_.symm.trans G);have hst:eT s i=(some (ER s i).1,(ER s i).2):=by rw[eT,a8 hn1,a8 hn2,a8 h3,a8 h4,b6 P]
  have c_:(s.extract i s.size).data.toList.drop 1=s.data.toList.drop (i+1):=by rw[rW,List.drop_drop]
  cases Q:nX (s.data.toList.drop (i+1))with
  |none =>
   have hun:AG (s.extract i s.size)=(a6,0):=by rw[AG,c_,Q]
   have u_:ER s i=(vB i,i):=by rw[ER,hun];rfl
   rw[u_]at hst;have hb:=RY hst (by show (3:Int)≠0;decide);rw[hb];refine C V<|Y V<|Y (kc call263 (Ph hs hi Q))<|Y V<|Y dH<|Y dH<|Y dH<|Y U<|Y U<|O U<|S<|C V<|O iT<|Cn ?_ ?_<;>intro W
   ·refine C (oO HF)<|Uu (iU sizeOf189)<|Y U<|O U<|aC<|lX (H':=[]) (.inr Z) Z (CF iR sizeOf189) (aJ Z) (aJ Z) (P_ (r:=.tup [.agg [iv 0,sv a6,iv 0],iv 0,iv 3])) Qq
   ((cases W;done))
  | some p =>
   have hun:AG (s.extract i s.size)=(⟨p.1.toArray⟩,((p.2+1:Nat):Int)):=by rw[AG,c_,Q]
   have u_:ER s i=(⟨3,⟨p.1.toArray⟩,i,0⟩,i+(p.2+1)):=by
    rw[ER,hun,b6 (by show (0:Int)<((_:Nat):Int);omega)];rfl
   rw[u_]at hst;rw[J9 hst rfl];refine C V<|Y V<|Y (kc call263 (Pg hs hi Q))<|Y V<|Y dH<|Y dH<|Y dH<|Y U<|Y U<|O U<|S<|C V<|O iT<|Cn ?_ ?_<;>intro y_
   ·((cases y_;done))
   refine aA<|C V<|Y V<|Y (oO HF)<|Y V<|Uu (iU sizeOf189)<|Y U<|O U<|aC<|lX (H':=[]) (.inr Z) Z (CF iR sizeOf189) (aJ Z) (aJ Z) P_ Qq
 have P:mW s i≠7:=b_ (z_.symm.trans G);refine aA<|S<|C V<|Y (bF Z Z aEM Z (Jz ⟨#[59,44,46,58,40,41,123,125,91,93,61,60,62,47,45]⟩ (bA s i) _ E_))<|O iT<|Cn ?_ ?_<;>intro hc10
 ·have h6:mW s i≠6:=by
   have h:(!SG ⟨#[59,44,46,58,40,41,123,125,91,93,61,60,62,47,45]⟩ (bA s i))=true:=hc10;rw[T]at h
   simpa using h
  have hst:eT s i=(some (vB i),i):=by rw[eT,a8 hn1,a8 hn2,a8 h3,a8 h4,a8 P,a8 h6]
  have hb:=RY hst (by show (3:Int)≠0;decide);rw[hb];refine C (oO HF)<|Uu (iU sizeOf189)<|Y U<|O U<|aC<|lX (H':=[]) (.inr Z) Z (CF iR sizeOf189) (aJ Z) (aJ Z) (P_ (r:=.tup [.agg [iv 0,sv a6,iv 0],iv 0,iv 3])) Qq
 have h6:mW s i=6:=by
  have h:(!SG ⟨#[59,44,46,58,40,41,123,125,91,93,61,60,62,47,45]⟩ (bA s i))=false:=hc10;rw[T]at h
  simpa using h
 have hst:eT s i=(some ⟨4,s.extract i (i+1),i,0⟩,i+1):=by rw[eT,a8 hn1,a8 hn2,a8 h3,a8 h4,a8 P,b6 h6]
 rw[J9 hst rfl];refine aA<|C V<|Y V<|Y V<|Y (bT (l:=i) (h:=(i+1)) Z U_ Z Z Z X X Z)<|Y V<|Y (oO HF)<|Y V<|Uu (iU sizeOf189)<|Y U<|O U<|aC<|lX (H':=[]) (.inr Z) Z (CF iR sizeOf189) (aJ Z) (aJ Z) (P_ (r:=.tup [.agg [iv 4,sv (s.extract i (i+1)),iv (i:Int)],iv ((i+1:Nat):Int),iv 0])) Qq
theorem Dy{s}{i j}{f}(h:eT s i=(some f,j)):f.pos=i:=by
 rw[eT]at h
 split at h
 ·cases h
 split at h
 ·cases h
 split at h
 ·cases h;rfl
 split at h
 ·cases h;rfl
 split at h
 ·cases h;rw[ER]
  split<;>rfl
 split at h<;>(cases h;rfl)
theorem Pj{s}{i}(b:mW s i≠1)(a:mW s i≠2):∃f j,eT s i=(some f,j):=by
 rw[eT,a8 b,a8 a]
 split
 ·simp_all
 split
 ·simp_all
 split
 ·simp_all
 split<;>exact⟨_,_,Z⟩
theorem tl(s:B_)(H:aF)(D:s.size<2^40):RC 164 [sv s] (.tup [.pv (CD (fA s).1),iv (fA s).2.1,iv (fA s).2.2]) H:=by
 refine Pu<|Bd func164 Z ntmps164<|C U<|Y U<|O U<|S<|C V<|Y (gM U_)<|O iY<|Cn ?_ ?_<;>intro p
 ·have e:fA s=([],2,-1):=by rw[fA,b6 (I_ p)]
  rw[e];refine C U<|Y U<|O U<|aC<|lX (H':=[]) (.inr Z) Z (aJ Z) (aJ Z) (aJ Z) (Fin.wk H_ T_ T_) Qq
 have v:¬ 20000<s.size:=by have:=b_ p;omega
 have o_:fA s=kD [] (GG s 0):=by rw[fA,a8 v];rfl
 obtain ⟨g,t⟩:∃g,g=fA s:=X_;rw[<-t]at o_ |-;refine aA<|Sz (by exact eF (id:=905) (sz:=3) (ty:=189) Z Z Z)<|Sr<|Dm<|pf Z Z (bF Z Z call218 Z (uq s 0 _ D (l6 _))) ?_;rintro r H' ⟨N,rfl,hj1,d_,hj3,B,rfl⟩;refine O U<|S<|aD<|fR (fun(j:Nat) (L:List a_)=>([(0,sv s),(5,.osl 905 L.length 0 L.length),(6,iv (j:Int))],[(905,⟨L.length,3,189,lJ L⟩)])) (fun j L=>j<=s.size/\L.length<=5000/\g=kD L (GG s j)/\(j<s.size->mW s j≠1/\mW s j≠2)) (fun j L=>s.size - j) N [] ⟨d_,l6 _,F_,B⟩ ?_ ?_
 ·exact(cJ.wk (Eb<|Ea<|Eb<|T_) (Hc (cS _ _)<|T_) T_)
 rintro j L ⟨hj,hL,b,E⟩;refine S<|C V<|Y V<|Y (gM U_)<|O cM<|Cn ?_ ?_<;>intro o
 ·have d:j<s.size:=by have:=b9 o;omega
  obtain ⟨G,F⟩:=E d;obtain ⟨f,e,c⟩:=Pj G F;have l:=Ip s j [(905,⟨L.length,3,189,lJ L⟩)] D d G F;have m:=Dy c;by_cases k:f.err=0
  ·rw[J9 c k]at l;have w:=OO c k d;have x:=wg d c k;rw[x]at b;refine aA<|aD<|C V<|Y V<|Y (kc call219 (l))<|Y V<|Y dH<|Y dH<|Y dH<|Y (kl 7 pq)<|Uu (iU sizeOf189)<|Y U<|O U<|S<|C V<|O AY<|Cn ?_ ?_<;>intro A
   ·((cases A;done))
   refine aA<|S<|C V<|Y (by exact dT Z cP Z Z Z)<|O cD<|Cn ?_ ?_<;>intro n
   ·have z:L.length=5000:=by have:=b9 n;omega
    have i:g=([],2,(j:Int)):=by rw[b,kD,a8 (fun h=>h k),b6 z,m]
    rw[i];refine C V<|Y U<|Y U<|O U<|aC<|lX (H':=[]) (.inr Z) Z (aJ Z) (aJ Z) (aJ Z) (Fin.wk H_ T_ T_) Qq
   have z:¬ L.length=5000:=by have:=b_ n;omega
   rw[kD,a8 (fun h=>h k),a8 z]at b;refine aA<|C V<|Y (by exact aW Z iR sizeOf189 Z Z Z Z (by simp only[Zl,K_];rfl) Z)<|Y (by exact aL [K_ f] Z gY Z Z Z Z Z R_)<|Y (by exact cA (ps:=[K_ f]) Z gY uz Z Z Z Z Z (xH _) Z R_ (m:=1) Z X Z (B7 L f))<|O U<|Rd V<|Dm ?_;refine pf Z Z (bF Z Z call218 Z (uq s e _ D w.2)) ?_;rintro r H' ⟨e_,rfl,g1,Q,c_,K,rfl⟩;refine Da ?_;refine⟨e_,L++[f],⟨Q,G_,by rw[b,c_],K⟩,X,?_⟩;dsimp only;rw[j9,List.length_singleton];exact(cJ.wk (Eb<|Ea<|Eb<|T_) (Hc (cS _ _)<|T_) T_)
  have P:(!decide (f.err=0))=true:=by rw[decide_eq_false k];rfl
  rw[RY c k]at l;have i:g=([],f.err,(j:Int)):=by rw[b,Do d c k,kD,b6 k,m]
  rw[i];refine aA<|aD<|C V<|Y V<|Y (kc call219 (l))<|Y V<|Y dH<|Y dH<|Y dH<|Y (kl 7 pq)<|Uu (iU sizeOf189)<|Y U<|O U<|S<|C V<|O (by exact cL.valY (by exact J2 Z Z Z) (P))<|Cn ?_ ?_<;>intro y
  ·refine C V<|Y V<|Y U<|Y U<|O U<|aC<|lX (H':=[]) (.inr Z) Z (aJ Z) (aJ Z) (aJ Z) (Fin.wk H_ T_ T_) Qq
  ((cases y;done))
 have u:¬ j<s.size:=by have:=b_ o;omega
 rw[Dp u,kD]at b;rw[b];refine aP<|S ?_;refine fZ.ent (cJ.fz (id:=905) (E':=[(5,.pv (CD L))]) (H':=[]) (L.map K_) Z (by rw[List.map_map];rfl)
  (by intro q I;rw[q_]at I;subst I;exact⟨_,Z,.osl (by rw[r7,List.drop_zero,List.take_of_length_le (by rw[h_];exact j6 _)])⟩) Z T_ T_) ?_
 refine Rd V<|Y U<|Y U<|O U<|aC<|lX (H':=[]) (.inr Z) Z (aJ Z) (aJ Z) (aJ Z) Fin.refl Qq
def wW(s:B_)(i:Nat):B_:=(cN s).getD i a6
def mQ(s:B_):B_:=s.extract ((wW s 0).size+(wW s 1).size+(wW s 2).size+3) s.size
def HT(s:B_):Bool:=(decide ((fA (mQ s)).2.1=0)&&decide ((fA (mQ s)).1.length=1))&&decide (((fA (mQ s)).1.getD 0 KC).kind=3)
def sf(rP:B_->j_)(s:B_):b8 :=if wW s 0=b7 wPut/\4<s.size then⟨1,a6,a6,a6,0,0,a6,a6,[],rP (s.extract 4 s.size)⟩
 else if wW s 0=b7 I7/\(cN s).length=4 then⟨2,wW s 1,a6,a6,JP (wW s 2),JP (wW s 3),a6,a6,[],g_⟩
 else if(wW s 0=b7 A2/\4<=(cN s).length)/\HT s=true then⟨3,wW s 1,a6,a6,0,0,wW s 2,((fA (mQ s)).1.getD 0 KC).text,[],g_⟩
 else if wW s 0=b7 I6/\2<=(cN s).length then⟨4,wW s 1,a6,a6,0,0,a6,a6,(cN s).drop 2,g_⟩
 else if wW s 0=b7 JA/\(cN s).length=2 then⟨5,wW s 1,a6,a6,0,0,a6,a6,[],g_⟩
 else if wW s 0=b7 B3/\(cN s).length=4 then⟨6,wW s 1,wW s 3,wW s 2,0,0,a6,a6,[],g_⟩
 else if wW s 0=b7 I9/\(cN s).length=3 then⟨7,wW s 1,wW s 2,a6,0,0,a6,a6,[],g_⟩
 else NZ
theorem Xo{s}{i}(h:i<(cN s).length):((cN s).map S_)[i]?=some (S_ (wW s i)):=by rw[r6,wW,List.getD_eq_getElem?_getD,m8 h];rfl
theorem FJ(s)(i):(wW s i).size<=s.size:=by
 rw[wW,List.getD_eq_getElem?_getD];cases e:(cN s)[i]? with
 |none=>exact l6 _
 |some w =>
  have b:=m7 e;obtain ⟨x,c,rfl⟩:=List.mem_map.1 b;have:=qW _ c;rw[aT]at this;show (b7 x).size<=_;rw[cB];omega
theorem HO(c):∀l,((dN c l).map List.length).sum+(dN c l).length=l.length+1
 | []=>rfl
 | b::l=>by
  have ih:=HO c l;have a:=qY c l;rw[dN]
  split
  ·rw[List.map_cons,List.sum_cons,j8,j8];show 0+_+_=_;omega
  cases e:dN c l with
  |nil=>rw[e]at a;exact absurd a (Nat.lt_irrefl 0)
  |cons x r =>
   grind
theorem aA4{s}(h:4<=(cN s).length):(wW s 0).size+(wW s 1).size+(wW s 2).size+3<=s.size:=by
 have j:=HO 32 s.data.toList;have g:∀i,wW s i=b7 ((dN _ _).getD i _):=fun i=>by
  rw[wW,cN,List.getD_eq_getElem?_getD,List.getD_eq_getElem?_getD,r6];cases (dN _ _)[i]?<;>rfl
 rw[g,g,g];rw[cN,h_]at h
 match e:dN _ _ with
 | []=>rw[e]at h;exact absurd h H_
 | [_]=>rw[e]at h;simp only[j8,List.length_nil]at h;omega
 | [_,_]=>rw[e]at h;simp only[j8,List.length_nil]at h;omega
 | [_,_,_]=>rw[e]at h;simp only[j8,List.length_nil]at h;omega
 |a::b::c::d::r =>
  rw[e]at j;simp[List.map_cons,List.sum_cons,j8]at j;show a.length+b.length+c.length+3<=_;omega
variable{rP:B_->j_}
def tK(T:List a_):Int:=DM (T.getD 0 KC).text
def zX(T:List a_):List B_:=((T.drop 3).takeWhile fun f=>decide (f.kind=1)).map a_.text
def RD(T:List a_):Bool:=decide ((T.getD 2 KC).kind=2)&&decide ((T.getD 3 KC).kind=2)
def ZY(s:B_):Int:=JO s (min s.size 7)
def sP(T:List a_):List l_×Bool:=if tK T=1 then LA [] (T.drop 4)else LA [] (T.drop (3+(zX T).length+1))
def tY(T:List a_):j_:=if tK T=1 then⟨(T.getD 1 KC).text,1,ZY (T.getD 2 KC).text,ZY (T.getD 3 KC).text,[],(sP T).1⟩else⟨(T.getD 1 KC).text,tK T,0,0,zX T,(sP T).1⟩
def Qw(s:B_):j_×Int:=if 20000<s.size then(g_,2)else if(fA s).2.1=0/\4<=(fA s).1.length then
 (if tK (fA s).1=1/\RD (fA s).1=false then(g_,5)else if(sP (fA s).1).2=true/\eX (tY (fA s).1)=(s,0)then(tY (fA s).1,0)else(g_,5))else(g_,5)
theorem bu{s}(hd:∀b∈s.data.toList,48<=b.toNat/\b.toNat<=57):∀k,k<=s.size->∃n,Lib.decFrom 0 (s.data.toList.take k)=some n/\YA s k=n/\JO s k=n
 |0,_=>⟨0,Z,Z,Z⟩
 |k+1,h=>by
  obtain ⟨n,i,g,f⟩:=bu hd k X;obtain ⟨b,d⟩:∃b,s.data.toList[k]?=some b:=aU (by rw[aT];omega);have j:=hd b (m7 d);have e:Lib.digitVal b=some (b.toNat - 48):=by rw[Lib.digitVal,b6 j]
  have c:bA s k=(b.toNat):=by rw[bA,d];rfl
  refine⟨n*10+(b.toNat - 48),Lib.decFrom_take _ k 0 n b _ i d e,?_,?_⟩
  ·rw[YA,g];omega
  rw[JO,f,c];show 10*n+((b.toNat:Int) - 48) % 256=_;omega
theorem nb{x}(b:0<=x):(aQ x).data.toList=Lib.decDigits x.toNat:=by show (Lib.itoa x).toArray.toList=_;rw[jU _ b]
theorem FW{x:Int}(p:0<=x)(h1:x<10000000):JP (aQ x)=x/\ZY (aQ x)=x:=by
 have h:=nb p;have i:∀b∈(aQ x).data.toList,48<=b.toNat/\b.toNat<=57:=fun b e=>by rw[h]at e;exact rC _ e
 have d:(aQ x).size=(Lib.decDigits x.toNat).length:=by rw[<-aT,h]
 have hpos:0<(aQ x).size:=by rw[d];exact List.length_pos_iff.2 (pQ _)
 have l:(aQ x).size<=7:=by rw[d];exact cU X E_
 obtain ⟨n,k,m,o⟩:=bu i (aQ x).size (j6 _);rw[List.take_of_length_le F_,h,mU]at k;cases k;have g:(List.range (aQ x).size).all (Bx (aQ x))=true:=by
  rw[List.all_eq_true];intro j hj;obtain ⟨b,e⟩:∃b,(aQ x).data.toList[j]?=some b:=aU F_;have hm:=i b (m7 e);have f:bA (aQ x) j=(b.toNat:Int):=by rw[bA,e];rfl
  rw[Bx,f,decide_eq_false X,decide_eq_false X];rfl
 constructor
 ·rw[JP,g,decide_eq_true l,Bool.and_true,b6 Z,m];omega
 rw[ZY,Nat.min_eq_left l,o];omega
theorem ND{s:B_}:∀(l:List l_) (i:Nat),(∀t,t∈l->cG t.key=true)->s.data.toList.drop i=nK l->∃T,FF s i (nK l) T/\TN T l/\∀acc,LA acc T=(acc++l,true)
 | [],i,_,h=>⟨[],all_nil h,⟨Z,(fun f w=>by cases w),Z⟩,fun acc=>by rw[LA,List.append_nil]⟩
 | t::l,i,d,h=>by
  have u:nK (t::l)=32::(t.key.data.toList++61::(cW t.val.data.toList++nK l)):=by
   rw[nK,List.flatMap_cons,R8];simp[nK]
  rw[u]at h |-;have g:=(pW h).2.2;have b:=fB g;have a:=(pW b).2.2;have o:=fB a;obtain ⟨T,r,q,p⟩:=ND l _ (fun t n=>d t (List.mem_cons_of_mem _ n)) o;have j:0<(cW t.val.data.toList).length:=by rw[cW,j8];omega
  have v:=DG (JG a) Z (rA a j) j r;have m:=GE b E_ v;have k:=mX g (d t List.mem_cons_self) (fun c r' e=>by cases e;exact⟨E_,E_,E_⟩) m;refine⟨_,uG h k,TN.cons q Z Z Z,fun acc=>?_⟩;rw[LA,p,List.append_assoc];rfl
theorem wh{α:Type}{p}{A B}{c:α}(h:∀a∈A,p a=true)(hc:p c=false):(A++c::B).takeWhile p=A:=F_
theorem xp{o:j_}(A:oH o=true):∃T,FF (DS o) 0 (sB o) T/\(∀f,f∈T->f.err=0)/\T.length<=5000/\4<=T.length/\¬ (tK T=1/\RD T=false)/\(sP T).2=true/\tY T=o:=by
 obtain ⟨hr,ht,e_,D,_⟩:=BR A;obtain ⟨q,v_,hn,hz⟩:=gm A;obtain ⟨A_,E⟩:=A0 (F7 A);have r:∀t,t∈o.tags->cG t.key=true:=fun t h=>((xD.1 e_).1 t h).1;have y:=VX o;by_cases n:o.kind=1
 ·have e:sB o=(eD o.kind).data.toList++32::(o.id.data.toList++32::(Lib.itoa o.x++32::(Lib.itoa o.y++nK o.tags))):=by
   rw[sB,lV,b6 n];simp
  rw[e]at y |-;have u:=fB y;rw[aT]at u;have z:=(pW u).2.2;have s:=fB z;rw[aT]at s;have B:=(pW s).2.2;have F:=fB B;have w:=(pW F).2.2;have c_:=fB w;obtain ⟨T,Q,⟨r1,N,r3⟩,I⟩:=ND o.tags _ r c_;have b:=mX y A_ (lR _) (uG u (mX z D (lR _) (uG s (PM B q.1 X (lR _) (uG F (PM w v_.1 X (P8 _) Q))))));have g:∀(a b c d:a_) (R:List a_),tK (⟨1,eD o.kind,0,0⟩::b::c::d::R)=1:=fun a b c d R=>by
   show DM (eD o.kind)=1;rw[E,n]
  refine⟨_,b,fun f m=>?_,?_,?_,?_,?_,?_⟩
  ·simp only[l7]at m;rcases m with rfl|rfl|rfl|rfl|m
   ·rfl
   ·rfl
   ·rfl
   ·rfl
   exact N f m
  ·simp only[j8];omega
  ·simp only[j8];omega
  ·rintro⟨-,h⟩;simp[RD]at h
  ·rw[sP,b6 (g KC _ _ _ _)];show (LA [] T).2=true;rw[I]
  rw[tY,b6 (g KC _ _ _ _),sP,b6 (g KC _ _ _ _)];show (⟨o.id,1,ZY (aQ o.x),ZY (aQ o.y),[],(LA [] T).1⟩:j_)=o;rw[I,(FW q.1 X).2,(FW v_.1 X).2];exact O6 Z n Z Z (hn n) Z
 obtain ⟨k,l,p⟩:=U9 A n;have v:=tW A;rw[p]at v;have e:sB o=(eD o.kind).data.toList++32::(o.id.data.toList++32::(40::(k.data.toList++(l.flatMap (fun k=>32::k.data.toList)++41::nK o.tags)))):=by
  rw[sB,lV,a8 n,p,xX];simp
 rw[e]at y |-;have u:=fB y;rw[aT]at u;have z:=(pW u).2.2;have s:=fB z;rw[aT]at s;have B:=(pW s).2.2;have F:=(pW B).2.2;have w:=fB F;rw[aT]at w;have c_:=fB w;have h8:=(pW c_).2.2;obtain ⟨T,Q,⟨r1,N,r3⟩,I⟩:=ND o.tags _ r h8;have o_:=GE c_ E_ Q;obtain ⟨R,hR,u_,W⟩:=TE l _ _ _ (fun x q=>v x (List.mem_cons_of_mem _ q)) w (JF _) o_;have K:GS (l.flatMap (fun k=>32::k.data.toList)++41::nK o.tags):=by
  cases l with
  |nil=>exact JF _
  |cons a l=>rw[List.flatMap_cons];exact lR _
 have b:=mX y A_ (lR _) (uG u (mX z D (lR _) (uG s (GE B E_ (mX F (v k List.mem_cons_self) K hR)))));have hRl:R.length=l.length:=by rw[<-u_,h_]
 have hrl:o.refs.length=l.length+1:=by rw[p,j8]
 have g:∀(b c d:a_) (z_:List a_),tK (⟨1,eD o.kind,0,0⟩::b::c::d::z_)=o.kind:=fun b c d z_=>by
  show DM (eD o.kind)=_;exact E
 have H:∀(a b c d:a_) (j:Nat),d.kind=1->zX (a::b::c::d::(R++⟨4,⟨#[41]⟩,j,0⟩::T))=d.text::R.map a_.text:=fun a b c d j f_=>by
  show (((d::R)++⟨4,⟨#[41]⟩,j,0⟩::T).takeWhile _).map a_.text=_;rw[wh (fun x q=>?_) (by rfl)]
  ·rfl
  rcases l7.1 q with rfl|q
  ·exact decide_eq_true f_
  exact decide_eq_true (W x q).1
 have G:∀(b c d:a_) (j:Nat),d.kind=1->sP (⟨1,eD o.kind,0,0⟩::b::c::d::(R++⟨4,⟨#[41]⟩,j,0⟩::T))=(o.tags,true):=fun b c d j f_=>by
  rw[sP,a8 (by rw[g];exact n),H _ _ _ _ _ f_];have L:∀a b c:a_,(a::b::c::d::(R++⟨4,⟨#[41]⟩,j,0⟩::T)).drop (3+(d.text::R.map a_.text).length+1)=T:=fun a b c=>by
   rw[show 3+(d.text::R.map a_.text).length+1=(a::b::c::d::(R++[⟨4,⟨#[41]⟩,j,0⟩])).length by simp;omega,show a::b::c::d::(R++⟨4,⟨#[41]⟩,j,0⟩::T)=(a::b::c::d::(R++[⟨4,⟨#[41]⟩,j,0⟩]))++T by simp];exact List.drop_left
  rw[L,I];rfl
 refine⟨_,b,fun f m=>?_,?_,?_,?_,?_,?_⟩
 ·simp only[l7,List.mem_append]at m;rcases m with rfl|rfl|rfl|rfl|m|rfl|m
  ·rfl
  ·rfl
  ·rfl
  ·rfl
  ·exact(W f m).2
  ·rfl
  exact N f m
 ·simp only[j8,j9];omega
 ·simp only[j8,j9];omega
 ·rintro⟨h,-⟩;rw[g]at h;exact n h
 ·rw[G _ _ _ _ rfl]
 obtain ⟨y_,z2⟩:=hz n;rw[tY,a8 (by rw[g];exact n),G _ _ _ _ Z,H _ _ _ _ _ Z,g];refine O6 Z Z y_ z2 ?_ Z;rw[p,u_]
theorem cb{o}(h:(eX o).2=0):Qw (eX o).1=(o,0):=by
 obtain ⟨c,d,hs⟩:=O7 h;obtain ⟨T,b,a,h2,h3,h4,h5,h6⟩:=xp c;have hlex:fA (DS o)=(T,0,0):=by
  rw[fA,a8 (by omega),b _ (by exact Nat.le_succ _),MO T _ a (by simp_all),List.nil_append]
 rw[d];show Qw (DS o)=(o,0);rw[Qw,a8 X]
 simp_all
theorem Sl{a b}(h:b7 a=b7 b):a=b:=by have:=congrArg (fun x=>x.data.toList) h;exact this
theorem qX(l):cN (b7 l)=(dN 32 l).map b7:=rfl
theorem HI(l)(i):wW (b7 l) i=b7 ((dN 32 l).getD i []):=by rw[wW,qX,List.getD_eq_getElem?_getD,List.getD_eq_getElem?_getD,r6];cases (dN _ l)[i]?<;>rfl
theorem mw{v}(hv:v.size<=200):fA (b7 (cW v.data.toList))=([⟨3,v,0,0⟩],0,0):=by
 have b:(b7 (cW v.data.toList)).data.toList.drop 0=cW v.data.toList++[]:=by rw[List.append_nil];rfl
 have hl:(cW v.data.toList).length<=402:=by
  have:=SV v.data.toList;rw[aT]at this;rw[cW,j8,j9,List.length_singleton];omega
 have c:0<(cW v.data.toList).length:=by rw[cW,j8];omega
 have d:=DG (JG b) Z (rA b c) c (all_nil (fB b));rw[fA,a8 (by rw[cB];omega),d _ (by rw[cB,List.append_nil];omega)];rfl
theorem KU{l}{k}:(b7 l).extract k (b7 l).size=b7 (l.drop k):=oK (by rw[rW,cO,cO])
theorem QV(c_:∀o,(eX o).2=0->rP (eX o).1=o){e:b8}(K:fT e=true)(A:fL e=0):sf rP (b7 (fG e))=e:=by
 obtain ⟨⟨o1,o7⟩,c,j⟩:=uB.1 K;rw[fL]at A;have d:∀ {a b:List UInt8},a≠b->∀ {p:Prop},¬ (b7 a=b7 b/\p):=fun h p e_=>h (Sl e_.1);by_cases m:e.op=1
 ·rw[b6 m]at A;obtain ⟨hg,N,_⟩:=O7 A;have H:=c_ _ A;rw[FH,b6 m,m]at j;rw[fG,b6 m];have hpos:0<(eX e.obj).1.data.toList.length:=by
   rw[N];show 0<(sB e.obj).length;rw[sB,lV,j9,j9,j8];omega
  have I:wW (b7 (wPut++32::(eX e.obj).1.data.toList)) 0=b7 wPut:=by
   rfl
  rw[sf,I,b6 ⟨Z,by rw[cB,j9,j8];show 4<3+_;omega⟩,KU];show (⟨1,a6,a6,a6,0,0,a6,a6,[],rP (b7 (eX e.obj).1.data.toList)⟩:b8)=e;rw[gB,H];exact j
 rw[wI,a8 m,j0]at c;obtain ⟨d_,c⟩:=c;have y:=mL d_;rw[fG,a8 m];by_cases f:e.op=2
 ·rw[b6 f]at c;have r:(0<=e.x/\e.x<1048576)/\0<=e.y/\e.y<1048576:=by
   rw[mf]at c
   grind
  rw[FH,a8 m,b6 f,f]at j;rw[gG,b6 f];have n1:=F9 r.1.1;have n2:=F9 r.2.1;have i:dN 32 (bQ [32] [I7,e.id.data.toList,Lib.itoa e.x,Lib.itoa e.y])=[I7,e.id.data.toList,Lib.itoa e.x,Lib.itoa e.y]:=kQ E_ F_;simp only[sf,HI,qX,i,List.getD_cons_zero,List.getD_cons_succ];rw[a8 (d E_),b6 ⟨T_,Z⟩,gB];show (⟨2,e.id,a6,a6,JP (aQ e.x),JP (aQ e.y),a6,a6,[],g_⟩:b8)=e;rw[(FW r.1.1 X).1,(FW r.2.1 X).1];exact j
 by_cases g:e.op=3
 ·rw[a8 f,b6 g,j0,k_]at c;have B:=mL c.1;rw[FH,a8 m,a8 f,b6 g,g]at j;rw[gG,a8 f,b6 g];have F:bQ [32] [A2,e.id.data.toList,e.key.data.toList,cW e.val.data.toList]=A2++32::(e.id.data.toList++32::(e.key.data.toList++32::cW e.val.data.toList)):=by simp[bQ]
  have hsp:=qY 32 (cW e.val.data.toList);have i:dN 32 (bQ [32] [A2,e.id.data.toList,e.key.data.toList,cW e.val.data.toList])=A2::e.id.data.toList::e.key.data.toList::dN 32 (cW e.val.data.toList):=by
   rw[F,jO E_,jO y.1,jO B.1]
  have n:mQ (b7 (bQ [32] [A2,e.id.data.toList,e.key.data.toList,cW e.val.data.toList]))=b7 (cW e.val.data.toList):=by
   rw[mQ,KU];simp only[HI,i,List.getD_cons_zero,List.getD_cons_succ,cB];rw[F];congr 1;have:A2++32::(e.id.data.toList++32::(e.key.data.toList++32::cW e.val.data.toList))=(A2++32::(e.id.data.toList++32::(e.key.data.toList++[32])))++cW e.val.data.toList:=H_
   rw[this,show A2.length+e.id.data.toList.length+e.key.data.toList.length+3=(A2++32::(e.id.data.toList++32::(e.key.data.toList++[32]))).length by grind];exact List.drop_left
  have z:=mw (v:=e.val) X;have D:HT (b7 (bQ [32] [A2,e.id.data.toList,e.key.data.toList,cW e.val.data.toList]))=true:=by
   rw[HT,n,z];rfl
  simp only[sf,HI,qX,i,List.getD_cons_zero,List.getD_cons_succ,n,D,z];rw[a8 (d E_),a8 (d E_),b6 ⟨⟨T_,G_⟩,T_⟩,gB,gB];exact j
 by_cases l:e.op=4
 ·rw[a8 f,a8 g,b6 l,j0,j0,List.all_eq_true]at c;have L:=c.2;rw[FH,a8 m,a8 f,a8 g,b6 l,l]at j;rw[gG,a8 f,a8 g,b6 l];have i:dN 32 (bQ [32] (I6::e.id.data.toList::bs e.refs))=I6::e.id.data.toList::bs e.refs:=kQ E_ (by
   intro w k;rcases l7.1 k with rfl|k
   ·exact y.1
   obtain ⟨s,i,rfl⟩:=List.mem_map.1 k;exact(mL (L s i)).1)
  simp only[sf,HI,qX,i,List.getD_cons_zero,List.getD_cons_succ];rw[a8 (d E_),a8 (d E_),a8 (fun h=>d E_ h.1),b6 ⟨T_,by simp only[h_,j8];omega⟩,gB];show (⟨4,e.id,a6,a6,0,0,a6,a6,(bs e.refs).map b7,g_⟩:b8)=e;rw[Li];exact j
 by_cases q:e.op=5
 ·rw[FH,a8 m,a8 f,a8 g,a8 l,b6 q,q]at j;rw[gG,a8 f,a8 g,a8 l,b6 q];have i:dN 32 (bQ [32] [JA,e.id.data.toList])=[JA,e.id.data.toList]:=kQ E_ (by intro w k;rw[q_]at k;subst k;exact y.1);simp only[sf,HI,qX,i,List.getD_cons_zero,List.getD_cons_succ];rw[a8 (d E_),a8 (d E_),a8 (fun h=>d E_ h.1),a8 (d E_),b6 ⟨T_,Z⟩,gB];exact j
 by_cases x:e.op=6
 ·rw[a8 f,a8 g,a8 l,a8 q,b6 x,j0]at c;have B:=mL c.1;have E:=mL c.2;rw[FH,a8 m,a8 f,a8 g,a8 l,a8 q,b6 x,x]at j;rw[gG,a8 f,a8 g,a8 l,a8 q,b6 x];have i:dN 32 (bQ [32] [B3,e.id.data.toList,e.node.data.toList,e.other.data.toList])=[B3,e.id.data.toList,e.node.data.toList,e.other.data.toList]:=kQ E_ (by intro w k;simp only[l7,n_,or_false]at k;rcases k with rfl|rfl|rfl;all_goals first|exact y.1|exact B.1|exact E.1);simp only[sf,HI,qX,i,List.getD_cons_zero,List.getD_cons_succ];rw[a8 (d E_),a8 (d E_),a8 (fun h=>d E_ h.1),a8 (d E_),a8 (d E_),b6 ⟨T_,Z⟩,gB,gB,gB];exact j
 have G:e.op=7:=X
 rw[a8 f,a8 g,a8 l,a8 q,a8 x]at c;have E:=mL c;rw[FH,a8 m,a8 f,a8 g,a8 l,a8 q,a8 x,G]at j;rw[gG,a8 f,a8 g,a8 l,a8 q,a8 x];have i:dN 32 (bQ [32] [I9,e.id.data.toList,e.other.data.toList])=[I9,e.id.data.toList,e.other.data.toList]:=kQ E_ (by intro w k;simp only[l7,n_,or_false]at k;rcases k with rfl|rfl;all_goals first|exact y.1|exact E.1);simp only[sf,HI,qX,i,List.getD_cons_zero,List.getD_cons_succ];rw[a8 (d E_),a8 (d E_),a8 (fun h=>d E_ h.1),a8 (d E_),a8 (d E_),a8 (d E_),b6 ⟨T_,Z⟩,gB,gB];exact j
theorem bz{rE:B_->b8}{s:B_}{A w:List UInt8}{r:List UInt8}{acc:List b8}(i:s.data.toList=A++(w++r))(f:(10:UInt8)∉w)(h:DX rE s A.length=(A.length,acc)):∀j,j<=w.length->DX rE s (A.length+j)=(A.length,acc)
 |0,_=>h
 |j+1,hj=>by
  have g:=bz i f h j X;have k:s.data.toList[A.length+j]?=w[j]?:=G_
  obtain ⟨b,c⟩:∃b,w[j]?=some b:=aU X;have d:b≠10:=fun e=>f G_;have a:bA s (A.length+j)=(b.toNat:Int):=by rw[bA,k,c];rfl
  rw[show A.length+(j+1)=(A.length+j)+1 by omega,DX,a,a8 ?_,g];rw[k_];intro e;exact d (UInt8.toNat_inj.1 (by show b.toNat=10;omega))
theorem Gh{rE}{s}{A w}{r}{acc}(b:s.data.toList=A++(w++10::r))(c:10∉w)(h:DX rE s A.length=(A.length,acc)):DX rE s (A.length+w.length+1)=(A.length+w.length+1,acc++[rE (b7 w)]):=by
 have e:=bz b c h _ (j6 _);have f:s.data.toList[A.length+w.length]?=some 10:=F_
 have a:bA s (A.length+w.length)=10:=by rw[bA,f];rfl
 have d:s.extract _ _=b7 w:=zN (by rw[b,List.drop_left]);rw[DX,a,e,b6 (show decide _=true by decide),d]
theorem VC{rE}{s:B_}:∀(l) (A) (acc),s.data.toList=A++l.flatMap (fun e=>fG e++[10])->(∀e∈l,(10:UInt8)∉fG e/\rE (b7 (fG e))=e)->DX rE s A.length=(A.length,acc)->DX rE s s.size=(s.size,acc++l)
 | [],A,acc,b,_,h=>by
  rw[List.flatMap_nil,List.append_nil]at b;rw[<-aT,b,h,List.append_nil]
 | e::l,A,acc,b,c,h=>by
  rw[List.flatMap_cons,List.append_assoc]at b;obtain ⟨d,h2⟩:=c e List.mem_cons_self;have hn:=Gh b d h;have hAl:(A++(fG e++[10])).length=A.length+(fG e).length+1:=by
   grind
  have:=VC (rE:=rE) (s:=s) l (A++(fG e++[10])) (acc++[e]) F_ (fun x f=>c x (List.mem_cons_of_mem _ f)) F_;rw[this,List.append_assoc];rfl
theorem Kd{rE}(k:∀e,fT e=true->fL e=0->rE (b7 (fG e))=e)(t):gPr rE t=iB t:=by
 have key:∀l,dW l=(t,0)->(DX rE t t.size).2=l:=fun l h=>by
  have a:(dW l).2=0:=by rw[h]
  have g:lD l=true:=by
   rw[dW]at a
   grind
  obtain ⟨hne,d⟩:=IF g;rw[dW,b6 g]at h a;obtain ⟨f,i,h3⟩:=PZ a;rw[List.nil_append]at i;rw[i]at h;have j:t=b7 _:=(congrArg Prod.fst h).symm;have:=VC (s:=t) l [] [] (by rw[j];rfl) (fun e b=>⟨(LV (d e b) (f e b)).2,k e (d e b) (f e b)⟩) Z;rw[this];rfl
 rw[gPr];by_cases c:20000<t.size
 ·rw[b6 c,iB,b6 c]
 rw[a8 c];by_cases h:dW (DX rE t t.size).2=(t,0)
 ·rw[b6 h];have a:(dW (DX rE t t.size).2).2=0:=by rw[h]
  have:=D9 a;rw[h]at this;exact this.symm
 rw[iB,a8 c]
 grind
theorem kj(n):∀(T) (acc),(∀f∈T,f.text.size<=n)->(∀t∈acc,t.key.size<=n/\t.val.size<=n)->(LA acc T).1.length<=acc.length+T.length/\∀t∈(LA acc T).1,t.key.size<=n/\t.val.size<=n
 | [],acc,_,h=>by
  rw[LA]
  simp_all
 | [a],acc,_,h=>by
  rw[LA]
  simp_all
 | [a,b],acc,_,h=>by
  rw[LA]
  simp_all
 | a::b::c::r,acc,e,h=>by
  rw[LA]
  split
  ·have d:=kj n r (acc++[mkT a c]) (fun f hf=>e f G_) (fun t ht=>by
    grind)
   rw[j9,List.length_singleton]at d;simp[j8];exact⟨X,d.2⟩
  simp_all
theorem Dq{T:List _}{n}(h:∀f∈T,f.text.size<=n)(i):(T.getD i KC).text.size<=n:=by
 rw[List.getD_eq_getElem?_getD];cases e:T[i]? with
 |none=>exact l6 _
 |some f=>grind
theorem oW:iq g_:=⟨E_,⟨E_,fun t h=>by cases h⟩,E_,fun s a=>by cases a⟩
theorem rz{T:List a_}{n:Nat}(hn:n<2^40)(d:∀f∈T,f.text.size<=n)(hl:T.length<549755813888):iq (tY T):=by
 have b:ME (sP T).1:=by
  rw[sP]
  split
  ·have h:=kj n (T.drop 4) [] (fun f c=>d f (List.mem_of_mem_drop c)) (fun t a=>by cases a);rw[q6,List.length_nil]at h;exact⟨X,fun t a=>⟨by have:=(h.2 t a).1;omega,by have:=(h.2 t a).2;omega⟩⟩
  have h:=kj n (T.drop (3+(zX T).length+1)) [] (fun f c=>d f (List.mem_of_mem_drop c)) (fun t a=>by cases a);rw[q6,List.length_nil]at h;exact⟨X,fun t a=>⟨by have:=(h.2 t a).1;omega,by have:=(h.2 t a).2;omega⟩⟩
 have hid:=Dq d 1;rw[tY]
 split
 ·exact⟨G_,b,F_,fun s e=>by cases e⟩
 refine⟨G_,b,?_,fun s e=>?_⟩
 ·have:=(List.takeWhile_sublist (l:=T.drop 3) fun f=>decide (f.kind=1)).length_le;rw[zX,h_];rw[q6]at this;omega
 obtain ⟨f,c,rfl⟩:=List.mem_map.1 (show s∈zX T from e);have:=d f (List.mem_of_mem_drop ((List.takeWhile_sublist _).subset c));omega
theorem w9{s}(a:s.size<2^40):iq (Qw s).1:=by
 rw[Qw]
 split
 ·exact oW
 split
 ·split
  ·exact oW
  split
  ·exact rz a (fun f b=>F6 s f b) (wL s a)
  exact oW
 exact oW
theorem jq(s):(cN s).length<=s.size+1:=by have a:=HO 32 s.data.toList;rw[aT]at a;rw[cN,h_];omega
theorem ar{s w}(h:w∈cN s):w.size<=s.size:=by obtain ⟨x,a,rfl⟩:=List.mem_map.1 h;have:=qW _ a;rw[aT]at this;show (b7 x).size<=_;rw[cB];omega
theorem EO{f x y}{id b node key d}{refs}{c}(m:id.size<=20000)(j:b.size<=20000)(g:node.size<=20000)(h:key.size<=20000)(e:refs.length<=20001)(l:∀s∈refs,s.size<=20000)(k:iq c):
  UB ⟨f,id,b,node,x,y,key,d,refs,c⟩/\(⟨f,id,b,node,x,y,key,d,refs,c⟩:b8).refs.length<2^40 :=
 ⟨⟨⟨Nat.lt_of_le_of_lt m H_,Nat.lt_of_le_of_lt j H_,Nat.lt_of_le_of_lt g H_,Nat.lt_of_le_of_lt h H_⟩,⟨Nat.lt_of_le_of_lt e H_,fun s i=>Nat.lt_of_le_of_lt (l s i) H_⟩,k⟩,Nat.lt_of_le_of_lt e H_⟩
theorem Gq(f:∀x:B_,x.size<=20000->iq (rP x)){s:B_}(e:s.size<=20000):UB (sf rP s)/\(sf rP s).refs.length<2^40:=by
 have b:=fun i=>Nat.le_trans (FJ s i) e;have a:(a6:B_).size<=20000:=l6 _;have d:([]:List B_).length<=20001:=l6 _;have c:∀s∈([]:List B_),s.size<=20000:=fun s h=>by cases h
 rw[sf]
 split
 ·exact EO a a a a d c (f _ (Nat.le_trans (fQ s _ _) e))
 split
 ·exact EO (b 1) a a a d c oW
 split
 ·exact EO (b 1) a a (b 2) d c oW
 split
 ·exact EO (b 1) a a a (by rw[q6];have:=jq s;omega) (fun w g=>Nat.le_trans (ar (List.mem_of_mem_drop g)) e) oW
 split
 ·exact EO (b 1) a a a d c oW
 split
 ·exact EO (b 1) (b 3) (b 2) a d c oW
 split
 ·exact EO (b 1) (b 2) a a d c oW
 exact EO a a a a d c oW
abbrev oQ(id:B_)(k x y:Int)(n:Nat):Ob:=bx 6 135 [sv id,iv k,iv x,iv y,.osl 906 n 0 n,.pv .nils]
def qH(id:B_)(k x y:Int)(R:List B_):aF:=[(906,⟨R.length,1,9,bZ R⟩),(7,oQ id k x y R.length),(2,bx 6 135 ((bM g_).map .pv))]
abbrev qE(s:B_)(T:List a_):cY:=[(0,sv s),(2,.ref 2 0 0 0),(4,.pv (CD T)),(7,.ref 7 0 0 0)]
theorem aDf(id)(k x y)(R)(s):qH id k x y (R++[s])=[(906,⟨R.length+1,1,9,bZ (R++[s])⟩),(7,oQ id k x y (R.length+1)),(2,bx 6 135 ((bM g_).map .pv))]:=by simp[qH]
theorem Dk{α:Type}{p}:∀ {l:List α} {i},i<=(l.takeWhile p).length->(l.length<=i->(l.takeWhile p).length=i)/\∀a,l[i]?=some a->(p a=true->i<(l.takeWhile p).length)/\(p a=false->(l.takeWhile p).length=i)
 | [],i,h=>⟨fun _=>by simp_all,fun a ha=>by grind⟩
 | b::l,i,h=>by
  rw[List.takeWhile_cons]at h |-;by_cases hb:p b=true
  ·cases i with
   |zero=>simp_all
   |succ i =>
    obtain ⟨h1,h2⟩:=Dk (l:=l) (p:=p) (i:=i) F_
    simp_all
  simp_all
theorem SA{s}(h:s.size<=20000):(fA s).1.length<100000:=by
 unfold fA
 split
 ·decide
 have a:=H9 (jV s (s.size+1) 0) [];have h2:=A4 s (s.size+1) 0;rw[List.length_nil]at a;omega
theorem km(s:B_)(H:aF)(hs:s.size<=20000):RC 162 [sv s] (.tup [av (bM (Qw s).1),iv (Qw s).2]) H:=by
 refine Pu ?_;have hlen:=wL s X;have hlen2:=SA hs;have hsz:=fun f hf=>F6 s f hf;have u:=rz (n:=s.size) X hsz hlen;have hlx:=fun H=>tl s H X;rw[Qw,a8 X];obtain ⟨T,hT⟩:∃T,T=(fA s).1:=X_;obtain ⟨er,her⟩:∃e,e=(fA s).2.1:=X_;obtain ⟨pp,hpp⟩:∃e,e=(fA s).2.2:=X_;simp only[<-hT,<-her,<-hpp]at hlen hlen2 hsz u hlx |-;clear hT her hpp;have hmT:(T.map K_).length=T.length:=h_ _;refine Bd func162 Z ntmps162<|C (kl 2 UN)<|O U<|S<|C V<|Y (gM U_)<|O iY<|Cn ?_ ?_<;>intro hc1
 ·exact absurd (b9 hc1) X
 refine aA<|C V<|Y (kc aEV (hlx _))<|Y V<|Y dH<|Y dH<|Y dH<|Y U<|Y U<|O U<|S<|S<|aR (t:=30) (n:=8) (A_:=!decide (er=0)||decide (((T.map K_).length:Int)<4)) ?_ ?_
 ·all_goals refine Y V<|Y AY<|Dm ?_<;>(refine Sp 26 (fun h26=>?_) fun h26=>?_)<;>(try(with_reducible contradiction))<;>(first|refine M<|M<|M ?_|refine J V<|J (fV cP)<|J cM ?_)<;>refine O cE ?_<;>exact Gj (h:=by simp_all)
 refine Cn ?_ ?_<;>intro hc2
 ·have hb:=hc2;rw[a8 (fun e=>by grind)];refine C (oO FC)<|Uu (iU sizeOf135)<|O U<|aC<|hU (H':=[]) (.inr Z) Z (CF bW sizeOf135) (aJ Z) (P_ (r:=.tup [av (bM g_),iv 5])) Qq
 have hb:=hc2;rw[q9,Bool.not_eq_false',k_,p_]at hb;have h4:4<=T.length:=X
 rw[b6 ⟨hb.1,h4⟩];obtain ⟨t0,ht0⟩:=aU (show 0<T.length by omega);obtain ⟨t,ht1⟩:=aU (show 1<T.length by omega);obtain ⟨t2,ht2⟩:=aU (show 2<T.length by omega);obtain ⟨t3,ht3⟩:=aU (show 3<T.length by omega);have i0:=cC (f:=K_) ht0;have i1:=cC (f:=K_) ht1;have i2:=cC (f:=K_) ht2;have i3:=cC (f:=K_) ht3;have hd:∀ {i:Nat} {f:a_},T[i]?=some f->T.getD i KC=f:=fun {i f} h=>by simp_all
 have d1:=hd ht1;have d2:=hd ht2;have d3:=hd ht3;have q:tK T=DM t0.text:=by rw[tK,hd ht0]
 refine aA<|C V<|Y (iM gY)<|Y (EV iD)<|Y (fY N_)<|Y (oO Lk)<|Y (kl 7 Cc)<|Uu (iU sizeOf135)<|Zz<|S<|S ?_;refine fZ.ent (E':=qE s T) (H':=qH t.text 0 0 0 []) (Q_ 906 1 9) ?_;refine Rg<|O U<|aD<|bC (σ:=Nat) (fun j=>(qE s T++[(8,iv ((j+1:Nat):Int))],qH t.text (kF t0.text j) 0 0 [])) (fun j=>j<=5) (fun j=>5 - j) 0 (l6 _) ?_ ?_
 ·exact L_
 rintro j hj;refine S<|C V<|O IA<|Cn ?_ ?_<;>intro hc3
 ·have hj5:j<5:=I_ hc3
  refine aA<|S<|aD<|S<|aN a7<|Cq V<|Cq (iM gY)<|Cq (EV iD)<|Cq (fY N_)<|Cq V<|Cq (kc Bk (FV ((j+1:Nat):Int) _))<|Cq wF<|bJ<|Kr<|Cn ?_ ?_<;>intro hc4
  ·have hw:t0.text=eD ((j+1:Nat):Int):=b9 hc4;refine Rd V<|Y (bD dZ)<|Uu (by exact cQ Z sizeOf3 Z Z Z Z Z Z (by simp only[j8,List.length_nil];omega) (by simp only[Zl,bP,bM,S_,gJ,K_];rfl) (by simp only[Zl,bP,bM,S_,gJ,K_];rfl))<|Zz<|Rd V<|Y gT<|Da ?_;refine⟨j+1,X,X,?_⟩;rw[show kF t0.text (j+1)=((j+1:Nat):Int)by rw[kF,b6 hw.symm]];exact L_
  have hw:t0.text≠eD ((j+1:Nat):Int):=b_ hc4;refine aA<|Rd V<|Y gT<|Da ?_;refine⟨j+1,X,X,?_⟩;rw[show kF t0.text (j+1)=kF t0.text j by rw[kF,a8 (Ne.symm hw)]];exact L_
 have hj5:j=5:=J_ hc3
 subst hj5;rw[ua];obtain ⟨x,hkd⟩:∃x,x=DM t0.text:=X_;rw[<-hkd]at q |-;clear hkd;refine aP<|Sz U<|S<|C (bD dZ)<|Y (bS M_)<|O cD<|Cn ?_ ?_<;>intro hc5
 ·have z:x=1:=b9 hc5;subst z;have z2:t2.text.size<=20000:=Nat.le_trans (hsz _ (m7 ht2)) hs;have z3:t3.text.size<=20000:=Nat.le_trans (hsz _ (m7 ht3)) hs;refine S<|S<|aR (t:=64) (n:=13) (A_:=!decide (t2.kind=2)||!decide (t3.kind=2)) ?_ ?_
  ·all_goals refine Y V<|Y (iM gY)<|Y (EV uR)<|Y (fY M_)<|Y AY<|Dm ?_<;>(refine Sp 58 (fun h58=>?_) fun h58=>?_)<;>(try(with_reducible contradiction))<;>(first|refine M<|M<|M<|M<|M ?_|refine J V<|J (iM gY)<|J (EV uR)<|J (fY M_)<|J AY ?_)<;>refine O cE ?_<;>exact Gj (h:=by(simp only[*,Zo];done))
  refine Cn ?_ ?_<;>intro hc6
  ·have hq:=hc6;rw[b6 ⟨q,by rw[RD,d2,d3];revert hq;cases decide (t2.kind=2)<;>cases decide (t3.kind=2)<;>decide⟩];refine C (oO FC)<|Uu (iU sizeOf135)<|O U<|aC<|hU (H':=[]) (.inr Z) Z (CF bW sizeOf135) (aJ Z) (P_ (r:=.tup [av (bM g_),iv 5])) Qq
  have hq:=hc6;rw[a8 (fun e=>by have h2:=e.2;rw[RD,d2,d3]at h2;revert hq h2;cases decide (t2.kind=2)<;>cases decide (t3.kind=2)<;>decide)];have v:min ((4:Nat):Int) ((T.map K_).length:Int)=((min (4) T.length:Nat):Int):=by rw[hmT];omega
  have hrl3:∀r∈T.map K_,r.length=3:=fun r hr=>by
   obtain ⟨f,_,rfl⟩:=List.mem_map.1 hr;rfl
  have y:((T.map K_).take (T.map K_).length).drop (min (4) T.length)=(T.drop (4)).map K_:=by
   rw[List.take_length,List.map_drop];rcases Nat.le_total (4) T.length with h|h
   ·rw[Nat.min_eq_left h]
   rw[Nat.min_eq_right h,List.drop_of_length_le (by rw[hmT];exact j6 _),List.drop_of_length_le (by rw[hmT];exact h)]
  have hml:min (4) T.length<=(T.map K_).length:=by rw[hmT];exact Nat.min_le_right _ _
  have w:=fun H=>LX (T.drop (4)) H (by rw[q6];omega);have hTG:=(show sP T=LA [] (T.drop 4)by rw[sP,b6 q]);have hOT:=(show tY T=⟨t.text,1,ZY t2.text,ZY t3.text,[],(sP T).1⟩by rw[tY,b6 q,d1,d2,d3]);obtain ⟨G,hG⟩:∃G,G=LA [] (T.drop (4)):=X_;rw[hOT,hTG]at u;rw[hOT,hTG];simp only[<-hG]at w u |-;clear hG hTG hOT;refine aA<|aN a7<|Cr [] (fun _ _=>V)<|Cr [] (fun _ _=>(iM gY))<|Cr [] (fun _ _=>(EV iD))<|Cr [] (fun _ _=>(fY N_))<|Cr [] (fun H1 hH=>by exact bF Z Z call215 Z (RB t2.text _ X))<|Cr [] (fun _ _=>V)<|Cr [] (fun _ _=>(iM gY))<|Cr [] (fun _ _=>(EV iD))<|Cr [] (fun _ _=>(fY N_))<|Cr [] (fun H1 hH=>by exact bF Z Z call215 Z (RB t3.text _ X))<|Cr [] (fun _ _=>(oO K0))<|Cr [7] (fun _ h=>fh mM h)<|Cp [7] (fun H1 hH=>by exact qL Z sizeOf104 Z Z Z Z ((hH _ Z).trans Z) Z Z (by simp only[j8,List.length_nil];omega) (by simp only[Zl,bP,bM,S_,gJ,K_];rfl) (by simp only[Zl,bP,bM,S_,gJ,K_];rfl))<|bJ<|Kr<|S ?_;refine fZ.ent (cJ.fzG (id:=906) (E':=qE s T++[(9,iv ((4:Nat):Int))]) (H':=[(7,bx 6 135 [sv (t.text),iv (1),iv ((ZY t2.text)),iv ((ZY t3.text)),.pv (aK (([]:List B_))),.pv .nils]),(2,bx 6 135 ((bM g_).map .pv))]) ((([]:List B_)).map S_) Z (eC _) ?_ Z ?_ ?_) ?_
  ·intro p hp;simp only[List.cons_append,List.nil_append,l7,n_,or_false]at hp;rcases hp with rfl|rfl|rfl|rfl|rfl<;>exact⟨_,Z,.same (by simp;try rfl)⟩
  ·exact⟨⟨_,Z,Z,Z,Z,lW Z (bG (.same H_) (bG (.same H_) (bG (.same H_) (bG (.same H_) (bG (.osl (lO S_ _)) (bG (.same H_) kT))))))⟩,⟨_,Z,Z,Z,Z,eG H_⟩,T_⟩
  ·exact T_
  refine Rd V<|Y V<|Y V<|Y (fV cP)<|Y (CN Z Z Z v)<|Y (fD (l:=(min (4) T.length)) (h:=((T.map K_).length)) Z gY Z (by assumption) Z Z X X y)<|Y (kc aEQ (w _))<|Y V<|Y dH<|Y dH<|Y U<|O U<|C V<|Y (bD fU)<|Uu (by exact cQ Z sizeOf133 Z Z Z Z Z Z (by simp only[j8,List.length_nil];omega) (by simp only[Zl,bP,bM,S_,gJ,K_];rfl) (by simp only[Zl,bP,bM,S_,gJ,K_];rfl))<|Zz<|C (vC bW sizeOf135)<|Y (kc Bj (CI ⟨t.text,1,(ZY t2.text),(ZY t3.text),([]:List B_),G.1⟩ _ u))<|Y V<|Y dH<|Y dH<|Y U<|O U<|S<|S ?_;refine aR (t:=131) (n:=13) (A_:=(!G.2||!decide ((eX ⟨t.text,1,(ZY t2.text),(ZY t3.text),([]:List B_),G.1⟩).2=0))||!decide ((eX ⟨t.text,1,(ZY t2.text),(ZY t3.text),([]:List B_),G.1⟩).1=s)) ?_ ?_
  ·all_goals refine Y V<|Y iT<|Dm ?_<;>(refine Sp 123 (fun h123=>?_) fun h123=>?_)<;>(try(with_reducible contradiction))<;>(first|refine M<|M ?_|refine J V<|J AY ?_)<;>refine Y cE<|Dm ?_<;>(refine Sp 127 (fun h127=>?_) fun h127=>?_)<;>(try(with_reducible contradiction))<;>(first|refine M<|M<|M ?_|refine J V<|J V<|J GU ?_)<;>refine O cE ?_<;>exact Gj (h:=by first|(rw[h123];rfl)|(rw[h123,h127];rfl))
  refine Cn ?_ ?_<;>intro hc7
  ·have hq:=hc7;rw[a8 (fun e=>by rw[e.1,e.2]at hq;simp at hq)];refine C (oO FC)<|Uu (iU sizeOf135)<|O U<|aC<|hU (H':=[]) (.inr Z) Z (CF bW sizeOf135) (aJ Z) (P_ (r:=.tup [av (bM g_),iv 5])) Qq
  have hq:=hc7;simp only[q9,Bool.not_eq_false',k_]at hq;rw[b6 ⟨hq.1.1,Prod.ext hq.2 hq.1.2⟩];refine aA<|C (vC bW sizeOf135)<|Uu (iU sizeOf135)<|O U<|aC<|hU (H':=[]) (.inr Z) Z (CF bW sizeOf135) (aJ Z) (P_ (r:=.tup [av (bM ⟨t.text,1,(ZY t2.text),(ZY t3.text),([]:List B_),G.1⟩),iv 0])) Qq
 have z:x≠1:=b_ hc5;rw[a8 (fun e=>z (q.symm.trans e.1))];obtain ⟨e_,hM⟩:∃e_,e_=T.drop 3:=X_;have hMl:e_.length=T.length - 3:=by rw[hM,q6]
 obtain ⟨W,hW⟩:∃W,W=e_.takeWhile fun f=>decide (f.kind=1):=X_;have hWM:W=e_.take W.length:=by rw[hW];exact List.prefix_iff_eq_take.1 (List.takeWhile_prefix _)
 have hWl:W.length<=e_.length:=by rw[hW];exact(List.takeWhile_sublist _).length_le
 have hRf:zX T=W.map a_.text:=by rw[zX,hW,hM]
 have hg:∀i,i<=W.length->(e_.length<=i->W.length=i)/\∀a,e_[i]?=some a->(decide (a.kind=1)=true->i<W.length)/\(decide (a.kind=1)=false->W.length=i):=fun i hi=>by
  rw[hW]at hi |-;exact Dk hi
 refine Sz U<|S<|aD<|bC (σ:=Nat) (fun i=>(qE s T++[(9,iv ((3+i:Nat):Int))],qH t.text x 0 0 ((e_.take i).map a_.text))) (fun i=>i<=W.length) (fun i=>W.length - i) 0 (l6 _) ?_ ?_
 ·exact L_
 rintro i hi;obtain ⟨g1,g2⟩:=hg i hi;by_cases hin:3+i<T.length
 ·obtain ⟨f,hf⟩:=aU hin;have hfM:e_[i]?=some f:=by rw[hM,List.getElem?_drop];exact hf
  have hif:=cC (f:=K_) hf;obtain ⟨g3,g4⟩:=g2 f hfM;have A:decide (((3+i:Nat):Int)<((T.map K_).length:Int))=true:=decide_eq_true X;refine S<|S<|aR (t:=89) (n:=13) (A_:=decide (f.kind=1)) ?_ ?_
  ·all_goals refine Y V<|Y V<|Y (fV cP)<|Y (cL.valY (iA Z Z Z) (A))<|Dm ?_<;>(refine Sp 82 (fun h82=>?_) fun h82=>?_)<;>(try(with_reducible contradiction))<;>refine J V<|J V<|J (bU Z gY Z Z X (l8 (3+i)) hif Z)<|J (EV uR)<|J (fY M_)<|J cD<|O cE ?_<;>exact Gj (h:=by rfl)
  refine Cn ?_ ?_<;>intro hc8
  ·have hk:=g3 hc8;have hMt:(e_.take (i+1)).map a_.text=(e_.take i).map a_.text++[f.text]:=by rw[List.take_add_one,hfM,List.map_append];rfl
   have hRl:((e_.take i).map a_.text).length=i:=by rw[h_,q8];omega
   refine aA<|aD<|S<|aN a7<|Cs (fun _ h=>fh dY h)<|Cs (fun _ h=>lh aH h)<|Cs (fun _ _=>V)<|Cs (fun _ _=>V)<|Cs (fun H1 hH=>by exact bU Z gY Z Z X (l8 (3+i)) hif Z)<|Cs (fun _ _=>(EV iD))<|Cs (fun _ _=>(fY N_))<|Cs (fun H1 hH=>by exact aL [S_ f.text] Z bH Z Z Z Z Z R_) ?_;refine iF (r:=⟨_,none,[_]⟩) (DStep.plain Z (fun H1 hH=>by exact cA (ps:=[S_ f.text]) Z bH xE Z ((hH _ Z).trans Z) Z Z Z (eH _) Z R_ (m:=1) Z X Z (gO ((e_.take i).map a_.text) f.text))) Z ?_;refine Cs (fun _ h=>fh dY h)<|iF (r:=⟨_,none,[_]⟩) (DStep.plain Z (fun H1 hH=>by exact(by exact cQ Z sizeOf22 Z Z Z ((hH _ Z).trans Z) Z Z (by simp only[j8,List.length_nil];omega) (by simp only[Zl,bP,bM,S_,gJ,K_];rfl) (by simp only[Zl,bP,bM,S_,gJ,K_];rfl)))) Z ?_;refine bJ<|Kr<|Rd V<|Y gT<|Da ?_;refine⟨i+1,X,X,?_⟩;dsimp only;rw[hMt,aDf];exact L_
  have hk:=g4 hc8;obtain ⟨R,hR⟩:∃R,R=(e_.take i).map a_.text:=X_;have hWR:zX T=R:=by rw[hRf,hWM,hk,hR]
  rw[<-hR];have v:min (((3+i+1):Nat):Int) ((T.map K_).length:Int)=((min ((3+i+1)) T.length:Nat):Int):=by rw[hmT];omega
  have hrl3:∀r∈T.map K_,r.length=3:=fun r hr=>by
   obtain ⟨f,_,rfl⟩:=List.mem_map.1 hr;rfl
  have y:((T.map K_).take (T.map K_).length).drop (min ((3+i+1)) T.length)=(T.drop ((3+i+1))).map K_:=by
   rw[List.take_length,List.map_drop];rcases Nat.le_total ((3+i+1)) T.length with h|h
   ·rw[Nat.min_eq_left h]
   rw[Nat.min_eq_right h,List.drop_of_length_le (by rw[hmT];exact j6 _),List.drop_of_length_le (by rw[hmT];exact h)]
  have hml:min ((3+i+1)) T.length<=(T.map K_).length:=by rw[hmT];exact Nat.min_le_right _ _
  have w:=fun H=>LX (T.drop ((3+i+1))) H (by rw[q6];omega);have hTG:=(show sP T=LA [] (T.drop (3+i+1))by rw[sP,a8 (fun e=>z (q.symm.trans e)),hRf,h_,hk]);have hOT:=(show tY T=⟨t.text,x,0,0,R,(sP T).1⟩by rw[tY,a8 (fun e=>z (q.symm.trans e)),d1,q,hWR]);obtain ⟨G,hG⟩:∃G,G=LA [] (T.drop ((3+i+1))):=X_;rw[hOT,hTG]at u;rw[hOT,hTG];simp only[<-hG]at w u |-;clear hG hTG hOT;refine aP<|Rd V<|Y gT<|O U<|S ?_;refine fZ.ent (cJ.fzG (id:=906) (E':=qE s T++[(9,iv (((3+i+1):Nat):Int))]) (H':=[(7,bx 6 135 [sv (t.text),iv (x),iv (0),iv (0),.pv (aK (R)),.pv .nils]),(2,bx 6 135 ((bM g_).map .pv))]) ((R).map S_) Z (eC _) ?_ Z ?_ ?_) ?_
  ·intro p hp;simp only[List.cons_append,List.nil_append,l7,n_,or_false]at hp;rcases hp with rfl|rfl|rfl|rfl|rfl<;>exact⟨_,Z,.same (by simp;try rfl)⟩
  ·exact⟨⟨_,Z,Z,Z,Z,lW Z (bG (.same H_) (bG (.same H_) (bG (.same H_) (bG (.same H_) (bG (.osl (lO S_ _)) (bG (.same H_) kT))))))⟩,⟨_,Z,Z,Z,Z,eG H_⟩,T_⟩
  ·exact T_
  refine Rd V<|Y V<|Y V<|Y (fV cP)<|Y (CN Z Z Z v)<|Y (fD (l:=(min ((3+i+1)) T.length)) (h:=((T.map K_).length)) Z gY Z (by assumption) Z Z X X y)<|Y (kc aEQ (w _))<|Y V<|Y dH<|Y dH<|Y U<|O U<|C V<|Y (bD fU)<|Uu (by exact cQ Z sizeOf133 Z Z Z Z Z Z (by simp only[j8,List.length_nil];omega) (by simp only[Zl,bP,bM,S_,gJ,K_];rfl) (by simp only[Zl,bP,bM,S_,gJ,K_];rfl))<|Zz<|C (vC bW sizeOf135)<|Y (kc Bj (CI ⟨t.text,x,0,0,R,G.1⟩ _ u))<|Y V<|Y dH<|Y dH<|Y U<|O U<|S<|S ?_;refine aR (t:=131) (n:=13) (A_:=(!G.2||!decide ((eX ⟨t.text,x,0,0,R,G.1⟩).2=0))||!decide ((eX ⟨t.text,x,0,0,R,G.1⟩).1=s)) ?_ ?_
  ·all_goals refine Y V<|Y iT<|Dm ?_<;>(refine Sp 123 (fun h123=>?_) fun h123=>?_)<;>(try(with_reducible contradiction))<;>(first|refine M<|M ?_|refine J V<|J AY ?_)<;>refine Y cE<|Dm ?_<;>(refine Sp 127 (fun h127=>?_) fun h127=>?_)<;>(try(with_reducible contradiction))<;>(first|refine M<|M<|M ?_|refine J V<|J V<|J GU ?_)<;>refine O cE ?_<;>exact Gj (h:=by first|(rw[h123];rfl)|(rw[h123,h127];rfl))
  refine Cn ?_ ?_<;>intro hc9
  ·have hq:=hc9;rw[a8 (fun e=>by rw[e.1,e.2]at hq;simp at hq)];refine C (oO FC)<|Uu (iU sizeOf135)<|O U<|aC<|hU (H':=[]) (.inr Z) Z (CF bW sizeOf135) (aJ Z) (P_ (r:=.tup [av (bM g_),iv 5])) Qq
  have hq:=hc9;simp only[q9,Bool.not_eq_false',k_]at hq;rw[b6 ⟨hq.1.1,Prod.ext hq.2 hq.1.2⟩];refine aA<|C (vC bW sizeOf135)<|Uu (iU sizeOf135)<|O U<|aC<|hU (H':=[]) (.inr Z) Z (CF bW sizeOf135) (aJ Z) (P_ (r:=.tup [av (bM ⟨t.text,x,0,0,R,G.1⟩),iv 0])) Qq
 have hk:=g1 X;have A:decide (((3+i:Nat):Int)<((T.map K_).length:Int))=false:=decide_eq_false X;obtain ⟨R,hR⟩:∃R,R=(e_.take i).map a_.text:=X_;have hWR:zX T=R:=by rw[hRf,hWM,hk,hR]
 rw[<-hR];refine S<|S<|aR (t:=89) (n:=13) (A_:=false) ?_ ?_
 ·all_goals refine Y V<|Y V<|Y (fV cP)<|Y (cL.valY (iA Z Z Z) (A))<|Dm ?_<;>(refine Sp 82 (fun h82=>?_) fun h82=>?_)<;>(try(with_reducible contradiction))<;>refine M<|M<|M<|M<|M<|M<|O cE ?_<;>exact Gj (h:=by rfl)
 refine Cn ?_ ?_<;>intro hc10
 ·cases hc10
 have v:min (((3+i+1):Nat):Int) ((T.map K_).length:Int)=((min ((3+i+1)) T.length:Nat):Int):=by rw[hmT];omega
 have hrl3:∀r∈T.map K_,r.length=3:=fun r hr=>by
  obtain ⟨f,_,rfl⟩:=List.mem_map.1 hr;rfl
 have y:((T.map K_).take (T.map K_).length).drop (min ((3+i+1)) T.length)=(T.drop ((3+i+1))).map K_:=by
  rw[List.take_length,List.map_drop];rcases Nat.le_total ((3+i+1)) T.length with h|h
  ·rw[Nat.min_eq_left h]
  rw[Nat.min_eq_right h,List.drop_of_length_le (by rw[hmT];exact j6 _),List.drop_of_length_le (by rw[hmT];exact h)]
 have hml:min ((3+i+1)) T.length<=(T.map K_).length:=by rw[hmT];exact Nat.min_le_right _ _
 have w:=fun H=>LX (T.drop ((3+i+1))) H (by rw[q6];omega);have hTG:=(show sP T=LA [] (T.drop (3+i+1))by rw[sP,a8 (fun e=>z (q.symm.trans e)),hRf,h_,hk]);have hOT:=(show tY T=⟨t.text,x,0,0,R,(sP T).1⟩by rw[tY,a8 (fun e=>z (q.symm.trans e)),d1,q,hWR]);obtain ⟨G,hG⟩:∃G,G=LA [] (T.drop ((3+i+1))):=X_;rw[hOT,hTG]at u;rw[hOT,hTG];simp only[<-hG]at w u |-;clear hG hTG hOT;refine aP<|Rd V<|Y gT<|O U<|S ?_;refine fZ.ent (cJ.fzG (id:=906) (E':=qE s T++[(9,iv (((3+i+1):Nat):Int))]) (H':=[(7,bx 6 135 [sv (t.text),iv (x),iv (0),iv (0),.pv (aK (R)),.pv .nils]),(2,bx 6 135 ((bM g_).map .pv))]) ((R).map S_) Z (eC _) ?_ Z ?_ ?_) ?_
 ·intro p hp;simp only[List.cons_append,List.nil_append,l7,n_,or_false]at hp;rcases hp with rfl|rfl|rfl|rfl|rfl<;>exact⟨_,Z,.same (by simp;try rfl)⟩
 ·exact⟨⟨_,Z,Z,Z,Z,lW Z (bG (.same H_) (bG (.same H_) (bG (.same H_) (bG (.same H_) (bG (.osl (lO S_ _)) (bG (.same H_) kT))))))⟩,⟨_,Z,Z,Z,Z,eG H_⟩,T_⟩
 ·exact T_
 refine Rd V<|Y V<|Y V<|Y (fV cP)<|Y (CN Z Z Z v)<|Y (fD (l:=(min ((3+i+1)) T.length)) (h:=((T.map K_).length)) Z gY Z (by assumption) Z Z X X y)<|Y (kc aEQ (w _))<|Y V<|Y dH<|Y dH<|Y U<|O U<|C V<|Y (bD fU)<|Uu (by exact cQ Z sizeOf133 Z Z Z Z Z Z (by simp only[j8,List.length_nil];omega) (by simp only[Zl,bP,bM,S_,gJ,K_];rfl) (by simp only[Zl,bP,bM,S_,gJ,K_];rfl))<|Zz<|C (vC bW sizeOf135)<|Y (kc Bj (CI ⟨t.text,x,0,0,R,G.1⟩ _ u))<|Y V<|Y dH<|Y dH<|Y U<|O U<|S<|S ?_;refine aR (t:=131) (n:=13) (A_:=(!G.2||!decide ((eX ⟨t.text,x,0,0,R,G.1⟩).2=0))||!decide ((eX ⟨t.text,x,0,0,R,G.1⟩).1=s)) ?_ ?_
 ·all_goals refine Y V<|Y iT<|Dm ?_<;>(refine Sp 123 (fun h123=>?_) fun h123=>?_)<;>(try(with_reducible contradiction))<;>(first|refine M<|M ?_|refine J V<|J AY ?_)<;>refine Y cE<|Dm ?_<;>(refine Sp 127 (fun h127=>?_) fun h127=>?_)<;>(try(with_reducible contradiction))<;>(first|refine M<|M<|M ?_|refine J V<|J V<|J GU ?_)<;>refine O cE ?_<;>exact Gj (h:=by first|(rw[h123];rfl)|(rw[h123,h127];rfl))
 refine Cn ?_ ?_<;>intro hc11
 ·have hq:=hc11;rw[a8 (fun e=>by rw[e.1,e.2]at hq;simp at hq)];refine C (oO FC)<|Uu (iU sizeOf135)<|O U<|aC<|hU (H':=[]) (.inr Z) Z (CF bW sizeOf135) (aJ Z) (P_ (r:=.tup [av (bM g_),iv 5])) Qq
 have hq:=hc11;simp only[q9,Bool.not_eq_false',k_]at hq;rw[b6 ⟨hq.1.1,Prod.ext hq.2 hq.1.2⟩];refine aA<|C (vC bW sizeOf135)<|Uu (iU sizeOf135)<|O U<|aC<|hU (H':=[]) (.inr Z) Z (CF bW sizeOf135) (aJ Z) (P_ (r:=.tup [av (bM ⟨t.text,x,0,0,R,G.1⟩),iv 0])) Qq
end Go.Proofs.YtopnleflllkbmaaGreatDoor
namespace Go.Proofs.YtopnleflllkbmaaGreatDoor
open Go.Proofs.Tryz
open Go.Abs Go.Lib
theorem Gp{rP:B_->j_}{rX:B_->Int}(hP:∀(x:B_) (H:aF),x.size<=20000->RC 162 [sv x] (.tup [av (bM (rP x)),iv (rX x)]) H)(s:B_)(H:aF)(hs:s.size<=20000):
  RC 109 [sv s] (av (bL (sf rP s))) H:=by
 refine Pu ?_;have hsp:=fun H=>Gd s H X;have hw0:∀i,i<(cN s).length->((cN s).map S_)[i]?=some (S_ (wW s i)):=fun i hi=>Xo hi;have hf0:4<=(cN s).length->(wW s 0).size+(wW s 1).size+(wW s 2).size+3<=s.size:=aA4;have hpos:0<(cN s).length:=by rw[cN,h_];exact qY _ _
 rw[sf];obtain ⟨L,hL⟩:∃L,L=cN s:=X_;simp only[<-hL]at hsp hw0 hf0 hpos |-;clear hL;have hml:(L.map S_).length=L.length:=h_ _;have i0:=hw0 0 hpos;refine Bd func109 Z ntmps109<|Sz (kl 2 UM)<|C V<|Y (kc call161 (hsp _))<|O U<|C V<|Y (fV aE)<|O U<|S<|S<|aR (t:=22) (n:=10) (A_:=decide (wW s 0=⟨#[112,117,116]⟩)&&decide ((4:Int)<(s.size:Int))) ?_ ?_
 ·all_goals refine Y V<|Y (iM bH)<|Y (fY N_)<|Y wF<|Dm ?_<;>(refine Sp 18 (fun h18=>?_) fun h18=>?_)<;>(first|contradiction|refine M<|M<|M ?_|refine J V<|J (gM U_)<|J iY ?_)<;>refine O cE ?_<;>exact Gj (h:=by(simp only[*,Zo];done))
 refine Cn ?_ ?_<;>intro hc1
 ·have h1:wW s 0=b7 wPut/\_:=zP hc1;rw[b6 ⟨h1.1,X⟩];refine C V<|Y (bT (l:=4) (h:=s.size) Z U_ Z Z Z X (j6 _) Z)<|Y (kc call162 (hP (s.extract 4 s.size) _ (Nat.le_trans (fQ s 4 s.size) hs)))<|Y V<|Y dH<|Y dH<|Y (kl 5 UN)<|Uu (iU sizeOf135)<|O U<|C (by exact aW Z bW sizeOf135 Z Z Z Z (by simp only[Zl,bP,bM,S_,bL,gJ,K_];rfl) Z)<|Y (oO tQ)<|Uu (iU aZ)<|Zz<|aC ?_;refine cR (H':=[]) (.inr Z) Z (CF cT aZ) (P_ (r:=av (bL ⟨1,a6,a6,a6,0,0,a6,a6,[],rP (s.extract 4 s.size)⟩))) ?_;exact Qq
 have h1:¬ (wW s 0=b7 wPut/\_):=zQ hc1;rw[a8 (fun h=>h1 ⟨h.1,X⟩)];refine aA<|S<|S<|aR (t:=38) (n:=9) (A_:=decide (wW s 0=⟨#[109,111,118,101]⟩)&&decide (((L.map S_).length:Int)=4)) ?_ ?_
 ·all_goals refine Y V<|Y (iM bH)<|Y (fY N_)<|Y wF<|Dm ?_<;>(refine Sp 35 (fun h35=>?_) fun h35=>?_)<;>(first|contradiction|refine M<|M ?_|refine J V<|J cD ?_)<;>refine O cE ?_<;>exact Gj (h:=by(simp only[*,Zo];done))
 refine Cn ?_ ?_<;>intro hc2
 ·have h2:wW s 0=b7 I7/\_:=zP hc2;rw[b6 ⟨h2.1,X⟩];have i1:=hw0 1 X;have i2:=hw0 2 X;have i3:=hw0 3 X;have z2:=FJ s 2;have z3:=FJ s 3;refine S<|aN a7<|Cr [] (fun _ _=>V)<|Cr [] (fun _ _=>(iM bH))<|Cr [] (fun _ _=>(fY N_))<|Cr [] (fun _ _=>V)<|Cr [] (fun _ _=>(iM bH))<|Cr [] (fun _ _=>(fY N_))<|Cr [] (fun H1 hH=>by exact bF Z Z call163 Z (VD (wW s 2) _ X))<|Cr [] (fun _ _=>V)<|Cr [] (fun _ _=>(iM bH))<|Cr [] (fun _ _=>(fY N_))<|Cr [] (fun H1 hH=>by exact bF Z Z call163 Z (VD (wW s 3) _ X))<|Cr [] (fun _ _=>(oO K0))<|Cr [] (fun _ _=>(oO tQ))<|Cp [2] (fun _ h=>sa aZ h)<|bJ<|Kr<|aC ?_;refine cR (H':=[]) (.inr Z) Z (CF cT aZ) (P_ (r:=av (bL ⟨2,wW s 1,a6,a6,JP (wW s 2),JP (wW s 3),a6,a6,[],g_⟩))) Qq
 have h2:¬ (wW s 0=b7 I7/\_):=zQ hc2;rw[a8 (fun h=>h2 ⟨h.1,X⟩)];refine aA<|eN (fun(_:Unit)=>([(0,sv s),(2,.ref 2 0 0 0),(3,.pv (aK L)),(4,iv ((L.map S_).length:Int))],[(2,bx 15 137 ((bL NZ).map .pv))])) (fun _=>¬ ((wW s 0=b7 A2/\4<=L.length)/\HT s=true)) ?_ ?_
 ·refine S<|aR (t:=59) (n:=9) (A_:=decide (wW s 0=⟨#[116,97,103]⟩)&&decide ((4:Int)<=((L.map S_).length:Int))) ?_ ?_
  ·all_goals refine Y V<|Y (iM bH)<|Y (fY N_)<|Y wF<|Dm ?_<;>(refine Sp 56 (fun h56=>?_) fun h56=>?_)<;>(try(with_reducible contradiction))<;>(first|refine M<|M ?_|refine J V<|J B0 ?_)<;>refine O cE ?_<;>exact Gj (h:=by(simp only[*,Zo];done))
  refine Cn ?_ ?_<;>intro hc3
  ·have h3:wW s 0=b7 A2/\_:=zP hc3;have i1:=hw0 1 X;have i2:=hw0 2 X;have z0:=FJ s 0;have z1:=FJ s 1;have z2:=FJ s 2;have hf3:=hf0 X;have hrs:(mQ s).size<=s.size:=fQ s _ _;have hlx:=fun H=>tl (mQ s) H X;have hto:HT s=((decide ((fA (mQ s)).2.1=0)&&decide ((fA (mQ s)).1.length=1))&&decide (((fA (mQ s)).1.getD 0 KC).kind=3)):=rfl;obtain ⟨R,hR⟩:∃R,R=mQ s:=X_;have hRx:s.extract ((wW s 0).size+(wW s 1).size+(wW s 2).size+3) s.size=R:=by rw[hR];rfl
   rw[<-hR]at hlx hto;obtain ⟨T,hT⟩:∃T,T=(fA R).1:=X_;obtain ⟨er,her⟩:∃e,e=(fA R).2.1:=X_;obtain ⟨pp,hpp⟩:∃e,e=(fA R).2.2:=X_;have hTr:T=(fA (mQ s)).1:=by rw[hT,hR]
   simp only[<-hT,<-her,<-hpp]at hlx hto;clear hT her hpp hR;have hmT:(T.map K_).length=T.length:=h_ _;clear h1 h2;by_cases hone:T.length=1
   ·obtain ⟨t,ht⟩:=List.length_eq_one_iff.1 hone;have hi0:(T.map K_)[0]?=some [.int .i64 t.kind,.str t.text,.int .i64 t.pos]:=by rw[ht];rfl
    have hg0:T.getD 0 KC=t:=by rw[ht];rfl
    rw[hg0,decide_eq_true hone,Bool.and_true]at hto;have hon2:decide (((T.map K_).length:Int)=1)=true:=decide_eq_true X;refine S<|aN a7<|Cq V<|Cq V<|Cq (iM bH)<|Cq (fY N_)<|Cq (gM U_)<|Cq V<|Cq (iM bH)<|Cq (fY N_)<|Cq (gM U_)<|Cq gT<|Cq V<|Cq (iM bH)<|Cq (fY N_)<|Cq (gM U_)<|Cq gT<|Cq gT<|Cq (bT (l:=(wW s 0).size+(wW s 1).size+(wW s 2).size+3) (h:=s.size) Z U_ Z Z Z hf3 (j6 _) hRx)<|Cq (kc aEV (hlx _))<|Cq V<|Cq dH<|Cq dH<|Cq dH<|Cq U<|Cq U<|Cq U<|bJ<|Kr<|S<|aR (t:=95) (n:=16) (A_:=decide (er=0)&&decide (t.kind=3)) ?_ ?_
    ·all_goals refine Y V<|Y cD<|Dm ?_<;>(refine Sp 84 (fun h84=>?_) fun h84=>?_)<;>(try(with_reducible contradiction))<;>(first|refine M<|M<|M ?_|refine J V<|J (fV cP)<|J (cL.valY (lU Z Z Z) (hon2)) ?_)<;>refine Y cE<|Dm ?_<;>(refine Sp 89 (fun h89=>?_) fun h89=>?_)<;>(try(with_reducible contradiction))<;>(first|refine M<|M<|M<|M<|M ?_|refine J V<|J (bU Z gY Z Z X (show (0:Int).toNat=0 from Z) hi0 Z)<|J (EV uR)<|J (fY M_)<|J cD ?_)<;>refine O cE ?_<;>exact Gj (h:=by(simp only[*,Zo];done))
    refine Cn ?_ ?_<;>intro hc4
    ·have hq:HT s=true:=hto.trans hc4;rw[b6 ⟨⟨h3.1,X⟩,hq⟩,<-hTr,hg0];refine S<|aN a7<|Cr [] (fun _ _=>V)<|Cr [] (fun H1 hH=>by exact bU Z bH Z Z X (show (1:Int).toNat=1 from Z) i1 Z)<|Cr [] (fun _ _=>(fY N_))<|Cr [] (fun _ _=>V)<|Cr [] (fun H1 hH=>by exact bU Z bH Z Z X (show (2:Int).toNat=2 from Z) i2 Z)<|Cr [] (fun _ _=>(fY N_))<|Cr [] (fun _ _=>V)<|Cr [] (fun H1 hH=>by exact bU Z gY Z Z X (show (0:Int).toNat=0 from Z) hi0 Z)<|Cr [] (fun _ _=>(EV iD))<|Cr [] (fun _ _=>(fY N_))<|Cr [] (fun _ _=>(oO tQ))<|Cp [2] (fun _ h=>sa aZ h)<|bJ<|Kr<|aC ?_;refine cR (H':=[]) (.inr Z) Z (CF cT aZ) (P_ (r:=av (bL ⟨3,wW s 1,a6,a6,0,0,wW s 2,t.text,[],g_⟩))) Qq
    have hq:HT s=false:=hto.trans hc4;refine aA ?_;exact⟨(),(fun h=>by have:=h.2;rw[hq]at this;cases this),Wk⟩
   have hon2:decide (((T.map K_).length:Int)=1)=false:=decide_eq_false X;rw[decide_eq_false hone,Bool.and_false,Bool.false_and]at hto;refine S<|aN a7<|Cq V<|Cq V<|Cq (iM bH)<|Cq (fY N_)<|Cq (gM U_)<|Cq V<|Cq (iM bH)<|Cq (fY N_)<|Cq (gM U_)<|Cq gT<|Cq V<|Cq (iM bH)<|Cq (fY N_)<|Cq (gM U_)<|Cq gT<|Cq gT<|Cq (bT (l:=(wW s 0).size+(wW s 1).size+(wW s 2).size+3) (h:=s.size) Z U_ Z Z Z hf3 (j6 _) hRx)<|Cq (kc aEV (hlx _))<|Cq V<|Cq dH<|Cq dH<|Cq dH<|Cq U<|Cq U<|Cq U<|bJ<|Kr<|S<|aR (t:=95) (n:=16) (A_:=false) ?_ ?_
   ·all_goals refine Y V<|Y cD<|Dm ?_<;>(refine Sp 84 (fun h84=>?_) fun h84=>?_)<;>(try(with_reducible contradiction))<;>(first|refine M<|M<|M ?_|refine J V<|J (fV cP)<|J (cL.valY (lU Z Z Z) (hon2)) ?_)<;>refine Y cE<|Dm ?_<;>(refine Sp 89 (fun h89=>?_) fun h89=>?_)<;>(try(with_reducible contradiction))<;>refine M<|M<|M<|M<|M<|O cE ?_<;>exact Gj (h:=by rfl)
   refine Cn ?_ ?_<;>intro hc5
   ·cases hc5
   refine aA ?_;exact⟨(),(fun h=>by have:=h.2;rw[hto]at this;cases this),Wk⟩
  have h3:¬ (wW s 0=b7 A2/\_):=zQ hc3;refine aA ?_;exact⟨(),(fun h=>h3 ⟨h.1.1,X⟩),Wk⟩
 rintro _ hno;rw[a8 hno];clear h1 h2 hno;refine S<|S<|aR (t:=114) (n:=9) (A_:=decide (wW s 0=⟨#[114,101,102,115]⟩)&&decide ((2:Int)<=((L.map S_).length:Int))) ?_ ?_
 ·all_goals refine Y V<|Y (iM bH)<|Y (fY N_)<|Y wF<|Dm ?_<;>(refine Sp 111 (fun h111=>?_) fun h111=>?_)<;>(try(with_reducible contradiction))<;>(first|refine M<|M ?_|refine J V<|J B0 ?_)<;>refine O cE ?_<;>exact Gj (h:=by(simp only[*,Zo];done))
 refine Cn ?_ ?_<;>intro hc6
 ·have h4:wW s 0=b7 I6/\_:=zP hc6;rw[b6 ⟨h4.1,X⟩];have i1:=hw0 1 X;refine S<|aN a7<|Cr [] (fun _ _=>V)<|Cr [] (fun _ _=>(iM bH))<|Cr [] (fun _ _=>(fY N_))<|Cr [] (fun _ _=>V)<|Cr [] (fun H1 hH=>by exact fD (l:=2) (h:=(L.map S_).length) (rows':=(L.drop 2).map S_) Z bH Z (IK _) Z Z X (j6 _) (by rw[List.take_length];exact List.map_drop.symm))<|Cr [] (fun _ _=>(oO tQ))<|Cp [2] (fun _ h=>sa aZ h)<|bJ<|Kr<|aC ?_;refine cR (H':=[]) (.inr Z) Z (CF cT aZ) (P_ (r:=av (bL ⟨4,wW s 1,a6,a6,0,0,a6,a6,L.drop 2,g_⟩))) Qq
 have h4:¬ (wW s 0=b7 I6/\_):=zQ hc6;rw[a8 (fun h=>h4 ⟨h.1,X⟩)];refine aA<|S<|S<|aR (t:=128) (n:=9) (A_:=decide (wW s 0=⟨#[100,114,111,112]⟩)&&decide (((L.map S_).length:Int)=2)) ?_ ?_
 ·all_goals refine Y V<|Y (iM bH)<|Y (fY N_)<|Y wF<|Dm ?_<;>(refine Sp 125 (fun h125=>?_) fun h125=>?_)<;>(try(with_reducible contradiction))<;>(first|refine M<|M ?_|refine J V<|J cD ?_)<;>refine O cE ?_<;>exact Gj (h:=by(simp only[*,Zo];done))
 refine Cn ?_ ?_<;>intro hc7
 ·have h5:wW s 0=b7 JA/\_:=zP hc7;rw[b6 ⟨h5.1,X⟩];have i1:=hw0 1 X;refine C V<|Y (iM bH)<|Y (fY N_)<|Y (oO tQ)<|Uu (iU aZ)<|Zz<|aC<|cR (H':=[]) (.inr Z) Z (CF cT aZ) (P_ (r:=av (bL ⟨5,wW s 1,a6,a6,0,0,a6,a6,[],g_⟩))) Qq
 have h5:¬ (wW s 0=b7 JA/\_):=zQ hc7;rw[a8 (fun h=>h5 ⟨h.1,X⟩)];refine aA<|S<|S<|aR (t:=140) (n:=9) (A_:=decide (wW s 0=⟨#[115,112,108,105,116]⟩)&&decide (((L.map S_).length:Int)=4)) ?_ ?_
 ·all_goals refine Y V<|Y (iM bH)<|Y (fY N_)<|Y wF<|Dm ?_<;>(refine Sp 137 (fun h137=>?_) fun h137=>?_)<;>(try(with_reducible contradiction))<;>(first|refine M<|M ?_|refine J V<|J cD ?_)<;>refine O cE ?_<;>exact Gj (h:=by(simp only[*,Zo];done))
 refine Cn ?_ ?_<;>intro hc8
 ·have h6:wW s 0=b7 B3/\_:=zP hc8;rw[b6 ⟨h6.1,X⟩];have i1:=hw0 1 X;have i2:=hw0 2 X;have i3:=hw0 3 X;refine S<|aN a7<|Cr [] (fun _ _=>V)<|Cr [] (fun _ _=>(iM bH))<|Cr [] (fun _ _=>(fY N_))<|Cr [] (fun _ _=>V)<|Cr [] (fun _ _=>(iM bH))<|Cr [] (fun _ _=>(fY N_))<|Cr [] (fun _ _=>V)<|Cr [] (fun _ _=>(iM bH))<|Cr [] (fun _ _=>(fY N_))<|Cr [] (fun _ _=>(oO tQ))<|Cp [2] (fun _ h=>sa aZ h)<|bJ<|Kr<|aC<|cR (H':=[]) (.inr Z) Z (CF cT aZ) (P_ (r:=av (bL ⟨6,wW s 1,wW s 3,wW s 2,0,0,a6,a6,[],g_⟩))) Qq
 have h6:¬ (wW s 0=b7 B3/\_):=zQ hc8;rw[a8 (fun h=>h6 ⟨h.1,X⟩)];refine aA<|S<|S<|aR (t:=158) (n:=9) (A_:=decide (wW s 0=⟨#[106,111,105,110]⟩)&&decide (((L.map S_).length:Int)=3)) ?_ ?_
 ·all_goals refine Y V<|Y (iM bH)<|Y (fY N_)<|Y wF<|Dm ?_<;>(refine Sp 155 (fun h155=>?_) fun h155=>?_)<;>(try(with_reducible contradiction))<;>(first|refine M<|M ?_|refine J V<|J cD ?_)<;>refine O cE ?_<;>exact Gj (h:=by(simp only[*,Zo];done))
 refine Cn ?_ ?_<;>intro hc9
 ·have h7:wW s 0=b7 I9/\_:=zP hc9;rw[b6 ⟨h7.1,X⟩];have i1:=hw0 1 X;have i2:=hw0 2 X;refine S<|aN a7<|Cr [] (fun _ _=>V)<|Cr [] (fun _ _=>(iM bH))<|Cr [] (fun _ _=>(fY N_))<|Cr [] (fun _ _=>V)<|Cr [] (fun _ _=>(iM bH))<|Cr [] (fun _ _=>(fY N_))<|Cr [] (fun _ _=>(oO tQ))<|Cp [2] (fun _ h=>sa aZ h)<|bJ<|Kr<|aC<|cR (H':=[]) (.inr Z) Z (CF cT aZ) (P_ (r:=av (bL ⟨7,wW s 1,wW s 2,a6,0,0,a6,a6,[],g_⟩))) Qq
 have h7:¬ (wW s 0=b7 I9/\_):=zQ hc9;rw[a8 (fun h=>h7 ⟨h.1,X⟩)];refine aA<|C (oO tQ)<|Uu (iU aZ)<|Zz<|aC<|cR (H':=[]) (.inr Z) Z (CF cT aZ) (P_ (r:=av (bL NZ))) Qq
abbrev RS:=List B_×Bool
abbrev sc(q:RS):Ob:=bx 2 99 [.pv (aK q.1),bv q.2]
abbrev se(q:RS):aF:=[(980,sc q)]
abbrev rr:AV:=.ref 980 0 0 0
theorem sb(q)(H):∀r∈(sc q).rows,∀a∈r,Clo H a:=H_
instance(q)(H):W_ (H) ((sc q).rows):=⟨sb q H⟩
def My(f:FuncId)(q:RS)(v:AV)(q':RS):Prop:=∀H1:aF,H1.get 980=some (sc q)->aS Tryz.prog f [rr] H1 (fun r H'=>r=v/\H'=se q'++H1)
theorem My.of{f}{q a}{v}(h:aS Tryz.prog f [rr] (se q) (fun r H'=>r=v/\H'=se a)):My f q v a:=fun H1 c=>by
 have hk:∀(q) id,980≠id->(se q).get id=none:=fun q id e=>by simp[aF.get,jP e]
 refine aS.frame h (fun id ob b=>?_) (dD.ofL ⟨sb q _,T_⟩) (by simp;rfl) (fun id hi=>?_)
 ·by_cases e:980=id
  ·subst e;cases b;exact c
  grind
 by_cases e:980=id
 ·subst e;exact .inl Z
 grind
def rN(q:RS):B_×RS:=(q.1.headD a6,(q.1.drop 1,q.2||decide (q.1.length=0)))
theorem uP(q:RS)(hq:q.1.length<2^40):My 63 q (sv (rN q).1) (rN q).2:=by
 refine My.of ?_;obtain ⟨L,b⟩:=q;rcases L with _|⟨s,L⟩
 ·refine Bd func63 Z ntmps63<|Sz U<|S<|C V<|Y sC<|Y (bD MX)<|Y (bS aH)<|Y (fV aE)<|O (cL.valY (lU Z Z Z) ((decide_eq_true Z)))<|Cn ?_ ?_<;>intro hc1
  ·refine C V<|Y sC<|Y (bD MW)<|Uu (by exact cQ Z sizeOf4 Z Z Z Z Z Z (by simp only[j8,List.length_nil];omega) (by simp only[Zl,S_];rfl) (by simp only[Zl,S_];rfl))<|Zz<|Sz U<|aC ?_;refine cR (H':=(se ([],true))) (.inr Z) Z (aJ Z) P_ ?_;exact⟨Z,by simp[rN]⟩
  cases hc1
 have hml:((s::L).map S_).length=L.length+1:=by rw[h_];rfl
 have hq2:L.length+1<2^40:=hq;refine Bd func63 Z ntmps63<|Sz U<|S<|C V<|Y sC<|Y (bD MX)<|Y (bS aH)<|Y (fV aE)<|O (cL.eqv (lU Z Z Z) (by rw[hml,decide_eq_false X]))<|Cn ?_ ?_<;>intro hc1
 ·cases hc1
 refine aA<|C V<|Y sC<|Y (bD MX)<|Y (bS aH)<|Y (bU Z bH Z Z X (l8 _) Z Z)<|Y (fY N_ (hi:=rfl))<|O U<|C V<|Y V<|Y sC<|Y (bD MX)<|Y (bS aH)<|Y (by exact fD (l:=1) (h:=((s::L).map S_).length) (rows':=L.map S_) Z bH Z (fE _) Z Z H_ (j6 _) (by rw[List.take_length];rfl))<|Y sC<|Y (bD MX)<|Uu (by exact cQ Z sizeOf22 Z Z Z Z Z Z (by simp only[j8,List.length_nil];omega) (by simp only[Zl,S_];rfl) (by simp only[Zl,S_];rfl))<|Zz<|C V<|O U<|aC ?_;refine cR (H':=(se (L,b))) (.inr Z) Z (aJ Z) P_ ?_;exact⟨Z,by simp[rN]⟩
def UD(l:List UInt8):Int:=l.foldl (fun n b=>10*n+(b.toNat:Int) - 48) 0
def xR(s:B_):Option Int:=if 7<s.size then none else if fw (UD s.data.toList)=s then some (UD s.data.toList)else none
def rU(q:RS):Int×RS:=((xR (rN q).1).getD 0,((rN q).2.1,(rN q).2.2||(xR (rN q).1).isNone))
theorem Im(l)(b):UD (l++[b])=10*UD l+(b.toNat) - 48:=by rw[UD,List.foldl_append];rfl
theorem Io:∀(l:List UInt8) (n:Int) (p:Nat),1<=p -> -(30*p - 30)<=n->n<=30*p - 30 -> -(30*((p*10 ^ l.length:Nat)) - 30)<=l.foldl (fun n b=>10*n+(b.toNat:Int) - 48) n/\l.foldl (fun n b=>10*n+(b.toNat:Int) - 48) n<=30*((p*10 ^ l.length:Nat)) - 30
 | [],n,p,_,a,c=>by simp_all
 |b::l,n,p,hp,a,c=>by
  have hb:=b.toNat_lt;have:=Io l (10*n+(b.toNat) - 48) (p*10) X X X;rw[j8,Nat.pow_succ,Nat.mul_comm (10 ^ l.length),<-Nat.mul_assoc];exact this
theorem MI{l}(h:l.length<=7): -300000000<=UD l/\UD l<=300000000:=by have h1:=Io l 0 1 (j6 _) H_ H_;have h2:10 ^ l.length<=10 ^ 7:=Nat.pow_le_pow_right H_ h;rw[UD];omega
theorem oE(q:RS)(c_:q.1.length<2^40):My 64 q (iv (rU q).1) (rU q).2:=by
 refine My.of ?_;have j:=uP q c_;rw[rU];obtain ⟨⟨s,d⟩,G⟩:∃p,p=rN q:=X_;rw[<-G]at j |-;clear G;dsimp only at j |-;obtain ⟨l,w⟩:∃l,l=s.data.toList:=X_;have hsl:l.length=s.size:=F_
 have z:∀i b,l[i]?=some b->bA s i=(b.toNat:Int):=fun i b h=>by rw[bA,<-w,h];rfl
 have k:xR s=none->((xR s).getD 0,(d.1,d.2||(xR s).isNone))=(0,(d.1,true)):=fun h=>by simp_all
 have g:xR s=some (UD l)->((xR s).getD 0,(d.1,d.2||(xR s).isNone))=(UD l,d):=fun h=>by simp_all
 obtain ⟨y_,D⟩:∃y_,y_=((xR s).getD 0,(d.1,d.2||(xR s).isNone)):=X_;rw[<-D]at k g;show aS Tryz.prog _ [rr] (se q) (fun r K=>r=iv (((xR s).getD 0,(d.1,d.2||(xR s).isNone)):Int×RS).1/\K=se (((xR s).getD 0,(d.1,d.2||(xR s).isNone)):Int×RS).2);rw[<-D];clear D;refine Bd func64 Z ntmps64<|Sz U<|C V<|Y (kc qT (j _ Z))<|O U<|Sz U<|S<|C V<|Y (gM U_)<|O iY<|Cn ?_ ?_<;>intro t
 ·have v:7<s.size:=by have:=b9 t;omega
  rw[k (by rw[xR,b6 v])];refine C V<|Y sC<|Y (bD MW)<|Uu (by exact cQ Z sizeOf4 Z Z Z Z Z Z F_ (by simp only[Zl,S_];rfl) (by simp only[Zl,S_];rfl))<|Zz<|Sz U<|aC ?_;refine cR (H':=(se (d.1,true))) (.inr Z) Z (aJ Z) P_ ?_;exact Qq
 have v:¬ 7<s.size:=by have:=b_ t;omega
 refine aA<|S<|Sz U<|aD<|bC (σ:=Nat) (fun i=>([(0,rr),(3,sv s),(4,iv (UD (l.take i))),(5,iv (i:Int))],[(980,sc d)])) (fun i=>i<=l.length) (fun i=>l.length - i) 0 (l6 _) ?_ ?_
 ·exact Wk
 intro i hi;have d_:=MI (l:=l.take i) G_;by_cases x:i<l.length
 ·obtain ⟨b,I⟩:=aU x;have y:=z i b I;have hb256:=b.toNat_lt;have n:UD (l.take (i+1))=10*UD (l.take i)+(b.toNat:Int) - 48:=by rw[fN I,Im]
  refine S<|C V<|Y V<|Y (gM U_)<|O cM<|Cn ?_ ?_<;>intro F
  ·refine aA<|S<|aD<|Rd V<|Y (qM Z Z Z (qD X X))<|Y V<|Y V<|Y (ky U_)<|Y (eP Z dM underlying3 Z (show IntKind.i64.wrap (bA s i)=(b.toNat:Int)by rw[y,qD X X]))<|Y (eQ Z Z Z (qD X X))<|Y (dP Z Z Z (show IntKind.i64.wrap (10*UD (l.take i)+(b.toNat:Int) - 48)=UD (l.take (i+1))by rw[n,qD X X]))<|O U<|Rd V<|Y kp<|Da ?_;exact⟨i+1,X,X,Wk⟩
  (have h:=b_ F;omega)
 have o:i=l.length:=X
 subst o;rw[List.take_length]at d_ |-;have u:=fun H=>aAe (UD l) X X H;refine S<|C V<|Y V<|Y (gM U_)<|O cM<|Cn ?_ ?_<;>intro E
 ·(have h:=b9 E;omega)
 refine aP<|S<|C V<|Y (kc jE (u _))<|Y V<|O GU<|Cn ?_ ?_<;>intro m
 ·have A:¬ fw (UD l)=s:=by have:=m;intro e;rw[decide_eq_true e]at this;cases this
  rw[k (by rw[xR,a8 v,<-w,a8 A])];refine C V<|Y sC<|Y (bD MW)<|Uu (by exact cQ Z sizeOf4 Z Z Z Z Z Z (by simp only[j8,List.length_nil];omega) (by simp only[Zl,S_];rfl) (by simp only[Zl,S_];rfl))<|Zz<|Sz U<|aC ?_;refine cR (H':=(se (d.1,true))) (.inr Z) Z (aJ Z) P_ ?_;exact Qq
 have B:fw (UD l)=s:=by have:=m;rw[Bool.not_eq_false']at this;exact b9 this
 rw[g (by rw[xR,a8 v,<-w,b6 B])];refine aA<|C V<|O U<|aC<|cR (H':=(se d)) (.inr Z) Z (aJ Z) P_ Qq
def rL(q:RS):List B_×RS:=if((rU q).2.1.length:Int)<(rU q).1\/(rU q).1<0 then([],((rU q).2.1,true))else((rU q).2.1.take (rU q).1.toNat,((rU q).2.1.drop (rU q).1.toNat,(rU q).2.2))
def rZ(q:RS):m9×RS:=(⟨(rU q).1,(rL (rU q).2).1,(rL (rL (rU q).2).2).1⟩,(rL (rL (rU q).2).2).2)
theorem Yn(q):(rN q).2.1.length<=q.1.length:=by show (q.1.drop 1).length<=_;simp_all
theorem YB(q):(rU q).2.1.length<=q.1.length:=Yn q
theorem Yo(q):(rL q).2.1.length<=q.1.length:=by
 have:=YB q;rw[rL]
 split
 ·exact this
 grind
theorem O9(q:RS)(F:q.1.length<2^40):My 65 q (.pv (aK (rL q).1)) (rL q).2:=by
 refine My.of ?_;have l:=oE q F;have r:=YB q;have e:((rU q).2.1.length:Int)<(rU q).1\/(rU q).1<0->rL q=([],((rU q).2.1,true)):=fun h=>by rw[rL,b6 h]
 have d:¬ (((rU q).2.1.length:Int)<(rU q).1\/(rU q).1<0)->rL q=((rU q).2.1.take (rU q).1.toNat,((rU q).2.1.drop (rU q).1.toNat,(rU q).2.2)):=fun h=>by rw[rL,a8 h]
 obtain ⟨y_,D⟩:∃y_,y_=rL q:=X_;rw[<-D]at e d |-;obtain ⟨⟨n,L,b⟩,d_⟩:∃p,p=rU q:=X_;rw[<-d_]at l r e d;clear d_ D;dsimp only at l r e d;have t:(L.map S_).length=L.length:=h_ _;refine Bd func65 Z ntmps65<|Sz U<|C V<|Y (kc qS (l _ Z))<|O U<|S<|S<|aR (t:=18) (n:=12) (A_:=decide (((L.map S_).length:Int)<n)||decide (n<0)) ?_ ?_
 ·all_goals refine Y V<|Y V<|Y sC<|Y (bD MX)<|Y (bS aH)<|Y (fV aE)<|Y iY<|Dm ?_<;>(refine Sp 15 (fun A=>?_) fun A=>?_)<;>(first|contradiction|refine M<|M ?_|refine J V<|J cM ?_)<;>refine O cE ?_<;>(exact⟨⟨_,Z,G_⟩,Z,Z,Z⟩)
 refine Cn ?_ ?_<;>intro o
 ·have j:=o;rw[t,Bool.or_eq_true,k_,k_]at j;rw[e j];refine C V<|Y sC<|Y (bD MW)<|Uu (by exact cQ Z sizeOf4 Z Z Z Z Z Z F_ (by simp only[Zl,S_];rfl) (by simp only[Zl,S_];rfl))<|Zz<|Sz U<|aC ?_;refine cR (H':=(se (L,true))) (.inr Z) Z (aJ Z) (P_ (r:=.pv (aK []))) ?_;exact Qq
 have j:=o;rw[t,q9,p_,p_]at j;rw[d (fun h=>h.elim j.1 j.2)];obtain ⟨hb1,hb2⟩:=j;obtain ⟨k,rfl⟩:∃k:Nat,n=(k:Int):=⟨n.toNat,X⟩;rw[l8];have u:∀i,i<=k->(L.take i).length=i:=fun i w=>by grind
 refine aA<|Sz (eF (id:=905) (sz:=1) (ty:=9) Z Z Z)<|S<|Sz U<|aD<|bC (σ:=Nat) (fun i=>([(0,rr),(3,iv (k:Int)),(4,.osl 905 i 0 i),(5,iv (i:Int))],[(905,⟨i,1,9,bZ (L.take i)⟩),(980,sc (L.drop i,b))])) (fun i=>i<=k) (fun i=>k - i) 0 (l6 _) ?_ ?_
 ·exact L_
 intro i w;refine S<|C V<|Y V<|O cM<|Cn ?_ ?_<;>intro m
 ·have hik:i<k:=by have:=b9 m;omega
  obtain ⟨s,z⟩:=aU (l:=L) (k:=i) X;have B:L.drop i=s::L.drop (i+1):=by
   have E:=(m_.1 z).1;rw[List.drop_eq_getElem_cons E,(m_.1 z).2]
  have x:My 63 (L.drop i,b) (sv s) (L.drop (i+1),b):=by
   have:=uP (L.drop i,b) G_;rw[rN]at this
   simpa[B]using this
  have y:=fN z;have g:=u i w;refine aA<|S<|aD<|Rd V<|Y V<|Y (kc qT (x _ Z))<|Y (aL [[.str s]] Z bH Z Z Z Z Z F_)<|Y (by exact cA (k:=i+1) (ps:=[[.str s]]) Z bH xE Z Z Z Z Z ((eH _).trans g) Z F_ (m:=1) Z X Z (rows':=bZ (L.take (i+1))) (by rw[y];exact gO _ s))<|O U<|Rd V<|Y kp<|Da ?_;exact⟨i+1,X,X,L_⟩
 have v:i=k:=by have:=b_ m;omega
 subst v;have g:=u i w;refine aP<|C V<|O U<|aC ?_;refine cR (H':=(se (L.drop i,b))) (.inr Z) Z (aJ Z) (Fin.fz (id:=905) (ob:=⟨i,1,9,bZ (L.take i)⟩) (r':=.pv (aK (L.take i))) ((L.take i).map S_) Z (eC _) (.osl (HM S_ _ g)) Z ⟨⟨_,Z,Z⟩,(by(simp;done)),T_⟩ ⟨Z,T_⟩) ?_;exact Qq
theorem rh(q:RS)(i:q.1.length<2^40):My 66 q (av (lE (rZ q).1)) (rZ q).2:=by refine My.of ?_;have h:=oE q i;have f:=O9 (rU q).2 (Nat.lt_of_le_of_lt (YB q) i);have d:=O9 (rL (rU q).2).2 (Nat.lt_of_le_of_lt (Yo _) (Nat.lt_of_le_of_lt (YB q) i));rw[rZ];obtain ⟨⟨n,k⟩,j⟩:∃p,p=rU q:=X_;rw[<-j]at h f d |-;dsimp only at h f d |-;obtain ⟨⟨a,m⟩,e⟩:∃p,p=rL k:=X_;rw[<-e]at f d |-;dsimp only at f d |-;obtain ⟨⟨c,l⟩,g⟩:∃p,p=rL m:=X_;rw[<-g]at d |-;dsimp only at d |-;clear j e g;refine Bd func66 Z ntmps66<|Sz (kl 2 Z3)<|Sz (kl 3 Z3)<|C V<|Y (kc qS (h _ Z))<|Y (bD C2)<|Uu (ku sizeOf3)<|Zz<|C V<|Y (kc Nr (f _ Z))<|Y (bD vV)<|Uu (ku sizeOf22)<|Zz<|C V<|Y (kc Nr (d _ Z))<|Y (bD vU)<|Uu (ku sizeOf22)<|Zz<|C (vC gN sizeOf48)<|Uu (iU sizeOf48)<|Zz<|aC ?_;refine cR (H':=(se l)) (.inr Z) Z (eV Z gN sizeOf48 Z Z Z (by simp only[Zl,S_];rfl) Z) P_ ?_;exact Qq
theorem E6(l:List B_)(H:aF)(t:df l):RC 114 [.pv (aK l)] (bv (l.all l9)) H:=by
 refine Pu ?_;obtain ⟨hl1,o⟩:=t;have hml:(l.map S_).length=l.length:=h_ _;refine Bd func114 Z ntmps114<|Sz U<|S<|Sz U<|aD<|bC (σ:=Nat) (fun k=>([(0,.pv (aK l)),(3,iv (k:Int))],[])) (fun k=>k<=l.length/\∀j,j<k->∀b,l[j]?=some b->l9 b=true) (fun k=>l.length - k) 0 ⟨X,X⟩ ?_ ?_
 ·exact Wk
 rintro k ⟨hk,f⟩;refine S<|C V<|Y V<|Y (fV aE)<|O cM<|Cn ?_ ?_<;>intro e
 ·have i:k<l.length:=by have:=b9 e;omega
  obtain ⟨s,g⟩:=aU i;have q:=cC (f:=S_) g;have hsz:=o s (m7 g);have p:=fun H=>Wh s X H;have d:=fun h=>PN (p:=l9) g h;refine aA<|S<|aD<|C V<|Y V<|Y (bU Z bH Z Z X (by rfl) q Z)<|Y (fY N_ (hi:=q))<|Y (kc call37 (p _))<|O iT<|Cn ?_ ?_<;>intro c
  ·have n:=not_not c;rw[d n];exact Sz U<|aC<|Rt<|Qq
  have n:=qN c;refine aA<|Rd V<|Y kp<|Da ?_;exact⟨k+1,⟨X,FK f g n⟩,X,Wk⟩
 have m:k=l.length:=by have:=b_ e;omega
 subst m;rw[K5 f];exact aP<|Sz U<|aC<|Rt<|Qq
theorem Cg(s:m9)(H:aF)(hs:xQ s):RC 169 [av (lE s)] (bv (AZ s)) H:=by
 refine aS.pure ?_ F_ H;have hX:AZ s=((decide (s.idx=0)&&decide (((s.sig.map S_).length:Int)=0))&&decide (((s.path.map S_).length:Int)=0)):=by
  rw[AZ,Bool.and_assoc]
  grind
 refine Bd func169 Z ntmps169<|C (kb 1)<|O U<|S<|aR (t:=2) (n:=18) (A_:=AZ s) ?_ ?_
 ·all_goals refine Y (bD C2)<|Y (bS M_)<|Y cD<|Dm ?_<;>(refine Sp 6 (fun d=>?_) fun d=>?_)<;>(first|contradiction|refine M<|M<|M<|M ?_|refine J (bD vV)<|J (bS aH)<|J (fV aE)<|J cD ?_)<;>refine Y cE<|Dm ?_<;>(refine Sp 12 (fun c=>?_) fun c=>?_)<;>(first|refine M<|M<|M<|M ?_|refine J (bD vU)<|J (bS aH)<|J (fV aE)<|J cD ?_)<;>refine Y cE<|Da ?_<;>exact Gj (h:=by simp_all)
 exact aC<|Rt<|Qq
theorem SN(s:m9)(H:aF)(n:xQ s):RC 116 [av (lE s)] (bv (kV s)) H:=by
 refine aS.pure ?_ F_ H;have o:=fun H=>Cg s H n;obtain ⟨⟨i1,i2⟩,q,u⟩:=n;have g:=fun H=>E6 s.sig H q;have h:=fun H=>E6 s.path H u;have t:decide (s.idx<256)=decide (s.idx<=255):=by
  grind
 have k:kV s=(AZ s||(((((decide (0<=s.idx)&&decide (s.idx<=255))&&decide (((s.sig.map S_).length:Int)=18))&&decide (((s.path.map S_).length:Int)<=8))&&s.sig.all l9)&&s.path.all l9)):=by rw[kV,t]
 obtain ⟨z,f⟩:∃z,z=AZ s:=X_;obtain ⟨d1,e⟩:∃d,d=s.sig.all l9:=X_;obtain ⟨d2,c⟩:∃d,d=s.path.all l9:=X_;rw[<-f]at o k;rw[<-e]at g k;rw[<-c]at h k;clear f e c;refine Bd func116 Z ntmps116<|C (kb 1)<|O U<|S<|aR (t:=2) (n:=41) (A_:=kV s) ?_ ?_
 ·all_goals refine Y (by exact aW Z gN sizeOf48 Z Z Z Z (by simp only[Zl,S_];rfl) Z) ?_
  all_goals refine Y (kc call169 (o _))<|Dm ?_<;>(refine Sp 5 (fun v=>?_) fun v=>?_)<;>(first|contradiction|refine M<|M<|M<|M ?_|refine J (bD C2)<|J (bS M_)<|J B0<|J V ?_)<;>(first|refine Sp 9 (fun p=>?_) fun p=>?_|refine kI (t:=9) Z ?_)<;>(first|contradiction|refine M ?_|refine Fu ?_|refine J (bD C2) ?_)<;>(first|refine M ?_|refine Fu ?_|refine J (bS M_) ?_)<;>(first|refine M ?_|refine Fu ?_|refine J IA ?_)<;>(first|refine M<|M ?_|refine J cE<|J V ?_)<;>(first|refine Sp 14 (fun m=>?_) fun m=>?_|refine kI (t:=14) Z ?_)<;>(first|contradiction|refine M ?_|refine Fu ?_|refine J (bD vV) ?_)<;>(first|refine M ?_|refine Fu ?_|refine J (bS aH) ?_)<;>(first|refine M ?_|refine Fu ?_|refine J (fV aE) ?_)<;>(first|refine M ?_|refine Fu ?_|refine J cD ?_)<;>(first|refine M<|M ?_|refine J cE<|J V ?_)<;>(first|refine Sp 20 (fun i=>?_) fun i=>?_|refine kI (t:=20) Z ?_)<;>(first|contradiction|refine M ?_|refine Fu ?_|refine J (bD vU) ?_)<;>(first|refine M ?_|refine Fu ?_|refine J (bS aH) ?_)<;>(first|refine M ?_|refine Fu ?_|refine J (fV aE) ?_)<;>(first|refine M ?_|refine Fu ?_|refine J IA ?_)<;>(first|refine M<|M ?_|refine J cE<|J V ?_)<;>(first|refine Sp 26 (fun j=>?_) fun j=>?_|refine kI (t:=26) Z ?_)<;>(first|contradiction|refine M ?_|refine Fu ?_|refine J (bD vV) ?_)<;>(first|refine M ?_|refine Fu ?_|refine J (bS aH) ?_)<;>(first|refine M ?_|refine Fu ?_|refine J (kc aEY (g _)) ?_)<;>(first|refine M<|M ?_|refine J cE<|J V ?_)<;>(first|refine Sp 31 (fun l=>?_) fun l=>?_|refine kI (t:=31) Z ?_)<;>(first|contradiction|refine M ?_|refine Fu ?_|refine J (bD vU) ?_)<;>(first|refine M ?_|refine Fu ?_|refine J (bS aH) ?_)<;>(first|refine M ?_|refine Fu ?_|refine J (kc aEY (h _)) ?_)<;>(first|refine M ?_|refine J cE ?_)<;>refine Y cE<|Da ?_<;>(exact⟨⟨_,Z,G_⟩,Z,Z,Z⟩)
 exact aC<|Rt<|Qq
def sK:List B_->Bool
 |a::b::r=>lY a b&&sK (b::r)
 |_=>true
theorem fy:∀(l),(fJ l).length<=l.length
 | []=>j6 _
 | [x]=>j6 _
 |x::y::r=>by
  have ih:=fy (y::r);show (if x=y then fJ _ else x::fJ _).length<=_
  grind
theorem SC:∀(l),Jn l=sK l
 | []=>rfl
 | [x]=>rfl
 | x::y::r=>by
  have d:=SC (y::r);have hl:=fy (y::r);rw[Jn,h_]at d |-;show ((!lY y x&&nM _)&&decide (((if x=y then fJ _ else x::fJ _).length:Int)=_))=(lY x y&&sK _);by_cases e:x=y
  ·rw[b6 e,e,FQ,Bool.false_and,decide_eq_false (by have h9:(y::y::r).length=(y::r).length+1:=rfl;omega),Bool.and_false]
  rw[Bool.and_assoc];have h1:(!lY y x)=lY x y:=by
   cases c:lY x y
   ·cases b:lY y x
    ·exact absurd (FO c b) e
    rfl
   cases b:lY y x
   ·rfl
   have:=FP c b;rw[FQ]at this;cases this
  simp_all
theorem wm{l:List _}{k}{a b}(f:l[k]?=some a)(c:l[k+1]?=some b):sK (l.drop k)=(lY a b&&sK (l.drop (k+1))):=by obtain ⟨h,e⟩:=m_.1 f;obtain ⟨g,d⟩:=m_.1 c;rw[List.drop_eq_getElem_cons h,List.drop_eq_getElem_cons g,e,d];rfl
theorem XR{l}(h:l.length<=1):sK l=true:=by
 match l,h with
 | [],_=>rfl
 | [a],_=>rfl
def Yv(p:GPriv):Bool:=(((decide (200<(p.name.size:Int))||decide (200<(p.reason.size:Int)))||decide (16<((p.sources.map S_).length:Int)))||decide (200<((p.trace.map jW).length:Int)))||!kV p.sl
def me(q:Int×Int):Bool:=Y9 q.1 q.2
def sN(s:B_):Bool:=!KJ s
def BC(p:GPriv):Bool:=!Yv p&&(p.sources.all sN&&p.trace.all me)
theorem Hg{p}(h:Yv p=true):BC p=false:=by rw[BC,h];rfl
theorem Hf{p}(h:p.sources.all sN=false):BC p=false:=by rw[BC,h,Bool.false_and,Bool.and_false]
theorem He{p}(h:p.trace.all me=false):BC p=false:=by rw[BC,h,Bool.and_false,Bool.and_false]
theorem Hd{p}(a:Yv p=false)(c:p.sources.all sN=true)(b:p.trace.all me=true):BC p=true:=by rw[BC,a,c,b];rfl
theorem cj(p:GPriv)(H:aF)(e_:mg p):RC 117 [av (wT p)] (bv (BC p)) H:=by
 refine aS.pure ?_ F_ H;have N:=fun H=>SN p.sl H e_.2.2.2.2;obtain ⟨q1,q2,⟨q3,B⟩,q4,_⟩:=e_;have hms:(p.sources.map S_).length=p.sources.length:=h_ _;have hmt:(p.trace.map jW).length=p.trace.length:=h_ _;have K:=fun h=>Hg (p:=p) h;have G:=fun h=>Hf (p:=p) h;have F:=fun h=>He (p:=p) h;have E:=fun P Q R=>Hd (p:=p) P Q R;obtain ⟨f,u⟩:∃f,f=kV p.sl:=X_;have hX:Yv p=((((decide (200<(p.name.size:Int))||decide (200<(p.reason.size:Int)))||decide (16<((p.sources.map S_).length:Int)))||decide (200<((p.trace.map jW).length:Int)))||!f):=by rw[Yv,<-u]
 rw[<-u]at N;refine Bd func117 Z ntmps117<|C (kb 1)<|O U<|S<|S<|aR (t:=32) (n:=32) (A_:=Yv p) ?_ ?_
 ·all_goals refine Y (bD IJ)<|Y (bS N_)<|Y (gM U_)<|Y iY<|Dm ?_<;>(refine Sp 9 (fun o_=>?_) fun o_=>?_)<;>(first|contradiction|refine M<|M<|M<|M ?_|refine J (bD II)<|J (bS N_)<|J (gM U_)<|J iY ?_)<;>refine Y cE<|Dm ?_<;>(refine Sp 15 (fun c_=>?_) fun c_=>?_)<;>(first|contradiction|refine M<|M<|M<|M ?_|refine J (bD yD)<|J (bS aH)<|J (fV aE)<|J iY ?_)<;>refine Y cE<|Dm ?_<;>(refine Sp 21 (fun A=>?_) fun A=>?_)<;>(first|contradiction|refine M<|M<|M<|M ?_|refine J (bD sX)<|J (bS jS)<|J (fV fW)<|J iY ?_)<;>refine Y cE<|Dm ?_<;>(refine Sp 27 (fun I=>?_) fun I=>?_)<;>(first|contradiction|refine M<|M<|M<|M ?_|refine J (bD E4)<|J (vC gN sizeOf48)<|J (kc call116 (N _))<|J iT ?_)<;>refine O cE ?_<;>(exact⟨⟨_,Z,G_⟩,Z,Z,Z⟩)
 refine Cn ?_ ?_<;>intro v
 ·have z:=v;rw[K z];exact Sz U<|aC<|Rt<|Qq
 have z:=v;refine aA<|S<|Sz U<|aD<|bC (σ:=Nat) (fun k=>([(1,.ref 1 0 0 0),(3,iv (k:Int))],[(1,bx 7 51 ((wT p).map .pv))])) (fun k=>k<=p.sources.length/\∀j,j<k->∀b,p.sources[j]?=some b->sN b=true) (fun k=>p.sources.length - k) 0 ⟨X,X⟩ ?_ ?_
 ·exact E0
 rintro k ⟨L,e⟩;refine S<|C V<|Y (bD yD)<|Y (bS aH)<|Y (fV aE)<|O cM<|Cn ?_ ?_<;>intro x
 ·have m:k<p.sources.length:=by have:=b9 x;omega
  obtain ⟨s,i⟩:=aU m;have w:=cC (f:=S_) i;have hsz:=B s (m7 i);have g:=fun h=>PN (p:=sN) i h;refine aA<|S<|aD<|C (bD yD)<|Y (bS aH)<|Y V<|Y (kx bH w)<|Y (fY N_ (hi:=w))<|Y (gM U_)<|O iY<|Cn ?_ ?_<;>intro o
  ·have d:sN s=false:=by rw[sN,KJ,o];rfl
   rw[G (g d)];exact Sz U<|aC<|Rt<|Qq
  have d:sN s=true:=by rw[sN,KJ,o];rfl
  refine aA<|Rd V<|Y kp<|Da ?_;exact⟨k+1,⟨X,FK e i d⟩,X,E0⟩
 have l:k=p.sources.length:=by have:=b_ x;omega
 subst l;have D:=K5 e;refine aP<|S<|Sz U<|aD<|bC (σ:=Nat) (fun k=>([(1,.ref 1 0 0 0),(4,iv (k:Int))],[(1,bx 7 51 ((wT p).map .pv))])) (fun k=>k<=p.trace.length/\∀j,j<k->∀b,p.trace[j]?=some b->me b=true) (fun k=>p.trace.length - k) 0 ⟨X,X⟩ ?_ ?_
 ·exact E0
 clear e L;rintro k ⟨L,e⟩;refine S<|C V<|Y (bD sX)<|Y (bS jS)<|Y (fV fW)<|O cM<|Cn ?_ ?_<;>intro n
 ·have m:k<p.trace.length:=by have:=b9 n;omega
  obtain ⟨q,i⟩:=aU m;have w:=cC (f:=jW) i;have d_:=fun H=>Gk q.1 q.2 H;have g:=fun h=>PN (p:=me) i h;refine aA<|S<|aD<|C (bD sX)<|Y (bS jS)<|Y V<|Y (kx TU w)<|Y (by exact eU Z eB sizeOf104 Z w (by simp only[Zl,S_];rfl) Z)<|Y (kc aES (d_ _))<|O iT ?_;refine Cn ?_ ?_<;>intro t
  ·have d:=not_not t;rw[F (g d)];exact Sz U<|aC<|Rt<|Qq
  have d:=qN t;refine aA<|Rd V<|Y kp<|Da ?_;exact⟨k+1,⟨X,FK e i d⟩,X,E0⟩
 have l:k=p.trace.length:=by have:=b_ n;omega
 subst l;rw[E z D (K5 e)];exact aP<|Sz U<|aC<|Rt<|Qq
def o0G(r:j7):Bool:=decide (r.kind=1)||(decide (r.kind=3)&&decide (r.order=3))
def o1G(r:j7):Bool:=!o0G r&&decide (0<((r.edits.map bL).length:Int))
def o2G(r:j7):Bool:=o0G r&&!decide ((dW r.edits).2=0)
def o3a(r:j7):Bool:=decide (r.kind=2)||decide (r.kind=3)
def o3G(r:j7):Bool:=if o3a r=true then !l9 r.target else !decide (r.target=a6)
def o4G(r:j7):Bool:=(decide (r.kind=3)&&(decide (r.order<1)||decide (4<r.order)))||(!decide (r.kind=3)&&!decide (r.order=0))
def o5G(r:j7):Bool:=(decide (r.kind=4)&&(!cG r.from'||decide (r.from'=r.branch)))||(!decide (r.kind=4)&&!decide (r.from'=a6))
def o6G(r:j7):Bool:=decide (r.kind=2)||!r.yes
def DR(r:j7):Bool:=!o1G r&&(!o2G r&&(!o3G r&&(!o4G r&&(!o5G r&&o6G r))))
theorem Rw{r}(h:o1G r=true):DR r=false:=by rw[DR,h];rfl
theorem Rv{r}(h:o2G r=true):DR r=false:=by rw[DR];all_goals simp_all
theorem Rs{r}(h:o3G r=true):DR r=false:=by rw[DR];all_goals simp_all
theorem Rr{r}(h:o4G r=true):DR r=false:=by rw[DR];all_goals simp_all
theorem Rq{r}(h:o5G r=true):DR r=false:=by rw[DR];all_goals simp_all
theorem Rp{r}(e:o1G r=false)(d:o2G r=false)(b:o3G r=false)(c:o4G r=false)(a:o5G r=false):DR r=o6G r:=by rw[DR,e,d,b,c,a];rfl
theorem Rx(r:j7)(H:aF)(hr:mI r)(hrf:∀e∈r.edits,e.refs.length<2^40):RC 115 [av (dR r)] (bv (DR r)) H:=by
 refine aS.pure ?_ F_ H;obtain ⟨_,⟨b1,b2,b3⟩,_,⟨e1,e2⟩,_⟩:=hr;have A:=fun H=>QY r.edits H e1 e2 hrf;have o_:=fun H=>Wh r.target X H;have E:=fun H=>kZ r.from' H X
 have n:=fun h=>Rw (r:=r) h;have hn2:=fun h=>Rv (r:=r) h;have hn3:=fun h=>Rs (r:=r) h;have hn4:=fun h=>Rr (r:=r) h;have hn5:=fun h=>Rq (r:=r) h;have hye:=fun v_ u_ T f_ A_=>Rp (r:=r) v_ u_ T f_ A_;have hX0:o0G r=(decide (r.kind=1)||(decide (r.kind=3)&&decide (r.order=3))):=rfl;have B:o1G r=(!o0G r&&decide (0<((r.edits.map bL).length:Int))):=rfl;have hX2:o2G r=(o0G r&&!decide ((dW r.edits).2=0)):=rfl;have p:o3a r=(decide (r.kind=2)||decide (r.kind=3)):=rfl;have hX3:o3G r=if o3a r=true then !l9 r.target else !decide (r.target=a6):=rfl
 have hX4:o4G r=((decide (r.kind=3)&&(decide (r.order<1)||decide (4<r.order)))||(!decide (r.kind=3)&&!decide (r.order=0))):=rfl;obtain ⟨nm,t⟩:∃nm,nm=cG r.from':=X_
 have s:o5G r=((decide (r.kind=4)&&(!nm||decide (r.from'=r.branch)))||(!decide (r.kind=4)&&!decide (r.from'=a6))):=by rw[o5G,<-t]
 rw[<-t]at E;have Q:o6G r=(decide (r.kind=2)||!r.yes):=rfl;obtain ⟨te,R⟩:∃te,te=dW r.edits:=X_;rw[<-R]at A hX2;obtain ⟨ij,e_⟩:∃ij,ij=l9 r.target:=X_;rw[<-e_]at o_ hX3;clear t R e_;obtain ⟨o0,h0⟩:∃o,o=o0G r:=X_;obtain ⟨o1,v_⟩:∃o,o=o1G r:=X_;obtain ⟨W,u_⟩:∃o,o=o2G r:=X_;obtain ⟨oa,ha⟩:∃o,o=o3a r:=X_;obtain ⟨F,T⟩:∃o,o=o3G r:=X_;obtain ⟨o4,f_⟩:∃o,o=o4G r:=X_;obtain ⟨o5,A_⟩:∃o,o=o5G r:=X_;obtain ⟨o6,h6⟩:∃o,o=o6G r:=X_;rw[<-h0]at hX0 B hX2;rw[<-v_]at B n hye;rw[<-u_]at hX2 hn2 hye;rw[<-ha]at p hX3;rw[<-T]at hX3 hn3 hye;rw[<-f_]at hX4 hn4 hye;rw[<-A_]at s hn5 hye;rw[<-h6]at Q hye;clear h0 v_ u_ ha T f_ A_ h6;obtain ⟨ow,P⟩:∃o,o=DR r:=X_;rw[<-P]at n hn2 hn3 hn4 hn5 hye |-;clear P;refine Bd func115 Z ntmps115<|C (kb 1)<|O U<|S<|aR (t:=3) (n:=16) (A_:=o0) ?_ ?_
 ·all_goals refine Y (bD oJ)<|Y (bS M_)<|Y cD<|Dm ?_<;>(refine Sp 9 (fun h9=>?_) fun h9=>?_)<;>(first|contradiction|refine M<|M<|M<|M ?_|refine J (bD oJ)<|J (bS M_)<|J cD<|J V ?_)<;>(first|refine Sp 13 (fun h13=>?_) fun h13=>?_|refine kI (t:=13) Z ?_)<;>(first|contradiction|refine M ?_|refine Fu ?_|refine J (bD yC) ?_)<;>(first|refine M ?_|refine Fu ?_|refine J (bS M_) ?_)<;>(first|refine M ?_|refine Fu ?_|refine J cD ?_)<;>(first|refine M ?_|refine J cE ?_)<;>refine Y cE<|Da ?_<;>exact Gj (h:=by simp_all)
 refine S<|S<|aR (t:=26) (n:=9) (A_:=o1) ?_ ?_
 ·all_goals refine Y V<|Y iT<|Dm ?_<;>(refine Sp 21 (fun h21=>?_) fun h21=>?_)<;>(first|contradiction|refine M<|M<|M<|M ?_|refine J (bD C0)<|J (bS oT)<|J (fV eS)<|J iY ?_)<;>refine O cE ?_<;>exact Gj (h:=by simp_all)
 refine Cn ?_ ?_<;>intro I
 ·rw[n I];exact Sz U<|aC<|Rt<|Qq
 have k1:=I;refine aA<|eN (fun(_:Unit)=>([(1,.ref 1 0 0 0)],[(1,bx 21 53 ((dR r).map .pv))])) (fun _=>W=false) ?_ ?_
 ·refine Sz V<|Cn ?_ ?_<;>intro hc2
  ·refine C (bD C0)<|Y (bS oT)<|Y (kc aEZ (A _))<|Y V<|Y dH<|Y dH<|Y U<|O U<|C V<|O AY<|Cn ?_ ?_<;>intro hc3
   ·have v:W=true:=by rw[hX2];simp_all
    rw[hn2 v];exact Sz U<|aC<|Rt<|Qq
   have v:W=false:=by rw[hX2];simp_all
   refine aA ?_;exact⟨(),v,E0⟩
  have v:W=false:=by rw[hX2,hc2];rfl
  refine aA ?_;exact⟨(),v,E0⟩
 rintro _ v;refine eN (fun(_:Unit)=>([(1,.ref 1 0 0 0)],[(1,bx 21 53 ((dR r).map .pv))])) (fun _=>F=false) ?_ ?_
 ·refine S<|aR (t:=43) (n:=9) (A_:=oa) ?_ ?_
  ·all_goals refine Y (bD oJ)<|Y (bS M_)<|Y cD<|Dm ?_<;>(refine Sp 39 (fun D=>?_) fun D=>?_)<;>(first|contradiction|refine M<|M<|M ?_|refine J (bD oJ)<|J (bS M_)<|J cD ?_)<;>refine O cE ?_<;>exact Gj (h:=by(rw[p,D];rfl))
  refine Cn ?_ ?_<;>intro z
  ·have y_:=z;rw[y_]at hX3;refine C (bD CZ)<|Y (bS N_)<|Y (kc call37 (o_ _))<|O iT<|Cn ?_ ?_<;>intro c_
   ·have k3:F=true:=by rw[hX3,c_];rfl
    rw[hn3 k3];exact Sz U<|aC<|Rt<|Qq
   have k3:F=false:=by rw[hX3,c_];rfl
   refine aA ?_;exact⟨(),k3,E0⟩
  have y_:=z;rw[y_]at hX3;refine C (bD CZ)<|Y (bS N_)<|O GU<|Cn ?_ ?_<;>intro K
  ·have k3:F=true:=by rw[hX3,K];rfl
   rw[hn3 k3];exact Sz U<|aC<|Rt<|Qq
  have k3:F=false:=by rw[hX3,K];rfl
  refine aA ?_;exact⟨(),k3,E0⟩
 rintro _ k3;refine S<|S<|aR (t:=73) (n:=27) (A_:=o4) ?_ ?_
 ·all_goals refine Y (bD oJ)<|Y (bS M_)<|Y cD<|Dm ?_<;>(refine Sp 54 (fun h54=>?_) fun h54=>?_)<;>(first|contradiction|refine M<|M<|M<|M ?_|refine J (bD yC)<|J (bS M_)<|J cM<|J V ?_)<;>(first|refine Sp 58 (fun y=>?_) fun y=>?_|refine kI (t:=58) Z ?_)<;>(first|contradiction|refine M ?_|refine Fu ?_|refine J (bD yC) ?_)<;>(first|refine M ?_|refine Fu ?_|refine J (bS M_) ?_)<;>(first|refine M ?_|refine Fu ?_|refine J iY ?_)<;>(first|refine M ?_|refine J cE ?_)<;>refine Y cE<|Dm ?_<;>(refine Sp 64 (fun G=>?_) fun G=>?_)<;>(first|contradiction|refine M<|M<|M<|M ?_|refine J (bD oJ)<|J (bS M_)<|J AY<|J V ?_)<;>(first|refine Sp 68 (fun h68=>?_) fun h68=>?_|refine kI (t:=68) Z ?_)<;>(first|contradiction|refine M ?_|refine Fu ?_|refine J (bD yC) ?_)<;>(first|refine M ?_|refine Fu ?_|refine J (bS M_) ?_)<;>(first|refine M ?_|refine Fu ?_|refine J AY ?_)<;>(first|refine M ?_|refine J cE ?_)<;>refine O cE ?_<;>exact Gj (h:=by first|(rw[hX4,h54,y];rfl)|(rw[hX4,h54,y,G];rfl)|(rw[hX4,h54]at *;simp_all;done))
 refine Cn ?_ ?_<;>intro N
 ·rw[hn4 N];exact Sz U<|aC<|Rt<|Qq
 have k4:=N;refine aA<|S<|S<|aR (t:=99) (n:=30) (A_:=o5) ?_ ?_
 ·all_goals refine Y (bD oJ)<|Y (bS M_)<|Y cD<|Dm ?_<;>(refine Sp 77 (fun w=>?_) fun w=>?_)<;>(first|contradiction|refine M<|M<|M<|M<|M ?_|refine J (bD wR)<|J (bS N_)<|J (kc fS (E _))<|J iT<|J V ?_)<;>(first|refine Sp 82 (fun u=>?_) fun u=>?_|refine kI (t:=82) Z ?_)<;>(first|contradiction|refine M ?_|refine Fu ?_|refine J (bD wR) ?_)<;>(first|refine M ?_|refine Fu ?_|refine J (bS N_) ?_)<;>(first|refine M ?_|refine Fu ?_|refine J (bD C1) ?_)<;>(first|refine M ?_|refine Fu ?_|refine J (bS N_) ?_)<;>(first|refine M ?_|refine Fu ?_|refine J wF ?_)<;>(first|refine M ?_|refine J cE ?_)<;>refine Y cE<|Dm ?_<;>(refine Sp 90 (fun d_=>?_) fun d_=>?_)<;>(first|contradiction|refine M<|M<|M<|M ?_|refine J (bD oJ)<|J (bS M_)<|J AY<|J V ?_)<;>(first|refine Sp 94 (fun z_=>?_) fun z_=>?_|refine kI (t:=94) Z ?_)<;>(first|contradiction|refine M ?_|refine Fu ?_|refine J (bD wR) ?_)<;>(first|refine M ?_|refine Fu ?_|refine J (bS N_) ?_)<;>(first|refine M ?_|refine Fu ?_|refine J GU ?_)<;>(first|refine M ?_|refine J cE ?_)<;>refine O cE ?_<;>exact Gj (h:=by first|(rw[s,w,u];rfl)|(rw[s,w,u,d_];rfl)|(clear n hn2 hn3 hn4 hn5 hye;simp_all;done))
 refine Cn ?_ ?_<;>intro L
 ·rw[hn5 L];exact Sz U<|aC<|Rt<|Qq
 rw[hye k1 v k3 k4 L];refine aA<|S<|aR (t:=2) (n:=10) (A_:=o6) ?_ ?_
 ·all_goals refine Y (bD oJ)<|Y (bS M_)<|Y cD<|Dm ?_<;>(refine Sp 103 (fun q=>?_) fun q=>?_)<;>(first|contradiction|refine M<|M<|M ?_|refine J (bD IH)<|J (bS nD)<|J iT ?_)<;>refine Y cE<|Da ?_<;>exact Gj (h:=by(rw[Q,q];rfl))
 exact aC<|Rt<|Qq
end Go.Proofs.YtopnleflllkbmaaGreatDoor
section
set_option format.width 2000
namespace Go.Proofs.YtopnleflllkbmaaGreatDoor
open Go.Proofs.Tryz
open Go.Abs
theorem Zy(q):YT q=!me q:=by rw[Bool.eq_iff_iff];simp[YT,me,Y9,Bool.or_eq_true,r8,Bool.and_eq_false_iff,p_];omega
theorem vm{α:Type}{p q}(h:∀x,p x=!q x):∀(l:List α),l.any p=!l.all q
 | []=>rfl
 |x::l=>by grind
theorem aB1(r):qh r=!(BC r.priv&&kV r.sl):=by
 rw[qh,BC,Yv,vm Zy,vm (q:=sN) (fun x=>by rw[sN,Bool.not_not]) r.priv.sources];show (((((!r.priv.trace.all _||!(!(decide _||(decide _||false))))||_)||_)||_)||_||_)=_
 grind
def Xr(r:j7):Bool:=decide (1<=r.kind)&&decide (r.kind<=5)
def vA(r:j7):Bool:=(((((((((decide (r.kind<1)||decide (5<r.kind))||decide (r.author<0))||decide (59<r.author))||decide (r.number<1))||decide (128<r.number))||decide (r.clock<1))||decide (1000000<r.clock))||!cG r.branch)||decide (16<((r.parents.map S_).length:Int)))||!r.parents.all l9
theorem aB0(r):(!vA r&&sK r.parents)=(Xr r&&!ia r):=by
 have g:decide (r.kind<1)=!decide (1<=r.kind):=G_
 have c:decide (5<r.kind)=!decide (r.kind<=5):=G_
 have d:decide (r.author<0)=!decide (0<=r.author):=G_
 have f:decide (59<r.author)=!decide (r.author<=59):=G_
 have e:decide (r.number<1)=!decide (1<=r.number):=G_
 have a:decide (128<r.number)=!decide (r.number<=128):=G_
 have h:decide (r.clock<1)=!decide (1<=r.clock):=G_
 have b:decide (1000000<r.clock)=!decide (r.clock<=1000000):=G_
 rw[vA,Xr,ia,mK,mK,mK,SC,g,c,d,f,e,a,h,b];simp[Bool.not_or,Bool.not_not,Bool.not_and,Bool.and_assoc]
theorem aAv:¬ (dW []).2=0:=E_
theorem Zs{r:j7}(i:Xr r=true):DR r=(((jT r.edits).2&&MQ r)&&Xs r):=by
 rw[Xr,j0,k_,k_]at i;have p:(r.edits.map bL).length=r.edits.length:=h_ _;have n:(jT r.edits).2=(decide (r.edits.length=0)||decide ((dW r.edits).2=0)):=by
  rw[jT]
  grind
 have k:decide (0<((r.edits.map bL).length:Int))=!decide (r.edits.length=0):=by
  grind
 have s:r.edits.length=0->decide ((dW r.edits).2=0)=false:=fun h=>by
  rw[List.eq_nil_of_length_eq_zero h];rfl
 rw[Xs,n,DR,o1G,o2G,o3G,o4G,o5G,o6G,k];obtain ⟨l,m⟩:∃l,l=decide (r.edits.length=0):=X_;obtain ⟨g,e⟩:∃g,g=decide ((dW r.edits).2=0):=X_;have a:l=true->g=false:=fun h=>by simp_all
 rw[<-m,<-e];clear m e s k n p;have d:r.kind=1\/r.kind=2\/r.kind=3\/r.kind=4\/r.kind=5:=X
 have ea:decide (r.target=a6)=decide (r.target=a6):=rfl;obtain ⟨y,hy⟩:∃y,y=r.yes:=X_;have o:decide (r.order<1)=!decide (1<=r.order):=G_
 have j:decide (4<r.order)=!decide (r.order<=4):=G_
 rw[o0G,o3a,MQ,ZW,Nk,Bp,De,Nl,Wn,o,j,mK];clear o j i;rcases d with h|h|h|h|h
 ·simp only[h];by_cases c1:r.target=a6<;>by_cases c2:r.order=0<;>by_cases c3:r.from'=a6<;>cases b:r.yes<;>cases l<;>cases g<;>simp[c1,c2,c3,b]at a |-
 ·simp only[h];by_cases c2:r.order=0<;>by_cases c3:r.from'=a6<;>cases b:l9 r.target<;>cases l<;>cases g<;>simp[c2,c3,b]at a |-
 ·simp only[h];by_cases c2:r.order=3
  ·rw[c2];by_cases c3:r.from'=a6<;>cases b:l9 r.target<;>cases f:r.yes<;>cases l<;>cases g<;>simp[c3,b,f]at a |-
  cases c1:decide (1<=r.order)<;>cases q:decide (r.order<=4)<;>by_cases c3:r.from'=a6<;>cases b:l9 r.target<;>cases f:r.yes<;>cases l<;>cases g<;>simp[c1,c2,c3,b,f,q]at a |-
 ·simp only[h];by_cases c1:r.target=a6<;>by_cases c2:r.order=0<;>by_cases c3:r.from'=r.branch<;>cases b:cG r.from'<;>cases f:r.yes<;>cases l<;>cases g<;>simp[c1,c2,c3,b,f]at a |-
 simp only[h];by_cases c1:r.target=a6<;>by_cases c2:r.order=0<;>by_cases c3:r.from'=a6<;>cases b:r.yes<;>cases l<;>cases g<;>simp[c1,c2,c3,b]at a |-
theorem Xt(r):(!vA r&&(sK r.parents&&((DR r&&kV r.sl)&&BC r.priv)))=gV r:=by
 rw[<-Bool.and_assoc,aB0,gV,aB1];by_cases b:Xr r=true
 ·rw[Zs b]
  grind
 have a:Xr r=false:=F_
 have f:MQ r=false:=by
  cases e:MQ r
  ·rfl
  obtain ⟨c,d⟩:=BK e;rw[Xr,decide_eq_true c,decide_eq_true d]at a;cases a
 rw[a,f,Bool.false_and,Bool.false_and,Bool.and_false,Bool.false_and]
end Go.Proofs.YtopnleflllkbmaaGreatDoor
end
namespace Go.Proofs.YtopnleflllkbmaaGreatDoor
open Go.Proofs.Tryz
open Go.Abs Go.Lib
theorem bf(r:j7)(H:aF)(hr:mI r)(u_:∀e∈r.edits,e.refs.length<2^40):RC 69 [av (dR r)] (bv (gV r)) H:=by
 refine aS.pure ?_ F_ H;have hml:(r.parents.map S_).length=r.parents.length:=h_ _;have hown:=fun H=>Rx r H hr u_;have z:=fun H=>cj r.priv H hr.2.2.2.2.2;have q:=fun H=>SN r.sl H hr.2.2.2.2.1;have o:=fun H=>kZ r.branch H (by have:=hr.2.1.1;omega);have p:=fun H=>E6 r.parents H hr.2.2.1;have hpl:=hr.2.2.1.1;have hE:=Xt r;have T:vA r=((((((((((decide (r.kind<1)||decide (5<r.kind))||decide (r.author<0))||decide (59<r.author))||decide (r.number<1))||decide (128<r.number))||decide (r.clock<1))||decide (1000000<r.clock))||!cG r.branch)||decide (16<((r.parents.map S_).length:Int)))||!r.parents.all l9):=rfl;obtain ⟨v,W⟩:∃v,v=gV r:=X_;obtain ⟨a,y_⟩:∃a,a=vA r:=X_;obtain ⟨v_,w⟩:∃a,a=DR r:=X_;obtain ⟨E,hfo2⟩:∃a,a=kV r.sl:=X_;obtain ⟨B,hpr2⟩:∃a,a=BC r.priv:=X_;obtain ⟨nm,hnm2⟩:∃a,a=cG r.branch:=X_;obtain ⟨dg,hdg2⟩:∃a,a=r.parents.all l9:=X_;rw[<-W]at hE |-;rw[<-y_]at hE T;rw[<-w]at hE hown;rw[<-hfo2]at hE q;rw[<-hpr2]at hE z;rw[<-hnm2]at T o;rw[<-hdg2]at T p;clear W y_ w hfo2 hpr2 hnm2 hdg2;refine Bd func69 Z ntmps69<|C (kb 1)<|O U<|S<|S<|aR (t:=59) (n:=66) (A_:=a) ?_ ?_
 ·all_goals refine Y (bD oJ)<|Y (bS M_)<|Y cM<|Dm ?_<;>(refine Sp 7 (fun h7=>?_) fun h7=>?_)<;>(first|contradiction|refine M<|M<|M ?_|refine J (bD oJ)<|J (bS M_)<|J iY ?_)<;>refine Y cE<|Dm ?_<;>(refine Sp 12 (fun D=>?_) fun D=>?_)<;>(first|contradiction|refine M<|M<|M ?_|refine J (bD EZ)<|J (bS M_)<|J cM ?_)<;>refine Y cE<|Dm ?_<;>(refine Sp 17 (fun e_=>?_) fun e_=>?_)<;>(first|contradiction|refine M<|M<|M ?_|refine J (bD EZ)<|J (bS M_)<|J iY ?_)<;>refine Y cE<|Dm ?_<;>(refine Sp 22 (fun K=>?_) fun K=>?_)<;>(first|contradiction|refine M<|M<|M ?_|refine J (bD AH)<|J (bS M_)<|J cM ?_)<;>refine Y cE<|Dm ?_<;>(refine Sp 27 (fun N=>?_) fun N=>?_)<;>(first|contradiction|refine M<|M<|M ?_|refine J (bD AH)<|J (bS M_)<|J iY ?_)<;>refine Y cE<|Dm ?_<;>(refine Sp 32 (fun I=>?_) fun I=>?_)<;>(first|contradiction|refine M<|M<|M ?_|refine J (bD EY)<|J (bS M_)<|J cM ?_)<;>refine Y cE<|Dm ?_<;>(refine Sp 37 (fun L=>?_) fun L=>?_)<;>(first|contradiction|refine M<|M<|M ?_|refine J (bD EY)<|J (bS M_)<|J iY ?_)<;>refine Y cE<|Dm ?_<;>(refine Sp 42 (fun o_=>?_) fun o_=>?_)<;>(first|contradiction|refine M<|M<|M<|M ?_|refine J (bD C1)<|J (bS N_)<|J (kc fS (o _))<|J iT ?_)<;>refine Y cE<|Dm ?_<;>(refine Sp 48 (fun R=>?_) fun R=>?_)<;>(first|contradiction|refine M<|M<|M<|M ?_|refine J (bD oI)<|J (bS aH)<|J (fV aE)<|J iY ?_)<;>refine Y cE<|Dm ?_<;>(refine Sp 54 (fun f_=>?_) fun f_=>?_)<;>(first|contradiction|refine M<|M<|M<|M ?_|refine J (bD oI)<|J (bS aH)<|J (kc aEY (p _))<|J iT ?_)<;>refine O cE ?_<;>(exact⟨⟨_,Z,G_⟩,Z,Z,Z⟩)
 refine Cn ?_ ?_<;>intro y
 ·have d_:=y;rw[d_]at hE;rw[<-hE];exact Sz U<|aC<|Rt<|Qq
 have d_:=y;rw[d_]at hE;have hE:(sK r.parents&&((v_&&E)&&B))=v:=hE;refine aA<|S<|Sz U<|aD<|bC (σ:=Nat) (fun k=>([(1,.ref 1 0 0 0),(3,iv ((k:Int)+1))],[(1,bx 21 53 ((dR r).map .pv))])) (fun k=>k<=r.parents.length/\sK r.parents=sK (r.parents.drop k)) (fun k=>r.parents.length - k) 0 ⟨X,Z⟩ ?_ ?_
 ·exact E0
 rintro k ⟨hk,hst⟩;refine S<|C V<|Y (bD oI)<|Y (bS aH)<|Y (fV aE)<|O cM<|Cn ?_ ?_<;>intro A
 ·have P:k+1<r.parents.length:=I_ A
  obtain ⟨s,hs⟩:=aU (l:=r.parents) (k:=k) X;obtain ⟨t,z_⟩:=aU P;have hi:=cC (f:=S_) hs;have u:=cC (f:=S_) z_;have F:=wm hs z_;have Q:IntKind.i64.wrap ((k:Int)+1 - 1)=(k:Int):=by rw[qD X X];omega
  refine aA<|S<|aD<|S<|aN a7<|Cq (bD oI)<|Cq (bS aH)<|Cq V<|Cq (dP Z Z Z Q)<|Cq (bU Z bH Z Z X (by rfl) hi Z)<|Cq (fY N_ (hi:=hi))<|Cq (bD oI)<|Cq (bS aH)<|Cq V<|Cq (bU Z bH Z Z X (by rfl) u Z)<|Cq (fY N_ (hi:=u))<|Cq (RP Z Z Z)<|bJ<|Kr<|Cn ?_ ?_<;>intro n
  ·have A_:=not_not n;rw[hst,F,A_]at hE;rw[<-hE];exact Sz U<|aC<|Rt<|Qq
  have A_:=qN n;refine aA<|Rd V<|Y (by exact eQ Z Z Z (show IntKind.i64.wrap ((k:Int)+1+1)=((k+1:Nat):Int)+1 by rw[qD X X];omega))<|Da ?_;exact⟨k+1,⟨X,F_⟩,X,E0⟩
 have hge:r.parents.length<=k+1:=J_ A
 rw[hst,XR (by rw[q6];omega)]at hE;have hE:((v_&&E)&&B)=v:=hE;rw[<-hE];refine aP<|S<|aR (t:=2) (n:=15) (A_:=(v_&&E)&&B) ?_ ?_
 ·all_goals refine Y (vC cF aY)<|Y (kc call115 (hown _))<|Dm ?_<;>(refine Sp 81 (fun G=>?_) fun G=>?_)<;>(first|contradiction|refine M<|M<|M ?_|refine J (bD zL)<|J (vC gN sizeOf48)<|J (kc call116 (q _)) ?_)<;>refine Y cE<|Dm ?_<;>(refine Sp 86 (fun c_=>?_) fun c_=>?_)<;>(first|contradiction|refine M<|M<|M ?_|refine J (bD iC)<|J (vC Bb sizeOf51)<|J (kc call117 (z _)) ?_)<;>refine Y cE<|Da ?_<;>exact Gj (h:=by(simp_all;done))
 exact aC<|Rt<|Qq
theorem Wi(r:j7)(H:aF)(j:mI r)(b:∀e∈r.edits,e.refs.length<2^40):RC 26 [av (dR r)] (sv (G9 r)) H:=by
 refine aS.pure ?_ F_ H;have i:=fun H=>bf r H j b;refine Bd func26 Z ntmps26<|C (uO (id:=1) Z Z Z Z Z)<|O U<|S<|C (aW Z cF aY Z Z Z Z (Z) Z)<|Y (bF Z Z call69 Z (i _))<|O iT<|Cn ?_ ?_<;>intro c
 ·have d:=not_not c;rw[G9,d];exact Sz U<|aC<|Rt<|Qq
 have d:=qN c;have h:=sF d;have g:=fun H=>Ki r j h b H;have f:=fun H=>Ql (uV r) (Nat.le_trans (JR h) E_) (JS h) H;rw[G9,b6 d];exact aA<|C (aW Z cF aY Z Z Z Z (Z) Z)<|Y (bF Z Z call70 Z (g _))<|Y (kc call52 (f _))<|O U<|aC<|Rt<|Qq
end Go.Proofs.YtopnleflllkbmaaGreatDoor
