/-
  Parts of the proof: rules of an abstract program logic, contracts of functions, plain laws. Conditions: each theorem's own.
-/
import Derived.Test.YtmdicgjnmfolfaaGreatDoorKR5M12
set_option linter.unusedVariables false
set_option linter.unusedSimpArgs false
set_option maxRecDepth 100000
set_option maxHeartbeats 8000000
namespace Go.Proofs.YtmdicgjnmfolfaaGreatDoor
open Go.Proofs.Tryz
open Go.Abs Go.Lib
def N6(m:ByteArray)(k:Nat):Nat:=15 - (wU m).getD k 0
def chV(m:ByteArray)(sig:List ByteArray)(k:Nat):List ByteArray:=(List.range k).flatMap fun j=>M7 (sig.getD j sNil) (N6 m j)
def enV(m:ByteArray)(sig:List ByteArray)(k:Nat):List ByteArray:=(List.range k).map fun j=>mY (sig.getD j sNil) (N6 m j)
theorem WA(m:ByteArray)(sig:List ByteArray)(k:Nat):chV m sig (k+1)=chV m sig k++M7 (sig.getD k sNil) (N6 m k):=by rw[chV,List.range_succ,List.flatMap_append,chV];simp
theorem aEf(m:ByteArray)(sig:List ByteArray)(k:Nat):enV m sig (k+1)=enV m sig k++[mY (sig.getD k sNil) (N6 m k)]:=by rw[enV,List.range_succ,List.map_append];rfl
theorem SF(m:ByteArray)(sig:List ByteArray)(k:Nat):(enV m sig k).length=k:=by simp[enV]
theorem aH1(m:ByteArray)(k:Nat):N6 m k<=15:=Nat.sub_le _ _
theorem SM(m:ByteArray)(sig:List ByteArray):∀k,(chV m sig k).length<=16*k
 |0=>aOB _
 |k+1=>by
  have:=SM m sig k;have:=aH1 m k;rw[WA,aNw,yQ];omega
theorem aA0(m:ByteArray){sig:List ByteArray}(hl:sig.length=18):enV m sig 18=iQ m sig:=by
 refine List.ext_getElem? fun k=>?_;by_cases h:k<18
 ·obtain ⟨x,hx⟩:=aV (l:=sig) (k:=k) (by omega);obtain ⟨d,hd⟩:=aV (l:=wU m) (k:=k) (by rw[sC];exact h);rw[enV,aOP,List.getElem?_range h,iQ,List.getElem?_zipWith,hx,hd];show some (mY (sig.getD k sNil) (N6 m k))=some (mY x (15 - d));rw[N6,List.getD_eq_getElem?_getD,List.getD_eq_getElem?_getD,hx,hd];rfl
 rw[List.getElem?_eq_none (by rw[SF];omega),List.getElem?_eq_none (by rw[GR m hl];omega)]
def rA:ByteArray->List ByteArray->Nat->List ByteArray
 |_,[],_=>[]
 |a,o::r,i=>(if i % 2=1 then B4 o a else B4 a o)::rA (if i % 2=1 then jD o a else jD a o) r (i / 2)
def mE(m:ByteArray)(sig path:List ByteArray)(i:Nat):List ByteArray:=(chV m sig 18++[lT (iQ m sig)])++rA (pB (iQ m sig)) path i
def VZ(i:Nat)(sig path:List ByteArray):Ob:=bx 3 25 [iv (i:Int),.pv (aS sig),.pv (aS path)]
theorem sN(H:aB)(i:Nat)(sig path:List ByteArray):∀r∈(VZ i sig path).rows,∀a∈r,Clo H a:=by intro r hr a ha;simp only[VZ,bx,aNy]at hr;subst hr;simp only[aOH,aOL,or_false]at ha;rcases ha with rfl|rfl|rfl<;>simp
theorem XN(m:ByteArray)(i:Nat)(sig path:List ByteArray)(H:aB)(hm:m.size<=20000)(hl:sig.length=18)(hpl:path.length<=8)(hi:i<1099511627776)(hs:∀t∈sig,t.size=16)(hp:∀t∈path,t.size=16):aH Tryz.prog 35 [sv m,av (gG ⟨(i:Int),sig,path⟩)] H (fun r H'=>r=.pv (aS (mE m sig path i))/\H'=H):=by
 refine aH.pure ?_ (by simp[gG]) H;have hdg:=fun H=>aBT m H hm;have hms:(sig.map encStr).length=sig.length:=aNv _;have hmp:(path.map encStr).length=path.length:=aNv _;rw[mE,<-aA0 m hl];refine Bd func35 rfl ntmps35<|Sr<|Dd (by exact cE (id:=3) rfl rfl rfl rfl rfl)<|Dd aM<|Zz<|Sr<|Dd aG<|Dd (by exact aA rfl rfl call102 rfl (hdg _))<|Dd aM<|Zz<|Sr<|Dd (by exact eE (id:=905) (sz:=1) (ty:=9) rfl rfl rfl)<|Zz<|Sr<|Dd (by exact eE (id:=906) (sz:=1) (ty:=9) rfl rfl rfl)<|Zz<|Sq<|Sr<|Dd aM<|Zz<|aD ?_;refine bL (σ:=Nat) (fun k=>([(3,.ref 3 0 0 0),(5,.pv (aDC (wU m))),(6,.osl 905 k 0 (chV m sig k).length),(7,.osl 906 k 0 k),(8,iv (k:Int))],[(3,VZ i sig path),(905,⟨k,1,9,bP (chV m sig k)⟩),(906,⟨k,1,9,bP (enV m sig k)⟩)])) (fun k=>k<=18) (fun k=>18 - k) 0 (aOM _) ?_ ?_
 ·exact(cD.wk (Ea<|Eb<|Ea<|Ea<|Eb<|trivial) (Hc (sN _ _ _ _)<|Hc (aU _ _)<|Hc (aU _ _)<|trivial) trivial)
 intro k hk;have hcl:=SM m sig k;have hel:(bP (enV m sig k)).length=k:=by rw[cT,SF]
 refine Sq<|Sq ?_;refine bF (t:=25) (n:=10) (X:=decide ((k:Int)<18)&&decide ((k:Int)<((sig.map encStr).length:Int))) ?_ ?_
 ·all_goals refine Dd aG ?_
  all_goals refine Dd cP<|Dm ?_
  all_goals refine Sp 19 (fun h19=>?_) fun h19=>?_
  all_goals try contradiction
  all_goals first|refine Fo<|Fo<|Fo<|Fo<|Fo ?_|refine On aG<|On (bE iG)<|On (bQ aJ)<|On (fZ aC)<|On cP ?_
  all_goals refine Dd cN<|Zz ?_
  all_goals(exact⟨⟨_,rfl,by(rw[h19];rfl)⟩,rfl,rfl,rfl⟩)
 refine Cn ?_ ?_<;>intro hc1
 ·have hc:=hc1;have hk18:k<18:=by
   rw[aOE]at hc;have:=aNr hc.1;omega
  obtain ⟨x,hx⟩:=aV (l:=sig) (k:=k) (by omega);obtain ⟨d,hd⟩:=aV (l:=wU m) (k:=k) (by rw[sC];exact hk18);have hd15:=MD m d (aOF hd);have hix:=cA (f:=encStr) hx;have hid:=cA (f:=MA) hd;have hgx:sig.getD k sNil=x:=by rw[List.getD_eq_getElem?_getD,hx];rfl
  have hgd:N6 m k=15 - d:=by rw[N6,List.getD_eq_getElem?_getD,hd];rfl
  have hnx:=WA m sig k;have hne:=aEf m sig k;rw[hgx,hgd]at hnx hne;have hcl2:(chV m sig (k+1)).length=(chV m sig k).length+(15 - d+1):=by rw[hnx,aNw,yQ]
  have hch:=fun H=>KJ x (15 - d) H (by rw[hs x (aOF hx)];decide) (by omega);have hw:IntKind.i64.wrap (15 - (d:Int))=((15 - d:Nat):Int):=by rw[iY (by omega) (by omega)];omega
  have hie:=cA (f:=encStr) (aA8 x (n:=15 - d) (k:=15 - d) (aOB _));refine aF<|Sq<|aD<|Sq<|aP follows<|Cq (bE iG)<|Cq (bQ aJ)<|Cq aG<|Cq (by exact aT rfl bT rfl rfl (by omega) (by exact aOG _) hix rfl)<|Cq (kS isAgg9 (hi:=hix))<|Cq aG<|Cq aG<|Cq (by exact aT rfl aBF rfl rfl (by omega) (by exact aOG _) hid rfl)<|Cq (kS isAgg3 (hi:=hid))<|Cq (by exact dN rfl rfl rfl hw)<|Cq (by exact aA rfl rfl call100 rfl (hch _))<|Cq aM<|bK<|Kr<|Sr<|Dd aG<|Dd aG<|Dd (by exact cF (ob:=⟨k,1,9,bP (chV m sig k)⟩) (k:=(chV m sig (k+1)).length) (ps:=(M7 x (15 - d)).map encStr) rfl bT CH rfl rfl rfl rfl rfl (cT _) rfl (fD _) (m:=15 - d+1) (by rw[aNv,yQ]) (by omega) (by omega) (rows':=bP (chV m sig (k+1))) (by rw[hnx];exact eN _ _))<|Dd aM<|Zz<|Rg<|Dd aG<|Dd aG<|Dd aG<|Dd aG<|Dd (by exact aT rfl aBF rfl rfl (by omega) (by exact aOG _) hid rfl) ?_;refine Dd (kS isAgg3 (hi:=hid))<|Dd (by exact dN rfl rfl rfl hw)<|Dd (by exact aT rfl bT rfl rfl (by omega) (by exact aOG _) hie rfl)<|Dd (kS isAgg9 (hi:=hie))<|Dd (by exact aQ ([mY x (15 - d)].map encStr) rfl bT rfl rfl rfl rfl rfl (fD _))<|Dd (by exact cF (ob:=⟨k,1,9,bP (enV m sig k)⟩) (k:=k+1) (ps:=[mY x (15 - d)].map encStr) rfl bT CH rfl rfl rfl rfl rfl hel rfl (fD _) (m:=1) rfl (by omega) rfl (rows':=bP (enV m sig (k+1))) (by rw[hne];exact eN _ _))<|Dd aM<|Zz<|Rg<|Dd aG<|Dd (by exact bG rfl rfl rfl (show IntKind.i64.wrap ((k:Int)+1)=((k+1:Nat):Int)by rw[iY (by omega) (by omega)];omega))<|Da ?_;exact⟨k+1,by omega,by omega,(cD.wk (Ea<|Eb<|Ea<|Ea<|Eb<|trivial) (Hc (sN _ _ _ _)<|Hc (aU _ _)<|Hc (aU _ _)<|trivial) trivial)⟩
 have hc:=hc1;have hge:k=18:=by
  rw[Bool.and_eq_false_iff]at hc;rcases hc with hc|hc
  ·have:=aNs hc;omega
  have:=aNs hc;omega
 subst hge;have hV16:∀x∈enV m sig 18,x.size=16:=by rw[aA0 m hl];exact E4 m hs
 have hVl:=SF m sig 18;obtain ⟨X,hX⟩:∃X,X=chV m sig 18:=⟨_,rfl⟩;obtain ⟨V,hV⟩:∃V,V=enV m sig 18:=⟨_,rfl⟩;rw[<-hX]at hcl |-;rw[<-hV]at hV16 hVl |-;have hjo:=fun H=>BF V (by omega) (fun x hx=>by rw[hV16 x hx];decide) H;have hls:(lT V).size<=1000000:=by
  rw[lT,eF];exact Nat.le_trans (mA (L:=V) (n:=18) (fun x hx=>by unfold le2;rw[hV16 x hx];decide) (by omega)) (by decide)
 have hsu:=fun H=>rQ (lT V) (by omega) H;rw[show fA (lT V)=pB V from rfl]at hsu;refine fL.ent (cD.fzG (id:=906) (E':=[(3,.ref 3 0 0 0),(6,.osl 905 18 0 X.length),(7,.pv (aS V))]) (H':=[(3,VZ i sig path),(905,⟨18,1,9,bP X⟩)]) (V.map encStr) rfl (dR _) ?_ rfl ?_ ?_) ?_
 ·intro p hp;simp only[aOH,aOL,or_false]at hp;rcases hp with rfl|rfl|rfl
  ·exact⟨_,rfl,.same (by simp;rfl)⟩
  ·exact⟨_,rfl,.same (by simp;rfl)⟩
  exact⟨_,rfl,.osl (lR encStr _ hVl)⟩
 ·exact⟨⟨_,rfl,rfl,rfl,rfl,eJ (sN _ _ _ _)⟩,⟨_,rfl,rfl,rfl,rfl,eJ (aU _ _)⟩,trivial⟩
 ·exact trivial
 refine aY<|Sr<|Dd aG<|Dd (by exact aA rfl rfl aFd rfl (hjo _))<|Dd aM<|Zz<|Sr<|Dd aG<|Dd aG<|Dd (by exact aQ ([lT V].map encStr) rfl bT rfl rfl rfl rfl rfl (fD _))<|Dd (by exact cF (ob:=⟨18,1,9,bP X⟩) (k:=X.length+1) (ps:=[lT V].map encStr) rfl bT CH rfl rfl rfl rfl rfl (cT _) rfl (fD _) (m:=1) rfl (by omega) rfl (rows':=bP (X++[lT V])) (by exact eN _ _))<|Dd aM<|Zz<|Sr<|Dd aG<|Dd (by exact aA rfl rfl pT rfl (hsu _))<|Dd aM<|Zz<|Sr<|Dd (bE mD)<|Dd (bQ isAgg3)<|Dd aM<|Zz<|Sq<|Sr<|Dd aM<|Zz<|aD ?_;have hXl:(X++[lT V]).length=X.length+1:=by rw[aNw];rfl
 refine BY (fun(j:Nat) (a:ByteArray) (i':Nat) (A:List ByteArray)=>([(3,.ref 3 0 0 0),(6,.osl 905 (19+j) 0 A.length),(11,sv a),(12,iv (i':Int)),(13,iv (j:Int))],[(3,VZ i sig path),(905,⟨19+j,1,9,bP A⟩)])) (fun j a i' A=>j<=path.length/\a.size=16/\i'<1099511627776/\A++rA a (path.drop j) i'=(X++[lT V])++rA (pB V) path i/\A.length<=1000+j) (fun j a i' A=>path.length - j) 0 (pB V) i (X++[lT V]) ⟨aOM _,eR _,hi,rfl,by rw[hXl];omega⟩ ?_ ?_
 ·rw[hXl];exact(cD.wk (Ea<|Ea<|Eb<|Eb<|Eb<|trivial) (Hc (sN _ _ _ _)<|Hc (aU _ _)<|trivial) trivial)
 rintro j a i' A ⟨hj,ha,hi',hA,hAl⟩;have hrem:((i':Nat):Int).tmod 2=((i' % 2:Nat):Int):=by rw[Int.tmod_eq_emod_of_nonneg (by omega)];omega
 have hquo:IntKind.i64.wrap (((i':Nat):Int).tdiv 2)=((i' / 2:Nat):Int):=by rw[Int.tdiv_eq_ediv_of_nonneg (by omega),iY (by omega) (by omega)];omega
 refine Sq<|Sr<|Dd aG<|Dd (bE lF)<|Dd (bQ aJ)<|Dd (fZ aC)<|Dd cP<|Zz ?_;refine Cn ?_ ?_<;>intro hc2
 ·have hlt:j<path.length:=by have:=aNr hc2;omega
  obtain ⟨o,ho⟩:=aV hlt;have hio:=cA (f:=encStr) ho;have ho16:=hp o (aOF ho);have hdr:path.drop j=o::path.drop (j+1):=by
   obtain ⟨h1,e1⟩:=aNz.1 ho;rw[List.drop_eq_getElem_cons h1,e1]
  have hn1:=fun H=>RC a o H (by omega) (by omega);have hn2:=fun H=>RC o a H (by omega) (by omega);have z1:=AR (a:=a) (b:=o) (by omega) (by omega);have z2:=AR (a:=o) (b:=a) (by omega) (by omega);have hsu1:=fun H=>rQ (B4 a o) (by omega) H;have hsu2:=fun H=>rQ (B4 o a) (by omega) H;rw[show fA (B4 a o)=jD a o from rfl]at hsu1;rw[show fA (B4 o a)=jD o a from rfl]at hsu2;refine aF<|Sq<|aD<|Sr<|Dd aG<|Dd (bE lF)<|Dd (bQ aJ)<|Dd aG<|Dd (by exact aT rfl bT rfl rfl (by omega) (by exact aOG _) hio rfl)<|Dd (kS isAgg9 (hi:=hio))<|Dd (by exact aA rfl rfl aC1 rfl (hn1 _))<|Dd aM<|Zz<|Sq<|Sr<|Dd aG<|Dd (by exact pW rfl rfl rfl (by decide) hrem)<|Dd dK<|Zz ?_;refine Cn ?_ ?_<;>intro hc3
  ·have he:i' % 2=1:=by have:=aNr hc3;omega
   refine Rg<|Dd (bE lF)<|Dd (bQ aJ)<|Dd aG<|Dd (by exact aT rfl bT rfl rfl (by omega) (by exact aOG _) hio rfl)<|Dd (kS isAgg9 (hi:=hio))<|Dd aG<|Dd (by exact aA rfl rfl aC1 rfl (hn2 _))<|Dd aM<|Zz<|Sr<|Dd aG<|Dd aG<|Dd (by exact aQ ([B4 o a].map encStr) rfl bT rfl rfl rfl rfl rfl (fD _))<|Dd (by exact cF (ob:=⟨19+j,1,9,bP A⟩) (k:=A.length+1) (ps:=[B4 o a].map encStr) rfl bT CH rfl rfl rfl rfl rfl (cT _) rfl (fD _) (m:=1) rfl (by omega) rfl (rows':=bP (A++[B4 o a])) (by exact eN _ _))<|Dd aM<|Zz<|Sr<|Dd aG<|Dd (by exact aA rfl rfl pT rfl ((hsu2 _)))<|Dd aM<|Zz<|Rg<|Dd aG<|Dd (by exact rR rfl rfl rfl (by decide) hquo)<|Dd aM<|Zz<|Rg<|Dd aG<|Dd (by exact bG rfl rfl rfl (show IntKind.i64.wrap ((j:Int)+1)=((j+1:Nat):Int)by rw[iY (by omega) (by omega)];omega)) ?_;refine Da ?_;refine⟨j+1,jD o a,i' / 2,A++[B4 o a],⟨by omega,lY _ _,by omega,?_,by rw[aNw];show A.length+1<=_;omega⟩,by omega,?_⟩
   ·rw[<-hA,hdr,rA,aNu he,aNu he,List.append_assoc];rfl
   rw[show (A++[B4 o a]).length=A.length+1 by rw[aNw];rfl];exact(cD.wk (Ea<|Ea<|Eb<|Eb<|Eb<|trivial) (Hc (sN _ _ _ _)<|Hc (aU _ _)<|trivial) trivial)
  have he:¬ i' % 2=1:=by have:=aNs hc3;omega
  refine aF<|Sr<|Dd aG<|Dd aG<|Dd (by exact aQ ([B4 a o].map encStr) rfl bT rfl rfl rfl rfl rfl (fD _))<|Dd (by exact cF (ob:=⟨19+j,1,9,bP A⟩) (k:=A.length+1) (ps:=[B4 a o].map encStr) rfl bT CH rfl rfl rfl rfl rfl (cT _) rfl (fD _) (m:=1) rfl (by omega) rfl (rows':=bP (A++[B4 a o])) (by exact eN _ _))<|Dd aM<|Zz<|Sr<|Dd aG<|Dd (by exact aA rfl rfl pT rfl ((hsu1 _)))<|Dd aM<|Zz<|Rg<|Dd aG<|Dd (by exact rR rfl rfl rfl (by decide) hquo)<|Dd aM<|Zz<|Rg<|Dd aG<|Dd (by exact bG rfl rfl rfl (show IntKind.i64.wrap ((j:Int)+1)=((j+1:Nat):Int)by rw[iY (by omega) (by omega)];omega))<|Da ?_;refine⟨j+1,jD a o,i' / 2,A++[B4 a o],⟨by omega,lY _ _,by omega,?_,by rw[aNw];show A.length+1<=_;omega⟩,by omega,?_⟩
  ·rw[<-hA,hdr,rA,aNt he,aNt he,List.append_assoc];rfl
  rw[show (A++[B4 a o]).length=A.length+1 by rw[aNw];rfl];exact(cD.wk (Ea<|Ea<|Eb<|Eb<|Eb<|trivial) (Hc (sN _ _ _ _)<|Hc (aU _ _)<|trivial) trivial)
 have hge:j=path.length:=by have:=aNs hc2;omega
 have hA2:A=(X++[lT V])++rA (pB V) path i:=by
  rw[<-hA,hge,List.drop_length];exact(List.append_nil A).symm
 rw[<-hA2];refine aY<|Sr<|Dd aG<|Dd aM<|Zz<|aE ?_;refine dC (H':=[]) (.inr rfl) rfl (aW rfl) (Fin.fz (id:=905) (ob:=⟨19+j,1,9,bP A⟩) (A.map encStr) rfl (dR _) (.osl (lS encStr _)) rfl trivial trivial) ?_;exact Qq
end Go.Proofs.YtmdicgjnmfolfaaGreatDoor
namespace Go.Proofs.YtmdicgjnmfolfaaGreatDoor
open Go.Proofs.Tryz
open Go.Abs
variable{s:ByteArray}{i:Nat}
theorem M0{S:ByteArray->Prop}:∀(p:List ByteArray) (a:ByteArray) (i:Nat),(∀x∈rA a p i,S x)->NIn S a p i
 | [],_,_,_=>trivial
 |o::p,a,i,h=>by
  rw[rA]at h;exact⟨h _ List.mem_cons_self,M0 p _ _ fun x hx=>h x (List.mem_cons_of_mem _ hx)⟩
theorem M1{S:ByteArray->Prop}:∀(h:Nat) (l:List ByteArray) (i:Nat),l.length=2 ^ h->i<2 ^ h->(∀x∈tG h l,S x)->NIn S (l.getD i sNil) (gV h l i) i
 |0,_,_,_,_,_=>trivial
 |h+1,l,i,hl,hi,hS=>by
  have hl2:l.length=2*2 ^ h:=by rw[hl,Nat.pow_succ,Nat.mul_comm]
  have hi2:i / 2<2 ^ h:=by rw[Nat.pow_succ]at hi;omega
  have ih:=M1 h (zK l) (i / 2) (rO _ _ hl2) hi2 fun x hx=>hS x (List.mem_append_right _ hx);rw[DQ _ _ _ hl2 hi2]at ih;have hp:S (B4 (l.getD (2*(i / 2)) sNil) (l.getD (2*(i / 2)+1) sNil)):=hS _ (List.mem_append_left _ (List.mem_map.2 ⟨i / 2,List.mem_range.2 hi2,rfl⟩));rw[gV,IK];by_cases h1:i % 2=1
  ·rw[aNu h1];rw[show 2*(i / 2)=i - 1 by omega,show i - 1+1=i by omega]at hp ih;exact⟨by rw[aNu h1];exact hp,by rw[aNu h1];exact ih⟩
  rw[aNt h1];rw[show 2*(i / 2)=i by omega]at hp ih;exact⟨by rw[aNt h1];exact hp,by rw[aNt h1];exact ih⟩
theorem UU{n:Nat}{x:ByteArray}(hi:i<n)(hx:x∈aHH s i):x∈kB s n:=List.mem_flatMap.2 ⟨i,List.mem_range.2 hi,hx⟩
theorem aJ3{k j:Nat}(hk:k<18)(hj:j<=15):mY (eL s i k) j∈aHH s i :=List.mem_append_left _ (List.mem_flatMap.2 ⟨k,List.mem_range.2 hk,List.mem_cons_of_mem _ (List.mem_map.2 ⟨j,List.mem_range.2 (by omega),rfl⟩)⟩)
theorem aCq(s m:ByteArray)(h i:Nat)(sig path:List ByteArray):Texts (fun x=>x∈wL s h++mE m sig path i) s m h sig path i where
 m1:=fun j hj k hk q hq=>List.mem_append_left _ (List.mem_append_left _ (UU hj (aJ3 hk (by omega))))
 m2:=fun j hj=>List.mem_append_left _ (List.mem_append_left _ (UU hj (List.mem_append_right _ (aNy.2 rfl))))
 m3:=fun j hj=>by
  have:=M1 (S:=fun x=>x∈wL s h++mE m sig path i) h (fG s h) j (mH s h) hj fun x hx=>List.mem_append_left _ (List.mem_append_right _ hx);rw[BQ s hj]at this;exact this
 c1:=fun k hk j hj=>List.mem_append_right _ (List.mem_append_left _ (List.mem_append_left _ (List.mem_flatMap.2 ⟨k,List.mem_range.2 hk,List.mem_map.2 ⟨j,List.mem_range.2 (by unfold N6;omega),rfl⟩⟩)))
 c2:=List.mem_append_right _ (List.mem_append_left _ (List.mem_append_right _ (aNy.2 rfl)))
 c3:=M0 path _ i fun x hx=>List.mem_append_right _ (List.mem_append_right _ hx)
theorem aIm{m:ByteArray}{h:Nat}{sl:GSeal}(hv:sQ (oP s h) m sl.idx sl.sig sl.path=true)(hn:¬ ((sW s (h:Int) sl.idx m).2=0/\(sW s (h:Int) sl.idx m).1=sl))(hh:h<=8):sU (wL s h++mE m sl.sig sl.path sl.idx.toNat)=true:=by
 cases hb:sU (wL s h++mE m sl.sig sl.path sl.idx.toNat)
 ·exfalso;have nc:=aDH hb;simp only[sQ,aOE,aOC,List.all_eq_true]at hv;obtain ⟨⟨⟨⟨⟨v1,v2⟩,v3⟩,v4⟩,v5,v6⟩,v7⟩:=hv;obtain ⟨i,hi⟩:∃i:Nat,sl.idx=(i:Int):=⟨sl.idx.toNat,by omega⟩;rw[hi,aOG]at nc v7;have hs16:∀t∈sl.sig,t.size=16:=fun t ht=>jN (v3 t ht);have hp16:∀t∈sl.path,t.size=16:=fun t ht=>jN (v4 t ht);have T:=aCq s m h i sl.sig sl.path;have hip:i<2 ^ sl.path.length:=by rw[hi]at v6;exact_mod_cast v6
  obtain ⟨q1,q2,q3⟩:=aGc nc T v1 hs16 hp16 hip v7;have q4:=aIn nc T v1 hs16 q1 q3;refine hn ?_;have hbad:yY (h:Int) sl.idx=false:=by
   rw[yY,hi,decide_eq_false (by omega),decide_eq_false (by omega),decide_eq_false (by omega),aOG,decide_eq_false (by omega)];rfl
  rw[sW,hbad,aNt (by decide),hi,aOG,aOG,<-q2,<-q4,<-hi];exact⟨rfl,rfl⟩
 rfl
end Go.Proofs.YtmdicgjnmfolfaaGreatDoor
namespace Go.Proofs.YtmdicgjnmfolfaaGreatDoor
open Go.Proofs.Tryz
open Go.Abs Go.Lib
theorem R9{l:List ByteArray}(h:∀x∈l,x.size<=20000)(k:Nat):(l.getD k sNil).size<=20000:=by
 rw[List.getD_eq_getElem?_getD];cases e:l[k]? with
 |none=>exact aOM _
 |some x=>exact h x (aOF e)
theorem aIM{L:List ByteArray}(h:∀x∈L,x.size=16)(hl:L.length=18):(lT L).size<=1000000:=by rw[lT,eF];exact Nat.le_trans (mA (L:=L) (n:=18) (fun x hx=>by unfold le2;rw[h x hx];decide) (by omega)) (by decide)
theorem aEt{t:ByteArray}(ht:t.size<=20000)(n:Nat):∀x∈M7 t n,x.size<=1000000:=by intro x hx;obtain ⟨k,_,rfl⟩:=List.mem_map.1 hx;exact Nat.le_trans (aA9 ht k) (by decide)
theorem PA:∀(h:Nat) (l:List ByteArray),(∀x∈l,x.size<=20000)->(∀x∈tG h l,x.size<=1000000)/\(tG h l).length<=2 ^ h
 |0,_,_=>⟨fun x hx=>(by cases hx),aOM _⟩
 | h+1,l,hl=>by
  obtain ⟨h1,h2⟩:=PA h (zK l) OD;refine⟨fun x hx=>?_,?_⟩
  ·rcases List.mem_append.1 hx with hx|hx
   ·obtain ⟨k,_,rfl⟩:=List.mem_map.1 hx;exact Nat.le_trans (AR (R9 hl _) (R9 hl _)) (by decide)
   exact h1 x hx
  rw[tG,aNw,CS,Nat.pow_succ];omega
theorem aGy{s:ByteArray}{h:Nat}(hs:s.size<=20000)(hh:h<=8):(∀x∈wL s h,x.size<=1000000)/\(wL s h).length<=100000:=by
 have hp:=nE hh;obtain ⟨n1,n2⟩:=PA h (fG s h) (fun x hx=>by rw[aEO s h x hx];decide);refine⟨fun x hx=>?_,?_⟩
 ·rcases List.mem_append.1 hx with hx|hx
  ·obtain ⟨i,hi,hx⟩:=List.mem_flatMap.1 hx;have hi:=List.mem_range.1 hi;rcases List.mem_append.1 hx with hx|hx
   ·obtain ⟨k,hk,hx⟩:=List.mem_flatMap.1 hx;have hk:=List.mem_range.1 hk;rcases aOH.1 hx with hx|hx
    ·rw[hx];exact Nat.le_trans (TR s hs (by omega) (by omega)) (by decide)
    exact aEt (OM s i k) 15 x hx
   rw[aNy.1 hx];exact aIM (A4 s i) (wT s i)
  exact n1 x hx
 rw[wL,aNw,BP];omega
theorem O9:∀(p:List ByteArray) (a:ByteArray) (i:Nat),a.size=16->(∀x∈p,x.size=16)->(∀x∈rA a p i,x.size<=1000000)/\(rA a p i).length=p.length
 | [],_,_,_,_=>⟨fun x hx=>(by cases hx),rfl⟩
 | o::p,a,i,ha,hp=>by
  have ho:=hp o List.mem_cons_self;obtain ⟨h1,h2⟩:=O9 p (if i % 2=1 then jD o a else jD a o) (i / 2) (by split<;>exact lY _ _) fun x hx=>hp x (List.mem_cons_of_mem _ hx);refine⟨fun x hx=>?_,by rw[rA,aNx,h2];rfl⟩;rcases aOH.1 hx with hx|hx
  ·rw[hx]
   split<;>exact Nat.le_trans (AR (by omega) (by omega)) (by decide)
  exact h1 x hx
theorem Y6{m:ByteArray}{sig path:List ByteArray}{i:Nat}(hl:sig.length=18)(hs:∀t∈sig,t.size=16)(hp:∀t∈path,t.size=16)(hpl:path.length<=8):(∀x∈mE m sig path i,x.size<=1000000)/\(mE m sig path i).length<=1000:=by
 obtain ⟨n1,n2⟩:=O9 path (pB (iQ m sig)) i (eR _) hp;have hc:=SM m sig 18;refine⟨fun x hx=>?_,?_⟩
 ·rcases List.mem_append.1 hx with hx|hx
  ·rcases List.mem_append.1 hx with hx|hx
   ·obtain ⟨k,_,hx⟩:=List.mem_flatMap.1 hx;exact aEt (R9 (fun t ht=>by rw[hs t ht];decide) k) _ x hx
   rw[aNy.1 hx];exact aIM (E4 m hs) (GR m hl)
  exact n1 x hx
 rw[mE,aNw,aNw,n2,List.length_singleton];omega
theorem aBP(L:List ByteArray)(hL:L.length<=1000000)(hs:∀s∈L,s.size<=20000000)(H:aB)(id:Nat)(ob:Ob)(n:Nat)(hH:H.get id=some ob)(hsz:Nat.blt 0 ob.sz=true)(hrows:ob.rows=bP L)(hn:n=L.length):aH Tryz.prog 33 [.osl id ob.g 0 n] H (fun r H'=>r=bv (sU L)/\H'=(id,ES ob)::H):=by
 subst hn;refine aH.retire (L.map encStr) (aDO L _ hL hs) hH hsz (by rw[hrows];exact dR _) rfl ?_;intro i a a' ha ha'
 match i with
 |0 =>
  cases ha;cases ha';refine .inr ⟨0,L.length,rfl,?_⟩;rw[lS];rfl
 |n+1=>cases ha
theorem aKA{r:GRec}{ks:List ByteArray}(h:nP r ks=0):eD r=true/\r.sl.idx=2*r.number - 2/\sQ (ks.getD r.author.toNat sNil) (pA r) r.sl.idx r.sl.sig r.sl.path=true:=by
 rw[nP]at h
 split at h
 ·cases h
 next hA =>
 split at h
 ·cases h
 next hB =>
 have hA:ckA r ks=false:=by simpa using hA
 have hB:ckB r (ks.getD r.author.toNat sNil)=false:=by simpa using hB
 rw[ckA,aOR,Bool.not_eq_false']at hA;rw[ckB,aOR,Bool.not_eq_false',Bool.not_eq_false',aOC]at hB;exact⟨hA.1,hB.1,hB.2⟩
theorem sgS(s m:ByteArray)(h i:Int):qY (sW s h i m).1:=by
 by_cases hb:yY h i=true
 ·rw[sW,aNu hb];exact okZ
 exact kK (pJ (by rw[sW,aNt hb])).1
theorem XP(s:ByteArray)(h:Nat):(oP s h).size=16:=by
 have:=BU h (fG s h) 0 (mH s h) (Nat.two_pow_pos h);rw[oP,<-this,BQ s (Nat.two_pow_pos h)];cases h with
 |zero=>exact sM s 0
 | succ n =>
  have hp:=IW s (h:=n+1) (i:=0) (Nat.two_pow_pos _);have hg:∀(p:List ByteArray) (a:ByteArray) (i:Nat),a.size=16->(gX a p i).size=16:=fun p=>by
   induction p with
   |nil=>exact fun a i h=>h
   |cons o r ih=>exact fun a i h=>ih _ _ (by split<;>exact lY _ _)
  exact hg _ _ _ (sM s 0)
theorem KH(s:ByteArray)(q:Nat)(r:GRec)(hq:q<=255)(hsz:s.size<1099511627776)(hr:iT r)(hp:r.parents.length<549755813888)(H:aB):aH Tryz.prog 6 [sv s,.pv (.int .u8 (q:Int)),av (bU r)] H (fun x H'=>x=bv true/\H'=H):=by
 refine aH.pure ?_ (by simp[bU]) H;have hfw:=fun H=>YH [r] H (show 1<1099511627776 by decide) (fun x hx=>by rw[aNy.1 hx];exact hr);have hrem:((q:Nat):Int).tmod 3=((q % 3:Nat):Int):=by rw[Int.tmod_eq_emod_of_nonneg (by omega)];omega
 obtain ⟨h,hh⟩:∃h,h=q % 3:=⟨_,rfl⟩;have hh8:h<=8:=by omega
 rw[<-hh]at hrem;have hpu:=fun H=>J2 s h H hsz hh8;obtain ⟨key,hkey⟩:∃key,key=oP s h:=⟨_,rfl⟩;rw[<-hkey]at hpu;have hks16:key.size=16:=by rw[hkey];exact XP s h
 obtain ⟨F,hF⟩:∃F,F=P4 [r] 5:=⟨_,rfl⟩;rw[<-hF]at hfw;clear hF;refine Bd func6 rfl ntmps6<|Sr<|Dd (by exact cE (id:=5) rfl rfl rfl rfl rfl)<|Dd aM<|Zz<|Sr<|Dd (by exact aA rfl rfl call7 rfl (aE2 _))<|Dd aM<|Zz<|Sr<|Dd aG<|Dd (by exact fP rfl dU underlying3 rfl (iY (by omega) (by omega)))<|Dd (by exact pW rfl rfl rfl (by decide) hrem)<|Dd aM<|Zz<|Sq<|Sq ?_;refine bF (t:=37) (n:=22) (X:=((!F||decide (100<(s.size:Int)))||decide (r.author<0))||decide (9<r.author)) ?_ ?_
 ·all_goals refine Dd (by exact aN rfl bH aR rfl rfl rfl rfl (by simp only[Zl,encStr];rfl) rfl) ?_
  all_goals refine Dd (by exact aQ ([r].map bU) rfl aKs rfl rfl rfl rfl rfl (by intro r hr;simp only[List.map_cons,List.map_nil,aOH,aOL,or_false]at hr;subst hr;rfl))<|Dd (by exact aA rfl rfl call8 rfl (hfw _))<|Dd mT<|Dm ?_
  all_goals refine Sp 23 (fun h23=>?_) fun h23=>?_
  all_goals try contradiction
  all_goals first|refine Fo<|Fo<|Fo ?_|refine On aG<|On (nF underlying9)<|On mN ?_
  all_goals refine Dd cN<|Dm ?_
  all_goals refine Sp 28 (fun h28=>?_) fun h28=>?_
  all_goals try contradiction
  all_goals first|refine Fo<|Fo<|Fo ?_|refine On (bE tO)<|On (bQ isAgg3)<|On cP ?_
  all_goals refine Dd cN<|Dm ?_
  all_goals refine Sp 33 (fun h33=>?_) fun h33=>?_
  all_goals try contradiction
  all_goals first|refine Fo<|Fo<|Fo ?_|refine On (bE tO)<|On (bQ isAgg3)<|On mN ?_
  all_goals refine Dd cN<|Zz ?_
  all_goals(exact⟨⟨_,rfl,by(simp only[*,Zo];done)⟩,rfl,rfl,rfl⟩)
 refine Cn ?_ ?_<;>intro hc1
 ·exact Sr<|Dd aG<|Dd aM<|Zz<|aE<|Rt<|Qq
 have hc:=hc1;rw[aOR,aOR,aOR]at hc;obtain ⟨⟨⟨_,hc1⟩,hc2⟩,hc3⟩:=hc;have hc1:=aNs hc1;have hc2:=aNs hc2;have hc3:=aNs hc3;obtain ⟨a,ha⟩:∃a:Nat,r.author=(a:Int):=⟨r.author.toNat,by omega⟩;have hlr:∀k,(List.replicate k key).length=k:=fun k=>List.length_replicate;refine aF<|Sr<|Dd aG<|Dd aG<|Dd (by exact aA rfl rfl call25 rfl (hpu _))<|Dd aG<|Dd eZ<|Dd eZ<|Dd aM<|Dd aM<|Zz<|Sr<|Dd (by exact bM (id:=11) rfl aK2 rfl rfl)<|Zz<|Sq<|Sr<|Dd aM<|Zz<|aD ?_;refine fL.ent (E':=[(0,sv s),(5,.ref 5 0 0 0),(7,bv true),(8,iv (h:Int)),(9,sv key),(10,iv 0),(11,.ref 11 0 0 0),(12,iv 0)]) (H':=(971,⟨0,1,9,[]⟩)::(11,bx 6 37 [.pv .nils,.osl 971 0 0 0,.pv .nils,iv 0,.pv .nils,.pv .nils])::(5,bx 21 30 ((bU r).map .pv))::[]) ?_ ?_
 ·exact(cD.nz 971 1 9 rfl rfl ⟨⟨_,rfl,(by exact Nz.same (by(simp;done)))⟩,⟨_,rfl,(by exact Nz.same (by(simp;rfl)))⟩,⟨_,rfl,(by exact Nz.same (by(simp;done)))⟩,⟨_,rfl,(by exact Nz.same (by(simp;done)))⟩,⟨_,rfl,(by exact Nz.same (by(simp;done)))⟩,⟨_,rfl,(by exact Nz.same (by(simp;done)))⟩,⟨_,rfl,(by exact Nz.same (by(simp;rfl)))⟩,⟨_,rfl,(by exact Nz.same (by(simp;done)))⟩,trivial⟩ ⟨⟨_,rfl,rfl,rfl,rfl,(by exact .inr ⟨_,_,rfl,rfl,(by repeat(first|exact trivial|refine⟨(by first|exact Nz.own|exact Nz.same (by(simp;done))),?_⟩))⟩)⟩,⟨_,rfl,rfl,rfl,rfl,(by exact .inl ⟨rfl,(by(simp;done))⟩)⟩,trivial⟩ trivial)
 refine bL (σ:=Nat) (fun k=>([(0,sv s),(5,.ref 5 0 0 0),(7,bv true),(8,iv (h:Int)),(9,sv key),(10,iv 0),(11,.ref 11 0 0 0),(12,iv (k:Int))],[(971,⟨k,1,9,bP (List.replicate k key)⟩),(11,bx 6 37 [.pv .nils,.osl 971 k 0 k,.pv .nils,iv 0,.pv .nils,.pv .nils]),(5,bx 21 30 ((bU r).map .pv))])) (fun k=>k<=a+1) (fun k=>a+1 - k) 0 (aOM _) ?_ ?_
 ·exact(cD.wk (Eb<|Ea<|Eb<|Eb<|Eb<|Eb<|Ea<|Eb<|trivial) (Hc (aU _ _)<|Ha<|Hb<|trivial) trivial)
 intro k hk;have hlw:(bP (List.replicate k key)).length=k:=by rw[cT,hlr]
 have hnx:List.replicate (k+1) key=List.replicate k key++[key]:=List.replicate_succ';refine Sq<|Sr<|Dd aG<|Dd (bE tO)<|Dd (bQ isAgg3)<|Dd TA<|Zz ?_;refine Cn ?_ ?_<;>intro hc2
 ·have hlt:k<=a:=by have:=aNr hc2;omega
  refine aF<|Sq<|aD<|Rg<|Dd (bE SB)<|Dd (bQ aJ)<|Dd aG<|Dd (by exact aQ ([key].map encStr) rfl bT rfl rfl rfl rfl rfl (fD _))<|Dd (by exact cF (ob:=⟨k,1,9,bP (List.replicate k key)⟩) (k:=k+1) (ps:=[key].map encStr) rfl bT CH rfl rfl rfl rfl rfl hlw rfl (fD _) (m:=1) rfl (by omega) rfl (rows':=bP (List.replicate (k+1) key)) (by rw[hnx];exact eN _ _))<|Dd (bE SB)<|Uu (by exact bD rfl sizeOf22 rfl rfl rfl rfl rfl rfl (by simp only[aNx,List.length_nil];omega) (by simp only[Zl,encStr];rfl) (by simp only[Zl,encStr];rfl))<|Zz<|Rg<|Dd aG<|Dd (by exact bG rfl rfl rfl (show IntKind.i64.wrap ((k:Int)+1)=((k+1:Nat):Int)by rw[iY (by omega) (by omega)];omega))<|Da ?_;exact⟨k+1,by omega,by omega,(cD.wk (Eb<|Ea<|Eb<|Eb<|Eb<|Eb<|Ea<|Eb<|trivial) (Hc (aU _ _)<|Ha<|Hb<|trivial) trivial)⟩
 have hge:k=a+1:=by have:=aNs hc2;omega
 subst hge;have hks:KV (List.replicate (a+1) key):=⟨by rw[hlr];omega,fun t ht=>by rw[(List.mem_replicate.1 ht).2,hks16];decide⟩;have hck:=fun H=>FA r ⟨.nils,.nils,.int .i64 0,.nils,.nils⟩ (List.replicate (a+1) key) hr hp hks H;have hK:=hlr (a+1);refine fL.ent (cD.fzG (id:=971) (E':=[(0,sv s),(5,.ref 5 0 0 0),(7,bv true),(8,iv (h:Int)),(10,iv 0),(11,.ref 11 0 0 0)]) (H':=[(11,bx 6 37 [.pv .nils,.pv (aS (List.replicate (a+1) key)),.pv .nils,iv 0,.pv .nils,.pv .nils]),(5,bx 21 30 ((bU r).map .pv))]) ((List.replicate (a+1) key).map encStr) rfl (dR _) ?_ rfl ?_ ?_) ?_
 ·intro p hp;simp only[aOH,aOL,or_false]at hp;rcases hp with rfl|rfl|rfl|rfl|rfl|rfl
  ·exact⟨_,rfl,.same (by simp)⟩
  ·exact⟨_,rfl,.same (by simp;rfl)⟩
  ·exact⟨_,rfl,.same (by simp)⟩
  ·exact⟨_,rfl,.same (by simp)⟩
  ·exact⟨_,rfl,.same (by simp)⟩
  exact⟨_,rfl,.same (by simp;rfl)⟩
 ·exact⟨⟨_,rfl,rfl,rfl,rfl,nG rfl (cG (.same (by simp)) (cG (.osl (lR encStr _ hK)) (cG (.same (by simp)) (cG (.same (by simp)) (cG (.same (by simp)) (cG (.same (by simp)) nO))))))⟩,⟨_,rfl,rfl,rfl,rfl,eJ (by simp[bx,bU])⟩,trivial⟩
 ·exact trivial
 have hau:r.author.toNat=a:=by rw[ha];rfl
 have hgk:(List.replicate (a+1) key).getD r.author.toNat sNil=key:=by
  rw[hau,List.getD_eq_getElem?_getD,List.getElem?_replicate,aNu (Nat.lt_succ_self a)];rfl
 obtain ⟨e,he⟩:∃e,e=nP r (List.replicate (a+1) key):=⟨_,rfl⟩;have hid:=fun H=>PT r hr hp H;have his:=ER r;rw[<-he]at hck;refine aY<|Sq<|Sr<|Dd aG<|Dd (by exact cH.valY (by exact xT rfl rfl rfl) (neZ))<|Dd aG<|On (by exact aN rfl bH aR rfl rfl rfl rfl (by simp only[Zl,encStr];rfl) rfl)<|On (by exact aN rfl aCU HB rfl rfl rfl rfl (by simp only[Zl,encStr];rfl) rfl)<|On (by exact aA rfl rfl S4 rfl (hck _))<|On zW<|Dd cN<|Zz ?_;refine Cn ?_ ?_<;>intro hc3
 ·exact Sr<|Dd aG<|Dd aG<|On aG<|On (by exact cH.valY (by exact rS rfl rfl rfl) ((decide_eq_true rfl)))<|Dd cN<|Dd aM<|Zz<|aE<|Rt<|Qq
 have he0:e=0:=by have h1:=hc3;rw[Bool.not_eq_false']at h1;exact aNr h1
 obtain ⟨hv,hix,hve⟩:=aKA (he.symm.trans he0);rw[hgk,hkey]at hve;have hf:=oI hv;have hnu:=hf.nu;have hfs:=jB hf.sl;have i0:=hfs.i0;have i1:=hfs.i1;have hsg:=fun H=>FZ s (pA r) h (2*r.number - 2) H hsz (by omega);have hgo:=fun hn=>aIm (m:=pA r) (sl:=r.sl) hve hn hh8;rw[hix]at hgo;have hfo:=fun h1=>(pJ (s:=s) (m:=pA r) (h:=(h:Int)) (i:=2*r.number - 2) h1).1;have hzs:=sgS s (pA r) (h:Int) (2*r.number - 2);obtain ⟨O,hO⟩:∃O,O=sW s (h:Int) (2*r.number - 2) (pA r):=⟨_,rfl⟩;rw[<-hO]at hsg hgo hzs;have hss:=fun H=>CQ O.1 r.sl H (EG hzs) (EG hr.2.2.2.2.1);refine aF<|Sq<|aP follows<|Cr [] (fun _ _=>aG)<|Cr [] (fun _ _=>aG)<|Cr [5] (fun _ h=>fh pN h)<|Cr [5] (fun _ h=>lh isAgg3 h)<|Cr [] (fun H1 hH=>by exact lH rfl rfl rfl (iY (by omega) (by omega)))<|Cr [] (fun H1 hH=>by exact dN rfl rfl rfl (iY (by omega) (by omega)))<|Cr [5] (fun H1 hH=>by exact aN rfl bH aR rfl ((hH _ rfl).trans rfl) rfl rfl (by simp only[Zl,encStr];rfl) rfl)<|Cr [] (fun H1 hH=>by exact aA rfl rfl zT rfl (hid _))<|Cr [] (fun H1 hH=>by exact aA rfl rfl aNg rfl (hsg _))<|Cr [] (fun _ _=>aG)<|Cr [] (fun _ _=>eZ)<|Cr [] (fun _ _=>eZ)<|Cp [13] (fun H1 hH=>by exact bM (id:=13) rfl WW rfl ((hH _ rfl).trans rfl))<|Cp [13] (fun H1 hH=>by exact bX rfl sizeOf25 rfl rfl rfl rfl ((hH _ rfl).trans rfl) rfl rfl rfl)<|Cr [] (fun _ _=>aM)<|bK<|Kr ?_;refine Sq<|Sq ?_;refine bF (t:=89) (n:=9) (X:=decide (O.2=0)&&decide (O.1=r.sl)) ?_ ?_
 ·all_goals refine Dd aG ?_
  all_goals refine Dd dK<|Dm ?_
  all_goals refine Sp 84 (fun h84=>?_) fun h84=>?_
  all_goals try contradiction
  all_goals first|refine Fo<|Fo<|Fo<|Fo ?_|refine On (by exact aN rfl eA sizeOf25 rfl rfl rfl rfl (by simp only[Zl,encStr];rfl) rfl)<|On (bE kM)<|On (rC eA sizeOf25)<|On (by exact aA rfl rfl aNh rfl (hss _)) ?_
  all_goals refine Dd cN<|Zz ?_
  all_goals(exact⟨⟨_,rfl,by(simp_all;done)⟩,rfl,rfl,rfl⟩)
 refine Cn ?_ ?_<;>intro hc4
 ·exact Sr<|Dd aG<|Dd aM<|Zz<|aE<|Rt<|Qq
 have hc:=hc4;have hsh:=hgo (fun hn=>by rw[decide_eq_true hn.1,decide_eq_true hn.2]at hc;cases hc);have hve2:=hve;simp only[sQ,aOE,aOC,List.all_eq_true]at hve2;obtain ⟨⟨⟨⟨⟨v1,v2⟩,v3⟩,v4⟩,_⟩,_⟩:=hve2;have hs16:∀t∈r.sl.sig,t.size=16:=fun t ht=>jN (v3 t ht);have hp16:∀t∈r.sl.path,t.size=16:=fun t ht=>jN (v4 t ht);have hcd:∀H,aH Tryz.prog 35 [sv (pA r),av (gG r.sl)] H (fun x H'=>x=.pv (aS (mE (pA r) r.sl.sig r.sl.path r.sl.idx.toNat))/\H'=H):=fun H=>by
  have:=XN (pA r) r.sl.idx.toNat r.sl.sig r.sl.path H (ER r) v1 v2 (by omega) hs16 hp16;rw[Int.toNat_of_nonneg i0]at this;exact this
 obtain ⟨m1,m2⟩:=aGy (s:=s) (h:=h) (by omega) hh8;obtain ⟨c1,c2⟩:=Y6 (m:=pA r) (i:=r.sl.idx.toNat) v1 hs16 hp16 v2;have hmd:=fun(H:aB) hno=>aDP s h (H:=H) (by omega) hh8 hno;rw[<-hix]at hsh;obtain ⟨M,hM⟩:∃M,M=wL s h:=⟨_,rfl⟩;obtain ⟨C,hC⟩:∃C,C=mE (pA r) r.sl.sig r.sl.path r.sl.idx.toNat:=⟨_,rfl⟩;obtain ⟨g,hg⟩:∃g,g=38*2 ^ h - 1:=⟨_,rfl⟩;rw[<-hM]at m1 m2 hsh;rw[<-hC]at c1 c2 hsh;simp only[<-hC]at hcd;simp only[<-hM,<-hg]at hmd;have hsw:=fun H=>aBP (M++C) (by rw[aNw];omega) (fun x hx=>(List.mem_append.1 hx).elim (fun hx=>Nat.le_trans (m1 x hx) (by decide)) (fun hx=>Nat.le_trans (c1 x hx) (by decide))) H 905 ⟨g+1,1,9,bP (M++C)⟩ (M++C).length;rw[hsh]at hsw;refine aF<|Sq<|aP follows<|Cr [] (fun _ _=>aG)<|Cr [] (fun _ _=>aG) ?_;refine aX (r:=⟨_,some [],[]⟩) (bR rfl rfl rfl (by rfl) (fun H1 hH=>by exact eP rfl rfl)) rfl ?_;refine aX (r:=⟨_,some [],[]⟩) (bR rfl rfl rfl (by rfl) (fun H1 hH=>by exact eP rfl rfl)) rfl ?_;refine aX (r:=⟨_,some [905],[_]⟩) (bR rfl rfl rfl (by rfl) (fun H1 hH=>by exact aA rfl rfl call34 rfl ((hmd _ ((hH _ rfl).trans rfl))))) rfl ?_;refine aX (r:=⟨_,some [5],[]⟩) (bR rfl rfl rfl (by rfl) (fun H1 hH=>by exact(by exact aN rfl bH aR rfl ((hH _ rfl).trans rfl) rfl rfl (by simp only[Zl,encStr];rfl) rfl))) rfl ?_;refine aX (r:=⟨_,some [],[]⟩) (bR rfl rfl rfl (by rfl) (fun H1 hH=>by exact aA rfl rfl zT rfl (hid _))) rfl ?_;refine aX (r:=⟨_,some [5],[]⟩) (bR rfl rfl rfl (by rfl) (fun H1 hH=>by exact(by exact aZ rfl kM rfl ((hH _ rfl).trans rfl) rfl rfl))) rfl ?_;refine aX (r:=⟨_,some [5],[]⟩) (bR rfl rfl rfl (by rfl) (fun H1 hH=>by exact(by exact aN rfl eA sizeOf25 rfl ((hH _ rfl).trans rfl) rfl rfl rfl rfl))) rfl ?_;refine aX (r:=⟨_,some [],[]⟩) (bR rfl rfl rfl (by rfl) (fun H1 hH=>by exact aA rfl rfl call35 rfl (hcd _))) rfl ?_;refine aX (r:=⟨_,some [905],[_]⟩) (bR rfl rfl rfl (by rfl) (fun H1 hH=>by exact cF (ob:=⟨g,1,9,bP M⟩) (k:=(M++C).length) (ps:=C.map encStr) rfl bT CH rfl ((hH _ rfl).trans rfl) rfl rfl rfl (cT _) rfl (fD _) (m:=C.length) (aNv _) (by omega) (by rw[aNw]) (rows':=bP (M++C)) (by exact eN _ _))) rfl ?_;refine aX (r:=⟨_,some [905],[_]⟩) (bR rfl rfl rfl (by rfl) (fun H1 hH=>by exact aA rfl rfl call33 rfl ((hsw _ ((hH _ rfl).trans rfl) rfl rfl rfl)))) rfl ?_;exact Cr [] (fun _ _=>cN)<|Cr [] (fun _ _=>aM)<|bK<|Kr<|aE<|Rt<|Qq
end Go.Proofs.YtmdicgjnmfolfaaGreatDoor
namespace Go.Proofs.YtmdicgjnmfolfaaGreatDoor
open Go.Proofs.Tryz
open Go.Abs
theorem IC(s:ByteArray)(x:Int)(r:GRec)(h0:0<=x)(h1:x<=255)(hsz:s.size<1099511627776)(hr:iT r)(hp:r.parents.length<549755813888)(H:aB):aH Tryz.prog 6 [sv s,.pv (.int .u8 x),av (bU r)] H (fun x H'=>x=bv true/\H'=H):=by obtain ⟨q,rfl⟩:=Int.eq_ofNat_of_zero_le h0;exact KH s q r (by omega) hsz hr hp H
end Go.Proofs.YtmdicgjnmfolfaaGreatDoor
