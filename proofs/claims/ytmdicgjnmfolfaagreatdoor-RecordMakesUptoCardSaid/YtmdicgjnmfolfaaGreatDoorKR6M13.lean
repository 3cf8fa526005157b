/-
  Parts of the proof: rules of an abstract program logic, contracts of functions, plain laws. Conditions: each theorem's own.
-/
import Derived.Test.YtmdicgjnmfolfaaGreatDoorKR6M12
set_option linter.unusedVariables false
set_option linter.unusedSimpArgs false
set_option maxRecDepth 100000
set_option maxHeartbeats 8000000
namespace Go.Proofs
open Tryz
theorem aPr:type_of% call15:=call15
theorem yF:type_of% call185:=call185
theorem aPN:type_of% call187:=call187
theorem UR:type_of% call79:=call79
theorem aPk:type_of% call98:=call98
end Go.Proofs
namespace Go.Proofs.YtmdicgjnmfolfaaGreatDoor
open Go.Proofs.Tryz
open Go.Abs Go.Lib
variable{o:GObj}{M:List ByteArray}
theorem aFb{x:Int}(h:0<=x):aV x=ofL (decDigits x.toNat):=by rw[aV,iU _ h];rfl
theorem KR(x:Int)(H:aH)(h0:0<=x)(h1:x<1000000000):aI Tryz.prog 186 [iv x] H (fun r H'=>r=sv (aV x)/\H'=H):=by obtain ⟨u,rfl⟩:=Int.eq_ofNat_of_zero_le h0;rw[aFb h0];exact aKh u H (by omega)
def wO(o:GObj)(M:List ByteArray)(k:Nat):List ByteArray:=[eP o.kind,o.id]++M++(o.tags.take k).map gU
theorem aAd{k:Nat}{t:GTag}(h:o.tags[k]?=some t):wO o M (k+1)=wO o M k++[gU t]:=by rw[wO,wO,List.take_add_one,h,Option.toList_some,List.map_append,<-List.append_assoc];rfl
theorem C2(a b:List ByteArray):dC (a++b)=dC a+dC b:=by rw[dC,dC,dC,List.map_append,List.sum_append]
theorem Z2(hg:lV o=true):fY o=if 20000<(vE o).size then(sNil,2)else(vE o,0):=by
 rw[fY,aQD hg];by_cases h:0<o.tags.length/\(iL o.tags).2≠0
 ·have htg:=(CK hg).2.2.1;rw[aQD h];have h2:=h.2;rw[iL,aQD htg]at h2 |-
  split at h2
  ·next hb =>
   rw[aQD hb,aQD ?_];rw[vE,<-bD];show 20000<(tZ o).length;rw[tZ,aQF];cases e:o.tags with
   |nil=>rw[e]at h;exact absurd h.1 (by decide)
   |cons t l =>
    rw[e]at hb;have:=P7 t l;have h3:=congrArg List.length this;rw[bD]at h3;rw[oX,List.flatMap_cons,aQF,aQG];rw[aQF,oX]at h3;omega
  exact absurd rfl h2
 rw[aQC h]
theorem aAe(o:GObj)(M:List ByteArray):(ofL (bZ [32] (bs (wO o M o.tags.length)))).data.toList=(eP o.kind).data.toList++32::(o.id.data.toList++M.flatMap fun s=>32::s.data.toList)++oX o.tags:=by rw[dI,wO,List.take_length,List.cons_append,List.cons_append,bs,List.map_cons,bZ,oX];simp only[List.map_cons,List.map_append,List.flatMap_cons,List.flatMap_append,List.flatMap_map,List.nil_append,List.append_assoc,List.cons_append];congr 3;congr 1;refine fmC fun t _=>?_;rw[IC]
theorem aAf(hM:(eP o.kind).data.toList++32::(o.id.data.toList++M.flatMap fun s=>32::s.data.toList)=nD o):ofL (bZ [32] (bs (wO o M o.tags.length)))=vE o:=eqL (by
 rw[aAe,hM];rfl)
theorem RL:∀(l:List ByteArray) (k:Nat),(bZ [32] (bs (l.take k))).length<=(bZ [32] (bs l)).length
 | [],k=>by rw[List.take_nil];exact aQK _
 |x::l,0=>by rw[List.take_zero];exact aQV _
 |x::l,k+1=>by
  rw[List.take_succ_cons,AZ,AZ,aQF,aQF,DG,DG];have h1:=mM l k;have h2:(l.take k).length<=l.length:=by rw[aQS];exact Nat.min_le_right _ _
  omega
theorem wW(a b:ByteArray):(a++b).size=a.size+b.size:=ByteArray.size_append
theorem ZD(o:GObj)(H:aH)(ho:okO o):aI Tryz.prog 184 [av (bW o)] H (fun r H'=>r=.tup [sv (fY o).1,iv (fY o).2]/\H'=H):=by
 refine Pu ?_;have hmt:(o.tags.map bQ).length=o.tags.length:=aQE _;have hmr:(o.refs.map encStr).length=o.refs.length:=aQE _;refine Bd func184 rfl ntmps184<|Sr<|Dd (by exact cF (id:=1) rfl rfl rfl rfl rfl)<|Dd aM<|Dd aM<|Zz<|Sq<|Sr<|Dd (by exact aN rfl dA sizeOf151 rfl rfl rfl rfl (by simp only[Zl,bQ,bW,encStr,bA,jT];rfl) rfl)<|Dd (by exact aA rfl rfl call220 rfl (aEa o _ ho))<|Dd iS<|Zz ?_;refine Cn ?_ ?_<;>intro hc1
 ·have hg:lV o=false:=by have h:=hc1;rwa [aQX]at h
  have e:fY o=(sNil,1):=by rw[fY,aQC (by rw[hg];decide)]
  rw[e];exact Sr<|Dd aM<|Dd aM<|Zz<|aB<|Ru<|Qq
 have hg:lV o=true:=by have h:=hc1;rwa [Bool.not_eq_false']at h
 obtain ⟨hr,ht,htg,hid,_⟩:=CK hg;obtain ⟨hx,hy,hn,hz⟩:=aBl hg;have hw:=(C1 (GH hg)).1;have hws:=dO hw;have his:=dO hid;have hT:=Z2 hg;have hTb:∀t∈o.tags,t.key.size<=24/\t.val.size<=200:=fun t ht=>by
  obtain ⟨p1,_,_⟩:=zH.1 htg;have:=p1 t ht;exact⟨dO this.1,this.2.2⟩
 have hTs:∀k,dC ((o.tags.take k).map gU)<=60*427:=fun k=>by
  have h1:∀l:List GTag,(∀t∈l,t∈o.tags)->dC (l.map gU)<=l.length*427:=by
   intro l
   induction l with
   |nil=>intro _;exact aQV _
   |cons t l ih =>
    intro h;rw[List.map_cons,cG,aQG,Nat.add_mul];have h2:=ih fun x hx=>h x (List.mem_cons_of_mem _ hx);have h3:=hTb t (h t List.mem_cons_self);have h4:=RB h3.1 h3.2;omega
  have h2:=h1 (o.tags.take k) fun t ht=>List.mem_of_mem_take ht;have h3:(o.tags.take k).length<=60:=by rw[aQS];omega
  have h4:(o.tags.take k).length*427<=60*427:=Nat.mul_le_mul_right _ h3;omega
 refine aC<|Sq<|aO follows<|Cs (fun _ h=>fh eB h)<|Cs (fun _ h=>lh isAgg3 h)<|Cs (fun H1 hH=>by exact aA rfl rfl aPM rfl (HP o.kind _))<|Cs (fun _ h=>fh oH h)<|Cs (fun _ h=>lh isAgg9 h) ?_;refine bL (r:=⟨_,none,[_]⟩) (DStep.plain rfl (fun H1 hH=>by exact fT (id:=901) rfl cC rfl rfl rfl rfl (by intro r hr;simp only[aQQ,aQU,or_false]at hr;rcases hr with rfl|rfl<;>rfl) ((hH _ rfl).trans rfl))) rfl ?_;refine Cs (fun _ _=>aM)<|bM<|Kr<|Sq<|Sq ?_;refine gM.ent (E':=[(1,.ref 1 0 0 0),(4,.osl 901 0 0 2)]) (H':=[(901,⟨0,1,9,OQ [eP o.kind,o.id]⟩),(1,oBx o)]) (cX.wk (Ea<|Ea<|trivial) (Hc (nC _ _)<|Hb<|trivial) trivial) ?_;refine Rg<|Dd (aT eB)<|Dd (bF isAgg3)<|Dd cN<|Zz ?_;refine Cn ?_ ?_<;>intro hc2
 ·have hk:o.kind=1:=aQA hc2;have six:(aV o.x).size<=7:=by rw[<-bD];show (Lib.itoa o.x).length<=7;rw[iU _ hx.1];exact dY (by omega) (by decide)
  have siy:(aV o.y).size<=7:=by rw[<-bD];show (Lib.itoa o.y).length<=7;rw[iU _ hy.1];exact dY (by omega) (by decide)
  have hMs:dC [aV o.x,aV o.y]=(aV o.x).size+((aV o.y).size+0):=by rw[cG,cG];rfl
  have hMl:([aV o.x,aV o.y]:List ByteArray).length=2:=rfl;have hHd:(eP o.kind).data.toList++32::(o.id.data.toList++([aV o.x,aV o.y]:List ByteArray).flatMap fun s=>32::s.data.toList)=nD o:=by
   rw[nD,aQD hk];simp[aV]
  have hFT:fY o=if 20000<(ofL (bZ [32] (bs (wO o [aV o.x,aV o.y] o.tags.length)))).size then(sNil,2)else(ofL (bZ [32] (bs (wO o [aV o.x,aV o.y] o.tags.length))),0):=by rw[aAf hHd];exact hT
  refine aO follows<|Cs (fun _ _=>aE)<|Cs (fun _ h=>fh mI h)<|Cs (fun _ h=>fh pR h)<|Cs (fun _ h=>lh isAgg3 h)<|Cs (fun H1 hH=>by exact aA rfl rfl DX rfl (KR o.x _ (by omega) (by omega)))<|Cs (fun _ h=>fh mI h)<|Cs (fun _ h=>fh pQ h)<|Cs (fun _ h=>lh isAgg3 h)<|Cs (fun H1 hH=>by exact aA rfl rfl DX rfl (KR o.y _ (by omega) (by omega)))<|Cs (fun H1 hH=>by exact aQ [encStr (aV o.x),encStr (aV o.y)] rfl cC rfl rfl rfl rfl rfl (by intro r hr;simp only[aQQ,aQU,or_false]at hr;rcases hr with rfl|rfl<;>rfl)) ?_;refine bL (r:=⟨_,none,[_]⟩) (DStep.plain rfl (fun H1 hH=>by exact cJ (ps:=[encStr (aV o.x),encStr (aV o.y)]) rfl cC xI rfl ((hH _ rfl).trans rfl) rfl rfl rfl rfl rfl (by intro r hr;simp only[aQQ,aQU,or_false]at hr;rcases hr with rfl|rfl<;>rfl) (m:=2) rfl (by omega) rfl (rfl:_=OQ (wO o [aV o.x,aV o.y] 0)))) rfl ?_;refine Cs (fun _ _=>aM)<|bM<|Kr<|Sq<|Sr<|Dd aM<|Zz<|aF ?_;have hMs2:dC ([eP o.kind,o.id]++[aV o.x,aV o.y])<=70000:=by rw[C2];have:dC [eP o.kind,o.id]=(eP o.kind).size+(o.id.size+0):=(by rw[cG,cG];rfl);omega
  have hWl:∀k,k<=o.tags.length->(wO o [aV o.x,aV o.y] k).length<=64:=fun k hk=>by rw[wO,aQF,aQF,aQE,aQS];show 2+_+_<=_;omega
  have hWs:∀k,dC (wO o [aV o.x,aV o.y] k)<=100000:=fun k=>by
   rw[wO,C2];have h1:=hTs k;omega
  refine bJ (σ:=Nat) (fun k=>([(1,.ref 1 0 0 0),(4,.osl 901 (1+k) 0 (wO o [aV o.x,aV o.y] k).length),(7,iv (k:Int))],[(901,⟨1+k,1,9,OQ (wO o [aV o.x,aV o.y] k)⟩),(1,oBx o)])) (fun k=>k<=o.tags.length) (fun k=>o.tags.length - k) 0 (aQV _) ?_ ?_
  ·exact(cX.wk (Ea<|Ea<|Eb<|trivial) (Hc (nC _ _)<|Hb<|trivial) trivial)
  rintro k hk;have hwl:=hWl k hk;refine Sq<|Sr<|Dd aE<|Dd (aT fB)<|Dd (bF cS)<|Dd (fM cZ)<|Dd cW<|Zz ?_;refine Cn ?_ ?_<;>intro hc3
  ·have hlt:k<o.tags.length:=by have:=aQA hc3;omega
   obtain ⟨t,ht⟩:=aU hlt;have hit:=cI (f:=bQ) ht;have hnx:=aAd (M:=[aV o.x,aV o.y]) ht;have hnl:(wO o [aV o.x,aV o.y] k++[gU t]).length=(wO o [aV o.x,aV o.y] k).length+1:=by rw[aQF];rfl
   obtain ⟨hks,hvs⟩:=hTb t (aQO ht);have hq:=pN t.val;have h61:(⟨#[61]⟩:ByteArray).size=1:=rfl;have hk1:(t.key++(⟨#[61]⟩:ByteArray)).size=t.key.size+1:=wW _ _;refine aC<|Sq<|aF<|aO follows<|Cs (fun _ _=>aE)<|Cs (fun _ h=>fh fB h)<|Cs (fun _ h=>lh cS h)<|Cs (fun _ _=>aE)<|Cs (fun _ _=>(mR kH))<|Cs (fun _ _=>(NS nG))<|Cs (fun _ _=>(iN isAgg9))<|Cs (fun H1 hH=>by exact cK rfl rfl rfl (by omega) rfl)<|Cs (fun _ h=>fh fB h)<|Cs (fun _ h=>lh cS h)<|Cs (fun _ _=>aE)<|Cs (fun _ _=>(mR kH))<|Cs (fun _ _=>(NS oF))<|Cs (fun _ _=>(iN isAgg9))<|Cs (fun H1 hH=>by exact aA rfl rfl aPN rfl (HQ t.val _ (by omega)))<|Cs (fun H1 hH=>by exact cK rfl rfl rfl (by omega) rfl)<|Cs (fun H1 hH=>by exact aQ [encStr (gU t)] rfl cC rfl rfl rfl rfl rfl (by intro r hr;rw[aQH]at hr;subst hr;rfl)) ?_;refine bL (r:=⟨_,none,[_]⟩) (DStep.plain rfl (fun H1 hH=>by exact cJ (ps:=[encStr (gU t)]) rfl cC xI rfl ((hH _ rfl).trans rfl) rfl rfl rfl (aBB _) rfl (by intro r hr;rw[aQH]at hr;subst hr;rfl) (m:=1) rfl (by omega) rfl (aBC _ (gU t)))) rfl ?_;refine Cs (fun _ _=>aM)<|bM<|Kr<|Rg<|Dd aE<|Dd mV<|Da ?_;refine⟨k+1,by omega,by omega,?_⟩;rw[hnx,hnl];exact(cX.wk (Ea<|Ea<|Eb<|trivial) (Hc (nC _ _)<|Hb<|trivial) trivial)
  have hge:k=o.tags.length:=by have:=aQB hc3;omega
  subst hge;obtain ⟨W,hW⟩:∃W,W=wO o [aV o.x,aV o.y] o.tags.length:=⟨_,rfl⟩;have hWs2:=hWs o.tags.length;rw[<-hW]at hwl hWs2 hFT;rw[<-hW];obtain ⟨F,hF⟩:∃F,F=ofL (bZ [32] (bs W)):=⟨_,rfl⟩;rw[<-hF]at hFT;refine aW<|Sr<|Dd aM<|Zz<|Sq<|Sr<|Dd aM<|Zz<|aF ?_;refine bJ (σ:=Nat) (fun k=>([(4,.osl 901 (1+o.tags.length) 0 W.length),(8,sv (ofL (bZ [32] (bs (W.take k))))),(9,iv (k:Int))],[(901,⟨1+o.tags.length,1,9,OQ W⟩)])) (fun k=>k<=W.length) (fun k=>W.length - k) 0 (aQV _) ?_ ?_
  ·exact(cX.wk (Ea<|Eb<|Eb<|trivial) (Hc (nC _ _)<|trivial) trivial)
  rintro k hk;have hsz:(ofL (bZ [32] (bs (W.take k)))).size<=100064:=by
   rw[dH];have h1:=fE (W.take k);have h2:=mM W k;have h3:(W.take k).length<=W.length:=by rw[aQS];exact Nat.min_le_right _ _
   omega
  refine Sq<|Sr<|Dd aE<|Dd aE<|Dd (by exact eG rfl aD rfl rfl rfl)<|Dd cW<|Zz ?_;refine Cn ?_ ?_<;>intro hc4
  ·have hlt:k<W.length:=by have:=aQA hc4;omega
   obtain ⟨w,hw⟩:=aU hlt;have hiw:=S1 hw;have hnx:=zD hw;have hws:w.size<=100000:=by
    have h1:=uS hw;have h2:=mM W (k+1);omega
   have h32:(⟨#[32]⟩:ByteArray).size=1:=rfl;have hs2:(ofL (bZ [32] (bs (W.take k)))++⟨#[32]⟩).size=(ofL (bZ [32] (bs (W.take k)))).size+1:=wW _ _;refine aC<|Sq<|aF<|Sq<|Sr<|Dd aE<|Dd iG<|Zz ?_;refine Cn ?_ ?_<;>intro hc5
   ·have hq:0<k:=by have:=aQA hc5;omega
    rw[aQD hq]at hnx;refine Rg<|Dd aE<|Dd (by exact cK rfl rfl rfl (by omega) rfl)<|Dd aM<|Zz<|Rg<|Dd aE<|Dd aE<|Dd aE<|Dd (by exact dQ rfl cC rfl rfl rfl rfl rfl (by omega) (by exact aQP _) hlt (aQW _))<|Dd (by exact aK rfl isAgg9 rfl rfl rfl hiw rfl)<|Dd (by exact cK rfl rfl rfl (by omega) rfl)<|Dd aM<|Zz<|Rg<|Dd aE<|Dd mV<|Da ?_;refine⟨k+1,by omega,by omega,?_⟩;rw[hnx];exact(cX.wk (Ea<|Eb<|Eb<|trivial) (Hc (nC _ _)<|trivial) trivial)
   have hq:¬ 0<k:=by have:=aQB hc5;omega
   rw[aQC hq]at hnx;refine aC<|Rg<|Dd aE<|Dd aE<|Dd aE<|Dd (by exact dQ rfl cC rfl rfl rfl rfl rfl (by omega) (by exact aQP _) hlt (aQW _))<|Dd (by exact aK rfl isAgg9 rfl rfl rfl hiw rfl)<|Dd (by exact cK rfl rfl rfl (by omega) rfl)<|Dd aM<|Zz<|Rg<|Dd aE<|Dd mV<|Da ?_;refine⟨k+1,by omega,by omega,?_⟩;rw[hnx];exact(cX.wk (Ea<|Eb<|Eb<|trivial) (Hc (nC _ _)<|trivial) trivial)
  have hge:k=W.length:=by have:=aQB hc4;omega
  subst hge;rw[List.take_length,<-hF];refine aW<|Sq<|Sr<|Dd aE<|Dd (kG underlying9)<|Dd iG<|Zz ?_;refine Cn ?_ ?_<;>intro hc6
  ·have hbig:20000<F.size:=by have:=aQA hc6;omega
   rw[hFT,aQD hbig];exact Sr<|Dd aM<|Dd aM<|Zz<|aB<|Ru<|Qq
  have hbig:¬ 20000<F.size:=by have:=aQB hc6;omega
  rw[hFT,aQC hbig];exact aC<|Sr<|Dd aE<|Dd aM<|Dd aM<|Zz<|aB<|Ru<|Qq
 have hk:o.kind≠1:=aQB hc2;have hsz:dC o.refs<=24*o.refs.length:=nN (fun s hs=>dO (uY hg s hs));have hjl:=fE o.refs;have hSz:∀k,(ofL (bZ [32] (bs (o.refs.take k)))).size<=50000:=fun k=>by
  rw[dH];have:=RL o.refs k;omega
 refine Sr<|Dd aM<|Zz<|Sq<|Sr<|Dd aM<|Zz<|aF ?_;refine bJ (σ:=Nat) (fun k=>([(1,.ref 1 0 0 0),(4,.osl 901 0 0 2),(5,sv (ofL (bZ [32] (bs (o.refs.take k))))),(6,iv (k:Int))],[(901,⟨0,1,9,OQ [eP o.kind,o.id]⟩),(1,oBx o)])) (fun k=>k<=o.refs.length) (fun k=>o.refs.length - k) 0 (aQV _) ?_ ?_
 ·exact(cX.wk (Ea<|Ea<|Eb<|Eb<|trivial) (Hc (nC _ _)<|Hb<|trivial) trivial)
 rintro k hkr;have hsk:=hSz k;refine Sq<|Sq ?_;refine aY (t:=42) (n:=11) (X:=decide ((k:Int)<((o.refs.map encStr).length:Int))&&decide (((ofL (bZ [32] (bs (o.refs.take k)))).size:Int)<=20000)) ?_ ?_
 ·all_goals refine Dd aE ?_
  all_goals refine Dd (aT dT)<|Dd (bF aG)<|Dd (fM aD)<|Dd cW<|Dm ?_
  all_goals refine Sp 38 (fun h38=>?_) fun h38=>?_
  all_goals try contradiction
  all_goals first|refine Fo<|Fo<|Fo ?_|refine On aE<|On (kG underlying9)<|On G9 ?_
  all_goals refine Dd cH<|Zz ?_
  all_goals(exact⟨⟨_,rfl,by(rw[h38];rfl)⟩,rfl,rfl,rfl⟩)
 refine Cn ?_ ?_<;>intro hc7
 ·have hlt:k<o.refs.length:=by have h:=hc7;rw[aQN,aQL]at h;omega
  obtain ⟨w,hw2⟩:=aU hlt;have hiw:=cI (f:=encStr) hw2;have hnx:=zD hw2;have hwsz:=dO (uY hg w (aQO hw2));have h32:(⟨#[32]⟩:ByteArray).size=1:=rfl;have hs2:(ofL (bZ [32] (bs (o.refs.take k)))++⟨#[32]⟩).size=(ofL (bZ [32] (bs (o.refs.take k)))).size+1:=wW _ _;refine aC<|Sq<|aF<|Sq<|Sr<|Dd aE<|Dd iG<|Zz ?_;refine Cn ?_ ?_<;>intro hc8
  ·have hq:0<k:=by have:=aQA hc8;omega
   rw[aQD hq]at hnx;refine Rg<|Dd aE<|Dd (by exact cK rfl rfl rfl (by omega) rfl)<|Dd aM<|Zz<|Rg<|Dd aE<|Dd (aT dT)<|Dd (bF aG)<|Dd aE<|Dd (mR cC)<|Dd (iN isAgg9)<|Dd (by exact cK rfl rfl rfl (by omega) rfl)<|Dd aM<|Zz<|Rg<|Dd aE<|Dd mV<|Da ?_;refine⟨k+1,by omega,by omega,?_⟩;rw[hnx];exact(cX.wk (Ea<|Ea<|Eb<|Eb<|trivial) (Hc (nC _ _)<|Hb<|trivial) trivial)
  have hq:¬ 0<k:=by have:=aQB hc8;omega
  rw[aQC hq]at hnx;refine aC<|Rg<|Dd aE<|Dd (aT dT)<|Dd (bF aG)<|Dd aE<|Dd (mR cC)<|Dd (iN isAgg9)<|Dd (by exact cK rfl rfl rfl (by omega) rfl)<|Dd aM<|Zz<|Rg<|Dd aE<|Dd mV<|Da ?_;refine⟨k+1,by omega,by omega,?_⟩;rw[hnx];exact(cX.wk (Ea<|Ea<|Eb<|Eb<|trivial) (Hc (nC _ _)<|Hb<|trivial) trivial)
 have hend:k=o.refs.length\/20000<(ofL (bZ [32] (bs (o.refs.take k)))).size:=by have h:=hc7;simp only[Bool.and_eq_false_iff,aQM]at h;omega
 obtain ⟨S,hS⟩:∃S,S=ofL (bZ [32] (bs (o.refs.take k))):=⟨_,rfl⟩;obtain ⟨B,hB⟩:∃B,B=(⟨#[40]⟩:ByteArray)++S++⟨#[41]⟩:=⟨_,rfl⟩;rw[<-hS]at hsk hend;rw[<-hS];have h40:(⟨#[40]⟩:ByteArray).size=1:=rfl;have h41:(⟨#[41]⟩:ByteArray).size=1:=rfl;have hA:((⟨#[40]⟩:ByteArray)++S).size=1+S.size:=wW _ _;have hBs:B.size=1+S.size+1:=by rw[hB,wW,hA];rfl
 have hMs:dC [B]=B.size+0:=by rw[cG];rfl
 have hMl:([B]:List ByteArray).length=1:=rfl;have hFT:fY o=if 20000<(ofL (bZ [32] (bs (wO o [B] o.tags.length)))).size then(sNil,2)else(ofL (bZ [32] (bs (wO o [B] o.tags.length))),0):=by
  by_cases he:k=o.refs.length
  ·have hHd:(eP o.kind).data.toList++32::(o.id.data.toList++([B]:List ByteArray).flatMap fun s=>32::s.data.toList)=nD o:=by
    rw[nD,aQC hk,hB,hS,he,List.take_length];simp[ofL]
   rw[aAf hHd];exact hT
  have hbig:20000<S.size:=by rcases hend with h|h;exact absurd h he;exact h
  have h1:=congrArg List.length (aAe o [B]);rw[bD]at h1;have h2:(vE o).size=(tZ o).length:=by rw[<-bD];rfl
  have h3:=RL o.refs k;have h4:S.size=(bZ [32] (bs (o.refs.take k))).length:=by rw[hS,dH]
  have h5:(tZ o).length>=(bZ [32] (bs o.refs)).length:=by
   rw[tZ,nD,aQC hk];simp only[aQF,aQG];omega
  have h6:([B]:List ByteArray).flatMap (fun s=>32::s.data.toList)=32::B.data.toList:=by simp
  rw[h6]at h1;simp only[aQF,aQG,bD]at h1;rw[hT,aQD (by omega),aQD (by omega)]
 refine aW<|Rg<|Dd aE<|Dd aE<|Dd (by exact cK rfl rfl rfl (by omega) rfl)<|Dd (by exact cK rfl rfl rfl (by omega) hB.symm)<|Dd (by exact aQ [encStr B] rfl cC rfl rfl rfl rfl rfl (by intro r hr;rw[aQH]at hr;subst hr;rfl))<|Dd (by exact cJ (ps:=[encStr B]) rfl cC xI rfl rfl rfl rfl rfl rfl rfl (by intro r hr;rw[aQH]at hr;subst hr;rfl) (m:=1) rfl (by omega) rfl (rfl:_=OQ (wO o [B] 0)))<|Dd aM<|Zz<|Sq<|Sr<|Dd aM<|Zz<|aF ?_;have hMs2:dC ([eP o.kind,o.id]++[B])<=70000:=by rw[C2];have:dC [eP o.kind,o.id]=(eP o.kind).size+(o.id.size+0):=(by rw[cG,cG];rfl);omega
 have hWl:∀k,k<=o.tags.length->(wO o [B] k).length<=64:=fun k hk=>by rw[wO,aQF,aQF,aQE,aQS];show 2+_+_<=_;omega
 have hWs:∀k,dC (wO o [B] k)<=100000:=fun k=>by
  rw[wO,C2];have h1:=hTs k;omega
 refine bJ (σ:=Nat) (fun k=>([(1,.ref 1 0 0 0),(4,.osl 901 (1+k) 0 (wO o [B] k).length),(7,iv (k:Int))],[(901,⟨1+k,1,9,OQ (wO o [B] k)⟩),(1,oBx o)])) (fun k=>k<=o.tags.length) (fun k=>o.tags.length - k) 0 (aQV _) ?_ ?_
 ·exact(cX.wk (Ea<|Ea<|Eb<|trivial) (Hc (nC _ _)<|Hb<|trivial) trivial)
 rintro k hk;have hwl:=hWl k hk;refine Sq<|Sr<|Dd aE<|Dd (aT fB)<|Dd (bF cS)<|Dd (fM cZ)<|Dd cW<|Zz ?_;refine Cn ?_ ?_<;>intro hc9
 ·have hlt:k<o.tags.length:=by have:=aQA hc9;omega
  obtain ⟨t,ht⟩:=aU hlt;have hit:=cI (f:=bQ) ht;have hnx:=aAd (M:=[B]) ht;have hnl:(wO o [B] k++[gU t]).length=(wO o [B] k).length+1:=by rw[aQF];rfl
  obtain ⟨hks,hvs⟩:=hTb t (aQO ht);have hq:=pN t.val;have h61:(⟨#[61]⟩:ByteArray).size=1:=rfl;have hk1:(t.key++(⟨#[61]⟩:ByteArray)).size=t.key.size+1:=wW _ _;refine aC<|Sq<|aF<|aO follows<|Cs (fun _ _=>aE)<|Cs (fun _ h=>fh fB h)<|Cs (fun _ h=>lh cS h)<|Cs (fun _ _=>aE)<|Cs (fun _ _=>(mR kH))<|Cs (fun _ _=>(NS nG))<|Cs (fun _ _=>(iN isAgg9))<|Cs (fun H1 hH=>by exact cK rfl rfl rfl (by omega) rfl)<|Cs (fun _ h=>fh fB h)<|Cs (fun _ h=>lh cS h)<|Cs (fun _ _=>aE)<|Cs (fun _ _=>(mR kH))<|Cs (fun _ _=>(NS oF))<|Cs (fun _ _=>(iN isAgg9))<|Cs (fun H1 hH=>by exact aA rfl rfl aPN rfl (HQ t.val _ (by omega)))<|Cs (fun H1 hH=>by exact cK rfl rfl rfl (by omega) rfl)<|Cs (fun H1 hH=>by exact aQ [encStr (gU t)] rfl cC rfl rfl rfl rfl rfl (by intro r hr;rw[aQH]at hr;subst hr;rfl)) ?_;refine bL (r:=⟨_,none,[_]⟩) (DStep.plain rfl (fun H1 hH=>by exact cJ (ps:=[encStr (gU t)]) rfl cC xI rfl ((hH _ rfl).trans rfl) rfl rfl rfl (aBB _) rfl (by intro r hr;rw[aQH]at hr;subst hr;rfl) (m:=1) rfl (by omega) rfl (aBC _ (gU t)))) rfl ?_;refine Cs (fun _ _=>aM)<|bM<|Kr<|Rg<|Dd aE<|Dd mV<|Da ?_;refine⟨k+1,by omega,by omega,?_⟩;rw[hnx,hnl];exact(cX.wk (Ea<|Ea<|Eb<|trivial) (Hc (nC _ _)<|Hb<|trivial) trivial)
 have hge:k=o.tags.length:=by have:=aQB hc9;omega
 subst hge;obtain ⟨W,hW⟩:∃W,W=wO o [B] o.tags.length:=⟨_,rfl⟩;have hWs2:=hWs o.tags.length;rw[<-hW]at hwl hWs2 hFT;rw[<-hW];obtain ⟨F,hF⟩:∃F,F=ofL (bZ [32] (bs W)):=⟨_,rfl⟩;rw[<-hF]at hFT;refine aW<|Sr<|Dd aM<|Zz<|Sq<|Sr<|Dd aM<|Zz<|aF ?_;refine bJ (σ:=Nat) (fun k=>([(4,.osl 901 (1+o.tags.length) 0 W.length),(8,sv (ofL (bZ [32] (bs (W.take k))))),(9,iv (k:Int))],[(901,⟨1+o.tags.length,1,9,OQ W⟩)])) (fun k=>k<=W.length) (fun k=>W.length - k) 0 (aQV _) ?_ ?_
 ·exact(cX.wk (Ea<|Eb<|Eb<|trivial) (Hc (nC _ _)<|trivial) trivial)
 rintro k hk;have hsz:(ofL (bZ [32] (bs (W.take k)))).size<=100064:=by
  rw[dH];have h1:=fE (W.take k);have h2:=mM W k;have h3:(W.take k).length<=W.length:=by rw[aQS];exact Nat.min_le_right _ _
  omega
 refine Sq<|Sr<|Dd aE<|Dd aE<|Dd (by exact eG rfl aD rfl rfl rfl)<|Dd cW<|Zz ?_;refine Cn ?_ ?_<;>intro hc10
 ·have hlt:k<W.length:=by have:=aQA hc10;omega
  obtain ⟨w,hw⟩:=aU hlt;have hiw:=S1 hw;have hnx:=zD hw;have hws:w.size<=100000:=by
   have h1:=uS hw;have h2:=mM W (k+1);omega
  have h32:(⟨#[32]⟩:ByteArray).size=1:=rfl;have hs2:(ofL (bZ [32] (bs (W.take k)))++⟨#[32]⟩).size=(ofL (bZ [32] (bs (W.take k)))).size+1:=wW _ _;refine aC<|Sq<|aF<|Sq<|Sr<|Dd aE<|Dd iG<|Zz ?_;refine Cn ?_ ?_<;>intro hc11
  ·have hq:0<k:=by have:=aQA hc11;omega
   rw[aQD hq]at hnx;refine Rg<|Dd aE<|Dd (by exact cK rfl rfl rfl (by omega) rfl)<|Dd aM<|Zz<|Rg<|Dd aE<|Dd aE<|Dd aE<|Dd (by exact dQ rfl cC rfl rfl rfl rfl rfl (by omega) (by exact aQP _) hlt (aQW _))<|Dd (by exact aK rfl isAgg9 rfl rfl rfl hiw rfl)<|Dd (by exact cK rfl rfl rfl (by omega) rfl)<|Dd aM<|Zz<|Rg<|Dd aE<|Dd mV<|Da ?_;refine⟨k+1,by omega,by omega,?_⟩;rw[hnx];exact(cX.wk (Ea<|Eb<|Eb<|trivial) (Hc (nC _ _)<|trivial) trivial)
  have hq:¬ 0<k:=by have:=aQB hc11;omega
  rw[aQC hq]at hnx;refine aC<|Rg<|Dd aE<|Dd aE<|Dd aE<|Dd (by exact dQ rfl cC rfl rfl rfl rfl rfl (by omega) (by exact aQP _) hlt (aQW _))<|Dd (by exact aK rfl isAgg9 rfl rfl rfl hiw rfl)<|Dd (by exact cK rfl rfl rfl (by omega) rfl)<|Dd aM<|Zz<|Rg<|Dd aE<|Dd mV<|Da ?_;refine⟨k+1,by omega,by omega,?_⟩;rw[hnx];exact(cX.wk (Ea<|Eb<|Eb<|trivial) (Hc (nC _ _)<|trivial) trivial)
 have hge:k=W.length:=by have:=aQB hc10;omega
 subst hge;rw[List.take_length,<-hF];refine aW<|Sq<|Sr<|Dd aE<|Dd (kG underlying9)<|Dd iG<|Zz ?_;refine Cn ?_ ?_<;>intro hc12
 ·have hbig:20000<F.size:=by have:=aQA hc12;omega
  rw[hFT,aQD hbig];exact Sr<|Dd aM<|Dd aM<|Zz<|aB<|Ru<|Qq
 have hbig:¬ 20000<F.size:=by have:=aQB hc12;omega
 rw[hFT,aQC hbig];exact aC<|Sr<|Dd aE<|Dd aM<|Dd aM<|Zz<|aB<|Ru<|Qq
theorem aDt(ws:List ByteArray)(H:aH)(id g:Nat)(hH:H.get id=some ⟨g,1,9,OQ ws⟩)(hb:dC ws+ws.length<1099511627776):aI Tryz.prog 185 [.osl id g 0 ws.length] H (fun r H'=>r=sv (ofL (bZ [32] (bs ws)))/\H'=H):=by
 refine Bd func185 rfl ntmps185<|Sr<|Dd aM<|Zz<|Sr<|Dd aM<|Zz<|Sq<|Sr<|Dd aM<|Zz<|aF ?_;refine bJ (σ:=Nat) (fun k=>([(0,.osl id g 0 ws.length),(3,sv (ofL (bZ [32] (bs (ws.take k))))),(4,iv (k:Int))],H)) (fun k=>k<=ws.length) (fun k=>ws.length - k) 0 (aQV _) ?_ ?_
 ·exact E0
 rintro k hk;have hsz:(ofL (bZ [32] (bs (ws.take k)))).size<=dC ws+ws.length:=by
  rw[dH];have h1:=fE (ws.take k);have h2:=mM ws k;have h3:(ws.take k).length<=ws.length:=by rw[aQS];exact Nat.min_le_right _ _
  omega
 refine Sq<|Sr<|Dd aE<|Dd aE<|Dd (by exact eG rfl aD rfl hH rfl)<|Dd cW<|Zz ?_;refine Cn ?_ ?_<;>intro hc1
 ·have hlt:k<ws.length:=by have:=aQA hc1;omega
  obtain ⟨w,hw⟩:=aU hlt;have hiw:=S1 hw;have hnx:=zD hw;have hws:w.size<=dC ws:=by
   have h1:=uS hw;have h2:=mM ws (k+1);omega
  have h32:(⟨#[32]⟩:ByteArray).size=1:=rfl;have hs2:(ofL (bZ [32] (bs (ws.take k)))++⟨#[32]⟩).size=(ofL (bZ [32] (bs (ws.take k)))).size+1:=wW _ _;refine aC<|Sq<|aF<|Sq<|Sr<|Dd aE<|Dd iG<|Zz ?_;refine Cn ?_ ?_<;>intro hc2
  ·have hq:0<k:=by have:=aQA hc2;omega
   rw[aQD hq]at hnx;refine Rg<|Dd aE<|Dd (by exact cK rfl rfl rfl (by omega) rfl)<|Dd aM<|Zz<|Rg<|Dd aE<|Dd aE<|Dd aE<|Dd (by exact dQ rfl cC rfl hH rfl rfl rfl (by omega) (by exact aQP _) hlt (aQW _))<|Dd (by exact aK rfl isAgg9 rfl hH rfl hiw rfl)<|Dd (by exact cK rfl rfl rfl (by omega) rfl)<|Dd aM<|Zz<|Rg<|Dd aE<|Dd mV<|Da ?_;refine⟨k+1,by omega,by omega,?_⟩;rw[hnx];exact E0
  have hq:¬ 0<k:=by have:=aQB hc2;omega
  rw[aQC hq]at hnx;refine aC<|Rg<|Dd aE<|Dd aE<|Dd aE<|Dd (by exact dQ rfl cC rfl hH rfl rfl rfl (by omega) (by exact aQP _) hlt (aQW _))<|Dd (by exact aK rfl isAgg9 rfl hH rfl hiw rfl)<|Dd (by exact cK rfl rfl rfl (by omega) rfl)<|Dd aM<|Zz<|Rg<|Dd aE<|Dd mV<|Da ?_;refine⟨k+1,by omega,by omega,?_⟩;rw[hnx];exact E0
 have hge:k=ws.length:=by have:=aQB hc1;omega
 subst hge;rw[List.take_length];refine aW<|Sr<|Dd aE<|Dd aM<|Zz<|aB ?_;refine dV (H':=H) (.inr rfl) rfl (aX rfl) Fin.refl ?_;exact Qq
theorem P0{e:GEdit}{ws:List ByteArray}(h1:e.op≠1)(h:bs ws=gN e):ofL (bZ [32] (bs ws))++⟨#[10]⟩=ofL (fL e++[10]):=vM h1 h
theorem aHu(e:GEdit)(H:aH)(he:M0 e)(hv:dU e=true):aI Tryz.prog 149 [av (bA e)] H (fun r H'=>r=.tup [sv (ofL (fL e++[10])),bv (decide (fV e=0))]/\H'=H):=by
 refine Pu ?_;obtain ⟨⟨o1,o2⟩,o3,o4⟩:=vR.1 hv;rw[rI]at o3;have hval:=EW hv;have hs0:dC []=0:=rfl;refine Bd func149 rfl ntmps149<|Sr<|Dd (by exact cF (id:=1) rfl rfl rfl rfl rfl)<|Dd aM<|Dd aM<|Zz<|Sq<|Sr<|Dd (aT gG)<|Dd (bF isAgg3)<|Zz<|aF<|Sr<|Dd cN<|Da ?_;refine Cn ?_ ?_<;>intro hc1
 ·have h1:e.op=1:=aQA hc1;have hos:=HZ (o:=e.obj);have h3:(⟨#[112,117,116]⟩:ByteArray).size=3:=rfl;have h10:(⟨#[10]⟩:ByteArray).size=1:=rfl;have hjs:(ofL (bZ [32] (bs [⟨#[112,117,116]⟩,(fY e.obj).1]))).size<=70000:=by
   rw[dH];have:=fE [⟨#[112,117,116]⟩,(fY e.obj).1];simp only[cG,aQG,List.length_nil]at this;omega
  have hout:ofL (bZ [32] (bs [⟨#[112,117,116]⟩,(fY e.obj).1]))++⟨#[10]⟩=ofL (fL e++[10]):=eqL (by
   rw[dI,fL,aQD h1];simp[ofL,bs,bZ,aCB])
  refine Sr<|Dd (aT oG)<|Dd (by exact aN rfl dA sizeOf151 rfl rfl rfl rfl (by simp only[Zl,bQ,bW,encStr,bA,jT];rfl) rfl)<|Dd (by exact aA rfl rfl call184 rfl (ZD e.obj _ he.2.2))<|Dd aE<|Dd fG<|Dd fG<|Dd aM<|Dd aM<|Zz<|Sr<|Dd aE<|Dd (by exact aQ [encStr ⟨#[112,117,116]⟩,encStr (fY e.obj).1] rfl cC rfl rfl rfl rfl rfl (iD [⟨#[112,117,116]⟩,(fY e.obj).1]))<|Dd (by exact aA rfl rfl yF rfl (C0 [⟨#[112,117,116]⟩,(fY e.obj).1] _ (by simp only[cG,aQG,List.length_nil];omega)))<|Dd (by exact cK rfl rfl rfl (by omega) hout)<|Dd aE<|Dd cN<|Dd aM<|Dd aM<|Zz<|aB<|Ru ?_;rw[show fV e=(fY e.obj).2 from aQD h1];exact Qq
 have h1:e.op≠1:=aQB hc1;rw[aQC h1,aQN]at o3;obtain ⟨o5,o6⟩:=o3;have hid:=dO o5;refine Sr<|Dd cN<|Da ?_;refine Cn ?_ ?_<;>intro hc2
 ·have h2:e.op=2:=aQA hc2;rw[aQD h2,onP,aQN,aQL,aQL]at o6;have hx:0<=e.x/\e.x<1048576:=by omega
  have hy:0<=e.y/\e.y<1048576:=by omega
  have six:(aV e.x).size<=7:=by rw[<-bD];show (Lib.itoa e.x).length<=7;rw[iU _ hx.1];exact dY (by omega) (by decide)
  have siy:(aV e.y).size<=7:=by rw[<-bD];show (Lib.itoa e.y).length<=7;rw[iU _ hy.1];exact dY (by omega) (by decide)
  have hw0:(⟨#[109,111,118,101]⟩:ByteArray).size=4:=rfl;have hw:bs [⟨#[109,111,118,101]⟩,e.id,aV e.x,aV e.y]=gN e:=by
   rw[gN]
   (rw[aQD h2];rfl)
  have hne:e.op≠1:=by omega
  have hjs:(ofL (bZ [32] (bs [⟨#[109,111,118,101]⟩,e.id,aV e.x,aV e.y]))).size<=70000:=by
   rw[dH];have:=fE [⟨#[109,111,118,101]⟩,e.id,aV e.x,aV e.y];simp only[cG,aQG,List.length_nil]at this;omega
  have h10:(⟨#[10]⟩:ByteArray).size=1:=rfl;refine Sq<|aO follows<|Cq (aT gX)<|Cq (bF isAgg9)<|Cq (aT gW)<|Cq (aT pR)<|Cq (bF isAgg3)<|Cq (by exact aA rfl rfl DX rfl (KR e.x _ (by omega) (by omega)))<|Cq (aT gW)<|Cq (aT pQ)<|Cq (bF isAgg3)<|Cq (by exact aA rfl rfl DX rfl (KR e.y _ (by omega) (by omega)))<|Cq (by exact aQ (([⟨#[109,111,118,101]⟩,e.id,aV e.x,aV e.y]:List ByteArray).map encStr) rfl cC rfl rfl rfl rfl rfl (iD _))<|Cq (by exact aA rfl rfl yF rfl (C0 [⟨#[109,111,118,101]⟩,e.id,aV e.x,aV e.y] _ (by simp only[cG,aQG,List.length_nil];omega)))<|Cq (by exact cK rfl rfl rfl (by omega) rfl)<|Cq aM<|Cq aM<|bM<|Kr<|aB<|Ru ?_;rw[P0 hne hw,show fV e=0 from aQC hne];exact Qq
 have h2:e.op≠2:=aQB hc2;rw[aQC h2]at o6;refine Sr<|Dd cN<|Da ?_;refine Cn ?_ ?_<;>intro hc3
 ·have h3:e.op=3:=aQA hc3;rw[aQD h3,aQN,aQL]at o6;have hks:=dO o6.1;have hq:=pN e.val;have hw0:(⟨#[116,97,103]⟩:ByteArray).size=3:=rfl;have hw:bs [⟨#[116,97,103]⟩,e.id,e.key,⟨(eE e.val.data.toList).toArray⟩]=gN e:=by
   rw[gN]
   (rw[aQC h2,aQD h3];rfl)
  have hne:e.op≠1:=by omega
  have hjs:(ofL (bZ [32] (bs [⟨#[116,97,103]⟩,e.id,e.key,⟨(eE e.val.data.toList).toArray⟩]))).size<=70000:=by
   rw[dH];have:=fE [⟨#[116,97,103]⟩,e.id,e.key,⟨(eE e.val.data.toList).toArray⟩];simp only[cG,aQG,List.length_nil]at this;omega
  have h10:(⟨#[10]⟩:ByteArray).size=1:=rfl;refine Sq<|aO follows<|Cq (aT gX)<|Cq (bF isAgg9)<|Cq (aT kD)<|Cq (bF isAgg9)<|Cq (aT kR)<|Cq (bF isAgg9)<|Cq (by exact aA rfl rfl aPN rfl (HQ e.val _ (by omega)))<|Cq (by exact aQ (([⟨#[116,97,103]⟩,e.id,e.key,⟨(eE e.val.data.toList).toArray⟩]:List ByteArray).map encStr) rfl cC rfl rfl rfl rfl rfl (iD _))<|Cq (by exact aA rfl rfl yF rfl (C0 [⟨#[116,97,103]⟩,e.id,e.key,⟨(eE e.val.data.toList).toArray⟩] _ (by simp only[cG,aQG,List.length_nil];omega)))<|Cq (by exact cK rfl rfl rfl (by omega) rfl)<|Cq aM<|Cq aM<|bM<|Kr<|aB<|Ru ?_;rw[P0 hne hw,show fV e=0 from aQC hne];exact Qq
 have h3:e.op≠3:=aQB hc3;rw[aQC h3]at o6;refine Sr<|Dd cN<|Da ?_;refine Cn ?_ ?_<;>intro hc4
 ·have h4:e.op=4:=aQA hc4;rw[aQD h4,aQN,aQN,aQL,aQL,List.all_eq_true]at o6;obtain ⟨⟨r1,r2⟩,r3⟩:=o6;have hrs:dC e.refs<=24*e.refs.length:=nN (fun s hs=>dO (r3 s hs));have hw0:(⟨#[114,101,102,115]⟩:ByteArray).size=4:=rfl;have hwd:∀H,H.get 901=some ⟨1,1,9,OQ (⟨#[114,101,102,115]⟩::e.id::e.refs)⟩->aI Tryz.prog 185 [.osl 901 1 0 (⟨#[114,101,102,115]⟩::e.id::e.refs).length] H (fun r H'=>r=sv (ofL (bZ [32] (bs (⟨#[114,101,102,115]⟩::e.id::e.refs))))/\H'=H):=fun H hH=>aDt _ H 901 1 hH (by simp only[cG,aQG];omega);have hw:bs (⟨#[114,101,102,115]⟩::e.id::e.refs)=gN e:=by rw[gN,aQC h2,aQC h3,aQD h4];rfl
  have hjs:(ofL (bZ [32] (bs (⟨#[114,101,102,115]⟩::e.id::e.refs)))).size<=70000:=by
   rw[dH];have:=fE (⟨#[114,101,102,115]⟩::e.id::e.refs);simp only[cG,aQG]at this;omega
  have h10:(⟨#[10]⟩:ByteArray).size=1:=rfl;have hmr:(e.refs.map encStr).length=e.refs.length:=aQE _;have hrw:OQ [⟨#[114,101,102,115]⟩,e.id]++(e.refs.map encStr).map (·.map .pv)=OQ (⟨#[114,101,102,115]⟩::e.id::e.refs):=by rw[<-aKa];rfl
  refine Sr<|Dd (aT gX)<|Dd (bF isAgg9)<|Dd (by exact fT (id:=901) rfl cC rfl rfl rfl rfl (by intro r hr;simp only[aQQ,aQU,or_false]at hr;rcases hr with rfl|rfl<;>rfl) rfl)<|Dd (aT eY)<|Dd (bF aG)<|Dd (by exact cJ (ps:=e.refs.map encStr) rfl cC xI rfl rfl rfl rfl rfl rfl rfl (iD e.refs) (m:=e.refs.length) hmr (by omega) (Nat.add_comm 2 _:2+e.refs.length=(⟨#[114,101,102,115]⟩::e.id::e.refs).length) hrw)<|Dd (by exact aA rfl rfl yF rfl (hwd _ rfl))<|Dd (by exact cK rfl rfl rfl (by omega) rfl)<|Dd aM<|Dd aM<|Zz<|aB<|Ru ?_;rw[P0 h1 hw,show fV e=0 from aQC h1];exact Qq
 have h4:e.op≠4:=aQB hc4;rw[aQC h4]at o6;refine Sr<|Dd cN<|Da ?_;refine Cn ?_ ?_<;>intro hc5
 ·have h5:e.op=5:=aQA hc5;have hw0:(⟨#[100,114,111,112]⟩:ByteArray).size=4:=rfl;have hw:bs [⟨#[100,114,111,112]⟩,e.id]=gN e:=by
   rw[gN]
   (rw[aQC h2,aQC h3,aQC h4,aQD h5];rfl)
  have hne:e.op≠1:=by omega
  have hjs:(ofL (bZ [32] (bs [⟨#[100,114,111,112]⟩,e.id]))).size<=70000:=by
   rw[dH];have:=fE [⟨#[100,114,111,112]⟩,e.id];simp only[cG,aQG,List.length_nil]at this;omega
  have h10:(⟨#[10]⟩:ByteArray).size=1:=rfl;refine Sr<|Dd (aT gX)<|Dd (bF isAgg9)<|Dd (by exact aQ (([⟨#[100,114,111,112]⟩,e.id]:List ByteArray).map encStr) rfl cC rfl rfl rfl rfl rfl (iD _))<|Dd (by exact aA rfl rfl yF rfl (C0 [⟨#[100,114,111,112]⟩,e.id] _ (by simp only[cG,aQG,List.length_nil];omega)))<|Dd (by exact cK rfl rfl rfl (by omega) rfl)<|Dd aM<|Dd aM<|Zz<|aB<|Ru ?_;rw[P0 hne hw,show fV e=0 from aQC hne];exact Qq
 have h5:e.op≠5:=aQB hc5;rw[aQC h5]at o6;refine Sr<|Dd cN<|Da ?_;refine Cn ?_ ?_<;>intro hc6
 ·have h6:e.op=6:=aQA hc6;rw[aQD h6,aQN]at o6;have hns:=dO o6.1;have hos:=dO o6.2;have hw0:(⟨#[115,112,108,105,116]⟩:ByteArray).size=5:=rfl;have hw:bs [⟨#[115,112,108,105,116]⟩,e.id,e.node,e.other]=gN e:=by
   rw[gN]
   (rw[aQC h2,aQC h3,aQC h4,aQC h5,aQD h6];rfl)
  have hne:e.op≠1:=by omega
  have hjs:(ofL (bZ [32] (bs [⟨#[115,112,108,105,116]⟩,e.id,e.node,e.other]))).size<=70000:=by
   rw[dH];have:=fE [⟨#[115,112,108,105,116]⟩,e.id,e.node,e.other];simp only[cG,aQG,List.length_nil]at this;omega
  have h10:(⟨#[10]⟩:ByteArray).size=1:=rfl;refine Sr<|Dd (aT gX)<|Dd (bF isAgg9)<|Dd (aT mH)<|Dd (bF isAgg9)<|Dd (aT iC)<|Dd (bF isAgg9)<|Dd (by exact aQ (([⟨#[115,112,108,105,116]⟩,e.id,e.node,e.other]:List ByteArray).map encStr) rfl cC rfl rfl rfl rfl rfl (iD _))<|Dd (by exact aA rfl rfl yF rfl (C0 [⟨#[115,112,108,105,116]⟩,e.id,e.node,e.other] _ (by simp only[cG,aQG,List.length_nil];omega)))<|Dd (by exact cK rfl rfl rfl (by omega) rfl)<|Dd aM<|Dd aM<|Zz<|aB<|Ru ?_;rw[P0 hne hw,show fV e=0 from aQC hne];exact Qq
 have h6:e.op≠6:=aQB hc6;rw[aQC h6]at o6;have hos:=dO o6;have hw0:(⟨#[106,111,105,110]⟩:ByteArray).size=4:=rfl;have hw:bs [⟨#[106,111,105,110]⟩,e.id,e.other]=gN e:=by
  rw[gN]
  (rw[aQC h2,aQC h3,aQC h4,aQC h5,aQC h6];rfl)
 have hne:e.op≠1:=by omega
 have hjs:(ofL (bZ [32] (bs [⟨#[106,111,105,110]⟩,e.id,e.other]))).size<=70000:=by
  rw[dH];have:=fE [⟨#[106,111,105,110]⟩,e.id,e.other];simp only[cG,aQG,List.length_nil]at this;omega
 have h10:(⟨#[10]⟩:ByteArray).size=1:=rfl;refine aC<|Sr<|Dd (aT gX)<|Dd (bF isAgg9)<|Dd (aT iC)<|Dd (bF isAgg9)<|Dd (by exact aQ (([⟨#[106,111,105,110]⟩,e.id,e.other]:List ByteArray).map encStr) rfl cC rfl rfl rfl rfl rfl (iD _))<|Dd (by exact aA rfl rfl yF rfl (C0 [⟨#[106,111,105,110]⟩,e.id,e.other] _ (by simp only[cG,aQG,List.length_nil];omega)))<|Dd (by exact cK rfl rfl rfl (by omega) rfl)<|Dd aM<|Dd aM<|Zz<|aB<|Ru ?_;rw[P0 hne hw,show fV e=0 from aQC hne];exact Qq
theorem WA(l:List GEdit)(H:aH)(hl:l.length<1099511627776)(he:∀e∈l,M0 e)(hr:∀e∈l,e.refs.length<1099511627776):aI Tryz.prog 112 [.pv (iO l)] H (fun r H'=>r=.tup [sv (eZ l).1,iv (eZ l).2]/\H'=H):=by
 refine Pu ?_;have hml:(l.map bA).length=l.length:=aQE _;refine Bd func112 rfl ntmps112<|Sr<|Dd aM<|Dd aM<|Zz<|Sq<|Sr<|Dd aE<|Dd (by exact aA rfl rfl call148 rfl (aC4 l _ hl he hr))<|Dd iS<|Zz ?_;refine Cn ?_ ?_<;>intro hc1
 ·have hg:kP l=false:=by have h:=hc1;rwa [aQX]at h
  rw[show eZ l=(sNil,1)by rw[eZ,hg];rfl];exact Sr<|Dd aM<|Dd aM<|Zz<|aB<|Ru<|Qq
 have hg:kP l=true:=by have h:=hc1;rwa [Bool.not_eq_false']at h
 have hv:=(XE hg).2.2;have hT:eZ l=(ofL (pY [] l).1,(pY [] l).2):=by rw[eZ,hg];rfl
 refine aC<|Sr<|Dd aM<|Zz<|Sq<|Sr<|Dd aM<|Zz<|aF ?_;refine bJ (σ:=Nat) (fun k=>([(0,.pv (iO l)),(4,sv (ofL (oI l k))),(5,iv (k:Int))],[])) (fun k=>k<=l.length/\pY [] l=pY (oI l k) (l.drop k)/\(oI l k).length<=20000) (fun k=>l.length - k) 0 ⟨aQV _,rfl,aQV _⟩ ?_ ?_
 ·exact Wk
 rintro k ⟨hk,hF,hA⟩;refine Sq<|Sr<|Dd aE<|Dd aE<|Dd (fM dB)<|Dd cW<|Zz ?_;refine Cn ?_ ?_<;>intro hc2
 ·have hlt:k<l.length:=by have:=aQA hc2;omega
  obtain ⟨e,hke⟩:=aU hlt;have hi:=cI (f:=bA) hke;have hem:=aQO hke;have hnx:=SD hke;have hYl:=RC (hv e hem);have hdr:l.drop k=e::l.drop (k+1):=by
   rw[List.drop_eq_getElem_cons hlt];rw[aQJ hlt]at hke;cases hke;rfl
  rw[hdr,pY]at hF;have hsA:(ofL (oI l k)).size=(oI l k).length:=dH _;have hsz:(ofL (fL e++[10])).size=(fL e).length+1:=by rw[dH,aQF];rfl
  have hjo:ofL (oI l k)++ofL (fL e++[10])=ofL (oI l (k+1)):=eqL (by
   rw[show (ofL (oI l k)++ofL (fL e++[10])).data.toList=(ofL (oI l k)).data.toList++(ofL (fL e++[10])).data.toList by simp,dI,dI,dI,hnx])
  have hsB:(ofL (oI l (k+1))).size=(oI l (k+1)).length:=dH _;refine aC<|Sq<|aF<|Sr<|Dd aE<|Dd aE<|Dd (mR SQ)<|Dd (by exact dP rfl cE bC rfl (by omega) (by simp only[Zl,bQ,bW,encStr,bA,jT];rfl) rfl)<|Dd (by exact aA rfl rfl call149 rfl (aHu e _ (he e hem) (hv e hem)))<|Dd aE<|Dd fG<|Dd fG<|Dd aM<|Dd aM<|Zz<|Sr<|Dd aE<|Dd aE<|Dd (by exact cK rfl rfl rfl (by omega) hjo)<|Dd aM<|Zz<|Sq ?_;refine aY (t:=34) (n:=8) (X:=!decide (fV e=0)||decide ((20000:Int)<((ofL (oI l (k+1))).size:Int))) ?_ ?_
  ·all_goals refine Dd aE ?_
   all_goals refine Dd iS<|Dm ?_
   all_goals refine Sp 30 (fun h30=>?_) fun h30=>?_
   all_goals try contradiction
   all_goals first|refine Fo<|Fo<|Fo ?_|refine On aE<|On (kG underlying9)<|On iG ?_
   all_goals refine Dd cH<|Zz ?_
   all_goals(exact⟨⟨_,rfl,by(simp only[*,Zo];done)⟩,rfl,rfl,rfl⟩)
  refine Cn ?_ ?_<;>intro hc3
  ·have hbad:fV e≠0\/20000<(oI l k++(fL e++[10])).length:=by have h:=hc3;rw[<-hnx];simp only[Bool.or_eq_true,aQX,aQM,aQL]at h;omega
   rw[aQD hbad]at hF;rw[hT,hF];exact Sr<|Dd aM<|Dd aM<|Zz<|aB<|Ru<|Qq
  have hfine:¬ (fV e≠0\/20000<(oI l k++(fL e++[10])).length):=by have h:=hc3;rw[<-hnx];simp only[aQ0,Bool.not_eq_false',aQM,aQL]at h;omega
  rw[aQC hfine,<-hnx]at hF;rw[<-hnx]at hfine;refine aC<|Rg<|Dd aE<|Dd mV<|Da ?_;exact⟨k+1,⟨hlt,hF,by omega⟩,by omega,Wk⟩
 have hge:k=l.length:=by have:=aQB hc2;omega
 subst hge;rw[List.drop_length,pY]at hF;rw[hT,hF];exact aW<|Sr<|Dd aE<|Dd aM<|Dd aM<|Zz<|aB<|Ru<|Qq
end Go.Proofs.YtmdicgjnmfolfaaGreatDoor
namespace Go.Proofs.YtmdicgjnmfolfaaGreatDoor
open Go.Proofs.Tryz
open Go.Abs
variable{l:List ByteArray}{p:GPriv}{r:GRec}
def qP:List ByteArray->Bool
 |a::b::r=>wH a b&&qP (b::r)
 |_=>true
theorem XX:∀(l:List ByteArray),(iM l).length<=l.length
 | []=>aQK _
 | [x]=>aQK _
 |x::y::r=>by
  have ih:=XX (y::r);show (if x=y then iM (y::r)else x::iM (y::r)).length<=_
  split
  ·exact Nat.le_succ_of_le ih
  exact Nat.succ_le_succ ih
theorem NH:∀(l:List ByteArray),aFf l=qP l
 | []=>rfl
 | [x]=>rfl
 | x::y::r=>by
  have ih:=NH (y::r);have hl:=XX (y::r);rw[aFf,aQE]at ih |-;show ((!wH y x&&lX (y::r))&&decide (((if x=y then iM (y::r)else x::iM (y::r)).length:Int)=_))=(wH x y&&qP (y::r));by_cases e:x=y
  ·rw[aQD e,e,KN,Bool.false_and,decide_eq_false (by have h9:(y::y::r).length=(y::r).length+1:=rfl;omega),Bool.and_false]
  rw[aQC e,<-ih,Bool.and_assoc];have h1:(!wH y x)=wH x y:=by
   cases h2:wH x y
   ·cases h3:wH y x
    ·exact absurd (KM h2 h3) e
    rfl
   cases h3:wH y x
   ·rfl
   have:=HL h2 h3;rw[KN]at this;cases this
  rw[h1];congr 2;have:(((x::iM (y::r)).length:Int)=((x::y::r).length:Int))↔(((iM (y::r)).length:Int)=((y::r).length:Int)):=by
   have h8:(x::iM (y::r)).length=(iM (y::r)).length+1:=rfl;have h9:(x::y::r).length=(y::r).length+1:=rfl;omega
  congr 1;exact propext this
theorem aCH{k:Nat}{a b:ByteArray}(ha:l[k]?=some a)(hb:l[k+1]?=some b):qP (l.drop k)=(wH a b&&qP (l.drop (k+1))):=by obtain ⟨h1,e1⟩:=aQI.1 ha;obtain ⟨h2,e2⟩:=aQI.1 hb;rw[List.drop_eq_getElem_cons h1,List.drop_eq_getElem_cons h2,e1,e2];rfl
theorem SM(h:l.length<=1):qP l=true:=by
 match l,h with
 | [],_=>rfl
 | [a],_=>rfl
def pvB(p:GPriv):Bool:=(((decide (200<(p.name.size:Int))||decide (200<(p.reason.size:Int)))||decide (16<((p.sources.map encStr).length:Int)))||decide (200<((p.trace.map fS).length:Int)))||!gV p.sl
def TJ(q:Int×Int):Bool:=TZ q.1 q.2
def pE(s:ByteArray):Bool:=!CF s
def wY(p:GPriv):Bool:=!pvB p&&(p.sources.all pE&&p.trace.all TJ)
theorem aEm(h:pvB p=true):wY p=false:=by rw[wY,h];rfl
theorem aEl(h:p.sources.all pE=false):wY p=false:=by rw[wY,h,Bool.false_and,Bool.and_false]
theorem aEk(h:p.trace.all TJ=false):wY p=false:=by rw[wY,h,Bool.and_false,Bool.and_false]
theorem aEj(h1:pvB p=false)(h2:p.sources.all pE=true)(h3:p.trace.all TJ=true):wY p=true:=by rw[wY,h1,h2,h3];rfl
theorem WG(p:GPriv)(H:aH)(hp:MZ p):aI Tryz.prog 78 [av (iP p)] H (fun r H'=>r=bv (wY p)/\H'=H):=by
 refine aI.pure ?_ (by simp[iP]) H;have hf:=fun H=>NT p.sl H hp.2.2.2.2;obtain ⟨q1,q2,⟨q3,q3'⟩,q4,_⟩:=hp;have hms:(p.sources.map encStr).length=p.sources.length:=aQE _;have hmt:(p.trace.map fS).length=p.trace.length:=aQE _;have hn1:=fun h=>aEm (p:=p) h;have hn2:=fun h=>aEl (p:=p) h;have hn3:=fun h=>aEk (p:=p) h;have hye:=fun h1 h2 h3=>aEj (p:=p) h1 h2 h3;obtain ⟨f,hff⟩:∃f,f=gV p.sl:=⟨_,rfl⟩;have hX:pvB p=((((decide (200<(p.name.size:Int))||decide (200<(p.reason.size:Int)))||decide (16<((p.sources.map encStr).length:Int)))||decide (200<((p.trace.map fS).length:Int)))||!f):=by rw[pvB,<-hff]
 rw[<-hff]at hf;refine Bd func78 rfl ntmps78<|Sr<|Dd (by exact cF (id:=1) rfl rfl rfl rfl rfl)<|Dd aM<|Zz<|Sq<|Sq ?_;refine aY (t:=32) (n:=32) (X:=pvB p) ?_ ?_
 ·all_goals refine Dd (aT xT) ?_
  all_goals refine Dd (bF isAgg9)<|Dd (kG underlying9)<|Dd iG<|Dm ?_
  all_goals refine Sp 9 (fun h9=>?_) fun h9=>?_
  all_goals try contradiction
  all_goals first|refine Fo<|Fo<|Fo<|Fo ?_|refine On (aT xS)<|On (bF isAgg9)<|On (kG underlying9)<|On iG ?_
  all_goals refine Dd cH<|Dm ?_
  all_goals refine Sp 15 (fun h15=>?_) fun h15=>?_
  all_goals try contradiction
  all_goals first|refine Fo<|Fo<|Fo<|Fo ?_|refine On (aT rB)<|On (bF aG)<|On (fM aD)<|On iG ?_
  all_goals refine Dd cH<|Dm ?_
  all_goals refine Sp 21 (fun h21=>?_) fun h21=>?_
  all_goals try contradiction
  all_goals first|refine Fo<|Fo<|Fo<|Fo ?_|refine On (aT mF)<|On (bF eW)<|On (fM dM)<|On iG ?_
  all_goals refine Dd cH<|Dm ?_
  all_goals refine Sp 27 (fun h27=>?_) fun h27=>?_
  all_goals try contradiction
  all_goals first|refine Fo<|Fo<|Fo<|Fo ?_|refine On (aT nA)<|On (mD dD sizeOf25)<|On (by exact aA rfl rfl call77 rfl (hf _))<|On iS ?_
  all_goals refine Dd cH<|Zz ?_
  all_goals(exact⟨⟨_,rfl,by first|(rw[hX,h9];rfl)|(rw[hX,h9,h15];rfl)|(rw[hX,h9,h15,h21];rfl)|(rw[hX,h9,h15,h21,h27];rfl)⟩,rfl,rfl,rfl⟩)
 refine Cn ?_ ?_<;>intro hc1
 ·have hb:=hc1;rw[hn1 hb];exact Sr<|Dd aM<|Zz<|aB<|Rt<|Qq
 have hb:=hc1;refine aC<|Sq<|Sr<|Dd aM<|Zz<|aF ?_;refine bJ (σ:=Nat) (fun k=>([(1,.ref 1 0 0 0),(3,iv (k:Int))],[(1,bx 7 28 ((iP p).map .pv))])) (fun k=>k<=p.sources.length/\∀j,j<k->∀b,p.sources[j]?=some b->pE b=true) (fun k=>p.sources.length - k) 0 ⟨by omega,by omega⟩ ?_ ?_
 ·exact E0
 rintro k ⟨hk,hno⟩;refine Sq<|Sr<|Dd aE<|Dd (aT rB)<|Dd (bF aG)<|Dd (fM aD)<|Dd cW<|Zz ?_;refine Cn ?_ ?_<;>intro hc2
 ·have hlt:k<p.sources.length:=by have:=aQA hc2;omega
  obtain ⟨s,hs⟩:=aU hlt;have hi:=cI (f:=encStr) hs;have hsz:=q3' s (aQO hs);have hnot:=fun h=>DP (p:=pE) hs h;refine aC<|Sq<|aF<|Sr<|Dd (aT rB)<|Dd (bF aG)<|Dd aE<|Dd (by exact bH rfl cC rfl rfl (by omega) (by exact aQP _) hi rfl)<|Dd (iN isAgg9 (hi:=hi))<|Dd (kG underlying9)<|Dd iG<|Zz ?_;refine Cn ?_ ?_<;>intro hc3
  ·have hb2:pE s=false:=by rw[pE,CF,hc3];rfl
   rw[hn2 (hnot hb2)];exact Sr<|Dd aM<|Zz<|aB<|Rt<|Qq
  have hb2:pE s=true:=by rw[pE,CF,hc3];rfl
  refine aC<|Rg<|Dd aE<|Dd (by exact cB rfl rfl rfl (show IntKind.i64.wrap ((k:Int)+1)=((k+1:Nat):Int)by rw[jM (by omega) (by omega)];omega))<|Da ?_;exact⟨k+1,⟨by omega,uJ hno hs hb2⟩,by omega,E0⟩
 have hge:k=p.sources.length:=by have:=aQB hc2;omega
 subst hge;have hso:=zO hno;refine aW<|Sq<|Sr<|Dd aM<|Zz<|aF ?_;refine bJ (σ:=Nat) (fun k=>([(1,.ref 1 0 0 0),(4,iv (k:Int))],[(1,bx 7 28 ((iP p).map .pv))])) (fun k=>k<=p.trace.length/\∀j,j<k->∀b,p.trace[j]?=some b->TJ b=true) (fun k=>p.trace.length - k) 0 ⟨by omega,by omega⟩ ?_ ?_
 ·exact E0
 clear hno hk;rintro k ⟨hk,hno⟩;refine Sq<|Sr<|Dd aE<|Dd (aT mF)<|Dd (bF eW)<|Dd (fM dM)<|Dd cW<|Zz ?_;refine Cn ?_ ?_<;>intro hc4
 ·have hlt:k<p.trace.length:=by have:=aQA hc4;omega
  obtain ⟨q,hs⟩:=aU hlt;have hi:=cI (f:=fS) hs;have hon:=fun H=>aE9 q.1 q.2 H;have hnot:=fun h=>DP (p:=TJ) hs h;refine aC<|Sq<|aF<|Sr<|Dd (aT mF)<|Dd (bF eW)<|Dd aE<|Dd (by exact bH rfl MC rfl rfl (by omega) (by exact aQP _) hi rfl)<|Dd (by exact dP rfl dS sizeOf68 rfl hi (by simp only[Zl,encStr];rfl) rfl)<|Dd (by exact aA rfl rfl aPR rfl (hon _))<|Dd iS<|Zz ?_;refine Cn ?_ ?_<;>intro hc5
  ·have hb2:=not_not hc5;rw[hn3 (hnot hb2)];exact Sr<|Dd aM<|Zz<|aB<|Rt<|Qq
  have hb2:=oC hc5;refine aC<|Rg<|Dd aE<|Dd (by exact cB rfl rfl rfl (show IntKind.i64.wrap ((k:Int)+1)=((k+1:Nat):Int)by rw[jM (by omega) (by omega)];omega))<|Da ?_;exact⟨k+1,⟨by omega,uJ hno hs hb2⟩,by omega,E0⟩
 have hge:k=p.trace.length:=by have:=aQB hc4;omega
 subst hge;rw[hye hb hso (zO hno)];exact aW<|Sr<|Dd aM<|Zz<|aB<|Rt<|Qq
def o0G(r:GRec):Bool:=decide (r.kind=1)||(decide (r.kind=3)&&decide (r.order=3))
def o1G(r:GRec):Bool:=!o0G r&&decide (0<((r.edits.map bA).length:Int))
def o2G(r:GRec):Bool:=o0G r&&!decide ((eZ r.edits).2=0)
def o3a(r:GRec):Bool:=decide (r.kind=2)||decide (r.kind=3)
def o3G(r:GRec):Bool:=if o3a r=true then !isJ r.target else !decide (r.target=sNil)
def o4G(r:GRec):Bool:=(decide (r.kind=3)&&(decide (r.order<1)||decide (4<r.order)))||(!decide (r.kind=3)&&!decide (r.order=0))
def o5G(r:GRec):Bool:=(decide (r.kind=4)&&(!bT r.from'||decide (r.from'=r.branch)))||(!decide (r.kind=4)&&!decide (r.from'=sNil))
def o6G(r:GRec):Bool:=decide (r.kind=2)||!r.yes
def BP(r:GRec):Bool:=!o1G r&&(!o2G r&&(!o3G r&&(!o4G r&&(!o5G r&&o6G r))))
theorem aIP(h:o1G r=true):BP r=false:=by rw[BP,h];rfl
theorem aIO(h:o2G r=true):BP r=false:=by rw[BP,h];cases o1G r<;>rfl
theorem aIN(h:o3G r=true):BP r=false:=by rw[BP,h];cases o1G r<;>cases o2G r<;>rfl
theorem aIM(h:o4G r=true):BP r=false:=by rw[BP,h];cases o1G r<;>cases o2G r<;>cases o3G r<;>rfl
theorem aIL(h:o5G r=true):BP r=false:=by rw[BP,h];cases o1G r<;>cases o2G r<;>cases o3G r<;>cases o4G r<;>rfl
theorem aIK(h1:o1G r=false)(h2:o2G r=false)(h3:o3G r=false)(h4:o4G r=false)(h5:o5G r=false):BP r=o6G r:=by rw[BP,h1,h2,h3,h4,h5];rfl
theorem aIQ(r:GRec)(H:aH)(hr:fR r)(hrf:∀e∈r.edits,e.refs.length<1099511627776):aI Tryz.prog 76 [av (bS r)] H (fun x H'=>x=bv (BP r)/\H'=H):=by
 refine aI.pure ?_ (by simp[bS]) H;obtain ⟨_,⟨b1,b2,b3⟩,_,⟨e1,e2⟩,_⟩:=hr;have htx:=fun H=>WA r.edits H e1 e2 hrf;have his:=fun H=>aJk r.target (by omega) H;have hnm:=fun H=>kB r.from' H (by omega)
 have hn1:=fun h=>aIP (r:=r) h;have hn2:=fun h=>aIO (r:=r) h;have hn3:=fun h=>aIN (r:=r) h;have hn4:=fun h=>aIM (r:=r) h;have hn5:=fun h=>aIL (r:=r) h;have hye:=fun h1 h2 h3 h4 h5=>aIK (r:=r) h1 h2 h3 h4 h5;have hX0:o0G r=(decide (r.kind=1)||(decide (r.kind=3)&&decide (r.order=3))):=rfl;have hX1:o1G r=(!o0G r&&decide (0<((r.edits.map bA).length:Int))):=rfl;have hX2:o2G r=(o0G r&&!decide ((eZ r.edits).2=0)):=rfl;have hX3a:o3a r=(decide (r.kind=2)||decide (r.kind=3)):=rfl;have hX3:o3G r=if o3a r=true then !isJ r.target else !decide (r.target=sNil):=rfl
 have hX4:o4G r=((decide (r.kind=3)&&(decide (r.order<1)||decide (4<r.order)))||(!decide (r.kind=3)&&!decide (r.order=0))):=rfl;obtain ⟨nm,hnn⟩:∃nm,nm=bT r.from':=⟨_,rfl⟩
 have hX5:o5G r=((decide (r.kind=4)&&(!nm||decide (r.from'=r.branch)))||(!decide (r.kind=4)&&!decide (r.from'=sNil))):=by rw[o5G,<-hnn]
 rw[<-hnn]at hnm;have hX6:o6G r=(decide (r.kind=2)||!r.yes):=rfl;obtain ⟨te,hte⟩:∃te,te=eZ r.edits:=⟨_,rfl⟩;rw[<-hte]at htx hX2;obtain ⟨ij,hij⟩:∃ij,ij=isJ r.target:=⟨_,rfl⟩;rw[<-hij]at his hX3;clear hnn hte hij;obtain ⟨o0,h0⟩:∃o,o=o0G r:=⟨_,rfl⟩;obtain ⟨o1,h1⟩:∃o,o=o1G r:=⟨_,rfl⟩;obtain ⟨o2,h2⟩:∃o,o=o2G r:=⟨_,rfl⟩;obtain ⟨oa,ha⟩:∃o,o=o3a r:=⟨_,rfl⟩;obtain ⟨o3,h3⟩:∃o,o=o3G r:=⟨_,rfl⟩;obtain ⟨o4,h4⟩:∃o,o=o4G r:=⟨_,rfl⟩;obtain ⟨o5,h5⟩:∃o,o=o5G r:=⟨_,rfl⟩;obtain ⟨o6,h6⟩:∃o,o=o6G r:=⟨_,rfl⟩;rw[<-h0]at hX0 hX1 hX2;rw[<-h1]at hX1 hn1 hye;rw[<-h2]at hX2 hn2 hye;rw[<-ha]at hX3a hX3;rw[<-h3]at hX3 hn3 hye;rw[<-h4]at hX4 hn4 hye;rw[<-h5]at hX5 hn5 hye;rw[<-h6]at hX6 hye;clear h0 h1 h2 ha h3 h4 h5 h6;obtain ⟨ow,how⟩:∃o,o=BP r:=⟨_,rfl⟩;rw[<-how]at hn1 hn2 hn3 hn4 hn5 hye |-;clear how;refine Bd func76 rfl ntmps76<|Sr<|Dd (by exact cF (id:=1) rfl rfl rfl rfl rfl)<|Dd aM<|Zz<|Sq ?_;refine aY (t:=3) (n:=16) (X:=o0) ?_ ?_
 ·all_goals refine Dd (aT lL) ?_
  all_goals refine Dd (bF isAgg3)<|Dd cN<|Dm ?_
  all_goals refine Sp 9 (fun h9=>?_) fun h9=>?_
  all_goals try contradiction
  all_goals first|refine Fo<|Fo<|Fo<|Fo ?_|refine On (aT lL)<|On (bF isAgg3)<|On cN<|On aE ?_
  all_goals(first|refine Sp 13 (fun h13=>?_) fun h13=>?_|refine jW (t:=13) rfl ?_)
  all_goals try contradiction
  all_goals first|refine Fo ?_|refine Fu ?_|refine On (aT tG) ?_
  all_goals first|refine Fo ?_|refine Fu ?_|refine On (bF isAgg3) ?_
  all_goals first|refine Fo ?_|refine Fu ?_|refine On cN ?_
  all_goals first|refine Fo ?_|refine On cH ?_
  all_goals refine Dd cH<|Da ?_
  all_goals(exact⟨⟨_,rfl,by first|(rw[hX0,h9];rfl)|(rw[hX0,h9,h13];rfl)⟩,rfl,rfl,rfl⟩)
 refine Sq<|Sq ?_;refine aY (t:=26) (n:=9) (X:=o1) ?_ ?_
 ·all_goals refine Dd aE ?_
  all_goals refine Dd iS<|Dm ?_
  all_goals refine Sp 21 (fun h21=>?_) fun h21=>?_
  all_goals try contradiction
  all_goals first|refine Fo<|Fo<|Fo<|Fo ?_|refine On (aT vT)<|On (bF iR)<|On (fM dB)<|On iG ?_
  all_goals refine Dd cH<|Zz ?_
  all_goals(exact⟨⟨_,rfl,by(rw[hX1,h21];rfl)⟩,rfl,rfl,rfl⟩)
 refine Cn ?_ ?_<;>intro hc1
 ·rw[hn1 hc1];exact Sr<|Dd aM<|Zz<|aB<|Rt<|Qq
 have k1:=hc1;refine aC ?_;refine fJ (fun(_:Unit)=>([(1,.ref 1 0 0 0)],[(1,bx 21 30 ((bS r).map .pv))])) (fun _=>o2=false) ?_ ?_
 ·refine Sr<|Dd aE<|Zz ?_;refine Cn ?_ ?_<;>intro hc2
  ·refine Sr<|Dd (aT vT)<|Dd (bF iR)<|Dd (by exact aA rfl rfl call112 rfl (htx _))<|Dd aE<|Dd fG<|Dd fG<|Dd aM<|Dd aM<|Zz<|Sr<|Dd aE<|Dd wM<|Zz ?_;refine Cn ?_ ?_<;>intro hc3
   ·have k2:o2=true:=by rw[hX2];simp_all
    rw[hn2 k2];exact Sr<|Dd aM<|Zz<|aB<|Rt<|Qq
   have k2:o2=false:=by rw[hX2];simp_all
   refine aC ?_;exact⟨(),k2,E0⟩
  have k2:o2=false:=by rw[hX2,hc2];rfl
  refine aC ?_;exact⟨(),k2,E0⟩
 rintro _ k2;refine fJ (fun(_:Unit)=>([(1,.ref 1 0 0 0)],[(1,bx 21 30 ((bS r).map .pv))])) (fun _=>o3=false) ?_ ?_
 ·refine Sq ?_;refine aY (t:=43) (n:=9) (X:=oa) ?_ ?_
  ·all_goals refine Dd (aT lL) ?_
   all_goals refine Dd (bF isAgg3)<|Dd cN<|Dm ?_
   all_goals refine Sp 39 (fun h39=>?_) fun h39=>?_
   all_goals try contradiction
   all_goals first|refine Fo<|Fo<|Fo ?_|refine On (aT lL)<|On (bF isAgg3)<|On cN ?_
   all_goals refine Dd cH<|Zz ?_
   all_goals(exact⟨⟨_,rfl,by(rw[hX3a,h39];rfl)⟩,rfl,rfl,rfl⟩)
  refine Cn ?_ ?_<;>intro hc4
  ·have ka:=hc4;rw[ka]at hX3;refine Sr<|Dd (aT vS)<|Dd (bF isAgg9)<|Dd (by exact aA rfl rfl call128 rfl (his _))<|Dd iS<|Zz ?_;refine Cn ?_ ?_<;>intro hc5
   ·have k3:o3=true:=by rw[hX3,hc5];rfl
    rw[hn3 k3];exact Sr<|Dd aM<|Zz<|aB<|Rt<|Qq
   have k3:o3=false:=by rw[hX3,hc5];rfl
   refine aC ?_;exact⟨(),k3,E0⟩
  have ka:=hc4;rw[ka]at hX3;refine Sr<|Dd (aT vS)<|Dd (bF isAgg9)<|Dd JI<|Zz ?_;refine Cn ?_ ?_<;>intro hc6
  ·have k3:o3=true:=by rw[hX3,hc6];rfl
   rw[hn3 k3];exact Sr<|Dd aM<|Zz<|aB<|Rt<|Qq
  have k3:o3=false:=by rw[hX3,hc6];rfl
  refine aC ?_;exact⟨(),k3,E0⟩
 rintro _ k3;refine Sq<|Sq ?_;refine aY (t:=73) (n:=27) (X:=o4) ?_ ?_
 ·all_goals refine Dd (aT lL) ?_
  all_goals refine Dd (bF isAgg3)<|Dd cN<|Dm ?_
  all_goals refine Sp 54 (fun h54=>?_) fun h54=>?_
  all_goals try contradiction
  all_goals first|refine Fo<|Fo<|Fo<|Fo ?_|refine On (aT tG)<|On (bF isAgg3)<|On cW<|On aE ?_
  all_goals(first|refine Sp 58 (fun h58=>?_) fun h58=>?_|refine jW (t:=58) rfl ?_)
  all_goals try contradiction
  all_goals first|refine Fo ?_|refine Fu ?_|refine On (aT tG) ?_
  all_goals first|refine Fo ?_|refine Fu ?_|refine On (bF isAgg3) ?_
  all_goals first|refine Fo ?_|refine Fu ?_|refine On iG ?_
  all_goals first|refine Fo ?_|refine On cH ?_
  all_goals refine Dd cH<|Dm ?_
  all_goals refine Sp 64 (fun h64=>?_) fun h64=>?_
  all_goals try contradiction
  all_goals first|refine Fo<|Fo<|Fo<|Fo ?_|refine On (aT lL)<|On (bF isAgg3)<|On wM<|On aE ?_
  all_goals(first|refine Sp 68 (fun h68=>?_) fun h68=>?_|refine jW (t:=68) rfl ?_)
  all_goals try contradiction
  all_goals first|refine Fo ?_|refine Fu ?_|refine On (aT tG) ?_
  all_goals first|refine Fo ?_|refine Fu ?_|refine On (bF isAgg3) ?_
  all_goals first|refine Fo ?_|refine Fu ?_|refine On wM ?_
  all_goals first|refine Fo ?_|refine On cH ?_
  all_goals refine Dd cH<|Zz ?_
  all_goals(exact⟨⟨_,rfl,by first|(rw[hX4,h54,h58];rfl)|(rw[hX4,h54,h58,h64];rfl)|(rw[hX4,h54]at *;simp_all;done)⟩,rfl,rfl,rfl⟩)
 refine Cn ?_ ?_<;>intro hc7
 ·rw[hn4 hc7];exact Sr<|Dd aM<|Zz<|aB<|Rt<|Qq
 have k4:=hc7;refine aC<|Sq<|Sq ?_;refine aY (t:=99) (n:=30) (X:=o5) ?_ ?_
 ·all_goals refine Dd (aT lL) ?_
  all_goals refine Dd (bF isAgg3)<|Dd cN<|Dm ?_
  all_goals refine Sp 77 (fun h77=>?_) fun h77=>?_
  all_goals try contradiction
  all_goals first|refine Fo<|Fo<|Fo<|Fo<|Fo ?_|refine On (aT rA)<|On (bF isAgg9)<|On (by exact aA rfl rfl fX rfl (hnm _))<|On iS<|On aE ?_
  all_goals(first|refine Sp 82 (fun h82=>?_) fun h82=>?_|refine jW (t:=82) rfl ?_)
  all_goals try contradiction
  all_goals first|refine Fo ?_|refine Fu ?_|refine On (aT rA) ?_
  all_goals first|refine Fo ?_|refine Fu ?_|refine On (bF isAgg9) ?_
  all_goals first|refine Fo ?_|refine Fu ?_|refine On (aT vU) ?_
  all_goals first|refine Fo ?_|refine Fu ?_|refine On (bF isAgg9) ?_
  all_goals first|refine Fo ?_|refine Fu ?_|refine On AG ?_
  all_goals first|refine Fo ?_|refine On cH ?_
  all_goals refine Dd cH<|Dm ?_
  all_goals refine Sp 90 (fun h90=>?_) fun h90=>?_
  all_goals try contradiction
  all_goals first|refine Fo<|Fo<|Fo<|Fo ?_|refine On (aT lL)<|On (bF isAgg3)<|On wM<|On aE ?_
  all_goals(first|refine Sp 94 (fun h94=>?_) fun h94=>?_|refine jW (t:=94) rfl ?_)
  all_goals try contradiction
  all_goals first|refine Fo ?_|refine Fu ?_|refine On (aT rA) ?_
  all_goals first|refine Fo ?_|refine Fu ?_|refine On (bF isAgg9) ?_
  all_goals first|refine Fo ?_|refine Fu ?_|refine On JI ?_
  all_goals first|refine Fo ?_|refine On cH ?_
  all_goals refine Dd cH<|Zz ?_
  all_goals(exact⟨⟨_,rfl,by first|(rw[hX5,h77,h82];rfl)|(rw[hX5,h77,h82,h90];rfl)|(clear hn1 hn2 hn3 hn4 hn5 hye;simp_all;done)⟩,rfl,rfl,rfl⟩)
 refine Cn ?_ ?_<;>intro hc8
 ·rw[hn5 hc8];exact Sr<|Dd aM<|Zz<|aB<|Rt<|Qq
 rw[hye k1 k2 k3 k4 hc8];refine aC<|Sq ?_;refine aY (t:=2) (n:=10) (X:=o6) ?_ ?_
 ·all_goals refine Dd (aT lL) ?_
  all_goals refine Dd (bF isAgg3)<|Dd cN<|Dm ?_
  all_goals refine Sp 103 (fun h103=>?_) fun h103=>?_
  all_goals try contradiction
  all_goals first|refine Fo<|Fo<|Fo ?_|refine On (aT CN)<|On (bF pG)<|On iS ?_
  all_goals refine Dd cH<|Da ?_
  all_goals(exact⟨⟨_,rfl,by(rw[hX6,h103];rfl)⟩,rfl,rfl,rfl⟩)
 exact aB<|Rt<|Qq
end Go.Proofs.YtmdicgjnmfolfaaGreatDoor
section
set_option format.width 2000
namespace Go.Proofs.YtmdicgjnmfolfaaGreatDoor
open Go.Proofs.Tryz
open Go.Abs
theorem aLP(q:Int×Int):M1 q=!TJ q:=by rw[Bool.eq_iff_iff];simp only[M1,TJ,TZ,Bool.or_eq_true,aQX,Bool.and_eq_false_iff,aQM];omega
theorem UH{α:Type}{p q:α->Bool}(h:∀x,p x=!q x):∀(l:List α),l.any p=!l.all q
 | []=>rfl
 |x::l=>by rw[List.any_cons,List.all_cons,UH h l,h x];cases q x<;>rfl
theorem aMf(r:GRec):YP r=!(wY r.priv&&gV r.sl):=by rw[YP,wY,pvB,UH aLP,UH (q:=pE) (fun x=>by rw[pE,Bool.not_not]) r.priv.sources];show (((((!r.priv.trace.all TJ||!(!(decide (200<(r.priv.name.size:Int))||(decide (200<(r.priv.reason.size:Int))||false))))||_)||_)||_)||_||_)=_;generalize r.priv.trace.all TJ=a;generalize r.priv.sources.all pE=b;generalize decide (200<(r.priv.name.size:Int))=c;generalize decide (200<(r.priv.reason.size:Int))=d;generalize decide (16<((r.priv.sources.map encStr).length:Int))=e;generalize decide (200<((r.priv.trace.map fS).length:Int))=f;generalize gV r.priv.sl=g;generalize gV r.sl=i;revert a b c d e f g i;decide
def vAk(r:GRec):Bool:=decide (1<=r.kind)&&decide (r.kind<=5)
def vA(r:GRec):Bool:=(((((((((decide (r.kind<1)||decide (5<r.kind))||decide (r.author<0))||decide (59<r.author))||decide (r.number<1))||decide (128<r.number))||decide (r.clock<1))||decide (1000000<r.clock))||!bT r.branch)||decide (16<((r.parents.map encStr).length:Int)))||!r.parents.all isJ
theorem aMe(r:GRec):(!vA r&&qP r.parents)=(vAk r&&!LF r):=by
 have e1:decide (r.kind<1)=!decide (1<=r.kind):=by rw[<-decide_not];congr 1;exact propext ⟨fun h=>by omega,fun h=>by omega⟩
 have e2:decide (5<r.kind)=!decide (r.kind<=5):=by rw[<-decide_not];congr 1;exact propext ⟨fun h=>by omega,fun h=>by omega⟩
 have e3:decide (r.author<0)=!decide (0<=r.author):=by rw[<-decide_not];congr 1;exact propext ⟨fun h=>by omega,fun h=>by omega⟩
 have e4:decide (59<r.author)=!decide (r.author<=59):=by rw[<-decide_not];congr 1;exact propext ⟨fun h=>by omega,fun h=>by omega⟩
 have e5:decide (r.number<1)=!decide (1<=r.number):=by rw[<-decide_not];congr 1;exact propext ⟨fun h=>by omega,fun h=>by omega⟩
 have e6:decide (128<r.number)=!decide (r.number<=128):=by rw[<-decide_not];congr 1;exact propext ⟨fun h=>by omega,fun h=>by omega⟩
 have e7:decide (r.clock<1)=!decide (1<=r.clock):=by rw[<-decide_not];congr 1;exact propext ⟨fun h=>by omega,fun h=>by omega⟩
 have e8:decide (1000000<r.clock)=!decide (r.clock<=1000000):=by rw[<-decide_not];congr 1;exact propext ⟨fun h=>by omega,fun h=>by omega⟩
 rw[vA,vAk,LF,lA,lA,lA,NH,e1,e2,e3,e4,e5,e6,e7,e8];simp only[Bool.not_or,Bool.not_not,Bool.not_and,Bool.and_assoc]
theorem aCF:¬ (eZ []).2=0:=by decide
theorem aLI{r:GRec}(hk:vAk r=true):BP r=(((iT r.edits).2&&HA r)&&v5G r):=by
 rw[vAk,aQN,aQL,aQL]at hk;have hm:(r.edits.map bA).length=r.edits.length:=aQE _;have ht:(iT r.edits).2=(decide (r.edits.length=0)||decide ((eZ r.edits).2=0)):=by
  rw[iT];by_cases h:r.edits.length=0
  ·rw[aQD h,decide_eq_true h];rfl
  rw[aQC h,decide_eq_false h];rfl
 have hp:decide (0<((r.edits.map bA).length:Int))=!decide (r.edits.length=0):=by
  rw[hm,<-decide_not];congr 1;exact propext ⟨fun h=>by omega,fun h=>by omega⟩
 have hg:r.edits.length=0->decide ((eZ r.edits).2=0)=false:=fun h=>by
  rw[List.eq_nil_of_length_eq_zero h];exact decide_eq_false aCF
 rw[v5G,ht,BP,o1G,o2G,o3G,o4G,o5G,o6G,hp];obtain ⟨l,hl⟩:∃l,l=decide (r.edits.length=0):=⟨_,rfl⟩;obtain ⟨g,hgg⟩:∃g,g=decide ((eZ r.edits).2=0):=⟨_,rfl⟩;have hlg:l=true->g=false:=fun h=>by rw[hgg];exact hg (aQA (hl▸h))
 rw[<-hl,<-hgg];clear hl hgg hg hp ht hm;have hcase:r.kind=1\/r.kind=2\/r.kind=3\/r.kind=4\/r.kind=5:=by omega
 have ea:decide (r.target=sNil)=decide (r.target=sNil):=rfl;obtain ⟨y,hy⟩:∃y,y=r.yes:=⟨_,rfl⟩;have b1:decide (r.order<1)=!decide (1<=r.order):=by rw[<-decide_not];congr 1;exact propext ⟨fun h=>by omega,fun h=>by omega⟩
 have b2:decide (4<r.order)=!decide (r.order<=4):=by rw[<-decide_not];congr 1;exact propext ⟨fun h=>by omega,fun h=>by omega⟩
 rw[o0G,o3a,HA,UX,wYG,wOG,wFG,wEG,ndG,b1,b2,lA];clear b1 b2 hk;rcases hcase with h|h|h|h|h
 ·simp only[h];by_cases c1:r.target=sNil<;>by_cases c2:r.order=0<;>by_cases c3:r.from'=sNil<;>cases c4:r.yes<;>cases l<;>cases g<;>simp[c1,c2,c3,c4]at hlg |-
 ·simp only[h];by_cases c2:r.order=0<;>by_cases c3:r.from'=sNil<;>cases c4:isJ r.target<;>cases l<;>cases g<;>simp[c2,c3,c4]at hlg |-
 ·simp only[h];by_cases c2:r.order=3
  ·rw[c2];by_cases c3:r.from'=sNil<;>cases c4:isJ r.target<;>cases c5:r.yes<;>cases l<;>cases g<;>simp[c3,c4,c5]at hlg |-
  cases c1:decide (1<=r.order)<;>cases c6:decide (r.order<=4)<;>by_cases c3:r.from'=sNil<;>cases c4:isJ r.target<;>cases c5:r.yes<;>cases l<;>cases g<;>simp[c1,c2,c3,c4,c5,c6]at hlg |-
 ·simp only[h];by_cases c1:r.target=sNil<;>by_cases c2:r.order=0<;>by_cases c3:r.from'=r.branch<;>cases c4:bT r.from'<;>cases c5:r.yes<;>cases l<;>cases g<;>simp[c1,c2,c3,c4,c5]at hlg |-
 simp only[h];by_cases c1:r.target=sNil<;>by_cases c2:r.order=0<;>by_cases c3:r.from'=sNil<;>cases c4:r.yes<;>cases l<;>cases g<;>simp[c1,c2,c3,c4]at hlg |-
theorem aKZ(r:GRec):(!vA r&&(qP r.parents&&((BP r&&gV r.sl)&&wY r.priv)))=eQ r:=by
 rw[<-Bool.and_assoc,aMe,eQ,aMf];by_cases hk:vAk r=true
 ·rw[aLI hk,hk];generalize LF r=a;generalize (iT r.edits).2=b;generalize HA r=c;generalize v5G r=d;generalize gV r.sl=e;generalize wY r.priv=f;revert a b c d e f;decide
 have h0:vAk r=false:=by cases e:vAk r;rfl;exact absurd e hk
 have h1:HA r=false:=by
  cases e:HA r
  ·rfl
  obtain ⟨q1,q2⟩:=DD e;rw[vAk,decide_eq_true q1,decide_eq_true q2]at h0;cases h0
 rw[h0,h1,Bool.false_and,Bool.false_and,Bool.and_false,Bool.false_and]
end Go.Proofs.YtmdicgjnmfolfaaGreatDoor
end
namespace Go.Proofs.YtmdicgjnmfolfaaGreatDoor
open Go.Proofs.Tryz
open Go.Abs Go.Lib
variable{n k:Nat}{l:List ByteArray}
theorem aCv(n:Nat):aV (n:Int)=ofL (decDigits n):=rF (by rw[RM,dI])
theorem vX(x:Int)(h0:0<=x)(h1:x<9223372036854775808)(H:aH):aI Tryz.prog 99 [iv x] H (fun r H'=>r=sv (aV x)/\H'=H):=by obtain ⟨n,rfl⟩:=Int.eq_ofNat_of_zero_le h0;rw[aCv];exact VW n (by omega) H
def PJ(r:GRec):List ByteArray:=[VU,aV r.kind,aV r.author,aV r.number,aV r.clock,r.branch,aV (r.parents.length:Int)]
def aLc(r:GRec)(T:ByteArray):List ByteArray:=[T,r.target,aV (if r.yes then 1 else 0),aV r.order,r.from']
def aFu(r:GRec)(T y:ByteArray):List ByteArray:=[T,r.target,y,aV r.order,r.from']
theorem aCa(r:GRec):mA r=(PJ r++r.parents)++aLc r (iT r.edits).1:=by simp[mA,FY,rN,fI,PJ,aLc]
theorem aEz{r:GRec}(h:VF r):0<=r.order/\r.order<=4:=by
 rw[h.od,wOG]
 split
 ·next hk =>
  have:=h.k;rw[HA,aQD hk,lA,aQN,aQL,aQL]at this;omega
 omega
theorem pJ{α:Type}(f:α->List PV)(l:List α)(h:l.length=n):((l.map f).take (0+n)).drop 0=l.map f:=by rw[<-h];exact kS f l
theorem iB(l:List ByteArray):∀r∈l.map encStr,r.length=1:=by intro r hr;obtain ⟨s,_,rfl⟩:=List.mem_map.1 hr;rfl
theorem RS(r:GRec)(hr:fR r)(hv:VF r)(hrf:∀e∈r.edits,e.refs.length<1099511627776):aI Tryz.prog 42 [av (bS r)] [] (fun x H'=>x=.osl 971 2 0 (mA r).length/\H'=[(971,⟨2,1,9,cD (mA r)⟩)]):=by
 have hk:=DD hv.k;have hau:=hv.au;have hnu:=hv.nu;have hcl:=hv.cl;have hod:=aEz hv;have hpl:=hv.pal;have hml:(r.parents.map encStr).length=r.parents.length:=aQE _;have hme:(r.edits.map bA).length=r.edits.length:=aQE _;have hd1:=fun H=>vX r.kind (by omega) (by omega) H;have hd2:=fun H=>vX r.author (by omega) (by omega) H;have hd3:=fun H=>vX r.number (by omega) (by omega) H;have hd4:=fun H=>vX r.clock (by omega) (by omega) H;have hd5:∀H,aI Tryz.prog 99 [iv ((r.parents.map encStr).length:Int)] H (fun x H'=>x=sv (aV (r.parents.length:Int))/\H'=H):=fun H=>by
  rw[hml];exact vX (r.parents.length:Int) (by omega) (by omega) H
 have hd6:=fun H=>vX r.order (by omega) (by omega) H;have htx:=fun H=>WA r.edits H hr.2.2.2.1.1 hr.2.2.2.1.2 hrf;have hw1:cD (PJ r)++(r.parents.map encStr).map (·.map AV.pv)=cD (PJ r++r.parents):=fF _ _;rw[aCa];obtain ⟨T,hT⟩:∃T,T=(iT r.edits).1:=⟨_,rfl⟩;rw[<-hT];rw[iT]at hT;refine Bd func42 rfl ntmps42 ?_;have hl2:(cD (PJ r++r.parents)).length=7+r.parents.length:=by rw[cD,aQE,aQF];rfl
 refine Sr<|Dd (by exact cF (id:=1) rfl rfl rfl rfl rfl)<|Dd aM<|Zz<|Sq<|aO follows<|Cr [1] (fun _ h=>fh lL h)<|Cr [1] (fun _ h=>lh isAgg3 h)<|Cr [] (fun H1 hH=>by exact aA rfl rfl gZ rfl (hd1 _))<|Cr [1] (fun _ h=>fh tH h)<|Cr [1] (fun _ h=>lh isAgg3 h)<|Cr [] (fun H1 hH=>by exact aA rfl rfl gZ rfl (hd2 _))<|Cr [1] (fun _ h=>fh nX h)<|Cr [1] (fun _ h=>lh isAgg3 h)<|Cr [] (fun H1 hH=>by exact aA rfl rfl gZ rfl (hd3 _))<|Cr [1] (fun _ h=>fh vV h)<|Cr [1] (fun _ h=>lh isAgg3 h)<|Cr [] (fun H1 hH=>by exact aA rfl rfl gZ rfl (hd4 _))<|Cr [1] (fun _ h=>fh vU h)<|Cr [1] (fun _ h=>lh isAgg9 h)<|Cr [1] (fun _ h=>fh lK h)<|Cr [1] (fun _ h=>lh aG h)<|Cr [] (fun _ _=>(fM aD))<|Cr [] (fun H1 hH=>by exact aA rfl rfl gZ rfl (hd5 _)) ?_;refine Cp [971] (fun H1 hH=>by exact fT (id:=971) rfl cC rfl rfl rfl rfl (by intro r hr;simp only[aQQ,aQU,or_false]at hr;rcases hr with rfl|rfl|rfl|rfl|rfl|rfl|rfl<;>rfl) ((hH _ rfl).trans rfl))<|Cr [971] (fun _ _=>aM)<|bM<|Kr<|Sr<|Dd aE<|Dd (aT lK)<|Dd (bF aG)<|Dd (by exact cJ (k:=7+r.parents.length) (ps:=r.parents.map encStr) rfl cC xI rfl rfl rfl rfl rfl rfl rfl (iB _) (m:=r.parents.length) hml (by omega) rfl hw1)<|Dd aM<|Zz<|Sr<|Da ?_;refine fJ (fun(_:Unit)=>([(1,.ref 1 0 0 0),(3,.osl 971 1 0 (7+r.parents.length)),(4,sv T)],[(1,bx 21 30 ((bS r).map .pv)),(971,⟨1,1,9,cD (PJ r++r.parents)⟩)])) (fun _=>True) ?_ ?_
 ·refine Sr<|Dd (aT vT)<|Dd (bF iR)<|Dd (fM dB)<|Dd iG<|Zz ?_;refine Cn ?_ ?_<;>intro hc1
  ·have hpos:0<r.edits.length:=by have:=aQA hc1;omega
   rw[aQC (by omega)]at hT;subst hT;refine Rg<|Dd (aT vT)<|Dd (bF iR)<|Dd (by exact aA rfl rfl call112 rfl (htx _))<|Dd aE<|Dd fG<|Dd fG<|Da ?_;exact⟨(),trivial,(cX.wk (Ea<|Ea<|Eb<|trivial) (Hb<|Hc (cA _ _)<|trivial) trivial)⟩
  have hpos:r.edits.length=0:=by have:=aQB hc1;omega
  rw[aQD hpos]at hT;subst hT;refine aC ?_;exact⟨(),trivial,(cX.wk (Ea<|Ea<|Eb<|trivial) (Hb<|Hc (cA _ _)<|trivial) trivial)⟩
 rintro _ -;refine Sr<|Da ?_;refine fJ (fun(y:ByteArray)=>([(1,.ref 1 0 0 0),(3,.osl 971 1 0 (7+r.parents.length)),(4,sv T),(5,sv y)],[(1,bx 21 30 ((bS r).map .pv)),(971,⟨1,1,9,cD (PJ r++r.parents)⟩)])) (fun y=>y=aV (if r.yes then 1 else 0)) ?_ ?_
 ·refine Sr<|Dd (aT CN)<|Dd (bF pG)<|Zz ?_;refine Cn ?_ ?_<;>intro hc2
  ·have hy:(⟨#[49]⟩:ByteArray)=aV (if r.yes then 1 else 0):=by rw[hc2];kernel_rfl
   refine Rg<|Da ?_;exact⟨_,hy,(cX.wk (Ea<|Ea<|Eb<|Eb<|trivial) (Hb<|Hc (cA _ _)<|trivial) trivial)⟩
  have hy:(⟨#[48]⟩:ByteArray)=aV (if r.yes then 1 else 0):=by rw[hc2];kernel_rfl
  refine aC ?_;exact⟨_,hy,(cX.wk (Ea<|Ea<|Eb<|Eb<|trivial) (Hb<|Hc (cA _ _)<|trivial) trivial)⟩
 rintro y hy;rw[show aLc r T=aFu r T y by rw[hy];rfl];refine Sq<|aO follows<|Cr [971] (fun _ _=>aE)<|Cr [] (fun _ _=>aE)<|Cr [1] (fun _ h=>fh vS h)<|Cr [1] (fun _ h=>lh isAgg9 h)<|Cr [] (fun _ _=>aE)<|Cr [1] (fun _ h=>fh tG h)<|Cr [1] (fun _ h=>lh isAgg3 h)<|Cr [] (fun H1 hH=>by exact aA rfl rfl gZ rfl (hd6 _))<|Cr [1] (fun _ h=>fh rA h)<|Cr [1] (fun _ h=>lh isAgg9 h)<|Cr [] (fun H1 hH=>by exact aQ ((aFu r T y).map encStr) rfl cC rfl rfl rfl rfl rfl (iB _))<|Cp [971] (fun H1 hH=>by exact cJ (ob:=⟨1,1,9,cD (PJ r++r.parents)⟩) (k:=((PJ r++r.parents)++aFu r T y).length) (ps:=(aFu r T y).map encStr) rfl cC xI rfl ((hH _ rfl).trans rfl) rfl rfl rfl hl2 rfl (iB _) (m:=5) rfl (by omega) (by rw[aQF,aQF];rfl) (by exact fF _ _))<|Cr [971] (fun _ _=>aM)<|bM<|Kr<|aB ?_;refine dV (H':=[(971,⟨2,1,9,cD ((PJ r++r.parents)++aFu r T y)⟩)]) (.inr rfl) rfl (aX rfl) (Fin.wk (by(simp;rfl)) (Hc (cA _ _)<|trivial) trivial) ?_;exact Qq
theorem aFw(r:GRec)(hr:fR r)(hv:VF r)(hrf:∀e∈r.edits,e.refs.length<1099511627776)(H:aH):aI Tryz.prog 42 [av (bS r)] H (fun x H'=>x=.pv (aZ (mA r))/\H'=H):=by refine aI.pure ((RS r hr hv hrf).fin ?_) (by simp[bS]) H;rintro _ _ ⟨rfl,rfl⟩;exact⟨_,[],Fin.fz (id:=971) (ob:=⟨2,1,9,cD (mA r)⟩) ((mA r).map encStr) rfl (eM _) (.osl (kS encStr _)) rfl trivial trivial,rfl,rfl⟩
theorem MH(r:GRec)(H:aH)(hr:fR r)(hrf:∀e∈r.edits,e.refs.length<1099511627776):aI Tryz.prog 15 [av (bS r)] H (fun x H'=>x=bv (eQ r)/\H'=H):=by
 refine aI.pure ?_ (by simp[bS]) H;have hml:(r.parents.map encStr).length=r.parents.length:=aQE _;have hown:=fun H=>aIQ r H hr hrf;have hpr:=fun H=>WG r.priv H hr.2.2.2.2.2;have hfo:=fun H=>NT r.sl H hr.2.2.2.2.1;have hnm:=fun H=>kB r.branch H (by have:=hr.2.1.1;omega);have hdg:=fun H=>CR r.parents H hr.2.2.1;have hpl:=hr.2.2.1.1;have hE:=aKZ r;have hX:vA r=((((((((((decide (r.kind<1)||decide (5<r.kind))||decide (r.author<0))||decide (59<r.author))||decide (r.number<1))||decide (128<r.number))||decide (r.clock<1))||decide (1000000<r.clock))||!bT r.branch)||decide (16<((r.parents.map encStr).length:Int)))||!r.parents.all isJ):=rfl;obtain ⟨v,hv⟩:∃v,v=eQ r:=⟨_,rfl⟩;obtain ⟨a,ha⟩:∃a,a=vA r:=⟨_,rfl⟩;obtain ⟨ow,how⟩:∃a,a=BP r:=⟨_,rfl⟩;obtain ⟨fo,hfo2⟩:∃a,a=gV r.sl:=⟨_,rfl⟩;obtain ⟨pr,hpr2⟩:∃a,a=wY r.priv:=⟨_,rfl⟩;obtain ⟨nm,hnm2⟩:∃a,a=bT r.branch:=⟨_,rfl⟩;obtain ⟨dg,hdg2⟩:∃a,a=r.parents.all isJ:=⟨_,rfl⟩;rw[<-hv]at hE |-;rw[<-ha]at hE hX;rw[<-how]at hE hown;rw[<-hfo2]at hE hfo;rw[<-hpr2]at hE hpr;rw[<-hnm2]at hX hnm;rw[<-hdg2]at hX hdg;clear hv ha how hfo2 hpr2 hnm2 hdg2;refine Bd func15 rfl ntmps15<|Sr<|Dd (by exact cF (id:=1) rfl rfl rfl rfl rfl)<|Dd aM<|Zz<|Sq<|Sq ?_;refine aY (t:=59) (n:=66) (X:=a) ?_ ?_
 ·all_goals refine Dd (aT lL) ?_
  all_goals refine Dd (bF isAgg3)<|Dd cW<|Dm ?_
  all_goals refine Sp 7 (fun h7=>?_) fun h7=>?_
  all_goals try contradiction
  all_goals first|refine Fo<|Fo<|Fo ?_|refine On (aT lL)<|On (bF isAgg3)<|On iG ?_
  all_goals refine Dd cH<|Dm ?_
  all_goals refine Sp 12 (fun h12=>?_) fun h12=>?_
  all_goals try contradiction
  all_goals first|refine Fo<|Fo<|Fo ?_|refine On (aT tH)<|On (bF isAgg3)<|On cW ?_
  all_goals refine Dd cH<|Dm ?_
  all_goals refine Sp 17 (fun h17=>?_) fun h17=>?_
  all_goals try contradiction
  all_goals first|refine Fo<|Fo<|Fo ?_|refine On (aT tH)<|On (bF isAgg3)<|On iG ?_
  all_goals refine Dd cH<|Dm ?_
  all_goals refine Sp 22 (fun h22=>?_) fun h22=>?_
  all_goals try contradiction
  all_goals first|refine Fo<|Fo<|Fo ?_|refine On (aT nX)<|On (bF isAgg3)<|On cW ?_
  all_goals refine Dd cH<|Dm ?_
  all_goals refine Sp 27 (fun h27=>?_) fun h27=>?_
  all_goals try contradiction
  all_goals first|refine Fo<|Fo<|Fo ?_|refine On (aT nX)<|On (bF isAgg3)<|On iG ?_
  all_goals refine Dd cH<|Dm ?_
  all_goals refine Sp 32 (fun h32=>?_) fun h32=>?_
  all_goals try contradiction
  all_goals first|refine Fo<|Fo<|Fo ?_|refine On (aT vV)<|On (bF isAgg3)<|On cW ?_
  all_goals refine Dd cH<|Dm ?_
  all_goals refine Sp 37 (fun h37=>?_) fun h37=>?_
  all_goals try contradiction
  all_goals first|refine Fo<|Fo<|Fo ?_|refine On (aT vV)<|On (bF isAgg3)<|On iG ?_
  all_goals refine Dd cH<|Dm ?_
  all_goals refine Sp 42 (fun h42=>?_) fun h42=>?_
  all_goals try contradiction
  all_goals first|refine Fo<|Fo<|Fo<|Fo ?_|refine On (aT vU)<|On (bF isAgg9)<|On (by exact aA rfl rfl fX rfl (hnm _))<|On iS ?_
  all_goals refine Dd cH<|Dm ?_
  all_goals refine Sp 48 (fun h48=>?_) fun h48=>?_
  all_goals try contradiction
  all_goals first|refine Fo<|Fo<|Fo<|Fo ?_|refine On (aT lK)<|On (bF aG)<|On (fM aD)<|On iG ?_
  all_goals refine Dd cH<|Dm ?_
  all_goals refine Sp 54 (fun h54=>?_) fun h54=>?_
  all_goals try contradiction
  all_goals first|refine Fo<|Fo<|Fo<|Fo ?_|refine On (aT lK)<|On (bF aG)<|On (by exact aA rfl rfl aPn rfl (hdg _))<|On iS ?_
  all_goals refine Dd cH<|Zz ?_
  all_goals(exact⟨⟨_,rfl,by(rw[hX];first|(rw[h7];rfl)|(rw[h7,h12];rfl)|(rw[h7,h12,h17];rfl)|(rw[h7,h12,h17,h22];rfl)|(rw[h7,h12,h17,h22,h27];rfl)|(rw[h7,h12,h17,h22,h27,h32];rfl)|(rw[h7,h12,h17,h22,h27,h32,h37];rfl)|(rw[h7,h12,h17,h22,h27,h32,h37,h42];rfl)|(rw[h7,h12,h17,h22,h27,h32,h37,h42,h48];rfl)|(rw[h7,h12,h17,h22,h27,h32,h37,h42,h48,h54];rfl))⟩,rfl,rfl,rfl⟩)
 refine Cn ?_ ?_<;>intro hc1
 ·have h0:=hc1;rw[h0]at hE;rw[<-hE];exact Sr<|Dd aM<|Zz<|aB<|Rt<|Qq
 have h0:=hc1;rw[h0]at hE;have hE:(qP r.parents&&((ow&&fo)&&pr))=v:=hE;refine aC<|Sq<|Sr<|Dd aM<|Zz<|aF ?_;refine bJ (σ:=Nat) (fun k=>([(1,.ref 1 0 0 0),(3,iv ((k:Int)+1))],[(1,bx 21 30 ((bS r).map .pv))])) (fun k=>k<=r.parents.length/\qP r.parents=qP (r.parents.drop k)) (fun k=>r.parents.length - k) 0 ⟨by omega,rfl⟩ ?_ ?_
 ·exact E0
 rintro k ⟨hk,hst⟩;refine Sq<|Sr<|Dd aE<|Dd (aT lK)<|Dd (bF aG)<|Dd (fM aD)<|Dd cW<|Zz ?_;refine Cn ?_ ?_<;>intro hc2
 ·have hlt:k+1<r.parents.length:=by have:=aQA hc2;omega
  obtain ⟨s,hs⟩:=aU (l:=r.parents) (k:=k) (by omega);obtain ⟨t,ht⟩:=aU hlt;have hi:=cI (f:=encStr) hs;have hi2:=cI (f:=encStr) ht;have hsa:=aCH hs ht;have hk0:IntKind.i64.wrap ((k:Int)+1 - 1)=(k:Int):=by rw[jM (by omega) (by omega)];omega
  refine aC<|Sq<|aF<|Sq<|aO follows<|Cq (aT lK)<|Cq (bF aG)<|Cq aE<|Cq (by exact dX rfl rfl rfl hk0)<|Cq (by exact bH rfl cC rfl rfl (by omega) (by exact aQP _) hi rfl)<|Cq (iN isAgg9 (hi:=hi))<|Cq (aT lK)<|Cq (bF aG)<|Cq aE<|Cq (by exact bH rfl cC rfl rfl (by omega) (by exact aQP _) hi2 rfl)<|Cq (iN isAgg9 (hi:=hi2))<|Cq (by exact WN rfl rfl rfl)<|bM<|Kr ?_;refine Cn ?_ ?_<;>intro hc3
  ·have hb:=not_not hc3;rw[hst,hsa,hb]at hE;rw[<-hE];exact Sr<|Dd aM<|Zz<|aB<|Rt<|Qq
  have hb:=oC hc3;refine aC<|Rg<|Dd aE<|Dd (by exact cB rfl rfl rfl (show IntKind.i64.wrap ((k:Int)+1+1)=((k+1:Nat):Int)+1 by rw[jM (by omega) (by omega)];omega))<|Da ?_;exact⟨k+1,⟨by omega,by rw[hst,hsa,hb];rfl⟩,by omega,E0⟩
 have hge:r.parents.length<=k+1:=by have:=aQB hc2;omega
 rw[hst,SM (by rw[aQT];omega)]at hE;have hE:((ow&&fo)&&pr)=v:=hE;rw[<-hE];refine aW<|Sq ?_;refine aY (t:=2) (n:=15) (X:=(ow&&fo)&&pr) ?_ ?_
 ·all_goals refine Dd (mD aS aL) ?_
  all_goals refine Dd (by exact aA rfl rfl call76 rfl (hown _))<|Dm ?_
  all_goals refine Sp 81 (fun h81=>?_) fun h81=>?_
  all_goals try contradiction
  all_goals first|refine Fo<|Fo<|Fo ?_|refine On (aT kQ)<|On (mD dD sizeOf25)<|On (by exact aA rfl rfl call77 rfl (hfo _)) ?_
  all_goals refine Dd cH<|Dm ?_
  all_goals refine Sp 86 (fun h86=>?_) fun h86=>?_
  all_goals try contradiction
  all_goals first|refine Fo<|Fo<|Fo ?_|refine On (aT eS)<|On (mD gB sizeOf28)<|On (by exact aA rfl rfl call78 rfl (hpr _)) ?_
  all_goals refine Dd cH<|Da ?_
  all_goals(exact⟨⟨_,rfl,by(simp_all;done)⟩,rfl,rfl,rfl⟩)
 exact aB<|Rt<|Qq
theorem aJl(r:GRec)(H:aH)(hr:fR r)(hrf:∀e∈r.edits,e.refs.length<1099511627776):aI Tryz.prog 17 [av (bS r)] H (fun x H'=>x=sv (rU r)/\H'=H):=by
 refine aI.pure ?_ (by simp[bS]) H;have hva:=fun H=>MH r H hr hrf;refine Bd func17 rfl ntmps17<|Sr<|Dd (by exact cF (id:=1) rfl rfl rfl rfl rfl)<|Dd aM<|Zz<|Sq<|Sr<|Dd (by exact aN rfl aS aL rfl rfl rfl rfl (by simp only[Zl,encStr];rfl) rfl)<|Dd (by exact aA rfl rfl aPr rfl (hva _))<|Dd iS<|Zz ?_;refine Cn ?_ ?_<;>intro hc1
 ·have hb:=not_not hc1;rw[rU,hb];exact Sr<|Dd aM<|Zz<|aB<|Rt<|Qq
 have hb:=oC hc1;have hv:=lE hb;have hfi:=fun H=>aFw r hr hv hrf H;have hli:=fun H=>FU (mA r) (Nat.le_trans (FX hv) (by decide)) (KS hv) H;rw[rU,aQD hb];exact aC<|Sr<|Dd (by exact aN rfl aS aL rfl rfl rfl rfl (by simp only[Zl,encStr];rfl) rfl)<|Dd (by exact aA rfl rfl call42 rfl (hfi _))<|Dd (by exact aA rfl rfl UR rfl (hli _))<|Dd aM<|Zz<|aB<|Rt<|Qq
def pt2(q:Int×Int):List ByteArray:=[aV q.1,aV q.2]
def Y6(p:GPriv):List ByteArray:=[p.name,p.reason,aV (p.sources.length:Int)]
def DS(p:GPriv)(k:Nat):List ByteArray:=((Y6 p++p.sources)++[aV (p.trace.length:Int)])++(p.trace.take k).flatMap pt2
theorem aHg(p:GPriv):DS p p.trace.length=rN (G7 p):=by rw[DS,List.take_length];simp[G7,rN,fI,Y6];rfl
theorem aCV{p:GPriv}{q:Int×Int}(h:p.trace[k]?=some q):DS p (k+1)=DS p k++pt2 q:=by simp[DS,mS h,List.flatMap_append]
theorem VM(r:GRec)(hr:fR r)(hv:VF r)(H:aH):aI Tryz.prog 44 [av (iP r.priv)] H (fun x H'=>x=.pv (aZ (rN (G7 r.priv)))/\H'=H):=by
 refine aI.pure ?_ (by simp[iP]) H;obtain ⟨p,hp⟩:∃p,p=r.priv:=⟨_,rfl⟩;have htr:=hv.tr;have hsl:=hv.sol;have htl:=hv.trl;rw[<-hp]at htr hsl htl |-;clear hp hv hr;have hms:(p.sources.map encStr).length=p.sources.length:=aQE _;have hmt:(p.trace.map fS).length=p.trace.length:=aQE _;have hd1:∀H,aI Tryz.prog 99 [iv ((p.sources.map encStr).length:Int)] H (fun x H'=>x=sv (aV (p.sources.length:Int))/\H'=H):=fun H=>by
  rw[hms];exact vX (p.sources.length:Int) (by omega) (by omega) H
 have hd2:∀H,aI Tryz.prog 99 [iv ((p.trace.map fS).length:Int)] H (fun x H'=>x=sv (aV (p.trace.length:Int))/\H'=H):=fun H=>by
  rw[hmt];exact vX (p.trace.length:Int) (by omega) (by omega) H
 have hl0:(cD (Y6 p++p.sources)).length=3+p.sources.length:=by rw[cD,aQE,aQF];rfl
 have hlk:∀k,k<=p.trace.length->(DS p k).length=4+p.sources.length+2*k:=fun k hk=>by
  have:((p.trace.take k).flatMap pt2).length=2*k:=by
   have h2:∀l:List (Int×Int),(l.flatMap pt2).length=2*l.length:=fun l=>by
    induction l with
    |nil=>rfl
    |cons q l ih=>rw[List.flatMap_cons,aQF,ih,aQG];show 2+_=_;omega
   rw[h2,aQS];omega
  rw[DS,aQF,aQF,aQF,this];show 3+_+1+_=_;omega
 have hlw:∀k,k<=p.trace.length->(cD (DS p k)).length=4+p.sources.length+2*k:=fun k hk=>by rw[cD,aQE,hlk k hk]
 have hw0:cD (Y6 p++p.sources)++([aV (p.trace.length:Int)].map encStr).map (·.map AV.pv)=cD (DS p 0):=by rw[fF,DS,List.take_zero,List.flatMap_nil,List.append_nil]
 refine Bd func44 rfl ntmps44<|Sr<|Dd (by exact cF (id:=1) rfl rfl rfl rfl rfl)<|Dd aM<|Zz<|Sq<|aO follows<|Cr [1] (fun _ h=>fh xT h)<|Cr [1] (fun _ h=>lh isAgg9 h)<|Cr [1] (fun _ h=>fh xS h)<|Cr [1] (fun _ h=>lh isAgg9 h)<|Cr [1] (fun _ h=>fh rB h)<|Cr [1] (fun _ h=>lh aG h)<|Cr [] (fun _ _=>(fM aD))<|Cr [] (fun H1 hH=>by exact aA rfl rfl gZ rfl (hd1 _))<|Cp [971] (fun H1 hH=>by exact fT (id:=971) rfl cC rfl rfl rfl rfl (by intro r hr;simp only[aQQ,aQU,or_false]at hr;rcases hr with rfl|rfl|rfl<;>rfl) ((hH _ rfl).trans rfl))<|Cr [971] (fun _ _=>aM)<|bM<|Kr<|Sr<|Dd aE<|Dd (aT rB)<|Dd (bF aG)<|Dd (by exact cJ (ob:=⟨0,1,9,cD (Y6 p)⟩) (k:=3+p.sources.length) (ps:=p.sources.map encStr) rfl cC xI rfl rfl rfl rfl rfl rfl rfl (iB _) (m:=p.sources.length) hms (by omega) rfl (rows':=cD (Y6 p++p.sources)) (by exact fF _ _)) ?_;refine Dd aM<|Zz<|Sr<|Dd aE<|Dd (aT mF)<|Dd (bF eW)<|Dd (fM dM)<|Dd (by exact aA rfl rfl gZ rfl (hd2 _))<|Dd (by exact aQ ([aV (p.trace.length:Int)].map encStr) rfl cC rfl rfl rfl rfl rfl (iB _))<|Dd (by exact cJ (ob:=⟨1,1,9,cD (Y6 p++p.sources)⟩) (k:=4+p.sources.length+2*0) (ps:=[aV (p.trace.length:Int)].map encStr) rfl cC xI rfl rfl rfl rfl rfl hl0 rfl (iB _) (m:=1) rfl (by omega) (by omega) (rows':=cD (DS p 0)) (by exact hw0))<|Dd aM<|Zz<|Sq<|Sr<|Dd aM<|Zz<|aF ?_;refine bJ (σ:=Nat) (fun k=>([(1,.ref 1 0 0 0),(3,.osl 971 (2+k) 0 (4+p.sources.length+2*k)),(4,iv (k:Int))],[(1,bx 7 28 ((iP p).map .pv)),(971,⟨2+k,1,9,cD (DS p k)⟩)])) (fun k=>k<=p.trace.length) (fun k=>p.trace.length - k) 0 (by omega) ?_ ?_
 ·exact(cX.wk (Ea<|Ea<|Eb<|trivial) (Hb<|Hc (cA _ _)<|trivial) trivial)
 intro k hk;have hlwk:=hlw k hk;refine Sq<|Sr<|Dd aE<|Dd (aT mF)<|Dd (bF eW)<|Dd (fM dM)<|Dd cW<|Zz ?_;refine Cn ?_ ?_<;>intro hc1
 ·have hlt:k<p.trace.length:=by have:=aQA hc1;omega
  obtain ⟨q,hq⟩:=aU hlt;have hqb:=htr q (aQO hq);have hi:=cI (f:=fS) hq;have hx:=fun H=>vX q.1 (by omega) (by omega) H;have hy:=fun H=>vX q.2 (by omega) (by omega) H;refine aC<|Sq<|aF<|aO follows<|Cr [971] (fun _ _=>aE)<|Cr [1] (fun _ h=>fh mF h)<|Cr [1] (fun _ h=>lh eW h)<|Cr [] (fun _ _=>aE)<|Cr [] (fun H1 hH=>by exact bH rfl MC rfl rfl (by omega) (by exact aQP _) hi rfl)<|Cr [] (fun _ _=>(NS pR))<|Cr [] (fun _ _=>(iN isAgg3 (hi:=hi)))<|Cr [] (fun H1 hH=>by exact aA rfl rfl gZ rfl (hx _))<|Cr [1] (fun _ h=>fh mF h)<|Cr [1] (fun _ h=>lh eW h)<|Cr [] (fun _ _=>aE)<|Cr [] (fun H1 hH=>by exact bH rfl MC rfl rfl (by omega) (by exact aQP _) hi rfl)<|Cr [] (fun _ _=>(NS pQ))<|Cr [] (fun _ _=>(iN isAgg3 (hi:=hi)))<|Cr [] (fun H1 hH=>by exact aA rfl rfl gZ rfl (hy _))<|Cr [] (fun H1 hH=>by exact aQ ((pt2 q).map encStr) rfl cC rfl rfl rfl rfl rfl (iB _))<|Cp [971] (fun H1 hH=>by exact cJ (ob:=⟨2+k,1,9,cD (DS p k)⟩) (k:=4+p.sources.length+2*(k+1)) (ps:=(pt2 q).map encStr) rfl cC xI rfl ((hH _ rfl).trans rfl) rfl rfl rfl hlwk rfl (iB _) (m:=2) rfl (by omega) (by omega) (rows':=cD (DS p (k+1))) (by rw[fF,aCV hq])) ?_;refine Cr [971] (fun _ _=>aM)<|bM<|Kr<|Rg<|Dd aE<|Dd (by exact cB rfl rfl rfl (show IntKind.i64.wrap ((k:Int)+1)=((k+1:Nat):Int)by rw[jM (by omega) (by omega)];omega))<|Da ?_;exact⟨k+1,by omega,by omega,(cX.wk (Ea<|Ea<|Eb<|trivial) (Hb<|Hc (cA _ _)<|trivial) trivial)⟩
 have hge:k=p.trace.length:=by have:=aQB hc1;omega
 subst hge;have hll:=hlk p.trace.length hk;refine aW<|Sr<|Dd aE<|Dd aM<|Zz<|aB ?_;refine dV (H':=[]) (.inr rfl) rfl (aX rfl) (Fin.fz (id:=971) (ob:=⟨2+p.trace.length,1,9,cD (DS p p.trace.length)⟩) ((DS p p.trace.length).map encStr) rfl (eM _) (.osl (pJ encStr _ hll)) rfl trivial trivial) ?_;exact⟨by rw[<-aHg];rfl,rfl⟩
theorem aE2(L:List ByteArray)(hL:L.length<=2000)(hs:∀s∈L,s.size<=20000)(H:aH)(id:Nat)(ob:Ob)(n:Nat)(hH:H.get id=some ob)(hsz:Nat.blt 0 ob.sz=true)(hrows:ob.rows=cD L)(hn:n=L.length):aI Tryz.prog 79 [.osl id ob.g 0 n] H (fun r H'=>r=sv (xX L)/\H'=(id,EU ob)::H):=by
 subst hn;refine aI.retire (L.map encStr) (FU L hL hs _) hH hsz (by rw[hrows];exact eM _) rfl ?_;intro i a a' ha ha'
 match i with
 |0 =>
  cases ha;cases ha';refine .inr ⟨0,L.length,rfl,?_⟩;rw[kS];rfl
 |n+1=>cases ha
theorem aKc(r:GRec)(H:aH)(hr:fR r)(hrf:∀e∈r.edits,e.refs.length<1099511627776)(hb:eQ r=true):aI Tryz.prog 29 [av (bS r)] H (fun x H'=>x=sv (qV r)/\H'=H):=by
 refine aI.pure ?_ (by simp[bS]) H;have hid:=fun H=>aJl r H hr hrf;have hf:=lE hb;have hse:=fun H=>VM r hr hf H;have hpl:=ZE hf;have his:=GJ r;have hL2:([prW,rU r]++rN (G7 r.priv)).length=2+(rN (G7 r.priv)).length:=by rw[aQF];rfl
 have hle:∀x∈[prW,rU r]++rN (G7 r.priv),x.size<=20000:=fun x hx=>(List.mem_append.1 hx).elim (fun hx=>by
   simp only[aQQ,aQU,or_false]at hx;rcases hx with rfl|rfl
   ·exact(by decide:prW.size<=20000)
   exact his) (ZF hf x)
 have hli:=fun H=>aE2 ([prW,rU r]++rN (G7 r.priv)) (by omega) hle H 971 ⟨1,1,9,cD ([prW,rU r]++rN (G7 r.priv))⟩ (2+(rN (G7 r.priv)).length);rw[qV];obtain ⟨F,hF⟩:∃F,F=rN (G7 r.priv):=⟨_,rfl⟩;rw[<-hF]at hse hpl hL2 hli |-;obtain ⟨i,hi⟩:∃i,i=rU r:=⟨_,rfl⟩;rw[<-hi]at hid hli hL2 |-;clear hF hi hle his;refine Bd func29 rfl ntmps29<|Sr<|Dd (by exact cF (id:=1) rfl rfl rfl rfl rfl)<|Dd aM<|Zz<|Sq<|aO follows<|Cr [1] (fun H1 hH=>by exact aN rfl aS aL rfl ((hH _ rfl).trans rfl) rfl rfl (by simp only[Zl,encStr];rfl) rfl)<|Cr [] (fun H1 hH=>by exact aA rfl rfl call17 rfl (hid _))<|Cp [971] (fun H1 hH=>by exact fT (id:=971) rfl cC rfl rfl rfl rfl (by intro r hr;simp only[aQQ,aQU,or_false]at hr;rcases hr with rfl|rfl<;>rfl) ((hH _ rfl).trans rfl))<|Cr [1] (fun _ h=>fh eS h)<|Cr [1] (fun H1 hH=>by exact aN rfl gB sizeOf28 rfl ((hH _ rfl).trans rfl) rfl rfl rfl rfl)<|Cr [] (fun H1 hH=>by exact aA rfl rfl call44 rfl (hse _))<|Cp [971] (fun H1 hH=>by exact cJ (ob:=⟨0,1,9,cD [prW,i]⟩) (k:=2+F.length) (ps:=F.map encStr) rfl cC xI rfl ((hH _ rfl).trans rfl) rfl rfl rfl rfl rfl (iB _) (m:=F.length) (aQE _) (by omega) rfl (rows':=cD ([prW,i]++F)) (by exact fF _ _)) ?_;exact Cp [971] (fun H1 hH=>by exact aA rfl rfl UR rfl ((hli _ ((hH _ rfl).trans rfl) rfl rfl hL2.symm)))<|Cr [971] (fun _ _=>aM)<|bM<|Kr<|aB<|Rt<|Qq
theorem aDC(r:GRec)(hr:fR r)(hv:VF r)(hrf:∀e∈r.edits,e.refs.length<1099511627776){H:aH}(hno:H.get 971=none):aI Tryz.prog 42 [av (bS r)] H (fun x H'=>x=.osl 971 2 0 (mA r).length/\H'=(971,⟨2,1,9,cD (mA r)⟩)::H) :=aI.frame (RS r hr hv hrf) (fun _ _ h=>by cases h) (fun _ _ h=>by cases h) (by simp[bS]) (fun id h=>.inr (by
  by_cases e:971=id
  ·subst e;exact hno
  simp[aH.get,kW e]at h))
theorem ZC(L:List ByteArray)(hL:L.length<=100000)(hs:∀s∈L,s.size<=100000000)(H:aH)(id:Nat)(ob:Ob)(n:Nat)(hH:H.get id=some ob)(hsz:Nat.blt 0 ob.sz=true)(hrows:ob.rows=cD L)(hn:n=L.length):aI Tryz.prog 45 [.osl id ob.g 0 n] H (fun r H'=>r=sv (ofL (aP L))/\H'=(id,EU ob)::H):=by
 subst hn;refine aI.retire (L.map encStr) (QH L hL hs _) hH hsz (by rw[hrows];exact eM _) rfl ?_;intro i a a' ha ha'
 match i with
 |0 =>
  cases ha;cases ha';refine .inr ⟨0,L.length,rfl,?_⟩;rw[kS];rfl
 |n+1=>cases ha
def sl2(s:GSeal):List ByteArray:=[aV s.idx,aV (s.sig.length:Int)]
def sl1(s:GSeal):List ByteArray:=[aV (s.path.length:Int)]
theorem ME(s:GSeal)(hf:FSeal s)(H:aH):aI Tryz.prog 43 [av (fZ s)] H (fun x H'=>x=.pv (aZ (fI (.z s.idx s.sig s.path)))/\H'=H):=by
 refine aI.pure ?_ (by simp[fZ]) H;have i0:=hf.i0;have i1:=hf.i1;have l1:=hf.sl;have l2:=hf.pl;have hm1:(s.sig.map encStr).length=s.sig.length:=aQE _;have hm2:(s.path.map encStr).length=s.path.length:=aQE _;have hd1:=fun H=>vX s.idx i0 (by omega) H;have hd2:∀H,aI Tryz.prog 99 [iv ((s.sig.map encStr).length:Int)] H (fun x H'=>x=sv (aV (s.sig.length:Int))/\H'=H):=fun H=>by
  rw[hm1];exact vX (s.sig.length:Int) (by omega) (by omega) H
 have hd3:∀H,aI Tryz.prog 99 [iv ((s.path.map encStr).length:Int)] H (fun x H'=>x=sv (aV (s.path.length:Int))/\H'=H):=fun H=>by
  rw[hm2];exact vX (s.path.length:Int) (by omega) (by omega) H
 have hall:fI (.z s.idx s.sig s.path)=((sl2 s++s.sig)++sl1 s)++s.path:=by simp[fI,sl2,sl1]
 rw[hall];have hlA:(sl2 s++s.sig).length=2+s.sig.length:=by rw[aQF];rfl
 have hlB:((sl2 s++s.sig)++sl1 s).length=2+s.sig.length+1:=by rw[aQF,hlA];rfl
 have hlC:(((sl2 s++s.sig)++sl1 s)++s.path).length=2+s.sig.length+1+s.path.length:=by rw[aQF,hlB]
 refine Bd func43 rfl ntmps43<|Sr<|Dd (by exact cF (id:=1) rfl rfl rfl rfl rfl)<|Dd aM<|Zz<|Sq<|aO follows<|Cr [1] (fun _ h=>fh lM h)<|Cr [1] (fun _ h=>lh isAgg3 h)<|Cr [] (fun H1 hH=>by exact aA rfl rfl gZ rfl (hd1 _))<|Cr [1] (fun _ h=>fh iA h)<|Cr [1] (fun _ h=>lh aG h)<|Cr [] (fun _ _=>(fM aD))<|Cr [] (fun H1 hH=>by exact aA rfl rfl gZ rfl (hd2 _))<|Cp [971] (fun H1 hH=>by exact fT (id:=971) rfl cC rfl rfl rfl rfl (by intro r hr;simp only[aQQ,aQU,or_false]at hr;rcases hr with rfl|rfl<;>rfl) ((hH _ rfl).trans rfl))<|Cr [971] (fun _ _=>aM)<|bM<|Kr<|Sr<|Dd aE<|Dd (aT iA)<|Dd (bF aG)<|Dd (by exact cJ (ob:=⟨0,1,9,cD (sl2 s)⟩) (k:=2+s.sig.length) (ps:=s.sig.map encStr) rfl cC xI rfl rfl rfl rfl rfl rfl rfl (iB _) (m:=s.sig.length) hm1 (by omega) rfl (rows':=cD (sl2 s++s.sig)) (by exact fF _ _)) ?_;refine Dd aM<|Zz<|Sr<|Dd aE<|Dd (aT kV)<|Dd (bF aG)<|Dd (fM aD)<|Dd (by exact aA rfl rfl gZ rfl (hd3 _))<|Dd (by exact aQ ((sl1 s).map encStr) rfl cC rfl rfl rfl rfl rfl (iB _))<|Dd (by exact cJ (ob:=⟨1,1,9,cD (sl2 s++s.sig)⟩) (k:=2+s.sig.length+1) (ps:=(sl1 s).map encStr) rfl cC xI rfl rfl rfl rfl rfl ((eX _).trans hlA) rfl (iB _) (m:=1) rfl (by omega) rfl (rows':=cD ((sl2 s++s.sig)++sl1 s)) (by exact fF _ _))<|Dd aM<|Zz<|Sr<|Dd aE<|Dd (aT kV)<|Dd (bF aG)<|Dd (by exact cJ (ob:=⟨2,1,9,cD ((sl2 s++s.sig)++sl1 s)⟩) (k:=2+s.sig.length+1+s.path.length) (ps:=s.path.map encStr) rfl cC xI rfl rfl rfl rfl rfl ((eX _).trans hlB) rfl (iB _) (m:=s.path.length) hm2 (by omega) rfl (rows':=cD (((sl2 s++s.sig)++sl1 s)++s.path)) (by exact fF _ _)) ?_;refine Dd aM<|Zz<|aB ?_;refine dV (H':=[]) (.inr rfl) rfl (aX rfl) (Fin.fz (id:=971) (ob:=⟨3,1,9,cD (((sl2 s++s.sig)++sl1 s)++s.path)⟩) ((((sl2 s++s.sig)++sl1 s)++s.path).map encStr) rfl (eM _) (.osl (pJ encStr _ hlC)) rfl trivial trivial) ?_;exact Qq
theorem aHk(r:GRec)(hr:fR r)(hrf:∀e∈r.edits,e.refs.length<1099511627776)(H:aH):aI Tryz.prog 11 [av (bS r)] H (fun x H'=>x=.tup [sv (jO r).1,iv (jO r).2]/\H'=H):=by
 refine aI.pure ?_ (by simp[bS]) H;have hv:=fun H=>MH r H hr hrf;rw[jO];refine Bd func11 rfl ntmps11<|Sr<|Dd (by exact cF (id:=1) rfl rfl rfl rfl rfl)<|Dd aM<|Dd aM<|Zz<|Sq<|Sr<|Dd (by exact aN rfl aS aL rfl rfl rfl rfl (by simp only[Zl,encStr];rfl) rfl)<|Dd (by exact aA rfl rfl aPr rfl (hv _))<|Dd iS<|Zz ?_;refine Cn ?_ ?_<;>intro hc1
 ·have hb:=not_not hc1;rw[aQC (by rw[hb];decide)];exact Sr<|Dd aM<|Dd aM<|Zz<|aB<|Ru<|Qq
 have hb:=oC hc1;have hf:=lE hb;have hal:pD r=((mA r++fI (.z r.sl.idx r.sl.sig r.sl.path))++rN (G7 r.priv))++fI (.z r.priv.sl.idx r.priv.sl.sig r.priv.sl.path):=by rw[pD,Y5,List.append_assoc,List.append_assoc]
 have hle:∀x∈pD r,le2 x:=fun x hx=>(List.mem_append.1 hx).elim (KS hf x) (aAz hf x);have hpl:=FX hf;have hsl:=SY hf;have hll:(pD r).length<=506:=by rw[pD,aQF];omega
 have hsz:=vL hle hll;have hfl:=fun(H:aH) hno=>aDC r hr hf hrf (H:=H) hno;have hs1:=fun H=>ME r.sl (jS hf.sl) H;have hs2:=fun H=>ME r.priv.sl (jS hf.psl) H;have hse:=fun H=>VM r hr hf H;have hjo:=fun H=>ZC (pD r) (by omega) (fun s hs=>Nat.le_trans (hle s hs) (by decide)) H 971 ⟨5,1,9,cD (pD r)⟩ (pD r).length;rw[aQD hb];rw[hal]at hjo hll hsz |-;obtain ⟨A,hA⟩:∃A,A=mA r:=⟨_,rfl⟩;obtain ⟨B,hB⟩:∃B,B=fI (.z r.sl.idx r.sl.sig r.sl.path):=⟨_,rfl⟩;obtain ⟨C,hC⟩:∃C,C=rN (G7 r.priv):=⟨_,rfl⟩;obtain ⟨D,hD⟩:∃D,D=fI (.z r.priv.sl.idx r.priv.sl.sig r.priv.sl.path):=⟨_,rfl⟩;rw[<-hA,<-hB,<-hC,<-hD]at hjo hll hsz |-;simp only[<-hA]at hfl;rw[<-hB]at hs1;rw[<-hC]at hse;rw[<-hD]at hs2;have q1:(A++B).length<=506:=by have:=hll;simp only[aQF]at this |-;omega
 have q2:((A++B)++C).length<=506:=by have:=hll;simp only[aQF]at this |-;omega
 have hjs:=hjo;obtain ⟨J,hJ⟩:∃J,J=aP (((A++B)++C)++D):=⟨_,rfl⟩;rw[<-hJ]at hjo hsz |-;have hos:(ofL J).size=J.length:=dH _;clear hJ hjs hA hB hC hD hal hle;refine aC<|Sq<|aO follows<|Cr [1] (fun H1 hH=>by exact aN rfl aS aL rfl ((hH _ rfl).trans rfl) rfl rfl (by simp only[Zl,encStr];rfl) rfl)<|Cp [971] (fun H1 hH=>by exact aA rfl rfl call42 rfl ((hfl _ ((hH _ rfl).trans rfl))))<|Cr [1] (fun _ h=>fh kQ h)<|Cr [1] (fun H1 hH=>by exact aN rfl dD sizeOf25 rfl ((hH _ rfl).trans rfl) rfl rfl rfl rfl)<|Cr [] (fun H1 hH=>by exact aA rfl rfl call43 rfl (hs1 _))<|Cp [971] (fun H1 hH=>by exact cJ (ob:=⟨2,1,9,cD A⟩) (k:=(A++B).length) (ps:=B.map encStr) rfl cC xI rfl ((hH _ rfl).trans rfl) rfl rfl rfl (eX _) rfl (iB _) (m:=B.length) (aQE _) (by rw[aQF]at q1;omega) (by rw[aQF]) (rows':=cD (A++B)) (by exact fF _ _))<|Cr [] (fun _ _=>aM)<|bM<|Kr<|Sq ?_;refine Rg<|Dd aE<|Dd (aT eS)<|Dd (mD gB sizeOf28)<|Dd (by exact aA rfl rfl call44 rfl (hse _))<|Dd (by exact cJ (ob:=⟨3,1,9,cD (A++B)⟩) (k:=((A++B)++C).length) (ps:=C.map encStr) rfl cC xI rfl rfl rfl rfl rfl (eX _) rfl (iB _) (m:=C.length) (aQE _) (by rw[aQF]at q2;omega) (by exact aQF.symm) (rows':=cD ((A++B)++C)) (by exact fF _ _))<|Dd aM<|Zz<|Sr<|Dd aE<|Dd (aT eS)<|Dd (aT nA)<|Dd (mD dD sizeOf25)<|Dd (by exact aA rfl rfl call43 rfl (hs2 _))<|Dd (by exact cJ (ob:=⟨4,1,9,cD ((A++B)++C)⟩) (k:=(((A++B)++C)++D).length) (ps:=D.map encStr) rfl cC xI rfl rfl rfl rfl rfl (eX _) rfl (iB _) (m:=D.length) (aQE _) (by rw[aQF]at hll;omega) (by exact aQF.symm) (rows':=cD (((A++B)++C)++D)) (by exact fF _ _)) ?_;refine Dd aM<|Zz<|Sr<|Dd aE<|Dd (by exact aA rfl rfl call45 rfl ((hjo _ rfl rfl rfl rfl)))<|Dd aM<|Zz<|Sq<|Sr<|Dd aE<|Dd (kG underlying9)<|Dd iG<|Zz ?_;refine Cn ?_ ?_<;>intro hc2
 ·have hlt:20000<J.length:=by have:=aQA hc2;omega
  rw[aQD hlt];exact Sr<|Dd aM<|Dd aM<|Zz<|aB<|Ru<|Qq
 have hlt:¬ 20000<J.length:=by have:=aQB hc2;omega
 rw[aQC hlt];exact aC<|Sr<|Dd aE<|Dd aM<|Dd aM<|Zz<|aB<|Ru<|Qq
theorem aBh{t:ByteArray}(h:t.size<=20000):∀k,(vZ t k).size<=20000
 |0=>h
 |k+1=>by rw[zK,gH];decide
theorem VY(t:ByteArray)(n:Nat)(H:aH)(ht:t.size<=20000)(hn:n<=1000):aI Tryz.prog 131 [sv t,iv (n:Int)] H (fun r H'=>r=sv (vZ t n)/\H'=H):=by
 refine Pu ?_;refine Bd func131 rfl ntmps131<|Sr<|Dd aM<|Zz<|Sq<|Sr<|Dd aM<|Zz<|aF ?_;refine bJ (σ:=Nat) (fun k=>([(0,sv (vZ t k)),(1,iv (n:Int)),(5,iv (k:Int))],[])) (fun k=>k<=n) (fun k=>n - k) 0 (aQV _) ?_ ?_
 ·exact Wk
 intro k hk;have hsz:=aBh ht k;have hsu:=fun H=>S4 (vZ t k) (by omega) H;rw[<-zK]at hsu;refine Sq<|Sr<|Dd aE<|Dd aE<|Dd cW<|Zz ?_;refine Cn ?_ ?_<;>intro hc1
 ·have hlt:k<n:=by have:=aQA hc1;omega
  refine aC<|Sq<|aF<|Rg<|Dd aE<|Dd (by exact aA rfl rfl aPl rfl (hsu _))<|Dd aM<|Zz<|Rg<|Dd aE<|Dd (by exact cB rfl rfl rfl (show IntKind.i64.wrap ((k:Int)+1)=((k+1:Nat):Int)by rw[jM (by omega) (by omega)];omega))<|Da ?_;exact⟨k+1,by omega,by omega,Wk⟩
 have hge:k=n:=by have:=aQB hc1;omega
 subst hge;exact aW<|Sr<|Dd aE<|Dd aM<|Zz<|aB<|Rt<|Qq
theorem VR(s:ByteArray)(i k:Nat)(H:aH)(hs:s.size<=20000)(hi:i<1099511627776)(hk:k<1099511627776):aI Tryz.prog 133 [sv s,iv (i:Int),iv (k:Int)] H (fun r H'=>r=sv (gO s i k)/\H'=H):=by
 refine Pu ?_;have h1:=fun H=>vX (i:Int) (by omega) (by omega) H;have h2:=fun H=>vX (k:Int) (by omega) (by omega) H;have s1:=mE (n:=(i:Int)) (by omega) (by omega);have s2:=mE (n:=(k:Int)) (by omega) (by omega);have hl:=fun H=>FU [s,aV (i:Int),aV (k:Int)] (by decide:3<=2000) (fun x hx=>by
  simp only[aQQ,aQU,or_false]at hx;rcases hx with rfl|rfl|rfl<;>omega) H
 exact Bd func133 rfl ntmps133<|Sr<|Dd aM<|Zz<|Sr<|Dd aE<|Dd aE<|Dd (by exact aA rfl rfl gZ rfl (h1 _))<|Dd aE<|Dd (by exact aA rfl rfl gZ rfl (h2 _))<|Dd (by exact aQ ([s,aV (i:Int),aV (k:Int)].map encStr) rfl cC rfl rfl rfl rfl rfl (iB _))<|Dd (by exact aA rfl rfl UR rfl (hl _))<|Dd aM<|Zz<|aB<|Rt<|Qq
theorem HK(s:ByteArray)(i k:Nat):(gO s i k).size<=20000:=by rw[wU];decide
theorem aKe(s:ByteArray)(i:Nat)(H:aH)(hs:s.size<=20000)(hi:i<1099511627776):aI Tryz.prog 177 [sv s,iv (i:Int)] H (fun r H'=>r=sv (CH s i)/\H'=H):=by
 refine Pu ?_;have hli:=fun H=>FU (zJ s i) (by rw[zJ,aQE,List.length_range];decide) (fun x hx=>by
  obtain ⟨k,_,rfl⟩:=List.mem_map.1 hx;exact aBh (HK s i k) 15) H
 refine Bd func177 rfl ntmps177<|Sr<|Dd aM<|Zz<|Sr<|Dd (by exact gS (id:=905) (sz:=1) (ty:=9) rfl rfl rfl)<|Zz<|Sq<|Sr<|Dd aM<|Zz<|aF ?_;refine bJ (σ:=Nat) (fun k=>([(0,sv s),(1,iv (i:Int)),(5,.osl 905 k 0 k),(6,iv (k:Int))],[(905,⟨k,1,9,cD (NW s i k)⟩)])) (fun k=>k<=18) (fun k=>18 - k) 0 (aQV _) ?_ ?_
 ·exact(cX.wk (Eb<|Eb<|Ea<|Eb<|trivial) (Hc (cA _ _)<|trivial) trivial)
 intro k hk;have hln:=IN s i k;have hnx:=NV s i k;have hst:=fun H=>VR s i k H hs hi (by omega);have hch:=fun H=>VY (gO s i k) 15 H (HK s i k) (by decide);refine Sq<|Sr<|Dd aE<|Dd cW<|Zz ?_;refine Cn ?_ ?_<;>intro hc1
 ·have hlt:k<18:=by have:=aQA hc1;omega
  refine aC<|Sq<|aF<|Rg<|Dd aE<|Dd aE<|Dd aE<|Dd aE<|Dd (by exact aA rfl rfl call133 rfl (hst _))<|Dd (by exact aA rfl rfl call131 rfl (hch _))<|Dd (by exact aQ [[.str (vZ (gO s i k) 15)]] rfl cC rfl rfl rfl rfl rfl (by intro r hr;rw[aQH]at hr;subst hr;rfl))<|Dd (by exact cJ (ps:=[[.str (vZ (gO s i k) 15)]]) rfl cC xI rfl rfl rfl rfl rfl (by rw[eX,hln]) rfl (by intro r hr;rw[aQH]at hr;subst hr;rfl) (m:=1) rfl (by omega) rfl (kK _ (vZ (gO s i k) 15)))<|Dd aM<|Zz<|Rg<|Dd aE<|Dd (by exact cB rfl rfl rfl (show IntKind.i64.wrap ((k:Int)+1)=((k+1:Nat):Int)by rw[jM (by omega) (by omega)];omega))<|Da ?_;refine⟨k+1,by omega,by omega,?_⟩;dsimp only;rw[hnx];exact(cX.wk (Eb<|Eb<|Ea<|Eb<|trivial) (Hc (cA _ _)<|trivial) trivial)
 have hge:k=18:=by have:=aQB hc1;omega
 subst hge;refine aW<|Sq ?_;refine gM.ent (cX.fz (id:=905) (E':=[(5,.pv (aZ (zJ s i)))]) (H':=[]) ((zJ s i).map encStr) rfl (eM _)
  (by intro p hp;simp only[aQQ,aQU,or_false]at hp;subst hp;exact⟨_,rfl,.osl (by rw[aQW,List.drop_zero];rfl)⟩) rfl trivial trivial) ?_
 exact Rg<|Dd aE<|Dd (by exact aA rfl rfl UR rfl (hli _))<|Dd aM<|Zz<|aB<|Rt<|Qq
theorem ZA(h:Nat)(H:aH)(hh:h<=60):aI Tryz.prog 98 [iv (h:Int)] H (fun r H'=>r=iv ((2 ^ h:Nat):Int)/\H'=H):=by
 refine Pu ?_;refine Bd func98 rfl ntmps98<|Sr<|Dd aM<|Zz<|Sr<|Dd aM<|Zz<|Sq<|Sr<|Dd aM<|Zz<|aF ?_;refine bJ (σ:=Nat) (fun k=>([(0,iv (h:Int)),(3,iv ((2 ^ k:Nat):Int)),(4,iv (k:Int))],[])) (fun k=>k<=h) (fun k=>h - k) 0 (aQV _) ?_ ?_
 ·exact Wk
 intro k hk;have hp:2 ^ k<=2 ^ 60:=Nat.pow_le_pow_right (by decide) (by omega);have hp2:(2:Nat) ^ 60=1152921504606846976:=by decide
 have hn:2 ^ (k+1)=2*2 ^ k:=by rw[Nat.pow_succ,Nat.mul_comm]
 obtain ⟨q,hq⟩:∃q,q=2 ^ k:=⟨_,rfl⟩;rw[<-hq]at hp hn;rw[<-hq];refine Sq<|Sr<|Dd aE<|Dd aE<|Dd cW<|Zz ?_;refine Cn ?_ ?_<;>intro hc1
 ·have hlt:k<h:=by have:=aQA hc1;omega
  refine aC<|Sq<|aF<|Rg<|Dd aE<|Dd (by exact mB rfl rfl rfl (show IntKind.i64.wrap (2*(q:Int))=((2 ^ (k+1):Nat):Int)by rw[hn,jM (by omega) (by omega)];omega))<|Dd aM<|Zz<|Rg<|Dd aE<|Dd (by exact cB rfl rfl rfl (show IntKind.i64.wrap ((k:Int)+1)=((k+1:Nat):Int)by rw[jM (by omega) (by omega)];omega))<|Da ?_;exact⟨k+1,by omega,by omega,Wk⟩
 have hge:k=h:=by have:=aQB hc1;omega
 subst hge;refine aW<|Sr<|Dd aE<|Dd aM<|Zz<|aB<|Rt ?_;exact⟨by rw[hq],rfl⟩
def GI(s:ByteArray)(k:Nat):List ByteArray:=(List.range k).map (CH s)
theorem aAC(s:ByteArray)(k:Nat):GI s (k+1)=GI s k++[CH s k]:=by rw[GI,List.range_succ,List.map_append];rfl
theorem RG(s:ByteArray)(k:Nat):(GI s k).length=k:=by simp[GI]
theorem aHn(s:ByteArray)(h:Nat)(H:aH)(hs:s.size<=20000)(hh:h<=8):aI Tryz.prog 135 [sv s,iv (h:Int)] H (fun r H'=>r=.pv (aZ (jG s h))/\H'=H):=by
 refine Pu ?_;have hpw:=fun H=>ZA h H (by omega);have hp:=pF hh;rw[show jG s h=GI s (2 ^ h)from rfl];obtain ⟨n,hn⟩:∃n,n=2 ^ h:=⟨_,rfl⟩;rw[<-hn]at hpw hp |-;refine Bd func135 rfl ntmps135<|Sr<|Dd aM<|Zz<|Sr<|Dd (by exact gS (id:=905) (sz:=1) (ty:=9) rfl rfl rfl)<|Zz<|Sq<|Sr<|Dd aM<|Zz<|aF ?_;refine bJ (σ:=Nat) (fun k=>([(0,sv s),(1,iv (h:Int)),(5,.osl 905 k 0 k),(6,iv (k:Int))],[(905,⟨k,1,9,cD (GI s k)⟩)])) (fun k=>k<=n) (fun k=>n - k) 0 (aQV _) ?_ ?_
 ·exact(cX.wk (Eb<|Eb<|Ea<|Eb<|trivial) (Hc (cA _ _)<|trivial) trivial)
 intro k hk;have hln:=RG s k;have hnx:=aAC s k;have hky:=fun H=>aKe s k H hs (by omega);refine Sq<|Sr<|Dd aE<|Dd aE<|Dd (by exact aA rfl rfl aPk rfl (hpw _))<|Dd cW<|Zz ?_;refine Cn ?_ ?_<;>intro hc1
 ·have hlt:k<n:=by have:=aQA hc1;omega
  refine aC<|Sq<|aF<|Rg<|Dd aE<|Dd aE<|Dd aE<|Dd (by exact aA rfl rfl call177 rfl (hky _))<|Dd (by exact aQ [[.str (CH s k)]] rfl cC rfl rfl rfl rfl rfl (by intro r hr;rw[aQH]at hr;subst hr;rfl))<|Dd (by exact cJ (ps:=[[.str (CH s k)]]) rfl cC xI rfl rfl rfl rfl rfl (by rw[eX,hln]) rfl (by intro r hr;rw[aQH]at hr;subst hr;rfl) (m:=1) rfl (by omega) rfl (kK _ (CH s k)))<|Dd aM<|Zz<|Rg<|Dd aE<|Dd (by exact cB rfl rfl rfl (show IntKind.i64.wrap ((k:Int)+1)=((k+1:Nat):Int)by rw[jM (by omega) (by omega)];omega))<|Da ?_;refine⟨k+1,by omega,by omega,?_⟩;dsimp only;rw[hnx];exact(cX.wk (Eb<|Eb<|Ea<|Eb<|trivial) (Hc (cA _ _)<|trivial) trivial)
 have hge:k=n:=by have:=aQB hc1;omega
 subst hge;have hln:=RG s k;refine aW<|Sr<|Dd aE<|Dd aM<|Zz<|aB ?_;refine dV (H':=[]) (.inr rfl) rfl (aX rfl) (Fin.fz (id:=905) (ob:=⟨k,1,9,cD (GI s k)⟩) ((GI s k).map encStr) rfl (eM _) (.osl (pJ encStr _ hln)) rfl trivial trivial) ?_;exact Qq
def NZ(n:Nat):List PV:=[.int .i64 (n:Int)]
def Y3(l:List Nat):PV:=.sl (l.map NZ)
def tO(l:List Nat):List (List AV):=l.map fun n:Nat=>[iv (n:Int)]
theorem Q3(l:List Nat):tO l=(l.map NZ).map (·.map AV.pv):=by rw[tO,List.map_map];rfl
theorem aCn(l:List Nat):(tO l).length=l.length:=aQE _
theorem Q5(l m:List Nat):tO l++(m.map NZ).map (·.map AV.pv)=tO (l++m):=by rw[<-Q3,tO,tO,tO,List.map_append]
theorem Q4(H:aH)(l:List Nat):∀r∈tO l,∀a∈r,Clo H a:=by intro r hr a ha;obtain ⟨b,_,rfl⟩:=List.mem_map.1 hr;rw[aQH.1 ha];exact .pv _
theorem K5(l:List Nat):∀r∈l.map NZ,r.length=1:=by intro r hr;obtain ⟨s,_,rfl⟩:=List.mem_map.1 hr;rfl
theorem aCx(h:n<16):BH (pP n)/\(if pP n<=57 then pP n - 48 else pP n - 87)=(n:Int):=by
 unfold BH pP;by_cases e:n<10
 ·rw[aQD e,aQD (by omega)];omega
 rw[aQC e,aQC (by omega)];omega
theorem aC2(m:ByteArray)(H:aH)(hm:m.size<=20000):aI Tryz.prog 102 [sv m] H (fun r H'=>r=.pv (Y3 (BS m))/\H'=H):=by
 refine Pu ?_;have hsz:=gH m;have hsum:=fun H=>S4 m (by omega) H;have hle:=ML m;refine Bd func102 rfl ntmps102<|Sr<|Dd aM<|Zz<|Sr<|Dd aE<|Dd (by exact aA rfl rfl aPl rfl (hsum _))<|Dd aM<|Zz<|Sr<|Dd (by exact gS (id:=905) (sz:=1) (ty:=3) rfl rfl rfl)<|Zz<|Sr<|Dd aM<|Zz<|Sq<|Sr<|Dd aM<|Zz<|aF ?_;refine bJ (σ:=Nat) (fun k=>([(3,sv (qK m)),(4,.osl 905 k 0 k),(5,iv (uX m k:Int)),(6,iv (k:Int))],[(905,⟨k,1,3,tO ((dJ m).take k)⟩)])) (fun k=>k<=16) (fun k=>16 - k) 0 (aQV _) ?_ ?_
 ·exact(cX.wk (Eb<|Ea<|Eb<|Eb<|trivial) (Hc (Q4 _ _)<|trivial) trivial)
 intro k hk;have hlw:(tO ((dJ m).take k)).length=k:=by rw[aCn,aQS,xY];omega
 refine Sq<|Sr<|Dd aE<|Dd aE<|Dd (kG underlying9)<|Dd cW<|Zz ?_;refine Cn ?_ ?_<;>intro hc1
 ·have hlt:k<16:=by have:=aQA hc1;omega
  have hnl:=AP (SN m) k;obtain ⟨hx1,hx2⟩:=aCx hnl;have hdg:=fun H=>aBc (pP (G8 (SN m) k)) hx1 H;rw[hx2]at hdg;have hr1:=VT m k;have hr2:=MK m hlt;have hnx:(dJ m).take (k+1)=(dJ m).take k++[G8 (SN m) k]:=mS (aAT m hlt);refine aC<|Sq<|aF<|Sr<|Dd aE<|Dd aE<|Dd (by exact dK rfl underlying9 rfl rfl (by omega) (aQP _) (by omega) (N6 m hlt))<|Dd (by exact aA rfl rfl aPQ rfl (hdg _))<|Dd aM<|Zz<|Sr<|Dd aE<|Dd aE<|Dd (by exact aQ ([G8 (SN m) k].map NZ) rfl aEN rfl rfl rfl rfl rfl (K5 _))<|Dd (by exact cJ (ob:=⟨k,1,3,tO ((dJ m).take k)⟩) (k:=k+1) (ps:=[G8 (SN m) k].map NZ) rfl aEN ei3 rfl rfl rfl rfl rfl hlw rfl (K5 _) (m:=1) rfl (by omega) rfl (rows':=tO ((dJ m).take (k+1))) (by rw[hnx];exact Q5 _ _))<|Dd aM<|Zz<|Rg<|Dd aE<|Dd (by exact cB rfl rfl rfl (show IntKind.i64.wrap ((uX m k:Int)+15)=((uX m k+15:Nat):Int)by rw[jM (by omega) (by omega)];omega))<|Dd aE<|Dd (by exact dX rfl rfl rfl (show IntKind.i64.wrap (((uX m k+15:Nat):Int) - (G8 (SN m) k:Int))=(uX m (k+1):Int)by rw[jM (by omega) (by omega)];omega)) ?_;refine Dd aM<|Zz<|Rg<|Dd aE<|Dd (by exact cB rfl rfl rfl (show IntKind.i64.wrap ((k:Int)+1)=((k+1:Nat):Int)by rw[jM (by omega) (by omega)];omega))<|Da ?_;exact⟨k+1,by omega,by omega,(cX.wk (Eb<|Ea<|Eb<|Eb<|trivial) (Hc (Q4 _ _)<|trivial) trivial)⟩
 have hge:k=16:=by have:=aQB hc1;omega
 subst hge;have htk:(dJ m).take 16=dJ m:=List.take_of_length_le (by rw[xY];exact aQK _);rw[QJ];refine aW<|Sr<|Dd aE<|Dd aE<|Dd (by exact sD rfl rfl rfl (by decide) (show IntKind.i64.wrap (((qQ m:Nat):Int).tdiv 16)=((qQ m / 16:Nat):Int)by rw[Int.tdiv_eq_ediv_of_nonneg (by omega),jM (by omega) (by omega)];omega))<|Dd aE<|Dd (by exact sC rfl rfl rfl (by decide) (show ((qQ m:Nat):Int).tmod 16=((qQ m % 16:Nat):Int)by rw[Int.tmod_eq_emod_of_nonneg (by omega)];omega))<|Dd (by exact aQ ([qQ m / 16,qQ m % 16].map NZ) rfl aEN rfl rfl rfl rfl rfl (K5 _))<|Dd (by exact cJ (ob:=⟨16,1,3,tO ((dJ m).take 16)⟩) (k:=18) (ps:=[qQ m / 16,qQ m % 16].map NZ) rfl aEN ei3 rfl rfl rfl rfl rfl hlw rfl (K5 _) (m:=2) rfl (by omega) rfl (rows':=tO (BS m)) (by rw[htk];exact Q5 _ _))<|Dd aM<|Zz<|aB ?_;refine dV (H':=[]) (.inr rfl) rfl (aX rfl) (Fin.fz (id:=905) (ob:=⟨17,1,3,tO (BS m)⟩) ((BS m).map NZ) rfl (Q3 _) (.osl (pJ NZ _ (DI m))) rfl trivial trivial) ?_;exact Qq
theorem aK0{m:Nat}(hl:l.length=2*m)(hk:k<m):∃a b,l[2*k]?=some a/\l[2*k+1]?=some b/\(zW l)[k]?=some (tN a b):=by obtain ⟨a,ha⟩:=aU (l:=l) (k:=2*k) (by omega);obtain ⟨b,hb⟩:=aU (l:=l) (k:=2*k+1) (by omega);refine⟨a,b,ha,hb,?_⟩;have h:=KG m l k hl hk;obtain ⟨c,hc⟩:=aU (l:=zW l) (k:=k) (by rw[tT m l hl];exact hk);rw[List.getD_eq_getElem?_getD,List.getD_eq_getElem?_getD,List.getD_eq_getElem?_getD,ha,hb,hc]at h;rw[hc];exact congrArg some h
theorem aMp(l:List ByteArray)(m:Nat)(H:aH)(hl:l.length=2*m)(hm:m<=1000)(hs:∀s∈l,s.size<=20000):aI Tryz.prog 176 [.pv (aZ l)] H (fun r H'=>r=.pv (aZ (zW l))/\H'=H):=by
 refine Pu ?_;have hml:(l.map encStr).length=l.length:=aQE _;have hul:=tT m l hl;refine Bd func176 rfl ntmps176<|Sr<|Dd aM<|Zz<|Sr<|Dd (by exact gS (id:=905) (sz:=1) (ty:=9) rfl rfl rfl)<|Zz<|Sq<|Sr<|Dd aM<|Zz<|aF ?_;refine bJ (σ:=Nat) (fun k=>([(0,.pv (aZ l)),(3,.osl 905 k 0 k),(4,iv ((2*k:Nat):Int))],[(905,⟨k,1,9,cD ((zW l).take k)⟩)])) (fun k=>k<=m) (fun k=>m - k) 0 (aQV _) ?_ ?_
 ·exact(cX.wk (Eb<|Ea<|Eb<|trivial) (Hc (cA _ _)<|trivial) trivial)
 intro k hk;have hlw:(cD ((zW l).take k)).length=k:=by rw[eX,aQS,hul];omega
 have hw1:IntKind.i64.wrap (((2*k:Nat):Int)+1)=((2*k+1:Nat):Int):=by rw[jM (by omega) (by omega)];omega
 refine Sq<|Sr<|Dd aE<|Dd (by exact cB rfl rfl rfl hw1)<|Dd aE<|Dd (fM aD)<|Dd cW<|Zz ?_;refine Cn ?_ ?_<;>intro hc1
 ·have hlt:k<m:=by have:=aQA hc1;omega
  obtain ⟨a,b,ha,hb,hab⟩:=aK0 hl hlt;have hi1:=cI (f:=encStr) ha;have hi2:=cI (f:=encStr) hb;have hsa:=hs a (aQO ha);have hsb:=hs b (aQO hb);have hli:=fun H=>FU [CD,a,b] (by decide:3<=2000) (fun x hx=>by
   simp only[aQQ,aQU,or_false]at hx;rcases hx with rfl|rfl|rfl
   ·decide
   ·exact hsa
   exact hsb) H
  have hnx:(zW l).take (k+1)=(zW l).take k++[tN a b]:=mS hab;refine aC<|Sq<|aF<|aO follows<|Cr [905] (fun _ _=>aE)<|Cr [] (fun _ _=>aE)<|Cr [] (fun _ _=>aE)<|Cr [] (fun H1 hH=>by exact bH rfl cC rfl rfl (by omega) (by exact aQP _) hi1 rfl)<|Cr [] (fun _ _=>(iN isAgg9 (hi:=hi1)))<|Cr [] (fun _ _=>aE)<|Cr [] (fun _ _=>aE)<|Cr [] (fun H1 hH=>by exact cB rfl rfl rfl hw1)<|Cr [] (fun H1 hH=>by exact bH rfl cC rfl rfl (by omega) (by exact aQP _) hi2 rfl)<|Cr [] (fun _ _=>(iN isAgg9 (hi:=hi2)))<|Cr [] (fun H1 hH=>by exact aQ ([CD,a,b].map encStr) rfl cC rfl rfl rfl rfl rfl (iB _))<|Cr [] (fun H1 hH=>by exact aA rfl rfl UR rfl (hli _))<|Cr [] (fun H1 hH=>by exact aQ ([tN a b].map encStr) rfl cC rfl rfl rfl rfl rfl (iB _))<|Cp [905] (fun H1 hH=>by exact cJ (ob:=⟨k,1,9,cD ((zW l).take k)⟩) (k:=k+1) (ps:=[tN a b].map encStr) rfl cC xI rfl ((hH _ rfl).trans rfl) rfl rfl rfl hlw rfl (iB _) (m:=1) rfl (by omega) rfl (rows':=cD ((zW l).take (k+1))) (by rw[hnx];exact fF _ _)) ?_;refine Cr [905] (fun _ _=>aM)<|bM<|Kr<|Rg<|Dd aE<|Dd (by exact cB rfl rfl rfl (show IntKind.i64.wrap (((2*k:Nat):Int)+2)=((2*(k+1):Nat):Int)by rw[jM (by omega) (by omega)];omega))<|Da ?_;exact⟨k+1,by omega,by omega,(cX.wk (Eb<|Ea<|Eb<|trivial) (Hc (cA _ _)<|trivial) trivial)⟩
 have hge:k=m:=by have:=aQB hc1;omega
 subst hge;have htk:(zW l).take k=zW l:=List.take_of_length_le (by omega);rw[htk];refine aW<|Sr<|Dd aE<|Dd aM<|Zz<|aB ?_;refine dV (H':=[]) (.inr rfl) rfl (aX rfl) (Fin.fz (id:=905) (ob:=⟨k,1,9,cD (zW l)⟩) ((zW l).map encStr) rfl (eM _) (.osl (pJ encStr _ hul)) rfl trivial trivial) ?_;exact Qq
theorem aDq:∀i,i<256->(i ^^^ 1)=if i % 2=0 then i+1 else i - 1:=by decide
theorem aCC:∀t∈zW l,t.size<=20000:=fun t ht=>Nat.le_trans (qX (FH l.length l (aQK _) t ht)) (by decide)
theorem aHl(h:Nat)(l:List ByteArray)(i:Nat)(H:aH)(hh:h<=8)(hl:l.length=2 ^ h)(hi:i<2 ^ h)(hs:∀s∈l,s.size<=20000):aI Tryz.prog 134 [.pv (aZ l),iv (i:Int)] H (fun r H'=>r=.pv (aZ (iK h l i))/\H'=H):=by
 refine Pu ?_;refine Bd func134 rfl ntmps134<|Sr<|Dd aM<|Zz<|Sr<|Dd (by exact gS (id:=905) (sz:=1) (ty:=9) rfl rfl rfl)<|Zz<|Sq<|aF ?_;refine IY (fun(h':Nat) (l':List ByteArray) (i':Nat) (A:List ByteArray)=>([(0,.pv (aZ l')),(1,iv (i':Int)),(5,.osl 905 A.length 0 A.length)],[(905,⟨A.length,1,9,cD A⟩)])) (fun h' l' i' A=>h'+A.length=h/\l'.length=2 ^ h'/\i'<2 ^ h'/\(∀s∈l',s.size<=20000)/\iK h l i=A++iK h' l' i') (fun h' l' i' A=>h') h l i [] ⟨rfl,hl,hi,hs,rfl⟩ ?_ ?_
 ·exact(cX.wk (Eb<|Eb<|Ea<|trivial) (Hc (cA _ _)<|trivial) trivial)
 rintro h' l' i' A ⟨hA,hl',hi',hs',hP⟩;have hml:(l'.map encStr).length=l'.length:=aQE _;have hp8:=pF (h:=h') (by omega);have hlw:(cD A).length=A.length:=eX _;cases h' with
 |zero =>
  have hl1:l'.length=1:=hl';refine Sq<|Sr<|Dd aE<|Dd (fM aD)<|Dd iG<|Zz ?_;refine Cn ?_ ?_<;>intro hc1
  ·(have h:=aQA hc1;omega)
  have hPA:iK h l i=A:=by rw[hP];exact List.append_nil A
  rw[hPA];refine aW<|Sr<|Dd aE<|Dd aM<|Zz<|aB ?_;refine dV (H':=[]) (.inr rfl) rfl (aX rfl) (Fin.fz (id:=905) (ob:=⟨A.length,1,9,cD A⟩) (A.map encStr) rfl (eM _) (.osl (kS encStr _)) rfl trivial trivial) ?_;exact Qq
 | succ n =>
  have hpn:2 ^ (n+1)=2*2 ^ n:=by rw[Nat.pow_succ,Nat.mul_comm]
  rw[hpn]at hl' hi' hp8;obtain ⟨q,hq⟩:∃q,q=2 ^ n:=⟨_,rfl⟩;rw[<-hq]at hl' hi' hp8;have hq1:1<=q:=by rw[hq];exact Nat.one_le_two_pow
  have hup:=fun H=>aMp l' q H hl' (by omega) hs';have hxo:=aDq i' (by omega);have hlt:(i' ^^^ 1)<l'.length:=by rw[hxo];split<;>omega
  obtain ⟨o,ho⟩:=aU hlt;have hi1:=cI (f:=encStr) ho;have hgd:l'.getD (i' ^^^ 1) sNil=o:=by rw[List.getD_eq_getElem?_getD,ho];rfl
  have hPn:iK h l i=(A++[o])++iK n (zW l') (i' / 2):=by rw[hP,iK,hgd,List.append_assoc];rfl
  have hfin:n+(A++[o]).length=h/\(zW l').length=2 ^ n/\i' / 2<2 ^ n/\(∀s∈zW l',s.size<=20000)/\iK h l i=(A++[o])++iK n (zW l') (i' / 2):=by
   refine⟨by rw[aQF];show n+(A.length+1)=h;omega,by rw[tT q l' hl',hq],by rw[<-hq];omega,aCC,hPn⟩
  have hrem:((i':Nat):Int).tmod 2=((i' % 2:Nat):Int):=by rw[Int.tmod_eq_emod_of_nonneg (by omega)];omega
  have hquo:IntKind.i64.wrap (((i':Nat):Int).tdiv 2)=((i' / 2:Nat):Int):=by rw[Int.tdiv_eq_ediv_of_nonneg (by omega),jM (by omega) (by omega)];omega
  have hAl:(A++[o]).length=A.length+1:=by rw[aQF];rfl
  refine Sq<|Sr<|Dd aE<|Dd (fM aD)<|Dd iG<|Zz ?_;refine Cn ?_ ?_<;>intro hc2
  ·refine aC<|aF<|Sq<|Sr<|Dd aE<|Dd (by exact sC rfl rfl rfl (by decide) hrem)<|Dd cN<|Zz ?_;refine Cn ?_ ?_<;>intro hc3
   ·have he:i' % 2=0:=by have:=aQA hc3;omega
    rw[aQD he]at hxo;rw[hxo]at hi1;refine Rg<|Dd aE<|Dd aE<|Dd aE<|Dd (by exact cB rfl rfl rfl (show IntKind.i64.wrap ((i':Int)+1)=((i'+1:Nat):Int)by rw[jM (by omega) (by omega)];omega))<|Dd (by exact bH rfl cC rfl rfl (by omega) (by exact aQP _) hi1 rfl)<|Dd (iN isAgg9 (hi:=hi1))<|Dd (by exact aQ ([o].map encStr) rfl cC rfl rfl rfl rfl rfl (iB _))<|Dd (by exact cJ (ob:=⟨A.length,1,9,cD A⟩) (k:=A.length+1) (ps:=[o].map encStr) rfl cC xI rfl rfl rfl rfl rfl hlw rfl (iB _) (m:=1) rfl (by omega) rfl (rows':=cD (A++[o])) (by exact fF _ _))<|Dd aM<|Zz<|Sr<|Dd aE<|Dd (by exact aA rfl rfl call176 rfl (hup _))<|Dd aM<|Zz<|Rg<|Dd aE<|Dd (by exact sD rfl rfl rfl (by decide) hquo)<|Da ?_;refine⟨n,zW l',i' / 2,A++[o],hfin,by omega,?_⟩;rw[hAl];exact(cX.wk (Eb<|Eb<|Ea<|trivial) (Hc (cA _ _)<|trivial) trivial)
   have he:¬ i' % 2=0:=by have:=aQB hc3;omega
   rw[aQC he]at hxo;rw[hxo]at hi1;refine Rg<|Dd aE<|Dd aE<|Dd aE<|Dd (by exact dX rfl rfl rfl (show IntKind.i64.wrap ((i':Int) - 1)=((i' - 1:Nat):Int)by rw[jM (by omega) (by omega)];omega))<|Dd (by exact bH rfl cC rfl rfl (by omega) (by exact aQP _) hi1 rfl)<|Dd (iN isAgg9 (hi:=hi1))<|Dd (by exact aQ ([o].map encStr) rfl cC rfl rfl rfl rfl rfl (iB _))<|Dd (by exact cJ (ob:=⟨A.length,1,9,cD A⟩) (k:=A.length+1) (ps:=[o].map encStr) rfl cC xI rfl rfl rfl rfl rfl hlw rfl (iB _) (m:=1) rfl (by omega) rfl (rows':=cD (A++[o])) (by exact fF _ _))<|Dd aM<|Zz<|Sr<|Dd aE<|Dd (by exact aA rfl rfl call176 rfl (hup _))<|Dd aM<|Zz<|Rg<|Dd aE<|Dd (by exact sD rfl rfl rfl (by decide) hquo)<|Da ?_;refine⟨n,zW l',i' / 2,A++[o],hfin,by omega,?_⟩;rw[hAl];exact(cX.wk (Eb<|Eb<|Ea<|trivial) (Hc (cA _ _)<|trivial) trivial)
  (have h:=aQB hc2;omega)
end Go.Proofs.YtmdicgjnmfolfaaGreatDoor
