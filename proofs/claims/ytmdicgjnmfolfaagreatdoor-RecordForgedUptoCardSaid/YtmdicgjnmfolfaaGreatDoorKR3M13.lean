/-
  Parts of the proof: rules of an abstract program logic, contracts of functions, plain laws. Conditions: each theorem's own.
-/
import Derived.Test.YtmdicgjnmfolfaaGreatDoorKR3M12
set_option linter.unusedVariables false
set_option linter.unusedSimpArgs false
set_option maxRecDepth 100000
set_option maxHeartbeats 8000000
namespace Go.Proofs
open Tryz
theorem xF:type_of% call185:=call185
theorem aOa:type_of% call187:=call187
end Go.Proofs
namespace Go.Proofs.YtmdicgjnmfolfaaGreatDoor
open Go.Proofs.Tryz
open Go.Abs Go.Lib
variable{o:GObj}{M:List ByteArray}
theorem aEw{x:Int}(h:0<=x):aV x=ofL (decDigits x.toNat):=by rw[aV,iL _ h];rfl
theorem J7(x:Int)(H:aH)(h0:0<=x)(h1:x<1000000000):aI Tryz.prog 186 [iv x] H (fun r H'=>r=sv (aV x)/\H'=H):=by obtain ⟨u,rfl⟩:=Int.eq_ofNat_of_zero_le h0;rw[aEw h0];exact aKD u H (by omega)
def wO(o:GObj)(M:List ByteArray)(k:Nat):List ByteArray:=[eO o.kind,o.id]++M++(o.tags.take k).map gM
theorem Z9{k:Nat}{t:GTag}(h:o.tags[k]?=some t):wO o M (k+1)=wO o M k++[gM t]:=by rw[wO,wO,List.take_add_one,h,Option.toList_some,List.map_append,<-List.append_assoc];rfl
theorem CN(a b:List ByteArray):cY (a++b)=cY a+cY b:=by rw[cY,cY,cY,List.map_append,List.sum_append]
theorem YY(hg:lH o=true):fT o=if 20000<(uH o).size then(sNil,2)else(uH o,0):=by
 rw[fT,aPT hg];by_cases h:0<o.tags.length/\(iB o.tags).2≠0
 ·have htg:=(B0 hg).2.2.1;rw[aPT h];have h2:=h.2;rw[iB,aPT htg]at h2 |-
  split at h2
  ·next hb =>
   rw[aPT hb,aPT ?_];rw[uH,<-aZ];show 20000<(tD o).length;rw[tD,aPV];cases e:o.tags with
   |nil=>rw[e]at h;exact absurd h.1 (by decide)
   |cons t l =>
    rw[e]at hb;have:=O9 t l;have h3:=congrArg List.length this;rw[aZ]at h3;rw[oL,List.flatMap_cons,aPV,aPW];rw[aPV,oL]at h3;omega
  exact absurd rfl h2
 rw[aPS h]
theorem aAA(o:GObj)(M:List ByteArray):(ofL (bU [32] (bs (wO o M o.tags.length)))).data.toList=(eO o.kind).data.toList++32::(o.id.data.toList++M.flatMap fun s=>32::s.data.toList)++oL o.tags:=by rw[dC,wO,List.take_length,List.cons_append,List.cons_append,bs,List.map_cons,bU,oL];simp only[List.map_cons,List.map_append,List.flatMap_cons,List.flatMap_append,List.flatMap_map,List.nil_append,List.append_assoc,List.cons_append];congr 3;congr 1;refine fmC fun t _=>?_;rw[HR]
theorem aAB(hM:(eO o.kind).data.toList++32::(o.id.data.toList++M.flatMap fun s=>32::s.data.toList)=mR o):ofL (bU [32] (bs (wO o M o.tags.length)))=uH o:=eqL (by
 rw[aAA,hM];rfl)
theorem QH:∀(l:List ByteArray) (k:Nat),(bU [32] (bs (l.take k))).length<=(bU [32] (bs l)).length
 | [],k=>by rw[List.take_nil];exact aP0 _
 |x::l,0=>by rw[List.take_zero];exact aPb _
 |x::l,k+1=>by
  rw[List.take_succ_cons,zY,zY,aPV,aPV,C1,C1];have h1:=mA l k;have h2:(l.take k).length<=l.length:=by rw[aP8];exact Nat.min_le_right _ _
  omega
theorem vX(a b:ByteArray):(a++b).size=a.size+b.size:=ByteArray.size_append
theorem YA(o:GObj)(H:aH)(ho:okO o):aI Tryz.prog 184 [av (bS o)] H (fun r H'=>r=.tup [sv (fT o).1,iv (fT o).2]/\H'=H):=by
 refine Pu ?_;have hmt:(o.tags.map bJ).length=o.tags.length:=aPU _;have hmr:(o.refs.map encStr).length=o.refs.length:=aPU _;refine Bd func184 rfl ntmps184<|Sr<|Dd (by exact cD (id:=1) rfl rfl rfl rfl rfl)<|Dd aL<|Dd aL<|Zz<|Sq<|Sr<|Dd (by exact aM rfl cW sizeOf151 rfl rfl rfl rfl (by simp only[Zl,bJ,bS,encStr,aW,jH];rfl) rfl)<|Dd (by exact aA rfl rfl call220 rfl (aDu o _ ho))<|Dd iQ<|Zz ?_;refine Cn ?_ ?_<;>intro hc1
 ·have hg:lH o=false:=by have h:=hc1;rwa [aPd]at h
  have e:fT o=(sNil,1):=by rw[fT,aPS (by rw[hg];decide)]
  rw[e];exact Sr<|Dd aL<|Dd aL<|Zz<|aB<|Ru<|Qq
 have hg:lH o=true:=by have h:=hc1;rwa [Bool.not_eq_false']at h
 obtain ⟨hr,ht,htg,hid,_⟩:=B0 hg;obtain ⟨hx,hy,hn,hz⟩:=aBD hg;have hw:=(CK (F1 hg)).1;have hws:=dM hw;have his:=dM hid;have hT:=YY hg;have hTb:∀t∈o.tags,t.key.size<=24/\t.val.size<=200:=fun t ht=>by
  obtain ⟨p1,_,_⟩:=yJ.1 htg;have:=p1 t ht;exact⟨dM this.1,this.2.2⟩
 have hTs:∀k,cY ((o.tags.take k).map gM)<=60*427:=fun k=>by
  have h1:∀l:List GTag,(∀t∈l,t∈o.tags)->cY (l.map gM)<=l.length*427:=by
   intro l
   induction l with
   |nil=>intro _;exact aPb _
   |cons t l ih =>
    intro h;rw[List.map_cons,cF,aPW,Nat.add_mul];have h2:=ih fun x hx=>h x (List.mem_cons_of_mem _ hx);have h3:=hTb t (h t List.mem_cons_self);have h4:=QB h3.1 h3.2;omega
  have h2:=h1 (o.tags.take k) fun t ht=>List.mem_of_mem_take ht;have h3:(o.tags.take k).length<=60:=by rw[aP8];omega
  have h4:(o.tags.take k).length*427<=60*427:=Nat.mul_le_mul_right _ h3;omega
 refine aC<|Sq<|aN follows<|Cs (fun _ h=>fh dZ h)<|Cs (fun _ h=>lh isAgg3 h)<|Cs (fun H1 hH=>by exact aA rfl rfl aO9 rfl (HA o.kind _))<|Cs (fun _ h=>fh nU h)<|Cs (fun _ h=>lh isAgg9 h) ?_;refine bF (r:=⟨_,none,[_]⟩) (DStep.plain rfl (fun H1 hH=>by exact gB (id:=901) rfl cB rfl rfl rfl rfl (by intro r hr;simp only[aP6,aPa,or_false]at hr;rcases hr with rfl|rfl<;>rfl) ((hH _ rfl).trans rfl))) rfl ?_;refine Cs (fun _ _=>aL)<|bL<|Kr<|Sq<|Sq ?_;refine gR.ent (E':=[(1,.ref 1 0 0 0),(4,.osl 901 0 0 2)]) (H':=[(901,⟨0,1,9,NX [eO o.kind,o.id]⟩),(1,oBx o)]) (dA.wk (Ea<|Ea<|trivial) (Hc (mP _ _)<|Hb<|trivial) trivial) ?_;refine Rg<|Dd (aS dZ)<|Dd (bC isAgg3)<|Dd cK<|Zz ?_;refine Cn ?_ ?_<;>intro hc2
 ·have hk:o.kind=1:=aPQ hc2;have six:(aV o.x).size<=7:=by rw[<-aZ];show (Lib.itoa o.x).length<=7;rw[iL _ hx.1];exact dX (by omega) (by decide)
  have siy:(aV o.y).size<=7:=by rw[<-aZ];show (Lib.itoa o.y).length<=7;rw[iL _ hy.1];exact dX (by omega) (by decide)
  have hMs:cY [aV o.x,aV o.y]=(aV o.x).size+((aV o.y).size+0):=by rw[cF,cF];rfl
  have hMl:([aV o.x,aV o.y]:List ByteArray).length=2:=rfl;have hHd:(eO o.kind).data.toList++32::(o.id.data.toList++([aV o.x,aV o.y]:List ByteArray).flatMap fun s=>32::s.data.toList)=mR o:=by
   rw[mR,aPT hk];simp[aV]
  have hFT:fT o=if 20000<(ofL (bU [32] (bs (wO o [aV o.x,aV o.y] o.tags.length)))).size then(sNil,2)else(ofL (bU [32] (bs (wO o [aV o.x,aV o.y] o.tags.length))),0):=by rw[aAB hHd];exact hT
  refine aN follows<|Cs (fun _ _=>aE)<|Cs (fun _ h=>fh lV h)<|Cs (fun _ h=>fh pC h)<|Cs (fun _ h=>lh isAgg3 h)<|Cs (fun H1 hH=>by exact aA rfl rfl DH rfl (J7 o.x _ (by omega) (by omega)))<|Cs (fun _ h=>fh lV h)<|Cs (fun _ h=>fh pB h)<|Cs (fun _ h=>lh isAgg3 h)<|Cs (fun H1 hH=>by exact aA rfl rfl DH rfl (J7 o.y _ (by omega) (by omega)))<|Cs (fun H1 hH=>by exact aR [encStr (aV o.x),encStr (aV o.y)] rfl cB rfl rfl rfl rfl rfl (by intro r hr;simp only[aP6,aPa,or_false]at hr;rcases hr with rfl|rfl<;>rfl)) ?_;refine bF (r:=⟨_,none,[_]⟩) (DStep.plain rfl (fun H1 hH=>by exact dL (ps:=[encStr (aV o.x),encStr (aV o.y)]) rfl cB EF rfl ((hH _ rfl).trans rfl) rfl rfl rfl rfl rfl (by intro r hr;simp only[aP6,aPa,or_false]at hr;rcases hr with rfl|rfl<;>rfl) (m:=2) rfl (by omega) rfl (rfl:_=NX (wO o [aV o.x,aV o.y] 0)))) rfl ?_;refine Cs (fun _ _=>aL)<|bL<|Kr<|Sq<|Sr<|Dd aL<|Zz<|aG ?_;have hMs2:cY ([eO o.kind,o.id]++[aV o.x,aV o.y])<=70000:=by rw[CN];have:cY [eO o.kind,o.id]=(eO o.kind).size+(o.id.size+0):=(by rw[cF,cF];rfl);omega
  have hWl:∀k,k<=o.tags.length->(wO o [aV o.x,aV o.y] k).length<=64:=fun k hk=>by rw[wO,aPV,aPV,aPU,aP8];show 2+_+_<=_;omega
  have hWs:∀k,cY (wO o [aV o.x,aV o.y] k)<=100000:=fun k=>by
   rw[wO,CN];have h1:=hTs k;omega
  refine bT (σ:=Nat) (fun k=>([(1,.ref 1 0 0 0),(4,.osl 901 (1+k) 0 (wO o [aV o.x,aV o.y] k).length),(7,iv (k:Int))],[(901,⟨1+k,1,9,NX (wO o [aV o.x,aV o.y] k)⟩),(1,oBx o)])) (fun k=>k<=o.tags.length) (fun k=>o.tags.length - k) 0 (aPb _) ?_ ?_
  ·exact(dA.wk (Ea<|Ea<|Eb<|trivial) (Hc (mP _ _)<|Hb<|trivial) trivial)
  rintro k hk;have hwl:=hWl k hk;refine Sq<|Sr<|Dd aE<|Dd (aS eX)<|Dd (bC cQ)<|Dd (fE cV)<|Dd cZ<|Zz ?_;refine Cn ?_ ?_<;>intro hc3
  ·have hlt:k<o.tags.length:=by have:=aPQ hc3;omega
   obtain ⟨t,ht⟩:=aU hlt;have hit:=cJ (f:=bJ) ht;have hnx:=Z9 (M:=[aV o.x,aV o.y]) ht;have hnl:(wO o [aV o.x,aV o.y] k++[gM t]).length=(wO o [aV o.x,aV o.y] k).length+1:=by rw[aPV];rfl
   obtain ⟨hks,hvs⟩:=hTb t (aP4 ht);have hq:=oY t.val;have h61:(⟨#[61]⟩:ByteArray).size=1:=rfl;have hk1:(t.key++(⟨#[61]⟩:ByteArray)).size=t.key.size+1:=vX _ _;refine aC<|Sq<|aG<|aN follows<|Cs (fun _ _=>aE)<|Cs (fun _ h=>fh eX h)<|Cs (fun _ h=>lh cQ h)<|Cs (fun _ _=>aE)<|Cs (fun _ _=>(mE jU))<|Cs (fun _ _=>(M4 mV))<|Cs (fun _ _=>(iJ isAgg9))<|Cs (fun H1 hH=>by exact cH rfl rfl rfl (by omega) rfl)<|Cs (fun _ h=>fh eX h)<|Cs (fun _ h=>lh cQ h)<|Cs (fun _ _=>aE)<|Cs (fun _ _=>(mE jU))<|Cs (fun _ _=>(M4 nS))<|Cs (fun _ _=>(iJ isAgg9))<|Cs (fun H1 hH=>by exact aA rfl rfl aOa rfl (HB t.val _ (by omega)))<|Cs (fun H1 hH=>by exact cH rfl rfl rfl (by omega) rfl)<|Cs (fun H1 hH=>by exact aR [encStr (gM t)] rfl cB rfl rfl rfl rfl rfl (by intro r hr;rw[aPX]at hr;subst hr;rfl)) ?_;refine bF (r:=⟨_,none,[_]⟩) (DStep.plain rfl (fun H1 hH=>by exact dL (ps:=[encStr (gM t)]) rfl cB EF rfl ((hH _ rfl).trans rfl) rfl rfl rfl (aAV _) rfl (by intro r hr;rw[aPX]at hr;subst hr;rfl) (m:=1) rfl (by omega) rfl (aAW _ (gM t)))) rfl ?_;refine Cs (fun _ _=>aL)<|bL<|Kr<|Rg<|Dd aE<|Dd mI<|Da ?_;refine⟨k+1,by omega,by omega,?_⟩;rw[hnx,hnl];exact(dA.wk (Ea<|Ea<|Eb<|trivial) (Hc (mP _ _)<|Hb<|trivial) trivial)
  have hge:k=o.tags.length:=by have:=aPR hc3;omega
  subst hge;obtain ⟨W,hW⟩:∃W,W=wO o [aV o.x,aV o.y] o.tags.length:=⟨_,rfl⟩;have hWs2:=hWs o.tags.length;rw[<-hW]at hwl hWs2 hFT;rw[<-hW];obtain ⟨F,hF⟩:∃F,F=ofL (bU [32] (bs W)):=⟨_,rfl⟩;rw[<-hF]at hFT;refine aY<|Sr<|Dd aL<|Zz<|Sq<|Sr<|Dd aL<|Zz<|aG ?_;refine bT (σ:=Nat) (fun k=>([(4,.osl 901 (1+o.tags.length) 0 W.length),(8,sv (ofL (bU [32] (bs (W.take k))))),(9,iv (k:Int))],[(901,⟨1+o.tags.length,1,9,NX W⟩)])) (fun k=>k<=W.length) (fun k=>W.length - k) 0 (aPb _) ?_ ?_
  ·exact(dA.wk (Ea<|Eb<|Eb<|trivial) (Hc (mP _ _)<|trivial) trivial)
  rintro k hk;have hsz:(ofL (bU [32] (bs (W.take k)))).size<=100064:=by
   rw[dG];have h1:=eZ (W.take k);have h2:=mA W k;have h3:(W.take k).length<=W.length:=by rw[aP8];exact Nat.min_le_right _ _
   omega
  refine Sq<|Sr<|Dd aE<|Dd aE<|Dd (by exact eF rfl aD rfl rfl rfl)<|Dd cZ<|Zz ?_;refine Cn ?_ ?_<;>intro hc4
  ·have hlt:k<W.length:=by have:=aPQ hc4;omega
   obtain ⟨w,hw⟩:=aU hlt;have hiw:=R4 hw;have hnx:=yF hw;have hws:w.size<=100000:=by
    have h1:=tW hw;have h2:=mA W (k+1);omega
   have h32:(⟨#[32]⟩:ByteArray).size=1:=rfl;have hs2:(ofL (bU [32] (bs (W.take k)))++⟨#[32]⟩).size=(ofL (bU [32] (bs (W.take k)))).size+1:=vX _ _;refine aC<|Sq<|aG<|Sq<|Sr<|Dd aE<|Dd iE<|Zz ?_;refine Cn ?_ ?_<;>intro hc5
   ·have hq:0<k:=by have:=aPQ hc5;omega
    rw[aPT hq]at hnx;refine Rg<|Dd aE<|Dd (by exact cH rfl rfl rfl (by omega) rfl)<|Dd aL<|Zz<|Rg<|Dd aE<|Dd aE<|Dd aE<|Dd (by exact dP rfl cB rfl rfl rfl rfl rfl (by omega) (by exact aP5 _) hlt (aPc _))<|Dd (by exact aK rfl isAgg9 rfl rfl rfl hiw rfl)<|Dd (by exact cH rfl rfl rfl (by omega) rfl)<|Dd aL<|Zz<|Rg<|Dd aE<|Dd mI<|Da ?_;refine⟨k+1,by omega,by omega,?_⟩;rw[hnx];exact(dA.wk (Ea<|Eb<|Eb<|trivial) (Hc (mP _ _)<|trivial) trivial)
   have hq:¬ 0<k:=by have:=aPR hc5;omega
   rw[aPS hq]at hnx;refine aC<|Rg<|Dd aE<|Dd aE<|Dd aE<|Dd (by exact dP rfl cB rfl rfl rfl rfl rfl (by omega) (by exact aP5 _) hlt (aPc _))<|Dd (by exact aK rfl isAgg9 rfl rfl rfl hiw rfl)<|Dd (by exact cH rfl rfl rfl (by omega) rfl)<|Dd aL<|Zz<|Rg<|Dd aE<|Dd mI<|Da ?_;refine⟨k+1,by omega,by omega,?_⟩;rw[hnx];exact(dA.wk (Ea<|Eb<|Eb<|trivial) (Hc (mP _ _)<|trivial) trivial)
  have hge:k=W.length:=by have:=aPR hc4;omega
  subst hge;rw[List.take_length,<-hF];refine aY<|Sq<|Sr<|Dd aE<|Dd (jV underlying9)<|Dd iE<|Zz ?_;refine Cn ?_ ?_<;>intro hc6
  ·have hbig:20000<F.size:=by have:=aPQ hc6;omega
   rw[hFT,aPT hbig];exact Sr<|Dd aL<|Dd aL<|Zz<|aB<|Ru<|Qq
  have hbig:¬ 20000<F.size:=by have:=aPR hc6;omega
  rw[hFT,aPS hbig];exact aC<|Sr<|Dd aE<|Dd aL<|Dd aL<|Zz<|aB<|Ru<|Qq
 have hk:o.kind≠1:=aPR hc2;have hsz:cY o.refs<=24*o.refs.length:=nE (fun s hs=>dM (uB hg s hs));have hjl:=eZ o.refs;have hSz:∀k,(ofL (bU [32] (bs (o.refs.take k)))).size<=50000:=fun k=>by
  rw[dG];have:=QH o.refs k;omega
 refine Sr<|Dd aL<|Zz<|Sq<|Sr<|Dd aL<|Zz<|aG ?_;refine bT (σ:=Nat) (fun k=>([(1,.ref 1 0 0 0),(4,.osl 901 0 0 2),(5,sv (ofL (bU [32] (bs (o.refs.take k))))),(6,iv (k:Int))],[(901,⟨0,1,9,NX [eO o.kind,o.id]⟩),(1,oBx o)])) (fun k=>k<=o.refs.length) (fun k=>o.refs.length - k) 0 (aPb _) ?_ ?_
 ·exact(dA.wk (Ea<|Ea<|Eb<|Eb<|trivial) (Hc (mP _ _)<|Hb<|trivial) trivial)
 rintro k hkr;have hsk:=hSz k;refine Sq<|Sq ?_;refine aT (t:=42) (n:=11) (X:=decide ((k:Int)<((o.refs.map encStr).length:Int))&&decide (((ofL (bU [32] (bs (o.refs.take k)))).size:Int)<=20000)) ?_ ?_
 ·all_goals refine Dd aE ?_
  all_goals refine Dd (aS dT)<|Dd (bC aF)<|Dd (fE aD)<|Dd cZ<|Dm ?_
  all_goals refine Sp 38 (fun h38=>?_) fun h38=>?_
  all_goals try contradiction
  all_goals first|refine Fo<|Fo<|Fo ?_|refine On aE<|On (jV underlying9)<|On GQ ?_
  all_goals refine Dd cG<|Zz ?_
  all_goals(exact⟨⟨_,rfl,by(rw[h38];rfl)⟩,rfl,rfl,rfl⟩)
 refine Cn ?_ ?_<;>intro hc7
 ·have hlt:k<o.refs.length:=by have h:=hc7;rw[aP3,aP1]at h;omega
  obtain ⟨w,hw2⟩:=aU hlt;have hiw:=cJ (f:=encStr) hw2;have hnx:=yF hw2;have hwsz:=dM (uB hg w (aP4 hw2));have h32:(⟨#[32]⟩:ByteArray).size=1:=rfl;have hs2:(ofL (bU [32] (bs (o.refs.take k)))++⟨#[32]⟩).size=(ofL (bU [32] (bs (o.refs.take k)))).size+1:=vX _ _;refine aC<|Sq<|aG<|Sq<|Sr<|Dd aE<|Dd iE<|Zz ?_;refine Cn ?_ ?_<;>intro hc8
  ·have hq:0<k:=by have:=aPQ hc8;omega
   rw[aPT hq]at hnx;refine Rg<|Dd aE<|Dd (by exact cH rfl rfl rfl (by omega) rfl)<|Dd aL<|Zz<|Rg<|Dd aE<|Dd (aS dT)<|Dd (bC aF)<|Dd aE<|Dd (mE cB)<|Dd (iJ isAgg9)<|Dd (by exact cH rfl rfl rfl (by omega) rfl)<|Dd aL<|Zz<|Rg<|Dd aE<|Dd mI<|Da ?_;refine⟨k+1,by omega,by omega,?_⟩;rw[hnx];exact(dA.wk (Ea<|Ea<|Eb<|Eb<|trivial) (Hc (mP _ _)<|Hb<|trivial) trivial)
  have hq:¬ 0<k:=by have:=aPR hc8;omega
  rw[aPS hq]at hnx;refine aC<|Rg<|Dd aE<|Dd (aS dT)<|Dd (bC aF)<|Dd aE<|Dd (mE cB)<|Dd (iJ isAgg9)<|Dd (by exact cH rfl rfl rfl (by omega) rfl)<|Dd aL<|Zz<|Rg<|Dd aE<|Dd mI<|Da ?_;refine⟨k+1,by omega,by omega,?_⟩;rw[hnx];exact(dA.wk (Ea<|Ea<|Eb<|Eb<|trivial) (Hc (mP _ _)<|Hb<|trivial) trivial)
 have hend:k=o.refs.length\/20000<(ofL (bU [32] (bs (o.refs.take k)))).size:=by have h:=hc7;simp only[Bool.and_eq_false_iff,aP2]at h;omega
 obtain ⟨S,hS⟩:∃S,S=ofL (bU [32] (bs (o.refs.take k))):=⟨_,rfl⟩;obtain ⟨B,hB⟩:∃B,B=(⟨#[40]⟩:ByteArray)++S++⟨#[41]⟩:=⟨_,rfl⟩;rw[<-hS]at hsk hend;rw[<-hS];have h40:(⟨#[40]⟩:ByteArray).size=1:=rfl;have h41:(⟨#[41]⟩:ByteArray).size=1:=rfl;have hA:((⟨#[40]⟩:ByteArray)++S).size=1+S.size:=vX _ _;have hBs:B.size=1+S.size+1:=by rw[hB,vX,hA];rfl
 have hMs:cY [B]=B.size+0:=by rw[cF];rfl
 have hMl:([B]:List ByteArray).length=1:=rfl;have hFT:fT o=if 20000<(ofL (bU [32] (bs (wO o [B] o.tags.length)))).size then(sNil,2)else(ofL (bU [32] (bs (wO o [B] o.tags.length))),0):=by
  by_cases he:k=o.refs.length
  ·have hHd:(eO o.kind).data.toList++32::(o.id.data.toList++([B]:List ByteArray).flatMap fun s=>32::s.data.toList)=mR o:=by
    rw[mR,aPS hk,hB,hS,he,List.take_length];simp[ofL]
   rw[aAB hHd];exact hT
  have hbig:20000<S.size:=by rcases hend with h|h;exact absurd h he;exact h
  have h1:=congrArg List.length (aAA o [B]);rw[aZ]at h1;have h2:(uH o).size=(tD o).length:=by rw[<-aZ];rfl
  have h3:=QH o.refs k;have h4:S.size=(bU [32] (bs (o.refs.take k))).length:=by rw[hS,dG]
  have h5:(tD o).length>=(bU [32] (bs o.refs)).length:=by
   rw[tD,mR,aPS hk];simp only[aPV,aPW];omega
  have h6:([B]:List ByteArray).flatMap (fun s=>32::s.data.toList)=32::B.data.toList:=by simp
  rw[h6]at h1;simp only[aPV,aPW,aZ]at h1;rw[hT,aPT (by omega),aPT (by omega)]
 refine aY<|Rg<|Dd aE<|Dd aE<|Dd (by exact cH rfl rfl rfl (by omega) rfl)<|Dd (by exact cH rfl rfl rfl (by omega) hB.symm)<|Dd (by exact aR [encStr B] rfl cB rfl rfl rfl rfl rfl (by intro r hr;rw[aPX]at hr;subst hr;rfl))<|Dd (by exact dL (ps:=[encStr B]) rfl cB EF rfl rfl rfl rfl rfl rfl rfl (by intro r hr;rw[aPX]at hr;subst hr;rfl) (m:=1) rfl (by omega) rfl (rfl:_=NX (wO o [B] 0)))<|Dd aL<|Zz<|Sq<|Sr<|Dd aL<|Zz<|aG ?_;have hMs2:cY ([eO o.kind,o.id]++[B])<=70000:=by rw[CN];have:cY [eO o.kind,o.id]=(eO o.kind).size+(o.id.size+0):=(by rw[cF,cF];rfl);omega
 have hWl:∀k,k<=o.tags.length->(wO o [B] k).length<=64:=fun k hk=>by rw[wO,aPV,aPV,aPU,aP8];show 2+_+_<=_;omega
 have hWs:∀k,cY (wO o [B] k)<=100000:=fun k=>by
  rw[wO,CN];have h1:=hTs k;omega
 refine bT (σ:=Nat) (fun k=>([(1,.ref 1 0 0 0),(4,.osl 901 (1+k) 0 (wO o [B] k).length),(7,iv (k:Int))],[(901,⟨1+k,1,9,NX (wO o [B] k)⟩),(1,oBx o)])) (fun k=>k<=o.tags.length) (fun k=>o.tags.length - k) 0 (aPb _) ?_ ?_
 ·exact(dA.wk (Ea<|Ea<|Eb<|trivial) (Hc (mP _ _)<|Hb<|trivial) trivial)
 rintro k hk;have hwl:=hWl k hk;refine Sq<|Sr<|Dd aE<|Dd (aS eX)<|Dd (bC cQ)<|Dd (fE cV)<|Dd cZ<|Zz ?_;refine Cn ?_ ?_<;>intro hc9
 ·have hlt:k<o.tags.length:=by have:=aPQ hc9;omega
  obtain ⟨t,ht⟩:=aU hlt;have hit:=cJ (f:=bJ) ht;have hnx:=Z9 (M:=[B]) ht;have hnl:(wO o [B] k++[gM t]).length=(wO o [B] k).length+1:=by rw[aPV];rfl
  obtain ⟨hks,hvs⟩:=hTb t (aP4 ht);have hq:=oY t.val;have h61:(⟨#[61]⟩:ByteArray).size=1:=rfl;have hk1:(t.key++(⟨#[61]⟩:ByteArray)).size=t.key.size+1:=vX _ _;refine aC<|Sq<|aG<|aN follows<|Cs (fun _ _=>aE)<|Cs (fun _ h=>fh eX h)<|Cs (fun _ h=>lh cQ h)<|Cs (fun _ _=>aE)<|Cs (fun _ _=>(mE jU))<|Cs (fun _ _=>(M4 mV))<|Cs (fun _ _=>(iJ isAgg9))<|Cs (fun H1 hH=>by exact cH rfl rfl rfl (by omega) rfl)<|Cs (fun _ h=>fh eX h)<|Cs (fun _ h=>lh cQ h)<|Cs (fun _ _=>aE)<|Cs (fun _ _=>(mE jU))<|Cs (fun _ _=>(M4 nS))<|Cs (fun _ _=>(iJ isAgg9))<|Cs (fun H1 hH=>by exact aA rfl rfl aOa rfl (HB t.val _ (by omega)))<|Cs (fun H1 hH=>by exact cH rfl rfl rfl (by omega) rfl)<|Cs (fun H1 hH=>by exact aR [encStr (gM t)] rfl cB rfl rfl rfl rfl rfl (by intro r hr;rw[aPX]at hr;subst hr;rfl)) ?_;refine bF (r:=⟨_,none,[_]⟩) (DStep.plain rfl (fun H1 hH=>by exact dL (ps:=[encStr (gM t)]) rfl cB EF rfl ((hH _ rfl).trans rfl) rfl rfl rfl (aAV _) rfl (by intro r hr;rw[aPX]at hr;subst hr;rfl) (m:=1) rfl (by omega) rfl (aAW _ (gM t)))) rfl ?_;refine Cs (fun _ _=>aL)<|bL<|Kr<|Rg<|Dd aE<|Dd mI<|Da ?_;refine⟨k+1,by omega,by omega,?_⟩;rw[hnx,hnl];exact(dA.wk (Ea<|Ea<|Eb<|trivial) (Hc (mP _ _)<|Hb<|trivial) trivial)
 have hge:k=o.tags.length:=by have:=aPR hc9;omega
 subst hge;obtain ⟨W,hW⟩:∃W,W=wO o [B] o.tags.length:=⟨_,rfl⟩;have hWs2:=hWs o.tags.length;rw[<-hW]at hwl hWs2 hFT;rw[<-hW];obtain ⟨F,hF⟩:∃F,F=ofL (bU [32] (bs W)):=⟨_,rfl⟩;rw[<-hF]at hFT;refine aY<|Sr<|Dd aL<|Zz<|Sq<|Sr<|Dd aL<|Zz<|aG ?_;refine bT (σ:=Nat) (fun k=>([(4,.osl 901 (1+o.tags.length) 0 W.length),(8,sv (ofL (bU [32] (bs (W.take k))))),(9,iv (k:Int))],[(901,⟨1+o.tags.length,1,9,NX W⟩)])) (fun k=>k<=W.length) (fun k=>W.length - k) 0 (aPb _) ?_ ?_
 ·exact(dA.wk (Ea<|Eb<|Eb<|trivial) (Hc (mP _ _)<|trivial) trivial)
 rintro k hk;have hsz:(ofL (bU [32] (bs (W.take k)))).size<=100064:=by
  rw[dG];have h1:=eZ (W.take k);have h2:=mA W k;have h3:(W.take k).length<=W.length:=by rw[aP8];exact Nat.min_le_right _ _
  omega
 refine Sq<|Sr<|Dd aE<|Dd aE<|Dd (by exact eF rfl aD rfl rfl rfl)<|Dd cZ<|Zz ?_;refine Cn ?_ ?_<;>intro hc10
 ·have hlt:k<W.length:=by have:=aPQ hc10;omega
  obtain ⟨w,hw⟩:=aU hlt;have hiw:=R4 hw;have hnx:=yF hw;have hws:w.size<=100000:=by
   have h1:=tW hw;have h2:=mA W (k+1);omega
  have h32:(⟨#[32]⟩:ByteArray).size=1:=rfl;have hs2:(ofL (bU [32] (bs (W.take k)))++⟨#[32]⟩).size=(ofL (bU [32] (bs (W.take k)))).size+1:=vX _ _;refine aC<|Sq<|aG<|Sq<|Sr<|Dd aE<|Dd iE<|Zz ?_;refine Cn ?_ ?_<;>intro hc11
  ·have hq:0<k:=by have:=aPQ hc11;omega
   rw[aPT hq]at hnx;refine Rg<|Dd aE<|Dd (by exact cH rfl rfl rfl (by omega) rfl)<|Dd aL<|Zz<|Rg<|Dd aE<|Dd aE<|Dd aE<|Dd (by exact dP rfl cB rfl rfl rfl rfl rfl (by omega) (by exact aP5 _) hlt (aPc _))<|Dd (by exact aK rfl isAgg9 rfl rfl rfl hiw rfl)<|Dd (by exact cH rfl rfl rfl (by omega) rfl)<|Dd aL<|Zz<|Rg<|Dd aE<|Dd mI<|Da ?_;refine⟨k+1,by omega,by omega,?_⟩;rw[hnx];exact(dA.wk (Ea<|Eb<|Eb<|trivial) (Hc (mP _ _)<|trivial) trivial)
  have hq:¬ 0<k:=by have:=aPR hc11;omega
  rw[aPS hq]at hnx;refine aC<|Rg<|Dd aE<|Dd aE<|Dd aE<|Dd (by exact dP rfl cB rfl rfl rfl rfl rfl (by omega) (by exact aP5 _) hlt (aPc _))<|Dd (by exact aK rfl isAgg9 rfl rfl rfl hiw rfl)<|Dd (by exact cH rfl rfl rfl (by omega) rfl)<|Dd aL<|Zz<|Rg<|Dd aE<|Dd mI<|Da ?_;refine⟨k+1,by omega,by omega,?_⟩;rw[hnx];exact(dA.wk (Ea<|Eb<|Eb<|trivial) (Hc (mP _ _)<|trivial) trivial)
 have hge:k=W.length:=by have:=aPR hc10;omega
 subst hge;rw[List.take_length,<-hF];refine aY<|Sq<|Sr<|Dd aE<|Dd (jV underlying9)<|Dd iE<|Zz ?_;refine Cn ?_ ?_<;>intro hc12
 ·have hbig:20000<F.size:=by have:=aPQ hc12;omega
  rw[hFT,aPT hbig];exact Sr<|Dd aL<|Dd aL<|Zz<|aB<|Ru<|Qq
 have hbig:¬ 20000<F.size:=by have:=aPR hc12;omega
 rw[hFT,aPS hbig];exact aC<|Sr<|Dd aE<|Dd aL<|Dd aL<|Zz<|aB<|Ru<|Qq
theorem aDM(ws:List ByteArray)(H:aH)(id g:Nat)(hH:H.get id=some ⟨g,1,9,NX ws⟩)(hb:cY ws+ws.length<1099511627776):aI Tryz.prog 185 [.osl id g 0 ws.length] H (fun r H'=>r=sv (ofL (bU [32] (bs ws)))/\H'=H):=by
 refine Bd func185 rfl ntmps185<|Sr<|Dd aL<|Zz<|Sr<|Dd aL<|Zz<|Sq<|Sr<|Dd aL<|Zz<|aG ?_;refine bT (σ:=Nat) (fun k=>([(0,.osl id g 0 ws.length),(3,sv (ofL (bU [32] (bs (ws.take k))))),(4,iv (k:Int))],H)) (fun k=>k<=ws.length) (fun k=>ws.length - k) 0 (aPb _) ?_ ?_
 ·exact E0
 rintro k hk;have hsz:(ofL (bU [32] (bs (ws.take k)))).size<=cY ws+ws.length:=by
  rw[dG];have h1:=eZ (ws.take k);have h2:=mA ws k;have h3:(ws.take k).length<=ws.length:=by rw[aP8];exact Nat.min_le_right _ _
  omega
 refine Sq<|Sr<|Dd aE<|Dd aE<|Dd (by exact eF rfl aD rfl hH rfl)<|Dd cZ<|Zz ?_;refine Cn ?_ ?_<;>intro hc1
 ·have hlt:k<ws.length:=by have:=aPQ hc1;omega
  obtain ⟨w,hw⟩:=aU hlt;have hiw:=R4 hw;have hnx:=yF hw;have hws:w.size<=cY ws:=by
   have h1:=tW hw;have h2:=mA ws (k+1);omega
  have h32:(⟨#[32]⟩:ByteArray).size=1:=rfl;have hs2:(ofL (bU [32] (bs (ws.take k)))++⟨#[32]⟩).size=(ofL (bU [32] (bs (ws.take k)))).size+1:=vX _ _;refine aC<|Sq<|aG<|Sq<|Sr<|Dd aE<|Dd iE<|Zz ?_;refine Cn ?_ ?_<;>intro hc2
  ·have hq:0<k:=by have:=aPQ hc2;omega
   rw[aPT hq]at hnx;refine Rg<|Dd aE<|Dd (by exact cH rfl rfl rfl (by omega) rfl)<|Dd aL<|Zz<|Rg<|Dd aE<|Dd aE<|Dd aE<|Dd (by exact dP rfl cB rfl hH rfl rfl rfl (by omega) (by exact aP5 _) hlt (aPc _))<|Dd (by exact aK rfl isAgg9 rfl hH rfl hiw rfl)<|Dd (by exact cH rfl rfl rfl (by omega) rfl)<|Dd aL<|Zz<|Rg<|Dd aE<|Dd mI<|Da ?_;refine⟨k+1,by omega,by omega,?_⟩;rw[hnx];exact E0
  have hq:¬ 0<k:=by have:=aPR hc2;omega
  rw[aPS hq]at hnx;refine aC<|Rg<|Dd aE<|Dd aE<|Dd aE<|Dd (by exact dP rfl cB rfl hH rfl rfl rfl (by omega) (by exact aP5 _) hlt (aPc _))<|Dd (by exact aK rfl isAgg9 rfl hH rfl hiw rfl)<|Dd (by exact cH rfl rfl rfl (by omega) rfl)<|Dd aL<|Zz<|Rg<|Dd aE<|Dd mI<|Da ?_;refine⟨k+1,by omega,by omega,?_⟩;rw[hnx];exact E0
 have hge:k=ws.length:=by have:=aPR hc1;omega
 subst hge;rw[List.take_length];refine aY<|Sr<|Dd aE<|Dd aL<|Zz<|aB ?_;refine eG (H':=H) (.inr rfl) rfl (bD rfl) Fin.refl ?_;exact Qq
theorem O3{e:GEdit}{ws:List ByteArray}(h1:e.op≠1)(h:bs ws=gF e):ofL (bU [32] (bs ws))++⟨#[10]⟩=ofL (fC e++[10]):=uN h1 h
theorem aHS(e:GEdit)(H:aH)(he:MB e)(hv:dU e=true):aI Tryz.prog 149 [av (aW e)] H (fun r H'=>r=.tup [sv (ofL (fC e++[10])),bv (decide (fP e=0))]/\H'=H):=by
 refine Pu ?_;obtain ⟨⟨o1,o2⟩,o3,o4⟩:=uT.1 hv;rw[qW]at o3;have hval:=EC hv;have hs0:cY []=0:=rfl;refine Bd func149 rfl ntmps149<|Sr<|Dd (by exact cD (id:=1) rfl rfl rfl rfl rfl)<|Dd aL<|Dd aL<|Zz<|Sq<|Sr<|Dd (aS fZ)<|Dd (bC isAgg3)<|Zz<|aG<|Sr<|Dd cK<|Da ?_;refine Cn ?_ ?_<;>intro hc1
 ·have h1:e.op=1:=aPQ hc1;have hos:=HK (o:=e.obj);have h3:(⟨#[112,117,116]⟩:ByteArray).size=3:=rfl;have h10:(⟨#[10]⟩:ByteArray).size=1:=rfl;have hjs:(ofL (bU [32] (bs [⟨#[112,117,116]⟩,(fT e.obj).1]))).size<=70000:=by
   rw[dG];have:=eZ [⟨#[112,117,116]⟩,(fT e.obj).1];simp only[cF,aPW,List.length_nil]at this;omega
  have hout:ofL (bU [32] (bs [⟨#[112,117,116]⟩,(fT e.obj).1]))++⟨#[10]⟩=ofL (fC e++[10]):=eqL (by
   rw[dC,fC,aPT h1];simp[ofL,bs,bU,aBU])
  refine Sr<|Dd (aS nT)<|Dd (by exact aM rfl cW sizeOf151 rfl rfl rfl rfl (by simp only[Zl,bJ,bS,encStr,aW,jH];rfl) rfl)<|Dd (by exact aA rfl rfl call184 rfl (YA e.obj _ he.2.2))<|Dd aE<|Dd fS<|Dd fS<|Dd aL<|Dd aL<|Zz<|Sr<|Dd aE<|Dd (by exact aR [encStr ⟨#[112,117,116]⟩,encStr (fT e.obj).1] rfl cB rfl rfl rfl rfl rfl (gX [⟨#[112,117,116]⟩,(fT e.obj).1]))<|Dd (by exact aA rfl rfl xF rfl (CJ [⟨#[112,117,116]⟩,(fT e.obj).1] _ (by simp only[cF,aPW,List.length_nil];omega)))<|Dd (by exact cH rfl rfl rfl (by omega) hout)<|Dd aE<|Dd cK<|Dd aL<|Dd aL<|Zz<|aB<|Ru ?_;rw[show fP e=(fT e.obj).2 from aPT h1];exact Qq
 have h1:e.op≠1:=aPR hc1;rw[aPS h1,aP3]at o3;obtain ⟨o5,o6⟩:=o3;have hid:=dM o5;refine Sr<|Dd cK<|Da ?_;refine Cn ?_ ?_<;>intro hc2
 ·have h2:e.op=2:=aPQ hc2;rw[aPT h2,onP,aP3,aP1,aP1]at o6;have hx:0<=e.x/\e.x<1048576:=by omega
  have hy:0<=e.y/\e.y<1048576:=by omega
  have six:(aV e.x).size<=7:=by rw[<-aZ];show (Lib.itoa e.x).length<=7;rw[iL _ hx.1];exact dX (by omega) (by decide)
  have siy:(aV e.y).size<=7:=by rw[<-aZ];show (Lib.itoa e.y).length<=7;rw[iL _ hy.1];exact dX (by omega) (by decide)
  have hw0:(⟨#[109,111,118,101]⟩:ByteArray).size=4:=rfl;have hw:bs [⟨#[109,111,118,101]⟩,e.id,aV e.x,aV e.y]=gF e:=by
   rw[gF]
   (rw[aPT h2];rfl)
  have hne:e.op≠1:=by omega
  have hjs:(ofL (bU [32] (bs [⟨#[109,111,118,101]⟩,e.id,aV e.x,aV e.y]))).size<=70000:=by
   rw[dG];have:=eZ [⟨#[109,111,118,101]⟩,e.id,aV e.x,aV e.y];simp only[cF,aPW,List.length_nil]at this;omega
  have h10:(⟨#[10]⟩:ByteArray).size=1:=rfl;refine Sq<|aN follows<|Cq (aS gP)<|Cq (bC isAgg9)<|Cq (aS gO)<|Cq (aS pC)<|Cq (bC isAgg3)<|Cq (by exact aA rfl rfl DH rfl (J7 e.x _ (by omega) (by omega)))<|Cq (aS gO)<|Cq (aS pB)<|Cq (bC isAgg3)<|Cq (by exact aA rfl rfl DH rfl (J7 e.y _ (by omega) (by omega)))<|Cq (by exact aR (([⟨#[109,111,118,101]⟩,e.id,aV e.x,aV e.y]:List ByteArray).map encStr) rfl cB rfl rfl rfl rfl rfl (gX _))<|Cq (by exact aA rfl rfl xF rfl (CJ [⟨#[109,111,118,101]⟩,e.id,aV e.x,aV e.y] _ (by simp only[cF,aPW,List.length_nil];omega)))<|Cq (by exact cH rfl rfl rfl (by omega) rfl)<|Cq aL<|Cq aL<|bL<|Kr<|aB<|Ru ?_;rw[O3 hne hw,show fP e=0 from aPS hne];exact Qq
 have h2:e.op≠2:=aPR hc2;rw[aPS h2]at o6;refine Sr<|Dd cK<|Da ?_;refine Cn ?_ ?_<;>intro hc3
 ·have h3:e.op=3:=aPQ hc3;rw[aPT h3,aP3,aP1]at o6;have hks:=dM o6.1;have hq:=oY e.val;have hw0:(⟨#[116,97,103]⟩:ByteArray).size=3:=rfl;have hw:bs [⟨#[116,97,103]⟩,e.id,e.key,⟨(eD e.val.data.toList).toArray⟩]=gF e:=by
   rw[gF]
   (rw[aPS h2,aPT h3];rfl)
  have hne:e.op≠1:=by omega
  have hjs:(ofL (bU [32] (bs [⟨#[116,97,103]⟩,e.id,e.key,⟨(eD e.val.data.toList).toArray⟩]))).size<=70000:=by
   rw[dG];have:=eZ [⟨#[116,97,103]⟩,e.id,e.key,⟨(eD e.val.data.toList).toArray⟩];simp only[cF,aPW,List.length_nil]at this;omega
  have h10:(⟨#[10]⟩:ByteArray).size=1:=rfl;refine Sq<|aN follows<|Cq (aS gP)<|Cq (bC isAgg9)<|Cq (aS jR)<|Cq (bC isAgg9)<|Cq (aS kD)<|Cq (bC isAgg9)<|Cq (by exact aA rfl rfl aOa rfl (HB e.val _ (by omega)))<|Cq (by exact aR (([⟨#[116,97,103]⟩,e.id,e.key,⟨(eD e.val.data.toList).toArray⟩]:List ByteArray).map encStr) rfl cB rfl rfl rfl rfl rfl (gX _))<|Cq (by exact aA rfl rfl xF rfl (CJ [⟨#[116,97,103]⟩,e.id,e.key,⟨(eD e.val.data.toList).toArray⟩] _ (by simp only[cF,aPW,List.length_nil];omega)))<|Cq (by exact cH rfl rfl rfl (by omega) rfl)<|Cq aL<|Cq aL<|bL<|Kr<|aB<|Ru ?_;rw[O3 hne hw,show fP e=0 from aPS hne];exact Qq
 have h3:e.op≠3:=aPR hc3;rw[aPS h3]at o6;refine Sr<|Dd cK<|Da ?_;refine Cn ?_ ?_<;>intro hc4
 ·have h4:e.op=4:=aPQ hc4;rw[aPT h4,aP3,aP3,aP1,aP1,List.all_eq_true]at o6;obtain ⟨⟨r1,r2⟩,r3⟩:=o6;have hrs:cY e.refs<=24*e.refs.length:=nE (fun s hs=>dM (r3 s hs));have hw0:(⟨#[114,101,102,115]⟩:ByteArray).size=4:=rfl;have hwd:∀H,H.get 901=some ⟨1,1,9,NX (⟨#[114,101,102,115]⟩::e.id::e.refs)⟩->aI Tryz.prog 185 [.osl 901 1 0 (⟨#[114,101,102,115]⟩::e.id::e.refs).length] H (fun r H'=>r=sv (ofL (bU [32] (bs (⟨#[114,101,102,115]⟩::e.id::e.refs))))/\H'=H):=fun H hH=>aDM _ H 901 1 hH (by simp only[cF,aPW];omega);have hw:bs (⟨#[114,101,102,115]⟩::e.id::e.refs)=gF e:=by rw[gF,aPS h2,aPS h3,aPT h4];rfl
  have hjs:(ofL (bU [32] (bs (⟨#[114,101,102,115]⟩::e.id::e.refs)))).size<=70000:=by
   rw[dG];have:=eZ (⟨#[114,101,102,115]⟩::e.id::e.refs);simp only[cF,aPW]at this;omega
  have h10:(⟨#[10]⟩:ByteArray).size=1:=rfl;have hmr:(e.refs.map encStr).length=e.refs.length:=aPU _;have hrw:NX [⟨#[114,101,102,115]⟩,e.id]++(e.refs.map encStr).map (·.map .pv)=NX (⟨#[114,101,102,115]⟩::e.id::e.refs):=by rw[<-aJx];rfl
  refine Sr<|Dd (aS gP)<|Dd (bC isAgg9)<|Dd (by exact gB (id:=901) rfl cB rfl rfl rfl rfl (by intro r hr;simp only[aP6,aPa,or_false]at hr;rcases hr with rfl|rfl<;>rfl) rfl)<|Dd (aS eV)<|Dd (bC aF)<|Dd (by exact dL (ps:=e.refs.map encStr) rfl cB EF rfl rfl rfl rfl rfl rfl rfl (gX e.refs) (m:=e.refs.length) hmr (by omega) (Nat.add_comm 2 _:2+e.refs.length=(⟨#[114,101,102,115]⟩::e.id::e.refs).length) hrw)<|Dd (by exact aA rfl rfl xF rfl (hwd _ rfl))<|Dd (by exact cH rfl rfl rfl (by omega) rfl)<|Dd aL<|Dd aL<|Zz<|aB<|Ru ?_;rw[O3 h1 hw,show fP e=0 from aPS h1];exact Qq
 have h4:e.op≠4:=aPR hc4;rw[aPS h4]at o6;refine Sr<|Dd cK<|Da ?_;refine Cn ?_ ?_<;>intro hc5
 ·have h5:e.op=5:=aPQ hc5;have hw0:(⟨#[100,114,111,112]⟩:ByteArray).size=4:=rfl;have hw:bs [⟨#[100,114,111,112]⟩,e.id]=gF e:=by
   rw[gF]
   (rw[aPS h2,aPS h3,aPS h4,aPT h5];rfl)
  have hne:e.op≠1:=by omega
  have hjs:(ofL (bU [32] (bs [⟨#[100,114,111,112]⟩,e.id]))).size<=70000:=by
   rw[dG];have:=eZ [⟨#[100,114,111,112]⟩,e.id];simp only[cF,aPW,List.length_nil]at this;omega
  have h10:(⟨#[10]⟩:ByteArray).size=1:=rfl;refine Sr<|Dd (aS gP)<|Dd (bC isAgg9)<|Dd (by exact aR (([⟨#[100,114,111,112]⟩,e.id]:List ByteArray).map encStr) rfl cB rfl rfl rfl rfl rfl (gX _))<|Dd (by exact aA rfl rfl xF rfl (CJ [⟨#[100,114,111,112]⟩,e.id] _ (by simp only[cF,aPW,List.length_nil];omega)))<|Dd (by exact cH rfl rfl rfl (by omega) rfl)<|Dd aL<|Dd aL<|Zz<|aB<|Ru ?_;rw[O3 hne hw,show fP e=0 from aPS hne];exact Qq
 have h5:e.op≠5:=aPR hc5;rw[aPS h5]at o6;refine Sr<|Dd cK<|Da ?_;refine Cn ?_ ?_<;>intro hc6
 ·have h6:e.op=6:=aPQ hc6;rw[aPT h6,aP3]at o6;have hns:=dM o6.1;have hos:=dM o6.2;have hw0:(⟨#[115,112,108,105,116]⟩:ByteArray).size=5:=rfl;have hw:bs [⟨#[115,112,108,105,116]⟩,e.id,e.node,e.other]=gF e:=by
   rw[gF]
   (rw[aPS h2,aPS h3,aPS h4,aPS h5,aPT h6];rfl)
  have hne:e.op≠1:=by omega
  have hjs:(ofL (bU [32] (bs [⟨#[115,112,108,105,116]⟩,e.id,e.node,e.other]))).size<=70000:=by
   rw[dG];have:=eZ [⟨#[115,112,108,105,116]⟩,e.id,e.node,e.other];simp only[cF,aPW,List.length_nil]at this;omega
  have h10:(⟨#[10]⟩:ByteArray).size=1:=rfl;refine Sr<|Dd (aS gP)<|Dd (bC isAgg9)<|Dd (aS lU)<|Dd (bC isAgg9)<|Dd (aS gV)<|Dd (bC isAgg9)<|Dd (by exact aR (([⟨#[115,112,108,105,116]⟩,e.id,e.node,e.other]:List ByteArray).map encStr) rfl cB rfl rfl rfl rfl rfl (gX _))<|Dd (by exact aA rfl rfl xF rfl (CJ [⟨#[115,112,108,105,116]⟩,e.id,e.node,e.other] _ (by simp only[cF,aPW,List.length_nil];omega)))<|Dd (by exact cH rfl rfl rfl (by omega) rfl)<|Dd aL<|Dd aL<|Zz<|aB<|Ru ?_;rw[O3 hne hw,show fP e=0 from aPS hne];exact Qq
 have h6:e.op≠6:=aPR hc6;rw[aPS h6]at o6;have hos:=dM o6;have hw0:(⟨#[106,111,105,110]⟩:ByteArray).size=4:=rfl;have hw:bs [⟨#[106,111,105,110]⟩,e.id,e.other]=gF e:=by
  rw[gF]
  (rw[aPS h2,aPS h3,aPS h4,aPS h5,aPS h6];rfl)
 have hne:e.op≠1:=by omega
 have hjs:(ofL (bU [32] (bs [⟨#[106,111,105,110]⟩,e.id,e.other]))).size<=70000:=by
  rw[dG];have:=eZ [⟨#[106,111,105,110]⟩,e.id,e.other];simp only[cF,aPW,List.length_nil]at this;omega
 have h10:(⟨#[10]⟩:ByteArray).size=1:=rfl;refine aC<|Sr<|Dd (aS gP)<|Dd (bC isAgg9)<|Dd (aS gV)<|Dd (bC isAgg9)<|Dd (by exact aR (([⟨#[106,111,105,110]⟩,e.id,e.other]:List ByteArray).map encStr) rfl cB rfl rfl rfl rfl rfl (gX _))<|Dd (by exact aA rfl rfl xF rfl (CJ [⟨#[106,111,105,110]⟩,e.id,e.other] _ (by simp only[cF,aPW,List.length_nil];omega)))<|Dd (by exact cH rfl rfl rfl (by omega) rfl)<|Dd aL<|Dd aL<|Zz<|aB<|Ru ?_;rw[O3 hne hw,show fP e=0 from aPS hne];exact Qq
theorem UX(l:List GEdit)(H:aH)(hl:l.length<1099511627776)(he:∀e∈l,MB e)(hr:∀e∈l,e.refs.length<1099511627776):aI Tryz.prog 112 [.pv (iF l)] H (fun r H'=>r=.tup [sv (eW l).1,iv (eW l).2]/\H'=H):=by
 refine Pu ?_;have hml:(l.map aW).length=l.length:=aPU _;refine Bd func112 rfl ntmps112<|Sr<|Dd aL<|Dd aL<|Zz<|Sq<|Sr<|Dd aE<|Dd (by exact aA rfl rfl call148 rfl (aBo l _ hl he hr))<|Dd iQ<|Zz ?_;refine Cn ?_ ?_<;>intro hc1
 ·have hg:kB l=false:=by have h:=hc1;rwa [aPd]at h
  rw[show eW l=(sNil,1)by rw[eW,hg];rfl];exact Sr<|Dd aL<|Dd aL<|Zz<|aB<|Ru<|Qq
 have hg:kB l=true:=by have h:=hc1;rwa [Bool.not_eq_false']at h
 have hv:=(WA hg).2.2;have hT:eW l=(ofL (pI [] l).1,(pI [] l).2):=by rw[eW,hg];rfl
 refine aC<|Sr<|Dd aL<|Zz<|Sq<|Sr<|Dd aL<|Zz<|aG ?_;refine bT (σ:=Nat) (fun k=>([(0,.pv (iF l)),(4,sv (ofL (nV l k))),(5,iv (k:Int))],[])) (fun k=>k<=l.length/\pI [] l=pI (nV l k) (l.drop k)/\(nV l k).length<=20000) (fun k=>l.length - k) 0 ⟨aPb _,rfl,aPb _⟩ ?_ ?_
 ·exact Wk
 rintro k ⟨hk,hF,hA⟩;refine Sq<|Sr<|Dd aE<|Dd aE<|Dd (fE cX)<|Dd cZ<|Zz ?_;refine Cn ?_ ?_<;>intro hc2
 ·have hlt:k<l.length:=by have:=aPQ hc2;omega
  obtain ⟨e,hke⟩:=aU hlt;have hi:=cJ (f:=aW) hke;have hem:=aP4 hke;have hnx:=RD hke;have hYl:=QC (hv e hem);have hdr:l.drop k=e::l.drop (k+1):=by
   rw[List.drop_eq_getElem_cons hlt];rw[aPZ hlt]at hke;cases hke;rfl
  rw[hdr,pI]at hF;have hsA:(ofL (nV l k)).size=(nV l k).length:=dG _;have hsz:(ofL (fC e++[10])).size=(fC e).length+1:=by rw[dG,aPV];rfl
  have hjo:ofL (nV l k)++ofL (fC e++[10])=ofL (nV l (k+1)):=eqL (by
   rw[show (ofL (nV l k)++ofL (fC e++[10])).data.toList=(ofL (nV l k)).data.toList++(ofL (fC e++[10])).data.toList by simp,dC,dC,dC,hnx])
  have hsB:(ofL (nV l (k+1))).size=(nV l (k+1)).length:=dG _;refine aC<|Sq<|aG<|Sr<|Dd aE<|Dd aE<|Dd (mE RU)<|Dd (by exact dN rfl cA aX rfl (by omega) (by simp only[Zl,bJ,bS,encStr,aW,jH];rfl) rfl)<|Dd (by exact aA rfl rfl call149 rfl (aHS e _ (he e hem) (hv e hem)))<|Dd aE<|Dd fS<|Dd fS<|Dd aL<|Dd aL<|Zz<|Sr<|Dd aE<|Dd aE<|Dd (by exact cH rfl rfl rfl (by omega) hjo)<|Dd aL<|Zz<|Sq ?_;refine aT (t:=34) (n:=8) (X:=!decide (fP e=0)||decide ((20000:Int)<((ofL (nV l (k+1))).size:Int))) ?_ ?_
  ·all_goals refine Dd aE ?_
   all_goals refine Dd iQ<|Dm ?_
   all_goals refine Sp 30 (fun h30=>?_) fun h30=>?_
   all_goals try contradiction
   all_goals first|refine Fo<|Fo<|Fo ?_|refine On aE<|On (jV underlying9)<|On iE ?_
   all_goals refine Dd cG<|Zz ?_
   all_goals(exact⟨⟨_,rfl,by(simp only[*,Zo];done)⟩,rfl,rfl,rfl⟩)
  refine Cn ?_ ?_<;>intro hc3
  ·have hbad:fP e≠0\/20000<(nV l k++(fC e++[10])).length:=by have h:=hc3;rw[<-hnx];simp only[Bool.or_eq_true,aPd,aP2,aP1]at h;omega
   rw[aPT hbad]at hF;rw[hT,hF];exact Sr<|Dd aL<|Dd aL<|Zz<|aB<|Ru<|Qq
  have hfine:¬ (fP e≠0\/20000<(nV l k++(fC e++[10])).length):=by have h:=hc3;rw[<-hnx];simp only[aPg,Bool.not_eq_false',aP2,aP1]at h;omega
  rw[aPS hfine,<-hnx]at hF;rw[<-hnx]at hfine;refine aC<|Rg<|Dd aE<|Dd mI<|Da ?_;exact⟨k+1,⟨hlt,hF,by omega⟩,by omega,Wk⟩
 have hge:k=l.length:=by have:=aPR hc2;omega
 subst hge;rw[List.drop_length,pI]at hF;rw[hT,hF];exact aY<|Sr<|Dd aE<|Dd aL<|Dd aL<|Zz<|aB<|Ru<|Qq
end Go.Proofs.YtmdicgjnmfolfaaGreatDoor
namespace Go.Proofs.YtmdicgjnmfolfaaGreatDoor
open Go.Proofs.Tryz
open Go.Abs
variable{l:List ByteArray}{p:GPriv}{r:GRec}
def qA:List ByteArray->Bool
 |a::b::r=>vN a b&&qA (b::r)
 |_=>true
theorem WU:∀(l:List ByteArray),(iC l).length<=l.length
 | []=>aP0 _
 | [x]=>aP0 _
 |x::y::r=>by
  have ih:=WU (y::r);show (if x=y then iC (y::r)else x::iC (y::r)).length<=_
  split
  ·exact Nat.le_succ_of_le ih
  exact Nat.succ_le_succ ih
theorem MS:∀(l:List ByteArray),aFA l=qA l
 | []=>rfl
 | [x]=>rfl
 | x::y::r=>by
  have ih:=MS (y::r);have hl:=WU (y::r);rw[aFA,aPU]at ih |-;show ((!vN y x&&lL (y::r))&&decide (((if x=y then iC (y::r)else x::iC (y::r)).length:Int)=_))=(vN x y&&qA (y::r));by_cases e:x=y
  ·rw[aPT e,e,J4,Bool.false_and,decide_eq_false (by have h9:(y::y::r).length=(y::r).length+1:=rfl;omega),Bool.and_false]
  rw[aPS e,<-ih,Bool.and_assoc];have h1:(!vN y x)=vN x y:=by
   cases h2:vN x y
   ·cases h3:vN y x
    ·exact absurd (J3 h2 h3) e
    rfl
   cases h3:vN y x
   ·rfl
   have:=G6 h2 h3;rw[J4]at this;cases this
  rw[h1];congr 2;have:(((x::iC (y::r)).length:Int)=((x::y::r).length:Int))↔(((iC (y::r)).length:Int)=((y::r).length:Int)):=by
   have h8:(x::iC (y::r)).length=(iC (y::r)).length+1:=rfl;have h9:(x::y::r).length=(y::r).length+1:=rfl;omega
  congr 1;exact propext this
theorem aBZ{k:Nat}{a b:ByteArray}(ha:l[k]?=some a)(hb:l[k+1]?=some b):qA (l.drop k)=(vN a b&&qA (l.drop (k+1))):=by obtain ⟨h1,e1⟩:=aPY.1 ha;obtain ⟨h2,e2⟩:=aPY.1 hb;rw[List.drop_eq_getElem_cons h1,List.drop_eq_getElem_cons h2,e1,e2];rfl
theorem RR(h:l.length<=1):qA l=true:=by
 match l,h with
 | [],_=>rfl
 | [a],_=>rfl
def pvB(p:GPriv):Bool:=(((decide (200<(p.name.size:Int))||decide (200<(p.reason.size:Int)))||decide (16<((p.sources.map encStr).length:Int)))||decide (200<((p.trace.map fM).length:Int)))||!gN p.sl
def SM(q:Int×Int):Bool:=S4 q.1 q.2
def oS(s:ByteArray):Bool:=!BW s
def vZ(p:GPriv):Bool:=!pvB p&&(p.sources.all oS&&p.trace.all SM)
theorem aEH(h:pvB p=true):vZ p=false:=by rw[vZ,h];rfl
theorem aEG(h:p.sources.all oS=false):vZ p=false:=by rw[vZ,h,Bool.false_and,Bool.and_false]
theorem aEF(h:p.trace.all SM=false):vZ p=false:=by rw[vZ,h,Bool.and_false,Bool.and_false]
theorem aEE(h1:pvB p=false)(h2:p.sources.all oS=true)(h3:p.trace.all SM=true):vZ p=true:=by rw[vZ,h1,h2,h3];rfl
theorem U3(p:GPriv)(H:aH)(hp:SN p):aI Tryz.prog 78 [av (jS p)] H (fun r H'=>r=bv (vZ p)/\H'=H):=by
 refine aI.pure ?_ (by simp[jS]) H;have hf:=fun H=>M5 p.sl H hp.2.2.2.2;obtain ⟨q1,q2,⟨q3,q3'⟩,q4,_⟩:=hp;have hms:(p.sources.map encStr).length=p.sources.length:=aPU _;have hmt:(p.trace.map fM).length=p.trace.length:=aPU _;have hn1:=fun h=>aEH (p:=p) h;have hn2:=fun h=>aEG (p:=p) h;have hn3:=fun h=>aEF (p:=p) h;have hye:=fun h1 h2 h3=>aEE (p:=p) h1 h2 h3;obtain ⟨f,hff⟩:∃f,f=gN p.sl:=⟨_,rfl⟩;have hX:pvB p=((((decide (200<(p.name.size:Int))||decide (200<(p.reason.size:Int)))||decide (16<((p.sources.map encStr).length:Int)))||decide (200<((p.trace.map fM).length:Int)))||!f):=by rw[pvB,<-hff]
 rw[<-hff]at hf;refine Bd func78 rfl ntmps78<|Sr<|Dd (by exact cD (id:=1) rfl rfl rfl rfl rfl)<|Dd aL<|Zz<|Sq<|Sq ?_;refine aT (t:=32) (n:=32) (X:=pvB p) ?_ ?_
 ·all_goals refine Dd (aS wV) ?_
  all_goals refine Dd (bC isAgg9)<|Dd (jV underlying9)<|Dd iE<|Dm ?_
  all_goals refine Sp 9 (fun h9=>?_) fun h9=>?_
  all_goals try contradiction
  all_goals first|refine Fo<|Fo<|Fo<|Fo ?_|refine On (aS wU)<|On (bC isAgg9)<|On (jV underlying9)<|On iE ?_
  all_goals refine Dd cG<|Dm ?_
  all_goals refine Sp 15 (fun h15=>?_) fun h15=>?_
  all_goals try contradiction
  all_goals first|refine Fo<|Fo<|Fo<|Fo ?_|refine On (aS qQ)<|On (bC aF)<|On (fE aD)<|On iE ?_
  all_goals refine Dd cG<|Dm ?_
  all_goals refine Sp 21 (fun h21=>?_) fun h21=>?_
  all_goals try contradiction
  all_goals first|refine Fo<|Fo<|Fo<|Fo ?_|refine On (aS lS)<|On (bC eT)<|On (fE dI)<|On iE ?_
  all_goals refine Dd cG<|Dm ?_
  all_goals refine Sp 27 (fun h27=>?_) fun h27=>?_
  all_goals try contradiction
  all_goals first|refine Fo<|Fo<|Fo<|Fo ?_|refine On (aS lR)<|On (pU eC sizeOf25)<|On (by exact aA rfl rfl call77 rfl (hf _))<|On iQ ?_
  all_goals refine Dd cG<|Zz ?_
  all_goals(exact⟨⟨_,rfl,by first|(rw[hX,h9];rfl)|(rw[hX,h9,h15];rfl)|(rw[hX,h9,h15,h21];rfl)|(rw[hX,h9,h15,h21,h27];rfl)⟩,rfl,rfl,rfl⟩)
 refine Cn ?_ ?_<;>intro hc1
 ·have hb:=hc1;rw[hn1 hb];exact Sr<|Dd aL<|Zz<|aB<|Rt<|Qq
 have hb:=hc1;refine aC<|Sq<|Sr<|Dd aL<|Zz<|aG ?_;refine bT (σ:=Nat) (fun k=>([(1,.ref 1 0 0 0),(3,iv (k:Int))],[(1,bx 7 28 ((jS p).map .pv))])) (fun k=>k<=p.sources.length/\∀j,j<k->∀b,p.sources[j]?=some b->oS b=true) (fun k=>p.sources.length - k) 0 ⟨by omega,by omega⟩ ?_ ?_
 ·exact E0
 rintro k ⟨hk,hno⟩;refine Sq<|Sr<|Dd aE<|Dd (aS qQ)<|Dd (bC aF)<|Dd (fE aD)<|Dd cZ<|Zz ?_;refine Cn ?_ ?_<;>intro hc2
 ·have hlt:k<p.sources.length:=by have:=aPQ hc2;omega
  obtain ⟨s,hs⟩:=aU hlt;have hi:=cJ (f:=encStr) hs;have hsz:=q3' s (aP4 hs);have hnot:=fun h=>AM (p:=oS) hs h;refine aC<|Sq<|aG<|Sr<|Dd (aS qQ)<|Dd (bC aF)<|Dd aE<|Dd (by exact bP rfl cB rfl rfl (by omega) (by exact aP5 _) hi rfl)<|Dd (iJ isAgg9 (hi:=hi))<|Dd (jV underlying9)<|Dd iE<|Zz ?_;refine Cn ?_ ?_<;>intro hc3
  ·have hb2:oS s=false:=by rw[oS,BW,hc3];rfl
   rw[hn2 (hnot hb2)];exact Sr<|Dd aL<|Zz<|aB<|Rt<|Qq
  have hb2:oS s=true:=by rw[oS,BW,hc3];rfl
  refine aC<|Rg<|Dd aE<|Dd (by exact bZ rfl rfl rfl (show IntKind.i64.wrap ((k:Int)+1)=((k+1:Nat):Int)by rw[kK (by omega) (by omega)];omega))<|Da ?_;exact⟨k+1,⟨by omega,rB hno hs hb2⟩,by omega,E0⟩
 have hge:k=p.sources.length:=by have:=aPR hc2;omega
 subst hge;have hso:=vK hno;refine aY<|Sq<|Sr<|Dd aL<|Zz<|aG ?_;refine bT (σ:=Nat) (fun k=>([(1,.ref 1 0 0 0),(4,iv (k:Int))],[(1,bx 7 28 ((jS p).map .pv))])) (fun k=>k<=p.trace.length/\∀j,j<k->∀b,p.trace[j]?=some b->SM b=true) (fun k=>p.trace.length - k) 0 ⟨by omega,by omega⟩ ?_ ?_
 ·exact E0
 clear hno hk;rintro k ⟨hk,hno⟩;refine Sq<|Sr<|Dd aE<|Dd (aS lS)<|Dd (bC eT)<|Dd (fE dI)<|Dd cZ<|Zz ?_;refine Cn ?_ ?_<;>intro hc4
 ·have hlt:k<p.trace.length:=by have:=aPQ hc4;omega
  obtain ⟨q,hs⟩:=aU hlt;have hi:=cJ (f:=fM) hs;have hon:=fun H=>aDt q.1 q.2 H;have hnot:=fun h=>AM (p:=SM) hs h;refine aC<|Sq<|aG<|Sr<|Dd (aS lS)<|Dd (bC eT)<|Dd aE<|Dd (by exact bP rfl LG rfl rfl (by omega) (by exact aP5 _) hi rfl)<|Dd (by exact dN rfl dS sizeOf68 rfl hi (by simp only[Zl,encStr];rfl) rfl)<|Dd (by exact aA rfl rfl aOd rfl (hon _))<|Dd iQ<|Zz ?_;refine Cn ?_ ?_<;>intro hc5
  ·have hb2:=not_not hc5;rw[hn3 (hnot hb2)];exact Sr<|Dd aL<|Zz<|aB<|Rt<|Qq
  have hb2:=qJ hc5;refine aC<|Rg<|Dd aE<|Dd (by exact bZ rfl rfl rfl (show IntKind.i64.wrap ((k:Int)+1)=((k+1:Nat):Int)by rw[kK (by omega) (by omega)];omega))<|Da ?_;exact⟨k+1,⟨by omega,rB hno hs hb2⟩,by omega,E0⟩
 have hge:k=p.trace.length:=by have:=aPR hc4;omega
 subst hge;rw[hye hb hso (vK hno)];exact aY<|Sr<|Dd aL<|Zz<|aB<|Rt<|Qq
def o0G(r:GRec):Bool:=decide (r.kind=1)||(decide (r.kind=3)&&decide (r.order=3))
def o1G(r:GRec):Bool:=!o0G r&&decide (0<((r.edits.map aW).length:Int))
def o2G(r:GRec):Bool:=o0G r&&!decide ((eW r.edits).2=0)
def o3a(r:GRec):Bool:=decide (r.kind=2)||decide (r.kind=3)
def o3G(r:GRec):Bool:=if o3a r=true then !isJ r.target else !decide (r.target=sNil)
def o4G(r:GRec):Bool:=(decide (r.kind=3)&&(decide (r.order<1)||decide (4<r.order)))||(!decide (r.kind=3)&&!decide (r.order=0))
def o5G(r:GRec):Bool:=(decide (r.kind=4)&&(!bM r.from'||decide (r.from'=r.branch)))||(!decide (r.kind=4)&&!decide (r.from'=sNil))
def o6G(r:GRec):Bool:=decide (r.kind=2)||!r.yes
def A4(r:GRec):Bool:=!o1G r&&(!o2G r&&(!o3G r&&(!o4G r&&(!o5G r&&o6G r))))
theorem aHc(h:o1G r=true):A4 r=false:=by rw[A4,h];rfl
theorem aHb(h:o2G r=true):A4 r=false:=by rw[A4,h];cases o1G r<;>rfl
theorem aHa(h:o3G r=true):A4 r=false:=by rw[A4,h];cases o1G r<;>cases o2G r<;>rfl
theorem aH9(h:o4G r=true):A4 r=false:=by rw[A4,h];cases o1G r<;>cases o2G r<;>cases o3G r<;>rfl
theorem aH8(h:o5G r=true):A4 r=false:=by rw[A4,h];cases o1G r<;>cases o2G r<;>cases o3G r<;>cases o4G r<;>rfl
theorem aH7(h1:o1G r=false)(h2:o2G r=false)(h3:o3G r=false)(h4:o4G r=false)(h5:o5G r=false):A4 r=o6G r:=by rw[A4,h1,h2,h3,h4,h5];rfl
theorem aHd(r:GRec)(H:aH)(hr:iA r)(hrf:∀e∈r.edits,e.refs.length<1099511627776):aI Tryz.prog 76 [av (cC r)] H (fun x H'=>x=bv (A4 r)/\H'=H):=by
 refine aI.pure ?_ (by simp[cC]) H;obtain ⟨_,⟨b1,b2,b3⟩,_,⟨e1,e2⟩,_⟩:=hr;have htx:=fun H=>UX r.edits H e1 e2 hrf;have his:=fun H=>aJL r.target (by omega) H;have hnm:=fun H=>jP r.from' H (by omega)
 have hn1:=fun h=>aHc (r:=r) h;have hn2:=fun h=>aHb (r:=r) h;have hn3:=fun h=>aHa (r:=r) h;have hn4:=fun h=>aH9 (r:=r) h;have hn5:=fun h=>aH8 (r:=r) h;have hye:=fun h1 h2 h3 h4 h5=>aH7 (r:=r) h1 h2 h3 h4 h5;have hX0:o0G r=(decide (r.kind=1)||(decide (r.kind=3)&&decide (r.order=3))):=rfl;have hX1:o1G r=(!o0G r&&decide (0<((r.edits.map aW).length:Int))):=rfl;have hX2:o2G r=(o0G r&&!decide ((eW r.edits).2=0)):=rfl;have hX3a:o3a r=(decide (r.kind=2)||decide (r.kind=3)):=rfl;have hX3:o3G r=if o3a r=true then !isJ r.target else !decide (r.target=sNil):=rfl
 have hX4:o4G r=((decide (r.kind=3)&&(decide (r.order<1)||decide (4<r.order)))||(!decide (r.kind=3)&&!decide (r.order=0))):=rfl;obtain ⟨nm,hnn⟩:∃nm,nm=bM r.from':=⟨_,rfl⟩
 have hX5:o5G r=((decide (r.kind=4)&&(!nm||decide (r.from'=r.branch)))||(!decide (r.kind=4)&&!decide (r.from'=sNil))):=by rw[o5G,<-hnn]
 rw[<-hnn]at hnm;have hX6:o6G r=(decide (r.kind=2)||!r.yes):=rfl;obtain ⟨te,hte⟩:∃te,te=eW r.edits:=⟨_,rfl⟩;rw[<-hte]at htx hX2;obtain ⟨ij,hij⟩:∃ij,ij=isJ r.target:=⟨_,rfl⟩;rw[<-hij]at his hX3;clear hnn hte hij;obtain ⟨o0,h0⟩:∃o,o=o0G r:=⟨_,rfl⟩;obtain ⟨o1,h1⟩:∃o,o=o1G r:=⟨_,rfl⟩;obtain ⟨o2,h2⟩:∃o,o=o2G r:=⟨_,rfl⟩;obtain ⟨oa,ha⟩:∃o,o=o3a r:=⟨_,rfl⟩;obtain ⟨o3,h3⟩:∃o,o=o3G r:=⟨_,rfl⟩;obtain ⟨o4,h4⟩:∃o,o=o4G r:=⟨_,rfl⟩;obtain ⟨o5,h5⟩:∃o,o=o5G r:=⟨_,rfl⟩;obtain ⟨o6,h6⟩:∃o,o=o6G r:=⟨_,rfl⟩;rw[<-h0]at hX0 hX1 hX2;rw[<-h1]at hX1 hn1 hye;rw[<-h2]at hX2 hn2 hye;rw[<-ha]at hX3a hX3;rw[<-h3]at hX3 hn3 hye;rw[<-h4]at hX4 hn4 hye;rw[<-h5]at hX5 hn5 hye;rw[<-h6]at hX6 hye;clear h0 h1 h2 ha h3 h4 h5 h6;obtain ⟨ow,how⟩:∃o,o=A4 r:=⟨_,rfl⟩;rw[<-how]at hn1 hn2 hn3 hn4 hn5 hye |-;clear how;refine Bd func76 rfl ntmps76<|Sr<|Dd (by exact cD (id:=1) rfl rfl rfl rfl rfl)<|Dd aL<|Zz<|Sq ?_;refine aT (t:=3) (n:=16) (X:=o0) ?_ ?_
 ·all_goals refine Dd (aS lQ) ?_
  all_goals refine Dd (bC isAgg3)<|Dd cK<|Dm ?_
  all_goals refine Sp 9 (fun h9=>?_) fun h9=>?_
  all_goals try contradiction
  all_goals first|refine Fo<|Fo<|Fo<|Fo ?_|refine On (aS lQ)<|On (bC isAgg3)<|On cK<|On aE ?_
  all_goals(first|refine Sp 13 (fun h13=>?_) fun h13=>?_|refine jX (t:=13) rfl ?_)
  all_goals try contradiction
  all_goals first|refine Fo ?_|refine Fu ?_|refine On (aS sO) ?_
  all_goals first|refine Fo ?_|refine Fu ?_|refine On (bC isAgg3) ?_
  all_goals first|refine Fo ?_|refine Fu ?_|refine On cK ?_
  all_goals first|refine Fo ?_|refine On cG ?_
  all_goals refine Dd cG<|Da ?_
  all_goals(exact⟨⟨_,rfl,by first|(rw[hX0,h9];rfl)|(rw[hX0,h9,h13];rfl)⟩,rfl,rfl,rfl⟩)
 refine Sq<|Sq ?_;refine aT (t:=26) (n:=9) (X:=o1) ?_ ?_
 ·all_goals refine Dd aE ?_
  all_goals refine Dd iQ<|Dm ?_
  all_goals refine Sp 21 (fun h21=>?_) fun h21=>?_
  all_goals try contradiction
  all_goals first|refine Fo<|Fo<|Fo<|Fo ?_|refine On (aS uV)<|On (bC iI)<|On (fE cX)<|On iE ?_
  all_goals refine Dd cG<|Zz ?_
  all_goals(exact⟨⟨_,rfl,by(rw[hX1,h21];rfl)⟩,rfl,rfl,rfl⟩)
 refine Cn ?_ ?_<;>intro hc1
 ·rw[hn1 hc1];exact Sr<|Dd aL<|Zz<|aB<|Rt<|Qq
 have k1:=hc1;refine aC ?_;refine fJ (fun(_:Unit)=>([(1,.ref 1 0 0 0)],[(1,bx 21 30 ((cC r).map .pv))])) (fun _=>o2=false) ?_ ?_
 ·refine Sr<|Dd aE<|Zz ?_;refine Cn ?_ ?_<;>intro hc2
  ·refine Sr<|Dd (aS uV)<|Dd (bC iI)<|Dd (by exact aA rfl rfl call112 rfl (htx _))<|Dd aE<|Dd fS<|Dd fS<|Dd aL<|Dd aL<|Zz<|Sr<|Dd aE<|Dd xY<|Zz ?_;refine Cn ?_ ?_<;>intro hc3
   ·have k2:o2=true:=by rw[hX2];simp_all
    rw[hn2 k2];exact Sr<|Dd aL<|Zz<|aB<|Rt<|Qq
   have k2:o2=false:=by rw[hX2];simp_all
   refine aC ?_;exact⟨(),k2,E0⟩
  have k2:o2=false:=by rw[hX2,hc2];rfl
  refine aC ?_;exact⟨(),k2,E0⟩
 rintro _ k2;refine fJ (fun(_:Unit)=>([(1,.ref 1 0 0 0)],[(1,bx 21 30 ((cC r).map .pv))])) (fun _=>o3=false) ?_ ?_
 ·refine Sq ?_;refine aT (t:=43) (n:=9) (X:=oa) ?_ ?_
  ·all_goals refine Dd (aS lQ) ?_
   all_goals refine Dd (bC isAgg3)<|Dd cK<|Dm ?_
   all_goals refine Sp 39 (fun h39=>?_) fun h39=>?_
   all_goals try contradiction
   all_goals first|refine Fo<|Fo<|Fo ?_|refine On (aS lQ)<|On (bC isAgg3)<|On cK ?_
   all_goals refine Dd cG<|Zz ?_
   all_goals(exact⟨⟨_,rfl,by(rw[hX3a,h39];rfl)⟩,rfl,rfl,rfl⟩)
  refine Cn ?_ ?_<;>intro hc4
  ·have ka:=hc4;rw[ka]at hX3;refine Sr<|Dd (aS uU)<|Dd (bC isAgg9)<|Dd (by exact aA rfl rfl call128 rfl (his _))<|Dd iQ<|Zz ?_;refine Cn ?_ ?_<;>intro hc5
   ·have k3:o3=true:=by rw[hX3,hc5];rfl
    rw[hn3 k3];exact Sr<|Dd aL<|Zz<|aB<|Rt<|Qq
   have k3:o3=false:=by rw[hX3,hc5];rfl
   refine aC ?_;exact⟨(),k3,E0⟩
  have ka:=hc4;rw[ka]at hX3;refine Sr<|Dd (aS uU)<|Dd (bC isAgg9)<|Dd IU<|Zz ?_;refine Cn ?_ ?_<;>intro hc6
  ·have k3:o3=true:=by rw[hX3,hc6];rfl
   rw[hn3 k3];exact Sr<|Dd aL<|Zz<|aB<|Rt<|Qq
  have k3:o3=false:=by rw[hX3,hc6];rfl
  refine aC ?_;exact⟨(),k3,E0⟩
 rintro _ k3;refine Sq<|Sq ?_;refine aT (t:=73) (n:=27) (X:=o4) ?_ ?_
 ·all_goals refine Dd (aS lQ) ?_
  all_goals refine Dd (bC isAgg3)<|Dd cK<|Dm ?_
  all_goals refine Sp 54 (fun h54=>?_) fun h54=>?_
  all_goals try contradiction
  all_goals first|refine Fo<|Fo<|Fo<|Fo ?_|refine On (aS sO)<|On (bC isAgg3)<|On cZ<|On aE ?_
  all_goals(first|refine Sp 58 (fun h58=>?_) fun h58=>?_|refine jX (t:=58) rfl ?_)
  all_goals try contradiction
  all_goals first|refine Fo ?_|refine Fu ?_|refine On (aS sO) ?_
  all_goals first|refine Fo ?_|refine Fu ?_|refine On (bC isAgg3) ?_
  all_goals first|refine Fo ?_|refine Fu ?_|refine On iE ?_
  all_goals first|refine Fo ?_|refine On cG ?_
  all_goals refine Dd cG<|Dm ?_
  all_goals refine Sp 64 (fun h64=>?_) fun h64=>?_
  all_goals try contradiction
  all_goals first|refine Fo<|Fo<|Fo<|Fo ?_|refine On (aS lQ)<|On (bC isAgg3)<|On xY<|On aE ?_
  all_goals(first|refine Sp 68 (fun h68=>?_) fun h68=>?_|refine jX (t:=68) rfl ?_)
  all_goals try contradiction
  all_goals first|refine Fo ?_|refine Fu ?_|refine On (aS sO) ?_
  all_goals first|refine Fo ?_|refine Fu ?_|refine On (bC isAgg3) ?_
  all_goals first|refine Fo ?_|refine Fu ?_|refine On xY ?_
  all_goals first|refine Fo ?_|refine On cG ?_
  all_goals refine Dd cG<|Zz ?_
  all_goals(exact⟨⟨_,rfl,by first|(rw[hX4,h54,h58];rfl)|(rw[hX4,h54,h58,h64];rfl)|(rw[hX4,h54]at *;simp_all;done)⟩,rfl,rfl,rfl⟩)
 refine Cn ?_ ?_<;>intro hc7
 ·rw[hn4 hc7];exact Sr<|Dd aL<|Zz<|aB<|Rt<|Qq
 have k4:=hc7;refine aC<|Sq<|Sq ?_;refine aT (t:=99) (n:=30) (X:=o5) ?_ ?_
 ·all_goals refine Dd (aS lQ) ?_
  all_goals refine Dd (bC isAgg3)<|Dd cK<|Dm ?_
  all_goals refine Sp 77 (fun h77=>?_) fun h77=>?_
  all_goals try contradiction
  all_goals first|refine Fo<|Fo<|Fo<|Fo<|Fo ?_|refine On (aS qO)<|On (bC isAgg9)<|On (by exact aA rfl rfl fR rfl (hnm _))<|On iQ<|On aE ?_
  all_goals(first|refine Sp 82 (fun h82=>?_) fun h82=>?_|refine jX (t:=82) rfl ?_)
  all_goals try contradiction
  all_goals first|refine Fo ?_|refine Fu ?_|refine On (aS qO) ?_
  all_goals first|refine Fo ?_|refine Fu ?_|refine On (bC isAgg9) ?_
  all_goals first|refine Fo ?_|refine Fu ?_|refine On (aS uW) ?_
  all_goals first|refine Fo ?_|refine Fu ?_|refine On (bC isAgg9) ?_
  all_goals first|refine Fo ?_|refine Fu ?_|refine On zE ?_
  all_goals first|refine Fo ?_|refine On cG ?_
  all_goals refine Dd cG<|Dm ?_
  all_goals refine Sp 90 (fun h90=>?_) fun h90=>?_
  all_goals try contradiction
  all_goals first|refine Fo<|Fo<|Fo<|Fo ?_|refine On (aS lQ)<|On (bC isAgg3)<|On xY<|On aE ?_
  all_goals(first|refine Sp 94 (fun h94=>?_) fun h94=>?_|refine jX (t:=94) rfl ?_)
  all_goals try contradiction
  all_goals first|refine Fo ?_|refine Fu ?_|refine On (aS qO) ?_
  all_goals first|refine Fo ?_|refine Fu ?_|refine On (bC isAgg9) ?_
  all_goals first|refine Fo ?_|refine Fu ?_|refine On IU ?_
  all_goals first|refine Fo ?_|refine On cG ?_
  all_goals refine Dd cG<|Zz ?_
  all_goals(exact⟨⟨_,rfl,by first|(rw[hX5,h77,h82];rfl)|(rw[hX5,h77,h82,h90];rfl)|(clear hn1 hn2 hn3 hn4 hn5 hye;simp_all;done)⟩,rfl,rfl,rfl⟩)
 refine Cn ?_ ?_<;>intro hc8
 ·rw[hn5 hc8];exact Sr<|Dd aL<|Zz<|aB<|Rt<|Qq
 rw[hye k1 k2 k3 k4 hc8];refine aC<|Sq ?_;refine aT (t:=2) (n:=10) (X:=o6) ?_ ?_
 ·all_goals refine Dd (aS lQ) ?_
  all_goals refine Dd (bC isAgg3)<|Dd cK<|Dm ?_
  all_goals refine Sp 103 (fun h103=>?_) fun h103=>?_
  all_goals try contradiction
  all_goals first|refine Fo<|Fo<|Fo ?_|refine On (aS B3)<|On (bC oT)<|On iQ ?_
  all_goals refine Dd cG<|Da ?_
  all_goals(exact⟨⟨_,rfl,by(rw[hX6,h103];rfl)⟩,rfl,rfl,rfl⟩)
 exact aB<|Rt<|Qq
end Go.Proofs.YtmdicgjnmfolfaaGreatDoor
section
set_option format.width 2000
namespace Go.Proofs.YtmdicgjnmfolfaaGreatDoor
open Go.Proofs.Tryz
open Go.Abs
theorem aKb(q:Int×Int):MC q=!SM q:=by rw[Bool.eq_iff_iff];simp only[MC,SM,S4,Bool.or_eq_true,aPd,Bool.and_eq_false_iff,aP2];omega
theorem TJ{α:Type}{p q:α->Bool}(h:∀x,p x=!q x):∀(l:List α),l.any p=!l.all q
 | []=>rfl
 |x::l=>by rw[List.any_cons,List.all_cons,TJ h l,h x];cases q x<;>rfl
theorem aMC(r:GRec):XN r=!(vZ r.priv&&gN r.sl):=by rw[XN,vZ,pvB,TJ aKb,TJ (q:=oS) (fun x=>by rw[oS,Bool.not_not]) r.priv.sources];show (((((!r.priv.trace.all SM||!(!(decide (200<(r.priv.name.size:Int))||(decide (200<(r.priv.reason.size:Int))||false))))||_)||_)||_)||_||_)=_;generalize r.priv.trace.all SM=a;generalize r.priv.sources.all oS=b;generalize decide (200<(r.priv.name.size:Int))=c;generalize decide (200<(r.priv.reason.size:Int))=d;generalize decide (16<((r.priv.sources.map encStr).length:Int))=e;generalize decide (200<((r.priv.trace.map fM).length:Int))=f;generalize gN r.priv.sl=g;generalize gN r.sl=i;revert a b c d e f g i;decide
def vAk(r:GRec):Bool:=decide (1<=r.kind)&&decide (r.kind<=5)
def vA(r:GRec):Bool:=(((((((((decide (r.kind<1)||decide (5<r.kind))||decide (r.author<0))||decide (59<r.author))||decide (r.number<1))||decide (128<r.number))||decide (r.clock<1))||decide (1000000<r.clock))||!bM r.branch)||decide (16<((r.parents.map encStr).length:Int)))||!r.parents.all isJ
theorem aMB(r:GRec):(!vA r&&qA r.parents)=(vAk r&&!KU r):=by
 have e1:decide (r.kind<1)=!decide (1<=r.kind):=by rw[<-decide_not];congr 1;exact propext ⟨fun h=>by omega,fun h=>by omega⟩
 have e2:decide (5<r.kind)=!decide (r.kind<=5):=by rw[<-decide_not];congr 1;exact propext ⟨fun h=>by omega,fun h=>by omega⟩
 have e3:decide (r.author<0)=!decide (0<=r.author):=by rw[<-decide_not];congr 1;exact propext ⟨fun h=>by omega,fun h=>by omega⟩
 have e4:decide (59<r.author)=!decide (r.author<=59):=by rw[<-decide_not];congr 1;exact propext ⟨fun h=>by omega,fun h=>by omega⟩
 have e5:decide (r.number<1)=!decide (1<=r.number):=by rw[<-decide_not];congr 1;exact propext ⟨fun h=>by omega,fun h=>by omega⟩
 have e6:decide (128<r.number)=!decide (r.number<=128):=by rw[<-decide_not];congr 1;exact propext ⟨fun h=>by omega,fun h=>by omega⟩
 have e7:decide (r.clock<1)=!decide (1<=r.clock):=by rw[<-decide_not];congr 1;exact propext ⟨fun h=>by omega,fun h=>by omega⟩
 have e8:decide (1000000<r.clock)=!decide (r.clock<=1000000):=by rw[<-decide_not];congr 1;exact propext ⟨fun h=>by omega,fun h=>by omega⟩
 rw[vA,vAk,KU,kN,kN,kN,MS,e1,e2,e3,e4,e5,e6,e7,e8];simp only[Bool.not_or,Bool.not_not,Bool.not_and,Bool.and_assoc]
theorem aBX:¬ (eW []).2=0:=by decide
theorem aK4{r:GRec}(hk:vAk r=true):A4 r=(((iK r.edits).2&&GR r)&&v5G r):=by
 rw[vAk,aP3,aP1,aP1]at hk;have hm:(r.edits.map aW).length=r.edits.length:=aPU _;have ht:(iK r.edits).2=(decide (r.edits.length=0)||decide ((eW r.edits).2=0)):=by
  rw[iK];by_cases h:r.edits.length=0
  ·rw[aPT h,decide_eq_true h];rfl
  rw[aPS h,decide_eq_false h];rfl
 have hp:decide (0<((r.edits.map aW).length:Int))=!decide (r.edits.length=0):=by
  rw[hm,<-decide_not];congr 1;exact propext ⟨fun h=>by omega,fun h=>by omega⟩
 have hg:r.edits.length=0->decide ((eW r.edits).2=0)=false:=fun h=>by
  rw[List.eq_nil_of_length_eq_zero h];exact decide_eq_false aBX
 rw[v5G,ht,A4,o1G,o2G,o3G,o4G,o5G,o6G,hp];obtain ⟨l,hl⟩:∃l,l=decide (r.edits.length=0):=⟨_,rfl⟩;obtain ⟨g,hgg⟩:∃g,g=decide ((eW r.edits).2=0):=⟨_,rfl⟩;have hlg:l=true->g=false:=fun h=>by rw[hgg];exact hg (aPQ (hl▸h))
 rw[<-hl,<-hgg];clear hl hgg hg hp ht hm;have hcase:r.kind=1\/r.kind=2\/r.kind=3\/r.kind=4\/r.kind=5:=by omega
 have ea:decide (r.target=sNil)=decide (r.target=sNil):=rfl;obtain ⟨y,hy⟩:∃y,y=r.yes:=⟨_,rfl⟩;have b1:decide (r.order<1)=!decide (1<=r.order):=by rw[<-decide_not];congr 1;exact propext ⟨fun h=>by omega,fun h=>by omega⟩
 have b2:decide (4<r.order)=!decide (r.order<=4):=by rw[<-decide_not];congr 1;exact propext ⟨fun h=>by omega,fun h=>by omega⟩
 rw[o0G,o3a,GR,T0,wYG,wOG,wFG,wEG,ndG,b1,b2,kN];clear b1 b2 hk;rcases hcase with h|h|h|h|h
 ·simp only[h];by_cases c1:r.target=sNil<;>by_cases c2:r.order=0<;>by_cases c3:r.from'=sNil<;>cases c4:r.yes<;>cases l<;>cases g<;>simp[c1,c2,c3,c4]at hlg |-
 ·simp only[h];by_cases c2:r.order=0<;>by_cases c3:r.from'=sNil<;>cases c4:isJ r.target<;>cases l<;>cases g<;>simp[c2,c3,c4]at hlg |-
 ·simp only[h];by_cases c2:r.order=3
  ·rw[c2];by_cases c3:r.from'=sNil<;>cases c4:isJ r.target<;>cases c5:r.yes<;>cases l<;>cases g<;>simp[c3,c4,c5]at hlg |-
  cases c1:decide (1<=r.order)<;>cases c6:decide (r.order<=4)<;>by_cases c3:r.from'=sNil<;>cases c4:isJ r.target<;>cases c5:r.yes<;>cases l<;>cases g<;>simp[c1,c2,c3,c4,c5,c6]at hlg |-
 ·simp only[h];by_cases c1:r.target=sNil<;>by_cases c2:r.order=0<;>by_cases c3:r.from'=r.branch<;>cases c4:bM r.from'<;>cases c5:r.yes<;>cases l<;>cases g<;>simp[c1,c2,c3,c4,c5]at hlg |-
 simp only[h];by_cases c1:r.target=sNil<;>by_cases c2:r.order=0<;>by_cases c3:r.from'=sNil<;>cases c4:r.yes<;>cases l<;>cases g<;>simp[c1,c2,c3,c4]at hlg |-
theorem aJn(r:GRec):(!vA r&&(qA r.parents&&((A4 r&&gN r.sl)&&vZ r.priv)))=eL r:=by
 rw[<-Bool.and_assoc,aMB,eL,aMC];by_cases hk:vAk r=true
 ·rw[aK4 hk,hk];generalize KU r=a;generalize (iK r.edits).2=b;generalize GR r=c;generalize v5G r=d;generalize gN r.sl=e;generalize vZ r.priv=f;revert a b c d e f;decide
 have h0:vAk r=false:=by cases e:vAk r;rfl;exact absurd e hk
 have h1:GR r=false:=by
  cases e:GR r
  ·rfl
  obtain ⟨q1,q2⟩:=CY e;rw[vAk,decide_eq_true q1,decide_eq_true q2]at h0;cases h0
 rw[h0,h1,Bool.false_and,Bool.false_and,Bool.and_false,Bool.false_and]
end Go.Proofs.YtmdicgjnmfolfaaGreatDoor
end
namespace Go.Proofs.YtmdicgjnmfolfaaGreatDoor
open Go.Proofs.Tryz
open Go.Abs Go.Lib
variable{r:GRec}{ks:List ByteArray}
theorem aCO(n:Nat):aV (n:Int)=ofL (decDigits n):=qU (by rw[QI,dC])
theorem DU(x:Int)(h0:0<=x)(h1:x<9223372036854775808)(H:aH):aI Tryz.prog 99 [iv x] H (fun r H'=>r=sv (aV x)/\H'=H):=by obtain ⟨n,rfl⟩:=Int.eq_ofNat_of_zero_le h0;rw[aCO];exact UU n (by omega) H
def OR(r:GRec):List ByteArray:=[UT,aV r.kind,aV r.author,aV r.number,aV r.clock,r.branch,aV (r.parents.length:Int)]
def aKz(r:GRec)(T:ByteArray):List ByteArray:=[T,r.target,aV (if r.yes then 1 else 0),aV r.order,r.from']
def aFP(r:GRec)(T y:ByteArray):List ByteArray:=[T,r.target,y,aV r.order,r.from']
theorem aBu(r:GRec):nG r=(OR r++r.parents)++aKz r (iK r.edits).1:=by simp[nG,FE,rS,fI,OR,aKz]
theorem aEV(h:VF r):0<=r.order/\r.order<=4:=by
 rw[h.od,wOG]
 split
 ·next hk =>
  have:=h.k;rw[GR,aPT hk,kN,aP3,aP1,aP1]at this;omega
 omega
theorem XT{α:Type}(f:α->List PV)(l:List α){n:Nat}(h:l.length=n):((l.map f).take (0+n)).drop 0=l.map f:=by rw[<-h];exact nC f l
theorem AF(l:List ByteArray):∀r∈l.map encStr,r.length=1:=by intro r hr;obtain ⟨s,_,rfl⟩:=List.mem_map.1 hr;rfl
theorem aCU(r:GRec)(hr:iA r)(hv:VF r)(hrf:∀e∈r.edits,e.refs.length<1099511627776):aI Tryz.prog 42 [av (cC r)] [] (fun x H'=>x=.osl 971 2 0 (nG r).length/\H'=[(971,⟨2,1,9,dF (nG r)⟩)]):=by
 have hk:=CY hv.k;have hau:=hv.au;have hnu:=hv.nu;have hcl:=hv.cl;have hod:=aEV hv;have hpl:=hv.pal;have hml:(r.parents.map encStr).length=r.parents.length:=aPU _;have hme:(r.edits.map aW).length=r.edits.length:=aPU _;have hd1:=fun H=>DU r.kind (by omega) (by omega) H;have hd2:=fun H=>DU r.author (by omega) (by omega) H;have hd3:=fun H=>DU r.number (by omega) (by omega) H;have hd4:=fun H=>DU r.clock (by omega) (by omega) H;have hd5:∀H,aI Tryz.prog 99 [iv ((r.parents.map encStr).length:Int)] H (fun x H'=>x=sv (aV (r.parents.length:Int))/\H'=H):=fun H=>by
  rw[hml];exact DU (r.parents.length:Int) (by omega) (by omega) H
 have hd6:=fun H=>DU r.order (by omega) (by omega) H;have htx:=fun H=>UX r.edits H hr.2.2.2.1.1 hr.2.2.2.1.2 hrf;have hw1:dF (OR r)++(r.parents.map encStr).map (·.map AV.pv)=dF (OR r++r.parents):=oW _ _;rw[aBu];obtain ⟨T,hT⟩:∃T,T=(iK r.edits).1:=⟨_,rfl⟩;rw[<-hT];rw[iK]at hT;refine Bd func42 rfl ntmps42 ?_;have hl2:(dF (OR r++r.parents)).length=7+r.parents.length:=by rw[dF,aPU,aPV];rfl
 refine Sr<|Dd (by exact cD (id:=1) rfl rfl rfl rfl rfl)<|Dd aL<|Zz<|Sq<|aN follows<|Cr [1] (fun _ h=>fh lQ h)<|Cr [1] (fun _ h=>lh isAgg3 h)<|Cr [] (fun H1 hH=>by exact aA rfl rfl mZ rfl (hd1 _))<|Cr [1] (fun _ h=>fh qP h)<|Cr [1] (fun _ h=>lh isAgg3 h)<|Cr [] (fun H1 hH=>by exact aA rfl rfl mZ rfl (hd2 _))<|Cr [1] (fun _ h=>fh lP h)<|Cr [1] (fun _ h=>lh isAgg3 h)<|Cr [] (fun H1 hH=>by exact aA rfl rfl mZ rfl (hd3 _))<|Cr [1] (fun _ h=>fh uX h)<|Cr [1] (fun _ h=>lh isAgg3 h)<|Cr [] (fun H1 hH=>by exact aA rfl rfl mZ rfl (hd4 _))<|Cr [1] (fun _ h=>fh uW h)<|Cr [1] (fun _ h=>lh isAgg9 h)<|Cr [1] (fun _ h=>fh kW h)<|Cr [1] (fun _ h=>lh aF h)<|Cr [] (fun _ _=>(fE aD))<|Cr [] (fun H1 hH=>by exact aA rfl rfl mZ rfl (hd5 _)) ?_;refine Cp [971] (fun H1 hH=>by exact gB (id:=971) rfl cB rfl rfl rfl rfl (by intro r hr;simp only[aP6,aPa,or_false]at hr;rcases hr with rfl|rfl|rfl|rfl|rfl|rfl|rfl<;>rfl) ((hH _ rfl).trans rfl))<|Cr [971] (fun _ _=>aL)<|bL<|Kr<|Sr<|Dd aE<|Dd (aS kW)<|Dd (bC aF)<|Dd (by exact dL (k:=7+r.parents.length) (ps:=r.parents.map encStr) rfl cB EF rfl rfl rfl rfl rfl rfl rfl (AF _) (m:=r.parents.length) hml (by omega) rfl hw1)<|Dd aL<|Zz<|Sr<|Da ?_;refine fJ (fun(_:Unit)=>([(1,.ref 1 0 0 0),(3,.osl 971 1 0 (7+r.parents.length)),(4,sv T)],[(1,bx 21 30 ((cC r).map .pv)),(971,⟨1,1,9,dF (OR r++r.parents)⟩)])) (fun _=>True) ?_ ?_
 ·refine Sr<|Dd (aS uV)<|Dd (bC iI)<|Dd (fE cX)<|Dd iE<|Zz ?_;refine Cn ?_ ?_<;>intro hc1
  ·have hpos:0<r.edits.length:=by have:=aPQ hc1;omega
   rw[aPS (by omega)]at hT;subst hT;refine Rg<|Dd (aS uV)<|Dd (bC iI)<|Dd (by exact aA rfl rfl call112 rfl (htx _))<|Dd aE<|Dd fS<|Dd fS<|Da ?_;exact⟨(),trivial,(dA.wk (Ea<|Ea<|Eb<|trivial) (Hb<|Hc (cE _ _)<|trivial) trivial)⟩
  have hpos:r.edits.length=0:=by have:=aPR hc1;omega
  rw[aPT hpos]at hT;subst hT;refine aC ?_;exact⟨(),trivial,(dA.wk (Ea<|Ea<|Eb<|trivial) (Hb<|Hc (cE _ _)<|trivial) trivial)⟩
 rintro _ -;refine Sr<|Da ?_;refine fJ (fun(y:ByteArray)=>([(1,.ref 1 0 0 0),(3,.osl 971 1 0 (7+r.parents.length)),(4,sv T),(5,sv y)],[(1,bx 21 30 ((cC r).map .pv)),(971,⟨1,1,9,dF (OR r++r.parents)⟩)])) (fun y=>y=aV (if r.yes then 1 else 0)) ?_ ?_
 ·refine Sr<|Dd (aS B3)<|Dd (bC oT)<|Zz ?_;refine Cn ?_ ?_<;>intro hc2
  ·have hy:(⟨#[49]⟩:ByteArray)=aV (if r.yes then 1 else 0):=by rw[hc2];kernel_rfl
   refine Rg<|Da ?_;exact⟨_,hy,(dA.wk (Ea<|Ea<|Eb<|Eb<|trivial) (Hb<|Hc (cE _ _)<|trivial) trivial)⟩
  have hy:(⟨#[48]⟩:ByteArray)=aV (if r.yes then 1 else 0):=by rw[hc2];kernel_rfl
  refine aC ?_;exact⟨_,hy,(dA.wk (Ea<|Ea<|Eb<|Eb<|trivial) (Hb<|Hc (cE _ _)<|trivial) trivial)⟩
 rintro y hy;rw[show aKz r T=aFP r T y by rw[hy];rfl];refine Sq<|aN follows<|Cr [971] (fun _ _=>aE)<|Cr [] (fun _ _=>aE)<|Cr [1] (fun _ h=>fh uU h)<|Cr [1] (fun _ h=>lh isAgg9 h)<|Cr [] (fun _ _=>aE)<|Cr [1] (fun _ h=>fh sO h)<|Cr [1] (fun _ h=>lh isAgg3 h)<|Cr [] (fun H1 hH=>by exact aA rfl rfl mZ rfl (hd6 _))<|Cr [1] (fun _ h=>fh qO h)<|Cr [1] (fun _ h=>lh isAgg9 h)<|Cr [] (fun H1 hH=>by exact aR ((aFP r T y).map encStr) rfl cB rfl rfl rfl rfl rfl (AF _))<|Cp [971] (fun H1 hH=>by exact dL (ob:=⟨1,1,9,dF (OR r++r.parents)⟩) (k:=((OR r++r.parents)++aFP r T y).length) (ps:=(aFP r T y).map encStr) rfl cB EF rfl ((hH _ rfl).trans rfl) rfl rfl rfl hl2 rfl (AF _) (m:=5) rfl (by omega) (by rw[aPV,aPV];rfl) (by exact oW _ _))<|Cr [971] (fun _ _=>aL)<|bL<|Kr<|aB ?_;refine eG (H':=[(971,⟨2,1,9,dF ((OR r++r.parents)++aFP r T y)⟩)]) (.inr rfl) rfl (bD rfl) (Fin.wk (by(simp;rfl)) (Hc (cE _ _)<|trivial) trivial) ?_;exact Qq
theorem aFR(r:GRec)(hr:iA r)(hv:VF r)(hrf:∀e∈r.edits,e.refs.length<1099511627776)(H:aH):aI Tryz.prog 42 [av (cC r)] H (fun x H'=>x=.pv (bA (nG r))/\H'=H):=by refine aI.pure ((aCU r hr hv hrf).fin ?_) (by simp[cC]) H;rintro _ _ ⟨rfl,rfl⟩;exact⟨_,[],Fin.fz (id:=971) (ob:=⟨2,1,9,dF (nG r)⟩) ((nG r).map encStr) rfl (gC _) (.osl (nC encStr _)) rfl trivial trivial,rfl,rfl⟩
theorem aDj(r:GRec)(H:aH)(hr:iA r)(hrf:∀e∈r.edits,e.refs.length<1099511627776):aI Tryz.prog 15 [av (cC r)] H (fun x H'=>x=bv (eL r)/\H'=H):=by
 refine aI.pure ?_ (by simp[cC]) H;have hml:(r.parents.map encStr).length=r.parents.length:=aPU _;have hown:=fun H=>aHd r H hr hrf;have hpr:=fun H=>U3 r.priv H hr.2.2.2.2.2;have hfo:=fun H=>M5 r.sl H hr.2.2.2.2.1;have hnm:=fun H=>jP r.branch H (by have:=hr.2.1.1;omega);have hdg:=fun H=>B7 r.parents H hr.2.2.1;have hpl:=hr.2.2.1.1;have hE:=aJn r;have hX:vA r=((((((((((decide (r.kind<1)||decide (5<r.kind))||decide (r.author<0))||decide (59<r.author))||decide (r.number<1))||decide (128<r.number))||decide (r.clock<1))||decide (1000000<r.clock))||!bM r.branch)||decide (16<((r.parents.map encStr).length:Int)))||!r.parents.all isJ):=rfl;obtain ⟨v,hv⟩:∃v,v=eL r:=⟨_,rfl⟩;obtain ⟨a,ha⟩:∃a,a=vA r:=⟨_,rfl⟩;obtain ⟨ow,how⟩:∃a,a=A4 r:=⟨_,rfl⟩;obtain ⟨fo,hfo2⟩:∃a,a=gN r.sl:=⟨_,rfl⟩;obtain ⟨pr,hpr2⟩:∃a,a=vZ r.priv:=⟨_,rfl⟩;obtain ⟨nm,hnm2⟩:∃a,a=bM r.branch:=⟨_,rfl⟩;obtain ⟨dg,hdg2⟩:∃a,a=r.parents.all isJ:=⟨_,rfl⟩;rw[<-hv]at hE |-;rw[<-ha]at hE hX;rw[<-how]at hE hown;rw[<-hfo2]at hE hfo;rw[<-hpr2]at hE hpr;rw[<-hnm2]at hX hnm;rw[<-hdg2]at hX hdg;clear hv ha how hfo2 hpr2 hnm2 hdg2;refine Bd func15 rfl ntmps15<|Sr<|Dd (by exact cD (id:=1) rfl rfl rfl rfl rfl)<|Dd aL<|Zz<|Sq<|Sq ?_;refine aT (t:=59) (n:=66) (X:=a) ?_ ?_
 ·all_goals refine Dd (aS lQ) ?_
  all_goals refine Dd (bC isAgg3)<|Dd cZ<|Dm ?_
  all_goals refine Sp 7 (fun h7=>?_) fun h7=>?_
  all_goals try contradiction
  all_goals first|refine Fo<|Fo<|Fo ?_|refine On (aS lQ)<|On (bC isAgg3)<|On iE ?_
  all_goals refine Dd cG<|Dm ?_
  all_goals refine Sp 12 (fun h12=>?_) fun h12=>?_
  all_goals try contradiction
  all_goals first|refine Fo<|Fo<|Fo ?_|refine On (aS qP)<|On (bC isAgg3)<|On cZ ?_
  all_goals refine Dd cG<|Dm ?_
  all_goals refine Sp 17 (fun h17=>?_) fun h17=>?_
  all_goals try contradiction
  all_goals first|refine Fo<|Fo<|Fo ?_|refine On (aS qP)<|On (bC isAgg3)<|On iE ?_
  all_goals refine Dd cG<|Dm ?_
  all_goals refine Sp 22 (fun h22=>?_) fun h22=>?_
  all_goals try contradiction
  all_goals first|refine Fo<|Fo<|Fo ?_|refine On (aS lP)<|On (bC isAgg3)<|On cZ ?_
  all_goals refine Dd cG<|Dm ?_
  all_goals refine Sp 27 (fun h27=>?_) fun h27=>?_
  all_goals try contradiction
  all_goals first|refine Fo<|Fo<|Fo ?_|refine On (aS lP)<|On (bC isAgg3)<|On iE ?_
  all_goals refine Dd cG<|Dm ?_
  all_goals refine Sp 32 (fun h32=>?_) fun h32=>?_
  all_goals try contradiction
  all_goals first|refine Fo<|Fo<|Fo ?_|refine On (aS uX)<|On (bC isAgg3)<|On cZ ?_
  all_goals refine Dd cG<|Dm ?_
  all_goals refine Sp 37 (fun h37=>?_) fun h37=>?_
  all_goals try contradiction
  all_goals first|refine Fo<|Fo<|Fo ?_|refine On (aS uX)<|On (bC isAgg3)<|On iE ?_
  all_goals refine Dd cG<|Dm ?_
  all_goals refine Sp 42 (fun h42=>?_) fun h42=>?_
  all_goals try contradiction
  all_goals first|refine Fo<|Fo<|Fo<|Fo ?_|refine On (aS uW)<|On (bC isAgg9)<|On (by exact aA rfl rfl fR rfl (hnm _))<|On iQ ?_
  all_goals refine Dd cG<|Dm ?_
  all_goals refine Sp 48 (fun h48=>?_) fun h48=>?_
  all_goals try contradiction
  all_goals first|refine Fo<|Fo<|Fo<|Fo ?_|refine On (aS kW)<|On (bC aF)<|On (fE aD)<|On iE ?_
  all_goals refine Dd cG<|Dm ?_
  all_goals refine Sp 54 (fun h54=>?_) fun h54=>?_
  all_goals try contradiction
  all_goals first|refine Fo<|Fo<|Fo<|Fo ?_|refine On (aS kW)<|On (bC aF)<|On (by exact aA rfl rfl aPE rfl (hdg _))<|On iQ ?_
  all_goals refine Dd cG<|Zz ?_
  all_goals(exact⟨⟨_,rfl,by(rw[hX];first|(rw[h7];rfl)|(rw[h7,h12];rfl)|(rw[h7,h12,h17];rfl)|(rw[h7,h12,h17,h22];rfl)|(rw[h7,h12,h17,h22,h27];rfl)|(rw[h7,h12,h17,h22,h27,h32];rfl)|(rw[h7,h12,h17,h22,h27,h32,h37];rfl)|(rw[h7,h12,h17,h22,h27,h32,h37,h42];rfl)|(rw[h7,h12,h17,h22,h27,h32,h37,h42,h48];rfl)|(rw[h7,h12,h17,h22,h27,h32,h37,h42,h48,h54];rfl))⟩,rfl,rfl,rfl⟩)
 refine Cn ?_ ?_<;>intro hc1
 ·have h0:=hc1;rw[h0]at hE;rw[<-hE];exact Sr<|Dd aL<|Zz<|aB<|Rt<|Qq
 have h0:=hc1;rw[h0]at hE;have hE:(qA r.parents&&((ow&&fo)&&pr))=v:=hE;refine aC<|Sq<|Sr<|Dd aL<|Zz<|aG ?_;refine bT (σ:=Nat) (fun k=>([(1,.ref 1 0 0 0),(3,iv ((k:Int)+1))],[(1,bx 21 30 ((cC r).map .pv))])) (fun k=>k<=r.parents.length/\qA r.parents=qA (r.parents.drop k)) (fun k=>r.parents.length - k) 0 ⟨by omega,rfl⟩ ?_ ?_
 ·exact E0
 rintro k ⟨hk,hst⟩;refine Sq<|Sr<|Dd aE<|Dd (aS kW)<|Dd (bC aF)<|Dd (fE aD)<|Dd cZ<|Zz ?_;refine Cn ?_ ?_<;>intro hc2
 ·have hlt:k+1<r.parents.length:=by have:=aPQ hc2;omega
  obtain ⟨s,hs⟩:=aU (l:=r.parents) (k:=k) (by omega);obtain ⟨t,ht⟩:=aU hlt;have hi:=cJ (f:=encStr) hs;have hi2:=cJ (f:=encStr) ht;have hsa:=aBZ hs ht;have hk0:IntKind.i64.wrap ((k:Int)+1 - 1)=(k:Int):=by rw[kK (by omega) (by omega)];omega
  refine aC<|Sq<|aG<|Sq<|aN follows<|Cq (aS kW)<|Cq (bC aF)<|Cq aE<|Cq (by exact dW rfl rfl rfl hk0)<|Cq (by exact bP rfl cB rfl rfl (by omega) (by exact aP5 _) hi rfl)<|Cq (iJ isAgg9 (hi:=hi))<|Cq (aS kW)<|Cq (bC aF)<|Cq aE<|Cq (by exact bP rfl cB rfl rfl (by omega) (by exact aP5 _) hi2 rfl)<|Cq (iJ isAgg9 (hi:=hi2))<|Cq (by exact U9 rfl rfl rfl)<|bL<|Kr ?_;refine Cn ?_ ?_<;>intro hc3
  ·have hb:=not_not hc3;rw[hst,hsa,hb]at hE;rw[<-hE];exact Sr<|Dd aL<|Zz<|aB<|Rt<|Qq
  have hb:=qJ hc3;refine aC<|Rg<|Dd aE<|Dd (by exact bZ rfl rfl rfl (show IntKind.i64.wrap ((k:Int)+1+1)=((k+1:Nat):Int)+1 by rw[kK (by omega) (by omega)];omega))<|Da ?_;exact⟨k+1,⟨by omega,by rw[hst,hsa,hb];rfl⟩,by omega,E0⟩
 have hge:r.parents.length<=k+1:=by have:=aPR hc2;omega
 rw[hst,RR (by rw[aP9];omega)]at hE;have hE:((ow&&fo)&&pr)=v:=hE;rw[<-hE];refine aY<|Sq ?_;refine aT (t:=2) (n:=15) (X:=(ow&&fo)&&pr) ?_ ?_
 ·all_goals refine Dd (pU bQ aQ) ?_
  all_goals refine Dd (by exact aA rfl rfl call76 rfl (hown _))<|Dm ?_
  all_goals refine Sp 81 (fun h81=>?_) fun h81=>?_
  all_goals try contradiction
  all_goals first|refine Fo<|Fo<|Fo ?_|refine On (aS kC)<|On (pU eC sizeOf25)<|On (by exact aA rfl rfl call77 rfl (hfo _)) ?_
  all_goals refine Dd cG<|Dm ?_
  all_goals refine Sp 86 (fun h86=>?_) fun h86=>?_
  all_goals try contradiction
  all_goals first|refine Fo<|Fo<|Fo ?_|refine On (aS eU)<|On (pU iH sizeOf28)<|On (by exact aA rfl rfl call78 rfl (hpr _)) ?_
  all_goals refine Dd cG<|Da ?_
  all_goals(exact⟨⟨_,rfl,by(simp_all;done)⟩,rfl,rfl,rfl⟩)
 exact aB<|Rt<|Qq
theorem aMN(r:GRec)(H:aH)(hr:iA r)(hrf:∀e∈r.edits,e.refs.length<1099511627776):aI Tryz.prog 17 [av (cC r)] H (fun x H'=>x=sv (qV r)/\H'=H):=by
 refine aI.pure ?_ (by simp[cC]) H;have hva:=fun H=>aDj r H hr hrf;refine Bd func17 rfl ntmps17<|Sr<|Dd (by exact cD (id:=1) rfl rfl rfl rfl rfl)<|Dd aL<|Zz<|Sq<|Sr<|Dd (by exact aM rfl bQ aQ rfl rfl rfl rfl (by simp only[Zl,encStr];rfl) rfl)<|Dd (by exact aA rfl rfl call15 rfl (hva _))<|Dd iQ<|Zz ?_;refine Cn ?_ ?_<;>intro hc1
 ·have hb:=not_not hc1;rw[qV,hb];exact Sr<|Dd aL<|Zz<|aB<|Rt<|Qq
 have hb:=qJ hc1;have hv:=lZ hb;have hfi:=fun H=>aFR r hr hv hrf H;have hli:=fun H=>aAZ (nG r) (Nat.le_trans (J8 hv) (by decide)) (R9 hv) H;rw[qV,aPT hb];exact aC<|Sr<|Dd (by exact aM rfl bQ aQ rfl rfl rfl rfl (by simp only[Zl,encStr];rfl) rfl)<|Dd (by exact aA rfl rfl call42 rfl (hfi _))<|Dd (by exact aA rfl rfl call79 rfl (hli _))<|Dd aL<|Zz<|aB<|Rt<|Qq
def pt2(q:Int×Int):List ByteArray:=[aV q.1,aV q.2]
def X4(p:GPriv):List ByteArray:=[p.name,p.reason,aV (p.sources.length:Int)]
def DA(p:GPriv)(k:Nat):List ByteArray:=((X4 p++p.sources)++[aV (p.trace.length:Int)])++(p.trace.take k).flatMap pt2
theorem aHH(p:GPriv):DA p p.trace.length=rS (IW p):=by rw[DA,List.take_length];simp[IW,rS,fI,X4];rfl
theorem aBe{p:GPriv}{k:Nat}{q:Int×Int}(h:p.trace[k]?=some q):DA p (k+1)=DA p k++pt2 q:=by simp[DA,pJ h,List.flatMap_append]
theorem aDf(r:GRec)(hr:iA r)(hv:VF r)(H:aH):aI Tryz.prog 44 [av (jS r.priv)] H (fun x H'=>x=.pv (bA (rS (IW r.priv)))/\H'=H):=by
 refine aI.pure ?_ (by simp[jS]) H;obtain ⟨p,hp⟩:∃p,p=r.priv:=⟨_,rfl⟩;have htr:=hv.tr;have hsl:=hv.sol;have htl:=hv.trl;rw[<-hp]at htr hsl htl |-;clear hp hv hr;have hms:(p.sources.map encStr).length=p.sources.length:=aPU _;have hmt:(p.trace.map fM).length=p.trace.length:=aPU _;have hd1:∀H,aI Tryz.prog 99 [iv ((p.sources.map encStr).length:Int)] H (fun x H'=>x=sv (aV (p.sources.length:Int))/\H'=H):=fun H=>by
  rw[hms];exact DU (p.sources.length:Int) (by omega) (by omega) H
 have hd2:∀H,aI Tryz.prog 99 [iv ((p.trace.map fM).length:Int)] H (fun x H'=>x=sv (aV (p.trace.length:Int))/\H'=H):=fun H=>by
  rw[hmt];exact DU (p.trace.length:Int) (by omega) (by omega) H
 have hl0:(dF (X4 p++p.sources)).length=3+p.sources.length:=by rw[dF,aPU,aPV];rfl
 have hlk:∀k,k<=p.trace.length->(DA p k).length=4+p.sources.length+2*k:=fun k hk=>by
  have:((p.trace.take k).flatMap pt2).length=2*k:=by
   have h2:∀l:List (Int×Int),(l.flatMap pt2).length=2*l.length:=fun l=>by
    induction l with
    |nil=>rfl
    |cons q l ih=>rw[List.flatMap_cons,aPV,ih,aPW];show 2+_=_;omega
   rw[h2,aP8];omega
  rw[DA,aPV,aPV,aPV,this];show 3+_+1+_=_;omega
 have hlw:∀k,k<=p.trace.length->(dF (DA p k)).length=4+p.sources.length+2*k:=fun k hk=>by rw[dF,aPU,hlk k hk]
 have hw0:dF (X4 p++p.sources)++([aV (p.trace.length:Int)].map encStr).map (·.map AV.pv)=dF (DA p 0):=by rw[oW,DA,List.take_zero,List.flatMap_nil,List.append_nil]
 refine Bd func44 rfl ntmps44<|Sr<|Dd (by exact cD (id:=1) rfl rfl rfl rfl rfl)<|Dd aL<|Zz<|Sq<|aN follows<|Cr [1] (fun _ h=>fh wV h)<|Cr [1] (fun _ h=>lh isAgg9 h)<|Cr [1] (fun _ h=>fh wU h)<|Cr [1] (fun _ h=>lh isAgg9 h)<|Cr [1] (fun _ h=>fh qQ h)<|Cr [1] (fun _ h=>lh aF h)<|Cr [] (fun _ _=>(fE aD))<|Cr [] (fun H1 hH=>by exact aA rfl rfl mZ rfl (hd1 _))<|Cp [971] (fun H1 hH=>by exact gB (id:=971) rfl cB rfl rfl rfl rfl (by intro r hr;simp only[aP6,aPa,or_false]at hr;rcases hr with rfl|rfl|rfl<;>rfl) ((hH _ rfl).trans rfl))<|Cr [971] (fun _ _=>aL)<|bL<|Kr<|Sr<|Dd aE<|Dd (aS qQ)<|Dd (bC aF)<|Dd (by exact dL (ob:=⟨0,1,9,dF (X4 p)⟩) (k:=3+p.sources.length) (ps:=p.sources.map encStr) rfl cB EF rfl rfl rfl rfl rfl rfl rfl (AF _) (m:=p.sources.length) hms (by omega) rfl (rows':=dF (X4 p++p.sources)) (by exact oW _ _)) ?_;refine Dd aL<|Zz<|Sr<|Dd aE<|Dd (aS lS)<|Dd (bC eT)<|Dd (fE dI)<|Dd (by exact aA rfl rfl mZ rfl (hd2 _))<|Dd (by exact aR ([aV (p.trace.length:Int)].map encStr) rfl cB rfl rfl rfl rfl rfl (AF _))<|Dd (by exact dL (ob:=⟨1,1,9,dF (X4 p++p.sources)⟩) (k:=4+p.sources.length+2*0) (ps:=[aV (p.trace.length:Int)].map encStr) rfl cB EF rfl rfl rfl rfl rfl hl0 rfl (AF _) (m:=1) rfl (by omega) (by omega) (rows':=dF (DA p 0)) (by exact hw0))<|Dd aL<|Zz<|Sq<|Sr<|Dd aL<|Zz<|aG ?_;refine bT (σ:=Nat) (fun k=>([(1,.ref 1 0 0 0),(3,.osl 971 (2+k) 0 (4+p.sources.length+2*k)),(4,iv (k:Int))],[(1,bx 7 28 ((jS p).map .pv)),(971,⟨2+k,1,9,dF (DA p k)⟩)])) (fun k=>k<=p.trace.length) (fun k=>p.trace.length - k) 0 (by omega) ?_ ?_
 ·exact(dA.wk (Ea<|Ea<|Eb<|trivial) (Hb<|Hc (cE _ _)<|trivial) trivial)
 intro k hk;have hlwk:=hlw k hk;refine Sq<|Sr<|Dd aE<|Dd (aS lS)<|Dd (bC eT)<|Dd (fE dI)<|Dd cZ<|Zz ?_;refine Cn ?_ ?_<;>intro hc1
 ·have hlt:k<p.trace.length:=by have:=aPQ hc1;omega
  obtain ⟨q,hq⟩:=aU hlt;have hqb:=htr q (aP4 hq);have hi:=cJ (f:=fM) hq;have hx:=fun H=>DU q.1 (by omega) (by omega) H;have hy:=fun H=>DU q.2 (by omega) (by omega) H;refine aC<|Sq<|aG<|aN follows<|Cr [971] (fun _ _=>aE)<|Cr [1] (fun _ h=>fh lS h)<|Cr [1] (fun _ h=>lh eT h)<|Cr [] (fun _ _=>aE)<|Cr [] (fun H1 hH=>by exact bP rfl LG rfl rfl (by omega) (by exact aP5 _) hi rfl)<|Cr [] (fun _ _=>(M4 pC))<|Cr [] (fun _ _=>(iJ isAgg3 (hi:=hi)))<|Cr [] (fun H1 hH=>by exact aA rfl rfl mZ rfl (hx _))<|Cr [1] (fun _ h=>fh lS h)<|Cr [1] (fun _ h=>lh eT h)<|Cr [] (fun _ _=>aE)<|Cr [] (fun H1 hH=>by exact bP rfl LG rfl rfl (by omega) (by exact aP5 _) hi rfl)<|Cr [] (fun _ _=>(M4 pB))<|Cr [] (fun _ _=>(iJ isAgg3 (hi:=hi)))<|Cr [] (fun H1 hH=>by exact aA rfl rfl mZ rfl (hy _))<|Cr [] (fun H1 hH=>by exact aR ((pt2 q).map encStr) rfl cB rfl rfl rfl rfl rfl (AF _))<|Cp [971] (fun H1 hH=>by exact dL (ob:=⟨2+k,1,9,dF (DA p k)⟩) (k:=4+p.sources.length+2*(k+1)) (ps:=(pt2 q).map encStr) rfl cB EF rfl ((hH _ rfl).trans rfl) rfl rfl rfl hlwk rfl (AF _) (m:=2) rfl (by omega) (by omega) (rows':=dF (DA p (k+1))) (by rw[oW,aBe hq])) ?_;refine Cr [971] (fun _ _=>aL)<|bL<|Kr<|Rg<|Dd aE<|Dd (by exact bZ rfl rfl rfl (show IntKind.i64.wrap ((k:Int)+1)=((k+1:Nat):Int)by rw[kK (by omega) (by omega)];omega))<|Da ?_;exact⟨k+1,by omega,by omega,(dA.wk (Ea<|Ea<|Eb<|trivial) (Hb<|Hc (cE _ _)<|trivial) trivial)⟩
 have hge:k=p.trace.length:=by have:=aPR hc1;omega
 subst hge;have hll:=hlk p.trace.length hk;refine aY<|Sr<|Dd aE<|Dd aL<|Zz<|aB ?_;refine eG (H':=[]) (.inr rfl) rfl (bD rfl) (Fin.fz (id:=971) (ob:=⟨2+p.trace.length,1,9,dF (DA p p.trace.length)⟩) ((DA p p.trace.length).map encStr) rfl (gC _) (.osl (XT encStr _ hll)) rfl trivial trivial) ?_;exact⟨by rw[<-aHH];rfl,rfl⟩
theorem aDk(L:List ByteArray)(hL:L.length<=2000)(hs:∀s∈L,s.size<=20000)(H:aH)(id:Nat)(ob:Ob)(n:Nat)(hH:H.get id=some ob)(hsz:Nat.blt 0 ob.sz=true)(hrows:ob.rows=dF L)(hn:n=L.length):aI Tryz.prog 79 [.osl id ob.g 0 n] H (fun r H'=>r=sv (yK L)/\H'=(id,F3 ob)::H):=by
 subst hn;refine aI.retire (L.map encStr) (aAZ L hL hs _) hH hsz (by rw[hrows];exact gC _) rfl ?_;intro i a a' ha ha'
 match i with
 |0 =>
  cases ha;cases ha';refine .inr ⟨0,L.length,rfl,?_⟩;rw[nC];rfl
 |n+1=>cases ha
theorem aJz(r:GRec)(H:aH)(hr:iA r)(hrf:∀e∈r.edits,e.refs.length<1099511627776)(hb:eL r=true):aI Tryz.prog 29 [av (cC r)] H (fun x H'=>x=sv (oD r)/\H'=H):=by
 refine aI.pure ?_ (by simp[cC]) H;have hid:=fun H=>aMN r H hr hrf;have hf:=lZ hb;have hse:=fun H=>aDf r hr hf H;have hpl:=YB hf;have his:=F2 r;have hL2:([prW,qV r]++rS (IW r.priv)).length=2+(rS (IW r.priv)).length:=by rw[aPV];rfl
 have hle:∀x∈[prW,qV r]++rS (IW r.priv),x.size<=20000:=fun x hx=>(List.mem_append.1 hx).elim (fun hx=>by
   simp only[aP6,aPa,or_false]at hx;rcases hx with rfl|rfl
   ·exact(by decide:prW.size<=20000)
   exact his) (YC hf x)
 have hli:=fun H=>aDk ([prW,qV r]++rS (IW r.priv)) (by omega) hle H 971 ⟨1,1,9,dF ([prW,qV r]++rS (IW r.priv))⟩ (2+(rS (IW r.priv)).length);rw[oD];obtain ⟨F,hF⟩:∃F,F=rS (IW r.priv):=⟨_,rfl⟩;rw[<-hF]at hse hpl hL2 hli |-;obtain ⟨i,hi⟩:∃i,i=qV r:=⟨_,rfl⟩;rw[<-hi]at hid hli hL2 |-;clear hF hi hle his;refine Bd func29 rfl ntmps29<|Sr<|Dd (by exact cD (id:=1) rfl rfl rfl rfl rfl)<|Dd aL<|Zz<|Sq<|aN follows<|Cr [1] (fun H1 hH=>by exact aM rfl bQ aQ rfl ((hH _ rfl).trans rfl) rfl rfl (by simp only[Zl,encStr];rfl) rfl)<|Cr [] (fun H1 hH=>by exact aA rfl rfl call17 rfl (hid _))<|Cp [971] (fun H1 hH=>by exact gB (id:=971) rfl cB rfl rfl rfl rfl (by intro r hr;simp only[aP6,aPa,or_false]at hr;rcases hr with rfl|rfl<;>rfl) ((hH _ rfl).trans rfl))<|Cr [1] (fun _ h=>fh eU h)<|Cr [1] (fun H1 hH=>by exact aM rfl iH sizeOf28 rfl ((hH _ rfl).trans rfl) rfl rfl rfl rfl)<|Cr [] (fun H1 hH=>by exact aA rfl rfl call44 rfl (hse _))<|Cp [971] (fun H1 hH=>by exact dL (ob:=⟨0,1,9,dF [prW,i]⟩) (k:=2+F.length) (ps:=F.map encStr) rfl cB EF rfl ((hH _ rfl).trans rfl) rfl rfl rfl rfl rfl (AF _) (m:=F.length) (aPU _) (by omega) rfl (rows':=dF ([prW,i]++F)) (by exact oW _ _)) ?_;exact Cp [971] (fun H1 hH=>by exact aA rfl rfl call79 rfl ((hli _ ((hH _ rfl).trans rfl) rfl rfl hL2.symm)))<|Cr [971] (fun _ _=>aL)<|bL<|Kr<|aB<|Rt<|Qq
def P7(m:Int)(s:ByteArray):Bool:=decide ((s.size:Int)<=m)
def WC(l:List ByteArray)(m:Int):Bool:=l.all (P7 m)&&decide (((l.map encStr).length:Int)<=30)
theorem aIW(l:List ByteArray)(m:Int)(H:aH)(hl:D6 l):aI Tryz.prog 38 [.pv (bA l),iv m] H (fun r H'=>r=bv (WC l m)/\H'=H):=by
 refine Pu ?_;obtain ⟨hl1,hl2⟩:=hl;have hml:(l.map encStr).length=l.length:=aPU _;have hX:WC l m=(l.all (P7 m)&&decide (((l.map encStr).length:Int)<=30)):=rfl;refine Bd func38 rfl ntmps38<|Sr<|Dd aL<|Zz<|Sq<|Sr<|Dd aL<|Zz<|aG ?_;refine bT (σ:=Nat) (fun k=>([(0,.pv (bA l)),(1,iv m),(5,iv (k:Int))],[])) (fun k=>k<=l.length/\∀j,j<k->∀b,l[j]?=some b->P7 m b=true) (fun k=>l.length - k) 0 ⟨by omega,by omega⟩ ?_ ?_
 ·exact Wk
 rintro k ⟨hk,hno⟩;refine Sq<|Sr<|Dd aE<|Dd aE<|Dd (fE aD)<|Dd cZ<|Zz ?_;refine Cn ?_ ?_<;>intro hc1
 ·have hlt:k<l.length:=by have:=aPQ hc1;omega
  obtain ⟨s,hs⟩:=aU hlt;have hi:=cJ (f:=encStr) hs;have hsz:=hl2 s (aP4 hs);have hnot:=fun h=>AM (p:=P7 m) hs h;refine aC<|Sq<|aG<|Sr<|Dd aE<|Dd aE<|Dd (by exact bP rfl cB rfl rfl (by omega) (by exact aP5 _) hi rfl)<|Dd (iJ isAgg9 (hi:=hi))<|Dd (jV underlying9)<|Dd aE<|Dd iE<|Zz ?_;refine Cn ?_ ?_<;>intro hc2
  ·have hb:P7 m s=false:=decide_eq_false (by have:=aPQ hc2;omega);rw[hX,hnot hb];exact Sr<|Dd aL<|Zz<|aB<|Rt<|Qq
  have hb:P7 m s=true:=decide_eq_true (by have:=aPR hc2;omega);refine aC<|Rg<|Dd aE<|Dd (by exact bZ rfl rfl rfl (show IntKind.i64.wrap ((k:Int)+1)=((k+1:Nat):Int)by rw[kK (by omega) (by omega)];omega))<|Da ?_;exact⟨k+1,⟨by omega,rB hno hs hb⟩,by omega,Wk⟩
 have hge:k=l.length:=by have:=aPR hc1;omega
 subst hge;rw[hX,vK hno];exact aY<|Sr<|Dd aE<|Dd (fE aD)<|Dd GQ<|Dd aL<|Zz<|aB<|Rt<|Qq
def KF(ks:List ByteArray):Bool:=WC ks 100&&decide (((ks.map encStr).length:Int)<=10)
theorem aEr(w:WRest)(ks:List ByteArray)(H:aH)(hk:D6 ks):aI Tryz.prog 9 [av (F9 w ks)] H (fun r H'=>r=bv (KF ks)/\H'=H):=by
 refine aI.pure ?_ (by simp[F9]) H;have hf:=fun H=>aIW ks 100 H hk;have hX:KF ks=(WC ks 100&&decide (((ks.map encStr).length:Int)<=10)):=rfl;obtain ⟨f,hff⟩:∃f,f=WC ks 100:=⟨_,rfl⟩;rw[<-hff]at hf hX;clear hff;refine Bd func9 rfl ntmps9<|Sr<|Dd (by exact cD (id:=1) rfl rfl rfl rfl rfl)<|Dd aL<|Zz<|Sq ?_;refine aT (t:=2) (n:=11) (X:=KF ks) ?_ ?_
 ·all_goals refine Dd (aS H7) ?_
  all_goals refine Dd (bC aF)<|Dd (by exact aA rfl rfl call38 rfl (hf _))<|Dm ?_
  all_goals refine Sp 6 (fun h6=>?_) fun h6=>?_
  all_goals try contradiction
  all_goals first|refine Fo<|Fo<|Fo<|Fo ?_|refine On (aS H7)<|On (bC aF)<|On (fE aD)<|On GQ ?_
  all_goals refine Dd cG<|Da ?_
  all_goals(exact⟨⟨_,rfl,by(rw[hX,h6];rfl)⟩,rfl,rfl,rfl⟩)
 exact aB<|Rt<|Qq
def PT(r:GRec)(key:ByteArray):Bool:=decide (r.sl.idx=2*r.number - 2)&&rW key (qV r) r.sl.idx r.sl.sig r.sl.path
def aA6(r:GRec)(key:ByteArray):Bool:=if fG r.priv=true then decide (r.priv.sl=zS)else decide (r.priv.sl.idx=2*r.number - 1)&&rW key (oD r) r.priv.sl.idx r.priv.sl.sig r.priv.sl.path
theorem aDG(s:GSeal):oI s=decide (s=zS):=by rw[Bool.eq_iff_iff,aP1];exact⟨fun h=>KO h,fun h=>by rw[h];decide⟩
theorem aC6(h:ckA r ks=true):nO r ks=1:=by rw[nO,aPT h]
theorem aFc(h:ckA r ks=false):nO r ks=if(PT r (ks.getD r.author.toNat sNil)&&aA6 r (ks.getD r.author.toNat sNil))=true then 0 else 16:=by
 have hB:ckB r (ks.getD r.author.toNat sNil)=!PT r (ks.getD r.author.toNat sNil):=by rw[ckB,PT,Bool.not_and]
 rw[nO,h,aPS (by decide),hB];cases hp:PT r (ks.getD r.author.toNat sNil)
 ·rfl
 show (if ckC r=true then(16:Int)else if ckD r (ks.getD r.author.toNat sNil)=true then 16 else 0)=_;rw[Bool.true_and,aA6,ckC,ckD,aDG];cases he:fG r.priv
 ·generalize decide (r.priv.sl.idx=2*r.number - 1)=a;generalize rW (ks.getD r.author.toNat sNil) (oD r) r.priv.sl.idx r.priv.sl.sig r.priv.sl.path=b;cases a<;>cases b<;>rfl
 generalize decide (r.priv.sl=zS)=a;cases a<;>rfl
theorem LP(r:GRec)(w:WRest)(ks:List ByteArray)(hr:iA r)(hp:r.parents.length<549755813888)(hk:D6 ks)(hrf:∀e∈r.edits,e.refs.length<1099511627776)(H:aH):aI Tryz.prog 5 [av (cC r),av (F9 w ks)] H (fun x H'=>x=bv true/\H'=H):=by
 refine aI.pure ?_ (by simp[cC,F9]) H;have hkl:(ks.map encStr).length=ks.length:=aPU _;have hks:=hk.1;have hfw:=fun H=>Y5 [r] H (show 1<1099511627776 by decide) (fun x hx=>by rw[aPX.1 hx];exact hr);have hkw:=fun H=>aEr w ks H hk;have hck:=fun H=>GF r w ks hr hp hk H;have hv1:=fun H=>EV r hr hp H;have hX:ckA r ks=(!eL r||decide (((ks.map encStr).length:Int)<=r.author)):=rfl;have hbad:=fun h=>aC6 (r:=r) (ks:=ks) h;have hgood:=fun h=>aFc (r:=r) (ks:=ks) h;obtain ⟨F,hF⟩:∃F,F=QS [r] 5:=⟨_,rfl⟩;obtain ⟨K,hK⟩:∃K,K=KF ks:=⟨_,rfl⟩;rw[<-hF]at hfw;rw[<-hK]at hkw;obtain ⟨e,he⟩:∃e,e=nO r ks:=⟨_,rfl⟩;rw[<-he]at hck hbad hgood;clear hF hK he;refine Bd func5 rfl ntmps5<|Sr<|Dd (by exact cD (id:=2) rfl rfl rfl rfl rfl)<|Dd (by exact cD (id:=3) rfl rfl rfl rfl rfl)<|Dd aL<|Zz<|Sr<|Dd (by exact aA rfl rfl call7 rfl (aFJ _))<|Dd aL<|Zz<|Sq<|Sq ?_;refine aT (t:=19) (n:=10) (X:=!F||!K) ?_ ?_
 ·all_goals refine Dd (by exact aM rfl bQ aQ rfl rfl rfl rfl (by simp only[Zl,encStr];rfl) rfl) ?_
  all_goals refine Dd (by exact aR ([r].map cC) rfl aMH rfl rfl rfl rfl rfl (by intro r hr;simp only[List.map_cons,List.map_nil,aP6,aPa,or_false]at hr;subst hr;rfl))<|Dd (by exact aA rfl rfl call8 rfl (hfw _))<|Dd iQ<|Dm ?_
  all_goals refine Sp 15 (fun h15=>?_) fun h15=>?_
  all_goals try contradiction
  all_goals first|refine Fo<|Fo<|Fo ?_|refine On (by exact aM rfl NR A2 rfl rfl rfl rfl (by simp only[Zl,encStr];rfl) rfl)<|On (by exact aA rfl rfl call9 rfl (hkw _))<|On iQ ?_
  all_goals refine Dd cG<|Zz ?_
  all_goals(exact⟨⟨_,rfl,by(simp only[*,Zo];done)⟩,rfl,rfl,rfl⟩)
 refine Cn ?_ ?_<;>intro hc1
 ·exact Sr<|Dd aE<|Dd aL<|Zz<|aB<|Rt<|Qq
 refine aC<|Sr<|Dd (by exact aM rfl bQ aQ rfl rfl rfl rfl (by simp only[Zl,encStr];rfl) rfl)<|Dd (by exact aM rfl NR A2 rfl rfl rfl rfl (by simp only[Zl,encStr];rfl) rfl)<|Dd (by exact aA rfl rfl TV rfl (hck _))<|Dd aL<|Zz<|Sq<|Sq ?_;refine aT (t:=39) (n:=18) (X:=(!eL r||decide (r.author<0))||decide (((ks.map encStr).length:Int)<=r.author)) ?_ ?_
 ·all_goals refine Dd (by exact aM rfl bQ aQ rfl rfl rfl rfl (by simp only[Zl,encStr];rfl) rfl) ?_
  all_goals refine Dd (by exact aA rfl rfl TW rfl (hv1 _))<|Dd iQ<|Dm ?_
  all_goals refine Sp 27 (fun h27=>?_) fun h27=>?_
  all_goals try contradiction
  all_goals first|refine Fo<|Fo<|Fo ?_|refine On (aS qP)<|On (bC isAgg3)<|On cZ ?_
  all_goals refine Dd cG<|Dm ?_
  all_goals refine Sp 32 (fun h32=>?_) fun h32=>?_
  all_goals try contradiction
  all_goals first|refine Fo<|Fo<|Fo<|Fo<|Fo<|Fo ?_|refine On (aS qP)<|On (bC isAgg3)<|On (aS H7)<|On (bC aF)<|On (fE aD)<|On DD ?_
  all_goals refine Dd cG<|Zz ?_
  all_goals(exact⟨⟨_,rfl,by(simp only[*,Zo];done)⟩,rfl,rfl,rfl⟩)
 refine Cn ?_ ?_<;>intro hc2
 ·have hc:=hc2;have hA:ckA r ks=true:=by
   rw[hX];cases hv:eL r
   ·rfl
   have hau:=(lZ hv).au;rw[hv,decide_eq_false (by omega:¬ r.author<0)]at hc;exact hc
  have he1:=hbad hA;exact Sr<|Dd aE<|Dd aE<|On aE<|On (by exact cS.valY (by exact fO rfl rfl rfl) ((decide_eq_true he1)))<|Dd cG<|Dd aL<|Zz<|aB<|Rt<|Qq
 have hc:=hc2;rw[aPg,aPg]at hc;obtain ⟨⟨hc1,hc2⟩,hc3⟩:=hc;have hb:=qJ hc1;have hA:ckA r ks=false:=by rw[hX,hb,hc3];rfl
 have he1:=hgood hA;have hau:=aPR hc3;have hf:=lZ hb;have hau0:=hf.au;have hnu:=hf.nu;have hfs:=jF hf.sl;have hfp:=jF hf.psl;have i0:=hfs.i0;have i1:=hfs.i1;have q0:=hfp.i0;have q1:=hfp.i1;have hms:(oD r).size=16:=jJ _;have his:=F2 r;have hid:=fun H=>QJ r hr hp H;have hme:=fun H=>aJz r H hr hrf hb;have hix:(ks.map encStr)[r.author.toNat]?=some (encStr (ks.getD r.author.toNat sNil)):=by
  rw[aPe,List.getD_eq_getElem?_getD,aPZ (by omega)];rfl
 obtain ⟨key,hkey⟩:∃key,key=ks.getD r.author.toNat sNil:=⟨_,rfl⟩;rw[<-hkey]at hix he1;have hve1:=fun H=>CL key (qV r) r.sl.idx r.sl.sig r.sl.path H (by omega) (by omega) (by omega) (gK hfs).2.1.1 (gK hfs).2.2.1 (gK hfs).2.1.2 (gK hfs).2.2.2;have hve2:=fun H=>CL key (oD r) r.priv.sl.idx r.priv.sl.sig r.priv.sl.path H (by omega) (by omega) (by omega) (gK hfp).2.1.1 (gK hfp).2.2.1 (gK hfp).2.1.2 (gK hfp).2.2.2;have hem:=fun H=>aCY r.priv H;have hse:=fun H=>D1 r.priv.sl zS H (FP (gK hfp)) (FP okZ);have hP:PT r key=(decide (r.sl.idx=2*r.number - 2)&&rW key (qV r) r.sl.idx r.sl.sig r.sl.path):=rfl;have hQ:aA6 r key=if fG r.priv=true then decide (r.priv.sl=zS)else decide (r.priv.sl.idx=2*r.number - 1)&&rW key (oD r) r.priv.sl.idx r.priv.sl.sig r.priv.sl.path:=rfl
 obtain ⟨P,hPP⟩:∃P,P=PT r key:=⟨_,rfl⟩;obtain ⟨Q,hQQ⟩:∃Q,Q=aA6 r key:=⟨_,rfl⟩;rw[<-hPP]at hP he1;rw[<-hQQ]at hQ he1;obtain ⟨v1,hv1'⟩:∃v1,v1=rW key (qV r) r.sl.idx r.sl.sig r.sl.path:=⟨_,rfl⟩;obtain ⟨v2,hv2'⟩:∃v2,v2=rW key (oD r) r.priv.sl.idx r.priv.sl.sig r.priv.sl.path:=⟨_,rfl⟩;obtain ⟨em,hemE⟩:∃em,em=fG r.priv:=⟨_,rfl⟩;obtain ⟨ze,hzeE⟩:∃ze,ze=decide (r.priv.sl=zS):=⟨_,rfl⟩;obtain ⟨R,hR⟩:∃R,R=(decide (r.priv.sl.idx=2*r.number - 1)&&v2):=⟨_,rfl⟩;rw[<-hv1']at hP;rw[<-hv2',<-hemE,<-hzeE,<-hR]at hQ;simp only[<-hv1']at hve1;simp only[<-hv2']at hve2;simp only[<-hemE]at hem;simp only[<-hzeE]at hse;clear hv1' hv2' hemE hzeE hkey hPP hQQ;have hZ:∀Q',Q'=Q->(decide (e=0) == (P&&Q'))=true/\(e=0\/e=16):=fun Q' hQ'=>by
  subst hQ';rw[he1];cases P<;>cases Q'<;>exact⟨rfl,by decide⟩
 refine aC<|Sr<|Dd (aS H7)<|Dd (bC aF)<|Dd (aS qP)<|Dd (bC isAgg3)<|Dd (by exact bP rfl cB rfl rfl (by omega) (by exact aP5 _) hix rfl)<|Dd (iJ isAgg9 (hi:=hix))<|Dd aL<|Zz<|Sq ?_;refine kH (t:=8) (n:=17) (X:=P) ?_ ?_
 ·cases hg59:(decide (r.sl.idx=2*r.number - 2):Bool)
  ·refine aN follows<|Cq (aS kC)<|Cq (aS jG)<|Cq (bC isAgg3)<|Cq (aS lP)<|Cq (bC isAgg3)<|Cq (by exact kO rfl rfl rfl (kK (by omega) (by omega)))<|Cq (by exact dW rfl rfl rfl (kK (by omega) (by omega)))<|Cq cK<|Cq aE<|Ot<|Ot<|Ot<|Ot<|Ot<|Ot<|Cq nX<|Cq aL<|bL<|Kr ?_;exact⟨rfl,⟨_,rfl,by(rw[hP,hg59];rfl)⟩,rfl,rfl,rfl⟩
  refine aN follows<|Cq (aS kC)<|Cq (aS jG)<|Cq (bC isAgg3)<|Cq (aS lP)<|Cq (bC isAgg3)<|Cq (by exact kO rfl rfl rfl (kK (by omega) (by omega)))<|Cq (by exact dW rfl rfl rfl (kK (by omega) (by omega)))<|Cq cK<|Cq aE<|Nt aE<|Nt (pU bQ aQ)<|Nt (by exact aA rfl rfl GZ rfl (hid _))<|Nt (aS kC)<|Nt (pU eC sizeOf25)<|Nt (by exact aA rfl rfl aG5 rfl (hve1 _))<|Cq wQ<|Cq aL<|bL<|Kr ?_;exact⟨rfl,⟨_,rfl,by(rw[hP,hg59];rfl)⟩,rfl,rfl,rfl⟩
 refine Sq ?_;refine kH (t:=9) (n:=19) (X:=R) ?_ ?_
 ·cases hg76:(decide (r.priv.sl.idx=2*r.number - 1):Bool)
  ·refine aN follows<|Cq (aS eU)<|Cq (aS lR)<|Cq (aS jG)<|Cq (bC isAgg3)<|Cq (aS lP)<|Cq (bC isAgg3)<|Cq (by exact kO rfl rfl rfl (kK (by omega) (by omega)))<|Cq (by exact dW rfl rfl rfl (kK (by omega) (by omega)))<|Cq cK<|Cq aE<|Ot<|Ot<|Ot<|Ot<|Ot<|Ot<|Ot<|Cq nX<|Cq aL<|bL<|Kr ?_;exact⟨rfl,⟨_,rfl,by(rw[hR,hg76];rfl)⟩,rfl,rfl,rfl⟩
  refine aN follows<|Cq (aS eU)<|Cq (aS lR)<|Cq (aS jG)<|Cq (bC isAgg3)<|Cq (aS lP)<|Cq (bC isAgg3)<|Cq (by exact kO rfl rfl rfl (kK (by omega) (by omega)))<|Cq (by exact dW rfl rfl rfl (kK (by omega) (by omega)))<|Cq cK<|Cq aE<|Nt aE<|Nt (pU bQ aQ)<|Nt (by exact aA rfl rfl call29 rfl (hme _))<|Nt (aS eU)<|Nt (aS lR)<|Nt (pU eC sizeOf25)<|Nt (by exact aA rfl rfl aG5 rfl (hve2 _))<|Cq wQ<|Cq aL<|bL<|Kr ?_;exact⟨rfl,⟨_,rfl,by(rw[hR,hg76];rfl)⟩,rfl,rfl,rfl⟩
 refine Sq<|Sr<|Dd (aS eU)<|Dd (pU iH sizeOf28)<|Dd (by exact aA rfl rfl call30 rfl (hem _))<|Zz ?_;refine Cn ?_ ?_<;>intro hc3
 ·have hq:ze=Q:=by rw[hQ,hc3];rfl
  refine Rg<|Dd (aS eU)<|Dd (aS lR)<|Dd (pU eC sizeOf25)<|Dd (vC aFh)<|Dd (by exact aA rfl rfl aPG rfl (hse _))<|Dd aL<|Zz<|Sq ?_;obtain ⟨z1,z2⟩:=hZ ze hq;rcases z2 with h0|h0
  ·have hd0:decide (e=0)=true:=decide_eq_true h0;rw[hd0]at z1;cases P
   ·cases z1
   cases ze
   ·cases z1
   exact Rg<|Dd aE<|Dd aE<|On aE<|On (by exact cS.valY (by exact fO rfl rfl rfl) (hd0))<|On aE<|On aE<|On aE<|On cG<|On (by exact cS.valY (by exact qE rfl dD rfl rfl) ((rfl:(true == true)=true)))<|Dd cG<|Dd aE<|On aE<|On (by exact cS.valY (by exact fO rfl rfl rfl) (hd0))<|On aE<|Fo<|Fo<|On cG<|Dd cG<|Dd aL<|Zz<|aB<|Rt<|Qq
  have hd0:decide (e=0)=false:=decide_eq_false (by omega);have hd1:decide (e=16)=true:=decide_eq_true h0;rw[hd0]at z1;cases P
  ·exact Rg<|Dd aE<|Dd aE<|On aE<|On (by exact cS.valY (by exact fO rfl rfl rfl) (hd0))<|On aE<|On aE<|Fo<|On cG<|On (by exact cS.valY (by exact qE rfl dD rfl rfl) ((rfl:(false == false)=true)))<|Dd cG<|Dd aE<|On aE<|On (by exact cS.valY (by exact fO rfl rfl rfl) (hd0))<|On aE<|On aE<|On (by exact cS.valY (by exact fO rfl rfl rfl) (hd1))<|On cG<|Dd cG<|Dd aL<|Zz<|aB<|Rt<|Qq
  cases ze
  ·exact Rg<|Dd aE<|Dd aE<|On aE<|On (by exact cS.valY (by exact fO rfl rfl rfl) (hd0))<|On aE<|On aE<|On aE<|On cG<|On (by exact cS.valY (by exact qE rfl dD rfl rfl) ((rfl:(false == false)=true)))<|Dd cG<|Dd aE<|On aE<|On (by exact cS.valY (by exact fO rfl rfl rfl) (hd0))<|On aE<|On aE<|On (by exact cS.valY (by exact fO rfl rfl rfl) (hd1))<|On cG<|Dd cG<|Dd aL<|Zz<|aB<|Rt<|Qq
  cases z1
 have hq:R=Q:=by rw[hQ,hc3];rfl
 refine aC<|Sq ?_;obtain ⟨z1,z2⟩:=hZ R hq;rcases z2 with h0|h0
 ·have hd0:decide (e=0)=true:=decide_eq_true h0;rw[hd0]at z1;cases P
  ·cases z1
  cases R
  ·cases z1
  exact Rg<|Dd aE<|Dd aE<|On aE<|On (by exact cS.valY (by exact fO rfl rfl rfl) (hd0))<|On aE<|On aE<|On aE<|On cG<|On (by exact cS.valY (by exact qE rfl dD rfl rfl) ((rfl:(true == true)=true)))<|Dd cG<|Dd aE<|On aE<|On (by exact cS.valY (by exact fO rfl rfl rfl) (hd0))<|On aE<|Fo<|Fo<|On cG<|Dd cG<|Dd aL<|Zz<|aB<|Rt<|Qq
 have hd0:decide (e=0)=false:=decide_eq_false (by omega);have hd1:decide (e=16)=true:=decide_eq_true h0;rw[hd0]at z1;cases P
 ·exact Rg<|Dd aE<|Dd aE<|On aE<|On (by exact cS.valY (by exact fO rfl rfl rfl) (hd0))<|On aE<|On aE<|Fo<|On cG<|On (by exact cS.valY (by exact qE rfl dD rfl rfl) ((rfl:(false == false)=true)))<|Dd cG<|Dd aE<|On aE<|On (by exact cS.valY (by exact fO rfl rfl rfl) (hd0))<|On aE<|On aE<|On (by exact cS.valY (by exact fO rfl rfl rfl) (hd1))<|On cG<|Dd cG<|Dd aL<|Zz<|aB<|Rt<|Qq
 cases R
 ·exact Rg<|Dd aE<|Dd aE<|On aE<|On (by exact cS.valY (by exact fO rfl rfl rfl) (hd0))<|On aE<|On aE<|On aE<|On cG<|On (by exact cS.valY (by exact qE rfl dD rfl rfl) ((rfl:(false == false)=true)))<|Dd cG<|Dd aE<|On aE<|On (by exact cS.valY (by exact fO rfl rfl rfl) (hd0))<|On aE<|On aE<|On (by exact cS.valY (by exact fO rfl rfl rfl) (hd1))<|On cG<|Dd cG<|Dd aL<|Zz<|aB<|Rt<|Qq
 cases z1
end Go.Proofs.YtmdicgjnmfolfaaGreatDoor
