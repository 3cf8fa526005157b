/-
  Parts of the proof: rules of an abstract program logic, contracts of functions, plain laws. Conditions: each theorem's own.
-/
import Derived.Test.YtiifmppaejpemaaGreatDoorKR4M10
set_option linter.unusedVariables false
set_option linter.unusedSimpArgs false
set_option maxRecDepth 100000
set_option maxHeartbeats 8000000
namespace Go.Proofs
theorem aKr:type_of% Tryz.call167:=Tryz.call167
theorem aDd:type_of% Tryz.call91:=Tryz.call91
end Go.Proofs
namespace Go.Proofs.YtiifmppaejpemaaGreatDoor
open Go.Proofs.Tryz
open Go.Abs
theorem D6:∀ (l:List UInt8) (p:List UInt8×Nat),nA l=some p→p.1.length≤l.length
 | [],p,h=>by cases h
 | [c],p,h=>by
  rw [nA] at h
  split at h
  ·cases h;exact aLa _
  cases h
 | c :: e :: r, p, h => by
  rw [nA] at h
  split at h
  ·cases h;exact aLa _
  split at h
  ·cases h
  split at h
  ·cases hg:yV e with
   | none=>rw [hg] at h;cases h
   | some b =>
    rw [hg] at h;cases hu:nA r with
    | none=>rw [hu] at h;cases h
    | some q =>
     rw [hu] at h;cases h;have:=D6 r q hu;show q.1.length+1≤r.length+1+1;omega
  cases hu:nA (e::r)with
  | none=>rw [hu] at h;cases h
  | some q =>
   rw [hu] at h;cases h;have:=D6 (e::r) q hu;show q.1.length+1≤r.length+1+1;rw [aLV] at this;omega
theorem oT (s:ByteArray) (i j:Nat):(s.extract i j).size≤s.size:=by rw [← aY,nQ,aL7,aL8,aY];omega
theorem Y1 (s:ByteArray):(wJ s).1.size≤s.size:=by
 rw [wJ];cases h:nA (s.data.toList.drop 1)with
 | none=>exact aLa _
 | some p =>
  have:=D6 _ _ h;rw [aL8,aY] at this;show (⟨p.1.toArray⟩:ByteArray).size≤_;rw [← aY];show p.1.length≤_;omega
theorem UE {s:ByteArray} {i:Nat} {f:GFound} {j:Nat} (h:gT s i=(some f,j)):f.text.size≤s.size:=by
 rw [gT] at h
 split at h
 ·cases h
 split at h
 ·cases h
 split at h
 ·cases h;exact oT _ _ _
 split at h
 ·cases h;exact oT _ _ _
 split at h
 ·cases h;rw [LN]
  split
  ·have h1:=Y1 (s.extract i s.size);have h2:=oT s i s.size;show (wJ (s.extract i s.size)).1.size≤_;omega
  exact aLa _
 split at h
 ·cases h;exact oT _ _ _
 cases h;exact aLa _
theorem A9 (s:ByteArray):∀ (n i:Nat) (f:GFound),f∈lE s n i→f.text.size≤s.size
 | 0,_,_,h=>by cases h
 | n+1,i,f,h=>by
  rw [lE] at h
  split at h
  ·split at h
   ·exact A9 s n _ f h
   rename_i g j hg;rcases aL5.1 h with rfl|h
   ·exact UE hg
   split at h
   ·exact A9 s n _ f h
   cases h
  cases h
theorem RC:∀ (ds acc:List GFound) (f:GFound),f∈(kH acc ds).1→f∈acc∨f∈ds
 | [],acc,f,h=>.inl h
 | d::ds,acc,f,h=>by
  rw [kH] at h
  split at h
  ·cases h
  split at h
  ·cases h
  rcases RC ds _ f h with h|h
  ·rcases List.mem_append.1 h with h|h
   ·exact .inl h
   rw [aLW] at h;subst h;exact .inr List.mem_cons_self
  exact .inr (List.mem_cons_of_mem _ h)
theorem NA (s:ByteArray) (f:GFound) (h:f∈(gP s).1):f.text.size≤s.size:=by
 rw [gP] at h
 split at h
 ·cases h
 rcases RC _ _ f h with h|h
 ·cases h
 exact A9 s _ _ f h
theorem RR {T:List GFound} {n:Nat} (h:∀ f∈T,f.text.size≤n):∀ f∈pD T,f.text.size≤n:=fun f hf=>by
 rw [pD] at hf;rcases List.mem_append.1 hf with h1|h1
 ·exact h f h1
 rw [(List.mem_replicate.1 h1).2];exact aLa _
theorem MB:∀ (T:List GFound) (n:Nat),(∀ f∈T,f.text.size≤n)→(lX T).length≤T.length∧∀ t∈lX T,t.key.size≤n∧t.val.size≤n
 | [],n,_=>by simp [lX]
 | [a],n,_=>by simp [lX]
 | [a,b],n,_=>by simp [lX]
 | a::b::c::r,n,h=>by
  obtain ⟨i1,i2⟩:=MB r n fun f hf=>h f (by simp [hf]);rw [lX];refine⟨by simp only [aLV];omega,fun t ht=>?_⟩;rcases aL5.1 ht with rfl|ht
  ·exact⟨h a (by simp),h c (by simp)⟩
  exact i2 t ht
theorem aBm (T:List GFound):(pD T).length≤T.length+4:=by rw [pD,aLU,List.length_replicate];omega
theorem aB7 {T:List GFound} {n:Nat} (h:∀ f∈T,f.text.size≤n) (hn:n < 4611686018427387904) (hl:T.length < 549755813888):okO (kI T):=by
 have hp:=RR h;have hpl:=aBm T;have hg:∀ i,((pD T).getD i Z3).text.size≤n:=fun i=>by
  rw [List.getD_eq_getElem?_getD];cases e:(pD T)[i]? with
  | none=>exact aLa _
  | some f=>exact hp f (aL3 e)
 have ht:∀ k,I7 (lX ((pD T).drop k)):=fun k=>by
  obtain ⟨a,b⟩:=MB ((pD T).drop k) n fun f hf=>hp f (List.mem_of_mem_drop hf);rw [aL8] at a;exact⟨by omega,fun t htt=>by have:=b t htt;omega⟩
 rw [kI]
 split
 ·exact⟨Nat.lt_of_le_of_lt (hg 1) hn,ht _,by show 0 < _;omega,fun s hs=>by cases hs⟩
 split
 ·exact⟨by decide,⟨by decide,fun t h=>by cases h⟩,by decide,fun s hs=>by cases hs⟩
 refine⟨Nat.lt_of_le_of_lt (hg 1) hn,ht _,?_,fun s hs=>?_⟩
 ·show (List.map _ _).length < _;rw [aLT,aL8,aL7];omega
 obtain ⟨f,hf,rfl⟩:=List.mem_map.1 hs;have:=hp f (List.mem_of_mem_take (List.mem_of_mem_drop hf));omega
theorem qW (c:UInt8):∀ {l w:List UInt8},w∈eE c l→w.length≤l.length
 | [],w,h=>by
  rw [eE,aLW] at h;rw [h];exact aLZ _
 | b::l,w,h=>by
  have hp:=vO c l;rw [eE] at h;cases e:eE c l with
  | nil=>rw [e] at hp;exact absurd hp (Nat.lt_irrefl 0)
  | cons x r =>
   have ih:∀ y∈x::r,y.length≤l.length:=fun y hy=>qW c (by rw [e];exact hy);rw [e] at h;rw [aLV]
   split at h
   ·rcases aL5.1 h with rfl|h
    ·exact aLa _
    exact Nat.le_succ_of_le (ih w h)
   rcases aL5.1 h with rfl|h
   ·exact Nat.succ_le_succ (ih _ List.mem_cons_self)
   exact Nat.le_succ_of_le (ih w (List.mem_cons_of_mem _ h))
theorem MU {s:ByteArray} (hs:s.size < 1099511627776):okO (kI (gP s).1):=aB7 (fun f hf=>NA s f hf) (by omega) (C7 s hs)
theorem JY (l:List ByteArray):∀ r∈l.map encStr,r.length=1:=fun r hr=>by
 obtain ⟨s,_,rfl⟩:=List.mem_map.1 hr;rfl
theorem KC {p q:Prop} [Decidable p] [Decidable q] (h:(decide p&&decide q)=true):p∧q:=by simpa using h
theorem KD {p q:Prop} [Decidable p] [Decidable q] (h:(decide p&&decide q)=false):¬ (p∧q):=by intro h2;simp [h2] at h
theorem aDy {H:aB} {id:Nat} {o:Ob} (h:H.get id=some o):Sub [(id,o)] H:=fun j x hx=>by
 by_cases e:j=id
 ·subst e;rw [get_cons_same] at hx;cases hx;exact h
 rw [get_cons_other _ _ e] at hx;cases hx
theorem aBy {id j:Nat} {a b:Ob} (h:(aB.get [(id,a)] j).isSome=true):(aB.get [(id,b)] j).isSome=true:=by
 by_cases e:j=id
 ·subst e;rw [get_cons_same];rfl
 rw [get_cons_other _ _ e] at h;cases h
theorem VD (s:ByteArray) (H:aB) (hs:s.size < 1099511627776):aH Tryz.prog 165 [sv s] H (fun r H'=>r=.tup [av (bH (oQ s).1),iv (oQ s).2]∧H'=H):=by
 refine Pu ?_;have hlen:=C7 s hs;have hsz:=RR (NA s);have hoo:=MU hs;rw [oQ];refine Bd func165 rfl ntmps165<|Sr<|Dd (by exact bC (id:=2) rfl WW rfl rfl)<|Dd aP<|Zz<|Sq<|Sr<|Dd aF<|Dd (nT underlying9)<|Dd mI<|Zz ?_;refine Cn ?_ ?_<;>intro hc1
 ·have h2:20000 < s.size:=by have:=aLP hc1;omega
  rw [aLS h2];refine Sr<|Dd (uX YG)<|Uu (iH sizeOf153)<|Dd aP<|Zz<|aC ?_;refine rW (H':=[]) (.inr rfl) rfl (XL cN sizeOf153) (aT rfl) (Fin.wk (r:=.tup [av (bH zObj),iv 2]) (by simp) trivial trivial) ?_;exact Qq
 have h2:¬ 20000 < s.size:=by have:=aLQ hc1;omega
 rw [aLR h2];by_cases he:(gP s).2.1=0
 ·have hlo:=fun H h=>aHW s H hs he h;obtain ⟨T,hT⟩:∃ T,T=(gP s).1:=⟨_,rfl⟩;rw [← hT] at hlen hsz hoo ⊢;simp only [← hT] at hlo;have hrd:∀ H,H.get 905=some (QL T)→aH Tryz.prog 202 [.osl 905 T.length 0 T.length] H (fun r H'=>r=av (bH (kI T))∧H'=[(905,QL (pD T))]++H):=fun H hH =>
   aH.frame (aGg T hlen (fun f hf=>Nat.lt_of_le_of_lt (hsz f hf) hs)) (aDy hH) (cZ.ofL ⟨bW _ _,trivial⟩) (by intro a ha;rw [aLW] at ha;subst ha;simp [aB.get]) (fun id h=>.inl (aBy h))
  obtain ⟨o,ho⟩:∃ o,o=kI T:=⟨_,rfl⟩;rw [← ho] at hrd hoo ⊢;refine aE<|Sr<|Dd aF<|Dd (by exact aA rfl rfl aKr rfl (hlo _ rfl))<|Dd aF<|Dd dV<|Dd dV<|Dd dV<|Dd aP<|Dd aP<|Dd aP<|Zz<|Sq<|Sr<|Dd aF<|Dd cY<|Zz ?_;refine Cn ?_ ?_<;>intro hc2
  ·refine Sr<|Dd aF<|Dd (by exact aA rfl rfl call202 rfl (hrd _ rfl))<|Dd (by exact bC (id:=7) rfl WW rfl rfl)<|Uu (iH sizeOf153)<|Zz<|Sr<|Dd (pZ cN sizeOf153)<|Dd (by exact aA rfl rfl call203 rfl (M0 o _ hoo))<|Dd aF<|Dd dV<|Dd dV<|Dd aP<|Dd aP<|Zz<|Sq ?_;refine bD (t:=35) (n:=8) (X:=decide ((iF o).2=0)&&decide ((iF o).1=s)) ?_ ?_
   ·all_goals refine Dd aF ?_
    all_goals refine Dd cY<|Dm ?_
    all_goals refine Sp 31 (fun h31=>?_) fun h31=>?_
    all_goals try contradiction
    all_goals first|refine Fo<|Fo<|Fo ?_|refine On aF<|On aF<|On zZ ?_
    all_goals refine Dd cE<|Zz ?_
    all_goals(exact⟨⟨_,rfl,by(simp_all;done)⟩,rfl,rfl,rfl⟩)
   refine Cn ?_ ?_<;>intro hc3
   ·have hq:=KC hc3;rw [aLS ⟨he,Prod.ext hq.2 hq.1⟩];refine Sr<|Dd (pZ cN sizeOf153)<|Uu (iH sizeOf153)<|Dd aP<|Zz<|aC ?_;refine rW (H':=[]) (.inr rfl) rfl (XL cN sizeOf153) (aT rfl) (Fin.wk (r:=.tup [av (bH o),iv 0]) (by simp) trivial trivial) ?_;exact Qq
   have hq:=KD hc3;rw [aLR (fun h=>hq ⟨congrArg Prod.snd h.2,congrArg Prod.fst h.2⟩)];refine aE<|Sr<|Dd (uX YG)<|Uu (iH sizeOf153)<|Dd aP<|Zz<|aC ?_;refine rW (H':=[]) (.inr rfl) rfl (XL cN sizeOf153) (aT rfl) (Fin.wk (r:=.tup [av (bH zObj),iv 5]) (by simp) trivial trivial) ?_;exact Qq
  exact absurd rfl (aLQ hc2)
 refine aE<|Sr<|Dd aF<|Dd (by exact aA rfl rfl aKr rfl (aGF s _ hs))<|Dd aF<|Dd dV<|Dd dV<|Dd dV<|Dd aP<|Dd aP<|Dd aP<|Zz<|Sq<|Sr<|Dd aF<|Dd cY<|Zz ?_;refine Cn ?_ ?_<;>intro hc4
 ·exact absurd (aLP hc4) he
 refine aE<|Sr<|Dd (uX YG)<|Uu (iH sizeOf153)<|Dd aP<|Zz<|aC ?_;rw [aLR (fun h=>he h.1)];refine rW (H':=[]) (.inr rfl) rfl (XL cN sizeOf153) (aT rfl) (Fin.wk (r:=.tup [av (bH zObj),iv 5]) (by simp) trivial trivial) ?_;exact Qq
theorem aE2 (s:ByteArray) (H:aB) (hs:s.size≤20000):aH Tryz.prog 120 [sv s] H (fun r H'=>r=av (aZ (gU s.data.toList))∧H'=H):=by
 refine Pu ?_;have hsz:=aY s;obtain ⟨W,hW⟩:∃ W,W=eE 32 s.data.toList:=⟨_,rfl⟩;obtain ⟨w0,hw0⟩:∃ w,w=W.headD []:=⟨_,rfl⟩;obtain ⟨rs,hrs⟩:∃ r,r=s.data.toList.drop (w0.length+1):=⟨_,rfl⟩;have hrl:rs.length≤s.size:=by rw [hrs,aL8,hsz];omega
 have hg:gU s.data.toList=yH W w0 rs:=by rw [gU,← hW,← hw0,← hrs]
 have hC:∃ b,∀ H,aH Tryz.prog 117 [sv s,sv sSp] H (fun r H'=>r=.tup [sv (ofL w0),sv (ofL rs),bv b]∧H'=H):=by
  obtain ⟨b,hb⟩:=aFZ s;rw [← hW,← hw0,← hrs] at hb;exact⟨b,fun H=>by rw [← hb];exact aJa s H (by omega)⟩
 obtain ⟨b,hC⟩:=hC;have hSl:(cX s).length=W.length:=by rw [Y9,hW]
 have hml:((cX s).map encStr).length=W.length:=by rw [aLT,hSl]
 have hSg:∀ i,i < W.length→((cX s).map encStr)[i]?=some [.str (ofL (W.getD i []))]:=fun i hi=>by
  rw [hW];exact cJ (f:=encStr) (ZA s i (by rw [hSl];exact hi))
 have hWs:∀ i,(ofL (W.getD i [])).size≤s.size:=fun i=>by
  rw [fU,List.getD_eq_getElem?_getD];cases e:W[i]? with
  | none=>exact aLa _
  | some w =>
   have:=qW 32 (l:=s.data.toList) (w:=w) (by rw [← hW];exact aL3 e);rw [hsz] at this;exact this
 have hWl:W.length≤s.size+1:=by
  rw [hW,qX];have:=List.count_le_length (l:=s.data.toList) (a:=32);omega
 have hjl:((cX s).drop 3).length≤20001:=by rw [aL8,hSl];omega
 have hjs:cV ((cX s).drop 3)≤20000*((cX s).drop 3).length:=pB (fun w hw=>by
  have hw2:=List.mem_of_mem_drop hw;rw [cX,← hW] at hw2;obtain ⟨x,hx,rfl⟩:=List.mem_map.1 hw2;have:=qW 32 (l:=s.data.toList) (w:=x) (by rw [← hW];exact hx);show (ofL x).size≤_;rw [fU];omega)
 rw [hg,yH];refine Bd func120 rfl ntmps120<|Sr<|Dd (by exact bC (id:=2) rfl WV rfl rfl)<|Zz<|Sr<|Dd aF<|Dd (by exact aA rfl rfl call164 rfl (ZB s _ (by omega)))<|Dd aP<|Zz<|Sr<|Dd aF<|Dd (by exact aA rfl rfl call117 rfl (hC _))<|Dd aF<|Dd dV<|Dd dV<|Dd dV<|Dd aP<|Dd aP<|Dd aP<|Zz<|Sq<|aG<|Sr<|Dd aF<|Dd zZ<|Da ?_;refine Cn ?_ ?_<;>intro hc1
 ·have h1:w0=aAz:=nI.1 (aLP hc1);rw [aLS h1];refine Sr<|Dd aF<|Dd (by exact aA rfl rfl call165 rfl (VD (ofL rs) _ (by rw [fU];omega)))<|Dd aF<|Dd dV<|Dd dV<|Dd (by exact bC (id:=7) rfl WW rfl rfl)<|Uu (iH sizeOf153)<|Dd aP<|Zz<|Sr<|Dd (pZ cN sizeOf153)<|Dd (uX A6)<|Uu (iH aV)<|Zz<|aC ?_;refine dF (H':=[]) (.inr rfl) rfl (XL bS aV) (Fin.wk (r:=av (aZ ⟨1,sNil,sNil,sNil,0,0,sNil,sNil,[],(oQ (ofL rs)).1⟩)) (by simp) trivial trivial) ?_;exact Qq
 have h1:¬ w0=aAz:=fun e=>aLQ hc1 (nI.2 e);rw [aLR h1];refine Sq ?_;refine bD (t:=30) (n:=9) (X:=decide (ofL w0=⟨#[109,111,118,101]⟩)&&decide ((((cX s).map encStr).length:Int)=4)) ?_ ?_
 ·all_goals refine Dd aF ?_
  all_goals refine Dd zZ<|Dm ?_
  all_goals refine Sp 33 (fun h33=>?_) fun h33=>?_
  all_goals try contradiction
  all_goals first|refine Fo<|Fo<|Fo ?_|refine On aF<|On (fY aD)<|On cY ?_
  all_goals refine Dd cE<|Da ?_
  all_goals(exact⟨⟨_,rfl,by(simp_all;done)⟩,rfl,rfl,rfl⟩)
 refine Cn ?_ ?_<;>intro hc2
 ·have h2:ofL w0=ofL W1∧_:=KC hc2;rw [nI,hml] at h2;rw [aLS ⟨h2.1,by omega⟩];have i1:=hSg 1 (by omega);have i2:=hSg 2 (by omega);have i3:=hSg 3 (by omega);have s2:=hWs 2;have s3:=hWs 3;refine Sq<|aQ follows<|Cr [] (fun _ _=>aF)<|Cr [] (fun _ _=>(xZ cP))<|Cr [] (fun _ _=>(pH isAgg9))<|Cr [] (fun _ _=>aF)<|Cr [] (fun _ _=>(xZ cP))<|Cr [] (fun _ _=>(pH isAgg9))<|Cr [] (fun H1 hH=>by exact aA rfl rfl call166 rfl (R3 (ofL (W.getD 2 [])) _ (by omega)))<|Cr [] (fun _ _=>aF)<|Cr [] (fun _ _=>(xZ cP))<|Cr [] (fun _ _=>(pH isAgg9))<|Cr [] (fun H1 hH=>by exact aA rfl rfl call166 rfl (R3 (ofL (W.getD 3 [])) _ (by omega)))<|Cr [] (fun _ _=>(uX aDC))<|Cr [] (fun _ _=>(uX A6))<|Cp [2] (fun H1 hH=>by exact bT rfl aV rfl rfl rfl rfl ((hH _ rfl).trans rfl) rfl rfl rfl)<|bJ<|Kr<|aC ?_;refine dF (H':=[]) (.inr rfl) rfl (XL bS aV) (Fin.wk (r:=av (aZ ⟨2,ofL (W.getD 1 []),sNil,sNil,LI (W.getD 2 []),LI (W.getD 3 []),sNil,sNil,[],zObj⟩)) (by simp) trivial trivial) ?_;exact Qq
 have h2:¬ (ofL w0=ofL W1∧_):=KD hc2;rw [nI,hml] at h2;rw [aLR (fun h=>h2 ⟨h.1,by omega⟩)];refine Sq ?_;refine bD (t:=51) (n:=9) (X:=decide (ofL w0=⟨#[116,97,103]⟩)&&decide ((3:Int) < (((cX s).map encStr).length:Int))) ?_ ?_
 ·all_goals refine Dd aF ?_
  all_goals refine Dd zZ<|Dm ?_
  all_goals refine Sp 54 (fun h54=>?_) fun h54=>?_
  all_goals try contradiction
  all_goals first|refine Fo<|Fo<|Fo ?_|refine On aF<|On (fY aD)<|On mI ?_
  all_goals refine Dd cE<|Da ?_
  all_goals(exact⟨⟨_,rfl,by(simp_all;done)⟩,rfl,rfl,rfl⟩)
 refine Cn ?_ ?_<;>intro hc3
 ·have h3:ofL w0=ofL YX∧_:=KC hc3;rw [nI,hml] at h3;rw [aLS ⟨h3.1,by omega⟩];have i1:=hSg 1 (by omega);have i2:=hSg 2 (by omega);have hJe:bs ((cX s).drop 3)=W.drop 3:=by
   rw [bs,cX,← hW,List.map_drop,List.map_map];congr 1;exact(List.map_congr_left fun x _=>dW x).trans (List.map_id _)
  have hj:∀ H,aH Tryz.prog 168 [.pv (aU ((cX s).drop 3)),sv ⟨#[32]⟩] H (fun x H'=>x=sv (ofL (cH [32] (W.drop 3)))∧H'=H):=fun H=>by
   have:=qF ((cX s).drop 3) ⟨#[32]⟩ H (by decide) (by show 1*_+_+_ < _;omega);rw [hJe] at this;exact this
  have hJs:(ofL (cH [32] (W.drop 3))).size < 1099511627776:=by
   have:=lJ ((cX s).drop 3);rw [hJe] at this;rw [fU];omega
  obtain ⟨J,hJ⟩:∃ J,J=ofL (cH [32] (W.drop 3)):=⟨_,rfl⟩;rw [← hJ] at hJs ⊢;simp only [← hJ] at hj;have htl:((gP J).1.map dM).length=(gP J).1.length:=aLT _;refine Sr<|Dd aF<|Dd (by exact vF (l:=3) (h:=((cX s).map encStr).length) (rows':=((cX s).drop 3).map encStr) rfl cP rfl (JY _) rfl rfl (by omega) (aLZ _) (by rw [List.take_length];exact List.map_drop.symm))<|Dd (by exact aA rfl rfl mN rfl (hj _))<|Dd (by exact aA rfl rfl aKr rfl (aGF J _ hJs))<|Dd aF<|Dd dV<|Dd dV<|Dd dV<|Dd aP<|Dd aP<|Dd aP<|Zz<|Sr<|Dd aF<|Dd (fY fP)<|Dd cY<|Zz ?_;refine Cn ?_ ?_<;>intro hc4
  ·have h4:(gP J).1.length=1:=by have:=aLP hc4;omega
   obtain ⟨f,hf⟩:=List.length_eq_one_iff.1 h4;rw [hf];have hf0:([f].map dM)[0]?=some [.int .i64 f.kind,.str f.text,.int .i64 f.pos]:=rfl;refine Sq<|aQ follows<|Cr [] (fun _ _=>aF)<|Cr [] (fun _ _=>(xZ cP))<|Cr [] (fun _ _=>(pH isAgg9))<|Cr [] (fun _ _=>aF)<|Cr [] (fun _ _=>(xZ cP))<|Cr [] (fun _ _=>(pH isAgg9))<|Cr [] (fun _ _=>aF)<|Cr [] (fun _ _=>(xZ lN))<|Cr [] (fun _ _=>(fp' jU))<|Cr [] (fun _ _=>(pH isAgg9))<|Cr [] (fun _ _=>(uX A6))<|Cp [2] (fun H1 hH=>by exact bT rfl aV rfl rfl rfl rfl ((hH _ rfl).trans rfl) rfl rfl rfl)<|bJ<|Kr<|aC ?_;refine dF (H':=[]) (.inr rfl) rfl (XL bS aV) (Fin.wk (r:=av (aZ ⟨3,ofL (W.getD 1 []),sNil,sNil,0,0,ofL (W.getD 2 []),f.text,[],zObj⟩)) (by simp) trivial trivial) ?_;exact Qq
  have h4:(gP J).1.length≠1:=by have:=aLQ hc4;omega
  split
  ·next f hf=>rw [hf] at h4;exact absurd rfl h4
  refine aE<|Sr<|Dd (uX A6)<|Uu (iH aV)<|Zz<|aC ?_;refine dF (H':=[]) (.inr rfl) rfl (XL bS aV) (Fin.wk (r:=av (aZ SY)) (by simp) trivial trivial) ?_;exact Qq
 have h3:¬ (ofL w0=ofL YX∧_):=KD hc3;rw [nI,hml] at h3;rw [aLR (fun h=>h3 ⟨h.1,by omega⟩)];refine Sq ?_;refine bD (t:=81) (n:=9) (X:=decide (ofL w0=⟨#[114,101,102,115]⟩)&&decide ((1:Int) < (((cX s).map encStr).length:Int))) ?_ ?_
 ·all_goals refine Dd aF ?_
  all_goals refine Dd zZ<|Dm ?_
  all_goals refine Sp 84 (fun h84=>?_) fun h84=>?_
  all_goals try contradiction
  all_goals first|refine Fo<|Fo<|Fo ?_|refine On aF<|On (fY aD)<|On mI ?_
  all_goals refine Dd cE<|Da ?_
  all_goals(exact⟨⟨_,rfl,by(simp_all;done)⟩,rfl,rfl,rfl⟩)
 refine Cn ?_ ?_<;>intro hc5
 ·have h4:ofL w0=ofL W0∧_:=KC hc5;rw [nI,hml] at h4;rw [aLS ⟨h4.1,by omega⟩];have i1:=hSg 1 (by omega);refine Sq<|aQ follows<|Cr [] (fun _ _=>aF)<|Cr [] (fun _ _=>(xZ cP))<|Cr [] (fun _ _=>(pH isAgg9))<|Cr [] (fun _ _=>aF)<|Cr [] (fun H1 hH=>by exact vF (l:=2) (h:=((cX s).map encStr).length) (rows':=((W.drop 2).map ofL).map encStr) rfl cP rfl (JY _) rfl rfl (by omega) (aLZ _) (by rw [List.take_length,cX,← hW,List.map_drop,List.map_drop];rfl))<|Cr [] (fun _ _=>(uX A6))<|Cp [2] (fun H1 hH=>by exact bT rfl aV rfl rfl rfl rfl ((hH _ rfl).trans rfl) rfl rfl rfl)<|bJ<|Kr<|aC ?_;refine dF (H':=[]) (.inr rfl) rfl (XL bS aV) (Fin.wk (r:=av (aZ ⟨4,ofL (W.getD 1 []),sNil,sNil,0,0,sNil,sNil,(W.drop 2).map ofL,zObj⟩)) (by simp) trivial trivial) ?_;exact Qq
 have h4:¬ (ofL w0=ofL W0∧_):=KD hc5;rw [nI,hml] at h4;rw [aLR (fun h=>h4 ⟨h.1,by omega⟩)];refine Sq ?_;refine bD (t:=95) (n:=9) (X:=decide (ofL w0=⟨#[100,114,111,112]⟩)&&decide ((((cX s).map encStr).length:Int)=2)) ?_ ?_
 ·all_goals refine Dd aF ?_
  all_goals refine Dd zZ<|Dm ?_
  all_goals refine Sp 98 (fun h98=>?_) fun h98=>?_
  all_goals try contradiction
  all_goals first|refine Fo<|Fo<|Fo ?_|refine On aF<|On (fY aD)<|On cY ?_
  all_goals refine Dd cE<|Da ?_
  all_goals(exact⟨⟨_,rfl,by(simp_all;done)⟩,rfl,rfl,rfl⟩)
 refine Cn ?_ ?_<;>intro hc6
 ·have h5:ofL w0=ofL W3∧_:=KC hc6;rw [nI,hml] at h5;rw [aLS ⟨h5.1,by omega⟩];have i1:=hSg 1 (by omega);refine Sr<|Dd aF<|Dd (xZ cP)<|Dd (pH isAgg9)<|Dd (uX A6)<|Uu (iH aV)<|Zz<|aC ?_;refine dF (H':=[]) (.inr rfl) rfl (XL bS aV) (Fin.wk (r:=av (aZ ⟨5,ofL (W.getD 1 []),sNil,sNil,0,0,sNil,sNil,[],zObj⟩)) (by simp) trivial trivial) ?_;exact Qq
 have h5:¬ (ofL w0=ofL W3∧_):=KD hc6;rw [nI,hml] at h5;rw [aLR (fun h=>h5 ⟨h.1,by omega⟩)];refine Sq ?_;refine bD (t:=107) (n:=9) (X:=decide (ofL w0=⟨#[115,112,108,105,116]⟩)&&decide ((((cX s).map encStr).length:Int)=4)) ?_ ?_
 ·all_goals refine Dd aF ?_
  all_goals refine Dd zZ<|Dm ?_
  all_goals refine Sp 110 (fun h110=>?_) fun h110=>?_
  all_goals try contradiction
  all_goals first|refine Fo<|Fo<|Fo ?_|refine On aF<|On (fY aD)<|On cY ?_
  all_goals refine Dd cE<|Da ?_
  all_goals(exact⟨⟨_,rfl,by(simp_all;done)⟩,rfl,rfl,rfl⟩)
 refine Cn ?_ ?_<;>intro hc7
 ·have h6:ofL w0=ofL OB∧_:=KC hc7;rw [nI,hml] at h6;rw [aLS ⟨h6.1,by omega⟩];have i1:=hSg 1 (by omega);have i2:=hSg 2 (by omega);have i3:=hSg 3 (by omega);refine Sq<|aQ follows<|Cr [] (fun _ _=>aF)<|Cr [] (fun _ _=>(xZ cP))<|Cr [] (fun _ _=>(pH isAgg9))<|Cr [] (fun _ _=>aF)<|Cr [] (fun _ _=>(xZ cP))<|Cr [] (fun _ _=>(pH isAgg9))<|Cr [] (fun _ _=>aF)<|Cr [] (fun _ _=>(xZ cP))<|Cr [] (fun _ _=>(pH isAgg9))<|Cr [] (fun _ _=>(uX A6))<|Cp [2] (fun H1 hH=>by exact bT rfl aV rfl rfl rfl rfl ((hH _ rfl).trans rfl) rfl rfl rfl)<|bJ<|Kr<|aC ?_;refine dF (H':=[]) (.inr rfl) rfl (XL bS aV) (Fin.wk (r:=av (aZ ⟨6,ofL (W.getD 1 []),ofL (W.getD 3 []),ofL (W.getD 2 []),0,0,sNil,sNil,[],zObj⟩)) (by simp) trivial trivial) ?_;exact Qq
 have h6:¬ (ofL w0=ofL OB∧_):=KD hc7;rw [nI,hml] at h6;rw [aLR (fun h=>h6 ⟨h.1,by omega⟩)];refine Sq ?_;refine bD (t:=125) (n:=9) (X:=decide (ofL w0=⟨#[106,111,105,110]⟩)&&decide ((((cX s).map encStr).length:Int)=3)) ?_ ?_
 ·all_goals refine Dd aF ?_
  all_goals refine Dd zZ<|Dm ?_
  all_goals refine Sp 128 (fun h128=>?_) fun h128=>?_
  all_goals try contradiction
  all_goals first|refine Fo<|Fo<|Fo ?_|refine On aF<|On (fY aD)<|On cY ?_
  all_goals refine Dd cE<|Da ?_
  all_goals(exact⟨⟨_,rfl,by(simp_all;done)⟩,rfl,rfl,rfl⟩)
 refine Cn ?_ ?_<;>intro hc8
 ·have h7:ofL w0=ofL W2∧_:=KC hc8;rw [nI,hml] at h7;rw [aLS ⟨h7.1,by omega⟩];have i1:=hSg 1 (by omega);have i2:=hSg 2 (by omega);refine Sq<|aQ follows<|Cr [] (fun _ _=>aF)<|Cr [] (fun _ _=>(xZ cP))<|Cr [] (fun _ _=>(pH isAgg9))<|Cr [] (fun _ _=>aF)<|Cr [] (fun _ _=>(xZ cP))<|Cr [] (fun _ _=>(pH isAgg9))<|Cr [] (fun _ _=>(uX A6))<|Cp [2] (fun H1 hH=>by exact bT rfl aV rfl rfl rfl rfl ((hH _ rfl).trans rfl) rfl rfl rfl)<|bJ<|Kr<|aC ?_;refine dF (H':=[]) (.inr rfl) rfl (XL bS aV) (Fin.wk (r:=av (aZ ⟨7,ofL (W.getD 1 []),ofL (W.getD 2 []),sNil,0,0,sNil,sNil,[],zObj⟩)) (by simp) trivial trivial) ?_;exact Qq
 have h7:¬ (ofL w0=ofL W2∧_):=KD hc8;rw [nI,hml] at h7;rw [aLR (fun h=>h7 ⟨h.1,by omega⟩)];refine aE<|Sr<|Dd (uX A6)<|Uu (iH aV)<|Zz<|aC ?_;refine dF (H':=[]) (.inr rfl) rfl (XL bS aV) (Fin.wk (r:=av (aZ SY)) (by simp) trivial trivial) ?_;exact Qq
def GA (l:List GEdit):List (List AV):=l.map fun e=>(aZ e).map AV.pv
theorem aAP (l:List GEdit):(GA l).length=l.length:=aLT _
theorem aAQ (l:List GEdit) (e:GEdit):GA l++[(aZ e).map AV.pv]=GA (l++[e]):=by rw [GA,GA,List.map_append];rfl
theorem E5 (H:aB) (l:List GEdit):∀ r∈GA l,∀ a∈r,Clo H a:=by intro r hr a ha;obtain ⟨d,_,rfl⟩:=List.mem_map.1 hr;obtain ⟨p,_,rfl⟩:=List.mem_map.1 ha;simp
theorem PG (H:aB) (s:ByteArray):∀ r∈(lB s).rows,∀ a∈r,Clo H a:=by intro r hr a ha;simp only [lB,bx,aLW] at hr;subst hr;rw [aLW] at ha;subst ha;simp
def pcE (t:ByteArray):bO:=[(0,sv t),(4,.ref 4 0 0 0)]
def lnE (t:ByteArray) (k:Nat):GEdit:=gU (yB (rL (eY t k))).data.toList
def EQ (t:ByteArray) (k:Nat):List GEdit:=(List.range k).map (lnE t)
theorem Z6 (t:ByteArray) (k:Nat):EQ t (k+1)=EQ t k++[lnE t k]:=by rw [EQ,List.range_succ,List.map_append];rfl
theorem JH (t:ByteArray) (k:Nat):(EQ t k).length=k:=by rw [EQ,aLT,List.length_range]
theorem JI (t:ByteArray):EQ t (fG t).length=(iU t.data.toList).map fun s=>gU (Lib.trimSuffix s [10]):=by
 refine List.ext_getElem? fun k=>?_;rw [EQ,aLd,aLd];by_cases h:k < (fG t).length
 ·have h1:=(aFB h).1;rw [fG,aLd] at h1;cases e:(iU t.data.toList)[k]? with
  | none=>rw [e] at h1;cases h1
  | some w =>
   rw [e] at h1;have h1:ofY w=rL (eY t k):=Option.some.inj h1;rw [List.getElem?_range h,Option.map_some,Option.map_some,lnE,← h1,aBH,dW];congr 3
 have h2:(iU t.data.toList)[k]?=none:=by
  rw [fG,aLT] at h;exact List.getElem?_eq_none (by omega)
 rw [h2,List.getElem?_eq_none (by simpa using h)];rfl
def pcK (t s:ByteArray) (k:Nat):aB:=[(933,lB s),(905,⟨k,15,155,GA (EQ t k)⟩),(4,bx 1 23 [.osl 905 k 0 k])]
theorem aFK {a b c:Ob} {K:aB} (j:Nat):aB.get ((904,b)::(933,a)::K) j=aB.get ((933,a)::(904,b)::(933,c)::K) j:=by
 by_cases h1:j=904
 ·subst h1;rfl
 by_cases h2:j=933
 ·subst h2;rfl
 rw [get_cons_other _ _ h1,get_cons_other _ _ h2,get_cons_other _ _ h2,get_cons_other _ _ h1,get_cons_other _ _ h2]
theorem T6 (s:ByteArray):(yB s).size≤s.size:=by
 rw [yB]
 split
 ·rw [← aY,exL,aL7,aL8,aY];omega
 exact aLZ _
theorem JJ (s:ByteArray):(rL s).size≤s.size:=by
 rw [rL]
 split
 ·exact aLZ _
 rw [← aY,exL,aL7,aL8,aY];omega
theorem yT {t:ByteArray} {k:Nat} (h:k≤(fG t).length):(yB (rL (eY t k))).size≤t.size:=Nat.le_trans (T6 _) (Nat.le_trans (JJ _) (uF t k h).2)
theorem MZ {w:List UInt8} {n:Nat} (h:w.length≤n) (hn:n < 4611686018427387904):(ofL w).size < 4611686018427387904:=by rw [fU];omega
theorem VX {s:ByteArray} (hs:s.size < 1099511627776):okO (oQ s).1:=by
 rw [oQ]
 split
 ·exact⟨by decide,⟨by decide,fun t h=>by cases h⟩,by decide,fun s hs=>by cases hs⟩
 split
 ·exact MU hs
 exact⟨by decide,⟨by decide,fun t h=>by cases h⟩,by decide,fun s hs=>by cases hs⟩
theorem vE:okO zObj:=⟨by decide,⟨by decide,fun t h=>by cases h⟩,by decide,fun s hs=>by cases hs⟩
theorem wA:([]:List ByteArray).length < 4611686018427387904∧∀ s∈([]:List ByteArray),s.size < 4611686018427387904:=⟨by decide,fun s hs=>by cases hs⟩
theorem dC:sNil.size < 4611686018427387904:=by decide
theorem NF {s:List UInt8} (hs:s.length≤20000):QM (gU s):=by
 have hw:∀ i,(ofL ((eE 32 s).getD i [])).size < 4611686018427387904:=fun i=>by
  refine MZ (n:=20000) ?_ (by decide);rw [List.getD_eq_getElem?_getD];cases e:(eE 32 s)[i]? with
  | none=>exact aLa _
  | some w=>exact Nat.le_trans (qW 32 (aL3 e)) hs
 have hz:∀ (op x y:Int),QM ⟨op,sNil,sNil,sNil,x,y,sNil,sNil,[],zObj⟩:=fun op x y=>⟨⟨dC,dC,dC,dC⟩,wA,vE⟩;rw [gU,yH]
 split
 ·exact⟨⟨dC,dC,dC,dC⟩,wA,VX (by rw [fU,aL8];omega)⟩
 split
 ·exact⟨⟨hw 1,dC,dC,dC⟩,wA,vE⟩
 split
 ·split
  ·exact⟨⟨hw 1,dC,dC,hw 2⟩,wA,vE⟩
  exact hz _ _ _
 split
 ·refine⟨⟨hw 1,dC,dC,dC⟩,⟨?_,fun x hx=>?_⟩,vE⟩
  ·show (List.map _ _).length < _;have:=List.count_le_length (l:=s) (a:=32);rw [aLT,aL8,qX];omega
  obtain ⟨w,hw2,rfl⟩:=List.mem_map.1 hx;exact MZ (n:=20000) (Nat.le_trans (qW 32 (List.mem_of_mem_drop hw2)) hs) (by decide)
 split
 ·exact⟨⟨hw 1,dC,dC,dC⟩,wA,vE⟩
 split
 ·exact⟨⟨hw 1,hw 3,hw 2,dC⟩,wA,vE⟩
 split
 ·exact⟨⟨hw 1,hw 2,dC,dC⟩,wA,vE⟩
 exact hz _ _ _
theorem ER:∀ {t:ByteArray} {n:Nat},t.size≤n→(fG t).length≤n
 | t,0,h=>by rw [uQ (by omega)];exact aLZ _
 | t,n+1,h=>by
  by_cases hp:0 < t.size
  ·rw [(wD hp).1,aLV];refine Nat.succ_le_succ (ER (n:=n) ?_);rw [FZ]
   split
   ·exact aLa _
   next h1 =>
   obtain ⟨w,r,e1,e2,e3,e4,e5,e6⟩:=aC0 h1;rw [e3,aL4,← szY,e5];omega
  rw [uQ hp];exact aLa _
theorem aBh (t:ByteArray) (H:aB) (hs:t.size < 1099511627776):aH Tryz.prog 54 [sv t] H (fun r H'=>r=.tup [.pv (iO (kN t).1),iv (kN t).2]∧H'=H):=by
 refine Pu ?_;rw [kN,← JI];refine Bd func54 rfl ntmps54<|Sr<|Dd aP<|Dd aP<|Zz<|Sq<|Sr<|Dd aF<|Dd (nT underlying9)<|Dd mI<|Zz ?_;refine Cn ?_ ?_<;>intro hc1
 ·have h2:20000 < t.size:=by have:=aLP hc1;omega
  rw [aLS h2];exact Sr<|Dd aP<|Dd aP<|Zz<|aC<|Ru<|Qq
 have h2:¬ 20000 < t.size:=by have:=aLQ hc1;omega
 rw [aLR h2];refine aE<|Sr<|Dd (by exact bC (id:=4) rfl aIL rfl rfl)<|Zz<|Sq<|Sr<|Dd aF<|Dd (by exact aA rfl rfl call119 rfl (aFA t _ rfl))<|Zz<|aG ?_;obtain ⟨n,hn⟩:∃ n,n=(fG t).length:=⟨_,rfl⟩;have hnl:n≤20000:=by rw [hn];exact ER (by omega)
 refine fE.ent (E':=[(0,sv t),(4,.ref 4 0 0 0),(12,.clo 163 [.ref 933 0 0 0])]) (H':=[(905,⟨0,15,155,[]⟩),(933,lB t),(4,bx 1 23 [.osl 905 0 0 0])]) ?_ ?_
 ·exact(cD.nz 905 15 155 rfl rfl ⟨⟨_,rfl,(by exact Nz.same (by(simp;done)))⟩,⟨_,rfl,(by exact Nz.same (by(simp;rfl)))⟩,⟨_,rfl,(by exact Nz.same (by(simp;rfl)))⟩,trivial⟩ ⟨⟨_,rfl,rfl,rfl,rfl,(by exact .inl ⟨rfl,(by exact PG _ _)⟩)⟩,⟨_,rfl,rfl,rfl,rfl,(by exact .inr ⟨_,_,rfl,rfl,(by repeat(first|exact trivial|refine⟨(by exact Nz.own),?_⟩))⟩)⟩,trivial⟩ trivial)
 refine fE.ent (E':=[(0,sv t),(4,.ref 4 0 0 0),(12,.clo 163 [.ref 933 0 0 0])]) (H':=pcK t t 0) (cD.wk (Eb<|Ea<|Ea<|trivial) (Hc (PG _ _)<|Hc (E5 _ _)<|Ha<|trivial) trivial) ?_;refine AO (id:=904) (p:=13) (pcE t) rfl call163 rfl rfl (by simp [pcE];exact⟨rfl,rfl⟩) ?_;intro x hx1 hx2 hx3 hx4 hx5 hx6;have hround:∀ k,k < n→cC Tryz.prog (.yld 904 0) [sv (rL (eY t k))] ((904,LR x (pcE t))::pcK t (eY t (k+1)) k) (fun r H'=>r=bv true∧H'=(904,LR x (pcE t))::pcK t (eY t (k+1)) (k+1)):=by
  intro k hk;have hnx:=Z6 t k;have hll:=JH t k;have hls:=yT (t:=t) (k:=k) (by omega);have hla:(rL (eY t k)).size≤t.size:=Nat.le_trans (JJ _) (uF t k (by omega)).2;refine .inl ⟨904,0,rfl,?_⟩;refine N7 [(0,sv t),(4,.ref 4 0 0 0),(5,sv (rL (eY t k)))] (pcK t (eY t (k+1)) k) hx1 hx2 hx3 hx4 hx5 hx6 rfl rfl rfl ?_ ?_
  ·refine Rg<|Da ?_;exact(cD.wk (Eb<|Ea<|Eb<|trivial) (Hc (jG (by simp [pcE];rfl))<|Hc (PG _ _)<|Hc (E5 _ _)<|Ha<|trivial) ⟨rfl,rfl,rfl,rfl,trivial⟩)
  refine aG<|aQ follows<|Cs (fun _ h=>lh mM h)<|Cs (fun _ _=>aF)<|Cs (fun H1 hH=>by exact aA rfl rfl call121 rfl (T5 (rL (eY t k)) _ (by omega)))<|Cs (fun H1 hH=>by exact aA rfl rfl call120 rfl (aE2 (yB (rL (eY t k))) _ (by omega)))<|Cs (fun H1 hH=>by exact aS [aZ (lnE t k)] rfl UI rfl rfl rfl rfl rfl (by intro r hr;rw [aLW] at hr;subst hr;rfl)) ?_;refine aX (r:=⟨_,none,[_]⟩) (DStep.plain rfl (fun H1 hH=>by exact eK (ps:=[aZ (lnE t k)]) rfl UI aJ4 rfl ((hH _ rfl).trans rfl) rfl rfl rfl ((aAP _).trans hll) rfl (by intro r hr;rw [aLW] at hr;subst hr;rfl) (m:=1) rfl (by omega) rfl (aAQ (EQ t k) (lnE t k)))) rfl ?_;refine aX (r:=⟨_,none,[_]⟩) (DStep.plain rfl (fun H1 hH=>by exact(by exact bT rfl sizeOf23 rfl rfl rfl rfl ((hH _ rfl).trans rfl) rfl rfl rfl))) rfl ?_;refine bJ<|Kr ?_;exact⟨[(933,lB (eY t (k+1))),(905,⟨k+1,15,155,GA (EQ t k++[lnE t k])⟩),(4,bx 1 23 [.osl 905 (k+1) 0 (k+1)])],(cD.wk trivial (Hc (jG (by simp [pcE];rfl))<|Hc (PG _ _)<|Hc (E5 _ _)<|Ha<|trivial) ⟨rfl,rfl,rfl,rfl,trivial⟩),rfl,by rw [← hnx];rfl⟩
 refine(aCP t (.yld 904 0) (fun k=>(904,LR x (pcE t))::pcK t (eY t k) k) hs (fun k=>rfl) (fun k hk=>?_)).mono ?_
 ·exact cC.congrG (hround k (by omega)) (fun j=>aFK j) (fun j=>rfl)
 rintro r H' ⟨rfl,rfl⟩;refine⟨x,_,rfl,by rw [hx1];decide,rfl,fun z=>?_⟩;rw [hx2];obtain ⟨L,hL⟩:∃ L,L=EQ t n:=⟨_,rfl⟩;have hLl:L.length=n:=by rw [hL];exact JH t n
 rw [← hn,← hL];have hok:∀ e∈L,QM e:=fun e he=>by
  rw [hL,EQ] at he;obtain ⟨k,hk,rfl⟩:=List.mem_map.1 he;have:=yT (t:=t) (k:=k) (by have:=List.mem_range.1 hk;omega);exact NF (by rw [aY];omega)
 refine Sq<|Sq ?_;refine fE.ent (cD.fzG (id:=905) (E':=[(0,sv t),(4,.ref 4 0 0 0)]) (H':=[(4,bx 1 23 [.pv (iO L)])]) (L.map aZ) rfl (by rw [hL];exact CO aZ _) ?_ rfl ?_ ?_) ?_
 ·intro p hp;simp only [aL5,aL9,or_false] at hp;rcases hp with rfl|rfl<;>exact⟨_,rfl,.same (by simp;try rfl)⟩
 ·exact⟨⟨_,rfl,rfl,rfl,rfl,nK rfl (cI (.osl (by rw [← hLl];exact qS aZ L)) nL)⟩,trivial⟩
 ·exact trivial
 refine Rg<|Dd (bK mM)<|Dd (by exact aA rfl rfl call122 rfl (XA L _ (by omega) hok))<|Dd aF<|Dd dV<|Dd dV<|Dd aP<|Dd aP<|Zz<|Sq ?_;refine bD (t:=31) (n:=8) (X:=!decide ((fZ L).2=0)||!decide ((fZ L).1=t)) ?_ ?_
 ·all_goals refine Dd aF ?_
  all_goals refine Dd uL<|Dm ?_
  all_goals refine Sp 27 (fun h27=>?_) fun h27=>?_
  all_goals try contradiction
  all_goals first|refine Fo<|Fo<|Fo ?_|refine On aF<|On aF<|On Q6 ?_
  all_goals refine Dd cE<|Zz ?_
  all_goals(exact⟨⟨_,rfl,by(simp_all;done)⟩,rfl,rfl,rfl⟩)
 refine Cn ?_ ?_<;>intro hc2
 ·have hne:fZ L≠(t,0):=fun e=>by have h:=hc2;rw [e] at h;simp at h
  rw [aLR hne];exact Sr<|Dd aP<|Dd aP<|Zz<|aC<|Ru<|Qq
 have hee:fZ L=(t,0):=by have h:=hc2;simp only [aLf,Bool.not_eq_false',aL0] at h;exact Prod.ext h.2 h.1
 rw [aLS hee];exact aE<|Sr<|Dd (bK mM)<|Dd aP<|Dd aP<|Zz<|aC<|Ru<|Qq
end Go.Proofs.YtiifmppaejpemaaGreatDoor
namespace Go.Proofs.YtiifmppaejpemaaGreatDoor
open Go.Proofs.Tryz
open Go.Abs Go.Lib
theorem UW (t:ByteArray):∀ e∈(kN t).1,QM e:=by
 intro e he;rw [kN] at he
 split at he
 ·cases he
 next hs =>
 split at he
 ·have he:e∈(iU t.data.toList).map fun s=>gU (Lib.trimSuffix s [10]):=he;rw [← JI,EQ] at he;obtain ⟨k,hk,rfl⟩:=List.mem_map.1 he;have:=yT (t:=t) (k:=k) (by have:=List.mem_range.1 hk;omega);exact NF (by rw [aY];omega)
 cases he
theorem RQ (t:ByteArray):(kN t).1.length≤20000:=by
 rw [kN]
 split
 ·exact aLa _
 next hs =>
 split
 ·show ((iU t.data.toList).map fun s=>gU (Lib.trimSuffix s [10])).length≤_;rw [← JI,JH];exact ER (by omega)
 exact aLa _
def EB {α:Type} (f:List UInt8→Option (α×List UInt8)) (d:α) (l:List UInt8):α×List UInt8:=(f l).getD (d,l)
def p0 (t:List UInt8):=EB gL sNil t
def p1 (t:List UInt8):=EB lR 0 (p0 t).2
def p2 (t:List UInt8):=EB lR 0 (p1 t).2
def p3 (t:List UInt8):=EB lR 0 (p2 t).2
def p4 (t:List UInt8):=EB lR 0 (p3 t).2
def p5 (t:List UInt8):=EB gL sNil (p4 t).2
def p6 (t:List UInt8):=EB (sG gL) [] (p5 t).2
def p7 (t:List UInt8):=EB gL sNil (p6 t).2
def p8 (t:List UInt8):=EB gL sNil (p7 t).2
def p9 (t:List UInt8):=EB gL sNil (p8 t).2
def K4 (t:List UInt8):=EB lR 0 (p9 t).2
def K0 (t:List UInt8):=EB gL sNil (K4 t).2
def KZ (t:List UInt8):=EB OL zS (K0 t).2
def KY (t:List UInt8):=EB gL sNil (KZ t).2
def KX (t:List UInt8):=EB gL sNil (KY t).2
def KW (t:List UInt8):=EB (sG gL) [] (KX t).2
def KV (t:List UInt8):=EB (sG EF) [] (KW t).2
def p17 (t:List UInt8):=EB OL zS (KV t).2
def LG:ByteArray:=⟨#[49]⟩
def lY (t:List UInt8):GRec:=⟨(p1 t).1,(p2 t).1,(p3 t).1,(p4 t).1,(p5 t).1,(p6 t).1,(kN (p7 t).1).1,(p8 t).1,decide ((p9 t).1=LG),(K4 t).1,(K0 t).1,(KZ t).1,⟨(KY t).1,(KX t).1,(KW t).1,(KV t).1,(p17 t).1⟩⟩
def O7 (t:List UInt8):List Bool:=[(gL t).isSome,(lR (p0 t).2).isSome,(lR (p1 t).2).isSome,(lR (p2 t).2).isSome,(lR (p3 t).2).isSome,(gL (p4 t).2).isSome,((sG gL) (p5 t).2).isSome,(gL (p6 t).2).isSome,(gL (p7 t).2).isSome,(gL (p8 t).2).isSome,(lR (p9 t).2).isSome,(gL (K4 t).2).isSome,(OL (K0 t).2).isSome,(gL (KZ t).2).isSome,(gL (KY t).2).isSome,((sG gL) (KX t).2).isSome,((sG EF) (KW t).2).isSome,(OL (KV t).2).isSome]
def nW (t:List UInt8):Bool:=(O7 t).all id
def fR (t:List UInt8):GRec×Int:=if 20000 < t.length then(zR,2)else if nW t=true∧eD (lY t)=(ofL t,0)then(lY t,0)else(zR,5)
theorem hU {α:Type} {f:List UInt8→Option (α×List UInt8)} {d:α} {l:List UInt8} {e:α→AV}:((f l).map fun p=>(e p.1,p.2)).getD (e d,l)=(e (EB f d l).1,(EB f d l).2):=by rw [EB];cases f l<;>rfl
theorem kE {α:Type} {f:List UInt8→Option (α×List UInt8)} {d:α} {l:List UInt8} (h:∀ p q,f l=some (p,q)→q.length < l.length):(EB f d l).2.length≤l.length:=by
 rw [EB];cases e:f l with
 | none=>exact aLZ _
 | some p=>exact Nat.le_of_lt (h p.1 p.2 e)
theorem OK {l q:List UInt8} {s:GSeal} (h:OL l=some (s,q)):q.length < l.length∧oP s.idx∧(s.sig.length≤l.length∧∀ x∈s.sig,x.size≤l.length)∧(s.path.length≤l.length∧∀ x∈s.path,x.size≤l.length):=by
 rw [OL] at h;cases hn:lR l with
 | none=>rw [hn] at h;cases h
 | some p =>
  obtain ⟨i,r⟩:=p;have h1:=gD hn;rw [hn] at h;simp only at h;cases ha:sG gL r with
  | none=>rw [ha] at h;cases h
  | some p =>
   obtain ⟨a,r2⟩:=p;have h2:=sR ha;rw [ha] at h;simp only at h;cases hb:sG gL r2 with
   | none=>rw [hb] at h;cases h
   | some p =>
    obtain ⟨b,r3⟩:=p;have h3:=sR hb;rw [hb] at h;cases h;exact⟨by omega,h1.2,⟨by show a.length≤_;omega,fun x hx=>by have:=h2.2 x hx;omega⟩,by show b.length≤_;omega,fun x hx=>by have:=h3.2 x hx;omega⟩
theorem pY {α:Type} {f:List UInt8→Option (α×List UInt8)} {d:α} {l:List UInt8} (Q:α→Prop) (hd:Q d) (h:∀ p q,f l=some (p,q)→Q p):Q (EB f d l).1:=by
 rw [EB];cases e:f l with
 | none=>exact hd
 | some p=>exact h p.1 p.2 e
theorem aBt (t:List UInt8):(p0 t).2.length≤t.length:=kE (fun p q h=>by have:=hY h;omega)
theorem aBr (t:List UInt8):(p1 t).2.length≤t.length:=Nat.le_trans (kE (fun p q h=>(gD h).1)) (aBt t)
theorem aBq (t:List UInt8):(p2 t).2.length≤t.length:=Nat.le_trans (kE (fun p q h=>(gD h).1)) (aBr t)
theorem aBp (t:List UInt8):(p3 t).2.length≤t.length:=Nat.le_trans (kE (fun p q h=>(gD h).1)) (aBq t)
theorem U3 (t:List UInt8):(p4 t).2.length≤t.length:=Nat.le_trans (kE (fun p q h=>(gD h).1)) (aBp t)
theorem U2 (t:List UInt8):(p5 t).2.length≤t.length:=Nat.le_trans (kE (fun p q h=>by have:=hY h;omega)) (U3 t)
theorem U1 (t:List UInt8):(p6 t).2.length≤t.length:=Nat.le_trans (kE (fun p q h=>by have:=(sR h).1;omega)) (U2 t)
theorem U0 (t:List UInt8):(p7 t).2.length≤t.length:=Nat.le_trans (kE (fun p q h=>by have:=hY h;omega)) (U1 t)
theorem aBo (t:List UInt8):(p8 t).2.length≤t.length:=Nat.le_trans (kE (fun p q h=>by have:=hY h;omega)) (U0 t)
theorem aBn (t:List UInt8):(p9 t).2.length≤t.length:=Nat.le_trans (kE (fun p q h=>by have:=hY h;omega)) (aBo t)
theorem O1 (t:List UInt8):(K4 t).2.length≤t.length:=Nat.le_trans (kE (fun p q h=>(gD h).1)) (aBn t)
theorem O0 (t:List UInt8):(K0 t).2.length≤t.length:=Nat.le_trans (kE (fun p q h=>by have:=hY h;omega)) (O1 t)
theorem OZ (t:List UInt8):(KZ t).2.length≤t.length:=Nat.le_trans (kE (fun p q h=>(OK h).1)) (O0 t)
theorem OY (t:List UInt8):(KY t).2.length≤t.length:=Nat.le_trans (kE (fun p q h=>by have:=hY h;omega)) (OZ t)
theorem OX (t:List UInt8):(KX t).2.length≤t.length:=Nat.le_trans (kE (fun p q h=>by have:=hY h;omega)) (OY t)
theorem OW (t:List UInt8):(KW t).2.length≤t.length:=Nat.le_trans (kE (fun p q h=>by have:=(sR h).1;omega)) (OX t)
theorem OV (t:List UInt8):(KV t).2.length≤t.length:=Nat.le_trans (kE (fun p q h=>by have:=(XY h).1;omega)) (OW t)
theorem aEg (t:List UInt8):(p17 t).2.length≤t.length:=Nat.le_trans (kE (fun p q h=>(OK h).1)) (OV t)
theorem aBU {l q:List UInt8} {s:GSeal} {n:Nat} (h:OL l=some (s,q)) (hn:l.length≤n):oP s.idx∧(s.sig.length≤n∧∀ x∈s.sig,x.size≤n)∧(s.path.length≤n∧∀ x∈s.path,x.size≤n):=by obtain ⟨_,h1,h2,h3⟩:=OK h;exact⟨h1,⟨by omega,fun x hx=>by have:=h2.2 x hx;omega⟩,by omega,fun x hx=>by have:=h3.2 x hx;omega⟩
theorem aIW (t:List UInt8):oP zS.idx∧(zS.sig.length≤t.length∧∀ x∈zS.sig,x.size≤t.length)∧(zS.path.length≤t.length∧∀ x∈zS.path,x.size≤t.length):=by simp [zS,oP]
theorem aJB (t:List UInt8):(oP) (p1 t).1:=by unfold p1;exact pY (f:=lR) (d:=0) (l:=(p0 t).2) (oP) (⟨by decide,by decide⟩) (fun p q h=>(gD h).2)
theorem aIz (t:List UInt8):(oP) (p2 t).1:=by unfold p2;exact pY (f:=lR) (d:=0) (l:=(p1 t).2) (oP) (⟨by decide,by decide⟩) (fun p q h=>(gD h).2)
theorem aIx (t:List UInt8):(oP) (p3 t).1:=by unfold p3;exact pY (f:=lR) (d:=0) (l:=(p2 t).2) (oP) (⟨by decide,by decide⟩) (fun p q h=>(gD h).2)
theorem aIv (t:List UInt8):(oP) (p4 t).1:=by unfold p4;exact pY (f:=lR) (d:=0) (l:=(p3 t).2) (oP) (⟨by decide,by decide⟩) (fun p q h=>(gD h).2)
theorem aIt (t:List UInt8):(fun s:ByteArray=>s.size≤t.length) (p5 t).1:=by unfold p5;exact pY (f:=gL) (d:=sNil) (l:=(p4 t).2) (fun s:ByteArray=>s.size≤t.length) ((aLa _)) (fun p q h=>by have:=hY h;have:=U3 t;omega)
theorem aIr (t:List UInt8):(fun l:List ByteArray=>l.length≤t.length∧∀ x∈l,x.size≤t.length) (p6 t).1:=by unfold p6;exact pY (f:=(sG gL)) (d:=[]) (l:=(p5 t).2) (fun l:List ByteArray=>l.length≤t.length∧∀ x∈l,x.size≤t.length) (⟨aLa _,by simp⟩) (fun p q h=>by have h1:=sR h;have h2:=U2 t;exact⟨by omega,fun x hx=>by have:=h1.2 x hx;omega⟩)
theorem aIp (t:List UInt8):(fun s:ByteArray=>s.size≤t.length) (p7 t).1:=by unfold p7;exact pY (f:=gL) (d:=sNil) (l:=(p6 t).2) (fun s:ByteArray=>s.size≤t.length) ((aLa _)) (fun p q h=>by have:=hY h;have:=U1 t;omega)
theorem aIn (t:List UInt8):(fun s:ByteArray=>s.size≤t.length) (p8 t).1:=by unfold p8;exact pY (f:=gL) (d:=sNil) (l:=(p7 t).2) (fun s:ByteArray=>s.size≤t.length) ((aLa _)) (fun p q h=>by have:=hY h;have:=U0 t;omega)
theorem aHD (t:List UInt8):(oP) (K4 t).1:=by unfold K4;exact pY (f:=lR) (d:=0) (l:=(p9 t).2) (oP) (⟨by decide,by decide⟩) (fun p q h=>(gD h).2)
theorem aHB (t:List UInt8):(fun s:ByteArray=>s.size≤t.length) (K0 t).1:=by unfold K0;exact pY (f:=gL) (d:=sNil) (l:=(K4 t).2) (fun s:ByteArray=>s.size≤t.length) ((aLa _)) (fun p q h=>by have:=hY h;have:=O1 t;omega)
theorem aGz (t:List UInt8):(fun s:GSeal=>oP s.idx∧(s.sig.length≤t.length∧∀ x∈s.sig,x.size≤t.length)∧(s.path.length≤t.length∧∀ x∈s.path,x.size≤t.length)) (KZ t).1:=by unfold KZ;exact pY (f:=OL) (d:=zS) (l:=(K0 t).2) (fun s:GSeal=>oP s.idx∧(s.sig.length≤t.length∧∀ x∈s.sig,x.size≤t.length)∧(s.path.length≤t.length∧∀ x∈s.path,x.size≤t.length)) (aIW t) (fun p q h=>aBU h (O0 t))
theorem aGx (t:List UInt8):(fun s:ByteArray=>s.size≤t.length) (KY t).1:=by unfold KY;exact pY (f:=gL) (d:=sNil) (l:=(KZ t).2) (fun s:ByteArray=>s.size≤t.length) ((aLa _)) (fun p q h=>by have:=hY h;have:=OZ t;omega)
theorem aGv (t:List UInt8):(fun s:ByteArray=>s.size≤t.length) (KX t).1:=by unfold KX;exact pY (f:=gL) (d:=sNil) (l:=(KY t).2) (fun s:ByteArray=>s.size≤t.length) ((aLa _)) (fun p q h=>by have:=hY h;have:=OY t;omega)
theorem aGt (t:List UInt8):(fun l:List ByteArray=>l.length≤t.length∧∀ x∈l,x.size≤t.length) (KW t).1:=by unfold KW;exact pY (f:=(sG gL)) (d:=[]) (l:=(KX t).2) (fun l:List ByteArray=>l.length≤t.length∧∀ x∈l,x.size≤t.length) (⟨aLa _,by simp⟩) (fun p q h=>by have h1:=sR h;have h2:=OX t;exact⟨by omega,fun x hx=>by have:=h1.2 x hx;omega⟩)
theorem aGr (t:List UInt8):(fun l:List (Int×Int)=>l.length≤t.length∧∀ q∈l,oP q.1∧oP q.2) (KV t).1:=by unfold KV;exact pY (f:=(sG EF)) (d:=[]) (l:=(KW t).2) (fun l:List (Int×Int)=>l.length≤t.length∧∀ q∈l,oP q.1∧oP q.2) (⟨aLa _,by simp⟩) (fun p q h=>by have h1:=XY h;have h2:=OW t;exact⟨by omega,h1.2⟩)
theorem aGp (t:List UInt8):(fun s:GSeal=>oP s.idx∧(s.sig.length≤t.length∧∀ x∈s.sig,x.size≤t.length)∧(s.path.length≤t.length∧∀ x∈s.path,x.size≤t.length)) (p17 t).1:=by unfold p17;exact pY (f:=OL) (d:=zS) (l:=(KV t).2) (fun s:GSeal=>oP s.idx∧(s.sig.length≤t.length∧∀ x∈s.sig,x.size≤t.length)∧(s.path.length≤t.length∧∀ x∈s.path,x.size≤t.length)) (aIW t) (fun p q h=>aBU h (OV t))
theorem aGf {N:Nat} (hN:N≤20000) {k a n c od:Int} {br ta fr nm rs:ByteArray} {pa so:List ByteArray} {ed:List GEdit} {ye:Bool} {sl ps:GSeal} {tr:List (Int×Int)} (h1:oP k) (h2:oP a) (h3:oP n) (h4:oP c) (h10:oP od) (h5:br.size≤N) (h8:ta.size≤N) (h11:fr.size≤N) (h13:nm.size≤N) (h14:rs.size≤N)
  (h6:pa.length≤N∧∀ x∈pa,x.size≤N) (h15:so.length≤N∧∀ x∈so,x.size≤N) (h16:tr.length≤N∧∀ q∈tr,oP q.1∧oP q.2) (he:ed.length≤20000) (he2:∀ e∈ed,QM e)
  (h12:oP sl.idx∧(sl.sig.length≤N∧∀ x∈sl.sig,x.size≤N)∧(sl.path.length≤N∧∀ x∈sl.path,x.size≤N)) (h17:oP ps.idx∧(ps.sig.length≤N∧∀ x∈ps.sig,x.size≤N)∧(ps.path.length≤N∧∀ x∈ps.path,x.size≤N)) :
  iE ⟨k,a,n,c,br,pa,ed,ta,ye,od,fr,sl,⟨nm,rs,so,tr,ps⟩⟩∧pa.length < 549755813888:=by
 have hL:∀ {l:List ByteArray},(l.length≤N∧∀ x∈l,x.size≤N)→LH l:=fun h=>⟨by omega,fun x hx=>by have:=h.2 x hx;omega⟩;obtain ⟨s1,s2,s3⟩:=h12;obtain ⟨q1,q2,q3⟩:=h17;exact⟨⟨⟨h1,h2,h3,h4,h10⟩,⟨by show br.size < _;omega,by show ta.size < _;omega,by show fr.size < _;omega⟩,hL h6,⟨by show ed.length < _;omega,he2⟩,⟨s1,hL s2,hL s3⟩,by show nm.size < _;omega,by show rs.size < _;omega,hL h15,by show tr.length < _;have:=h16.1;omega,q1,hL q2,hL q3⟩,by have:=h6.1;omega⟩
theorem RG {t:List UInt8} (ht:t.length≤20000):iE (lY t)∧(lY t).parents.length < 549755813888 :=aGf ht (aJB t) (aIz t) (aIx t) (aIv t) (aHD t) (aIt t) (aIn t) (aHB t) (aGx t) (aGv t) (aIr t) (aGt t) (aGr t) (RQ _) (UW _) (aGz t) (aGp t)
theorem dB {α β:Type} {o:Option α} {g:α→β}:(o.map g=none↔o.isSome=false)∧((o.map g).isSome=o.isSome):=by cases o<;>simp
theorem kG {t:List UInt8} {b:Bool} (h:b∈O7 t) (hb:b=false):nW t=false:=by rw [nW,List.all_eq_false];exact⟨b,h,by rw [hb];decide⟩
theorem aK5 (t:List UInt8):(xP t).getD (sv sNil,t)=(sv (p0 t).1,(p0 t).2):=by unfold p0 xP;exact hU (f:=gL) (d:=sNil) (l:=t) (e:=fun v=>sv v)
theorem aJL (t:List UInt8) (h:xP t=none):nW t=false:=kG (b:=(gL t).isSome) (List.mem_of_getElem? (i:=0) rfl) (dB.1.1 h)
theorem aK4 (t:List UInt8):(uA (p0 t).2).getD (iv 0,(p0 t).2)=(iv (p1 t).1,(p1 t).2):=by unfold p1 uA;exact hU (f:=lR) (d:=0) (l:=(p0 t).2) (e:=fun v=>iv v)
theorem aJC (t:List UInt8) (h:uA (p0 t).2=none):nW t=false:=kG (b:=(lR (p0 t).2).isSome) (List.mem_of_getElem? (i:=1) rfl) (dB.1.1 h)
theorem aK3 (t:List UInt8):(uA (p1 t).2).getD (iv 0,(p1 t).2)=(iv (p2 t).1,(p2 t).2):=by unfold p2 uA;exact hU (f:=lR) (d:=0) (l:=(p1 t).2) (e:=fun v=>iv v)
theorem aJA (t:List UInt8) (h:uA (p1 t).2=none):nW t=false:=kG (b:=(lR (p1 t).2).isSome) (List.mem_of_getElem? (i:=2) rfl) (dB.1.1 h)
theorem aK2 (t:List UInt8):(uA (p2 t).2).getD (iv 0,(p2 t).2)=(iv (p3 t).1,(p3 t).2):=by unfold p3 uA;exact hU (f:=lR) (d:=0) (l:=(p2 t).2) (e:=fun v=>iv v)
theorem aIy (t:List UInt8) (h:uA (p2 t).2=none):nW t=false:=kG (b:=(lR (p2 t).2).isSome) (List.mem_of_getElem? (i:=3) rfl) (dB.1.1 h)
theorem aK1 (t:List UInt8):(uA (p3 t).2).getD (iv 0,(p3 t).2)=(iv (p4 t).1,(p4 t).2):=by unfold p4 uA;exact hU (f:=lR) (d:=0) (l:=(p3 t).2) (e:=fun v=>iv v)
theorem aIw (t:List UInt8) (h:uA (p3 t).2=none):nW t=false:=kG (b:=(lR (p3 t).2).isSome) (List.mem_of_getElem? (i:=4) rfl) (dB.1.1 h)
theorem aK0 (t:List UInt8):(xP (p4 t).2).getD (sv sNil,(p4 t).2)=(sv (p5 t).1,(p5 t).2):=by unfold p5 xP;exact hU (f:=gL) (d:=sNil) (l:=(p4 t).2) (e:=fun v=>sv v)
theorem aIu (t:List UInt8) (h:xP (p4 t).2=none):nW t=false:=kG (b:=(gL (p4 t).2).isSome) (List.mem_of_getElem? (i:=5) rfl) (dB.1.1 h)
theorem aKZ (t:List UInt8):(VJ (p5 t).2).getD (.pv (aU []),(p5 t).2)=(.pv (aU (p6 t).1),(p6 t).2):=by unfold p6 VJ;exact hU (f:=(sG gL)) (d:=[]) (l:=(p5 t).2) (e:=fun v=>.pv (aU v))
theorem aIs (t:List UInt8) (h:VJ (p5 t).2=none):nW t=false:=kG (b:=((sG gL) (p5 t).2).isSome) (List.mem_of_getElem? (i:=6) rfl) (dB.1.1 h)
theorem aKY (t:List UInt8):(xP (p6 t).2).getD (sv sNil,(p6 t).2)=(sv (p7 t).1,(p7 t).2):=by unfold p7 xP;exact hU (f:=gL) (d:=sNil) (l:=(p6 t).2) (e:=fun v=>sv v)
theorem aIq (t:List UInt8) (h:xP (p6 t).2=none):nW t=false:=kG (b:=(gL (p6 t).2).isSome) (List.mem_of_getElem? (i:=7) rfl) (dB.1.1 h)
theorem aKX (t:List UInt8):(xP (p7 t).2).getD (sv sNil,(p7 t).2)=(sv (p8 t).1,(p8 t).2):=by unfold p8 xP;exact hU (f:=gL) (d:=sNil) (l:=(p7 t).2) (e:=fun v=>sv v)
theorem aIo (t:List UInt8) (h:xP (p7 t).2=none):nW t=false:=kG (b:=(gL (p7 t).2).isSome) (List.mem_of_getElem? (i:=8) rfl) (dB.1.1 h)
theorem aKW (t:List UInt8):(xP (p8 t).2).getD (sv sNil,(p8 t).2)=(sv (p9 t).1,(p9 t).2):=by unfold p9 xP;exact hU (f:=gL) (d:=sNil) (l:=(p8 t).2) (e:=fun v=>sv v)
theorem aIm (t:List UInt8) (h:xP (p8 t).2=none):nW t=false:=kG (b:=(gL (p8 t).2).isSome) (List.mem_of_getElem? (i:=9) rfl) (dB.1.1 h)
theorem aJK (t:List UInt8):(uA (p9 t).2).getD (iv 0,(p9 t).2)=(iv (K4 t).1,(K4 t).2):=by unfold K4 uA;exact hU (f:=lR) (d:=0) (l:=(p9 t).2) (e:=fun v=>iv v)
theorem aHE (t:List UInt8) (h:uA (p9 t).2=none):nW t=false:=kG (b:=(lR (p9 t).2).isSome) (List.mem_of_getElem? (i:=10) rfl) (dB.1.1 h)
theorem aJJ (t:List UInt8):(xP (K4 t).2).getD (sv sNil,(K4 t).2)=(sv (K0 t).1,(K0 t).2):=by unfold K0 xP;exact hU (f:=gL) (d:=sNil) (l:=(K4 t).2) (e:=fun v=>sv v)
theorem aHC (t:List UInt8) (h:xP (K4 t).2=none):nW t=false:=kG (b:=(gL (K4 t).2).isSome) (List.mem_of_getElem? (i:=11) rfl) (dB.1.1 h)
theorem aJI (t:List UInt8):(slA (K0 t).2).getD (av (iB zS),(K0 t).2)=(av (iB (KZ t).1),(KZ t).2):=by unfold KZ slA;exact hU (f:=OL) (d:=zS) (l:=(K0 t).2) (e:=fun v=>av (iB v))
theorem aHA (t:List UInt8) (h:slA (K0 t).2=none):nW t=false:=kG (b:=(OL (K0 t).2).isSome) (List.mem_of_getElem? (i:=12) rfl) (dB.1.1 h)
theorem aJH (t:List UInt8):(xP (KZ t).2).getD (sv sNil,(KZ t).2)=(sv (KY t).1,(KY t).2):=by unfold KY xP;exact hU (f:=gL) (d:=sNil) (l:=(KZ t).2) (e:=fun v=>sv v)
theorem aGy (t:List UInt8) (h:xP (KZ t).2=none):nW t=false:=kG (b:=(gL (KZ t).2).isSome) (List.mem_of_getElem? (i:=13) rfl) (dB.1.1 h)
theorem aJG (t:List UInt8):(xP (KY t).2).getD (sv sNil,(KY t).2)=(sv (KX t).1,(KX t).2):=by unfold KX xP;exact hU (f:=gL) (d:=sNil) (l:=(KY t).2) (e:=fun v=>sv v)
theorem aGw (t:List UInt8) (h:xP (KY t).2=none):nW t=false:=kG (b:=(gL (KY t).2).isSome) (List.mem_of_getElem? (i:=14) rfl) (dB.1.1 h)
theorem aJF (t:List UInt8):(VJ (KX t).2).getD (.pv (aU []),(KX t).2)=(.pv (aU (KW t).1),(KW t).2):=by unfold KW VJ;exact hU (f:=(sG gL)) (d:=[]) (l:=(KX t).2) (e:=fun v=>.pv (aU v))
theorem aGu (t:List UInt8) (h:VJ (KX t).2=none):nW t=false:=kG (b:=((sG gL) (KX t).2).isSome) (List.mem_of_getElem? (i:=15) rfl) (dB.1.1 h)
theorem aJE (t:List UInt8):(PF (KW t).2).getD (.pv (pA []),(KW t).2)=(.pv (pA (KV t).1),(KV t).2):=by unfold KV PF;exact hU (f:=(sG EF)) (d:=[]) (l:=(KW t).2) (e:=fun v=>.pv (pA v))
theorem aGs (t:List UInt8) (h:PF (KW t).2=none):nW t=false:=kG (b:=((sG EF) (KW t).2).isSome) (List.mem_of_getElem? (i:=16) rfl) (dB.1.1 h)
theorem aJD (t:List UInt8):(slA (KV t).2).getD (av (iB zS),(KV t).2)=(av (iB (p17 t).1),(p17 t).2):=by unfold p17 slA;exact hU (f:=OL) (d:=zS) (l:=(KV t).2) (e:=fun v=>av (iB v))
theorem aGq (t:List UInt8) (h:slA (KV t).2=none):nW t=false:=kG (b:=(OL (KV t).2).isSome) (List.mem_of_getElem? (i:=17) rfl) (dB.1.1 h)
theorem aEl (t:List UInt8) (h0:(xP t).isSome=true) (h1:(uA (p0 t).2).isSome=true) (h2:(uA (p1 t).2).isSome=true) (h3:(uA (p2 t).2).isSome=true) (h4:(uA (p3 t).2).isSome=true) (h5:(xP (p4 t).2).isSome=true) (h6:(VJ (p5 t).2).isSome=true) (h7:(xP (p6 t).2).isSome=true) (h8:(xP (p7 t).2).isSome=true) (h9:(xP (p8 t).2).isSome=true) (h10:(uA (p9 t).2).isSome=true) (h11:(xP (K4 t).2).isSome=true) (h12:(slA (K0 t).2).isSome=true) (h13:(xP (KZ t).2).isSome=true) (h14:(xP (KY t).2).isSome=true) (h15:(VJ (KX t).2).isSome=true) (h16:(PF (KW t).2).isSome=true) (h17:(slA (KV t).2).isSome=true):nW t=true:=by unfold nW O7;simp only [List.all_cons,List.all_nil,id,Bool.and_true,aL2];exact⟨dB.2▸h0,dB.2▸h1,dB.2▸h2,dB.2▸h3,dB.2▸h4,dB.2▸h5,dB.2▸h6,dB.2▸h7,dB.2▸h8,dB.2▸h9,dB.2▸h10,dB.2▸h11,dB.2▸h12,dB.2▸h13,dB.2▸h14,dB.2▸h15,dB.2▸h16,dB.2▸h17⟩
end Go.Proofs.YtiifmppaejpemaaGreatDoor
namespace Go.Proofs.YtiifmppaejpemaaGreatDoor
open Go.Proofs.Tryz
open Go.Abs
theorem QK.mono {P:Program} {F:FuncId} {args:List AV} {H:aB} {u:FrameMode} {K K':aB→Prop} (h:QK P F args H u K) (hk:∀ H,K H→K' H):QK P F args H u K' :=fun I ι w vs h1 h2 h3=>(h I ι w vs h1 h2 h3).mono fun _ _ _ ⟨v,H',I',ι',e,s,q,r⟩=>⟨v,H',I',ι',e,s,hk _ q,r⟩
def PQ (t:List UInt8) (r:AV) (H:aB):Prop:=r=.tup [av (bM (fR t).1),iv (fR t).2]∧H=[]
abbrev dE:bO:=[(2,.ref 2 0 0 0),(3,.ref 3 0 0 0)]
theorem S1 (x:GRec) (e:Int) {t:List UInt8} (hg:fR t=(x,e)):∃ r,(∀ (a:Act) (w:World) (I:Nat→Prop) (ι:dR),Rel I ι (UZ x e) w→gQ w I ι (UZ x e) dE a→∃ v,(results f15 a.tmps).run Tryz.prog w=.ok v w∧VRel w I ι (UZ x e) v r)∧∃ r' H3,Fin [] (UZ x e) r H3 r'∧PQ t r' H3 :=⟨.tup [av (bM x),iv e],aKT rfl (XL aR aL) (eX rfl jC rfl rfl rfl rfl),_,[],Fin.wk (by simp [bM]) trivial trivial,by rw [PQ,hg];exact⟨rfl,rfl⟩⟩
theorem mT {t:List UInt8} {ch:D2} {E1:bO} {H2:aB} (ht:¬ 20000 < t.length) (hok:nW t=false) (he:ch=BI) (h2:E1.get 2=some (.ref 2 0 0 0)) (h3:E1.get 3=some (.ref 3 0 0 0)) (s2:∃ o,H2.get 2=some o∧iQ o rAJ) (s3:∃ o,H2.get 3=some o∧iQ o eAJ) :
  YQ Tryz.prog f15 [] (UZ zR 0) 50 dcJ (PQ t) (.panic ch) E1 H2:=by
 subst he;have hg:fR t=(zR,5):=by rw [fR,aLR ht,aLR (by rw [hok];rintro⟨h,_⟩;cases h)]
 refine⟨.panicking BI,dE,pAJ,.inr ⟨BI,rfl,rfl⟩,cD.toAny (fun u v hu=>?_) (fun id o' ho'=>?_) (fun id hi=>?_),QK.mono aGn fun H hH=>by subst hH;exact S1 zR 5 hg⟩
 ·have hm:=fA hu;simp only [aL5,aL9,or_false,Prod.mk.injEq] at hm;rcases hm with⟨rfl,rfl⟩|⟨rfl,rfl⟩
  ·exact⟨h2,by simp;rfl⟩
  exact⟨h3,by simp;rfl⟩
 ·have hm:=cR ho';simp only [aL5,aL9,or_false,Prod.mk.injEq] at hm;rcases hm with⟨rfl,rfl⟩|⟨rfl,rfl⟩
  ·obtain ⟨o,k1,k2⟩:=s3;exact⟨o,k1,k2,by simp⟩
  obtain ⟨o,k1,k2⟩:=s2;exact⟨o,k1,k2,by simp⟩
 by_cases e3:3=id
 ·subst e3;rfl
 by_cases e2:2=id
 ·subst e2;rfl
 simp [aB.get,jA e3,jA e2] at hi
theorem MT {t:List UInt8} {x:GRec} {e:Int} {E1:bO} {H2:aB} (hg:fR t=(x,e)) (hE:cD (UZ zR 0) E1 H2 dE (UZ x e)):YQ Tryz.prog f15 [] (UZ zR 0) 50 dcJ (PQ t) .ret E1 H2 :=⟨.returning,dE,UZ x e,.inl ⟨.inr rfl,rfl⟩,hE,QK.mono (aGm x e) fun H hH=>by subst hH;exact S1 x e hg⟩
theorem GU {x:GRec} {o:Ob} (h:iQ (rOJ x) o):iQ o rAJ:=⟨h.1.symm,h.2.1.symm,h.2.2.1.symm,h.2.2.2.symm⟩
theorem zY {e:Int} {o:Ob} (h:iQ (eOJ e) o):iQ o eAJ:=⟨h.1.symm,h.2.1.symm,h.2.2.1.symm,h.2.2.2.symm⟩
theorem OO (x:GRec):iQ (rOJ x) rAJ:=⟨rfl,rfl,rfl,rfl⟩
theorem ON (e:Int):iQ (eOJ e) eAJ:=⟨rfl,rfl,rfl,rfl⟩
theorem IT (t:List UInt8) (hts:t.length < 1099511627776) (H:aB):aH Tryz.prog 15 [sv (ofL t)] H (fun r H'=>r=.tup [av (bM (fR t).1),iv (fR t).2]∧H'=H):=by
 refine aH.pure (show aH Tryz.prog 15 [sv (ofL t)] [] (PQ t)from ?_) (by simp) H;have hls:(ofL t).size=t.length:=fU t;refine aH.bodyD func15 rfl ntmps15 (aL6 rfl) ?_;refine YC ?_;refine Rg<|Dd (by exact bC (id:=2) rfl xN rfl rfl)<|Dd (by exact bC (id:=3) rfl aG2 rfl rfl)<|Zz ?_;refine YC ?_;refine Sr<|Dd aF<|Dd (nT underlying9)<|Dd mI<|Zz ?_;refine Cn ?_ ?_<;>intro hc1
 ·have hb:20000 < t.length:=by have:=aLP hc1;omega
  have hg:fR t=(zR,2):=by rw [fR,aLS hb]
  refine Sr<|Dd (uX TB)<|Uu (iH aL)<|Uu (iH sizeOf41)<|Zz<|aC ?_;refine rW (H':=[]) (.inr rfl) rfl (eU rfl aR aL rfl rfl rfl (by simp only [Zl,encStr];rfl) rfl) (eX rfl jC rfl rfl rfl rfl) (Fin.wk (by simp [bM,KG]) trivial trivial) ?_;rw [PQ,hg];exact Qq
 have hb:¬ 20000 < t.length:=by have:=aLQ hc1;omega
 refine aE ?_;refine aAR (F:=50) (cs:=dcJ) rfl rfl rfl rfl rfl rfl rfl rfl rfl call50 ?_;refine fE.mono (Q:=YQ Tryz.prog f15 [] (UZ zR 0) 50 dcJ (PQ t)) ?_ (fun _ _ _ h=>h);have t0:=aK5 t;have n0:=aJL t;have c0:=aBt t;have t1:=aK4 t;have n1:=aJC t;have c1:=aBr t;have t2:=aK3 t;have n2:=aJA t;have c2:=aBq t;have t3:=aK2 t;have n3:=aIy t;have c3:=aBp t;have t4:=aK1 t;have n4:=aIw t;have c4:=U3 t;have t5:=aK0 t;have n5:=aIu t;have c5:=U2 t;have t6:=aKZ t;have n6:=aIs t;have c6:=U1 t;have t7:=aKY t;have n7:=aIq t;have c7:=U0 t;have t8:=aKX t;have n8:=aIo t;have c8:=aBo t;have t9:=aKW t;have n9:=aIm t;have c9:=aBn t;have t10:=aJK t;have n10:=aHE t;have c10:=O1 t;have t11:=aJJ t;have n11:=aHC t;have c11:=O0 t;have t12:=aJI t;have n12:=aHA t;have c12:=OZ t;have t13:=aJH t;have n13:=aGy t;have c13:=OY t;have t14:=aJG t;have n14:=aGw t;have c14:=OX t;have t15:=aJF t;have n15:=aGu t;have c15:=OW t;have t16:=aJE t;have n16:=aGs t;have c16:=OV t;have t17:=aJD t;have n17:=aGq t;have c17:=aEg t;have yes:=aEl t;have hok:=RG (t:=t) (by omega);have hread:lY t=⟨(p1 t).1,(p2 t).1,(p3 t).1,(p4 t).1,(p5 t).1,(p6 t).1,(kN (p7 t).1).1,(p8 t).1,decide ((p9 t).1=LG),(K4 t).1,(K0 t).1,(KZ t).1,⟨(KY t).1,(KX t).1,(KW t).1,(KV t).1,(p17 t).1⟩⟩:=rfl;have s7:(p7 t).1.size≤t.length:=aIp t;have hg0:fR t=if nW t=true∧eD (lY t)=(ofL t,0)then(lY t,0)else(zR,5):=by rw [fR,aLR hb]
 rw [hread] at hok hg0;obtain ⟨V0,hV0⟩:∃ v,v=(p0 t).1:=⟨_,rfl⟩;obtain ⟨L0,hL0⟩:∃ v,v=(p0 t).2:=⟨_,rfl⟩;obtain ⟨V1,hV1⟩:∃ v,v=(p1 t).1:=⟨_,rfl⟩;obtain ⟨L1,hL1⟩:∃ v,v=(p1 t).2:=⟨_,rfl⟩;obtain ⟨V2,hV2⟩:∃ v,v=(p2 t).1:=⟨_,rfl⟩;obtain ⟨L2,hL2⟩:∃ v,v=(p2 t).2:=⟨_,rfl⟩;obtain ⟨V3,hV3⟩:∃ v,v=(p3 t).1:=⟨_,rfl⟩;obtain ⟨L3,hL3⟩:∃ v,v=(p3 t).2:=⟨_,rfl⟩;obtain ⟨V4,hV4⟩:∃ v,v=(p4 t).1:=⟨_,rfl⟩;obtain ⟨L4,hL4⟩:∃ v,v=(p4 t).2:=⟨_,rfl⟩;obtain ⟨V5,hV5⟩:∃ v,v=(p5 t).1:=⟨_,rfl⟩;obtain ⟨L5,hL5⟩:∃ v,v=(p5 t).2:=⟨_,rfl⟩;obtain ⟨V6,hV6⟩:∃ v,v=(p6 t).1:=⟨_,rfl⟩;obtain ⟨L6,hL6⟩:∃ v,v=(p6 t).2:=⟨_,rfl⟩;obtain ⟨V7,hV7⟩:∃ v,v=(p7 t).1:=⟨_,rfl⟩;obtain ⟨L7,hL7⟩:∃ v,v=(p7 t).2:=⟨_,rfl⟩;obtain ⟨V8,hV8⟩:∃ v,v=(p8 t).1:=⟨_,rfl⟩;obtain ⟨L8,hL8⟩:∃ v,v=(p8 t).2:=⟨_,rfl⟩;obtain ⟨V9,hV9⟩:∃ v,v=(p9 t).1:=⟨_,rfl⟩;obtain ⟨L9,hL9⟩:∃ v,v=(p9 t).2:=⟨_,rfl⟩;obtain ⟨V10,hV10⟩:∃ v,v=(K4 t).1:=⟨_,rfl⟩;obtain ⟨L10,hL10⟩:∃ v,v=(K4 t).2:=⟨_,rfl⟩;obtain ⟨V11,hV11⟩:∃ v,v=(K0 t).1:=⟨_,rfl⟩;obtain ⟨L11,hL11⟩:∃ v,v=(K0 t).2:=⟨_,rfl⟩;obtain ⟨V12,hV12⟩:∃ v,v=(KZ t).1:=⟨_,rfl⟩;obtain ⟨L12,hL12⟩:∃ v,v=(KZ t).2:=⟨_,rfl⟩;obtain ⟨V13,hV13⟩:∃ v,v=(KY t).1:=⟨_,rfl⟩;obtain ⟨L13,hL13⟩:∃ v,v=(KY t).2:=⟨_,rfl⟩;obtain ⟨V14,hV14⟩:∃ v,v=(KX t).1:=⟨_,rfl⟩;obtain ⟨L14,hL14⟩:∃ v,v=(KX t).2:=⟨_,rfl⟩;obtain ⟨V15,hV15⟩:∃ v,v=(KW t).1:=⟨_,rfl⟩;obtain ⟨L15,hL15⟩:∃ v,v=(KW t).2:=⟨_,rfl⟩;obtain ⟨V16,hV16⟩:∃ v,v=(KV t).1:=⟨_,rfl⟩;obtain ⟨L16,hL16⟩:∃ v,v=(KV t).2:=⟨_,rfl⟩;obtain ⟨V17,hV17⟩:∃ v,v=(p17 t).1:=⟨_,rfl⟩;obtain ⟨L17,hL17⟩:∃ v,v=(p17 t).2:=⟨_,rfl⟩;simp only [← hV0,← hL0,← hV1,← hL1,← hV2,← hL2,← hV3,← hL3,← hV4,← hL4,← hV5,← hL5,← hV6,← hL6,← hV7,← hL7,← hV8,← hL8,← hV9,← hL9,← hV10,← hL10,← hV11,← hL11,← hV12,← hL12,← hV13,← hL13,← hV14,← hL14,← hV15,← hL15,← hV16,← hL16,← hV17,← hL17] at t0 n0 c0 t1 n1 c1 t2 n2 c2 t3 n3 c3 t4 n4 c4 t5 n5 c5 t6 n6 c6 t7 n7 c7 t8 n8 c8 t9 n9 c9 t10 n10 c10 t11 n11 c11 t12 n12 c12 t13 n13 c13 t14 n14 c14 t15 n15 c15 t16 n16 c16 t17 n17 c17 yes hok hg0 s7;clear hread hV0 hL0 hV1 hL1 hV2 hL2 hV3 hL3 hV4 hL4 hV5 hL5 hV6 hL6 hV7 hL7 hV8 hL8 hV9 hL9 hV10 hL10 hV11 hL11 hV12 hL12 hV13 hL13 hV14 hL14 hV15 hL15 hV16 hL16 hV17 hL17;have hpc:=fun H=>aBh V7 H (by omega);obtain ⟨PE,hPE⟩:∃ v,v=kN V7:=⟨_,rfl⟩;rw [← hPE] at hpc hok hg0;clear hPE;obtain ⟨ED,EE⟩:=PE;simp only at hpc hok hg0;have htx:=fun H=>zW ⟨V1,V2,V3,V4,V5,V6,ED,V8,decide (V9=LG),V10,V11,V12,⟨V13,V14,V15,V16,V17⟩⟩ hok.1 hok.2 H;obtain ⟨TX,hTX⟩:∃ v,v=eD ⟨V1,V2,V3,V4,V5,V6,ED,V8,decide (V9=LG),V10,V11,V12,⟨V13,V14,V15,V16,V17⟩⟩:=⟨_,rfl⟩;rw [← hTX] at htx hg0;clear hTX hok;refine Sr<|Dd aF<|Dd (uX aKi)<|Dd (by exact bZ (id:=980) rfl rfl rfl rfl rfl)<|Dd (by exact bC (id:=4) rfl aKK rfl rfl)<|Uu (iH sizeOf85)<|Zz<|Sq ?_;refine fE.ent (E':=[(0,sv (ofL t)),(2,.ref 2 0 0 0),(3,.ref 3 0 0 0),(4,.ref 4 0 0 0)]) (H':=[(980,RI t),(4,inO),(3,eOJ 0),(2,rOJ zR)]) (cD.wk (Eb<|Ea<|Ea<|Ea<|trivial) (Hb<|Ha<|Hb<|Hb<|trivial) ⟨rfl,rfl,trivial⟩) ?_;refine eL ?_;refine fD rfl rfl rfl (by exact aK rfl cT rfl rfl rfl rfl rfl) ?_
 refine P7 rfl rfl rfl (by exact cW rfl rfl jJ rfl (((tE t (by omega)).tot t0 rfl (eA _)).mono (PP':=fun ch H'=>nW t=false∧ch=BI∧∃ q,H'=jH q++_) (fun _ _ h=>h) (fun ch H' ⟨e,e2,e3⟩=>⟨n0 e,e2,e3⟩))) (fun ch H' h=>by obtain ⟨e,e2,q,rfl⟩:=h;exact mT hb e e2 rfl rfl ⟨_,rfl,OO _⟩ ⟨_,rfl,ON _⟩) (fun h16=>?_);refine HK ?_;refine Sq ?_;refine fE.ent (E':=[(0,sv (ofL t)),(2,.ref 2 0 0 0),(3,.ref 3 0 0 0),(4,.ref 4 0 0 0)]) (H':=[(980,RI L0),(4,inO),(3,eOJ 0),(2,rOJ zR)]) (cD.wk (Eb<|Ea<|Ea<|Ea<|trivial) (Hb<|Ha<|Hb<|Hb<|trivial) ⟨rfl,rfl,trivial⟩) ?_;refine rV (fun ch H1 H2=>nW t=false∧ch=BI∧∃ q,H2=jH q++H1) [2,3] [2,3] [] rfl follows (fun ch E1 H1 H2 hts hsh hks ⟨e,e2,q,e3⟩=>by subst e3;obtain ⟨o2,k1,k2⟩:=hsh 2 (by simp) _ rfl;obtain ⟨o3,k3,k4⟩:=hsh 3 (by simp) _ rfl;exact mT hb e e2 ((hts 2 (by simp)).trans rfl) ((hts 3 (by simp)).trans rfl) ⟨o2,k1,GU k2⟩ ⟨o3,k3,zY k4⟩) ?_;refine bU (r:=⟨_,some [4],[]⟩) (DStep.plain rfl (fun H1 hH=>by exact(by exact aK rfl cT rfl ((hH _ rfl).trans rfl) rfl rfl rfl))) rfl ?_;refine pK (r:=⟨_,some [980],jH L1⟩) (.pan rfl (fun H1 hH=>by exact cW rfl rfl fT rfl (((kD L0 (by omega)).tot t1 ((hH 980 rfl).trans rfl) (eA _)).mono (PP':=fun ch H'=>nW t=false∧ch=BI∧∃ q,H'=jH q++_) (fun _ _ h=>h) (fun ch H' ⟨e,e2,e3⟩=>⟨n1 e,e2,e3⟩)))) rfl ?_;refine bU (r:=⟨_,some [4],[]⟩) (DStep.plain rfl (fun H1 hH=>by exact(by exact aK rfl cT rfl ((hH _ rfl).trans rfl) rfl rfl rfl))) rfl ?_;refine pK (r:=⟨_,some [980],jH L2⟩) (.pan rfl (fun H1 hH=>by exact cW rfl rfl fT rfl (((kD L1 (by omega)).tot t2 ((hH 980 rfl).trans rfl) (eA _)).mono (PP':=fun ch H'=>nW t=false∧ch=BI∧∃ q,H'=jH q++_) (fun _ _ h=>h) (fun ch H' ⟨e,e2,e3⟩=>⟨n2 e,e2,e3⟩)))) rfl ?_;refine bU (r:=⟨_,some [4],[]⟩) (DStep.plain rfl (fun H1 hH=>by exact(by exact aK rfl cT rfl ((hH _ rfl).trans rfl) rfl rfl rfl))) rfl ?_;refine pK (r:=⟨_,some [980],jH L3⟩) (.pan rfl (fun H1 hH=>by exact cW rfl rfl fT rfl (((kD L2 (by omega)).tot t3 ((hH 980 rfl).trans rfl) (eA _)).mono (PP':=fun ch H'=>nW t=false∧ch=BI∧∃ q,H'=jH q++_) (fun _ _ h=>h) (fun ch H' ⟨e,e2,e3⟩=>⟨n3 e,e2,e3⟩)))) rfl ?_;refine bU (r:=⟨_,some [4],[]⟩) (DStep.plain rfl (fun H1 hH=>by exact(by exact aK rfl cT rfl ((hH _ rfl).trans rfl) rfl rfl rfl))) rfl ?_;refine pK (r:=⟨_,some [980],jH L4⟩) (.pan rfl (fun H1 hH=>by exact cW rfl rfl fT rfl (((kD L3 (by omega)).tot t4 ((hH 980 rfl).trans rfl) (eA _)).mono (PP':=fun ch H'=>nW t=false∧ch=BI∧∃ q,H'=jH q++_) (fun _ _ h=>h) (fun ch H' ⟨e,e2,e3⟩=>⟨n4 e,e2,e3⟩)))) rfl ?_;refine bU (r:=⟨_,some [2],[]⟩) (DStep.plain rfl (fun H1 hH=>by exact(by exact aW rfl tL rfl ((hH _ rfl).trans rfl) rfl rfl))) rfl ?_;refine bU (r:=⟨_,some [2],[_]⟩) (DStep.plain rfl (fun H1 hH=>by exact(by exact bA rfl sizeOf3 rfl rfl rfl ((hH _ rfl).trans rfl) rfl rfl (aL6 rfl) rfl rfl))) rfl ?_;refine bU (r:=⟨_,some [2],[]⟩) (DStep.plain rfl (fun H1 hH=>by exact(by exact aW rfl yZ rfl ((hH _ rfl).trans rfl) rfl rfl))) rfl ?_
 refine bU (r:=⟨_,some [2],[_]⟩) (DStep.plain rfl (fun H1 hH=>by exact(by exact bA rfl sizeOf3 rfl rfl rfl ((hH _ rfl).trans rfl) rfl rfl (aL6 rfl) rfl rfl))) rfl ?_;refine bU (r:=⟨_,some [2],[]⟩) (DStep.plain rfl (fun H1 hH=>by exact(by exact aW rfl pT rfl ((hH _ rfl).trans rfl) rfl rfl))) rfl ?_;refine bU (r:=⟨_,some [2],[_]⟩) (DStep.plain rfl (fun H1 hH=>by exact(by exact bA rfl sizeOf3 rfl rfl rfl ((hH _ rfl).trans rfl) rfl rfl (aL6 rfl) rfl rfl))) rfl ?_;refine bU (r:=⟨_,some [2],[]⟩) (DStep.plain rfl (fun H1 hH=>by exact(by exact aW rfl yY rfl ((hH _ rfl).trans rfl) rfl rfl))) rfl ?_;refine bU (r:=⟨_,some [2],[_]⟩) (DStep.plain rfl (fun H1 hH=>by exact(by exact bA rfl sizeOf3 rfl rfl rfl ((hH _ rfl).trans rfl) rfl rfl (aL6 rfl) rfl rfl))) rfl ?_;refine DI ⟨⟨by kernel_rfl,by kernel_rfl,by kernel_rfl⟩,fun hF=>?_⟩;simp only [QJ,true_and,and_true] at hF;refine Sq ?_;have f4:=hF;refine fE.ent (E':=[(0,sv (ofL t)),(2,.ref 2 0 0 0),(3,.ref 3 0 0 0),(4,.ref 4 0 0 0)]) (H':=[(980,RI L4),(4,inO),(3,eOJ 0),(2,rOJ ⟨V1,V2,V3,V4,sNil,[],[],sNil,false,0,sNil,zS,⟨sNil,sNil,[],[],zS⟩⟩)]) (cD.wk (Eb<|Ea<|Ea<|Ea<|trivial) (Hb<|Ha<|Hb<|Hb<|trivial) ⟨rfl,rfl,trivial⟩) ?_;refine rV (fun ch H1 H2=>nW t=false∧ch=BI∧∃ q,H2=jH q++H1) [2,3] [2,3] [] rfl follows (fun ch E1 H1 H2 hts hsh hks ⟨e,e2,q,e3⟩=>by subst e3;obtain ⟨o2,k1,k2⟩:=hsh 2 (by simp) _ rfl;obtain ⟨o3,k3,k4⟩:=hsh 3 (by simp) _ rfl;exact mT hb e e2 ((hts 2 (by simp)).trans rfl) ((hts 3 (by simp)).trans rfl) ⟨o2,k1,GU k2⟩ ⟨o3,k3,zY k4⟩) ?_;refine bU (r:=⟨_,some [4],[]⟩) (DStep.plain rfl (fun H1 hH=>by exact(by exact aK rfl cT rfl ((hH _ rfl).trans rfl) rfl rfl rfl))) rfl ?_;refine pK (r:=⟨_,some [980],jH L5⟩) (.pan rfl (fun H1 hH=>by exact cW rfl rfl jJ rfl (((tE L4 (by omega)).tot t5 ((hH 980 rfl).trans rfl) (eA _)).mono (PP':=fun ch H'=>nW t=false∧ch=BI∧∃ q,H'=jH q++_) (fun _ _ h=>h) (fun ch H' ⟨e,e2,e3⟩=>⟨n5 e,e2,e3⟩)))) rfl ?_;refine bU (r:=⟨_,some [4],[]⟩) (DStep.plain rfl (fun H1 hH=>by exact(by exact aK rfl cT rfl ((hH _ rfl).trans rfl) rfl rfl rfl))) rfl ?_;refine bU (r:=⟨_,some [4],[]⟩) (DStep.plain rfl (fun H1 hH=>by exact(by exact aK rfl cT rfl ((hH _ rfl).trans rfl) rfl rfl rfl))) rfl ?_;refine bU (r:=⟨_,some [],[]⟩) (DStep.plain rfl (fun H1 hH=>by exact lA rfl rfl)) rfl ?_;refine pK (r:=⟨_,some [980],jH L6⟩) (.pan rfl (fun H1 hH=>by exact cW rfl rfl xU rfl (((PC L5 (by omega)).tot t6 ((hH 980 rfl).trans rfl) (eA _)).mono (PP':=fun ch H'=>nW t=false∧ch=BI∧∃ q,H'=jH q++_) (fun _ _ h=>h) (fun ch H' ⟨e,e2,e3⟩=>⟨n6 e,e2,e3⟩)))) rfl ?_;refine bU (r:=⟨_,some [2],[]⟩) (DStep.plain rfl (fun H1 hH=>by exact(by exact aW rfl yX rfl ((hH _ rfl).trans rfl) rfl rfl))) rfl ?_;refine bU (r:=⟨_,some [2],[_]⟩) (DStep.plain rfl (fun H1 hH=>by exact(by exact bA rfl sizeOf9 rfl rfl rfl ((hH _ rfl).trans rfl) rfl rfl (aL6 rfl) rfl rfl))) rfl ?_;refine bU (r:=⟨_,some [2],[]⟩) (DStep.plain rfl (fun H1 hH=>by exact(by exact aW rfl oE rfl ((hH _ rfl).trans rfl) rfl rfl))) rfl ?_
 refine bU (r:=⟨_,some [2],[_]⟩) (DStep.plain rfl (fun H1 hH=>by exact(by exact bA rfl sizeOf22 rfl rfl rfl ((hH _ rfl).trans rfl) rfl rfl (aL6 rfl) rfl rfl))) rfl ?_;refine DI ⟨⟨by kernel_rfl,by kernel_rfl,by kernel_rfl⟩,fun hF=>?_⟩;simp only [QJ,true_and,and_true] at hF;refine Sq ?_;have f6:=hF;refine fE.ent (E':=[(0,sv (ofL t)),(2,.ref 2 0 0 0),(3,.ref 3 0 0 0),(4,.ref 4 0 0 0)]) (H':=[(980,RI L6),(4,inO),(3,eOJ 0),(2,rOJ ⟨V1,V2,V3,V4,V5,V6,[],sNil,false,0,sNil,zS,⟨sNil,sNil,[],[],zS⟩⟩)]) (cD.wk (Eb<|Ea<|Ea<|Ea<|trivial) (Hb<|Ha<|Hb<|Hb<|trivial) ⟨rfl,rfl,trivial⟩) ?_;refine eL ?_;refine fD rfl rfl rfl (by exact aK rfl cT rfl rfl rfl rfl rfl) ?_;refine P7 rfl rfl rfl (by exact cW rfl rfl jJ rfl (((tE L6 (by omega)).tot t7 rfl (eA _)).mono (PP':=fun ch H'=>nW t=false∧ch=BI∧∃ q,H'=jH q++_) (fun _ _ h=>h) (fun ch H' ⟨e,e2,e3⟩=>⟨n7 e,e2,e3⟩))) (fun ch H' h=>by obtain ⟨e,e2,q,rfl⟩:=h;exact mT hb e e2 rfl rfl ⟨_,rfl,OO _⟩ ⟨_,rfl,ON _⟩) (fun h39=>?_);refine fD rfl rfl rfl (by exact aA rfl rfl call54 rfl (hpc _)) ?_;refine fD rfl rfl rfl (by exact eN rfl rfl) ?_;refine fD rfl rfl rfl (by exact pE rfl rfl rfl) ?_;refine fD rfl rfl rfl (by exact pE rfl rfl rfl) ?_;refine fD rfl rfl rfl (by exact aW rfl BR rfl rfl rfl rfl) ?_;refine aDO rfl rfl (by exact bA rfl sizeOf23 rfl rfl rfl rfl rfl rfl (aL6 rfl) rfl rfl) ?_;refine HK ?_;refine Sq ?_;refine fE.ent (E':=[(0,sv (ofL t)),(2,.ref 2 0 0 0),(3,.ref 3 0 0 0),(4,.ref 4 0 0 0)]) (H':=[(980,RI L7),(4,inO),(3,eOJ 0),(2,rOJ ⟨V1,V2,V3,V4,V5,V6,ED,sNil,false,0,sNil,zS,⟨sNil,sNil,[],[],zS⟩⟩)]) (cD.wk (Eb<|Ea<|Ea<|Ea<|trivial) (Hb<|Ha<|Hb<|Hb<|trivial) ⟨rfl,rfl,trivial⟩) ?_;refine rV (fun ch H1 H2=>nW t=false∧ch=BI∧∃ q,H2=jH q++H1) [2,3] [2,3] [] rfl follows (fun ch E1 H1 H2 hts hsh hks ⟨e,e2,q,e3⟩=>by subst e3;obtain ⟨o2,k1,k2⟩:=hsh 2 (by simp) _ rfl;obtain ⟨o3,k3,k4⟩:=hsh 3 (by simp) _ rfl;exact mT hb e e2 ((hts 2 (by simp)).trans rfl) ((hts 3 (by simp)).trans rfl) ⟨o2,k1,GU k2⟩ ⟨o3,k3,zY k4⟩) ?_;refine bU (r:=⟨_,some [4],[]⟩) (DStep.plain rfl (fun H1 hH=>by exact(by exact aK rfl cT rfl ((hH _ rfl).trans rfl) rfl rfl rfl))) rfl ?_;refine pK (r:=⟨_,some [980],jH L8⟩) (.pan rfl (fun H1 hH=>by exact cW rfl rfl jJ rfl (((tE L7 (by omega)).tot t8 ((hH 980 rfl).trans rfl) (eA _)).mono (PP':=fun ch H'=>nW t=false∧ch=BI∧∃ q,H'=jH q++_) (fun _ _ h=>h) (fun ch H' ⟨e,e2,e3⟩=>⟨n8 e,e2,e3⟩)))) rfl ?_;refine bU (r:=⟨_,some [4],[]⟩) (DStep.plain rfl (fun H1 hH=>by exact(by exact aK rfl cT rfl ((hH _ rfl).trans rfl) rfl rfl rfl))) rfl ?_;refine pK (r:=⟨_,some [980],jH L9⟩) (.pan rfl (fun H1 hH=>by exact cW rfl rfl jJ rfl (((tE L8 (by omega)).tot t9 ((hH 980 rfl).trans rfl) (eA _)).mono (PP':=fun ch H'=>nW t=false∧ch=BI∧∃ q,H'=jH q++_) (fun _ _ h=>h) (fun ch H' ⟨e,e2,e3⟩=>⟨n9 e,e2,e3⟩)))) rfl ?_;refine bU (r:=⟨_,some [],[]⟩) (DStep.plain rfl (fun H1 hH=>by exact rF rfl rfl rfl)) rfl ?_;refine bU (r:=⟨_,some [4],[]⟩) (DStep.plain rfl (fun H1 hH=>by exact(by exact aK rfl cT rfl ((hH _ rfl).trans rfl) rfl rfl rfl))) rfl ?_
 refine pK (r:=⟨_,some [980],jH L10⟩) (.pan rfl (fun H1 hH=>by exact cW rfl rfl fT rfl (((kD L9 (by omega)).tot t10 ((hH 980 rfl).trans rfl) (eA _)).mono (PP':=fun ch H'=>nW t=false∧ch=BI∧∃ q,H'=jH q++_) (fun _ _ h=>h) (fun ch H' ⟨e,e2,e3⟩=>⟨n10 e,e2,e3⟩)))) rfl ?_;refine bU (r:=⟨_,some [4],[]⟩) (DStep.plain rfl (fun H1 hH=>by exact(by exact aK rfl cT rfl ((hH _ rfl).trans rfl) rfl rfl rfl))) rfl ?_;refine pK (r:=⟨_,some [980],jH L11⟩) (.pan rfl (fun H1 hH=>by exact cW rfl rfl jJ rfl (((tE L10 (by omega)).tot t11 ((hH 980 rfl).trans rfl) (eA _)).mono (PP':=fun ch H'=>nW t=false∧ch=BI∧∃ q,H'=jH q++_) (fun _ _ h=>h) (fun ch H' ⟨e,e2,e3⟩=>⟨n11 e,e2,e3⟩)))) rfl ?_;refine bU (r:=⟨_,some [2],[]⟩) (DStep.plain rfl (fun H1 hH=>by exact(by exact aW rfl yW rfl ((hH _ rfl).trans rfl) rfl rfl))) rfl ?_;refine bU (r:=⟨_,some [2],[_]⟩) (DStep.plain rfl (fun H1 hH=>by exact(by exact bA rfl sizeOf9 rfl rfl rfl ((hH _ rfl).trans rfl) rfl rfl (aL6 rfl) rfl rfl))) rfl ?_;refine bU (r:=⟨_,some [2],[]⟩) (DStep.plain rfl (fun H1 hH=>by exact(by exact aW rfl EZ rfl ((hH _ rfl).trans rfl) rfl rfl))) rfl ?_;refine bU (r:=⟨_,some [2],[_]⟩) (DStep.plain rfl (fun H1 hH=>by exact(by exact bA rfl sizeOf4 rfl rfl rfl ((hH _ rfl).trans rfl) rfl rfl (aL6 rfl) rfl rfl))) rfl ?_;refine bU (r:=⟨_,some [2],[]⟩) (DStep.plain rfl (fun H1 hH=>by exact(by exact aW rfl BQ rfl ((hH _ rfl).trans rfl) rfl rfl))) rfl ?_;refine bU (r:=⟨_,some [2],[_]⟩) (DStep.plain rfl (fun H1 hH=>by exact(by exact bA rfl sizeOf3 rfl rfl rfl ((hH _ rfl).trans rfl) rfl rfl (aL6 rfl) rfl rfl))) rfl ?_;refine bU (r:=⟨_,some [2],[]⟩) (DStep.plain rfl (fun H1 hH=>by exact(by exact aW rfl wM rfl ((hH _ rfl).trans rfl) rfl rfl))) rfl ?_;refine bU (r:=⟨_,some [2],[_]⟩) (DStep.plain rfl (fun H1 hH=>by exact(by exact bA rfl sizeOf9 rfl rfl rfl ((hH _ rfl).trans rfl) rfl rfl (aL6 rfl) rfl rfl))) rfl ?_;refine DI ⟨⟨by kernel_rfl,by kernel_rfl,by kernel_rfl⟩,fun hF=>?_⟩;simp only [QJ,true_and,and_true] at hF;refine Sq ?_;have f11:=hF;refine fE.ent (E':=[(0,sv (ofL t)),(2,.ref 2 0 0 0),(3,.ref 3 0 0 0),(4,.ref 4 0 0 0)]) (H':=[(980,RI L11),(4,inO),(3,eOJ 0),(2,rOJ ⟨V1,V2,V3,V4,V5,V6,ED,V8,decide (V9=LG),V10,V11,zS,⟨sNil,sNil,[],[],zS⟩⟩)]) (cD.wk (Eb<|Ea<|Ea<|Ea<|trivial) (Hb<|Ha<|Hb<|Hb<|trivial) ⟨rfl,rfl,trivial⟩) ?_;refine eL ?_;refine fD rfl rfl rfl (by exact aK rfl cT rfl rfl rfl rfl rfl) ?_;refine P7 rfl rfl rfl (by exact cW rfl rfl call55 rfl (((XJ L11 (by omega)).tot t12 rfl (eA _)).mono (PP':=fun ch H'=>nW t=false∧ch=BI∧∃ q,H'=jH q++_) (fun _ _ h=>h) (fun ch H' ⟨e,e2,e3⟩=>⟨n12 e,e2,e3⟩))) (fun ch H' h=>by obtain ⟨e,e2,q,rfl⟩:=h;exact mT hb e e2 rfl rfl ⟨_,rfl,OO _⟩ ⟨_,rfl,ON _⟩) (fun h58=>?_);refine fD rfl rfl rfl (by exact aW rfl lK rfl rfl rfl rfl) ?_;refine aDO rfl rfl (by exact lG rfl sizeOf25 rfl rfl rfl rfl rfl rfl rfl (aL6 rfl) rfl rfl) ?_;refine HK ?_;refine Sq ?_
 refine fE.ent (E':=[(0,sv (ofL t)),(2,.ref 2 0 0 0),(3,.ref 3 0 0 0),(4,.ref 4 0 0 0)]) (H':=[(980,RI L12),(4,inO),(3,eOJ 0),(2,rOJ ⟨V1,V2,V3,V4,V5,V6,ED,V8,decide (V9=LG),V10,V11,V12,⟨sNil,sNil,[],[],zS⟩⟩)]) (cD.wk (Eb<|Ea<|Ea<|Ea<|trivial) (Hb<|Ha<|Hb<|Hb<|trivial) ⟨rfl,rfl,trivial⟩) ?_;refine rV (fun ch H1 H2=>nW t=false∧ch=BI∧∃ q,H2=jH q++H1) [2,3] [2,3] [] rfl follows (fun ch E1 H1 H2 hts hsh hks ⟨e,e2,q,e3⟩=>by subst e3;obtain ⟨o2,k1,k2⟩:=hsh 2 (by simp) _ rfl;obtain ⟨o3,k3,k4⟩:=hsh 3 (by simp) _ rfl;exact mT hb e e2 ((hts 2 (by simp)).trans rfl) ((hts 3 (by simp)).trans rfl) ⟨o2,k1,GU k2⟩ ⟨o3,k3,zY k4⟩) ?_;refine bU (r:=⟨_,some [4],[]⟩) (DStep.plain rfl (fun H1 hH=>by exact(by exact aK rfl cT rfl ((hH _ rfl).trans rfl) rfl rfl rfl))) rfl ?_;refine pK (r:=⟨_,some [980],jH L13⟩) (.pan rfl (fun H1 hH=>by exact cW rfl rfl jJ rfl (((tE L12 (by omega)).tot t13 ((hH 980 rfl).trans rfl) (eA _)).mono (PP':=fun ch H'=>nW t=false∧ch=BI∧∃ q,H'=jH q++_) (fun _ _ h=>h) (fun ch H' ⟨e,e2,e3⟩=>⟨n13 e,e2,e3⟩)))) rfl ?_;refine bU (r:=⟨_,some [4],[]⟩) (DStep.plain rfl (fun H1 hH=>by exact(by exact aK rfl cT rfl ((hH _ rfl).trans rfl) rfl rfl rfl))) rfl ?_;refine pK (r:=⟨_,some [980],jH L14⟩) (.pan rfl (fun H1 hH=>by exact cW rfl rfl jJ rfl (((tE L13 (by omega)).tot t14 ((hH 980 rfl).trans rfl) (eA _)).mono (PP':=fun ch H'=>nW t=false∧ch=BI∧∃ q,H'=jH q++_) (fun _ _ h=>h) (fun ch H' ⟨e,e2,e3⟩=>⟨n14 e,e2,e3⟩)))) rfl ?_;refine bU (r:=⟨_,some [4],[]⟩) (DStep.plain rfl (fun H1 hH=>by exact(by exact aK rfl cT rfl ((hH _ rfl).trans rfl) rfl rfl rfl))) rfl ?_;refine bU (r:=⟨_,some [4],[]⟩) (DStep.plain rfl (fun H1 hH=>by exact(by exact aK rfl cT rfl ((hH _ rfl).trans rfl) rfl rfl rfl))) rfl ?_;refine bU (r:=⟨_,some [],[]⟩) (DStep.plain rfl (fun H1 hH=>by exact lA rfl rfl)) rfl ?_;refine pK (r:=⟨_,some [980],jH L15⟩) (.pan rfl (fun H1 hH=>by exact cW rfl rfl xU rfl (((PC L14 (by omega)).tot t15 ((hH 980 rfl).trans rfl) (eA _)).mono (PP':=fun ch H'=>nW t=false∧ch=BI∧∃ q,H'=jH q++_) (fun _ _ h=>h) (fun ch H' ⟨e,e2,e3⟩=>⟨n15 e,e2,e3⟩)))) rfl ?_;refine bU (r:=⟨_,some [4],[]⟩) (DStep.plain rfl (fun H1 hH=>by exact(by exact aK rfl cT rfl ((hH _ rfl).trans rfl) rfl rfl rfl))) rfl ?_;refine bU (r:=⟨_,some [4],[]⟩) (DStep.plain rfl (fun H1 hH=>by exact eZ rfl rfl)) rfl ?_;refine pK (r:=⟨_,some [980,4],jH L16⟩) (.pan rfl (fun H1 hH=>by exact cW rfl rfl call56 rfl (((aEz L15 (by omega)).tot t16 ((hH 980 rfl).trans rfl) (KP.sub ⟨(hH 4 rfl).trans rfl,trivial⟩)).mono (PP':=fun ch H'=>nW t=false∧ch=BI∧∃ q,H'=jH q++_) (fun _ _ h=>h) (fun ch H' ⟨e,e2,e3⟩=>⟨n16 e,e2,e3⟩)))) rfl ?_;refine bU (r:=⟨_,some [],[]⟩) (DStep.plain rfl (fun H1 hH=>by exact GO rfl aHn rfl rfl)) rfl ?_;refine bU (r:=⟨_,some [2],[]⟩) (DStep.plain rfl (fun H1 hH=>by exact(by exact aW rfl eV rfl ((hH _ rfl).trans rfl) rfl rfl))) rfl ?_;refine bU (r:=⟨_,some [2],[_]⟩) (DStep.plain rfl (fun H1 hH=>by exact(by exact lG rfl sizeOf28 rfl rfl rfl rfl ((hH _ rfl).trans rfl) rfl rfl (aL6 rfl) rfl rfl))) rfl ?_
 refine DI ⟨⟨by kernel_rfl,by kernel_rfl,by kernel_rfl⟩,fun hF=>?_⟩;simp only [QJ,true_and,and_true] at hF;refine Sq ?_;have f16:=hF;refine fE.ent (E':=[(0,sv (ofL t)),(2,.ref 2 0 0 0),(3,.ref 3 0 0 0),(4,.ref 4 0 0 0)]) (H':=[(980,RI L16),(4,inO),(3,eOJ 0),(2,rOJ ⟨V1,V2,V3,V4,V5,V6,ED,V8,decide (V9=LG),V10,V11,V12,⟨V13,V14,V15,V16,zS⟩⟩)]) (cD.wk (Eb<|Ea<|Ea<|Ea<|trivial) (Hb<|Ha<|Hb<|Hb<|trivial) ⟨rfl,rfl,trivial⟩) ?_;refine eL ?_;refine fD rfl rfl rfl (by exact aK rfl cT rfl rfl rfl rfl rfl) ?_;refine P7 rfl rfl rfl (by exact cW rfl rfl call55 rfl (((XJ L16 (by omega)).tot t17 rfl (eA _)).mono (PP':=fun ch H'=>nW t=false∧ch=BI∧∃ q,H'=jH q++_) (fun _ _ h=>h) (fun ch H' ⟨e,e2,e3⟩=>⟨n17 e,e2,e3⟩))) (fun ch H' h=>by obtain ⟨e,e2,q,rfl⟩:=h;exact mT hb e e2 rfl rfl ⟨_,rfl,OO _⟩ ⟨_,rfl,ON _⟩) (fun h74=>?_);refine fD rfl rfl rfl (by exact aW rfl eV rfl rfl rfl rfl) ?_;refine fD rfl rfl rfl (by exact aW rfl nM rfl rfl rfl rfl) ?_;refine aDO rfl rfl (by exact lG rfl sizeOf25 rfl rfl rfl rfl rfl rfl rfl (aL6 rfl) rfl rfl) ?_;refine HK ?_;refine Sq<|Sq ?_;refine fE.ent (E':=[(0,sv (ofL t)),(2,.ref 2 0 0 0),(3,.ref 3 0 0 0),(4,.ref 4 0 0 0)]) (H':=[(980,RI L17),(4,inO),(3,eOJ 0),(2,rOJ ⟨V1,V2,V3,V4,V5,V6,ED,V8,decide (V9=LG),V10,V11,V12,⟨V13,V14,V15,V16,V17⟩⟩)]) (cD.wk (Eb<|Ea<|Ea<|Ea<|trivial) (Hb<|Ha<|Hb<|Hb<|trivial) ⟨rfl,rfl,trivial⟩) ?_;have hokt:=yes h16 f4.1 f4.2.1 f4.2.2.1 f4.2.2.2 f6.1 f6.2 h39 f11.1 f11.2.1 f11.2.2.1 f11.2.2.2 h58 f16.1 f16.2.1 f16.2.2.1 f16.2.2.2 h74;have hg1:fR t=if TX=(ofL t,0)then(⟨V1,V2,V3,V4,V5,V6,ED,V8,decide (V9=LG),V10,V11,V12,⟨V13,V14,V15,V16,V17⟩⟩,0)else(zR,5):=by rw [hg0];by_cases e:TX=(ofL t,0);rw [aLS ⟨hokt,e⟩,aLS e];rw [aLR (fun h=>e h.2),aLR e]
 refine Rg<|Dd (pZ aR aL)<|Dd (by exact aA rfl rfl mE rfl (htx _))<|Dd aF<|Dd dV<|Dd dV<|Dd aP<|Dd aP<|Zz<|Sq ?_;refine bD (t:=88) (n:=8) (X:=!decide (TX.2=0)||!decide (TX.1=ofL t)) ?_ ?_
 ·all_goals refine Dd aF ?_
  all_goals refine Dd uL<|Dm ?_
  all_goals refine Sp 84 (fun h84=>?_) fun h84=>?_
  all_goals try contradiction
  all_goals first|refine Fo<|Fo<|Fo ?_|refine On aF<|On aF<|On Q6 ?_
  all_goals refine Dd cE<|Zz ?_
  all_goals(exact⟨⟨_,rfl,by(rw [h84];rfl)⟩,rfl,rfl,rfl⟩)
 refine Cn ?_ ?_<;>intro hc1
 ·have hne:TX≠(ofL t,0):=by have:=hc1;rintro rfl;simp at this
  refine Sr<|Dd (uX TB)<|Uu (iH aL)<|Uu (iH sizeOf41)<|Zz<|aC ?_;exact MT (by rw [hg1,aLR hne]) (cD.wk (Ea<|Ea<|trivial) (Hb<|Hb<|trivial) ⟨rfl,rfl,trivial⟩)
 have heq:TX=(ofL t,0):=by have:=hc1;rw [aLf,Bool.not_eq_false',Bool.not_eq_false',aL0,aL0] at this;exact Prod.ext this.2 this.1
 refine aE<|Sr<|Dd (pZ aR aL)<|Uu (iH aL)<|Uu (iH sizeOf41)<|Zz<|aC ?_;exact MT (by rw [hg1,aLS heq]) (cD.wk (Ea<|Ea<|trivial) (Hb<|Hb<|trivial) ⟨rfl,rfl,trivial⟩)
end Go.Proofs.YtiifmppaejpemaaGreatDoor
namespace Go.Proofs.YtiifmppaejpemaaGreatDoor
open Go.Proofs.Tryz
open Go.Abs Go.Lib
theorem gZ {α:Type} {f:List UInt8→Option (α×List UInt8)} {d:α} {l:List UInt8} {p:α×List UInt8} (h:f l=some p):EB f d l=p:=by rw [EB,h];rfl
theorem WC {l:List GEdit} (h:(jL l).2=true):(kN (jL l).1).1=l:=by
 rw [jL] at h ⊢
 split at h
 ·next h0 =>
  rw [aLS h0,List.eq_nil_of_length_eq_zero h0]
  kernel_rfl
 next h0 =>
 rw [aLR h0];exact congrArg Prod.fst (FT (aLP h))
theorem aAw (b:Bool):decide (bL (if b then 1 else 0)=LG)=b:=by cases b<;>kernel_rfl
def aEN (r:GRec):List ByteArray:=[]
def aEO (r:GRec):List ByteArray:=fI (.z r.priv.sl.idx r.priv.sl.sig r.priv.sl.path)++aEN r
def aEP (r:GRec):List ByteArray:=fI (.p r.priv.trace)++aEO r
def aEQ (r:GRec):List ByteArray:=bL (r.priv.sources.length:Int)::(r.priv.sources++aEP r)
def aER (r:GRec):List ByteArray:=r.priv.reason::aEQ r
def aES (r:GRec):List ByteArray:=r.priv.name::aER r
def aET (r:GRec):List ByteArray:=fI (.z r.sl.idx r.sl.sig r.sl.path)++aES r
def aEU (r:GRec):List ByteArray:=r.from'::aET r
def aEV (r:GRec):List ByteArray:=bL r.order::aEU r
def sf9 (r:GRec):List ByteArray:=(bL (if r.yes then 1 else 0))::aEV r
def sf8 (r:GRec):List ByteArray:=r.target::sf9 r
def sf7 (r:GRec):List ByteArray:=(jL r.edits).1::sf8 r
def sf6 (r:GRec):List ByteArray:=bL (r.parents.length:Int)::(r.parents++sf7 r)
def sf5 (r:GRec):List ByteArray:=r.branch::sf6 r
def sf4 (r:GRec):List ByteArray:=bL r.clock::sf5 r
def sf3 (r:GRec):List ByteArray:=bL r.number::sf4 r
def sf2 (r:GRec):List ByteArray:=bL r.author::sf3 r
def sf1 (r:GRec):List ByteArray:=bL r.kind::sf2 r
def sf0 (r:GRec):List ByteArray:=UR::sf1 r
theorem aHq (r:GRec):qP r=sf0 r:=by simp [qP,oD,tN,EC,CI,fI,sf0,sf1,sf2,sf3,sf4,sf5,sf6,sf7,sf8,sf9,aEV,aEU,aET,aES,aER,aEQ,aEP,aEO,aEN]
theorem ZK {r:GRec} (h:VF r):nW (aO (qP r))=true∧lY (aO (qP r))=r:=by
 have hk:=NB h.k;have hau:=h.au;have hnu:=h.nu;have hcl:=h.cl;have hod:=h.order;have hpl:=h.pal;have hsl:=jT h.sl;have hps:=jT h.psl;have s0:=hsl.i0;have s1:=hsl.i1;have s2:=hsl.sl;have s3:=hsl.pl;have z0:=hps.i0;have z1:=hps.i1;have z2:=hps.sl;have z3:=hps.pl;have hso:=h.sol;have htr:=h.trl;have hbr:=EO h.br;have htx:=HZ h.tx;have hta:=h.target;have hfr:=h.from
 have hnm:=h.nm;have hrs:=h.rs;have hJ:∀ {l:List ByteArray},(∀ t∈l,isJ t=true)→∀ t∈l,BC t:=fun hl t ht=>Nat.lt_of_le_of_lt (qI (hl t ht)) (by decide);rw [aHq];obtain ⟨t,ht⟩:∃ t,t=aO (sf0 r):=⟨_,rfl⟩;rw [← ht];have f0:gL t=some (UR,aO (sf1 r)):=by rw [ht];exact iJ _ (show UR.size < 1000000000000000000 by decide)
 have q0:p0 t=(UR,aO (sf1 r)):=gZ f0;have f1:lR (p0 t).2=some (r.kind,aO (sf2 r)):=by rw [q0];exact iK _ (by omega) (by omega)
 have q1:p1 t=(r.kind,aO (sf2 r)):=gZ f1;have f2:lR (p1 t).2=some (r.author,aO (sf3 r)):=by rw [q1];exact iK _ (by omega) (by omega)
 have q2:p2 t=(r.author,aO (sf3 r)):=gZ f2;have f3:lR (p2 t).2=some (r.number,aO (sf4 r)):=by rw [q2];exact iK _ (by omega) (by omega)
 have q3:p3 t=(r.number,aO (sf4 r)):=gZ f3;have f4:lR (p3 t).2=some (r.clock,aO (sf5 r)):=by rw [q3];exact iK _ (by omega) (by omega)
 have q4:p4 t=(r.clock,aO (sf5 r)):=gZ f4;have f5:gL (p4 t).2=some (r.branch,aO (sf6 r)):=by rw [q4];exact iJ _ (Nat.lt_of_le_of_lt hbr (by decide))
 have q5:p5 t=(r.branch,aO (sf6 r)):=gZ f5;have f6:(sG gL) (p5 t).2=some (r.parents,aO (sf7 r)):=by rw [q5];exact wE _ _ (hJ h.pa) (by omega)
 have q6:p6 t=(r.parents,aO (sf7 r)):=gZ f6;have f7:gL (p6 t).2=some ((jL r.edits).1,aO (sf8 r)):=by rw [q6];exact iJ _ (Nat.lt_of_le_of_lt htx (by decide))
 have q7:p7 t=((jL r.edits).1,aO (sf8 r)):=gZ f7;have f8:gL (p7 t).2=some (r.target,aO (sf9 r)):=by rw [q7];exact iJ _ (Nat.lt_of_le_of_lt hta (by decide))
 have q8:p8 t=(r.target,aO (sf9 r)):=gZ f8;have f9:gL (p8 t).2=some ((bL (if r.yes then 1 else 0)),aO (aEV r)):=by rw [q8];exact iJ _ (F5 (by split<;>decide) (by split<;>decide))
 have q9:p9 t=((bL (if r.yes then 1 else 0)),aO (aEV r)):=gZ f9;have f10:lR (p9 t).2=some (r.order,aO (aEU r)):=by rw [q9];exact iK _ (by omega) (by omega)
 have q10:K4 t=(r.order,aO (aEU r)):=gZ f10;have f11:gL (K4 t).2=some (r.from',aO (aET r)):=by rw [q10];exact iJ _ (Nat.lt_of_le_of_lt hfr (by decide))
 have q11:K0 t=(r.from',aO (aET r)):=gZ f11;have f12:OL (K0 t).2=some (r.sl,aO (aES r)):=by rw [q11];exact IG _ _ s0 (by omega) (hJ hsl.sa) (hJ hsl.pa) (by omega) (by omega)
 have q12:KZ t=(r.sl,aO (aES r)):=gZ f12;have f13:gL (KZ t).2=some (r.priv.name,aO (aER r)):=by rw [q12];exact iJ _ (Nat.lt_of_le_of_lt hnm (by decide))
 have q13:KY t=(r.priv.name,aO (aER r)):=gZ f13;have f14:gL (KY t).2=some (r.priv.reason,aO (aEQ r)):=by rw [q13];exact iJ _ (Nat.lt_of_le_of_lt hrs (by decide))
 have q14:KX t=(r.priv.reason,aO (aEQ r)):=gZ f14;have f15:(sG gL) (KX t).2=some (r.priv.sources,aO (aEP r)):=by rw [q14];exact wE _ _ (fun x hx=>Nat.lt_of_le_of_lt (h.so x hx) (by decide)) (by omega)
 have q15:KW t=(r.priv.sources,aO (aEP r)):=gZ f15;have f16:(sG EF) (KW t).2=some (r.priv.trace,aO (aEO r)):=by rw [q15];exact VI _ _ (fun q hq=>by obtain ⟨⟨a1,a2⟩,a3,a4⟩:=h.tr q hq;exact⟨⟨by omega,by omega⟩,by omega,by omega⟩) (by omega)
 have q16:KV t=(r.priv.trace,aO (aEO r)):=gZ f16;have f17:OL (KV t).2=some (r.priv.sl,aO (aEN r)):=by rw [q16];exact IG _ _ z0 (by omega) (hJ hps.sa) (hJ hps.pa) (by omega) (by omega)
 have q17:p17 t=(r.priv.sl,aO (aEN r)):=gZ f17;constructor
 ·unfold nW O7;rw [f0,f1,f2,f3,f4,f5,f6,f7,f8,f9,f10,f11,f12,f13,f14,f15,f16,f17];rfl
 unfold lY;rw [q1,q2,q3,q4,q5,q6,q7,q8,q9,q10,q11,q12,q13,q14,q15,q16,q17,WC h.tx,aAw]
theorem vW {r:GRec} {t:List UInt8} (h:eD r=(ofL t,0)):fR t=(r,0):=by
 have h0:=h;rw [eD] at h;by_cases hv:dH r=true
 ·rw [aLS hv] at h
  split at h
  ·cases h
  next hl =>
  have ht:t=aO (qP r):=by
   have:=congrArg (fun p:ByteArray×Int=>p.1.data.toList) h;simp only [dW] at this;exact this.symm
  obtain ⟨h1,h2⟩:=ZK (oX hv);rw [← ht] at h1 h2 hl;rw [fR,aLR hl,h2,aLS ⟨h1,h0⟩]
 rw [aLR hv] at h;cases h
end Go.Proofs.YtiifmppaejpemaaGreatDoor
namespace Go.Proofs.YtiifmppaejpemaaGreatDoor
open Go.Proofs.Tryz
open Go.Abs
def WK (e:GEdit):Bool:=((decide (300 < IntKind.i64.wrap (IntKind.i64.wrap (IntKind.i64.wrap ((e.id.size:Int)+(e.other.size:Int))+(e.node.size:Int))+(e.key.size:Int)))||decide (600 < (e.val.size:Int)))||decide (40 < ((e.refs.map encStr).length:Int)))||A7 e.obj 40
def xK (e:GEdit):Bool:=WK e||e.refs.any (xC 300)
def tM (l:List GEdit) (n:Int):Bool:=decide ((l.length:Int)≤n)&&!l.any xK
theorem aFN (l:List GEdit) (n:Int) (H:aB) (hl:l.length < 4611686018427387904) (ho:∀ e,e∈l→aGD e.obj∧e.refs.length < 4611686018427387904) :
  aH Tryz.prog 112 [.pv (iO l),iv n] H (fun r H'=>r=bv (tM l n)∧H'=H):=by
 refine Pu ?_;have hml:(l.map aZ).length=l.length:=aLT _;have hB:tM l n=(decide (((l.map aZ).length:Int)≤n)&&!l.any xK):=by rw [tM,hml]
 refine Bd func112 rfl ntmps112<|Sr<|Dd aP<|Zz<|Sq<|Sr<|Dd aP<|Zz<|aG ?_;refine bQ (σ:=Nat) (fun k=>([(0,.pv (iO l)),(1,iv n),(5,iv (k:Int))],[])) (fun k=>k≤l.length∧∀ j,j < k→∀ b,l[j]?=some b→xK b=false) (fun k=>l.length - k) 0 ⟨by omega,by omega⟩ ?_ ?_
 ·exact Wk
 rintro k ⟨hk,hno⟩;refine Sq<|Sq ?_;refine bD (t:=17) (n:=11) (X:=decide ((k:Int) < ((l.map aZ).length:Int))&&decide (((l.map aZ).length:Int)≤n)) ?_ ?_
 ·all_goals refine Dd aF ?_
  all_goals refine Dd aF<|Dd (fY dD)<|Dd dK<|Dm ?_
  all_goals refine Sp 12 (fun h12=>?_) fun h12=>?_
  all_goals try contradiction
  all_goals first|refine Fo<|Fo<|Fo<|Fo ?_|refine On aF<|On (fY dD)<|On aF<|On TP ?_
  all_goals refine Dd cE<|Zz ?_
  all_goals(exact⟨⟨_,rfl,by(rw [h12];rfl)⟩,rfl,rfl,rfl⟩)
 refine Cn ?_ ?_<;>intro hc1
 ·have h:=hc1;rw [aL2,aL0] at h;have hlt:k < l.length:=by have:=h.1;omega
  obtain ⟨e,hel⟩:=bE hlt;have hi:=cJ (f:=aZ) hel;obtain ⟨ho1,ho2⟩:=ho e (aL3 hel);have hrl:(e.refs.map encStr).length=e.refs.length:=aLT _;obtain ⟨w,hw⟩:∃ w,w=IntKind.i64.wrap (IntKind.i64.wrap (IntKind.i64.wrap ((e.id.size:Int)+(e.other.size:Int))+(e.node.size:Int))+(e.key.size:Int)):=⟨_,rfl⟩;have hbh:WK e=(((decide (300 < w)||decide (600 < (e.val.size:Int)))||decide (40 < ((e.refs.map encStr).length:Int)))||!!A7 e.obj 40):=by rw [WK,← hw,Bool.not_not]
  refine aE<|Sq<|aG<|Sr<|Dd aF<|Dd aF<|Dd (xZ UI)<|Dd (by exact cQ rfl bS aV rfl (by omega) (by simp only [Zl,bF,bH,encStr,aZ,iZ];rfl) rfl)<|Dd (by exact bC (id:=6) rfl WV rfl rfl)<|Uu (iH aV)<|Zz<|Sq<|Sq ?_;refine bD (t:=57) (n:=37) (X:=((decide (300 < w)||decide (600 < (e.val.size:Int)))||decide (40 < ((e.refs.map encStr).length:Int)))||!!A7 e.obj 40) ?_ ?_
  ·all_goals refine Dd (bB kQ) ?_
   all_goals refine Dd (bK isAgg9)<|Dd (nT underlying9)<|Dd (bB iG)<|Dd (bK isAgg9)<|Dd (nT underlying9)<|Dd (by exact cA rfl rfl rfl rfl)<|Dd (bB nO)<|Dd (bK isAgg9)<|Dd (nT underlying9)<|Dd (by exact cA rfl rfl rfl rfl)<|Dd (bB kP)<|Dd (bK isAgg9)<|Dd (nT underlying9)<|Dd (by exact cA rfl rfl rfl (hw.symm))<|Dd mI<|Dm ?_
   all_goals refine Sp 40 (fun h40=>?_) fun h40=>?_
   all_goals try contradiction
   all_goals first|refine Fo<|Fo<|Fo<|Fo ?_|refine On (bB lM)<|On (bK isAgg9)<|On (nT underlying9)<|On mI ?_
   all_goals refine Dd cE<|Dm ?_
   all_goals refine Sp 46 (fun h46=>?_) fun h46=>?_
   all_goals try contradiction
   all_goals first|refine Fo<|Fo<|Fo<|Fo ?_|refine On (bB eS)<|On (bK aJ)<|On (fY aD)<|On mI ?_
   all_goals refine Dd cE<|Dm ?_
   all_goals refine Sp 52 (fun h52=>?_) fun h52=>?_
   all_goals try contradiction
   all_goals first|refine Fo<|Fo<|Fo<|Fo ?_|refine On (bB qK)<|On (pZ cN sizeOf153)<|On (by exact aA rfl rfl call157 rfl (aFO e.obj 40 _ ho1))<|On lI ?_
   all_goals refine Dd cE<|Zz ?_
   all_goals(exact⟨⟨_,rfl,by first|(rw [h40];rfl)|(rw [h40,h46];rfl)|(rw [h40,h46,h52];rfl)⟩,rfl,rfl,rfl⟩)
  refine Cn ?_ ?_<;>intro hc2
  ·have hb:xK e=true:=by rw [xK,hbh,hc2];rfl
   have hf:tM l n=false:=by rw [tM,zM (p:=xK) hel hb];simp
   rw [hf];exact Sr<|Dd aP<|Zz<|aC<|Rt<|Qq
  refine aE<|Sr<|Dd aP<|Zz<|aG ?_;refine bQ (σ:=Nat) (fun q=>([(0,.pv (iO l)),(1,iv n),(5,iv (k:Int)),(6,.ref 6 0 0 0),(7,iv (q:Int))],[(6,bx 15 155 ((aZ e).map .pv))])) (fun q=>q≤e.refs.length∧∀ j,j < q→∀ b,e.refs[j]?=some b→xC 300 b=false) (fun q=>e.refs.length - q) 0 ⟨by omega,by omega⟩ ?_ ?_
  ·exact Wk
  rintro q ⟨hq,hnr⟩;refine Sq<|Sr<|Dd aF<|Dd (bB eS)<|Dd (bK aJ)<|Dd (fY aD)<|Dd dK<|Zz ?_;refine Cn ?_ ?_<;>intro hc3
  ·have hql:q < e.refs.length:=by have:=aLP hc3;omega
   obtain ⟨s,hs⟩:=bE hql;have hi2:=cJ (f:=encStr) hs;refine aE<|Sq<|aG<|Sr<|Dd (bB eS)<|Dd (bK aJ)<|Dd aF<|Dd (by exact bN rfl cP rfl rfl (by omega) (by exact aL4 _) hi2 rfl)<|Dd (pH isAgg9)<|Dd (nT underlying9)<|Dd mI<|Zz ?_;refine Cn ?_ ?_<;>intro hc4
   ·have hb:xK e=true:=by rw [xK,zM (p:=xC 300) hs hc4,Bool.or_true]
    have hf:tM l n=false:=by rw [tM,zM (p:=xK) hel hb];simp
    rw [hf];exact Sr<|Dd aP<|Zz<|aC<|Rt<|Qq
   refine aE<|Rg<|Dd aF<|Dd pM<|Da ?_;exact⟨q+1,⟨by omega,yI (p:=xC 300) hnr hs hc4⟩,by omega,Wk⟩
  have hge:q=e.refs.length:=by have:=aLQ hc3;omega
  subst hge;have hb:xK e=false:=by rw [xK,hbh,hc2,DP hnr];rfl
  refine bG<|Rg<|Dd aF<|Dd pM<|Da ?_;exact⟨k+1,⟨by omega,yI (p:=xK) hno hel hb⟩,by omega,Wk⟩
 refine bG<|Sr<|Dd aF<|Dd (fY dD)<|Dd aF<|Dd TP<|Dd aP<|Zz<|aC<|Rt ?_;refine⟨?_,rfl⟩;rw [hB];have h:=hc1;rw [Bool.and_eq_false_iff,aL1] at h;rcases h with h|h
 ·have hge:k=l.length:=by omega
  subst hge;rw [DP hno];simp
 rw [h];rfl
theorem DF {α:Type} {a b:List α} {n:Nat} (hl:a.length=b.length) (hn:n=a.length) (h:a.take n=b.take n):a=b:=by rw [List.take_of_length_le (by omega),List.take_of_length_le (by omega)] at h;exact h
theorem vK {α:Type} {a b:List α} {i:Nat} {x y:α} (h:a.take i=b.take i) (hx:a[i]?=some x) (hy:b[i]?=some y) (e:x=y):a.take (i+1)=b.take (i+1):=by rw [List.take_add_one,List.take_add_one,h,hx,hy,e]
theorem XV {α:Type} {a b:List α} {i:Nat} {x y:α} (hx:a[i]?=some x) (hy:b[i]?=some y) (e:x≠y):a≠b:=fun h=>by
 subst h;rw [hx] at hy;exact e (Option.some.inj hy)
theorem sM (a b:List ByteArray) (H:aB) (ha:a.length < 4611686018427387904) (hb:b.length < 4611686018427387904):aH Tryz.prog 91 [.pv (aU a),.pv (aU b)] H (fun r H'=>r=bv (decide (a=b))∧H'=H):=by
 refine Pu ?_;have hma:(a.map encStr).length=a.length:=aLT _;have hmb:(b.map encStr).length=b.length:=aLT _;refine Bd func91 rfl ntmps91<|Sr<|Dd aP<|Zz<|Sq<|Sr<|Dd aF<|Dd (fY aD)<|Dd aF<|Dd (fY aD)<|Dd uL<|Zz ?_;refine Cn ?_ ?_<;>intro hc1
 ·have hne:a≠b:=by have h:=hc1;intro e;subst e;simp at h
  rw [decide_eq_false hne];exact Sr<|Dd aP<|Zz<|aC<|Rt<|Qq
 have hl:a.length=b.length:=by have h:=hc1;simp only [Bool.not_eq_false',aL0] at h;omega
 refine aE<|Sq<|Sr<|Dd aP<|Zz<|aG ?_;refine bQ (σ:=Nat) (fun i=>([(0,.pv (aU a)),(1,.pv (aU b)),(5,iv (i:Int))],[])) (fun i=>i≤a.length∧a.take i=b.take i) (fun i=>a.length - i) 0 ⟨by omega,rfl⟩ ?_ ?_
 ·exact Wk
 rintro i ⟨hi,hp⟩;refine Sq<|Sr<|Dd aF<|Dd aF<|Dd (fY aD)<|Dd dK<|Zz ?_;refine Cn ?_ ?_<;>intro hc2
 ·have hil:i < a.length:=by have:=aLP hc2;omega
  obtain ⟨s,hs⟩:=bE hil;obtain ⟨u,hu⟩:=bE (show i < b.length by omega);have hi1:=cJ (f:=encStr) hs;have hi2:=cJ (f:=encStr) hu;refine aE<|Sq<|aG<|Sq<|aQ follows<|Cq aF<|Cq aF<|Cq (by exact bN rfl cP rfl rfl (by omega) (by exact aL4 _) hi1 rfl)<|Cq (pH isAgg9 (hi:=hi1))<|Cq aF<|Cq aF<|Cq (by exact bN rfl cP rfl rfl (by omega) (by exact aL4 _) hi2 rfl)<|Cq (pH isAgg9 (hi:=hi2))<|Cq Q6<|bJ<|Kr ?_;refine Cn ?_ ?_<;>intro hc3
  ·have hne:s≠u:=by have h:=hc3;intro e;subst e;simp at h
   rw [decide_eq_false (XV hs hu hne)];exact Sr<|Dd aP<|Zz<|aC<|Rt<|Qq
  have heq:s=u:=by have h:=hc3;simpa using h
  refine aE<|Rg<|Dd aF<|Dd (by exact cA rfl rfl rfl (show IntKind.i64.wrap ((i:Int)+1)=((i+1:Nat):Int)by rw [pO (by omega) (by omega)];omega))<|Da ?_;exact⟨i+1,⟨by omega,vK hp hs hu heq⟩,by omega,Wk⟩
 have hge:i=a.length:=by have:=aLQ hc2;omega
 rw [decide_eq_true (DF hl hge hp)];exact bG<|Sr<|Dd aP<|Zz<|aC<|Rt<|Qq
def RY (s:GSeal):Prop:=s.sig.length < 4611686018427387904∧s.path.length < 4611686018427387904
theorem RX {s:GSeal} (h:rI s):RY s:=⟨by have:=h.2.1.1;omega,by have:=h.2.2.1;omega⟩
theorem IJ (a b:GSeal) (H:aB) (ha:RY a) (hb:RY b):aH Tryz.prog 35 [av (iB a),av (iB b)] H (fun r H'=>r=bv (decide (a=b))∧H'=H):=by
 refine aH.pure ?_ (by simp [iB]) H;have hs1:=fun H=>sM a.sig b.sig H ha.1 hb.1;have hs2:=fun H=>sM a.path b.path H ha.2 hb.2;have hX:decide (a=b)=((decide (a.idx=b.idx)&&decide (a.sig=b.sig))&&decide (a.path=b.path)):=by
  obtain ⟨a1,a2,a3⟩:=a;obtain ⟨b1,b2,b3⟩:=b;rw [Bool.eq_iff_iff];simp [and_assoc]
 rw [hX];refine Bd func35 rfl ntmps35<|Sr<|Dd (by exact bZ (id:=2) rfl rfl rfl rfl rfl)<|Dd (by exact bZ (id:=3) rfl rfl rfl rfl rfl)<|Dd aP<|Zz<|Sq ?_;refine bD (t:=4) (n:=22) (X:=(decide (a.idx=b.idx)&&decide (a.sig=b.sig))&&decide (a.path=b.path)) ?_ ?_
 ·all_goals refine Dd (bB lS) ?_
  all_goals refine Dd (bK isAgg3)<|Dd (bB lS)<|Dd (bK isAgg3)<|Dd cY<|Dm ?_
  all_goals refine Sp 10 (fun h10=>?_) fun h10=>?_
  all_goals try contradiction
  all_goals first|refine Fo<|Fo<|Fo<|Fo<|Fo ?_|refine On (bB iL)<|On (bK aJ)<|On (bB iL)<|On (bK aJ)<|On (by exact aA rfl rfl aDd rfl (hs1 _)) ?_
  all_goals refine Dd cE<|Dm ?_
  all_goals refine Sp 17 (fun h17=>?_) fun h17=>?_
  all_goals try contradiction
  all_goals first|refine Fo<|Fo<|Fo<|Fo<|Fo ?_|refine On (bB mK)<|On (bK aJ)<|On (bB mK)<|On (bK aJ)<|On (by exact aA rfl rfl aDd rfl (hs2 _)) ?_
  all_goals refine Dd cE<|Da ?_
  all_goals(exact⟨⟨_,rfl,by first|(rw [h10];rfl)|(rw [h10,h17];rfl)⟩,rfl,rfl,rfl⟩)
 exact aC<|Rt<|Qq
def OU (a b:GPriv):Bool:=((decide (a.name=b.name)&&decide (a.reason=b.reason))&&decide (a.sources=b.sources))&&decide (a.trace=b.trace)
def aEe (a b:GPriv):Bool:=((!decide (a.name=b.name)||!decide (a.reason=b.reason))||!decide (a.sources=b.sources))||!decide (((a.trace.map fM).length:Int)=((b.trace.map fM).length:Int))
theorem KR (a b:GPriv) (H:aB) (ha:a.sources.length < 4611686018427387904) (hb:b.sources.length < 4611686018427387904) (hat:a.trace.length < 4611686018427387904):aH Tryz.prog 30 [av (qM a),av (qM b)] H (fun r H'=>r=bv (OU a b)∧H'=H):=by
 refine aH.pure ?_ (by simp [qM]) H;have hma:(a.trace.map fM).length=a.trace.length:=aLT _;have hmb:(b.trace.map fM).length=b.trace.length:=aLT _;have hs1:=fun H=>sM a.sources b.sources H ha hb;have hX:aEe a b=(((!decide (a.name=b.name)||!decide (a.reason=b.reason))||!decide (a.sources=b.sources))||!decide (((a.trace.map fM).length:Int)=((b.trace.map fM).length:Int))):=rfl;refine Bd func30 rfl ntmps30<|Sr<|Dd (by exact bZ (id:=2) rfl rfl rfl rfl rfl)<|Dd (by exact bZ (id:=3) rfl rfl rfl rfl rfl)<|Dd aP<|Zz<|Sq<|Sq ?_;refine bD (t:=34) (n:=32) (X:=aEe a b) ?_ ?_
 ·all_goals refine Dd (bB BT) ?_
  all_goals refine Dd (bK isAgg9)<|Dd (bB BT)<|Dd (bK isAgg9)<|Dd Q6<|Dm ?_
  all_goals refine Sp 11 (fun h11=>?_) fun h11=>?_
  all_goals try contradiction
  all_goals first|refine Fo<|Fo<|Fo<|Fo<|Fo ?_|refine On (bB BS)<|On (bK isAgg9)<|On (bB BS)<|On (bK isAgg9)<|On Q6 ?_
  all_goals refine Dd cE<|Dm ?_
  all_goals refine Sp 18 (fun h18=>?_) fun h18=>?_
  all_goals try contradiction
  all_goals first|refine Fo<|Fo<|Fo<|Fo<|Fo<|Fo ?_|refine On (bB zA)<|On (bK aJ)<|On (bB zA)<|On (bK aJ)<|On (by exact aA rfl rfl aDd rfl (hs1 _))<|On lI ?_
  all_goals refine Dd cE<|Dm ?_
  all_goals refine Sp 26 (fun h26=>?_) fun h26=>?_
  all_goals try contradiction
  all_goals first|refine Fo<|Fo<|Fo<|Fo<|Fo<|Fo<|Fo ?_|refine On (bB rQ)<|On (bK jD)<|On (fY dP)<|On (bB rQ)<|On (bK jD)<|On (fY dP)<|On uL ?_
  all_goals refine Dd cE<|Zz ?_
  all_goals(exact⟨⟨_,rfl,by first|(rw [hX,h11];rfl)|(rw [hX,h11,h18];rfl)|(rw [hX,h11,h18,h26];rfl)⟩,rfl,rfl,rfl⟩)
 refine Cn ?_ ?_<;>intro hc1
 ·have h:=hc1;have hne:OU a b=false:=by
   rw [OU];simp only [aEe,hma,hmb,Bool.or_eq_true,aLc,aL1] at h;simp only [Bool.and_eq_false_iff,aL1];rcases h with((h|h)|h)|h
   ·exact .inl (.inl (.inl h))
   ·exact .inl (.inl (.inr h))
   ·exact .inl (.inr h)
   exact .inr fun e=>h (by rw [e])
  rw [hne];exact Sr<|Dd aP<|Zz<|aC<|Rt<|Qq
 have h:=hc1;simp only [aEe,hma,hmb,aLf,Bool.not_eq_false',aL0] at h;obtain ⟨⟨⟨h1,h2⟩,h3⟩,h4⟩:=h;have hl:a.trace.length=b.trace.length:=by omega
 have hp2:OU a b=decide (a.trace=b.trace):=by rw [OU,decide_eq_true h1,decide_eq_true h2,decide_eq_true h3];rfl
 rw [hp2];refine aE<|Sq<|Sr<|Dd aP<|Zz<|aG ?_;refine bQ (σ:=Nat) (fun i=>([(2,.ref 2 0 0 0),(3,.ref 3 0 0 0),(5,iv (i:Int))],[(3,bx 7 28 ((qM b).map .pv)),(2,bx 7 28 ((qM a).map .pv))])) (fun i=>i≤a.trace.length∧a.trace.take i=b.trace.take i) (fun i=>a.trace.length - i) 0 ⟨by omega,rfl⟩ ?_ ?_
 ·exact Wk
 rintro i ⟨hi,hp⟩;refine Sq<|Sr<|Dd aF<|Dd (bB rQ)<|Dd (bK jD)<|Dd (fY dP)<|Dd dK<|Zz ?_;refine Cn ?_ ?_<;>intro hc2
 ·have hil:i < a.trace.length:=by have:=aLP hc2;omega
  obtain ⟨s,hs⟩:=bE hil;obtain ⟨u,hu⟩:=bE (show i < b.trace.length by omega);have hi1:=cJ (f:=fM) hs;have hi2:=cJ (f:=fM) hu;refine aE<|Sq<|aG<|Sq<|aQ follows<|Cq (bB rQ)<|Cq (bK jD)<|Cq aF<|Cq (by exact bN rfl Q5 rfl rfl (by omega) (by exact aL4 _) hi1 rfl)<|Cq (by exact cQ rfl dQ sizeOf73 rfl hi1 (by simp only [Zl,fM];rfl) rfl)<|Cq (bB rQ)<|Cq (bK jD)<|Cq aF<|Cq (by exact bN rfl Q5 rfl rfl (by omega) (by exact aL4 _) hi2 rfl)<|Cq (by exact cQ rfl dQ sizeOf73 rfl hi2 (by simp only [Zl,fM];rfl) rfl)<|Cq (by exact yQ rfl rfl rfl rfl rfl jX (UM _ _ _ _))<|bJ<|Kr ?_;refine Cn ?_ ?_<;>intro hc3
  ·have hne:s≠u:=by have h:=hc3;intro e;subst e;simp at h
   rw [decide_eq_false (XV hs hu hne)];exact Sr<|Dd aP<|Zz<|aC<|Rt<|Qq
  have heq:s=u:=by have h:=hc3;simp at h;exact Prod.ext h.1 h.2
  refine aE<|Rg<|Dd aF<|Dd (by exact cA rfl rfl rfl (show IntKind.i64.wrap ((i:Int)+1)=((i+1:Nat):Int)by rw [pO (by omega) (by omega)];omega))<|Da ?_;exact⟨i+1,⟨by omega,vK hp hs hu heq⟩,by omega,Wk⟩
 have hge:i=a.trace.length:=by have:=aLQ hc2;omega
 rw [decide_eq_true (DF hl hge hp)];exact bG<|Sr<|Dd aP<|Zz<|aC<|Rt<|Qq
def aAO (a b:GEdit):Bool:=((((((!decide (a.op=b.op)||!decide (a.id=b.id))||!decide (a.other=b.other))||!decide (a.node=b.node))||!(decide (a.x=b.x)&&decide (a.y=b.y)))||!decide (a.key=b.key))||!decide (a.val=b.val))||!decide (((a.refs.map encStr).length:Int)=((b.refs.map encStr).length:Int))
def SX (a b:GEdit):Bool:=(((((((decide (a.op=b.op)&&decide (a.id=b.id))&&decide (a.other=b.other))&&decide (a.node=b.node))&&(decide (a.x=b.x)&&decide (a.y=b.y)))&&decide (a.key=b.key))&&decide (a.val=b.val))&&decide (a.refs=b.refs))&&pS a.obj b.obj
theorem DH {a b:GEdit}:SX a b=true↔a=b:=by obtain ⟨a1,a2,a3,a4,a5,a6,a7,a8,a9,a10⟩:=a;obtain ⟨b1,b2,b3,b4,b5,b6,b7,b8,b9,b10⟩:=b;simp only [SX,aL2,aL0,BO,GEdit.mk.injEq,and_assoc]
theorem aFT {a b:GEdit} (h:aAO a b=true):SX a b=false:=by
 cases e:SX a b with
 | false=>rfl
 | true =>
  have:=DH.1 e;subst this;simp [aAO] at h
theorem aCn {a b:GEdit} (h:aAO a b=false):a.refs.length=b.refs.length∧∀ r:Bool,(decide (a.refs=b.refs)&&pS a.obj b.obj)=r→SX a b=r:=by simp only [aAO,aLf,Bool.not_eq_false',aL0,aL2,aLT] at h;obtain ⟨⟨⟨⟨⟨⟨⟨h1,h2⟩,h3⟩,h4⟩,h5,h6⟩,h7⟩,h8⟩,h9⟩:=h;refine⟨by omega,fun r hr=>?_⟩;rw [SX,decide_eq_true h1,decide_eq_true h2,decide_eq_true h3,decide_eq_true h4,decide_eq_true h5,decide_eq_true h6,decide_eq_true h7,decide_eq_true h8];exact hr
theorem ZH (a b:GEdit) (H:aB) (ha:QM a) (hb:QM b):aH Tryz.prog 141 [av (aZ a),av (aZ b)] H (fun r H'=>r=bv (SX a b)∧H'=H):=by
 refine aH.pure ?_ (by simp [aZ]) H;have hra:(a.refs.map encStr).length=a.refs.length:=aLT _;have hrb:(b.refs.map encStr).length=b.refs.length:=aLT _;have hla:=ha.2.1.1;have hlb:=hb.2.1.1;have hX:aAO a b=(((((((!decide (a.op=b.op)||!decide (a.id=b.id))||!decide (a.other=b.other))||!decide (a.node=b.node))||!(decide (a.x=b.x)&&decide (a.y=b.y)))||!decide (a.key=b.key))||!decide (a.val=b.val))||!decide (((a.refs.map encStr).length:Int)=((b.refs.map encStr).length:Int))):=rfl;have hso:=fun H=>aE3 a.obj b.obj H ha.2.2.2.2.1 ha.2.2.2.1.1;obtain ⟨so,hsoE⟩:∃ so,so=pS a.obj b.obj:=⟨_,rfl⟩;have hyes:=fun h=>aCn (a:=a) (b:=b) h;rw [← hsoE] at hso hyes;clear hsoE;refine Bd func141 rfl ntmps141<|Sr<|Dd (by exact bZ (id:=2) rfl rfl rfl rfl rfl)<|Dd (by exact bZ (id:=3) rfl rfl rfl rfl rfl)<|Dd aP<|Zz<|Sq<|Sq ?_;refine bD (t:=61) (n:=63) (X:=aAO a b) ?_ ?_
 ·all_goals refine Dd (bB wN) ?_
  all_goals refine Dd (bK isAgg3)<|Dd (bB wN)<|Dd (bK isAgg3)<|Dd uL<|Dm ?_
  all_goals refine Sp 11 (fun h11=>?_) fun h11=>?_
  all_goals try contradiction
  all_goals first|refine Fo<|Fo<|Fo<|Fo<|Fo ?_|refine On (bB kQ)<|On (bK isAgg9)<|On (bB kQ)<|On (bK isAgg9)<|On Q6 ?_
  all_goals refine Dd cE<|Dm ?_
  all_goals refine Sp 18 (fun h18=>?_) fun h18=>?_
  all_goals try contradiction
  all_goals first|refine Fo<|Fo<|Fo<|Fo<|Fo ?_|refine On (bB iG)<|On (bK isAgg9)<|On (bB iG)<|On (bK isAgg9)<|On Q6 ?_
  all_goals refine Dd cE<|Dm ?_
  all_goals refine Sp 25 (fun h25=>?_) fun h25=>?_
  all_goals try contradiction
  all_goals first|refine Fo<|Fo<|Fo<|Fo<|Fo ?_|refine On (bB nO)<|On (bK isAgg9)<|On (bB nO)<|On (bK isAgg9)<|On Q6 ?_
  all_goals refine Dd cE<|Dm ?_
  all_goals refine Sp 32 (fun h32=>?_) fun h32=>?_
  all_goals try contradiction
  all_goals first|refine Fo<|Fo<|Fo<|Fo<|Fo ?_|refine On (bB iA)<|On (by exact aM rfl dQ sizeOf73 rfl rfl rfl rfl (by simp only [Zl,aZ];rfl) rfl)<|On (bB iA)<|On (by exact aM rfl dQ sizeOf73 rfl rfl rfl rfl (by simp only [Zl,aZ];rfl) rfl)<|On (by exact yQ rfl rfl rfl rfl rfl jX (UM _ _ _ _)) ?_
  all_goals refine Dd cE<|Dm ?_
  all_goals refine Sp 39 (fun h39=>?_) fun h39=>?_
  all_goals try contradiction
  all_goals first|refine Fo<|Fo<|Fo<|Fo<|Fo ?_|refine On (bB kP)<|On (bK isAgg9)<|On (bB kP)<|On (bK isAgg9)<|On Q6 ?_
  all_goals refine Dd cE<|Dm ?_
  all_goals refine Sp 46 (fun h46=>?_) fun h46=>?_
  all_goals try contradiction
  all_goals first|refine Fo<|Fo<|Fo<|Fo<|Fo ?_|refine On (bB lM)<|On (bK isAgg9)<|On (bB lM)<|On (bK isAgg9)<|On Q6 ?_
  all_goals refine Dd cE<|Dm ?_
  all_goals refine Sp 53 (fun h53=>?_) fun h53=>?_
  all_goals try contradiction
  all_goals first|refine Fo<|Fo<|Fo<|Fo<|Fo<|Fo<|Fo ?_|refine On (bB eS)<|On (bK aJ)<|On (fY aD)<|On (bB eS)<|On (bK aJ)<|On (fY aD)<|On uL ?_
  all_goals refine Dd cE<|Zz ?_
  all_goals(exact⟨⟨_,rfl,by first|(rw [hX,h11];rfl)|(rw [hX,h11,h18];rfl)|(rw [hX,h11,h18,h25];rfl)|(rw [hX,h11,h18,h25,h32];rfl)|(rw [hX,h11,h18,h25,h32,h39];rfl)|(rw [hX,h11,h18,h25,h32,h39,h46];rfl)|(rw [hX,h11,h18,h25,h32,h39,h46,h53];rfl)⟩,rfl,rfl,rfl⟩)
 refine Cn ?_ ?_<;>intro hc1
 ·rw [aFT hc1];exact Sr<|Dd aP<|Zz<|aC<|Rt<|Qq
 obtain ⟨hl,hyes⟩:=hyes hc1;refine aE<|Sq<|Sr<|Dd aP<|Zz<|aG ?_;refine bQ (σ:=Nat) (fun i=>([(2,.ref 2 0 0 0),(3,.ref 3 0 0 0),(5,iv (i:Int))],[(3,bx 15 155 ((aZ b).map .pv)),(2,bx 15 155 ((aZ a).map .pv))])) (fun i=>i≤a.refs.length∧a.refs.take i=b.refs.take i) (fun i=>a.refs.length - i) 0 ⟨by omega,rfl⟩ ?_ ?_
 ·exact Wk
 rintro i ⟨hi,hp⟩;refine Sq<|Sr<|Dd aF<|Dd (bB eS)<|Dd (bK aJ)<|Dd (fY aD)<|Dd dK<|Zz ?_;refine Cn ?_ ?_<;>intro hc2
 ·have hil:i < a.refs.length:=by have:=aLP hc2;omega
  obtain ⟨s,hs⟩:=bE hil;obtain ⟨u,hu⟩:=bE (show i < b.refs.length by omega);have hi1:=cJ (f:=encStr) hs;have hi2:=cJ (f:=encStr) hu;refine aE<|Sq<|aG<|Sq<|aQ follows<|Cq (bB eS)<|Cq (bK aJ)<|Cq aF<|Cq (by exact bN rfl cP rfl rfl (by omega) (by exact aL4 _) hi1 rfl)<|Cq (pH isAgg9 (hi:=hi1))<|Cq (bB eS)<|Cq (bK aJ)<|Cq aF<|Cq (by exact bN rfl cP rfl rfl (by omega) (by exact aL4 _) hi2 rfl)<|Cq (pH isAgg9 (hi:=hi2))<|Cq Q6<|bJ<|Kr ?_;refine Cn ?_ ?_<;>intro hc3
  ·have hne:s≠u:=by have h:=hc3;intro e;subst e;simp at h
   rw [hyes false (by rw [decide_eq_false (XV hs hu hne)];rfl)];exact Sr<|Dd aP<|Zz<|aC<|Rt<|Qq
  have heq:s=u:=by have h:=hc3;simpa using h
  refine aE<|Rg<|Dd aF<|Dd (by exact cA rfl rfl rfl (show IntKind.i64.wrap ((i:Int)+1)=((i+1:Nat):Int)by rw [pO (by omega) (by omega)];omega))<|Da ?_;exact⟨i+1,⟨by omega,vK hp hs hu heq⟩,by omega,Wk⟩
 have hge:i=a.refs.length:=by have:=aLQ hc2;omega
 rw [hyes so (by rw [decide_eq_true (DF hl hge hp)];rfl)];exact bG<|Sr<|Dd (bB qK)<|Dd (by exact aM rfl cN sizeOf153 rfl rfl rfl rfl (by simp only [Zl,aZ,bH];rfl) rfl)<|Dd (bB qK)<|Dd (by exact aM rfl cN sizeOf153 rfl rfl rfl rfl (by simp only [Zl,aZ,bH];rfl) rfl)<|Dd (by exact aA rfl rfl call182 rfl (hso _))<|Dd aP<|Zz<|aC<|Rt<|Qq
def xG:List GEdit→List GEdit→Bool
 | [],[]=>true
 | a::l,b::m=>SX a b&&xG l m
 | _,_=>false
theorem AJ:∀ {a b:List GEdit},xG a b=true↔a=b
 | [],[]=>by simp [xG]
 | a::l,b::m=>by rw [xG,aL2,DH,AJ,List.cons.injEq]
 | [],_::_=>by simp [xG]
 | _::_,[]=>by simp [xG]
theorem SV {a b:List GEdit} (h:a≠b):xG a b=false:=by
 cases e:xG a b with
 | false=>rfl
 | true=>exact absurd (AJ.1 e) h
theorem OQ (a b:List GEdit) (H:aB) (ha:a.length < 4611686018427387904) (hb:b.length < 4611686018427387904) (hae:∀ e∈a,QM e) (hbe:∀ e∈b,QM e):aH Tryz.prog 92 [.pv (iO a),.pv (iO b)] H (fun r H'=>r=bv (xG a b)∧H'=H):=by
 refine Pu ?_;have hma:(a.map aZ).length=a.length:=aLT _;have hmb:(b.map aZ).length=b.length:=aLT _;refine Bd func92 rfl ntmps92<|Sr<|Dd aP<|Zz<|Sq<|Sr<|Dd aF<|Dd (fY dD)<|Dd aF<|Dd (fY dD)<|Dd uL<|Zz ?_;refine Cn ?_ ?_<;>intro hc1
 ·have hne:a≠b:=by have h:=hc1;intro e;subst e;simp at h
  rw [SV hne];exact Sr<|Dd aP<|Zz<|aC<|Rt<|Qq
 have hl:a.length=b.length:=by have h:=hc1;simp only [Bool.not_eq_false',aL0] at h;omega
 refine aE<|Sq<|Sr<|Dd aP<|Zz<|aG ?_;refine bQ (σ:=Nat) (fun i=>([(0,.pv (iO a)),(1,.pv (iO b)),(5,iv (i:Int))],[])) (fun i=>i≤a.length∧a.take i=b.take i) (fun i=>a.length - i) 0 ⟨by omega,rfl⟩ ?_ ?_
 ·exact Wk
 rintro i ⟨hi,hp⟩;refine Sq<|Sr<|Dd aF<|Dd aF<|Dd (fY dD)<|Dd dK<|Zz ?_;refine Cn ?_ ?_<;>intro hc2
 ·have hil:i < a.length:=by have:=aLP hc2;omega
  obtain ⟨s,hs⟩:=bE hil;obtain ⟨u,hu⟩:=bE (show i < b.length by omega);have hi1:=cJ (f:=aZ) hs;have hi2:=cJ (f:=aZ) hu;have hsm:=fun H=>ZH s u H (hae s (aL3 hs)) (hbe u (aL3 hu));refine aE<|Sq<|aG<|Sq<|aQ follows<|Cq aF<|Cq aF<|Cq (by exact bN rfl UI rfl rfl (by omega) (by exact aL4 _) hi1 rfl)<|Cq (by exact cQ rfl bS aV rfl hi1 rfl rfl)<|Cq aF<|Cq aF<|Cq (by exact bN rfl UI rfl rfl (by omega) (by exact aL4 _) hi2 rfl)<|Cq (by exact cQ rfl bS aV rfl hi2 rfl rfl)<|Cq (by exact aA rfl rfl call141 rfl (hsm _))<|Cq lI<|bJ<|Kr ?_;refine Cn ?_ ?_<;>intro hc3
  ·have hne:s≠u:=by have h:=not_not hc3;intro e;rw [DH.2 e] at h;cases h
   rw [SV (XV hs hu hne)];exact Sr<|Dd aP<|Zz<|aC<|Rt<|Qq
  have heq:s=u:=DH.1 (AD hc3);refine aE<|Rg<|Dd aF<|Dd (by exact cA rfl rfl rfl (show IntKind.i64.wrap ((i:Int)+1)=((i+1:Nat):Int)by rw [pO (by omega) (by omega)];omega))<|Da ?_;exact⟨i+1,⟨by omega,vK hp hs hu heq⟩,by omega,Wk⟩
 have hge:i=a.length:=by have:=aLQ hc2;omega
 rw [AJ.2 (DF hl hge hp)];exact bG<|Sr<|Dd aP<|Zz<|aC<|Rt<|Qq
def RN (a b:GRec):Bool:=(((((((((decide (a.kind=b.kind)&&decide (a.author=b.author))&&decide (a.number=b.number))&&decide (a.clock=b.clock))&&decide (a.branch=b.branch))&&decide (a.parents=b.parents))&&xG a.edits b.edits)&&decide (a.target=b.target))&&(a.yes == b.yes))&&decide (a.order=b.order))&&decide (a.from'=b.from')
structure PubEq (a b:GRec):Prop where
 ki:a.kind=b.kind
 au:a.author=b.author
 nu:a.number=b.number
 cl:a.clock=b.clock
 br:a.branch=b.branch
 pa:a.parents=b.parents
 ed:a.edits=b.edits
 ta:a.target=b.target
 ye:a.yes=b.yes
 od:a.order=b.order
 fr:a.from'=b.from'
theorem aBe {a b:GRec}:RN a b=true↔PubEq a b:=by simp only [RN,aL2,aL0,AJ,beq_iff_eq];exact⟨fun⟨⟨⟨⟨⟨⟨⟨⟨⟨⟨h1,h2⟩,h3⟩,h4⟩,h5⟩,h6⟩,h7⟩,h8⟩,h9⟩,h10⟩,h11⟩=>⟨h1,h2,h3,h4,h5,h6,h7,h8,h9,h10,h11⟩,fun⟨h1,h2,h3,h4,h5,h6,h7,h8,h9,h10,h11⟩=>⟨⟨⟨⟨⟨⟨⟨⟨⟨⟨h1,h2⟩,h3⟩,h4⟩,h5⟩,h6⟩,h7⟩,h8⟩,h9⟩,h10⟩,h11⟩⟩
def R0 (r:GRec):Prop:=(r.parents.length < 4611686018427387904∧r.edits.length < 4611686018427387904∧∀ e∈r.edits,QM e)∧RY r.sl∧RY r.priv.sl∧r.priv.sources.length < 4611686018427387904∧r.priv.trace.length < 4611686018427387904
theorem uJ {r:GRec} (h:iE r):R0 r:=by obtain ⟨_,_,h1,h2,h3,_,_,h4,h5,h6⟩:=h;exact⟨⟨by have:=h1.1;omega,by have:=h2.1;omega,h2.2⟩,RX h3,RX h6,by have:=h4.1;omega,by omega⟩
theorem OP (a b:GRec) (H:aB) (ha:R0 a) (hb:R0 b):aH Tryz.prog 29 [av (bM a),av (bM b)] H (fun r H'=>r=bv (RN a b)∧H'=H):=by
 refine aH.pure ?_ (by simp [bM]) H;have hs1:=fun H=>sM a.parents b.parents H ha.1.1 hb.1.1;have hs2:=fun H=>OQ a.edits b.edits H ha.1.2.1 hb.1.2.1 ha.1.2.2 hb.1.2.2;have hX:RN a b=((((((((((decide (a.kind=b.kind)&&decide (a.author=b.author))&&decide (a.number=b.number))&&decide (a.clock=b.clock))&&decide (a.branch=b.branch))&&decide (a.parents=b.parents))&&xG a.edits b.edits)&&decide (a.target=b.target))&&(a.yes == b.yes))&&decide (a.order=b.order))&&decide (a.from'=b.from')):=rfl;obtain ⟨ee,hee⟩:∃ ee,ee=xG a.edits b.edits:=⟨_,rfl⟩;rw [← hee] at hs2 hX;clear hee;refine Bd func29 rfl ntmps29<|Sr<|Dd (by exact bZ (id:=2) rfl rfl rfl rfl rfl)<|Dd (by exact bZ (id:=3) rfl rfl rfl rfl rfl)<|Dd aP<|Zz<|Sq ?_;refine bD (t:=4) (n:=86) (X:=RN a b) ?_ ?_
 ·all_goals refine Dd (bB tL) ?_
  all_goals refine Dd (bK isAgg3)<|Dd (bB tL)<|Dd (bK isAgg3)<|Dd cY<|Dm ?_
  all_goals refine Sp 10 (fun h10=>?_) fun h10=>?_
  all_goals try contradiction
  all_goals first|refine Fo<|Fo<|Fo<|Fo<|Fo ?_|refine On (bB yZ)<|On (bK isAgg3)<|On (bB yZ)<|On (bK isAgg3)<|On cY ?_
  all_goals refine Dd cE<|Dm ?_
  all_goals refine Sp 17 (fun h17=>?_) fun h17=>?_
  all_goals try contradiction
  all_goals first|refine Fo<|Fo<|Fo<|Fo<|Fo ?_|refine On (bB pT)<|On (bK isAgg3)<|On (bB pT)<|On (bK isAgg3)<|On cY ?_
  all_goals refine Dd cE<|Dm ?_
  all_goals refine Sp 24 (fun h24=>?_) fun h24=>?_
  all_goals try contradiction
  all_goals first|refine Fo<|Fo<|Fo<|Fo<|Fo ?_|refine On (bB yY)<|On (bK isAgg3)<|On (bB yY)<|On (bK isAgg3)<|On cY ?_
  all_goals refine Dd cE<|Dm ?_
  all_goals refine Sp 31 (fun h31=>?_) fun h31=>?_
  all_goals try contradiction
  all_goals first|refine Fo<|Fo<|Fo<|Fo<|Fo ?_|refine On (bB yX)<|On (bK isAgg9)<|On (bB yX)<|On (bK isAgg9)<|On zZ ?_
  all_goals refine Dd cE<|Dm ?_
  all_goals refine Sp 38 (fun h38=>?_) fun h38=>?_
  all_goals try contradiction
  all_goals first|refine Fo<|Fo<|Fo<|Fo<|Fo ?_|refine On (bB oE)<|On (bK aJ)<|On (bB oE)<|On (bK aJ)<|On (by exact aA rfl rfl aDd rfl (hs1 _)) ?_
  all_goals refine Dd cE<|Dm ?_
  all_goals refine Sp 45 (fun h45=>?_) fun h45=>?_
  all_goals try contradiction
  all_goals first|refine Fo<|Fo<|Fo<|Fo<|Fo ?_|refine On (bB BR)<|On (bK mM)<|On (bB BR)<|On (bK mM)<|On (by exact aA rfl rfl call92 rfl (hs2 _)) ?_
  all_goals refine Dd cE<|Dm ?_
  all_goals refine Sp 52 (fun h52=>?_) fun h52=>?_
  all_goals try contradiction
  all_goals first|refine Fo<|Fo<|Fo<|Fo<|Fo ?_|refine On (bB yW)<|On (bK isAgg9)<|On (bB yW)<|On (bK isAgg9)<|On zZ ?_
  all_goals refine Dd cE<|Dm ?_
  all_goals refine Sp 59 (fun h59=>?_) fun h59=>?_
  all_goals try contradiction
  all_goals first|refine Fo<|Fo<|Fo<|Fo<|Fo ?_|refine On (bB EZ)<|On (bK sD)<|On (bB EZ)<|On (bK sD)<|On (by exact yP rfl cL rfl rfl) ?_
  all_goals refine Dd cE<|Dm ?_
  all_goals refine Sp 66 (fun h66=>?_) fun h66=>?_
  all_goals try contradiction
  all_goals first|refine Fo<|Fo<|Fo<|Fo<|Fo ?_|refine On (bB BQ)<|On (bK isAgg3)<|On (bB BQ)<|On (bK isAgg3)<|On cY ?_
  all_goals refine Dd cE<|Dm ?_
  all_goals refine Sp 73 (fun h73=>?_) fun h73=>?_
  all_goals try contradiction
  all_goals first|refine Fo<|Fo<|Fo<|Fo<|Fo ?_|refine On (bB wM)<|On (bK isAgg9)<|On (bB wM)<|On (bK isAgg9)<|On zZ ?_
  all_goals refine Dd cE<|Da ?_
  all_goals(exact⟨⟨_,rfl,by first|(rw [hX,h10];rfl)|(rw [hX,h10,h17];rfl)|(rw [hX,h10,h17,h24];rfl)|(rw [hX,h10,h17,h24,h31];rfl)|(rw [hX,h10,h17,h24,h31,h38];rfl)|(rw [hX,h10,h17,h24,h31,h38,h45];rfl)|(rw [hX,h10,h17,h24,h31,h38,h45,h52];rfl)|(rw [hX,h10,h17,h24,h31,h38,h45,h52,h59];rfl)|(rw [hX,h10,h17,h24,h31,h38,h45,h52,h59,h66];rfl)|(rw [hX,h10,h17,h24,h31,h38,h45,h52,h59,h66,h73];rfl)⟩,rfl,rfl,rfl⟩)
 exact aC<|Rt<|Qq
def RH (a b:GRec):Bool:=((RN a b&&OU a.priv b.priv)&&decide (a.sl=b.sl))&&decide (a.priv.sl=b.priv.sl)
theorem IP {a b:GRec}:RH a b=true↔a=b:=by
 simp only [RH,OU,aL2,aL0,aBe];constructor
 ·rintro⟨⟨⟨⟨h1,h2,h3,h4,h5,h6,h7,h8,h9,h10,h11⟩,⟨⟨q1,q2⟩,q3⟩,q4⟩,h12⟩,h13⟩;obtain ⟨a1,a2,a3,a4,a5,a6,a7,a8,a9,a10,a11,a12,b1,b2,b3,b4,b5⟩:=a;obtain ⟨c1,c2,c3,c4,c5,c6,c7,c8,c9,c10,c11,c12,d1,d2,d3,d4,d5⟩:=b;simp only at *;subst h1 h2 h3 h4 h5 h6 h7 h8 h9 h10 h11 q1 q2 q3 q4 h12 h13;rfl
 rintro rfl;exact⟨⟨⟨⟨rfl,rfl,rfl,rfl,rfl,rfl,rfl,rfl,rfl,rfl,rfl⟩,⟨⟨rfl,rfl⟩,rfl⟩,rfl⟩,rfl⟩,rfl⟩
theorem D8 (a b:GRec) (H:aB) (ha:R0 a) (hb:R0 b):aH Tryz.prog 21 [av (bM a),av (bM b)] H (fun r H'=>r=bv (RH a b)∧H'=H):=by
 refine aH.pure ?_ (by simp [bM]) H;have hs1:=fun H=>OP a b H ha hb;have hs2:=fun H=>KR a.priv b.priv H ha.2.2.2.1 hb.2.2.2.1 ha.2.2.2.2;have hs3:=fun H=>IJ a.sl b.sl H ha.2.1 hb.2.1;have hs4:=fun H=>IJ a.priv.sl b.priv.sl H ha.2.2.1 hb.2.2.1;have hX:RH a b=(((RN a b&&OU a.priv b.priv)&&decide (a.sl=b.sl))&&decide (a.priv.sl=b.priv.sl)):=rfl;obtain ⟨p1,hp1⟩:∃ p,p=RN a b:=⟨_,rfl⟩;obtain ⟨p2,hp2⟩:∃ p,p=OU a.priv b.priv:=⟨_,rfl⟩;rw [← hp1] at hs1 hX;rw [← hp2] at hs2 hX;clear hp1 hp2;refine Bd func21 rfl ntmps21<|Sr<|Dd (by exact bZ (id:=2) rfl rfl rfl rfl rfl)<|Dd (by exact bZ (id:=3) rfl rfl rfl rfl rfl)<|Dd aP<|Zz<|Sq ?_;refine bD (t:=4) (n:=30) (X:=RH a b) ?_ ?_
 ·all_goals refine Dd (pZ aR aL) ?_
  all_goals refine Dd (pZ aR aL)<|Dd (by exact aA rfl rfl call29 rfl (hs1 _))<|Dm ?_
  all_goals refine Sp 8 (fun h8=>?_) fun h8=>?_
  all_goals try contradiction
  all_goals first|refine Fo<|Fo<|Fo<|Fo<|Fo ?_|refine On (bB eV)<|On (pZ kT sizeOf28)<|On (bB eV)<|On (pZ kT sizeOf28)<|On (by exact aA rfl rfl call30 rfl (hs2 _)) ?_
  all_goals refine Dd cE<|Dm ?_
  all_goals refine Sp 15 (fun h15=>?_) fun h15=>?_
  all_goals try contradiction
  all_goals first|refine Fo<|Fo<|Fo<|Fo<|Fo ?_|refine On (bB lK)<|On (pZ eM sizeOf25)<|On (bB lK)<|On (pZ eM sizeOf25)<|On (by exact aA rfl rfl call35 rfl (hs3 _)) ?_
  all_goals refine Dd cE<|Dm ?_
  all_goals refine Sp 22 (fun h22=>?_) fun h22=>?_
  all_goals try contradiction
  all_goals first|refine Fo<|Fo<|Fo<|Fo<|Fo<|Fo<|Fo ?_|refine On (bB eV)<|On (bB nM)<|On (pZ eM sizeOf25)<|On (bB eV)<|On (bB nM)<|On (pZ eM sizeOf25)<|On (by exact aA rfl rfl call35 rfl (hs4 _)) ?_
  all_goals refine Dd cE<|Da ?_
  all_goals(exact⟨⟨_,rfl,by first|(rw [hX,h8];rfl)|(rw [hX,h8,h15];rfl)|(rw [hX,h8,h15,h22];rfl)⟩,rfl,rfl,rfl⟩)
 exact aC<|Rt<|Qq
end Go.Proofs.YtiifmppaejpemaaGreatDoor
