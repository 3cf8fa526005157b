/-
  Parts of the proof: rules of an abstract program logic, contracts of functions, plain laws. Conditions: each theorem's own.
-/
import Derived.Test.YtiifmppaejpemaaGreatDoorKR1M10
set_option linter.unusedVariables false
set_option linter.unusedSimpArgs false
set_option maxRecDepth 100000
set_option maxHeartbeats 8000000
namespace Go.Proofs
theorem aKk:type_of% Tryz.call167:=Tryz.call167
theorem aD9:type_of% Tryz.call91:=Tryz.call91
end Go.Proofs
namespace Go.Proofs.YtiifmppaejpemaaGreatDoor
open Go.Proofs.Tryz
open Go.Abs
theorem D3:∀ (l:List UInt8) (p:List UInt8×Nat),mZ l=some p→p.1.length≤l.length
 | [],p,h=>by cases h
 | [c],p,h=>by
  rw [mZ] at h
  split at h
  ·cases h;exact aL6 _
  cases h
 | c :: e :: r, p, h => by
  rw [mZ] at h
  split at h
  ·cases h;exact aL6 _
  split at h
  ·cases h
  split at h
  ·cases hg:yP e with
   | none=>rw [hg] at h;cases h
   | some b =>
    rw [hg] at h;cases hu:mZ r with
    | none=>rw [hu] at h;cases h
    | some q =>
     rw [hu] at h;cases h;have:=D3 r q hu;show q.1.length+1≤r.length+1+1;omega
  cases hu:mZ (e::r)with
  | none=>rw [hu] at h;cases h
  | some q =>
   rw [hu] at h;cases h;have:=D3 (e::r) q hu;show q.1.length+1≤r.length+1+1;rw [aLR] at this;omega
theorem oS (s:ByteArray) (i j:Nat):(s.extract i j).size≤s.size:=by rw [← bA,nR,aL3,aL4,bA];omega
theorem Y0 (s:ByteArray):(wD s).1.size≤s.size:=by
 rw [wD];cases h:mZ (s.data.toList.drop 1)with
 | none=>exact aL6 _
 | some p =>
  have:=D3 _ _ h;rw [aL4,bA] at this;show (⟨p.1.toArray⟩:ByteArray).size≤_;rw [← bA];show p.1.length≤_;omega
theorem UA {s:ByteArray} {i:Nat} {f:GFound} {j:Nat} (h:gS s i=(some f,j)):f.text.size≤s.size:=by
 rw [gS] at h
 split at h
 ·cases h
 split at h
 ·cases h
 split at h
 ·cases h;exact oS _ _ _
 split at h
 ·cases h;exact oS _ _ _
 split at h
 ·cases h;rw [LN]
  split
  ·have h1:=Y0 (s.extract i s.size);have h2:=oS s i s.size;show (wD (s.extract i s.size)).1.size≤_;omega
  exact aL6 _
 split at h
 ·cases h;exact oS _ _ _
 cases h;exact aL6 _
theorem A2 (s:ByteArray):∀ (n i:Nat) (f:GFound),f∈lF s n i→f.text.size≤s.size
 | 0,_,_,h=>by cases h
 | n+1,i,f,h=>by
  rw [lF] at h
  split at h
  ·split at h
   ·exact A2 s n _ f h
   rename_i g j hg;rcases aL1.1 h with rfl|h
   ·exact UA hg
   split at h
   ·exact A2 s n _ f h
   cases h
  cases h
theorem RE:∀ (ds acc:List GFound) (f:GFound),f∈(kH acc ds).1→f∈acc∨f∈ds
 | [],acc,f,h=>.inl h
 | d::ds,acc,f,h=>by
  rw [kH] at h
  split at h
  ·cases h
  split at h
  ·cases h
  rcases RE ds _ f h with h|h
  ·rcases List.mem_append.1 h with h|h
   ·exact .inl h
   rw [aLS] at h;subst h;exact .inr List.mem_cons_self
  exact .inr (List.mem_cons_of_mem _ h)
theorem NA (s:ByteArray) (f:GFound) (h:f∈(gN s).1):f.text.size≤s.size:=by
 rw [gN] at h
 split at h
 ·cases h
 rcases RE _ _ f h with h|h
 ·cases h
 exact A2 s _ _ f h
theorem RR {T:List GFound} {n:Nat} (h:∀ f∈T,f.text.size≤n):∀ f∈pC T,f.text.size≤n:=fun f hf=>by
 rw [pC] at hf;rcases List.mem_append.1 hf with h1|h1
 ·exact h f h1
 rw [(List.mem_replicate.1 h1).2];exact aL6 _
theorem MB:∀ (T:List GFound) (n:Nat),(∀ f∈T,f.text.size≤n)→(lX T).length≤T.length∧∀ t∈lX T,t.key.size≤n∧t.val.size≤n
 | [],n,_=>by simp [lX]
 | [a],n,_=>by simp [lX]
 | [a,b],n,_=>by simp [lX]
 | a::b::c::r,n,h=>by
  obtain ⟨i1,i2⟩:=MB r n fun f hf=>h f (by simp [hf]);rw [lX];refine⟨by simp only [aLR];omega,fun t ht=>?_⟩;rcases aL1.1 ht with rfl|ht
  ·exact⟨h a (by simp),h c (by simp)⟩
  exact i2 t ht
theorem aBj (T:List GFound):(pC T).length≤T.length+4:=by rw [pC,aLQ,List.length_replicate];omega
theorem aB3 {T:List GFound} {n:Nat} (h:∀ f∈T,f.text.size≤n) (hn:n < 4611686018427387904) (hl:T.length < 549755813888):okO (kI T):=by
 have hp:=RR h;have hpl:=aBj T;have hg:∀ i,((pC T).getD i Z0).text.size≤n:=fun i=>by
  rw [List.getD_eq_getElem?_getD];cases e:(pC T)[i]? with
  | none=>exact aL6 _
  | some f=>exact hp f (aLZ e)
 have ht:∀ k,I7 (lX ((pC T).drop k)):=fun k=>by
  obtain ⟨a,b⟩:=MB ((pC T).drop k) n fun f hf=>hp f (List.mem_of_mem_drop hf);rw [aL4] at a;exact⟨by omega,fun t htt=>by have:=b t htt;omega⟩
 rw [kI]
 split
 ·exact⟨Nat.lt_of_le_of_lt (hg 1) hn,ht _,by show 0 < _;omega,fun s hs=>by cases hs⟩
 split
 ·exact⟨by decide,⟨by decide,fun t h=>by cases h⟩,by decide,fun s hs=>by cases hs⟩
 refine⟨Nat.lt_of_le_of_lt (hg 1) hn,ht _,?_,fun s hs=>?_⟩
 ·show (List.map _ _).length < _;rw [aLP,aL4,aL3];omega
 obtain ⟨f,hf,rfl⟩:=List.mem_map.1 hs;have:=hp f (List.mem_of_mem_take (List.mem_of_mem_drop hf));omega
theorem qU (c:UInt8):∀ {l w:List UInt8},w∈eD c l→w.length≤l.length
 | [],w,h=>by
  rw [eD,aLS] at h;rw [h];exact aLV _
 | b::l,w,h=>by
  have hp:=vJ c l;rw [eD] at h;cases e:eD c l with
  | nil=>rw [e] at hp;exact absurd hp (Nat.lt_irrefl 0)
  | cons x r =>
   have ih:∀ y∈x::r,y.length≤l.length:=fun y hy=>qU c (by rw [e];exact hy);rw [e] at h;rw [aLR]
   split at h
   ·rcases aL1.1 h with rfl|h
    ·exact aL6 _
    exact Nat.le_succ_of_le (ih w h)
   rcases aL1.1 h with rfl|h
   ·exact Nat.succ_le_succ (ih _ List.mem_cons_self)
   exact Nat.le_succ_of_le (ih w (List.mem_cons_of_mem _ h))
theorem MU {s:ByteArray} (hs:s.size < 1099511627776):okO (kI (gN s).1):=aB3 (fun f hf=>NA s f hf) (by omega) (C2 s hs)
theorem JZ (l:List ByteArray):∀ r∈l.map encStr,r.length=1:=fun r hr=>by
 obtain ⟨s,_,rfl⟩:=List.mem_map.1 hr;rfl
theorem KD {p q:Prop} [Decidable p] [Decidable q] (h:(decide p&&decide q)=true):p∧q:=by simpa using h
theorem KE {p q:Prop} [Decidable p] [Decidable q] (h:(decide p&&decide q)=false):¬ (p∧q):=by intro h2;simp [h2] at h
theorem aDu {H:aA} {id:Nat} {o:Ob} (h:H.get id=some o):Sub [(id,o)] H:=fun j x hx=>by
 by_cases e:j=id
 ·subst e;rw [get_cons_same] at hx;cases hx;exact h
 rw [get_cons_other _ _ e] at hx;cases hx
theorem aBu {id j:Nat} {a b:Ob} (h:(aA.get [(id,a)] j).isSome=true):(aA.get [(id,b)] j).isSome=true:=by
 by_cases e:j=id
 ·subst e;rw [get_cons_same];rfl
 rw [get_cons_other _ _ e] at h;cases h
theorem U9 (s:ByteArray) (H:aA) (hs:s.size < 1099511627776):aG Tryz.prog 165 [sv s] H (fun r H'=>r=.tup [av (bH (oP s).1),iv (oP s).2]∧H'=H):=by
 refine Pu ?_;have hlen:=C2 s hs;have hsz:=RR (NA s);have hoo:=MU hs;rw [oP];refine Bd func165 rfl ntmps165<|Sr<|Dd (by exact bE (id:=2) rfl WT rfl rfl)<|Dd aP<|Zz<|Sq<|Sr<|Dd aI<|Dd (nV underlying9)<|Dd mU<|Zz ?_;refine Cn ?_ ?_<;>intro hc1
 ·have h2:20000 < s.size:=by have:=aLL hc1;omega
  rw [aLO h2];refine Sr<|Dd (uS YF)<|Uu (jK sizeOf153)<|Dd aP<|Zz<|aC ?_;refine rT (H':=[]) (.inr rfl) rfl (XI cM sizeOf153) (aT rfl) (Fin.wk (r:=.tup [av (bH zObj),iv 2]) (by simp) trivial trivial) ?_;exact Qq
 have h2:¬ 20000 < s.size:=by have:=aLM hc1;omega
 rw [aLN h2];by_cases he:(gN s).2.1=0
 ·have hlo:=fun H h=>aHQ s H hs he h;obtain ⟨T,hT⟩:∃ T,T=(gN s).1:=⟨_,rfl⟩;rw [← hT] at hlen hsz hoo ⊢;simp only [← hT] at hlo;have hrd:∀ H,H.get 905=some (QO T)→aG Tryz.prog 202 [.osl 905 T.length 0 T.length] H (fun r H'=>r=av (bH (kI T))∧H'=[(905,QO (pC T))]++H):=fun H hH =>
   aG.frame (aGb T hlen (fun f hf=>Nat.lt_of_le_of_lt (hsz f hf) hs)) (aDu hH) (cY.ofL ⟨bW _ _,trivial⟩) (by intro a ha;rw [aLS] at ha;subst ha;simp [aA.get]) (fun id h=>.inl (aBu h))
  obtain ⟨o,ho⟩:∃ o,o=kI T:=⟨_,rfl⟩;rw [← ho] at hrd hoo ⊢;refine aE<|Sr<|Dd aI<|Dd (by exact aB rfl rfl aKk rfl (hlo _ rfl))<|Dd aI<|Dd eS<|Dd eS<|Dd eS<|Dd aP<|Dd aP<|Dd aP<|Zz<|Sq<|Sr<|Dd aI<|Dd dC<|Zz ?_;refine Cn ?_ ?_<;>intro hc2
  ·refine Sr<|Dd aI<|Dd (by exact aB rfl rfl call202 rfl (hrd _ rfl))<|Dd (by exact bE (id:=7) rfl WT rfl rfl)<|Uu (jK sizeOf153)<|Zz<|Sr<|Dd (pN cM sizeOf153)<|Dd (by exact aB rfl rfl call203 rfl (M0 o _ hoo))<|Dd aI<|Dd eS<|Dd eS<|Dd aP<|Dd aP<|Zz<|Sq ?_;refine bC (t:=35) (n:=8) (X:=decide ((iF o).2=0)&&decide ((iF o).1=s)) ?_ ?_
   ·all_goals refine Dd aI ?_
    all_goals refine Dd dC<|Dm ?_
    all_goals refine Sp 31 (fun h31=>?_) fun h31=>?_
    all_goals try contradiction
    all_goals first|refine Fo<|Fo<|Fo ?_|refine On aI<|On aI<|On AJ ?_
    all_goals refine Dd cL<|Zz ?_
    all_goals(exact⟨⟨_,rfl,by(simp_all;done)⟩,rfl,rfl,rfl⟩)
   refine Cn ?_ ?_<;>intro hc3
   ·have hq:=KD hc3;rw [aLO ⟨he,Prod.ext hq.2 hq.1⟩];refine Sr<|Dd (pN cM sizeOf153)<|Uu (jK sizeOf153)<|Dd aP<|Zz<|aC ?_;refine rT (H':=[]) (.inr rfl) rfl (XI cM sizeOf153) (aT rfl) (Fin.wk (r:=.tup [av (bH o),iv 0]) (by simp) trivial trivial) ?_;exact Qq
   have hq:=KE hc3;rw [aLN (fun h=>hq ⟨congrArg Prod.snd h.2,congrArg Prod.fst h.2⟩)];refine aE<|Sr<|Dd (uS YF)<|Uu (jK sizeOf153)<|Dd aP<|Zz<|aC ?_;refine rT (H':=[]) (.inr rfl) rfl (XI cM sizeOf153) (aT rfl) (Fin.wk (r:=.tup [av (bH zObj),iv 5]) (by simp) trivial trivial) ?_;exact Qq
  exact absurd rfl (aLM hc2)
 refine aE<|Sr<|Dd aI<|Dd (by exact aB rfl rfl aKk rfl (aGB s _ hs))<|Dd aI<|Dd eS<|Dd eS<|Dd eS<|Dd aP<|Dd aP<|Dd aP<|Zz<|Sq<|Sr<|Dd aI<|Dd dC<|Zz ?_;refine Cn ?_ ?_<;>intro hc4
 ·exact absurd (aLL hc4) he
 refine aE<|Sr<|Dd (uS YF)<|Uu (jK sizeOf153)<|Dd aP<|Zz<|aC ?_;rw [aLN (fun h=>he h.1)];refine rT (H':=[]) (.inr rfl) rfl (XI cM sizeOf153) (aT rfl) (Fin.wk (r:=.tup [av (bH zObj),iv 5]) (by simp) trivial trivial) ?_;exact Qq
theorem aEY (s:ByteArray) (H:aA) (hs:s.size≤20000):aG Tryz.prog 120 [sv s] H (fun r H'=>r=av (aY (gT s.data.toList))∧H'=H):=by
 refine Pu ?_;have hsz:=bA s;obtain ⟨W,hW⟩:∃ W,W=eD 32 s.data.toList:=⟨_,rfl⟩;obtain ⟨w0,hw0⟩:∃ w,w=W.headD []:=⟨_,rfl⟩;obtain ⟨rs,hrs⟩:∃ r,r=s.data.toList.drop (w0.length+1):=⟨_,rfl⟩;have hrl:rs.length≤s.size:=by rw [hrs,aL4,hsz];omega
 have hg:gT s.data.toList=yB W w0 rs:=by rw [gT,← hW,← hw0,← hrs]
 have hC:∃ b,∀ H,aG Tryz.prog 117 [sv s,sv sSp] H (fun r H'=>r=.tup [sv (ofL w0),sv (ofL rs),bv b]∧H'=H):=by
  obtain ⟨b,hb⟩:=aFV s;rw [← hW,← hw0,← hrs] at hb;exact⟨b,fun H=>by rw [← hb];exact aJ5 s H (by omega)⟩
 obtain ⟨b,hC⟩:=hC;have hSl:(cX s).length=W.length:=by rw [Y7,hW]
 have hml:((cX s).map encStr).length=W.length:=by rw [aLP,hSl]
 have hSg:∀ i,i < W.length→((cX s).map encStr)[i]?=some [.str (ofL (W.getD i []))]:=fun i hi=>by
  rw [hW];exact cI (f:=encStr) (Y8 s i (by rw [hSl];exact hi))
 have hWs:∀ i,(ofL (W.getD i [])).size≤s.size:=fun i=>by
  rw [fY,List.getD_eq_getElem?_getD];cases e:W[i]? with
  | none=>exact aL6 _
  | some w =>
   have:=qU 32 (l:=s.data.toList) (w:=w) (by rw [← hW];exact aLZ e);rw [hsz] at this;exact this
 have hWl:W.length≤s.size+1:=by
  rw [hW,qV];have:=List.count_le_length (l:=s.data.toList) (a:=32);omega
 have hjl:((cX s).drop 3).length≤20001:=by rw [aL4,hSl];omega
 have hjs:cV ((cX s).drop 3)≤20000*((cX s).drop 3).length:=pA (fun w hw=>by
  have hw2:=List.mem_of_mem_drop hw;rw [cX,← hW] at hw2;obtain ⟨x,hx,rfl⟩:=List.mem_map.1 hw2;have:=qU 32 (l:=s.data.toList) (w:=x) (by rw [← hW];exact hx);show (ofL x).size≤_;rw [fY];omega)
 rw [hg,yB];refine Bd func120 rfl ntmps120<|Sr<|Dd (by exact bE (id:=2) rfl WS rfl rfl)<|Zz<|Sr<|Dd aI<|Dd (by exact aB rfl rfl call164 rfl (Y9 s _ (by omega)))<|Dd aP<|Zz<|Sr<|Dd aI<|Dd (by exact aB rfl rfl call117 rfl (hC _))<|Dd aI<|Dd eS<|Dd eS<|Dd eS<|Dd aP<|Dd aP<|Dd aP<|Zz<|Sq<|aF<|Sr<|Dd aI<|Dd AJ<|Da ?_;refine Cn ?_ ?_<;>intro hc1
 ·have h1:w0=aAw:=nJ.1 (aLL hc1);rw [aLO h1];refine Sr<|Dd aI<|Dd (by exact aB rfl rfl call165 rfl (U9 (ofL rs) _ (by rw [fY];omega)))<|Dd aI<|Dd eS<|Dd eS<|Dd (by exact bE (id:=7) rfl WT rfl rfl)<|Uu (jK sizeOf153)<|Dd aP<|Zz<|Sr<|Dd (pN cM sizeOf153)<|Dd (uS AZ)<|Uu (jK aV)<|Zz<|aC ?_;refine dF (H':=[]) (.inr rfl) rfl (XI bT aV) (Fin.wk (r:=av (aY ⟨1,sNil,sNil,sNil,0,0,sNil,sNil,[],(oP (ofL rs)).1⟩)) (by simp) trivial trivial) ?_;exact Qq
 have h1:¬ w0=aAw:=fun e=>aLM hc1 (nJ.2 e);rw [aLN h1];refine Sq ?_;refine bC (t:=30) (n:=9) (X:=decide (ofL w0=⟨#[109,111,118,101]⟩)&&decide ((((cX s).map encStr).length:Int)=4)) ?_ ?_
 ·all_goals refine Dd aI ?_
  all_goals refine Dd AJ<|Dm ?_
  all_goals refine Sp 33 (fun h33=>?_) fun h33=>?_
  all_goals try contradiction
  all_goals first|refine Fo<|Fo<|Fo ?_|refine On aI<|On (fW aD)<|On dC ?_
  all_goals refine Dd cL<|Da ?_
  all_goals(exact⟨⟨_,rfl,by(simp_all;done)⟩,rfl,rfl,rfl⟩)
 refine Cn ?_ ?_<;>intro hc2
 ·have h2:ofL w0=ofL WY∧_:=KD hc2;rw [nJ,hml] at h2;rw [aLO ⟨h2.1,by omega⟩];have i1:=hSg 1 (by omega);have i2:=hSg 2 (by omega);have i3:=hSg 3 (by omega);have s2:=hWs 2;have s3:=hWs 3;refine Sq<|aQ follows<|Cr [] (fun _ _=>aI)<|Cr [] (fun _ _=>(xT cO))<|Cr [] (fun _ _=>(pG isAgg9))<|Cr [] (fun _ _=>aI)<|Cr [] (fun _ _=>(xT cO))<|Cr [] (fun _ _=>(pG isAgg9))<|Cr [] (fun H1 hH=>by exact aB rfl rfl call166 rfl (R1 (ofL (W.getD 2 [])) _ (by omega)))<|Cr [] (fun _ _=>aI)<|Cr [] (fun _ _=>(xT cO))<|Cr [] (fun _ _=>(pG isAgg9))<|Cr [] (fun H1 hH=>by exact aB rfl rfl call166 rfl (R1 (ofL (W.getD 3 [])) _ (by omega)))<|Cr [] (fun _ _=>(uS aCy))<|Cr [] (fun _ _=>(uS AZ))<|Cp [2] (fun H1 hH=>by exact bQ rfl aV rfl rfl rfl rfl ((hH _ rfl).trans rfl) rfl rfl rfl)<|bJ<|Kr<|aC ?_;refine dF (H':=[]) (.inr rfl) rfl (XI bT aV) (Fin.wk (r:=av (aY ⟨2,ofL (W.getD 1 []),sNil,sNil,LI (W.getD 2 []),LI (W.getD 3 []),sNil,sNil,[],zObj⟩)) (by simp) trivial trivial) ?_;exact Qq
 have h2:¬ (ofL w0=ofL WY∧_):=KE hc2;rw [nJ,hml] at h2;rw [aLN (fun h=>h2 ⟨h.1,by omega⟩)];refine Sq ?_;refine bC (t:=51) (n:=9) (X:=decide (ofL w0=⟨#[116,97,103]⟩)&&decide ((3:Int) < (((cX s).map encStr).length:Int))) ?_ ?_
 ·all_goals refine Dd aI ?_
  all_goals refine Dd AJ<|Dm ?_
  all_goals refine Sp 54 (fun h54=>?_) fun h54=>?_
  all_goals try contradiction
  all_goals first|refine Fo<|Fo<|Fo ?_|refine On aI<|On (fW aD)<|On mU ?_
  all_goals refine Dd cL<|Da ?_
  all_goals(exact⟨⟨_,rfl,by(simp_all;done)⟩,rfl,rfl,rfl⟩)
 refine Cn ?_ ?_<;>intro hc3
 ·have h3:ofL w0=ofL YW∧_:=KD hc3;rw [nJ,hml] at h3;rw [aLO ⟨h3.1,by omega⟩];have i1:=hSg 1 (by omega);have i2:=hSg 2 (by omega);have hJe:bs ((cX s).drop 3)=W.drop 3:=by
   rw [bs,cX,← hW,List.map_drop,List.map_map];congr 1;exact(List.map_congr_left fun x _=>dV x).trans (List.map_id _)
  have hj:∀ H,aG Tryz.prog 168 [.pv (aU ((cX s).drop 3)),sv ⟨#[32]⟩] H (fun x H'=>x=sv (ofL (cG [32] (W.drop 3)))∧H'=H):=fun H=>by
   have:=qE ((cX s).drop 3) ⟨#[32]⟩ H (by decide) (by show 1*_+_+_ < _;omega);rw [hJe] at this;exact this
  have hJs:(ofL (cG [32] (W.drop 3))).size < 1099511627776:=by
   have:=lK ((cX s).drop 3);rw [hJe] at this;rw [fY];omega
  obtain ⟨J,hJ⟩:∃ J,J=ofL (cG [32] (W.drop 3)):=⟨_,rfl⟩;rw [← hJ] at hJs ⊢;simp only [← hJ] at hj;have htl:((gN J).1.map dL).length=(gN J).1.length:=aLP _;refine Sr<|Dd aI<|Dd (by exact vA (l:=3) (h:=((cX s).map encStr).length) (rows':=((cX s).drop 3).map encStr) rfl cO rfl (JZ _) rfl rfl (by omega) (aLV _) (by rw [List.take_length];exact List.map_drop.symm))<|Dd (by exact aB rfl rfl mL rfl (hj _))<|Dd (by exact aB rfl rfl aKk rfl (aGB J _ hJs))<|Dd aI<|Dd eS<|Dd eS<|Dd eS<|Dd aP<|Dd aP<|Dd aP<|Zz<|Sr<|Dd aI<|Dd (fW fP)<|Dd dC<|Zz ?_;refine Cn ?_ ?_<;>intro hc4
  ·have h4:(gN J).1.length=1:=by have:=aLL hc4;omega
   obtain ⟨f,hf⟩:=List.length_eq_one_iff.1 h4;rw [hf];have hf0:([f].map dL)[0]?=some [.int .i64 f.kind,.str f.text,.int .i64 f.pos]:=rfl;refine Sq<|aQ follows<|Cr [] (fun _ _=>aI)<|Cr [] (fun _ _=>(xT cO))<|Cr [] (fun _ _=>(pG isAgg9))<|Cr [] (fun _ _=>aI)<|Cr [] (fun _ _=>(xT cO))<|Cr [] (fun _ _=>(pG isAgg9))<|Cr [] (fun _ _=>aI)<|Cr [] (fun _ _=>(xT lN))<|Cr [] (fun _ _=>(fp' jU))<|Cr [] (fun _ _=>(pG isAgg9))<|Cr [] (fun _ _=>(uS AZ))<|Cp [2] (fun H1 hH=>by exact bQ rfl aV rfl rfl rfl rfl ((hH _ rfl).trans rfl) rfl rfl rfl)<|bJ<|Kr<|aC ?_;refine dF (H':=[]) (.inr rfl) rfl (XI bT aV) (Fin.wk (r:=av (aY ⟨3,ofL (W.getD 1 []),sNil,sNil,0,0,ofL (W.getD 2 []),f.text,[],zObj⟩)) (by simp) trivial trivial) ?_;exact Qq
  have h4:(gN J).1.length≠1:=by have:=aLM hc4;omega
  split
  ·next f hf=>rw [hf] at h4;exact absurd rfl h4
  refine aE<|Sr<|Dd (uS AZ)<|Uu (jK aV)<|Zz<|aC ?_;refine dF (H':=[]) (.inr rfl) rfl (XI bT aV) (Fin.wk (r:=av (aY SV)) (by simp) trivial trivial) ?_;exact Qq
 have h3:¬ (ofL w0=ofL YW∧_):=KE hc3;rw [nJ,hml] at h3;rw [aLN (fun h=>h3 ⟨h.1,by omega⟩)];refine Sq ?_;refine bC (t:=81) (n:=9) (X:=decide (ofL w0=⟨#[114,101,102,115]⟩)&&decide ((1:Int) < (((cX s).map encStr).length:Int))) ?_ ?_
 ·all_goals refine Dd aI ?_
  all_goals refine Dd AJ<|Dm ?_
  all_goals refine Sp 84 (fun h84=>?_) fun h84=>?_
  all_goals try contradiction
  all_goals first|refine Fo<|Fo<|Fo ?_|refine On aI<|On (fW aD)<|On mU ?_
  all_goals refine Dd cL<|Da ?_
  all_goals(exact⟨⟨_,rfl,by(simp_all;done)⟩,rfl,rfl,rfl⟩)
 refine Cn ?_ ?_<;>intro hc5
 ·have h4:ofL w0=ofL WX∧_:=KD hc5;rw [nJ,hml] at h4;rw [aLO ⟨h4.1,by omega⟩];have i1:=hSg 1 (by omega);refine Sq<|aQ follows<|Cr [] (fun _ _=>aI)<|Cr [] (fun _ _=>(xT cO))<|Cr [] (fun _ _=>(pG isAgg9))<|Cr [] (fun _ _=>aI)<|Cr [] (fun H1 hH=>by exact vA (l:=2) (h:=((cX s).map encStr).length) (rows':=((W.drop 2).map ofL).map encStr) rfl cO rfl (JZ _) rfl rfl (by omega) (aLV _) (by rw [List.take_length,cX,← hW,List.map_drop,List.map_drop];rfl))<|Cr [] (fun _ _=>(uS AZ))<|Cp [2] (fun H1 hH=>by exact bQ rfl aV rfl rfl rfl rfl ((hH _ rfl).trans rfl) rfl rfl rfl)<|bJ<|Kr<|aC ?_;refine dF (H':=[]) (.inr rfl) rfl (XI bT aV) (Fin.wk (r:=av (aY ⟨4,ofL (W.getD 1 []),sNil,sNil,0,0,sNil,sNil,(W.drop 2).map ofL,zObj⟩)) (by simp) trivial trivial) ?_;exact Qq
 have h4:¬ (ofL w0=ofL WX∧_):=KE hc5;rw [nJ,hml] at h4;rw [aLN (fun h=>h4 ⟨h.1,by omega⟩)];refine Sq ?_;refine bC (t:=95) (n:=9) (X:=decide (ofL w0=⟨#[100,114,111,112]⟩)&&decide ((((cX s).map encStr).length:Int)=2)) ?_ ?_
 ·all_goals refine Dd aI ?_
  all_goals refine Dd AJ<|Dm ?_
  all_goals refine Sp 98 (fun h98=>?_) fun h98=>?_
  all_goals try contradiction
  all_goals first|refine Fo<|Fo<|Fo ?_|refine On aI<|On (fW aD)<|On dC ?_
  all_goals refine Dd cL<|Da ?_
  all_goals(exact⟨⟨_,rfl,by(simp_all;done)⟩,rfl,rfl,rfl⟩)
 refine Cn ?_ ?_<;>intro hc6
 ·have h5:ofL w0=ofL W0∧_:=KD hc6;rw [nJ,hml] at h5;rw [aLO ⟨h5.1,by omega⟩];have i1:=hSg 1 (by omega);refine Sr<|Dd aI<|Dd (xT cO)<|Dd (pG isAgg9)<|Dd (uS AZ)<|Uu (jK aV)<|Zz<|aC ?_;refine dF (H':=[]) (.inr rfl) rfl (XI bT aV) (Fin.wk (r:=av (aY ⟨5,ofL (W.getD 1 []),sNil,sNil,0,0,sNil,sNil,[],zObj⟩)) (by simp) trivial trivial) ?_;exact Qq
 have h5:¬ (ofL w0=ofL W0∧_):=KE hc6;rw [nJ,hml] at h5;rw [aLN (fun h=>h5 ⟨h.1,by omega⟩)];refine Sq ?_;refine bC (t:=107) (n:=9) (X:=decide (ofL w0=⟨#[115,112,108,105,116]⟩)&&decide ((((cX s).map encStr).length:Int)=4)) ?_ ?_
 ·all_goals refine Dd aI ?_
  all_goals refine Dd AJ<|Dm ?_
  all_goals refine Sp 110 (fun h110=>?_) fun h110=>?_
  all_goals try contradiction
  all_goals first|refine Fo<|Fo<|Fo ?_|refine On aI<|On (fW aD)<|On dC ?_
  all_goals refine Dd cL<|Da ?_
  all_goals(exact⟨⟨_,rfl,by(simp_all;done)⟩,rfl,rfl,rfl⟩)
 refine Cn ?_ ?_<;>intro hc7
 ·have h6:ofL w0=ofL OB∧_:=KD hc7;rw [nJ,hml] at h6;rw [aLO ⟨h6.1,by omega⟩];have i1:=hSg 1 (by omega);have i2:=hSg 2 (by omega);have i3:=hSg 3 (by omega);refine Sq<|aQ follows<|Cr [] (fun _ _=>aI)<|Cr [] (fun _ _=>(xT cO))<|Cr [] (fun _ _=>(pG isAgg9))<|Cr [] (fun _ _=>aI)<|Cr [] (fun _ _=>(xT cO))<|Cr [] (fun _ _=>(pG isAgg9))<|Cr [] (fun _ _=>aI)<|Cr [] (fun _ _=>(xT cO))<|Cr [] (fun _ _=>(pG isAgg9))<|Cr [] (fun _ _=>(uS AZ))<|Cp [2] (fun H1 hH=>by exact bQ rfl aV rfl rfl rfl rfl ((hH _ rfl).trans rfl) rfl rfl rfl)<|bJ<|Kr<|aC ?_;refine dF (H':=[]) (.inr rfl) rfl (XI bT aV) (Fin.wk (r:=av (aY ⟨6,ofL (W.getD 1 []),ofL (W.getD 3 []),ofL (W.getD 2 []),0,0,sNil,sNil,[],zObj⟩)) (by simp) trivial trivial) ?_;exact Qq
 have h6:¬ (ofL w0=ofL OB∧_):=KE hc7;rw [nJ,hml] at h6;rw [aLN (fun h=>h6 ⟨h.1,by omega⟩)];refine Sq ?_;refine bC (t:=125) (n:=9) (X:=decide (ofL w0=⟨#[106,111,105,110]⟩)&&decide ((((cX s).map encStr).length:Int)=3)) ?_ ?_
 ·all_goals refine Dd aI ?_
  all_goals refine Dd AJ<|Dm ?_
  all_goals refine Sp 128 (fun h128=>?_) fun h128=>?_
  all_goals try contradiction
  all_goals first|refine Fo<|Fo<|Fo ?_|refine On aI<|On (fW aD)<|On dC ?_
  all_goals refine Dd cL<|Da ?_
  all_goals(exact⟨⟨_,rfl,by(simp_all;done)⟩,rfl,rfl,rfl⟩)
 refine Cn ?_ ?_<;>intro hc8
 ·have h7:ofL w0=ofL WZ∧_:=KD hc8;rw [nJ,hml] at h7;rw [aLO ⟨h7.1,by omega⟩];have i1:=hSg 1 (by omega);have i2:=hSg 2 (by omega);refine Sq<|aQ follows<|Cr [] (fun _ _=>aI)<|Cr [] (fun _ _=>(xT cO))<|Cr [] (fun _ _=>(pG isAgg9))<|Cr [] (fun _ _=>aI)<|Cr [] (fun _ _=>(xT cO))<|Cr [] (fun _ _=>(pG isAgg9))<|Cr [] (fun _ _=>(uS AZ))<|Cp [2] (fun H1 hH=>by exact bQ rfl aV rfl rfl rfl rfl ((hH _ rfl).trans rfl) rfl rfl rfl)<|bJ<|Kr<|aC ?_;refine dF (H':=[]) (.inr rfl) rfl (XI bT aV) (Fin.wk (r:=av (aY ⟨7,ofL (W.getD 1 []),ofL (W.getD 2 []),sNil,0,0,sNil,sNil,[],zObj⟩)) (by simp) trivial trivial) ?_;exact Qq
 have h7:¬ (ofL w0=ofL WZ∧_):=KE hc8;rw [nJ,hml] at h7;rw [aLN (fun h=>h7 ⟨h.1,by omega⟩)];refine aE<|Sr<|Dd (uS AZ)<|Uu (jK aV)<|Zz<|aC ?_;refine dF (H':=[]) (.inr rfl) rfl (XI bT aV) (Fin.wk (r:=av (aY SV)) (by simp) trivial trivial) ?_;exact Qq
def F9 (l:List GEdit):List (List AV):=l.map fun e=>(aY e).map AV.pv
theorem aAM (l:List GEdit):(F9 l).length=l.length:=aLP _
theorem aAN (l:List GEdit) (e:GEdit):F9 l++[(aY e).map AV.pv]=F9 (l++[e]):=by rw [F9,F9,List.map_append];rfl
theorem EZ (H:aA) (l:List GEdit):∀ r∈F9 l,∀ a∈r,Clo H a:=by intro r hr a ha;obtain ⟨d,_,rfl⟩:=List.mem_map.1 hr;obtain ⟨p,_,rfl⟩:=List.mem_map.1 ha;simp
theorem PK (H:aA) (s:ByteArray):∀ r∈(lB s).rows,∀ a∈r,Clo H a:=by intro r hr a ha;simp only [lB,bx,aLS] at hr;subst hr;rw [aLS] at ha;subst ha;simp
def pcE (t:ByteArray):bN:=[(0,sv t),(4,.ref 4 0 0 0)]
def lnE (t:ByteArray) (k:Nat):GEdit:=gT (xV (rG (eX t k))).data.toList
def EO (t:ByteArray) (k:Nat):List GEdit:=(List.range k).map (lnE t)
theorem Z3 (t:ByteArray) (k:Nat):EO t (k+1)=EO t k++[lnE t k]:=by rw [EO,List.range_succ,List.map_append];rfl
theorem JH (t:ByteArray) (k:Nat):(EO t k).length=k:=by rw [EO,aLP,List.length_range]
theorem JI (t:ByteArray):EO t (fG t).length=(iU t.data.toList).map fun s=>gT (Lib.trimSuffix s [10]):=by
 refine List.ext_getElem? fun k=>?_;rw [EO,aL9,aL9];by_cases h:k < (fG t).length
 ·have h1:=(aEx h).1;rw [fG,aL9] at h1;cases e:(iU t.data.toList)[k]? with
  | none=>rw [e] at h1;cases h1
  | some w =>
   rw [e] at h1;have h1:ofY w=rG (eX t k):=Option.some.inj h1;rw [List.getElem?_range h,Option.map_some,Option.map_some,lnE,← h1,aBE,dV];congr 3
 have h2:(iU t.data.toList)[k]?=none:=by
  rw [fG,aLP] at h;exact List.getElem?_eq_none (by omega)
 rw [h2,List.getElem?_eq_none (by simpa using h)];rfl
def pcK (t s:ByteArray) (k:Nat):aA:=[(933,lB s),(905,⟨k,15,155,F9 (EO t k)⟩),(4,bx 1 23 [.osl 905 k 0 k])]
theorem aFG {a b c:Ob} {K:aA} (j:Nat):aA.get ((904,b)::(933,a)::K) j=aA.get ((933,a)::(904,b)::(933,c)::K) j:=by
 by_cases h1:j=904
 ·subst h1;rfl
 by_cases h2:j=933
 ·subst h2;rfl
 rw [get_cons_other _ _ h1,get_cons_other _ _ h2,get_cons_other _ _ h2,get_cons_other _ _ h1,get_cons_other _ _ h2]
theorem T3 (s:ByteArray):(xV s).size≤s.size:=by
 rw [xV]
 split
 ·rw [← bA,exL,aL3,aL4,bA];omega
 exact aLV _
theorem JJ (s:ByteArray):(rG s).size≤s.size:=by
 rw [rG]
 split
 ·exact aLV _
 rw [← bA,exL,aL3,aL4,bA];omega
theorem yN {t:ByteArray} {k:Nat} (h:k≤(fG t).length):(xV (rG (eX t k))).size≤t.size:=Nat.le_trans (T3 _) (Nat.le_trans (JJ _) (uB t k h).2)
theorem MZ {w:List UInt8} {n:Nat} (h:w.length≤n) (hn:n < 4611686018427387904):(ofL w).size < 4611686018427387904:=by rw [fY];omega
theorem VT {s:ByteArray} (hs:s.size < 1099511627776):okO (oP s).1:=by
 rw [oP]
 split
 ·exact⟨by decide,⟨by decide,fun t h=>by cases h⟩,by decide,fun s hs=>by cases hs⟩
 split
 ·exact MU hs
 exact⟨by decide,⟨by decide,fun t h=>by cases h⟩,by decide,fun s hs=>by cases hs⟩
theorem uZ:okO zObj:=⟨by decide,⟨by decide,fun t h=>by cases h⟩,by decide,fun s hs=>by cases hs⟩
theorem vU:([]:List ByteArray).length < 4611686018427387904∧∀ s∈([]:List ByteArray),s.size < 4611686018427387904:=⟨by decide,fun s hs=>by cases hs⟩
theorem dB:sNil.size < 4611686018427387904:=by decide
theorem NF {s:List UInt8} (hs:s.length≤20000):QP (gT s):=by
 have hw:∀ i,(ofL ((eD 32 s).getD i [])).size < 4611686018427387904:=fun i=>by
  refine MZ (n:=20000) ?_ (by decide);rw [List.getD_eq_getElem?_getD];cases e:(eD 32 s)[i]? with
  | none=>exact aL6 _
  | some w=>exact Nat.le_trans (qU 32 (aLZ e)) hs
 have hz:∀ (op x y:Int),QP ⟨op,sNil,sNil,sNil,x,y,sNil,sNil,[],zObj⟩:=fun op x y=>⟨⟨dB,dB,dB,dB⟩,vU,uZ⟩;rw [gT,yB]
 split
 ·exact⟨⟨dB,dB,dB,dB⟩,vU,VT (by rw [fY,aL4];omega)⟩
 split
 ·exact⟨⟨hw 1,dB,dB,dB⟩,vU,uZ⟩
 split
 ·split
  ·exact⟨⟨hw 1,dB,dB,hw 2⟩,vU,uZ⟩
  exact hz _ _ _
 split
 ·refine⟨⟨hw 1,dB,dB,dB⟩,⟨?_,fun x hx=>?_⟩,uZ⟩
  ·show (List.map _ _).length < _;have:=List.count_le_length (l:=s) (a:=32);rw [aLP,aL4,qV];omega
  obtain ⟨w,hw2,rfl⟩:=List.mem_map.1 hx;exact MZ (n:=20000) (Nat.le_trans (qU 32 (List.mem_of_mem_drop hw2)) hs) (by decide)
 split
 ·exact⟨⟨hw 1,dB,dB,dB⟩,vU,uZ⟩
 split
 ·exact⟨⟨hw 1,hw 3,hw 2,dB⟩,vU,uZ⟩
 split
 ·exact⟨⟨hw 1,hw 2,dB,dB⟩,vU,uZ⟩
 exact hz _ _ _
theorem EP:∀ {t:ByteArray} {n:Nat},t.size≤n→(fG t).length≤n
 | t,0,h=>by rw [uL (by omega)];exact aLV _
 | t,n+1,h=>by
  by_cases hp:0 < t.size
  ·rw [(vX hp).1,aLR];refine Nat.succ_le_succ (EP (n:=n) ?_);rw [FX]
   split
   ·exact aL6 _
   next h1 =>
   obtain ⟨w,r,e1,e2,e3,e4,e5,e6⟩:=aCX h1;rw [e3,aL0,← szY,e5];omega
  rw [uL hp];exact aL6 _
theorem aBf (t:ByteArray) (H:aA) (hs:t.size < 1099511627776):aG Tryz.prog 54 [sv t] H (fun r H'=>r=.tup [.pv (iN (kN t).1),iv (kN t).2]∧H'=H):=by
 refine Pu ?_;rw [kN,← JI];refine Bd func54 rfl ntmps54<|Sr<|Dd aP<|Dd aP<|Zz<|Sq<|Sr<|Dd aI<|Dd (nV underlying9)<|Dd mU<|Zz ?_;refine Cn ?_ ?_<;>intro hc1
 ·have h2:20000 < t.size:=by have:=aLL hc1;omega
  rw [aLO h2];exact Sr<|Dd aP<|Dd aP<|Zz<|aC<|Ru<|Qq
 have h2:¬ 20000 < t.size:=by have:=aLM hc1;omega
 rw [aLN h2];refine aE<|Sr<|Dd (by exact bE (id:=4) rfl aIE rfl rfl)<|Zz<|Sq<|Sr<|Dd aI<|Dd (by exact aB rfl rfl call119 rfl (aEw t _ rfl))<|Zz<|aF ?_;obtain ⟨n,hn⟩:∃ n,n=(fG t).length:=⟨_,rfl⟩;have hnl:n≤20000:=by rw [hn];exact EP (by omega)
 refine fE.ent (E':=[(0,sv t),(4,.ref 4 0 0 0),(12,.clo 163 [.ref 933 0 0 0])]) (H':=[(905,⟨0,15,155,[]⟩),(933,lB t),(4,bx 1 23 [.osl 905 0 0 0])]) ?_ ?_
 ·exact(cC.nz 905 15 155 rfl rfl ⟨⟨_,rfl,(by exact Nz.same (by(simp;done)))⟩,⟨_,rfl,(by exact Nz.same (by(simp;rfl)))⟩,⟨_,rfl,(by exact Nz.same (by(simp;rfl)))⟩,trivial⟩ ⟨⟨_,rfl,rfl,rfl,rfl,(by exact .inl ⟨rfl,(by exact PK _ _)⟩)⟩,⟨_,rfl,rfl,rfl,rfl,(by exact .inr ⟨_,_,rfl,rfl,(by repeat(first|exact trivial|refine⟨(by exact Nz.own),?_⟩))⟩)⟩,trivial⟩ trivial)
 refine fE.ent (E':=[(0,sv t),(4,.ref 4 0 0 0),(12,.clo 163 [.ref 933 0 0 0])]) (H':=pcK t t 0) (cC.wk (Eb<|Ea<|Ea<|trivial) (Hc (PK _ _)<|Hc (EZ _ _)<|Ha<|trivial) trivial) ?_;refine AF (id:=904) (p:=13) (pcE t) rfl call163 rfl rfl (by simp [pcE];exact⟨rfl,rfl⟩) ?_;intro x hx1 hx2 hx3 hx4 hx5 hx6;have hround:∀ k,k < n→cB Tryz.prog (.yld 904 0) [sv (rG (eX t k))] ((904,LR x (pcE t))::pcK t (eX t (k+1)) k) (fun r H'=>r=bv true∧H'=(904,LR x (pcE t))::pcK t (eX t (k+1)) (k+1)):=by
  intro k hk;have hnx:=Z3 t k;have hll:=JH t k;have hls:=yN (t:=t) (k:=k) (by omega);have hla:(rG (eX t k)).size≤t.size:=Nat.le_trans (JJ _) (uB t k (by omega)).2;refine .inl ⟨904,0,rfl,?_⟩;refine N7 [(0,sv t),(4,.ref 4 0 0 0),(5,sv (rG (eX t k)))] (pcK t (eX t (k+1)) k) hx1 hx2 hx3 hx4 hx5 hx6 rfl rfl rfl ?_ ?_
  ·refine Rg<|Da ?_;exact(cC.wk (Eb<|Ea<|Eb<|trivial) (Hc (jG (by simp [pcE];rfl))<|Hc (PK _ _)<|Hc (EZ _ _)<|Ha<|trivial) ⟨rfl,rfl,rfl,rfl,trivial⟩)
  refine aF<|aQ follows<|Cs (fun _ h=>lh mK h)<|Cs (fun _ _=>aI)<|Cs (fun H1 hH=>by exact aB rfl rfl call121 rfl (T1 (rG (eX t k)) _ (by omega)))<|Cs (fun H1 hH=>by exact aB rfl rfl call120 rfl (aEY (xV (rG (eX t k))) _ (by omega)))<|Cs (fun H1 hH=>by exact aS [aY (lnE t k)] rfl UE rfl rfl rfl rfl rfl (by intro r hr;rw [aLS] at hr;subst hr;rfl)) ?_;refine aX (r:=⟨_,none,[_]⟩) (DStep.plain rfl (fun H1 hH=>by exact eK (ps:=[aY (lnE t k)]) rfl UE aJZ rfl ((hH _ rfl).trans rfl) rfl rfl rfl ((aAM _).trans hll) rfl (by intro r hr;rw [aLS] at hr;subst hr;rfl) (m:=1) rfl (by omega) rfl (aAN (EO t k) (lnE t k)))) rfl ?_;refine aX (r:=⟨_,none,[_]⟩) (DStep.plain rfl (fun H1 hH=>by exact(by exact bQ rfl sizeOf23 rfl rfl rfl rfl ((hH _ rfl).trans rfl) rfl rfl rfl))) rfl ?_;refine bJ<|Kr ?_;exact⟨[(933,lB (eX t (k+1))),(905,⟨k+1,15,155,F9 (EO t k++[lnE t k])⟩),(4,bx 1 23 [.osl 905 (k+1) 0 (k+1)])],(cC.wk trivial (Hc (jG (by simp [pcE];rfl))<|Hc (PK _ _)<|Hc (EZ _ _)<|Ha<|trivial) ⟨rfl,rfl,rfl,rfl,trivial⟩),rfl,by rw [← hnx];rfl⟩
 refine(aCM t (.yld 904 0) (fun k=>(904,LR x (pcE t))::pcK t (eX t k) k) hs (fun k=>rfl) (fun k hk=>?_)).mono ?_
 ·exact cB.congrG (hround k (by omega)) (fun j=>aFG j) (fun j=>rfl)
 rintro r H' ⟨rfl,rfl⟩;refine⟨x,_,rfl,by rw [hx1];decide,rfl,fun z=>?_⟩;rw [hx2];obtain ⟨L,hL⟩:∃ L,L=EO t n:=⟨_,rfl⟩;have hLl:L.length=n:=by rw [hL];exact JH t n
 rw [← hn,← hL];have hok:∀ e∈L,QP e:=fun e he=>by
  rw [hL,EO] at he;obtain ⟨k,hk,rfl⟩:=List.mem_map.1 he;have:=yN (t:=t) (k:=k) (by have:=List.mem_range.1 hk;omega);exact NF (by rw [bA];omega)
 refine Sq<|Sq ?_;refine fE.ent (cC.fzG (id:=905) (E':=[(0,sv t),(4,.ref 4 0 0 0)]) (H':=[(4,bx 1 23 [.pv (iN L)])]) (L.map aY) rfl (by rw [hL];exact CH aY _) ?_ rfl ?_ ?_) ?_
 ·intro p hp;simp only [aL1,aL5,or_false] at hp;rcases hp with rfl|rfl<;>exact⟨_,rfl,.same (by simp;try rfl)⟩
 ·exact⟨⟨_,rfl,rfl,rfl,rfl,nL rfl (cH (.osl (by rw [← hLl];exact qQ aY L)) nM)⟩,trivial⟩
 ·exact trivial
 refine Rg<|Dd (bL mK)<|Dd (by exact aB rfl rfl call122 rfl (W7 L _ (by omega) hok))<|Dd aI<|Dd eS<|Dd eS<|Dd aP<|Dd aP<|Zz<|Sq ?_;refine bC (t:=31) (n:=8) (X:=!decide ((fX L).2=0)||!decide ((fX L).1=t)) ?_ ?_
 ·all_goals refine Dd aI ?_
  all_goals refine Dd yM<|Dm ?_
  all_goals refine Sp 27 (fun h27=>?_) fun h27=>?_
  all_goals try contradiction
  all_goals first|refine Fo<|Fo<|Fo ?_|refine On aI<|On aI<|On Q8 ?_
  all_goals refine Dd cL<|Zz ?_
  all_goals(exact⟨⟨_,rfl,by(simp_all;done)⟩,rfl,rfl,rfl⟩)
 refine Cn ?_ ?_<;>intro hc2
 ·have hne:fX L≠(t,0):=fun e=>by have h:=hc2;rw [e] at h;simp at h
  rw [aLN hne];exact Sr<|Dd aP<|Dd aP<|Zz<|aC<|Ru<|Qq
 have hee:fX L=(t,0):=by have h:=hc2;simp only [aLb,Bool.not_eq_false',aLW] at h;exact Prod.ext h.2 h.1
 rw [aLO hee];exact aE<|Sr<|Dd (bL mK)<|Dd aP<|Dd aP<|Zz<|aC<|Ru<|Qq
end Go.Proofs.YtiifmppaejpemaaGreatDoor
namespace Go.Proofs.YtiifmppaejpemaaGreatDoor
open Go.Proofs.Tryz
open Go.Abs Go.Lib
theorem US (t:ByteArray):∀ e∈(kN t).1,QP e:=by
 intro e he;rw [kN] at he
 split at he
 ·cases he
 next hs =>
 split at he
 ·have he:e∈(iU t.data.toList).map fun s=>gT (Lib.trimSuffix s [10]):=he;rw [← JI,EO] at he;obtain ⟨k,hk,rfl⟩:=List.mem_map.1 he;have:=yN (t:=t) (k:=k) (by have:=List.mem_range.1 hk;omega);exact NF (by rw [bA];omega)
 cases he
theorem RQ (t:ByteArray):(kN t).1.length≤20000:=by
 rw [kN]
 split
 ·exact aL6 _
 next hs =>
 split
 ·show ((iU t.data.toList).map fun s=>gT (Lib.trimSuffix s [10])).length≤_;rw [← JI,JH];exact EP (by omega)
 exact aL6 _
def D8 {α:Type} (f:List UInt8→Option (α×List UInt8)) (d:α) (l:List UInt8):α×List UInt8:=(f l).getD (d,l)
def p0 (t:List UInt8):=D8 gJ sNil t
def p1 (t:List UInt8):=D8 lR 0 (p0 t).2
def p2 (t:List UInt8):=D8 lR 0 (p1 t).2
def p3 (t:List UInt8):=D8 lR 0 (p2 t).2
def p4 (t:List UInt8):=D8 lR 0 (p3 t).2
def p5 (t:List UInt8):=D8 gJ sNil (p4 t).2
def p6 (t:List UInt8):=D8 (sC gJ) [] (p5 t).2
def p7 (t:List UInt8):=D8 gJ sNil (p6 t).2
def p8 (t:List UInt8):=D8 gJ sNil (p7 t).2
def p9 (t:List UInt8):=D8 gJ sNil (p8 t).2
def K4 (t:List UInt8):=D8 lR 0 (p9 t).2
def K0 (t:List UInt8):=D8 gJ sNil (K4 t).2
def KZ (t:List UInt8):=D8 OM zS (K0 t).2
def KY (t:List UInt8):=D8 gJ sNil (KZ t).2
def KX (t:List UInt8):=D8 gJ sNil (KY t).2
def KW (t:List UInt8):=D8 (sC gJ) [] (KX t).2
def KV (t:List UInt8):=D8 (sC EA) [] (KW t).2
def p17 (t:List UInt8):=D8 OM zS (KV t).2
def LG:ByteArray:=⟨#[49]⟩
def CI (t:List UInt8):GRec:=⟨(p1 t).1,(p2 t).1,(p3 t).1,(p4 t).1,(p5 t).1,(p6 t).1,(kN (p7 t).1).1,(p8 t).1,decide ((p9 t).1=LG),(K4 t).1,(K0 t).1,(KZ t).1,⟨(KY t).1,(KX t).1,(KW t).1,(KV t).1,(p17 t).1⟩⟩
def PB (t:List UInt8):List Bool:=[(gJ t).isSome,(lR (p0 t).2).isSome,(lR (p1 t).2).isSome,(lR (p2 t).2).isSome,(lR (p3 t).2).isSome,(gJ (p4 t).2).isSome,((sC gJ) (p5 t).2).isSome,(gJ (p6 t).2).isSome,(gJ (p7 t).2).isSome,(gJ (p8 t).2).isSome,(lR (p9 t).2).isSome,(gJ (K4 t).2).isSome,(OM (K0 t).2).isSome,(gJ (KZ t).2).isSome,(gJ (KY t).2).isSome,((sC gJ) (KX t).2).isSome,((sC EA) (KW t).2).isSome,(OM (KV t).2).isSome]
def qC (t:List UInt8):Bool:=(PB t).all id
def iE (t:List UInt8):GRec×Int:=if 20000 < t.length then(zR,2)else if qC t=true∧nA (CI t)=(ofL t,0)then(CI t,0)else(zR,5)
theorem gZ {α:Type} {f:List UInt8→Option (α×List UInt8)} {d:α} {l:List UInt8} {e:α→AV}:((f l).map fun p=>(e p.1,p.2)).getD (e d,l)=(e (D8 f d l).1,(D8 f d l).2):=by rw [D8];cases f l<;>rfl
theorem kE {α:Type} {f:List UInt8→Option (α×List UInt8)} {d:α} {l:List UInt8} (h:∀ p q,f l=some (p,q)→q.length < l.length):(D8 f d l).2.length≤l.length:=by
 rw [D8];cases e:f l with
 | none=>exact aLV _
 | some p=>exact Nat.le_of_lt (h p.1 p.2 e)
theorem OL {l q:List UInt8} {s:GSeal} (h:OM l=some (s,q)):q.length < l.length∧oO s.idx∧(s.sig.length≤l.length∧∀ x∈s.sig,x.size≤l.length)∧(s.path.length≤l.length∧∀ x∈s.path,x.size≤l.length):=by
 rw [OM] at h;cases hn:lR l with
 | none=>rw [hn] at h;cases h
 | some p =>
  obtain ⟨i,r⟩:=p;have h1:=gB hn;rw [hn] at h;simp only at h;cases ha:sC gJ r with
  | none=>rw [ha] at h;cases h
  | some p =>
   obtain ⟨a,r2⟩:=p;have h2:=sO ha;rw [ha] at h;simp only at h;cases hb:sC gJ r2 with
   | none=>rw [hb] at h;cases h
   | some p =>
    obtain ⟨b,r3⟩:=p;have h3:=sO hb;rw [hb] at h;cases h;exact⟨by omega,h1.2,⟨by show a.length≤_;omega,fun x hx=>by have:=h2.2 x hx;omega⟩,by show b.length≤_;omega,fun x hx=>by have:=h3.2 x hx;omega⟩
theorem pY {α:Type} {f:List UInt8→Option (α×List UInt8)} {d:α} {l:List UInt8} (Q:α→Prop) (hd:Q d) (h:∀ p q,f l=some (p,q)→Q p):Q (D8 f d l).1:=by
 rw [D8];cases e:f l with
 | none=>exact hd
 | some p=>exact h p.1 p.2 e
theorem aBq (t:List UInt8):(p0 t).2.length≤t.length:=kE (fun p q h=>by have:=hU h;omega)
theorem aBo (t:List UInt8):(p1 t).2.length≤t.length:=Nat.le_trans (kE (fun p q h=>(gB h).1)) (aBq t)
theorem aBn (t:List UInt8):(p2 t).2.length≤t.length:=Nat.le_trans (kE (fun p q h=>(gB h).1)) (aBo t)
theorem aBm (t:List UInt8):(p3 t).2.length≤t.length:=Nat.le_trans (kE (fun p q h=>(gB h).1)) (aBn t)
theorem U0 (t:List UInt8):(p4 t).2.length≤t.length:=Nat.le_trans (kE (fun p q h=>(gB h).1)) (aBm t)
theorem UZ (t:List UInt8):(p5 t).2.length≤t.length:=Nat.le_trans (kE (fun p q h=>by have:=hU h;omega)) (U0 t)
theorem UY (t:List UInt8):(p6 t).2.length≤t.length:=Nat.le_trans (kE (fun p q h=>by have:=(sO h).1;omega)) (UZ t)
theorem UX (t:List UInt8):(p7 t).2.length≤t.length:=Nat.le_trans (kE (fun p q h=>by have:=hU h;omega)) (UY t)
theorem aBl (t:List UInt8):(p8 t).2.length≤t.length:=Nat.le_trans (kE (fun p q h=>by have:=hU h;omega)) (UX t)
theorem aBk (t:List UInt8):(p9 t).2.length≤t.length:=Nat.le_trans (kE (fun p q h=>by have:=hU h;omega)) (aBl t)
theorem O4 (t:List UInt8):(K4 t).2.length≤t.length:=Nat.le_trans (kE (fun p q h=>(gB h).1)) (aBk t)
theorem O3 (t:List UInt8):(K0 t).2.length≤t.length:=Nat.le_trans (kE (fun p q h=>by have:=hU h;omega)) (O4 t)
theorem O2 (t:List UInt8):(KZ t).2.length≤t.length:=Nat.le_trans (kE (fun p q h=>(OL h).1)) (O3 t)
theorem O1 (t:List UInt8):(KY t).2.length≤t.length:=Nat.le_trans (kE (fun p q h=>by have:=hU h;omega)) (O2 t)
theorem O0 (t:List UInt8):(KX t).2.length≤t.length:=Nat.le_trans (kE (fun p q h=>by have:=hU h;omega)) (O1 t)
theorem OZ (t:List UInt8):(KW t).2.length≤t.length:=Nat.le_trans (kE (fun p q h=>by have:=(sO h).1;omega)) (O0 t)
theorem OY (t:List UInt8):(KV t).2.length≤t.length:=Nat.le_trans (kE (fun p q h=>by have:=(XV h).1;omega)) (OZ t)
theorem aEc (t:List UInt8):(p17 t).2.length≤t.length:=Nat.le_trans (kE (fun p q h=>(OL h).1)) (OY t)
theorem aBP {l q:List UInt8} {s:GSeal} {n:Nat} (h:OM l=some (s,q)) (hn:l.length≤n):oO s.idx∧(s.sig.length≤n∧∀ x∈s.sig,x.size≤n)∧(s.path.length≤n∧∀ x∈s.path,x.size≤n):=by obtain ⟨_,h1,h2,h3⟩:=OL h;exact⟨h1,⟨by omega,fun x hx=>by have:=h2.2 x hx;omega⟩,by omega,fun x hx=>by have:=h3.2 x hx;omega⟩
theorem aIP (t:List UInt8):oO zS.idx∧(zS.sig.length≤t.length∧∀ x∈zS.sig,x.size≤t.length)∧(zS.path.length≤t.length∧∀ x∈zS.path,x.size≤t.length):=by simp [zS,oO]
theorem aIu (t:List UInt8):(oO) (p1 t).1:=by unfold p1;exact pY (f:=lR) (d:=0) (l:=(p0 t).2) (oO) (⟨by decide,by decide⟩) (fun p q h=>(gB h).2)
theorem aIs (t:List UInt8):(oO) (p2 t).1:=by unfold p2;exact pY (f:=lR) (d:=0) (l:=(p1 t).2) (oO) (⟨by decide,by decide⟩) (fun p q h=>(gB h).2)
theorem aIq (t:List UInt8):(oO) (p3 t).1:=by unfold p3;exact pY (f:=lR) (d:=0) (l:=(p2 t).2) (oO) (⟨by decide,by decide⟩) (fun p q h=>(gB h).2)
theorem aIo (t:List UInt8):(oO) (p4 t).1:=by unfold p4;exact pY (f:=lR) (d:=0) (l:=(p3 t).2) (oO) (⟨by decide,by decide⟩) (fun p q h=>(gB h).2)
theorem aIm (t:List UInt8):(fun s:ByteArray=>s.size≤t.length) (p5 t).1:=by unfold p5;exact pY (f:=gJ) (d:=sNil) (l:=(p4 t).2) (fun s:ByteArray=>s.size≤t.length) ((aL6 _)) (fun p q h=>by have:=hU h;have:=U0 t;omega)
theorem aIk (t:List UInt8):(fun l:List ByteArray=>l.length≤t.length∧∀ x∈l,x.size≤t.length) (p6 t).1:=by unfold p6;exact pY (f:=(sC gJ)) (d:=[]) (l:=(p5 t).2) (fun l:List ByteArray=>l.length≤t.length∧∀ x∈l,x.size≤t.length) (⟨aL6 _,by simp⟩) (fun p q h=>by have h1:=sO h;have h2:=UZ t;exact⟨by omega,fun x hx=>by have:=h1.2 x hx;omega⟩)
theorem aIi (t:List UInt8):(fun s:ByteArray=>s.size≤t.length) (p7 t).1:=by unfold p7;exact pY (f:=gJ) (d:=sNil) (l:=(p6 t).2) (fun s:ByteArray=>s.size≤t.length) ((aL6 _)) (fun p q h=>by have:=hU h;have:=UY t;omega)
theorem aIg (t:List UInt8):(fun s:ByteArray=>s.size≤t.length) (p8 t).1:=by unfold p8;exact pY (f:=gJ) (d:=sNil) (l:=(p7 t).2) (fun s:ByteArray=>s.size≤t.length) ((aL6 _)) (fun p q h=>by have:=hU h;have:=UX t;omega)
theorem aGz (t:List UInt8):(oO) (K4 t).1:=by unfold K4;exact pY (f:=lR) (d:=0) (l:=(p9 t).2) (oO) (⟨by decide,by decide⟩) (fun p q h=>(gB h).2)
theorem aGx (t:List UInt8):(fun s:ByteArray=>s.size≤t.length) (K0 t).1:=by unfold K0;exact pY (f:=gJ) (d:=sNil) (l:=(K4 t).2) (fun s:ByteArray=>s.size≤t.length) ((aL6 _)) (fun p q h=>by have:=hU h;have:=O4 t;omega)
theorem aGv (t:List UInt8):(fun s:GSeal=>oO s.idx∧(s.sig.length≤t.length∧∀ x∈s.sig,x.size≤t.length)∧(s.path.length≤t.length∧∀ x∈s.path,x.size≤t.length)) (KZ t).1:=by unfold KZ;exact pY (f:=OM) (d:=zS) (l:=(K0 t).2) (fun s:GSeal=>oO s.idx∧(s.sig.length≤t.length∧∀ x∈s.sig,x.size≤t.length)∧(s.path.length≤t.length∧∀ x∈s.path,x.size≤t.length)) (aIP t) (fun p q h=>aBP h (O3 t))
theorem aGt (t:List UInt8):(fun s:ByteArray=>s.size≤t.length) (KY t).1:=by unfold KY;exact pY (f:=gJ) (d:=sNil) (l:=(KZ t).2) (fun s:ByteArray=>s.size≤t.length) ((aL6 _)) (fun p q h=>by have:=hU h;have:=O2 t;omega)
theorem aGr (t:List UInt8):(fun s:ByteArray=>s.size≤t.length) (KX t).1:=by unfold KX;exact pY (f:=gJ) (d:=sNil) (l:=(KY t).2) (fun s:ByteArray=>s.size≤t.length) ((aL6 _)) (fun p q h=>by have:=hU h;have:=O1 t;omega)
theorem aGp (t:List UInt8):(fun l:List ByteArray=>l.length≤t.length∧∀ x∈l,x.size≤t.length) (KW t).1:=by unfold KW;exact pY (f:=(sC gJ)) (d:=[]) (l:=(KX t).2) (fun l:List ByteArray=>l.length≤t.length∧∀ x∈l,x.size≤t.length) (⟨aL6 _,by simp⟩) (fun p q h=>by have h1:=sO h;have h2:=O0 t;exact⟨by omega,fun x hx=>by have:=h1.2 x hx;omega⟩)
theorem aGn (t:List UInt8):(fun l:List (Int×Int)=>l.length≤t.length∧∀ q∈l,oO q.1∧oO q.2) (KV t).1:=by unfold KV;exact pY (f:=(sC EA)) (d:=[]) (l:=(KW t).2) (fun l:List (Int×Int)=>l.length≤t.length∧∀ q∈l,oO q.1∧oO q.2) (⟨aL6 _,by simp⟩) (fun p q h=>by have h1:=XV h;have h2:=OZ t;exact⟨by omega,h1.2⟩)
theorem aGl (t:List UInt8):(fun s:GSeal=>oO s.idx∧(s.sig.length≤t.length∧∀ x∈s.sig,x.size≤t.length)∧(s.path.length≤t.length∧∀ x∈s.path,x.size≤t.length)) (p17 t).1:=by unfold p17;exact pY (f:=OM) (d:=zS) (l:=(KV t).2) (fun s:GSeal=>oO s.idx∧(s.sig.length≤t.length∧∀ x∈s.sig,x.size≤t.length)∧(s.path.length≤t.length∧∀ x∈s.path,x.size≤t.length)) (aIP t) (fun p q h=>aBP h (OY t))
theorem aGa {N:Nat} (hN:N≤20000) {k a n c od:Int} {br ta fr nm rs:ByteArray} {pa so:List ByteArray} {ed:List GEdit} {ye:Bool} {sl ps:GSeal} {tr:List (Int×Int)} (h1:oO k) (h2:oO a) (h3:oO n) (h4:oO c) (h10:oO od) (h5:br.size≤N) (h8:ta.size≤N) (h11:fr.size≤N) (h13:nm.size≤N) (h14:rs.size≤N)
  (h6:pa.length≤N∧∀ x∈pa,x.size≤N) (h15:so.length≤N∧∀ x∈so,x.size≤N) (h16:tr.length≤N∧∀ q∈tr,oO q.1∧oO q.2) (he:ed.length≤20000) (he2:∀ e∈ed,QP e)
  (h12:oO sl.idx∧(sl.sig.length≤N∧∀ x∈sl.sig,x.size≤N)∧(sl.path.length≤N∧∀ x∈sl.path,x.size≤N)) (h17:oO ps.idx∧(ps.sig.length≤N∧∀ x∈ps.sig,x.size≤N)∧(ps.path.length≤N∧∀ x∈ps.path,x.size≤N)) :
  gQ ⟨k,a,n,c,br,pa,ed,ta,ye,od,fr,sl,⟨nm,rs,so,tr,ps⟩⟩∧pa.length < 549755813888:=by
 have hL:∀ {l:List ByteArray},(l.length≤N∧∀ x∈l,x.size≤N)→LH l:=fun h=>⟨by omega,fun x hx=>by have:=h.2 x hx;omega⟩;obtain ⟨s1,s2,s3⟩:=h12;obtain ⟨q1,q2,q3⟩:=h17;exact⟨⟨⟨h1,h2,h3,h4,h10⟩,⟨by show br.size < _;omega,by show ta.size < _;omega,by show fr.size < _;omega⟩,hL h6,⟨by show ed.length < _;omega,he2⟩,⟨s1,hL s2,hL s3⟩,by show nm.size < _;omega,by show rs.size < _;omega,hL h15,by show tr.length < _;have:=h16.1;omega,q1,hL q2,hL q3⟩,by have:=h6.1;omega⟩
theorem aB2 {t:List UInt8} (ht:t.length≤20000):gQ (CI t)∧(CI t).parents.length < 549755813888 :=aGa ht (aIu t) (aIs t) (aIq t) (aIo t) (aGz t) (aIm t) (aIg t) (aGx t) (aGt t) (aGr t) (aIk t) (aGp t) (aGn t) (RQ _) (US _) (aGv t) (aGl t)
theorem dA {α β:Type} {o:Option α} {g:α→β}:(o.map g=none↔o.isSome=false)∧((o.map g).isSome=o.isSome):=by cases o<;>simp
theorem kG {t:List UInt8} {b:Bool} (h:b∈PB t) (hb:b=false):qC t=false:=by rw [qC,List.all_eq_false];exact⟨b,h,by rw [hb];decide⟩
theorem aK0 (t:List UInt8):(xI t).getD (sv sNil,t)=(sv (p0 t).1,(p0 t).2):=by unfold p0 xI;exact gZ (f:=gJ) (d:=sNil) (l:=t) (e:=fun v=>sv v)
theorem aJE (t:List UInt8) (h:xI t=none):qC t=false:=kG (b:=(gJ t).isSome) (List.mem_of_getElem? (i:=0) rfl) (dA.1.1 h)
theorem aKZ (t:List UInt8):(tW (p0 t).2).getD (iv 0,(p0 t).2)=(iv (p1 t).1,(p1 t).2):=by unfold p1 tW;exact gZ (f:=lR) (d:=0) (l:=(p0 t).2) (e:=fun v=>iv v)
theorem aIv (t:List UInt8) (h:tW (p0 t).2=none):qC t=false:=kG (b:=(lR (p0 t).2).isSome) (List.mem_of_getElem? (i:=1) rfl) (dA.1.1 h)
theorem aKY (t:List UInt8):(tW (p1 t).2).getD (iv 0,(p1 t).2)=(iv (p2 t).1,(p2 t).2):=by unfold p2 tW;exact gZ (f:=lR) (d:=0) (l:=(p1 t).2) (e:=fun v=>iv v)
theorem aIt (t:List UInt8) (h:tW (p1 t).2=none):qC t=false:=kG (b:=(lR (p1 t).2).isSome) (List.mem_of_getElem? (i:=2) rfl) (dA.1.1 h)
theorem aKX (t:List UInt8):(tW (p2 t).2).getD (iv 0,(p2 t).2)=(iv (p3 t).1,(p3 t).2):=by unfold p3 tW;exact gZ (f:=lR) (d:=0) (l:=(p2 t).2) (e:=fun v=>iv v)
theorem aIr (t:List UInt8) (h:tW (p2 t).2=none):qC t=false:=kG (b:=(lR (p2 t).2).isSome) (List.mem_of_getElem? (i:=3) rfl) (dA.1.1 h)
theorem aKW (t:List UInt8):(tW (p3 t).2).getD (iv 0,(p3 t).2)=(iv (p4 t).1,(p4 t).2):=by unfold p4 tW;exact gZ (f:=lR) (d:=0) (l:=(p3 t).2) (e:=fun v=>iv v)
theorem aIp (t:List UInt8) (h:tW (p3 t).2=none):qC t=false:=kG (b:=(lR (p3 t).2).isSome) (List.mem_of_getElem? (i:=4) rfl) (dA.1.1 h)
theorem aKV (t:List UInt8):(xI (p4 t).2).getD (sv sNil,(p4 t).2)=(sv (p5 t).1,(p5 t).2):=by unfold p5 xI;exact gZ (f:=gJ) (d:=sNil) (l:=(p4 t).2) (e:=fun v=>sv v)
theorem aIn (t:List UInt8) (h:xI (p4 t).2=none):qC t=false:=kG (b:=(gJ (p4 t).2).isSome) (List.mem_of_getElem? (i:=5) rfl) (dA.1.1 h)
theorem aKU (t:List UInt8):(VE (p5 t).2).getD (.pv (aU []),(p5 t).2)=(.pv (aU (p6 t).1),(p6 t).2):=by unfold p6 VE;exact gZ (f:=(sC gJ)) (d:=[]) (l:=(p5 t).2) (e:=fun v=>.pv (aU v))
theorem aIl (t:List UInt8) (h:VE (p5 t).2=none):qC t=false:=kG (b:=((sC gJ) (p5 t).2).isSome) (List.mem_of_getElem? (i:=6) rfl) (dA.1.1 h)
theorem aKT (t:List UInt8):(xI (p6 t).2).getD (sv sNil,(p6 t).2)=(sv (p7 t).1,(p7 t).2):=by unfold p7 xI;exact gZ (f:=gJ) (d:=sNil) (l:=(p6 t).2) (e:=fun v=>sv v)
theorem aIj (t:List UInt8) (h:xI (p6 t).2=none):qC t=false:=kG (b:=(gJ (p6 t).2).isSome) (List.mem_of_getElem? (i:=7) rfl) (dA.1.1 h)
theorem aKS (t:List UInt8):(xI (p7 t).2).getD (sv sNil,(p7 t).2)=(sv (p8 t).1,(p8 t).2):=by unfold p8 xI;exact gZ (f:=gJ) (d:=sNil) (l:=(p7 t).2) (e:=fun v=>sv v)
theorem aIh (t:List UInt8) (h:xI (p7 t).2=none):qC t=false:=kG (b:=(gJ (p7 t).2).isSome) (List.mem_of_getElem? (i:=8) rfl) (dA.1.1 h)
theorem aKR (t:List UInt8):(xI (p8 t).2).getD (sv sNil,(p8 t).2)=(sv (p9 t).1,(p9 t).2):=by unfold p9 xI;exact gZ (f:=gJ) (d:=sNil) (l:=(p8 t).2) (e:=fun v=>sv v)
theorem aIf (t:List UInt8) (h:xI (p8 t).2=none):qC t=false:=kG (b:=(gJ (p8 t).2).isSome) (List.mem_of_getElem? (i:=9) rfl) (dA.1.1 h)
theorem aJD (t:List UInt8):(tW (p9 t).2).getD (iv 0,(p9 t).2)=(iv (K4 t).1,(K4 t).2):=by unfold K4 tW;exact gZ (f:=lR) (d:=0) (l:=(p9 t).2) (e:=fun v=>iv v)
theorem aHA (t:List UInt8) (h:tW (p9 t).2=none):qC t=false:=kG (b:=(lR (p9 t).2).isSome) (List.mem_of_getElem? (i:=10) rfl) (dA.1.1 h)
theorem aJC (t:List UInt8):(xI (K4 t).2).getD (sv sNil,(K4 t).2)=(sv (K0 t).1,(K0 t).2):=by unfold K0 xI;exact gZ (f:=gJ) (d:=sNil) (l:=(K4 t).2) (e:=fun v=>sv v)
theorem aGy (t:List UInt8) (h:xI (K4 t).2=none):qC t=false:=kG (b:=(gJ (K4 t).2).isSome) (List.mem_of_getElem? (i:=11) rfl) (dA.1.1 h)
theorem aJB (t:List UInt8):(slA (K0 t).2).getD (av (fA zS),(K0 t).2)=(av (fA (KZ t).1),(KZ t).2):=by unfold KZ slA;exact gZ (f:=OM) (d:=zS) (l:=(K0 t).2) (e:=fun v=>av (fA v))
theorem aGw (t:List UInt8) (h:slA (K0 t).2=none):qC t=false:=kG (b:=(OM (K0 t).2).isSome) (List.mem_of_getElem? (i:=12) rfl) (dA.1.1 h)
theorem aJA (t:List UInt8):(xI (KZ t).2).getD (sv sNil,(KZ t).2)=(sv (KY t).1,(KY t).2):=by unfold KY xI;exact gZ (f:=gJ) (d:=sNil) (l:=(KZ t).2) (e:=fun v=>sv v)
theorem aGu (t:List UInt8) (h:xI (KZ t).2=none):qC t=false:=kG (b:=(gJ (KZ t).2).isSome) (List.mem_of_getElem? (i:=13) rfl) (dA.1.1 h)
theorem aIz (t:List UInt8):(xI (KY t).2).getD (sv sNil,(KY t).2)=(sv (KX t).1,(KX t).2):=by unfold KX xI;exact gZ (f:=gJ) (d:=sNil) (l:=(KY t).2) (e:=fun v=>sv v)
theorem aGs (t:List UInt8) (h:xI (KY t).2=none):qC t=false:=kG (b:=(gJ (KY t).2).isSome) (List.mem_of_getElem? (i:=14) rfl) (dA.1.1 h)
theorem aIy (t:List UInt8):(VE (KX t).2).getD (.pv (aU []),(KX t).2)=(.pv (aU (KW t).1),(KW t).2):=by unfold KW VE;exact gZ (f:=(sC gJ)) (d:=[]) (l:=(KX t).2) (e:=fun v=>.pv (aU v))
theorem aGq (t:List UInt8) (h:VE (KX t).2=none):qC t=false:=kG (b:=((sC gJ) (KX t).2).isSome) (List.mem_of_getElem? (i:=15) rfl) (dA.1.1 h)
theorem aIx (t:List UInt8):(PJ (KW t).2).getD (.pv (oZ []),(KW t).2)=(.pv (oZ (KV t).1),(KV t).2):=by unfold KV PJ;exact gZ (f:=(sC EA)) (d:=[]) (l:=(KW t).2) (e:=fun v=>.pv (oZ v))
theorem aGo (t:List UInt8) (h:PJ (KW t).2=none):qC t=false:=kG (b:=((sC EA) (KW t).2).isSome) (List.mem_of_getElem? (i:=16) rfl) (dA.1.1 h)
theorem aIw (t:List UInt8):(slA (KV t).2).getD (av (fA zS),(KV t).2)=(av (fA (p17 t).1),(p17 t).2):=by unfold p17 slA;exact gZ (f:=OM) (d:=zS) (l:=(KV t).2) (e:=fun v=>av (fA v))
theorem aGm (t:List UInt8) (h:slA (KV t).2=none):qC t=false:=kG (b:=(OM (KV t).2).isSome) (List.mem_of_getElem? (i:=17) rfl) (dA.1.1 h)
theorem aEh (t:List UInt8) (h0:(xI t).isSome=true) (h1:(tW (p0 t).2).isSome=true) (h2:(tW (p1 t).2).isSome=true) (h3:(tW (p2 t).2).isSome=true) (h4:(tW (p3 t).2).isSome=true) (h5:(xI (p4 t).2).isSome=true) (h6:(VE (p5 t).2).isSome=true) (h7:(xI (p6 t).2).isSome=true) (h8:(xI (p7 t).2).isSome=true) (h9:(xI (p8 t).2).isSome=true) (h10:(tW (p9 t).2).isSome=true) (h11:(xI (K4 t).2).isSome=true) (h12:(slA (K0 t).2).isSome=true) (h13:(xI (KZ t).2).isSome=true) (h14:(xI (KY t).2).isSome=true) (h15:(VE (KX t).2).isSome=true) (h16:(PJ (KW t).2).isSome=true) (h17:(slA (KV t).2).isSome=true):qC t=true:=by unfold qC PB;simp only [List.all_cons,List.all_nil,id,Bool.and_true,aLY];exact⟨dA.2▸h0,dA.2▸h1,dA.2▸h2,dA.2▸h3,dA.2▸h4,dA.2▸h5,dA.2▸h6,dA.2▸h7,dA.2▸h8,dA.2▸h9,dA.2▸h10,dA.2▸h11,dA.2▸h12,dA.2▸h13,dA.2▸h14,dA.2▸h15,dA.2▸h16,dA.2▸h17⟩
end Go.Proofs.YtiifmppaejpemaaGreatDoor
namespace Go.Proofs.YtiifmppaejpemaaGreatDoor
open Go.Proofs.Tryz
open Go.Abs
theorem QN.mono {P:Program} {F:FuncId} {args:List AV} {H:aA} {u:FrameMode} {K K':aA→Prop} (h:QN P F args H u K) (hk:∀ H,K H→K' H):QN P F args H u K' :=fun I ι w vs h1 h2 h3=>(h I ι w vs h1 h2 h3).mono fun _ _ _ ⟨v,H',I',ι',e,s,q,r⟩=>⟨v,H',I',ι',e,s,hk _ q,r⟩
def PQ (t:List UInt8) (r:AV) (H:aA):Prop:=r=.tup [av (bP (iE t).1),iv (iE t).2]∧H=[]
abbrev dE:bN:=[(2,.ref 2 0 0 0),(3,.ref 3 0 0 0)]
theorem SY (x:GRec) (e:Int) {t:List UInt8} (hg:iE t=(x,e)):∃ r,(∀ (a:Act) (w:World) (I:Nat→Prop) (ι:dR),Rel I ι (UW x e) w→gO w I ι (UW x e) dE a→∃ v,(results f15 a.tmps).run Tryz.prog w=.ok v w∧VRel w I ι (UW x e) v r)∧∃ r' H3,Fin [] (UW x e) r H3 r'∧PQ t r' H3 :=⟨.tup [av (bP x),iv e],aKO rfl (XI aR aM) (eW rfl jC rfl rfl rfl rfl),_,[],Fin.wk (by simp [bP]) trivial trivial,by rw [PQ,hg];exact⟨rfl,rfl⟩⟩
theorem mR {t:List UInt8} {ch:DZ} {E1:bN} {H2:aA} (ht:¬ 20000 < t.length) (hok:qC t=false) (he:ch=BC) (h2:E1.get 2=some (.ref 2 0 0 0)) (h3:E1.get 3=some (.ref 3 0 0 0)) (s2:∃ o,H2.get 2=some o∧iQ o rAJ) (s3:∃ o,H2.get 3=some o∧iQ o eAJ) :
  YP Tryz.prog f15 [] (UW zR 0) 50 dcJ (PQ t) (.panic ch) E1 H2:=by
 subst he;have hg:iE t=(zR,5):=by rw [iE,aLN ht,aLN (by rw [hok];rintro⟨h,_⟩;cases h)]
 refine⟨.panicking BC,dE,pAJ,.inr ⟨BC,rfl,rfl⟩,cC.toAny (fun u v hu=>?_) (fun id o' ho'=>?_) (fun id hi=>?_),QN.mono aGi fun H hH=>by subst hH;exact SY zR 5 hg⟩
 ·have hm:=eZ hu;simp only [aL1,aL5,or_false,Prod.mk.injEq] at hm;rcases hm with⟨rfl,rfl⟩|⟨rfl,rfl⟩
  ·exact⟨h2,by simp;rfl⟩
  exact⟨h3,by simp;rfl⟩
 ·have hm:=cQ ho';simp only [aL1,aL5,or_false,Prod.mk.injEq] at hm;rcases hm with⟨rfl,rfl⟩|⟨rfl,rfl⟩
  ·obtain ⟨o,k1,k2⟩:=s3;exact⟨o,k1,k2,by simp⟩
  obtain ⟨o,k1,k2⟩:=s2;exact⟨o,k1,k2,by simp⟩
 by_cases e3:3=id
 ·subst e3;rfl
 by_cases e2:2=id
 ·subst e2;rfl
 simp [aA.get,jA e3,jA e2] at hi
theorem MT {t:List UInt8} {x:GRec} {e:Int} {E1:bN} {H2:aA} (hg:iE t=(x,e)) (hE:cC (UW zR 0) E1 H2 dE (UW x e)):YP Tryz.prog f15 [] (UW zR 0) 50 dcJ (PQ t) .ret E1 H2 :=⟨.returning,dE,UW x e,.inl ⟨.inr rfl,rfl⟩,hE,QN.mono (aGh x e) fun H hH=>by subst hH;exact SY x e hg⟩
theorem GU {x:GRec} {o:Ob} (h:iQ (rOJ x) o):iQ o rAJ:=⟨h.1.symm,h.2.1.symm,h.2.2.1.symm,h.2.2.2.symm⟩
theorem zO {e:Int} {o:Ob} (h:iQ (eOJ e) o):iQ o eAJ:=⟨h.1.symm,h.2.1.symm,h.2.2.1.symm,h.2.2.2.symm⟩
theorem OP (x:GRec):iQ (rOJ x) rAJ:=⟨rfl,rfl,rfl,rfl⟩
theorem OO (e:Int):iQ (eOJ e) eAJ:=⟨rfl,rfl,rfl,rfl⟩
theorem aBe (t:List UInt8) (hts:t.length < 1099511627776) (H:aA):aG Tryz.prog 15 [sv (ofL t)] H (fun r H'=>r=.tup [av (bP (iE t).1),iv (iE t).2]∧H'=H):=by
 refine aG.pure (show aG Tryz.prog 15 [sv (ofL t)] [] (PQ t)from ?_) (by simp) H;have hls:(ofL t).size=t.length:=fY t;refine aG.bodyD func15 rfl ntmps15 (aL2 rfl) ?_;refine YB ?_;refine Rg<|Dd (by exact bE (id:=2) rfl B5 rfl rfl)<|Dd (by exact bE (id:=3) rfl aGX rfl rfl)<|Zz ?_;refine YB ?_;refine Sr<|Dd aI<|Dd (nV underlying9)<|Dd mU<|Zz ?_;refine Cn ?_ ?_<;>intro hc1
 ·have hb:20000 < t.length:=by have:=aLL hc1;omega
  have hg:iE t=(zR,2):=by rw [iE,aLO hb]
  refine Sr<|Dd (uS S8)<|Uu (jK aM)<|Uu (jK sizeOf41)<|Zz<|aC ?_;refine rT (H':=[]) (.inr rfl) rfl (eU rfl aR aM rfl rfl rfl (by simp only [Zl,encStr];rfl) rfl) (eW rfl jC rfl rfl rfl rfl) (Fin.wk (by simp [bP,KH]) trivial trivial) ?_;rw [PQ,hg];exact Qq
 have hb:¬ 20000 < t.length:=by have:=aLM hc1;omega
 refine aE ?_;refine aAO (F:=50) (cs:=dcJ) rfl rfl rfl rfl rfl rfl rfl rfl rfl call50 ?_;refine fE.mono (Q:=YP Tryz.prog f15 [] (UW zR 0) 50 dcJ (PQ t)) ?_ (fun _ _ _ h=>h);have t0:=aK0 t;have n0:=aJE t;have c0:=aBq t;have t1:=aKZ t;have n1:=aIv t;have c1:=aBo t;have t2:=aKY t;have n2:=aIt t;have c2:=aBn t;have t3:=aKX t;have n3:=aIr t;have c3:=aBm t;have t4:=aKW t;have n4:=aIp t;have c4:=U0 t;have t5:=aKV t;have n5:=aIn t;have c5:=UZ t;have t6:=aKU t;have n6:=aIl t;have c6:=UY t;have t7:=aKT t;have n7:=aIj t;have c7:=UX t;have t8:=aKS t;have n8:=aIh t;have c8:=aBl t;have t9:=aKR t;have n9:=aIf t;have c9:=aBk t;have t10:=aJD t;have n10:=aHA t;have c10:=O4 t;have t11:=aJC t;have n11:=aGy t;have c11:=O3 t;have t12:=aJB t;have n12:=aGw t;have c12:=O2 t;have t13:=aJA t;have n13:=aGu t;have c13:=O1 t;have t14:=aIz t;have n14:=aGs t;have c14:=O0 t;have t15:=aIy t;have n15:=aGq t;have c15:=OZ t;have t16:=aIx t;have n16:=aGo t;have c16:=OY t;have t17:=aIw t;have n17:=aGm t;have c17:=aEc t;have yes:=aEh t;have hok:=aB2 (t:=t) (by omega);have hread:CI t=⟨(p1 t).1,(p2 t).1,(p3 t).1,(p4 t).1,(p5 t).1,(p6 t).1,(kN (p7 t).1).1,(p8 t).1,decide ((p9 t).1=LG),(K4 t).1,(K0 t).1,(KZ t).1,⟨(KY t).1,(KX t).1,(KW t).1,(KV t).1,(p17 t).1⟩⟩:=rfl;have s7:(p7 t).1.size≤t.length:=aIi t;have hg0:iE t=if qC t=true∧nA (CI t)=(ofL t,0)then(CI t,0)else(zR,5):=by rw [iE,aLN hb]
 rw [hread] at hok hg0;obtain ⟨V0,hV0⟩:∃ v,v=(p0 t).1:=⟨_,rfl⟩;obtain ⟨L0,hL0⟩:∃ v,v=(p0 t).2:=⟨_,rfl⟩;obtain ⟨V1,hV1⟩:∃ v,v=(p1 t).1:=⟨_,rfl⟩;obtain ⟨L1,hL1⟩:∃ v,v=(p1 t).2:=⟨_,rfl⟩;obtain ⟨V2,hV2⟩:∃ v,v=(p2 t).1:=⟨_,rfl⟩;obtain ⟨L2,hL2⟩:∃ v,v=(p2 t).2:=⟨_,rfl⟩;obtain ⟨V3,hV3⟩:∃ v,v=(p3 t).1:=⟨_,rfl⟩;obtain ⟨L3,hL3⟩:∃ v,v=(p3 t).2:=⟨_,rfl⟩;obtain ⟨V4,hV4⟩:∃ v,v=(p4 t).1:=⟨_,rfl⟩;obtain ⟨L4,hL4⟩:∃ v,v=(p4 t).2:=⟨_,rfl⟩;obtain ⟨V5,hV5⟩:∃ v,v=(p5 t).1:=⟨_,rfl⟩;obtain ⟨L5,hL5⟩:∃ v,v=(p5 t).2:=⟨_,rfl⟩;obtain ⟨V6,hV6⟩:∃ v,v=(p6 t).1:=⟨_,rfl⟩;obtain ⟨L6,hL6⟩:∃ v,v=(p6 t).2:=⟨_,rfl⟩;obtain ⟨V7,hV7⟩:∃ v,v=(p7 t).1:=⟨_,rfl⟩;obtain ⟨L7,hL7⟩:∃ v,v=(p7 t).2:=⟨_,rfl⟩;obtain ⟨V8,hV8⟩:∃ v,v=(p8 t).1:=⟨_,rfl⟩;obtain ⟨L8,hL8⟩:∃ v,v=(p8 t).2:=⟨_,rfl⟩;obtain ⟨V9,hV9⟩:∃ v,v=(p9 t).1:=⟨_,rfl⟩;obtain ⟨L9,hL9⟩:∃ v,v=(p9 t).2:=⟨_,rfl⟩;obtain ⟨V10,hV10⟩:∃ v,v=(K4 t).1:=⟨_,rfl⟩;obtain ⟨L10,hL10⟩:∃ v,v=(K4 t).2:=⟨_,rfl⟩;obtain ⟨V11,hV11⟩:∃ v,v=(K0 t).1:=⟨_,rfl⟩;obtain ⟨L11,hL11⟩:∃ v,v=(K0 t).2:=⟨_,rfl⟩;obtain ⟨V12,hV12⟩:∃ v,v=(KZ t).1:=⟨_,rfl⟩;obtain ⟨L12,hL12⟩:∃ v,v=(KZ t).2:=⟨_,rfl⟩;obtain ⟨V13,hV13⟩:∃ v,v=(KY t).1:=⟨_,rfl⟩;obtain ⟨L13,hL13⟩:∃ v,v=(KY t).2:=⟨_,rfl⟩;obtain ⟨V14,hV14⟩:∃ v,v=(KX t).1:=⟨_,rfl⟩;obtain ⟨L14,hL14⟩:∃ v,v=(KX t).2:=⟨_,rfl⟩;obtain ⟨V15,hV15⟩:∃ v,v=(KW t).1:=⟨_,rfl⟩;obtain ⟨L15,hL15⟩:∃ v,v=(KW t).2:=⟨_,rfl⟩;obtain ⟨V16,hV16⟩:∃ v,v=(KV t).1:=⟨_,rfl⟩;obtain ⟨L16,hL16⟩:∃ v,v=(KV t).2:=⟨_,rfl⟩;obtain ⟨V17,hV17⟩:∃ v,v=(p17 t).1:=⟨_,rfl⟩;obtain ⟨L17,hL17⟩:∃ v,v=(p17 t).2:=⟨_,rfl⟩;simp only [← hV0,← hL0,← hV1,← hL1,← hV2,← hL2,← hV3,← hL3,← hV4,← hL4,← hV5,← hL5,← hV6,← hL6,← hV7,← hL7,← hV8,← hL8,← hV9,← hL9,← hV10,← hL10,← hV11,← hL11,← hV12,← hL12,← hV13,← hL13,← hV14,← hL14,← hV15,← hL15,← hV16,← hL16,← hV17,← hL17] at t0 n0 c0 t1 n1 c1 t2 n2 c2 t3 n3 c3 t4 n4 c4 t5 n5 c5 t6 n6 c6 t7 n7 c7 t8 n8 c8 t9 n9 c9 t10 n10 c10 t11 n11 c11 t12 n12 c12 t13 n13 c13 t14 n14 c14 t15 n15 c15 t16 n16 c16 t17 n17 c17 yes hok hg0 s7;clear hread hV0 hL0 hV1 hL1 hV2 hL2 hV3 hL3 hV4 hL4 hV5 hL5 hV6 hL6 hV7 hL7 hV8 hL8 hV9 hL9 hV10 hL10 hV11 hL11 hV12 hL12 hV13 hL13 hV14 hL14 hV15 hL15 hV16 hL16 hV17 hL17;have hpc:=fun H=>aBf V7 H (by omega);obtain ⟨PE,hPE⟩:∃ v,v=kN V7:=⟨_,rfl⟩;rw [← hPE] at hpc hok hg0;clear hPE;obtain ⟨ED,EE⟩:=PE;simp only at hpc hok hg0;have htx:=fun H=>OF ⟨V1,V2,V3,V4,V5,V6,ED,V8,decide (V9=LG),V10,V11,V12,⟨V13,V14,V15,V16,V17⟩⟩ hok.1 hok.2 H;obtain ⟨TX,hTX⟩:∃ v,v=nA ⟨V1,V2,V3,V4,V5,V6,ED,V8,decide (V9=LG),V10,V11,V12,⟨V13,V14,V15,V16,V17⟩⟩:=⟨_,rfl⟩;rw [← hTX] at htx hg0;clear hTX hok;refine Sr<|Dd aI<|Dd (uS aKb)<|Dd (by exact bZ (id:=980) rfl rfl rfl rfl rfl)<|Dd (by exact bE (id:=4) rfl aKF rfl rfl)<|Uu (jK sizeOf85)<|Zz<|Sq ?_;refine fE.ent (E':=[(0,sv (ofL t)),(2,.ref 2 0 0 0),(3,.ref 3 0 0 0),(4,.ref 4 0 0 0)]) (H':=[(980,RI t),(4,inO),(3,eOJ 0),(2,rOJ zR)]) (cC.wk (Eb<|Ea<|Ea<|Ea<|trivial) (Hb<|Ha<|Hb<|Hb<|trivial) ⟨rfl,rfl,trivial⟩) ?_;refine eL ?_;refine fD rfl rfl rfl (by exact aK rfl cS rfl rfl rfl rfl rfl) ?_
 refine QB rfl rfl rfl (by exact cW rfl rfl jJ rfl (((sZ t (by omega)).tot t0 rfl (eA _)).mono (PP':=fun ch H'=>qC t=false∧ch=BC∧∃ q,H'=jH q++_) (fun _ _ h=>h) (fun ch H' ⟨e,e2,e3⟩=>⟨n0 e,e2,e3⟩))) (fun ch H' h=>by obtain ⟨e,e2,q,rfl⟩:=h;exact mR hb e e2 rfl rfl ⟨_,rfl,OP _⟩ ⟨_,rfl,OO _⟩) (fun h16=>?_);refine HK ?_;refine Sq ?_;refine fE.ent (E':=[(0,sv (ofL t)),(2,.ref 2 0 0 0),(3,.ref 3 0 0 0),(4,.ref 4 0 0 0)]) (H':=[(980,RI L0),(4,inO),(3,eOJ 0),(2,rOJ zR)]) (cC.wk (Eb<|Ea<|Ea<|Ea<|trivial) (Hb<|Ha<|Hb<|Hb<|trivial) ⟨rfl,rfl,trivial⟩) ?_;refine rS (fun ch H1 H2=>qC t=false∧ch=BC∧∃ q,H2=jH q++H1) [2,3] [2,3] [] rfl follows (fun ch E1 H1 H2 hts hsh hks ⟨e,e2,q,e3⟩=>by subst e3;obtain ⟨o2,k1,k2⟩:=hsh 2 (by simp) _ rfl;obtain ⟨o3,k3,k4⟩:=hsh 3 (by simp) _ rfl;exact mR hb e e2 ((hts 2 (by simp)).trans rfl) ((hts 3 (by simp)).trans rfl) ⟨o2,k1,GU k2⟩ ⟨o3,k3,zO k4⟩) ?_;refine bU (r:=⟨_,some [4],[]⟩) (DStep.plain rfl (fun H1 hH=>by exact(by exact aK rfl cS rfl ((hH _ rfl).trans rfl) rfl rfl rfl))) rfl ?_;refine pJ (r:=⟨_,some [980],jH L1⟩) (.pan rfl (fun H1 hH=>by exact cW rfl rfl fS rfl (((kD L0 (by omega)).tot t1 ((hH 980 rfl).trans rfl) (eA _)).mono (PP':=fun ch H'=>qC t=false∧ch=BC∧∃ q,H'=jH q++_) (fun _ _ h=>h) (fun ch H' ⟨e,e2,e3⟩=>⟨n1 e,e2,e3⟩)))) rfl ?_;refine bU (r:=⟨_,some [4],[]⟩) (DStep.plain rfl (fun H1 hH=>by exact(by exact aK rfl cS rfl ((hH _ rfl).trans rfl) rfl rfl rfl))) rfl ?_;refine pJ (r:=⟨_,some [980],jH L2⟩) (.pan rfl (fun H1 hH=>by exact cW rfl rfl fS rfl (((kD L1 (by omega)).tot t2 ((hH 980 rfl).trans rfl) (eA _)).mono (PP':=fun ch H'=>qC t=false∧ch=BC∧∃ q,H'=jH q++_) (fun _ _ h=>h) (fun ch H' ⟨e,e2,e3⟩=>⟨n2 e,e2,e3⟩)))) rfl ?_;refine bU (r:=⟨_,some [4],[]⟩) (DStep.plain rfl (fun H1 hH=>by exact(by exact aK rfl cS rfl ((hH _ rfl).trans rfl) rfl rfl rfl))) rfl ?_;refine pJ (r:=⟨_,some [980],jH L3⟩) (.pan rfl (fun H1 hH=>by exact cW rfl rfl fS rfl (((kD L2 (by omega)).tot t3 ((hH 980 rfl).trans rfl) (eA _)).mono (PP':=fun ch H'=>qC t=false∧ch=BC∧∃ q,H'=jH q++_) (fun _ _ h=>h) (fun ch H' ⟨e,e2,e3⟩=>⟨n3 e,e2,e3⟩)))) rfl ?_;refine bU (r:=⟨_,some [4],[]⟩) (DStep.plain rfl (fun H1 hH=>by exact(by exact aK rfl cS rfl ((hH _ rfl).trans rfl) rfl rfl rfl))) rfl ?_;refine pJ (r:=⟨_,some [980],jH L4⟩) (.pan rfl (fun H1 hH=>by exact cW rfl rfl fS rfl (((kD L3 (by omega)).tot t4 ((hH 980 rfl).trans rfl) (eA _)).mono (PP':=fun ch H'=>qC t=false∧ch=BC∧∃ q,H'=jH q++_) (fun _ _ h=>h) (fun ch H' ⟨e,e2,e3⟩=>⟨n4 e,e2,e3⟩)))) rfl ?_;refine bU (r:=⟨_,some [2],[]⟩) (DStep.plain rfl (fun H1 hH=>by exact(by exact aW rfl BL rfl ((hH _ rfl).trans rfl) rfl rfl))) rfl ?_;refine bU (r:=⟨_,some [2],[_]⟩) (DStep.plain rfl (fun H1 hH=>by exact(by exact aZ rfl sizeOf3 rfl rfl rfl ((hH _ rfl).trans rfl) rfl rfl (aL2 rfl) rfl rfl))) rfl ?_;refine bU (r:=⟨_,some [2],[]⟩) (DStep.plain rfl (fun H1 hH=>by exact(by exact aW rfl yT rfl ((hH _ rfl).trans rfl) rfl rfl))) rfl ?_
 refine bU (r:=⟨_,some [2],[_]⟩) (DStep.plain rfl (fun H1 hH=>by exact(by exact aZ rfl sizeOf3 rfl rfl rfl ((hH _ rfl).trans rfl) rfl rfl (aL2 rfl) rfl rfl))) rfl ?_;refine bU (r:=⟨_,some [2],[]⟩) (DStep.plain rfl (fun H1 hH=>by exact(by exact aW rfl pT rfl ((hH _ rfl).trans rfl) rfl rfl))) rfl ?_;refine bU (r:=⟨_,some [2],[_]⟩) (DStep.plain rfl (fun H1 hH=>by exact(by exact aZ rfl sizeOf3 rfl rfl rfl ((hH _ rfl).trans rfl) rfl rfl (aL2 rfl) rfl rfl))) rfl ?_;refine bU (r:=⟨_,some [2],[]⟩) (DStep.plain rfl (fun H1 hH=>by exact(by exact aW rfl yS rfl ((hH _ rfl).trans rfl) rfl rfl))) rfl ?_;refine bU (r:=⟨_,some [2],[_]⟩) (DStep.plain rfl (fun H1 hH=>by exact(by exact aZ rfl sizeOf3 rfl rfl rfl ((hH _ rfl).trans rfl) rfl rfl (aL2 rfl) rfl rfl))) rfl ?_;refine DE ⟨⟨by kernel_rfl,by kernel_rfl,by kernel_rfl⟩,fun hF=>?_⟩;simp only [QM,true_and,and_true] at hF;refine Sq ?_;have f4:=hF;refine fE.ent (E':=[(0,sv (ofL t)),(2,.ref 2 0 0 0),(3,.ref 3 0 0 0),(4,.ref 4 0 0 0)]) (H':=[(980,RI L4),(4,inO),(3,eOJ 0),(2,rOJ ⟨V1,V2,V3,V4,sNil,[],[],sNil,false,0,sNil,zS,⟨sNil,sNil,[],[],zS⟩⟩)]) (cC.wk (Eb<|Ea<|Ea<|Ea<|trivial) (Hb<|Ha<|Hb<|Hb<|trivial) ⟨rfl,rfl,trivial⟩) ?_;refine rS (fun ch H1 H2=>qC t=false∧ch=BC∧∃ q,H2=jH q++H1) [2,3] [2,3] [] rfl follows (fun ch E1 H1 H2 hts hsh hks ⟨e,e2,q,e3⟩=>by subst e3;obtain ⟨o2,k1,k2⟩:=hsh 2 (by simp) _ rfl;obtain ⟨o3,k3,k4⟩:=hsh 3 (by simp) _ rfl;exact mR hb e e2 ((hts 2 (by simp)).trans rfl) ((hts 3 (by simp)).trans rfl) ⟨o2,k1,GU k2⟩ ⟨o3,k3,zO k4⟩) ?_;refine bU (r:=⟨_,some [4],[]⟩) (DStep.plain rfl (fun H1 hH=>by exact(by exact aK rfl cS rfl ((hH _ rfl).trans rfl) rfl rfl rfl))) rfl ?_;refine pJ (r:=⟨_,some [980],jH L5⟩) (.pan rfl (fun H1 hH=>by exact cW rfl rfl jJ rfl (((sZ L4 (by omega)).tot t5 ((hH 980 rfl).trans rfl) (eA _)).mono (PP':=fun ch H'=>qC t=false∧ch=BC∧∃ q,H'=jH q++_) (fun _ _ h=>h) (fun ch H' ⟨e,e2,e3⟩=>⟨n5 e,e2,e3⟩)))) rfl ?_;refine bU (r:=⟨_,some [4],[]⟩) (DStep.plain rfl (fun H1 hH=>by exact(by exact aK rfl cS rfl ((hH _ rfl).trans rfl) rfl rfl rfl))) rfl ?_;refine bU (r:=⟨_,some [4],[]⟩) (DStep.plain rfl (fun H1 hH=>by exact(by exact aK rfl cS rfl ((hH _ rfl).trans rfl) rfl rfl rfl))) rfl ?_;refine bU (r:=⟨_,some [],[]⟩) (DStep.plain rfl (fun H1 hH=>by exact lC rfl rfl)) rfl ?_;refine pJ (r:=⟨_,some [980],jH L6⟩) (.pan rfl (fun H1 hH=>by exact cW rfl rfl xO rfl (((PH L5 (by omega)).tot t6 ((hH 980 rfl).trans rfl) (eA _)).mono (PP':=fun ch H'=>qC t=false∧ch=BC∧∃ q,H'=jH q++_) (fun _ _ h=>h) (fun ch H' ⟨e,e2,e3⟩=>⟨n6 e,e2,e3⟩)))) rfl ?_;refine bU (r:=⟨_,some [2],[]⟩) (DStep.plain rfl (fun H1 hH=>by exact(by exact aW rfl yR rfl ((hH _ rfl).trans rfl) rfl rfl))) rfl ?_;refine bU (r:=⟨_,some [2],[_]⟩) (DStep.plain rfl (fun H1 hH=>by exact(by exact aZ rfl sizeOf9 rfl rfl rfl ((hH _ rfl).trans rfl) rfl rfl (aL2 rfl) rfl rfl))) rfl ?_;refine bU (r:=⟨_,some [2],[]⟩) (DStep.plain rfl (fun H1 hH=>by exact(by exact aW rfl oG rfl ((hH _ rfl).trans rfl) rfl rfl))) rfl ?_
 refine bU (r:=⟨_,some [2],[_]⟩) (DStep.plain rfl (fun H1 hH=>by exact(by exact aZ rfl sizeOf22 rfl rfl rfl ((hH _ rfl).trans rfl) rfl rfl (aL2 rfl) rfl rfl))) rfl ?_;refine DE ⟨⟨by kernel_rfl,by kernel_rfl,by kernel_rfl⟩,fun hF=>?_⟩;simp only [QM,true_and,and_true] at hF;refine Sq ?_;have f6:=hF;refine fE.ent (E':=[(0,sv (ofL t)),(2,.ref 2 0 0 0),(3,.ref 3 0 0 0),(4,.ref 4 0 0 0)]) (H':=[(980,RI L6),(4,inO),(3,eOJ 0),(2,rOJ ⟨V1,V2,V3,V4,V5,V6,[],sNil,false,0,sNil,zS,⟨sNil,sNil,[],[],zS⟩⟩)]) (cC.wk (Eb<|Ea<|Ea<|Ea<|trivial) (Hb<|Ha<|Hb<|Hb<|trivial) ⟨rfl,rfl,trivial⟩) ?_;refine eL ?_;refine fD rfl rfl rfl (by exact aK rfl cS rfl rfl rfl rfl rfl) ?_;refine QB rfl rfl rfl (by exact cW rfl rfl jJ rfl (((sZ L6 (by omega)).tot t7 rfl (eA _)).mono (PP':=fun ch H'=>qC t=false∧ch=BC∧∃ q,H'=jH q++_) (fun _ _ h=>h) (fun ch H' ⟨e,e2,e3⟩=>⟨n7 e,e2,e3⟩))) (fun ch H' h=>by obtain ⟨e,e2,q,rfl⟩:=h;exact mR hb e e2 rfl rfl ⟨_,rfl,OP _⟩ ⟨_,rfl,OO _⟩) (fun h39=>?_);refine fD rfl rfl rfl (by exact aB rfl rfl call54 rfl (hpc _)) ?_;refine fD rfl rfl rfl (by exact eM rfl rfl) ?_;refine fD rfl rfl rfl (by exact pD rfl rfl rfl) ?_;refine fD rfl rfl rfl (by exact pD rfl rfl rfl) ?_;refine fD rfl rfl rfl (by exact aW rfl BK rfl rfl rfl rfl) ?_;refine aDK rfl rfl (by exact aZ rfl sizeOf23 rfl rfl rfl rfl rfl rfl (aL2 rfl) rfl rfl) ?_;refine HK ?_;refine Sq ?_;refine fE.ent (E':=[(0,sv (ofL t)),(2,.ref 2 0 0 0),(3,.ref 3 0 0 0),(4,.ref 4 0 0 0)]) (H':=[(980,RI L7),(4,inO),(3,eOJ 0),(2,rOJ ⟨V1,V2,V3,V4,V5,V6,ED,sNil,false,0,sNil,zS,⟨sNil,sNil,[],[],zS⟩⟩)]) (cC.wk (Eb<|Ea<|Ea<|Ea<|trivial) (Hb<|Ha<|Hb<|Hb<|trivial) ⟨rfl,rfl,trivial⟩) ?_;refine rS (fun ch H1 H2=>qC t=false∧ch=BC∧∃ q,H2=jH q++H1) [2,3] [2,3] [] rfl follows (fun ch E1 H1 H2 hts hsh hks ⟨e,e2,q,e3⟩=>by subst e3;obtain ⟨o2,k1,k2⟩:=hsh 2 (by simp) _ rfl;obtain ⟨o3,k3,k4⟩:=hsh 3 (by simp) _ rfl;exact mR hb e e2 ((hts 2 (by simp)).trans rfl) ((hts 3 (by simp)).trans rfl) ⟨o2,k1,GU k2⟩ ⟨o3,k3,zO k4⟩) ?_;refine bU (r:=⟨_,some [4],[]⟩) (DStep.plain rfl (fun H1 hH=>by exact(by exact aK rfl cS rfl ((hH _ rfl).trans rfl) rfl rfl rfl))) rfl ?_;refine pJ (r:=⟨_,some [980],jH L8⟩) (.pan rfl (fun H1 hH=>by exact cW rfl rfl jJ rfl (((sZ L7 (by omega)).tot t8 ((hH 980 rfl).trans rfl) (eA _)).mono (PP':=fun ch H'=>qC t=false∧ch=BC∧∃ q,H'=jH q++_) (fun _ _ h=>h) (fun ch H' ⟨e,e2,e3⟩=>⟨n8 e,e2,e3⟩)))) rfl ?_;refine bU (r:=⟨_,some [4],[]⟩) (DStep.plain rfl (fun H1 hH=>by exact(by exact aK rfl cS rfl ((hH _ rfl).trans rfl) rfl rfl rfl))) rfl ?_;refine pJ (r:=⟨_,some [980],jH L9⟩) (.pan rfl (fun H1 hH=>by exact cW rfl rfl jJ rfl (((sZ L8 (by omega)).tot t9 ((hH 980 rfl).trans rfl) (eA _)).mono (PP':=fun ch H'=>qC t=false∧ch=BC∧∃ q,H'=jH q++_) (fun _ _ h=>h) (fun ch H' ⟨e,e2,e3⟩=>⟨n9 e,e2,e3⟩)))) rfl ?_;refine bU (r:=⟨_,some [],[]⟩) (DStep.plain rfl (fun H1 hH=>by exact CN rfl rfl rfl)) rfl ?_;refine bU (r:=⟨_,some [4],[]⟩) (DStep.plain rfl (fun H1 hH=>by exact(by exact aK rfl cS rfl ((hH _ rfl).trans rfl) rfl rfl rfl))) rfl ?_
 refine pJ (r:=⟨_,some [980],jH L10⟩) (.pan rfl (fun H1 hH=>by exact cW rfl rfl fS rfl (((kD L9 (by omega)).tot t10 ((hH 980 rfl).trans rfl) (eA _)).mono (PP':=fun ch H'=>qC t=false∧ch=BC∧∃ q,H'=jH q++_) (fun _ _ h=>h) (fun ch H' ⟨e,e2,e3⟩=>⟨n10 e,e2,e3⟩)))) rfl ?_;refine bU (r:=⟨_,some [4],[]⟩) (DStep.plain rfl (fun H1 hH=>by exact(by exact aK rfl cS rfl ((hH _ rfl).trans rfl) rfl rfl rfl))) rfl ?_;refine pJ (r:=⟨_,some [980],jH L11⟩) (.pan rfl (fun H1 hH=>by exact cW rfl rfl jJ rfl (((sZ L10 (by omega)).tot t11 ((hH 980 rfl).trans rfl) (eA _)).mono (PP':=fun ch H'=>qC t=false∧ch=BC∧∃ q,H'=jH q++_) (fun _ _ h=>h) (fun ch H' ⟨e,e2,e3⟩=>⟨n11 e,e2,e3⟩)))) rfl ?_;refine bU (r:=⟨_,some [2],[]⟩) (DStep.plain rfl (fun H1 hH=>by exact(by exact aW rfl yQ rfl ((hH _ rfl).trans rfl) rfl rfl))) rfl ?_;refine bU (r:=⟨_,some [2],[_]⟩) (DStep.plain rfl (fun H1 hH=>by exact(by exact aZ rfl sizeOf9 rfl rfl rfl ((hH _ rfl).trans rfl) rfl rfl (aL2 rfl) rfl rfl))) rfl ?_;refine bU (r:=⟨_,some [2],[]⟩) (DStep.plain rfl (fun H1 hH=>by exact(by exact aW rfl EX rfl ((hH _ rfl).trans rfl) rfl rfl))) rfl ?_;refine bU (r:=⟨_,some [2],[_]⟩) (DStep.plain rfl (fun H1 hH=>by exact(by exact aZ rfl sizeOf4 rfl rfl rfl ((hH _ rfl).trans rfl) rfl rfl (aL2 rfl) rfl rfl))) rfl ?_;refine bU (r:=⟨_,some [2],[]⟩) (DStep.plain rfl (fun H1 hH=>by exact(by exact aW rfl BJ rfl ((hH _ rfl).trans rfl) rfl rfl))) rfl ?_;refine bU (r:=⟨_,some [2],[_]⟩) (DStep.plain rfl (fun H1 hH=>by exact(by exact aZ rfl sizeOf3 rfl rfl rfl ((hH _ rfl).trans rfl) rfl rfl (aL2 rfl) rfl rfl))) rfl ?_;refine bU (r:=⟨_,some [2],[]⟩) (DStep.plain rfl (fun H1 hH=>by exact(by exact aW rfl wF rfl ((hH _ rfl).trans rfl) rfl rfl))) rfl ?_;refine bU (r:=⟨_,some [2],[_]⟩) (DStep.plain rfl (fun H1 hH=>by exact(by exact aZ rfl sizeOf9 rfl rfl rfl ((hH _ rfl).trans rfl) rfl rfl (aL2 rfl) rfl rfl))) rfl ?_;refine DE ⟨⟨by kernel_rfl,by kernel_rfl,by kernel_rfl⟩,fun hF=>?_⟩;simp only [QM,true_and,and_true] at hF;refine Sq ?_;have f11:=hF;refine fE.ent (E':=[(0,sv (ofL t)),(2,.ref 2 0 0 0),(3,.ref 3 0 0 0),(4,.ref 4 0 0 0)]) (H':=[(980,RI L11),(4,inO),(3,eOJ 0),(2,rOJ ⟨V1,V2,V3,V4,V5,V6,ED,V8,decide (V9=LG),V10,V11,zS,⟨sNil,sNil,[],[],zS⟩⟩)]) (cC.wk (Eb<|Ea<|Ea<|Ea<|trivial) (Hb<|Ha<|Hb<|Hb<|trivial) ⟨rfl,rfl,trivial⟩) ?_;refine eL ?_;refine fD rfl rfl rfl (by exact aK rfl cS rfl rfl rfl rfl rfl) ?_;refine QB rfl rfl rfl (by exact cW rfl rfl call55 rfl (((XG L11 (by omega)).tot t12 rfl (eA _)).mono (PP':=fun ch H'=>qC t=false∧ch=BC∧∃ q,H'=jH q++_) (fun _ _ h=>h) (fun ch H' ⟨e,e2,e3⟩=>⟨n12 e,e2,e3⟩))) (fun ch H' h=>by obtain ⟨e,e2,q,rfl⟩:=h;exact mR hb e e2 rfl rfl ⟨_,rfl,OP _⟩ ⟨_,rfl,OO _⟩) (fun h58=>?_);refine fD rfl rfl rfl (by exact aW rfl iP rfl rfl rfl rfl) ?_;refine aDK rfl rfl (by exact iC rfl sizeOf25 rfl rfl rfl rfl rfl rfl rfl (aL2 rfl) rfl rfl) ?_;refine HK ?_;refine Sq ?_
 refine fE.ent (E':=[(0,sv (ofL t)),(2,.ref 2 0 0 0),(3,.ref 3 0 0 0),(4,.ref 4 0 0 0)]) (H':=[(980,RI L12),(4,inO),(3,eOJ 0),(2,rOJ ⟨V1,V2,V3,V4,V5,V6,ED,V8,decide (V9=LG),V10,V11,V12,⟨sNil,sNil,[],[],zS⟩⟩)]) (cC.wk (Eb<|Ea<|Ea<|Ea<|trivial) (Hb<|Ha<|Hb<|Hb<|trivial) ⟨rfl,rfl,trivial⟩) ?_;refine rS (fun ch H1 H2=>qC t=false∧ch=BC∧∃ q,H2=jH q++H1) [2,3] [2,3] [] rfl follows (fun ch E1 H1 H2 hts hsh hks ⟨e,e2,q,e3⟩=>by subst e3;obtain ⟨o2,k1,k2⟩:=hsh 2 (by simp) _ rfl;obtain ⟨o3,k3,k4⟩:=hsh 3 (by simp) _ rfl;exact mR hb e e2 ((hts 2 (by simp)).trans rfl) ((hts 3 (by simp)).trans rfl) ⟨o2,k1,GU k2⟩ ⟨o3,k3,zO k4⟩) ?_;refine bU (r:=⟨_,some [4],[]⟩) (DStep.plain rfl (fun H1 hH=>by exact(by exact aK rfl cS rfl ((hH _ rfl).trans rfl) rfl rfl rfl))) rfl ?_;refine pJ (r:=⟨_,some [980],jH L13⟩) (.pan rfl (fun H1 hH=>by exact cW rfl rfl jJ rfl (((sZ L12 (by omega)).tot t13 ((hH 980 rfl).trans rfl) (eA _)).mono (PP':=fun ch H'=>qC t=false∧ch=BC∧∃ q,H'=jH q++_) (fun _ _ h=>h) (fun ch H' ⟨e,e2,e3⟩=>⟨n13 e,e2,e3⟩)))) rfl ?_;refine bU (r:=⟨_,some [4],[]⟩) (DStep.plain rfl (fun H1 hH=>by exact(by exact aK rfl cS rfl ((hH _ rfl).trans rfl) rfl rfl rfl))) rfl ?_;refine pJ (r:=⟨_,some [980],jH L14⟩) (.pan rfl (fun H1 hH=>by exact cW rfl rfl jJ rfl (((sZ L13 (by omega)).tot t14 ((hH 980 rfl).trans rfl) (eA _)).mono (PP':=fun ch H'=>qC t=false∧ch=BC∧∃ q,H'=jH q++_) (fun _ _ h=>h) (fun ch H' ⟨e,e2,e3⟩=>⟨n14 e,e2,e3⟩)))) rfl ?_;refine bU (r:=⟨_,some [4],[]⟩) (DStep.plain rfl (fun H1 hH=>by exact(by exact aK rfl cS rfl ((hH _ rfl).trans rfl) rfl rfl rfl))) rfl ?_;refine bU (r:=⟨_,some [4],[]⟩) (DStep.plain rfl (fun H1 hH=>by exact(by exact aK rfl cS rfl ((hH _ rfl).trans rfl) rfl rfl rfl))) rfl ?_;refine bU (r:=⟨_,some [],[]⟩) (DStep.plain rfl (fun H1 hH=>by exact lC rfl rfl)) rfl ?_;refine pJ (r:=⟨_,some [980],jH L15⟩) (.pan rfl (fun H1 hH=>by exact cW rfl rfl xO rfl (((PH L14 (by omega)).tot t15 ((hH 980 rfl).trans rfl) (eA _)).mono (PP':=fun ch H'=>qC t=false∧ch=BC∧∃ q,H'=jH q++_) (fun _ _ h=>h) (fun ch H' ⟨e,e2,e3⟩=>⟨n15 e,e2,e3⟩)))) rfl ?_;refine bU (r:=⟨_,some [4],[]⟩) (DStep.plain rfl (fun H1 hH=>by exact(by exact aK rfl cS rfl ((hH _ rfl).trans rfl) rfl rfl rfl))) rfl ?_;refine bU (r:=⟨_,some [4],[]⟩) (DStep.plain rfl (fun H1 hH=>by exact eY rfl rfl)) rfl ?_;refine pJ (r:=⟨_,some [980,4],jH L16⟩) (.pan rfl (fun H1 hH=>by exact cW rfl rfl call56 rfl (((aEv L15 (by omega)).tot t16 ((hH 980 rfl).trans rfl) (KQ.sub ⟨(hH 4 rfl).trans rfl,trivial⟩)).mono (PP':=fun ch H'=>qC t=false∧ch=BC∧∃ q,H'=jH q++_) (fun _ _ h=>h) (fun ch H' ⟨e,e2,e3⟩=>⟨n16 e,e2,e3⟩)))) rfl ?_;refine bU (r:=⟨_,some [],[]⟩) (DStep.plain rfl (fun H1 hH=>by exact GO rfl aHg rfl rfl)) rfl ?_;refine bU (r:=⟨_,some [2],[]⟩) (DStep.plain rfl (fun H1 hH=>by exact(by exact aW rfl eJ rfl ((hH _ rfl).trans rfl) rfl rfl))) rfl ?_;refine bU (r:=⟨_,some [2],[_]⟩) (DStep.plain rfl (fun H1 hH=>by exact(by exact iC rfl sizeOf28 rfl rfl rfl rfl ((hH _ rfl).trans rfl) rfl rfl (aL2 rfl) rfl rfl))) rfl ?_
 refine DE ⟨⟨by kernel_rfl,by kernel_rfl,by kernel_rfl⟩,fun hF=>?_⟩;simp only [QM,true_and,and_true] at hF;refine Sq ?_;have f16:=hF;refine fE.ent (E':=[(0,sv (ofL t)),(2,.ref 2 0 0 0),(3,.ref 3 0 0 0),(4,.ref 4 0 0 0)]) (H':=[(980,RI L16),(4,inO),(3,eOJ 0),(2,rOJ ⟨V1,V2,V3,V4,V5,V6,ED,V8,decide (V9=LG),V10,V11,V12,⟨V13,V14,V15,V16,zS⟩⟩)]) (cC.wk (Eb<|Ea<|Ea<|Ea<|trivial) (Hb<|Ha<|Hb<|Hb<|trivial) ⟨rfl,rfl,trivial⟩) ?_;refine eL ?_;refine fD rfl rfl rfl (by exact aK rfl cS rfl rfl rfl rfl rfl) ?_;refine QB rfl rfl rfl (by exact cW rfl rfl call55 rfl (((XG L16 (by omega)).tot t17 rfl (eA _)).mono (PP':=fun ch H'=>qC t=false∧ch=BC∧∃ q,H'=jH q++_) (fun _ _ h=>h) (fun ch H' ⟨e,e2,e3⟩=>⟨n17 e,e2,e3⟩))) (fun ch H' h=>by obtain ⟨e,e2,q,rfl⟩:=h;exact mR hb e e2 rfl rfl ⟨_,rfl,OP _⟩ ⟨_,rfl,OO _⟩) (fun h74=>?_);refine fD rfl rfl rfl (by exact aW rfl eJ rfl rfl rfl rfl) ?_;refine fD rfl rfl rfl (by exact aW rfl nN rfl rfl rfl rfl) ?_;refine aDK rfl rfl (by exact iC rfl sizeOf25 rfl rfl rfl rfl rfl rfl rfl (aL2 rfl) rfl rfl) ?_;refine HK ?_;refine Sq<|Sq ?_;refine fE.ent (E':=[(0,sv (ofL t)),(2,.ref 2 0 0 0),(3,.ref 3 0 0 0),(4,.ref 4 0 0 0)]) (H':=[(980,RI L17),(4,inO),(3,eOJ 0),(2,rOJ ⟨V1,V2,V3,V4,V5,V6,ED,V8,decide (V9=LG),V10,V11,V12,⟨V13,V14,V15,V16,V17⟩⟩)]) (cC.wk (Eb<|Ea<|Ea<|Ea<|trivial) (Hb<|Ha<|Hb<|Hb<|trivial) ⟨rfl,rfl,trivial⟩) ?_;have hokt:=yes h16 f4.1 f4.2.1 f4.2.2.1 f4.2.2.2 f6.1 f6.2 h39 f11.1 f11.2.1 f11.2.2.1 f11.2.2.2 h58 f16.1 f16.2.1 f16.2.2.1 f16.2.2.2 h74;have hg1:iE t=if TX=(ofL t,0)then(⟨V1,V2,V3,V4,V5,V6,ED,V8,decide (V9=LG),V10,V11,V12,⟨V13,V14,V15,V16,V17⟩⟩,0)else(zR,5):=by rw [hg0];by_cases e:TX=(ofL t,0);rw [aLO ⟨hokt,e⟩,aLO e];rw [aLN (fun h=>e h.2),aLN e]
 refine Rg<|Dd (pN aR aM)<|Dd (by exact aB rfl rfl aLC rfl (htx _))<|Dd aI<|Dd eS<|Dd eS<|Dd aP<|Dd aP<|Zz<|Sq ?_;refine bC (t:=88) (n:=8) (X:=!decide (TX.2=0)||!decide (TX.1=ofL t)) ?_ ?_
 ·all_goals refine Dd aI ?_
  all_goals refine Dd yM<|Dm ?_
  all_goals refine Sp 84 (fun h84=>?_) fun h84=>?_
  all_goals try contradiction
  all_goals first|refine Fo<|Fo<|Fo ?_|refine On aI<|On aI<|On Q8 ?_
  all_goals refine Dd cL<|Zz ?_
  all_goals(exact⟨⟨_,rfl,by(rw [h84];rfl)⟩,rfl,rfl,rfl⟩)
 refine Cn ?_ ?_<;>intro hc1
 ·have hne:TX≠(ofL t,0):=by have:=hc1;rintro rfl;simp at this
  refine Sr<|Dd (uS S8)<|Uu (jK aM)<|Uu (jK sizeOf41)<|Zz<|aC ?_;exact MT (by rw [hg1,aLN hne]) (cC.wk (Ea<|Ea<|trivial) (Hb<|Hb<|trivial) ⟨rfl,rfl,trivial⟩)
 have heq:TX=(ofL t,0):=by have:=hc1;rw [aLb,Bool.not_eq_false',Bool.not_eq_false',aLW,aLW] at this;exact Prod.ext this.2 this.1
 refine aE<|Sr<|Dd (pN aR aM)<|Uu (jK aM)<|Uu (jK sizeOf41)<|Zz<|aC ?_;exact MT (by rw [hg1,aLO heq]) (cC.wk (Ea<|Ea<|trivial) (Hb<|Hb<|trivial) ⟨rfl,rfl,trivial⟩)
end Go.Proofs.YtiifmppaejpemaaGreatDoor
namespace Go.Proofs.YtiifmppaejpemaaGreatDoor
open Go.Proofs.Tryz
open Go.Abs Go.Lib
theorem gY {α:Type} {f:List UInt8→Option (α×List UInt8)} {d:α} {l:List UInt8} {p:α×List UInt8} (h:f l=some p):D8 f d l=p:=by rw [D8,h];rfl
theorem VY {l:List GEdit} (h:(jM l).2=true):(kN (jM l).1).1=l:=by
 rw [jM] at h ⊢
 split at h
 ·next h0 =>
  rw [aLO h0,List.eq_nil_of_length_eq_zero h0]
  kernel_rfl
 next h0 =>
 rw [aLN h0];exact congrArg Prod.fst (FR (aLL h))
theorem aAt (b:Bool):decide (bK (if b then 1 else 0)=LG)=b:=by cases b<;>kernel_rfl
def aEJ (r:GRec):List ByteArray:=[]
def aEK (r:GRec):List ByteArray:=fI (.z r.priv.sl.idx r.priv.sl.sig r.priv.sl.path)++aEJ r
def aEL (r:GRec):List ByteArray:=fI (.p r.priv.trace)++aEK r
def aEM (r:GRec):List ByteArray:=bK (r.priv.sources.length:Int)::(r.priv.sources++aEL r)
def aEN (r:GRec):List ByteArray:=r.priv.reason::aEM r
def aEO (r:GRec):List ByteArray:=r.priv.name::aEN r
def aEP (r:GRec):List ByteArray:=fI (.z r.sl.idx r.sl.sig r.sl.path)++aEO r
def aEQ (r:GRec):List ByteArray:=r.from'::aEP r
def aER (r:GRec):List ByteArray:=bK r.order::aEQ r
def sf9 (r:GRec):List ByteArray:=(bK (if r.yes then 1 else 0))::aER r
def sf8 (r:GRec):List ByteArray:=r.target::sf9 r
def sf7 (r:GRec):List ByteArray:=(jM r.edits).1::sf8 r
def sf6 (r:GRec):List ByteArray:=bK (r.parents.length:Int)::(r.parents++sf7 r)
def sf5 (r:GRec):List ByteArray:=r.branch::sf6 r
def sf4 (r:GRec):List ByteArray:=bK r.clock::sf5 r
def sf3 (r:GRec):List ByteArray:=bK r.number::sf4 r
def sf2 (r:GRec):List ByteArray:=bK r.author::sf3 r
def sf1 (r:GRec):List ByteArray:=bK r.kind::sf2 r
def sf0 (r:GRec):List ByteArray:=UN::sf1 r
theorem aHj (r:GRec):qN r=sf0 r:=by simp [qN,nU,tJ,D9,CD,fI,sf0,sf1,sf2,sf3,sf4,sf5,sf6,sf7,sf8,sf9,aER,aEQ,aEP,aEO,aEN,aEM,aEL,aEK,aEJ]
theorem ZI {r:GRec} (h:VF r):qC (aO (qN r))=true∧CI (aO (qN r))=r:=by
 have hk:=NB h.k;have hau:=h.au;have hnu:=h.nu;have hcl:=h.cl;have hod:=h.order;have hpl:=h.pal;have hsl:=jT h.sl;have hps:=jT h.psl;have s0:=hsl.i0;have s1:=hsl.i1;have s2:=hsl.sl;have s3:=hsl.pl;have z0:=hps.i0;have z1:=hps.i1;have z2:=hps.sl;have z3:=hps.pl;have hso:=h.sol;have htr:=h.trl;have hbr:=EM h.br;have htx:=HY h.tx;have hta:=h.target;have hfr:=h.from
 have hnm:=h.nm;have hrs:=h.rs;have hJ:∀ {l:List ByteArray},(∀ t∈l,isJ t=true)→∀ t∈l,A5 t:=fun hl t ht=>Nat.lt_of_le_of_lt (qH (hl t ht)) (by decide);rw [aHj];obtain ⟨t,ht⟩:∃ t,t=aO (sf0 r):=⟨_,rfl⟩;rw [← ht];have f0:gJ t=some (UN,aO (sf1 r)):=by rw [ht];exact iI _ (show UN.size < 1000000000000000000 by decide)
 have q0:p0 t=(UN,aO (sf1 r)):=gY f0;have f1:lR (p0 t).2=some (r.kind,aO (sf2 r)):=by rw [q0];exact iJ _ (by omega) (by omega)
 have q1:p1 t=(r.kind,aO (sf2 r)):=gY f1;have f2:lR (p1 t).2=some (r.author,aO (sf3 r)):=by rw [q1];exact iJ _ (by omega) (by omega)
 have q2:p2 t=(r.author,aO (sf3 r)):=gY f2;have f3:lR (p2 t).2=some (r.number,aO (sf4 r)):=by rw [q2];exact iJ _ (by omega) (by omega)
 have q3:p3 t=(r.number,aO (sf4 r)):=gY f3;have f4:lR (p3 t).2=some (r.clock,aO (sf5 r)):=by rw [q3];exact iJ _ (by omega) (by omega)
 have q4:p4 t=(r.clock,aO (sf5 r)):=gY f4;have f5:gJ (p4 t).2=some (r.branch,aO (sf6 r)):=by rw [q4];exact iI _ (Nat.lt_of_le_of_lt hbr (by decide))
 have q5:p5 t=(r.branch,aO (sf6 r)):=gY f5;have f6:(sC gJ) (p5 t).2=some (r.parents,aO (sf7 r)):=by rw [q5];exact vY _ _ (hJ h.pa) (by omega)
 have q6:p6 t=(r.parents,aO (sf7 r)):=gY f6;have f7:gJ (p6 t).2=some ((jM r.edits).1,aO (sf8 r)):=by rw [q6];exact iI _ (Nat.lt_of_le_of_lt htx (by decide))
 have q7:p7 t=((jM r.edits).1,aO (sf8 r)):=gY f7;have f8:gJ (p7 t).2=some (r.target,aO (sf9 r)):=by rw [q7];exact iI _ (Nat.lt_of_le_of_lt hta (by decide))
 have q8:p8 t=(r.target,aO (sf9 r)):=gY f8;have f9:gJ (p8 t).2=some ((bK (if r.yes then 1 else 0)),aO (aER r)):=by rw [q8];exact iI _ (F3 (by split<;>decide) (by split<;>decide))
 have q9:p9 t=((bK (if r.yes then 1 else 0)),aO (aER r)):=gY f9;have f10:lR (p9 t).2=some (r.order,aO (aEQ r)):=by rw [q9];exact iJ _ (by omega) (by omega)
 have q10:K4 t=(r.order,aO (aEQ r)):=gY f10;have f11:gJ (K4 t).2=some (r.from',aO (aEP r)):=by rw [q10];exact iI _ (Nat.lt_of_le_of_lt hfr (by decide))
 have q11:K0 t=(r.from',aO (aEP r)):=gY f11;have f12:OM (K0 t).2=some (r.sl,aO (aEO r)):=by rw [q11];exact IF _ _ s0 (by omega) (hJ hsl.sa) (hJ hsl.pa) (by omega) (by omega)
 have q12:KZ t=(r.sl,aO (aEO r)):=gY f12;have f13:gJ (KZ t).2=some (r.priv.name,aO (aEN r)):=by rw [q12];exact iI _ (Nat.lt_of_le_of_lt hnm (by decide))
 have q13:KY t=(r.priv.name,aO (aEN r)):=gY f13;have f14:gJ (KY t).2=some (r.priv.reason,aO (aEM r)):=by rw [q13];exact iI _ (Nat.lt_of_le_of_lt hrs (by decide))
 have q14:KX t=(r.priv.reason,aO (aEM r)):=gY f14;have f15:(sC gJ) (KX t).2=some (r.priv.sources,aO (aEL r)):=by rw [q14];exact vY _ _ (fun x hx=>Nat.lt_of_le_of_lt (h.so x hx) (by decide)) (by omega)
 have q15:KW t=(r.priv.sources,aO (aEL r)):=gY f15;have f16:(sC EA) (KW t).2=some (r.priv.trace,aO (aEK r)):=by rw [q15];exact VD _ _ (fun q hq=>by obtain ⟨⟨a1,a2⟩,a3,a4⟩:=h.tr q hq;exact⟨⟨by omega,by omega⟩,by omega,by omega⟩) (by omega)
 have q16:KV t=(r.priv.trace,aO (aEK r)):=gY f16;have f17:OM (KV t).2=some (r.priv.sl,aO (aEJ r)):=by rw [q16];exact IF _ _ z0 (by omega) (hJ hps.sa) (hJ hps.pa) (by omega) (by omega)
 have q17:p17 t=(r.priv.sl,aO (aEJ r)):=gY f17;constructor
 ·unfold qC PB;rw [f0,f1,f2,f3,f4,f5,f6,f7,f8,f9,f10,f11,f12,f13,f14,f15,f16,f17];rfl
 unfold CI;rw [q1,q2,q3,q4,q5,q6,q7,q8,q9,q10,q11,q12,q13,q14,q15,q16,q17,VY h.tx,aAt]
theorem UU {r:GRec} {t:List UInt8} (h:nA r=(ofL t,0)):iE t=(r,0):=by
 have h0:=h;rw [nA] at h;by_cases hv:cU r=true
 ·rw [aLO hv] at h
  split at h
  ·cases h
  next hl =>
  have ht:t=aO (qN r):=by
   have:=congrArg (fun p:ByteArray×Int=>p.1.data.toList) h;simp only [dV] at this;exact this.symm
  obtain ⟨h1,h2⟩:=ZI (oW hv);rw [← ht] at h1 h2 hl;rw [iE,aLN hl,h2,aLO ⟨h1,h0⟩]
 rw [aLN hv] at h;cases h
end Go.Proofs.YtiifmppaejpemaaGreatDoor
namespace Go.Proofs.YtiifmppaejpemaaGreatDoor
open Go.Proofs.Tryz
open Go.Abs
instance decGObj:DecidableEq GObj:=fun a b=>if h:oF a b=true then isTrue (rM.1 h)else isFalse (fun e=>h (rM.2 e))
def WH (e:GEdit):Bool:=((decide (300 < IntKind.i64.wrap (IntKind.i64.wrap (IntKind.i64.wrap ((e.id.size:Int)+(e.other.size:Int))+(e.node.size:Int))+(e.key.size:Int)))||decide (600 < (e.val.size:Int)))||decide (40 < ((e.refs.map encStr).length:Int)))||A0 e.obj 40
def xD (e:GEdit):Bool:=WH e||e.refs.any (wW 300)
def tI (l:List GEdit) (n:Int):Bool:=decide ((l.length:Int)≤n)&&!l.any xD
theorem aFJ (l:List GEdit) (n:Int) (H:aA) (hl:l.length < 4611686018427387904) (ho:∀ e,e∈l→aFz e.obj∧e.refs.length < 4611686018427387904) :
  aG Tryz.prog 112 [.pv (iN l),iv n] H (fun r H'=>r=bv (tI l n)∧H'=H):=by
 refine Pu ?_;have hml:(l.map aY).length=l.length:=aLP _;have hB:tI l n=(decide (((l.map aY).length:Int)≤n)&&!l.any xD):=by rw [tI,hml]
 refine Bd func112 rfl ntmps112<|Sr<|Dd aP<|Zz<|Sq<|Sr<|Dd aP<|Zz<|aF ?_;refine bR (σ:=Nat) (fun k=>([(0,.pv (iN l)),(1,iv n),(5,iv (k:Int))],[])) (fun k=>k≤l.length∧∀ j,j < k→∀ b,l[j]?=some b→xD b=false) (fun k=>l.length - k) 0 ⟨by omega,by omega⟩ ?_ ?_
 ·exact Wk
 rintro k ⟨hk,hno⟩;refine Sq<|Sq ?_;refine bC (t:=17) (n:=11) (X:=decide ((k:Int) < ((l.map aY).length:Int))&&decide (((l.map aY).length:Int)≤n)) ?_ ?_
 ·all_goals refine Dd aI ?_
  all_goals refine Dd aI<|Dd (fW dD)<|Dd dI<|Dm ?_
  all_goals refine Sp 12 (fun h12=>?_) fun h12=>?_
  all_goals try contradiction
  all_goals first|refine Fo<|Fo<|Fo<|Fo ?_|refine On aI<|On (fW dD)<|On aI<|On TM ?_
  all_goals refine Dd cL<|Zz ?_
  all_goals(exact⟨⟨_,rfl,by(rw [h12];rfl)⟩,rfl,rfl,rfl⟩)
 refine Cn ?_ ?_<;>intro hc1
 ·have h:=hc1;rw [aLY,aLW] at h;have hlt:k < l.length:=by have:=h.1;omega
  obtain ⟨e,hel⟩:=bD hlt;have hi:=cI (f:=aY) hel;obtain ⟨ho1,ho2⟩:=ho e (aLZ hel);have hrl:(e.refs.map encStr).length=e.refs.length:=aLP _;obtain ⟨w,hw⟩:∃ w,w=IntKind.i64.wrap (IntKind.i64.wrap (IntKind.i64.wrap ((e.id.size:Int)+(e.other.size:Int))+(e.node.size:Int))+(e.key.size:Int)):=⟨_,rfl⟩;have hbh:WH e=(((decide (300 < w)||decide (600 < (e.val.size:Int)))||decide (40 < ((e.refs.map encStr).length:Int)))||!!A0 e.obj 40):=by rw [WH,← hw,Bool.not_not]
  refine aE<|Sq<|aF<|Sr<|Dd aI<|Dd aI<|Dd (xT UE)<|Dd (by exact cP rfl bT aV rfl (by omega) (by simp only [Zl,bF,bH,encStr,aY,iZ];rfl) rfl)<|Dd (by exact bE (id:=6) rfl WS rfl rfl)<|Uu (jK aV)<|Zz<|Sq<|Sq ?_;refine bC (t:=57) (n:=37) (X:=((decide (300 < w)||decide (600 < (e.val.size:Int)))||decide (40 < ((e.refs.map encStr).length:Int)))||!!A0 e.obj 40) ?_ ?_
  ·all_goals refine Dd (bB kQ) ?_
   all_goals refine Dd (bL isAgg9)<|Dd (nV underlying9)<|Dd (bB iG)<|Dd (bL isAgg9)<|Dd (nV underlying9)<|Dd (by exact cA rfl rfl rfl rfl)<|Dd (bB nP)<|Dd (bL isAgg9)<|Dd (nV underlying9)<|Dd (by exact cA rfl rfl rfl rfl)<|Dd (bB kP)<|Dd (bL isAgg9)<|Dd (nV underlying9)<|Dd (by exact cA rfl rfl rfl (hw.symm))<|Dd mU<|Dm ?_
   all_goals refine Sp 40 (fun h40=>?_) fun h40=>?_
   all_goals try contradiction
   all_goals first|refine Fo<|Fo<|Fo<|Fo ?_|refine On (bB lM)<|On (bL isAgg9)<|On (nV underlying9)<|On mU ?_
   all_goals refine Dd cL<|Dm ?_
   all_goals refine Sp 46 (fun h46=>?_) fun h46=>?_
   all_goals try contradiction
   all_goals first|refine Fo<|Fo<|Fo<|Fo ?_|refine On (bB eR)<|On (bL aJ)<|On (fW aD)<|On mU ?_
   all_goals refine Dd cL<|Dm ?_
   all_goals refine Sp 52 (fun h52=>?_) fun h52=>?_
   all_goals try contradiction
   all_goals first|refine Fo<|Fo<|Fo<|Fo ?_|refine On (bB qJ)<|On (pN cM sizeOf153)<|On (by exact aB rfl rfl call157 rfl (aFK e.obj 40 _ ho1))<|On lI ?_
   all_goals refine Dd cL<|Zz ?_
   all_goals(exact⟨⟨_,rfl,by first|(rw [h40];rfl)|(rw [h40,h46];rfl)|(rw [h40,h46,h52];rfl)⟩,rfl,rfl,rfl⟩)
  refine Cn ?_ ?_<;>intro hc2
  ·have hb:xD e=true:=by rw [xD,hbh,hc2];rfl
   have hf:tI l n=false:=by rw [tI,zF (p:=xD) hel hb];simp
   rw [hf];exact Sr<|Dd aP<|Zz<|aC<|Rt<|Qq
  refine aE<|Sr<|Dd aP<|Zz<|aF ?_;refine bR (σ:=Nat) (fun q=>([(0,.pv (iN l)),(1,iv n),(5,iv (k:Int)),(6,.ref 6 0 0 0),(7,iv (q:Int))],[(6,bx 15 155 ((aY e).map .pv))])) (fun q=>q≤e.refs.length∧∀ j,j < q→∀ b,e.refs[j]?=some b→wW 300 b=false) (fun q=>e.refs.length - q) 0 ⟨by omega,by omega⟩ ?_ ?_
  ·exact Wk
  rintro q ⟨hq,hnr⟩;refine Sq<|Sr<|Dd aI<|Dd (bB eR)<|Dd (bL aJ)<|Dd (fW aD)<|Dd dI<|Zz ?_;refine Cn ?_ ?_<;>intro hc3
  ·have hql:q < e.refs.length:=by have:=aLL hc3;omega
   obtain ⟨s,hs⟩:=bD hql;have hi2:=cI (f:=encStr) hs;refine aE<|Sq<|aF<|Sr<|Dd (bB eR)<|Dd (bL aJ)<|Dd aI<|Dd (by exact bM rfl cO rfl rfl (by omega) (by exact aL0 _) hi2 rfl)<|Dd (pG isAgg9)<|Dd (nV underlying9)<|Dd mU<|Zz ?_;refine Cn ?_ ?_<;>intro hc4
   ·have hb:xD e=true:=by rw [xD,zF (p:=wW 300) hs hc4,Bool.or_true]
    have hf:tI l n=false:=by rw [tI,zF (p:=xD) hel hb];simp
    rw [hf];exact Sr<|Dd aP<|Zz<|aC<|Rt<|Qq
   refine aE<|Rg<|Dd aI<|Dd pL<|Da ?_;exact⟨q+1,⟨by omega,yC (p:=wW 300) hnr hs hc4⟩,by omega,Wk⟩
  have hge:q=e.refs.length:=by have:=aLM hc3;omega
  subst hge;have hb:xD e=false:=by rw [xD,hbh,hc2,DL hnr];rfl
  refine bG<|Rg<|Dd aI<|Dd pL<|Da ?_;exact⟨k+1,⟨by omega,yC (p:=xD) hno hel hb⟩,by omega,Wk⟩
 refine bG<|Sr<|Dd aI<|Dd (fW dD)<|Dd aI<|Dd TM<|Dd aP<|Zz<|aC<|Rt ?_;refine⟨?_,rfl⟩;rw [hB];have h:=hc1;rw [Bool.and_eq_false_iff,aLX] at h;rcases h with h|h
 ·have hge:k=l.length:=by omega
  subst hge;rw [DL hno];simp
 rw [h];rfl
theorem DA {α:Type} {a b:List α} {n:Nat} (hl:a.length=b.length) (hn:n=a.length) (h:a.take n=b.take n):a=b:=by rw [List.take_of_length_le (by omega),List.take_of_length_le (by omega)] at h;exact h
theorem vE {α:Type} {a b:List α} {i:Nat} {x y:α} (h:a.take i=b.take i) (hx:a[i]?=some x) (hy:b[i]?=some y) (e:x=y):a.take (i+1)=b.take (i+1):=by rw [List.take_add_one,List.take_add_one,h,hx,hy,e]
theorem XS {α:Type} {a b:List α} {i:Nat} {x y:α} (hx:a[i]?=some x) (hy:b[i]?=some y) (e:x≠y):a≠b:=fun h=>by
 subst h;rw [hx] at hy;exact e (Option.some.inj hy)
theorem sI (a b:List ByteArray) (H:aA) (ha:a.length < 4611686018427387904) (hb:b.length < 4611686018427387904):aG Tryz.prog 91 [.pv (aU a),.pv (aU b)] H (fun r H'=>r=bv (decide (a=b))∧H'=H):=by
 refine Pu ?_;have hma:(a.map encStr).length=a.length:=aLP _;have hmb:(b.map encStr).length=b.length:=aLP _;refine Bd func91 rfl ntmps91<|Sr<|Dd aP<|Zz<|Sq<|Sr<|Dd aI<|Dd (fW aD)<|Dd aI<|Dd (fW aD)<|Dd yM<|Zz ?_;refine Cn ?_ ?_<;>intro hc1
 ·have hne:a≠b:=by have h:=hc1;intro e;subst e;simp at h
  rw [decide_eq_false hne];exact Sr<|Dd aP<|Zz<|aC<|Rt<|Qq
 have hl:a.length=b.length:=by have h:=hc1;simp only [Bool.not_eq_false',aLW] at h;omega
 refine aE<|Sq<|Sr<|Dd aP<|Zz<|aF ?_;refine bR (σ:=Nat) (fun i=>([(0,.pv (aU a)),(1,.pv (aU b)),(5,iv (i:Int))],[])) (fun i=>i≤a.length∧a.take i=b.take i) (fun i=>a.length - i) 0 ⟨by omega,rfl⟩ ?_ ?_
 ·exact Wk
 rintro i ⟨hi,hp⟩;refine Sq<|Sr<|Dd aI<|Dd aI<|Dd (fW aD)<|Dd dI<|Zz ?_;refine Cn ?_ ?_<;>intro hc2
 ·have hil:i < a.length:=by have:=aLL hc2;omega
  obtain ⟨s,hs⟩:=bD hil;obtain ⟨u,hu⟩:=bD (show i < b.length by omega);have hi1:=cI (f:=encStr) hs;have hi2:=cI (f:=encStr) hu;refine aE<|Sq<|aF<|Sq<|aQ follows<|Cq aI<|Cq aI<|Cq (by exact bM rfl cO rfl rfl (by omega) (by exact aL0 _) hi1 rfl)<|Cq (pG isAgg9 (hi:=hi1))<|Cq aI<|Cq aI<|Cq (by exact bM rfl cO rfl rfl (by omega) (by exact aL0 _) hi2 rfl)<|Cq (pG isAgg9 (hi:=hi2))<|Cq Q8<|bJ<|Kr ?_;refine Cn ?_ ?_<;>intro hc3
  ·have hne:s≠u:=by have h:=hc3;intro e;subst e;simp at h
   rw [decide_eq_false (XS hs hu hne)];exact Sr<|Dd aP<|Zz<|aC<|Rt<|Qq
  have heq:s=u:=by have h:=hc3;simpa using h
  refine aE<|Rg<|Dd aI<|Dd (by exact cA rfl rfl rfl (show IntKind.i64.wrap ((i:Int)+1)=((i+1:Nat):Int)by rw [pO (by omega) (by omega)];omega))<|Da ?_;exact⟨i+1,⟨by omega,vE hp hs hu heq⟩,by omega,Wk⟩
 have hge:i=a.length:=by have:=aLM hc2;omega
 rw [decide_eq_true (DA hl hge hp)];exact bG<|Sr<|Dd aP<|Zz<|aC<|Rt<|Qq
def RW (s:GSeal):Prop:=s.sig.length < 4611686018427387904∧s.path.length < 4611686018427387904
theorem RV {s:GSeal} (h:pQ s):RW s:=⟨by have:=h.2.1.1;omega,by have:=h.2.2.1;omega⟩
theorem II (a b:GSeal) (H:aA) (ha:RW a) (hb:RW b):aG Tryz.prog 35 [av (fA a),av (fA b)] H (fun r H'=>r=bv (decide (a=b))∧H'=H):=by
 refine aG.pure ?_ (by simp [fA]) H;have hs1:=fun H=>sI a.sig b.sig H ha.1 hb.1;have hs2:=fun H=>sI a.path b.path H ha.2 hb.2;have hX:decide (a=b)=((decide (a.idx=b.idx)&&decide (a.sig=b.sig))&&decide (a.path=b.path)):=by
  obtain ⟨a1,a2,a3⟩:=a;obtain ⟨b1,b2,b3⟩:=b;rw [Bool.eq_iff_iff];simp [and_assoc]
 rw [hX];refine Bd func35 rfl ntmps35<|Sr<|Dd (by exact bZ (id:=2) rfl rfl rfl rfl rfl)<|Dd (by exact bZ (id:=3) rfl rfl rfl rfl rfl)<|Dd aP<|Zz<|Sq ?_;refine bC (t:=4) (n:=22) (X:=(decide (a.idx=b.idx)&&decide (a.sig=b.sig))&&decide (a.path=b.path)) ?_ ?_
 ·all_goals refine Dd (bB lS) ?_
  all_goals refine Dd (bL isAgg3)<|Dd (bB lS)<|Dd (bL isAgg3)<|Dd dC<|Dm ?_
  all_goals refine Sp 10 (fun h10=>?_) fun h10=>?_
  all_goals try contradiction
  all_goals first|refine Fo<|Fo<|Fo<|Fo<|Fo ?_|refine On (bB iK)<|On (bL aJ)<|On (bB iK)<|On (bL aJ)<|On (by exact aB rfl rfl aD9 rfl (hs1 _)) ?_
  all_goals refine Dd cL<|Dm ?_
  all_goals refine Sp 17 (fun h17=>?_) fun h17=>?_
  all_goals try contradiction
  all_goals first|refine Fo<|Fo<|Fo<|Fo<|Fo ?_|refine On (bB mI)<|On (bL aJ)<|On (bB mI)<|On (bL aJ)<|On (by exact aB rfl rfl aD9 rfl (hs2 _)) ?_
  all_goals refine Dd cL<|Da ?_
  all_goals(exact⟨⟨_,rfl,by first|(rw [h10];rfl)|(rw [h10,h17];rfl)⟩,rfl,rfl,rfl⟩)
 exact aC<|Rt<|Qq
def OX (a b:GPriv):Bool:=((decide (a.name=b.name)&&decide (a.reason=b.reason))&&decide (a.sources=b.sources))&&decide (a.trace=b.trace)
def aEa (a b:GPriv):Bool:=((!decide (a.name=b.name)||!decide (a.reason=b.reason))||!decide (a.sources=b.sources))||!decide (((a.trace.map fM).length:Int)=((b.trace.map fM).length:Int))
theorem KS (a b:GPriv) (H:aA) (ha:a.sources.length < 4611686018427387904) (hb:b.sources.length < 4611686018427387904) (hat:a.trace.length < 4611686018427387904):aG Tryz.prog 30 [av (kR a),av (kR b)] H (fun r H'=>r=bv (OX a b)∧H'=H):=by
 refine aG.pure ?_ (by simp [kR]) H;have hma:(a.trace.map fM).length=a.trace.length:=aLP _;have hmb:(b.trace.map fM).length=b.trace.length:=aLP _;have hs1:=fun H=>sI a.sources b.sources H ha hb;have hX:aEa a b=(((!decide (a.name=b.name)||!decide (a.reason=b.reason))||!decide (a.sources=b.sources))||!decide (((a.trace.map fM).length:Int)=((b.trace.map fM).length:Int))):=rfl;refine Bd func30 rfl ntmps30<|Sr<|Dd (by exact bZ (id:=2) rfl rfl rfl rfl rfl)<|Dd (by exact bZ (id:=3) rfl rfl rfl rfl rfl)<|Dd aP<|Zz<|Sq<|Sq ?_;refine bC (t:=34) (n:=32) (X:=aEa a b) ?_ ?_
 ·all_goals refine Dd (bB BN) ?_
  all_goals refine Dd (bL isAgg9)<|Dd (bB BN)<|Dd (bL isAgg9)<|Dd Q8<|Dm ?_
  all_goals refine Sp 11 (fun h11=>?_) fun h11=>?_
  all_goals try contradiction
  all_goals first|refine Fo<|Fo<|Fo<|Fo<|Fo ?_|refine On (bB BM)<|On (bL isAgg9)<|On (bB BM)<|On (bL isAgg9)<|On Q8 ?_
  all_goals refine Dd cL<|Dm ?_
  all_goals refine Sp 18 (fun h18=>?_) fun h18=>?_
  all_goals try contradiction
  all_goals first|refine Fo<|Fo<|Fo<|Fo<|Fo<|Fo ?_|refine On (bB yU)<|On (bL aJ)<|On (bB yU)<|On (bL aJ)<|On (by exact aB rfl rfl aD9 rfl (hs1 _))<|On lI ?_
  all_goals refine Dd cL<|Dm ?_
  all_goals refine Sp 26 (fun h26=>?_) fun h26=>?_
  all_goals try contradiction
  all_goals first|refine Fo<|Fo<|Fo<|Fo<|Fo<|Fo<|Fo ?_|refine On (bB rN)<|On (bL jD)<|On (fW dP)<|On (bB rN)<|On (bL jD)<|On (fW dP)<|On yM ?_
  all_goals refine Dd cL<|Zz ?_
  all_goals(exact⟨⟨_,rfl,by first|(rw [hX,h11];rfl)|(rw [hX,h11,h18];rfl)|(rw [hX,h11,h18,h26];rfl)⟩,rfl,rfl,rfl⟩)
 refine Cn ?_ ?_<;>intro hc1
 ·have h:=hc1;have hne:OX a b=false:=by
   rw [OX];simp only [aEa,hma,hmb,Bool.or_eq_true,aL8,aLX] at h;simp only [Bool.and_eq_false_iff,aLX];rcases h with((h|h)|h)|h
   ·exact .inl (.inl (.inl h))
   ·exact .inl (.inl (.inr h))
   ·exact .inl (.inr h)
   exact .inr fun e=>h (by rw [e])
  rw [hne];exact Sr<|Dd aP<|Zz<|aC<|Rt<|Qq
 have h:=hc1;simp only [aEa,hma,hmb,aLb,Bool.not_eq_false',aLW] at h;obtain ⟨⟨⟨h1,h2⟩,h3⟩,h4⟩:=h;have hl:a.trace.length=b.trace.length:=by omega
 have hp2:OX a b=decide (a.trace=b.trace):=by rw [OX,decide_eq_true h1,decide_eq_true h2,decide_eq_true h3];rfl
 rw [hp2];refine aE<|Sq<|Sr<|Dd aP<|Zz<|aF ?_;refine bR (σ:=Nat) (fun i=>([(2,.ref 2 0 0 0),(3,.ref 3 0 0 0),(5,iv (i:Int))],[(3,bx 7 28 ((kR b).map .pv)),(2,bx 7 28 ((kR a).map .pv))])) (fun i=>i≤a.trace.length∧a.trace.take i=b.trace.take i) (fun i=>a.trace.length - i) 0 ⟨by omega,rfl⟩ ?_ ?_
 ·exact Wk
 rintro i ⟨hi,hp⟩;refine Sq<|Sr<|Dd aI<|Dd (bB rN)<|Dd (bL jD)<|Dd (fW dP)<|Dd dI<|Zz ?_;refine Cn ?_ ?_<;>intro hc2
 ·have hil:i < a.trace.length:=by have:=aLL hc2;omega
  obtain ⟨s,hs⟩:=bD hil;obtain ⟨u,hu⟩:=bD (show i < b.trace.length by omega);have hi1:=cI (f:=fM) hs;have hi2:=cI (f:=fM) hu;refine aE<|Sq<|aF<|Sq<|aQ follows<|Cq (bB rN)<|Cq (bL jD)<|Cq aI<|Cq (by exact bM rfl Q7 rfl rfl (by omega) (by exact aL0 _) hi1 rfl)<|Cq (by exact cP rfl dQ sizeOf73 rfl hi1 (by simp only [Zl,fM];rfl) rfl)<|Cq (bB rN)<|Cq (bL jD)<|Cq aI<|Cq (by exact bM rfl Q7 rfl rfl (by omega) (by exact aL0 _) hi2 rfl)<|Cq (by exact cP rfl dQ sizeOf73 rfl hi2 (by simp only [Zl,fM];rfl) rfl)<|Cq (by exact yJ rfl rfl rfl rfl rfl jX (UI _ _ _ _))<|bJ<|Kr ?_;refine Cn ?_ ?_<;>intro hc3
  ·have hne:s≠u:=by have h:=hc3;intro e;subst e;simp at h
   rw [decide_eq_false (XS hs hu hne)];exact Sr<|Dd aP<|Zz<|aC<|Rt<|Qq
  have heq:s=u:=by have h:=hc3;simp at h;exact Prod.ext h.1 h.2
  refine aE<|Rg<|Dd aI<|Dd (by exact cA rfl rfl rfl (show IntKind.i64.wrap ((i:Int)+1)=((i+1:Nat):Int)by rw [pO (by omega) (by omega)];omega))<|Da ?_;exact⟨i+1,⟨by omega,vE hp hs hu heq⟩,by omega,Wk⟩
 have hge:i=a.trace.length:=by have:=aLM hc2;omega
 rw [decide_eq_true (DA hl hge hp)];exact bG<|Sr<|Dd aP<|Zz<|aC<|Rt<|Qq
def aAL (a b:GEdit):Bool:=((((((!decide (a.op=b.op)||!decide (a.id=b.id))||!decide (a.other=b.other))||!decide (a.node=b.node))||!(decide (a.x=b.x)&&decide (a.y=b.y)))||!decide (a.key=b.key))||!decide (a.val=b.val))||!decide (((a.refs.map encStr).length:Int)=((b.refs.map encStr).length:Int))
def SU (a b:GEdit):Bool:=(((((((decide (a.op=b.op)&&decide (a.id=b.id))&&decide (a.other=b.other))&&decide (a.node=b.node))&&(decide (a.x=b.x)&&decide (a.y=b.y)))&&decide (a.key=b.key))&&decide (a.val=b.val))&&decide (a.refs=b.refs))&&oF a.obj b.obj
theorem DD {a b:GEdit}:SU a b=true↔a=b:=by obtain ⟨a1,a2,a3,a4,a5,a6,a7,a8,a9,a10⟩:=a;obtain ⟨b1,b2,b3,b4,b5,b6,b7,b8,b9,b10⟩:=b;simp only [SU,aLY,aLW,rM,GEdit.mk.injEq,and_assoc]
theorem aFP {a b:GEdit} (h:aAL a b=true):SU a b=false:=by
 cases e:SU a b with
 | false=>rfl
 | true =>
  have:=DD.1 e;subst this;simp [aAL] at h
theorem aCj {a b:GEdit} (h:aAL a b=false):a.refs.length=b.refs.length∧∀ r:Bool,(decide (a.refs=b.refs)&&oF a.obj b.obj)=r→SU a b=r:=by simp only [aAL,aLb,Bool.not_eq_false',aLW,aLY,aLP] at h;obtain ⟨⟨⟨⟨⟨⟨⟨h1,h2⟩,h3⟩,h4⟩,h5,h6⟩,h7⟩,h8⟩,h9⟩:=h;refine⟨by omega,fun r hr=>?_⟩;rw [SU,decide_eq_true h1,decide_eq_true h2,decide_eq_true h3,decide_eq_true h4,decide_eq_true h5,decide_eq_true h6,decide_eq_true h7,decide_eq_true h8];exact hr
theorem ZF (a b:GEdit) (H:aA) (ha:QP a) (hb:QP b):aG Tryz.prog 141 [av (aY a),av (aY b)] H (fun r H'=>r=bv (SU a b)∧H'=H):=by
 refine aG.pure ?_ (by simp [aY]) H;have hra:(a.refs.map encStr).length=a.refs.length:=aLP _;have hrb:(b.refs.map encStr).length=b.refs.length:=aLP _;have hla:=ha.2.1.1;have hlb:=hb.2.1.1;have hX:aAL a b=(((((((!decide (a.op=b.op)||!decide (a.id=b.id))||!decide (a.other=b.other))||!decide (a.node=b.node))||!(decide (a.x=b.x)&&decide (a.y=b.y)))||!decide (a.key=b.key))||!decide (a.val=b.val))||!decide (((a.refs.map encStr).length:Int)=((b.refs.map encStr).length:Int))):=rfl;have hso:=fun H=>aEZ a.obj b.obj H ha.2.2.2.2.1 ha.2.2.2.1.1;obtain ⟨so,hsoE⟩:∃ so,so=oF a.obj b.obj:=⟨_,rfl⟩;have hyes:=fun h=>aCj (a:=a) (b:=b) h;rw [← hsoE] at hso hyes;clear hsoE;refine Bd func141 rfl ntmps141<|Sr<|Dd (by exact bZ (id:=2) rfl rfl rfl rfl rfl)<|Dd (by exact bZ (id:=3) rfl rfl rfl rfl rfl)<|Dd aP<|Zz<|Sq<|Sq ?_;refine bC (t:=61) (n:=63) (X:=aAL a b) ?_ ?_
 ·all_goals refine Dd (bB wG) ?_
  all_goals refine Dd (bL isAgg3)<|Dd (bB wG)<|Dd (bL isAgg3)<|Dd yM<|Dm ?_
  all_goals refine Sp 11 (fun h11=>?_) fun h11=>?_
  all_goals try contradiction
  all_goals first|refine Fo<|Fo<|Fo<|Fo<|Fo ?_|refine On (bB kQ)<|On (bL isAgg9)<|On (bB kQ)<|On (bL isAgg9)<|On Q8 ?_
  all_goals refine Dd cL<|Dm ?_
  all_goals refine Sp 18 (fun h18=>?_) fun h18=>?_
  all_goals try contradiction
  all_goals first|refine Fo<|Fo<|Fo<|Fo<|Fo ?_|refine On (bB iG)<|On (bL isAgg9)<|On (bB iG)<|On (bL isAgg9)<|On Q8 ?_
  all_goals refine Dd cL<|Dm ?_
  all_goals refine Sp 25 (fun h25=>?_) fun h25=>?_
  all_goals try contradiction
  all_goals first|refine Fo<|Fo<|Fo<|Fo<|Fo ?_|refine On (bB nP)<|On (bL isAgg9)<|On (bB nP)<|On (bL isAgg9)<|On Q8 ?_
  all_goals refine Dd cL<|Dm ?_
  all_goals refine Sp 32 (fun h32=>?_) fun h32=>?_
  all_goals try contradiction
  all_goals first|refine Fo<|Fo<|Fo<|Fo<|Fo ?_|refine On (bB hY)<|On (by exact aL rfl dQ sizeOf73 rfl rfl rfl rfl (by simp only [Zl,aY];rfl) rfl)<|On (bB hY)<|On (by exact aL rfl dQ sizeOf73 rfl rfl rfl rfl (by simp only [Zl,aY];rfl) rfl)<|On (by exact yJ rfl rfl rfl rfl rfl jX (UI _ _ _ _)) ?_
  all_goals refine Dd cL<|Dm ?_
  all_goals refine Sp 39 (fun h39=>?_) fun h39=>?_
  all_goals try contradiction
  all_goals first|refine Fo<|Fo<|Fo<|Fo<|Fo ?_|refine On (bB kP)<|On (bL isAgg9)<|On (bB kP)<|On (bL isAgg9)<|On Q8 ?_
  all_goals refine Dd cL<|Dm ?_
  all_goals refine Sp 46 (fun h46=>?_) fun h46=>?_
  all_goals try contradiction
  all_goals first|refine Fo<|Fo<|Fo<|Fo<|Fo ?_|refine On (bB lM)<|On (bL isAgg9)<|On (bB lM)<|On (bL isAgg9)<|On Q8 ?_
  all_goals refine Dd cL<|Dm ?_
  all_goals refine Sp 53 (fun h53=>?_) fun h53=>?_
  all_goals try contradiction
  all_goals first|refine Fo<|Fo<|Fo<|Fo<|Fo<|Fo<|Fo ?_|refine On (bB eR)<|On (bL aJ)<|On (fW aD)<|On (bB eR)<|On (bL aJ)<|On (fW aD)<|On yM ?_
  all_goals refine Dd cL<|Zz ?_
  all_goals(exact⟨⟨_,rfl,by first|(rw [hX,h11];rfl)|(rw [hX,h11,h18];rfl)|(rw [hX,h11,h18,h25];rfl)|(rw [hX,h11,h18,h25,h32];rfl)|(rw [hX,h11,h18,h25,h32,h39];rfl)|(rw [hX,h11,h18,h25,h32,h39,h46];rfl)|(rw [hX,h11,h18,h25,h32,h39,h46,h53];rfl)⟩,rfl,rfl,rfl⟩)
 refine Cn ?_ ?_<;>intro hc1
 ·rw [aFP hc1];exact Sr<|Dd aP<|Zz<|aC<|Rt<|Qq
 obtain ⟨hl,hyes⟩:=hyes hc1;refine aE<|Sq<|Sr<|Dd aP<|Zz<|aF ?_;refine bR (σ:=Nat) (fun i=>([(2,.ref 2 0 0 0),(3,.ref 3 0 0 0),(5,iv (i:Int))],[(3,bx 15 155 ((aY b).map .pv)),(2,bx 15 155 ((aY a).map .pv))])) (fun i=>i≤a.refs.length∧a.refs.take i=b.refs.take i) (fun i=>a.refs.length - i) 0 ⟨by omega,rfl⟩ ?_ ?_
 ·exact Wk
 rintro i ⟨hi,hp⟩;refine Sq<|Sr<|Dd aI<|Dd (bB eR)<|Dd (bL aJ)<|Dd (fW aD)<|Dd dI<|Zz ?_;refine Cn ?_ ?_<;>intro hc2
 ·have hil:i < a.refs.length:=by have:=aLL hc2;omega
  obtain ⟨s,hs⟩:=bD hil;obtain ⟨u,hu⟩:=bD (show i < b.refs.length by omega);have hi1:=cI (f:=encStr) hs;have hi2:=cI (f:=encStr) hu;refine aE<|Sq<|aF<|Sq<|aQ follows<|Cq (bB eR)<|Cq (bL aJ)<|Cq aI<|Cq (by exact bM rfl cO rfl rfl (by omega) (by exact aL0 _) hi1 rfl)<|Cq (pG isAgg9 (hi:=hi1))<|Cq (bB eR)<|Cq (bL aJ)<|Cq aI<|Cq (by exact bM rfl cO rfl rfl (by omega) (by exact aL0 _) hi2 rfl)<|Cq (pG isAgg9 (hi:=hi2))<|Cq Q8<|bJ<|Kr ?_;refine Cn ?_ ?_<;>intro hc3
  ·have hne:s≠u:=by have h:=hc3;intro e;subst e;simp at h
   rw [hyes false (by rw [decide_eq_false (XS hs hu hne)];rfl)];exact Sr<|Dd aP<|Zz<|aC<|Rt<|Qq
  have heq:s=u:=by have h:=hc3;simpa using h
  refine aE<|Rg<|Dd aI<|Dd (by exact cA rfl rfl rfl (show IntKind.i64.wrap ((i:Int)+1)=((i+1:Nat):Int)by rw [pO (by omega) (by omega)];omega))<|Da ?_;exact⟨i+1,⟨by omega,vE hp hs hu heq⟩,by omega,Wk⟩
 have hge:i=a.refs.length:=by have:=aLM hc2;omega
 rw [hyes so (by rw [decide_eq_true (DA hl hge hp)];rfl)];exact bG<|Sr<|Dd (bB qJ)<|Dd (by exact aL rfl cM sizeOf153 rfl rfl rfl rfl (by simp only [Zl,aY,bH];rfl) rfl)<|Dd (bB qJ)<|Dd (by exact aL rfl cM sizeOf153 rfl rfl rfl rfl (by simp only [Zl,aY,bH];rfl) rfl)<|Dd (by exact aB rfl rfl call182 rfl (hso _))<|Dd aP<|Zz<|aC<|Rt<|Qq
def xA:List GEdit→List GEdit→Bool
 | [],[]=>true
 | a::l,b::m=>SU a b&&xA l m
 | _,_=>false
theorem AB:∀ {a b:List GEdit},xA a b=true↔a=b
 | [],[]=>by simp [xA]
 | a::l,b::m=>by rw [xA,aLY,DD,AB,List.cons.injEq]
 | [],_::_=>by simp [xA]
 | _::_,[]=>by simp [xA]
theorem SR {a b:List GEdit} (h:a≠b):xA a b=false:=by
 cases e:xA a b with
 | false=>rfl
 | true=>exact absurd (AB.1 e) h
theorem OR (a b:List GEdit) (H:aA) (ha:a.length < 4611686018427387904) (hb:b.length < 4611686018427387904) (hae:∀ e∈a,QP e) (hbe:∀ e∈b,QP e):aG Tryz.prog 92 [.pv (iN a),.pv (iN b)] H (fun r H'=>r=bv (xA a b)∧H'=H):=by
 refine Pu ?_;have hma:(a.map aY).length=a.length:=aLP _;have hmb:(b.map aY).length=b.length:=aLP _;refine Bd func92 rfl ntmps92<|Sr<|Dd aP<|Zz<|Sq<|Sr<|Dd aI<|Dd (fW dD)<|Dd aI<|Dd (fW dD)<|Dd yM<|Zz ?_;refine Cn ?_ ?_<;>intro hc1
 ·have hne:a≠b:=by have h:=hc1;intro e;subst e;simp at h
  rw [SR hne];exact Sr<|Dd aP<|Zz<|aC<|Rt<|Qq
 have hl:a.length=b.length:=by have h:=hc1;simp only [Bool.not_eq_false',aLW] at h;omega
 refine aE<|Sq<|Sr<|Dd aP<|Zz<|aF ?_;refine bR (σ:=Nat) (fun i=>([(0,.pv (iN a)),(1,.pv (iN b)),(5,iv (i:Int))],[])) (fun i=>i≤a.length∧a.take i=b.take i) (fun i=>a.length - i) 0 ⟨by omega,rfl⟩ ?_ ?_
 ·exact Wk
 rintro i ⟨hi,hp⟩;refine Sq<|Sr<|Dd aI<|Dd aI<|Dd (fW dD)<|Dd dI<|Zz ?_;refine Cn ?_ ?_<;>intro hc2
 ·have hil:i < a.length:=by have:=aLL hc2;omega
  obtain ⟨s,hs⟩:=bD hil;obtain ⟨u,hu⟩:=bD (show i < b.length by omega);have hi1:=cI (f:=aY) hs;have hi2:=cI (f:=aY) hu;have hsm:=fun H=>ZF s u H (hae s (aLZ hs)) (hbe u (aLZ hu));refine aE<|Sq<|aF<|Sq<|aQ follows<|Cq aI<|Cq aI<|Cq (by exact bM rfl UE rfl rfl (by omega) (by exact aL0 _) hi1 rfl)<|Cq (by exact cP rfl bT aV rfl hi1 rfl rfl)<|Cq aI<|Cq aI<|Cq (by exact bM rfl UE rfl rfl (by omega) (by exact aL0 _) hi2 rfl)<|Cq (by exact cP rfl bT aV rfl hi2 rfl rfl)<|Cq (by exact aB rfl rfl call141 rfl (hsm _))<|Cq lI<|bJ<|Kr ?_;refine Cn ?_ ?_<;>intro hc3
  ·have hne:s≠u:=by have h:=not_not hc3;intro e;rw [DD.2 e] at h;cases h
   rw [SR (XS hs hu hne)];exact Sr<|Dd aP<|Zz<|aC<|Rt<|Qq
  have heq:s=u:=DD.1 (zV hc3);refine aE<|Rg<|Dd aI<|Dd (by exact cA rfl rfl rfl (show IntKind.i64.wrap ((i:Int)+1)=((i+1:Nat):Int)by rw [pO (by omega) (by omega)];omega))<|Da ?_;exact⟨i+1,⟨by omega,vE hp hs hu heq⟩,by omega,Wk⟩
 have hge:i=a.length:=by have:=aLM hc2;omega
 rw [AB.2 (DA hl hge hp)];exact bG<|Sr<|Dd aP<|Zz<|aC<|Rt<|Qq
def RN (a b:GRec):Bool:=(((((((((decide (a.kind=b.kind)&&decide (a.author=b.author))&&decide (a.number=b.number))&&decide (a.clock=b.clock))&&decide (a.branch=b.branch))&&decide (a.parents=b.parents))&&xA a.edits b.edits)&&decide (a.target=b.target))&&(a.yes == b.yes))&&decide (a.order=b.order))&&decide (a.from'=b.from')
structure PubEq (a b:GRec):Prop where
 ki:a.kind=b.kind
 au:a.author=b.author
 nu:a.number=b.number
 cl:a.clock=b.clock
 br:a.branch=b.branch
 pa:a.parents=b.parents
 ed:a.edits=b.edits
 ta:a.target=b.target
 ye:a.yes=b.yes
 od:a.order=b.order
 fr:a.from'=b.from'
theorem aBb {a b:GRec}:RN a b=true↔PubEq a b:=by simp only [RN,aLY,aLW,AB,beq_iff_eq];exact⟨fun⟨⟨⟨⟨⟨⟨⟨⟨⟨⟨h1,h2⟩,h3⟩,h4⟩,h5⟩,h6⟩,h7⟩,h8⟩,h9⟩,h10⟩,h11⟩=>⟨h1,h2,h3,h4,h5,h6,h7,h8,h9,h10,h11⟩,fun⟨h1,h2,h3,h4,h5,h6,h7,h8,h9,h10,h11⟩=>⟨⟨⟨⟨⟨⟨⟨⟨⟨⟨h1,h2⟩,h3⟩,h4⟩,h5⟩,h6⟩,h7⟩,h8⟩,h9⟩,h10⟩,h11⟩⟩
def RY (r:GRec):Prop:=(r.parents.length < 4611686018427387904∧r.edits.length < 4611686018427387904∧∀ e∈r.edits,QP e)∧RW r.sl∧RW r.priv.sl∧r.priv.sources.length < 4611686018427387904∧r.priv.trace.length < 4611686018427387904
theorem uF {r:GRec} (h:gQ r):RY r:=by obtain ⟨_,_,h1,h2,h3,_,_,h4,h5,h6⟩:=h;exact⟨⟨by have:=h1.1;omega,by have:=h2.1;omega,h2.2⟩,RV h3,RV h6,by have:=h4.1;omega,by omega⟩
theorem OQ (a b:GRec) (H:aA) (ha:RY a) (hb:RY b):aG Tryz.prog 29 [av (bP a),av (bP b)] H (fun r H'=>r=bv (RN a b)∧H'=H):=by
 refine aG.pure ?_ (by simp [bP]) H;have hs1:=fun H=>sI a.parents b.parents H ha.1.1 hb.1.1;have hs2:=fun H=>OR a.edits b.edits H ha.1.2.1 hb.1.2.1 ha.1.2.2 hb.1.2.2;have hX:RN a b=((((((((((decide (a.kind=b.kind)&&decide (a.author=b.author))&&decide (a.number=b.number))&&decide (a.clock=b.clock))&&decide (a.branch=b.branch))&&decide (a.parents=b.parents))&&xA a.edits b.edits)&&decide (a.target=b.target))&&(a.yes == b.yes))&&decide (a.order=b.order))&&decide (a.from'=b.from')):=rfl;obtain ⟨ee,hee⟩:∃ ee,ee=xA a.edits b.edits:=⟨_,rfl⟩;rw [← hee] at hs2 hX;clear hee;refine Bd func29 rfl ntmps29<|Sr<|Dd (by exact bZ (id:=2) rfl rfl rfl rfl rfl)<|Dd (by exact bZ (id:=3) rfl rfl rfl rfl rfl)<|Dd aP<|Zz<|Sq ?_;refine bC (t:=4) (n:=86) (X:=RN a b) ?_ ?_
 ·all_goals refine Dd (bB BL) ?_
  all_goals refine Dd (bL isAgg3)<|Dd (bB BL)<|Dd (bL isAgg3)<|Dd dC<|Dm ?_
  all_goals refine Sp 10 (fun h10=>?_) fun h10=>?_
  all_goals try contradiction
  all_goals first|refine Fo<|Fo<|Fo<|Fo<|Fo ?_|refine On (bB yT)<|On (bL isAgg3)<|On (bB yT)<|On (bL isAgg3)<|On dC ?_
  all_goals refine Dd cL<|Dm ?_
  all_goals refine Sp 17 (fun h17=>?_) fun h17=>?_
  all_goals try contradiction
  all_goals first|refine Fo<|Fo<|Fo<|Fo<|Fo ?_|refine On (bB pT)<|On (bL isAgg3)<|On (bB pT)<|On (bL isAgg3)<|On dC ?_
  all_goals refine Dd cL<|Dm ?_
  all_goals refine Sp 24 (fun h24=>?_) fun h24=>?_
  all_goals try contradiction
  all_goals first|refine Fo<|Fo<|Fo<|Fo<|Fo ?_|refine On (bB yS)<|On (bL isAgg3)<|On (bB yS)<|On (bL isAgg3)<|On dC ?_
  all_goals refine Dd cL<|Dm ?_
  all_goals refine Sp 31 (fun h31=>?_) fun h31=>?_
  all_goals try contradiction
  all_goals first|refine Fo<|Fo<|Fo<|Fo<|Fo ?_|refine On (bB yR)<|On (bL isAgg9)<|On (bB yR)<|On (bL isAgg9)<|On AJ ?_
  all_goals refine Dd cL<|Dm ?_
  all_goals refine Sp 38 (fun h38=>?_) fun h38=>?_
  all_goals try contradiction
  all_goals first|refine Fo<|Fo<|Fo<|Fo<|Fo ?_|refine On (bB oG)<|On (bL aJ)<|On (bB oG)<|On (bL aJ)<|On (by exact aB rfl rfl aD9 rfl (hs1 _)) ?_
  all_goals refine Dd cL<|Dm ?_
  all_goals refine Sp 45 (fun h45=>?_) fun h45=>?_
  all_goals try contradiction
  all_goals first|refine Fo<|Fo<|Fo<|Fo<|Fo ?_|refine On (bB BK)<|On (bL mK)<|On (bB BK)<|On (bL mK)<|On (by exact aB rfl rfl call92 rfl (hs2 _)) ?_
  all_goals refine Dd cL<|Dm ?_
  all_goals refine Sp 52 (fun h52=>?_) fun h52=>?_
  all_goals try contradiction
  all_goals first|refine Fo<|Fo<|Fo<|Fo<|Fo ?_|refine On (bB yQ)<|On (bL isAgg9)<|On (bB yQ)<|On (bL isAgg9)<|On AJ ?_
  all_goals refine Dd cL<|Dm ?_
  all_goals refine Sp 59 (fun h59=>?_) fun h59=>?_
  all_goals try contradiction
  all_goals first|refine Fo<|Fo<|Fo<|Fo<|Fo ?_|refine On (bB EX)<|On (bL rZ)<|On (bB EX)<|On (bL rZ)<|On (by exact IZ rfl dN rfl rfl) ?_
  all_goals refine Dd cL<|Dm ?_
  all_goals refine Sp 66 (fun h66=>?_) fun h66=>?_
  all_goals try contradiction
  all_goals first|refine Fo<|Fo<|Fo<|Fo<|Fo ?_|refine On (bB BJ)<|On (bL isAgg3)<|On (bB BJ)<|On (bL isAgg3)<|On dC ?_
  all_goals refine Dd cL<|Dm ?_
  all_goals refine Sp 73 (fun h73=>?_) fun h73=>?_
  all_goals try contradiction
  all_goals first|refine Fo<|Fo<|Fo<|Fo<|Fo ?_|refine On (bB wF)<|On (bL isAgg9)<|On (bB wF)<|On (bL isAgg9)<|On AJ ?_
  all_goals refine Dd cL<|Da ?_
  all_goals(exact⟨⟨_,rfl,by first|(rw [hX,h10];rfl)|(rw [hX,h10,h17];rfl)|(rw [hX,h10,h17,h24];rfl)|(rw [hX,h10,h17,h24,h31];rfl)|(rw [hX,h10,h17,h24,h31,h38];rfl)|(rw [hX,h10,h17,h24,h31,h38,h45];rfl)|(rw [hX,h10,h17,h24,h31,h38,h45,h52];rfl)|(rw [hX,h10,h17,h24,h31,h38,h45,h52,h59];rfl)|(rw [hX,h10,h17,h24,h31,h38,h45,h52,h59,h66];rfl)|(rw [hX,h10,h17,h24,h31,h38,h45,h52,h59,h66,h73];rfl)⟩,rfl,rfl,rfl⟩)
 exact aC<|Rt<|Qq
def aB4 (a b:GRec):Bool:=((RN a b&&OX a.priv b.priv)&&decide (a.sl=b.sl))&&decide (a.priv.sl=b.priv.sl)
theorem IN {a b:GRec}:aB4 a b=true↔a=b:=by
 simp only [aB4,OX,aLY,aLW,aBb];constructor
 ·rintro⟨⟨⟨⟨h1,h2,h3,h4,h5,h6,h7,h8,h9,h10,h11⟩,⟨⟨q1,q2⟩,q3⟩,q4⟩,h12⟩,h13⟩;obtain ⟨a1,a2,a3,a4,a5,a6,a7,a8,a9,a10,a11,a12,b1,b2,b3,b4,b5⟩:=a;obtain ⟨c1,c2,c3,c4,c5,c6,c7,c8,c9,c10,c11,c12,d1,d2,d3,d4,d5⟩:=b;simp only at *;subst h1 h2 h3 h4 h5 h6 h7 h8 h9 h10 h11 q1 q2 q3 q4 h12 h13;rfl
 rintro rfl;exact⟨⟨⟨⟨rfl,rfl,rfl,rfl,rfl,rfl,rfl,rfl,rfl,rfl,rfl⟩,⟨⟨rfl,rfl⟩,rfl⟩,rfl⟩,rfl⟩,rfl⟩
theorem D5 (a b:GRec) (H:aA) (ha:RY a) (hb:RY b):aG Tryz.prog 21 [av (bP a),av (bP b)] H (fun r H'=>r=bv (aB4 a b)∧H'=H):=by
 refine aG.pure ?_ (by simp [bP]) H;have hs1:=fun H=>OQ a b H ha hb;have hs2:=fun H=>KS a.priv b.priv H ha.2.2.2.1 hb.2.2.2.1 ha.2.2.2.2;have hs3:=fun H=>II a.sl b.sl H ha.2.1 hb.2.1;have hs4:=fun H=>II a.priv.sl b.priv.sl H ha.2.2.1 hb.2.2.1;have hX:aB4 a b=(((RN a b&&OX a.priv b.priv)&&decide (a.sl=b.sl))&&decide (a.priv.sl=b.priv.sl)):=rfl;obtain ⟨p1,hp1⟩:∃ p,p=RN a b:=⟨_,rfl⟩;obtain ⟨p2,hp2⟩:∃ p,p=OX a.priv b.priv:=⟨_,rfl⟩;rw [← hp1] at hs1 hX;rw [← hp2] at hs2 hX;clear hp1 hp2;refine Bd func21 rfl ntmps21<|Sr<|Dd (by exact bZ (id:=2) rfl rfl rfl rfl rfl)<|Dd (by exact bZ (id:=3) rfl rfl rfl rfl rfl)<|Dd aP<|Zz<|Sq ?_;refine bC (t:=4) (n:=30) (X:=aB4 a b) ?_ ?_
 ·all_goals refine Dd (pN aR aM) ?_
  all_goals refine Dd (pN aR aM)<|Dd (by exact aB rfl rfl call29 rfl (hs1 _))<|Dm ?_
  all_goals refine Sp 8 (fun h8=>?_) fun h8=>?_
  all_goals try contradiction
  all_goals first|refine Fo<|Fo<|Fo<|Fo<|Fo ?_|refine On (bB eJ)<|On (pN iA sizeOf28)<|On (bB eJ)<|On (pN iA sizeOf28)<|On (by exact aB rfl rfl call30 rfl (hs2 _)) ?_
  all_goals refine Dd cL<|Dm ?_
  all_goals refine Sp 15 (fun h15=>?_) fun h15=>?_
  all_goals try contradiction
  all_goals first|refine Fo<|Fo<|Fo<|Fo<|Fo ?_|refine On (bB iP)<|On (pN dX sizeOf25)<|On (bB iP)<|On (pN dX sizeOf25)<|On (by exact aB rfl rfl call35 rfl (hs3 _)) ?_
  all_goals refine Dd cL<|Dm ?_
  all_goals refine Sp 22 (fun h22=>?_) fun h22=>?_
  all_goals try contradiction
  all_goals first|refine Fo<|Fo<|Fo<|Fo<|Fo<|Fo<|Fo ?_|refine On (bB eJ)<|On (bB nN)<|On (pN dX sizeOf25)<|On (bB eJ)<|On (bB nN)<|On (pN dX sizeOf25)<|On (by exact aB rfl rfl call35 rfl (hs4 _)) ?_
  all_goals refine Dd cL<|Da ?_
  all_goals(exact⟨⟨_,rfl,by first|(rw [hX,h8];rfl)|(rw [hX,h8,h15];rfl)|(rw [hX,h8,h15,h22];rfl)⟩,rfl,rfl,rfl⟩)
 exact aC<|Rt<|Qq
end Go.Proofs.YtiifmppaejpemaaGreatDoor
