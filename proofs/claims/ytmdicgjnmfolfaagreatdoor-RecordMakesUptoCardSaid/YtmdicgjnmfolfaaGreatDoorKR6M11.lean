/-
  Parts of the proof: rules of an abstract program logic, contracts of functions, plain laws. Conditions: each theorem's own.
-/
import Derived.Test.YtmdicgjnmfolfaaGreatDoorKR6M10
set_option linter.unusedVariables false
set_option linter.unusedSimpArgs false
set_option maxRecDepth 100000
set_option maxHeartbeats 8000000
namespace Go.Proofs
open Tryz
theorem aPP:type_of% call157:=call157
theorem aHD:type_of% call88:=call88
end Go.Proofs
namespace Go.Proofs.YtmdicgjnmfolfaaGreatDoor
open Go.Proofs.Tryz
open Go.Abs
variable{s:ByteArray}{j n id:Nat}{T:List GFound}{p q:Prop}{a b:Ob}
theorem HI:∀(l:List UInt8) (p:List UInt8×Nat),qM l=some p->p.1.length<=l.length
 | [],p,h=>by cases h
 | [c],p,h=>by
  rw[qM]at h
  split at h
  ·cases h;exact aQV _
  cases h
 | c :: e :: r, p, h => by
  rw[qM]at h
  split at h
  ·cases h;exact aQV _
  split at h
  ·cases h
  split at h
  ·cases hg:CJ e with
   |none=>rw[hg]at h;cases h
   | some b =>
    rw[hg]at h;cases hu:qM r with
    |none=>rw[hu]at h;cases h
    |some q =>
     rw[hu]at h;cases h;have:=HI r q hu;show q.1.length+1<=r.length+1+1;omega
  cases hu:qM (e::r)with
  |none=>rw[hu]at h;cases h
  |some q =>
   rw[hu]at h;cases h;have:=HI (e::r) q hu;show q.1.length+1<=r.length+1+1;rw[aQG]at this;omega
theorem mU(s:ByteArray)(i j:Nat):(s.extract i j).size<=s.size:=by rw[<-bD,iI,aQS,aQT,bD];omega
theorem aCD(s:ByteArray):(A1 s).1.size<=s.size:=by
 rw[A1];cases h:qM (s.data.toList.drop 1)with
 |none=>exact aQV _
 |some p =>
  have:=HI _ _ h;rw[aQT,bD]at this;show (⟨p.1.toArray⟩:ByteArray).size<=_;rw[<-bD];show p.1.length<=_;omega
theorem YY{i:Nat}{f:GFound}(h:jQ s i=(some f,j)):f.text.size<=s.size:=by
 rw[jQ]at h
 split at h
 ·cases h
 split at h
 ·cases h
 split at h
 ·cases h;exact mU _ _ _
 split at h
 ·cases h;exact mU _ _ _
 split at h
 ·cases h;rw[PH]
  split
  ·have h1:=aCD (s.extract i s.size);have h2:=mU s i s.size;show (A1 (s.extract i s.size)).1.size<=_;omega
  exact aQV _
 split at h
 ·cases h;exact mU _ _ _
 cases h;exact aQV _
theorem EF(s:ByteArray):∀(n i:Nat) (f:GFound),f∈nU s n i->f.text.size<=s.size
 |0,_,_,h=>by cases h
 | n+1,i,f,h=>by
  rw[nU]at h
  split at h
  ·split at h
   ·exact EF s n _ f h
   rename_i g j hg;rcases aQQ.1 h with rfl|h
   ·exact YY hg
   split at h
   ·exact EF s n _ f h
   cases h
  cases h
theorem VQ:∀(ds acc:List GFound) (f:GFound),f∈(mY acc ds).1->f∈acc\/f∈ds
 | [],acc,f,h=>.inl h
 | d::ds,acc,f,h=>by
  rw[mY]at h
  split at h
  ·cases h
  split at h
  ·cases h
  rcases VQ ds _ f h with h|h
  ·rcases List.mem_append.1 h with h|h
   ·exact .inl h
   rw[aQH]at h;subst h;exact .inr List.mem_cons_self
  exact .inr (List.mem_cons_of_mem _ h)
theorem RE(s:ByteArray)(f:GFound)(h:f∈(jJ s).1):f.text.size<=s.size:=by
 rw[jJ]at h
 split at h
 ·cases h
 rcases VQ _ _ f h with h|h
 ·cases h
 exact EF s _ _ f h
theorem WL(h:∀f∈T,f.text.size<=n):∀f∈sP T,f.text.size<=n:=fun f hf=>by
 rw[sP]at hf;rcases List.mem_append.1 hf with h1|h1
 ·exact h f h1
 rw[(List.mem_replicate.1 h1).2];exact aQV _
theorem P3:∀(T:List GFound) (n:Nat),(∀f∈T,f.text.size<=n)->(oV T).length<=T.length/\∀t∈oV T,t.key.size<=n/\t.val.size<=n
 | [],n,_=>by simp[oV]
 | [a],n,_=>by simp[oV]
 | [a,b],n,_=>by simp[oV]
 |a::b::c::r,n,h=>by
  obtain ⟨i1,i2⟩:=P3 r n fun f hf=>h f (by simp[hf]);rw[oV];refine⟨by simp only[aQG];omega,fun t ht=>?_⟩;rcases aQQ.1 ht with rfl|ht
  ·exact⟨h a (by simp),h c (by simp)⟩
  exact i2 t ht
theorem aEr(T:List GFound):(sP T).length<=T.length+4:=by rw[sP,aQF,List.length_replicate];omega
theorem aE6(h:∀f∈T,f.text.size<=n)(hn:n<4611686018427387904)(hl:T.length<549755813888):okO (mZ T):=by
 have hp:=WL h;have hpl:=aEr T;have hg:∀i,((sP T).getD i noF).text.size<=n:=fun i=>by
  rw[List.getD_eq_getElem?_getD];cases e:(sP T)[i]? with
  |none=>exact aQV _
  |some f=>exact hp f (aQO e)
 have ht:∀k,HW (oV ((sP T).drop k)):=fun k=>by
  obtain ⟨a,b⟩:=P3 ((sP T).drop k) n fun f hf=>hp f (List.mem_of_mem_drop hf);rw[aQT]at a;exact⟨by omega,fun t htt=>by have:=b t htt;omega⟩
 rw[mZ]
 split
 ·exact⟨Nat.lt_of_le_of_lt (hg 1) hn,ht _,by show 0<_;omega,fun s hs=>by cases hs⟩
 split
 ·exact⟨by decide,⟨by decide,fun t h=>by cases h⟩,by decide,fun s hs=>by cases hs⟩
 refine⟨Nat.lt_of_le_of_lt (hg 1) hn,ht _,?_,fun s hs=>?_⟩
 ·show (List.map _ _).length<_;rw[aQE,aQT,aQS];omega
 obtain ⟨f,hf,rfl⟩:=List.mem_map.1 hs;have:=hp f (List.mem_of_mem_take (List.mem_of_mem_drop hf));omega
theorem uQ(c:UInt8):∀ {l w:List UInt8},w∈fO c l->w.length<=l.length
 | [],w,h=>by
  rw[fO,aQH]at h;rw[h];exact aQK _
 | b::l,w,h=>by
  have hp:=AD c l;rw[fO]at h;cases e:fO c l with
  |nil=>rw[e]at hp;exact absurd hp (Nat.lt_irrefl 0)
  | cons x r =>
   have ih:∀y∈x::r,y.length<=l.length:=fun y hy=>uQ c (by rw[e];exact hy);rw[e]at h;rw[aQG]
   split at h
   ·rcases aQQ.1 h with rfl|h
    ·exact aQV _
    exact Nat.le_succ_of_le (ih w h)
   rcases aQQ.1 h with rfl|h
   ·exact Nat.succ_le_succ (ih _ List.mem_cons_self)
   exact Nat.le_succ_of_le (ih w (List.mem_cons_of_mem _ h))
theorem QS(hs:s.size<1099511627776):okO (mZ (jJ s).1):=aE6 (fun f hf=>RE s f hf) (by omega) (GF s hs)
theorem NX(l:List ByteArray):∀r∈l.map encStr,r.length=1:=fun r hr=>by
 obtain ⟨s,_,rfl⟩:=List.mem_map.1 hr;rfl
theorem OE [Decidable p][Decidable q](h:(decide p&&decide q)=true):p/\q:=by simpa using h
theorem OF [Decidable p][Decidable q](h:(decide p&&decide q)=false):¬ (p/\q):=by intro h2;simp[h2]at h
theorem aHW{H:aH}{o:Ob}(h:H.get id=some o):Sub [(id,o)] H:=fun j x hx=>by
 by_cases e:j=id
 ·subst e;rw[get_cons_same]at hx;cases hx;exact h
 rw[get_cons_other _ _ e]at hx;cases hx
theorem aFE(h:(aH.get [(id,a)] j).isSome=true):(aH.get [(id,b)] j).isSome=true:=by
 by_cases e:j=id
 ·subst e;rw[get_cons_same];rfl
 rw[get_cons_other _ _ e]at h;cases h
theorem Z3(s:ByteArray)(H:aH)(hs:s.size<1099511627776):aI Tryz.prog 155 [sv s] H (fun r H'=>r=.tup [av (bW (sH s).1),iv (sH s).2]/\H'=H):=by
 refine Pu ?_;have hlen:=GF s hs;have hsz:=WL (RE s);have hoo:=QS hs;rw[sH];refine Bd func155 rfl ntmps155<|Sr<|Dd (by exact bU (id:=2) rfl aA9 rfl rfl)<|Dd aM<|Zz<|Sq<|Sr<|Dd aE<|Dd (kG underlying9)<|Dd iG<|Zz ?_;refine Cn ?_ ?_<;>intro hc1
 ·have h2:20000<s.size:=by have:=aQA hc1;omega
  rw[aQD h2];refine Sr<|Dd (rJ R7)<|Uu (jN sizeOf151)<|Dd aM<|Zz<|aB ?_;refine mQ (H':=[]) (.inr rfl) rfl (ZB dA sizeOf151) (aX rfl) (Fin.wk (r:=.tup [av (bW zObj),iv 2]) (by simp) trivial trivial) ?_;exact Qq
 have h2:¬ 20000<s.size:=by have:=aQB hc1;omega
 rw[aQC h2];by_cases he:(jJ s).2.1=0
 ·have hlo:=fun H h=>aLZ s H hs he h;obtain ⟨T,hT⟩:∃T,T=(jJ s).1:=⟨_,rfl⟩;rw[<-hT]at hlen hsz hoo |-;simp only[<-hT]at hlo;have hrd:∀H,H.get 905=some (UY T)->aI Tryz.prog 195 [.osl 905 T.length 0 T.length] H (fun r H'=>r=av (bW (mZ T))/\H'=[(905,UY (sP T))]++H):=fun H hH =>
   aI.frame (aKg T hlen (fun f hf=>Nat.lt_of_le_of_lt (hsz f hf) hs)) (aHW hH) (eI.ofL ⟨cT _ _,trivial⟩) (by intro a ha;rw[aQH]at ha;subst ha;simp[aH.get]) (fun id h=>.inl (aFE h))
  obtain ⟨o,ho⟩:∃o,o=mZ T:=⟨_,rfl⟩;rw[<-ho]at hrd hoo |-;refine aC<|Sr<|Dd aE<|Dd (by exact aA rfl rfl aPP rfl (hlo _ rfl))<|Dd aE<|Dd fG<|Dd fG<|Dd fG<|Dd aM<|Dd aM<|Dd aM<|Zz<|Sq<|Sr<|Dd aE<|Dd cN<|Zz ?_;refine Cn ?_ ?_<;>intro hc2
  ·refine Sr<|Dd aE<|Dd (by exact aA rfl rfl call195 rfl (hrd _ rfl))<|Dd (by exact bU (id:=7) rfl aA9 rfl rfl)<|Uu (jN sizeOf151)<|Zz<|Sr<|Dd (mD dA sizeOf151)<|Dd (by exact aA rfl rfl call196 rfl (QY o _ hoo))<|Dd aE<|Dd fG<|Dd fG<|Dd aM<|Dd aM<|Zz<|Sq ?_;refine aY (t:=35) (n:=8) (X:=decide ((fY o).2=0)&&decide ((fY o).1=s)) ?_ ?_
   ·all_goals refine Dd aE ?_
    all_goals refine Dd cN<|Dm ?_
    all_goals refine Sp 31 (fun h31=>?_) fun h31=>?_
    all_goals try contradiction
    all_goals first|refine Fo<|Fo<|Fo ?_|refine On aE<|On aE<|On AG ?_
    all_goals refine Dd cH<|Zz ?_
    all_goals(exact⟨⟨_,rfl,by(simp_all;done)⟩,rfl,rfl,rfl⟩)
   refine Cn ?_ ?_<;>intro hc3
   ·have hq:=OE hc3;rw[aQD ⟨he,Prod.ext hq.2 hq.1⟩];refine Sr<|Dd (mD dA sizeOf151)<|Uu (jN sizeOf151)<|Dd aM<|Zz<|aB ?_;refine mQ (H':=[]) (.inr rfl) rfl (ZB dA sizeOf151) (aX rfl) (Fin.wk (r:=.tup [av (bW o),iv 0]) (by simp) trivial trivial) ?_;exact Qq
   have hq:=OF hc3;rw[aQC (fun h=>hq ⟨congrArg Prod.snd h.2,congrArg Prod.fst h.2⟩)];refine aC<|Sr<|Dd (rJ R7)<|Uu (jN sizeOf151)<|Dd aM<|Zz<|aB ?_;refine mQ (H':=[]) (.inr rfl) rfl (ZB dA sizeOf151) (aX rfl) (Fin.wk (r:=.tup [av (bW zObj),iv 5]) (by simp) trivial trivial) ?_;exact Qq
  exact absurd rfl (aQB hc2)
 refine aC<|Sr<|Dd aE<|Dd (by exact aA rfl rfl aPP rfl (aJt s _ hs))<|Dd aE<|Dd fG<|Dd fG<|Dd fG<|Dd aM<|Dd aM<|Dd aM<|Zz<|Sq<|Sr<|Dd aE<|Dd cN<|Zz ?_;refine Cn ?_ ?_<;>intro hc4
 ·exact absurd (aQA hc4) he
 refine aC<|Sr<|Dd (rJ R7)<|Uu (jN sizeOf151)<|Dd aM<|Zz<|aB ?_;rw[aQC (fun h=>he h.1)];refine mQ (H':=[]) (.inr rfl) rfl (ZB dA sizeOf151) (aX rfl) (Fin.wk (r:=.tup [av (bW zObj),iv 5]) (by simp) trivial trivial) ?_;exact Qq
theorem aHr(s:ByteArray)(H:aH)(hs:s.size<=20000):aI Tryz.prog 116 [sv s] H (fun r H'=>r=av (bA (jR s.data.toList))/\H'=H):=by
 refine Pu ?_;have hsz:=bD s;obtain ⟨W,hW⟩:∃W,W=fO 32 s.data.toList:=⟨_,rfl⟩;obtain ⟨w0,hw0⟩:∃w,w=W.headD []:=⟨_,rfl⟩;obtain ⟨rs,hrs⟩:∃r,r=s.data.toList.drop (w0.length+1):=⟨_,rfl⟩;have hrl:rs.length<=s.size:=by rw[hrs,aQT,hsz];omega
 have hg:jR s.data.toList=B5 W w0 rs:=by rw[jR,<-hW,<-hw0,<-hrs]
 have hC:∃b,∀H,aI Tryz.prog 113 [sv s,sv sSp] H (fun r H'=>r=.tup [sv (ofL w0),sv (ofL rs),bv b]/\H'=H):=by
  obtain ⟨b,hb⟩:=aJG s;rw[<-hW,<-hw0,<-hrs]at hb;exact⟨b,fun H=>by rw[<-hb];exact aNp s H (by omega)⟩
 obtain ⟨b,hC⟩:=hC;have hSl:(eH s).length=W.length:=by rw[aCM,hW]
 have hml:((eH s).map encStr).length=W.length:=by rw[aQE,hSl]
 have hSg:∀i,i<W.length->((eH s).map encStr)[i]?=some [.str (ofL (W.getD i []))]:=fun i hi=>by
  rw[hW];exact cI (f:=encStr) (aCN s i (by rw[hSl];exact hi))
 have hWs:∀i,(ofL (W.getD i [])).size<=s.size:=fun i=>by
  rw[dH,List.getD_eq_getElem?_getD];cases e:W[i]? with
  |none=>exact aQV _
  |some w =>
   have:=uQ 32 (l:=s.data.toList) (w:=w) (by rw[<-hW];exact aQO e);rw[hsz]at this;exact this
 have hWl:W.length<=s.size+1:=by
  rw[hW,uR];have:=List.count_le_length (l:=s.data.toList) (a:=32);omega
 have hjl:((eH s).drop 3).length<=20001:=by rw[aQT,hSl];omega
 have hjs:dC ((eH s).drop 3)<=20000*((eH s).drop 3).length:=nN (fun w hw=>by
  have hw2:=List.mem_of_mem_drop hw;rw[eH,<-hW]at hw2;obtain ⟨x,hx,rfl⟩:=List.mem_map.1 hw2;have:=uQ 32 (l:=s.data.toList) (w:=x) (by rw[<-hW];exact hx);show (ofL x).size<=_;rw[dH];omega)
 rw[hg,B5];refine Bd func116 rfl ntmps116<|Sr<|Dd (by exact bU (id:=2) rfl PX rfl rfl)<|Zz<|Sr<|Dd aE<|Dd (by exact aA rfl rfl call154 rfl (aCO s _ (by omega)))<|Dd aM<|Zz<|Sr<|Dd aE<|Dd (by exact aA rfl rfl call113 rfl (hC _))<|Dd aE<|Dd fG<|Dd fG<|Dd fG<|Dd aM<|Dd aM<|Dd aM<|Zz<|Sq<|aF<|Sr<|Dd aE<|Dd AG<|Da ?_;refine Cn ?_ ?_<;>intro hc1
 ·have h1:w0=aCB:=qU.1 (aQA hc1);rw[aQD h1];refine Sr<|Dd aE<|Dd (by exact aA rfl rfl call155 rfl (Z3 (ofL rs) _ (by rw[dH];omega)))<|Dd aE<|Dd fG<|Dd fG<|Dd (by exact bU (id:=7) rfl aA9 rfl rfl)<|Uu (jN sizeOf151)<|Dd aM<|Zz<|Sr<|Dd (mD dA sizeOf151)<|Dd (rJ EA)<|Uu (jN bC)<|Zz<|aB ?_;refine dV (H':=[]) (.inr rfl) rfl (ZB cE bC) (Fin.wk (r:=av (bA ⟨1,sNil,sNil,sNil,0,0,sNil,sNil,[],(sH (ofL rs)).1⟩)) (by simp) trivial trivial) ?_;exact Qq
 have h1:¬ w0=aCB:=fun e=>aQB hc1 (qU.2 e);rw[aQC h1];refine Sq ?_;refine aY (t:=30) (n:=9) (X:=decide (ofL w0=⟨#[109,111,118,101]⟩)&&decide ((((eH s).map encStr).length:Int)=4)) ?_ ?_
 ·all_goals refine Dd aE ?_
  all_goals refine Dd AG<|Dm ?_
  all_goals refine Sp 33 (fun h33=>?_) fun h33=>?_
  all_goals try contradiction
  all_goals first|refine Fo<|Fo<|Fo ?_|refine On aE<|On (fM aD)<|On cN ?_
  all_goals refine Dd cH<|Da ?_
  all_goals(exact⟨⟨_,rfl,by(simp_all;done)⟩,rfl,rfl,rfl⟩)
 refine Cn ?_ ?_<;>intro hc2
 ·have h2:ofL w0=ofL aAg/\_:=OE hc2;rw[qU,hml]at h2;rw[aQD ⟨h2.1,by omega⟩];have i1:=hSg 1 (by omega);have i2:=hSg 2 (by omega);have i3:=hSg 3 (by omega);have s2:=hWs 2;have s3:=hWs 3;refine Sq<|aO follows<|Cr [] (fun _ _=>aE)<|Cr [] (fun _ _=>(mR cC))<|Cr [] (fun _ _=>(iN isAgg9))<|Cr [] (fun _ _=>aE)<|Cr [] (fun _ _=>(mR cC))<|Cr [] (fun _ _=>(iN isAgg9))<|Cr [] (fun H1 hH=>by exact aA rfl rfl call156 rfl (WW (ofL (W.getD 2 [])) _ (by omega)))<|Cr [] (fun _ _=>aE)<|Cr [] (fun _ _=>(mR cC))<|Cr [] (fun _ _=>(iN isAgg9))<|Cr [] (fun H1 hH=>by exact aA rfl rfl call156 rfl (WW (ofL (W.getD 3 [])) _ (by omega)))<|Cr [] (fun _ _=>(rJ X3))<|Cr [] (fun _ _=>(rJ EA))<|Cp [2] (fun H1 hH=>by exact cO rfl bC rfl rfl rfl rfl ((hH _ rfl).trans rfl) rfl rfl rfl)<|bM<|Kr<|aB ?_;refine dV (H':=[]) (.inr rfl) rfl (ZB cE bC) (Fin.wk (r:=av (bA ⟨2,ofL (W.getD 1 []),sNil,sNil,PF (W.getD 2 []),PF (W.getD 3 []),sNil,sNil,[],zObj⟩)) (by simp) trivial trivial) ?_;exact Qq
 have h2:¬ (ofL w0=ofL aAg/\_):=OF hc2;rw[qU,hml]at h2;rw[aQC (fun h=>h2 ⟨h.1,by omega⟩)];refine Sq ?_;refine aY (t:=51) (n:=9) (X:=decide (ofL w0=⟨#[116,97,103]⟩)&&decide ((3:Int)<(((eH s).map encStr).length:Int))) ?_ ?_
 ·all_goals refine Dd aE ?_
  all_goals refine Dd AG<|Dm ?_
  all_goals refine Sp 54 (fun h54=>?_) fun h54=>?_
  all_goals try contradiction
  all_goals first|refine Fo<|Fo<|Fo ?_|refine On aE<|On (fM aD)<|On iG ?_
  all_goals refine Dd cH<|Da ?_
  all_goals(exact⟨⟨_,rfl,by(simp_all;done)⟩,rfl,rfl,rfl⟩)
 refine Cn ?_ ?_<;>intro hc3
 ·have h3:ofL w0=ofL aBy/\_:=OE hc3;rw[qU,hml]at h3;rw[aQD ⟨h3.1,by omega⟩];have i1:=hSg 1 (by omega);have i2:=hSg 2 (by omega);have hJe:bs ((eH s).drop 3)=W.drop 3:=by
   rw[bs,eH,<-hW,List.map_drop,List.map_map];congr 1;exact(List.map_congr_left fun x _=>dI x).trans (List.map_id _)
  have hj:∀H,aI Tryz.prog 158 [.pv (aZ ((eH s).drop 3)),sv ⟨#[32]⟩] H (fun x H'=>x=sv (ofL (bZ [32] (W.drop 3)))/\H'=H):=fun H=>by
   have:=uB ((eH s).drop 3) ⟨#[32]⟩ H (by decide) (by show 1*_+_+_<_;omega);rw[hJe]at this;exact this
  have hJs:(ofL (bZ [32] (W.drop 3))).size<1099511627776:=by
   have:=fE ((eH s).drop 3);rw[hJe]at this;rw[dH];omega
  obtain ⟨J,hJ⟩:∃J,J=ofL (bZ [32] (W.drop 3)):=⟨_,rfl⟩;rw[<-hJ]at hJs |-;simp only[<-hJ]at hj;have htl:((jJ J).1.map eU).length=(jJ J).1.length:=aQE _;refine Sr<|Dd aE<|Dd (by exact zU (l:=3) (h:=((eH s).map encStr).length) (rows':=((eH s).drop 3).map encStr) rfl cC rfl (NX _) rfl rfl (by omega) (aQK _) (by rw[List.take_length];exact List.map_drop.symm))<|Dd (by exact aA rfl rfl pV rfl (hj _))<|Dd (by exact aA rfl rfl aPP rfl (aJt J _ hJs))<|Dd aE<|Dd fG<|Dd fG<|Dd fG<|Dd aM<|Dd aM<|Dd aM<|Zz<|Sr<|Dd aE<|Dd (fM iE)<|Dd cN<|Zz ?_;refine Cn ?_ ?_<;>intro hc4
  ·have h4:(jJ J).1.length=1:=by have:=aQA hc4;omega
   obtain ⟨f,hf⟩:=List.length_eq_one_iff.1 h4;rw[hf];have hf0:([f].map eU)[0]?=some [.int .i64 f.kind,.str f.text,.int .i64 f.pos]:=rfl;refine Sq<|aO follows<|Cr [] (fun _ _=>aE)<|Cr [] (fun _ _=>(mR cC))<|Cr [] (fun _ _=>(iN isAgg9))<|Cr [] (fun _ _=>aE)<|Cr [] (fun _ _=>(mR cC))<|Cr [] (fun _ _=>(iN isAgg9))<|Cr [] (fun _ _=>aE)<|Cr [] (fun _ _=>(mR oJ))<|Cr [] (fun _ _=>(NS mG))<|Cr [] (fun _ _=>(iN isAgg9))<|Cr [] (fun _ _=>(rJ EA))<|Cp [2] (fun H1 hH=>by exact cO rfl bC rfl rfl rfl rfl ((hH _ rfl).trans rfl) rfl rfl rfl)<|bM<|Kr<|aB ?_;refine dV (H':=[]) (.inr rfl) rfl (ZB cE bC) (Fin.wk (r:=av (bA ⟨3,ofL (W.getD 1 []),sNil,sNil,0,0,ofL (W.getD 2 []),f.text,[],zObj⟩)) (by simp) trivial trivial) ?_;exact Qq
  have h4:(jJ J).1.length≠1:=by have:=aQB hc4;omega
  split
  ·next f hf=>rw[hf]at h4;exact absurd rfl h4
  refine aC<|Sr<|Dd (rJ EA)<|Uu (jN bC)<|Zz<|aB ?_;refine dV (H':=[]) (.inr rfl) rfl (ZB cE bC) (Fin.wk (r:=av (bA XR)) (by simp) trivial trivial) ?_;exact Qq
 have h3:¬ (ofL w0=ofL aBy/\_):=OF hc3;rw[qU,hml]at h3;rw[aQC (fun h=>h3 ⟨h.1,by omega⟩)];refine Sq ?_;refine aY (t:=81) (n:=9) (X:=decide (ofL w0=⟨#[114,101,102,115]⟩)&&decide ((1:Int)<(((eH s).map encStr).length:Int))) ?_ ?_
 ·all_goals refine Dd aE ?_
  all_goals refine Dd AG<|Dm ?_
  all_goals refine Sp 84 (fun h84=>?_) fun h84=>?_
  all_goals try contradiction
  all_goals first|refine Fo<|Fo<|Fo ?_|refine On aE<|On (fM aD)<|On iG ?_
  all_goals refine Dd cH<|Da ?_
  all_goals(exact⟨⟨_,rfl,by(simp_all;done)⟩,rfl,rfl,rfl⟩)
 refine Cn ?_ ?_<;>intro hc5
 ·have h4:ofL w0=ofL aAc/\_:=OE hc5;rw[qU,hml]at h4;rw[aQD ⟨h4.1,by omega⟩];have i1:=hSg 1 (by omega);refine Sq<|aO follows<|Cr [] (fun _ _=>aE)<|Cr [] (fun _ _=>(mR cC))<|Cr [] (fun _ _=>(iN isAgg9))<|Cr [] (fun _ _=>aE)<|Cr [] (fun H1 hH=>by exact zU (l:=2) (h:=((eH s).map encStr).length) (rows':=((W.drop 2).map ofL).map encStr) rfl cC rfl (NX _) rfl rfl (by omega) (aQK _) (by rw[List.take_length,eH,<-hW,List.map_drop,List.map_drop];rfl))<|Cr [] (fun _ _=>(rJ EA))<|Cp [2] (fun H1 hH=>by exact cO rfl bC rfl rfl rfl rfl ((hH _ rfl).trans rfl) rfl rfl rfl)<|bM<|Kr<|aB ?_;refine dV (H':=[]) (.inr rfl) rfl (ZB cE bC) (Fin.wk (r:=av (bA ⟨4,ofL (W.getD 1 []),sNil,sNil,0,0,sNil,sNil,(W.drop 2).map ofL,zObj⟩)) (by simp) trivial trivial) ?_;exact Qq
 have h4:¬ (ofL w0=ofL aAc/\_):=OF hc5;rw[qU,hml]at h4;rw[aQC (fun h=>h4 ⟨h.1,by omega⟩)];refine Sq ?_;refine aY (t:=95) (n:=9) (X:=decide (ofL w0=⟨#[100,114,111,112]⟩)&&decide ((((eH s).map encStr).length:Int)=2)) ?_ ?_
 ·all_goals refine Dd aE ?_
  all_goals refine Dd AG<|Dm ?_
  all_goals refine Sp 98 (fun h98=>?_) fun h98=>?_
  all_goals try contradiction
  all_goals first|refine Fo<|Fo<|Fo ?_|refine On aE<|On (fM aD)<|On cN ?_
  all_goals refine Dd cH<|Da ?_
  all_goals(exact⟨⟨_,rfl,by(simp_all;done)⟩,rfl,rfl,rfl⟩)
 refine Cn ?_ ?_<;>intro hc6
 ·have h5:ofL w0=ofL aAi/\_:=OE hc6;rw[qU,hml]at h5;rw[aQD ⟨h5.1,by omega⟩];have i1:=hSg 1 (by omega);refine Sr<|Dd aE<|Dd (mR cC)<|Dd (iN isAgg9)<|Dd (rJ EA)<|Uu (jN bC)<|Zz<|aB ?_;refine dV (H':=[]) (.inr rfl) rfl (ZB cE bC) (Fin.wk (r:=av (bA ⟨5,ofL (W.getD 1 []),sNil,sNil,0,0,sNil,sNil,[],zObj⟩)) (by simp) trivial trivial) ?_;exact Qq
 have h5:¬ (ofL w0=ofL aAi/\_):=OF hc6;rw[qU,hml]at h5;rw[aQC (fun h=>h5 ⟨h.1,by omega⟩)];refine Sq ?_;refine aY (t:=107) (n:=9) (X:=decide (ofL w0=⟨#[115,112,108,105,116]⟩)&&decide ((((eH s).map encStr).length:Int)=4)) ?_ ?_
 ·all_goals refine Dd aE ?_
  all_goals refine Dd AG<|Dm ?_
  all_goals refine Sp 110 (fun h110=>?_) fun h110=>?_
  all_goals try contradiction
  all_goals first|refine Fo<|Fo<|Fo ?_|refine On aE<|On (fM aD)<|On cN ?_
  all_goals refine Dd cH<|Da ?_
  all_goals(exact⟨⟨_,rfl,by(simp_all;done)⟩,rfl,rfl,rfl⟩)
 refine Cn ?_ ?_<;>intro hc7
 ·have h6:ofL w0=ofL SI/\_:=OE hc7;rw[qU,hml]at h6;rw[aQD ⟨h6.1,by omega⟩];have i1:=hSg 1 (by omega);have i2:=hSg 2 (by omega);have i3:=hSg 3 (by omega);refine Sq<|aO follows<|Cr [] (fun _ _=>aE)<|Cr [] (fun _ _=>(mR cC))<|Cr [] (fun _ _=>(iN isAgg9))<|Cr [] (fun _ _=>aE)<|Cr [] (fun _ _=>(mR cC))<|Cr [] (fun _ _=>(iN isAgg9))<|Cr [] (fun _ _=>aE)<|Cr [] (fun _ _=>(mR cC))<|Cr [] (fun _ _=>(iN isAgg9))<|Cr [] (fun _ _=>(rJ EA))<|Cp [2] (fun H1 hH=>by exact cO rfl bC rfl rfl rfl rfl ((hH _ rfl).trans rfl) rfl rfl rfl)<|bM<|Kr<|aB ?_;refine dV (H':=[]) (.inr rfl) rfl (ZB cE bC) (Fin.wk (r:=av (bA ⟨6,ofL (W.getD 1 []),ofL (W.getD 3 []),ofL (W.getD 2 []),0,0,sNil,sNil,[],zObj⟩)) (by simp) trivial trivial) ?_;exact Qq
 have h6:¬ (ofL w0=ofL SI/\_):=OF hc7;rw[qU,hml]at h6;rw[aQC (fun h=>h6 ⟨h.1,by omega⟩)];refine Sq ?_;refine aY (t:=125) (n:=9) (X:=decide (ofL w0=⟨#[106,111,105,110]⟩)&&decide ((((eH s).map encStr).length:Int)=3)) ?_ ?_
 ·all_goals refine Dd aE ?_
  all_goals refine Dd AG<|Dm ?_
  all_goals refine Sp 128 (fun h128=>?_) fun h128=>?_
  all_goals try contradiction
  all_goals first|refine Fo<|Fo<|Fo ?_|refine On aE<|On (fM aD)<|On cN ?_
  all_goals refine Dd cH<|Da ?_
  all_goals(exact⟨⟨_,rfl,by(simp_all;done)⟩,rfl,rfl,rfl⟩)
 refine Cn ?_ ?_<;>intro hc8
 ·have h7:ofL w0=ofL aAh/\_:=OE hc8;rw[qU,hml]at h7;rw[aQD ⟨h7.1,by omega⟩];have i1:=hSg 1 (by omega);have i2:=hSg 2 (by omega);refine Sq<|aO follows<|Cr [] (fun _ _=>aE)<|Cr [] (fun _ _=>(mR cC))<|Cr [] (fun _ _=>(iN isAgg9))<|Cr [] (fun _ _=>aE)<|Cr [] (fun _ _=>(mR cC))<|Cr [] (fun _ _=>(iN isAgg9))<|Cr [] (fun _ _=>(rJ EA))<|Cp [2] (fun H1 hH=>by exact cO rfl bC rfl rfl rfl rfl ((hH _ rfl).trans rfl) rfl rfl rfl)<|bM<|Kr<|aB ?_;refine dV (H':=[]) (.inr rfl) rfl (ZB cE bC) (Fin.wk (r:=av (bA ⟨7,ofL (W.getD 1 []),ofL (W.getD 2 []),sNil,0,0,sNil,sNil,[],zObj⟩)) (by simp) trivial trivial) ?_;exact Qq
 have h7:¬ (ofL w0=ofL aAh/\_):=OF hc8;rw[qU,hml]at h7;rw[aQC (fun h=>h7 ⟨h.1,by omega⟩)];refine aC<|Sr<|Dd (rJ EA)<|Uu (jN bC)<|Zz<|aB ?_;refine dV (H':=[]) (.inr rfl) rfl (ZB cE bC) (Fin.wk (r:=av (bA XR)) (by simp) trivial trivial) ?_;exact Qq
def JV(l:List GEdit):List (List AV):=l.map fun e=>(bA e).map AV.pv
theorem aDJ(l:List GEdit):(JV l).length=l.length:=aQE _
theorem aDK(l:List GEdit)(e:GEdit):JV l++[(bA e).map AV.pv]=JV (l++[e]):=by rw[JV,JV,List.map_append];rfl
theorem IP(H:aH)(l:List GEdit):∀r∈JV l,∀a∈r,Clo H a:=by intro r hr a ha;obtain ⟨d,_,rfl⟩:=List.mem_map.1 hr;obtain ⟨p,_,rfl⟩:=List.mem_map.1 ha;simp
theorem TT(H:aH)(s:ByteArray):∀r∈(lB s).rows,∀a∈r,Clo H a:=by intro r hr a ha;simp only[lB,bx,aQH]at hr;subst hr;rw[aQH]at ha;subst ha;simp
def pcE(t:ByteArray):dG:=[(0,sv t),(4,.ref 4 0 0 0)]
def lnE(t:ByteArray)(k:Nat):GEdit:=jR (B1 (vK (gQ t k))).data.toList
def IA(t:ByteArray)(k:Nat):List GEdit:=(List.range k).map (lnE t)
theorem aCp(t:ByteArray)(k:Nat):IA t (k+1)=IA t k++[lnE t k]:=by rw[IA,List.range_succ,List.map_append];rfl
theorem NC(t:ByteArray)(k:Nat):(IA t k).length=k:=by rw[IA,aQE,List.length_range]
theorem ND(t:ByteArray):IA t (hY t).length=(lI t.data.toList).map fun s=>jR (Lib.trimSuffix s [10]):=by
 refine List.ext_getElem? fun k=>?_;rw[IA,aQY,aQY];by_cases h:k<(hY t).length
 ·have h1:=(aIg h).1;rw[hY,aQY]at h1;cases e:(lI t.data.toList)[k]? with
  |none=>rw[e]at h1;cases h1
  |some w =>
   rw[e]at h1;have h1:ofY w=vK (gQ t k):=Option.some.inj h1;rw[List.getElem?_range h,Option.map_some,Option.map_some,lnE,<-h1,aEE,dI];congr 3
 have h2:(lI t.data.toList)[k]?=none:=by
  rw[hY,aQE]at h;exact List.getElem?_eq_none (by omega)
 rw[h2,List.getElem?_eq_none (by simpa using h)];rfl
def pcK(t s:ByteArray)(k:Nat):aH:=[(933,lB s),(905,⟨k,15,153,JV (IA t k)⟩),(4,bx 1 23 [.osl 905 k 0 k])]
theorem aIr{c:Ob}{K:aH}(j:Nat):aH.get ((904,b)::(933,a)::K) j=aH.get ((933,a)::(904,b)::(933,c)::K) j:=by
 by_cases h1:j=904
 ·subst h1;rfl
 by_cases h2:j=933
 ·subst h2;rfl
 rw[get_cons_other _ _ h1,get_cons_other _ _ h2,get_cons_other _ _ h2,get_cons_other _ _ h1,get_cons_other _ _ h2]
theorem YT(s:ByteArray):(B1 s).size<=s.size:=by
 rw[B1]
 split
 ·rw[<-bD,exL,aQS,aQT,bD];omega
 exact aQK _
theorem NE(s:ByteArray):(vK s).size<=s.size:=by
 rw[vK]
 split
 ·exact aQK _
 rw[<-bD,exL,aQS,aQT,bD];omega
theorem CG{t:ByteArray}{k:Nat}(h:k<=(hY t).length):(B1 (vK (gQ t k))).size<=t.size:=Nat.le_trans (YT _) (Nat.le_trans (NE _) (yR t k h).2)
theorem QX{w:List UInt8}(h:w.length<=n)(hn:n<4611686018427387904):(ofL w).size<4611686018427387904:=by rw[dH];omega
theorem aAM(hs:s.size<1099511627776):okO (sH s).1:=by
 rw[sH]
 split
 ·exact⟨by decide,⟨by decide,fun t h=>by cases h⟩,by decide,fun s hs=>by cases hs⟩
 split
 ·exact QS hs
 exact⟨by decide,⟨by decide,fun t h=>by cases h⟩,by decide,fun s hs=>by cases hs⟩
theorem zT:okO zObj:=⟨by decide,⟨by decide,fun t h=>by cases h⟩,by decide,fun s hs=>by cases hs⟩
theorem AO:([]:List ByteArray).length<4611686018427387904/\∀s∈([]:List ByteArray),s.size<4611686018427387904:=⟨by decide,fun s hs=>by cases hs⟩
theorem eL:sNil.size<4611686018427387904:=by decide
theorem RQ{s:List UInt8}(hs:s.length<=20000):M0 (jR s):=by
 have hw:∀i,(ofL ((fO 32 s).getD i [])).size<4611686018427387904:=fun i=>by
  refine QX (n:=20000) ?_ (by decide);rw[List.getD_eq_getElem?_getD];cases e:(fO 32 s)[i]? with
  |none=>exact aQV _
  |some w=>exact Nat.le_trans (uQ 32 (aQO e)) hs
 have hz:∀(op x y:Int),M0 ⟨op,sNil,sNil,sNil,x,y,sNil,sNil,[],zObj⟩:=fun op x y=>⟨⟨eL,eL,eL,eL⟩,AO,zT⟩;rw[jR,B5]
 split
 ·exact⟨⟨eL,eL,eL,eL⟩,AO,aAM (by rw[dH,aQT];omega)⟩
 split
 ·exact⟨⟨hw 1,eL,eL,eL⟩,AO,zT⟩
 split
 ·split
  ·exact⟨⟨hw 1,eL,eL,hw 2⟩,AO,zT⟩
  exact hz _ _ _
 split
 ·refine⟨⟨hw 1,eL,eL,eL⟩,⟨?_,fun x hx=>?_⟩,zT⟩
  ·show (List.map _ _).length<_;have:=List.count_le_length (l:=s) (a:=32);rw[aQE,aQT,uR];omega
  obtain ⟨w,hw2,rfl⟩:=List.mem_map.1 hx;exact QX (n:=20000) (Nat.le_trans (uQ 32 (List.mem_of_mem_drop hw2)) hs) (by decide)
 split
 ·exact⟨⟨hw 1,eL,eL,eL⟩,AO,zT⟩
 split
 ·exact⟨⟨hw 1,hw 3,hw 2,eL⟩,AO,zT⟩
 split
 ·exact⟨⟨hw 1,hw 2,eL,eL⟩,AO,zT⟩
 exact hz _ _ _
theorem IB:∀ {t:ByteArray} {n:Nat},t.size<=n->(hY t).length<=n
 |t,0,h=>by rw[zB (by omega)];exact aQK _
 | t,n+1,h=>by
  by_cases hp:0<t.size
  ·rw[(AT hp).1,aQG];refine Nat.succ_le_succ (IB (n:=n) ?_);rw[JO]
   split
   ·exact aQV _
   next h1 =>
   obtain ⟨w,r,e1,e2,e3,e4,e5,e6⟩:=aFa h1;rw[e3,aQP,<-szY,e5];omega
  rw[zB hp];exact aQV _
theorem aEn(t:ByteArray)(H:aH)(hs:t.size<1099511627776):aI Tryz.prog 50 [sv t] H (fun r H'=>r=.tup [.pv (iO (nE t).1),iv (nE t).2]/\H'=H):=by
 refine Pu ?_;rw[nE,<-ND];refine Bd func50 rfl ntmps50<|Sr<|Dd aM<|Dd aM<|Zz<|Sq<|Sr<|Dd aE<|Dd (kG underlying9)<|Dd iG<|Zz ?_;refine Cn ?_ ?_<;>intro hc1
 ·have h2:20000<t.size:=by have:=aQA hc1;omega
  rw[aQD h2];exact Sr<|Dd aM<|Dd aM<|Zz<|aB<|Ru<|Qq
 have h2:¬ 20000<t.size:=by have:=aQB hc1;omega
 rw[aQC h2];refine aC<|Sr<|Dd (by exact bU (id:=4) rfl aMT rfl rfl)<|Zz<|Sq<|Sr<|Dd aE<|Dd (by exact aA rfl rfl call115 rfl (aIf t _ rfl))<|Zz<|aF ?_;obtain ⟨n,hn⟩:∃n,n=(hY t).length:=⟨_,rfl⟩;have hnl:n<=20000:=by rw[hn];exact IB (by omega)
 refine gM.ent (E':=[(0,sv t),(4,.ref 4 0 0 0),(12,.clo 153 [.ref 933 0 0 0])]) (H':=[(905,⟨0,15,153,[]⟩),(933,lB t),(4,bx 1 23 [.osl 905 0 0 0])]) ?_ ?_
 ·exact(cX.nz 905 15 153 rfl rfl ⟨⟨_,rfl,(by exact Nz.same (by(simp;done)))⟩,⟨_,rfl,(by exact Nz.same (by(simp;rfl)))⟩,⟨_,rfl,(by exact Nz.same (by(simp;rfl)))⟩,trivial⟩ ⟨⟨_,rfl,rfl,rfl,rfl,(by exact .inl ⟨rfl,(by exact TT _ _)⟩)⟩,⟨_,rfl,rfl,rfl,rfl,(by exact .inr ⟨_,_,rfl,rfl,(by repeat(first|exact trivial|refine⟨(by exact Nz.own),?_⟩))⟩)⟩,trivial⟩ trivial)
 refine gM.ent (E':=[(0,sv t),(4,.ref 4 0 0 0),(12,.clo 153 [.ref 933 0 0 0])]) (H':=pcK t t 0) (cX.wk (Eb<|Ea<|Ea<|trivial) (Hc (TT _ _)<|Hc (IP _ _)<|Ha<|trivial) trivial) ?_;refine DN (id:=904) (p:=13) (pcE t) rfl call153 rfl rfl (by simp[pcE];exact⟨rfl,rfl⟩) ?_;intro x hx1 hx2 hx3 hx4 hx5 hx6;have hround:∀k,k<n->dN Tryz.prog (.yld 904 0) [sv (vK (gQ t k))] ((904,LR x (pcE t))::pcK t (gQ t (k+1)) k) (fun r H'=>r=bv true/\H'=(904,LR x (pcE t))::pcK t (gQ t (k+1)) (k+1)):=by
  intro k hk;have hnx:=aCp t k;have hll:=NC t k;have hls:=CG (t:=t) (k:=k) (by omega);have hla:(vK (gQ t k)).size<=t.size:=Nat.le_trans (NE _) (yR t k (by omega)).2;refine .inl ⟨904,0,rfl,?_⟩;refine SF [(0,sv t),(4,.ref 4 0 0 0),(5,sv (vK (gQ t k)))] (pcK t (gQ t (k+1)) k) hx1 hx2 hx3 hx4 hx5 hx6 rfl rfl rfl ?_ ?_
  ·refine Rg<|Da ?_;exact(cX.wk (Eb<|Ea<|Eb<|trivial) (Hc (lQ (by simp[pcE];rfl))<|Hc (TT _ _)<|Hc (IP _ _)<|Ha<|trivial) ⟨rfl,rfl,rfl,rfl,trivial⟩)
  refine aF<|aO follows<|Cs (fun _ h=>lh iR h)<|Cs (fun _ _=>aE)<|Cs (fun H1 hH=>by exact aA rfl rfl call117 rfl (YS (vK (gQ t k)) _ (by omega)))<|Cs (fun H1 hH=>by exact aA rfl rfl call116 rfl (aHr (B1 (vK (gQ t k))) _ (by omega)))<|Cs (fun H1 hH=>by exact aQ [bA (lnE t k)] rfl SQ rfl rfl rfl rfl rfl (by intro r hr;rw[aQH]at hr;subst hr;rfl)) ?_;refine bL (r:=⟨_,none,[_]⟩) (DStep.plain rfl (fun H1 hH=>by exact cJ (ps:=[bA (lnE t k)]) rfl SQ aNh rfl ((hH _ rfl).trans rfl) rfl rfl rfl ((aDJ _).trans hll) rfl (by intro r hr;rw[aQH]at hr;subst hr;rfl) (m:=1) rfl (by omega) rfl (aDK (IA t k) (lnE t k)))) rfl ?_;refine bL (r:=⟨_,none,[_]⟩) (DStep.plain rfl (fun H1 hH=>by exact(by exact cO rfl sizeOf23 rfl rfl rfl rfl ((hH _ rfl).trans rfl) rfl rfl rfl))) rfl ?_;refine bM<|Kr ?_;exact⟨[(933,lB (gQ t (k+1))),(905,⟨k+1,15,153,JV (IA t k++[lnE t k])⟩),(4,bx 1 23 [.osl 905 (k+1) 0 (k+1)])],(cX.wk trivial (Hc (lQ (by simp[pcE];rfl))<|Hc (TT _ _)<|Hc (IP _ _)<|Ha<|trivial) ⟨rfl,rfl,rfl,rfl,trivial⟩),rfl,by rw[<-hnx];rfl⟩
 refine(aFZ t (.yld 904 0) (fun k=>(904,LR x (pcE t))::pcK t (gQ t k) k) hs (fun k=>rfl) (fun k hk=>?_)).mono ?_
 ·exact dN.congrG (hround k (by omega)) (fun j=>aIr j) (fun j=>rfl)
 rintro r H' ⟨rfl,rfl⟩;refine⟨x,_,rfl,by rw[hx1];decide,rfl,fun z=>?_⟩;rw[hx2];obtain ⟨L,hL⟩:∃L,L=IA t n:=⟨_,rfl⟩;have hLl:L.length=n:=by rw[hL];exact NC t n
 rw[<-hn,<-hL];have hok:∀e∈L,M0 e:=fun e he=>by
  rw[hL,IA]at he;obtain ⟨k,hk,rfl⟩:=List.mem_map.1 he;have:=CG (t:=t) (k:=k) (by have:=List.mem_range.1 hk;omega);exact RQ (by rw[bD];omega)
 refine Sq<|Sq ?_;refine gM.ent (cX.fzG (id:=905) (E':=[(0,sv t),(4,.ref 4 0 0 0)]) (H':=[(4,bx 1 23 [.pv (iO L)])]) (L.map bA) rfl (by rw[hL];exact FT bA _) ?_ rfl ?_ ?_) ?_
 ·intro p hp;simp only[aQQ,aQU,or_false]at hp;rcases hp with rfl|rfl<;>exact⟨_,rfl,.same (by simp;try rfl)⟩
 ·exact⟨⟨_,rfl,rfl,rfl,rfl,oD rfl (dF (.osl (by rw[<-hLl];exact uM bA L)) oO)⟩,trivial⟩
 ·exact trivial
 refine Rg<|Dd (bF iR)<|Dd (by exact aA rfl rfl call118 rfl (aAo L _ (by omega) hok))<|Dd aE<|Dd fG<|Dd fG<|Dd aM<|Dd aM<|Zz<|Sq ?_;refine aY (t:=31) (n:=8) (X:=!decide ((eZ L).2=0)||!decide ((eZ L).1=t)) ?_ ?_
 ·all_goals refine Dd aE ?_
  all_goals refine Dd wM<|Dm ?_
  all_goals refine Sp 27 (fun h27=>?_) fun h27=>?_
  all_goals try contradiction
  all_goals first|refine Fo<|Fo<|Fo ?_|refine On aE<|On aE<|On JI ?_
  all_goals refine Dd cH<|Zz ?_
  all_goals(exact⟨⟨_,rfl,by(simp_all;done)⟩,rfl,rfl,rfl⟩)
 refine Cn ?_ ?_<;>intro hc2
 ·have hne:eZ L≠(t,0):=fun e=>by have h:=hc2;rw[e]at h;simp at h
  rw[aQC hne];exact Sr<|Dd aM<|Dd aM<|Zz<|aB<|Ru<|Qq
 have hee:eZ L=(t,0):=by have h:=hc2;simp only[aQ0,Bool.not_eq_false',aQL]at h;exact Prod.ext h.2 h.1
 rw[aQD hee];exact aC<|Sr<|Dd (bF iR)<|Dd aM<|Dd aM<|Zz<|aB<|Ru<|Qq
end Go.Proofs.YtmdicgjnmfolfaaGreatDoor
namespace Go.Proofs.YtmdicgjnmfolfaaGreatDoor
open Go.Proofs.Tryz
open Go.Abs Go.Lib
variable{α:Type}{l q t:List UInt8}{s:GSeal}
theorem ZL(t:ByteArray):∀e∈(nE t).1,M0 e:=by
 intro e he;rw[nE]at he
 split at he
 ·cases he
 next hs =>
 split at he
 ·have he:e∈(lI t.data.toList).map fun s=>jR (Lib.trimSuffix s [10]):=he;rw[<-ND,IA]at he;obtain ⟨k,hk,rfl⟩:=List.mem_map.1 he;have:=CG (t:=t) (k:=k) (by have:=List.mem_range.1 hk;omega);exact RQ (by rw[bD];omega)
 cases he
theorem WI(t:ByteArray):(nE t).1.length<=20000:=by
 rw[nE]
 split
 ·exact aQV _
 next hs =>
 split
 ·show ((lI t.data.toList).map fun s=>jR (Lib.trimSuffix s [10])).length<=_;rw[<-ND,NC];exact IB (by omega)
 exact aQV _
def HO{α:Type}(f:List UInt8->Option (α×List UInt8))(d:α)(l:List UInt8):α×List UInt8:=(f l).getD (d,l)
def p0(t:List UInt8):=HO jF sNil t
def p1(t:List UInt8):=HO oN 0 (p0 t).2
def p2(t:List UInt8):=HO oN 0 (p1 t).2
def p3(t:List UInt8):=HO oN 0 (p2 t).2
def p4(t:List UInt8):=HO oN 0 (p3 t).2
def p5(t:List UInt8):=HO jF sNil (p4 t).2
def p6(t:List UInt8):=HO (wP jF) [] (p5 t).2
def p7(t:List UInt8):=HO jF sNil (p6 t).2
def p8(t:List UInt8):=HO jF sNil (p7 t).2
def p9(t:List UInt8):=HO jF sNil (p8 t).2
def O2(t:List UInt8):=HO oN 0 (p9 t).2
def O1(t:List UInt8):=HO jF sNil (O2 t).2
def O0(t:List UInt8):=HO SU zS (O1 t).2
def OZ(t:List UInt8):=HO jF sNil (O0 t).2
def OY(t:List UInt8):=HO jF sNil (OZ t).2
def OX(t:List UInt8):=HO (wP jF) [] (OY t).2
def OW(t:List UInt8):=HO (wP HR) [] (OX t).2
def p17(t:List UInt8):=HO SU zS (OW t).2
def PD:ByteArray:=⟨#[49]⟩
def FV(t:List UInt8):GRec:=⟨(p1 t).1,(p2 t).1,(p3 t).1,(p4 t).1,(p5 t).1,(p6 t).1,(nE (p7 t).1).1,(p8 t).1,decide ((p9 t).1=PD),(O2 t).1,(O1 t).1,(O0 t).1,⟨(OZ t).1,(OY t).1,(OX t).1,(OW t).1,(p17 t).1⟩⟩
def TK(t:List UInt8):List Bool:=[(jF t).isSome,(oN (p0 t).2).isSome,(oN (p1 t).2).isSome,(oN (p2 t).2).isSome,(oN (p3 t).2).isSome,(jF (p4 t).2).isSome,((wP jF) (p5 t).2).isSome,(jF (p6 t).2).isSome,(jF (p7 t).2).isSome,(jF (p8 t).2).isSome,(oN (p9 t).2).isSome,(jF (O2 t).2).isSome,(SU (O1 t).2).isSome,(jF (O0 t).2).isSome,(jF (OZ t).2).isSome,((wP jF) (OY t).2).isSome,((wP HR) (OX t).2).isSome,(SU (OW t).2).isSome]
def tY(t:List UInt8):Bool:=(TK t).all id
def kO(t:List UInt8):GRec×Int:=if 20000<t.length then(zR,2)else if tY t=true/\jO (FV t)=(ofL t,0)then(FV t,0)else(zR,5)
theorem kA{f:List UInt8->Option (α×List UInt8)}{d:α}{e:α->AV}:((f l).map fun p=>(e p.1,p.2)).getD (e d,l)=(e (HO f d l).1,(HO f d l).2):=by rw[HO];cases f l<;>rfl
theorem mW{f:List UInt8->Option (α×List UInt8)}{d:α}(h:∀p q,f l=some (p,q)->q.length<l.length):(HO f d l).2.length<=l.length:=by
 rw[HO];cases e:f l with
 |none=>exact aQK _
 |some p=>exact Nat.le_of_lt (h p.1 p.2 e)
theorem SS(h:SU l=some (s,q)):q.length<l.length/\rV s.idx/\(s.sig.length<=l.length/\∀x∈s.sig,x.size<=l.length)/\(s.path.length<=l.length/\∀x∈s.path,x.size<=l.length):=by
 rw[SU]at h;cases hn:oN l with
 |none=>rw[hn]at h;cases h
 | some p =>
  obtain ⟨i,r⟩:=p;have h1:=jA hn;rw[hn]at h;simp only at h;cases ha:wP jF r with
  |none=>rw[ha]at h;cases h
  | some p =>
   obtain ⟨a,r2⟩:=p;have h2:=xB ha;rw[ha]at h;simp only at h;cases hb:wP jF r2 with
   |none=>rw[hb]at h;cases h
   |some p =>
    obtain ⟨b,r3⟩:=p;have h3:=xB hb;rw[hb]at h;cases h;exact⟨by omega,h1.2,⟨by show a.length<=_;omega,fun x hx=>by have:=h2.2 x hx;omega⟩,by show b.length<=_;omega,fun x hx=>by have:=h3.2 x hx;omega⟩
theorem tM{f:List UInt8->Option (α×List UInt8)}{d:α}(Q:α->Prop)(hd:Q d)(h:∀p q,f l=some (p,q)->Q p):Q (HO f d l).1:=by
 rw[HO];cases e:f l with
 |none=>exact hd
 |some p=>exact h p.1 p.2 e
theorem aEy(t:List UInt8):(p0 t).2.length<=t.length:=mW (fun p q h=>by have:=kC h;omega)
theorem aEw(t:List UInt8):(p1 t).2.length<=t.length:=Nat.le_trans (mW (fun p q h=>(jA h).1)) (aEy t)
theorem aEv(t:List UInt8):(p2 t).2.length<=t.length:=Nat.le_trans (mW (fun p q h=>(jA h).1)) (aEw t)
theorem aEu(t:List UInt8):(p3 t).2.length<=t.length:=Nat.le_trans (mW (fun p q h=>(jA h).1)) (aEv t)
theorem ZS(t:List UInt8):(p4 t).2.length<=t.length:=Nat.le_trans (mW (fun p q h=>(jA h).1)) (aEu t)
theorem ZR(t:List UInt8):(p5 t).2.length<=t.length:=Nat.le_trans (mW (fun p q h=>by have:=kC h;omega)) (ZS t)
theorem ZQ(t:List UInt8):(p6 t).2.length<=t.length:=Nat.le_trans (mW (fun p q h=>by have:=(xB h).1;omega)) (ZR t)
theorem ZP(t:List UInt8):(p7 t).2.length<=t.length:=Nat.le_trans (mW (fun p q h=>by have:=kC h;omega)) (ZQ t)
theorem aEt(t:List UInt8):(p8 t).2.length<=t.length:=Nat.le_trans (mW (fun p q h=>by have:=kC h;omega)) (ZP t)
theorem aEs(t:List UInt8):(p9 t).2.length<=t.length:=Nat.le_trans (mW (fun p q h=>by have:=kC h;omega)) (aEt t)
theorem TE(t:List UInt8):(O2 t).2.length<=t.length:=Nat.le_trans (mW (fun p q h=>(jA h).1)) (aEs t)
theorem TD(t:List UInt8):(O1 t).2.length<=t.length:=Nat.le_trans (mW (fun p q h=>by have:=kC h;omega)) (TE t)
theorem TC(t:List UInt8):(O0 t).2.length<=t.length:=Nat.le_trans (mW (fun p q h=>(SS h).1)) (TD t)
theorem TB(t:List UInt8):(OZ t).2.length<=t.length:=Nat.le_trans (mW (fun p q h=>by have:=kC h;omega)) (TC t)
theorem TA(t:List UInt8):(OY t).2.length<=t.length:=Nat.le_trans (mW (fun p q h=>by have:=kC h;omega)) (TB t)
theorem S9(t:List UInt8):(OX t).2.length<=t.length:=Nat.le_trans (mW (fun p q h=>by have:=(xB h).1;omega)) (TA t)
theorem S8(t:List UInt8):(OW t).2.length<=t.length:=Nat.le_trans (mW (fun p q h=>by have:=(aBV h).1;omega)) (S9 t)
theorem aIJ(t:List UInt8):(p17 t).2.length<=t.length:=Nat.le_trans (mW (fun p q h=>(SS h).1)) (S8 t)
theorem aEQ{n:Nat}(h:SU l=some (s,q))(hn:l.length<=n):rV s.idx/\(s.sig.length<=n/\∀x∈s.sig,x.size<=n)/\(s.path.length<=n/\∀x∈s.path,x.size<=n):=by obtain ⟨_,h1,h2,h3⟩:=SS h;exact⟨h1,⟨by omega,fun x hx=>by have:=h2.2 x hx;omega⟩,by omega,fun x hx=>by have:=h3.2 x hx;omega⟩
theorem aM3(t:List UInt8):rV zS.idx/\(zS.sig.length<=t.length/\∀x∈zS.sig,x.size<=t.length)/\(zS.path.length<=t.length/\∀x∈zS.path,x.size<=t.length):=by simp[zS,rV]
theorem aNL(t:List UInt8):(rV) (p1 t).1:=by unfold p1;exact tM (f:=oN) (d:=0) (l:=(p0 t).2) (rV) (⟨by decide,by decide⟩) (fun p q h=>(jA h).2)
theorem aNJ(t:List UInt8):(rV) (p2 t).1:=by unfold p2;exact tM (f:=oN) (d:=0) (l:=(p1 t).2) (rV) (⟨by decide,by decide⟩) (fun p q h=>(jA h).2)
theorem aNH(t:List UInt8):(rV) (p3 t).1:=by unfold p3;exact tM (f:=oN) (d:=0) (l:=(p2 t).2) (rV) (⟨by decide,by decide⟩) (fun p q h=>(jA h).2)
theorem aNF(t:List UInt8):(rV) (p4 t).1:=by unfold p4;exact tM (f:=oN) (d:=0) (l:=(p3 t).2) (rV) (⟨by decide,by decide⟩) (fun p q h=>(jA h).2)
theorem aND(t:List UInt8):(fun s:ByteArray=>s.size<=t.length) (p5 t).1:=by unfold p5;exact tM (f:=jF) (d:=sNil) (l:=(p4 t).2) (fun s:ByteArray=>s.size<=t.length) ((aQV _)) (fun p q h=>by have:=kC h;have:=ZS t;omega)
theorem aNB(t:List UInt8):(fun l:List ByteArray=>l.length<=t.length/\∀x∈l,x.size<=t.length) (p6 t).1:=by unfold p6;exact tM (f:=(wP jF)) (d:=[]) (l:=(p5 t).2) (fun l:List ByteArray=>l.length<=t.length/\∀x∈l,x.size<=t.length) (⟨aQV _,by simp⟩) (fun p q h=>by have h1:=xB h;have h2:=ZR t;exact⟨by omega,fun x hx=>by have:=h1.2 x hx;omega⟩)
theorem aMz(t:List UInt8):(fun s:ByteArray=>s.size<=t.length) (p7 t).1:=by unfold p7;exact tM (f:=jF) (d:=sNil) (l:=(p6 t).2) (fun s:ByteArray=>s.size<=t.length) ((aQV _)) (fun p q h=>by have:=kC h;have:=ZQ t;omega)
theorem aMx(t:List UInt8):(fun s:ByteArray=>s.size<=t.length) (p8 t).1:=by unfold p8;exact tM (f:=jF) (d:=sNil) (l:=(p7 t).2) (fun s:ByteArray=>s.size<=t.length) ((aQV _)) (fun p q h=>by have:=kC h;have:=ZP t;omega)
theorem aLG(t:List UInt8):(rV) (O2 t).1:=by unfold O2;exact tM (f:=oN) (d:=0) (l:=(p9 t).2) (rV) (⟨by decide,by decide⟩) (fun p q h=>(jA h).2)
theorem aLE(t:List UInt8):(fun s:ByteArray=>s.size<=t.length) (O1 t).1:=by unfold O1;exact tM (f:=jF) (d:=sNil) (l:=(O2 t).2) (fun s:ByteArray=>s.size<=t.length) ((aQV _)) (fun p q h=>by have:=kC h;have:=TE t;omega)
theorem aLC(t:List UInt8):(fun s:GSeal=>rV s.idx/\(s.sig.length<=t.length/\∀x∈s.sig,x.size<=t.length)/\(s.path.length<=t.length/\∀x∈s.path,x.size<=t.length)) (O0 t).1:=by unfold O0;exact tM (f:=SU) (d:=zS) (l:=(O1 t).2) (fun s:GSeal=>rV s.idx/\(s.sig.length<=t.length/\∀x∈s.sig,x.size<=t.length)/\(s.path.length<=t.length/\∀x∈s.path,x.size<=t.length)) (aM3 t) (fun p q h=>aEQ h (TD t))
theorem aLA(t:List UInt8):(fun s:ByteArray=>s.size<=t.length) (OZ t).1:=by unfold OZ;exact tM (f:=jF) (d:=sNil) (l:=(O0 t).2) (fun s:ByteArray=>s.size<=t.length) ((aQV _)) (fun p q h=>by have:=kC h;have:=TC t;omega)
theorem aKy(t:List UInt8):(fun s:ByteArray=>s.size<=t.length) (OY t).1:=by unfold OY;exact tM (f:=jF) (d:=sNil) (l:=(OZ t).2) (fun s:ByteArray=>s.size<=t.length) ((aQV _)) (fun p q h=>by have:=kC h;have:=TB t;omega)
theorem aKw(t:List UInt8):(fun l:List ByteArray=>l.length<=t.length/\∀x∈l,x.size<=t.length) (OX t).1:=by unfold OX;exact tM (f:=(wP jF)) (d:=[]) (l:=(OY t).2) (fun l:List ByteArray=>l.length<=t.length/\∀x∈l,x.size<=t.length) (⟨aQV _,by simp⟩) (fun p q h=>by have h1:=xB h;have h2:=TA t;exact⟨by omega,fun x hx=>by have:=h1.2 x hx;omega⟩)
theorem aKu(t:List UInt8):(fun l:List (Int×Int)=>l.length<=t.length/\∀q∈l,rV q.1/\rV q.2) (OW t).1:=by unfold OW;exact tM (f:=(wP HR)) (d:=[]) (l:=(OX t).2) (fun l:List (Int×Int)=>l.length<=t.length/\∀q∈l,rV q.1/\rV q.2) (⟨aQV _,by simp⟩) (fun p q h=>by have h1:=aBV h;have h2:=S9 t;exact⟨by omega,h1.2⟩)
theorem aKs(t:List UInt8):(fun s:GSeal=>rV s.idx/\(s.sig.length<=t.length/\∀x∈s.sig,x.size<=t.length)/\(s.path.length<=t.length/\∀x∈s.path,x.size<=t.length)) (p17 t).1:=by unfold p17;exact tM (f:=SU) (d:=zS) (l:=(OW t).2) (fun s:GSeal=>rV s.idx/\(s.sig.length<=t.length/\∀x∈s.sig,x.size<=t.length)/\(s.path.length<=t.length/\∀x∈s.path,x.size<=t.length)) (aM3 t) (fun p q h=>aEQ h (S8 t))
theorem aKf{N:Nat}(hN:N<=20000){k a n c od:Int}{br ta fr nm rs:ByteArray}{pa so:List ByteArray}{ed:List GEdit}{ye:Bool}{sl ps:GSeal}{tr:List (Int×Int)}(h1:rV k)(h2:rV a)(h3:rV n)(h4:rV c)(h10:rV od)(h5:br.size<=N)(h8:ta.size<=N)(h11:fr.size<=N)(h13:nm.size<=N)(h14:rs.size<=N)
  (h6:pa.length<=N/\∀x∈pa,x.size<=N) (h15:so.length<=N/\∀x∈so,x.size<=N) (h16:tr.length<=N/\∀q∈tr,rV q.1/\rV q.2) (he:ed.length<=20000) (he2:∀e∈ed,M0 e)
  (h12:rV sl.idx/\(sl.sig.length<=N/\∀x∈sl.sig,x.size<=N)/\(sl.path.length<=N/\∀x∈sl.path,x.size<=N)) (h17:rV ps.idx/\(ps.sig.length<=N/\∀x∈ps.sig,x.size<=N)/\(ps.path.length<=N/\∀x∈ps.path,x.size<=N)) :
  fR ⟨k,a,n,c,br,pa,ed,ta,ye,od,fr,sl,⟨nm,rs,so,tr,ps⟩⟩/\pa.length<549755813888:=by
 have hL:∀ {l:List ByteArray},(l.length<=N/\∀x∈l,x.size<=N)->J2 l:=fun h=>⟨by omega,fun x hx=>by have:=h.2 x hx;omega⟩;obtain ⟨s1,s2,s3⟩:=h12;obtain ⟨q1,q2,q3⟩:=h17;exact⟨⟨⟨h1,h2,h3,h4,h10⟩,⟨by show br.size<_;omega,by show ta.size<_;omega,by show fr.size<_;omega⟩,hL h6,⟨by show ed.length<_;omega,he2⟩,⟨s1,hL s2,hL s3⟩,by show nm.size<_;omega,by show rs.size<_;omega,hL h15,by show tr.length<_;have:=h16.1;omega,q1,hL q2,hL q3⟩,by have:=h6.1;omega⟩
theorem aE5(ht:t.length<=20000):fR (FV t)/\(FV t).parents.length<549755813888 :=aKf ht (aNL t) (aNJ t) (aNH t) (aNF t) (aLG t) (aND t) (aMx t) (aLE t) (aLA t) (aKy t) (aNB t) (aKw t) (aKu t) (WI _) (ZL _) (aLC t) (aKs t)
theorem eK{β:Type}{o:Option α}{g:α->β}:(o.map g=none↔o.isSome=false)/\((o.map g).isSome=o.isSome):=by cases o<;>simp
theorem mX{b:Bool}(h:b∈TK t)(hb:b=false):tY t=false:=by rw[tY,List.all_eq_false];exact⟨b,h,by rw[hb];decide⟩
theorem aOp(t:List UInt8):(BQ t).getD (sv sNil,t)=(sv (p0 t).1,(p0 t).2):=by unfold p0 BQ;exact kA (f:=jF) (d:=sNil) (l:=t) (e:=fun v=>sv v)
theorem aNV(t:List UInt8)(h:BQ t=none):tY t=false:=mX (b:=(jF t).isSome) (List.mem_of_getElem? (i:=0) rfl) (eK.1.1 h)
theorem aOo(t:List UInt8):(yJ (p0 t).2).getD (iv 0,(p0 t).2)=(iv (p1 t).1,(p1 t).2):=by unfold p1 yJ;exact kA (f:=oN) (d:=0) (l:=(p0 t).2) (e:=fun v=>iv v)
theorem aNM(t:List UInt8)(h:yJ (p0 t).2=none):tY t=false:=mX (b:=(oN (p0 t).2).isSome) (List.mem_of_getElem? (i:=1) rfl) (eK.1.1 h)
theorem aOn(t:List UInt8):(yJ (p1 t).2).getD (iv 0,(p1 t).2)=(iv (p2 t).1,(p2 t).2):=by unfold p2 yJ;exact kA (f:=oN) (d:=0) (l:=(p1 t).2) (e:=fun v=>iv v)
theorem aNK(t:List UInt8)(h:yJ (p1 t).2=none):tY t=false:=mX (b:=(oN (p1 t).2).isSome) (List.mem_of_getElem? (i:=2) rfl) (eK.1.1 h)
theorem aOm(t:List UInt8):(yJ (p2 t).2).getD (iv 0,(p2 t).2)=(iv (p3 t).1,(p3 t).2):=by unfold p3 yJ;exact kA (f:=oN) (d:=0) (l:=(p2 t).2) (e:=fun v=>iv v)
theorem aNI(t:List UInt8)(h:yJ (p2 t).2=none):tY t=false:=mX (b:=(oN (p2 t).2).isSome) (List.mem_of_getElem? (i:=3) rfl) (eK.1.1 h)
theorem aOl(t:List UInt8):(yJ (p3 t).2).getD (iv 0,(p3 t).2)=(iv (p4 t).1,(p4 t).2):=by unfold p4 yJ;exact kA (f:=oN) (d:=0) (l:=(p3 t).2) (e:=fun v=>iv v)
theorem aNG(t:List UInt8)(h:yJ (p3 t).2=none):tY t=false:=mX (b:=(oN (p3 t).2).isSome) (List.mem_of_getElem? (i:=4) rfl) (eK.1.1 h)
theorem aOk(t:List UInt8):(BQ (p4 t).2).getD (sv sNil,(p4 t).2)=(sv (p5 t).1,(p5 t).2):=by unfold p5 BQ;exact kA (f:=jF) (d:=sNil) (l:=(p4 t).2) (e:=fun v=>sv v)
theorem aNE(t:List UInt8)(h:BQ (p4 t).2=none):tY t=false:=mX (b:=(jF (p4 t).2).isSome) (List.mem_of_getElem? (i:=5) rfl) (eK.1.1 h)
theorem aOj(t:List UInt8):(liA (p5 t).2).getD (.pv (aZ []),(p5 t).2)=(.pv (aZ (p6 t).1),(p6 t).2):=by unfold p6 liA;exact kA (f:=(wP jF)) (d:=[]) (l:=(p5 t).2) (e:=fun v=>.pv (aZ v))
theorem aNC(t:List UInt8)(h:liA (p5 t).2=none):tY t=false:=mX (b:=((wP jF) (p5 t).2).isSome) (List.mem_of_getElem? (i:=6) rfl) (eK.1.1 h)
theorem aOi(t:List UInt8):(BQ (p6 t).2).getD (sv sNil,(p6 t).2)=(sv (p7 t).1,(p7 t).2):=by unfold p7 BQ;exact kA (f:=jF) (d:=sNil) (l:=(p6 t).2) (e:=fun v=>sv v)
theorem aNA(t:List UInt8)(h:BQ (p6 t).2=none):tY t=false:=mX (b:=(jF (p6 t).2).isSome) (List.mem_of_getElem? (i:=7) rfl) (eK.1.1 h)
theorem aOh(t:List UInt8):(BQ (p7 t).2).getD (sv sNil,(p7 t).2)=(sv (p8 t).1,(p8 t).2):=by unfold p8 BQ;exact kA (f:=jF) (d:=sNil) (l:=(p7 t).2) (e:=fun v=>sv v)
theorem aMy(t:List UInt8)(h:BQ (p7 t).2=none):tY t=false:=mX (b:=(jF (p7 t).2).isSome) (List.mem_of_getElem? (i:=8) rfl) (eK.1.1 h)
theorem aOg(t:List UInt8):(BQ (p8 t).2).getD (sv sNil,(p8 t).2)=(sv (p9 t).1,(p9 t).2):=by unfold p9 BQ;exact kA (f:=jF) (d:=sNil) (l:=(p8 t).2) (e:=fun v=>sv v)
theorem aMw(t:List UInt8)(h:BQ (p8 t).2=none):tY t=false:=mX (b:=(jF (p8 t).2).isSome) (List.mem_of_getElem? (i:=9) rfl) (eK.1.1 h)
theorem aNU(t:List UInt8):(yJ (p9 t).2).getD (iv 0,(p9 t).2)=(iv (O2 t).1,(O2 t).2):=by unfold O2 yJ;exact kA (f:=oN) (d:=0) (l:=(p9 t).2) (e:=fun v=>iv v)
theorem aLH(t:List UInt8)(h:yJ (p9 t).2=none):tY t=false:=mX (b:=(oN (p9 t).2).isSome) (List.mem_of_getElem? (i:=10) rfl) (eK.1.1 h)
theorem aNT(t:List UInt8):(BQ (O2 t).2).getD (sv sNil,(O2 t).2)=(sv (O1 t).1,(O1 t).2):=by unfold O1 BQ;exact kA (f:=jF) (d:=sNil) (l:=(O2 t).2) (e:=fun v=>sv v)
theorem aLF(t:List UInt8)(h:BQ (O2 t).2=none):tY t=false:=mX (b:=(jF (O2 t).2).isSome) (List.mem_of_getElem? (i:=11) rfl) (eK.1.1 h)
theorem aNS(t:List UInt8):(slA (O1 t).2).getD (av (fZ zS),(O1 t).2)=(av (fZ (O0 t).1),(O0 t).2):=by unfold O0 slA;exact kA (f:=SU) (d:=zS) (l:=(O1 t).2) (e:=fun v=>av (fZ v))
theorem aLD(t:List UInt8)(h:slA (O1 t).2=none):tY t=false:=mX (b:=(SU (O1 t).2).isSome) (List.mem_of_getElem? (i:=12) rfl) (eK.1.1 h)
theorem aNR(t:List UInt8):(BQ (O0 t).2).getD (sv sNil,(O0 t).2)=(sv (OZ t).1,(OZ t).2):=by unfold OZ BQ;exact kA (f:=jF) (d:=sNil) (l:=(O0 t).2) (e:=fun v=>sv v)
theorem aLB(t:List UInt8)(h:BQ (O0 t).2=none):tY t=false:=mX (b:=(jF (O0 t).2).isSome) (List.mem_of_getElem? (i:=13) rfl) (eK.1.1 h)
theorem aNQ(t:List UInt8):(BQ (OZ t).2).getD (sv sNil,(OZ t).2)=(sv (OY t).1,(OY t).2):=by unfold OY BQ;exact kA (f:=jF) (d:=sNil) (l:=(OZ t).2) (e:=fun v=>sv v)
theorem aKz(t:List UInt8)(h:BQ (OZ t).2=none):tY t=false:=mX (b:=(jF (OZ t).2).isSome) (List.mem_of_getElem? (i:=14) rfl) (eK.1.1 h)
theorem aNP(t:List UInt8):(liA (OY t).2).getD (.pv (aZ []),(OY t).2)=(.pv (aZ (OX t).1),(OX t).2):=by unfold OX liA;exact kA (f:=(wP jF)) (d:=[]) (l:=(OY t).2) (e:=fun v=>.pv (aZ v))
theorem aKx(t:List UInt8)(h:liA (OY t).2=none):tY t=false:=mX (b:=((wP jF) (OY t).2).isSome) (List.mem_of_getElem? (i:=15) rfl) (eK.1.1 h)
theorem aNO(t:List UInt8):(TS (OX t).2).getD (.pv (sN []),(OX t).2)=(.pv (sN (OW t).1),(OW t).2):=by unfold OW TS;exact kA (f:=(wP HR)) (d:=[]) (l:=(OX t).2) (e:=fun v=>.pv (sN v))
theorem aKv(t:List UInt8)(h:TS (OX t).2=none):tY t=false:=mX (b:=((wP HR) (OX t).2).isSome) (List.mem_of_getElem? (i:=16) rfl) (eK.1.1 h)
theorem aNN(t:List UInt8):(slA (OW t).2).getD (av (fZ zS),(OW t).2)=(av (fZ (p17 t).1),(p17 t).2):=by unfold p17 slA;exact kA (f:=SU) (d:=zS) (l:=(OW t).2) (e:=fun v=>av (fZ v))
theorem aKt(t:List UInt8)(h:slA (OW t).2=none):tY t=false:=mX (b:=(SU (OW t).2).isSome) (List.mem_of_getElem? (i:=17) rfl) (eK.1.1 h)
theorem aIU(t:List UInt8)(h0:(BQ t).isSome=true)(h1:(yJ (p0 t).2).isSome=true)(h2:(yJ (p1 t).2).isSome=true)(h3:(yJ (p2 t).2).isSome=true)(h4:(yJ (p3 t).2).isSome=true)(h5:(BQ (p4 t).2).isSome=true)(h6:(liA (p5 t).2).isSome=true)(h7:(BQ (p6 t).2).isSome=true)(h8:(BQ (p7 t).2).isSome=true)(h9:(BQ (p8 t).2).isSome=true)(h10:(yJ (p9 t).2).isSome=true)(h11:(BQ (O2 t).2).isSome=true)(h12:(slA (O1 t).2).isSome=true)(h13:(BQ (O0 t).2).isSome=true)(h14:(BQ (OZ t).2).isSome=true)(h15:(liA (OY t).2).isSome=true)(h16:(TS (OX t).2).isSome=true)(h17:(slA (OW t).2).isSome=true):tY t=true:=by unfold tY TK;simp only[List.all_cons,List.all_nil,id,Bool.and_true,aQN];exact⟨eK.2▸h0,eK.2▸h1,eK.2▸h2,eK.2▸h3,eK.2▸h4,eK.2▸h5,eK.2▸h6,eK.2▸h7,eK.2▸h8,eK.2▸h9,eK.2▸h10,eK.2▸h11,eK.2▸h12,eK.2▸h13,eK.2▸h14,eK.2▸h15,eK.2▸h16,eK.2▸h17⟩
end Go.Proofs.YtmdicgjnmfolfaaGreatDoor
namespace Go.Proofs.YtmdicgjnmfolfaaGreatDoor
open Go.Proofs.Tryz
open Go.Abs
variable{t:List UInt8}{E1:dG}{H2:aH}{x:GRec}{e:Int}{o:Ob}
theorem UW.mono{P:Program}{F:FuncId}{args:List AV}{H:aH}{u:FrameMode}{K K':aH->Prop}(h:UW P F args H u K)(hk:∀H,K H->K' H):UW P F args H u K' :=fun I ι w vs h1 h2 h3=>(h I ι w vs h1 h2 h3).mono fun _ _ _ ⟨v,H',I',ι',e,s,q,r⟩=>⟨v,H',I',ι',e,s,hk _ q,r⟩
def PQ(t:List UInt8)(r:AV)(H:aH):Prop:=r=.tup [av (bS (kO t).1),iv (kO t).2]/\H=[]
abbrev dE:dG:=[(2,.ref 2 0 0 0),(3,.ref 3 0 0 0)]
theorem XT(x:GRec)(e:Int)(hg:kO t=(x,e)):∃r,(∀(a:Act) (w:World) (I:Nat->Prop) (ι:kY),Rel I ι (ZO x e) w->jL w I ι (ZO x e) dE a->∃v,(results f12 a.tmps).run Tryz.prog w=.ok v w/\VRel w I ι (ZO x e) v r)/\∃r' H3,Fin [] (ZO x e) r H3 r'/\PQ t r' H3 :=⟨.tup [av (bS x),iv e],aOd rfl (ZB aS aL) (gP rfl lN rfl rfl rfl rfl),_,[],Fin.wk (by simp[bS]) trivial trivial,by rw[PQ,hg];exact⟨rfl,rfl⟩⟩
theorem qD{ch:YG}(ht:¬ 20000<t.length)(hok:tY t=false)(he:ch=EQ)(h2:E1.get 2=some (.ref 2 0 0 0))(h3:E1.get 3=some (.ref 3 0 0 0))(s2:∃o,H2.get 2=some o/\lD o rAJ)(s3:∃o,H2.get 3=some o/\lD o eAJ):
  aBt Tryz.prog f12 [] (ZO zR 0) 46 dcJ (PQ t) (.panic ch) E1 H2:=by
 subst he;have hg:kO t=(zR,5):=by rw[kO,aQC ht,aQC (by rw[hok];rintro⟨h,_⟩;cases h)]
 refine⟨.panicking EQ,dE,pAJ,.inr ⟨EQ,rfl,rfl⟩,cX.toAny (fun u v hu=>?_) (fun id o' ho'=>?_) (fun id hi=>?_),UW.mono aKp fun H hH=>by subst hH;exact XT zR 5 hg⟩
 ·have hm:=gT hu;simp only[aQQ,aQU,or_false,Prod.mk.injEq]at hm;rcases hm with⟨rfl,rfl⟩|⟨rfl,rfl⟩
  ·exact⟨h2,by simp;rfl⟩
  exact⟨h3,by simp;rfl⟩
 ·have hm:=dZ ho';simp only[aQQ,aQU,or_false,Prod.mk.injEq]at hm;rcases hm with⟨rfl,rfl⟩|⟨rfl,rfl⟩
  ·obtain ⟨o,k1,k2⟩:=s3;exact⟨o,k1,k2,by simp⟩
  obtain ⟨o,k1,k2⟩:=s2;exact⟨o,k1,k2,by simp⟩
 by_cases e3:3=id
 ·subst e3;rfl
 by_cases e2:2=id
 ·subst e2;rfl
 simp[aH.get,kW e3,kW e2]at hi
theorem QR(hg:kO t=(x,e))(hE:cX (ZO zR 0) E1 H2 dE (ZO x e)):aBt Tryz.prog f12 [] (ZO zR 0) 46 dcJ (PQ t) .ret E1 H2 :=⟨.returning,dE,ZO x e,.inl ⟨.inr rfl,rfl⟩,hE,UW.mono (aKo x e) fun H hH=>by subst hH;exact XT x e hg⟩
theorem KP(h:lD (rOJ x) o):lD o rAJ:=⟨h.1.symm,h.2.1.symm,h.2.2.1.symm,h.2.2.2.symm⟩
theorem C3(h:lD (eOJ e) o):lD o eAJ:=⟨h.1.symm,h.2.1.symm,h.2.2.1.symm,h.2.2.2.symm⟩
theorem SX(x:GRec):lD (rOJ x) rAJ:=⟨rfl,rfl,rfl,rfl⟩
theorem SW(e:Int):lD (eOJ e) eAJ:=⟨rfl,rfl,rfl,rfl⟩
theorem WJ(t:List UInt8)(hts:t.length<1099511627776)(H:aH):aI Tryz.prog 12 [sv (ofL t)] H (fun r H'=>r=.tup [av (bS (kO t).1),iv (kO t).2]/\H'=H):=by
 refine aI.pure (show aI Tryz.prog 12 [sv (ofL t)] [] (PQ t)from ?_) (by simp) H;have hls:(ofL t).size=t.length:=dH t;refine aI.bodyD func12 rfl ntmps12 (aQR rfl) ?_;refine aBa ?_;refine Rg<|Dd (by exact bU (id:=2) rfl FF rfl rfl)<|Dd (by exact bU (id:=3) rfl aKR rfl rfl)<|Zz ?_;refine aBa ?_;refine Sr<|Dd aE<|Dd (kG underlying9)<|Dd iG<|Zz ?_;refine Cn ?_ ?_<;>intro hc1
 ·have hb:20000<t.length:=by have:=aQA hc1;omega
  have hg:kO t=(zR,2):=by rw[kO,aQD hb]
  refine Sr<|Dd (rJ J7)<|Uu (jN aL)<|Uu (jN sizeOf41)<|Zz<|aB ?_;refine mQ (H':=[]) (.inr rfl) rfl (eA rfl aS aL rfl rfl rfl (by simp only[Zl,encStr];rfl) rfl) (gP rfl lN rfl rfl rfl rfl) (Fin.wk (by simp[bS,OH]) trivial trivial) ?_;rw[PQ,hg];exact Qq
 have hb:¬ 20000<t.length:=by have:=aQB hc1;omega
 refine aC ?_;refine aDL (F:=46) (cs:=dcJ) rfl rfl rfl rfl rfl rfl rfl rfl rfl call46 ?_;refine gM.mono (Q:=aBt Tryz.prog f12 [] (ZO zR 0) 46 dcJ (PQ t)) ?_ (fun _ _ _ h=>h);have t0:=aOp t;have n0:=aNV t;have c0:=aEy t;have t1:=aOo t;have n1:=aNM t;have c1:=aEw t;have t2:=aOn t;have n2:=aNK t;have c2:=aEv t;have t3:=aOm t;have n3:=aNI t;have c3:=aEu t;have t4:=aOl t;have n4:=aNG t;have c4:=ZS t;have t5:=aOk t;have n5:=aNE t;have c5:=ZR t;have t6:=aOj t;have n6:=aNC t;have c6:=ZQ t;have t7:=aOi t;have n7:=aNA t;have c7:=ZP t;have t8:=aOh t;have n8:=aMy t;have c8:=aEt t;have t9:=aOg t;have n9:=aMw t;have c9:=aEs t;have t10:=aNU t;have n10:=aLH t;have c10:=TE t;have t11:=aNT t;have n11:=aLF t;have c11:=TD t;have t12:=aNS t;have n12:=aLD t;have c12:=TC t;have t13:=aNR t;have n13:=aLB t;have c13:=TB t;have t14:=aNQ t;have n14:=aKz t;have c14:=TA t;have t15:=aNP t;have n15:=aKx t;have c15:=S9 t;have t16:=aNO t;have n16:=aKv t;have c16:=S8 t;have t17:=aNN t;have n17:=aKt t;have c17:=aIJ t;have yes:=aIU t;have hok:=aE5 (t:=t) (by omega);have hread:FV t=⟨(p1 t).1,(p2 t).1,(p3 t).1,(p4 t).1,(p5 t).1,(p6 t).1,(nE (p7 t).1).1,(p8 t).1,decide ((p9 t).1=PD),(O2 t).1,(O1 t).1,(O0 t).1,⟨(OZ t).1,(OY t).1,(OX t).1,(OW t).1,(p17 t).1⟩⟩:=rfl;have s7:(p7 t).1.size<=t.length:=aMz t;have hg0:kO t=if tY t=true/\jO (FV t)=(ofL t,0)then(FV t,0)else(zR,5):=by rw[kO,aQC hb]
 rw[hread]at hok hg0;obtain ⟨V0,hV0⟩:∃v,v=(p0 t).1:=⟨_,rfl⟩;obtain ⟨L0,hL0⟩:∃v,v=(p0 t).2:=⟨_,rfl⟩;obtain ⟨V1,hV1⟩:∃v,v=(p1 t).1:=⟨_,rfl⟩;obtain ⟨L1,hL1⟩:∃v,v=(p1 t).2:=⟨_,rfl⟩;obtain ⟨V2,hV2⟩:∃v,v=(p2 t).1:=⟨_,rfl⟩;obtain ⟨L2,hL2⟩:∃v,v=(p2 t).2:=⟨_,rfl⟩;obtain ⟨V3,hV3⟩:∃v,v=(p3 t).1:=⟨_,rfl⟩;obtain ⟨L3,hL3⟩:∃v,v=(p3 t).2:=⟨_,rfl⟩;obtain ⟨V4,hV4⟩:∃v,v=(p4 t).1:=⟨_,rfl⟩;obtain ⟨L4,hL4⟩:∃v,v=(p4 t).2:=⟨_,rfl⟩;obtain ⟨V5,hV5⟩:∃v,v=(p5 t).1:=⟨_,rfl⟩;obtain ⟨L5,hL5⟩:∃v,v=(p5 t).2:=⟨_,rfl⟩;obtain ⟨V6,hV6⟩:∃v,v=(p6 t).1:=⟨_,rfl⟩;obtain ⟨L6,hL6⟩:∃v,v=(p6 t).2:=⟨_,rfl⟩;obtain ⟨V7,hV7⟩:∃v,v=(p7 t).1:=⟨_,rfl⟩;obtain ⟨L7,hL7⟩:∃v,v=(p7 t).2:=⟨_,rfl⟩;obtain ⟨V8,hV8⟩:∃v,v=(p8 t).1:=⟨_,rfl⟩;obtain ⟨L8,hL8⟩:∃v,v=(p8 t).2:=⟨_,rfl⟩;obtain ⟨V9,hV9⟩:∃v,v=(p9 t).1:=⟨_,rfl⟩;obtain ⟨L9,hL9⟩:∃v,v=(p9 t).2:=⟨_,rfl⟩;obtain ⟨V10,hV10⟩:∃v,v=(O2 t).1:=⟨_,rfl⟩;obtain ⟨L10,hL10⟩:∃v,v=(O2 t).2:=⟨_,rfl⟩;obtain ⟨V11,hV11⟩:∃v,v=(O1 t).1:=⟨_,rfl⟩;obtain ⟨L11,hL11⟩:∃v,v=(O1 t).2:=⟨_,rfl⟩;obtain ⟨V12,hV12⟩:∃v,v=(O0 t).1:=⟨_,rfl⟩;obtain ⟨L12,hL12⟩:∃v,v=(O0 t).2:=⟨_,rfl⟩;obtain ⟨V13,hV13⟩:∃v,v=(OZ t).1:=⟨_,rfl⟩;obtain ⟨L13,hL13⟩:∃v,v=(OZ t).2:=⟨_,rfl⟩;obtain ⟨V14,hV14⟩:∃v,v=(OY t).1:=⟨_,rfl⟩;obtain ⟨L14,hL14⟩:∃v,v=(OY t).2:=⟨_,rfl⟩;obtain ⟨V15,hV15⟩:∃v,v=(OX t).1:=⟨_,rfl⟩;obtain ⟨L15,hL15⟩:∃v,v=(OX t).2:=⟨_,rfl⟩;obtain ⟨V16,hV16⟩:∃v,v=(OW t).1:=⟨_,rfl⟩;obtain ⟨L16,hL16⟩:∃v,v=(OW t).2:=⟨_,rfl⟩;obtain ⟨V17,hV17⟩:∃v,v=(p17 t).1:=⟨_,rfl⟩;obtain ⟨L17,hL17⟩:∃v,v=(p17 t).2:=⟨_,rfl⟩;simp only[<-hV0,<-hL0,<-hV1,<-hL1,<-hV2,<-hL2,<-hV3,<-hL3,<-hV4,<-hL4,<-hV5,<-hL5,<-hV6,<-hL6,<-hV7,<-hL7,<-hV8,<-hL8,<-hV9,<-hL9,<-hV10,<-hL10,<-hV11,<-hL11,<-hV12,<-hL12,<-hV13,<-hL13,<-hV14,<-hL14,<-hV15,<-hL15,<-hV16,<-hL16,<-hV17,<-hL17]at t0 n0 c0 t1 n1 c1 t2 n2 c2 t3 n3 c3 t4 n4 c4 t5 n5 c5 t6 n6 c6 t7 n7 c7 t8 n8 c8 t9 n9 c9 t10 n10 c10 t11 n11 c11 t12 n12 c12 t13 n13 c13 t14 n14 c14 t15 n15 c15 t16 n16 c16 t17 n17 c17 yes hok hg0 s7;clear hread hV0 hL0 hV1 hL1 hV2 hL2 hV3 hL3 hV4 hL4 hV5 hL5 hV6 hL6 hV7 hL7 hV8 hL8 hV9 hL9 hV10 hL10 hV11 hL11 hV12 hL12 hV13 hL13 hV14 hL14 hV15 hL15 hV16 hL16 hV17 hL17;have hpc:=fun H=>aEn V7 H (by omega);obtain ⟨PE,hPE⟩:∃v,v=nE V7:=⟨_,rfl⟩;rw[<-hPE]at hpc hok hg0;clear hPE;obtain ⟨ED,EE⟩:=PE;simp only at hpc hok hg0;have htx:=fun H=>KJ ⟨V1,V2,V3,V4,V5,V6,ED,V8,decide (V9=PD),V10,V11,V12,⟨V13,V14,V15,V16,V17⟩⟩ hok.1 hok.2 H;obtain ⟨TX,hTX⟩:∃v,v=jO ⟨V1,V2,V3,V4,V5,V6,ED,V8,decide (V9=PD),V10,V11,V12,⟨V13,V14,V15,V16,V17⟩⟩:=⟨_,rfl⟩;rw[<-hTX]at htx hg0;clear hTX hok;refine Sr<|Dd aE<|Dd (rJ aPE)<|Dd (by exact cF (id:=980) rfl rfl rfl rfl rfl)<|Dd (by exact bU (id:=4) rfl aO0 rfl rfl)<|Uu (jN sizeOf82)<|Zz<|Sq ?_;refine gM.ent (E':=[(0,sv (ofL t)),(2,.ref 2 0 0 0),(3,.ref 3 0 0 0),(4,.ref 4 0 0 0)]) (H':=[(980,VX t),(4,inO),(3,eOJ 0),(2,rOJ zR)]) (cX.wk (Eb<|Ea<|Ea<|Ea<|trivial) (Hb<|Ha<|Hb<|Hb<|trivial) ⟨rfl,rfl,trivial⟩) ?_;refine gA ?_;refine hU rfl rfl rfl (by exact aK rfl eD rfl rfl rfl rfl rfl) ?_
 refine UJ rfl rfl rfl (by exact eF rfl rfl lU rfl (((xP t (by omega)).tot t0 rfl (fK _)).mono (PP':=fun ch H'=>tY t=false/\ch=EQ/\∃q,H'=lR q++_) (fun _ _ h=>h) (fun ch H' ⟨e,e2,e3⟩=>⟨n0 e,e2,e3⟩))) (fun ch H' h=>by obtain ⟨e,e2,q,rfl⟩:=h;exact qD hb e e2 rfl rfl ⟨_,rfl,SX _⟩ ⟨_,rfl,SW _⟩) (fun h16=>?_);refine K7 ?_;refine Sq ?_;refine gM.ent (E':=[(0,sv (ofL t)),(2,.ref 2 0 0 0),(3,.ref 3 0 0 0),(4,.ref 4 0 0 0)]) (H':=[(980,VX L0),(4,inO),(3,eOJ 0),(2,rOJ zR)]) (cX.wk (Eb<|Ea<|Ea<|Ea<|trivial) (Hb<|Ha<|Hb<|Hb<|trivial) ⟨rfl,rfl,trivial⟩) ?_;refine wD (fun ch H1 H2=>tY t=false/\ch=EQ/\∃q,H2=lR q++H1) [2,3] [2,3] [] rfl follows (fun ch E1 H1 H2 hts hsh hks ⟨e,e2,q,e3⟩=>by subst e3;obtain ⟨o2,k1,k2⟩:=hsh 2 (by simp) _ rfl;obtain ⟨o3,k3,k4⟩:=hsh 3 (by simp) _ rfl;exact qD hb e e2 ((hts 2 (by simp)).trans rfl) ((hts 3 (by simp)).trans rfl) ⟨o2,k1,KP k2⟩ ⟨o3,k3,C3 k4⟩) ?_;refine cP (r:=⟨_,some [4],[]⟩) (DStep.plain rfl (fun H1 hH=>by exact(by exact aK rfl eD rfl ((hH _ rfl).trans rfl) rfl rfl rfl))) rfl ?_;refine sW (r:=⟨_,some [980],lR L1⟩) (.pan rfl (fun H1 hH=>by exact eF rfl rfl iJ rfl (((mT L0 (by omega)).tot t1 ((hH 980 rfl).trans rfl) (fK _)).mono (PP':=fun ch H'=>tY t=false/\ch=EQ/\∃q,H'=lR q++_) (fun _ _ h=>h) (fun ch H' ⟨e,e2,e3⟩=>⟨n1 e,e2,e3⟩)))) rfl ?_;refine cP (r:=⟨_,some [4],[]⟩) (DStep.plain rfl (fun H1 hH=>by exact(by exact aK rfl eD rfl ((hH _ rfl).trans rfl) rfl rfl rfl))) rfl ?_;refine sW (r:=⟨_,some [980],lR L2⟩) (.pan rfl (fun H1 hH=>by exact eF rfl rfl iJ rfl (((mT L1 (by omega)).tot t2 ((hH 980 rfl).trans rfl) (fK _)).mono (PP':=fun ch H'=>tY t=false/\ch=EQ/\∃q,H'=lR q++_) (fun _ _ h=>h) (fun ch H' ⟨e,e2,e3⟩=>⟨n2 e,e2,e3⟩)))) rfl ?_;refine cP (r:=⟨_,some [4],[]⟩) (DStep.plain rfl (fun H1 hH=>by exact(by exact aK rfl eD rfl ((hH _ rfl).trans rfl) rfl rfl rfl))) rfl ?_;refine sW (r:=⟨_,some [980],lR L3⟩) (.pan rfl (fun H1 hH=>by exact eF rfl rfl iJ rfl (((mT L2 (by omega)).tot t3 ((hH 980 rfl).trans rfl) (fK _)).mono (PP':=fun ch H'=>tY t=false/\ch=EQ/\∃q,H'=lR q++_) (fun _ _ h=>h) (fun ch H' ⟨e,e2,e3⟩=>⟨n3 e,e2,e3⟩)))) rfl ?_;refine cP (r:=⟨_,some [4],[]⟩) (DStep.plain rfl (fun H1 hH=>by exact(by exact aK rfl eD rfl ((hH _ rfl).trans rfl) rfl rfl rfl))) rfl ?_;refine sW (r:=⟨_,some [980],lR L4⟩) (.pan rfl (fun H1 hH=>by exact eF rfl rfl iJ rfl (((mT L3 (by omega)).tot t4 ((hH 980 rfl).trans rfl) (fK _)).mono (PP':=fun ch H'=>tY t=false/\ch=EQ/\∃q,H'=lR q++_) (fun _ _ h=>h) (fun ch H' ⟨e,e2,e3⟩=>⟨n4 e,e2,e3⟩)))) rfl ?_;refine cP (r:=⟨_,some [2],[]⟩) (DStep.plain rfl (fun H1 hH=>by exact(by exact bP rfl lL rfl ((hH _ rfl).trans rfl) rfl rfl))) rfl ?_;refine cP (r:=⟨_,some [2],[_]⟩) (DStep.plain rfl (fun H1 hH=>by exact(by exact bG rfl sizeOf3 rfl rfl rfl ((hH _ rfl).trans rfl) rfl rfl (aQR rfl) rfl rfl))) rfl ?_;refine cP (r:=⟨_,some [2],[]⟩) (DStep.plain rfl (fun H1 hH=>by exact(by exact bP rfl tH rfl ((hH _ rfl).trans rfl) rfl rfl))) rfl ?_
 refine cP (r:=⟨_,some [2],[_]⟩) (DStep.plain rfl (fun H1 hH=>by exact(by exact bG rfl sizeOf3 rfl rfl rfl ((hH _ rfl).trans rfl) rfl rfl (aQR rfl) rfl rfl))) rfl ?_;refine cP (r:=⟨_,some [2],[]⟩) (DStep.plain rfl (fun H1 hH=>by exact(by exact bP rfl nX rfl ((hH _ rfl).trans rfl) rfl rfl))) rfl ?_;refine cP (r:=⟨_,some [2],[_]⟩) (DStep.plain rfl (fun H1 hH=>by exact(by exact bG rfl sizeOf3 rfl rfl rfl ((hH _ rfl).trans rfl) rfl rfl (aQR rfl) rfl rfl))) rfl ?_;refine cP (r:=⟨_,some [2],[]⟩) (DStep.plain rfl (fun H1 hH=>by exact(by exact bP rfl vV rfl ((hH _ rfl).trans rfl) rfl rfl))) rfl ?_;refine cP (r:=⟨_,some [2],[_]⟩) (DStep.plain rfl (fun H1 hH=>by exact(by exact bG rfl sizeOf3 rfl rfl rfl ((hH _ rfl).trans rfl) rfl rfl (aQR rfl) rfl rfl))) rfl ?_;refine GS ⟨⟨by kernel_rfl,by kernel_rfl,by kernel_rfl⟩,fun hF=>?_⟩;simp only[UV,true_and,and_true]at hF;refine Sq ?_;have f4:=hF;refine gM.ent (E':=[(0,sv (ofL t)),(2,.ref 2 0 0 0),(3,.ref 3 0 0 0),(4,.ref 4 0 0 0)]) (H':=[(980,VX L4),(4,inO),(3,eOJ 0),(2,rOJ ⟨V1,V2,V3,V4,sNil,[],[],sNil,false,0,sNil,zS,⟨sNil,sNil,[],[],zS⟩⟩)]) (cX.wk (Eb<|Ea<|Ea<|Ea<|trivial) (Hb<|Ha<|Hb<|Hb<|trivial) ⟨rfl,rfl,trivial⟩) ?_;refine wD (fun ch H1 H2=>tY t=false/\ch=EQ/\∃q,H2=lR q++H1) [2,3] [2,3] [] rfl follows (fun ch E1 H1 H2 hts hsh hks ⟨e,e2,q,e3⟩=>by subst e3;obtain ⟨o2,k1,k2⟩:=hsh 2 (by simp) _ rfl;obtain ⟨o3,k3,k4⟩:=hsh 3 (by simp) _ rfl;exact qD hb e e2 ((hts 2 (by simp)).trans rfl) ((hts 3 (by simp)).trans rfl) ⟨o2,k1,KP k2⟩ ⟨o3,k3,C3 k4⟩) ?_;refine cP (r:=⟨_,some [4],[]⟩) (DStep.plain rfl (fun H1 hH=>by exact(by exact aK rfl eD rfl ((hH _ rfl).trans rfl) rfl rfl rfl))) rfl ?_;refine sW (r:=⟨_,some [980],lR L5⟩) (.pan rfl (fun H1 hH=>by exact eF rfl rfl lU rfl (((xP L4 (by omega)).tot t5 ((hH 980 rfl).trans rfl) (fK _)).mono (PP':=fun ch H'=>tY t=false/\ch=EQ/\∃q,H'=lR q++_) (fun _ _ h=>h) (fun ch H' ⟨e,e2,e3⟩=>⟨n5 e,e2,e3⟩)))) rfl ?_;refine cP (r:=⟨_,some [4],[]⟩) (DStep.plain rfl (fun H1 hH=>by exact(by exact aK rfl eD rfl ((hH _ rfl).trans rfl) rfl rfl rfl))) rfl ?_;refine cP (r:=⟨_,some [4],[]⟩) (DStep.plain rfl (fun H1 hH=>by exact(by exact aK rfl eD rfl ((hH _ rfl).trans rfl) rfl rfl rfl))) rfl ?_;refine cP (r:=⟨_,some [],[]⟩) (DStep.plain rfl (fun H1 hH=>by exact nQ rfl rfl)) rfl ?_;refine sW (r:=⟨_,some [980],lR L6⟩) (.pan rfl (fun H1 hH=>by exact eF rfl rfl BV rfl (((TQ L5 (by omega)).tot t6 ((hH 980 rfl).trans rfl) (fK _)).mono (PP':=fun ch H'=>tY t=false/\ch=EQ/\∃q,H'=lR q++_) (fun _ _ h=>h) (fun ch H' ⟨e,e2,e3⟩=>⟨n6 e,e2,e3⟩)))) rfl ?_;refine cP (r:=⟨_,some [2],[]⟩) (DStep.plain rfl (fun H1 hH=>by exact(by exact bP rfl vU rfl ((hH _ rfl).trans rfl) rfl rfl))) rfl ?_;refine cP (r:=⟨_,some [2],[_]⟩) (DStep.plain rfl (fun H1 hH=>by exact(by exact bG rfl sizeOf9 rfl rfl rfl ((hH _ rfl).trans rfl) rfl rfl (aQR rfl) rfl rfl))) rfl ?_;refine cP (r:=⟨_,some [2],[]⟩) (DStep.plain rfl (fun H1 hH=>by exact(by exact bP rfl lK rfl ((hH _ rfl).trans rfl) rfl rfl))) rfl ?_
 refine cP (r:=⟨_,some [2],[_]⟩) (DStep.plain rfl (fun H1 hH=>by exact(by exact bG rfl sizeOf22 rfl rfl rfl ((hH _ rfl).trans rfl) rfl rfl (aQR rfl) rfl rfl))) rfl ?_;refine GS ⟨⟨by kernel_rfl,by kernel_rfl,by kernel_rfl⟩,fun hF=>?_⟩;simp only[UV,true_and,and_true]at hF;refine Sq ?_;have f6:=hF;refine gM.ent (E':=[(0,sv (ofL t)),(2,.ref 2 0 0 0),(3,.ref 3 0 0 0),(4,.ref 4 0 0 0)]) (H':=[(980,VX L6),(4,inO),(3,eOJ 0),(2,rOJ ⟨V1,V2,V3,V4,V5,V6,[],sNil,false,0,sNil,zS,⟨sNil,sNil,[],[],zS⟩⟩)]) (cX.wk (Eb<|Ea<|Ea<|Ea<|trivial) (Hb<|Ha<|Hb<|Hb<|trivial) ⟨rfl,rfl,trivial⟩) ?_;refine gA ?_;refine hU rfl rfl rfl (by exact aK rfl eD rfl rfl rfl rfl rfl) ?_;refine UJ rfl rfl rfl (by exact eF rfl rfl lU rfl (((xP L6 (by omega)).tot t7 rfl (fK _)).mono (PP':=fun ch H'=>tY t=false/\ch=EQ/\∃q,H'=lR q++_) (fun _ _ h=>h) (fun ch H' ⟨e,e2,e3⟩=>⟨n7 e,e2,e3⟩))) (fun ch H' h=>by obtain ⟨e,e2,q,rfl⟩:=h;exact qD hb e e2 rfl rfl ⟨_,rfl,SX _⟩ ⟨_,rfl,SW _⟩) (fun h39=>?_);refine hU rfl rfl rfl (by exact aA rfl rfl call50 rfl (hpc _)) ?_;refine hU rfl rfl rfl (by exact gC rfl rfl) ?_;refine hU rfl rfl rfl (by exact sQ rfl rfl rfl) ?_;refine hU rfl rfl rfl (by exact sQ rfl rfl rfl) ?_;refine hU rfl rfl rfl (by exact bP rfl vT rfl rfl rfl rfl) ?_;refine aGa rfl rfl (by exact bG rfl sizeOf23 rfl rfl rfl rfl rfl rfl (aQR rfl) rfl rfl) ?_;refine K7 ?_;refine Sq ?_;refine gM.ent (E':=[(0,sv (ofL t)),(2,.ref 2 0 0 0),(3,.ref 3 0 0 0),(4,.ref 4 0 0 0)]) (H':=[(980,VX L7),(4,inO),(3,eOJ 0),(2,rOJ ⟨V1,V2,V3,V4,V5,V6,ED,sNil,false,0,sNil,zS,⟨sNil,sNil,[],[],zS⟩⟩)]) (cX.wk (Eb<|Ea<|Ea<|Ea<|trivial) (Hb<|Ha<|Hb<|Hb<|trivial) ⟨rfl,rfl,trivial⟩) ?_;refine wD (fun ch H1 H2=>tY t=false/\ch=EQ/\∃q,H2=lR q++H1) [2,3] [2,3] [] rfl follows (fun ch E1 H1 H2 hts hsh hks ⟨e,e2,q,e3⟩=>by subst e3;obtain ⟨o2,k1,k2⟩:=hsh 2 (by simp) _ rfl;obtain ⟨o3,k3,k4⟩:=hsh 3 (by simp) _ rfl;exact qD hb e e2 ((hts 2 (by simp)).trans rfl) ((hts 3 (by simp)).trans rfl) ⟨o2,k1,KP k2⟩ ⟨o3,k3,C3 k4⟩) ?_;refine cP (r:=⟨_,some [4],[]⟩) (DStep.plain rfl (fun H1 hH=>by exact(by exact aK rfl eD rfl ((hH _ rfl).trans rfl) rfl rfl rfl))) rfl ?_;refine sW (r:=⟨_,some [980],lR L8⟩) (.pan rfl (fun H1 hH=>by exact eF rfl rfl lU rfl (((xP L7 (by omega)).tot t8 ((hH 980 rfl).trans rfl) (fK _)).mono (PP':=fun ch H'=>tY t=false/\ch=EQ/\∃q,H'=lR q++_) (fun _ _ h=>h) (fun ch H' ⟨e,e2,e3⟩=>⟨n8 e,e2,e3⟩)))) rfl ?_;refine cP (r:=⟨_,some [4],[]⟩) (DStep.plain rfl (fun H1 hH=>by exact(by exact aK rfl eD rfl ((hH _ rfl).trans rfl) rfl rfl rfl))) rfl ?_;refine sW (r:=⟨_,some [980],lR L9⟩) (.pan rfl (fun H1 hH=>by exact eF rfl rfl lU rfl (((xP L8 (by omega)).tot t9 ((hH 980 rfl).trans rfl) (fK _)).mono (PP':=fun ch H'=>tY t=false/\ch=EQ/\∃q,H'=lR q++_) (fun _ _ h=>h) (fun ch H' ⟨e,e2,e3⟩=>⟨n9 e,e2,e3⟩)))) rfl ?_;refine cP (r:=⟨_,some [],[]⟩) (DStep.plain rfl (fun H1 hH=>by exact F2 rfl rfl rfl)) rfl ?_;refine cP (r:=⟨_,some [4],[]⟩) (DStep.plain rfl (fun H1 hH=>by exact(by exact aK rfl eD rfl ((hH _ rfl).trans rfl) rfl rfl rfl))) rfl ?_
 refine sW (r:=⟨_,some [980],lR L10⟩) (.pan rfl (fun H1 hH=>by exact eF rfl rfl iJ rfl (((mT L9 (by omega)).tot t10 ((hH 980 rfl).trans rfl) (fK _)).mono (PP':=fun ch H'=>tY t=false/\ch=EQ/\∃q,H'=lR q++_) (fun _ _ h=>h) (fun ch H' ⟨e,e2,e3⟩=>⟨n10 e,e2,e3⟩)))) rfl ?_;refine cP (r:=⟨_,some [4],[]⟩) (DStep.plain rfl (fun H1 hH=>by exact(by exact aK rfl eD rfl ((hH _ rfl).trans rfl) rfl rfl rfl))) rfl ?_;refine sW (r:=⟨_,some [980],lR L11⟩) (.pan rfl (fun H1 hH=>by exact eF rfl rfl lU rfl (((xP L10 (by omega)).tot t11 ((hH 980 rfl).trans rfl) (fK _)).mono (PP':=fun ch H'=>tY t=false/\ch=EQ/\∃q,H'=lR q++_) (fun _ _ h=>h) (fun ch H' ⟨e,e2,e3⟩=>⟨n11 e,e2,e3⟩)))) rfl ?_;refine cP (r:=⟨_,some [2],[]⟩) (DStep.plain rfl (fun H1 hH=>by exact(by exact bP rfl vS rfl ((hH _ rfl).trans rfl) rfl rfl))) rfl ?_;refine cP (r:=⟨_,some [2],[_]⟩) (DStep.plain rfl (fun H1 hH=>by exact(by exact bG rfl sizeOf9 rfl rfl rfl ((hH _ rfl).trans rfl) rfl rfl (aQR rfl) rfl rfl))) rfl ?_;refine cP (r:=⟨_,some [2],[]⟩) (DStep.plain rfl (fun H1 hH=>by exact(by exact bP rfl CN rfl ((hH _ rfl).trans rfl) rfl rfl))) rfl ?_;refine cP (r:=⟨_,some [2],[_]⟩) (DStep.plain rfl (fun H1 hH=>by exact(by exact bG rfl sizeOf4 rfl rfl rfl ((hH _ rfl).trans rfl) rfl rfl (aQR rfl) rfl rfl))) rfl ?_;refine cP (r:=⟨_,some [2],[]⟩) (DStep.plain rfl (fun H1 hH=>by exact(by exact bP rfl tG rfl ((hH _ rfl).trans rfl) rfl rfl))) rfl ?_;refine cP (r:=⟨_,some [2],[_]⟩) (DStep.plain rfl (fun H1 hH=>by exact(by exact bG rfl sizeOf3 rfl rfl rfl ((hH _ rfl).trans rfl) rfl rfl (aQR rfl) rfl rfl))) rfl ?_;refine cP (r:=⟨_,some [2],[]⟩) (DStep.plain rfl (fun H1 hH=>by exact(by exact bP rfl rA rfl ((hH _ rfl).trans rfl) rfl rfl))) rfl ?_;refine cP (r:=⟨_,some [2],[_]⟩) (DStep.plain rfl (fun H1 hH=>by exact(by exact bG rfl sizeOf9 rfl rfl rfl ((hH _ rfl).trans rfl) rfl rfl (aQR rfl) rfl rfl))) rfl ?_;refine GS ⟨⟨by kernel_rfl,by kernel_rfl,by kernel_rfl⟩,fun hF=>?_⟩;simp only[UV,true_and,and_true]at hF;refine Sq ?_;have f11:=hF;refine gM.ent (E':=[(0,sv (ofL t)),(2,.ref 2 0 0 0),(3,.ref 3 0 0 0),(4,.ref 4 0 0 0)]) (H':=[(980,VX L11),(4,inO),(3,eOJ 0),(2,rOJ ⟨V1,V2,V3,V4,V5,V6,ED,V8,decide (V9=PD),V10,V11,zS,⟨sNil,sNil,[],[],zS⟩⟩)]) (cX.wk (Eb<|Ea<|Ea<|Ea<|trivial) (Hb<|Ha<|Hb<|Hb<|trivial) ⟨rfl,rfl,trivial⟩) ?_;refine gA ?_;refine hU rfl rfl rfl (by exact aK rfl eD rfl rfl rfl rfl rfl) ?_;refine UJ rfl rfl rfl (by exact eF rfl rfl call51 rfl (((aBA L11 (by omega)).tot t12 rfl (fK _)).mono (PP':=fun ch H'=>tY t=false/\ch=EQ/\∃q,H'=lR q++_) (fun _ _ h=>h) (fun ch H' ⟨e,e2,e3⟩=>⟨n12 e,e2,e3⟩))) (fun ch H' h=>by obtain ⟨e,e2,q,rfl⟩:=h;exact qD hb e e2 rfl rfl ⟨_,rfl,SX _⟩ ⟨_,rfl,SW _⟩) (fun h58=>?_);refine hU rfl rfl rfl (by exact bP rfl kQ rfl rfl rfl rfl) ?_;refine aGa rfl rfl (by exact iY rfl sizeOf25 rfl rfl rfl rfl rfl rfl rfl (aQR rfl) rfl rfl) ?_;refine K7 ?_;refine Sq ?_
 refine gM.ent (E':=[(0,sv (ofL t)),(2,.ref 2 0 0 0),(3,.ref 3 0 0 0),(4,.ref 4 0 0 0)]) (H':=[(980,VX L12),(4,inO),(3,eOJ 0),(2,rOJ ⟨V1,V2,V3,V4,V5,V6,ED,V8,decide (V9=PD),V10,V11,V12,⟨sNil,sNil,[],[],zS⟩⟩)]) (cX.wk (Eb<|Ea<|Ea<|Ea<|trivial) (Hb<|Ha<|Hb<|Hb<|trivial) ⟨rfl,rfl,trivial⟩) ?_;refine wD (fun ch H1 H2=>tY t=false/\ch=EQ/\∃q,H2=lR q++H1) [2,3] [2,3] [] rfl follows (fun ch E1 H1 H2 hts hsh hks ⟨e,e2,q,e3⟩=>by subst e3;obtain ⟨o2,k1,k2⟩:=hsh 2 (by simp) _ rfl;obtain ⟨o3,k3,k4⟩:=hsh 3 (by simp) _ rfl;exact qD hb e e2 ((hts 2 (by simp)).trans rfl) ((hts 3 (by simp)).trans rfl) ⟨o2,k1,KP k2⟩ ⟨o3,k3,C3 k4⟩) ?_;refine cP (r:=⟨_,some [4],[]⟩) (DStep.plain rfl (fun H1 hH=>by exact(by exact aK rfl eD rfl ((hH _ rfl).trans rfl) rfl rfl rfl))) rfl ?_;refine sW (r:=⟨_,some [980],lR L13⟩) (.pan rfl (fun H1 hH=>by exact eF rfl rfl lU rfl (((xP L12 (by omega)).tot t13 ((hH 980 rfl).trans rfl) (fK _)).mono (PP':=fun ch H'=>tY t=false/\ch=EQ/\∃q,H'=lR q++_) (fun _ _ h=>h) (fun ch H' ⟨e,e2,e3⟩=>⟨n13 e,e2,e3⟩)))) rfl ?_;refine cP (r:=⟨_,some [4],[]⟩) (DStep.plain rfl (fun H1 hH=>by exact(by exact aK rfl eD rfl ((hH _ rfl).trans rfl) rfl rfl rfl))) rfl ?_;refine sW (r:=⟨_,some [980],lR L14⟩) (.pan rfl (fun H1 hH=>by exact eF rfl rfl lU rfl (((xP L13 (by omega)).tot t14 ((hH 980 rfl).trans rfl) (fK _)).mono (PP':=fun ch H'=>tY t=false/\ch=EQ/\∃q,H'=lR q++_) (fun _ _ h=>h) (fun ch H' ⟨e,e2,e3⟩=>⟨n14 e,e2,e3⟩)))) rfl ?_;refine cP (r:=⟨_,some [4],[]⟩) (DStep.plain rfl (fun H1 hH=>by exact(by exact aK rfl eD rfl ((hH _ rfl).trans rfl) rfl rfl rfl))) rfl ?_;refine cP (r:=⟨_,some [4],[]⟩) (DStep.plain rfl (fun H1 hH=>by exact(by exact aK rfl eD rfl ((hH _ rfl).trans rfl) rfl rfl rfl))) rfl ?_;refine cP (r:=⟨_,some [],[]⟩) (DStep.plain rfl (fun H1 hH=>by exact nQ rfl rfl)) rfl ?_;refine sW (r:=⟨_,some [980],lR L15⟩) (.pan rfl (fun H1 hH=>by exact eF rfl rfl BV rfl (((TQ L14 (by omega)).tot t15 ((hH 980 rfl).trans rfl) (fK _)).mono (PP':=fun ch H'=>tY t=false/\ch=EQ/\∃q,H'=lR q++_) (fun _ _ h=>h) (fun ch H' ⟨e,e2,e3⟩=>⟨n15 e,e2,e3⟩)))) rfl ?_;refine cP (r:=⟨_,some [4],[]⟩) (DStep.plain rfl (fun H1 hH=>by exact(by exact aK rfl eD rfl ((hH _ rfl).trans rfl) rfl rfl rfl))) rfl ?_;refine cP (r:=⟨_,some [4],[]⟩) (DStep.plain rfl (fun H1 hH=>by exact gR rfl rfl)) rfl ?_;refine sW (r:=⟨_,some [980,4],lR L16⟩) (.pan rfl (fun H1 hH=>by exact eF rfl rfl call52 rfl (((aIe L15 (by omega)).tot t16 ((hH 980 rfl).trans rfl) (OS.sub ⟨(hH 4 rfl).trans rfl,trivial⟩)).mono (PP':=fun ch H'=>tY t=false/\ch=EQ/\∃q,H'=lR q++_) (fun _ _ h=>h) (fun ch H' ⟨e,e2,e3⟩=>⟨n16 e,e2,e3⟩)))) rfl ?_;refine cP (r:=⟨_,some [],[]⟩) (DStep.plain rfl (fun H1 hH=>by exact KD rfl aLv rfl rfl)) rfl ?_;refine cP (r:=⟨_,some [2],[]⟩) (DStep.plain rfl (fun H1 hH=>by exact(by exact bP rfl eS rfl ((hH _ rfl).trans rfl) rfl rfl))) rfl ?_;refine cP (r:=⟨_,some [2],[_]⟩) (DStep.plain rfl (fun H1 hH=>by exact(by exact iY rfl sizeOf28 rfl rfl rfl rfl ((hH _ rfl).trans rfl) rfl rfl (aQR rfl) rfl rfl))) rfl ?_
 refine GS ⟨⟨by kernel_rfl,by kernel_rfl,by kernel_rfl⟩,fun hF=>?_⟩;simp only[UV,true_and,and_true]at hF;refine Sq ?_;have f16:=hF;refine gM.ent (E':=[(0,sv (ofL t)),(2,.ref 2 0 0 0),(3,.ref 3 0 0 0),(4,.ref 4 0 0 0)]) (H':=[(980,VX L16),(4,inO),(3,eOJ 0),(2,rOJ ⟨V1,V2,V3,V4,V5,V6,ED,V8,decide (V9=PD),V10,V11,V12,⟨V13,V14,V15,V16,zS⟩⟩)]) (cX.wk (Eb<|Ea<|Ea<|Ea<|trivial) (Hb<|Ha<|Hb<|Hb<|trivial) ⟨rfl,rfl,trivial⟩) ?_;refine gA ?_;refine hU rfl rfl rfl (by exact aK rfl eD rfl rfl rfl rfl rfl) ?_;refine UJ rfl rfl rfl (by exact eF rfl rfl call51 rfl (((aBA L16 (by omega)).tot t17 rfl (fK _)).mono (PP':=fun ch H'=>tY t=false/\ch=EQ/\∃q,H'=lR q++_) (fun _ _ h=>h) (fun ch H' ⟨e,e2,e3⟩=>⟨n17 e,e2,e3⟩))) (fun ch H' h=>by obtain ⟨e,e2,q,rfl⟩:=h;exact qD hb e e2 rfl rfl ⟨_,rfl,SX _⟩ ⟨_,rfl,SW _⟩) (fun h74=>?_);refine hU rfl rfl rfl (by exact bP rfl eS rfl rfl rfl rfl) ?_;refine hU rfl rfl rfl (by exact bP rfl nA rfl rfl rfl rfl) ?_;refine aGa rfl rfl (by exact iY rfl sizeOf25 rfl rfl rfl rfl rfl rfl rfl (aQR rfl) rfl rfl) ?_;refine K7 ?_;refine Sq<|Sq ?_;refine gM.ent (E':=[(0,sv (ofL t)),(2,.ref 2 0 0 0),(3,.ref 3 0 0 0),(4,.ref 4 0 0 0)]) (H':=[(980,VX L17),(4,inO),(3,eOJ 0),(2,rOJ ⟨V1,V2,V3,V4,V5,V6,ED,V8,decide (V9=PD),V10,V11,V12,⟨V13,V14,V15,V16,V17⟩⟩)]) (cX.wk (Eb<|Ea<|Ea<|Ea<|trivial) (Hb<|Ha<|Hb<|Hb<|trivial) ⟨rfl,rfl,trivial⟩) ?_;have hokt:=yes h16 f4.1 f4.2.1 f4.2.2.1 f4.2.2.2 f6.1 f6.2 h39 f11.1 f11.2.1 f11.2.2.1 f11.2.2.2 h58 f16.1 f16.2.1 f16.2.2.1 f16.2.2.2 h74;have hg1:kO t=if TX=(ofL t,0)then(⟨V1,V2,V3,V4,V5,V6,ED,V8,decide (V9=PD),V10,V11,V12,⟨V13,V14,V15,V16,V17⟩⟩,0)else(zR,5):=by rw[hg0];by_cases e:TX=(ofL t,0);rw[aQD ⟨hokt,e⟩,aQD e];rw[aQC (fun h=>e h.2),aQC e]
 refine Rg<|Dd (mD aS aL)<|Dd (by exact aA rfl rfl aHG rfl (htx _))<|Dd aE<|Dd fG<|Dd fG<|Dd aM<|Dd aM<|Zz<|Sq ?_;refine aY (t:=88) (n:=8) (X:=!decide (TX.2=0)||!decide (TX.1=ofL t)) ?_ ?_
 ·all_goals refine Dd aE ?_
  all_goals refine Dd wM<|Dm ?_
  all_goals refine Sp 84 (fun h84=>?_) fun h84=>?_
  all_goals try contradiction
  all_goals first|refine Fo<|Fo<|Fo ?_|refine On aE<|On aE<|On JI ?_
  all_goals refine Dd cH<|Zz ?_
  all_goals(exact⟨⟨_,rfl,by(rw[h84];rfl)⟩,rfl,rfl,rfl⟩)
 refine Cn ?_ ?_<;>intro hc1
 ·have hne:TX≠(ofL t,0):=by have:=hc1;rintro rfl;simp at this
  refine Sr<|Dd (rJ J7)<|Uu (jN aL)<|Uu (jN sizeOf41)<|Zz<|aB ?_;exact QR (by rw[hg1,aQC hne]) (cX.wk (Ea<|Ea<|trivial) (Hb<|Hb<|trivial) ⟨rfl,rfl,trivial⟩)
 have heq:TX=(ofL t,0):=by have:=hc1;rw[aQ0,Bool.not_eq_false',Bool.not_eq_false',aQL,aQL]at this;exact Prod.ext this.2 this.1
 refine aC<|Sr<|Dd (mD aS aL)<|Uu (jN aL)<|Uu (jN sizeOf41)<|Zz<|aB ?_;exact QR (by rw[hg1,aQD heq]) (cX.wk (Ea<|Ea<|trivial) (Hb<|Hb<|trivial) ⟨rfl,rfl,trivial⟩)
end Go.Proofs.YtmdicgjnmfolfaaGreatDoor
namespace Go.Proofs.YtmdicgjnmfolfaaGreatDoor
open Go.Proofs.Tryz
open Go.Abs Go.Lib
theorem jZ{α:Type}{f:List UInt8->Option (α×List UInt8)}{d:α}{l:List UInt8}{p:α×List UInt8}(h:f l=some p):HO f d l=p:=by rw[HO,h];rfl
theorem aAQ{l:List GEdit}(h:(iT l).2=true):(nE (iT l).1).1=l:=by
 rw[iT]at h |-
 split at h
 ·next h0 =>
  rw[aQD h0,List.eq_nil_of_length_eq_zero h0]
  kernel_rfl
 next h0 =>
 rw[aQC h0];exact congrArg Prod.fst (JJ (aQA h))
theorem aDp(b:Bool):decide (aV (if b then 1 else 0)=PD)=b:=by cases b<;>kernel_rfl
def aH7(r:GRec):List ByteArray:=[]
def aH8(r:GRec):List ByteArray:=fI (.z r.priv.sl.idx r.priv.sl.sig r.priv.sl.path)++aH7 r
def aH9(r:GRec):List ByteArray:=fI (.p r.priv.trace)++aH8 r
def aHa(r:GRec):List ByteArray:=aV (r.priv.sources.length:Int)::(r.priv.sources++aH9 r)
def aHb(r:GRec):List ByteArray:=r.priv.reason::aHa r
def aHc(r:GRec):List ByteArray:=r.priv.name::aHb r
def aHd(r:GRec):List ByteArray:=fI (.z r.sl.idx r.sl.sig r.sl.path)++aHc r
def aHe(r:GRec):List ByteArray:=r.from'::aHd r
def aHf(r:GRec):List ByteArray:=aV r.order::aHe r
def sf9(r:GRec):List ByteArray:=(aV (if r.yes then 1 else 0))::aHf r
def sf8(r:GRec):List ByteArray:=r.target::sf9 r
def sf7(r:GRec):List ByteArray:=(iT r.edits).1::sf8 r
def sf6(r:GRec):List ByteArray:=aV (r.parents.length:Int)::(r.parents++sf7 r)
def sf5(r:GRec):List ByteArray:=r.branch::sf6 r
def sf4(r:GRec):List ByteArray:=aV r.clock::sf5 r
def sf3(r:GRec):List ByteArray:=aV r.number::sf4 r
def sf2(r:GRec):List ByteArray:=aV r.author::sf3 r
def sf1(r:GRec):List ByteArray:=aV r.kind::sf2 r
def sf0(r:GRec):List ByteArray:=VU::sf1 r
theorem aLz(r:GRec):pD r=sf0 r:=by simp[pD,mA,rN,FY,FO,fI,sf0,sf1,sf2,sf3,sf4,sf5,sf6,sf7,sf8,sf9,aHf,aHe,aHd,aHc,aHb,aHa,aH9,aH8,aH7]
theorem aC0{r:GRec}(h:VF r):tY (aP (pD r))=true/\FV (aP (pD r))=r:=by
 have hk:=DD h.k;have hau:=h.au;have hnu:=h.nu;have hcl:=h.cl;have hod:=h.order;have hpl:=h.pal;have hsl:=jS h.sl;have hps:=jS h.psl;have s0:=hsl.i0;have s1:=hsl.i1;have s2:=hsl.sl;have s3:=hsl.pl;have z0:=hps.i0;have z1:=hps.i1;have z2:=hps.sl;have z3:=hps.pl;have hso:=h.sol;have htr:=h.trl;have hbr:=H7 h.br;have htx:=LO h.tx;have hta:=h.target;have hfr:=h.from
 have hnm:=h.nm;have hrs:=h.rs;have hJ:∀ {l:List ByteArray},(∀t∈l,isJ t=true)->∀t∈l,EJ t:=fun hl t ht=>Nat.lt_of_le_of_lt (qX (hl t ht)) (by decide);rw[aLz];obtain ⟨t,ht⟩:∃t,t=aP (sf0 r):=⟨_,rfl⟩;rw[<-ht];have f0:jF t=some (VU,aP (sf1 r)):=by rw[ht];exact kT _ (show VU.size<1000000000000000000 by decide)
 have q0:p0 t=(VU,aP (sf1 r)):=jZ f0;have f1:oN (p0 t).2=some (r.kind,aP (sf2 r)):=by rw[q0];exact kU _ (by omega) (by omega)
 have q1:p1 t=(r.kind,aP (sf2 r)):=jZ f1;have f2:oN (p1 t).2=some (r.author,aP (sf3 r)):=by rw[q1];exact kU _ (by omega) (by omega)
 have q2:p2 t=(r.author,aP (sf3 r)):=jZ f2;have f3:oN (p2 t).2=some (r.number,aP (sf4 r)):=by rw[q2];exact kU _ (by omega) (by omega)
 have q3:p3 t=(r.number,aP (sf4 r)):=jZ f3;have f4:oN (p3 t).2=some (r.clock,aP (sf5 r)):=by rw[q3];exact kU _ (by omega) (by omega)
 have q4:p4 t=(r.clock,aP (sf5 r)):=jZ f4;have f5:jF (p4 t).2=some (r.branch,aP (sf6 r)):=by rw[q4];exact kT _ (Nat.lt_of_le_of_lt hbr (by decide))
 have q5:p5 t=(r.branch,aP (sf6 r)):=jZ f5;have f6:(wP jF) (p5 t).2=some (r.parents,aP (sf7 r)):=by rw[q5];exact AU _ _ (hJ h.pa) (by omega)
 have q6:p6 t=(r.parents,aP (sf7 r)):=jZ f6;have f7:jF (p6 t).2=some ((iT r.edits).1,aP (sf8 r)):=by rw[q6];exact kT _ (Nat.lt_of_le_of_lt htx (by decide))
 have q7:p7 t=((iT r.edits).1,aP (sf8 r)):=jZ f7;have f8:jF (p7 t).2=some (r.target,aP (sf9 r)):=by rw[q7];exact kT _ (Nat.lt_of_le_of_lt hta (by decide))
 have q8:p8 t=(r.target,aP (sf9 r)):=jZ f8;have f9:jF (p8 t).2=some ((aV (if r.yes then 1 else 0)),aP (aHf r)):=by rw[q8];exact kT _ (JR (by split<;>decide) (by split<;>decide))
 have q9:p9 t=((aV (if r.yes then 1 else 0)),aP (aHf r)):=jZ f9;have f10:oN (p9 t).2=some (r.order,aP (aHe r)):=by rw[q9];exact kU _ (by omega) (by omega)
 have q10:O2 t=(r.order,aP (aHe r)):=jZ f10;have f11:jF (O2 t).2=some (r.from',aP (aHd r)):=by rw[q10];exact kT _ (Nat.lt_of_le_of_lt hfr (by decide))
 have q11:O1 t=(r.from',aP (aHd r)):=jZ f11;have f12:SU (O1 t).2=some (r.sl,aP (aHc r)):=by rw[q11];exact MD _ _ s0 (by omega) (hJ hsl.sa) (hJ hsl.pa) (by omega) (by omega)
 have q12:O0 t=(r.sl,aP (aHc r)):=jZ f12;have f13:jF (O0 t).2=some (r.priv.name,aP (aHb r)):=by rw[q12];exact kT _ (Nat.lt_of_le_of_lt hnm (by decide))
 have q13:OZ t=(r.priv.name,aP (aHb r)):=jZ f13;have f14:jF (OZ t).2=some (r.priv.reason,aP (aHa r)):=by rw[q13];exact kT _ (Nat.lt_of_le_of_lt hrs (by decide))
 have q14:OY t=(r.priv.reason,aP (aHa r)):=jZ f14;have f15:(wP jF) (OY t).2=some (r.priv.sources,aP (aH9 r)):=by rw[q14];exact AU _ _ (fun x hx=>Nat.lt_of_le_of_lt (h.so x hx) (by decide)) (by omega)
 have q15:OX t=(r.priv.sources,aP (aH9 r)):=jZ f15;have f16:(wP HR) (OX t).2=some (r.priv.trace,aP (aH8 r)):=by rw[q15];exact Z9 _ _ (fun q hq=>by obtain ⟨⟨a1,a2⟩,a3,a4⟩:=h.tr q hq;exact⟨⟨by omega,by omega⟩,by omega,by omega⟩) (by omega)
 have q16:OW t=(r.priv.trace,aP (aH8 r)):=jZ f16;have f17:SU (OW t).2=some (r.priv.sl,aP (aH7 r)):=by rw[q16];exact MD _ _ z0 (by omega) (hJ hps.sa) (hJ hps.pa) (by omega) (by omega)
 have q17:p17 t=(r.priv.sl,aP (aH7 r)):=jZ f17;constructor
 ·unfold tY TK;rw[f0,f1,f2,f3,f4,f5,f6,f7,f8,f9,f10,f11,f12,f13,f14,f15,f16,f17];rfl
 unfold FV;rw[q1,q2,q3,q4,q5,q6,q7,q8,q9,q10,q11,q12,q13,q14,q15,q16,q17,aAQ h.tx,aDp]
theorem MR{r:GRec}{t:List UInt8}(h:jO r=(ofL t,0)):kO t=(r,0):=by
 have h0:=h;rw[jO]at h;by_cases hv:eQ r=true
 ·rw[aQD hv]at h
  split at h
  ·cases h
  next hl =>
  have ht:t=aP (pD r):=by
   have:=congrArg (fun p:ByteArray×Int=>p.1.data.toList) h;simp only[dI]at this;exact this.symm
  obtain ⟨h1,h2⟩:=aC0 (lE hv);rw[<-ht]at h1 h2 hl;rw[kO,aQC hl,h2,aQD ⟨h1,h0⟩]
 rw[aQC hv]at h;cases h
end Go.Proofs.YtmdicgjnmfolfaaGreatDoor
namespace Go.Proofs.YtmdicgjnmfolfaaGreatDoor
open Go.Proofs.Tryz
open Go.Abs
variable{α:Type}{i:Nat}{a b:GEdit}
def aAY(e:GEdit):Bool:=((decide (300<IntKind.i64.wrap (IntKind.i64.wrap (IntKind.i64.wrap ((e.id.size:Int)+(e.other.size:Int))+(e.node.size:Int))+(e.key.size:Int)))||decide (600<(e.val.size:Int)))||decide (40<((e.refs.map encStr).length:Int)))||EB e.obj 40
def BL(e:GEdit):Bool:=aAY e||e.refs.any (BF 300)
def xU(l:List GEdit)(n:Int):Bool:=decide ((l.length:Int)<=n)&&!l.any BL
theorem aIv(l:List GEdit)(n:Int)(H:aH)(hl:l.length<4611686018427387904)(ho:∀e,e∈l->aJn e.obj/\e.refs.length<4611686018427387904):
  aI Tryz.prog 107 [.pv (iO l),iv n] H (fun r H'=>r=bv (xU l n)/\H'=H):=by
 refine Pu ?_;have hml:(l.map bA).length=l.length:=aQE _;have hB:xU l n=(decide (((l.map bA).length:Int)<=n)&&!l.any BL):=by rw[xU,hml]
 refine Bd func107 rfl ntmps107<|Sr<|Dd aM<|Zz<|Sq<|Sr<|Dd aM<|Zz<|aF ?_;refine bJ (σ:=Nat) (fun k=>([(0,.pv (iO l)),(1,iv n),(5,iv (k:Int))],[])) (fun k=>k<=l.length/\∀j,j<k->∀b,l[j]?=some b->BL b=false) (fun k=>l.length - k) 0 ⟨by omega,by omega⟩ ?_ ?_
 ·exact Wk
 rintro k ⟨hk,hno⟩;refine Sq<|Sq ?_;refine aY (t:=17) (n:=11) (X:=decide ((k:Int)<((l.map bA).length:Int))&&decide (((l.map bA).length:Int)<=n)) ?_ ?_
 ·all_goals refine Dd aE ?_
  all_goals refine Dd aE<|Dd (fM dB)<|Dd cW<|Dm ?_
  all_goals refine Sp 12 (fun h12=>?_) fun h12=>?_
  all_goals try contradiction
  all_goals first|refine Fo<|Fo<|Fo<|Fo ?_|refine On aE<|On (fM dB)<|On aE<|On G9 ?_
  all_goals refine Dd cH<|Zz ?_
  all_goals(exact⟨⟨_,rfl,by(rw[h12];rfl)⟩,rfl,rfl,rfl⟩)
 refine Cn ?_ ?_<;>intro hc1
 ·have h:=hc1;rw[aQN,aQL]at h;have hlt:k<l.length:=by have:=h.1;omega
  obtain ⟨e,hel⟩:=aU hlt;have hi:=cI (f:=bA) hel;obtain ⟨ho1,ho2⟩:=ho e (aQO hel);have hrl:(e.refs.map encStr).length=e.refs.length:=aQE _;obtain ⟨w,hw⟩:∃w,w=IntKind.i64.wrap (IntKind.i64.wrap (IntKind.i64.wrap ((e.id.size:Int)+(e.other.size:Int))+(e.node.size:Int))+(e.key.size:Int)):=⟨_,rfl⟩;have hbh:aAY e=(((decide (300<w)||decide (600<(e.val.size:Int)))||decide (40<((e.refs.map encStr).length:Int)))||!!EB e.obj 40):=by rw[aAY,<-hw,Bool.not_not]
  refine aC<|Sq<|aF<|Sr<|Dd aE<|Dd aE<|Dd (mR SQ)<|Dd (by exact dP rfl cE bC rfl (by omega) (by simp only[Zl,bQ,bW,encStr,bA,jT];rfl) rfl)<|Dd (by exact bU (id:=6) rfl PX rfl rfl)<|Uu (jN bC)<|Zz<|Sq<|Sq ?_;refine aY (t:=57) (n:=37) (X:=((decide (300<w)||decide (600<(e.val.size:Int)))||decide (40<((e.refs.map encStr).length:Int)))||!!EB e.obj 40) ?_ ?_
  ·all_goals refine Dd (aT gX) ?_
   all_goals refine Dd (bF isAgg9)<|Dd (kG underlying9)<|Dd (aT iC)<|Dd (bF isAgg9)<|Dd (kG underlying9)<|Dd (by exact cB rfl rfl rfl rfl)<|Dd (aT mH)<|Dd (bF isAgg9)<|Dd (kG underlying9)<|Dd (by exact cB rfl rfl rfl rfl)<|Dd (aT kD)<|Dd (bF isAgg9)<|Dd (kG underlying9)<|Dd (by exact cB rfl rfl rfl (hw.symm))<|Dd iG<|Dm ?_
   all_goals refine Sp 40 (fun h40=>?_) fun h40=>?_
   all_goals try contradiction
   all_goals first|refine Fo<|Fo<|Fo<|Fo ?_|refine On (aT kR)<|On (bF isAgg9)<|On (kG underlying9)<|On iG ?_
   all_goals refine Dd cH<|Dm ?_
   all_goals refine Sp 46 (fun h46=>?_) fun h46=>?_
   all_goals try contradiction
   all_goals first|refine Fo<|Fo<|Fo<|Fo ?_|refine On (aT eY)<|On (bF aG)<|On (fM aD)<|On iG ?_
   all_goals refine Dd cH<|Dm ?_
   all_goals refine Sp 52 (fun h52=>?_) fun h52=>?_
   all_goals try contradiction
   all_goals first|refine Fo<|Fo<|Fo<|Fo ?_|refine On (aT oG)<|On (mD dA sizeOf151)<|On (by exact aA rfl rfl call145 rfl (aIw e.obj 40 _ ho1))<|On iS ?_
   all_goals refine Dd cH<|Zz ?_
   all_goals(exact⟨⟨_,rfl,by first|(rw[h40];rfl)|(rw[h40,h46];rfl)|(rw[h40,h46,h52];rfl)⟩,rfl,rfl,rfl⟩)
  refine Cn ?_ ?_<;>intro hc2
  ·have hb:BL e=true:=by rw[BL,hbh,hc2];rfl
   have hf:xU l n=false:=by rw[xU,zN (p:=BL) hel hb];simp
   rw[hf];exact Sr<|Dd aM<|Zz<|aB<|Rt<|Qq
  refine aC<|Sr<|Dd aM<|Zz<|aF ?_;refine bJ (σ:=Nat) (fun q=>([(0,.pv (iO l)),(1,iv n),(5,iv (k:Int)),(6,.ref 6 0 0 0),(7,iv (q:Int))],[(6,bx 15 153 ((bA e).map .pv))])) (fun q=>q<=e.refs.length/\∀j,j<q->∀b,e.refs[j]?=some b->BF 300 b=false) (fun q=>e.refs.length - q) 0 ⟨by omega,by omega⟩ ?_ ?_
  ·exact Wk
  rintro q ⟨hq,hnr⟩;refine Sq<|Sr<|Dd aE<|Dd (aT eY)<|Dd (bF aG)<|Dd (fM aD)<|Dd cW<|Zz ?_;refine Cn ?_ ?_<;>intro hc3
  ·have hql:q<e.refs.length:=by have:=aQA hc3;omega
   obtain ⟨s,hs⟩:=aU hql;have hi2:=cI (f:=encStr) hs;refine aC<|Sq<|aF<|Sr<|Dd (aT eY)<|Dd (bF aG)<|Dd aE<|Dd (by exact bH rfl cC rfl rfl (by omega) (by exact aQP _) hi2 rfl)<|Dd (iN isAgg9)<|Dd (kG underlying9)<|Dd iG<|Zz ?_;refine Cn ?_ ?_<;>intro hc4
   ·have hb:BL e=true:=by rw[BL,zN (p:=BF 300) hs hc4,Bool.or_true]
    have hf:xU l n=false:=by rw[xU,zN (p:=BL) hel hb];simp
    rw[hf];exact Sr<|Dd aM<|Zz<|aB<|Rt<|Qq
   refine aC<|Rg<|Dd aE<|Dd mV<|Da ?_;exact⟨q+1,⟨by omega,vB (p:=BF 300) hnr hs hc4⟩,by omega,Wk⟩
  have hge:q=e.refs.length:=by have:=aQB hc3;omega
  subst hge;have hb:BL e=false:=by rw[BL,hbh,hc2,CY hnr];rfl
  refine aW<|Rg<|Dd aE<|Dd mV<|Da ?_;exact⟨k+1,⟨by omega,vB (p:=BL) hno hel hb⟩,by omega,Wk⟩
 refine aW<|Sr<|Dd aE<|Dd (fM dB)<|Dd aE<|Dd G9<|Dd aM<|Zz<|aB<|Rt ?_;refine⟨?_,rfl⟩;rw[hB];have h:=hc1;rw[Bool.and_eq_false_iff,aQM]at h;rcases h with h|h
 ·have hge:k=l.length:=by omega
  subst hge;rw[CY hno];simp
 rw[h];rfl
theorem GO{a b:List α}{n:Nat}(hl:a.length=b.length)(hn:n=a.length)(h:a.take n=b.take n):a=b:=by rw[List.take_of_length_le (by omega),List.take_of_length_le (by omega)]at h;exact h
theorem zZ{a b:List α}{x y:α}(h:a.take i=b.take i)(hx:a[i]?=some x)(hy:b[i]?=some y)(e:x=y):a.take (i+1)=b.take (i+1):=by rw[List.take_add_one,List.take_add_one,h,hx,hy,e]
theorem aBS{a b:List α}{x y:α}(hx:a[i]?=some x)(hy:b[i]?=some y)(e:x≠y):a≠b:=fun h=>by
 subst h;rw[hx]at hy;exact e (Option.some.inj hy)
theorem wS(a b:List ByteArray)(H:aH)(ha:a.length<4611686018427387904)(hb:b.length<4611686018427387904):aI Tryz.prog 88 [.pv (aZ a),.pv (aZ b)] H (fun r H'=>r=bv (decide (a=b))/\H'=H):=by
 refine Pu ?_;have hma:(a.map encStr).length=a.length:=aQE _;have hmb:(b.map encStr).length=b.length:=aQE _;refine Bd func88 rfl ntmps88<|Sr<|Dd aM<|Zz<|Sq<|Sr<|Dd aE<|Dd (fM aD)<|Dd aE<|Dd (fM aD)<|Dd wM<|Zz ?_;refine Cn ?_ ?_<;>intro hc1
 ·have hne:a≠b:=by have h:=hc1;intro e;subst e;simp at h
  rw[decide_eq_false hne];exact Sr<|Dd aM<|Zz<|aB<|Rt<|Qq
 have hl:a.length=b.length:=by have h:=hc1;simp only[Bool.not_eq_false',aQL]at h;omega
 refine aC<|Sq<|Sr<|Dd aM<|Zz<|aF ?_;refine bJ (σ:=Nat) (fun i=>([(0,.pv (aZ a)),(1,.pv (aZ b)),(5,iv (i:Int))],[])) (fun i=>i<=a.length/\a.take i=b.take i) (fun i=>a.length - i) 0 ⟨by omega,rfl⟩ ?_ ?_
 ·exact Wk
 rintro i ⟨hi,hp⟩;refine Sq<|Sr<|Dd aE<|Dd aE<|Dd (fM aD)<|Dd cW<|Zz ?_;refine Cn ?_ ?_<;>intro hc2
 ·have hil:i<a.length:=by have:=aQA hc2;omega
  obtain ⟨s,hs⟩:=aU hil;obtain ⟨u,hu⟩:=aU (show i<b.length by omega);have hi1:=cI (f:=encStr) hs;have hi2:=cI (f:=encStr) hu;refine aC<|Sq<|aF<|Sq<|aO follows<|Cq aE<|Cq aE<|Cq (by exact bH rfl cC rfl rfl (by omega) (by exact aQP _) hi1 rfl)<|Cq (iN isAgg9 (hi:=hi1))<|Cq aE<|Cq aE<|Cq (by exact bH rfl cC rfl rfl (by omega) (by exact aQP _) hi2 rfl)<|Cq (iN isAgg9 (hi:=hi2))<|Cq JI<|bM<|Kr ?_;refine Cn ?_ ?_<;>intro hc3
  ·have hne:s≠u:=by have h:=hc3;intro e;subst e;simp at h
   rw[decide_eq_false (aBS hs hu hne)];exact Sr<|Dd aM<|Zz<|aB<|Rt<|Qq
  have heq:s=u:=by have h:=hc3;simpa using h
  refine aC<|Rg<|Dd aE<|Dd (by exact cB rfl rfl rfl (show IntKind.i64.wrap ((i:Int)+1)=((i+1:Nat):Int)by rw[jM (by omega) (by omega)];omega))<|Da ?_;exact⟨i+1,⟨by omega,zZ hp hs hu heq⟩,by omega,Wk⟩
 have hge:i=a.length:=by have:=aQB hc2;omega
 rw[decide_eq_true (GO hl hge hp)];exact aW<|Sr<|Dd aM<|Zz<|aB<|Rt<|Qq
def WR(s:GSeal):Prop:=s.sig.length<4611686018427387904/\s.path.length<4611686018427387904
theorem WQ{s:GSeal}(h:pO s):WR s:=⟨by have:=h.2.1.1;omega,by have:=h.2.2.1;omega⟩
theorem MF(a b:GSeal)(H:aH)(ha:WR a)(hb:WR b):aI Tryz.prog 31 [av (fZ a),av (fZ b)] H (fun r H'=>r=bv (decide (a=b))/\H'=H):=by
 refine aI.pure ?_ (by simp[fZ]) H;have hs1:=fun H=>wS a.sig b.sig H ha.1 hb.1;have hs2:=fun H=>wS a.path b.path H ha.2 hb.2;have hX:decide (a=b)=((decide (a.idx=b.idx)&&decide (a.sig=b.sig))&&decide (a.path=b.path)):=by
  obtain ⟨a1,a2,a3⟩:=a;obtain ⟨b1,b2,b3⟩:=b;rw[Bool.eq_iff_iff];simp[and_assoc]
 rw[hX];refine Bd func31 rfl ntmps31<|Sr<|Dd (by exact cF (id:=2) rfl rfl rfl rfl rfl)<|Dd (by exact cF (id:=3) rfl rfl rfl rfl rfl)<|Dd aM<|Zz<|Sq ?_;refine aY (t:=4) (n:=22) (X:=(decide (a.idx=b.idx)&&decide (a.sig=b.sig))&&decide (a.path=b.path)) ?_ ?_
 ·all_goals refine Dd (aT lM) ?_
  all_goals refine Dd (bF isAgg3)<|Dd (aT lM)<|Dd (bF isAgg3)<|Dd cN<|Dm ?_
  all_goals refine Sp 10 (fun h10=>?_) fun h10=>?_
  all_goals try contradiction
  all_goals first|refine Fo<|Fo<|Fo<|Fo<|Fo ?_|refine On (aT iA)<|On (bF aG)<|On (aT iA)<|On (bF aG)<|On (by exact aA rfl rfl aHD rfl (hs1 _)) ?_
  all_goals refine Dd cH<|Dm ?_
  all_goals refine Sp 17 (fun h17=>?_) fun h17=>?_
  all_goals try contradiction
  all_goals first|refine Fo<|Fo<|Fo<|Fo<|Fo ?_|refine On (aT kV)<|On (bF aG)<|On (aT kV)<|On (bF aG)<|On (by exact aA rfl rfl aHD rfl (hs2 _)) ?_
  all_goals refine Dd cH<|Da ?_
  all_goals(exact⟨⟨_,rfl,by first|(rw[h10];rfl)|(rw[h10,h17];rfl)⟩,rfl,rfl,rfl⟩)
 exact aB<|Rt<|Qq
def MQ(a b:GPriv):Bool:=((decide (a.name=b.name)&&decide (a.reason=b.reason))&&decide (a.sources=b.sources))&&decide (a.trace=b.trace)
def aIF(a b:GPriv):Bool:=((!decide (a.name=b.name)||!decide (a.reason=b.reason))||!decide (a.sources=b.sources))||!decide (((a.trace.map fS).length:Int)=((b.trace.map fS).length:Int))
theorem DZ(a b:GPriv)(H:aH)(ha:a.sources.length<4611686018427387904)(hb:b.sources.length<4611686018427387904)(hat:a.trace.length<4611686018427387904):aI Tryz.prog 27 [av (iP a),av (iP b)] H (fun r H'=>r=bv (MQ a b)/\H'=H):=by
 refine aI.pure ?_ (by simp[iP]) H;have hma:(a.trace.map fS).length=a.trace.length:=aQE _;have hmb:(b.trace.map fS).length=b.trace.length:=aQE _;have hs1:=fun H=>wS a.sources b.sources H ha hb;have hX:aIF a b=(((!decide (a.name=b.name)||!decide (a.reason=b.reason))||!decide (a.sources=b.sources))||!decide (((a.trace.map fS).length:Int)=((b.trace.map fS).length:Int))):=rfl;refine Bd func27 rfl ntmps27<|Sr<|Dd (by exact cF (id:=2) rfl rfl rfl rfl rfl)<|Dd (by exact cF (id:=3) rfl rfl rfl rfl rfl)<|Dd aM<|Zz<|Sq<|Sq ?_;refine aY (t:=34) (n:=32) (X:=aIF a b) ?_ ?_
 ·all_goals refine Dd (aT xT) ?_
  all_goals refine Dd (bF isAgg9)<|Dd (aT xT)<|Dd (bF isAgg9)<|Dd JI<|Dm ?_
  all_goals refine Sp 11 (fun h11=>?_) fun h11=>?_
  all_goals try contradiction
  all_goals first|refine Fo<|Fo<|Fo<|Fo<|Fo ?_|refine On (aT xS)<|On (bF isAgg9)<|On (aT xS)<|On (bF isAgg9)<|On JI ?_
  all_goals refine Dd cH<|Dm ?_
  all_goals refine Sp 18 (fun h18=>?_) fun h18=>?_
  all_goals try contradiction
  all_goals first|refine Fo<|Fo<|Fo<|Fo<|Fo<|Fo ?_|refine On (aT rB)<|On (bF aG)<|On (aT rB)<|On (bF aG)<|On (by exact aA rfl rfl aHD rfl (hs1 _))<|On iS ?_
  all_goals refine Dd cH<|Dm ?_
  all_goals refine Sp 26 (fun h26=>?_) fun h26=>?_
  all_goals try contradiction
  all_goals first|refine Fo<|Fo<|Fo<|Fo<|Fo<|Fo<|Fo ?_|refine On (aT mF)<|On (bF eW)<|On (fM dM)<|On (aT mF)<|On (bF eW)<|On (fM dM)<|On wM ?_
  all_goals refine Dd cH<|Zz ?_
  all_goals(exact⟨⟨_,rfl,by first|(rw[hX,h11];rfl)|(rw[hX,h11,h18];rfl)|(rw[hX,h11,h18,h26];rfl)⟩,rfl,rfl,rfl⟩)
 refine Cn ?_ ?_<;>intro hc1
 ·have h:=hc1;have hne:MQ a b=false:=by
   rw[MQ];simp only[aIF,hma,hmb,Bool.or_eq_true,aQX,aQM]at h;simp only[Bool.and_eq_false_iff,aQM];rcases h with((h|h)|h)|h
   ·exact .inl (.inl (.inl h))
   ·exact .inl (.inl (.inr h))
   ·exact .inl (.inr h)
   exact .inr fun e=>h (by rw[e])
  rw[hne];exact Sr<|Dd aM<|Zz<|aB<|Rt<|Qq
 have h:=hc1;simp only[aIF,hma,hmb,aQ0,Bool.not_eq_false',aQL]at h;obtain ⟨⟨⟨h1,h2⟩,h3⟩,h4⟩:=h;have hl:a.trace.length=b.trace.length:=by omega
 have hp2:MQ a b=decide (a.trace=b.trace):=by rw[MQ,decide_eq_true h1,decide_eq_true h2,decide_eq_true h3];rfl
 rw[hp2];refine aC<|Sq<|Sr<|Dd aM<|Zz<|aF ?_;refine bJ (σ:=Nat) (fun i=>([(2,.ref 2 0 0 0),(3,.ref 3 0 0 0),(5,iv (i:Int))],[(3,bx 7 28 ((iP b).map .pv)),(2,bx 7 28 ((iP a).map .pv))])) (fun i=>i<=a.trace.length/\a.trace.take i=b.trace.take i) (fun i=>a.trace.length - i) 0 ⟨by omega,rfl⟩ ?_ ?_
 ·exact Wk
 rintro i ⟨hi,hp⟩;refine Sq<|Sr<|Dd aE<|Dd (aT mF)<|Dd (bF eW)<|Dd (fM dM)<|Dd cW<|Zz ?_;refine Cn ?_ ?_<;>intro hc2
 ·have hil:i<a.trace.length:=by have:=aQA hc2;omega
  obtain ⟨s,hs⟩:=aU hil;obtain ⟨u,hu⟩:=aU (show i<b.trace.length by omega);have hi1:=cI (f:=fS) hs;have hi2:=cI (f:=fS) hu;refine aC<|Sq<|aF<|Sq<|aO follows<|Cq (aT mF)<|Cq (bF eW)<|Cq aE<|Cq (by exact bH rfl MC rfl rfl (by omega) (by exact aQP _) hi1 rfl)<|Cq (by exact dP rfl dS sizeOf68 rfl hi1 (by simp only[Zl,fS];rfl) rfl)<|Cq (aT mF)<|Cq (bF eW)<|Cq aE<|Cq (by exact bH rfl MC rfl rfl (by omega) (by exact aQP _) hi2 rfl)<|Cq (by exact dP rfl dS sizeOf68 rfl hi2 (by simp only[Zl,fS];rfl) rfl)<|Cq (by exact yW rfl rfl rfl rfl rfl iF (SZ _ _ _ _))<|bM<|Kr ?_;refine Cn ?_ ?_<;>intro hc3
  ·have hne:s≠u:=by have h:=hc3;intro e;subst e;simp at h
   rw[decide_eq_false (aBS hs hu hne)];exact Sr<|Dd aM<|Zz<|aB<|Rt<|Qq
  have heq:s=u:=by have h:=hc3;simp at h;exact Prod.ext h.1 h.2
  refine aC<|Rg<|Dd aE<|Dd (by exact cB rfl rfl rfl (show IntKind.i64.wrap ((i:Int)+1)=((i+1:Nat):Int)by rw[jM (by omega) (by omega)];omega))<|Da ?_;exact⟨i+1,⟨by omega,zZ hp hs hu heq⟩,by omega,Wk⟩
 have hge:i=a.trace.length:=by have:=aQB hc2;omega
 rw[decide_eq_true (GO hl hge hp)];exact aW<|Sr<|Dd aM<|Zz<|aB<|Rt<|Qq
def aDI(a b:GEdit):Bool:=((((((!decide (a.op=b.op)||!decide (a.id=b.id))||!decide (a.other=b.other))||!decide (a.node=b.node))||!(decide (a.x=b.x)&&decide (a.y=b.y)))||!decide (a.key=b.key))||!decide (a.val=b.val))||!decide (((a.refs.map encStr).length:Int)=((b.refs.map encStr).length:Int))
def XQ(a b:GEdit):Bool:=(((((((decide (a.op=b.op)&&decide (a.id=b.id))&&decide (a.other=b.other))&&decide (a.node=b.node))&&(decide (a.x=b.x)&&decide (a.y=b.y)))&&decide (a.key=b.key))&&decide (a.val=b.val))&&decide (a.refs=b.refs))&&qZ a.obj b.obj
theorem GQ:XQ a b=true↔a=b:=by obtain ⟨a1,a2,a3,a4,a5,a6,a7,a8,a9,a10⟩:=a;obtain ⟨b1,b2,b3,b4,b5,b6,b7,b8,b9,b10⟩:=b;simp only[XQ,aQN,aQL,A2,GEdit.mk.injEq,and_assoc]
theorem aJB(h:aDI a b=true):XQ a b=false:=by
 cases e:XQ a b with
 |false=>rfl
 |true =>
  have:=GQ.1 e;subst this;simp[aDI]at h
theorem aGD(h:aDI a b=false):a.refs.length=b.refs.length/\∀r:Bool,(decide (a.refs=b.refs)&&qZ a.obj b.obj)=r->XQ a b=r:=by simp only[aDI,aQ0,Bool.not_eq_false',aQL,aQN,aQE]at h;obtain ⟨⟨⟨⟨⟨⟨⟨h1,h2⟩,h3⟩,h4⟩,h5,h6⟩,h7⟩,h8⟩,h9⟩:=h;refine⟨by omega,fun r hr=>?_⟩;rw[XQ,decide_eq_true h1,decide_eq_true h2,decide_eq_true h3,decide_eq_true h4,decide_eq_true h5,decide_eq_true h6,decide_eq_true h7,decide_eq_true h8];exact hr
theorem aCW(a b:GEdit)(H:aH)(ha:M0 a)(hb:M0 b):aI Tryz.prog 138 [av (bA a),av (bA b)] H (fun r H'=>r=bv (XQ a b)/\H'=H):=by
 refine aI.pure ?_ (by simp[bA]) H;have hra:(a.refs.map encStr).length=a.refs.length:=aQE _;have hrb:(b.refs.map encStr).length=b.refs.length:=aQE _;have hla:=ha.2.1.1;have hlb:=hb.2.1.1;have hX:aDI a b=(((((((!decide (a.op=b.op)||!decide (a.id=b.id))||!decide (a.other=b.other))||!decide (a.node=b.node))||!(decide (a.x=b.x)&&decide (a.y=b.y)))||!decide (a.key=b.key))||!decide (a.val=b.val))||!decide (((a.refs.map encStr).length:Int)=((b.refs.map encStr).length:Int))):=rfl;have hso:=fun H=>aBI a.obj b.obj H ha.2.2.2.2.1 ha.2.2.2.1.1;obtain ⟨so,hsoE⟩:∃so,so=qZ a.obj b.obj:=⟨_,rfl⟩;have hyes:=fun h=>aGD (a:=a) (b:=b) h;rw[<-hsoE]at hso hyes;clear hsoE;refine Bd func138 rfl ntmps138<|Sr<|Dd (by exact cF (id:=2) rfl rfl rfl rfl rfl)<|Dd (by exact cF (id:=3) rfl rfl rfl rfl rfl)<|Dd aM<|Zz<|Sq<|Sq ?_;refine aY (t:=61) (n:=63) (X:=aDI a b) ?_ ?_
 ·all_goals refine Dd (aT gG) ?_
  all_goals refine Dd (bF isAgg3)<|Dd (aT gG)<|Dd (bF isAgg3)<|Dd wM<|Dm ?_
  all_goals refine Sp 11 (fun h11=>?_) fun h11=>?_
  all_goals try contradiction
  all_goals first|refine Fo<|Fo<|Fo<|Fo<|Fo ?_|refine On (aT gX)<|On (bF isAgg9)<|On (aT gX)<|On (bF isAgg9)<|On JI ?_
  all_goals refine Dd cH<|Dm ?_
  all_goals refine Sp 18 (fun h18=>?_) fun h18=>?_
  all_goals try contradiction
  all_goals first|refine Fo<|Fo<|Fo<|Fo<|Fo ?_|refine On (aT iC)<|On (bF isAgg9)<|On (aT iC)<|On (bF isAgg9)<|On JI ?_
  all_goals refine Dd cH<|Dm ?_
  all_goals refine Sp 25 (fun h25=>?_) fun h25=>?_
  all_goals try contradiction
  all_goals first|refine Fo<|Fo<|Fo<|Fo<|Fo ?_|refine On (aT mH)<|On (bF isAgg9)<|On (aT mH)<|On (bF isAgg9)<|On JI ?_
  all_goals refine Dd cH<|Dm ?_
  all_goals refine Sp 32 (fun h32=>?_) fun h32=>?_
  all_goals try contradiction
  all_goals first|refine Fo<|Fo<|Fo<|Fo<|Fo ?_|refine On (aT gW)<|On (by exact aN rfl dS sizeOf68 rfl rfl rfl rfl (by simp only[Zl,bA];rfl) rfl)<|On (aT gW)<|On (by exact aN rfl dS sizeOf68 rfl rfl rfl rfl (by simp only[Zl,bA];rfl) rfl)<|On (by exact yW rfl rfl rfl rfl rfl iF (SZ _ _ _ _)) ?_
  all_goals refine Dd cH<|Dm ?_
  all_goals refine Sp 39 (fun h39=>?_) fun h39=>?_
  all_goals try contradiction
  all_goals first|refine Fo<|Fo<|Fo<|Fo<|Fo ?_|refine On (aT kD)<|On (bF isAgg9)<|On (aT kD)<|On (bF isAgg9)<|On JI ?_
  all_goals refine Dd cH<|Dm ?_
  all_goals refine Sp 46 (fun h46=>?_) fun h46=>?_
  all_goals try contradiction
  all_goals first|refine Fo<|Fo<|Fo<|Fo<|Fo ?_|refine On (aT kR)<|On (bF isAgg9)<|On (aT kR)<|On (bF isAgg9)<|On JI ?_
  all_goals refine Dd cH<|Dm ?_
  all_goals refine Sp 53 (fun h53=>?_) fun h53=>?_
  all_goals try contradiction
  all_goals first|refine Fo<|Fo<|Fo<|Fo<|Fo<|Fo<|Fo ?_|refine On (aT eY)<|On (bF aG)<|On (fM aD)<|On (aT eY)<|On (bF aG)<|On (fM aD)<|On wM ?_
  all_goals refine Dd cH<|Zz ?_
  all_goals(exact⟨⟨_,rfl,by first|(rw[hX,h11];rfl)|(rw[hX,h11,h18];rfl)|(rw[hX,h11,h18,h25];rfl)|(rw[hX,h11,h18,h25,h32];rfl)|(rw[hX,h11,h18,h25,h32,h39];rfl)|(rw[hX,h11,h18,h25,h32,h39,h46];rfl)|(rw[hX,h11,h18,h25,h32,h39,h46,h53];rfl)⟩,rfl,rfl,rfl⟩)
 refine Cn ?_ ?_<;>intro hc1
 ·rw[aJB hc1];exact Sr<|Dd aM<|Zz<|aB<|Rt<|Qq
 obtain ⟨hl,hyes⟩:=hyes hc1;refine aC<|Sq<|Sr<|Dd aM<|Zz<|aF ?_;refine bJ (σ:=Nat) (fun i=>([(2,.ref 2 0 0 0),(3,.ref 3 0 0 0),(5,iv (i:Int))],[(3,bx 15 153 ((bA b).map .pv)),(2,bx 15 153 ((bA a).map .pv))])) (fun i=>i<=a.refs.length/\a.refs.take i=b.refs.take i) (fun i=>a.refs.length - i) 0 ⟨by omega,rfl⟩ ?_ ?_
 ·exact Wk
 rintro i ⟨hi,hp⟩;refine Sq<|Sr<|Dd aE<|Dd (aT eY)<|Dd (bF aG)<|Dd (fM aD)<|Dd cW<|Zz ?_;refine Cn ?_ ?_<;>intro hc2
 ·have hil:i<a.refs.length:=by have:=aQA hc2;omega
  obtain ⟨s,hs⟩:=aU hil;obtain ⟨u,hu⟩:=aU (show i<b.refs.length by omega);have hi1:=cI (f:=encStr) hs;have hi2:=cI (f:=encStr) hu;refine aC<|Sq<|aF<|Sq<|aO follows<|Cq (aT eY)<|Cq (bF aG)<|Cq aE<|Cq (by exact bH rfl cC rfl rfl (by omega) (by exact aQP _) hi1 rfl)<|Cq (iN isAgg9 (hi:=hi1))<|Cq (aT eY)<|Cq (bF aG)<|Cq aE<|Cq (by exact bH rfl cC rfl rfl (by omega) (by exact aQP _) hi2 rfl)<|Cq (iN isAgg9 (hi:=hi2))<|Cq JI<|bM<|Kr ?_;refine Cn ?_ ?_<;>intro hc3
  ·have hne:s≠u:=by have h:=hc3;intro e;subst e;simp at h
   rw[hyes false (by rw[decide_eq_false (aBS hs hu hne)];rfl)];exact Sr<|Dd aM<|Zz<|aB<|Rt<|Qq
  have heq:s=u:=by have h:=hc3;simpa using h
  refine aC<|Rg<|Dd aE<|Dd (by exact cB rfl rfl rfl (show IntKind.i64.wrap ((i:Int)+1)=((i+1:Nat):Int)by rw[jM (by omega) (by omega)];omega))<|Da ?_;exact⟨i+1,⟨by omega,zZ hp hs hu heq⟩,by omega,Wk⟩
 have hge:i=a.refs.length:=by have:=aQB hc2;omega
 rw[hyes so (by rw[decide_eq_true (GO hl hge hp)];rfl)];exact aW<|Sr<|Dd (aT oG)<|Dd (by exact aN rfl dA sizeOf151 rfl rfl rfl rfl (by simp only[Zl,bA,bW];rfl) rfl)<|Dd (aT oG)<|Dd (by exact aN rfl dA sizeOf151 rfl rfl rfl rfl (by simp only[Zl,bA,bW];rfl) rfl)<|Dd (by exact aA rfl rfl call179 rfl (hso _))<|Dd aM<|Zz<|aB<|Rt<|Qq
def BI:List GEdit->List GEdit->Bool
 | [],[]=>true
 |a::l,b::m=>XQ a b&&BI l m
 |_,_=>false
theorem DH:∀ {a b:List GEdit},BI a b=true↔a=b
 | [],[]=>by simp[BI]
 |a::l,b::m=>by rw[BI,aQN,GQ,DH,List.cons.injEq]
 | [],_::_=>by simp[BI]
 |_::_,[]=>by simp[BI]
theorem XO{a b:List GEdit}(h:a≠b):BI a b=false:=by
 cases e:BI a b with
 |false=>rfl
 |true=>exact absurd (DH.1 e) h
theorem S0(a b:List GEdit)(H:aH)(ha:a.length<4611686018427387904)(hb:b.length<4611686018427387904)(hae:∀e∈a,M0 e)(hbe:∀e∈b,M0 e):aI Tryz.prog 89 [.pv (iO a),.pv (iO b)] H (fun r H'=>r=bv (BI a b)/\H'=H):=by
 refine Pu ?_;have hma:(a.map bA).length=a.length:=aQE _;have hmb:(b.map bA).length=b.length:=aQE _;refine Bd func89 rfl ntmps89<|Sr<|Dd aM<|Zz<|Sq<|Sr<|Dd aE<|Dd (fM dB)<|Dd aE<|Dd (fM dB)<|Dd wM<|Zz ?_;refine Cn ?_ ?_<;>intro hc1
 ·have hne:a≠b:=by have h:=hc1;intro e;subst e;simp at h
  rw[XO hne];exact Sr<|Dd aM<|Zz<|aB<|Rt<|Qq
 have hl:a.length=b.length:=by have h:=hc1;simp only[Bool.not_eq_false',aQL]at h;omega
 refine aC<|Sq<|Sr<|Dd aM<|Zz<|aF ?_;refine bJ (σ:=Nat) (fun i=>([(0,.pv (iO a)),(1,.pv (iO b)),(5,iv (i:Int))],[])) (fun i=>i<=a.length/\a.take i=b.take i) (fun i=>a.length - i) 0 ⟨by omega,rfl⟩ ?_ ?_
 ·exact Wk
 rintro i ⟨hi,hp⟩;refine Sq<|Sr<|Dd aE<|Dd aE<|Dd (fM dB)<|Dd cW<|Zz ?_;refine Cn ?_ ?_<;>intro hc2
 ·have hil:i<a.length:=by have:=aQA hc2;omega
  obtain ⟨s,hs⟩:=aU hil;obtain ⟨u,hu⟩:=aU (show i<b.length by omega);have hi1:=cI (f:=bA) hs;have hi2:=cI (f:=bA) hu;have hsm:=fun H=>aCW s u H (hae s (aQO hs)) (hbe u (aQO hu));refine aC<|Sq<|aF<|Sq<|aO follows<|Cq aE<|Cq aE<|Cq (by exact bH rfl SQ rfl rfl (by omega) (by exact aQP _) hi1 rfl)<|Cq (by exact dP rfl cE bC rfl hi1 rfl rfl)<|Cq aE<|Cq aE<|Cq (by exact bH rfl SQ rfl rfl (by omega) (by exact aQP _) hi2 rfl)<|Cq (by exact dP rfl cE bC rfl hi2 rfl rfl)<|Cq (by exact aA rfl rfl call138 rfl (hsm _))<|Cq iS<|bM<|Kr ?_;refine Cn ?_ ?_<;>intro hc3
  ·have hne:s≠u:=by have h:=not_not hc3;intro e;rw[GQ.2 e]at h;cases h
   rw[XO (aBS hs hu hne)];exact Sr<|Dd aM<|Zz<|aB<|Rt<|Qq
  have heq:s=u:=GQ.1 (oC hc3);refine aC<|Rg<|Dd aE<|Dd (by exact cB rfl rfl rfl (show IntKind.i64.wrap ((i:Int)+1)=((i+1:Nat):Int)by rw[jM (by omega) (by omega)];omega))<|Da ?_;exact⟨i+1,⟨by omega,zZ hp hs hu heq⟩,by omega,Wk⟩
 have hge:i=a.length:=by have:=aQB hc2;omega
 rw[DH.2 (GO hl hge hp)];exact aW<|Sr<|Dd aM<|Zz<|aB<|Rt<|Qq
def S7(a b:GRec):Bool:=(((((((((decide (a.kind=b.kind)&&decide (a.author=b.author))&&decide (a.number=b.number))&&decide (a.clock=b.clock))&&decide (a.branch=b.branch))&&decide (a.parents=b.parents))&&BI a.edits b.edits)&&decide (a.target=b.target))&&(a.yes == b.yes))&&decide (a.order=b.order))&&decide (a.from'=b.from')
structure PubEq(a b:GRec):Prop where
 ki:a.kind=b.kind
 au:a.author=b.author
 nu:a.number=b.number
 cl:a.clock=b.clock
 br:a.branch=b.branch
 pa:a.parents=b.parents
 ed:a.edits=b.edits
 ta:a.target=b.target
 ye:a.yes=b.yes
 od:a.order=b.order
 fr:a.from'=b.from'
theorem WF{a b:GRec}:S7 a b=true↔PubEq a b:=by simp only[S7,aQN,aQL,DH,beq_iff_eq];exact⟨fun⟨⟨⟨⟨⟨⟨⟨⟨⟨⟨h1,h2⟩,h3⟩,h4⟩,h5⟩,h6⟩,h7⟩,h8⟩,h9⟩,h10⟩,h11⟩=>⟨h1,h2,h3,h4,h5,h6,h7,h8,h9,h10,h11⟩,fun⟨h1,h2,h3,h4,h5,h6,h7,h8,h9,h10,h11⟩=>⟨⟨⟨⟨⟨⟨⟨⟨⟨⟨h1,h2⟩,h3⟩,h4⟩,h5⟩,h6⟩,h7⟩,h8⟩,h9⟩,h10⟩,h11⟩⟩
def WT(r:GRec):Prop:=(r.parents.length<4611686018427387904/\r.edits.length<4611686018427387904/\∀e∈r.edits,M0 e)/\WR r.sl/\WR r.priv.sl/\r.priv.sources.length<4611686018427387904/\r.priv.trace.length<4611686018427387904
theorem sR{r:GRec}(h:fR r):WT r:=by obtain ⟨_,_,h1,h2,h3,_,_,h4,h5,h6⟩:=h;exact⟨⟨by have:=h1.1;omega,by have:=h2.1;omega,h2.2⟩,WQ h3,WQ h6,by have:=h4.1;omega,by omega⟩
theorem FS(a b:GRec)(H:aH)(ha:WT a)(hb:WT b):aI Tryz.prog 26 [av (bS a),av (bS b)] H (fun r H'=>r=bv (S7 a b)/\H'=H):=by
 refine aI.pure ?_ (by simp[bS]) H;have hs1:=fun H=>wS a.parents b.parents H ha.1.1 hb.1.1;have hs2:=fun H=>S0 a.edits b.edits H ha.1.2.1 hb.1.2.1 ha.1.2.2 hb.1.2.2;have hX:S7 a b=((((((((((decide (a.kind=b.kind)&&decide (a.author=b.author))&&decide (a.number=b.number))&&decide (a.clock=b.clock))&&decide (a.branch=b.branch))&&decide (a.parents=b.parents))&&BI a.edits b.edits)&&decide (a.target=b.target))&&(a.yes == b.yes))&&decide (a.order=b.order))&&decide (a.from'=b.from')):=rfl;obtain ⟨ee,hee⟩:∃ee,ee=BI a.edits b.edits:=⟨_,rfl⟩;rw[<-hee]at hs2 hX;clear hee;refine Bd func26 rfl ntmps26<|Sr<|Dd (by exact cF (id:=2) rfl rfl rfl rfl rfl)<|Dd (by exact cF (id:=3) rfl rfl rfl rfl rfl)<|Dd aM<|Zz<|Sq ?_;refine aY (t:=4) (n:=86) (X:=S7 a b) ?_ ?_
 ·all_goals refine Dd (aT lL) ?_
  all_goals refine Dd (bF isAgg3)<|Dd (aT lL)<|Dd (bF isAgg3)<|Dd cN<|Dm ?_
  all_goals refine Sp 10 (fun h10=>?_) fun h10=>?_
  all_goals try contradiction
  all_goals first|refine Fo<|Fo<|Fo<|Fo<|Fo ?_|refine On (aT tH)<|On (bF isAgg3)<|On (aT tH)<|On (bF isAgg3)<|On cN ?_
  all_goals refine Dd cH<|Dm ?_
  all_goals refine Sp 17 (fun h17=>?_) fun h17=>?_
  all_goals try contradiction
  all_goals first|refine Fo<|Fo<|Fo<|Fo<|Fo ?_|refine On (aT nX)<|On (bF isAgg3)<|On (aT nX)<|On (bF isAgg3)<|On cN ?_
  all_goals refine Dd cH<|Dm ?_
  all_goals refine Sp 24 (fun h24=>?_) fun h24=>?_
  all_goals try contradiction
  all_goals first|refine Fo<|Fo<|Fo<|Fo<|Fo ?_|refine On (aT vV)<|On (bF isAgg3)<|On (aT vV)<|On (bF isAgg3)<|On cN ?_
  all_goals refine Dd cH<|Dm ?_
  all_goals refine Sp 31 (fun h31=>?_) fun h31=>?_
  all_goals try contradiction
  all_goals first|refine Fo<|Fo<|Fo<|Fo<|Fo ?_|refine On (aT vU)<|On (bF isAgg9)<|On (aT vU)<|On (bF isAgg9)<|On AG ?_
  all_goals refine Dd cH<|Dm ?_
  all_goals refine Sp 38 (fun h38=>?_) fun h38=>?_
  all_goals try contradiction
  all_goals first|refine Fo<|Fo<|Fo<|Fo<|Fo ?_|refine On (aT lK)<|On (bF aG)<|On (aT lK)<|On (bF aG)<|On (by exact aA rfl rfl aHD rfl (hs1 _)) ?_
  all_goals refine Dd cH<|Dm ?_
  all_goals refine Sp 45 (fun h45=>?_) fun h45=>?_
  all_goals try contradiction
  all_goals first|refine Fo<|Fo<|Fo<|Fo<|Fo ?_|refine On (aT vT)<|On (bF iR)<|On (aT vT)<|On (bF iR)<|On (by exact aA rfl rfl call89 rfl (hs2 _)) ?_
  all_goals refine Dd cH<|Dm ?_
  all_goals refine Sp 52 (fun h52=>?_) fun h52=>?_
  all_goals try contradiction
  all_goals first|refine Fo<|Fo<|Fo<|Fo<|Fo ?_|refine On (aT vS)<|On (bF isAgg9)<|On (aT vS)<|On (bF isAgg9)<|On AG ?_
  all_goals refine Dd cH<|Dm ?_
  all_goals refine Sp 59 (fun h59=>?_) fun h59=>?_
  all_goals try contradiction
  all_goals first|refine Fo<|Fo<|Fo<|Fo<|Fo ?_|refine On (aT CN)<|On (bF pG)<|On (aT CN)<|On (bF pG)<|On (by exact MX rfl eV rfl rfl) ?_
  all_goals refine Dd cH<|Dm ?_
  all_goals refine Sp 66 (fun h66=>?_) fun h66=>?_
  all_goals try contradiction
  all_goals first|refine Fo<|Fo<|Fo<|Fo<|Fo ?_|refine On (aT tG)<|On (bF isAgg3)<|On (aT tG)<|On (bF isAgg3)<|On cN ?_
  all_goals refine Dd cH<|Dm ?_
  all_goals refine Sp 73 (fun h73=>?_) fun h73=>?_
  all_goals try contradiction
  all_goals first|refine Fo<|Fo<|Fo<|Fo<|Fo ?_|refine On (aT rA)<|On (bF isAgg9)<|On (aT rA)<|On (bF isAgg9)<|On AG ?_
  all_goals refine Dd cH<|Da ?_
  all_goals(exact⟨⟨_,rfl,by first|(rw[hX,h10];rfl)|(rw[hX,h10,h17];rfl)|(rw[hX,h10,h17,h24];rfl)|(rw[hX,h10,h17,h24,h31];rfl)|(rw[hX,h10,h17,h24,h31,h38];rfl)|(rw[hX,h10,h17,h24,h31,h38,h45];rfl)|(rw[hX,h10,h17,h24,h31,h38,h45,h52];rfl)|(rw[hX,h10,h17,h24,h31,h38,h45,h52,h59];rfl)|(rw[hX,h10,h17,h24,h31,h38,h45,h52,h59,h66];rfl)|(rw[hX,h10,h17,h24,h31,h38,h45,h52,h59,h66,h73];rfl)⟩,rfl,rfl,rfl⟩)
 exact aB<|Rt<|Qq
def aE7(a b:GRec):Bool:=((S7 a b&&MQ a.priv b.priv)&&decide (a.sl=b.sl))&&decide (a.priv.sl=b.priv.sl)
theorem VV{a b:GRec}:aE7 a b=true↔a=b:=by
 simp only[aE7,MQ,aQN,aQL,WF];constructor
 ·rintro⟨⟨⟨⟨h1,h2,h3,h4,h5,h6,h7,h8,h9,h10,h11⟩,⟨⟨q1,q2⟩,q3⟩,q4⟩,h12⟩,h13⟩;obtain ⟨a1,a2,a3,a4,a5,a6,a7,a8,a9,a10,a11,a12,b1,b2,b3,b4,b5⟩:=a;obtain ⟨c1,c2,c3,c4,c5,c6,c7,c8,c9,c10,c11,c12,d1,d2,d3,d4,d5⟩:=b;simp only at *;subst h1 h2 h3 h4 h5 h6 h7 h8 h9 h10 h11 q1 q2 q3 q4 h12 h13;rfl
 rintro rfl;exact⟨⟨⟨⟨rfl,rfl,rfl,rfl,rfl,rfl,rfl,rfl,rfl,rfl,rfl⟩,⟨⟨rfl,rfl⟩,rfl⟩,rfl⟩,rfl⟩,rfl⟩
theorem QE(a b:GRec)(H:aH)(ha:WT a)(hb:WT b):aI Tryz.prog 18 [av (bS a),av (bS b)] H (fun r H'=>r=bv (aE7 a b)/\H'=H):=by
 refine aI.pure ?_ (by simp[bS]) H;have hs1:=fun H=>FS a b H ha hb;have hs2:=fun H=>DZ a.priv b.priv H ha.2.2.2.1 hb.2.2.2.1 ha.2.2.2.2;have hs3:=fun H=>MF a.sl b.sl H ha.2.1 hb.2.1;have hs4:=fun H=>MF a.priv.sl b.priv.sl H ha.2.2.1 hb.2.2.1;have hX:aE7 a b=(((S7 a b&&MQ a.priv b.priv)&&decide (a.sl=b.sl))&&decide (a.priv.sl=b.priv.sl)):=rfl;obtain ⟨p1,hp1⟩:∃p,p=S7 a b:=⟨_,rfl⟩;obtain ⟨p2,hp2⟩:∃p,p=MQ a.priv b.priv:=⟨_,rfl⟩;rw[<-hp1]at hs1 hX;rw[<-hp2]at hs2 hX;clear hp1 hp2;refine Bd func18 rfl ntmps18<|Sr<|Dd (by exact cF (id:=2) rfl rfl rfl rfl rfl)<|Dd (by exact cF (id:=3) rfl rfl rfl rfl rfl)<|Dd aM<|Zz<|Sq ?_;refine aY (t:=4) (n:=30) (X:=aE7 a b) ?_ ?_
 ·all_goals refine Dd (mD aS aL) ?_
  all_goals refine Dd (mD aS aL)<|Dd (by exact aA rfl rfl call26 rfl (hs1 _))<|Dm ?_
  all_goals refine Sp 8 (fun h8=>?_) fun h8=>?_
  all_goals try contradiction
  all_goals first|refine Fo<|Fo<|Fo<|Fo<|Fo ?_|refine On (aT eS)<|On (mD gB sizeOf28)<|On (aT eS)<|On (mD gB sizeOf28)<|On (by exact aA rfl rfl call27 rfl (hs2 _)) ?_
  all_goals refine Dd cH<|Dm ?_
  all_goals refine Sp 15 (fun h15=>?_) fun h15=>?_
  all_goals try contradiction
  all_goals first|refine Fo<|Fo<|Fo<|Fo<|Fo ?_|refine On (aT kQ)<|On (mD dD sizeOf25)<|On (aT kQ)<|On (mD dD sizeOf25)<|On (by exact aA rfl rfl call31 rfl (hs3 _)) ?_
  all_goals refine Dd cH<|Dm ?_
  all_goals refine Sp 22 (fun h22=>?_) fun h22=>?_
  all_goals try contradiction
  all_goals first|refine Fo<|Fo<|Fo<|Fo<|Fo<|Fo<|Fo ?_|refine On (aT eS)<|On (aT nA)<|On (mD dD sizeOf25)<|On (aT eS)<|On (aT nA)<|On (mD dD sizeOf25)<|On (by exact aA rfl rfl call31 rfl (hs4 _)) ?_
  all_goals refine Dd cH<|Da ?_
  all_goals(exact⟨⟨_,rfl,by first|(rw[hX,h8];rfl)|(rw[hX,h8,h15];rfl)|(rw[hX,h8,h15,h22];rfl)⟩,rfl,rfl,rfl⟩)
 exact aB<|Rt<|Qq
end Go.Proofs.YtmdicgjnmfolfaaGreatDoor
