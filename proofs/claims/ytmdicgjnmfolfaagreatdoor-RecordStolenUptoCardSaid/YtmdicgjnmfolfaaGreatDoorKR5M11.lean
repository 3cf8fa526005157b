/-
  Parts of the proof: rules of an abstract program logic, contracts of functions, plain laws. Conditions: each theorem's own.
-/
import Derived.Test.YtmdicgjnmfolfaaGreatDoorKR5M10
set_option linter.unusedVariables false
set_option linter.unusedSimpArgs false
set_option maxRecDepth 100000
set_option maxHeartbeats 8000000
namespace Go.Proofs
open Tryz
theorem aNR:type_of% call157:=call157
theorem aNh:type_of% call31:=call31
theorem aFb:type_of% call88:=call88
end Go.Proofs
namespace Go.Proofs.YtmdicgjnmfolfaaGreatDoor
open Go.Proofs.Tryz
open Go.Abs
variable{s:ByteArray}{j n id:Nat}{T:List GFound}{p q:Prop}{a b:Ob}
theorem FX:∀(l:List UInt8) (p:List UInt8×Nat),oJ l=some p->p.1.length<=l.length
 | [],p,h=>by cases h
 | [c],p,h=>by
  rw[oJ]at h
  split at h
  ·cases h;exact aOM _
  cases h
 | c :: e :: r, p, h => by
  rw[oJ]at h
  split at h
  ·cases h;exact aOM _
  split at h
  ·cases h
  split at h
  ·cases hg:AU e with
   |none=>rw[hg]at h;cases h
   | some b =>
    rw[hg]at h;cases hu:oJ r with
    |none=>rw[hu]at h;cases h
    |some q =>
     rw[hu]at h;cases h;have:=FX r q hu;show q.1.length+1<=r.length+1+1;omega
  cases hu:oJ (e::r)with
  |none=>rw[hu]at h;cases h
  |some q =>
   rw[hu]at h;cases h;have:=FX (e::r) q hu;show q.1.length+1<=r.length+1+1;rw[aNx]at this;omega
theorem qC(s:ByteArray)(i j:Nat):(s.extract i j).size<=s.size:=by rw[<-bB,iX,aOJ,aOK,bB];omega
theorem aAu(s:ByteArray):(yI s).1.size<=s.size:=by
 rw[yI];cases h:oJ (s.data.toList.drop 1)with
 |none=>exact aOM _
 |some p =>
  have:=FX _ _ h;rw[aOK,bB]at this;show (⟨p.1.toArray⟩:ByteArray).size<=_;rw[<-bB];show p.1.length<=_;omega
theorem W9{i:Nat}{f:GFound}(h:iE s i=(some f,j)):f.text.size<=s.size:=by
 rw[iE]at h
 split at h
 ·cases h
 split at h
 ·cases h
 split at h
 ·cases h;exact qC _ _ _
 split at h
 ·cases h;exact qC _ _ _
 split at h
 ·cases h;rw[N0]
  split
  ·have h1:=aAu (s.extract i s.size);have h2:=qC s i s.size;show (yI (s.extract i s.size)).1.size<=_;omega
  exact aOM _
 split at h
 ·cases h;exact qC _ _ _
 cases h;exact aOM _
theorem CM(s:ByteArray):∀(n i:Nat) (f:GFound),f∈mC s n i->f.text.size<=s.size
 |0,_,_,h=>by cases h
 | n+1,i,f,h=>by
  rw[mC]at h
  split at h
  ·split at h
   ·exact CM s n _ f h
   rename_i g j hg;rcases aOH.1 h with rfl|h
   ·exact W9 hg
   split at h
   ·exact CM s n _ f h
   cases h
  cases h
theorem T1:∀(ds acc:List GFound) (f:GFound),f∈(lD acc ds).1->f∈acc\/f∈ds
 | [],acc,f,h=>.inl h
 | d::ds,acc,f,h=>by
  rw[lD]at h
  split at h
  ·cases h
  split at h
  ·cases h
  rcases T1 ds _ f h with h|h
  ·rcases List.mem_append.1 h with h|h
   ·exact .inl h
   rw[aNy]at h;subst h;exact .inr List.mem_cons_self
  exact .inr (List.mem_cons_of_mem _ h)
theorem PK(s:ByteArray)(f:GFound)(h:f∈(hY s).1):f.text.size<=s.size:=by
 rw[hY]at h
 split at h
 ·cases h
 rcases T1 _ _ f h with h|h
 ·cases h
 exact CM s _ _ f h
theorem UG(h:∀f∈T,f.text.size<=n):∀f∈qM T,f.text.size<=n:=fun f hf=>by
 rw[qM]at hf;rcases List.mem_append.1 hf with h1|h1
 ·exact h f h1
 rw[(List.mem_replicate.1 h1).2];exact aOM _
theorem OF:∀(T:List GFound) (n:Nat),(∀f∈T,f.text.size<=n)->(mZ T).length<=T.length/\∀t∈mZ T,t.key.size<=n/\t.val.size<=n
 | [],n,_=>by simp[mZ]
 | [a],n,_=>by simp[mZ]
 | [a,b],n,_=>by simp[mZ]
 |a::b::c::r,n,h=>by
  obtain ⟨i1,i2⟩:=OF r n fun f hf=>h f (by simp[hf]);rw[mZ];refine⟨by simp only[aNx];omega,fun t ht=>?_⟩;rcases aOH.1 ht with rfl|ht
  ·exact⟨h a (by simp),h c (by simp)⟩
  exact i2 t ht
theorem aDc(T:List GFound):(qM T).length<=T.length+4:=by rw[qM,aNw,List.length_replicate];omega
theorem aDU(h:∀f∈T,f.text.size<=n)(hn:n<4611686018427387904)(hl:T.length<549755813888):okO (lE T):=by
 have hp:=UG h;have hpl:=aDc T;have hg:∀i,((qM T).getD i noF).text.size<=n:=fun i=>by
  rw[List.getD_eq_getElem?_getD];cases e:(qM T)[i]? with
  |none=>exact aOM _
  |some f=>exact hp f (aOF e)
 have ht:∀k,KU (mZ ((qM T).drop k)):=fun k=>by
  obtain ⟨a,b⟩:=OF ((qM T).drop k) n fun f hf=>hp f (List.mem_of_mem_drop hf);rw[aOK]at a;exact⟨by omega,fun t htt=>by have:=b t htt;omega⟩
 rw[lE]
 split
 ·exact⟨Nat.lt_of_le_of_lt (hg 1) hn,ht _,by show 0<_;omega,fun s hs=>by cases hs⟩
 split
 ·exact⟨by decide,⟨by decide,fun t h=>by cases h⟩,by decide,fun s hs=>by cases hs⟩
 refine⟨Nat.lt_of_le_of_lt (hg 1) hn,ht _,?_,fun s hs=>?_⟩
 ·show (List.map _ _).length<_;rw[aNv,aOK,aOJ];omega
 obtain ⟨f,hf,rfl⟩:=List.mem_map.1 hs;have:=hp f (List.mem_of_mem_take (List.mem_of_mem_drop hf));omega
theorem sR(c:UInt8):∀ {l w:List UInt8},w∈eO c l->w.length<=l.length
 | [],w,h=>by
  rw[eO,aNy]at h;rw[h];exact aOB _
 | b::l,w,h=>by
  have hp:=xK c l;rw[eO]at h;cases e:eO c l with
  |nil=>rw[e]at hp;exact absurd hp (Nat.lt_irrefl 0)
  | cons x r =>
   have ih:∀y∈x::r,y.length<=l.length:=fun y hy=>sR c (by rw[e];exact hy);rw[e]at h;rw[aNx]
   split at h
   ·rcases aOH.1 h with rfl|h
    ·exact aOM _
    exact Nat.le_succ_of_le (ih w h)
   rcases aOH.1 h with rfl|h
   ·exact Nat.succ_le_succ (ih _ List.mem_cons_self)
   exact Nat.le_succ_of_le (ih w (List.mem_cons_of_mem _ h))
theorem OZ(hs:s.size<1099511627776):okO (lE (hY s).1):=aDU (fun f hf=>PK s f hf) (by omega) (EO s hs)
theorem LY(l:List ByteArray):∀r∈l.map encStr,r.length=1:=fun r hr=>by
 obtain ⟨s,_,rfl⟩:=List.mem_map.1 hr;rfl
theorem MR [Decidable p][Decidable q](h:(decide p&&decide q)=true):p/\q:=by simpa using h
theorem MS [Decidable p][Decidable q](h:(decide p&&decide q)=false):¬ (p/\q):=by intro h2;simp[h2]at h
theorem aFw{H:aB}{o:Ob}(h:H.get id=some o):Sub [(id,o)] H:=fun j x hx=>by
 by_cases e:j=id
 ·subst e;rw[get_cons_same]at hx;cases hx;exact h
 rw[get_cons_other _ _ e]at hx;cases hx
theorem aDn(h:(aB.get [(id,a)] j).isSome=true):(aB.get [(id,b)] j).isSome=true:=by
 by_cases e:j=id
 ·subst e;rw[get_cons_same];rfl
 rw[get_cons_other _ _ e]at h;cases h
theorem YB(s:ByteArray)(H:aB)(hs:s.size<1099511627776):aH Tryz.prog 155 [sv s] H (fun r H'=>r=.tup [av (bN (qA s).1),iv (qA s).2]/\H'=H):=by
 refine Pu ?_;have hlen:=EO s hs;have hsz:=UG (PK s);have hoo:=OZ hs;rw[qA];refine Bd func155 rfl ntmps155<|Sr<|Dd (by exact bM (id:=2) rfl ZK rfl rfl)<|Dd aM<|Zz<|Sq<|Sr<|Dd aG<|Dd (nF underlying9)<|Dd mN<|Zz ?_;refine Cn ?_ ?_<;>intro hc1
 ·have h2:20000<s.size:=by have:=aNr hc1;omega
  rw[aNu h2];refine Sr<|Dd (wV aAa)<|Uu (kG sizeOf151)<|Dd aM<|Zz<|aE ?_;refine tX (H':=[]) (.inr rfl) rfl (rl' cR sizeOf151) (aW rfl) (Fin.wk (r:=.tup [av (bN zObj),iv 2]) (by simp) trivial trivial) ?_;exact Qq
 have h2:¬ 20000<s.size:=by have:=aNs hc1;omega
 rw[aNt h2];by_cases he:(hY s).2.1=0
 ·have hlo:=fun H h=>aJ8 s H hs he h;obtain ⟨T,hT⟩:∃T,T=(hY s).1:=⟨_,rfl⟩;rw[<-hT]at hlen hsz hoo |-;simp only[<-hT]at hlo;have hrd:∀H,H.get 905=some (S8 T)->aH Tryz.prog 195 [.osl 905 T.length 0 T.length] H (fun r H'=>r=av (bN (lE T))/\H'=[(905,S8 (qM T))]++H):=fun H hH =>
   aH.frame (aIt T hlen (fun f hf=>Nat.lt_of_le_of_lt (hsz f hf) hs)) (aFw hH) (dF.ofL ⟨bZ _ _,trivial⟩) (by intro a ha;rw[aNy]at ha;subst ha;simp[aB.get]) (fun id h=>.inl (aDn h))
  obtain ⟨o,ho⟩:∃o,o=lE T:=⟨_,rfl⟩;rw[<-ho]at hrd hoo |-;refine aF<|Sr<|Dd aG<|Dd (by exact aA rfl rfl aNR rfl (hlo _ rfl))<|Dd aG<|Dd eZ<|Dd eZ<|Dd eZ<|Dd aM<|Dd aM<|Dd aM<|Zz<|Sq<|Sr<|Dd aG<|Dd dK<|Zz ?_;refine Cn ?_ ?_<;>intro hc2
  ·refine Sr<|Dd aG<|Dd (by exact aA rfl rfl call195 rfl (hrd _ rfl))<|Dd (by exact bM (id:=7) rfl ZK rfl rfl)<|Uu (kG sizeOf151)<|Zz<|Sr<|Dd (rC cR sizeOf151)<|Dd (by exact aA rfl rfl call196 rfl (O5 o _ hoo))<|Dd aG<|Dd eZ<|Dd eZ<|Dd aM<|Dd aM<|Zz<|Sq ?_;refine bF (t:=35) (n:=8) (X:=decide ((iV o).2=0)&&decide ((iV o).1=s)) ?_ ?_
   ·all_goals refine Dd aG ?_
    all_goals refine Dd dK<|Dm ?_
    all_goals refine Sp 31 (fun h31=>?_) fun h31=>?_
    all_goals try contradiction
    all_goals first|refine Fo<|Fo<|Fo ?_|refine On aG<|On aG<|On B3 ?_
    all_goals refine Dd cN<|Zz ?_
    all_goals(exact⟨⟨_,rfl,by(simp_all;done)⟩,rfl,rfl,rfl⟩)
   refine Cn ?_ ?_<;>intro hc3
   ·have hq:=MR hc3;rw[aNu ⟨he,Prod.ext hq.2 hq.1⟩];refine Sr<|Dd (rC cR sizeOf151)<|Uu (kG sizeOf151)<|Dd aM<|Zz<|aE ?_;refine tX (H':=[]) (.inr rfl) rfl (rl' cR sizeOf151) (aW rfl) (Fin.wk (r:=.tup [av (bN o),iv 0]) (by simp) trivial trivial) ?_;exact Qq
   have hq:=MS hc3;rw[aNt (fun h=>hq ⟨congrArg Prod.snd h.2,congrArg Prod.fst h.2⟩)];refine aF<|Sr<|Dd (wV aAa)<|Uu (kG sizeOf151)<|Dd aM<|Zz<|aE ?_;refine tX (H':=[]) (.inr rfl) rfl (rl' cR sizeOf151) (aW rfl) (Fin.wk (r:=.tup [av (bN zObj),iv 5]) (by simp) trivial trivial) ?_;exact Qq
  exact absurd rfl (aNs hc2)
 refine aF<|Sr<|Dd aG<|Dd (by exact aA rfl rfl aNR rfl (aIL s _ hs))<|Dd aG<|Dd eZ<|Dd eZ<|Dd eZ<|Dd aM<|Dd aM<|Dd aM<|Zz<|Sq<|Sr<|Dd aG<|Dd dK<|Zz ?_;refine Cn ?_ ?_<;>intro hc4
 ·exact absurd (aNr hc4) he
 refine aF<|Sr<|Dd (wV aAa)<|Uu (kG sizeOf151)<|Dd aM<|Zz<|aE ?_;rw[aNt (fun h=>he h.1)];refine tX (H':=[]) (.inr rfl) rfl (rl' cR sizeOf151) (aW rfl) (Fin.wk (r:=.tup [av (bN zObj),iv 5]) (by simp) trivial trivial) ?_;exact Qq
theorem aGZ(s:ByteArray)(H:aB)(hs:s.size<=20000):aH Tryz.prog 116 [sv s] H (fun r H'=>r=av (bC (iF s.data.toList))/\H'=H):=by
 refine Pu ?_;have hsz:=bB s;obtain ⟨W,hW⟩:∃W,W=eO 32 s.data.toList:=⟨_,rfl⟩;obtain ⟨w0,hw0⟩:∃w,w=W.headD []:=⟨_,rfl⟩;obtain ⟨rs,hrs⟩:∃r,r=s.data.toList.drop (w0.length+1):=⟨_,rfl⟩;have hrl:rs.length<=s.size:=by rw[hrs,aOK,hsz];omega
 have hg:iF s.data.toList=AG W w0 rs:=by rw[iF,<-hW,<-hw0,<-hrs]
 have hC:∃b,∀H,aH Tryz.prog 113 [sv s,sv sSp] H (fun r H'=>r=.tup [sv (ofL w0),sv (ofL rs),bv b]/\H'=H):=by
  obtain ⟨b,hb⟩:=aH4 s;rw[<-hW,<-hw0,<-hrs]at hb;exact⟨b,fun H=>by rw[<-hb];exact aLt s H (by omega)⟩
 obtain ⟨b,hC⟩:=hC;have hSl:(dD s).length=W.length:=by rw[aBC,hW]
 have hml:((dD s).map encStr).length=W.length:=by rw[aNv,hSl]
 have hSg:∀i,i<W.length->((dD s).map encStr)[i]?=some [.str (ofL (W.getD i []))]:=fun i hi=>by
  rw[hW];exact cA (f:=encStr) (aBD s i (by rw[hSl];exact hi))
 have hWs:∀i,(ofL (W.getD i [])).size<=s.size:=fun i=>by
  rw[eF,List.getD_eq_getElem?_getD];cases e:W[i]? with
  |none=>exact aOM _
  |some w =>
   have:=sR 32 (l:=s.data.toList) (w:=w) (by rw[<-hW];exact aOF e);rw[hsz]at this;exact this
 have hWl:W.length<=s.size+1:=by
  rw[hW,sS];have:=List.count_le_length (l:=s.data.toList) (a:=32);omega
 have hjl:((dD s).drop 3).length<=20001:=by rw[aOK,hSl];omega
 have hjs:dA ((dD s).drop 3)<=20000*((dD s).drop 3).length:=qK (fun w hw=>by
  have hw2:=List.mem_of_mem_drop hw;rw[dD,<-hW]at hw2;obtain ⟨x,hx,rfl⟩:=List.mem_map.1 hw2;have:=sR 32 (l:=s.data.toList) (w:=x) (by rw[<-hW];exact hx);show (ofL x).size<=_;rw[eF];omega)
 rw[hg,AG];refine Bd func116 rfl ntmps116<|Sr<|Dd (by exact bM (id:=2) rfl ZJ rfl rfl)<|Zz<|Sr<|Dd aG<|Dd (by exact aA rfl rfl call154 rfl (aBE s _ (by omega)))<|Dd aM<|Zz<|Sr<|Dd aG<|Dd (by exact aA rfl rfl call113 rfl (hC _))<|Dd aG<|Dd eZ<|Dd eZ<|Dd eZ<|Dd aM<|Dd aM<|Dd aM<|Zz<|Sq<|aD<|Sr<|Dd aG<|Dd B3<|Da ?_;refine Cn ?_ ?_<;>intro hc1
 ·have h1:w0=aCg:=oT.1 (aNr hc1);rw[aNu h1];refine Sr<|Dd aG<|Dd (by exact aA rfl rfl call155 rfl (YB (ofL rs) _ (by rw[eF];omega)))<|Dd aG<|Dd eZ<|Dd eZ<|Dd (by exact bM (id:=7) rfl ZK rfl rfl)<|Uu (kG sizeOf151)<|Dd aM<|Zz<|Sr<|Dd (rC cR sizeOf151)<|Dd (wV CJ)<|Uu (kG bA)<|Zz<|aE ?_;refine dC (H':=[]) (.inr rfl) rfl (rl' bW bA) (Fin.wk (r:=av (bC ⟨1,sNil,sNil,sNil,0,0,sNil,sNil,[],(qA (ofL rs)).1⟩)) (by simp) trivial trivial) ?_;exact Qq
 have h1:¬ w0=aCg:=fun e=>aNs hc1 (oT.2 e);rw[aNt h1];refine Sq ?_;refine bF (t:=30) (n:=9) (X:=decide (ofL w0=⟨#[109,111,118,101]⟩)&&decide ((((dD s).map encStr).length:Int)=4)) ?_ ?_
 ·all_goals refine Dd aG ?_
  all_goals refine Dd B3<|Dm ?_
  all_goals refine Sp 33 (fun h33=>?_) fun h33=>?_
  all_goals try contradiction
  all_goals first|refine Fo<|Fo<|Fo ?_|refine On aG<|On (fZ aC)<|On dK ?_
  all_goals refine Dd cN<|Da ?_
  all_goals(exact⟨⟨_,rfl,by(simp_all;done)⟩,rfl,rfl,rfl⟩)
 refine Cn ?_ ?_<;>intro hc2
 ·have h2:ofL w0=ofL ZO/\_:=MR hc2;rw[oT,hml]at h2;rw[aNu ⟨h2.1,by omega⟩];have i1:=hSg 1 (by omega);have i2:=hSg 2 (by omega);have i3:=hSg 3 (by omega);have s2:=hWs 2;have s3:=hWs 3;refine Sq<|aP follows<|Cr [] (fun _ _=>aG)<|Cr [] (fun _ _=>(zV bT))<|Cr [] (fun _ _=>(kS isAgg9))<|Cr [] (fun _ _=>aG)<|Cr [] (fun _ _=>(zV bT))<|Cr [] (fun _ _=>(kS isAgg9))<|Cr [] (fun H1 hH=>by exact aA rfl rfl call156 rfl (UQ (ofL (W.getD 2 [])) _ (by omega)))<|Cr [] (fun _ _=>aG)<|Cr [] (fun _ _=>(zV bT))<|Cr [] (fun _ _=>(kS isAgg9))<|Cr [] (fun H1 hH=>by exact aA rfl rfl call156 rfl (UQ (ofL (W.getD 3 [])) _ (by omega)))<|Cr [] (fun _ _=>(wV aEy))<|Cr [] (fun _ _=>(wV CJ))<|Cp [2] (fun H1 hH=>by exact bX rfl bA rfl rfl rfl rfl ((hH _ rfl).trans rfl) rfl rfl rfl)<|bK<|Kr<|aE ?_;refine dC (H':=[]) (.inr rfl) rfl (rl' bW bA) (Fin.wk (r:=av (bC ⟨2,ofL (W.getD 1 []),sNil,sNil,NY (W.getD 2 []),NY (W.getD 3 []),sNil,sNil,[],zObj⟩)) (by simp) trivial trivial) ?_;exact Qq
 have h2:¬ (ofL w0=ofL ZO/\_):=MS hc2;rw[oT,hml]at h2;rw[aNt (fun h=>h2 ⟨h.1,by omega⟩)];refine Sq ?_;refine bF (t:=51) (n:=9) (X:=decide (ofL w0=⟨#[116,97,103]⟩)&&decide ((3:Int)<(((dD s).map encStr).length:Int))) ?_ ?_
 ·all_goals refine Dd aG ?_
  all_goals refine Dd B3<|Dm ?_
  all_goals refine Sp 54 (fun h54=>?_) fun h54=>?_
  all_goals try contradiction
  all_goals first|refine Fo<|Fo<|Fo ?_|refine On aG<|On (fZ aC)<|On mN ?_
  all_goals refine Dd cN<|Da ?_
  all_goals(exact⟨⟨_,rfl,by(simp_all;done)⟩,rfl,rfl,rfl⟩)
 refine Cn ?_ ?_<;>intro hc3
 ·have h3:ofL w0=ofL aAq/\_:=MR hc3;rw[oT,hml]at h3;rw[aNu ⟨h3.1,by omega⟩];have i1:=hSg 1 (by omega);have i2:=hSg 2 (by omega);have hJe:bs ((dD s).drop 3)=W.drop 3:=by
   rw[bs,dD,<-hW,List.map_drop,List.map_map];congr 1;exact(List.map_congr_left fun x _=>cO x).trans (List.map_id _)
  have hj:∀H,aH Tryz.prog 158 [.pv (aS ((dD s).drop 3)),sv ⟨#[32]⟩] H (fun x H'=>x=sv (ofL (cM [32] (W.drop 3)))/\H'=H):=fun H=>by
   have:=rV ((dD s).drop 3) ⟨#[32]⟩ H (by decide) (by show 1*_+_+_<_;omega);rw[hJe]at this;exact this
  have hJs:(ofL (cM [32] (W.drop 3))).size<1099511627776:=by
   have:=mI ((dD s).drop 3);rw[hJe]at this;rw[eF];omega
  obtain ⟨J,hJ⟩:∃J,J=ofL (cM [32] (W.drop 3)):=⟨_,rfl⟩;rw[<-hJ]at hJs |-;simp only[<-hJ]at hj;have htl:((hY J).1.map dT).length=(hY J).1.length:=aNv _;refine Sr<|Dd aG<|Dd (by exact xC (l:=3) (h:=((dD s).map encStr).length) (rows':=((dD s).drop 3).map encStr) rfl bT rfl (LY _) rfl rfl (by omega) (aOB _) (by rw[List.take_length];exact List.map_drop.symm))<|Dd (by exact aA rfl rfl nT rfl (hj _))<|Dd (by exact aA rfl rfl aNR rfl (aIL J _ hJs))<|Dd aG<|Dd eZ<|Dd eZ<|Dd eZ<|Dd aM<|Dd aM<|Dd aM<|Zz<|Sr<|Dd aG<|Dd (fZ gE)<|Dd dK<|Zz ?_;refine Cn ?_ ?_<;>intro hc4
  ·have h4:(hY J).1.length=1:=by have:=aNr hc4;omega
   obtain ⟨f,hf⟩:=List.length_eq_one_iff.1 h4;rw[hf];have hf0:([f].map dT)[0]?=some [.int .i64 f.kind,.str f.text,.int .i64 f.pos]:=rfl;refine Sq<|aP follows<|Cr [] (fun _ _=>aG)<|Cr [] (fun _ _=>(zV bT))<|Cr [] (fun _ _=>(kS isAgg9))<|Cr [] (fun _ _=>aG)<|Cr [] (fun _ _=>(zV bT))<|Cr [] (fun _ _=>(kS isAgg9))<|Cr [] (fun _ _=>aG)<|Cr [] (fun _ _=>(zV mM))<|Cr [] (fun _ _=>(fp' kN))<|Cr [] (fun _ _=>(kS isAgg9))<|Cr [] (fun _ _=>(wV CJ))<|Cp [2] (fun H1 hH=>by exact bX rfl bA rfl rfl rfl rfl ((hH _ rfl).trans rfl) rfl rfl rfl)<|bK<|Kr<|aE ?_;refine dC (H':=[]) (.inr rfl) rfl (rl' bW bA) (Fin.wk (r:=av (bC ⟨3,ofL (W.getD 1 []),sNil,sNil,0,0,ofL (W.getD 2 []),f.text,[],zObj⟩)) (by simp) trivial trivial) ?_;exact Qq
  have h4:(hY J).1.length≠1:=by have:=aNs hc4;omega
  split
  ·next f hf=>rw[hf]at h4;exact absurd rfl h4
  refine aF<|Sr<|Dd (wV CJ)<|Uu (kG bA)<|Zz<|aE ?_;refine dC (H':=[]) (.inr rfl) rfl (rl' bW bA) (Fin.wk (r:=av (bC VO)) (by simp) trivial trivial) ?_;exact Qq
 have h3:¬ (ofL w0=ofL aAq/\_):=MS hc3;rw[oT,hml]at h3;rw[aNt (fun h=>h3 ⟨h.1,by omega⟩)];refine Sq ?_;refine bF (t:=81) (n:=9) (X:=decide (ofL w0=⟨#[114,101,102,115]⟩)&&decide ((1:Int)<(((dD s).map encStr).length:Int))) ?_ ?_
 ·all_goals refine Dd aG ?_
  all_goals refine Dd B3<|Dm ?_
  all_goals refine Sp 84 (fun h84=>?_) fun h84=>?_
  all_goals try contradiction
  all_goals first|refine Fo<|Fo<|Fo ?_|refine On aG<|On (fZ aC)<|On mN ?_
  all_goals refine Dd cN<|Da ?_
  all_goals(exact⟨⟨_,rfl,by(simp_all;done)⟩,rfl,rfl,rfl⟩)
 refine Cn ?_ ?_<;>intro hc5
 ·have h4:ofL w0=ofL ZN/\_:=MR hc5;rw[oT,hml]at h4;rw[aNu ⟨h4.1,by omega⟩];have i1:=hSg 1 (by omega);refine Sq<|aP follows<|Cr [] (fun _ _=>aG)<|Cr [] (fun _ _=>(zV bT))<|Cr [] (fun _ _=>(kS isAgg9))<|Cr [] (fun _ _=>aG)<|Cr [] (fun H1 hH=>by exact xC (l:=2) (h:=((dD s).map encStr).length) (rows':=((W.drop 2).map ofL).map encStr) rfl bT rfl (LY _) rfl rfl (by omega) (aOB _) (by rw[List.take_length,dD,<-hW,List.map_drop,List.map_drop];rfl))<|Cr [] (fun _ _=>(wV CJ))<|Cp [2] (fun H1 hH=>by exact bX rfl bA rfl rfl rfl rfl ((hH _ rfl).trans rfl) rfl rfl rfl)<|bK<|Kr<|aE ?_;refine dC (H':=[]) (.inr rfl) rfl (rl' bW bA) (Fin.wk (r:=av (bC ⟨4,ofL (W.getD 1 []),sNil,sNil,0,0,sNil,sNil,(W.drop 2).map ofL,zObj⟩)) (by simp) trivial trivial) ?_;exact Qq
 have h4:¬ (ofL w0=ofL ZN/\_):=MS hc5;rw[oT,hml]at h4;rw[aNt (fun h=>h4 ⟨h.1,by omega⟩)];refine Sq ?_;refine bF (t:=95) (n:=9) (X:=decide (ofL w0=⟨#[100,114,111,112]⟩)&&decide ((((dD s).map encStr).length:Int)=2)) ?_ ?_
 ·all_goals refine Dd aG ?_
  all_goals refine Dd B3<|Dm ?_
  all_goals refine Sp 98 (fun h98=>?_) fun h98=>?_
  all_goals try contradiction
  all_goals first|refine Fo<|Fo<|Fo ?_|refine On aG<|On (fZ aC)<|On dK ?_
  all_goals refine Dd cN<|Da ?_
  all_goals(exact⟨⟨_,rfl,by(simp_all;done)⟩,rfl,rfl,rfl⟩)
 refine Cn ?_ ?_<;>intro hc6
 ·have h5:ofL w0=ofL ZQ/\_:=MR hc6;rw[oT,hml]at h5;rw[aNu ⟨h5.1,by omega⟩];have i1:=hSg 1 (by omega);refine Sr<|Dd aG<|Dd (zV bT)<|Dd (kS isAgg9)<|Dd (wV CJ)<|Uu (kG bA)<|Zz<|aE ?_;refine dC (H':=[]) (.inr rfl) rfl (rl' bW bA) (Fin.wk (r:=av (bC ⟨5,ofL (W.getD 1 []),sNil,sNil,0,0,sNil,sNil,[],zObj⟩)) (by simp) trivial trivial) ?_;exact Qq
 have h5:¬ (ofL w0=ofL ZQ/\_):=MS hc6;rw[oT,hml]at h5;rw[aNt (fun h=>h5 ⟨h.1,by omega⟩)];refine Sq ?_;refine bF (t:=107) (n:=9) (X:=decide (ofL w0=⟨#[115,112,108,105,116]⟩)&&decide ((((dD s).map encStr).length:Int)=4)) ?_ ?_
 ·all_goals refine Dd aG ?_
  all_goals refine Dd B3<|Dm ?_
  all_goals refine Sp 110 (fun h110=>?_) fun h110=>?_
  all_goals try contradiction
  all_goals first|refine Fo<|Fo<|Fo ?_|refine On aG<|On (fZ aC)<|On dK ?_
  all_goals refine Dd cN<|Da ?_
  all_goals(exact⟨⟨_,rfl,by(simp_all;done)⟩,rfl,rfl,rfl⟩)
 refine Cn ?_ ?_<;>intro hc7
 ·have h6:ofL w0=ofL QU/\_:=MR hc7;rw[oT,hml]at h6;rw[aNu ⟨h6.1,by omega⟩];have i1:=hSg 1 (by omega);have i2:=hSg 2 (by omega);have i3:=hSg 3 (by omega);refine Sq<|aP follows<|Cr [] (fun _ _=>aG)<|Cr [] (fun _ _=>(zV bT))<|Cr [] (fun _ _=>(kS isAgg9))<|Cr [] (fun _ _=>aG)<|Cr [] (fun _ _=>(zV bT))<|Cr [] (fun _ _=>(kS isAgg9))<|Cr [] (fun _ _=>aG)<|Cr [] (fun _ _=>(zV bT))<|Cr [] (fun _ _=>(kS isAgg9))<|Cr [] (fun _ _=>(wV CJ))<|Cp [2] (fun H1 hH=>by exact bX rfl bA rfl rfl rfl rfl ((hH _ rfl).trans rfl) rfl rfl rfl)<|bK<|Kr<|aE ?_;refine dC (H':=[]) (.inr rfl) rfl (rl' bW bA) (Fin.wk (r:=av (bC ⟨6,ofL (W.getD 1 []),ofL (W.getD 3 []),ofL (W.getD 2 []),0,0,sNil,sNil,[],zObj⟩)) (by simp) trivial trivial) ?_;exact Qq
 have h6:¬ (ofL w0=ofL QU/\_):=MS hc7;rw[oT,hml]at h6;rw[aNt (fun h=>h6 ⟨h.1,by omega⟩)];refine Sq ?_;refine bF (t:=125) (n:=9) (X:=decide (ofL w0=⟨#[106,111,105,110]⟩)&&decide ((((dD s).map encStr).length:Int)=3)) ?_ ?_
 ·all_goals refine Dd aG ?_
  all_goals refine Dd B3<|Dm ?_
  all_goals refine Sp 128 (fun h128=>?_) fun h128=>?_
  all_goals try contradiction
  all_goals first|refine Fo<|Fo<|Fo ?_|refine On aG<|On (fZ aC)<|On dK ?_
  all_goals refine Dd cN<|Da ?_
  all_goals(exact⟨⟨_,rfl,by(simp_all;done)⟩,rfl,rfl,rfl⟩)
 refine Cn ?_ ?_<;>intro hc8
 ·have h7:ofL w0=ofL ZP/\_:=MR hc8;rw[oT,hml]at h7;rw[aNu ⟨h7.1,by omega⟩];have i1:=hSg 1 (by omega);have i2:=hSg 2 (by omega);refine Sq<|aP follows<|Cr [] (fun _ _=>aG)<|Cr [] (fun _ _=>(zV bT))<|Cr [] (fun _ _=>(kS isAgg9))<|Cr [] (fun _ _=>aG)<|Cr [] (fun _ _=>(zV bT))<|Cr [] (fun _ _=>(kS isAgg9))<|Cr [] (fun _ _=>(wV CJ))<|Cp [2] (fun H1 hH=>by exact bX rfl bA rfl rfl rfl rfl ((hH _ rfl).trans rfl) rfl rfl rfl)<|bK<|Kr<|aE ?_;refine dC (H':=[]) (.inr rfl) rfl (rl' bW bA) (Fin.wk (r:=av (bC ⟨7,ofL (W.getD 1 []),ofL (W.getD 2 []),sNil,0,0,sNil,sNil,[],zObj⟩)) (by simp) trivial trivial) ?_;exact Qq
 have h7:¬ (ofL w0=ofL ZP/\_):=MS hc8;rw[oT,hml]at h7;rw[aNt (fun h=>h7 ⟨h.1,by omega⟩)];refine aF<|Sr<|Dd (wV CJ)<|Uu (kG bA)<|Zz<|aE ?_;refine dC (H':=[]) (.inr rfl) rfl (rl' bW bA) (Fin.wk (r:=av (bC VO)) (by simp) trivial trivial) ?_;exact Qq
def HW(l:List GEdit):List (List AV):=l.map fun e=>(bC e).map AV.pv
theorem aBw(l:List GEdit):(HW l).length=l.length:=aNv _
theorem aBx(l:List GEdit)(e:GEdit):HW l++[(bC e).map AV.pv]=HW (l++[e]):=by rw[HW,HW,List.map_append];rfl
theorem GT(H:aB)(l:List GEdit):∀r∈HW l,∀a∈r,Clo H a:=by intro r hr a ha;obtain ⟨d,_,rfl⟩:=List.mem_map.1 hr;obtain ⟨p,_,rfl⟩:=List.mem_map.1 ha;simp
theorem R3(H:aB)(s:ByteArray):∀r∈(lB s).rows,∀a∈r,Clo H a:=by intro r hr a ha;simp only[lB,bx,aNy]at hr;subst hr;rw[aNy]at ha;subst ha;simp
def pcE(t:ByteArray):bS:=[(0,sv t),(4,.ref 4 0 0 0)]
def lnE(t:ByteArray)(k:Nat):GEdit:=iF (AC (tJ (fN t k))).data.toList
def GF(t:ByteArray)(k:Nat):List GEdit:=(List.range k).map (lnE t)
theorem aBc(t:ByteArray)(k:Nat):GF t (k+1)=GF t k++[lnE t k]:=by rw[GF,List.range_succ,List.map_append];rfl
theorem K8(t:ByteArray)(k:Nat):(GF t k).length=k:=by rw[GF,aNv,List.length_range]
theorem K9(t:ByteArray):GF t (fW t).length=(jL t.data.toList).map fun s=>iF (Lib.trimSuffix s [10]):=by
 refine List.ext_getElem? fun k=>?_;rw[GF,aOP,aOP];by_cases h:k<(fW t).length
 ·have h1:=(aHC h).1;rw[fW,aOP]at h1;cases e:(jL t.data.toList)[k]? with
  |none=>rw[e]at h1;cases h1
  |some w =>
   rw[e]at h1;have h1:ofY w=tJ (fN t k):=Option.some.inj h1;rw[List.getElem?_range h,Option.map_some,Option.map_some,lnE,<-h1,aCp,cO];congr 3
 have h2:(jL t.data.toList)[k]?=none:=by
  rw[fW,aNv]at h;exact List.getElem?_eq_none (by omega)
 rw[h2,List.getElem?_eq_none (by simpa using h)];rfl
def pcK(t s:ByteArray)(k:Nat):aB:=[(933,lB s),(905,⟨k,15,153,HW (GF t k)⟩),(4,bx 1 23 [.osl 905 k 0 k])]
theorem aHN{c:Ob}{K:aB}(j:Nat):aB.get ((904,b)::(933,a)::K) j=aB.get ((933,a)::(904,b)::(933,c)::K) j:=by
 by_cases h1:j=904
 ·subst h1;rfl
 by_cases h2:j=933
 ·subst h2;rfl
 rw[get_cons_other _ _ h1,get_cons_other _ _ h2,get_cons_other _ _ h2,get_cons_other _ _ h1,get_cons_other _ _ h2]
theorem W2(s:ByteArray):(AC s).size<=s.size:=by
 rw[AC]
 split
 ·rw[<-bB,exL,aOJ,aOK,bB];omega
 exact aOB _
theorem LA(s:ByteArray):(tJ s).size<=s.size:=by
 rw[tJ]
 split
 ·exact aOB _
 rw[<-bB,exL,aOJ,aOK,bB];omega
theorem AS{t:ByteArray}{k:Nat}(h:k<=(fW t).length):(AC (tJ (fN t k))).size<=t.size:=Nat.le_trans (W2 _) (Nat.le_trans (LA _) (wC t k h).2)
theorem O4{w:List UInt8}(h:w.length<=n)(hn:n<4611686018427387904):(ofL w).size<4611686018427387904:=by rw[eF];omega
theorem YV(hs:s.size<1099511627776):okO (qA s).1:=by
 rw[qA]
 split
 ·exact⟨by decide,⟨by decide,fun t h=>by cases h⟩,by decide,fun s hs=>by cases hs⟩
 split
 ·exact OZ hs
 exact⟨by decide,⟨by decide,fun t h=>by cases h⟩,by decide,fun s hs=>by cases hs⟩
theorem xB:okO zObj:=⟨by decide,⟨by decide,fun t h=>by cases h⟩,by decide,fun s hs=>by cases hs⟩
theorem xX:([]:List ByteArray).length<4611686018427387904/\∀s∈([]:List ByteArray),s.size<4611686018427387904:=⟨by decide,fun s hs=>by cases hs⟩
theorem dI:sNil.size<4611686018427387904:=by decide
theorem PX{s:List UInt8}(hs:s.length<=20000):S9 (iF s):=by
 have hw:∀i,(ofL ((eO 32 s).getD i [])).size<4611686018427387904:=fun i=>by
  refine O4 (n:=20000) ?_ (by decide);rw[List.getD_eq_getElem?_getD];cases e:(eO 32 s)[i]? with
  |none=>exact aOM _
  |some w=>exact Nat.le_trans (sR 32 (aOF e)) hs
 have hz:∀(op x y:Int),S9 ⟨op,sNil,sNil,sNil,x,y,sNil,sNil,[],zObj⟩:=fun op x y=>⟨⟨dI,dI,dI,dI⟩,xX,xB⟩;rw[iF,AG]
 split
 ·exact⟨⟨dI,dI,dI,dI⟩,xX,YV (by rw[eF,aOK];omega)⟩
 split
 ·exact⟨⟨hw 1,dI,dI,dI⟩,xX,xB⟩
 split
 ·split
  ·exact⟨⟨hw 1,dI,dI,hw 2⟩,xX,xB⟩
  exact hz _ _ _
 split
 ·refine⟨⟨hw 1,dI,dI,dI⟩,⟨?_,fun x hx=>?_⟩,xB⟩
  ·show (List.map _ _).length<_;have:=List.count_le_length (l:=s) (a:=32);rw[aNv,aOK,sS];omega
  obtain ⟨w,hw2,rfl⟩:=List.mem_map.1 hx;exact O4 (n:=20000) (Nat.le_trans (sR 32 (List.mem_of_mem_drop hw2)) hs) (by decide)
 split
 ·exact⟨⟨hw 1,dI,dI,dI⟩,xX,xB⟩
 split
 ·exact⟨⟨hw 1,hw 3,hw 2,dI⟩,xX,xB⟩
 split
 ·exact⟨⟨hw 1,hw 2,dI,dI⟩,xX,xB⟩
 exact hz _ _ _
theorem GG:∀ {t:ByteArray} {n:Nat},t.size<=n->(fW t).length<=n
 |t,0,h=>by rw[wN (by omega)];exact aOB _
 | t,n+1,h=>by
  by_cases hp:0<t.size
  ·rw[(yB hp).1,aNx];refine Nat.succ_le_succ (GG (n:=n) ?_);rw[HP]
   split
   ·exact aOM _
   next h1 =>
   obtain ⟨w,r,e1,e2,e3,e4,e5,e6⟩:=aES h1;rw[e3,aOG,<-szY,e5];omega
  rw[wN hp];exact aOM _
theorem aD8(t:ByteArray)(H:aB)(hs:t.size<1099511627776):aH Tryz.prog 50 [sv t] H (fun r H'=>r=.tup [.pv (jF (lI t).1),iv (lI t).2]/\H'=H):=by
 refine Pu ?_;rw[lI,<-K9];refine Bd func50 rfl ntmps50<|Sr<|Dd aM<|Dd aM<|Zz<|Sq<|Sr<|Dd aG<|Dd (nF underlying9)<|Dd mN<|Zz ?_;refine Cn ?_ ?_<;>intro hc1
 ·have h2:20000<t.size:=by have:=aNr hc1;omega
  rw[aNu h2];exact Sr<|Dd aM<|Dd aM<|Zz<|aE<|Ru<|Qq
 have h2:¬ 20000<t.size:=by have:=aNs hc1;omega
 rw[aNt h2];refine aF<|Sr<|Dd (by exact bM (id:=4) rfl aK3 rfl rfl)<|Zz<|Sq<|Sr<|Dd aG<|Dd (by exact aA rfl rfl call115 rfl (aHB t _ rfl))<|Zz<|aD ?_;obtain ⟨n,hn⟩:∃n,n=(fW t).length:=⟨_,rfl⟩;have hnl:n<=20000:=by rw[hn];exact GG (by omega)
 refine fL.ent (E':=[(0,sv t),(4,.ref 4 0 0 0),(12,.clo 153 [.ref 933 0 0 0])]) (H':=[(905,⟨0,15,153,[]⟩),(933,lB t),(4,bx 1 23 [.osl 905 0 0 0])]) ?_ ?_
 ·exact(cD.nz 905 15 153 rfl rfl ⟨⟨_,rfl,(by exact Nz.same (by(simp;done)))⟩,⟨_,rfl,(by exact Nz.same (by(simp;rfl)))⟩,⟨_,rfl,(by exact Nz.same (by(simp;rfl)))⟩,trivial⟩ ⟨⟨_,rfl,rfl,rfl,rfl,(by exact .inl ⟨rfl,(by exact R3 _ _)⟩)⟩,⟨_,rfl,rfl,rfl,rfl,(by exact .inr ⟨_,_,rfl,rfl,(by repeat(first|exact trivial|refine⟨(by exact Nz.own),?_⟩))⟩)⟩,trivial⟩ trivial)
 refine fL.ent (E':=[(0,sv t),(4,.ref 4 0 0 0),(12,.clo 153 [.ref 933 0 0 0])]) (H':=pcK t t 0) (cD.wk (Eb<|Ea<|Ea<|trivial) (Hc (R3 _ _)<|Hc (GT _ _)<|Ha<|trivial) trivial) ?_;refine BX (id:=904) (p:=13) (pcE t) rfl call153 rfl rfl (by simp[pcE];exact⟨rfl,rfl⟩) ?_;intro x hx1 hx2 hx3 hx4 hx5 hx6;have hround:∀k,k<n->cK Tryz.prog (.yld 904 0) [sv (tJ (fN t k))] ((904,LR x (pcE t))::pcK t (fN t (k+1)) k) (fun r H'=>r=bv true/\H'=(904,LR x (pcE t))::pcK t (fN t (k+1)) (k+1)):=by
  intro k hk;have hnx:=aBc t k;have hll:=K8 t k;have hls:=AS (t:=t) (k:=k) (by omega);have hla:(tJ (fN t k)).size<=t.size:=Nat.le_trans (LA _) (wC t k (by omega)).2;refine .inl ⟨904,0,rfl,?_⟩;refine QR [(0,sv t),(4,.ref 4 0 0 0),(5,sv (tJ (fN t k)))] (pcK t (fN t (k+1)) k) hx1 hx2 hx3 hx4 hx5 hx6 rfl rfl rfl ?_ ?_
  ·refine Rg<|Da ?_;exact(cD.wk (Eb<|Ea<|Eb<|trivial) (Hc (jW (by simp[pcE];rfl))<|Hc (R3 _ _)<|Hc (GT _ _)<|Ha<|trivial) ⟨rfl,rfl,rfl,rfl,trivial⟩)
  refine aD<|aP follows<|Cs (fun _ h=>lh nS h)<|Cs (fun _ _=>aG)<|Cs (fun H1 hH=>by exact aA rfl rfl call117 rfl (W1 (tJ (fN t k)) _ (by omega)))<|Cs (fun H1 hH=>by exact aA rfl rfl call116 rfl (aGZ (AC (tJ (fN t k))) _ (by omega)))<|Cs (fun H1 hH=>by exact aQ [bC (lnE t k)] rfl XD rfl rfl rfl rfl rfl (by intro r hr;rw[aNy]at hr;subst hr;rfl)) ?_;refine aX (r:=⟨_,none,[_]⟩) (DStep.plain rfl (fun H1 hH=>by exact cF (ps:=[bC (lnE t k)]) rfl XD aLm rfl ((hH _ rfl).trans rfl) rfl rfl rfl ((aBw _).trans hll) rfl (by intro r hr;rw[aNy]at hr;subst hr;rfl) (m:=1) rfl (by omega) rfl (aBx (GF t k) (lnE t k)))) rfl ?_;refine aX (r:=⟨_,none,[_]⟩) (DStep.plain rfl (fun H1 hH=>by exact(by exact bX rfl sizeOf23 rfl rfl rfl rfl ((hH _ rfl).trans rfl) rfl rfl rfl))) rfl ?_;refine bK<|Kr ?_;exact⟨[(933,lB (fN t (k+1))),(905,⟨k+1,15,153,HW (GF t k++[lnE t k])⟩),(4,bx 1 23 [.osl 905 (k+1) 0 (k+1)])],(cD.wk trivial (Hc (jW (by simp[pcE];rfl))<|Hc (R3 _ _)<|Hc (GT _ _)<|Ha<|trivial) ⟨rfl,rfl,rfl,rfl,trivial⟩),rfl,by rw[<-hnx];rfl⟩
 refine(aEG t (.yld 904 0) (fun k=>(904,LR x (pcE t))::pcK t (fN t k) k) hs (fun k=>rfl) (fun k hk=>?_)).mono ?_
 ·exact cK.congrG (hround k (by omega)) (fun j=>aHN j) (fun j=>rfl)
 rintro r H' ⟨rfl,rfl⟩;refine⟨x,_,rfl,by rw[hx1];decide,rfl,fun z=>?_⟩;rw[hx2];obtain ⟨L,hL⟩:∃L,L=GF t n:=⟨_,rfl⟩;have hLl:L.length=n:=by rw[hL];exact K8 t n
 rw[<-hn,<-hL];have hok:∀e∈L,S9 e:=fun e he=>by
  rw[hL,GF]at he;obtain ⟨k,hk,rfl⟩:=List.mem_map.1 he;have:=AS (t:=t) (k:=k) (by have:=List.mem_range.1 hk;omega);exact PX (by rw[bB];omega)
 refine Sq<|Sq ?_;refine fL.ent (cD.fzG (id:=905) (E':=[(0,sv t),(4,.ref 4 0 0 0)]) (H':=[(4,bx 1 23 [.pv (jF L)])]) (L.map bC) rfl (by rw[hL];exact D2 bC _) ?_ rfl ?_ ?_) ?_
 ·intro p hp;simp only[aOH,aOL,or_false]at hp;rcases hp with rfl|rfl<;>exact⟨_,rfl,.same (by simp;try rfl)⟩
 ·exact⟨⟨_,rfl,rfl,rfl,rfl,nG rfl (cG (.osl (by rw[<-hLl];exact sI bC L)) nO)⟩,trivial⟩
 ·exact trivial
 refine Rg<|Dd (bQ nS)<|Dd (by exact aA rfl rfl call118 rfl (ZX L _ (by omega) hok))<|Dd aG<|Dd eZ<|Dd eZ<|Dd aM<|Dd aM<|Zz<|Sq ?_;refine bF (t:=31) (n:=8) (X:=!decide ((gL L).2=0)||!decide ((gL L).1=t)) ?_ ?_
 ·all_goals refine Dd aG ?_
  all_goals refine Dd zW<|Dm ?_
  all_goals refine Sp 27 (fun h27=>?_) fun h27=>?_
  all_goals try contradiction
  all_goals first|refine Fo<|Fo<|Fo ?_|refine On aG<|On aG<|On TU ?_
  all_goals refine Dd cN<|Zz ?_
  all_goals(exact⟨⟨_,rfl,by(simp_all;done)⟩,rfl,rfl,rfl⟩)
 refine Cn ?_ ?_<;>intro hc2
 ·have hne:gL L≠(t,0):=fun e=>by have h:=hc2;rw[e]at h;simp at h
  rw[aNt hne];exact Sr<|Dd aM<|Dd aM<|Zz<|aE<|Ru<|Qq
 have hee:gL L=(t,0):=by have h:=hc2;simp only[aOR,Bool.not_eq_false',aOC]at h;exact Prod.ext h.2 h.1
 rw[aNu hee];exact aF<|Sr<|Dd (bQ nS)<|Dd aM<|Dd aM<|Zz<|aE<|Ru<|Qq
end Go.Proofs.YtmdicgjnmfolfaaGreatDoor
namespace Go.Proofs.YtmdicgjnmfolfaaGreatDoor
open Go.Proofs.Tryz
open Go.Abs Go.Lib
variable{α:Type}{l q t:List UInt8}{s:GSeal}
theorem XT(t:ByteArray):∀e∈(lI t).1,S9 e:=by
 intro e he;rw[lI]at he
 split at he
 ·cases he
 next hs =>
 split at he
 ·have he:e∈(jL t.data.toList).map fun s=>iF (Lib.trimSuffix s [10]):=he;rw[<-K9,GF]at he;obtain ⟨k,hk,rfl⟩:=List.mem_map.1 he;have:=AS (t:=t) (k:=k) (by have:=List.mem_range.1 hk;omega);exact PX (by rw[bB];omega)
 cases he
theorem UD(t:ByteArray):(lI t).1.length<=20000:=by
 rw[lI]
 split
 ·exact aOM _
 next hs =>
 split
 ·show ((jL t.data.toList).map fun s=>iF (Lib.trimSuffix s [10])).length<=_;rw[<-K9,K8];exact GG (by omega)
 exact aOM _
def F3{α:Type}(f:List UInt8->Option (α×List UInt8))(d:α)(l:List UInt8):α×List UInt8:=(f l).getD (d,l)
def p0(t:List UInt8):=F3 gW sNil t
def p1(t:List UInt8):=F3 mS 0 (p0 t).2
def p2(t:List UInt8):=F3 mS 0 (p1 t).2
def p3(t:List UInt8):=F3 mS 0 (p2 t).2
def p4(t:List UInt8):=F3 mS 0 (p3 t).2
def p5(t:List UInt8):=F3 gW sNil (p4 t).2
def p6(t:List UInt8):=F3 (uF gW) [] (p5 t).2
def p7(t:List UInt8):=F3 gW sNil (p6 t).2
def p8(t:List UInt8):=F3 gW sNil (p7 t).2
def p9(t:List UInt8):=F3 gW sNil (p8 t).2
def NL(t:List UInt8):=F3 mS 0 (p9 t).2
def NK(t:List UInt8):=F3 gW sNil (NL t).2
def NJ(t:List UInt8):=F3 Q4 zS (NK t).2
def NI(t:List UInt8):=F3 gW sNil (NJ t).2
def NH(t:List UInt8):=F3 gW sNil (NI t).2
def NG(t:List UInt8):=F3 (uF gW) [] (NH t).2
def NF(t:List UInt8):=F3 (uF F5) [] (NG t).2
def p17(t:List UInt8):=F3 Q4 zS (NF t).2
def NX:ByteArray:=⟨#[49]⟩
def D3(t:List UInt8):GRec:=⟨(p1 t).1,(p2 t).1,(p3 t).1,(p4 t).1,(p5 t).1,(p6 t).1,(lI (p7 t).1).1,(p8 t).1,decide ((p9 t).1=NX),(NL t).1,(NK t).1,(NJ t).1,⟨(NI t).1,(NH t).1,(NG t).1,(NF t).1,(p17 t).1⟩⟩
def RU(t:List UInt8):List Bool:=[(gW t).isSome,(mS (p0 t).2).isSome,(mS (p1 t).2).isSome,(mS (p2 t).2).isSome,(mS (p3 t).2).isSome,(gW (p4 t).2).isSome,((uF gW) (p5 t).2).isSome,(gW (p6 t).2).isSome,(gW (p7 t).2).isSome,(gW (p8 t).2).isSome,(mS (p9 t).2).isSome,(gW (NL t).2).isSome,(Q4 (NK t).2).isSome,(gW (NJ t).2).isSome,(gW (NI t).2).isSome,((uF gW) (NH t).2).isSome,((uF F5) (NG t).2).isSome,(Q4 (NF t).2).isSome]
def rT(t:List UInt8):Bool:=(RU t).all id
def iU(t:List UInt8):GRec×Int:=if 20000<t.length then(zR,2)else if rT t=true/\oK (D3 t)=(ofL t,0)then(D3 t,0)else(zR,5)
theorem iN{f:List UInt8->Option (α×List UInt8)}{d:α}{e:α->AV}:((f l).map fun p=>(e p.1,p.2)).getD (e d,l)=(e (F3 f d l).1,(F3 f d l).2):=by rw[F3];cases f l<;>rfl
theorem lA{f:List UInt8->Option (α×List UInt8)}{d:α}(h:∀p q,f l=some (p,q)->q.length<l.length):(F3 f d l).2.length<=l.length:=by
 rw[F3];cases e:f l with
 |none=>exact aOB _
 |some p=>exact Nat.le_of_lt (h p.1 p.2 e)
theorem Q3(h:Q4 l=some (s,q)):q.length<l.length/\pZ s.idx/\(s.sig.length<=l.length/\∀x∈s.sig,x.size<=l.length)/\(s.path.length<=l.length/\∀x∈s.path,x.size<=l.length):=by
 rw[Q4]at h;cases hn:mS l with
 |none=>rw[hn]at h;cases h
 | some p =>
  obtain ⟨i,r⟩:=p;have h1:=gO hn;rw[hn]at h;simp only at h;cases ha:uF gW r with
  |none=>rw[ha]at h;cases h
  | some p =>
   obtain ⟨a,r2⟩:=p;have h2:=uR ha;rw[ha]at h;simp only at h;cases hb:uF gW r2 with
   |none=>rw[hb]at h;cases h
   |some p =>
    obtain ⟨b,r3⟩:=p;have h3:=uR hb;rw[hb]at h;cases h;exact⟨by omega,h1.2,⟨by show a.length<=_;omega,fun x hx=>by have:=h2.2 x hx;omega⟩,by show b.length<=_;omega,fun x hx=>by have:=h3.2 x hx;omega⟩
theorem rK{f:List UInt8->Option (α×List UInt8)}{d:α}(Q:α->Prop)(hd:Q d)(h:∀p q,f l=some (p,q)->Q p):Q (F3 f d l).1:=by
 rw[F3];cases e:f l with
 |none=>exact hd
 |some p=>exact h p.1 p.2 e
theorem aDj(t:List UInt8):(p0 t).2.length<=t.length:=lA (fun p q h=>by have:=iO h;omega)
theorem aDh(t:List UInt8):(p1 t).2.length<=t.length:=Nat.le_trans (lA (fun p q h=>(gO h).1)) (aDj t)
theorem aDg(t:List UInt8):(p2 t).2.length<=t.length:=Nat.le_trans (lA (fun p q h=>(gO h).1)) (aDh t)
theorem aDf(t:List UInt8):(p3 t).2.length<=t.length:=Nat.le_trans (lA (fun p q h=>(gO h).1)) (aDg t)
theorem X1(t:List UInt8):(p4 t).2.length<=t.length:=Nat.le_trans (lA (fun p q h=>(gO h).1)) (aDf t)
theorem X0(t:List UInt8):(p5 t).2.length<=t.length:=Nat.le_trans (lA (fun p q h=>by have:=iO h;omega)) (X1 t)
theorem XZ(t:List UInt8):(p6 t).2.length<=t.length:=Nat.le_trans (lA (fun p q h=>by have:=(uR h).1;omega)) (X0 t)
theorem XY(t:List UInt8):(p7 t).2.length<=t.length:=Nat.le_trans (lA (fun p q h=>by have:=iO h;omega)) (XZ t)
theorem aDe(t:List UInt8):(p8 t).2.length<=t.length:=Nat.le_trans (lA (fun p q h=>by have:=iO h;omega)) (XY t)
theorem aDd(t:List UInt8):(p9 t).2.length<=t.length:=Nat.le_trans (lA (fun p q h=>by have:=iO h;omega)) (aDe t)
theorem RP(t:List UInt8):(NL t).2.length<=t.length:=Nat.le_trans (lA (fun p q h=>(gO h).1)) (aDd t)
theorem RN(t:List UInt8):(NK t).2.length<=t.length:=Nat.le_trans (lA (fun p q h=>by have:=iO h;omega)) (RP t)
theorem RM(t:List UInt8):(NJ t).2.length<=t.length:=Nat.le_trans (lA (fun p q h=>(Q3 h).1)) (RN t)
theorem RL(t:List UInt8):(NI t).2.length<=t.length:=Nat.le_trans (lA (fun p q h=>by have:=iO h;omega)) (RM t)
theorem RK(t:List UInt8):(NH t).2.length<=t.length:=Nat.le_trans (lA (fun p q h=>by have:=iO h;omega)) (RL t)
theorem RJ(t:List UInt8):(NG t).2.length<=t.length:=Nat.le_trans (lA (fun p q h=>by have:=(uR h).1;omega)) (RK t)
theorem RI(t:List UInt8):(NF t).2.length<=t.length:=Nat.le_trans (lA (fun p q h=>by have:=(aAN h).1;omega)) (RJ t)
theorem aGf(t:List UInt8):(p17 t).2.length<=t.length:=Nat.le_trans (lA (fun p q h=>(Q3 h).1)) (RI t)
theorem aDB{n:Nat}(h:Q4 l=some (s,q))(hn:l.length<=n):pZ s.idx/\(s.sig.length<=n/\∀x∈s.sig,x.size<=n)/\(s.path.length<=n/\∀x∈s.path,x.size<=n):=by obtain ⟨_,h1,h2,h3⟩:=Q3 h;exact⟨h1,⟨by omega,fun x hx=>by have:=h2.2 x hx;omega⟩,by omega,fun x hx=>by have:=h3.2 x hx;omega⟩
theorem aKd(t:List UInt8):pZ zS.idx/\(zS.sig.length<=t.length/\∀x∈zS.sig,x.size<=t.length)/\(zS.path.length<=t.length/\∀x∈zS.path,x.size<=t.length):=by simp[zS,pZ]
theorem aLT(t:List UInt8):(pZ) (p1 t).1:=by unfold p1;exact rK (f:=mS) (d:=0) (l:=(p0 t).2) (pZ) (⟨by decide,by decide⟩) (fun p q h=>(gO h).2)
theorem aLR(t:List UInt8):(pZ) (p2 t).1:=by unfold p2;exact rK (f:=mS) (d:=0) (l:=(p1 t).2) (pZ) (⟨by decide,by decide⟩) (fun p q h=>(gO h).2)
theorem aLP(t:List UInt8):(pZ) (p3 t).1:=by unfold p3;exact rK (f:=mS) (d:=0) (l:=(p2 t).2) (pZ) (⟨by decide,by decide⟩) (fun p q h=>(gO h).2)
theorem aLN(t:List UInt8):(pZ) (p4 t).1:=by unfold p4;exact rK (f:=mS) (d:=0) (l:=(p3 t).2) (pZ) (⟨by decide,by decide⟩) (fun p q h=>(gO h).2)
theorem aLL(t:List UInt8):(fun s:ByteArray=>s.size<=t.length) (p5 t).1:=by unfold p5;exact rK (f:=gW) (d:=sNil) (l:=(p4 t).2) (fun s:ByteArray=>s.size<=t.length) ((aOM _)) (fun p q h=>by have:=iO h;have:=X1 t;omega)
theorem aLJ(t:List UInt8):(fun l:List ByteArray=>l.length<=t.length/\∀x∈l,x.size<=t.length) (p6 t).1:=by unfold p6;exact rK (f:=(uF gW)) (d:=[]) (l:=(p5 t).2) (fun l:List ByteArray=>l.length<=t.length/\∀x∈l,x.size<=t.length) (⟨aOM _,by simp⟩) (fun p q h=>by have h1:=uR h;have h2:=X0 t;exact⟨by omega,fun x hx=>by have:=h1.2 x hx;omega⟩)
theorem aLH(t:List UInt8):(fun s:ByteArray=>s.size<=t.length) (p7 t).1:=by unfold p7;exact rK (f:=gW) (d:=sNil) (l:=(p6 t).2) (fun s:ByteArray=>s.size<=t.length) ((aOM _)) (fun p q h=>by have:=iO h;have:=XZ t;omega)
theorem aLF(t:List UInt8):(fun s:ByteArray=>s.size<=t.length) (p8 t).1:=by unfold p8;exact rK (f:=gW) (d:=sNil) (l:=(p7 t).2) (fun s:ByteArray=>s.size<=t.length) ((aOM _)) (fun p q h=>by have:=iO h;have:=XY t;omega)
theorem aJR(t:List UInt8):(pZ) (NL t).1:=by unfold NL;exact rK (f:=mS) (d:=0) (l:=(p9 t).2) (pZ) (⟨by decide,by decide⟩) (fun p q h=>(gO h).2)
theorem aJP(t:List UInt8):(fun s:ByteArray=>s.size<=t.length) (NK t).1:=by unfold NK;exact rK (f:=gW) (d:=sNil) (l:=(NL t).2) (fun s:ByteArray=>s.size<=t.length) ((aOM _)) (fun p q h=>by have:=iO h;have:=RP t;omega)
theorem aJN(t:List UInt8):(fun s:GSeal=>pZ s.idx/\(s.sig.length<=t.length/\∀x∈s.sig,x.size<=t.length)/\(s.path.length<=t.length/\∀x∈s.path,x.size<=t.length)) (NJ t).1:=by unfold NJ;exact rK (f:=Q4) (d:=zS) (l:=(NK t).2) (fun s:GSeal=>pZ s.idx/\(s.sig.length<=t.length/\∀x∈s.sig,x.size<=t.length)/\(s.path.length<=t.length/\∀x∈s.path,x.size<=t.length)) (aKd t) (fun p q h=>aDB h (RN t))
theorem aJL(t:List UInt8):(fun s:ByteArray=>s.size<=t.length) (NI t).1:=by unfold NI;exact rK (f:=gW) (d:=sNil) (l:=(NJ t).2) (fun s:ByteArray=>s.size<=t.length) ((aOM _)) (fun p q h=>by have:=iO h;have:=RM t;omega)
theorem aJJ(t:List UInt8):(fun s:ByteArray=>s.size<=t.length) (NH t).1:=by unfold NH;exact rK (f:=gW) (d:=sNil) (l:=(NI t).2) (fun s:ByteArray=>s.size<=t.length) ((aOM _)) (fun p q h=>by have:=iO h;have:=RL t;omega)
theorem aJH(t:List UInt8):(fun l:List ByteArray=>l.length<=t.length/\∀x∈l,x.size<=t.length) (NG t).1:=by unfold NG;exact rK (f:=(uF gW)) (d:=[]) (l:=(NH t).2) (fun l:List ByteArray=>l.length<=t.length/\∀x∈l,x.size<=t.length) (⟨aOM _,by simp⟩) (fun p q h=>by have h1:=uR h;have h2:=RK t;exact⟨by omega,fun x hx=>by have:=h1.2 x hx;omega⟩)
theorem aJF(t:List UInt8):(fun l:List (Int×Int)=>l.length<=t.length/\∀q∈l,pZ q.1/\pZ q.2) (NF t).1:=by unfold NF;exact rK (f:=(uF F5)) (d:=[]) (l:=(NG t).2) (fun l:List (Int×Int)=>l.length<=t.length/\∀q∈l,pZ q.1/\pZ q.2) (⟨aOM _,by simp⟩) (fun p q h=>by have h1:=aAN h;have h2:=RJ t;exact⟨by omega,h1.2⟩)
theorem aJD(t:List UInt8):(fun s:GSeal=>pZ s.idx/\(s.sig.length<=t.length/\∀x∈s.sig,x.size<=t.length)/\(s.path.length<=t.length/\∀x∈s.path,x.size<=t.length)) (p17 t).1:=by unfold p17;exact rK (f:=Q4) (d:=zS) (l:=(NF t).2) (fun s:GSeal=>pZ s.idx/\(s.sig.length<=t.length/\∀x∈s.sig,x.size<=t.length)/\(s.path.length<=t.length/\∀x∈s.path,x.size<=t.length)) (aKd t) (fun p q h=>aDB h (RI t))
theorem aIs{N:Nat}(hN:N<=20000){k a n c od:Int}{br ta fr nm rs:ByteArray}{pa so:List ByteArray}{ed:List GEdit}{ye:Bool}{sl ps:GSeal}{tr:List (Int×Int)}(h1:pZ k)(h2:pZ a)(h3:pZ n)(h4:pZ c)(h10:pZ od)(h5:br.size<=N)(h8:ta.size<=N)(h11:fr.size<=N)(h13:nm.size<=N)(h14:rs.size<=N)
  (h6:pa.length<=N/\∀x∈pa,x.size<=N) (h15:so.length<=N/\∀x∈so,x.size<=N) (h16:tr.length<=N/\∀q∈tr,pZ q.1/\pZ q.2) (he:ed.length<=20000) (he2:∀e∈ed,S9 e)
  (h12:pZ sl.idx/\(sl.sig.length<=N/\∀x∈sl.sig,x.size<=N)/\(sl.path.length<=N/\∀x∈sl.path,x.size<=N)) (h17:pZ ps.idx/\(ps.sig.length<=N/\∀x∈ps.sig,x.size<=N)/\(ps.path.length<=N/\∀x∈ps.path,x.size<=N)) :
  iT ⟨k,a,n,c,br,pa,ed,ta,ye,od,fr,sl,⟨nm,rs,so,tr,ps⟩⟩/\pa.length<549755813888:=by
 have hL:∀ {l:List ByteArray},(l.length<=N/\∀x∈l,x.size<=N)->KV l:=fun h=>⟨by omega,fun x hx=>by have:=h.2 x hx;omega⟩;obtain ⟨s1,s2,s3⟩:=h12;obtain ⟨q1,q2,q3⟩:=h17;exact⟨⟨⟨h1,h2,h3,h4,h10⟩,⟨by show br.size<_;omega,by show ta.size<_;omega,by show fr.size<_;omega⟩,hL h6,⟨by show ed.length<_;omega,he2⟩,⟨s1,hL s2,hL s3⟩,by show nm.size<_;omega,by show rs.size<_;omega,hL h15,by show tr.length<_;have:=h16.1;omega,q1,hL q2,hL q3⟩,by have:=h6.1;omega⟩
theorem aDT(ht:t.length<=20000):iT (D3 t)/\(D3 t).parents.length<549755813888 :=aIs ht (aLT t) (aLR t) (aLP t) (aLN t) (aJR t) (aLL t) (aLF t) (aJP t) (aJL t) (aJJ t) (aLJ t) (aJH t) (aJF t) (UD _) (XT _) (aJN t) (aJD t)
theorem dH{β:Type}{o:Option α}{g:α->β}:(o.map g=none↔o.isSome=false)/\((o.map g).isSome=o.isSome):=by cases o<;>simp
theorem lC{b:Bool}(h:b∈RU t)(hb:b=false):rT t=false:=by rw[rT,List.all_eq_false];exact⟨b,h,by rw[hb];decide⟩
theorem aMr(t:List UInt8):(zM t).getD (sv sNil,t)=(sv (p0 t).1,(p0 t).2):=by unfold p0 zM;exact iN (f:=gW) (d:=sNil) (l:=t) (e:=fun v=>sv v)
theorem aL3(t:List UInt8)(h:zM t=none):rT t=false:=lC (b:=(gW t).isSome) (List.mem_of_getElem? (i:=0) rfl) (dH.1.1 h)
theorem aMq(t:List UInt8):(vX (p0 t).2).getD (iv 0,(p0 t).2)=(iv (p1 t).1,(p1 t).2):=by unfold p1 vX;exact iN (f:=mS) (d:=0) (l:=(p0 t).2) (e:=fun v=>iv v)
theorem aLU(t:List UInt8)(h:vX (p0 t).2=none):rT t=false:=lC (b:=(mS (p0 t).2).isSome) (List.mem_of_getElem? (i:=1) rfl) (dH.1.1 h)
theorem aMp(t:List UInt8):(vX (p1 t).2).getD (iv 0,(p1 t).2)=(iv (p2 t).1,(p2 t).2):=by unfold p2 vX;exact iN (f:=mS) (d:=0) (l:=(p1 t).2) (e:=fun v=>iv v)
theorem aLS(t:List UInt8)(h:vX (p1 t).2=none):rT t=false:=lC (b:=(mS (p1 t).2).isSome) (List.mem_of_getElem? (i:=2) rfl) (dH.1.1 h)
theorem aMo(t:List UInt8):(vX (p2 t).2).getD (iv 0,(p2 t).2)=(iv (p3 t).1,(p3 t).2):=by unfold p3 vX;exact iN (f:=mS) (d:=0) (l:=(p2 t).2) (e:=fun v=>iv v)
theorem aLQ(t:List UInt8)(h:vX (p2 t).2=none):rT t=false:=lC (b:=(mS (p2 t).2).isSome) (List.mem_of_getElem? (i:=3) rfl) (dH.1.1 h)
theorem aMn(t:List UInt8):(vX (p3 t).2).getD (iv 0,(p3 t).2)=(iv (p4 t).1,(p4 t).2):=by unfold p4 vX;exact iN (f:=mS) (d:=0) (l:=(p3 t).2) (e:=fun v=>iv v)
theorem aLO(t:List UInt8)(h:vX (p3 t).2=none):rT t=false:=lC (b:=(mS (p3 t).2).isSome) (List.mem_of_getElem? (i:=4) rfl) (dH.1.1 h)
theorem aMm(t:List UInt8):(zM (p4 t).2).getD (sv sNil,(p4 t).2)=(sv (p5 t).1,(p5 t).2):=by unfold p5 zM;exact iN (f:=gW) (d:=sNil) (l:=(p4 t).2) (e:=fun v=>sv v)
theorem aLM(t:List UInt8)(h:zM (p4 t).2=none):rT t=false:=lC (b:=(gW (p4 t).2).isSome) (List.mem_of_getElem? (i:=5) rfl) (dH.1.1 h)
theorem aMl(t:List UInt8):(YG (p5 t).2).getD (.pv (aS []),(p5 t).2)=(.pv (aS (p6 t).1),(p6 t).2):=by unfold p6 YG;exact iN (f:=(uF gW)) (d:=[]) (l:=(p5 t).2) (e:=fun v=>.pv (aS v))
theorem aLK(t:List UInt8)(h:YG (p5 t).2=none):rT t=false:=lC (b:=((uF gW) (p5 t).2).isSome) (List.mem_of_getElem? (i:=6) rfl) (dH.1.1 h)
theorem aMk(t:List UInt8):(zM (p6 t).2).getD (sv sNil,(p6 t).2)=(sv (p7 t).1,(p7 t).2):=by unfold p7 zM;exact iN (f:=gW) (d:=sNil) (l:=(p6 t).2) (e:=fun v=>sv v)
theorem aLI(t:List UInt8)(h:zM (p6 t).2=none):rT t=false:=lC (b:=(gW (p6 t).2).isSome) (List.mem_of_getElem? (i:=7) rfl) (dH.1.1 h)
theorem aMj(t:List UInt8):(zM (p7 t).2).getD (sv sNil,(p7 t).2)=(sv (p8 t).1,(p8 t).2):=by unfold p8 zM;exact iN (f:=gW) (d:=sNil) (l:=(p7 t).2) (e:=fun v=>sv v)
theorem aLG(t:List UInt8)(h:zM (p7 t).2=none):rT t=false:=lC (b:=(gW (p7 t).2).isSome) (List.mem_of_getElem? (i:=8) rfl) (dH.1.1 h)
theorem aMi(t:List UInt8):(zM (p8 t).2).getD (sv sNil,(p8 t).2)=(sv (p9 t).1,(p9 t).2):=by unfold p9 zM;exact iN (f:=gW) (d:=sNil) (l:=(p8 t).2) (e:=fun v=>sv v)
theorem aLE(t:List UInt8)(h:zM (p8 t).2=none):rT t=false:=lC (b:=(gW (p8 t).2).isSome) (List.mem_of_getElem? (i:=9) rfl) (dH.1.1 h)
theorem aL2(t:List UInt8):(vX (p9 t).2).getD (iv 0,(p9 t).2)=(iv (NL t).1,(NL t).2):=by unfold NL vX;exact iN (f:=mS) (d:=0) (l:=(p9 t).2) (e:=fun v=>iv v)
theorem aJS(t:List UInt8)(h:vX (p9 t).2=none):rT t=false:=lC (b:=(mS (p9 t).2).isSome) (List.mem_of_getElem? (i:=10) rfl) (dH.1.1 h)
theorem aL1(t:List UInt8):(zM (NL t).2).getD (sv sNil,(NL t).2)=(sv (NK t).1,(NK t).2):=by unfold NK zM;exact iN (f:=gW) (d:=sNil) (l:=(NL t).2) (e:=fun v=>sv v)
theorem aJQ(t:List UInt8)(h:zM (NL t).2=none):rT t=false:=lC (b:=(gW (NL t).2).isSome) (List.mem_of_getElem? (i:=11) rfl) (dH.1.1 h)
theorem aL0(t:List UInt8):(slA (NK t).2).getD (av (gG zS),(NK t).2)=(av (gG (NJ t).1),(NJ t).2):=by unfold NJ slA;exact iN (f:=Q4) (d:=zS) (l:=(NK t).2) (e:=fun v=>av (gG v))
theorem aJO(t:List UInt8)(h:slA (NK t).2=none):rT t=false:=lC (b:=(Q4 (NK t).2).isSome) (List.mem_of_getElem? (i:=12) rfl) (dH.1.1 h)
theorem aLZ(t:List UInt8):(zM (NJ t).2).getD (sv sNil,(NJ t).2)=(sv (NI t).1,(NI t).2):=by unfold NI zM;exact iN (f:=gW) (d:=sNil) (l:=(NJ t).2) (e:=fun v=>sv v)
theorem aJM(t:List UInt8)(h:zM (NJ t).2=none):rT t=false:=lC (b:=(gW (NJ t).2).isSome) (List.mem_of_getElem? (i:=13) rfl) (dH.1.1 h)
theorem aLY(t:List UInt8):(zM (NI t).2).getD (sv sNil,(NI t).2)=(sv (NH t).1,(NH t).2):=by unfold NH zM;exact iN (f:=gW) (d:=sNil) (l:=(NI t).2) (e:=fun v=>sv v)
theorem aJK(t:List UInt8)(h:zM (NI t).2=none):rT t=false:=lC (b:=(gW (NI t).2).isSome) (List.mem_of_getElem? (i:=14) rfl) (dH.1.1 h)
theorem aLX(t:List UInt8):(YG (NH t).2).getD (.pv (aS []),(NH t).2)=(.pv (aS (NG t).1),(NG t).2):=by unfold NG YG;exact iN (f:=(uF gW)) (d:=[]) (l:=(NH t).2) (e:=fun v=>.pv (aS v))
theorem aJI(t:List UInt8)(h:YG (NH t).2=none):rT t=false:=lC (b:=((uF gW) (NH t).2).isSome) (List.mem_of_getElem? (i:=15) rfl) (dH.1.1 h)
theorem aLW(t:List UInt8):(R2 (NG t).2).getD (.pv (qJ []),(NG t).2)=(.pv (qJ (NF t).1),(NF t).2):=by unfold NF R2;exact iN (f:=(uF F5)) (d:=[]) (l:=(NG t).2) (e:=fun v=>.pv (qJ v))
theorem aJG(t:List UInt8)(h:R2 (NG t).2=none):rT t=false:=lC (b:=((uF F5) (NG t).2).isSome) (List.mem_of_getElem? (i:=16) rfl) (dH.1.1 h)
theorem aLV(t:List UInt8):(slA (NF t).2).getD (av (gG zS),(NF t).2)=(av (gG (p17 t).1),(p17 t).2):=by unfold p17 slA;exact iN (f:=Q4) (d:=zS) (l:=(NF t).2) (e:=fun v=>av (gG v))
theorem aJE(t:List UInt8)(h:slA (NF t).2=none):rT t=false:=lC (b:=(Q4 (NF t).2).isSome) (List.mem_of_getElem? (i:=17) rfl) (dH.1.1 h)
theorem aGj(t:List UInt8)(h0:(zM t).isSome=true)(h1:(vX (p0 t).2).isSome=true)(h2:(vX (p1 t).2).isSome=true)(h3:(vX (p2 t).2).isSome=true)(h4:(vX (p3 t).2).isSome=true)(h5:(zM (p4 t).2).isSome=true)(h6:(YG (p5 t).2).isSome=true)(h7:(zM (p6 t).2).isSome=true)(h8:(zM (p7 t).2).isSome=true)(h9:(zM (p8 t).2).isSome=true)(h10:(vX (p9 t).2).isSome=true)(h11:(zM (NL t).2).isSome=true)(h12:(slA (NK t).2).isSome=true)(h13:(zM (NJ t).2).isSome=true)(h14:(zM (NI t).2).isSome=true)(h15:(YG (NH t).2).isSome=true)(h16:(R2 (NG t).2).isSome=true)(h17:(slA (NF t).2).isSome=true):rT t=true:=by unfold rT RU;simp only[List.all_cons,List.all_nil,id,Bool.and_true,aOE];exact⟨dH.2▸h0,dH.2▸h1,dH.2▸h2,dH.2▸h3,dH.2▸h4,dH.2▸h5,dH.2▸h6,dH.2▸h7,dH.2▸h8,dH.2▸h9,dH.2▸h10,dH.2▸h11,dH.2▸h12,dH.2▸h13,dH.2▸h14,dH.2▸h15,dH.2▸h16,dH.2▸h17⟩
end Go.Proofs.YtmdicgjnmfolfaaGreatDoor
namespace Go.Proofs.YtmdicgjnmfolfaaGreatDoor
open Go.Proofs.Tryz
open Go.Abs
variable{t:List UInt8}{E1:bS}{H2:aB}{x:GRec}{e:Int}{o:Ob}
theorem S7.mono{P:Program}{F:FuncId}{args:List AV}{H:aB}{u:FrameMode}{K K':aB->Prop}(h:S7 P F args H u K)(hk:∀H,K H->K' H):S7 P F args H u K' :=fun I ι w vs h1 h2 h3=>(h I ι w vs h1 h2 h3).mono fun _ _ _ ⟨v,H',I',ι',e,s,q,r⟩=>⟨v,H',I',ι',e,s,hk _ q,r⟩
def PQ(t:List UInt8)(r:AV)(H:aB):Prop:=r=.tup [av (bU (iU t).1),iv (iU t).2]/\H=[]
abbrev dE:bS:=[(2,.ref 2 0 0 0),(3,.ref 3 0 0 0)]
theorem VR(x:GRec)(e:Int)(hg:iU t=(x,e)):∃r,(∀(a:Act) (w:World) (I:Nat->Prop) (ι:dX),Rel I ι (XX x e) w->iB w I ι (XX x e) dE a->∃v,(results f12 a.tmps).run Tryz.prog w=.ok v w/\VRel w I ι (XX x e) v r)/\∃r' H3,Fin [] (XX x e) r H3 r'/\PQ t r' H3 :=⟨.tup [av (bU x),iv e],aMf rfl (rl' bH aR) (fM rfl jS rfl rfl rfl rfl),_,[],Fin.wk (by simp[bU]) trivial trivial,by rw[PQ,hg];exact⟨rfl,rfl⟩⟩
theorem nZ{ch:FT}(ht:¬ 20000<t.length)(hok:rT t=false)(he:ch=CW)(h2:E1.get 2=some (.ref 2 0 0 0))(h3:E1.get 3=some (.ref 3 0 0 0))(s2:∃o,H2.get 2=some o/\jH o rAJ)(s3:∃o,H2.get 3=some o/\jH o eAJ):
  aAk Tryz.prog f12 [] (XX zR 0) 46 dcJ (PQ t) (.panic ch) E1 H2:=by
 subst he;have hg:iU t=(zR,5):=by rw[iU,aNt ht,aNt (by rw[hok];rintro⟨h,_⟩;cases h)]
 refine⟨.panicking CW,dE,pAJ,.inr ⟨CW,rfl,rfl⟩,cD.toAny (fun u v hu=>?_) (fun id o' ho'=>?_) (fun id hi=>?_),S7.mono aJA fun H hH=>by subst hH;exact VR zR 5 hg⟩
 ·have hm:=fR hu;simp only[aOH,aOL,or_false,Prod.mk.injEq]at hm;rcases hm with⟨rfl,rfl⟩|⟨rfl,rfl⟩
  ·exact⟨h2,by simp;rfl⟩
  exact⟨h3,by simp;rfl⟩
 ·have hm:=cV ho';simp only[aOH,aOL,or_false,Prod.mk.injEq]at hm;rcases hm with⟨rfl,rfl⟩|⟨rfl,rfl⟩
  ·obtain ⟨o,k1,k2⟩:=s3;exact⟨o,k1,k2,by simp⟩
  obtain ⟨o,k1,k2⟩:=s2;exact⟨o,k1,k2,by simp⟩
 by_cases e3:3=id
 ·subst e3;rfl
 by_cases e2:2=id
 ·subst e2;rfl
 simp[aB.get,jC e3,jC e2]at hi
theorem OY(hg:iU t=(x,e))(hE:cD (XX zR 0) E1 H2 dE (XX x e)):aAk Tryz.prog f12 [] (XX zR 0) 46 dcJ (PQ t) .ret E1 H2 :=⟨.returning,dE,XX x e,.inl ⟨.inr rfl,rfl⟩,hE,S7.mono (aIz x e) fun H hH=>by subst hH;exact VR x e hg⟩
theorem IS(h:jH (rOJ x) o):jH o rAJ:=⟨h.1.symm,h.2.1.symm,h.2.2.1.symm,h.2.2.2.symm⟩
theorem BE(h:jH (eOJ e) o):jH o eAJ:=⟨h.1.symm,h.2.1.symm,h.2.2.1.symm,h.2.2.2.symm⟩
theorem Q7(x:GRec):jH (rOJ x) rAJ:=⟨rfl,rfl,rfl,rfl⟩
theorem Q6(e:Int):jH (eOJ e) eAJ:=⟨rfl,rfl,rfl,rfl⟩
theorem aD7(t:List UInt8)(hts:t.length<1099511627776)(H:aB):aH Tryz.prog 12 [sv (ofL t)] H (fun r H'=>r=.tup [av (bU (iU t).1),iv (iU t).2]/\H'=H):=by
 refine aH.pure (show aH Tryz.prog 12 [sv (ofL t)] [] (PQ t)from ?_) (by simp) H;have hls:(ofL t).size=t.length:=eF t;refine aH.bodyD func12 rfl ntmps12 (aOI rfl) ?_;refine aA2 ?_;refine Rg<|Dd (by exact bM (id:=2) rfl M8 rfl rfl)<|Dd (by exact bM (id:=3) rfl aI8 rfl rfl)<|Zz ?_;refine aA2 ?_;refine Sr<|Dd aG<|Dd (nF underlying9)<|Dd mN<|Zz ?_;refine Cn ?_ ?_<;>intro hc1
 ·have hb:20000<t.length:=by have:=aNr hc1;omega
  have hg:iU t=(zR,2):=by rw[iU,aNu hb]
  refine Sr<|Dd (wV WC)<|Uu (kG aR)<|Uu (kG sizeOf41)<|Zz<|aE ?_;refine tX (H':=[]) (.inr rfl) rfl (fF rfl bH aR rfl rfl rfl (by simp only[Zl,encStr];rfl) rfl) (fM rfl jS rfl rfl rfl rfl) (Fin.wk (by simp[bU,MV]) trivial trivial) ?_;rw[PQ,hg];exact Qq
 have hb:¬ 20000<t.length:=by have:=aNs hc1;omega
 refine aF ?_;refine aBy (F:=46) (cs:=dcJ) rfl rfl rfl rfl rfl rfl rfl rfl rfl call46 ?_;refine fL.mono (Q:=aAk Tryz.prog f12 [] (XX zR 0) 46 dcJ (PQ t)) ?_ (fun _ _ _ h=>h);have t0:=aMr t;have n0:=aL3 t;have c0:=aDj t;have t1:=aMq t;have n1:=aLU t;have c1:=aDh t;have t2:=aMp t;have n2:=aLS t;have c2:=aDg t;have t3:=aMo t;have n3:=aLQ t;have c3:=aDf t;have t4:=aMn t;have n4:=aLO t;have c4:=X1 t;have t5:=aMm t;have n5:=aLM t;have c5:=X0 t;have t6:=aMl t;have n6:=aLK t;have c6:=XZ t;have t7:=aMk t;have n7:=aLI t;have c7:=XY t;have t8:=aMj t;have n8:=aLG t;have c8:=aDe t;have t9:=aMi t;have n9:=aLE t;have c9:=aDd t;have t10:=aL2 t;have n10:=aJS t;have c10:=RP t;have t11:=aL1 t;have n11:=aJQ t;have c11:=RN t;have t12:=aL0 t;have n12:=aJO t;have c12:=RM t;have t13:=aLZ t;have n13:=aJM t;have c13:=RL t;have t14:=aLY t;have n14:=aJK t;have c14:=RK t;have t15:=aLX t;have n15:=aJI t;have c15:=RJ t;have t16:=aLW t;have n16:=aJG t;have c16:=RI t;have t17:=aLV t;have n17:=aJE t;have c17:=aGf t;have yes:=aGj t;have hok:=aDT (t:=t) (by omega);have hread:D3 t=⟨(p1 t).1,(p2 t).1,(p3 t).1,(p4 t).1,(p5 t).1,(p6 t).1,(lI (p7 t).1).1,(p8 t).1,decide ((p9 t).1=NX),(NL t).1,(NK t).1,(NJ t).1,⟨(NI t).1,(NH t).1,(NG t).1,(NF t).1,(p17 t).1⟩⟩:=rfl;have s7:(p7 t).1.size<=t.length:=aLH t;have hg0:iU t=if rT t=true/\oK (D3 t)=(ofL t,0)then(D3 t,0)else(zR,5):=by rw[iU,aNt hb]
 rw[hread]at hok hg0;obtain ⟨V0,hV0⟩:∃v,v=(p0 t).1:=⟨_,rfl⟩;obtain ⟨L0,hL0⟩:∃v,v=(p0 t).2:=⟨_,rfl⟩;obtain ⟨V1,hV1⟩:∃v,v=(p1 t).1:=⟨_,rfl⟩;obtain ⟨L1,hL1⟩:∃v,v=(p1 t).2:=⟨_,rfl⟩;obtain ⟨V2,hV2⟩:∃v,v=(p2 t).1:=⟨_,rfl⟩;obtain ⟨L2,hL2⟩:∃v,v=(p2 t).2:=⟨_,rfl⟩;obtain ⟨V3,hV3⟩:∃v,v=(p3 t).1:=⟨_,rfl⟩;obtain ⟨L3,hL3⟩:∃v,v=(p3 t).2:=⟨_,rfl⟩;obtain ⟨V4,hV4⟩:∃v,v=(p4 t).1:=⟨_,rfl⟩;obtain ⟨L4,hL4⟩:∃v,v=(p4 t).2:=⟨_,rfl⟩;obtain ⟨V5,hV5⟩:∃v,v=(p5 t).1:=⟨_,rfl⟩;obtain ⟨L5,hL5⟩:∃v,v=(p5 t).2:=⟨_,rfl⟩;obtain ⟨V6,hV6⟩:∃v,v=(p6 t).1:=⟨_,rfl⟩;obtain ⟨L6,hL6⟩:∃v,v=(p6 t).2:=⟨_,rfl⟩;obtain ⟨V7,hV7⟩:∃v,v=(p7 t).1:=⟨_,rfl⟩;obtain ⟨L7,hL7⟩:∃v,v=(p7 t).2:=⟨_,rfl⟩;obtain ⟨V8,hV8⟩:∃v,v=(p8 t).1:=⟨_,rfl⟩;obtain ⟨L8,hL8⟩:∃v,v=(p8 t).2:=⟨_,rfl⟩;obtain ⟨V9,hV9⟩:∃v,v=(p9 t).1:=⟨_,rfl⟩;obtain ⟨L9,hL9⟩:∃v,v=(p9 t).2:=⟨_,rfl⟩;obtain ⟨V10,hV10⟩:∃v,v=(NL t).1:=⟨_,rfl⟩;obtain ⟨L10,hL10⟩:∃v,v=(NL t).2:=⟨_,rfl⟩;obtain ⟨V11,hV11⟩:∃v,v=(NK t).1:=⟨_,rfl⟩;obtain ⟨L11,hL11⟩:∃v,v=(NK t).2:=⟨_,rfl⟩;obtain ⟨V12,hV12⟩:∃v,v=(NJ t).1:=⟨_,rfl⟩;obtain ⟨L12,hL12⟩:∃v,v=(NJ t).2:=⟨_,rfl⟩;obtain ⟨V13,hV13⟩:∃v,v=(NI t).1:=⟨_,rfl⟩;obtain ⟨L13,hL13⟩:∃v,v=(NI t).2:=⟨_,rfl⟩;obtain ⟨V14,hV14⟩:∃v,v=(NH t).1:=⟨_,rfl⟩;obtain ⟨L14,hL14⟩:∃v,v=(NH t).2:=⟨_,rfl⟩;obtain ⟨V15,hV15⟩:∃v,v=(NG t).1:=⟨_,rfl⟩;obtain ⟨L15,hL15⟩:∃v,v=(NG t).2:=⟨_,rfl⟩;obtain ⟨V16,hV16⟩:∃v,v=(NF t).1:=⟨_,rfl⟩;obtain ⟨L16,hL16⟩:∃v,v=(NF t).2:=⟨_,rfl⟩;obtain ⟨V17,hV17⟩:∃v,v=(p17 t).1:=⟨_,rfl⟩;obtain ⟨L17,hL17⟩:∃v,v=(p17 t).2:=⟨_,rfl⟩;simp only[<-hV0,<-hL0,<-hV1,<-hL1,<-hV2,<-hL2,<-hV3,<-hL3,<-hV4,<-hL4,<-hV5,<-hL5,<-hV6,<-hL6,<-hV7,<-hL7,<-hV8,<-hL8,<-hV9,<-hL9,<-hV10,<-hL10,<-hV11,<-hL11,<-hV12,<-hL12,<-hV13,<-hL13,<-hV14,<-hL14,<-hV15,<-hL15,<-hV16,<-hL16,<-hV17,<-hL17]at t0 n0 c0 t1 n1 c1 t2 n2 c2 t3 n3 c3 t4 n4 c4 t5 n5 c5 t6 n6 c6 t7 n7 c7 t8 n8 c8 t9 n9 c9 t10 n10 c10 t11 n11 c11 t12 n12 c12 t13 n13 c13 t14 n14 c14 t15 n15 c15 t16 n16 c16 t17 n17 c17 yes hok hg0 s7;clear hread hV0 hL0 hV1 hL1 hV2 hL2 hV3 hL3 hV4 hL4 hV5 hL5 hV6 hL6 hV7 hL7 hV8 hL8 hV9 hL9 hV10 hL10 hV11 hL11 hV12 hL12 hV13 hL13 hV14 hL14 hV15 hL15 hV16 hL16 hV17 hL17;have hpc:=fun H=>aD8 V7 H (by omega);obtain ⟨PE,hPE⟩:∃v,v=lI V7:=⟨_,rfl⟩;rw[<-hPE]at hpc hok hg0;clear hPE;obtain ⟨ED,EE⟩:=PE;simp only at hpc hok hg0;have htx:=fun H=>QW ⟨V1,V2,V3,V4,V5,V6,ED,V8,decide (V9=NX),V10,V11,V12,⟨V13,V14,V15,V16,V17⟩⟩ hok.1 hok.2 H;obtain ⟨TX,hTX⟩:∃v,v=oK ⟨V1,V2,V3,V4,V5,V6,ED,V8,decide (V9=NX),V10,V11,V12,⟨V13,V14,V15,V16,V17⟩⟩:=⟨_,rfl⟩;rw[<-hTX]at htx hg0;clear hTX hok;refine Sr<|Dd aG<|Dd (wV aNI)<|Dd (by exact cE (id:=980) rfl rfl rfl rfl rfl)<|Dd (by exact bM (id:=4) rfl aM4 rfl rfl)<|Uu (kG sizeOf82)<|Zz<|Sq ?_;refine fL.ent (E':=[(0,sv (ofL t)),(2,.ref 2 0 0 0),(3,.ref 3 0 0 0),(4,.ref 4 0 0 0)]) (H':=[(980,T6 t),(4,inO),(3,eOJ 0),(2,rOJ zR)]) (cD.wk (Eb<|Ea<|Ea<|Ea<|trivial) (Hb<|Ha<|Hb<|Hb<|trivial) ⟨rfl,rfl,trivial⟩) ?_;refine eW ?_;refine fU rfl rfl rfl (by exact aK rfl cX rfl rfl rfl rfl rfl) ?_
 refine SS rfl rfl rfl (by exact dB rfl rfl jZ rfl (((vC t (by omega)).tot t0 rfl (eK _)).mono (PP':=fun ch H'=>rT t=false/\ch=CW/\∃q,H'=jX q++_) (fun _ _ h=>h) (fun ch H' ⟨e,e2,e3⟩=>⟨n0 e,e2,e3⟩))) (fun ch H' h=>by obtain ⟨e,e2,q,rfl⟩:=h;exact nZ hb e e2 rfl rfl ⟨_,rfl,Q7 _⟩ ⟨_,rfl,Q6 _⟩) (fun h16=>?_);refine JJ ?_;refine Sq ?_;refine fL.ent (E':=[(0,sv (ofL t)),(2,.ref 2 0 0 0),(3,.ref 3 0 0 0),(4,.ref 4 0 0 0)]) (H':=[(980,T6 L0),(4,inO),(3,eOJ 0),(2,rOJ zR)]) (cD.wk (Eb<|Ea<|Ea<|Ea<|trivial) (Hb<|Ha<|Hb<|Hb<|trivial) ⟨rfl,rfl,trivial⟩) ?_;refine tW (fun ch H1 H2=>rT t=false/\ch=CW/\∃q,H2=jX q++H1) [2,3] [2,3] [] rfl follows (fun ch E1 H1 H2 hts hsh hks ⟨e,e2,q,e3⟩=>by subst e3;obtain ⟨o2,k1,k2⟩:=hsh 2 (by simp) _ rfl;obtain ⟨o3,k3,k4⟩:=hsh 3 (by simp) _ rfl;exact nZ hb e e2 ((hts 2 (by simp)).trans rfl) ((hts 3 (by simp)).trans rfl) ⟨o2,k1,IS k2⟩ ⟨o3,k3,BE k4⟩) ?_;refine bY (r:=⟨_,some [4],[]⟩) (DStep.plain rfl (fun H1 hH=>by exact(by exact aK rfl cX rfl ((hH _ rfl).trans rfl) rfl rfl rfl))) rfl ?_;refine qR (r:=⟨_,some [980],jX L1⟩) (.pan rfl (fun H1 hH=>by exact dB rfl rfl gH rfl (((kZ L0 (by omega)).tot t1 ((hH 980 rfl).trans rfl) (eK _)).mono (PP':=fun ch H'=>rT t=false/\ch=CW/\∃q,H'=jX q++_) (fun _ _ h=>h) (fun ch H' ⟨e,e2,e3⟩=>⟨n1 e,e2,e3⟩)))) rfl ?_;refine bY (r:=⟨_,some [4],[]⟩) (DStep.plain rfl (fun H1 hH=>by exact(by exact aK rfl cX rfl ((hH _ rfl).trans rfl) rfl rfl rfl))) rfl ?_;refine qR (r:=⟨_,some [980],jX L2⟩) (.pan rfl (fun H1 hH=>by exact dB rfl rfl gH rfl (((kZ L1 (by omega)).tot t2 ((hH 980 rfl).trans rfl) (eK _)).mono (PP':=fun ch H'=>rT t=false/\ch=CW/\∃q,H'=jX q++_) (fun _ _ h=>h) (fun ch H' ⟨e,e2,e3⟩=>⟨n2 e,e2,e3⟩)))) rfl ?_;refine bY (r:=⟨_,some [4],[]⟩) (DStep.plain rfl (fun H1 hH=>by exact(by exact aK rfl cX rfl ((hH _ rfl).trans rfl) rfl rfl rfl))) rfl ?_;refine qR (r:=⟨_,some [980],jX L3⟩) (.pan rfl (fun H1 hH=>by exact dB rfl rfl gH rfl (((kZ L2 (by omega)).tot t3 ((hH 980 rfl).trans rfl) (eK _)).mono (PP':=fun ch H'=>rT t=false/\ch=CW/\∃q,H'=jX q++_) (fun _ _ h=>h) (fun ch H' ⟨e,e2,e3⟩=>⟨n3 e,e2,e3⟩)))) rfl ?_;refine bY (r:=⟨_,some [4],[]⟩) (DStep.plain rfl (fun H1 hH=>by exact(by exact aK rfl cX rfl ((hH _ rfl).trans rfl) rfl rfl rfl))) rfl ?_;refine qR (r:=⟨_,some [980],jX L4⟩) (.pan rfl (fun H1 hH=>by exact dB rfl rfl gH rfl (((kZ L3 (by omega)).tot t4 ((hH 980 rfl).trans rfl) (eK _)).mono (PP':=fun ch H'=>rT t=false/\ch=CW/\∃q,H'=jX q++_) (fun _ _ h=>h) (fun ch H' ⟨e,e2,e3⟩=>⟨n4 e,e2,e3⟩)))) rfl ?_;refine bY (r:=⟨_,some [2],[]⟩) (DStep.plain rfl (fun H1 hH=>by exact(by exact aZ rfl C5 rfl ((hH _ rfl).trans rfl) rfl rfl))) rfl ?_;refine bY (r:=⟨_,some [2],[_]⟩) (DStep.plain rfl (fun H1 hH=>by exact(by exact bD rfl sizeOf3 rfl rfl rfl ((hH _ rfl).trans rfl) rfl rfl (aOI rfl) rfl rfl))) rfl ?_;refine bY (r:=⟨_,some [2],[]⟩) (DStep.plain rfl (fun H1 hH=>by exact(by exact aZ rfl tO rfl ((hH _ rfl).trans rfl) rfl rfl))) rfl ?_
 refine bY (r:=⟨_,some [2],[_]⟩) (DStep.plain rfl (fun H1 hH=>by exact(by exact bD rfl sizeOf3 rfl rfl rfl ((hH _ rfl).trans rfl) rfl rfl (aOI rfl) rfl rfl))) rfl ?_;refine bY (r:=⟨_,some [2],[]⟩) (DStep.plain rfl (fun H1 hH=>by exact(by exact aZ rfl pN rfl ((hH _ rfl).trans rfl) rfl rfl))) rfl ?_;refine bY (r:=⟨_,some [2],[_]⟩) (DStep.plain rfl (fun H1 hH=>by exact(by exact bD rfl sizeOf3 rfl rfl rfl ((hH _ rfl).trans rfl) rfl rfl (aOI rfl) rfl rfl))) rfl ?_;refine bY (r:=⟨_,some [2],[]⟩) (DStep.plain rfl (fun H1 hH=>by exact(by exact aZ rfl AZ rfl ((hH _ rfl).trans rfl) rfl rfl))) rfl ?_;refine bY (r:=⟨_,some [2],[_]⟩) (DStep.plain rfl (fun H1 hH=>by exact(by exact bD rfl sizeOf3 rfl rfl rfl ((hH _ rfl).trans rfl) rfl rfl (aOI rfl) rfl rfl))) rfl ?_;refine E7 ⟨⟨by kernel_rfl,by kernel_rfl,by kernel_rfl⟩,fun hF=>?_⟩;simp only[S6,true_and,and_true]at hF;refine Sq ?_;have f4:=hF;refine fL.ent (E':=[(0,sv (ofL t)),(2,.ref 2 0 0 0),(3,.ref 3 0 0 0),(4,.ref 4 0 0 0)]) (H':=[(980,T6 L4),(4,inO),(3,eOJ 0),(2,rOJ ⟨V1,V2,V3,V4,sNil,[],[],sNil,false,0,sNil,zS,⟨sNil,sNil,[],[],zS⟩⟩)]) (cD.wk (Eb<|Ea<|Ea<|Ea<|trivial) (Hb<|Ha<|Hb<|Hb<|trivial) ⟨rfl,rfl,trivial⟩) ?_;refine tW (fun ch H1 H2=>rT t=false/\ch=CW/\∃q,H2=jX q++H1) [2,3] [2,3] [] rfl follows (fun ch E1 H1 H2 hts hsh hks ⟨e,e2,q,e3⟩=>by subst e3;obtain ⟨o2,k1,k2⟩:=hsh 2 (by simp) _ rfl;obtain ⟨o3,k3,k4⟩:=hsh 3 (by simp) _ rfl;exact nZ hb e e2 ((hts 2 (by simp)).trans rfl) ((hts 3 (by simp)).trans rfl) ⟨o2,k1,IS k2⟩ ⟨o3,k3,BE k4⟩) ?_;refine bY (r:=⟨_,some [4],[]⟩) (DStep.plain rfl (fun H1 hH=>by exact(by exact aK rfl cX rfl ((hH _ rfl).trans rfl) rfl rfl rfl))) rfl ?_;refine qR (r:=⟨_,some [980],jX L5⟩) (.pan rfl (fun H1 hH=>by exact dB rfl rfl jZ rfl (((vC L4 (by omega)).tot t5 ((hH 980 rfl).trans rfl) (eK _)).mono (PP':=fun ch H'=>rT t=false/\ch=CW/\∃q,H'=jX q++_) (fun _ _ h=>h) (fun ch H' ⟨e,e2,e3⟩=>⟨n5 e,e2,e3⟩)))) rfl ?_;refine bY (r:=⟨_,some [4],[]⟩) (DStep.plain rfl (fun H1 hH=>by exact(by exact aK rfl cX rfl ((hH _ rfl).trans rfl) rfl rfl rfl))) rfl ?_;refine bY (r:=⟨_,some [4],[]⟩) (DStep.plain rfl (fun H1 hH=>by exact(by exact aK rfl cX rfl ((hH _ rfl).trans rfl) rfl rfl rfl))) rfl ?_;refine bY (r:=⟨_,some [],[]⟩) (DStep.plain rfl (fun H1 hH=>by exact lX rfl rfl)) rfl ?_;refine qR (r:=⟨_,some [980],jX L6⟩) (.pan rfl (fun H1 hH=>by exact dB rfl rfl zQ rfl (((R0 L5 (by omega)).tot t6 ((hH 980 rfl).trans rfl) (eK _)).mono (PP':=fun ch H'=>rT t=false/\ch=CW/\∃q,H'=jX q++_) (fun _ _ h=>h) (fun ch H' ⟨e,e2,e3⟩=>⟨n6 e,e2,e3⟩)))) rfl ?_;refine bY (r:=⟨_,some [2],[]⟩) (DStep.plain rfl (fun H1 hH=>by exact(by exact aZ rfl AY rfl ((hH _ rfl).trans rfl) rfl rfl))) rfl ?_;refine bY (r:=⟨_,some [2],[_]⟩) (DStep.plain rfl (fun H1 hH=>by exact(by exact bD rfl sizeOf9 rfl rfl rfl ((hH _ rfl).trans rfl) rfl rfl (aOI rfl) rfl rfl))) rfl ?_;refine bY (r:=⟨_,some [2],[]⟩) (DStep.plain rfl (fun H1 hH=>by exact(by exact aZ rfl pM rfl ((hH _ rfl).trans rfl) rfl rfl))) rfl ?_
 refine bY (r:=⟨_,some [2],[_]⟩) (DStep.plain rfl (fun H1 hH=>by exact(by exact bD rfl sizeOf22 rfl rfl rfl ((hH _ rfl).trans rfl) rfl rfl (aOI rfl) rfl rfl))) rfl ?_;refine E7 ⟨⟨by kernel_rfl,by kernel_rfl,by kernel_rfl⟩,fun hF=>?_⟩;simp only[S6,true_and,and_true]at hF;refine Sq ?_;have f6:=hF;refine fL.ent (E':=[(0,sv (ofL t)),(2,.ref 2 0 0 0),(3,.ref 3 0 0 0),(4,.ref 4 0 0 0)]) (H':=[(980,T6 L6),(4,inO),(3,eOJ 0),(2,rOJ ⟨V1,V2,V3,V4,V5,V6,[],sNil,false,0,sNil,zS,⟨sNil,sNil,[],[],zS⟩⟩)]) (cD.wk (Eb<|Ea<|Ea<|Ea<|trivial) (Hb<|Ha<|Hb<|Hb<|trivial) ⟨rfl,rfl,trivial⟩) ?_;refine eW ?_;refine fU rfl rfl rfl (by exact aK rfl cX rfl rfl rfl rfl rfl) ?_;refine SS rfl rfl rfl (by exact dB rfl rfl jZ rfl (((vC L6 (by omega)).tot t7 rfl (eK _)).mono (PP':=fun ch H'=>rT t=false/\ch=CW/\∃q,H'=jX q++_) (fun _ _ h=>h) (fun ch H' ⟨e,e2,e3⟩=>⟨n7 e,e2,e3⟩))) (fun ch H' h=>by obtain ⟨e,e2,q,rfl⟩:=h;exact nZ hb e e2 rfl rfl ⟨_,rfl,Q7 _⟩ ⟨_,rfl,Q6 _⟩) (fun h39=>?_);refine fU rfl rfl rfl (by exact aA rfl rfl call50 rfl (hpc _)) ?_;refine fU rfl rfl rfl (by exact eP rfl rfl) ?_;refine fU rfl rfl rfl (by exact qN rfl rfl rfl) ?_;refine fU rfl rfl rfl (by exact qN rfl rfl rfl) ?_;refine fU rfl rfl rfl (by exact aZ rfl C4 rfl rfl rfl rfl) ?_;refine aFK rfl rfl (by exact bD rfl sizeOf23 rfl rfl rfl rfl rfl rfl (aOI rfl) rfl rfl) ?_;refine JJ ?_;refine Sq ?_;refine fL.ent (E':=[(0,sv (ofL t)),(2,.ref 2 0 0 0),(3,.ref 3 0 0 0),(4,.ref 4 0 0 0)]) (H':=[(980,T6 L7),(4,inO),(3,eOJ 0),(2,rOJ ⟨V1,V2,V3,V4,V5,V6,ED,sNil,false,0,sNil,zS,⟨sNil,sNil,[],[],zS⟩⟩)]) (cD.wk (Eb<|Ea<|Ea<|Ea<|trivial) (Hb<|Ha<|Hb<|Hb<|trivial) ⟨rfl,rfl,trivial⟩) ?_;refine tW (fun ch H1 H2=>rT t=false/\ch=CW/\∃q,H2=jX q++H1) [2,3] [2,3] [] rfl follows (fun ch E1 H1 H2 hts hsh hks ⟨e,e2,q,e3⟩=>by subst e3;obtain ⟨o2,k1,k2⟩:=hsh 2 (by simp) _ rfl;obtain ⟨o3,k3,k4⟩:=hsh 3 (by simp) _ rfl;exact nZ hb e e2 ((hts 2 (by simp)).trans rfl) ((hts 3 (by simp)).trans rfl) ⟨o2,k1,IS k2⟩ ⟨o3,k3,BE k4⟩) ?_;refine bY (r:=⟨_,some [4],[]⟩) (DStep.plain rfl (fun H1 hH=>by exact(by exact aK rfl cX rfl ((hH _ rfl).trans rfl) rfl rfl rfl))) rfl ?_;refine qR (r:=⟨_,some [980],jX L8⟩) (.pan rfl (fun H1 hH=>by exact dB rfl rfl jZ rfl (((vC L7 (by omega)).tot t8 ((hH 980 rfl).trans rfl) (eK _)).mono (PP':=fun ch H'=>rT t=false/\ch=CW/\∃q,H'=jX q++_) (fun _ _ h=>h) (fun ch H' ⟨e,e2,e3⟩=>⟨n8 e,e2,e3⟩)))) rfl ?_;refine bY (r:=⟨_,some [4],[]⟩) (DStep.plain rfl (fun H1 hH=>by exact(by exact aK rfl cX rfl ((hH _ rfl).trans rfl) rfl rfl rfl))) rfl ?_;refine qR (r:=⟨_,some [980],jX L9⟩) (.pan rfl (fun H1 hH=>by exact dB rfl rfl jZ rfl (((vC L8 (by omega)).tot t9 ((hH 980 rfl).trans rfl) (eK _)).mono (PP':=fun ch H'=>rT t=false/\ch=CW/\∃q,H'=jX q++_) (fun _ _ h=>h) (fun ch H' ⟨e,e2,e3⟩=>⟨n9 e,e2,e3⟩)))) rfl ?_;refine bY (r:=⟨_,some [],[]⟩) (DStep.plain rfl (fun H1 hH=>by exact tD rfl rfl rfl)) rfl ?_;refine bY (r:=⟨_,some [4],[]⟩) (DStep.plain rfl (fun H1 hH=>by exact(by exact aK rfl cX rfl ((hH _ rfl).trans rfl) rfl rfl rfl))) rfl ?_
 refine qR (r:=⟨_,some [980],jX L10⟩) (.pan rfl (fun H1 hH=>by exact dB rfl rfl gH rfl (((kZ L9 (by omega)).tot t10 ((hH 980 rfl).trans rfl) (eK _)).mono (PP':=fun ch H'=>rT t=false/\ch=CW/\∃q,H'=jX q++_) (fun _ _ h=>h) (fun ch H' ⟨e,e2,e3⟩=>⟨n10 e,e2,e3⟩)))) rfl ?_;refine bY (r:=⟨_,some [4],[]⟩) (DStep.plain rfl (fun H1 hH=>by exact(by exact aK rfl cX rfl ((hH _ rfl).trans rfl) rfl rfl rfl))) rfl ?_;refine qR (r:=⟨_,some [980],jX L11⟩) (.pan rfl (fun H1 hH=>by exact dB rfl rfl jZ rfl (((vC L10 (by omega)).tot t11 ((hH 980 rfl).trans rfl) (eK _)).mono (PP':=fun ch H'=>rT t=false/\ch=CW/\∃q,H'=jX q++_) (fun _ _ h=>h) (fun ch H' ⟨e,e2,e3⟩=>⟨n11 e,e2,e3⟩)))) rfl ?_;refine bY (r:=⟨_,some [2],[]⟩) (DStep.plain rfl (fun H1 hH=>by exact(by exact aZ rfl AX rfl ((hH _ rfl).trans rfl) rfl rfl))) rfl ?_;refine bY (r:=⟨_,some [2],[_]⟩) (DStep.plain rfl (fun H1 hH=>by exact(by exact bD rfl sizeOf9 rfl rfl rfl ((hH _ rfl).trans rfl) rfl rfl (aOI rfl) rfl rfl))) rfl ?_;refine bY (r:=⟨_,some [2],[]⟩) (DStep.plain rfl (fun H1 hH=>by exact(by exact aZ rfl GP rfl ((hH _ rfl).trans rfl) rfl rfl))) rfl ?_;refine bY (r:=⟨_,some [2],[_]⟩) (DStep.plain rfl (fun H1 hH=>by exact(by exact bD rfl sizeOf4 rfl rfl rfl ((hH _ rfl).trans rfl) rfl rfl (aOI rfl) rfl rfl))) rfl ?_;refine bY (r:=⟨_,some [2],[]⟩) (DStep.plain rfl (fun H1 hH=>by exact(by exact aZ rfl C3 rfl ((hH _ rfl).trans rfl) rfl rfl))) rfl ?_;refine bY (r:=⟨_,some [2],[_]⟩) (DStep.plain rfl (fun H1 hH=>by exact(by exact bD rfl sizeOf3 rfl rfl rfl ((hH _ rfl).trans rfl) rfl rfl (aOI rfl) rfl rfl))) rfl ?_;refine bY (r:=⟨_,some [2],[]⟩) (DStep.plain rfl (fun H1 hH=>by exact(by exact aZ rfl yK rfl ((hH _ rfl).trans rfl) rfl rfl))) rfl ?_;refine bY (r:=⟨_,some [2],[_]⟩) (DStep.plain rfl (fun H1 hH=>by exact(by exact bD rfl sizeOf9 rfl rfl rfl ((hH _ rfl).trans rfl) rfl rfl (aOI rfl) rfl rfl))) rfl ?_;refine E7 ⟨⟨by kernel_rfl,by kernel_rfl,by kernel_rfl⟩,fun hF=>?_⟩;simp only[S6,true_and,and_true]at hF;refine Sq ?_;have f11:=hF;refine fL.ent (E':=[(0,sv (ofL t)),(2,.ref 2 0 0 0),(3,.ref 3 0 0 0),(4,.ref 4 0 0 0)]) (H':=[(980,T6 L11),(4,inO),(3,eOJ 0),(2,rOJ ⟨V1,V2,V3,V4,V5,V6,ED,V8,decide (V9=NX),V10,V11,zS,⟨sNil,sNil,[],[],zS⟩⟩)]) (cD.wk (Eb<|Ea<|Ea<|Ea<|trivial) (Hb<|Ha<|Hb<|Hb<|trivial) ⟨rfl,rfl,trivial⟩) ?_;refine eW ?_;refine fU rfl rfl rfl (by exact aK rfl cX rfl rfl rfl rfl rfl) ?_;refine SS rfl rfl rfl (by exact dB rfl rfl call51 rfl (((Z8 L11 (by omega)).tot t12 rfl (eK _)).mono (PP':=fun ch H'=>rT t=false/\ch=CW/\∃q,H'=jX q++_) (fun _ _ h=>h) (fun ch H' ⟨e,e2,e3⟩=>⟨n12 e,e2,e3⟩))) (fun ch H' h=>by obtain ⟨e,e2,q,rfl⟩:=h;exact nZ hb e e2 rfl rfl ⟨_,rfl,Q7 _⟩ ⟨_,rfl,Q6 _⟩) (fun h58=>?_);refine fU rfl rfl rfl (by exact aZ rfl kM rfl rfl rfl rfl) ?_;refine aFK rfl rfl (by exact mF rfl sizeOf25 rfl rfl rfl rfl rfl rfl rfl (aOI rfl) rfl rfl) ?_;refine JJ ?_;refine Sq ?_
 refine fL.ent (E':=[(0,sv (ofL t)),(2,.ref 2 0 0 0),(3,.ref 3 0 0 0),(4,.ref 4 0 0 0)]) (H':=[(980,T6 L12),(4,inO),(3,eOJ 0),(2,rOJ ⟨V1,V2,V3,V4,V5,V6,ED,V8,decide (V9=NX),V10,V11,V12,⟨sNil,sNil,[],[],zS⟩⟩)]) (cD.wk (Eb<|Ea<|Ea<|Ea<|trivial) (Hb<|Ha<|Hb<|Hb<|trivial) ⟨rfl,rfl,trivial⟩) ?_;refine tW (fun ch H1 H2=>rT t=false/\ch=CW/\∃q,H2=jX q++H1) [2,3] [2,3] [] rfl follows (fun ch E1 H1 H2 hts hsh hks ⟨e,e2,q,e3⟩=>by subst e3;obtain ⟨o2,k1,k2⟩:=hsh 2 (by simp) _ rfl;obtain ⟨o3,k3,k4⟩:=hsh 3 (by simp) _ rfl;exact nZ hb e e2 ((hts 2 (by simp)).trans rfl) ((hts 3 (by simp)).trans rfl) ⟨o2,k1,IS k2⟩ ⟨o3,k3,BE k4⟩) ?_;refine bY (r:=⟨_,some [4],[]⟩) (DStep.plain rfl (fun H1 hH=>by exact(by exact aK rfl cX rfl ((hH _ rfl).trans rfl) rfl rfl rfl))) rfl ?_;refine qR (r:=⟨_,some [980],jX L13⟩) (.pan rfl (fun H1 hH=>by exact dB rfl rfl jZ rfl (((vC L12 (by omega)).tot t13 ((hH 980 rfl).trans rfl) (eK _)).mono (PP':=fun ch H'=>rT t=false/\ch=CW/\∃q,H'=jX q++_) (fun _ _ h=>h) (fun ch H' ⟨e,e2,e3⟩=>⟨n13 e,e2,e3⟩)))) rfl ?_;refine bY (r:=⟨_,some [4],[]⟩) (DStep.plain rfl (fun H1 hH=>by exact(by exact aK rfl cX rfl ((hH _ rfl).trans rfl) rfl rfl rfl))) rfl ?_;refine qR (r:=⟨_,some [980],jX L14⟩) (.pan rfl (fun H1 hH=>by exact dB rfl rfl jZ rfl (((vC L13 (by omega)).tot t14 ((hH 980 rfl).trans rfl) (eK _)).mono (PP':=fun ch H'=>rT t=false/\ch=CW/\∃q,H'=jX q++_) (fun _ _ h=>h) (fun ch H' ⟨e,e2,e3⟩=>⟨n14 e,e2,e3⟩)))) rfl ?_;refine bY (r:=⟨_,some [4],[]⟩) (DStep.plain rfl (fun H1 hH=>by exact(by exact aK rfl cX rfl ((hH _ rfl).trans rfl) rfl rfl rfl))) rfl ?_;refine bY (r:=⟨_,some [4],[]⟩) (DStep.plain rfl (fun H1 hH=>by exact(by exact aK rfl cX rfl ((hH _ rfl).trans rfl) rfl rfl rfl))) rfl ?_;refine bY (r:=⟨_,some [],[]⟩) (DStep.plain rfl (fun H1 hH=>by exact lX rfl rfl)) rfl ?_;refine qR (r:=⟨_,some [980],jX L15⟩) (.pan rfl (fun H1 hH=>by exact dB rfl rfl zQ rfl (((R0 L14 (by omega)).tot t15 ((hH 980 rfl).trans rfl) (eK _)).mono (PP':=fun ch H'=>rT t=false/\ch=CW/\∃q,H'=jX q++_) (fun _ _ h=>h) (fun ch H' ⟨e,e2,e3⟩=>⟨n15 e,e2,e3⟩)))) rfl ?_;refine bY (r:=⟨_,some [4],[]⟩) (DStep.plain rfl (fun H1 hH=>by exact(by exact aK rfl cX rfl ((hH _ rfl).trans rfl) rfl rfl rfl))) rfl ?_;refine bY (r:=⟨_,some [4],[]⟩) (DStep.plain rfl (fun H1 hH=>by exact fO rfl rfl)) rfl ?_;refine qR (r:=⟨_,some [980,4],jX L16⟩) (.pan rfl (fun H1 hH=>by exact dB rfl rfl call52 rfl (((aHA L15 (by omega)).tot t16 ((hH 980 rfl).trans rfl) (NA.sub ⟨(hH 4 rfl).trans rfl,trivial⟩)).mono (PP':=fun ch H'=>rT t=false/\ch=CW/\∃q,H'=jX q++_) (fun _ _ h=>h) (fun ch H' ⟨e,e2,e3⟩=>⟨n16 e,e2,e3⟩)))) rfl ?_;refine bY (r:=⟨_,some [],[]⟩) (DStep.plain rfl (fun H1 hH=>by exact IL rfl aKD rfl rfl)) rfl ?_;refine bY (r:=⟨_,some [2],[]⟩) (DStep.plain rfl (fun H1 hH=>by exact(by exact aZ rfl fJ rfl ((hH _ rfl).trans rfl) rfl rfl))) rfl ?_;refine bY (r:=⟨_,some [2],[_]⟩) (DStep.plain rfl (fun H1 hH=>by exact(by exact mF rfl sizeOf28 rfl rfl rfl rfl ((hH _ rfl).trans rfl) rfl rfl (aOI rfl) rfl rfl))) rfl ?_
 refine E7 ⟨⟨by kernel_rfl,by kernel_rfl,by kernel_rfl⟩,fun hF=>?_⟩;simp only[S6,true_and,and_true]at hF;refine Sq ?_;have f16:=hF;refine fL.ent (E':=[(0,sv (ofL t)),(2,.ref 2 0 0 0),(3,.ref 3 0 0 0),(4,.ref 4 0 0 0)]) (H':=[(980,T6 L16),(4,inO),(3,eOJ 0),(2,rOJ ⟨V1,V2,V3,V4,V5,V6,ED,V8,decide (V9=NX),V10,V11,V12,⟨V13,V14,V15,V16,zS⟩⟩)]) (cD.wk (Eb<|Ea<|Ea<|Ea<|trivial) (Hb<|Ha<|Hb<|Hb<|trivial) ⟨rfl,rfl,trivial⟩) ?_;refine eW ?_;refine fU rfl rfl rfl (by exact aK rfl cX rfl rfl rfl rfl rfl) ?_;refine SS rfl rfl rfl (by exact dB rfl rfl call51 rfl (((Z8 L16 (by omega)).tot t17 rfl (eK _)).mono (PP':=fun ch H'=>rT t=false/\ch=CW/\∃q,H'=jX q++_) (fun _ _ h=>h) (fun ch H' ⟨e,e2,e3⟩=>⟨n17 e,e2,e3⟩))) (fun ch H' h=>by obtain ⟨e,e2,q,rfl⟩:=h;exact nZ hb e e2 rfl rfl ⟨_,rfl,Q7 _⟩ ⟨_,rfl,Q6 _⟩) (fun h74=>?_);refine fU rfl rfl rfl (by exact aZ rfl fJ rfl rfl rfl rfl) ?_;refine fU rfl rfl rfl (by exact aZ rfl oV rfl rfl rfl rfl) ?_;refine aFK rfl rfl (by exact mF rfl sizeOf25 rfl rfl rfl rfl rfl rfl rfl (aOI rfl) rfl rfl) ?_;refine JJ ?_;refine Sq<|Sq ?_;refine fL.ent (E':=[(0,sv (ofL t)),(2,.ref 2 0 0 0),(3,.ref 3 0 0 0),(4,.ref 4 0 0 0)]) (H':=[(980,T6 L17),(4,inO),(3,eOJ 0),(2,rOJ ⟨V1,V2,V3,V4,V5,V6,ED,V8,decide (V9=NX),V10,V11,V12,⟨V13,V14,V15,V16,V17⟩⟩)]) (cD.wk (Eb<|Ea<|Ea<|Ea<|trivial) (Hb<|Ha<|Hb<|Hb<|trivial) ⟨rfl,rfl,trivial⟩) ?_;have hokt:=yes h16 f4.1 f4.2.1 f4.2.2.1 f4.2.2.2 f6.1 f6.2 h39 f11.1 f11.2.1 f11.2.2.1 f11.2.2.2 h58 f16.1 f16.2.1 f16.2.2.1 f16.2.2.2 h74;have hg1:iU t=if TX=(ofL t,0)then(⟨V1,V2,V3,V4,V5,V6,ED,V8,decide (V9=NX),V10,V11,V12,⟨V13,V14,V15,V16,V17⟩⟩,0)else(zR,5):=by rw[hg0];by_cases e:TX=(ofL t,0);rw[aNu ⟨hokt,e⟩,aNu e];rw[aNt (fun h=>e h.2),aNt e]
 refine Rg<|Dd (rC bH aR)<|Dd (by exact aA rfl rfl aNi rfl (htx _))<|Dd aG<|Dd eZ<|Dd eZ<|Dd aM<|Dd aM<|Zz<|Sq ?_;refine bF (t:=88) (n:=8) (X:=!decide (TX.2=0)||!decide (TX.1=ofL t)) ?_ ?_
 ·all_goals refine Dd aG ?_
  all_goals refine Dd zW<|Dm ?_
  all_goals refine Sp 84 (fun h84=>?_) fun h84=>?_
  all_goals try contradiction
  all_goals first|refine Fo<|Fo<|Fo ?_|refine On aG<|On aG<|On TU ?_
  all_goals refine Dd cN<|Zz ?_
  all_goals(exact⟨⟨_,rfl,by(rw[h84];rfl)⟩,rfl,rfl,rfl⟩)
 refine Cn ?_ ?_<;>intro hc1
 ·have hne:TX≠(ofL t,0):=by have:=hc1;rintro rfl;simp at this
  refine Sr<|Dd (wV WC)<|Uu (kG aR)<|Uu (kG sizeOf41)<|Zz<|aE ?_;exact OY (by rw[hg1,aNt hne]) (cD.wk (Ea<|Ea<|trivial) (Hb<|Hb<|trivial) ⟨rfl,rfl,trivial⟩)
 have heq:TX=(ofL t,0):=by have:=hc1;rw[aOR,Bool.not_eq_false',Bool.not_eq_false',aOC,aOC]at this;exact Prod.ext this.2 this.1
 refine aF<|Sr<|Dd (rC bH aR)<|Uu (kG aR)<|Uu (kG sizeOf41)<|Zz<|aE ?_;exact OY (by rw[hg1,aNu heq]) (cD.wk (Ea<|Ea<|trivial) (Hb<|Hb<|trivial) ⟨rfl,rfl,trivial⟩)
end Go.Proofs.YtmdicgjnmfolfaaGreatDoor
namespace Go.Proofs.YtmdicgjnmfolfaaGreatDoor
open Go.Proofs.Tryz
open Go.Abs Go.Lib
theorem iM{α:Type}{f:List UInt8->Option (α×List UInt8)}{d:α}{l:List UInt8}{p:α×List UInt8}(h:f l=some p):F3 f d l=p:=by rw[F3,h];rfl
theorem YZ{l:List GEdit}(h:(kA l).2=true):(lI (kA l).1).1=l:=by
 rw[kA]at h |-
 split at h
 ·next h0 =>
  rw[aNu h0,List.eq_nil_of_length_eq_zero h0]
  kernel_rfl
 next h0 =>
 rw[aNt h0];exact congrArg Prod.fst (HK (aNr h))
theorem aCd(b:Bool):decide (bI (if b then 1 else 0)=NX)=b:=by cases b<;>kernel_rfl
def aGK(r:GRec):List ByteArray:=[]
def aGL(r:GRec):List ByteArray:=fI (.z r.priv.sl.idx r.priv.sl.sig r.priv.sl.path)++aGK r
def aGM(r:GRec):List ByteArray:=fI (.p r.priv.trace)++aGL r
def aGN(r:GRec):List ByteArray:=bI (r.priv.sources.length:Int)::(r.priv.sources++aGM r)
def aGO(r:GRec):List ByteArray:=r.priv.reason::aGN r
def aGP(r:GRec):List ByteArray:=r.priv.name::aGO r
def aGQ(r:GRec):List ByteArray:=fI (.z r.sl.idx r.sl.sig r.sl.path)++aGP r
def aGR(r:GRec):List ByteArray:=r.from'::aGQ r
def aGS(r:GRec):List ByteArray:=bI r.order::aGR r
def sf9(r:GRec):List ByteArray:=(bI (if r.yes then 1 else 0))::aGS r
def sf8(r:GRec):List ByteArray:=r.target::sf9 r
def sf7(r:GRec):List ByteArray:=(kA r.edits).1::sf8 r
def sf6(r:GRec):List ByteArray:=bI (r.parents.length:Int)::(r.parents++sf7 r)
def sf5(r:GRec):List ByteArray:=r.branch::sf6 r
def sf4(r:GRec):List ByteArray:=bI r.clock::sf5 r
def sf3(r:GRec):List ByteArray:=bI r.number::sf4 r
def sf2(r:GRec):List ByteArray:=bI r.author::sf3 r
def sf1(r:GRec):List ByteArray:=bI r.kind::sf2 r
def sf0(r:GRec):List ByteArray:=XM::sf1 r
theorem aKG(r:GRec):sF r=sf0 r:=by simp[sF,pL,vK,F4,DY,fI,sf0,sf1,sf2,sf3,sf4,sf5,sf6,sf7,sf8,sf9,aGS,aGR,aGQ,aGP,aGO,aGN,aGM,aGL,aGK]
theorem aBR{r:GRec}(h:VF r):rT (aL (sF r))=true/\D3 (aL (sF r))=r:=by
 have hk:=PN h.k;have hau:=h.au;have hnu:=h.nu;have hcl:=h.cl;have hod:=h.order;have hpl:=h.pal;have hsl:=jB h.sl;have hps:=jB h.psl;have s0:=hsl.i0;have s1:=hsl.i1;have s2:=hsl.sl;have s3:=hsl.pl;have z0:=hps.i0;have z1:=hps.i1;have z2:=hps.sl;have z3:=hps.pl;have hso:=h.sol;have htr:=h.trl;have hbr:=GC h.br;have htx:=JX h.tx;have hta:=h.target;have hfr:=h.from
 have hnm:=h.nm;have hrs:=h.rs;have hJ:∀ {l:List ByteArray},(∀t∈l,isJ t=true)->∀t∈l,nJ t:=fun hl t ht=>Nat.lt_of_le_of_lt (pY (hl t ht)) (by decide);rw[aKG];obtain ⟨t,ht⟩:∃t,t=aL (sf0 r):=⟨_,rfl⟩;rw[<-ht];have f0:gW t=some (XM,aL (sf1 r)):=by rw[ht];exact fQ _ (show XM.size<1000000000000000000 by decide)
 have q0:p0 t=(XM,aL (sf1 r)):=iM f0;have f1:mS (p0 t).2=some (r.kind,aL (sf2 r)):=by rw[q0];exact jA _ (by omega) (by omega)
 have q1:p1 t=(r.kind,aL (sf2 r)):=iM f1;have f2:mS (p1 t).2=some (r.author,aL (sf3 r)):=by rw[q1];exact jA _ (by omega) (by omega)
 have q2:p2 t=(r.author,aL (sf3 r)):=iM f2;have f3:mS (p2 t).2=some (r.number,aL (sf4 r)):=by rw[q2];exact jA _ (by omega) (by omega)
 have q3:p3 t=(r.number,aL (sf4 r)):=iM f3;have f4:mS (p3 t).2=some (r.clock,aL (sf5 r)):=by rw[q3];exact jA _ (by omega) (by omega)
 have q4:p4 t=(r.clock,aL (sf5 r)):=iM f4;have f5:gW (p4 t).2=some (r.branch,aL (sf6 r)):=by rw[q4];exact fQ _ (Nat.lt_of_le_of_lt hbr (by decide))
 have q5:p5 t=(r.branch,aL (sf6 r)):=iM f5;have f6:(uF gW) (p5 t).2=some (r.parents,aL (sf7 r)):=by rw[q5];exact yC _ _ (hJ h.pa) (by omega)
 have q6:p6 t=(r.parents,aL (sf7 r)):=iM f6;have f7:gW (p6 t).2=some ((kA r.edits).1,aL (sf8 r)):=by rw[q6];exact fQ _ (Nat.lt_of_le_of_lt htx (by decide))
 have q7:p7 t=((kA r.edits).1,aL (sf8 r)):=iM f7;have f8:gW (p7 t).2=some (r.target,aL (sf9 r)):=by rw[q7];exact fQ _ (Nat.lt_of_le_of_lt hta (by decide))
 have q8:p8 t=(r.target,aL (sf9 r)):=iM f8;have f9:gW (p8 t).2=some ((bI (if r.yes then 1 else 0)),aL (aGS r)):=by rw[q8];exact fQ _ (HT (by split<;>decide) (by split<;>decide))
 have q9:p9 t=((bI (if r.yes then 1 else 0)),aL (aGS r)):=iM f9;have f10:mS (p9 t).2=some (r.order,aL (aGR r)):=by rw[q9];exact jA _ (by omega) (by omega)
 have q10:NL t=(r.order,aL (aGR r)):=iM f10;have f11:gW (NL t).2=some (r.from',aL (aGQ r)):=by rw[q10];exact fQ _ (Nat.lt_of_le_of_lt hfr (by decide))
 have q11:NK t=(r.from',aL (aGQ r)):=iM f11;have f12:Q4 (NK t).2=some (r.sl,aL (aGP r)):=by rw[q11];exact J9 _ _ s0 (by omega) (hJ hsl.sa) (hJ hsl.pa) (by omega) (by omega)
 have q12:NJ t=(r.sl,aL (aGP r)):=iM f12;have f13:gW (NJ t).2=some (r.priv.name,aL (aGO r)):=by rw[q12];exact fQ _ (Nat.lt_of_le_of_lt hnm (by decide))
 have q13:NI t=(r.priv.name,aL (aGO r)):=iM f13;have f14:gW (NI t).2=some (r.priv.reason,aL (aGN r)):=by rw[q13];exact fQ _ (Nat.lt_of_le_of_lt hrs (by decide))
 have q14:NH t=(r.priv.reason,aL (aGN r)):=iM f14;have f15:(uF gW) (NH t).2=some (r.priv.sources,aL (aGM r)):=by rw[q14];exact yC _ _ (fun x hx=>Nat.lt_of_le_of_lt (h.so x hx) (by decide)) (by omega)
 have q15:NG t=(r.priv.sources,aL (aGM r)):=iM f15;have f16:(uF F5) (NG t).2=some (r.priv.trace,aL (aGL r)):=by rw[q15];exact YF _ _ (fun q hq=>by obtain ⟨⟨a1,a2⟩,a3,a4⟩:=h.tr q hq;exact⟨⟨by omega,by omega⟩,by omega,by omega⟩) (by omega)
 have q16:NF t=(r.priv.trace,aL (aGL r)):=iM f16;have f17:Q4 (NF t).2=some (r.priv.sl,aL (aGK r)):=by rw[q16];exact J9 _ _ z0 (by omega) (hJ hps.sa) (hJ hps.pa) (by omega) (by omega)
 have q17:p17 t=(r.priv.sl,aL (aGK r)):=iM f17;constructor
 ·unfold rT RU;rw[f0,f1,f2,f3,f4,f5,f6,f7,f8,f9,f10,f11,f12,f13,f14,f15,f16,f17];rfl
 unfold D3;rw[q1,q2,q3,q4,q5,q6,q7,q8,q9,q10,q11,q12,q13,q14,q15,q16,q17,YZ h.tx,aCd]
theorem XV{r:GRec}{t:List UInt8}(h:oK r=(ofL t,0)):iU t=(r,0):=by
 have h0:=h;rw[oK]at h;by_cases hv:eD r=true
 ·rw[aNu hv]at h
  split at h
  ·cases h
  next hl =>
  have ht:t=aL (sF r):=by
   have:=congrArg (fun p:ByteArray×Int=>p.1.data.toList) h;simp only[cO]at this;exact this.symm
  obtain ⟨h1,h2⟩:=aBR (oI hv);rw[<-ht]at h1 h2 hl;rw[iU,aNt hl,h2,aNu ⟨h1,h0⟩]
 rw[aNt hv]at h;cases h
end Go.Proofs.YtmdicgjnmfolfaaGreatDoor
namespace Go.Proofs.YtmdicgjnmfolfaaGreatDoor
open Go.Proofs.Tryz
open Go.Abs
variable{α:Type}{i:Nat}{a b:GEdit}
def Y8(e:GEdit):Bool:=((decide (300<IntKind.i64.wrap (IntKind.i64.wrap (IntKind.i64.wrap ((e.id.size:Int)+(e.other.size:Int))+(e.node.size:Int))+(e.key.size:Int)))||decide (600<(e.val.size:Int)))||decide (40<((e.refs.map encStr).length:Int)))||CK e.obj 40
def zH(e:GEdit):Bool:=Y8 e||e.refs.any (zC 300)
def vJ(l:List GEdit)(n:Int):Bool:=decide ((l.length:Int)<=n)&&!l.any zH
theorem aHR(l:List GEdit)(n:Int)(H:aB)(hl:l.length<4611686018427387904)(ho:∀e,e∈l->aII e.obj/\e.refs.length<4611686018427387904):
  aH Tryz.prog 107 [.pv (jF l),iv n] H (fun r H'=>r=bv (vJ l n)/\H'=H):=by
 refine Pu ?_;have hml:(l.map bC).length=l.length:=aNv _;have hB:vJ l n=(decide (((l.map bC).length:Int)<=n)&&!l.any zH):=by rw[vJ,hml]
 refine Bd func107 rfl ntmps107<|Sr<|Dd aM<|Zz<|Sq<|Sr<|Dd aM<|Zz<|aD ?_;refine bL (σ:=Nat) (fun k=>([(0,.pv (jF l)),(1,iv n),(5,iv (k:Int))],[])) (fun k=>k<=l.length/\∀j,j<k->∀b,l[j]?=some b->zH b=false) (fun k=>l.length - k) 0 ⟨by omega,by omega⟩ ?_ ?_
 ·exact Wk
 rintro k ⟨hk,hno⟩;refine Sq<|Sq ?_;refine bF (t:=17) (n:=11) (X:=decide ((k:Int)<((l.map bC).length:Int))&&decide (((l.map bC).length:Int)<=n)) ?_ ?_
 ·all_goals refine Dd aG ?_
  all_goals refine Dd aG<|Dd (fZ dL)<|Dd cP<|Dm ?_
  all_goals refine Sp 12 (fun h12=>?_) fun h12=>?_
  all_goals try contradiction
  all_goals first|refine Fo<|Fo<|Fo<|Fo ?_|refine On aG<|On (fZ dL)<|On aG<|On TA ?_
  all_goals refine Dd cN<|Zz ?_
  all_goals(exact⟨⟨_,rfl,by(rw[h12];rfl)⟩,rfl,rfl,rfl⟩)
 refine Cn ?_ ?_<;>intro hc1
 ·have h:=hc1;rw[aOE,aOC]at h;have hlt:k<l.length:=by have:=h.1;omega
  obtain ⟨e,hel⟩:=aV hlt;have hi:=cA (f:=bC) hel;obtain ⟨ho1,ho2⟩:=ho e (aOF hel);have hrl:(e.refs.map encStr).length=e.refs.length:=aNv _;obtain ⟨w,hw⟩:∃w,w=IntKind.i64.wrap (IntKind.i64.wrap (IntKind.i64.wrap ((e.id.size:Int)+(e.other.size:Int))+(e.node.size:Int))+(e.key.size:Int)):=⟨_,rfl⟩;have hbh:Y8 e=(((decide (300<w)||decide (600<(e.val.size:Int)))||decide (40<((e.refs.map encStr).length:Int)))||!!CK e.obj 40):=by rw[Y8,<-hw,Bool.not_not]
  refine aF<|Sq<|aD<|Sr<|Dd aG<|Dd aG<|Dd (zV XD)<|Dd (by exact cU rfl bW bA rfl (by omega) (by simp only[Zl,bJ,bN,encStr,bC,jR];rfl) rfl)<|Dd (by exact bM (id:=6) rfl ZJ rfl rfl)<|Uu (kG bA)<|Zz<|Sq<|Sq ?_;refine bF (t:=57) (n:=37) (X:=((decide (300<w)||decide (600<(e.val.size:Int)))||decide (40<((e.refs.map encStr).length:Int)))||!!CK e.obj 40) ?_ ?_
  ·all_goals refine Dd (bE lL) ?_
   all_goals refine Dd (bQ isAgg9)<|Dd (nF underlying9)<|Dd (bE iW)<|Dd (bQ isAgg9)<|Dd (nF underlying9)<|Dd (by exact bG rfl rfl rfl rfl)<|Dd (bE oX)<|Dd (bQ isAgg9)<|Dd (nF underlying9)<|Dd (by exact bG rfl rfl rfl rfl)<|Dd (bE lK)<|Dd (bQ isAgg9)<|Dd (nF underlying9)<|Dd (by exact bG rfl rfl rfl (hw.symm))<|Dd mN<|Dm ?_
   all_goals refine Sp 40 (fun h40=>?_) fun h40=>?_
   all_goals try contradiction
   all_goals first|refine Fo<|Fo<|Fo<|Fo ?_|refine On (bE mK)<|On (bQ isAgg9)<|On (nF underlying9)<|On mN ?_
   all_goals refine Dd cN<|Dm ?_
   all_goals refine Sp 46 (fun h46=>?_) fun h46=>?_
   all_goals try contradiction
   all_goals first|refine Fo<|Fo<|Fo<|Fo ?_|refine On (bE fC)<|On (bQ aJ)<|On (fZ aC)<|On mN ?_
   all_goals refine Dd cN<|Dm ?_
   all_goals refine Sp 52 (fun h52=>?_) fun h52=>?_
   all_goals try contradiction
   all_goals first|refine Fo<|Fo<|Fo<|Fo ?_|refine On (bE rZ)<|On (rC cR sizeOf151)<|On (by exact aA rfl rfl call145 rfl (aHS e.obj 40 _ ho1))<|On mT ?_
   all_goals refine Dd cN<|Zz ?_
   all_goals(exact⟨⟨_,rfl,by first|(rw[h40];rfl)|(rw[h40,h46];rfl)|(rw[h40,h46,h52];rfl)⟩,rfl,rfl,rfl⟩)
  refine Cn ?_ ?_<;>intro hc2
  ·have hb:zH e=true:=by rw[zH,hbh,hc2];rfl
   have hf:vJ l n=false:=by rw[vJ,A9 (p:=zH) hel hb];simp
   rw[hf];exact Sr<|Dd aM<|Zz<|aE<|Rt<|Qq
  refine aF<|Sr<|Dd aM<|Zz<|aD ?_;refine bL (σ:=Nat) (fun q=>([(0,.pv (jF l)),(1,iv n),(5,iv (k:Int)),(6,.ref 6 0 0 0),(7,iv (q:Int))],[(6,bx 15 153 ((bC e).map .pv))])) (fun q=>q<=e.refs.length/\∀j,j<q->∀b,e.refs[j]?=some b->zC 300 b=false) (fun q=>e.refs.length - q) 0 ⟨by omega,by omega⟩ ?_ ?_
  ·exact Wk
  rintro q ⟨hq,hnr⟩;refine Sq<|Sr<|Dd aG<|Dd (bE fC)<|Dd (bQ aJ)<|Dd (fZ aC)<|Dd cP<|Zz ?_;refine Cn ?_ ?_<;>intro hc3
  ·have hql:q<e.refs.length:=by have:=aNr hc3;omega
   obtain ⟨s,hs⟩:=aV hql;have hi2:=cA (f:=encStr) hs;refine aF<|Sq<|aD<|Sr<|Dd (bE fC)<|Dd (bQ aJ)<|Dd aG<|Dd (by exact aT rfl bT rfl rfl (by omega) (by exact aOG _) hi2 rfl)<|Dd (kS isAgg9)<|Dd (nF underlying9)<|Dd mN<|Zz ?_;refine Cn ?_ ?_<;>intro hc4
   ·have hb:zH e=true:=by rw[zH,A9 (p:=zC 300) hs hc4,Bool.or_true]
    have hf:vJ l n=false:=by rw[vJ,A9 (p:=zH) hel hb];simp
    rw[hf];exact Sr<|Dd aM<|Zz<|aE<|Rt<|Qq
   refine aF<|Rg<|Dd aG<|Dd qV<|Da ?_;exact⟨q+1,⟨by omega,AH (p:=zC 300) hnr hs hc4⟩,by omega,Wk⟩
  have hge:q=e.refs.length:=by have:=aNs hc3;omega
  subst hge;have hb:zH e=false:=by rw[zH,hbh,hc2,FG hnr];rfl
  refine aY<|Rg<|Dd aG<|Dd qV<|Da ?_;exact⟨k+1,⟨by omega,AH (p:=zH) hno hel hb⟩,by omega,Wk⟩
 refine aY<|Sr<|Dd aG<|Dd (fZ dL)<|Dd aG<|Dd TA<|Dd aM<|Zz<|aE<|Rt ?_;refine⟨?_,rfl⟩;rw[hB];have h:=hc1;rw[Bool.and_eq_false_iff,aOD]at h;rcases h with h|h
 ·have hge:k=l.length:=by omega
  subst hge;rw[FG hno];simp
 rw[h];rfl
theorem EZ{a b:List α}{n:Nat}(hl:a.length=b.length)(hn:n=a.length)(h:a.take n=b.take n):a=b:=by rw[List.take_of_length_le (by omega),List.take_of_length_le (by omega)]at h;exact h
theorem xF{a b:List α}{x y:α}(h:a.take i=b.take i)(hx:a[i]?=some x)(hy:b[i]?=some y)(e:x=y):a.take (i+1)=b.take (i+1):=by rw[List.take_add_one,List.take_add_one,h,hx,hy,e]
theorem aAL{a b:List α}{x y:α}(hx:a[i]?=some x)(hy:b[i]?=some y)(e:x≠y):a≠b:=fun h=>by
 subst h;rw[hx]at hy;exact e (Option.some.inj hy)
theorem uL(a b:List ByteArray)(H:aB)(ha:a.length<4611686018427387904)(hb:b.length<4611686018427387904):aH Tryz.prog 88 [.pv (aS a),.pv (aS b)] H (fun r H'=>r=bv (decide (a=b))/\H'=H):=by
 refine Pu ?_;have hma:(a.map encStr).length=a.length:=aNv _;have hmb:(b.map encStr).length=b.length:=aNv _;refine Bd func88 rfl ntmps88<|Sr<|Dd aM<|Zz<|Sq<|Sr<|Dd aG<|Dd (fZ aC)<|Dd aG<|Dd (fZ aC)<|Dd zW<|Zz ?_;refine Cn ?_ ?_<;>intro hc1
 ·have hne:a≠b:=by have h:=hc1;intro e;subst e;simp at h
  rw[decide_eq_false hne];exact Sr<|Dd aM<|Zz<|aE<|Rt<|Qq
 have hl:a.length=b.length:=by have h:=hc1;simp only[Bool.not_eq_false',aOC]at h;omega
 refine aF<|Sq<|Sr<|Dd aM<|Zz<|aD ?_;refine bL (σ:=Nat) (fun i=>([(0,.pv (aS a)),(1,.pv (aS b)),(5,iv (i:Int))],[])) (fun i=>i<=a.length/\a.take i=b.take i) (fun i=>a.length - i) 0 ⟨by omega,rfl⟩ ?_ ?_
 ·exact Wk
 rintro i ⟨hi,hp⟩;refine Sq<|Sr<|Dd aG<|Dd aG<|Dd (fZ aC)<|Dd cP<|Zz ?_;refine Cn ?_ ?_<;>intro hc2
 ·have hil:i<a.length:=by have:=aNr hc2;omega
  obtain ⟨s,hs⟩:=aV hil;obtain ⟨u,hu⟩:=aV (show i<b.length by omega);have hi1:=cA (f:=encStr) hs;have hi2:=cA (f:=encStr) hu;refine aF<|Sq<|aD<|Sq<|aP follows<|Cq aG<|Cq aG<|Cq (by exact aT rfl bT rfl rfl (by omega) (by exact aOG _) hi1 rfl)<|Cq (kS isAgg9 (hi:=hi1))<|Cq aG<|Cq aG<|Cq (by exact aT rfl bT rfl rfl (by omega) (by exact aOG _) hi2 rfl)<|Cq (kS isAgg9 (hi:=hi2))<|Cq TU<|bK<|Kr ?_;refine Cn ?_ ?_<;>intro hc3
  ·have hne:s≠u:=by have h:=hc3;intro e;subst e;simp at h
   rw[decide_eq_false (aAL hs hu hne)];exact Sr<|Dd aM<|Zz<|aE<|Rt<|Qq
  have heq:s=u:=by have h:=hc3;simpa using h
  refine aF<|Rg<|Dd aG<|Dd (by exact bG rfl rfl rfl (show IntKind.i64.wrap ((i:Int)+1)=((i+1:Nat):Int)by rw[iY (by omega) (by omega)];omega))<|Da ?_;exact⟨i+1,⟨by omega,xF hp hs hu heq⟩,by omega,Wk⟩
 have hge:i=a.length:=by have:=aNs hc2;omega
 rw[decide_eq_true (EZ hl hge hp)];exact aY<|Sr<|Dd aM<|Zz<|aE<|Rt<|Qq
def UK(s:GSeal):Prop:=s.sig.length<4611686018427387904/\s.path.length<4611686018427387904
theorem EG{s:GSeal}(h:qY s):UK s:=⟨by have:=h.2.1.1;omega,by have:=h.2.2.1;omega⟩
theorem CQ(a b:GSeal)(H:aB)(ha:UK a)(hb:UK b):aH Tryz.prog 31 [av (gG a),av (gG b)] H (fun r H'=>r=bv (decide (a=b))/\H'=H):=by
 refine aH.pure ?_ (by simp[gG]) H;have hs1:=fun H=>uL a.sig b.sig H ha.1 hb.1;have hs2:=fun H=>uL a.path b.path H ha.2 hb.2;have hX:decide (a=b)=((decide (a.idx=b.idx)&&decide (a.sig=b.sig))&&decide (a.path=b.path)):=by
  obtain ⟨a1,a2,a3⟩:=a;obtain ⟨b1,b2,b3⟩:=b;rw[Bool.eq_iff_iff];simp[and_assoc]
 rw[hX];refine Bd func31 rfl ntmps31<|Sr<|Dd (by exact cE (id:=2) rfl rfl rfl rfl rfl)<|Dd (by exact cE (id:=3) rfl rfl rfl rfl rfl)<|Dd aM<|Zz<|Sq ?_;refine bF (t:=4) (n:=22) (X:=(decide (a.idx=b.idx)&&decide (a.sig=b.sig))&&decide (a.path=b.path)) ?_ ?_
 ·all_goals refine Dd (bE mD) ?_
  all_goals refine Dd (bQ isAgg3)<|Dd (bE mD)<|Dd (bQ isAgg3)<|Dd dK<|Dm ?_
  all_goals refine Sp 10 (fun h10=>?_) fun h10=>?_
  all_goals try contradiction
  all_goals first|refine Fo<|Fo<|Fo<|Fo<|Fo ?_|refine On (bE iG)<|On (bQ aJ)<|On (bE iG)<|On (bQ aJ)<|On (by exact aA rfl rfl aFb rfl (hs1 _)) ?_
  all_goals refine Dd cN<|Dm ?_
  all_goals refine Sp 17 (fun h17=>?_) fun h17=>?_
  all_goals try contradiction
  all_goals first|refine Fo<|Fo<|Fo<|Fo<|Fo ?_|refine On (bE lF)<|On (bQ aJ)<|On (bE lF)<|On (bQ aJ)<|On (by exact aA rfl rfl aFb rfl (hs2 _)) ?_
  all_goals refine Dd cN<|Da ?_
  all_goals(exact⟨⟨_,rfl,by first|(rw[h10];rfl)|(rw[h10,h17];rfl)⟩,rfl,rfl,rfl⟩)
 exact aE<|Rt<|Qq
def RH(a b:GPriv):Bool:=((decide (a.name=b.name)&&decide (a.reason=b.reason))&&decide (a.sources=b.sources))&&decide (a.trace=b.trace)
def aGb(a b:GPriv):Bool:=((!decide (a.name=b.name)||!decide (a.reason=b.reason))||!decide (a.sources=b.sources))||!decide (((a.trace.map gB).length:Int)=((b.trace.map gB).length:Int))
theorem NC(a b:GPriv)(H:aB)(ha:a.sources.length<4611686018427387904)(hb:b.sources.length<4611686018427387904)(hat:a.trace.length<4611686018427387904):aH Tryz.prog 27 [av (sB a),av (sB b)] H (fun r H'=>r=bv (RH a b)/\H'=H):=by
 refine aH.pure ?_ (by simp[sB]) H;have hma:(a.trace.map gB).length=a.trace.length:=aNv _;have hmb:(b.trace.map gB).length=b.trace.length:=aNv _;have hs1:=fun H=>uL a.sources b.sources H ha hb;have hX:aGb a b=(((!decide (a.name=b.name)||!decide (a.reason=b.reason))||!decide (a.sources=b.sources))||!decide (((a.trace.map gB).length:Int)=((b.trace.map gB).length:Int))):=rfl;refine Bd func27 rfl ntmps27<|Sr<|Dd (by exact cE (id:=2) rfl rfl rfl rfl rfl)<|Dd (by exact cE (id:=3) rfl rfl rfl rfl rfl)<|Dd aM<|Zz<|Sq<|Sq ?_;refine bF (t:=34) (n:=32) (X:=aGb a b) ?_ ?_
 ·all_goals refine Dd (bE C7) ?_
  all_goals refine Dd (bQ isAgg9)<|Dd (bE C7)<|Dd (bQ isAgg9)<|Dd TU<|Dm ?_
  all_goals refine Sp 11 (fun h11=>?_) fun h11=>?_
  all_goals try contradiction
  all_goals first|refine Fo<|Fo<|Fo<|Fo<|Fo ?_|refine On (bE C6)<|On (bQ isAgg9)<|On (bE C6)<|On (bQ isAgg9)<|On TU ?_
  all_goals refine Dd cN<|Dm ?_
  all_goals refine Sp 18 (fun h18=>?_) fun h18=>?_
  all_goals try contradiction
  all_goals first|refine Fo<|Fo<|Fo<|Fo<|Fo<|Fo ?_|refine On (bE A0)<|On (bQ aJ)<|On (bE A0)<|On (bQ aJ)<|On (by exact aA rfl rfl aFb rfl (hs1 _))<|On mT ?_
  all_goals refine Dd cN<|Dm ?_
  all_goals refine Sp 26 (fun h26=>?_) fun h26=>?_
  all_goals try contradiction
  all_goals first|refine Fo<|Fo<|Fo<|Fo<|Fo<|Fo<|Fo ?_|refine On (bE tP)<|On (bQ jT)<|On (fZ dY)<|On (bE tP)<|On (bQ jT)<|On (fZ dY)<|On zW ?_
  all_goals refine Dd cN<|Zz ?_
  all_goals(exact⟨⟨_,rfl,by first|(rw[hX,h11];rfl)|(rw[hX,h11,h18];rfl)|(rw[hX,h11,h18,h26];rfl)⟩,rfl,rfl,rfl⟩)
 refine Cn ?_ ?_<;>intro hc1
 ·have h:=hc1;have hne:RH a b=false:=by
   rw[RH];simp only[aGb,hma,hmb,Bool.or_eq_true,aOO,aOD]at h;simp only[Bool.and_eq_false_iff,aOD];rcases h with((h|h)|h)|h
   ·exact .inl (.inl (.inl h))
   ·exact .inl (.inl (.inr h))
   ·exact .inl (.inr h)
   exact .inr fun e=>h (by rw[e])
  rw[hne];exact Sr<|Dd aM<|Zz<|aE<|Rt<|Qq
 have h:=hc1;simp only[aGb,hma,hmb,aOR,Bool.not_eq_false',aOC]at h;obtain ⟨⟨⟨h1,h2⟩,h3⟩,h4⟩:=h;have hl:a.trace.length=b.trace.length:=by omega
 have hp2:RH a b=decide (a.trace=b.trace):=by rw[RH,decide_eq_true h1,decide_eq_true h2,decide_eq_true h3];rfl
 rw[hp2];refine aF<|Sq<|Sr<|Dd aM<|Zz<|aD ?_;refine bL (σ:=Nat) (fun i=>([(2,.ref 2 0 0 0),(3,.ref 3 0 0 0),(5,iv (i:Int))],[(3,bx 7 28 ((sB b).map .pv)),(2,bx 7 28 ((sB a).map .pv))])) (fun i=>i<=a.trace.length/\a.trace.take i=b.trace.take i) (fun i=>a.trace.length - i) 0 ⟨by omega,rfl⟩ ?_ ?_
 ·exact Wk
 rintro i ⟨hi,hp⟩;refine Sq<|Sr<|Dd aG<|Dd (bE tP)<|Dd (bQ jT)<|Dd (fZ dY)<|Dd cP<|Zz ?_;refine Cn ?_ ?_<;>intro hc2
 ·have hil:i<a.trace.length:=by have:=aNr hc2;omega
  obtain ⟨s,hs⟩:=aV hil;obtain ⟨u,hu⟩:=aV (show i<b.trace.length by omega);have hi1:=cA (f:=gB) hs;have hi2:=cA (f:=gB) hu;refine aF<|Sq<|aD<|Sq<|aP follows<|Cq (bE tP)<|Cq (bQ jT)<|Cq aG<|Cq (by exact aT rfl TT rfl rfl (by omega) (by exact aOG _) hi1 rfl)<|Cq (by exact cU rfl dZ sizeOf68 rfl hi1 (by simp only[Zl,gB];rfl) rfl)<|Cq (bE tP)<|Cq (bQ jT)<|Cq aG<|Cq (by exact aT rfl TT rfl rfl (by omega) (by exact aOG _) hi2 rfl)<|Cq (by exact cU rfl dZ sizeOf68 rfl hi2 (by simp only[Zl,gB];rfl) rfl)<|Cq (by exact AP rfl rfl rfl rfl rfl kQ (XH _ _ _ _))<|bK<|Kr ?_;refine Cn ?_ ?_<;>intro hc3
  ·have hne:s≠u:=by have h:=hc3;intro e;subst e;simp at h
   rw[decide_eq_false (aAL hs hu hne)];exact Sr<|Dd aM<|Zz<|aE<|Rt<|Qq
  have heq:s=u:=by have h:=hc3;simp at h;exact Prod.ext h.1 h.2
  refine aF<|Rg<|Dd aG<|Dd (by exact bG rfl rfl rfl (show IntKind.i64.wrap ((i:Int)+1)=((i+1:Nat):Int)by rw[iY (by omega) (by omega)];omega))<|Da ?_;exact⟨i+1,⟨by omega,xF hp hs hu heq⟩,by omega,Wk⟩
 have hge:i=a.trace.length:=by have:=aNs hc2;omega
 rw[decide_eq_true (EZ hl hge hp)];exact aY<|Sr<|Dd aM<|Zz<|aE<|Rt<|Qq
def aBv(a b:GEdit):Bool:=((((((!decide (a.op=b.op)||!decide (a.id=b.id))||!decide (a.other=b.other))||!decide (a.node=b.node))||!(decide (a.x=b.x)&&decide (a.y=b.y)))||!decide (a.key=b.key))||!decide (a.val=b.val))||!decide (((a.refs.map encStr).length:Int)=((b.refs.map encStr).length:Int))
def VN(a b:GEdit):Bool:=(((((((decide (a.op=b.op)&&decide (a.id=b.id))&&decide (a.other=b.other))&&decide (a.node=b.node))&&(decide (a.x=b.x)&&decide (a.y=b.y)))&&decide (a.key=b.key))&&decide (a.val=b.val))&&decide (a.refs=b.refs))&&rD a.obj b.obj
theorem E6:VN a b=true↔a=b:=by obtain ⟨a1,a2,a3,a4,a5,a6,a7,a8,a9,a10⟩:=a;obtain ⟨b1,b2,b3,b4,b5,b6,b7,b8,b9,b10⟩:=b;simp only[VN,aOE,aOC,C1,GEdit.mk.injEq,and_assoc]
theorem aHX(h:aBv a b=true):VN a b=false:=by
 cases e:VN a b with
 |false=>rfl
 |true =>
  have:=E6.1 e;subst this;simp[aBv]at h
theorem aEh(h:aBv a b=false):a.refs.length=b.refs.length/\∀r:Bool,(decide (a.refs=b.refs)&&rD a.obj b.obj)=r->VN a b=r:=by simp only[aBv,aOR,Bool.not_eq_false',aOC,aOE,aNv]at h;obtain ⟨⟨⟨⟨⟨⟨⟨h1,h2⟩,h3⟩,h4⟩,h5,h6⟩,h7⟩,h8⟩,h9⟩:=h;refine⟨by omega,fun r hr=>?_⟩;rw[VN,decide_eq_true h1,decide_eq_true h2,decide_eq_true h3,decide_eq_true h4,decide_eq_true h5,decide_eq_true h6,decide_eq_true h7,decide_eq_true h8];exact hr
theorem aBO(a b:GEdit)(H:aB)(ha:S9 a)(hb:S9 b):aH Tryz.prog 138 [av (bC a),av (bC b)] H (fun r H'=>r=bv (VN a b)/\H'=H):=by
 refine aH.pure ?_ (by simp[bC]) H;have hra:(a.refs.map encStr).length=a.refs.length:=aNv _;have hrb:(b.refs.map encStr).length=b.refs.length:=aNv _;have hla:=ha.2.1.1;have hlb:=hb.2.1.1;have hX:aBv a b=(((((((!decide (a.op=b.op)||!decide (a.id=b.id))||!decide (a.other=b.other))||!decide (a.node=b.node))||!(decide (a.x=b.x)&&decide (a.y=b.y)))||!decide (a.key=b.key))||!decide (a.val=b.val))||!decide (((a.refs.map encStr).length:Int)=((b.refs.map encStr).length:Int))):=rfl;have hso:=fun H=>aG0 a.obj b.obj H ha.2.2.2.2.1 ha.2.2.2.1.1;obtain ⟨so,hsoE⟩:∃so,so=rD a.obj b.obj:=⟨_,rfl⟩;have hyes:=fun h=>aEh (a:=a) (b:=b) h;rw[<-hsoE]at hso hyes;clear hsoE;refine Bd func138 rfl ntmps138<|Sr<|Dd (by exact cE (id:=2) rfl rfl rfl rfl rfl)<|Dd (by exact cE (id:=3) rfl rfl rfl rfl rfl)<|Dd aM<|Zz<|Sq<|Sq ?_;refine bF (t:=61) (n:=63) (X:=aBv a b) ?_ ?_
 ·all_goals refine Dd (bE yL) ?_
  all_goals refine Dd (bQ isAgg3)<|Dd (bE yL)<|Dd (bQ isAgg3)<|Dd zW<|Dm ?_
  all_goals refine Sp 11 (fun h11=>?_) fun h11=>?_
  all_goals try contradiction
  all_goals first|refine Fo<|Fo<|Fo<|Fo<|Fo ?_|refine On (bE lL)<|On (bQ isAgg9)<|On (bE lL)<|On (bQ isAgg9)<|On TU ?_
  all_goals refine Dd cN<|Dm ?_
  all_goals refine Sp 18 (fun h18=>?_) fun h18=>?_
  all_goals try contradiction
  all_goals first|refine Fo<|Fo<|Fo<|Fo<|Fo ?_|refine On (bE iW)<|On (bQ isAgg9)<|On (bE iW)<|On (bQ isAgg9)<|On TU ?_
  all_goals refine Dd cN<|Dm ?_
  all_goals refine Sp 25 (fun h25=>?_) fun h25=>?_
  all_goals try contradiction
  all_goals first|refine Fo<|Fo<|Fo<|Fo<|Fo ?_|refine On (bE oX)<|On (bQ isAgg9)<|On (bE oX)<|On (bQ isAgg9)<|On TU ?_
  all_goals refine Dd cN<|Dm ?_
  all_goals refine Sp 32 (fun h32=>?_) fun h32=>?_
  all_goals try contradiction
  all_goals first|refine Fo<|Fo<|Fo<|Fo<|Fo ?_|refine On (bE iP)<|On (by exact aN rfl dZ sizeOf68 rfl rfl rfl rfl (by simp only[Zl,bC];rfl) rfl)<|On (bE iP)<|On (by exact aN rfl dZ sizeOf68 rfl rfl rfl rfl (by simp only[Zl,bC];rfl) rfl)<|On (by exact AP rfl rfl rfl rfl rfl kQ (XH _ _ _ _)) ?_
  all_goals refine Dd cN<|Dm ?_
  all_goals refine Sp 39 (fun h39=>?_) fun h39=>?_
  all_goals try contradiction
  all_goals first|refine Fo<|Fo<|Fo<|Fo<|Fo ?_|refine On (bE lK)<|On (bQ isAgg9)<|On (bE lK)<|On (bQ isAgg9)<|On TU ?_
  all_goals refine Dd cN<|Dm ?_
  all_goals refine Sp 46 (fun h46=>?_) fun h46=>?_
  all_goals try contradiction
  all_goals first|refine Fo<|Fo<|Fo<|Fo<|Fo ?_|refine On (bE mK)<|On (bQ isAgg9)<|On (bE mK)<|On (bQ isAgg9)<|On TU ?_
  all_goals refine Dd cN<|Dm ?_
  all_goals refine Sp 53 (fun h53=>?_) fun h53=>?_
  all_goals try contradiction
  all_goals first|refine Fo<|Fo<|Fo<|Fo<|Fo<|Fo<|Fo ?_|refine On (bE fC)<|On (bQ aJ)<|On (fZ aC)<|On (bE fC)<|On (bQ aJ)<|On (fZ aC)<|On zW ?_
  all_goals refine Dd cN<|Zz ?_
  all_goals(exact⟨⟨_,rfl,by first|(rw[hX,h11];rfl)|(rw[hX,h11,h18];rfl)|(rw[hX,h11,h18,h25];rfl)|(rw[hX,h11,h18,h25,h32];rfl)|(rw[hX,h11,h18,h25,h32,h39];rfl)|(rw[hX,h11,h18,h25,h32,h39,h46];rfl)|(rw[hX,h11,h18,h25,h32,h39,h46,h53];rfl)⟩,rfl,rfl,rfl⟩)
 refine Cn ?_ ?_<;>intro hc1
 ·rw[aHX hc1];exact Sr<|Dd aM<|Zz<|aE<|Rt<|Qq
 obtain ⟨hl,hyes⟩:=hyes hc1;refine aF<|Sq<|Sr<|Dd aM<|Zz<|aD ?_;refine bL (σ:=Nat) (fun i=>([(2,.ref 2 0 0 0),(3,.ref 3 0 0 0),(5,iv (i:Int))],[(3,bx 15 153 ((bC b).map .pv)),(2,bx 15 153 ((bC a).map .pv))])) (fun i=>i<=a.refs.length/\a.refs.take i=b.refs.take i) (fun i=>a.refs.length - i) 0 ⟨by omega,rfl⟩ ?_ ?_
 ·exact Wk
 rintro i ⟨hi,hp⟩;refine Sq<|Sr<|Dd aG<|Dd (bE fC)<|Dd (bQ aJ)<|Dd (fZ aC)<|Dd cP<|Zz ?_;refine Cn ?_ ?_<;>intro hc2
 ·have hil:i<a.refs.length:=by have:=aNr hc2;omega
  obtain ⟨s,hs⟩:=aV hil;obtain ⟨u,hu⟩:=aV (show i<b.refs.length by omega);have hi1:=cA (f:=encStr) hs;have hi2:=cA (f:=encStr) hu;refine aF<|Sq<|aD<|Sq<|aP follows<|Cq (bE fC)<|Cq (bQ aJ)<|Cq aG<|Cq (by exact aT rfl bT rfl rfl (by omega) (by exact aOG _) hi1 rfl)<|Cq (kS isAgg9 (hi:=hi1))<|Cq (bE fC)<|Cq (bQ aJ)<|Cq aG<|Cq (by exact aT rfl bT rfl rfl (by omega) (by exact aOG _) hi2 rfl)<|Cq (kS isAgg9 (hi:=hi2))<|Cq TU<|bK<|Kr ?_;refine Cn ?_ ?_<;>intro hc3
  ·have hne:s≠u:=by have h:=hc3;intro e;subst e;simp at h
   rw[hyes false (by rw[decide_eq_false (aAL hs hu hne)];rfl)];exact Sr<|Dd aM<|Zz<|aE<|Rt<|Qq
  have heq:s=u:=by have h:=hc3;simpa using h
  refine aF<|Rg<|Dd aG<|Dd (by exact bG rfl rfl rfl (show IntKind.i64.wrap ((i:Int)+1)=((i+1:Nat):Int)by rw[iY (by omega) (by omega)];omega))<|Da ?_;exact⟨i+1,⟨by omega,xF hp hs hu heq⟩,by omega,Wk⟩
 have hge:i=a.refs.length:=by have:=aNs hc2;omega
 rw[hyes so (by rw[decide_eq_true (EZ hl hge hp)];rfl)];exact aY<|Sr<|Dd (bE rZ)<|Dd (by exact aN rfl cR sizeOf151 rfl rfl rfl rfl (by simp only[Zl,bC,bN];rfl) rfl)<|Dd (bE rZ)<|Dd (by exact aN rfl cR sizeOf151 rfl rfl rfl rfl (by simp only[Zl,bC,bN];rfl) rfl)<|Dd (by exact aA rfl rfl call179 rfl (hso _))<|Dd aM<|Zz<|aE<|Rt<|Qq
def zE:List GEdit->List GEdit->Bool
 | [],[]=>true
 |a::l,b::m=>VN a b&&zE l m
 |_,_=>false
theorem BV:∀ {a b:List GEdit},zE a b=true↔a=b
 | [],[]=>by simp[zE]
 |a::l,b::m=>by rw[zE,aOE,E6,BV,List.cons.injEq]
 | [],_::_=>by simp[zE]
 |_::_,[]=>by simp[zE]
theorem VL{a b:List GEdit}(h:a≠b):zE a b=false:=by
 cases e:zE a b with
 |false=>rfl
 |true=>exact absurd (BV.1 e) h
theorem Q9(a b:List GEdit)(H:aB)(ha:a.length<4611686018427387904)(hb:b.length<4611686018427387904)(hae:∀e∈a,S9 e)(hbe:∀e∈b,S9 e):aH Tryz.prog 89 [.pv (jF a),.pv (jF b)] H (fun r H'=>r=bv (zE a b)/\H'=H):=by
 refine Pu ?_;have hma:(a.map bC).length=a.length:=aNv _;have hmb:(b.map bC).length=b.length:=aNv _;refine Bd func89 rfl ntmps89<|Sr<|Dd aM<|Zz<|Sq<|Sr<|Dd aG<|Dd (fZ dL)<|Dd aG<|Dd (fZ dL)<|Dd zW<|Zz ?_;refine Cn ?_ ?_<;>intro hc1
 ·have hne:a≠b:=by have h:=hc1;intro e;subst e;simp at h
  rw[VL hne];exact Sr<|Dd aM<|Zz<|aE<|Rt<|Qq
 have hl:a.length=b.length:=by have h:=hc1;simp only[Bool.not_eq_false',aOC]at h;omega
 refine aF<|Sq<|Sr<|Dd aM<|Zz<|aD ?_;refine bL (σ:=Nat) (fun i=>([(0,.pv (jF a)),(1,.pv (jF b)),(5,iv (i:Int))],[])) (fun i=>i<=a.length/\a.take i=b.take i) (fun i=>a.length - i) 0 ⟨by omega,rfl⟩ ?_ ?_
 ·exact Wk
 rintro i ⟨hi,hp⟩;refine Sq<|Sr<|Dd aG<|Dd aG<|Dd (fZ dL)<|Dd cP<|Zz ?_;refine Cn ?_ ?_<;>intro hc2
 ·have hil:i<a.length:=by have:=aNr hc2;omega
  obtain ⟨s,hs⟩:=aV hil;obtain ⟨u,hu⟩:=aV (show i<b.length by omega);have hi1:=cA (f:=bC) hs;have hi2:=cA (f:=bC) hu;have hsm:=fun H=>aBO s u H (hae s (aOF hs)) (hbe u (aOF hu));refine aF<|Sq<|aD<|Sq<|aP follows<|Cq aG<|Cq aG<|Cq (by exact aT rfl XD rfl rfl (by omega) (by exact aOG _) hi1 rfl)<|Cq (by exact cU rfl bW bA rfl hi1 rfl rfl)<|Cq aG<|Cq aG<|Cq (by exact aT rfl XD rfl rfl (by omega) (by exact aOG _) hi2 rfl)<|Cq (by exact cU rfl bW bA rfl hi2 rfl rfl)<|Cq (by exact aA rfl rfl call138 rfl (hsm _))<|Cq mT<|bK<|Kr ?_;refine Cn ?_ ?_<;>intro hc3
  ·have hne:s≠u:=by have h:=not_not hc3;intro e;rw[E6.2 e]at h;cases h
   rw[VL (aAL hs hu hne)];exact Sr<|Dd aM<|Zz<|aE<|Rt<|Qq
  have heq:s=u:=E6.1 (BL hc3);refine aF<|Rg<|Dd aG<|Dd (by exact bG rfl rfl rfl (show IntKind.i64.wrap ((i:Int)+1)=((i+1:Nat):Int)by rw[iY (by omega) (by omega)];omega))<|Da ?_;exact⟨i+1,⟨by omega,xF hp hs hu heq⟩,by omega,Wk⟩
 have hge:i=a.length:=by have:=aNs hc2;omega
 rw[BV.2 (EZ hl hge hp)];exact aY<|Sr<|Dd aM<|Zz<|aE<|Rt<|Qq
def UB(a b:GRec):Bool:=(((((((((decide (a.kind=b.kind)&&decide (a.author=b.author))&&decide (a.number=b.number))&&decide (a.clock=b.clock))&&decide (a.branch=b.branch))&&decide (a.parents=b.parents))&&zE a.edits b.edits)&&decide (a.target=b.target))&&(a.yes == b.yes))&&decide (a.order=b.order))&&decide (a.from'=b.from')
structure PubEq(a b:GRec):Prop where
 ki:a.kind=b.kind
 au:a.author=b.author
 nu:a.number=b.number
 cl:a.clock=b.clock
 br:a.branch=b.branch
 pa:a.parents=b.parents
 ed:a.edits=b.edits
 ta:a.target=b.target
 ye:a.yes=b.yes
 od:a.order=b.order
 fr:a.from'=b.from'
theorem aD4{a b:GRec}:UB a b=true↔PubEq a b:=by simp only[UB,aOE,aOC,BV,beq_iff_eq];exact⟨fun⟨⟨⟨⟨⟨⟨⟨⟨⟨⟨h1,h2⟩,h3⟩,h4⟩,h5⟩,h6⟩,h7⟩,h8⟩,h9⟩,h10⟩,h11⟩=>⟨h1,h2,h3,h4,h5,h6,h7,h8,h9,h10,h11⟩,fun⟨h1,h2,h3,h4,h5,h6,h7,h8,h9,h10,h11⟩=>⟨⟨⟨⟨⟨⟨⟨⟨⟨⟨h1,h2⟩,h3⟩,h4⟩,h5⟩,h6⟩,h7⟩,h8⟩,h9⟩,h10⟩,h11⟩⟩
def UN(r:GRec):Prop:=(r.parents.length<4611686018427387904/\r.edits.length<4611686018427387904/\∀e∈r.edits,S9 e)/\UK r.sl/\UK r.priv.sl/\r.priv.sources.length<4611686018427387904/\r.priv.trace.length<4611686018427387904
theorem UM{r:GRec}(h:iT r):UN r:=by obtain ⟨_,_,h1,h2,h3,_,_,h4,h5,h6⟩:=h;exact⟨⟨by have:=h1.1;omega,by have:=h2.1;omega,h2.2⟩,EG h3,EG h6,by have:=h4.1;omega,by omega⟩
theorem Q8(a b:GRec)(H:aB)(ha:UN a)(hb:UN b):aH Tryz.prog 26 [av (bU a),av (bU b)] H (fun r H'=>r=bv (UB a b)/\H'=H):=by
 refine aH.pure ?_ (by simp[bU]) H;have hs1:=fun H=>uL a.parents b.parents H ha.1.1 hb.1.1;have hs2:=fun H=>Q9 a.edits b.edits H ha.1.2.1 hb.1.2.1 ha.1.2.2 hb.1.2.2;have hX:UB a b=((((((((((decide (a.kind=b.kind)&&decide (a.author=b.author))&&decide (a.number=b.number))&&decide (a.clock=b.clock))&&decide (a.branch=b.branch))&&decide (a.parents=b.parents))&&zE a.edits b.edits)&&decide (a.target=b.target))&&(a.yes == b.yes))&&decide (a.order=b.order))&&decide (a.from'=b.from')):=rfl;obtain ⟨ee,hee⟩:∃ee,ee=zE a.edits b.edits:=⟨_,rfl⟩;rw[<-hee]at hs2 hX;clear hee;refine Bd func26 rfl ntmps26<|Sr<|Dd (by exact cE (id:=2) rfl rfl rfl rfl rfl)<|Dd (by exact cE (id:=3) rfl rfl rfl rfl rfl)<|Dd aM<|Zz<|Sq ?_;refine bF (t:=4) (n:=86) (X:=UB a b) ?_ ?_
 ·all_goals refine Dd (bE C5) ?_
  all_goals refine Dd (bQ isAgg3)<|Dd (bE C5)<|Dd (bQ isAgg3)<|Dd dK<|Dm ?_
  all_goals refine Sp 10 (fun h10=>?_) fun h10=>?_
  all_goals try contradiction
  all_goals first|refine Fo<|Fo<|Fo<|Fo<|Fo ?_|refine On (bE tO)<|On (bQ isAgg3)<|On (bE tO)<|On (bQ isAgg3)<|On dK ?_
  all_goals refine Dd cN<|Dm ?_
  all_goals refine Sp 17 (fun h17=>?_) fun h17=>?_
  all_goals try contradiction
  all_goals first|refine Fo<|Fo<|Fo<|Fo<|Fo ?_|refine On (bE pN)<|On (bQ isAgg3)<|On (bE pN)<|On (bQ isAgg3)<|On dK ?_
  all_goals refine Dd cN<|Dm ?_
  all_goals refine Sp 24 (fun h24=>?_) fun h24=>?_
  all_goals try contradiction
  all_goals first|refine Fo<|Fo<|Fo<|Fo<|Fo ?_|refine On (bE AZ)<|On (bQ isAgg3)<|On (bE AZ)<|On (bQ isAgg3)<|On dK ?_
  all_goals refine Dd cN<|Dm ?_
  all_goals refine Sp 31 (fun h31=>?_) fun h31=>?_
  all_goals try contradiction
  all_goals first|refine Fo<|Fo<|Fo<|Fo<|Fo ?_|refine On (bE AY)<|On (bQ isAgg9)<|On (bE AY)<|On (bQ isAgg9)<|On B3 ?_
  all_goals refine Dd cN<|Dm ?_
  all_goals refine Sp 38 (fun h38=>?_) fun h38=>?_
  all_goals try contradiction
  all_goals first|refine Fo<|Fo<|Fo<|Fo<|Fo ?_|refine On (bE pM)<|On (bQ aJ)<|On (bE pM)<|On (bQ aJ)<|On (by exact aA rfl rfl aFb rfl (hs1 _)) ?_
  all_goals refine Dd cN<|Dm ?_
  all_goals refine Sp 45 (fun h45=>?_) fun h45=>?_
  all_goals try contradiction
  all_goals first|refine Fo<|Fo<|Fo<|Fo<|Fo ?_|refine On (bE C4)<|On (bQ nS)<|On (bE C4)<|On (bQ nS)<|On (by exact aA rfl rfl call89 rfl (hs2 _)) ?_
  all_goals refine Dd cN<|Dm ?_
  all_goals refine Sp 52 (fun h52=>?_) fun h52=>?_
  all_goals try contradiction
  all_goals first|refine Fo<|Fo<|Fo<|Fo<|Fo ?_|refine On (bE AX)<|On (bQ isAgg9)<|On (bE AX)<|On (bQ isAgg9)<|On B3 ?_
  all_goals refine Dd cN<|Dm ?_
  all_goals refine Sp 59 (fun h59=>?_) fun h59=>?_
  all_goals try contradiction
  all_goals first|refine Fo<|Fo<|Fo<|Fo<|Fo ?_|refine On (bE GP)<|On (bQ uC)<|On (bE GP)<|On (bQ uC)<|On (by exact KS rfl dV rfl rfl) ?_
  all_goals refine Dd cN<|Dm ?_
  all_goals refine Sp 66 (fun h66=>?_) fun h66=>?_
  all_goals try contradiction
  all_goals first|refine Fo<|Fo<|Fo<|Fo<|Fo ?_|refine On (bE C3)<|On (bQ isAgg3)<|On (bE C3)<|On (bQ isAgg3)<|On dK ?_
  all_goals refine Dd cN<|Dm ?_
  all_goals refine Sp 73 (fun h73=>?_) fun h73=>?_
  all_goals try contradiction
  all_goals first|refine Fo<|Fo<|Fo<|Fo<|Fo ?_|refine On (bE yK)<|On (bQ isAgg9)<|On (bE yK)<|On (bQ isAgg9)<|On B3 ?_
  all_goals refine Dd cN<|Da ?_
  all_goals(exact⟨⟨_,rfl,by first|(rw[hX,h10];rfl)|(rw[hX,h10,h17];rfl)|(rw[hX,h10,h17,h24];rfl)|(rw[hX,h10,h17,h24,h31];rfl)|(rw[hX,h10,h17,h24,h31,h38];rfl)|(rw[hX,h10,h17,h24,h31,h38,h45];rfl)|(rw[hX,h10,h17,h24,h31,h38,h45,h52];rfl)|(rw[hX,h10,h17,h24,h31,h38,h45,h52,h59];rfl)|(rw[hX,h10,h17,h24,h31,h38,h45,h52,h59,h66];rfl)|(rw[hX,h10,h17,h24,h31,h38,h45,h52,h59,h66,h73];rfl)⟩,rfl,rfl,rfl⟩)
 exact aE<|Rt<|Qq
def aDW(a b:GRec):Bool:=((UB a b&&RH a.priv b.priv)&&decide (a.sl=b.sl))&&decide (a.priv.sl=b.priv.sl)
theorem aDV{a b:GRec}:aDW a b=true↔a=b:=by
 simp only[aDW,RH,aOE,aOC,aD4];constructor
 ·rintro⟨⟨⟨⟨h1,h2,h3,h4,h5,h6,h7,h8,h9,h10,h11⟩,⟨⟨q1,q2⟩,q3⟩,q4⟩,h12⟩,h13⟩;obtain ⟨a1,a2,a3,a4,a5,a6,a7,a8,a9,a10,a11,a12,b1,b2,b3,b4,b5⟩:=a;obtain ⟨c1,c2,c3,c4,c5,c6,c7,c8,c9,c10,c11,c12,d1,d2,d3,d4,d5⟩:=b;simp only at *;subst h1 h2 h3 h4 h5 h6 h7 h8 h9 h10 h11 q1 q2 q3 q4 h12 h13;rfl
 rintro rfl;exact⟨⟨⟨⟨rfl,rfl,rfl,rfl,rfl,rfl,rfl,rfl,rfl,rfl,rfl⟩,⟨⟨rfl,rfl⟩,rfl⟩,rfl⟩,rfl⟩,rfl⟩
theorem aBN(a b:GRec)(H:aB)(ha:UN a)(hb:UN b):aH Tryz.prog 18 [av (bU a),av (bU b)] H (fun r H'=>r=bv (aDW a b)/\H'=H):=by
 refine aH.pure ?_ (by simp[bU]) H;have hs1:=fun H=>Q8 a b H ha hb;have hs2:=fun H=>NC a.priv b.priv H ha.2.2.2.1 hb.2.2.2.1 ha.2.2.2.2;have hs3:=fun H=>CQ a.sl b.sl H ha.2.1 hb.2.1;have hs4:=fun H=>CQ a.priv.sl b.priv.sl H ha.2.2.1 hb.2.2.1;have hX:aDW a b=(((UB a b&&RH a.priv b.priv)&&decide (a.sl=b.sl))&&decide (a.priv.sl=b.priv.sl)):=rfl;obtain ⟨p1,hp1⟩:∃p,p=UB a b:=⟨_,rfl⟩;obtain ⟨p2,hp2⟩:∃p,p=RH a.priv b.priv:=⟨_,rfl⟩;rw[<-hp1]at hs1 hX;rw[<-hp2]at hs2 hX;clear hp1 hp2;refine Bd func18 rfl ntmps18<|Sr<|Dd (by exact cE (id:=2) rfl rfl rfl rfl rfl)<|Dd (by exact cE (id:=3) rfl rfl rfl rfl rfl)<|Dd aM<|Zz<|Sq ?_;refine bF (t:=4) (n:=30) (X:=aDW a b) ?_ ?_
 ·all_goals refine Dd (rC bH aR) ?_
  all_goals refine Dd (rC bH aR)<|Dd (by exact aA rfl rfl call26 rfl (hs1 _))<|Dm ?_
  all_goals refine Sp 8 (fun h8=>?_) fun h8=>?_
  all_goals try contradiction
  all_goals first|refine Fo<|Fo<|Fo<|Fo<|Fo ?_|refine On (bE fJ)<|On (rC lO sizeOf28)<|On (bE fJ)<|On (rC lO sizeOf28)<|On (by exact aA rfl rfl call27 rfl (hs2 _)) ?_
  all_goals refine Dd cN<|Dm ?_
  all_goals refine Sp 15 (fun h15=>?_) fun h15=>?_
  all_goals try contradiction
  all_goals first|refine Fo<|Fo<|Fo<|Fo<|Fo ?_|refine On (bE kM)<|On (rC eA sizeOf25)<|On (bE kM)<|On (rC eA sizeOf25)<|On (by exact aA rfl rfl aNh rfl (hs3 _)) ?_
  all_goals refine Dd cN<|Dm ?_
  all_goals refine Sp 22 (fun h22=>?_) fun h22=>?_
  all_goals try contradiction
  all_goals first|refine Fo<|Fo<|Fo<|Fo<|Fo<|Fo<|Fo ?_|refine On (bE fJ)<|On (bE oV)<|On (rC eA sizeOf25)<|On (bE fJ)<|On (bE oV)<|On (rC eA sizeOf25)<|On (by exact aA rfl rfl aNh rfl (hs4 _)) ?_
  all_goals refine Dd cN<|Da ?_
  all_goals(exact⟨⟨_,rfl,by first|(rw[hX,h8];rfl)|(rw[hX,h8,h15];rfl)|(rw[hX,h8,h15,h22];rfl)⟩,rfl,rfl,rfl⟩)
 exact aE<|Rt<|Qq
end Go.Proofs.YtmdicgjnmfolfaaGreatDoor
