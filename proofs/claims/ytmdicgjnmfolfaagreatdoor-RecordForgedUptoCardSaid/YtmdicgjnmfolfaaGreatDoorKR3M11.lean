/-
  Parts of the proof: rules of an abstract program logic, contracts of functions, plain laws. Conditions: each theorem's own.
-/
import Derived.Test.YtmdicgjnmfolfaaGreatDoorKR3M10
set_option linter.unusedVariables false
set_option linter.unusedSimpArgs false
set_option maxRecDepth 100000
set_option maxHeartbeats 8000000
namespace Go.Proofs
open Tryz
theorem aOc:type_of% call157:=call157
theorem aPG:type_of% call31:=call31
theorem aG3:type_of% call88:=call88
end Go.Proofs
namespace Go.Proofs.YtmdicgjnmfolfaaGreatDoor
open Go.Proofs.Tryz
open Go.Abs
variable{s:ByteArray}{j n id:Nat}{T:List GFound}{p q:Prop}{a b:Ob}
theorem G4:∀(l:List UInt8) (p:List UInt8×Nat),pW l=some p->p.1.length<=l.length
 | [],p,h=>by cases h
 | [c],p,h=>by
  rw[pW]at h
  split at h
  ·cases h;exact aPb _
  cases h
 | c :: e :: r, p, h => by
  rw[pW]at h
  split at h
  ·cases h;exact aPb _
  split at h
  ·cases h
  split at h
  ·cases hg:BZ e with
   |none=>rw[hg]at h;cases h
   | some b =>
    rw[hg]at h;cases hu:pW r with
    |none=>rw[hu]at h;cases h
    |some q =>
     rw[hu]at h;cases h;have:=G4 r q hu;show q.1.length+1<=r.length+1+1;omega
  cases hu:pW (e::r)with
  |none=>rw[hu]at h;cases h
  |some q =>
   rw[hu]at h;cases h;have:=G4 (e::r) q hu;show q.1.length+1<=r.length+1+1;rw[aPW]at this;omega
theorem mH(s:ByteArray)(i j:Nat):(s.extract i j).size<=s.size:=by rw[<-aZ,hV,aP8,aP9,aZ];omega
theorem aBV(s:ByteArray):(AA s).1.size<=s.size:=by
 rw[AA];cases h:pW (s.data.toList.drop 1)with
 |none=>exact aPb _
 |some p =>
  have:=G4 _ _ h;rw[aP9,aZ]at this;show (⟨p.1.toArray⟩:ByteArray).size<=_;rw[<-aZ];show p.1.length<=_;omega
theorem XY{i:Nat}{f:GFound}(h:jD s i=(some f,j)):f.text.size<=s.size:=by
 rw[jD]at h
 split at h
 ·cases h
 split at h
 ·cases h
 split at h
 ·cases h;exact mH _ _ _
 split at h
 ·cases h;exact mH _ _ _
 split at h
 ·cases h;rw[OP]
  split
  ·have h1:=aBV (s.extract i s.size);have h2:=mH s i s.size;show (AA (s.extract i s.size)).1.size<=_;omega
  exact aPb _
 split at h
 ·cases h;exact mH _ _ _
 cases h;exact aPb _
theorem DY(s:ByteArray):∀(n i:Nat) (f:GFound),f∈nL s n i->f.text.size<=s.size
 |0,_,_,h=>by cases h
 | n+1,i,f,h=>by
  rw[nL]at h
  split at h
  ·split at h
   ·exact DY s n _ f h
   rename_i g j hg;rcases aP6.1 h with rfl|h
   ·exact XY hg
   split at h
   ·exact DY s n _ f h
   cases h
  cases h
theorem UQ:∀(ds acc:List GFound) (f:GFound),f∈(mL acc ds).1->f∈acc\/f∈ds
 | [],acc,f,h=>.inl h
 | d::ds,acc,f,h=>by
  rw[mL]at h
  split at h
  ·cases h
  split at h
  ·cases h
  rcases UQ ds _ f h with h|h
  ·rcases List.mem_append.1 h with h|h
   ·exact .inl h
   rw[aPX]at h;subst h;exact .inr List.mem_cons_self
  exact .inr (List.mem_cons_of_mem _ h)
theorem QE(s:ByteArray)(f:GFound)(h:f∈(iZ s).1):f.text.size<=s.size:=by
 rw[iZ]at h
 split at h
 ·cases h
 rcases UQ _ _ f h with h|h
 ·cases h
 exact DY s _ _ f h
theorem U7(h:∀f∈T,f.text.size<=n):∀f∈sB T,f.text.size<=n:=fun f hf=>by
 rw[sB]at hf;rcases List.mem_append.1 hf with h1|h1
 ·exact h f h1
 rw[(List.mem_replicate.1 h1).2];exact aPb _
theorem O5:∀(T:List GFound) (n:Nat),(∀f∈T,f.text.size<=n)->(oJ T).length<=T.length/\∀t∈oJ T,t.key.size<=n/\t.val.size<=n
 | [],n,_=>by simp[oJ]
 | [a],n,_=>by simp[oJ]
 | [a,b],n,_=>by simp[oJ]
 |a::b::c::r,n,h=>by
  obtain ⟨i1,i2⟩:=O5 r n fun f hf=>h f (by simp[hf]);rw[oJ];refine⟨by simp only[aPW];omega,fun t ht=>?_⟩;rcases aP6.1 ht with rfl|ht
  ·exact⟨h a (by simp),h c (by simp)⟩
  exact i2 t ht
theorem aEN(T:List GFound):(sB T).length<=T.length+4:=by rw[sB,aPV,List.length_replicate];omega
theorem aDp(h:∀f∈T,f.text.size<=n)(hn:n<4611686018427387904)(hl:T.length<549755813888):okO (mM T):=by
 have hp:=U7 h;have hpl:=aEN T;have hg:∀i,((sB T).getD i noF).text.size<=n:=fun i=>by
  rw[List.getD_eq_getElem?_getD];cases e:(sB T)[i]? with
  |none=>exact aPb _
  |some f=>exact hp f (aP4 e)
 have ht:∀k,HI (oJ ((sB T).drop k)):=fun k=>by
  obtain ⟨a,b⟩:=O5 ((sB T).drop k) n fun f hf=>hp f (List.mem_of_mem_drop hf);rw[aP9]at a;exact⟨by omega,fun t htt=>by have:=b t htt;omega⟩
 rw[mM]
 split
 ·exact⟨Nat.lt_of_le_of_lt (hg 1) hn,ht _,by show 0<_;omega,fun s hs=>by cases hs⟩
 split
 ·exact⟨by decide,⟨by decide,fun t h=>by cases h⟩,by decide,fun s hs=>by cases hs⟩
 refine⟨Nat.lt_of_le_of_lt (hg 1) hn,ht _,?_,fun s hs=>?_⟩
 ·show (List.map _ _).length<_;rw[aPU,aP9,aP8];omega
 obtain ⟨f,hf,rfl⟩:=List.mem_map.1 hs;have:=hp f (List.mem_of_mem_take (List.mem_of_mem_drop hf));omega
theorem tU(c:UInt8):∀ {l w:List UInt8},w∈fF c l->w.length<=l.length
 | [],w,h=>by
  rw[fF,aPX]at h;rw[h];exact aP0 _
 | b::l,w,h=>by
  have hp:=zA c l;rw[fF]at h;cases e:fF c l with
  |nil=>rw[e]at hp;exact absurd hp (Nat.lt_irrefl 0)
  | cons x r =>
   have ih:∀y∈x::r,y.length<=l.length:=fun y hy=>tU c (by rw[e];exact hy);rw[e]at h;rw[aPW]
   split at h
   ·rcases aP6.1 h with rfl|h
    ·exact aPb _
    exact Nat.le_succ_of_le (ih w h)
   rcases aP6.1 h with rfl|h
   ·exact Nat.succ_le_succ (ih _ List.mem_cons_self)
   exact Nat.le_succ_of_le (ih w (List.mem_cons_of_mem _ h))
theorem PW(hs:s.size<1099511627776):okO (mM (iZ s).1):=aDp (fun f hf=>QE s f hf) (by omega) (FZ s hs)
theorem M7(l:List ByteArray):∀r∈l.map encStr,r.length=1:=fun r hr=>by
 obtain ⟨s,_,rfl⟩:=List.mem_map.1 hr;rfl
theorem NM [Decidable p][Decidable q](h:(decide p&&decide q)=true):p/\q:=by simpa using h
theorem NN [Decidable p][Decidable q](h:(decide p&&decide q)=false):¬ (p/\q):=by intro h2;simp[h2]at h
theorem aGl{H:aH}{o:Ob}(h:H.get id=some o):Sub [(id,o)] H:=fun j x hx=>by
 by_cases e:j=id
 ·subst e;rw[get_cons_same]at hx;cases hx;exact h
 rw[get_cons_other _ _ e]at hx;cases hx
theorem aE0(h:(aH.get [(id,a)] j).isSome=true):(aH.get [(id,b)] j).isSome=true:=by
 by_cases e:j=id
 ·subst e;rw[get_cons_same];rfl
 rw[get_cons_other _ _ e]at h;cases h
theorem YZ(s:ByteArray)(H:aH)(hs:s.size<1099511627776):aI Tryz.prog 155 [sv s] H (fun r H'=>r=.tup [av (bS (rR s).1),iv (rR s).2]/\H'=H):=by
 refine Pu ?_;have hlen:=FZ s hs;have hsz:=U7 (QE s);have hoo:=PW hs;rw[rR];refine Bd func155 rfl ntmps155<|Sr<|Dd (by exact bW (id:=2) rfl Z5 rfl rfl)<|Dd aL<|Zz<|Sq<|Sr<|Dd aE<|Dd (jV underlying9)<|Dd iE<|Zz ?_;refine Cn ?_ ?_<;>intro hc1
 ·have h2:20000<s.size:=by have:=aPQ hc1;omega
  rw[aPT h2];refine Sr<|Dd (vC Q6)<|Uu (lG sizeOf151)<|Dd aL<|Zz<|aB ?_;refine vI (H':=[]) (.inr rfl) rfl (X8 cW sizeOf151) (bD rfl) (Fin.wk (r:=.tup [av (bS zObj),iv 2]) (by simp) trivial trivial) ?_;exact Qq
 have h2:¬ 20000<s.size:=by have:=aPR hc1;omega
 rw[aPS h2];by_cases he:(iZ s).2.1=0
 ·have hlo:=fun H h=>aKl s H hs he h;obtain ⟨T,hT⟩:∃T,T=(iZ s).1:=⟨_,rfl⟩;rw[<-hT]at hlen hsz hoo |-;simp only[<-hT]at hlo;have hrd:∀H,H.get 905=some (T1 T)->aI Tryz.prog 195 [.osl 905 T.length 0 T.length] H (fun r H'=>r=av (bS (mM T))/\H'=[(905,T1 (sB T))]++H):=fun H hH =>
   aI.frame (aKC T hlen (fun f hf=>Nat.lt_of_le_of_lt (hsz f hf) hs)) (aGl hH) (eI.ofL ⟨cR _ _,trivial⟩) (by intro a ha;rw[aPX]at ha;subst ha;simp[aH.get]) (fun id h=>.inl (aE0 h))
  obtain ⟨o,ho⟩:∃o,o=mM T:=⟨_,rfl⟩;rw[<-ho]at hrd hoo |-;refine aC<|Sr<|Dd aE<|Dd (by exact aA rfl rfl aOc rfl (hlo _ rfl))<|Dd aE<|Dd fS<|Dd fS<|Dd fS<|Dd aL<|Dd aL<|Dd aL<|Zz<|Sq<|Sr<|Dd aE<|Dd cK<|Zz ?_;refine Cn ?_ ?_<;>intro hc2
  ·refine Sr<|Dd aE<|Dd (by exact aA rfl rfl call195 rfl (hrd _ rfl))<|Dd (by exact bW (id:=7) rfl Z5 rfl rfl)<|Uu (lG sizeOf151)<|Zz<|Sr<|Dd (pU cW sizeOf151)<|Dd (by exact aA rfl rfl call196 rfl (P2 o _ hoo))<|Dd aE<|Dd fS<|Dd fS<|Dd aL<|Dd aL<|Zz<|Sq ?_;refine aT (t:=35) (n:=8) (X:=decide ((fT o).2=0)&&decide ((fT o).1=s)) ?_ ?_
   ·all_goals refine Dd aE ?_
    all_goals refine Dd cK<|Dm ?_
    all_goals refine Sp 31 (fun h31=>?_) fun h31=>?_
    all_goals try contradiction
    all_goals first|refine Fo<|Fo<|Fo ?_|refine On aE<|On aE<|On zE ?_
    all_goals refine Dd cG<|Zz ?_
    all_goals(exact⟨⟨_,rfl,by(simp_all;done)⟩,rfl,rfl,rfl⟩)
   refine Cn ?_ ?_<;>intro hc3
   ·have hq:=NM hc3;rw[aPT ⟨he,Prod.ext hq.2 hq.1⟩];refine Sr<|Dd (pU cW sizeOf151)<|Uu (lG sizeOf151)<|Dd aL<|Zz<|aB ?_;refine vI (H':=[]) (.inr rfl) rfl (X8 cW sizeOf151) (bD rfl) (Fin.wk (r:=.tup [av (bS o),iv 0]) (by simp) trivial trivial) ?_;exact Qq
   have hq:=NN hc3;rw[aPS (fun h=>hq ⟨congrArg Prod.snd h.2,congrArg Prod.fst h.2⟩)];refine aC<|Sr<|Dd (vC Q6)<|Uu (lG sizeOf151)<|Dd aL<|Zz<|aB ?_;refine vI (H':=[]) (.inr rfl) rfl (X8 cW sizeOf151) (bD rfl) (Fin.wk (r:=.tup [av (bS zObj),iv 5]) (by simp) trivial trivial) ?_;exact Qq
  exact absurd rfl (aPR hc2)
 refine aC<|Sr<|Dd aE<|Dd (by exact aA rfl rfl aOc rfl (aJU s _ hs))<|Dd aE<|Dd fS<|Dd fS<|Dd fS<|Dd aL<|Dd aL<|Dd aL<|Zz<|Sq<|Sr<|Dd aE<|Dd cK<|Zz ?_;refine Cn ?_ ?_<;>intro hc4
 ·exact absurd (aPQ hc4) he
 refine aC<|Sr<|Dd (vC Q6)<|Uu (lG sizeOf151)<|Dd aL<|Zz<|aB ?_;rw[aPS (fun h=>he h.1)];refine vI (H':=[]) (.inr rfl) rfl (X8 cW sizeOf151) (bD rfl) (Fin.wk (r:=.tup [av (bS zObj),iv 5]) (by simp) trivial trivial) ?_;exact Qq
theorem aHP(s:ByteArray)(H:aH)(hs:s.size<=20000):aI Tryz.prog 116 [sv s] H (fun r H'=>r=av (aW (jE s.data.toList))/\H'=H):=by
 refine Pu ?_;have hsz:=aZ s;obtain ⟨W,hW⟩:∃W,W=fF 32 s.data.toList:=⟨_,rfl⟩;obtain ⟨w0,hw0⟩:∃w,w=W.headD []:=⟨_,rfl⟩;obtain ⟨rs,hrs⟩:∃r,r=s.data.toList.drop (w0.length+1):=⟨_,rfl⟩;have hrl:rs.length<=s.size:=by rw[hrs,aP9,hsz];omega
 have hg:jE s.data.toList=BM W w0 rs:=by rw[jE,<-hW,<-hw0,<-hrs]
 have hC:∃b,∀H,aI Tryz.prog 113 [sv s,sv sSp] H (fun r H'=>r=.tup [sv (ofL w0),sv (ofL rs),bv b]/\H'=H):=by
  obtain ⟨b,hb⟩:=aI8 s;rw[<-hW,<-hw0,<-hrs]at hb;exact⟨b,fun H=>by rw[<-hb];exact aNL s H (by omega)⟩
 obtain ⟨b,hC⟩:=hC;have hSl:(eH s).length=W.length:=by rw[aB5,hW]
 have hml:((eH s).map encStr).length=W.length:=by rw[aPU,hSl]
 have hSg:∀i,i<W.length->((eH s).map encStr)[i]?=some [.str (ofL (W.getD i []))]:=fun i hi=>by
  rw[hW];exact cJ (f:=encStr) (aB6 s i (by rw[hSl];exact hi))
 have hWs:∀i,(ofL (W.getD i [])).size<=s.size:=fun i=>by
  rw[dG,List.getD_eq_getElem?_getD];cases e:W[i]? with
  |none=>exact aPb _
  |some w =>
   have:=tU 32 (l:=s.data.toList) (w:=w) (by rw[<-hW];exact aP4 e);rw[hsz]at this;exact this
 have hWl:W.length<=s.size+1:=by
  rw[hW,tV];have:=List.count_le_length (l:=s.data.toList) (a:=32);omega
 have hjl:((eH s).drop 3).length<=20001:=by rw[aP9,hSl];omega
 have hjs:cY ((eH s).drop 3)<=20000*((eH s).drop 3).length:=nE (fun w hw=>by
  have hw2:=List.mem_of_mem_drop hw;rw[eH,<-hW]at hw2;obtain ⟨x,hx,rfl⟩:=List.mem_map.1 hw2;have:=tU 32 (l:=s.data.toList) (w:=x) (by rw[<-hW];exact hx);show (ofL x).size<=_;rw[dG];omega)
 rw[hg,BM];refine Bd func116 rfl ntmps116<|Sr<|Dd (by exact bW (id:=2) rfl O0 rfl rfl)<|Zz<|Sr<|Dd aE<|Dd (by exact aA rfl rfl call154 rfl (aB7 s _ (by omega)))<|Dd aL<|Zz<|Sr<|Dd aE<|Dd (by exact aA rfl rfl call113 rfl (hC _))<|Dd aE<|Dd fS<|Dd fS<|Dd fS<|Dd aL<|Dd aL<|Dd aL<|Zz<|Sq<|aG<|Sr<|Dd aE<|Dd zE<|Da ?_;refine Cn ?_ ?_<;>intro hc1
 ·have h1:w0=aBU:=qI.1 (aPQ hc1);rw[aPT h1];refine Sr<|Dd aE<|Dd (by exact aA rfl rfl call155 rfl (YZ (ofL rs) _ (by rw[dG];omega)))<|Dd aE<|Dd fS<|Dd fS<|Dd (by exact bW (id:=7) rfl Z5 rfl rfl)<|Uu (lG sizeOf151)<|Dd aL<|Zz<|Sr<|Dd (pU cW sizeOf151)<|Dd (vC DV)<|Uu (lG aX)<|Zz<|aB ?_;refine eG (H':=[]) (.inr rfl) rfl (X8 cA aX) (Fin.wk (r:=av (aW ⟨1,sNil,sNil,sNil,0,0,sNil,sNil,[],(rR (ofL rs)).1⟩)) (by simp) trivial trivial) ?_;exact Qq
 have h1:¬ w0=aBU:=fun e=>aPR hc1 (qI.2 e);rw[aPS h1];refine Sq ?_;refine aT (t:=30) (n:=9) (X:=decide (ofL w0=⟨#[109,111,118,101]⟩)&&decide ((((eH s).map encStr).length:Int)=4)) ?_ ?_
 ·all_goals refine Dd aE ?_
  all_goals refine Dd zE<|Dm ?_
  all_goals refine Sp 33 (fun h33=>?_) fun h33=>?_
  all_goals try contradiction
  all_goals first|refine Fo<|Fo<|Fo ?_|refine On aE<|On (fE aD)<|On cK ?_
  all_goals refine Dd cG<|Da ?_
  all_goals(exact⟨⟨_,rfl,by(simp_all;done)⟩,rfl,rfl,rfl⟩)
 refine Cn ?_ ?_<;>intro hc2
 ·have h2:ofL w0=ofL aAC/\_:=NM hc2;rw[qI,hml]at h2;rw[aPT ⟨h2.1,by omega⟩];have i1:=hSg 1 (by omega);have i2:=hSg 2 (by omega);have i3:=hSg 3 (by omega);have s2:=hWs 2;have s3:=hWs 3;refine Sq<|aN follows<|Cr [] (fun _ _=>aE)<|Cr [] (fun _ _=>(mE cB))<|Cr [] (fun _ _=>(iJ isAgg9))<|Cr [] (fun _ _=>aE)<|Cr [] (fun _ _=>(mE cB))<|Cr [] (fun _ _=>(iJ isAgg9))<|Cr [] (fun H1 hH=>by exact aA rfl rfl call156 rfl (VJ (ofL (W.getD 2 [])) _ (by omega)))<|Cr [] (fun _ _=>aE)<|Cr [] (fun _ _=>(mE cB))<|Cr [] (fun _ _=>(iJ isAgg9))<|Cr [] (fun H1 hH=>by exact aA rfl rfl call156 rfl (VJ (ofL (W.getD 3 [])) _ (by omega)))<|Cr [] (fun _ _=>(vC W0))<|Cr [] (fun _ _=>(vC DV))<|Cp [2] (fun H1 hH=>by exact cM rfl aX rfl rfl rfl rfl ((hH _ rfl).trans rfl) rfl rfl rfl)<|bL<|Kr<|aB ?_;refine eG (H':=[]) (.inr rfl) rfl (X8 cA aX) (Fin.wk (r:=av (aW ⟨2,ofL (W.getD 1 []),sNil,sNil,ON (W.getD 2 []),ON (W.getD 3 []),sNil,sNil,[],zObj⟩)) (by simp) trivial trivial) ?_;exact Qq
 have h2:¬ (ofL w0=ofL aAC/\_):=NN hc2;rw[qI,hml]at h2;rw[aPS (fun h=>h2 ⟨h.1,by omega⟩)];refine Sq ?_;refine aT (t:=51) (n:=9) (X:=decide (ofL w0=⟨#[116,97,103]⟩)&&decide ((3:Int)<(((eH s).map encStr).length:Int))) ?_ ?_
 ·all_goals refine Dd aE ?_
  all_goals refine Dd zE<|Dm ?_
  all_goals refine Sp 54 (fun h54=>?_) fun h54=>?_
  all_goals try contradiction
  all_goals first|refine Fo<|Fo<|Fo ?_|refine On aE<|On (fE aD)<|On iE ?_
  all_goals refine Dd cG<|Da ?_
  all_goals(exact⟨⟨_,rfl,by(simp_all;done)⟩,rfl,rfl,rfl⟩)
 refine Cn ?_ ?_<;>intro hc3
 ·have h3:ofL w0=ofL aBR/\_:=NM hc3;rw[qI,hml]at h3;rw[aPT ⟨h3.1,by omega⟩];have i1:=hSg 1 (by omega);have i2:=hSg 2 (by omega);have hJe:bs ((eH s).drop 3)=W.drop 3:=by
   rw[bs,eH,<-hW,List.map_drop,List.map_map];congr 1;exact(List.map_congr_left fun x _=>dC x).trans (List.map_id _)
  have hj:∀H,aI Tryz.prog 158 [.pv (bA ((eH s).drop 3)),sv ⟨#[32]⟩] H (fun x H'=>x=sv (ofL (bU [32] (W.drop 3)))/\H'=H):=fun H=>by
   have:=tG ((eH s).drop 3) ⟨#[32]⟩ H (by decide) (by show 1*_+_+_<_;omega);rw[hJe]at this;exact this
  have hJs:(ofL (bU [32] (W.drop 3))).size<1099511627776:=by
   have:=eZ ((eH s).drop 3);rw[hJe]at this;rw[dG];omega
  obtain ⟨J,hJ⟩:∃J,J=ofL (bU [32] (W.drop 3)):=⟨_,rfl⟩;rw[<-hJ]at hJs |-;simp only[<-hJ]at hj;have htl:((iZ J).1.map eS).length=(iZ J).1.length:=aPU _;refine Sr<|Dd aE<|Dd (by exact yS (l:=3) (h:=((eH s).map encStr).length) (rows':=((eH s).drop 3).map encStr) rfl cB rfl (M7 _) rfl rfl (by omega) (aP0 _) (by rw[List.take_length];exact List.map_drop.symm))<|Dd (by exact aA rfl rfl pG rfl (hj _))<|Dd (by exact aA rfl rfl aOc rfl (aJU J _ hJs))<|Dd aE<|Dd fS<|Dd fS<|Dd fS<|Dd aL<|Dd aL<|Dd aL<|Zz<|Sr<|Dd aE<|Dd (fE gY)<|Dd cK<|Zz ?_;refine Cn ?_ ?_<;>intro hc4
  ·have h4:(iZ J).1.length=1:=by have:=aPQ hc4;omega
   obtain ⟨f,hf⟩:=List.length_eq_one_iff.1 h4;rw[hf];have hf0:([f].map eS)[0]?=some [.int .i64 f.kind,.str f.text,.int .i64 f.pos]:=rfl;refine Sq<|aN follows<|Cr [] (fun _ _=>aE)<|Cr [] (fun _ _=>(mE cB))<|Cr [] (fun _ _=>(iJ isAgg9))<|Cr [] (fun _ _=>aE)<|Cr [] (fun _ _=>(mE cB))<|Cr [] (fun _ _=>(iJ isAgg9))<|Cr [] (fun _ _=>aE)<|Cr [] (fun _ _=>(mE nW))<|Cr [] (fun _ _=>(M4 lT))<|Cr [] (fun _ _=>(iJ isAgg9))<|Cr [] (fun _ _=>(vC DV))<|Cp [2] (fun H1 hH=>by exact cM rfl aX rfl rfl rfl rfl ((hH _ rfl).trans rfl) rfl rfl rfl)<|bL<|Kr<|aB ?_;refine eG (H':=[]) (.inr rfl) rfl (X8 cA aX) (Fin.wk (r:=av (aW ⟨3,ofL (W.getD 1 []),sNil,sNil,0,0,ofL (W.getD 2 []),f.text,[],zObj⟩)) (by simp) trivial trivial) ?_;exact Qq
  have h4:(iZ J).1.length≠1:=by have:=aPR hc4;omega
  split
  ·next f hf=>rw[hf]at h4;exact absurd rfl h4
  refine aC<|Sr<|Dd (vC DV)<|Uu (lG aX)<|Zz<|aB ?_;refine eG (H':=[]) (.inr rfl) rfl (X8 cA aX) (Fin.wk (r:=av (aW WO)) (by simp) trivial trivial) ?_;exact Qq
 have h3:¬ (ofL w0=ofL aBR/\_):=NN hc3;rw[qI,hml]at h3;rw[aPS (fun h=>h3 ⟨h.1,by omega⟩)];refine Sq ?_;refine aT (t:=81) (n:=9) (X:=decide (ofL w0=⟨#[114,101,102,115]⟩)&&decide ((1:Int)<(((eH s).map encStr).length:Int))) ?_ ?_
 ·all_goals refine Dd aE ?_
  all_goals refine Dd zE<|Dm ?_
  all_goals refine Sp 84 (fun h84=>?_) fun h84=>?_
  all_goals try contradiction
  all_goals first|refine Fo<|Fo<|Fo ?_|refine On aE<|On (fE aD)<|On iE ?_
  all_goals refine Dd cG<|Da ?_
  all_goals(exact⟨⟨_,rfl,by(simp_all;done)⟩,rfl,rfl,rfl⟩)
 refine Cn ?_ ?_<;>intro hc5
 ·have h4:ofL w0=ofL Z8/\_:=NM hc5;rw[qI,hml]at h4;rw[aPT ⟨h4.1,by omega⟩];have i1:=hSg 1 (by omega);refine Sq<|aN follows<|Cr [] (fun _ _=>aE)<|Cr [] (fun _ _=>(mE cB))<|Cr [] (fun _ _=>(iJ isAgg9))<|Cr [] (fun _ _=>aE)<|Cr [] (fun H1 hH=>by exact yS (l:=2) (h:=((eH s).map encStr).length) (rows':=((W.drop 2).map ofL).map encStr) rfl cB rfl (M7 _) rfl rfl (by omega) (aP0 _) (by rw[List.take_length,eH,<-hW,List.map_drop,List.map_drop];rfl))<|Cr [] (fun _ _=>(vC DV))<|Cp [2] (fun H1 hH=>by exact cM rfl aX rfl rfl rfl rfl ((hH _ rfl).trans rfl) rfl rfl rfl)<|bL<|Kr<|aB ?_;refine eG (H':=[]) (.inr rfl) rfl (X8 cA aX) (Fin.wk (r:=av (aW ⟨4,ofL (W.getD 1 []),sNil,sNil,0,0,sNil,sNil,(W.drop 2).map ofL,zObj⟩)) (by simp) trivial trivial) ?_;exact Qq
 have h4:¬ (ofL w0=ofL Z8/\_):=NN hc5;rw[qI,hml]at h4;rw[aPS (fun h=>h4 ⟨h.1,by omega⟩)];refine Sq ?_;refine aT (t:=95) (n:=9) (X:=decide (ofL w0=⟨#[100,114,111,112]⟩)&&decide ((((eH s).map encStr).length:Int)=2)) ?_ ?_
 ·all_goals refine Dd aE ?_
  all_goals refine Dd zE<|Dm ?_
  all_goals refine Sp 98 (fun h98=>?_) fun h98=>?_
  all_goals try contradiction
  all_goals first|refine Fo<|Fo<|Fo ?_|refine On aE<|On (fE aD)<|On cK ?_
  all_goals refine Dd cG<|Da ?_
  all_goals(exact⟨⟨_,rfl,by(simp_all;done)⟩,rfl,rfl,rfl⟩)
 refine Cn ?_ ?_<;>intro hc6
 ·have h5:ofL w0=ofL aAE/\_:=NM hc6;rw[qI,hml]at h5;rw[aPT ⟨h5.1,by omega⟩];have i1:=hSg 1 (by omega);refine Sr<|Dd aE<|Dd (mE cB)<|Dd (iJ isAgg9)<|Dd (vC DV)<|Uu (lG aX)<|Zz<|aB ?_;refine eG (H':=[]) (.inr rfl) rfl (X8 cA aX) (Fin.wk (r:=av (aW ⟨5,ofL (W.getD 1 []),sNil,sNil,0,0,sNil,sNil,[],zObj⟩)) (by simp) trivial trivial) ?_;exact Qq
 have h5:¬ (ofL w0=ofL aAE/\_):=NN hc6;rw[qI,hml]at h5;rw[aPS (fun h=>h5 ⟨h.1,by omega⟩)];refine Sq ?_;refine aT (t:=107) (n:=9) (X:=decide (ofL w0=⟨#[115,112,108,105,116]⟩)&&decide ((((eH s).map encStr).length:Int)=4)) ?_ ?_
 ·all_goals refine Dd aE ?_
  all_goals refine Dd zE<|Dm ?_
  all_goals refine Sp 110 (fun h110=>?_) fun h110=>?_
  all_goals try contradiction
  all_goals first|refine Fo<|Fo<|Fo ?_|refine On aE<|On (fE aD)<|On cK ?_
  all_goals refine Dd cG<|Da ?_
  all_goals(exact⟨⟨_,rfl,by(simp_all;done)⟩,rfl,rfl,rfl⟩)
 refine Cn ?_ ?_<;>intro hc7
 ·have h6:ofL w0=ofL RJ/\_:=NM hc7;rw[qI,hml]at h6;rw[aPT ⟨h6.1,by omega⟩];have i1:=hSg 1 (by omega);have i2:=hSg 2 (by omega);have i3:=hSg 3 (by omega);refine Sq<|aN follows<|Cr [] (fun _ _=>aE)<|Cr [] (fun _ _=>(mE cB))<|Cr [] (fun _ _=>(iJ isAgg9))<|Cr [] (fun _ _=>aE)<|Cr [] (fun _ _=>(mE cB))<|Cr [] (fun _ _=>(iJ isAgg9))<|Cr [] (fun _ _=>aE)<|Cr [] (fun _ _=>(mE cB))<|Cr [] (fun _ _=>(iJ isAgg9))<|Cr [] (fun _ _=>(vC DV))<|Cp [2] (fun H1 hH=>by exact cM rfl aX rfl rfl rfl rfl ((hH _ rfl).trans rfl) rfl rfl rfl)<|bL<|Kr<|aB ?_;refine eG (H':=[]) (.inr rfl) rfl (X8 cA aX) (Fin.wk (r:=av (aW ⟨6,ofL (W.getD 1 []),ofL (W.getD 3 []),ofL (W.getD 2 []),0,0,sNil,sNil,[],zObj⟩)) (by simp) trivial trivial) ?_;exact Qq
 have h6:¬ (ofL w0=ofL RJ/\_):=NN hc7;rw[qI,hml]at h6;rw[aPS (fun h=>h6 ⟨h.1,by omega⟩)];refine Sq ?_;refine aT (t:=125) (n:=9) (X:=decide (ofL w0=⟨#[106,111,105,110]⟩)&&decide ((((eH s).map encStr).length:Int)=3)) ?_ ?_
 ·all_goals refine Dd aE ?_
  all_goals refine Dd zE<|Dm ?_
  all_goals refine Sp 128 (fun h128=>?_) fun h128=>?_
  all_goals try contradiction
  all_goals first|refine Fo<|Fo<|Fo ?_|refine On aE<|On (fE aD)<|On cK ?_
  all_goals refine Dd cG<|Da ?_
  all_goals(exact⟨⟨_,rfl,by(simp_all;done)⟩,rfl,rfl,rfl⟩)
 refine Cn ?_ ?_<;>intro hc8
 ·have h7:ofL w0=ofL aAD/\_:=NM hc8;rw[qI,hml]at h7;rw[aPT ⟨h7.1,by omega⟩];have i1:=hSg 1 (by omega);have i2:=hSg 2 (by omega);refine Sq<|aN follows<|Cr [] (fun _ _=>aE)<|Cr [] (fun _ _=>(mE cB))<|Cr [] (fun _ _=>(iJ isAgg9))<|Cr [] (fun _ _=>aE)<|Cr [] (fun _ _=>(mE cB))<|Cr [] (fun _ _=>(iJ isAgg9))<|Cr [] (fun _ _=>(vC DV))<|Cp [2] (fun H1 hH=>by exact cM rfl aX rfl rfl rfl rfl ((hH _ rfl).trans rfl) rfl rfl rfl)<|bL<|Kr<|aB ?_;refine eG (H':=[]) (.inr rfl) rfl (X8 cA aX) (Fin.wk (r:=av (aW ⟨7,ofL (W.getD 1 []),ofL (W.getD 2 []),sNil,0,0,sNil,sNil,[],zObj⟩)) (by simp) trivial trivial) ?_;exact Qq
 have h7:¬ (ofL w0=ofL aAD/\_):=NN hc8;rw[qI,hml]at h7;rw[aPS (fun h=>h7 ⟨h.1,by omega⟩)];refine aC<|Sr<|Dd (vC DV)<|Uu (lG aX)<|Zz<|aB ?_;refine eG (H':=[]) (.inr rfl) rfl (X8 cA aX) (Fin.wk (r:=av (aW WO)) (by simp) trivial trivial) ?_;exact Qq
def JH(l:List GEdit):List (List AV):=l.map fun e=>(aW e).map AV.pv
theorem aC0(l:List GEdit):(JH l).length=l.length:=aPU _
theorem aC1(l:List GEdit)(e:GEdit):JH l++[(aW e).map AV.pv]=JH (l++[e]):=by rw[JH,JH,List.map_append];rfl
theorem H9(H:aH)(l:List GEdit):∀r∈JH l,∀a∈r,Clo H a:=by intro r hr a ha;obtain ⟨d,_,rfl⟩:=List.mem_map.1 hr;obtain ⟨p,_,rfl⟩:=List.mem_map.1 ha;simp
theorem SY(H:aH)(s:ByteArray):∀r∈(lB s).rows,∀a∈r,Clo H a:=by intro r hr a ha;simp only[lB,bx,aPX]at hr;subst hr;rw[aPX]at ha;subst ha;simp
def pcE(t:ByteArray):dB:=[(0,sv t),(4,.ref 4 0 0 0)]
def lnE(t:ByteArray)(k:Nat):GEdit:=jE (BH (uM (gH t k))).data.toList
def HP(t:ByteArray)(k:Nat):List GEdit:=(List.range k).map (lnE t)
theorem aCH(t:ByteArray)(k:Nat):HP t (k+1)=HP t k++[lnE t k]:=by rw[HP,List.range_succ,List.map_append];rfl
theorem MN(t:ByteArray)(k:Nat):(HP t k).length=k:=by rw[HP,aPU,List.length_range]
theorem MO(t:ByteArray):HP t (gU t).length=(kU t.data.toList).map fun s=>jE (Lib.trimSuffix s [10]):=by
 refine List.ext_getElem? fun k=>?_;rw[HP,aPe,aPe];by_cases h:k<(gU t).length
 ·have h1:=(aIF h).1;rw[gU,aPe]at h1;cases e:(kU t.data.toList)[k]? with
  |none=>rw[e]at h1;cases h1
  |some w =>
   rw[e]at h1;have h1:ofY w=uM (gH t k):=Option.some.inj h1;rw[List.getElem?_range h,Option.map_some,Option.map_some,lnE,<-h1,aDX,dC];congr 3
 have h2:(kU t.data.toList)[k]?=none:=by
  rw[gU,aPU]at h;exact List.getElem?_eq_none (by omega)
 rw[h2,List.getElem?_eq_none (by simpa using h)];rfl
def pcK(t s:ByteArray)(k:Nat):aH:=[(933,lB s),(905,⟨k,15,153,JH (HP t k)⟩),(4,bx 1 23 [.osl 905 k 0 k])]
theorem aIQ{c:Ob}{K:aH}(j:Nat):aH.get ((904,b)::(933,a)::K) j=aH.get ((933,a)::(904,b)::(933,c)::K) j:=by
 by_cases h1:j=904
 ·subst h1;rfl
 by_cases h2:j=933
 ·subst h2;rfl
 rw[get_cons_other _ _ h1,get_cons_other _ _ h2,get_cons_other _ _ h2,get_cons_other _ _ h1,get_cons_other _ _ h2]
theorem XR(s:ByteArray):(BH s).size<=s.size:=by
 rw[BH]
 split
 ·rw[<-aZ,exL,aP8,aP9,aZ];omega
 exact aP0 _
theorem MP(s:ByteArray):(uM s).size<=s.size:=by
 rw[uM]
 split
 ·exact aP0 _
 rw[<-aZ,exL,aP8,aP9,aZ];omega
theorem BX{t:ByteArray}{k:Nat}(h:k<=(gU t).length):(BH (uM (gH t k))).size<=t.size:=Nat.le_trans (XR _) (Nat.le_trans (MP _) (xS t k h).2)
theorem P1{w:List UInt8}(h:w.length<=n)(hn:n<4611686018427387904):(ofL w).size<4611686018427387904:=by rw[dG];omega
theorem ZF(hs:s.size<1099511627776):okO (rR s).1:=by
 rw[rR]
 split
 ·exact⟨by decide,⟨by decide,fun t h=>by cases h⟩,by decide,fun s hs=>by cases hs⟩
 split
 ·exact PW hs
 exact⟨by decide,⟨by decide,fun t h=>by cases h⟩,by decide,fun s hs=>by cases hs⟩
theorem yR:okO zObj:=⟨by decide,⟨by decide,fun t h=>by cases h⟩,by decide,fun s hs=>by cases hs⟩
theorem zM:([]:List ByteArray).length<4611686018427387904/\∀s∈([]:List ByteArray),s.size<4611686018427387904:=⟨by decide,fun s hs=>by cases hs⟩
theorem eM:sNil.size<4611686018427387904:=by decide
theorem QM{s:List UInt8}(hs:s.length<=20000):MB (jE s):=by
 have hw:∀i,(ofL ((fF 32 s).getD i [])).size<4611686018427387904:=fun i=>by
  refine P1 (n:=20000) ?_ (by decide);rw[List.getD_eq_getElem?_getD];cases e:(fF 32 s)[i]? with
  |none=>exact aPb _
  |some w=>exact Nat.le_trans (tU 32 (aP4 e)) hs
 have hz:∀(op x y:Int),MB ⟨op,sNil,sNil,sNil,x,y,sNil,sNil,[],zObj⟩:=fun op x y=>⟨⟨eM,eM,eM,eM⟩,zM,yR⟩;rw[jE,BM]
 split
 ·exact⟨⟨eM,eM,eM,eM⟩,zM,ZF (by rw[dG,aP9];omega)⟩
 split
 ·exact⟨⟨hw 1,eM,eM,eM⟩,zM,yR⟩
 split
 ·split
  ·exact⟨⟨hw 1,eM,eM,hw 2⟩,zM,yR⟩
  exact hz _ _ _
 split
 ·refine⟨⟨hw 1,eM,eM,eM⟩,⟨?_,fun x hx=>?_⟩,yR⟩
  ·show (List.map _ _).length<_;have:=List.count_le_length (l:=s) (a:=32);rw[aPU,aP9,tV];omega
  obtain ⟨w,hw2,rfl⟩:=List.mem_map.1 hx;exact P1 (n:=20000) (Nat.le_trans (tU 32 (List.mem_of_mem_drop hw2)) hs) (by decide)
 split
 ·exact⟨⟨hw 1,eM,eM,eM⟩,zM,yR⟩
 split
 ·exact⟨⟨hw 1,hw 3,hw 2,eM⟩,zM,yR⟩
 split
 ·exact⟨⟨hw 1,hw 2,eM,eM⟩,zM,yR⟩
 exact hz _ _ _
theorem HQ:∀ {t:ByteArray} {n:Nat},t.size<=n->(gU t).length<=n
 |t,0,h=>by rw[yC (by omega)];exact aP0 _
 | t,n+1,h=>by
  by_cases hp:0<t.size
  ·rw[(zQ hp).1,aPW];refine Nat.succ_le_succ (HQ (n:=n) ?_);rw[I9]
   split
   ·exact aPb _
   next h1 =>
   obtain ⟨w,r,e1,e2,e3,e4,e5,e6⟩:=aEv h1;rw[e3,aP5,<-szY,e5];omega
  rw[yC hp];exact aPb _
theorem aEJ(t:ByteArray)(H:aH)(hs:t.size<1099511627776):aI Tryz.prog 50 [sv t] H (fun r H'=>r=.tup [.pv (iF (mT t).1),iv (mT t).2]/\H'=H):=by
 refine Pu ?_;rw[mT,<-MO];refine Bd func50 rfl ntmps50<|Sr<|Dd aL<|Dd aL<|Zz<|Sq<|Sr<|Dd aE<|Dd (jV underlying9)<|Dd iE<|Zz ?_;refine Cn ?_ ?_<;>intro hc1
 ·have h2:20000<t.size:=by have:=aPQ hc1;omega
  rw[aPT h2];exact Sr<|Dd aL<|Dd aL<|Zz<|aB<|Ru<|Qq
 have h2:¬ 20000<t.size:=by have:=aPR hc1;omega
 rw[aPS h2];refine aC<|Sr<|Dd (by exact bW (id:=4) rfl aLg rfl rfl)<|Zz<|Sq<|Sr<|Dd aE<|Dd (by exact aA rfl rfl call115 rfl (aIE t _ rfl))<|Zz<|aG ?_;obtain ⟨n,hn⟩:∃n,n=(gU t).length:=⟨_,rfl⟩;have hnl:n<=20000:=by rw[hn];exact HQ (by omega)
 refine gR.ent (E':=[(0,sv t),(4,.ref 4 0 0 0),(12,.clo 153 [.ref 933 0 0 0])]) (H':=[(905,⟨0,15,153,[]⟩),(933,lB t),(4,bx 1 23 [.osl 905 0 0 0])]) ?_ ?_
 ·exact(dA.nz 905 15 153 rfl rfl ⟨⟨_,rfl,(by exact Nz.same (by(simp;done)))⟩,⟨_,rfl,(by exact Nz.same (by(simp;rfl)))⟩,⟨_,rfl,(by exact Nz.same (by(simp;rfl)))⟩,trivial⟩ ⟨⟨_,rfl,rfl,rfl,rfl,(by exact .inl ⟨rfl,(by exact SY _ _)⟩)⟩,⟨_,rfl,rfl,rfl,rfl,(by exact .inr ⟨_,_,rfl,rfl,(by repeat(first|exact trivial|refine⟨(by exact Nz.own),?_⟩))⟩)⟩,trivial⟩ trivial)
 refine gR.ent (E':=[(0,sv t),(4,.ref 4 0 0 0),(12,.clo 153 [.ref 933 0 0 0])]) (H':=pcK t t 0) (dA.wk (Eb<|Ea<|Ea<|trivial) (Hc (SY _ _)<|Hc (H9 _ _)<|Ha<|trivial) trivial) ?_;refine C6 (id:=904) (p:=13) (pcE t) rfl call153 rfl rfl (by simp[pcE];exact⟨rfl,rfl⟩) ?_;intro x hx1 hx2 hx3 hx4 hx5 hx6;have hround:∀k,k<n->dK Tryz.prog (.yld 904 0) [sv (uM (gH t k))] ((904,LR x (pcE t))::pcK t (gH t (k+1)) k) (fun r H'=>r=bv true/\H'=(904,LR x (pcE t))::pcK t (gH t (k+1)) (k+1)):=by
  intro k hk;have hnx:=aCH t k;have hll:=MN t k;have hls:=BX (t:=t) (k:=k) (by omega);have hla:(uM (gH t k)).size<=t.size:=Nat.le_trans (MP _) (xS t k (by omega)).2;refine .inl ⟨904,0,rfl,?_⟩;refine RG [(0,sv t),(4,.ref 4 0 0 0),(5,sv (uM (gH t k)))] (pcK t (gH t (k+1)) k) hx1 hx2 hx3 hx4 hx5 hx6 rfl rfl rfl ?_ ?_
  ·refine Rg<|Da ?_;exact(dA.wk (Eb<|Ea<|Eb<|trivial) (Hc (lC (by simp[pcE];rfl))<|Hc (SY _ _)<|Hc (H9 _ _)<|Ha<|trivial) ⟨rfl,rfl,rfl,rfl,trivial⟩)
  refine aG<|aN follows<|Cs (fun _ h=>lh iI h)<|Cs (fun _ _=>aE)<|Cs (fun H1 hH=>by exact aA rfl rfl call117 rfl (XQ (uM (gH t k)) _ (by omega)))<|Cs (fun H1 hH=>by exact aA rfl rfl call116 rfl (aHP (BH (uM (gH t k))) _ (by omega)))<|Cs (fun H1 hH=>by exact aR [aW (lnE t k)] rfl RU rfl rfl rfl rfl rfl (by intro r hr;rw[aPX]at hr;subst hr;rfl)) ?_;refine bF (r:=⟨_,none,[_]⟩) (DStep.plain rfl (fun H1 hH=>by exact dL (ps:=[aW (lnE t k)]) rfl RU aNF rfl ((hH _ rfl).trans rfl) rfl rfl rfl ((aC0 _).trans hll) rfl (by intro r hr;rw[aPX]at hr;subst hr;rfl) (m:=1) rfl (by omega) rfl (aC1 (HP t k) (lnE t k)))) rfl ?_;refine bF (r:=⟨_,none,[_]⟩) (DStep.plain rfl (fun H1 hH=>by exact(by exact cM rfl sizeOf23 rfl rfl rfl rfl ((hH _ rfl).trans rfl) rfl rfl rfl))) rfl ?_;refine bL<|Kr ?_;exact⟨[(933,lB (gH t (k+1))),(905,⟨k+1,15,153,JH (HP t k++[lnE t k])⟩),(4,bx 1 23 [.osl 905 (k+1) 0 (k+1)])],(dA.wk trivial (Hc (lC (by simp[pcE];rfl))<|Hc (SY _ _)<|Hc (H9 _ _)<|Ha<|trivial) ⟨rfl,rfl,rfl,rfl,trivial⟩),rfl,by rw[<-hnx];rfl⟩
 refine(aEj t (.yld 904 0) (fun k=>(904,LR x (pcE t))::pcK t (gH t k) k) hs (fun k=>rfl) (fun k hk=>?_)).mono ?_
 ·exact dK.congrG (hround k (by omega)) (fun j=>aIQ j) (fun j=>rfl)
 rintro r H' ⟨rfl,rfl⟩;refine⟨x,_,rfl,by rw[hx1];decide,rfl,fun z=>?_⟩;rw[hx2];obtain ⟨L,hL⟩:∃L,L=HP t n:=⟨_,rfl⟩;have hLl:L.length=n:=by rw[hL];exact MN t n
 rw[<-hn,<-hL];have hok:∀e∈L,MB e:=fun e he=>by
  rw[hL,HP]at he;obtain ⟨k,hk,rfl⟩:=List.mem_map.1 he;have:=BX (t:=t) (k:=k) (by have:=List.mem_range.1 hk;omega);exact QM (by rw[aZ];omega)
 refine Sq<|Sq ?_;refine gR.ent (dA.fzG (id:=905) (E':=[(0,sv t),(4,.ref 4 0 0 0)]) (H':=[(4,bx 1 23 [.pv (iF L)])]) (L.map aW) rfl (by rw[hL];exact FB aW _) ?_ rfl ?_ ?_) ?_
 ·intro p hp;simp only[aP6,aPa,or_false]at hp;rcases hp with rfl|rfl<;>exact⟨_,rfl,.same (by simp;try rfl)⟩
 ·exact⟨⟨_,rfl,rfl,rfl,rfl,qM rfl (dR (.osl (by rw[<-hLl];exact tR aW L)) qN)⟩,trivial⟩
 ·exact trivial
 refine Rg<|Dd (bC iI)<|Dd (by exact aA rfl rfl call118 rfl (aAK L _ (by omega) hok))<|Dd aE<|Dd fS<|Dd fS<|Dd aL<|Dd aL<|Zz<|Sq ?_;refine aT (t:=31) (n:=8) (X:=!decide ((eW L).2=0)||!decide ((eW L).1=t)) ?_ ?_
 ·all_goals refine Dd aE ?_
  all_goals refine Dd xY<|Dm ?_
  all_goals refine Sp 27 (fun h27=>?_) fun h27=>?_
  all_goals try contradiction
  all_goals first|refine Fo<|Fo<|Fo ?_|refine On aE<|On aE<|On IU ?_
  all_goals refine Dd cG<|Zz ?_
  all_goals(exact⟨⟨_,rfl,by(simp_all;done)⟩,rfl,rfl,rfl⟩)
 refine Cn ?_ ?_<;>intro hc2
 ·have hne:eW L≠(t,0):=fun e=>by have h:=hc2;rw[e]at h;simp at h
  rw[aPS hne];exact Sr<|Dd aL<|Dd aL<|Zz<|aB<|Ru<|Qq
 have hee:eW L=(t,0):=by have h:=hc2;simp only[aPg,Bool.not_eq_false',aP1]at h;exact Prod.ext h.2 h.1
 rw[aPT hee];exact aC<|Sr<|Dd (bC iI)<|Dd aL<|Dd aL<|Zz<|aB<|Ru<|Qq
end Go.Proofs.YtmdicgjnmfolfaaGreatDoor
namespace Go.Proofs.YtmdicgjnmfolfaaGreatDoor
open Go.Proofs.Tryz
open Go.Abs Go.Lib
variable{α:Type}{l q t:List UInt8}{s:GSeal}
theorem YH(t:ByteArray):∀e∈(mT t).1,MB e:=by
 intro e he;rw[mT]at he
 split at he
 ·cases he
 next hs =>
 split at he
 ·have he:e∈(kU t.data.toList).map fun s=>jE (Lib.trimSuffix s [10]):=he;rw[<-MO,HP]at he;obtain ⟨k,hk,rfl⟩:=List.mem_map.1 he;have:=BX (t:=t) (k:=k) (by have:=List.mem_range.1 hk;omega);exact QM (by rw[aZ];omega)
 cases he
theorem U5(t:ByteArray):(mT t).1.length<=20000:=by
 rw[mT]
 split
 ·exact aPb _
 next hs =>
 split
 ·show ((kU t.data.toList).map fun s=>jE (Lib.trimSuffix s [10])).length<=_;rw[<-MO,MN];exact HQ (by omega)
 exact aPb _
def G9{α:Type}(f:List UInt8->Option (α×List UInt8))(d:α)(l:List UInt8):α×List UInt8:=(f l).getD (d,l)
def p0(t:List UInt8):=G9 iW sNil t
def p1(t:List UInt8):=G9 oC 0 (p0 t).2
def p2(t:List UInt8):=G9 oC 0 (p1 t).2
def p3(t:List UInt8):=G9 oC 0 (p2 t).2
def p4(t:List UInt8):=G9 oC 0 (p3 t).2
def p5(t:List UInt8):=G9 iW sNil (p4 t).2
def p6(t:List UInt8):=G9 (vR iW) [] (p5 t).2
def p7(t:List UInt8):=G9 iW sNil (p6 t).2
def p8(t:List UInt8):=G9 iW sNil (p7 t).2
def p9(t:List UInt8):=G9 iW sNil (p8 t).2
def OB(t:List UInt8):=G9 oC 0 (p9 t).2
def OA(t:List UInt8):=G9 iW sNil (OB t).2
def N9(t:List UInt8):=G9 RX zS (OA t).2
def N8(t:List UInt8):=G9 iW sNil (N9 t).2
def N7(t:List UInt8):=G9 iW sNil (N8 t).2
def N6(t:List UInt8):=G9 (vR iW) [] (N7 t).2
def N5(t:List UInt8):=G9 (vR HC) [] (N6 t).2
def p17(t:List UInt8):=G9 RX zS (N5 t).2
def OM:ByteArray:=⟨#[49]⟩
def FC(t:List UInt8):GRec:=⟨(p1 t).1,(p2 t).1,(p3 t).1,(p4 t).1,(p5 t).1,(p6 t).1,(mT (p7 t).1).1,(p8 t).1,decide ((p9 t).1=OM),(OB t).1,(OA t).1,(N9 t).1,⟨(N8 t).1,(N7 t).1,(N6 t).1,(N5 t).1,(p17 t).1⟩⟩
def SO(t:List UInt8):List Bool:=[(iW t).isSome,(oC (p0 t).2).isSome,(oC (p1 t).2).isSome,(oC (p2 t).2).isSome,(oC (p3 t).2).isSome,(iW (p4 t).2).isSome,((vR iW) (p5 t).2).isSome,(iW (p6 t).2).isSome,(iW (p7 t).2).isSome,(iW (p8 t).2).isSome,(oC (p9 t).2).isSome,(iW (OB t).2).isSome,(RX (OA t).2).isSome,(iW (N9 t).2).isSome,(iW (N8 t).2).isSome,((vR iW) (N7 t).2).isSome,((vR HC) (N6 t).2).isSome,(RX (N5 t).2).isSome]
def tB(t:List UInt8):Bool:=(SO t).all id
def kA(t:List UInt8):GRec×Int:=if 20000<t.length then(zR,2)else if tB t=true/\pX (FC t)=(ofL t,0)then(FC t,0)else(zR,5)
theorem jO{f:List UInt8->Option (α×List UInt8)}{d:α}{e:α->AV}:((f l).map fun p=>(e p.1,p.2)).getD (e d,l)=(e (G9 f d l).1,(G9 f d l).2):=by rw[G9];cases f l<;>rfl
theorem mJ{f:List UInt8->Option (α×List UInt8)}{d:α}(h:∀p q,f l=some (p,q)->q.length<l.length):(G9 f d l).2.length<=l.length:=by
 rw[G9];cases e:f l with
 |none=>exact aP0 _
 |some p=>exact Nat.le_of_lt (h p.1 p.2 e)
theorem RW(h:RX l=some (s,q)):q.length<l.length/\rQ s.idx/\(s.sig.length<=l.length/\∀x∈s.sig,x.size<=l.length)/\(s.path.length<=l.length/\∀x∈s.path,x.size<=l.length):=by
 rw[RX]at h;cases hn:oC l with
 |none=>rw[hn]at h;cases h
 | some p =>
  obtain ⟨i,r⟩:=p;have h1:=iP hn;rw[hn]at h;simp only at h;cases ha:vR iW r with
  |none=>rw[ha]at h;cases h
  | some p =>
   obtain ⟨a,r2⟩:=p;have h2:=wD ha;rw[ha]at h;simp only at h;cases hb:vR iW r2 with
   |none=>rw[hb]at h;cases h
   |some p =>
    obtain ⟨b,r3⟩:=p;have h3:=wD hb;rw[hb]at h;cases h;exact⟨by omega,h1.2,⟨by show a.length<=_;omega,fun x hx=>by have:=h2.2 x hx;omega⟩,by show b.length<=_;omega,fun x hx=>by have:=h3.2 x hx;omega⟩
theorem sS{f:List UInt8->Option (α×List UInt8)}{d:α}(Q:α->Prop)(hd:Q d)(h:∀p q,f l=some (p,q)->Q p):Q (G9 f d l).1:=by
 rw[G9];cases e:f l with
 |none=>exact hd
 |some p=>exact h p.1 p.2 e
theorem aEU(t:List UInt8):(p0 t).2.length<=t.length:=mJ (fun p q h=>by have:=jQ h;omega)
theorem aES(t:List UInt8):(p1 t).2.length<=t.length:=Nat.le_trans (mJ (fun p q h=>(iP h).1)) (aEU t)
theorem aER(t:List UInt8):(p2 t).2.length<=t.length:=Nat.le_trans (mJ (fun p q h=>(iP h).1)) (aES t)
theorem aEQ(t:List UInt8):(p3 t).2.length<=t.length:=Nat.le_trans (mJ (fun p q h=>(iP h).1)) (aER t)
theorem YP(t:List UInt8):(p4 t).2.length<=t.length:=Nat.le_trans (mJ (fun p q h=>(iP h).1)) (aEQ t)
theorem YO(t:List UInt8):(p5 t).2.length<=t.length:=Nat.le_trans (mJ (fun p q h=>by have:=jQ h;omega)) (YP t)
theorem YN(t:List UInt8):(p6 t).2.length<=t.length:=Nat.le_trans (mJ (fun p q h=>by have:=(wD h).1;omega)) (YO t)
theorem YM(t:List UInt8):(p7 t).2.length<=t.length:=Nat.le_trans (mJ (fun p q h=>by have:=jQ h;omega)) (YN t)
theorem aEP(t:List UInt8):(p8 t).2.length<=t.length:=Nat.le_trans (mJ (fun p q h=>by have:=jQ h;omega)) (YM t)
theorem aEO(t:List UInt8):(p9 t).2.length<=t.length:=Nat.le_trans (mJ (fun p q h=>by have:=jQ h;omega)) (aEP t)
theorem SH(t:List UInt8):(OB t).2.length<=t.length:=Nat.le_trans (mJ (fun p q h=>(iP h).1)) (aEO t)
theorem SG(t:List UInt8):(OA t).2.length<=t.length:=Nat.le_trans (mJ (fun p q h=>by have:=jQ h;omega)) (SH t)
theorem SF(t:List UInt8):(N9 t).2.length<=t.length:=Nat.le_trans (mJ (fun p q h=>(RW h).1)) (SG t)
theorem SE(t:List UInt8):(N8 t).2.length<=t.length:=Nat.le_trans (mJ (fun p q h=>by have:=jQ h;omega)) (SF t)
theorem SD(t:List UInt8):(N7 t).2.length<=t.length:=Nat.le_trans (mJ (fun p q h=>by have:=jQ h;omega)) (SE t)
theorem SC(t:List UInt8):(N6 t).2.length<=t.length:=Nat.le_trans (mJ (fun p q h=>by have:=(wD h).1;omega)) (SD t)
theorem SB(t:List UInt8):(N5 t).2.length<=t.length:=Nat.le_trans (mJ (fun p q h=>by have:=(aAf h).1;omega)) (SC t)
theorem aH6(t:List UInt8):(p17 t).2.length<=t.length:=Nat.le_trans (mJ (fun p q h=>(RW h).1)) (SB t)
theorem aD7{n:Nat}(h:RX l=some (s,q))(hn:l.length<=n):rQ s.idx/\(s.sig.length<=n/\∀x∈s.sig,x.size<=n)/\(s.path.length<=n/\∀x∈s.path,x.size<=n):=by obtain ⟨_,h1,h2,h3⟩:=RW h;exact⟨h1,⟨by omega,fun x hx=>by have:=h2.2 x hx;omega⟩,by omega,fun x hx=>by have:=h3.2 x hx;omega⟩
theorem aLq(t:List UInt8):rQ zS.idx/\(zS.sig.length<=t.length/\∀x∈zS.sig,x.size<=t.length)/\(zS.path.length<=t.length/\∀x∈zS.path,x.size<=t.length):=by simp[zS,rQ]
theorem aM8(t:List UInt8):(rQ) (p1 t).1:=by unfold p1;exact sS (f:=oC) (d:=0) (l:=(p0 t).2) (rQ) (⟨by decide,by decide⟩) (fun p q h=>(iP h).2)
theorem aM6(t:List UInt8):(rQ) (p2 t).1:=by unfold p2;exact sS (f:=oC) (d:=0) (l:=(p1 t).2) (rQ) (⟨by decide,by decide⟩) (fun p q h=>(iP h).2)
theorem aM4(t:List UInt8):(rQ) (p3 t).1:=by unfold p3;exact sS (f:=oC) (d:=0) (l:=(p2 t).2) (rQ) (⟨by decide,by decide⟩) (fun p q h=>(iP h).2)
theorem aM2(t:List UInt8):(rQ) (p4 t).1:=by unfold p4;exact sS (f:=oC) (d:=0) (l:=(p3 t).2) (rQ) (⟨by decide,by decide⟩) (fun p q h=>(iP h).2)
theorem aM0(t:List UInt8):(fun s:ByteArray=>s.size<=t.length) (p5 t).1:=by unfold p5;exact sS (f:=iW) (d:=sNil) (l:=(p4 t).2) (fun s:ByteArray=>s.size<=t.length) ((aPb _)) (fun p q h=>by have:=jQ h;have:=YP t;omega)
theorem aMY(t:List UInt8):(fun l:List ByteArray=>l.length<=t.length/\∀x∈l,x.size<=t.length) (p6 t).1:=by unfold p6;exact sS (f:=(vR iW)) (d:=[]) (l:=(p5 t).2) (fun l:List ByteArray=>l.length<=t.length/\∀x∈l,x.size<=t.length) (⟨aPb _,by simp⟩) (fun p q h=>by have h1:=wD h;have h2:=YO t;exact⟨by omega,fun x hx=>by have:=h1.2 x hx;omega⟩)
theorem aMW(t:List UInt8):(fun s:ByteArray=>s.size<=t.length) (p7 t).1:=by unfold p7;exact sS (f:=iW) (d:=sNil) (l:=(p6 t).2) (fun s:ByteArray=>s.size<=t.length) ((aPb _)) (fun p q h=>by have:=jQ h;have:=YN t;omega)
theorem aMU(t:List UInt8):(fun s:ByteArray=>s.size<=t.length) (p8 t).1:=by unfold p8;exact sS (f:=iW) (d:=sNil) (l:=(p7 t).2) (fun s:ByteArray=>s.size<=t.length) ((aPb _)) (fun p q h=>by have:=jQ h;have:=YM t;omega)
theorem aK2(t:List UInt8):(rQ) (OB t).1:=by unfold OB;exact sS (f:=oC) (d:=0) (l:=(p9 t).2) (rQ) (⟨by decide,by decide⟩) (fun p q h=>(iP h).2)
theorem aK0(t:List UInt8):(fun s:ByteArray=>s.size<=t.length) (OA t).1:=by unfold OA;exact sS (f:=iW) (d:=sNil) (l:=(OB t).2) (fun s:ByteArray=>s.size<=t.length) ((aPb _)) (fun p q h=>by have:=jQ h;have:=SH t;omega)
theorem aKY(t:List UInt8):(fun s:GSeal=>rQ s.idx/\(s.sig.length<=t.length/\∀x∈s.sig,x.size<=t.length)/\(s.path.length<=t.length/\∀x∈s.path,x.size<=t.length)) (N9 t).1:=by unfold N9;exact sS (f:=RX) (d:=zS) (l:=(OA t).2) (fun s:GSeal=>rQ s.idx/\(s.sig.length<=t.length/\∀x∈s.sig,x.size<=t.length)/\(s.path.length<=t.length/\∀x∈s.path,x.size<=t.length)) (aLq t) (fun p q h=>aD7 h (SG t))
theorem aKW(t:List UInt8):(fun s:ByteArray=>s.size<=t.length) (N8 t).1:=by unfold N8;exact sS (f:=iW) (d:=sNil) (l:=(N9 t).2) (fun s:ByteArray=>s.size<=t.length) ((aPb _)) (fun p q h=>by have:=jQ h;have:=SF t;omega)
theorem aKU(t:List UInt8):(fun s:ByteArray=>s.size<=t.length) (N7 t).1:=by unfold N7;exact sS (f:=iW) (d:=sNil) (l:=(N8 t).2) (fun s:ByteArray=>s.size<=t.length) ((aPb _)) (fun p q h=>by have:=jQ h;have:=SE t;omega)
theorem aKS(t:List UInt8):(fun l:List ByteArray=>l.length<=t.length/\∀x∈l,x.size<=t.length) (N6 t).1:=by unfold N6;exact sS (f:=(vR iW)) (d:=[]) (l:=(N7 t).2) (fun l:List ByteArray=>l.length<=t.length/\∀x∈l,x.size<=t.length) (⟨aPb _,by simp⟩) (fun p q h=>by have h1:=wD h;have h2:=SD t;exact⟨by omega,fun x hx=>by have:=h1.2 x hx;omega⟩)
theorem aKQ(t:List UInt8):(fun l:List (Int×Int)=>l.length<=t.length/\∀q∈l,rQ q.1/\rQ q.2) (N5 t).1:=by unfold N5;exact sS (f:=(vR HC)) (d:=[]) (l:=(N6 t).2) (fun l:List (Int×Int)=>l.length<=t.length/\∀q∈l,rQ q.1/\rQ q.2) (⟨aPb _,by simp⟩) (fun p q h=>by have h1:=aAf h;have h2:=SC t;exact⟨by omega,h1.2⟩)
theorem aKO(t:List UInt8):(fun s:GSeal=>rQ s.idx/\(s.sig.length<=t.length/\∀x∈s.sig,x.size<=t.length)/\(s.path.length<=t.length/\∀x∈s.path,x.size<=t.length)) (p17 t).1:=by unfold p17;exact sS (f:=RX) (d:=zS) (l:=(N5 t).2) (fun s:GSeal=>rQ s.idx/\(s.sig.length<=t.length/\∀x∈s.sig,x.size<=t.length)/\(s.path.length<=t.length/\∀x∈s.path,x.size<=t.length)) (aLq t) (fun p q h=>aD7 h (SB t))
theorem aKB{N:Nat}(hN:N<=20000){k a n c od:Int}{br ta fr nm rs:ByteArray}{pa so:List ByteArray}{ed:List GEdit}{ye:Bool}{sl ps:GSeal}{tr:List (Int×Int)}(h1:rQ k)(h2:rQ a)(h3:rQ n)(h4:rQ c)(h10:rQ od)(h5:br.size<=N)(h8:ta.size<=N)(h11:fr.size<=N)(h13:nm.size<=N)(h14:rs.size<=N)
  (h6:pa.length<=N/\∀x∈pa,x.size<=N) (h15:so.length<=N/\∀x∈so,x.size<=N) (h16:tr.length<=N/\∀q∈tr,rQ q.1/\rQ q.2) (he:ed.length<=20000) (he2:∀e∈ed,MB e)
  (h12:rQ sl.idx/\(sl.sig.length<=N/\∀x∈sl.sig,x.size<=N)/\(sl.path.length<=N/\∀x∈sl.path,x.size<=N)) (h17:rQ ps.idx/\(ps.sig.length<=N/\∀x∈ps.sig,x.size<=N)/\(ps.path.length<=N/\∀x∈ps.path,x.size<=N)) :
  iA ⟨k,a,n,c,br,pa,ed,ta,ye,od,fr,sl,⟨nm,rs,so,tr,ps⟩⟩/\pa.length<549755813888:=by
 have hL:∀ {l:List ByteArray},(l.length<=N/\∀x∈l,x.size<=N)->D6 l:=fun h=>⟨by omega,fun x hx=>by have:=h.2 x hx;omega⟩;obtain ⟨s1,s2,s3⟩:=h12;obtain ⟨q1,q2,q3⟩:=h17;exact⟨⟨⟨h1,h2,h3,h4,h10⟩,⟨by show br.size<_;omega,by show ta.size<_;omega,by show fr.size<_;omega⟩,hL h6,⟨by show ed.length<_;omega,he2⟩,⟨s1,hL s2,hL s3⟩,by show nm.size<_;omega,by show rs.size<_;omega,hL h15,by show tr.length<_;have:=h16.1;omega,q1,hL q2,hL q3⟩,by have:=h6.1;omega⟩
theorem aDo(ht:t.length<=20000):iA (FC t)/\(FC t).parents.length<549755813888 :=aKB ht (aM8 t) (aM6 t) (aM4 t) (aM2 t) (aK2 t) (aM0 t) (aMU t) (aK0 t) (aKW t) (aKU t) (aMY t) (aKS t) (aKQ t) (U5 _) (YH _) (aKY t) (aKO t)
theorem eK{β:Type}{o:Option α}{g:α->β}:(o.map g=none↔o.isSome=false)/\((o.map g).isSome=o.isSome):=by cases o<;>simp
theorem mK{b:Bool}(h:b∈SO t)(hb:b=false):tB t=false:=by rw[tB,List.all_eq_false];exact⟨b,h,by rw[hb];decide⟩
theorem aOM(t:List UInt8):(A5 t).getD (sv sNil,t)=(sv (p0 t).1,(p0 t).2):=by unfold p0 A5;exact jO (f:=iW) (d:=sNil) (l:=t) (e:=fun v=>sv v)
theorem aMi(t:List UInt8)(h:A5 t=none):tB t=false:=mK (b:=(iW t).isSome) (List.mem_of_getElem? (i:=0) rfl) (eK.1.1 h)
theorem aOL(t:List UInt8):(xK (p0 t).2).getD (iv 0,(p0 t).2)=(iv (p1 t).1,(p1 t).2):=by unfold p1 xK;exact jO (f:=oC) (d:=0) (l:=(p0 t).2) (e:=fun v=>iv v)
theorem aM9(t:List UInt8)(h:xK (p0 t).2=none):tB t=false:=mK (b:=(oC (p0 t).2).isSome) (List.mem_of_getElem? (i:=1) rfl) (eK.1.1 h)
theorem aOK(t:List UInt8):(xK (p1 t).2).getD (iv 0,(p1 t).2)=(iv (p2 t).1,(p2 t).2):=by unfold p2 xK;exact jO (f:=oC) (d:=0) (l:=(p1 t).2) (e:=fun v=>iv v)
theorem aM7(t:List UInt8)(h:xK (p1 t).2=none):tB t=false:=mK (b:=(oC (p1 t).2).isSome) (List.mem_of_getElem? (i:=2) rfl) (eK.1.1 h)
theorem aOJ(t:List UInt8):(xK (p2 t).2).getD (iv 0,(p2 t).2)=(iv (p3 t).1,(p3 t).2):=by unfold p3 xK;exact jO (f:=oC) (d:=0) (l:=(p2 t).2) (e:=fun v=>iv v)
theorem aM5(t:List UInt8)(h:xK (p2 t).2=none):tB t=false:=mK (b:=(oC (p2 t).2).isSome) (List.mem_of_getElem? (i:=3) rfl) (eK.1.1 h)
theorem aOI(t:List UInt8):(xK (p3 t).2).getD (iv 0,(p3 t).2)=(iv (p4 t).1,(p4 t).2):=by unfold p4 xK;exact jO (f:=oC) (d:=0) (l:=(p3 t).2) (e:=fun v=>iv v)
theorem aM3(t:List UInt8)(h:xK (p3 t).2=none):tB t=false:=mK (b:=(oC (p3 t).2).isSome) (List.mem_of_getElem? (i:=4) rfl) (eK.1.1 h)
theorem aOH(t:List UInt8):(A5 (p4 t).2).getD (sv sNil,(p4 t).2)=(sv (p5 t).1,(p5 t).2):=by unfold p5 A5;exact jO (f:=iW) (d:=sNil) (l:=(p4 t).2) (e:=fun v=>sv v)
theorem aM1(t:List UInt8)(h:A5 (p4 t).2=none):tB t=false:=mK (b:=(iW (p4 t).2).isSome) (List.mem_of_getElem? (i:=5) rfl) (eK.1.1 h)
theorem aOG(t:List UInt8):(Y4 (p5 t).2).getD (.pv (bA []),(p5 t).2)=(.pv (bA (p6 t).1),(p6 t).2):=by unfold p6 Y4;exact jO (f:=(vR iW)) (d:=[]) (l:=(p5 t).2) (e:=fun v=>.pv (bA v))
theorem aMZ(t:List UInt8)(h:Y4 (p5 t).2=none):tB t=false:=mK (b:=((vR iW) (p5 t).2).isSome) (List.mem_of_getElem? (i:=6) rfl) (eK.1.1 h)
theorem aOF(t:List UInt8):(A5 (p6 t).2).getD (sv sNil,(p6 t).2)=(sv (p7 t).1,(p7 t).2):=by unfold p7 A5;exact jO (f:=iW) (d:=sNil) (l:=(p6 t).2) (e:=fun v=>sv v)
theorem aMX(t:List UInt8)(h:A5 (p6 t).2=none):tB t=false:=mK (b:=(iW (p6 t).2).isSome) (List.mem_of_getElem? (i:=7) rfl) (eK.1.1 h)
theorem aOE(t:List UInt8):(A5 (p7 t).2).getD (sv sNil,(p7 t).2)=(sv (p8 t).1,(p8 t).2):=by unfold p8 A5;exact jO (f:=iW) (d:=sNil) (l:=(p7 t).2) (e:=fun v=>sv v)
theorem aMV(t:List UInt8)(h:A5 (p7 t).2=none):tB t=false:=mK (b:=(iW (p7 t).2).isSome) (List.mem_of_getElem? (i:=8) rfl) (eK.1.1 h)
theorem aOD(t:List UInt8):(A5 (p8 t).2).getD (sv sNil,(p8 t).2)=(sv (p9 t).1,(p9 t).2):=by unfold p9 A5;exact jO (f:=iW) (d:=sNil) (l:=(p8 t).2) (e:=fun v=>sv v)
theorem aMT(t:List UInt8)(h:A5 (p8 t).2=none):tB t=false:=mK (b:=(iW (p8 t).2).isSome) (List.mem_of_getElem? (i:=9) rfl) (eK.1.1 h)
theorem aMh(t:List UInt8):(xK (p9 t).2).getD (iv 0,(p9 t).2)=(iv (OB t).1,(OB t).2):=by unfold OB xK;exact jO (f:=oC) (d:=0) (l:=(p9 t).2) (e:=fun v=>iv v)
theorem aK3(t:List UInt8)(h:xK (p9 t).2=none):tB t=false:=mK (b:=(oC (p9 t).2).isSome) (List.mem_of_getElem? (i:=10) rfl) (eK.1.1 h)
theorem aMg(t:List UInt8):(A5 (OB t).2).getD (sv sNil,(OB t).2)=(sv (OA t).1,(OA t).2):=by unfold OA A5;exact jO (f:=iW) (d:=sNil) (l:=(OB t).2) (e:=fun v=>sv v)
theorem aK1(t:List UInt8)(h:A5 (OB t).2=none):tB t=false:=mK (b:=(iW (OB t).2).isSome) (List.mem_of_getElem? (i:=11) rfl) (eK.1.1 h)
theorem aMf(t:List UInt8):(slA (OA t).2).getD (av (gW zS),(OA t).2)=(av (gW (N9 t).1),(N9 t).2):=by unfold N9 slA;exact jO (f:=RX) (d:=zS) (l:=(OA t).2) (e:=fun v=>av (gW v))
theorem aKZ(t:List UInt8)(h:slA (OA t).2=none):tB t=false:=mK (b:=(RX (OA t).2).isSome) (List.mem_of_getElem? (i:=12) rfl) (eK.1.1 h)
theorem aMe(t:List UInt8):(A5 (N9 t).2).getD (sv sNil,(N9 t).2)=(sv (N8 t).1,(N8 t).2):=by unfold N8 A5;exact jO (f:=iW) (d:=sNil) (l:=(N9 t).2) (e:=fun v=>sv v)
theorem aKX(t:List UInt8)(h:A5 (N9 t).2=none):tB t=false:=mK (b:=(iW (N9 t).2).isSome) (List.mem_of_getElem? (i:=13) rfl) (eK.1.1 h)
theorem aMd(t:List UInt8):(A5 (N8 t).2).getD (sv sNil,(N8 t).2)=(sv (N7 t).1,(N7 t).2):=by unfold N7 A5;exact jO (f:=iW) (d:=sNil) (l:=(N8 t).2) (e:=fun v=>sv v)
theorem aKV(t:List UInt8)(h:A5 (N8 t).2=none):tB t=false:=mK (b:=(iW (N8 t).2).isSome) (List.mem_of_getElem? (i:=14) rfl) (eK.1.1 h)
theorem aMc(t:List UInt8):(Y4 (N7 t).2).getD (.pv (bA []),(N7 t).2)=(.pv (bA (N6 t).1),(N6 t).2):=by unfold N6 Y4;exact jO (f:=(vR iW)) (d:=[]) (l:=(N7 t).2) (e:=fun v=>.pv (bA v))
theorem aKT(t:List UInt8)(h:Y4 (N7 t).2=none):tB t=false:=mK (b:=((vR iW) (N7 t).2).isSome) (List.mem_of_getElem? (i:=15) rfl) (eK.1.1 h)
theorem aMb(t:List UInt8):(SX (N6 t).2).getD (.pv (rZ []),(N6 t).2)=(.pv (rZ (N5 t).1),(N5 t).2):=by unfold N5 SX;exact jO (f:=(vR HC)) (d:=[]) (l:=(N6 t).2) (e:=fun v=>.pv (rZ v))
theorem aKR(t:List UInt8)(h:SX (N6 t).2=none):tB t=false:=mK (b:=((vR HC) (N6 t).2).isSome) (List.mem_of_getElem? (i:=16) rfl) (eK.1.1 h)
theorem aMa(t:List UInt8):(slA (N5 t).2).getD (av (gW zS),(N5 t).2)=(av (gW (p17 t).1),(p17 t).2):=by unfold p17 slA;exact jO (f:=RX) (d:=zS) (l:=(N5 t).2) (e:=fun v=>av (gW v))
theorem aKP(t:List UInt8)(h:slA (N5 t).2=none):tB t=false:=mK (b:=(RX (N5 t).2).isSome) (List.mem_of_getElem? (i:=17) rfl) (eK.1.1 h)
theorem aHh(t:List UInt8)(h0:(A5 t).isSome=true)(h1:(xK (p0 t).2).isSome=true)(h2:(xK (p1 t).2).isSome=true)(h3:(xK (p2 t).2).isSome=true)(h4:(xK (p3 t).2).isSome=true)(h5:(A5 (p4 t).2).isSome=true)(h6:(Y4 (p5 t).2).isSome=true)(h7:(A5 (p6 t).2).isSome=true)(h8:(A5 (p7 t).2).isSome=true)(h9:(A5 (p8 t).2).isSome=true)(h10:(xK (p9 t).2).isSome=true)(h11:(A5 (OB t).2).isSome=true)(h12:(slA (OA t).2).isSome=true)(h13:(A5 (N9 t).2).isSome=true)(h14:(A5 (N8 t).2).isSome=true)(h15:(Y4 (N7 t).2).isSome=true)(h16:(SX (N6 t).2).isSome=true)(h17:(slA (N5 t).2).isSome=true):tB t=true:=by unfold tB SO;simp only[List.all_cons,List.all_nil,id,Bool.and_true,aP3];exact⟨eK.2▸h0,eK.2▸h1,eK.2▸h2,eK.2▸h3,eK.2▸h4,eK.2▸h5,eK.2▸h6,eK.2▸h7,eK.2▸h8,eK.2▸h9,eK.2▸h10,eK.2▸h11,eK.2▸h12,eK.2▸h13,eK.2▸h14,eK.2▸h15,eK.2▸h16,eK.2▸h17⟩
end Go.Proofs.YtmdicgjnmfolfaaGreatDoor
namespace Go.Proofs.YtmdicgjnmfolfaaGreatDoor
open Go.Proofs.Tryz
open Go.Abs
variable{t:List UInt8}{E1:dB}{H2:aH}{x:GRec}{e:Int}{o:Ob}
theorem TZ.mono{P:Program}{F:FuncId}{args:List AV}{H:aH}{u:FrameMode}{K K':aH->Prop}(h:TZ P F args H u K)(hk:∀H,K H->K' H):TZ P F args H u K' :=fun I ι w vs h1 h2 h3=>(h I ι w vs h1 h2 h3).mono fun _ _ _ ⟨v,H',I',ι',e,s,q,r⟩=>⟨v,H',I',ι',e,s,hk _ q,r⟩
def PQ(t:List UInt8)(r:AV)(H:aH):Prop:=r=.tup [av (cC (kA t).1),iv (kA t).2]/\H=[]
abbrev dE:dB:=[(2,.ref 2 0 0 0),(3,.ref 3 0 0 0)]
theorem WQ(x:GRec)(e:Int)(hg:kA t=(x,e)):∃r,(∀(a:Act) (w:World) (I:Nat->Prop) (ι:kJ),Rel I ι (YL x e) w->jB w I ι (YL x e) dE a->∃v,(results f12 a.tmps).run Tryz.prog w=.ok v w/\VRel w I ι (YL x e) v r)/\∃r' H3,Fin [] (YL x e) r H3 r'/\PQ t r' H3 :=⟨.tup [av (cC x),iv e],aOA rfl (X8 bQ aQ) (gG rfl kY rfl rfl rfl rfl),_,[],Fin.wk (by simp[cC]) trivial trivial,by rw[PQ,hg];exact⟨rfl,rfl⟩⟩
theorem pO{ch:XF}(ht:¬ 20000<t.length)(hok:tB t=false)(he:ch=D7)(h2:E1.get 2=some (.ref 2 0 0 0))(h3:E1.get 3=some (.ref 3 0 0 0))(s2:∃o,H2.get 2=some o/\kP o rAJ)(s3:∃o,H2.get 3=some o/\kP o eAJ):
  aBL Tryz.prog f12 [] (YL zR 0) 46 dcJ (PQ t) (.panic ch) E1 H2:=by
 subst he;have hg:kA t=(zR,5):=by rw[kA,aPS ht,aPS (by rw[hok];rintro⟨h,_⟩;cases h)]
 refine⟨.panicking D7,dE,pAJ,.inr ⟨D7,rfl,rfl⟩,dA.toAny (fun u v hu=>?_) (fun id o' ho'=>?_) (fun id hi=>?_),TZ.mono aKL fun H hH=>by subst hH;exact WQ zR 5 hg⟩
 ·have hm:=gL hu;simp only[aP6,aPa,or_false,Prod.mk.injEq]at hm;rcases hm with⟨rfl,rfl⟩|⟨rfl,rfl⟩
  ·exact⟨h2,by simp;rfl⟩
  exact⟨h3,by simp;rfl⟩
 ·have hm:=dY ho';simp only[aP6,aPa,or_false,Prod.mk.injEq]at hm;rcases hm with⟨rfl,rfl⟩|⟨rfl,rfl⟩
  ·obtain ⟨o,k1,k2⟩:=s3;exact⟨o,k1,k2,by simp⟩
  obtain ⟨o,k1,k2⟩:=s2;exact⟨o,k1,k2,by simp⟩
 by_cases e3:3=id
 ·subst e3;rfl
 by_cases e2:2=id
 ·subst e2;rfl
 simp[aH.get,kX e3,kX e2]at hi
theorem PU(hg:kA t=(x,e))(hE:dA (YL zR 0) E1 H2 dE (YL x e)):aBL Tryz.prog f12 [] (YL zR 0) 46 dcJ (PQ t) .ret E1 H2 :=⟨.returning,dE,YL x e,.inl ⟨.inr rfl,rfl⟩,hE,TZ.mono (aKK x e) fun H hH=>by subst hH;exact WQ x e hg⟩
theorem J6(h:kP (rOJ x) o):kP o rAJ:=⟨h.1.symm,h.2.1.symm,h.2.2.1.symm,h.2.2.2.symm⟩
theorem CO(h:kP (eOJ e) o):kP o eAJ:=⟨h.1.symm,h.2.1.symm,h.2.2.1.symm,h.2.2.2.symm⟩
theorem R0(x:GRec):kP (rOJ x) rAJ:=⟨rfl,rfl,rfl,rfl⟩
theorem RZ(e:Int):kP (eOJ e) eAJ:=⟨rfl,rfl,rfl,rfl⟩
theorem aEI(t:List UInt8)(hts:t.length<1099511627776)(H:aH):aI Tryz.prog 12 [sv (ofL t)] H (fun r H'=>r=.tup [av (cC (kA t).1),iv (kA t).2]/\H'=H):=by
 refine aI.pure (show aI Tryz.prog 12 [sv (ofL t)] [] (PQ t)from ?_) (by simp) H;have hls:(ofL t).size=t.length:=dG t;refine aI.bodyD func12 rfl ntmps12 (aP7 rfl) ?_;refine aAu ?_;refine Rg<|Dd (by exact bW (id:=2) rfl NZ rfl rfl)<|Dd (by exact bW (id:=3) rfl aJg rfl rfl)<|Zz ?_;refine aAu ?_;refine Sr<|Dd aE<|Dd (jV underlying9)<|Dd iE<|Zz ?_;refine Cn ?_ ?_<;>intro hc1
 ·have hb:20000<t.length:=by have:=aPQ hc1;omega
  have hg:kA t=(zR,2):=by rw[kA,aPT hb]
  refine Sr<|Dd (vC W1)<|Uu (lG aQ)<|Uu (lG sizeOf41)<|Zz<|aB ?_;refine vI (H':=[]) (.inr rfl) rfl (gD rfl bQ aQ rfl rfl rfl (by simp only[Zl,encStr];rfl) rfl) (gG rfl kY rfl rfl rfl rfl) (Fin.wk (by simp[cC,NP]) trivial trivial) ?_;rw[PQ,hg];exact Qq
 have hb:¬ 20000<t.length:=by have:=aPR hc1;omega
 refine aC ?_;refine aC2 (F:=46) (cs:=dcJ) rfl rfl rfl rfl rfl rfl rfl rfl rfl call46 ?_;refine gR.mono (Q:=aBL Tryz.prog f12 [] (YL zR 0) 46 dcJ (PQ t)) ?_ (fun _ _ _ h=>h);have t0:=aOM t;have n0:=aMi t;have c0:=aEU t;have t1:=aOL t;have n1:=aM9 t;have c1:=aES t;have t2:=aOK t;have n2:=aM7 t;have c2:=aER t;have t3:=aOJ t;have n3:=aM5 t;have c3:=aEQ t;have t4:=aOI t;have n4:=aM3 t;have c4:=YP t;have t5:=aOH t;have n5:=aM1 t;have c5:=YO t;have t6:=aOG t;have n6:=aMZ t;have c6:=YN t;have t7:=aOF t;have n7:=aMX t;have c7:=YM t;have t8:=aOE t;have n8:=aMV t;have c8:=aEP t;have t9:=aOD t;have n9:=aMT t;have c9:=aEO t;have t10:=aMh t;have n10:=aK3 t;have c10:=SH t;have t11:=aMg t;have n11:=aK1 t;have c11:=SG t;have t12:=aMf t;have n12:=aKZ t;have c12:=SF t;have t13:=aMe t;have n13:=aKX t;have c13:=SE t;have t14:=aMd t;have n14:=aKV t;have c14:=SD t;have t15:=aMc t;have n15:=aKT t;have c15:=SC t;have t16:=aMb t;have n16:=aKR t;have c16:=SB t;have t17:=aMa t;have n17:=aKP t;have c17:=aH6 t;have yes:=aHh t;have hok:=aDo (t:=t) (by omega);have hread:FC t=⟨(p1 t).1,(p2 t).1,(p3 t).1,(p4 t).1,(p5 t).1,(p6 t).1,(mT (p7 t).1).1,(p8 t).1,decide ((p9 t).1=OM),(OB t).1,(OA t).1,(N9 t).1,⟨(N8 t).1,(N7 t).1,(N6 t).1,(N5 t).1,(p17 t).1⟩⟩:=rfl;have s7:(p7 t).1.size<=t.length:=aMW t;have hg0:kA t=if tB t=true/\pX (FC t)=(ofL t,0)then(FC t,0)else(zR,5):=by rw[kA,aPS hb]
 rw[hread]at hok hg0;obtain ⟨V0,hV0⟩:∃v,v=(p0 t).1:=⟨_,rfl⟩;obtain ⟨L0,hL0⟩:∃v,v=(p0 t).2:=⟨_,rfl⟩;obtain ⟨V1,hV1⟩:∃v,v=(p1 t).1:=⟨_,rfl⟩;obtain ⟨L1,hL1⟩:∃v,v=(p1 t).2:=⟨_,rfl⟩;obtain ⟨V2,hV2⟩:∃v,v=(p2 t).1:=⟨_,rfl⟩;obtain ⟨L2,hL2⟩:∃v,v=(p2 t).2:=⟨_,rfl⟩;obtain ⟨V3,hV3⟩:∃v,v=(p3 t).1:=⟨_,rfl⟩;obtain ⟨L3,hL3⟩:∃v,v=(p3 t).2:=⟨_,rfl⟩;obtain ⟨V4,hV4⟩:∃v,v=(p4 t).1:=⟨_,rfl⟩;obtain ⟨L4,hL4⟩:∃v,v=(p4 t).2:=⟨_,rfl⟩;obtain ⟨V5,hV5⟩:∃v,v=(p5 t).1:=⟨_,rfl⟩;obtain ⟨L5,hL5⟩:∃v,v=(p5 t).2:=⟨_,rfl⟩;obtain ⟨V6,hV6⟩:∃v,v=(p6 t).1:=⟨_,rfl⟩;obtain ⟨L6,hL6⟩:∃v,v=(p6 t).2:=⟨_,rfl⟩;obtain ⟨V7,hV7⟩:∃v,v=(p7 t).1:=⟨_,rfl⟩;obtain ⟨L7,hL7⟩:∃v,v=(p7 t).2:=⟨_,rfl⟩;obtain ⟨V8,hV8⟩:∃v,v=(p8 t).1:=⟨_,rfl⟩;obtain ⟨L8,hL8⟩:∃v,v=(p8 t).2:=⟨_,rfl⟩;obtain ⟨V9,hV9⟩:∃v,v=(p9 t).1:=⟨_,rfl⟩;obtain ⟨L9,hL9⟩:∃v,v=(p9 t).2:=⟨_,rfl⟩;obtain ⟨V10,hV10⟩:∃v,v=(OB t).1:=⟨_,rfl⟩;obtain ⟨L10,hL10⟩:∃v,v=(OB t).2:=⟨_,rfl⟩;obtain ⟨V11,hV11⟩:∃v,v=(OA t).1:=⟨_,rfl⟩;obtain ⟨L11,hL11⟩:∃v,v=(OA t).2:=⟨_,rfl⟩;obtain ⟨V12,hV12⟩:∃v,v=(N9 t).1:=⟨_,rfl⟩;obtain ⟨L12,hL12⟩:∃v,v=(N9 t).2:=⟨_,rfl⟩;obtain ⟨V13,hV13⟩:∃v,v=(N8 t).1:=⟨_,rfl⟩;obtain ⟨L13,hL13⟩:∃v,v=(N8 t).2:=⟨_,rfl⟩;obtain ⟨V14,hV14⟩:∃v,v=(N7 t).1:=⟨_,rfl⟩;obtain ⟨L14,hL14⟩:∃v,v=(N7 t).2:=⟨_,rfl⟩;obtain ⟨V15,hV15⟩:∃v,v=(N6 t).1:=⟨_,rfl⟩;obtain ⟨L15,hL15⟩:∃v,v=(N6 t).2:=⟨_,rfl⟩;obtain ⟨V16,hV16⟩:∃v,v=(N5 t).1:=⟨_,rfl⟩;obtain ⟨L16,hL16⟩:∃v,v=(N5 t).2:=⟨_,rfl⟩;obtain ⟨V17,hV17⟩:∃v,v=(p17 t).1:=⟨_,rfl⟩;obtain ⟨L17,hL17⟩:∃v,v=(p17 t).2:=⟨_,rfl⟩;simp only[<-hV0,<-hL0,<-hV1,<-hL1,<-hV2,<-hL2,<-hV3,<-hL3,<-hV4,<-hL4,<-hV5,<-hL5,<-hV6,<-hL6,<-hV7,<-hL7,<-hV8,<-hL8,<-hV9,<-hL9,<-hV10,<-hL10,<-hV11,<-hL11,<-hV12,<-hL12,<-hV13,<-hL13,<-hV14,<-hL14,<-hV15,<-hL15,<-hV16,<-hL16,<-hV17,<-hL17]at t0 n0 c0 t1 n1 c1 t2 n2 c2 t3 n3 c3 t4 n4 c4 t5 n5 c5 t6 n6 c6 t7 n7 c7 t8 n8 c8 t9 n9 c9 t10 n10 c10 t11 n11 c11 t12 n12 c12 t13 n13 c13 t14 n14 c14 t15 n15 c15 t16 n16 c16 t17 n17 c17 yes hok hg0 s7;clear hread hV0 hL0 hV1 hL1 hV2 hL2 hV3 hL3 hV4 hL4 hV5 hL5 hV6 hL6 hV7 hL7 hV8 hL8 hV9 hL9 hV10 hL10 hV11 hL11 hV12 hL12 hV13 hL13 hV14 hL14 hV15 hL15 hV16 hL16 hV17 hL17;have hpc:=fun H=>aEJ V7 H (by omega);obtain ⟨PE,hPE⟩:∃v,v=mT V7:=⟨_,rfl⟩;rw[<-hPE]at hpc hok hg0;clear hPE;obtain ⟨ED,EE⟩:=PE;simp only at hpc hok hg0;have htx:=fun H=>RN ⟨V1,V2,V3,V4,V5,V6,ED,V8,decide (V9=OM),V10,V11,V12,⟨V13,V14,V15,V16,V17⟩⟩ hok.1 hok.2 H;obtain ⟨TX,hTX⟩:∃v,v=pX ⟨V1,V2,V3,V4,V5,V6,ED,V8,decide (V9=OM),V10,V11,V12,⟨V13,V14,V15,V16,V17⟩⟩:=⟨_,rfl⟩;rw[<-hTX]at htx hg0;clear hTX hok;refine Sr<|Dd aE<|Dd (vC aO1)<|Dd (by exact cD (id:=980) rfl rfl rfl rfl rfl)<|Dd (by exact bW (id:=4) rfl aNn rfl rfl)<|Uu (lG sizeOf82)<|Zz<|Sq ?_;refine gR.ent (E':=[(0,sv (ofL t)),(2,.ref 2 0 0 0),(3,.ref 3 0 0 0),(4,.ref 4 0 0 0)]) (H':=[(980,UV t),(4,inO),(3,eOJ 0),(2,rOJ zR)]) (dA.wk (Eb<|Ea<|Ea<|Ea<|trivial) (Hb<|Ha<|Hb<|Hb<|trivial) ⟨rfl,rfl,trivial⟩) ?_;refine fU ?_;refine gS rfl rfl rfl (by exact aK rfl eB rfl rfl rfl rfl rfl) ?_
 refine TL rfl rfl rfl (by exact eE rfl rfl lF rfl (((wR t (by omega)).tot t0 rfl (fB _)).mono (PP':=fun ch H'=>tB t=false/\ch=D7/\∃q,H'=lD q++_) (fun _ _ h=>h) (fun ch H' ⟨e,e2,e3⟩=>⟨n0 e,e2,e3⟩))) (fun ch H' h=>by obtain ⟨e,e2,q,rfl⟩:=h;exact pO hb e e2 rfl rfl ⟨_,rfl,R0 _⟩ ⟨_,rfl,RZ _⟩) (fun h16=>?_);refine KM ?_;refine Sq ?_;refine gR.ent (E':=[(0,sv (ofL t)),(2,.ref 2 0 0 0),(3,.ref 3 0 0 0),(4,.ref 4 0 0 0)]) (H':=[(980,UV L0),(4,inO),(3,eOJ 0),(2,rOJ zR)]) (dA.wk (Eb<|Ea<|Ea<|Ea<|trivial) (Hb<|Ha<|Hb<|Hb<|trivial) ⟨rfl,rfl,trivial⟩) ?_;refine vF (fun ch H1 H2=>tB t=false/\ch=D7/\∃q,H2=lD q++H1) [2,3] [2,3] [] rfl follows (fun ch E1 H1 H2 hts hsh hks ⟨e,e2,q,e3⟩=>by subst e3;obtain ⟨o2,k1,k2⟩:=hsh 2 (by simp) _ rfl;obtain ⟨o3,k3,k4⟩:=hsh 3 (by simp) _ rfl;exact pO hb e e2 ((hts 2 (by simp)).trans rfl) ((hts 3 (by simp)).trans rfl) ⟨o2,k1,J6 k2⟩ ⟨o3,k3,CO k4⟩) ?_;refine cN (r:=⟨_,some [4],[]⟩) (DStep.plain rfl (fun H1 hH=>by exact(by exact aK rfl eB rfl ((hH _ rfl).trans rfl) rfl rfl rfl))) rfl ?_;refine sG (r:=⟨_,some [980],lD L1⟩) (.pan rfl (fun H1 hH=>by exact eE rfl rfl hY rfl (((mG L0 (by omega)).tot t1 ((hH 980 rfl).trans rfl) (fB _)).mono (PP':=fun ch H'=>tB t=false/\ch=D7/\∃q,H'=lD q++_) (fun _ _ h=>h) (fun ch H' ⟨e,e2,e3⟩=>⟨n1 e,e2,e3⟩)))) rfl ?_;refine cN (r:=⟨_,some [4],[]⟩) (DStep.plain rfl (fun H1 hH=>by exact(by exact aK rfl eB rfl ((hH _ rfl).trans rfl) rfl rfl rfl))) rfl ?_;refine sG (r:=⟨_,some [980],lD L2⟩) (.pan rfl (fun H1 hH=>by exact eE rfl rfl hY rfl (((mG L1 (by omega)).tot t2 ((hH 980 rfl).trans rfl) (fB _)).mono (PP':=fun ch H'=>tB t=false/\ch=D7/\∃q,H'=lD q++_) (fun _ _ h=>h) (fun ch H' ⟨e,e2,e3⟩=>⟨n2 e,e2,e3⟩)))) rfl ?_;refine cN (r:=⟨_,some [4],[]⟩) (DStep.plain rfl (fun H1 hH=>by exact(by exact aK rfl eB rfl ((hH _ rfl).trans rfl) rfl rfl rfl))) rfl ?_;refine sG (r:=⟨_,some [980],lD L3⟩) (.pan rfl (fun H1 hH=>by exact eE rfl rfl hY rfl (((mG L2 (by omega)).tot t3 ((hH 980 rfl).trans rfl) (fB _)).mono (PP':=fun ch H'=>tB t=false/\ch=D7/\∃q,H'=lD q++_) (fun _ _ h=>h) (fun ch H' ⟨e,e2,e3⟩=>⟨n3 e,e2,e3⟩)))) rfl ?_;refine cN (r:=⟨_,some [4],[]⟩) (DStep.plain rfl (fun H1 hH=>by exact(by exact aK rfl eB rfl ((hH _ rfl).trans rfl) rfl rfl rfl))) rfl ?_;refine sG (r:=⟨_,some [980],lD L4⟩) (.pan rfl (fun H1 hH=>by exact eE rfl rfl hY rfl (((mG L3 (by omega)).tot t4 ((hH 980 rfl).trans rfl) (fB _)).mono (PP':=fun ch H'=>tB t=false/\ch=D7/\∃q,H'=lD q++_) (fun _ _ h=>h) (fun ch H' ⟨e,e2,e3⟩=>⟨n4 e,e2,e3⟩)))) rfl ?_;refine cN (r:=⟨_,some [2],[]⟩) (DStep.plain rfl (fun H1 hH=>by exact(by exact bG rfl lQ rfl ((hH _ rfl).trans rfl) rfl rfl))) rfl ?_;refine cN (r:=⟨_,some [2],[_]⟩) (DStep.plain rfl (fun H1 hH=>by exact(by exact bH rfl sizeOf3 rfl rfl rfl ((hH _ rfl).trans rfl) rfl rfl (aP7 rfl) rfl rfl))) rfl ?_;refine cN (r:=⟨_,some [2],[]⟩) (DStep.plain rfl (fun H1 hH=>by exact(by exact bG rfl qP rfl ((hH _ rfl).trans rfl) rfl rfl))) rfl ?_
 refine cN (r:=⟨_,some [2],[_]⟩) (DStep.plain rfl (fun H1 hH=>by exact(by exact bH rfl sizeOf3 rfl rfl rfl ((hH _ rfl).trans rfl) rfl rfl (aP7 rfl) rfl rfl))) rfl ?_;refine cN (r:=⟨_,some [2],[]⟩) (DStep.plain rfl (fun H1 hH=>by exact(by exact bG rfl lP rfl ((hH _ rfl).trans rfl) rfl rfl))) rfl ?_;refine cN (r:=⟨_,some [2],[_]⟩) (DStep.plain rfl (fun H1 hH=>by exact(by exact bH rfl sizeOf3 rfl rfl rfl ((hH _ rfl).trans rfl) rfl rfl (aP7 rfl) rfl rfl))) rfl ?_;refine cN (r:=⟨_,some [2],[]⟩) (DStep.plain rfl (fun H1 hH=>by exact(by exact bG rfl uX rfl ((hH _ rfl).trans rfl) rfl rfl))) rfl ?_;refine cN (r:=⟨_,some [2],[_]⟩) (DStep.plain rfl (fun H1 hH=>by exact(by exact bH rfl sizeOf3 rfl rfl rfl ((hH _ rfl).trans rfl) rfl rfl (aP7 rfl) rfl rfl))) rfl ?_;refine GD ⟨⟨by kernel_rfl,by kernel_rfl,by kernel_rfl⟩,fun hF=>?_⟩;simp only[TY,true_and,and_true]at hF;refine Sq ?_;have f4:=hF;refine gR.ent (E':=[(0,sv (ofL t)),(2,.ref 2 0 0 0),(3,.ref 3 0 0 0),(4,.ref 4 0 0 0)]) (H':=[(980,UV L4),(4,inO),(3,eOJ 0),(2,rOJ ⟨V1,V2,V3,V4,sNil,[],[],sNil,false,0,sNil,zS,⟨sNil,sNil,[],[],zS⟩⟩)]) (dA.wk (Eb<|Ea<|Ea<|Ea<|trivial) (Hb<|Ha<|Hb<|Hb<|trivial) ⟨rfl,rfl,trivial⟩) ?_;refine vF (fun ch H1 H2=>tB t=false/\ch=D7/\∃q,H2=lD q++H1) [2,3] [2,3] [] rfl follows (fun ch E1 H1 H2 hts hsh hks ⟨e,e2,q,e3⟩=>by subst e3;obtain ⟨o2,k1,k2⟩:=hsh 2 (by simp) _ rfl;obtain ⟨o3,k3,k4⟩:=hsh 3 (by simp) _ rfl;exact pO hb e e2 ((hts 2 (by simp)).trans rfl) ((hts 3 (by simp)).trans rfl) ⟨o2,k1,J6 k2⟩ ⟨o3,k3,CO k4⟩) ?_;refine cN (r:=⟨_,some [4],[]⟩) (DStep.plain rfl (fun H1 hH=>by exact(by exact aK rfl eB rfl ((hH _ rfl).trans rfl) rfl rfl rfl))) rfl ?_;refine sG (r:=⟨_,some [980],lD L5⟩) (.pan rfl (fun H1 hH=>by exact eE rfl rfl lF rfl (((wR L4 (by omega)).tot t5 ((hH 980 rfl).trans rfl) (fB _)).mono (PP':=fun ch H'=>tB t=false/\ch=D7/\∃q,H'=lD q++_) (fun _ _ h=>h) (fun ch H' ⟨e,e2,e3⟩=>⟨n5 e,e2,e3⟩)))) rfl ?_;refine cN (r:=⟨_,some [4],[]⟩) (DStep.plain rfl (fun H1 hH=>by exact(by exact aK rfl eB rfl ((hH _ rfl).trans rfl) rfl rfl rfl))) rfl ?_;refine cN (r:=⟨_,some [4],[]⟩) (DStep.plain rfl (fun H1 hH=>by exact(by exact aK rfl eB rfl ((hH _ rfl).trans rfl) rfl rfl rfl))) rfl ?_;refine cN (r:=⟨_,some [],[]⟩) (DStep.plain rfl (fun H1 hH=>by exact nJ rfl rfl)) rfl ?_;refine sG (r:=⟨_,some [980],lD L6⟩) (.pan rfl (fun H1 hH=>by exact eE rfl rfl A9 rfl (((SV L5 (by omega)).tot t6 ((hH 980 rfl).trans rfl) (fB _)).mono (PP':=fun ch H'=>tB t=false/\ch=D7/\∃q,H'=lD q++_) (fun _ _ h=>h) (fun ch H' ⟨e,e2,e3⟩=>⟨n6 e,e2,e3⟩)))) rfl ?_;refine cN (r:=⟨_,some [2],[]⟩) (DStep.plain rfl (fun H1 hH=>by exact(by exact bG rfl uW rfl ((hH _ rfl).trans rfl) rfl rfl))) rfl ?_;refine cN (r:=⟨_,some [2],[_]⟩) (DStep.plain rfl (fun H1 hH=>by exact(by exact bH rfl sizeOf9 rfl rfl rfl ((hH _ rfl).trans rfl) rfl rfl (aP7 rfl) rfl rfl))) rfl ?_;refine cN (r:=⟨_,some [2],[]⟩) (DStep.plain rfl (fun H1 hH=>by exact(by exact bG rfl kW rfl ((hH _ rfl).trans rfl) rfl rfl))) rfl ?_
 refine cN (r:=⟨_,some [2],[_]⟩) (DStep.plain rfl (fun H1 hH=>by exact(by exact bH rfl sizeOf22 rfl rfl rfl ((hH _ rfl).trans rfl) rfl rfl (aP7 rfl) rfl rfl))) rfl ?_;refine GD ⟨⟨by kernel_rfl,by kernel_rfl,by kernel_rfl⟩,fun hF=>?_⟩;simp only[TY,true_and,and_true]at hF;refine Sq ?_;have f6:=hF;refine gR.ent (E':=[(0,sv (ofL t)),(2,.ref 2 0 0 0),(3,.ref 3 0 0 0),(4,.ref 4 0 0 0)]) (H':=[(980,UV L6),(4,inO),(3,eOJ 0),(2,rOJ ⟨V1,V2,V3,V4,V5,V6,[],sNil,false,0,sNil,zS,⟨sNil,sNil,[],[],zS⟩⟩)]) (dA.wk (Eb<|Ea<|Ea<|Ea<|trivial) (Hb<|Ha<|Hb<|Hb<|trivial) ⟨rfl,rfl,trivial⟩) ?_;refine fU ?_;refine gS rfl rfl rfl (by exact aK rfl eB rfl rfl rfl rfl rfl) ?_;refine TL rfl rfl rfl (by exact eE rfl rfl lF rfl (((wR L6 (by omega)).tot t7 rfl (fB _)).mono (PP':=fun ch H'=>tB t=false/\ch=D7/\∃q,H'=lD q++_) (fun _ _ h=>h) (fun ch H' ⟨e,e2,e3⟩=>⟨n7 e,e2,e3⟩))) (fun ch H' h=>by obtain ⟨e,e2,q,rfl⟩:=h;exact pO hb e e2 rfl rfl ⟨_,rfl,R0 _⟩ ⟨_,rfl,RZ _⟩) (fun h39=>?_);refine gS rfl rfl rfl (by exact aA rfl rfl call50 rfl (hpc _)) ?_;refine gS rfl rfl rfl (by exact fV rfl rfl) ?_;refine gS rfl rfl rfl (by exact sC rfl rfl rfl) ?_;refine gS rfl rfl rfl (by exact sC rfl rfl rfl) ?_;refine gS rfl rfl rfl (by exact bG rfl uV rfl rfl rfl rfl) ?_;refine aGA rfl rfl (by exact bH rfl sizeOf23 rfl rfl rfl rfl rfl rfl (aP7 rfl) rfl rfl) ?_;refine KM ?_;refine Sq ?_;refine gR.ent (E':=[(0,sv (ofL t)),(2,.ref 2 0 0 0),(3,.ref 3 0 0 0),(4,.ref 4 0 0 0)]) (H':=[(980,UV L7),(4,inO),(3,eOJ 0),(2,rOJ ⟨V1,V2,V3,V4,V5,V6,ED,sNil,false,0,sNil,zS,⟨sNil,sNil,[],[],zS⟩⟩)]) (dA.wk (Eb<|Ea<|Ea<|Ea<|trivial) (Hb<|Ha<|Hb<|Hb<|trivial) ⟨rfl,rfl,trivial⟩) ?_;refine vF (fun ch H1 H2=>tB t=false/\ch=D7/\∃q,H2=lD q++H1) [2,3] [2,3] [] rfl follows (fun ch E1 H1 H2 hts hsh hks ⟨e,e2,q,e3⟩=>by subst e3;obtain ⟨o2,k1,k2⟩:=hsh 2 (by simp) _ rfl;obtain ⟨o3,k3,k4⟩:=hsh 3 (by simp) _ rfl;exact pO hb e e2 ((hts 2 (by simp)).trans rfl) ((hts 3 (by simp)).trans rfl) ⟨o2,k1,J6 k2⟩ ⟨o3,k3,CO k4⟩) ?_;refine cN (r:=⟨_,some [4],[]⟩) (DStep.plain rfl (fun H1 hH=>by exact(by exact aK rfl eB rfl ((hH _ rfl).trans rfl) rfl rfl rfl))) rfl ?_;refine sG (r:=⟨_,some [980],lD L8⟩) (.pan rfl (fun H1 hH=>by exact eE rfl rfl lF rfl (((wR L7 (by omega)).tot t8 ((hH 980 rfl).trans rfl) (fB _)).mono (PP':=fun ch H'=>tB t=false/\ch=D7/\∃q,H'=lD q++_) (fun _ _ h=>h) (fun ch H' ⟨e,e2,e3⟩=>⟨n8 e,e2,e3⟩)))) rfl ?_;refine cN (r:=⟨_,some [4],[]⟩) (DStep.plain rfl (fun H1 hH=>by exact(by exact aK rfl eB rfl ((hH _ rfl).trans rfl) rfl rfl rfl))) rfl ?_;refine sG (r:=⟨_,some [980],lD L9⟩) (.pan rfl (fun H1 hH=>by exact eE rfl rfl lF rfl (((wR L8 (by omega)).tot t9 ((hH 980 rfl).trans rfl) (fB _)).mono (PP':=fun ch H'=>tB t=false/\ch=D7/\∃q,H'=lD q++_) (fun _ _ h=>h) (fun ch H' ⟨e,e2,e3⟩=>⟨n9 e,e2,e3⟩)))) rfl ?_;refine cN (r:=⟨_,some [],[]⟩) (DStep.plain rfl (fun H1 hH=>by exact FI rfl rfl rfl)) rfl ?_;refine cN (r:=⟨_,some [4],[]⟩) (DStep.plain rfl (fun H1 hH=>by exact(by exact aK rfl eB rfl ((hH _ rfl).trans rfl) rfl rfl rfl))) rfl ?_
 refine sG (r:=⟨_,some [980],lD L10⟩) (.pan rfl (fun H1 hH=>by exact eE rfl rfl hY rfl (((mG L9 (by omega)).tot t10 ((hH 980 rfl).trans rfl) (fB _)).mono (PP':=fun ch H'=>tB t=false/\ch=D7/\∃q,H'=lD q++_) (fun _ _ h=>h) (fun ch H' ⟨e,e2,e3⟩=>⟨n10 e,e2,e3⟩)))) rfl ?_;refine cN (r:=⟨_,some [4],[]⟩) (DStep.plain rfl (fun H1 hH=>by exact(by exact aK rfl eB rfl ((hH _ rfl).trans rfl) rfl rfl rfl))) rfl ?_;refine sG (r:=⟨_,some [980],lD L11⟩) (.pan rfl (fun H1 hH=>by exact eE rfl rfl lF rfl (((wR L10 (by omega)).tot t11 ((hH 980 rfl).trans rfl) (fB _)).mono (PP':=fun ch H'=>tB t=false/\ch=D7/\∃q,H'=lD q++_) (fun _ _ h=>h) (fun ch H' ⟨e,e2,e3⟩=>⟨n11 e,e2,e3⟩)))) rfl ?_;refine cN (r:=⟨_,some [2],[]⟩) (DStep.plain rfl (fun H1 hH=>by exact(by exact bG rfl uU rfl ((hH _ rfl).trans rfl) rfl rfl))) rfl ?_;refine cN (r:=⟨_,some [2],[_]⟩) (DStep.plain rfl (fun H1 hH=>by exact(by exact bH rfl sizeOf9 rfl rfl rfl ((hH _ rfl).trans rfl) rfl rfl (aP7 rfl) rfl rfl))) rfl ?_;refine cN (r:=⟨_,some [2],[]⟩) (DStep.plain rfl (fun H1 hH=>by exact(by exact bG rfl B3 rfl ((hH _ rfl).trans rfl) rfl rfl))) rfl ?_;refine cN (r:=⟨_,some [2],[_]⟩) (DStep.plain rfl (fun H1 hH=>by exact(by exact bH rfl sizeOf4 rfl rfl rfl ((hH _ rfl).trans rfl) rfl rfl (aP7 rfl) rfl rfl))) rfl ?_;refine cN (r:=⟨_,some [2],[]⟩) (DStep.plain rfl (fun H1 hH=>by exact(by exact bG rfl sO rfl ((hH _ rfl).trans rfl) rfl rfl))) rfl ?_;refine cN (r:=⟨_,some [2],[_]⟩) (DStep.plain rfl (fun H1 hH=>by exact(by exact bH rfl sizeOf3 rfl rfl rfl ((hH _ rfl).trans rfl) rfl rfl (aP7 rfl) rfl rfl))) rfl ?_;refine cN (r:=⟨_,some [2],[]⟩) (DStep.plain rfl (fun H1 hH=>by exact(by exact bG rfl qO rfl ((hH _ rfl).trans rfl) rfl rfl))) rfl ?_;refine cN (r:=⟨_,some [2],[_]⟩) (DStep.plain rfl (fun H1 hH=>by exact(by exact bH rfl sizeOf9 rfl rfl rfl ((hH _ rfl).trans rfl) rfl rfl (aP7 rfl) rfl rfl))) rfl ?_;refine GD ⟨⟨by kernel_rfl,by kernel_rfl,by kernel_rfl⟩,fun hF=>?_⟩;simp only[TY,true_and,and_true]at hF;refine Sq ?_;have f11:=hF;refine gR.ent (E':=[(0,sv (ofL t)),(2,.ref 2 0 0 0),(3,.ref 3 0 0 0),(4,.ref 4 0 0 0)]) (H':=[(980,UV L11),(4,inO),(3,eOJ 0),(2,rOJ ⟨V1,V2,V3,V4,V5,V6,ED,V8,decide (V9=OM),V10,V11,zS,⟨sNil,sNil,[],[],zS⟩⟩)]) (dA.wk (Eb<|Ea<|Ea<|Ea<|trivial) (Hb<|Ha<|Hb<|Hb<|trivial) ⟨rfl,rfl,trivial⟩) ?_;refine fU ?_;refine gS rfl rfl rfl (by exact aK rfl eB rfl rfl rfl rfl rfl) ?_;refine TL rfl rfl rfl (by exact eE rfl rfl call51 rfl (((aAU L11 (by omega)).tot t12 rfl (fB _)).mono (PP':=fun ch H'=>tB t=false/\ch=D7/\∃q,H'=lD q++_) (fun _ _ h=>h) (fun ch H' ⟨e,e2,e3⟩=>⟨n12 e,e2,e3⟩))) (fun ch H' h=>by obtain ⟨e,e2,q,rfl⟩:=h;exact pO hb e e2 rfl rfl ⟨_,rfl,R0 _⟩ ⟨_,rfl,RZ _⟩) (fun h58=>?_);refine gS rfl rfl rfl (by exact bG rfl kC rfl rfl rfl rfl) ?_;refine aGA rfl rfl (by exact lI rfl sizeOf25 rfl rfl rfl rfl rfl rfl rfl (aP7 rfl) rfl rfl) ?_;refine KM ?_;refine Sq ?_
 refine gR.ent (E':=[(0,sv (ofL t)),(2,.ref 2 0 0 0),(3,.ref 3 0 0 0),(4,.ref 4 0 0 0)]) (H':=[(980,UV L12),(4,inO),(3,eOJ 0),(2,rOJ ⟨V1,V2,V3,V4,V5,V6,ED,V8,decide (V9=OM),V10,V11,V12,⟨sNil,sNil,[],[],zS⟩⟩)]) (dA.wk (Eb<|Ea<|Ea<|Ea<|trivial) (Hb<|Ha<|Hb<|Hb<|trivial) ⟨rfl,rfl,trivial⟩) ?_;refine vF (fun ch H1 H2=>tB t=false/\ch=D7/\∃q,H2=lD q++H1) [2,3] [2,3] [] rfl follows (fun ch E1 H1 H2 hts hsh hks ⟨e,e2,q,e3⟩=>by subst e3;obtain ⟨o2,k1,k2⟩:=hsh 2 (by simp) _ rfl;obtain ⟨o3,k3,k4⟩:=hsh 3 (by simp) _ rfl;exact pO hb e e2 ((hts 2 (by simp)).trans rfl) ((hts 3 (by simp)).trans rfl) ⟨o2,k1,J6 k2⟩ ⟨o3,k3,CO k4⟩) ?_;refine cN (r:=⟨_,some [4],[]⟩) (DStep.plain rfl (fun H1 hH=>by exact(by exact aK rfl eB rfl ((hH _ rfl).trans rfl) rfl rfl rfl))) rfl ?_;refine sG (r:=⟨_,some [980],lD L13⟩) (.pan rfl (fun H1 hH=>by exact eE rfl rfl lF rfl (((wR L12 (by omega)).tot t13 ((hH 980 rfl).trans rfl) (fB _)).mono (PP':=fun ch H'=>tB t=false/\ch=D7/\∃q,H'=lD q++_) (fun _ _ h=>h) (fun ch H' ⟨e,e2,e3⟩=>⟨n13 e,e2,e3⟩)))) rfl ?_;refine cN (r:=⟨_,some [4],[]⟩) (DStep.plain rfl (fun H1 hH=>by exact(by exact aK rfl eB rfl ((hH _ rfl).trans rfl) rfl rfl rfl))) rfl ?_;refine sG (r:=⟨_,some [980],lD L14⟩) (.pan rfl (fun H1 hH=>by exact eE rfl rfl lF rfl (((wR L13 (by omega)).tot t14 ((hH 980 rfl).trans rfl) (fB _)).mono (PP':=fun ch H'=>tB t=false/\ch=D7/\∃q,H'=lD q++_) (fun _ _ h=>h) (fun ch H' ⟨e,e2,e3⟩=>⟨n14 e,e2,e3⟩)))) rfl ?_;refine cN (r:=⟨_,some [4],[]⟩) (DStep.plain rfl (fun H1 hH=>by exact(by exact aK rfl eB rfl ((hH _ rfl).trans rfl) rfl rfl rfl))) rfl ?_;refine cN (r:=⟨_,some [4],[]⟩) (DStep.plain rfl (fun H1 hH=>by exact(by exact aK rfl eB rfl ((hH _ rfl).trans rfl) rfl rfl rfl))) rfl ?_;refine cN (r:=⟨_,some [],[]⟩) (DStep.plain rfl (fun H1 hH=>by exact nJ rfl rfl)) rfl ?_;refine sG (r:=⟨_,some [980],lD L15⟩) (.pan rfl (fun H1 hH=>by exact eE rfl rfl A9 rfl (((SV L14 (by omega)).tot t15 ((hH 980 rfl).trans rfl) (fB _)).mono (PP':=fun ch H'=>tB t=false/\ch=D7/\∃q,H'=lD q++_) (fun _ _ h=>h) (fun ch H' ⟨e,e2,e3⟩=>⟨n15 e,e2,e3⟩)))) rfl ?_;refine cN (r:=⟨_,some [4],[]⟩) (DStep.plain rfl (fun H1 hH=>by exact(by exact aK rfl eB rfl ((hH _ rfl).trans rfl) rfl rfl rfl))) rfl ?_;refine cN (r:=⟨_,some [4],[]⟩) (DStep.plain rfl (fun H1 hH=>by exact gJ rfl rfl)) rfl ?_;refine sG (r:=⟨_,some [980,4],lD L16⟩) (.pan rfl (fun H1 hH=>by exact eE rfl rfl call52 rfl (((aID L15 (by omega)).tot t16 ((hH 980 rfl).trans rfl) (N1.sub ⟨(hH 4 rfl).trans rfl,trivial⟩)).mono (PP':=fun ch H'=>tB t=false/\ch=D7/\∃q,H'=lD q++_) (fun _ _ h=>h) (fun ch H' ⟨e,e2,e3⟩=>⟨n16 e,e2,e3⟩)))) rfl ?_;refine cN (r:=⟨_,some [],[]⟩) (DStep.plain rfl (fun H1 hH=>by exact JW rfl aLT rfl rfl)) rfl ?_;refine cN (r:=⟨_,some [2],[]⟩) (DStep.plain rfl (fun H1 hH=>by exact(by exact bG rfl eU rfl ((hH _ rfl).trans rfl) rfl rfl))) rfl ?_;refine cN (r:=⟨_,some [2],[_]⟩) (DStep.plain rfl (fun H1 hH=>by exact(by exact lI rfl sizeOf28 rfl rfl rfl rfl ((hH _ rfl).trans rfl) rfl rfl (aP7 rfl) rfl rfl))) rfl ?_
 refine GD ⟨⟨by kernel_rfl,by kernel_rfl,by kernel_rfl⟩,fun hF=>?_⟩;simp only[TY,true_and,and_true]at hF;refine Sq ?_;have f16:=hF;refine gR.ent (E':=[(0,sv (ofL t)),(2,.ref 2 0 0 0),(3,.ref 3 0 0 0),(4,.ref 4 0 0 0)]) (H':=[(980,UV L16),(4,inO),(3,eOJ 0),(2,rOJ ⟨V1,V2,V3,V4,V5,V6,ED,V8,decide (V9=OM),V10,V11,V12,⟨V13,V14,V15,V16,zS⟩⟩)]) (dA.wk (Eb<|Ea<|Ea<|Ea<|trivial) (Hb<|Ha<|Hb<|Hb<|trivial) ⟨rfl,rfl,trivial⟩) ?_;refine fU ?_;refine gS rfl rfl rfl (by exact aK rfl eB rfl rfl rfl rfl rfl) ?_;refine TL rfl rfl rfl (by exact eE rfl rfl call51 rfl (((aAU L16 (by omega)).tot t17 rfl (fB _)).mono (PP':=fun ch H'=>tB t=false/\ch=D7/\∃q,H'=lD q++_) (fun _ _ h=>h) (fun ch H' ⟨e,e2,e3⟩=>⟨n17 e,e2,e3⟩))) (fun ch H' h=>by obtain ⟨e,e2,q,rfl⟩:=h;exact pO hb e e2 rfl rfl ⟨_,rfl,R0 _⟩ ⟨_,rfl,RZ _⟩) (fun h74=>?_);refine gS rfl rfl rfl (by exact bG rfl eU rfl rfl rfl rfl) ?_;refine gS rfl rfl rfl (by exact bG rfl lR rfl rfl rfl rfl) ?_;refine aGA rfl rfl (by exact lI rfl sizeOf25 rfl rfl rfl rfl rfl rfl rfl (aP7 rfl) rfl rfl) ?_;refine KM ?_;refine Sq<|Sq ?_;refine gR.ent (E':=[(0,sv (ofL t)),(2,.ref 2 0 0 0),(3,.ref 3 0 0 0),(4,.ref 4 0 0 0)]) (H':=[(980,UV L17),(4,inO),(3,eOJ 0),(2,rOJ ⟨V1,V2,V3,V4,V5,V6,ED,V8,decide (V9=OM),V10,V11,V12,⟨V13,V14,V15,V16,V17⟩⟩)]) (dA.wk (Eb<|Ea<|Ea<|Ea<|trivial) (Hb<|Ha<|Hb<|Hb<|trivial) ⟨rfl,rfl,trivial⟩) ?_;have hokt:=yes h16 f4.1 f4.2.1 f4.2.2.1 f4.2.2.2 f6.1 f6.2 h39 f11.1 f11.2.1 f11.2.2.1 f11.2.2.2 h58 f16.1 f16.2.1 f16.2.2.1 f16.2.2.2 h74;have hg1:kA t=if TX=(ofL t,0)then(⟨V1,V2,V3,V4,V5,V6,ED,V8,decide (V9=OM),V10,V11,V12,⟨V13,V14,V15,V16,V17⟩⟩,0)else(zR,5):=by rw[hg0];by_cases e:TX=(ofL t,0);rw[aPT ⟨hokt,e⟩,aPT e];rw[aPS (fun h=>e h.2),aPS e]
 refine Rg<|Dd (pU bQ aQ)<|Dd (by exact aA rfl rfl aPH rfl (htx _))<|Dd aE<|Dd fS<|Dd fS<|Dd aL<|Dd aL<|Zz<|Sq ?_;refine aT (t:=88) (n:=8) (X:=!decide (TX.2=0)||!decide (TX.1=ofL t)) ?_ ?_
 ·all_goals refine Dd aE ?_
  all_goals refine Dd xY<|Dm ?_
  all_goals refine Sp 84 (fun h84=>?_) fun h84=>?_
  all_goals try contradiction
  all_goals first|refine Fo<|Fo<|Fo ?_|refine On aE<|On aE<|On IU ?_
  all_goals refine Dd cG<|Zz ?_
  all_goals(exact⟨⟨_,rfl,by(rw[h84];rfl)⟩,rfl,rfl,rfl⟩)
 refine Cn ?_ ?_<;>intro hc1
 ·have hne:TX≠(ofL t,0):=by have:=hc1;rintro rfl;simp at this
  refine Sr<|Dd (vC W1)<|Uu (lG aQ)<|Uu (lG sizeOf41)<|Zz<|aB ?_;exact PU (by rw[hg1,aPS hne]) (dA.wk (Ea<|Ea<|trivial) (Hb<|Hb<|trivial) ⟨rfl,rfl,trivial⟩)
 have heq:TX=(ofL t,0):=by have:=hc1;rw[aPg,Bool.not_eq_false',Bool.not_eq_false',aP1,aP1]at this;exact Prod.ext this.2 this.1
 refine aC<|Sr<|Dd (pU bQ aQ)<|Uu (lG aQ)<|Uu (lG sizeOf41)<|Zz<|aB ?_;exact PU (by rw[hg1,aPT heq]) (dA.wk (Ea<|Ea<|trivial) (Hb<|Hb<|trivial) ⟨rfl,rfl,trivial⟩)
end Go.Proofs.YtmdicgjnmfolfaaGreatDoor
namespace Go.Proofs.YtmdicgjnmfolfaaGreatDoor
open Go.Proofs.Tryz
open Go.Abs Go.Lib
theorem jN{α:Type}{f:List UInt8->Option (α×List UInt8)}{d:α}{l:List UInt8}{p:α×List UInt8}(h:f l=some p):G9 f d l=p:=by rw[G9,h];rfl
theorem ZK{l:List GEdit}(h:(iK l).2=true):(mT (iK l).1).1=l:=by
 rw[iK]at h |-
 split at h
 ·next h0 =>
  rw[aPT h0,List.eq_nil_of_length_eq_zero h0]
  kernel_rfl
 next h0 =>
 rw[aPS h0];exact congrArg Prod.fst (IX (aPQ h))
theorem aDJ(b:Bool):decide (aV (if b then 1 else 0)=OM)=b:=by cases b<;>kernel_rfl
def aGx(r:GRec):List ByteArray:=[]
def aGy(r:GRec):List ByteArray:=fI (.z r.priv.sl.idx r.priv.sl.sig r.priv.sl.path)++aGx r
def aGz(r:GRec):List ByteArray:=fI (.p r.priv.trace)++aGy r
def aHA(r:GRec):List ByteArray:=aV (r.priv.sources.length:Int)::(r.priv.sources++aGz r)
def aHB(r:GRec):List ByteArray:=r.priv.reason::aHA r
def aHC(r:GRec):List ByteArray:=r.priv.name::aHB r
def aHD(r:GRec):List ByteArray:=fI (.z r.sl.idx r.sl.sig r.sl.path)++aHC r
def aHE(r:GRec):List ByteArray:=r.from'::aHD r
def aHF(r:GRec):List ByteArray:=aV r.order::aHE r
def sf9(r:GRec):List ByteArray:=(aV (if r.yes then 1 else 0))::aHF r
def sf8(r:GRec):List ByteArray:=r.target::sf9 r
def sf7(r:GRec):List ByteArray:=(iK r.edits).1::sf8 r
def sf6(r:GRec):List ByteArray:=aV (r.parents.length:Int)::(r.parents++sf7 r)
def sf5(r:GRec):List ByteArray:=r.branch::sf6 r
def sf4(r:GRec):List ByteArray:=aV r.clock::sf5 r
def sf3(r:GRec):List ByteArray:=aV r.number::sf4 r
def sf2(r:GRec):List ByteArray:=aV r.author::sf3 r
def sf1(r:GRec):List ByteArray:=aV r.kind::sf2 r
def sf0(r:GRec):List ByteArray:=UT::sf1 r
theorem aLX(r:GRec):tO r=sf0 r:=by simp[tO,nG,rS,FE,E7,fI,sf0,sf1,sf2,sf3,sf4,sf5,sf6,sf7,sf8,sf9,aHF,aHE,aHD,aHC,aHB,aHA,aGz,aGy,aGx]
theorem aBl{r:GRec}(h:VF r):tB (aO (tO r))=true/\FC (aO (tO r))=r:=by
 have hk:=CY h.k;have hau:=h.au;have hnu:=h.nu;have hcl:=h.cl;have hod:=h.order;have hpl:=h.pal;have hsl:=jF h.sl;have hps:=jF h.psl;have s0:=hsl.i0;have s1:=hsl.i1;have s2:=hsl.sl;have s3:=hsl.pl;have z0:=hps.i0;have z1:=hps.i1;have z2:=hps.sl;have z3:=hps.pl;have hso:=h.sol;have htr:=h.trl;have hbr:=HM h.br;have htx:=K4 h.tx;have hta:=h.target;have hfr:=h.from
 have hnm:=h.nm;have hrs:=h.rs;have hJ:∀ {l:List ByteArray},(∀t∈l,isJ t=true)->∀t∈l,D0 t:=fun hl t ht=>Nat.lt_of_le_of_lt (tJ (hl t ht)) (by decide);rw[aLX];obtain ⟨t,ht⟩:∃t,t=aO (sf0 r):=⟨_,rfl⟩;rw[<-ht];have f0:iW t=some (UT,aO (sf1 r)):=by rw[ht];exact kE _ (show UT.size<1000000000000000000 by decide)
 have q0:p0 t=(UT,aO (sf1 r)):=jN f0;have f1:oC (p0 t).2=some (r.kind,aO (sf2 r)):=by rw[q0];exact kG _ (by omega) (by omega)
 have q1:p1 t=(r.kind,aO (sf2 r)):=jN f1;have f2:oC (p1 t).2=some (r.author,aO (sf3 r)):=by rw[q1];exact kG _ (by omega) (by omega)
 have q2:p2 t=(r.author,aO (sf3 r)):=jN f2;have f3:oC (p2 t).2=some (r.number,aO (sf4 r)):=by rw[q2];exact kG _ (by omega) (by omega)
 have q3:p3 t=(r.number,aO (sf4 r)):=jN f3;have f4:oC (p3 t).2=some (r.clock,aO (sf5 r)):=by rw[q3];exact kG _ (by omega) (by omega)
 have q4:p4 t=(r.clock,aO (sf5 r)):=jN f4;have f5:iW (p4 t).2=some (r.branch,aO (sf6 r)):=by rw[q4];exact kE _ (Nat.lt_of_le_of_lt hbr (by decide))
 have q5:p5 t=(r.branch,aO (sf6 r)):=jN f5;have f6:(vR iW) (p5 t).2=some (r.parents,aO (sf7 r)):=by rw[q5];exact zT _ _ (hJ h.pa) (by omega)
 have q6:p6 t=(r.parents,aO (sf7 r)):=jN f6;have f7:iW (p6 t).2=some ((iK r.edits).1,aO (sf8 r)):=by rw[q6];exact kE _ (Nat.lt_of_le_of_lt htx (by decide))
 have q7:p7 t=((iK r.edits).1,aO (sf8 r)):=jN f7;have f8:iW (p7 t).2=some (r.target,aO (sf9 r)):=by rw[q7];exact kE _ (Nat.lt_of_le_of_lt hta (by decide))
 have q8:p8 t=(r.target,aO (sf9 r)):=jN f8;have f9:iW (p8 t).2=some ((aV (if r.yes then 1 else 0)),aO (aHF r)):=by rw[q8];exact kE _ (JC (by split<;>decide) (by split<;>decide))
 have q9:p9 t=((aV (if r.yes then 1 else 0)),aO (aHF r)):=jN f9;have f10:oC (p9 t).2=some (r.order,aO (aHE r)):=by rw[q9];exact kG _ (by omega) (by omega)
 have q10:OB t=(r.order,aO (aHE r)):=jN f10;have f11:iW (OB t).2=some (r.from',aO (aHD r)):=by rw[q10];exact kE _ (Nat.lt_of_le_of_lt hfr (by decide))
 have q11:OA t=(r.from',aO (aHD r)):=jN f11;have f12:RX (OA t).2=some (r.sl,aO (aHC r)):=by rw[q11];exact LH _ _ s0 (by omega) (hJ hsl.sa) (hJ hsl.pa) (by omega) (by omega)
 have q12:N9 t=(r.sl,aO (aHC r)):=jN f12;have f13:iW (N9 t).2=some (r.priv.name,aO (aHB r)):=by rw[q12];exact kE _ (Nat.lt_of_le_of_lt hnm (by decide))
 have q13:N8 t=(r.priv.name,aO (aHB r)):=jN f13;have f14:iW (N8 t).2=some (r.priv.reason,aO (aHA r)):=by rw[q13];exact kE _ (Nat.lt_of_le_of_lt hrs (by decide))
 have q14:N7 t=(r.priv.reason,aO (aHA r)):=jN f14;have f15:(vR iW) (N7 t).2=some (r.priv.sources,aO (aGz r)):=by rw[q14];exact zT _ _ (fun x hx=>Nat.lt_of_le_of_lt (h.so x hx) (by decide)) (by omega)
 have q15:N6 t=(r.priv.sources,aO (aGz r)):=jN f15;have f16:(vR HC) (N6 t).2=some (r.priv.trace,aO (aGy r)):=by rw[q15];exact Y3 _ _ (fun q hq=>by obtain ⟨⟨a1,a2⟩,a3,a4⟩:=h.tr q hq;exact⟨⟨by omega,by omega⟩,by omega,by omega⟩) (by omega)
 have q16:N5 t=(r.priv.trace,aO (aGy r)):=jN f16;have f17:RX (N5 t).2=some (r.priv.sl,aO (aGx r)):=by rw[q16];exact LH _ _ z0 (by omega) (hJ hps.sa) (hJ hps.pa) (by omega) (by omega)
 have q17:p17 t=(r.priv.sl,aO (aGx r)):=jN f17;constructor
 ·unfold tB SO;rw[f0,f1,f2,f3,f4,f5,f6,f7,f8,f9,f10,f11,f12,f13,f14,f15,f16,f17];rfl
 unfold FC;rw[q1,q2,q3,q4,q5,q6,q7,q8,q9,q10,q11,q12,q13,q14,q15,q16,q17,ZK h.tx,aDJ]
theorem YJ{r:GRec}{t:List UInt8}(h:pX r=(ofL t,0)):kA t=(r,0):=by
 have h0:=h;rw[pX]at h;by_cases hv:eL r=true
 ·rw[aPT hv]at h
  split at h
  ·cases h
  next hl =>
  have ht:t=aO (tO r):=by
   have:=congrArg (fun p:ByteArray×Int=>p.1.data.toList) h;simp only[dC]at this;exact this.symm
  obtain ⟨h1,h2⟩:=aBl (lZ hv);rw[<-ht]at h1 h2 hl;rw[kA,aPS hl,h2,aPT ⟨h1,h0⟩]
 rw[aPS hv]at h;cases h
end Go.Proofs.YtmdicgjnmfolfaaGreatDoor
namespace Go.Proofs.YtmdicgjnmfolfaaGreatDoor
open Go.Proofs.Tryz
open Go.Abs
variable{α:Type}{i:Nat}{a b:GEdit}
def ZT(e:GEdit):Bool:=((decide (300<IntKind.i64.wrap (IntKind.i64.wrap (IntKind.i64.wrap ((e.id.size:Int)+(e.other.size:Int))+(e.node.size:Int))+(e.key.size:Int)))||decide (600<(e.val.size:Int)))||decide (40<((e.refs.map encStr).length:Int)))||DW e.obj 40
def A0(e:GEdit):Bool:=ZT e||e.refs.any (AS 300)
def wW(l:List GEdit)(n:Int):Bool:=decide ((l.length:Int)<=n)&&!l.any A0
theorem aIU(l:List GEdit)(n:Int)(H:aH)(hl:l.length<4611686018427387904)(ho:∀e,e∈l->aJO e.obj/\e.refs.length<4611686018427387904):
  aI Tryz.prog 107 [.pv (iF l),iv n] H (fun r H'=>r=bv (wW l n)/\H'=H):=by
 refine Pu ?_;have hml:(l.map aW).length=l.length:=aPU _;have hB:wW l n=(decide (((l.map aW).length:Int)<=n)&&!l.any A0):=by rw[wW,hml]
 refine Bd func107 rfl ntmps107<|Sr<|Dd aL<|Zz<|Sq<|Sr<|Dd aL<|Zz<|aG ?_;refine bT (σ:=Nat) (fun k=>([(0,.pv (iF l)),(1,iv n),(5,iv (k:Int))],[])) (fun k=>k<=l.length/\∀j,j<k->∀b,l[j]?=some b->A0 b=false) (fun k=>l.length - k) 0 ⟨by omega,by omega⟩ ?_ ?_
 ·exact Wk
 rintro k ⟨hk,hno⟩;refine Sq<|Sq ?_;refine aT (t:=17) (n:=11) (X:=decide ((k:Int)<((l.map aW).length:Int))&&decide (((l.map aW).length:Int)<=n)) ?_ ?_
 ·all_goals refine Dd aE ?_
  all_goals refine Dd aE<|Dd (fE cX)<|Dd cZ<|Dm ?_
  all_goals refine Sp 12 (fun h12=>?_) fun h12=>?_
  all_goals try contradiction
  all_goals first|refine Fo<|Fo<|Fo<|Fo ?_|refine On aE<|On (fE cX)<|On aE<|On GQ ?_
  all_goals refine Dd cG<|Zz ?_
  all_goals(exact⟨⟨_,rfl,by(rw[h12];rfl)⟩,rfl,rfl,rfl⟩)
 refine Cn ?_ ?_<;>intro hc1
 ·have h:=hc1;rw[aP3,aP1]at h;have hlt:k<l.length:=by have:=h.1;omega
  obtain ⟨e,hel⟩:=aU hlt;have hi:=cJ (f:=aW) hel;obtain ⟨ho1,ho2⟩:=ho e (aP4 hel);have hrl:(e.refs.map encStr).length=e.refs.length:=aPU _;obtain ⟨w,hw⟩:∃w,w=IntKind.i64.wrap (IntKind.i64.wrap (IntKind.i64.wrap ((e.id.size:Int)+(e.other.size:Int))+(e.node.size:Int))+(e.key.size:Int)):=⟨_,rfl⟩;have hbh:ZT e=(((decide (300<w)||decide (600<(e.val.size:Int)))||decide (40<((e.refs.map encStr).length:Int)))||!!DW e.obj 40):=by rw[ZT,<-hw,Bool.not_not]
  refine aC<|Sq<|aG<|Sr<|Dd aE<|Dd aE<|Dd (mE RU)<|Dd (by exact dN rfl cA aX rfl (by omega) (by simp only[Zl,bJ,bS,encStr,aW,jH];rfl) rfl)<|Dd (by exact bW (id:=6) rfl O0 rfl rfl)<|Uu (lG aX)<|Zz<|Sq<|Sq ?_;refine aT (t:=57) (n:=37) (X:=((decide (300<w)||decide (600<(e.val.size:Int)))||decide (40<((e.refs.map encStr).length:Int)))||!!DW e.obj 40) ?_ ?_
  ·all_goals refine Dd (aS gP) ?_
   all_goals refine Dd (bC isAgg9)<|Dd (jV underlying9)<|Dd (aS gV)<|Dd (bC isAgg9)<|Dd (jV underlying9)<|Dd (by exact bZ rfl rfl rfl rfl)<|Dd (aS lU)<|Dd (bC isAgg9)<|Dd (jV underlying9)<|Dd (by exact bZ rfl rfl rfl rfl)<|Dd (aS jR)<|Dd (bC isAgg9)<|Dd (jV underlying9)<|Dd (by exact bZ rfl rfl rfl (hw.symm))<|Dd iE<|Dm ?_
   all_goals refine Sp 40 (fun h40=>?_) fun h40=>?_
   all_goals try contradiction
   all_goals first|refine Fo<|Fo<|Fo<|Fo ?_|refine On (aS kD)<|On (bC isAgg9)<|On (jV underlying9)<|On iE ?_
   all_goals refine Dd cG<|Dm ?_
   all_goals refine Sp 46 (fun h46=>?_) fun h46=>?_
   all_goals try contradiction
   all_goals first|refine Fo<|Fo<|Fo<|Fo ?_|refine On (aS eV)<|On (bC aF)<|On (fE aD)<|On iE ?_
   all_goals refine Dd cG<|Dm ?_
   all_goals refine Sp 52 (fun h52=>?_) fun h52=>?_
   all_goals try contradiction
   all_goals first|refine Fo<|Fo<|Fo<|Fo ?_|refine On (aS nT)<|On (pU cW sizeOf151)<|On (by exact aA rfl rfl call145 rfl (aIV e.obj 40 _ ho1))<|On iQ ?_
   all_goals refine Dd cG<|Zz ?_
   all_goals(exact⟨⟨_,rfl,by first|(rw[h40];rfl)|(rw[h40,h46];rfl)|(rw[h40,h46,h52];rfl)⟩,rfl,rfl,rfl⟩)
  refine Cn ?_ ?_<;>intro hc2
  ·have hb:A0 e=true:=by rw[A0,hbh,hc2];rfl
   have hf:wW l n=false:=by rw[wW,yN (p:=A0) hel hb];simp
   rw[hf];exact Sr<|Dd aL<|Zz<|aB<|Rt<|Qq
  refine aC<|Sr<|Dd aL<|Zz<|aG ?_;refine bT (σ:=Nat) (fun q=>([(0,.pv (iF l)),(1,iv n),(5,iv (k:Int)),(6,.ref 6 0 0 0),(7,iv (q:Int))],[(6,bx 15 153 ((aW e).map .pv))])) (fun q=>q<=e.refs.length/\∀j,j<q->∀b,e.refs[j]?=some b->AS 300 b=false) (fun q=>e.refs.length - q) 0 ⟨by omega,by omega⟩ ?_ ?_
  ·exact Wk
  rintro q ⟨hq,hnr⟩;refine Sq<|Sr<|Dd aE<|Dd (aS eV)<|Dd (bC aF)<|Dd (fE aD)<|Dd cZ<|Zz ?_;refine Cn ?_ ?_<;>intro hc3
  ·have hql:q<e.refs.length:=by have:=aPQ hc3;omega
   obtain ⟨s,hs⟩:=aU hql;have hi2:=cJ (f:=encStr) hs;refine aC<|Sq<|aG<|Sr<|Dd (aS eV)<|Dd (bC aF)<|Dd aE<|Dd (by exact bP rfl cB rfl rfl (by omega) (by exact aP5 _) hi2 rfl)<|Dd (iJ isAgg9)<|Dd (jV underlying9)<|Dd iE<|Zz ?_;refine Cn ?_ ?_<;>intro hc4
   ·have hb:A0 e=true:=by rw[A0,yN (p:=AS 300) hs hc4,Bool.or_true]
    have hf:wW l n=false:=by rw[wW,yN (p:=A0) hel hb];simp
    rw[hf];exact Sr<|Dd aL<|Zz<|aB<|Rt<|Qq
   refine aC<|Rg<|Dd aE<|Dd mI<|Da ?_;exact⟨q+1,⟨by omega,uE (p:=AS 300) hnr hs hc4⟩,by omega,Wk⟩
  have hge:q=e.refs.length:=by have:=aPR hc3;omega
  subst hge;have hb:A0 e=false:=by rw[A0,hbh,hc2,CG hnr];rfl
  refine aY<|Rg<|Dd aE<|Dd mI<|Da ?_;exact⟨k+1,⟨by omega,uE (p:=A0) hno hel hb⟩,by omega,Wk⟩
 refine aY<|Sr<|Dd aE<|Dd (fE cX)<|Dd aE<|Dd GQ<|Dd aL<|Zz<|aB<|Rt ?_;refine⟨?_,rfl⟩;rw[hB];have h:=hc1;rw[Bool.and_eq_false_iff,aP2]at h;rcases h with h|h
 ·have hge:k=l.length:=by omega
  subst hge;rw[CG hno];simp
 rw[h];rfl
theorem F8{a b:List α}{n:Nat}(hl:a.length=b.length)(hn:n=a.length)(h:a.take n=b.take n):a=b:=by rw[List.take_of_length_le (by omega),List.take_of_length_le (by omega)]at h;exact h
theorem yV{a b:List α}{x y:α}(h:a.take i=b.take i)(hx:a[i]?=some x)(hy:b[i]?=some y)(e:x=y):a.take (i+1)=b.take (i+1):=by rw[List.take_add_one,List.take_add_one,h,hx,hy,e]
theorem aAd{a b:List α}{x y:α}(hx:a[i]?=some x)(hy:b[i]?=some y)(e:x≠y):a≠b:=fun h=>by
 subst h;rw[hx]at hy;exact e (Option.some.inj hy)
theorem vU(a b:List ByteArray)(H:aH)(ha:a.length<4611686018427387904)(hb:b.length<4611686018427387904):aI Tryz.prog 88 [.pv (bA a),.pv (bA b)] H (fun r H'=>r=bv (decide (a=b))/\H'=H):=by
 refine Pu ?_;have hma:(a.map encStr).length=a.length:=aPU _;have hmb:(b.map encStr).length=b.length:=aPU _;refine Bd func88 rfl ntmps88<|Sr<|Dd aL<|Zz<|Sq<|Sr<|Dd aE<|Dd (fE aD)<|Dd aE<|Dd (fE aD)<|Dd xY<|Zz ?_;refine Cn ?_ ?_<;>intro hc1
 ·have hne:a≠b:=by have h:=hc1;intro e;subst e;simp at h
  rw[decide_eq_false hne];exact Sr<|Dd aL<|Zz<|aB<|Rt<|Qq
 have hl:a.length=b.length:=by have h:=hc1;simp only[Bool.not_eq_false',aP1]at h;omega
 refine aC<|Sq<|Sr<|Dd aL<|Zz<|aG ?_;refine bT (σ:=Nat) (fun i=>([(0,.pv (bA a)),(1,.pv (bA b)),(5,iv (i:Int))],[])) (fun i=>i<=a.length/\a.take i=b.take i) (fun i=>a.length - i) 0 ⟨by omega,rfl⟩ ?_ ?_
 ·exact Wk
 rintro i ⟨hi,hp⟩;refine Sq<|Sr<|Dd aE<|Dd aE<|Dd (fE aD)<|Dd cZ<|Zz ?_;refine Cn ?_ ?_<;>intro hc2
 ·have hil:i<a.length:=by have:=aPQ hc2;omega
  obtain ⟨s,hs⟩:=aU hil;obtain ⟨u,hu⟩:=aU (show i<b.length by omega);have hi1:=cJ (f:=encStr) hs;have hi2:=cJ (f:=encStr) hu;refine aC<|Sq<|aG<|Sq<|aN follows<|Cq aE<|Cq aE<|Cq (by exact bP rfl cB rfl rfl (by omega) (by exact aP5 _) hi1 rfl)<|Cq (iJ isAgg9 (hi:=hi1))<|Cq aE<|Cq aE<|Cq (by exact bP rfl cB rfl rfl (by omega) (by exact aP5 _) hi2 rfl)<|Cq (iJ isAgg9 (hi:=hi2))<|Cq IU<|bL<|Kr ?_;refine Cn ?_ ?_<;>intro hc3
  ·have hne:s≠u:=by have h:=hc3;intro e;subst e;simp at h
   rw[decide_eq_false (aAd hs hu hne)];exact Sr<|Dd aL<|Zz<|aB<|Rt<|Qq
  have heq:s=u:=by have h:=hc3;simpa using h
  refine aC<|Rg<|Dd aE<|Dd (by exact bZ rfl rfl rfl (show IntKind.i64.wrap ((i:Int)+1)=((i+1:Nat):Int)by rw[kK (by omega) (by omega)];omega))<|Da ?_;exact⟨i+1,⟨by omega,yV hp hs hu heq⟩,by omega,Wk⟩
 have hge:i=a.length:=by have:=aPR hc2;omega
 rw[decide_eq_true (F8 hl hge hp)];exact aY<|Sr<|Dd aL<|Zz<|aB<|Rt<|Qq
def VC(s:GSeal):Prop:=s.sig.length<4611686018427387904/\s.path.length<4611686018427387904
theorem FP{s:GSeal}(h:rG s):VC s:=⟨by have:=h.2.1.1;omega,by have:=h.2.2.1;omega⟩
theorem D1(a b:GSeal)(H:aH)(ha:VC a)(hb:VC b):aI Tryz.prog 31 [av (gW a),av (gW b)] H (fun r H'=>r=bv (decide (a=b))/\H'=H):=by
 refine aI.pure ?_ (by simp[gW]) H;have hs1:=fun H=>vU a.sig b.sig H ha.1 hb.1;have hs2:=fun H=>vU a.path b.path H ha.2 hb.2;have hX:decide (a=b)=((decide (a.idx=b.idx)&&decide (a.sig=b.sig))&&decide (a.path=b.path)):=by
  obtain ⟨a1,a2,a3⟩:=a;obtain ⟨b1,b2,b3⟩:=b;rw[Bool.eq_iff_iff];simp[and_assoc]
 rw[hX];refine Bd func31 rfl ntmps31<|Sr<|Dd (by exact cD (id:=2) rfl rfl rfl rfl rfl)<|Dd (by exact cD (id:=3) rfl rfl rfl rfl rfl)<|Dd aL<|Zz<|Sq ?_;refine aT (t:=4) (n:=22) (X:=(decide (a.idx=b.idx)&&decide (a.sig=b.sig))&&decide (a.path=b.path)) ?_ ?_
 ·all_goals refine Dd (aS jG) ?_
  all_goals refine Dd (bC isAgg3)<|Dd (aS jG)<|Dd (bC isAgg3)<|Dd cK<|Dm ?_
  all_goals refine Sp 10 (fun h10=>?_) fun h10=>?_
  all_goals try contradiction
  all_goals first|refine Fo<|Fo<|Fo<|Fo<|Fo ?_|refine On (aS iS)<|On (bC aF)<|On (aS iS)<|On (bC aF)<|On (by exact aA rfl rfl aG3 rfl (hs1 _)) ?_
  all_goals refine Dd cG<|Dm ?_
  all_goals refine Sp 17 (fun h17=>?_) fun h17=>?_
  all_goals try contradiction
  all_goals first|refine Fo<|Fo<|Fo<|Fo<|Fo ?_|refine On (aS mN)<|On (bC aF)<|On (aS mN)<|On (bC aF)<|On (by exact aA rfl rfl aG3 rfl (hs2 _)) ?_
  all_goals refine Dd cG<|Da ?_
  all_goals(exact⟨⟨_,rfl,by first|(rw[h10];rfl)|(rw[h10,h17];rfl)⟩,rfl,rfl,rfl⟩)
 exact aB<|Rt<|Qq
def SA(a b:GPriv):Bool:=((decide (a.name=b.name)&&decide (a.reason=b.reason))&&decide (a.sources=b.sources))&&decide (a.trace=b.trace)
def aH3(a b:GPriv):Bool:=((!decide (a.name=b.name)||!decide (a.reason=b.reason))||!decide (a.sources=b.sources))||!decide (((a.trace.map fM).length:Int)=((b.trace.map fM).length:Int))
theorem N3(a b:GPriv)(H:aH)(ha:a.sources.length<4611686018427387904)(hb:b.sources.length<4611686018427387904)(hat:a.trace.length<4611686018427387904):aI Tryz.prog 27 [av (jS a),av (jS b)] H (fun r H'=>r=bv (SA a b)/\H'=H):=by
 refine aI.pure ?_ (by simp[jS]) H;have hma:(a.trace.map fM).length=a.trace.length:=aPU _;have hmb:(b.trace.map fM).length=b.trace.length:=aPU _;have hs1:=fun H=>vU a.sources b.sources H ha hb;have hX:aH3 a b=(((!decide (a.name=b.name)||!decide (a.reason=b.reason))||!decide (a.sources=b.sources))||!decide (((a.trace.map fM).length:Int)=((b.trace.map fM).length:Int))):=rfl;refine Bd func27 rfl ntmps27<|Sr<|Dd (by exact cD (id:=2) rfl rfl rfl rfl rfl)<|Dd (by exact cD (id:=3) rfl rfl rfl rfl rfl)<|Dd aL<|Zz<|Sq<|Sq ?_;refine aT (t:=34) (n:=32) (X:=aH3 a b) ?_ ?_
 ·all_goals refine Dd (aS wV) ?_
  all_goals refine Dd (bC isAgg9)<|Dd (aS wV)<|Dd (bC isAgg9)<|Dd IU<|Dm ?_
  all_goals refine Sp 11 (fun h11=>?_) fun h11=>?_
  all_goals try contradiction
  all_goals first|refine Fo<|Fo<|Fo<|Fo<|Fo ?_|refine On (aS wU)<|On (bC isAgg9)<|On (aS wU)<|On (bC isAgg9)<|On IU ?_
  all_goals refine Dd cG<|Dm ?_
  all_goals refine Sp 18 (fun h18=>?_) fun h18=>?_
  all_goals try contradiction
  all_goals first|refine Fo<|Fo<|Fo<|Fo<|Fo<|Fo ?_|refine On (aS qQ)<|On (bC aF)<|On (aS qQ)<|On (bC aF)<|On (by exact aA rfl rfl aG3 rfl (hs1 _))<|On iQ ?_
  all_goals refine Dd cG<|Dm ?_
  all_goals refine Sp 26 (fun h26=>?_) fun h26=>?_
  all_goals try contradiction
  all_goals first|refine Fo<|Fo<|Fo<|Fo<|Fo<|Fo<|Fo ?_|refine On (aS lS)<|On (bC eT)<|On (fE dI)<|On (aS lS)<|On (bC eT)<|On (fE dI)<|On xY ?_
  all_goals refine Dd cG<|Zz ?_
  all_goals(exact⟨⟨_,rfl,by first|(rw[hX,h11];rfl)|(rw[hX,h11,h18];rfl)|(rw[hX,h11,h18,h26];rfl)⟩,rfl,rfl,rfl⟩)
 refine Cn ?_ ?_<;>intro hc1
 ·have h:=hc1;have hne:SA a b=false:=by
   rw[SA];simp only[aH3,hma,hmb,Bool.or_eq_true,aPd,aP2]at h;simp only[Bool.and_eq_false_iff,aP2];rcases h with((h|h)|h)|h
   ·exact .inl (.inl (.inl h))
   ·exact .inl (.inl (.inr h))
   ·exact .inl (.inr h)
   exact .inr fun e=>h (by rw[e])
  rw[hne];exact Sr<|Dd aL<|Zz<|aB<|Rt<|Qq
 have h:=hc1;simp only[aH3,hma,hmb,aPg,Bool.not_eq_false',aP1]at h;obtain ⟨⟨⟨h1,h2⟩,h3⟩,h4⟩:=h;have hl:a.trace.length=b.trace.length:=by omega
 have hp2:SA a b=decide (a.trace=b.trace):=by rw[SA,decide_eq_true h1,decide_eq_true h2,decide_eq_true h3];rfl
 rw[hp2];refine aC<|Sq<|Sr<|Dd aL<|Zz<|aG ?_;refine bT (σ:=Nat) (fun i=>([(2,.ref 2 0 0 0),(3,.ref 3 0 0 0),(5,iv (i:Int))],[(3,bx 7 28 ((jS b).map .pv)),(2,bx 7 28 ((jS a).map .pv))])) (fun i=>i<=a.trace.length/\a.trace.take i=b.trace.take i) (fun i=>a.trace.length - i) 0 ⟨by omega,rfl⟩ ?_ ?_
 ·exact Wk
 rintro i ⟨hi,hp⟩;refine Sq<|Sr<|Dd aE<|Dd (aS lS)<|Dd (bC eT)<|Dd (fE dI)<|Dd cZ<|Zz ?_;refine Cn ?_ ?_<;>intro hc2
 ·have hil:i<a.trace.length:=by have:=aPQ hc2;omega
  obtain ⟨s,hs⟩:=aU hil;obtain ⟨u,hu⟩:=aU (show i<b.trace.length by omega);have hi1:=cJ (f:=fM) hs;have hi2:=cJ (f:=fM) hu;refine aC<|Sq<|aG<|Sq<|aN follows<|Cq (aS lS)<|Cq (bC eT)<|Cq aE<|Cq (by exact bP rfl LG rfl rfl (by omega) (by exact aP5 _) hi1 rfl)<|Cq (by exact dN rfl dS sizeOf68 rfl hi1 (by simp only[Zl,fM];rfl) rfl)<|Cq (aS lS)<|Cq (bC eT)<|Cq aE<|Cq (by exact bP rfl LG rfl rfl (by omega) (by exact aP5 _) hi2 rfl)<|Cq (by exact dN rfl dS sizeOf68 rfl hi2 (by simp only[Zl,fM];rfl) rfl)<|Cq (by exact xW rfl rfl rfl rfl rfl gZ (R1 _ _ _ _))<|bL<|Kr ?_;refine Cn ?_ ?_<;>intro hc3
  ·have hne:s≠u:=by have h:=hc3;intro e;subst e;simp at h
   rw[decide_eq_false (aAd hs hu hne)];exact Sr<|Dd aL<|Zz<|aB<|Rt<|Qq
  have heq:s=u:=by have h:=hc3;simp at h;exact Prod.ext h.1 h.2
  refine aC<|Rg<|Dd aE<|Dd (by exact bZ rfl rfl rfl (show IntKind.i64.wrap ((i:Int)+1)=((i+1:Nat):Int)by rw[kK (by omega) (by omega)];omega))<|Da ?_;exact⟨i+1,⟨by omega,yV hp hs hu heq⟩,by omega,Wk⟩
 have hge:i=a.trace.length:=by have:=aPR hc2;omega
 rw[decide_eq_true (F8 hl hge hp)];exact aY<|Sr<|Dd aL<|Zz<|aB<|Rt<|Qq
def aCZ(a b:GEdit):Bool:=((((((!decide (a.op=b.op)||!decide (a.id=b.id))||!decide (a.other=b.other))||!decide (a.node=b.node))||!(decide (a.x=b.x)&&decide (a.y=b.y)))||!decide (a.key=b.key))||!decide (a.val=b.val))||!decide (((a.refs.map encStr).length:Int)=((b.refs.map encStr).length:Int))
def WN(a b:GEdit):Bool:=(((((((decide (a.op=b.op)&&decide (a.id=b.id))&&decide (a.other=b.other))&&decide (a.node=b.node))&&(decide (a.x=b.x)&&decide (a.y=b.y)))&&decide (a.key=b.key))&&decide (a.val=b.val))&&decide (a.refs=b.refs))&&qL a.obj b.obj
theorem GB:WN a b=true↔a=b:=by obtain ⟨a1,a2,a3,a4,a5,a6,a7,a8,a9,a10⟩:=a;obtain ⟨b1,b2,b3,b4,b5,b6,b7,b8,b9,b10⟩:=b;simp only[WN,aP3,aP1,AB,GEdit.mk.injEq,and_assoc]
theorem aI1(h:aCZ a b=true):WN a b=false:=by
 cases e:WN a b with
 |false=>rfl
 |true =>
  have:=GB.1 e;subst this;simp[aCZ]at h
theorem aFY(h:aCZ a b=false):a.refs.length=b.refs.length/\∀r:Bool,(decide (a.refs=b.refs)&&qL a.obj b.obj)=r->WN a b=r:=by simp only[aCZ,aPg,Bool.not_eq_false',aP1,aP3,aPU]at h;obtain ⟨⟨⟨⟨⟨⟨⟨h1,h2⟩,h3⟩,h4⟩,h5,h6⟩,h7⟩,h8⟩,h9⟩:=h;refine⟨by omega,fun r hr=>?_⟩;rw[WN,decide_eq_true h1,decide_eq_true h2,decide_eq_true h3,decide_eq_true h4,decide_eq_true h5,decide_eq_true h6,decide_eq_true h7,decide_eq_true h8];exact hr
theorem aBg(a b:GEdit)(H:aH)(ha:MB a)(hb:MB b):aI Tryz.prog 138 [av (aW a),av (aW b)] H (fun r H'=>r=bv (WN a b)/\H'=H):=by
 refine aI.pure ?_ (by simp[aW]) H;have hra:(a.refs.map encStr).length=a.refs.length:=aPU _;have hrb:(b.refs.map encStr).length=b.refs.length:=aPU _;have hla:=ha.2.1.1;have hlb:=hb.2.1.1;have hX:aCZ a b=(((((((!decide (a.op=b.op)||!decide (a.id=b.id))||!decide (a.other=b.other))||!decide (a.node=b.node))||!(decide (a.x=b.x)&&decide (a.y=b.y)))||!decide (a.key=b.key))||!decide (a.val=b.val))||!decide (((a.refs.map encStr).length:Int)=((b.refs.map encStr).length:Int))):=rfl;have hso:=fun H=>aA2 a.obj b.obj H ha.2.2.2.2.1 ha.2.2.2.1.1;obtain ⟨so,hsoE⟩:∃so,so=qL a.obj b.obj:=⟨_,rfl⟩;have hyes:=fun h=>aFY (a:=a) (b:=b) h;rw[<-hsoE]at hso hyes;clear hsoE;refine Bd func138 rfl ntmps138<|Sr<|Dd (by exact cD (id:=2) rfl rfl rfl rfl rfl)<|Dd (by exact cD (id:=3) rfl rfl rfl rfl rfl)<|Dd aL<|Zz<|Sq<|Sq ?_;refine aT (t:=61) (n:=63) (X:=aCZ a b) ?_ ?_
 ·all_goals refine Dd (aS fZ) ?_
  all_goals refine Dd (bC isAgg3)<|Dd (aS fZ)<|Dd (bC isAgg3)<|Dd xY<|Dm ?_
  all_goals refine Sp 11 (fun h11=>?_) fun h11=>?_
  all_goals try contradiction
  all_goals first|refine Fo<|Fo<|Fo<|Fo<|Fo ?_|refine On (aS gP)<|On (bC isAgg9)<|On (aS gP)<|On (bC isAgg9)<|On IU ?_
  all_goals refine Dd cG<|Dm ?_
  all_goals refine Sp 18 (fun h18=>?_) fun h18=>?_
  all_goals try contradiction
  all_goals first|refine Fo<|Fo<|Fo<|Fo<|Fo ?_|refine On (aS gV)<|On (bC isAgg9)<|On (aS gV)<|On (bC isAgg9)<|On IU ?_
  all_goals refine Dd cG<|Dm ?_
  all_goals refine Sp 25 (fun h25=>?_) fun h25=>?_
  all_goals try contradiction
  all_goals first|refine Fo<|Fo<|Fo<|Fo<|Fo ?_|refine On (aS lU)<|On (bC isAgg9)<|On (aS lU)<|On (bC isAgg9)<|On IU ?_
  all_goals refine Dd cG<|Dm ?_
  all_goals refine Sp 32 (fun h32=>?_) fun h32=>?_
  all_goals try contradiction
  all_goals first|refine Fo<|Fo<|Fo<|Fo<|Fo ?_|refine On (aS gO)<|On (by exact aM rfl dS sizeOf68 rfl rfl rfl rfl (by simp only[Zl,aW];rfl) rfl)<|On (aS gO)<|On (by exact aM rfl dS sizeOf68 rfl rfl rfl rfl (by simp only[Zl,aW];rfl) rfl)<|On (by exact xW rfl rfl rfl rfl rfl gZ (R1 _ _ _ _)) ?_
  all_goals refine Dd cG<|Dm ?_
  all_goals refine Sp 39 (fun h39=>?_) fun h39=>?_
  all_goals try contradiction
  all_goals first|refine Fo<|Fo<|Fo<|Fo<|Fo ?_|refine On (aS jR)<|On (bC isAgg9)<|On (aS jR)<|On (bC isAgg9)<|On IU ?_
  all_goals refine Dd cG<|Dm ?_
  all_goals refine Sp 46 (fun h46=>?_) fun h46=>?_
  all_goals try contradiction
  all_goals first|refine Fo<|Fo<|Fo<|Fo<|Fo ?_|refine On (aS kD)<|On (bC isAgg9)<|On (aS kD)<|On (bC isAgg9)<|On IU ?_
  all_goals refine Dd cG<|Dm ?_
  all_goals refine Sp 53 (fun h53=>?_) fun h53=>?_
  all_goals try contradiction
  all_goals first|refine Fo<|Fo<|Fo<|Fo<|Fo<|Fo<|Fo ?_|refine On (aS eV)<|On (bC aF)<|On (fE aD)<|On (aS eV)<|On (bC aF)<|On (fE aD)<|On xY ?_
  all_goals refine Dd cG<|Zz ?_
  all_goals(exact⟨⟨_,rfl,by first|(rw[hX,h11];rfl)|(rw[hX,h11,h18];rfl)|(rw[hX,h11,h18,h25];rfl)|(rw[hX,h11,h18,h25,h32];rfl)|(rw[hX,h11,h18,h25,h32,h39];rfl)|(rw[hX,h11,h18,h25,h32,h39,h46];rfl)|(rw[hX,h11,h18,h25,h32,h39,h46,h53];rfl)⟩,rfl,rfl,rfl⟩)
 refine Cn ?_ ?_<;>intro hc1
 ·rw[aI1 hc1];exact Sr<|Dd aL<|Zz<|aB<|Rt<|Qq
 obtain ⟨hl,hyes⟩:=hyes hc1;refine aC<|Sq<|Sr<|Dd aL<|Zz<|aG ?_;refine bT (σ:=Nat) (fun i=>([(2,.ref 2 0 0 0),(3,.ref 3 0 0 0),(5,iv (i:Int))],[(3,bx 15 153 ((aW b).map .pv)),(2,bx 15 153 ((aW a).map .pv))])) (fun i=>i<=a.refs.length/\a.refs.take i=b.refs.take i) (fun i=>a.refs.length - i) 0 ⟨by omega,rfl⟩ ?_ ?_
 ·exact Wk
 rintro i ⟨hi,hp⟩;refine Sq<|Sr<|Dd aE<|Dd (aS eV)<|Dd (bC aF)<|Dd (fE aD)<|Dd cZ<|Zz ?_;refine Cn ?_ ?_<;>intro hc2
 ·have hil:i<a.refs.length:=by have:=aPQ hc2;omega
  obtain ⟨s,hs⟩:=aU hil;obtain ⟨u,hu⟩:=aU (show i<b.refs.length by omega);have hi1:=cJ (f:=encStr) hs;have hi2:=cJ (f:=encStr) hu;refine aC<|Sq<|aG<|Sq<|aN follows<|Cq (aS eV)<|Cq (bC aF)<|Cq aE<|Cq (by exact bP rfl cB rfl rfl (by omega) (by exact aP5 _) hi1 rfl)<|Cq (iJ isAgg9 (hi:=hi1))<|Cq (aS eV)<|Cq (bC aF)<|Cq aE<|Cq (by exact bP rfl cB rfl rfl (by omega) (by exact aP5 _) hi2 rfl)<|Cq (iJ isAgg9 (hi:=hi2))<|Cq IU<|bL<|Kr ?_;refine Cn ?_ ?_<;>intro hc3
  ·have hne:s≠u:=by have h:=hc3;intro e;subst e;simp at h
   rw[hyes false (by rw[decide_eq_false (aAd hs hu hne)];rfl)];exact Sr<|Dd aL<|Zz<|aB<|Rt<|Qq
  have heq:s=u:=by have h:=hc3;simpa using h
  refine aC<|Rg<|Dd aE<|Dd (by exact bZ rfl rfl rfl (show IntKind.i64.wrap ((i:Int)+1)=((i+1:Nat):Int)by rw[kK (by omega) (by omega)];omega))<|Da ?_;exact⟨i+1,⟨by omega,yV hp hs hu heq⟩,by omega,Wk⟩
 have hge:i=a.refs.length:=by have:=aPR hc2;omega
 rw[hyes so (by rw[decide_eq_true (F8 hl hge hp)];rfl)];exact aY<|Sr<|Dd (aS nT)<|Dd (by exact aM rfl cW sizeOf151 rfl rfl rfl rfl (by simp only[Zl,aW,bS];rfl) rfl)<|Dd (aS nT)<|Dd (by exact aM rfl cW sizeOf151 rfl rfl rfl rfl (by simp only[Zl,aW,bS];rfl) rfl)<|Dd (by exact aA rfl rfl call179 rfl (hso _))<|Dd aL<|Zz<|aB<|Rt<|Qq
def AX:List GEdit->List GEdit->Bool
 | [],[]=>true
 |a::l,b::m=>WN a b&&AX l m
 |_,_=>false
theorem C2:∀ {a b:List GEdit},AX a b=true↔a=b
 | [],[]=>by simp[AX]
 |a::l,b::m=>by rw[AX,aP3,GB,C2,List.cons.injEq]
 | [],_::_=>by simp[AX]
 |_::_,[]=>by simp[AX]
theorem WL{a b:List GEdit}(h:a≠b):AX a b=false:=by
 cases e:AX a b with
 |false=>rfl
 |true=>exact absurd (C2.1 e) h
theorem R3(a b:List GEdit)(H:aH)(ha:a.length<4611686018427387904)(hb:b.length<4611686018427387904)(hae:∀e∈a,MB e)(hbe:∀e∈b,MB e):aI Tryz.prog 89 [.pv (iF a),.pv (iF b)] H (fun r H'=>r=bv (AX a b)/\H'=H):=by
 refine Pu ?_;have hma:(a.map aW).length=a.length:=aPU _;have hmb:(b.map aW).length=b.length:=aPU _;refine Bd func89 rfl ntmps89<|Sr<|Dd aL<|Zz<|Sq<|Sr<|Dd aE<|Dd (fE cX)<|Dd aE<|Dd (fE cX)<|Dd xY<|Zz ?_;refine Cn ?_ ?_<;>intro hc1
 ·have hne:a≠b:=by have h:=hc1;intro e;subst e;simp at h
  rw[WL hne];exact Sr<|Dd aL<|Zz<|aB<|Rt<|Qq
 have hl:a.length=b.length:=by have h:=hc1;simp only[Bool.not_eq_false',aP1]at h;omega
 refine aC<|Sq<|Sr<|Dd aL<|Zz<|aG ?_;refine bT (σ:=Nat) (fun i=>([(0,.pv (iF a)),(1,.pv (iF b)),(5,iv (i:Int))],[])) (fun i=>i<=a.length/\a.take i=b.take i) (fun i=>a.length - i) 0 ⟨by omega,rfl⟩ ?_ ?_
 ·exact Wk
 rintro i ⟨hi,hp⟩;refine Sq<|Sr<|Dd aE<|Dd aE<|Dd (fE cX)<|Dd cZ<|Zz ?_;refine Cn ?_ ?_<;>intro hc2
 ·have hil:i<a.length:=by have:=aPQ hc2;omega
  obtain ⟨s,hs⟩:=aU hil;obtain ⟨u,hu⟩:=aU (show i<b.length by omega);have hi1:=cJ (f:=aW) hs;have hi2:=cJ (f:=aW) hu;have hsm:=fun H=>aBg s u H (hae s (aP4 hs)) (hbe u (aP4 hu));refine aC<|Sq<|aG<|Sq<|aN follows<|Cq aE<|Cq aE<|Cq (by exact bP rfl RU rfl rfl (by omega) (by exact aP5 _) hi1 rfl)<|Cq (by exact dN rfl cA aX rfl hi1 rfl rfl)<|Cq aE<|Cq aE<|Cq (by exact bP rfl RU rfl rfl (by omega) (by exact aP5 _) hi2 rfl)<|Cq (by exact dN rfl cA aX rfl hi2 rfl rfl)<|Cq (by exact aA rfl rfl call138 rfl (hsm _))<|Cq iQ<|bL<|Kr ?_;refine Cn ?_ ?_<;>intro hc3
  ·have hne:s≠u:=by have h:=not_not hc3;intro e;rw[GB.2 e]at h;cases h
   rw[WL (aAd hs hu hne)];exact Sr<|Dd aL<|Zz<|aB<|Rt<|Qq
  have heq:s=u:=GB.1 (qJ hc3);refine aC<|Rg<|Dd aE<|Dd (by exact bZ rfl rfl rfl (show IntKind.i64.wrap ((i:Int)+1)=((i+1:Nat):Int)by rw[kK (by omega) (by omega)];omega))<|Da ?_;exact⟨i+1,⟨by omega,yV hp hs hu heq⟩,by omega,Wk⟩
 have hge:i=a.length:=by have:=aPR hc2;omega
 rw[C2.2 (F8 hl hge hp)];exact aY<|Sr<|Dd aL<|Zz<|aB<|Rt<|Qq
def U2(a b:GRec):Bool:=(((((((((decide (a.kind=b.kind)&&decide (a.author=b.author))&&decide (a.number=b.number))&&decide (a.clock=b.clock))&&decide (a.branch=b.branch))&&decide (a.parents=b.parents))&&AX a.edits b.edits)&&decide (a.target=b.target))&&(a.yes == b.yes))&&decide (a.order=b.order))&&decide (a.from'=b.from')
structure PubEq(a b:GRec):Prop where
 ki:a.kind=b.kind
 au:a.author=b.author
 nu:a.number=b.number
 cl:a.clock=b.clock
 br:a.branch=b.branch
 pa:a.parents=b.parents
 ed:a.edits=b.edits
 ta:a.target=b.target
 ye:a.yes=b.yes
 od:a.order=b.order
 fr:a.from'=b.from'
theorem aEB{a b:GRec}:U2 a b=true↔PubEq a b:=by simp only[U2,aP3,aP1,C2,beq_iff_eq];exact⟨fun⟨⟨⟨⟨⟨⟨⟨⟨⟨⟨h1,h2⟩,h3⟩,h4⟩,h5⟩,h6⟩,h7⟩,h8⟩,h9⟩,h10⟩,h11⟩=>⟨h1,h2,h3,h4,h5,h6,h7,h8,h9,h10,h11⟩,fun⟨h1,h2,h3,h4,h5,h6,h7,h8,h9,h10,h11⟩=>⟨⟨⟨⟨⟨⟨⟨⟨⟨⟨h1,h2⟩,h3⟩,h4⟩,h5⟩,h6⟩,h7⟩,h8⟩,h9⟩,h10⟩,h11⟩⟩
def VG(r:GRec):Prop:=(r.parents.length<4611686018427387904/\r.edits.length<4611686018427387904/\∀e∈r.edits,MB e)/\VC r.sl/\VC r.priv.sl/\r.priv.sources.length<4611686018427387904/\r.priv.trace.length<4611686018427387904
theorem VE{r:GRec}(h:iA r):VG r:=by obtain ⟨_,_,h1,h2,h3,_,_,h4,h5,h6⟩:=h;exact⟨⟨by have:=h1.1;omega,by have:=h2.1;omega,h2.2⟩,FP h3,FP h6,by have:=h4.1;omega,by omega⟩
theorem R2(a b:GRec)(H:aH)(ha:VG a)(hb:VG b):aI Tryz.prog 26 [av (cC a),av (cC b)] H (fun r H'=>r=bv (U2 a b)/\H'=H):=by
 refine aI.pure ?_ (by simp[cC]) H;have hs1:=fun H=>vU a.parents b.parents H ha.1.1 hb.1.1;have hs2:=fun H=>R3 a.edits b.edits H ha.1.2.1 hb.1.2.1 ha.1.2.2 hb.1.2.2;have hX:U2 a b=((((((((((decide (a.kind=b.kind)&&decide (a.author=b.author))&&decide (a.number=b.number))&&decide (a.clock=b.clock))&&decide (a.branch=b.branch))&&decide (a.parents=b.parents))&&AX a.edits b.edits)&&decide (a.target=b.target))&&(a.yes == b.yes))&&decide (a.order=b.order))&&decide (a.from'=b.from')):=rfl;obtain ⟨ee,hee⟩:∃ee,ee=AX a.edits b.edits:=⟨_,rfl⟩;rw[<-hee]at hs2 hX;clear hee;refine Bd func26 rfl ntmps26<|Sr<|Dd (by exact cD (id:=2) rfl rfl rfl rfl rfl)<|Dd (by exact cD (id:=3) rfl rfl rfl rfl rfl)<|Dd aL<|Zz<|Sq ?_;refine aT (t:=4) (n:=86) (X:=U2 a b) ?_ ?_
 ·all_goals refine Dd (aS lQ) ?_
  all_goals refine Dd (bC isAgg3)<|Dd (aS lQ)<|Dd (bC isAgg3)<|Dd cK<|Dm ?_
  all_goals refine Sp 10 (fun h10=>?_) fun h10=>?_
  all_goals try contradiction
  all_goals first|refine Fo<|Fo<|Fo<|Fo<|Fo ?_|refine On (aS qP)<|On (bC isAgg3)<|On (aS qP)<|On (bC isAgg3)<|On cK ?_
  all_goals refine Dd cG<|Dm ?_
  all_goals refine Sp 17 (fun h17=>?_) fun h17=>?_
  all_goals try contradiction
  all_goals first|refine Fo<|Fo<|Fo<|Fo<|Fo ?_|refine On (aS lP)<|On (bC isAgg3)<|On (aS lP)<|On (bC isAgg3)<|On cK ?_
  all_goals refine Dd cG<|Dm ?_
  all_goals refine Sp 24 (fun h24=>?_) fun h24=>?_
  all_goals try contradiction
  all_goals first|refine Fo<|Fo<|Fo<|Fo<|Fo ?_|refine On (aS uX)<|On (bC isAgg3)<|On (aS uX)<|On (bC isAgg3)<|On cK ?_
  all_goals refine Dd cG<|Dm ?_
  all_goals refine Sp 31 (fun h31=>?_) fun h31=>?_
  all_goals try contradiction
  all_goals first|refine Fo<|Fo<|Fo<|Fo<|Fo ?_|refine On (aS uW)<|On (bC isAgg9)<|On (aS uW)<|On (bC isAgg9)<|On zE ?_
  all_goals refine Dd cG<|Dm ?_
  all_goals refine Sp 38 (fun h38=>?_) fun h38=>?_
  all_goals try contradiction
  all_goals first|refine Fo<|Fo<|Fo<|Fo<|Fo ?_|refine On (aS kW)<|On (bC aF)<|On (aS kW)<|On (bC aF)<|On (by exact aA rfl rfl aG3 rfl (hs1 _)) ?_
  all_goals refine Dd cG<|Dm ?_
  all_goals refine Sp 45 (fun h45=>?_) fun h45=>?_
  all_goals try contradiction
  all_goals first|refine Fo<|Fo<|Fo<|Fo<|Fo ?_|refine On (aS uV)<|On (bC iI)<|On (aS uV)<|On (bC iI)<|On (by exact aA rfl rfl call89 rfl (hs2 _)) ?_
  all_goals refine Dd cG<|Dm ?_
  all_goals refine Sp 52 (fun h52=>?_) fun h52=>?_
  all_goals try contradiction
  all_goals first|refine Fo<|Fo<|Fo<|Fo<|Fo ?_|refine On (aS uU)<|On (bC isAgg9)<|On (aS uU)<|On (bC isAgg9)<|On zE ?_
  all_goals refine Dd cG<|Dm ?_
  all_goals refine Sp 59 (fun h59=>?_) fun h59=>?_
  all_goals try contradiction
  all_goals first|refine Fo<|Fo<|Fo<|Fo<|Fo ?_|refine On (aS B3)<|On (bC oT)<|On (aS B3)<|On (bC oT)<|On (by exact qE rfl dD rfl rfl) ?_
  all_goals refine Dd cG<|Dm ?_
  all_goals refine Sp 66 (fun h66=>?_) fun h66=>?_
  all_goals try contradiction
  all_goals first|refine Fo<|Fo<|Fo<|Fo<|Fo ?_|refine On (aS sO)<|On (bC isAgg3)<|On (aS sO)<|On (bC isAgg3)<|On cK ?_
  all_goals refine Dd cG<|Dm ?_
  all_goals refine Sp 73 (fun h73=>?_) fun h73=>?_
  all_goals try contradiction
  all_goals first|refine Fo<|Fo<|Fo<|Fo<|Fo ?_|refine On (aS qO)<|On (bC isAgg9)<|On (aS qO)<|On (bC isAgg9)<|On zE ?_
  all_goals refine Dd cG<|Da ?_
  all_goals(exact⟨⟨_,rfl,by first|(rw[hX,h10];rfl)|(rw[hX,h10,h17];rfl)|(rw[hX,h10,h17,h24];rfl)|(rw[hX,h10,h17,h24,h31];rfl)|(rw[hX,h10,h17,h24,h31,h38];rfl)|(rw[hX,h10,h17,h24,h31,h38,h45];rfl)|(rw[hX,h10,h17,h24,h31,h38,h45,h52];rfl)|(rw[hX,h10,h17,h24,h31,h38,h45,h52,h59];rfl)|(rw[hX,h10,h17,h24,h31,h38,h45,h52,h59,h66];rfl)|(rw[hX,h10,h17,h24,h31,h38,h45,h52,h59,h66,h73];rfl)⟩,rfl,rfl,rfl⟩)
 exact aB<|Rt<|Qq
def aDr(a b:GRec):Bool:=((U2 a b&&SA a.priv b.priv)&&decide (a.sl=b.sl))&&decide (a.priv.sl=b.priv.sl)
theorem aDq{a b:GRec}:aDr a b=true↔a=b:=by
 simp only[aDr,SA,aP3,aP1,aEB];constructor
 ·rintro⟨⟨⟨⟨h1,h2,h3,h4,h5,h6,h7,h8,h9,h10,h11⟩,⟨⟨q1,q2⟩,q3⟩,q4⟩,h12⟩,h13⟩;obtain ⟨a1,a2,a3,a4,a5,a6,a7,a8,a9,a10,a11,a12,b1,b2,b3,b4,b5⟩:=a;obtain ⟨c1,c2,c3,c4,c5,c6,c7,c8,c9,c10,c11,c12,d1,d2,d3,d4,d5⟩:=b;simp only at *;subst h1 h2 h3 h4 h5 h6 h7 h8 h9 h10 h11 q1 q2 q3 q4 h12 h13;rfl
 rintro rfl;exact⟨⟨⟨⟨rfl,rfl,rfl,rfl,rfl,rfl,rfl,rfl,rfl,rfl,rfl⟩,⟨⟨rfl,rfl⟩,rfl⟩,rfl⟩,rfl⟩,rfl⟩
theorem aBf(a b:GRec)(H:aH)(ha:VG a)(hb:VG b):aI Tryz.prog 18 [av (cC a),av (cC b)] H (fun r H'=>r=bv (aDr a b)/\H'=H):=by
 refine aI.pure ?_ (by simp[cC]) H;have hs1:=fun H=>R2 a b H ha hb;have hs2:=fun H=>N3 a.priv b.priv H ha.2.2.2.1 hb.2.2.2.1 ha.2.2.2.2;have hs3:=fun H=>D1 a.sl b.sl H ha.2.1 hb.2.1;have hs4:=fun H=>D1 a.priv.sl b.priv.sl H ha.2.2.1 hb.2.2.1;have hX:aDr a b=(((U2 a b&&SA a.priv b.priv)&&decide (a.sl=b.sl))&&decide (a.priv.sl=b.priv.sl)):=rfl;obtain ⟨p1,hp1⟩:∃p,p=U2 a b:=⟨_,rfl⟩;obtain ⟨p2,hp2⟩:∃p,p=SA a.priv b.priv:=⟨_,rfl⟩;rw[<-hp1]at hs1 hX;rw[<-hp2]at hs2 hX;clear hp1 hp2;refine Bd func18 rfl ntmps18<|Sr<|Dd (by exact cD (id:=2) rfl rfl rfl rfl rfl)<|Dd (by exact cD (id:=3) rfl rfl rfl rfl rfl)<|Dd aL<|Zz<|Sq ?_;refine aT (t:=4) (n:=30) (X:=aDr a b) ?_ ?_
 ·all_goals refine Dd (pU bQ aQ) ?_
  all_goals refine Dd (pU bQ aQ)<|Dd (by exact aA rfl rfl call26 rfl (hs1 _))<|Dm ?_
  all_goals refine Sp 8 (fun h8=>?_) fun h8=>?_
  all_goals try contradiction
  all_goals first|refine Fo<|Fo<|Fo<|Fo<|Fo ?_|refine On (aS eU)<|On (pU iH sizeOf28)<|On (aS eU)<|On (pU iH sizeOf28)<|On (by exact aA rfl rfl call27 rfl (hs2 _)) ?_
  all_goals refine Dd cG<|Dm ?_
  all_goals refine Sp 15 (fun h15=>?_) fun h15=>?_
  all_goals try contradiction
  all_goals first|refine Fo<|Fo<|Fo<|Fo<|Fo ?_|refine On (aS kC)<|On (pU eC sizeOf25)<|On (aS kC)<|On (pU eC sizeOf25)<|On (by exact aA rfl rfl aPG rfl (hs3 _)) ?_
  all_goals refine Dd cG<|Dm ?_
  all_goals refine Sp 22 (fun h22=>?_) fun h22=>?_
  all_goals try contradiction
  all_goals first|refine Fo<|Fo<|Fo<|Fo<|Fo<|Fo<|Fo ?_|refine On (aS eU)<|On (aS lR)<|On (pU eC sizeOf25)<|On (aS eU)<|On (aS lR)<|On (pU eC sizeOf25)<|On (by exact aA rfl rfl aPG rfl (hs4 _)) ?_
  all_goals refine Dd cG<|Da ?_
  all_goals(exact⟨⟨_,rfl,by first|(rw[hX,h8];rfl)|(rw[hX,h8,h15];rfl)|(rw[hX,h8,h15,h22];rfl)⟩,rfl,rfl,rfl⟩)
 exact aB<|Rt<|Qq
end Go.Proofs.YtmdicgjnmfolfaaGreatDoor
