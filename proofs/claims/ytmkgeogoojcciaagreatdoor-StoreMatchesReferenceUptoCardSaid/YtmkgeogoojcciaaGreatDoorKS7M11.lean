/-
  Parts of the proof: rules of an abstract program logic, contracts of functions, plain laws. Conditions: each theorem's own.
-/
import Derived.Test.YtmkgeogoojcciaaGreatDoorKS7M10
set_option linter.unusedVariables false
set_option linter.unusedSimpArgs false
set_option maxRecDepth 100000
set_option maxHeartbeats 8000000
namespace Go.Proofs
theorem NX:type_of% Tryz.call71:=Tryz.call71
theorem kO:type_of% Tryz.call72:=Tryz.call72
theorem aCb:type_of% Tryz.call74:=Tryz.call74
theorem aH3:type_of% Tryz.call77:=Tryz.call77
theorem aC7:type_of% Tryz.func32:=Tryz.func32
theorem aC6:type_of% Tryz.func34:=Tryz.func34
theorem aH0:type_of% Tryz.func35:=Tryz.func35
theorem Y8:type_of% Tryz.ntmps32:=Tryz.ntmps32
theorem Y7:type_of% Tryz.ntmps34:=Tryz.ntmps34
theorem aHE:type_of% Tryz.ntmps35:=Tryz.ntmps35
theorem eR:type_of% Tryz.underlying61:=Tryz.underlying61
end Go.Proofs
namespace Go.Proofs.YtmkgeogoojcciaaGreatDoor
open Go.Proofs.Tryz
open Go.Abs Go.Lib
def rcP (L:KP) (t:List UInt8):KP:=iA (iI L (prs (fU t).1)) (eJ t)
structure RcE (F:List ByteArray) (u m:Nat):Prop where
 v:C8 (F.getD 0 sNil).data.toList=(u:Int)
 len:F.length=2*u+2+m
 w:C8 (F.getD (2*u+1) sNil).data.toList=(m:Int)
 sp:SP (J3 F u)
 key:∀ p∈J3 F u,cR p.1=true∧p.2.size≤20000
 inc:qW (F.drop (2*u+2))
 nam:∀ s∈F.drop (2*u+2),cR s=true∧(dX (J3 F u) s).isSome=false
def WY (t:List UInt8):Prop:=(cS t).2=true∧∃ u m,RcE (cS t).1 u m
theorem aDJ (L:KP) (t:List UInt8):∃ A:PV,(¬ WY t→A=.sl [])∧∀ u m,(cS t).2=true→RcE (cS t).1 u m→A=hU (iA (iI L (J3 (cS t).1 u)) ((cS t).1.drop (2*u+2))):=by
 rcases Classical.em (WY t)with h|h
 ·obtain ⟨h1,u,m,e⟩:=h;refine⟨hU (iA (iI L (J3 (cS t).1 u)) ((cS t).1.drop (2*u+2))),fun h=>absurd ⟨h1,u,m,e⟩ h,fun u' m' _ e'=>?_⟩;have:u'=u:=by
   have h2:=e'.v;rw [e.v] at h2;omega
  rw [this]
 exact⟨.sl [],fun _=>rfl,fun u m h1 e=>absurd ⟨h1,u,m,e⟩ h⟩
theorem GB {t:List UInt8} (h:iK t=true) (ht:t.length < 1000000):∃ A D,(cS t).2=true∧RcE (cS t).1 A.length D.length∧J3 (cS t).1 A.length=A∧(cS t).1.drop (2*A.length+2)=D∧t=aT (dZ A D)∧prs (fU t).1=A∧eJ t=D∧0 < A.length+D.length:=by
 obtain ⟨g1,g2⟩:=aFu h ht;have g3:=OF g2 (by omega);obtain ⟨A,hA⟩:∃ A,A=prs (fU t).1:=⟨_,rfl⟩;obtain ⟨D,hD⟩:∃ D,D=eJ t:=⟨_,rfl⟩;rw [← hA,← hD] at g1 g2 g3;have w:=OG A D;have hl:(dZ A D).length≤t.length:=by
  have:=AZ t;rw [F1,g3] at this;exact this
 refine⟨A,D,by rw [g3],?_,by rw [g3];exact w.2.2.2.1,by rw [g3];exact w.2.2.2.2,g2,hA.symm,hD.symm,g1.some⟩;rw [g3];refine⟨?_,w.1,?_,?_,?_,?_,?_⟩
 ·rw [w.2.1,bB,PK (by omega)]
 ·rw [w.2.2.1,bB,PK (by omega)]
 ·rw [w.2.2.2.1];exact g1.sp
 ·rw [w.2.2.2.1];exact fun p hp=>⟨(g1.key p hp).1,(g1.key p hp).2.2⟩
 ·rw [w.2.2.2.2];exact g1.inc
 rw [w.2.2.2.2,w.2.2.2.1];refine fun s hs=>⟨g1.nam s hs,?_⟩;rw [KA];refine decide_eq_false fun hm=>?_;obtain ⟨p,hp,rfl⟩:=List.mem_map.1 hm;exact(g1.key p hp).2.1 hs
theorem EZ {F:List ByteArray} {i:Nat} (h:i < F.length):F[i]?=some (F.getD i sNil):=by rw [List.getD_eq_getElem?_getD,aHw h];rfl
theorem WV (L:KP) (t:List UInt8) (hL:L.length≤100000) (ht:t.length≤5000) :
  ∃ A:PV,(iK t=true→A=hU (rcP L t))∧∀ H,aK Tryz.prog 69 [.pv (hU L),sv (ofL t)] H (fun r H'=>r=.tup [.pv A,bv (iK t)]∧H'=H):=by
 obtain ⟨A,hA0,hA1⟩:=aDJ L t;refine⟨A,fun h=>?_,fun H=>?_⟩
 ·obtain ⟨A',D',g1,g2,g3,g4,g5,g6,g7,_⟩:=GB h (by omega);rw [hA1 _ _ g1 g2,g3,g4,rcP,g6,g7]
 refine Pu ?_;have hspl:=fun H=>FY t (by omega) H;have hrp:¬ WY t→iK t=false:=fun hn=>by
  cases e:iK t with
  | false=>rfl
  | true =>
   obtain ⟨A',D',g1,g2,_⟩:=GB e (by omega);exact absurd ⟨g1,_,_,g2⟩ hn
 have hgr:iK t=true→∃ A D,RcE (cS t).1 A.length D.length∧J3 (cS t).1 A.length=A∧(cS t).1.drop (2*A.length+2)=D∧t=aT (dZ A D)∧0 < A.length+D.length:=fun h=>by
  obtain ⟨A',D',g1,g2,g3,g4,g5,g6,g7,g8⟩:=GB h (by omega);exact⟨A',D',g2,g3,g4,g5,g8⟩
 have hEi:WY t→(cS t).2=true∧∃ u m,RcE (cS t).1 u m:=id;have hFl:=AZ t;have hFm:∀ i,((cS t).1.getD i sNil).size≤5000:=fun i=>by
  rw [List.getD_eq_getElem?_getD];cases e:(cS t).1[i]? with
  | none=>exact aII _
  | some z=>exact Nat.le_trans (uH (aIB e)) ht
 have hFm2:∀ z∈(cS t).1,z.size≤5000:=fun z hz=>Nat.le_trans (uH hz) ht;have hFl:(cS t).1.length≤t.length:=hFl;obtain ⟨F,hF⟩:∃ F,F=(cS t).1:=⟨_,rfl⟩;obtain ⟨ok,hok⟩:∃ ok,ok=(cS t).2:=⟨_,rfl⟩;rw [← hF] at hspl hFm hFm2 hFl hA1 hEi hgr;rw [← hok] at hspl hA1 hEi;clear hF hok;have hml:(F.map encStr).length=F.length:=aHr _;have t1:∀ {p:Prop} [Decidable p],p→AV.pv (.bool (decide p))=bv true:=fun h=>by rw [decide_eq_true h]
 have t0:∀ {p:Prop} [Decidable p],¬ p→AV.pv (.bool (decide p))=bv false:=fun h=>by rw [decide_eq_false h]
 refine Bd func69 rfl ntmps69<|Sr<|Dd aR<|Dd aR<|Zz<|Sr<|Dd aB<|Dd (by exact aA rfl rfl call68 rfl (hspl _))<|Dd aB<|Dd eC<|Dd eC<|Dd aR<|Dd aR<|Zz<|Sq<|Sq ?_;refine cQ (t:=27) (n:=8) (X:=!ok||decide (((F.map encStr).length:Int)=0)) ?_ ?_
 ·all_goals refine Dd aB ?_
  all_goals refine Dd pY<|Dm ?_
  all_goals refine Sp 23 (fun h23=>?_) fun h23=>?_
  all_goals try contradiction
  all_goals first|refine Fo<|Fo<|Fo ?_|refine On aB<|On (jY aO)<|On eP ?_
  all_goals refine Dd cX<|Zz ?_
  all_goals(exact⟨⟨_,rfl,by(rw [h23];rfl)⟩,rfl,rfl,rfl⟩)
 refine Cn ?_ ?_<;>intro hc1
 ·have hq:=hc1;have hn:¬ WY t:=fun h=>by
   obtain ⟨h1,u',m',e⟩:=hEi h;have:=e.len;rw [hml,h1,decide_eq_false (by omega)] at hq;cases hq
  refine Sr<|Dd aR<|Dd aR<|Zz<|aH<|Ru ?_;exact⟨by rw [hA0 hn,hrp hn],rfl⟩
 have hq:=hc1;rw [aIN,Bool.not_eq_false',aHz] at hq;have hl0:0 < F.length:=by omega
 have hix:=cV (f:=encStr) (EZ hl0);have hn0:=fun H=>F3 (F.getD 0 sNil) (by have:=hFm 0;omega) H;have hv1:=PJ (F.getD 0 sNil).data.toList;obtain ⟨v,hvu⟩:∃ v,v=C8 (F.getD 0 sNil).data.toList:=⟨_,rfl⟩;rw [← hvu] at hn0 hv1;have hok1:=hq.1;have hEi:WY t→∃ u m,RcE F u m∧v=(u:Int):=fun h=>by
  obtain ⟨_,u',m',e⟩:=hEi h;exact⟨u',m',e,hvu.trans e.v⟩
 clear hspl hq;refine aF<|Sr<|Dd aB<|Dd (sU cD)<|Dd (gW aQ (hi:=hix))<|Dd (by exact aA rfl rfl yS rfl (hn0 _))<|Dd aR<|Zz<|Sq<|Sq ?_;refine cQ (t:=47) (n:=18) (X:=(decide (v < 0)||decide (((F.map encStr).length:Int) < v))||decide (((F.map encStr).length:Int) < 2*v+2)) ?_ ?_
 ·all_goals refine Dd aB ?_
  all_goals refine Dd cP<|Dm ?_
  all_goals refine Sp 34 (fun h34=>?_) fun h34=>?_
  all_goals(try(with_reducible contradiction))
  all_goals first|refine Fo<|Fo<|Fo<|Fo ?_|refine On aB<|On aB<|On (jY aO)<|On yP ?_
  all_goals refine Dd cX<|Dm ?_
  all_goals refine Sp 40 (fun h40=>?_) fun h40=>?_
  all_goals(try(with_reducible contradiction))
  all_goals first|refine Fo<|Fo<|Fo<|Fo<|Fo<|Fo ?_|refine On aB<|On (jY aO)<|On aB<|On (by exact fG rfl rfl rfl (by have q1:=aHo h34;have q2:=aHo h40;exact eS (by omega) (by omega)))<|On (by exact bA rfl rfl rfl (by have q1:=aHo h34;have q2:=aHo h40;exact eS (by omega) (by omega)))<|On cP ?_
  all_goals refine Dd cX<|Zz ?_
  all_goals(exact⟨⟨_,rfl,by first|(rw [h34];rfl)|(rw [h34,h40];rfl)⟩,rfl,rfl,rfl⟩)
 refine Cn ?_ ?_<;>intro hc2
 ·have hq:=hc2;have hn:¬ WY t:=fun h=>by
   obtain ⟨u',m',e,rfl⟩:=hEi h;have:=e.len;rw [hml,decide_eq_false (by omega),decide_eq_false (by omega),decide_eq_false (by omega)] at hq;cases hq
  refine Sr<|Dd aR<|Dd aR<|Zz<|aH<|Ru ?_;exact⟨by rw [hA0 hn,hrp hn],rfl⟩
 have hq:=hc2;rw [hml,aIN,aIN,aHz,aHz,aHz] at hq;obtain ⟨u,rfl⟩:∃ u:Nat,v=(u:Int):=⟨v.toNat,by omega⟩;have hu:2*u+2≤F.length:=by omega
 have hiy:=cV (f:=encStr) (EZ (F:=F) (i:=2*u+1) (by omega));have hn1:=fun H=>F3 (F.getD (2*u+1) sNil) (by have:=hFm (2*u+1);omega) H;have hv1:=PJ (F.getD (2*u+1) sNil).data.toList;obtain ⟨v1,hvm⟩:∃ v,v=C8 (F.getD (2*u+1) sNil).data.toList:=⟨_,rfl⟩;rw [← hvm] at hn1 hv1;have hEi:WY t→∃ m:Nat,RcE F u m∧v1=(m:Int):=fun h=>by
  obtain ⟨u',m',e,h2⟩:=hEi h;have hu2:u'=u:=by omega
  rw [hu2] at e;exact⟨m',e,hvm.trans e.w⟩
 clear hq;obtain ⟨z,hz⟩:∃ z,z=IntKind.i64.wrap (((2*u+2:Nat):Int)+v1):=⟨_,rfl⟩;refine aF<|Sr<|Dd aB<|Dd aB<|Dd (by exact fG rfl rfl rfl (eS (by omega) (by omega)))<|Dd (by exact bA rfl rfl rfl (show IntKind.i64.wrap (2*(u:Int)+1)=((2*u+1:Nat):Int)by rw [eS (by omega) (by omega)];omega))<|Dd (sU cD)<|Dd (gW aQ (hi:=hiy))<|Dd (by exact aA rfl rfl yS rfl (hn1 _))<|Dd aR<|Zz<|Sq<|Sq ?_;refine cQ (t:=66) (n:=13) (X:=decide (v1 < 0)||!decide (((F.map encStr).length:Int)=z)) ?_ ?_
 ·all_goals refine Dd aB ?_
  all_goals refine Dd cP<|Dm ?_
  all_goals refine Sp 57 (fun h57=>?_) fun h57=>?_
  all_goals(try(with_reducible contradiction))
  all_goals first|refine Fo<|Fo<|Fo<|Fo<|Fo<|Fo<|Fo<|Fo ?_|refine On aB<|On (jY aO)<|On aB<|On (by exact fG rfl rfl rfl (eS (by omega) (by omega)))<|On (by exact bA rfl rfl rfl (show IntKind.i64.wrap (2*(u:Int)+2)=((2*u+2:Nat):Int)by rw [eS (by omega) (by omega)];omega))<|On aB<|On (by exact bA rfl rfl rfl hz.symm)<|On tM ?_
  all_goals refine Dd cX<|Zz ?_
  all_goals(exact⟨⟨_,rfl,by(rw [h57];rfl)⟩,rfl,rfl,rfl⟩)
 refine Cn ?_ ?_<;>intro hc3
 ·have hq:=hc3;have hn:¬ WY t:=fun h=>by
   obtain ⟨m',e,rfl⟩:=hEi h;have:=e.len;rw [eS (by omega) (by omega)] at hz;rw [hml,decide_eq_false (by omega),decide_eq_true (by omega)] at hq;cases hq
  refine Sr<|Dd aR<|Dd aR<|Zz<|aH<|Ru ?_;exact⟨by rw [hA0 hn,hrp hn],rfl⟩
 have hq:=hc3;rw [hml,aIN,Bool.not_eq_false',aHz,aHy] at hq;obtain ⟨m,rfl⟩:∃ m:Nat,v1=(m:Int):=⟨v1.toNat,by omega⟩;have hm:F.length=2*u+2+m:=by
  have h2:=hv1.2;rw [IntKind.wrap_i64] at hz;omega
 have hEi:WY t→RcE F u m:=fun h=>by
  obtain ⟨m',e,h2⟩:=hEi h;have hm2:m'=m:=by omega
  rw [hm2] at e;exact e
 clear hq hz hv1;obtain ⟨K,hK⟩:∃ K,K=J3 F u:=⟨_,rfl⟩;obtain ⟨D,hD⟩:∃ D,D=F.drop (2*u+2):=⟨_,rfl⟩;have hKl:K.length=u:=by rw [hK,MF]
 have hDl:D.length=m:=by rw [hD,aIG];omega
 have hDe:((F.map encStr).take (F.map encStr).length).drop (2*u+2)=D.map encStr:=by rw [List.take_length,hD,List.map_drop]
 have hKm:∀ p∈K,p.1.size≤5000∧p.2.size≤5000:=fun p hp=>by
  rw [hK,J3] at hp;obtain ⟨i,_,rfl⟩:=List.mem_map.1 hp;exact⟨hFm _,hFm _⟩
 have hDm:∀ s∈D,s.size≤5000:=fun s hs=>hFm2 s (List.mem_of_mem_drop (hD▸hs));have hvv:WY t→SP K∧(∀ p∈K,cR p.1=true∧p.2.size≤20000)∧qW D∧∀ s∈D,cR s=true∧(dX K s).isSome=false:=fun h=>by
  have e:=hEi h;rw [hK,hD];exact⟨e.sp,e.key,e.inc,e.nam⟩
 have hgr:iK t=true→t=aT (dZ K D)∧0 < u+m:=fun h=>by
  obtain ⟨A',D',e,g3,g4,g5,g6⟩:=hgr h;have hu2:A'.length=u:=by
   have h2:=hvu.trans e.v;omega
  have hm2:D'.length=m:=by
   have h2:=e.len;omega
  rw [hu2] at g3 g4;rw [hK,hD,g3,g4];exact⟨g5,by omega⟩
 have hAE:SP K→(∀ p∈K,cR p.1=true∧p.2.size≤20000)→qW D→(∀ s∈D,cR s=true∧(dX K s).isSome=false)→A=hU (iA (iI L K) D):=fun h1 h2 h3 h4=>by
  rw [hK,hD] at h4;rw [hK] at h1 h2;rw [hD] at h3;rw [hK,hD];exact hA1 u m hok1 ⟨hvu.symm,hm,hvm.symm,h1,h2,h3,h4⟩
 have hmd:(D.map encStr).length=m:=by rw [aHr,hDl]
 have hmk:(K.map encKV).length=u:=by rw [aHr,hKl]
 refine aF<|Sr<|Dd (by exact eU (id:=905) (sz:=2) (ty:=66) rfl rfl rfl)<|Zz<|Sq<|Sr<|Dd aR<|Zz<|aJ ?_;refine bG (σ:=Nat) (fun i=>([(0,.pv (hU L)),(1,sv (ofL t)),(6,.pv (aX F)),(8,iv (u:Int)),(9,iv (m:Int)),(10,.osl 905 i 0 i),(11,iv (i:Int))],[(905,⟨i,2,66,rY (J3 F i)⟩)])) (fun i=>i≤u) (fun i=>u - i) 0 (aII _) ?_ ?_
 ·exact(cC.wk (Eb<|Eb<|Eb<|Eb<|Eb<|Ea<|Eb<|trivial) (Hc (aD _ _ _)<|trivial) trivial)
 intro i hi;have hl:(rY (J3 F i)).length=i:=by rw [qH,MF]
 refine Sq<|Sr<|Dd aB<|Dd aB<|Dd cP<|Zz ?_;refine Cn ?_ ?_<;>intro hc4
 ·have hlt:i < u:=by have:=aHn hc4;omega
  have hi1:=cV (f:=encStr) (EZ (F:=F) (i:=1+2*i) (by omega));have hi2:=cV (f:=encStr) (EZ (F:=F) (i:=2+2*i) (by omega));refine aF<|Sq<|aJ<|bF follows<|Cr [905] (fun _ _=>aB)<|Cr [] (fun _ _=>aB)<|Cr [] (fun _ _=>aB)<|Cr [] (fun H1 hH=>by exact fG rfl rfl rfl (eS (by omega) (by omega)))<|Cr [] (fun H1 hH=>by exact bA rfl rfl rfl (show IntKind.i64.wrap (1+2*(i:Int))=((1+2*i:Nat):Int)by rw [eS (by omega) (by omega)];omega))<|Cr [] (fun _ _=>(sU cD))<|Cr [] (fun _ _=>(gW aQ (hi:=hi1)))<|Cr [] (fun _ _=>aB)<|Cr [] (fun _ _=>aB)<|Cr [] (fun H1 hH=>by exact fG rfl rfl rfl (eS (by omega) (by omega)))<|Cr [] (fun H1 hH=>by exact bA rfl rfl rfl (show IntKind.i64.wrap (2+2*(i:Int))=((2+2*i:Nat):Int)by rw [eS (by omega) (by omega)];omega))<|Cr [] (fun _ _=>(sU cD))<|Cr [] (fun _ _=>(gW aQ (hi:=hi2)))<|Cr [] (fun H1 hH=>by exact DR rfl aGY rfl rfl)<|Cr [] (fun H1 hH=>by exact bD [[.str (F.getD (1+2*i) sNil),.str (F.getD (2+2*i) sNil)]] rfl gF rfl rfl rfl rfl rfl (by simp)) ?_;refine Cp [905] (fun H1 hH=>by exact dV (k:=i+1) (ps:=[(F.getD (1+2*i) sNil,F.getD (2+2*i) sNil)].map encKV) rfl gF X7 rfl ((hH _ rfl).trans rfl) rfl rfl rfl hl rfl (kT _) (m:=1) rfl (by omega) (by omega) (qI (J3 F i) [(F.getD (1+2*i) sNil,F.getD (2+2*i) sNil)]))<|Cr [905] (fun _ _=>aR)<|cA<|Kr<|Rg<|Dd aB<|Dd (by exact bA rfl rfl rfl (show IntKind.i64.wrap ((i:Int)+1)=((i+1:Nat):Int)by rw [eS (by omega) (by omega)];omega))<|Da ?_;refine⟨i+1,by omega,by omega,?_⟩;rw [aAa];exact(cC.wk (Eb<|Eb<|Eb<|Eb<|Eb<|Ea<|Eb<|trivial) (Hc (aD _ _ _)<|trivial) trivial)
 have hge:u=i:=by have:=aHo hc4;omega
 subst hge;rw [← hK] at hl ⊢;refine aV<|Sq ?_;refine iF.ent (cC.fz (id:=905) (E':=[(0,.pv (hU L)),(1,sv (ofL t)),(6,.pv (aX F)),(8,iv (u:Int)),(9,iv (m:Int)),(10,.pv (hU K))]) (H':=[]) (K.map encKV) rfl rfl (by
  intro p hp;simp only [aID,aIH,or_false] at hp;rcases hp with rfl|rfl|rfl|rfl|rfl|rfl
  ·exact⟨_,rfl,.same (by simp)⟩
  ·exact⟨_,rfl,.same (by simp)⟩
  ·exact⟨_,rfl,.same (by simp)⟩
  ·exact⟨_,rfl,.same (by simp)⟩
  ·exact⟨_,rfl,.same (by simp)⟩
  exact⟨_,rfl,.osl (by have h:=gZ encKV K;rw [hKl] at h;exact h)⟩) rfl trivial trivial) ?_
 clear hi hl;refine Rg<|Dd aB<|Dd aB<|Dd (by exact fG rfl rfl rfl (eS (by omega) (by omega)))<|Dd (by exact bA rfl rfl rfl (show IntKind.i64.wrap (2*(u:Int)+2)=((2*u+2:Nat):Int)by rw [eS (by omega) (by omega)];omega))<|Dd (by exact fW (l:=2*u+2) (h:=(F.map encStr).length) (rows':=D.map encStr) rfl cD rfl (kF F) rfl rfl (by omega) (aHx _) hDe)<|Dd aR<|Zz<|Sq<|Sr<|Dd aR<|Zz<|aJ ?_;refine bG (σ:=Nat) (fun i=>([(0,.pv (hU (iI L (K.take i)))),(1,sv (ofL t)),(8,iv (u:Int)),(9,iv (m:Int)),(10,.pv (hU K)),(12,.pv (aX D)),(13,iv (i:Int))],[])) (fun i=>i≤u∧SP (K.take i)∧∀ p∈K.take i,cR p.1=true∧p.2.size≤20000) (fun i=>u - i) 0 ⟨aII _,List.Pairwise.nil,fun p hp=>by cases hp⟩ ?_ ?_
 ·exact Wk
 rintro i ⟨hi,hsp,hky⟩;have hbad:∀ {p:ByteArray×ByteArray},K[i]?=some p→(cR p.1=false∨20000 < p.2.size∨∃ q,0 < i∧K[i - 1]?=some q∧lI q.1 p.1=false)→¬ WY t:=fun {p} hp hb e=>by
   obtain ⟨g1,g2,_⟩:=hvv e;have gk:=g2 p (aIB hp);rcases hb with hb|hb|⟨q,h0,hq,hb⟩
   ·rw [gk.1] at hb;cases hb
   ·omega
   have h1:=List.pairwise_iff_getElem.1 g1 (i - 1) i (by omega) (aHv.1 hp).1 (by omega);rw [(aHv.1 hp).2,(aHv.1 hq).2,hb] at h1;cases h1
 have hput:=fun p H=>L5 (iI L (K.take i)) (p:ByteArray×ByteArray).1 p.2 (by have h2:=tH (K.take i) L;rw [aIF] at h2;omega) H;by_cases hlt:i < u
 ·obtain ⟨p,hp⟩:=aY (show i < K.length by omega);have hip:=cV (f:=encKV) hp;have hnx:iI L (K.take (i+1))=tI (iI L (K.take i)) p.1 p.2:=by rw [bW hp,iI,List.foldl_append];rfl
  have hkc:∀ H,aK Tryz.prog 72 [sv p.1] H (fun r H'=>r=bv (cR p.1)∧H'=H):=fun H=>L7 p.1 H;cases hnk:cR p.1 with
  | false =>
   have hn:=hbad hp (.inl hnk);rw [hnk] at hkc;refine Sq<|Sr<|Dd aB<|Dd aB<|Dd cP<|Zz ?_;refine Cn ?_ ?_<;>intro hc5
   ·refine aF<|Sq<|aJ<|Sq<|Sq<|bF follows<|Cq aB<|Cq aB<|Cq (by exact aZ rfl gF rfl rfl (by omega) (by exact aIC _) hip rfl)<|Cq (by exact bC rfl aW sizeOf9 rfl rfl (by omega) (by exact aIC _) (by decide) rfl)<|Cq (gW aQ)<|Cq (by exact aA rfl rfl kO rfl (hkc _))<|Cq pY<|Cq aB<|Of<|Of<|Of<|Of<|Of<|Of<|Of<|Cq cX<|Cq aB<|Of<|Of<|Of<|Ou<|Ou<|Ou<|Ou<|Ou<|Ou<|Ou<|Ou<|Ou<|Ou<|Ou<|Ou<|Of<|Cq cX<|cA<|Kr ?_;refine Cn ?_ ?_<;>intro hc6
    ·refine Sr<|Dd aR<|Dd aR<|Zz<|aH<|Ru ?_;exact⟨by rw [hA0 hn,hrp hn],rfl⟩
    cases hc6
   (have h:=aHo hc5;omega)
  | true =>
   rw [hnk] at hkc;by_cases hsz:20000 < p.2.size
   ·have hn:=hbad hp (.inr (.inl hsz));refine Sq<|Sr<|Dd aB<|Dd aB<|Dd cP<|Zz ?_;refine Cn ?_ ?_<;>intro hc7
    ·refine aF<|Sq<|aJ<|Sq<|Sq<|bF follows<|Cq aB<|Cq aB<|Cq (by exact aZ rfl gF rfl rfl (by omega) (by exact aIC _) hip rfl)<|Cq (by exact bC rfl aW sizeOf9 rfl rfl (by omega) (by exact aIC _) (by decide) rfl)<|Cq (gW aQ)<|Cq (by exact aA rfl rfl kO rfl (hkc _))<|Cq pY<|Cq aB<|Nf aB<|Nf aB<|Nf (by exact aZ rfl gF rfl rfl (by omega) (by exact aIC _) hip rfl)<|Nf (by exact bC rfl aW sizeOf9 rfl rfl (by omega) (by exact aIC _) (by decide) rfl)<|Nf (gW aQ)<|Nf (mD aC)<|Nf (by exact bS.eqv (eF rfl rfl rfl) (t1 (show (20000:Int) < (p.2.size:Int)by omega)))<|Cq cX<|Cq aB<|Of<|Of<|Of<|Ou<|Ou<|Ou<|Ou<|Ou<|Ou<|Ou<|Ou<|Ou<|Ou<|Ou<|Ou<|Of<|Cq cX<|cA<|Kr ?_;refine Cn ?_ ?_<;>intro hc8
     ·refine Sr<|Dd aR<|Dd aR<|Zz<|aH<|Ru ?_;exact⟨by rw [hA0 hn,hrp hn],rfl⟩
     cases hc8
    (have h:=aHo hc7;omega)
   have s112:=t0 (show ¬ (20000:Int) < (p.2.size:Int)by omega);have hky2:∀ q∈K.take (i+1),cR q.1=true∧q.2.size≤20000:=fun q hq=>by
    rw [bW hp] at hq;rcases List.mem_append.1 hq with hq|hq
    ·exact hky q hq
    rw [aHu.1 hq];exact⟨hnk,by omega⟩
   by_cases h0:i=0
   ·have hsp2:SP (K.take (i+1)):=by rw [bW hp,h0,List.take_zero];exact List.pairwise_singleton _ _
    refine Sq<|Sr<|Dd aB<|Dd aB<|Dd cP<|Zz ?_;refine Cn ?_ ?_<;>intro hc9
    ·refine aF<|Sq<|aJ<|Sq<|Sq<|bF follows<|Cq aB<|Cq aB<|Cq (by exact aZ rfl gF rfl rfl (by omega) (by exact aIC _) hip rfl)<|Cq (by exact bC rfl aW sizeOf9 rfl rfl (by omega) (by exact aIC _) (by decide) rfl)<|Cq (gW aQ)<|Cq (by exact aA rfl rfl kO rfl (hkc _))<|Cq pY<|Cq aB<|Nf aB<|Nf aB<|Nf (by exact aZ rfl gF rfl rfl (by omega) (by exact aIC _) hip rfl)<|Nf (by exact bC rfl aW sizeOf9 rfl rfl (by omega) (by exact aIC _) (by decide) rfl)<|Nf (gW aQ)<|Nf (mD aC)<|Nf (by exact bS.eqv (eF rfl rfl rfl) s112)<|Cq cX<|Cq aB<|Nf aB<|Nf (by exact bS.eqv (eF rfl rfl rfl) (t0 (show ¬ (0:Int) < (i:Int)by omega)))<|Nf aB<|Ot<|Ot<|Ot<|Ot<|Ot<|Ot<|Ot<|Ot<|Ot<|Ot<|Ot<|Ot<|Nf cX ?_;refine Cq cX<|cA<|Kr ?_;refine Cn ?_ ?_<;>intro hc10
     ·cases hc10
     refine aF ?_;refine mH 11 follows (aIE rfl) ?_;refine Cq aB<|Cq aB<|Cq aB<|Cq (by exact aZ rfl gF rfl rfl (by omega) (by exact aIC _) hip rfl)<|Cq (by exact bC rfl aW sizeOf9 rfl rfl (by omega) (by exact aIC _) (by decide) rfl)<|Cq (gW aQ)<|Cq aB<|Cq aB<|Cq (by exact aZ rfl gF rfl rfl (by omega) (by exact aIC _) hip rfl)<|Cq (by exact bC rfl aW sizeOf9 rfl rfl (by omega) (by exact aIC _) (by decide) rfl)<|Cq (gW aQ)<|cA<|Kr<|Dd (by exact aA rfl rfl NX rfl (hput p _))<|Dd aR<|Zz<|Rg<|Dd aB<|Dd (by exact bA rfl rfl rfl (show IntKind.i64.wrap ((i:Int)+1)=((i+1:Nat):Int)by rw [eS (by omega) (by omega)];omega))<|Da ?_;refine⟨i+1,⟨by omega,hsp2,hky2⟩,by omega,?_⟩;rw [hnx];exact Wk
    (have h:=aHo hc9;omega)
   obtain ⟨q,hqq⟩:=aY (show i - 1 < K.length by omega);have hiq:=cV (f:=encKV) hqq;have w120:IntKind.i64.wrap ((i:Int) - 1)=((i - 1:Nat):Int):=by rw [eS (by omega) (by omega)];omega
   cases hsl:lI q.1 p.1 with
   | false =>
    have hn:=hbad hp (.inr (.inr ⟨q,by omega,hqq,hsl⟩));refine Sq<|Sr<|Dd aB<|Dd aB<|Dd cP<|Zz ?_;refine Cn ?_ ?_<;>intro hc11
    ·refine aF<|Sq<|aJ<|Sq<|Sq<|bF follows<|Cq aB<|Cq aB<|Cq (by exact aZ rfl gF rfl rfl (by omega) (by exact aIC _) hip rfl)<|Cq (by exact bC rfl aW sizeOf9 rfl rfl (by omega) (by exact aIC _) (by decide) rfl)<|Cq (gW aQ)<|Cq (by exact aA rfl rfl kO rfl (hkc _))<|Cq pY<|Cq aB<|Nf aB<|Nf aB<|Nf (by exact aZ rfl gF rfl rfl (by omega) (by exact aIC _) hip rfl)<|Nf (by exact bC rfl aW sizeOf9 rfl rfl (by omega) (by exact aIC _) (by decide) rfl)<|Nf (gW aQ)<|Nf (mD aC)<|Nf (by exact bS.eqv (eF rfl rfl rfl) s112)<|Cq cX<|Cq aB<|Nf aB<|Nf (by exact bS.eqv (eF rfl rfl rfl) (t1 (show (0:Int) < (i:Int)by omega)))<|Nf aB<|Nt aB<|Nt aB<|Nt (by exact dG rfl rfl rfl w120) ?_;refine Nt (by exact aZ rfl gF rfl rfl (by omega) (by exact aIC _) hiq rfl)<|Nt (by exact bC rfl aW sizeOf9 rfl rfl (by omega) (by exact aIC _) (by decide) rfl)<|Nt (gW aQ)<|Nt aB<|Nt aB<|Nt (by exact aZ rfl gF rfl rfl (by omega) (by exact aIC _) hip rfl)<|Nt (by exact bC rfl aW sizeOf9 rfl rfl (by omega) (by exact aIC _) (by decide) rfl)<|Nt (gW aQ)<|Nt (by exact bS.eqv (BD rfl rfl rfl) (by rw [hsl]))<|Nf cX<|Cq cX<|cA<|Kr ?_;refine Cn ?_ ?_<;>intro hc12
     ·refine Sr<|Dd aR<|Dd aR<|Zz<|aH<|Ru ?_;exact⟨by rw [hA0 hn,hrp hn],rfl⟩
     cases hc12
    (have h:=aHo hc11;omega)
   | true =>
    have hsp2:SP (K.take (i+1)):=by
     rw [bW hp];refine aCw hsp fun q' hq'=>?_;rw [aIF,Nat.min_eq_left (by omega),List.getElem?_take_of_lt (by omega),hqq] at hq';cases hq';exact hsl
    refine Sq<|Sr<|Dd aB<|Dd aB<|Dd cP<|Zz ?_;refine Cn ?_ ?_<;>intro hc13
    ·refine aF<|Sq<|aJ<|Sq<|Sq<|bF follows<|Cq aB<|Cq aB<|Cq (by exact aZ rfl gF rfl rfl (by omega) (by exact aIC _) hip rfl)<|Cq (by exact bC rfl aW sizeOf9 rfl rfl (by omega) (by exact aIC _) (by decide) rfl)<|Cq (gW aQ)<|Cq (by exact aA rfl rfl kO rfl (hkc _))<|Cq pY<|Cq aB<|Nf aB<|Nf aB<|Nf (by exact aZ rfl gF rfl rfl (by omega) (by exact aIC _) hip rfl)<|Nf (by exact bC rfl aW sizeOf9 rfl rfl (by omega) (by exact aIC _) (by decide) rfl)<|Nf (gW aQ)<|Nf (mD aC)<|Nf (by exact bS.eqv (eF rfl rfl rfl) s112)<|Cq cX<|Cq aB<|Nf aB<|Nf (by exact bS.eqv (eF rfl rfl rfl) (t1 (show (0:Int) < (i:Int)by omega)))<|Nf aB<|Nt aB<|Nt aB<|Nt (by exact dG rfl rfl rfl w120) ?_;refine Nt (by exact aZ rfl gF rfl rfl (by omega) (by exact aIC _) hiq rfl)<|Nt (by exact bC rfl aW sizeOf9 rfl rfl (by omega) (by exact aIC _) (by decide) rfl)<|Nt (gW aQ)<|Nt aB<|Nt aB<|Nt (by exact aZ rfl gF rfl rfl (by omega) (by exact aIC _) hip rfl)<|Nt (by exact bC rfl aW sizeOf9 rfl rfl (by omega) (by exact aIC _) (by decide) rfl)<|Nt (gW aQ)<|Nt (by exact bS.eqv (BD rfl rfl rfl) (by rw [hsl]))<|Nf cX<|Cq cX<|cA<|Kr ?_;refine Cn ?_ ?_<;>intro hc14
     ·cases hc14
     refine aF ?_;refine mH 11 follows (aIE rfl) ?_;refine Cq aB<|Cq aB<|Cq aB<|Cq (by exact aZ rfl gF rfl rfl (by omega) (by exact aIC _) hip rfl)<|Cq (by exact bC rfl aW sizeOf9 rfl rfl (by omega) (by exact aIC _) (by decide) rfl)<|Cq (gW aQ)<|Cq aB<|Cq aB<|Cq (by exact aZ rfl gF rfl rfl (by omega) (by exact aIC _) hip rfl)<|Cq (by exact bC rfl aW sizeOf9 rfl rfl (by omega) (by exact aIC _) (by decide) rfl)<|Cq (gW aQ)<|cA<|Kr<|Dd (by exact aA rfl rfl NX rfl (hput p _))<|Dd aR<|Zz<|Rg<|Dd aB<|Dd (by exact bA rfl rfl rfl (show IntKind.i64.wrap ((i:Int)+1)=((i+1:Nat):Int)by rw [eS (by omega) (by omega)];omega))<|Da ?_;refine⟨i+1,⟨by omega,hsp2,hky2⟩,by omega,?_⟩;rw [hnx];exact Wk
    (have h:=aHo hc13;omega)
 have hiu:i=u:=by omega
 have hKt:K.take i=K:=by rw [hiu,← hKl,List.take_length]
 rw [hKt] at hsp hky ⊢;clear hput hbad;refine Sq<|Sr<|Dd aB<|Dd aB<|Dd cP<|Zz ?_;refine Cn ?_ ?_<;>intro hc15
 ·(have h:=aHn hc15;omega)
 refine aV<|Sq<|Sr<|Dd aR<|Zz<|aJ ?_;refine bG (σ:=Nat) (fun i=>([(0,.pv (hU (iA (iI L K) (D.take i)))),(1,sv (ofL t)),(8,iv (u:Int)),(9,iv (m:Int)),(10,.pv (hU K)),(12,.pv (aX D)),(14,iv (i:Int))],[])) (fun i=>i≤m∧qW (D.take i)∧∀ s∈D.take i,cR s=true∧(dX K s).isSome=false) (fun i=>m - i) 0 ⟨aII _,List.Pairwise.nil,fun p hp=>by cases hp⟩ ?_ ?_
 ·exact Wk
 rintro i ⟨hi,hinc,hnm⟩;have hbad:∀ {s:ByteArray},D[i]?=some s→(cR s=false∨(dX K s).isSome=true∨∃ q,0 < i∧D[i - 1]?=some q∧lI q s=false)→¬ WY t:=fun {s} hs hb e=>by
   obtain ⟨_,_,g1,g2⟩:=hvv e;rcases hb with hb|hb|⟨q,h0,hq,hb⟩
   ·rw [(g2 s (aIB hs)).1] at hb;cases hb
   ·rw [(g2 s (aIB hs)).2] at hb;cases hb
   have h1:=List.pairwise_iff_getElem.1 g1 (i - 1) i (by omega) (aHv.1 hs).1 (by omega);rw [(aHv.1 hs).2,(aHv.1 hq).2,hb] at h1;cases h1
 have hdr:=fun s H=>UJ (iA (iI L K) (D.take i)) s (by have h1:=yG (D.take i) (iI L K);have h2:=tH K L;omega) H;by_cases hlt:i < m
 ·obtain ⟨s,hs⟩:=aY (show i < D.length by omega);have his:=cV (f:=encStr) hs;have hnx:iA (iI L K) (D.take (i+1))=nZ (iA (iI L K) (D.take i)) s:=by rw [bW hs,iA,List.foldl_append];rfl
  have hkc:∀ H,aK Tryz.prog 72 [sv s] H (fun r H'=>r=bv (cR s)∧H'=H):=fun H=>L7 s H;have hat:=fun H=>aA1 K s H (by omega);have htw:=LA s hsp;obtain ⟨fd,hfd⟩:∃ fd,fd=(dX K s).isSome:=⟨_,rfl⟩;rw [← hfd] at htw;obtain ⟨ak,hak⟩:∃ ak,ak=CE K s:=⟨_,rfl⟩;rw [← hak] at htw hat;refine Sq<|Sr<|Dd aB<|Dd aB<|Dd cP<|Zz ?_;refine Cn ?_ ?_<;>intro hc16
  ·refine aF<|Sq<|aJ ?_;refine TH ([(0,.pv (hU (iA (iI L K) (D.take i)))),(1,sv (ofL t)),(8,iv (u:Int)),(9,iv (m:Int)),(10,.pv (hU K)),(12,.pv (aX D)),(14,iv (i:Int)),(15,bv fd)]) ([]) ?_ ?_
   ·by_cases ha:ak < u
    ·obtain ⟨p,hp⟩:=aY (show ak < K.length by omega);have hip:=cV (f:=encKV) hp;have h172:AV.pv (.bool (decide (p.1=s)))=bv fd:=by rw [← htw,hp];rfl
     refine bF follows<|Cq aB<|Cq aB<|Cq aB<|Cq (sU cD)<|Cq (gW aQ (hi:=his))<|Cq (by exact aA rfl rfl sS rfl (hat _))<|Cq aB<|Cq (by exact bS.eqv (dB rfl rfl rfl) (t1 (show (ak:Int) < (u:Int)by omega)))<|Cq aB<|Nt aB<|Nt aB<|Nt aB<|Nt aB<|Nt (sU cD)<|Nt (gW aQ (hi:=his))<|Nt (by exact aA rfl rfl sS rfl (hat _))<|Nt (by exact aZ rfl gF rfl rfl (by omega) (by exact aIC _) hip rfl)<|Nt (by exact bC rfl aW sizeOf9 rfl rfl (by omega) (by exact aIC _) (by decide) rfl)<|Nt (gW aQ)<|Nt aB<|Nt aB<|Nt (sU cD)<|Nt (gW aQ (hi:=his))<|Nt (by exact bS.eqv (oV rfl rfl rfl) h172)<|Cq cX<|Cq aR<|cA<|Kr ?_;exact Wk
    have hfF:fd=false:=by rw [← htw,List.getElem?_eq_none (by omega)];rfl
    rw [hfF];refine bF follows<|Cq aB<|Cq aB<|Cq aB<|Cq (sU cD)<|Cq (gW aQ (hi:=his))<|Cq (by exact aA rfl rfl sS rfl (hat _))<|Cq aB<|Cq (by exact bS.eqv (dB rfl rfl rfl) (t0 (show ¬ (ak:Int) < (u:Int)by omega)))<|Cq aB<|Ot<|Ot<|Ot<|Ot<|Ot<|Ot<|Ot<|Ot<|Ot<|Ot<|Ot<|Ot<|Ot<|Ot<|Ot<|Cq cX<|Cq aR<|cA<|Kr ?_;exact Wk
   clear hat htw;have hnm2:cR s=true→fd=false→∀ s'∈D.take (i+1),cR s'=true∧(dX K s').isSome=false:=fun h1 h2 s' hs'=>by
    rw [bW hs] at hs';rcases List.mem_append.1 hs' with h|h
    ·exact hnm s' h
    rw [aHu.1 h,← hfd];exact⟨h1,h2⟩
   cases hnk:cR s with
   | false =>
    have hn:=hbad hs (.inl hnk);rw [hnk] at hkc;refine Sq<|Sq<|bF follows<|Cq aB<|Cq aB<|Cq (sU cD)<|Cq (gW aQ (hi:=his))<|Cq (by exact aA rfl rfl kO rfl (hkc _))<|Cq pY<|Cq aB<|Of<|Of<|Of<|Ou<|Ou<|Ou<|Ou<|Ou<|Ou<|Ou<|Ou<|Ou<|Ou<|Of<|Cq cX<|Cq aB<|Of<|Cq cX<|cA<|Kr ?_;refine Cn ?_ ?_<;>intro hc17
    ·refine Sr<|Dd aR<|Dd aR<|Zz<|aH<|Ru ?_;exact⟨by rw [hA0 hn,hrp hn],rfl⟩
    cases hc17
   | true =>
    rw [hnk] at hkc;by_cases h0:i=0
    ·have hinc2:qW (D.take (i+1)):=by rw [bW hs,h0,List.take_zero];exact List.pairwise_singleton _ _
     refine Sq<|Sq<|bF follows<|Cq aB<|Cq aB<|Cq (sU cD)<|Cq (gW aQ (hi:=his))<|Cq (by exact aA rfl rfl kO rfl (hkc _))<|Cq pY<|Cq aB<|Nf aB<|Nf (by exact bS.eqv (eF rfl rfl rfl) (t0 (show ¬ (0:Int) < (i:Int)by omega)))<|Nf aB<|Ot<|Ot<|Ot<|Ot<|Ot<|Ot<|Ot<|Ot<|Ot<|Ot<|Nf cX<|Cq cX<|Cq aB<|Nf aB<|Cq cX<|cA<|Kr ?_;refine Cn ?_ ?_<;>intro hc18
     ·have e:fd=true:=hc18;have hn:=hbad hs (.inr (.inl (hfd.symm.trans e)));refine Sr<|Dd aR<|Dd aR<|Zz<|aH<|Ru ?_;exact⟨by rw [hA0 hn,hrp hn],rfl⟩
     have e:fd=false:=hc18;refine aF<|Rg<|Dd aB<|Dd aB<|Dd aB<|Dd (sU cD)<|Dd (gW aQ (hi:=his))<|Dd (by exact aA rfl rfl aH3 rfl (hdr s _))<|Dd aR<|Zz<|Rg<|Dd aB<|Dd (by exact bA rfl rfl rfl (show IntKind.i64.wrap ((i:Int)+1)=((i+1:Nat):Int)by rw [eS (by omega) (by omega)];omega))<|Da ?_;refine⟨i+1,⟨by omega,hinc2,hnm2 hnk e⟩,by omega,?_⟩;rw [hnx];exact Wk
    obtain ⟨q,hqq⟩:=aY (show i - 1 < D.length by omega);have hiq:=cV (f:=encStr) hqq;have w186:IntKind.i64.wrap ((i:Int) - 1)=((i - 1:Nat):Int):=by rw [eS (by omega) (by omega)];omega
    cases hsl:lI q s with
    | false =>
     have hn:=hbad hs (.inr (.inr ⟨q,by omega,hqq,hsl⟩));refine Sq<|Sq<|bF follows<|Cq aB<|Cq aB<|Cq (sU cD)<|Cq (gW aQ (hi:=his))<|Cq (by exact aA rfl rfl kO rfl (hkc _))<|Cq pY<|Cq aB<|Nf aB<|Nf (by exact bS.eqv (eF rfl rfl rfl) (t1 (show (0:Int) < (i:Int)by omega)))<|Nf aB<|Nt aB<|Nt aB<|Nt (by exact dG rfl rfl rfl w186)<|Nt (sU cD)<|Nt (gW aQ (hi:=hiq))<|Nt aB<|Nt aB<|Nt (sU cD)<|Nt (gW aQ (hi:=his))<|Nt (by exact bS.eqv (BD rfl rfl rfl) (by rw [hsl]))<|Nf cX<|Cq cX<|Cq aB<|Of<|Cq cX<|cA<|Kr ?_;refine Cn ?_ ?_<;>intro hc19
     ·refine Sr<|Dd aR<|Dd aR<|Zz<|aH<|Ru ?_;exact⟨by rw [hA0 hn,hrp hn],rfl⟩
     cases hc19
    | true =>
     have hinc2:qW (D.take (i+1)):=by
      rw [bW hs];refine XV hinc fun q' hq'=>?_;rw [aIF,Nat.min_eq_left (by omega),List.getElem?_take_of_lt (by omega),hqq] at hq';cases hq';exact hsl
     refine Sq<|Sq<|bF follows<|Cq aB<|Cq aB<|Cq (sU cD)<|Cq (gW aQ (hi:=his))<|Cq (by exact aA rfl rfl kO rfl (hkc _))<|Cq pY<|Cq aB<|Nf aB<|Nf (by exact bS.eqv (eF rfl rfl rfl) (t1 (show (0:Int) < (i:Int)by omega)))<|Nf aB<|Nt aB<|Nt aB<|Nt (by exact dG rfl rfl rfl w186)<|Nt (sU cD)<|Nt (gW aQ (hi:=hiq))<|Nt aB<|Nt aB<|Nt (sU cD)<|Nt (gW aQ (hi:=his))<|Nt (by exact bS.eqv (BD rfl rfl rfl) (by rw [hsl]))<|Nf cX<|Cq cX<|Cq aB<|Nf aB<|Cq cX<|cA<|Kr ?_;refine Cn ?_ ?_<;>intro hc20
     ·have e:fd=true:=hc20;have hn:=hbad hs (.inr (.inl (hfd.symm.trans e)));refine Sr<|Dd aR<|Dd aR<|Zz<|aH<|Ru ?_;exact⟨by rw [hA0 hn,hrp hn],rfl⟩
     have e:fd=false:=hc20;refine aF<|Rg<|Dd aB<|Dd aB<|Dd aB<|Dd (sU cD)<|Dd (gW aQ (hi:=his))<|Dd (by exact aA rfl rfl aH3 rfl (hdr s _))<|Dd aR<|Zz<|Rg<|Dd aB<|Dd (by exact bA rfl rfl rfl (show IntKind.i64.wrap ((i:Int)+1)=((i+1:Nat):Int)by rw [eS (by omega) (by omega)];omega))<|Da ?_;refine⟨i+1,⟨by omega,hinc2,hnm2 hnk e⟩,by omega,?_⟩;rw [hnx];exact Wk
  (have h:=aHo hc16;omega)
 have him:i=m:=by omega
 have hDt:D.take i=D:=by rw [him,← hDl,List.take_length]
 rw [hDt] at hinc hnm ⊢;clear hdr hbad;obtain ⟨ws,wj⟩:=vW (A:=K) (D:=D) (by omega) (by omega) hKm hDm;have htx:=fun H=>L3 K D (by omega) (by omega) ws wj H;have hj2:=fun H=>CS [ofL t] (aIE rfl) (fun s h=>by rw [aHu.1 h,bO];omega) H;have w208:IntKind.i64.wrap ((u:Int)+(m:Int))=((u+m:Nat):Int):=by rw [eS (by omega) (by omega)];omega
 by_cases h0:0 < u+m
 ·by_cases heq:ofL (aT [ofL t])=ofL (MA K D)
  ·have htt:t=aT (dZ K D):=by
    have e1:aT [ofL t]=aT [ofL (aT (dZ K D))]:=by
     have h3:aT [ofL t]=MA K D:=by
      have:=congrArg (fun s=>s.data.toList) heq
      simpa only [bB] using this
     exact h3
    have e2:=D4 e1 (by rw [bO];omega) (by rw [bO];omega);have:=congrArg (fun s=>s.data.toList) e2
    simpa only [bB] using this
   have hTx:TxOk K D:=⟨hsp,hinc,fun p hp=>⟨(hky p hp).1,fun hm=>by
    have h2:=(hnm _ hm).2;rw [KA,aHz] at h2;exact h2 (List.mem_map_of_mem hp),(hky p hp).2⟩,fun s h=>(hnm s h).1,by omega⟩
   obtain ⟨g1,g2,g3⟩:=aDF hTx htt (by omega);refine Sq<|Sr<|Dd aB<|Dd aB<|Dd cP<|Zz ?_;refine Cn ?_ ?_<;>intro hc21
   ·(have h:=aHn hc21;omega)
   refine aV<|Sr<|Dd aB<|Dd aB<|Dd aB<|Dd (by exact bA rfl rfl rfl w208)<|Dd (by exact bS.eqv (eF rfl rfl rfl) (t1 (show (0:Int) < ((u+m:Nat):Int)by omega)))<|Dd aB<|On aB<|On (by exact bD [[.str (ofL t)]] rfl cD rfl rfl rfl rfl rfl (by simp))<|On (by exact aA rfl rfl ZB rfl (hj2 _))<|On aB<|On aB<|On (by exact aA rfl rfl aCb rfl (htx _))<|On (by exact bS.eqv (oV rfl rfl rfl) (t1 heq))<|Dd cX<|Dd aR<|Dd aR<|Zz<|aH<|Ru ?_;exact⟨by rw [hAE hsp hky hinc hnm,g1],rfl⟩
  have hf:iK t=false:=by
   cases e:iK t with
   | false=>rfl
   | true =>
    exact absurd (by rw [MA,← (hgr e).1]) heq
  refine Sq<|Sr<|Dd aB<|Dd aB<|Dd cP<|Zz ?_;refine Cn ?_ ?_<;>intro hc22
  ·(have h:=aHn hc22;omega)
  refine aV<|Sr<|Dd aB<|Dd aB<|Dd aB<|Dd (by exact bA rfl rfl rfl w208)<|Dd (by exact bS.eqv (eF rfl rfl rfl) (t1 (show (0:Int) < ((u+m:Nat):Int)by omega)))<|Dd aB<|On aB<|On (by exact bD [[.str (ofL t)]] rfl cD rfl rfl rfl rfl rfl (by simp))<|On (by exact aA rfl rfl ZB rfl (hj2 _))<|On aB<|On aB<|On (by exact aA rfl rfl aCb rfl (htx _))<|On (by exact bS.eqv (oV rfl rfl rfl) (t0 heq))<|Dd cX<|Dd aR<|Dd aR<|Zz<|aH<|Ru ?_;exact⟨by rw [hAE hsp hky hinc hnm,hf],rfl⟩
 have hf:iK t=false:=by
  cases e:iK t with
  | false=>rfl
  | true =>
   exact absurd (hgr e).2 h0
 refine Sq<|Sr<|Dd aB<|Dd aB<|Dd cP<|Zz ?_;refine Cn ?_ ?_<;>intro hc23
 ·(have h:=aHn hc23;omega)
 refine aV<|Sr<|Dd aB<|Dd aB<|Dd aB<|Dd (by exact bA rfl rfl rfl w208)<|Dd (by exact bS.eqv (eF rfl rfl rfl) (t0 (show ¬ (0:Int) < ((u+m:Nat):Int)by omega)))<|Dd aB<|Fo<|Fo<|Fo<|Fo<|Fo<|Fo<|Fo<|Dd cX<|Dd aR<|Dd aR<|Zz<|aH<|Ru ?_;exact⟨by rw [hAE hsp hky hinc hnm,hf],rfl⟩
theorem L4 {s:DSt} (x:RX) (hs:DOk s) (hoff:s.off=false) {n:Nat} (hn:n < s.cells.length) (H:aE) (hH:lZ H (dA s x)):aK Tryz.prog 63 [.ref 1100 0 0 0,iv (n:Int)] H (fun r H'=>r=.tup [sv (cH s n),iv 0]∧H'=H):=aK.frameS (OX (x:=x) hs hoff hn) hH.sub (DW s x) (by simp;rfl)
def UZ (i N:Nat):Int:=if i < N then 0 else 1
abbrev aGp (k a n:Nat) (A:PV) (b:Bool):Ob:=⟨0,6,110,[[.ref 1100 0 0 0,iv (k:Int),iv (a:Int),iv (n:Int),.pv A,bv b]]⟩
def ZE (L:List ByteArray):Nat:=(L.map fun s=>s.size).sum
theorem T5 (A B:List ByteArray):ZE (A++B)=ZE A+ZE B:=by rw [ZE,List.map_append,List.sum_append];rfl
theorem aCt (s:ByteArray):ZE [s]=s.size:=by rw [ZE,List.map_cons,List.map_nil,List.sum_cons,List.sum_nil];rfl
theorem Z1 (L:List ByteArray) (i:Nat):ZE (L.take i)≤ZE L:=by
 conv=>rhs;rw [← List.take_append_drop i L,T5]
 omega
theorem aEm {L:KP} (h:SP L) (t:List UInt8):SP (rcP L t):=FL (AW h)
theorem aAv {L:KP} (h:SP L) (t:List UInt8) (y:ByteArray):dX (rcP L t) y=vC (dX L) (fU t).1 (eJ t) y:=by rw [rcP,wM y (AW h),zP y L (uA (C9 _ _).2),oD,vC]
theorem aDK (L:KP) {t:List UInt8} (h:iK t=true):(rcP L t).length≤L.length+t.length:=by have h1:=yG (eJ t) (iI L (prs (fU t).1));have h2:=tH (prs (fU t).1) L;have h3:=JT (uG h).2.1;rw [oL] at h2;rw [rcP];omega
def ckJ (o:Bool) (C:List ByteArray) (i:Nat):Bool:=o&&(C.take i).all fun c=>iK c.data.toList
theorem aBj {o:Bool} {C:List ByteArray} {i:Nat} {c:ByteArray} (h:C[i]?=some c):ckJ o C (i+1)=(ckJ o C i&&iK c.data.toList):=by rw [ckJ,ckJ,bW h,List.all_append,List.all_cons,List.all_nil,Bool.and_true,Bool.and_assoc]
theorem aBi {o:Bool} {C:List ByteArray} {i:Nat} (h:ckJ o C i=false):(o&&C.all fun c=>iK c.data.toList)=false:=by
 rw [ckJ,Bool.and_eq_false_iff] at h;rw [Bool.and_eq_false_iff];rcases h with h|h
 ·exact .inl h
 right;rw [← List.take_append_drop i C,List.all_append,h];rfl
theorem aDG {d:DSt} {x:RX} {N:Nat} (h:OnD d N) (hp:cY d) (hN:4≤N) (hN1:N≤200) (k a n:Nat) (hd:Bool) (hk:k=(N - 2) / 2) (hA:a=sV d k) (hNn:n=rQ d k) (hH:hd=C7 d k) :
  aK Tryz.prog 32 [.ref 1100 0 0 0] (dA d x) (fun r H'=>(kK d k=true∧r=.tup [.pv .nilp,iv 23]∧H'=dA d x) ∨
   (kK d k=false∧¬ (rsB d a n hd).1=0∧r=.tup [.pv .nilp,iv (rsB d a n hd).1]∧∃ x',H'=dA (rsB d a n hd).2 x') ∨
   (kK d k=false∧(rsB d a n hd).1=0∧r=.tup [.ref 1200 0 0 0,iv 0]∧∃ x' L,SP L∧(∀ y,dX L y=OA d k a n y)∧H'=jH (rsB d a n hd).2 x' (gO k a n L false))):=by
 have hs:=h.inv.ok;have hoff:=h.off;have hcn:=h.inv.n;have hn2:=hs.n2;have hbd:=xQ d k;rw [← hA,← hNn] at hbd;have hak:a*k≤1*k:=Nat.mul_le_mul (by omega) (aHx _);have hbad:kK d k=((!hd&&!decide (cH d 0=zS))||!zQ d k a n):=by rw [kK,← hA,← hNn,← hH]
 have hrE:∀ i:Nat,fS d (i:Int)=UZ i N:=fun i=>by
  rw [fS,hoff,aHp (by decide),fY,hcn,UZ];by_cases e:i < N
  ·rw [aHq (decide_eq_true e),aHq e]
  rw [aHp (by rw [decide_eq_false e];decide),aHp e]
 have hrd0:=xI d x 0 hs;rw [show fS d 0=UZ 0 N from hrE 0] at hrd0;refine Bd aC7 rfl Y8<|Sr<|Dd aR<|Dd aR<|Zz<|Sq<|Sr<|Dd aB<|Dd (by exact bR rfl cZ rfl rfl rfl rfl)<|Zz ?_;refine Cn ?_ ?_<;>intro hc1
 ·cases hc1
 refine aF<|Sr<|Dd aR<|Zz<|Sr<|Dd aB<|Dd aB<|Dd (by exact aA rfl rfl oK rfl (hrd0))<|Dd aB<|Dd eC<|Dd eC<|Dd aR<|Dd aR<|Zz<|Sq<|aJ ?_;refine bG (σ:=Nat) (fun i=>([(0,.ref 1100 0 0 0),(4,iv (i:Int)),(6,iv (UZ i N))],dA d x)) (fun i=>i≤N) (fun i=>N - i) 0 (aII _) ?_ ?_
 ·exact(cC.wk (Ea<|Eb<|Eb<|trivial) (Hc (bE _ _ _ rfl rfl)<|Hb<|Hc (aD _ _ _)<|trivial) ⟨rfl,rfl,rfl,trivial⟩)
 intro i hi;have hrd:=xI d x ((i+1:Nat):Int) hs;rw [hrE (i+1)] at hrd;refine Sq<|Sr<|Dd aB<|Dd eP<|Zz ?_;refine Cn ?_ ?_<;>intro hc2
 ·have hq:i < N:=by have h:=aHn hc2;rw [UZ] at h;split at h;exact(by assumption);cases h
  refine aF<|aJ<|Sr<|Dd aB<|Dd (by exact bA rfl rfl rfl (show IntKind.i64.wrap ((i:Int)+1)=((i+1:Nat):Int)by rw [eS (by omega) (by omega)];omega))<|Dd aR<|Zz<|Rg<|Dd aB<|Dd aB<|Dd (by exact aA rfl rfl oK rfl (hrd))<|Dd aB<|Dd eC<|Dd eC<|Da ?_;exact⟨i+1,by omega,by omega,(cC.wk (Ea<|Eb<|Eb<|trivial) (Hc (bE _ _ _ rfl rfl)<|Hb<|Hc (aD _ _ _)<|trivial) ⟨rfl,rfl,rfl,trivial⟩)⟩
 have hq:i=N:=by have h:=aHo hc2;rw [UZ] at h;split at h;exact absurd rfl h;omega
 have hk1:UZ i N=1:=aHp (by omega);rw [hk1,hq];have hkq:IntKind.i64.wrap (((N:Int) - 2).tdiv 2)=(k:Int):=by
  rw [Int.tdiv_eq_ediv_of_nonneg (by omega),eS (by omega) (by omega),hk];omega
 refine aV<|Sq<|Sr<|Dd aB<|Dd eP<|Zz ?_;refine Cn ?_ ?_<;>intro hc3
 ·cases hc3
 refine aF<|Sq<|Sr<|Dd aB<|Dd cP<|Zz ?_;refine Cn ?_ ?_<;>intro hc4
 ·(have h:=aHn hc4;omega)
 refine aF<|Sr<|Dd aB<|Dd aB<|Dd (by exact dG rfl rfl rfl (eS (by omega) (by omega)))<|Dd (by exact nH rfl rfl rfl (by decide) hkq)<|Dd (RA aGV)<|Dd (by exact jQ (id:=1200) rfl rfl rfl rfl rfl)<|Dd aR<|Zz<|Sq ?_;refine iF.ent (E':=[(0,.ref 1100 0 0 0),(7,.ref 1200 0 0 0)]) (H':=jH d x (gO k 0 0 [] false)) (cC.wk (Ea<|Ea<|trivial) (Hc (bE _ _ _ rfl rfl)<|Hb<|Hc (aD _ _ _)<|Ha<|trivial) ⟨rfl,rfl,rfl,trivial⟩) ?_;have hhd1:=fun H=>UI k 1 (cH d 1) (kU hs (by omega)) (by omega) (by omega) H;have hhd0:=fun H=>UI k 0 (cH d 0) (kU hs (by omega)) (by omega) (by omega) H;obtain ⟨b1,hb1⟩:∃ b,b=kJ k 1 (cH d 1):=⟨_,rfl⟩;obtain ⟨b0,hb0⟩:∃ b,b=kJ k 0 (cH d 0):=⟨_,rfl⟩;rw [← hb1] at hhd1;rw [← hb0] at hhd0;have hHe:hd=(b1||b0):=by rw [hH,C7,zN,← hb1,← hb0]
 have hAe:a=if b1=true then pF (cH d 1)else if b0=true then pF (cH d 0)else 0:=by rw [hA,sV,zN,← hb1,← hb0]
 have hNe:n=if b1=true then pE (cH d 1)else if b0=true then pE (cH d 0)else 0:=by rw [hNn,rQ,zN,← hb1,← hb0]
 clear hb1 hb0;refine Rg<|Dd aB<|Dd (by exact aA rfl rfl oK rfl (L4 x hs hoff (n:=0) (by omega) _ ⟨rfl,rfl,rfl,trivial⟩))<|Dd aB<|Dd eC<|Dd eC<|Dd aR<|Dd aR<|Zz<|Sr<|Dd aB<|Dd (by exact aA rfl rfl oK rfl (L4 x hs hoff (n:=1) (by omega) _ ⟨rfl,rfl,rfl,trivial⟩))<|Dd aB<|Dd eC<|Dd eC<|Dd aR<|Dd aR<|Zz<|Sr<|Dd aB<|Dd aB<|Dd dY<|Dd (cI yF)<|Dd (cW aL)<|Dd (by exact aA rfl rfl call64 rfl (hhd1 _))<|Dd aB<|Dd eC<|Dd eC<|Dd eC<|Dd aR<|Dd aR<|Da ?_;refine fZ (fun(_:Unit)=>([(0,.ref 1100 0 0 0),(7,.ref 1200 0 0 0),(8,sv (cH d 0)),(12,iv (a:Int)),(13,iv (n:Int)),(14,bv hd)],jH d x (gO k 0 0 [] false))) (fun _=>True) ?_ ?_
 ·refine Sr<|Dd aB<|Dd pY<|Zz ?_;refine Cn ?_ ?_<;>intro hc5
  ·have e1:b1=false:=by have h:=hc5;simpa using h
   rw [e1,aHp Bool.false_ne_true] at hAe hNe;rw [← hAe,← hNe] at hhd0;have e2:hd=b0:=by rw [hHe,e1];rfl
   rw [← e2] at hhd0;refine Rg<|Dd aB<|Dd aB<|Dd dY<|Dd (cI yF)<|Dd (cW aL)<|Dd (by exact aA rfl rfl call64 rfl (hhd0 _))<|Dd aB<|Dd eC<|Dd eC<|Dd eC<|Dd aR<|Dd aR<|Da ?_;exact⟨(),trivial,(cC.wk (Ea<|Ea<|Eb<|Eb<|Eb<|Eb<|trivial) (Hc (bE _ _ _ rfl rfl)<|Hb<|Hc (aD _ _ _)<|Ha<|trivial) ⟨rfl,rfl,rfl,trivial⟩)⟩
  have e1:b1=true:=by have h:=hc5;simpa using h
  have e2:hd=true:=by rw [hHe,e1];rfl
  rw [e1,aHq rfl] at hAe hNe;refine aF ?_;rw [e1,e2];refine⟨(),trivial,?_⟩;rw [hAe,hNe];exact(cC.wk (Ea<|Ea<|Eb<|Eb<|Eb<|Eb<|trivial) (Hc (bE _ _ _ rfl rfl)<|Hb<|Hc (aD _ _ _)<|Ha<|trivial) ⟨rfl,rfl,rfl,trivial⟩)
 rintro _ -;clear hHe hAe hNe hhd1 hhd0 hrd hrd0 hc1 hc2 hc3 hc4 hA hNn hH;have hzz:=fun H=>wB 64 (by decide) H;refine Sq<|Sq ?_;refine cQ (t:=90) (n:=8) (X:=!hd&&!decide (cH d 0=zS)) ?_ ?_
 ·all_goals refine Dd aB ?_
  all_goals refine Dd pY<|Dm ?_
  all_goals refine Sp 86 (fun h86=>?_) fun h86=>?_
  all_goals try contradiction
  all_goals first|refine Fo<|Fo<|Fo ?_|refine On aB<|On (by exact aA rfl rfl CI rfl (hzz _))<|On ZG ?_
  all_goals refine Dd cX<|Zz ?_
  all_goals(exact⟨⟨_,rfl,by(rw [h86];rfl)⟩,rfl,rfl,rfl⟩)
 refine Cn ?_ ?_<;>intro hc6
 ·have hq9:=hc6;have hbt:kK d k=true:=by rw [hbad,hq9];rfl
  refine Sr<|Dd aR<|Dd aR<|Zz<|aH ?_;refine fF (H':=(dA d x)) (.inr rfl) rfl (aI rfl) (aI rfl) (Fin.wk (by(simp;done)) (Hc (bE _ _ _ rfl rfl)<|Hb<|Hc (aD _ _ _)<|trivial) ⟨rfl,rfl,rfl,trivial⟩) ?_;exact .inl ⟨hbt,rfl,rfl⟩
 have hq9:=hc6;have hbad:kK d k=!zQ d k a n:=by rw [hbad,hq9];rfl
 clear hq9;refine aF<|Sr<|Dd aB<|Dd aB<|Dd dY<|Dd (cI yE)<|Uu (by exact bU rfl sizeOf3 rfl rfl rfl rfl rfl rfl (by simp only [aHt,List.length_nil];omega) (by simp only [Zl,encStr,encKV,fC];rfl) (by simp only [Zl,encStr,encKV,fC];rfl))<|Zz<|Sr<|Dd aB<|Dd aB<|Dd dY<|Dd (cI vA)<|Uu (by exact bU rfl sizeOf3 rfl rfl rfl rfl rfl rfl (by simp only [aHt,List.length_nil];omega) (by simp only [Zl,encStr,encKV,fC];rfl) (by simp only [Zl,encStr,encKV,fC];rfl))<|Zz<|Sr<|Dd (by exact eU (id:=905) (sz:=1) (ty:=5) rfl rfl rfl)<|Zz<|Sq<|Sr<|Dd aR<|Zz<|aJ ?_;have hpls:∀ j,j < n→2+a*k+j < d.cells.length:=fun j hj=>by omega
 have hTl:=BM (k:=k) (a:=a) hs n hpls;refine bG (σ:=Nat) (fun i=>([(0,.ref 1100 0 0 0),(7,.ref 1200 0 0 0),(12,iv (a:Int)),(13,iv (n:Int)),(14,bv hd),(15,.osl 905 i 0 (pI d k a i).length),(16,iv (i:Int))],(905,⟨i,1,5,bP (pI d k a i)⟩)::jH d x (gO k a n [] false))) (fun i=>i≤n∧∀ j,j < i→¬ Q8 d k a j=sNil) (fun i=>n - i) 0 ⟨aII _,fun j hj=>absurd hj (Nat.not_lt_zero _)⟩ ?_ ?_
 ·exact(cC.wk (Ea<|Ea<|Eb<|Eb<|Eb<|Ea<|Eb<|trivial) (Hc (aG _ _)<|Hc (bE _ _ _ rfl rfl)<|Hb<|Hc (aD _ _ _)<|Ha<|trivial) ⟨rfl,rfl,rfl,trivial⟩)
 clear hi hq;rintro i ⟨hi,hnz⟩;have hl0:=hTl i hi;refine Sq<|Sr<|Dd aB<|Dd aB<|Dd cP<|Zz ?_;refine Cn ?_ ?_<;>intro hc7
 ·have hlt:i < n:=by have:=aHn hc7;omega
  have hpl:=F0 d x k a n a i [] false (by omega) (by omega) (by omega);have hpi:=hpls i hlt;have hpc:∀ H,aK Tryz.prog 67 [iv ((2+a*k+i:Nat):Int),sv (cH d (2+a*k+i))] H (fun r H'=>r=sv (Q8 d k a i)∧H'=H):=fun H=>aAT (2+a*k+i) _ (kU hs hpi) (by omega) H;have hnx:=DB d k a i;have hl1:=hTl (i+1) (by omega);have hln:(pI d k a (i+1)).length=(pI d k a i).length+(Q8 d k a i).size:=by rw [hnx,aHs,dP]
  refine aF<|Sq<|aJ<|Sr<|Dd aB<|Dd aB<|Dd aB<|Dd aB<|Dd (by exact aA rfl rfl NY rfl (FX hpl _ ⟨rfl,rfl,rfl,rfl,trivial⟩ (by simp;rfl)))<|Dd (by exact aA rfl rfl oK rfl (L4 x hs hoff hpi _ ⟨rfl,rfl,rfl,trivial⟩))<|Dd aB<|Dd eC<|Dd eC<|Dd aR<|Dd aR<|Zz<|Sr<|Dd aB<|Dd aB<|Dd aB<|Dd (by exact aA rfl rfl NY rfl (FX hpl _ ⟨rfl,rfl,rfl,rfl,trivial⟩ (by simp;rfl)))<|Dd aB<|Dd (by exact aA rfl rfl call67 rfl (hpc _))<|Dd aR<|Zz<|Sq<|Sr<|Dd aB<|Dd se'<|Zz ?_;refine Cn ?_ ?_<;>intro hc8
  ·have he:Q8 d k a i=sNil:=aHn hc8;have hbt:kK d k=true:=by
    rw [hbad,zQ,show GU d k a n=false from List.all_eq_false.2 ⟨i,List.mem_range.2 hlt,by rw [he];decide⟩];rfl
   refine Sr<|Dd aR<|Dd aR<|Zz<|aH ?_;refine fF (H':=(dA d x)) (.inr rfl) rfl (aI rfl) (aI rfl) (Fin.wk (by(simp;done)) (Hc (bE _ _ _ rfl rfl)<|Hb<|Hc (aD _ _ _)<|trivial) ⟨rfl,rfl,rfl,trivial⟩) ?_;exact .inl ⟨hbt,rfl,rfl⟩
  have he:¬ Q8 d k a i=sNil:=aHo hc8;refine aF<|Rg<|Dd aB<|Dd aB<|Dd (by exact nA rfl sZ aC X8 ZT rfl rfl rfl rfl rfl (by simp [bP]) rfl (by omega) (by omega:_=(pI d k a (i+1)).length) (by rw [hnx];exact HS _ _:_=bP (pI d k a (i+1))))<|Dd aR<|Zz<|Rg<|Dd aB<|Dd (by exact bA rfl rfl rfl (show IntKind.i64.wrap ((i:Int)+1)=((i+1:Nat):Int)by rw [eS (by omega) (by omega)];omega))<|Da ?_;exact⟨i+1,⟨by omega,fun j hj=>by
   rcases Nat.lt_succ_iff_lt_or_eq.1 hj with h|rfl
   ·exact hnz j h
   exact he⟩,by omega,(cC.wk (Ea<|Ea<|Eb<|Eb<|Eb<|Ea<|Eb<|trivial) (Hc (aG _ _)<|Hc (bE _ _ _ rfl rfl)<|Hb<|Hc (aD _ _ _)<|Ha<|trivial) ⟨rfl,rfl,rfl,trivial⟩)⟩
 have hge:n=i:=by have:=aHo hc7;omega
 subst hge;have hall:GU d k a n=true:=List.all_eq_true.2 fun j hj=>by rw [decide_eq_false (hnz j (List.mem_range.1 hj))];rfl
 have hok:kK d k=!((cS (PO d k a n)).2&&(cS (PO d k a n)).1.all fun c=>iK c.data.toList):=by rw [hbad,zQ,hall,Bool.true_and]
 have hTn:PO d k a n=pI d k a n:=rfl;have hC:OA d k a n=pT ((cS (PO d k a n)).1.map fun c=>c.data.toList):=rfl;rw [hTn] at hok hC;have hspl:=fun H=>FY (pI d k a n) (by omega) H;have hsm:ZE (cS (pI d k a n)).1≤(pI d k a n).length:=FK (pI d k a n);have hb:((bP (pI d k a n)).drop 0).take (pI d k a n).length=bP (pI d k a n):=by
  rw [List.drop_zero,List.take_of_length_le (by simp [bP])]
 obtain ⟨C,hCe⟩:∃ C,C=(cS (pI d k a n)).1:=⟨_,rfl⟩;obtain ⟨o,hoe⟩:∃ o,o=(cS (pI d k a n)).2:=⟨_,rfl⟩;have hCl:C.length≤46*n:=by rw [hCe];exact Nat.le_trans (AZ _) hl0
 rw [← hCe,← hoe] at hspl hok;rw [← hCe] at hsm hC;clear hbad hall hnz hCe hoe hTn;have hml:(C.map encStr).length=C.length:=aHr _;refine aV<|Sr<|Dd aB<|Dd (by exact fM rfl cL bV aC rfl rfl rfl rfl hb rfl)<|Dd (by exact aA rfl rfl call68 rfl (hspl _))<|Dd aB<|Dd eC<|Dd eC<|Dd aR<|Dd aR<|Zz<|Sq<|Sr<|Dd aR<|Zz<|aJ ?_;refine yM (fun(i:Nat) (A:PV) (g:Bool)=>([(0,.ref 1100 0 0 0),(7,.ref 1200 0 0 0),(14,bv hd),(20,.pv (aX C)),(21,bv g),(22,iv (i:Int))],jH d x (aGp k a n A false))) (fun i A g=>i≤C.length∧g=ckJ o C i∧(g=true→∃ L,A=hU L∧SP L∧L.length≤ZE (C.take i)∧∀ y,dX L y=pT ((C.take i).map fun c=>c.data.toList) y)) (fun i A g=>C.length - i) 0 (hU []) o ⟨aII _,by rw [ckJ,List.take_zero];exact(Bool.and_true o).symm,fun _=>⟨[],rfl,List.Pairwise.nil,aII _,fun y=>rfl⟩⟩ ?_ ?_
 ·exact(cC.wk (Ea<|Ea<|Eb<|Eb<|Eb<|Eb<|trivial) (Hc (bE _ _ _ rfl rfl)<|Hb<|Hc (aD _ _ _)<|Ha<|trivial) ⟨rfl,rfl,rfl,trivial⟩)
 clear hi hc7;rintro i A g ⟨hi,hg,hL⟩;refine Sq<|Sq ?_;refine cQ (t:=136) (n:=8) (X:=decide ((i:Int) < ((C.map encStr).length:Int))&&g) ?_ ?_
 ·all_goals refine Dd aB ?_
  all_goals refine Dd aB<|Dd (jY aO)<|Dd cP<|Dm ?_
  all_goals refine Sp 134 (fun h134=>?_) fun h134=>?_
  all_goals try contradiction
  all_goals first|refine Fo ?_|refine On aB ?_
  all_goals refine Dd cX<|Zz ?_
  all_goals(exact⟨⟨_,rfl,by(rw [h134];rfl)⟩,rfl,rfl,rfl⟩)
 refine Cn ?_ ?_<;>intro hc9
 ·have hq:=hc9;rw [aIA,aHy,hml] at hq;have hlt:i < C.length:=by omega
  obtain ⟨L,rfl,hsp,hLl,hlk⟩:=hL hq.2;obtain ⟨c,hc⟩:=aY hlt;have hic:=cV (f:=encStr) hc;have hsz1:ZE (C.take (i+1))=ZE (C.take i)+c.size:=by rw [bW hc,T5,aCt]
  have hszt:=Z1 C (i+1);obtain ⟨A',hA',hcm⟩:=WV L c.data.toList (by omega) (by rw [dP];omega);rw [MP] at hcm;obtain ⟨g2,hg2⟩:∃ g,g=iK c.data.toList:=⟨_,rfl⟩;rw [← hg2] at hcm hA';refine aF<|Sq<|aJ<|bF follows<|Cr [1200] (fun _ _=>aB)<|Cr [1200] (fun _ _=>aB)<|Cr [1200] (fun H1 hH=>by exact bK rfl rfl ((hH _ rfl).trans rfl) rfl)<|Cr [1200] (fun _ h=>fh nL h)<|Cr [1200] (fun _ h=>lh dJ h)<|Cr [] (fun _ _=>aB)<|Cr [] (fun _ _=>aB)<|Cr [] (fun _ _=>(sU cD))<|Cr [] (fun _ _=>(gW aQ (hi:=hic)))<|Cr [] (fun H1 hH=>by exact aA rfl rfl call69 rfl (hcm _))<|Cr [] (fun _ _=>aB)<|Cr [] (fun _ _=>eC)<|Cr [] (fun _ _=>eC)<|Cr [1200] (fun H1 hH=>by exact bK rfl rfl ((hH _ rfl).trans rfl) rfl)<|Cr [1200] (fun _ h=>fh nL h)<|Cp [1200] (fun H1 hH=>by exact bU rfl sizeOf35 rfl rfl rfl ((hH _ rfl).trans rfl) rfl rfl (by simp only [aHt,List.length_nil];omega) (by simp only [Zl,encStr,encKV,fC];rfl) (by simp only [Zl,encStr,encKV,fC];rfl)) ?_;refine Cr [] (fun _ _=>aR)<|cA<|Kr<|Rg<|Dd aB<|Dd (by exact bA rfl rfl rfl (show IntKind.i64.wrap ((i:Int)+1)=((i+1:Nat):Int)by rw [eS (by omega) (by omega)];omega))<|Da ?_;refine⟨i+1,A',g2,⟨by omega,by rw [aBj hc,← hg,hq.2,Bool.true_and,hg2],fun hr=>?_⟩,by omega,(cC.wk (Ea<|Ea<|Eb<|Eb<|Eb<|Eb<|trivial) (Hc (bE _ _ _ rfl rfl)<|Hb<|Hc (aD _ _ _)<|Ha<|trivial) ⟨rfl,rfl,rfl,trivial⟩)⟩;refine⟨_,hA' hr,aEm hsp _,?_,fun y=>?_⟩
  ·have h1:=aDK L (hg2.symm.trans hr);rw [dP] at h1;omega
  rw [aAv hsp,bW hc,List.map_append];show _=pT (_++[c.data.toList]) y;rw [vD,ctA,show dX L=pT ((C.take i).map fun c=>c.data.toList)from funext hlk]
 have hq:=hc9;rw [Bool.and_eq_false_iff,aHz,hml] at hq;refine aV<|Sq<|Sr<|Dd aB<|Dd pY<|Zz ?_;refine Cn ?_ ?_<;>intro hc10
 ·have hgf:g=false:=by have h:=hc10;simpa using h
  have hbt:kK d k=true:=by
   rw [hok,aBi (hg.symm.trans hgf)];rfl
  refine Sr<|Dd aR<|Dd aR<|Zz<|aH ?_;refine fF (H':=(dA d x)) (.inr rfl) rfl (aI rfl) (aI rfl) (Fin.wk (by(simp;done)) (Hc (bE _ _ _ rfl rfl)<|Hb<|Hc (aD _ _ _)<|trivial) ⟨rfl,rfl,rfl,trivial⟩) ?_;exact .inl ⟨hbt,rfl,rfl⟩
 have hgt:g=true:=by have h:=hc10;simpa using h
 have hie:i=C.length:=by
  rcases hq with h|h
  ·omega
  rw [hgt] at h;cases h
 obtain ⟨L,rfl,hsp,hLl,hlk⟩:=hL hgt;rw [hie,List.take_length] at hlk;have hbf:kK d k=false:=by
  rw [hgt,hie,ckJ,List.take_length] at hg;rw [hok,← hg];rfl
 rw [← hC] at hlk;have hrs:=RY (x:=x) h hp k a n hd L (by omega) (by omega) (by omega);refine aF<|Sr<|Dd aB<|Dm ?_;refine gC rfl rfl (aA rfl rfl call70 rfl hrs) ?_;rintro _ _ ⟨rfl,x',rfl⟩;refine Dd aR<|Zz<|Sq<|Sr<|Dd aB<|Dd tM<|Zz ?_;refine Cn ?_ ?_<;>intro hc11
 ·have he:¬ (rsB d a n hd).1=0:=by have h:=hc11;simpa using h
  refine Sr<|Dd aB<|Dd aR<|Dd aR<|Zz<|aH ?_;refine fF (H':=(dA (rsB d a n hd).2 x')) (.inr rfl) rfl (aI rfl) (aI rfl) (Fin.wk (by(simp;done)) (Hc (bE _ _ _ rfl rfl)<|Hb<|Hc (aD _ _ _)<|trivial) ⟨rfl,rfl,rfl,trivial⟩) ?_;exact .inr (.inl ⟨hbf,he,rfl,_,rfl⟩)
 have he:(rsB d a n hd).1=0:=by have h:=hc11;simpa using h
 have hb2:(!decide ((rsB d a n hd).1=0))=false:=by rw [decide_eq_true he];rfl
 rw [hb2];refine aF<|Sr<|Dd aB<|Dd aR<|Dd aR<|Zz<|aH ?_;refine fF (H':=(jH (rsB d a n hd).2 x' (gO k a n L false))) (.inr rfl) rfl (aI rfl) (aI rfl) (Fin.wk (by(simp;rfl)) (Hc (bE _ _ _ rfl rfl)<|Hb<|Hc (aD _ _ _)<|Ha<|trivial) ⟨rfl,rfl,rfl,trivial⟩) ?_;exact .inr (.inr ⟨hbf,he,rfl,_,L,hsp,hlk,rfl⟩)
def I6 (P:List ByteArray):KP:=P.foldl (fun A s=>tI A s sNil) []
theorem B0 (P:List ByteArray) (s:ByteArray):I6 (P++[s])=tI (I6 P) s sNil:=by rw [I6,I6,List.foldl_append];rfl
theorem QC (P:List ByteArray):SP (I6 P)∧(I6 P).length≤P.length∧∀ x,dX (I6 P) x=if x∈P then some sNil else none:=by
 have go:∀ (R A:List ByteArray),(SP (I6 A)∧(I6 A).length≤A.length∧∀ x,dX (I6 A) x=if x∈A then some sNil else none)→SP (I6 (A++R))∧(I6 (A++R)).length≤(A++R).length∧∀ x,dX (I6 (A++R)) x=if x∈A++R then some sNil else none:=by
  intro R
  induction R with
  | nil=>intro A h;rw [List.append_nil];exact h
  | cons s R ih =>
   intro A ⟨h1,h2,h3⟩;rw [show A++s::R=(A++[s])++R by simp];refine ih (A++[s]) ⟨?_,?_,fun x=>?_⟩
   ·rw [B0];exact LS h1
   ·have h4:=A6 s sNil (I6 A);rw [B0,aHs,List.length_singleton];omega
   rw [B0,xY,h3];by_cases e:s=x
   ·rw [aHq e,aHq (by rw [← e];simp)]
   rw [aHp e];by_cases e2:x∈A
   ·rw [aHq e2,aHq (List.mem_append_left _ e2)]
   rw [aHp e2,aHp (fun h=>(List.mem_append.1 h).elim e2 fun h=>e (aHu.1 h).symm)]
 have h:=go P [] ⟨List.Pairwise.nil,aHx _,fun x=>by rw [aHp aIH];rfl⟩
 rwa [List.nil_append] at h
theorem YA (P:List ByteArray):(I6 P).map Prod.fst=fN P:=by
 obtain ⟨h1,_,h3⟩:=QC P;refine aDi (List.pairwise_map.2 h1) (B3 P) fun x=>?_;have h4:=kS (L:=I6 P) (x:=x);rw [h3 x] at h4;rw [sF];by_cases e:x∈P
 ·rw [aHq e] at h4;exact⟨fun _=>e,fun _=>Classical.byContradiction fun h=>by cases h4.2 h⟩
 rw [aHp e] at h4;exact⟨fun h=>absurd h (h4.1 rfl),fun h=>absurd h e⟩
theorem BK {l:cN} (h:gX l) {x v:ByteArray}:(x,v)∈prs l↔∃ n,(x,v,n)∈l:=by rw [← qG (uA h),oD];exact⟨uT,fun⟨n,hn⟩=>wN h hn⟩
def QW (p:ByteArray×ByteArray):Bool:=decide ((20000:Int) < (p.2.size:Int))
theorem aEK {l:cN} (h:gX l):(prs l).any QW=l.any bigV:=Bool.eq_iff_iff.2 ⟨fun h1=>by
 obtain ⟨⟨x,v⟩,hp,hb⟩:=List.any_eq_true.1 h1;obtain ⟨n,hn⟩:=(BK h).1 hp;exact List.any_eq_true.2 ⟨_,hn,hb⟩,fun h1=>by
 obtain ⟨⟨x,v,n⟩,hp,hb⟩:=List.any_eq_true.1 h1;exact List.any_eq_true.2 ⟨_,(BK h).2 ⟨n,hp⟩,hb⟩⟩
theorem aCp {l:cN} {P:List ByteArray} {s:ByteArray} (hs:s∈P) (h:cR s=false∨s∈l.map Prod.fst):bX l P=1:=by
 rw [bX];rcases h with h|h
 ·rw [List.any_eq_true.2 ⟨s,hs,by rw [h];rfl⟩,Bool.or_true];rfl
 obtain ⟨p,hp,rfl⟩:=List.mem_map.1 h;rw [List.any_eq_true.2 ⟨p,hp,by rw [AI,lC.2 hs,Bool.or_true]⟩];rfl
theorem aEe {l:cN} {P:List ByteArray} {p:ByteArray×ByteArray×Nat} (hp:p∈l) (h:cR p.1=false):bX l P=1:=by rw [bX,List.any_eq_true.2 ⟨p,hp,by rw [AI,h];rfl⟩];rfl
theorem aFr {l:cN} {P:List ByteArray} (h1:∀ s∈P,cR s=true∧s∉l.map Prod.fst) (h2:∀ p∈l,cR p.1=true):bX l P=if l.any bigV then 2 else 0:=by
 have e1:l.any (AI P)=false:=List.any_eq_false.2 fun p hp=>by
  rw [AI,h2 p hp,show inB P p.1=false by
   cases e:inB P p.1 with
   | false=>rfl
   | true=>exact absurd (List.mem_map_of_mem hp) (h1 _ (lC.1 e)).2]
  decide
 have e2:P.any (fun s=>!cR s)=false:=List.any_eq_false.2 fun s hs=>by rw [(h1 s hs).1];decide
 rw [bX,e1,e2];rfl
theorem UC {f:FuncId} {args:List AV} {d:DSt} {x:RX} {k a n:Nat} {L:KP} {b:Bool} {e:Int} {d':DSt} {o':Ob} (h:aK Tryz.prog f args (jH d x (gO k a n L b)) (fun r H'=>r=iv e∧∃ x',H'=jH d' x' o')) (H:aE) (hs:lZ H (jH d x (gO k a n L b))) (ha:∀ y∈args,Clo (jH d x (gO k a n L b)) y) :
  aK Tryz.prog f args H (fun r H'=>r=iv e∧∃ x',H'=jH d' x' o'++H):=by
 refine(aK.frameQ h hs.sub (FZ d x k a n L b) ha ?_).mono ?_
 ·rintro r K ⟨_,x',rfl⟩ id hid;exact .inl (aAP hid)
 rintro r H' ⟨K,⟨rfl,x',rfl⟩,rfl⟩;exact⟨rfl,x',rfl⟩
abbrev CZ (l2:cN) (c2:Nat) (d:DSt) (x:RX) (o:Ob):aE:=(950,cB l2 c2)::jH d x o
theorem W1 {d:DSt} {x:RX} {N m:Nat} (h:DInv d N m) (hp:cY d) (k a n:Nat) (b:Bool) (L:KP) (l2:cN) (c2:Nat) (P:List ByteArray) (hk:k < 4000) (ha:a < 2) (hn:n≤k) (hm:m≤10) (hL:L.length≤100000) (hst2:fI l2 c2) (hnd2:gX l2) (hl2:l2.length≤5000) (hP:P.length≤5000) (hz:∀ p∈l2,p.1.size≤5000∧p.2.1.size≤5000) (hzP:∀ s∈P,s.size≤5000) :
  aK Tryz.prog 34 [.ref 1200 0 0 0,.mp 950 0,.pv (aX P)] (CZ l2 c2 d x (gO k a n L b)) (fun r H'=>(¬ tX k n b l2 P = -1∧r=iv (tX k n b l2 P)∧H'=CZ l2 c2 d x (gO k a n L b)) ∨
   (tX k n b l2 P = -1∧¬ (fR d k a n (bM l2 (fN P))).1=0∧r=iv (fR d k a n (bM l2 (fN P))).1∧∃ x',H'=CZ l2 c2 (fR d k a n (bM l2 (fN P))).2 x' (gO k a n L true)) ∨
   (tX k n b l2 P = -1∧(fR d k a n (bM l2 (fN P))).1=0∧r=iv 0∧∃ x',H'=CZ l2 c2 (fR d k a n (bM l2 (fN P))).2 x' (gO k a (n+dD (bM l2 (fN P))) (iA (iI L (prs l2)) (fN P)) false))):=by
 have hR:tX k n b l2 P=if b then 12 else if ¬ bX l2 P=0 then bX l2 P else if l2.length+(fN P).length=0 then 0 else if k < n+dD (bM l2 (fN P))then 21 else -1:=rfl
 have hrange:=gN l2 P;have hDl:=yI P;have hmP:(P.map encStr).length=P.length:=aHr _;cases b with
 | true =>
  rw [aHq rfl] at hR;rw [hR];refine Bd aC6 rfl Y7<|Sr<|Dd aR<|Zz<|Sq<|Sr<|Dd aB<|Dd (by exact bR rfl eR rfl rfl rfl rfl)<|Zz ?_;refine Cn ?_ ?_<;>intro hc1
  ·cases hc1
  refine aF<|Sq<|Sr<|Dd aB<|Dd dY<|Dd (cI uZ)<|Dd (cW cK)<|Zz ?_;refine Cn ?_ ?_<;>intro hc2
  ·refine Sr<|Dd aR<|Zz<|aH ?_;refine bI (H':=(CZ l2 c2 d x (gO k a n L true))) (.inr rfl) rfl (aI rfl) (Fin.wk (by(simp;done)) (Hc (aU _ _ _)<|Hc (by(simp;exact⟨rfl,rfl⟩))<|Hb<|Hc (aD _ _ _)<|Ha<|trivial) ⟨rfl,rfl,rfl,rfl,rfl,trivial⟩) ?_;exact .inl ⟨by decide,rfl,rfl⟩
  cases hc2
 | false =>
  rw [aHp (by decide)] at hR;refine Bd aC6 rfl Y7<|Sr<|Dd aR<|Zz<|Sq<|Sr<|Dd aB<|Dd (by exact bR rfl eR rfl rfl rfl rfl)<|Zz ?_;refine Cn ?_ ?_<;>intro hc1
  ·cases hc1
  refine aF<|Sq<|Sr<|Dd aB<|Dd dY<|Dd (cI uZ)<|Dd (cW cK)<|Zz ?_;refine Cn ?_ ?_<;>intro hc2
  ·cases hc2
  refine aF<|Sr<|Dd aR<|Zz<|Sq<|Sr<|Dd aB<|Dd (by exact E4 (q:=946) (κ:=iU) (l:=cU l2) rfl bL rfl rfl rfl rfl rfl rfl)<|Zz<|aJ ?_;refine iM (fun(s:List Nat) (A:KP)=>([(0,.ref 1200 0 0 0),(1,.mp 950 0),(2,.pv (aX P)),(7,.pv (hU A)),(29,.it 946 0)],(946,IA 950 l2 c2 s)::CZ l2 c2 d x (gO k a n L false))) (fun s A=>(s.Nodup∧∀ i,i∈s→i < l2.length)∧SP A∧A.length≤s.length∧∀ y v,dX A y=some v↔∃ i,i∈s∧∃ q,l2[i]?=some (y,v,q)) (fun s A=>l2.length - s.length) [] [] ⟨⟨List.nodup_nil,by simp⟩,List.Pairwise.nil,aHx _,fun y v=>⟨fun h=>(by cases h),fun⟨i,hi,_⟩=>absurd hi aIH⟩⟩ ?_ ?_
  ·exact(cC.wk (Ea<|Ea<|Eb<|Eb<|Ea<|trivial) (Hc (EY rfl _ _ _)<|Hc (aU _ _ _)<|Hc (by(simp;exact⟨rfl,rfl⟩))<|Hb<|Hc (aD _ _ _)<|Ha<|trivial) ⟨rfl,rfl,rfl,rfl,rfl,trivial⟩)
  rintro s A ⟨⟨hd,hb⟩,hsp,hAl,hlk⟩;have hsl:s.length≤l2.length:=lW _ _ hd hb;refine Sq<|Rg ?_;refine gC rfl rfl (M9 (κ:=iU) (l:=cU l2) rfl rfl rfl rfl rfl rfl rfl rfl rfl (aHx _) (aHx _)) ?_;rintro _ _ (⟨rfl,rfl,hn0⟩|⟨hni,hnp,hn1,hn2,rfl,rfl⟩)
  ·refine Dd eC<|Zz<|Sq ?_;refine Cn ?_ ?_<;>intro hc3
   ·cases hc3
   have hall:∀ i,i < l2.length→i∈s:=fun i hi=>by
    have hq:(cU l2)[i]?=some ((l2[i]).1,sv (l2[i]).2.1,(l2[i]).2.2):=by rw [cU,aIL,aHw hi];rfl
    have:=hn0 _ (aIB hq);obtain ⟨j,hj,e⟩:=List.mem_map.1 this;have e2:lH l2 j=lH l2 i:=by
     rw [e,lH,aHw hi];rfl
    have:=LQ hst2 (hb j hj) hi e2
    rwa [this] at hj
   have hA:A=prs l2:=C1 hsp hnd2 fun y=>Option.ext fun v=>by
    rw [hlk];refine⟨fun⟨i,_,q,hq⟩=>wN hnd2 (aIB hq),fun hv=>?_⟩;obtain ⟨q,hq⟩:=uT hv;obtain ⟨i,hi⟩:=aIM.1 hq;exact⟨i,hall i (aHv.1 hi).1,q,hi⟩
   rw [hA];clear hA hlk hAl hsp hall hd hb hsl;obtain ⟨K,hK⟩:∃ K,K=prs l2:=⟨_,rfl⟩;have hKl:K.length=l2.length:=by rw [hK,oL]
   have hbg:K.any QW=l2.any bigV:=by rw [hK];exact aEK hnd2
   have hKk:∀ p∈K,∃ q∈l2,q.1=p.1:=fun p hp=>by
    obtain ⟨y,v⟩:=p;rw [hK] at hp;obtain ⟨q,hq⟩:=(BK hnd2).1 hp;exact⟨_,hq,rfl⟩
   have hKo:∀ q∈l2,∃ p∈K,p.1=q.1:=fun q hq=>by
    rw [hK];exact⟨(q.1,q.2.1),(BK hnd2).2 ⟨q.2.2,hq⟩,rfl⟩
   have hKm:∀ p∈K,p.1.size≤5000∧p.2.size≤5000:=fun p hp=>by
    obtain ⟨y,v⟩:=p;rw [hK] at hp;obtain ⟨q,hq⟩:=(BK hnd2).1 hp;exact hz _ hq
   have hmk:(K.map encKV).length=K.length:=aHr _;rw [← hK];refine aV<|Sr<|Dd aR<|Zz<|Sq<|Sr<|Dd aR<|Zz<|aJ ?_;refine bG (σ:=Nat) (fun i=>([(0,.ref 1200 0 0 0),(1,.mp 950 0),(2,.pv (aX P)),(7,.pv (hU K)),(10,.pv (hU (I6 (P.take i)))),(11,iv (i:Int))],CZ l2 c2 d x (gO k a n L false))) (fun i=>i≤P.length∧∀ s∈P.take i,cR s=true∧s∉l2.map Prod.fst) (fun i=>P.length - i) 0 ⟨aII _,fun s hs=>by cases hs⟩ ?_ ?_
   ·exact(cC.wk (Ea<|Ea<|Eb<|Eb<|Eb<|Eb<|trivial) (Hc (aU _ _ _)<|Hc (by(simp;exact⟨rfl,rfl⟩))<|Hb<|Hc (aD _ _ _)<|Ha<|trivial) ⟨rfl,rfl,rfl,rfl,rfl,trivial⟩)
   rintro i ⟨hi,hdr⟩;have hdl:=(QC (P.take i)).2.1;rw [aIF] at hdl;refine Sq<|Sr<|Dd aB<|Dd aB<|Dd (jY aO)<|Dd cP<|Zz ?_;refine Cn ?_ ?_<;>intro hc4
   ·have hlt:i < P.length:=by have:=aHn hc4;omega
    obtain ⟨s,hs⟩:=aY hlt;have his:=cV (f:=encStr) hs;have hkc:=fun H=>L7 s H;have hput:=fun H=>L5 (I6 (P.take i)) s sNil (by omega) H;have hlr:(.tup [((pH (M7 (cU l2)) s).getD (sv sNil)),.pv (.bool (pH (M7 (cU l2)) s).isSome)]:AV)=.tup [sv (fO l2 s),bv (eN l2 s).isSome]:=by
     rw [EV,xV]
    obtain ⟨fd,hfd⟩:∃ fd,fd=(eN l2 s).isSome:=⟨_,rfl⟩;rw [← hfd] at hlr;have hnx:I6 (P.take (i+1))=tI (I6 (P.take i)) s sNil:=by rw [bW hs,B0]
    refine aF<|Sq<|aJ<|Sr<|Dd aB<|Dd aB<|Dd aB<|Dd (sU cD)<|Dd (gW aQ (hi:=his))<|Dd (by exact bS.eqv (D7 (κ:=iU) (k:=s) (l:=cU l2) rfl bL aC rfl rfl rfl rfl rfl gM (.inl rfl)) hlr)<|Dd aB<|Dd eC<|Dd eC<|Dd aR<|Dd aR<|Zz<|Sq<|Sq ?_;refine cQ (t:=62) (n:=10) (X:=fd||!cR s) ?_ ?_
    ·all_goals refine Dd aB ?_
     all_goals refine Dm ?_
     all_goals refine Sp 55 (fun h55=>?_) fun h55=>?_
     all_goals try contradiction
     all_goals first|refine Fo<|Fo<|Fo<|Fo<|Fo<|Fo ?_|refine On aB<|On aB<|On (sU cD)<|On (gW aQ (hi:=his))<|On (by exact aA rfl rfl kO rfl (hkc _))<|On pY ?_
     all_goals refine Dd cX<|Zz ?_
     all_goals(exact⟨⟨_,rfl,by(rw [h55];rfl)⟩,rfl,rfl,rfl⟩)
    refine Cn ?_ ?_<;>intro hc5
    ·have hq:=hc5;have hw:bX l2 P=1:=aCp (aIB hs) (by
      rw [Bool.or_eq_true] at hq;rcases hq with h|h
      ·right;rw [h] at hfd;rw [PS];exact fun e=>by rw [e] at hfd;cases hfd
      left
      simpa using h)
     rw [hw,aHq (by decide)] at hR;rw [hR];refine Sr<|Dd aR<|Zz<|aH ?_;refine bI (H':=(CZ l2 c2 d x (gO k a n L false))) (.inr rfl) rfl (aI rfl) (Fin.wk (by(simp;done)) (Hc (aU _ _ _)<|Hc (by(simp;exact⟨rfl,rfl⟩))<|Hb<|Hc (aD _ _ _)<|Ha<|trivial) ⟨rfl,rfl,rfl,rfl,rfl,trivial⟩) ?_;exact .inl ⟨by decide,rfl,rfl⟩
    have hq:=hc5;rw [aIN] at hq;have hnx2:∀ s'∈P.take (i+1),cR s'=true∧s'∉l2.map Prod.fst:=fun s' hs'=>by
     rw [bW hs] at hs';rcases List.mem_append.1 hs' with h|h
     ·exact hdr s' h
     rw [aHu.1 h];refine⟨by simpa using hq.2,fun hm=>?_⟩;rw [PS] at hm;rw [hq.1] at hfd;cases e:eN l2 s with
     | none=>exact hm e
     | some v=>rw [e] at hfd;cases hfd
    refine aF<|Rg<|Dd aB<|Dd aB<|Dd aB<|Dd (sU cD)<|Dd (gW aQ (hi:=his))<|Dd (by exact aA rfl rfl NX rfl (hput _))<|Dd aR<|Zz<|Rg<|Dd aB<|Dd (by exact bA rfl rfl rfl (show IntKind.i64.wrap ((i:Int)+1)=((i+1:Nat):Int)by rw [eS (by omega) (by omega)];omega))<|Da ?_;refine⟨i+1,⟨by omega,hnx2⟩,by omega,?_⟩;rw [hnx];exact(cC.wk (Ea<|Ea<|Eb<|Eb<|Eb<|Eb<|trivial) (Hc (aU _ _ _)<|Hc (by(simp;exact⟨rfl,rfl⟩))<|Hb<|Hc (aD _ _ _)<|Ha<|trivial) ⟨rfl,rfl,rfl,rfl,rfl,trivial⟩)
   have hge:i=P.length:=by have:=aHo hc4;omega
   rw [hge,List.take_length] at hdr hdl ⊢;obtain ⟨A,hA⟩:∃ A,A=I6 P:=⟨_,rfl⟩;have hAn:A.map Prod.fst=fN P:=by rw [hA];exact YA P
   rw [← hA] at hdl ⊢;have hma:(A.map encKV).length=A.length:=aHr _;clear hA hge;refine aV<|Sr<|Dd aR<|Zz<|Sq<|Sr<|Dd aR<|Zz<|aJ ?_;refine bG (σ:=Nat) (fun i=>([(0,.ref 1200 0 0 0),(1,.mp 950 0),(7,.pv (hU K)),(10,.pv (hU A)),(14,bv ((K.take i).any QW)),(15,iv (i:Int))],CZ l2 c2 d x (gO k a n L false))) (fun i=>i≤K.length∧∀ p∈K.take i,cR p.1=true) (fun i=>K.length - i) 0 ⟨aII _,fun s hs=>by cases hs⟩ ?_ ?_
   ·exact(cC.wk (Ea<|Ea<|Eb<|Eb<|Eb<|Eb<|trivial) (Hc (aU _ _ _)<|Hc (by(simp;exact⟨rfl,rfl⟩))<|Hb<|Hc (aD _ _ _)<|Ha<|trivial) ⟨rfl,rfl,rfl,rfl,rfl,trivial⟩)
   rintro i ⟨hi,hkn⟩;refine Sq<|Sr<|Dd aB<|Dd aB<|Dd (jY bY)<|Dd cP<|Zz ?_;refine Cn ?_ ?_<;>intro hc6
   ·have hlt:i < K.length:=by have:=aHn hc6;omega
    obtain ⟨p,hp⟩:=aY hlt;have hip:=cV (f:=encKV) hp;have hkc:=fun H=>L7 p.1 H;have hnx:(K.take (i+1)).any QW=((K.take i).any QW||QW p):=by rw [bW hp,List.any_append,List.any_cons,List.any_nil,Bool.or_false]
    refine aF<|Sq<|aJ<|Sq<|Sr<|Dd aB<|Dd aB<|Dd (by exact aZ rfl gF rfl rfl (by omega) (by exact aIC _) hip rfl)<|Dd (by exact bC rfl aW sizeOf9 rfl rfl (by omega) (by exact aIC _) (by decide) rfl)<|Dd (gW aQ)<|Dd (by exact aA rfl rfl kO rfl (hkc _))<|Dd pY<|Zz ?_;refine Cn ?_ ?_<;>intro hc7
    ·have hq:cR p.1=false:=by have h:=hc7;simpa using h
     obtain ⟨q,hq1,hq2⟩:=hKk p (aIB hp);have hw:bX l2 P=1:=aEe hq1 (by rw [hq2];exact hq);rw [hw,aHq (by decide)] at hR;rw [hR];refine Sr<|Dd aR<|Zz<|aH ?_;refine bI (H':=(CZ l2 c2 d x (gO k a n L false))) (.inr rfl) rfl (aI rfl) (Fin.wk (by(simp;done)) (Hc (aU _ _ _)<|Hc (by(simp;exact⟨rfl,rfl⟩))<|Hb<|Hc (aD _ _ _)<|Ha<|trivial) ⟨rfl,rfl,rfl,rfl,rfl,trivial⟩) ?_;exact .inl ⟨by decide,rfl,rfl⟩
    have hq:cR p.1=true:=by have h:=hc7;simpa using h
    refine aF ?_;refine cQ (t:=14) (n:=12) (X:=(K.take i).any QW||QW p) ?_ ?_
    ·all_goals refine Dd aB ?_
     all_goals refine Dm ?_
     all_goals refine Sp 83 (fun h83=>?_) fun h83=>?_
     all_goals try contradiction
     all_goals first|refine Fo<|Fo<|Fo<|Fo<|Fo<|Fo<|Fo ?_|refine On aB<|On aB<|On (by exact aZ rfl gF rfl rfl (by omega) (by exact aIC _) hip rfl)<|On (by exact bC rfl aW sizeOf9 rfl rfl (by omega) (by exact aIC _) (by decide) rfl)<|On (gW aQ)<|On (mD aC)<|On yP ?_
     all_goals refine Dd cX<|Da ?_
     all_goals(exact⟨⟨_,rfl,by(rw [h83];rfl)⟩,rfl,rfl,rfl⟩)
    refine Rg<|Dd aB<|Dd (by exact bA rfl rfl rfl (show IntKind.i64.wrap ((i:Int)+1)=((i+1:Nat):Int)by rw [eS (by omega) (by omega)];omega))<|Da ?_;refine⟨i+1,⟨by omega,fun q hq2=>?_⟩,by omega,?_⟩
    ·rw [bW hp] at hq2;rcases List.mem_append.1 hq2 with h|h
     ·exact hkn q h
     rw [aHu.1 h];exact hq
    rw [hnx];exact(cC.wk (Ea<|Ea<|Eb<|Eb<|Eb<|Eb<|trivial) (Hc (aU _ _ _)<|Hc (by(simp;exact⟨rfl,rfl⟩))<|Hb<|Hc (aD _ _ _)<|Ha<|trivial) ⟨rfl,rfl,rfl,rfl,rfl,trivial⟩)
   have hge:i=K.length:=by have:=aHo hc6;omega
   rw [hge,List.take_length] at hkn ⊢;have hwv:bX l2 P=if l2.any bigV then 2 else 0:=aFr hdr fun q hq=>by
    obtain ⟨p,hp,e⟩:=hKo q hq;rw [← e];exact hkn p hp
   rw [hbg];refine aV<|Sq<|Sr<|Dd aB<|Zz ?_;refine Cn ?_ ?_<;>intro hc8
   ·have hq:l2.any bigV=true:=hc8;rw [hq,aHq rfl] at hwv;rw [hwv,aHq (by decide)] at hR;rw [hR];refine Sr<|Dd aR<|Zz<|aH ?_;refine bI (H':=(CZ l2 c2 d x (gO k a n L false))) (.inr rfl) rfl (aI rfl) (Fin.wk (by(simp;done)) (Hc (aU _ _ _)<|Hc (by(simp;exact⟨rfl,rfl⟩))<|Hb<|Hc (aD _ _ _)<|Ha<|trivial) ⟨rfl,rfl,rfl,rfl,rfl,trivial⟩) ?_;exact .inl ⟨by decide,rfl,rfl⟩
   have hq:l2.any bigV=false:=hc8;rw [hq,aHp (by decide)] at hwv;rw [hwv,aHp (by decide)] at hR;refine aF<|Sr<|Dd (by exact eU (id:=905) (sz:=1) (ty:=9) rfl rfl rfl)<|Zz<|Sq<|Sr<|Dd aR<|Zz<|aJ ?_;refine bG (σ:=Nat) (fun i=>([(0,.ref 1200 0 0 0),(1,.mp 950 0),(7,.pv (hU K)),(10,.pv (hU A)),(16,.osl 905 i 0 i),(17,iv (i:Int))],(905,⟨i,1,9,eA ((A.take i).map Prod.fst)⟩)::CZ l2 c2 d x (gO k a n L false))) (fun i=>i≤A.length) (fun i=>A.length - i) 0 (aII _) ?_ ?_
   ·exact(cC.wk (Ea<|Ea<|Eb<|Eb<|Ea<|Eb<|trivial) (Hc (dK _ _)<|Hc (aU _ _ _)<|Hc (by(simp;exact⟨rfl,rfl⟩))<|Hb<|Hc (aD _ _ _)<|Ha<|trivial) ⟨rfl,rfl,rfl,rfl,rfl,trivial⟩)
   intro i hi;have hl:((A.take i).map Prod.fst).length=i:=by rw [aHr,aIF];omega
   refine Sq<|Sr<|Dd aB<|Dd aB<|Dd (jY bY)<|Dd cP<|Zz ?_;refine Cn ?_ ?_<;>intro hc9
   ·have hlt:i < A.length:=by have:=aHn hc9;omega
    obtain ⟨p,hp⟩:=aY hlt;have hip:=cV (f:=encKV) hp;have hsn:(A.take (i+1)).map Prod.fst=(A.take i).map Prod.fst++[p.1]:=by rw [bW hp,List.map_append];rfl
    refine aF<|Sq<|aJ<|Rg<|Dd aB<|Dd aB<|Dd aB<|Dd (by exact aZ rfl gF rfl rfl (by omega) (by exact aIC _) hip rfl)<|Dd (by exact bC rfl aW sizeOf9 rfl rfl (by omega) (by exact aIC _) (by decide) rfl)<|Dd (gW aQ)<|Dd (by exact bD [[.str p.1]] rfl cD rfl rfl rfl rfl rfl (by simp))<|Dd (by exact dV (k:=i+1) (ps:=[[.str p.1]]) rfl cD IB rfl rfl rfl rfl rfl ((eX _).trans hl) rfl (by simp) (m:=1) rfl (by omega) (by omega) (jK _ [p.1]))<|Dd aR<|Zz<|Rg<|Dd aB<|Dd (by exact bA rfl rfl rfl (show IntKind.i64.wrap ((i:Int)+1)=((i+1:Nat):Int)by rw [eS (by omega) (by omega)];omega))<|Da ?_;refine⟨i+1,by omega,by omega,?_⟩;rw [hsn];exact(cC.wk (Ea<|Ea<|Eb<|Eb<|Ea<|Eb<|trivial) (Hc (dK _ _)<|Hc (aU _ _ _)<|Hc (by(simp;exact⟨rfl,rfl⟩))<|Hb<|Hc (aD _ _ _)<|Ha<|trivial) ⟨rfl,rfl,rfl,rfl,rfl,trivial⟩)
   have hge:i=A.length:=by have:=aHo hc9;omega
   rw [hge,List.take_length] at hl ⊢;rw [hAn] at hl ⊢;rw [← hl];obtain ⟨D,hD⟩:∃ D,D=fN P:=⟨_,rfl⟩;have hDm:∀ s∈D,s.size≤5000:=fun s hs=>hzP s (sF.1 (hD▸hs));rw [← hD] at hl hDl hR hAn ⊢;have hmd:(D.map encStr).length=D.length:=aHr _;obtain ⟨ws,wj⟩:=vW (A:=K) (D:=D) (by omega) (by omega) hKm hDm;have htx:=fun H=>L3 K D (by omega) (by omega) ws wj H;have htl:=T3 wj;have hTe:MA K D=bM l2 D:=by rw [hK,UQ]
   rw [hTe] at htx htl;obtain ⟨T,hT⟩:∃ T,T=bM l2 D:=⟨_,rfl⟩;rw [← hT] at htx htl hR ⊢;have hpc:=fun H=>JS T (by omega) H;have hmt:((N9 T (dD T)).map encStr).length=dD T:=by rw [aHr,A9]
   have hpn:dD T≤10000000:=by rw [dD];omega
   refine aV<|Sq ?_;refine iF.ent (cC.fzG (id:=905) (E':=[(0,.ref 1200 0 0 0),(7,.pv (hU K)),(16,.pv (aX D))]) (H:=(905,⟨D.length,1,9,eA D⟩)::CZ l2 c2 d x (gO k a n L false)) (H':=CZ l2 c2 d x (gO k a n L false)) (D.map encStr) rfl (by exact kV _) ?_ rfl ?_ ?_) ?_
   ·intro p hp;simp only [aID,aIH,or_false] at hp;rcases hp with rfl|rfl|rfl
    ·exact⟨_,rfl,.same (by simp;rfl)⟩
    ·exact⟨_,rfl,.same (by simp)⟩
    exact⟨_,rfl,.osl (gZ encStr D)⟩
   ·exact⟨⟨_,rfl,rfl,rfl,rfl,dM (aU _ _ _)⟩,⟨_,rfl,rfl,rfl,rfl,dM (bE _ _ _ rfl rfl)⟩,⟨_,rfl,rfl,rfl,rfl,dM (aD _ _ _)⟩,⟨_,rfl,rfl,rfl,rfl,dM (aD _ _ _)⟩,⟨_,rfl,rfl,rfl,rfl,dM (EO rfl)⟩,trivial⟩
   ·exact⟨rfl,rfl,rfl,rfl,rfl,trivial⟩
   refine Rg<|Dd aB<|Dd aB<|Dd (by exact aA rfl rfl aCb rfl (htx _))<|Dd (by exact aA rfl rfl call73 rfl (hpc _))<|Dd aR<|Zz<|Sq<|Sr<|Dd aB<|Dd (jY bY)<|Dd aB<|Dd (jY aO)<|Dd (by exact bA rfl rfl rfl (eS (by omega) (by omega)))<|Dd eP<|Zz ?_;refine Cn ?_ ?_<;>intro hc10
   ·have hq2:l2.length+D.length=0:=by have:=aHn hc10;omega
    rw [aHq hq2] at hR;rw [hR];refine Sr<|Dd aR<|Zz<|aH ?_;refine bI (H':=(CZ l2 c2 d x (gO k a n L false))) (.inr rfl) rfl (aI rfl) (Fin.wk (by(simp;done)) (Hc (aU _ _ _)<|Hc (by(simp;exact⟨rfl,rfl⟩))<|Hb<|Hc (aD _ _ _)<|Ha<|trivial) ⟨rfl,rfl,rfl,rfl,rfl,trivial⟩) ?_;exact .inl ⟨by decide,rfl,rfl⟩
   have hq2:¬ l2.length+D.length=0:=by have:=aHo hc10;omega
   rw [aHp hq2] at hR;refine aF<|Sq<|Sq<|bF follows<|Cq aB<|Cq (jY aO)<|Cq aB<|Cq dY<|Cq (cI yF)<|Cq (cW aL)<|Cq aB<|Cq dY<|Cq (cI vA)<|Cq (cW aL)<|Cq (by exact dG rfl rfl rfl (eS (by omega) (by omega)))<|Cq yP<|cA<|Kr ?_;refine Cn ?_ ?_<;>intro hc11
   ·have hq3:k < n+dD T:=by have:=aHn hc11;omega
    rw [aHq hq3] at hR;rw [hR];refine Sr<|Dd aR<|Zz<|aH ?_;refine bI (H':=(CZ l2 c2 d x (gO k a n L false))) (.inr rfl) rfl (aI rfl) (Fin.wk (by(simp;done)) (Hc (aU _ _ _)<|Hc (by(simp;exact⟨rfl,rfl⟩))<|Hb<|Hc (aD _ _ _)<|Ha<|trivial) ⟨rfl,rfl,rfl,rfl,rfl,trivial⟩) ?_;exact .inl ⟨by decide,rfl,rfl⟩
   have hq3:¬ k < n+dD T:=by have:=aHo hc11;omega
   rw [aHp hq3] at hR;rw [hR];have hadd:=aA2 (x:=x) h hp k a n a n false L T (by have h9:=hq3;rw [dD] at h9;omega) (by omega) ha hk (by omega);have hA2:fR d k a n T=if(gY d (2+a*k+n) (gG (2+a*k+n) T (dD T))).1=0 then pV (gY d (2+a*k+n) (gG (2+a*k+n) T (dD T))).2 a (n+dD T)else gY d (2+a*k+n) (gG (2+a*k+n) T (dD T)):=rfl
   have hi1:=kI h (2+a*k+n) (gG (2+a*k+n) T (dD T)) (by rw [eB];omega);rw [eB] at hi1;have hp1:=jP hp (2+a*k+n) (gG (2+a*k+n) T (dD T));obtain ⟨w,hw⟩:∃ w,w=gY d (2+a*k+n) (gG (2+a*k+n) T (dD T)):=⟨_,rfl⟩;rw [← hw] at hadd hA2 hi1 hp1;have hset:=fun x=>UD (x:=x) hi1 hp1 k a n a (n+dD T) false L (by omega) (by omega) (by omega);obtain ⟨y,hy⟩:∃ y,y=pV w.2 a (n+dD T):=⟨_,rfl⟩;rw [← hy] at hset hA2;rw [hA2];refine aF<|Sq ?_;refine mH 10 follows (aIE rfl) ?_;refine Cq aB<|Cq aB<|Cq dY<|Cq (cI yE)<|Cq (cW aL)<|Cq aB<|Cq dY<|Cq (cI vA)<|Cq (cW aL)<|Cq aB<|cA<|Kr ?_;refine gC rfl rfl (aA rfl rfl call75 rfl (UC hadd _ ⟨rfl,rfl,rfl,rfl,trivial⟩ (by simp;rfl))) ?_;rintro _ _ ⟨rfl,x1,rfl⟩;refine Dd aR<|Zz<|Sq<|Sr<|Dd aB<|Dd eP<|Zz ?_;refine Cn ?_ ?_<;>intro hc12
   ·have he:w.1=0:=aHn hc12;have hb0:(false||!decide (w.1=0))=false:=by rw [decide_eq_true he];rfl
    rw [aHq he,hb0];refine mH 12 follows (aIE rfl) ?_;refine Cq aB<|Cq aB<|Cq dY<|Cq (cI yE)<|Cq (cW aL)<|Cq aB<|Cq dY<|Cq (cI vA)<|Cq (cW aL)<|Cq aB<|Cq (jY aO)<|Cq (by exact bA rfl rfl rfl (show IntKind.i64.wrap ((n:Int)+(((N9 T (dD T)).map encStr).length:Int))=((n+dD T:Nat):Int)by rw [hmt,eS (by omega) (by omega)];omega))<|cA<|Kr ?_;refine gC rfl rfl (aA rfl rfl call76 rfl (UC (hset x1) _ ⟨rfl,rfl,rfl,rfl,trivial⟩ (by simp;rfl))) ?_;rintro _ _ ⟨rfl,x2,rfl⟩;refine Dd aR<|Zz<|Sq<|Sr<|Dd aB<|Dd tM<|Zz ?_;refine Cn ?_ ?_<;>intro hc13
    ·have he2:¬ y.1=0:=by have h:=hc13;simpa using h
     rw [aHp he2];refine Sr<|Dd aB<|Dd aR<|Zz<|aH ?_;refine bI (H':=(CZ l2 c2 y.2 x2 (gO k a n L true))) (.inr rfl) rfl (aI rfl) (Fin.wk (by(simp;done)) (Hc (aU _ _ _)<|Hc (by(simp;exact⟨rfl,rfl⟩))<|Hb<|Hc (aD _ _ _)<|Ha<|trivial) ⟨rfl,rfl,rfl,rfl,rfl,trivial⟩) ?_;exact .inr (.inl ⟨rfl,he2,rfl,_,rfl⟩)
    have he2:y.1=0:=by have h:=hc13;simpa using h
    rw [aHq he2];refine aF<|Sq<|Sr<|Dd aR<|Zz<|aJ ?_;refine bG (σ:=Nat) (fun i=>([(0,.ref 1200 0 0 0),(7,.pv (hU K)),(16,.pv (aX D)),(20,iv (i:Int))],CZ l2 c2 y.2 x2 (gO k a (n+dD T) (iI L (K.take i)) false))) (fun i=>i≤K.length) (fun i=>K.length - i) 0 (aII _) ?_ ?_
    ·exact(cC.wk (Ea<|Eb<|Eb<|Eb<|trivial) (Hc (aU _ _ _)<|Hc (by(simp;exact⟨rfl,rfl⟩))<|Hb<|Hc (aD _ _ _)<|Ha<|trivial) ⟨rfl,rfl,rfl,rfl,rfl,trivial⟩)
    intro i hi;have hput:=fun p H=>L5 (iI L (K.take i)) (p:ByteArray×ByteArray).1 p.2 (by have h2:=tH (K.take i) L;rw [aIF] at h2;omega) H;refine Sq<|Sr<|Dd aB<|Dd aB<|Dd (jY bY)<|Dd cP<|Zz ?_;refine Cn ?_ ?_<;>intro hc14
    ·have hlt:i < K.length:=by have:=aHn hc14;omega
     obtain ⟨p,hp⟩:=aY hlt;have hip:=cV (f:=encKV) hp;have hnx:iI L (K.take (i+1))=tI (iI L (K.take i)) p.1 p.2:=by rw [bW hp,iI,List.foldl_append];rfl
     refine aF<|Sq<|aJ<|bF follows<|Cr [1200] (fun _ _=>aB)<|Cr [1200] (fun _ _=>aB)<|Cr [1200] (fun H1 hH=>by exact bK rfl rfl ((hH _ rfl).trans rfl) rfl)<|Cr [1200] (fun _ h=>fh nL h)<|Cr [1200] (fun _ h=>lh dJ h)<|Cr [] (fun _ _=>aB)<|Cr [] (fun _ _=>aB)<|Cr [] (fun H1 hH=>by exact aZ rfl gF rfl rfl (by omega) (by exact aIC _) hip rfl)<|Cr [] (fun H1 hH=>by exact bC rfl aW sizeOf9 rfl rfl (by omega) (by exact aIC _) (by decide) rfl)<|Cr [] (fun _ _=>(gW aQ))<|Cr [] (fun _ _=>aB)<|Cr [] (fun _ _=>aB)<|Cr [] (fun H1 hH=>by exact aZ rfl gF rfl rfl (by omega) (by exact aIC _) hip rfl)<|Cr [] (fun H1 hH=>by exact bC rfl aW sizeOf9 rfl rfl (by omega) (by exact aIC _) (by decide) rfl) ?_;refine Cr [] (fun _ _=>(gW aQ))<|Cr [] (fun H1 hH=>by exact aA rfl rfl NX rfl (hput p _))<|Cr [1200] (fun H1 hH=>by exact bK rfl rfl ((hH _ rfl).trans rfl) rfl)<|Cr [1200] (fun _ h=>fh nL h)<|Cp [1200] (fun H1 hH=>by exact bU rfl sizeOf35 rfl rfl rfl ((hH _ rfl).trans rfl) rfl rfl (by simp only [aHt,List.length_nil];omega) (by simp only [Zl,encStr,encKV,fC];rfl) (by simp only [Zl,encStr,encKV,fC];rfl))<|cA<|Kr<|Rg<|Dd aB<|Dd (by exact bA rfl rfl rfl (show IntKind.i64.wrap ((i:Int)+1)=((i+1:Nat):Int)by rw [eS (by omega) (by omega)];omega))<|Da ?_;refine⟨i+1,by omega,by omega,?_⟩;rw [hnx];exact(cC.wk (Ea<|Eb<|Eb<|Eb<|trivial) (Hc (aU _ _ _)<|Hc (by(simp;exact⟨rfl,rfl⟩))<|Hb<|Hc (aD _ _ _)<|Ha<|trivial) ⟨rfl,rfl,rfl,rfl,rfl,trivial⟩)
    have hge:i=K.length:=by have:=aHo hc14;omega
    rw [hge,List.take_length];have hLl:=tH K L;obtain ⟨L2,hL2⟩:∃ L2,L2=iI L K:=⟨_,rfl⟩;rw [← hL2];rw [← hL2] at hLl;refine aV<|Sq<|Sr<|Dd aR<|Zz<|aJ ?_;refine bG (σ:=Nat) (fun i=>([(0,.ref 1200 0 0 0),(16,.pv (aX D)),(21,iv (i:Int))],CZ l2 c2 y.2 x2 (gO k a (n+dD T) (iA L2 (D.take i)) false))) (fun i=>i≤D.length) (fun i=>D.length - i) 0 (aII _) ?_ ?_
    ·exact(cC.wk (Ea<|Eb<|Eb<|trivial) (Hc (aU _ _ _)<|Hc (by(simp;exact⟨rfl,rfl⟩))<|Hb<|Hc (aD _ _ _)<|Ha<|trivial) ⟨rfl,rfl,rfl,rfl,rfl,trivial⟩)
    intro i hi;have hdp:=fun s H=>UJ (iA L2 (D.take i)) s (by have h1:=yG (D.take i) L2;omega) H;refine Sq<|Sr<|Dd aB<|Dd aB<|Dd (jY aO)<|Dd cP<|Zz ?_;refine Cn ?_ ?_<;>intro hc15
    ·have hlt:i < D.length:=by have:=aHn hc15;omega
     obtain ⟨s,hs⟩:=aY hlt;have his:=cV (f:=encStr) hs;have hnx:iA L2 (D.take (i+1))=nZ (iA L2 (D.take i)) s:=by rw [bW hs,iA,List.foldl_append];rfl
     refine aF<|Sq<|aJ<|bF follows<|Cr [1200] (fun _ _=>aB)<|Cr [1200] (fun _ _=>aB)<|Cr [1200] (fun H1 hH=>by exact bK rfl rfl ((hH _ rfl).trans rfl) rfl)<|Cr [1200] (fun _ h=>fh nL h)<|Cr [1200] (fun _ h=>lh dJ h)<|Cr [905] (fun _ _=>aB)<|Cr [] (fun _ _=>aB)<|Cr [905] (fun H1 hH=>by exact aZ rfl cD rfl rfl (by omega) (by exact aIC _) his rfl)<|Cr [905] (fun _ _=>(gW aQ))<|Cr [] (fun H1 hH=>by exact aA rfl rfl aH3 rfl (hdp s _))<|Cr [1200] (fun H1 hH=>by exact bK rfl rfl ((hH _ rfl).trans rfl) rfl)<|Cr [1200] (fun _ h=>fh nL h)<|Cp [1200] (fun H1 hH=>by exact bU rfl sizeOf35 rfl rfl rfl ((hH _ rfl).trans rfl) rfl rfl (by simp only [aHt,List.length_nil];omega) (by simp only [Zl,encStr,encKV,fC];rfl) (by simp only [Zl,encStr,encKV,fC];rfl)) ?_;refine cA<|Kr<|Rg<|Dd aB<|Dd (by exact bA rfl rfl rfl (show IntKind.i64.wrap ((i:Int)+1)=((i+1:Nat):Int)by rw [eS (by omega) (by omega)];omega))<|Da ?_;refine⟨i+1,by omega,by omega,?_⟩;rw [hnx];exact(cC.wk (Ea<|Eb<|Eb<|trivial) (Hc (aU _ _ _)<|Hc (by(simp;exact⟨rfl,rfl⟩))<|Hb<|Hc (aD _ _ _)<|Ha<|trivial) ⟨rfl,rfl,rfl,rfl,rfl,trivial⟩)
    have hge2:i=D.length:=by have:=aHo hc15;omega
    rw [hge2,List.take_length];refine aV<|Sr<|Dd aR<|Zz<|aH ?_;refine bI (H':=(CZ l2 c2 y.2 x2 (gO k a (n+dD T) (iA L2 D) false))) (.inr rfl) rfl (aI rfl) (Fin.wk (by(simp;done)) (Hc (aU _ _ _)<|Hc (by(simp;exact⟨rfl,rfl⟩))<|Hb<|Hc (aD _ _ _)<|Ha<|trivial) ⟨rfl,rfl,rfl,rfl,rfl,trivial⟩) ?_;exact .inr (.inr ⟨rfl,he2,rfl,_,rfl⟩)
   have he:¬ w.1=0:=aHo hc12;have hb0:(false||!decide (w.1=0))=true:=by rw [decide_eq_false he];rfl
   rw [aHp he,hb0];refine aF<|Sq<|Sr<|Dd aB<|Dd tM<|Zz ?_;refine Cn ?_ ?_<;>intro hc16
   ·refine Sr<|Dd aB<|Dd aR<|Zz<|aH ?_;refine bI (H':=(CZ l2 c2 w.2 x1 (gO k a n L true))) (.inr rfl) rfl (aI rfl) (Fin.wk (by(simp;done)) (Hc (aU _ _ _)<|Hc (by(simp;exact⟨rfl,rfl⟩))<|Hb<|Hc (aD _ _ _)<|Ha<|trivial) ⟨rfl,rfl,rfl,rfl,rfl,trivial⟩) ?_;exact .inr (.inl ⟨rfl,he,rfl,_,rfl⟩)
   (have h:=hc16;simp at h;exact(he h).elim)
  obtain ⟨p,hp,rfl⟩:=xX hn1;have hlt:hni < l2.length:=(aHv.1 hp).1;have hst3:lH l2 hni=p.2.2:=by rw [lH,hp];rfl
  have hn3:hni∉s:=fun hm=>hn2 (List.mem_map.2 ⟨hni,hm,hst3⟩);have hb2:∀ i,i∈s++[hni]→i < l2.length:=fun i hi=>by
   rcases List.mem_append.1 hi with h|h
   ·exact hb i h
   rw [aHu] at h;omega
  have hd2:(s++[hni]).Nodup:=List.nodup_append.2 ⟨hd,by simp,fun a ha b hb e=>by rw [aHu] at hb;subst hb;subst e;exact hn3 ha⟩;have hlen:=lW _ _ hd2 hb2;rw [aHs,List.length_singleton] at hlen;have hit:IA 950 l2 c2 (s++[hni])=⟨0,0,0,gU (.mp 950 0) c2 c2 (s.map (lH l2)++[p.2.2])⟩:=by rw [IA,List.map_append,List.map_cons,List.map_nil,hst3]
  have hput:=fun H=>L5 A p.1 p.2.1 (by omega) H;refine Dd eC<|Zz<|Sq ?_;refine Cn ?_ ?_<;>intro hc17
  ·refine aF<|aJ<|Sr<|Dd (by exact E5 (κ:=iU) (seen:=s.map (lH l2)) (p:=(p.1,sv p.2.1,p.2.2)) (since:=c2) rfl rfl rfl rfl rfl rfl rfl rfl rfl hn1)<|Dd eC<|Dd eC<|Dd aR<|Da ?_;refine iF.ent (E':=[(0,.ref 1200 0 0 0),(1,.mp 950 0),(2,.pv (aX P)),(7,.pv (hU A)),(29,.it 946 0),(8,sv p.1),(9,sv p.2.1)]) (H':=(946,IA 950 l2 c2 (s++[hni]))::CZ l2 c2 d x (gO k a n L false)) (cC.get' ⟨⟨_,rfl,rfl⟩,⟨_,rfl,rfl⟩,⟨_,rfl,rfl⟩,⟨_,rfl,rfl⟩,⟨_,rfl,rfl⟩,⟨_,rfl,rfl⟩,⟨_,rfl,rfl⟩,trivial⟩ (fun j=>by rw [hit];exact lD 946 _ (IA 950 l2 c2 s) (CZ l2 c2 d x (gO k a n L false)) j)) ?_;refine Rg<|Dd aB<|Dd aB<|Dd aB<|Dd (by exact aA rfl rfl NX rfl (hput _))<|Da ?_;refine⟨s++[hni],tI A p.1 p.2.1,⟨⟨hd2,hb2⟩,LS hsp,?_,fun y v=>?_⟩,by rw [aHs,List.length_singleton];omega,?_⟩
   ·have h1:=A6 p.1 p.2.1 A;rw [aHs,List.length_singleton];omega
   ·rw [xY];by_cases e:p.1=y
    ·rw [aHq e];constructor
     ·intro h;cases h;exact⟨hni,List.mem_append_right _ (aHu.2 rfl),p.2.2,by rw [hp,← e]⟩
     rintro⟨i,hi,q,hq⟩;have h1:=wN hnd2 (aIB hq);have h2:=wN (k:=p.1) (v:=p.2.1) (n:=p.2.2) hnd2 (aIB hp);rw [e,h1] at h2;exact h2.symm
    rw [aHp e,hlk];constructor
    ·rintro⟨i,hi,q,hq⟩;exact⟨i,List.mem_append_left _ hi,q,hq⟩
    rintro⟨i,hi,q,hq⟩;rcases List.mem_append.1 hi with h|h
    ·exact⟨i,h,q,hq⟩
    rw [aHu.1 h,hp] at hq;cases hq;exact absurd rfl e
   exact(cC.wk (Ea<|Ea<|Eb<|Eb<|Ea<|trivial) (Hc (EY rfl _ _ _)<|Hc (aU _ _ _)<|Hc (by(simp;exact⟨rfl,rfl⟩))<|Hb<|Hc (aD _ _ _)<|Ha<|trivial) ⟨rfl,rfl,rfl,rfl,rfl,trivial⟩)
  cases hc17
theorem W0 (d:DSt) (x:RX) (k a n:Nat) (L:KP):aK Tryz.prog 35 [.ref 1200 0 0 0] (jH d x (gO k a n L true)) (fun r H'=>r=iv 12∧H'=jH d x (gO k a n L true)):=by
 refine Bd aH0 rfl aHE<|Sr<|Dd aR<|Zz<|Sq<|Sr<|Dd aB<|Dd (by exact bR rfl eR rfl rfl rfl rfl)<|Zz ?_;refine Cn ?_ ?_<;>intro hc1
 ·cases hc1
 refine aF<|Sq<|Sr<|Dd aB<|Dd dY<|Dd (cI uZ)<|Dd (cW cK)<|Zz ?_;refine Cn ?_ ?_<;>intro hc2
 ·refine Sr<|Dd aR<|Zz<|aH ?_;refine bI (H':=(jH d x (gO k a n L true))) (.inr rfl) rfl (aI rfl) (Fin.wk (by(simp;done)) (Hc (by(simp;exact⟨rfl,rfl⟩))<|Hb<|Hc (aD _ _ _)<|Ha<|trivial) ⟨rfl,rfl,rfl,rfl,trivial⟩) ?_;exact Qq
 cases hc2
theorem aA3 {d:DSt} {x:RX} {N m:Nat} (h:DInv d N m) (hp:cY d) (k a n:Nat) (l:cN) (hk:k < 4000) (ha:a < 2) (hn:n≤k) (hm:m≤10) (hl:l.length≤5000) (hz:∀ p∈prs l,p.1.size≤5000∧p.2.size≤5000) :
  aK Tryz.prog 35 [.ref 1200 0 0 0] (jH d x (gO k a n (prs l) false)) (fun r H'=>(k < dD (cE l)∧r=iv 21∧H'=jH d x (gO k a n (prs l) false))∨(dD (cE l)≤k∧r=iv (uB d k a (cE l)).1∧∃ x' a' n',((uB d k a (cE l)).1=0→a'=0∧n'=dD (cE l))∧H'=jH (uB d k a (cE l)).2 x' (gO k a' n' (prs l) (!decide ((uB d k a (cE l)).1=0))))):=by
 have hW:cE l=if l.length=0 then[] else bM l []:=rfl
 obtain ⟨ws,wj⟩:=vW (A:=prs l) (D:=[]) (by rw [oL];exact hl) (by decide) hz (fun s h=>by cases h);have htx:=fun H=>L3 (prs l) [] (by rw [oL];omega) (by decide) ws wj H;have htl:=T3 wj;rw [UQ] at htx htl;have hpt:=fun H=>JS (bM l []) (by omega) H;obtain ⟨L,hL⟩:∃ L,L=prs l:=⟨_,rfl⟩;have hLl:L.length=l.length:=by rw [hL,oL]
 rw [← hL] at htx ⊢;have hml:(L.map encKV).length=L.length:=aHr _;have bt:∀ {p:Prop} [Decidable p],¬ p→(!decide p)=true:=fun h=>by rw [decide_eq_false h];rfl
 have bf:∀ {p:Prop} [Decidable p],p→(!decide p)=false:=fun h=>by rw [decide_eq_true h];rfl
 have ct:∀ {p:Prop} [Decidable p],¬ p→(false||!decide p)=true:=fun h=>by rw [decide_eq_false h];rfl
 have cf:∀ {p:Prop} [Decidable p],p→(false||!decide p)=false:=fun h=>by rw [decide_eq_true h];rfl
 refine Bd aH0 rfl aHE<|Sr<|Dd aR<|Zz<|Sq<|Sr<|Dd aB<|Dd (by exact bR rfl eR rfl rfl rfl rfl)<|Zz ?_;refine Cn ?_ ?_<;>intro hc1
 ·cases hc1
 refine aF<|Sq<|Sr<|Dd aB<|Dd dY<|Dd (cI uZ)<|Dd (cW cK)<|Zz ?_;refine Cn ?_ ?_<;>intro hc2
 ·cases hc2
 refine aF<|Sr<|Da ?_;refine fZ (fun(_:Unit)=>([(0,.ref 1200 0 0 0),(3,.pv (aX (N9 (cE l) (dD (cE l)))))],jH d x (gO k a n L false))) (fun _=>True) ?_ ?_
 ·refine Sr<|Dd aB<|Dd dY<|Dd (cI nL)<|Dd (cW dJ)<|Dd (jY bY)<|Dd yP<|Zz ?_;refine Cn ?_ ?_<;>intro hc3
  ·have hq:¬ l.length=0:=by have:=aHn hc3;omega
   rw [hW,aHp hq];refine Rg<|Dd aB<|Dd dY<|Dd (cI nL)<|Dd (cW dJ)<|Dd (by exact aA rfl rfl aCb rfl (htx _))<|Dd (by exact aA rfl rfl call73 rfl (hpt _))<|Da ?_;exact⟨(),trivial,(cC.wk (Ea<|Eb<|trivial) (Hc (by(simp;exact⟨rfl,rfl⟩))<|Hb<|Hc (aD _ _ _)<|Ha<|trivial) ⟨rfl,rfl,rfl,rfl,trivial⟩)⟩
  have hq:l.length=0:=by have:=aHo hc3;omega
  rw [hW,aHq hq];refine aF ?_;exact⟨(),trivial,(cC.wk (Ea<|Eb<|trivial) (Hc (by(simp;exact⟨rfl,rfl⟩))<|Hb<|Hc (aD _ _ _)<|Ha<|trivial) ⟨rfl,rfl,rfl,rfl,trivial⟩)⟩
 rintro _ -;have hwl:(cE l).length < 100000100:=by
  rw [hW]
  split
  ·decide
  exact htl
 obtain ⟨w,hw⟩:∃ w,w=cE l:=⟨_,rfl⟩;rw [← hw] at hwl ⊢;clear hW htx htl hpt hw;have hmt:((N9 w (dD w)).map encStr).length=dD w:=by rw [aHr,A9]
 refine Sq<|Sr<|Dd aB<|Dd (jY aO)<|Dd aB<|Dd dY<|Dd (cI yF)<|Dd (cW aL)<|Dd yP<|Zz ?_;refine Cn ?_ ?_<;>intro hc4
 ·have hq:k < dD w:=by have:=aHn hc4;omega
  refine Sr<|Dd aR<|Zz<|aH ?_;refine bI (H':=(jH d x (gO k a n L false))) (.inr rfl) rfl (aI rfl) (Fin.wk (by(simp;done)) (Hc (by(simp;exact⟨rfl,rfl⟩))<|Hb<|Hc (aD _ _ _)<|Ha<|trivial) ⟨rfl,rfl,rfl,rfl,trivial⟩) ?_;exact .inl ⟨hq,rfl,rfl⟩
 have hq:dD w≤k:=by have:=aHo hc4;omega
 refine aF<|aJ ?_;refine YT (fun(d1:DSt) (a1 n1 m1:Nat) (y1:RX)=>([(0,.ref 1200 0 0 0),(3,.pv (aX (N9 w (dD w))))],jH d1 y1 (gO k a1 n1 L false))) (fun d1 a1 n1 m1 y1=>DInv d1 N m1∧cY d1∧a1 < 2∧n1≤k∧(m1≤10∨(a1=1∧m1≤10010))∧uB d k a w=uB d1 k a1 w) (fun d1 a1 n1 m1 y1=>1 - a1) d a n m x ⟨h,hp,ha,hn,.inl hm,rfl⟩ ?_ ?_
 ·exact(cC.wk (Ea<|Eb<|trivial) (Hc (by(simp;exact⟨rfl,rfl⟩))<|Hb<|Hc (aD _ _ _)<|Ha<|trivial) ⟨rfl,rfl,rfl,rfl,trivial⟩)
 rintro d1 a1 n1 m1 y1 ⟨hi,hpi,ha1,hn1,hm1,hsc⟩;rw [hsc];have hwl2:w.length < 100000000:=by rw [dD] at hq;omega
 have hadd:=aA2 (x:=y1) hi hpi k a1 n1 (1 - a1) 0 false L w hwl2 (by omega) (by omega) (by omega) (by omega);have hA2:fR d1 k (1 - a1) 0 w=if(gY d1 (2+(1 - a1)*k+0) (gG (2+(1 - a1)*k+0) w (dD w))).1=0 then pV (gY d1 (2+(1 - a1)*k+0) (gG (2+(1 - a1)*k+0) w (dD w))).2 (1 - a1) (0+dD w)else gY d1 (2+(1 - a1)*k+0) (gG (2+(1 - a1)*k+0) w (dD w)):=rfl
 rw [aIJ] at hA2;have hai:=Q2 hi k (1 - a1) 0 w (by omega);have hpa:=A8 hpi k (1 - a1) 0 w;have hi1:=kI hi (2+(1 - a1)*k+0) (gG (2+(1 - a1)*k+0) w (dD w)) (by rw [eB];omega);rw [eB] at hi1;have hp1:=jP hpi (2+(1 - a1)*k+0) (gG (2+(1 - a1)*k+0) w (dD w));obtain ⟨v,hv⟩:∃ v,v=gY d1 (2+(1 - a1)*k+0) (gG (2+(1 - a1)*k+0) w (dD w)):=⟨_,rfl⟩;rw [← hv] at hadd hA2 hi1 hp1;have hset:=fun y=>UD (x:=y) hi1 hp1 k a1 n1 (1 - a1) (dD w) false L (by omega) (by omega) (by omega);obtain ⟨s,hs⟩:∃ s,s=pV v.2 (1 - a1) (dD w):=⟨_,rfl⟩;rw [← hs] at hset hA2;obtain ⟨u,hu⟩:∃ u,u=fR d1 k (1 - a1) 0 w:=⟨_,rfl⟩;rw [← hu] at hA2 hai hpa;have hR:AP d1 k a1 w=if u.1=0 then gY u.2 (2+a1*k+0) (zR (k - 0))else u:=by rw [AP,← hu]
 have hS:uB d1 k a1 w=if a1=1 then(if(AP d1 k a1 w).1=0 then gY (AP d1 k a1 w).2 (2+0*k+dD w) (zR (k - dD w))else AP d1 k a1 w)else if(AP d1 k a1 w).1=0 then uB (AP d1 k a1 w).2 k 1 w else AP d1 k a1 w:=by
  rcases(show a1=0∨a1=1 by omega)with e|e<;>subst e<;>rfl
 have hcl:=fun y=>O3 (x:=y) hai hpa k (1 - a1) (dD w) a1 0 false L (by omega) ha1 (aII _) (by omega);have hyi:=kI hai (2+a1*k+0) (zR (k - 0)) (by rw [List.length_replicate];omega);have hyp:=jP hpa (2+a1*k+0) (zR (k - 0));rw [List.length_replicate] at hyi;obtain ⟨y,hy⟩:∃ y,y=gY u.2 (2+a1*k+0) (zR (k - 0)):=⟨_,rfl⟩;rw [← hy] at hcl hyi hR hyp;have hcl2:=fun y'=>O3 (x:=y') hyi hyp k (1 - a1) (dD w) 0 (dD w) false L (by omega) (by omega) hq (by omega);obtain ⟨z,hz⟩:∃ z,z=gY y.2 (2+0*k+dD w) (zR (k - dD w)):=⟨_,rfl⟩;rw [← hz] at hcl2;clear hu hsc hv hs;refine aJ<|Sr<|Dd aB<|Dd dY<|Dd (cI yE)<|Dd (cW aL)<|Dd (by exact dG rfl rfl rfl (show IntKind.i64.wrap (1 - (a1:Int))=((1 - a1:Nat):Int)by rw [eS (by omega) (by omega)];omega))<|Dd aR<|Zz<|Sr<|Dd aB<|Dd aB<|Dm ?_;refine gC rfl rfl (aA rfl rfl call75 rfl hadd) ?_;rintro _ _ ⟨rfl,x1,rfl⟩;refine Dd aR<|Zz<|Sq<|Sr<|Dd aB<|Dd eP<|Zz ?_;refine Cn ?_ ?_<;>intro hc5
 ·have e0:v.1=0:=aHn hc5;rw [aHq e0] at hA2;rw [cf e0];refine Rg<|Dd aB<|Dd aB<|Dd aB<|Dd (jY aO) ?_;refine gC rfl rfl (aA rfl rfl call76 rfl (by rw [hmt];exact hset x1)) ?_;rintro _ _ ⟨rfl,x2,rfl⟩;refine Dd aR<|Zz<|Sq<|Sr<|Dd aB<|Dd eP<|Zz ?_;refine Cn ?_ ?_<;>intro hc6
  ·have e1:s.1=0:=aHn hc6;rw [hA2] at hR hcl;rw [aHq e1] at hR ⊢;rw [hR] at hS;refine Rg<|Dd aB<|Dd aB<|Dd (by exact dG rfl rfl rfl (show IntKind.i64.wrap (1 - ((1 - a1:Nat):Int))=(a1:Int)by rw [eS (by omega) (by omega)];omega)) ?_;refine gC rfl rfl (aA rfl rfl call78 rfl (hcl x2)) ?_;rintro _ _ ⟨rfl,x3,rfl⟩;refine Dd aR<|Zz<|Sq<|Sr<|Dd aB<|Dd tM<|Zz ?_;refine Cn ?_ ?_<;>intro hc7
   ·have e2:¬ y.1=0:=by have h:=hc7;simpa using h
    have hS2:uB d1 k a1 w=y:=by
     rw [hS,aHp e2,aHp e2,ite_self]
    rw [hS2];refine Sr<|Dd aB<|Dd aR<|Zz<|aH ?_;refine bI (H':=(jH y.2 x3 (gO k (1 - a1) (dD w) L (false||!decide (y.1=0))))) (.inr rfl) rfl (aI rfl) (Fin.wk (by(simp;done)) (Hc (by(simp;exact⟨rfl,rfl⟩))<|Hb<|Hc (aD _ _ _)<|Ha<|trivial) ⟨rfl,rfl,rfl,rfl,trivial⟩) ?_;exact .inr ⟨hq,rfl,x3,1 - a1,dD w,fun h=>absurd h e2,rfl⟩
   have e2:y.1=0:=by have h:=hc7;simpa using h
   rw [aHq e2,aHq e2,← hz] at hS;rw [cf e2];refine aF<|Sr<|Dd aB<|Dd eP<|Zz ?_;refine Cn ?_ ?_<;>intro hc8
   ·have e3:a1=1:=by have:=aHn hc8;omega
    rw [aHq e3] at hS;rw [hS];refine Sr<|Dd aB<|Dd aB<|Dd dY<|Dd (cI vA)<|Dd (cW aL) ?_;refine gC rfl rfl (aA rfl rfl call78 rfl (hcl2 x3)) ?_;rintro _ _ ⟨rfl,x4,rfl⟩;refine Dd aR<|Zz<|aH ?_;refine bI (H':=(jH z.2 x4 (gO k (1 - a1) (dD w) L (false||!decide (z.1=0))))) (.inr rfl) rfl (aI rfl) (Fin.wk (by(simp;done)) (Hc (by(simp;exact⟨rfl,rfl⟩))<|Hb<|Hc (aD _ _ _)<|Ha<|trivial) ⟨rfl,rfl,rfl,rfl,trivial⟩) ?_;exact .inr ⟨hq,rfl,x4,1 - a1,dD w,fun _=>⟨by omega,rfl⟩,rfl⟩
   have e3:¬ a1=1:=by have:=aHo hc8;omega
   rw [aHp e3] at hS;have e4:a1=0:=by omega
   subst e4;refine aF ?_;exact⟨y.2,1,dD w,_,x3,⟨hyi,hyp,by omega,hq,.inr ⟨rfl,by omega⟩,hS⟩,by omega,(cC.wk (Ea<|Eb<|trivial) (Hc (by(simp;exact⟨rfl,rfl⟩))<|Hb<|Hc (aD _ _ _)<|Ha<|trivial) ⟨rfl,rfl,rfl,rfl,trivial⟩)⟩
  have e1:¬ s.1=0:=aHo hc6;rw [hA2,aHp e1] at hR;rw [aHp e1];rw [hR] at hS;have hS2:uB d1 k a1 w=s:=by
   rw [hS,aHp e1,aHp e1,ite_self]
  rw [hS2];refine aF<|Sq<|Sr<|Dd aB<|Dd tM<|Zz ?_;refine Cn ?_ ?_<;>intro hc9
  ·refine Sr<|Dd aB<|Dd aR<|Zz<|aH ?_;refine bI (H':=(jH s.2 x2 (gO k a1 n1 L (!decide (s.1=0))))) (.inr rfl) rfl (aI rfl) (by rw [bt e1];exact(Fin.wk (by(simp;done)) (Hc (by(simp;exact⟨rfl,rfl⟩))<|Hb<|Hc (aD _ _ _)<|Ha<|trivial) ⟨rfl,rfl,rfl,rfl,trivial⟩)) ?_;exact .inr ⟨hq,rfl,x2,a1,n1,fun h=>absurd h e1,rfl⟩
  (have h:=hc9;simp [e1] at h)
 have e0:¬ v.1=0:=aHo hc5;rw [aHp e0] at hA2;rw [hA2,aHp e0] at hR;rw [hR] at hS;have hS2:uB d1 k a1 w=v:=by
  rw [hS,aHp e0,aHp e0,ite_self]
 rw [hS2,ct e0];refine aF<|Sq<|Sr<|Dd aB<|Dd eP<|Zz ?_;refine Cn ?_ ?_<;>intro hc10
 ·(have h:=hc10;simp [e0] at h)
 refine aF<|Sq<|Sr<|Dd aB<|Dd tM<|Zz ?_;refine Cn ?_ ?_<;>intro hc11
 ·refine Sr<|Dd aB<|Dd aR<|Zz<|aH ?_;refine bI (H':=(jH v.2 x1 (gO k a1 n1 L (!decide (v.1=0))))) (.inr rfl) rfl (aI rfl) (by rw [bt e0];exact(Fin.wk (by(simp;done)) (Hc (by(simp;exact⟨rfl,rfl⟩))<|Hb<|Hc (aD _ _ _)<|Ha<|trivial) ⟨rfl,rfl,rfl,rfl,trivial⟩)) ?_;exact .inr ⟨hq,rfl,x1,a1,n1,fun h=>absurd h e0,rfl⟩
 (have h:=hc11;simp [e0] at h)
theorem R8 (l2:cN) (c2:Nat) (d:DSt) (x:RX) (k a n:Nat) (L:KP) (P:List ByteArray):aK Tryz.prog 34 [.ref 1200 0 0 0,.mp 950 0,.pv (aX P)] (CZ l2 c2 d x (gO k a n L true)) (fun r H'=>r=iv 12∧H'=CZ l2 c2 d x (gO k a n L true)):=by
 refine Bd aC6 rfl Y7<|Sr<|Dd aR<|Zz<|Sq<|Sr<|Dd aB<|Dd (by exact bR rfl eR rfl rfl rfl rfl)<|Zz ?_;refine Cn ?_ ?_<;>intro hc1
 ·cases hc1
 refine aF<|Sq<|Sr<|Dd aB<|Dd dY<|Dd (cI uZ)<|Dd (cW cK)<|Zz ?_;refine Cn ?_ ?_<;>intro hc2
 ·refine Sr<|Dd aR<|Zz<|aH ?_;refine bI (H':=(CZ l2 c2 d x (gO k a n L true))) (.inr rfl) rfl (aI rfl) (Fin.wk (by(simp;done)) (Hc (aU _ _ _)<|Hc (by(simp;exact⟨rfl,rfl⟩))<|Hb<|Hc (aD _ _ _)<|Ha<|trivial) ⟨rfl,rfl,rfl,rfl,rfl,trivial⟩) ?_;exact Qq
 cases hc2
theorem oM (H:aE):aK Tryz.prog 18 [.pv .nilp] H (fun r H'=>r=.pv (aX [])∧H'=H):=by
 refine Pu ?_;have hk:=fun H=>XR H;refine Bd func18 rfl ntmps18<|Sr<|Dd aR<|Zz<|Sr<|Dd aB<|Dd (by exact aA rfl rfl aHc rfl (hk _))<|Dd aR<|Zz<|Sr<|Dd aR<|Zz<|Sq<|Sr<|Dd aR<|Zz<|aJ ?_;refine bG (σ:=Nat) (fun _=>([(3,.pv (aX [])),(4,.pv (aX [])),(5,iv 0)],[])) (fun _=>True) (fun _=>0) 0 trivial ?_ ?_
 ·exact Wk
 intro i hi;refine Sq<|Sr<|Dd aB<|Dd aB<|Dd (jY aO)<|Dd cP<|Zz ?_;refine Cn ?_ ?_<;>intro hc1
 ·cases hc1
 exact aV<|Sr<|Dd aB<|Dd aR<|Zz<|aH<|Rt<|Qq
theorem K9 {ρ:Nat→Nat} (hρ:∀ n,ρ (ρ n)=n) {f:FuncId} {args args':List AV} {H0 H3 H:aE} {R:AV→aE→Prop} (h:aK Tryz.prog f args H0 R) (ha:kR ρ args=args') (hH:jM ρ H0=H3) (hs:Sub H3 H) (hc:bT H3) (hac:∀ a∈args',Clo H3 a)
  (hk:∀ r K,R r K→∀ id,(aE.get (jM ρ K) id).isSome=true→(H3.get id).isSome=true∨H.get id=none):aK Tryz.prog f args' H (fun r H'=>∃ r0 K,R r0 K∧r=jN ρ r0∧H'=jM ρ K++H):=by
 refine(aK.frameQ (aK.renQ hρ h ha hH) hs hc hac ?_).mono ?_
 ·rintro r K ⟨r0,K0,hR,rfl,rfl⟩ id hid;exact hk r0 K0 hR id hid
 rintro r H' ⟨K,⟨r0,K0,hR,rfl,rfl⟩,rfl⟩;exact⟨r0,K0,hR,rfl,rfl⟩
theorem ED {s:DSt} {N:Nat} (h:DInv s N 0):Calm (oH s) N:=⟨XS h,rfl,fun a w b h=>mV h⟩
theorem WZ (a w b:Int) (H:aE):aK Tryz.prog 36 [.pv .nilp,iv a,iv w,iv b] H (fun r H'=>r=.tup []∧H'=H):=by
 refine Pu ?_;refine Bd func36 rfl ntmps36<|Sq<|Sr<|Dd aB<|Dd (by exact dF rfl cZ rfl rfl)<|Zz ?_;refine Cn ?_ ?_<;>intro hc1
 ·refine aH ?_;refine eQ (H':=[]) (.inr rfl) rfl  (Fin.wk (by simp) trivial trivial) ?_;exact Qq
 cases hc1
theorem R1 (w b:Int) (H:aE):aK Tryz.prog 37 [.pv .nilp,iv w,iv b] H (fun r H'=>r=.tup []∧H'=H):=by
 refine Pu ?_;refine Bd func37 rfl ntmps37<|Sq<|Sr<|Dd aB<|Dd (by exact dF rfl cZ rfl rfl)<|Zz ?_;refine Cn ?_ ?_<;>intro hc1
 ·refine aH ?_;refine eQ (H':=[]) (.inr rfl) rfl  (Fin.wk (by simp) trivial trivial) ?_;exact Qq
 cases hc1
theorem OW (H:aE):aK Tryz.prog 38 [.pv .nilp] H (fun r H'=>r=.tup []∧H'=H):=by
 refine Pu ?_;refine Bd func38 rfl ntmps38<|Sq<|Sr<|Dd aB<|Dd (by exact dF rfl cZ rfl rfl)<|Zz ?_;refine Cn ?_ ?_<;>intro hc1
 ·refine aH ?_;refine eQ (H':=[]) (.inr rfl) rfl  (Fin.wk (by simp) trivial trivial) ?_;exact Qq
 cases hc1
theorem WN (a w b:Int) (H:aE):aK Tryz.prog 39 [.pv .nilp,iv a,iv w,iv b] H (fun r H'=>r=.tup []∧H'=H):=by
 refine Pu ?_;refine Bd func39 rfl ntmps39<|Sq<|Sr<|Dd aB<|Dd (by exact dF rfl cZ rfl rfl)<|Zz ?_;refine Cn ?_ ?_<;>intro hc1
 ·refine aH ?_;refine eQ (H':=[]) (.inr rfl) rfl  (Fin.wk (by simp) trivial trivial) ?_;exact Qq
 cases hc1
theorem WO (H:aE):aK Tryz.prog 40 [.pv .nilp] H (fun r H'=>r=sv sNil∧H'=H):=by
 refine Pu ?_;refine Bd func40 rfl ntmps40<|Sr<|Dd aR<|Zz<|Sq<|Sr<|Dd aB<|Dd (by exact dF rfl cZ rfl rfl)<|Zz ?_;refine Cn ?_ ?_<;>intro hc1
 ·exact Sr<|Dd aR<|Zz<|aH<|Rt<|Qq
 cases hc1
theorem J6 (H:aE):aK Tryz.prog 12 [.pv .nilp] H (fun r H'=>r=.tup [.pv .nilp,iv 1]∧H'=H):=by
 refine Pu ?_;refine Bd aC8 rfl Y9<|Sr<|Dd aR<|Dd aR<|Zz<|Sq<|Sr<|Dd aB<|Dd (by exact dF rfl dN rfl rfl)<|Zz ?_;refine Cn ?_ ?_<;>intro hc1
 ·exact Sr<|Dd aR<|Dd aR<|Zz<|aH<|Ru<|Qq
 cases hc1
theorem F2 (H:aE):aK Tryz.prog 32 [.pv .nilp] H (fun r H'=>r=.tup [.pv .nilp,iv 1]∧H'=H):=by
 refine Pu ?_;refine Bd aC7 rfl Y8<|Sr<|Dd aR<|Dd aR<|Zz<|Sq<|Sr<|Dd aB<|Dd (by exact dF rfl cZ rfl rfl)<|Zz ?_;refine Cn ?_ ?_<;>intro hc1
 ·exact Sr<|Dd aR<|Dd aR<|Zz<|aH<|Ru<|Qq
 cases hc1
theorem DV (H:aE):aK Tryz.prog 35 [.pv .nilp] H (fun r H'=>r=iv 1∧H'=H):=by
 refine Pu ?_;refine Bd aH0 rfl aHE<|Sr<|Dd aR<|Zz<|Sq<|Sr<|Dd aB<|Dd (by exact dF rfl eR rfl rfl)<|Zz ?_;refine Cn ?_ ?_<;>intro hc1
 ·exact Sr<|Dd aR<|Zz<|aH<|Rt<|Qq
 cases hc1
theorem FV (H:aE):aK Tryz.prog 21 [.pv .nilp] H (fun r H'=>r=iv 1∧H'=H):=by
 refine Pu ?_;refine Bd aH1 rfl aHF<|Sr<|Dd aR<|Zz<|Sq<|aJ<|Sr<|Dd aB<|Dd (by exact dF rfl dR rfl rfl)<|Da ?_;refine Cn ?_ ?_<;>intro hc1
 ·exact Sr<|Dd aR<|Zz<|aH<|Rt<|Qq
 cases hc1
theorem WQ (z:Int) (hz:z < 1) (H:aE):aK Tryz.prog 31 [iv z] H (fun r H'=>r=.pv .nilp∧H'=H):=by
 refine Pu ?_;refine Bd func31 rfl ntmps31<|Sr<|Dd aR<|Zz<|Sq<|Sr<|Dd aB<|Dd (by exact bS.eqv (dB rfl rfl rfl) (by rw [decide_eq_true hz]))<|Dd aB<|Fo<|Fo<|Dd cX<|Zz ?_;refine Cn ?_ ?_<;>intro hc1
 ·exact Sr<|Dd aR<|Zz<|aH<|Rt<|Qq
 cases hc1
theorem EC (a b:AV) (H:aE):aK Tryz.prog 14 [.pv .nilp,a,b] H (fun r H'=>r=iv 1∧H'=H):=by
 refine Bd CG rfl yQ<|Sr<|Dd aR<|Zz<|Sq<|aJ<|Sr<|Dd aB<|Dd (by exact dF rfl dR rfl rfl)<|Da ?_;refine Cn ?_ ?_<;>intro hc1
 ·refine Sr<|Dd aR<|Zz<|aH ?_;refine bI (H':=H) (.inr rfl) rfl (aI rfl) Fin.refl ?_;exact Qq
 cases hc1
theorem A3 (a b:AV) (H:aE):aK Tryz.prog 34 [.pv .nilp,a,b] H (fun r H'=>r=iv 1∧H'=H):=by
 refine Bd aC6 rfl Y7<|Sr<|Dd aR<|Zz<|Sq<|Sr<|Dd aB<|Dd (by exact dF rfl eR rfl rfl)<|Zz ?_;refine Cn ?_ ?_<;>intro hc1
 ·refine Sr<|Dd aR<|Zz<|aH ?_;refine bI (H':=H) (.inr rfl) rfl (aI rfl) Fin.refl ?_;exact Qq
 cases hc1
theorem rW (H:aE):aK Tryz.prog 33 [.pv .nilp] H (fun r H'=>r=.pv (aX [])∧H'=H):=by
 refine Pu ?_;refine Bd func33 rfl ntmps33<|Sr<|Dd aR<|Zz<|Sr<|Dd aR<|Zz<|Sq<|Sr<|Dd aR<|Zz<|aJ ?_;refine bG (σ:=Nat) (fun i=>([(0,.pv .nilp),(3,.pv (aX [])),(4,iv (i:Int))],[])) (fun i=>True) (fun i=>0) 0 trivial ?_ ?_
 ·exact Wk
 intro i _;refine Sq<|Sr<|Dd aB<|Dd (by exact D3 rfl eR rfl rfl)<|Dd aB<|Fo<|Fo<|Fo<|Fo<|Fo<|Fo<|Fo<|Dd cX<|Zz ?_;refine Cn ?_ ?_<;>intro hc1
 ·cases hc1
 exact aV<|Sr<|Dd aB<|Dd aR<|Zz<|aH<|Rt<|Qq
theorem aAx (d:DSt) (x:RX) (k a n:Nat) (L:KP) (b:Bool) (hL:L.length≤100000):aK Tryz.prog 33 [.ref 1200 0 0 0] (jH d x (gO k a n L b)) (fun r H'=>r=.pv (aX (mX L))∧H'=jH d x (gO k a n L b)):=by
 have hml:(L.map encKV).length=L.length:=aHr _;refine Bd func33 rfl ntmps33<|Sr<|Dd aR<|Zz<|Sr<|Dd (by exact eU (id:=905) (sz:=1) (ty:=9) rfl rfl rfl)<|Zz<|Sq<|Sr<|Dd aR<|Zz<|aJ ?_;refine bG (σ:=Nat) (fun i=>([(0,.ref 1200 0 0 0),(3,.osl 905 i 0 (2*i)),(4,iv (i:Int))],(905,⟨i,1,9,eA (mX (L.take i))⟩)::jH d x (gO k a n L b))) (fun i=>i≤L.length) (fun i=>L.length - i) 0 (aII _) ?_ ?_
 ·exact(cC.wk (Ea<|Ea<|Eb<|trivial) (Hc (dK _ _)<|Hc (bE _ _ _ rfl rfl)<|Hb<|Hc (aD _ _ _)<|Ha<|trivial) ⟨rfl,rfl,rfl,rfl,trivial⟩)
 intro i hi;have hl:(mX (L.take i)).length=2*i:=by rw [BY,aIF];omega
 refine Sq<|Sr<|Dd aB<|Dd (by exact wG rfl eR rfl rfl rfl rfl)<|Dd aB<|On aB<|On aB<|On dY<|On (cI nL)<|On (cW dJ)<|On (jY bY)<|On cP<|Dd cX<|Zz ?_;refine Cn ?_ ?_<;>intro hc1
 ·have hlt:i < L.length:=by have:=aHn hc1;omega
  obtain ⟨p,hp⟩:=aY hlt;have hip:=cV (f:=encKV) hp;have hnx:mX (L.take (i+1))=mX (L.take i)++[p.1,p.2]:=by rw [bW hp,KO]
  refine aF<|Sq<|aJ<|bF follows<|Cr [905] (fun _ _=>aB)<|Cr [1200] (fun _ _=>aB)<|Cr [1200] (fun H1 hH=>by exact bK rfl rfl ((hH _ rfl).trans rfl) rfl)<|Cr [1200] (fun _ h=>fh nL h)<|Cr [1200] (fun _ h=>lh dJ h)<|Cr [] (fun _ _=>aB)<|Cr [] (fun H1 hH=>by exact aZ rfl gF rfl rfl (by omega) (by exact aIC _) hip rfl)<|Cr [] (fun H1 hH=>by exact bC rfl aW sizeOf9 rfl rfl (by omega) (by exact aIC _) (by decide) rfl)<|Cr [] (fun _ _=>(gW aQ))<|Cr [1200] (fun _ _=>aB)<|Cr [1200] (fun H1 hH=>by exact bK rfl rfl ((hH _ rfl).trans rfl) rfl)<|Cr [1200] (fun _ h=>fh nL h)<|Cr [1200] (fun _ h=>lh dJ h)<|Cr [] (fun _ _=>aB)<|Cr [] (fun H1 hH=>by exact aZ rfl gF rfl rfl (by omega) (by exact aIC _) hip rfl) ?_;refine Cr [] (fun H1 hH=>by exact bC rfl aW sizeOf9 rfl rfl (by omega) (by exact aIC _) (by decide) rfl)<|Cr [] (fun _ _=>(gW aQ))<|Cr [] (fun H1 hH=>by exact bD [[.str p.1],[.str p.2]] rfl cD rfl rfl rfl rfl rfl (oO p.1 p.2))<|Cp [905] (fun H1 hH=>by exact dV (k:=2*(i+1)) (ps:=[[.str p.1],[.str p.2]]) rfl cD IB rfl ((hH _ rfl).trans rfl) rfl rfl rfl ((eX _).trans hl) rfl (oO _ _) (m:=2) rfl (by omega) (by omega) (jK _ [p.1,p.2]))<|Cr [905] (fun _ _=>aR)<|cA<|Kr<|Rg<|Dd aB<|Dd (by exact bA rfl rfl rfl (show IntKind.i64.wrap ((i:Int)+1)=((i+1:Nat):Int)by rw [eS (by omega) (by omega)];omega))<|Da ?_;refine⟨i+1,by omega,by omega,?_⟩;rw [hnx];exact(cC.wk (Ea<|Ea<|Eb<|trivial) (Hc (dK _ _)<|Hc (bE _ _ _ rfl rfl)<|Hb<|Hc (aD _ _ _)<|Ha<|trivial) ⟨rfl,rfl,rfl,rfl,trivial⟩)
 have hge:i=L.length:=by have:=aHo hc1;omega
 rw [hge,List.take_length] at hl ⊢;refine aV<|Sr<|Dd aB<|Dd aR<|Zz<|aH ?_;refine bI (H':=(jH d x (gO k a n L b))) (.inr rfl) rfl (aI rfl) (Fin.stK (mX L) rfl rfl rfl hl.symm rfl ⟨⟨_,rfl,rfl⟩,(by exact bE _ _ _ rfl rfl),⟨_,rfl,rfl⟩,(by(simp;done)),⟨_,rfl,rfl⟩,(by exact aD _ _ _),⟨_,rfl,rfl⟩,(by(simp;rfl)),trivial⟩ ⟨rfl,rfl,rfl,rfl,trivial⟩) ?_;exact Qq
def N6 (p:Int×DSt) (N:Nat):Prop:=(p.1=0∧OnD p.2 N)∨(p.1=22∧jA p.2 N)
theorem LL {d:DSt} {N:Nat} (h:OnD d N) {place:Nat} {L:List ByteArray} (hp:place+L.length≤N) (hs:∀ t∈L,t.size=64) (hm:L.length≤1048575):N6 (gY d place L) N:=by
 rcases RI h hp hs hm with⟨h1,h2,_⟩|⟨h1,h2,_⟩
 ·exact .inl ⟨h1,h2⟩
 exact .inr ⟨h1,h2⟩
theorem MO {d:DSt} {N:Nat} (h:OnD d N) {place:Nat} {t:ByteArray} (hp:place < N) (hs:t.size=64):N6 (gY d place [t]) N :=LL h (by rw [List.length_singleton];omega) (fun x hx=>by rw [aHu.1 hx];exact hs) (by rw [List.length_singleton];omega)
theorem aCx {d:DSt} {N:Nat} (h:OnD d N) (hN:2≤N) {a cn:Nat} (ha:a < 10) (hc:cn < 10000000):N6 (pV d a cn) N:=by
 rw [pV];have h1:=MO h (place:=1) (t:=hS 1 a cn) (by omega) (BR 1 ha hc);rcases h1 with⟨e,h1⟩|⟨e,h1⟩
 ·rw [aHq e];exact MO h1 (by omega) (BR 0 ha hc)
 rw [aHp (by rw [e];decide)];exact .inr ⟨e,h1⟩
theorem aAQ {d:DSt} {N:Nat} (h:OnD d N) {place a cn:Nat} (hp:place < N) (ha:a < 10) (hc:cn < 10000000) (hd:Bool):N6 (mB d place a cn hd) N:=by
 rw [mB]
 split
 ·exact .inl ⟨rfl,h⟩
 have h1:=MO h (place:=place) (t:=zS) hp TY
 split
 ·next e =>
  rcases h1 with⟨_,h1⟩|⟨e2,_⟩
  ·exact MO h1 hp (FD place hd ha hc)
  rw [e2] at e;cases e.1
 exact h1
theorem aEt {d:DSt} {N:Nat} (h:OnD d N) (hN:2≤N) {a cn:Nat} (ha:a < 10) (hc:cn < 10000000) (hd:Bool):N6 (rsB d a cn hd) N:=by
 rw [rsB];have h1:=aAQ h (place:=1) (by omega) ha hc hd;rcases h1 with⟨e,h1⟩|⟨e,h1⟩
 ·rw [aHq e];exact aAQ h1 (by omega) ha hc hd
 rw [aHp (by rw [e];decide)];exact .inr ⟨e,h1⟩
theorem V2 {d:DSt} {N:Nat} (h:OnD d N) {k a cn:Nat} {t:List UInt8} (hk:2*k+2≤N) (hN:N≤8000) (ha:a < 2) (hc:cn+dD t≤k):N6 (fR d k a cn t) N:=by
 rw [fR];have hm:a*k≤1*k:=Nat.mul_le_mul (by omega) (aHx _);have h1:=LL h (place:=2+a*k+cn) (L:=gG (2+a*k+cn) t (dD t)) (by rw [eB];omega) (JO _ _ _) (by rw [eB];omega);rcases h1 with⟨e,h1⟩|⟨e,h1⟩
 ·rw [aHq e];exact aCx h1 (by omega) (by omega) (by omega)
 rw [aHp (by rw [e];decide)];exact .inr ⟨e,h1⟩
theorem aAJ {d:DSt} {N:Nat} (h:OnD d N) {k a:Nat} {w:List UInt8} (hk:2*k+2≤N) (hN:N≤8000) (ha:a < 2) (hw:dD w≤k):N6 (AP d k a w) N:=by
 rw [AP];have hm:a*k≤1*k:=Nat.mul_le_mul (by omega) (aHx _);have h1:=V2 h (k:=k) (a:=1 - a) (cn:=0) (t:=w) hk hN (by omega) (by omega);rcases h1 with⟨e,h1⟩|⟨e,h1⟩
 ·rw [aHq e];exact LL h1 (by rw [List.length_replicate];omega) (EM _) (by rw [List.length_replicate];omega)
 rw [aHp (by rw [e];decide)];exact .inr ⟨e,h1⟩
theorem aAK {d:DSt} {N:Nat} (h:OnD d N) {k:Nat} {w:List UInt8} (hk:2*k+2≤N) (hN:N≤8000) (hw:dD w≤k):N6 (scL d k w) N:=by
 rw [scL];have h1:=aAJ h (k:=k) (a:=1) (w:=w) hk hN (by omega) hw;rcases h1 with⟨e,h1⟩|⟨e,h1⟩
 ·rw [aHq e];exact LL h1 (by rw [List.length_replicate];omega) (EM _) (by rw [List.length_replicate];omega)
 rw [aHp (by rw [e];decide)];exact .inr ⟨e,h1⟩
theorem aEs {d:DSt} {N:Nat} (h:OnD d N) {k a:Nat} {w:List UInt8} (hk:2*k+2≤N) (hN:N≤8000) (hw:dD w≤k):N6 (uB d k a w) N:=by
 rw [uB]
 split
 ·exact aAK h hk hN hw
 have h1:=aAJ h (k:=k) (a:=0) (w:=w) hk hN (by omega) hw;rcases h1 with⟨e,h1⟩|⟨e,h1⟩
 ·rw [aHq e];exact aAK h1 hk hN hw
 rw [aHp (by rw [e];decide)];exact .inr ⟨e,h1⟩
def nT (d:DSt) (N k:Nat):Int×DSt:=if d.off=true then(22,d)else if N < 4 then(1,d)else if kK d k=true then(23,d)else rsB d (sV d k) (rQ d k) (C7 d k)
theorem aAh {d:DSt} {N k:Nat} (h:OnD d N∨jA d N) (hk:k=(N - 2) / 2) (hN:N≤8000):((nT d N k).1=0∧OnD (nT d N k).2 N∧4≤N)∨(¬ (nT d N k).1=0∧(OnD (nT d N k).2 N∨jA (nT d N k).2 N)):=by
 rw [nT];have hb:=xQ d k;rcases h with h|h
 ·rw [aHp (by rw [h.off];decide)];by_cases h4:N < 4
  ·rw [aHq h4];exact .inr ⟨by show ¬ (1:Int)=0;decide,.inl h⟩
  rw [aHp h4]
  split
  ·exact .inr ⟨by show ¬ (23:Int)=0;decide,.inl h⟩
  rcases aEt h (by omega) (a:=sV d k) (cn:=rQ d k) (by omega) (by omega) (C7 d k)with⟨e,h1⟩|⟨e,h1⟩
  ·exact .inl ⟨e,h1,by omega⟩
  exact .inr ⟨by rw [e];decide,.inr h1⟩
 rw [aHq h.off];exact .inr ⟨by show ¬ (22:Int)=0;decide,.inr h⟩
theorem US {d:DSt} (h:cY d) (N k:Nat):cY (nT d N k).2:=by
 rw [nT]
 repeat' split
 ·exact h
 ·exact h
 ·exact h
 rw [rsB]
 split
 ·exact EU (EU h _ _ _ _) _ _ _ _
 exact EU h _ _ _ _
def ofK:Nat→Int
 | 0=>0
 | _+1=>22
theorem XG {d:DSt} {N:Nat} (h:jA d N):aK Tryz.prog 12 [.ref 1000 0 0 0] (bN d) (fun r H'=>r=.tup [.pv .nilp,iv 22]∧H'=bN d):=by
 have hs:=h.inv.ok;have hrE:∀ i:Int,fS d i=22:=fun i=>by rw [fS,h.off,aHq rfl]
 have hrd:=L9 d 0 hs;rw [hrE] at hrd;refine Bd aC8 rfl Y9<|Sr<|Dd aR<|Dd aR<|Zz<|Sq<|Sr<|Dd aB<|Dd (by exact bR rfl dN rfl rfl rfl rfl)<|Zz ?_;refine Cn ?_ ?_<;>intro hc1
 ·cases hc1
 refine aF<|Sr<|Dd aR<|Zz<|Sr<|Dd aR<|Zz<|Sq<|aJ ?_;refine bG (σ:=Nat) (fun i=>([(0,.ref 1000 0 0 0),(4,iv (i:Int)),(5,iv (ofK i))],bN d)) (fun i=>i≤1) (fun i=>1 - i) 0 (aII _) ?_ ?_
 ·exact(cC.wk (Ea<|Eb<|Eb<|trivial) (Hc (aM _ _ rfl rfl rfl)<|Hc (aG _ _)<|Hc (aD _ _ _)<|Hc (aP _ _)<|trivial) ⟨rfl,rfl,rfl,rfl,trivial⟩)
 intro i hi;rcases(show i=0∨i=1 by omega)with rfl|rfl
 ·rw [show ofK 0=0 from rfl];refine Sq<|Sr<|Dd aB<|Dd eP<|Zz ?_;refine Cn ?_ ?_<;>intro hc2
  ·refine aF<|Sq<|aJ<|Rg<|Dd aB<|Dd aB<|Dd (by exact aA rfl rfl rN rfl (hrd))<|Dd aB<|Dd eC<|Dd eC<|Dd aR<|Zz<|Rg<|Dd aB<|Dd (by exact bA rfl rfl rfl (show IntKind.i64.wrap (((0:Nat):Int)+1)=((1:Nat):Int)by decide))<|Da ?_;exact⟨1,aHx _,by omega,(cC.wk (Ea<|Eb<|Eb<|trivial) (Hc (aM _ _ rfl rfl rfl)<|Hc (aG _ _)<|Hc (aD _ _ _)<|Hc (aP _ _)<|trivial) ⟨rfl,rfl,rfl,rfl,trivial⟩)⟩
  cases hc2
 rw [show ofK 1=22 from rfl];refine Sq<|Sr<|Dd aB<|Dd eP<|Zz ?_;refine Cn ?_ ?_<;>intro hc3
 ·cases hc3
 refine aV<|Sq<|Sr<|Dd aB<|Dd (by exact dG rfl rfl rfl (show IntKind.i64.wrap (((1:Nat):Int) - 1)=((0:Nat):Int)by decide))<|Dd aR<|Zz<|Sr<|Dd aB<|Dd eP<|Zz ?_;refine Cn ?_ ?_<;>intro hc4
 ·refine Sr<|Dd aB<|Dd aR<|Dd aR<|Zz<|aH ?_;refine fF (H':=(bN d)) (.inr rfl) rfl (aI rfl) (aI rfl) (Fin.wk (by(simp;done)) (Hc (aM _ _ rfl rfl rfl)<|Hc (aG _ _)<|Hc (aD _ _ _)<|Hc (aP _ _)<|trivial) ⟨rfl,rfl,rfl,rfl,trivial⟩) ?_;exact Qq
 cases hc4
theorem R0 {d:DSt} {x:RX} {N:Nat} (h:jA d N):aK Tryz.prog 32 [.ref 1100 0 0 0] (dA d x) (fun r H'=>r=.tup [.pv .nilp,iv 22]∧H'=dA d x):=by
 have hs:=h.inv.ok;have hrE:∀ i:Int,fS d i=22:=fun i=>by rw [fS,h.off,aHq rfl]
 have hrd:=xI d x 0 hs;rw [hrE] at hrd;refine Bd aC7 rfl Y8<|Sr<|Dd aR<|Dd aR<|Zz<|Sq<|Sr<|Dd aB<|Dd (by exact bR rfl cZ rfl rfl rfl rfl)<|Zz ?_;refine Cn ?_ ?_<;>intro hc1
 ·cases hc1
 refine aF<|Sr<|Dd aR<|Zz<|Sr<|Dd aB<|Dd aB<|Dd (by exact aA rfl rfl oK rfl (hrd))<|Dd aB<|Dd eC<|Dd eC<|Dd aR<|Dd aR<|Zz<|Sq<|aJ ?_;refine bG (σ:=Nat) (fun i=>([(0,.ref 1100 0 0 0),(4,iv 0),(6,iv 22)],dA d x)) (fun i=>True) (fun i=>0) 0 trivial ?_ ?_
 ·exact(cC.wk (Ea<|Eb<|Eb<|trivial) (Hc (bE _ _ _ rfl rfl)<|Hb<|Hc (aD _ _ _)<|trivial) ⟨rfl,rfl,rfl,trivial⟩)
 intro i _;refine Sq<|Sr<|Dd aB<|Dd eP<|Zz ?_;refine Cn ?_ ?_<;>intro hc2
 ·cases hc2
 refine aV<|Sq<|Sr<|Dd aB<|Dd eP<|Zz ?_;refine Cn ?_ ?_<;>intro hc3
 ·refine Sr<|Dd aB<|Dd aR<|Dd aR<|Zz<|aH ?_;refine fF (H':=(dA d x)) (.inr rfl) rfl (aI rfl) (aI rfl) (Fin.wk (by(simp;done)) (Hc (bE _ _ _ rfl rfl)<|Hb<|Hc (aD _ _ _)<|trivial) ⟨rfl,rfl,rfl,trivial⟩) ?_;exact Qq
 cases hc3
theorem SI {d:DSt} {N:Nat} (h:OnD d N) (hN:N < 4):aK Tryz.prog 12 [.ref 1000 0 0 0] (bN d) (fun r H'=>r=.tup [.pv .nilp,iv 1]∧H'=bN d):=by
 have hs:=h.inv.ok;have hoff:=h.off;have hcn:=h.inv.n;have hrE:∀ i:Nat,fS d (i:Int)=UY (i+1) N:=fun i=>by
  rw [fS,hoff,aHp (by decide),fY,hcn,UY];by_cases e:i < N
  ·rw [aHq (decide_eq_true e),aHq (by omega)]
  rw [aHp (by rw [decide_eq_false e];decide),aHp (by omega)]
 refine Bd aC8 rfl Y9<|Sr<|Dd aR<|Dd aR<|Zz<|Sq<|Sr<|Dd aB<|Dd (by exact bR rfl dN rfl rfl rfl rfl)<|Zz ?_;refine Cn ?_ ?_<;>intro hc1
 ·cases hc1
 refine aF<|Sr<|Dd aR<|Zz<|Sr<|Dd aR<|Zz<|Sq<|aJ ?_;refine bG (σ:=Nat) (fun i=>([(0,.ref 1000 0 0 0),(4,iv (i:Int)),(5,iv (UY i N))],bN d)) (fun i=>i≤N+1) (fun i=>N+1 - i) 0 (aII _) ?_ ?_
 ·rw [show UY 0 N=0 from aHq (aII _)];exact(cC.wk (Ea<|Eb<|Eb<|trivial) (Hc (aM _ _ rfl rfl rfl)<|Hc (aG _ _)<|Hc (aD _ _ _)<|Hc (aP _ _)<|trivial) ⟨rfl,rfl,rfl,rfl,trivial⟩)
 intro i hi;have hrd:=L9 d (i:Int) hs;rw [hrE i] at hrd;refine Sq<|Sr<|Dd aB<|Dd eP<|Zz ?_;refine Cn ?_ ?_<;>intro hc2
 ·have hq:i≤N:=by have h:=aHn hc2;rw [UY] at h;split at h;exact(by assumption);cases h
  refine aF<|Sq<|aJ<|Rg<|Dd aB<|Dd aB<|Dd (by exact aA rfl rfl rN rfl (hrd))<|Dd aB<|Dd eC<|Dd eC<|Dd aR<|Zz<|Rg<|Dd aB<|Dd (by exact bA rfl rfl rfl (show IntKind.i64.wrap ((i:Int)+1)=((i+1:Nat):Int)by rw [eS (by omega) (by omega)];omega))<|Da ?_;exact⟨i+1,by omega,by omega,(cC.wk (Ea<|Eb<|Eb<|trivial) (Hc (aM _ _ rfl rfl rfl)<|Hc (aG _ _)<|Hc (aD _ _ _)<|Hc (aP _ _)<|trivial) ⟨rfl,rfl,rfl,rfl,trivial⟩)⟩
 have hq:i=N+1:=by have h:=aHo hc2;rw [UY] at h;split at h;exact absurd rfl h;omega
 have hk1:UY i N=1:=aHp (by omega);rw [hk1];refine aV<|Sq<|Sr<|Dd aB<|Dd (by exact dG rfl rfl rfl (show IntKind.i64.wrap ((i:Int) - 1)=(N:Int)by rw [eS (by omega) (by omega)];omega))<|Dd aR<|Zz<|Sr<|Dd aB<|Dd eP<|Zz ?_;refine Cn ?_ ?_<;>intro hc3
 ·cases hc3
 refine aF<|Sq<|Sr<|Dd aB<|Dd cP<|Zz ?_;refine Cn ?_ ?_<;>intro hc4
 ·refine Sr<|Dd aR<|Dd aR<|Zz<|aH ?_;refine fF (H':=(bN d)) (.inr rfl) rfl (aI rfl) (aI rfl) (Fin.wk (by(simp;done)) (Hc (aM _ _ rfl rfl rfl)<|Hc (aG _ _)<|Hc (aD _ _ _)<|Hc (aP _ _)<|trivial) ⟨rfl,rfl,rfl,rfl,trivial⟩) ?_;exact Qq
 (have h:=aHo hc4;omega)
theorem OZ {d:DSt} {x:RX} {N:Nat} (h:OnD d N) (hN:N < 4):aK Tryz.prog 32 [.ref 1100 0 0 0] (dA d x) (fun r H'=>r=.tup [.pv .nilp,iv 1]∧H'=dA d x):=by
 have hs:=h.inv.ok;have hoff:=h.off;have hcn:=h.inv.n;have hrE:∀ i:Nat,fS d (i:Int)=UZ i N:=fun i=>by
  rw [fS,hoff,aHp (by decide),fY,hcn,UZ];by_cases e:i < N
  ·rw [aHq (decide_eq_true e),aHq e]
  rw [aHp (by rw [decide_eq_false e];decide),aHp e]
 have hrd0:=xI d x 0 hs;rw [show fS d 0=UZ 0 N from hrE 0] at hrd0;refine Bd aC7 rfl Y8<|Sr<|Dd aR<|Dd aR<|Zz<|Sq<|Sr<|Dd aB<|Dd (by exact bR rfl cZ rfl rfl rfl rfl)<|Zz ?_;refine Cn ?_ ?_<;>intro hc1
 ·cases hc1
 refine aF<|Sr<|Dd aR<|Zz<|Sr<|Dd aB<|Dd aB<|Dd (by exact aA rfl rfl oK rfl (hrd0))<|Dd aB<|Dd eC<|Dd eC<|Dd aR<|Dd aR<|Zz<|Sq<|aJ ?_;refine bG (σ:=Nat) (fun i=>([(0,.ref 1100 0 0 0),(4,iv (i:Int)),(6,iv (UZ i N))],dA d x)) (fun i=>i≤N) (fun i=>N - i) 0 (aII _) ?_ ?_
 ·exact(cC.wk (Ea<|Eb<|Eb<|trivial) (Hc (bE _ _ _ rfl rfl)<|Hb<|Hc (aD _ _ _)<|trivial) ⟨rfl,rfl,rfl,trivial⟩)
 intro i hi;have hrd:=xI d x ((i+1:Nat):Int) hs;rw [hrE (i+1)] at hrd;refine Sq<|Sr<|Dd aB<|Dd eP<|Zz ?_;refine Cn ?_ ?_<;>intro hc2
 ·have hq:i < N:=by have h:=aHn hc2;rw [UZ] at h;split at h;exact(by assumption);cases h
  refine aF<|aJ<|Sr<|Dd aB<|Dd (by exact bA rfl rfl rfl (show IntKind.i64.wrap ((i:Int)+1)=((i+1:Nat):Int)by rw [eS (by omega) (by omega)];omega))<|Dd aR<|Zz<|Rg<|Dd aB<|Dd aB<|Dd (by exact aA rfl rfl oK rfl (hrd))<|Dd aB<|Dd eC<|Dd eC<|Da ?_;exact⟨i+1,by omega,by omega,(cC.wk (Ea<|Eb<|Eb<|trivial) (Hc (bE _ _ _ rfl rfl)<|Hb<|Hc (aD _ _ _)<|trivial) ⟨rfl,rfl,rfl,trivial⟩)⟩
 have hq:i=N:=by have h:=aHo hc2;rw [UZ] at h;split at h;exact absurd rfl h;omega
 have hk1:UZ i N=1:=aHp (by omega);rw [hk1];refine aV<|Sq<|Sr<|Dd aB<|Dd eP<|Zz ?_;refine Cn ?_ ?_<;>intro hc3
 ·cases hc3
 refine aF<|Sq<|Sr<|Dd aB<|Dd cP<|Zz ?_;refine Cn ?_ ?_<;>intro hc4
 ·refine Sr<|Dd aR<|Dd aR<|Zz<|aH ?_;refine fF (H':=(dA d x)) (.inr rfl) rfl (aI rfl) (aI rfl) (Fin.wk (by(simp;done)) (Hc (bE _ _ _ rfl rfl)<|Hb<|Hc (aD _ _ _)<|trivial) ⟨rfl,rfl,rfl,trivial⟩) ?_;exact Qq
 (have h:=aHo hc4;omega)
theorem aAf {d:DSt} {N k:Nat} (h:OnD d N∨jA d N) (hk:k=(N - 2) / 2) :
  aK Tryz.prog 12 [.ref 1000 0 0 0] (bN d) (fun r H'=>(¬ (nT d N k).1=0∧r=.tup [.pv .nilp,iv (nT d N k).1]∧H'=bN (nT d N k).2) ∨
   ((nT d N k).1=0∧r=.tup [.ref 1100 0 0 0,iv 0]∧∃ l c,fI l c∧gX l∧l.length≤46*rQ d k∧(∀ x,eN l x=OA d k (sV d k) (rQ d k) x)∧H'=sH (nT d N k).2 (dU k (sV d k) (rQ d k) false) (cB l c))):=by
 rcases h with h|h
 ·by_cases h4:N < 4
  ·have e:nT d N k=(1,d):=by rw [nT,aHp (by rw [h.off];decide),aHq h4]
   rw [e];refine(SI h h4).mono ?_;rintro r H' ⟨rfl,rfl⟩;exact .inl ⟨by show ¬ (1:Int)=0;decide,rfl,rfl⟩
  refine(UW h (by omega) k (sV d k) (rQ d k) (C7 d k) hk rfl rfl rfl).mono ?_;have e0:nT d N k=if kK d k=true then(23,d)else rsB d (sV d k) (rQ d k) (C7 d k):=by rw [nT,aHp (by rw [h.off];decide),aHp h4]
  rintro r H' (⟨h1,rfl,rfl⟩|⟨h1,h2,rfl,rfl⟩|⟨h1,h2,h3,rfl,rfl⟩|⟨h1,h2,h3,rfl,l,c,q1,q2,q3,q4,rfl⟩)
  ·rw [e0,aHq h1];exact .inl ⟨by show ¬ (23:Int)=0;decide,rfl,rfl⟩
  ·have e:nT d N k=mB d 1 (sV d k) (rQ d k) (C7 d k):=by rw [e0,aHp (by rw [h1];decide),rsB,aHp h2]
   rw [e];exact .inl ⟨h2,rfl,rfl⟩
  ·have e:nT d N k=mB (mB d 1 (sV d k) (rQ d k) (C7 d k)).2 0 (sV d k) (rQ d k) (C7 d k):=by rw [e0,aHp (by rw [h1];decide),rsB,aHq h2]
   rw [e];exact .inl ⟨h3,rfl,rfl⟩
  have e:nT d N k=mB (mB d 1 (sV d k) (rQ d k) (C7 d k)).2 0 (sV d k) (rQ d k) (C7 d k):=by rw [e0,aHp (by rw [h1];decide),rsB,aHq h2]
  rw [e];exact .inr ⟨h3,rfl,l,c,q1,q2,q3,q4,rfl⟩
 have e:nT d N k=(22,d):=by rw [nT,aHq h.off]
 rw [e];refine(XG h).mono ?_;rintro r H' ⟨rfl,rfl⟩;exact .inl ⟨by show ¬ (22:Int)=0;decide,rfl,rfl⟩
theorem WP {d:DSt} {x:RX} {N k:Nat} (h:OnD d N∨jA d N) (hp:cY d) (hk:k=(N - 2) / 2) (hN:N≤200) :
  aK Tryz.prog 32 [.ref 1100 0 0 0] (dA d x) (fun r H'=>(¬ (nT d N k).1=0∧r=.tup [.pv .nilp,iv (nT d N k).1]∧∃ x',H'=dA (nT d N k).2 x') ∨
   ((nT d N k).1=0∧r=.tup [.ref 1200 0 0 0,iv 0]∧∃ x' L,SP L∧(∀ y,dX L y=OA d k (sV d k) (rQ d k) y)∧H'=jH (nT d N k).2 x' (gO k (sV d k) (rQ d k) L false))):=by
 rcases h with h|h
 ·by_cases h4:N < 4
  ·have e:nT d N k=(1,d):=by rw [nT,aHp (by rw [h.off];decide),aHq h4]
   rw [e];refine(OZ h h4).mono ?_;rintro r H' ⟨rfl,rfl⟩;exact .inl ⟨by show ¬ (1:Int)=0;decide,rfl,x,rfl⟩
  refine(aDG h hp (by omega) hN k (sV d k) (rQ d k) (C7 d k) hk rfl rfl rfl).mono ?_;have e0:nT d N k=if kK d k=true then(23,d)else rsB d (sV d k) (rQ d k) (C7 d k):=by rw [nT,aHp (by rw [h.off];decide),aHp h4]
  rintro r H' (⟨h1,rfl,rfl⟩|⟨h1,h2,rfl,x',rfl⟩|⟨h1,h2,rfl,x',L,q1,q2,rfl⟩)
  ·rw [e0,aHq h1];exact .inl ⟨by show ¬ (23:Int)=0;decide,rfl,x,rfl⟩
  ·rw [e0,aHp (by rw [h1];decide)];exact .inl ⟨h2,rfl,x',rfl⟩
  rw [e0,aHp (by rw [h1];decide)];exact .inr ⟨h2,rfl,x',L,q1,q2,rfl⟩
 have e:nT d N k=(22,d):=by rw [nT,aHq h.off]
 rw [e];refine(R0 h).mono ?_;rintro r H' ⟨rfl,rfl⟩;exact .inl ⟨by show ¬ (22:Int)=0;decide,rfl,x,rfl⟩
end Go.Proofs.YtmkgeogoojcciaaGreatDoor
