/-
  Parts of the proof: rules of an abstract program logic, contracts of functions, plain laws. Conditions: each theorem's own.
-/
import Derived.Test.YtlnfjkdacimblaaGreatDoorKW6M4
import Derived.ChangeKeysEq
set_option linter.unusedVariables false
set_option linter.unusedSimpArgs false
set_option maxRecDepth 100000
set_option maxHeartbeats 8000000
namespace Go.Proofs
theorem YK:type_of% Tryz.call100:=Tryz.call100
theorem aII:type_of% Tryz.call117:=Tryz.call117
theorem aIe:type_of% Tryz.call43:=Tryz.call43
theorem wY:type_of% Tryz.call54:=Tryz.call54
theorem aCV:type_of% Tryz.call64:=Tryz.call64
theorem CZ:type_of% Tryz.call90:=Tryz.call90
theorem wV:type_of% Tryz.call92:=Tryz.call92
theorem RE:type_of% Tryz.eqGuardType117:=Tryz.eqGuardType117
theorem aIB:type_of% Tryz.func118:=Tryz.func118
theorem aI6:type_of% Tryz.func25:=Tryz.func25
theorem nQ:type_of% Tryz.isAgg154:=Tryz.isAgg154
theorem N6:type_of% Tryz.isAgg4:=Tryz.isAgg4
theorem fE:type_of% Tryz.isAgg80:=Tryz.isAgg80
theorem aHL:type_of% Tryz.ntmps118:=Tryz.ntmps118
theorem aIA:type_of% Tryz.ntmps25:=Tryz.ntmps25
theorem eG:type_of% Tryz.sizeOf154:=Tryz.sizeOf154
theorem TL:type_of% Tryz.underlying109:=Tryz.underlying109
theorem fW:type_of% Tryz.underlying193:=Tryz.underlying193
theorem gI:type_of% Tryz.underlying80:=Tryz.underlying80
end Go.Proofs
namespace Go.Proofs.YtlnfjkdacimblaaGreatDoor
open Go.Proofs.Tryz
open Go.Abs
def kM (l:List GObj):List (ByteArray×AV):=l.map fun o=>(o.id,iv o.kind)
abbrev J2 (l:List GObj):Ob:=⟨0,0,(kM l).length,k6 oW (kM l)⟩
theorem gE (l:List GObj) (H:aE):∀ r∈(J2 l).rows,∀ a∈r,Clo H a:=by intro r hr a ha;obtain ⟨i,hi⟩:=aJM.1 hr;obtain ⟨p,hp,rfl⟩:=rK.1 hi;simp only [kM,aJL] at hp;obtain ⟨q,_,rfl⟩:=Option.map_eq_some_iff.1 hp;simp only [aJD,aJH,or_false] at ha;rcases ha with rfl|rfl|rfl<;>simp
theorem SP:∀ (l:List GObj) (s:ByteArray),nO (kM l) s=(l.find? (oJ s)).map (fun o=>iv o.kind)
 | [],s=>rfl
 | o::l,s=>by
  have ih:=SP l s;rw [kM,List.map_cons,nO,List.find?_cons];by_cases e:o.id=s
  ·rw [aIq e,show oJ s o=true from decide_eq_true e];rfl
  rw [aIp e,show oJ s o=false from decide_eq_false e];exact ih
theorem PT:∀ {l:List (ByteArray×AV)} {k:ByteArray} (v:AV),nO l k=none→oH l k v=l++[(k,v)]
 | [],k,v,_=>rfl
 | (k',a)::l,k,v,h=>by
  rw [nO] at h
  split at h
  ·cases h
  next e=>rw [oH,aIp e,PT v h];rfl
theorem aBB {m:List GObj} {k:Nat} {o:GObj} (hu:Y2 m) (ho:m[k]?=some o):oH (kM (m.take k)) o.id (iv o.kind)=kM (m.take (k+1)):=by
 have hn:nO (kM (m.take k)) o.id=none:=by
  rw [SP,Option.map_eq_none_iff,List.find?_eq_none];intro a ha he;have he:=aIn he;obtain ⟨j,hj⟩:=aJM.1 ha;have hjk:j < k:=by
   have:=(aIv.1 hj).1;rw [aJF] at this;omega
  rw [List.getElem?_take_of_lt hjk] at hj;obtain ⟨jl,je⟩:=aIv.1 hj;obtain ⟨kl,ke⟩:=aIv.1 ho;rw [Y2,List.pairwise_iff_getElem] at hu;have:=hu j k jl kl hjk;rw [je,ke,he,kQ] at this;cases this
 rw [PT _ hn,kM,kM,List.take_add_one,ho,List.map_append];rfl
def tB (kind i:Int):Int:=if(decide (kind=4)||(decide (kind=5)&&!decide (i=1)))then 2 else 1
theorem YW (kind i:Int) (H:aE):aH Tryz.prog 159 [iv kind,iv i] H (fun r H'=>r=iv (tB kind i)∧H'=H):=by
 refine Pu ?_;refine Bd func159 rfl ntmps159<|Sr<|Dd aO<|Zz<|Sq<|Sq ?_;refine bD (t:=14) (n:=12) (X:=decide (kind=4)||(decide (kind=5)&&!decide (i=1))) ?_ ?_
 ·all_goals refine Dd aD ?_
  all_goals refine Dd cI<|Dm ?_
  all_goals refine Sp 7 (fun h7=>?_) fun h7=>?_
  all_goals try contradiction
  all_goals first|refine Fo<|Fo<|Fo ?_|refine On aD<|On cI<|On aD ?_
  all_goals(first|refine Sp 10 (fun h10=>?_) fun h10=>?_|refine x8 (t:=10) rfl ?_)
  all_goals try contradiction
  all_goals first|refine Fo ?_|refine Fu ?_|refine On aD ?_
  all_goals first|refine Fo ?_|refine Fu ?_|refine On tU ?_
  all_goals first|refine Fo ?_|refine On dI ?_
  all_goals refine Dd dI<|Zz ?_
  all_goals(exact⟨⟨_,rfl,by(simp only [*,Zo];done)⟩,rfl,rfl,rfl⟩)
 refine Cn ?_ ?_<;>intro hc1
 ·refine Sr<|Dd aO<|Zz<|aC<|Rt ?_;exact⟨by rw [tB,aIq hc1],rfl⟩
 refine aB<|Sr<|Dd aO<|Zz<|aC<|Rt ?_;exact⟨by rw [tB,hc1];rfl,rfl⟩
def kT (m:List GObj) (s:ByteArray):Option Int:=(m.find? (oJ s)).map (·.kind)
def xF (m:List GObj) (kind:Int) (i:Nat) (s:ByteArray):Int:=match kT m s with
 | none=>14
 | some k=>if k=tB kind (i:Int)then 0 else 13
def oY (m:List GObj) (kind:Int):Nat→List ByteArray→Int
 | _,[]=>0
 | i,s::r=>if xF m kind i s=0 then oY m kind (i+1) r else xF m kind i s
theorem B8 (m:List GObj) (s:ByteArray):nO (kM m) s=(kT m s).map iv:=by rw [SP,kT,Option.map_map];rfl
abbrev x7 (m:List GObj):Ob:=bx 2 114 [.pv (cO m),.mp 12 0]
theorem R4 (m:List GObj) (o:GObj) (H:aE) (h14:H.get 14=some (x7 m)) (h12:H.get 12=some (J2 m)) (h63:H.get 963=none) (hc:dF H) (hl:o.refs.length < 4611686018427387904) :
  aH Tryz.prog 117 [.ref 14 0 0 0,av (aG o)] H (fun r H'=>r=iv (oY m o.kind 0 o.refs)∧H'=H):=by
 have hrl:(o.refs.map encStr).length=o.refs.length:=aIr _;have h14':aE.get ((963,bx 6 49 ((aG o).map .pv))::H) 14=some (x7 m):=h14;have h12':aE.get ((963,bx 6 49 ((aG o).map .pv))::H) 12=some (J2 m):=h12;refine Bd func117 rfl ntmps117<|Sr<|Dd (by exact cE (id:=963) rfl rfl rfl rfl h63)<|Dd aO<|Zz<|Sq<|Sr<|Dd (bH dP)<|Dd (cA aV)<|Dd (fK aK)<|Dd aD<|Zz<|aF ?_;refine bG (σ:=Nat) (fun k=>([(0,.ref 14 0 0 0),(3,.ref 963 0 0 0),(10,.pv (cS o.refs)),(11,iv ((o.refs.map encStr).length:Int)),(12,iv (k:Int))],(963,bx 6 49 ((aG o).map .pv))::H)) (fun k=>k≤o.refs.length∧oY m o.kind 0 o.refs=oY m o.kind k (o.refs.drop k)) (fun k=>o.refs.length - k) 0 ⟨by omega,rfl⟩ ?_ ?_
 ·exact E0
 rintro k ⟨hk,hinv⟩;refine Sr<|Dd dD<|Zz<|Sq ?_;refine Cn ?_ ?_<;>intro hc1
 ·have hlt:k < o.refs.length:=by have:=aIn hc1;omega
  obtain ⟨s,hs⟩:=aX hlt;have hi:=bZ (f:=encStr) hs;have hdr:o.refs.drop k=s::o.refs.drop (k+1):=by
   obtain ⟨hl1,he1⟩:=aIv.1 hs;rw [List.drop_eq_getElem_cons hl1,he1]
  rw [hdr,oY] at hinv;refine aB<|Sq<|aF<|Sr<|Dd aD<|Dd (e8 cC)<|Dd (fM isAgg9)<|Dd aO<|Dd aO<|Zz<|Sr<|Dd aD<|Dd (by exact dS rfl rfl h14' rfl)<|Dd (by exact cJ rfl mD rfl h14' rfl rfl)<|Dd (by exact aR rfl fE rfl h14' rfl rfl rfl)<|Dd aD<|Dd (by exact gW (κ:=oW) rfl gI underlying9 rfl h12' rfl rfl rfl eC (.inl rfl))<|Dd aD<|Dd eZ<|Dd eZ<|Dd aO<|Dd aO<|Zz<|aF<|Sr<|Dd aD<|Dd jU<|Da ?_;refine Cn ?_ ?_<;>intro hc2
  ·have hko:kT m s=none:=by
    rw [B8] at hc2;cases h:kT m s with
    | none=>rfl
    | some x=>rw [h] at hc2;cases hc2
   have hb:xF m o.kind k s=14:=by rw [xF,hko]
   rw [hb,aIp (by decide)] at hinv;refine Sr<|Dd aO<|Zz<|aC ?_;refine cZ (H':=H) (.inr rfl) rfl (aN rfl) (Fin.pops [(963,bx 6 49 ((aG o).map .pv))] (by simp) hc (by simp [h63])) ⟨by rw [hinv],rfl⟩
  obtain ⟨kd,hko⟩:∃ kd,kT m s=some kd:=by
   rw [B8] at hc2;cases h:kT m s with
   | none=>rw [h] at hc2;cases hc2
   | some x=>exact⟨x,rfl⟩
  have hg:nO (kM m) s=some (iv kd):=by rw [B8,hko];rfl
  rw [hg];refine Sr<|Dd aD<|Dd (bH dT)<|Dd (cA isAgg3)<|Dd aD<|Dd (by exact aA rfl rfl call159 rfl (YW o.kind (k:Int) _))<|Dd tU<|Da ?_;refine Cn ?_ ?_<;>intro hc3
  ·have hb:xF m o.kind k s=13:=by
    have h:(!decide (kd=tB o.kind (k:Int)))=true:=hc3;have h:¬ kd=tB o.kind (k:Int):=by simpa using h
    rw [xF,hko];exact aIp h
   rw [hb,aIp (by decide)] at hinv;refine Sr<|Dd aO<|Zz<|aC ?_;refine cZ (H':=H) (.inr rfl) rfl (aN rfl) (Fin.pops [(963,bx 6 49 ((aG o).map .pv))] (by simp) hc (by simp [h63])) ⟨by rw [hinv],rfl⟩
  have hb:xF m o.kind k s=0:=by
   have h:(!decide (kd=tB o.kind (k:Int)))=false:=hc3;have h:kd=tB o.kind (k:Int):=by simpa using h
   rw [xF,hko];exact aIq h
  rw [aIq hb] at hinv;refine aB<|Rg<|Dd eL<|Dd aD<|Zz ?_;exact⟨k+1,⟨by omega,hinv⟩,by omega,E0⟩
 have hge:k=o.refs.length:=by have:=aIo hc1;omega
 subst hge;rw [List.drop_length,oY] at hinv;refine aZ<|Sr<|Dd aO<|Zz<|aC ?_;refine cZ (H':=H) (.inr rfl) rfl (aN rfl) (Fin.pops [(963,bx 6 49 ((aG o).map .pv))] (by simp) hc (by simp [h63])) ⟨by rw [hinv],rfl⟩
def eY (m:List GObj):Bool:=qJ m&&m.all (fun o=>decide (oY m o.kind 0 o.refs=0))
abbrev cH (m:List GObj):aE:=[(14,x7 m),(12,J2 m)]
theorem aHh (m:List GObj) (hm:uQ m) (hcl:eY m=true):aH Tryz.prog 64 [.agg [.pv (cO m)]] [] (fun r H'=>r=.ref 14 0 0 0∧H'=cH m):=by
 have hml:(m.map aG).length=m.length:=aIr _;rw [eY,aJA,List.all_eq_true] at hcl;obtain ⟨hg,hall⟩:=hcl;have hu:=(mS.1 hg).2.1;have hl:=hm.1;refine Bd func64 rfl ntmps64<|Sr<|Dd (by exact cE (id:=1) rfl rfl rfl rfl rfl)<|Dd aO<|Zz<|Sq<|Sr<|Dd (by exact aI rfl bF sizeOf38 rfl rfl rfl rfl (by simp only [Zl,aQ,aG,encStr];rfl) rfl)<|Dd (by exact aA rfl rfl aIJ rfl (wH m _ hm))<|Dd jU<|Zz ?_;refine Cn ?_ ?_<;>intro hc1
 ·have h:(!qJ m)=true:=hc1;rw [hg] at h;cases h
 refine aB<|Sr<|Dd (by exact aI rfl bF sizeOf38 rfl rfl rfl rfl (by simp only [Zl,aQ,aG,encStr];rfl) rfl)<|Dd (by exact iT (id:=12) oW rfl rfl)<|Dd (jG aEe)<|Dd (by exact cE (id:=14) rfl rfl rfl rfl rfl)<|Dd aO<|Zz<|Sq<|Sr<|Dd (bH gZ)<|Dd (cA dJ)<|Dd (fK cQ)<|Dd aD<|Zz<|aF ?_;refine bG (σ:=Nat) (fun k=>([(1,.ref 1 0 0 0),(3,.ref 14 0 0 0),(16,.pv (cO m)),(17,iv ((m.map aG).length:Int)),(18,iv (k:Int))],[(14,x7 m),(12,J2 (m.take k)),(1,bx 1 38 [.pv (cO m)])])) (fun k=>k≤m.length) (fun k=>m.length - k) 0 (by omega) ?_ ?_
 ·exact(cY.wk (Ea<|Ea<|Eb<|Eb<|Eb<|trivial) (Ha<|Hc (gE _ _)<|Hb<|trivial) trivial)
 intro k hk;refine Sr<|Dd dD<|Zz<|Sq ?_;refine Cn ?_ ?_<;>intro hc2
 ·have hlt:k < m.length:=by have:=aIn hc2;omega
  obtain ⟨o,ho⟩:=aX hlt;have hi:=bZ (f:=aG) ho;refine aB<|Sq<|aF<|Sr<|Dd (e8 iK)<|Dd (by exact bQ rfl aY sizeOf49 rfl (by omega) (by simp only [Zl,aQ,aG,encStr];rfl) rfl)<|Dd (by exact bJ (id:=5) rfl qU rfl rfl)<|Uu (fP sizeOf49)<|Zz<|aU follows<|Cr [14] (fun _ _=>aD)<|Cr [14] (fun H1 hH=>by exact dS rfl rfl ((hH _ rfl).trans rfl) rfl)<|Cr [14] (fun _ h=>fh mD h)<|Cr [14] (fun _ h=>lh fE h)<|Cr [5] (fun _ h=>fh eK h)<|Cr [5] (fun _ h=>lh isAgg9 h)<|Cr [5] (fun _ h=>fh dT h)<|Cr [5] (fun _ h=>lh isAgg3 h)<|Cp [12] (fun H1 hH=>by exact fY (κ:=oW) (.inl rfl) gI underlying9 rfl ((hH 12 rfl).trans rfl) rfl rfl rfl rfl rfl (aBB hu ho))<|bM<|Kr<|Rg<|Dd eL<|Dd aD<|Zz ?_;exact⟨k+1,by omega,by omega,(cY.wk (Ea<|Ea<|Eb<|Eb<|Eb<|trivial) (Ha<|Hc (gE _ _)<|Hb<|trivial) trivial)⟩
 have hge:k=m.length:=by have:=aIo hc2;omega
 subst hge;rw [List.take_length];refine aZ<|Sq<|Sr<|Dd (bH gZ)<|Dd (cA dJ)<|Dd (fK cQ)<|Dd aD<|Zz<|aF ?_;refine bG (σ:=Nat) (fun k=>([(3,.ref 14 0 0 0),(32,.pv (cO m)),(33,iv ((m.map aG).length:Int)),(34,iv (k:Int))],[(14,x7 m),(12,J2 m)])) (fun k=>k≤m.length) (fun k=>m.length - k) 0 (by omega) ?_ ?_
 ·exact(cY.wk (Ea<|Eb<|Eb<|Eb<|trivial) (Ha<|Hc (gE _ _)<|trivial) trivial)
 intro k hk;refine Sr<|Dd dD<|Zz<|Sq ?_;refine Cn ?_ ?_<;>intro hc3
 ·have hlt:k < m.length:=by have:=aIn hc3;omega
  obtain ⟨o,ho⟩:=aX hlt;have hi:=bZ (f:=aG) ho;have hoo:=hm.2 o (aJB ho);have hr0:oY m o.kind 0 o.refs=0:=aIn (hall o (aJB ho));refine aB<|Sq<|aF<|Sr<|Dd (e8 iK)<|Dd (by exact bQ rfl aY sizeOf49 rfl (by omega) (by simp only [Zl,aQ,aG,encStr];rfl) rfl)<|Dd (by exact bJ (id:=7) rfl qU rfl rfl)<|Uu (fP sizeOf49)<|Zz<|Sr<|Dd aD<|Dd (by exact aI rfl aY sizeOf49 rfl rfl rfl rfl (by simp only [Zl,aQ,aG,encStr];rfl) rfl)<|Dd (by exact aA rfl rfl aII rfl (R4 m o _ rfl rfl rfl (dF.ofL ⟨(by(simp;done)),(by(simp;done)),(by(simp;rfl)),(by exact gE _ _),trivial⟩) hoo.2.2.1))<|Dd tU<|Zz ?_;refine Cn ?_ ?_<;>intro hc4
  ·rw [hr0] at hc4;cases hc4
  refine aB<|Rg<|Dd eL<|Dd aD<|Zz ?_;exact⟨k+1,by omega,by omega,(cY.wk (Ea<|Eb<|Eb<|Eb<|trivial) (Ha<|Hc (gE _ _)<|trivial) trivial)⟩
 refine aZ<|Sr<|Dd aD<|Dd aO<|Zz<|aC ?_;refine cZ (H':=cH m) (.inr rfl) rfl (aN rfl) (Fin.wk (by(simp;rfl)) (Ha<|Hc (gE _ _)<|trivial) trivial) ⟨rfl,rfl⟩
theorem aG9 (m:List GObj) (hm:uQ m) (hcl:eY m=false):aH Tryz.prog 64 [.agg [.pv (cO m)]] [] (fun r H'=>r=.pv .nilp∧H'=[]):=by
 have hml:(m.map aG).length=m.length:=aIr _;have hl:=hm.1;refine Bd func64 rfl ntmps64<|Sr<|Dd (by exact cE (id:=1) rfl rfl rfl rfl rfl)<|Dd aO<|Zz<|Sq<|Sr<|Dd (by exact aI rfl bF sizeOf38 rfl rfl rfl rfl (by simp only [Zl,aQ,aG,encStr];rfl) rfl)<|Dd (by exact aA rfl rfl aIJ rfl (wH m _ hm))<|Dd jU<|Zz ?_;refine Cn ?_ ?_<;>intro hc1
 ·refine Sr<|Dd aO<|Zz<|aC ?_;refine cZ (H':=[]) (.inr rfl) rfl (aN rfl) (Fin.wk (by(simp;done)) trivial trivial) ⟨rfl,rfl⟩
 have hg:qJ m=true:=by
  have h:(!qJ m)=false:=hc1
  simpa using h
 have hu:=(mS.1 hg).2.1;refine aB<|Sr<|Dd (by exact aI rfl bF sizeOf38 rfl rfl rfl rfl (by simp only [Zl,aQ,aG,encStr];rfl) rfl)<|Dd (by exact iT (id:=12) oW rfl rfl)<|Dd (jG aEe)<|Dd (by exact cE (id:=14) rfl rfl rfl rfl rfl)<|Dd aO<|Zz<|Sq<|Sr<|Dd (bH gZ)<|Dd (cA dJ)<|Dd (fK cQ)<|Dd aD<|Zz<|aF ?_;refine bG (σ:=Nat) (fun k=>([(1,.ref 1 0 0 0),(3,.ref 14 0 0 0),(16,.pv (cO m)),(17,iv ((m.map aG).length:Int)),(18,iv (k:Int))],[(14,x7 m),(12,J2 (m.take k)),(1,bx 1 38 [.pv (cO m)])])) (fun k=>k≤m.length) (fun k=>m.length - k) 0 (by omega) ?_ ?_
 ·exact(cY.wk (Ea<|Ea<|Eb<|Eb<|Eb<|trivial) (Ha<|Hc (gE _ _)<|Hb<|trivial) trivial)
 intro k hk;refine Sr<|Dd dD<|Zz<|Sq ?_;refine Cn ?_ ?_<;>intro hc2
 ·have hlt:k < m.length:=by have:=aIn hc2;omega
  obtain ⟨o,ho⟩:=aX hlt;have hi:=bZ (f:=aG) ho;refine aB<|Sq<|aF<|Sr<|Dd (e8 iK)<|Dd (by exact bQ rfl aY sizeOf49 rfl (by omega) (by simp only [Zl,aQ,aG,encStr];rfl) rfl)<|Dd (by exact bJ (id:=5) rfl qU rfl rfl)<|Uu (fP sizeOf49)<|Zz<|aU follows<|Cr [14] (fun _ _=>aD)<|Cr [14] (fun H1 hH=>by exact dS rfl rfl ((hH _ rfl).trans rfl) rfl)<|Cr [14] (fun _ h=>fh mD h)<|Cr [14] (fun _ h=>lh fE h)<|Cr [5] (fun _ h=>fh eK h)<|Cr [5] (fun _ h=>lh isAgg9 h)<|Cr [5] (fun _ h=>fh dT h)<|Cr [5] (fun _ h=>lh isAgg3 h)<|Cp [12] (fun H1 hH=>by exact fY (κ:=oW) (.inl rfl) gI underlying9 rfl ((hH 12 rfl).trans rfl) rfl rfl rfl rfl rfl (aBB hu ho))<|bM<|Kr<|Rg<|Dd eL<|Dd aD<|Zz ?_;exact⟨k+1,by omega,by omega,(cY.wk (Ea<|Ea<|Eb<|Eb<|Eb<|trivial) (Ha<|Hc (gE _ _)<|Hb<|trivial) trivial)⟩
 have hge:k=m.length:=by have:=aIo hc2;omega
 subst hge;rw [List.take_length];refine aZ<|Sq<|Sr<|Dd (bH gZ)<|Dd (cA dJ)<|Dd (fK cQ)<|Dd aD<|Zz<|aF ?_;refine bG (σ:=Nat) (fun k=>([(3,.ref 14 0 0 0),(32,.pv (cO m)),(33,iv ((m.map aG).length:Int)),(34,iv (k:Int))],[(14,x7 m),(12,J2 m)])) (fun k=>k≤m.length∧∀ j,j < k→∀ b,m[j]?=some b→(!decide (oY m b.kind 0 b.refs=0))=false) (fun k=>m.length - k) 0 ⟨by omega,by omega⟩ ?_ ?_
 ·exact(cY.wk (Ea<|Eb<|Eb<|Eb<|trivial) (Ha<|Hc (gE _ _)<|trivial) trivial)
 rintro k ⟨hk,hno⟩;refine Sr<|Dd dD<|Zz<|Sq ?_;refine Cn ?_ ?_<;>intro hc3
 ·have hlt:k < m.length:=by have:=aIn hc3;omega
  obtain ⟨o,ho⟩:=aX hlt;have hi:=bZ (f:=aG) ho;have hoo:=hm.2 o (aJB ho);refine aB<|Sq<|aF<|Sr<|Dd (e8 iK)<|Dd (by exact bQ rfl aY sizeOf49 rfl (by omega) (by simp only [Zl,aQ,aG,encStr];rfl) rfl)<|Dd (by exact bJ (id:=7) rfl qU rfl rfl)<|Uu (fP sizeOf49)<|Zz<|Sr<|Dd aD<|Dd (by exact aI rfl aY sizeOf49 rfl rfl rfl rfl (by simp only [Zl,aQ,aG,encStr];rfl) rfl)<|Dd (by exact aA rfl rfl aII rfl (R4 m o _ rfl rfl rfl (dF.ofL ⟨(by(simp;done)),(by(simp;done)),(by(simp;rfl)),(by exact gE _ _),trivial⟩) hoo.2.2.1))<|Dd tU<|Zz ?_;refine Cn ?_ ?_<;>intro hc4
  ·refine Sr<|Dd aO<|Zz<|aC ?_;refine cZ (H':=[]) (.inr rfl) rfl (aN rfl) (Fin.wk (by(simp;done)) trivial trivial) ⟨rfl,rfl⟩
  refine aB<|Rg<|Dd eL<|Dd aD<|Zz ?_;exact⟨k+1,⟨by omega,j7 hno ho hc4⟩,by omega,(cY.wk (Ea<|Eb<|Eb<|Eb<|trivial) (Ha<|Hc (gE _ _)<|trivial) trivial)⟩
 have hge:k=m.length:=by have:=aIo hc3;omega
 subst hge;exfalso;have:eY m=true:=by
  rw [eY,hg,Bool.true_and,List.all_eq_true];intro o ho;obtain ⟨j,hj⟩:=aJM.1 ho;have:=hno j (aIv.1 hj).1 o hj
  simpa using this
 rw [this] at hcl;cases hcl
theorem aAe (m:List GObj) (H:aE) (hm:uQ m) (hcl:eY m=true) (h14:H.get 14=none) (h12:H.get 12=none):aH Tryz.prog 64 [.agg [.pv (cO m)]] H (fun r H'=>r=.ref 14 0 0 0∧H'=cH m++H) :=aH.frame (aHh m hm hcl) (fun _ _ h=>by cases h) (fun _ _ h=>by cases h) (by simp) (fun id hi=>by
  right;have:id=14∨id=12:=by
   simp only [aE.get] at hi;cases e1:Nat.beq 14 id with
   | true=>exact .inl (Nat.eq_of_beq_eq_true e1).symm
   | false =>
    cases e2:Nat.beq 12 id with
    | true=>exact .inr (Nat.eq_of_beq_eq_true e2).symm
    | false=>rw [e1,e2] at hi;cases hi
  rcases this with rfl|rfl
  ·exact h14
  exact h12)
theorem aBu (m:List GObj) (H:aE) (hm:uQ m):aH Tryz.prog 25 [.agg [.pv (cO m)],lv []] H (fun r H'=>r=.tup [.agg [.pv (cO (if eY m then m else[]))],iv (-1),iv (if eY m then 0 else 1)]∧H'=H):=by
 refine Pu ?_;cases hcl:eY m with
 | true =>
  simp only [if_true];refine Bd aI6 rfl aIA<|Sr<|Dd (by exact cE (id:=2) rfl rfl rfl rfl rfl)<|Dd (by exact bJ (id:=4) rfl GI rfl rfl)<|Dd aO<|Dd aO<|Zz<|Sr<|Dd (by exact aI rfl bF sizeOf38 rfl rfl rfl rfl (by simp only [Zl,aQ,aG,encStr];rfl) rfl)<|Dd (by exact aA rfl rfl aCV rfl (aAe m _ hm hcl rfl rfl))<|Dd aO<|Zz<|Sq<|Sr<|Dd aD<|Dd (by exact sY rfl TL rfl rfl rfl rfl)<|Zz ?_;refine Cn ?_ ?_<;>intro hc1
  ·cases hc1
  refine aB<|Sq<|Sr<|Dd aD<|Dd (fK cB)<|Dd aD<|Zz<|aF ?_;refine bG (σ:=Unit) (fun _=>([(4,.ref 4 0 0 0),(7,.ref 14 0 0 0),(18,iv 0),(19,iv 0)],[(14,x7 m),(12,J2 m),(4,bx 1 38 [lv []])])) (fun _=>True) (fun _=>0) () trivial ?_ ?_
  ·exact(cY.wk (Ea<|Ea<|Eb<|Eb<|trivial) (Ha<|Hc (gE _ _)<|Hb<|trivial) trivial)
  intro _ _;refine Sr<|Dd dD<|Zz<|Sq ?_;refine Cn ?_ ?_<;>intro hc2
  ·cases hc2
  refine aZ<|Sr<|Dd aD<|Dd pY<|Dd (bH y0)<|Dd (qZ bF sizeOf38)<|Uu (fP sizeOf38)<|Dd aO<|Dd aO<|Zz<|aC ?_;refine jX (H':=[]) (.inr rfl) rfl (nZ bF sizeOf38) (aN rfl) (aN rfl) (Fin.wk (r:=.tup [.agg [.pv (cO m)],iv (-1),iv 0]) (by simp) trivial trivial) ?_;exact Qq
 | false =>
  simp only [Bool.false_eq_true,if_false];have hof:=fun H=>aH.pure (aG9 m hm hcl) (by simp) H;refine Bd aI6 rfl aIA<|Sr<|Dd (by exact cE (id:=2) rfl rfl rfl rfl rfl)<|Dd (by exact bJ (id:=4) rfl GI rfl rfl)<|Dd aO<|Dd aO<|Zz<|Sr<|Dd (by exact aI rfl bF sizeOf38 rfl rfl rfl rfl (by simp only [Zl,aQ,aG,encStr];rfl) rfl)<|Dd (by exact aA rfl rfl aCV rfl (hof _))<|Dd aO<|Zz<|Sq<|Sr<|Dd aD<|Dd (by exact xL rfl TL rfl rfl)<|Zz ?_;refine Cn ?_ ?_<;>intro hc1
  ·refine Sr<|Dd (jG FL)<|Uu (fP sizeOf38)<|Dd aO<|Dd aO<|Zz<|aC ?_;refine jX (H':=[]) (.inr rfl) rfl (nZ bF sizeOf38) (aN rfl) (aN rfl) (Fin.wk (r:=.tup [.agg [lv []],iv (-1),iv 1]) (by simp) trivial trivial) ?_;exact Qq
  cases hc1
theorem A1 (fv:AV) (l:List GEdit) (p:GEdit→Bool) (H:aE) (hl:l.length < 4611686018427387904) (hf:∀ o,o∈l→dN Tryz.prog fv [.agg ((aJ o).map .pv)] H (fun r H'=>r=.pv (.bool (p o))∧H'=H)) :
  aH Tryz.prog 41 [.pv (.sl (l.map aJ)),fv] H (fun r H'=>r=.pv (.bool (l.any p))∧H'=H):=by
 refine aH.body func41 rfl ntmps41 (aJE rfl) ?_;refine CQ ?_;refine wG ?_;refine TF rfl rfl rfl (by exact vS rfl rfl) ?_;refine TE ?_;refine CQ ?_;refine wG ?_;refine TF rfl rfl rfl (by exact BW rfl rfl) ?_;refine TF rfl rfl rfl (by exact BW rfl rfl) ?_;refine TF rfl rfl rfl (by exact aA rfl rfl call89 rfl (FE fv l p H hl hf)) ?_;refine TF rfl rfl rfl (by exact yP rfl rfl rfl) ?_;refine TF rfl rfl rfl (by exact vS rfl rfl) ?_;refine TE ?_;refine aC ?_;exact cZ (H':=H) (.inr rfl) rfl (aN rfl) Fin.refl ⟨by rw [uZ],rfl⟩
def qP (a b:GTag):Bool:=decide (a.key=b.key)&&decide (a.val=b.val)
def mX:List GTag→List GTag→Bool
 | [],[]=>true
 | a::l,b::r=>qP a b&&mX l r
 | _,_=>false
theorem KP (a b:GTag):qP a b=true↔a=b:=by cases a;cases b;simp [qP]
theorem KL:∀ (a b:List GTag),a.length≠b.length→mX a b=false
 | [],[],h=>absurd rfl h
 | [],_::_,_=>rfl
 | _::_,[],_=>rfl
 | x::a,y::b,h=>by rw [mX,KL a b (by simpa using h)];simp
theorem KM:∀ (a b:List GTag) (k:Nat) (x y:GTag),a[k]?=some x→b[k]?=some y→qP x y=false→mX a b=false
 | [],_,k,x,y,h,_,_=>by simp at h
 | _::_,[],k,x,y,_,h,_=>by simp at h
 | u::a,v::b,0,x,y,h1,h2,h=>by cases h1;cases h2;rw [mX,h];rfl
 | u::a,v::b,k+1,x,y,h1,h2,h=>by rw [mX,KM a b k x y h1 h2 h];simp
theorem GU:∀ (a b:List GTag),a.length=b.length→(∀ k,k < a.length→∀ x y,a[k]?=some x→b[k]?=some y→qP x y=true)→mX a b=true
 | [],[],_,_=>rfl
 | [],_::_,h,_=>by simp at h
 | _::_,[],h,_=>by simp at h
 | u::a,v::b,hl,h=>by
  rw [mX,h 0 (by simp) u v rfl rfl,GU a b (by simpa using hl) (fun k hk x y h1 h2=>h (k+1) (by simpa using hk) x y h1 h2)];rfl
theorem QR (a b : List GTag) (H : aE) (ha : a.length < 4611686018427387904) :
    aH Tryz.prog 190 [lv (a.map aQ),lv (b.map aQ)] H (fun r H'=>r=bv (mX a b)∧H'=H):=by
  refine Pu ?_;refine Bd func190 rfl ntmps190<|Sr<|Dd aO<|Zz<|Sq<|Sr<|Dd aD<|Dd (fK cK)<|Dd aD<|Dd (fK cK)<|Dd tU<|Zz ?_;refine Cn ?_ ?_<;>intro hc1
  · have hne:a.length≠b.length:=by simp at hc1;omega
    refine Sr<|Dd aO<|Zz<|aC<|Rt ?_;exact⟨by rw [KL a b hne],rfl⟩
  · have heq : a.length = b.length := by simp at hc1; omega
    refine aB<|Sq<|Sr<|Dd aD<|Dd (fK cK)<|Dd aD<|Zz<|aF ?_;refine bG (σ:=Nat) (fun k=>([(0,lv (a.map aQ)),(1,lv (b.map aQ)),(12,iv (a.map aQ).length),(13,iv (k:Int))],[])) (fun k=>k≤a.length∧∀ j,j < k→∀ x y,a[j]?=some x→b[j]?=some y→qP x y=true) (fun k=>a.length - k) 0 ⟨by omega,by omega⟩ ?_ ?_
    · exact E0
    · rintro k ⟨hk,hall⟩
      refine Sr<|Dd dD<|Zz<|Sq ?_;refine Cn ?_ ?_<;>intro hc2
      · have hlt:k < a.length:=by simpa using hc2
        obtain ⟨x,hx⟩:=aX hlt;obtain ⟨y,hy⟩:=aX (l:=b) (k:=k) (by omega);have hi:=bZ (f:=aQ) hx;have hi2:=bZ (f:=aQ) hy;refine aB<|Sq<|aF<|Sr<|Dd aD<|Dd aO<|Zz<|Sq<|aU follows<|Cq aD<|Cq aD<|Cq (e8 lJ)<|Cq (by exact bQ rfl fX dR rfl (by omega) (by simp only [Zl,aQ,aG,aJ];rfl) rfl)<|Cq aD<|Cq aD<|Cq (e8 lJ)<|Cq (by exact bQ rfl fX dR rfl (by omega) (by simp only [Zl,aQ,aG,aJ];rfl) rfl)<|Cq (by exact B0 rfl rfl rfl rfl rfl RE (Z4 _ _ _ _))<|bM<|Kr ?_;refine Cn ?_ ?_<;>intro hc3
        · have ht:qP x y=false:=by
            have h:(!qP x y)=true:=hc3
            simpa using h
          refine Sr<|Dd aO<|Zz<|aC<|Rt ?_;exact⟨by rw [KM a b k x y hx hy ht],rfl⟩
        · have ht:qP x y=true:=by
            have h:(!qP x y)=false:=hc3
            simpa using h
          refine aB<|Rg<|Dd eL<|Dd aD<|Zz ?_;refine⟨k+1,⟨by omega,fun j hj x' y' h1 h2=>?_⟩,by omega,E0⟩;by_cases e:j=k
          · subst e;rw [hx] at h1;rw [hy] at h2;cases h1;cases h2;exact ht
          · exact hall j (by omega) x' y' h1 h2
      · have hge : k = a.length := by have : a.length ≤ k := by simpa using hc2
                                      omega
        subst hge;refine aZ<|Sr<|Dd aO<|Zz<|aC<|Rt ?_;exact⟨by rw [GU a b heq hall],rfl⟩
theorem GT:∀ {a b:List GTag},mX a b=true↔a=b
 | [],[]=>by simp [mX]
 | [],_::_=>by simp [mX]
 | _::_,[]=>by simp [mX]
 | x::a,y::b=>by rw [mX,aJA,KP,GT];simp
theorem aH9 (a0 b0 a1 b1 a2 b2 a3 b3:ByteArray) (w:World):(Op.equalIn 10000 182 (.agg [.string a0,.string a1,.string a2,.string a3].toArray) (.agg [.string b0,.string b1,.string b2,.string b3].toArray)).run Tryz.prog w =
  .ok (decide (a0=b0)&&decide (a1=b1)&&decide (a2=b2)&&decide (a3=b3)) w:=by
 obtain ⟨i,hi⟩:=info_of_underlying underlying9;refine(run_equalIn_array (P:=Tryz.prog) w 9999 _ _ underlying182 hi).trans ?_;have hs:∀ (d:Nat) (a b:ByteArray) (w:World),(Op.equalIn (d+1) 9 (.string a) (.string b)).run Tryz.prog w=.ok (decide (a=b)) w:=fun d a b w=>by rw [run_equalIn_string w d 9 a b underlying9,r5]
 have hc:Tryz.prog.cellsOf 9=1:=by kernel_rfl
 by_cases e0:a0=b0<;>by_cases e1:a1=b1<;>by_cases e2:a2=b2<;>by_cases e3:a3=b3<;>simp [List.range_succ,Op.eqItems,part,hc,hs,isAgg9,e0,e1,e2,e3]
theorem CJ (a b:List ByteArray) (H:aE) (ha:a.length < 4611686018427387904):aH Tryz.prog 100 [.pv (cS a),.pv (cS b)] H (fun r H'=>r=bv (decide (a=b))∧H'=H):=by
 refine Pu ?_;have hma:(a.map encStr).length=a.length:=aIr _;have hmb:(b.map encStr).length=b.length:=aIr _;refine Bd func100 rfl ntmps100<|Sr<|Dd aO<|Zz<|Sq<|Sr<|Dd aD<|Dd (fK aK)<|Dd aD<|Dd (fK aK)<|Dd tU<|Zz ?_;refine Cn ?_ ?_<;>intro hc1
 ·have hne:¬ a=b:=by
   intro e;subst e;simp at hc1
  refine Sr<|Dd aO<|Zz<|aC<|Rt ?_;exact⟨by rw [decide_eq_false hne],rfl⟩
 have heq:a.length=b.length:=by
  simp only [hma,hmb,Bool.not_eq_false',aIy] at hc1;omega
 refine aB<|Sq<|Sr<|Dd aD<|Dd (fK aK)<|Dd aD<|Zz<|aF ?_;refine bG (σ:=Nat) (fun k=>([(0,.pv (cS a)),(1,.pv (cS b)),(12,iv ((a.map encStr).length:Int)),(13,iv (k:Int))],[])) (fun k=>k≤a.length∧a.take k=b.take k) (fun k=>a.length - k) 0 ⟨by omega,by simp⟩ ?_ ?_
 ·exact E0
 rintro k ⟨hk,hall⟩;refine Sr<|Dd dD<|Zz<|Sq ?_;refine Cn ?_ ?_<;>intro hc2
 ·have hlt:k < a.length:=by have:=aIn hc2;omega
  obtain ⟨x,hx⟩:=aX hlt;obtain ⟨y,hy⟩:=aX (l:=b) (k:=k) (by omega);have hi:=bZ (f:=encStr) hx;have hi2:=bZ (f:=encStr) hy;refine aB<|Sq<|aF<|Sr<|Dd aD<|Dd aO<|Zz<|Sq<|aU follows<|Cq aD<|Cq aD<|Cq (e8 cC)<|Cq (fM isAgg9)<|Cq aD<|Cq aD<|Cq (e8 cC)<|Cq (fM isAgg9)<|Cq JQ<|bM<|Kr ?_;refine Cn ?_ ?_<;>intro hc3
  ·have ht:¬ x=y:=by
    have h:(!decide (x=y))=true:=hc3
    simpa using h
   have hne:¬ a=b:=by
    intro e;subst e;rw [hx] at hy;exact ht (Option.some.inj hy)
   refine Sr<|Dd aO<|Zz<|aC<|Rt ?_;exact⟨by rw [decide_eq_false hne],rfl⟩
  have ht:x=y:=by
   have h:(!decide (x=y))=false:=hc3
   simpa using h
  refine aB<|Rg<|Dd eL<|Dd aD<|Zz ?_;refine⟨k+1,⟨by omega,?_⟩,by omega,E0⟩;rw [List.take_add_one,List.take_add_one,hx,hy,hall,ht]
 have hge:k=a.length:=by have:=aIo hc2;omega
 have he:a=b:=by
  have h:=hall;rw [hge,List.take_length,heq,List.take_length] at h;exact h
 refine aZ<|Sr<|Dd aO<|Zz<|aC<|Rt ?_;exact⟨by rw [decide_eq_true he],rfl⟩
def pC (a b:GObj):Bool:=((decide (a.id=b.id)&&decide (a.kind=b.kind)&&(decide (a.x=b.x)&&decide (a.y=b.y)))&&decide (a.refs=b.refs))&&mX a.tags b.tags
theorem pB {a b:GObj}:pC a b=true↔a=b:=by
 cases a;cases b;simp only [pC,aJA,aIy,GT,GObj.mk.injEq];constructor
 ·rintro⟨⟨⟨⟨a1,a2⟩,a3,a4⟩,a5⟩,a6⟩;exact⟨a1,a2,a3,a4,a5,a6⟩
 rintro⟨a1,a2,a3,a4,a5,a6⟩;exact⟨⟨⟨⟨a1,a2⟩,a3,a4⟩,a5⟩,a6⟩
def okS (o:GObj):Prop:=o.refs.length < 4611686018427387904∧o.tags.length < 4611686018427387904
theorem aCq (a b:GObj) (H:aE) (ha:okS a):aH Tryz.prog 147 [av (aG a),av (aG b)] H (fun r H'=>r=bv (pC a b)∧H'=H):=by
 refine Pu ?_;refine Bd func147 rfl ntmps147<|Sr<|Dd (by exact cE (id:=2) rfl rfl rfl rfl rfl)<|Dd (by exact cE (id:=3) rfl rfl rfl rfl rfl)<|Dd aO<|Zz<|Sq ?_;refine bD (t:=4) (n:=38) (X:=pC a b) ?_ ?_
 ·all_goals refine Dd (bH eK) ?_
  all_goals refine Dd (cA isAgg9)<|Dd (bH eK)<|Dd (cA isAgg9)<|Dd sQ<|Dm ?_
  all_goals refine Sp 10 (fun h10=>?_) fun h10=>?_
  all_goals try contradiction
  all_goals first|refine Fo<|Fo<|Fo<|Fo<|Fo ?_|refine On (bH dT)<|On (cA isAgg3)<|On (bH dT)<|On (cA isAgg3)<|On cI ?_
  all_goals refine Dd dI<|Dm ?_
  all_goals refine Sp 17 (fun h17=>?_) fun h17=>?_
  all_goals try contradiction
  all_goals first|refine Fo<|Fo<|Fo<|Fo<|Fo ?_|refine On (bH kE)<|On (by exact aI rfl dZ sizeOf45 rfl rfl rfl rfl (by simp only [Zl,aQ,aG,encStr,aJ];rfl) rfl)<|On (bH kE)<|On (by exact aI rfl dZ sizeOf45 rfl rfl rfl rfl (by simp only [Zl,aQ,aG,encStr,aJ];rfl) rfl)<|On (by exact oC rfl rfl rfl rfl rfl gV (MO _ _ _ _)) ?_
  all_goals refine Dd dI<|Dm ?_
  all_goals refine Sp 24 (fun h24=>?_) fun h24=>?_
  all_goals try contradiction
  all_goals first|refine Fo<|Fo<|Fo<|Fo<|Fo ?_|refine On (bH dP)<|On (cA aV)<|On (bH dP)<|On (cA aV)<|On (by exact aA rfl rfl YK rfl (CJ a.refs b.refs _ ha.1)) ?_
  all_goals refine Dd dI<|Dm ?_
  all_goals refine Sp 31 (fun h31=>?_) fun h31=>?_
  all_goals try contradiction
  all_goals first|refine Fo<|Fo<|Fo<|Fo<|Fo ?_|refine On (bH e9)<|On (cA cU)<|On (bH e9)<|On (cA cU)<|On (by exact aA rfl rfl call190 rfl (QR a.tags b.tags _ ha.2)) ?_
  all_goals refine Dd dI<|Da ?_
  all_goals(exact⟨⟨_,rfl,by(simp only [pC, *];rfl)⟩,rfl,rfl,rfl⟩)
 exact aC<|Rt<|Qq
def kD (a b:GEdit):Bool:=((((decide (a.refs=b.refs)&&pC a.obj b.obj)&&decide (a.op=b.op))&&(decide (a.id=b.id)&&decide (a.other=b.other)&&decide (a.node=b.node)&&decide (a.key=b.key)))&&decide (a.val=b.val))&&(decide (a.x=b.x)&&decide (a.y=b.y))
theorem lV {a b:GEdit}:kD a b=true↔a=b:=by
 cases a;cases b;simp only [kD,aJA,aIy,pB,GEdit.mk.injEq];constructor
 ·rintro⟨⟨⟨⟨⟨a1,a2⟩,a3⟩,⟨⟨a4,a5⟩,a6⟩,a7⟩,a8⟩,a9,a10⟩;exact⟨a3,a4,a5,a6,a9,a10,a7,a8,a1,a2⟩
 rintro⟨a3,a4,a5,a6,a9,a10,a7,a8,a1,a2⟩;exact⟨⟨⟨⟨⟨a1,a2⟩,a3⟩,⟨⟨a4,a5⟩,a6⟩,a7⟩,a8⟩,a9,a10⟩
theorem vP (a b:GEdit) (H:aE) (h1:a.refs.length < 4611686018427387904) (h2:okS a.obj):aH Tryz.prog 92 [av (aJ a),av (aJ b)] H (fun r H'=>r=bv (kD a b)∧H'=H):=by
 refine Pu ?_;refine Bd func92 rfl ntmps92<|Sr<|Dd (by exact cE (id:=2) rfl rfl rfl rfl rfl)<|Dd (by exact cE (id:=3) rfl rfl rfl rfl rfl)<|Dd aO<|Zz<|Sq ?_;refine bD (t:=5) (n:=14) (X:=decide (a.refs=b.refs)&&pC a.obj b.obj) ?_ ?_
 ·all_goals refine Dd (bH gA) ?_
  all_goals refine Dd (cA aV)<|Dd (bH gA)<|Dd (cA aV)<|Dd (by exact aA rfl rfl YK rfl (CJ a.refs b.refs _ h1))<|Dm ?_
  all_goals refine Sp 11 (fun h11=>?_) fun h11=>?_
  all_goals try contradiction
  all_goals first|refine Fo<|Fo<|Fo<|Fo<|Fo ?_|refine On (bH iR)<|On (by exact aI rfl aY sizeOf49 rfl rfl rfl rfl (by simp only [Zl,aQ,aG,encStr,aJ];rfl) rfl)<|On (bH iR)<|On (by exact aI rfl aY sizeOf49 rfl rfl rfl rfl (by simp only [Zl,aQ,aG,encStr,aJ];rfl) rfl)<|On (by exact aA rfl rfl call147 rfl (aCq a.obj b.obj _ h2)) ?_
  all_goals refine Dd dI<|Da ?_
  all_goals(exact⟨⟨_,rfl,by(simp only [*];rfl)⟩,rfl,rfl,rfl⟩)
 refine Sq ?_;refine bD (t:=4) (n:=48) (X:=kD a b) ?_ ?_
 ·all_goals refine Dd aD ?_
  all_goals refine Dm ?_
  all_goals refine Sp 19 (fun h19=>?_) fun h19=>?_
  all_goals try contradiction
  all_goals first|refine Fo<|Fo<|Fo<|Fo<|Fo ?_|refine On (bH fG)<|On (cA isAgg3)<|On (bH fG)<|On (cA isAgg3)<|On cI ?_
  all_goals refine Dd dI<|Dm ?_
  all_goals refine Sp 26 (fun h26=>?_) fun h26=>?_
  all_goals try contradiction
  all_goals first|refine Fo<|Fo<|Fo<|Fo<|Fo<|Fo<|Fo<|Fo<|Fo<|Fo<|Fo<|Fo<|Fo<|Fo<|Fo<|Fo<|Fo<|Fo<|Fo ?_|refine On (bH eX)<|On (cA isAgg9)<|On (bH fR)<|On (cA isAgg9)<|On (bH lY)<|On (cA isAgg9)<|On (bH lA)<|On (cA isAgg9)<|On (by exact sS rfl aEi rfl rfl)<|On (bH eX)<|On (cA isAgg9)<|On (bH fR)<|On (cA isAgg9)<|On (bH lY)<|On (cA isAgg9)<|On (bH lA)<|On (cA isAgg9)<|On (by exact sS rfl aEi rfl rfl)<|On (by exact oC rfl rfl rfl rfl rfl eqGuardType182 (aH9 a.id b.id a.other b.other a.node b.node a.key b.key)) ?_
  all_goals refine Dd dI<|Dm ?_
  all_goals refine Sp 47 (fun h47=>?_) fun h47=>?_
  all_goals try contradiction
  all_goals first|refine Fo<|Fo<|Fo<|Fo<|Fo ?_|refine On (bH lX)<|On (cA isAgg9)<|On (bH lX)<|On (cA isAgg9)<|On sQ ?_
  all_goals refine Dd dI<|Dm ?_
  all_goals refine Sp 54 (fun h54=>?_) fun h54=>?_
  all_goals try contradiction
  all_goals first|refine Fo<|Fo<|Fo<|Fo<|Fo ?_|refine On (bH iS)<|On (by exact aI rfl dZ sizeOf45 rfl rfl rfl rfl (by simp only [Zl,aQ,aG,encStr,aJ];rfl) rfl)<|On (bH iS)<|On (by exact aI rfl dZ sizeOf45 rfl rfl rfl rfl (by simp only [Zl,aQ,aG,encStr,aJ];rfl) rfl)<|On (by exact oC rfl rfl rfl rfl rfl gV (MO _ _ _ _)) ?_
  all_goals refine Dd dI<|Da ?_
  all_goals(exact⟨⟨_,rfl,by(simp only [kD, *];rfl)⟩,rfl,rfl,rfl⟩)
 exact aC<|Rt<|Qq
def atP {α:Type} (l:List α) (p:α→Bool) (k:Nat):Bool:=match l[k]? with
 | some s=>p s
 | none=>false
theorem CS {α:Type} {l:List α} {p:α→Bool} {k:Nat} {s:α} (h:l[k]?=some s):atP l p k=p s:=by rw [atP,h]
theorem zH {α:Type} (l:List α) (p:α→Bool):(List.range l.length).any (atP l p)=l.any p:=by
 rw [Bool.eq_iff_iff,List.any_eq_true,List.any_eq_true];constructor
 ·rintro⟨k,hk,h⟩;have hlt:=List.mem_range.1 hk;rw [CS (aIw hlt)] at h;exact⟨_,List.getElem_mem hlt,h⟩
 rintro⟨x,hx,h⟩;obtain ⟨k,hk⟩:=aJM.1 hx;exact⟨k,List.mem_range.2 (aIv.1 hk).1,by rw [CS hk];exact h⟩
theorem aAi (s:ByteArray) (H:aE) (hs:s.size < 4611686018427387904):aH Tryz.prog 141 [sv s] H (fun r H'=>r=bv (!bU s)∧H'=H):=by refine Pu ?_;exact Bd func141 rfl ntmps141<|Sr<|Dd aO<|Zz<|Sr<|Dd aD<|Dd (by exact aA rfl rfl t8 rfl (AN s _ hs))<|Dd jU<|Dd aO<|Zz<|aC<|Rt<|Qq
theorem NG (l:List ByteArray) (H:aE) (hl:l.length < 4611686018427387904) (hs:∀ s∈l,s.size < 4611686018427387904):aH Tryz.prog 90 [.pv (cS l)] H (fun r H'=>r=bv (l.all bU)∧H'=H):=by
 refine Pu ?_;have e:l.all bU=!(List.range l.length).any (atP l (fun s=>!bU s)):=by
  rw [zH l (fun s=>!bU s),List.any_eq_not_all_not];simp
 rw [e];exact Bd func90 rfl ntmps90<|Sr<|Dd aO<|Zz<|Sr<|Dd aD<|Dd (by exact aA rfl rfl JD rfl (pS (.pv (.fn 141)) l (atP l (fun s=>!bU s)) (fun _=>[]) hl (fun k s hk=>dN.fn call141 (by rw [CS hk];exact aAi s _ (hs s (aJB hk))))))<|Dd jU<|Dd aO<|Zz<|aC<|Rt<|Qq
def vB (e:GEdit):GEdit :=if e.op=1 then⟨e.op,aP,aP,aP,0,0,aP,aP,[],e.obj⟩
 else if e.op=2 then⟨e.op,e.id,aP,aP,e.x,e.y,aP,aP,[],zObj⟩
 else if e.op=3 then⟨e.op,e.id,aP,aP,0,0,e.key,e.val,[],zObj⟩
 else if e.op=4 then⟨e.op,e.id,aP,aP,0,0,aP,aP,e.refs,zObj⟩
 else if e.op=5 then⟨e.op,e.id,aP,aP,0,0,aP,aP,[],zObj⟩
 else if e.op=6 then⟨e.op,e.id,e.other,e.node,0,0,aP,aP,[],zObj⟩
 else⟨e.op,e.id,e.other,aP,0,0,aP,aP,[],zObj⟩
def lU (e:GEdit):Bool :=if e.op=1 then iC e.obj
 else bU e.id&&(if e.op=2 then onP e.x e.y else if e.op=3 then bU e.key&&decide ((e.val.size:Int)≤200)
  else if e.op=4 then decide ((0:Int) < (e.refs.length:Int))&&decide ((e.refs.length:Int)≤2000)&&e.refs.all bU
  else if e.op=5 then true else if e.op=6 then bU e.node&&bU e.other else bU e.other)
def dA (e:GEdit):Bool:=(decide (1≤e.op)&&decide (e.op≤7))&&(lU e&&kD (vB e) e)
def tQ (e:GEdit):Prop:=(e.id.size < 4611686018427387904∧e.other.size < 4611686018427387904∧e.node.size < 4611686018427387904∧e.key.size < 4611686018427387904)∧(e.refs.length < 4611686018427387904∧∀ s∈e.refs,s.size < 4611686018427387904)∧DO e.obj
theorem aFY {o:GObj} (h:DO o):okS o:=⟨h.2.2.1,h.2.1.1⟩
theorem LA:okS zObj:=⟨by decide,by decide⟩
theorem aDW (s:ByteArray) (H:aE) (hs:s.size < 4611686018427387904):aH Tryz.prog 90 [.pv (cS [s])] H (fun r H'=>r=bv (bU s)∧H'=H):=by
 have h:=NG [s] H (by show 1 < _;omega) (by simpa using hs)
 simpa using h
theorem aHi (s t:ByteArray) (H:aE) (hs:s.size < 4611686018427387904) (ht:t.size < 4611686018427387904):aH Tryz.prog 90 [.pv (cS [s,t])] H (fun r H'=>r=bv (bU s&&bU t)∧H'=H):=by
 have h:=NG [s,t] H (by show 2 < _;omega) (by simpa using ⟨hs,ht⟩)
 simpa using h
theorem x3 (e:GEdit) (H:aE) (he:tQ e):aH Tryz.prog 43 [av (aJ e)] H (fun r H'=>r=bv (dA e)∧H'=H):=by
 refine Pu ?_;obtain ⟨⟨h1,h2,h3,h4⟩,⟨h5,h6⟩,h7⟩:=he;have hrl:(e.refs.map encStr).length=e.refs.length:=aIr _;refine Bd func43 rfl ntmps43<|Sr<|Dd (by exact cE (id:=1) rfl rfl rfl rfl rfl)<|Dd aO<|Zz<|Sr<|Dd (bH fG)<|Dd (cA isAgg3)<|Dd (bH eX)<|Dd (cA isAgg9)<|Dd (jG pI)<|Dd (by exact bJ (id:=3) rfl BA rfl rfl)<|Uu (fP aL)<|Zz<|Sr<|Dd (bH eX)<|Dd (cA isAgg9)<|Dd (by exact aT ([e.id].map encStr) rfl cC rfl rfl rfl rfl rfl (by simp [encStr]))<|Dd (by exact aA rfl rfl CZ rfl (aDW e.id _ h1))<|Dd aO<|Zz<|Sq<|Sr<|Dd (bH fG)<|Dd (cA isAgg3)<|Zz<|aF<|Sr<|Dd cI<|Da ?_;refine Cn ?_ ?_<;>intro hc1
 ·have ho:e.op=1:=aIn hc1;have hx:vB e=⟨e.op,aP,aP,aP,0,0,aP,aP,[],e.obj⟩:=by rw [vB,aIq ho]
  have hk:lU e=iC e.obj:=by rw [lU,aIq ho]
  have hv:dA e=(iC e.obj&&kD ⟨e.op,aP,aP,aP,0,0,aP,aP,[],e.obj⟩ e):=by rw [dA,hx,hk,ho];rfl
  refine aU follows<|Cr [1] (fun _ h=>fh iR h)<|Cr [1] (fun H1 hH=>by exact aI rfl aY sizeOf49 rfl ((hH _ rfl).trans rfl) rfl rfl (by simp only [Zl,aQ,aG,encStr,aJ,zObj];rfl) rfl)<|Cr [1] (fun _ h=>fh iR h)<|Cr [1] (fun H1 hH=>by exact aI rfl aY sizeOf49 rfl ((hH _ rfl).trans rfl) rfl rfl (by simp only [Zl,aQ,aG,encStr,aJ,zObj];rfl) rfl)<|Cr [] (fun H1 hH=>by exact aA rfl rfl aCS rfl (vU e.obj _ h7))<|Cr [3] (fun _ h=>fh eX h)<|Cp [3] (fun H1 hH=>by exact bW rfl sizeOf9 rfl rfl rfl ((hH _ rfl).trans rfl) rfl rfl (aJE rfl) rfl rfl)<|Cr [3] (fun _ h=>fh iR h)<|Cp [3] (fun H1 hH=>by exact qV rfl sizeOf49 rfl rfl rfl rfl ((hH _ rfl).trans rfl) rfl rfl (aJE rfl) rfl rfl)<|Cr [] (fun _ _=>aO)<|bM<|Kr ?_;refine Sq ?_;refine bD (t:=2) (n:=8) (X:=iC e.obj&&kD ⟨e.op,aP,aP,aP,0,0,aP,aP,[],e.obj⟩ e) ?_ ?_
  ·all_goals refine Dd aD ?_
   all_goals refine Dm ?_
   all_goals refine Sp 127 (fun h127=>?_) fun h127=>?_
   all_goals try contradiction
   all_goals first|refine Fo<|Fo<|Fo ?_|refine On (by exact aI rfl bA aL rfl rfl rfl rfl (by simp only [Zl,aQ,aG,encStr,aJ,zObj];rfl) rfl)<|On (by exact aI rfl bA aL rfl rfl rfl rfl (by simp only [Zl,aQ,aG,encStr,aJ,zObj];rfl) rfl)<|On (by exact aA rfl rfl wV rfl (vP ⟨e.op,aP,aP,aP,0,0,aP,aP,[],e.obj⟩ e _ (by show 0 < _;omega) (aFY h7))) ?_
   all_goals refine Dd dI<|Da ?_
   all_goals(exact⟨⟨_,rfl,by(simp_all [iC];done)⟩,rfl,rfl,rfl⟩)
  refine aC<|Rt ?_;exact⟨by rw [hv],rfl⟩
 have ho1:¬ e.op=1:=aIo hc1;refine Sr<|Dd cI<|Da ?_;refine Cn ?_ ?_<;>intro hc2
 ·have ho:e.op=2:=aIn hc2;have hx:vB e=⟨e.op,e.id,aP,aP,e.x,e.y,aP,aP,[],zObj⟩:=by rw [vB,aIp ho1,aIq ho]
  have hk:lU e=(bU e.id&&onP e.x e.y):=by rw [lU,aIp ho1,aIq ho]
  have hb:(bU e.id&&decide (0≤min e.x e.y)&&decide (max e.x e.y < 1048576))=(bU e.id&&onP e.x e.y):=by rw [onP,Bool.and_assoc]
  have hv:dA e=((bU e.id&&decide (0≤min e.x e.y)&&decide (max e.x e.y < 1048576))&&kD ⟨e.op,e.id,aP,aP,e.x,e.y,aP,aP,[],zObj⟩ e):=by rw [dA,hx,hk,hb,ho];rfl
  apply sG (t:=4) (n:=25) (X:=bU e.id&&decide (0≤min e.x e.y)&&decide (max e.x e.y < 1048576))
  ·cases hg30:(bU e.id:Bool)
   ·refine aU follows<|Cr [1] (fun _ h=>fh iS h)<|Cr [1] (fun H1 hH=>by exact aI rfl dZ sizeOf45 rfl ((hH _ rfl).trans rfl) rfl rfl (by simp only [Zl,aQ,aG,encStr,aJ,zObj];rfl) rfl)<|Cr [] (fun _ _=>aD)<|Cr [] (fun _ _=>aD)<|Ot<|Ot<|Ot<|Ot<|Ot<|Ot<|Ot<|Ot<|Cr [] (fun _ _=>dI)<|Cr [] (fun _ _=>aD)<|Ot<|Ot<|Ot<|Ot<|Ot<|Ot<|Ot<|Ot<|Cr [] (fun _ _=>dI)<|Cr [3] (fun _ h=>fh iS h)<|Cp [3] (fun H1 hH=>by exact qV rfl sizeOf45 rfl rfl rfl rfl ((hH _ rfl).trans rfl) rfl rfl (aJE rfl) rfl rfl)<|Cr [] (fun _ _=>aO)<|bM<|Kr ?_;exact⟨rfl,⟨_,rfl,by rfl⟩,rfl,rfl,rfl⟩
   cases hg40:(decide (0≤min e.x e.y):Bool)
   ·refine aU follows<|Cr [1] (fun _ h=>fh iS h)<|Cr [1] (fun H1 hH=>by exact aI rfl dZ sizeOf45 rfl ((hH _ rfl).trans rfl) rfl rfl (by simp only [Zl,aQ,aG,encStr,aJ,zObj];rfl) rfl)<|Cr [] (fun _ _=>aD)<|Cr [] (fun _ _=>aD) ?_;refine bT (r:=⟨_,some [1],[]⟩) (c8 rfl rfl rfl (by rfl) (fun H1 hH=>by exact(by exact cJ rfl iS rfl ((hH _ rfl).trans rfl) rfl rfl))) rfl ?_;refine bT (r:=⟨_,some [1],[]⟩) (c8 rfl rfl rfl (by rfl) (fun H1 hH=>by exact(by exact cJ rfl qL rfl ((hH _ rfl).trans rfl) rfl rfl))) rfl ?_;refine bT (r:=⟨_,some [1],[]⟩) (c8 rfl rfl rfl (by rfl) (fun H1 hH=>by exact(by exact aR rfl isAgg3 rfl ((hH _ rfl).trans rfl) rfl rfl rfl))) rfl ?_;refine bT (r:=⟨_,some [1],[]⟩) (c8 rfl rfl rfl (by rfl) (fun H1 hH=>by exact(by exact cJ rfl iS rfl ((hH _ rfl).trans rfl) rfl rfl))) rfl ?_;refine bT (r:=⟨_,some [1],[]⟩) (c8 rfl rfl rfl (by rfl) (fun H1 hH=>by exact(by exact cJ rfl qK rfl ((hH _ rfl).trans rfl) rfl rfl))) rfl ?_;refine bT (r:=⟨_,some [1],[]⟩) (c8 rfl rfl rfl (by rfl) (fun H1 hH=>by exact(by exact aR rfl isAgg3 rfl ((hH _ rfl).trans rfl) rfl rfl rfl))) rfl ?_;refine bT (r:=⟨_,some [],[]⟩) (c8 rfl rfl rfl (by rfl) (fun H1 hH=>by exact sZ rfl rfl rfl rfl)) rfl ?_;refine bT (r:=⟨_,some [],[]⟩) (c8 rfl rfl rfl (by rfl) (fun H1 hH=>by exact yP rfl rfl rfl)) rfl ?_;refine Cr [] (fun _ _=>dI)<|Cr [] (fun _ _=>aD)<|Ot<|Ot<|Ot<|Ot<|Ot<|Ot<|Ot<|Ot<|Cr [] (fun _ _=>rJ)<|Cr [3] (fun _ h=>fh iS h)<|Cp [3] (fun H1 hH=>by exact qV rfl sizeOf45 rfl rfl rfl rfl ((hH _ rfl).trans rfl) rfl rfl (aJE rfl) rfl rfl)<|Cr [] (fun _ _=>aO)<|bM<|Kr ?_;exact⟨rfl,⟨_,rfl,by rfl⟩,rfl,rfl,rfl⟩
   refine aU follows<|Cr [1] (fun _ h=>fh iS h)<|Cr [1] (fun H1 hH=>by exact aI rfl dZ sizeOf45 rfl ((hH _ rfl).trans rfl) rfl rfl (by simp only [Zl,aQ,aG,encStr,aJ,zObj];rfl) rfl)<|Cr [] (fun _ _=>aD)<|Cr [] (fun _ _=>aD) ?_;refine bT (r:=⟨_,some [1],[]⟩) (c8 rfl rfl rfl (by rfl) (fun H1 hH=>by exact(by exact cJ rfl iS rfl ((hH _ rfl).trans rfl) rfl rfl))) rfl ?_;refine bT (r:=⟨_,some [1],[]⟩) (c8 rfl rfl rfl (by rfl) (fun H1 hH=>by exact(by exact cJ rfl qL rfl ((hH _ rfl).trans rfl) rfl rfl))) rfl ?_;refine bT (r:=⟨_,some [1],[]⟩) (c8 rfl rfl rfl (by rfl) (fun H1 hH=>by exact(by exact aR rfl isAgg3 rfl ((hH _ rfl).trans rfl) rfl rfl rfl))) rfl ?_;refine bT (r:=⟨_,some [1],[]⟩) (c8 rfl rfl rfl (by rfl) (fun H1 hH=>by exact(by exact cJ rfl iS rfl ((hH _ rfl).trans rfl) rfl rfl))) rfl ?_;refine bT (r:=⟨_,some [1],[]⟩) (c8 rfl rfl rfl (by rfl) (fun H1 hH=>by exact(by exact cJ rfl qK rfl ((hH _ rfl).trans rfl) rfl rfl))) rfl ?_;refine bT (r:=⟨_,some [1],[]⟩) (c8 rfl rfl rfl (by rfl) (fun H1 hH=>by exact(by exact aR rfl isAgg3 rfl ((hH _ rfl).trans rfl) rfl rfl rfl))) rfl ?_;refine bT (r:=⟨_,some [],[]⟩) (c8 rfl rfl rfl (by rfl) (fun H1 hH=>by exact sZ rfl rfl rfl rfl)) rfl ?_;refine bT (r:=⟨_,some [],[]⟩) (c8 rfl rfl rfl (by rfl) (fun H1 hH=>by exact yP rfl rfl rfl)) rfl ?_;refine Cr [] (fun _ _=>dI)<|Cr [] (fun _ _=>aD) ?_;refine bT (r:=⟨_,some [1],[]⟩) (c8 rfl rfl rfl (by assumption) (fun H1 hH=>by exact(by exact cJ rfl iS rfl ((hH _ rfl).trans rfl) rfl rfl))) rfl ?_;refine bT (r:=⟨_,some [1],[]⟩) (c8 rfl rfl rfl (by assumption) (fun H1 hH=>by exact(by exact cJ rfl qL rfl ((hH _ rfl).trans rfl) rfl rfl))) rfl ?_;refine bT (r:=⟨_,some [1],[]⟩) (c8 rfl rfl rfl (by assumption) (fun H1 hH=>by exact(by exact aR rfl isAgg3 rfl ((hH _ rfl).trans rfl) rfl rfl rfl))) rfl ?_;refine bT (r:=⟨_,some [1],[]⟩) (c8 rfl rfl rfl (by assumption) (fun H1 hH=>by exact(by exact cJ rfl iS rfl ((hH _ rfl).trans rfl) rfl rfl))) rfl ?_;refine bT (r:=⟨_,some [1],[]⟩) (c8 rfl rfl rfl (by assumption) (fun H1 hH=>by exact(by exact cJ rfl qK rfl ((hH _ rfl).trans rfl) rfl rfl))) rfl ?_;refine bT (r:=⟨_,some [1],[]⟩) (c8 rfl rfl rfl (by assumption) (fun H1 hH=>by exact(by exact aR rfl isAgg3 rfl ((hH _ rfl).trans rfl) rfl rfl rfl))) rfl ?_;refine bT (r:=⟨_,some [],[]⟩) (c8 rfl rfl rfl (by assumption) (fun H1 hH=>by exact M7 rfl rfl rfl rfl)) rfl ?_;refine bT (r:=⟨_,some [],[]⟩) (c8 rfl rfl rfl (by assumption) (fun H1 hH=>by exact yO rfl rfl rfl)) rfl ?_;refine Cr [] (fun _ _=>xI)<|Cr [3] (fun _ h=>fh iS h)<|Cp [3] (fun H1 hH=>by exact qV rfl sizeOf45 rfl rfl rfl rfl ((hH _ rfl).trans rfl) rfl rfl (aJE rfl) rfl rfl)<|Cr [] (fun _ _=>aO)<|bM<|Kr ?_;exact⟨rfl,⟨_,rfl,by rfl⟩,rfl,rfl,rfl⟩
  refine Sq ?_;refine bD (t:=2) (n:=8) (X:=(bU e.id&&decide (0≤min e.x e.y)&&decide (max e.x e.y < 1048576))&&kD ⟨e.op,e.id,aP,aP,e.x,e.y,aP,aP,[],zObj⟩ e) ?_ ?_
  ·all_goals refine Dd aD ?_
   all_goals refine Dm ?_
   all_goals refine Sp 127 (fun h127=>?_) fun h127=>?_
   all_goals try contradiction
   all_goals first|refine Fo<|Fo<|Fo ?_|refine On (by exact aI rfl bA aL rfl rfl rfl rfl (by simp only [Zl,aQ,aG,encStr,aJ,zObj];rfl) rfl)<|On (by exact aI rfl bA aL rfl rfl rfl rfl (by simp only [Zl,aQ,aG,encStr,aJ,zObj];rfl) rfl)<|On (by exact aA rfl rfl wV rfl (vP ⟨e.op,e.id,aP,aP,e.x,e.y,aP,aP,[],zObj⟩ e _ (by(show 0 < _;omega)) LA)) ?_
   all_goals refine Dd dI<|Da ?_
   all_goals(exact⟨⟨_,rfl,by(rw [h127];rfl)⟩,rfl,rfl,rfl⟩)
  refine aC<|Rt ?_;exact⟨by rw [hv],rfl⟩
 have ho2:¬ e.op=2:=aIo hc2;refine Sr<|Dd cI<|Da ?_;refine Cn ?_ ?_<;>intro hc3
 ·have ho:e.op=3:=aIn hc3;have hx:vB e=⟨e.op,e.id,aP,aP,0,0,e.key,e.val,[],zObj⟩:=by rw [vB,aIp ho1,aIp ho2,aIq ho]
  have hk:lU e=(bU e.id&&(bU e.key&&decide ((e.val.size:Int)≤200))):=by rw [lU,aIp ho1,aIp ho2,aIq ho]
  have hb:(bU e.id&&bU e.key&&decide ((e.val.size:Int)≤200))=(bU e.id&&(bU e.key&&decide ((e.val.size:Int)≤200))):=by rw [Bool.and_assoc]
  have hv:dA e=((bU e.id&&bU e.key&&decide ((e.val.size:Int)≤200))&&kD ⟨e.op,e.id,aP,aP,0,0,e.key,e.val,[],zObj⟩ e):=by rw [dA,hx,hk,hb,ho];rfl
  apply sG (t:=4) (n:=20) (X:=bU e.id&&bU e.key&&decide ((e.val.size:Int)≤200))
  ·cases hg58:(bU e.id:Bool)
   ·refine aU follows<|Cr [1] (fun _ h=>fh lA h)<|Cr [1] (fun _ h=>lh isAgg9 h)<|Cr [1] (fun _ h=>fh lX h)<|Cr [1] (fun _ h=>lh isAgg9 h)<|Cr [] (fun _ _=>aD)<|Cr [] (fun _ _=>aD)<|Ot<|Ot<|Ot<|Ot<|Cr [] (fun _ _=>dI)<|Cr [] (fun _ _=>aD)<|Ot<|Ot<|Ot<|Ot<|Cr [] (fun _ _=>dI)<|Cr [3] (fun _ h=>fh lA h)<|Cp [3] (fun H1 hH=>by exact bW rfl sizeOf9 rfl rfl rfl ((hH _ rfl).trans rfl) rfl rfl (aJE rfl) rfl rfl)<|Cr [3] (fun _ h=>fh lX h)<|Cp [3] (fun H1 hH=>by exact bW rfl sizeOf9 rfl rfl rfl ((hH _ rfl).trans rfl) rfl rfl (aJE rfl) rfl rfl)<|Cr [] (fun _ _=>aO)<|bM<|Kr ?_;exact⟨rfl,⟨_,rfl,by rfl⟩,rfl,rfl,rfl⟩
   cases hg64:(bU e.key:Bool)
   ·refine aU follows<|Cr [1] (fun _ h=>fh lA h)<|Cr [1] (fun _ h=>lh isAgg9 h)<|Cr [1] (fun _ h=>fh lX h)<|Cr [1] (fun _ h=>lh isAgg9 h)<|Cr [] (fun _ _=>aD)<|Cr [] (fun _ _=>aD) ?_;refine bT (r:=⟨_,some [1],[]⟩) (c8 rfl rfl rfl (by rfl) (fun H1 hH=>by exact(by exact cJ rfl lA rfl ((hH _ rfl).trans rfl) rfl rfl))) rfl ?_;refine bT (r:=⟨_,some [1],[]⟩) (c8 rfl rfl rfl (by rfl) (fun H1 hH=>by exact(by exact aR rfl isAgg9 rfl ((hH _ rfl).trans rfl) rfl rfl rfl))) rfl ?_;refine bT (r:=⟨_,some [],[]⟩) (c8 rfl rfl rfl (by rfl) (fun H1 hH=>by exact(by exact aT ([e.key].map encStr) rfl cC rfl rfl rfl rfl rfl (by simp [encStr])))) rfl ?_;refine bT (r:=⟨_,some [],[]⟩) (c8 rfl rfl rfl (by rfl) (fun H1 hH=>by exact aA rfl rfl CZ rfl (aDW e.key _ h4))) rfl ?_;refine Cr [] (fun _ _=>dI)<|Cr [] (fun _ _=>aD)<|Ot<|Ot<|Ot<|Ot<|Cr [] (fun _ _=>rJ)<|Cr [3] (fun _ h=>fh lA h)<|Cp [3] (fun H1 hH=>by exact bW rfl sizeOf9 rfl rfl rfl ((hH _ rfl).trans rfl) rfl rfl (aJE rfl) rfl rfl)<|Cr [3] (fun _ h=>fh lX h)<|Cp [3] (fun H1 hH=>by exact bW rfl sizeOf9 rfl rfl rfl ((hH _ rfl).trans rfl) rfl rfl (aJE rfl) rfl rfl)<|Cr [] (fun _ _=>aO)<|bM<|Kr ?_;exact⟨rfl,⟨_,rfl,by rfl⟩,rfl,rfl,rfl⟩
   refine aU follows<|Cr [1] (fun _ h=>fh lA h)<|Cr [1] (fun _ h=>lh isAgg9 h)<|Cr [1] (fun _ h=>fh lX h)<|Cr [1] (fun _ h=>lh isAgg9 h)<|Cr [] (fun _ _=>aD)<|Cr [] (fun _ _=>aD) ?_;refine bT (r:=⟨_,some [1],[]⟩) (c8 rfl rfl rfl (by rfl) (fun H1 hH=>by exact(by exact cJ rfl lA rfl ((hH _ rfl).trans rfl) rfl rfl))) rfl ?_;refine bT (r:=⟨_,some [1],[]⟩) (c8 rfl rfl rfl (by rfl) (fun H1 hH=>by exact(by exact aR rfl isAgg9 rfl ((hH _ rfl).trans rfl) rfl rfl rfl))) rfl ?_;refine bT (r:=⟨_,some [],[]⟩) (c8 rfl rfl rfl (by rfl) (fun H1 hH=>by exact(by exact aT ([e.key].map encStr) rfl cC rfl rfl rfl rfl rfl (by simp [encStr])))) rfl ?_;refine bT (r:=⟨_,some [],[]⟩) (c8 rfl rfl rfl (by rfl) (fun H1 hH=>by exact aA rfl rfl CZ rfl (aDW e.key _ h4))) rfl ?_;refine Cr [] (fun _ _=>dI)<|Cr [] (fun _ _=>aD) ?_;refine bT (r:=⟨_,some [1],[]⟩) (c8 rfl rfl rfl (by assumption) (fun H1 hH=>by exact(by exact cJ rfl lX rfl ((hH _ rfl).trans rfl) rfl rfl))) rfl ?_;refine bT (r:=⟨_,some [1],[]⟩) (c8 rfl rfl rfl (by assumption) (fun H1 hH=>by exact(by exact aR rfl isAgg9 rfl ((hH _ rfl).trans rfl) rfl rfl rfl))) rfl ?_;refine bT (r:=⟨_,some [],[]⟩) (c8 rfl rfl rfl (by assumption) (fun H1 hH=>by exact ER rfl underlying9 rfl)) rfl ?_;refine bT (r:=⟨_,some [],[]⟩) (c8 rfl rfl rfl (by assumption) (fun H1 hH=>by exact F1 rfl rfl rfl)) rfl ?_;refine Cr [] (fun _ _=>xI)<|Cr [3] (fun _ h=>fh lA h)<|Cp [3] (fun H1 hH=>by exact bW rfl sizeOf9 rfl rfl rfl ((hH _ rfl).trans rfl) rfl rfl (aJE rfl) rfl rfl)<|Cr [3] (fun _ h=>fh lX h)<|Cp [3] (fun H1 hH=>by exact bW rfl sizeOf9 rfl rfl rfl ((hH _ rfl).trans rfl) rfl rfl (aJE rfl) rfl rfl)<|Cr [] (fun _ _=>aO)<|bM<|Kr ?_;exact⟨rfl,⟨_,rfl,by rfl⟩,rfl,rfl,rfl⟩
  refine Sq ?_;refine bD (t:=2) (n:=8) (X:=(bU e.id&&bU e.key&&decide ((e.val.size:Int)≤200))&&kD ⟨e.op,e.id,aP,aP,0,0,e.key,e.val,[],zObj⟩ e) ?_ ?_
  ·all_goals refine Dd aD ?_
   all_goals refine Dm ?_
   all_goals refine Sp 127 (fun h127=>?_) fun h127=>?_
   all_goals try contradiction
   all_goals first|refine Fo<|Fo<|Fo ?_|refine On (by exact aI rfl bA aL rfl rfl rfl rfl (by simp only [Zl,aQ,aG,encStr,aJ,zObj];rfl) rfl)<|On (by exact aI rfl bA aL rfl rfl rfl rfl (by simp only [Zl,aQ,aG,encStr,aJ,zObj];rfl) rfl)<|On (by exact aA rfl rfl wV rfl (vP ⟨e.op,e.id,aP,aP,0,0,e.key,e.val,[],zObj⟩ e _ (by(show 0 < _;omega)) LA)) ?_
   all_goals refine Dd dI<|Da ?_
   all_goals(exact⟨⟨_,rfl,by(rw [h127];rfl)⟩,rfl,rfl,rfl⟩)
  refine aC<|Rt ?_;exact⟨by rw [hv],rfl⟩
 have ho3:¬ e.op=3:=aIo hc3;refine Sr<|Dd cI<|Da ?_;refine Cn ?_ ?_<;>intro hc4
 ·have ho:e.op=4:=aIn hc4;have hx:vB e=⟨e.op,e.id,aP,aP,0,0,aP,aP,e.refs,zObj⟩:=by rw [vB,aIp ho1,aIp ho2,aIp ho3,aIq ho]
  have hk:lU e=(bU e.id&&(decide ((0:Int) < (e.refs.length:Int))&&decide ((e.refs.length:Int)≤2000)&&e.refs.all bU)):=by rw [lU,aIp ho1,aIp ho2,aIp ho3,aIq ho]
  have hb:(bU e.id&&decide ((0:Int) < ((e.refs.map encStr).length:Int))&&decide (((e.refs.map encStr).length:Int)≤2000)&&e.refs.all bU)=(bU e.id&&(decide ((0:Int) < (e.refs.length:Int))&&decide ((e.refs.length:Int)≤2000)&&e.refs.all bU)):=by rw [hrl];simp only [Bool.and_assoc]
  have hv:dA e=((bU e.id&&decide ((0:Int) < ((e.refs.map encStr).length:Int))&&decide (((e.refs.map encStr).length:Int)≤2000)&&e.refs.all bU)&&kD ⟨e.op,e.id,aP,aP,0,0,aP,aP,e.refs,zObj⟩ e):=by rw [dA,hx,hk,hb,ho];rfl
  apply sG (t:=4) (n:=22) (X:=bU e.id&&decide ((0:Int) < ((e.refs.map encStr).length:Int))&&decide (((e.refs.map encStr).length:Int)≤2000)&&e.refs.all bU)
  ·cases hg77:(bU e.id:Bool)
   ·refine aU follows<|Cr [1] (fun _ h=>fh gA h)<|Cr [1] (fun _ h=>lh aV h)<|Cr [] (fun _ _=>aD)<|Cr [] (fun _ _=>aD)<|Ot<|Ot<|Ot<|Ot<|Cr [] (fun _ _=>dI)<|Cr [] (fun _ _=>aD)<|Ot<|Ot<|Ot<|Ot<|Cr [] (fun _ _=>dI)<|Cr [] (fun _ _=>aD)<|Ot<|Ot<|Ot<|Cr [] (fun _ _=>dI)<|Cr [3] (fun _ h=>fh gA h)<|Cp [3] (fun H1 hH=>by exact bW rfl sizeOf46 rfl rfl rfl ((hH _ rfl).trans rfl) rfl rfl (aJE rfl) rfl rfl)<|Cr [] (fun _ _=>aO)<|bM<|Kr ?_;exact⟨rfl,⟨_,rfl,by rfl⟩,rfl,rfl,rfl⟩
   cases hg83:(decide ((0:Int) < ((e.refs.map encStr).length:Int)):Bool)
   ·refine aU follows<|Cr [1] (fun _ h=>fh gA h)<|Cr [1] (fun _ h=>lh aV h)<|Cr [] (fun _ _=>aD)<|Cr [] (fun _ _=>aD) ?_;refine bT (r:=⟨_,some [1],[]⟩) (c8 rfl rfl rfl (by rfl) (fun H1 hH=>by exact(by exact cJ rfl gA rfl ((hH _ rfl).trans rfl) rfl rfl))) rfl ?_;refine bT (r:=⟨_,some [1],[]⟩) (c8 rfl rfl rfl (by rfl) (fun H1 hH=>by exact(by exact aR rfl aV rfl ((hH _ rfl).trans rfl) rfl rfl rfl))) rfl ?_;refine bT (r:=⟨_,some [],[]⟩) (c8 rfl rfl rfl (by rfl) (fun H1 hH=>by exact(by exact o8 rfl aK rfl))) rfl ?_;refine bT (r:=⟨_,some [],[]⟩) (c8 rfl rfl rfl (by rfl) (fun H1 hH=>by exact F2 rfl rfl rfl)) rfl ?_;refine Cr [] (fun _ _=>dI)<|Cr [] (fun _ _=>aD)<|Ot<|Ot<|Ot<|Ot<|Cr [] (fun _ _=>rJ)<|Cr [] (fun _ _=>aD)<|Ot<|Ot<|Ot<|Cr [] (fun _ _=>dI)<|Cr [3] (fun _ h=>fh gA h)<|Cp [3] (fun H1 hH=>by exact bW rfl sizeOf46 rfl rfl rfl ((hH _ rfl).trans rfl) rfl rfl (aJE rfl) rfl rfl)<|Cr [] (fun _ _=>aO)<|bM<|Kr ?_;exact⟨rfl,⟨_,rfl,by rfl⟩,rfl,rfl,rfl⟩
   cases hg89:(decide (((e.refs.map encStr).length:Int)≤2000):Bool)
   ·refine aU follows<|Cr [1] (fun _ h=>fh gA h)<|Cr [1] (fun _ h=>lh aV h)<|Cr [] (fun _ _=>aD)<|Cr [] (fun _ _=>aD) ?_;refine bT (r:=⟨_,some [1],[]⟩) (c8 rfl rfl rfl (by rfl) (fun H1 hH=>by exact(by exact cJ rfl gA rfl ((hH _ rfl).trans rfl) rfl rfl))) rfl ?_;refine bT (r:=⟨_,some [1],[]⟩) (c8 rfl rfl rfl (by rfl) (fun H1 hH=>by exact(by exact aR rfl aV rfl ((hH _ rfl).trans rfl) rfl rfl rfl))) rfl ?_;refine bT (r:=⟨_,some [],[]⟩) (c8 rfl rfl rfl (by rfl) (fun H1 hH=>by exact(by exact o8 rfl aK rfl))) rfl ?_;refine bT (r:=⟨_,some [],[]⟩) (c8 rfl rfl rfl (by rfl) (fun H1 hH=>by exact F2 rfl rfl rfl)) rfl ?_;refine Cr [] (fun _ _=>dI)<|Cr [] (fun _ _=>aD) ?_;refine bT (r:=⟨_,some [1],[]⟩) (c8 rfl rfl rfl (by assumption) (fun H1 hH=>by exact(by exact cJ rfl gA rfl ((hH _ rfl).trans rfl) rfl rfl))) rfl ?_;refine bT (r:=⟨_,some [1],[]⟩) (c8 rfl rfl rfl (by assumption) (fun H1 hH=>by exact(by exact aR rfl aV rfl ((hH _ rfl).trans rfl) rfl rfl rfl))) rfl ?_;refine bT (r:=⟨_,some [],[]⟩) (c8 rfl rfl rfl (by assumption) (fun H1 hH=>by exact(by exact o8 rfl aK rfl))) rfl ?_;refine bT (r:=⟨_,some [],[]⟩) (c8 rfl rfl rfl (by assumption) (fun H1 hH=>by exact F1 rfl rfl rfl)) rfl ?_;refine Cr [] (fun _ _=>xI)<|Cr [] (fun _ _=>aD)<|Ot<|Ot<|Ot<|Cr [] (fun _ _=>rJ)<|Cr [3] (fun _ h=>fh gA h)<|Cp [3] (fun H1 hH=>by exact bW rfl sizeOf46 rfl rfl rfl ((hH _ rfl).trans rfl) rfl rfl (aJE rfl) rfl rfl)<|Cr [] (fun _ _=>aO)<|bM<|Kr ?_;exact⟨rfl,⟨_,rfl,by rfl⟩,rfl,rfl,rfl⟩
   refine aU follows<|Cr [1] (fun _ h=>fh gA h)<|Cr [1] (fun _ h=>lh aV h)<|Cr [] (fun _ _=>aD)<|Cr [] (fun _ _=>aD) ?_;refine bT (r:=⟨_,some [1],[]⟩) (c8 rfl rfl rfl (by rfl) (fun H1 hH=>by exact(by exact cJ rfl gA rfl ((hH _ rfl).trans rfl) rfl rfl))) rfl ?_;refine bT (r:=⟨_,some [1],[]⟩) (c8 rfl rfl rfl (by rfl) (fun H1 hH=>by exact(by exact aR rfl aV rfl ((hH _ rfl).trans rfl) rfl rfl rfl))) rfl ?_;refine bT (r:=⟨_,some [],[]⟩) (c8 rfl rfl rfl (by rfl) (fun H1 hH=>by exact(by exact o8 rfl aK rfl))) rfl ?_;refine bT (r:=⟨_,some [],[]⟩) (c8 rfl rfl rfl (by rfl) (fun H1 hH=>by exact F2 rfl rfl rfl)) rfl ?_;refine Cr [] (fun _ _=>dI)<|Cr [] (fun _ _=>aD) ?_;refine bT (r:=⟨_,some [1],[]⟩) (c8 rfl rfl rfl (by assumption) (fun H1 hH=>by exact(by exact cJ rfl gA rfl ((hH _ rfl).trans rfl) rfl rfl))) rfl ?_;refine bT (r:=⟨_,some [1],[]⟩) (c8 rfl rfl rfl (by assumption) (fun H1 hH=>by exact(by exact aR rfl aV rfl ((hH _ rfl).trans rfl) rfl rfl rfl))) rfl ?_;refine bT (r:=⟨_,some [],[]⟩) (c8 rfl rfl rfl (by assumption) (fun H1 hH=>by exact(by exact o8 rfl aK rfl))) rfl ?_;refine bT (r:=⟨_,some [],[]⟩) (c8 rfl rfl rfl (by assumption) (fun H1 hH=>by exact F1 rfl rfl rfl)) rfl ?_;refine Cr [] (fun _ _=>xI)<|Cr [] (fun _ _=>aD) ?_;refine bT (r:=⟨_,some [1],[]⟩) (c8 rfl rfl rfl (by assumption) (fun H1 hH=>by exact(by exact cJ rfl gA rfl ((hH _ rfl).trans rfl) rfl rfl))) rfl ?_;refine bT (r:=⟨_,some [1],[]⟩) (c8 rfl rfl rfl (by assumption) (fun H1 hH=>by exact(by exact aR rfl aV rfl ((hH _ rfl).trans rfl) rfl rfl rfl))) rfl ?_;refine bT (r:=⟨_,some [],[]⟩) (c8 rfl rfl rfl (by assumption) (fun H1 hH=>by exact aA rfl rfl CZ rfl (NG e.refs _ h5 h6))) rfl ?_;refine Cr [] (fun _ _=>xI)<|Cr [3] (fun _ h=>fh gA h)<|Cp [3] (fun H1 hH=>by exact bW rfl sizeOf46 rfl rfl rfl ((hH _ rfl).trans rfl) rfl rfl (aJE rfl) rfl rfl)<|Cr [] (fun _ _=>aO)<|bM<|Kr ?_;exact⟨rfl,⟨_,rfl,by rfl⟩,rfl,rfl,rfl⟩
  refine Sq ?_;refine bD (t:=2) (n:=8) (X:=(bU e.id&&decide ((0:Int) < ((e.refs.map encStr).length:Int))&&decide (((e.refs.map encStr).length:Int)≤2000)&&e.refs.all bU)&&kD ⟨e.op,e.id,aP,aP,0,0,aP,aP,e.refs,zObj⟩ e) ?_ ?_
  ·all_goals refine Dd aD ?_
   all_goals refine Dm ?_
   all_goals refine Sp 127 (fun h127=>?_) fun h127=>?_
   all_goals try contradiction
   all_goals first|refine Fo<|Fo<|Fo ?_|refine On (by exact aI rfl bA aL rfl rfl rfl rfl (by simp only [Zl,aQ,aG,encStr,aJ,zObj];rfl) rfl)<|On (by exact aI rfl bA aL rfl rfl rfl rfl (by simp only [Zl,aQ,aG,encStr,aJ,zObj];rfl) rfl)<|On (by exact aA rfl rfl wV rfl (vP ⟨e.op,e.id,aP,aP,0,0,aP,aP,e.refs,zObj⟩ e _ (by exact h5) LA)) ?_
   all_goals refine Dd dI<|Da ?_
   all_goals(exact⟨⟨_,rfl,by(rw [h127];rfl)⟩,rfl,rfl,rfl⟩)
  refine aC<|Rt ?_;exact⟨by rw [hv],rfl⟩
 have ho4:¬ e.op=4:=aIo hc4;refine Sr<|Dd cI<|Da ?_;refine Cn ?_ ?_<;>intro hc5
 ·have ho:e.op=5:=aIn hc5;have hx:vB e=⟨e.op,e.id,aP,aP,0,0,aP,aP,[],zObj⟩:=by rw [vB,aIp ho1,aIp ho2,aIp ho3,aIp ho4,aIq ho]
  have hk:lU e=(bU e.id):=by rw [lU,aIp ho1,aIp ho2,aIp ho3,aIp ho4,aIq ho];simp
  have hv:dA e=((bU e.id)&&kD ⟨e.op,e.id,aP,aP,0,0,aP,aP,[],zObj⟩ e):=by rw [dA,hx,hk,ho];rfl
  refine aB<|Sq ?_;refine bD (t:=2) (n:=8) (X:=(bU e.id)&&kD ⟨e.op,e.id,aP,aP,0,0,aP,aP,[],zObj⟩ e) ?_ ?_
  ·all_goals refine Dd aD ?_
   all_goals refine Dm ?_
   all_goals refine Sp 127 (fun h127=>?_) fun h127=>?_
   all_goals try contradiction
   all_goals first|refine Fo<|Fo<|Fo ?_|refine On (by exact aI rfl bA aL rfl rfl rfl rfl (by simp only [Zl,aQ,aG,encStr,aJ,zObj];rfl) rfl)<|On (by exact aI rfl bA aL rfl rfl rfl rfl (by simp only [Zl,aQ,aG,encStr,aJ,zObj];rfl) rfl)<|On (by exact aA rfl rfl wV rfl (vP ⟨e.op,e.id,aP,aP,0,0,aP,aP,[],zObj⟩ e _ (by(show 0 < _;omega)) LA)) ?_
   all_goals refine Dd dI<|Da ?_
   all_goals(exact⟨⟨_,rfl,by(rw [h127];rfl)⟩,rfl,rfl,rfl⟩)
  refine aC<|Rt ?_;exact⟨by rw [hv],rfl⟩
 have ho5:¬ e.op=5:=aIo hc5;refine Sr<|Dd cI<|Da ?_;refine Cn ?_ ?_<;>intro hc6
 ·have ho:e.op=6:=aIn hc6;have hx:vB e=⟨e.op,e.id,e.other,e.node,0,0,aP,aP,[],zObj⟩:=by rw [vB,aIp ho1,aIp ho2,aIp ho3,aIp ho4,aIp ho5,aIq ho]
  have hk:lU e=(bU e.id&&(bU e.node&&bU e.other)):=by rw [lU,aIp ho1,aIp ho2,aIp ho3,aIp ho4,aIp ho5,aIq ho]
  have hb:(bU e.id&&(bU e.node&&bU e.other))=(bU e.id&&(bU e.node&&bU e.other)):=by rfl
  have hv:dA e=((bU e.id&&(bU e.node&&bU e.other))&&kD ⟨e.op,e.id,e.other,e.node,0,0,aP,aP,[],zObj⟩ e):=by rw [dA,hx,hk,hb,ho];rfl
  apply sG (t:=4) (n:=16) (X:=bU e.id&&(bU e.node&&bU e.other))
  ·cases hg104:(bU e.id:Bool)
   ·refine aU follows<|Cr [1] (fun _ h=>fh lY h)<|Cr [1] (fun _ h=>lh isAgg9 h)<|Cr [1] (fun _ h=>fh fR h)<|Cr [1] (fun _ h=>lh isAgg9 h)<|Cr [] (fun _ _=>aD)<|Cr [] (fun _ _=>aD)<|Ot<|Ot<|Ot<|Ot<|Ot<|Ot<|Cr [] (fun _ _=>dI)<|Cr [3] (fun _ h=>fh lY h)<|Cp [3] (fun H1 hH=>by exact bW rfl sizeOf9 rfl rfl rfl ((hH _ rfl).trans rfl) rfl rfl (aJE rfl) rfl rfl)<|Cr [3] (fun _ h=>fh fR h)<|Cp [3] (fun H1 hH=>by exact bW rfl sizeOf9 rfl rfl rfl ((hH _ rfl).trans rfl) rfl rfl (aJE rfl) rfl rfl)<|Cr [] (fun _ _=>aO)<|bM<|Kr ?_;exact⟨rfl,⟨_,rfl,by rfl⟩,rfl,rfl,rfl⟩
   refine aU follows<|Cr [1] (fun _ h=>fh lY h)<|Cr [1] (fun _ h=>lh isAgg9 h)<|Cr [1] (fun _ h=>fh fR h)<|Cr [1] (fun _ h=>lh isAgg9 h)<|Cr [] (fun _ _=>aD)<|Cr [] (fun _ _=>aD) ?_;refine bT (r:=⟨_,some [1],[]⟩) (c8 rfl rfl rfl (by rfl) (fun H1 hH=>by exact(by exact cJ rfl lY rfl ((hH _ rfl).trans rfl) rfl rfl))) rfl ?_;refine bT (r:=⟨_,some [1],[]⟩) (c8 rfl rfl rfl (by rfl) (fun H1 hH=>by exact(by exact aR rfl isAgg9 rfl ((hH _ rfl).trans rfl) rfl rfl rfl))) rfl ?_;refine bT (r:=⟨_,some [1],[]⟩) (c8 rfl rfl rfl (by rfl) (fun H1 hH=>by exact(by exact cJ rfl fR rfl ((hH _ rfl).trans rfl) rfl rfl))) rfl ?_;refine bT (r:=⟨_,some [1],[]⟩) (c8 rfl rfl rfl (by rfl) (fun H1 hH=>by exact(by exact aR rfl isAgg9 rfl ((hH _ rfl).trans rfl) rfl rfl rfl))) rfl ?_;refine bT (r:=⟨_,some [],[]⟩) (c8 rfl rfl rfl (by rfl) (fun H1 hH=>by exact(by exact aT ([e.node,e.other].map encStr) rfl cC rfl rfl rfl rfl rfl (by simp [encStr])))) rfl ?_;refine bT (r:=⟨_,some [],[]⟩) (c8 rfl rfl rfl (by rfl) (fun H1 hH=>by exact aA rfl rfl CZ rfl (aHi e.node e.other _ h3 h2))) rfl ?_;refine Cr [] (fun _ _=>dI)<|Cr [3] (fun _ h=>fh lY h)<|Cp [3] (fun H1 hH=>by exact bW rfl sizeOf9 rfl rfl rfl ((hH _ rfl).trans rfl) rfl rfl (aJE rfl) rfl rfl)<|Cr [3] (fun _ h=>fh fR h)<|Cp [3] (fun H1 hH=>by exact bW rfl sizeOf9 rfl rfl rfl ((hH _ rfl).trans rfl) rfl rfl (aJE rfl) rfl rfl)<|Cr [] (fun _ _=>aO)<|bM<|Kr ?_;exact⟨rfl,⟨_,rfl,by rfl⟩,rfl,rfl,rfl⟩
  refine Sq ?_;refine bD (t:=2) (n:=8) (X:=(bU e.id&&(bU e.node&&bU e.other))&&kD ⟨e.op,e.id,e.other,e.node,0,0,aP,aP,[],zObj⟩ e) ?_ ?_
  ·all_goals refine Dd aD ?_
   all_goals refine Dm ?_
   all_goals refine Sp 127 (fun h127=>?_) fun h127=>?_
   all_goals try contradiction
   all_goals first|refine Fo<|Fo<|Fo ?_|refine On (by exact aI rfl bA aL rfl rfl rfl rfl (by simp only [Zl,aQ,aG,encStr,aJ,zObj];rfl) rfl)<|On (by exact aI rfl bA aL rfl rfl rfl rfl (by simp only [Zl,aQ,aG,encStr,aJ,zObj];rfl) rfl)<|On (by exact aA rfl rfl wV rfl (vP ⟨e.op,e.id,e.other,e.node,0,0,aP,aP,[],zObj⟩ e _ (by(show 0 < _;omega)) LA)) ?_
   all_goals refine Dd dI<|Da ?_
   all_goals(exact⟨⟨_,rfl,by(rw [h127];rfl)⟩,rfl,rfl,rfl⟩)
  refine aC<|Rt ?_;exact⟨by rw [hv],rfl⟩
 have ho6:¬ e.op=6:=aIo hc6;refine Sr<|Dd cI<|Da ?_;refine Cn ?_ ?_<;>intro hc7
 ·have ho:e.op=7:=aIn hc7;have hx:vB e=⟨e.op,e.id,e.other,aP,0,0,aP,aP,[],zObj⟩:=by rw [vB,aIp ho1,aIp ho2,aIp ho3,aIp ho4,aIp ho5,aIp ho6]
  have hk:lU e=(bU e.id&&bU e.other):=by rw [lU,aIp ho1,aIp ho2,aIp ho3,aIp ho4,aIp ho5,aIp ho6]
  have hb:(bU e.id&&bU e.other)=(bU e.id&&bU e.other):=by rfl
  have hv:dA e=((bU e.id&&bU e.other)&&kD ⟨e.op,e.id,e.other,aP,0,0,aP,aP,[],zObj⟩ e):=by rw [dA,hx,hk,hb,ho];rfl
  apply sG (t:=4) (n:=11) (X:=bU e.id&&bU e.other)
  ·cases hg119:(bU e.id:Bool)
   ·refine aU follows<|Cr [1] (fun _ h=>fh fR h)<|Cr [1] (fun _ h=>lh isAgg9 h)<|Cr [] (fun _ _=>aD)<|Cr [] (fun _ _=>aD)<|Ot<|Ot<|Ot<|Ot<|Cr [] (fun _ _=>dI)<|Cr [3] (fun _ h=>fh fR h)<|Cp [3] (fun H1 hH=>by exact bW rfl sizeOf9 rfl rfl rfl ((hH _ rfl).trans rfl) rfl rfl (aJE rfl) rfl rfl)<|Cr [] (fun _ _=>aO)<|bM<|Kr ?_;exact⟨rfl,⟨_,rfl,by rfl⟩,rfl,rfl,rfl⟩
   refine aU follows<|Cr [1] (fun _ h=>fh fR h)<|Cr [1] (fun _ h=>lh isAgg9 h)<|Cr [] (fun _ _=>aD)<|Cr [] (fun _ _=>aD) ?_;refine bT (r:=⟨_,some [1],[]⟩) (c8 rfl rfl rfl (by rfl) (fun H1 hH=>by exact(by exact cJ rfl fR rfl ((hH _ rfl).trans rfl) rfl rfl))) rfl ?_;refine bT (r:=⟨_,some [1],[]⟩) (c8 rfl rfl rfl (by rfl) (fun H1 hH=>by exact(by exact aR rfl isAgg9 rfl ((hH _ rfl).trans rfl) rfl rfl rfl))) rfl ?_;refine bT (r:=⟨_,some [],[]⟩) (c8 rfl rfl rfl (by rfl) (fun H1 hH=>by exact(by exact aT ([e.other].map encStr) rfl cC rfl rfl rfl rfl rfl (by simp [encStr])))) rfl ?_;refine bT (r:=⟨_,some [],[]⟩) (c8 rfl rfl rfl (by rfl) (fun H1 hH=>by exact aA rfl rfl CZ rfl (aDW e.other _ h2))) rfl ?_;refine Cr [] (fun _ _=>dI)<|Cr [3] (fun _ h=>fh fR h)<|Cp [3] (fun H1 hH=>by exact bW rfl sizeOf9 rfl rfl rfl ((hH _ rfl).trans rfl) rfl rfl (aJE rfl) rfl rfl)<|Cr [] (fun _ _=>aO)<|bM<|Kr ?_;exact⟨rfl,⟨_,rfl,by rfl⟩,rfl,rfl,rfl⟩
  refine Sq ?_;refine bD (t:=2) (n:=8) (X:=(bU e.id&&bU e.other)&&kD ⟨e.op,e.id,e.other,aP,0,0,aP,aP,[],zObj⟩ e) ?_ ?_
  ·all_goals refine Dd aD ?_
   all_goals refine Dm ?_
   all_goals refine Sp 127 (fun h127=>?_) fun h127=>?_
   all_goals try contradiction
   all_goals first|refine Fo<|Fo<|Fo ?_|refine On (by exact aI rfl bA aL rfl rfl rfl rfl (by simp only [Zl,aQ,aG,encStr,aJ,zObj];rfl) rfl)<|On (by exact aI rfl bA aL rfl rfl rfl rfl (by simp only [Zl,aQ,aG,encStr,aJ,zObj];rfl) rfl)<|On (by exact aA rfl rfl wV rfl (vP ⟨e.op,e.id,e.other,aP,0,0,aP,aP,[],zObj⟩ e _ (by(show 0 < _;omega)) LA)) ?_
   all_goals refine Dd dI<|Da ?_
   all_goals(exact⟨⟨_,rfl,by(rw [h127];rfl)⟩,rfl,rfl,rfl⟩)
  refine aC<|Rt ?_;exact⟨by rw [hv],rfl⟩
 have ho7:¬ e.op=7:=aIo hc7;refine Sr<|Dd aO<|Zz<|aC<|Rt ?_;refine⟨?_,rfl⟩;have:dA e=false:=by
  rw [dA,Bool.and_eq_false_iff];left;rw [Bool.and_eq_false_iff,aIz,aIz];omega
 rw [this]
theorem IY (e:GEdit) (H:aE) (he:tQ e):aH Tryz.prog 42 [av (aJ e)] H (fun r H'=>r=bv (!dA e)∧H'=H):=by refine Pu ?_;exact Bd func42 rfl ntmps42<|Sr<|Dd (by exact cE (id:=1) rfl rfl rfl rfl rfl)<|Dd aO<|Zz<|Sr<|Dd (by exact aI rfl bA aL rfl rfl rfl rfl (by simp only [Zl,aQ,aG,encStr,aJ,zObj];rfl) rfl)<|Dd (by exact aA rfl rfl aIe rfl (x3 e _ he))<|Dd jU<|Dd aO<|Zz<|aC<|Rt<|Qq
def eW (l:List GEdit):Bool:=decide ((0:Int) < (l.length:Int))&&decide ((l.length:Int)≤200)&&!(l.any (fun e=>!dA e))
theorem pT (l:List GEdit) (H:aE) (hl:l.length < 4611686018427387904) (he:∀ e∈l,tQ e):aH Tryz.prog 15 [.pv (cD l)] H (fun r H'=>r=bv (eW l)∧H'=H):=by
 refine Pu ?_;have hml:(l.map aJ).length=l.length:=aIr _;refine Bd func15 rfl ntmps15<|Sr<|Dd aO<|Zz<|Sq ?_;refine bD (t:=2) (n:=16) (X:=decide ((0:Int) < ((l.map aJ).length:Int))&&decide (((l.map aJ).length:Int)≤200)&&!(l.any (fun e=>!dA e))) ?_ ?_
 ·all_goals refine Dd aD ?_
  all_goals refine Dd (fK cB)<|Dd kC<|Dm ?_
  all_goals refine Sp 6 (fun h6=>?_) fun h6=>?_
  all_goals try contradiction
  all_goals first|refine Fo<|Fo<|Fo ?_|refine On aD<|On (fK cB)<|On JK ?_
  all_goals refine Dd dI<|Dm ?_
  all_goals refine Sp 11 (fun h11=>?_) fun h11=>?_
  all_goals try contradiction
  all_goals first|refine Fo<|Fo<|Fo ?_|refine On aD<|On (by exact aA rfl rfl call41 rfl (A1 (.pv (.fn 42)) l (fun e=>!dA e) _ hl (fun e h=>dN.fn call42 (IY e _ (he e h)))))<|On jU ?_
  all_goals refine Dd dI<|Da ?_
  all_goals(exact⟨⟨_,rfl,by first|(simp_all;done)|(simp_all;omega)⟩,rfl,rfl,rfl⟩)
 refine aC<|Rt ?_;exact⟨by rw [eW,hml],rfl⟩
theorem aDo (o:GObj) (id:ByteArray) (H:aE) (T:Nat) (h3:H.get 3=some (bx 1 T [sv id])) (h9:H.get 972=none) (hc:dF H) :
  aH Tryz.prog 105 [av (aG o),.ref 3 0 0 0] H (fun r H'=>r=bv (oJ id o)∧H'=H):=by
 have h3':aE.get ((972,bx 6 49 ((aG o).map .pv))::H) 3=some (bx 1 T [sv id]):=h3;refine Bd func105 rfl ntmps105<|Sr<|Dd (by exact cE (id:=972) rfl rfl rfl rfl h9)<|Dd aO<|Zz<|Sr<|Dd (bH eK)<|Dd (cA isAgg9)<|Dd (by exact aR rfl isAgg9 rfl h3' rfl rfl rfl)<|Dd sQ<|Dd aO<|Zz<|aC ?_;refine cZ (H':=H) (.inr rfl) rfl (aN rfl) (Fin.pops [(972,bx 6 49 ((aG o).map .pv))] (by simp) hc (by simp [h9])) ⟨rfl,rfl⟩
theorem AU (m:List GObj) (id:ByteArray) (H:aE) (hm:m.length < 4611686018427387904):aH Tryz.prog 54 [.agg [.pv (cO m)],sv id] H (fun r H'=>r=iv (jY (oJ id) m)∧H'=H):=by
 refine Pu ?_;have hf:∀ o,o∈m→dN Tryz.prog (.clo 105 [.ref 3 0 0 0]) [.agg ((aG o).map .pv)] [(3,bx 1 9 [sv id]),(2,bx 1 38 [.pv (cO m)])] (fun r H'=>r=bv (oJ id o)∧H'=[(3,bx 1 9 [sv id]),(2,bx 1 38 [.pv (cO m)])]) :=
  fun o _=>dN.clo call105 (aDo o id _ 9 rfl rfl (dF.of (by simp)))
 exact Bd func54 rfl ntmps54<|Sr<|Dd (by exact cE (id:=2) rfl rfl rfl rfl rfl)<|Dd (by exact cE (id:=3) rfl rfl rfl rfl rfl)<|Dd aO<|Zz<|Sr<|Dd (bH gZ)<|Dd (cA dJ)<|Dd (by exact fU rfl rfl)<|Dd (by exact aA rfl rfl call104 rfl (xR _ m (oJ id) _ hm hf))<|Dd aO<|Zz<|aC<|Rt<|Qq
end Go.Proofs.YtlnfjkdacimblaaGreatDoor
namespace Go.Abs
section
section
variable {P:Program} {G0:aE} {N:Nat} {Q:Exit→dG→aE→Prop} {E:dG} {H:aE} {code:Code}
theorem Q8 {t id sz:Nat} {ty:TypeId} (hx:E.get t=some (.pv .nils)) (hid:H.get id=none) (hsz:Nat.blt 0 sz=true) (h:iB P G0 N code Q ((t,.osc id 0 0 0 0)::E) ((id,⟨0,sz,ty,[]⟩)::H)):iB P G0 N code Q E H:=by
 intro G hG a w hs;obtain ⟨I,ι,hr,hst,he⟩:=hs.rel;obtain ⟨v,hv,hvr⟩:=he t _ hx;have hz:0 < sz:=by simpa [Nat.blt_eq] using hsz
 obtain ⟨k1,k2⟩:=Rel.adopt (sz:=sz) (ty:=ty) hr hid hz;have hvn:v=.slice none 0 0:=by
  have:=hvr.pv_inv;cases this;rfl
 subst hvn;refine h G hG a w ⟨hs.defers,hs.size,I,_,k1,hst.trans k2,fun u x hu=>?_⟩;by_cases e:t=u
 ·subst e;rw [dG.get_cons_same] at hu;cases hu;exact⟨_,hv,.osc ⟨0,sz,ty,[]⟩ (get_cons_same _ _ _) (aIx _) rfl fun _=>⟨hz,aIx _,.inr ⟨by simp,rfl,rfl,rfl,rfl⟩⟩⟩
 rw [dG.get_cons_other _ _ e] at hu;obtain ⟨c,h1,h2⟩:=he u x hu;exact⟨c,h1,h2.mono hr k2⟩
end
section
variable {P:Program} {N:Nat} {o:Oper} {E:dG} {H:aE} {T:TypeId} {x y:Operand} {Q:AV→aE→Prop}
theorem M4 {F:FuncId} {f y:Operand} {at_:Array TypeId} {v:AV} (ho:o.op=.call {callee:=.value f,args:=#[.const (.slice none 0 0),y],argTypes:=at_}) (hf:aW E f=some (.pv (.fn F)))
  (hc:∀ (args:Array Value) (w:World),(callFunc F args).run P w=.ok (.enter F args) w) (hv:aW E y=some v) (h:aH P F [.pv .nils,v] H Q):OpR P N o E H Q:=by
 intro a w I ι _ _ hr he K QQ hk;have hfv:=(aM he hf).fn_inv;unfold Oper.wpW execOp;simp only [ho,resolve,hfv,Deferred.ofValue,Sem.run_bind,Sem.run_pure,Result.andThen_ok,invoke,hc,Oper.uponW_enter];refine(h I ι w _ hr (by simp) (fun i u b hu hb=>?_)).mono ?_
 ·match i with
  | 0=>simp [Act.eval] at hu hb;subst hu hb;exact .pv .nils
  | 1=>simp at hu hb;subst hu hb;exact aM he hv
  | i+2=>simp at hb
 rintro e w' ⟨r,H',I',ι',v,rfl,hq,k1,k2,k3⟩;exact hk v w' I' ι' r H' hq k1 k2 k3
end
theorem Rel.cut {I:Nat→Prop} {ι:fF} {H H':aE} {w:World} {id k n:Nat} {ob:Ob} (hr:Rel I ι H w) (hH:H.get id=some ob) (hg:ob.g < k) (hz:0 < ob.sz)
  (h1:H'.get id=some ⟨k,ob.sz,ob.ty,ob.rows.take n⟩) (h2:∀ j,j≠id→H'.get j=H.get j):Rel I ι H' w∧Step I ι H w I ι H' w:=by
 have hst:Step I ι H w I ι H' w:=by
  refine⟨rfl,rfl,rfl,aIx _,fun a _ _=>rfl,fun _ h=>h,fun _ h=>.inl h,?_,fun _ _ _=>rfl,?_⟩
  ·rintro x ⟨j,o,c,hj,hc⟩;by_cases e:j=id
   ·subst e;exact .inl ⟨j,ob,c,hH,hc⟩
   exact .inl ⟨j,o,c,(h2 j e).symm.trans hj,hc⟩
  intro j o hj;by_cases e:j=id
  ·subst e;rw [hH] at hj;cases hj;exact⟨_,h1,Nat.le_of_lt hg,fun e=>absurd e (by simp only;omega)⟩
  exact⟨o,(h2 j e).trans hj,aIx _,fun _=>⟨rfl,rfl,fun _=>aIx _⟩⟩
 refine⟨⟨hr.imm,?_,?_,hst.glob hr⟩,hst⟩
 ·intro j o hj;by_cases e:j=id
  ·subst e;rw [h1] at hj;cases hj;obtain ⟨p1,p2,⟨b,cap,cs,e1,e2,e3,e4,e5,e5',e6⟩|⟨e1,e2⟩⟩:=(hr.obj j ob hH).cells hz
   ·refine .inl ⟨p1,fun r hr'=>p2 r (List.mem_of_mem_take hr'),.inl ⟨b,cap,cs,e1,e2,e3,e4,?_,e5',fun i r hi q a hq=>?_⟩⟩
    ·simp only [aJF];omega
    simp only [List.getElem?_take] at hi
    split at hi
    ·obtain ⟨v,q1,q2,q3⟩:=e6 i r hi q a hq;exact⟨v,q1,q2,q3.mono hr hst⟩
    cases hi
   exact .inl ⟨p1,fun r hr'=>p2 r (List.mem_of_mem_take hr'),.inr ⟨e1,by simp only [e2,List.take_nil]⟩⟩
  rw [h2 j e] at hj;exact(hr.obj j o hj).keep rfl (fun x c _ _=>⟨rfl,fun h=>h⟩) (fun r _ a _ v hv=>hv.mono hr hst)
 intro j j' o o' x c c' hj hj' hc hc';have key:∀ j o,H'.get j=some o→∃ o,H.get j=some o:=by
  intro j o hj;by_cases e:j=id
  ·exact⟨ob,e▸hH⟩
  exact⟨o,(h2 j e).symm.trans hj⟩
 obtain ⟨q,hq⟩:=key j o hj;obtain ⟨q',hq'⟩:=key j' o' hj';exact hr.inj j j' q q' x c c' hq hq' hc hc'
theorem Fin.trunc {G0 H:aE} {id k g n sz ty:Nat} {ob:Ob} {rows:List (List AV)} (hH:H.get id=some ob) (hg:ob.g=g) (hk:g < k) (hs:ob.sz=sz) (ht:ob.ty=ty) (hr:ob.rows.take n=rows):Fin G0 H (.osl id g 0 n) ((id,⟨k,sz,ty,rows⟩)::H) (.osl id k 0 n):=by
 intro G hG I ι w v h1 h2 h3;subst hg hs ht hr;have hz:=lS h3 hH rfl;obtain ⟨q1,q2⟩:=gH h3 hH rfl;obtain ⟨k2,k3⟩:=Rel.cut (H':=(id,⟨k,ob.sz,ob.ty,ob.rows.take n⟩)::H) h1 hH hk hz (get_cons_same _ _ _) (fun j hj=>get_cons_other _ _ hj);refine⟨I,ι,k2,h2.trans k3,?_⟩;have hone:v.oneCell'=true:=by
  rcases q2 with⟨b,cap,oo,_,e,_⟩|⟨_,e,_⟩<;>subst e<;>rfl
 exact .osl _ (get_cons_same _ _ _) (aIx _) hone fun _=>⟨hz,by simp only [aJF];omega,q2⟩
theorem aH.congrH {P:Program} {f:FuncId} {args:List AV} {H H1 H2:aE} {r0:AV} (h:aH P f args H (fun r H'=>r=r0∧H'=H1)) (he:∀ j,H2.get j=H1.get j):aH P f args H (fun r H'=>r=r0∧H'=H2):=by intro I ι w vs hr hl hv;refine(h I ι w vs hr hl hv).mono ?_;rintro e w' ⟨r,H',I',ι',v,rfl,⟨rfl,rfl⟩,k1,k2,k3⟩;obtain ⟨q1,q2⟩:=k2.congr he;exact⟨r,H2,I',ι',v,rfl,⟨rfl,rfl⟩,k1.mono k2 q2,q1,k3.trans q2⟩
theorem aH.frameS {P:Program} {f:FuncId} {args:List AV} {H0 H:aE} {r0:AV} (h:aH P f args H0 (fun r H'=>r=r0∧H'=H0)) (hs:Sub H0 H) (hc:dF H0) (ha:∀ a∈args,Clo H0 a):aH P f args H (fun r H'=>r=r0∧H'=H):=by
 refine(aH.frame h hs hc ha (fun id hi=>.inl hi)).congrH fun j=>?_;rw [jQ];cases e:H0.get j with
 | some o=>exact hs j o e
 | none=>rfl
theorem Sub.of2 {i j:Nat} {a b:Ob} {H:aE} (h1:H.get i=some a) (h2:H.get j=some b):Sub [(i,a),(j,b)] H:=by
 intro id o ho;simp only [aE.get] at ho;cases e1:Nat.beq i id with
 | true =>
  rw [e1] at ho;have:=Nat.eq_of_beq_eq_true e1;subst this;cases ho;exact h1
 | false =>
  rw [e1] at ho;cases e2:Nat.beq j id with
  | true =>
   rw [e2] at ho;have:=Nat.eq_of_beq_eq_true e2;subst this;cases ho;exact h2
  | false=>rw [e2] at ho;cases ho
end
end Go.Abs
namespace Go.Proofs.YtlnfjkdacimblaaGreatDoor
open Go.Proofs.Tryz
open Go.Abs
theorem aBJ (l:List ByteArray) (s:ByteArray) (H:aE) (hl:l.length < 4611686018427387904):aH Tryz.prog 245 [.pv (cS l),sv s] H (fun r H'=>r=iv (jY (fun x=>decide (s=x)) l)∧H'=H):=by
 refine Pu ?_;have hml:(l.map encStr).length=l.length:=aIr _;refine Bd func245 rfl ntmps245<|Sr<|Dd aO<|Zz<|Sq<|Sr<|Dd aD<|Dd (fK aK)<|Dd aD<|Zz<|aF ?_;refine bG (σ:=Nat) (fun k=>([(0,.pv (cS l)),(1,sv s),(7,iv ((l.map encStr).length:Int)),(8,iv (k:Int))],[])) (fun k=>k≤l.length∧∀ j,j < k→∀ b,l[j]?=some b→decide (s=b)=false) (fun k=>l.length - k) 0 ⟨by omega,by omega⟩ ?_ ?_
 ·exact E0
 rintro k ⟨hk,hno⟩;refine Sr<|Dd dD<|Zz<|Sq ?_;refine Cn ?_ ?_<;>intro hc1
 ·have hlt:k < l.length:=by have:=aIn hc1;omega
  obtain ⟨o,ho⟩:=aX hlt;have hi:=bZ (f:=encStr) ho;refine aB<|Sq<|aF<|Sr<|Dd aD<|Dd aO<|Zz<|Sr<|Dd aD<|Dd aD<|Dd aD<|Dd (e8 cC)<|Dd (fM isAgg9)<|Dd sQ<|Zz ?_;refine Cn ?_ ?_<;>intro hc2
  ·refine Sr<|Dd aD<|Dd aO<|Zz<|aC<|Rt ?_;exact⟨by rw [jY,pE hno ho hc2],rfl⟩
  refine aB<|Rg<|Dd eL<|Dd aD<|Zz ?_;exact⟨k+1,⟨by omega,j7 hno ho hc2⟩,by omega,E0⟩
 have hge:k=l.length:=by have:=aIo hc1;omega
 subst hge;refine aZ<|Sr<|Dd aO<|Zz<|aC<|Rt ?_;exact⟨by rw [jY,pF hno],rfl⟩
theorem aBM (l:List ByteArray) (s:ByteArray):l.any (fun x=>decide (s=x))=mH l s:=by rw [mH];congr 1;funext x;rw [Bool.eq_iff_iff,aIy,aIy];exact eq_comm
theorem QV (l:List ByteArray) (s:ByteArray) (H:aE) (hl:l.length < 4611686018427387904):aH Tryz.prog 212 [.pv (cS l),sv s] H (fun r H'=>r=bv (mH l s)∧H'=H):=by refine Pu ?_;refine Bd func212 rfl ntmps212<|Sr<|Dd aO<|Zz<|Sr<|Dd aD<|Dd aD<|Dd (by exact aA rfl rfl call245 rfl (aBJ l s _ hl))<|Dd wP<|Dd aO<|Zz<|aC<|Rt ?_;exact⟨by rw [uZ,aBM],rfl⟩
theorem aBK (l:List Int) (s:Int) (H:aE) (hl:l.length < 4611686018427387904):aH Tryz.prog 202 [.pv (DE l),iv s] H (fun r H'=>r=iv (jY (fun x=>decide (s=x)) l)∧H'=H):=by
 refine Pu ?_;have hml:(l.map encInt).length=l.length:=aIr _;refine Bd func202 rfl ntmps202<|Sr<|Dd aO<|Zz<|Sq<|Sr<|Dd aD<|Dd (fK oP)<|Dd aD<|Zz<|aF ?_;refine bG (σ:=Nat) (fun k=>([(0,.pv (DE l)),(1,iv s),(7,iv ((l.map encInt).length:Int)),(8,iv (k:Int))],[])) (fun k=>k≤l.length∧∀ j,j < k→∀ b,l[j]?=some b→decide (s=b)=false) (fun k=>l.length - k) 0 ⟨by omega,by omega⟩ ?_ ?_
 ·exact E0
 rintro k ⟨hk,hno⟩;refine Sr<|Dd dD<|Zz<|Sq ?_;refine Cn ?_ ?_<;>intro hc1
 ·have hlt:k < l.length:=by have:=aIn hc1;omega
  obtain ⟨o,ho⟩:=aX hlt;have hi:=bZ (f:=encInt) ho;refine aB<|Sq<|aF<|Sr<|Dd aD<|Dd aO<|Zz<|Sr<|Dd aD<|Dd aD<|Dd aD<|Dd (e8 lP)<|Dd (fM isAgg3)<|Dd cI<|Zz ?_;refine Cn ?_ ?_<;>intro hc2
  ·refine Sr<|Dd aD<|Dd aO<|Zz<|aC<|Rt ?_;exact⟨by rw [jY,pE hno ho hc2],rfl⟩
  refine aB<|Rg<|Dd eL<|Dd aD<|Zz ?_;exact⟨k+1,⟨by omega,j7 hno ho hc2⟩,by omega,E0⟩
 have hge:k=l.length:=by have:=aIo hc1;omega
 subst hge;refine aZ<|Sr<|Dd aO<|Zz<|aC<|Rt ?_;exact⟨by rw [jY,pF hno],rfl⟩
theorem QW (l:List Int) (s:Int) (H:aE) (hl:l.length < 4611686018427387904):aH Tryz.prog 161 [.pv (DE l),iv s] H (fun r H'=>r=bv (l.any (fun x=>decide (s=x)))∧H'=H):=by refine Pu ?_;refine Bd func161 rfl ntmps161<|Sr<|Dd aO<|Zz<|Sr<|Dd aD<|Dd aD<|Dd (by exact aA rfl rfl call202 rfl (aBK l s _ hl))<|Dd wP<|Dd aO<|Zz<|aC<|Rt ?_;exact⟨by rw [uZ],rfl⟩
def S1 (l:List ByteArray) (node:ByteArray):Int:=if decide (jY (fun x=>decide (node=x)) l≤0)||decide (jY (fun x=>decide (node=x)) l=(l.length:Int) - 1)||mH (l.drop ((jY (fun x=>decide (node=x)) l).toNat+1)) node then -1 else jY (fun x=>decide (node=x)) l
theorem CN (fv:AV) (l:List GObj) (p:GObj→Bool) (H:aE) (hl:l.length < 4611686018427387904) (hf:∀ o,o∈l→dN Tryz.prog fv [.agg ((aG o).map .pv)] H (fun r H'=>r=.pv (.bool (p o))∧H'=H)) :
  aH Tryz.prog 209 [.pv (.sl (l.map aG)),fv] H (fun r H'=>r=bv (l.any p)∧H'=H):=by
 refine Bd func209 rfl ntmps209<|Sr<|Dd aO<|Zz<|Sr<|Dd aD<|Dd aD<|Dd (by exact aA rfl rfl call104 rfl (xR fv l p _ hl hf))<|Dd wP<|Dd aO<|Zz<|aC ?_;refine cZ (H':=H) (.inr rfl) rfl (aN rfl) Fin.refl ?_;exact⟨by rw [← uZ],rfl⟩
def DF (routes:Bool) (ids:List ByteArray) (o:GObj):Bool:=(!routes||decide (4≤o.kind))&&o.refs.any (fun r=>mH ids r)
def QH (m:List GObj) (routes:Bool) (ids:List ByteArray):Bool:=m.any (DF routes ids)
theorem aAB (s:ByteArray) (ids:List ByteArray) (T:Nat) (H:aE) (h5:H.get 5=some (bx 1 T [.pv (cS ids)])) (hl:ids.length < 4611686018427387904):aH Tryz.prog 211 [sv s,.ref 5 0 0 0] H (fun r H'=>r=bv (mH ids s)∧H'=H):=by refine Bd func211 rfl ntmps211<|Sr<|Dd aO<|Zz<|Sr<|Dd (by exact aR rfl aV rfl h5 rfl rfl rfl)<|Dd aD<|Dd (by exact aA rfl rfl call212 rfl (QV ids s _ hl))<|Dd aO<|Zz<|aC ?_;refine cZ (H':=H) (.inr rfl) rfl (aN rfl) Fin.refl ?_;exact Qq
theorem aCv (o:GObj) (routes:Bool) (ids:List ByteArray) (T T2:Nat) (H:aE) (h4:H.get 4=some (bx 1 T [bv routes])) (h5:H.get 5=some (bx 1 T2 [.pv (cS ids)])) (h9:H.get 983=none) (hc:dF H) (hl:ids.length < 4611686018427387904) (ho:o.refs.length < 4611686018427387904) :
  aH Tryz.prog 210 [av (aG o),.ref 4 0 0 0,.ref 5 0 0 0] H (fun r H'=>r=bv (DF routes ids o)∧H'=H):=by
 have h4':aE.get ((983,bx 6 49 ((aG o).map .pv))::H) 4=some (bx 1 T [bv routes]):=h4;have h5':aE.get ((983,bx 6 49 ((aG o).map .pv))::H) 5=some (bx 1 T2 [.pv (cS ids)]):=h5;have hcf:=pS (.clo 211 [.ref 5 0 0 0]) o.refs (atP o.refs (fun r=>mH ids r)) (fun _=>(983,bx 6 49 ((aG o).map .pv))::H) ho (fun k s hk=>dN.clo call211 (by rw [CS hk];exact aAB s ids T2 _ h5' hl));rw [zH] at hcf;refine Bd func210 rfl ntmps210<|Sr<|Dd (by exact cE (id:=983) rfl rfl rfl rfl h9)<|Dd aO<|Zz<|Sq ?_;refine bD (t:=4) (n:=16) (X:=DF routes ids o) ?_ ?_
 ·all_goals refine Dd (by exact aR rfl N6 rfl h4' rfl rfl rfl) ?_
  all_goals refine Dd jU<|Dm ?_
  all_goals refine Sp 7 (fun h7=>?_) fun h7=>?_
  all_goals try contradiction
  all_goals first|refine Fo<|Fo<|Fo ?_|refine On (bH dT)<|On (cA isAgg3)<|On wP ?_
  all_goals refine Dd dI<|Dm ?_
  all_goals refine Sp 12 (fun h12=>?_) fun h12=>?_
  all_goals try contradiction
  all_goals first|refine Fo<|Fo<|Fo<|Fo ?_|refine On (bH dP)<|On (cA aV)<|On (by exact fU rfl rfl)<|On (by exact aA rfl rfl JD rfl (hcf)) ?_
  all_goals refine Dd dI<|Da ?_
  all_goals(exact⟨⟨_,rfl,by(cases routes<;>first|rfl|(exact absurd h7 (by decide))|(simp only [DF,h12,Bool.not_true,Bool.not_false,Bool.true_or,Bool.false_or,Bool.true_and,Bool.false_and];done))⟩,rfl,rfl,rfl⟩)
 refine aC ?_;refine cZ (H':=H) (.inr rfl) rfl (aN rfl) (Fin.pops [(983,bx 6 49 ((aG o).map .pv))] (by simp) hc (by simp [h9])) ⟨rfl,rfl⟩
theorem aB8 {f:FuncId} {args:List AV} {m:List GObj} {H:aE} {r0:AV} (h:aH Tryz.prog f args (cH m) (fun r H'=>r=r0∧H'=cH m)) (h14:H.get 14=some (x7 m)) (h12:H.get 12=some (J2 m)) (ha:∀ a∈args,Clo (cH m) a):aH Tryz.prog f args H (fun r H'=>r=r0∧H'=H) :=h.frameS (Sub.of2 h14 h12) (dF.ofL ⟨(by(simp;rfl)),(by exact gE _ _),trivial⟩) ha
theorem aA7 {m:List GObj} (hm:uQ m):∀ o,o∈m→o.refs.length < 4611686018427387904:=fun o ho=>(hm.2 o ho).2.2.1
theorem aCw (m:List GObj) (routes:Bool) (ids:List ByteArray) (hm:uQ m) (hl:ids.length < 4611686018427387904) :
  aH Tryz.prog 163 [.ref 14 0 0 0,bv routes,.pv (cS ids)] (cH m) (fun r H'=>r=bv (QH m routes ids)∧H'=cH m):=by
 have hf:∀ o,o∈m→dN Tryz.prog (.clo 210 [.ref 4 0 0 0,.ref 5 0 0 0]) [.agg ((aG o).map .pv)] ((5,bx 1 46 [.pv (cS ids)])::(4,bx 1 4 [bv routes])::cH m) (fun r H'=>r=bv (DF routes ids o)∧H'=(5,bx 1 46 [.pv (cS ids)])::(4,bx 1 4 [bv routes])::cH m) :=
  fun o ho=>dN.clo call210 (aCv o routes ids 4 46 _ rfl rfl rfl (dF.ofL ⟨(by(simp;done)),(by(simp;done)),(by(simp;rfl)),(by exact gE _ _),trivial⟩) hl (aA7 hm o ho))
 refine Bd func163 rfl ntmps163<|Sr<|Dd (by exact cE (id:=4) rfl rfl rfl rfl rfl)<|Dd (by exact cE (id:=5) rfl rfl rfl rfl rfl)<|Dd aO<|Zz<|Sr<|Dd aD<|Dd pY<|Dd (bH y0)<|Dd (bH gZ)<|Dd (cA dJ)<|Dd (by exact fU rfl rfl)<|Dd (by exact aA rfl rfl call209 rfl (CN _ m (DF routes ids) _ hm.1 hf))<|Dd aO<|Zz<|aC ?_;refine cZ (H':=(cH m)) (.inr rfl) rfl (aN rfl) (Fin.wk (by(simp;done)) (Ha<|Hc (gE _ _)<|trivial) ⟨rfl,rfl,trivial⟩) ?_;exact Qq
theorem aFJ (m:List GObj) (routes:Bool) (ids:List ByteArray) (H:aE) (h14:H.get 14=some (x7 m)) (h12:H.get 12=some (J2 m)) (hm:uQ m) (hl:ids.length < 4611686018427387904) :
  aH Tryz.prog 163 [.ref 14 0 0 0,bv routes,.pv (cS ids)] H (fun r H'=>r=bv (QH m routes ids)∧H'=H) :=
 aB8 (aCw m routes ids hm hl) h14 h12 (by simp;rfl)
theorem aFl (m:List GObj) (id:ByteArray) (o:GObj) (hm:uQ m) (ho:m.find? (oJ id)=some o) :
  aH Tryz.prog 160 [.ref 14 0 0 0,sv id] (cH m) (fun r H'=>r=av (aG o)∧H'=cH m):=by
 rcases sB (oJ id) m with⟨e1,e2⟩|⟨k,x,e1,e2,e3⟩
 ·rw [ho] at e2;cases e2
 rw [ho] at e3;cases e3;have hi:=bZ (f:=aG) e2;have hF:=fun H=>AU m id H hm.1;rw [e1] at hF;refine Bd func160 rfl ntmps160<|Sr<|Dd (by exact bJ (id:=4) rfl qU rfl rfl)<|Zz<|Sq<|aU follows<|Cr [14] (fun _ _=>aD)<|Cr [14] (fun H1 hH=>by exact dS rfl rfl ((hH _ rfl).trans rfl) rfl)<|Cr [14] (fun _ h=>fh y0 h)<|Cr [14] (fun _ h=>fh gZ h)<|Cr [14] (fun _ h=>lh dJ h)<|Cr [14] (fun _ _=>aD)<|Cr [14] (fun H1 hH=>by exact dS rfl rfl ((hH _ rfl).trans rfl) rfl)<|Cr [14] (fun _ h=>fh y0 h)<|Cr [14] (fun H1 hH=>by exact aI rfl bF sizeOf38 rfl ((hH _ rfl).trans rfl) rfl rfl rfl rfl)<|Cr [] (fun _ _=>aD)<|Cr [] (fun H1 hH=>by exact aA rfl rfl wY rfl (hF _))<|Cr [] (fun _ _=>(e8 iK))<|Cr [] (fun H1 hH=>by exact bQ rfl aY sizeOf49 rfl (by omega) (by simp only [Zl,aQ,aG,encStr,aJ,encInt];rfl) rfl)<|Cp [4] (fun H1 hH=>by exact cV rfl sizeOf49 rfl rfl rfl rfl ((hH _ rfl).trans rfl) rfl rfl rfl) ?_;refine bM<|Kr<|aC ?_;refine cZ (H':=(cH m)) (.inr rfl) rfl (k8 rfl aY sizeOf49 rfl rfl rfl (by simp only [Zl,aQ,aG,encStr,aJ,encInt];rfl) rfl) (Fin.wk (by(simp;done)) (Ha<|Hc (gE _ _)<|trivial) ⟨rfl,rfl,trivial⟩) ?_;exact Qq
theorem aE7 (m:List GObj) (id:ByteArray) (o:GObj) (H:aE) (h14:H.get 14=some (x7 m)) (h12:H.get 12=some (J2 m)) (hm:uQ m) (ho:m.find? (oJ id)=some o) :
  aH Tryz.prog 160 [.ref 14 0 0 0,sv id] H (fun r H'=>r=av (aG o)∧H'=H) :=
 aB8 (aFl m id o hm ho) h14 h12 (by simp;rfl)
theorem Fin.slice0 {H1:aE} {id g n:Nat} {ob:Ob} (ps:List (List PV)) (hH:H1.get id=some ob) (hg:ob.g=g) (hps:ob.rows=ps.map (·.map .pv)) (hn:ps.length=n) :
  Fin [] H1 (.osl id g 0 n) [] (.pv (.sl ps)):=by
 subst hg hn;exact Fin.fz (id:=id) (ob:=ob) ps hH hps (.osl (by rw [aJJ,List.drop_zero,List.take_length])) rfl trivial trivial
theorem BO (l:List ByteArray):∀ r∈l.map encStr,r.length=1:=fun r hr=>by
 obtain ⟨t,_,rfl⟩:=List.mem_map.1 hr;rfl
theorem ED (l:List ByteArray) (H:aE) (hl:l.length < 1099511627776):aH Tryz.prog 108 [.pv (.sl (l.map encStr))] H (fun r H'=>r=.pv (.sl (l.map encStr))∧H'=H):=by
 refine Pu ?_;have hml:(l.map encStr).length=l.length:=aIr _;refine Bd func108 rfl ntmps108<|Sr<|Dd aO<|Zz<|Sq<|Sr<|Dm ?_;refine TD rfl rfl (HI rfl aK rfl) ?_;rintro _ H2 ⟨e2,b,rfl,hb⟩;rw [e2];clear e2 H2;refine Zz ?_;refine Cn ?_ ?_<;>intro hc1
 ·have h0:=hb hc1;rw [h0];exact Sr<|Dd aO<|Zz<|aC<|Rt<|Qq
 refine aB<|Sr<|Dd (by exact eN (id:=901) rfl cC rfl rfl rfl rfl (by simp) rfl)<|Dd aD<|Dd (by exact c6 rfl cC E4 rfl rfl rfl rfl rfl rfl rfl (BO l) rfl (by omega) (aJJ _) (List.nil_append _))<|Dd aO<|Zz<|aC ?_;refine cZ (H':=[]) (.inr rfl) rfl (aN rfl) (Fin.slice0 (id:=901) (l.map encStr) rfl rfl rfl rfl) ?_;exact Qq
theorem IC (n:Nat) (H:aE) (h4:H.get 904=none) (h5:H.get 905=none) (hc:dF H) (hn:n < 1099511627776) :
  aH Tryz.prog 126 [.pv .nils,iv (n:Int)] H (fun r H'=>r=.osl 905 1 0 0∧H'=(905,⟨1,1,9,[]⟩)::H):=by
 refine Bd func126 rfl ntmps126 ?_;by_cases h0:n=0
 ·subst h0;refine Q8 (t:=0) (id:=905) (sz:=1) (ty:=9) rfl h5 rfl ?_;refine Sr<|Dd aO<|Zz<|Sq<|Sr<|Dd aD<|Dd dD<|Zz ?_;refine Cn ?_ ?_<;>intro hc1
  ·have h:=aIn hc1;omega
  refine aB<|Sq<|Sr<|Dd aD<|Dd aD<|Dd (by exact s7 rfl aK rfl rfl rfl)<|Dd aD<|Dd (by exact lT rfl aK rfl rfl rfl)<|Dd (by exact gC rfl rfl rfl (by exact OL (by omega) (by omega)))<|Dd (by exact gC rfl rfl rfl (by exact OL (by omega) (by omega)))<|Dd aO<|Zz<|Sr<|Dd aD<|Dd kC<|Zz ?_;refine Cn ?_ ?_<;>intro hc2
  ·have h:=aIn hc2;omega
  refine aB<|Sq ?_;refine u7 (t:=0) rfl rfl rfl (by decide) ?_;refine Rg<|Dd aD<|Dd aO<|Zz<|aC ?_;refine cZ (H':=((905,⟨1,1,9,[]⟩)::H)) (.inr rfl) rfl (aN rfl) ((Fin.bump (g:=0) (k:=1) rfl rfl (by decide) rfl rfl rfl).trans (Fin.get' (fun j=>pP _ _ _ _ j))) ?_;exact Qq
 refine Q8 (t:=0) (id:=904) (sz:=1) (ty:=9) rfl h4 rfl ?_;have h5':aE.get ((904,(⟨0,1,9,[]⟩:Ob))::H) 905=none:=h5;refine Sr<|Dd aO<|Zz<|Sq<|Sr<|Dd aD<|Dd dD<|Zz ?_;refine Cn ?_ ?_<;>intro hc3
 ·have h:=aIn hc3;omega
 refine aB<|Sq<|Sr<|Dd aD<|Dd aD<|Dd (by exact s7 rfl aK rfl rfl rfl)<|Dd aD<|Dd (by exact lT rfl aK rfl rfl rfl)<|Dd (by exact gC rfl rfl rfl (by exact OL (by omega) (by omega)))<|Dd (by exact gC rfl rfl rfl (by exact OL (by omega) (by omega)))<|Dd aO<|Zz<|Sr<|Dd aD<|Dd kC<|Zz ?_;refine Cn ?_ ?_<;>intro hc4
 ·refine Rg<|Dd aD<|Dd aD<|Dd (by exact s7 rfl aK rfl rfl rfl)<|Dd (by exact gL (l:=0) (h:=0) rfl cC rfl rfl rfl rfl rfl rfl (aIx _) (aIx _) rfl rfl rfl)<|Dd aD<|Dd (by exact w8 (id2:=905) (m:=n) rfl cC underlying3 E4 zo9 rfl rfl rfl rfl rfl (aIx _) rfl (by omega) (by omega) (by omega) (aJJ _) (by omega) h5' rfl)<|Dd aD<|Dd (by exact lT rfl aK rfl rfl rfl)<|Dd (by exact jK (l:=0) (h:=0) rfl cC rfl rfl rfl rfl rfl rfl (aIx _) (by omega) rfl rfl)<|Dd aO<|Zz<|Sr<|Dd aD<|Dd aO<|Zz<|aC ?_;refine cZ (H':=((905,⟨1,1,9,[]⟩)::H)) (.inr rfl) rfl (aN rfl) ((Fin.trunc (g:=0) (k:=1) (sz:=1) (ty:=9) (rows:=[]) rfl rfl (by decide) rfl rfl (List.take_zero)).trans (Fin.front' [_,_,_] [(905,⟨1,1,9,[]⟩)] (by simp;rfl) (by simp [h4,h5]) (by simp [aE.get]) (by simp) hc (by simp [h4,h5]))) ?_;exact Qq
 have h:=aIo hc4;omega
theorem EC (ls:List (List ByteArray)) (H:aE) (hls:ls.length < 1099511627776) (hb:ls.flatten.length < 1099511627776) :
  aH Tryz.prog 70 [.pv (.sl (ls.map (fun l=>[.sl (l.map encStr)])))] H (fun r H'=>r=.pv (.sl (ls.flatten.map encStr))∧H'=H):=by
 refine Pu ?_;have hml:(ls.map (fun l=>[PV.sl (l.map encStr)])).length=ls.length:=aIr _;have hpre:∀ k,((ls.take k).flatten).length≤ls.flatten.length:=fun k=>by
  conv=>rhs;rw [← List.take_append_drop k ls,List.flatten_append,aIs]
  omega
 have hst:∀ k l,ls[k]?=some l→(ls.take (k+1)).flatten=(ls.take k).flatten++l:=fun k l h=>by
  rw [List.take_add_one,h,List.flatten_append];simp
 refine Bd func70 rfl ntmps70<|Sr<|Dd aO<|Zz<|Sr<|Dd aO<|Zz<|Sq<|Sr<|Dd aD<|Dd (fK TJ)<|Dd aD<|Zz<|aF ?_;refine bG (σ:=Nat) (fun k=>([(0,.pv (.sl (ls.map (fun l=>[.sl (l.map encStr)])))),(3,iv (((ls.take k).flatten).length:Int)),(9,.pv (.sl (ls.map (fun l=>[.sl (l.map encStr)])))),(10,iv ((ls.map (fun l=>[PV.sl (l.map encStr)])).length:Int)),(11,iv (k:Int))],[])) (fun k=>k≤ls.length) (fun k=>ls.length - k) 0 (by omega) ?_ ?_
 ·exact E0
 intro k hk;refine Sr<|Dd dD<|Zz<|Sq ?_;refine Cn ?_ ?_<;>intro hc1
 ·have hlt:k < ls.length:=by have:=aIn hc1;omega
  obtain ⟨l,hl⟩:=aX hlt;have hi:=bZ (f:=fun l=>[PV.sl (l.map encStr)]) hl;have hml2:(l.map encStr).length=l.length:=aIr _;have h1:=hst k l hl;have h2:=hpre (k+1);have h3:((ls.take (k+1)).flatten).length=((ls.take k).flatten).length+l.length:=by rw [h1,aIs]
  have hw:IntKind.i64.wrap ((((ls.take k).flatten).length:Int)+((l.map encStr).length:Int))=(((ls.take (k+1)).flatten).length:Int):=by rw [IntKind.wrap_i64,hml2,h3];omega
  refine aB<|Sq<|aF<|Sr<|Dd (e8 ZX)<|Dd (fM aV)<|Dd aO<|Zz<|Sr<|Dd aD<|Dd aD<|Dd (fK aK)<|Dd (by exact iM rfl rfl rfl hw)<|Dd aO<|Zz<|Sr<|Dd aD<|Dd dD<|Zz ?_;refine Cn ?_ ?_<;>intro hc2
  ·have h:=aIn hc2;omega
  refine aB<|Rg<|Dd eL<|Dd aD<|Zz ?_;exact⟨k+1,by omega,by omega,E0⟩
 have hge:k=ls.length:=by have:=aIo hc1;omega
 subst hge;rw [List.take_length];refine aZ<|Sr<|Dd aD<|Dd (by exact M4 rfl rfl call126 rfl (IC ls.flatten.length [] rfl rfl (dF.of (by simp)) hb))<|Dd aO<|Zz<|Sq<|Sr<|Dd aD<|Dd (fK TJ)<|Dd aD<|Zz<|aF ?_;refine gU (fun(k:Nat) (g:Nat)=>([(6,.osl 905 g 0 ((ls.take k).flatten.map encStr).length),(25,.pv (.sl (ls.map (fun l=>[.sl (l.map encStr)])))),(26,iv ((ls.map (fun l=>[PV.sl (l.map encStr)])).length:Int)),(27,iv (k:Int))],[(905,⟨g,1,9,xH ((ls.take k).flatten.map encStr)⟩)])) (fun k g=>k≤ls.length) (fun k g=>ls.length - k) 0 1 (by omega) ?_ ?_
 ·exact E0
 intro k g hk;refine Sr<|Dd dD<|Zz<|Sq ?_;refine Cn ?_ ?_<;>intro hc3
 ·have hlt:k < ls.length:=by have:=aIn hc3;omega
  obtain ⟨l,hl⟩:=aX hlt;have hi:=bZ (f:=fun l=>[PV.sl (l.map encStr)]) hl;have hml2:(l.map encStr).length=l.length:=aIr _;have hml3:((ls.take k).flatten.map encStr).length=((ls.take k).flatten).length:=aIr _;have h1:=hst k l hl;have h2:=hpre (k+1);have h3:((ls.take (k+1)).flatten).length=((ls.take k).flatten).length+l.length:=by rw [h1,aIs]
  refine aB<|Sq<|aF<|Sr<|Dd (e8 ZX)<|Dd (fM aV)<|Dd aO<|Zz<|Rg<|Dd aD<|Dd aD<|Dd (by exact c6 rfl cC E4 rfl rfl rfl rfl rfl (MZ _) rfl (BO l) rfl (by omega) (by rw [h1,List.map_append,aIs]:((ls.take k).flatten.map encStr).length+(l.map encStr).length=((ls.take (k+1)).flatten.map encStr).length) (by rw [h1,List.map_append,xH,xH,List.map_append]:xH ((ls.take k).flatten.map encStr)++(l.map encStr).map (·.map .pv)=xH ((ls.take (k+1)).flatten.map encStr)))<|Dd aO<|Zz<|Rg<|Dd eL<|Dd aD<|Zz ?_;exact⟨k+1,g+1,by omega,by omega,cY.dup ⟨⟨_,rfl,rfl⟩,⟨_,rfl,rfl⟩,⟨_,rfl,rfl⟩,⟨_,rfl,rfl⟩,trivial⟩⟩
 have hge:k=ls.length:=by have:=aIo hc3;omega
 subst hge;rw [List.take_length];refine aZ<|Sr<|Dd aD<|Dd aO<|Zz<|aC ?_;refine cZ (H':=[]) (.inr rfl) rfl (aN rfl) (Fin.slice0 (id:=905) (ls.flatten.map encStr) rfl rfl rfl rfl) ?_;exact Qq
def tW (m:List GObj) (id:ByteArray):List GObj×Int :=if !qJ m then([],1)else if !v7 GObj.id m id then([],11)else(m.take (JL GObj.id m id)++m.drop (JL GObj.id m id+1),0)
theorem aFt (m:List GObj) (id:ByteArray) (H:aE) (hm:uQ m) (hl:m.length < 1099511627776):aH Tryz.prog 120 [.agg [.pv (cO m)],sv id] H (fun r H'=>r=.tup [.agg [.pv (cO (tW m id).1)],iv (tW m id).2]∧H'=H):=by
 refine Pu ?_;have hml:(m.map aG).length=m.length:=aIr _;have hrl:=LV m;have hv:=fun H=>OM [m] H (by show 1 < _;omega) (by intro x hx;rw [aIu] at hx;subst hx;exact hm);rw [show ([m].all qJ)=qJ m by simp] at hv;refine Bd func120 rfl ntmps120<|Sr<|Dd (by exact cE (id:=2) rfl rfl rfl rfl rfl)<|Dd (by exact bJ (id:=4) rfl YP rfl rfl)<|Dd aO<|Zz<|Sq<|Sr<|Dd (by exact aI rfl bF sizeOf38 rfl rfl rfl rfl (by simp only [Zl,aQ,aG,encStr,aJ,encInt];rfl) rfl)<|Dd (by exact aT ([m].map nC) rfl ZW rfl rfl rfl rfl rfl (by simp [nC]))<|Dd (by exact aA rfl rfl call166 rfl (hv _))<|Dd jU<|Zz ?_;refine Cn ?_ ?_<;>intro hc1
 ·have e:tW m id=([],1):=by rw [tW,aIq hc1]
  rw [e];refine Sr<|Dd (jG FL)<|Uu (fP sizeOf38)<|Dd aO<|Zz<|aC ?_;refine iD (H':=[]) (.inr rfl) rfl (k8 rfl bF sizeOf38 rfl rfl rfl (by simp only [Zl,aQ,aG,encStr,aJ,encInt];rfl) rfl) (aN rfl) (Fin.wk (by simp) trivial trivial) ?_;exact Qq
 have hg:qJ m=true:=by
  have h:=hc1;revert h;cases qJ m<;>simp
 have hu:=(mS.1 hg).2.1;have hle:=NK GObj.id m id;have hgp:tW m id=if !v7 GObj.id m id then([],11)else(m.take (JL GObj.id m id)++m.drop (JL GObj.id m id+1),0):=by rw [tW,aIp (by rw [hc1];simp)]
 obtain ⟨i,hi0⟩:∃ i,i=JL GObj.id m id:=⟨_,rfl⟩;rw [← hi0] at hgp hle;have hat:=fun H=>aHE m id H hl hu;rw [← hi0] at hat;refine aB<|Sr<|Dd (by exact aI rfl bF sizeOf38 rfl rfl rfl rfl (by simp only [Zl,aQ,aG,encStr,aJ,encInt];rfl) rfl)<|Dd aD<|Dd (by exact aA rfl rfl call167 rfl (hat _))<|Dd aD<|Dd eZ<|Dd eZ<|Dd aO<|Dd aO<|Zz<|Sq<|Sr<|Dd aD<|Dd jU<|Zz ?_;refine Cn ?_ ?_<;>intro hc2
 ·rw [hgp,aIq hc2];refine Sr<|Dd (jG FL)<|Uu (fP sizeOf38)<|Dd aO<|Zz<|aC ?_;refine iD (H':=[]) (.inr rfl) rfl (k8 rfl bF sizeOf38 rfl rfl rfl (by simp only [Zl,aQ,aG,encStr,aJ,encInt];rfl) rfl) (aN rfl) (Fin.wk (by simp) trivial trivial) ?_;exact Qq
 have hf:v7 GObj.id m id=true:=by
  have h:=hc2;revert h;cases v7 GObj.id m id<;>simp
 obtain ⟨x,hx,hxk⟩:=QA hu hf;rw [← hi0] at hx;have hlt:=(aIv.1 hx).1;rw [hgp,aIp (by rw [hc2];simp)];have hw:IntKind.i64.wrap ((i:Int)+1)=((i+1:Nat):Int):=by rw [IntKind.wrap_i64];omega
 have hs:cO (m.take i++m.drop (i+1))=.sl ((m.map aG).take i++(m.map aG).drop (i+1)):=by rw [cO,List.map_append,List.map_take,List.map_drop]
 rw [hs];refine aB<|Sr<|Dd (bH gZ)<|Dd (cA dJ)<|Dd (by exact aA rfl rfl call168 rfl (LZ (m.map aG) _ (dF.ofL ⟨(by(simp;done)),(by(simp;done)),trivial⟩) rfl rfl (by omega) hrl))<|Dd aD<|Dd aD<|Dd (by exact iM rfl rfl rfl hw)<|Dd (by exact aA rfl rfl call170 rfl (S6 (m.map aG) i (i+1) 1 _ (dF.ofL ⟨(by(simp;done)),(by(simp;done)),(by(simp;done)),trivial⟩) rfl (by omega) (by omega) (by omega) hrl))<|Dd (jG FL)<|Uu (fP sizeOf38)<|Dd aO<|Zz<|aC ?_;refine iD (H':=[]) (.inr rfl) rfl (nZ bF sizeOf38) (aN rfl) (Fin.wk (r:=.tup [.agg [.pv (.sl ((m.map aG).take i++(m.map aG).drop (i+1)))],iv 0]) (by simp) trivial trivial) ?_;exact Qq
structure GRes where
 put:List GObj
 drop:ByteArray
 err:Int
def oN (r:GRes):List PV:=[cO r.put,.str r.drop,.int .i64 r.err]
def tX (n:Int):GRes:=⟨[],aP,n⟩
def SY (m:List GObj) (e:GEdit) (o:GObj):GRes :=if(kT m e.other).isSome then tX 9
 else if decide (S1 o.refs e.node < 0)then tX 12
 else if QH m true [e.id] then tX 14
 else⟨[⟨o.id,o.kind,o.x,o.y,o.refs.take ((S1 o.refs e.node).toNat+1),o.tags⟩,⟨e.other,2,0,0,o.refs.drop (S1 o.refs e.node).toNat,o.tags⟩],aP,0⟩
theorem Fin.cl {m:List GObj} {H1:aE} (ps:List PV) (h14:H1.get 14=some (x7 m)) (h12:H1.get 12=some (J2 m)):Fin (cH m) H1 (av ps) (cH m) (av ps) :=Fin.wk (by simp [av]) ⟨⟨_,h14,rfl⟩,by simp;rfl,⟨_,h12,rfl⟩,gE _ _,trivial⟩ ⟨h14.symm,h12.symm,trivial⟩
def atS (l:List ByteArray) (k:Nat):ByteArray:=(l[k]?).getD aP
def aBW (m:List GObj) (e:GEdit) (o x:GObj):GRes :=if !decide (x.kind=2)then tX 13
 else if decide (e.id=e.other)||!decide (atS o.refs (o.refs.length - 1)=atS x.refs 0)then tX 12
 else if QH m true [e.id,e.other] then tX 14
 else if decide (2000 < o.refs.length+x.refs.length - 1)then tX 2
 else⟨[⟨o.id,o.kind,o.x,o.y,[o.refs,x.refs.drop 1].flatten,o.tags⟩],e.other,0⟩
section
section
variable {N:Nat} {o:Oper} {E:dG} {H:aE} {x y:Operand}
theorem F7 {m:List GObj} {s:ByteArray} {k:Int} (ho:o.op=.lookup 80 x y true) (hx:aW E x=some (.mp 12 0)) (hH:H.get 12=some (J2 m)) (hy:aW E y=some (sv s)) (hk:kT m s=some k):dQ Tryz.prog N o E H (.tup [iv k,bv true]) H:=by have h:=gW (N:=N) (κ:=oW) ho gI underlying9 hx hH rfl rfl hy eC (.inl rfl);rw [B8,hk] at h;exact h
theorem F8 {m:List GObj} {s:ByteArray} (ho:o.op=.lookup 80 x y true) (hx:aW E x=some (.mp 12 0)) (hH:H.get 12=some (J2 m)) (hy:aW E y=some (sv s)) (hk:kT m s=none):dQ Tryz.prog N o E H (.tup [iv 0,bv false]) H:=by have h:=gW (N:=N) (κ:=oW) ho gI underlying9 hx hH rfl rfl hy eC (.inl rfl);rw [B8,hk] at h;exact h
theorem aD2 {m:List GObj} {s:ByteArray} (ho:o.op=.lookup 80 x y true) (hx:aW E x=some (.mp 12 0)) (hH:H.get 12=some (J2 m)) (hy:aW E y=some (sv s)):dQ Tryz.prog N o E H (.tup [iv ((kT m s).getD 0),bv (kT m s).isSome]) H:=by
 cases hk:kT m s with
 | none=>exact F8 ho hx hH hy hk
 | some k=>exact F7 ho hx hH hy hk
end
def LU (op kind:Int):Bool:=if op=2 then decide (kind=1)else if op=4 then(decide (kind=2)||(decide (kind=3)||decide (kind=4)))else if op=6||op=7 then decide (kind=2)else true
def dX (m:List GObj) (e:GEdit):GRes :=if e.op=1 then(if(kT m e.obj.id).isSome then tX 9 else⟨[e.obj],aP,oY m e.obj.kind 0 e.obj.refs⟩)
 else match m.find? (oJ e.id)with
 | none=>tX 11
 | some o =>
  if decide (e.op=7)&&(m.find? (oJ e.other)).isNone then tX 11
  else if !LU e.op o.kind then tX 13
  else if e.op=2 then⟨[⟨o.id,o.kind,e.x,e.y,o.refs,o.tags⟩],aP,0⟩
  else if e.op=3 then(if !decide ((aBU o.tags e.key e.val).2=0)then tX (aBU o.tags e.key e.val).2 else⟨[⟨o.id,o.kind,o.x,o.y,o.refs,(aBU o.tags e.key e.val).1⟩],aP,0⟩)
  else if e.op=4 then(if !iC ⟨o.id,o.kind,o.x,o.y,e.refs,o.tags⟩then tX 1 else⟨[⟨o.id,o.kind,o.x,o.y,e.refs,o.tags⟩],aP,oY m o.kind 0 e.refs⟩)
  else if e.op=5 then(if QH m false [e.id] then tX 14 else⟨[],e.id,0⟩)
  else if e.op=6 then SY m e o
  else aBW m e o ((m.find? (oJ e.other)).getD zObj)
theorem EU {m:List GObj} {s:ByteArray} {o:GObj} (h:m.find? (oJ s)=some o):kT m s=some o.kind:=by rw [kT,h];rfl
theorem EV {m:List GObj} {s:ByteArray} (h:m.find? (oJ s)=none):kT m s=none:=by rw [kT,h];rfl
theorem aCu (m:List GObj) (o:GObj) (H:aE) (h14:H.get 14=some (x7 m)) (h12:H.get 12=some (J2 m)) (hl:o.refs.length < 4611686018427387904):aH Tryz.prog 117 [.ref 14 0 0 0,av (aG o)] H (fun r H'=>r=iv (oY m o.kind 0 o.refs)∧H'=H) :=aB8 (R4 m o (cH m) rfl rfl rfl (dF.ofL ⟨(by(simp;rfl)),(by exact gE _ _),trivial⟩) hl) h14 h12 (by simp;rfl)
theorem UE (m:List GObj) (e:GEdit) (hm:uQ m) (he:e.op=1) (hr:e.obj.refs.length < 4611686018427387904) :
  aH Tryz.prog 118 [.ref 14 0 0 0,av (aJ e)] (cH m) (fun r H'=>r=av (oN (dX m e))∧H'=cH m):=by
 rw [dX,aIq he];refine Bd aIB rfl aHL<|Sr<|Dd (by exact cE (id:=3) rfl rfl rfl rfl rfl)<|Dd (by exact bJ (id:=4) rfl TP rfl rfl)<|Zz<|Sq<|Sr<|Dd (bH fG)<|Dd (cA isAgg3)<|Dd cI<|Zz ?_;refine Cn ?_ ?_<;>intro hc1
 ·cases hf:kT m e.obj.id with
  | some k =>
   rw [aIq (show (some k).isSome=true from rfl)];refine Sq<|Sq<|aU follows<|Cq aD<|Cq pY<|Cq (bH mD)<|Cq (cA fE)<|Cq (bH iR)<|Cq (bH eK)<|Cq (cA isAgg9)<|Cq (by exact F7 rfl rfl rfl rfl hf)<|Cq aD<|Cq eZ<|Cq eZ<|Cq aO<|Cq aO<|bM<|Kr<|Sr<|Dd aD<|Zz ?_;refine Cn ?_ ?_<;>intro hc2
   ·refine Sr<|Dd (jG E6)<|Uu (fP eG)<|Zz<|aC ?_;refine cZ (H':=(cH m)) (.inr rfl) rfl (nZ nQ eG) (Fin.cl (m:=m) (oN (tX 9)) rfl rfl) ?_;exact Qq
   cases hc2
  | none =>
   rw [aIp (show ¬ (none:Option Int).isSome=true by simp)];refine Sq<|Sq<|aU follows<|Cq aD<|Cq pY<|Cq (bH mD)<|Cq (cA fE)<|Cq (bH iR)<|Cq (bH eK)<|Cq (cA isAgg9)<|Cq (by exact F8 rfl rfl rfl rfl hf)<|Cq aD<|Cq eZ<|Cq eZ<|Cq aO<|Cq aO<|bM<|Kr<|Sr<|Dd aD<|Zz ?_;refine Cn ?_ ?_<;>intro hc3
   ·cases hc3
   refine aB<|Sq<|aU follows<|Cr [3] (fun _ h=>fh iR h)<|Cr [3] (fun H1 hH=>by exact aI rfl aY sizeOf49 rfl ((hH _ rfl).trans rfl) rfl rfl (by simp only [Zl,aQ,aG,encStr,aJ,encInt];rfl) rfl)<|Cr [] (fun H1 hH=>by exact aT ([e.obj].map aG) rfl iK rfl rfl rfl rfl rfl (by simp [aG]))<|Cr [14] (fun _ _=>aD)<|Cr [3] (fun _ h=>fh iR h)<|Cr [3] (fun H1 hH=>by exact aI rfl aY sizeOf49 rfl ((hH _ rfl).trans rfl) rfl rfl (by simp only [Zl,aQ,aG,encStr,aJ,encInt];rfl) rfl)<|Cr [14,12] (fun H1 hH=>by exact aA rfl rfl aII rfl (aCu m e.obj _ ((hH 14 rfl).trans rfl) ((hH 12 rfl).trans rfl) hr))<|Cr [] (fun _ _=>(jG E6))<|Cp [4] (fun H1 hH=>by exact cV rfl eG rfl rfl rfl rfl ((hH _ rfl).trans rfl) rfl rfl rfl)<|bM<|Kr ?_;refine aC ?_;refine cZ (H':=(cH m)) (.inr rfl) rfl (nZ nQ eG) (Fin.cl (m:=m) (oN ⟨[e.obj],aP,oY m e.obj.kind 0 e.obj.refs⟩) rfl rfl) ?_;exact Qq
 have:=aIo hc1;exact absurd he this
theorem aDG (m:List GObj) (id other node:ByteArray) (x y:Int) (key val:ByteArray) (refs:List ByteArray) (obj:GObj) (hm:uQ m) (ho9:∀ o,o∈m→o.refs.length < 549755813888∧o.tags.length < 1099511627776) :
  aH Tryz.prog 118 [.ref 14 0 0 0,av (aJ ⟨2,id,other,node,x,y,key,val,refs,obj⟩)] (cH m) (fun r H'=>r=av (oN (dX m ⟨2,id,other,node,x,y,key,val,refs,obj⟩))∧H'=cH m):=by
 rw [dX,aIp (show ¬ ((2:Int)=1)by decide)];simp only;refine Bd aIB rfl aHL<|Sr<|Dd (by exact cE (id:=3) rfl rfl rfl rfl rfl)<|Dd (by exact bJ (id:=4) rfl TP rfl rfl)<|Zz<|Sq<|Sr<|Dd (bH fG)<|Dd (cA isAgg3)<|Dd cI<|Zz ?_;refine Cn ?_ ?_<;>intro hc1
 ·cases hc1
 cases hf:m.find? (oJ id)with
 | none =>
  refine aB<|Sq<|aU follows<|Cq aD<|Cq pY<|Cq (bH mD)<|Cq (cA fE)<|Cq (bH eX)<|Cq (cA isAgg9)<|Cq (by exact F8 rfl rfl rfl rfl (EV hf))<|Cq aD<|Cq eZ<|Cq eZ<|Cq aO<|Cq aO<|bM<|Kr<|Sq<|Sq<|aU follows<|Cq aD<|Cq pY<|Cq (bH mD)<|Cq (cA fE)<|Cq (bH fR)<|Cq (cA isAgg9)<|Cq (by exact aD2 rfl rfl rfl rfl)<|Cq aD<|Cq eZ<|Cq eZ<|Cq aO<|Cq aO<|bM<|Kr<|Sr<|Dd aD<|Dd jU<|Dd aD<|Fo<|Fo<|Fo<|Fo ?_;refine CT rfl rfl rfl rfl ?_;refine CT rfl rfl rfl rfl ?_;refine Fo<|Dd dI<|Zz ?_;refine Cn ?_ ?_<;>intro hc2
  ·refine Sr<|Dd (jG E6)<|Uu (fP eG)<|Zz<|aC ?_;refine cZ (H':=(cH m)) (.inr rfl) rfl (nZ nQ eG) (Fin.cl (m:=m) (oN (tX 11)) rfl rfl) ?_;exact Qq
  cases hc2
 | some o =>
  simp only [show decide ((2:Int)=7)=false from rfl,Bool.false_and,Bool.false_eq_true,if_false,if_true];have hom:=List.mem_of_find?_eq_some hf;obtain ⟨ho1,ho2⟩:=ho9 o hom;have hoo:=hm.2 o hom;refine aB<|Sq<|aU follows<|Cq aD<|Cq pY<|Cq (bH mD)<|Cq (cA fE)<|Cq (bH eX)<|Cq (cA isAgg9)<|Cq (by exact F7 rfl rfl rfl rfl (EU hf))<|Cq aD<|Cq eZ<|Cq eZ<|Cq aO<|Cq aO<|bM<|Kr<|Sq<|Sq<|aU follows<|Cq aD<|Cq pY<|Cq (bH mD)<|Cq (cA fE)<|Cq (bH fR)<|Cq (cA isAgg9)<|Cq (by exact aD2 rfl rfl rfl rfl)<|Cq aD<|Cq eZ<|Cq eZ<|Cq aO<|Cq aO<|bM<|Kr<|Sr<|Dd aD<|Dd jU<|Dd aD<|On (bH fG)<|On (cA isAgg3)<|On cI<|On aD<|Fo<|Fo<|On dI<|Dd dI<|Zz ?_;refine Cn ?_ ?_<;>intro hc3
  ·cases hc3
  refine aB<|Sr<|Dd aD<|Dd (bH eX)<|Dd (cA isAgg9)<|Dd (by exact aA rfl rfl call160 rfl (aE7 m id o _ rfl rfl hm hf))<|Dd (by exact bJ (id:=11) rfl qU rfl rfl)<|Uu (fP sizeOf49)<|Zz<|Sr<|Dd (by exact iT (id:=77) (vY .i64) rfl rfl)<|Dd (by exact aT ([(1:Int)].map encInt) rfl lP rfl rfl rfl rfl rfl (by simp [encInt]))<|Uu (by exact fY (κ:=(vY .i64)) (.inr rfl) fW underlying3 rfl rfl rfl rfl rfl rfl rfl rfl)<|Dd (by exact aT ([(2:Int),3,4].map encInt) rfl lP rfl rfl rfl rfl rfl (by simp [encInt]))<|Uu (by exact fY (κ:=(vY .i64)) (.inr rfl) fW underlying3 rfl rfl rfl rfl rfl rfl rfl rfl)<|Dd (by exact aT ([(2:Int)].map encInt) rfl lP rfl rfl rfl rfl rfl (by simp [encInt]))<|Uu (by exact fY (κ:=(vY .i64)) (.inr rfl) fW underlying3 rfl rfl rfl rfl rfl rfl rfl rfl) ?_;refine Dd (by exact aT ([(2:Int)].map encInt) rfl lP rfl rfl rfl rfl rfl (by simp [encInt]))<|Uu (by exact fY (κ:=(vY .i64)) (.inr rfl) fW underlying3 rfl rfl rfl rfl rfl rfl rfl rfl)<|Dd aD<|Dd aO<|Zz<|Sq<|Sr<|Dd aD<|Dd (bH fG)<|Dd (cA isAgg3)<|Dd (by exact gW (κ:=(vY .i64)) rfl fW underlying3 rfl rfl rfl rfl rfl aCC (.inl rfl))<|Dd aD<|Dd eZ<|Dd eZ<|Dd aO<|Dd aO<|Zz<|Sr<|Dd aD<|Dd aD<|On aD<|On (bH dT)<|On (cA isAgg3)<|On (by exact aA rfl rfl call161 rfl (QW [(1:Int)] o.kind _ (by decide)))<|On jU<|Dd dI<|Zz ?_;refine Cn ?_ ?_<;>intro hc4
  ·have hb:(!LU 2 o.kind)=true:=by
    have h:=hc4;rw [← h];simp [LU]
   rw [hb,aIq rfl];refine Sr<|Dd (jG E6)<|Uu (fP eG)<|Zz<|aC ?_;refine cZ (H':=(cH m)) (.inr rfl) rfl (nZ nQ eG) (Fin.cl (m:=m) (oN (tX 13)) rfl rfl) ?_;exact Qq
  have hb:(!LU 2 o.kind)=false:=by
   have h:=hc4;rw [← h];simp [LU]
  rw [hb,aIp (by simp)];refine aB<|Sq<|Sr<|Dd (bH fG)<|Dd (cA isAgg3)<|Zz<|aF<|Sr<|Dd cI<|Da ?_;refine Cn ?_ ?_<;>intro hc5
  ·refine Rg<|Dd (bH iS)<|Dd (by exact aI rfl dZ sizeOf45 rfl rfl rfl rfl (by simp only [Zl,aQ,aG,encStr,aJ,encInt];rfl) rfl)<|Dd (bH kE)<|Uu (by exact qV rfl sizeOf45 rfl rfl rfl rfl rfl rfl rfl (aJE rfl) rfl rfl)<|Zz<|Sr<|Dd (qZ aY sizeOf49)<|Dd (by exact aT ([(⟨o.id,o.kind,x,y,o.refs,o.tags⟩:GObj)].map aG) rfl iK rfl rfl rfl rfl rfl (by simp [aG]))<|Dd (jG E6)<|Uu (fP eG)<|Zz<|aC ?_;refine cZ (H':=(cH m)) (.inr rfl) rfl (nZ nQ eG) (Fin.cl (m:=m) (oN ⟨[⟨o.id,o.kind,x,y,o.refs,o.tags⟩],aP,0⟩) rfl rfl) ?_;exact Qq
  cases hc5
end
theorem UD (m:List GObj) (id other node:ByteArray) (x y:Int) (key val:ByteArray) (refs:List ByteArray) (obj:GObj) (hm:uQ m) (ho9:∀ o,o∈m→o.refs.length < 549755813888∧o.tags.length < 1099511627776) :
  aH Tryz.prog 118 [.ref 14 0 0 0,av (aJ ⟨5,id,other,node,x,y,key,val,refs,obj⟩)] (cH m) (fun r H'=>r=av (oN (dX m ⟨5,id,other,node,x,y,key,val,refs,obj⟩))∧H'=cH m):=by
 rw [dX,aIp (show ¬ ((5:Int)=1)by decide)];simp only;refine Bd aIB rfl aHL<|Sr<|Dd (by exact cE (id:=3) rfl rfl rfl rfl rfl)<|Dd (by exact bJ (id:=4) rfl TP rfl rfl)<|Zz<|Sq<|Sr<|Dd (bH fG)<|Dd (cA isAgg3)<|Dd cI<|Zz ?_;refine Cn ?_ ?_<;>intro hc1
 ·cases hc1
 cases hf:m.find? (oJ id)with
 | none =>
  refine aB<|Sq<|aU follows<|Cq aD<|Cq pY<|Cq (bH mD)<|Cq (cA fE)<|Cq (bH eX)<|Cq (cA isAgg9)<|Cq (by exact F8 rfl rfl rfl rfl (EV hf))<|Cq aD<|Cq eZ<|Cq eZ<|Cq aO<|Cq aO<|bM<|Kr<|Sq<|Sq<|aU follows<|Cq aD<|Cq pY<|Cq (bH mD)<|Cq (cA fE)<|Cq (bH fR)<|Cq (cA isAgg9)<|Cq (by exact aD2 rfl rfl rfl rfl)<|Cq aD<|Cq eZ<|Cq eZ<|Cq aO<|Cq aO<|bM<|Kr<|Sr<|Dd aD<|Dd jU<|Dd aD<|Fo<|Fo<|Fo<|Fo ?_;refine CT rfl rfl rfl rfl ?_;refine CT rfl rfl rfl rfl ?_;refine Fo<|Dd dI<|Zz ?_;refine Cn ?_ ?_<;>intro hc2
  ·refine Sr<|Dd (jG E6)<|Uu (fP eG)<|Zz<|aC ?_;refine cZ (H':=(cH m)) (.inr rfl) rfl (nZ nQ eG) (Fin.cl (m:=m) (oN (tX 11)) rfl rfl) ?_;exact Qq
  cases hc2
 | some o =>
  simp only [show decide ((5:Int)=7)=false from rfl,Bool.false_and,Bool.false_eq_true,if_false,if_true];rw [aIp (show ¬ ((5:Int)=2)by decide),aIp (show ¬ ((5:Int)=3)by decide),aIp (show ¬ ((5:Int)=4)by decide)];have hom:=List.mem_of_find?_eq_some hf;obtain ⟨ho1,ho2⟩:=ho9 o hom;have hoo:=hm.2 o hom;refine aB<|Sq<|aU follows<|Cq aD<|Cq pY<|Cq (bH mD)<|Cq (cA fE)<|Cq (bH eX)<|Cq (cA isAgg9)<|Cq (by exact F7 rfl rfl rfl rfl (EU hf))<|Cq aD<|Cq eZ<|Cq eZ<|Cq aO<|Cq aO<|bM<|Kr<|Sq<|Sq<|aU follows<|Cq aD<|Cq pY<|Cq (bH mD)<|Cq (cA fE)<|Cq (bH fR)<|Cq (cA isAgg9)<|Cq (by exact aD2 rfl rfl rfl rfl)<|Cq aD<|Cq eZ<|Cq eZ<|Cq aO<|Cq aO<|bM<|Kr<|Sr<|Dd aD<|Dd jU<|Dd aD<|On (bH fG)<|On (cA isAgg3)<|On cI<|On aD<|Fo<|Fo<|On dI<|Dd dI<|Zz ?_;refine Cn ?_ ?_<;>intro hc3
  ·cases hc3
  refine aB<|Sr<|Dd aD<|Dd (bH eX)<|Dd (cA isAgg9)<|Dd (by exact aA rfl rfl call160 rfl (aE7 m id o _ rfl rfl hm hf))<|Dd (by exact bJ (id:=11) rfl qU rfl rfl)<|Uu (fP sizeOf49)<|Zz<|Sr<|Dd (by exact iT (id:=77) (vY .i64) rfl rfl)<|Dd (by exact aT ([(1:Int)].map encInt) rfl lP rfl rfl rfl rfl rfl (by simp [encInt]))<|Uu (by exact fY (κ:=(vY .i64)) (.inr rfl) fW underlying3 rfl rfl rfl rfl rfl rfl rfl rfl)<|Dd (by exact aT ([(2:Int),3,4].map encInt) rfl lP rfl rfl rfl rfl rfl (by simp [encInt]))<|Uu (by exact fY (κ:=(vY .i64)) (.inr rfl) fW underlying3 rfl rfl rfl rfl rfl rfl rfl rfl)<|Dd (by exact aT ([(2:Int)].map encInt) rfl lP rfl rfl rfl rfl rfl (by simp [encInt]))<|Uu (by exact fY (κ:=(vY .i64)) (.inr rfl) fW underlying3 rfl rfl rfl rfl rfl rfl rfl rfl) ?_;refine Dd (by exact aT ([(2:Int)].map encInt) rfl lP rfl rfl rfl rfl rfl (by simp [encInt]))<|Uu (by exact fY (κ:=(vY .i64)) (.inr rfl) fW underlying3 rfl rfl rfl rfl rfl rfl rfl rfl)<|Dd aD<|Dd aO<|Zz<|Sq<|Sr<|Dd aD<|Dd (bH fG)<|Dd (cA isAgg3)<|Dd (by exact gW (κ:=(vY .i64)) rfl fW underlying3 rfl rfl rfl rfl rfl aCC (.inl rfl))<|Dd aD<|Dd eZ<|Dd eZ<|Dd aO<|Dd aO<|Zz<|Sr<|Dd aD<|Dd aD<|Fo<|Fo<|Fo<|Fo<|Fo<|Dd dI<|Zz ?_;refine Cn ?_ ?_<;>intro hc4
  ·cases hc4
  have hb:(!LU 5 o.kind)=false:=rfl;rw [hb,aIp (by simp)];refine aB<|Sq<|Sr<|Dd (bH fG)<|Dd (cA isAgg3)<|Zz<|aF<|Sr<|Dd cI<|Da ?_;refine Cn ?_ ?_<;>intro hc5
  ·cases hc5
  refine Sr<|Dd cI<|Da ?_;refine Cn ?_ ?_<;>intro hc6
  ·cases hc6
  refine Sr<|Dd cI<|Da ?_;refine Cn ?_ ?_<;>intro hc7
  ·cases hc7
  refine Sr<|Dd cI<|Da ?_;refine Cn ?_ ?_<;>intro hc8
  ·refine Sq<|Sr<|Dd aD<|Dd (bH eX)<|Dd (cA isAgg9)<|Dd (by exact aT ([id].map encStr) rfl cC rfl rfl rfl rfl rfl (by simp [encStr]))<|Dd (by exact aA rfl rfl call163 rfl (aFJ m false [id] _ rfl rfl hm (by show 1 < _;omega)))<|Zz ?_;refine Cn ?_ ?_<;>intro hc9
   ·rw [aIq hc9];refine Sr<|Dd (jG E6)<|Uu (fP eG)<|Zz<|aC ?_;refine cZ (H':=(cH m)) (.inr rfl) rfl (nZ nQ eG) (Fin.cl (m:=m) (oN (tX 14)) rfl rfl) ?_;exact Qq
   rw [aIp (by rw [hc9];simp)];refine aB<|Sr<|Dd (bH eX)<|Dd (cA isAgg9)<|Dd (jG E6)<|Uu (fP eG)<|Zz<|aC ?_;refine cZ (H':=(cH m)) (.inr rfl) rfl (nZ nQ eG) (Fin.cl (m:=m) (oN ⟨[],id,0⟩) rfl rfl) ?_;exact Qq
  cases hc8
theorem k7 {o:GObj} (h:iC o=true):o.refs.length≤2000∧o.tags.length≤60∧nM o.tags=true∧bU o.id=true∧(o.kind=2→2≤o.refs.length):=by rw [iC,aJA,aJK,CE,pD] at h;have h1:=h.1;simp only [aJN,Bool.not_eq_false',aIz] at h1;obtain ⟨⟨⟨⟨a1,a2⟩,a3⟩,a4⟩,a5⟩:=h1;refine⟨by omega,(rL.1 a3).2.2,a3,a2,fun hk=>?_⟩;rw [hk,show xT 2=2 from rfl] at a4;omega
theorem AJ {l l':List GTag} {key val:ByteArray} (hl:rW l) (hk:key.size < 4611686018427387904) (hv:val.size < 4611686018427387904) (hlen:l'.length≤l.length+1) (hlt:l.length < 1099511627776) (hm:∀ t,t∈l'→t=⟨key,val⟩∨t∈l):rW l':=by
 refine⟨by omega,fun t ht=>?_⟩;rcases hm t ht with rfl|h
 ·exact⟨hk,hv⟩
 exact hl.2 t h
theorem aDi {l:List GTag} {key val:ByteArray} (hl:rW l) (hk:key.size < 4611686018427387904) (hv:val.size < 4611686018427387904) (hlt:l.length < 1099511627776):rW (aBU l key val).1:=by
 have hle:=NK GTag.key l key;unfold aBU
 split
 ·exact⟨by show 0 < _;omega,fun t ht=>by cases ht⟩
 split
 ·split
  ·refine AJ hl hk hv (by simp only [aIs,aJF,aJG];omega) hlt (fun t ht=>.inr ?_);rcases List.mem_append.1 ht with h|h
   ·exact List.mem_of_mem_take h
   exact List.mem_of_mem_drop h
  refine AJ hl hk hv (by simp only [List.length_set];omega) hlt (fun t ht=>?_);rcases List.mem_or_eq_of_mem_set ht with h|h
  ·exact .inr h
  exact .inl h
 split
 ·exact hl
 split
 ·exact⟨by show 0 < _;omega,fun t ht=>by cases ht⟩
 refine AJ hl hk hv (by simp only [aIs,aJF,aJG,aIt];omega) hlt (fun t ht=>?_);rcases List.mem_append.1 ht with h|h
 ·exact .inr (List.mem_of_mem_take h)
 rcases aJD.1 h with h|h
 ·exact .inl h
 exact .inr (List.mem_of_mem_drop h)
theorem U3 {m:List GObj} {s:ByteArray} {o:GObj} (hm:uQ m) (h:m.find? (oJ s)=some o):DO o:=hm.2 o (List.mem_of_find?_eq_some h)
theorem nB {e:GEdit}:dA e=true↔(1≤e.op∧e.op≤7)∧lU e=true∧vB e=e:=by rw [dA,aJA,aJA,aJA,aIy,aIy,lV]
theorem wA {e:GEdit} (h:dA e=true):e.val.size≤200:=by
 obtain ⟨_,h2,h3⟩:=nB.1 h;have hv:(vB e).val=e.val:=by rw [h3]
 by_cases e3:e.op=3
 ·rw [lU,aIp (by omega),aIp (by omega),aIq e3,aJA,aJA,aIy] at h2;omega
 have:e.val=aP:=by
  rw [← hv,vB]
  repeat' split
  all_goals rfl
 rw [this];decide
theorem aDF {m:List GObj} {e:GEdit} (hm:uQ m) (hg:qJ m=true) (he:tQ e) (hv:dA e=true):∀ o,o∈(dX m e).put→DO o:=by
 have hvs:=wA hv;obtain ⟨⟨h1,h2,h3,h4⟩,⟨h5,h6⟩,h7⟩:=he;have hlen:∀ o,o∈m→o.refs.length≤2000∧o.tags.length≤60:=fun o ho=>by
  have:=k7 ((mS.1 hg).1 o ho);exact⟨this.1,this.2.1⟩
 have hnone:∀ n,∀ o,o∈(tX n).put→DO o:=fun n o ho=>by cases ho
 unfold dX
 split
 ·split
  ·exact hnone _
  intro o ho;rw [aIu] at ho;subst ho;exact h7
 split
 ·exact hnone _
 next o hf =>
 have hoo:=U3 hm hf;have hol:=hlen o (List.mem_of_find?_eq_some hf)
 split
 ·exact hnone _
 split
 ·exact hnone _
 split
 ·intro x hx;rw [aIu] at hx;subst hx;exact hoo
 split
 ·split
  ·exact hnone _
  intro x hx;rw [aIu] at hx;subst hx;refine⟨hoo.1,aDi hoo.2.1 ?_ ?_ (by omega),hoo.2.2⟩
  ·exact h4
  omega
 split
 ·split
  ·exact hnone _
  intro x hx;rw [aIu] at hx;subst hx;exact⟨hoo.1,hoo.2.1,h5,h6⟩
 split
 ·split
  ·exact hnone _
  intro x hx;cases hx
 split
 ·unfold SY
  split
  ·exact hnone _
  split
  ·exact hnone _
  split
  ·exact hnone _
  intro x hx;simp only [aJD,aJH,or_false] at hx;rcases hx with rfl|rfl
  ·exact⟨hoo.1,hoo.2.1,by simp only [aJF];omega,fun s hs=>hoo.2.2.2 s (List.mem_of_mem_take hs)⟩
  exact⟨h2,hoo.2.1,by simp only [aJG];omega,fun s hs=>hoo.2.2.2 s (List.mem_of_mem_drop hs)⟩
 unfold aBW
 split
 ·exact hnone _
 split
 ·exact hnone _
 split
 ·exact hnone _
 split
 ·exact hnone _
 intro x hx;rw [aIu] at hx;subst hx;have hx2:DO ((m.find? (oJ e.other)).getD zObj)∧((m.find? (oJ e.other)).getD zObj).refs.length≤2000:=by
  cases hf2:m.find? (oJ e.other)with
  | none=>exact⟨⟨by decide,⟨by decide,fun t ht=>by cases ht⟩,by decide,fun s hs=>by cases hs⟩,by decide⟩
  | some x=>exact⟨U3 hm hf2,(hlen x (List.mem_of_find?_eq_some hf2)).1⟩
 refine⟨hoo.1,hoo.2.1,?_,fun s hs=>?_⟩
 ·simp only [List.flatten_cons,List.flatten_nil,List.append_nil,aIs,aJG];omega
 simp only [List.flatten_cons,List.flatten_nil,List.append_nil] at hs;rcases List.mem_append.1 hs with h|h
 ·exact hoo.2.2.2 s h
 exact hx2.1.2.2.2 s (List.mem_of_mem_drop h)
def n8:List GObj→List GObj→List GObj×Int
 | m,[]=>(m,0)
 | m,o::r=>if !decide ((tD m o).2=0)then([],(tD m o).2)else n8 (tD m o).1 r
def AT (m:List GObj) (e:GEdit):List GObj×Int :=if !dA e then([],1)
 else if !decide ((dX m e).err=0)then([],(dX m e).err)
 else if !decide ((n8 m (dX m e).put).2=0)then n8 m (dX m e).put
 else if !decide ((dX m e).drop=aP)then tW (n8 m (dX m e).put).1 (dX m e).drop
 else((n8 m (dX m e).put).1,0)
theorem aBV {m:List GObj} {o:GObj} (hm:uQ m) (ho:DO o) (hl:m.length < 1099511627776):uQ (tD m o).1∧(tD m o).1.length≤m.length+1:=by
 unfold tD
 split
 ·exact⟨⟨by show 0 < _;omega,fun x hx=>by cases hx⟩,by show 0≤_;omega⟩
 split
 ·exact⟨⟨by show 0 < _;omega,fun x hx=>by cases hx⟩,by show 0≤_;omega⟩
 exact⟨aA6 hm ho hl,by show (CD m o).length≤_;rw [LS];split<;>omega⟩
end Go.Proofs.YtlnfjkdacimblaaGreatDoor
