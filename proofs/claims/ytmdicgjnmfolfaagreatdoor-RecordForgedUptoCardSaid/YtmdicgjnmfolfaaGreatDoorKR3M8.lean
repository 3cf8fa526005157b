/-
  Parts of the proof: rules of an abstract program logic, contracts of functions, plain laws. Conditions: each theorem's own.
-/
import Derived.Test.YtmdicgjnmfolfaaGreatDoorKR3M7
import Derived.Shelf.LaysC
import Derived.Ground.NamesProg
set_option linter.unusedVariables false
set_option linter.unusedSimpArgs false
set_option maxRecDepth 100000
set_option maxHeartbeats 8000000
namespace Go.Proofs
open Tryz
theorem xJ:type_of% call114:=call114
theorem aOd:type_of% call129:=call129
theorem aO9:type_of% call205:=call205
theorem rM:type_of% call60:=call60
theorem fR:type_of% call74:=call74
theorem aO8:type_of% func156:=func156
theorem iI:type_of% isAgg23:=isAgg23
theorem pF:type_of% isAgg98:=isAgg98
theorem aNW:type_of% ntmps156:=ntmps156
theorem pE:type_of% underlying139:=underlying139
end Go.Proofs
namespace Go.Proofs.YtmdicgjnmfolfaaGreatDoor
open Go.Proofs.Tryz
open Go.Abs
variable{s t:ByteArray}{r:GRec}{id g k:Nat}{e:GEdit}{l:List UInt8}{u:Bool}{H:aH}
def ofY(l:List UInt8):ByteArray:=⟨l.toArray⟩
def eH(s:ByteArray):List ByteArray:=(fF 32 s.data.toList).map ofY
def zB(D:List ByteArray)(m:Nat):List (List AV):=D.map (fun e=>(encStr e).map AV.pv)++List.replicate m [sv ⟨#[]⟩]
theorem PD(D:List ByteArray)(m:Nat):(zB D (m+1))[D.length]?=some [sv ⟨#[]⟩]:=by rw[zB,List.getElem?_append_right (by rw[aPU];exact aP0 _),aPU,Nat.sub_self];rfl
theorem XZ(h:(eH s).length=1):eH s=[s]:=by rw[eH,aPU,tV]at h;have h0:(32:UInt8)∉s.data.toList:=List.count_eq_zero.1 (by omega);rw[eH,rY h0];rfl
theorem LB(D:List ByteArray)(m:Nat)(x:ByteArray):(zB D (m+1)).set D.length [sv x]=zB (D++[x]) m:=by unfold zB;rw[List.set_append_right _ _ (by rw[aPU];exact aP0 _),aPU,Nat.sub_self,List.map_append,List.append_assoc];rfl
theorem LC(H:aH)(D:List ByteArray)(m:Nat):∀r∈zB D m,∀a∈r,Clo H a:=by
 intro r hr a ha;rcases List.mem_append.1 hr with hr|hr
 ·obtain ⟨d,_,rfl⟩:=List.mem_map.1 hr;obtain ⟨p,_,rfl⟩:=List.mem_map.1 ha;simp
 rw[List.eq_of_mem_replicate hr,aPX]at ha;subst ha;simp
theorem exL(s:ByteArray)(i j:Nat):(s.extract i j).data.toList=(s.data.toList.drop i).take (j - i):=by rw[ByteArray.data_extract,Array.toList_extract,List.extract_eq_take_drop]
theorem eqL{a b:ByteArray}(h:a.data.toList=b.data.toList):a=b:=by cases a;cases b;simp_all[Array.toList_inj]
theorem aE6{w r:List UInt8}(h:s.data.toList=w++32::r):s.extract 0 w.length=ofY w/\(s.extract (w.length+1) s.size).data.toList=r:=by
 have hl:s.size=w.length+1+r.length:=by
  show s.data.size=_;rw[<-Array.length_toList,h,aPV,aPW];omega
 constructor
 ·refine eqL ?_;rw[exL,List.drop_zero,Nat.sub_zero,h,List.take_left];simp[ofY]
 rw[exL,h,hl,show w++32::r=(w++[32])++r by simp,show w.length+1=(w++[(32:UInt8)]).length by simp,List.drop_left];exact List.take_of_length_le (by omega)
theorem aOV{H1:aH}{n:Nat}{ob:Ob}(ps:List (List PV))(hH:H1.get id=some ob)(hg:ob.g=g)(hps:ob.rows=ps.map (·.map .pv))(hn:ps.length=n):Fin [] H1 (.osl id g 0 n) [] (.pv (.sl ps)):=by subst hg hn;exact Fin.fz (id:=id) (ob:=ob) ps hH hps (.osl (by rw[aPc,List.drop_zero,List.take_length])) rfl trivial trivial
theorem ZD(s0:ByteArray)(H:aH)(hs:s0.size<1099511627776):aI Tryz.prog 194 [sv s0,sv sSp,iv 0,iv (-1)] H (fun r H'=>r=.pv (bA (eH s0))/\H'=H):=by
 refine Pu ?_;obtain ⟨N,hN⟩:∃N,N=s0.data.toList.count 32:=⟨_,rfl⟩;have hNs:N<=s0.size:=by rw[hN];exact Nat.le_trans List.count_le_length (by simp)
 have hC:=fun H=>aIa s0 H;rw[<-hN]at hC;have hlen:(fF 32 s0.data.toList).length=N+1:=by rw[tV,hN]
 refine Bd func194 rfl ntmps194<|Sr<|Dd aL<|Zz<|Sq<|Sr<|Dd aE<|Dd cK<|Zz ?_;refine Cn ?_ ?_<;>intro hc1
 ·cases hc1
 refine aC<|Sq<|Sr<|Dd aE<|Dd zE<|Zz ?_;refine Cn ?_ ?_<;>intro hc2
 ·have:=aPQ hc2;cases this
 refine aC<|Sq<|Sr<|Dd aE<|Dd cZ<|Zz ?_;refine Cn ?_ ?_<;>intro hc3
 ·refine Rg<|Dd aE<|Dd aE<|Dd (by exact aA rfl rfl call228 rfl (hC _))<|Dd (by exact bZ rfl rfl rfl (show IntKind.i64.wrap ((N:Int)+1)=((N+1:Nat):Int)by rw[IntKind.wrap_i64];omega))<|Dd aL<|Zz<|Sr<|Dd aE<|Dd aE<|Dd (jV underlying9)<|Dd (by exact bZ rfl rfl rfl (show IntKind.i64.wrap ((s0.size:Int)+1)=((s0.size+1:Nat):Int)by rw[IntKind.wrap_i64];omega))<|Dd (by exact KA (r:=((N+1:Nat):Int)) rfl rfl rfl (by omega))<|Dd aL<|Zz<|Sr<|Dd aE<|Dd (by exact BF (id:=31) rfl cB EF zo9 rfl rfl rfl (by omega) (by omega) (by exact aP5 _) (by exact aP5 _) (by omega) rfl)<|Dd aL<|Zz<|Sr<|Dd aE<|Dd (by exact dW rfl rfl rfl (show IntKind.i64.wrap (((N+1:Nat):Int) - 1)=(N:Int)by rw[IntKind.wrap_i64];omega))<|Dd aL<|Zz<|Sr<|Dd aL<|Zz<|Sq<|aG ?_;refine jA (fun(D:List ByteArray) (rest:ByteArray)=>([(0,sv rest),(1,sv sSp),(2,iv 0),(3,iv (N:Int)),(8,.pv (.sl [])),(9,.osl 31 0 0 (N+1)),(10,iv (D.length:Int))],[(31,⟨0,1,9,zB D (N+1 - D.length)⟩)])) (fun D rest=>eH s0=D++eH rest/\rest.size<=s0.size) (fun D rest=>N - D.length) [] s0 ⟨rfl,aP0 _⟩ ?_ ?_
  ·exact(dA.wk (Eb<|Eb<|Eb<|Eb<|Eb<|Ea<|Eb<|trivial) (Hc (LC _ _ _)<|trivial) trivial)
  rintro D rest ⟨hD,hr⟩;have hln:D.length+(eH rest).length=N+1:=by
   have:=congrArg List.length hD;rw[aPV,eH,aPU,hlen]at this;exact this.symm
  have hpos:0<(eH rest).length:=by rw[eH,aPU];exact zA _ _
  obtain ⟨m,hm⟩:∃m,N+1 - D.length=m+1:=⟨N - D.length,by omega⟩;have hI:=fun H=>aIN rest H;rw[hm];rcases Nat.lt_or_ge D.length N with hlt|hge
  ·have h1:Lib.indexByte rest.data.toList 32 ≠ -1:=fun h=>by
    have h2:=rY (uQ.1 h);rw[eH,h2]at hln;have:D.length+1=N+1:=hln;omega
   obtain ⟨w,r,e1,e2,e3⟩:=uR h1;obtain ⟨x1,x2⟩:=aE6 e1;have hl:w.length+1+r.length=rest.size:=by rw[<-show rest.data.toList.length=rest.size by simp,e1,aPV,aPW];omega
   have hsp:eH rest=rest.extract 0 w.length::eH (rest.extract (w.length+1) rest.size):=by
    rw[eH,e1,nD e2,List.map_cons,x1,eH,x2]
   simp only[e3]at hI;refine Sq<|Sr<|Dd aE<|Dd aE<|Dd cZ<|Zz ?_;refine Cn ?_ ?_<;>intro hc4
   ·refine aC<|aG<|Sr<|Dd aE<|Dd aE<|Dd (by exact aA rfl rfl call229 rfl (hI _))<|Dd aL<|Zz<|Sq<|Sr<|Dd aE<|Dd cZ<|Zz ?_;refine Cn ?_ ?_<;>intro hc5
    ·have:=aPQ hc5;omega
    refine aC<|Sr<|Dd aE<|Dd aE<|Dd aE<|Dd aE<|Dd aE<|Dd (by exact bZ rfl rfl rfl (show IntKind.i64.wrap ((w.length:Int)+0)=(w.length:Int)by rw[IntKind.wrap_i64];omega))<|Dd (by exact cO (l:=0) (h:=w.length) rfl underlying9 rfl rfl rfl (by omega) (by omega) rfl)<|Dd (by exact dP rfl cB rfl rfl rfl rfl rfl (by omega) (by exact aP5 _) (by omega) (aPc _))<|Uu (by exact bH rfl sizeOf9 rfl rfl rfl rfl rfl (PD D m) Nat.zero_lt_one rfl (LB D m _))<|Zz<|Sr<|Dd aE<|Dd aE<|Dd aE<|Dd (jV underlying9)<|Dd (by exact bZ rfl rfl rfl (show IntKind.i64.wrap ((w.length:Int)+1)=((w.length+1:Nat):Int)by rw[IntKind.wrap_i64];omega))<|Dd (by exact cO (l:=(w.length+1)) (h:=rest.size) rfl underlying9 rfl rfl rfl (by omega) (by omega) rfl)<|Dd aL<|Zz<|Rg<|Dm ?_;refine Dd (by exact bZ rfl rfl rfl (show IntKind.i64.wrap ((D.length:Int)+1)=((D.length+1:Nat):Int)by rw[IntKind.wrap_i64];omega))<|Da ?_;have e5:(D++[rest.extract 0 w.length]).length=D.length+1:=by simp
    have hsz:(rest.extract (w.length+1) rest.size).size<=s0.size:=by rw[<-show (rest.extract (w.length+1) rest.size).data.toList.length=(rest.extract (w.length+1) rest.size).size by simp,x2];omega
    refine⟨D++[rest.extract 0 w.length],rest.extract (w.length+1) rest.size,⟨by rw[hD,hsp,List.append_assoc];rfl,hsz⟩,by rw[e5];omega,?_⟩;rw[e5,show N+1 - (D.length+1)=m by omega];exact(dA.wk (Eb<|Eb<|Eb<|Eb<|Eb<|Ea<|Eb<|trivial) (Hc (LC _ _ _)<|trivial) trivial)
   have:=aPR hc4;omega
  have hDN:D.length=N:=by omega
  have hone:eH rest=[rest]:=XZ (by omega);have hm0:m=0:=by omega
  subst hm0;refine Sq<|Sr<|Dd aE<|Dd aE<|Dd cZ<|Zz ?_;refine Cn ?_ ?_<;>intro hc6
  ·have:=aPQ hc6;omega
  refine aY<|Sr<|Dd aE<|Dd aE<|Dd aE<|Dd (by exact dP rfl cB rfl rfl rfl rfl rfl (by omega) (by exact aP5 _) (by omega) (aPc _))<|Uu (by exact bH rfl sizeOf9 rfl rfl rfl rfl rfl (PD D 0) Nat.zero_lt_one rfl (LB D 0 _))<|Zz<|Sr<|Dd aE<|Dd aE<|Dd (by exact bZ rfl rfl rfl (show IntKind.i64.wrap ((D.length:Int)+1)=((D.length+1:Nat):Int)by rw[IntKind.wrap_i64];omega))<|Dd (by exact iT (l:=0) (h:=(D.length+1)) rfl cB rfl rfl rfl rfl rfl rfl (by omega) (by omega) rfl rfl)<|Dd aL<|Zz<|aB ?_;have hps:(D++[rest]).map encStr=(eH s0).map encStr:=by rw[hD,hone]
  refine eG (H':=[]) (.inr rfl) rfl (bD rfl) (aOV (id:=31) ((D++[rest]).map encStr) rfl rfl (by show zB (D++[rest]) 0=_;rw[zB,List.replicate_zero,List.append_nil,List.map_map];rfl) (by simp)) ⟨?_,rfl⟩;rw[bA,hps]
 cases hc3
theorem aB7(s:ByteArray)(H:aH)(hs:s.size<1099511627776):aI Tryz.prog 154 [sv s,sv sSp] H (fun r H'=>r=.pv (bA (eH s))/\H'=H):=by refine Pu ?_;exact Bd func154 rfl ntmps154<|Sr<|Dd aL<|Zz<|Sr<|Dd aE<|Dd aE<|Dd (by exact aA rfl rfl call194 rfl (ZD s _ hs))<|Dd aL<|Zz<|aB<|Rt<|Qq
def uM(t:ByteArray):ByteArray:=if Lib.indexByte t.data.toList 10 = -1 then t else t.extract 0 ((Lib.indexByte t.data.toList 10).toNat+1)
def I9(t:ByteArray):ByteArray:=if Lib.indexByte t.data.toList 10 = -1 then⟨#[]⟩else t.extract ((Lib.indexByte t.data.toList 10).toNat+1) t.size
def gH(s:ByteArray):Nat->ByteArray
 |0=>s
 |k+1=>I9 (gH s k)
def gU(s:ByteArray):List ByteArray:=(kU s.data.toList).map ofY
theorem aE5(s:ByteArray):ofY s.data.toList=s:=eqL (by simp[ofY])
theorem szY(s:ByteArray):s.data.toList.length=s.size:=by simp
theorem aEv(h:Lib.indexByte t.data.toList 10 ≠ -1):∃w r,t.data.toList=w++10::r/\(10:UInt8)∉w/\Lib.indexByte t.data.toList 10=(w.length:Int)/\t.extract 0 (w.length+1)=ofY (w++[10])/\(t.extract (w.length+1) t.size).data.toList=r/\w.length+1+r.length=t.size:=by
 obtain ⟨w,r,e1,e2,e3⟩:=uR h;have hl:w.length+1+r.length=t.size:=by rw[<-szY,e1,aPV,aPW];omega
 have e4:t.data.toList=(w++[10])++r:=by rw[e1];simp
 refine⟨w,r,e1,e2,e3,eqL ?_,?_,hl⟩
 ·rw[exL,List.drop_zero,Nat.sub_zero,e4,show w.length+1=(w++[(10:UInt8)]).length by simp,List.take_left];simp[ofY]
 rw[exL,e4,show w.length+1=(w++[(10:UInt8)]).length by simp,List.drop_left];exact List.take_of_length_le (by rw[aPV,List.length_singleton];omega)
theorem yC(h:¬ 0<t.size):gU t=[]:=by have:t.data.toList=[]:=List.length_eq_zero_iff.1 (by rw[szY];omega);rw[gU,this];rfl
theorem zQ(h:0<t.size):gU t=uM t::gU (I9 t)/\(I9 t).size<=t.size:=by
 rw[uM,I9];by_cases h1:Lib.indexByte t.data.toList 10 = -1
 ·rw[aPT h1,aPT h1];refine⟨?_,aPb _⟩;rw[gU,JA (uQ.1 h1) (fun e=>by rw[<-szY,e]at h;exact absurd h (Nat.lt_irrefl 0))];show [ofY t.data.toList]=_;rw[aE5];rfl
 rw[aPS h1,aPS h1];obtain ⟨w,r,e1,e2,e3,e4,e5,e6⟩:=aEv h1;rw[e3,aP5,e4];refine⟨?_,by rw[<-szY,e5];omega⟩;rw[gU,e1,D8 e2,List.map_cons,gU,e5]
theorem xS(s:ByteArray):∀k,k<=(gU s).length->gU (gH s k)=(gU s).drop k/\(gH s k).size<=s.size
 |0,_=>⟨rfl,aP0 _⟩
 | k+1,h=>by
  obtain ⟨i1,i2⟩:=xS s k (Nat.le_of_succ_le h);have hp:0<(gH s k).size:=by
   rcases Nat.lt_or_ge 0 (gH s k).size with h1|h1
   ·exact h1
   have h2:=yC (t:=gH s k) (by omega);rw[h2]at i1;have:=congrArg List.length i1;rw[aP9,List.length_nil]at this;omega
  obtain ⟨j1,j2⟩:=zQ hp;rw[j1]at i1;refine⟨?_,Nat.le_trans j2 i2⟩;show gU (I9 (gH s k))=_;have:=congrArg List.tail i1;rw[List.tail_cons,List.tail_drop]at this;exact this
theorem aIF(h:k<(gU s).length):(gU s)[k]?=some (uM (gH s k))/\0<(gH s k).size:=by
 obtain ⟨i1,i2⟩:=xS s k (Nat.le_of_lt h);have hp:0<(gH s k).size:=by
  rcases Nat.lt_or_ge 0 (gH s k).size with h1|h1
  ·exact h1
  have h2:=yC (t:=gH s k) (by omega);rw[h2]at i1;have:=congrArg List.length i1;rw[aP9,List.length_nil]at this;omega
 refine⟨?_,hp⟩;rw[(zQ hp).1]at i1;have:=congrArg List.head? i1;rw[List.head?_cons,List.head?_drop]at this;exact this.symm
def lB(s:ByteArray):Ob:=bx 1 9 [sv s]
theorem aIE(s:ByteArray)(H:aH)(h1:H.get 933=none):aI Tryz.prog 115 [sv s] H (fun r H'=>r=.clo 153 [.ref 933 0 0 0]/\H'=(933,lB s)::H):=by refine Bd func115 rfl ntmps115<|Sr<|Dd (by exact cD (id:=933) rfl rfl rfl rfl h1)<|Dd aL<|Zz<|Sr<|Dd (by exact gJ rfl rfl)<|Dd aL<|Zz<|aB ?_;refine eG (H':=((933,lB s)::H)) (.inr rfl) rfl (bD rfl) Fin.refl ?_;exact Qq
theorem aEj(s:ByteArray)(fv:AV)(Hs:Nat->aH)(hs:s.size<1099511627776)(h1:∀k,(Hs k).get 933=some (lB (gH s k)))
  (hy:∀k,k<(gU s).length->dK Tryz.prog fv [sv (uM (gH s k))] ((933,lB (gH s (k+1)))::Hs k) (fun r H'=>r=bv true/\H'=Hs (k+1))) :
  aI Tryz.prog 153 [fv,.ref 933 0 0 0] (Hs 0) (fun r H'=>r=.tup []/\H'=Hs (gU s).length):=by
 refine Bd func153 rfl ntmps153<|aG ?_;refine bT (σ:=Nat) (fun k=>([(0,fv),(1,.ref 933 0 0 0)],Hs k)) (fun k=>k<=(gU s).length) (fun k=>(gU s).length - k) 0 (aPb _) ?_ ?_
 ·exact E0
 rintro k hk;obtain ⟨i1,i2⟩:=xS s k hk;have hI:=fun H=>pQ (gH s k) 10 H;have hnx:gH s (k+1)=I9 (gH s k):=rfl;refine Sq<|Sr<|Dd (by exact aK rfl isAgg9 rfl (h1 k) rfl rfl rfl)<|Dd (jV underlying9)<|Dd iE<|Zz ?_;refine Cn ?_ ?_<;>intro hc1
 ·have hp:0<(gH s k).size:=by have:=aPQ hc1;omega
  have hlt:k<(gU s).length:=by
   rcases Nat.lt_or_ge k (gU s).length with h|h
   ·exact h
   rw[(zQ hp).1,List.drop_eq_nil_of_le h]at i1;cases i1
  have hyk:=hy k hlt;rw[hnx,I9,uM]at hyk;rcases Classical.em (Lib.indexByte (gH s k).data.toList 10 = -1)with e0|e0
  ·rw[aPT e0,aPT e0]at hyk;have hI2:∀H,aI Tryz.prog 140 [sv (gH s k),.pv (.int .u8 10)] H (fun r H'=>r=iv (-1)/\H'=H):=fun H=>by
    have:=hI H
    rwa [show Lib.indexByte (gH s k).data.toList ((10:Int).toNat.toUInt8) = -1 from e0]at this
   refine aC<|aG<|Sr<|Dd aL<|Zz<|Sq<|Sr<|Dd (by exact aK rfl isAgg9 rfl (h1 k) rfl rfl rfl)<|Dd (by exact aA rfl rfl xI rfl (hI2 _))<|Dd aL<|Zz<|Sr<|Dd aE<|Dd DD<|Zz ?_;refine Cn ?_ ?_<;>intro hc2
   ·cases hc2
   refine Rg<|Dd (by exact aK rfl isAgg9 rfl (h1 k) rfl rfl rfl)<|Dd aL<|Uu (by exact cM rfl sizeOf9 rfl rfl rfl rfl (h1 k) rfl rfl rfl)<|Zz<|Sr<|Dd aE<|Dd aE<|Dd (by exact cU rfl rfl rfl (hyk))<|Dd iQ<|Zz ?_;refine Cn ?_ ?_<;>intro hc3
   ·cases hc3
   refine aC ?_;exact⟨k+1,by omega,by omega,E0⟩
  rw[aPS e0,aPS e0]at hyk;obtain ⟨w,r,e1,e2,e3,e4,e5,e6⟩:=aEv e0;rw[e3,aP5]at hyk;have hI2:∀H,aI Tryz.prog 140 [sv (gH s k),.pv (.int .u8 10)] H (fun r H'=>r=iv (w.length:Int)/\H'=H):=fun H=>by
   have:=hI H
   rwa [show Lib.indexByte (gH s k).data.toList ((10:Int).toNat.toUInt8)=(w.length:Int)from e3]at this
  refine aC<|aG<|Sr<|Dd aL<|Zz<|Sq<|Sr<|Dd (by exact aK rfl isAgg9 rfl (h1 k) rfl rfl rfl)<|Dd (by exact aA rfl rfl xI rfl (hI2 _))<|Dd aL<|Zz<|Sr<|Dd aE<|Dd DD<|Zz ?_;refine Cn ?_ ?_<;>intro hc4
  ·refine aN follows<|Cr [933] (fun H1 hH=>by exact aK rfl isAgg9 rfl ((hH _ rfl).trans (h1 k)) rfl rfl rfl)<|Cr [] (fun _ _=>aE)<|Cr [] (fun H1 hH=>by exact bZ rfl rfl rfl (show IntKind.i64.wrap ((w.length:Int)+1)=((w.length+1:Nat):Int)by rw[IntKind.wrap_i64];omega))<|Cr [] (fun H1 hH=>by exact cO (l:=0) (h:=(w.length+1)) rfl underlying9 rfl rfl rfl (by omega) (by omega) rfl)<|Cr [933] (fun H1 hH=>by exact aK rfl isAgg9 rfl ((hH _ rfl).trans (h1 k)) rfl rfl rfl)<|Cr [] (fun _ _=>aE)<|Cr [] (fun H1 hH=>by exact bZ rfl rfl rfl (show IntKind.i64.wrap ((w.length:Int)+1)=((w.length+1:Nat):Int)by rw[IntKind.wrap_i64];omega))<|Cr [] (fun H1 hH=>by exact cO (l:=(w.length+1)) (h:=(gH s k).size) rfl underlying9 rfl rfl rfl (by omega) (by omega) rfl)<|Cr [] (fun _ _=>aL) ?_;refine Cp [933] (fun H1 hH=>by exact cM rfl sizeOf9 rfl rfl rfl rfl ((hH _ rfl).trans (h1 k)) rfl rfl rfl)<|bL<|Kr<|Sr<|Dd aE<|Dd aE<|Dd (by exact cU rfl rfl rfl (hyk))<|Dd iQ<|Zz ?_;refine Cn ?_ ?_<;>intro hc5
   ·cases hc5
   refine aC ?_;exact⟨k+1,by omega,by omega,E0⟩
  have:=aPR hc4;omega
 have hn:¬ 0<(gH s k).size:=by have:=aPR hc1;omega
 have hge:k=(gU s).length:=by
  rw[yC hn]at i1;have:=congrArg List.length i1;rw[List.length_nil,aP9]at this;omega
 subst hge;refine aY ?_;exact sI (H':=Hs (gU s).length) (.inl rfl) rfl Fin.refl ⟨rfl,rfl⟩
theorem aDV(w:List UInt8):Lib.trimSuffix (w++[10]) [10]=w:=by rw[Lib.trimSuffix,Lib.hasSuffix,aPT (List.isSuffixOf_iff_suffix.2 ⟨w,rfl⟩)];simp
theorem aDX(s:ByteArray):BH s=ofL (Lib.trimSuffix s.data.toList [10]):=by
 have hz:=szY s;rw[BH];cases h:AE s with
 | true =>
  rw[AE,aP3,aP1,aP1]at h;obtain ⟨h1,h2⟩:=h;have h3:s.data.toList.drop (s.size - 1)=[10]:=by
   have:=congrArg (fun x=>x.data.toList) h2;rw[exL]at this;refine Eq.trans ?_ (show sNl.data.toList=[10]from rfl);rw[<-this];exact(List.take_of_length_le (by rw[aP9];omega)).symm
  have h4:s.data.toList=s.data.toList.take (s.size - 1)++[10]:=by rw[<-h3,List.take_append_drop]
  refine eqL ?_;rw[aPT rfl,exL,dC,h4,aDV,List.drop_zero,Nat.sub_zero,<-h4]
 | false =>
  rw[aPS (by decide),Lib.trimSuffix,aPS,oZ];intro hp;obtain ⟨w,hw⟩:=List.isSuffixOf_iff_suffix.1 (show ([10]:List UInt8).isSuffixOf s.data.toList=true from hp);have hl:s.size=w.length+1:=by rw[<-hz,<-hw,aPV,List.length_singleton]
  have:AE s=true:=by
   rw[AE,aP3,aP1,aP1];refine⟨by omega,eqL ?_⟩;rw[exL,<-hw,show s.size - 1=w.length by omega,List.drop_left];exact List.take_of_length_le (by rw[List.length_singleton];omega)
  rw[h]at this;cases this
theorem aI8(s:ByteArray):∃b,WS s=.tup [sv (ofL ((fF 32 s.data.toList).headD [])),sv (ofL (s.data.toList.drop (((fF 32 s.data.toList).headD []).length+1))),bv b]:=by
 rw[WS];by_cases h:Lib.indexByte s.data.toList 32 = -1
 ·refine⟨false,?_⟩;rw[aPT h,rY (uQ.1 h),List.headD_cons,List.drop_eq_nil_of_le (Nat.le_succ _),oZ];rfl
 obtain ⟨w,r,e1,e2,e3⟩:=uR h;refine⟨true,?_⟩;obtain ⟨a1,a2⟩:=aE6 e1;have hd:s.data.toList.drop (w.length+1)=r:=by
  rw[e1,show w++32::r=(w++[32])++r by simp,show w.length+1=(w++[(32:UInt8)]).length by simp,List.drop_left]
 have hsp:(fF 32 s.data.toList).headD []=w:=by rw[e1,nD e2];rfl
 rw[aPS h,hsp,hd,e3,aP5,a1,show s.extract (w.length+1) s.size=ofL r from eqL (by rw[a2,dC])];rfl
theorem aB6(s:ByteArray)(i:Nat)(h:i<(eH s).length):(eH s)[i]?=some (ofL ((fF 32 s.data.toList).getD i [])):=by rw[eH,aPU]at h;rw[eH,aPe,aPZ h,List.getD_eq_getElem?_getD,aPZ h];rfl
theorem aB5(s:ByteArray):(eH s).length=(fF 32 s.data.toList).length:=aPU _
theorem qI{a b:List UInt8}:ofL a=ofL b↔a=b:=⟨fun h=>by rw[<-dC a,h,dC],fun h=>by rw[h]⟩
theorem cF(s:ByteArray)(l:List ByteArray):cY (s::l)=s.size+cY l:=by rw[cY,cY,List.map_cons,List.sum_cons]
theorem uN{ws:List ByteArray}(h1:e.op≠1)(h:bs ws=gF e):(⟨(bU [32] (bs ws)).toArray⟩:ByteArray)++⟨#[10]⟩=ofL (fC e++[10]):=eqL (by
 rw[dC,fC,aPS h1,<-h];simp)
theorem aHY(h1:e.op=1):(⟨#[112,117,116,32]⟩:ByteArray)++(fT e.obj).1++⟨#[10]⟩=ofL (fC e++[10]):=eqL (by
 rw[dC,fC,aPT h1];simp[aBU])
theorem HK{o:GObj}:(fT o).1.size<=20000:=by
 rw[fT]
 split
 ·split
  ·exact aPb _
  split
  ·exact aPb _
  show (uH o).size<=_;omega
 exact aPb _
theorem aKj(e:GEdit)(H:aH)(he:MB e)(hv:dU e=true):aI Tryz.prog 161 [av (aW e)] H (fun r H'=>r=.tup [sv (ofL (fC e++[10])),iv (fP e)]/\H'=H):=by
 refine Pu ?_;obtain ⟨⟨o1,o2⟩,o3,o4⟩:=uT.1 hv;rw[qW]at o3;have hval:=EC hv;have hs0:cY []=0:=rfl;refine Bd func161 rfl ntmps161<|Sr<|Dd (by exact cD (id:=1) rfl rfl rfl rfl rfl)<|Dd aL<|Dd aL<|Zz<|Sr<|Dd aL<|Zz<|Sq<|Sr<|Dd (aS fZ)<|Dd (bC isAgg3)<|Zz<|aG<|Sr<|Dd cK<|Da ?_;refine Cn ?_ ?_<;>intro hc1
 ·have h1:e.op=1:=aPQ hc1;have hos:=HK (o:=e.obj);have h4:(⟨#[112,117,116,32]⟩:ByteArray).size=4:=rfl;have h10:(⟨#[10]⟩:ByteArray).size=1:=rfl;have h4s:((⟨#[112,117,116,32]⟩:ByteArray)++(fT e.obj).1).size=4+(fT e.obj).1.size:=by rw[ByteArray.size_append];rfl
  refine Sr<|Dd (aS nT)<|Dd (pU cW sizeOf151)<|Dd (by exact aA rfl rfl call196 rfl (P2 e.obj _ he.2.2))<|Dd aE<|Dd fS<|Dd fS<|Dd aL<|Dd aL<|Zz<|Sr<|Dd aE<|Dd (by exact cH rfl rfl rfl (by omega) rfl)<|Dd (by exact cH rfl rfl rfl (by omega) rfl)<|Dd aE<|Dd aL<|Dd aL<|Zz<|aB<|Ru ?_;rw[aHY h1,show fP e=(fT e.obj).2 from aPT h1];exact Qq
 have h1:e.op≠1:=aPR hc1;rw[aPS h1,aP3]at o3;obtain ⟨o5,o6⟩:=o3;have hid:=dM o5;refine Sr<|Dd cK<|Da ?_;refine Cn ?_ ?_<;>intro hc2
 ·have h2:e.op=2:=aPQ hc2;rw[aPT h2,onP,aP3,aP1,aP1]at o6;have hx:0<=e.x/\e.x<1048576:=by omega
  have hy:0<=e.y/\e.y<1048576:=by omega
  have six:(aV e.x).size<=7:=by rw[<-aZ];show (Lib.itoa e.x).length<=7;rw[iL _ hx.1];exact dX (by omega) (by decide)
  have siy:(aV e.y).size<=7:=by rw[<-aZ];show (Lib.itoa e.y).length<=7;rw[iL _ hy.1];exact dX (by omega) (by decide)
  have hw0:(⟨#[109,111,118,101]⟩:ByteArray).size=4:=rfl;refine aN follows<|Cq (aS gP)<|Cq (bC isAgg9)<|Cq (aS gO)<|Cq (aS pC)<|Cq (bC isAgg3)<|Cq (by exact aA rfl rfl pH rfl (tI e.x (by omega) (by omega) _))<|Cq (aS gO)<|Cq (aS pB)<|Cq (bC isAgg3)<|Cq (by exact aA rfl rfl pH rfl (tI e.y (by omega) (by omega) _))<|Cq (by exact aR (([⟨#[109,111,118,101]⟩,e.id,aV e.x,aV e.y]:List ByteArray).map encStr) rfl cB rfl rfl rfl rfl rfl (gX _))<|Cq aL<|bL<|Kr<|Sr<|Dm ?_;have hw:bs [⟨#[109,111,118,101]⟩,e.id,aV e.x,aV e.y]=gF e:=by
   rw[gF]
   (rw[aPT h2];rfl)
  have hne:e.op≠1:=by omega
  have hj:∀H,aI Tryz.prog 158 [.pv (bA [⟨#[109,111,118,101]⟩,e.id,aV e.x,aV e.y]),sv ⟨#[32]⟩] H (fun x H'=>x=sv ⟨(bU [32] (bs [⟨#[109,111,118,101]⟩,e.id,aV e.x,aV e.y])).toArray⟩/\H'=H):=fun H=>tG [⟨#[109,111,118,101]⟩,e.id,aV e.x,aV e.y] ⟨#[32]⟩ H (by decide) (by show 1*_+_+_<_;simp only[cF,aPW,List.length_nil];omega);have hjs:(⟨(bU [32] (bs [⟨#[109,111,118,101]⟩,e.id,aV e.x,aV e.y])).toArray⟩:ByteArray).size<=70000:=by
   show (bU [32] (bs [⟨#[109,111,118,101]⟩,e.id,aV e.x,aV e.y])).length<=_;have:=eZ [⟨#[109,111,118,101]⟩,e.id,aV e.x,aV e.y];simp only[cF,aPW,List.length_nil]at this;omega
  have h10:(⟨#[10]⟩:ByteArray).size=1:=rfl;refine Dd (by exact aA rfl rfl pG rfl (hj _))<|Dd (by exact cH rfl rfl rfl (by omega) rfl)<|Dd aL<|Dd aL<|Zz<|aB<|Ru ?_;rw[uN hne hw,show fP e=0 from aPS hne];exact Qq
 have h2:e.op≠2:=aPR hc2;rw[aPS h2]at o6;refine Sr<|Dd cK<|Da ?_;refine Cn ?_ ?_<;>intro hc3
 ·have h3:e.op=3:=aPQ hc3;rw[aPT h3,aP3,aP1]at o6;have hks:=dM o6.1;have hq:=oY e.val;have hw0:(⟨#[116,97,103]⟩:ByteArray).size=3:=rfl;refine aN follows<|Cq (aS gP)<|Cq (bC isAgg9)<|Cq (aS jR)<|Cq (bC isAgg9)<|Cq (aS kD)<|Cq (bC isAgg9)<|Cq (by exact aA rfl rfl call203 rfl (aA4 e.val _ (by omega)))<|Cq (by exact aR (([⟨#[116,97,103]⟩,e.id,e.key,⟨(eD e.val.data.toList).toArray⟩]:List ByteArray).map encStr) rfl cB rfl rfl rfl rfl rfl (gX _))<|Cq aL<|bL<|Kr<|Sr<|Dm ?_;have hw:bs [⟨#[116,97,103]⟩,e.id,e.key,⟨(eD e.val.data.toList).toArray⟩]=gF e:=by
   rw[gF]
   (rw[aPS h2,aPT h3];rfl)
  have hne:e.op≠1:=by omega
  have hj:∀H,aI Tryz.prog 158 [.pv (bA [⟨#[116,97,103]⟩,e.id,e.key,⟨(eD e.val.data.toList).toArray⟩]),sv ⟨#[32]⟩] H (fun x H'=>x=sv ⟨(bU [32] (bs [⟨#[116,97,103]⟩,e.id,e.key,⟨(eD e.val.data.toList).toArray⟩])).toArray⟩/\H'=H):=fun H=>tG [⟨#[116,97,103]⟩,e.id,e.key,⟨(eD e.val.data.toList).toArray⟩] ⟨#[32]⟩ H (by decide) (by show 1*_+_+_<_;simp only[cF,aPW,List.length_nil];omega);have hjs:(⟨(bU [32] (bs [⟨#[116,97,103]⟩,e.id,e.key,⟨(eD e.val.data.toList).toArray⟩])).toArray⟩:ByteArray).size<=70000:=by
   show (bU [32] (bs [⟨#[116,97,103]⟩,e.id,e.key,⟨(eD e.val.data.toList).toArray⟩])).length<=_;have:=eZ [⟨#[116,97,103]⟩,e.id,e.key,⟨(eD e.val.data.toList).toArray⟩];simp only[cF,aPW,List.length_nil]at this;omega
  have h10:(⟨#[10]⟩:ByteArray).size=1:=rfl;refine Dd (by exact aA rfl rfl pG rfl (hj _))<|Dd (by exact cH rfl rfl rfl (by omega) rfl)<|Dd aL<|Dd aL<|Zz<|aB<|Ru ?_;rw[uN hne hw,show fP e=0 from aPS hne];exact Qq
 have h3:e.op≠3:=aPR hc3;rw[aPS h3]at o6;refine Sr<|Dd cK<|Da ?_;refine Cn ?_ ?_<;>intro hc4
 ·have h4:e.op=4:=aPQ hc4;rw[aPT h4,aP3,aP3,aP1,aP1,List.all_eq_true]at o6;obtain ⟨⟨r1,r2⟩,r3⟩:=o6;have hrs:cY e.refs<=24*e.refs.length:=nE (fun s hs=>dM (r3 s hs));have hw0:(⟨#[114,101,102,115]⟩:ByteArray).size=4:=rfl;have hfl:(([[⟨#[114,101,102,115]⟩,e.id],e.refs]:List (List ByteArray)).flatten).length<1099511627776:=by simp;omega
  refine Rg<|Dd (aS gP)<|Dd (bC isAgg9)<|Dd (by exact aR (([⟨#[114,101,102,115]⟩,e.id]:List ByteArray).map encStr) rfl cB rfl rfl rfl rfl rfl (gX _))<|Dd (aS eV)<|Dd (bC aF)<|Dd (by exact aR (([[⟨#[114,101,102,115]⟩,e.id],e.refs]:List (List ByteArray)).map (fun l=>[.sl (l.map encStr)])) rfl IT rfl rfl rfl rfl rfl (by simp))<|Dd (by exact aA rfl rfl call204 rfl (IB [[⟨#[114,101,102,115]⟩,e.id],e.refs] _ (by show 2<_;omega) hfl))<|Dd aL<|Zz<|Sr<|Dm ?_;rw[show ([[⟨#[114,101,102,115]⟩,e.id],e.refs]:List (List ByteArray)).flatten=⟨#[114,101,102,115]⟩::e.id::e.refs by simp];have hw:bs (⟨#[114,101,102,115]⟩::e.id::e.refs)=gF e:=by
   rw[gF]
   (rw[aPS h2,aPS h3,aPT h4];rfl)
  have hne:e.op≠1:=by omega
  have hj:∀H,aI Tryz.prog 158 [.pv (bA (⟨#[114,101,102,115]⟩::e.id::e.refs)),sv ⟨#[32]⟩] H (fun x H'=>x=sv ⟨(bU [32] (bs (⟨#[114,101,102,115]⟩::e.id::e.refs))).toArray⟩/\H'=H):=fun H=>tG (⟨#[114,101,102,115]⟩::e.id::e.refs) ⟨#[32]⟩ H (by decide) (by show 1*_+_+_<_;simp only[cF,aPW,List.length_nil];omega);have hjs:(⟨(bU [32] (bs (⟨#[114,101,102,115]⟩::e.id::e.refs))).toArray⟩:ByteArray).size<=70000:=by
   show (bU [32] (bs (⟨#[114,101,102,115]⟩::e.id::e.refs))).length<=_;have:=eZ (⟨#[114,101,102,115]⟩::e.id::e.refs);simp only[cF,aPW,List.length_nil]at this;omega
  have h10:(⟨#[10]⟩:ByteArray).size=1:=rfl;refine Dd (by exact aA rfl rfl pG rfl (hj _))<|Dd (by exact cH rfl rfl rfl (by omega) rfl)<|Dd aL<|Dd aL<|Zz<|aB<|Ru ?_;rw[uN hne hw,show fP e=0 from aPS hne];exact Qq
 have h4:e.op≠4:=aPR hc4;rw[aPS h4]at o6;refine Sr<|Dd cK<|Da ?_;refine Cn ?_ ?_<;>intro hc5
 ·have h5:e.op=5:=aPQ hc5;have hw0:(⟨#[100,114,111,112]⟩:ByteArray).size=4:=rfl;refine Rg<|Dd (aS gP)<|Dd (bC isAgg9)<|Dd (by exact aR (([⟨#[100,114,111,112]⟩,e.id]:List ByteArray).map encStr) rfl cB rfl rfl rfl rfl rfl (gX _))<|Dd aL<|Zz<|Sr<|Dm ?_;have hw:bs [⟨#[100,114,111,112]⟩,e.id]=gF e:=by
   rw[gF]
   (rw[aPS h2,aPS h3,aPS h4,aPT h5];rfl)
  have hne:e.op≠1:=by omega
  have hj:∀H,aI Tryz.prog 158 [.pv (bA [⟨#[100,114,111,112]⟩,e.id]),sv ⟨#[32]⟩] H (fun x H'=>x=sv ⟨(bU [32] (bs [⟨#[100,114,111,112]⟩,e.id])).toArray⟩/\H'=H):=fun H=>tG [⟨#[100,114,111,112]⟩,e.id] ⟨#[32]⟩ H (by decide) (by show 1*_+_+_<_;simp only[cF,aPW,List.length_nil];omega);have hjs:(⟨(bU [32] (bs [⟨#[100,114,111,112]⟩,e.id])).toArray⟩:ByteArray).size<=70000:=by
   show (bU [32] (bs [⟨#[100,114,111,112]⟩,e.id])).length<=_;have:=eZ [⟨#[100,114,111,112]⟩,e.id];simp only[cF,aPW,List.length_nil]at this;omega
  have h10:(⟨#[10]⟩:ByteArray).size=1:=rfl;refine Dd (by exact aA rfl rfl pG rfl (hj _))<|Dd (by exact cH rfl rfl rfl (by omega) rfl)<|Dd aL<|Dd aL<|Zz<|aB<|Ru ?_;rw[uN hne hw,show fP e=0 from aPS hne];exact Qq
 have h5:e.op≠5:=aPR hc5;rw[aPS h5]at o6;refine Sr<|Dd cK<|Da ?_;refine Cn ?_ ?_<;>intro hc6
 ·have h6:e.op=6:=aPQ hc6;rw[aPT h6,aP3]at o6;have hns:=dM o6.1;have hos:=dM o6.2;have hw0:(⟨#[115,112,108,105,116]⟩:ByteArray).size=5:=rfl;refine Rg<|Dd (aS gP)<|Dd (bC isAgg9)<|Dd (aS lU)<|Dd (bC isAgg9)<|Dd (aS gV)<|Dd (bC isAgg9)<|Dd (by exact aR (([⟨#[115,112,108,105,116]⟩,e.id,e.node,e.other]:List ByteArray).map encStr) rfl cB rfl rfl rfl rfl rfl (gX _))<|Dd aL<|Zz<|Sr<|Dm ?_;have hw:bs [⟨#[115,112,108,105,116]⟩,e.id,e.node,e.other]=gF e:=by
   rw[gF]
   (rw[aPS h2,aPS h3,aPS h4,aPS h5,aPT h6];rfl)
  have hne:e.op≠1:=by omega
  have hj:∀H,aI Tryz.prog 158 [.pv (bA [⟨#[115,112,108,105,116]⟩,e.id,e.node,e.other]),sv ⟨#[32]⟩] H (fun x H'=>x=sv ⟨(bU [32] (bs [⟨#[115,112,108,105,116]⟩,e.id,e.node,e.other])).toArray⟩/\H'=H):=fun H=>tG [⟨#[115,112,108,105,116]⟩,e.id,e.node,e.other] ⟨#[32]⟩ H (by decide) (by show 1*_+_+_<_;simp only[cF,aPW,List.length_nil];omega);have hjs:(⟨(bU [32] (bs [⟨#[115,112,108,105,116]⟩,e.id,e.node,e.other])).toArray⟩:ByteArray).size<=70000:=by
   show (bU [32] (bs [⟨#[115,112,108,105,116]⟩,e.id,e.node,e.other])).length<=_;have:=eZ [⟨#[115,112,108,105,116]⟩,e.id,e.node,e.other];simp only[cF,aPW,List.length_nil]at this;omega
  have h10:(⟨#[10]⟩:ByteArray).size=1:=rfl;refine Dd (by exact aA rfl rfl pG rfl (hj _))<|Dd (by exact cH rfl rfl rfl (by omega) rfl)<|Dd aL<|Dd aL<|Zz<|aB<|Ru ?_;rw[uN hne hw,show fP e=0 from aPS hne];exact Qq
 have h6:e.op≠6:=aPR hc6;rw[aPS h6]at o6;have hos:=dM o6;have hw0:(⟨#[106,111,105,110]⟩:ByteArray).size=4:=rfl;refine Rg<|Dd (aS gP)<|Dd (bC isAgg9)<|Dd (aS gV)<|Dd (bC isAgg9)<|Dd (by exact aR (([⟨#[106,111,105,110]⟩,e.id,e.other]:List ByteArray).map encStr) rfl cB rfl rfl rfl rfl rfl (gX _))<|Dd aL<|Zz<|Sr<|Dm ?_;have hw:bs [⟨#[106,111,105,110]⟩,e.id,e.other]=gF e:=by
  rw[gF]
  (rw[aPS h2,aPS h3,aPS h4,aPS h5,aPS h6];rfl)
 have hne:e.op≠1:=by omega
 have hj:∀H,aI Tryz.prog 158 [.pv (bA [⟨#[106,111,105,110]⟩,e.id,e.other]),sv ⟨#[32]⟩] H (fun x H'=>x=sv ⟨(bU [32] (bs [⟨#[106,111,105,110]⟩,e.id,e.other])).toArray⟩/\H'=H):=fun H=>tG [⟨#[106,111,105,110]⟩,e.id,e.other] ⟨#[32]⟩ H (by decide) (by show 1*_+_+_<_;simp only[cF,aPW,List.length_nil];omega);have hjs:(⟨(bU [32] (bs [⟨#[106,111,105,110]⟩,e.id,e.other])).toArray⟩:ByteArray).size<=70000:=by
  show (bU [32] (bs [⟨#[106,111,105,110]⟩,e.id,e.other])).length<=_;have:=eZ [⟨#[106,111,105,110]⟩,e.id,e.other];simp only[cF,aPW,List.length_nil]at this;omega
 have h10:(⟨#[10]⟩:ByteArray).size=1:=rfl;refine Dd (by exact aA rfl rfl pG rfl (hj _))<|Dd (by exact cH rfl rfl rfl (by omega) rfl)<|Dd aL<|Dd aL<|Zz<|aB<|Ru ?_;rw[uN hne hw,show fP e=0 from aPS hne];exact Qq
theorem UE:∀ {l:List GEdit} {acc:List UInt8},(pI acc l).2=0->(∀e∈l,fP e=0)/\pI acc l=(acc++l.flatMap fun e=>fC e++[10],0)/\(acc.length<=20000->(pI acc l).1.length<=20000)
 | [],acc,_=>⟨(fun e h=>by cases h),by rw[pI,List.flatMap_nil,List.append_nil],fun h=>h⟩
 |e::l,acc,h=>by
  rw[pI]at h |-;by_cases h1:fP e≠0\/20000<(acc++(fC e++[10])).length
  ·rw[aPT h1]at h;cases h
  rw[aPS h1]at h |-;rw[not_or,Classical.not_not]at h1;obtain ⟨i1,i2,i3⟩:=UE h;refine⟨fun x hx=>?_,by rw[i2,List.flatMap_cons,List.append_assoc],fun _=>i3 (by omega)⟩;rcases aP6.1 hx with rfl|hx
  ·exact h1.1
  exact i1 x hx
theorem M1{l:List GEdit}(h:kB l=true):l≠[]/\∀e∈l,dU e=true:=by
 rw[kB,aP3,aP3,aP1,aPd,List.any_eq_false]at h;refine⟨fun e=>by rw[e]at h;exact absurd h.1.1 (by decide),fun e he=>?_⟩;have:=h.2 e he
 simpa using this
theorem aGi(w:List UInt8):Lib.trimSuffix (w++[10]) [10]=w:=by rw[Lib.trimSuffix,Lib.hasSuffix,aPT (List.isSuffixOf_iff_suffix.2 ⟨w,rfl⟩)];simp
theorem IX{l:List GEdit}(h:(eW l).2=0):mT (eW l).1=(l,0):=by
 have hc:kB l=true:=by
  rw[eW]at h
  split at h
  ·assumption
  cases h
 obtain ⟨hne,hv⟩:=M1 hc;rw[eW,aPT hc]at h;obtain ⟨h1,h2,h3⟩:=UE h;rw[List.nil_append]at h2;have h4:=h3 (aPb _);have ht:eW l=(ofL (l.flatMap fun e=>fC e++[10]),0):=by rw[eW,aPT hc,h2]
 have hsz:(ofL (l.flatMap fun e=>fC e++[10])).size<=20000:=by rw[dG];rw[h2]at h4;exact h4
 have hl:(kU (ofL (l.flatMap fun e=>fC e++[10])).data.toList).map (fun s=>jE (Lib.trimSuffix s [10]))=l:=by
  have hj:=DQ (ls:=l.map fC) (fun w hw=>by
   obtain ⟨e,he,rfl⟩:=List.mem_map.1 hw;exact(PK (hv e he) (h1 e he)).2)
  rw[List.flatMap_map]at hj;rw[dC,hj,List.map_map,List.map_map];refine(List.map_congr_left fun e he=>?_).trans (List.map_id l);show jE (Lib.trimSuffix (fC e++[10]) [10])=e;rw[aGi];exact(PK (hv e he) (h1 e he)).1
 rw[ht,mT,aPS (by show ¬ 20000<(ofL (l.flatMap fun e=>fC e++[10])).size;omega)];show (if eW ((kU (ofL (l.flatMap fun e=>fC e++[10])).data.toList).map fun s=>jE (Lib.trimSuffix s [10]))=(ofL (l.flatMap fun e=>fC e++[10]),0)then((kU (ofL (l.flatMap fun e=>fC e++[10])).data.toList).map (fun s=>jE (Lib.trimSuffix s [10])),(0:Int))else([],5))=(l,0);rw[hl,aPT ht]
theorem aKo(g:Nat)(l:List UInt8)(u:Bool):aI Tryz.prog 162 [.ref 2001 0 0 0] (vO g l u) (fun r H'=>r=iv (l.length:Int)/\H'=vO g l u):=by refine Bd func162 rfl ntmps162<|Sr<|Dd aL<|Zz<|Sr<|Dd aE<|Dd A6<|Dd (aS gE)<|Dd (bC dV)<|Dd (by exact eF rfl dH rfl rfl rfl)<|Dd aL<|Zz<|aB ?_;refine eG (H':=(vO g l u)) (.inr rfl) rfl (bD rfl) Fin.refl ?_;exact Qq
abbrev aFj(l:List UInt8)(g:Nat)(u:Bool):Ob:=wZ (.osl 2002 g 0 l.length) u
abbrev aFi(l:List UInt8)(g:Nat):Ob:=⟨g,1,5,eQ l⟩
theorem aMx{g':Nat}{l':List UInt8}{u':Bool}(h:(aH.get (vO g l u) id).isSome=true):(aH.get (vO g' l' u') id).isSome=true:=aAl h
theorem aMw{u u':Bool}(h:(aH.get (aCd g l u) id).isSome=true):(aH.get (vO g l u) id).isSome=true:=by
 simp only[aCd,vO,aH.get]at h |-;cases e1:Nat.beq 2001 id with
 |true=>rfl
 |false =>
  cases e2:Nat.beq 2002 id with
  |true=>rfl
  |false=>rw[e1,e2]at h;cases h
theorem aLr(s:ByteArray)(h1:H.get 2001=some (aFj l g u))(h2:H.get 2002=some (aFi l g))(hl:l.length+s.size<70368744177664):aI Tryz.prog 109 [.ref 2001 0 0 0,sv s] H (fun r H'=>r=.tup [iv (s.size:Int),.pv HL]/\H'=vO (g+1) (l++s.data.toList) true++H) :=aI.frame (iU g l u s hl) (Sub.of2 h1 h2) (eI.ofL ⟨(by exact fY rfl rfl),(by exact eN _ _),trivial⟩) (by simp;rfl) (fun id h=>.inl (aMx h))
theorem aKn(h1:H.get 2001=some (aFj l g u))(h2:H.get 2002=some (aFi l g)):aI Tryz.prog 162 [.ref 2001 0 0 0] H (fun r H'=>r=iv (l.length:Int)/\H'=H) :=aI.frameS (aKo g l u) (Sub.of2 h1 h2) (eI.ofL ⟨(by exact fY rfl rfl),(by exact eN _ _),trivial⟩) (by simp;rfl)
theorem aJt(h1:H.get 2001=some (aFj l g u))(h2:H.get 2002=some (aFi l g))(hl:l.length<70368744177664):aI Tryz.prog 111 [.ref 2001 0 0 0] H (fun r H'=>r=sv ⟨l.toArray⟩/\H'=aCd g l u++H) :=aI.frame (PC g l u hl) (Sub.of2 h1 h2) (eI.ofL ⟨(by exact fY rfl rfl),(by exact eN _ _),trivial⟩) (by simp;rfl) (fun id h=>.inl (aMw (u':=u) h))
def uK:Nat->Bool
 |0=>false
 |_+1=>true
def nV(l:List GEdit)(k:Nat):List UInt8:=(l.take k).flatMap fun e=>fC e++[10]
theorem RD{l:List GEdit}(h:l[k]?=some e):nV l (k+1)=nV l k++(fC e++[10]):=by rw[nV,List.take_add_one,h,List.flatMap_append];simp[nV]
theorem QC(he:dU e=true):(fC e).length<=100000:=by
 obtain ⟨⟨o1,o2⟩,o3,o4⟩:=uT.1 he;rw[qW]at o3;have hval:=EC he;by_cases h1:e.op=1
 ·rw[fC,aPT h1,aPV,aPW,aZ];have:=HK (o:=e.obj);show 3+_<=_;omega
 rw[aPS h1,aP3]at o3;obtain ⟨o5,o6⟩:=o3;have hid:=dM o5;have key:∀ws:List ByteArray,bs ws=gF e->ws.length+cY ws<=100000->(fC e).length<=100000:=fun ws h h2=>by
  rw[fC,aPS h1,<-h];exact Nat.le_trans (eZ ws) h2
 by_cases h2:e.op=2
 ·rw[aPT h2,onP,aP3,aP1,aP1]at o6;have six:(aV e.x).size<=7:=by rw[<-aZ];show (Lib.itoa e.x).length<=7;rw[iL _ (by omega)];exact dX (by omega) (by decide)
  have siy:(aV e.y).size<=7:=by rw[<-aZ];show (Lib.itoa e.y).length<=7;rw[iL _ (by omega)];exact dX (by omega) (by decide)
  have hw0:(⟨#[109,111,118,101]⟩:ByteArray).size=4:=rfl;exact key [⟨#[109,111,118,101]⟩,e.id,aV e.x,aV e.y] (by rw[gF,aPT h2];rfl) (by simp only[cF,aPW,List.length_nil,show cY []=0 from rfl];omega)
 rw[aPS h2]at o6;by_cases h3:e.op=3
 ·rw[aPT h3,aP3]at o6;have hks:=dM o6.1;have hq:=oY e.val;have hw0:(⟨#[116,97,103]⟩:ByteArray).size=3:=rfl;exact key [⟨#[116,97,103]⟩,e.id,e.key,⟨(eD e.val.data.toList).toArray⟩] (by rw[gF,aPS h2,aPT h3];rfl) (by simp only[cF,aPW,List.length_nil,show cY []=0 from rfl];omega)
 rw[aPS h3]at o6;by_cases h4:e.op=4
 ·rw[aPT h4,aP3,aP3,aP1,aP1,List.all_eq_true]at o6;obtain ⟨⟨r1,r2⟩,r3⟩:=o6;have hrs:cY e.refs<=24*e.refs.length:=nE (fun s hs=>dM (r3 s hs));have hw0:(⟨#[114,101,102,115]⟩:ByteArray).size=4:=rfl;exact key (⟨#[114,101,102,115]⟩::e.id::e.refs) (by rw[gF,aPS h2,aPS h3,aPT h4];rfl) (by simp only[cF,aPW];omega)
 rw[aPS h4]at o6;by_cases h5:e.op=5
 ·have hw0:(⟨#[100,114,111,112]⟩:ByteArray).size=4:=rfl;exact key [⟨#[100,114,111,112]⟩,e.id] (by rw[gF,aPS h2,aPS h3,aPS h4,aPT h5];rfl) (by simp only[cF,aPW,List.length_nil,show cY []=0 from rfl];omega)
 rw[aPS h5]at o6;by_cases h6:e.op=6
 ·rw[aPT h6,aP3]at o6;have hns:=dM o6.1;have hos:=dM o6.2;have hw0:(⟨#[115,112,108,105,116]⟩:ByteArray).size=5:=rfl;exact key [⟨#[115,112,108,105,116]⟩,e.id,e.node,e.other] (by rw[gF,aPS h2,aPS h3,aPS h4,aPS h5,aPT h6];rfl) (by simp only[cF,aPW,List.length_nil,show cY []=0 from rfl];omega)
 rw[aPS h6]at o6;have hos:=dM o6;have hw0:(⟨#[106,111,105,110]⟩:ByteArray).size=4:=rfl;exact key [⟨#[106,111,105,110]⟩,e.id,e.other] (by rw[gF,aPS h2,aPS h3,aPS h4,aPS h5,aPS h6];rfl) (by simp only[cF,aPW,List.length_nil,show cY []=0 from rfl];omega)
theorem aAK(l:List GEdit)(H:aH)(hl:l.length<4611686018427387904)(he:∀e∈l,MB e):aI Tryz.prog 118 [.pv (iF l)] H (fun r H'=>r=.tup [sv (eW l).1,iv (eW l).2]/\H'=H):=by
 refine Pu ?_;have hml:(l.map aW).length=l.length:=aPU _;refine Bd func118 rfl ntmps118<|Sr<|Dd aL<|Dd aL<|Zz<|Sq<|Sr<|Dd aE<|Dd (by exact aA rfl rfl call160 rfl (OX l _ hl he))<|Dd iQ<|Zz ?_;refine Cn ?_ ?_<;>intro hc1
 ·have hg:kB l=false:=by have h:=hc1;rwa [aPd]at h
  rw[show eW l=(sNil,1)by rw[eW,hg];rfl];exact Sr<|Dd aL<|Dd aL<|Zz<|aB<|Ru<|Qq
 have hg:kB l=true:=by have h:=hc1;rwa [Bool.not_eq_false']at h
 have hv:=(M1 hg).2;have hT:eW l=(ofL (pI [] l).1,(pI [] l).2):=by rw[eW,aPT hg]
 refine aC<|Sr<|Dd (by exact bW (id:=2001) rfl G3 rfl rfl)<|Zz<|Sq<|Sq ?_;refine gR.ent (E':=[(0,.pv (iF l)),(4,.ref 2001 0 0 0)]) (H':=[(2002,⟨0,1,5,[]⟩),(2001,wZ (.osl 2002 0 0 0) false)]) (dA.nz 2002 1 5 rfl rfl ⟨⟨_,rfl,(by exact Nz.same (by(simp;done)))⟩,⟨_,rfl,(by exact Nz.same (by(simp;rfl)))⟩,trivial⟩ ⟨⟨_,rfl,rfl,rfl,rfl,(by exact .inr ⟨_,_,rfl,rfl,(by repeat(first|exact trivial|refine⟨(by first|exact Nz.own|exact Nz.same (by(simp;done))),?_⟩))⟩)⟩,trivial⟩ trivial) ?_;refine Rg<|Dd aE<|Dd (fE cX)<|Dd aE<|Zz<|aG ?_;refine bT (σ:=Nat) (fun k=>([(4,.ref 2001 0 0 0),(12,.pv (iF l)),(13,iv ((l.map aW).length:Int)),(14,iv (k:Int))],[(2001,aFj (nV l k) k (uK k)),(2002,aFi (nV l k) k)])) (fun k=>k<=l.length/\pI [] l=pI (nV l k) (l.drop k)/\(nV l k).length<=20000) (fun k=>l.length - k) 0 ⟨aPb _,rfl,aPb _⟩ ?_ ?_
 ·exact(dA.wk (Ea<|Eb<|Eb<|Eb<|trivial) (Hc (fY rfl rfl)<|Hc (eN _ _)<|trivial) trivial)
 rintro k ⟨hk,hF,hA⟩;refine Sr<|Dd cZ<|Zz<|Sq ?_;refine Cn ?_ ?_<;>intro hc2
 ·have hlt:k<l.length:=by have:=aPQ hc2;omega
  obtain ⟨e,hke⟩:=aU hlt;have hi:=cJ (f:=aW) hke;have hem:=aP4 hke;have hnx:=RD hke;have hYl:=QC (hv e hem);have hdr:l.drop k=e::l.drop (k+1):=by
   rw[List.drop_eq_getElem_cons hlt];rw[aPZ hlt]at hke;cases hke;rfl
  rw[hdr,pI]at hF;have hsz:(ofL (fC e++[10])).size=(fC e).length+1:=by rw[dG,aPV];rfl
  have hbl:vO (k+1) (nV l k++(ofL (fC e++[10])).data.toList) true=vO (k+1) (nV l (k+1)) true:=by rw[dC,hnx]
  have hnl:(nV l (k+1)).length=(nV l k).length+((fC e).length+1):=by rw[hnx,aPV,aPV];rfl
  have hw:∀H,H.get 2001=some (aFj (nV l k) k (uK k))->H.get 2002=some (aFi (nV l k) k)->aI Tryz.prog 109 [.ref 2001 0 0 0,sv (ofL (fC e++[10]))] H (fun r H'=>r=.tup [iv ((ofL (fC e++[10])).size:Int),.pv HL]/\H'=vO (k+1) (nV l (k+1)) true++H):=fun H h1 h2=>by
   have:=aLr (H:=H) (ofL (fC e++[10])) h1 h2 (by omega)
   rwa [hbl]at this
  refine aC<|Sq<|aG<|Sr<|Dd (mE RU)<|Dd (by exact dN rfl cA aX rfl (by omega) rfl rfl)<|Dd (by exact bW (id:=6) rfl O0 rfl rfl)<|Uu (lG aX)<|Zz<|Sr<|Dd (pU cA aX)<|Dd (by exact aA rfl rfl call161 rfl (aKj e _ (he e hem) (hv e hem)))<|Dd aE<|Dd fS<|Dd fS<|Dd aL<|Dd aL<|Zz<|Sr<|Dd aE<|Dd (by exact aA rfl rfl nB rfl (hw _ rfl rfl))<|Zz<|Sq ?_;refine aT (t:=30) (n:=7) (X:=!decide (fP e=0)||decide ((20000:Int)<((nV l (k+1)).length:Int))) ?_ ?_
  ·all_goals refine Dd aE ?_
   all_goals refine Dd xY<|Dm ?_
   all_goals refine Sp 27 (fun h27=>?_) fun h27=>?_
   all_goals try contradiction
   all_goals first|refine Fo<|Fo ?_|refine On (by exact aA rfl rfl xG rfl (aKn (l:=nV l (k+1)) (g:=k+1) (u:=true) rfl rfl))<|On iE ?_
   all_goals refine Dd cG<|Zz ?_
   all_goals(exact⟨⟨_,rfl,by(simp only[*,Zo];done)⟩,rfl,rfl,rfl⟩)
  refine Cn ?_ ?_<;>intro hc3
  ·have hbad:fP e≠0\/20000<(nV l k++(fC e++[10])).length:=by have h:=hc3;rw[<-hnx];simp only[Bool.or_eq_true,aPd,aP2,aP1]at h;omega
   rw[aPT hbad]at hF;rw[hT,hF];exact Sr<|Dd aL<|Dd aL<|Zz<|aB<|Ru<|Qq
  have hfine:¬ (fP e≠0\/20000<(nV l k++(fC e++[10])).length):=by have h:=hc3;rw[<-hnx];simp only[aPg,Bool.not_eq_false',aP2,aP1]at h;omega
  rw[aPS hfine,<-hnx]at hF;rw[<-hnx]at hfine;refine aC<|Rg<|Dd mI<|Dd aE<|Zz ?_;exact⟨k+1,⟨hlt,hF,by omega⟩,by omega,(dA.wk (Ea<|Eb<|Eb<|Eb<|trivial) (Hc (fY rfl rfl)<|Hc (eN _ _)<|trivial) trivial)⟩
 have hge:k=l.length:=by have:=aPR hc2;omega
 subst hge;rw[List.drop_length,pI]at hF;rw[hT,hF];exact aY<|Sr<|Dd (by exact aA rfl rfl nA rfl (aJt (l:=nV l l.length) (g:=l.length) (u:=uK l.length) rfl rfl (by omega)))<|Dd aL<|Dd aL<|Zz<|aB<|Ru<|Qq
theorem U4(s:ByteArray):(nZ s).data.toList=(aV (s.size:Int)).data.toList++[58]++s.data.toList:=by rw[nZ,ByteArray.data_append,ByteArray.data_append,Array.toList_append,Array.toList_append]
theorem QG(l:List ByteArray)(H:aH)(hl:(aO l).length<35184372088832):aI Tryz.prog 41 [.pv (bA l)] H (fun r H'=>r=sv ⟨(aO l).toArray⟩/\H'=H):=by
 refine Pu ?_;have hml:(l.map encStr).length=l.length:=aPU _;have hll:=BY l;refine Bd func41 rfl ntmps41<|Sr<|Dd aL<|Zz<|Sr<|Dd (by exact bW (id:=2001) rfl G3 rfl rfl)<|Zz<|Sq<|Sq ?_;refine gR.ent (E':=[(0,.pv (bA l)),(3,.ref 2001 0 0 0)]) (H':=vO 0 [] false) (dA.bld0 ⟨⟨_,rfl,.same (by simp)⟩,⟨_,rfl,.same (by simp;rfl)⟩,trivial⟩) ?_;refine Rg<|Dd aE<|Dd (fE underlying72)<|Dd aE<|Zz<|aG ?_;refine IG (fun(k g:Nat) (u:Bool)=>([(3,.ref 2001 0 0 0),(6,.pv (bA l)),(7,iv ((l.map encStr).length:Int)),(8,iv (k:Int))],vO g (aO (l.take k)) u)) (fun k g u=>k<=l.length) (fun k g u=>l.length - k) 0 0 false (aPb _) ?_ ?_
 ·exact(dA.wk (Ea<|Eb<|Eb<|Eb<|trivial) (Hc (fY rfl rfl)<|Hc (eN _ _)<|trivial) trivial)
 intro k g u hk;have hle:=zX l k;refine Sr<|Dd cZ<|Zz<|Sq ?_;refine Cn ?_ ?_<;>intro hc1
 ·have hlt:k<l.length:=by have:=aPQ hc1;omega
  obtain ⟨s,hs⟩:=aU hlt;have hi:=cJ (f:=encStr) hs;have hle2:=zX l (k+1);rw[pJ hs,tH,aPV,nF,pN]at hle2;have hsz:s.size<35184372088832:=by omega
  have hnx:aO (l.take (k+1))=aO (l.take k)++(aV (s.size:Int)).data.toList++[58]++s.data.toList:=by
   rw[pJ hs,tH,U4,List.append_assoc,List.append_assoc,List.append_assoc]
  have hl1:(aO (l.take k)++(aV (s.size:Int)).data.toList).length=(aO (l.take k)).length+(aV (s.size:Int)).size:=by rw[aPV,nF]
  have hl2:(aO (l.take k)++(aV (s.size:Int)).data.toList++[58]).length=(aO (l.take k)).length+(aV (s.size:Int)).size+1:=by rw[aPV,hl1];rfl
  refine aC<|Sq<|aG<|Sr<|Dd (by exact bP rfl X1 rfl rfl (by omega) (by exact aP5 _) hi rfl)<|Dd (iJ isAgg9 (hi:=hi))<|Dd aL<|Zz<|Sr<|Dd aE<|Dd (jV underlying9)<|Dd (by exact aA rfl rfl pH rfl (tI (s.size:Int) (by omega) (by omega) _))<|Dd (by exact aA rfl rfl nB rfl (iU g (aO (l.take k)) u (aV (s.size:Int)) (by omega)))<|Zz<|Sr<|Dd (by exact aA rfl rfl kZ rfl (iV (g+1) (aO (l.take k)++(aV (s.size:Int)).data.toList) true 58 (by omega)))<|Zz<|Rg<|Dd aE<|Dd (by exact aA rfl rfl nB rfl (iU (g+1+1) (aO (l.take k)++(aV (s.size:Int)).data.toList++[58]) true s (by omega)))<|Zz<|Rg<|Dd (by exact bZ rfl rfl rfl (show IntKind.i64.wrap ((k:Int)+1)=((k+1:Nat):Int)by rw[kK (by omega) (by omega)];omega)) ?_;refine Dd aE<|Zz ?_;refine⟨k+1,g+1+1+1,true,by omega,by omega,?_⟩;rw[hnx];exact(dA.wk (Ea<|Eb<|Eb<|Eb<|trivial) (Hc (fY rfl rfl)<|Hc (eN _ _)<|trivial) trivial)
 have hge:k=l.length:=by have:=aPR hc1;omega
 subst hge;rw[List.take_length];exact aY<|Sr<|Dd (by exact aA rfl rfl nA rfl (PC g (aO l) u (by omega)))<|Dd aL<|Zz<|aB<|Rt<|Qq
def iK(l:List GEdit):ByteArray×Bool:=if l.length=0 then(sNil,true)else((eW l).1,decide ((eW l).2=0))
theorem aAJ(l:List GEdit)(H:aH)(hl:l.length<1099511627776)(he:∀e∈l,MB e):aI Tryz.prog 72 [.pv (iF l)] H (fun r H'=>r=.tup [sv (iK l).1,bv (iK l).2]/\H'=H):=by
 refine Pu ?_;have hml:(l.map aW).length=l.length:=aPU _;have htx:=fun H=>aAK l H (by omega) he;have e0:l.length=0->iK l=(sNil,true):=fun h=>by rw[iK,aPT h]
 have e1:l.length≠0->iK l=((eW l).1,decide ((eW l).2=0)):=fun h=>by rw[iK,aPS h]
 obtain ⟨T,hT⟩:∃T,T=eW l:=⟨_,rfl⟩;rw[<-hT]at htx e1;refine Bd func72 rfl ntmps72<|Sr<|Dd aL<|Dd aL<|Zz<|Sq<|Sr<|Dd aE<|Dd (fE cX)<|Dd cK<|Zz ?_;refine Cn ?_ ?_<;>intro hc1
 ·have h0:l.length=0:=by have:=aPQ hc1;omega
  rw[e0 h0];exact Sr<|Dd aL<|Dd aL<|Zz<|aB<|Ru<|Qq
 have h0:l.length≠0:=by have:=aPR hc1;omega
 rw[e1 h0];exact aC<|Sr<|Dd aE<|Dd (by exact aA rfl rfl call118 rfl (htx _))<|Dd aE<|Dd fS<|Dd fS<|Dd aL<|Dd aL<|Zz<|Sr<|Dd aE<|Dd aE<|Dd cK<|Dd aL<|Dd aL<|Zz<|aB<|Ru<|Qq
def UT:ByteArray:=⟨#[114,101,99,111,114,100]⟩
def FE(r:GRec)(T:ByteArray):List IV:=[.t UT,.n r.kind,.n r.author,.n r.number,.n r.clock,.t r.branch,.l r.parents,.t T,.t r.target,.b r.yes,.n r.order,.t r.from']
def iA(r:GRec):Prop:=(rQ r.kind/\rQ r.author/\rQ r.number/\rQ r.clock/\rQ r.order)/\(r.branch.size<1099511627776/\r.target.size<1099511627776/\r.from'.size<1099511627776)/\D6 r.parents/\(r.edits.length<1099511627776/\∀e∈r.edits,MB e)/\rG r.sl/\SN r.priv
theorem aH0(h:iA r)(T:ByteArray):∀v∈FE r T,okI v:=by
 obtain ⟨⟨a1,a2,a3,a4,a5⟩,_,b1,_⟩:=h;intro v hv;simp only[FE,aP6,aPa,or_false]at hv;rcases hv with rfl|rfl|rfl|rfl|rfl|rfl|rfl|rfl|rfl|rfl|rfl|rfl
 ·exact trivial
 ·exact a1
 ·exact a2
 ·exact a3
 ·exact a4
 ·exact trivial
 ·exact b1.1
 ·exact trivial
 ·exact trivial
 ·exact trivial
 ·exact a5
 exact trivial
theorem U0(T:ByteArray):(rS (FE r T)).length=r.parents.length+12:=by simp[FE,rS,fI]
def nG(r:GRec):List ByteArray:=rS (FE r (iK r.edits).1)
def U1(r:GRec):Nat:=ZG (FE r (iK r.edits).1)
theorem PS(r:GRec)(hr:iA r)(hp:r.parents.length<549755813888):aI Tryz.prog 39 [av (cC r)] [] (fun x H'=>x=.osl 971 (U1 r) 0 (nG r).length/\H'=[(971,⟨U1 r,1,9,dF (nG r)⟩)]):=by
 have htx:=fun H=>aAJ r.edits H hr.2.2.2.1.1 hr.2.2.2.1.2;rw[nG,U1];obtain ⟨T,hT⟩:∃T,T=(iK r.edits).1:=⟨_,rfl⟩;obtain ⟨b,hb⟩:∃b,b=(iK r.edits).2:=⟨_,rfl⟩;rw[<-hT,<-hb]at htx;rw[<-hT];have hlen:=U0 (r:=r) T;have hadd:=Z1 (FE r T) (aH0 hr T) 0 [] (show 12<1099511627776 by decide) (by rw[hlen,List.length_nil];omega);rw[aPc,List.nil_append]at hadd;refine Bd func39 rfl ntmps39<|Sr<|Dd (by exact cD (id:=1) rfl rfl rfl rfl rfl)<|Dd aL<|Zz<|Sr<|Dd (by exact bW (id:=970) rfl aLf rfl rfl)<|Zz<|Sr<|Dd (aS uV)<|Dd (bC iI)<|Dd (by exact aA rfl rfl call72 rfl (htx _))<|Dd aE<|Dd fS<|Dd fS<|Dd aL<|Dd aL<|Zz<|Sq ?_;refine gR.ent (E':=[(1,.ref 1 0 0 0),(3,.ref 970 0 0 0),(4,sv T)]) (H':=(971,⟨0,1,9,[]⟩)::(970,bx 1 72 [.osl 971 0 0 0])::(1,bx 21 30 ((cC r).map .pv))::[]) ?_ ?_
 ·exact(dA.nz 971 1 9 rfl rfl ⟨⟨_,rfl,(by exact Nz.same (by(simp;rfl)))⟩,⟨_,rfl,(by exact Nz.same (by(simp;rfl)))⟩,⟨_,rfl,(by exact Nz.same (by(simp;done)))⟩,trivial⟩ ⟨⟨_,rfl,rfl,rfl,rfl,(by exact .inr ⟨_,_,rfl,rfl,(by repeat(first|exact trivial|refine⟨(by exact Nz.own),?_⟩))⟩)⟩,⟨_,rfl,rfl,rfl,rfl,(by exact .inl ⟨rfl,(by(simp;done))⟩)⟩,trivial⟩ trivial)
 refine Rg<|Dd (by exact fD (p:=.str UT) rfl (dQ underlying9 rfl) rfl)<|Dd (aS lQ)<|Dd (bC isAgg3)<|Dd (by exact fD (p:=.int .i64 r.kind) rfl (dQ underlying3 rfl) rfl)<|Dd (aS qP)<|Dd (bC isAgg3)<|Dd (by exact fD (p:=.int .i64 r.author) rfl (dQ underlying3 rfl) rfl)<|Dd (aS lP)<|Dd (bC isAgg3)<|Dd (by exact fD (p:=.int .i64 r.number) rfl (dQ underlying3 rfl) rfl)<|Dd (aS uX)<|Dd (bC isAgg3)<|Dd (by exact fD (p:=.int .i64 r.clock) rfl (dQ underlying3 rfl) rfl)<|Dd (aS uW)<|Dd (bC isAgg9)<|Dd (by exact fD (p:=.str r.branch) rfl (dQ underlying9 rfl) rfl)<|Dd (aS kW)<|Dd (bC aF)<|Dd (by exact fD (p:=bA r.parents) rfl (dQ aD rfl) rfl)<|Dd aE<|Dd (by exact fD (p:=.str T) rfl (dQ underlying9 rfl) rfl) ?_;refine Dd (aS uU)<|Dd (bC isAgg9)<|Dd (by exact fD (p:=.str r.target) rfl (dQ underlying9 rfl) rfl)<|Dd (aS B3)<|Dd (bC oT)<|Dd (by exact fD (p:=.bool r.yes) rfl (dQ dD rfl) rfl)<|Dd (aS sO)<|Dd (bC isAgg3)<|Dd (by exact fD (p:=.int .i64 r.order) rfl (dQ underlying3 rfl) rfl)<|Dd (aS qO)<|Dd (bC isAgg9)<|Dd (by exact fD (p:=.str r.from') rfl (dQ underlying9 rfl) rfl)<|Dd (by exact aR ((FE r T).map wX) rfl vW rfl rfl rfl rfl rfl (M8 (FE r T)))<|Dd (by exact aA rfl rfl vP rfl (XA hadd ⟨rfl,rfl,trivial⟩ (by simp;rfl)))<|Zz<|Sr<|Dd (bC DF)<|Dd aL<|Zz<|aB ?_;refine eG (H':=[(971,⟨ZG (FE r T),1,9,dF (rS (FE r T))⟩)]) (.inr rfl) rfl (bD rfl) (Fin.wk (by(simp;rfl)) (Hc (cE _ _)<|trivial) trivial) ?_;exact Qq
end Go.Proofs.YtmdicgjnmfolfaaGreatDoor
section
namespace Go.Proofs
open Go.RowKit Go.Sort Go.Shelf
def aPK:Go.Shelf.Ren:=⟨fun|172=>114|244=>151|245=>152|247=>189|279=>190|280=>191|281=>192|282=>193|287=>224|316=>225|171=>108|205=>226|321=>257|322=>258|243=>146|246=>181|283=>215|284=>216|285=>217|286=>218|129=>250|317=>249|318=>251|319=>252|320=>253|337=>271|338=>272|n=>n,fun|9=>9|3=>3|75=>139|76=>140|4=>4|5=>5|167=>206|37=>124|0=>0|85=>207|2=>2|168=>209|53=>122|175=>237|46=>125|210=>240|127=>174|145=>268|143=>266|21=>21|171=>230|173=>233|212=>257|51=>258|20=>20|213=>259|232=>282|233=>283|80=>75|n=>n,fun|15=>1|16=>2|17=>3|18=>6|19=>7|n=>n⟩
theorem aPP:Go.Proofs.LaysC.n172 Tryz.prog aPK:={
  mixed:=by kernel_rfl
  f129:=Tryz.func250.trans (congrArg some (by kernel_rfl))
  f171:=Tryz.func108.trans (congrArg some (by kernel_rfl))
  f172:=Tryz.func114.trans (congrArg some (by kernel_rfl))
  f205:=Tryz.func226.trans (congrArg some (by kernel_rfl))
  f243:=Tryz.func146.trans (congrArg some (by kernel_rfl))
  f244:=Tryz.func151.trans (congrArg some (by kernel_rfl))
  f245:=Tryz.func152.trans (congrArg some (by kernel_rfl))
  f246:=Tryz.func181.trans (congrArg some (by kernel_rfl))
  f247:=Tryz.func189.trans (congrArg some (by kernel_rfl))
  f279:=Tryz.func190.trans (congrArg some (by kernel_rfl))
  f280:=Tryz.func191.trans (congrArg some (by kernel_rfl))
  f281:=Tryz.func192.trans (congrArg some (by kernel_rfl))
  f282:=Tryz.func193.trans (congrArg some (by kernel_rfl))
  f283:=Tryz.func215.trans (congrArg some (by kernel_rfl))
  f284:=Tryz.func216.trans (congrArg some (by kernel_rfl))
  f285:=Tryz.func217.trans (congrArg some (by kernel_rfl))
  f286:=Tryz.func218.trans (congrArg some (by kernel_rfl))
  f287:=Tryz.func224.trans (congrArg some (by kernel_rfl))
  f316:=Tryz.func225.trans (congrArg some (by kernel_rfl))
  f317:=Tryz.func249.trans (congrArg some (by kernel_rfl))
  f318:=Tryz.func251.trans (congrArg some (by kernel_rfl))
  f319:=Tryz.func252.trans (congrArg some (by kernel_rfl))
  f320:=Tryz.func253.trans (congrArg some (by kernel_rfl))
  f321:=Tryz.func257.trans (congrArg some (by kernel_rfl))
  f322:=Tryz.func258.trans (congrArg some (by kernel_rfl))
  f337:=Tryz.func271.trans (congrArg some (by kernel_rfl))
  f338:=Tryz.func272.trans (congrArg some (by kernel_rfl))
  t0:=aGM
  a0:=aPC
  z0:=aO6
  v0:=aIw
  t2:=Tryz.underlying2
  a2:=Tryz.isAgg2
  z2:=Tryz.sizeOf2
  v2:=Tryz.zeroValue2
  t3:=Tryz.underlying3
  a3:=Tryz.isAgg3
  z3:=Tryz.sizeOf3
  v3:=CI
  t4:=dD
  a4:=oT
  z4:=Tryz.sizeOf4
  v4:=mX
  t5:=fQ
  a5:=A7
  z5:=cL
  v5:=CH
  t9:=Tryz.underlying9
  a9:=Tryz.isAgg9
  z9:=Tryz.sizeOf9
  v9:=tT
  t20:=GY
  a20:=sJ
  z20:=aNU
  v20:=aGL
  t21:=Tryz.underlying21
  a21:=Tryz.isAgg21
  z21:=Tryz.sizeOf21
  v21:=Tryz.zeroValue21
  t37:=dH
  a37:=dV
  z37:=oH
  v37:=Tryz.zeroValue124
  t46:=ER
  a46:=XL
  z46:=TQ
  v46:=GU
  t51:=Tryz.underlying258
  a51:=Tryz.isAgg258
  z51:=Tryz.sizeOf258
  v51:=Tryz.zeroValue258
  t53:=jM
  a53:=IM
  z53:=ET
  v53:=GW
  t75:=pE
  a75:=Tryz.isAgg139
  z75:=Tryz.sizeOf139
  v75:=Tryz.zeroValue139
  t76:=Tryz.underlying140
  a76:=Tryz.isAgg140
  z76:=Tryz.sizeOf140
  v76:=Tryz.zeroValue140
  t85:=Tryz.underlying207
  a85:=Tryz.isAgg207
  z85:=Tryz.sizeOf207
  v85:=Tryz.zeroValue207
  t127:=vL
  a127:=Tryz.isAgg174
  z127:=Tryz.sizeOf174
  v127:=Tryz.zeroValue174
  t143:=Tryz.underlying266
  a143:=Tryz.isAgg266
  z143:=Tryz.sizeOf266
  v143:=Tryz.zeroValue266
  t145:=Tryz.underlying268
  a145:=Tryz.isAgg268
  z145:=Tryz.sizeOf268
  v145:=Tryz.zeroValue268
  t167:=Tryz.underlying206
  a167:=Tryz.isAgg206
  z167:=Tryz.sizeOf206
  v167:=Tryz.zeroValue206
  t168:=Tryz.underlying209
  a168:=Tryz.isAgg209
  z168:=Tryz.sizeOf209
  v168:=Tryz.zeroValue209
  t171:=Tryz.underlying230
  a171:=Tryz.isAgg230
  z171:=Tryz.sizeOf230
  v171:=Tryz.zeroValue230
  t173:=Tryz.underlying233
  a173:=Tryz.isAgg233
  z173:=Tryz.sizeOf233
  v173:=Tryz.zeroValue233
  t175:=Tryz.underlying237
  a175:=Tryz.isAgg237
  z175:=Tryz.sizeOf237
  v175:=Tryz.zeroValue237
  t210:=Tryz.underlying240
  a210:=Tryz.isAgg240
  z210:=Tryz.sizeOf240
  v210:=Tryz.zeroValue240
  t212:=Tryz.underlying257
  a212:=Tryz.isAgg257
  z212:=Tryz.sizeOf257
  v212:=Tryz.zeroValue257
  t213:=Tryz.underlying259
  a213:=Tryz.isAgg259
  z213:=Tryz.sizeOf259
  t232:=Tryz.underlying282
  a232:=Tryz.isAgg282
  z232:=Tryz.sizeOf282
  v232:=Tryz.zeroValue282
  t233:=Tryz.underlying283
  a233:=Tryz.isAgg283
  z233:=Tryz.sizeOf283
  v233:=Tryz.zeroValue283
  g15:=by kernel_rfl
  g16:=by kernel_rfl
  g17:=by kernel_rfl
  g18:=by kernel_rfl
  g19:=by kernel_rfl
  t80:=Tryz.underlying75
  a80:=Tryz.isAgg75
  z80:=Tryz.sizeOf75
  v80:=Tryz.zeroValue75
  i0:=by kernel_rfl
  i2:=by kernel_rfl
  i3:=by kernel_rfl
  i4:=by kernel_rfl
  i5:=by kernel_rfl
  i9:=by kernel_rfl
  i20:=by kernel_rfl
  i21:=by kernel_rfl
  i37:=by kernel_rfl
  i46:=by kernel_rfl
  i51:=by kernel_rfl
  i53:=by kernel_rfl
  i75:=by kernel_rfl
  i76:=by kernel_rfl
  i80:=by kernel_rfl
  i85:=by kernel_rfl
  i127:=by kernel_rfl
  i143:=by kernel_rfl
  i145:=by kernel_rfl
  i167:=by kernel_rfl
  i168:=by kernel_rfl
  i171:=by kernel_rfl
  i173:=by kernel_rfl
  i175:=by kernel_rfl
  i210:=by kernel_rfl
  i212:=by kernel_rfl
  i232:=by kernel_rfl
  i233:=by kernel_rfl
  m15:=by kernel_rfl
  m16:=by kernel_rfl
  m17:=by kernel_rfl
  m18:=by kernel_rfl
  m19:=by kernel_rfl
  c0:=by kernel_rfl
  c2:=by kernel_rfl
  c3:=by kernel_rfl
  c4:=by kernel_rfl
  c5:=by kernel_rfl
  c9:=by kernel_rfl
  c20:=by kernel_rfl
  c21:=by kernel_rfl
  c37:=by kernel_rfl
  c46:=by kernel_rfl
  c51:=by kernel_rfl
  c53:=by kernel_rfl
  c75:=by kernel_rfl
  c76:=by kernel_rfl
  c80:=by kernel_rfl
  c85:=by kernel_rfl
  c127:=by kernel_rfl
  c143:=by kernel_rfl
  c145:=by kernel_rfl
  c167:=by kernel_rfl
  c168:=by kernel_rfl
  c171:=by kernel_rfl
  c173:=by kernel_rfl
  c175:=by kernel_rfl
  c210:=by kernel_rfl
  c212:=by kernel_rfl
  c213:=by kernel_rfl
  c232:=by kernel_rfl
  c233:=by kernel_rfl}
end Go.Proofs
namespace Go.Proofs.YtmdicgjnmfolfaaGreatDoor
open Go.Proofs.Tryz
open Go.Abs
theorem KL(s:ByteArray)(hs:s.size<1099511627776)(H:aH):aI Tryz.prog 114 [sv s] H (fun r H'=>r=.tup [iv (nY s).1,.pv (nY s).2]/\H'=H) :=Go.Abs.atoi_c aPP (G1:=1) (G2:=2) (by unfold S3;exact .tail _ (.tail _ (.head _))) (by kernel_rfl) (by unfold S3;exact .tail _ (.head _)) (by kernel_rfl) s hs H
end Go.Proofs.YtmdicgjnmfolfaaGreatDoor
end
namespace Go.Proofs.YtmdicgjnmfolfaaGreatDoor
open Go.Proofs.Tryz
open Go.Abs
theorem VJ(s:ByteArray)(H:aH)(hs:s.size<1099511627776):aI Tryz.prog 156 [sv s] H (fun r H'=>r=iv (ON s.data.toList)/\H'=H):=by
 refine Pu ?_;have hA:=KL s hs;unfold nY at hA;unfold ON;cases h:Lib.atoiAll s.data.toList with
 |ok v =>
  simp only[h]at hA;refine Bd aO8 rfl aNW<|Sr<|Dd aL<|Zz<|Sr<|Dd aE<|Dd (by exact aA rfl rfl xJ rfl (hA _))<|Dd aE<|Dd fS<|Dd fS<|Dd aL<|Dd aL<|Zz<|Sq<|Sr<|Dd aE<|Dd (by exact LX rfl pE rfl)<|Zz ?_;refine Cn ?_ ?_<;>intro hc1
  ·cases hc1
  exact aC<|Sr<|Dd aE<|Dd aL<|Zz<|aB<|Rt<|Qq
 |range =>
  simp only[h]at hA;refine Bd aO8 rfl aNW<|Sr<|Dd aL<|Zz<|Sr<|Dd aE<|Dd (by exact aA rfl rfl xJ rfl (hA _))<|Dd aE<|Dd fS<|Dd fS<|Dd aL<|Dd aL<|Zz<|Sq<|Sr<|Dd aE<|Dd (by exact D3 rfl pE rfl)<|Zz ?_;refine Cn ?_ ?_<;>intro hc1
  ·exact Sr<|Dd aL<|Zz<|aB<|Rt<|Qq
  cases hc1
 |_ =>
  simp only[h]at hA;refine Bd aO8 rfl aNW<|Sr<|Dd aL<|Zz<|Sr<|Dd aE<|Dd (by exact aA rfl rfl xJ rfl (hA _))<|Dd aE<|Dd fS<|Dd fS<|Dd aL<|Dd aL<|Zz<|Sq<|Sr<|Dd aE<|Dd (by exact D3 rfl pE rfl)<|Zz ?_;refine Cn ?_ ?_<;>intro hc1
  ·exact Sr<|Dd aL<|Zz<|aB<|Rt<|Qq
  cases hc1
end Go.Proofs.YtmdicgjnmfolfaaGreatDoor
section
namespace Go.Abs
variable{l:List UInt8}{u:Nat}
section
variable{P:Program}{N:Nat}{o:Oper}{E:dB}{H:aH}{t t':TypeId}{x:Operand}
abbrev aLB(b:Bool):PV:=bif b then aCW else HL
theorem VA{b:Bool}(ho:o.op=.binOp .neq t x (.const .nilIface) t')(ht:P.underlying t=some (.interface (P.methodsAt t)))(hx:aP E x=some (.pv (aLB b))):cS P N o E H (.pv (.bool b)) H:=by
 cases b
 ·exact LX ho ht hx
 exact D3 ho ht hx
end
def oP(s:ByteArray):Int:=(nY s).1
def wL(s:ByteArray):Bool:=match Lib.atoiAll s.data.toList with
 |.ok _=>false
 |_=>true
theorem aFv(s:ByteArray):nY s=(oP s,aLB (wL s)):=by rw[oP,wL,nY];cases Lib.atoiAll s.data.toList<;>rfl
open Go.Lib
theorem aCj(hne:l≠[])(hm:∀b∈l,48<=b.toNat/\b.toNat<=57)(hd:decFrom 0 l=some u):atoi l=some (u:Int):=by
 cases l with
 |nil=>exact absurd rfl hne
 |cons b r =>
  have hb:=hm b List.mem_cons_self;have e2:decNat (b::r)=some u:=by rw[decNat,hd];rfl
  have h43:¬ (b == 43)=true:=fun h=>by rw[beq_iff_eq]at h;rw[h]at hb;exact absurd hb.1 (by decide)
  have h45:¬ (b == 45)=true:=fun h=>by rw[beq_iff_eq]at h;rw[h]at hb;exact absurd hb.1 (by decide)
  rw[atoi,aPS h45,aPS h43,e2];rfl
theorem TI(hl:l.length<=18)(hne:l≠[])(hm:∀b∈l,48<=b.toNat/\b.toNat<=57)(hd:decFrom 0 l=some u):atoiAll l=.ok (u:Int):=by rw[atoiAll_short _ hl,aCj hne hm hd];rfl
end Go.Abs
namespace Go.Proofs.YtmdicgjnmfolfaaGreatDoor
open Go.Proofs.Tryz
open Go.Abs Go.Lib
theorem aBC(s:ByteArray)(hs:s.size<1099511627776)(H:aH):aI Tryz.prog 114 [sv s] H (fun r H'=>r=.tup [iv (oP s),.pv (aLB (wL s))]/\H'=H):=by
 have:=KL s hs H
 rwa [aFv]at this
abbrev sCo:ByteArray:=⟨#[58]⟩
theorem X3(s:ByteArray)(H:aH):aI Tryz.prog 188 [sv s,sv sCo] H (fun r H'=>r=iv (Lib.indexByte s.data.toList 58)/\H'=H):=by
 refine Pu ?_;refine Bd func188 rfl ntmps188<|Sr<|Dd aL<|Zz<|Sr<|Dd aE<|Dd (jV underlying9)<|Dd aL<|Zz<|Sq<|aG<|Sq ?_;refine aT (t:=16) (n:=9) (X:=decide (sCo=s)) ?_ ?_
 ·all_goals refine Dd aE ?_
  all_goals refine Dd cK<|Dm ?_
  all_goals refine Sp 19 (fun h19=>?_) fun h19=>?_
  all_goals try contradiction
  all_goals refine On aE<|On aE<|On zE<|Dd cG<|Da ?_
  all_goals(exact⟨⟨_,rfl,by rfl⟩,rfl,rfl,rfl⟩)
 refine Cn ?_ ?_<;>intro hc1
 ·have hs:=aPQ hc1;subst hs;exact Sr<|Dd aL<|Zz<|aB<|Rt<|Qq
 refine Sr<|Dd aE<|Dd cK<|Da ?_;refine Cn ?_ ?_<;>intro hc2
 ·exact Sr<|Dd aE<|Dd aE<|Dd (by exact dO rfl underlying9 rfl rfl (by omega) (by exact aP5 _) (show 0<(⟨#[58]⟩:ByteArray).size from Nat.zero_lt_one) rfl)<|Dd (by exact aA rfl rfl aOb rfl (wP s 58 _))<|Dd aL<|Zz<|aB<|Rt<|Qq
 cases hc2
def WT(s:ByteArray):AV:=if Lib.indexByte s.data.toList 58 = -1 then .tup [sv s,sv ⟨#[]⟩,bv false]else .tup [sv (s.extract 0 (Lib.indexByte s.data.toList 58).toNat),sv (s.extract ((Lib.indexByte s.data.toList 58).toNat+1) s.size),bv true]
theorem aD8(s:ByteArray)(H:aH)(hs:s.size<1099511627776):aI Tryz.prog 150 [sv s,sv sCo] H (fun r H'=>r=WT s/\H'=H):=by
 refine Pu ?_;have hI:=fun H=>X3 s H;rw[WT];rcases Classical.em (Lib.indexByte s.data.toList 58 = -1)with h1|h1
 ·rw[aPT h1];simp only[h1]at hI;refine Bd aCp rfl XG<|Sr<|Dd aL<|Dd aL<|Dd aL<|Zz<|Sq<|Sr<|Dd aE<|Dd aE<|Dd (by exact aA rfl rfl NT rfl (hI _))<|Dd aL<|Zz<|Sr<|Dd aE<|Dd DD<|Zz ?_;refine Cn ?_ ?_<;>intro hc1
  ·cases hc1
  refine aC<|Sr<|Dd aE<|Dd aL<|Dd aL<|Dd aL<|Zz<|aB ?_;refine A1 (H':=[]) (.inr rfl) rfl (bD rfl) (bD rfl) (bD rfl) (Fin.wk (by simp) trivial trivial) ?_;exact Qq
 rw[aPS h1];obtain ⟨w,r,e1,e2,e3⟩:=uR h1;simp only[e3]at hI;rw[e3,aP5];have hl:w.length+1+r.length=s.size:=by rw[<-show s.data.toList.length=s.size by simp,e1,aPV,aPW];omega
 refine Bd aCp rfl XG<|Sr<|Dd aL<|Dd aL<|Dd aL<|Zz<|Sq<|Sr<|Dd aE<|Dd aE<|Dd (by exact aA rfl rfl NT rfl (hI _))<|Dd aL<|Zz<|Sr<|Dd aE<|Dd DD<|Zz ?_;refine Cn ?_ ?_<;>intro hc1
 ·refine Sq<|aN follows<|Cq aE<|Cq aE<|Cq (by exact cO (l:=0) (h:=(w.length)) rfl underlying9 rfl rfl rfl (by omega) (by omega) rfl)<|Cq aE<|Cq aE<|Cq aE<|Cq (jV underlying9)<|Cq (by exact bZ rfl rfl rfl (show IntKind.i64.wrap ((w.length:Int)+1)=((w.length+1:Nat):Int)by rw[IntKind.wrap_i64];omega))<|Cq (by exact cO (l:=(w.length+1)) (h:=s.size) rfl underlying9 rfl rfl rfl (by omega) (by omega) rfl)<|Cq aL<|Cq aL<|Cq aL<|bL<|Kr<|aB ?_;refine A1 (H':=[]) (.inr rfl) rfl (bD rfl) (bD rfl) (bD rfl) (Fin.wk (by simp) trivial trivial) ?_;exact Qq
 have hx:=aPR hc1;omega
theorem aLL(s:ByteArray)(H:aH)(hs:s.size<1099511627776):aI Tryz.prog 113 [sv s,sv sCo] H (fun r H'=>r=WT s/\H'=H):=by
 refine Pu ?_;have hC:=fun H=>aD8 s H hs;rw[WT]at *;rcases Classical.em (Lib.indexByte s.data.toList 58 = -1)with h1|h1
 ·simp only[WT,aPT h1]at hC |-;refine Bd aCr rfl XI<|Sr<|Dd aL<|Dd aL<|Dd aL<|Zz<|Sr<|Dd aE<|Dd aE<|Dd (by exact aA rfl rfl aCu rfl (hC _))<|Dd fS<|Dd fS<|Dd fS<|Dd aL<|Dd aL<|Dd aL<|Zz<|aB ?_;refine A1 (H':=[]) (.inr rfl) rfl (bD rfl) (bD rfl) (bD rfl) (Fin.wk (by simp) trivial trivial) ?_;exact Qq
 simp only[WT,aPS h1]at hC |-;refine Bd aCr rfl XI<|Sr<|Dd aL<|Dd aL<|Dd aL<|Zz<|Sr<|Dd aE<|Dd aE<|Dd (by exact aA rfl rfl aCu rfl (hC _))<|Dd fS<|Dd fS<|Dd fS<|Dd aL<|Dd aL<|Dd aL<|Zz<|aB ?_;refine A1 (H':=[]) (.inr rfl) rfl (bD rfl) (bD rfl) (bD rfl) (Fin.wk (by simp) trivial trivial) ?_;exact Qq
def T4(l:List UInt8):List UInt8:=l.takeWhile fun b=>!decide (b=58)
def T5(l:List UInt8):List UInt8:=(l.dropWhile fun b=>!decide (b=58)).drop 1
theorem aF7{w r:List UInt8}(h:(58:UInt8)∉w):T4 (w++58::r)=w/\T5 (w++58::r)=r:=by
 induction w with
 |nil=>exact⟨rfl,rfl⟩
 |cons b w ih =>
  have hb:b≠58:=fun e=>h (by rw[e];exact List.mem_cons_self);obtain ⟨h1,h2⟩:=ih (fun e=>h (List.mem_cons_of_mem _ e));rw[T4]at h1 |-;rw[T5]at h2 |-;rw[List.cons_append,List.takeWhile_cons,List.dropWhile_cons,aPT (by simp[hb]),aPT (by simp[hb]),h1];exact⟨rfl,h2⟩
theorem aF6:∀ {l:List UInt8},(58:UInt8)∉l->T4 l=l/\T5 l=[]
 | [],_=>⟨rfl,rfl⟩
 |b::l,h=>by
  have hb:b≠58:=fun e=>h (by rw[e];exact List.mem_cons_self);obtain ⟨h1,h2⟩:=aF6 (l:=l) (fun e=>h (List.mem_cons_of_mem _ e));rw[T4]at h1 |-;rw[T5]at h2 |-;rw[List.takeWhile_cons,List.dropWhile_cons,aPT (by simp[hb]),aPT (by simp[hb]),h1];exact⟨rfl,h2⟩
theorem aI9(l:List UInt8):WT (ofL l)=.tup [sv (ofL (T4 l)),sv (ofL (T5 l)),bv (decide ((58:UInt8)∈l))]:=by
 rw[WT,dC];by_cases h:Lib.indexByte l 58 = -1
 ·rw[aPT h];have hm:=uQ.1 h;rw[(aF6 hm).1,(aF6 hm).2,decide_eq_false hm];rfl
 rw[aPS h];obtain ⟨w,r,e1,e2,e3⟩:=uR h;rw[e3,aP5];subst e1;rw[(aF7 e2).1,(aF7 e2).2,decide_eq_true (by simp)];have x1:(ofL (w++58::r)).extract 0 w.length=ofL w:=qU (by rw[hV,dC,dC,List.drop_zero,Nat.sub_zero,List.take_left]);have x2:(ofL (w++58::r)).extract (w.length+1) (ofL (w++58::r)).size=ofL r:=qU (by
  rw[B5,dC,dC,<-List.drop_drop,List.drop_left];rfl)
 rw[x1,x2]
theorem aCk(s:ByteArray): -9223372036854775808<=oP s/\oP s<=9223372036854775807:=by
 rw[oP,nY];cases e:Lib.atoiAll s.data.toList with
 |ok v=>exact Lib.atoiAll_bounds e
 |range =>
  show _<=Lib.atoiSat _/\Lib.atoiSat _<=_;rw[Lib.atoiSat]
  split
  ·exact⟨by decide,by decide⟩
  exact⟨by decide,by decide⟩
 |_ =>
  show (-9223372036854775808:Int)<=0/\(0:Int)<=9223372036854775807;exact⟨by decide,by decide⟩
theorem aLM(l:List UInt8):(T4 l).length<=l.length/\(T5 l).length<=l.length:=by
 constructor
 ·exact(List.takeWhile_sublist _).length_le
 rw[T5,aP9];have:=(List.dropWhile_sublist (l:=l) fun b=>!decide (b=58)).length_le;omega
theorem aFu{l:List UInt8}{u:Nat}(hl:l.length<=18)(hne:l≠[])(hm:∀b∈l,48<=b.toNat/\b.toNat<=57)(hd:decFrom 0 l=some u):wL (ofL l)=false/\oP (ofL l)=(u:Int):=by
 have h:=TI hl hne hm hd;constructor
 ·rw[wL,dC,h]
 rw[oP,nY,dC,h]
theorem QI(n:Nat):(aV (n:Int)).data.toList=decDigits n:=by show (Lib.itoa (n:Int)).toArray.toList=_;rw[iL _ (Int.natCast_nonneg n),aP5]
theorem wF(x:ByteArray)(L:List ByteArray):aO (x::L)=decDigits x.size++58::(x.data.toList++aO L):=by
 have h1:aO (x::L)=(nZ x).data.toList++aO L:=by rw[aO,List.flatMap_cons];rfl
 rw[h1,nZ,ByteArray.data_append,Array.toList_append,ByteArray.data_append,Array.toList_append,QI];simp
theorem aF1(n:Nat):(58:UInt8)∉decDigits n:=fun h=>by
 have:=rI n h;exact absurd this.2 (by decide)
theorem VR(A B:List ByteArray):aO (A++B)=aO A++aO B:=List.flatMap_append
end Go.Proofs.YtmdicgjnmfolfaaGreatDoor
end
namespace Go.Proofs.YtmdicgjnmfolfaaGreatDoor
open Go.Proofs.Tryz
open Go.Abs Go.Lib
variable{n:Int}
def DP(l:List UInt8):Bool:=((!decide ((58:UInt8)∈l)||wL (ofL (T4 l)))||decide (oP (ofL (T4 l))<0))||decide (((T5 l).length:Int)<oP (ofL (T4 l)))
def nxN(l:List UInt8):Nat:=(oP (ofL (T4 l))).toNat
def iW(l:List UInt8):Option (ByteArray×List UInt8):=if DP l=true then none else some (ofL ((T5 l).take (nxN l)),(T5 l).drop (nxN l))
def oC(l:List UInt8):Option (Int×List UInt8):=match iW l with
 |none=>none
 |some (s,r)=>if wL s=true then none else some (oP s,r)
def CW{α:Type}(f:List UInt8->Option (α×List UInt8)):Nat->List UInt8->Option (List α×List UInt8)
 |0,l=>some ([],l)
 | n+1,l=>match f l with
  |none=>none
  |some (x,r)=>match CW f n r with
   |none=>none
   |some (xs,q)=>some (x::xs,q)
def vR{α:Type}(f:List UInt8->Option (α×List UInt8))(l:List UInt8):Option (List α×List UInt8):=match oC l with
 |none=>none
 |some (n,r)=>CW f n.toNat r
def HC(l:List UInt8):Option ((Int×Int)×List UInt8):=match oC l with
 |none=>none
 |some (x,r)=>match oC r with
  |none=>none
  |some (y,q)=>some ((x,y),q)
def RX(l:List UInt8):Option (GSeal×List UInt8):=match oC l with
 |none=>none
 | some (i,r)=>match vR iW r with
  |none=>none
  |some (a,q)=>match vR iW q with
   |none=>none
   |some (b,p)=>some (⟨i,a,b⟩,p)
def D0(x:ByteArray):Prop:=x.size<1000000000000000000
theorem kE{x:ByteArray}(L:List ByteArray)(hx:D0 x):iW (aO (x::L))=some (x,aO L):=by
 obtain ⟨e1,e2⟩:=aF7 (r:=x.data.toList++aO L) (aF1 x.size);rw[<-wF]at e1 e2;obtain ⟨n1,n2⟩:=aFu (l:=decDigits x.size) (u:=x.size) (dX (k:=18) (show x.size<10 ^ 18 from hx) (by decide)) (tM _) (fun b=>rI _) (B8 _);have hm:(58:UInt8)∈aO (x::L):=by rw[wF];simp
 have hb:DP (aO (x::L))=false:=by
  rw[DP,e1,e2,n1,n2,decide_eq_true hm,decide_eq_false (by omega),decide_eq_false (by rw[aPV,aZ];omega)];rfl
 rw[iW,aPS (by rw[hb];decide),nxN,e1,n2,e2,aP5,List.drop_left' (aZ x),List.take_left' (aZ x),oZ]
theorem JC(h0:0<=n)(h1:n<1000000000000000000):D0 (aV n):=Nat.lt_of_le_of_lt (pA (by omega) (by omega)) (by decide)
theorem ZX(h0:0<=n)(h1:n<1000000000000000000):wL (aV n)=false/\oP (aV n)=n:=by
 have h:=AK h0 h1;have e:(aV n).data.toList=itoa n:=by show (Lib.itoa n).toArray.toList=_;simp
 constructor
 ·rw[wL,e,h]
 rw[oP,nY,e,h]
theorem kG(L:List ByteArray)(h0:0<=n)(h1:n<1000000000000000000):oC (aO (aV n::L))=some (n,aO L):=by obtain ⟨a1,a2⟩:=ZX h0 h1;rw[oC,kE L (JC h0 h1)];show (if wL (aV n)=true then none else some (oP (aV n),aO L))=_;rw[aPS (by rw[a1];decide),a2]
theorem MM:∀(ts L:List ByteArray),(∀t∈ts,D0 t)->CW iW ts.length (aO (ts++L))=some (ts,aO L)
 | [],L,_=>rfl
 |t::ts,L,h=>by
  rw[aPW,CW,List.cons_append,kE _ (h t List.mem_cons_self)];simp only[MM ts L fun x hx=>h x (List.mem_cons_of_mem _ hx)]
theorem zT(ts L:List ByteArray)(h:∀t∈ts,D0 t)(hl:ts.length<1000000000000000000):vR iW (aO (aV (ts.length:Int)::(ts++L)))=some (ts,aO L):=by rw[vR,kG _ (by omega) (by omega)];show CW iW ((ts.length:Int)).toNat (aO (ts++L))=_;rw[aP5,MM ts L h]
theorem LH(s:GSeal)(L:List ByteArray)(h0:0<=s.idx)(h1:s.idx<1000000000000000000)(ha:∀t∈s.sig,D0 t)(hb:∀t∈s.path,D0 t)(hal:s.sig.length<1000000000000000000)(hbl:s.path.length<1000000000000000000):
  RX (aO (fI (.z s.idx s.sig s.path)++L))=some (s,aO L):=by
 have e:fI (.z s.idx s.sig s.path)++L=aV s.idx::(aV (s.sig.length:Int)::(s.sig++(aV (s.path.length:Int)::(s.path++L)))):=by simp[fI]
 rw[e,RX,kG _ h0 h1];show (match vR iW (aO (aV (s.sig.length:Int)::(s.sig++(aV (s.path.length:Int)::(s.path++L)))))with|none=>none|some (a,q)=>match vR iW q with|none=>none|some (b,p)=>some ((⟨s.idx,a,b⟩:GSeal),p))=_;rw[zT _ _ ha hal];show (match vR iW (aO (aV (s.path.length:Int)::(s.path++L)))with|none=>none|some (b,p)=>some ((⟨s.idx,s.sig,b⟩:GSeal),p))=_;rw[zT _ _ hb hbl]
theorem ML:∀(ps:List (Int×Int)) (L:List ByteArray),(∀q∈ps,(0<=q.1/\q.1<1000000000000000000)/\(0<=q.2/\q.2<1000000000000000000))->CW HC ps.length (aO (NY ps++L))=some (ps,aO L)
 | [],L,_=>rfl
 | p::ps,L,h=>by
  obtain ⟨⟨a1,a2⟩,a3,a4⟩:=h p List.mem_cons_self;have e:NY (p::ps)++L=aV p.1::(aV p.2::(NY ps++L)):=rfl;have e2:HC (aO (NY (p::ps)++L))=some (p,aO (NY ps++L)):=by
   rw[e,HC,kG _ a1 a2];show (match oC (aO (aV p.2::(NY ps++L)))with|none=>none|some (y,q)=>some ((p.1,y),q))=_;rw[kG _ a3 a4]
  rw[aPW,CW,e2];simp only[ML ps L fun x hx=>h x (List.mem_cons_of_mem _ hx)]
theorem Y3(ps:List (Int×Int))(L:List ByteArray)(h:∀q∈ps,(0<=q.1/\q.1<1000000000000000000)/\(0<=q.2/\q.2<1000000000000000000))(hl:ps.length<1000000000000000000):vR HC (aO (fI (.p ps)++L))=some (ps,aO L):=by have e:fI (.p ps)++L=aV (ps.length:Int)::(NY ps++L):=rfl;rw[e,vR,kG _ (by omega) (by omega)];show CW HC ((ps.length:Int)).toNat (aO (NY ps++L))=_;rw[aP5,ML ps L h]
end Go.Proofs.YtmdicgjnmfolfaaGreatDoor
namespace Go.Proofs.YtmdicgjnmfolfaaGreatDoor
open Go.Proofs.Tryz
open Go.Abs
variable{a s:ByteArray}{l:List ByteArray}{k:Nat}
theorem Y9(fv:AV)(l:List (Int×Int))(p:Nat->Bool)(Hs:Nat->aH)(hl:l.length<4611686018427387904)(hf:∀k s,l[k]?=some s->dK Tryz.prog fv [av (fM s)] (Hs k) (fun r H'=>r=bv (p k)/\H'=Hs (k+1))):
  aI Tryz.prog 121 [.pv (rZ l),fv] (Hs 0) (fun r H'=>r=iv (JD p l.length)/\H'=Hs (AP p l.length)):=by
 have hml:(l.map fM).length=l.length:=aPU _;refine Bd func121 rfl ntmps121<|Sr<|Dd aL<|Zz<|Sq<|Sr<|Dd aE<|Dd (fE dI)<|Dd aE<|Zz<|aG ?_;refine bT (σ:=Nat) (fun k=>([(0,.pv (rZ l)),(1,fv),(7,iv ((l.map fM).length:Int)),(8,iv (k:Int))],Hs k)) (fun k=>k<=l.length/\∀j,j<k->p j=false) (fun k=>l.length - k) 0 ⟨by omega,by omega⟩ ?_ ?_
 ·exact E0
 rintro k ⟨hk,hno⟩;refine Sr<|Dd cZ<|Zz<|Sq ?_;refine Cn ?_ ?_<;>intro hc1
 ·have hlt:k<l.length:=by have:=aPQ hc1;omega
  obtain ⟨s,hs⟩:=aU hlt;have hi:=cJ (f:=fM) hs;have hfo:=hf k s hs;refine aC<|Sq<|aG<|Sr<|Dd aE<|Dd aL<|Zz<|Sr<|Dd aE<|Dd aE<|Dd aE<|Dd (mE LG)<|Dd (by exact dN rfl dS sizeOf68 rfl (by omega) (by simp only[Zl,fM];rfl) rfl)<|Dd (by exact cU rfl rfl rfl (hfo))<|Zz ?_;refine Cn ?_ ?_<;>intro hc2
  ·refine Sr<|Dd aE<|Dd aL<|Zz<|aB ?_;exact eG (H':=Hs (k+1)) (.inr rfl) rfl (bD rfl) Fin.refl ⟨by rw[JD,AC hlt hc2 hno],by rw[AP,AC hlt hc2 hno]⟩
  refine aC<|Rg<|Dd mI<|Dd aE<|Zz ?_;refine⟨k+1,⟨by omega,fun j hj=>?_⟩,by omega,E0⟩;by_cases e:j=k
  ·subst e;exact hc2
  exact hno j (by omega)
 have hge:k=l.length:=by have:=aPR hc1;omega
 subst hge;refine aY<|Sr<|Dd aL<|Zz<|aB ?_;exact eG (H':=Hs l.length) (.inr rfl) rfl (bD rfl) Fin.refl ⟨by rw[JD,AD hno],by rw[AP,AD hno]⟩
theorem OW(fv:AV)(l:List (Int×Int))(p:Nat->Bool)(Hs:Nat->aH)(hl:l.length<4611686018427387904)(hf:∀k s,l[k]?=some s->dK Tryz.prog fv [av (fM s)] (Hs k) (fun r H'=>r=bv (p k)/\H'=Hs (k+1))):
  aI Tryz.prog 64 [.pv (rZ l),fv] (Hs 0) (fun r H'=>r=bv ((List.range l.length).any p)/\H'=Hs (AP p l.length)):=by
 refine Bd func64 rfl ntmps64<|Sr<|Dd aL<|Zz<|Sr<|Dd aE<|Dd aE<|Dd (by exact aA rfl rfl call121 rfl (Y9 fv l p Hs hl hf))<|Dd DD<|Dd aL<|Zz<|aB ?_;exact eG (H':=Hs (AP p l.length)) (.inr rfl) rfl (bD rfl) Fin.refl ⟨by rw[QL],rfl⟩
def MC(q:Int×Int):Bool:=!(decide (0<=q.1)&&decide (q.1<=1048575))||!(decide (0<=q.2)&&decide (q.2<=1048575))
def wiO:Ob:=bx 1 98 [.pv (.fn 60)]
theorem vT(H:aH):∀r∈wiO.rows,∀a∈r,Clo H a:=by intro r hr a ha;simp only[wiO,bx,aPX]at hr;subst hr;rw[aPX]at ha;subst ha;simp
theorem aMo(q:Int×Int):aI Tryz.prog 65 [av (fM q),.ref 3 0 0 0] [(3,wiO)] (fun r H'=>r=bv (MC q)/\H'=[(3,wiO)]):=by
 have hw1:=fun H=>KQ q.1 0 1048575 H;have hw2:=fun H=>KQ q.2 0 1048575 H;have hof:MC q=(!(decide (0<=q.1)&&decide (q.1<=1048575))||!(decide (0<=q.2)&&decide (q.2<=1048575))):=rfl;obtain ⟨u,hu⟩:∃u,u=(decide (0<=q.1)&&decide (q.1<=1048575)):=⟨_,rfl⟩;obtain ⟨v,hv⟩:∃v,v=(decide (0<=q.2)&&decide (q.2<=1048575)):=⟨_,rfl⟩;rw[<-hu]at hw1 hof;rw[<-hv]at hw2 hof;clear hu hv;refine Bd func65 rfl ntmps65<|Sr<|Dd (by exact cD (id:=2) rfl rfl rfl rfl rfl)<|Dd aL<|Zz<|Sq ?_;refine aT (t:=3) (n:=14) (X:=MC q) ?_ ?_
 ·all_goals refine Dd (bC pF) ?_
  all_goals refine Dd (aS pC)<|Dd (bC isAgg3)<|Dd (by exact cU rfl rfl rfl (dK.fn rM (hw1 _)))<|Dd iQ<|Dm ?_
  all_goals refine Sp 9 (fun h9=>?_) fun h9=>?_
  all_goals try contradiction
  all_goals first|refine Fo<|Fo<|Fo<|Fo<|Fo ?_|refine On (bC pF)<|On (aS pB)<|On (bC isAgg3)<|On (by exact cU rfl rfl rfl (dK.fn rM (hw2 _)))<|On iQ ?_
  all_goals refine Dd cG<|Da ?_
  all_goals(exact⟨⟨_,rfl,by(rw[hof,h9];rfl)⟩,rfl,rfl,rfl⟩)
 refine aB ?_;refine eG (H':=[(3,wiO)]) (.inr rfl) rfl (bD rfl) (Fin.wk (by(simp;done)) (Hc (vT _)<|trivial) ⟨rfl,trivial⟩) ?_;exact Qq
theorem ZY(l:List (Int×Int))(q:Int×Int->Bool):((List.range l.length).any fun k=>match l[k]? with|some s=>q s|none=>false)=l.any q:=by
 rw[Bool.eq_iff_iff,List.any_eq_true,List.any_eq_true];constructor
 ·rintro⟨k,hk,h⟩;have hk:=List.mem_range.1 hk;rw[aPZ hk]at h;exact⟨_,List.getElem_mem hk,h⟩
 rintro⟨s,hs,h⟩;obtain ⟨k,hk⟩:=aPf.1 hs;exact⟨k,List.mem_range.2 (aPY.1 hk).1,by rw[hk];exact h⟩
def aKG(l:List (Int×Int))(k:Nat):Bool:=match l[k]? with|some s=>MC s|none=>false
theorem aKa(l:List (Int×Int))(hl:l.length<1099511627776):aI Tryz.prog 64 [.pv (rZ l),.clo 65 [.ref 3 0 0 0]] [(3,wiO)] (fun r H'=>r=bv (l.any MC)/\H'=[(3,wiO)]):=by
 have hc:=OW (.clo 65 [.ref 3 0 0 0]) l (aKG l) (fun _=>[(3,wiO)]) (by omega) (fun k s hk=>by
  rw[aKG,hk];exact dK.clo call65 (aMo s))
 rw[show (List.range l.length).any (aKG l)=l.any MC from ZY l MC]at hc;exact hc
theorem aEy(s:ByteArray)(H:aH):aI Tryz.prog 167 [sv s] H (fun r H'=>r=bv false/\H'=H):=by refine Pu ?_;refine Bd func167 rfl ntmps167<|Sr<|Dd aL<|Zz<|Sr<|Dd aE<|Dd aE<|Dd IU<|Dd aL<|Zz<|aB<|Rt ?_;exact⟨by simp,rfl⟩
theorem aIG(s t:ByteArray)(H:aH):aI Tryz.prog 122 [sv s,sv t] H (fun r H'=>r=bv (vN s t)/\H'=H):=by
 refine Pu ?_;refine Bd func122 rfl ntmps122<|Sr<|Dd aL<|Zz<|Sq ?_;refine aT (t:=4) (n:=15) (X:=vN s t) ?_ ?_
 ·all_goals refine Dd aE ?_
  all_goals refine Dd (by exact aA rfl rfl call167 rfl (aEy _ _))<|Dm ?_
  all_goals refine Sp 7 (fun h7=>?_) fun h7=>?_
  all_goals try contradiction
  all_goals refine Fo<|Fo<|Fo<|Dd cG<|Dm ?_
  all_goals refine Sp 12 (fun h12=>?_) fun h12=>?_
  all_goals try contradiction
  all_goals refine On aE<|On aE<|On (by exact aEX rfl rfl rfl)<|Dd cG<|Da ?_
  all_goals(exact⟨⟨_,rfl,by rfl⟩,rfl,rfl,rfl⟩)
 exact aB<|Rt<|Qq
def lL:List ByteArray->Bool
 |a::b::r=>!vN b a&&lL (b::r)
 |_=>true
theorem RT(h:lL (a::l)=true):lL l=true:=by
 cases l with
 |nil=>rfl
 |cons b r=>exact(aP3 _ _▸h:_/\_).2
theorem E4:∀(i:Nat) {l:List ByteArray},lL l=true->lL (l.drop i)=true
 |0,_,h=>h
 |i+1,[],_=>rfl
 |i+1,a::l,h=>E4 i (RT h)
theorem X0{b:ByteArray}(ha:l[k]?=some a)(hb:l[k+1]?=some b):lL (l.drop k)=(!vN b a&&lL (l.drop (k+1))):=by obtain ⟨h1,e1⟩:=aPY.1 ha;obtain ⟨h2,e2⟩:=aPY.1 hb;rw[List.drop_eq_getElem_cons h1,List.drop_eq_getElem_cons h2,e1,e2];rfl
theorem VU(l:List ByteArray)(H:aH)(hl:l.length<1099511627776):aI Tryz.prog 67 [.pv (bA l)] H (fun r H'=>r=bv (lL l)/\H'=H):=by
 refine Pu ?_;have hml:(l.map encStr).length=l.length:=aPU _;refine Bd func67 rfl ntmps67<|Sr<|Dd aL<|Zz<|Sq<|Sr<|Dd aE<|Dd (fE aD)<|Dd (by exact dW rfl rfl rfl (show IntKind.i64.wrap (((l.map encStr).length:Int) - 1)=((l.map encStr).length:Int) - 1 by rw[IntKind.wrap_i64];omega))<|Dd aL<|Zz<|aG ?_;refine bT (σ:=Nat) (fun k=>([(0,.pv (bA l)),(3,iv ((k:Int) - 1))],[])) (fun k=>k<=l.length/\lL (l.drop (k - 1))=true) (fun k=>k) l.length ⟨aP0 _,?_⟩ ?_ ?_
 ·have:(l.drop (l.length - 1)).length<=1:=by rw[aP9];omega
  match l.drop (l.length - 1),this with
  | [],_=>rfl
  | [a],_=>rfl
 ·rw[hml];exact Wk
 rintro k ⟨hk,hs⟩;refine Sq<|Sr<|Dd aE<|Dd iE<|Zz ?_;refine Cn ?_ ?_<;>intro hc1
 ·have hlt:2<=k:=by have:=aPQ hc1;omega
  obtain ⟨m,rfl⟩:∃m,k=m+2:=⟨k - 2,by omega⟩;obtain ⟨b,hb⟩:=aU (l:=l) (k:=m+1) (by omega);obtain ⟨a,ha⟩:=aU (l:=l) (k:=m) (by omega);have hib:=cJ (f:=encStr) hb;have hia:=cJ (f:=encStr) ha;have hat:=X0 ha hb;rw[show m+2 - 1=m+1 by omega]at hs;rw[hs,Bool.and_true]at hat;refine aC<|Sq<|aG<|Sq<|aN follows<|Cq aE<|Cq aE<|Cq (by exact bP (m:=m+1) rfl cB rfl rfl (by omega) (show (((m+2:Nat):Int) - 1).toNat=m+1 by omega) hib rfl)<|Cq (iJ isAgg9)<|Cq aE<|Cq aE<|Cq (by exact dW rfl rfl rfl (show IntKind.i64.wrap ((((m+2:Nat):Int) - 1) - 1)=((m:Nat):Int)by rw[IntKind.wrap_i64];omega))<|Cq (mE cB)<|Cq (iJ isAgg9)<|Cq (by exact aA rfl rfl call122 rfl (aIG b a _))<|bL<|Kr ?_;refine Cn ?_ ?_<;>intro hc2
  ·have hlt2:vN b a=true:=hc2;have h0:lL l=false:=by
    rw[Bool.eq_false_iff];intro h;rw[E4 m h,hlt2]at hat;cases hat
   rw[h0];exact Sr<|Dd aL<|Zz<|aB<|Rt<|Qq
  have hlt2:vN b a=false:=hc2;refine aC<|Rg<|Dd aE<|Dd (by exact dW rfl rfl rfl (show IntKind.i64.wrap ((((m+2:Nat):Int) - 1) - 1)=((m+1:Nat):Int) - 1 by rw[IntKind.wrap_i64];omega))<|Da ?_;refine⟨m+1,⟨by omega,?_⟩,by omega,?_⟩
  ·rw[show m+1 - 1=m by omega,hat,hlt2];rfl
  exact Wk
 have hge:k<=1:=by have:=aPR hc1;omega
 have h0:lL l=true:=by rw[show k - 1=0 by omega]at hs;exact hs
 rw[h0];exact aY<|Sr<|Dd aL<|Zz<|aB<|Rt<|Qq
abbrev sK(l:List ByteArray):List (List AV):=l.map (fun e=>(encStr e).map .pv)
theorem aMG(l:List ByteArray):∀r∈l.map encStr,r.length=1:=fun r hr=>by
 obtain ⟨t,_,rfl⟩:=List.mem_map.1 hr;rfl
theorem aF8(l:List ByteArray)(H:aH)(hc:eI H)(h1:H.get 901=none)(hl:l.length<1099511627776):
  aI Tryz.prog 69 [.pv (bA l)] H (fun r H'=>r=.osl 901 1 0 l.length/\H'=(901,⟨1,1,9,sK l⟩)::H):=by
 have hml:(l.map encStr).length=l.length:=aPU _;refine Bd func69 rfl ntmps69<|Sr<|Dd aL<|Zz<|Sq<|Sr<|Dm ?_;refine aLY rfl rfl (YQ rfl aD rfl) ?_;rintro _ H2 ⟨e2,b,rfl,hb⟩;rw[e2];clear e2 H2;refine Zz ?_;refine Cn ?_ ?_<;>intro hc1
 ·have h0:=hb hc1;have h00:l=[]:=List.map_eq_nil_iff.1 h0;subst h00;refine Sr<|Dd (by exact qF (id:=901) (sz:=1) (ty:=9) rfl h1 rfl)<|Zz<|aB ?_;refine eG (H':=((901,⟨1,1,9,[]⟩)::H)) (.inr rfl) rfl (bD rfl) ((Fin.bump (g:=0) (k:=1) rfl rfl (by decide) rfl rfl rfl).trans (Fin.get' (fun j=>wG _ _ _ _ j))) ?_;exact Qq
 refine aC<|Sr<|Dd (by exact gB (id:=901) rfl cB rfl rfl rfl rfl (by simp) h1)<|Dd aE<|Dd (by exact dL rfl cB EF rfl rfl rfl rfl rfl rfl rfl (aMG l) hml (by omega) (aPc _) (show []++(l.map encStr).map (·.map AV.pv)=sK l by rw[List.nil_append,List.map_map];rfl))<|Dd aL<|Zz<|aB ?_;refine eG (H':=((901,⟨1,1,9,sK l⟩)::H)) (.inr rfl) rfl (bD rfl) (Fin.get' (fun j=>wG _ _ _ _ j)) ?_;exact Qq
theorem PO(n:Int)(H:aH):aI Tryz.prog 127 [.pv (.int .u8 n)] H (fun r H'=>r=bv (sE n)/\H'=H):=by
 refine Pu ?_;refine Bd func127 rfl ntmps127<|Sr<|Dd aL<|Zz<|Sq ?_;refine aT (t:=2) (n:=18) (X:=sE n) ?_ ?_
 ·all_goals refine Dd aE ?_
  all_goals refine Dd DD<|Dm ?_
  all_goals refine Sp 5 (fun h5=>?_) fun h5=>?_
  all_goals try contradiction
  all_goals first|refine Fo<|Fo ?_|refine On aE<|On GQ ?_
  all_goals refine Dd cG<|Dm ?_
  all_goals refine Sp 9 (fun h9=>?_) fun h9=>?_
  all_goals try contradiction
  all_goals first|refine Fo<|Fo<|Fo ?_|refine On aE<|On DD<|On aE ?_
  all_goals(first|refine Sp 12 (fun h12=>?_) fun h12=>?_|refine jX (t:=12) rfl ?_)
  all_goals try contradiction
  all_goals first|refine Fo ?_|refine Fu ?_|refine On aE ?_
  all_goals first|refine Fo ?_|refine Fu ?_|refine On GQ ?_
  all_goals first|refine Fo ?_|refine On cG ?_
  all_goals refine Dd cG<|Da ?_
  all_goals(exact⟨⟨_,rfl,by(simp only[sE, *];rfl)⟩,rfl,rfl,rfl⟩)
 exact aB<|Rt<|Qq
theorem aDx(n:Int)(H:aH):aI Tryz.prog 175 [.pv (.int .u8 n)] H (fun r H'=>r=bv (AT n)/\H'=H):=by
 refine Pu ?_;refine Bd func175 rfl ntmps175<|Sr<|Dd aL<|Zz<|Sq ?_;refine aT (t:=2) (n:=8) (X:=AT n) ?_ ?_
 ·all_goals refine Dd aE ?_
  all_goals refine Dd DD<|Dm ?_
  all_goals refine Sp 5 (fun h5=>?_) fun h5=>?_
  all_goals try contradiction
  all_goals first|refine Fo<|Fo ?_|refine On aE<|On GQ ?_
  all_goals refine Dd cG<|Da ?_
  all_goals(exact⟨⟨_,rfl,by(simp only[AT, *];rfl)⟩,rfl,rfl,rfl⟩)
 exact aB<|Rt<|Qq
def isW(n:Int):Bool:=(sE n||AT n)||decide (n=95)
theorem aHQ(n:Int)(H:aH):aI Tryz.prog 126 [.pv (.int .u8 n)] H (fun r H'=>r=bv (isW n)/\H'=H):=by
 refine Pu ?_;refine Bd func126 rfl ntmps126<|Sr<|Dd aL<|Zz<|Sq ?_;refine aT (t:=2) (n:=13) (X:=isW n) ?_ ?_
 ·all_goals refine Dd aE ?_
  all_goals refine Dd (by exact aA rfl rfl call127 rfl (PO n _))<|Dm ?_
  all_goals refine Sp 5 (fun h5=>?_) fun h5=>?_
  all_goals try contradiction
  all_goals first|refine Fo<|Fo ?_|refine On aE<|On (by exact aA rfl rfl call175 rfl (aDx n _)) ?_
  all_goals refine Dd cG<|Dm ?_
  all_goals refine Sp 9 (fun h9=>?_) fun h9=>?_
  all_goals try contradiction
  all_goals first|refine Fo<|Fo ?_|refine On aE<|On cK ?_
  all_goals refine Dd cG<|Da ?_
  all_goals(exact⟨⟨_,rfl,by(simp only[isW, *];rfl)⟩,rfl,rfl,rfl⟩)
 exact aB<|Rt<|Qq
theorem aIc:∀n:Fin 256,(decide (CD (n.val:Int)=3)=sE (n.val:Int))/\(decide (CD (n.val:Int)=4)=AT (n.val:Int))/\(decide (CD (n.val:Int)=5)=decide ((n.val:Int)=95)):=by decide +kernel
theorem aLN(s:ByteArray)(k:Nat):(decide (CD (cP s k)=3)=sE (cP s k))/\(decide (CD (cP s k)=4)=AT (cP s k))/\(decide (CD (cP s k)=5)=decide (cP s k=95)):=by have h:=aIc ⟨(cP s k).toNat,C5 s k⟩;simp only[Int.toNat_of_nonneg (C4 s k)]at h;exact h
def aIo(s:ByteArray)(k:Nat):Bool:=!isW (cP s k)
def PN(s:ByteArray):Bool:=!((List.range s.size).any (aIo s))&&(decide ((0:Int)<(s.size:Int))&&decide ((s.size:Int)<=24)&&sE (cP s 0))
theorem UP:s=sNil↔s.size=0:=by
 constructor
 ·rintro rfl;rfl
 intro h;exact ByteArray.ext (Array.eq_empty_of_size_eq_zero h)
theorem aDv(s:ByteArray):PN s=bM s:=by
 have hb:∀k,OY s k=(!sE (cP s k)&&(decide ((k:Int)=0)||(!AT (cP s k)&&!decide (cP s k=95)))):=fun k=>by
  obtain ⟨a,b,c⟩:=aLN s k;rw[OY,a,b,c]
 rw[Bool.eq_iff_iff,PN,bM];simp only[aP3,aPd,aP1,aP2,List.any_eq_false,List.mem_range,UP,aIo,hb];constructor
 ·rintro⟨h1,⟨h2,h3⟩,h4⟩;refine⟨fun k hk=>?_,by omega,h3⟩;have:=h1 k hk;by_cases k0:k=0
  ·subst k0;simp[h4]
  have hw:isW (cP s k)=true:=by
   cases e:isW (cP s k)with
   |true=>rfl
   |false=>exact absurd e this
  simp only[isW,Bool.or_eq_true,aP1]at hw;rcases hw with(h|h)|h
  ·simp[h]
  ·simp[h,k0]
  simp[h,k0]
 rintro⟨h1,h2,h3⟩;refine⟨fun k hk=>?_,⟨by omega,h3⟩,?_⟩
 ·have:=h1 k hk;intro hw;apply this;simp only[isW,aPd,aPg]at hw;simp[hw.1.1,hw.1.2,hw.2]
 have:=h1 0 (by omega);cases hl:sE (cP s 0)with
 |true=>rfl
 |false=>exact absurd (by simp[hl]) this
theorem aDw(s:ByteArray)(H:aH)(hs:s.size<4611686018427387904):aI Tryz.prog 74 [sv s] H (fun r H'=>r=bv (PN s)/\H'=H):=by
 refine Pu ?_;refine Bd func74 rfl ntmps74<|Sr<|Dd aL<|Zz<|Sq<|Sr<|Dd aL<|Zz<|aG ?_;refine bT (σ:=Nat) (fun k=>([(0,sv s),(3,iv (k:Int))],[])) (fun k=>k<=s.size/\∀j,j<k->aIo s j=false) (fun k=>s.size - k) 0 ⟨by omega,by omega⟩ ?_ ?_
 ·exact E0
 rintro k ⟨hk,hno⟩;refine Sq<|Sr<|Dd aE<|Dd aE<|Dd (jV underlying9)<|Dd cZ<|Zz ?_;refine Cn ?_ ?_<;>intro hc1
 ·have hlt:k<s.size:=by have:=aPQ hc1;omega
  refine aC<|Sq<|aG<|Sr<|Dd aE<|Dd aE<|Dd (by exact dO rfl underlying9 rfl rfl (by omega) (by exact aP5 _) (by omega) rfl)<|Dd (by exact aA rfl rfl call126 rfl (aHQ (cP s k) _))<|Dd iQ<|Zz ?_;refine Cn ?_ ?_<;>intro hc2
  ·have hb:aIo s k=true:=hc2;refine Sr<|Dd aL<|Zz<|aB<|Rt ?_;exact⟨by rw[PN,uC hlt hb];rfl,rfl⟩
  refine aC<|Rg<|Dd aE<|Dd mI<|Da ?_;refine⟨k+1,⟨by omega,fun j hj=>?_⟩,by omega,E0⟩;by_cases e:j=k
  ·subst e;exact hc2
  exact hno j (by omega)
 have hge:k=s.size:=by have:=aPR hc1;omega
 have hr:PN s=(decide ((0:Int)<(s.size:Int))&&decide ((s.size:Int)<=24)&&sE (cP s 0)):=by
  subst hge;rw[PN,xT hno];rfl
 rw[hr];clear hr;by_cases h0:(0:Int)<(s.size:Int)
 ·have d0:=decide_eq_true h0;have h00:0<s.size:=by omega
  rw[d0,Bool.true_and];by_cases h24:(s.size:Int)<=24
  ·have d1:=decide_eq_true h24;rw[d1,Bool.true_and];exact aY<|Sr<|Dd aE<|Dd (jV underlying9)<|Dd iE<|Dd aE<|Oa aE<|Oa (jV underlying9)<|Oa GQ<|Dd wQ<|Dd aE<|Oa aE<|Oa (by exact dO rfl underlying9 rfl rfl (by omega) (by exact aP5 _) (by omega) rfl)<|Oa (by exact aA rfl rfl call127 rfl (PO (cP s 0) _))<|Dd wQ<|Dd aL<|Zz<|aB<|Rt<|Qq
  have d1:=decide_eq_false h24;rw[d1];exact aY<|Sr<|Dd aE<|Dd (jV underlying9)<|Dd iE<|Dd aE<|Oa aE<|Oa (jV underlying9)<|Oa GQ<|Dd wQ<|Dd aE<|Fa<|Fa<|Fa<|Dd nX<|Dd aL<|Zz<|aB<|Rt<|Qq
 have d0:=decide_eq_false h0;rw[d0];exact aY<|Sr<|Dd aE<|Dd (jV underlying9)<|Dd iE<|Dd aE<|Fa<|Fa<|Fa<|Dd nX<|Dd aE<|Fo<|Fo<|Fo<|Dd cG<|Dd aL<|Zz<|aB<|Rt<|Qq
theorem jP(s:ByteArray)(H:aH)(hs:s.size<4611686018427387904):aI Tryz.prog 74 [sv s] H (fun r H'=>r=bv (bM s)/\H'=H):=by rw[<-aDv];exact aDw s H hs
theorem aDt(x y:Int)(H:aH):aI Tryz.prog 129 [.agg [iv x,iv y]] H (fun r H'=>r=bv (S4 x y)/\H'=H):=by
 refine Pu ?_;refine Bd func129 rfl ntmps129<|Sr<|Dd (by exact cD (id:=1) rfl rfl rfl rfl rfl)<|Dd aL<|Zz<|Sq ?_;refine aT (t:=2) (n:=22) (X:=S4 x y) ?_ ?_
 ·all_goals refine Dd (aS pC) ?_
  all_goals refine Dd (bC isAgg3)<|Dd DD<|Dm ?_
  all_goals refine Sp 6 (fun h6=>?_) fun h6=>?_
  all_goals try contradiction
  all_goals first|refine Fo<|Fo<|Fo ?_|refine On (aS pC)<|On (bC isAgg3)<|On cZ ?_
  all_goals refine Dd cG<|Dm ?_
  all_goals refine Sp 11 (fun h11=>?_) fun h11=>?_
  all_goals try contradiction
  all_goals first|refine Fo<|Fo<|Fo ?_|refine On (aS pB)<|On (bC isAgg3)<|On DD ?_
  all_goals refine Dd cG<|Dm ?_
  all_goals refine Sp 16 (fun h16=>?_) fun h16=>?_
  all_goals try contradiction
  all_goals first|refine Fo<|Fo<|Fo ?_|refine On (aS pB)<|On (bC isAgg3)<|On cZ ?_
  all_goals refine Dd cG<|Da ?_
  all_goals(exact⟨⟨_,rfl,by(simp only[S4, *];rfl)⟩,rfl,rfl,rfl⟩)
 exact aB<|Rt<|Qq
theorem aBh{n:Nat}(h0:1<=n)(h1:n<=5):[encStr sNil,encStr ⟨#[110,111,100,101]⟩,encStr ⟨#[119,97,121]⟩,encStr ⟨#[97,114,101,97]⟩,encStr ⟨#[114,111,117,116,101]⟩,encStr ⟨#[116,117,114,110]⟩][n]?=some (encStr (eO (n:Int))):=by
 match n,h0,h1 with
 |1,_,_=>rfl
 |2,_,_=>rfl
 |3,_,_=>rfl
 |4,_,_=>rfl
 |5,_,_=>rfl
 |n+6,_,h=>exact absurd h (by omega)
theorem HA(k:Int)(H:aH):aI Tryz.prog 205 [iv k] H (fun r H'=>r=sv (eO k)/\H'=H):=by
 refine Pu ?_;refine Bd func205 rfl ntmps205<|Sr<|Dd aL<|Zz<|Sr<|Dd (by exact aR [encStr sNil,encStr ⟨#[110,111,100,101]⟩,encStr ⟨#[119,97,121]⟩,encStr ⟨#[97,114,101,97]⟩,encStr ⟨#[114,111,117,116,101]⟩,encStr ⟨#[116,117,114,110]⟩] rfl cB rfl rfl rfl rfl rfl (by simp[encStr]))<|Dd aL<|Zz<|Sq<|Sq ?_;refine aT (t:=10) (n:=7) (X:=decide (k<1)||decide (5<k)) ?_ ?_
 ·all_goals refine Dd aE ?_
  all_goals refine Dd cZ<|Dm ?_
  all_goals refine Sp 7 (fun h7=>?_) fun h7=>?_
  all_goals try contradiction
  all_goals first|refine Fo<|Fo ?_|refine On aE<|On iE ?_
  all_goals refine Dd cG<|Zz ?_
  all_goals(exact⟨⟨_,rfl,by(simp only[*,Zo];done)⟩,rfl,rfl,rfl⟩)
 refine Cn ?_ ?_<;>intro hc1
 ·have hn:¬ (k=1)/\¬ (k=2)/\¬ (k=3)/\¬ (k=4)/\¬ (k=5):=by
   simp only[Bool.or_eq_true,aP1]at hc1;omega
  refine Sr<|Dd aL<|Zz<|aB<|Rt ?_;exact⟨by simp only[eO,hn.1,hn.2.1,hn.2.2.1,hn.2.2.2.1,hn.2.2.2.2,if_false],rfl⟩
 obtain ⟨n,rfl⟩:∃n:Nat,k=(n:Int):=⟨k.toNat,by simp only[aPg,aP2]at hc1;omega⟩;have hb:1<=n/\n<=5:=by
  simp only[aPg,aP2]at hc1;omega
 have hi:=aBh hb.1 hb.2;exact aC<|Sr<|Dd aE<|Dd aE<|Dd (mE cB)<|Dd (iJ isAgg9)<|Dd aL<|Zz<|aB<|Rt<|Qq
theorem aCc(l:List GTag)(k:Nat)(t pt:GTag)(hp:0<k->l[k - 1]?=some pt):(((!bM t.key||decide ((t.val.size:Int)<1))||decide (200<(t.val.size:Int)))||(decide ((0:Int)<(k:Int))&&!vN pt.key t.key))=AH (iG GTag.key l k) t:=by
 have hv:decide ((t.val.size:Int)<1)=decide (t.val=sNil):=decide_eq_decide.2 (by rw[UP];omega);rw[hv,AH];cases hg:bM t.key with
 |false=>simp
 | true =>
  have hs:sle t.key (iG GTag.key l k)=(decide ((0:Int)<(k:Int))&&!vN pt.key t.key):=by
   cases k with
   | zero =>
    have:vN sNil t.key=true:=by
     cases e:vN sNil t.key with
     |true=>rfl
     |false=>exact absurd (J3 (aAQ _) e) (MZ hg)
    rw[iG,J5.2 this];rfl
   | succ k =>
    have h:=hp (by omega);rw[show k+1 - 1=k from rfl]at h;rw[wI h,decide_eq_true (show (0:Int)<((k+1:Nat):Int)by omega),Bool.true_and];cases e:vN pt.key t.key with
    |true=>rw[J5.2 e];rfl
    |false =>
     cases e2:sle t.key pt.key with
     |true=>rfl
     |false=>rw[J5]at e2;rw[e]at e2;cases e2
  rw[<-hs];cases sle t.key (iG GTag.key l k)<;>cases decide (t.val=sNil)<;>cases decide (200<(t.val.size:Int))<;>rfl
theorem aA1(l:List GTag)(H:aH)(hl:HI l):aI Tryz.prog 254 [.pv (rD l)] H (fun r H'=>r=bv (qK l)/\H'=H):=by
 refine Pu ?_;obtain ⟨hl,hks⟩:=hl;have hml:(l.map bJ).length=l.length:=aPU _;refine Bd func254 rfl ntmps254<|Sr<|Dd aL<|Zz<|Sq<|Sr<|Dd aE<|Dd (fE cV)<|Dd iE<|Zz ?_;refine Cn ?_ ?_<;>intro hc1
 ·have h60:decide ((l.length:Int)<=60)=false:=by
   have:=aPQ hc1;exact decide_eq_false (by omega)
  refine Sr<|Dd aL<|Zz<|aB<|Rt ?_;exact⟨by rw[qK,h60,Bool.and_false],rfl⟩
 have h60:decide ((l.length:Int)<=60)=true:=by
  have:=aPR hc1;exact decide_eq_true (by omega)
 rw[qK,h60,Bool.and_true];refine aC<|Sq<|Sr<|Dd aL<|Zz<|aG ?_;refine bT (σ:=Nat) (fun k=>([(0,.pv (rD l)),(3,iv (k:Int))],[])) (fun k=>k<=l.length/\∀j,j<k->NG AH GTag.key l j=false) (fun k=>l.length - k) 0 ⟨by omega,by omega⟩ ?_ ?_
 ·exact E0
 rintro k ⟨hk,hno⟩;refine Sq<|Sr<|Dd aE<|Dd aE<|Dd (fE cV)<|Dd cZ<|Zz ?_;refine Cn ?_ ?_<;>intro hc2
 ·have hlt:k<l.length:=by have:=aPQ hc2;omega
  obtain ⟨t,ht⟩:=aU hlt;have hi:=cJ (f:=bJ) ht;have hkt:=hks t (aP4 ht);obtain ⟨pt,hp⟩:∃pt,0<k->l[k - 1]?=some pt:=by
   by_cases k0:0<k
   ·obtain ⟨pt,hp⟩:=aU (l:=l) (k:=k - 1) (by omega);exact⟨pt,fun _=>hp⟩
   exact⟨t,fun h=>absurd h k0⟩
  have hpv:0<k->(l.map bJ)[k - 1]?=some (bJ pt):=fun h=>cJ (f:=bJ) (hp h);have hbe:=aCc l k t pt hp;refine aC<|Sq<|aG<|Sq ?_;refine kH (t:=55) (n:=43) (X:=((!bM t.key||decide ((t.val.size:Int)<1))||decide (200<(t.val.size:Int)))||(decide ((0:Int)<(k:Int))&&!vN pt.key t.key)) ?_ ?_
  ·cases hg20:(!bM t.key:Bool)
   ·cases hg29:(decide ((t.val.size:Int)<1):Bool)
    ·cases hg38:(decide (200<(t.val.size:Int)):Bool)
     ·cases hg41:(decide ((0:Int)<(k:Int)):Bool)
      ·refine aN follows<|Cq aE<|Cq aE<|Cq (mE jU)<|Cq (M4 mV)<|Cq (iJ isAgg9)<|Cq (by exact aA rfl rfl fR rfl (jP t.key _ hkt.1))<|Cq iQ<|Cq aE<|Nf aE<|Nf aE<|Nf (mE jU)<|Nf (M4 nS)<|Nf (iJ isAgg9)<|Nf (jV underlying9)<|Nf cZ<|Cq nX<|Cq aE<|Nf aE<|Nf aE<|Nf (mE jU)<|Nf (M4 nS)<|Nf (iJ isAgg9)<|Nf (jV underlying9)<|Nf iE<|Cq nX<|Cq aE<|Nf aE<|Nf iE<|Nf aE<|Ot<|Ot<|Ot<|Ot<|Ot<|Ot<|Ot<|Ot<|Ot<|Ot<|Ot<|Ot<|Nf nX<|Cq nX<|bL<|Kr ?_;exact⟨rfl,⟨_,rfl,by rfl⟩,rfl,rfl,rfl⟩
      refine aN follows<|Cq aE<|Cq aE<|Cq (mE jU)<|Cq (M4 mV)<|Cq (iJ isAgg9)<|Cq (by exact aA rfl rfl fR rfl (jP t.key _ hkt.1))<|Cq iQ<|Cq aE<|Nf aE<|Nf aE<|Nf (mE jU)<|Nf (M4 nS)<|Nf (iJ isAgg9)<|Nf (jV underlying9)<|Nf cZ<|Cq nX<|Cq aE<|Nf aE<|Nf aE<|Nf (mE jU)<|Nf (M4 nS)<|Nf (iJ isAgg9)<|Nf (jV underlying9)<|Nf iE<|Cq nX<|Cq aE<|Nf aE<|Nf iE<|Nf aE<|Nt aE<|Nt aE<|Nt (by exact dW rfl rfl rfl (by exact kK (by omega) (by omega)))<|Nt (by exact bP rfl jU rfl rfl (by have:=aPQ hg41;omega) (show ((k:Int) - 1).toNat=k - 1 by omega) (hpv (by have:=aPQ hg41;omega)) rfl)<|Nt (M4 mV)<|Nt (by exact oK rfl isAgg9 rfl (hpv (by have:=aPQ hg41;omega)) rfl)<|Nt aE<|Nt aE<|Nt (mE jU)<|Nt (M4 mV)<|Nt (iJ isAgg9) ?_;refine Nt (by exact U9 rfl rfl rfl)<|Nf wQ<|Cq nX<|bL<|Kr ?_;exact⟨rfl,⟨_,rfl,by rfl⟩,rfl,rfl,rfl⟩
     refine aN follows<|Cq aE<|Cq aE<|Cq (mE jU)<|Cq (M4 mV)<|Cq (iJ isAgg9)<|Cq (by exact aA rfl rfl fR rfl (jP t.key _ hkt.1))<|Cq iQ<|Cq aE<|Nf aE<|Nf aE<|Nf (mE jU)<|Nf (M4 nS)<|Nf (iJ isAgg9)<|Nf (jV underlying9)<|Nf cZ<|Cq nX<|Cq aE<|Nf aE<|Nf aE<|Nf (mE jU)<|Nf (M4 nS)<|Nf (iJ isAgg9)<|Nf (jV underlying9)<|Nf iE<|Cq nX<|Cq aE<|Of<|Of<|Of<|Ou<|Ou<|Ou<|Ou<|Ou<|Ou<|Ou<|Ou<|Ou<|Ou<|Ou<|Ou<|Of<|Cq wQ<|bL<|Kr ?_;exact⟨rfl,⟨_,rfl,by rfl⟩,rfl,rfl,rfl⟩
    refine aN follows<|Cq aE<|Cq aE<|Cq (mE jU)<|Cq (M4 mV)<|Cq (iJ isAgg9)<|Cq (by exact aA rfl rfl fR rfl (jP t.key _ hkt.1))<|Cq iQ<|Cq aE<|Nf aE<|Nf aE<|Nf (mE jU)<|Nf (M4 nS)<|Nf (iJ isAgg9)<|Nf (jV underlying9)<|Nf cZ<|Cq nX<|Cq aE<|Of<|Of<|Of<|Of<|Of<|Of<|Of<|Cq wQ<|Cq aE<|Of<|Of<|Of<|Ou<|Ou<|Ou<|Ou<|Ou<|Ou<|Ou<|Ou<|Ou<|Ou<|Ou<|Ou<|Of<|Cq cG<|bL<|Kr ?_;exact⟨rfl,⟨_,rfl,by rfl⟩,rfl,rfl,rfl⟩
   refine aN follows<|Cq aE<|Cq aE<|Cq (mE jU)<|Cq (M4 mV)<|Cq (iJ isAgg9)<|Cq (by exact aA rfl rfl fR rfl (jP t.key _ hkt.1))<|Cq iQ<|Cq aE<|Of<|Of<|Of<|Of<|Of<|Of<|Of<|Cq wQ<|Cq aE<|Of<|Of<|Of<|Of<|Of<|Of<|Of<|Cq cG<|Cq aE<|Of<|Of<|Of<|Ou<|Ou<|Ou<|Ou<|Ou<|Ou<|Ou<|Ou<|Ou<|Ou<|Ou<|Ou<|Of<|Cq cG<|bL<|Kr ?_;exact⟨rfl,⟨_,rfl,by rfl⟩,rfl,rfl,rfl⟩
  refine Cn ?_ ?_<;>intro hc3
  ·rw[hbe]at hc3;refine Sr<|Dd aL<|Zz<|aB<|Rt ?_;exact⟨by rw[uC hlt ((AI ht).trans hc3)];rfl,rfl⟩
  rw[hbe]at hc3;refine aC<|Rg<|Dd aE<|Dd mI<|Da ?_;refine⟨k+1,⟨by omega,fun j hj=>?_⟩,by omega,E0⟩;by_cases e:j=k
  ·subst e;exact(AI ht).trans hc3
  exact hno j (by omega)
 have hge:k=l.length:=by have:=aPR hc2;omega
 subst hge;refine aY<|Sr<|Dd aL<|Zz<|aB<|Rt ?_;exact⟨by rw[xT hno];rfl,rfl⟩
theorem aDL(o:GObj)(k:Nat)(s p:ByteArray)(hp:0<k->o.refs[k - 1]?=some p):
  ((!bM s||((decide (o.kind=2)&&decide ((0:Int)<(k:Int)))&&decide (p=s)))||(decide (o.kind=3)&&inB (xP o.refs k) s))=HZ o (iG id o.refs k) (xP o.refs k) s:=by
 rw[HZ,MX];cases hg:bM s with
 |false=>simp
 | true =>
  have hs:(decide ((0:Int)<(k:Int))&&decide (p=s))=decide (s=iG id o.refs k):=by
   cases k with
   |zero=>rw[iG,decide_eq_false (MZ hg)];rfl
   |succ k =>
    have h:=hp (by omega);rw[show k+1 - 1=k from rfl]at h;rw[wI h,decide_eq_true (show (0:Int)<((k+1:Nat):Int)by omega),Bool.true_and];exact decide_eq_decide.2 eq_comm
  rw[<-hs];simp[Bool.and_assoc]
theorem aDe(h:l[k]?=some s):xP l (k+1)=LA (xP l k) s:=by rw[xP,h];rfl
def aKx(k n:Int):Bool:=if k=1 then decide (n=0)else if k=2 then decide (2<=n)else if k=3 then decide (3<=n)else if k=4 then decide (1<=n)else decide (n=3)
def LS(o:GObj):Bool:=(decide ((o.refs.length:Int)<=2000)&&!((List.range o.refs.length).any (pV o)))&&aKx o.kind (o.refs.length:Int)
theorem aA3(o:GObj)(H:aH)(ho:okO o):aI Tryz.prog 255 [av (bS o)] H (fun r H'=>r=bv (LS o)/\H'=H):=by
 refine Pu ?_;obtain ⟨h1,h2,h3,h4⟩:=ho;have hml:(o.refs.map encStr).length=o.refs.length:=aPU _;refine Bd func255 rfl ntmps255<|Sr<|Dd (by exact cD (id:=1) rfl rfl rfl rfl rfl)<|Dd aL<|Zz<|Sr<|Dd (aS dT)<|Dd (bC aF)<|Dd (fE aD)<|Dd aL<|Zz<|Sq<|Sr<|Dd aE<|Dd iE<|Zz ?_;refine Cn ?_ ?_<;>intro hc1
 ·have hb:decide ((o.refs.length:Int)<=2000)=false:=by
   have:=aPQ hc1;exact decide_eq_false (by omega)
  refine Sr<|Dd aL<|Zz<|aB<|Rt ?_;exact⟨by rw[LS,hb];rfl,rfl⟩
 have hb:decide ((o.refs.length:Int)<=2000)=true:=by
  have:=aPR hc1;exact decide_eq_true (by omega)
 rw[LS,hb,Bool.true_and];refine aC<|Sr<|Dd (by exact BR (id:=11) aB0 rfl rfl)<|Dd aL<|Zz<|Sq<|Sr<|Dd aL<|Zz<|aG ?_;refine bT (σ:=Nat) (fun k=>([(1,.ref 1 0 0 0),(3,iv ((o.refs.map encStr).length:Int)),(4,.mp 11 0),(5,iv (k:Int))],[(11,sob (xP o.refs k)),(1,bx 6 151 ((bS o).map .pv))])) (fun k=>k<=o.refs.length/\∀j,j<k->pV o j=false) (fun k=>o.refs.length - k) 0 ⟨by omega,by omega⟩ ?_ ?_
 ·exact(dA.wk (Ea<|Eb<|Ea<|Eb<|trivial) (Hc (J2 _ _)<|Hb<|trivial) trivial)
 rintro k ⟨hk,hno⟩;refine Sq<|Sr<|Dd aE<|Dd aE<|Dd cZ<|Zz ?_;refine Cn ?_ ?_<;>intro hc2
 ·have hlt:k<o.refs.length:=by have:=aPQ hc2;omega
  obtain ⟨s,hs⟩:=aU hlt;have hi:=cJ (f:=encStr) hs;obtain ⟨p,hp⟩:∃p,0<k->o.refs[k - 1]?=some p:=by
   by_cases k0:0<k
   ·obtain ⟨p,hp⟩:=aU (l:=o.refs) (k:=k - 1) (by omega);exact⟨p,fun _=>hp⟩
   exact⟨s,fun h=>absurd h k0⟩
  have hpv:0<k->(o.refs.map encStr)[k - 1]?=some (encStr p):=fun h=>cJ (f:=encStr) (hp h);have hbe:=aDL o k s p hp;have hw:pV o k=HZ o (iG id o.refs k) (xP o.refs k) s:=by rw[pV,hs]
  have hse:=aDe hs;refine aC<|Sq<|aG<|Sq<|Sq ?_;refine kH (t:=60) (n:=44) (X:=(!bM s||((decide (o.kind=2)&&decide ((0:Int)<(k:Int)))&&decide (p=s)))||(decide (o.kind=3)&&inB (xP o.refs k) s)) ?_ ?_
  ·cases hg24:(!bM s:Bool)
   ·cases hg28:(decide (o.kind=2):Bool)
    ·cases hg51:(decide (o.kind=3):Bool)
     ·refine aN follows<|Cq (aS dT)<|Cq (bC aF)<|Cq aE<|Cq (mE cB)<|Cq (iJ isAgg9)<|Cq (by exact aA rfl rfl fR rfl (jP s _ (h4 s (aP4 hs))))<|Cq iQ<|Cq aE<|Nf (aS dZ)<|Nf (bC isAgg3)<|Nf cK<|Nf aE<|Ot<|Ot<|Nf nX<|Nf aE<|Ot<|Ot<|Ot<|Ot<|Ot<|Ot<|Ot<|Ot<|Ot<|Ot<|Ot<|Ot<|Nf cG<|Cq nX<|Cq aE<|Nf (aS dZ)<|Nf (bC isAgg3)<|Nf cK<|Nf aE<|Ot<|Ot<|Ot<|Ot<|Ot<|Ot<|Ot<|Nf nX<|Cq cG<|bL<|Kr ?_;exact⟨rfl,⟨_,rfl,by rfl⟩,rfl,rfl,rfl⟩
     refine aN follows<|Cq (aS dT)<|Cq (bC aF)<|Cq aE<|Cq (mE cB)<|Cq (iJ isAgg9)<|Cq (by exact aA rfl rfl fR rfl (jP s _ (h4 s (aP4 hs))))<|Cq iQ<|Cq aE<|Nf (aS dZ)<|Nf (bC isAgg3)<|Nf cK<|Nf aE<|Ot<|Ot<|Nf nX<|Nf aE<|Ot<|Ot<|Ot<|Ot<|Ot<|Ot<|Ot<|Ot<|Ot<|Ot<|Ot<|Ot<|Nf cG<|Cq nX<|Cq aE<|Nf (aS dZ)<|Nf (bC isAgg3)<|Nf cK<|Nf aE<|Nt aE<|Nt (aS dT)<|Nt (bC aF)<|Nt aE<|Nt (mE cB)<|Nt (iJ isAgg9)<|Nt (by exact sV rfl pD underlying9 rfl rfl rfl rfl rfl mX (.inl rfl))<|Nf wQ<|Cq cG<|bL<|Kr ?_;exact⟨rfl,⟨_,rfl,by rfl⟩,rfl,rfl,rfl⟩
    cases hg32:(decide ((0:Int)<(k:Int)):Bool)
    ·cases hg51:(decide (o.kind=3):Bool)
     ·refine aN follows<|Cq (aS dT)<|Cq (bC aF)<|Cq aE<|Cq (mE cB)<|Cq (iJ isAgg9)<|Cq (by exact aA rfl rfl fR rfl (jP s _ (h4 s (aP4 hs))))<|Cq iQ<|Cq aE<|Nf (aS dZ)<|Nf (bC isAgg3)<|Nf cK<|Nf aE<|Nt aE<|Nt iE<|Nf wQ<|Nf aE<|Ot<|Ot<|Ot<|Ot<|Ot<|Ot<|Ot<|Ot<|Ot<|Ot<|Ot<|Ot<|Nf nX<|Cq nX<|Cq aE<|Nf (aS dZ)<|Nf (bC isAgg3)<|Nf cK<|Nf aE<|Ot<|Ot<|Ot<|Ot<|Ot<|Ot<|Ot<|Nf nX<|Cq cG<|bL<|Kr ?_;exact⟨rfl,⟨_,rfl,by rfl⟩,rfl,rfl,rfl⟩
     refine aN follows<|Cq (aS dT)<|Cq (bC aF)<|Cq aE<|Cq (mE cB)<|Cq (iJ isAgg9)<|Cq (by exact aA rfl rfl fR rfl (jP s _ (h4 s (aP4 hs))))<|Cq iQ<|Cq aE<|Nf (aS dZ)<|Nf (bC isAgg3)<|Nf cK<|Nf aE<|Nt aE<|Nt iE<|Nf wQ<|Nf aE<|Ot<|Ot<|Ot<|Ot<|Ot<|Ot<|Ot<|Ot<|Ot<|Ot<|Ot<|Ot<|Nf nX<|Cq nX<|Cq aE<|Nf (aS dZ)<|Nf (bC isAgg3)<|Nf cK<|Nf aE<|Nt aE<|Nt (aS dT)<|Nt (bC aF)<|Nt aE<|Nt (mE cB)<|Nt (iJ isAgg9)<|Nt (by exact sV rfl pD underlying9 rfl rfl rfl rfl rfl mX (.inl rfl))<|Nf wQ<|Cq cG<|bL<|Kr ?_;exact⟨rfl,⟨_,rfl,by rfl⟩,rfl,rfl,rfl⟩
    cases hg47:(decide (p=s):Bool)
    ·cases hg51:(decide (o.kind=3):Bool)
     ·refine aN follows<|Cq (aS dT)<|Cq (bC aF)<|Cq aE<|Cq (mE cB)<|Cq (iJ isAgg9)<|Cq (by exact aA rfl rfl fR rfl (jP s _ (h4 s (aP4 hs))))<|Cq iQ<|Cq aE<|Nf (aS dZ)<|Nf (bC isAgg3)<|Nf cK<|Nf aE<|Nt aE<|Nt iE<|Nf wQ<|Nf aE<|Nt (aS dT)<|Nt (bC aF)<|Nt aE<|Nt (by exact dW rfl rfl rfl (by exact kK (by omega) (by omega)))<|Nt (by exact bP rfl cB rfl rfl (by have:=aPQ hg32;omega) (show ((k:Int) - 1).toNat=k - 1 by omega) (hpv (by have:=aPQ hg32;omega)) rfl)<|Nt (by exact oK rfl isAgg9 rfl (hpv (by have:=aPQ hg32;omega)) rfl)<|Nt (aS dT)<|Nt (bC aF)<|Nt aE<|Nt (mE cB)<|Nt (iJ isAgg9)<|Nt zE<|Nf wQ<|Cq nX<|Cq aE<|Nf (aS dZ)<|Nf (bC isAgg3)<|Nf cK<|Nf aE<|Ot<|Ot<|Ot<|Ot ?_;refine Ot<|Ot<|Ot<|Nf nX<|Cq nX<|bL<|Kr ?_;exact⟨rfl,⟨_,rfl,by rfl⟩,rfl,rfl,rfl⟩
     refine aN follows<|Cq (aS dT)<|Cq (bC aF)<|Cq aE<|Cq (mE cB)<|Cq (iJ isAgg9)<|Cq (by exact aA rfl rfl fR rfl (jP s _ (h4 s (aP4 hs))))<|Cq iQ<|Cq aE<|Nf (aS dZ)<|Nf (bC isAgg3)<|Nf cK<|Nf aE<|Nt aE<|Nt iE<|Nf wQ<|Nf aE<|Nt (aS dT)<|Nt (bC aF)<|Nt aE<|Nt (by exact dW rfl rfl rfl (by exact kK (by omega) (by omega)))<|Nt (by exact bP rfl cB rfl rfl (by have:=aPQ hg32;omega) (show ((k:Int) - 1).toNat=k - 1 by omega) (hpv (by have:=aPQ hg32;omega)) rfl)<|Nt (by exact oK rfl isAgg9 rfl (hpv (by have:=aPQ hg32;omega)) rfl)<|Nt (aS dT)<|Nt (bC aF)<|Nt aE<|Nt (mE cB)<|Nt (iJ isAgg9)<|Nt zE<|Nf wQ<|Cq nX<|Cq aE<|Nf (aS dZ)<|Nf (bC isAgg3)<|Nf cK<|Nf aE<|Nt aE<|Nt (aS dT) ?_;refine Nt (bC aF)<|Nt aE<|Nt (mE cB)<|Nt (iJ isAgg9)<|Nt (by exact sV rfl pD underlying9 rfl rfl rfl rfl rfl mX (.inl rfl))<|Nf wQ<|Cq nX<|bL<|Kr ?_;exact⟨rfl,⟨_,rfl,by rfl⟩,rfl,rfl,rfl⟩
    refine aN follows<|Cq (aS dT)<|Cq (bC aF)<|Cq aE<|Cq (mE cB)<|Cq (iJ isAgg9)<|Cq (by exact aA rfl rfl fR rfl (jP s _ (h4 s (aP4 hs))))<|Cq iQ<|Cq aE<|Nf (aS dZ)<|Nf (bC isAgg3)<|Nf cK<|Nf aE<|Nt aE<|Nt iE<|Nf wQ<|Nf aE<|Nt (aS dT)<|Nt (bC aF)<|Nt aE<|Nt (by exact dW rfl rfl rfl (by exact kK (by omega) (by omega)))<|Nt (by exact bP rfl cB rfl rfl (by have:=aPQ hg32;omega) (show ((k:Int) - 1).toNat=k - 1 by omega) (hpv (by have:=aPQ hg32;omega)) rfl)<|Nt (by exact oK rfl isAgg9 rfl (hpv (by have:=aPQ hg32;omega)) rfl)<|Nt (aS dT)<|Nt (bC aF)<|Nt aE<|Nt (mE cB)<|Nt (iJ isAgg9)<|Nt zE<|Nf wQ<|Cq nX<|Cq aE<|Of<|Of<|Of<|Of<|Ou<|Ou<|Ou<|Ou<|Ou<|Ou<|Ou<|Of<|Cq wQ<|bL<|Kr ?_;exact⟨rfl,⟨_,rfl,by rfl⟩,rfl,rfl,rfl⟩
   refine aN follows<|Cq (aS dT)<|Cq (bC aF)<|Cq aE<|Cq (mE cB)<|Cq (iJ isAgg9)<|Cq (by exact aA rfl rfl fR rfl (jP s _ (h4 s (aP4 hs))))<|Cq iQ<|Cq aE<|Of<|Of<|Of<|Of<|Ou<|Ou<|Of<|Of<|Ou<|Ou<|Ou<|Ou<|Ou<|Ou<|Ou<|Ou<|Ou<|Ou<|Ou<|Ou<|Of<|Cq wQ<|Cq aE<|Of<|Of<|Of<|Of<|Ou<|Ou<|Ou<|Ou<|Ou<|Ou<|Ou<|Of<|Cq cG<|bL<|Kr ?_;exact⟨rfl,⟨_,rfl,by rfl⟩,rfl,rfl,rfl⟩
  refine Cn ?_ ?_<;>intro hc3
  ·rw[hbe,<-hw]at hc3;refine Sr<|Dd aL<|Zz<|aB<|Rt ?_;exact⟨by rw[uC hlt hc3];rfl,rfl⟩
  rw[hbe,<-hw]at hc3;refine aC<|Rg<|Dd aE<|Dd (aS dT)<|Dd (bC aF)<|Dd aE<|Dd (mE cB)<|Dd (iJ isAgg9)<|Uu (by exact O1 (.inl rfl) pD underlying9 rfl rfl rfl rfl rfl rfl rfl)<|Zz<|Rg<|Dd aE<|Dd mI<|Da ?_;refine⟨k+1,⟨by omega,fun j hj=>?_⟩,by omega,?_⟩
  ·by_cases e:j=k
   ·subst e;exact hc3
   exact hno j (by omega)
  rw[hse];exact(dA.wk (Ea<|Eb<|Ea<|Eb<|trivial) (Hc (J2 _ _)<|Hb<|trivial) trivial)
 have hge:k=o.refs.length:=by have:=aPR hc2;omega
 subst hge;rw[xT hno,Bool.not_false,Bool.true_and,aKx,<-hml];refine aY<|Sq<|Sr<|Dd (aS dZ)<|Dd (bC isAgg3)<|Zz<|aG<|Sr<|Dd cK<|Da ?_;refine Cn ?_ ?_<;>intro hc4
 ·rw[aPT (aPQ hc4)];exact Sr<|Dd aE<|Dd cK<|Dd aL<|Zz<|aB<|Rt<|Qq
 rw[aPS (aPR hc4)];refine Sr<|Dd cK<|Da ?_;refine Cn ?_ ?_<;>intro hc5
 ·rw[aPT (aPQ hc5)];exact Sr<|Dd aE<|Dd DD<|Dd aL<|Zz<|aB<|Rt<|Qq
 rw[aPS (aPR hc5)];refine Sr<|Dd cK<|Da ?_;refine Cn ?_ ?_<;>intro hc6
 ·rw[aPT (aPQ hc6)];exact Sr<|Dd aE<|Dd DD<|Dd aL<|Zz<|aB<|Rt<|Qq
 rw[aPS (aPR hc6)];refine Sr<|Dd cK<|Da ?_;refine Cn ?_ ?_<;>intro hc7
 ·rw[aPT (aPQ hc7)];exact Sr<|Dd aE<|Dd DD<|Dd aL<|Zz<|aB<|Rt<|Qq
 rw[aPS (aPR hc7)];exact aC<|Sr<|Dd aE<|Dd cK<|Dd aL<|Zz<|aB<|Rt<|Qq
def atO(o:GObj):Bool:=if o.kind=1 then S4 o.x o.y else(decide (o.x=0)&&decide (o.y=0))
theorem aHR(o:GObj):((((bM o.id&&!decide (eO o.kind=sNil))&&atO o)&&qK o.tags)&&LS o)=lH o:=by
 cases hw:decide (eO o.kind=sNil)with
 |true=>simp[lH,JF,sN,hw]
 |false =>
  have hk:=xL hw;have hk0:¬ o.kind=0:=fun e=>by rw[e]at hw;simp[eO]at hw
  simp only[lH,JF,sN,hw,LS,atO,M0,aKx,B1];generalize bM o.id=a;generalize qK o.tags=b;generalize (List.range o.refs.length).any (pV o)=w;generalize S4 o.x o.y=c;generalize (decide (o.x=0)&&decide (o.y=0))=d;generalize (o.refs.length:Int)=n;generalize o.kind=k at *;rcases(by omega:k=1\/k=2\/k=3\/k=4\/k=5)with rfl|rfl|rfl|rfl|rfl<;>cases a<;>cases b<;>cases w<;>cases c<;>cases d<;>rw[Bool.eq_iff_iff]<;>simp<;>omega
theorem aDu(o:GObj)(H:aH)(ho:okO o):aI Tryz.prog 220 [av (bS o)] H (fun r H'=>r=bv (lH o)/\H'=H):=by
 refine Pu ?_;rw[<-aHR];refine Bd func220 rfl ntmps220<|Sr<|Dd (by exact cD (id:=1) rfl rfl rfl rfl rfl)<|Dd aL<|Zz<|Sr<|Dd (aS lV)<|Dd (by exact aM rfl dS sizeOf68 rfl rfl rfl rfl (by simp only[Zl,bJ,bS,encStr];rfl) rfl)<|Dd (by exact aA rfl rfl aOd rfl (aDt o.x o.y _))<|Dd aL<|Zz<|Sq<|Sr<|Dd (aS dZ)<|Dd (bC isAgg3)<|Dd xY<|Zz ?_;refine Cn ?_ ?_<;>intro hc1
 ·have hat:atO o=(decide (o.x=0)&&decide (o.y=0)):=by
   have h:(!decide (o.kind=1))=true:=hc1;rw[atO,aPS (by simpa using h)]
  refine Rg<|Dd (aS lV)<|Dd (by exact aM rfl dS sizeOf68 rfl rfl rfl rfl (by simp only[Zl,bJ,bS,encStr];rfl) rfl)<|Dd (vC W0)<|Dd (by exact xX rfl rfl rfl rfl rfl gZ (R1 _ _ _ _))<|Dd aL<|Zz<|Sq ?_;refine aT (t:=2) (n:=26) (X:=(((bM o.id&&!decide (eO o.kind=sNil))&&atO o)&&qK o.tags)&&LS o) ?_ ?_
  ·all_goals refine Dd (aS nU) ?_
   all_goals refine Dd (bC isAgg9)<|Dd (by exact aA rfl rfl fR rfl (jP o.id _ ho.1))<|Dm ?_
   all_goals refine Sp 17 (fun h17=>?_) fun h17=>?_
   all_goals try contradiction
   all_goals first|refine Fo<|Fo<|Fo<|Fo ?_|refine On (aS dZ)<|On (bC isAgg3)<|On (by exact aA rfl rfl aO9 rfl (HA o.kind _))<|On IU ?_
   all_goals refine Dd cG<|Dm ?_
   all_goals refine Sp 23 (fun h23=>?_) fun h23=>?_
   all_goals try contradiction
   all_goals first|refine Fo ?_|refine On aE ?_
   all_goals refine Dd cG<|Dm ?_
   all_goals refine Sp 26 (fun h26=>?_) fun h26=>?_
   all_goals try contradiction
   all_goals first|refine Fo<|Fo<|Fo ?_|refine On (aS eX)<|On (bC cQ)<|On (by exact aA rfl rfl call254 rfl (aA1 o.tags _ ho.2.1)) ?_
   all_goals refine Dd cG<|Dm ?_
   all_goals refine Sp 31 (fun h31=>?_) fun h31=>?_
   all_goals try contradiction
   all_goals first|refine Fo<|Fo ?_|refine On (by exact aM rfl cW sizeOf151 rfl rfl rfl rfl (by simp only[Zl,bJ,bS,encStr];rfl) rfl)<|On (by exact aA rfl rfl call255 rfl (aA3 o _ ho)) ?_
   all_goals refine Dd cG<|Da ?_
   all_goals(exact⟨⟨_,rfl,by(simp only[hat, *];rfl)⟩,rfl,rfl,rfl⟩)
  exact aB<|Rt<|Qq
 have hat:atO o=S4 o.x o.y:=by
  have h:(!decide (o.kind=1))=false:=hc1;rw[atO,aPT (by simpa using h)]
 refine aC<|Sq ?_;refine aT (t:=2) (n:=26) (X:=(((bM o.id&&!decide (eO o.kind=sNil))&&atO o)&&qK o.tags)&&LS o) ?_ ?_
 ·all_goals refine Dd (aS nU) ?_
  all_goals refine Dd (bC isAgg9)<|Dd (by exact aA rfl rfl fR rfl (jP o.id _ ho.1))<|Dm ?_
  all_goals refine Sp 17 (fun h17=>?_) fun h17=>?_
  all_goals try contradiction
  all_goals first|refine Fo<|Fo<|Fo<|Fo ?_|refine On (aS dZ)<|On (bC isAgg3)<|On (by exact aA rfl rfl aO9 rfl (HA o.kind _))<|On IU ?_
  all_goals refine Dd cG<|Dm ?_
  all_goals refine Sp 23 (fun h23=>?_) fun h23=>?_
  all_goals try contradiction
  all_goals first|refine Fo ?_|refine On aE ?_
  all_goals refine Dd cG<|Dm ?_
  all_goals refine Sp 26 (fun h26=>?_) fun h26=>?_
  all_goals try contradiction
  all_goals first|refine Fo<|Fo<|Fo ?_|refine On (aS eX)<|On (bC cQ)<|On (by exact aA rfl rfl call254 rfl (aA1 o.tags _ ho.2.1)) ?_
  all_goals refine Dd cG<|Dm ?_
  all_goals refine Sp 31 (fun h31=>?_) fun h31=>?_
  all_goals try contradiction
  all_goals first|refine Fo<|Fo ?_|refine On (by exact aM rfl cW sizeOf151 rfl rfl rfl rfl (by simp only[Zl,bJ,bS,encStr];rfl) rfl)<|On (by exact aA rfl rfl call255 rfl (aA3 o _ ho)) ?_
  all_goals refine Dd cG<|Da ?_
  all_goals(exact⟨⟨_,rfl,by(simp only[hat, *];rfl)⟩,rfl,rfl,rfl⟩)
 exact aB<|Rt<|Qq
end Go.Proofs.YtmdicgjnmfolfaaGreatDoor
