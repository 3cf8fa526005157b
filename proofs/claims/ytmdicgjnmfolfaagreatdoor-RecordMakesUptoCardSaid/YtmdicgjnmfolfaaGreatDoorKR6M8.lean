/-
  Parts of the proof: rules of an abstract program logic, contracts of functions, plain laws. Conditions: each theorem's own.
-/
import Derived.Test.YtmdicgjnmfolfaaGreatDoorKR6M7
import Derived.Shelf.LaysC
import Derived.Ground.NamesProg
set_option linter.unusedVariables false
set_option linter.unusedSimpArgs false
set_option maxRecDepth 100000
set_option maxHeartbeats 8000000
namespace Go.Proofs
open Tryz
theorem yI:type_of% call114:=call114
theorem aPR:type_of% call129:=call129
theorem aPM:type_of% call205:=call205
theorem sA:type_of% call60:=call60
theorem fX:type_of% call74:=call74
theorem aPL:type_of% func156:=func156
theorem iR:type_of% isAgg23:=isAgg23
theorem pU:type_of% isAgg98:=isAgg98
theorem aNz:type_of% ntmps156:=ntmps156
theorem pT:type_of% underlying139:=underlying139
end Go.Proofs
namespace Go.Proofs.YtmdicgjnmfolfaaGreatDoor
open Go.Proofs.Tryz
open Go.Abs
variable{s t:ByteArray}{r:GRec}{id g k:Nat}{e:GEdit}{l:List UInt8}{u:Bool}{H:aH}
def ofY(l:List UInt8):ByteArray:=⟨l.toArray⟩
def eH(s:ByteArray):List ByteArray:=(fO 32 s.data.toList).map ofY
def AE(D:List ByteArray)(m:Nat):List (List AV):=D.map (fun e=>(encStr e).map AV.pv)++List.replicate m [sv ⟨#[]⟩]
theorem QB(D:List ByteArray)(m:Nat):(AE D (m+1))[D.length]?=some [sv ⟨#[]⟩]:=by rw[AE,List.getElem?_append_right (by rw[aQE];exact aQK _),aQE,Nat.sub_self];rfl
theorem YZ(h:(eH s).length=1):eH s=[s]:=by rw[eH,aQE,uR]at h;have h0:(32:UInt8)∉s.data.toList:=List.count_eq_zero.1 (by omega);rw[eH,sM h0];rfl
theorem LY(D:List ByteArray)(m:Nat)(x:ByteArray):(AE D (m+1)).set D.length [sv x]=AE (D++[x]) m:=by unfold AE;rw[List.set_append_right _ _ (by rw[aQE];exact aQK _),aQE,Nat.sub_self,List.map_append,List.append_assoc];rfl
theorem LZ(H:aH)(D:List ByteArray)(m:Nat):∀r∈AE D m,∀a∈r,Clo H a:=by
 intro r hr a ha;rcases List.mem_append.1 hr with hr|hr
 ·obtain ⟨d,_,rfl⟩:=List.mem_map.1 hr;obtain ⟨p,_,rfl⟩:=List.mem_map.1 ha;simp
 rw[List.eq_of_mem_replicate hr,aQH]at ha;subst ha;simp
theorem exL(s:ByteArray)(i j:Nat):(s.extract i j).data.toList=(s.data.toList.drop i).take (j - i):=by rw[ByteArray.data_extract,Array.toList_extract,List.extract_eq_take_drop]
theorem eqL{a b:ByteArray}(h:a.data.toList=b.data.toList):a=b:=by cases a;cases b;simp_all[Array.toList_inj]
theorem aFK{w r:List UInt8}(h:s.data.toList=w++32::r):s.extract 0 w.length=ofY w/\(s.extract (w.length+1) s.size).data.toList=r:=by
 have hl:s.size=w.length+1+r.length:=by
  show s.data.size=_;rw[<-Array.length_toList,h,aQF,aQG];omega
 constructor
 ·refine eqL ?_;rw[exL,List.drop_zero,Nat.sub_zero,h,List.take_left];simp[ofY]
 rw[exL,h,hl,show w++32::r=(w++[32])++r by simp,show w.length+1=(w++[(32:UInt8)]).length by simp,List.drop_left];exact List.take_of_length_le (by omega)
theorem aOy{H1:aH}{n:Nat}{ob:Ob}(ps:List (List PV))(hH:H1.get id=some ob)(hg:ob.g=g)(hps:ob.rows=ps.map (·.map .pv))(hn:ps.length=n):Fin [] H1 (.osl id g 0 n) [] (.pv (.sl ps)):=by subst hg hn;exact Fin.fz (id:=id) (ob:=ob) ps hH hps (.osl (by rw[aQW,List.drop_zero,List.take_length])) rfl trivial trivial
theorem aAK(s0:ByteArray)(H:aH)(hs:s0.size<1099511627776):aI Tryz.prog 194 [sv s0,sv sSp,iv 0,iv (-1)] H (fun r H'=>r=.pv (aZ (eH s0))/\H'=H):=by
 refine Pu ?_;obtain ⟨N,hN⟩:∃N,N=s0.data.toList.count 32:=⟨_,rfl⟩;have hNs:N<=s0.size:=by rw[hN];exact Nat.le_trans List.count_le_length (by simp)
 have hC:=fun H=>aJI s0 H;rw[<-hN]at hC;have hlen:(fO 32 s0.data.toList).length=N+1:=by rw[uR,hN]
 refine Bd func194 rfl ntmps194<|Sr<|Dd aM<|Zz<|Sq<|Sr<|Dd aE<|Dd cN<|Zz ?_;refine Cn ?_ ?_<;>intro hc1
 ·cases hc1
 refine aC<|Sq<|Sr<|Dd aE<|Dd AG<|Zz ?_;refine Cn ?_ ?_<;>intro hc2
 ·have:=aQA hc2;cases this
 refine aC<|Sq<|Sr<|Dd aE<|Dd cW<|Zz ?_;refine Cn ?_ ?_<;>intro hc3
 ·refine Rg<|Dd aE<|Dd aE<|Dd (by exact aA rfl rfl call228 rfl (hC _))<|Dd (by exact cB rfl rfl rfl (show IntKind.i64.wrap ((N:Int)+1)=((N+1:Nat):Int)by rw[IntKind.wrap_i64];omega))<|Dd aM<|Zz<|Sr<|Dd aE<|Dd aE<|Dd (kG underlying9)<|Dd (by exact cB rfl rfl rfl (show IntKind.i64.wrap ((s0.size:Int)+1)=((s0.size+1:Nat):Int)by rw[IntKind.wrap_i64];omega))<|Dd (by exact KU (r:=((N+1:Nat):Int)) rfl rfl rfl (by omega))<|Dd aM<|Zz<|Sr<|Dd aE<|Dd (by exact BZ (id:=31) rfl cC xI zo9 rfl rfl rfl (by omega) (by omega) (by exact aQP _) (by exact aQP _) (by omega) rfl)<|Dd aM<|Zz<|Sr<|Dd aE<|Dd (by exact dX rfl rfl rfl (show IntKind.i64.wrap (((N+1:Nat):Int) - 1)=(N:Int)by rw[IntKind.wrap_i64];omega))<|Dd aM<|Zz<|Sr<|Dd aM<|Zz<|Sq<|aF ?_;refine jK (fun(D:List ByteArray) (rest:ByteArray)=>([(0,sv rest),(1,sv sSp),(2,iv 0),(3,iv (N:Int)),(8,.pv (.sl [])),(9,.osl 31 0 0 (N+1)),(10,iv (D.length:Int))],[(31,⟨0,1,9,AE D (N+1 - D.length)⟩)])) (fun D rest=>eH s0=D++eH rest/\rest.size<=s0.size) (fun D rest=>N - D.length) [] s0 ⟨rfl,aQK _⟩ ?_ ?_
  ·exact(cX.wk (Eb<|Eb<|Eb<|Eb<|Eb<|Ea<|Eb<|trivial) (Hc (LZ _ _ _)<|trivial) trivial)
  rintro D rest ⟨hD,hr⟩;have hln:D.length+(eH rest).length=N+1:=by
   have:=congrArg List.length hD;rw[aQF,eH,aQE,hlen]at this;exact this.symm
  have hpos:0<(eH rest).length:=by rw[eH,aQE];exact AD _ _
  obtain ⟨m,hm⟩:∃m,N+1 - D.length=m+1:=⟨N - D.length,by omega⟩;have hI:=fun H=>aIo rest H;rw[hm];rcases Nat.lt_or_ge D.length N with hlt|hge
  ·have h1:Lib.indexByte rest.data.toList 32 ≠ -1:=fun h=>by
    have h2:=sM (vO.1 h);rw[eH,h2]at hln;have:D.length+1=N+1:=hln;omega
   obtain ⟨w,r,e1,e2,e3⟩:=vP h1;obtain ⟨x1,x2⟩:=aFK e1;have hl:w.length+1+r.length=rest.size:=by rw[<-show rest.data.toList.length=rest.size by simp,e1,aQF,aQG];omega
   have hsp:eH rest=rest.extract 0 w.length::eH (rest.extract (w.length+1) rest.size):=by
    rw[eH,e1,nM e2,List.map_cons,x1,eH,x2]
   simp only[e3]at hI;refine Sq<|Sr<|Dd aE<|Dd aE<|Dd cW<|Zz ?_;refine Cn ?_ ?_<;>intro hc4
   ·refine aC<|aF<|Sr<|Dd aE<|Dd aE<|Dd (by exact aA rfl rfl call229 rfl (hI _))<|Dd aM<|Zz<|Sq<|Sr<|Dd aE<|Dd cW<|Zz ?_;refine Cn ?_ ?_<;>intro hc5
    ·have:=aQA hc5;omega
    refine aC<|Sr<|Dd aE<|Dd aE<|Dd aE<|Dd aE<|Dd aE<|Dd (by exact cB rfl rfl rfl (show IntKind.i64.wrap ((w.length:Int)+0)=(w.length:Int)by rw[IntKind.wrap_i64];omega))<|Dd (by exact cQ (l:=0) (h:=w.length) rfl underlying9 rfl rfl rfl (by omega) (by omega) rfl)<|Dd (by exact dQ rfl cC rfl rfl rfl rfl rfl (by omega) (by exact aQP _) (by omega) (aQW _))<|Uu (by exact bG rfl sizeOf9 rfl rfl rfl rfl rfl (QB D m) Nat.zero_lt_one rfl (LY D m _))<|Zz<|Sr<|Dd aE<|Dd aE<|Dd aE<|Dd (kG underlying9)<|Dd (by exact cB rfl rfl rfl (show IntKind.i64.wrap ((w.length:Int)+1)=((w.length+1:Nat):Int)by rw[IntKind.wrap_i64];omega))<|Dd (by exact cQ (l:=(w.length+1)) (h:=rest.size) rfl underlying9 rfl rfl rfl (by omega) (by omega) rfl)<|Dd aM<|Zz<|Rg<|Dm ?_;refine Dd (by exact cB rfl rfl rfl (show IntKind.i64.wrap ((D.length:Int)+1)=((D.length+1:Nat):Int)by rw[IntKind.wrap_i64];omega))<|Da ?_;have e5:(D++[rest.extract 0 w.length]).length=D.length+1:=by simp
    have hsz:(rest.extract (w.length+1) rest.size).size<=s0.size:=by rw[<-show (rest.extract (w.length+1) rest.size).data.toList.length=(rest.extract (w.length+1) rest.size).size by simp,x2];omega
    refine⟨D++[rest.extract 0 w.length],rest.extract (w.length+1) rest.size,⟨by rw[hD,hsp,List.append_assoc];rfl,hsz⟩,by rw[e5];omega,?_⟩;rw[e5,show N+1 - (D.length+1)=m by omega];exact(cX.wk (Eb<|Eb<|Eb<|Eb<|Eb<|Ea<|Eb<|trivial) (Hc (LZ _ _ _)<|trivial) trivial)
   have:=aQB hc4;omega
  have hDN:D.length=N:=by omega
  have hone:eH rest=[rest]:=YZ (by omega);have hm0:m=0:=by omega
  subst hm0;refine Sq<|Sr<|Dd aE<|Dd aE<|Dd cW<|Zz ?_;refine Cn ?_ ?_<;>intro hc6
  ·have:=aQA hc6;omega
  refine aW<|Sr<|Dd aE<|Dd aE<|Dd aE<|Dd (by exact dQ rfl cC rfl rfl rfl rfl rfl (by omega) (by exact aQP _) (by omega) (aQW _))<|Uu (by exact bG rfl sizeOf9 rfl rfl rfl rfl rfl (QB D 0) Nat.zero_lt_one rfl (LY D 0 _))<|Zz<|Sr<|Dd aE<|Dd aE<|Dd (by exact cB rfl rfl rfl (show IntKind.i64.wrap ((D.length:Int)+1)=((D.length+1:Nat):Int)by rw[IntKind.wrap_i64];omega))<|Dd (by exact jC (l:=0) (h:=(D.length+1)) rfl cC rfl rfl rfl rfl rfl rfl (by omega) (by omega) rfl rfl)<|Dd aM<|Zz<|aB ?_;have hps:(D++[rest]).map encStr=(eH s0).map encStr:=by rw[hD,hone]
  refine dV (H':=[]) (.inr rfl) rfl (aX rfl) (aOy (id:=31) ((D++[rest]).map encStr) rfl rfl (by show AE (D++[rest]) 0=_;rw[AE,List.replicate_zero,List.append_nil,List.map_map];rfl) (by simp)) ⟨?_,rfl⟩;rw[aZ,hps]
 cases hc3
theorem aCO(s:ByteArray)(H:aH)(hs:s.size<1099511627776):aI Tryz.prog 154 [sv s,sv sSp] H (fun r H'=>r=.pv (aZ (eH s))/\H'=H):=by refine Pu ?_;exact Bd func154 rfl ntmps154<|Sr<|Dd aM<|Zz<|Sr<|Dd aE<|Dd aE<|Dd (by exact aA rfl rfl call194 rfl (aAK s _ hs))<|Dd aM<|Zz<|aB<|Rt<|Qq
def vK(t:ByteArray):ByteArray:=if Lib.indexByte t.data.toList 10 = -1 then t else t.extract 0 ((Lib.indexByte t.data.toList 10).toNat+1)
def JO(t:ByteArray):ByteArray:=if Lib.indexByte t.data.toList 10 = -1 then⟨#[]⟩else t.extract ((Lib.indexByte t.data.toList 10).toNat+1) t.size
def gQ(s:ByteArray):Nat->ByteArray
 |0=>s
 |k+1=>JO (gQ s k)
def hY(s:ByteArray):List ByteArray:=(lI s.data.toList).map ofY
theorem aFJ(s:ByteArray):ofY s.data.toList=s:=eqL (by simp[ofY])
theorem szY(s:ByteArray):s.data.toList.length=s.size:=by simp
theorem aFa(h:Lib.indexByte t.data.toList 10 ≠ -1):∃w r,t.data.toList=w++10::r/\(10:UInt8)∉w/\Lib.indexByte t.data.toList 10=(w.length:Int)/\t.extract 0 (w.length+1)=ofY (w++[10])/\(t.extract (w.length+1) t.size).data.toList=r/\w.length+1+r.length=t.size:=by
 obtain ⟨w,r,e1,e2,e3⟩:=vP h;have hl:w.length+1+r.length=t.size:=by rw[<-szY,e1,aQF,aQG];omega
 have e4:t.data.toList=(w++[10])++r:=by rw[e1];simp
 refine⟨w,r,e1,e2,e3,eqL ?_,?_,hl⟩
 ·rw[exL,List.drop_zero,Nat.sub_zero,e4,show w.length+1=(w++[(10:UInt8)]).length by simp,List.take_left];simp[ofY]
 rw[exL,e4,show w.length+1=(w++[(10:UInt8)]).length by simp,List.drop_left];exact List.take_of_length_le (by rw[aQF,List.length_singleton];omega)
theorem zB(h:¬ 0<t.size):hY t=[]:=by have:t.data.toList=[]:=List.length_eq_zero_iff.1 (by rw[szY];omega);rw[hY,this];rfl
theorem AT(h:0<t.size):hY t=vK t::hY (JO t)/\(JO t).size<=t.size:=by
 rw[vK,JO];by_cases h1:Lib.indexByte t.data.toList 10 = -1
 ·rw[aQD h1,aQD h1];refine⟨?_,aQV _⟩;rw[hY,JP (vO.1 h1) (fun e=>by rw[<-szY,e]at h;exact absurd h (Nat.lt_irrefl 0))];show [ofY t.data.toList]=_;rw[aFJ];rfl
 rw[aQC h1,aQC h1];obtain ⟨w,r,e1,e2,e3,e4,e5,e6⟩:=aFa h1;rw[e3,aQP,e4];refine⟨?_,by rw[<-szY,e5];omega⟩;rw[hY,e1,ER e2,List.map_cons,hY,e5]
theorem yR(s:ByteArray):∀k,k<=(hY s).length->hY (gQ s k)=(hY s).drop k/\(gQ s k).size<=s.size
 |0,_=>⟨rfl,aQK _⟩
 | k+1,h=>by
  obtain ⟨i1,i2⟩:=yR s k (Nat.le_of_succ_le h);have hp:0<(gQ s k).size:=by
   rcases Nat.lt_or_ge 0 (gQ s k).size with h1|h1
   ·exact h1
   have h2:=zB (t:=gQ s k) (by omega);rw[h2]at i1;have:=congrArg List.length i1;rw[aQT,List.length_nil]at this;omega
  obtain ⟨j1,j2⟩:=AT hp;rw[j1]at i1;refine⟨?_,Nat.le_trans j2 i2⟩;show hY (JO (gQ s k))=_;have:=congrArg List.tail i1;rw[List.tail_cons,List.tail_drop]at this;exact this
theorem aIg(h:k<(hY s).length):(hY s)[k]?=some (vK (gQ s k))/\0<(gQ s k).size:=by
 obtain ⟨i1,i2⟩:=yR s k (Nat.le_of_lt h);have hp:0<(gQ s k).size:=by
  rcases Nat.lt_or_ge 0 (gQ s k).size with h1|h1
  ·exact h1
  have h2:=zB (t:=gQ s k) (by omega);rw[h2]at i1;have:=congrArg List.length i1;rw[aQT,List.length_nil]at this;omega
 refine⟨?_,hp⟩;rw[(AT hp).1]at i1;have:=congrArg List.head? i1;rw[List.head?_cons,List.head?_drop]at this;exact this.symm
def lB(s:ByteArray):Ob:=bx 1 9 [sv s]
theorem aIf(s:ByteArray)(H:aH)(h1:H.get 933=none):aI Tryz.prog 115 [sv s] H (fun r H'=>r=.clo 153 [.ref 933 0 0 0]/\H'=(933,lB s)::H):=by refine Bd func115 rfl ntmps115<|Sr<|Dd (by exact cF (id:=933) rfl rfl rfl rfl h1)<|Dd aM<|Zz<|Sr<|Dd (by exact gR rfl rfl)<|Dd aM<|Zz<|aB ?_;refine dV (H':=((933,lB s)::H)) (.inr rfl) rfl (aX rfl) Fin.refl ?_;exact Qq
theorem aFZ(s:ByteArray)(fv:AV)(Hs:Nat->aH)(hs:s.size<1099511627776)(h1:∀k,(Hs k).get 933=some (lB (gQ s k)))
  (hy:∀k,k<(hY s).length->dN Tryz.prog fv [sv (vK (gQ s k))] ((933,lB (gQ s (k+1)))::Hs k) (fun r H'=>r=bv true/\H'=Hs (k+1))) :
  aI Tryz.prog 153 [fv,.ref 933 0 0 0] (Hs 0) (fun r H'=>r=.tup []/\H'=Hs (hY s).length):=by
 refine Bd func153 rfl ntmps153<|aF ?_;refine bJ (σ:=Nat) (fun k=>([(0,fv),(1,.ref 933 0 0 0)],Hs k)) (fun k=>k<=(hY s).length) (fun k=>(hY s).length - k) 0 (aQV _) ?_ ?_
 ·exact E0
 rintro k hk;obtain ⟨i1,i2⟩:=yR s k hk;have hI:=fun H=>qG (gQ s k) 10 H;have hnx:gQ s (k+1)=JO (gQ s k):=rfl;refine Sq<|Sr<|Dd (by exact aK rfl isAgg9 rfl (h1 k) rfl rfl rfl)<|Dd (kG underlying9)<|Dd iG<|Zz ?_;refine Cn ?_ ?_<;>intro hc1
 ·have hp:0<(gQ s k).size:=by have:=aQA hc1;omega
  have hlt:k<(hY s).length:=by
   rcases Nat.lt_or_ge k (hY s).length with h|h
   ·exact h
   rw[(AT hp).1,List.drop_eq_nil_of_le h]at i1;cases i1
  have hyk:=hy k hlt;rw[hnx,JO,vK]at hyk;rcases Classical.em (Lib.indexByte (gQ s k).data.toList 10 = -1)with e0|e0
  ·rw[aQD e0,aQD e0]at hyk;have hI2:∀H,aI Tryz.prog 140 [sv (gQ s k),.pv (.int .u8 10)] H (fun r H'=>r=iv (-1)/\H'=H):=fun H=>by
    have:=hI H
    rwa [show Lib.indexByte (gQ s k).data.toList ((10:Int).toNat.toUInt8) = -1 from e0]at this
   refine aC<|aF<|Sr<|Dd aM<|Zz<|Sq<|Sr<|Dd (by exact aK rfl isAgg9 rfl (h1 k) rfl rfl rfl)<|Dd (by exact aA rfl rfl yH rfl (hI2 _))<|Dd aM<|Zz<|Sr<|Dd aE<|Dd D7<|Zz ?_;refine Cn ?_ ?_<;>intro hc2
   ·cases hc2
   refine Rg<|Dd (by exact aK rfl isAgg9 rfl (h1 k) rfl rfl rfl)<|Dd aM<|Uu (by exact cO rfl sizeOf9 rfl rfl rfl rfl (h1 k) rfl rfl rfl)<|Zz<|Sr<|Dd aE<|Dd aE<|Dd (by exact cY rfl rfl rfl (hyk))<|Dd iS<|Zz ?_;refine Cn ?_ ?_<;>intro hc3
   ·cases hc3
   refine aC ?_;exact⟨k+1,by omega,by omega,E0⟩
  rw[aQC e0,aQC e0]at hyk;obtain ⟨w,r,e1,e2,e3,e4,e5,e6⟩:=aFa e0;rw[e3,aQP]at hyk;have hI2:∀H,aI Tryz.prog 140 [sv (gQ s k),.pv (.int .u8 10)] H (fun r H'=>r=iv (w.length:Int)/\H'=H):=fun H=>by
   have:=hI H
   rwa [show Lib.indexByte (gQ s k).data.toList ((10:Int).toNat.toUInt8)=(w.length:Int)from e3]at this
  refine aC<|aF<|Sr<|Dd aM<|Zz<|Sq<|Sr<|Dd (by exact aK rfl isAgg9 rfl (h1 k) rfl rfl rfl)<|Dd (by exact aA rfl rfl yH rfl (hI2 _))<|Dd aM<|Zz<|Sr<|Dd aE<|Dd D7<|Zz ?_;refine Cn ?_ ?_<;>intro hc4
  ·refine aO follows<|Cr [933] (fun H1 hH=>by exact aK rfl isAgg9 rfl ((hH _ rfl).trans (h1 k)) rfl rfl rfl)<|Cr [] (fun _ _=>aE)<|Cr [] (fun H1 hH=>by exact cB rfl rfl rfl (show IntKind.i64.wrap ((w.length:Int)+1)=((w.length+1:Nat):Int)by rw[IntKind.wrap_i64];omega))<|Cr [] (fun H1 hH=>by exact cQ (l:=0) (h:=(w.length+1)) rfl underlying9 rfl rfl rfl (by omega) (by omega) rfl)<|Cr [933] (fun H1 hH=>by exact aK rfl isAgg9 rfl ((hH _ rfl).trans (h1 k)) rfl rfl rfl)<|Cr [] (fun _ _=>aE)<|Cr [] (fun H1 hH=>by exact cB rfl rfl rfl (show IntKind.i64.wrap ((w.length:Int)+1)=((w.length+1:Nat):Int)by rw[IntKind.wrap_i64];omega))<|Cr [] (fun H1 hH=>by exact cQ (l:=(w.length+1)) (h:=(gQ s k).size) rfl underlying9 rfl rfl rfl (by omega) (by omega) rfl)<|Cr [] (fun _ _=>aM) ?_;refine Cp [933] (fun H1 hH=>by exact cO rfl sizeOf9 rfl rfl rfl rfl ((hH _ rfl).trans (h1 k)) rfl rfl rfl)<|bM<|Kr<|Sr<|Dd aE<|Dd aE<|Dd (by exact cY rfl rfl rfl (hyk))<|Dd iS<|Zz ?_;refine Cn ?_ ?_<;>intro hc5
   ·cases hc5
   refine aC ?_;exact⟨k+1,by omega,by omega,E0⟩
  have:=aQB hc4;omega
 have hn:¬ 0<(gQ s k).size:=by have:=aQB hc1;omega
 have hge:k=(hY s).length:=by
  rw[zB hn]at i1;have:=congrArg List.length i1;rw[List.length_nil,aQT]at this;omega
 subst hge;refine aW ?_;exact sY (H':=Hs (hY s).length) (.inl rfl) rfl Fin.refl ⟨rfl,rfl⟩
theorem aEC(w:List UInt8):Lib.trimSuffix (w++[10]) [10]=w:=by rw[Lib.trimSuffix,Lib.hasSuffix,aQD (List.isSuffixOf_iff_suffix.2 ⟨w,rfl⟩)];simp
theorem aEE(s:ByteArray):B1 s=ofL (Lib.trimSuffix s.data.toList [10]):=by
 have hz:=szY s;rw[B1];cases h:A5 s with
 | true =>
  rw[A5,aQN,aQL,aQL]at h;obtain ⟨h1,h2⟩:=h;have h3:s.data.toList.drop (s.size - 1)=[10]:=by
   have:=congrArg (fun x=>x.data.toList) h2;rw[exL]at this;refine Eq.trans ?_ (show sNl.data.toList=[10]from rfl);rw[<-this];exact(List.take_of_length_le (by rw[aQT];omega)).symm
  have h4:s.data.toList=s.data.toList.take (s.size - 1)++[10]:=by rw[<-h3,List.take_append_drop]
  refine eqL ?_;rw[aQD rfl,exL,dI,h4,aEC,List.drop_zero,Nat.sub_zero,<-h4]
 | false =>
  rw[aQC (by decide),Lib.trimSuffix,aQC,nR];intro hp;obtain ⟨w,hw⟩:=List.isSuffixOf_iff_suffix.1 (show ([10]:List UInt8).isSuffixOf s.data.toList=true from hp);have hl:s.size=w.length+1:=by rw[<-hz,<-hw,aQF,List.length_singleton]
  have:A5 s=true:=by
   rw[A5,aQN,aQL,aQL];refine⟨by omega,eqL ?_⟩;rw[exL,<-hw,show s.size - 1=w.length by omega,List.drop_left];exact List.take_of_length_le (by rw[List.length_singleton];omega)
  rw[h]at this;cases this
theorem aJG(s:ByteArray):∃b,XV s=.tup [sv (ofL ((fO 32 s.data.toList).headD [])),sv (ofL (s.data.toList.drop (((fO 32 s.data.toList).headD []).length+1))),bv b]:=by
 rw[XV];by_cases h:Lib.indexByte s.data.toList 32 = -1
 ·refine⟨false,?_⟩;rw[aQD h,sM (vO.1 h),List.headD_cons,List.drop_eq_nil_of_le (Nat.le_succ _),nR];rfl
 obtain ⟨w,r,e1,e2,e3⟩:=vP h;refine⟨true,?_⟩;obtain ⟨a1,a2⟩:=aFK e1;have hd:s.data.toList.drop (w.length+1)=r:=by
  rw[e1,show w++32::r=(w++[32])++r by simp,show w.length+1=(w++[(32:UInt8)]).length by simp,List.drop_left]
 have hsp:(fO 32 s.data.toList).headD []=w:=by rw[e1,nM e2];rfl
 rw[aQC h,hsp,hd,e3,aQP,a1,show s.extract (w.length+1) s.size=ofL r from eqL (by rw[a2,dI])];rfl
theorem aCN(s:ByteArray)(i:Nat)(h:i<(eH s).length):(eH s)[i]?=some (ofL ((fO 32 s.data.toList).getD i [])):=by rw[eH,aQE]at h;rw[eH,aQY,aQJ h,List.getD_eq_getElem?_getD,aQJ h];rfl
theorem aCM(s:ByteArray):(eH s).length=(fO 32 s.data.toList).length:=aQE _
theorem qU{a b:List UInt8}:ofL a=ofL b↔a=b:=⟨fun h=>by rw[<-dI a,h,dI],fun h=>by rw[h]⟩
theorem cG(s:ByteArray)(l:List ByteArray):dC (s::l)=s.size+dC l:=by rw[dC,dC,List.map_cons,List.sum_cons]
theorem vM{ws:List ByteArray}(h1:e.op≠1)(h:bs ws=gN e):(⟨(bZ [32] (bs ws)).toArray⟩:ByteArray)++⟨#[10]⟩=ofL (fL e++[10]):=eqL (by
 rw[dI,fL,aQC h1,<-h];simp)
theorem aIA(h1:e.op=1):(⟨#[112,117,116,32]⟩:ByteArray)++(fY e.obj).1++⟨#[10]⟩=ofL (fL e++[10]):=eqL (by
 rw[dI,fL,aQD h1];simp[aCB])
theorem HZ{o:GObj}:(fY o).1.size<=20000:=by
 rw[fY]
 split
 ·split
  ·exact aQV _
  split
  ·exact aQV _
  show (vE o).size<=_;omega
 exact aQV _
theorem aLX(e:GEdit)(H:aH)(he:M0 e)(hv:dU e=true):aI Tryz.prog 161 [av (bA e)] H (fun r H'=>r=.tup [sv (ofL (fL e++[10])),iv (fV e)]/\H'=H):=by
 refine Pu ?_;obtain ⟨⟨o1,o2⟩,o3,o4⟩:=vR.1 hv;rw[rI]at o3;have hval:=EW hv;have hs0:dC []=0:=rfl;refine Bd func161 rfl ntmps161<|Sr<|Dd (by exact cF (id:=1) rfl rfl rfl rfl rfl)<|Dd aM<|Dd aM<|Zz<|Sr<|Dd aM<|Zz<|Sq<|Sr<|Dd (aT gG)<|Dd (bF isAgg3)<|Zz<|aF<|Sr<|Dd cN<|Da ?_;refine Cn ?_ ?_<;>intro hc1
 ·have h1:e.op=1:=aQA hc1;have hos:=HZ (o:=e.obj);have h4:(⟨#[112,117,116,32]⟩:ByteArray).size=4:=rfl;have h10:(⟨#[10]⟩:ByteArray).size=1:=rfl;have h4s:((⟨#[112,117,116,32]⟩:ByteArray)++(fY e.obj).1).size=4+(fY e.obj).1.size:=by rw[ByteArray.size_append];rfl
  refine Sr<|Dd (aT oG)<|Dd (mD dA sizeOf151)<|Dd (by exact aA rfl rfl call196 rfl (QY e.obj _ he.2.2))<|Dd aE<|Dd fG<|Dd fG<|Dd aM<|Dd aM<|Zz<|Sr<|Dd aE<|Dd (by exact cK rfl rfl rfl (by omega) rfl)<|Dd (by exact cK rfl rfl rfl (by omega) rfl)<|Dd aE<|Dd aM<|Dd aM<|Zz<|aB<|Ru ?_;rw[aIA h1,show fV e=(fY e.obj).2 from aQD h1];exact Qq
 have h1:e.op≠1:=aQB hc1;rw[aQC h1,aQN]at o3;obtain ⟨o5,o6⟩:=o3;have hid:=dO o5;refine Sr<|Dd cN<|Da ?_;refine Cn ?_ ?_<;>intro hc2
 ·have h2:e.op=2:=aQA hc2;rw[aQD h2,onP,aQN,aQL,aQL]at o6;have hx:0<=e.x/\e.x<1048576:=by omega
  have hy:0<=e.y/\e.y<1048576:=by omega
  have six:(aV e.x).size<=7:=by rw[<-bD];show (Lib.itoa e.x).length<=7;rw[iU _ hx.1];exact dY (by omega) (by decide)
  have siy:(aV e.y).size<=7:=by rw[<-bD];show (Lib.itoa e.y).length<=7;rw[iU _ hy.1];exact dY (by omega) (by decide)
  have hw0:(⟨#[109,111,118,101]⟩:ByteArray).size=4:=rfl;refine aO follows<|Cq (aT gX)<|Cq (bF isAgg9)<|Cq (aT gW)<|Cq (aT pR)<|Cq (bF isAgg3)<|Cq (by exact aA rfl rfl pW rfl (uD e.x (by omega) (by omega) _))<|Cq (aT gW)<|Cq (aT pQ)<|Cq (bF isAgg3)<|Cq (by exact aA rfl rfl pW rfl (uD e.y (by omega) (by omega) _))<|Cq (by exact aQ (([⟨#[109,111,118,101]⟩,e.id,aV e.x,aV e.y]:List ByteArray).map encStr) rfl cC rfl rfl rfl rfl rfl (iD _))<|Cq aM<|bM<|Kr<|Sr<|Dm ?_;have hw:bs [⟨#[109,111,118,101]⟩,e.id,aV e.x,aV e.y]=gN e:=by
   rw[gN]
   (rw[aQD h2];rfl)
  have hne:e.op≠1:=by omega
  have hj:∀H,aI Tryz.prog 158 [.pv (aZ [⟨#[109,111,118,101]⟩,e.id,aV e.x,aV e.y]),sv ⟨#[32]⟩] H (fun x H'=>x=sv ⟨(bZ [32] (bs [⟨#[109,111,118,101]⟩,e.id,aV e.x,aV e.y])).toArray⟩/\H'=H):=fun H=>uB [⟨#[109,111,118,101]⟩,e.id,aV e.x,aV e.y] ⟨#[32]⟩ H (by decide) (by show 1*_+_+_<_;simp only[cG,aQG,List.length_nil];omega);have hjs:(⟨(bZ [32] (bs [⟨#[109,111,118,101]⟩,e.id,aV e.x,aV e.y])).toArray⟩:ByteArray).size<=70000:=by
   show (bZ [32] (bs [⟨#[109,111,118,101]⟩,e.id,aV e.x,aV e.y])).length<=_;have:=fE [⟨#[109,111,118,101]⟩,e.id,aV e.x,aV e.y];simp only[cG,aQG,List.length_nil]at this;omega
  have h10:(⟨#[10]⟩:ByteArray).size=1:=rfl;refine Dd (by exact aA rfl rfl pV rfl (hj _))<|Dd (by exact cK rfl rfl rfl (by omega) rfl)<|Dd aM<|Dd aM<|Zz<|aB<|Ru ?_;rw[vM hne hw,show fV e=0 from aQC hne];exact Qq
 have h2:e.op≠2:=aQB hc2;rw[aQC h2]at o6;refine Sr<|Dd cN<|Da ?_;refine Cn ?_ ?_<;>intro hc3
 ·have h3:e.op=3:=aQA hc3;rw[aQD h3,aQN,aQL]at o6;have hks:=dO o6.1;have hq:=pN e.val;have hw0:(⟨#[116,97,103]⟩:ByteArray).size=3:=rfl;refine aO follows<|Cq (aT gX)<|Cq (bF isAgg9)<|Cq (aT kD)<|Cq (bF isAgg9)<|Cq (aT kR)<|Cq (bF isAgg9)<|Cq (by exact aA rfl rfl call203 rfl (aBK e.val _ (by omega)))<|Cq (by exact aQ (([⟨#[116,97,103]⟩,e.id,e.key,⟨(eE e.val.data.toList).toArray⟩]:List ByteArray).map encStr) rfl cC rfl rfl rfl rfl rfl (iD _))<|Cq aM<|bM<|Kr<|Sr<|Dm ?_;have hw:bs [⟨#[116,97,103]⟩,e.id,e.key,⟨(eE e.val.data.toList).toArray⟩]=gN e:=by
   rw[gN]
   (rw[aQC h2,aQD h3];rfl)
  have hne:e.op≠1:=by omega
  have hj:∀H,aI Tryz.prog 158 [.pv (aZ [⟨#[116,97,103]⟩,e.id,e.key,⟨(eE e.val.data.toList).toArray⟩]),sv ⟨#[32]⟩] H (fun x H'=>x=sv ⟨(bZ [32] (bs [⟨#[116,97,103]⟩,e.id,e.key,⟨(eE e.val.data.toList).toArray⟩])).toArray⟩/\H'=H):=fun H=>uB [⟨#[116,97,103]⟩,e.id,e.key,⟨(eE e.val.data.toList).toArray⟩] ⟨#[32]⟩ H (by decide) (by show 1*_+_+_<_;simp only[cG,aQG,List.length_nil];omega);have hjs:(⟨(bZ [32] (bs [⟨#[116,97,103]⟩,e.id,e.key,⟨(eE e.val.data.toList).toArray⟩])).toArray⟩:ByteArray).size<=70000:=by
   show (bZ [32] (bs [⟨#[116,97,103]⟩,e.id,e.key,⟨(eE e.val.data.toList).toArray⟩])).length<=_;have:=fE [⟨#[116,97,103]⟩,e.id,e.key,⟨(eE e.val.data.toList).toArray⟩];simp only[cG,aQG,List.length_nil]at this;omega
  have h10:(⟨#[10]⟩:ByteArray).size=1:=rfl;refine Dd (by exact aA rfl rfl pV rfl (hj _))<|Dd (by exact cK rfl rfl rfl (by omega) rfl)<|Dd aM<|Dd aM<|Zz<|aB<|Ru ?_;rw[vM hne hw,show fV e=0 from aQC hne];exact Qq
 have h3:e.op≠3:=aQB hc3;rw[aQC h3]at o6;refine Sr<|Dd cN<|Da ?_;refine Cn ?_ ?_<;>intro hc4
 ·have h4:e.op=4:=aQA hc4;rw[aQD h4,aQN,aQN,aQL,aQL,List.all_eq_true]at o6;obtain ⟨⟨r1,r2⟩,r3⟩:=o6;have hrs:dC e.refs<=24*e.refs.length:=nN (fun s hs=>dO (r3 s hs));have hw0:(⟨#[114,101,102,115]⟩:ByteArray).size=4:=rfl;have hfl:(([[⟨#[114,101,102,115]⟩,e.id],e.refs]:List (List ByteArray)).flatten).length<1099511627776:=by simp;omega
  refine Rg<|Dd (aT gX)<|Dd (bF isAgg9)<|Dd (by exact aQ (([⟨#[114,101,102,115]⟩,e.id]:List ByteArray).map encStr) rfl cC rfl rfl rfl rfl rfl (iD _))<|Dd (aT eY)<|Dd (bF aG)<|Dd (by exact aQ (([[⟨#[114,101,102,115]⟩,e.id],e.refs]:List (List ByteArray)).map (fun l=>[.sl (l.map encStr)])) rfl JH rfl rfl rfl rfl rfl (by simp))<|Dd (by exact aA rfl rfl call204 rfl (IS [[⟨#[114,101,102,115]⟩,e.id],e.refs] _ (by show 2<_;omega) hfl))<|Dd aM<|Zz<|Sr<|Dm ?_;rw[show ([[⟨#[114,101,102,115]⟩,e.id],e.refs]:List (List ByteArray)).flatten=⟨#[114,101,102,115]⟩::e.id::e.refs by simp];have hw:bs (⟨#[114,101,102,115]⟩::e.id::e.refs)=gN e:=by
   rw[gN]
   (rw[aQC h2,aQC h3,aQD h4];rfl)
  have hne:e.op≠1:=by omega
  have hj:∀H,aI Tryz.prog 158 [.pv (aZ (⟨#[114,101,102,115]⟩::e.id::e.refs)),sv ⟨#[32]⟩] H (fun x H'=>x=sv ⟨(bZ [32] (bs (⟨#[114,101,102,115]⟩::e.id::e.refs))).toArray⟩/\H'=H):=fun H=>uB (⟨#[114,101,102,115]⟩::e.id::e.refs) ⟨#[32]⟩ H (by decide) (by show 1*_+_+_<_;simp only[cG,aQG,List.length_nil];omega);have hjs:(⟨(bZ [32] (bs (⟨#[114,101,102,115]⟩::e.id::e.refs))).toArray⟩:ByteArray).size<=70000:=by
   show (bZ [32] (bs (⟨#[114,101,102,115]⟩::e.id::e.refs))).length<=_;have:=fE (⟨#[114,101,102,115]⟩::e.id::e.refs);simp only[cG,aQG,List.length_nil]at this;omega
  have h10:(⟨#[10]⟩:ByteArray).size=1:=rfl;refine Dd (by exact aA rfl rfl pV rfl (hj _))<|Dd (by exact cK rfl rfl rfl (by omega) rfl)<|Dd aM<|Dd aM<|Zz<|aB<|Ru ?_;rw[vM hne hw,show fV e=0 from aQC hne];exact Qq
 have h4:e.op≠4:=aQB hc4;rw[aQC h4]at o6;refine Sr<|Dd cN<|Da ?_;refine Cn ?_ ?_<;>intro hc5
 ·have h5:e.op=5:=aQA hc5;have hw0:(⟨#[100,114,111,112]⟩:ByteArray).size=4:=rfl;refine Rg<|Dd (aT gX)<|Dd (bF isAgg9)<|Dd (by exact aQ (([⟨#[100,114,111,112]⟩,e.id]:List ByteArray).map encStr) rfl cC rfl rfl rfl rfl rfl (iD _))<|Dd aM<|Zz<|Sr<|Dm ?_;have hw:bs [⟨#[100,114,111,112]⟩,e.id]=gN e:=by
   rw[gN]
   (rw[aQC h2,aQC h3,aQC h4,aQD h5];rfl)
  have hne:e.op≠1:=by omega
  have hj:∀H,aI Tryz.prog 158 [.pv (aZ [⟨#[100,114,111,112]⟩,e.id]),sv ⟨#[32]⟩] H (fun x H'=>x=sv ⟨(bZ [32] (bs [⟨#[100,114,111,112]⟩,e.id])).toArray⟩/\H'=H):=fun H=>uB [⟨#[100,114,111,112]⟩,e.id] ⟨#[32]⟩ H (by decide) (by show 1*_+_+_<_;simp only[cG,aQG,List.length_nil];omega);have hjs:(⟨(bZ [32] (bs [⟨#[100,114,111,112]⟩,e.id])).toArray⟩:ByteArray).size<=70000:=by
   show (bZ [32] (bs [⟨#[100,114,111,112]⟩,e.id])).length<=_;have:=fE [⟨#[100,114,111,112]⟩,e.id];simp only[cG,aQG,List.length_nil]at this;omega
  have h10:(⟨#[10]⟩:ByteArray).size=1:=rfl;refine Dd (by exact aA rfl rfl pV rfl (hj _))<|Dd (by exact cK rfl rfl rfl (by omega) rfl)<|Dd aM<|Dd aM<|Zz<|aB<|Ru ?_;rw[vM hne hw,show fV e=0 from aQC hne];exact Qq
 have h5:e.op≠5:=aQB hc5;rw[aQC h5]at o6;refine Sr<|Dd cN<|Da ?_;refine Cn ?_ ?_<;>intro hc6
 ·have h6:e.op=6:=aQA hc6;rw[aQD h6,aQN]at o6;have hns:=dO o6.1;have hos:=dO o6.2;have hw0:(⟨#[115,112,108,105,116]⟩:ByteArray).size=5:=rfl;refine Rg<|Dd (aT gX)<|Dd (bF isAgg9)<|Dd (aT mH)<|Dd (bF isAgg9)<|Dd (aT iC)<|Dd (bF isAgg9)<|Dd (by exact aQ (([⟨#[115,112,108,105,116]⟩,e.id,e.node,e.other]:List ByteArray).map encStr) rfl cC rfl rfl rfl rfl rfl (iD _))<|Dd aM<|Zz<|Sr<|Dm ?_;have hw:bs [⟨#[115,112,108,105,116]⟩,e.id,e.node,e.other]=gN e:=by
   rw[gN]
   (rw[aQC h2,aQC h3,aQC h4,aQC h5,aQD h6];rfl)
  have hne:e.op≠1:=by omega
  have hj:∀H,aI Tryz.prog 158 [.pv (aZ [⟨#[115,112,108,105,116]⟩,e.id,e.node,e.other]),sv ⟨#[32]⟩] H (fun x H'=>x=sv ⟨(bZ [32] (bs [⟨#[115,112,108,105,116]⟩,e.id,e.node,e.other])).toArray⟩/\H'=H):=fun H=>uB [⟨#[115,112,108,105,116]⟩,e.id,e.node,e.other] ⟨#[32]⟩ H (by decide) (by show 1*_+_+_<_;simp only[cG,aQG,List.length_nil];omega);have hjs:(⟨(bZ [32] (bs [⟨#[115,112,108,105,116]⟩,e.id,e.node,e.other])).toArray⟩:ByteArray).size<=70000:=by
   show (bZ [32] (bs [⟨#[115,112,108,105,116]⟩,e.id,e.node,e.other])).length<=_;have:=fE [⟨#[115,112,108,105,116]⟩,e.id,e.node,e.other];simp only[cG,aQG,List.length_nil]at this;omega
  have h10:(⟨#[10]⟩:ByteArray).size=1:=rfl;refine Dd (by exact aA rfl rfl pV rfl (hj _))<|Dd (by exact cK rfl rfl rfl (by omega) rfl)<|Dd aM<|Dd aM<|Zz<|aB<|Ru ?_;rw[vM hne hw,show fV e=0 from aQC hne];exact Qq
 have h6:e.op≠6:=aQB hc6;rw[aQC h6]at o6;have hos:=dO o6;have hw0:(⟨#[106,111,105,110]⟩:ByteArray).size=4:=rfl;refine Rg<|Dd (aT gX)<|Dd (bF isAgg9)<|Dd (aT iC)<|Dd (bF isAgg9)<|Dd (by exact aQ (([⟨#[106,111,105,110]⟩,e.id,e.other]:List ByteArray).map encStr) rfl cC rfl rfl rfl rfl rfl (iD _))<|Dd aM<|Zz<|Sr<|Dm ?_;have hw:bs [⟨#[106,111,105,110]⟩,e.id,e.other]=gN e:=by
  rw[gN]
  (rw[aQC h2,aQC h3,aQC h4,aQC h5,aQC h6];rfl)
 have hne:e.op≠1:=by omega
 have hj:∀H,aI Tryz.prog 158 [.pv (aZ [⟨#[106,111,105,110]⟩,e.id,e.other]),sv ⟨#[32]⟩] H (fun x H'=>x=sv ⟨(bZ [32] (bs [⟨#[106,111,105,110]⟩,e.id,e.other])).toArray⟩/\H'=H):=fun H=>uB [⟨#[106,111,105,110]⟩,e.id,e.other] ⟨#[32]⟩ H (by decide) (by show 1*_+_+_<_;simp only[cG,aQG,List.length_nil];omega);have hjs:(⟨(bZ [32] (bs [⟨#[106,111,105,110]⟩,e.id,e.other])).toArray⟩:ByteArray).size<=70000:=by
  show (bZ [32] (bs [⟨#[106,111,105,110]⟩,e.id,e.other])).length<=_;have:=fE [⟨#[106,111,105,110]⟩,e.id,e.other];simp only[cG,aQG,List.length_nil]at this;omega
 have h10:(⟨#[10]⟩:ByteArray).size=1:=rfl;refine Dd (by exact aA rfl rfl pV rfl (hj _))<|Dd (by exact cK rfl rfl rfl (by omega) rfl)<|Dd aM<|Dd aM<|Zz<|aB<|Ru ?_;rw[vM hne hw,show fV e=0 from aQC hne];exact Qq
theorem VC:∀ {l:List GEdit} {acc:List UInt8},(pY acc l).2=0->(∀e∈l,fV e=0)/\pY acc l=(acc++l.flatMap fun e=>fL e++[10],0)/\(acc.length<=20000->(pY acc l).1.length<=20000)
 | [],acc,_=>⟨(fun e h=>by cases h),by rw[pY,List.flatMap_nil,List.append_nil],fun h=>h⟩
 |e::l,acc,h=>by
  rw[pY]at h |-;by_cases h1:fV e≠0\/20000<(acc++(fL e++[10])).length
  ·rw[aQD h1]at h;cases h
  rw[aQC h1]at h |-;rw[not_or,Classical.not_not]at h1;obtain ⟨i1,i2,i3⟩:=VC h;refine⟨fun x hx=>?_,by rw[i2,List.flatMap_cons,List.append_assoc],fun _=>i3 (by omega)⟩;rcases aQQ.1 hx with rfl|hx
  ·exact h1.1
  exact i1 x hx
theorem NQ{l:List GEdit}(h:kP l=true):l≠[]/\∀e∈l,dU e=true:=by
 rw[kP,aQN,aQN,aQL,aQX,List.any_eq_false]at h;refine⟨fun e=>by rw[e]at h;exact absurd h.1.1 (by decide),fun e he=>?_⟩;have:=h.2 e he
 simpa using this
theorem aHT(w:List UInt8):Lib.trimSuffix (w++[10]) [10]=w:=by rw[Lib.trimSuffix,Lib.hasSuffix,aQD (List.isSuffixOf_iff_suffix.2 ⟨w,rfl⟩)];simp
theorem JJ{l:List GEdit}(h:(eZ l).2=0):nE (eZ l).1=(l,0):=by
 have hc:kP l=true:=by
  rw[eZ]at h
  split at h
  ·assumption
  cases h
 obtain ⟨hne,hv⟩:=NQ hc;rw[eZ,aQD hc]at h;obtain ⟨h1,h2,h3⟩:=VC h;rw[List.nil_append]at h2;have h4:=h3 (aQV _);have ht:eZ l=(ofL (l.flatMap fun e=>fL e++[10]),0):=by rw[eZ,aQD hc,h2]
 have hsz:(ofL (l.flatMap fun e=>fL e++[10])).size<=20000:=by rw[dH];rw[h2]at h4;exact h4
 have hl:(lI (ofL (l.flatMap fun e=>fL e++[10])).data.toList).map (fun s=>jR (Lib.trimSuffix s [10]))=l:=by
  have hj:=D6 (ls:=l.map fL) (fun w hw=>by
   obtain ⟨e,he,rfl⟩:=List.mem_map.1 hw;exact(QK (hv e he) (h1 e he)).2)
  rw[List.flatMap_map]at hj;rw[dI,hj,List.map_map,List.map_map];refine(List.map_congr_left fun e he=>?_).trans (List.map_id l);show jR (Lib.trimSuffix (fL e++[10]) [10])=e;rw[aHT];exact(QK (hv e he) (h1 e he)).1
 rw[ht,nE,aQC (by show ¬ 20000<(ofL (l.flatMap fun e=>fL e++[10])).size;omega)];show (if eZ ((lI (ofL (l.flatMap fun e=>fL e++[10])).data.toList).map fun s=>jR (Lib.trimSuffix s [10]))=(ofL (l.flatMap fun e=>fL e++[10]),0)then((lI (ofL (l.flatMap fun e=>fL e++[10])).data.toList).map (fun s=>jR (Lib.trimSuffix s [10])),(0:Int))else([],5))=(l,0);rw[hl,aQD ht]
theorem aL2(g:Nat)(l:List UInt8)(u:Bool):aI Tryz.prog 162 [.ref 2001 0 0 0] (wI g l u) (fun r H'=>r=iv (l.length:Int)/\H'=wI g l u):=by refine Bd func162 rfl ntmps162<|Sr<|Dd aM<|Zz<|Sr<|Dd aE<|Dd BR<|Dd (aT gL)<|Dd (bF dW)<|Dd (by exact eG rfl dL rfl rfl rfl)<|Dd aM<|Zz<|aB ?_;refine dV (H':=(wI g l u)) (.inr rfl) rfl (aX rfl) Fin.refl ?_;exact Qq
abbrev aGT(l:List UInt8)(g:Nat)(u:Bool):Ob:=xZ (.osl 2002 g 0 l.length) u
abbrev aGS(l:List UInt8)(g:Nat):Ob:=⟨g,1,5,eR l⟩
theorem aN9{g':Nat}{l':List UInt8}{u':Bool}(h:(aH.get (wI g l u) id).isSome=true):(aH.get (wI g' l' u') id).isSome=true:=aB1 h
theorem aN8{u u':Bool}(h:(aH.get (aDV g l u) id).isSome=true):(aH.get (wI g l u) id).isSome=true:=by
 simp only[aDV,wI,aH.get]at h |-;cases e1:Nat.beq 2001 id with
 |true=>rfl
 |false =>
  cases e2:Nat.beq 2002 id with
  |true=>rfl
  |false=>rw[e1,e2]at h;cases h
theorem aM4(s:ByteArray)(h1:H.get 2001=some (aGT l g u))(h2:H.get 2002=some (aGS l g))(hl:l.length+s.size<70368744177664):aI Tryz.prog 109 [.ref 2001 0 0 0,sv s] H (fun r H'=>r=.tup [iv (s.size:Int),.pv H4]/\H'=wI (g+1) (l++s.data.toList) true++H) :=aI.frame (jD g l u s hl) (Sub.of2 h1 h2) (eI.ofL ⟨(by exact gF rfl rfl),(by exact eO _ _),trivial⟩) (by simp;rfl) (fun id h=>.inl (aN9 h))
theorem aL1(h1:H.get 2001=some (aGT l g u))(h2:H.get 2002=some (aGS l g)):aI Tryz.prog 162 [.ref 2001 0 0 0] H (fun r H'=>r=iv (l.length:Int)/\H'=H) :=aI.frameS (aL2 g l u) (Sub.of2 h1 h2) (eI.ofL ⟨(by exact gF rfl rfl),(by exact eO _ _),trivial⟩) (by simp;rfl)
theorem aK6(h1:H.get 2001=some (aGT l g u))(h2:H.get 2002=some (aGS l g))(hl:l.length<70368744177664):aI Tryz.prog 111 [.ref 2001 0 0 0] H (fun r H'=>r=sv ⟨l.toArray⟩/\H'=aDV g l u++H) :=aI.frame (QA g l u hl) (Sub.of2 h1 h2) (eI.ofL ⟨(by exact gF rfl rfl),(by exact eO _ _),trivial⟩) (by simp;rfl) (fun id h=>.inl (aN8 (u':=u) h))
def uK:Nat->Bool
 |0=>false
 |_+1=>true
def oI(l:List GEdit)(k:Nat):List UInt8:=(l.take k).flatMap fun e=>fL e++[10]
theorem SD{l:List GEdit}(h:l[k]?=some e):oI l (k+1)=oI l k++(fL e++[10]):=by rw[oI,List.take_add_one,h,List.flatMap_append];simp[oI]
theorem RC(he:dU e=true):(fL e).length<=100000:=by
 obtain ⟨⟨o1,o2⟩,o3,o4⟩:=vR.1 he;rw[rI]at o3;have hval:=EW he;by_cases h1:e.op=1
 ·rw[fL,aQD h1,aQF,aQG,bD];have:=HZ (o:=e.obj);show 3+_<=_;omega
 rw[aQC h1,aQN]at o3;obtain ⟨o5,o6⟩:=o3;have hid:=dO o5;have key:∀ws:List ByteArray,bs ws=gN e->ws.length+dC ws<=100000->(fL e).length<=100000:=fun ws h h2=>by
  rw[fL,aQC h1,<-h];exact Nat.le_trans (fE ws) h2
 by_cases h2:e.op=2
 ·rw[aQD h2,onP,aQN,aQL,aQL]at o6;have six:(aV e.x).size<=7:=by rw[<-bD];show (Lib.itoa e.x).length<=7;rw[iU _ (by omega)];exact dY (by omega) (by decide)
  have siy:(aV e.y).size<=7:=by rw[<-bD];show (Lib.itoa e.y).length<=7;rw[iU _ (by omega)];exact dY (by omega) (by decide)
  have hw0:(⟨#[109,111,118,101]⟩:ByteArray).size=4:=rfl;exact key [⟨#[109,111,118,101]⟩,e.id,aV e.x,aV e.y] (by rw[gN,aQD h2];rfl) (by simp only[cG,aQG,List.length_nil,show dC []=0 from rfl];omega)
 rw[aQC h2]at o6;by_cases h3:e.op=3
 ·rw[aQD h3,aQN]at o6;have hks:=dO o6.1;have hq:=pN e.val;have hw0:(⟨#[116,97,103]⟩:ByteArray).size=3:=rfl;exact key [⟨#[116,97,103]⟩,e.id,e.key,⟨(eE e.val.data.toList).toArray⟩] (by rw[gN,aQC h2,aQD h3];rfl) (by simp only[cG,aQG,List.length_nil,show dC []=0 from rfl];omega)
 rw[aQC h3]at o6;by_cases h4:e.op=4
 ·rw[aQD h4,aQN,aQN,aQL,aQL,List.all_eq_true]at o6;obtain ⟨⟨r1,r2⟩,r3⟩:=o6;have hrs:dC e.refs<=24*e.refs.length:=nN (fun s hs=>dO (r3 s hs));have hw0:(⟨#[114,101,102,115]⟩:ByteArray).size=4:=rfl;exact key (⟨#[114,101,102,115]⟩::e.id::e.refs) (by rw[gN,aQC h2,aQC h3,aQD h4];rfl) (by simp only[cG,aQG];omega)
 rw[aQC h4]at o6;by_cases h5:e.op=5
 ·have hw0:(⟨#[100,114,111,112]⟩:ByteArray).size=4:=rfl;exact key [⟨#[100,114,111,112]⟩,e.id] (by rw[gN,aQC h2,aQC h3,aQC h4,aQD h5];rfl) (by simp only[cG,aQG,List.length_nil,show dC []=0 from rfl];omega)
 rw[aQC h5]at o6;by_cases h6:e.op=6
 ·rw[aQD h6,aQN]at o6;have hns:=dO o6.1;have hos:=dO o6.2;have hw0:(⟨#[115,112,108,105,116]⟩:ByteArray).size=5:=rfl;exact key [⟨#[115,112,108,105,116]⟩,e.id,e.node,e.other] (by rw[gN,aQC h2,aQC h3,aQC h4,aQC h5,aQD h6];rfl) (by simp only[cG,aQG,List.length_nil,show dC []=0 from rfl];omega)
 rw[aQC h6]at o6;have hos:=dO o6;have hw0:(⟨#[106,111,105,110]⟩:ByteArray).size=4:=rfl;exact key [⟨#[106,111,105,110]⟩,e.id,e.other] (by rw[gN,aQC h2,aQC h3,aQC h4,aQC h5,aQC h6];rfl) (by simp only[cG,aQG,List.length_nil,show dC []=0 from rfl];omega)
theorem aAo(l:List GEdit)(H:aH)(hl:l.length<4611686018427387904)(he:∀e∈l,M0 e):aI Tryz.prog 118 [.pv (iO l)] H (fun r H'=>r=.tup [sv (eZ l).1,iv (eZ l).2]/\H'=H):=by
 refine Pu ?_;have hml:(l.map bA).length=l.length:=aQE _;refine Bd func118 rfl ntmps118<|Sr<|Dd aM<|Dd aM<|Zz<|Sq<|Sr<|Dd aE<|Dd (by exact aA rfl rfl call160 rfl (PS l _ hl he))<|Dd iS<|Zz ?_;refine Cn ?_ ?_<;>intro hc1
 ·have hg:kP l=false:=by have h:=hc1;rwa [aQX]at h
  rw[show eZ l=(sNil,1)by rw[eZ,hg];rfl];exact Sr<|Dd aM<|Dd aM<|Zz<|aB<|Ru<|Qq
 have hg:kP l=true:=by have h:=hc1;rwa [Bool.not_eq_false']at h
 have hv:=(NQ hg).2;have hT:eZ l=(ofL (pY [] l).1,(pY [] l).2):=by rw[eZ,aQD hg]
 refine aC<|Sr<|Dd (by exact bU (id:=2001) rfl HH rfl rfl)<|Zz<|Sq<|Sq ?_;refine gM.ent (E':=[(0,.pv (iO l)),(4,.ref 2001 0 0 0)]) (H':=[(2002,⟨0,1,5,[]⟩),(2001,xZ (.osl 2002 0 0 0) false)]) (cX.nz 2002 1 5 rfl rfl ⟨⟨_,rfl,(by exact Nz.same (by(simp;done)))⟩,⟨_,rfl,(by exact Nz.same (by(simp;rfl)))⟩,trivial⟩ ⟨⟨_,rfl,rfl,rfl,rfl,(by exact .inr ⟨_,_,rfl,rfl,(by repeat(first|exact trivial|refine⟨(by first|exact Nz.own|exact Nz.same (by(simp;done))),?_⟩))⟩)⟩,trivial⟩ trivial) ?_;refine Rg<|Dd aE<|Dd (fM dB)<|Dd aE<|Zz<|aF ?_;refine bJ (σ:=Nat) (fun k=>([(4,.ref 2001 0 0 0),(12,.pv (iO l)),(13,iv ((l.map bA).length:Int)),(14,iv (k:Int))],[(2001,aGT (oI l k) k (uK k)),(2002,aGS (oI l k) k)])) (fun k=>k<=l.length/\pY [] l=pY (oI l k) (l.drop k)/\(oI l k).length<=20000) (fun k=>l.length - k) 0 ⟨aQV _,rfl,aQV _⟩ ?_ ?_
 ·exact(cX.wk (Ea<|Eb<|Eb<|Eb<|trivial) (Hc (gF rfl rfl)<|Hc (eO _ _)<|trivial) trivial)
 rintro k ⟨hk,hF,hA⟩;refine Sr<|Dd cW<|Zz<|Sq ?_;refine Cn ?_ ?_<;>intro hc2
 ·have hlt:k<l.length:=by have:=aQA hc2;omega
  obtain ⟨e,hke⟩:=aU hlt;have hi:=cI (f:=bA) hke;have hem:=aQO hke;have hnx:=SD hke;have hYl:=RC (hv e hem);have hdr:l.drop k=e::l.drop (k+1):=by
   rw[List.drop_eq_getElem_cons hlt];rw[aQJ hlt]at hke;cases hke;rfl
  rw[hdr,pY]at hF;have hsz:(ofL (fL e++[10])).size=(fL e).length+1:=by rw[dH,aQF];rfl
  have hbl:wI (k+1) (oI l k++(ofL (fL e++[10])).data.toList) true=wI (k+1) (oI l (k+1)) true:=by rw[dI,hnx]
  have hnl:(oI l (k+1)).length=(oI l k).length+((fL e).length+1):=by rw[hnx,aQF,aQF];rfl
  have hw:∀H,H.get 2001=some (aGT (oI l k) k (uK k))->H.get 2002=some (aGS (oI l k) k)->aI Tryz.prog 109 [.ref 2001 0 0 0,sv (ofL (fL e++[10]))] H (fun r H'=>r=.tup [iv ((ofL (fL e++[10])).size:Int),.pv H4]/\H'=wI (k+1) (oI l (k+1)) true++H):=fun H h1 h2=>by
   have:=aM4 (H:=H) (ofL (fL e++[10])) h1 h2 (by omega)
   rwa [hbl]at this
  refine aC<|Sq<|aF<|Sr<|Dd (mR SQ)<|Dd (by exact dP rfl cE bC rfl (by omega) rfl rfl)<|Dd (by exact bU (id:=6) rfl PX rfl rfl)<|Uu (jN bC)<|Zz<|Sr<|Dd (mD cE bC)<|Dd (by exact aA rfl rfl call161 rfl (aLX e _ (he e hem) (hv e hem)))<|Dd aE<|Dd fG<|Dd fG<|Dd aM<|Dd aM<|Zz<|Sr<|Dd aE<|Dd (by exact aA rfl rfl nL rfl (hw _ rfl rfl))<|Zz<|Sq ?_;refine aY (t:=30) (n:=7) (X:=!decide (fV e=0)||decide ((20000:Int)<((oI l (k+1)).length:Int))) ?_ ?_
  ·all_goals refine Dd aE ?_
   all_goals refine Dd wM<|Dm ?_
   all_goals refine Sp 27 (fun h27=>?_) fun h27=>?_
   all_goals try contradiction
   all_goals first|refine Fo<|Fo ?_|refine On (by exact aA rfl rfl yG rfl (aL1 (l:=oI l (k+1)) (g:=k+1) (u:=true) rfl rfl))<|On iG ?_
   all_goals refine Dd cH<|Zz ?_
   all_goals(exact⟨⟨_,rfl,by(simp only[*,Zo];done)⟩,rfl,rfl,rfl⟩)
  refine Cn ?_ ?_<;>intro hc3
  ·have hbad:fV e≠0\/20000<(oI l k++(fL e++[10])).length:=by have h:=hc3;rw[<-hnx];simp only[Bool.or_eq_true,aQX,aQM,aQL]at h;omega
   rw[aQD hbad]at hF;rw[hT,hF];exact Sr<|Dd aM<|Dd aM<|Zz<|aB<|Ru<|Qq
  have hfine:¬ (fV e≠0\/20000<(oI l k++(fL e++[10])).length):=by have h:=hc3;rw[<-hnx];simp only[aQ0,Bool.not_eq_false',aQM,aQL]at h;omega
  rw[aQC hfine,<-hnx]at hF;rw[<-hnx]at hfine;refine aC<|Rg<|Dd mV<|Dd aE<|Zz ?_;exact⟨k+1,⟨hlt,hF,by omega⟩,by omega,(cX.wk (Ea<|Eb<|Eb<|Eb<|trivial) (Hc (gF rfl rfl)<|Hc (eO _ _)<|trivial) trivial)⟩
 have hge:k=l.length:=by have:=aQB hc2;omega
 subst hge;rw[List.drop_length,pY]at hF;rw[hT,hF];exact aW<|Sr<|Dd (by exact aA rfl rfl nK rfl (aK6 (l:=oI l l.length) (g:=l.length) (u:=uK l.length) rfl rfl (by omega)))<|Dd aM<|Dd aM<|Zz<|aB<|Ru<|Qq
theorem WH(s:ByteArray):(oL s).data.toList=(aV (s.size:Int)).data.toList++[58]++s.data.toList:=by rw[oL,ByteArray.data_append,ByteArray.data_append,Array.toList_append,Array.toList_append]
theorem RK(l:List ByteArray)(H:aH)(hl:(aP l).length<35184372088832):aI Tryz.prog 41 [.pv (aZ l)] H (fun r H'=>r=sv ⟨(aP l).toArray⟩/\H'=H):=by
 refine Pu ?_;have hml:(l.map encStr).length=l.length:=aQE _;have hll:=CI l;refine Bd func41 rfl ntmps41<|Sr<|Dd aM<|Zz<|Sr<|Dd (by exact bU (id:=2001) rfl HH rfl rfl)<|Zz<|Sq<|Sq ?_;refine gM.ent (E':=[(0,.pv (aZ l)),(3,.ref 2001 0 0 0)]) (H':=wI 0 [] false) (cX.bld0 ⟨⟨_,rfl,.same (by simp)⟩,⟨_,rfl,.same (by simp;rfl)⟩,trivial⟩) ?_;refine Rg<|Dd aE<|Dd (fM underlying72)<|Dd aE<|Zz<|aF ?_;refine IZ (fun(k g:Nat) (u:Bool)=>([(3,.ref 2001 0 0 0),(6,.pv (aZ l)),(7,iv ((l.map encStr).length:Int)),(8,iv (k:Int))],wI g (aP (l.take k)) u)) (fun k g u=>k<=l.length) (fun k g u=>l.length - k) 0 0 false (aQV _) ?_ ?_
 ·exact(cX.wk (Ea<|Eb<|Eb<|Eb<|trivial) (Hc (gF rfl rfl)<|Hc (eO _ _)<|trivial) trivial)
 intro k g u hk;have hle:=AY l k;refine Sr<|Dd cW<|Zz<|Sq ?_;refine Cn ?_ ?_<;>intro hc1
 ·have hlt:k<l.length:=by have:=aQA hc1;omega
  obtain ⟨s,hs⟩:=aU hlt;have hi:=cI (f:=encStr) hs;have hle2:=AY l (k+1);rw[mS hs,uC,aQF,nO,qC]at hle2;have hsz:s.size<35184372088832:=by omega
  have hnx:aP (l.take (k+1))=aP (l.take k)++(aV (s.size:Int)).data.toList++[58]++s.data.toList:=by
   rw[mS hs,uC,WH,List.append_assoc,List.append_assoc,List.append_assoc]
  have hl1:(aP (l.take k)++(aV (s.size:Int)).data.toList).length=(aP (l.take k)).length+(aV (s.size:Int)).size:=by rw[aQF,nO]
  have hl2:(aP (l.take k)++(aV (s.size:Int)).data.toList++[58]).length=(aP (l.take k)).length+(aV (s.size:Int)).size+1:=by rw[aQF,hl1];rfl
  refine aC<|Sq<|aF<|Sr<|Dd (by exact bH rfl Y1 rfl rfl (by omega) (by exact aQP _) hi rfl)<|Dd (iN isAgg9 (hi:=hi))<|Dd aM<|Zz<|Sr<|Dd aE<|Dd (kG underlying9)<|Dd (by exact aA rfl rfl pW rfl (uD (s.size:Int) (by omega) (by omega) _))<|Dd (by exact aA rfl rfl nL rfl (jD g (aP (l.take k)) u (aV (s.size:Int)) (by omega)))<|Zz<|Sr<|Dd (by exact aA rfl rfl lO rfl (jE (g+1) (aP (l.take k)++(aV (s.size:Int)).data.toList) true 58 (by omega)))<|Zz<|Rg<|Dd aE<|Dd (by exact aA rfl rfl nL rfl (jD (g+1+1) (aP (l.take k)++(aV (s.size:Int)).data.toList++[58]) true s (by omega)))<|Zz<|Rg<|Dd (by exact cB rfl rfl rfl (show IntKind.i64.wrap ((k:Int)+1)=((k+1:Nat):Int)by rw[jM (by omega) (by omega)];omega)) ?_;refine Dd aE<|Zz ?_;refine⟨k+1,g+1+1+1,true,by omega,by omega,?_⟩;rw[hnx];exact(cX.wk (Ea<|Eb<|Eb<|Eb<|trivial) (Hc (gF rfl rfl)<|Hc (eO _ _)<|trivial) trivial)
 have hge:k=l.length:=by have:=aQB hc1;omega
 subst hge;rw[List.take_length];exact aW<|Sr<|Dd (by exact aA rfl rfl nK rfl (QA g (aP l) u (by omega)))<|Dd aM<|Zz<|aB<|Rt<|Qq
def iT(l:List GEdit):ByteArray×Bool:=if l.length=0 then(sNil,true)else((eZ l).1,decide ((eZ l).2=0))
theorem aAn(l:List GEdit)(H:aH)(hl:l.length<1099511627776)(he:∀e∈l,M0 e):aI Tryz.prog 72 [.pv (iO l)] H (fun r H'=>r=.tup [sv (iT l).1,bv (iT l).2]/\H'=H):=by
 refine Pu ?_;have hml:(l.map bA).length=l.length:=aQE _;have htx:=fun H=>aAo l H (by omega) he;have e0:l.length=0->iT l=(sNil,true):=fun h=>by rw[iT,aQD h]
 have e1:l.length≠0->iT l=((eZ l).1,decide ((eZ l).2=0)):=fun h=>by rw[iT,aQC h]
 obtain ⟨T,hT⟩:∃T,T=eZ l:=⟨_,rfl⟩;rw[<-hT]at htx e1;refine Bd func72 rfl ntmps72<|Sr<|Dd aM<|Dd aM<|Zz<|Sq<|Sr<|Dd aE<|Dd (fM dB)<|Dd cN<|Zz ?_;refine Cn ?_ ?_<;>intro hc1
 ·have h0:l.length=0:=by have:=aQA hc1;omega
  rw[e0 h0];exact Sr<|Dd aM<|Dd aM<|Zz<|aB<|Ru<|Qq
 have h0:l.length≠0:=by have:=aQB hc1;omega
 rw[e1 h0];exact aC<|Sr<|Dd aE<|Dd (by exact aA rfl rfl call118 rfl (htx _))<|Dd aE<|Dd fG<|Dd fG<|Dd aM<|Dd aM<|Zz<|Sr<|Dd aE<|Dd aE<|Dd cN<|Dd aM<|Dd aM<|Zz<|aB<|Ru<|Qq
def VU:ByteArray:=⟨#[114,101,99,111,114,100]⟩
def FY(r:GRec)(T:ByteArray):List IV:=[.t VU,.n r.kind,.n r.author,.n r.number,.n r.clock,.t r.branch,.l r.parents,.t T,.t r.target,.b r.yes,.n r.order,.t r.from']
def fR(r:GRec):Prop:=(rV r.kind/\rV r.author/\rV r.number/\rV r.clock/\rV r.order)/\(r.branch.size<1099511627776/\r.target.size<1099511627776/\r.from'.size<1099511627776)/\J2 r.parents/\(r.edits.length<1099511627776/\∀e∈r.edits,M0 e)/\pO r.sl/\MZ r.priv
theorem aIC(h:fR r)(T:ByteArray):∀v∈FY r T,okI v:=by
 obtain ⟨⟨a1,a2,a3,a4,a5⟩,_,b1,_⟩:=h;intro v hv;simp only[FY,aQQ,aQU,or_false]at hv;rcases hv with rfl|rfl|rfl|rfl|rfl|rfl|rfl|rfl|rfl|rfl|rfl|rfl
 ·exact trivial
 ·exact a1
 ·exact a2
 ·exact a3
 ·exact a4
 ·exact trivial
 ·exact b1.1
 ·exact trivial
 ·exact trivial
 ·exact trivial
 ·exact a5
 exact trivial
theorem WD(T:ByteArray):(rN (FY r T)).length=r.parents.length+12:=by simp[FY,rN,fI]
def mA(r:GRec):List ByteArray:=rN (FY r (iT r.edits).1)
def WE(r:GRec):Nat:=gIs (FY r (iT r.edits).1)
theorem QP(r:GRec)(hr:fR r)(hp:r.parents.length<549755813888):aI Tryz.prog 39 [av (bS r)] [] (fun x H'=>x=.osl 971 (WE r) 0 (mA r).length/\H'=[(971,⟨WE r,1,9,cD (mA r)⟩)]):=by
 have htx:=fun H=>aAn r.edits H hr.2.2.2.1.1 hr.2.2.2.1.2;rw[mA,WE];obtain ⟨T,hT⟩:∃T,T=(iT r.edits).1:=⟨_,rfl⟩;obtain ⟨b,hb⟩:∃b,b=(iT r.edits).2:=⟨_,rfl⟩;rw[<-hT,<-hb]at htx;rw[<-hT];have hlen:=WD (r:=r) T;have hadd:=aA5 (FY r T) (aIC hr T) 0 [] (show 12<1099511627776 by decide) (by rw[hlen,List.length_nil];omega);rw[aQW,List.nil_append]at hadd;refine Bd func39 rfl ntmps39<|Sr<|Dd (by exact cF (id:=1) rfl rfl rfl rfl rfl)<|Dd aM<|Zz<|Sr<|Dd (by exact bU (id:=970) rfl aMR rfl rfl)<|Zz<|Sr<|Dd (aT vT)<|Dd (bF iR)<|Dd (by exact aA rfl rfl call72 rfl (htx _))<|Dd aE<|Dd fG<|Dd fG<|Dd aM<|Dd aM<|Zz<|Sq ?_;refine gM.ent (E':=[(1,.ref 1 0 0 0),(3,.ref 970 0 0 0),(4,sv T)]) (H':=(971,⟨0,1,9,[]⟩)::(970,bx 1 72 [.osl 971 0 0 0])::(1,bx 21 30 ((bS r).map .pv))::[]) ?_ ?_
 ·exact(cX.nz 971 1 9 rfl rfl ⟨⟨_,rfl,(by exact Nz.same (by(simp;rfl)))⟩,⟨_,rfl,(by exact Nz.same (by(simp;rfl)))⟩,⟨_,rfl,(by exact Nz.same (by(simp;done)))⟩,trivial⟩ ⟨⟨_,rfl,rfl,rfl,rfl,(by exact .inr ⟨_,_,rfl,rfl,(by repeat(first|exact trivial|refine⟨(by exact Nz.own),?_⟩))⟩)⟩,⟨_,rfl,rfl,rfl,rfl,(by exact .inl ⟨rfl,(by(simp;done))⟩)⟩,trivial⟩ trivial)
 refine Rg<|Dd (by exact fN (p:=.str VU) rfl (dR underlying9 rfl) rfl)<|Dd (aT lL)<|Dd (bF isAgg3)<|Dd (by exact fN (p:=.int .i64 r.kind) rfl (dR underlying3 rfl) rfl)<|Dd (aT tH)<|Dd (bF isAgg3)<|Dd (by exact fN (p:=.int .i64 r.author) rfl (dR underlying3 rfl) rfl)<|Dd (aT nX)<|Dd (bF isAgg3)<|Dd (by exact fN (p:=.int .i64 r.number) rfl (dR underlying3 rfl) rfl)<|Dd (aT vV)<|Dd (bF isAgg3)<|Dd (by exact fN (p:=.int .i64 r.clock) rfl (dR underlying3 rfl) rfl)<|Dd (aT vU)<|Dd (bF isAgg9)<|Dd (by exact fN (p:=.str r.branch) rfl (dR underlying9 rfl) rfl)<|Dd (aT lK)<|Dd (bF aG)<|Dd (by exact fN (p:=aZ r.parents) rfl (dR aD rfl) rfl)<|Dd aE<|Dd (by exact fN (p:=.str T) rfl (dR underlying9 rfl) rfl) ?_;refine Dd (aT vS)<|Dd (bF isAgg9)<|Dd (by exact fN (p:=.str r.target) rfl (dR underlying9 rfl) rfl)<|Dd (aT CN)<|Dd (bF pG)<|Dd (by exact fN (p:=.bool r.yes) rfl (dR eV rfl) rfl)<|Dd (aT tG)<|Dd (bF isAgg3)<|Dd (by exact fN (p:=.int .i64 r.order) rfl (dR underlying3 rfl) rfl)<|Dd (aT rA)<|Dd (bF isAgg9)<|Dd (by exact fN (p:=.str r.from') rfl (dR underlying9 rfl) rfl)<|Dd (by exact aQ ((FY r T).map xV) rfl wV rfl rfl rfl rfl rfl (NY (FY r T)))<|Dd (by exact aA rfl rfl wJ rfl (YB hadd ⟨rfl,rfl,trivial⟩ (by simp;rfl)))<|Zz<|Sr<|Dd (bF DV)<|Dd aM<|Zz<|aB ?_;refine dV (H':=[(971,⟨gIs (FY r T),1,9,cD (rN (FY r T))⟩)]) (.inr rfl) rfl (aX rfl) (Fin.wk (by(simp;rfl)) (Hc (cA _ _)<|trivial) trivial) ?_;exact Qq
end Go.Proofs.YtmdicgjnmfolfaaGreatDoor
section
namespace Go.Proofs
open Go.RowKit Go.Sort Go.Shelf
def aPt:Go.Shelf.Ren:=⟨fun|172=>114|244=>151|245=>152|247=>189|279=>190|280=>191|281=>192|282=>193|287=>224|316=>225|171=>108|205=>226|321=>257|322=>258|243=>146|246=>181|283=>215|284=>216|285=>217|286=>218|129=>250|317=>249|318=>251|319=>252|320=>253|337=>271|338=>272|n=>n,fun|9=>9|3=>3|75=>139|76=>140|4=>4|5=>5|167=>206|37=>124|0=>0|85=>207|2=>2|168=>209|53=>122|175=>237|46=>125|210=>240|127=>174|145=>268|143=>266|21=>21|171=>230|173=>233|212=>257|51=>258|20=>20|213=>259|232=>282|233=>283|80=>75|n=>n,fun|15=>1|16=>2|17=>3|18=>6|19=>7|n=>n⟩
theorem aPy:Go.Proofs.LaysC.n172 Tryz.prog aPt:={
  mixed:=by kernel_rfl
  f129:=Tryz.func250.trans (congrArg some (by kernel_rfl))
  f171:=Tryz.func108.trans (congrArg some (by kernel_rfl))
  f172:=Tryz.func114.trans (congrArg some (by kernel_rfl))
  f205:=Tryz.func226.trans (congrArg some (by kernel_rfl))
  f243:=Tryz.func146.trans (congrArg some (by kernel_rfl))
  f244:=Tryz.func151.trans (congrArg some (by kernel_rfl))
  f245:=Tryz.func152.trans (congrArg some (by kernel_rfl))
  f246:=Tryz.func181.trans (congrArg some (by kernel_rfl))
  f247:=Tryz.func189.trans (congrArg some (by kernel_rfl))
  f279:=Tryz.func190.trans (congrArg some (by kernel_rfl))
  f280:=Tryz.func191.trans (congrArg some (by kernel_rfl))
  f281:=Tryz.func192.trans (congrArg some (by kernel_rfl))
  f282:=Tryz.func193.trans (congrArg some (by kernel_rfl))
  f283:=Tryz.func215.trans (congrArg some (by kernel_rfl))
  f284:=Tryz.func216.trans (congrArg some (by kernel_rfl))
  f285:=Tryz.func217.trans (congrArg some (by kernel_rfl))
  f286:=Tryz.func218.trans (congrArg some (by kernel_rfl))
  f287:=Tryz.func224.trans (congrArg some (by kernel_rfl))
  f316:=Tryz.func225.trans (congrArg some (by kernel_rfl))
  f317:=Tryz.func249.trans (congrArg some (by kernel_rfl))
  f318:=Tryz.func251.trans (congrArg some (by kernel_rfl))
  f319:=Tryz.func252.trans (congrArg some (by kernel_rfl))
  f320:=Tryz.func253.trans (congrArg some (by kernel_rfl))
  f321:=Tryz.func257.trans (congrArg some (by kernel_rfl))
  f322:=Tryz.func258.trans (congrArg some (by kernel_rfl))
  f337:=Tryz.func271.trans (congrArg some (by kernel_rfl))
  f338:=Tryz.func272.trans (congrArg some (by kernel_rfl))
  t0:=aGn
  a0:=aPj
  z0:=aPJ
  v0:=aJ6
  t2:=Tryz.underlying2
  a2:=Tryz.isAgg2
  z2:=Tryz.sizeOf2
  v2:=Tryz.zeroValue2
  t3:=Tryz.underlying3
  a3:=Tryz.isAgg3
  z3:=Tryz.sizeOf3
  v3:=uP
  t4:=eV
  a4:=pG
  z4:=Tryz.sizeOf4
  v4:=nI
  t5:=fW
  a5:=BT
  z5:=cM
  v5:=CZ
  t9:=Tryz.underlying9
  a9:=Tryz.isAgg9
  z9:=Tryz.sizeOf9
  v9:=uO
  t20:=HF
  a20:=sZ
  z20:=aNx
  v20:=aGm
  t21:=Tryz.underlying21
  a21:=Tryz.isAgg21
  z21:=Tryz.sizeOf21
  v21:=Tryz.zeroValue21
  t37:=dL
  a37:=dW
  z37:=oT
  v37:=Tryz.zeroValue124
  t46:=FB
  a46:=YM
  z46:=UO
  v46:=HC
  t51:=Tryz.underlying258
  a51:=Tryz.isAgg258
  z51:=Tryz.sizeOf258
  v51:=Tryz.zeroValue258
  t53:=jY
  a53:=JB
  z53:=FD
  v53:=HD
  t75:=pT
  a75:=Tryz.isAgg139
  z75:=Tryz.sizeOf139
  v75:=Tryz.zeroValue139
  t76:=Tryz.underlying140
  a76:=Tryz.isAgg140
  z76:=Tryz.sizeOf140
  v76:=Tryz.zeroValue140
  t85:=Tryz.underlying207
  a85:=Tryz.isAgg207
  z85:=Tryz.sizeOf207
  v85:=Tryz.zeroValue207
  t127:=wF
  a127:=Tryz.isAgg174
  z127:=Tryz.sizeOf174
  v127:=Tryz.zeroValue174
  t143:=Tryz.underlying266
  a143:=Tryz.isAgg266
  z143:=Tryz.sizeOf266
  v143:=Tryz.zeroValue266
  t145:=Tryz.underlying268
  a145:=Tryz.isAgg268
  z145:=Tryz.sizeOf268
  v145:=Tryz.zeroValue268
  t167:=Tryz.underlying206
  a167:=Tryz.isAgg206
  z167:=Tryz.sizeOf206
  v167:=Tryz.zeroValue206
  t168:=Tryz.underlying209
  a168:=Tryz.isAgg209
  z168:=Tryz.sizeOf209
  v168:=Tryz.zeroValue209
  t171:=Tryz.underlying230
  a171:=Tryz.isAgg230
  z171:=Tryz.sizeOf230
  v171:=Tryz.zeroValue230
  t173:=Tryz.underlying233
  a173:=Tryz.isAgg233
  z173:=Tryz.sizeOf233
  v173:=Tryz.zeroValue233
  t175:=Tryz.underlying237
  a175:=Tryz.isAgg237
  z175:=Tryz.sizeOf237
  v175:=Tryz.zeroValue237
  t210:=Tryz.underlying240
  a210:=Tryz.isAgg240
  z210:=Tryz.sizeOf240
  v210:=Tryz.zeroValue240
  t212:=Tryz.underlying257
  a212:=Tryz.isAgg257
  z212:=Tryz.sizeOf257
  v212:=Tryz.zeroValue257
  t213:=Tryz.underlying259
  a213:=Tryz.isAgg259
  z213:=Tryz.sizeOf259
  t232:=Tryz.underlying282
  a232:=Tryz.isAgg282
  z232:=Tryz.sizeOf282
  v232:=Tryz.zeroValue282
  t233:=Tryz.underlying283
  a233:=Tryz.isAgg283
  z233:=Tryz.sizeOf283
  v233:=Tryz.zeroValue283
  g15:=by kernel_rfl
  g16:=by kernel_rfl
  g17:=by kernel_rfl
  g18:=by kernel_rfl
  g19:=by kernel_rfl
  t80:=Tryz.underlying75
  a80:=Tryz.isAgg75
  z80:=Tryz.sizeOf75
  v80:=Tryz.zeroValue75
  i0:=by kernel_rfl
  i2:=by kernel_rfl
  i3:=by kernel_rfl
  i4:=by kernel_rfl
  i5:=by kernel_rfl
  i9:=by kernel_rfl
  i20:=by kernel_rfl
  i21:=by kernel_rfl
  i37:=by kernel_rfl
  i46:=by kernel_rfl
  i51:=by kernel_rfl
  i53:=by kernel_rfl
  i75:=by kernel_rfl
  i76:=by kernel_rfl
  i80:=by kernel_rfl
  i85:=by kernel_rfl
  i127:=by kernel_rfl
  i143:=by kernel_rfl
  i145:=by kernel_rfl
  i167:=by kernel_rfl
  i168:=by kernel_rfl
  i171:=by kernel_rfl
  i173:=by kernel_rfl
  i175:=by kernel_rfl
  i210:=by kernel_rfl
  i212:=by kernel_rfl
  i232:=by kernel_rfl
  i233:=by kernel_rfl
  m15:=by kernel_rfl
  m16:=by kernel_rfl
  m17:=by kernel_rfl
  m18:=by kernel_rfl
  m19:=by kernel_rfl
  c0:=by kernel_rfl
  c2:=by kernel_rfl
  c3:=by kernel_rfl
  c4:=by kernel_rfl
  c5:=by kernel_rfl
  c9:=by kernel_rfl
  c20:=by kernel_rfl
  c21:=by kernel_rfl
  c37:=by kernel_rfl
  c46:=by kernel_rfl
  c51:=by kernel_rfl
  c53:=by kernel_rfl
  c75:=by kernel_rfl
  c76:=by kernel_rfl
  c80:=by kernel_rfl
  c85:=by kernel_rfl
  c127:=by kernel_rfl
  c143:=by kernel_rfl
  c145:=by kernel_rfl
  c167:=by kernel_rfl
  c168:=by kernel_rfl
  c171:=by kernel_rfl
  c173:=by kernel_rfl
  c175:=by kernel_rfl
  c210:=by kernel_rfl
  c212:=by kernel_rfl
  c213:=by kernel_rfl
  c232:=by kernel_rfl
  c233:=by kernel_rfl}
end Go.Proofs
namespace Go.Proofs.YtmdicgjnmfolfaaGreatDoor
open Go.Proofs.Tryz
open Go.Abs
theorem K6(s:ByteArray)(hs:s.size<1099511627776)(H:aH):aI Tryz.prog 114 [sv s] H (fun r H'=>r=.tup [iv (oK s).1,.pv (oK s).2]/\H'=H) :=Go.Abs.atoi_c aPy (G1:=1) (G2:=2) (by unfold TY;exact .tail _ (.tail _ (.head _))) (by kernel_rfl) (by unfold TY;exact .tail _ (.head _)) (by kernel_rfl) s hs H
end Go.Proofs.YtmdicgjnmfolfaaGreatDoor
end
namespace Go.Proofs.YtmdicgjnmfolfaaGreatDoor
open Go.Proofs.Tryz
open Go.Abs
theorem WW(s:ByteArray)(H:aH)(hs:s.size<1099511627776):aI Tryz.prog 156 [sv s] H (fun r H'=>r=iv (PF s.data.toList)/\H'=H):=by
 refine Pu ?_;have hA:=K6 s hs;unfold oK at hA;unfold PF;cases h:Lib.atoiAll s.data.toList with
 |ok v =>
  simp only[h]at hA;refine Bd aPL rfl aNz<|Sr<|Dd aM<|Zz<|Sr<|Dd aE<|Dd (by exact aA rfl rfl yI rfl (hA _))<|Dd aE<|Dd fG<|Dd fG<|Dd aM<|Dd aM<|Zz<|Sq<|Sr<|Dd aE<|Dd (by exact MU rfl pT rfl)<|Zz ?_;refine Cn ?_ ?_<;>intro hc1
  ·cases hc1
  exact aC<|Sr<|Dd aE<|Dd aM<|Zz<|aB<|Rt<|Qq
 |range =>
  simp only[h]at hA;refine Bd aPL rfl aNz<|Sr<|Dd aM<|Zz<|Sr<|Dd aE<|Dd (by exact aA rfl rfl yI rfl (hA _))<|Dd aE<|Dd fG<|Dd fG<|Dd aM<|Dd aM<|Zz<|Sq<|Sr<|Dd aE<|Dd (by exact EM rfl pT rfl)<|Zz ?_;refine Cn ?_ ?_<;>intro hc1
  ·exact Sr<|Dd aM<|Zz<|aB<|Rt<|Qq
  cases hc1
 |_ =>
  simp only[h]at hA;refine Bd aPL rfl aNz<|Sr<|Dd aM<|Zz<|Sr<|Dd aE<|Dd (by exact aA rfl rfl yI rfl (hA _))<|Dd aE<|Dd fG<|Dd fG<|Dd aM<|Dd aM<|Zz<|Sq<|Sr<|Dd aE<|Dd (by exact EM rfl pT rfl)<|Zz ?_;refine Cn ?_ ?_<;>intro hc1
  ·exact Sr<|Dd aM<|Zz<|aB<|Rt<|Qq
  cases hc1
end Go.Proofs.YtmdicgjnmfolfaaGreatDoor
section
namespace Go.Abs
variable{l:List UInt8}{u:Nat}
section
variable{P:Program}{N:Nat}{o:Oper}{E:dG}{H:aH}{t t':TypeId}{x:Operand}
abbrev aLe(b:Bool):PV:=bif b then aDE else H4
theorem WO{b:Bool}(ho:o.op=.binOp .neq t x (.const .nilIface) t')(ht:P.underlying t=some (.interface (P.methodsAt t)))(hx:aR E x=some (.pv (aLe b))):cU P N o E H (.pv (.bool b)) H:=by
 cases b
 ·exact MU ho ht hx
 exact EM ho ht hx
end
def pB(s:ByteArray):Int:=(oK s).1
def xL(s:ByteArray):Bool:=match Lib.atoiAll s.data.toList with
 |.ok _=>false
 |_=>true
theorem aG5(s:ByteArray):oK s=(pB s,aLe (xL s)):=by rw[pB,xL,oK];cases Lib.atoiAll s.data.toList<;>rfl
open Go.Lib
theorem aD1(hne:l≠[])(hm:∀b∈l,48<=b.toNat/\b.toNat<=57)(hd:decFrom 0 l=some u):atoi l=some (u:Int):=by
 cases l with
 |nil=>exact absurd rfl hne
 |cons b r =>
  have hb:=hm b List.mem_cons_self;have e2:decNat (b::r)=some u:=by rw[decNat,hd];rfl
  have h43:¬ (b == 43)=true:=fun h=>by rw[beq_iff_eq]at h;rw[h]at hb;exact absurd hb.1 (by decide)
  have h45:¬ (b == 45)=true:=fun h=>by rw[beq_iff_eq]at h;rw[h]at hb;exact absurd hb.1 (by decide)
  rw[atoi,aQC h45,aQC h43,e2];rfl
theorem UG(hl:l.length<=18)(hne:l≠[])(hm:∀b∈l,48<=b.toNat/\b.toNat<=57)(hd:decFrom 0 l=some u):atoiAll l=.ok (u:Int):=by rw[atoiAll_short _ hl,aD1 hne hm hd];rfl
end Go.Abs
namespace Go.Proofs.YtmdicgjnmfolfaaGreatDoor
open Go.Proofs.Tryz
open Go.Abs Go.Lib
theorem aBk(s:ByteArray)(hs:s.size<1099511627776)(H:aH):aI Tryz.prog 114 [sv s] H (fun r H'=>r=.tup [iv (pB s),.pv (aLe (xL s))]/\H'=H):=by
 have:=K6 s hs H
 rwa [aG5]at this
abbrev sCo:ByteArray:=⟨#[58]⟩
theorem Y4(s:ByteArray)(H:aH):aI Tryz.prog 188 [sv s,sv sCo] H (fun r H'=>r=iv (Lib.indexByte s.data.toList 58)/\H'=H):=by
 refine Pu ?_;refine Bd func188 rfl ntmps188<|Sr<|Dd aM<|Zz<|Sr<|Dd aE<|Dd (kG underlying9)<|Dd aM<|Zz<|Sq<|aF<|Sq ?_;refine aY (t:=16) (n:=9) (X:=decide (sCo=s)) ?_ ?_
 ·all_goals refine Dd aE ?_
  all_goals refine Dd cN<|Dm ?_
  all_goals refine Sp 19 (fun h19=>?_) fun h19=>?_
  all_goals try contradiction
  all_goals refine On aE<|On aE<|On AG<|Dd cH<|Da ?_
  all_goals(exact⟨⟨_,rfl,by rfl⟩,rfl,rfl,rfl⟩)
 refine Cn ?_ ?_<;>intro hc1
 ·have hs:=aQA hc1;subst hs;exact Sr<|Dd aM<|Zz<|aB<|Rt<|Qq
 refine Sr<|Dd aE<|Dd cN<|Da ?_;refine Cn ?_ ?_<;>intro hc2
 ·exact Sr<|Dd aE<|Dd aE<|Dd (by exact dK rfl underlying9 rfl rfl (by omega) (by exact aQP _) (show 0<(⟨#[58]⟩:ByteArray).size from Nat.zero_lt_one) rfl)<|Dd (by exact aA rfl rfl aPO rfl (xO s 58 _))<|Dd aM<|Zz<|aB<|Rt<|Qq
 cases hc2
def XW(s:ByteArray):AV:=if Lib.indexByte s.data.toList 58 = -1 then .tup [sv s,sv ⟨#[]⟩,bv false]else .tup [sv (s.extract 0 (Lib.indexByte s.data.toList 58).toNat),sv (s.extract ((Lib.indexByte s.data.toList 58).toNat+1) s.size),bv true]
theorem aER(s:ByteArray)(H:aH)(hs:s.size<1099511627776):aI Tryz.prog 150 [sv s,sv sCo] H (fun r H'=>r=XW s/\H'=H):=by
 refine Pu ?_;have hI:=fun H=>Y4 s H;rw[XW];rcases Classical.em (Lib.indexByte s.data.toList 58 = -1)with h1|h1
 ·rw[aQD h1];simp only[h1]at hI;refine Bd aD6 rfl YH<|Sr<|Dd aM<|Dd aM<|Dd aM<|Zz<|Sq<|Sr<|Dd aE<|Dd aE<|Dd (by exact aA rfl rfl OL rfl (hI _))<|Dd aM<|Zz<|Sr<|Dd aE<|Dd D7<|Zz ?_;refine Cn ?_ ?_<;>intro hc1
  ·cases hc1
  refine aC<|Sr<|Dd aE<|Dd aM<|Dd aM<|Dd aM<|Zz<|aB ?_;refine BM (H':=[]) (.inr rfl) rfl (aX rfl) (aX rfl) (aX rfl) (Fin.wk (by simp) trivial trivial) ?_;exact Qq
 rw[aQC h1];obtain ⟨w,r,e1,e2,e3⟩:=vP h1;simp only[e3]at hI;rw[e3,aQP];have hl:w.length+1+r.length=s.size:=by rw[<-show s.data.toList.length=s.size by simp,e1,aQF,aQG];omega
 refine Bd aD6 rfl YH<|Sr<|Dd aM<|Dd aM<|Dd aM<|Zz<|Sq<|Sr<|Dd aE<|Dd aE<|Dd (by exact aA rfl rfl OL rfl (hI _))<|Dd aM<|Zz<|Sr<|Dd aE<|Dd D7<|Zz ?_;refine Cn ?_ ?_<;>intro hc1
 ·refine Sq<|aO follows<|Cq aE<|Cq aE<|Cq (by exact cQ (l:=0) (h:=(w.length)) rfl underlying9 rfl rfl rfl (by omega) (by omega) rfl)<|Cq aE<|Cq aE<|Cq aE<|Cq (kG underlying9)<|Cq (by exact cB rfl rfl rfl (show IntKind.i64.wrap ((w.length:Int)+1)=((w.length+1:Nat):Int)by rw[IntKind.wrap_i64];omega))<|Cq (by exact cQ (l:=(w.length+1)) (h:=s.size) rfl underlying9 rfl rfl rfl (by omega) (by omega) rfl)<|Cq aM<|Cq aM<|Cq aM<|bM<|Kr<|aB ?_;refine BM (H':=[]) (.inr rfl) rfl (aX rfl) (aX rfl) (aX rfl) (Fin.wk (by simp) trivial trivial) ?_;exact Qq
 have hx:=aQB hc1;omega
theorem aLn(s:ByteArray)(H:aH)(hs:s.size<1099511627776):aI Tryz.prog 113 [sv s,sv sCo] H (fun r H'=>r=XW s/\H'=H):=by
 refine Pu ?_;have hC:=fun H=>aER s H hs;rw[XW]at *;rcases Classical.em (Lib.indexByte s.data.toList 58 = -1)with h1|h1
 ·simp only[XW,aQD h1]at hC |-;refine Bd aD8 rfl YJ<|Sr<|Dd aM<|Dd aM<|Dd aM<|Zz<|Sr<|Dd aE<|Dd aE<|Dd (by exact aA rfl rfl aDb rfl (hC _))<|Dd fG<|Dd fG<|Dd fG<|Dd aM<|Dd aM<|Dd aM<|Zz<|aB ?_;refine BM (H':=[]) (.inr rfl) rfl (aX rfl) (aX rfl) (aX rfl) (Fin.wk (by simp) trivial trivial) ?_;exact Qq
 simp only[XW,aQC h1]at hC |-;refine Bd aD8 rfl YJ<|Sr<|Dd aM<|Dd aM<|Dd aM<|Zz<|Sr<|Dd aE<|Dd aE<|Dd (by exact aA rfl rfl aDb rfl (hC _))<|Dd fG<|Dd fG<|Dd fG<|Dd aM<|Dd aM<|Dd aM<|Zz<|aB ?_;refine BM (H':=[]) (.inr rfl) rfl (aX rfl) (aX rfl) (aX rfl) (Fin.wk (by simp) trivial trivial) ?_;exact Qq
def U1(l:List UInt8):List UInt8:=l.takeWhile fun b=>!decide (b=58)
def U2(l:List UInt8):List UInt8:=(l.dropWhile fun b=>!decide (b=58)).drop 1
theorem aGL{w r:List UInt8}(h:(58:UInt8)∉w):U1 (w++58::r)=w/\U2 (w++58::r)=r:=by
 induction w with
 |nil=>exact⟨rfl,rfl⟩
 |cons b w ih =>
  have hb:b≠58:=fun e=>h (by rw[e];exact List.mem_cons_self);obtain ⟨h1,h2⟩:=ih (fun e=>h (List.mem_cons_of_mem _ e));rw[U1]at h1 |-;rw[U2]at h2 |-;rw[List.cons_append,List.takeWhile_cons,List.dropWhile_cons,aQD (by simp[hb]),aQD (by simp[hb]),h1];exact⟨rfl,h2⟩
theorem aGK:∀ {l:List UInt8},(58:UInt8)∉l->U1 l=l/\U2 l=[]
 | [],_=>⟨rfl,rfl⟩
 |b::l,h=>by
  have hb:b≠58:=fun e=>h (by rw[e];exact List.mem_cons_self);obtain ⟨h1,h2⟩:=aGK (l:=l) (fun e=>h (List.mem_cons_of_mem _ e));rw[U1]at h1 |-;rw[U2]at h2 |-;rw[List.takeWhile_cons,List.dropWhile_cons,aQD (by simp[hb]),aQD (by simp[hb]),h1];exact⟨rfl,h2⟩
theorem aJH(l:List UInt8):XW (ofL l)=.tup [sv (ofL (U1 l)),sv (ofL (U2 l)),bv (decide ((58:UInt8)∈l))]:=by
 rw[XW,dI];by_cases h:Lib.indexByte l 58 = -1
 ·rw[aQD h];have hm:=vO.1 h;rw[(aGK hm).1,(aGK hm).2,decide_eq_false hm];rfl
 rw[aQC h];obtain ⟨w,r,e1,e2,e3⟩:=vP h;rw[e3,aQP];subst e1;rw[(aGL e2).1,(aGL e2).2,decide_eq_true (by simp)];have x1:(ofL (w++58::r)).extract 0 w.length=ofL w:=rF (by rw[iI,dI,dI,List.drop_zero,Nat.sub_zero,List.take_left]);have x2:(ofL (w++58::r)).extract (w.length+1) (ofL (w++58::r)).size=ofL r:=rF (by
  rw[CP,dI,dI,<-List.drop_drop,List.drop_left];rfl)
 rw[x1,x2]
theorem aD2(s:ByteArray): -9223372036854775808<=pB s/\pB s<=9223372036854775807:=by
 rw[pB,oK];cases e:Lib.atoiAll s.data.toList with
 |ok v=>exact Lib.atoiAll_bounds e
 |range =>
  show _<=Lib.atoiSat _/\Lib.atoiSat _<=_;rw[Lib.atoiSat]
  split
  ·exact⟨by decide,by decide⟩
  exact⟨by decide,by decide⟩
 |_ =>
  show (-9223372036854775808:Int)<=0/\(0:Int)<=9223372036854775807;exact⟨by decide,by decide⟩
theorem aLo(l:List UInt8):(U1 l).length<=l.length/\(U2 l).length<=l.length:=by
 constructor
 ·exact(List.takeWhile_sublist _).length_le
 rw[U2,aQT];have:=(List.dropWhile_sublist (l:=l) fun b=>!decide (b=58)).length_le;omega
theorem aG4{l:List UInt8}{u:Nat}(hl:l.length<=18)(hne:l≠[])(hm:∀b∈l,48<=b.toNat/\b.toNat<=57)(hd:decFrom 0 l=some u):xL (ofL l)=false/\pB (ofL l)=(u:Int):=by
 have h:=UG hl hne hm hd;constructor
 ·rw[xL,dI,h]
 rw[pB,oK,dI,h]
theorem RM(n:Nat):(aV (n:Int)).data.toList=decDigits n:=by show (Lib.itoa (n:Int)).toArray.toList=_;rw[iU _ (Int.natCast_nonneg n),aQP]
theorem xD(x:ByteArray)(L:List ByteArray):aP (x::L)=decDigits x.size++58::(x.data.toList++aP L):=by
 have h1:aP (x::L)=(oL x).data.toList++aP L:=by rw[aP,List.flatMap_cons];rfl
 rw[h1,oL,ByteArray.data_append,Array.toList_append,ByteArray.data_append,Array.toList_append,RM];simp
theorem aGG(n:Nat):(58:UInt8)∉decDigits n:=fun h=>by
 have:=rW n h;exact absurd this.2 (by decide)
theorem W3(A B:List ByteArray):aP (A++B)=aP A++aP B:=List.flatMap_append
end Go.Proofs.YtmdicgjnmfolfaaGreatDoor
end
namespace Go.Proofs.YtmdicgjnmfolfaaGreatDoor
open Go.Proofs.Tryz
open Go.Abs Go.Lib
variable{n:Int}
def D5(l:List UInt8):Bool:=((!decide ((58:UInt8)∈l)||xL (ofL (U1 l)))||decide (pB (ofL (U1 l))<0))||decide (((U2 l).length:Int)<pB (ofL (U1 l)))
def nxN(l:List UInt8):Nat:=(pB (ofL (U1 l))).toNat
def jF(l:List UInt8):Option (ByteArray×List UInt8):=if D5 l=true then none else some (ofL ((U2 l).take (nxN l)),(U2 l).drop (nxN l))
def oN(l:List UInt8):Option (Int×List UInt8):=match jF l with
 |none=>none
 |some (s,r)=>if xL s=true then none else some (pB s,r)
def DB{α:Type}(f:List UInt8->Option (α×List UInt8)):Nat->List UInt8->Option (List α×List UInt8)
 |0,l=>some ([],l)
 | n+1,l=>match f l with
  |none=>none
  |some (x,r)=>match DB f n r with
   |none=>none
   |some (xs,q)=>some (x::xs,q)
def wP{α:Type}(f:List UInt8->Option (α×List UInt8))(l:List UInt8):Option (List α×List UInt8):=match oN l with
 |none=>none
 |some (n,r)=>DB f n.toNat r
def HR(l:List UInt8):Option ((Int×Int)×List UInt8):=match oN l with
 |none=>none
 |some (x,r)=>match oN r with
  |none=>none
  |some (y,q)=>some ((x,y),q)
def SU(l:List UInt8):Option (GSeal×List UInt8):=match oN l with
 |none=>none
 | some (i,r)=>match wP jF r with
  |none=>none
  |some (a,q)=>match wP jF q with
   |none=>none
   |some (b,p)=>some (⟨i,a,b⟩,p)
def EJ(x:ByteArray):Prop:=x.size<1000000000000000000
theorem kT{x:ByteArray}(L:List ByteArray)(hx:EJ x):jF (aP (x::L))=some (x,aP L):=by
 obtain ⟨e1,e2⟩:=aGL (r:=x.data.toList++aP L) (aGG x.size);rw[<-xD]at e1 e2;obtain ⟨n1,n2⟩:=aG4 (l:=decDigits x.size) (u:=x.size) (dY (k:=18) (show x.size<10 ^ 18 from hx) (by decide)) (uG _) (fun b=>rW _) (CS _);have hm:(58:UInt8)∈aP (x::L):=by rw[xD];simp
 have hb:D5 (aP (x::L))=false:=by
  rw[D5,e1,e2,n1,n2,decide_eq_true hm,decide_eq_false (by omega),decide_eq_false (by rw[aQF,bD];omega)];rfl
 rw[jF,aQC (by rw[hb];decide),nxN,e1,n2,e2,aQP,List.drop_left' (bD x),List.take_left' (bD x),nR]
theorem JR(h0:0<=n)(h1:n<1000000000000000000):EJ (aV n):=Nat.lt_of_le_of_lt (mE (by omega) (by omega)) (by decide)
theorem aA1(h0:0<=n)(h1:n<1000000000000000000):xL (aV n)=false/\pB (aV n)=n:=by
 have h:=BA h0 h1;have e:(aV n).data.toList=itoa n:=by show (Lib.itoa n).toArray.toList=_;simp
 constructor
 ·rw[xL,e,h]
 rw[pB,oK,e,h]
theorem kU(L:List ByteArray)(h0:0<=n)(h1:n<1000000000000000000):oN (aP (aV n::L))=some (n,aP L):=by obtain ⟨a1,a2⟩:=aA1 h0 h1;rw[oN,kT L (JR h0 h1)];show (if xL (aV n)=true then none else some (pB (aV n),aP L))=_;rw[aQC (by rw[a1];decide),a2]
theorem NB:∀(ts L:List ByteArray),(∀t∈ts,EJ t)->DB jF ts.length (aP (ts++L))=some (ts,aP L)
 | [],L,_=>rfl
 |t::ts,L,h=>by
  rw[aQG,DB,List.cons_append,kT _ (h t List.mem_cons_self)];simp only[NB ts L fun x hx=>h x (List.mem_cons_of_mem _ hx)]
theorem AU(ts L:List ByteArray)(h:∀t∈ts,EJ t)(hl:ts.length<1000000000000000000):wP jF (aP (aV (ts.length:Int)::(ts++L)))=some (ts,aP L):=by rw[wP,kU _ (by omega) (by omega)];show DB jF ((ts.length:Int)).toNat (aP (ts++L))=_;rw[aQP,NB ts L h]
theorem MD(s:GSeal)(L:List ByteArray)(h0:0<=s.idx)(h1:s.idx<1000000000000000000)(ha:∀t∈s.sig,EJ t)(hb:∀t∈s.path,EJ t)(hal:s.sig.length<1000000000000000000)(hbl:s.path.length<1000000000000000000):
  SU (aP (fI (.z s.idx s.sig s.path)++L))=some (s,aP L):=by
 have e:fI (.z s.idx s.sig s.path)++L=aV s.idx::(aV (s.sig.length:Int)::(s.sig++(aV (s.path.length:Int)::(s.path++L)))):=by simp[fI]
 rw[e,SU,kU _ h0 h1];show (match wP jF (aP (aV (s.sig.length:Int)::(s.sig++(aV (s.path.length:Int)::(s.path++L)))))with|none=>none|some (a,q)=>match wP jF q with|none=>none|some (b,p)=>some ((⟨s.idx,a,b⟩:GSeal),p))=_;rw[AU _ _ ha hal];show (match wP jF (aP (aV (s.path.length:Int)::(s.path++L)))with|none=>none|some (b,p)=>some ((⟨s.idx,s.sig,b⟩:GSeal),p))=_;rw[AU _ _ hb hbl]
theorem NA:∀(ps:List (Int×Int)) (L:List ByteArray),(∀q∈ps,(0<=q.1/\q.1<1000000000000000000)/\(0<=q.2/\q.2<1000000000000000000))->DB HR ps.length (aP (OR ps++L))=some (ps,aP L)
 | [],L,_=>rfl
 | p::ps,L,h=>by
  obtain ⟨⟨a1,a2⟩,a3,a4⟩:=h p List.mem_cons_self;have e:OR (p::ps)++L=aV p.1::(aV p.2::(OR ps++L)):=rfl;have e2:HR (aP (OR (p::ps)++L))=some (p,aP (OR ps++L)):=by
   rw[e,HR,kU _ a1 a2];show (match oN (aP (aV p.2::(OR ps++L)))with|none=>none|some (y,q)=>some ((p.1,y),q))=_;rw[kU _ a3 a4]
  rw[aQG,DB,e2];simp only[NA ps L fun x hx=>h x (List.mem_cons_of_mem _ hx)]
theorem Z9(ps:List (Int×Int))(L:List ByteArray)(h:∀q∈ps,(0<=q.1/\q.1<1000000000000000000)/\(0<=q.2/\q.2<1000000000000000000))(hl:ps.length<1000000000000000000):wP HR (aP (fI (.p ps)++L))=some (ps,aP L):=by have e:fI (.p ps)++L=aV (ps.length:Int)::(OR ps++L):=rfl;rw[e,wP,kU _ (by omega) (by omega)];show DB HR ((ps.length:Int)).toNat (aP (OR ps++L))=_;rw[aQP,NA ps L h]
end Go.Proofs.YtmdicgjnmfolfaaGreatDoor
namespace Go.Proofs.YtmdicgjnmfolfaaGreatDoor
open Go.Proofs.Tryz
open Go.Abs
variable{a s:ByteArray}{l:List ByteArray}{k:Nat}
theorem aAG(fv:AV)(l:List (Int×Int))(p:Nat->Bool)(Hs:Nat->aH)(hl:l.length<4611686018427387904)(hf:∀k s,l[k]?=some s->dN Tryz.prog fv [av (fS s)] (Hs k) (fun r H'=>r=bv (p k)/\H'=Hs (k+1))):
  aI Tryz.prog 121 [.pv (sN l),fv] (Hs 0) (fun r H'=>r=iv (JS p l.length)/\H'=Hs (BD p l.length)):=by
 have hml:(l.map fS).length=l.length:=aQE _;refine Bd func121 rfl ntmps121<|Sr<|Dd aM<|Zz<|Sq<|Sr<|Dd aE<|Dd (fM dM)<|Dd aE<|Zz<|aF ?_;refine bJ (σ:=Nat) (fun k=>([(0,.pv (sN l)),(1,fv),(7,iv ((l.map fS).length:Int)),(8,iv (k:Int))],Hs k)) (fun k=>k<=l.length/\∀j,j<k->p j=false) (fun k=>l.length - k) 0 ⟨by omega,by omega⟩ ?_ ?_
 ·exact E0
 rintro k ⟨hk,hno⟩;refine Sr<|Dd cW<|Zz<|Sq ?_;refine Cn ?_ ?_<;>intro hc1
 ·have hlt:k<l.length:=by have:=aQA hc1;omega
  obtain ⟨s,hs⟩:=aU hlt;have hi:=cI (f:=fS) hs;have hfo:=hf k s hs;refine aC<|Sq<|aF<|Sr<|Dd aE<|Dd aM<|Zz<|Sr<|Dd aE<|Dd aE<|Dd aE<|Dd (mR MC)<|Dd (by exact dP rfl dS sizeOf68 rfl (by omega) (by simp only[Zl,fS];rfl) rfl)<|Dd (by exact cY rfl rfl rfl (hfo))<|Zz ?_;refine Cn ?_ ?_<;>intro hc2
  ·refine Sr<|Dd aE<|Dd aM<|Zz<|aB ?_;exact dV (H':=Hs (k+1)) (.inr rfl) rfl (aX rfl) Fin.refl ⟨by rw[JS,A3 hlt hc2 hno],by rw[BD,A3 hlt hc2 hno]⟩
  refine aC<|Rg<|Dd mV<|Dd aE<|Zz ?_;refine⟨k+1,⟨by omega,fun j hj=>?_⟩,by omega,E0⟩;by_cases e:j=k
  ·subst e;exact hc2
  exact hno j (by omega)
 have hge:k=l.length:=by have:=aQB hc1;omega
 subst hge;refine aW<|Sr<|Dd aM<|Zz<|aB ?_;exact dV (H':=Hs l.length) (.inr rfl) rfl (aX rfl) Fin.refl ⟨by rw[JS,A4 hno],by rw[BD,A4 hno]⟩
theorem PR(fv:AV)(l:List (Int×Int))(p:Nat->Bool)(Hs:Nat->aH)(hl:l.length<4611686018427387904)(hf:∀k s,l[k]?=some s->dN Tryz.prog fv [av (fS s)] (Hs k) (fun r H'=>r=bv (p k)/\H'=Hs (k+1))):
  aI Tryz.prog 64 [.pv (sN l),fv] (Hs 0) (fun r H'=>r=bv ((List.range l.length).any p)/\H'=Hs (BD p l.length)):=by
 refine Bd func64 rfl ntmps64<|Sr<|Dd aM<|Zz<|Sr<|Dd aE<|Dd aE<|Dd (by exact aA rfl rfl call121 rfl (aAG fv l p Hs hl hf))<|Dd D7<|Dd aM<|Zz<|aB ?_;exact dV (H':=Hs (BD p l.length)) (.inr rfl) rfl (aX rfl) Fin.refl ⟨by rw[RP],rfl⟩
def M1(q:Int×Int):Bool:=!(decide (0<=q.1)&&decide (q.1<=1048575))||!(decide (0<=q.2)&&decide (q.2<=1048575))
def wiO:Ob:=bx 1 98 [.pv (.fn 60)]
theorem wR(H:aH):∀r∈wiO.rows,∀a∈r,Clo H a:=by intro r hr a ha;simp only[wiO,bx,aQH]at hr;subst hr;rw[aQH]at ha;subst ha;simp
theorem aN1(q:Int×Int):aI Tryz.prog 65 [av (fS q),.ref 3 0 0 0] [(3,wiO)] (fun r H'=>r=bv (M1 q)/\H'=[(3,wiO)]):=by
 have hw1:=fun H=>LA q.1 0 1048575 H;have hw2:=fun H=>LA q.2 0 1048575 H;have hof:M1 q=(!(decide (0<=q.1)&&decide (q.1<=1048575))||!(decide (0<=q.2)&&decide (q.2<=1048575))):=rfl;obtain ⟨u,hu⟩:∃u,u=(decide (0<=q.1)&&decide (q.1<=1048575)):=⟨_,rfl⟩;obtain ⟨v,hv⟩:∃v,v=(decide (0<=q.2)&&decide (q.2<=1048575)):=⟨_,rfl⟩;rw[<-hu]at hw1 hof;rw[<-hv]at hw2 hof;clear hu hv;refine Bd func65 rfl ntmps65<|Sr<|Dd (by exact cF (id:=2) rfl rfl rfl rfl rfl)<|Dd aM<|Zz<|Sq ?_;refine aY (t:=3) (n:=14) (X:=M1 q) ?_ ?_
 ·all_goals refine Dd (bF pU) ?_
  all_goals refine Dd (aT pR)<|Dd (bF isAgg3)<|Dd (by exact cY rfl rfl rfl (dN.fn sA (hw1 _)))<|Dd iS<|Dm ?_
  all_goals refine Sp 9 (fun h9=>?_) fun h9=>?_
  all_goals try contradiction
  all_goals first|refine Fo<|Fo<|Fo<|Fo<|Fo ?_|refine On (bF pU)<|On (aT pQ)<|On (bF isAgg3)<|On (by exact cY rfl rfl rfl (dN.fn sA (hw2 _)))<|On iS ?_
  all_goals refine Dd cH<|Da ?_
  all_goals(exact⟨⟨_,rfl,by(rw[hof,h9];rfl)⟩,rfl,rfl,rfl⟩)
 refine aB ?_;refine dV (H':=[(3,wiO)]) (.inr rfl) rfl (aX rfl) (Fin.wk (by(simp;done)) (Hc (wR _)<|trivial) ⟨rfl,trivial⟩) ?_;exact Qq
theorem aA2(l:List (Int×Int))(q:Int×Int->Bool):((List.range l.length).any fun k=>match l[k]? with|some s=>q s|none=>false)=l.any q:=by
 rw[Bool.eq_iff_iff,List.any_eq_true,List.any_eq_true];constructor
 ·rintro⟨k,hk,h⟩;have hk:=List.mem_range.1 hk;rw[aQJ hk]at h;exact⟨_,List.getElem_mem hk,h⟩
 rintro⟨s,hs,h⟩;obtain ⟨k,hk⟩:=aQZ.1 hs;exact⟨k,List.mem_range.2 (aQI.1 hk).1,by rw[hk];exact h⟩
def aKk(l:List (Int×Int))(k:Nat):Bool:=match l[k]? with|some s=>M1 s|none=>false
theorem aLO(l:List (Int×Int))(hl:l.length<1099511627776):aI Tryz.prog 64 [.pv (sN l),.clo 65 [.ref 3 0 0 0]] [(3,wiO)] (fun r H'=>r=bv (l.any M1)/\H'=[(3,wiO)]):=by
 have hc:=PR (.clo 65 [.ref 3 0 0 0]) l (aKk l) (fun _=>[(3,wiO)]) (by omega) (fun k s hk=>by
  rw[aKk,hk];exact dN.clo call65 (aN1 s))
 rw[show (List.range l.length).any (aKk l)=l.any M1 from aA2 l M1]at hc;exact hc
theorem aFd(s:ByteArray)(H:aH):aI Tryz.prog 167 [sv s] H (fun r H'=>r=bv false/\H'=H):=by refine Pu ?_;refine Bd func167 rfl ntmps167<|Sr<|Dd aM<|Zz<|Sr<|Dd aE<|Dd aE<|Dd JI<|Dd aM<|Zz<|aB<|Rt ?_;exact⟨by simp,rfl⟩
theorem aIh(s t:ByteArray)(H:aH):aI Tryz.prog 122 [sv s,sv t] H (fun r H'=>r=bv (wH s t)/\H'=H):=by
 refine Pu ?_;refine Bd func122 rfl ntmps122<|Sr<|Dd aM<|Zz<|Sq ?_;refine aY (t:=4) (n:=15) (X:=wH s t) ?_ ?_
 ·all_goals refine Dd aE ?_
  all_goals refine Dd (by exact aA rfl rfl call167 rfl (aFd _ _))<|Dm ?_
  all_goals refine Sp 7 (fun h7=>?_) fun h7=>?_
  all_goals try contradiction
  all_goals refine Fo<|Fo<|Fo<|Dd cH<|Dm ?_
  all_goals refine Sp 12 (fun h12=>?_) fun h12=>?_
  all_goals try contradiction
  all_goals refine On aE<|On aE<|On (by exact aFB rfl rfl rfl)<|Dd cH<|Da ?_
  all_goals(exact⟨⟨_,rfl,by rfl⟩,rfl,rfl,rfl⟩)
 exact aB<|Rt<|Qq
def lX:List ByteArray->Bool
 |a::b::r=>!wH b a&&lX (b::r)
 |_=>true
theorem SP(h:lX (a::l)=true):lX l=true:=by
 cases l with
 |nil=>rfl
 |cons b r=>exact(aQN _ _▸h:_/\_).2
theorem FM:∀(i:Nat) {l:List ByteArray},lX l=true->lX (l.drop i)=true
 |0,_,h=>h
 |i+1,[],_=>rfl
 |i+1,a::l,h=>FM i (SP h)
theorem Y0{b:ByteArray}(ha:l[k]?=some a)(hb:l[k+1]?=some b):lX (l.drop k)=(!wH b a&&lX (l.drop (k+1))):=by obtain ⟨h1,e1⟩:=aQI.1 ha;obtain ⟨h2,e2⟩:=aQI.1 hb;rw[List.drop_eq_getElem_cons h1,List.drop_eq_getElem_cons h2,e1,e2];rfl
theorem W7(l:List ByteArray)(H:aH)(hl:l.length<1099511627776):aI Tryz.prog 67 [.pv (aZ l)] H (fun r H'=>r=bv (lX l)/\H'=H):=by
 refine Pu ?_;have hml:(l.map encStr).length=l.length:=aQE _;refine Bd func67 rfl ntmps67<|Sr<|Dd aM<|Zz<|Sq<|Sr<|Dd aE<|Dd (fM aD)<|Dd (by exact dX rfl rfl rfl (show IntKind.i64.wrap (((l.map encStr).length:Int) - 1)=((l.map encStr).length:Int) - 1 by rw[IntKind.wrap_i64];omega))<|Dd aM<|Zz<|aF ?_;refine bJ (σ:=Nat) (fun k=>([(0,.pv (aZ l)),(3,iv ((k:Int) - 1))],[])) (fun k=>k<=l.length/\lX (l.drop (k - 1))=true) (fun k=>k) l.length ⟨aQK _,?_⟩ ?_ ?_
 ·have:(l.drop (l.length - 1)).length<=1:=by rw[aQT];omega
  match l.drop (l.length - 1),this with
  | [],_=>rfl
  | [a],_=>rfl
 ·rw[hml];exact Wk
 rintro k ⟨hk,hs⟩;refine Sq<|Sr<|Dd aE<|Dd iG<|Zz ?_;refine Cn ?_ ?_<;>intro hc1
 ·have hlt:2<=k:=by have:=aQA hc1;omega
  obtain ⟨m,rfl⟩:∃m,k=m+2:=⟨k - 2,by omega⟩;obtain ⟨b,hb⟩:=aU (l:=l) (k:=m+1) (by omega);obtain ⟨a,ha⟩:=aU (l:=l) (k:=m) (by omega);have hib:=cI (f:=encStr) hb;have hia:=cI (f:=encStr) ha;have hat:=Y0 ha hb;rw[show m+2 - 1=m+1 by omega]at hs;rw[hs,Bool.and_true]at hat;refine aC<|Sq<|aF<|Sq<|aO follows<|Cq aE<|Cq aE<|Cq (by exact bH (m:=m+1) rfl cC rfl rfl (by omega) (show (((m+2:Nat):Int) - 1).toNat=m+1 by omega) hib rfl)<|Cq (iN isAgg9)<|Cq aE<|Cq aE<|Cq (by exact dX rfl rfl rfl (show IntKind.i64.wrap ((((m+2:Nat):Int) - 1) - 1)=((m:Nat):Int)by rw[IntKind.wrap_i64];omega))<|Cq (mR cC)<|Cq (iN isAgg9)<|Cq (by exact aA rfl rfl call122 rfl (aIh b a _))<|bM<|Kr ?_;refine Cn ?_ ?_<;>intro hc2
  ·have hlt2:wH b a=true:=hc2;have h0:lX l=false:=by
    rw[Bool.eq_false_iff];intro h;rw[FM m h,hlt2]at hat;cases hat
   rw[h0];exact Sr<|Dd aM<|Zz<|aB<|Rt<|Qq
  have hlt2:wH b a=false:=hc2;refine aC<|Rg<|Dd aE<|Dd (by exact dX rfl rfl rfl (show IntKind.i64.wrap ((((m+2:Nat):Int) - 1) - 1)=((m+1:Nat):Int) - 1 by rw[IntKind.wrap_i64];omega))<|Da ?_;refine⟨m+1,⟨by omega,?_⟩,by omega,?_⟩
  ·rw[show m+1 - 1=m by omega,hat,hlt2];rfl
  exact Wk
 have hge:k<=1:=by have:=aQB hc1;omega
 have h0:lX l=true:=by rw[show k - 1=0 by omega]at hs;exact hs
 rw[h0];exact aW<|Sr<|Dd aM<|Zz<|aB<|Rt<|Qq
abbrev tB(l:List ByteArray):List (List AV):=l.map (fun e=>(encStr e).map .pv)
theorem aMj(l:List ByteArray):∀r∈l.map encStr,r.length=1:=fun r hr=>by
 obtain ⟨t,_,rfl⟩:=List.mem_map.1 hr;rfl
theorem aGM(l:List ByteArray)(H:aH)(hc:eI H)(h1:H.get 901=none)(hl:l.length<1099511627776):
  aI Tryz.prog 69 [.pv (aZ l)] H (fun r H'=>r=.osl 901 1 0 l.length/\H'=(901,⟨1,1,9,tB l⟩)::H):=by
 have hml:(l.map encStr).length=l.length:=aQE _;refine Bd func69 rfl ntmps69<|Sr<|Dd aM<|Zz<|Sq<|Sr<|Dm ?_;refine aMA rfl rfl (ZT rfl aD rfl) ?_;rintro _ H2 ⟨e2,b,rfl,hb⟩;rw[e2];clear e2 H2;refine Zz ?_;refine Cn ?_ ?_<;>intro hc1
 ·have h0:=hb hc1;have h00:l=[]:=List.map_eq_nil_iff.1 h0;subst h00;refine Sr<|Dd (by exact gS (id:=901) (sz:=1) (ty:=9) rfl h1 rfl)<|Zz<|aB ?_;refine dV (H':=((901,⟨1,1,9,[]⟩)::H)) (.inr rfl) rfl (aX rfl) ((Fin.bump (g:=0) (k:=1) rfl rfl (by decide) rfl rfl rfl).trans (Fin.get' (fun j=>xE _ _ _ _ j))) ?_;exact Qq
 refine aC<|Sr<|Dd (by exact fT (id:=901) rfl cC rfl rfl rfl rfl (by simp) h1)<|Dd aE<|Dd (by exact cJ rfl cC xI rfl rfl rfl rfl rfl rfl rfl (aMj l) hml (by omega) (aQW _) (show []++(l.map encStr).map (·.map AV.pv)=tB l by rw[List.nil_append,List.map_map];rfl))<|Dd aM<|Zz<|aB ?_;refine dV (H':=((901,⟨1,1,9,tB l⟩)::H)) (.inr rfl) rfl (aX rfl) (Fin.get' (fun j=>xE _ _ _ _ j)) ?_;exact Qq
theorem QN(n:Int)(H:aH):aI Tryz.prog 127 [.pv (.int .u8 n)] H (fun r H'=>r=bv (sT n)/\H'=H):=by
 refine Pu ?_;refine Bd func127 rfl ntmps127<|Sr<|Dd aM<|Zz<|Sq ?_;refine aY (t:=2) (n:=18) (X:=sT n) ?_ ?_
 ·all_goals refine Dd aE ?_
  all_goals refine Dd D7<|Dm ?_
  all_goals refine Sp 5 (fun h5=>?_) fun h5=>?_
  all_goals try contradiction
  all_goals first|refine Fo<|Fo ?_|refine On aE<|On G9 ?_
  all_goals refine Dd cH<|Dm ?_
  all_goals refine Sp 9 (fun h9=>?_) fun h9=>?_
  all_goals try contradiction
  all_goals first|refine Fo<|Fo<|Fo ?_|refine On aE<|On D7<|On aE ?_
  all_goals(first|refine Sp 12 (fun h12=>?_) fun h12=>?_|refine jW (t:=12) rfl ?_)
  all_goals try contradiction
  all_goals first|refine Fo ?_|refine Fu ?_|refine On aE ?_
  all_goals first|refine Fo ?_|refine Fu ?_|refine On G9 ?_
  all_goals first|refine Fo ?_|refine On cH ?_
  all_goals refine Dd cH<|Da ?_
  all_goals(exact⟨⟨_,rfl,by(simp only[sT, *];rfl)⟩,rfl,rfl,rfl⟩)
 exact aB<|Rt<|Qq
theorem aEd(n:Int)(H:aH):aI Tryz.prog 175 [.pv (.int .u8 n)] H (fun r H'=>r=bv (BG n)/\H'=H):=by
 refine Pu ?_;refine Bd func175 rfl ntmps175<|Sr<|Dd aM<|Zz<|Sq ?_;refine aY (t:=2) (n:=8) (X:=BG n) ?_ ?_
 ·all_goals refine Dd aE ?_
  all_goals refine Dd D7<|Dm ?_
  all_goals refine Sp 5 (fun h5=>?_) fun h5=>?_
  all_goals try contradiction
  all_goals first|refine Fo<|Fo ?_|refine On aE<|On G9 ?_
  all_goals refine Dd cH<|Da ?_
  all_goals(exact⟨⟨_,rfl,by(simp only[BG, *];rfl)⟩,rfl,rfl,rfl⟩)
 exact aB<|Rt<|Qq
def isW(n:Int):Bool:=(sT n||BG n)||decide (n=95)
theorem aHs(n:Int)(H:aH):aI Tryz.prog 126 [.pv (.int .u8 n)] H (fun r H'=>r=bv (isW n)/\H'=H):=by
 refine Pu ?_;refine Bd func126 rfl ntmps126<|Sr<|Dd aM<|Zz<|Sq ?_;refine aY (t:=2) (n:=13) (X:=isW n) ?_ ?_
 ·all_goals refine Dd aE ?_
  all_goals refine Dd (by exact aA rfl rfl call127 rfl (QN n _))<|Dm ?_
  all_goals refine Sp 5 (fun h5=>?_) fun h5=>?_
  all_goals try contradiction
  all_goals first|refine Fo<|Fo ?_|refine On aE<|On (by exact aA rfl rfl call175 rfl (aEd n _)) ?_
  all_goals refine Dd cH<|Dm ?_
  all_goals refine Sp 9 (fun h9=>?_) fun h9=>?_
  all_goals try contradiction
  all_goals first|refine Fo<|Fo ?_|refine On aE<|On cN ?_
  all_goals refine Dd cH<|Da ?_
  all_goals(exact⟨⟨_,rfl,by(simp only[isW, *];rfl)⟩,rfl,rfl,rfl⟩)
 exact aB<|Rt<|Qq
theorem aJK:∀n:Fin 256,(decide (CV (n.val:Int)=3)=sT (n.val:Int))/\(decide (CV (n.val:Int)=4)=BG (n.val:Int))/\(decide (CV (n.val:Int)=5)=decide ((n.val:Int)=95)):=by decide +kernel
theorem aLp(s:ByteArray)(k:Nat):(decide (CV (cR s k)=3)=sT (cR s k))/\(decide (CV (cR s k)=4)=BG (cR s k))/\(decide (CV (cR s k)=5)=decide (cR s k=95)):=by have h:=aJK ⟨(cR s k).toNat,DM s k⟩;simp only[Int.toNat_of_nonneg (DL s k)]at h;exact h
def aJY(s:ByteArray)(k:Nat):Bool:=!isW (cR s k)
def QM(s:ByteArray):Bool:=!((List.range s.size).any (aJY s))&&(decide ((0:Int)<(s.size:Int))&&decide ((s.size:Int)<=24)&&sT (cR s 0))
theorem VP:s=sNil↔s.size=0:=by
 constructor
 ·rintro rfl;rfl
 intro h;exact ByteArray.ext (Array.eq_empty_of_size_eq_zero h)
theorem aEb(s:ByteArray):QM s=bT s:=by
 have hb:∀k,PU s k=(!sT (cR s k)&&(decide ((k:Int)=0)||(!BG (cR s k)&&!decide (cR s k=95)))):=fun k=>by
  obtain ⟨a,b,c⟩:=aLp s k;rw[PU,a,b,c]
 rw[Bool.eq_iff_iff,QM,bT];simp only[aQN,aQX,aQL,aQM,List.any_eq_false,List.mem_range,VP,aJY,hb];constructor
 ·rintro⟨h1,⟨h2,h3⟩,h4⟩;refine⟨fun k hk=>?_,by omega,h3⟩;have:=h1 k hk;by_cases k0:k=0
  ·subst k0;simp[h4]
  have hw:isW (cR s k)=true:=by
   cases e:isW (cR s k)with
   |true=>rfl
   |false=>exact absurd e this
  simp only[isW,Bool.or_eq_true,aQL]at hw;rcases hw with(h|h)|h
  ·simp[h]
  ·simp[h,k0]
  simp[h,k0]
 rintro⟨h1,h2,h3⟩;refine⟨fun k hk=>?_,⟨by omega,h3⟩,?_⟩
 ·have:=h1 k hk;intro hw;apply this;simp only[isW,aQX,aQ0]at hw;simp[hw.1.1,hw.1.2,hw.2]
 have:=h1 0 (by omega);cases hl:sT (cR s 0)with
 |true=>rfl
 |false=>exact absurd (by simp[hl]) this
theorem aEc(s:ByteArray)(H:aH)(hs:s.size<4611686018427387904):aI Tryz.prog 74 [sv s] H (fun r H'=>r=bv (QM s)/\H'=H):=by
 refine Pu ?_;refine Bd func74 rfl ntmps74<|Sr<|Dd aM<|Zz<|Sq<|Sr<|Dd aM<|Zz<|aF ?_;refine bJ (σ:=Nat) (fun k=>([(0,sv s),(3,iv (k:Int))],[])) (fun k=>k<=s.size/\∀j,j<k->aJY s j=false) (fun k=>s.size - k) 0 ⟨by omega,by omega⟩ ?_ ?_
 ·exact E0
 rintro k ⟨hk,hno⟩;refine Sq<|Sr<|Dd aE<|Dd aE<|Dd (kG underlying9)<|Dd cW<|Zz ?_;refine Cn ?_ ?_<;>intro hc1
 ·have hlt:k<s.size:=by have:=aQA hc1;omega
  refine aC<|Sq<|aF<|Sr<|Dd aE<|Dd aE<|Dd (by exact dK rfl underlying9 rfl rfl (by omega) (by exact aQP _) (by omega) rfl)<|Dd (by exact aA rfl rfl call126 rfl (aHs (cR s k) _))<|Dd iS<|Zz ?_;refine Cn ?_ ?_<;>intro hc2
  ·have hb:aJY s k=true:=hc2;refine Sr<|Dd aM<|Zz<|aB<|Rt ?_;exact⟨by rw[QM,uZ hlt hb];rfl,rfl⟩
  refine aC<|Rg<|Dd aE<|Dd mV<|Da ?_;refine⟨k+1,⟨by omega,fun j hj=>?_⟩,by omega,E0⟩;by_cases e:j=k
  ·subst e;exact hc2
  exact hno j (by omega)
 have hge:k=s.size:=by have:=aQB hc1;omega
 have hr:QM s=(decide ((0:Int)<(s.size:Int))&&decide ((s.size:Int)<=24)&&sT (cR s 0)):=by
  subst hge;rw[QM,yS hno];rfl
 rw[hr];clear hr;by_cases h0:(0:Int)<(s.size:Int)
 ·have d0:=decide_eq_true h0;have h00:0<s.size:=by omega
  rw[d0,Bool.true_and];by_cases h24:(s.size:Int)<=24
  ·have d1:=decide_eq_true h24;rw[d1,Bool.true_and];exact aW<|Sr<|Dd aE<|Dd (kG underlying9)<|Dd iG<|Dd aE<|Oa aE<|Oa (kG underlying9)<|Oa G9<|Dd yT<|Dd aE<|Oa aE<|Oa (by exact dK rfl underlying9 rfl rfl (by omega) (by exact aQP _) (by omega) rfl)<|Oa (by exact aA rfl rfl call127 rfl (QN (cR s 0) _))<|Dd yT<|Dd aM<|Zz<|aB<|Rt<|Qq
  have d1:=decide_eq_false h24;rw[d1];exact aW<|Sr<|Dd aE<|Dd (kG underlying9)<|Dd iG<|Dd aE<|Oa aE<|Oa (kG underlying9)<|Oa G9<|Dd yT<|Dd aE<|Fa<|Fa<|Fa<|Dd oU<|Dd aM<|Zz<|aB<|Rt<|Qq
 have d0:=decide_eq_false h0;rw[d0];exact aW<|Sr<|Dd aE<|Dd (kG underlying9)<|Dd iG<|Dd aE<|Fa<|Fa<|Fa<|Dd oU<|Dd aE<|Fo<|Fo<|Fo<|Dd cH<|Dd aM<|Zz<|aB<|Rt<|Qq
theorem kB(s:ByteArray)(H:aH)(hs:s.size<4611686018427387904):aI Tryz.prog 74 [sv s] H (fun r H'=>r=bv (bT s)/\H'=H):=by rw[<-aEb];exact aEc s H hs
theorem aE9(x y:Int)(H:aH):aI Tryz.prog 129 [.agg [iv x,iv y]] H (fun r H'=>r=bv (TZ x y)/\H'=H):=by
 refine Pu ?_;refine Bd func129 rfl ntmps129<|Sr<|Dd (by exact cF (id:=1) rfl rfl rfl rfl rfl)<|Dd aM<|Zz<|Sq ?_;refine aY (t:=2) (n:=22) (X:=TZ x y) ?_ ?_
 ·all_goals refine Dd (aT pR) ?_
  all_goals refine Dd (bF isAgg3)<|Dd D7<|Dm ?_
  all_goals refine Sp 6 (fun h6=>?_) fun h6=>?_
  all_goals try contradiction
  all_goals first|refine Fo<|Fo<|Fo ?_|refine On (aT pR)<|On (bF isAgg3)<|On cW ?_
  all_goals refine Dd cH<|Dm ?_
  all_goals refine Sp 11 (fun h11=>?_) fun h11=>?_
  all_goals try contradiction
  all_goals first|refine Fo<|Fo<|Fo ?_|refine On (aT pQ)<|On (bF isAgg3)<|On D7 ?_
  all_goals refine Dd cH<|Dm ?_
  all_goals refine Sp 16 (fun h16=>?_) fun h16=>?_
  all_goals try contradiction
  all_goals first|refine Fo<|Fo<|Fo ?_|refine On (aT pQ)<|On (bF isAgg3)<|On cW ?_
  all_goals refine Dd cH<|Da ?_
  all_goals(exact⟨⟨_,rfl,by(simp only[TZ, *];rfl)⟩,rfl,rfl,rfl⟩)
 exact aB<|Rt<|Qq
theorem aCX{n:Nat}(h0:1<=n)(h1:n<=5):[encStr sNil,encStr ⟨#[110,111,100,101]⟩,encStr ⟨#[119,97,121]⟩,encStr ⟨#[97,114,101,97]⟩,encStr ⟨#[114,111,117,116,101]⟩,encStr ⟨#[116,117,114,110]⟩][n]?=some (encStr (eP (n:Int))):=by
 match n,h0,h1 with
 |1,_,_=>rfl
 |2,_,_=>rfl
 |3,_,_=>rfl
 |4,_,_=>rfl
 |5,_,_=>rfl
 |n+6,_,h=>exact absurd h (by omega)
theorem HP(k:Int)(H:aH):aI Tryz.prog 205 [iv k] H (fun r H'=>r=sv (eP k)/\H'=H):=by
 refine Pu ?_;refine Bd func205 rfl ntmps205<|Sr<|Dd aM<|Zz<|Sr<|Dd (by exact aQ [encStr sNil,encStr ⟨#[110,111,100,101]⟩,encStr ⟨#[119,97,121]⟩,encStr ⟨#[97,114,101,97]⟩,encStr ⟨#[114,111,117,116,101]⟩,encStr ⟨#[116,117,114,110]⟩] rfl cC rfl rfl rfl rfl rfl (by simp[encStr]))<|Dd aM<|Zz<|Sq<|Sq ?_;refine aY (t:=10) (n:=7) (X:=decide (k<1)||decide (5<k)) ?_ ?_
 ·all_goals refine Dd aE ?_
  all_goals refine Dd cW<|Dm ?_
  all_goals refine Sp 7 (fun h7=>?_) fun h7=>?_
  all_goals try contradiction
  all_goals first|refine Fo<|Fo ?_|refine On aE<|On iG ?_
  all_goals refine Dd cH<|Zz ?_
  all_goals(exact⟨⟨_,rfl,by(simp only[*,Zo];done)⟩,rfl,rfl,rfl⟩)
 refine Cn ?_ ?_<;>intro hc1
 ·have hn:¬ (k=1)/\¬ (k=2)/\¬ (k=3)/\¬ (k=4)/\¬ (k=5):=by
   simp only[Bool.or_eq_true,aQL]at hc1;omega
  refine Sr<|Dd aM<|Zz<|aB<|Rt ?_;exact⟨by simp only[eP,hn.1,hn.2.1,hn.2.2.1,hn.2.2.2.1,hn.2.2.2.2,if_false],rfl⟩
 obtain ⟨n,rfl⟩:∃n:Nat,k=(n:Int):=⟨k.toNat,by simp only[aQ0,aQM]at hc1;omega⟩;have hb:1<=n/\n<=5:=by
  simp only[aQ0,aQM]at hc1;omega
 have hi:=aCX hb.1 hb.2;exact aC<|Sr<|Dd aE<|Dd aE<|Dd (mR cC)<|Dd (iN isAgg9)<|Dd aM<|Zz<|aB<|Rt<|Qq
theorem aDU(l:List GTag)(k:Nat)(t pt:GTag)(hp:0<k->l[k - 1]?=some pt):(((!bT t.key||decide ((t.val.size:Int)<1))||decide (200<(t.val.size:Int)))||(decide ((0:Int)<(k:Int))&&!wH pt.key t.key))=A7 (iQ GTag.key l k) t:=by
 have hv:decide ((t.val.size:Int)<1)=decide (t.val=sNil):=decide_eq_decide.2 (by rw[VP];omega);rw[hv,A7];cases hg:bT t.key with
 |false=>simp
 | true =>
  have hs:sle t.key (iQ GTag.key l k)=(decide ((0:Int)<(k:Int))&&!wH pt.key t.key):=by
   cases k with
   | zero =>
    have:wH sNil t.key=true:=by
     cases e:wH sNil t.key with
     |true=>rfl
     |false=>exact absurd (KM (aAu _) e) (NO hg)
    rw[iQ,KO.2 this];rfl
   | succ k =>
    have h:=hp (by omega);rw[show k+1 - 1=k from rfl]at h;rw[xJ h,decide_eq_true (show (0:Int)<((k+1:Nat):Int)by omega),Bool.true_and];cases e:wH pt.key t.key with
    |true=>rw[KO.2 e];rfl
    |false =>
     cases e2:sle t.key pt.key with
     |true=>rfl
     |false=>rw[KO]at e2;rw[e]at e2;cases e2
  rw[<-hs];cases sle t.key (iQ GTag.key l k)<;>cases decide (t.val=sNil)<;>cases decide (200<(t.val.size:Int))<;>rfl
theorem aBH(l:List GTag)(H:aH)(hl:HW l):aI Tryz.prog 254 [.pv (rR l)] H (fun r H'=>r=bv (qY l)/\H'=H):=by
 refine Pu ?_;obtain ⟨hl,hks⟩:=hl;have hml:(l.map bQ).length=l.length:=aQE _;refine Bd func254 rfl ntmps254<|Sr<|Dd aM<|Zz<|Sq<|Sr<|Dd aE<|Dd (fM cZ)<|Dd iG<|Zz ?_;refine Cn ?_ ?_<;>intro hc1
 ·have h60:decide ((l.length:Int)<=60)=false:=by
   have:=aQA hc1;exact decide_eq_false (by omega)
  refine Sr<|Dd aM<|Zz<|aB<|Rt ?_;exact⟨by rw[qY,h60,Bool.and_false],rfl⟩
 have h60:decide ((l.length:Int)<=60)=true:=by
  have:=aQB hc1;exact decide_eq_true (by omega)
 rw[qY,h60,Bool.and_true];refine aC<|Sq<|Sr<|Dd aM<|Zz<|aF ?_;refine bJ (σ:=Nat) (fun k=>([(0,.pv (rR l)),(3,iv (k:Int))],[])) (fun k=>k<=l.length/\∀j,j<k->N8 A7 GTag.key l j=false) (fun k=>l.length - k) 0 ⟨by omega,by omega⟩ ?_ ?_
 ·exact E0
 rintro k ⟨hk,hno⟩;refine Sq<|Sr<|Dd aE<|Dd aE<|Dd (fM cZ)<|Dd cW<|Zz ?_;refine Cn ?_ ?_<;>intro hc2
 ·have hlt:k<l.length:=by have:=aQA hc2;omega
  obtain ⟨t,ht⟩:=aU hlt;have hi:=cI (f:=bQ) ht;have hkt:=hks t (aQO ht);obtain ⟨pt,hp⟩:∃pt,0<k->l[k - 1]?=some pt:=by
   by_cases k0:0<k
   ·obtain ⟨pt,hp⟩:=aU (l:=l) (k:=k - 1) (by omega);exact⟨pt,fun _=>hp⟩
   exact⟨t,fun h=>absurd h k0⟩
  have hpv:0<k->(l.map bQ)[k - 1]?=some (bQ pt):=fun h=>cI (f:=bQ) (hp h);have hbe:=aDU l k t pt hp;refine aC<|Sq<|aF<|Sq ?_;refine nY (t:=55) (n:=43) (X:=((!bT t.key||decide ((t.val.size:Int)<1))||decide (200<(t.val.size:Int)))||(decide ((0:Int)<(k:Int))&&!wH pt.key t.key)) ?_ ?_
  ·cases hg20:(!bT t.key:Bool)
   ·cases hg29:(decide ((t.val.size:Int)<1):Bool)
    ·cases hg38:(decide (200<(t.val.size:Int)):Bool)
     ·cases hg41:(decide ((0:Int)<(k:Int)):Bool)
      ·refine aO follows<|Cq aE<|Cq aE<|Cq (mR kH)<|Cq (NS nG)<|Cq (iN isAgg9)<|Cq (by exact aA rfl rfl fX rfl (kB t.key _ hkt.1))<|Cq iS<|Cq aE<|Nf aE<|Nf aE<|Nf (mR kH)<|Nf (NS oF)<|Nf (iN isAgg9)<|Nf (kG underlying9)<|Nf cW<|Cq oU<|Cq aE<|Nf aE<|Nf aE<|Nf (mR kH)<|Nf (NS oF)<|Nf (iN isAgg9)<|Nf (kG underlying9)<|Nf iG<|Cq oU<|Cq aE<|Nf aE<|Nf iG<|Nf aE<|Ot<|Ot<|Ot<|Ot<|Ot<|Ot<|Ot<|Ot<|Ot<|Ot<|Ot<|Ot<|Nf oU<|Cq oU<|bM<|Kr ?_;exact⟨rfl,⟨_,rfl,by rfl⟩,rfl,rfl,rfl⟩
      refine aO follows<|Cq aE<|Cq aE<|Cq (mR kH)<|Cq (NS nG)<|Cq (iN isAgg9)<|Cq (by exact aA rfl rfl fX rfl (kB t.key _ hkt.1))<|Cq iS<|Cq aE<|Nf aE<|Nf aE<|Nf (mR kH)<|Nf (NS oF)<|Nf (iN isAgg9)<|Nf (kG underlying9)<|Nf cW<|Cq oU<|Cq aE<|Nf aE<|Nf aE<|Nf (mR kH)<|Nf (NS oF)<|Nf (iN isAgg9)<|Nf (kG underlying9)<|Nf iG<|Cq oU<|Cq aE<|Nf aE<|Nf iG<|Nf aE<|Nt aE<|Nt aE<|Nt (by exact dX rfl rfl rfl (by exact jM (by omega) (by omega)))<|Nt (by exact bH rfl kH rfl rfl (by have:=aQA hg41;omega) (show ((k:Int) - 1).toNat=k - 1 by omega) (hpv (by have:=aQA hg41;omega)) rfl)<|Nt (NS nG)<|Nt (by exact oW rfl isAgg9 rfl (hpv (by have:=aQA hg41;omega)) rfl)<|Nt aE<|Nt aE<|Nt (mR kH)<|Nt (NS nG)<|Nt (iN isAgg9) ?_;refine Nt (by exact WN rfl rfl rfl)<|Nf yT<|Cq oU<|bM<|Kr ?_;exact⟨rfl,⟨_,rfl,by rfl⟩,rfl,rfl,rfl⟩
     refine aO follows<|Cq aE<|Cq aE<|Cq (mR kH)<|Cq (NS nG)<|Cq (iN isAgg9)<|Cq (by exact aA rfl rfl fX rfl (kB t.key _ hkt.1))<|Cq iS<|Cq aE<|Nf aE<|Nf aE<|Nf (mR kH)<|Nf (NS oF)<|Nf (iN isAgg9)<|Nf (kG underlying9)<|Nf cW<|Cq oU<|Cq aE<|Nf aE<|Nf aE<|Nf (mR kH)<|Nf (NS oF)<|Nf (iN isAgg9)<|Nf (kG underlying9)<|Nf iG<|Cq oU<|Cq aE<|Of<|Of<|Of<|Ou<|Ou<|Ou<|Ou<|Ou<|Ou<|Ou<|Ou<|Ou<|Ou<|Ou<|Ou<|Of<|Cq yT<|bM<|Kr ?_;exact⟨rfl,⟨_,rfl,by rfl⟩,rfl,rfl,rfl⟩
    refine aO follows<|Cq aE<|Cq aE<|Cq (mR kH)<|Cq (NS nG)<|Cq (iN isAgg9)<|Cq (by exact aA rfl rfl fX rfl (kB t.key _ hkt.1))<|Cq iS<|Cq aE<|Nf aE<|Nf aE<|Nf (mR kH)<|Nf (NS oF)<|Nf (iN isAgg9)<|Nf (kG underlying9)<|Nf cW<|Cq oU<|Cq aE<|Of<|Of<|Of<|Of<|Of<|Of<|Of<|Cq yT<|Cq aE<|Of<|Of<|Of<|Ou<|Ou<|Ou<|Ou<|Ou<|Ou<|Ou<|Ou<|Ou<|Ou<|Ou<|Ou<|Of<|Cq cH<|bM<|Kr ?_;exact⟨rfl,⟨_,rfl,by rfl⟩,rfl,rfl,rfl⟩
   refine aO follows<|Cq aE<|Cq aE<|Cq (mR kH)<|Cq (NS nG)<|Cq (iN isAgg9)<|Cq (by exact aA rfl rfl fX rfl (kB t.key _ hkt.1))<|Cq iS<|Cq aE<|Of<|Of<|Of<|Of<|Of<|Of<|Of<|Cq yT<|Cq aE<|Of<|Of<|Of<|Of<|Of<|Of<|Of<|Cq cH<|Cq aE<|Of<|Of<|Of<|Ou<|Ou<|Ou<|Ou<|Ou<|Ou<|Ou<|Ou<|Ou<|Ou<|Ou<|Ou<|Of<|Cq cH<|bM<|Kr ?_;exact⟨rfl,⟨_,rfl,by rfl⟩,rfl,rfl,rfl⟩
  refine Cn ?_ ?_<;>intro hc3
  ·rw[hbe]at hc3;refine Sr<|Dd aM<|Zz<|aB<|Rt ?_;exact⟨by rw[uZ hlt ((A8 ht).trans hc3)];rfl,rfl⟩
  rw[hbe]at hc3;refine aC<|Rg<|Dd aE<|Dd mV<|Da ?_;refine⟨k+1,⟨by omega,fun j hj=>?_⟩,by omega,E0⟩;by_cases e:j=k
  ·subst e;exact(A8 ht).trans hc3
  exact hno j (by omega)
 have hge:k=l.length:=by have:=aQB hc2;omega
 subst hge;refine aW<|Sr<|Dd aM<|Zz<|aB<|Rt ?_;exact⟨by rw[yS hno];rfl,rfl⟩
theorem aDs(o:GObj)(k:Nat)(s p:ByteArray)(hp:0<k->o.refs[k - 1]?=some p):
  ((!bT s||((decide (o.kind=2)&&decide ((0:Int)<(k:Int)))&&decide (p=s)))||(decide (o.kind=3)&&inB (yO o.refs k) s))=IJ o (iQ id o.refs k) (yO o.refs k) s:=by
 rw[IJ,NM];cases hg:bT s with
 |false=>simp
 | true =>
  have hs:(decide ((0:Int)<(k:Int))&&decide (p=s))=decide (s=iQ id o.refs k):=by
   cases k with
   |zero=>rw[iQ,decide_eq_false (NO hg)];rfl
   |succ k =>
    have h:=hp (by omega);rw[show k+1 - 1=k from rfl]at h;rw[xJ h,decide_eq_true (show (0:Int)<((k+1:Nat):Int)by omega),Bool.true_and];exact decide_eq_decide.2 eq_comm
  rw[<-hs];simp[Bool.and_assoc]
theorem aEY(h:l[k]?=some s):yO l (k+1)=LX (yO l k) s:=by rw[yO,h];rfl
def aLa(k n:Int):Bool:=if k=1 then decide (n=0)else if k=2 then decide (2<=n)else if k=3 then decide (3<=n)else if k=4 then decide (1<=n)else decide (n=3)
def MO(o:GObj):Bool:=(decide ((o.refs.length:Int)<=2000)&&!((List.range o.refs.length).any (qL o)))&&aLa o.kind (o.refs.length:Int)
theorem aBJ(o:GObj)(H:aH)(ho:okO o):aI Tryz.prog 255 [av (bW o)] H (fun r H'=>r=bv (MO o)/\H'=H):=by
 refine Pu ?_;obtain ⟨h1,h2,h3,h4⟩:=ho;have hml:(o.refs.map encStr).length=o.refs.length:=aQE _;refine Bd func255 rfl ntmps255<|Sr<|Dd (by exact cF (id:=1) rfl rfl rfl rfl rfl)<|Dd aM<|Zz<|Sr<|Dd (aT dT)<|Dd (bF aG)<|Dd (fM aD)<|Dd aM<|Zz<|Sq<|Sr<|Dd aE<|Dd iG<|Zz ?_;refine Cn ?_ ?_<;>intro hc1
 ·have hb:decide ((o.refs.length:Int)<=2000)=false:=by
   have:=aQA hc1;exact decide_eq_false (by omega)
  refine Sr<|Dd aM<|Zz<|aB<|Rt ?_;exact⟨by rw[MO,hb];rfl,rfl⟩
 have hb:decide ((o.refs.length:Int)<=2000)=true:=by
  have:=aQB hc1;exact decide_eq_true (by omega)
 rw[MO,hb,Bool.true_and];refine aC<|Sr<|Dd (by exact CA (id:=11) aCI rfl rfl)<|Dd aM<|Zz<|Sq<|Sr<|Dd aM<|Zz<|aF ?_;refine bJ (σ:=Nat) (fun k=>([(1,.ref 1 0 0 0),(3,iv ((o.refs.map encStr).length:Int)),(4,.mp 11 0),(5,iv (k:Int))],[(11,sob (yO o.refs k)),(1,bx 6 151 ((bW o).map .pv))])) (fun k=>k<=o.refs.length/\∀j,j<k->qL o j=false) (fun k=>o.refs.length - k) 0 ⟨by omega,by omega⟩ ?_ ?_
 ·exact(cX.wk (Ea<|Eb<|Ea<|Eb<|trivial) (Hc (KL _ _)<|Hb<|trivial) trivial)
 rintro k ⟨hk,hno⟩;refine Sq<|Sr<|Dd aE<|Dd aE<|Dd cW<|Zz ?_;refine Cn ?_ ?_<;>intro hc2
 ·have hlt:k<o.refs.length:=by have:=aQA hc2;omega
  obtain ⟨s,hs⟩:=aU hlt;have hi:=cI (f:=encStr) hs;obtain ⟨p,hp⟩:∃p,0<k->o.refs[k - 1]?=some p:=by
   by_cases k0:0<k
   ·obtain ⟨p,hp⟩:=aU (l:=o.refs) (k:=k - 1) (by omega);exact⟨p,fun _=>hp⟩
   exact⟨s,fun h=>absurd h k0⟩
  have hpv:0<k->(o.refs.map encStr)[k - 1]?=some (encStr p):=fun h=>cI (f:=encStr) (hp h);have hbe:=aDs o k s p hp;have hw:qL o k=IJ o (iQ id o.refs k) (yO o.refs k) s:=by rw[qL,hs]
  have hse:=aEY hs;refine aC<|Sq<|aF<|Sq<|Sq ?_;refine nY (t:=60) (n:=44) (X:=(!bT s||((decide (o.kind=2)&&decide ((0:Int)<(k:Int)))&&decide (p=s)))||(decide (o.kind=3)&&inB (yO o.refs k) s)) ?_ ?_
  ·cases hg24:(!bT s:Bool)
   ·cases hg28:(decide (o.kind=2):Bool)
    ·cases hg51:(decide (o.kind=3):Bool)
     ·refine aO follows<|Cq (aT dT)<|Cq (bF aG)<|Cq aE<|Cq (mR cC)<|Cq (iN isAgg9)<|Cq (by exact aA rfl rfl fX rfl (kB s _ (h4 s (aQO hs))))<|Cq iS<|Cq aE<|Nf (aT eB)<|Nf (bF isAgg3)<|Nf cN<|Nf aE<|Ot<|Ot<|Nf oU<|Nf aE<|Ot<|Ot<|Ot<|Ot<|Ot<|Ot<|Ot<|Ot<|Ot<|Ot<|Ot<|Ot<|Nf cH<|Cq oU<|Cq aE<|Nf (aT eB)<|Nf (bF isAgg3)<|Nf cN<|Nf aE<|Ot<|Ot<|Ot<|Ot<|Ot<|Ot<|Ot<|Nf oU<|Cq cH<|bM<|Kr ?_;exact⟨rfl,⟨_,rfl,by rfl⟩,rfl,rfl,rfl⟩
     refine aO follows<|Cq (aT dT)<|Cq (bF aG)<|Cq aE<|Cq (mR cC)<|Cq (iN isAgg9)<|Cq (by exact aA rfl rfl fX rfl (kB s _ (h4 s (aQO hs))))<|Cq iS<|Cq aE<|Nf (aT eB)<|Nf (bF isAgg3)<|Nf cN<|Nf aE<|Ot<|Ot<|Nf oU<|Nf aE<|Ot<|Ot<|Ot<|Ot<|Ot<|Ot<|Ot<|Ot<|Ot<|Ot<|Ot<|Ot<|Nf cH<|Cq oU<|Cq aE<|Nf (aT eB)<|Nf (bF isAgg3)<|Nf cN<|Nf aE<|Nt aE<|Nt (aT dT)<|Nt (bF aG)<|Nt aE<|Nt (mR cC)<|Nt (iN isAgg9)<|Nt (by exact tQ rfl pS underlying9 rfl rfl rfl rfl rfl nI (.inl rfl))<|Nf yT<|Cq cH<|bM<|Kr ?_;exact⟨rfl,⟨_,rfl,by rfl⟩,rfl,rfl,rfl⟩
    cases hg32:(decide ((0:Int)<(k:Int)):Bool)
    ·cases hg51:(decide (o.kind=3):Bool)
     ·refine aO follows<|Cq (aT dT)<|Cq (bF aG)<|Cq aE<|Cq (mR cC)<|Cq (iN isAgg9)<|Cq (by exact aA rfl rfl fX rfl (kB s _ (h4 s (aQO hs))))<|Cq iS<|Cq aE<|Nf (aT eB)<|Nf (bF isAgg3)<|Nf cN<|Nf aE<|Nt aE<|Nt iG<|Nf yT<|Nf aE<|Ot<|Ot<|Ot<|Ot<|Ot<|Ot<|Ot<|Ot<|Ot<|Ot<|Ot<|Ot<|Nf oU<|Cq oU<|Cq aE<|Nf (aT eB)<|Nf (bF isAgg3)<|Nf cN<|Nf aE<|Ot<|Ot<|Ot<|Ot<|Ot<|Ot<|Ot<|Nf oU<|Cq cH<|bM<|Kr ?_;exact⟨rfl,⟨_,rfl,by rfl⟩,rfl,rfl,rfl⟩
     refine aO follows<|Cq (aT dT)<|Cq (bF aG)<|Cq aE<|Cq (mR cC)<|Cq (iN isAgg9)<|Cq (by exact aA rfl rfl fX rfl (kB s _ (h4 s (aQO hs))))<|Cq iS<|Cq aE<|Nf (aT eB)<|Nf (bF isAgg3)<|Nf cN<|Nf aE<|Nt aE<|Nt iG<|Nf yT<|Nf aE<|Ot<|Ot<|Ot<|Ot<|Ot<|Ot<|Ot<|Ot<|Ot<|Ot<|Ot<|Ot<|Nf oU<|Cq oU<|Cq aE<|Nf (aT eB)<|Nf (bF isAgg3)<|Nf cN<|Nf aE<|Nt aE<|Nt (aT dT)<|Nt (bF aG)<|Nt aE<|Nt (mR cC)<|Nt (iN isAgg9)<|Nt (by exact tQ rfl pS underlying9 rfl rfl rfl rfl rfl nI (.inl rfl))<|Nf yT<|Cq cH<|bM<|Kr ?_;exact⟨rfl,⟨_,rfl,by rfl⟩,rfl,rfl,rfl⟩
    cases hg47:(decide (p=s):Bool)
    ·cases hg51:(decide (o.kind=3):Bool)
     ·refine aO follows<|Cq (aT dT)<|Cq (bF aG)<|Cq aE<|Cq (mR cC)<|Cq (iN isAgg9)<|Cq (by exact aA rfl rfl fX rfl (kB s _ (h4 s (aQO hs))))<|Cq iS<|Cq aE<|Nf (aT eB)<|Nf (bF isAgg3)<|Nf cN<|Nf aE<|Nt aE<|Nt iG<|Nf yT<|Nf aE<|Nt (aT dT)<|Nt (bF aG)<|Nt aE<|Nt (by exact dX rfl rfl rfl (by exact jM (by omega) (by omega)))<|Nt (by exact bH rfl cC rfl rfl (by have:=aQA hg32;omega) (show ((k:Int) - 1).toNat=k - 1 by omega) (hpv (by have:=aQA hg32;omega)) rfl)<|Nt (by exact oW rfl isAgg9 rfl (hpv (by have:=aQA hg32;omega)) rfl)<|Nt (aT dT)<|Nt (bF aG)<|Nt aE<|Nt (mR cC)<|Nt (iN isAgg9)<|Nt AG<|Nf yT<|Cq oU<|Cq aE<|Nf (aT eB)<|Nf (bF isAgg3)<|Nf cN<|Nf aE<|Ot<|Ot<|Ot<|Ot ?_;refine Ot<|Ot<|Ot<|Nf oU<|Cq oU<|bM<|Kr ?_;exact⟨rfl,⟨_,rfl,by rfl⟩,rfl,rfl,rfl⟩
     refine aO follows<|Cq (aT dT)<|Cq (bF aG)<|Cq aE<|Cq (mR cC)<|Cq (iN isAgg9)<|Cq (by exact aA rfl rfl fX rfl (kB s _ (h4 s (aQO hs))))<|Cq iS<|Cq aE<|Nf (aT eB)<|Nf (bF isAgg3)<|Nf cN<|Nf aE<|Nt aE<|Nt iG<|Nf yT<|Nf aE<|Nt (aT dT)<|Nt (bF aG)<|Nt aE<|Nt (by exact dX rfl rfl rfl (by exact jM (by omega) (by omega)))<|Nt (by exact bH rfl cC rfl rfl (by have:=aQA hg32;omega) (show ((k:Int) - 1).toNat=k - 1 by omega) (hpv (by have:=aQA hg32;omega)) rfl)<|Nt (by exact oW rfl isAgg9 rfl (hpv (by have:=aQA hg32;omega)) rfl)<|Nt (aT dT)<|Nt (bF aG)<|Nt aE<|Nt (mR cC)<|Nt (iN isAgg9)<|Nt AG<|Nf yT<|Cq oU<|Cq aE<|Nf (aT eB)<|Nf (bF isAgg3)<|Nf cN<|Nf aE<|Nt aE<|Nt (aT dT) ?_;refine Nt (bF aG)<|Nt aE<|Nt (mR cC)<|Nt (iN isAgg9)<|Nt (by exact tQ rfl pS underlying9 rfl rfl rfl rfl rfl nI (.inl rfl))<|Nf yT<|Cq oU<|bM<|Kr ?_;exact⟨rfl,⟨_,rfl,by rfl⟩,rfl,rfl,rfl⟩
    refine aO follows<|Cq (aT dT)<|Cq (bF aG)<|Cq aE<|Cq (mR cC)<|Cq (iN isAgg9)<|Cq (by exact aA rfl rfl fX rfl (kB s _ (h4 s (aQO hs))))<|Cq iS<|Cq aE<|Nf (aT eB)<|Nf (bF isAgg3)<|Nf cN<|Nf aE<|Nt aE<|Nt iG<|Nf yT<|Nf aE<|Nt (aT dT)<|Nt (bF aG)<|Nt aE<|Nt (by exact dX rfl rfl rfl (by exact jM (by omega) (by omega)))<|Nt (by exact bH rfl cC rfl rfl (by have:=aQA hg32;omega) (show ((k:Int) - 1).toNat=k - 1 by omega) (hpv (by have:=aQA hg32;omega)) rfl)<|Nt (by exact oW rfl isAgg9 rfl (hpv (by have:=aQA hg32;omega)) rfl)<|Nt (aT dT)<|Nt (bF aG)<|Nt aE<|Nt (mR cC)<|Nt (iN isAgg9)<|Nt AG<|Nf yT<|Cq oU<|Cq aE<|Of<|Of<|Of<|Of<|Ou<|Ou<|Ou<|Ou<|Ou<|Ou<|Ou<|Of<|Cq yT<|bM<|Kr ?_;exact⟨rfl,⟨_,rfl,by rfl⟩,rfl,rfl,rfl⟩
   refine aO follows<|Cq (aT dT)<|Cq (bF aG)<|Cq aE<|Cq (mR cC)<|Cq (iN isAgg9)<|Cq (by exact aA rfl rfl fX rfl (kB s _ (h4 s (aQO hs))))<|Cq iS<|Cq aE<|Of<|Of<|Of<|Of<|Ou<|Ou<|Of<|Of<|Ou<|Ou<|Ou<|Ou<|Ou<|Ou<|Ou<|Ou<|Ou<|Ou<|Ou<|Ou<|Of<|Cq yT<|Cq aE<|Of<|Of<|Of<|Of<|Ou<|Ou<|Ou<|Ou<|Ou<|Ou<|Ou<|Of<|Cq cH<|bM<|Kr ?_;exact⟨rfl,⟨_,rfl,by rfl⟩,rfl,rfl,rfl⟩
  refine Cn ?_ ?_<;>intro hc3
  ·rw[hbe,<-hw]at hc3;refine Sr<|Dd aM<|Zz<|aB<|Rt ?_;exact⟨by rw[uZ hlt hc3];rfl,rfl⟩
  rw[hbe,<-hw]at hc3;refine aC<|Rg<|Dd aE<|Dd (aT dT)<|Dd (bF aG)<|Dd aE<|Dd (mR cC)<|Dd (iN isAgg9)<|Uu (by exact PY (.inl rfl) pS underlying9 rfl rfl rfl rfl rfl rfl rfl)<|Zz<|Rg<|Dd aE<|Dd mV<|Da ?_;refine⟨k+1,⟨by omega,fun j hj=>?_⟩,by omega,?_⟩
  ·by_cases e:j=k
   ·subst e;exact hc3
   exact hno j (by omega)
  rw[hse];exact(cX.wk (Ea<|Eb<|Ea<|Eb<|trivial) (Hc (KL _ _)<|Hb<|trivial) trivial)
 have hge:k=o.refs.length:=by have:=aQB hc2;omega
 subst hge;rw[yS hno,Bool.not_false,Bool.true_and,aLa,<-hml];refine aW<|Sq<|Sr<|Dd (aT eB)<|Dd (bF isAgg3)<|Zz<|aF<|Sr<|Dd cN<|Da ?_;refine Cn ?_ ?_<;>intro hc4
 ·rw[aQD (aQA hc4)];exact Sr<|Dd aE<|Dd cN<|Dd aM<|Zz<|aB<|Rt<|Qq
 rw[aQC (aQB hc4)];refine Sr<|Dd cN<|Da ?_;refine Cn ?_ ?_<;>intro hc5
 ·rw[aQD (aQA hc5)];exact Sr<|Dd aE<|Dd D7<|Dd aM<|Zz<|aB<|Rt<|Qq
 rw[aQC (aQB hc5)];refine Sr<|Dd cN<|Da ?_;refine Cn ?_ ?_<;>intro hc6
 ·rw[aQD (aQA hc6)];exact Sr<|Dd aE<|Dd D7<|Dd aM<|Zz<|aB<|Rt<|Qq
 rw[aQC (aQB hc6)];refine Sr<|Dd cN<|Da ?_;refine Cn ?_ ?_<;>intro hc7
 ·rw[aQD (aQA hc7)];exact Sr<|Dd aE<|Dd D7<|Dd aM<|Zz<|aB<|Rt<|Qq
 rw[aQC (aQB hc7)];exact aC<|Sr<|Dd aE<|Dd cN<|Dd aM<|Zz<|aB<|Rt<|Qq
def atO(o:GObj):Bool:=if o.kind=1 then TZ o.x o.y else(decide (o.x=0)&&decide (o.y=0))
theorem aHt(o:GObj):((((bT o.id&&!decide (eP o.kind=sNil))&&atO o)&&qY o.tags)&&MO o)=lV o:=by
 cases hw:decide (eP o.kind=sNil)with
 |true=>simp[lV,JU,tE,hw]
 |false =>
  have hk:=yK hw;have hk0:¬ o.kind=0:=fun e=>by rw[e]at hw;simp[eP]at hw
  simp only[lV,JU,tE,hw,MO,atO,NP,aLa,CL];generalize bT o.id=a;generalize qY o.tags=b;generalize (List.range o.refs.length).any (qL o)=w;generalize TZ o.x o.y=c;generalize (decide (o.x=0)&&decide (o.y=0))=d;generalize (o.refs.length:Int)=n;generalize o.kind=k at *;rcases(by omega:k=1\/k=2\/k=3\/k=4\/k=5)with rfl|rfl|rfl|rfl|rfl<;>cases a<;>cases b<;>cases w<;>cases c<;>cases d<;>rw[Bool.eq_iff_iff]<;>simp<;>omega
theorem aEa(o:GObj)(H:aH)(ho:okO o):aI Tryz.prog 220 [av (bW o)] H (fun r H'=>r=bv (lV o)/\H'=H):=by
 refine Pu ?_;rw[<-aHt];refine Bd func220 rfl ntmps220<|Sr<|Dd (by exact cF (id:=1) rfl rfl rfl rfl rfl)<|Dd aM<|Zz<|Sr<|Dd (aT mI)<|Dd (by exact aN rfl dS sizeOf68 rfl rfl rfl rfl (by simp only[Zl,bQ,bW,encStr];rfl) rfl)<|Dd (by exact aA rfl rfl aPR rfl (aE9 o.x o.y _))<|Dd aM<|Zz<|Sq<|Sr<|Dd (aT eB)<|Dd (bF isAgg3)<|Dd wM<|Zz ?_;refine Cn ?_ ?_<;>intro hc1
 ·have hat:atO o=(decide (o.x=0)&&decide (o.y=0)):=by
   have h:(!decide (o.kind=1))=true:=hc1;rw[atO,aQC (by simpa using h)]
  refine Rg<|Dd (aT mI)<|Dd (by exact aN rfl dS sizeOf68 rfl rfl rfl rfl (by simp only[Zl,bQ,bW,encStr];rfl) rfl)<|Dd (rJ X3)<|Dd (by exact yX rfl rfl rfl rfl rfl iF (SZ _ _ _ _))<|Dd aM<|Zz<|Sq ?_;refine aY (t:=2) (n:=26) (X:=(((bT o.id&&!decide (eP o.kind=sNil))&&atO o)&&qY o.tags)&&MO o) ?_ ?_
  ·all_goals refine Dd (aT oH) ?_
   all_goals refine Dd (bF isAgg9)<|Dd (by exact aA rfl rfl fX rfl (kB o.id _ ho.1))<|Dm ?_
   all_goals refine Sp 17 (fun h17=>?_) fun h17=>?_
   all_goals try contradiction
   all_goals first|refine Fo<|Fo<|Fo<|Fo ?_|refine On (aT eB)<|On (bF isAgg3)<|On (by exact aA rfl rfl aPM rfl (HP o.kind _))<|On JI ?_
   all_goals refine Dd cH<|Dm ?_
   all_goals refine Sp 23 (fun h23=>?_) fun h23=>?_
   all_goals try contradiction
   all_goals first|refine Fo ?_|refine On aE ?_
   all_goals refine Dd cH<|Dm ?_
   all_goals refine Sp 26 (fun h26=>?_) fun h26=>?_
   all_goals try contradiction
   all_goals first|refine Fo<|Fo<|Fo ?_|refine On (aT fB)<|On (bF cS)<|On (by exact aA rfl rfl call254 rfl (aBH o.tags _ ho.2.1)) ?_
   all_goals refine Dd cH<|Dm ?_
   all_goals refine Sp 31 (fun h31=>?_) fun h31=>?_
   all_goals try contradiction
   all_goals first|refine Fo<|Fo ?_|refine On (by exact aN rfl dA sizeOf151 rfl rfl rfl rfl (by simp only[Zl,bQ,bW,encStr];rfl) rfl)<|On (by exact aA rfl rfl call255 rfl (aBJ o _ ho)) ?_
   all_goals refine Dd cH<|Da ?_
   all_goals(exact⟨⟨_,rfl,by(simp only[hat, *];rfl)⟩,rfl,rfl,rfl⟩)
  exact aB<|Rt<|Qq
 have hat:atO o=TZ o.x o.y:=by
  have h:(!decide (o.kind=1))=false:=hc1;rw[atO,aQD (by simpa using h)]
 refine aC<|Sq ?_;refine aY (t:=2) (n:=26) (X:=(((bT o.id&&!decide (eP o.kind=sNil))&&atO o)&&qY o.tags)&&MO o) ?_ ?_
 ·all_goals refine Dd (aT oH) ?_
  all_goals refine Dd (bF isAgg9)<|Dd (by exact aA rfl rfl fX rfl (kB o.id _ ho.1))<|Dm ?_
  all_goals refine Sp 17 (fun h17=>?_) fun h17=>?_
  all_goals try contradiction
  all_goals first|refine Fo<|Fo<|Fo<|Fo ?_|refine On (aT eB)<|On (bF isAgg3)<|On (by exact aA rfl rfl aPM rfl (HP o.kind _))<|On JI ?_
  all_goals refine Dd cH<|Dm ?_
  all_goals refine Sp 23 (fun h23=>?_) fun h23=>?_
  all_goals try contradiction
  all_goals first|refine Fo ?_|refine On aE ?_
  all_goals refine Dd cH<|Dm ?_
  all_goals refine Sp 26 (fun h26=>?_) fun h26=>?_
  all_goals try contradiction
  all_goals first|refine Fo<|Fo<|Fo ?_|refine On (aT fB)<|On (bF cS)<|On (by exact aA rfl rfl call254 rfl (aBH o.tags _ ho.2.1)) ?_
  all_goals refine Dd cH<|Dm ?_
  all_goals refine Sp 31 (fun h31=>?_) fun h31=>?_
  all_goals try contradiction
  all_goals first|refine Fo<|Fo ?_|refine On (by exact aN rfl dA sizeOf151 rfl rfl rfl rfl (by simp only[Zl,bQ,bW,encStr];rfl) rfl)<|On (by exact aA rfl rfl call255 rfl (aBJ o _ ho)) ?_
  all_goals refine Dd cH<|Da ?_
  all_goals(exact⟨⟨_,rfl,by(simp only[hat, *];rfl)⟩,rfl,rfl,rfl⟩)
 exact aB<|Rt<|Qq
end Go.Proofs.YtmdicgjnmfolfaaGreatDoor
