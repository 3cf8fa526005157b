/-
  Parts of the proof: rules of a program logic, contracts, plain laws. Conditions: each theorem's own.
-/
import Derived.Test.YtmdicgjnmfolfaaGreatDoorKR7M5
import Derived.Laws.BitsLemmas
import Derived.Below
import Derived.Shelf.Strconv.ErrVarAll
import Derived.Shelf.Strconv.AtoiAll
import Derived.Shelf.LaysC
import Derived.Shelf.Strings.SlTrimAscii
import Derived.Shelf.Lays
import Derived.Ground.NamesProg
import Derived.WideLaws
import Derived.Laws.Build
set_option linter.unusedVariables false
set_option linter.unusedSimpArgs false
set_option maxRecDepth 100000
set_option maxHeartbeats 8000000
namespace Go.Proofs
open Tryz
theorem zO:type_of% call162:=call162
theorem xY:type_of% call40:=call40
theorem Hz:type_of% call71:=call71
theorem aC0:type_of% call73:=call73
theorem C5:type_of% call90:=call90
theorem LD:type_of% isAgg247:=isAgg247
theorem dK:type_of% isAgg25:=isAgg25
theorem eQ:type_of% isAgg26:=isAgg26
theorem mI:type_of% isAgg41:=isAgg41
theorem FL:type_of% isAgg72:=isAgg72
theorem HA:type_of% sizeOf218:=sizeOf218
theorem LB:type_of% sizeOf72:=sizeOf72
end Go.Proofs
namespace Go.Proofs.YtmdicgjnmfolfaaGreatDoor
open Go.Proofs.Tryz
open Go.Abs
def W1(s:ByteArray)(n k:Nat):List ByteArray:=(List.range n).map fun j=>if j<k then SC s j else sNil
theorem NP(s)(n k):(W1 s n k).length=n:=by simp[W1]
theorem W0(s){n k j}(h:j<n):(W1 s n k)[j]?=some (if j<k then SC s j else sNil):=by rw[W1,aCz,List.getElem?_range h];rfl
theorem Mi(s){n k}(h:k<n):(W1 s n k).set k (SC s k)=W1 s n (k+1):=by
 apply List.ext_getElem?;intro j;by_cases a:j<n
 ·rw[W0 s a];by_cases e:k=j
  ·subst e;rw[List.getElem?_set_self (by rw[NP];exact h),aCe (Nat.lt_succ_self _)]
  rw[List.getElem?_set_ne e,W0 s a]
  grind
 rw[List.getElem?_eq_none (by rw[List.length_set,NP];omega),List.getElem?_eq_none (by rw[NP];omega)]
theorem Cv(s)(n):W1 s n 0=List.replicate n sNil:=by rw[W1];simp[Nat.not_lt_zero,if_false];rw[List.map_const',List.length_range]
theorem Mj(s)(h):W1 s (2 ^ h) (2 ^ h)=oL s h:=by
 rw[W1,oL]
 simp_all
theorem qd(n):cH (List.replicate n sNil)=List.replicate n [sv sNil]:=by rw[cH,List.map_replicate]
theorem qc(l)(k)(x):(cH l).set k [sv x]=cH (l.set k x):=by rw[cH,cH,List.map_set]
theorem tW{h}(a:h<=8):2 ^ h<=256:=Nat.pow_le_pow_right (by simp) a
theorem Jn{h:Nat}(a:h<=8):IntKind.i64.wrap (1*2 ^ ((h:Int)).toNat)=((2 ^ h:Nat)):=by have:=tW a;rw[aCq,Int.one_mul,show 2 ^ h=((2 ^ h:Nat):Int)by rfl];generalize 2 ^ h=n at this |-;rw[lI (by omega) (by omega)]
theorem ns(s:ByteArray)(h:Nat)(H:aG)(l:s.size<1099511627776)(i:h<=8):RC 86 [sv s,iv (h:Int)] (.pv (aU (oL s h))) H:=by
 refine Pu ?_;have j:=tW i;have g:=qd (2 ^ h);rw[<-Cv s]at g;rw[<-Mj];obtain ⟨n,m⟩:∃n,n=2 ^ h:=⟨_,rfl⟩;have e:=Jn i;rw[<-m]at j g e |-;refine Bd func86 rfl ntmps86<|Sz aH<|Sd aC<|Dd (by exact H9 rfl rfl rfl (by omega) (by simp[IntKind.bits];omega) e)<|Dd (by exact DB (id:=905) rfl bT zT Ig rfl rfl rfl (by omega) (by omega) (aCq _) (aCq _) (by omega) rfl)<|Zd aH<|Sq<|Sd aC<|Dd (by exact dU rfl aD rfl rfl rfl)<|Zd aC<|aE ?_;refine bJ (σ:=Nat) (fun k=>([(0,sv s),(5,.osl 905 0 0 n),(11,iv (n:Int)),(12,iv (k:Int))],[(905,⟨0,1,9,cH (W1 s n k)⟩)])) (fun k=>k<=n) (fun k=>n - k) 0 (aCw _) ?_ ?_
 ·rw[g];exact Wk
 intro k hk;have hln:=NP s n k;refine Sz cJ<|Sq ?_;refine Cn ?_ ?_<;>intro c
 ·have d:k<n:=by have:=aCb c;omega
  have hrow:(cH (W1 s n k))[k]?=some [sv sNil]:=by
   rw[cH,aCz,W0 s d,aCd (Nat.lt_irrefl _)];rfl
  have hset:(cH (W1 s n k)).set k [sv (SC s k)]=cH (W1 s n (k+1)):=by rw[qc,Mi s d]
  refine aA<|Sq<|aE<|Sd aC<|Zd aH<|Rd aC<|Dd aC<|Dd aC<|Dd aC<|Dd (kc call136 (Ui s k _ l (by omega)))<|Dd (by exact dN rfl bT rfl rfl rfl rfl rfl (by omega) (by exact aCq _) (by omega) rfl)<|Uu (by exact cV (r:=[sv sNil]) (r':=[sv (SC s k)]) (rows':=cH (W1 s n (k+1))) rfl sizeOf9 rfl rfl rfl rfl rfl (by simp_all) (by simp) rfl (by simp_all))<|Zz<|Rd kp<|Zd aC ?_;exact⟨k+1,by omega,by omega,(cQ.wk (Eb<|Ea<|Eb<|Eb<|trivial) (Hc (bQ _ _)<|trivial) trivial)⟩
 have f:k=n:=by have:=aCc c;omega
 subst f;have htk:((W1 s k k).map encStr).take k=(W1 s k k).map encStr:=List.take_of_length_le (by simp_all);refine aS<|Sd aC<|Zd aH<|aB ?_;refine dA (H':=[]) (.inr rfl) rfl (aJ rfl) (Fin.fz (r':=.pv (aU (W1 s k k))) (id:=905) ((W1 s k k).map encStr) rfl (eO _) (.osl (by simp_all)) rfl trivial trivial) ?_;exact Qq
theorem eg(s:ByteArray)(h:Nat)(H:aG)(p:s.size<1099511627776)(m:h<=8):RC 25 [sv s,iv (h:Int)] (.tup [sv (yZ s h),iv 0]) H:=by
 refine Pu ?_;refine Bd func25 rfl ntmps25<|Sd aH<|Zd aH<|Sq<|Sq ?_;refine aQ (t:=12) (n:=7) (X:=decide ((h:Int)<0)||decide (8<(h:Int))) ?_ ?_
 ·all_goals refine Dd aC ?_
  all_goals refine Dd cJ<|Dm ?_<;>(refine Sp 9 (fun o=>?_) fun o=>?_)<;>(try contradiction)<;>refine On aC<|On gX<|Zd cD ?_<;>(exact⟨⟨_,rfl,by rfl⟩,rfl,rfl,rfl⟩)
 refine Cn ?_ ?_<;>intro e
 ·have hb:=e;exact absurd (by simp_all) (show ¬ ((h:Int)<0\/8<(h:Int))by omega)
 refine aA<|Sd aC<|Dd aC<|Dd (kc call86 (ns s h _ p m))<|Zd aH<|Sq<|aE ?_;refine fZ (fun(j:Nat) (l:List ByteArray)=>([(6,.pv (aU l))],[])) (fun j l=>l.length=2 ^ j/\Y1 j l=yZ s h/\(∀t∈l,t.size=16)/\j<=8) (fun j l=>j) h (oL s h) ⟨AR s h,rfl,fun t g=>pK (E5 s h t g),m⟩ ?_ ?_
 ·exact Wk
 rintro j l ⟨u,n,v,w⟩;have hml:(l.map encStr).length=l.length:=aCf _;have hp:=tW w;refine Sq<|Sd aC<|Dd (eR aD)<|Zd gX ?_;refine Cn ?_ ?_<;>intro c
 ·have hlt:1<l.length:=by have:=aCb c;omega
  obtain ⟨i,rfl⟩:∃i,j=i+1:=by
   cases j with
   |zero=>omega
   |succ i=>simp_all
  have d:l.length=2*2 ^ i:=by omega
  have hpi:=tW (h:=i) (by omega);refine aA<|aE<|Rd aC<|Dd (kc call87 (pt l (2 ^ i) _ d (by omega) v))<|Da ?_;exact⟨i,cu l,⟨EH _ _ d,n,fun t g=>pK (M0 _ _ (aCl _) t g),by omega⟩,by omega,Wk⟩
 have hge:l.length<=1:=by have:=aCc c;omega
 have f:j=0:=by
  cases j with
  |zero=>rfl
  |succ i =>
   simp_all
 subst f;obtain ⟨a,rfl⟩:∃a,l=[a]:=List.length_eq_one_iff.1 u;have q:a=yZ s h:=n;subst q;have k:([yZ s h].map encStr)[0]?=some (encStr (yZ s h)):=rfl;exact aS<|Sd aC<|Dd (by exact bP rfl bT rfl rfl (by omega) (by rfl) k rfl)<|Dd (fO isAgg9 (hi:=k))<|Dd aH<|Zd aH<|aB<|Ru<|Qq
abbrev HXJ:ByteArray:=⟨#[48,49,50,51,52,53,54,55,56,57,97,98,99,100,101,102]⟩
theorem Di{n}(h:n<16):Lib.indexByte HXJ.data.toList (rK n).toNat.toUInt8=n:=by revert n;decide
theorem QU(m){k}(b:k<16):bH (tL m) k=rK (LU (X2 m) k):=by have a:=og (B1 (X2 m) k);have e:(tL m).data.toList=AX (X2 m):=rfl;rw[bH,e,AX,aCz,List.getElem?_range b];show ((UInt8.ofNat _).toNat:Int)=_;rw[UInt8.toNat_ofNat',Nat.mod_eq_of_lt (by omega),Int.toNat_of_nonneg a.1]
theorem jf(m){k}(a:k<16):(dJ m)[k]?=some (LU (X2 m) k):=by rw[dJ,aCz,List.getElem?_range a];rfl
theorem Nc(m){k}(a:k<16):(FJ m).getD k 0=LU (X2 m) k:=by rw[List.getD_eq_getElem?_getD,FJ,List.getElem?_append_left (a),jf m a];rfl
theorem Vb(m):(FJ m).getD 16 0=sT m / 16:=rfl
theorem Va(m):(FJ m).getD 17 0=sT m % 16:=rfl
def yJ(m:ByteArray)(k:Nat):Nat:=(((dJ m).take k).map (15 - ·)).sum
theorem OW(m){k}(a:k<16):yJ m (k+1)=yJ m k+(15 - LU (X2 m) k):=by rw[yJ,List.take_add_one,jf m a,List.map_append,List.sum_append];rfl
theorem Y3(m)(k):yJ m k<=240:=by
 have h:=OG ((dJ m).take k);have h2:((dJ m).take k).length<=16:=by rw[aCt,je];omega
 rw[yJ];omega
theorem TA(m):yJ m 16=sT m:=rfl
def SA(m:ByteArray):Ob:=bx 1 9 [sv m]
theorem US(m)(H)(b:H.get 961=none):aW Tryz.prog 92 [sv m] H (fun r H'=>r=.clo 139 [.ref 961 0 0 0]/\H'=(961,SA m)::H):=by refine Bd func92 rfl ntmps92<|Sd (rW rfl rfl rfl rfl b)<|Zd aH<|Sd (hU rfl rfl)<|Zd aH<|aB ?_;refine dA (.inr rfl) rfl (aJ rfl) Fin.refl ?_;exact Qq
theorem UT(m:ByteArray)(o:AV)(d:Nat->aG)(hm:m.size<1099511627776)(u:∀k,(d k).get 961=some (SA m))
  (p:∀k:Nat,k<18->dI Tryz.prog o [iv (k:Int),iv (((FJ m).getD k 0:Nat):Int)] (d k) (fun r H'=>r=bv true/\H'=d (k+1))) :
  aW Tryz.prog 139 [o,.ref 961 0 0 0] (d 0) (fun r H'=>r=.tup []/\H'=d 18):=by
 have s:=gP m;have g:=fun H=>YN m H (by omega);have f:=p 16 (by decide);have j:=p 17 (by decide);have hle:=OX m;rw[Vb]at f;rw[Va]at j;refine Bd func139 rfl ntmps139<|Sz aH<|Sd (by exact bA rfl isAgg9 rfl (u 0) rfl rfl rfl)<|Dd (kc XV (g _))<|Zd aH<|Sq<|Sd aC<|Dd (gF underlying9)<|Zd aC<|aE ?_;refine bJ (σ:=Nat) (fun k=>([(0,o),(1,.ref 961 0 0 0),(3,iv (yJ m k:Int)),(4,sv (tL m)),(10,iv 16),(11,iv (k:Int))],d k)) (fun k=>k<=16) (fun k=>16 - k) 0 (aCw _) ?_ ?_
 ·rw[s];exact E0
 intro k hk;have c:=fun(h:k<16)=>p k (by omega);refine Sz cJ<|Sq ?_;refine Cn ?_ ?_<;>intro i
 ·have b:k<16:=by have:=aCb i;omega
  have c:=c b;rw[Nc m b]at c;have t:=B1 (X2 m) k;have hr1:=Y3 m k;have hr2:=OW m b;have e:=fun H=>rB HXJ (rK (LU (X2 m) k)) H;rw[Di t]at e;refine aA<|Sq<|aE<|Sd aC<|Zd aH<|Sd aC<|Dd aC<|Dd (by exact cR rfl underlying9 rfl rfl (by omega) (aCq _) (by omega) (QU m b))<|Dd (kc zP (e _))<|Zd aH<|Sd aC<|Dd aC<|Dd (by exact dB rfl rfl rfl (show IntKind.i64.wrap (15 - (LU (X2 m) k:Int))=((15 - LU (X2 m) k:Nat):Int)by rw[lI (by omega) (by omega)];omega))<|Dd (by exact eA rfl rfl rfl (show IntKind.i64.wrap ((yJ m k:Int)+((15 - LU (X2 m) k:Nat):Int))=(yJ m (k+1):Int)by rw[lI (by omega) (by omega)];omega))<|Zd aH<|Sd aC<|Dd aC<|Dd aC<|Dd (by exact cW rfl rfl rfl (c))<|Zd iJ ?_;refine Cn ?_ ?_<;>intro l
  ·cases l
  refine aA<|Rd kp<|Zd aC ?_;exact⟨k+1,by omega,by omega,E0⟩
 have n:k=16:=by have:=aCc i;omega
 subst n;rw[TA];refine aS<|Sd aC<|Dd aC<|Dd (by exact vP rfl rfl rfl (by decide) (show IntKind.i64.wrap (((sT m:Nat):Int).tdiv 16)=((sT m / 16:Nat):Int)by rw[Int.tdiv_eq_ediv_of_nonneg (by omega),lI (by omega) (by omega)];omega))<|Zd (by exact cW rfl rfl rfl (f)) ?_;refine Cn ?_ ?_<;>intro q
 ·refine Rd aC<|Dd aC<|Dd (by exact tX rfl rfl rfl (by decide) (show ((sT m:Nat):Int).tmod 16=((sT m % 16:Nat):Int)by rw[Int.tmod_eq_emod_of_nonneg (by omega)];omega))<|Zd (by exact cW rfl rfl rfl (j)) ?_;exact uP (H':=d 18) (.inl rfl) rfl Fin.refl ⟨rfl,rfl⟩
 cases q
theorem Ij{a b:Nat}(e:a<4611686018427387904)(f:b<4611686018427387904):bits .xor .i64 a b=((a ^^^ b)):=by have h:=Nat.xor_lt_two_pow (n:=62) e f;have d:a % 2 ^ IntKind.i64.bits=a:=Nat.mod_eq_of_lt (Nat.lt_of_lt_of_le e (by decide));have c:b % 2 ^ IntKind.i64.bits=b:=Nat.mod_eq_of_lt (Nat.lt_of_lt_of_le f (by decide));simp[bits,BitVec.ofInt_natCast,BitVec.toNat_xor,BitVec.toNat_ofNat,d,c];rw[lI (by omega) (by omega)]
theorem Nd{p}[Decidable p](h:¬ p):AV.pv (.bool (decide p))=bv false:=by simp_all
def re(s:ByteArray)(i:Nat)(m:ByteArray)(k:Nat):List ByteArray:=(List.range k).map fun k=>yS (nQ s i k) ((FJ m).getD k 0)
theorem ym(s)(i)(m)(k):re s i m (k+1)=re s i m k++[yS (nQ s i k) ((FJ m).getD k 0)]:=by rw[re,List.range_succ,List.map_append];rfl
theorem Jp(s)(i)(m)(k):(re s i m k).length=k:=by simp[re]
theorem cK.eqJ{P}{N}{o}{E}{H H2}{v a}(h:cK P N o E H v H2)(e:v=a):cK P N o E H a H2:=e▸h
def Xv:dC:=[(4,.ref 4 0 0 0),(6,.ref 6 0 0 0),(10,.ref 10 0 0 0)]
def sgT(s:ByteArray)(i:Nat):aG:=[(8,bx 3 25 [iv 0,.pv (.sl []),.pv (.sl [])]),(6,bx 1 3 [iv (i:Int)]),(4,bx 1 9 [sv s])]
def Xu(s:ByteArray)(i:Nat)(m:ByteArray)(L:List ByteArray):aG:=[(905,⟨L.length,1,9,cH L⟩),(10,bx 3 25 [iv (i:Int),.osl 905 L.length 0 L.length,.pv .nils]),(961,SA m),(8,bx 3 25 [iv 0,.pv (.sl []),.pv (.sl [])]),(6,bx 1 3 [iv (i:Int)]),(4,bx 1 9 [sv s])]
theorem Jq(s)(i)(m)(L)(x):Xu s i m (L++[x])=[(905,⟨L.length+1,1,9,cH (L++[x])⟩),(10,bx 3 25 [iv i,.osl 905 (L.length+1) 0 (L.length+1),.pv .nils]),(961,SA m),(8,bx 3 25 [iv 0,.pv (.sl []),.pv (.sl [])]),(6,bx 1 3 [iv i]),(4,bx 1 9 [sv s])]:=by simp[Xu]
theorem AN(H)(m):∀r∈(SA m).rows,∀a∈r,Clo H a:=by intro r c a b;simp[SA,bx,aCi]at c;subst c;rw[aCi]at b;subst b;simp
theorem Jl(s m:ByteArray)(h i:Nat)(H:aG)(hs:s.size<1099511627776)(hm:m.size<1099511627776)(K:h<=8)(hi:i<2 ^ h):
  RC 32 [sv s,iv (h:Int),iv (i:Int),sv m] (.tup [.agg [iv (i:Int),.pv (aU (MJ s i m)),.pv (aU (pH h (oL s h) i))],iv 0]) H:=by
 refine Pu ?_;have f:=tW K;have hsh:=Jn K;have hkeys:=fun H=>ns s h H hs K;have X:=AR s h;have hpath:∀L,L=pH h (oL s h) i->True:=fun _ _=>trivial;refine Bd func32 rfl ntmps32<|Sd (kb 4)<|Dd (kb 6)<|Dd (kl 8 X9)<|Zd aH<|Sq<|Sq<|aL follows<|Cq aC<|Cq (by exact cK.eqJ (iZ rfl rfl rfl) (Nd (by omega)))<|Cq aC<|Nf aC<|Nf (by exact cK.eqJ (ID rfl rfl rfl) (Nd (by omega)))<|Cq cD<|Cq aC<|Nf (bD isAgg3)<|Nf (by exact cK.eqJ (iZ rfl rfl rfl) (Nd (by omega)))<|Cq cD<|Cq aC<|Nf (bD isAgg3)<|Nf aC<|Nf (by exact H9 rfl rfl rfl (by omega) (by simp[IntKind.bits];omega) hsh)<|Nf (by exact cK.eqJ (jF rfl rfl rfl) (Nd (by omega)))<|Cq cD<|bF<|Kr ?_;refine Cn ?_ ?_<;>intro U
 ·cases U
 refine aA<|Sd (bD isAgg3)<|Dd (nP aA1)<|Dd (kl 10 X9)<|Uu (iP sizeOf25)<|Zz<|Sq<|Sd aC<|Zd (kc call92 (US m _ rfl))<|aE ?_;refine gC.ent (E':=[(1,iv (h:Int)),(4,.ref 4 0 0 0),(6,.ref 6 0 0 0),(8,.ref 8 0 0 0),(10,.ref 10 0 0 0),(35,.clo 139 [.ref 961 0 0 0])]) (H':=Xu s i m []) ?_ ?_
 ·exact(cQ.nz 905 1 9 rfl rfl ⟨⟨_,rfl,(by exact Nz.same (by(simp;done)))⟩,⟨_,rfl,(by exact Nz.same (by(simp;rfl)))⟩,⟨_,rfl,(by exact Nz.same (by(simp;rfl)))⟩,⟨_,rfl,(by exact Nz.same (by(simp;rfl)))⟩,⟨_,rfl,(by exact Nz.same (by(simp;rfl)))⟩,⟨_,rfl,(by exact Nz.same (by(simp;rfl)))⟩,trivial⟩ ⟨⟨_,rfl,rfl,rfl,rfl,(by exact .inr ⟨_,_,rfl,rfl,(by repeat(first|exact trivial|refine⟨(by first|exact Nz.own|exact Nz.same (by(simp;done))),?_⟩))⟩)⟩,⟨_,rfl,rfl,rfl,rfl,(by exact .inl ⟨rfl,(by exact AN _ _)⟩)⟩,⟨_,rfl,rfl,rfl,rfl,(by exact .inl ⟨rfl,(by simp_all)⟩)⟩,⟨_,rfl,rfl,rfl,rfl,(by exact .inl ⟨rfl,(by simp_all)⟩)⟩,⟨_,rfl,rfl,rfl,rfl,(by exact .inl ⟨rfl,(by simp_all)⟩)⟩,trivial⟩ trivial)
 refine RA (id:=904) (p:=36) (p2:=37) Xv rfl call139 rfl rfl (by simp[Xv];exact⟨rfl,rfl,rfl⟩) ?_;intro x P F hx3 hx4 W T;refine(UT m (.yld 904 0) (fun k=>(904,LR x Xv)::Xu s i m (re s i m k)) hm (fun k=>rfl) ?_).mono ?_
 ·intro k hk;have hd:=XB m _ (wH (d:=0) (by rw[NW];exact hk));have M:=fun H=>lr s i k H hs (by omega) (by omega);have hfl:=Jp s i m k;have D:=ym s i m k;have J:=fun H=>XG (nQ s i k) ((FJ m).getD k 0) H (by rw[DG];decide) (by omega);obtain ⟨d,V⟩:∃d,d=(FJ m).getD k 0:=⟨_,rfl⟩;rw[<-V]at hd D J |-;refine .inl ⟨904,0,rfl,?_⟩;refine km [(4,.ref 4 0 0 0),(6,.ref 6 0 0 0),(10,.ref 10 0 0 0),(11,iv (k:Int)),(12,iv (d:Int))] (Xu s i m (re s i m k)) P F hx3 hx4 W T rfl rfl rfl rfl rfl ?_ ?_
  ·refine Sz aH<|Rg<|Da ?_;exact(cQ.wk (Ea<|Ea<|Ea<|Eb<|Eb<|trivial) (Hc (mL (by intro p f;simp only[Xv,aCr,aCv,or_false]at f;rcases f with rfl|rfl|rfl<;>(simp only[wB];rfl)))<|Hc (bQ _ _)<|Ha<|Hc (AN _ _)<|Hb<|Hb<|Hb<|trivial) ⟨rfl,rfl,rfl,rfl,rfl,rfl,rfl,trivial⟩)
  rw[D,Jq];refine aE<|aL follows<|Cr [10] (fun _ h=>fh gD h)<|Cr [10] (fun _ h=>lh aF h)<|Cr [4] (fun _ h=>lh isAgg9 h)<|Cr [6] (fun _ h=>lh isAgg3 h)<|Cr [] (fun _ _=>aC)<|Cr [] (fun n c=>by exact bL rfl rfl call96 rfl (M _))<|Cr [] (fun _ _=>aC)<|Cr [] (fun n c=>by exact bL rfl rfl aCY rfl (J _))<|Cr [] (fun n c=>by exact aN [[.str (yS (nQ s i k) d)]] rfl bT rfl rfl rfl rfl rfl (by simp_all))<|Cp [905] (fun n c=>by exact cG (ps:=[[.str (yS (nQ s i k) d)]]) rfl bT zT rfl ((c _ rfl).trans rfl) rfl rfl rfl (fP _) rfl (by simp_all) (m:=1) rfl (by omega) rfl (jZ (re s i m k) (yS (nQ s i k) d)))<|Cr [10] (fun _ h=>fh gD h)<|Cp [10] (fun n c=>by exact cV rfl sizeOf22 rfl rfl rfl ((c _ rfl).trans rfl) rfl rfl (by simp_all) (by simp only[Zl,encStr];rfl) (by simp only[Zl,encStr];rfl)) ?_;refine bF<|Kr ?_;exact⟨[(905,⟨(re s i m k).length+1,1,9,cH (re s i m k++[yS (nQ s i k) d])⟩),(10,bx 3 25 [iv (i:Int),.osl 905 ((re s i m k).length+1) 0 ((re s i m k).length+1),.pv .nils]),(961,SA m),(8,bx 3 25 [iv 0,.pv (.sl []),.pv (.sl [])]),(6,bx 1 3 [iv (i:Int)]),(4,bx 1 9 [sv s])],(cQ.wk trivial (Hc (mL (by intro p f;simp only[Xv,aCr,aCv,or_false]at f;rcases f with rfl|rfl|rfl<;>(simp only[wB];rfl)))<|Hc (bQ _ _)<|Ha<|Hc (AN _ _)<|Hb<|Hb<|Hb<|trivial) ⟨rfl,rfl,rfl,rfl,rfl,rfl,rfl,trivial⟩),rfl,rfl⟩
 rintro r H' ⟨rfl,rfl⟩;refine⟨x,_,rfl,by simp_all,rfl,fun z=>?_⟩;rw[F,show re s i m 18=MJ s i m from rfl];obtain ⟨S,hS⟩:∃S,S=MJ s i m:=⟨_,rfl⟩;rw[<-hS];have hol:(S.map encStr).length=S.length:=aCf _;refine gC.ent (cQ.fzG (id:=905) (E':=[(1,iv (h:Int)),(4,.ref 4 0 0 0),(6,.ref 6 0 0 0),(8,.ref 8 0 0 0),(10,.ref 10 0 0 0)]) (H':=(10,bx 3 25 [iv (i:Int),.pv (aU S),.pv .nils])::sgT s i) (S.map encStr) rfl (eO _) ?_ rfl ?_ ?_) ?_
 ·intro p f;simp only[aCr,aCv,or_false]at f;rcases f with rfl|rfl|rfl|rfl|rfl
  ·exact⟨_,rfl,.same (by simp)⟩
  ·exact⟨_,rfl,.same (by simp;rfl)⟩
  ·exact⟨_,rfl,.same (by simp;rfl)⟩
  ·exact⟨_,rfl,.same (by simp;rfl)⟩
  exact⟨_,rfl,.same (by simp;rfl)⟩
 ·refine⟨⟨_,rfl,rfl,rfl,rfl,nB rfl (cA (.same (by simp)) (cA (.osl ?_) (cA (.same (by simp)) mD)))⟩,⟨_,rfl,rfl,rfl,rfl,gA (by simp)⟩,⟨_,rfl,rfl,rfl,rfl,gA (by simp)⟩,⟨_,rfl,rfl,rfl,rfl,gA (by simp)⟩,trivial⟩;rw[aCx,List.drop_zero,<-hol,List.take_length]
 ·exact trivial
 refine Sq<|Sq<|aL follows<|Cq (bD isAgg9)<|Cq aC<|Cq (kc call86 (hkeys _))<|Cq (bD isAgg3)<|Cq aH<|Cq aH<|bF<|Kr<|aE ?_;refine gC.ent (E':=[(8,.ref 8 0 0 0),(10,.ref 10 0 0 0),(13,.pv (aU (oL s h))),(14,iv (i:Int))]) (H':=(906,⟨0,1,9,[]⟩)::(10,bx 3 25 [iv (i:Int),.pv (aU S),.osl 906 0 0 0])::sgT s i) ?_ ?_
 ·exact(cQ.nz 906 1 9 rfl rfl ⟨⟨_,rfl,(by exact Nz.same (by(simp;rfl)))⟩,⟨_,rfl,(by exact Nz.same (by(simp;rfl)))⟩,⟨_,rfl,(by exact Nz.same (by(simp;done)))⟩,⟨_,rfl,(by exact Nz.same (by(simp;done)))⟩,trivial⟩ ⟨⟨_,rfl,rfl,rfl,rfl,(by exact .inr ⟨_,_,rfl,rfl,(by repeat(first|exact trivial|refine⟨(by first|exact Nz.own|exact Nz.same (by(simp;done))),?_⟩))⟩)⟩,⟨_,rfl,rfl,rfl,rfl,(by exact .inl ⟨rfl,(by(simp;done))⟩)⟩,⟨_,rfl,rfl,rfl,rfl,(by exact .inl ⟨rfl,(by(simp;done))⟩)⟩,⟨_,rfl,rfl,rfl,rfl,(by exact .inl ⟨rfl,(by(simp;done))⟩)⟩,trivial⟩ trivial)
 refine U1 (fun(j:Nat) (l:List ByteArray) (q:Nat) (A:List ByteArray)=>([(8,.ref 8 0 0 0),(10,.ref 10 0 0 0),(13,.pv (aU l)),(14,iv (q:Int))],[(906,⟨A.length,1,9,cH A⟩),(10,bx 3 25 [iv (i:Int),.pv (aU S),.osl 906 A.length 0 A.length]),(8,bx 3 25 [iv 0,.pv (.sl []),.pv (.sl [])]),(6,bx 1 3 [iv (i:Int)]),(4,bx 1 9 [sv s])]))
  (fun j l q A=>l.length=2 ^ j/\q<2 ^ j/\A++pH j l q=pH h (oL s h) i/\(∀t∈l,t.size=16)/\j<=8/\A.length+j<=8) (fun j l q A=>j) h (oL s h) i [] ⟨X,hi,rfl,fun t O=>pK (E5 s h t O),K,by rw[List.length_nil];omega⟩ ?_ ?_
 ·exact(cQ.wk (Ea<|Ea<|Eb<|Eb<|trivial) (Hc (bQ _ _)<|Ha<|Hb<|Hb<|Hb<|trivial) trivial)
 rintro j l q A ⟨hl,hq,o,hz,hj,hA⟩;have hml:(l.map encStr).length=l.length:=aCf _;have hpj:=tW hj;refine Sq<|Sd aC<|Dd (eR aD)<|Zd gX ?_;refine Cn ?_ ?_<;>intro v
 ·have E:1<l.length:=by have:=aCb v;omega
  obtain ⟨u,rfl⟩:∃u,j=u+1:=by
   cases j with
   |zero=>rw[hl]at E;exact absurd E (by decide)
   |succ u=>exact⟨u,rfl⟩
  have G:l.length=2*2 ^ u:=by rw[hl,Nat.pow_succ,Nat.mul_comm]
  have hpu:=tW (h:=u) (by omega);have Q:q / 2<2 ^ u:=by rw[Nat.pow_succ]at hq;omega
  have hx:=VC q;have C:q ^^^ 1<l.length:=by
   rw[hx]
   split<;>omega
  have g:(l.map encStr)[q ^^^ 1]?=some (encStr (l.getD (q ^^^ 1) sNil)):=by
   rw[aCz,List.getD_eq_getElem?_getD,aCk C];rfl
  have w:(A++[l.getD (q ^^^ 1) sNil])++pH u (cu l) (q / 2)=pH h (oL s h) i:=by
   rw[<-o,List.append_assoc];rfl
  obtain ⟨e,he⟩:∃e,e=l.getD (q ^^^ 1) sNil:=⟨_,rfl⟩;obtain ⟨y,hy⟩:∃y,y=q ^^^ 1:=⟨_,rfl⟩;have B:=Ij (a:=q) (b:=1) (by omega) (by decide);rw[<-he]at g w;rw[<-hy]at g B C;have Z:(A++[e]).length=A.length+1:=by rw[aCg];rfl
  refine aA<|Sq<|aE<|aL follows<|Cr [10] (fun _ h=>fh iB h)<|Cr [10] (fun _ h=>lh aF h)<|Cr [] (fun _ _=>aC)<|Cr [] (fun _ _=>aC)<|Cr [] (fun n c=>by exact nJ rfl (by simp) rfl rfl B)<|Cr [] (fun n c=>by exact bP rfl bT rfl rfl (by omega) (by exact aCq _) g rfl)<|Cr [] (fun _ _=>(fO isAgg9 (hi:=g)))<|Cr [] (fun n c=>by exact aN [[.str e]] rfl bT rfl rfl rfl rfl rfl (by intro r o;rw[aCi]at o;subst o;rfl))<|Cp [906] (fun n c=>by exact cG (ps:=[[.str e]]) rfl bT zT rfl ((c _ rfl).trans rfl) rfl rfl rfl (fP _) rfl (by intro r o;rw[aCi]at o;subst o;rfl) (m:=1) rfl (by omega) rfl (jZ A e))<|Cr [10] (fun _ h=>fh iB h)<|Cp [10] (fun n c=>by exact cV rfl sizeOf22 rfl rfl rfl ((c _ rfl).trans rfl) rfl rfl (by simp only[aCh,List.length_nil];omega) (by simp only[Zl,encStr];rfl) (by simp only[Zl,encStr];rfl)) ?_;refine bF<|Kr<|Rd aC<|Dd (kc call87 (pt l (2 ^ u) _ G (by omega) hz))<|Dd aC<|Dd (by exact vP rfl rfl rfl (by decide) (show IntKind.i64.wrap ((q:Int).tdiv 2)=((q / 2:Nat):Int)by rw[Int.tdiv_eq_ediv_of_nonneg (by omega),lI (by omega) (by omega)];omega))<|Dd aH<|Da ?_;refine⟨u,cu l,q / 2,A++[e],⟨EH _ _ G,Q,w,fun t O=>pK (M0 _ _ (aCl _) t O),by omega,by omega⟩,by omega,?_⟩;dsimp only;rw[Z];exact(cQ.wk (Ea<|Ea<|Eb<|Eb<|trivial) (Hc (bQ _ _)<|Ha<|Hb<|Hb<|Hb<|trivial) trivial)
 have hge:l.length<=1:=by have:=aCc v;omega
 have N:j=0:=by
  cases j with
  |zero=>rfl
  |succ u =>
   have:2 ^ (u+1)=2*2 ^ u:=by rw[Nat.pow_succ,Nat.mul_comm]
   have:0<2 ^ u:=Nat.two_pow_pos u;omega
 subst N;have R:A=pH h (oL s h) i:=by rw[<-o,pH,List.append_nil]
 have Y:(A.map encStr).length=A.length:=aCf _;rw[<-R];refine aS<|Sq ?_;refine gC.ent (cQ.fzG (id:=906) (E':=[(8,.ref 8 0 0 0),(10,.ref 10 0 0 0)]) (H':=(10,bx 3 25 [iv (i:Int),.pv (aU S),.pv (aU A)])::sgT s i) (A.map encStr) rfl (eO _) ?_ rfl ?_ ?_) ?_
 ·intro p f;simp only[aCr,aCv,or_false]at f;rcases f with rfl|rfl
  ·exact⟨_,rfl,.same (by simp;rfl)⟩
  exact⟨_,rfl,.same (by simp;rfl)⟩
 ·refine⟨⟨_,rfl,rfl,rfl,rfl,nB rfl (cA (.same (by simp)) (cA (.same (by simp)) (cA (.osl ?_) mD)))⟩,⟨_,rfl,rfl,rfl,rfl,gA (by simp)⟩,⟨_,rfl,rfl,rfl,rfl,gA (by simp)⟩,⟨_,rfl,rfl,rfl,rfl,gA (by simp)⟩,trivial⟩;rw[aCx,List.drop_zero,<-Y,List.take_length]
 ·exact trivial
 refine Rd (by exact aM rfl dK sizeOf25 rfl rfl rfl rfl (by simp only[Zl,encStr];rfl) rfl)<|Uu (iP sizeOf25)<|Zd aH<|aB ?_;refine iN (H':=[]) (.inr rfl) rfl (eU rfl dK sizeOf25 rfl rfl rfl (by simp only[Zl,encStr];rfl) rfl) (aJ rfl) (Fin.wk (by simp) trivial trivial) ?_;exact Qq
end Go.Proofs.YtmdicgjnmfolfaaGreatDoor
namespace Go.Abs
open Go.RowKit
theorem Rel.below{I}{ι}{H}{w w'}(d:Below w.heap.size w w')(f:Rel I ι H w):Rel I ι H w'/\Step I ι H w I ι H w':=by
 have g:=d.block;have e:Step I ι H w I ι H w':=by
  refine⟨d.os,d.tape,d.output,d.size,fun a ha _=>?_,fun _ h=>h,fun _ h=>.inl h,fun _ h=>.inl h,fun b d _=>g b d,fun _ o h=>⟨o,h,aCl _,fun _=>⟨rfl,rfl,fun _=>aCl _⟩⟩⟩;unfold World.frozen?
  simp_all
 refine⟨⟨fun b h=>?_,fun j o k=>?_,f.inj,e.glob f⟩,e⟩
 ·have:=f.imm b h;have:=d.size;omega
 exact(f.obj j o k).keep rfl (fun b c _ d=>⟨g b d,fun h=>h⟩) (fun r _ a _ v i=>i.mono f e)
end Go.Abs
namespace Go.Abs
open Go.Proofs
def aAM(v:Value):Prop:=∃t p,v=.iface t p
abbrev ua:PV:=.sat aAM
def oY(s:ByteArray):Int×PV:=match Lib.atoiAll s.data.toList with
 |.ok v=>(v,KG)
 |.range=>(Lib.atoiSat s.data.toList,ua)
 |_=>(0,ua)
theorem atoi_c{P:Program}{ρ:Shelf.Ren}(L:LaysC.n172 P ρ){G1 G2:Nat}(B:(G1,GV.face)∈ak)(J:P.globalNamed "strconv.ErrSyntax" = some G1)(F:(G2,GV.face)∈ak)(M:P.globalNamed "strconv.ErrRange" = some G2)(s:ByteArray)(hs:s.size<1099511627776)(H:aG):
  aW P (ρ.f 172) [.pv (.str s)] H (fun r H'=>r=.tup [.pv (.int .i64 (oY s).1),.pv (oY s).2]/\H'=H):=by
 intro I D w R Q K S;obtain ⟨v,rfl⟩:∃v,R=#[v]:=by
  match R,K with
  |⟨[v]⟩,_=>exact⟨v,rfl⟩
 have e1:=(S 0 v _ rfl rfl).str_inv;subst e1;have j:∀(g:String) (G:Nat),(G,GV.face)∈ak->P.globalNamed g=some G->∃t p,w.var? P g=some #[.iface t p]:=fun g G X Z=>by
  obtain ⟨_,cs,t,f,l,q,p,V⟩:=Q.glob _ X;subst V;exact⟨q,p,by simp only[World.var?,Z,Option.bind_some,l]⟩
 have m:∀(n:Int) (x:Value) (a:PV) (d:World),RowKit.Below w.heap.size w d->(∀I H,VRel d I D H x (.pv a))->∃r H' E o O,(Ending.returned (.tuple #[.int .i64 n,x]))=.returned O/\(r=.tup [.pv (.int .i64 n),.pv a]/\H'=H)/\VRel d E o H' O r/\Rel E o H' d/\Step I D H w E o H' d:=fun n x a d u U=>by
  obtain ⟨Y,W⟩:=Rel.below u Q;refine⟨_,_,I,D,_,rfl,⟨rfl,rfl⟩,.tup rfl fun i v b y l=>?_,Y,W⟩
  match i,y,l with
  |0,y,l=>cases y;cases l;exact .pv (.int _ _)
  |1,y,l=>cases y;cases l;exact U _ _
  |i+2,y,l=>simp at y
 rw[oY];cases h:Lib.atoiAll s.data.toList with
 | ok n =>
  refine(Any.strconv_Atoi_ok L s (by omega) n h w).mono ?_;rintro e d ⟨rfl,T⟩;have u:RowKit.Below w.heap.size w d:=by
   rcases T with rfl|⟨t,rfl⟩
   ·exact RowKit.Below.refl _ _
   exact Lib.bytesWorld_below w _ t
  exact m n .nilIface KG d u (fun _ _=>.pv (.sat rfl rfl))
 |range =>
  obtain ⟨t,p,A⟩:=j _ G2 F M;refine(Any.strconv_Atoi_range_var L s (by omega) h t p w A).mono ?_;rintro e d ⟨N,rfl,_,_,u⟩;exact m _ _ ua d u (fun _ _=>.pv (.sat rfl ⟨_,_,rfl⟩))
 |_ =>
  obtain ⟨t,p,A⟩:=j _ G1 B J;refine(Any.strconv_Atoi_syntax_var L s (by omega) h t p w A).mono ?_;rintro e d ⟨N,rfl,_,_,u⟩;exact m 0 _ ua d u (fun _ _=>.pv (.sat rfl ⟨_,_,rfl⟩))
theorem dx{P}{ρ}(L:Lays.n160 P ρ)(d:(P.info? (ρ.t 116)).map (fun i=>(i.zero,i.size))=some (some (.agg (Array.replicate 256 (.bool false))),256))(s c)(o:s.size<=9223372036854775807)(g:c.size<4294967281)
  (p:∀(j:Nat) b,c.data.toList[j]?=some b->b.toNat<128) (H) :
  aW P (ρ.f 160) [.pv (.str s),.pv (.str c)] H (fun r H'=>r=.pv (.str ⟨(Lib.trimS s.data.toList c.data.toList).toArray⟩)/\H'=H):=by
 intro I q w h m f k;obtain ⟨v,u,rfl⟩:∃v u,h=#[v,u]:=by
  match h,f with
  |⟨[v,u]⟩,_=>exact⟨v,u,rfl⟩
 have x:=(k 0 v _ rfl rfl).str_inv;have n:=(k 1 u _ rfl rfl).str_inv;subst x n;refine(Any.strings_Trim_laid L d s c w o g p).mono ?_;rintro e w' ⟨rfl,y⟩;obtain ⟨t,l⟩:=Rel.below y m;exact⟨_,_,I,q,_,rfl,⟨rfl,rfl⟩,.pv (.str _),t,l⟩
end Go.Abs
section
namespace Go.Proofs
open Go.RowKit Go.Sort Go.Shelf
def aC4:Go.Shelf.Ren:=⟨fun|160=>125|232=>169|231=>168|227=>170|234=>172|233=>171|236=>174|235=>173|228=>210|271=>213|151=>212|197=>211|120=>248|152=>247|260=>246|137=>140|119=>270|224=>222|225=>221|217=>180|266=>214|n=>n,fun|9=>9|4=>4|3=>3|5=>5|117=>193|116=>192|0=>0|124=>196|21=>21|105=>227|46=>125|119=>158|139=>277|138=>276|n=>n,fun|3=>4|4=>5|n=>n⟩
theorem aC9:Go.Proofs.Lays.n160 Tryz.prog aC4:={
  mixed:=by rfl
  f119:=Tryz.func270.trans (congrArg some (by rfl))
  f120:=Tryz.func248.trans (congrArg some (by rfl))
  f137:=Tryz.func140.trans (congrArg some (by rfl))
  f151:=Tryz.func212.trans (congrArg some (by rfl))
  f152:=Tryz.func247.trans (congrArg some (by rfl))
  f160:=Tryz.func125.trans (congrArg some (by rfl))
  f197:=Tryz.func211.trans (congrArg some (by rfl))
  f217:=Tryz.func180.trans (congrArg some (by rfl))
  f224:=Tryz.func222.trans (congrArg some (by rfl))
  f225:=Tryz.func221.trans (congrArg some (by rfl))
  f227:=Tryz.func170.trans (congrArg some (by rfl))
  f228:=Tryz.func210.trans (congrArg some (by rfl))
  f231:=Tryz.func168.trans (congrArg some (by rfl))
  f232:=Tryz.func169.trans (congrArg some (by rfl))
  f233:=Tryz.func171.trans (congrArg some (by rfl))
  f234:=Tryz.func172.trans (congrArg some (by rfl))
  f235:=Tryz.func173.trans (congrArg some (by rfl))
  f236:=Tryz.func174.trans (congrArg some (by rfl))
  f260:=Tryz.func246.trans (congrArg some (by rfl))
  f266:=Tryz.func214.trans (congrArg some (by rfl))
  f271:=Tryz.func213.trans (congrArg some (by rfl))
  t0:=Gz
  a0:=aCW
  z0:=aBg
  v0:=Ov
  t3:=Tryz.underlying3
  a3:=Tryz.isAgg3
  z3:=Tryz.sizeOf3
  v3:=wM
  t4:=eM
  a4:=mN
  z4:=Tryz.sizeOf4
  v4:=nY
  t5:=eB
  a5:=C4
  z5:=cO
  v5:=EB
  t9:=Tryz.underlying9
  a9:=Tryz.isAgg9
  z9:=Tryz.sizeOf9
  v9:=wL
  t21:=Tryz.underlying21
  a21:=Tryz.isAgg21
  z21:=Tryz.sizeOf21
  v21:=Tryz.zeroValue21
  t46:=G9
  a46:=dm
  z46:=XQ
  v46:=JM
  t105:=Tryz.underlying227
  a105:=Tryz.isAgg227
  z105:=Tryz.sizeOf227
  v105:=Tryz.zeroValue227
  t116:=Tryz.underlying192
  a116:=Tryz.isAgg192
  z116:=Tryz.sizeOf192
  t117:=Tryz.underlying193
  a117:=Tryz.isAgg193
  z117:=Tryz.sizeOf193
  v117:=Tryz.zeroValue193
  t119:=fT
  a119:=aAc
  z119:=zJ
  t124:=Tryz.underlying196
  a124:=Tryz.isAgg196
  z124:=Tryz.sizeOf196
  v124:=Tryz.zeroValue196
  t138:=Tryz.underlying276
  a138:=Tryz.isAgg276
  z138:=Tryz.sizeOf276
  v138:=Tryz.zeroValue276
  t139:=Tryz.underlying277
  a139:=Tryz.isAgg277
  z139:=Tryz.sizeOf277
  v139:=Tryz.zeroValue277
  g3:=by kernel_rfl
  g4:=by kernel_rfl}
end Go.Proofs
namespace Go.Proofs.YtmdicgjnmfolfaaGreatDoor
open Go.Proofs.Tryz
open Go.Abs
abbrev Wp:ByteArray:=⟨#[48,49,50,51,52,53,54,55,56,57,97,98,99,100,101,102]⟩
theorem Um(b):Wp.data.toList.contains b=MR b:=by
 have h:∀n:Fin 256,Wp.data.toList.contains (UInt8.ofNat n.1)=MR (UInt8.ofNat n.1):=by decide +kernel
 have:=h ⟨b.toNat,b.toNat_lt⟩
 simpa using this
theorem zH{α:Type}(p):∀l:List α,l.dropWhile p=[]↔l.all p=true
 | []=>by simp
 |a::r=>by
  rw[List.dropWhile_cons,List.all_cons];cases h:p a with
  |true=>exact zH p r
  |false=>simp_all
theorem F2{α:Type}{p q}:∀ {l:List α},(l.dropWhile p).all q=true->(∀a,p a=true->q a=true)->l.all q=true
 | [],_,_=>rfl
 | a::r,h,b=>by
  rw[List.dropWhile_cons]at h;cases c:p a with
  |true =>
   rw[c]at h;rw[List.all_cons,b a c];exact F2 h b
  |false =>
   simp_all
theorem xo(l):Lib.trimS l Wp.data.toList=[]↔l.all MR=true:=by
 have e:=funext Um;unfold Lib.trimS Lib.trimLeftS Lib.trimRightS;rw[e,zH];constructor
 ·intro h;rw[List.all_reverse]at h;have c:=F2 h (fun a d=>d)
  rwa [List.all_reverse]at c
 intro h;have c:=(zH _ _).2 (by rw[List.all_reverse];exact h);rw[c];rfl
theorem Iw(s)(hs:s.size<1099511627776)(H):RC 125 [sv s,sv Wp] (sv ⟨(Lib.trimS s.data.toList Wp.data.toList).toArray⟩) H :=dx aC9 (rfl) s _ (by omega) (by decide) (ascii_of_all (rfl)) H
theorem Dc(s)(c:s.size<1099511627776)(H):RC 73 [sv s] (bv (isJ s)) H:=by
 refine Pu ?_;have b:=fun H=>Iw s c H;have f:=xo s.data.toList;obtain ⟨t,d⟩:∃t,t=Lib.trimS s.data.toList Wp.data.toList:=⟨_,rfl⟩;rw[<-d]at b f;have hb:isJ s=(decide ((s.size:Int)=16)&&decide ((⟨t.toArray⟩)=sNil)):=by
  rw[isJ]
  grind
 refine Bd func73 rfl ntmps73<|Sz aH<|Sq ?_;refine aQ (t:=2) (n:=10) (X:=isJ s) ?_ ?_
 ·all_goals refine Dd aC ?_
  all_goals refine Dd (gF underlying9)<|Dd cF<|Dm ?_<;>(refine Sp 6 (fun e=>?_) fun e=>?_)<;>(first|refine Fo<|Fo<|Fo ?_|refine On aC<|On (bL rfl rfl call125 rfl (b _))<|On vF ?_)<;>refine Dd cD<|Da ?_<;>(exact⟨⟨_,rfl,by simp_all⟩,rfl,rfl,rfl⟩)
 exact aB<|Rt<|Qq
end Go.Proofs.YtmdicgjnmfolfaaGreatDoor
end
namespace Go.Proofs.YtmdicgjnmfolfaaGreatDoor
open Go.Proofs.Tryz
open Go.Abs
def R7(t:ByteArray):Bool:=!isJ t
theorem Tu(t)(b:t.size<1099511627776)(H):RC 91 [sv t] (bv (R7 t)) H:=by refine Pu ?_;exact Bd func91 rfl ntmps91<|Sz aH<|Sd aC<|Dd (bL rfl rfl aC0 rfl (Dc t b _))<|Dd iJ<|Zd aH<|aB<|Rt<|Qq
theorem U5(l:List ByteArray)(q):((List.range l.length).any fun k=>match l[k]? with|some s=>q s|none=>false)=l.any q:=by
 rw[Bool.eq_iff_iff,List.any_eq_true,List.any_eq_true];constructor
 ·grind
 rintro⟨s,a,h⟩;obtain ⟨k,hk⟩:=aDA.1 a
 grind
theorem Px(l)(hl:l.length<1099511627776)(d:∀t∈l,t.size<1099511627776)(H):RC 90 [.pv (aU l)] (bv (l.any R7)) H:=by
 refine Pu ?_;have b:=uC _ l (fun k=>match l[k]? with|some s=>R7 s|none=>false) _ (by omega) (fun k s c=>by
  simp[c];exact dI.fn call91 (Tu s (d s (aCp c)) []))
 rw[U5]at b;exact Bd func90 rfl ntmps90<|Sz aH<|Sd aC<|Dd (bL rfl rfl XU rfl (b))<|Zd aH<|aB<|Rt<|Qq
def N6(i:Int)(l p:List ByteArray):Bool:=((((!decide (((l.map encStr).length:Int)=18)||decide (8<((p.map encStr).length:Int)))||l.any R7)||p.any R7)||decide (i<0))||decide (((2 ^ p.length:Nat):Int)<=i)
theorem JD(l:List _):l.any R7=!l.all isJ:=by
 induction l with
 |nil=>rfl
 |cons a r b=>rw[List.any_cons,List.all_cons,b,R7,Bool.not_and]
theorem Ip{key m}{i}{l p}(h:N6 i l p=true):uR key m i l p=false:=by
 rw[N6,JD,JD]at h;cases a:uR _ m i l p with
 |false=>rfl
 |true =>
  rw[uR]at a
  grind
theorem Re{key m}{i}{l p}(h:N6 i l p=false):∃q:Nat,i=q/\q<2 ^ p.length/\l.length=18/\p.length<=8/\(∀t∈l,isJ t=true)/\(∀t∈p,isJ t=true)/\uR key m i l p=decide (sI (wA (nL m l)) p q=key):=by
 rw[N6,JD,JD,aCf,aCf]at h;simp only[aDB,Bool.not_eq_false',aCn,aCm]at h;obtain ⟨⟨⟨⟨⟨a1,a2⟩,d⟩,c⟩,a5⟩,a6⟩:=h;obtain ⟨q,rfl⟩:∃q:Nat,i=q:=⟨i.toNat,by omega⟩;have b:l.length=18:=by omega
 have a:p.length<=8:=by omega
 refine⟨q,rfl,by omega,b,a,List.all_eq_true.1 d,List.all_eq_true.1 c,?_⟩;have e:(q:Int)<2 ^ p.length:=by simp_all
 rw[uR,d,c,decide_eq_true (⟨b,a⟩),decide_eq_true (⟨by omega,e⟩)];rfl
def oq(m:ByteArray)(l:List ByteArray)(k:Nat):List ByteArray:=(List.range k).map fun k=>yS (l.getD k sNil) (15 - (FJ m).getD k 0)
theorem Eg(m)(l)(k):oq m l (k+1)=oq m l k++[yS (l.getD k sNil) (15 - (FJ m).getD k 0)]:=by rw[oq,List.range_succ,List.map_append];rfl
theorem om(m)(l)(k):(oq m l k).length=k:=by simp[oq]
theorem W8{m}{l}(h:l.length=18):oq m l 18=nL m l:=by
 apply List.ext_getElem?;intro k;rw[nL,List.getElem?_zipWith,oq,aCz];by_cases a:k<18
 ·have c:l[k]?=some (l.getD k sNil):=by
   simp_all
  have b:(FJ m)[k]?=some ((FJ m).getD k 0):=by
   rw[List.getD_eq_getElem?_getD,aCk (a)];rfl
  rw[List.getElem?_range a,c,b];rfl
 simp_all
theorem Ol{a:Nat}(b:a<4611686018427387904):bits .and .i64 a 1=((a % 2:Nat)):=by have h:=(bits_nat _ 62 (by decide) (fun n h0 h1=>lI (by omega) (by omega)) a 1 b (by simp)).1;rw[Nat.and_one_is_mod]at h;exact h
def Xi:dC:=[(5,.ref 5 0 0 0),(9,.ref 9 0 0 0)]
def Xh(i:Int)(l p:List ByteArray)(m:ByteArray)(L:List ByteArray):aG:=[(905,⟨L.length,1,9,cH L⟩),(9,bx 1 22 [.osl 905 L.length 0 L.length]),(961,SA m),(5,bx 3 25 [iv i,.pv (aU l),.pv (aU p)])]
theorem Io(i)(l p)(m)(L)(x):Xh i l p m (L++[x])=[(905,⟨L.length+1,1,9,cH (L++[x])⟩),(9,bx 1 22 [.osl 905 (L.length+1) 0 (L.length+1)]),(961,SA m),(5,bx 3 25 [iv i,.pv (aU l),.pv (aU p)])]:=by simp[Xh]
theorem SQ(key m:ByteArray)(i:Int)(l p:List ByteArray)(H:aG)(hm:m.size<1099511627776)(hi0 : -4611686018427387904<=i)(hi1:i<4611686018427387904)(hl:l.length<1099511627776)(hp:p.length<1099511627776)(N:∀t∈l,t.size<1099511627776)(hps:∀t∈p,t.size<1099511627776):
  RC 28 [sv key,sv m,.agg [iv i,.pv (aU l),.pv (aU p)]] (bv (uR key m i l p)) H:=by
 refine Pu ?_;have hml:(l.map encStr).length=l.length:=aCf _;have hmp:(p.map encStr).length=p.length:=aCf _;have hol:=fun H=>Px l hl N H;have J:=fun H=>Px p hp hps H;have hle8:decide (8<((p.map encStr).length:Int))=false->p.length<=8:=fun h=>by have:=aCc h;omega
 have O:p.length<=8->IntKind.i64.wrap (1*2 ^ (((p.map encStr).length:Int)).toNat)=((2 ^ p.length:Nat):Int):=fun h=>by rw[hmp];exact Jn h
 refine Bd func28 rfl ntmps28<|Sd (kb 5)<|Zd aH<|Sd (aV iB)<|Dd (bD aF)<|Dd (eR aD)<|Zd aH<|Sz aH<|Sq<|Sq ?_;refine kH (t:=49) (n:=32) (X:=N6 i l p) ?_ ?_
 ·cases hg22:(!decide (((l.map encStr).length:Int)=18):Bool)
  ·cases hg26:(decide (8<((p.map encStr).length:Int)):Bool)
   ·cases hg32:(l.any R7:Bool)
    ·cases hg38:(p.any R7:Bool)
     ·cases hg43:(decide (i<0):Bool)
      ·refine aL follows<|Cq (aV gD)<|Cq (bD aF)<|Cq (eR aD)<|Cq rI<|Cq aC<|Nf aC<|Nf gX<|Cq nT<|Cq aC<|Nf aC<|Nf (aV gD)<|Nf (bD aF)<|Nf (by exact cW rfl rfl rfl (dI.fn C5 (hol _)))<|Cq nT<|Cq aC<|Nf aC<|Nf (aV iB)<|Nf (bD aF)<|Nf (by exact cW rfl rfl rfl (dI.fn C5 (J _)))<|Cq nT<|Cq aC<|Nf (aV iC)<|Nf (bD isAgg3)<|Nf cJ<|Cq nT<|Cq aC<|Nf (aV iC)<|Nf (bD isAgg3)<|Nf aC<|Nf (by exact H9 rfl rfl rfl (by omega) (by have:=hle8 hg26;simp[IntKind.bits];omega) (O (hle8 hg26)))<|Nf CX<|Cq nT<|bF<|Kr ?_;exact⟨rfl,⟨_,rfl,by(rw[N6,hg22,hg26,hg32,hg38,hg43];rfl)⟩,rfl,rfl,rfl⟩
      refine aL follows<|Cq (aV gD)<|Cq (bD aF)<|Cq (eR aD)<|Cq rI<|Cq aC<|Nf aC<|Nf gX<|Cq nT<|Cq aC<|Nf aC<|Nf (aV gD)<|Nf (bD aF)<|Nf (by exact cW rfl rfl rfl (dI.fn C5 (hol _)))<|Cq nT<|Cq aC<|Nf aC<|Nf (aV iB)<|Nf (bD aF)<|Nf (by exact cW rfl rfl rfl (dI.fn C5 (J _)))<|Cq nT<|Cq aC<|Nf (aV iC)<|Nf (bD isAgg3)<|Nf cJ<|Cq nT<|Cq aC<|Of<|Of<|Of<|Of<|Of<|Cq xX<|bF<|Kr ?_;exact⟨rfl,⟨_,rfl,by(rw[N6,hg22,hg26,hg32,hg38,hg43];rfl)⟩,rfl,rfl,rfl⟩
     refine aL follows<|Cq (aV gD)<|Cq (bD aF)<|Cq (eR aD)<|Cq rI<|Cq aC<|Nf aC<|Nf gX<|Cq nT<|Cq aC<|Nf aC<|Nf (aV gD)<|Nf (bD aF)<|Nf (by exact cW rfl rfl rfl (dI.fn C5 (hol _)))<|Cq nT<|Cq aC<|Nf aC<|Nf (aV iB)<|Nf (bD aF)<|Nf (by exact cW rfl rfl rfl (dI.fn C5 (J _)))<|Cq nT<|Cq aC<|Of<|Of<|Of<|Cq xX<|Cq aC<|Of<|Of<|Of<|Of<|Of<|Cq cD<|bF<|Kr ?_;exact⟨rfl,⟨_,rfl,by(rw[N6,hg22,hg26,hg32,hg38];rfl)⟩,rfl,rfl,rfl⟩
    refine aL follows<|Cq (aV gD)<|Cq (bD aF)<|Cq (eR aD)<|Cq rI<|Cq aC<|Nf aC<|Nf gX<|Cq nT<|Cq aC<|Nf aC<|Nf (aV gD)<|Nf (bD aF)<|Nf (by exact cW rfl rfl rfl (dI.fn C5 (hol _)))<|Cq nT<|Cq aC<|Of<|Of<|Of<|Of<|Cq xX<|Cq aC<|Of<|Of<|Of<|Cq cD<|Cq aC<|Of<|Of<|Of<|Of<|Of<|Cq cD<|bF<|Kr ?_;exact⟨rfl,⟨_,rfl,by(rw[N6,hg22,hg26,hg32];rfl)⟩,rfl,rfl,rfl⟩
   refine aL follows<|Cq (aV gD)<|Cq (bD aF)<|Cq (eR aD)<|Cq rI<|Cq aC<|Nf aC<|Nf gX<|Cq nT<|Cq aC<|Of<|Of<|Of<|Of<|Cq xX<|Cq aC<|Of<|Of<|Of<|Of<|Cq cD<|Cq aC<|Of<|Of<|Of<|Cq cD<|Cq aC<|Of<|Of<|Of<|Of<|Of<|Cq cD<|bF<|Kr ?_;exact⟨rfl,⟨_,rfl,by(rw[N6,hg22,hg26];rfl)⟩,rfl,rfl,rfl⟩
  refine aL follows<|Cq (aV gD)<|Cq (bD aF)<|Cq (eR aD)<|Cq rI<|Cq aC<|Of<|Of<|Cq xX<|Cq aC<|Of<|Of<|Of<|Of<|Cq cD<|Cq aC<|Of<|Of<|Of<|Of<|Cq cD<|Cq aC<|Of<|Of<|Of<|Cq cD<|Cq aC<|Of<|Of<|Of<|Of<|Of<|Cq cD<|bF<|Kr ?_;exact⟨rfl,⟨_,rfl,by(rw[N6,hg22];rfl)⟩,rfl,rfl,rfl⟩
 refine Cn ?_ ?_<;>intro U
 ·have hb:=U;rw[Ip hb];exact Sz aH<|aB<|Rt<|Qq
 have hb:=U;obtain ⟨q,rfl,hq,h18,h8,hlj,hpj,hv⟩:=Re (key:=key) (m:=m) hb;rw[hv];clear hv hb;have hp8:=tW h8;refine aA<|Sz (kl 9 wg)<|Sq<|Sd aC<|Zd (kc call92 (US m _ rfl))<|aE ?_;refine gC.ent (E':=[(0,sv key),(5,.ref 5 0 0 0),(9,.ref 9 0 0 0),(51,.clo 139 [.ref 961 0 0 0])]) (H':=Xh q l p m []) ?_ ?_
 ·exact(cQ.nz 905 1 9 rfl rfl ⟨⟨_,rfl,(by exact Nz.same (by(simp;done)))⟩,⟨_,rfl,(by exact Nz.same (by(simp;rfl)))⟩,⟨_,rfl,(by exact Nz.same (by(simp;rfl)))⟩,⟨_,rfl,(by exact Nz.same (by(simp;rfl)))⟩,trivial⟩ ⟨⟨_,rfl,rfl,rfl,rfl,(by exact .inr ⟨_,_,rfl,rfl,(by repeat(first|exact trivial|refine⟨(by exact Nz.own),?_⟩))⟩)⟩,⟨_,rfl,rfl,rfl,rfl,(by exact .inl ⟨rfl,(by exact AN _ _)⟩)⟩,⟨_,rfl,rfl,rfl,rfl,(by exact .inl ⟨rfl,(by(simp;done))⟩)⟩,trivial⟩ trivial)
 refine RA (id:=904) (p:=52) (p2:=53) Xi rfl call139 rfl rfl (by simp[Xi];exact⟨rfl,rfl⟩) ?_;intro x K M hx3 hx4 hx5 hx6;refine(UT m (.yld 904 0) (fun k=>(904,LR x Xi)::Xh q l p m (oq m l k)) hm (fun k=>rfl) ?_).mono ?_
 ·intro k hk;have hd:=XB m _ (wH (d:=0) (by rw[NW];exact hk));have hfl:=om m l k;have hnx:=Eg m l k;have hix:(l.map encStr)[k]?=some (encStr (l.getD k sNil)):=by
   rw[aCz,List.getD_eq_getElem?_getD,aCk (by omega)];rfl
  have X:(l.getD k sNil).size<1099511627776:=N _ (wH (by omega));obtain ⟨u,hu⟩:∃u,u=l.getD k sNil:=⟨_,rfl⟩;obtain ⟨d,hdd⟩:∃d,d=(FJ m).getD k 0:=⟨_,rfl⟩;rw[<-hdd]at hd hnx |-;rw[<-hu]at hnx hix X;have hch:=fun H=>XG u (15 - d) H X (by omega);refine .inl ⟨904,0,rfl,?_⟩;refine km [(5,.ref 5 0 0 0),(9,.ref 9 0 0 0),(10,iv (k:Int)),(11,iv (d:Int))] (Xh q l p m (oq m l k)) K M hx3 hx4 hx5 hx6 rfl rfl rfl rfl rfl ?_ ?_
  ·refine Sz aH<|Rg<|Da ?_;exact(cQ.wk (Ea<|Ea<|Eb<|Eb<|trivial) (Hc (mL (by intro p hp;simp only[Xi,aCr,aCv,or_false]at hp;rcases hp with rfl|rfl<;>(simp only[wB];rfl)))<|Hc (bQ _ _)<|Ha<|Hc (AN _ _)<|Hb<|trivial) ⟨rfl,rfl,rfl,rfl,rfl,trivial⟩)
  rw[hnx,Io];refine aE<|aL follows<|Cr [9] (fun _ h=>lh aF h)<|Cr [5] (fun _ h=>fh gD h)<|Cr [5] (fun _ h=>lh aF h)<|Cr [] (fun _ _=>aC)<|Cr [] (fun L hH=>by exact bP rfl bT rfl rfl (by omega) (by exact aCq _) hix rfl)<|Cr [] (fun _ _=>(fO isAgg9 (hi:=hix)))<|Cr [] (fun _ _=>aC)<|Cr [] (fun L hH=>by exact dB rfl rfl rfl (show IntKind.i64.wrap (15 - (d:Int))=((15 - d:Nat):Int)by rw[lI (by omega) (by omega)];omega))<|Cr [] (fun L hH=>by exact bL rfl rfl aCY rfl (hch _))<|Cr [] (fun L hH=>by exact aN [[.str (yS u (15 - d))]] rfl bT rfl rfl rfl rfl rfl (by intro r P;rw[aCi]at P;subst P;rfl))<|Cp [905] (fun L hH=>by exact cG (ps:=[[.str (yS u (15 - d))]]) rfl bT zT rfl ((hH _ rfl).trans rfl) rfl rfl rfl (fP _) rfl (by intro r P;rw[aCi]at P;subst P;rfl) (m:=1) rfl (by omega) rfl (jZ (oq m l k) (yS u (15 - d)))) ?_;refine Cp [9] (fun _ h=>sa sizeOf22 h)<|bF<|Kr ?_;exact⟨[(905,⟨(oq m l k).length+1,1,9,cH (oq m l k++[yS u (15 - d)])⟩),(9,bx 1 22 [.osl 905 ((oq m l k).length+1) 0 ((oq m l k).length+1)]),(961,SA m),(5,bx 3 25 [iv (q:Int),.pv (aU l),.pv (aU p)])],(cQ.wk trivial (Hc (mL (by intro p hp;simp only[Xi,aCr,aCv,or_false]at hp;rcases hp with rfl|rfl<;>(simp only[wB];rfl)))<|Hc (bQ _ _)<|Ha<|Hc (AN _ _)<|Hb<|trivial) ⟨rfl,rfl,rfl,rfl,rfl,trivial⟩),rfl,rfl⟩
 rintro r H' ⟨rfl,rfl⟩;refine⟨x,_,rfl,by rw[K];decide,rfl,fun z=>?_⟩;rw[M,W8 h18];have hen:∀t∈nL m l,t.size<=16:=fun t ht=>by
  rw[<-W8 h18]at ht;obtain ⟨k,hk,rfl⟩:=List.mem_map.1 ht;exact Nat.le_of_eq (QT (pK (hlj _ (wH (by rw[h18];exact List.mem_range.1 hk)))) _)
 have hel:(nL m l).length=18:=by rw[<-W8 h18,om]
 have V:∀H,RC 94 [.pv (aU (nL m l))] (sv (wA (nL m l))) H:=fun H=>Z1 (nL m l) H (by have h:=B7 (b:=16) (by decide) _ hen;rw[hel]at h;omega);obtain ⟨S,hS⟩:∃S,S=nL m l:=⟨_,rfl⟩;rw[<-hS]at V |-;have hal:(S.map encStr).length=S.length:=aCf _;refine gC.ent (cQ.fzG (id:=905) (E':=[(0,sv key),(5,.ref 5 0 0 0),(9,.ref 9 0 0 0)]) (H':=[(9,bx 1 22 [.pv (aU S)]),(5,bx 3 25 [iv (q:Int),.pv (aU l),.pv (aU p)])]) (S.map encStr) rfl (eO _) ?_ rfl ?_ ?_) ?_
 ·intro p hp;simp only[aCr,aCv,or_false]at hp;rcases hp with rfl|rfl|rfl
  ·exact⟨_,rfl,.same (by simp)⟩
  ·exact⟨_,rfl,.same (by simp;rfl)⟩
  exact⟨_,rfl,.same (by simp;rfl)⟩
 ·refine⟨⟨_,rfl,rfl,rfl,rfl,nB rfl (cA (.osl ?_) mD)⟩,⟨_,rfl,rfl,rfl,rfl,gA (by simp)⟩,trivial⟩;rw[aCx,List.drop_zero,<-hal,List.take_length]
 ·exact trivial
 refine Sd (bD aF)<|Dd (kc XR (V _))<|Zd aH<|Sq<|Sd (aV iB)<|Dd (bD aF)<|Dd (eR aD)<|Zd aC<|aE ?_;have T:(wA S).size=16:=gP _;obtain ⟨W,hA0⟩:∃W,W=wA S:=⟨_,rfl⟩;rw[<-hA0]at T |-;refine fZ (fun(k:Nat) (a:ByteArray)=>([(0,sv key),(5,.ref 5 0 0 0),(12,sv a),(68,.pv (aU p)),(69,iv ((p.map encStr).length:Int)),(70,iv (k:Int))],[(5,bx 3 25 [iv (q:Int),.pv (aU l),.pv (aU p)])])) (fun k a=>k<=p.length/\a.size=16/\sI a (p.drop k) (q / 2 ^ k)=sI W p q) (fun k a=>p.length - k) 0 W ⟨aCw _,T,by rw[List.drop_zero,Nat.pow_zero,Nat.div_one]⟩ ?_ ?_
 ·exact Wk
 rintro k a ⟨hk,ha,hf⟩;refine Sz cJ<|Sq ?_;refine Cn ?_ ?_<;>intro Z
 ·have hlt:k<p.length:=by have:=aCb Z;omega
  have hix:(p.map encStr)[k]?=some (encStr (p.getD k sNil)):=by
   rw[aCz,List.getD_eq_getElem?_getD,aCk hlt];rfl
  have Q:p.drop k=p.getD k sNil::p.drop (k+1):=by
   rw[List.drop_eq_getElem_cons hlt,List.getD_eq_getElem?_getD,aCk hlt];rfl
  have R:(p.getD k sNil).size=16:=pK (hpj _ (wH hlt));obtain ⟨o,ho⟩:∃o,o=p.getD k sNil:=⟨_,rfl⟩;rw[<-ho]at hix Q R;have hqk:q / 2 ^ k<4611686018427387904:=Nat.lt_of_le_of_lt (Nat.div_le_self _ _) (by omega);have I:=fun H=>ng a o (decide (((q / 2 ^ k % 2:Nat):Int)=1)) H (by omega) (by omega);have hbk:(decide (((q / 2 ^ k % 2:Nat):Int)=1)=true)=(q / 2 ^ k % 2=1):=by
   rw[aCm];exact propext ⟨fun h=>by omega,fun h=>by omega⟩
  simp only[hbk]at I;obtain ⟨b,hb⟩:∃b,b=(if q / 2 ^ k % 2=1 then sC o a else sC a o):=⟨_,rfl⟩;have hbs:b.size=16:=by rw[hb];split<;>exact gP _
  have hf2:sI b (p.drop (k+1)) (q / 2 ^ (k+1))=sI W p q:=by
   rw[<-hf,Q,sI,<-hb,Nat.pow_succ,Nat.div_div_eq_div_mul]
  rw[<-hb]at I;have Y:∀H,RC 95 [sv a,sv o,bv (decide (((q / 2 ^ k % 2:Nat):Int)=1))] (sv b) H:=I;refine aA<|Sq<|aE<|Sd aC<|Dd (kx bT hix)<|Dd (fO isAgg9 (hi:=hix))<|Dd aH<|Zd aH<|Rd aC<|Dd aC<|Dd (aV iC)<|Dd (bD isAgg3)<|Dd aC<|Dd (by exact ET rfl rfl rfl (by omega) (by simp[IntKind.bits];omega) (qy q k (aCq _)))<|Dd (by exact nJ rfl (by simp) rfl rfl (Ol hqk))<|Dd cF<|Dd (kc call95 (Y _))<|Zd aH<|Rd kp<|Zd aC ?_;exact⟨k+1,b,⟨by omega,hbs,hf2⟩,by omega,Wk⟩
 have hge:k=p.length:=by have:=aCc Z;omega
 subst hge;rw[List.drop_length,sI]at hf;rw[<-hf];exact aS<|Sd aC<|Dd aC<|Dd vF<|Zd aH<|aB<|Rt<|Qq
end Go.Proofs.YtmdicgjnmfolfaaGreatDoor
namespace Go.Abs
open Go.Proofs
section
section
variable{P:Program}{N:Nat}{o:Oper}{E:dC}{H:aG}{t t':TypeId}{x:Operand}
theorem PF(e:o.op=.binOp .neq t x (.const .nilIface) t')(d:P.underlying t=some (.interface (P.methodsAt t)))(f:aO E x=some (.pv KG)):cK P N o E H (.pv (.bool false)) H :=.of_run fun a w I ι _ b=>⟨.bool _,by
  have c:=(aI b f).sat_inv;have g:a.eval (.const _)=.nilIface:=rfl;simp[execOp,e,c,g,eqGuard,Sem.run_bind,Sem.run_pure,Result.andThen_ok,run_neq_nil_nil _ _ d,Bool.or_true,if_true,Bool.not_true,Bool.false_eq_true,if_false],.pv (.bool _)⟩
theorem GG(e:o.op=.binOp .neq t x (.const .nilIface) t')(d:P.underlying t=some (.interface (P.methodsAt t)))(f:aO E x=some (.pv ua)):cK P N o E H (.pv (.bool true)) H :=.of_run fun a w I ι _ b=>⟨.bool _,by
  obtain ⟨q,p,c⟩:=(aI b f).sat_inv;have g:a.eval (.const _)=.nilIface:=rfl;simp only[execOp,e,c,g,eqGuard,Sem.run_bind,Sem.run_pure,Result.andThen_ok,run_neq_held_nil _ _ _ _ d];rfl,.pv (.bool _)⟩
end
end
section
section
variable{P:Program}{N:Nat}{o:Oper}{E:dC}{H:aG}{t t' it:TypeId}{x:Operand}
theorem VRel.ifc_inv{w}{I}{ι}{v}{p}(h:VRel w I ι H v (.pv (.ifc t p))):∃u,v=.iface t u/\PRep w I u p:=by
 cases h with
 |pv h=>cases h with
  |ifc _ u _ h=>simp_all
theorem VRel.ifa_inv{w}{I}{ι}{v}{ps}(h:VRel w I ι H v (.pv (.ifa t ps))):∃cs,v=.iface t (.agg cs)/\cs.size=ps.length/\∀(k:Nat) (c) (p),cs[k]?=some c->ps[k]?=some p->PRep w I c p:=by
 cases h with
 |pv h=>cases h with
  |ifa _ cs _ hl h=>grind
theorem fR{p}(b:o.op=.makeInterface t x)(e:P.concrete t=true)(c:aO E x=some (.pv p)):cK P N o E H (.pv (.ifc t p)) H :=.of_run fun a w I ι _ d=>⟨.iface t _,by simp[execOp,b,run_makeInterface _ _ _ e],.pv (.ifc _ _ _ (aI d c).pv_inv)⟩
theorem IB{ps}(f:o.op=.makeInterface t x)(e:P.concrete t=true)(g:aO E x=some (.agg (ps.map .pv))):cK P N o E H (.pv (.ifa t ps)) H :=.of_run fun a w I ι _ i=>⟨.iface t (a.eval x),by simp[execOp,f,run_makeInterface _ _ _ e],by
  have h:=aI i g;generalize a.eval x=c at h;cases h with
  | @agg vs _ hl h1 d =>
   refine .pv (.ifa _ _ _ (by simp_all) fun k c p b hp=>?_);exact(d k c (.pv p) b (by simp_all)).pv_inv⟩
theorem ez{d}{u}(w)(hd:P.underlying t=some d)(hni:∀c,d≠.interface c):(Instr.typeAssert (.iface t' u) it t true).run P w=if t'=t then .ok (.tuple #[u,.bool true]) w else((do pure (.tuple #[<-zeroValue t,.bool false])):Sem _).run P w:=by
 unfold Instr.typeAssert;rw[Sem.run_bind,run_underlying hd]
 simp_all
theorem D5(h:P.concrete t=true):∃d,P.underlying t=some d/\∀a,d≠.interface a:=by
 unfold Program.concrete at h;cases hd:P.underlying t with
 |none=>simp_all
 |some d =>
  grind
theorem wX{p}(h:o.op=.typeAssert x it t true)(j:P.concrete t=true)(k:aO E x=some (.pv (.ifc t p))):cK P N o E H (.tup [.pv p,.pv (.bool true)]) H:=by
 obtain ⟨d,m,b⟩:=D5 j;refine .of_run fun a w I ι _ l=>?_;obtain ⟨u,f,g⟩:=(aI l k).ifc_inv;refine⟨.tuple #[u,.bool true],?_,?_⟩
 ·simp only[execOp,h,f];rw[Sem.run_bind,ez w m b,aCe rfl];rfl
 exact .tup rfl (fun i v a e c=>by
  match i with
  |0=>cases e;cases c;exact .pv g
  |1=>cases e;cases c;exact .pv (.bool _)
  |i+2=>simp at c)
theorem PD{ps:List PV}(B:o.op=.typeAssert x it t true)(z:P.concrete t=true)(y:aO E x=some (.pv (.ifa t ps))):cK P N o E H (.tup [.agg (ps.map .pv),.pv (.bool true)]) H:=by
 obtain ⟨d,s,j⟩:=D5 z;refine .of_run fun a w I ι _ C=>?_;obtain ⟨u,r,hl,A⟩:=(aI C y).ifa_inv;refine⟨.tuple #[.agg u,.bool true],?_,?_⟩
 ·simp only[execOp,B,r];rw[Sem.run_bind,ez w s j,aCe rfl];rfl
 have n:∀(k:Nat) (c:Value),u[k]?=some c->∃p,ps[k]?=some p/\PRep w I c p:=fun k c e=>by
  have f:k<ps.length:=by grind
  exact⟨ps[k],aCk f,A k c _ e (aCk f)⟩
 exact .tup rfl (fun i v a m h=>by
  match i with
  |0 =>
   cases m;cases h;refine .agg (by simp_all) (fun k c e=>?_) (fun k c b e q=>?_)
   ·obtain ⟨p,_,g⟩:=n k c e;exact g.oneCell
   obtain ⟨p,l,g⟩:=n k c e;rw[aCz,l]at q;cases q;exact .pv g
  |1=>cases m;cases h;exact .pv (.bool _)
  |i+2=>simp at h)
theorem Pm{cells}(l:o.op=.typeAssert x it t true)(h:P.concrete t=true)(j:eL P t cells)(b:t'≠t)
  (m:∀(a) (w) (I) (ι),kS w I ι H E a->∃u,a.eval x=.iface t' u):cK P N o E H (.tup [.any,.pv (.bool false)]) H:=by
 obtain ⟨d,p,e⟩:=D5 h;obtain ⟨z,v0,f,_,_⟩:=j;refine .of_run fun a w I ι _ n=>?_;obtain ⟨u,k⟩:=m a w I _ n;refine⟨.tuple #[z,.bool false],?_,?_⟩
 ·simp only[execOp,l,k];rw[Sem.run_bind,ez w p e,aCd b,Sem.run_bind,f w];rfl
 exact .tup rfl (fun i v a g c=>by
  match i with
  |0=>cases c;exact .any _
  |1=>cases g;cases c;exact .pv (.bool _)
  |i+2=>simp at c)
theorem mB{cells}{p}(f:o.op=.typeAssert x it t true)(c:P.concrete t=true)(d:eL P t cells)(hne:Nat.beq t' t=false)(g:aO E x=some (.pv (.ifc t' p))):cK P N o E H (.tup [.any,.pv (.bool false)]) H :=Pm f c d (fun e=>by simp_all) (fun a w I ι b=>let ⟨u,e,_⟩:=(aI b g).ifc_inv;⟨u,e⟩)
theorem BY{cells}{ps}(f:o.op=.typeAssert x it t true)(c:P.concrete t=true)(d:eL P t cells)(hne:Nat.beq t' t=false)(g:aO E x=some (.pv (.ifa t' ps))):cK P N o E H (.tup [.any,.pv (.bool false)]) H :=Pm f c d (fun e=>by simp_all) (fun a w I ι b=>let ⟨u,e,_⟩:=(aI b g).ifa_inv;⟨_,e⟩)
end
end
section
section
variable{P:Program}{N:Nat}{o:Oper}{E:dC}{H:aG}{T T' t:TypeId}{x y:Operand}
theorem JY{e f:TypeId}{ty:TypeId}{a:Array Value}(w:World)(d:P.underlying T=some (.slice e))(c:P.underlying T'=some (.slice f)):(Builtin.append_ #[T,T'] ty a).run P w=(Builtin.append_ #[T,T] ty a).run P w:=by
 unfold Builtin.append_;cases h0:a[0]? with
 |none=>rfl
 | some s =>
  cases h1:a[1]? with
  |none=>rfl
  |some u =>
   cases s<;>simp[Sem.run_bind,run_underlying d,run_underlying c]
theorem KB{e d}{v}{H2}(g:o.op=.call {callee:=.builtin .append,args:=#[x,y],argTypes:=#[T,T']})(i:P.underlying T=some (.slice e))(c:P.underlying T'=some (.slice d))
  (h:cK P N {o with op:=.call {callee:=.builtin .append,args:=#[x,y],argTypes:=#[T,T]}} E H v H2):cK P N o E H v H2:=by
 intro a w I ι j m k l K Q f;have b:=h a w I _ j m k l K Q f;unfold Oper.wpW execOp at b |-;simp[g,resolve,invoke,builtin,Sem.run_bind,Sem.run_pure,Result.andThen_ok,List.map_toArray,List.map_cons,List.map_nil,JY w i c]at b |-;exact b
theorem qb{e z}{id g n m k sz bytes:Nat}{ob}{ps}{rows'}(q:o.op=.call {callee:=.builtin .append,args:=#[x,y],argTypes:=#[T,T']})(i:P.underlying T'=some (.slice z))(hS:fC P T e sz)(d:EI P e sz bytes)
  (j:aO E x=some (.osl id g 0 n)) (u:H.get id=some ob) (w:ob.g=g) (c:ob.sz=sz) (f:ob.ty=e) (s:ob.rows.length=n)
  (l:aO E y=some (.pv (.sl ps))) (h:∀r∈ps,r.length=sz) (p:ps.length=m) (a:(n+m)*bytes<=140737488355328) (v:n+m=k) (b:ob.rows++ps.map (·.map AV.pv)=rows') :
  cK P N o E H (.osl id (g+1) 0 k) ((id,⟨g+1,sz,e,rows'⟩)::H) :=
 KB q hS.1 i (cG rfl hS d j u w c f s l h p a v b)
end
end
end Go.Abs
namespace Go.Proofs.YtmdicgjnmfolfaaGreatDoor
open Go.Proofs.Tryz
open Go.Abs
variable{l:List _}
inductive IV where
 |n (x:Int)
 |t (s:ByteArray)
 |b (x:Bool)
 |l (ts:List ByteArray)
 |z (i:Int) (a b:List ByteArray)
 |p (ps:List (Int×Int))
def fQ(q:Int×Int):List PV:=[.int .i64 q.1,.int .i64 q.2]
def vE(l:List (Int×Int)):PV:=.sl (l.map fQ)
def aB6:IV->PV
 |.n x=>.ifc 3 (.int .i64 x)
 |.t s=>.ifc 9 (.str s)
 |.b x=>.ifc 4 (.bool x)
 |.l ts=>.ifc 22 (aU ts)
 |.z i a b=>.ifa 25 [.int .i64 i,aU a,aU b]
 |.p ps=>.ifc 26 (vE ps)
def zG(v:IV):List PV:=[aB6 v]
def fI:IV->List ByteArray
 |.n x=>[aY x]
 |.t s=>[s]
 |.b x=>[aY (if x then 1 else 0)]
 |.l ts=>aY (ts.length:Int)::ts
 |.z i a b=>aY i::((aY (a.length:Int)::a)++(aY (b.length:Int)::b))
 |.p ps=>aY (ps.length:Int)::ps.flatMap fun q=>[aY q.1,aY q.2]
def gI:IV->Nat
 |.n _=>1
 |.t _=>1
 |.b _=>1
 |.l _=>2
 |.z _ _ _=>5
 |.p ps=>1+2*ps.length
def Jw:IV->Nat
 |.n _=>0
 |.t _=>0
 |.b _=>1
 |.l _=>1
 |.z _ _ _=>2
 |.p _=>1
def pL(x:Int):Prop := -9223372036854775808<=x/\x<=9223372036854775807
def Zw:IV->Prop
 |.n x=>pL x
 |.t _=>True
 |.b _=>True
 |.l ts=>ts.length<1099511627776
 |.z i a b=>pL i/\a.length<1099511627776/\b.length<1099511627776
 |.p ps=>ps.length<1099511627776/\∀q∈ps,pL q.1/\pL q.2
def uB(l:List IV):List ByteArray:=l.flatMap fI
def oi(l:List IV):Nat:=(l.map gI).sum
theorem Ee{k}{v}(h:l[k]?=some v):uB (l.take (k+1))=uB (l.take k)++fI v:=by rw[List.take_add_one,h];simp[uB]
theorem Du{k}{v}(h:l[k]?=some v):oi (l.take (k+1))=oi (l.take k)+gI v:=by rw[oi,List.take_add_one,h,List.map_append,List.sum_append];rfl
theorem Uv(l)(k):(uB (l.take k)).length<=(uB l).length:=by
 have h:uB l=uB (l.take k)++uB (l.drop k):=by rw[uB,uB,uB,<-List.flatMap_append,List.take_append_drop]
 rw[h,aCg];omega
def fH(g:Nat)(L:List ByteArray):aG:=[(971,⟨g,1,9,cH L⟩),(970,bx 1 72 [.osl 971 g 0 L.length])]
theorem Ef(g)(L)(s):fH (g+1) (L++[s])=[(971,⟨g+1,1,9,cH (L++[s])⟩),(970,bx 1 72 [.osl 971 (g+1) 0 (L.length+1)])]:=by simp[fH]
theorem dR{P:Program}{t}{d}(h:P.underlying t=some d)(hd:(match d with|.interface _=>false|_=>true)=true):P.concrete t=true:=by
 unfold Program.concrete
 grind
theorem QH(l:List _):∀r∈l.map zG,r.length=1:=fun r a=>by
 obtain ⟨t,_,rfl⟩:=List.mem_map.1 a;rfl
def Hl(r:Nat):Prop:=∀(l:List IV),(∀v∈l,Jw v<r/\Zw v)->∀(g:Nat) (L:List ByteArray),l.length<1099511627776->L.length+(uB l).length<1099511627776 ->
 aW Tryz.prog 40 [.ref 970 0 0 0,.pv (.sl (l.map zG))] (fH g L) (fun r H'=>r=.tup []/\H'=fH (g+oi l) (L++uB l))
def NH(ps:List (Int×Int)):List ByteArray:=ps.flatMap fun q=>[aY q.1,aY q.2]
theorem NG:∀ps,(NH ps).length=2*ps.length
 | []=>rfl
 |q::r=>by
  have ih:=NG r;rw[show NH _=aY _::aY _::NH r from rfl,aCh,aCh,aCh];omega
theorem Ak{ps:List _}{j}{q}(h:ps[j]?=some q):NH (ps.take (j+1))=NH (ps.take j)++uB [.n q.1,.n q.2]:=by rw[NH,List.take_add_one,h,List.flatMap_append];rfl
theorem cn{args}{g d}{L c}{H}(h:aW Tryz.prog 40 args (fH g L) (fun r H'=>r=.tup []/\H'=fH d c))(e:RT H (fH g L))(f:∀a∈args,Clo (fH g L) a):
  aW Tryz.prog 40 args H (fun r H'=>r=.tup []/\H'=fH d c++H):=aW.frame h (RT.sub e) (eE.ofL ⟨(bQ _ _),(by(simp;rfl)),trivial⟩) f (fun id h=>.inl (nt h))
theorem gY(A b):cH A++(b.map encStr).map (·.map AV.pv)=cH (A++b):=by rw[<-eO,cH,cH,cH,List.map_append]
theorem Iz(a:List _):∀r∈a.map encStr,r.length=1:=fun r b=>by
 obtain ⟨t,_,rfl⟩:=List.mem_map.1 b;rfl
theorem Mx(g)(A B):fH g (A++B)=[(971,⟨g,1,9,cH (A++B)⟩),(970,bx 1 72 [.osl 971 g 0 (A.length+B.length)])]:=by simp[fH]
theorem Gt(r:Nat)(ih:∀q,q<r->Hl q):Hl r:=by
 intro l hl g L hll hLl;have hml:(l.map zG).length=l.length:=aCf _;have one:∀(y:Int),pL y->1<r->∀(g':Nat) (S:List ByteArray),S.length+1<1099511627776->aW Tryz.prog 40 [.ref 970 0 0 0,.pv (.sl [zG (.n y)])] (fH g' S) (fun r H'=>r=.tup []/\H'=fH (g'+1) (S++[aY y])):=fun y O h1 g' S hs =>
  ih 1 h1 [.n y] (fun v C=>by rw[aCi]at C;subst C;exact⟨by simp[Jw],O⟩) g' S (by simp) hs
 refine Bd func40 rfl ntmps40<|Sd aC<|Dd (eR underlying133)<|Zd aC<|aE ?_;refine bJ (σ:=Nat) (fun k=>([(0,.ref 970 0 0 0),(14,.pv (.sl (l.map zG))),(15,iv ((l.map zG).length:Int)),(16,iv (k:Int))],fH (g+oi (l.take k)) (L++uB (l.take k)))) (fun k=>k<=l.length) (fun k=>l.length - k) 0 (aCw _) ?_ ?_
 ·simp only[uB,oi,List.take_zero,List.flatMap_nil,List.map_nil,List.sum_nil,Nat.add_zero,List.append_nil];exact(cQ.wk (Ea<|Eb<|Eb<|Eb<|trivial) (Hc (bQ _ _)<|Ha<|trivial) ⟨rfl,rfl,trivial⟩)
 intro k hk;refine Sz cJ<|Sq ?_;refine Cn ?_ ?_<;>intro hc1
 ·have hlt:k<l.length:=by have:=aCb hc1;omega
  obtain ⟨v,C⟩:=aT hlt;obtain ⟨H,M⟩:=hl v (aCp C);have E:=cE (f:=zG) C;have hfn:=Ee C;have hgn:=Du C;have Y:=Uv l (k+1);rw[hfn]at Y;obtain ⟨L1,hL1⟩:∃L1,L1=L++uB (l.take k):=⟨_,rfl⟩;obtain ⟨g1,hg1⟩:∃g1,g1=g+oi (l.take k):=⟨_,rfl⟩;have D:L++uB (l.take (k+1))=L1++fI v:=by simp_all
  have A:g+oi (l.take (k+1))=g1+gI v:=by omega
  have hsz:L1.length+(fI v).length<1099511627776:=by
   grind
  have hwk:IntKind.i64.wrap ((k:Int)+1)=((k+1:Nat):Int):=by rw[lI (by omega) (by omega)];omega
  rw[<-hL1,<-hg1];clear hfn hgn Y;cases v with
  |n x =>
   have hx:pL x:=M;have hsz:L1.length+1<1099511627776:=hsz;refine aA<|Sq<|aE<|Sd (by exact bP rfl yF rfl rfl (by omega) (by rfl) E rfl)<|Dd (fO uQ (hi:=E))<|Zd aH<|Sz aC<|aE<|Sd (by exact wX rfl (dR underlying3 rfl) rfl)<|Dd eG<|Zd eG ?_;refine Cn ?_ ?_<;>intro hc2
   ·refine Sz aH<|aL follows<|Cr [970] (fun _ _=>aC)<|Cr [970] (fun _ _=>aC)<|Cr [970] (fun X I=>by exact fY rfl rfl ((I _ rfl).trans rfl) rfl)<|Cr [970] (fun _ h=>lh FL h)<|Cr [] (fun _ _=>aC)<|Cr [] (fun X I=>by exact bL rfl rfl qR rfl (vX x hx.1 hx.2 _))<|Cr [] (fun X I=>by exact aN [[.str (aY x)]] rfl ep rfl rfl rfl rfl rfl (by simp_all))<|Cp [971] (fun X I=>by exact cG (ps:=[[.str (aY x)]]) rfl ep zT rfl ((I _ rfl).trans rfl) rfl rfl rfl (fP _) rfl (by simp_all) (m:=1) rfl (by omega) rfl (jZ L1 (aY x)))<|Cr [970] (fun X I=>by exact fY rfl rfl ((I _ rfl).trans rfl) rfl)<|Cp [970] (fun _ h=>sa LB h) ?_;refine bF<|Kr<|Rd (ka hwk)<|Zd aC ?_;refine⟨k+1,by omega,by omega,?_⟩;dsimp only;rw[D,A,show fI (.n x)=[aY x]from rfl,show gI (.n x)=1 from rfl,Ef];exact(cQ.wk (Ea<|Eb<|Eb<|Eb<|trivial) (Hc (bQ _ _)<|Ha<|trivial) ⟨rfl,rfl,trivial⟩)
   cases hc2
  |t s =>
   have hsz:L1.length+1<1099511627776:=hsz;refine aA<|Sq<|aE<|Sd (by exact bP rfl yF rfl rfl (by omega) (by rfl) E rfl)<|Dd (fO uQ (hi:=E))<|Zd aH<|Sz aC<|aE<|Sd (by exact mB rfl (dR underlying3 rfl) Qv rfl rfl)<|Dd eG<|Zd eG ?_;refine Cn ?_ ?_<;>intro hc3
   ·cases hc3
   refine Sd (by exact wX rfl (dR underlying9 rfl) rfl)<|Dd eG<|Zd eG ?_;refine Cn ?_ ?_<;>intro hc4
   ·refine Sz aH<|Rd aC<|Dd aC<|Dd vS<|Dd (bD FL)<|Dd aC<|Dd (by exact aN [[.str s]] rfl ep rfl rfl rfl rfl rfl (by simp_all))<|Dd (by exact cG (ps:=[[.str s]]) rfl ep zT rfl rfl rfl rfl rfl (fP _) rfl (by simp_all) (m:=1) rfl (by omega) rfl (jZ L1 s))<|Dd vS<|Uu (iP LB)<|Zz<|Rd (ka hwk)<|Zd aC ?_;refine⟨k+1,by omega,by omega,?_⟩;dsimp only;rw[D,A,show fI (.t s)=[s]from rfl,show gI (.t s)=1 from rfl,Ef];exact(cQ.wk (Ea<|Eb<|Eb<|Eb<|trivial) (Hc (bQ _ _)<|Ha<|trivial) ⟨rfl,rfl,trivial⟩)
   cases hc4
  |b x =>
   have B:1<r:=H;have hsz:L1.length+1<1099511627776:=hsz;refine aA<|Sq<|aE<|Sd (by exact bP rfl yF rfl rfl (by omega) (by rfl) E rfl)<|Dd (fO uQ (hi:=E))<|Zd aH<|Sz aC<|aE<|Sd (by exact mB rfl (dR underlying3 rfl) Qv rfl rfl)<|Dd eG<|Zd eG ?_;refine Cn ?_ ?_<;>intro hc5
   ·cases hc5
   refine Sd (by exact mB rfl (dR underlying9 rfl) Ig rfl rfl)<|Dd eG<|Zd eG ?_;refine Cn ?_ ?_<;>intro hc6
   ·cases hc6
   refine Sd (by exact wX rfl (dR eM rfl) rfl)<|Dd eG<|Zd eG ?_;refine Cn ?_ ?_<;>intro hc7
   ·refine Sz aH<|Rd aC<|Dd (by exact DO (id:=948) Fj rfl rfl)<|Uu (by exact LH (κ:=Fj) (.inr rfl) underlying134 eM rfl rfl rfl rfl rfl rfl rfl rfl)<|Dd aC<|Dd aC<|Dd (by exact PG (κ:=Fj) rfl underlying134 eM rfl rfl rfl rfl rfl wM (.inl rfl))<|Dd (by exact fR (p:=.int .i64 (if x then 1 else 0)) rfl (dR underlying3 rfl) (by cases x<;>rfl))<|Dd (by exact aN [zG (.n (if x then 1 else 0))] rfl yF rfl rfl rfl rfl rfl (by intro r hr;rw[aCi]at hr;subst hr;rfl))<|Zd (by exact bL rfl rfl xY rfl (cn (one (if x then 1 else 0) (by cases x<;>exact⟨by decide,by decide⟩) B g1 L1 hsz) ⟨rfl,rfl,trivial⟩ (by simp;rfl)))<|Rd (ka hwk)<|Zd aC ?_;refine⟨k+1,by omega,by omega,?_⟩;dsimp only;rw[D,A,show fI (.b x)=[aY (if x then 1 else 0)]from rfl,show gI (.b x)=1 from rfl];exact(cQ.wk (Ea<|Eb<|Eb<|Eb<|trivial) (Hc (bQ _ _)<|Ha<|trivial) ⟨rfl,rfl,trivial⟩)
   cases hc7
  |l F =>
   have B:1<r:=H;have hsz:L1.length+(F.length+1)<1099511627776:=hsz;have G:(F.map encStr).length=F.length:=aCf _;obtain ⟨y,O⟩:∃y,y=((F.map encStr).length:Int):=⟨_,rfl⟩;have N:pL y:=⟨by omega,by omega⟩;have K:L1++fI (.l F)=(L1++[aY y])++F:=by rw[O,G,List.append_assoc];rfl
   have P:(L1++[aY y]).length=L1.length+1:=by rw[aCg];rfl
   refine aA<|Sq<|aE<|Sd (kx yF E)<|Dd (fO uQ (hi:=E))<|Zd aH<|Sz aC<|aE<|Sd (by exact mB rfl (dR underlying3 rfl) Qv rfl rfl)<|Dd eG<|Zd eG ?_;refine Cn ?_ ?_<;>intro hc8
   ·cases hc8
   refine Sd (by exact mB rfl (dR underlying9 rfl) Ig rfl rfl)<|Dd eG<|Zd eG ?_;refine Cn ?_ ?_<;>intro hc9
   ·cases hc9
   refine Sd (by exact mB rfl (dR eM rfl) zo4 rfl rfl)<|Dd eG<|Zd eG ?_;refine Cn ?_ ?_<;>intro hc10
   ·cases hc10
   refine Sd (by exact wX rfl (dR aD rfl) rfl)<|Dd eG<|Zd eG ?_;refine Cn ?_ ?_<;>intro hc11
   ·refine Sz aH<|Sd aC<|Dd aC<|Dd (by exact cK.eqJ (mY rfl bT.1 rfl) (congrArg (fun n:Int=>AV.pv (.int .i64 n)) O.symm))<|Dd (by exact fR (p:=.int .i64 y) rfl (dR underlying3 rfl) rfl)<|Dd (by exact aN [zG (.n y)] rfl yF rfl rfl rfl rfl rfl (by intro r hr;rw[aCi]at hr;subst hr;rfl))<|Zd (kc xY (cn (one y N B g1 L1 (by omega)) ⟨rfl,rfl,trivial⟩ (by simp;rfl)))<|Rd aC<|Dd aC<|Dd vS<|Dd (bD FL)<|Dd aC<|Dd (by exact qb (ps:=F.map encStr) rfl aD ep zT rfl rfl rfl rfl rfl (fP _) rfl (Iz F) (m:=F.length) G (by rw[P];omega) rfl (gY (L1++[aY y]) F))<|Dd vS<|Uu (iP LB)<|Zz<|Rd (ka hwk)<|Zd aC ?_;refine⟨k+1,by omega,by omega,?_⟩;dsimp only;rw[D,A,K,show gI (.l F)=2 from rfl,Mx (g1+2) (L1++[aY y]) F];exact(cQ.wk (Ea<|Eb<|Eb<|Eb<|trivial) (Hc (bQ _ _)<|Ha<|trivial) ⟨rfl,rfl,trivial⟩)
   cases hc11
  | z i a b =>
   have h2r:2<r:=H;obtain ⟨hio,hao,hbo⟩:pL i/\a.length<1099511627776/\b.length<1099511627776:=M;have e3:uB [.n i,.l a,.l b]=fI (.z i a b):=by simp[uB,fI]
   have h3:=ih 2 h2r [.n i,.l a,.l b] (by
    intro v C;simp only[aCr,aCv,or_false]at C;rcases C with rfl|rfl|rfl
    ·exact⟨by simp[Jw],hio⟩
    ·exact⟨by simp[Jw],hao⟩
    exact⟨by simp[Jw],hbo⟩) g1 L1 (by simp) (by rw[e3];exact hsz)
   rw[e3]at h3;refine aA<|Sq<|aE<|Sd (kx yF E)<|Dd (fO uQ (hi:=E))<|Zd aH<|Sz aC<|aE<|Sd (by exact BY rfl (dR underlying3 rfl) Qv rfl rfl)<|Dd eG<|Zd eG ?_;refine Cn ?_ ?_<;>intro hc12
   ·cases hc12
   refine Sd (by exact BY rfl (dR underlying9 rfl) Ig rfl rfl)<|Dd eG<|Zd eG ?_;refine Cn ?_ ?_<;>intro R
   ·cases R
   refine Sd (by exact BY rfl (dR eM rfl) zo4 rfl rfl)<|Dd eG<|Zd eG ?_;refine Cn ?_ ?_<;>intro W
   ·cases W
   refine Sd (by exact BY rfl (dR aD rfl) Wx rfl rfl)<|Dd eG<|Zd eG ?_;refine Cn ?_ ?_<;>intro V
   ·cases V
   refine Sd (by exact PD (ps:=[.int .i64 i,aU a,aU b]) rfl (dR iG rfl) rfl)<|Dd eG<|Zd eG ?_;refine Cn ?_ ?_<;>intro hc16
   ·refine Sd (kl 10 X9)<|Uu (iP sizeOf25)<|Zz<|Rd aC<|Dd (aV iC)<|Dd (bD isAgg3)<|Dd (by exact fR (p:=.int .i64 i) rfl (dR underlying3 rfl) rfl)<|Dd (aV gD)<|Dd (bD aF)<|Dd (by exact fR (p:=aU a) rfl (dR aD rfl) rfl)<|Dd (aV iB)<|Dd (bD aF)<|Dd (by exact fR (p:=aU b) rfl (dR aD rfl) rfl)<|Dd (by exact aN [zG (.n i),zG (.l a),zG (.l b)] rfl yF rfl rfl rfl rfl rfl (by intro r hr;simp only[aCr,aCv,or_false]at hr;rcases hr with rfl|rfl|rfl<;>rfl))<|Zd (kc xY (cn h3 ⟨rfl,rfl,trivial⟩ (by simp;rfl)))<|Rd (ka hwk)<|Zd aC ?_;refine⟨k+1,by omega,by omega,?_⟩;dsimp only;rw[D,A];exact(cQ.wk (Ea<|Eb<|Eb<|Eb<|trivial) (Hc (bQ _ _)<|Ha<|trivial) ⟨rfl,rfl,trivial⟩)
   cases hc16
  | p ps =>
   have B:1<r:=H;obtain ⟨hpl,hpo⟩:ps.length<1099511627776/\∀q∈ps,pL q.1/\pL q.2:=M;have hfp:∀j,NH (ps.take j)=(ps.take j).flatMap (fun q=>[aY q.1,aY q.2]):=fun _=>rfl;have hsz:L1.length+(1+2*ps.length)<1099511627776:=by
    have:(fI (.p ps)).length=1+2*ps.length:=by rw[show fI (.p ps)=aY (ps.length:Int)::NH ps from rfl,aCh,NG];omega
    omega
   have G:(ps.map fQ).length=ps.length:=aCf _;obtain ⟨y,O⟩:∃y,y=((ps.map fQ).length:Int):=⟨_,rfl⟩;have N:pL y:=⟨by omega,by omega⟩;have K:L1++fI (.p ps)=(L1++[aY y])++NH ps:=by rw[O,G,List.append_assoc];rfl
   refine aA<|Sq<|aE<|Sd (kx yF E)<|Dd (fO uQ (hi:=E))<|Zd aH<|Sz aC<|aE<|Sd (by exact mB rfl (dR underlying3 rfl) Qv rfl rfl)<|Dd eG<|Zd eG ?_;refine Cn ?_ ?_<;>intro Q
   ·cases Q
   refine Sd (by exact mB rfl (dR underlying9 rfl) Ig rfl rfl)<|Dd eG<|Zd eG ?_;refine Cn ?_ ?_<;>intro Z
   ·cases Z
   refine Sd (by exact mB rfl (dR eM rfl) zo4 rfl rfl)<|Dd eG<|Zd eG ?_;refine Cn ?_ ?_<;>intro U
   ·cases U
   refine Sd (by exact mB rfl (dR aD rfl) Wx rfl rfl)<|Dd eG<|Zd eG ?_;refine Cn ?_ ?_<;>intro hc20
   ·cases hc20
   refine Sd (by exact mB rfl (dR iG rfl) X9 rfl rfl)<|Dd eG<|Zd eG ?_;refine Cn ?_ ?_<;>intro T
   ·cases T
   refine Sd (by exact wX rfl (dR dH rfl) rfl)<|Dd eG<|Zd eG ?_;refine Cn ?_ ?_<;>intro hc22
   ·refine Sz aH<|Sd aC<|Dd aC<|Dd (by exact cK.eqJ (mY rfl JW.1 rfl) (congrArg (fun n:Int=>AV.pv (.int .i64 n)) O.symm))<|Dd (by exact fR (p:=.int .i64 y) rfl (dR underlying3 rfl) rfl)<|Dd (by exact aN [zG (.n y)] rfl yF rfl rfl rfl rfl rfl (by intro r hr;rw[aCi]at hr;subst hr;rfl))<|Zd (kc xY (cn (one y N B g1 L1 (by omega)) ⟨rfl,rfl,trivial⟩ (by simp;rfl)))<|Sd aC<|Dd (eR dH)<|Zd aC<|aE ?_;refine bJ (σ:=Nat) (fun j=>([(0,.ref 970 0 0 0),(14,.pv (.sl (l.map zG))),(15,iv ((l.map zG).length:Int)),(16,iv (k:Int)),(95,.pv (vE ps)),(96,iv ((ps.map fQ).length:Int)),(97,iv (j:Int))],fH (g1+1+2*j) ((L1++[aY y])++NH (ps.take j)))) (fun j=>j<=ps.length) (fun j=>ps.length - j) 0 (aCw _) ?_ ?_
    ·rw[show NH (ps.take 0)=[]from rfl,List.append_nil];exact(cQ.wk (Ea<|Eb<|Eb<|Eb<|Eb<|Eb<|Eb<|trivial) (Hc (bQ _ _)<|Ha<|trivial) ⟨rfl,rfl,trivial⟩)
    intro j hj;refine Sz cJ<|Sq ?_;refine Cn ?_ ?_<;>intro J
    ·have hjl:j<ps.length:=by have:=aCb J;omega
     obtain ⟨q,hq⟩:=aT hjl;have hqi:=cE (f:=fQ) hq;obtain ⟨hq1,hq2⟩:=hpo q (aCp hq);have hnx:=Ak hq;have hln:(L1++[aY y]++NH (ps.take j)).length=L1.length+1+2*j:=by rw[aCg,aCg,NG,aCt];simp;omega
     have h2:=ih 1 B [.n q.1,.n q.2] (by
      intro v C;simp only[aCr,aCv,or_false]at C;rcases C with rfl|rfl
      ·exact⟨by simp[Jw],hq1⟩
      exact⟨by simp[Jw],hq2⟩) (g1+1+2*j) (L1++[aY y]++NH (ps.take j)) (by simp) (by rw[hln];show L1.length+1+2*j+2<_;omega)
     refine aA<|Sq<|aE<|Sd (kx JW hqi)<|Dd (by exact dM rfl dO sizeOf68 rfl hqi (by simp only[Zl,encStr];rfl) rfl)<|Dd (kl 13 Qt)<|Uu (iP sizeOf68)<|Zz<|Rd aC<|Dd (aV pC)<|Dd (bD isAgg3)<|Dd (by exact fR (p:=.int .i64 q.1) rfl (dR underlying3 rfl) rfl)<|Dd (aV pB)<|Dd (bD isAgg3)<|Dd (by exact fR (p:=.int .i64 q.2) rfl (dR underlying3 rfl) rfl)<|Dd (by exact aN [zG (.n q.1),zG (.n q.2)] rfl yF rfl rfl rfl rfl rfl (by intro r hr;simp only[aCr,aCv,or_false]at hr;rcases hr with rfl|rfl<;>rfl))<|Zd (kc xY (cn h2 ⟨rfl,rfl,trivial⟩ (by simp;rfl)))<|Rd kp ?_;refine Zd aC ?_;refine⟨j+1,by omega,by omega,?_⟩;dsimp only;rw[hnx,<-List.append_assoc,show g1+1+2*(j+1)=g1+1+2*j+oi [.n q.1,.n q.2]from rfl];exact(cQ.wk (Ea<|Eb<|Eb<|Eb<|Eb<|Eb<|Eb<|trivial) (Hc (bQ _ _)<|Ha<|trivial) ⟨rfl,rfl,trivial⟩)
    have hjg:j=ps.length:=by have:=aCc J;omega
    subst hjg;rw[List.take_length];refine aS<|Rd (ka hwk)<|Zd aC ?_;refine⟨k+1,by omega,by omega,?_⟩;dsimp only;rw[D,A,K,show g1+gI (.p ps)=g1+1+2*ps.length from(Nat.add_assoc _ _ _).symm];exact(cQ.wk (Ea<|Eb<|Eb<|Eb<|trivial) (Hc (bQ _ _)<|Ha<|trivial) ⟨rfl,rfl,trivial⟩)
   cases hc22
 have hge:k=l.length:=by have:=aCc hc1;omega
 subst hge;rw[List.take_length];refine aS ?_;exact uP (.inl rfl) rfl Fin.refl ⟨rfl,rfl⟩
theorem Vt(r):Hl r:=Nat.strongRecOn r (fun r a=>Gt r a)
theorem Yg(v):Jw v<3:=by cases v<;>simp[Jw]
theorem ju(l)(b:∀v∈l,Zw v)(g)(L)(a:l.length<1099511627776)(d:L.length+(uB l).length<1099511627776):
  aW Tryz.prog 40 [.ref 970 0 0 0,.pv (.sl (l.map zG))] (fH g L) (fun r H'=>r=.tup []/\H'=fH (g+oi l) (L++uB l)) :=
 Vt 3 l (fun v c=>⟨Yg v,b v c⟩) g L a d
structure GSeal where
 idx:Int
 sig:List ByteArray
 path:List ByteArray
 deriving DecidableEq
structure GPriv where
 name:ByteArray
 reason:ByteArray
 sources:List ByteArray
 trace:List (Int×Int)
 sl:GSeal
 deriving DecidableEq
structure GRec where
 kind:Int
 author:Int
 number:Int
 clock:Int
 branch:ByteArray
 parents:List ByteArray
 edits:List GEdit
 target:ByteArray
 yes:Bool
 order:Int
 from':ByteArray
 sl:GSeal
 priv:GPriv
def iM(s:GSeal):List PV:=[.int .i64 s.idx,aU s.sig,aU s.path]
def nD(p:GPriv):List PV:=[.str p.name,.str p.reason,aU p.sources,vE p.trace,.int .i64 p.sl.idx,aU p.sl.sig,aU p.sl.path]
def cC(r:GRec):List PV:=[.int .i64 r.kind,.int .i64 r.author,.int .i64 r.number,.int .i64 r.clock,.str r.branch,aU r.parents,fX r.edits,.str r.target,.bool r.yes,.int .i64 r.order,.str r.from',.int .i64 r.sl.idx,aU r.sl.sig,aU r.sl.path,.str r.priv.name,.str r.priv.reason,aU r.priv.sources,vE r.priv.trace,.int .i64 r.priv.sl.idx,aU r.priv.sl.sig,aU r.priv.sl.path]
def FH(l:List ByteArray):Prop:=l.length<1099511627776/\∀t∈l,t.size<1099511627776
def tH(s:GSeal):Prop:=pL s.idx/\FH s.sig/\FH s.path
def PJ(p:GPriv):Prop:=p.name.size<1099511627776/\p.reason.size<1099511627776/\FH p.sources/\p.trace.length<1099511627776/\tH p.sl
def Sj(q:ByteArray->Bool)(l:List ByteArray)(k:Nat):Bool:=match l[k]? with|some s=>q s|none=>false
theorem Ki(q)(l):(List.range l.length).any (Sj q l)=l.any q:=U5 l q
theorem QP(f)(l)(q)(hl:l.length<1099511627776)(d:∀s∈l,dI Tryz.prog (.pv (.fn f)) [sv s] [] (fun r H'=>r=bv (q s)/\H'=[]))(H):
  RC 62 [.pv (aU l),.pv (.fn f)] (bv (l.any q)) H:=by
 refine Pu ?_;have c:=uC _ l (Sj q l) _ (by omega) (fun k s b=>by
  rw[Sj,b];exact d s (aCp b))
 rw[Ki]at c;exact c
theorem Uz(t)(b:t.size<1099511627776)(H):RC 124 [sv t] (bv (R7 t)) H:=by refine Pu ?_;exact Bd func124 rfl ntmps124<|Sz aH<|Sd aC<|Dd (bL rfl rfl aC0 rfl (Dc t b _))<|Dd iJ<|Zd aH<|aB<|Rt<|Qq
theorem KY(l)(c:FH l)(H):RC 71 [.pv (aU l)] (bv (l.all isJ)) H:=by
 refine Pu ?_;have b:=QP _ l _ c.1 (fun s d=>dI.fn call124 (Uz s (c.2 s d) _)) [];rw[JD]at b;refine Bd func71 rfl ntmps71<|Sz aH<|Sd aC<|Dd (bL rfl rfl XU rfl (b))<|Dd iJ<|Zd aH<|aB<|Rt ?_
 simp_all
def qS(s:GSeal):Bool:=decide (s.idx=0)&&decide (((s.sig.map encStr).length:Int)+((s.path.map encStr).length:Int)=0)
theorem wm(s:GSeal)(c:tH s)(H:aG):RC 81 [av (iM s)] (bv (qS s)) H:=by
 refine Pu ?_;have h1:(s.sig.map encStr).length<1099511627776:=by rw[aCf];exact c.2.1.1
 have h2:(s.path.map encStr).length<1099511627776:=by rw[aCf];exact c.2.2.1
 refine Bd func81 rfl ntmps81<|Sd (kb 1)<|Zd aH<|Sq ?_;refine aQ (t:=2) (n:=15) (X:=qS s) ?_ ?_
 ·all_goals refine Dd (aV iC) ?_
  all_goals refine Dd (bD isAgg3)<|Dd cF<|Dm ?_<;>(refine Sp 6 (fun d=>?_) fun d=>?_)<;>(first|refine Fo<|Fo<|Fo<|Fo<|Fo<|Fo<|Fo<|Fo ?_|refine On (aV gD)<|On (bD aF)<|On (eR aD)<|On (aV iB)<|On (bD aF)<|On (eR aD)<|On (by exact eA rfl rfl rfl (lI (by omega) (by omega)))<|On cF ?_)<;>refine Dd cD<|Da ?_<;>(exact⟨⟨_,rfl,by(rw[qS,d];rfl)⟩,rfl,rfl,rfl⟩)
 exact aB<|Rt<|Qq
def iW(s:GSeal):Bool:=qS s||(((((decide (0<=s.idx)&&decide (s.idx<256))&&decide (((s.sig.map encStr).length:Int)=18))&&decide (((s.path.map encStr).length:Int)<=8))&&s.sig.all isJ)&&s.path.all isJ)
theorem ao(s:GSeal)(i:tH s)(H:aG):RC 66 [av (iM s)] (bv (iW s)) H:=by
 refine Pu ?_;have l:=fun H=>wm s i H;have j:=fun H=>KY s.sig i.2.1 H;have k:=fun H=>KY s.path i.2.2 H;obtain ⟨m,b⟩:∃m,m=qS s:=⟨_,rfl⟩;rw[<-b]at l;refine Bd func66 rfl ntmps66<|Sd (kb 1)<|Zd aH<|Sq ?_;refine aQ (t:=2) (n:=41) (X:=iW s) ?_ ?_
 ·all_goals refine Dd (by exact aM rfl dK sizeOf25 rfl rfl rfl rfl (by simp only[Zl,encStr];rfl) rfl) ?_
  all_goals refine Dd (kc call81 (l _))<|Dm ?_<;>(refine Sp 5 (fun e=>?_) fun e=>?_)<;>(first|contradiction|refine Fo<|Fo<|Fo<|Fo ?_|refine On (aV iC)<|On (bD isAgg3)<|On CX<|On aC ?_)<;>(first|refine Sp 9 (fun g=>?_) fun g=>?_|refine kI (t:=9) rfl ?_)<;>(first|contradiction|refine Fo ?_|refine Fu ?_|refine On (aV iC) ?_)<;>(first|refine Fo ?_|refine Fu ?_|refine On (bD isAgg3) ?_)<;>(first|refine Fo ?_|refine Fu ?_|refine On cJ ?_)<;>(first|refine Fo<|Fo ?_|refine On cD<|On aC ?_)<;>(first|refine Sp 14 (fun c=>?_) fun c=>?_|refine kI (t:=14) rfl ?_)<;>(first|contradiction|refine Fo ?_|refine Fu ?_|refine On (aV gD) ?_)<;>(first|refine Fo ?_|refine Fu ?_|refine On (bD aF) ?_)<;>(first|refine Fo ?_|refine Fu ?_|refine On (eR aD) ?_)<;>(first|refine Fo ?_|refine Fu ?_|refine On cF ?_)<;>(first|refine Fo<|Fo ?_|refine On cD<|On aC ?_)<;>(first|refine Sp 20 (fun d=>?_) fun d=>?_|refine kI (t:=20) rfl ?_)<;>(first|contradiction|refine Fo ?_|refine Fu ?_|refine On (aV iB) ?_)<;>(first|refine Fo ?_|refine Fu ?_|refine On (bD aF) ?_)<;>(first|refine Fo ?_|refine Fu ?_|refine On (eR aD) ?_)<;>(first|refine Fo ?_|refine Fu ?_|refine On GP ?_)<;>(first|refine Fo<|Fo ?_|refine On cD<|On aC ?_)<;>(first|refine Sp 26 (fun f=>?_) fun f=>?_|refine kI (t:=26) rfl ?_)<;>(first|contradiction|refine Fo ?_|refine Fu ?_|refine On (aV gD) ?_)<;>(first|refine Fo ?_|refine Fu ?_|refine On (bD aF) ?_)<;>(first|refine Fo ?_|refine Fu ?_|refine On (kc Hz (j _)) ?_)<;>(first|refine Fo<|Fo ?_|refine On cD<|On aC ?_)<;>(first|refine Sp 31 (fun h=>?_) fun h=>?_|refine kI (t:=31) rfl ?_)<;>(first|contradiction|refine Fo ?_|refine Fu ?_|refine On (aV iB) ?_)<;>(first|refine Fo ?_|refine Fu ?_|refine On (bD aF) ?_)<;>(first|refine Fo ?_|refine Fu ?_|refine On (kc Hz (k _)) ?_)<;>(first|refine Fo ?_|refine On cD ?_)<;>refine Dd cD<|Da ?_<;>(exact⟨⟨_,rfl,by first|(rw[iW,<-b,e];rfl)|(rw[iW,<-b,e,g];rfl)|(rw[iW,<-b,e,g,c];rfl)|(rw[iW,<-b,e,g,c,d];rfl)|(rw[iW,<-b,e,g,c,d,f];rfl)|(rw[iW,<-b,e,g,c,d,f,h];rfl)⟩,rfl,rfl,rfl⟩)
 exact aB<|Rt<|Qq
def gL(p:GPriv):Bool:=decide (p.name++p.reason=sNil)&&decide (((p.sources.map encStr).length:Int)+((p.trace.map fQ).length:Int)=0)
theorem ou(p:GPriv)(d:PJ p)(H:aG):RC 80 [av (nD p)] (bv (gL p)) H:=by
 refine Pu ?_;obtain ⟨a1,a2,e,a4,a5⟩:=d;have h1:(p.sources.map encStr).length<1099511627776:=by rw[aCf];exact e.1
 have h2:(p.trace.map fQ).length<1099511627776:=by simp_all
 refine Bd func80 rfl ntmps80<|Sd (kb 1)<|Zd aH<|Sq ?_;refine aQ (t:=2) (n:=18) (X:=gL p) ?_ ?_
 ·all_goals refine Dd (aV xK) ?_
  all_goals refine Dd (bD isAgg9)<|Dd (aV xJ)<|Dd (bD isAgg9)<|Dd kq<|Dd vF<|Dm ?_<;>(refine Sp 9 (fun c=>?_) fun c=>?_)<;>(first|refine Fo<|Fo<|Fo<|Fo<|Fo<|Fo<|Fo<|Fo ?_|refine On (aV qK)<|On (bD aF)<|On (eR aD)<|On (aV lO)<|On (bD eQ)<|On (eR dH)<|On (by exact eA rfl rfl rfl (lI (by omega) (by omega)))<|On cF ?_)<;>refine Dd cD<|Da ?_<;>(exact⟨⟨_,rfl,by(rw[gL,c];rfl)⟩,rfl,rfl,rfl⟩)
 exact aB<|Rt<|Qq
theorem N4(n a b)(H):RC 60 [iv n,iv a,iv b] (bv (decide (a<=n)&&decide (n<=b))) H:=by
 refine Pu ?_;refine Bd func60 rfl ntmps60<|Sz aH<|Sq ?_;refine aQ (t:=6) (n:=10) (X:=decide (a<=n)&&decide (n<=b)) ?_ ?_
 ·all_goals refine Dd aC ?_
  all_goals refine Dd aC<|Dd CX<|Dm ?_<;>(refine Sp 10 (fun d=>?_) fun d=>?_)<;>(first|refine Fo<|Fo<|Fo ?_|refine On aC<|On aC<|On GP ?_)<;>refine Dd cD<|Da ?_<;>(exact⟨⟨_,rfl,by grind⟩,rfl,rfl,rfl⟩)
 exact aB<|Rt<|Qq
def FX(s:ByteArray):Bool:=decide (200<(s.size:Int))
theorem Ua(s)(H):RC 63 [sv s] (bv (FX s)) H:=by refine Pu ?_;exact Bd func63 rfl ntmps63<|Sz aH<|Sd aC<|Dd (gF underlying9)<|Dd gX<|Zd aH<|aB<|Rt<|Qq
theorem ly(l)(c:l.length<1099511627776)(H):RC 61 [.pv (aU l)] (bv (!l.any FX)) H:=by refine Pu ?_;have b:=QP _ l _ c (fun s hs=>dI.fn call63 (Ua s _)) [];exact Bd func61 rfl ntmps61<|Sz aH<|Sd aC<|Dd (bL rfl rfl XU rfl (b))<|Dd iJ<|Zd aH<|aB<|Rt<|Qq
end Go.Proofs.YtmdicgjnmfolfaaGreatDoor
namespace Go.Abs
section
section
variable{P:Program}{N:Nat}{o:Oper}{E:dC}{H:aG}{S T t:TypeId}{x:Operand}{id g n m:Nat}{ob:Ob}
theorem GH(y:o.op=.convert S T x)(hS:P.underlying S=some .unsafePointer)(v:P.underlying T=some (.pointer t))(hi:(P.info? t).map (·.size)=some (n+1))(q:P.cellsOf ob.ty=m+1)(k:aO E x=some (.ref id g 0 0))(s:H.get id=some ob)(i:ob.g=g)(e:ob.rows≠[])(f:ob.sz=m+1)(hl:∀c,liesAt P P.depth ob.ty (c+1) 0 t 1=true):cK P N o E H (.ref id g 0 0) H :=.of_run fun a w I ι l z=>by
  have h:=aI z k;obtain ⟨b,d,r,p,e3,e4⟩:=JZ l h s i e;obtain ⟨j,u,h2⟩:=AW hi;refine⟨_,?_,h⟩;simp only[execOp,y,r];have hq:d*ob.sz / P.cellsOf ob.ty=(d - 1)+1:=by rw[q,f,Nat.mul_div_cancel _ (by omega)];omega
  rw[Sem.run_bind,Lib.run_from_unsafe w _ hS v u p (by grind)];rfl
end
end
end Go.Abs
namespace Go.Proofs.YtmdicgjnmfolfaaGreatDoor
open Go.Proofs.Tryz
open Go.Abs
variable{s:ByteArray}{i n:Nat}
theorem aAG(c):liesAt Tryz.prog Tryz.prog.depth 245 (c+1) 0 137 1=true:=by kernel_rfl
def K6(buf:AV)(u:Bool):Ob:=⟨0,2,245,[[cd u,buf]]⟩
def pP(g:Nat)(l:List UInt8)(u:Bool):aG:=[(2001,K6 (.osl 2002 g 0 l.length) u),(2002,⟨g,1,5,fE l⟩)]
theorem QY{H}{g n}{u}(e:(H.get 2001).isSome=true)(f:(H.get 2002).isSome=true):∀r∈(K6 (.osl 2002 g 0 n) u).rows,∀a∈r,Clo H a:=by
 intro r c a d;simp[K6,aCi]at c;subst c;simp[aCr,aCv,or_false]at d;rcases d with rfl|rfl
 ·cases u<;>simp[cd,e]
 simp[f]
theorem I7(b:AV)(u:Bool)(K:aG):aW Tryz.prog 147 [.ref 2001 0 0 0] ((2001,K6 b u)::K) (fun r H'=>r=.tup []/\H'=(2001,K6 b true)::K):=by
 cases u with
 |false =>
  refine Bd vl rfl di<|Sd aC<|Dd vS<|Dd (aV yQ)<|Dd (bD CZ)<|Zd (by exact LP rfl gQ rfl rfl) ?_;refine Cn ?_ ?_<;>intro c
  ·refine Rd aC<|Dd aC<|Dd (by exact FU (n:=1) rfl gQ G6 (by rfl) rfl rfl rfl (by simp[K6]))<|Dd (by exact NI rfl rfl func182 rfl rfl rfl rfl rfl (aw (.ref 2001 0 0 0)))<|Dd (by exact GH (n:=1) (m:=1) rfl G6 gQ (by rfl) (by rfl) rfl rfl rfl (by simp[K6]) rfl aAG)<|Dd vS<|Dd (aV yQ)<|Uu (ku Vu)<|Zz ?_;exact uP (.inl rfl) rfl (Fin.get' (H':=(2001,K6 b true)::K) (fun j=>yP 2001 (K6 b true) (K6 b false) K j)) ⟨rfl,rfl⟩
  cases c
 |true =>
  refine Bd vl rfl di<|Sd aC<|Dd vS<|Dd (aV yQ)<|Dd (bD CZ)<|Zd (by exact LO rfl gQ rfl rfl rfl rfl) ?_;refine Cn ?_ ?_<;>intro c
  ·cases c
  refine Sd aC<|Dd vS<|Dd (aV yQ)<|Dd (bD CZ)<|Dd aC<|Zd (by exact IA (n:=1) rfl gQ (by rfl) rfl rfl rfl rfl) ?_;refine Cn ?_ ?_<;>intro d
  ·cases d
  refine aA ?_;exact uP (.inl rfl) rfl Fin.refl ⟨rfl,rfl⟩
theorem ca(g)(l m){n}(h:m.length=n):pP (g+1) (l++m) true=[(2001,K6 (.osl 2002 (g+1) 0 (l.length+n)) true),(2002,⟨g+1,1,5,fE (l++m)⟩)]:=by subst h;simp[pP]
theorem VD(g:Nat)(l:List UInt8)(u:Bool)(c:UInt8)(hl:l.length<70368744177664):aW Tryz.prog 110 [.ref 2001 0 0 0,.pv (.int .u8 c.toNat)] (pP g l u) (fun r H'=>r=.pv KG/\H'=pP (g+1) (l++[c]) true):=by refine Bd func110 rfl ntmps110<|Sz aH<|Sd aC<|Zd (kc RL (I7 _ u _))<|Sd aC<|Dd aC<|Dd vS<|Dd (aV gV)<|Dd (bD dX)<|Dd aC<|Dd (by exact aN [[.int .u8 c.toNat]] rfl AA rfl rfl rfl rfl rfl (by simp_all))<|Dd (by exact cG (ps:=[[.int .u8 c.toNat]]) rfl AA Qe rfl rfl rfl rfl rfl (rC l) rfl (by simp_all) (m:=1) rfl (by omega) rfl (tO l [c]))<|Dd vS<|Dd (aV gV)<|Uu (ku pF)<|Zz<|Sz aH<|aB ?_;rw[ca g l [c] (n:=1) rfl];refine dA (.inr rfl) rfl (aJ rfl) (Fin.get' (fun j=>IT (by decide) j)) ?_;exact Qq
theorem DD(g:Nat)(l:List UInt8)(u:Bool)(s:ByteArray)(hl:l.length+s.size<70368744177664):aW Tryz.prog 109 [.ref 2001 0 0 0,sv s] (pP g l u) (fun r H'=>r=.tup [iv (s.size:Int),.pv KG]/\H'=pP (g+1) (l++s.data.toList) true):=by refine Bd func109 rfl ntmps109<|Sd aH<|Zd aH<|Sd aC<|Zd (kc RL (I7 _ u _))<|Sd aC<|Dd aC<|Dd vS<|Dd (aV gV)<|Dd (bD dX)<|Dd aC<|Dd (by exact vM rfl AA underlying9 Qe MY rfl rfl rfl rfl rfl (rC l) rfl (by omega) rfl (tO l s.data.toList))<|Dd vS<|Dd (aV gV)<|Uu (ku pF)<|Zz<|Sd aC<|Dd (gF underlying9)<|Dd aH<|Zd aH<|aB ?_;rw[ca g l s.data.toList (n:=s.size) rfl];refine iN (.inr rfl) rfl (aJ rfl) (aJ rfl) (Fin.get' (fun j=>IT (by decide) j)) ?_;exact Qq
def cc(g:Nat)(l:List UInt8)(u:Bool):aG:=[(2002,⟨g+1,1,5,[]⟩),(2001,K6 (.osl 2002 g 0 l.length) u)]
theorem Ro(g:Nat)(l:List UInt8)(u:Bool)(hl:l.length<70368744177664):aW Tryz.prog 111 [.ref 2001 0 0 0] (pP g l u) (fun r H'=>r=sv ⟨l.toArray⟩/\H'=cc g l u):=by
 by_cases e:l=[]
 ·subst e;refine Bd vn rfl dk<|Sz aH<|Sq<|aL follows<|Cq aC<|Cq vS<|Cq (aV gV)<|Cq (bD dX)<|Cq (by exact DM rfl xT rfl rfl rfl)<|Cq aC<|Cq vS<|Cq (aV gV)<|Cq (bD dX)<|Cq (by exact dU rfl dG rfl rfl rfl)<|Cq (by exact yK rfl rfl rfl)<|Cq aH<|bF<|Kr<|aB ?_;refine dA (H':=(cc g [] u)) (.inr rfl) rfl (aJ rfl) (Fin.trans (Fin.deadO (id:=2002) (k:=g+1) (ob:=⟨g,1,5,fE []⟩) rfl (Nat.lt_succ_self g) Nat.zero_lt_one rfl rfl) (Fin.get' (fun j=>NS (by decide) j))) ?_;exact Qq
 have c:0<l.length:=List.length_pos_iff.2 e;refine Bd vn rfl dk<|Sz aH<|Sq<|aL follows<|Cr [2001] (fun _ _=>aC)<|Cr [2001] (fun d b=>by exact fY rfl rfl ((b _ rfl).trans rfl) rfl)<|Cr [2001] (fun _ h=>fh gV h)<|Cr [2001] (fun _ h=>lh dX h)<|Cr [2002] (fun d b=>by exact FW rfl rfl ((b _ rfl).trans rfl) rfl c)<|Cr [2001] (fun _ _=>aC)<|Cr [2001] (fun d b=>by exact fY rfl rfl ((b _ rfl).trans rfl) rfl)<|Cr [2001] (fun _ h=>fh gV h)<|Cr [2001] (fun _ h=>lh dX h)<|Cr [2002] (fun d b=>by exact dU rfl dG rfl ((b _ rfl).trans rfl) rfl)<|Cp [2001,2002] (fun d b=>by exact AH (l:=l) rfl xT (by rfl) rfl rfl ((b _ rfl).trans rfl) rfl rfl rfl rfl rfl c (by omega) rfl)<|Cr [] (fun _ _=>aH)<|bF<|Kr<|aB ?_;refine dA (H':=(cc g l u)) (.inr rfl) rfl (aJ rfl) (Fin.get' (fun j=>NS (by decide) j)) ?_;exact Qq
theorem Cl(g)(l)(u):aW Tryz.prog 162 [.ref 2001 0 0 0] (pP g l u) (fun r H'=>r=iv (l.length)/\H'=pP g l u):=by refine Bd func162 rfl ntmps162<|Sz aH<|Sd aC<|Dd vS<|Dd (aV gV)<|Dd (bD dX)<|Dd (by exact dU rfl dG rfl rfl rfl)<|Zd aH<|aB ?_;refine dA (.inr rfl) rfl (aJ rfl) Fin.refl ?_;exact Qq
def Ah(l:List UInt8)(s:ByteArray):List UInt8:=if l=[]then s.data.toList else l++32::s.data.toList
theorem Yk(g:Nat)(l:List UInt8)(u:Bool)(s:ByteArray)(hl:l.length+s.size<70368744177663):aW Tryz.prog 234 [.ref 2001 0 0 0,sv s] (pP g l u) (fun r H'=>r=.tup []/\H'=pP (if l=[]then g+1 else g+2) (Ah l s) true):=by
 have f:=VD g l u 32 (by omega);have e:=Cl g l u;rw[Ah];by_cases d:l=[]
 ·subst d;have c:=DD g [] u s (by omega);rw[aCe rfl,aCe rfl];rw[List.nil_append]at c;refine Bd func234 rfl ntmps234<|Sq<|Sd aC<|Dd vS<|Dd (aV oT)<|Dd (kc zO (e))<|Zd gX ?_;refine Cn ?_ ?_<;>intro b
  ·cases b
  refine aA<|Rd aC<|Dd vS<|Dd (aV oT)<|Dd aC<|Zd (kc oD (c)) ?_;exact uP (H':=pP (g+1) s.data.toList true) (.inl rfl) rfl Fin.refl ⟨rfl,rfl⟩
 have hpos:0<l.length:=List.length_pos_iff.2 d;have c:=DD (g+1) (l++[32]) true s (by grind);rw[aCd d,aCd d];rw[List.append_assoc]at c;refine Bd func234 rfl ntmps234<|Sq<|Sd aC<|Dd vS<|Dd (aV oT)<|Dd (kc zO (e))<|Zd gX ?_;refine Cn ?_ ?_<;>intro b
 ·refine Rd aC<|Dd vS<|Dd (aV oT)<|Zd (kc mJ (f))<|Rd aC<|Dd vS<|Dd (aV oT)<|Dd aC<|Zd (kc oD (c)) ?_;exact uP (H':=pP (g+2) (l++32::s.data.toList) true) (.inl rfl) rfl Fin.refl ⟨rfl,rfl⟩
 have:=aCc b;omega
theorem Rn{g}{l}{u}{K}:Sub (pP g l u) (pP g l u++K):=by intro j o h;rw[gJ,h]
theorem aAH{g c}{l b}{u u'}{id}(h:(aG.get (pP g l u) id).isSome=true):(aG.get (pP c b u') id).isSome=true:=nt h
theorem aAO{g a}{l b}{u u'}{K}(j):aG.get (pP g l u++(pP a b u'++K)) j=aG.get (pP g l u++K) j:=by exact(IT (by simp) j).symm
theorem Ag(K)(g)(l)(u)(s)(a:l.length+s.size<70368744177663):aW Tryz.prog 234 [.ref 2001 0 0 0,sv s] (pP g l u++K) (fun r H'=>r=.tup []/\H'=pP (if l=[]then g+1 else g+2) (Ah l s) true++K) :=(aW.frame (Yk g l u s a) Rn (eE.ofL ⟨(QY rfl rfl),(eP _ _),trivial⟩) (by simp;rfl) (fun id h=>.inl (aAH h))).congrH fun j=>(aAO j).symm
theorem NO(K)(g)(l)(u):aW Tryz.prog 162 [.ref 2001 0 0 0] (pP g l u++K) (fun r H'=>r=iv (l.length)/\H'=pP g l u++K) :=(aW.frame (Cl g l u) Rn (eE.ofL ⟨(QY rfl rfl),(eP _ _),trivial⟩) (by simp;rfl) (fun id h=>.inl h)).congrH fun j=>(aAO j).symm
def sD(c:UInt8):Option UInt8:=if c=92 then some 92 else if c=34 then some 34 else if c=110 then some 10 else none
def nG:List UInt8->Option (List UInt8×Nat)
 | []=>none
 | [c]=>if c=34 then some ([],1)else none
 |c::e::r=>if c=34 then some ([],1)else if c=10 then none else if c=92 then(sD e).bind fun b=>(nG r).map fun p=>(b::p.1,p.2+2)else(nG (e::r)).map fun p=>(c::p.1,p.2+1)
def zF(s:ByteArray):ByteArray×Int:=match nG (s.data.toList.drop 1)with
 |some (d,n)=>(⟨d.toArray⟩,((n+1:Nat):Int))
 |none=>(sNil,0)
theorem BF{r}:nG (34::r)=some ([],1):=by cases r<;>rfl
theorem JS{r}:nG (10::r)=none:=by cases r<;>rfl
theorem tT{r}{e}:nG (92::e::r)=(sD e).bind fun b=>(nG r).map fun p=>(b::p.1,p.2+2):=rfl
theorem BG{c}{r}(a:c≠34)(d:c≠10)(b:c≠92):nG (c::r)=(nG r).map fun p=>(c::p.1,p.2+1):=by
 cases r with
 |nil =>
  show (if c=34 then some _ else none)=_;rw[aCd a];rfl
 |cons e r=>rw[nG,aCd a,aCd d,aCd b]
def wN(o:Option (List UInt8×Nat))(w:List UInt8)(i:Nat):ByteArray×Int:=match o with
 |some (d,n)=>(⟨(w++d).toArray⟩,((i+n:Nat):Int))
 |none=>(sNil,0)
theorem zY{o}{w}{b}{i k}:wN (o.map fun p=>(b::p.1,p.2+k)) w i=wN o (w++[b]) (i+k):=by
 cases o with
 |none=>rfl
 |some p=>simp[wN,Option.map_some,List.append_assoc,List.singleton_append];grind
theorem xL{s}{i}(h:i<s.size):s.data.toList.drop i=oE s i::s.data.toList.drop (i+1):=by
 have a:i<s.data.toList.length:=by simp_all
 rw[List.drop_eq_getElem_cons a,oE,aCk _];rfl
theorem A1{i}(h:s.size<=i):s.data.toList.drop i=[]:=List.drop_eq_nil_of_le (by simp_all)
theorem A5{s}(a:n<256){b}(h:decide (bH s i=n)=b):decide (oE s i=UInt8.ofNat n)=b:=by rw[<-h,sO,N8 a]
theorem xk(c):(Lib.indexByte (⟨#[92,34,110]⟩:ByteArray).data.toList ((c.toNat:Int).toNat.toUInt8) = -1/\sD c=none)\/∃k:Nat,k<3/\Lib.indexByte (⟨#[92,34,110]⟩:ByteArray).data.toList ((c.toNat:Int).toNat.toUInt8)=k/\sD c=some (oE ⟨#[92,34,10]⟩ k):=by
 have j:((c.toNat:Int).toNat.toUInt8)=c:=by simp
 rw[j];by_cases f:c=92
 ·subst f;exact .inr ⟨0,by decide,by decide,by decide⟩
 by_cases g:c=34
 ·subst g;exact .inr ⟨1,by decide,by decide,by decide⟩
 by_cases e:c=110
 ·subst e;exact .inr ⟨2,by decide,by decide,by decide⟩
 refine .inl ⟨?_,by rw[sD,aCd f,aCd g,aCd e]⟩;have l:(92 == c)=false:=by grind
 have i:(34 == c)=false:=by grind
 have h:(110 == c)=false:=by grind
 simp only[Lib.indexByte,l,i,h];rfl
theorem dw(s:ByteArray)(H:aG)(hs:s.size<1099511627776):RC 238 [sv s] (.tup [sv (zF s).1,iv (zF s).2]) H:=by
 refine Pu ?_;have K:zF s=wN (nG (s.data.toList.drop 1)) [] 1:=by
  unfold zF wN
  grind
 obtain ⟨c,l⟩:∃c,c=zF s:=⟨_,rfl⟩;rw[<-l]at K |-;refine Bd func238 rfl ntmps238<|Sd aH<|Zd aH<|Sz (kl 2001 JR)<|Sq<|Sq ?_;refine gC.ent (E':=[(0,sv s),(4,.ref 2001 0 0 0)]) (H':=yA 0 [] false) (cQ.bld0 ⟨⟨_,rfl,.same (by simp)⟩,⟨_,rfl,.same (by simp;rfl)⟩,trivial⟩) ?_;refine Rg<|Zd aH<|aE ?_;refine U1 (fun(i g:Nat) (w:List UInt8) (u:Bool)=>([(0,sv s),(4,.ref 2001 0 0 0),(5,iv (i:Int))],yA g w u)) (fun i g w u=>w.length<=i/\i<2199023255552/\c=wN (nG (s.data.toList.drop i)) w i) (fun i g w u=>s.size+1 - i) 1 0 [] false ⟨aCw _,by decide,K⟩ ?_ ?_
 ·exact(cQ.wk (Eb<|Ea<|Eb<|trivial) (Hc (gM rfl rfl)<|Hc (eP _ _)<|trivial) trivial)
 rintro i g w u ⟨hwl,hib,b⟩;refine Sq<|Sd aC<|Dd aC<|Dd (gF underlying9)<|Zd cJ ?_;refine Cn ?_ ?_<;>intro m
 ·have B:i<s.size:=by have:=aCb m;omega
  have j:=xL B;refine aA<|Sq<|aE<|Sd aC<|Dd aC<|Dd (ky underlying9)<|Zd aH<|Sz aC<|aE<|Sd cF<|Da ?_;refine Cn ?_ ?_<;>intro A
  ·have f:oE s i=34:=aCb (A5 (n:=34) (by decide) A);have d:c=(⟨w.toArray⟩,((i+1:Nat):Int)):=by rw[b,j,f,BF,wN,List.append_nil]
   rw[d];exact Sd (kc oC (S0 g w u (by omega)))<|Dd aC<|Dd iF<|Dd aH<|Zd aH<|aB<|Ru<|Qq
  have v:oE s i≠34:=aCc (A5 (n:=34) (by decide) A);refine Sd cF<|Da ?_;refine Cn ?_ ?_<;>intro t
  ·have f:oE s i=10:=aCb (A5 (n:=10) (by decide) t);have d:c=(sNil,0):=by rw[b,j,f,JS,wN]
   rw[d];exact Sd aH<|Zd aH<|aB<|Ru<|Qq
  have p:oE s i≠10:=aCc (A5 (n:=10) (by decide) t);refine Sd cF<|Da ?_;refine Cn ?_ ?_<;>intro k
  ·have f:oE s i=92:=aCb (A5 (n:=92) (by decide) k);refine Sd aC<|Dd iF<|Zd aH<|Sz aH<|Sq<|Sd aC<|Dd aC<|Dd (gF underlying9)<|Zd cJ ?_;refine Cn ?_ ?_<;>intro x
   ·have o:i+1<s.size:=by have:=aCb x;omega
    have y:=xL o;rcases xk (oE s (i+1))with⟨I,E⟩|⟨q,L,I,E⟩
    ·have d:c=(sNil,0):=by rw[b,j,f,y,tT,E];rfl
     have hneg:Lib.indexByte (⟨#[92,34,110]⟩:ByteArray).data.toList (bH s (i+1)).toNat.toUInt8 = -1:=I;rw[d];refine Rd aC<|Dd aC<|Dd (ky underlying9)<|Dd (kc zP (rB _ _ _))<|Zd aH<|Sq<|Sd aC<|Zd cJ ?_;refine Cn ?_ ?_<;>intro D
     ·exact Sd aH<|Zd aH<|aB<|Ru<|Qq
     exact absurd (aCc D) (by simp_all)
    have hpos:Lib.indexByte (⟨#[92,34,110]⟩:ByteArray).data.toList (bH s (i+1)).toNat.toUInt8=(q:Int):=I;have G:q<(⟨#[92,34,10]⟩:ByteArray).size:=L;refine Rd aC<|Dd aC<|Dd (ky underlying9)<|Dd (kc zP (rB _ _ _))<|Zd aH<|Sq<|Sd aC<|Zd cJ ?_;refine Cn ?_ ?_<;>intro F
    ·exact absurd (aCb F) (by grind)
    refine aA<|Rd aC<|Dd (by exact cR rfl underlying9 rfl rfl (by simp_all) (by simp_all) G rfl)<|Zd (kc mJ (jW g w u (oE ⟨#[92,34,10]⟩ q) (by omega)))<|Rd aC<|Dd iF<|Da ?_;refine⟨i+1+1,g+1,w++[oE ⟨#[92,34,10]⟩ q],true,⟨by grind,by omega,?_⟩,by omega,(cQ.wk (Eb<|Ea<|Eb<|trivial) (Hc (gM rfl rfl)<|Hc (eP _ _)<|trivial) trivial)⟩;rw[b,j,f,y,tT,E];exact zY
   have e:s.size<=i+1:=by have:=aCc x;omega
   have d:c=(sNil,0):=by rw[b,j,f,A1 e];rfl
   rw[d];refine aA<|Sq<|Sd aC<|Zd cJ ?_;refine Cn ?_ ?_<;>intro C
   ·exact Sd aH<|Zd aH<|aB<|Ru<|Qq
   cases C
  have z:oE s i≠92:=aCc (A5 (n:=92) (by decide) k);refine Rd aC<|Zd (kc mJ (jW g w u (oE s i) (by omega)))<|Rd aC<|Dd iF<|Da ?_;refine⟨i+1,g+1,w++[oE s i],true,⟨by rw[aCg,List.length_singleton];omega,by omega,?_⟩,by omega,(cQ.wk (Eb<|Ea<|Eb<|trivial) (Hc (gM rfl rfl)<|Hc (eP _ _)<|trivial) trivial)⟩;rw[b,j,BG v p z,zY]
 have e:s.size<=i:=by have:=aCc m;omega
 have d:c=(sNil,0):=by rw[b,A1 e];rfl
 rw[d];exact aS<|Sd aH<|Zd aH<|aB<|Ru<|Qq
def mG(s:ByteArray)(i:Nat):Int:=if i<s.size then xN (bH s i)else 0
def tS(s:ByteArray):Ob:=bx 1 9 [sv s]
def tC:Ob:=bx 256 158 vB
def tA:Ob:=bx 1 247 [.clo 236 [.ref 921 0 0 0,.ref 923 0 0 0]]
theorem Vs(s:ByteArray)(i:Nat)(H:aG)(f:H.get 921=some (tS s))(d:H.get 923=some tC)(hi:i<4611686018427387904)(hs:s.size<4611686018427387904):
  RC 236 [iv (i:Int),.ref 921 0 0 0,.ref 923 0 0 0] (.pv (.int .u8 (mG s i))) H:=by
 refine Bd func236 rfl ntmps236<|Sz aH<|Sq<|Sd aC<|Dd (by exact bA rfl isAgg9 rfl f rfl rfl rfl)<|Dd (gF underlying9)<|Zd CX ?_;refine Cn ?_ ?_<;>intro b
 ·have e:mG s i=0:=by rw[mG,aCd (by have:=aCb b;omega)]
  rw[e];refine Sz aH<|aB ?_;refine dA (H':=H) (.inr rfl) rfl (aJ rfl) Fin.refl ?_;exact Qq
 have c:i<s.size:=by have:=aCc b;omega
 have e:mG s i=xN (bH s i):=by rw[mG,aCe c]
 rw[e];refine aA<|Sd (by exact bA rfl isAgg9 rfl f rfl rfl rfl)<|Dd aC<|Dd (ky underlying9)<|Dd (by exact eH (k2:=(bH s i).toNat) rfl fT cO rfl d rfl rfl (K4 s i) rfl (A4 s i) (by omega))<|Dd (by exact bA rfl C4 rfl d rfl rfl (Qi s i))<|Zd aH<|aB ?_;refine dA (H':=H) (.inr rfl) rfl (aJ rfl) Fin.refl ?_;exact Qq
theorem YM(s:ByteArray)(H:aG)(d:H.get 921=none)(b:H.get 923=none)(c:H.get 924=none)(hc:eE H):
  aW Tryz.prog 197 [sv s] H (fun r H'=>r=.clo 237 [.ref 921 0 0 0,.ref 924 0 0 0]/\H'=(924,tA)::(923,tC)::(921,tS s)::H):=by
 refine Bd func197 rfl ntmps197<|Sd (by exact rW (id:=921) rfl rfl rfl rfl d)<|Zd aH<|Sd (kc call123 (UZ _))<|Dd (by exact BB (id:=923) rfl jw rfl b)<|Uu (by exact kZ rfl zJ rfl rfl rfl rfl rfl rfl rfl (by simp))<|Zz<|Sd (by exact hU rfl rfl)<|Dd (by exact BB (id:=924) rfl Ww rfl c)<|Uu (iP sizeOf247)<|Zz<|Sd (by exact hU rfl rfl)<|Zd aH<|aB ?_;refine dA (H':=((924,tA)::(923,tC)::(921,tS s)::H)) (.inr rfl) rfl (aJ rfl) (Fin.get' (fun j=>by simp only[aG.get];cases Nat.beq 924 j<;>cases Nat.beq 923 j<;>rfl)) ?_;exact Qq
def xZ(p:Nat->Bool):Nat->Nat->Nat
 |0,i=>i
 |n+1,i=>if p i then xZ p n (i+1)else i
theorem EP(p):∀(n i),i<=xZ p n i/\xZ p n i<=i+n
 |0,i=>⟨aCl _,aCl _⟩
 |n+1,i=>by
  rw[xZ]
  split
  ·have:=EP p n (i+1);omega
  omega
theorem HR(p):∀(n i),∀j,i<=j->j<xZ p n i->p j=true
 |0,i,j,b,a=>by rw[xZ]at a;omega
 | n+1,i,j,b,a=>by
  rw[xZ]at a
  split at a
  ·by_cases e:j=i
   ·simp_all
   exact HR p n _ j (by omega) a
  omega
theorem wF(p):∀(n i),xZ p n i<i+n->p (xZ p n i)=false
 |0,i,h=>by rw[xZ]at h;omega
 |n+1,i,h=>by
  rw[xZ]at h |-
  split at h
  ·rename_i a;rw[aCe a];exact wF p n _ (by omega)
  simp_all
theorem yG(p){n i j}(d:i<=j)(h2:j<=i+n)(c:∀k,i<=k->k<j->p k=true)(a:p j=false\/j=i+n):xZ p n i=j:=by
 obtain ⟨b,l2⟩:=EP p n i;rcases Nat.lt_trichotomy (xZ p n i) j with h|h|h
 ·have:=wF p n i (by omega);rw[c _ b h]at this;cases this
 ·exact h
 have:=HR p n i j d h;rcases a with a|a
 ·rw[a]at this;cases this
 omega
def uF(s:ByteArray)(j:Nat):Bool:=decide (j<s.size)&&!decide (bH s j=10)
def uE(s:ByteArray)(j:Nat):Bool:=decide (mG s j=3)||decide (mG s j=4)||decide (mG s j=5)
def ML(s:ByteArray)(j:Nat):Bool:=decide (mG s j=4)
def EY(s:ByteArray)(i:Nat):Nat:=xZ (uF s) (s.size - i) i
def BD(s:ByteArray)(i:Nat):Nat:=xZ (uE s) (s.size - i) i
def GX(s:ByteArray)(i:Nat):Nat:=xZ (ML s) (s.size - i) i
structure GFound where
 kind:Int
 text:ByteArray
 pos:Nat
 err:Int
def IZ(f:GFound):List PV:=[.int .i64 f.kind,.str f.text,.int .i64 f.pos,.int .i64 f.err]
def uH(i:Nat):GFound:=⟨0,sNil,i,3⟩
def zE(s:ByteArray)(i j:Nat):GFound:=⟨1,s.extract i j,i,if 24<j - i then 2 else 0⟩
def FZ(s:ByteArray)(i j:Nat):GFound:=⟨2,s.extract i j,i,if decide (7<j - i)||decide (mG s j=3)||decide (mG s j=5)then 4 else 0⟩
def DY(s:ByteArray)(i:Nat):GFound×Nat:=if 0<(zF (s.extract i s.size)).2 then(⟨3,(zF (s.extract i s.size)).1,i,0⟩,i+(zF (s.extract i s.size)).2.toNat)else(uH i,i)
def eN(s:ByteArray)(i:Nat):Option GFound×Nat :=if mG s i=1 then(none,i+1)else if mG s i=2 then(none,EY s i)else if mG s i=3 then(some (zE s i (BD s i)),BD s i)
 else if mG s i=4 then(some (FZ s i (GX s i)),GX s i)else if mG s i=7 then(some (DY s i).1,(DY s i).2)
 else if mG s i=6 then(some ⟨4,s.extract i (i+1),i,0⟩,i+1)else(some (uH i),i)
def jM(s:ByteArray):Nat->Nat->List GFound
 |0,_=>[]
 |n+1,i=>if i<s.size then(match eN s i with
  |(none,j)=>jM s n j
  |(some f,j)=>f::(if f.err=0 then jM s n j else[]))else[]
theorem N7:∀(l) (p),nG l=some p->p.2<=l.length
 | [],p,h=>by cases h
 | [c],p,h=>by
  rw[nG]at h
  grind
 | c :: e :: r, p, h => by
  rw[nG]at h
  split at h
  ·grind
  split at h
  ·cases h
  split at h
  ·cases f:sD e with
   |none=>simp_all
   | some b =>
    rw[f]at h;cases d:nG r with
    |none=>simp_all
    |some q =>
     rw[d]at h;cases h;have:=N7 r q d;show q.2+2<=r.length+1+1;omega
  cases d:nG (e::r)with
  |none=>simp_all
  |some q =>
   rw[d]at h;cases h;have:=N7 _ q d
   simp_all
theorem an(s):0<=(zF s).2/\(zF s).2<=s.size:=by
 have hl:s.data.toList.length=s.size:=rfl;unfold zF;cases b:nG _ with
 |none=>exact⟨Int.le_refl _,Int.natCast_nonneg _⟩
 | some p =>
  have:=N7 _ p b;rw[aCu]at this;refine⟨Int.natCast_nonneg _,?_⟩;show ((p.2+1):Int)<=_;have c:0<s.size:=by
   cases c:s.data.toList with
   |nil=>rw[c]at b;cases b
   |cons a l=>grind
  omega
theorem U3(s)(i)(h:mG s i≠0):i<s.size:=by
 by_cases e:i<s.size
 ·exact e
 exact absurd (aCd e) h
def tF(f:GFound):Ob:=bx 4 218 ((IZ f).map .pv)
theorem yW(H)(f):∀r∈(tF f).rows,∀a∈r,Clo H a:=by intro r b a c;simp[tF,bx,aCi]at b;subst b;obtain ⟨p,_,rfl⟩:=List.mem_map.1 c;simp
theorem P5{α:Type}{l m:List α}{k}{d}(h:l.drop k=d::m):l[k]?=some d/\l.drop (k+1)=m:=by
 refine⟨?_,?_⟩
 ·have:=congrArg (·[0]?) h
  simpa using this
 rw[<-List.drop_drop,h];rfl
theorem M5{j:Nat}{f:GFound}(h:eN s i=(some f,j))(b:f.err=0)(hi:i<s.size):i<j/\j<=s.size:=by
 have a:∀(p),p i=true->i<xZ p (s.size - i) i/\xZ p (s.size - i) i<=s.size:=fun p d=>by
  obtain ⟨l1,l2⟩:=EP p (s.size - i) i;refine⟨?_,by omega⟩;rcases Nat.lt_or_ge i _ with h|h
  ·exact h
  have c:=wF p (s.size - i) i (by omega);rw[show xZ p (s.size - i) i=i by omega,d]at c;cases c
 unfold eN at h
 split at h
 ·cases h
 split at h
 ·cases h
 split at h
 ·rename_i g;cases h;exact a _ (by rw[uE,g];rfl)
 split at h
 ·rename_i e;cases h;exact a _ (by rw[ML,e];rfl)
 split at h
 ·have hul:=an (s.extract i s.size);have hexs:(s.extract i s.size).size<=s.size - i:=by simp_all
  unfold DY at h
  split at h
  ·cases h;omega
  cases h;cases b
 split at h
 ·cases h;exact⟨Nat.lt_succ_self _,hi⟩
 cases h;cases b
theorem ltD(h:decide (i<(n:Int))=true):i<n:=by have:=aCb h;omega
theorem JU(s:ByteArray)(y:AV)(Hs:Nat->aG)(cont:Nat->Bool)(m:Nat)(hs:s.size<1099511627776)(G:∀k,(Hs k).get 921=some (tS s))(h2:∀k,(Hs k).get 923=some tC)(T:∀k,(Hs k).get 924=some tA)(h6:∀k,(Hs k).get 926=none)(Y:∀k,eE (Hs k))(hf:∀k,Clo (Hs k) y)
  (hm:m<=(jM s (s.size+1) 0).length) (hall:∀k,k+1<m->cont k=true) (S:m=(jM s (s.size+1) 0).length\/(0<m/\cont (m - 1)=false))
  (hy:∀k d,(jM s (s.size+1) 0)[k]?=some d->k<m->dI Tryz.prog y [.agg ((IZ d).map .pv)] ((926,tF d)::Hs k) (fun r H'=>r=bv (cont k)/\H'=(926,tF d)::Hs (k+1))) :
  aW Tryz.prog 237 [y,.ref 921 0 0 0,.ref 924 0 0 0] (Hs 0) (fun r H'=>r=.tup []/\H'=Hs m):=by
 obtain ⟨ds,hds⟩:∃ds,ds=jM s (s.size+1) 0:=⟨_,rfl⟩;rw[<-hds]at hy hm S;have D:∀(k i:Nat) (f:GFound),i<=s.size+1->dI Tryz.prog (.clo 236 [.ref 921 0 0 0,.ref 923 0 0 0]) [iv (i:Int)] ((926,tF f)::Hs k) (fun r H'=>r=.pv (.int .u8 (mG s i))/\H'=(926,tF f)::Hs k):=fun k i f hi =>
  dI.clo call236 (Vs s i ((926,tF f)::Hs k) (G k) (h2 k) (by omega) (by omega))
 have hfree:∀(G0:aG) (k i:Nat) (E:dC) (o:Ob),G0=Hs 0->E.get 0=some y->E.get 1=some (.ref 921 0 0 0)->E.get 2=some (.ref 924 0 0 0)->E.get 4=some (iv (i:Int)) ->
   cQ G0 E ((926,o)::Hs k) [(0,y),(1,.ref 921 0 0 0),(2,.ref 924 0 0 0),(4,iv (i:Int))] (Hs k):=fun G0 k i E o hG q0 X q2 q4=>by
  subst hG;exact cQ.front (K:=Hs k) [(926,o)] [] ⟨⟨_,q0,rfl⟩,hf k,⟨_,X,rfl⟩,(by rw[wB];simp_all),⟨_,q2,rfl⟩,(by rw[wB];simp_all),⟨_,q4,rfl⟩,(by simp),trivial⟩ (by grind) (by simp) (by simp) (Y k) (by grind)
 refine Bd func237 rfl ntmps237<|va<|Sz aH<|Sq<|vb<|aE ?_;refine fZ (fun(i k:Nat)=>([(0,y),(1,.ref 921 0 0 0),(2,.ref 924 0 0 0),(4,iv (i:Int))],Hs k)) (fun i k=>i<=s.size/\k<=m/\(k=0\/cont (k - 1)=true)/\∃n,s.size - i<n/\ds.drop k=jM s n i) (fun i k=>s.size - i) 0 0 ⟨aCw _,aCw _,.inl rfl,s.size+1,Nat.lt_succ_self _,by simp_all⟩ ?_ ?_
 ·exact E0
 rintro i k ⟨hi,hkm,hkc,n,hn,hinv⟩;refine Sq<|Sd aC<|Dd (by exact bA rfl isAgg9 rfl (G k) rfl rfl rfl)<|Dd (gF underlying9)<|Zd cJ ?_;refine Cn ?_ ?_<;>intro hc1
 ·have hlt:i<s.size:=by have:=aCb hc1;omega
  obtain ⟨n,rfl⟩:∃n',n=n'+1:=⟨n - 1,by omega⟩;rw[jM,aCe hlt]at hinv;refine aA<|aE<|Sd aC<|Zd aH<|Sd aC<|Dd (nP F4)<|Dd (nP aA3)<|Dd (by exact BB (id:=926) rfl wj rfl (h6 k))<|Uu (iP HA)<|Zz ?_;refine eV (fun(a:GFound×Nat)=>([(0,y),(1,.ref 921 0 0 0),(2,.ref 924 0 0 0),(4,iv (a.2:Int)),(6,.ref 926 0 0 0)],(926,tF a.1)::Hs k)) (fun a=>eN s i=(some a.1,a.2)) ?_ ?_
  ·refine Sq ?_;refine gC.ent (E':=[(0,y),(1,.ref 921 0 0 0),(2,.ref 924 0 0 0),(4,iv (i:Int)),(5,iv (i:Int)),(6,.ref 926 0 0 0)]) (H':=(926,tF (uH i))::Hs k) (cQ.get' ⟨⟨_,rfl,rfl⟩,⟨_,rfl,rfl⟩,⟨_,rfl,rfl⟩,⟨_,rfl,rfl⟩,⟨_,rfl,rfl⟩,⟨_,rfl,rfl⟩,trivial⟩ (fun j=>yP 926 (tF (uH i)) _ (Hs k) j)) ?_;refine Rd (by exact bA rfl LD rfl (T k) rfl rfl rfl)<|Dd aC<|Zd (by exact cW rfl rfl rfl (D k i (uH i) (by omega)))<|aE<|Sd cF<|Da ?_;refine Cn ?_ ?_<;>intro hc2
   ·have e1:mG s i=1:=aCb hc2;have hst:eN s i=(none,i+1):=by rw[eN,aCe e1]
    rw[hst]at hinv;refine Sd aC<|Dd iF<|Zd aH<|aS ?_;exact⟨i+1,k,⟨by omega,hkm,hkc,n,by omega,hinv⟩,by omega,hfree _ _ _ _ _ rfl rfl rfl rfl rfl⟩
   have n1:mG s i≠1:=aCc hc2;refine Sd cF<|Da ?_;refine Cn ?_ ?_<;>intro hc3
   ·have e2:mG s i=2:=aCb hc3;have hst:eN s i=(none,EY s i):=by rw[eN,aCd n1,aCe e2]
    rw[hst]at hinv;refine Sq<|aE ?_;refine bJ (σ:=Nat) (fun j=>([(0,y),(1,.ref 921 0 0 0),(2,.ref 924 0 0 0),(4,iv (j:Int))],(926,tF (uH i))::Hs k)) (fun j=>i<=j/\j<=s.size/\∀q,i<=q->q<j->uF s q=true) (fun j=>s.size - j) i ⟨aCl _,hi,fun q G h2=>by omega⟩ ?_ ?_
    ·exact E0
    rintro j ⟨B,hj,hpre⟩;refine Sq<|Sq ?_;refine aQ (t:=37) (n:=11) (X:=uF s j) ?_ ?_
    ·all_goals refine Dd aC ?_
     all_goals refine Dd (by exact bA rfl isAgg9 rfl (G k) rfl rfl rfl)<|Dd (gF underlying9)<|Dd cJ<|Dm ?_<;>(refine Sp 32 (fun h32=>?_) fun h32=>?_)<;>(first|contradiction|refine Fo<|Fo<|Fo<|Fo ?_|refine On (by exact bA rfl isAgg9 rfl (G k) rfl rfl rfl)<|On aC<|On (by exact cR rfl underlying9 rfl rfl (by omega) (by exact aCq _) (ltD h32) rfl)<|On rI ?_)<;>refine Zd cD ?_<;>(exact⟨⟨_,rfl,by first|(simp_all[uF];done)|(simp_all[uF];omega)⟩,rfl,rfl,rfl⟩)
    refine Cn ?_ ?_<;>intro C
    ·have hjs:j<s.size:=by
      have h:=C;rw[uF,aCo,aCm]at h;exact h.1
     refine aA<|aE<|Rd aC<|Dd iF<|Da ?_;exact⟨j+1,⟨by omega,by omega,fun q X q2=>by
      by_cases e:q=j
      ·subst e;exact C
      exact hpre q X (by omega)⟩,by omega,E0⟩
    have z:EY s i=j:=yG _ B (by omega) hpre (.inl C);have hgt:i<j:=by
     rcases Nat.lt_or_ge i j with h|h
     ·exact h
     have hji:j=i:=by omega
     subst hji;rw[uF,decide_eq_true hlt,Bool.true_and,Bool.not_eq_false',aCm]at C;rw[mG,aCe hlt,C]at e2;exact absurd e2 (by decide)
    rw[z]at hinv;refine aS<|aS ?_;exact⟨j,k,⟨hj,hkm,hkc,n,by omega,hinv⟩,by omega,hfree _ _ _ _ _ rfl rfl rfl rfl rfl⟩
   have n2:mG s i≠2:=aCc hc3;refine Sd cF<|Da ?_;refine Cn ?_ ?_<;>intro hc5
   ·have e3:mG s i=3:=aCb hc5;refine Sq<|Sd (by exact bA rfl LD rfl (T k) rfl rfl rfl)<|Dd aC<|Dd (by exact cW rfl rfl rfl (D k i (uH i) (by omega)))<|Zd aH<|aE ?_;refine bJ (σ:=Nat) (fun j=>([(0,y),(1,.ref 921 0 0 0),(2,.ref 924 0 0 0),(4,iv (j:Int)),(5,iv (i:Int)),(6,.ref 926 0 0 0),(7,.pv (.int .u8 (mG s j)))],(926,tF (uH i))::Hs k)) (fun j=>i<=j/\j<=s.size/\∀q,i<=q->q<j->uE s q=true) (fun j=>s.size - j) i ⟨aCl _,hi,fun q G h2=>by omega⟩ ?_ ?_
    ·exact E0
    rintro j ⟨B,hj,hpre⟩;refine Sq<|Sq ?_;refine aQ (t:=54) (n:=12) (X:=uE s j) ?_ ?_
    ·all_goals refine Dd aC ?_
     all_goals refine Dd cF<|Dm ?_<;>(refine Sp 47 (fun h47=>?_) fun h47=>?_)<;>(first|contradiction|refine Fo<|Fo ?_|refine On aC<|On cF ?_)<;>refine Dd cD<|Dm ?_<;>(refine Sp 51 (fun h51=>?_) fun h51=>?_)<;>(first|contradiction|refine Fo<|Fo ?_|refine On aC<|On cF ?_)<;>refine Zd cD ?_<;>(exact⟨⟨_,rfl,by(simp only[uE, *];rfl)⟩,rfl,rfl,rfl⟩)
    refine Cn ?_ ?_<;>intro hc6
    ·have hjs:j<s.size:=U3 s j (fun e=>by rw[uE,e]at hc6;cases hc6);refine aA<|Sq<|aE<|Rd aC<|Dd iF<|Zd aH<|Rd (by exact bA rfl LD rfl (T k) rfl rfl rfl)<|Dd aC<|Dd (by exact cW rfl rfl rfl (D k (j+1) (uH i) (by omega)))<|Da ?_;exact⟨j+1,⟨by omega,by omega,fun q X q2=>by
      by_cases e:q=j
      ·subst e;exact hc6
      exact hpre q X (by omega)⟩,by omega,E0⟩
    have z:BD s i=j:=yG _ B (by omega) hpre (.inl hc6);have hst:eN s i=(some (zE s i j),j):=by rw[eN,aCd n1,aCd n2,aCe e3,z]
    refine aS<|Sq<|aL follows<|Cr [921] (fun x hH=>by exact bA rfl isAgg9 rfl ((hH _ rfl).trans (G k)) rfl rfl rfl)<|Cr [] (fun _ _=>aC)<|Cr [] (fun _ _=>aC)<|Cr [] (fun x hH=>by exact cB (l:=i) (h:=j) rfl underlying9 rfl rfl rfl (by omega) (by omega) rfl)<|Cr [926] (fun _ h=>fh nV h)<|Cr [926] (fun _ h=>fh uA h)<|Cp [926] (fun _ h=>su sizeOf3 h)<|Cr [926] (fun _ h=>fh nV h)<|Cr [926] (fun _ h=>fh gU h)<|Cp [926] (fun _ h=>su sizeOf9 h)<|Cr [926] (fun _ h=>fh sK h)<|Cp [926] (fun _ h=>su sizeOf41 h) ?_;refine bF<|Kr<|Sd aC<|Dd aC<|Dd (by exact dB rfl rfl rfl (show IntKind.i64.wrap ((j:Int) - (i:Int))=((j - i:Nat):Int)by rw[IntKind.wrap_i64];omega))<|Zd gX ?_;refine Cn ?_ ?_<;>intro hc7
    ·have Z:zE s i j=⟨1,s.extract i j,i,2⟩:=by rw[zE,aCe (by have:=aCb hc7;omega)]
     rw[Z]at hst;refine Rd (aV sK)<|Uu (ku sizeOf41)<|Zz ?_;exact⟨(⟨1,s.extract i j,i,2⟩,j),hst,cQ.get' ⟨⟨_,rfl,rfl⟩,⟨_,rfl,rfl⟩,⟨_,rfl,rfl⟩,⟨_,rfl,rfl⟩,⟨_,rfl,rfl⟩,trivial⟩ (fun q=>AZ [_,_,_,_] (by simp) q)⟩
    have Z:zE s i j=⟨1,s.extract i j,i,0⟩:=by rw[zE,aCd (by have:=aCc hc7;omega)]
    rw[Z]at hst;refine aA ?_;exact⟨(⟨1,s.extract i j,i,0⟩,j),hst,cQ.get' ⟨⟨_,rfl,rfl⟩,⟨_,rfl,rfl⟩,⟨_,rfl,rfl⟩,⟨_,rfl,rfl⟩,⟨_,rfl,rfl⟩,trivial⟩ (fun q=>AZ [_,_,_] (by simp) q)⟩
   have n3:mG s i≠3:=aCc hc5;refine Sd cF<|Da ?_;refine Cn ?_ ?_<;>intro hc8
   ·have e4:mG s i=4:=aCb hc8;refine Sq<|aE ?_;refine bJ (σ:=Nat) (fun j=>([(0,y),(1,.ref 921 0 0 0),(2,.ref 924 0 0 0),(4,iv (j:Int)),(5,iv (i:Int)),(6,.ref 926 0 0 0)],(926,tF (uH i))::Hs k)) (fun j=>i<=j/\j<=s.size/\∀q,i<=q->q<j->ML s q=true) (fun j=>s.size - j) i ⟨aCl _,hi,fun q G h2=>by omega⟩ ?_ ?_
    ·exact E0
    rintro j ⟨B,hj,hpre⟩;refine Sq<|Sd (by exact bA rfl LD rfl (T k) rfl rfl rfl)<|Dd aC<|Dd (by exact cW rfl rfl rfl (D k j (uH i) (by omega)))<|Zd cF ?_;refine Cn ?_ ?_<;>intro hc9
    ·have hjs:j<s.size:=U3 s j (fun e=>by rw[e]at hc9;cases hc9);refine aA<|aE<|Rd aC<|Dd iF<|Da ?_;exact⟨j+1,⟨by omega,by omega,fun q X q2=>by
      by_cases e:q=j
      ·subst e;exact hc9
      exact hpre q X (by omega)⟩,by omega,E0⟩
    have z:GX s i=j:=yG _ B (by omega) hpre (.inl hc9);have hst:eN s i=(some (FZ s i j),j):=by rw[eN,aCd n1,aCd n2,aCd n3,aCe e4,z]
    refine aS<|Sq<|aL follows<|Cr [921] (fun x hH=>by exact bA rfl isAgg9 rfl ((hH _ rfl).trans (G k)) rfl rfl rfl)<|Cr [] (fun _ _=>aC)<|Cr [] (fun _ _=>aC)<|Cr [] (fun x hH=>by exact cB (l:=i) (h:=j) rfl underlying9 rfl rfl rfl (by omega) (by omega) rfl)<|Cr [926] (fun _ h=>fh nV h)<|Cr [926] (fun _ h=>fh uA h)<|Cp [926] (fun _ h=>su sizeOf3 h)<|Cr [926] (fun _ h=>fh nV h)<|Cr [926] (fun _ h=>fh gU h)<|Cp [926] (fun _ h=>su sizeOf9 h)<|Cr [926] (fun _ h=>fh sK h)<|Cp [926] (fun _ h=>su sizeOf41 h) ?_;refine bF<|Kr<|Sq ?_;refine gC.ent (E':=[(0,y),(1,.ref 921 0 0 0),(2,.ref 924 0 0 0),(4,iv (j:Int)),(5,iv (i:Int)),(6,.ref 926 0 0 0)]) (H':=(926,tF ⟨2,s.extract i j,i,0⟩)::Hs k) (cQ.get' ⟨⟨_,rfl,rfl⟩,⟨_,rfl,rfl⟩,⟨_,rfl,rfl⟩,⟨_,rfl,rfl⟩,⟨_,rfl,rfl⟩,⟨_,rfl,rfl⟩,trivial⟩ (fun q=>AZ [_,_,_] (by simp) q)) ?_;have h7:decide (7<((j - i:Nat):Int))=decide (7<j - i):=by rw[Bool.eq_iff_iff,aCm,aCm];omega
    refine Rd (by exact bA rfl LD rfl (T k) rfl rfl rfl)<|Dd aC<|Dd (by exact cW rfl rfl rfl (D k j ⟨2,s.extract i j,i,0⟩ (by omega)))<|Zd aH<|Sq ?_;refine aQ (t:=105) (n:=14) (X:=decide (7<((j - i:Nat):Int))||decide (mG s j=3)||decide (mG s j=5)) ?_ ?_
    ·all_goals refine Dd aC ?_
     all_goals refine Dd aC<|Dd (by exact dB rfl rfl rfl (show IntKind.i64.wrap ((j:Int) - (i:Int))=((j - i:Nat):Int)by rw[IntKind.wrap_i64];omega))<|Dd gX<|Dm ?_<;>(refine Sp 98 (fun h98=>?_) fun h98=>?_)<;>(first|contradiction|refine Fo<|Fo ?_|refine On aC<|On cF ?_)<;>refine Dd cD<|Dm ?_<;>(refine Sp 102 (fun h102=>?_) fun h102=>?_)<;>(first|contradiction|refine Fo<|Fo ?_|refine On aC<|On cF ?_)<;>refine Zd cD ?_<;>(exact⟨⟨_,rfl,by first|(simp_all[uE];done)|(simp_all;omega)⟩,rfl,rfl,rfl⟩)
    refine Cn ?_ ?_<;>intro U
    ·have Z:FZ s i j=⟨2,s.extract i j,i,4⟩:=by rw[FZ,<-h7,U];rfl
     rw[Z]at hst;refine Rd (aV sK)<|Uu (ku sizeOf41)<|Zz ?_;exact⟨(⟨2,s.extract i j,i,4⟩,j),hst,cQ.get' ⟨⟨_,rfl,rfl⟩,⟨_,rfl,rfl⟩,⟨_,rfl,rfl⟩,⟨_,rfl,rfl⟩,⟨_,rfl,rfl⟩,trivial⟩ (fun q=>AZ [_] (by simp) q)⟩
    have Z:FZ s i j=⟨2,s.extract i j,i,0⟩:=by rw[FZ,<-h7,U];rfl
    rw[Z]at hst;refine aA ?_;exact⟨(⟨2,s.extract i j,i,0⟩,j),hst,E0⟩
   have n4:mG s i≠4:=aCc hc8;refine Sd cF<|Da ?_;refine Cn ?_ ?_<;>intro R
   ·have e7:mG s i=7:=aCb R;have hst:eN s i=(some (DY s i).1,(DY s i).2):=by rw[eN,aCd n1,aCd n2,aCd n3,aCd n4,aCe e7]
    have hexs:(s.extract i s.size).size<=s.size - i:=by rw[ByteArray.size_extract];omega
    have hun:=fun H=>dw (s.extract i s.size) H (by omega);have hul:=an (s.extract i s.size);obtain ⟨u,hu⟩:∃u,u=zF (s.extract i s.size):=⟨_,rfl⟩;have hgs:DY s i=if 0<u.2 then(⟨3,u.1,i,0⟩,i+u.2.toNat)else(uH i,i):=by rw[DY,<-hu]
    rw[<-hu]at hun hul;obtain ⟨ut,un⟩:=u;simp only at hun hul hgs;refine Sd (by exact bA rfl isAgg9 rfl (G k) rfl rfl rfl)<|Dd aC<|Dd (by exact cB (l:=i) (h:=s.size) rfl underlying9 rfl rfl rfl (by omega) (by omega) rfl)<|Dd (kc call238 (hun _))<|Dd aC<|Dd eG<|Dd eG<|Dd aH<|Zd aH<|Sq<|Sd aC<|Zd gX ?_;refine Cn ?_ ?_<;>intro hc12
    ·rw[hgs,aCe (aCb hc12)]at hst;refine Rd aC<|Dd (aV nV)<|Dd (aV uA)<|Uu (ku sizeOf3)<|Dd (aV nV)<|Dd (aV gU)<|Uu (ku sizeOf9)<|Dd (aV sK)<|Uu (ku sizeOf41)<|Zz<|Rd aC<|Dd aC<|Dd (by exact eA rfl rfl rfl (show IntKind.i64.wrap ((i:Int)+un)=((i+un.toNat:Nat):Int)by rw[IntKind.wrap_i64];omega))<|Da ?_;exact⟨(⟨3,ut,i,0⟩,i+un.toNat),hst,cQ.get' ⟨⟨_,rfl,rfl⟩,⟨_,rfl,rfl⟩,⟨_,rfl,rfl⟩,⟨_,rfl,rfl⟩,⟨_,rfl,rfl⟩,trivial⟩ (fun q=>AZ [_,_,_] (by simp) q)⟩
    have hu0:=aCc hc12;rw[hgs,aCd hu0]at hst;have e0:i+un.toNat=i:=by omega
    refine aA<|Rd aC<|Dd aC<|Dd (by exact eA rfl rfl rfl (show IntKind.i64.wrap ((i:Int)+un)=((i+un.toNat:Nat):Int)by rw[IntKind.wrap_i64];omega))<|Da ?_;rw[e0];exact⟨(uH i,i),hst,E0⟩
   have n7:mG s i≠7:=aCc R;refine Sd cF<|Da ?_;refine Cn ?_ ?_<;>intro hc13
   ·have e6:mG s i=6:=aCb hc13;have hst:eN s i=(some ⟨4,s.extract i (i+1),i,0⟩,i+1):=by rw[eN,aCd n1,aCd n2,aCd n3,aCd n4,aCd n7,aCe e6]
    refine Sd aC<|Dd iF<|Zd aH<|aL follows<|Cr [921] (fun x hH=>by exact bA rfl isAgg9 rfl ((hH _ rfl).trans (G k)) rfl rfl rfl)<|Cr [] (fun _ _=>aC)<|Cr [] (fun _ _=>aC)<|Cr [] (fun x hH=>by exact cB (l:=i) (h:=(i+1)) rfl underlying9 rfl rfl rfl (by omega) (by omega) rfl)<|Cr [926] (fun _ h=>fh nV h)<|Cr [926] (fun _ h=>fh uA h)<|Cp [926] (fun _ h=>su sizeOf3 h)<|Cr [926] (fun _ h=>fh nV h)<|Cr [926] (fun _ h=>fh gU h)<|Cp [926] (fun _ h=>su sizeOf9 h)<|Cr [926] (fun _ h=>fh sK h)<|Cp [926] (fun _ h=>su sizeOf41 h) ?_;refine bF<|Kr ?_;exact⟨(⟨4,s.extract i (i+1),i,0⟩,i+1),hst,cQ.get' ⟨⟨_,rfl,rfl⟩,⟨_,rfl,rfl⟩,⟨_,rfl,rfl⟩,⟨_,rfl,rfl⟩,⟨_,rfl,rfl⟩,trivial⟩ (fun q=>AZ [_,_,_] (by simp) q)⟩
   have n6:mG s i≠6:=aCc hc13;have hst:eN s i=(some (uH i),i):=by rw[eN,aCd n1,aCd n2,aCd n3,aCd n4,aCd n7,aCd n6]
   refine aA ?_;exact⟨(uH i,i),hst,E0⟩
  rintro⟨f,j⟩ hst;rw[hst]at hinv;simp only at hinv hst;obtain ⟨hk1,hk2⟩:=P5 hinv;have hkl:=(aCj.1 hk1).1;have V:k<m:=by
   rcases Nat.lt_or_ge k m with h|h
   ·exact h
   have hkem:k=m:=Nat.le_antisymm hkm h;subst hkem;rcases S with h|⟨h,h'⟩
   ·omega
   rcases hkc with h2|h2
   ·omega
   rw[h2]at h';cases h'
  have F:ds.length=k+1\/cont k=false->k+1=m:=fun h=>by
   rcases h with h|h
   ·omega
   rcases Nat.lt_or_ge (k+1) m with T|T
   ·rw[hall k T]at h;cases h
   omega
  have hyk:=hy k f hk1 V;cases hck:cont k with
  |false =>
   have A:=F (.inr hck);rw[hck]at hyk;refine Sd aC<|Dd (kY isAgg218 HA)<|Dd (by exact cW rfl rfl rfl (hyk))<|Dd iJ<|Dd aC<|Fo<|Fo<|Fo<|Zd cD ?_;refine Cn ?_ ?_<;>intro hc14
   ·refine aB ?_;rw[<-A];exact uP (H':=Hs (k+1)) (.inr rfl) rfl (Fin.pops' [(926,tF f)] (by simp) (Y _) (by simp[h6]) (by simp[h6])) ⟨rfl,rfl⟩
   cases hc14
  | true =>
   rw[hck]at hyk;refine Sd aC<|Dd (kY isAgg218 HA)<|Dd (by exact cW rfl rfl rfl (hyk))<|Dd iJ<|Dd aC<|On (aV sK)<|On (bD mI)<|On rI<|Zd cD ?_;refine Cn ?_ ?_<;>intro W
   ·have hne:f.err≠0:=by
     have h:=W
     simpa using h
    rw[aCd hne]at hk2;have A:=F (.inl (by have:=List.drop_eq_nil_iff.1 hk2;omega));refine aB ?_;rw[<-A];exact uP (H':=Hs (k+1)) (.inr rfl) rfl (Fin.pops' [(926,tF f)] (by simp) (Y _) (by simp[h6]) (by simp[h6])) ⟨rfl,rfl⟩
   have he0:f.err=0:=by
    have h:=W
    simpa using h
   obtain ⟨g1,g2⟩:=M5 hst he0 hlt;rw[aCe he0]at hk2;refine aA ?_;exact⟨j,k+1,⟨g2,V,.inr hck,n,by omega,hk2⟩,by omega,hfree _ _ _ _ _ rfl rfl rfl rfl rfl⟩
 have hge:s.size<=i:=by have:=aCc hc1;omega
 have hnil:jM s n i=[]:=by
  cases n with
  |zero=>rfl
  |succ n=>rw[jM,aCd (by omega)]
 rw[hnil]at hinv;have hkd:=List.drop_eq_nil_iff.1 hinv;have A:k=m:=by omega
 refine aS ?_;rw[<-A];exact uP (H':=Hs k) (.inl rfl) rfl Fin.refl ⟨rfl,rfl⟩
end Go.Proofs.YtmdicgjnmfolfaaGreatDoor
