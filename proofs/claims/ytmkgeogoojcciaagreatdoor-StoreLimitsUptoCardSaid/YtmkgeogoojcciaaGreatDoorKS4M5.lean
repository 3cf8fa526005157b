/-
  Parts of the proof: rules of an abstract program logic, contracts of functions, plain laws. Conditions: each theorem's own.
-/
import Derived.Test.YtmkgeogoojcciaaGreatDoorKS4M4
import Derived.Below
import Derived.Shelf.Strings.Repeat
import Derived.Shelf.Strconv.ErrVarAll
import Derived.Shelf.Strconv.AtoiAll
import Derived.Shelf.LaysC
import Derived.Ground.NamesProg
import Derived.WideLaws
import Derived.Lib.AtoiAllCases
set_option linter.unusedVariables false
set_option linter.unusedSimpArgs false
set_option maxRecDepth 100000
set_option maxHeartbeats 8000000
namespace Go.Proofs
theorem YP:type_of% Tryz.call101:=Tryz.call101
theorem zK:type_of% Tryz.call102:=Tryz.call102
theorem uL:type_of% Tryz.call41:=Tryz.call41
theorem uI:type_of% Tryz.call81:=Tryz.call81
theorem R5:type_of% Tryz.call82:=Tryz.call82
theorem R4:type_of% Tryz.call83:=Tryz.call83
theorem oN:type_of% Tryz.call98:=Tryz.call98
theorem YM:type_of% Tryz.func147:=Tryz.func147
theorem mN:type_of% Tryz.isAgg29:=Tryz.isAgg29
theorem cV:type_of% Tryz.isAgg70:=Tryz.isAgg70
theorem iG:type_of% Tryz.isAgg77:=Tryz.isAgg77
theorem mM:type_of% Tryz.isAgg78:=Tryz.isAgg78
theorem iF:type_of% Tryz.isAgg96:=Tryz.isAgg96
theorem XM:type_of% Tryz.ntmps147:=Tryz.ntmps147
theorem iE:type_of% Tryz.underlying132:=Tryz.underlying132
theorem jF:type_of% Tryz.underlying29:=Tryz.underlying29
theorem NI:type_of% Tryz.underlying78:=Tryz.underlying78
end Go.Proofs
namespace Go.Proofs.YtmkgeogoojcciaaGreatDoor
open Go.Proofs.Tryz
open Go.Abs
def ofL (l:List UInt8):ByteArray:=⟨l.toArray⟩
theorem aX (l:List UInt8):(ofL l).data.toList=l:=by simp [ofL]
theorem HS (s:ByteArray):ofL s.data.toList=s:=jA (aX _)
theorem bP (l:List UInt8):(ofL l).size=l.length:=by rw [← cW,aX]
inductive Arm where
 | never
 | off (a w b:Int)
 | on (a w b:Int)
structure DSt where
 cells:List ByteArray
 q:List (Nat×ByteArray)
 off:Bool
 arm:Arm
 gq:Nat
 ga:Nat
def kR (p:Nat×ByteArray):List PV:=[.int .i64 ((64*p.1:Nat):Int),.int .i64 ((64*(p.1+1):Nat):Int),.str p.2]
def flat (l:List ByteArray):List UInt8:=l.flatMap (fun c=>c.data.toList)
abbrev vR (l:List (Nat×ByteArray)):List (List AV):=l.map (fun e=>(kR e).map .pv)
def RA (ga:Nat):Arm→AV
 | .never=>.pv .nilp
 | .off _ _ _=>.pv .nilp
 | .on _ _ _=>.ref 1003 ga 0 0
def oK:Arm→List (List AV)
 | .never=>[]
 | .off a w b=>[[iv a,iv w,iv b]]
 | .on a w b=>[[iv a,iv w,iv b]]
abbrev pL (s:DSt):List AV:=[.osl 1001 0 0 (64*s.cells.length),.osl 1002 s.gq 0 s.q.length,bv s.off,RA s.ga s.arm]
abbrev bC (s:DSt):aA:=[(1000,⟨0,4,80,[pL s]⟩),(1001,⟨0,1,5,bF (flat s.cells)⟩),(1002,⟨s.gq,3,103,vR s.q⟩),(1003,⟨s.ga,3,100,oK s.arm⟩)]
theorem aC (s:List UInt8) (H:aA):∀ r∈bF s,∀ a∈r,Clo H a:=by intro r hr a ha;obtain ⟨b,_,rfl⟩:=List.mem_map.1 hr;rw [ZO.1 ha];exact .pv _
theorem aL (a:Arm) (H:aA):∀ r∈oK a,∀ x∈r,Clo H x:=by intro r hr x hx;cases a<;>simp [oK] at hr<;>subst hr<;>simp at hx<;>(rcases hx with rfl|rfl|rfl<;>exact .pv _)
theorem aG (s:DSt) (H:aA) (h1:(H.get 1001).isSome=true) (h2:(H.get 1002).isSome=true) (h3:(H.get 1003).isSome=true):∀ r∈[pL s],∀ a∈r,Clo H a:=by
 intro r hr a ha;rw [ZO.1 hr] at ha;simp only [pL,ZY,Z2,or_false] at ha;rcases ha with rfl|rfl|rfl|rfl
 ·exact .osl h1
 ·exact .osl h2
 ·exact .pv _
 cases s.arm<;>first|exact .pv _|exact .ref h3
theorem tR (s:DSt):bG (bC s):=bG.of (fun p hp=>by
 simp only [bC,ZY,Z2,or_false] at hp;rcases hp with rfl|rfl|rfl|rfl
 ·exact aG s _ rfl rfl rfl
 ·exact aC _ _
 ·exact aM _ _ _
 exact aL _ _)
structure DOk (s:DSt):Prop where
 n1:1≤s.cells.length
 n2:s.cells.length≤8000
 c:∀ c,c∈s.cells→c.size=64
 q:∀ p,p∈s.q→p.1 < s.cells.length∧p.2.size=64
 ql:s.q.length≤1048576
theorem nX (c:ByteArray):c.data.toList.length=c.size:=Array.length_toList
theorem qJ (c:ByteArray) (l:List ByteArray):flat (c::l)=c.data.toList++flat l:=rfl
theorem mX {l:List ByteArray} (h:∀ c,c∈l→c.size=64):(flat l).length=64*l.length:=by
 induction l with
 | nil=>rfl
 | cons c l ih =>
  rw [qJ,ZM,nX,h c (by simp),ih (fun c hc=>h c (by simp [hc])),ZN];omega
theorem FR (a b:List ByteArray):flat (a++b)=flat a++flat b:=List.flatMap_append
theorem BN {l:List ByteArray} (h:∀ c,c∈l→c.size=64) {k:Nat} {c:ByteArray} (hk:l[k]?=some c) :
  (flat l).take (64*k)=flat (l.take k)∧((flat l).drop (64*k)).take 64=c.data.toList∧(flat l).drop (64*k+64)=flat (l.drop (k+1)):=by
 obtain ⟨hlt,he⟩:=ZP.1 hk;have hsplit:flat l=flat (l.take k)++(c.data.toList++flat (l.drop (k+1))):=by
  conv=>lhs;rw [← List.take_append_drop k l,List.drop_eq_getElem_cons hlt,he]
  rw [FR,qJ]
 have h1:(flat (l.take k)).length=64*k:=by
  rw [mX (fun c hc=>h c (List.mem_of_mem_take hc)),Z0];congr 1;omega
 have h2:c.data.toList.length=64:=by rw [nX];exact h c (ZW hk)
 refine⟨?_,?_,?_⟩
 ·rw [hsplit,← h1,List.take_left]
 ·rw [hsplit,← h1,List.drop_left,← h2,List.take_left]
 rw [hsplit,← List.drop_drop,← h1,List.drop_left,← h2,List.drop_left]
def oH (t c:ByteArray):ByteArray:=⟨(t.data.toList++c.data.toList.drop t.size).toArray⟩
theorem LX {t c:ByteArray} (ht:t.size≤c.size):(oH t c).size=c.size:=by show (t.data.toList++c.data.toList.drop t.size).toArray.size=c.size;rw [List.size_toArray,ZM,Z1,nX,nX];omega
theorem LZ {t c:ByteArray} (ht:t.size=64) (hc:c.size=64):oH t c=t:=by unfold oH;rw [List.drop_of_length_le (by rw [nX];omega),List.append_nil]
theorem ON {l:List ByteArray} (h:∀ c,c∈l→c.size=64) {k:Nat} {c t:ByteArray} (hk:l[k]?=some c) (ht:t.size≤64) :
  (flat l).take (64*k)++(t.data.toList.take t.size++(flat l).drop (64*k+t.size))=flat (l.set k (oH t c)):=by
 obtain ⟨hlt,he⟩:=ZP.1 hk;obtain ⟨p1,p2,p3⟩:=BN h hk;have hset:l.set k (oH t c)=l.take k++(oH t c::l.drop (k+1)):=by rw [List.set_eq_take_append_cons_drop,ZK hlt]
 rw [hset,FR,qJ,p1];congr 1;rw [show t.data.toList.take t.size=t.data.toList from List.take_of_length_le (by rw [nX];omega)];show _=(t.data.toList++c.data.toList.drop t.size)++flat (l.drop (k+1));rw [List.append_assoc];congr 1;have e1:(flat l).drop (64*k)=c.data.toList++flat (l.drop (k+1)):=by
  rw [← List.take_append_drop 64 ((flat l).drop (64*k)),p2,List.drop_drop,p3]
 have h2:c.data.toList.length=64:=by rw [nX];exact h c (ZW hk)
 rw [← List.drop_drop,e1,List.drop_append_of_le_length (by omega)]
def fE (s:DSt) (k:Int):Bool:=decide (0≤k)&&decide (k < (s.cells.length:Int))
def kF (s:DSt) (k:Int):List AV:=if fE s k then[iv (64*k),iv (64*(k+1))] else[iv 0,iv 0]
theorem JO (s:DSt) (k:Int) (hs:DOk s) :
  aJ Tryz.prog 59 [.ref 1000 0 0 0,iv k] (bC s) (fun r H'=>r=.tup [.agg (kF s k),bv (fE s k)]∧H'=bC s):=by
 have hq:IntKind.i64.wrap (((64*s.cells.length:Nat):Int).tdiv 64)=(s.cells.length:Int):=by
  have h2:=hs.n2;have e:((64*s.cells.length:Nat):Int).tdiv 64=(s.cells.length:Int):=by
   rw [Int.tdiv_eq_ediv_of_nonneg (by omega)];omega
  rw [e,gV (by omega) (by omega)]
 have h2:=hs.n2;refine Bd func59 rfl ntmps59<|Sr<|Dd (by exact cH (id:=4) rfl zV rfl rfl)<|Dd aS<|Zz<|Sq<|Sq ?_;refine dF (t:=21) (n:=18) (X:=!fE s k) ?_ ?_
 ·all_goals refine Dd aF ?_
  all_goals refine Dd (by exact cT rfl jF rfl rfl rfl rfl)<|Dm ?_
  all_goals refine Sp 8 (fun h8=>?_) fun h8=>?_
  all_goals try contradiction
  all_goals refine On aF<|On eF<|Dd dU<|Dm ?_
  all_goals refine Sp 12 (fun h12=>?_) fun h12=>?_
  all_goals try contradiction
  all_goals first|refine Fo<|Fo<|Fo<|Fo<|Fo<|Fo<|Fo<|Fo ?_|refine On aF<|On aF<|On fH<|On (dX DK)<|On (eQ eO)<|On (by exact dD rfl bV rfl rfl rfl)<|On (by exact lV rfl rfl rfl (by decide) hq)<|On R1 ?_
  all_goals refine Dd dU<|Zz ?_
  all_goals(exact⟨⟨_,rfl,by(rw [fE,Bool.eq_iff_iff];simp at h12 ⊢;omega)⟩,rfl,rfl,rfl⟩)
 refine Cn ?_ ?_<;>intro hc1
 ·have e:fE s k=false:=by simpa using hc1
  refine Sr<|Dd (NR UD)<|Uu (qV sizeOf96)<|Dd aS<|Zz<|aN ?_;refine fW (H':=bC s) (.inr rfl) rfl (jP rfl iF sizeOf96 rfl rfl rfl (by simp only [Zl];rfl) rfl) (aI rfl) (Fin.wk (by(simp;done)) (Hc (aG _ _ rfl rfl rfl)<|Hc (aC _ _)<|Hc (aM _ _ _)<|Hc (aL _ _)<|trivial) ⟨rfl,rfl,rfl,rfl,trivial⟩) ?_;exact⟨by simp [kF,e],rfl⟩
 have e:fE s k=true:=by simpa using hc1
 obtain ⟨h0,h1⟩:0≤k∧k < (s.cells.length:Int):=by simpa [fE] using e
 have m1:IntKind.i64.wrap (k*64)=64*k:=by rw [gV (by omega) (by omega)];omega
 have m2:IntKind.i64.wrap ((k+1)*64)=64*(k+1):=by rw [gV (by omega) (by omega)];omega
 refine aK<|Sr<|Dd aF<|Dd (by exact fN rfl rfl rfl m1)<|Dd aF<|Dd rD<|Dd (by exact fN rfl rfl rfl m2)<|Dd (by exact I6 rfl UD rfl (rfl:_=some [iv (64*k),iv (64*(k+1))]))<|Uu (qV sizeOf96)<|Dd aS<|Zz<|aN ?_;refine fW (H':=bC s) (.inr rfl) rfl (jP rfl iF sizeOf96 rfl rfl rfl (by simp only [Zl];rfl) rfl) (aI rfl) (Fin.wk (by(simp;done)) (Hc (aG _ _ rfl rfl rfl)<|Hc (aC _ _)<|Hc (aM _ _ _)<|Hc (aL _ _)<|trivial) ⟨rfl,rfl,rfl,rfl,trivial⟩) ?_;exact⟨by simp [kF,e],rfl⟩
def WA (s:DSt) (k:Int):Int:=if s.off then 22 else if fE s k then 0 else 1
def IQ (s:DSt) (k:Int):List AV:=if s.off then[iv 0,iv 0] else kF s k
theorem MN (s s':DSt) (H:aA):∀ id,((bC s').get id).isSome=true→((bC s).get id).isSome=true∨H.get id=none:=by intro id h;left;simp only [bC,aA.get] at h ⊢;cases e0:Nat.beq 1000 id<;>cases e1:Nat.beq 1001 id<;>cases e2:Nat.beq 1002 id<;>cases e3:Nat.beq 1003 id<;>simp [e0,e1,e2,e3] at h ⊢
theorem cE {f:FuncId} {args:List AV} {s s':DSt} {r0:AV} (h:aJ Tryz.prog f args (bC s) (fun r H'=>r=r0∧H'=bC s')) (H:aA) (hs:GX H (bC s)) (ha:∀ a∈args,Clo (bC s) a) :
  aJ Tryz.prog f args H (fun r H'=>r=r0∧H'=bC s'++H):=h.frame hs.sub (tR s) ha (MN s s' H)
theorem O0 (s:DSt) (k:Int) (hs:DOk s) (e:fE s k=false):aJ Tryz.prog 59 [.ref 1000 0 0 0,iv k] (bC s) (fun r H'=>r=.tup [.agg [iv 0,iv 0],bv false]∧H'=bC s):=by
 have h:=JO s k hs;have es:kF s k=[iv 0,iv 0]:=by simp [kF,e]
 rw [es,e] at h;exact h
theorem LM (s:DSt) (k:Int) (hs:DOk s) (e:fE s k=true):aJ Tryz.prog 59 [.ref 1000 0 0 0,iv k] (bC s) (fun r H'=>r=.tup [.agg [iv (64*k),iv (64*(k+1))],bv true]∧H'=bC s):=by
 have h:=JO s k hs;have es:kF s k=[iv (64*k),iv (64*(k+1))]:=by simp [kF,e]
 rw [es,e] at h;exact h
theorem Q8 (s:DSt) (k:Int) (hs:DOk s) :
  aJ Tryz.prog 81 [.ref 1000 0 0 0,iv k] (bC s) (fun r H'=>r=.tup [.agg (IQ s k),iv (WA s k)]∧H'=bC s):=by
 refine Bd func81 rfl ntmps81<|Sr<|Dd (by exact cH (id:=4) rfl zV rfl rfl)<|Dd aS<|Zz<|Sq<|Sq ?_;refine dF (t:=15) (n:=9) (X:=s.off) ?_ ?_
 ·all_goals refine Dd aF ?_
  all_goals refine Dd (by exact EY rfl jF rfl rfl rfl rfl)<|Dm ?_
  all_goals refine Sp 10 (fun h10=>?_) fun h10=>?_
  all_goals try contradiction
  all_goals refine On aF<|On fH<|On (dX vB)<|On (eQ dM)<|Dd dU<|Zz ?_
  all_goals(exact⟨⟨_,rfl,by rfl⟩,rfl,rfl,rfl⟩)
 refine Cn ?_ ?_<;>intro hc1
 ·refine Sr<|Dd (NR UD)<|Uu (qV sizeOf96)<|Dd aS<|Zz<|aN ?_;refine fW (H':=bC s) (.inr rfl) rfl (jP rfl iF sizeOf96 rfl rfl rfl (by simp only [Zl];rfl) rfl) (aI rfl) (Fin.wk (by(simp;done)) (Hc (aG _ _ rfl rfl rfl)<|Hc (aC _ _)<|Hc (aM _ _ _)<|Hc (aL _ _)<|trivial) ⟨rfl,rfl,rfl,rfl,trivial⟩) ?_;exact⟨by simp [IQ,WA,hc1],rfl⟩
 cases e:fE s k
 ·refine aK<|Sr<|Dd aF<|Dd aF<|Dd (by exact aB rfl rfl call59 rfl (cE (O0 s k hs e) _ ⟨rfl,rfl,rfl,rfl,trivial⟩ (by simp;rfl)))<|Dd aF<|Dd eR<|Dd eR<|Dd (by exact cH (id:=6) rfl zV rfl rfl)<|Uu (qV sizeOf96)<|Dd aS<|Zz<|Sq<|Sr<|Dd aF<|Dd AJ<|Zz ?_;refine Cn ?_ ?_<;>intro hc2
  ·refine Sr<|Dd (NR UD)<|Uu (qV sizeOf96)<|Dd aS<|Zz<|aN ?_;refine fW (H':=bC s) (.inr rfl) rfl (jP rfl iF sizeOf96 rfl rfl rfl (by simp only [Zl];rfl) rfl) (aI rfl) (Fin.wk (by(simp;done)) (Hc (aG _ _ rfl rfl rfl)<|Hc (aC _ _)<|Hc (aM _ _ _)<|Hc (aL _ _)<|trivial) ⟨rfl,rfl,rfl,rfl,trivial⟩) ?_;exact⟨by simp [IQ,WA,hc1,e,kF],rfl⟩
  cases hc2
 refine aK<|Sr<|Dd aF<|Dd aF<|Dd (by exact aB rfl rfl call59 rfl (cE (LM s k hs e) _ ⟨rfl,rfl,rfl,rfl,trivial⟩ (by simp;rfl)))<|Dd aF<|Dd eR<|Dd eR<|Dd (by exact cH (id:=6) rfl zV rfl rfl)<|Uu (qV sizeOf96)<|Dd aS<|Zz<|Sq<|Sr<|Dd aF<|Dd AJ<|Zz ?_;refine Cn ?_ ?_<;>intro hc3
 ·cases hc3
 refine aK<|Sr<|Dd (by exact cX rfl iF sizeOf96 rfl rfl rfl rfl (by simp only [Zl];rfl) rfl)<|Uu (qV sizeOf96)<|Dd aS<|Zz<|aN ?_;refine fW (H':=bC s) (.inr rfl) rfl (jP rfl iF sizeOf96 rfl rfl rfl (by simp only [Zl];rfl) rfl) (aI rfl) (Fin.wk (by(simp;done)) (Hc (aG _ _ rfl rfl rfl)<|Hc (aC _ _)<|Hc (aM _ _ _)<|Hc (aL _ _)<|trivial) ⟨rfl,rfl,rfl,rfl,trivial⟩) ?_;exact⟨by simp [IQ,WA,hc1,e,kF],rfl⟩
end Go.Proofs.YtmkgeogoojcciaaGreatDoor
namespace Go.Abs
open Go.RowKit
theorem Rel.below {I:Nat→Prop} {ι:cB} {H:aA} {w w':World} (hb:Below w.heap.size w w') (hr:Rel I ι H w):Rel I ι H w'∧Step I ι H w I ι H w':=by
 have hk:∀ b,b < w.heap.size→w'.heap[b]?=w.heap[b]?:=hb.block;have hst:Step I ι H w I ι H w':=by
  refine⟨hb.os,hb.tape,hb.output,hb.size,fun a ha _=>?_,fun _ h=>h,fun _ h=>.inl h,fun _ h=>.inl h,fun b hb _=>hk b hb,fun _ o h=>⟨o,h,ZR _,fun _=>⟨rfl,rfl,fun _=>ZR _⟩⟩⟩;unfold World.frozen?;rw [hk _ ha]
 refine⟨⟨fun b h=>?_,fun j o hj=>?_,hr.inj,hst.glob hr⟩,hst⟩
 ·have:=hr.imm b h;have:=hb.size;omega
 exact(hr.obj j o hj).keep rfl (fun b c _ hb=>⟨hk b hb,fun h=>h⟩) (fun r _ a _ v hv=>hv.mono hr hst)
end Go.Abs
section
namespace Go.Proofs
open Go.RowKit Go.Sort Go.Shelf
def Y7:Go.Shelf.Ren:=⟨fun|105=>130|212=>132|99=>159|165=>160|166=>86|170=>161|169=>88|263=>165|264=>166|206=>182|240=>116|241=>183|276=>143|277=>195|n=>n,fun|9=>9|3=>3|4=>4|20=>20|0=>0|46=>150|109=>170|5=>5|72=>138|76=>133|51=>191|146=>199|53=>93|148=>201|70=>136|37=>50|75=>132|127=>158|164=>179|80=>46|n=>n,fun|n=>n⟩
theorem ZC:Go.Proofs.Lays.n105 Tryz.prog Y7:={
  mixed:=by kernel_rfl
  f99:=Tryz.func159.trans (congrArg some (by kernel_rfl))
  f105:=Tryz.func130.trans (congrArg some (by kernel_rfl))
  f165:=Tryz.func160.trans (congrArg some (by kernel_rfl))
  f166:=Tryz.func86.trans (congrArg some (by kernel_rfl))
  f169:=Tryz.func88.trans (congrArg some (by kernel_rfl))
  f170:=Tryz.func161.trans (congrArg some (by kernel_rfl))
  f206:=Tryz.func182.trans (congrArg some (by kernel_rfl))
  f212:=Tryz.func132.trans (congrArg some (by kernel_rfl))
  f240:=Tryz.func116.trans (congrArg some (by kernel_rfl))
  f241:=Tryz.func183.trans (congrArg some (by kernel_rfl))
  f263:=Tryz.func165.trans (congrArg some (by kernel_rfl))
  f264:=Tryz.func166.trans (congrArg some (by kernel_rfl))
  f276:=Tryz.func143.trans (congrArg some (by kernel_rfl))
  f277:=Tryz.func195.trans (congrArg some (by kernel_rfl))
  t0:=wQ
  a0:=R2
  z0:=NM
  v0:=zU
  t3:=bX
  a3:=aU
  z3:=Tryz.sizeOf3
  v3:=lE
  t4:=cS
  a4:=dM
  z4:=Tryz.sizeOf4
  v4:=zT
  t5:=bI
  a5:=oL
  z5:=cL
  v5:=iN
  t9:=aH
  a9:=bB
  z9:=Tryz.sizeOf9
  v9:=fC
  t20:=NL
  a20:=YL
  z20:=XL
  v20:=RN
  t37:=bV
  a37:=eO
  z37:=Tryz.sizeOf50
  v37:=RL
  t46:=eL
  a46:=vM
  z46:=sD
  v46:=mI
  t51:=sB
  a51:=GK
  z51:=DY
  v51:=uH
  t53:=dV
  a53:=mL
  z53:=kU
  v53:=kE
  t70:=iD
  a70:=GL
  z70:=WF
  v70:=Tryz.zeroValue136
  t72:=IU
  a72:=Tryz.isAgg138
  z72:=Tryz.sizeOf138
  v72:=Tryz.zeroValue138
  t75:=iE
  a75:=Tryz.isAgg132
  z75:=Tryz.sizeOf132
  v75:=Tryz.zeroValue132
  t76:=Tryz.underlying133
  a76:=Tryz.isAgg133
  z76:=Tryz.sizeOf133
  v76:=Tryz.zeroValue133
  t109:=Tryz.underlying170
  a109:=Tryz.isAgg170
  z109:=Tryz.sizeOf170
  v109:=Tryz.zeroValue170
  t127:=sC
  a127:=Tryz.isAgg158
  z127:=Tryz.sizeOf158
  v127:=Tryz.zeroValue158
  t146:=Tryz.underlying199
  a146:=Tryz.isAgg199
  z146:=Tryz.sizeOf199
  v146:=Tryz.zeroValue199
  t148:=Tryz.underlying201
  a148:=Tryz.isAgg201
  z148:=Tryz.sizeOf201
  v148:=Tryz.zeroValue201
  t164:=IT
  a164:=Tryz.isAgg179
  z164:=Tryz.sizeOf179
  v164:=Tryz.zeroValue179}
end Go.Proofs
namespace Go.Proofs.YtmkgeogoojcciaaGreatDoor
open Go.Proofs.Tryz
open Go.Abs Go.Lib
theorem SO:Builder.Extra Tryz.prog Y7:=⟨⟨by kernel_rfl,by kernel_rfl⟩,bI,oL,cL,iN,by kernel_rfl,by kernel_rfl,by kernel_rfl,by decide⟩
def HD (s:ByteArray) (n:Nat):ByteArray:=⟨(Lib.repeatL s.data.toList n).toArray⟩
theorem EO (s:ByteArray) (n:Nat) (hl:s.size*n≤140737488355328) (hn:n≤9223372036854775807) (H:aA):aJ Tryz.prog 130 [sv s,iv (n:Int)] H (fun r H'=>r=sv (HD s n)∧H'=H):=by
 intro I ι w vs hr hvl hv;obtain ⟨v,u,rfl⟩:∃ v u,vs=#[v,u]:=by
  match vs,hvl with
  | ⟨[v,u]⟩,_=>exact⟨v,u,rfl⟩
 have e1:=(hv 0 v _ rfl rfl).str_inv;have e2:=(hv 1 u _ rfl rfl).int_inv;subst e1 e2;refine(Any.strings_Repeat ZC SO s n w hn hl).mono ?_;rintro e w' ⟨rfl,hb⟩;obtain ⟨k1,k2⟩:=Rel.below hb hr;exact⟨_,_,I,ι,_,rfl,⟨rfl,rfl⟩,.pv (.str _),k1,k2⟩
theorem lA (n:Nat):(dA (n:Int)).data.toList=decDigits n:=by show (Lib.itoa (n:Int)).toArray.toList=_;rw [PN _ (Int.natCast_nonneg n),ZX]
theorem xT (b:UInt8):∀ n,Lib.repeatL [b] n=List.replicate n b
 | 0=>rfl
 | n+1=>by rw [Lib.repeatL,xT b n,List.replicate_succ];rfl
theorem uQ (b:UInt8) (n:Nat):(HD ⟨#[b]⟩ n).data.toList=List.replicate n b:=xT b n
theorem A4 (b:UInt8) (n:Nat):(HD ⟨#[b]⟩ n).size=n:=by rw [← cW,uQ,List.length_replicate]
def dg (n w:Nat):List UInt8:=List.replicate (w - (decDigits n).length) 48++decDigits n
theorem kL {n w:Nat} (h:(decDigits n).length≤w):(dg n w).length=w:=by rw [dg,ZM,List.length_replicate];omega
theorem mZ (n w:Nat) (hn:n < 1000000000000) (hw:w≤1000) (H:aA):aJ Tryz.prog 102 [iv (n:Int),iv (w:Int)] H (fun r H'=>r=sv (ofL (dg n w))∧H'=H):=by
 refine Pu ?_;have hz:=lA n;have hsz:(dA (n:Int)).size=(decDigits n).length:=by rw [← cW,hz]
 have hd21:(dA (n:Int)).size≤21:=rR (by omega) (by omega);obtain ⟨k,hk⟩:∃ k,k=w - (decDigits n).length:=⟨_,rfl⟩;have hmx:max (0:Int) ((w:Int) - ((dA (n:Int)).size:Int))=((k:Nat):Int):=by rw [hsz,hk];omega
 have hks:(HD ⟨#[48]⟩ k).size=k:=A4 48 k;have e:HD ⟨#[48]⟩ k++dA (n:Int)=ofL (dg n w):=YC (by
  rw [aX,ByteArray.data_append,Array.toList_append,uQ,hz,dg,hk])
 rw [← e];clear e;exact Bd func102 rfl ntmps102<|Sr<|Dd aS<|Zz<|Sr<|Dd aF<|Dd (by exact aB rfl rfl oN rfl (nQ (n:Int) (by omega) (by omega) _))<|Dd aS<|Zz<|Sr<|Dd aF<|Dd aF<|Dd (wN aH)<|Dd (by exact dQ rfl rfl rfl (by exact gV (by omega) (by omega)))<|Dd (by exact CR rfl rfl rfl hmx)<|Dd (by exact aB rfl rfl call130 rfl (EO ⟨#[48]⟩ k (by show 1*k≤_;omega) (by omega) _))<|Dd aF<|Dd (by exact gE rfl rfl rfl (by omega) rfl)<|Dd aS<|Zz<|aN<|Rt<|Qq
def zB (n:Nat):List UInt8:=List.replicate n 0
theorem nW (H:aA):aJ Tryz.prog 43 [] H (fun r H'=>r=sv (ofL (zB 64))∧H'=H):=by
 refine Pu ?_;have hb:((List.replicate 64 [AV.pv (.int .u8 0)]).drop 0).take 64=bF (zB 64):=by
  rw [List.drop_zero,List.take_of_length_le (by simp),bF,zB,List.map_replicate];rfl
 refine Bd func43 rfl ntmps43<|Sr<|Dd aS<|Zz<|Sr<|Dd (by exact iI (id:=901) rfl CC WO WW rfl rfl rfl (by decide) (by decide) rfl rfl (by decide) rfl)<|Dd (by exact fR rfl bV bI aH rfl rfl rfl rfl hb rfl)<|Dd aS<|Zz<|aN ?_;refine bD (H':=[]) (.inr rfl) rfl (aI rfl) (Fin.wk (r:=sv (ofL (zB 64))) (by simp) trivial trivial) ?_;exact Qq
def GW (l:List UInt8):List UInt8:=H8 (FU (MQ l.length) l)
theorem QD (l:List UInt8):QE (ofL l)=ofL (GW l):=by rw [QE,aX,bP];rfl
theorem sJ (l:List UInt8):(GW l).length=16:=by simp [GW,H8]
def qO (c:List UInt8):List UInt8:=c++zB (48 - c.length)
theorem xX {c:List UInt8} (h:c.length≤48):(qO c).length=48:=by rw [qO,ZM,zB,List.length_replicate];omega
def oC (place:Nat) (c:List UInt8):List UInt8:=GW (dg place 8++qO c)++qO c
theorem A2 {place:Nat} {c:List UInt8} (h:c.length≤48):(oC place c).length=64:=by rw [oC,ZM,sJ,xX h]
theorem pJ (n w:Nat) (hn:n < 1000000000000):(dg n w).length≤w+21:=by
 have hz:=lA n;have hsz:(dA (n:Int)).size=(decDigits n).length:=by rw [← cW,hz]
 have hd21:(dA (n:Int)).size≤21:=rR (by omega) (by omega);rw [dg,ZM,List.length_replicate];omega
theorem sX (a b:List UInt8):ofL a++ofL b=ofL (a++b):=YC (by
 rw [aX,ByteArray.data_append,Array.toList_append,aX,aX])
theorem xQ (place:Nat) (c:List UInt8) (hp:place < 1000000000000) (hc:c.length≤48) (H:aA):aJ Tryz.prog 101 [iv (place:Int),sv (ofL c)] H (fun r H'=>r=sv (ofL (oC place c))∧H'=H):=by
 refine Pu ?_;have hcs:(ofL c).size=c.length:=bP c;have hks:(HD ⟨#[0]⟩ (48 - c.length)).size=48 - c.length:=A4 0 _;have hpad:ofL c++HD ⟨#[0]⟩ (48 - c.length)=ofL (qO c):=YC (by
  rw [aX,ByteArray.data_append,Array.toList_append,uQ,aX];rfl)
 have hpl:(ofL (qO c)).size=48:=by rw [bP,xX hc]
 have hdl:(ofL (dg place 8)).size≤29:=by rw [bP];exact pJ place 8 hp
 have hs16:(ofL (GW (dg place 8++qO c))).size=16:=by rw [bP,sJ]
 have hsub:IntKind.i64.wrap (48 - ((ofL c).size:Int))=((48 - c.length:Nat):Int):=by rw [hcs,gV (by omega) (by omega)];omega
 have hsum:∀ H,aJ Tryz.prog 131 [sv (ofL (dg place 8++qO c))] H (fun r H'=>r=sv (ofL (GW (dg place 8++qO c)))∧H'=H):=fun H=>by
  have:=W0 (ofL (dg place 8++qO c)) H (by rw [bP,ZM,xX hc];have:=pJ place 8 hp;omega)
  rwa [QD] at this
 have e1:ofL (dg place 8)++ofL (qO c)=ofL (dg place 8++qO c):=sX _ _;have e2:ofL (GW (dg place 8++qO c))++ofL (qO c)=ofL (oC place c):=sX _ _;exact Bd func101 rfl ntmps101<|Sr<|Dd aS<|Zz<|Sr<|Dd aF<|Dd aF<|Dd (wN aH)<|Dd (by exact dQ rfl rfl rfl hsub)<|Dd (by exact aB rfl rfl call130 rfl (EO ⟨#[0]⟩ (48 - c.length) (by show 1*_≤_;omega) (by omega) _))<|Dd (by exact gE rfl rfl rfl (by omega) hpad)<|Dd aS<|Zz<|Sr<|Dd aF<|Dd (by exact aB rfl rfl zK rfl (mZ place 8 hp (by omega) _))<|Dd aF<|Dd (by exact gE rfl rfl rfl (by omega) e1)<|Dd (by exact aB rfl rfl call131 rfl (hsum _))<|Dd aF<|Dd (by exact gE rfl rfl rfl (by omega) e2)<|Dd aS<|Zz<|aN<|Rt<|Qq
end Go.Proofs.YtmkgeogoojcciaaGreatDoor
end
namespace Go.Abs
open Go.Proofs
def U5 (v:Value):Prop:=∃ t p,v=.iface t p
abbrev MK:PV:=.sat U5
def pP (s:ByteArray):Int×PV:=match Lib.atoiAll s.data.toList with
 | .ok v=>(v,HW)
 | .range=>(Lib.atoiSat s.data.toList,MK)
 | _=>(0,MK)
theorem atoi_c {P:Program} {ρ:Shelf.Ren} (L:LaysC.n172 P ρ) {G1 G2:Nat} (hg1:(G1,GV.face)∈DF) (hn1:P.globalNamed "strconv.ErrSyntax" = some G1) (hg2:(G2,GV.face)∈DF) (hn2:P.globalNamed "strconv.ErrRange" = some G2) (s:ByteArray) (hs:s.size < 1099511627776) (H:aA) :
  aJ P (ρ.f 172) [.pv (.str s)] H (fun r H'=>r=.tup [.pv (.int .i64 (pP s).1),.pv (pP s).2]∧H'=H):=by
 intro I ι w vs hr hvl hv;obtain ⟨v,rfl⟩:∃ v,vs=#[v]:=by
  match vs,hvl with
  | ⟨[v]⟩,_=>exact⟨v,rfl⟩
 have e1:=(hv 0 v _ rfl rfl).str_inv;subst e1;have hvar:∀ (name:String) (G:Nat),(G,GV.face)∈DF→P.globalNamed name=some G→∃ t p,w.var? P name=some #[.iface t p]:=fun name G hg hn=>by
  obtain ⟨_,cs,t,f,h2,q,p,h3⟩:=hr.glob _ hg;subst h3;exact⟨q,p,by simp only [World.var?,hn,Option.bind_some,h2]⟩
 have fin:∀ (n:Int) (x:Value) (a:PV) (w':World),RowKit.Below w.heap.size w w'→(∀ I H,VRel w' I ι H x (.pv a))→∃ r H' I' ι' v',(Ending.returned (.tuple #[.int .i64 n,x]))=.returned v'∧(r=.tup [.pv (.int .i64 n),.pv a]∧H'=H)∧VRel w' I' ι' H' v' r∧Rel I' ι' H' w'∧Step I ι H w I' ι' H' w':=fun n x a w' hb hx=>by
  obtain ⟨k1,k2⟩:=Rel.below hb hr;refine⟨_,_,I,ι,_,rfl,⟨rfl,rfl⟩,.tup rfl fun i v b h1 h2=>?_,k1,k2⟩
  match i,h1,h2 with
  | 0,h1,h2=>cases h1;cases h2;exact .pv (.int _ _)
  | 1,h1,h2=>cases h1;cases h2;exact hx _ _
  | i+2,h1,h2=>simp at h1
 rw [pP];cases h:Lib.atoiAll s.data.toList with
 | ok n =>
  refine(Any.strconv_Atoi_ok L s (by omega) n h w).mono ?_;rintro e w' ⟨rfl,hw⟩;have hb:RowKit.Below w.heap.size w w':=by
   rcases hw with rfl|⟨t,rfl⟩
   ·exact RowKit.Below.refl _ _
   exact Lib.bytesWorld_below w _ t
  exact fin n .nilIface HW w' hb (fun _ _=>.pv (.sat rfl rfl))
 | range =>
  obtain ⟨t,p,hq⟩:=hvar _ G2 hg2 hn2;refine(Any.strconv_Atoi_range_var L s (by omega) h t p w hq).mono ?_;rintro e w' ⟨N,rfl,_,_,hb⟩;exact fin _ _ MK w' hb (fun _ _=>.pv (.sat rfl ⟨_,_,rfl⟩))
 | _ =>
  obtain ⟨t,p,hq⟩:=hvar _ G1 hg1 hn1;refine(Any.strconv_Atoi_syntax_var L s (by omega) h t p w hq).mono ?_;rintro e w' ⟨N,rfl,_,_,hb⟩;exact fin 0 _ MK w' hb (fun _ _=>.pv (.sat rfl ⟨_,_,rfl⟩))
end Go.Abs
section
namespace Go.Proofs
open Go.RowKit Go.Sort Go.Shelf
def ZB:Go.Shelf.Ren:=⟨fun|172=>82|244=>114|245=>115|247=>138|279=>139|280=>140|281=>141|282=>142|287=>168|316=>169|171=>98|205=>170|321=>184|322=>185|243=>128|246=>158|283=>178|284=>179|285=>180|286=>181|129=>157|317=>191|318=>192|319=>193|320=>194|337=>198|338=>199|n=>n,fun|9=>9|3=>3|75=>132|76=>133|4=>4|5=>5|167=>173|37=>50|0=>0|85=>174|2=>2|168=>176|53=>93|175=>203|46=>150|210=>206|127=>158|145=>222|143=>220|21=>21|171=>215|173=>217|212=>229|51=>191|20=>20|213=>230|232=>234|233=>235|80=>46|n=>n,fun|15=>0|16=>1|17=>3|18=>4|19=>5|n=>n⟩
theorem ZF:Go.Proofs.LaysC.n172 Tryz.prog ZB:={
  mixed:=by kernel_rfl
  f129:=Tryz.func157.trans (congrArg some (by kernel_rfl))
  f171:=Tryz.func98.trans (congrArg some (by kernel_rfl))
  f172:=Tryz.func82.trans (congrArg some (by kernel_rfl))
  f205:=Tryz.func170.trans (congrArg some (by kernel_rfl))
  f243:=Tryz.func128.trans (congrArg some (by kernel_rfl))
  f244:=Tryz.func114.trans (congrArg some (by kernel_rfl))
  f245:=Tryz.func115.trans (congrArg some (by kernel_rfl))
  f246:=Tryz.func158.trans (congrArg some (by kernel_rfl))
  f247:=Tryz.func138.trans (congrArg some (by kernel_rfl))
  f279:=Tryz.func139.trans (congrArg some (by kernel_rfl))
  f280:=Tryz.func140.trans (congrArg some (by kernel_rfl))
  f281:=Tryz.func141.trans (congrArg some (by kernel_rfl))
  f282:=Tryz.func142.trans (congrArg some (by kernel_rfl))
  f283:=Tryz.func178.trans (congrArg some (by kernel_rfl))
  f284:=Tryz.func179.trans (congrArg some (by kernel_rfl))
  f285:=Tryz.func180.trans (congrArg some (by kernel_rfl))
  f286:=Tryz.func181.trans (congrArg some (by kernel_rfl))
  f287:=Tryz.func168.trans (congrArg some (by kernel_rfl))
  f316:=Tryz.func169.trans (congrArg some (by kernel_rfl))
  f317:=Tryz.func191.trans (congrArg some (by kernel_rfl))
  f318:=Tryz.func192.trans (congrArg some (by kernel_rfl))
  f319:=Tryz.func193.trans (congrArg some (by kernel_rfl))
  f320:=Tryz.func194.trans (congrArg some (by kernel_rfl))
  f321:=Tryz.func184.trans (congrArg some (by kernel_rfl))
  f322:=Tryz.func185.trans (congrArg some (by kernel_rfl))
  f337:=Tryz.func198.trans (congrArg some (by kernel_rfl))
  f338:=Tryz.func199.trans (congrArg some (by kernel_rfl))
  t0:=wQ
  a0:=R2
  z0:=NM
  v0:=zU
  t2:=Tryz.underlying2
  a2:=Tryz.isAgg2
  z2:=Tryz.sizeOf2
  v2:=Tryz.zeroValue2
  t3:=bX
  a3:=aU
  z3:=Tryz.sizeOf3
  v3:=lE
  t4:=cS
  a4:=dM
  z4:=Tryz.sizeOf4
  v4:=zT
  t5:=bI
  a5:=oL
  z5:=cL
  v5:=iN
  t9:=aH
  a9:=bB
  z9:=Tryz.sizeOf9
  v9:=fC
  t20:=NL
  a20:=YL
  z20:=XL
  v20:=RN
  t21:=Tryz.underlying21
  a21:=Tryz.isAgg21
  z21:=Tryz.sizeOf21
  v21:=Tryz.zeroValue21
  t37:=bV
  a37:=eO
  z37:=Tryz.sizeOf50
  v37:=RL
  t46:=eL
  a46:=vM
  z46:=sD
  v46:=mI
  t51:=sB
  a51:=GK
  z51:=DY
  v51:=uH
  t53:=dV
  a53:=mL
  z53:=kU
  v53:=kE
  t75:=iE
  a75:=Tryz.isAgg132
  z75:=Tryz.sizeOf132
  v75:=Tryz.zeroValue132
  t76:=Tryz.underlying133
  a76:=Tryz.isAgg133
  z76:=Tryz.sizeOf133
  v76:=Tryz.zeroValue133
  t85:=Tryz.underlying174
  a85:=Tryz.isAgg174
  z85:=Tryz.sizeOf174
  v85:=Tryz.zeroValue174
  t127:=sC
  a127:=Tryz.isAgg158
  z127:=Tryz.sizeOf158
  v127:=Tryz.zeroValue158
  t143:=Tryz.underlying220
  a143:=Tryz.isAgg220
  z143:=Tryz.sizeOf220
  v143:=Tryz.zeroValue220
  t145:=Tryz.underlying222
  a145:=Tryz.isAgg222
  z145:=Tryz.sizeOf222
  v145:=Tryz.zeroValue222
  t167:=Tryz.underlying173
  a167:=Tryz.isAgg173
  z167:=Tryz.sizeOf173
  v167:=Tryz.zeroValue173
  t168:=Tryz.underlying176
  a168:=Tryz.isAgg176
  z168:=Tryz.sizeOf176
  v168:=Tryz.zeroValue176
  t171:=Tryz.underlying215
  a171:=Tryz.isAgg215
  z171:=Tryz.sizeOf215
  v171:=Tryz.zeroValue215
  t173:=Tryz.underlying217
  a173:=Tryz.isAgg217
  z173:=Tryz.sizeOf217
  v173:=Tryz.zeroValue217
  t175:=Tryz.underlying203
  a175:=Tryz.isAgg203
  z175:=Tryz.sizeOf203
  v175:=Tryz.zeroValue203
  t210:=Tryz.underlying206
  a210:=Tryz.isAgg206
  z210:=Tryz.sizeOf206
  v210:=Tryz.zeroValue206
  t212:=Tryz.underlying229
  a212:=Tryz.isAgg229
  z212:=Tryz.sizeOf229
  v212:=Tryz.zeroValue229
  t213:=Tryz.underlying230
  a213:=Tryz.isAgg230
  z213:=Tryz.sizeOf230
  t232:=Tryz.underlying234
  a232:=Tryz.isAgg234
  z232:=Tryz.sizeOf234
  v232:=Tryz.zeroValue234
  t233:=Tryz.underlying235
  a233:=Tryz.isAgg235
  z233:=Tryz.sizeOf235
  v233:=Tryz.zeroValue235
  g15:=by kernel_rfl
  g16:=by kernel_rfl
  g17:=by kernel_rfl
  g18:=by kernel_rfl
  g19:=by kernel_rfl
  t80:=Tryz.underlying46
  a80:=Tryz.isAgg46
  z80:=Tryz.sizeOf46
  v80:=Tryz.zeroValue46
  i0:=by kernel_rfl
  i2:=by kernel_rfl
  i3:=by kernel_rfl
  i4:=by kernel_rfl
  i5:=by kernel_rfl
  i9:=by kernel_rfl
  i20:=by kernel_rfl
  i21:=by kernel_rfl
  i37:=by kernel_rfl
  i46:=by kernel_rfl
  i51:=by kernel_rfl
  i53:=by kernel_rfl
  i75:=by kernel_rfl
  i76:=by kernel_rfl
  i80:=by kernel_rfl
  i85:=by kernel_rfl
  i127:=by kernel_rfl
  i143:=by kernel_rfl
  i145:=by kernel_rfl
  i167:=by kernel_rfl
  i168:=by kernel_rfl
  i171:=by kernel_rfl
  i173:=by kernel_rfl
  i175:=by kernel_rfl
  i210:=by kernel_rfl
  i212:=by kernel_rfl
  i232:=by kernel_rfl
  i233:=by kernel_rfl
  m15:=by kernel_rfl
  m16:=by kernel_rfl
  m17:=by kernel_rfl
  m18:=by kernel_rfl
  m19:=by kernel_rfl
  c0:=by kernel_rfl
  c2:=by kernel_rfl
  c3:=by kernel_rfl
  c4:=by kernel_rfl
  c5:=by kernel_rfl
  c9:=by kernel_rfl
  c20:=by kernel_rfl
  c21:=by kernel_rfl
  c37:=by kernel_rfl
  c46:=by kernel_rfl
  c51:=by kernel_rfl
  c53:=by kernel_rfl
  c75:=by kernel_rfl
  c76:=by kernel_rfl
  c80:=by kernel_rfl
  c85:=by kernel_rfl
  c127:=by kernel_rfl
  c143:=by kernel_rfl
  c145:=by kernel_rfl
  c167:=by kernel_rfl
  c168:=by kernel_rfl
  c171:=by kernel_rfl
  c173:=by kernel_rfl
  c175:=by kernel_rfl
  c210:=by kernel_rfl
  c212:=by kernel_rfl
  c213:=by kernel_rfl
  c232:=by kernel_rfl
  c233:=by kernel_rfl}
end Go.Proofs
namespace Go.Proofs.YtmkgeogoojcciaaGreatDoor
open Go.Proofs.Tryz
open Go.Abs
theorem UG (s:ByteArray) (hs:s.size < 1099511627776) (H:aA):aJ Tryz.prog 82 [sv s] H (fun r H'=>r=.tup [iv (pP s).1,.pv (pP s).2]∧H'=H) :=Go.Abs.atoi_c ZF (G1:=0) (G2:=1) (by unfold DF;exact .tail _ (.tail _ (.head _))) (by kernel_rfl) (by unfold DF;exact .tail _ (.head _)) (by kernel_rfl) s hs H
end Go.Proofs.YtmkgeogoojcciaaGreatDoor
end
namespace Go.Abs
open Go.Proofs
section
section
variable {P:Program} {N:Nat} {o:Oper} {E:bJ} {H:aA} {t t':TypeId} {x:Operand}
theorem HM (ho:o.op=.binOp .neq t x (.const .nilIface) t') (ht:P.underlying t=some (.interface (P.methodsAt t))) (hx:aO E x=some (.pv HW)):bN P N o E H (.pv (.bool false)) H :=.of_run fun a w I ι _ he=>⟨.bool false,by
  have e1:a.eval x=.nilIface:=(aE he hx).sat_inv;have e2:a.eval (.const .nilIface)=.nilIface:=rfl;simp only [execOp,ho,e1,e2,eqGuard,Sem.run_bind,Sem.run_pure,Result.andThen_ok,run_neq_nil_nil _ _ ht,Bool.or_true,if_true,Bool.not_true,Bool.false_eq_true,if_false],.pv (.bool _)⟩
theorem HN (ho:o.op=.binOp .neq t x (.const .nilIface) t') (ht:P.underlying t=some (.interface (P.methodsAt t))) (hx:aO E x=some (.pv MK)):bN P N o E H (.pv (.bool true)) H :=.of_run fun a w I ι _ he=>⟨.bool true,by
  obtain ⟨q,p,e1⟩:U5 (a.eval x):=(aE he hx).sat_inv;have e2:a.eval (.const .nilIface)=.nilIface:=rfl;simp only [execOp,ho,e1,e2,eqGuard,Sem.run_bind,Sem.run_pure,Result.andThen_ok,run_neq_held_nil _ _ _ _ ht];rfl,.pv (.bool _)⟩
end
end
end Go.Abs
namespace Go.Proofs.YtmkgeogoojcciaaGreatDoor
open Go.Proofs.Tryz
open Go.Abs
abbrev EK (n:Nat):List AV:=[iv ((64*n:Nat):Int),iv ((64*(n+1):Nat):Int)]
theorem OF (n:Nat):[iv (64*(n:Int)),iv (64*((n:Int)+1))]=EK n:=by
 have e1:64*(n:Int)=((64*n:Nat):Int):=by omega
 have e2:64*((n:Int)+1)=((64*(n+1):Nat):Int):=by omega
 rw [e1,e2]
theorem jO {s:DSt} {n:Nat}:fE s (n:Int)=decide (n < s.cells.length):=by unfold fE;rw [Bool.eq_iff_iff];simp
theorem oU (s:DSt) (k:Int):fE s k=false∨∃ n:Nat,k=(n:Int)∧n < s.cells.length:=by
 cases h:fE s k with
 | false=>exact .inl rfl
 | true =>
  obtain ⟨h0,h1⟩:0≤k∧k < (s.cells.length:Int):=by simpa [fE] using h
  exact .inr ⟨k.toNat,by omega,by omega⟩
theorem Q7 (s:DSt) (k:Int) (hs:DOk s) (e:s.off=true):aJ Tryz.prog 81 [.ref 1000 0 0 0,iv k] (bC s) (fun r H'=>r=.tup [.agg [iv 0,iv 0],iv 22]∧H'=bC s):=by have h:=Q8 s k hs;simp only [IQ,WA,e,if_true] at h;exact h
theorem U7 (s:DSt) (k:Int) (hs:DOk s) (e:s.off=false) (e2:fE s k=false):aJ Tryz.prog 81 [.ref 1000 0 0 0,iv k] (bC s) (fun r H'=>r=.tup [.agg [iv 0,iv 0],iv 1]∧H'=bC s):=by have h:=Q8 s k hs;simp only [IQ,WA,e,e2,kF,Bool.false_eq_true,if_false] at h;exact h
theorem Q6 (s:DSt) (n:Nat) (hs:DOk s) (e:s.off=false) (e2:n < s.cells.length):aJ Tryz.prog 81 [.ref 1000 0 0 0,iv (n:Int)] (bC s) (fun r H'=>r=.tup [.agg (EK n),iv 0]∧H'=bC s):=by
 have h:=Q8 s n hs;have e3:fE s (n:Int)=true:=by rw [jO];simpa using e2
 simp only [IQ,WA,e,e3,kF,Bool.false_eq_true,if_false,if_true,OF] at h;exact h
theorem LY (s:DSt) (hs:DOk s) {n:Nat} {c t:ByteArray} (hc:s.cells[n]?=some c) (ht:t.size≤64) :
  (bF (flat s.cells)).take (64*n)++(bF (t.data.toList.take t.size)++(bF (flat s.cells)).drop (64*n+t.size))=bF (flat (s.cells.set n (oH t c))):=by
 rw [← ON hs.c hc ht];simp only [bF,List.map_append,List.map_take,List.map_drop]
abbrev dH (r:List AV) (l:List ByteArray) (s:DSt):aA:=[(1000,⟨0,4,80,[r]⟩),(1001,⟨0,1,5,bF (flat l)⟩),(1002,⟨s.gq,3,103,vR s.q⟩),(1003,⟨s.ga,3,100,oK s.arm⟩)]
theorem UP (s:DSt) (n:Nat) (c t:ByteArray) (hs:DOk s) (hc:s.cells[n]?=some c) (ht:t.size≤64) :
  aJ Tryz.prog 61 [.ref 1000 0 0 0,.agg (EK n),sv t] (bC s) (fun r H'=>r=.tup []∧H'=bC {s with cells:=s.cells.set n (oH t c)}):=by
 have hlt:=(ZP.1 hc).1;have hfl:=mX hs.c;have hmin:min t.size (64*(n+1) - 64*n)=t.size:=by omega
 have hrows:(bF (flat s.cells)).take (0+64*n)++(bF (t.data.toList.take t.size)++(bF (flat s.cells)).drop (0+64*n+t.size))=bF (flat (s.cells.set n (oH t c))):=by
  rw [Z4];exact LY s hs hc ht
 have hlen:(s.cells.set n (oH t c)).length=s.cells.length:=List.length_set;refine Bd func61 rfl ntmps61<|Sr<|Dd (by exact gN (id:=4) rfl rfl rfl rfl rfl)<|Zz<|bU follows<|Cr [1000] (fun _ _=>aF)<|Cr [1000] (fun H1 hH=>by exact bO rfl rfl ((hH _ rfl).trans rfl) rfl)<|Cr [1000] (fun _ h=>fh DK h)<|Cr [1000] (fun _ h=>lh eO h)<|Cr [4] (fun _ h=>fh DJ h)<|Cr [4] (fun _ h=>lh aU h)<|Cr [4] (fun _ h=>fh P3 h)<|Cr [4] (fun _ h=>lh aU h)<|Cr [1001] (fun H1 hH=>by exact fI (l:=(64*n)) (h:=(64*(n+1))) rfl CC rfl ((hH _ rfl).trans rfl) rfl rfl rfl rfl (by omega) (by omega) rfl rfl)<|Cr [] (fun _ _=>aF)<|Cp [1001] (fun H1 hH=>by exact GN rfl CC rfl ((hH _ rfl).trans rfl) rfl rfl rfl hmin hrows)<|dO<|Kr ?_;refine jJ (H':=dH (pL s) (s.cells.set n (oH t c)) s) (by exact .inl rfl) rfl  (Fin.wk (by(simp;done)) (Hc (aG _ _ rfl rfl rfl)<|Hc (aC _ _)<|Hc (aM _ _ _)<|Hc (aL _ _)<|trivial) ⟨rfl,rfl,rfl,rfl,trivial⟩) ?_;exact⟨rfl,by simp only [bC,dH,pL,hlen]⟩
theorem KZ {α:Type} {l:List α} {i:Nat} {a:α} (h:l[i]?=some a):l.take (i+1)=l.take i++[a]:=by rw [List.take_add_one,h];rfl
def cM (cells:List ByteArray) (l:List (Nat×ByteArray)):List ByteArray:=l.foldl (fun cs p=>cs.set p.1 p.2) cells
theorem gD (l:List (Nat×ByteArray)):∀ cells:List ByteArray,(cM cells l).length=cells.length:=by
 induction l with
 | nil=>intro cells;rfl
 | cons p l ih=>intro cells;show (cM (cells.set p.1 p.2) l).length=_;rw [ih,List.length_set]
theorem ET (cells:List ByteArray) (l:List (Nat×ByteArray)) (p:Nat×ByteArray):cM cells (l++[p])=(cM cells l).set p.1 p.2:=by unfold cM;rw [List.foldl_append];rfl
theorem vS {l:List (Nat×ByteArray)} (hl:∀ p,p∈l→p.2.size=64):∀ {cells:List ByteArray},(∀ c,c∈cells→c.size=64)→∀ c,c∈cM cells l→c.size=64:=by
 induction l with
 | nil=>intro cells h;exact h
 | cons p l ih =>
  intro cells h;exact ih (fun p hp=>hl p (by simp [hp])) (fun c hc=>by
   rcases List.mem_or_eq_of_mem_set hc with e|e
   ·exact h c e
   rw [e];exact hl p (by simp))
theorem HG {s:DSt} (hs:DOk s) (m:Nat):DOk {s with cells:=cM s.cells (s.q.take m)} :=⟨by simpa [gD] using hs.n1,by simpa [gD] using hs.n2,vS (fun p hp=>(hs.q p (List.mem_of_mem_take hp)).2) hs.c,fun p hp=>by simpa [gD] using hs.q p hp,hs.ql⟩
theorem VH (s:DSt) (n:Nat) (t:ByteArray) (hs:DOk s) (hn:n < s.cells.length) (ht:t.size=64) :
  aJ Tryz.prog 61 [.ref 1000 0 0 0,.agg (EK n),sv t] (bC s) (fun r H'=>r=.tup []∧H'=bC {s with cells:=s.cells.set n t}):=by
 obtain ⟨c,hc⟩:=bM hn;have h:=UP s n c t hs hc (by omega);rw [LZ ht (hs.c c (ZW hc))] at h;exact h
theorem EN (s:DSt) (m:Nat) (hs:DOk s) (hm:m≤s.q.length) :
  aJ Tryz.prog 60 [.ref 1000 0 0 0,.osl 1002 s.gq 0 m] (bC s) (fun r H'=>r=.tup []∧H'=bC {s with cells:=cM s.cells (s.q.take m)}):=by
 have hql:=hs.ql;refine Bd func60 rfl ntmps60<|Sr<|Dd aF<|Dd (by exact dD rfl mK rfl rfl rfl)<|Dd aF<|Zz<|aP ?_;refine bR (σ:=Nat) (fun i=>([(0,.ref 1000 0 0 0),(6,.osl 1002 s.gq 0 m),(7,iv (m:Int)),(8,iv (i:Int))],bC {s with cells:=cM s.cells (s.q.take i)})) (fun i=>i≤m) (fun i=>m - i) 0 (by omega) ?_ ?_
 ·exact(cG.wk (Ea<|Ea<|Eb<|Eb<|trivial) (Hc (aG _ _ rfl rfl rfl)<|Hc (aC _ _)<|Hc (aM _ _ _)<|Hc (aL _ _)<|trivial) ⟨rfl,rfl,rfl,rfl,trivial⟩)
 rintro i hi;refine Sr<|Dd eF<|Zz<|Sq ?_;refine Cn ?_ ?_<;>intro hc1
 ·have hlt:i < m:=by have:=ZH hc1;omega
  obtain ⟨p,hp⟩:=bM (show i < s.q.length by omega);have hpe:(vR s.q)[0+i]?=some ((kR p).map .pv):=by rw [Z4,Z6,hp];rfl
  obtain ⟨hp1,hp2⟩:=hs.q p (ZW hp);have hset:=VH {s with cells:=cM s.cells (s.q.take i)} p.1 p.2 (HG hs i) (by simpa [gD] using hp1) hp2;have hn:cM s.cells (s.q.take (i+1))=(cM s.cells (s.q.take i)).set p.1 p.2:=by rw [KZ hp,ET]
  rw [← hn] at hset;refine aK<|Sq<|aP<|Sr<|Dd (by exact eC rfl G6 rfl rfl rfl rfl rfl (by omega) (by exact ZX _) (by omega) rfl)<|Dd (by exact cX rfl isAgg103 sE rfl rfl rfl hpe (by simp only [Zl,kR];rfl) rfl)<|Dd (by exact cH (id:=5) rfl UM rfl rfl)<|Uu (qV sE)<|Zz<|Rg<|Dd aF<|Dd (dX DM)<|Dd (TA iF sizeOf96)<|Dd (dX DL)<|Dd (eQ bB)<|Dd (by exact aB rfl rfl call61 rfl (cE hset _ ⟨rfl,rfl,rfl,rfl,trivial⟩ (by(simp;rfl))))<|Zz<|Rg<|Dd rD<|Dd aF<|Zz ?_;refine⟨i+1,by omega,by omega,?_⟩;exact(cG.wk (Ea<|Ea<|Eb<|Eb<|trivial) (Hc (aG _ _ rfl rfl rfl)<|Hc (aC _ _)<|Hc (aM _ _ _)<|Hc (aL _ _)<|trivial) ⟨rfl,rfl,rfl,rfl,trivial⟩)
 have hge:i=m:=by have:¬ _:=ZI hc1;omega
 subst hge;refine bL ?_;refine jJ (H':=bC {s with cells:=cM s.cells (s.q.take i)}) (by exact .inl rfl) rfl  (Fin.wk (by(simp;done)) (Hc (aG _ _ rfl rfl rfl)<|Hc (aC _ _)<|Hc (aM _ _ _)<|Hc (aL _ _)<|trivial) ⟨rfl,rfl,rfl,rfl,trivial⟩) ?_;exact Qq
def DP:Arm→Arm
 | .never=>.never
 | .off a w b=>.off a w b
 | .on a w b=>.off a w b
theorem IG (a:Arm):oK (DP a)=oK a:=by cases a<;>rfl
theorem IF (g:Nat) (a:Arm):RA g (DP a)=.pv .nilp:=by cases a<;>rfl
def D9 (cells:List ByteArray) (b:Int):Option (Nat×ByteArray)→List ByteArray
 | none=>cells
 | some p=>if 0 < b then cells.set p.1 (oH (p.2.extract 0 (min b 64).toNat) ((cells[p.1]?).getD ⟨#[]⟩))else cells
def yX (s:DSt) (w:Int):Nat:=min w.toNat s.q.length
def mY (s:DSt) (w b:Int):List ByteArray:=D9 (cM s.cells (s.q.take (yX s w))) b (s.q[yX s w]?)
def kO (s:DSt) (w b:Int):DSt:=if s.off then s else {s with cells:=mY s w b,q:=[],off:=true,arm:=DP s.arm,gq:=s.gq+1}
theorem N5 (cells:List ByteArray) (b:Int) (p:Option (Nat×ByteArray)):(D9 cells b p).length=cells.length:=by
 unfold D9;split
 ·rfl
 split<;>simp
theorem vD (s:DSt) (w b:Int):(mY s w b).length=s.cells.length:=by rw [mY,N5,gD]
abbrev J9 (s:DSt) (l:List ByteArray):aA:=[(1000,⟨0,4,80,[[.osl 1001 0 0 (64*l.length),.osl 1002 (s.gq+1) 0 0,bv true,.pv .nilp]]⟩),(1001,⟨0,1,5,bF (flat l)⟩),(1002,⟨s.gq+1,3,103,[]⟩),(1003,⟨s.ga,3,100,oK s.arm⟩)]
theorem P6 (s:DSt) (w b:Int) (h:s.off=false):J9 s (mY s w b)=bC (kO s w b):=by simp only [kO,h,Bool.false_eq_true,if_false,bC,pL,IG,IF,List.length_nil,List.map_nil]
theorem FS {t:ByteArray} {k:Nat} (h:k≤t.size):(t.extract 0 k).size=k:=by simp;omega
theorem VZ (s:DSt) (w b:Int) (hs:DOk s) :
  aJ Tryz.prog 29 [.ref 1000 0 0 0,iv w,iv b] (bC s) (fun r H'=>r=.tup []∧H'=bC (kO s w b)):=by
 have hql:=hs.ql;obtain ⟨m,hm⟩:∃ m,m=yX s w:=⟨_,rfl⟩;have hmw:min (max w 0) (s.q.length:Int)=(m:Int):=by rw [hm];unfold yX;omega
 have hml:m≤s.q.length:=by rw [hm];unfold yX;omega
 have hpo:=HG hs m;refine Bd func29 rfl ntmps29<|Sq<|Sq ?_;refine dF (t:=16) (n:=9) (X:=s.off) ?_ ?_
 ·all_goals refine Dd aF ?_
  all_goals refine Dd (by exact cT rfl jF rfl rfl rfl rfl)<|Dm ?_
  all_goals refine Sp 11 (fun h11=>?_) fun h11=>?_
  all_goals try contradiction
  all_goals refine On aF<|On fH<|On (dX vB)<|On (eQ dM)<|Dd dU<|Zz ?_
  all_goals(exact⟨⟨_,rfl,by rfl⟩,rfl,rfl,rfl⟩)
 refine Cn ?_ ?_<;>intro hc1
 ·refine aN ?_;refine jJ (H':=bC s) (.inr rfl) rfl  (Fin.wk (by(simp;done)) (Hc (aG _ _ rfl rfl rfl)<|Hc (aC _ _)<|Hc (aM _ _ _)<|Hc (aL _ _)<|trivial) ⟨rfl,rfl,rfl,rfl,trivial⟩) ?_;exact⟨rfl,by simp [kO,hc1]⟩
 have hdf:=P6 s w b hc1;refine aK<|Sr<|Dd aF<|Dd (by exact CR rfl rfl rfl rfl)<|Dd aF<|Dd fH<|Dd (dX iU)<|Dd (eQ iG)<|Dd (by exact dD rfl mK rfl rfl rfl)<|Dd (by exact wU rfl rfl rfl hmw)<|Dd aS<|Zz<|Sr<|Dd aF<|Dd aF<|Dd fH<|Dd (dX iU)<|Dd (eQ iG)<|Dd aF<|Dd (by exact fI (l:=0) (h:=m) rfl G6 rfl rfl rfl rfl rfl rfl (by omega) (by omega) rfl rfl)<|Dd (by exact aB rfl rfl call60 rfl (cE (EN s m hs hml) _ ⟨rfl,rfl,rfl,rfl,trivial⟩ (by(simp;exact⟨rfl,rfl⟩))))<|Zz<|Sq<|Sr<|Dd aF<|Dd aF<|Dd fH<|Dd (dX iU)<|Dd (eQ iG)<|Dd (by exact dD rfl mK rfl rfl rfl)<|Dd eF<|Zz ?_;refine Cn ?_ ?_<;>intro hc2
 ·have hlt:m < s.q.length:=Int.ofNat_lt.1 (ZH hc2);obtain ⟨p,hp⟩:=bM hlt;have hpe:(vR s.q)[0+m]?=some ((kR p).map .pv):=by rw [Z4,Z6,hp];rfl
  obtain ⟨hp1,hp2⟩:=hs.q p (ZW hp);have hkm:min (max b 0) 64=((min b 64).toNat:Int):=by omega
  have hkl:(min b 64).toNat≤64:=by omega
  refine Sr<|Dd aF<|Dd fH<|Dd (dX iU)<|Dd (eQ iG)<|Dd aF<|Dd (by exact eC rfl G6 rfl rfl rfl rfl rfl (by omega) (by exact ZX _) (by omega) rfl)<|Dd (by exact cX rfl isAgg103 sE rfl rfl rfl hpe (by simp only [Zl,kR];rfl) rfl)<|Dd (by exact cH (id:=7) rfl UM rfl rfl)<|Uu (qV sE)<|Zz<|Sr<|Dd aF<|Dd (by exact CR rfl rfl rfl rfl)<|Dd (by exact wU rfl rfl rfl hkm)<|Dd aS<|Zz<|Sr<|Dd aF<|Dd GI<|Zz ?_;refine Cn ?_ ?_<;>intro hc3
  ·have hb:0 < b:=by have:=ZH hc3;omega
   obtain ⟨c,hc⟩:=bM (show p.1 < (cM s.cells (s.q.take m)).length by rw [gD];exact hp1);have hts:(p.2.extract 0 (min b 64).toNat).size≤64:=by rw [FS (by omega)];exact hkl
   have hset:=UP {s with cells:=cM s.cells (s.q.take m)} p.1 c (p.2.extract 0 (min b 64).toNat) hpo hc hts;have hfc:mY s w b=(cM s.cells (s.q.take m)).set p.1 (oH (p.2.extract 0 (min b 64).toNat) c):=by
    rw [mY,← hm,hp];simp only [D9,ZK hb,hc,Option.getD_some]
   rw [hfc] at hdf;refine bU follows<|Cr [] (fun _ _=>aF)<|Cr [7] (fun _ h=>fh DM h)<|Cr [7] (fun H1 hH=>by exact cX rfl iF sizeOf96 rfl ((hH _ rfl).trans rfl) rfl rfl rfl rfl)<|Cr [7] (fun _ h=>fh DL h)<|Cr [7] (fun _ h=>lh bB h)<|Cr [] (fun _ _=>aF)<|Cr [] (fun H1 hH=>by exact cI (l:=0) (h:=(min b 64).toNat) rfl aH rfl rfl rfl (by omega) (by omega) rfl) ?_;refine cF (r:=⟨_,some [1000,1001,1002,1003],_⟩) (DStep.plain rfl (fun H1 hH=>by exact aB rfl rfl call61 rfl (cE hset _ ⟨(hH 1000 rfl).trans rfl,(hH 1001 rfl).trans rfl,(hH 1002 rfl).trans rfl,(hH 1003 rfl).trans rfl,trivial⟩ (by simp;rfl)))) rfl ?_;refine dO<|Kr<|Sr<|Dd aF<|Dd fH<|Dd (dX iU)<|Uu (by exact jU (q:=1002) (sz:=3) (ty:=103) rfl sizeOf77 rfl rfl rfl rfl rfl rfl rfl rfl (by simp) (by simp only [pL,List.set_cons_succ,List.set_cons_zero];rfl) (by simp only [List.set_cons_zero];rfl))<|Zz<|Sr<|Dd aF<|Dd fH<|Dd (dX vB)<|Uu (by exact dI rfl sizeOf4 rfl rfl rfl rfl rfl rfl (by simp only [ZN,List.length_nil];omega) (by simp only [Zl,kR];rfl) (by simp only [Zl,kR];rfl))<|Zz<|Rg<|Dd aF<|Dd fH<|Dd (dX mF)<|Uu (by exact dI rfl sizeOf78 rfl rfl rfl rfl rfl rfl (by simp only [ZN,List.length_nil];omega) (by simp only [Zl,kR];rfl) (by simp only [Zl,kR];rfl))<|Zz ?_;refine jJ (H':=J9 s ((cM s.cells (s.q.take m)).set p.1 (oH (p.2.extract 0 (min b 64).toNat) c))) (by exact .inl rfl) rfl  (Fin.wk (by(simp;done)) (Hc (by(simp;exact⟨rfl,rfl⟩))<|Hc (aC _ _)<|Hb<|Hc (aL _ _)<|trivial) ⟨rfl,rfl,rfl,rfl,trivial⟩) ?_;exact⟨rfl,hdf⟩
  have hb:¬ 0 < b:=by have:¬ _:=ZI hc3;omega
  have hfc:mY s w b=cM s.cells (s.q.take m):=by
   rw [mY,← hm,hp];simp only [D9,ZJ hb]
  rw [hfc] at hdf;refine aK<|Sr<|Dd aF<|Dd fH<|Dd (dX iU)<|Uu (by exact jU (q:=1002) (sz:=3) (ty:=103) rfl sizeOf77 rfl rfl rfl rfl rfl rfl rfl rfl (by simp) (by simp only [pL,List.set_cons_succ,List.set_cons_zero];rfl) (by simp only [List.set_cons_zero];rfl))<|Zz<|Sr<|Dd aF<|Dd fH<|Dd (dX vB)<|Uu (by exact dI rfl sizeOf4 rfl rfl rfl rfl rfl rfl (by simp only [ZN,List.length_nil];omega) (by simp only [Zl,kR];rfl) (by simp only [Zl,kR];rfl))<|Zz<|Rg<|Dd aF<|Dd fH<|Dd (dX mF)<|Uu (by exact dI rfl sizeOf78 rfl rfl rfl rfl rfl rfl (by simp only [ZN,List.length_nil];omega) (by simp only [Zl,kR];rfl) (by simp only [Zl,kR];rfl))<|Zz ?_;refine jJ (H':=J9 s (cM s.cells (s.q.take m))) (by exact .inl rfl) rfl  (Fin.wk (by(simp;done)) (Hc (by(simp;exact⟨rfl,rfl⟩))<|Hc (aC _ _)<|Hb<|Hc (aL _ _)<|trivial) ⟨rfl,rfl,rfl,rfl,trivial⟩) ?_;exact⟨rfl,hdf⟩
 have hge:s.q.length≤m:=Nat.not_lt.1 (fun h=>ZI hc2 (Int.ofNat_lt.2 h));have hfc:mY s w b=cM s.cells (s.q.take m):=by
  rw [mY,← hm,List.getElem?_eq_none hge];rfl
 rw [hfc] at hdf;refine aK<|Sr<|Dd aF<|Dd fH<|Dd (dX iU)<|Uu (by exact jU (q:=1002) (sz:=3) (ty:=103) rfl sizeOf77 rfl rfl rfl rfl rfl rfl rfl rfl (by simp) (by simp only [pL,List.set_cons_succ,List.set_cons_zero];rfl) (by simp only [List.set_cons_zero];rfl))<|Zz<|Sr<|Dd aF<|Dd fH<|Dd (dX vB)<|Uu (by exact dI rfl sizeOf4 rfl rfl rfl rfl rfl rfl (by simp only [ZN,List.length_nil];omega) (by simp only [Zl,kR];rfl) (by simp only [Zl,kR];rfl))<|Zz<|Rg<|Dd aF<|Dd fH<|Dd (dX mF)<|Uu (by exact dI rfl sizeOf78 rfl rfl rfl rfl rfl rfl (by simp only [ZN,List.length_nil];omega) (by simp only [Zl,kR];rfl) (by simp only [Zl,kR];rfl))<|Zz ?_;refine jJ (H':=J9 s (cM s.cells (s.q.take m))) (by exact .inl rfl) rfl  (Fin.wk (by(simp;done)) (Hc (by(simp;exact⟨rfl,rfl⟩))<|Hc (aC _ _)<|Hb<|Hc (aL _ _)<|trivial) ⟨rfl,rfl,rfl,rfl,trivial⟩) ?_;exact⟨rfl,hdf⟩
theorem KX {cells:List ByteArray} (hc:∀ c,c∈cells→c.size=64) {b:Int} {p:Option (Nat×ByteArray)} (hp:∀ x,p=some x→x.1 < cells.length∧x.2.size=64):∀ c,c∈D9 cells b p→c.size=64:=by
 unfold D9
 split
 ·exact hc
 next x =>
 obtain ⟨h1,h2⟩:=hp x rfl
 split
 ·intro c hm;rcases List.mem_or_eq_of_mem_set hm with h|h
  ·exact hc c h
  obtain ⟨d,hd⟩:=bM h1;have hd2:=hc d (ZW hd);have e1:(x.2.extract 0 (min b 64).toNat).size=(min b 64).toNat:=FS (by omega);rw [h,hd,Option.getD_some,LX (by omega),hd2]
 exact hc
theorem J8 {s:DSt} (hs:DOk s) (w b:Int):DOk (kO s w b):=by
 unfold kO
 split
 ·exact hs
 refine⟨by simpa [vD] using hs.n1,by simpa [vD] using hs.n2,?_,by simp,by simp⟩;refine KX (vS (fun p hp=>(hs.q p (List.mem_of_mem_take hp)).2) hs.c) (fun x hx=>?_);rw [gD];exact hs.q x (ZW hx)
def dP (s:DSt):DSt:=match s.arm with
 | .on a w b=>if 0 < a then {s with arm:=.on (a - 1) w b} else kO s w b
 | _=>s
def eN (s:DSt):Int:=match s.arm with
 | .on a w b=>if 0 < a then 0 else 22
 | _=>0
def KL (s:DSt):Prop:=∀ a w b,s.arm=.on a w b→a≤9223372036854775807
theorem FV (s:DSt) (hs:DOk s) (ha:KL s) :
  aJ Tryz.prog 147 [.ref 1000 0 0 0] (bC s) (fun r H'=>r=iv (eN s)∧H'=bC (dP s)):=by
 obtain ⟨cells,q,off,arm,gq,ga⟩:=s;cases arm with
 | never =>
  refine Bd YM rfl XM<|Sr<|Dd aS<|Zz<|Sq<|Sr<|Dd aF<|Dd fH<|Dd (dX mF)<|Dd (eQ mM)<|Dd (by exact oZ rfl NI rfl rfl)<|Zz ?_;refine Cn ?_ ?_<;>intro hc1
  ·refine Sr<|Dd aS<|Zz<|aN ?_;refine bD (H':=bC ⟨cells,q,off,.never,gq,ga⟩) (.inr rfl) rfl (aI rfl) (Fin.wk (by(simp;done)) (Hc (aG _ _ rfl rfl rfl)<|Hc (aC _ _)<|Hc (aM _ _ _)<|Hc (aL .never _)<|trivial) ⟨rfl,rfl,rfl,rfl,trivial⟩) ?_;exact Qq
  cases hc1
 | off a w b =>
  refine Bd YM rfl XM<|Sr<|Dd aS<|Zz<|Sq<|Sr<|Dd aF<|Dd fH<|Dd (dX mF)<|Dd (eQ mM)<|Dd (by exact oZ rfl NI rfl rfl)<|Zz ?_;refine Cn ?_ ?_<;>intro hc1
  ·refine Sr<|Dd aS<|Zz<|aN ?_;refine bD (H':=bC ⟨cells,q,off,.off a w b,gq,ga⟩) (.inr rfl) rfl (aI rfl) (Fin.wk (by(simp;done)) (Hc (aG _ _ rfl rfl rfl)<|Hc (aC _ _)<|Hc (aM _ _ _)<|Hc (aL (.off _ _ _) _)<|trivial) ⟨rfl,rfl,rfl,rfl,trivial⟩) ?_;exact Qq
  cases hc1
 | on a w b =>
  have ha':=ha a w b rfl;refine Bd YM rfl XM<|Sr<|Dd aS<|Zz<|Sq<|Sr<|Dd aF<|Dd fH<|Dd (dX mF)<|Dd (eQ mM)<|Dd (by exact cT rfl NI rfl rfl rfl rfl)<|Zz ?_;refine Cn ?_ ?_<;>intro hc1
  ·cases hc1
  refine aK<|Sq<|Sr<|Dd aF<|Dd fH<|Dd (dX mF)<|Dd (eQ mM)<|Dd fH<|Dd (dX DN)<|Dd (eQ aU)<|Dd GI<|Zz ?_;refine Cn ?_ ?_<;>intro hc2
  ·have h0:0 < a:=ZH hc2;refine Sr<|Dd aF<|Dd fH<|Dd (dX mF)<|Dd (eQ mM)<|Dd fH<|Dd (dX DN)<|Dd (eQ aU)<|Dd (by exact dQ rfl rfl rfl (by exact gV (by omega) (by omega)))<|Dd fH<|Dd (dX DN)<|Uu (by exact dI (r:=[iv a,iv w,iv b]) rfl sizeOf3 rfl rfl rfl rfl rfl rfl (by simp) rfl rfl)<|Zz<|Sr<|Dd aS<|Zz<|aN ?_;refine bD (H':=bC ⟨cells,q,off,.on (a - 1) w b,gq,ga⟩) (.inr rfl) rfl (aI rfl) (Fin.wk (by(simp;done)) (Hc (aG _ _ rfl rfl rfl)<|Hc (aC _ _)<|Hc (aM _ _ _)<|Hc (aL (.off _ _ _) _)<|trivial) ⟨rfl,rfl,rfl,rfl,trivial⟩) ?_;exact⟨by simp [eN,h0],by simp only [dP,ZK h0]⟩
  have h0:¬ 0 < a:=ZI hc2;refine aK<|Sq<|bU follows<|Cr [1000] (fun _ _=>aF)<|Cr [1000] (fun _ _=>aF)<|Cr [1000] (fun H1 hH=>by exact bO rfl rfl ((hH _ rfl).trans rfl) rfl)<|Cr [1000] (fun _ h=>fh mF h)<|Cr [1000] (fun _ h=>lh mM h)<|Cr [1003] (fun H1 hH=>by exact bO rfl rfl ((hH _ rfl).trans rfl) rfl)<|Cr [1003] (fun _ h=>fh TU h)<|Cr [1003] (fun _ h=>lh aU h)<|Cr [1000] (fun _ _=>aF)<|Cr [1000] (fun H1 hH=>by exact bO rfl rfl ((hH _ rfl).trans rfl) rfl)<|Cr [1000] (fun _ h=>fh mF h)<|Cr [1000] (fun _ h=>lh mM h)<|Cr [1003] (fun H1 hH=>by exact bO rfl rfl ((hH _ rfl).trans rfl) rfl)<|Cr [1003] (fun _ h=>fh TT h)<|Cr [1003] (fun _ h=>lh aU h) ?_;refine cF (r:=⟨_,some [1000,1001,1002,1003],_⟩) (DStep.plain rfl (fun H1 hH=>by exact aB rfl rfl call29 rfl (cE (VZ ⟨cells,q,off,.on a w b,gq,ga⟩ w b hs) _ ⟨(hH 1000 rfl).trans rfl,(hH 1001 rfl).trans rfl,(hH 1002 rfl).trans rfl,(hH 1003 rfl).trans rfl,trivial⟩ (by(simp;rfl))))) rfl ?_;refine dO<|Kr<|Sr<|Dd aS<|Zz<|aN ?_;refine bD (H':=bC (kO ⟨cells,q,off,.on a w b,gq,ga⟩ w b)) (.inr rfl) rfl (aI rfl) (Fin.wk (by(simp;done)) (Hc (aG _ _ rfl rfl rfl)<|Hc (aC _ _)<|Hc (aM _ _ _)<|Hc (aL _ _)<|trivial) ⟨rfl,rfl,rfl,rfl,trivial⟩) ?_;exact⟨by simp [eN,h0],by simp only [dP,ZJ h0]⟩
def jL (s:DSt) (n:Nat) (t:ByteArray):DSt:={s with q:=s.q++[(n,t)],gq:=s.gq+1}
theorem uN {s:DSt} (hs:DOk s) {n:Nat} {t:ByteArray} (hn:n < s.cells.length) (ht:t.size=64) (hq:s.q.length < 1048576):DOk (jL s n t) :=⟨hs.n1,hs.n2,hs.c,fun p hp=>by
  rcases List.mem_append.1 hp with h|h
  ·exact hs.q p h
  rw [ZO.1 h];exact⟨hn,ht⟩,by show (s.q++[(n,t)]).length≤_;simp;omega⟩
def iW (s:DSt) (k:Int) (t:ByteArray):DSt:=if s.off then s else if fE s k&&decide (t.size=64)then dP (jL s k.toNat t)else s
def hU (s:DSt) (k:Int) (t:ByteArray):Int:=if s.off then 22 else if fE s k&&decide (t.size=64)then eN (jL s k.toNat t)else 1
theorem V1 (s:DSt) (p:Nat×ByteArray):s.q.length+1=(s.q++[p]).length:=by simp
theorem SF (s:DSt) (k:Int) (t:ByteArray) (hs:DOk s) (ha:KL s) (hq:s.q.length < 1048576) :
  aJ Tryz.prog 121 [.ref 1000 0 0 0,iv k,sv t] (bC s) (fun r H'=>r=iv (hU s k t)∧H'=bC (iW s k t)):=by
 refine Bd func121 rfl ntmps121 ?_;cases e:s.off with
 | true =>
  refine Sr<|Dd aS<|Zz<|Sr<|Dd aF<|Dd aF<|Dd (by exact aB rfl rfl uI rfl (cE (Q7 s k hs e) _ ⟨rfl,rfl,rfl,rfl,trivial⟩ (by simp;rfl)))<|Dd aF<|Dd eR<|Dd eR<|Dd (by exact cH (id:=7) rfl zV rfl rfl)<|Uu (qV sizeOf96)<|Dd aS<|Zz<|Sq<|Sr<|Dd aF<|Dd uG<|Zz ?_;refine Cn ?_ ?_<;>intro hc1
  ·refine Sr<|Dd aF<|Dd aS<|Zz<|aN ?_;refine bD (H':=bC s) (.inr rfl) rfl (aI rfl) (Fin.wk (by(simp;done)) (Hc (aG _ _ rfl rfl rfl)<|Hc (aC _ _)<|Hc (aM _ _ _)<|Hc (aL _ _)<|trivial) ⟨rfl,rfl,rfl,rfl,trivial⟩) ?_;exact⟨by simp [hU,e],by simp [iW,e]⟩
  cases hc1
 | false =>
  rcases oU s k with e2|⟨n,rfl,hn⟩
  ·refine Sr<|Dd aS<|Zz<|Sr<|Dd aF<|Dd aF<|Dd (by exact aB rfl rfl uI rfl (cE (U7 s k hs e e2) _ ⟨rfl,rfl,rfl,rfl,trivial⟩ (by simp;rfl)))<|Dd aF<|Dd eR<|Dd eR<|Dd (by exact cH (id:=7) rfl zV rfl rfl)<|Uu (qV sizeOf96)<|Dd aS<|Zz<|Sq<|Sr<|Dd aF<|Dd uG<|Zz ?_;refine Cn ?_ ?_<;>intro hc2
   ·refine Sr<|Dd aF<|Dd aS<|Zz<|aN ?_;refine bD (H':=bC s) (.inr rfl) rfl (aI rfl) (Fin.wk (by(simp;done)) (Hc (aG _ _ rfl rfl rfl)<|Hc (aC _ _)<|Hc (aM _ _ _)<|Hc (aL _ _)<|trivial) ⟨rfl,rfl,rfl,rfl,trivial⟩) ?_;exact⟨by simp [hU,e,e2],by simp [iW,e,e2]⟩
   cases hc2
  have e2:fE s (n:Int)=true:=by rw [jO];simpa using hn
  refine Sr<|Dd aS<|Zz<|Sr<|Dd aF<|Dd aF<|Dd (by exact aB rfl rfl uI rfl (cE (Q6 s n hs e hn) _ ⟨rfl,rfl,rfl,rfl,trivial⟩ (by simp;rfl)))<|Dd aF<|Dd eR<|Dd eR<|Dd (by exact cH (id:=7) rfl zV rfl rfl)<|Uu (qV sizeOf96)<|Dd aS<|Zz<|Sq<|Sr<|Dd aF<|Dd uG<|Zz ?_;refine Cn ?_ ?_<;>intro hc3
  ·cases hc3
  refine aK<|Sq<|Sr<|Dd aF<|Dd (wN aH)<|Dd uG<|Zz ?_;refine Cn ?_ ?_<;>intro hc4
  ·have ht:¬ t.size=64:=by
    have:(!decide ((t.size:Int)=64))=true:=hc4;simp at this;omega
   refine Sr<|Dd aS<|Zz<|aN ?_;refine bD (H':=bC s) (.inr rfl) rfl (aI rfl) (Fin.wk (by(simp;done)) (Hc (aG _ _ rfl rfl rfl)<|Hc (aC _ _)<|Hc (aM _ _ _)<|Hc (aL _ _)<|trivial) ⟨rfl,rfl,rfl,rfl,trivial⟩) ?_;exact⟨by simp [hU,e,e2,ht],by simp [iW,e,e2,ht]⟩
  have ht:t.size=64:=by
   have:(!decide ((t.size:Int)=64))=false:=hc4;simp at this;omega
  have hw:=uN hs hn ht hq;have hfin:iW s n t=dP (jL s n t):=by simp [iW,e,e2,ht]
  have hfe:hU s n t=eN (jL s n t):=by simp [hU,e,e2,ht]
  refine aK<|Sq<|bU follows<|Cr [1000] (fun _ _=>aF)<|Cr [1000] (fun _ _=>aF)<|Cr [1000] (fun H1 hH=>by exact bO rfl rfl ((hH _ rfl).trans rfl) rfl)<|Cr [1000] (fun _ h=>fh iU h)<|Cr [1000] (fun _ h=>lh iG h)<|Cr [7] (fun H1 hH=>by exact cX rfl iF sizeOf96 rfl ((hH _ rfl).trans rfl) rfl rfl (by simp only [Zl,kR,oK,pL];rfl) rfl)<|Cr [] (fun _ _=>aF)<|Cr [] (fun _ _=>(NR XJ))<|Cr [] (fun H1 hH=>by exact bH [kR (n,t)] rfl G6 rfl rfl rfl rfl rfl (by simp [kR]))<|Cp [1002] (fun H1 hH=>by exact gA rfl G6 XC rfl ((hH _ rfl).trans rfl) rfl rfl rfl (ZL _) rfl (by simp [kR]) (rfl:_=1) (by omega) (V1 s (n,t)) (List.map_append (l₂:=[(n,t)])).symm)<|Cr [1000] (fun H1 hH=>by exact bO rfl rfl ((hH _ rfl).trans rfl) rfl)<|Cr [1000] (fun _ h=>fh iU h) ?_;refine Cp [1000,1002] (fun H1 hH=>by exact dI rfl sizeOf77 rfl rfl rfl ((hH _ rfl).trans rfl) rfl rfl (by simp only [ZN,List.length_nil];omega) (by simp only [Zl,kR,oK,pL];rfl) (by simp only [Zl,kR,oK,pL];rfl))<|dO<|Kr<|Sr<|Dd aF<|Dd (by exact aB rfl rfl call147 rfl (cE (FV (jL s n t) hw (fun a w b h=>ha a w b h)) _ ⟨rfl,rfl,rfl,rfl,trivial⟩ (by simp;rfl)))<|Dd aS<|Zz<|aN ?_;refine bD (H':=bC (dP (jL s n t))) (.inr rfl) rfl (aI rfl) (Fin.wk (by(simp;done)) (Hc (aG _ _ rfl rfl rfl)<|Hc (aC _ _)<|Hc (aM _ _ _)<|Hc (aL _ _)<|trivial) ⟨rfl,rfl,rfl,rfl,trivial⟩) ?_;exact⟨by rw [hfe],by rw [hfin]⟩
theorem FZ {s:DSt} (hs:DOk s):DOk (dP s):=by
 unfold dP
 split
 ·split
  ·exact⟨hs.n1,hs.n2,hs.c,hs.q,hs.ql⟩
  exact J8 hs _ _
 exact hs
def vE (s:DSt):DSt:={s with cells:=cM s.cells s.q,q:=[],gq:=s.gq+1}
def iX (s:DSt):DSt:=if s.off then s else if eN s=0 then vE (dP s)else dP s
def mH (s:DSt):Int:=if s.off then 22 else eN s
theorem VD (s:DSt) (hs:DOk s) (ha:KL s) :
  aJ Tryz.prog 122 [.ref 1000 0 0 0] (bC s) (fun r H'=>r=iv (mH s)∧H'=bC (iX s)):=by
 have hc:=FZ hs;have hset:=EN (dP s) (dP s).q.length hc (ZR _);rw [List.take_length] at hset;refine Bd func122 rfl ntmps122<|Sr<|Dd aS<|Zz<|Sq<|Sr<|Dd aF<|Dd (by exact cT rfl jF rfl rfl rfl rfl)<|Zz ?_;refine Cn ?_ ?_<;>intro hc1
 ·cases hc1
 refine aK<|Sq<|Sr<|Dd aF<|Dd fH<|Dd (dX vB)<|Dd (eQ dM)<|Zz ?_;refine Cn ?_ ?_<;>intro hc2
 ·have e:s.off=true:=hc2;refine Sr<|Dd aS<|Zz<|aN ?_;refine bD (H':=bC s) (.inr rfl) rfl (aI rfl) (Fin.wk (by(simp;done)) (Hc (aG _ _ rfl rfl rfl)<|Hc (aC _ _)<|Hc (aM _ _ _)<|Hc (aL _ _)<|trivial) ⟨rfl,rfl,rfl,rfl,trivial⟩) ?_;exact⟨by simp [mH,e],by simp [iX,e]⟩
 have e:s.off=false:=hc2;refine aK<|Sq<|Sr<|Dd aF<|Dd (by exact aB rfl rfl call147 rfl (cE (FV s hs ha) _ ⟨rfl,rfl,rfl,rfl,trivial⟩ (by simp;rfl)))<|Dd aS<|Zz<|Sr<|Dd aF<|Dd uG<|Zz ?_;refine Cn ?_ ?_<;>intro hc3
 ·have e2:¬ eN s=0:=by
   have:(!decide (eN s=0))=true:=hc3
   simpa using this
  refine Sr<|Dd aF<|Dd aS<|Zz<|aN ?_;refine bD (H':=bC (dP s)) (.inr rfl) rfl (aI rfl) (Fin.wk (by(simp;done)) (Hc (aG _ _ rfl rfl rfl)<|Hc (aC _ _)<|Hc (aM _ _ _)<|Hc (aL _ _)<|trivial) ⟨rfl,rfl,rfl,rfl,trivial⟩) ?_;exact⟨by simp [mH,e],by simp [iX,e,e2]⟩
 have e2:eN s=0:=by
  have:(!decide (eN s=0))=false:=hc3
  simpa using this
 refine aK<|Sr<|Dd aF<|Dd aF<|Dd fH<|Dd (dX iU)<|Dd (eQ iG)<|Dd (by exact aB rfl rfl call60 rfl (cE hset _ ⟨rfl,rfl,rfl,rfl,trivial⟩ (by(simp;exact⟨rfl,rfl⟩))))<|Zz<|Sr<|Dd aF<|Dd fH<|Dd (dX iU)<|Uu (by exact jU (q:=1002) (sz:=3) (ty:=103) rfl sizeOf77 rfl rfl rfl rfl rfl rfl rfl rfl (by simp) (by simp only [pL,List.set_cons_succ,List.set_cons_zero];rfl) (by simp only [List.set_cons_zero];rfl))<|Zz<|Sr<|Dd aS<|Zz<|aN ?_;refine bD (H':=bC (vE (dP s))) (.inr rfl) rfl (aI rfl) (Fin.wk (by(simp;done)) (Hc (aG _ _ rfl rfl rfl)<|Hc (aC _ _)<|Hc (aM _ _ _)<|Hc (aL _ _)<|trivial) ⟨rfl,rfl,rfl,rfl,trivial⟩) ?_;exact⟨by simp [mH,e,e2],by simp [iX,e,e2]⟩
def oE (n:Nat) (p:Nat×ByteArray):Bool:=decide (p.1=n)
def bW (s:DSt) (n:Nat):ByteArray:=((s.q.reverse.find? (oE n)).map (·.2)).getD ((s.cells[n]?).getD ⟨#[]⟩)
theorem P5 {q:List (Nat×ByteArray)} {n j:Nat} {p:Nat×ByteArray} (hp:q[j]?=some p) (h1:oE n p=true) (h2:∀ i,j < i→∀ x,q[i]?=some x→oE n x=false):q.reverse.find? (oE n)=some p:=by
 obtain ⟨hlt,he⟩:=ZP.1 hp;have hs:q=q.take j++(p::q.drop (j+1)):=by
  conv=>lhs;rw [← List.take_append_drop j q,List.drop_eq_getElem_cons hlt,he]
 have hn:(q.drop (j+1)).reverse.find? (oE n)=none:=by
  rw [List.find?_eq_none];intro x hx;rw [List.mem_reverse] at hx;obtain ⟨i,hi⟩:=Z7.1 hx;rw [List.getElem?_drop] at hi;simp [h2 (j+1+i) (by omega) x hi]
 rw [hs,List.reverse_append,List.reverse_cons,List.append_assoc,List.find?_append,hn];simp [h1]
theorem AO {q:List (Nat×ByteArray)} {n:Nat} (h2:∀ (i:Nat) (x:Nat×ByteArray),q[i]?=some x→oE n x=false):q.reverse.find? (oE n)=none:=by rw [List.find?_eq_none];intro x hx;rw [List.mem_reverse] at hx;obtain ⟨i,hi⟩:=Z7.1 hx;simp [h2 i x hi]
theorem V9 (c:ByteArray):(⟨c.data.toList.toArray⟩:ByteArray)=c:=by cases c;simp
def yZ (s:DSt) (k:Int):ByteArray:=if s.off then⟨#[]⟩else if fE s k then bW s k.toNat else⟨#[]⟩
def nV (s:DSt) (k:Int):Int:=if s.off then 22 else if fE s k then 0 else 1
theorem OV (s:DSt) (k:Int) (hs:DOk s) :
  aJ Tryz.prog 41 [.ref 1000 0 0 0,iv k] (bC s) (fun r H'=>r=.tup [sv (yZ s k),iv (nV s k)]∧H'=bC s):=by
 have hql:=hs.ql;refine Bd func41 rfl ntmps41 ?_;cases e:s.off with
 | true =>
  refine Sr<|Dd aS<|Dd aS<|Zz<|Sr<|Dd aF<|Dd aF<|Dd (by exact aB rfl rfl uI rfl (cE (Q7 s k hs e) _ ⟨rfl,rfl,rfl,rfl,trivial⟩ (by simp;rfl)))<|Dd aF<|Dd eR<|Dd eR<|Dd (by exact cH (id:=6) rfl zV rfl rfl)<|Uu (qV sizeOf96)<|Dd aS<|Zz<|Sq<|Sr<|Dd aF<|Dd uG<|Zz ?_;refine Cn ?_ ?_<;>intro hc1
  ·refine Sr<|Dd aF<|Dd aS<|Dd aS<|Zz<|aN ?_;refine fW (H':=bC s) (.inr rfl) rfl (aI rfl) (aI rfl) (Fin.wk (by(simp;done)) (Hc (aG _ _ rfl rfl rfl)<|Hc (aC _ _)<|Hc (aM _ _ _)<|Hc (aL _ _)<|trivial) ⟨rfl,rfl,rfl,rfl,trivial⟩) ?_;exact⟨by simp [yZ,nV,e],rfl⟩
  cases hc1
 | false =>
  rcases oU s k with e2|⟨n,rfl,hn⟩
  ·refine Sr<|Dd aS<|Dd aS<|Zz<|Sr<|Dd aF<|Dd aF<|Dd (by exact aB rfl rfl uI rfl (cE (U7 s k hs e e2) _ ⟨rfl,rfl,rfl,rfl,trivial⟩ (by simp;rfl)))<|Dd aF<|Dd eR<|Dd eR<|Dd (by exact cH (id:=6) rfl zV rfl rfl)<|Uu (qV sizeOf96)<|Dd aS<|Zz<|Sq<|Sr<|Dd aF<|Dd uG<|Zz ?_;refine Cn ?_ ?_<;>intro hc2
   ·refine Sr<|Dd aF<|Dd aS<|Dd aS<|Zz<|aN ?_;refine fW (H':=bC s) (.inr rfl) rfl (aI rfl) (aI rfl) (Fin.wk (by(simp;done)) (Hc (aG _ _ rfl rfl rfl)<|Hc (aC _ _)<|Hc (aM _ _ _)<|Hc (aL _ _)<|trivial) ⟨rfl,rfl,rfl,rfl,trivial⟩) ?_;exact⟨by simp [yZ,nV,e,e2],rfl⟩
   cases hc2
  have e2:fE s (n:Int)=true:=by rw [jO];simpa using hn
  have h1:yZ s n=bW s n:=by simp [yZ,e,e2]
  have h2:nV s n=0:=by simp [nV,e,e2]
  rw [h1,h2];refine Sr<|Dd aS<|Dd aS<|Zz<|Sr<|Dd aF<|Dd aF<|Dd (by exact aB rfl rfl uI rfl (cE (Q6 s n hs e hn) _ ⟨rfl,rfl,rfl,rfl,trivial⟩ (by simp;rfl)))<|Dd aF<|Dd eR<|Dd eR<|Dd (by exact cH (id:=6) rfl zV rfl rfl)<|Uu (qV sizeOf96)<|Dd aS<|Zz<|Sq<|Sr<|Dd aF<|Dd uG<|Zz ?_;refine Cn ?_ ?_<;>intro hc3
  ·cases hc3
  refine aK<|Sq<|Sr<|Dd aF<|Dd fH<|Dd (dX iU)<|Dd (eQ iG)<|Dd (by exact dD rfl mK rfl rfl rfl)<|Dd (by exact dQ rfl rfl rfl (by exact gV (by omega) (by omega)))<|Dd aS<|Zz<|aP ?_;refine bR (σ:=Nat) (fun j=>([(0,.ref 1000 0 0 0),(6,.ref 6 0 0 0),(8,iv ((j:Int) - 1))],(6,bx 2 96 (EK n))::bC s)) (fun j=>j≤s.q.length∧∀ i,j≤i→∀ x,s.q[i]?=some x→oE n x=false) (fun j=>j) s.q.length
   ⟨ZR _,fun i hi x hx=>by have:=(ZP.1 hx).1;omega⟩ ?_ ?_
  ·exact(cG.wk (Ea<|Ea<|Eb<|trivial) (Hb<|Hc (aG _ _ rfl rfl rfl)<|Hc (aC _ _)<|Hc (aM _ _ _)<|Hc (aL _ _)<|trivial) ⟨rfl,rfl,rfl,rfl,trivial⟩)
  rintro j ⟨hj,hpre⟩;cases j with
  | succ j =>
   have ej:((j+1:Nat):Int) - 1=(j:Int):=by omega
   rw [ej];refine Sq<|Sr<|Dd aF<|Dd R1<|Zz ?_;refine Cn ?_ ?_<;>intro hc4
   ·obtain ⟨p,hp⟩:=bM (show j < s.q.length by omega);have hpe:(vR s.q)[j]?=some ((kR p).map .pv):=by rw [Z6,hp];rfl
    have hm:decide (((64*p.1:Nat):Int)=((64*n:Nat):Int))=oE n p:=by
     unfold oE;rw [Bool.eq_iff_iff];simp;omega
    refine aK<|Sq<|aP<|Sq<|bU follows<|Cq aF<|Cq fH<|Cq (dX iU)<|Cq (eQ iG)<|Cq aF<|Cq (by exact eC rfl G6 rfl rfl rfl rfl rfl (by omega) (by exact ZX _) (by omega) (Z4 _))<|Cq (dX DM)<|Cq (dX DJ)<|Cq (by exact aW rfl aU rfl rfl rfl hpe rfl)<|Cq (dX DJ)<|Cq (eQ aU)<|Cq gS<|dO<|Kr ?_;refine Cn ?_ ?_<;>intro hc5
    ·rw [hm] at hc5;refine Sr<|Dd aF<|Dd fH<|Dd (dX iU)<|Dd (eQ iG)<|Dd aF<|Dd (by exact eC rfl G6 rfl rfl rfl rfl rfl (by omega) (by exact ZX _) (by omega) (Z4 _))<|Dd (dX DL)<|Dd (by exact aW rfl bB rfl rfl rfl hpe rfl)<|Dd aS<|Dd aS<|Zz<|aN ?_;refine fW (H':=bC s) (.inr rfl) rfl (aI rfl) (aI rfl) (Fin.wk (by(simp;done)) (Hc (aG _ _ rfl rfl rfl)<|Hc (aC _ _)<|Hc (aM _ _ _)<|Hc (aL _ _)<|trivial) ⟨rfl,rfl,rfl,rfl,trivial⟩) ?_;refine⟨?_,rfl⟩;rw [bW,P5 hp hc5 (fun i hi x hx=>hpre i (by omega) x hx)];rfl
    rw [hm] at hc5;refine aK<|Rg<|Dd aF<|Dd (by exact dQ rfl rfl rfl (gV (by omega) (by omega)))<|Da ?_;refine⟨j,⟨by omega,fun i hi x hx=>?_⟩,by omega,(cG.wk (Ea<|Ea<|Eb<|trivial) (Hb<|Hc (aG _ _ rfl rfl rfl)<|Hc (aC _ _)<|Hc (aM _ _ _)<|Hc (aL _ _)<|trivial) ⟨rfl,rfl,rfl,rfl,trivial⟩)⟩;by_cases he:i=j
    ·subst he;rw [hp] at hx;cases hx;exact hc5
    exact hpre i (by omega) x hx
   have:¬ (0:Int)≤(j:Int):=ZI hc4;omega
  | zero =>
   have hz:s.q.reverse.find? (oE n)=none:=AO (fun i x hx=>hpre i (Z3 _) x hx);obtain ⟨c,hc⟩:=bM hn;have hd:bW s n=c:=by rw [bW,hz,hc];rfl
   obtain ⟨_,p2,_⟩:=BN hs.c hc;have hb:((bF (flat s.cells)).drop (0+64*n)).take (64*(n+1) - 64*n)=bF c.data.toList:=by
    rw [← p2,Z4,show 64*(n+1) - 64*n=64 by omega];simp only [bF,List.map_take,List.map_drop]
   have hfl:=mX hs.c;rw [hd];refine Sq<|Sr<|Dd aF<|Dd R1<|Zz ?_;refine Cn ?_ ?_<;>intro hc6
   ·have:(0:Int)≤((0:Nat):Int) - 1:=ZH hc6;omega
   refine bL<|Sq<|bU follows<|Cq aF<|Cq fH<|Cq (dX DK)<|Cq (eQ eO)<|Cq (dX DJ)<|Cq (eQ aU)<|Cq (dX P3)<|Cq (eQ aU)<|Cq (by exact fI (l:=(64*n)) (h:=(64*(n+1))) rfl CC rfl rfl rfl rfl rfl rfl (by omega) (by omega) rfl rfl)<|Cq (by exact fR rfl bV bI aH rfl rfl rfl rfl hb rfl)<|Cq aS<|Cq aS<|dO<|Kr<|aN ?_;refine fW (H':=bC s) (.inr rfl) rfl (aI rfl) (aI rfl) (Fin.wk (by(simp;done)) (Hc (aG _ _ rfl rfl rfl)<|Hc (aC _ _)<|Hc (aM _ _ _)<|Hc (aL _ _)<|trivial) ⟨rfl,rfl,rfl,rfl,trivial⟩) ?_;exact⟨by rw [V9],rfl⟩
def nA (s:DSt):ByteArray:=⟨(flat s.cells).toArray⟩
theorem US (s:DSt) (hs:DOk s):aJ Tryz.prog 22 [.ref 1000 0 0 0] (bC s) (fun r H'=>r=sv (nA s)∧H'=bC s):=by
 have hb:((bF (flat s.cells)).drop 0).take (64*s.cells.length)=bF (flat s.cells):=by
  rw [List.drop_zero,List.take_of_length_le (by simp [bF,mX hs.c])]
 refine Bd func22 rfl ntmps22<|Sr<|Dd aS<|Zz<|Sq<|Sr<|Dd aF<|Dd (by exact cT rfl jF rfl rfl rfl rfl)<|Zz ?_;refine Cn ?_ ?_<;>intro hc1
 ·cases hc1
 refine aK<|Sr<|Dd aF<|Dd fH<|Dd (dX DK)<|Dd (eQ eO)<|Dd (by exact fR rfl bV bI aH rfl rfl rfl rfl hb rfl)<|Dd aS<|Zz<|aN ?_;refine bD (H':=bC s) (.inr rfl) rfl (aI rfl) (Fin.wk (by(simp;done)) (Hc (aG _ _ rfl rfl rfl)<|Hc (aC _ _)<|Hc (aM _ _ _)<|Hc (aL _ _)<|trivial) ⟨rfl,rfl,rfl,rfl,trivial⟩) ?_;exact Qq
abbrev z64:ByteArray:=⟨(List.replicate 64 0).toArray⟩
def lO (n:Nat):DSt:=⟨List.replicate n z64,[],false,.never,0,0⟩
theorem T0 {n:Nat} (h1:1≤n) (h2:n≤8000):DOk (lO n) :=⟨by simpa [lO] using h1,by simpa [lO] using h2,fun c hc=>by rw [List.eq_of_mem_replicate hc];rfl,fun p hp=>(by cases hp),(by simp [lO])⟩
theorem WY (n:Nat):bF (flat (List.replicate n z64))=List.replicate (64*n) [.pv (.int .u8 0)]:=by
 have:flat (List.replicate n z64)=List.replicate (64*n) 0:=by
  induction n with
  | zero=>rfl
  | succ n ih =>
   rw [List.replicate_succ,qJ,ih];show List.replicate 64 0++List.replicate (64*n) 0=_;rw [List.replicate_append_replicate];congr 1;omega
 rw [this,bF,List.map_replicate];rfl
abbrev W5 (n:Nat):aA:=[(1000,⟨0,4,80,[[.osl 1001 0 0 (64*n),.osl 1002 0 0 0,bv false,.pv .nilp]]⟩),(1001,⟨0,1,5,List.replicate (64*n) [.pv (.int .u8 0)]⟩),(1002,⟨0,3,103,[]⟩),(1003,⟨0,3,100,[]⟩)]
theorem S3 (n:Nat):W5 n=bC (lO n):=by simp only [bC,lO,pL,WY,List.length_replicate,RA,oK,List.length_nil,List.map_nil]
theorem PD (n:Nat) (h1:1≤n) (h2:n≤8000):aJ Tryz.prog 13 [iv (n:Int)] [] (fun r H'=>r=.ref 1000 0 0 0∧H'=bC (lO n)):=by
 have hw:IntKind.i64.wrap ((n:Int)*64)=((64*n:Nat):Int):=by rw [gV (by omega) (by omega)];omega
 rw [← S3];refine Bd func13 rfl ntmps13<|Sr<|Dd aS<|Zz<|Sq<|Sq ?_;refine dF (t:=8) (n:=7) (X:=false) ?_ ?_
 ·all_goals refine Dd aF ?_
  all_goals refine Dd eF<|Dm ?_
  all_goals refine Sp 5 (fun h5=>?_) fun h5=>?_
  all_goals try contradiction
  all_goals first|refine Fo<|Fo ?_|refine On aF<|On GI ?_
  all_goals refine Dd dU<|Zz ?_
  all_goals(exact⟨⟨_,rfl,by(simp_all;omega)⟩,rfl,rfl,rfl⟩)
 refine Cn ?_ ?_<;>intro hc1
 ·cases hc1
 refine aK<|Sr<|Dd aF<|Dd (by exact fN rfl rfl rfl hw)<|Dd (by exact iI (id:=1001) rfl CC WO WW rfl rfl rfl (by omega) (by omega) (by exact ZX _) (by exact ZX _) (by omega) rfl)<|Dd (NR XI)<|Dd (by exact gN (id:=1000) rfl rfl rfl rfl rfl)<|Dd aS<|Zz<|aN ?_;refine bD (H':=W5 n) (.inr rfl) rfl (aI rfl) (Fin.trans (H':=[(1002,⟨0,3,103,[]⟩),(1000,⟨0,4,80,[[.osl 1001 0 0 (64*n),.osl 1002 0 0 0,bv false,.pv .nilp]]⟩),(1001,⟨0,1,5,List.replicate (64*n) [.pv (.int .u8 0)]⟩)]) (r':=.ref 1000 0 0 0) (Fin.of_ent (cG.nz 1002 3 103 rfl rfl ⟨⟨_,rfl,(by exact Nz.same (by(simp;rfl)))⟩,trivial⟩ ⟨⟨_,rfl,rfl,rfl,rfl,(by exact .inr ⟨_,_,rfl,rfl,(by repeat(first|exact trivial|refine⟨(by first|exact Nz.own|exact Nz.same (by first|(simp;done)|(simp;rfl))),?_⟩))⟩)⟩,⟨_,rfl,rfl,rfl,rfl,(by exact .inl ⟨rfl,(by(simp;done))⟩)⟩,trivial⟩ trivial)) (Fin.trans (H':=[(1003,⟨0,3,100,[]⟩),(1002,⟨0,3,103,[]⟩),(1000,⟨0,4,80,[[.osl 1001 0 0 (64*n),.osl 1002 0 0 0,bv false,.pv .nilp]]⟩),(1001,⟨0,1,5,List.replicate (64*n) [.pv (.int .u8 0)]⟩)]) (r':=.ref 1000 0 0 0) (Fin.of_ent (cG.nz 1003 3 100 rfl rfl ⟨⟨_,rfl,(by exact Nz.same (by(simp;rfl)))⟩,trivial⟩ ⟨⟨_,rfl,rfl,rfl,rfl,(by exact .inl ⟨rfl,(by(simp;done))⟩)⟩,⟨_,rfl,rfl,rfl,rfl,(by exact .inl ⟨rfl,(by(simp;exact⟨rfl,rfl⟩))⟩)⟩,⟨_,rfl,rfl,rfl,rfl,(by exact .inl ⟨rfl,(by(simp;done))⟩)⟩,trivial⟩ trivial)) (Fin.wk (by(simp;rfl)) (Hc (by(simp;exact⟨rfl,rfl⟩))<|Hb<|Hb<|Hb<|trivial) trivial))) ?_;exact Qq
theorem M9 (a:List UInt8) (t:ByteArray):(⟨a.toArray⟩:ByteArray)++t=⟨(a++t.data.toList).toArray⟩:=by apply ByteArray.ext;rw [ByteArray.data_append];simp
end Go.Proofs.YtmkgeogoojcciaaGreatDoor
namespace Go.Abs
section
section
variable {α:Type}
def fK (κ:KeyKind α) (l:List (α×AV×Nat)):List (List AV):=l.map fun p=>[.pv (κ.pv p.1),p.2.1,.pv (.int .i64 (p.2.2:Int))]
def FM (l:List (α×AV×Nat)):List (α×AV):=l.map fun p=>(p.1,p.2.1)
theorem tJ (κ:KeyKind α) (l:List (α×AV×Nat)):(fK κ l).length=l.length:=by simp [fK]
theorem BJ {κ:KeyKind α} {l:List (α×AV×Nat)} {i:Nat} {r:List AV}:(fK κ l)[i]?=some r↔∃ p,l[i]?=some p∧r=[.pv (κ.pv p.1),p.2.1,.pv (.int .i64 (p.2.2:Int))]:=by
 rw [fK,Z6];cases l[i]? with
 | none=>simp
 | some p=>simp [eq_comm]
structure GMapAt (w:World) (I:Nat→Prop) (ι:cB) (H:aA) (κ:KeyKind α) (l:List (α×AV×Nat)) (c:Nat) (es:Array MapEntry):Prop where
 size:es.size=l.length
 rel:∀ (i:Nat) (p:α×AV×Nat),l[i]?=some p→∃ e,es[i]?=some e∧e.born=p.2.2∧e.key=κ.val p.1∧VRel w I ι H e.val p.2.1
 lt:∀ (i:Nat) (e:MapEntry),es[i]?=some e→e.born < c
 inc:∀ (i j:Nat) (e e':MapEntry),i < j→es[i]?=some e→es[j]?=some e'→e.born < e'.born
theorem lY {w:World} {I:Nat→Prop} {ι:cB} {H:aA} {id b:Nat} {ob:Ob} {κ:KeyKind α} {l:List (α×AV×Nat)} (h:eB w I ι H id ob) (hz:ob.sz=0) (hι:ι id=some (b,0)) (hrows:ob.rows=fK κ l) :
  ∃ es,w.heap[b]?=some (.map es ob.ty)∧¬ I b∧GMapAt w I ι H κ l ob.ty es:=by
 obtain ⟨_,b',es,e1,e2,e3,e4,e5,e6,e7⟩:=h.map hz hι;rw [hι] at e1;cases e1;refine⟨es,e2,e3,⟨by rw [e4,hrows,tJ],fun i p hp=>?_,e5,e6⟩⟩;obtain ⟨e,k,a,n,q1,q2,q3,q4,q5⟩:=e7 i _ (by rw [hrows];exact BJ.2 ⟨p,hp,rfl⟩);cases q2;exact⟨e,q1,by injection q5.int_inv with _ hh;omega,κ.rel _ _ _ _ q3.pv_inv,q4⟩
theorem Rel.gremap {I:Nat→Prop} {ι:cB} {H H':aA} {w:World} {id b c:Nat} {ob ob':Ob} {κ:KeyKind α} {l:List (α×AV×Nat)} {es0 es':Array MapEntry} {c0:Nat} (hr:Rel I ι H w) (hH:H.get id=some ob) (hι:ι id=some (b,0)) (hz:ob.sz=0) (hb:w.heap[b]?=some (.map es0 c0)) (hg:ob'.g=ob.g) (hz':ob'.sz=0) (hty:ob'.ty=c) (hrows:ob'.rows=fK κ l)
  (hm:GMapAt w I ι H κ l c es') (h1:H'.get id=some ob') (h2:∀ j,j≠id→H'.get j=H.get j):Rel I ι H' (World.setObj w b (.map es' c))∧Step I ι H w I ι H' (World.setObj w b (.map es' c)):=by
 refine hr.rewrite hH hι hz hb rfl rfl hg hz' (fun _ hs1 hI hmono=>?_) h1 h2;refine .inr (.inl ⟨hz',b,es',hι,by rw [hty];exact hs1,hI,by rw [hm.size,hrows,tJ],fun i e hi=>by rw [hty];exact hm.lt i e hi,hm.inc,fun i r hr'=>?_⟩);rw [hrows] at hr';obtain ⟨p,hp,rfl⟩:=BJ.1 hr';obtain ⟨e,q1,q2,q3,q4⟩:=hm.rel i p hp;exact⟨e,_,_,_,q1,rfl,by rw [q3];exact .pv (κ.rep _ _ p.1),hmono _ _ q4,by rw [q2];exact .pv (.int _ _)⟩
variable [DecidableEq α]
def tM:List (α×AV×Nat)→α→AV→Nat→List (α×AV×Nat)
 | [],k,v,c=>[(k,v,c)]
 | (k',a,n)::r,k,v,c=>if k'=k then(k,v,n)::r else(k',a,n)::tM r k v c
def tQ:List (α×AV×Nat)→α→List (α×AV×Nat)
 | [],_=>[]
 | (k',a,n)::r,k=>if k'=k then r else(k',a,n)::tQ r k
def yT (l:List (α×AV×Nat)) (k:α) (c:Nat):Nat:=if(lI (FM l) k).isSome then c else c+1
theorem FO {w:World} {I:Nat→Prop} {ι:cB} {H:aA} (κ:KeyKind α) (k:α):∀ (l:List (α×AV×Nat)) (es:List MapEntry) (i:Nat),es.length=l.length→(∀ (i:Nat) (p:α×AV×Nat),l[i]?=some p→∃ e,es[i]?=some e∧e.key=κ.val p.1∧VRel w I ι H e.val p.2.1) →
  (Instr.findNow κ.d (κ.val k) es i=some none∧lI (FM l) k=none∧(∀ v c,tM l k v c=l++[(k,v,c)])∧tQ l k=l) ∨
  ∃ j e a n,Instr.findNow κ.d (κ.val k) es i=some (some (i+j,e.val))∧es[j]?=some e∧e.key=κ.val k∧lI (FM l) k=some a∧VRel w I ι H e.val a∧l[j]?=some (k,a,n)∧(∀ v c,tM l k v c=l.set j (k,v,n))∧tQ l k=l.eraseIdx j
 | [],[],i,_,_=>.inl ⟨rfl,rfl,fun _ _=>rfl,rfl⟩
 | (k',a,n)::l,e::es,i,hl,hr=>by
  obtain ⟨e0,z1,z2,z3⟩:=hr 0 (k',a,n) rfl;cases z1;obtain ⟨r,hr1,hiff⟩:=MapKept.sameNow_of_keys (κ.is k) (show MapKept.IsKey κ.d e.key by rw [z2];exact κ.is k');by_cases hk:k'=k
  ·subst hk;have hrt:r=true:=hiff.2 z2.symm;subst hrt;exact .inr ⟨0,e,a,n,by simp [Instr.findNow,hr1],rfl,z2,by simp [lI,FM],z3,rfl,fun v c=>by simp [tM],by simp [tQ]⟩
  have hrf:r=false:=by
   cases r with
   | false=>rfl
   | true=>exact absurd (κ.inj _ _ ((hiff.1 rfl).trans z2)).symm hk
  subst hrf;rcases FO κ k l es (i+1) (by simpa using hl) (fun i p hp=>hr (i+1) p hp)with⟨h1,h2,h3,h4⟩|⟨j,e',a',n',h1,h2,h3,h4,h5,h6,h7,h8⟩
  ·exact .inl ⟨by simp [Instr.findNow,hr1,h1],by simpa [lI,FM,hk] using h2,fun v c=>by simp [tM,hk,h3],by simp [tQ,hk,h4]⟩
  exact .inr ⟨j+1,e',a',n',by simp [Instr.findNow,hr1,h1];omega,by simpa using h2,h3,by simpa [lI,FM,hk] using h4,h5,by simpa using h6,fun v c=>by simp [tM,hk,h7],by simp [tQ,hk,h8]⟩
section
variable {P:Program} {N:Nat} {o:Oper} {E:bJ} {H:aA} {T kt et:TypeId} {x y z:Operand} {κ:KeyKind α} {l:List (α×AV×Nat)} {id g:Nat} {ob:Ob} {k:α}
theorem tO {w:World} {I:Nat→Prop} {ι:cB} {c:Nat} {es:Array MapEntry} (h:GMapAt w I ι H κ l c es) (k:α) :
  (Instr.findNow κ.d (κ.val k) es.toList 0=some none∧lI (FM l) k=none∧(∀ v c,tM l k v c=l++[(k,v,c)])∧tQ l k=l) ∨
  ∃ j e a n,Instr.findNow κ.d (κ.val k) es.toList 0=some (some (0+j,e.val))∧es.toList[j]?=some e∧e.key=κ.val k∧lI (FM l) k=some a∧VRel w I ι H e.val a∧l[j]?=some (k,a,n)∧(∀ v c,tM l k v c=l.set j (k,v,n))∧tQ l k=l.eraseIdx j :=
 FO κ k l es.toList 0 (by simpa using h.size) (fun i p hp=>let ⟨e,q1,_,q3⟩:=h.rel i p hp;⟨e,by simpa using q1,q3⟩)
theorem P2 {zv:Value} {v0:AV} (ho:o.op=.lookup T x y false) (hT:P.underlying T=some (.map kt et)) (hd:P.underlying kt=some κ.d) (hx:aO E x=some (.mp id g)) (hH:H.get id=some ob) (hg:ob.g=g)
  (hrows:ob.rows=fK κ l) (hy:aO E y=some (.pv (κ.pv k))) (hz:∀ w,(zeroValue et).run P w=.ok zv w) (hv:ZV zv v0):bN P N o E H ((lI (FM l) k).getD v0) H :=
 .of_run fun a w I ι hr he=>by
  obtain ⟨hsz,b,hι,hvx⟩:=pC (aE he hx) hH hg;obtain ⟨es,e2,e3,e4⟩:=lY (hr.obj id ob hH) hsz hι hrows;have hvy:=sP (aE he hy);rcases tO e4 k with⟨h1,h2,h3,_⟩|⟨j,e,a',n,h1,h2,h3,h4,h5,_⟩
  ·refine⟨zv,?_,by rw [h2];exact hv.rel⟩;simp only [execOp,ho,hvx,hvy];simp [Instr.lookup,run_underlying hT,MapKept.run_getObj_map e2,MapKept.run_checkKey hd (κ.is k),MapKept.run_findKey hd h1,hz]
  refine⟨e.val,?_,by rw [h4];exact h5⟩;simp only [execOp,ho,hvx,hvy];simp [Instr.lookup,run_underlying hT,MapKept.run_getObj_map e2,MapKept.run_checkKey hd (κ.is k),MapKept.run_findKey hd h1]
theorem FP {zv:Value} {v0:AV} (ho:o.op=.lookup T x y true) (hT:P.underlying T=some (.map kt et)) (hd:P.underlying kt=some κ.d) (hx:aO E x=some (.mp id g)) (hH:H.get id=some ob) (hg:ob.g=g)
  (hrows:ob.rows=fK κ l) (hy:aO E y=some (.pv (κ.pv k))) (hz:∀ w,(zeroValue et).run P w=.ok zv w) (hv:ZV zv v0):bN P N o E H (.tup [(lI (FM l) k).getD v0,.pv (.bool (lI (FM l) k).isSome)]) H :=
 .of_run fun a w I ι hr he=>by
  obtain ⟨hsz,b,hι,hvx⟩:=pC (aE he hx) hH hg;obtain ⟨es,e2,e3,e4⟩:=lY (hr.obj id ob hH) hsz hι hrows;have hvy:=sP (aE he hy);have two:∀ {u:Value} {a:AV} {c:Bool},VRel w I ι H u a→VRel w I ι H (.tuple #[u,.bool c]) (.tup [a,.pv (.bool c)]):=fun {u a c} hu=>.tup rfl (fun i v q hv hq=>by
   match i with
   | 0=>simp at hv hq;subst hv hq;exact hu
   | 1=>simp at hv hq;subst hv hq;exact .pv (.bool _)
   | i+2=>simp at hv)
  rcases tO e4 k with⟨h1,h2,h3,_⟩|⟨j,e,a',n,h1,h2,h3,h4,h5,_⟩
  ·refine⟨.tuple #[zv,.bool false],?_,by rw [h2];exact two hv.rel⟩;simp only [execOp,ho,hvx,hvy];simp [Instr.lookup,run_underlying hT,MapKept.run_getObj_map e2,MapKept.run_checkKey hd (κ.is k),MapKept.run_findKey hd h1,hz]
  refine⟨.tuple #[e.val,.bool true],?_,by rw [h4];exact two h5⟩;simp only [execOp,ho,hvx,hvy];simp [Instr.lookup,run_underlying hT,MapKept.run_getObj_map e2,MapKept.run_checkKey hd (κ.is k),MapKept.run_findKey hd h1]
theorem lZ {v:AV} {c c':Nat} {l':List (α×AV×Nat)} (ho:o.op=.mapUpdate T x y z∨o.op=.insert T x y z) (hT:P.underlying T=some (.map kt et)) (hd:P.underlying kt=some κ.d) (hx:aO E x=some (.mp id g)) (hH:H.get id=some ob) (hg:ob.g=g)
  (hty:ob.ty=c) (hrows:ob.rows=fK κ l) (hy:aO E y=some (.pv (κ.pv k))) (hz:aO E z=some v) (hl:tM l k v c=l') (hc:yT l k c=c'):bN P N o E H .any ((id,⟨g,ob.sz,c',fK κ l'⟩)::H):=by
 intro a w I ι _ _ hr he K Q hkk;obtain ⟨hsz,b,hι,hvx⟩:=pC (aE he hx) hH hg;obtain ⟨es,e2,e3,e4⟩:=lY (hr.obj id ob hH) hsz hι hrows;rw [hty] at e2 e4;have hvy:=sP (aE he hy);have hvz:=aE he hz;subst hl hc hg;have fin:∀ es',(Instr.mapUpdate T (a.eval x) (a.eval y) (a.eval z)).run P w=.ok () (World.setObj w b (.map es' (yT l k c)))→GMapAt w I ι H κ (tM l k v c) (yT l k c) es'→o.wpW P a w K Q:=by
  intro es' hrun hm;obtain ⟨k2,k3⟩:=Rel.gremap (H':=(id,⟨ob.g,ob.sz,yT l k c,fK κ (tM l k v c)⟩)::H) (ob':=⟨ob.g,ob.sz,yT l k c,fK κ (tM l k v c)⟩) hr hH hι hsz e2 rfl hsz rfl rfl hm (get_cons_same _ _ _) (fun j hj=>get_cons_other _ _ hj);unfold Oper.wpW execOp;rcases ho with ho|ho
  ·simp only [ho,Sem.run_bind,hrun,Result.andThen_ok,Sem.run_pure];exact hkk _ _ I ι _ _ ⟨rfl,rfl⟩ (.any _) k2 k3
  simp only [ho,Sem.run_bind,hrun,Result.andThen_ok,Sem.run_pure];exact hkk _ _ I ι _ _ ⟨rfl,rfl⟩ (.any _) k2 k3
 rcases tO e4 k with⟨h1,h2,h3,_⟩|⟨j,e,a',n,h1,h2,h3,h4,h5,h6,h7,h8⟩
 ·have hcl:yT l k c=c+1:=by rw [yT,h2];rfl
  refine fin (es.push {key:=κ.val k,val:=a.eval z,born:=c}) ?_ ⟨?_,?_,?_,?_⟩
  ·simp [Instr.mapUpdate,hvx,hvy,run_underlying hT,MapKept.run_getObj_map e2,MapKept.run_checkKey hd (κ.is k),MapKept.run_findKey hd h1,MapKept.run_setObj_map _ e2,World.setObj,hcl]
  ·rw [h3];simp [e4.size]
  ·intro i p hp;rw [h3] at hp;by_cases hi:i < l.length
   ·rw [List.getElem?_append_left hi] at hp;obtain ⟨e,q1,q2⟩:=e4.rel i p hp;exact⟨e,by rw [Array.getElem?_push,ZJ (by rw [e4.size];omega)];exact q1,q2⟩
   rw [List.getElem?_append_right (by omega)] at hp;cases hil:i - l.length with
   | zero =>
    rw [hil] at hp;cases hp;exact⟨_,by rw [Array.getElem?_push,ZK (by rw [e4.size];omega)],rfl,rfl,hvz⟩
   | succ m=>rw [hil] at hp;simp at hp
  ·intro i e hi;rw [Array.getElem?_push] at hi
   split at hi
   ·cases hi;show c < _;omega
   have:=e4.lt i e hi;omega
  intro i j' e e' hij hi hj;have hjs:j' < es.size+1:=by
   have:=(Array.getElem?_eq_some_iff.1 hj).1
   simpa using this
  rw [Array.getElem?_push,ZJ (by omega)] at hi;rw [Array.getElem?_push] at hj
  split at hj
  ·cases hj;exact e4.lt i e hi
  exact e4.inc i j' e e' hij hi hj
 have hj:es[j]?=some e:=by simpa using h2
 have hjl:j < es.size:=(Array.getElem?_eq_some_iff.1 hj).1;have hcl:yT l k c=c:=by rw [yT,h4];rfl
 have hbe:e.born=n:=by
  obtain ⟨e',q1,q2,_⟩:=e4.rel j _ h6;rw [hj] at q1;cases q1;exact q2
 have hmod:∀ (i:Nat) (x:MapEntry),(es.modify j fun e=>{e with key:=κ.val k,val:=a.eval z})[i]?=some x→∃ y,es[i]?=some y∧y.born=x.born:=by
  intro i x hx;rw [Array.getElem?_modify] at hx
  split at hx
  ·next hij =>
   subst hij;rw [hj] at hx;cases hx;exact⟨e,hj,rfl⟩
  exact⟨x,hx,rfl⟩
 refine fin (es.modify j fun e=>{e with key:=κ.val k,val:=a.eval z}) ?_ ⟨?_,?_,?_,?_⟩
 ·simp [Instr.mapUpdate,hvx,hvy,run_underlying hT,MapKept.run_getObj_map e2,MapKept.run_checkKey hd (κ.is k),MapKept.run_findKey hd h1,hj,h3,MapKept.run_keyThatStays (κ.is k),MapKept.run_setObj_map _ e2,World.setObj,hcl]
 ·rw [h7];simp [e4.size]
 ·intro i p hp;rw [h7] at hp;by_cases e0:i=j
  ·subst e0;rw [List.getElem?_set_self (by rw [← e4.size];exact hjl)] at hp;cases hp;exact⟨{e with key:=κ.val k,val:=a.eval z},by rw [Array.getElem?_modify,ZK rfl,hj];rfl,hbe,rfl,hvz⟩
  rw [List.getElem?_set_ne (Ne.symm e0)] at hp;obtain ⟨e',q1,q2⟩:=e4.rel i p hp;exact⟨e',by rw [Array.getElem?_modify,ZJ (Ne.symm e0)];exact q1,q2⟩
 ·intro i x hx;obtain ⟨y,y1,y2⟩:=hmod i x hx;rw [← y2,hcl];exact e4.lt i y y1
 intro i i' x x' hii hx hx';obtain ⟨y,y1,y2⟩:=hmod i x hx;obtain ⟨y',y3,y4⟩:=hmod i' x' hx';rw [← y2,← y4];exact e4.inc i i' y y' hii y1 y3
theorem ML {β:Type} {l:List β} {j i:Nat}:(l.eraseIdx j)[i]?=if i < j then l[i]? else l[i+1]?:=List.getElem?_eraseIdx
theorem FQ {c:Nat} {l':List (α×AV×Nat)} (ho:o.op=.call {callee:=.builtin .delete,args:=#[x,y],argTypes:=#[T,kt]}) (hT:P.underlying T=some (.map kt et)) (hd:P.underlying kt=some κ.d) (hx:aO E x=some (.mp id g)) (hH:H.get id=some ob) (hg:ob.g=g)
  (hty:ob.ty=c) (hrows:ob.rows=fK κ l) (hy:aO E y=some (.pv (κ.pv k))) (hl:tQ l k=l'):bN P N o E H .any ((id,⟨g,ob.sz,c,fK κ l'⟩)::H):=by
 intro a w I ι _ _ hr he K Q hkk;obtain ⟨hsz,b,hι,hvx⟩:=pC (aE he hx) hH hg;obtain ⟨es,e2,e3,e4⟩:=lY (hr.obj id ob hH) hsz hι hrows;rw [hty] at e2 e4;have hvy:=sP (aE he hy);subst hl hg;have fin:∀ es',(execOp a.eval o).run P w=.ok (.value (.tuple #[])) (World.setObj w b (.map es' c))→GMapAt w I ι H κ (tQ l k) c es'→o.wpW P a w K Q:=by
  intro es' hrun hm;obtain ⟨k2,k3⟩:=Rel.gremap (H':=(id,⟨ob.g,ob.sz,c,fK κ (tQ l k)⟩)::H) (ob':=⟨ob.g,ob.sz,c,fK κ (tQ l k)⟩) hr hH hι hsz e2 rfl hsz rfl rfl hm (get_cons_same _ _ _) (fun j hj=>get_cons_other _ _ hj);unfold Oper.wpW;rw [hrun];exact hkk _ _ I ι _ _ ⟨rfl,rfl⟩ (.any _) k2 k3
 rcases tO e4 k with⟨h1,h2,h3,h4⟩|⟨j,e,a',n,h1,h2,h3,h4,h5,h6,h7,h8⟩
 ·refine fin es ?_ (by rw [h4];exact e4);unfold execOp;simp only [ho,resolve,invoke,builtin,Sem.run_bind,Sem.run_pure,Result.andThen_ok,List.map_toArray,List.map_cons,List.map_nil,hvx,hvy];simp [Builtin.delete_,run_underlying hT,MapKept.run_getObj_map e2,MapKept.run_checkKey hd (κ.is k),MapKept.run_findKey hd h1,MapKept.run_setObj_map _ e2,World.setObj]
 have hj:es[j]?=some e:=by simpa using h2
 have hjl:j < es.size:=(Array.getElem?_eq_some_iff.1 hj).1;have her:es.eraseIdxIfInBounds j=es.eraseIdx j hjl:=by rw [Array.eraseIdxIfInBounds,dif_pos hjl]
 have hget:∀ i:Nat,(es.eraseIdx j hjl)[i]?=if i < j then es[i]? else es[i+1]?:=fun i=>Array.getElem?_eraseIdx ..
 refine fin (es.eraseIdx j hjl) ?_ ⟨?_,?_,?_,?_⟩
 ·unfold execOp;simp only [ho,resolve,invoke,builtin,Sem.run_bind,Sem.run_pure,Result.andThen_ok,List.map_toArray,List.map_cons,List.map_nil,hvx,hvy];simp [Builtin.delete_,run_underlying hT,MapKept.run_getObj_map e2,MapKept.run_checkKey hd (κ.is k),MapKept.run_findKey hd h1,MapKept.run_setObj_map _ e2,World.setObj,her]
 ·rw [h8,List.length_eraseIdx,ZK (by rw [← e4.size];exact hjl),← e4.size];simp
 ·intro i p hp;rw [h8,ML] at hp;rw [hget]
  split at hp
  ·next hi=>rw [ZK hi];exact e4.rel i p hp
  next hi=>rw [ZJ hi];exact e4.rel (i+1) p hp
 ·intro i x hx;rw [hget] at hx
  split at hx
  ·exact e4.lt _ x hx
  exact e4.lt _ x hx
 intro i i' x x' hii hx hx';rw [hget] at hx hx'
 split at hx<;>split at hx'
 ·exact e4.inc _ _ x x' hii hx hx'
 ·exact e4.inc _ _ x x' (by omega) hx hx'
 ·omega
 exact e4.inc _ _ x x' (by omega) hx hx'
end
end
section
variable {α:Type} {P:Program} {N:Nat} {o:Oper} {E:bJ} {H:aA} {T kt et:TypeId} {x y z:Operand} {κ:KeyKind α} {l:List (α×AV×Nat)} {id g q gq since last c:Nat} {ob oq:Ob} {seen:List Nat}
theorem vY (ho:o.op=.call {callee:=.builtin .len,args:=#[x],argTypes:=#[T]}) (hT:P.underlying T=some (.map kt et)) (hx:aO E x=some (.mp id g)) (hH:H.get id=some ob) (hg:ob.g=g) (hrows:ob.rows=fK κ l) :
  bN P N o E H (.pv (.int .i64 l.length)) H :=
 .of_run fun a w I ι hr he=>by
  obtain ⟨hsz,b,hι,hvx⟩:=pC (aE he hx) hH hg;obtain ⟨es,e2,e3,e4⟩:=lY (hr.obj id ob hH) hsz hι hrows;refine⟨.int .i64 l.length,?_,.pv (.int _ _)⟩;simp [execOp,ho,resolve,invoke,builtin,hvx,Builtin.len_,run_underlying hT,MapKept.run_getObj_map e2,goInt,e4.size]
theorem DH (ho:o.op=.range T x) (hT:P.underlying T=some (.map kt et)) (hx:aO E x=some (.mp id g)) (hH:H.get id=some ob) (hg:ob.g=g) (hrows:ob.rows=fK κ l) (hty:ob.ty=c) (hq:H.get q=none) :
  bN P N o E H (.it q 0) ((q,⟨0,0,0,eG (.mp id g) c c []⟩)::H):=by
 intro a w I ι _ _ hr he K Q hk;have hvx0:=aE he hx;obtain ⟨hsz,b,hι,hvx⟩:=pC hvx0 hH hg;obtain ⟨es,e2,e3,e4⟩:=lY (hr.obj id ob hH) hsz hι hrows;rw [hty] at e2;obtain ⟨k2,k3⟩:=Rel.placeX (H':=(q,⟨0,0,0,eG (.mp id g) c c []⟩)::H) (id:=q) (cap:=1) (ob':=⟨0,0,0,eG (.mp id g) c c []⟩) (x:=.mapIter (some b) c #[] c) (w':=w.alloc (.mapIter (some b) c #[] c)) hr rfl rfl rfl rfl
  (fun o ho=>by rw [hq] at ho;cases ho) (fun hnew hI hmono=>.inr (.inr (.inl ⟨rfl,w.heap.size,some b,c,#[],c,by simp,hnew,hI,rfl,⟨_,_,_,rfl,by rw [← hvx];exact hmono _ _ hvx0,.pv (.int _ _),.pv (.int _ _)⟩,fun i r hr'=>by simp [eG] at hr'⟩)))
  (get_cons_same _ _ _) (fun j hj=>get_cons_other _ _ hj)
 have hrun:(execOp a.eval o).run P w=.ok (.value (.pointer (some ⟨w.heap.size,0,none⟩))) (w.alloc (.mapIter (some b) c #[] c)):=by
  simp only [execOp,ho,hvx];simp [Instr.range,run_underlying hT,MapKept.run_getObj_map e2]
 unfold Oper.wpW;rw [hrun];exact hk _ _ I _ _ _ ⟨rfl,rfl⟩ (.it ⟨0,0,0,eG (.mp id g) c c []⟩ (get_cons_same _ _ _) (ZR _) rfl fun _=>⟨rfl,w.heap.size,by simp,rfl⟩) k2 k3
theorem PZ {w:World} {I:Nat→Prop} {ι:cB} {es:Array MapEntry} (h:GMapAt w I ι H κ l c es) :
  ((leftOf es seen.toArray).size=0→∀ p∈l,p.2.2∈seen)∧∀ e∈(leftOf es seen.toArray).toList,∃ (i:Nat) (p:α×AV×Nat),l[i]?=some p∧p.2.2∉seen∧e.born=p.2.2∧e.key=κ.val p.1∧VRel w I ι H e.val p.2.1:=by
 constructor
 ·intro h0 p hp;obtain ⟨i,hi⟩:=Z7.1 hp;obtain ⟨e,q1,q2,_⟩:=h.rel i p hi;have h1:leftOf es seen.toArray=#[]:=Array.eq_empty_of_size_eq_zero h0;rw [leftOf,Array.filter_eq_empty_iff] at h1;have:=h1 e (Array.mem_of_getElem? q1);simp only [Bool.not_eq_true',Bool.not_eq_false,List.contains_toArray,List.contains_eq_mem,ZS] at this;rw [← q2];simpa using this
 intro e he;simp only [leftOf,Array.toList_filter,List.mem_filter,Bool.not_eq_true',List.contains_toArray,List.contains_eq_mem,ZT] at he;obtain ⟨h1,h2⟩:=he;obtain ⟨i,hi⟩:=Z7.1 h1;have hi':es[i]?=some e:=by simpa using hi
 have hlt:i < l.length:=by rw [← h.size];exact(Array.getElem?_eq_some_iff.1 hi').1
 obtain ⟨e',z1,z2,z3⟩:=h.rel i l[i] (ZQ hlt);rw [hi'] at z1;cases z1;exact⟨i,l[i],ZQ hlt,by rw [← z2];exact h2,z2,z3⟩
theorem IB (ho:o.op=.next x false) (hx:aO E x=some (.it q gq)) (hQ:H.get q=some oq) (hgq:oq.g=gq) (hrq:oq.rows=eG (.mp id g) since last seen) (hH:H.get id=some ob) (hg:ob.g=g) (hrows:ob.rows=fK κ l) (hty:ob.ty=c)
  (hold:c≤since) (hlast:since≤last) :
  NS P N o E H (fun r H'=>(r=.tup [.pv (.bool false)]∧H'=H∧∀ p∈l,p.2.2∈seen)∨∃ (i:Nat) (p:α×AV×Nat),l[i]?=some p∧p.2.2∉seen∧r=.tup [.pv (.bool true),.pv (κ.pv p.1),p.2.1]∧H'=(q,⟨gq,0,oq.ty,eG (.mp id g) since c (seen++[p.2.2])⟩)::H):=by
 intro a w I ι _ _ hr he K Q hk;obtain ⟨hsz,b,hι,hvx⟩:=H4 (aE he hx) hQ hgq;obtain ⟨bm,hιm,hmz,hbq,hI⟩:=J3 (hr.obj q oq hQ) hsz hι hrq hH hg;obtain ⟨es,e2,e3,e4⟩:=lY (hr.obj id ob hH) hmz hιm hrows;rw [hty] at e2 e4;have hold':∀ x∈es.toList,x.born < since:=fun x hx=>by
  obtain ⟨i,hi⟩:=Z7.1 hx;have:=e4.lt i x (by simpa using hi);omega
 obtain ⟨l1,l2⟩:=PZ (seen:=seen) e4;rcases OR (P:=P) w o.type b bm since last seen.toArray es c hbq e2 hold' hlast with⟨h0,hrun⟩|⟨e,he',d,hrun⟩
 ·unfold Oper.wpW execOp;simp only [ho,hvx,Sem.run_bind,hrun,Result.andThen_ok,Sem.run_pure];refine hk _ _ I ι _ _ (.inl ⟨rfl,rfl,l1 h0⟩) (.tup rfl (fun i v c hv hc=>?_)) hr (Step.refl _ _ _ _)
  match i with
  | 0=>simp at hv hc;subst hv hc;exact .pv (.bool _)
  | i+1=>simp at hv
 obtain ⟨i,p,hip,hni,hbn,hkey,hval⟩:=l2 e he';obtain ⟨r1,r2⟩:=hr.drawn (w':={w with drawn:=d}) rfl rfl rfl rfl;have hq2:aA.get ((q,⟨gq,0,oq.ty,eG (.mp id g) since c (seen++[p.2.2])⟩)::H) q=some ⟨gq,0,oq.ty,eG (.mp id g) since c (seen++[p.2.2])⟩:=get_cons_same _ _ _;have hmp:VRel {w with drawn:=d} I ι H (.map (some bm)) (.mp id g):=.mp ob hH (by omega) rfl fun _=>⟨hmz,bm,hιm,rfl⟩;obtain ⟨k2,k3⟩:=Rel.rewrite (H':=(q,⟨gq,0,oq.ty,eG (.mp id g) since c (seen++[p.2.2])⟩)::H) (ob':=⟨gq,0,oq.ty,eG (.mp id g) since c (seen++[p.2.2])⟩) (x:=.mapIter (some bm) since (seen.toArray.push e.born) c) r1 hQ hι hsz hbq rfl rfl hgq.symm rfl
  (fun _ hs1 hI' hmono=>.inr (.inr (.inl ⟨rfl,b,some bm,since,seen.toArray.push e.born,c,hι,hs1,hI',by simp [eG],⟨_,_,_,rfl,hmono _ _ hmp,.pv (.int _ _),.pv (.int _ _)⟩,fun j r hj=>by
   simp only [eG,List.getElem?_cons_succ,Z6] at hj;obtain ⟨n,hn,rfl⟩:=Option.map_eq_some_iff.1 hj;refine⟨n,_,?_,rfl,.pv (.int _ _)⟩;rw [hbn]
   simpa using hn⟩))) hq2 (fun j hj=>get_cons_other _ _ hj)
 unfold Oper.wpW execOp;simp only [ho,hvx,Sem.run_bind,hrun,Result.andThen_ok,Sem.run_pure];refine hk _ _ I ι _ _ (.inr ⟨i,p,hip,hni,rfl,rfl⟩) (.tup rfl (fun j v c hv hc=>?_)) k2 (r2.trans k3)
 match j with
 | 0=>simp at hv hc;subst hv hc;exact .pv (.bool _)
 | 1=>simp at hv hc;subst hv hc;rw [hkey];exact .pv (κ.rep _ _ _)
 | 2=>simp at hv hc;subst hv hc;exact(hval.mono hr r2).mono r1 k3
 | j+3=>simp at hv
theorem DI {i:Nat} {p:α×AV×Nat} (ho:o.op=.entry x) (hx:aO E x=some (.it q gq)) (hQ:H.get q=some oq) (hgq:oq.g=gq) (hrq:oq.rows=eG (.mp id g) since c (seen++[p.2.2])) (hH:H.get id=some ob) (hg:ob.g=g) (hrows:ob.rows=fK κ l) (hty:ob.ty=c)
  (hip:l[i]?=some p):bN P N o E H (.tup [.pv (κ.pv p.1),p.2.1]) H :=
 .of_run fun a w I ι hr he=>by
  obtain ⟨hsz,b,hι,hvx⟩:=H4 (aE he hx) hQ hgq;obtain ⟨bm,hιm,hmz,hbq,hI⟩:=J3 (hr.obj q oq hQ) hsz hι hrq hH hg;obtain ⟨es,e2,e3,e4⟩:=lY (hr.obj id ob hH) hmz hιm hrows;rw [hty] at e2;obtain ⟨e,q1,q2,q3,q4⟩:=e4.rel i p hip;have hf:es.find? (·.born == p.2.2)=some e:=by
   rw [← Array.find?_toList,← q2];refine find_born e es.toList ?_ (by simpa using Array.mem_of_getElem? q1);refine List.pairwise_iff_getElem.2 fun j k hj hk hjk=>?_;have hk':k < es.size:=by simpa using hk
   have z:=e4.inc j k _ _ hjk (Array.getElem?_eq_getElem (by omega)) (Array.getElem?_eq_getElem hk');simp only [List.getElem_map,Array.getElem_toList];omega
  refine⟨.tuple #[e.key,e.val],?_,.tup rfl (fun j v c hv hc=>?_)⟩
  ·simp only [execOp,ho,hvx];simp [Instr.entry,getObj,Sem.run,hbq,e2,hf]
  match j with
  | 0=>simp at hv hc;subst hv hc;rw [q3];exact .pv (κ.rep _ _ _)
  | 1=>simp at hv hc;subst hv hc;exact q4
  | j+2=>simp at hv
end
end
end Go.Abs
section
namespace Go.Abs
section
variable {P:Program} {N:Nat} {o:Oper} {E:bJ} {H:aA} {t t':TypeId} {x:Operand}
abbrev V0 (b:Bool):PV:=bif b then MK else HW
theorem sW {b:Bool} (ho:o.op=.binOp .neq t x (.const .nilIface) t') (ht:P.underlying t=some (.interface (P.methodsAt t))) (hx:aO E x=some (.pv (V0 b))):bN P N o E H (.pv (.bool b)) H:=by
 cases b
 ·exact HM ho ht hx
 exact HN ho ht hx
end
def dG (s:ByteArray):Int:=(pP s).1
def gO (s:ByteArray):Bool:=match Lib.atoiAll s.data.toList with
 | .ok _=>false
 | _=>true
theorem Q5 (s:ByteArray):pP s=(dG s,V0 (gO s)):=by rw [dG,gO,pP];cases Lib.atoiAll s.data.toList<;>rfl
end Go.Abs
namespace Go.Proofs.YtmkgeogoojcciaaGreatDoor
open Go.Proofs.Tryz
open Go.Abs Go.Lib
theorem xH (s:ByteArray) (hs:s.size < 1099511627776) (H:aA):aJ Tryz.prog 82 [sv s] H (fun r H'=>r=.tup [iv (dG s),.pv (V0 (gO s))]∧H'=H):=by
 have:=UG s hs H
 rwa [Q5] at this
def bQ (l:List (ByteArray×ByteArray×Nat)):List (ByteArray×AV×Nat):=l.map fun p=>(p.1,sv p.2.1,p.2.2)
abbrev bK (l:List (ByteArray×ByteArray×Nat)) (c:Nat):Ob:=⟨0,0,c,fK fX (bQ l)⟩
abbrev cC (k a n:Nat) (b:Bool):Ob:=⟨0,6,72,[[.ref 1000 0 0 0,iv (k:Int),iv (a:Int),iv (n:Int),.mp 1101 0,bv b]]⟩
abbrev sH (s:DSt) (o:Ob) (m:Ob):aA:=[(1000,⟨0,4,80,[pL s]⟩),(1001,⟨0,1,5,bF (flat s.cells)⟩),(1002,⟨s.gq,3,103,vR s.q⟩),(1003,⟨s.ga,3,100,oK s.arm⟩),(1100,o),(1101,m)]
theorem aT (l:List (ByteArray×ByteArray×Nat)) (c:Nat) (H:aA):∀ r∈(bK l c).rows,∀ a∈r,Clo H a:=by intro r hr a ha;obtain ⟨p,hp,rfl⟩:=List.mem_map.1 hr;obtain ⟨q,_,rfl⟩:=List.mem_map.1 hp;simp only [ZY,Z2,or_false] at ha;rcases ha with rfl|rfl|rfl<;>exact .pv _
theorem bA {H:aA} {k a n:Nat} {b:Bool} (h1:(H.get 1000).isSome=true) (h2:(H.get 1101).isSome=true):∀ r∈(cC k a n b).rows,∀ x∈r,Clo H x:=by
 intro r hr x hx;rw [ZO.1 hr] at hx;simp only [ZY,Z2,or_false] at hx;rcases hx with rfl|rfl|rfl|rfl|rfl|rfl
 ·exact .ref h1
 ·exact .pv _
 ·exact .pv _
 ·exact .pv _
 ·exact .mp h2
 exact .pv _
theorem TW {f:FuncId} {args:List AV} {s s':DSt} {r0:AV} {o m:Ob} (h:aJ Tryz.prog f args (bC s) (fun r H'=>r=r0∧H'=bC s')) (ha:∀ a∈args,Clo (bC s) a):aJ Tryz.prog f args (sH s o m) (fun r H'=>r=r0∧H'=sH s' o m) :=(cE h (sH s o m) ⟨rfl,rfl,rfl,rfl,trivial⟩ ha).congrH (fun j=>by
  simp only [sH,bC,aA.get,List.cons_append,List.nil_append];cases e0:Nat.beq 1000 j<;>cases e1:Nat.beq 1001 j<;>cases e2:Nat.beq 1002 j<;>cases e3:Nat.beq 1003 j<;>simp [e0,e1,e2,e3])
theorem pY (s:DSt) (k a n:Nat) (b:Bool) (l:List (ByteArray×ByteArray×Nat)) (c:Nat):bG (sH s (cC k a n b) (bK l c)):=bG.of (fun p hp=>by
 simp only [sH,ZY,Z2,or_false] at hp;rcases hp with rfl|rfl|rfl|rfl|rfl|rfl
 ·exact aG s _ rfl rfl rfl
 ·exact aC _ _
 ·exact aM _ _ _
 ·exact aL _ _
 ·exact bA rfl rfl
 exact aT _ _ _)
def BH (place a n:Nat):List UInt8:=oC place (dg a 1++dg n 7)
theorem oF (n:Nat) {w:Nat} (h:n < 10 ^ w) (hw:0 < w):(decDigits n).length≤w:=cZ h hw
theorem DD (place a n:Nat) (hp:place < 1000000000000) (ha:a < 10) (hn:n < 1000000000000) (H:aA):aJ Tryz.prog 83 [iv (place:Int),.agg [iv (a:Int),iv (n:Int)]] H (fun r H'=>r=sv (ofL (BH place a n))∧H'=H):=by
 refine Pu ?_;have h1:(ofL (dg a 1)).size=1:=by rw [bP,kL (oF a (by omega) (by omega))]
 have h2:(ofL (dg n 7)).size≤28:=by rw [bP];exact pJ n 7 hn
 have h3:(dg a 1++dg n 7).length≤48:=by rw [ZM];rw [bP] at h1 h2;omega
 have e1:ofL (dg a 1)++ofL (dg n 7)=ofL (dg a 1++dg n 7):=sX _ _;exact Bd func83 rfl ntmps83<|Sr<|Dd (by exact gN (id:=3) rfl rfl rfl rfl rfl)<|Dd aS<|Zz<|Sq<|bU follows<|Cq aF<|Cq (dX rV)<|Cq (eQ aU)<|Cq (by exact aB rfl rfl zK rfl (mZ a 1 (by omega) (by omega) _))<|Cq (dX mG)<|Cq (eQ aU)<|Cq (by exact aB rfl rfl zK rfl (mZ n 7 hn (by omega) _))<|Cq (by exact gE rfl rfl rfl (by omega) e1)<|Cq (by exact aB rfl rfl YP rfl (xQ place (dg a 1++dg n 7) hp h3 _))<|Cq aS<|dO<|Kr<|aN<|Rt<|Qq
end Go.Proofs.YtmkgeogoojcciaaGreatDoor
end
namespace Go.Proofs.YtmkgeogoojcciaaGreatDoor
open Go.Proofs.Tryz
open Go.Abs Go.Lib
theorem Q4 {s:ByteArray} (h:gO s=false) : -9223372036854775808≤dG s∧dG s≤9223372036854775807:=by
 rw [gO] at h;rw [dG,pP];cases e:Lib.atoiAll s.data.toList with
 | ok v=>exact Lib.atoiAll_bounds e
 | range=>rw [e] at h;cases h
 | _=>rw [e] at h;cases h
theorem P8 (s:ByteArray) (i j:Nat):(s.extract i j).size≤s.size:=by rw [ByteArray.size_extract];omega
theorem mA {s:DSt} (hs:DOk s) {n:Nat} (hn:n < s.cells.length):(bW s n).size=64:=by
 rw [bW];cases e:s.q.reverse.find? (oE n)with
 | some p =>
  have:=List.mem_of_find?_eq_some e;exact(hs.q p (List.mem_reverse.1 this)).2
 | none =>
  rw [ZQ hn];exact hs.c _ (List.getElem_mem hn)
theorem wS {s:DSt} (hs:DOk s) (hoff:s.off=false) {n:Nat} (hn:n < s.cells.length):∀ H,GX H (bC s)→aJ Tryz.prog 41 [.ref 1000 0 0 0,iv (n:Int)] H (fun r H'=>r=.tup [sv (bW s n),iv 0]∧H'=H):=fun H hH=>by
 have h:=aJ.frameS (OV s (n:Int) hs) hH.sub (tR s) (by simp;rfl);have e:fE s (n:Int)=true:=by rw [jO];exact decide_eq_true hn
 rw [show yZ s (n:Int)=bW s n by rw [yZ,hoff,ZJ (by decide),ZK e,ZX],show nV s (n:Int)=0 by rw [nV,hoff,ZJ (by decide),ZK e]] at h;exact h
def lG (t:ByteArray):Bool:=gO (t.extract 16 24)||decide (dG (t.extract 16 24) < 0)
def LL (t:ByteArray):Nat:=(dG (t.extract 16 24)).toNat
def oX (t:ByteArray):Nat:=if lG t then 0 else LL t / 10000000
def oW (t:ByteArray):Nat:=if lG t then 0 else LL t % 10000000
def kN (k place:Nat) (t:ByteArray):Bool:=!lG t&&((decide (oX t < 2)&&decide (oW t≤k))&&decide (ofL (BH place (oX t) (oW t))=t))
theorem sS (s:DSt) (hs:DOk s) (hoff:s.off=false) (k a n place:Nat) (b:Bool) (l:List (ByteArray×ByteArray×Nat)) (c:Nat) (hp:place < s.cells.length) (hk:k < 10000000) :
  aJ Tryz.prog 42 [.ref 1100 0 0 0,iv (place:Int)] (sH s (cC k a n b) (bK l c)) (fun r H'=>r=.tup [.agg [iv (oX (bW s place):Int),iv (oW (bW s place):Int)],bv (kN k place (bW s place))]∧H'=sH s (cC k a n b) (bK l c)):=by
 have ht:=mA hs hp;have hrd:=wS hs hoff hp;have hpl:place < 1000000000000:=by have:=hs.n2;omega
 obtain ⟨t,hT⟩:∃ t,t=bW s place:=⟨_,rfl⟩;rw [← hT] at ht hrd ⊢;clear hT;obtain ⟨x,hx⟩:∃ x,x=t.extract 16 24:=⟨_,rfl⟩;have hxs:x.size < 1099511627776:=by rw [hx];have:=P8 t 16 24;omega
 have hat:=fun H=>xH x hxs H;have hbd:=Q4 (s:=x);have hpb:lG t=(gO x||decide (dG x < 0)):=by rw [lG,hx]
 have hpu:LL t=(dG x).toNat:=by rw [LL,hx]
 obtain ⟨v,hv⟩:∃ v,v=dG x:=⟨_,rfl⟩;obtain ⟨e,he⟩:∃ e,e=gO x:=⟨_,rfl⟩;simp only [← hv,← he] at hat hbd hpb hpu;clear hv he;refine Bd func42 rfl ntmps42<|Sr<|Dd (by exact cH (id:=4) rfl NU rfl rfl)<|Dd aS<|Zz<|Sr<|Dd aF<|Dd fH<|Dd (dX rU)<|Dd (eQ mN)<|Dd aF<|Dd (by exact aB rfl rfl uL rfl (hrd _ ⟨rfl,rfl,rfl,rfl,trivial⟩))<|Dd aF<|Dd eR<|Dd eR<|Dd aS<|Dd aS<|Zz<|Sr<|Dd aF<|Dd (by exact cI (l:=16) (h:=24) rfl aH rfl rfl rfl (by omega) (by omega) hx.symm)<|Dd (by exact aB rfl rfl R5 rfl (hat _))<|Dd aF<|Dd eR<|Dd eR<|Dd aS<|Dd aS<|Zz<|Sq<|Sq ?_;refine dF (t:=31) (n:=7) (X:=e||decide (v < 0)) ?_ ?_
 ·all_goals refine Dd aF ?_
  all_goals refine Dd (by exact sW rfl iE rfl)<|Dm ?_
  all_goals refine Sp 28 (fun h28=>?_) fun h28=>?_
  all_goals try contradiction
  all_goals first|refine Fo<|Fo ?_|refine On aF<|On eF ?_
  all_goals refine Dd dU<|Zz ?_
  all_goals(exact⟨⟨_,rfl,by(rw [h28];rfl)⟩,rfl,rfl,rfl⟩)
 refine Cn ?_ ?_<;>intro hc1
 ·have hq:=hc1;have hb:lG t=true:=hpb.trans hq;refine Sr<|Dd (NR M6)<|Uu (qV sizeOf70)<|Dd aS<|Zz<|aN ?_;refine fW (H':=(sH s (cC k a n b) (bK l c))) (.inr rfl) rfl (XU cV sizeOf70) (aI rfl) (Fin.wk (r:=.tup [.agg [iv 0,iv 0],bv false]) (by simp) ⟨⟨_,rfl,rfl⟩,(by exact aG _ _ rfl rfl rfl),⟨_,rfl,rfl⟩,(by exact aC _ _),⟨_,rfl,rfl⟩,(by exact aM _ _ _),⟨_,rfl,rfl⟩,(by exact aL _ _),⟨_,rfl,rfl⟩,(by exact bA rfl rfl),⟨_,rfl,rfl⟩,(by exact aT _ _ _),trivial⟩ ⟨rfl,rfl,rfl,rfl,rfl,rfl,trivial⟩) ?_;exact⟨by rw [oX,oW,kN,hb];rfl,rfl⟩
 have hq:=hc1;have hb:lG t=false:=hpb.trans hq;rw [Z8,ZT] at hq;obtain ⟨u,rfl⟩:∃ u:Nat,v=(u:Int):=⟨v.toNat,by omega⟩;have hbu:=hbd hq.1;rw [ZX] at hpu;have h34:IntKind.i64.wrap ((u:Int).tdiv 10000000)=((u / 10000000:Nat):Int):=by
  rw [Int.tdiv_eq_ediv_of_nonneg (by omega),gV (by omega) (by omega)];omega
 have h36:(u:Int).tmod 10000000=((u % 10000000:Nat):Int):=by
  rw [Int.tmod_eq_emod_of_nonneg (by omega)];omega
 have hA:oX t=u / 10000000:=by rw [oX,hb,ZJ (by decide),hpu]
 have hN:oW t=u % 10000000:=by rw [oW,hb,ZJ (by decide),hpu]
 rw [kN,hb,hA,hN];have hnn:u % 10000000 < 10000000:=Nat.mod_lt _ (by decide);obtain ⟨p,hpe⟩:∃ p,p=u / 10000000:=⟨_,rfl⟩;obtain ⟨q,hqe⟩:∃ q,q=u % 10000000:=⟨_,rfl⟩;rw [← hpe] at h34;rw [← hqe] at h36 hnn;rw [← hpe,← hqe];clear hpe hqe;by_cases h2:p < 2
 ·have g42:decide ((p:Int) < 2)=true:=decide_eq_true (by omega);have hhd:=fun H=>DD place p q hpl (by omega) (by omega) H;by_cases h3:q≤k
  ·have g51:decide ((q:Int)≤(k:Int))=true:=decide_eq_true (by omega);refine aK<|Sr<|Dd aF<|Dd (by exact lV rfl rfl rfl (by decide) h34)<|Dd aF<|Dd (by exact nL rfl rfl rfl (by decide) h36)<|Dd (NR M6)<|Dd (by exact cH (id:=10) rfl NU rfl rfl)<|Uu (qV sizeOf70)<|Zz<|Sq<|bU follows<|Cr [10] (fun H1 hH=>by exact cX rfl cV sizeOf70 rfl ((hH _ rfl).trans rfl) rfl rfl rfl rfl)<|Cr [10] (fun _ h=>fh rV h)<|Cr [10] (fun _ h=>lh aU h)<|Cr [] (fun _ _=>eF)<|Cr [] (fun _ _=>aF) ?_;refine cF (r:=⟨_,some [10],[]⟩) (fP rfl rfl rfl (by assumption) (fun H1 hH=>by exact(by exact fQ rfl mG rfl ((hH _ rfl).trans rfl) rfl rfl))) rfl ?_;refine cF (r:=⟨_,some [10],[]⟩) (fP rfl rfl rfl (by assumption) (fun H1 hH=>by exact(by exact aW rfl aU rfl ((hH _ rfl).trans rfl) rfl rfl rfl))) rfl ?_;refine cF (r:=⟨_,some [1100],[]⟩) (fP rfl rfl rfl (by assumption) (fun H1 hH=>by exact mU rfl rfl)) rfl ?_;refine cF (r:=⟨_,some [1100],[]⟩) (fP rfl rfl rfl (by assumption) (fun H1 hH=>by exact(by exact bO rfl rfl ((hH _ rfl).trans rfl) rfl))) rfl ?_;refine cF (r:=⟨_,some [1100],[]⟩) (fP rfl rfl rfl (by assumption) (fun H1 hH=>by exact(by exact fQ rfl rT rfl ((hH _ rfl).trans rfl) rfl rfl))) rfl ?_;refine cF (r:=⟨_,some [1100],[]⟩) (fP rfl rfl rfl (by assumption) (fun H1 hH=>by exact(by exact aW rfl aU rfl ((hH _ rfl).trans rfl) rfl rfl rfl))) rfl ?_;refine cF (r:=⟨_,some [],[]⟩) (fP rfl rfl rfl (by assumption) (fun H1 hH=>by exact jV rfl rfl rfl)) rfl ?_;refine Cr [] (fun _ _=>UT)<|Cr [] (fun _ _=>aF) ?_;refine cF (r:=⟨_,some [],[]⟩) (fP rfl rfl rfl (by assumption) (fun H1 hH=>by exact mU rfl rfl)) rfl ?_;refine cF (r:=⟨_,some [10],[]⟩) (fP rfl rfl rfl (by assumption) (fun H1 hH=>by exact(by exact cX rfl cV sizeOf70 rfl ((hH _ rfl).trans rfl) rfl rfl rfl rfl))) rfl ?_;refine cF (r:=⟨_,some [],[]⟩) (fP rfl rfl rfl (by assumption) (fun H1 hH=>by exact aB rfl rfl R4 rfl (hhd _))) rfl ?_;refine cF (r:=⟨_,some [],[]⟩) (fP rfl rfl rfl (by assumption) (fun H1 hH=>by exact mU rfl rfl)) rfl ?_;refine cF (r:=⟨_,some [],[]⟩) (fP rfl rfl rfl (by assumption) (fun H1 hH=>by exact xZ rfl rfl rfl)) rfl ?_;refine Cr [] (fun _ _=>UT)<|Cp [4] (fun H1 hH=>by exact iH rfl sizeOf70 rfl rfl rfl rfl ((hH _ rfl).trans rfl) rfl rfl rfl)<|Cr [] (fun _ _=>aS)<|dO<|Kr<|aN ?_;refine fW (H':=(sH s (cC k a n b) (bK l c))) (.inr rfl) rfl (XU cV sizeOf70) (aI rfl) (Fin.wk (r:=.tup [.agg [iv (p:Int),iv (q:Int)],bv (decide (ofL (BH place p q)=t))]) (by simp) ⟨⟨_,rfl,rfl⟩,(by exact aG _ _ rfl rfl rfl),⟨_,rfl,rfl⟩,(by exact aC _ _),⟨_,rfl,rfl⟩,(by exact aM _ _ _),⟨_,rfl,rfl⟩,(by exact aL _ _),⟨_,rfl,rfl⟩,(by exact bA rfl rfl),⟨_,rfl,rfl⟩,(by exact aT _ _ _),trivial⟩ ⟨rfl,rfl,rfl,rfl,rfl,rfl,trivial⟩) ?_;exact⟨by rw [decide_eq_true h2,decide_eq_true h3];rfl,rfl⟩
  have g51:decide ((q:Int)≤(k:Int))=false:=decide_eq_false (by omega);refine aK<|Sr<|Dd aF<|Dd (by exact lV rfl rfl rfl (by decide) h34)<|Dd aF<|Dd (by exact nL rfl rfl rfl (by decide) h36)<|Dd (NR M6)<|Dd (by exact cH (id:=10) rfl NU rfl rfl)<|Uu (qV sizeOf70)<|Zz<|Sq<|bU follows<|Cr [10] (fun H1 hH=>by exact cX rfl cV sizeOf70 rfl ((hH _ rfl).trans rfl) rfl rfl rfl rfl)<|Cr [10] (fun _ h=>fh rV h)<|Cr [10] (fun _ h=>lh aU h)<|Cr [] (fun _ _=>eF)<|Cr [] (fun _ _=>aF) ?_;refine cF (r:=⟨_,some [10],[]⟩) (fP rfl rfl rfl (by assumption) (fun H1 hH=>by exact(by exact fQ rfl mG rfl ((hH _ rfl).trans rfl) rfl rfl))) rfl ?_;refine cF (r:=⟨_,some [10],[]⟩) (fP rfl rfl rfl (by assumption) (fun H1 hH=>by exact(by exact aW rfl aU rfl ((hH _ rfl).trans rfl) rfl rfl rfl))) rfl ?_;refine cF (r:=⟨_,some [1100],[]⟩) (fP rfl rfl rfl (by assumption) (fun H1 hH=>by exact mU rfl rfl)) rfl ?_;refine cF (r:=⟨_,some [1100],[]⟩) (fP rfl rfl rfl (by assumption) (fun H1 hH=>by exact(by exact bO rfl rfl ((hH _ rfl).trans rfl) rfl))) rfl ?_;refine cF (r:=⟨_,some [1100],[]⟩) (fP rfl rfl rfl (by assumption) (fun H1 hH=>by exact(by exact fQ rfl rT rfl ((hH _ rfl).trans rfl) rfl rfl))) rfl ?_;refine cF (r:=⟨_,some [1100],[]⟩) (fP rfl rfl rfl (by assumption) (fun H1 hH=>by exact(by exact aW rfl aU rfl ((hH _ rfl).trans rfl) rfl rfl rfl))) rfl ?_;refine cF (r:=⟨_,some [],[]⟩) (fP rfl rfl rfl (by assumption) (fun H1 hH=>by exact jV rfl rfl rfl)) rfl ?_;refine Cr [] (fun _ _=>UT)<|Cr [] (fun _ _=>aF)<|Ot<|Ot<|Ot<|Ot<|Ot<|Cr [] (fun _ _=>LS)<|Cp [4] (fun H1 hH=>by exact iH rfl sizeOf70 rfl rfl rfl rfl ((hH _ rfl).trans rfl) rfl rfl rfl)<|Cr [] (fun _ _=>aS)<|dO<|Kr<|aN ?_;refine fW (H':=(sH s (cC k a n b) (bK l c))) (.inr rfl) rfl (XU cV sizeOf70) (aI rfl) (Fin.wk (r:=.tup [.agg [iv (p:Int),iv (q:Int)],bv false]) (by simp) ⟨⟨_,rfl,rfl⟩,(by exact aG _ _ rfl rfl rfl),⟨_,rfl,rfl⟩,(by exact aC _ _),⟨_,rfl,rfl⟩,(by exact aM _ _ _),⟨_,rfl,rfl⟩,(by exact aL _ _),⟨_,rfl,rfl⟩,(by exact bA rfl rfl),⟨_,rfl,rfl⟩,(by exact aT _ _ _),trivial⟩ ⟨rfl,rfl,rfl,rfl,rfl,rfl,trivial⟩) ?_;exact⟨by rw [decide_eq_true h2,decide_eq_false h3];rfl,rfl⟩
 have g42:decide ((p:Int) < 2)=false:=decide_eq_false (by omega);refine aK<|Sr<|Dd aF<|Dd (by exact lV rfl rfl rfl (by decide) h34)<|Dd aF<|Dd (by exact nL rfl rfl rfl (by decide) h36)<|Dd (NR M6)<|Dd (by exact cH (id:=10) rfl NU rfl rfl)<|Uu (qV sizeOf70)<|Zz<|Sq<|bU follows<|Cr [10] (fun H1 hH=>by exact cX rfl cV sizeOf70 rfl ((hH _ rfl).trans rfl) rfl rfl rfl rfl)<|Cr [10] (fun _ h=>fh rV h)<|Cr [10] (fun _ h=>lh aU h)<|Cr [] (fun _ _=>eF)<|Cr [] (fun _ _=>aF)<|Ot<|Ot<|Ot<|Ot<|Ot<|Ot<|Ot<|Cr [] (fun _ _=>LS)<|Cr [] (fun _ _=>aF)<|Ot<|Ot<|Ot<|Ot<|Ot<|Cr [] (fun _ _=>dU)<|Cp [4] (fun H1 hH=>by exact iH rfl sizeOf70 rfl rfl rfl rfl ((hH _ rfl).trans rfl) rfl rfl rfl)<|Cr [] (fun _ _=>aS)<|dO<|Kr<|aN ?_;refine fW (H':=(sH s (cC k a n b) (bK l c))) (.inr rfl) rfl (XU cV sizeOf70) (aI rfl) (Fin.wk (r:=.tup [.agg [iv (p:Int),iv (q:Int)],bv false]) (by simp) ⟨⟨_,rfl,rfl⟩,(by exact aG _ _ rfl rfl rfl),⟨_,rfl,rfl⟩,(by exact aC _ _),⟨_,rfl,rfl⟩,(by exact aM _ _ _),⟨_,rfl,rfl⟩,(by exact aL _ _),⟨_,rfl,rfl⟩,(by exact bA rfl rfl),⟨_,rfl,rfl⟩,(by exact aT _ _ _),trivial⟩ ⟨rfl,rfl,rfl,rfl,rfl,rfl,trivial⟩) ?_;exact⟨by rw [decide_eq_false h2];rfl,rfl⟩
def eP (place:Nat) (p:List UInt8):List UInt8:=oC place (dg p.length 2++p)
def BB (t:ByteArray):Bool:=(gO (t.extract 16 18)||decide (dG (t.extract 16 18) < 1))||decide (46 < dG (t.extract 16 18))
def O4 (t:ByteArray):ByteArray:=t.extract 18 (18+(dG (t.extract 16 18)).toNat)
def EV (place:Nat) (t:ByteArray):ByteArray:=if BB t then sNil else if ofL (eP place (O4 t).data.toList)=t then O4 t else sNil
theorem SS (s:DSt) (hs:DOk s) (hoff:s.off=false) (k a n place:Nat) (b:Bool) (l:List (ByteArray×ByteArray×Nat)) (c:Nat) (hp:place < s.cells.length) :
  aJ Tryz.prog 84 [.ref 1100 0 0 0,iv (place:Int)] (sH s (cC k a n b) (bK l c)) (fun r H'=>r=sv (EV place (bW s place))∧H'=sH s (cC k a n b) (bK l c)):=by
 have ht:=mA hs hp;have hrd:=wS hs hoff hp;have hpl:place < 1000000000000:=by have:=hs.n2;omega
 obtain ⟨t,hT⟩:∃ t,t=bW s place:=⟨_,rfl⟩;rw [← hT] at ht hrd ⊢;clear hT;obtain ⟨x,hx⟩:∃ x,x=t.extract 16 18:=⟨_,rfl⟩;have hxs:x.size < 1099511627776:=by rw [hx];have:=P8 t 16 18;omega
 have hat:=fun H=>xH x hxs H;have hpb:BB t=((gO x||decide (dG x < 1))||decide (46 < dG x)):=by rw [BB,hx]
 have hpu:O4 t=t.extract 18 (18+(dG x).toNat):=by rw [O4,hx]
 obtain ⟨v,hv⟩:∃ v,v=dG x:=⟨_,rfl⟩;obtain ⟨e,he⟩:∃ e,e=gO x:=⟨_,rfl⟩;simp only [← hv,← he] at hat hpb hpu;clear hv he;rw [EV];refine Bd func84 rfl ntmps84<|Sr<|Dd aS<|Zz<|Sr<|Dd aF<|Dd fH<|Dd (dX rU)<|Dd (eQ mN)<|Dd aF<|Dd (by exact aB rfl rfl uL rfl (hrd _ ⟨rfl,rfl,rfl,rfl,trivial⟩))<|Dd aF<|Dd eR<|Dd eR<|Dd aS<|Dd aS<|Zz<|Sr<|Dd aF<|Dd (by exact cI (l:=16) (h:=18) rfl aH rfl rfl rfl (by omega) (by omega) hx.symm)<|Dd (by exact aB rfl rfl R5 rfl (hat _))<|Dd aF<|Dd eR<|Dd eR<|Dd aS<|Dd aS<|Zz<|Sq<|Sq ?_;refine dF (t:=34) (n:=12) (X:=(e||decide (v < 1))||decide (46 < v)) ?_ ?_
 ·all_goals refine Dd aF ?_
  all_goals refine Dd (by exact sW rfl iE rfl)<|Dm ?_
  all_goals refine Sp 27 (fun h27=>?_) fun h27=>?_
  all_goals try contradiction
  all_goals first|refine Fo<|Fo ?_|refine On aF<|On eF ?_
  all_goals refine Dd dU<|Dm ?_
  all_goals refine Sp 31 (fun h31=>?_) fun h31=>?_
  all_goals try contradiction
  all_goals first|refine Fo<|Fo ?_|refine On aF<|On GI ?_
  all_goals refine Dd dU<|Zz ?_
  all_goals(exact⟨⟨_,rfl,by first|(rw [h27];rfl)|(rw [h27,h31];rfl)⟩,rfl,rfl,rfl⟩)
 refine Cn ?_ ?_<;>intro hc1
 ·have hq:=hc1;rw [ZK (hpb.trans hq)];refine Sr<|Dd aS<|Zz<|aN ?_;refine bD (H':=(sH s (cC k a n b) (bK l c))) (.inr rfl) rfl (aI rfl) (Fin.wk (by(simp;done)) (Hc (aG _ _ rfl rfl rfl)<|Hc (aC _ _)<|Hc (aM _ _ _)<|Hc (aL _ _)<|Hc (bA rfl rfl)<|Hc (aT _ _ _)<|trivial) ⟨rfl,rfl,rfl,rfl,rfl,rfl,trivial⟩) ?_;exact Qq
 have hq:=hc1;rw [ZJ (by rw [hpb,hq];decide)];rw [Z8,Z8,ZT,ZT] at hq;obtain ⟨u,rfl⟩:∃ u:Nat,v=(u:Int):=⟨v.toNat,by omega⟩;rw [ZX] at hpu;have hps:(O4 t).size=u:=by rw [hpu,ByteArray.size_extract];omega
 have hpl2:(O4 t).data.toList.length=u:=by rw [cW,hps]
 have hof:=HS (O4 t);obtain ⟨y,hy⟩:∃ y,y=O4 t:=⟨_,rfl⟩;rw [← hy] at hps hpl2 hof hpu ⊢;clear hy;obtain ⟨p,hpe⟩:∃ p,p=y.data.toList:=⟨_,rfl⟩;rw [← hpe] at hpl2 hof ⊢;have h38:((18:Int)+(u:Int))=((18+u:Nat):Int):=by omega
 have e43:ofL (dg u 2)++y=ofL (dg u 2++p):=by rw [← hof];exact sX _ _
 have s43:(ofL (dg u 2)).size≤23:=by rw [bP];exact pJ u 2 (by omega)
 have l43:(dg u 2++p).length≤48:=by rw [ZM,kL (oF u (by omega) (by omega)),hpl2];omega
 have hpc:eP place p=oC place (dg u 2++p):=by rw [eP,hpl2]
 refine aK<|Sr<|Dd aF<|Dd aF<|Dd (by exact bZ rfl rfl rfl (show IntKind.i64.wrap ((18:Int)+(u:Int))=((18+u:Nat):Int)by rw [gV (by omega) (by omega)];omega))<|Dd (by exact cI (l:=18) (h:=18+u) rfl aH rfl rfl rfl (by omega) (by omega) hpu.symm)<|Dd aS<|Zz<|Sq<|Sr<|Dd aF<|Dd aF<|Dd (by exact aB rfl rfl zK rfl (mZ u 2 (by omega) (by omega) _))<|Dd aF<|Dd (by exact gE rfl rfl rfl (by omega) e43)<|Dd (by exact aB rfl rfl YP rfl (xQ place (dg u 2++p) hpl l43 _))<|Dd aF<|Dd OG<|Zz ?_;refine Cn ?_ ?_<;>intro hc2
 ·have hq2:¬ ofL (oC place (dg u 2++p))=t:=by have h:=hc2;simpa using h
  rw [hpc,ZJ hq2];refine Sr<|Dd aS<|Zz<|aN ?_;refine bD (H':=(sH s (cC k a n b) (bK l c))) (.inr rfl) rfl (aI rfl) (Fin.wk (by(simp;done)) (Hc (aG _ _ rfl rfl rfl)<|Hc (aC _ _)<|Hc (aM _ _ _)<|Hc (aL _ _)<|Hc (bA rfl rfl)<|Hc (aT _ _ _)<|trivial) ⟨rfl,rfl,rfl,rfl,rfl,rfl,trivial⟩) ?_;exact Qq
 have hq2:ofL (oC place (dg u 2++p))=t:=by have h:=hc2;simpa using h
 rw [hpc,ZK hq2];refine aK<|Sr<|Dd aF<|Dd aS<|Zz<|aN ?_;refine bD (H':=(sH s (cC k a n b) (bK l c))) (.inr rfl) rfl (aI rfl) (Fin.wk (by(simp;done)) (Hc (aG _ _ rfl rfl rfl)<|Hc (aC _ _)<|Hc (aM _ _ _)<|Hc (aL _ _)<|Hc (bA rfl rfl)<|Hc (aT _ _ _)<|trivial) ⟨rfl,rfl,rfl,rfl,rfl,rfl,trivial⟩) ?_;exact Qq
theorem xW (s:DSt) (k a n ar i:Nat) (b:Bool) (l:List (ByteArray×ByteArray×Nat)) (c:Nat) (hk:k < 100000) (har:ar < 10) (hi:i < 100000000) :
  aJ Tryz.prog 85 [.ref 1100 0 0 0,iv (ar:Int),iv (i:Int)] (sH s (cC k a n b) (bK l c)) (fun r H'=>r=iv ((2+ar*k+i:Nat):Int)∧H'=sH s (cC k a n b) (bK l c)):=by
 have hm:ar*k≤10*100000:=Nat.mul_le_mul (by omega) (by omega);have hmi:((ar:Int)*(k:Int))=((ar*k:Nat):Int):=by rw [Int.natCast_mul]
 refine Bd func85 rfl ntmps85<|Sr<|Dd aS<|Zz<|Sr<|Dd aF<|Dd aF<|Dd fH<|Dd (dX rT)<|Dd (eQ aU)<|Dd (by exact fN rfl rfl rfl (by exact gV (by omega) (by omega)))<|Dd rD<|Dd aF<|Dd rD<|Dd aS<|Zz<|aN ?_;refine bD (H':=(sH s (cC k a n b) (bK l c))) (.inr rfl) rfl (aI rfl) (Fin.wk (by(simp;done)) (Hc (aG _ _ rfl rfl rfl)<|Hc (aC _ _)<|Hc (aM _ _ _)<|Hc (aL _ _)<|Hc (bA rfl rfl)<|Hc (aT _ _ _)<|trivial) ⟨rfl,rfl,rfl,rfl,rfl,rfl,trivial⟩) ?_;exact Qq
end Go.Proofs.YtmkgeogoojcciaaGreatDoor
namespace Go.Proofs.YtmkgeogoojcciaaGreatDoor
open Go.Proofs.Tryz
open Go.Abs
structure DInv (s:DSt) (n m:Nat):Prop where
 ok:DOk s
 arm:KL s
 n:s.cells.length=n
 q:s.q.length≤m
theorem DInv.mono {s:DSt} {n m m':Nat} (h:DInv s n m) (hm:m≤m'):DInv s n m':=⟨h.ok,h.arm,h.n,Nat.le_trans h.q hm⟩
theorem TN {n:Nat} (h1:1≤n) (h2:n≤8000):DInv (lO n) n 0:=⟨T0 h1 h2,fun a w b h=>(by cases h),by simp [lO],ZR _⟩
theorem BT {a:Arm} {x w b:Int} (h:DP a=.on x w b):False:=by cases a<;>cases h
theorem tG {s:DSt} {n m:Nat} (h:DInv s n m) (w b:Int):DInv (kO s w b) n m:=by
 refine⟨J8 h.ok w b,?_,?_,?_⟩<;>unfold kO<;>split
 ·exact h.arm
 ·exact fun a w b h=>(BT h).elim
 ·exact h.n
 ·show (mY s w b).length=n;rw [vD];exact h.n
 ·exact h.q
 exact Z3 _
theorem vA {s:DSt} {n m:Nat} (h:DInv s n m):DInv (dP s) n m:=by
 refine⟨FZ h.ok,?_,?_,?_⟩<;>unfold dP<;>split
 ·next a w b e =>
  split
  ·intro a' w' b' he;cases he;have:=h.arm a w b e;omega
  exact(tG h w b).arm
 ·exact h.arm
 ·next a w b e =>
  split
  ·exact h.n
  exact(tG h w b).n
 ·exact h.n
 ·next a w b e =>
  split
  ·exact h.q
  exact(tG h w b).q
 exact h.q
theorem BG {s:DSt} {n m:Nat} (h:DInv s n m) (hm:m < 1048576) (k:Int) (t:ByteArray):DInv (iW s k t) n (m+1):=by
 unfold iW
 split
 ·exact h.mono (Nat.le_succ _)
 split
 ·next hc =>
  rw [ZU,ZS] at hc;obtain ⟨h1,h2⟩:=hc;rcases oU s k with e|⟨j,rfl,hj⟩
  ·rw [e] at h1;cases h1
  have hq:=h.q;refine vA ⟨uN h.ok (by simpa using hj) h2 (by omega),h.arm,h.n,?_⟩;show (s.q++[_]).length≤_;simp;exact hq
 exact h.mono (Nat.le_succ _)
theorem MA {s:DSt} {n m:Nat} (h:DInv s n m):DInv (vE s) n m:=by have hp:=HG h.ok s.q.length;rw [List.take_length] at hp;exact⟨⟨hp.n1,hp.n2,hp.c,fun p hp=>(by cases hp),Z3 _⟩,h.arm,by show (cM _ _).length=n;rw [gD];exact h.n,Z3 _⟩
theorem PQ {s:DSt} {n m:Nat} (h:DInv s n m):DInv (iX s) n m:=by
 unfold iX
 split
 ·exact h
 split
 ·exact MA (vA h)
 exact vA h
end Go.Proofs.YtmkgeogoojcciaaGreatDoor
