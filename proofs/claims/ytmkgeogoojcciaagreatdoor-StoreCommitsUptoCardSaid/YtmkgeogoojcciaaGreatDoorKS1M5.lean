/-
  Parts of the proof: rules of an abstract program logic, contracts of functions, plain laws. Conditions: each theorem's own.
-/
import Derived.Test.YtmkgeogoojcciaaGreatDoorKS1M4
import Derived.Below
import Derived.Shelf.Strings.Repeat
import Derived.Shelf.Strconv.ErrVarAll
import Derived.Shelf.Strconv.AtoiAll
import Derived.Shelf.LaysC
import Derived.Ground.NamesProg
import Derived.WideLaws
import Derived.Lib.AtoiAllCases
set_option linter.unusedVariables false
set_option linter.unusedSimpArgs false
set_option maxRecDepth 100000
set_option maxHeartbeats 8000000
namespace Go.Proofs
theorem WC:type_of% Tryz.call101:=Tryz.call101
theorem w6:type_of% Tryz.call102:=Tryz.call102
theorem sA:type_of% Tryz.call41:=Tryz.call41
theorem r7:type_of% Tryz.call81:=Tryz.call81
theorem PT:type_of% Tryz.call82:=Tryz.call82
theorem PS:type_of% Tryz.call83:=Tryz.call83
theorem nD:type_of% Tryz.call98:=Tryz.call98
theorem V9:type_of% Tryz.func147:=Tryz.func147
theorem lM:type_of% Tryz.isAgg29:=Tryz.isAgg29
theorem cQ:type_of% Tryz.isAgg70:=Tryz.isAgg70
theorem gY:type_of% Tryz.isAgg77:=Tryz.isAgg77
theorem lL:type_of% Tryz.isAgg78:=Tryz.isAgg78
theorem gX:type_of% Tryz.isAgg96:=Tryz.isAgg96
theorem U8:type_of% Tryz.ntmps147:=Tryz.ntmps147
theorem gW:type_of% Tryz.underlying132:=Tryz.underlying132
theorem iN:type_of% Tryz.underlying29:=Tryz.underlying29
theorem K5:type_of% Tryz.underlying78:=Tryz.underlying78
end Go.Proofs
namespace Go.Proofs.YtmkgeogoojcciaaGreatDoor
open Go.Proofs.Tryz
open Go.Abs
def ofL (l:List UInt8):ByteArray:=⟨l.toArray⟩
theorem bA (l:List UInt8):(ofL l).data.toList=l:=by simp [ofL]
theorem FG (s:ByteArray):ofL s.data.toList=s:=i8 (bA _)
theorem bS (l:List UInt8):(ofL l).size=l.length:=by rw [← dB,bA]
inductive Arm where
 | never
 | off (a w b:Int)
 | on (a w b:Int)
structure DSt where
 cells:List ByteArray
 q:List (Nat×ByteArray)
 off:Bool
 arm:Arm
 gq:Nat
 ga:Nat
def jY (p:Nat×ByteArray):List PV:=[.int .i64 ((64*p.1:Nat):Int),.int .i64 ((64*(p.1+1):Nat):Int),.str p.2]
def flat (l:List ByteArray):List UInt8:=l.flatMap (fun c=>c.data.toList)
abbrev tM (l:List (Nat×ByteArray)):List (List AV):=l.map (fun e=>(jY e).map .pv)
def O0 (ga:Nat):Arm→AV
 | .never=>.pv .nilp
 | .off _ _ _=>.pv .nilp
 | .on _ _ _=>.ref 1003 ga 0 0
def nA:Arm→List (List AV)
 | .never=>[]
 | .off a w b=>[[iv a,iv w,iv b]]
 | .on a w b=>[[iv a,iv w,iv b]]
abbrev oF (s:DSt):List AV:=[.osl 1001 0 0 (64*s.cells.length),.osl 1002 s.gq 0 s.q.length,bv s.off,O0 s.ga s.arm]
abbrev a7 (s:DSt):aA:=[(1000,⟨0,4,80,[oF s]⟩),(1001,⟨0,1,5,bG (flat s.cells)⟩),(1002,⟨s.gq,3,103,tM s.q⟩),(1003,⟨s.ga,3,100,nA s.arm⟩)]
theorem aC (s:List UInt8) (H:aA):∀ r∈bG s,∀ a∈r,Clo H a:=by intro r hr a ha;obtain ⟨b,_,rfl⟩:=List.mem_map.1 hr;rw [XG.1 ha];exact .pv _
theorem aJ (a:Arm) (H:aA):∀ r∈nA a,∀ x∈r,Clo H x:=by intro r hr x hx;cases a<;>simp [nA] at hr<;>subst hr<;>simp at hx<;>(rcases hx with rfl|rfl|rfl<;>exact .pv _)
theorem aF (s:DSt) (H:aA) (h1:(H.get 1001).isSome=true) (h2:(H.get 1002).isSome=true) (h3:(H.get 1003).isSome=true):∀ r∈[oF s],∀ a∈r,Clo H a:=by
 intro r hr a ha;rw [XG.1 hr] at ha;simp only [oF,XP,XT,or_false] at ha;rcases ha with rfl|rfl|rfl|rfl
 ·exact .osl h1
 ·exact .osl h2
 ·exact .pv _
 cases s.arm<;>first|exact .pv _|exact .ref h3
theorem rP (s:DSt):bF (a7 s):=bF.of (fun p hp=>by
 simp only [a7,XP,XT,or_false] at hp;rcases hp with rfl|rfl|rfl|rfl
 ·exact aF s _ rfl rfl rfl
 ·exact aC _ _
 ·exact aL _ _ _
 exact aJ _ _)
structure DOk (s:DSt):Prop where
 n1:1≤s.cells.length
 n2:s.cells.length≤8000
 c:∀ c,c∈s.cells→c.size=64
 q:∀ p,p∈s.q→p.1 < s.cells.length∧p.2.size=64
 ql:s.q.length≤1048576
theorem mS (c:ByteArray):c.data.toList.length=c.size:=Array.length_toList
theorem oU (c:ByteArray) (l:List ByteArray):flat (c::l)=c.data.toList++flat l:=rfl
theorem lW {l:List ByteArray} (h:∀ c,c∈l→c.size=64):(flat l).length=64*l.length:=by
 induction l with
 | nil=>rfl
 | cons c l ih =>
  rw [oU,XE,mS,h c (by simp),ih (fun c hc=>h c (by simp [hc])),XF];omega
theorem DG (a b:List ByteArray):flat (a++b)=flat a++flat b:=List.flatMap_append
theorem y8 {l:List ByteArray} (h:∀ c,c∈l→c.size=64) {k:Nat} {c:ByteArray} (hk:l[k]?=some c) :
  (flat l).take (64*k)=flat (l.take k)∧((flat l).drop (64*k)).take 64=c.data.toList∧(flat l).drop (64*k+64)=flat (l.drop (k+1)):=by
 obtain ⟨hlt,he⟩:=XH.1 hk;have hsplit:flat l=flat (l.take k)++(c.data.toList++flat (l.drop (k+1))):=by
  conv=>lhs;rw [← List.take_append_drop k l,List.drop_eq_getElem_cons hlt,he]
  rw [DG,oU]
 have h1:(flat (l.take k)).length=64*k:=by
  rw [lW (fun c hc=>h c (List.mem_of_mem_take hc)),XR];congr 1;omega
 have h2:c.data.toList.length=64:=by rw [mS];exact h c (XN hk)
 refine⟨?_,?_,?_⟩
 ·rw [hsplit,← h1,List.take_left]
 ·rw [hsplit,← h1,List.drop_left,← h2,List.take_left]
 rw [hsplit,← List.drop_drop,← h1,List.drop_left,← h2,List.drop_left]
def m8 (t c:ByteArray):ByteArray:=⟨(t.data.toList++c.data.toList.drop t.size).toArray⟩
theorem JF {t c:ByteArray} (ht:t.size≤c.size):(m8 t c).size=c.size:=by show (t.data.toList++c.data.toList.drop t.size).toArray.size=c.size;rw [List.size_toArray,XE,XS,mS,mS];omega
theorem JH {t c:ByteArray} (ht:t.size=64) (hc:c.size=64):m8 t c=t:=by unfold m8;rw [List.drop_of_length_le (by rw [mS];omega),List.append_nil]
theorem MG {l:List ByteArray} (h:∀ c,c∈l→c.size=64) {k:Nat} {c t:ByteArray} (hk:l[k]?=some c) (ht:t.size≤64) :
  (flat l).take (64*k)++(t.data.toList.take t.size++(flat l).drop (64*k+t.size))=flat (l.set k (m8 t c)):=by
 obtain ⟨hlt,he⟩:=XH.1 hk;obtain ⟨p1,p2,p3⟩:=y8 h hk;have hset:l.set k (m8 t c)=l.take k++(m8 t c::l.drop (k+1)):=by rw [List.set_eq_take_append_cons_drop,XC hlt]
 rw [hset,DG,oU,p1];congr 1;rw [show t.data.toList.take t.size=t.data.toList from List.take_of_length_le (by rw [mS];omega)];show _=(t.data.toList++c.data.toList.drop t.size)++flat (l.drop (k+1));rw [List.append_assoc];congr 1;have e1:(flat l).drop (64*k)=c.data.toList++flat (l.drop (k+1)):=by
  rw [← List.take_append_drop 64 ((flat l).drop (64*k)),p2,List.drop_drop,p3]
 have h2:c.data.toList.length=64:=by rw [mS];exact h c (XN hk)
 rw [← List.drop_drop,e1,List.drop_append_of_le_length (by omega)]
def eY (s:DSt) (k:Int):Bool:=decide (0≤k)&&decide (k < (s.cells.length:Int))
def jK (s:DSt) (k:Int):List AV:=if eY s k then[iv (64*k),iv (64*(k+1))] else[iv 0,iv 0]
theorem G7 (s:DSt) (k:Int) (hs:DOk s) :
  aK Tryz.prog 59 [.ref 1000 0 0 0,iv k] (a7 s) (fun r H'=>r=.tup [.agg (jK s k),bv (eY s k)]∧H'=a7 s):=by
 have hq:IntKind.i64.wrap (((64*s.cells.length:Nat):Int).tdiv 64)=(s.cells.length:Int):=by
  have h2:=hs.n2;have e:((64*s.cells.length:Nat):Int).tdiv 64=(s.cells.length:Int):=by
   rw [Int.tdiv_eq_ediv_of_nonneg (by omega)];omega
  rw [e,g9 (by omega) (by omega)]
 have h2:=hs.n2;refine Bd func59 rfl ntmps59<|Sr<|Dd (by exact cC (id:=4) rfl xE rfl rfl)<|Dd aS<|Zz<|Sq<|Sq ?_;refine dA (t:=21) (n:=18) (X:=!eY s k) ?_ ?_
 ·all_goals refine Dd aE ?_
  all_goals refine Dd (by exact cP rfl iN rfl rfl rfl rfl)<|Dm ?_
  all_goals refine Sp 8 (fun h8=>?_) fun h8=>?_
  all_goals try contradiction
  all_goals refine On aE<|On dG<|Dd gL<|Dm ?_
  all_goals refine Sp 12 (fun h12=>?_) fun h12=>?_
  all_goals try contradiction
  all_goals first|refine Fo<|Fo<|Fo<|Fo<|Fo<|Fo<|Fo<|Fo ?_|refine On aE<|On aE<|On e8<|On (dP BB)<|On (eA eD)<|On (by exact cV rfl bX rfl rfl rfl)<|On (by exact mF rfl rfl rfl (by decide) hq)<|On RE ?_
  all_goals refine Dd gL<|Zz ?_
  all_goals(exact⟨⟨_,rfl,by(rw [eY,Bool.eq_iff_iff];simp at h12 ⊢;omega)⟩,rfl,rfl,rfl⟩)
 refine Cn ?_ ?_<;>intro hc1
 ·have e:eY s k=false:=by simpa using hc1
  refine Sr<|Dd (LF R2)<|Uu (pE sizeOf96)<|Dd aS<|Zz<|aN ?_;refine fQ (H':=a7 s) (.inr rfl) rfl (iX rfl gX sizeOf96 rfl rfl rfl (by simp only [Zl];rfl) rfl) (aH rfl) (Fin.wk (by(simp;done)) (Hc (aF _ _ rfl rfl rfl)<|Hc (aC _ _)<|Hc (aL _ _ _)<|Hc (aJ _ _)<|trivial) ⟨rfl,rfl,rfl,rfl,trivial⟩) ?_;exact⟨by simp [jK,e],rfl⟩
 have e:eY s k=true:=by simpa using hc1
 obtain ⟨h0,h1⟩:0≤k∧k < (s.cells.length:Int):=by simpa [eY] using e
 have m1:IntKind.i64.wrap (k*64)=64*k:=by rw [g9 (by omega) (by omega)];omega
 have m2:IntKind.i64.wrap ((k+1)*64)=64*(k+1):=by rw [g9 (by omega) (by omega)];omega
 refine aG<|Sr<|Dd aE<|Dd (by exact gR rfl rfl rfl m1)<|Dd aE<|Dd kP<|Dd (by exact gR rfl rfl rfl m2)<|Dd (by exact GN rfl R2 rfl (rfl:_=some [iv (64*k),iv (64*(k+1))]))<|Uu (pE sizeOf96)<|Dd aS<|Zz<|aN ?_;refine fQ (H':=a7 s) (.inr rfl) rfl (iX rfl gX sizeOf96 rfl rfl rfl (by simp only [Zl];rfl) rfl) (aH rfl) (Fin.wk (by(simp;done)) (Hc (aF _ _ rfl rfl rfl)<|Hc (aC _ _)<|Hc (aL _ _ _)<|Hc (aJ _ _)<|trivial) ⟨rfl,rfl,rfl,rfl,trivial⟩) ?_;exact⟨by simp [jK,e],rfl⟩
def TT (s:DSt) (k:Int):Int:=if s.off then 22 else if eY s k then 0 else 1
def GA (s:DSt) (k:Int):List AV:=if s.off then[iv 0,iv 0] else jK s k
theorem J6 (s s':DSt) (H:aA):∀ id,((a7 s').get id).isSome=true→((a7 s).get id).isSome=true∨H.get id=none:=by intro id h;left;simp only [a7,aA.get] at h ⊢;cases e0:Nat.beq 1000 id<;>cases e1:Nat.beq 1001 id<;>cases e2:Nat.beq 1002 id<;>cases e3:Nat.beq 1003 id<;>simp [e0,e1,e2,e3] at h ⊢
theorem b8 {f:FuncId} {args:List AV} {s s':DSt} {r0:AV} (h:aK Tryz.prog f args (a7 s) (fun r H'=>r=r0∧H'=a7 s')) (H:aA) (hs:EJ H (a7 s)) (ha:∀ a∈args,Clo (a7 s) a) :
  aK Tryz.prog f args H (fun r H'=>r=r0∧H'=a7 s'++H):=h.frame hs.sub (rP s) ha (J6 s s' H)
theorem MR (s:DSt) (k:Int) (hs:DOk s) (e:eY s k=false):aK Tryz.prog 59 [.ref 1000 0 0 0,iv k] (a7 s) (fun r H'=>r=.tup [.agg [iv 0,iv 0],bv false]∧H'=a7 s):=by
 have h:=G7 s k hs;have es:jK s k=[iv 0,iv 0]:=by simp [jK,e]
 rw [es,e] at h;exact h
theorem I8 (s:DSt) (k:Int) (hs:DOk s) (e:eY s k=true):aK Tryz.prog 59 [.ref 1000 0 0 0,iv k] (a7 s) (fun r H'=>r=.tup [.agg [iv (64*k),iv (64*(k+1))],bv true]∧H'=a7 s):=by
 have h:=G7 s k hs;have es:jK s k=[iv (64*k),iv (64*(k+1))]:=by simp [jK,e]
 rw [es,e] at h;exact h
theorem OY (s:DSt) (k:Int) (hs:DOk s) :
  aK Tryz.prog 81 [.ref 1000 0 0 0,iv k] (a7 s) (fun r H'=>r=.tup [.agg (GA s k),iv (TT s k)]∧H'=a7 s):=by
 refine Bd func81 rfl ntmps81<|Sr<|Dd (by exact cC (id:=4) rfl xE rfl rfl)<|Dd aS<|Zz<|Sq<|Sq ?_;refine dA (t:=15) (n:=9) (X:=s.off) ?_ ?_
 ·all_goals refine Dd aE ?_
  all_goals refine Dd (by exact CS rfl iN rfl rfl rfl rfl)<|Dm ?_
  all_goals refine Sp 10 (fun h10=>?_) fun h10=>?_
  all_goals try contradiction
  all_goals refine On aE<|On e8<|On (dP sR)<|On (eA dC)<|Dd gL<|Zz ?_
  all_goals(exact⟨⟨_,rfl,by rfl⟩,rfl,rfl,rfl⟩)
 refine Cn ?_ ?_<;>intro hc1
 ·refine Sr<|Dd (LF R2)<|Uu (pE sizeOf96)<|Dd aS<|Zz<|aN ?_;refine fQ (H':=a7 s) (.inr rfl) rfl (iX rfl gX sizeOf96 rfl rfl rfl (by simp only [Zl];rfl) rfl) (aH rfl) (Fin.wk (by(simp;done)) (Hc (aF _ _ rfl rfl rfl)<|Hc (aC _ _)<|Hc (aL _ _ _)<|Hc (aJ _ _)<|trivial) ⟨rfl,rfl,rfl,rfl,trivial⟩) ?_;exact⟨by simp [GA,TT,hc1],rfl⟩
 cases e:eY s k
 ·refine aG<|Sr<|Dd aE<|Dd aE<|Dd (by exact aB rfl rfl call59 rfl (b8 (MR s k hs e) _ ⟨rfl,rfl,rfl,rfl,trivial⟩ (by simp;rfl)))<|Dd aE<|Dd eB<|Dd eB<|Dd (by exact cC (id:=6) rfl xE rfl rfl)<|Uu (pE sizeOf96)<|Dd aS<|Zz<|Sq<|Sr<|Dd aE<|Dd uF<|Zz ?_;refine Cn ?_ ?_<;>intro hc2
  ·refine Sr<|Dd (LF R2)<|Uu (pE sizeOf96)<|Dd aS<|Zz<|aN ?_;refine fQ (H':=a7 s) (.inr rfl) rfl (iX rfl gX sizeOf96 rfl rfl rfl (by simp only [Zl];rfl) rfl) (aH rfl) (Fin.wk (by(simp;done)) (Hc (aF _ _ rfl rfl rfl)<|Hc (aC _ _)<|Hc (aL _ _ _)<|Hc (aJ _ _)<|trivial) ⟨rfl,rfl,rfl,rfl,trivial⟩) ?_;exact⟨by simp [GA,TT,hc1,e,jK],rfl⟩
  cases hc2
 refine aG<|Sr<|Dd aE<|Dd aE<|Dd (by exact aB rfl rfl call59 rfl (b8 (I8 s k hs e) _ ⟨rfl,rfl,rfl,rfl,trivial⟩ (by simp;rfl)))<|Dd aE<|Dd eB<|Dd eB<|Dd (by exact cC (id:=6) rfl xE rfl rfl)<|Uu (pE sizeOf96)<|Dd aS<|Zz<|Sq<|Sr<|Dd aE<|Dd uF<|Zz ?_;refine Cn ?_ ?_<;>intro hc3
 ·cases hc3
 refine aG<|Sr<|Dd (by exact cU rfl gX sizeOf96 rfl rfl rfl rfl (by simp only [Zl];rfl) rfl)<|Uu (pE sizeOf96)<|Dd aS<|Zz<|aN ?_;refine fQ (H':=a7 s) (.inr rfl) rfl (iX rfl gX sizeOf96 rfl rfl rfl (by simp only [Zl];rfl) rfl) (aH rfl) (Fin.wk (by(simp;done)) (Hc (aF _ _ rfl rfl rfl)<|Hc (aC _ _)<|Hc (aL _ _ _)<|Hc (aJ _ _)<|trivial) ⟨rfl,rfl,rfl,rfl,trivial⟩) ?_;exact⟨by simp [GA,TT,hc1,e,jK],rfl⟩
end Go.Proofs.YtmkgeogoojcciaaGreatDoor
namespace Go.Abs
open Go.RowKit
theorem Rel.below {I:Nat→Prop} {ι:b9} {H:aA} {w w':World} (hb:Below w.heap.size w w') (hr:Rel I ι H w):Rel I ι H w'∧Step I ι H w I ι H w':=by
 have hk:∀ b,b < w.heap.size→w'.heap[b]?=w.heap[b]?:=hb.block;have hst:Step I ι H w I ι H w':=by
  refine⟨hb.os,hb.tape,hb.output,hb.size,fun a ha _=>?_,fun _ h=>h,fun _ h=>.inl h,fun _ h=>.inl h,fun b hb _=>hk b hb,fun _ o h=>⟨o,h,XJ _,fun _=>⟨rfl,rfl,fun _=>XJ _⟩⟩⟩;unfold World.frozen?;rw [hk _ ha]
 refine⟨⟨fun b h=>?_,fun j o hj=>?_,hr.inj,hst.glob hr⟩,hst⟩
 ·have:=hr.imm b h;have:=hb.size;omega
 exact(hr.obj j o hj).keep rfl (fun b c _ hb=>⟨hk b hb,fun h=>h⟩) (fun r _ a _ v hv=>hv.mono hr hst)
end Go.Abs
section
namespace Go.Proofs
open Go.RowKit Go.Sort Go.Shelf
def W0:Go.Shelf.Ren:=⟨fun|105=>130|212=>132|99=>159|165=>160|166=>86|170=>161|169=>88|263=>165|264=>166|206=>182|240=>116|241=>183|276=>143|277=>195|n=>n,fun|9=>9|3=>3|4=>4|20=>20|0=>0|46=>150|109=>170|5=>5|72=>138|76=>133|51=>191|146=>199|53=>93|148=>201|70=>136|37=>50|75=>132|127=>158|164=>179|80=>46|n=>n,fun|n=>n⟩
theorem W4:Go.Proofs.Lays.n105 Tryz.prog W0:={
  mixed:=by kernel_rfl
  f99:=Tryz.func159.trans (congrArg some (by kernel_rfl))
  f105:=Tryz.func130.trans (congrArg some (by kernel_rfl))
  f165:=Tryz.func160.trans (congrArg some (by kernel_rfl))
  f166:=Tryz.func86.trans (congrArg some (by kernel_rfl))
  f169:=Tryz.func88.trans (congrArg some (by kernel_rfl))
  f170:=Tryz.func161.trans (congrArg some (by kernel_rfl))
  f206:=Tryz.func182.trans (congrArg some (by kernel_rfl))
  f212:=Tryz.func132.trans (congrArg some (by kernel_rfl))
  f240:=Tryz.func116.trans (congrArg some (by kernel_rfl))
  f241:=Tryz.func183.trans (congrArg some (by kernel_rfl))
  f263:=Tryz.func165.trans (congrArg some (by kernel_rfl))
  f264:=Tryz.func166.trans (congrArg some (by kernel_rfl))
  f276:=Tryz.func143.trans (congrArg some (by kernel_rfl))
  f277:=Tryz.func195.trans (congrArg some (by kernel_rfl))
  t0:=uH
  a0:=PP
  z0:=LA
  v0:=xD
  t3:=bV
  a3:=aV
  z3:=Tryz.sizeOf3
  v3:=j8
  t4:=uG
  a4:=dC
  z4:=Tryz.sizeOf4
  v4:=xC
  t5:=bQ
  a5:=nB
  z5:=cH
  v5:=g8
  t9:=aI
  a9:=aU
  z9:=Tryz.sizeOf9
  v9:=dS
  t20:=K9
  a20:=V8
  z20:=U7
  v20:=PD
  t37:=bX
  a37:=eD
  z37:=Tryz.sizeOf50
  v37:=PB
  t46:=d6
  a46:=tG
  z46:=qG
  v46:=lG
  t51:=qE
  a51:=D9
  z51:=BS
  v51:=r6
  t53:=fR
  a53:=lK
  z53:=jZ
  v53:=jI
  t70:=gV
  a70:=EA
  z70:=TX
  v70:=Tryz.zeroValue136
  t72:=GF
  a72:=Tryz.isAgg138
  z72:=Tryz.sizeOf138
  v72:=Tryz.zeroValue138
  t75:=gW
  a75:=Tryz.isAgg132
  z75:=Tryz.sizeOf132
  v75:=Tryz.zeroValue132
  t76:=Tryz.underlying133
  a76:=Tryz.isAgg133
  z76:=Tryz.sizeOf133
  v76:=Tryz.zeroValue133
  t109:=Tryz.underlying170
  a109:=Tryz.isAgg170
  z109:=Tryz.sizeOf170
  v109:=Tryz.zeroValue170
  t127:=qF
  a127:=Tryz.isAgg158
  z127:=Tryz.sizeOf158
  v127:=Tryz.zeroValue158
  t146:=Tryz.underlying199
  a146:=Tryz.isAgg199
  z146:=Tryz.sizeOf199
  v146:=Tryz.zeroValue199
  t148:=Tryz.underlying201
  a148:=Tryz.isAgg201
  z148:=Tryz.sizeOf201
  v148:=Tryz.zeroValue201
  t164:=GE
  a164:=Tryz.isAgg179
  z164:=Tryz.sizeOf179
  v164:=Tryz.zeroValue179}
end Go.Proofs
namespace Go.Proofs.YtmkgeogoojcciaaGreatDoor
open Go.Proofs.Tryz
open Go.Abs Go.Lib
theorem QB:Builder.Extra Tryz.prog W0:=⟨⟨by kernel_rfl,by kernel_rfl⟩,bQ,nB,cH,g8,by kernel_rfl,by kernel_rfl,by kernel_rfl,by decide⟩
def EX (s:ByteArray) (n:Nat):ByteArray:=⟨(Lib.repeatL s.data.toList n).toArray⟩
theorem CG (s:ByteArray) (n:Nat) (hl:s.size*n≤140737488355328) (hn:n≤9223372036854775807) (H:aA):aK Tryz.prog 130 [sv s,iv (n:Int)] H (fun r H'=>r=sv (EX s n)∧H'=H):=by
 intro I ι w vs hr hvl hv;obtain ⟨v,u,rfl⟩:∃ v u,vs=#[v,u]:=by
  match vs,hvl with
  | ⟨[v,u]⟩,_=>exact⟨v,u,rfl⟩
 have e1:=(hv 0 v _ rfl rfl).str_inv;have e2:=(hv 1 u _ rfl rfl).int_inv;subst e1 e2;refine(Any.strings_Repeat W4 QB s n w hn hl).mono ?_;rintro e w' ⟨rfl,hb⟩;obtain ⟨k1,k2⟩:=Rel.below hb hr;exact⟨_,_,I,ι,_,rfl,⟨rfl,rfl⟩,.pv (.str _),k1,k2⟩
theorem j5 (n:Nat):(dD (n:Int)).data.toList=decDigits n:=by show (Lib.itoa (n:Int)).toArray.toList=_;rw [NI _ (Int.natCast_nonneg n),XO]
theorem vI (b:UInt8):∀ n,Lib.repeatL [b] n=List.replicate n b
 | 0=>rfl
 | n+1=>by rw [Lib.repeatL,vI b n,List.replicate_succ];rfl
theorem sG (b:UInt8) (n:Nat):(EX ⟨#[b]⟩ n).data.toList=List.replicate n b:=vI b n
theorem yH (b:UInt8) (n:Nat):(EX ⟨#[b]⟩ n).size=n:=by rw [← dB,sG,List.length_replicate]
def dg (n w:Nat):List UInt8:=List.replicate (w - (decDigits n).length) 48++decDigits n
theorem jP {n w:Nat} (h:(decDigits n).length≤w):(dg n w).length=w:=by rw [dg,XE,List.length_replicate];omega
theorem lY (n w:Nat) (hn:n < 1000000000000) (hw:w≤1000) (H:aA):aK Tryz.prog 102 [iv (n:Int),iv (w:Int)] H (fun r H'=>r=sv (ofL (dg n w))∧H'=H):=by
 refine Pu ?_;have hz:=j5 n;have hsz:(dD (n:Int)).size=(decDigits n).length:=by rw [← dB,hz]
 have hd21:(dD (n:Int)).size≤21:=pZ (by omega) (by omega);obtain ⟨k,hk⟩:∃ k,k=w - (decDigits n).length:=⟨_,rfl⟩;have hmx:max (0:Int) ((w:Int) - ((dD (n:Int)).size:Int))=((k:Nat):Int):=by rw [hsz,hk];omega
 have hks:(EX ⟨#[48]⟩ k).size=k:=yH 48 k;have e:EX ⟨#[48]⟩ k++dD (n:Int)=ofL (dg n w):=VX (by
  rw [bA,ByteArray.data_append,Array.toList_append,sG,hz,dg,hk])
 rw [← e];clear e;exact Bd func102 rfl ntmps102<|Sr<|Dd aS<|Zz<|Sr<|Dd aE<|Dd (by exact aB rfl rfl nD rfl (mK (n:Int) (by omega) (by omega) _))<|Dd aS<|Zz<|Sr<|Dd aE<|Dd aE<|Dd (xX aI)<|Dd (by exact dO rfl rfl rfl (by exact g9 (by omega) (by omega)))<|Dd (by exact AK rfl rfl rfl hmx)<|Dd (by exact aB rfl rfl call130 rfl (CG ⟨#[48]⟩ k (by show 1*k≤_;omega) (by omega) _))<|Dd aE<|Dd (by exact iA rfl rfl rfl (by omega) rfl)<|Dd aS<|Zz<|aN<|Rt<|Qq
def zB (n:Nat):List UInt8:=List.replicate n 0
theorem mR (H:aA):aK Tryz.prog 43 [] H (fun r H'=>r=sv (ofL (zB 64))∧H'=H):=by
 refine Pu ?_;have hb:((List.replicate 64 [AV.pv (.int .u8 0)]).drop 0).take 64=bG (zB 64):=by
  rw [List.drop_zero,List.take_of_length_le (by simp),bG,zB,List.map_replicate];rfl
 refine Bd func43 rfl ntmps43<|Sr<|Dd aS<|Zz<|Sr<|Dd (by exact jC (id:=901) rfl CD UW VD rfl rfl rfl (by decide) (by decide) rfl rfl (by decide) rfl)<|Dd (by exact gN rfl bX bQ aI rfl rfl rfl rfl hb rfl)<|Dd aS<|Zz<|aN ?_;refine a8 (H':=[]) (.inr rfl) rfl (aH rfl) (Fin.wk (r:=sv (ofL (zB 64))) (by simp) trivial trivial) ?_;exact Qq
def EH (l:List UInt8):List UInt8:=FQ (DJ (J9 l.length) l)
theorem N6 (l:List UInt8):N7 (ofL l)=ofL (EH l):=by rw [N7,bA,bS];rfl
theorem qM (l:List UInt8):(EH l).length=16:=by simp [EH,FQ]
def oY (c:List UInt8):List UInt8:=c++zB (48 - c.length)
theorem vP {c:List UInt8} (h:c.length≤48):(oY c).length=48:=by rw [oY,XE,zB,List.length_replicate];omega
def mW (place:Nat) (c:List UInt8):List UInt8:=EH (dg place 8++oY c)++oY c
theorem yF {place:Nat} {c:List UInt8} (h:c.length≤48):(mW place c).length=64:=by rw [mW,XE,qM,vP h]
theorem oD (n w:Nat) (hn:n < 1000000000000):(dg n w).length≤w+21:=by
 have hz:=j5 n;have hsz:(dD (n:Int)).size=(decDigits n).length:=by rw [← dB,hz]
 have hd21:(dD (n:Int)).size≤21:=pZ (by omega) (by omega);rw [dg,XE,List.length_replicate];omega
theorem q9 (a b:List UInt8):ofL a++ofL b=ofL (a++b):=VX (by
 rw [bA,ByteArray.data_append,Array.toList_append,bA,bA])
theorem vF (place:Nat) (c:List UInt8) (hp:place < 1000000000000) (hc:c.length≤48) (H:aA):aK Tryz.prog 101 [iv (place:Int),sv (ofL c)] H (fun r H'=>r=sv (ofL (mW place c))∧H'=H):=by
 refine Pu ?_;have hcs:(ofL c).size=c.length:=bS c;have hks:(EX ⟨#[0]⟩ (48 - c.length)).size=48 - c.length:=yH 0 _;have hpad:ofL c++EX ⟨#[0]⟩ (48 - c.length)=ofL (oY c):=VX (by
  rw [bA,ByteArray.data_append,Array.toList_append,sG,bA];rfl)
 have hpl:(ofL (oY c)).size=48:=by rw [bS,vP hc]
 have hdl:(ofL (dg place 8)).size≤29:=by rw [bS];exact oD place 8 hp
 have hs16:(ofL (EH (dg place 8++oY c))).size=16:=by rw [bS,qM]
 have hsub:IntKind.i64.wrap (48 - ((ofL c).size:Int))=((48 - c.length:Nat):Int):=by rw [hcs,g9 (by omega) (by omega)];omega
 have hsum:∀ H,aK Tryz.prog 131 [sv (ofL (dg place 8++oY c))] H (fun r H'=>r=sv (ofL (EH (dg place 8++oY c)))∧H'=H):=fun H=>by
  have:=UI (ofL (dg place 8++oY c)) H (by rw [bS,XE,vP hc];have:=oD place 8 hp;omega)
  rwa [N6] at this
 have e1:ofL (dg place 8)++ofL (oY c)=ofL (dg place 8++oY c):=q9 _ _;have e2:ofL (EH (dg place 8++oY c))++ofL (oY c)=ofL (mW place c):=q9 _ _;exact Bd func101 rfl ntmps101<|Sr<|Dd aS<|Zz<|Sr<|Dd aE<|Dd aE<|Dd (xX aI)<|Dd (by exact dO rfl rfl rfl hsub)<|Dd (by exact aB rfl rfl call130 rfl (CG ⟨#[0]⟩ (48 - c.length) (by show 1*_≤_;omega) (by omega) _))<|Dd (by exact iA rfl rfl rfl (by omega) hpad)<|Dd aS<|Zz<|Sr<|Dd aE<|Dd (by exact aB rfl rfl w6 rfl (lY place 8 hp (by omega) _))<|Dd aE<|Dd (by exact iA rfl rfl rfl (by omega) e1)<|Dd (by exact aB rfl rfl call131 rfl (hsum _))<|Dd aE<|Dd (by exact iA rfl rfl rfl (by omega) e2)<|Dd aS<|Zz<|aN<|Rt<|Qq
end Go.Proofs.YtmkgeogoojcciaaGreatDoor
end
namespace Go.Abs
open Go.Proofs
def SO (v:Value):Prop:=∃ t p,v=.iface t p
abbrev J3:PV:=.sat SO
def oH (s:ByteArray):Int×PV:=match Lib.atoiAll s.data.toList with
 | .ok v=>(v,FK)
 | .range=>(Lib.atoiSat s.data.toList,J3)
 | _=>(0,J3)
theorem atoi_c {P:Program} {ρ:Shelf.Ren} (L:LaysC.n172 P ρ) {G1 G2:Nat} (hg1:(G1,GV.face)∈A7) (hn1:P.globalNamed "strconv.ErrSyntax" = some G1) (hg2:(G2,GV.face)∈A7) (hn2:P.globalNamed "strconv.ErrRange" = some G2) (s:ByteArray) (hs:s.size < 1099511627776) (H:aA) :
  aK P (ρ.f 172) [.pv (.str s)] H (fun r H'=>r=.tup [.pv (.int .i64 (oH s).1),.pv (oH s).2]∧H'=H):=by
 intro I ι w vs hr hvl hv;obtain ⟨v,rfl⟩:∃ v,vs=#[v]:=by
  match vs,hvl with
  | ⟨[v]⟩,_=>exact⟨v,rfl⟩
 have e1:=(hv 0 v _ rfl rfl).str_inv;subst e1;have hvar:∀ (name:String) (G:Nat),(G,GV.face)∈A7→P.globalNamed name=some G→∃ t p,w.var? P name=some #[.iface t p]:=fun name G hg hn=>by
  obtain ⟨_,cs,t,f,h2,q,p,h3⟩:=hr.glob _ hg;subst h3;exact⟨q,p,by simp only [World.var?,hn,Option.bind_some,h2]⟩
 have fin:∀ (n:Int) (x:Value) (a:PV) (w':World),RowKit.Below w.heap.size w w'→(∀ I H,VRel w' I ι H x (.pv a))→∃ r H' I' ι' v',(Ending.returned (.tuple #[.int .i64 n,x]))=.returned v'∧(r=.tup [.pv (.int .i64 n),.pv a]∧H'=H)∧VRel w' I' ι' H' v' r∧Rel I' ι' H' w'∧Step I ι H w I' ι' H' w':=fun n x a w' hb hx=>by
  obtain ⟨k1,k2⟩:=Rel.below hb hr;refine⟨_,_,I,ι,_,rfl,⟨rfl,rfl⟩,.tup rfl fun i v b h1 h2=>?_,k1,k2⟩
  match i,h1,h2 with
  | 0,h1,h2=>cases h1;cases h2;exact .pv (.int _ _)
  | 1,h1,h2=>cases h1;cases h2;exact hx _ _
  | i+2,h1,h2=>simp at h1
 rw [oH];cases h:Lib.atoiAll s.data.toList with
 | ok n =>
  refine(Any.strconv_Atoi_ok L s (by omega) n h w).mono ?_;rintro e w' ⟨rfl,hw⟩;have hb:RowKit.Below w.heap.size w w':=by
   rcases hw with rfl|⟨t,rfl⟩
   ·exact RowKit.Below.refl _ _
   exact Lib.bytesWorld_below w _ t
  exact fin n .nilIface FK w' hb (fun _ _=>.pv (.sat rfl rfl))
 | range =>
  obtain ⟨t,p,hq⟩:=hvar _ G2 hg2 hn2;refine(Any.strconv_Atoi_range_var L s (by omega) h t p w hq).mono ?_;rintro e w' ⟨N,rfl,_,_,hb⟩;exact fin _ _ J3 w' hb (fun _ _=>.pv (.sat rfl ⟨_,_,rfl⟩))
 | _ =>
  obtain ⟨t,p,hq⟩:=hvar _ G1 hg1 hn1;refine(Any.strconv_Atoi_syntax_var L s (by omega) h t p w hq).mono ?_;rintro e w' ⟨N,rfl,_,_,hb⟩;exact fin 0 _ J3 w' hb (fun _ _=>.pv (.sat rfl ⟨_,_,rfl⟩))
end Go.Abs
section
namespace Go.Proofs
open Go.RowKit Go.Sort Go.Shelf
def W3:Go.Shelf.Ren:=⟨fun|172=>82|244=>114|245=>115|247=>138|279=>139|280=>140|281=>141|282=>142|287=>168|316=>169|171=>98|205=>170|321=>184|322=>185|243=>128|246=>158|283=>178|284=>179|285=>180|286=>181|129=>157|317=>191|318=>192|319=>193|320=>194|337=>198|338=>199|n=>n,fun|9=>9|3=>3|75=>132|76=>133|4=>4|5=>5|167=>173|37=>50|0=>0|85=>174|2=>2|168=>176|53=>93|175=>203|46=>150|210=>206|127=>158|145=>222|143=>220|21=>21|171=>215|173=>217|212=>229|51=>191|20=>20|213=>230|232=>234|233=>235|80=>46|n=>n,fun|15=>0|16=>1|17=>3|18=>4|19=>5|n=>n⟩
theorem W7:Go.Proofs.LaysC.n172 Tryz.prog W3:={
  mixed:=by kernel_rfl
  f129:=Tryz.func157.trans (congrArg some (by kernel_rfl))
  f171:=Tryz.func98.trans (congrArg some (by kernel_rfl))
  f172:=Tryz.func82.trans (congrArg some (by kernel_rfl))
  f205:=Tryz.func170.trans (congrArg some (by kernel_rfl))
  f243:=Tryz.func128.trans (congrArg some (by kernel_rfl))
  f244:=Tryz.func114.trans (congrArg some (by kernel_rfl))
  f245:=Tryz.func115.trans (congrArg some (by kernel_rfl))
  f246:=Tryz.func158.trans (congrArg some (by kernel_rfl))
  f247:=Tryz.func138.trans (congrArg some (by kernel_rfl))
  f279:=Tryz.func139.trans (congrArg some (by kernel_rfl))
  f280:=Tryz.func140.trans (congrArg some (by kernel_rfl))
  f281:=Tryz.func141.trans (congrArg some (by kernel_rfl))
  f282:=Tryz.func142.trans (congrArg some (by kernel_rfl))
  f283:=Tryz.func178.trans (congrArg some (by kernel_rfl))
  f284:=Tryz.func179.trans (congrArg some (by kernel_rfl))
  f285:=Tryz.func180.trans (congrArg some (by kernel_rfl))
  f286:=Tryz.func181.trans (congrArg some (by kernel_rfl))
  f287:=Tryz.func168.trans (congrArg some (by kernel_rfl))
  f316:=Tryz.func169.trans (congrArg some (by kernel_rfl))
  f317:=Tryz.func191.trans (congrArg some (by kernel_rfl))
  f318:=Tryz.func192.trans (congrArg some (by kernel_rfl))
  f319:=Tryz.func193.trans (congrArg some (by kernel_rfl))
  f320:=Tryz.func194.trans (congrArg some (by kernel_rfl))
  f321:=Tryz.func184.trans (congrArg some (by kernel_rfl))
  f322:=Tryz.func185.trans (congrArg some (by kernel_rfl))
  f337:=Tryz.func198.trans (congrArg some (by kernel_rfl))
  f338:=Tryz.func199.trans (congrArg some (by kernel_rfl))
  t0:=uH
  a0:=PP
  z0:=LA
  v0:=xD
  t2:=Tryz.underlying2
  a2:=Tryz.isAgg2
  z2:=Tryz.sizeOf2
  v2:=Tryz.zeroValue2
  t3:=bV
  a3:=aV
  z3:=Tryz.sizeOf3
  v3:=j8
  t4:=uG
  a4:=dC
  z4:=Tryz.sizeOf4
  v4:=xC
  t5:=bQ
  a5:=nB
  z5:=cH
  v5:=g8
  t9:=aI
  a9:=aU
  z9:=Tryz.sizeOf9
  v9:=dS
  t20:=K9
  a20:=V8
  z20:=U7
  v20:=PD
  t21:=Tryz.underlying21
  a21:=Tryz.isAgg21
  z21:=Tryz.sizeOf21
  v21:=Tryz.zeroValue21
  t37:=bX
  a37:=eD
  z37:=Tryz.sizeOf50
  v37:=PB
  t46:=d6
  a46:=tG
  z46:=qG
  v46:=lG
  t51:=qE
  a51:=D9
  z51:=BS
  v51:=r6
  t53:=fR
  a53:=lK
  z53:=jZ
  v53:=jI
  t75:=gW
  a75:=Tryz.isAgg132
  z75:=Tryz.sizeOf132
  v75:=Tryz.zeroValue132
  t76:=Tryz.underlying133
  a76:=Tryz.isAgg133
  z76:=Tryz.sizeOf133
  v76:=Tryz.zeroValue133
  t85:=Tryz.underlying174
  a85:=Tryz.isAgg174
  z85:=Tryz.sizeOf174
  v85:=Tryz.zeroValue174
  t127:=qF
  a127:=Tryz.isAgg158
  z127:=Tryz.sizeOf158
  v127:=Tryz.zeroValue158
  t143:=Tryz.underlying220
  a143:=Tryz.isAgg220
  z143:=Tryz.sizeOf220
  v143:=Tryz.zeroValue220
  t145:=Tryz.underlying222
  a145:=Tryz.isAgg222
  z145:=Tryz.sizeOf222
  v145:=Tryz.zeroValue222
  t167:=Tryz.underlying173
  a167:=Tryz.isAgg173
  z167:=Tryz.sizeOf173
  v167:=Tryz.zeroValue173
  t168:=Tryz.underlying176
  a168:=Tryz.isAgg176
  z168:=Tryz.sizeOf176
  v168:=Tryz.zeroValue176
  t171:=Tryz.underlying215
  a171:=Tryz.isAgg215
  z171:=Tryz.sizeOf215
  v171:=Tryz.zeroValue215
  t173:=Tryz.underlying217
  a173:=Tryz.isAgg217
  z173:=Tryz.sizeOf217
  v173:=Tryz.zeroValue217
  t175:=Tryz.underlying203
  a175:=Tryz.isAgg203
  z175:=Tryz.sizeOf203
  v175:=Tryz.zeroValue203
  t210:=Tryz.underlying206
  a210:=Tryz.isAgg206
  z210:=Tryz.sizeOf206
  v210:=Tryz.zeroValue206
  t212:=Tryz.underlying229
  a212:=Tryz.isAgg229
  z212:=Tryz.sizeOf229
  v212:=Tryz.zeroValue229
  t213:=Tryz.underlying230
  a213:=Tryz.isAgg230
  z213:=Tryz.sizeOf230
  t232:=Tryz.underlying234
  a232:=Tryz.isAgg234
  z232:=Tryz.sizeOf234
  v232:=Tryz.zeroValue234
  t233:=Tryz.underlying235
  a233:=Tryz.isAgg235
  z233:=Tryz.sizeOf235
  v233:=Tryz.zeroValue235
  g15:=by kernel_rfl
  g16:=by kernel_rfl
  g17:=by kernel_rfl
  g18:=by kernel_rfl
  g19:=by kernel_rfl
  t80:=Tryz.underlying46
  a80:=Tryz.isAgg46
  z80:=Tryz.sizeOf46
  v80:=Tryz.zeroValue46
  i0:=by kernel_rfl
  i2:=by kernel_rfl
  i3:=by kernel_rfl
  i4:=by kernel_rfl
  i5:=by kernel_rfl
  i9:=by kernel_rfl
  i20:=by kernel_rfl
  i21:=by kernel_rfl
  i37:=by kernel_rfl
  i46:=by kernel_rfl
  i51:=by kernel_rfl
  i53:=by kernel_rfl
  i75:=by kernel_rfl
  i76:=by kernel_rfl
  i80:=by kernel_rfl
  i85:=by kernel_rfl
  i127:=by kernel_rfl
  i143:=by kernel_rfl
  i145:=by kernel_rfl
  i167:=by kernel_rfl
  i168:=by kernel_rfl
  i171:=by kernel_rfl
  i173:=by kernel_rfl
  i175:=by kernel_rfl
  i210:=by kernel_rfl
  i212:=by kernel_rfl
  i232:=by kernel_rfl
  i233:=by kernel_rfl
  m15:=by kernel_rfl
  m16:=by kernel_rfl
  m17:=by kernel_rfl
  m18:=by kernel_rfl
  m19:=by kernel_rfl
  c0:=by kernel_rfl
  c2:=by kernel_rfl
  c3:=by kernel_rfl
  c4:=by kernel_rfl
  c5:=by kernel_rfl
  c9:=by kernel_rfl
  c20:=by kernel_rfl
  c21:=by kernel_rfl
  c37:=by kernel_rfl
  c46:=by kernel_rfl
  c51:=by kernel_rfl
  c53:=by kernel_rfl
  c75:=by kernel_rfl
  c76:=by kernel_rfl
  c80:=by kernel_rfl
  c85:=by kernel_rfl
  c127:=by kernel_rfl
  c143:=by kernel_rfl
  c145:=by kernel_rfl
  c167:=by kernel_rfl
  c168:=by kernel_rfl
  c171:=by kernel_rfl
  c173:=by kernel_rfl
  c175:=by kernel_rfl
  c210:=by kernel_rfl
  c212:=by kernel_rfl
  c213:=by kernel_rfl
  c232:=by kernel_rfl
  c233:=by kernel_rfl}
end Go.Proofs
namespace Go.Proofs.YtmkgeogoojcciaaGreatDoor
open Go.Proofs.Tryz
open Go.Abs
theorem R4 (s:ByteArray) (hs:s.size < 1099511627776) (H:aA):aK Tryz.prog 82 [sv s] H (fun r H'=>r=.tup [iv (oH s).1,.pv (oH s).2]∧H'=H) :=Go.Abs.atoi_c W7 (G1:=0) (G2:=1) (by unfold A7;exact .tail _ (.tail _ (.head _))) (by kernel_rfl) (by unfold A7;exact .tail _ (.head _)) (by kernel_rfl) s hs H
end Go.Proofs.YtmkgeogoojcciaaGreatDoor
end
namespace Go.Abs
open Go.Proofs
section
section
variable {P:Program} {N:Nat} {o:Oper} {E:bI} {H:aA} {t t':TypeId} {x:Operand}
theorem FA (ho:o.op=.binOp .neq t x (.const .nilIface) t') (ht:P.underlying t=some (.interface (P.methodsAt t))) (hx:aP E x=some (.pv FK)):bW P N o E H (.pv (.bool false)) H :=.of_run fun a w I ι _ he=>⟨.bool false,by
  have e1:a.eval x=.nilIface:=(aD he hx).sat_inv;have e2:a.eval (.const .nilIface)=.nilIface:=rfl;simp only [execOp,ho,e1,e2,eqGuard,Sem.run_bind,Sem.run_pure,Result.andThen_ok,run_neq_nil_nil _ _ ht,Bool.or_true,if_true,Bool.not_true,Bool.false_eq_true,if_false],.pv (.bool _)⟩
theorem FB (ho:o.op=.binOp .neq t x (.const .nilIface) t') (ht:P.underlying t=some (.interface (P.methodsAt t))) (hx:aP E x=some (.pv J3)):bW P N o E H (.pv (.bool true)) H :=.of_run fun a w I ι _ he=>⟨.bool true,by
  obtain ⟨q,p,e1⟩:SO (a.eval x):=(aD he hx).sat_inv;have e2:a.eval (.const .nilIface)=.nilIface:=rfl;simp only [execOp,ho,e1,e2,eqGuard,Sem.run_bind,Sem.run_pure,Result.andThen_ok,run_neq_held_nil _ _ _ _ ht];rfl,.pv (.bool _)⟩
end
end
end Go.Abs
namespace Go.Proofs.YtmkgeogoojcciaaGreatDoor
open Go.Proofs.Tryz
open Go.Abs
abbrev CB (n:Nat):List AV:=[iv ((64*n:Nat):Int),iv ((64*(n+1):Nat):Int)]
theorem L9 (n:Nat):[iv (64*(n:Int)),iv (64*((n:Int)+1))]=CB n:=by
 have e1:64*(n:Int)=((64*n:Nat):Int):=by omega
 have e2:64*((n:Int)+1)=((64*(n+1):Nat):Int):=by omega
 rw [e1,e2]
theorem iW {s:DSt} {n:Nat}:eY s (n:Int)=decide (n < s.cells.length):=by unfold eY;rw [Bool.eq_iff_iff];simp
theorem nK (s:DSt) (k:Int):eY s k=false∨∃ n:Nat,k=(n:Int)∧n < s.cells.length:=by
 cases h:eY s k with
 | false=>exact .inl rfl
 | true =>
  obtain ⟨h0,h1⟩:0≤k∧k < (s.cells.length:Int):=by simpa [eY] using h
  exact .inr ⟨k.toNat,by omega,by omega⟩
theorem OX (s:DSt) (k:Int) (hs:DOk s) (e:s.off=true):aK Tryz.prog 81 [.ref 1000 0 0 0,iv k] (a7 s) (fun r H'=>r=.tup [.agg [iv 0,iv 0],iv 22]∧H'=a7 s):=by have h:=OY s k hs;simp only [GA,TT,e,if_true] at h;exact h
theorem SQ (s:DSt) (k:Int) (hs:DOk s) (e:s.off=false) (e2:eY s k=false):aK Tryz.prog 81 [.ref 1000 0 0 0,iv k] (a7 s) (fun r H'=>r=.tup [.agg [iv 0,iv 0],iv 1]∧H'=a7 s):=by have h:=OY s k hs;simp only [GA,TT,e,e2,jK,Bool.false_eq_true,if_false] at h;exact h
theorem OW (s:DSt) (n:Nat) (hs:DOk s) (e:s.off=false) (e2:n < s.cells.length):aK Tryz.prog 81 [.ref 1000 0 0 0,iv (n:Int)] (a7 s) (fun r H'=>r=.tup [.agg (CB n),iv 0]∧H'=a7 s):=by
 have h:=OY s n hs;have e3:eY s (n:Int)=true:=by rw [iW];simpa using e2
 simp only [GA,TT,e,e3,jK,Bool.false_eq_true,if_false,if_true,L9] at h;exact h
theorem JG (s:DSt) (hs:DOk s) {n:Nat} {c t:ByteArray} (hc:s.cells[n]?=some c) (ht:t.size≤64) :
  (bG (flat s.cells)).take (64*n)++(bG (t.data.toList.take t.size)++(bG (flat s.cells)).drop (64*n+t.size))=bG (flat (s.cells.set n (m8 t c))):=by
 rw [← MG hs.c hc ht];simp only [bG,List.map_append,List.map_take,List.map_drop]
abbrev dH (r:List AV) (l:List ByteArray) (s:DSt):aA:=[(1000,⟨0,4,80,[r]⟩),(1001,⟨0,1,5,bG (flat l)⟩),(1002,⟨s.gq,3,103,tM s.q⟩),(1003,⟨s.ga,3,100,nA s.arm⟩)]
theorem SD (s:DSt) (n:Nat) (c t:ByteArray) (hs:DOk s) (hc:s.cells[n]?=some c) (ht:t.size≤64) :
  aK Tryz.prog 61 [.ref 1000 0 0 0,.agg (CB n),sv t] (a7 s) (fun r H'=>r=.tup []∧H'=a7 {s with cells:=s.cells.set n (m8 t c)}):=by
 have hlt:=(XH.1 hc).1;have hfl:=lW hs.c;have hmin:min t.size (64*(n+1) - 64*n)=t.size:=by omega
 have hrows:(bG (flat s.cells)).take (0+64*n)++(bG (t.data.toList.take t.size)++(bG (flat s.cells)).drop (0+64*n+t.size))=bG (flat (s.cells.set n (m8 t c))):=by
  rw [XV];exact JG s hs hc ht
 have hlen:(s.cells.set n (m8 t c)).length=s.cells.length:=List.length_set;refine Bd func61 rfl ntmps61<|Sr<|Dd (by exact fP (id:=4) rfl rfl rfl rfl rfl)<|Zz<|bK follows<|Cr [1000] (fun _ _=>aE)<|Cr [1000] (fun H1 hH=>by exact bM rfl rfl ((hH _ rfl).trans rfl) rfl)<|Cr [1000] (fun _ h=>fh BB h)<|Cr [1000] (fun _ h=>lh eD h)<|Cr [4] (fun _ h=>fh BA h)<|Cr [4] (fun _ h=>lh aV h)<|Cr [4] (fun _ h=>fh NV h)<|Cr [4] (fun _ h=>lh aV h)<|Cr [1001] (fun H1 hH=>by exact fA (l:=(64*n)) (h:=(64*(n+1))) rfl CD rfl ((hH _ rfl).trans rfl) rfl rfl rfl rfl (by omega) (by omega) rfl rfl)<|Cr [] (fun _ _=>aE)<|Cp [1001] (fun H1 hH=>by exact EC rfl CD rfl ((hH _ rfl).trans rfl) rfl rfl rfl hmin hrows)<|cM<|Kr ?_;refine iQ (H':=dH (oF s) (s.cells.set n (m8 t c)) s) (by exact .inl rfl) rfl  (Fin.wk (by(simp;done)) (Hc (aF _ _ rfl rfl rfl)<|Hc (aC _ _)<|Hc (aL _ _ _)<|Hc (aJ _ _)<|trivial) ⟨rfl,rfl,rfl,rfl,trivial⟩) ?_;exact⟨rfl,by simp only [a7,dH,oF,hlen]⟩
theorem yD {α:Type} {l:List α} {i:Nat} {a:α} (h:l[i]?=some a):l.take (i+1)=l.take i++[a]:=by rw [List.take_add_one,h];rfl
def cK (cells:List ByteArray) (l:List (Nat×ByteArray)):List ByteArray:=l.foldl (fun cs p=>cs.set p.1 p.2) cells
theorem fX (l:List (Nat×ByteArray)):∀ cells:List ByteArray,(cK cells l).length=cells.length:=by
 induction l with
 | nil=>intro cells;rfl
 | cons p l ih=>intro cells;show (cK (cells.set p.1 p.2) l).length=_;rw [ih,List.length_set]
theorem CK (cells:List ByteArray) (l:List (Nat×ByteArray)) (p:Nat×ByteArray):cK cells (l++[p])=(cK cells l).set p.1 p.2:=by unfold cK;rw [List.foldl_append];rfl
theorem tO {l:List (Nat×ByteArray)} (hl:∀ p,p∈l→p.2.size=64):∀ {cells:List ByteArray},(∀ c,c∈cells→c.size=64)→∀ c,c∈cK cells l→c.size=64:=by
 induction l with
 | nil=>intro cells h;exact h
 | cons p l ih =>
  intro cells h;exact ih (fun p hp=>hl p (by simp [hp])) (fun c hc=>by
   rcases List.mem_or_eq_of_mem_set hc with e|e
   ·exact h c e
   rw [e];exact hl p (by simp))
theorem E5 {s:DSt} (hs:DOk s) (m:Nat):DOk {s with cells:=cK s.cells (s.q.take m)} :=⟨by simpa [fX] using hs.n1,by simpa [fX] using hs.n2,tO (fun p hp=>(hs.q p (List.mem_of_mem_take hp)).2) hs.c,fun p hp=>by simpa [fX] using hs.q p hp,hs.ql⟩
theorem S2 (s:DSt) (n:Nat) (t:ByteArray) (hs:DOk s) (hn:n < s.cells.length) (ht:t.size=64) :
  aK Tryz.prog 61 [.ref 1000 0 0 0,.agg (CB n),sv t] (a7 s) (fun r H'=>r=.tup []∧H'=a7 {s with cells:=s.cells.set n t}):=by
 obtain ⟨c,hc⟩:=aY hn;have h:=SD s n c t hs hc (by omega);rw [JH ht (hs.c c (XN hc))] at h;exact h
theorem CE (s:DSt) (m:Nat) (hs:DOk s) (hm:m≤s.q.length) :
  aK Tryz.prog 60 [.ref 1000 0 0 0,.osl 1002 s.gq 0 m] (a7 s) (fun r H'=>r=.tup []∧H'=a7 {s with cells:=cK s.cells (s.q.take m)}):=by
 have hql:=hs.ql;refine Bd func60 rfl ntmps60<|Sr<|Dd aE<|Dd (by exact cV rfl lI rfl rfl rfl)<|Dd aE<|Zz<|aM ?_;refine bB (σ:=Nat) (fun i=>([(0,.ref 1000 0 0 0),(6,.osl 1002 s.gq 0 m),(7,iv (m:Int)),(8,iv (i:Int))],a7 {s with cells:=cK s.cells (s.q.take i)})) (fun i=>i≤m) (fun i=>m - i) 0 (by omega) ?_ ?_
 ·exact(bY.wk (Ea<|Ea<|Eb<|Eb<|trivial) (Hc (aF _ _ rfl rfl rfl)<|Hc (aC _ _)<|Hc (aL _ _ _)<|Hc (aJ _ _)<|trivial) ⟨rfl,rfl,rfl,rfl,trivial⟩)
 rintro i hi;refine Sr<|Dd dG<|Zz<|Sq ?_;refine Cn ?_ ?_<;>intro hc1
 ·have hlt:i < m:=by have:=W9 hc1;omega
  obtain ⟨p,hp⟩:=aY (show i < s.q.length by omega);have hpe:(tM s.q)[0+i]?=some ((jY p).map .pv):=by rw [XV,XX,hp];rfl
  obtain ⟨hp1,hp2⟩:=hs.q p (XN hp);have hset:=S2 {s with cells:=cK s.cells (s.q.take i)} p.1 p.2 (E5 hs i) (by simpa [fX] using hp1) hp2;have hn:cK s.cells (s.q.take (i+1))=(cK s.cells (s.q.take i)).set p.1 p.2:=by rw [yD hp,CK]
  rw [← hn] at hset;refine aG<|Sq<|aM<|Sr<|Dd (by exact dU rfl EP rfl rfl rfl rfl rfl (by omega) (by exact XO _) (by omega) rfl)<|Dd (by exact cU rfl isAgg103 qH rfl rfl rfl hpe (by simp only [Zl,jY];rfl) rfl)<|Dd (by exact cC (id:=5) rfl SA rfl rfl)<|Uu (pE qH)<|Zz<|Rg<|Dd aE<|Dd (dP BD)<|Dd (Q0 gX sizeOf96)<|Dd (dP BC)<|Dd (eA aU)<|Dd (by exact aB rfl rfl call61 rfl (b8 hset _ ⟨rfl,rfl,rfl,rfl,trivial⟩ (by(simp;rfl))))<|Zz<|Rg<|Dd kP<|Dd aE<|Zz ?_;refine⟨i+1,by omega,by omega,?_⟩;exact(bY.wk (Ea<|Ea<|Eb<|Eb<|trivial) (Hc (aF _ _ rfl rfl rfl)<|Hc (aC _ _)<|Hc (aL _ _ _)<|Hc (aJ _ _)<|trivial) ⟨rfl,rfl,rfl,rfl,trivial⟩)
 have hge:i=m:=by have:¬ _:=XA hc1;omega
 subst hge;refine a6 ?_;refine iQ (H':=a7 {s with cells:=cK s.cells (s.q.take i)}) (by exact .inl rfl) rfl  (Fin.wk (by(simp;done)) (Hc (aF _ _ rfl rfl rfl)<|Hc (aC _ _)<|Hc (aL _ _ _)<|Hc (aJ _ _)<|trivial) ⟨rfl,rfl,rfl,rfl,trivial⟩) ?_;exact Qq
def BH:Arm→Arm
 | .never=>.never
 | .off a w b=>.off a w b
 | .on a w b=>.off a w b
theorem FX (a:Arm):nA (BH a)=nA a:=by cases a<;>rfl
theorem FW (g:Nat) (a:Arm):O0 g (BH a)=.pv .nilp:=by cases a<;>rfl
def B3 (cells:List ByteArray) (b:Int):Option (Nat×ByteArray)→List ByteArray
 | none=>cells
 | some p=>if 0 < b then cells.set p.1 (m8 (p.2.extract 0 (min b 64).toNat) ((cells[p.1]?).getD ⟨#[]⟩))else cells
def wN (s:DSt) (w:Int):Nat:=min w.toNat s.q.length
def lX (s:DSt) (w b:Int):List ByteArray:=B3 (cK s.cells (s.q.take (wN s w))) b (s.q[wN s w]?)
def jS (s:DSt) (w b:Int):DSt:=if s.off then s else {s with cells:=lX s w b,q:=[],off:=true,arm:=BH s.arm,gq:=s.gq+1}
theorem LY (cells:List ByteArray) (b:Int) (p:Option (Nat×ByteArray)):(B3 cells b p).length=cells.length:=by
 unfold B3;split
 ·rfl
 split<;>simp
theorem sU (s:DSt) (w b:Int):(lX s w b).length=s.cells.length:=by rw [lX,LY,fX]
abbrev HS (s:DSt) (l:List ByteArray):aA:=[(1000,⟨0,4,80,[[.osl 1001 0 0 (64*l.length),.osl 1002 (s.gq+1) 0 0,bv true,.pv .nilp]]⟩),(1001,⟨0,1,5,bG (flat l)⟩),(1002,⟨s.gq+1,3,103,[]⟩),(1003,⟨s.ga,3,100,nA s.arm⟩)]
theorem N0 (s:DSt) (w b:Int) (h:s.off=false):HS s (lX s w b)=a7 (jS s w b):=by simp only [jS,h,Bool.false_eq_true,if_false,a7,oF,FX,FW,List.length_nil,List.map_nil]
theorem DH {t:ByteArray} {k:Nat} (h:k≤t.size):(t.extract 0 k).size=k:=by simp;omega
theorem TH (s:DSt) (w b:Int) (hs:DOk s) :
  aK Tryz.prog 29 [.ref 1000 0 0 0,iv w,iv b] (a7 s) (fun r H'=>r=.tup []∧H'=a7 (jS s w b)):=by
 have hql:=hs.ql;obtain ⟨m,hm⟩:∃ m,m=wN s w:=⟨_,rfl⟩;have hmw:min (max w 0) (s.q.length:Int)=(m:Int):=by rw [hm];unfold wN;omega
 have hml:m≤s.q.length:=by rw [hm];unfold wN;omega
 have hpo:=E5 hs m;refine Bd func29 rfl ntmps29<|Sq<|Sq ?_;refine dA (t:=16) (n:=9) (X:=s.off) ?_ ?_
 ·all_goals refine Dd aE ?_
  all_goals refine Dd (by exact cP rfl iN rfl rfl rfl rfl)<|Dm ?_
  all_goals refine Sp 11 (fun h11=>?_) fun h11=>?_
  all_goals try contradiction
  all_goals refine On aE<|On e8<|On (dP sR)<|On (eA dC)<|Dd gL<|Zz ?_
  all_goals(exact⟨⟨_,rfl,by rfl⟩,rfl,rfl,rfl⟩)
 refine Cn ?_ ?_<;>intro hc1
 ·refine aN ?_;refine iQ (H':=a7 s) (.inr rfl) rfl  (Fin.wk (by(simp;done)) (Hc (aF _ _ rfl rfl rfl)<|Hc (aC _ _)<|Hc (aL _ _ _)<|Hc (aJ _ _)<|trivial) ⟨rfl,rfl,rfl,rfl,trivial⟩) ?_;exact⟨rfl,by simp [jS,hc1]⟩
 have hdf:=N0 s w b hc1;refine aG<|Sr<|Dd aE<|Dd (by exact AK rfl rfl rfl rfl)<|Dd aE<|Dd e8<|Dd (dP iD)<|Dd (eA gY)<|Dd (by exact cV rfl lI rfl rfl rfl)<|Dd (by exact uO rfl rfl rfl hmw)<|Dd aS<|Zz<|Sr<|Dd aE<|Dd aE<|Dd e8<|Dd (dP iD)<|Dd (eA gY)<|Dd aE<|Dd (by exact fA (l:=0) (h:=m) rfl EP rfl rfl rfl rfl rfl rfl (by omega) (by omega) rfl rfl)<|Dd (by exact aB rfl rfl call60 rfl (b8 (CE s m hs hml) _ ⟨rfl,rfl,rfl,rfl,trivial⟩ (by(simp;exact⟨rfl,rfl⟩))))<|Zz<|Sq<|Sr<|Dd aE<|Dd aE<|Dd e8<|Dd (dP iD)<|Dd (eA gY)<|Dd (by exact cV rfl lI rfl rfl rfl)<|Dd dG<|Zz ?_;refine Cn ?_ ?_<;>intro hc2
 ·have hlt:m < s.q.length:=Int.ofNat_lt.1 (W9 hc2);obtain ⟨p,hp⟩:=aY hlt;have hpe:(tM s.q)[0+m]?=some ((jY p).map .pv):=by rw [XV,XX,hp];rfl
  obtain ⟨hp1,hp2⟩:=hs.q p (XN hp);have hkm:min (max b 0) 64=((min b 64).toNat:Int):=by omega
  have hkl:(min b 64).toNat≤64:=by omega
  refine Sr<|Dd aE<|Dd e8<|Dd (dP iD)<|Dd (eA gY)<|Dd aE<|Dd (by exact dU rfl EP rfl rfl rfl rfl rfl (by omega) (by exact XO _) (by omega) rfl)<|Dd (by exact cU rfl isAgg103 qH rfl rfl rfl hpe (by simp only [Zl,jY];rfl) rfl)<|Dd (by exact cC (id:=7) rfl SA rfl rfl)<|Uu (pE qH)<|Zz<|Sr<|Dd aE<|Dd (by exact AK rfl rfl rfl rfl)<|Dd (by exact uO rfl rfl rfl hkm)<|Dd aS<|Zz<|Sr<|Dd aE<|Dd yZ<|Zz ?_;refine Cn ?_ ?_<;>intro hc3
  ·have hb:0 < b:=by have:=W9 hc3;omega
   obtain ⟨c,hc⟩:=aY (show p.1 < (cK s.cells (s.q.take m)).length by rw [fX];exact hp1);have hts:(p.2.extract 0 (min b 64).toNat).size≤64:=by rw [DH (by omega)];exact hkl
   have hset:=SD {s with cells:=cK s.cells (s.q.take m)} p.1 c (p.2.extract 0 (min b 64).toNat) hpo hc hts;have hfc:lX s w b=(cK s.cells (s.q.take m)).set p.1 (m8 (p.2.extract 0 (min b 64).toNat) c):=by
    rw [lX,← hm,hp];simp only [B3,XC hb,hc,Option.getD_some]
   rw [hfc] at hdf;refine bK follows<|Cr [] (fun _ _=>aE)<|Cr [7] (fun _ h=>fh BD h)<|Cr [7] (fun H1 hH=>by exact cU rfl gX sizeOf96 rfl ((hH _ rfl).trans rfl) rfl rfl rfl rfl)<|Cr [7] (fun _ h=>fh BC h)<|Cr [7] (fun _ h=>lh aU h)<|Cr [] (fun _ _=>aE)<|Cr [] (fun H1 hH=>by exact cI (l:=0) (h:=(min b 64).toNat) rfl aI rfl rfl rfl (by omega) (by omega) rfl) ?_;refine bU (r:=⟨_,some [1000,1001,1002,1003],_⟩) (DStep.plain rfl (fun H1 hH=>by exact aB rfl rfl call61 rfl (b8 hset _ ⟨(hH 1000 rfl).trans rfl,(hH 1001 rfl).trans rfl,(hH 1002 rfl).trans rfl,(hH 1003 rfl).trans rfl,trivial⟩ (by simp;rfl)))) rfl ?_;refine cM<|Kr<|Sr<|Dd aE<|Dd e8<|Dd (dP iD)<|Uu (by exact jA (q:=1002) (sz:=3) (ty:=103) rfl sizeOf77 rfl rfl rfl rfl rfl rfl rfl rfl (by simp) (by simp only [oF,List.set_cons_succ,List.set_cons_zero];rfl) (by simp only [List.set_cons_zero];rfl))<|Zz<|Sr<|Dd aE<|Dd e8<|Dd (dP sR)<|Uu (by exact cX rfl sizeOf4 rfl rfl rfl rfl rfl rfl (by simp only [XF,List.length_nil];omega) (by simp only [Zl,jY];rfl) (by simp only [Zl,jY];rfl))<|Zz<|Rg<|Dd aE<|Dd e8<|Dd (dP lC)<|Uu (by exact cX rfl sizeOf78 rfl rfl rfl rfl rfl rfl (by simp only [XF,List.length_nil];omega) (by simp only [Zl,jY];rfl) (by simp only [Zl,jY];rfl))<|Zz ?_;refine iQ (H':=HS s ((cK s.cells (s.q.take m)).set p.1 (m8 (p.2.extract 0 (min b 64).toNat) c))) (by exact .inl rfl) rfl  (Fin.wk (by(simp;done)) (Hc (by(simp;exact⟨rfl,rfl⟩))<|Hc (aC _ _)<|Hb<|Hc (aJ _ _)<|trivial) ⟨rfl,rfl,rfl,rfl,trivial⟩) ?_;exact⟨rfl,hdf⟩
  have hb:¬ 0 < b:=by have:¬ _:=XA hc3;omega
  have hfc:lX s w b=cK s.cells (s.q.take m):=by
   rw [lX,← hm,hp];simp only [B3,XB hb]
  rw [hfc] at hdf;refine aG<|Sr<|Dd aE<|Dd e8<|Dd (dP iD)<|Uu (by exact jA (q:=1002) (sz:=3) (ty:=103) rfl sizeOf77 rfl rfl rfl rfl rfl rfl rfl rfl (by simp) (by simp only [oF,List.set_cons_succ,List.set_cons_zero];rfl) (by simp only [List.set_cons_zero];rfl))<|Zz<|Sr<|Dd aE<|Dd e8<|Dd (dP sR)<|Uu (by exact cX rfl sizeOf4 rfl rfl rfl rfl rfl rfl (by simp only [XF,List.length_nil];omega) (by simp only [Zl,jY];rfl) (by simp only [Zl,jY];rfl))<|Zz<|Rg<|Dd aE<|Dd e8<|Dd (dP lC)<|Uu (by exact cX rfl sizeOf78 rfl rfl rfl rfl rfl rfl (by simp only [XF,List.length_nil];omega) (by simp only [Zl,jY];rfl) (by simp only [Zl,jY];rfl))<|Zz ?_;refine iQ (H':=HS s (cK s.cells (s.q.take m))) (by exact .inl rfl) rfl  (Fin.wk (by(simp;done)) (Hc (by(simp;exact⟨rfl,rfl⟩))<|Hc (aC _ _)<|Hb<|Hc (aJ _ _)<|trivial) ⟨rfl,rfl,rfl,rfl,trivial⟩) ?_;exact⟨rfl,hdf⟩
 have hge:s.q.length≤m:=Nat.not_lt.1 (fun h=>XA hc2 (Int.ofNat_lt.2 h));have hfc:lX s w b=cK s.cells (s.q.take m):=by
  rw [lX,← hm,List.getElem?_eq_none hge];rfl
 rw [hfc] at hdf;refine aG<|Sr<|Dd aE<|Dd e8<|Dd (dP iD)<|Uu (by exact jA (q:=1002) (sz:=3) (ty:=103) rfl sizeOf77 rfl rfl rfl rfl rfl rfl rfl rfl (by simp) (by simp only [oF,List.set_cons_succ,List.set_cons_zero];rfl) (by simp only [List.set_cons_zero];rfl))<|Zz<|Sr<|Dd aE<|Dd e8<|Dd (dP sR)<|Uu (by exact cX rfl sizeOf4 rfl rfl rfl rfl rfl rfl (by simp only [XF,List.length_nil];omega) (by simp only [Zl,jY];rfl) (by simp only [Zl,jY];rfl))<|Zz<|Rg<|Dd aE<|Dd e8<|Dd (dP lC)<|Uu (by exact cX rfl sizeOf78 rfl rfl rfl rfl rfl rfl (by simp only [XF,List.length_nil];omega) (by simp only [Zl,jY];rfl) (by simp only [Zl,jY];rfl))<|Zz ?_;refine iQ (H':=HS s (cK s.cells (s.q.take m))) (by exact .inl rfl) rfl  (Fin.wk (by(simp;done)) (Hc (by(simp;exact⟨rfl,rfl⟩))<|Hc (aC _ _)<|Hb<|Hc (aJ _ _)<|trivial) ⟨rfl,rfl,rfl,rfl,trivial⟩) ?_;exact⟨rfl,hdf⟩
theorem IG {cells:List ByteArray} (hc:∀ c,c∈cells→c.size=64) {b:Int} {p:Option (Nat×ByteArray)} (hp:∀ x,p=some x→x.1 < cells.length∧x.2.size=64):∀ c,c∈B3 cells b p→c.size=64:=by
 unfold B3
 split
 ·exact hc
 next x =>
 obtain ⟨h1,h2⟩:=hp x rfl
 split
 ·intro c hm;rcases List.mem_or_eq_of_mem_set hm with h|h
  ·exact hc c h
  obtain ⟨d,hd⟩:=aY h1;have hd2:=hc d (XN hd);have e1:(x.2.extract 0 (min b 64).toNat).size=(min b 64).toNat:=DH (by omega);rw [h,hd,Option.getD_some,JF (by omega),hd2]
 exact hc
theorem HR {s:DSt} (hs:DOk s) (w b:Int):DOk (jS s w b):=by
 unfold jS
 split
 ·exact hs
 refine⟨by simpa [sU] using hs.n1,by simpa [sU] using hs.n2,?_,by simp,by simp⟩;refine IG (tO (fun p hp=>(hs.q p (List.mem_of_mem_take hp)).2) hs.c) (fun x hx=>?_);rw [fX];exact hs.q x (XN hx)
def dI (s:DSt):DSt:=match s.arm with
 | .on a w b=>if 0 < a then {s with arm:=.on (a - 1) w b} else jS s w b
 | _=>s
def eC (s:DSt):Int:=match s.arm with
 | .on a w b=>if 0 < a then 0 else 22
 | _=>0
def H6 (s:DSt):Prop:=∀ a w b,s.arm=.on a w b→a≤9223372036854775807
theorem DL (s:DSt) (hs:DOk s) (ha:H6 s) :
  aK Tryz.prog 147 [.ref 1000 0 0 0] (a7 s) (fun r H'=>r=iv (eC s)∧H'=a7 (dI s)):=by
 obtain ⟨cells,q,off,arm,gq,ga⟩:=s;cases arm with
 | never =>
  refine Bd V9 rfl U8<|Sr<|Dd aS<|Zz<|Sq<|Sr<|Dd aE<|Dd e8<|Dd (dP lC)<|Dd (eA lL)<|Dd (by exact nR rfl K5 rfl rfl)<|Zz ?_;refine Cn ?_ ?_<;>intro hc1
  ·refine Sr<|Dd aS<|Zz<|aN ?_;refine a8 (H':=a7 ⟨cells,q,off,.never,gq,ga⟩) (.inr rfl) rfl (aH rfl) (Fin.wk (by(simp;done)) (Hc (aF _ _ rfl rfl rfl)<|Hc (aC _ _)<|Hc (aL _ _ _)<|Hc (aJ .never _)<|trivial) ⟨rfl,rfl,rfl,rfl,trivial⟩) ?_;exact Qq
  cases hc1
 | off a w b =>
  refine Bd V9 rfl U8<|Sr<|Dd aS<|Zz<|Sq<|Sr<|Dd aE<|Dd e8<|Dd (dP lC)<|Dd (eA lL)<|Dd (by exact nR rfl K5 rfl rfl)<|Zz ?_;refine Cn ?_ ?_<;>intro hc1
  ·refine Sr<|Dd aS<|Zz<|aN ?_;refine a8 (H':=a7 ⟨cells,q,off,.off a w b,gq,ga⟩) (.inr rfl) rfl (aH rfl) (Fin.wk (by(simp;done)) (Hc (aF _ _ rfl rfl rfl)<|Hc (aC _ _)<|Hc (aL _ _ _)<|Hc (aJ (.off _ _ _) _)<|trivial) ⟨rfl,rfl,rfl,rfl,trivial⟩) ?_;exact Qq
  cases hc1
 | on a w b =>
  have ha':=ha a w b rfl;refine Bd V9 rfl U8<|Sr<|Dd aS<|Zz<|Sq<|Sr<|Dd aE<|Dd e8<|Dd (dP lC)<|Dd (eA lL)<|Dd (by exact cP rfl K5 rfl rfl rfl rfl)<|Zz ?_;refine Cn ?_ ?_<;>intro hc1
  ·cases hc1
  refine aG<|Sq<|Sr<|Dd aE<|Dd e8<|Dd (dP lC)<|Dd (eA lL)<|Dd e8<|Dd (dP BE)<|Dd (eA aV)<|Dd yZ<|Zz ?_;refine Cn ?_ ?_<;>intro hc2
  ·have h0:0 < a:=W9 hc2;refine Sr<|Dd aE<|Dd e8<|Dd (dP lC)<|Dd (eA lL)<|Dd e8<|Dd (dP BE)<|Dd (eA aV)<|Dd (by exact dO rfl rfl rfl (by exact g9 (by omega) (by omega)))<|Dd e8<|Dd (dP BE)<|Uu (by exact cX (r:=[iv a,iv w,iv b]) rfl sizeOf3 rfl rfl rfl rfl rfl rfl (by simp) rfl rfl)<|Zz<|Sr<|Dd aS<|Zz<|aN ?_;refine a8 (H':=a7 ⟨cells,q,off,.on (a - 1) w b,gq,ga⟩) (.inr rfl) rfl (aH rfl) (Fin.wk (by(simp;done)) (Hc (aF _ _ rfl rfl rfl)<|Hc (aC _ _)<|Hc (aL _ _ _)<|Hc (aJ (.off _ _ _) _)<|trivial) ⟨rfl,rfl,rfl,rfl,trivial⟩) ?_;exact⟨by simp [eC,h0],by simp only [dI,XC h0]⟩
  have h0:¬ 0 < a:=XA hc2;refine aG<|Sq<|bK follows<|Cr [1000] (fun _ _=>aE)<|Cr [1000] (fun _ _=>aE)<|Cr [1000] (fun H1 hH=>by exact bM rfl rfl ((hH _ rfl).trans rfl) rfl)<|Cr [1000] (fun _ h=>fh lC h)<|Cr [1000] (fun _ h=>lh lL h)<|Cr [1003] (fun H1 hH=>by exact bM rfl rfl ((hH _ rfl).trans rfl) rfl)<|Cr [1003] (fun _ h=>fh RJ h)<|Cr [1003] (fun _ h=>lh aV h)<|Cr [1000] (fun _ _=>aE)<|Cr [1000] (fun H1 hH=>by exact bM rfl rfl ((hH _ rfl).trans rfl) rfl)<|Cr [1000] (fun _ h=>fh lC h)<|Cr [1000] (fun _ h=>lh lL h)<|Cr [1003] (fun H1 hH=>by exact bM rfl rfl ((hH _ rfl).trans rfl) rfl)<|Cr [1003] (fun _ h=>fh RI h)<|Cr [1003] (fun _ h=>lh aV h) ?_;refine bU (r:=⟨_,some [1000,1001,1002,1003],_⟩) (DStep.plain rfl (fun H1 hH=>by exact aB rfl rfl call29 rfl (b8 (TH ⟨cells,q,off,.on a w b,gq,ga⟩ w b hs) _ ⟨(hH 1000 rfl).trans rfl,(hH 1001 rfl).trans rfl,(hH 1002 rfl).trans rfl,(hH 1003 rfl).trans rfl,trivial⟩ (by(simp;rfl))))) rfl ?_;refine cM<|Kr<|Sr<|Dd aS<|Zz<|aN ?_;refine a8 (H':=a7 (jS ⟨cells,q,off,.on a w b,gq,ga⟩ w b)) (.inr rfl) rfl (aH rfl) (Fin.wk (by(simp;done)) (Hc (aF _ _ rfl rfl rfl)<|Hc (aC _ _)<|Hc (aL _ _ _)<|Hc (aJ _ _)<|trivial) ⟨rfl,rfl,rfl,rfl,trivial⟩) ?_;exact⟨by simp [eC,h0],by simp only [dI,XB h0]⟩
def iR (s:DSt) (n:Nat) (t:ByteArray):DSt:={s with q:=s.q++[(n,t)],gq:=s.gq+1}
theorem sC {s:DSt} (hs:DOk s) {n:Nat} {t:ByteArray} (hn:n < s.cells.length) (ht:t.size=64) (hq:s.q.length < 1048576):DOk (iR s n t) :=⟨hs.n1,hs.n2,hs.c,fun p hp=>by
  rcases List.mem_append.1 hp with h|h
  ·exact hs.q p h
  rw [XG.1 h];exact⟨hn,ht⟩,by show (s.q++[(n,t)]).length≤_;simp;omega⟩
def iE (s:DSt) (k:Int) (t:ByteArray):DSt:=if s.off then s else if eY s k&&decide (t.size=64)then dI (iR s k.toNat t)else s
def gS (s:DSt) (k:Int) (t:ByteArray):Int:=if s.off then 22 else if eY s k&&decide (t.size=64)then eC (iR s k.toNat t)else 1
theorem TJ (s:DSt) (p:Nat×ByteArray):s.q.length+1=(s.q++[p]).length:=by simp
theorem P3 (s:DSt) (k:Int) (t:ByteArray) (hs:DOk s) (ha:H6 s) (hq:s.q.length < 1048576) :
  aK Tryz.prog 121 [.ref 1000 0 0 0,iv k,sv t] (a7 s) (fun r H'=>r=iv (gS s k t)∧H'=a7 (iE s k t)):=by
 refine Bd func121 rfl ntmps121 ?_;cases e:s.off with
 | true =>
  refine Sr<|Dd aS<|Zz<|Sr<|Dd aE<|Dd aE<|Dd (by exact aB rfl rfl r7 rfl (b8 (OX s k hs e) _ ⟨rfl,rfl,rfl,rfl,trivial⟩ (by simp;rfl)))<|Dd aE<|Dd eB<|Dd eB<|Dd (by exact cC (id:=7) rfl xE rfl rfl)<|Uu (pE sizeOf96)<|Dd aS<|Zz<|Sq<|Sr<|Dd aE<|Dd oZ<|Zz ?_;refine Cn ?_ ?_<;>intro hc1
  ·refine Sr<|Dd aE<|Dd aS<|Zz<|aN ?_;refine a8 (H':=a7 s) (.inr rfl) rfl (aH rfl) (Fin.wk (by(simp;done)) (Hc (aF _ _ rfl rfl rfl)<|Hc (aC _ _)<|Hc (aL _ _ _)<|Hc (aJ _ _)<|trivial) ⟨rfl,rfl,rfl,rfl,trivial⟩) ?_;exact⟨by simp [gS,e],by simp [iE,e]⟩
  cases hc1
 | false =>
  rcases nK s k with e2|⟨n,rfl,hn⟩
  ·refine Sr<|Dd aS<|Zz<|Sr<|Dd aE<|Dd aE<|Dd (by exact aB rfl rfl r7 rfl (b8 (SQ s k hs e e2) _ ⟨rfl,rfl,rfl,rfl,trivial⟩ (by simp;rfl)))<|Dd aE<|Dd eB<|Dd eB<|Dd (by exact cC (id:=7) rfl xE rfl rfl)<|Uu (pE sizeOf96)<|Dd aS<|Zz<|Sq<|Sr<|Dd aE<|Dd oZ<|Zz ?_;refine Cn ?_ ?_<;>intro hc2
   ·refine Sr<|Dd aE<|Dd aS<|Zz<|aN ?_;refine a8 (H':=a7 s) (.inr rfl) rfl (aH rfl) (Fin.wk (by(simp;done)) (Hc (aF _ _ rfl rfl rfl)<|Hc (aC _ _)<|Hc (aL _ _ _)<|Hc (aJ _ _)<|trivial) ⟨rfl,rfl,rfl,rfl,trivial⟩) ?_;exact⟨by simp [gS,e,e2],by simp [iE,e,e2]⟩
   cases hc2
  have e2:eY s (n:Int)=true:=by rw [iW];simpa using hn
  refine Sr<|Dd aS<|Zz<|Sr<|Dd aE<|Dd aE<|Dd (by exact aB rfl rfl r7 rfl (b8 (OW s n hs e hn) _ ⟨rfl,rfl,rfl,rfl,trivial⟩ (by simp;rfl)))<|Dd aE<|Dd eB<|Dd eB<|Dd (by exact cC (id:=7) rfl xE rfl rfl)<|Uu (pE sizeOf96)<|Dd aS<|Zz<|Sq<|Sr<|Dd aE<|Dd oZ<|Zz ?_;refine Cn ?_ ?_<;>intro hc3
  ·cases hc3
  refine aG<|Sq<|Sr<|Dd aE<|Dd (xX aI)<|Dd oZ<|Zz ?_;refine Cn ?_ ?_<;>intro hc4
  ·have ht:¬ t.size=64:=by
    have:(!decide ((t.size:Int)=64))=true:=hc4;simp at this;omega
   refine Sr<|Dd aS<|Zz<|aN ?_;refine a8 (H':=a7 s) (.inr rfl) rfl (aH rfl) (Fin.wk (by(simp;done)) (Hc (aF _ _ rfl rfl rfl)<|Hc (aC _ _)<|Hc (aL _ _ _)<|Hc (aJ _ _)<|trivial) ⟨rfl,rfl,rfl,rfl,trivial⟩) ?_;exact⟨by simp [gS,e,e2,ht],by simp [iE,e,e2,ht]⟩
  have ht:t.size=64:=by
   have:(!decide ((t.size:Int)=64))=false:=hc4;simp at this;omega
  have hw:=sC hs hn ht hq;have hfin:iE s n t=dI (iR s n t):=by simp [iE,e,e2,ht]
  have hfe:gS s n t=eC (iR s n t):=by simp [gS,e,e2,ht]
  refine aG<|Sq<|bK follows<|Cr [1000] (fun _ _=>aE)<|Cr [1000] (fun _ _=>aE)<|Cr [1000] (fun H1 hH=>by exact bM rfl rfl ((hH _ rfl).trans rfl) rfl)<|Cr [1000] (fun _ h=>fh iD h)<|Cr [1000] (fun _ h=>lh gY h)<|Cr [7] (fun H1 hH=>by exact cU rfl gX sizeOf96 rfl ((hH _ rfl).trans rfl) rfl rfl (by simp only [Zl,jY,nA,oF];rfl) rfl)<|Cr [] (fun _ _=>aE)<|Cr [] (fun _ _=>(LF U5))<|Cr [] (fun H1 hH=>by exact bE [jY (n,t)] rfl EP rfl rfl rfl rfl rfl (by simp [jY]))<|Cp [1002] (fun H1 hH=>by exact dQ rfl EP UX rfl ((hH _ rfl).trans rfl) rfl rfl rfl (XD _) rfl (by simp [jY]) (rfl:_=1) (by omega) (TJ s (n,t)) (List.map_append (l₂:=[(n,t)])).symm)<|Cr [1000] (fun H1 hH=>by exact bM rfl rfl ((hH _ rfl).trans rfl) rfl)<|Cr [1000] (fun _ h=>fh iD h) ?_;refine Cp [1000,1002] (fun H1 hH=>by exact cX rfl sizeOf77 rfl rfl rfl ((hH _ rfl).trans rfl) rfl rfl (by simp only [XF,List.length_nil];omega) (by simp only [Zl,jY,nA,oF];rfl) (by simp only [Zl,jY,nA,oF];rfl))<|cM<|Kr<|Sr<|Dd aE<|Dd (by exact aB rfl rfl call147 rfl (b8 (DL (iR s n t) hw (fun a w b h=>ha a w b h)) _ ⟨rfl,rfl,rfl,rfl,trivial⟩ (by simp;rfl)))<|Dd aS<|Zz<|aN ?_;refine a8 (H':=a7 (dI (iR s n t))) (.inr rfl) rfl (aH rfl) (Fin.wk (by(simp;done)) (Hc (aF _ _ rfl rfl rfl)<|Hc (aC _ _)<|Hc (aL _ _ _)<|Hc (aJ _ _)<|trivial) ⟨rfl,rfl,rfl,rfl,trivial⟩) ?_;exact⟨by rw [hfe],by rw [hfin]⟩
theorem DP {s:DSt} (hs:DOk s):DOk (dI s):=by
 unfold dI
 split
 ·split
  ·exact⟨hs.n1,hs.n2,hs.c,hs.q,hs.ql⟩
  exact HR hs _ _
 exact hs
def sW (s:DSt):DSt:={s with cells:=cK s.cells s.q,q:=[],gq:=s.gq+1}
def iF (s:DSt):DSt:=if s.off then s else if eC s=0 then sW (dI s)else dI s
def lE (s:DSt):Int:=if s.off then 22 else eC s
theorem SX (s:DSt) (hs:DOk s) (ha:H6 s) :
  aK Tryz.prog 122 [.ref 1000 0 0 0] (a7 s) (fun r H'=>r=iv (lE s)∧H'=a7 (iF s)):=by
 have hc:=DP hs;have hset:=CE (dI s) (dI s).q.length hc (XJ _);rw [List.take_length] at hset;refine Bd func122 rfl ntmps122<|Sr<|Dd aS<|Zz<|Sq<|Sr<|Dd aE<|Dd (by exact cP rfl iN rfl rfl rfl rfl)<|Zz ?_;refine Cn ?_ ?_<;>intro hc1
 ·cases hc1
 refine aG<|Sq<|Sr<|Dd aE<|Dd e8<|Dd (dP sR)<|Dd (eA dC)<|Zz ?_;refine Cn ?_ ?_<;>intro hc2
 ·have e:s.off=true:=hc2;refine Sr<|Dd aS<|Zz<|aN ?_;refine a8 (H':=a7 s) (.inr rfl) rfl (aH rfl) (Fin.wk (by(simp;done)) (Hc (aF _ _ rfl rfl rfl)<|Hc (aC _ _)<|Hc (aL _ _ _)<|Hc (aJ _ _)<|trivial) ⟨rfl,rfl,rfl,rfl,trivial⟩) ?_;exact⟨by simp [lE,e],by simp [iF,e]⟩
 have e:s.off=false:=hc2;refine aG<|Sq<|Sr<|Dd aE<|Dd (by exact aB rfl rfl call147 rfl (b8 (DL s hs ha) _ ⟨rfl,rfl,rfl,rfl,trivial⟩ (by simp;rfl)))<|Dd aS<|Zz<|Sr<|Dd aE<|Dd oZ<|Zz ?_;refine Cn ?_ ?_<;>intro hc3
 ·have e2:¬ eC s=0:=by
   have:(!decide (eC s=0))=true:=hc3
   simpa using this
  refine Sr<|Dd aE<|Dd aS<|Zz<|aN ?_;refine a8 (H':=a7 (dI s)) (.inr rfl) rfl (aH rfl) (Fin.wk (by(simp;done)) (Hc (aF _ _ rfl rfl rfl)<|Hc (aC _ _)<|Hc (aL _ _ _)<|Hc (aJ _ _)<|trivial) ⟨rfl,rfl,rfl,rfl,trivial⟩) ?_;exact⟨by simp [lE,e],by simp [iF,e,e2]⟩
 have e2:eC s=0:=by
  have:(!decide (eC s=0))=false:=hc3
  simpa using this
 refine aG<|Sr<|Dd aE<|Dd aE<|Dd e8<|Dd (dP iD)<|Dd (eA gY)<|Dd (by exact aB rfl rfl call60 rfl (b8 hset _ ⟨rfl,rfl,rfl,rfl,trivial⟩ (by(simp;exact⟨rfl,rfl⟩))))<|Zz<|Sr<|Dd aE<|Dd e8<|Dd (dP iD)<|Uu (by exact jA (q:=1002) (sz:=3) (ty:=103) rfl sizeOf77 rfl rfl rfl rfl rfl rfl rfl rfl (by simp) (by simp only [oF,List.set_cons_succ,List.set_cons_zero];rfl) (by simp only [List.set_cons_zero];rfl))<|Zz<|Sr<|Dd aS<|Zz<|aN ?_;refine a8 (H':=a7 (sW (dI s))) (.inr rfl) rfl (aH rfl) (Fin.wk (by(simp;done)) (Hc (aF _ _ rfl rfl rfl)<|Hc (aC _ _)<|Hc (aL _ _ _)<|Hc (aJ _ _)<|trivial) ⟨rfl,rfl,rfl,rfl,trivial⟩) ?_;exact⟨by simp [lE,e,e2],by simp [iF,e,e2]⟩
def mY (n:Nat) (p:Nat×ByteArray):Bool:=decide (p.1=n)
def bT (s:DSt) (n:Nat):ByteArray:=((s.q.reverse.find? (mY n)).map (·.2)).getD ((s.cells[n]?).getD ⟨#[]⟩)
theorem NX {q:List (Nat×ByteArray)} {n j:Nat} {p:Nat×ByteArray} (hp:q[j]?=some p) (h1:mY n p=true) (h2:∀ i,j < i→∀ x,q[i]?=some x→mY n x=false):q.reverse.find? (mY n)=some p:=by
 obtain ⟨hlt,he⟩:=XH.1 hp;have hs:q=q.take j++(p::q.drop (j+1)):=by
  conv=>lhs;rw [← List.take_append_drop j q,List.drop_eq_getElem_cons hlt,he]
 have hn:(q.drop (j+1)).reverse.find? (mY n)=none:=by
  rw [List.find?_eq_none];intro x hx;rw [List.mem_reverse] at hx;obtain ⟨i,hi⟩:=XY.1 hx;rw [List.getElem?_drop] at hi;simp [h2 (j+1+i) (by omega) x hi]
 rw [hs,List.reverse_append,List.reverse_cons,List.append_assoc,List.find?_append,hn];simp [h1]
theorem x3 {q:List (Nat×ByteArray)} {n:Nat} (h2:∀ (i:Nat) (x:Nat×ByteArray),q[i]?=some x→mY n x=false):q.reverse.find? (mY n)=none:=by rw [List.find?_eq_none];intro x hx;rw [List.mem_reverse] at hx;obtain ⟨i,hi⟩:=XY.1 hx;simp [h2 i x hi]
theorem TS (c:ByteArray):(⟨c.data.toList.toArray⟩:ByteArray)=c:=by cases c;simp
def wP (s:DSt) (k:Int):ByteArray:=if s.off then⟨#[]⟩else if eY s k then bT s k.toNat else⟨#[]⟩
def mP (s:DSt) (k:Int):Int:=if s.off then 22 else if eY s k then 0 else 1
theorem MN (s:DSt) (k:Int) (hs:DOk s) :
  aK Tryz.prog 41 [.ref 1000 0 0 0,iv k] (a7 s) (fun r H'=>r=.tup [sv (wP s k),iv (mP s k)]∧H'=a7 s):=by
 have hql:=hs.ql;refine Bd func41 rfl ntmps41 ?_;cases e:s.off with
 | true =>
  refine Sr<|Dd aS<|Dd aS<|Zz<|Sr<|Dd aE<|Dd aE<|Dd (by exact aB rfl rfl r7 rfl (b8 (OX s k hs e) _ ⟨rfl,rfl,rfl,rfl,trivial⟩ (by simp;rfl)))<|Dd aE<|Dd eB<|Dd eB<|Dd (by exact cC (id:=6) rfl xE rfl rfl)<|Uu (pE sizeOf96)<|Dd aS<|Zz<|Sq<|Sr<|Dd aE<|Dd oZ<|Zz ?_;refine Cn ?_ ?_<;>intro hc1
  ·refine Sr<|Dd aE<|Dd aS<|Dd aS<|Zz<|aN ?_;refine fQ (H':=a7 s) (.inr rfl) rfl (aH rfl) (aH rfl) (Fin.wk (by(simp;done)) (Hc (aF _ _ rfl rfl rfl)<|Hc (aC _ _)<|Hc (aL _ _ _)<|Hc (aJ _ _)<|trivial) ⟨rfl,rfl,rfl,rfl,trivial⟩) ?_;exact⟨by simp [wP,mP,e],rfl⟩
  cases hc1
 | false =>
  rcases nK s k with e2|⟨n,rfl,hn⟩
  ·refine Sr<|Dd aS<|Dd aS<|Zz<|Sr<|Dd aE<|Dd aE<|Dd (by exact aB rfl rfl r7 rfl (b8 (SQ s k hs e e2) _ ⟨rfl,rfl,rfl,rfl,trivial⟩ (by simp;rfl)))<|Dd aE<|Dd eB<|Dd eB<|Dd (by exact cC (id:=6) rfl xE rfl rfl)<|Uu (pE sizeOf96)<|Dd aS<|Zz<|Sq<|Sr<|Dd aE<|Dd oZ<|Zz ?_;refine Cn ?_ ?_<;>intro hc2
   ·refine Sr<|Dd aE<|Dd aS<|Dd aS<|Zz<|aN ?_;refine fQ (H':=a7 s) (.inr rfl) rfl (aH rfl) (aH rfl) (Fin.wk (by(simp;done)) (Hc (aF _ _ rfl rfl rfl)<|Hc (aC _ _)<|Hc (aL _ _ _)<|Hc (aJ _ _)<|trivial) ⟨rfl,rfl,rfl,rfl,trivial⟩) ?_;exact⟨by simp [wP,mP,e,e2],rfl⟩
   cases hc2
  have e2:eY s (n:Int)=true:=by rw [iW];simpa using hn
  have h1:wP s n=bT s n:=by simp [wP,e,e2]
  have h2:mP s n=0:=by simp [mP,e,e2]
  rw [h1,h2];refine Sr<|Dd aS<|Dd aS<|Zz<|Sr<|Dd aE<|Dd aE<|Dd (by exact aB rfl rfl r7 rfl (b8 (OW s n hs e hn) _ ⟨rfl,rfl,rfl,rfl,trivial⟩ (by simp;rfl)))<|Dd aE<|Dd eB<|Dd eB<|Dd (by exact cC (id:=6) rfl xE rfl rfl)<|Uu (pE sizeOf96)<|Dd aS<|Zz<|Sq<|Sr<|Dd aE<|Dd oZ<|Zz ?_;refine Cn ?_ ?_<;>intro hc3
  ·cases hc3
  refine aG<|Sq<|Sr<|Dd aE<|Dd e8<|Dd (dP iD)<|Dd (eA gY)<|Dd (by exact cV rfl lI rfl rfl rfl)<|Dd (by exact dO rfl rfl rfl (by exact g9 (by omega) (by omega)))<|Dd aS<|Zz<|aM ?_;refine bB (σ:=Nat) (fun j=>([(0,.ref 1000 0 0 0),(6,.ref 6 0 0 0),(8,iv ((j:Int) - 1))],(6,bx 2 96 (CB n))::a7 s)) (fun j=>j≤s.q.length∧∀ i,j≤i→∀ x,s.q[i]?=some x→mY n x=false) (fun j=>j) s.q.length
   ⟨XJ _,fun i hi x hx=>by have:=(XH.1 hx).1;omega⟩ ?_ ?_
  ·exact(bY.wk (Ea<|Ea<|Eb<|trivial) (Hb<|Hc (aF _ _ rfl rfl rfl)<|Hc (aC _ _)<|Hc (aL _ _ _)<|Hc (aJ _ _)<|trivial) ⟨rfl,rfl,rfl,rfl,trivial⟩)
  rintro j ⟨hj,hpre⟩;cases j with
  | succ j =>
   have ej:((j+1:Nat):Int) - 1=(j:Int):=by omega
   rw [ej];refine Sq<|Sr<|Dd aE<|Dd RE<|Zz ?_;refine Cn ?_ ?_<;>intro hc4
   ·obtain ⟨p,hp⟩:=aY (show j < s.q.length by omega);have hpe:(tM s.q)[j]?=some ((jY p).map .pv):=by rw [XX,hp];rfl
    have hm:decide (((64*p.1:Nat):Int)=((64*n:Nat):Int))=mY n p:=by
     unfold mY;rw [Bool.eq_iff_iff];simp;omega
    refine aG<|Sq<|aM<|Sq<|bK follows<|Cq aE<|Cq e8<|Cq (dP iD)<|Cq (eA gY)<|Cq aE<|Cq (by exact dU rfl EP rfl rfl rfl rfl rfl (by omega) (by exact XO _) (by omega) (XV _))<|Cq (dP BD)<|Cq (dP BA)<|Cq (by exact aX rfl aV rfl rfl rfl hpe rfl)<|Cq (dP BA)<|Cq (eA aV)<|Cq g6<|cM<|Kr ?_;refine Cn ?_ ?_<;>intro hc5
    ·rw [hm] at hc5;refine Sr<|Dd aE<|Dd e8<|Dd (dP iD)<|Dd (eA gY)<|Dd aE<|Dd (by exact dU rfl EP rfl rfl rfl rfl rfl (by omega) (by exact XO _) (by omega) (XV _))<|Dd (dP BC)<|Dd (by exact aX rfl aU rfl rfl rfl hpe rfl)<|Dd aS<|Dd aS<|Zz<|aN ?_;refine fQ (H':=a7 s) (.inr rfl) rfl (aH rfl) (aH rfl) (Fin.wk (by(simp;done)) (Hc (aF _ _ rfl rfl rfl)<|Hc (aC _ _)<|Hc (aL _ _ _)<|Hc (aJ _ _)<|trivial) ⟨rfl,rfl,rfl,rfl,trivial⟩) ?_;refine⟨?_,rfl⟩;rw [bT,NX hp hc5 (fun i hi x hx=>hpre i (by omega) x hx)];rfl
    rw [hm] at hc5;refine aG<|Rg<|Dd aE<|Dd (by exact dO rfl rfl rfl (g9 (by omega) (by omega)))<|Da ?_;refine⟨j,⟨by omega,fun i hi x hx=>?_⟩,by omega,(bY.wk (Ea<|Ea<|Eb<|trivial) (Hb<|Hc (aF _ _ rfl rfl rfl)<|Hc (aC _ _)<|Hc (aL _ _ _)<|Hc (aJ _ _)<|trivial) ⟨rfl,rfl,rfl,rfl,trivial⟩)⟩;by_cases he:i=j
    ·subst he;rw [hp] at hx;cases hx;exact hc5
    exact hpre i (by omega) x hx
   have:¬ (0:Int)≤(j:Int):=XA hc4;omega
  | zero =>
   have hz:s.q.reverse.find? (mY n)=none:=x3 (fun i x hx=>hpre i (XU _) x hx);obtain ⟨c,hc⟩:=aY hn;have hd:bT s n=c:=by rw [bT,hz,hc];rfl
   obtain ⟨_,p2,_⟩:=y8 hs.c hc;have hb:((bG (flat s.cells)).drop (0+64*n)).take (64*(n+1) - 64*n)=bG c.data.toList:=by
    rw [← p2,XV,show 64*(n+1) - 64*n=64 by omega];simp only [bG,List.map_take,List.map_drop]
   have hfl:=lW hs.c;rw [hd];refine Sq<|Sr<|Dd aE<|Dd RE<|Zz ?_;refine Cn ?_ ?_<;>intro hc6
   ·have:(0:Int)≤((0:Nat):Int) - 1:=W9 hc6;omega
   refine a6<|Sq<|bK follows<|Cq aE<|Cq e8<|Cq (dP BB)<|Cq (eA eD)<|Cq (dP BA)<|Cq (eA aV)<|Cq (dP NV)<|Cq (eA aV)<|Cq (by exact fA (l:=(64*n)) (h:=(64*(n+1))) rfl CD rfl rfl rfl rfl rfl rfl (by omega) (by omega) rfl rfl)<|Cq (by exact gN rfl bX bQ aI rfl rfl rfl rfl hb rfl)<|Cq aS<|Cq aS<|cM<|Kr<|aN ?_;refine fQ (H':=a7 s) (.inr rfl) rfl (aH rfl) (aH rfl) (Fin.wk (by(simp;done)) (Hc (aF _ _ rfl rfl rfl)<|Hc (aC _ _)<|Hc (aL _ _ _)<|Hc (aJ _ _)<|trivial) ⟨rfl,rfl,rfl,rfl,trivial⟩) ?_;exact⟨by rw [TS],rfl⟩
def lZ (s:DSt):ByteArray:=⟨(flat s.cells).toArray⟩
theorem SG (s:DSt) (hs:DOk s):aK Tryz.prog 22 [.ref 1000 0 0 0] (a7 s) (fun r H'=>r=sv (lZ s)∧H'=a7 s):=by
 have hb:((bG (flat s.cells)).drop 0).take (64*s.cells.length)=bG (flat s.cells):=by
  rw [List.drop_zero,List.take_of_length_le (by simp [bG,lW hs.c])]
 refine Bd func22 rfl ntmps22<|Sr<|Dd aS<|Zz<|Sq<|Sr<|Dd aE<|Dd (by exact cP rfl iN rfl rfl rfl rfl)<|Zz ?_;refine Cn ?_ ?_<;>intro hc1
 ·cases hc1
 refine aG<|Sr<|Dd aE<|Dd e8<|Dd (dP BB)<|Dd (eA eD)<|Dd (by exact gN rfl bX bQ aI rfl rfl rfl rfl hb rfl)<|Dd aS<|Zz<|aN ?_;refine a8 (H':=a7 s) (.inr rfl) rfl (aH rfl) (Fin.wk (by(simp;done)) (Hc (aF _ _ rfl rfl rfl)<|Hc (aC _ _)<|Hc (aL _ _ _)<|Hc (aJ _ _)<|trivial) ⟨rfl,rfl,rfl,rfl,trivial⟩) ?_;exact Qq
abbrev z64:ByteArray:=⟨(List.replicate 64 0).toArray⟩
def kQ (n:Nat):DSt:=⟨List.replicate n z64,[],false,.never,0,0⟩
theorem RP {n:Nat} (h1:1≤n) (h2:n≤8000):DOk (kQ n) :=⟨by simpa [kQ] using h1,by simpa [kQ] using h2,fun c hc=>by rw [List.eq_of_mem_replicate hc];rfl,fun p hp=>(by cases hp),(by simp [kQ])⟩
theorem UH (n:Nat):bG (flat (List.replicate n z64))=List.replicate (64*n) [.pv (.int .u8 0)]:=by
 have:flat (List.replicate n z64)=List.replicate (64*n) 0:=by
  induction n with
  | zero=>rfl
  | succ n ih =>
   rw [List.replicate_succ,oU,ih];show List.replicate 64 0++List.replicate (64*n) 0=_;rw [List.replicate_append_replicate];congr 1;omega
 rw [this,bG,List.map_replicate];rfl
abbrev UO (n:Nat):aA:=[(1000,⟨0,4,80,[[.osl 1001 0 0 (64*n),.osl 1002 0 0 0,bv false,.pv .nilp]]⟩),(1001,⟨0,1,5,List.replicate (64*n) [.pv (.int .u8 0)]⟩),(1002,⟨0,3,103,[]⟩),(1003,⟨0,3,100,[]⟩)]
theorem QR (n:Nat):UO n=a7 (kQ n):=by simp only [a7,kQ,oF,UH,List.length_replicate,O0,nA,List.length_nil,List.map_nil]
theorem M5 (n:Nat) (h1:1≤n) (h2:n≤8000):aK Tryz.prog 13 [iv (n:Int)] [] (fun r H'=>r=.ref 1000 0 0 0∧H'=a7 (kQ n)):=by
 have hw:IntKind.i64.wrap ((n:Int)*64)=((64*n:Nat):Int):=by rw [g9 (by omega) (by omega)];omega
 rw [← QR];refine Bd func13 rfl ntmps13<|Sr<|Dd aS<|Zz<|Sq<|Sq ?_;refine dA (t:=8) (n:=7) (X:=false) ?_ ?_
 ·all_goals refine Dd aE ?_
  all_goals refine Dd dG<|Dm ?_
  all_goals refine Sp 5 (fun h5=>?_) fun h5=>?_
  all_goals try contradiction
  all_goals first|refine Fo<|Fo ?_|refine On aE<|On yZ ?_
  all_goals refine Dd gL<|Zz ?_
  all_goals(exact⟨⟨_,rfl,by(simp_all;omega)⟩,rfl,rfl,rfl⟩)
 refine Cn ?_ ?_<;>intro hc1
 ·cases hc1
 refine aG<|Sr<|Dd aE<|Dd (by exact gR rfl rfl rfl hw)<|Dd (by exact jC (id:=1001) rfl CD UW VD rfl rfl rfl (by omega) (by omega) (by exact XO _) (by exact XO _) (by omega) rfl)<|Dd (LF U4)<|Dd (by exact fP (id:=1000) rfl rfl rfl rfl rfl)<|Dd aS<|Zz<|aN ?_;refine a8 (H':=UO n) (.inr rfl) rfl (aH rfl) (Fin.trans (H':=[(1002,⟨0,3,103,[]⟩),(1000,⟨0,4,80,[[.osl 1001 0 0 (64*n),.osl 1002 0 0 0,bv false,.pv .nilp]]⟩),(1001,⟨0,1,5,List.replicate (64*n) [.pv (.int .u8 0)]⟩)]) (r':=.ref 1000 0 0 0) (Fin.of_ent (bY.nz 1002 3 103 rfl rfl ⟨⟨_,rfl,(by exact Nz.same (by(simp;rfl)))⟩,trivial⟩ ⟨⟨_,rfl,rfl,rfl,rfl,(by exact .inr ⟨_,_,rfl,rfl,(by repeat(first|exact trivial|refine⟨(by first|exact Nz.own|exact Nz.same (by first|(simp;done)|(simp;rfl))),?_⟩))⟩)⟩,⟨_,rfl,rfl,rfl,rfl,(by exact .inl ⟨rfl,(by(simp;done))⟩)⟩,trivial⟩ trivial)) (Fin.trans (H':=[(1003,⟨0,3,100,[]⟩),(1002,⟨0,3,103,[]⟩),(1000,⟨0,4,80,[[.osl 1001 0 0 (64*n),.osl 1002 0 0 0,bv false,.pv .nilp]]⟩),(1001,⟨0,1,5,List.replicate (64*n) [.pv (.int .u8 0)]⟩)]) (r':=.ref 1000 0 0 0) (Fin.of_ent (bY.nz 1003 3 100 rfl rfl ⟨⟨_,rfl,(by exact Nz.same (by(simp;rfl)))⟩,trivial⟩ ⟨⟨_,rfl,rfl,rfl,rfl,(by exact .inl ⟨rfl,(by(simp;done))⟩)⟩,⟨_,rfl,rfl,rfl,rfl,(by exact .inl ⟨rfl,(by(simp;exact⟨rfl,rfl⟩))⟩)⟩,⟨_,rfl,rfl,rfl,rfl,(by exact .inl ⟨rfl,(by(simp;done))⟩)⟩,trivial⟩ trivial)) (Fin.wk (by(simp;rfl)) (Hc (by(simp;exact⟨rfl,rfl⟩))<|Hb<|Hb<|Hb<|trivial) trivial))) ?_;exact Qq
end Go.Proofs.YtmkgeogoojcciaaGreatDoor
namespace Go.Abs
section
section
variable {α:Type}
def fC (κ:KeyKind α) (l:List (α×AV×Nat)):List (List AV):=l.map fun p=>[.pv (κ.pv p.1),p.2.1,.pv (.int .i64 (p.2.2:Int))]
def DB (l:List (α×AV×Nat)):List (α×AV):=l.map fun p=>(p.1,p.2.1)
theorem rH (κ:KeyKind α) (l:List (α×AV×Nat)):(fC κ l).length=l.length:=by simp [fC]
theorem y0 {κ:KeyKind α} {l:List (α×AV×Nat)} {i:Nat} {r:List AV}:(fC κ l)[i]?=some r↔∃ p,l[i]?=some p∧r=[.pv (κ.pv p.1),p.2.1,.pv (.int .i64 (p.2.2:Int))]:=by
 rw [fC,XX];cases l[i]? with
 | none=>simp
 | some p=>simp [eq_comm]
structure GMapAt (w:World) (I:Nat→Prop) (ι:b9) (H:aA) (κ:KeyKind α) (l:List (α×AV×Nat)) (c:Nat) (es:Array MapEntry):Prop where
 size:es.size=l.length
 rel:∀ (i:Nat) (p:α×AV×Nat),l[i]?=some p→∃ e,es[i]?=some e∧e.born=p.2.2∧e.key=κ.val p.1∧VRel w I ι H e.val p.2.1
 lt:∀ (i:Nat) (e:MapEntry),es[i]?=some e→e.born < c
 inc:∀ (i j:Nat) (e e':MapEntry),i < j→es[i]?=some e→es[j]?=some e'→e.born < e'.born
theorem kX {w:World} {I:Nat→Prop} {ι:b9} {H:aA} {id b:Nat} {ob:Ob} {κ:KeyKind α} {l:List (α×AV×Nat)} (h:dT w I ι H id ob) (hz:ob.sz=0) (hι:ι id=some (b,0)) (hrows:ob.rows=fC κ l) :
  ∃ es,w.heap[b]?=some (.map es ob.ty)∧¬ I b∧GMapAt w I ι H κ l ob.ty es:=by
 obtain ⟨_,b',es,e1,e2,e3,e4,e5,e6,e7⟩:=h.map hz hι;rw [hι] at e1;cases e1;refine⟨es,e2,e3,⟨by rw [e4,hrows,rH],fun i p hp=>?_,e5,e6⟩⟩;obtain ⟨e,k,a,n,q1,q2,q3,q4,q5⟩:=e7 i _ (by rw [hrows];exact y0.2 ⟨p,hp,rfl⟩);cases q2;exact⟨e,q1,by injection q5.int_inv with _ hh;omega,κ.rel _ _ _ _ q3.pv_inv,q4⟩
theorem Rel.gremap {I:Nat→Prop} {ι:b9} {H H':aA} {w:World} {id b c:Nat} {ob ob':Ob} {κ:KeyKind α} {l:List (α×AV×Nat)} {es0 es':Array MapEntry} {c0:Nat} (hr:Rel I ι H w) (hH:H.get id=some ob) (hι:ι id=some (b,0)) (hz:ob.sz=0) (hb:w.heap[b]?=some (.map es0 c0)) (hg:ob'.g=ob.g) (hz':ob'.sz=0) (hty:ob'.ty=c) (hrows:ob'.rows=fC κ l)
  (hm:GMapAt w I ι H κ l c es') (h1:H'.get id=some ob') (h2:∀ j,j≠id→H'.get j=H.get j):Rel I ι H' (World.setObj w b (.map es' c))∧Step I ι H w I ι H' (World.setObj w b (.map es' c)):=by
 refine hr.rewrite hH hι hz hb rfl rfl hg hz' (fun _ hs1 hI hmono=>?_) h1 h2;refine .inr (.inl ⟨hz',b,es',hι,by rw [hty];exact hs1,hI,by rw [hm.size,hrows,rH],fun i e hi=>by rw [hty];exact hm.lt i e hi,hm.inc,fun i r hr'=>?_⟩);rw [hrows] at hr';obtain ⟨p,hp,rfl⟩:=y0.1 hr';obtain ⟨e,q1,q2,q3,q4⟩:=hm.rel i p hp;exact⟨e,_,_,_,q1,rfl,by rw [q3];exact .pv (κ.rep _ _ p.1),hmono _ _ q4,by rw [q2];exact .pv (.int _ _)⟩
variable [DecidableEq α]
def rI:List (α×AV×Nat)→α→AV→Nat→List (α×AV×Nat)
 | [],k,v,c=>[(k,v,c)]
 | (k',a,n)::r,k,v,c=>if k'=k then(k,v,n)::r else(k',a,n)::rI r k v c
def rN:List (α×AV×Nat)→α→List (α×AV×Nat)
 | [],_=>[]
 | (k',a,n)::r,k=>if k'=k then r else(k',a,n)::rN r k
def wI (l:List (α×AV×Nat)) (k:α) (c:Nat):Nat:=if(kF (DB l) k).isSome then c else c+1
theorem DE {w:World} {I:Nat→Prop} {ι:b9} {H:aA} (κ:KeyKind α) (k:α):∀ (l:List (α×AV×Nat)) (es:List MapEntry) (i:Nat),es.length=l.length→(∀ (i:Nat) (p:α×AV×Nat),l[i]?=some p→∃ e,es[i]?=some e∧e.key=κ.val p.1∧VRel w I ι H e.val p.2.1) →
  (Instr.findNow κ.d (κ.val k) es i=some none∧kF (DB l) k=none∧(∀ v c,rI l k v c=l++[(k,v,c)])∧rN l k=l) ∨
  ∃ j e a n,Instr.findNow κ.d (κ.val k) es i=some (some (i+j,e.val))∧es[j]?=some e∧e.key=κ.val k∧kF (DB l) k=some a∧VRel w I ι H e.val a∧l[j]?=some (k,a,n)∧(∀ v c,rI l k v c=l.set j (k,v,n))∧rN l k=l.eraseIdx j
 | [],[],i,_,_=>.inl ⟨rfl,rfl,fun _ _=>rfl,rfl⟩
 | (k',a,n)::l,e::es,i,hl,hr=>by
  obtain ⟨e0,z1,z2,z3⟩:=hr 0 (k',a,n) rfl;cases z1;obtain ⟨r,hr1,hiff⟩:=MapKept.sameNow_of_keys (κ.is k) (show MapKept.IsKey κ.d e.key by rw [z2];exact κ.is k');by_cases hk:k'=k
  ·subst hk;have hrt:r=true:=hiff.2 z2.symm;subst hrt;exact .inr ⟨0,e,a,n,by simp [Instr.findNow,hr1],rfl,z2,by simp [kF,DB],z3,rfl,fun v c=>by simp [rI],by simp [rN]⟩
  have hrf:r=false:=by
   cases r with
   | false=>rfl
   | true=>exact absurd (κ.inj _ _ ((hiff.1 rfl).trans z2)).symm hk
  subst hrf;rcases DE κ k l es (i+1) (by simpa using hl) (fun i p hp=>hr (i+1) p hp)with⟨h1,h2,h3,h4⟩|⟨j,e',a',n',h1,h2,h3,h4,h5,h6,h7,h8⟩
  ·exact .inl ⟨by simp [Instr.findNow,hr1,h1],by simpa [kF,DB,hk] using h2,fun v c=>by simp [rI,hk,h3],by simp [rN,hk,h4]⟩
  exact .inr ⟨j+1,e',a',n',by simp [Instr.findNow,hr1,h1];omega,by simpa using h2,h3,by simpa [kF,DB,hk] using h4,h5,by simpa using h6,fun v c=>by simp [rI,hk,h7],by simp [rN,hk,h8]⟩
section
variable {P:Program} {N:Nat} {o:Oper} {E:bI} {H:aA} {T kt et:TypeId} {x y z:Operand} {κ:KeyKind α} {l:List (α×AV×Nat)} {id g:Nat} {ob:Ob} {k:α}
theorem rJ {w:World} {I:Nat→Prop} {ι:b9} {c:Nat} {es:Array MapEntry} (h:GMapAt w I ι H κ l c es) (k:α) :
  (Instr.findNow κ.d (κ.val k) es.toList 0=some none∧kF (DB l) k=none∧(∀ v c,rI l k v c=l++[(k,v,c)])∧rN l k=l) ∨
  ∃ j e a n,Instr.findNow κ.d (κ.val k) es.toList 0=some (some (0+j,e.val))∧es.toList[j]?=some e∧e.key=κ.val k∧kF (DB l) k=some a∧VRel w I ι H e.val a∧l[j]?=some (k,a,n)∧(∀ v c,rI l k v c=l.set j (k,v,n))∧rN l k=l.eraseIdx j :=
 DE κ k l es.toList 0 (by simpa using h.size) (fun i p hp=>let ⟨e,q1,_,q3⟩:=h.rel i p hp;⟨e,by simpa using q1,q3⟩)
theorem NU {zv:Value} {v0:AV} (ho:o.op=.lookup T x y false) (hT:P.underlying T=some (.map kt et)) (hd:P.underlying kt=some κ.d) (hx:aP E x=some (.mp id g)) (hH:H.get id=some ob) (hg:ob.g=g)
  (hrows:ob.rows=fC κ l) (hy:aP E y=some (.pv (κ.pv k))) (hz:∀ w,(zeroValue et).run P w=.ok zv w) (hv:ZV zv v0):bW P N o E H ((kF (DB l) k).getD v0) H :=
 .of_run fun a w I ι hr he=>by
  obtain ⟨hsz,b,hι,hvx⟩:=nT (aD he hx) hH hg;obtain ⟨es,e2,e3,e4⟩:=kX (hr.obj id ob hH) hsz hι hrows;have hvy:=qS (aD he hy);rcases rJ e4 k with⟨h1,h2,h3,_⟩|⟨j,e,a',n,h1,h2,h3,h4,h5,_⟩
  ·refine⟨zv,?_,by rw [h2];exact hv.rel⟩;simp only [execOp,ho,hvx,hvy];simp [Instr.lookup,run_underlying hT,MapKept.run_getObj_map e2,MapKept.run_checkKey hd (κ.is k),MapKept.run_findKey hd h1,hz]
  refine⟨e.val,?_,by rw [h4];exact h5⟩;simp only [execOp,ho,hvx,hvy];simp [Instr.lookup,run_underlying hT,MapKept.run_getObj_map e2,MapKept.run_checkKey hd (κ.is k),MapKept.run_findKey hd h1]
theorem DF {zv:Value} {v0:AV} (ho:o.op=.lookup T x y true) (hT:P.underlying T=some (.map kt et)) (hd:P.underlying kt=some κ.d) (hx:aP E x=some (.mp id g)) (hH:H.get id=some ob) (hg:ob.g=g)
  (hrows:ob.rows=fC κ l) (hy:aP E y=some (.pv (κ.pv k))) (hz:∀ w,(zeroValue et).run P w=.ok zv w) (hv:ZV zv v0):bW P N o E H (.tup [(kF (DB l) k).getD v0,.pv (.bool (kF (DB l) k).isSome)]) H :=
 .of_run fun a w I ι hr he=>by
  obtain ⟨hsz,b,hι,hvx⟩:=nT (aD he hx) hH hg;obtain ⟨es,e2,e3,e4⟩:=kX (hr.obj id ob hH) hsz hι hrows;have hvy:=qS (aD he hy);have two:∀ {u:Value} {a:AV} {c:Bool},VRel w I ι H u a→VRel w I ι H (.tuple #[u,.bool c]) (.tup [a,.pv (.bool c)]):=fun {u a c} hu=>.tup rfl (fun i v q hv hq=>by
   match i with
   | 0=>simp at hv hq;subst hv hq;exact hu
   | 1=>simp at hv hq;subst hv hq;exact .pv (.bool _)
   | i+2=>simp at hv)
  rcases rJ e4 k with⟨h1,h2,h3,_⟩|⟨j,e,a',n,h1,h2,h3,h4,h5,_⟩
  ·refine⟨.tuple #[zv,.bool false],?_,by rw [h2];exact two hv.rel⟩;simp only [execOp,ho,hvx,hvy];simp [Instr.lookup,run_underlying hT,MapKept.run_getObj_map e2,MapKept.run_checkKey hd (κ.is k),MapKept.run_findKey hd h1,hz]
  refine⟨.tuple #[e.val,.bool true],?_,by rw [h4];exact two h5⟩;simp only [execOp,ho,hvx,hvy];simp [Instr.lookup,run_underlying hT,MapKept.run_getObj_map e2,MapKept.run_checkKey hd (κ.is k),MapKept.run_findKey hd h1]
theorem fZ {v:AV} {c c':Nat} {l':List (α×AV×Nat)} (ho:o.op=.mapUpdate T x y z∨o.op=.insert T x y z) (hT:P.underlying T=some (.map kt et)) (hd:P.underlying kt=some κ.d) (hx:aP E x=some (.mp id g)) (hH:H.get id=some ob) (hg:ob.g=g)
  (hty:ob.ty=c) (hrows:ob.rows=fC κ l) (hy:aP E y=some (.pv (κ.pv k))) (hz:aP E z=some v) (hl:rI l k v c=l') (hc:wI l k c=c'):bW P N o E H .any ((id,⟨g,ob.sz,c',fC κ l'⟩)::H):=by
 intro a w I ι _ _ hr he K Q hkk;obtain ⟨hsz,b,hι,hvx⟩:=nT (aD he hx) hH hg;obtain ⟨es,e2,e3,e4⟩:=kX (hr.obj id ob hH) hsz hι hrows;rw [hty] at e2 e4;have hvy:=qS (aD he hy);have hvz:=aD he hz;subst hl hc hg;have fin:∀ es',(Instr.mapUpdate T (a.eval x) (a.eval y) (a.eval z)).run P w=.ok () (World.setObj w b (.map es' (wI l k c)))→GMapAt w I ι H κ (rI l k v c) (wI l k c) es'→o.wpW P a w K Q:=by
  intro es' hrun hm;obtain ⟨k2,k3⟩:=Rel.gremap (H':=(id,⟨ob.g,ob.sz,wI l k c,fC κ (rI l k v c)⟩)::H) (ob':=⟨ob.g,ob.sz,wI l k c,fC κ (rI l k v c)⟩) hr hH hι hsz e2 rfl hsz rfl rfl hm (get_cons_same _ _ _) (fun j hj=>get_cons_other _ _ hj);unfold Oper.wpW execOp;rcases ho with ho|ho
  ·simp only [ho,Sem.run_bind,hrun,Result.andThen_ok,Sem.run_pure];exact hkk _ _ I ι _ _ ⟨rfl,rfl⟩ (.any _) k2 k3
  simp only [ho,Sem.run_bind,hrun,Result.andThen_ok,Sem.run_pure];exact hkk _ _ I ι _ _ ⟨rfl,rfl⟩ (.any _) k2 k3
 rcases rJ e4 k with⟨h1,h2,h3,_⟩|⟨j,e,a',n,h1,h2,h3,h4,h5,h6,h7,h8⟩
 ·have hcl:wI l k c=c+1:=by rw [wI,h2];rfl
  refine fin (es.push {key:=κ.val k,val:=a.eval z,born:=c}) ?_ ⟨?_,?_,?_,?_⟩
  ·simp [Instr.mapUpdate,hvx,hvy,run_underlying hT,MapKept.run_getObj_map e2,MapKept.run_checkKey hd (κ.is k),MapKept.run_findKey hd h1,MapKept.run_setObj_map _ e2,World.setObj,hcl]
  ·rw [h3];simp [e4.size]
  ·intro i p hp;rw [h3] at hp;by_cases hi:i < l.length
   ·rw [List.getElem?_append_left hi] at hp;obtain ⟨e,q1,q2⟩:=e4.rel i p hp;exact⟨e,by rw [Array.getElem?_push,XB (by rw [e4.size];omega)];exact q1,q2⟩
   rw [List.getElem?_append_right (by omega)] at hp;cases hil:i - l.length with
   | zero =>
    rw [hil] at hp;cases hp;exact⟨_,by rw [Array.getElem?_push,XC (by rw [e4.size];omega)],rfl,rfl,hvz⟩
   | succ m=>rw [hil] at hp;simp at hp
  ·intro i e hi;rw [Array.getElem?_push] at hi
   split at hi
   ·cases hi;show c < _;omega
   have:=e4.lt i e hi;omega
  intro i j' e e' hij hi hj;have hjs:j' < es.size+1:=by
   have:=(Array.getElem?_eq_some_iff.1 hj).1
   simpa using this
  rw [Array.getElem?_push,XB (by omega)] at hi;rw [Array.getElem?_push] at hj
  split at hj
  ·cases hj;exact e4.lt i e hi
  exact e4.inc i j' e e' hij hi hj
 have hj:es[j]?=some e:=by simpa using h2
 have hjl:j < es.size:=(Array.getElem?_eq_some_iff.1 hj).1;have hcl:wI l k c=c:=by rw [wI,h4];rfl
 have hbe:e.born=n:=by
  obtain ⟨e',q1,q2,_⟩:=e4.rel j _ h6;rw [hj] at q1;cases q1;exact q2
 have hmod:∀ (i:Nat) (x:MapEntry),(es.modify j fun e=>{e with key:=κ.val k,val:=a.eval z})[i]?=some x→∃ y,es[i]?=some y∧y.born=x.born:=by
  intro i x hx;rw [Array.getElem?_modify] at hx
  split at hx
  ·next hij =>
   subst hij;rw [hj] at hx;cases hx;exact⟨e,hj,rfl⟩
  exact⟨x,hx,rfl⟩
 refine fin (es.modify j fun e=>{e with key:=κ.val k,val:=a.eval z}) ?_ ⟨?_,?_,?_,?_⟩
 ·simp [Instr.mapUpdate,hvx,hvy,run_underlying hT,MapKept.run_getObj_map e2,MapKept.run_checkKey hd (κ.is k),MapKept.run_findKey hd h1,hj,h3,MapKept.run_keyThatStays (κ.is k),MapKept.run_setObj_map _ e2,World.setObj,hcl]
 ·rw [h7];simp [e4.size]
 ·intro i p hp;rw [h7] at hp;by_cases e0:i=j
  ·subst e0;rw [List.getElem?_set_self (by rw [← e4.size];exact hjl)] at hp;cases hp;exact⟨{e with key:=κ.val k,val:=a.eval z},by rw [Array.getElem?_modify,XC rfl,hj];rfl,hbe,rfl,hvz⟩
  rw [List.getElem?_set_ne (Ne.symm e0)] at hp;obtain ⟨e',q1,q2⟩:=e4.rel i p hp;exact⟨e',by rw [Array.getElem?_modify,XB (Ne.symm e0)];exact q1,q2⟩
 ·intro i x hx;obtain ⟨y,y1,y2⟩:=hmod i x hx;rw [← y2,hcl];exact e4.lt i y y1
 intro i i' x x' hii hx hx';obtain ⟨y,y1,y2⟩:=hmod i x hx;obtain ⟨y',y3,y4⟩:=hmod i' x' hx';rw [← y2,← y4];exact e4.inc i i' y y' hii y1 y3
theorem J4 {β:Type} {l:List β} {j i:Nat}:(l.eraseIdx j)[i]?=if i < j then l[i]? else l[i+1]?:=List.getElem?_eraseIdx
theorem wJ {c:Nat} {l':List (α×AV×Nat)} (ho:o.op=.call {callee:=.builtin .delete,args:=#[x,y],argTypes:=#[T,kt]}) (hT:P.underlying T=some (.map kt et)) (hd:P.underlying kt=some κ.d) (hx:aP E x=some (.mp id g)) (hH:H.get id=some ob) (hg:ob.g=g)
  (hty:ob.ty=c) (hrows:ob.rows=fC κ l) (hy:aP E y=some (.pv (κ.pv k))) (hl:rN l k=l'):bW P N o E H .any ((id,⟨g,ob.sz,c,fC κ l'⟩)::H):=by
 intro a w I ι _ _ hr he K Q hkk;obtain ⟨hsz,b,hι,hvx⟩:=nT (aD he hx) hH hg;obtain ⟨es,e2,e3,e4⟩:=kX (hr.obj id ob hH) hsz hι hrows;rw [hty] at e2 e4;have hvy:=qS (aD he hy);subst hl hg;have fin:∀ es',(execOp a.eval o).run P w=.ok (.value (.tuple #[])) (World.setObj w b (.map es' c))→GMapAt w I ι H κ (rN l k) c es'→o.wpW P a w K Q:=by
  intro es' hrun hm;obtain ⟨k2,k3⟩:=Rel.gremap (H':=(id,⟨ob.g,ob.sz,c,fC κ (rN l k)⟩)::H) (ob':=⟨ob.g,ob.sz,c,fC κ (rN l k)⟩) hr hH hι hsz e2 rfl hsz rfl rfl hm (get_cons_same _ _ _) (fun j hj=>get_cons_other _ _ hj);unfold Oper.wpW;rw [hrun];exact hkk _ _ I ι _ _ ⟨rfl,rfl⟩ (.any _) k2 k3
 rcases rJ e4 k with⟨h1,h2,h3,h4⟩|⟨j,e,a',n,h1,h2,h3,h4,h5,h6,h7,h8⟩
 ·refine fin es ?_ (by rw [h4];exact e4);unfold execOp;simp only [ho,resolve,invoke,builtin,Sem.run_bind,Sem.run_pure,Result.andThen_ok,List.map_toArray,List.map_cons,List.map_nil,hvx,hvy];simp [Builtin.delete_,run_underlying hT,MapKept.run_getObj_map e2,MapKept.run_checkKey hd (κ.is k),MapKept.run_findKey hd h1,MapKept.run_setObj_map _ e2,World.setObj]
 have hj:es[j]?=some e:=by simpa using h2
 have hjl:j < es.size:=(Array.getElem?_eq_some_iff.1 hj).1;have her:es.eraseIdxIfInBounds j=es.eraseIdx j hjl:=by rw [Array.eraseIdxIfInBounds,dif_pos hjl]
 have hget:∀ i:Nat,(es.eraseIdx j hjl)[i]?=if i < j then es[i]? else es[i+1]?:=fun i=>Array.getElem?_eraseIdx ..
 refine fin (es.eraseIdx j hjl) ?_ ⟨?_,?_,?_,?_⟩
 ·unfold execOp;simp only [ho,resolve,invoke,builtin,Sem.run_bind,Sem.run_pure,Result.andThen_ok,List.map_toArray,List.map_cons,List.map_nil,hvx,hvy];simp [Builtin.delete_,run_underlying hT,MapKept.run_getObj_map e2,MapKept.run_checkKey hd (κ.is k),MapKept.run_findKey hd h1,MapKept.run_setObj_map _ e2,World.setObj,her]
 ·rw [h8,List.length_eraseIdx,XC (by rw [← e4.size];exact hjl),← e4.size];simp
 ·intro i p hp;rw [h8,J4] at hp;rw [hget]
  split at hp
  ·next hi=>rw [XC hi];exact e4.rel i p hp
  next hi=>rw [XB hi];exact e4.rel (i+1) p hp
 ·intro i x hx;rw [hget] at hx
  split at hx
  ·exact e4.lt _ x hx
  exact e4.lt _ x hx
 intro i i' x x' hii hx hx';rw [hget] at hx hx'
 split at hx<;>split at hx'
 ·exact e4.inc _ _ x x' hii hx hx'
 ·exact e4.inc _ _ x x' (by omega) hx hx'
 ·omega
 exact e4.inc _ _ x x' (by omega) hx hx'
end
end
section
variable {α:Type} {P:Program} {N:Nat} {o:Oper} {E:bI} {H:aA} {T kt et:TypeId} {x y z:Operand} {κ:KeyKind α} {l:List (α×AV×Nat)} {id g q gq since last c:Nat} {ob oq:Ob} {seen:List Nat}
theorem tU (ho:o.op=.call {callee:=.builtin .len,args:=#[x],argTypes:=#[T]}) (hT:P.underlying T=some (.map kt et)) (hx:aP E x=some (.mp id g)) (hH:H.get id=some ob) (hg:ob.g=g) (hrows:ob.rows=fC κ l) :
  bW P N o E H (.pv (.int .i64 l.length)) H :=
 .of_run fun a w I ι hr he=>by
  obtain ⟨hsz,b,hι,hvx⟩:=nT (aD he hx) hH hg;obtain ⟨es,e2,e3,e4⟩:=kX (hr.obj id ob hH) hsz hι hrows;refine⟨.int .i64 l.length,?_,.pv (.int _ _)⟩;simp [execOp,ho,resolve,invoke,builtin,hvx,Builtin.len_,run_underlying hT,MapKept.run_getObj_map e2,goInt,e4.size]
theorem uV (ho:o.op=.range T x) (hT:P.underlying T=some (.map kt et)) (hx:aP E x=some (.mp id g)) (hH:H.get id=some ob) (hg:ob.g=g) (hrows:ob.rows=fC κ l) (hty:ob.ty=c) (hq:H.get q=none) :
  bW P N o E H (.it q 0) ((q,⟨0,0,0,dV (.mp id g) c c []⟩)::H):=by
 intro a w I ι _ _ hr he K Q hk;have hvx0:=aD he hx;obtain ⟨hsz,b,hι,hvx⟩:=nT hvx0 hH hg;obtain ⟨es,e2,e3,e4⟩:=kX (hr.obj id ob hH) hsz hι hrows;rw [hty] at e2;obtain ⟨k2,k3⟩:=Rel.placeX (H':=(q,⟨0,0,0,dV (.mp id g) c c []⟩)::H) (id:=q) (cap:=1) (ob':=⟨0,0,0,dV (.mp id g) c c []⟩) (x:=.mapIter (some b) c #[] c) (w':=w.alloc (.mapIter (some b) c #[] c)) hr rfl rfl rfl rfl
  (fun o ho=>by rw [hq] at ho;cases ho) (fun hnew hI hmono=>.inr (.inr (.inl ⟨rfl,w.heap.size,some b,c,#[],c,by simp,hnew,hI,rfl,⟨_,_,_,rfl,by rw [← hvx];exact hmono _ _ hvx0,.pv (.int _ _),.pv (.int _ _)⟩,fun i r hr'=>by simp [dV] at hr'⟩)))
  (get_cons_same _ _ _) (fun j hj=>get_cons_other _ _ hj)
 have hrun:(execOp a.eval o).run P w=.ok (.value (.pointer (some ⟨w.heap.size,0,none⟩))) (w.alloc (.mapIter (some b) c #[] c)):=by
  simp only [execOp,ho,hvx];simp [Instr.range,run_underlying hT,MapKept.run_getObj_map e2]
 unfold Oper.wpW;rw [hrun];exact hk _ _ I _ _ _ ⟨rfl,rfl⟩ (.it ⟨0,0,0,dV (.mp id g) c c []⟩ (get_cons_same _ _ _) (XJ _) rfl fun _=>⟨rfl,w.heap.size,by simp,rfl⟩) k2 k3
theorem NR {w:World} {I:Nat→Prop} {ι:b9} {es:Array MapEntry} (h:GMapAt w I ι H κ l c es) :
  ((leftOf es seen.toArray).size=0→∀ p∈l,p.2.2∈seen)∧∀ e∈(leftOf es seen.toArray).toList,∃ (i:Nat) (p:α×AV×Nat),l[i]?=some p∧p.2.2∉seen∧e.born=p.2.2∧e.key=κ.val p.1∧VRel w I ι H e.val p.2.1:=by
 constructor
 ·intro h0 p hp;obtain ⟨i,hi⟩:=XY.1 hp;obtain ⟨e,q1,q2,_⟩:=h.rel i p hi;have h1:leftOf es seen.toArray=#[]:=Array.eq_empty_of_size_eq_zero h0;rw [leftOf,Array.filter_eq_empty_iff] at h1;have:=h1 e (Array.mem_of_getElem? q1);simp only [Bool.not_eq_true',Bool.not_eq_false,List.contains_toArray,List.contains_eq_mem,XK] at this;rw [← q2];simpa using this
 intro e he;simp only [leftOf,Array.toList_filter,List.mem_filter,Bool.not_eq_true',List.contains_toArray,List.contains_eq_mem,XL] at he;obtain ⟨h1,h2⟩:=he;obtain ⟨i,hi⟩:=XY.1 h1;have hi':es[i]?=some e:=by simpa using hi
 have hlt:i < l.length:=by rw [← h.size];exact(Array.getElem?_eq_some_iff.1 hi').1
 obtain ⟨e',z1,z2,z3⟩:=h.rel i l[i] (XI hlt);rw [hi'] at z1;cases z1;exact⟨i,l[i],XI hlt,by rw [← z2];exact h2,z2,z3⟩
theorem A8 (ho:o.op=.next x false) (hx:aP E x=some (.it q gq)) (hQ:H.get q=some oq) (hgq:oq.g=gq) (hrq:oq.rows=dV (.mp id g) since last seen) (hH:H.get id=some ob) (hg:ob.g=g) (hrows:ob.rows=fC κ l) (hty:ob.ty=c)
  (hold:c≤since) (hlast:since≤last) :
  LG P N o E H (fun r H'=>(r=.tup [.pv (.bool false)]∧H'=H∧∀ p∈l,p.2.2∈seen)∨∃ (i:Nat) (p:α×AV×Nat),l[i]?=some p∧p.2.2∉seen∧r=.tup [.pv (.bool true),.pv (κ.pv p.1),p.2.1]∧H'=(q,⟨gq,0,oq.ty,dV (.mp id g) since c (seen++[p.2.2])⟩)::H):=by
 intro a w I ι _ _ hr he K Q hk;obtain ⟨hsz,b,hι,hvx⟩:=FN (aD he hx) hQ hgq;obtain ⟨bm,hιm,hmz,hbq,hI⟩:=HN (hr.obj q oq hQ) hsz hι hrq hH hg;obtain ⟨es,e2,e3,e4⟩:=kX (hr.obj id ob hH) hmz hιm hrows;rw [hty] at e2 e4;have hold':∀ x∈es.toList,x.born < since:=fun x hx=>by
  obtain ⟨i,hi⟩:=XY.1 hx;have:=e4.lt i x (by simpa using hi);omega
 obtain ⟨l1,l2⟩:=NR (seen:=seen) e4;rcases MJ (P:=P) w o.type b bm since last seen.toArray es c hbq e2 hold' hlast with⟨h0,hrun⟩|⟨e,he',d,hrun⟩
 ·unfold Oper.wpW execOp;simp only [ho,hvx,Sem.run_bind,hrun,Result.andThen_ok,Sem.run_pure];refine hk _ _ I ι _ _ (.inl ⟨rfl,rfl,l1 h0⟩) (.tup rfl (fun i v c hv hc=>?_)) hr (Step.refl _ _ _ _)
  match i with
  | 0=>simp at hv hc;subst hv hc;exact .pv (.bool _)
  | i+1=>simp at hv
 obtain ⟨i,p,hip,hni,hbn,hkey,hval⟩:=l2 e he';obtain ⟨r1,r2⟩:=hr.drawn (w':={w with drawn:=d}) rfl rfl rfl rfl;have hq2:aA.get ((q,⟨gq,0,oq.ty,dV (.mp id g) since c (seen++[p.2.2])⟩)::H) q=some ⟨gq,0,oq.ty,dV (.mp id g) since c (seen++[p.2.2])⟩:=get_cons_same _ _ _;have hmp:VRel {w with drawn:=d} I ι H (.map (some bm)) (.mp id g):=.mp ob hH (by omega) rfl fun _=>⟨hmz,bm,hιm,rfl⟩;obtain ⟨k2,k3⟩:=Rel.rewrite (H':=(q,⟨gq,0,oq.ty,dV (.mp id g) since c (seen++[p.2.2])⟩)::H) (ob':=⟨gq,0,oq.ty,dV (.mp id g) since c (seen++[p.2.2])⟩) (x:=.mapIter (some bm) since (seen.toArray.push e.born) c) r1 hQ hι hsz hbq rfl rfl hgq.symm rfl
  (fun _ hs1 hI' hmono=>.inr (.inr (.inl ⟨rfl,b,some bm,since,seen.toArray.push e.born,c,hι,hs1,hI',by simp [dV],⟨_,_,_,rfl,hmono _ _ hmp,.pv (.int _ _),.pv (.int _ _)⟩,fun j r hj=>by
   simp only [dV,List.getElem?_cons_succ,XX] at hj;obtain ⟨n,hn,rfl⟩:=Option.map_eq_some_iff.1 hj;refine⟨n,_,?_,rfl,.pv (.int _ _)⟩;rw [hbn]
   simpa using hn⟩))) hq2 (fun j hj=>get_cons_other _ _ hj)
 unfold Oper.wpW execOp;simp only [ho,hvx,Sem.run_bind,hrun,Result.andThen_ok,Sem.run_pure];refine hk _ _ I ι _ _ (.inr ⟨i,p,hip,hni,rfl,rfl⟩) (.tup rfl (fun j v c hv hc=>?_)) k2 (r2.trans k3)
 match j with
 | 0=>simp at hv hc;subst hv hc;exact .pv (.bool _)
 | 1=>simp at hv hc;subst hv hc;rw [hkey];exact .pv (κ.rep _ _ _)
 | 2=>simp at hv hc;subst hv hc;exact(hval.mono hr r2).mono r1 k3
 | j+3=>simp at hv
theorem uW {i:Nat} {p:α×AV×Nat} (ho:o.op=.entry x) (hx:aP E x=some (.it q gq)) (hQ:H.get q=some oq) (hgq:oq.g=gq) (hrq:oq.rows=dV (.mp id g) since c (seen++[p.2.2])) (hH:H.get id=some ob) (hg:ob.g=g) (hrows:ob.rows=fC κ l) (hty:ob.ty=c)
  (hip:l[i]?=some p):bW P N o E H (.tup [.pv (κ.pv p.1),p.2.1]) H :=
 .of_run fun a w I ι hr he=>by
  obtain ⟨hsz,b,hι,hvx⟩:=FN (aD he hx) hQ hgq;obtain ⟨bm,hιm,hmz,hbq,hI⟩:=HN (hr.obj q oq hQ) hsz hι hrq hH hg;obtain ⟨es,e2,e3,e4⟩:=kX (hr.obj id ob hH) hmz hιm hrows;rw [hty] at e2;obtain ⟨e,q1,q2,q3,q4⟩:=e4.rel i p hip;have hf:es.find? (·.born == p.2.2)=some e:=by
   rw [← Array.find?_toList,← q2];refine find_born e es.toList ?_ (by simpa using Array.mem_of_getElem? q1);refine List.pairwise_iff_getElem.2 fun j k hj hk hjk=>?_;have hk':k < es.size:=by simpa using hk
   have z:=e4.inc j k _ _ hjk (Array.getElem?_eq_getElem (by omega)) (Array.getElem?_eq_getElem hk');simp only [List.getElem_map,Array.getElem_toList];omega
  refine⟨.tuple #[e.key,e.val],?_,.tup rfl (fun j v c hv hc=>?_)⟩
  ·simp only [execOp,ho,hvx];simp [Instr.entry,getObj,Sem.run,hbq,e2,hf]
  match j with
  | 0=>simp at hv hc;subst hv hc;rw [q3];exact .pv (κ.rep _ _ _)
  | 1=>simp at hv hc;subst hv hc;exact q4
  | j+2=>simp at hv
end
end
end Go.Abs
section
namespace Go.Abs
section
variable {P:Program} {N:Nat} {o:Oper} {E:bI} {H:aA} {t t':TypeId} {x:Operand}
abbrev TI (b:Bool):PV:=bif b then J3 else FK
theorem qY {b:Bool} (ho:o.op=.binOp .neq t x (.const .nilIface) t') (ht:P.underlying t=some (.interface (P.methodsAt t))) (hx:aP E x=some (.pv (TI b))):bW P N o E H (.pv (.bool b)) H:=by
 cases b
 ·exact FA ho ht hx
 exact FB ho ht hx
end
def cW (s:ByteArray):Int:=(oH s).1
def gG (s:ByteArray):Bool:=match Lib.atoiAll s.data.toList with
 | .ok _=>false
 | _=>true
theorem OV (s:ByteArray):oH s=(cW s,TI (gG s)):=by rw [cW,gG,oH];cases Lib.atoiAll s.data.toList<;>rfl
end Go.Abs
namespace Go.Proofs.YtmkgeogoojcciaaGreatDoor
open Go.Proofs.Tryz
open Go.Abs Go.Lib
theorem u4 (s:ByteArray) (hs:s.size < 1099511627776) (H:aA):aK Tryz.prog 82 [sv s] H (fun r H'=>r=.tup [iv (cW s),.pv (TI (gG s))]∧H'=H):=by
 have:=R4 s hs H
 rwa [OV] at this
def bL (l:List (ByteArray×ByteArray×Nat)):List (ByteArray×AV×Nat):=l.map fun p=>(p.1,sv p.2.1,p.2.2)
abbrev bJ (l:List (ByteArray×ByteArray×Nat)) (c:Nat):Ob:=⟨0,0,c,fC eE (bL l)⟩
abbrev b6 (k a n:Nat) (b:Bool):Ob:=⟨0,6,72,[[.ref 1000 0 0 0,iv (k:Int),iv (a:Int),iv (n:Int),.mp 1101 0,bv b]]⟩
abbrev sH (s:DSt) (o:Ob) (m:Ob):aA:=[(1000,⟨0,4,80,[oF s]⟩),(1001,⟨0,1,5,bG (flat s.cells)⟩),(1002,⟨s.gq,3,103,tM s.q⟩),(1003,⟨s.ga,3,100,nA s.arm⟩),(1100,o),(1101,m)]
theorem aQ (l:List (ByteArray×ByteArray×Nat)) (c:Nat) (H:aA):∀ r∈(bJ l c).rows,∀ a∈r,Clo H a:=by intro r hr a ha;obtain ⟨p,hp,rfl⟩:=List.mem_map.1 hr;obtain ⟨q,_,rfl⟩:=List.mem_map.1 hp;simp only [XP,XT,or_false] at ha;rcases ha with rfl|rfl|rfl<;>exact .pv _
theorem bD {H:aA} {k a n:Nat} {b:Bool} (h1:(H.get 1000).isSome=true) (h2:(H.get 1101).isSome=true):∀ r∈(b6 k a n b).rows,∀ x∈r,Clo H x:=by
 intro r hr x hx;rw [XG.1 hr] at hx;simp only [XP,XT,or_false] at hx;rcases hx with rfl|rfl|rfl|rfl|rfl|rfl
 ·exact .ref h1
 ·exact .pv _
 ·exact .pv _
 ·exact .pv _
 ·exact .mp h2
 exact .pv _
theorem RL {f:FuncId} {args:List AV} {s s':DSt} {r0:AV} {o m:Ob} (h:aK Tryz.prog f args (a7 s) (fun r H'=>r=r0∧H'=a7 s')) (ha:∀ a∈args,Clo (a7 s) a):aK Tryz.prog f args (sH s o m) (fun r H'=>r=r0∧H'=sH s' o m) :=(b8 h (sH s o m) ⟨rfl,rfl,rfl,rfl,trivial⟩ ha).congrH (fun j=>by
  simp only [sH,a7,aA.get,List.cons_append,List.nil_append];cases e0:Nat.beq 1000 j<;>cases e1:Nat.beq 1001 j<;>cases e2:Nat.beq 1002 j<;>cases e3:Nat.beq 1003 j<;>simp [e0,e1,e2,e3])
theorem oM (s:DSt) (k a n:Nat) (b:Bool) (l:List (ByteArray×ByteArray×Nat)) (c:Nat):bF (sH s (b6 k a n b) (bJ l c)):=bF.of (fun p hp=>by
 simp only [sH,XP,XT,or_false] at hp;rcases hp with rfl|rfl|rfl|rfl|rfl|rfl
 ·exact aF s _ rfl rfl rfl
 ·exact aC _ _
 ·exact aL _ _ _
 ·exact aJ _ _
 ·exact bD rfl rfl
 exact aQ _ _ _)
def yY (place a n:Nat):List UInt8:=mW place (dg a 1++dg n 7)
theorem mZ (n:Nat) {w:Nat} (h:n < 10 ^ w) (hw:0 < w):(decDigits n).length≤w:=dK h hw
theorem A5 (place a n:Nat) (hp:place < 1000000000000) (ha:a < 10) (hn:n < 1000000000000) (H:aA):aK Tryz.prog 83 [iv (place:Int),.agg [iv (a:Int),iv (n:Int)]] H (fun r H'=>r=sv (ofL (yY place a n))∧H'=H):=by
 refine Pu ?_;have h1:(ofL (dg a 1)).size=1:=by rw [bS,jP (mZ a (by omega) (by omega))]
 have h2:(ofL (dg n 7)).size≤28:=by rw [bS];exact oD n 7 hn
 have h3:(dg a 1++dg n 7).length≤48:=by rw [XE];rw [bS] at h1 h2;omega
 have e1:ofL (dg a 1)++ofL (dg n 7)=ofL (dg a 1++dg n 7):=q9 _ _;exact Bd func83 rfl ntmps83<|Sr<|Dd (by exact fP (id:=3) rfl rfl rfl rfl rfl)<|Dd aS<|Zz<|Sq<|bK follows<|Cq aE<|Cq (dP p8)<|Cq (eA aV)<|Cq (by exact aB rfl rfl w6 rfl (lY a 1 (by omega) (by omega) _))<|Cq (dP lD)<|Cq (eA aV)<|Cq (by exact aB rfl rfl w6 rfl (lY n 7 hn (by omega) _))<|Cq (by exact iA rfl rfl rfl (by omega) e1)<|Cq (by exact aB rfl rfl WC rfl (vF place (dg a 1++dg n 7) hp h3 _))<|Cq aS<|cM<|Kr<|aN<|Rt<|Qq
end Go.Proofs.YtmkgeogoojcciaaGreatDoor
end
namespace Go.Proofs.YtmkgeogoojcciaaGreatDoor
open Go.Proofs.Tryz
open Go.Abs Go.Lib
theorem OU {s:ByteArray} (h:gG s=false) : -9223372036854775808≤cW s∧cW s≤9223372036854775807:=by
 rw [gG] at h;rw [cW,oH];cases e:Lib.atoiAll s.data.toList with
 | ok v=>exact Lib.atoiAll_bounds e
 | range=>rw [e] at h;cases h
 | _=>rw [e] at h;cases h
theorem N2 (s:ByteArray) (i j:Nat):(s.extract i j).size≤s.size:=by rw [ByteArray.size_extract];omega
theorem kY {s:DSt} (hs:DOk s) {n:Nat} (hn:n < s.cells.length):(bT s n).size=64:=by
 rw [bT];cases e:s.q.reverse.find? (mY n)with
 | some p =>
  have:=List.mem_of_find?_eq_some e;exact(hs.q p (List.mem_reverse.1 this)).2
 | none =>
  rw [XI hn];exact hs.c _ (List.getElem_mem hn)
theorem uL {s:DSt} (hs:DOk s) (hoff:s.off=false) {n:Nat} (hn:n < s.cells.length):∀ H,EJ H (a7 s)→aK Tryz.prog 41 [.ref 1000 0 0 0,iv (n:Int)] H (fun r H'=>r=.tup [sv (bT s n),iv 0]∧H'=H):=fun H hH=>by
 have h:=aK.frameS (MN s (n:Int) hs) hH.sub (rP s) (by simp;rfl);have e:eY s (n:Int)=true:=by rw [iW];exact decide_eq_true hn
 rw [show wP s (n:Int)=bT s n by rw [wP,hoff,XB (by decide),XC e,XO],show mP s (n:Int)=0 by rw [mP,hoff,XB (by decide),XC e]] at h;exact h
def kE (t:ByteArray):Bool:=gG (t.extract 16 24)||decide (cW (t.extract 16 24) < 0)
def I7 (t:ByteArray):Nat:=(cW (t.extract 16 24)).toNat
def nP (t:ByteArray):Nat:=if kE t then 0 else I7 t / 10000000
def nO (t:ByteArray):Nat:=if kE t then 0 else I7 t % 10000000
def jR (k place:Nat) (t:ByteArray):Bool:=!kE t&&((decide (nP t < 2)&&decide (nO t≤k))&&decide (ofL (yY place (nP t) (nO t))=t))
theorem qV (s:DSt) (hs:DOk s) (hoff:s.off=false) (k a n place:Nat) (b:Bool) (l:List (ByteArray×ByteArray×Nat)) (c:Nat) (hp:place < s.cells.length) (hk:k < 10000000) :
  aK Tryz.prog 42 [.ref 1100 0 0 0,iv (place:Int)] (sH s (b6 k a n b) (bJ l c)) (fun r H'=>r=.tup [.agg [iv (nP (bT s place):Int),iv (nO (bT s place):Int)],bv (jR k place (bT s place))]∧H'=sH s (b6 k a n b) (bJ l c)):=by
 have ht:=kY hs hp;have hrd:=uL hs hoff hp;have hpl:place < 1000000000000:=by have:=hs.n2;omega
 obtain ⟨t,hT⟩:∃ t,t=bT s place:=⟨_,rfl⟩;rw [← hT] at ht hrd ⊢;clear hT;obtain ⟨x,hx⟩:∃ x,x=t.extract 16 24:=⟨_,rfl⟩;have hxs:x.size < 1099511627776:=by rw [hx];have:=N2 t 16 24;omega
 have hat:=fun H=>u4 x hxs H;have hbd:=OU (s:=x);have hpb:kE t=(gG x||decide (cW x < 0)):=by rw [kE,hx]
 have hpu:I7 t=(cW x).toNat:=by rw [I7,hx]
 obtain ⟨v,hv⟩:∃ v,v=cW x:=⟨_,rfl⟩;obtain ⟨e,he⟩:∃ e,e=gG x:=⟨_,rfl⟩;simp only [← hv,← he] at hat hbd hpb hpu;clear hv he;refine Bd func42 rfl ntmps42<|Sr<|Dd (by exact cC (id:=4) rfl LJ rfl rfl)<|Dd aS<|Zz<|Sr<|Dd aE<|Dd e8<|Dd (dP p7)<|Dd (eA lM)<|Dd aE<|Dd (by exact aB rfl rfl sA rfl (hrd _ ⟨rfl,rfl,rfl,rfl,trivial⟩))<|Dd aE<|Dd eB<|Dd eB<|Dd aS<|Dd aS<|Zz<|Sr<|Dd aE<|Dd (by exact cI (l:=16) (h:=24) rfl aI rfl rfl rfl (by omega) (by omega) hx.symm)<|Dd (by exact aB rfl rfl PT rfl (hat _))<|Dd aE<|Dd eB<|Dd eB<|Dd aS<|Dd aS<|Zz<|Sq<|Sq ?_;refine dA (t:=31) (n:=7) (X:=e||decide (v < 0)) ?_ ?_
 ·all_goals refine Dd aE ?_
  all_goals refine Dd (by exact qY rfl gW rfl)<|Dm ?_
  all_goals refine Sp 28 (fun h28=>?_) fun h28=>?_
  all_goals try contradiction
  all_goals first|refine Fo<|Fo ?_|refine On aE<|On dG ?_
  all_goals refine Dd gL<|Zz ?_
  all_goals(exact⟨⟨_,rfl,by(rw [h28];rfl)⟩,rfl,rfl,rfl⟩)
 refine Cn ?_ ?_<;>intro hc1
 ·have hq:=hc1;have hb:kE t=true:=hpb.trans hq;refine Sr<|Dd (LF KO)<|Uu (pE sizeOf70)<|Dd aS<|Zz<|aN ?_;refine fQ (H':=(sH s (b6 k a n b) (bJ l c))) (.inr rfl) rfl (VI cQ sizeOf70) (aH rfl) (Fin.wk (r:=.tup [.agg [iv 0,iv 0],bv false]) (by simp) ⟨⟨_,rfl,rfl⟩,(by exact aF _ _ rfl rfl rfl),⟨_,rfl,rfl⟩,(by exact aC _ _),⟨_,rfl,rfl⟩,(by exact aL _ _ _),⟨_,rfl,rfl⟩,(by exact aJ _ _),⟨_,rfl,rfl⟩,(by exact bD rfl rfl),⟨_,rfl,rfl⟩,(by exact aQ _ _ _),trivial⟩ ⟨rfl,rfl,rfl,rfl,rfl,rfl,trivial⟩) ?_;exact⟨by rw [nP,nO,jR,hb];rfl,rfl⟩
 have hq:=hc1;have hb:kE t=false:=hpb.trans hq;rw [XZ,XL] at hq;obtain ⟨u,rfl⟩:∃ u:Nat,v=(u:Int):=⟨v.toNat,by omega⟩;have hbu:=hbd hq.1;rw [XO] at hpu;have h34:IntKind.i64.wrap ((u:Int).tdiv 10000000)=((u / 10000000:Nat):Int):=by
  rw [Int.tdiv_eq_ediv_of_nonneg (by omega),g9 (by omega) (by omega)];omega
 have h36:(u:Int).tmod 10000000=((u % 10000000:Nat):Int):=by
  rw [Int.tmod_eq_emod_of_nonneg (by omega)];omega
 have hA:nP t=u / 10000000:=by rw [nP,hb,XB (by decide),hpu]
 have hN:nO t=u % 10000000:=by rw [nO,hb,XB (by decide),hpu]
 rw [jR,hb,hA,hN];have hnn:u % 10000000 < 10000000:=Nat.mod_lt _ (by decide);obtain ⟨p,hpe⟩:∃ p,p=u / 10000000:=⟨_,rfl⟩;obtain ⟨q,hqe⟩:∃ q,q=u % 10000000:=⟨_,rfl⟩;rw [← hpe] at h34;rw [← hqe] at h36 hnn;rw [← hpe,← hqe];clear hpe hqe;by_cases h2:p < 2
 ·have g42:decide ((p:Int) < 2)=true:=decide_eq_true (by omega);have hhd:=fun H=>A5 place p q hpl (by omega) (by omega) H;by_cases h3:q≤k
  ·have g51:decide ((q:Int)≤(k:Int))=true:=decide_eq_true (by omega);refine aG<|Sr<|Dd aE<|Dd (by exact mF rfl rfl rfl (by decide) h34)<|Dd aE<|Dd (by exact uN rfl rfl rfl (by decide) h36)<|Dd (LF KO)<|Dd (by exact cC (id:=10) rfl LJ rfl rfl)<|Uu (pE sizeOf70)<|Zz<|Sq<|bK follows<|Cr [10] (fun H1 hH=>by exact cU rfl cQ sizeOf70 rfl ((hH _ rfl).trans rfl) rfl rfl rfl rfl)<|Cr [10] (fun _ h=>fh p8 h)<|Cr [10] (fun _ h=>lh aV h)<|Cr [] (fun _ _=>dG)<|Cr [] (fun _ _=>aE) ?_;refine bU (r:=⟨_,some [10],[]⟩) (fH rfl rfl rfl (by assumption) (fun H1 hH=>by exact(by exact fL rfl lD rfl ((hH _ rfl).trans rfl) rfl rfl))) rfl ?_;refine bU (r:=⟨_,some [10],[]⟩) (fH rfl rfl rfl (by assumption) (fun H1 hH=>by exact(by exact aX rfl aV rfl ((hH _ rfl).trans rfl) rfl rfl rfl))) rfl ?_;refine bU (r:=⟨_,some [1100],[]⟩) (fH rfl rfl rfl (by assumption) (fun H1 hH=>by exact lS rfl rfl)) rfl ?_;refine bU (r:=⟨_,some [1100],[]⟩) (fH rfl rfl rfl (by assumption) (fun H1 hH=>by exact(by exact bM rfl rfl ((hH _ rfl).trans rfl) rfl))) rfl ?_;refine bU (r:=⟨_,some [1100],[]⟩) (fH rfl rfl rfl (by assumption) (fun H1 hH=>by exact(by exact fL rfl p6 rfl ((hH _ rfl).trans rfl) rfl rfl))) rfl ?_;refine bU (r:=⟨_,some [1100],[]⟩) (fH rfl rfl rfl (by assumption) (fun H1 hH=>by exact(by exact aX rfl aV rfl ((hH _ rfl).trans rfl) rfl rfl rfl))) rfl ?_;refine bU (r:=⟨_,some [],[]⟩) (fH rfl rfl rfl (by assumption) (fun H1 hH=>by exact AM rfl rfl rfl)) rfl ?_;refine Cr [] (fun _ _=>QE)<|Cr [] (fun _ _=>aE) ?_;refine bU (r:=⟨_,some [],[]⟩) (fH rfl rfl rfl (by assumption) (fun H1 hH=>by exact lS rfl rfl)) rfl ?_;refine bU (r:=⟨_,some [10],[]⟩) (fH rfl rfl rfl (by assumption) (fun H1 hH=>by exact(by exact cU rfl cQ sizeOf70 rfl ((hH _ rfl).trans rfl) rfl rfl rfl rfl))) rfl ?_;refine bU (r:=⟨_,some [],[]⟩) (fH rfl rfl rfl (by assumption) (fun H1 hH=>by exact aB rfl rfl PS rfl (hhd _))) rfl ?_;refine bU (r:=⟨_,some [],[]⟩) (fH rfl rfl rfl (by assumption) (fun H1 hH=>by exact lS rfl rfl)) rfl ?_;refine bU (r:=⟨_,some [],[]⟩) (fH rfl rfl rfl (by assumption) (fun H1 hH=>by exact vR rfl rfl rfl)) rfl ?_;refine Cr [] (fun _ _=>QE)<|Cp [4] (fun H1 hH=>by exact gZ rfl sizeOf70 rfl rfl rfl rfl ((hH _ rfl).trans rfl) rfl rfl rfl)<|Cr [] (fun _ _=>aS)<|cM<|Kr<|aN ?_;refine fQ (H':=(sH s (b6 k a n b) (bJ l c))) (.inr rfl) rfl (VI cQ sizeOf70) (aH rfl) (Fin.wk (r:=.tup [.agg [iv (p:Int),iv (q:Int)],bv (decide (ofL (yY place p q)=t))]) (by simp) ⟨⟨_,rfl,rfl⟩,(by exact aF _ _ rfl rfl rfl),⟨_,rfl,rfl⟩,(by exact aC _ _),⟨_,rfl,rfl⟩,(by exact aL _ _ _),⟨_,rfl,rfl⟩,(by exact aJ _ _),⟨_,rfl,rfl⟩,(by exact bD rfl rfl),⟨_,rfl,rfl⟩,(by exact aQ _ _ _),trivial⟩ ⟨rfl,rfl,rfl,rfl,rfl,rfl,trivial⟩) ?_;exact⟨by rw [decide_eq_true h2,decide_eq_true h3];rfl,rfl⟩
  have g51:decide ((q:Int)≤(k:Int))=false:=decide_eq_false (by omega);refine aG<|Sr<|Dd aE<|Dd (by exact mF rfl rfl rfl (by decide) h34)<|Dd aE<|Dd (by exact uN rfl rfl rfl (by decide) h36)<|Dd (LF KO)<|Dd (by exact cC (id:=10) rfl LJ rfl rfl)<|Uu (pE sizeOf70)<|Zz<|Sq<|bK follows<|Cr [10] (fun H1 hH=>by exact cU rfl cQ sizeOf70 rfl ((hH _ rfl).trans rfl) rfl rfl rfl rfl)<|Cr [10] (fun _ h=>fh p8 h)<|Cr [10] (fun _ h=>lh aV h)<|Cr [] (fun _ _=>dG)<|Cr [] (fun _ _=>aE) ?_;refine bU (r:=⟨_,some [10],[]⟩) (fH rfl rfl rfl (by assumption) (fun H1 hH=>by exact(by exact fL rfl lD rfl ((hH _ rfl).trans rfl) rfl rfl))) rfl ?_;refine bU (r:=⟨_,some [10],[]⟩) (fH rfl rfl rfl (by assumption) (fun H1 hH=>by exact(by exact aX rfl aV rfl ((hH _ rfl).trans rfl) rfl rfl rfl))) rfl ?_;refine bU (r:=⟨_,some [1100],[]⟩) (fH rfl rfl rfl (by assumption) (fun H1 hH=>by exact lS rfl rfl)) rfl ?_;refine bU (r:=⟨_,some [1100],[]⟩) (fH rfl rfl rfl (by assumption) (fun H1 hH=>by exact(by exact bM rfl rfl ((hH _ rfl).trans rfl) rfl))) rfl ?_;refine bU (r:=⟨_,some [1100],[]⟩) (fH rfl rfl rfl (by assumption) (fun H1 hH=>by exact(by exact fL rfl p6 rfl ((hH _ rfl).trans rfl) rfl rfl))) rfl ?_;refine bU (r:=⟨_,some [1100],[]⟩) (fH rfl rfl rfl (by assumption) (fun H1 hH=>by exact(by exact aX rfl aV rfl ((hH _ rfl).trans rfl) rfl rfl rfl))) rfl ?_;refine bU (r:=⟨_,some [],[]⟩) (fH rfl rfl rfl (by assumption) (fun H1 hH=>by exact AM rfl rfl rfl)) rfl ?_;refine Cr [] (fun _ _=>QE)<|Cr [] (fun _ _=>aE)<|Ot<|Ot<|Ot<|Ot<|Ot<|Cr [] (fun _ _=>CM)<|Cp [4] (fun H1 hH=>by exact gZ rfl sizeOf70 rfl rfl rfl rfl ((hH _ rfl).trans rfl) rfl rfl rfl)<|Cr [] (fun _ _=>aS)<|cM<|Kr<|aN ?_;refine fQ (H':=(sH s (b6 k a n b) (bJ l c))) (.inr rfl) rfl (VI cQ sizeOf70) (aH rfl) (Fin.wk (r:=.tup [.agg [iv (p:Int),iv (q:Int)],bv false]) (by simp) ⟨⟨_,rfl,rfl⟩,(by exact aF _ _ rfl rfl rfl),⟨_,rfl,rfl⟩,(by exact aC _ _),⟨_,rfl,rfl⟩,(by exact aL _ _ _),⟨_,rfl,rfl⟩,(by exact aJ _ _),⟨_,rfl,rfl⟩,(by exact bD rfl rfl),⟨_,rfl,rfl⟩,(by exact aQ _ _ _),trivial⟩ ⟨rfl,rfl,rfl,rfl,rfl,rfl,trivial⟩) ?_;exact⟨by rw [decide_eq_true h2,decide_eq_false h3];rfl,rfl⟩
 have g42:decide ((p:Int) < 2)=false:=decide_eq_false (by omega);refine aG<|Sr<|Dd aE<|Dd (by exact mF rfl rfl rfl (by decide) h34)<|Dd aE<|Dd (by exact uN rfl rfl rfl (by decide) h36)<|Dd (LF KO)<|Dd (by exact cC (id:=10) rfl LJ rfl rfl)<|Uu (pE sizeOf70)<|Zz<|Sq<|bK follows<|Cr [10] (fun H1 hH=>by exact cU rfl cQ sizeOf70 rfl ((hH _ rfl).trans rfl) rfl rfl rfl rfl)<|Cr [10] (fun _ h=>fh p8 h)<|Cr [10] (fun _ h=>lh aV h)<|Cr [] (fun _ _=>dG)<|Cr [] (fun _ _=>aE)<|Ot<|Ot<|Ot<|Ot<|Ot<|Ot<|Ot<|Cr [] (fun _ _=>CM)<|Cr [] (fun _ _=>aE)<|Ot<|Ot<|Ot<|Ot<|Ot<|Cr [] (fun _ _=>gL)<|Cp [4] (fun H1 hH=>by exact gZ rfl sizeOf70 rfl rfl rfl rfl ((hH _ rfl).trans rfl) rfl rfl rfl)<|Cr [] (fun _ _=>aS)<|cM<|Kr<|aN ?_;refine fQ (H':=(sH s (b6 k a n b) (bJ l c))) (.inr rfl) rfl (VI cQ sizeOf70) (aH rfl) (Fin.wk (r:=.tup [.agg [iv (p:Int),iv (q:Int)],bv false]) (by simp) ⟨⟨_,rfl,rfl⟩,(by exact aF _ _ rfl rfl rfl),⟨_,rfl,rfl⟩,(by exact aC _ _),⟨_,rfl,rfl⟩,(by exact aL _ _ _),⟨_,rfl,rfl⟩,(by exact aJ _ _),⟨_,rfl,rfl⟩,(by exact bD rfl rfl),⟨_,rfl,rfl⟩,(by exact aQ _ _ _),trivial⟩ ⟨rfl,rfl,rfl,rfl,rfl,rfl,trivial⟩) ?_;exact⟨by rw [decide_eq_false h2];rfl,rfl⟩
def eF (place:Nat) (p:List UInt8):List UInt8:=mW place (dg p.length 2++p)
def yP (t:ByteArray):Bool:=(gG (t.extract 16 18)||decide (cW (t.extract 16 18) < 1))||decide (46 < cW (t.extract 16 18))
def MT (t:ByteArray):ByteArray:=t.extract 18 (18+(cW (t.extract 16 18)).toNat)
def CO (place:Nat) (t:ByteArray):ByteArray:=if yP t then sNil else if ofL (eF place (MT t).data.toList)=t then MT t else sNil
theorem QF (s:DSt) (hs:DOk s) (hoff:s.off=false) (k a n place:Nat) (b:Bool) (l:List (ByteArray×ByteArray×Nat)) (c:Nat) (hp:place < s.cells.length) :
  aK Tryz.prog 84 [.ref 1100 0 0 0,iv (place:Int)] (sH s (b6 k a n b) (bJ l c)) (fun r H'=>r=sv (CO place (bT s place))∧H'=sH s (b6 k a n b) (bJ l c)):=by
 have ht:=kY hs hp;have hrd:=uL hs hoff hp;have hpl:place < 1000000000000:=by have:=hs.n2;omega
 obtain ⟨t,hT⟩:∃ t,t=bT s place:=⟨_,rfl⟩;rw [← hT] at ht hrd ⊢;clear hT;obtain ⟨x,hx⟩:∃ x,x=t.extract 16 18:=⟨_,rfl⟩;have hxs:x.size < 1099511627776:=by rw [hx];have:=N2 t 16 18;omega
 have hat:=fun H=>u4 x hxs H;have hpb:yP t=((gG x||decide (cW x < 1))||decide (46 < cW x)):=by rw [yP,hx]
 have hpu:MT t=t.extract 18 (18+(cW x).toNat):=by rw [MT,hx]
 obtain ⟨v,hv⟩:∃ v,v=cW x:=⟨_,rfl⟩;obtain ⟨e,he⟩:∃ e,e=gG x:=⟨_,rfl⟩;simp only [← hv,← he] at hat hpb hpu;clear hv he;rw [CO];refine Bd func84 rfl ntmps84<|Sr<|Dd aS<|Zz<|Sr<|Dd aE<|Dd e8<|Dd (dP p7)<|Dd (eA lM)<|Dd aE<|Dd (by exact aB rfl rfl sA rfl (hrd _ ⟨rfl,rfl,rfl,rfl,trivial⟩))<|Dd aE<|Dd eB<|Dd eB<|Dd aS<|Dd aS<|Zz<|Sr<|Dd aE<|Dd (by exact cI (l:=16) (h:=18) rfl aI rfl rfl rfl (by omega) (by omega) hx.symm)<|Dd (by exact aB rfl rfl PT rfl (hat _))<|Dd aE<|Dd eB<|Dd eB<|Dd aS<|Dd aS<|Zz<|Sq<|Sq ?_;refine dA (t:=34) (n:=12) (X:=(e||decide (v < 1))||decide (46 < v)) ?_ ?_
 ·all_goals refine Dd aE ?_
  all_goals refine Dd (by exact qY rfl gW rfl)<|Dm ?_
  all_goals refine Sp 27 (fun h27=>?_) fun h27=>?_
  all_goals try contradiction
  all_goals first|refine Fo<|Fo ?_|refine On aE<|On dG ?_
  all_goals refine Dd gL<|Dm ?_
  all_goals refine Sp 31 (fun h31=>?_) fun h31=>?_
  all_goals try contradiction
  all_goals first|refine Fo<|Fo ?_|refine On aE<|On yZ ?_
  all_goals refine Dd gL<|Zz ?_
  all_goals(exact⟨⟨_,rfl,by first|(rw [h27];rfl)|(rw [h27,h31];rfl)⟩,rfl,rfl,rfl⟩)
 refine Cn ?_ ?_<;>intro hc1
 ·have hq:=hc1;rw [XC (hpb.trans hq)];refine Sr<|Dd aS<|Zz<|aN ?_;refine a8 (H':=(sH s (b6 k a n b) (bJ l c))) (.inr rfl) rfl (aH rfl) (Fin.wk (by(simp;done)) (Hc (aF _ _ rfl rfl rfl)<|Hc (aC _ _)<|Hc (aL _ _ _)<|Hc (aJ _ _)<|Hc (bD rfl rfl)<|Hc (aQ _ _ _)<|trivial) ⟨rfl,rfl,rfl,rfl,rfl,rfl,trivial⟩) ?_;exact Qq
 have hq:=hc1;rw [XB (by rw [hpb,hq];decide)];rw [XZ,XZ,XL,XL] at hq;obtain ⟨u,rfl⟩:∃ u:Nat,v=(u:Int):=⟨v.toNat,by omega⟩;rw [XO] at hpu;have hps:(MT t).size=u:=by rw [hpu,ByteArray.size_extract];omega
 have hpl2:(MT t).data.toList.length=u:=by rw [dB,hps]
 have hof:=FG (MT t);obtain ⟨y,hy⟩:∃ y,y=MT t:=⟨_,rfl⟩;rw [← hy] at hps hpl2 hof hpu ⊢;clear hy;obtain ⟨p,hpe⟩:∃ p,p=y.data.toList:=⟨_,rfl⟩;rw [← hpe] at hpl2 hof ⊢;have h38:((18:Int)+(u:Int))=((18+u:Nat):Int):=by omega
 have e43:ofL (dg u 2)++y=ofL (dg u 2++p):=by rw [← hof];exact q9 _ _
 have s43:(ofL (dg u 2)).size≤23:=by rw [bS];exact oD u 2 (by omega)
 have l43:(dg u 2++p).length≤48:=by rw [XE,jP (mZ u (by omega) (by omega)),hpl2];omega
 have hpc:eF place p=mW place (dg u 2++p):=by rw [eF,hpl2]
 refine aG<|Sr<|Dd aE<|Dd aE<|Dd (by exact cF rfl rfl rfl (show IntKind.i64.wrap ((18:Int)+(u:Int))=((18+u:Nat):Int)by rw [g9 (by omega) (by omega)];omega))<|Dd (by exact cI (l:=18) (h:=18+u) rfl aI rfl rfl rfl (by omega) (by omega) hpu.symm)<|Dd aS<|Zz<|Sq<|Sr<|Dd aE<|Dd aE<|Dd (by exact aB rfl rfl w6 rfl (lY u 2 (by omega) (by omega) _))<|Dd aE<|Dd (by exact iA rfl rfl rfl (by omega) e43)<|Dd (by exact aB rfl rfl WC rfl (vF place (dg u 2++p) hpl l43 _))<|Dd aE<|Dd MA<|Zz ?_;refine Cn ?_ ?_<;>intro hc2
 ·have hq2:¬ ofL (mW place (dg u 2++p))=t:=by have h:=hc2;simpa using h
  rw [hpc,XB hq2];refine Sr<|Dd aS<|Zz<|aN ?_;refine a8 (H':=(sH s (b6 k a n b) (bJ l c))) (.inr rfl) rfl (aH rfl) (Fin.wk (by(simp;done)) (Hc (aF _ _ rfl rfl rfl)<|Hc (aC _ _)<|Hc (aL _ _ _)<|Hc (aJ _ _)<|Hc (bD rfl rfl)<|Hc (aQ _ _ _)<|trivial) ⟨rfl,rfl,rfl,rfl,rfl,rfl,trivial⟩) ?_;exact Qq
 have hq2:ofL (mW place (dg u 2++p))=t:=by have h:=hc2;simpa using h
 rw [hpc,XC hq2];refine aG<|Sr<|Dd aE<|Dd aS<|Zz<|aN ?_;refine a8 (H':=(sH s (b6 k a n b) (bJ l c))) (.inr rfl) rfl (aH rfl) (Fin.wk (by(simp;done)) (Hc (aF _ _ rfl rfl rfl)<|Hc (aC _ _)<|Hc (aL _ _ _)<|Hc (aJ _ _)<|Hc (bD rfl rfl)<|Hc (aQ _ _ _)<|trivial) ⟨rfl,rfl,rfl,rfl,rfl,rfl,trivial⟩) ?_;exact Qq
theorem vN (s:DSt) (k a n ar i:Nat) (b:Bool) (l:List (ByteArray×ByteArray×Nat)) (c:Nat) (hk:k < 100000) (har:ar < 10) (hi:i < 100000000) :
  aK Tryz.prog 85 [.ref 1100 0 0 0,iv (ar:Int),iv (i:Int)] (sH s (b6 k a n b) (bJ l c)) (fun r H'=>r=iv ((2+ar*k+i:Nat):Int)∧H'=sH s (b6 k a n b) (bJ l c)):=by
 have hm:ar*k≤10*100000:=Nat.mul_le_mul (by omega) (by omega);have hmi:((ar:Int)*(k:Int))=((ar*k:Nat):Int):=by rw [Int.natCast_mul]
 refine Bd func85 rfl ntmps85<|Sr<|Dd aS<|Zz<|Sr<|Dd aE<|Dd aE<|Dd e8<|Dd (dP p6)<|Dd (eA aV)<|Dd (by exact gR rfl rfl rfl (by exact g9 (by omega) (by omega)))<|Dd kP<|Dd aE<|Dd kP<|Dd aS<|Zz<|aN ?_;refine a8 (H':=(sH s (b6 k a n b) (bJ l c))) (.inr rfl) rfl (aH rfl) (Fin.wk (by(simp;done)) (Hc (aF _ _ rfl rfl rfl)<|Hc (aC _ _)<|Hc (aL _ _ _)<|Hc (aJ _ _)<|Hc (bD rfl rfl)<|Hc (aQ _ _ _)<|trivial) ⟨rfl,rfl,rfl,rfl,rfl,rfl,trivial⟩) ?_;exact Qq
end Go.Proofs.YtmkgeogoojcciaaGreatDoor
namespace Go.Proofs.YtmkgeogoojcciaaGreatDoor
open Go.Proofs.Tryz
open Go.Abs
structure DInv (s:DSt) (n m:Nat):Prop where
 ok:DOk s
 arm:H6 s
 n:s.cells.length=n
 q:s.q.length≤m
theorem DInv.mono {s:DSt} {n m m':Nat} (h:DInv s n m) (hm:m≤m'):DInv s n m':=⟨h.ok,h.arm,h.n,Nat.le_trans h.q hm⟩
theorem Q8 {n:Nat} (h1:1≤n) (h2:n≤8000):DInv (kQ n) n 0:=⟨RP h1 h2,fun a w b h=>(by cases h),by simp [kQ],XJ _⟩
theorem zF {a:Arm} {x w b:Int} (h:BH a=.on x w b):False:=by cases a<;>cases h
theorem rD {s:DSt} {n m:Nat} (h:DInv s n m) (w b:Int):DInv (jS s w b) n m:=by
 refine⟨HR h.ok w b,?_,?_,?_⟩<;>unfold jS<;>split
 ·exact h.arm
 ·exact fun a w b h=>(zF h).elim
 ·exact h.n
 ·show (lX s w b).length=n;rw [sU];exact h.n
 ·exact h.q
 exact XU _
theorem sP {s:DSt} {n m:Nat} (h:DInv s n m):DInv (dI s) n m:=by
 refine⟨DP h.ok,?_,?_,?_⟩<;>unfold dI<;>split
 ·next a w b e =>
  split
  ·intro a' w' b' he;cases he;have:=h.arm a w b e;omega
  exact(rD h w b).arm
 ·exact h.arm
 ·next a w b e =>
  split
  ·exact h.n
  exact(rD h w b).n
 ·exact h.n
 ·next a w b e =>
  split
  ·exact h.q
  exact(rD h w b).q
 exact h.q
theorem yX {s:DSt} {n m:Nat} (h:DInv s n m) (hm:m < 1048576) (k:Int) (t:ByteArray):DInv (iE s k t) n (m+1):=by
 unfold iE
 split
 ·exact h.mono (Nat.le_succ _)
 split
 ·next hc =>
  rw [XM,XK] at hc;obtain ⟨h1,h2⟩:=hc;rcases nK s k with e|⟨j,rfl,hj⟩
  ·rw [e] at h1;cases h1
  have hq:=h.q;refine sP ⟨sC h.ok (by simpa using hj) h2 (by omega),h.arm,h.n,?_⟩;show (s.q++[_]).length≤_;simp;exact hq
 exact h.mono (Nat.le_succ _)
theorem JR {s:DSt} {n m:Nat} (h:DInv s n m):DInv (sW s) n m:=by have hp:=E5 h.ok s.q.length;rw [List.take_length] at hp;exact⟨⟨hp.n1,hp.n2,hp.c,fun p hp=>(by cases hp),XU _⟩,h.arm,by show (cK _ _).length=n;rw [fX];exact h.n,XU _⟩
theorem NL {s:DSt} {n m:Nat} (h:DInv s n m):DInv (iF s) n m:=by
 unfold iF
 split
 ·exact h
 split
 ·exact JR (sP h)
 exact sP h
end Go.Proofs.YtmkgeogoojcciaaGreatDoor
