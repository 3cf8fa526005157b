/-
  Parts of the proof: rules of an abstract program logic, contracts of functions, plain laws. Conditions: each theorem's own.
-/
import Derived.Test.YtmkgeogoojcciaaGreatDoorKS4M2
import Derived.Test.YtmkgeogoojcciaaGreatDoorRows
import Derived.OpenShut
import Derived.JoinedCond
import Derived.Carry
import Derived.MapKept
import Derived.Laws.IdiomRangeMap
import Derived.Lib.Bytealg
import Derived.Shelf.SortM.Plain
import Derived.Shelf.SortM.SortNone
import Derived.Ground.SlgmProg
import Derived.Shelf.Strconv.Itoa3
import Derived.Shelf.Bits.Mul64
import Derived.Shelf.LaysM
import Derived.Ground.NamesProg
set_option linter.unusedVariables false
set_option linter.unusedSimpArgs false
set_option maxRecDepth 100000
set_option maxHeartbeats 8000000
namespace Go.Proofs
theorem R2:type_of% Tryz.isAgg0:=Tryz.isAgg0
theorem vM:type_of% Tryz.isAgg150:=Tryz.isAgg150
theorem GK:type_of% Tryz.isAgg191:=Tryz.isAgg191
theorem YL:type_of% Tryz.isAgg20:=Tryz.isAgg20
theorem aU:type_of% Tryz.isAgg3:=Tryz.isAgg3
theorem dM:type_of% Tryz.isAgg4:=Tryz.isAgg4
theorem oL:type_of% Tryz.isAgg5:=Tryz.isAgg5
theorem eO:type_of% Tryz.isAgg50:=Tryz.isAgg50
theorem bB:type_of% Tryz.isAgg9:=Tryz.isAgg9
theorem mL:type_of% Tryz.isAgg93:=Tryz.isAgg93
theorem NM:type_of% Tryz.sizeOf0:=Tryz.sizeOf0
theorem sE:type_of% Tryz.sizeOf103:=Tryz.sizeOf103
theorem WF:type_of% Tryz.sizeOf136:=Tryz.sizeOf136
theorem sD:type_of% Tryz.sizeOf150:=Tryz.sizeOf150
theorem DY:type_of% Tryz.sizeOf191:=Tryz.sizeOf191
theorem XL:type_of% Tryz.sizeOf20:=Tryz.sizeOf20
theorem cL:type_of% Tryz.sizeOf5:=Tryz.sizeOf5
theorem kU:type_of% Tryz.sizeOf93:=Tryz.sizeOf93
theorem wQ:type_of% Tryz.underlying0:=Tryz.underlying0
theorem IW:type_of% Tryz.underlying100:=Tryz.underlying100
theorem IV:type_of% Tryz.underlying103:=Tryz.underlying103
theorem IU:type_of% Tryz.underlying138:=Tryz.underlying138
theorem eL:type_of% Tryz.underlying150:=Tryz.underlying150
theorem sB:type_of% Tryz.underlying191:=Tryz.underlying191
theorem NL:type_of% Tryz.underlying20:=Tryz.underlying20
theorem bX:type_of% Tryz.underlying3:=Tryz.underlying3
theorem aQ:type_of% Tryz.underlying31:=Tryz.underlying31
theorem cS:type_of% Tryz.underlying4:=Tryz.underlying4
theorem bI:type_of% Tryz.underlying5:=Tryz.underlying5
theorem bV:type_of% Tryz.underlying50:=Tryz.underlying50
theorem NK:type_of% Tryz.underlying70:=Tryz.underlying70
theorem jE:type_of% Tryz.underlying72:=Tryz.underlying72
theorem NJ:type_of% Tryz.underlying75:=Tryz.underlying75
theorem mK:type_of% Tryz.underlying77:=Tryz.underlying77
theorem mJ:type_of% Tryz.underlying80:=Tryz.underlying80
theorem aH:type_of% Tryz.underlying9:=Tryz.underlying9
theorem dV:type_of% Tryz.underlying93:=Tryz.underlying93
theorem NH:type_of% Tryz.underlying96:=Tryz.underlying96
theorem zU:type_of% Tryz.zeroValue0:=Tryz.zeroValue0
theorem NG:type_of% Tryz.zeroValue103:=Tryz.zeroValue103
theorem mI:type_of% Tryz.zeroValue150:=Tryz.zeroValue150
theorem uH:type_of% Tryz.zeroValue191:=Tryz.zeroValue191
theorem RN:type_of% Tryz.zeroValue20:=Tryz.zeroValue20
theorem lE:type_of% Tryz.zeroValue3:=Tryz.zeroValue3
theorem RM:type_of% Tryz.zeroValue31:=Tryz.zeroValue31
theorem zT:type_of% Tryz.zeroValue4:=Tryz.zeroValue4
theorem iN:type_of% Tryz.zeroValue5:=Tryz.zeroValue5
theorem RL:type_of% Tryz.zeroValue50:=Tryz.zeroValue50
theorem fC:type_of% Tryz.zeroValue9:=Tryz.zeroValue9
theorem kE:type_of% Tryz.zeroValue93:=Tryz.zeroValue93
end Go.Proofs
namespace Go.Abs
def P4:PV→Bool
 | .int _ _=>true
 | .bool _=>true
 | .str _=>true
 | _=>false
theorem PRep.flat {w w':World} {I I':Nat→Prop} {v:Value} {p:PV} (h:PRep w I v p) (hf:P4 p=true):PRep w' I' v p:=by cases h<;>first|(constructor;done)|(simp [P4] at hf;done)
def RO (P:Program) (f:FuncId) (args:List AV) (H:aA) (p:PV):Prop :=∀ (I:Nat→Prop) (ι:cB) (w:World) (vs:Array Value),Rel I ι H w→vs.size=args.length→(∀ (i:Nat) (v:Value) (a:AV),vs[i]?=some v→args[i]?=some a→VRel w I ι H v a) →
  Calls P f vs w fun e w'=>∃ v,e=.returned v∧(∀ w2 I2,PRep w2 I2 v p)∧w'.os=w.os∧w'.tape=w.tape∧w'.output=w.output∧w.heap.size≤w'.heap.size ∧
   (∀ a,a.block < w.heap.size→w'.frozen? a=w.frozen? a)∧∀ b,b < w.heap.size→w'.heap[b]?=w.heap[b]?
theorem RO.of {P:Program} {f:FuncId} {args:List AV} {p:PV} (h:aJ P f args [] (fun r H=>r=.pv p∧H=[])) (hf:P4 p=true):RO P f args [] p:=by
 intro I ι w vs hr hl hv;refine(h I ι w vs hr hl hv).mono ?_;rintro e w' ⟨r,H',I',ι',v,rfl,⟨rfl,rfl⟩,k1,k2,k3⟩;have hno:∀ b,¬ uM ι [] b:=fun b ⟨_,_,_,hx,_⟩=>by cases hx
 exact⟨v,rfl,fun w2 I2=>k1.pv_inv.flat hf,k3.os,k3.tape,k3.output,k3.size,fun a ha=>k3.froz a ha (hno _),fun b hb=>k3.keep b hb (hno b)⟩
theorem RO.lend {P:Program} {f:FuncId} {args args':List AV} {p:PV} {H H1:aA} {id:Nat} {ob:Ob} (ps:List (List PV)) (h:RO P f args' H1 p) (hH:H.get id=some ob) (hps:ob.rows=ps.map (·.map .pv)) (hl:args.length=args'.length)
  (hz:∀ (i:Nat) (a a':AV),args[i]?=some a→args'[i]?=some a'→Fz H1 id ob.g ps a a') (hs:Sub H1 H) (hc:bG H1) (hno:H1.get id=none):RO P f args H p:=by
 intro I ι w vs hr hlen hv;refine h (jD I ι id) ι w vs (hr.freeze hs hc hH hno) (by omega) ?_;intro i v a' hi ha';have hlt:i < args.length:=by
  have:=(ZP.1 ha').1;omega
 exact VRel.freeze hr hs hH hps (hz i _ a' (ZQ hlt) ha') (hv i v _ hi (ZQ hlt))
theorem RO.calls {P:Program} {f:FuncId} {args:List AV} {p:PV} {H:aA} (h:RO P f args H p):aJ P f args H (fun r H'=>r=.pv p∧H'=H):=by
 intro I ι w vs hr hl hv;refine(h I ι w vs hr hl hv).mono ?_;rintro e w' ⟨v,rfl,h1,h2,h3,h4,h5,h6,h7⟩;have hst:Step I ι H w I ι H w' :=
  ⟨h2,h3,h4,h5,fun a ha _=>h6 a ha,fun _ h=>h,fun _ h=>.inl h,fun _ h=>.inl h,fun b hb _=>h7 b hb,fun id o ho=>⟨o,ho,ZR _,fun _=>⟨rfl,rfl,fun _=>ZR _⟩⟩⟩
 refine⟨.pv p,H,I,ι,v,rfl,⟨rfl,rfl⟩,.pv (h1 _ _),?_,hst⟩;refine⟨fun b hb=>Nat.lt_of_lt_of_le (hr.imm b hb) h5,fun id o ho=>?_,hr.inj,hst.glob hr⟩;exact(hr.obj id o ho).keep rfl (fun b' _ _ hlt=>⟨h7 b' hlt,fun h=>h⟩) (fun r _ a _ v hv=>hv.mono hr hst)
theorem nE {P:Program} {G0:aA} {N:Nat} {Q:Exit→bJ→aA→Prop} {E:bJ} {H:aA} {cc:Code} {α β:Type} (S:α→β→bJ×aA) (J:α→β→Prop) (μ:α→β→Nat) (a0:α) (b0:β) (h0:J a0 b0) (hin:cG G0 E H (S a0 b0).1 (S a0 b0).2)
  (round:∀ a b,J a b→gP P G0 N cc (uE (fun E' H'=>∃ a' b',J a' b'∧μ a' b' < μ a b∧cG G0 E' H' (S a' b').1 (S a' b').2) Q) (S a b).1 (S a b).2):gP P G0 N (.loop cc) Q E H:=by
 refine bR (σ:=α×β) (fun s=>S s.1 s.2) (fun s=>J s.1 s.2) (fun s=>μ s.1 s.2) (a0,b0) h0 hin ?_;intro s hs;have h:=round s.1 s.2 hs;have e:(fun(E':bJ) (H':aA)=>∃ s':α×β,J s'.1 s'.2∧μ s'.1 s'.2 < μ s.1 s.2∧cG G0 E' H' (S s'.1 s'.2).1 (S s'.1 s'.2).2)=(fun E' H'=>∃ a' b',J a' b'∧μ a' b' < μ s.1 s.2∧cG G0 E' H' (S a' b').1 (S a' b').2):=by
  funext E' H';exact propext ⟨fun⟨s',h⟩=>⟨s'.1,s'.2,h⟩,fun⟨a',b',h⟩=>⟨(a',b'),h⟩⟩
 rw [e];exact h
theorem qN {P:Program} {G0:aA} {N:Nat} {Q:Exit→bJ→aA→Prop} {E:bJ} {H:aA} {cc:Code} {α β γ:Type} (S:α→β→γ→bJ×aA) (J:α→β→γ→Prop) (μ:α→β→γ→Nat) (a0:α) (b0:β) (c0:γ) (h0:J a0 b0 c0) (hin:cG G0 E H (S a0 b0 c0).1 (S a0 b0 c0).2)
  (round:∀ a b c,J a b c→gP P G0 N cc (uE (fun E' H'=>∃ a' b' c',J a' b' c'∧μ a' b' c' < μ a b c∧cG G0 E' H' (S a' b' c').1 (S a' b' c').2) Q) (S a b c).1 (S a b c).2):gP P G0 N (.loop cc) Q E H:=by
 refine bR (σ:=α×β×γ) (fun s=>S s.1 s.2.1 s.2.2) (fun s=>J s.1 s.2.1 s.2.2) (fun s=>μ s.1 s.2.1 s.2.2) (a0,b0,c0) h0 hin ?_;intro s hs;have h:=round s.1 s.2.1 s.2.2 hs;have e:(fun(E':bJ) (H':aA)=>∃ s':α×β×γ,J s'.1 s'.2.1 s'.2.2∧μ s'.1 s'.2.1 s'.2.2 < μ s.1 s.2.1 s.2.2∧cG G0 E' H' (S s'.1 s'.2.1 s'.2.2).1 (S s'.1 s'.2.1 s'.2.2).2)=(fun E' H'=>∃ a' b' c',J a' b' c'∧μ a' b' c' < μ s.1 s.2.1 s.2.2∧cG G0 E' H' (S a' b' c').1 (S a' b' c').2):=by
  funext E' H';exact propext ⟨fun⟨s',h⟩=>⟨s'.1,s'.2.1,s'.2.2,h⟩,fun⟨a',b',c',h⟩=>⟨(a',b',c'),h⟩⟩
 rw [e];exact h
theorem NC {P:Program} {G0:aA} {N:Nat} {Q:Exit→bJ→aA→Prop} {E:bJ} {H:aA} {cc:Code} {α β γ δ:Type} (S:α→β→γ→δ→bJ×aA) (J:α→β→γ→δ→Prop) (μ:α→β→γ→δ→Nat) (a0:α) (b0:β) (c0:γ) (d0:δ) (h0:J a0 b0 c0 d0) (hin:cG G0 E H (S a0 b0 c0 d0).1 (S a0 b0 c0 d0).2)
  (round:∀ a b c d,J a b c d→gP P G0 N cc (uE (fun E' H'=>∃ a' b' c' d',J a' b' c' d'∧μ a' b' c' d' < μ a b c d∧cG G0 E' H' (S a' b' c' d').1 (S a' b' c' d').2) Q) (S a b c d).1 (S a b c d).2):gP P G0 N (.loop cc) Q E H:=by
 refine bR (σ:=α×β×γ×δ) (fun s=>S s.1 s.2.1 s.2.2.1 s.2.2.2) (fun s=>J s.1 s.2.1 s.2.2.1 s.2.2.2) (fun s=>μ s.1 s.2.1 s.2.2.1 s.2.2.2) (a0,b0,c0,d0) h0 hin ?_;intro s hs;have h:=round s.1 s.2.1 s.2.2.1 s.2.2.2 hs;have e:(fun(E':bJ) (H':aA)=>∃ s':α×β×γ×δ,J s'.1 s'.2.1 s'.2.2.1 s'.2.2.2∧μ s'.1 s'.2.1 s'.2.2.1 s'.2.2.2 < μ s.1 s.2.1 s.2.2.1 s.2.2.2∧cG G0 E' H' (S s'.1 s'.2.1 s'.2.2.1 s'.2.2.2).1 (S s'.1 s'.2.1 s'.2.2.1 s'.2.2.2).2)=(fun E' H'=>∃ a' b' c' d',J a' b' c' d'∧μ a' b' c' d' < μ s.1 s.2.1 s.2.2.1 s.2.2.2∧cG G0 E' H' (S a' b' c' d').1 (S a' b' c' d').2):=by
  funext E' H';exact propext ⟨fun⟨s',h⟩=>⟨s'.1,s'.2.1,s'.2.2.1,s'.2.2.2,h⟩,fun⟨a',b',c',d',h⟩=>⟨(a',b',c',d'),h⟩⟩
 rw [e];exact h
theorem aM {α:Type} (f:α→List PV) (l:List α) (H:aA):∀ r∈l.map (fun e=>(f e).map AV.pv),∀ a∈r,Clo H a:=by intro r hr a ha;obtain ⟨e,_,rfl⟩:=List.mem_map.1 hr;obtain ⟨p,_,rfl⟩:=List.mem_map.1 ha;exact .pv p
theorem IC {H:aA} {id g:Nat} {ps:List (List PV)}:∀ (i:Nat) (a a':AV),([]:List AV)[i]?=some a→([]:List AV)[i]?=some a'→Fz H id g ps a a':=fun i a a' h=>by cases h
theorem xD {H:aA} {id g:Nat} {ps:List (List PV)} {x x':AV} {l l':List AV} (h:Fz H id g ps x x') (hr:∀ (i:Nat) (a a':AV),l[i]?=some a→l'[i]?=some a'→Fz H id g ps a a') :
  ∀ (i:Nat) (a a':AV),(x::l)[i]?=some a→(x'::l')[i]?=some a'→Fz H id g ps a a'
 | 0,a,a',h1,h2=>by cases h1;cases h2;exact h
 | i+1,a,a',h1,h2=>hr i a a' h1 h2
inductive Nz (H':aA) (id:Nat):AV→AV→Prop
 | same {a:AV} (h:Clo H' a):Nz H' id a a
 | own:Nz H' id (.pv .nils) (.osl id 0 0 0)
 | weak:Nz H' id (.pv .nils) (.pv (.sl []))
 | agg {cs cs':List AV} (hl:cs.length=cs'.length) (h:∀ (i:Nat) (a a':AV),cs[i]?=some a→cs'[i]?=some a'→Nz H' id a a'):Nz H' id (.agg cs) (.agg cs')
 | tup {cs cs':List AV} (hl:cs.length=cs'.length) (h:∀ (i:Nat) (a a':AV),cs[i]?=some a→cs'[i]?=some a'→Nz H' id a a'):Nz H' id (.tup cs) (.tup cs')
def RW (H H':aA):Prop:=∀ j o',H'.get j=some o'→∃ o,H.get j=some o∧o.g=o'.g∧o.sz=o'.sz∧o.ty=o'.ty∧o.rows.length=o'.rows.length
theorem VRel.alike {w:World} {I:Nat→Prop} {ι:cB} {H H':aA} (hs:RW H H') {v:Value} {a:AV} (h:VRel w I ι H v a):Clo H' a→VRel w I ι H' v a:=by
 induction h with
 | any v=>exact fun _=>.any v
 | pv h=>exact fun _=>.pv h
 | ref o hH hg h1 h =>
  intro hc;rw [T7] at hc;obtain ⟨o',ho'⟩:=Option.isSome_iff_exists.1 hc;obtain ⟨o2,e1,e2,e3,e4,e5⟩:=hs _ o' ho';rw [hH] at e1;cases e1;exact .ref o' ho' (by omega) h1 (fun e=>by rw [← e3];exact h (by omega))
 | pad b off cap sz h hsz hlen cs hI hc hp=>exact fun _=>.pad b off cap sz h hsz hlen cs hI hc hp
 | osl o hH hg h1 h =>
  intro hc;rw [T8] at hc;obtain ⟨o',ho'⟩:=Option.isSome_iff_exists.1 hc;obtain ⟨o2,e1,e2,e3,e4,e5⟩:=hs _ o' ho';rw [hH] at e1;cases e1;exact .osl o' ho' (by omega) h1 (fun e=>by rw [← e3,← e5];exact h (by omega))
 | clo hl h ih =>
  intro hc;rw [UA] at hc;exact .clo hl (fun i v a hv ha=>ih i v a hv ha (hc a (ZW ha)))
 | agg hl h1 h ih =>
  intro hc;rw [UB] at hc;exact .agg hl h1 (fun i v a hv ha=>ih i v a hv ha (hc a (ZW ha)))
 | tup hl h ih =>
  intro hc;rw [T6] at hc;exact .tup hl (fun i v a hv ha=>ih i v a hv ha (hc a (ZW ha)))
 | mp o hH hg h1 h =>
  intro hc;rw [V6] at hc;obtain ⟨o',ho'⟩:=Option.isSome_iff_exists.1 hc;obtain ⟨o2,e1,e2,e3,e4,e5⟩:=hs _ o' ho';rw [hH] at e1;cases e1;exact .mp o' ho' (by omega) h1 (fun e=>by rw [← e3];exact h (by omega))
 | it o hH hg h1 h =>
  intro hc;rw [V7] at hc;obtain ⟨o',ho'⟩:=Option.isSome_iff_exists.1 hc;obtain ⟨o2,e1,e2,e3,e4,e5⟩:=hs _ o' ho';rw [hH] at e1;cases e1;exact .it o' ho' (by omega) h1 (fun e=>by rw [← e3];exact h (by omega))
 | yld o hH hg h1 h =>
  intro hc;rw [T5] at hc;obtain ⟨o',ho'⟩:=Option.isSome_iff_exists.1 hc;obtain ⟨o2,e1,e2,e3,e4,e5⟩:=hs _ o' ho';rw [hH] at e1;cases e1;exact .yld o' ho' (by omega) h1 (fun e=>by rw [← e3];exact h (by omega))
 | osc o hH hg h1 h =>
  intro hc;rw [T9] at hc;obtain ⟨o',ho'⟩:=Option.isSome_iff_exists.1 hc;obtain ⟨o2,e1,e2,e3,e4,e5⟩:=hs _ o' ho';rw [hH] at e1;cases e1;exact .osc o' ho' (by omega) h1 (fun e=>by rw [← e3];exact h (by omega))
theorem Nz.raw {H':aA} {id:Nat} {a a':AV} (h:Nz H' id a a') {y:Go.Loop} {ts:List Nat} (e:a'=.raw y ts):a=.raw y ts:=by cases h<;>first|exact e|cases e
theorem VRel.nz {w:World} {I:Nat→Prop} {ι:cB} {H H':aA} {id:Nat} {ob:Ob} (hs:RW H H') (hι:ι id=none) (hid:H'.get id=some ob) (hg:ob.g=0) (hpos:0 < ob.sz) {a a':AV} (hn:Nz H' id a a'):∀ {v:Value},VRel w I ι H v a→VRel w I ι H' v a':=by
 induction hn with
 | same h=>exact fun hv=>hv.alike hs h
 | own =>
  intro v hv;have:=hv.pv_inv;cases this;exact .osl ob hid (by omega) rfl (fun _=>⟨hpos,by omega,.inr ⟨hι,rfl,rfl,rfl⟩⟩)
 | weak =>
  intro v hv;have:=hv.pv_inv;cases this;exact .pv .nilsl
 | @agg cs cs' hl h ih =>
  intro v hv;cases hv with
  | agg hl2 h1 h2 =>
   refine .agg (hl2.trans hl) h1 (fun i u a' hu ha'=>?_);have ha:=List.getElem?_eq_getElem (l:=cs) (i:=i) (by have:=(ZP.1 ha').1;omega);exact ih i _ a' ha ha' (h2 i u _ hu ha)
 | @tup cs cs' hl h ih =>
  intro v hv;cases hv with
  | tup hl2 h2 =>
   refine .tup (hl2.trans hl) (fun i u a' hu ha'=>?_);have ha:=List.getElem?_eq_getElem (l:=cs) (i:=i) (by have:=(ZP.1 ha').1;omega);exact ih i _ a' ha ha' (h2 i u _ hu ha)
def WR (H:aA) (id:Nat):List AV→List AV→Prop
 | [],[]=>True
 | a::l,b::r=>Nz H id a b∧WR H id l r
 | _,_=>False
theorem WR.spec {H:aA} {id:Nat}:∀ {l r:List AV},WR H id l r→l.length=r.length∧∀ (k:Nat) (a b:AV),l[k]?=some a→r[k]?=some b→Nz H id a b
 | [],[],_=>⟨rfl,fun k a b h=>by simp at h⟩
 | a::l,b::r,h=>⟨by simp [(WR.spec h.2).1],fun k x y h1 h2=>by
   cases k with
   | zero=>cases h1;cases h2;exact h.1
   | succ k=>exact(WR.spec h.2).2 k x y h1 h2⟩
 | [],_::_,h=>h.elim
 | _::_,[],h=>h.elim
def XO (H:aA) (id:Nat) (rows rows':List (List AV)):Prop:=(rows=rows'∧∀ r∈rows',∀ a∈r,Clo H a)∨∃ r r',rows=[r]∧rows'=[r']∧WR H id r r'
theorem XO.spec {H:aA} {id:Nat} {rows rows':List (List AV)} (h:XO H id rows rows'):rows.length=rows'.length∧∀ (i:Nat) (r':List AV),rows'[i]?=some r'→∃ r,rows[i]?=some r∧r.length=r'.length∧∀ (k:Nat) (b:AV),r'[k]?=some b→∃ a,r[k]?=some a∧Nz H id a b:=by
 rcases h with⟨rfl,hc⟩|⟨r,r',rfl,rfl,hl⟩
 ·exact⟨rfl,fun i r' hr=>⟨r',hr,rfl,fun k b hb=>⟨b,hb,.same (hc r' (ZW hr) b (ZW hb))⟩⟩⟩
 refine⟨rfl,fun i r2 hr=>?_⟩;cases i with
 | zero =>
  cases hr;obtain ⟨e1,e2⟩:=hl.spec;refine⟨r,rfl,e1,fun k b hb=>?_⟩;have hlt:=(ZP.1 hb).1;exact⟨r[k],ZQ (by omega),e2 k _ b (ZQ (by omega)) hb⟩
 | succ i=>simp at hr
def WS (E:bJ) (H:aA) (id:Nat):bJ→Prop
 | []=>True
 | (t,v)::r=>(∃ v0,E.get t=some v0∧Nz H id v0 v)∧WS E H id r
theorem WS.spec {E:bJ} {H:aA} {id:Nat}:∀ {E':bJ},WS E H id E'→∀ p∈E',∃ v0,E.get p.1=some v0∧Nz H id v0 p.2
 | (t,v)::r,h,p,hp=>by
  rcases ZY.1 hp with e|e
  ·subst e;exact h.1
  exact WS.spec h.2 p e
def XP (H H2:aA) (id:Nat):aA→Prop
 | []=>True
 | (j,o')::r=>(∃ o,H.get j=some o∧o.g=o'.g∧o.sz=o'.sz∧o.ty=o'.ty∧XO H2 id o.rows o'.rows)∧XP H H2 id r
theorem XP.spec {H H2:aA} {id:Nat}:∀ {H':aA},XP H H2 id H'→∀ p∈H',∃ o,H.get p.1=some o∧o.g=p.2.g∧o.sz=p.2.sz∧o.ty=p.2.ty∧XO H2 id o.rows p.2.rows
 | (j,o')::r,h,p,hp=>by
  rcases ZY.1 hp with e|e
  ·subst e;exact h.1
  exact XP.spec h.2 p e
theorem cG.nz {G0:aA} {E E':bJ} {H H':aA} (id sz ty:Nat) (hid:H.get id=none) (hsz:Nat.blt 0 sz=true) (hE:WS E ((id,⟨0,sz,ty,[]⟩)::H') id E') (hH:XP H ((id,⟨0,sz,ty,[]⟩)::H') id H') (hk:RT ((id,⟨0,sz,ty,[]⟩)::H') H G0) :
  cG G0 E H E' ((id,⟨0,sz,ty,[]⟩)::H'):=by
 intro G hG N a w hs;obtain ⟨I,ι,hr,hst,he⟩:=hs.rel;obtain ⟨a1,a2⟩:=hr.adopt (sz:=sz) (ty:=ty) hid (by simpa [Nat.blt_eq] using hsz);have hpz:0 < sz:=by simpa [Nat.blt_eq] using hsz
 obtain ⟨ι',hι'⟩:∃ ι':cB,ι'=(fun j=>if j=id then none else ι j):=⟨_,rfl⟩;rw [← hι'] at a1 a2;have hιid:ι' id=none:=by rw [hι'];simp
 obtain ⟨H1,hH1⟩:∃ H1:aA,H1=(id,(⟨0,sz,ty,[]⟩:Ob))::H:=⟨_,rfl⟩;obtain ⟨H2,hH2⟩:∃ H2:aA,H2=(id,(⟨0,sz,ty,[]⟩:Ob))::H':=⟨_,rfl⟩;rw [← hH1] at a1 a2;rw [← hH2] at hE hH hk ⊢;have g1:H1.get id=some ⟨0,sz,ty,[]⟩:=by rw [hH1];simp [aA.get]
 have g2:H2.get id=some ⟨0,sz,ty,[]⟩:=by rw [hH2];simp [aA.get]
 have n1:∀ j,j≠id→H1.get j=H.get j:=fun j e=>by rw [hH1];simp [aA.get,gT (Ne.symm e)]
 have n2:∀ j,j≠id→H2.get j=H'.get j:=fun j e=>by rw [hH2];simp [aA.get,gT (Ne.symm e)]
 have hobj:∀ j o',H2.get j=some o'→∃ o,H1.get j=some o∧o.g=o'.g∧o.sz=o'.sz∧o.ty=o'.ty∧XO H2 id o.rows o'.rows:=by
  intro j o' ho;by_cases e:j=id
  ·subst e;rw [g2] at ho;cases ho;exact⟨_,g1,rfl,rfl,rfl,.inl ⟨rfl,by simp⟩⟩
  rw [n2 j e] at ho;obtain ⟨o,e1,e2⟩:=hH.spec _ (cJ ho);exact⟨o,(n1 j e).trans e1,e2⟩
 have hal:RW H1 H2:=fun j o' ho=>by
  obtain ⟨o,e1,e2,e3,e4,e5⟩:=hobj j o' ho;exact⟨o,e1,e2,e3,e4,e5.spec.1⟩
 have hown:∀ b,uM ι' H2 b→uM ι' H1 b:=by
  rintro b ⟨j,o',c,ho,hb⟩;obtain ⟨o,e1,_⟩:=hobj j o' ho;exact⟨j,o,c,e1,hb⟩
 have hrel:Rel I ι' H2 w:=by
  refine⟨a1.imm,fun j o' ho=>?_,fun j j' o o' b c c' hj hj'=>?_,a1.glob⟩
  ·obtain ⟨o,e1,e2,e3,e4,e5⟩:=hobj j o' ho;obtain ⟨s1,s2⟩:=e5.spec;refine(a1.obj j o e1).keepG e3.symm e4.symm s1.symm (EP s1 (fun i r' hi=>by
    obtain ⟨r,t1,t2,t3⟩:=s2 i r' hi;refine⟨r,t1,t2,fun k a a' h1 h2 y ts e=>?_⟩;obtain ⟨z,u1,u2⟩:=t3 k a' h2;rw [h1] at u1;cases u1;exact u2.raw e)) rfl (fun _ _ _ _=>⟨rfl,fun h=>h⟩) (fun i r' hi=>?_)
   obtain ⟨r,t1,t2,t3⟩:=s2 i r' hi;refine⟨r,t1,t2,fun k a a' h1 h2 v hv=>?_⟩;obtain ⟨y,u1,u2⟩:=t3 k a' h2;rw [h1] at u1;cases u1;exact VRel.nz hal hιid g2 rfl hpz u2 hv
  obtain ⟨o1,e1,_⟩:=hobj j o hj;obtain ⟨o2,e2,_⟩:=hobj j' o' hj';exact a1.inj j j' o1 o2 b c c' e1 e2
 have hst1:=hst.trans a2;have hst2:Step G.I G.ι G.H G.w I ι' H2 w:=by
  refine⟨hst1.os,hst1.tape,hst1.output,hst1.size,hst1.froz,hst1.imm,hst1.immNew,fun b hb=>hst1.own b (hown b hb),hst1.keep,fun j o hj=>?_⟩;obtain ⟨o1,e1,e2⟩:=hst1.objs j o hj;subst hG;have hkk:=hk.kept j (by rw [hj];rfl);by_cases e:j=id
  ·subst e;obtain ⟨o0,e0,_⟩:=hst.objs j o hj;rw [hid] at e0;cases e0
  rw [n1 j e] at e1;exact⟨o1,hkk.trans e1,e2⟩
 refine⟨hs.defers,hs.size,I,ι',hrel,hst2,fun t v hv=>?_⟩;obtain ⟨v0,f1,f2⟩:=hE.spec _ (fO hv);obtain ⟨c,c1,c2⟩:=he t v0 f1;exact⟨c,c1,VRel.nz hal hιid g2 rfl hpz f2 (c2.mono hr a2)⟩
end Go.Abs
namespace Go.Abs
open Go.Proofs.YtmkgeogoojcciaaGreatDoor
section
theorem QU {H:Type} (d:DataW H):1≤Rows.uptoBulk d:=by
 cases d with
 | lit l=>cases l<;>simp [Rows.uptoBulk]
 | _=>simp [Rows.uptoBulk]
theorem QV {H:Type} {d:DataW H} {l:List (DataW H)} (h:d∈l):Rows.uptoBulk d≤Rows.uptoBulkAll l:=by
 induction l with
 | nil=>cases h
 | cons x r ih =>
  simp only [Rows.uptoBulkAll];rcases ZY.1 h with e|e
  ·subst e;omega
  have:=ih e;omega
theorem QW {H:Type} (l:List (DataW H)):l.length≤Rows.uptoBulkAll l:=by
 induction l with
 | nil=>simp
 | cons x r ih=>have:=QU x;simp only [Rows.uptoBulkAll,ZN];omega
inductive PL (w:World) (I:Nat→Prop):List Value→List PV→Prop
 | nil:PL w I [] []
 | cons {c:Value} {p:PV} {cs:List Value} {ps:List PV} (h:PRep w I c p) (r:PL w I cs ps):PL w I (c::cs) (p::ps)
theorem PL.length {w:World} {I:Nat→Prop} {cs:List Value} {ps:List PV} (h:PL w I cs ps):cs.length=ps.length:=by
 induction h with
 | nil=>rfl
 | cons h r ih=>simp [ih]
theorem PL.append {w:World} {I:Nat→Prop} {cs cs':List Value} {ps ps':List PV} (h:PL w I cs ps) (h':PL w I cs' ps'):PL w I (cs++cs') (ps++ps'):=by
 induction h with
 | nil=>exact h'
 | cons h r ih=>exact .cons h ih
theorem PL.get {w:World} {I:Nat→Prop} {cs:List Value} {ps:List PV} (h:PL w I cs ps):∀ (k:Nat) (c:Value) (p:PV),cs[k]?=some c→ps[k]?=some p→PRep w I c p:=by
 induction h with
 | nil=>intro k c p h;simp at h
 | cons h r ih =>
  intro k c p hc hp;cases k with
  | zero=>cases hc;cases hp;exact h
  | succ k=>exact ih k c p hc hp
def rZ (P:Program):Nat→List Field→Nat→Bool
 | o,[],n=>Nat.beq o n
 | o,f::r,n=>Nat.beq f.offset o&&rZ P (o+P.cellsOf f.type) r n
def wE (P:Program) (e:TypeId):Nat→Nat→List Field
 | _,0=>[]
 | o,k+1=>⟨"",e,o,false, "", "",0⟩::wE P e (o+P.cellsOf e) k
theorem vJ {P:Program} {e:TypeId}:∀ {o k:Nat},(wE P e o k).length=k
 | _,0=>rfl
 | o,k+1=>congrArg Nat.succ (vJ (o:=o+P.cellsOf e) (k:=k))
theorem B3 {P:Program} {e:TypeId}:∀ {k o i:Nat} {f:Field},(wE P e o k)[i]?=some f→f.type=e∧f.offset=o+i*P.cellsOf e
 | 0,o,i,f,h=>by cases h
 | k+1,o,0,f,h=>by
  obtain rfl:=Option.some.inj h;exact⟨rfl,by rw [Nat.zero_mul];rfl⟩
 | k+1,o,i+1,f,h=>by
  have:=B3 (k:=k) (i:=i) (show (wE P e (o+P.cellsOf e) k)[i]?=some f from h);refine⟨this.1,?_⟩;rw [this.2,Nat.add_mul];omega
def oD (P:Program):Nat→TypeId→Bool
 | 0,_=>false
 | n+1,t=>match P.underlying t with
  | some .bool=>true
  | some (.int _)=>true
  | some .string=>true
  | some (.slice e)=>oD P n e&&Nat.blt 0 (P.cellsOf e)
  | some (.struct fs)=>rZ P 0 fs.toList (P.cellsOf t)&&fs.toList.all fun f=>oD P n f.type
  | some (.array k e)=>rZ P 0 (wE P e 0 k) (P.cellsOf t)&&(wE P e 0 k).all fun f=>oD P n f.type
  | _=>false
def XZ (S:TypeId→List PV→Prop) (c:TypeId→Nat):List Field→List PV→Prop
 | [],ps=>ps=[]
 | f::r,ps=>∃ a b,ps=a++b∧a.length=c f.type∧S f.type a∧XZ S c r b
def Sh (P:Program) (B:Nat):Nat→TypeId→List PV→Prop
 | 0,_,_=>False
 | n+1,t,ps=>match P.underlying t with
  | some .bool=>∃ b,ps=[.bool b]
  | some (.int k)=>∃ i,ps=[.int k i]∧(Lit.int k i).wf=true
  | some .string=>∃ s,ps=[.str s]∧s.size≤B
  | some (.slice e)=>∃ rows,ps=[.sl rows]∧rows.length≤B∧∀ r∈rows,r.length=P.cellsOf e∧Sh P B n e r
  | some (.struct fs)=>XZ (fun t ps=>Sh P B n t ps) P.cellsOf fs.toList ps
  | some (.array k e)=>XZ (fun t ps=>Sh P B n t ps) P.cellsOf (wE P e 0 k) ps
  | _=>False
abbrev KS (W:World):Nat→Prop:=fun b=>b < W.heap.size
theorem O9 {W:World} {a:Addr} {v:Value} (h:W.cell? a=some v):a.spot=none∧KS W a.block:=by
 unfold World.cell? at h
 split at h
 ·next c t fr e =>
  refine⟨?_,(Array.getElem?_eq_some_iff.1 e).1⟩;cases hs:a.spot with
  | none=>rfl
  | some k=>rw [hs] at h;simp at h
 cases h
section
variable {H:Type} {enc:TypeId×Value→H} {P:Program} {W:World} {B:Nat}
theorem BY {P:Program}:∀ {fs:List Field} {o n:Nat},rZ P o fs n=true→o≤n
 | [],o,n,h=>Nat.le_of_eq (Nat.eq_of_beq_eq_true h)
 | f::fs,o,n,h=>by
  simp only [rZ,ZU] at h;have:=BY h.2;omega
theorem vC {m n:Nat} {cs:List Value} (hn:∀ (t:TypeId) (cs:List Value) (x:DataW H×List MemPlace),oD P n t=true→DataW.trod enc P W 0 (fun _=>true) true m t cs=some x→Rows.uptoBulk x.1≤B→∃ ps,PL W (KS W) cs ps∧Sh P B n t ps) :
  ∀ (fs:List Field) (xs:List (DataW H×List MemPlace)) (o:Nat),rZ P o fs cs.length=true→(fs.all fun f=>oD P n f.type)=true→xs.length=fs.length →
   (∀ (i:Nat) (f:Field),fs[i]?=some f→DataW.trod enc P W 0 (fun _=>true) true m f.type ((cs.drop f.offset).take (P.cellsOf f.type))=xs[i]?)→Rows.uptoBulkAll (xs.map (·.1))≤B →
   ∃ ps,PL W (KS W) (cs.drop o) ps∧XZ (fun t ps=>Sh P B n t ps) P.cellsOf fs ps
 | [],xs,o,hc,_,hl,hx,hb=>by
  have:o=cs.length:=Nat.eq_of_beq_eq_true hc;subst this;exact⟨[],by rw [List.drop_length];exact .nil,rfl⟩
 | f::fs,[],o,hc,_,hl,hx,hb=>by simp at hl
 | f::fs,x::xs,o,hc,hp,hl,hx,hb=>by
  simp only [rZ,ZU] at hc;have ho:f.offset=o:=Nat.eq_of_beq_eq_true hc.1;simp only [List.all_cons,ZU] at hp;simp only [List.map_cons,Rows.uptoBulkAll] at hb;have h0:=hx 0 f rfl;simp only [List.getElem?_cons_zero] at h0;rw [ho] at h0;obtain ⟨a,a1,a2⟩:=hn f.type _ x hp.1 h0 (by omega);obtain ⟨b,b1,b2⟩:=vC hn fs xs (o+P.cellsOf f.type) hc.2 hp.2 (by simpa using hl) (fun i g hg=>hx (i+1) g hg) (by omega);have hle:=BY hc.2;have hal:a.length=P.cellsOf f.type:=by
   rw [← a1.length,Z0,Z1];omega
  refine⟨a++b,?_,a,b,rfl,hal,a2,b2⟩;have:=a1.append b1
  rwa [← List.drop_drop,List.take_append_drop] at this
theorem wR:∀ (n:Nat) (t:TypeId),oD P n t=true→∀ (m:Nat) (cs:List Value) (x:DataW H×List MemPlace),DataW.trod enc P W 0 (fun _=>true) true m t cs=some x→Rows.uptoBulk x.1≤B→∃ ps,PL W (KS W) cs ps∧Sh P B n t ps
 | 0,t,hp,m,cs,x,h,hb=>by cases hp
 | n + 1, t, hp, m, cs, x, h, hb => by
  unfold oD at hp
  split at hp
  ·next ht =>
   obtain ⟨b,rfl,rfl⟩:=DataW.trod_bool ht h;exact⟨[.bool b],.cons (.bool b) .nil,by unfold Sh;rw [ht];exact⟨b,rfl⟩⟩
  ·next k ht =>
   obtain ⟨i,rfl,rfl,hw⟩:=DataW.trod_int ht h;exact⟨[.int k i],.cons (.int k i) .nil,by unfold Sh;rw [ht];exact⟨i,rfl,hw⟩⟩
  ·next ht =>
   obtain ⟨s,rfl,rfl,hs⟩:=DataW.trod_string ht h;have hsz:s.size≤B:=by
    have e1:s.data.toList.length=s.size:=Array.length_toList;simp only [Rows.uptoBulk] at hb;omega
   exact⟨[.str s],.cons (.str s) .nil,by unfold Sh;rw [ht];exact⟨s,rfl,hsz⟩⟩
  ·next e ht =>
   simp only [ZU,Nat.blt_eq] at hp;obtain ⟨hpe,hsz⟩:=hp;rcases DataW.trod_slice ht h with⟨rfl,rfl⟩|⟨a,len,cap,elems,rest,m',rfl,rfl,rfl,_,hlc,hmax,hlen,hel,hre,_⟩
   ·exact⟨[.sl []],.cons .nilsl .nil,by unfold Sh;rw [ht];exact⟨[],rfl,by simp,by simp⟩⟩
   obtain ⟨hrl,hre⟩:=hre rfl;simp only [Rows.uptoBulk] at hb;rcases Nat.eq_zero_or_pos cap with hc0|hcpos
   ·have hl0:len=0:=by omega
    subst hl0 hc0;exact⟨[.sl []],.cons (.empsl a) .nil,by unfold Sh;rw [ht];exact⟨[],rfl,by simp,by simp⟩⟩
   have hcell:∃ v,W.cell? a=some v:=by
    rcases Nat.eq_zero_or_pos len with hl0|hlp
    ·subst hl0;have h0:=hre 0 (by omega);have hr0:=List.getElem?_eq_getElem (l:=rest) (i:=0) (by omega);rw [hr0,Option.bind_eq_some_iff] at h0;obtain ⟨c0,q1,_⟩:=h0;obtain ⟨_,q2,q3⟩:=World.cells?_some q1;have:=q3 0 hsz;simp only [Nat.add_zero,Nat.zero_mul] at this;rw [Addr.add_zero',Addr.add_zero',ZQ (by omega)] at this;exact⟨_,this⟩
    have h0:=hel 0 hlp;have hr0:=List.getElem?_eq_getElem (l:=elems) (i:=0) (by omega);rw [hr0,Option.bind_eq_some_iff] at h0;obtain ⟨c0,q1,_⟩:=h0;obtain ⟨_,q2,q3⟩:=World.cells?_some q1;have:=q3 0 hsz;simp only [Nat.zero_mul] at this;rw [Addr.add_zero',Addr.add_zero',ZQ (by omega)] at this;exact⟨_,this⟩
   obtain ⟨v0,hv0⟩:=hcell;obtain ⟨hspot,hold⟩:=O9 hv0;obtain ⟨b,off,sp⟩:=a;simp only at hspot hold;subst hspot;have hrow:∀ i,i < len→∃ ps:List PV,∃ ci,W.cells? 0 (Addr.add ⟨b,off,none⟩ (i*P.cellsOf e)) (P.cellsOf e)=some ci∧PL W (KS W) ci ps∧Sh P B n e ps:=by
    intro i hi;have h0:=hel i hi;have hr0:=List.getElem?_eq_getElem (l:=elems) (i:=i) (by omega);rw [hr0,Option.bind_eq_some_iff] at h0;obtain ⟨ci,q1,q2⟩:=h0;have hbi:Rows.uptoBulk (elems[i]'(by omega)).1≤B:=by
     have:=QV (List.mem_map_of_mem (f:=fun x:DataW H×List MemPlace=>x.1) (List.getElem_mem (l:=elems) (n:=i) (by omega)));omega
    obtain ⟨ps,s1,s2⟩:=wR n e hpe m' ci _ q2 hbi;exact⟨ps,ci,q1,s1,s2⟩
   obtain ⟨rows,r1,r2⟩:∃ rows:List (List PV),rows.length=len∧∀ i r,rows[i]?=some r→∃ ci,W.cells? 0 (Addr.add ⟨b,off,none⟩ (i*P.cellsOf e)) (P.cellsOf e)=some ci∧PL W (KS W) ci r∧Sh P B n e r:=by
    refine⟨(List.range len).map (fun i=>if h:i < len then(hrow i h).choose else[]),by simp,fun i r hr=>?_⟩;rw [Z6] at hr;obtain ⟨j,hj,rfl⟩:=Option.map_eq_some_iff.1 hr;obtain ⟨hlt,hj⟩:=ZP.1 hj;rw [List.getElem_range] at hj;subst hj;have hi:i < len:=by simpa using hlt
    rw [dif_pos hi];exact(hrow i hi).choose_spec
   have hcl:∀ (i:Nat) (r:List PV),rows[i]?=some r→r.length=P.cellsOf e:=fun i r hr=>by
    obtain ⟨ci,c1,c2,c3⟩:=r2 i r hr;rw [← c2.length];exact(World.cells?_some c1).2.1
   refine⟨[.sl rows],.cons ?_ .nil,by
    unfold Sh;rw [ht];refine⟨rows,rfl,?_,fun r hr=>?_⟩
    ·have:=QW (elems.map (·.1));simp only [ZL] at this;omega
    obtain ⟨i,hi⟩:=Z7.1 hr;obtain ⟨ci,c1,c2,c3⟩:=r2 i r hi;exact⟨hcl i r hi,c3⟩⟩
   rw [← r1];have hcells:∀ (i:Nat) (r:List PV),rows[i]?=some r→∀ (k:Nat) (p:PV),r[k]?=some p→∃ v,W.cell? ⟨b,off+i*P.cellsOf e+k,none⟩=some v∧PRep W (KS W) v p:=by
    intro i r hr k p hk;obtain ⟨ci,c1,c2,c3⟩:=r2 i r hr;obtain ⟨_,d1,d2⟩:=World.cells?_some c1;have hkl:k < P.cellsOf e:=by rw [← hcl i r hr];exact(ZP.1 hk).1
    have e1:=d2 k hkl;rw [Addr.add_lit,Addr.add_lit] at e1;have e2:ci[k]?=some (ci[k]'(by omega)):=ZQ (by omega);exact⟨_,e1.trans e2,c2.get k _ p e2 hk⟩
   refine PRep.sl b off cap (P.cellsOf e) rows (fun i k=>(W.cell? ⟨b,off+i*P.cellsOf e+k,none⟩).getD undef) hold hsz (fun r hr=>?_) (by omega) (fun i r hr k p hk=>?_) (fun i r hr k p hk=>?_)
   ·obtain ⟨i,hi⟩:=Z7.1 hr;exact hcl i r hi
   ·obtain ⟨v,v1,v2⟩:=hcells i r hr k p hk;simp [v1]
   obtain ⟨v,v1,v2⟩:=hcells i r hr k p hk;simp [v1,v2]
  ·next fs ht =>
   simp only [ZU] at hp;obtain ⟨xs,m',rfl,rfl,hl,hxl,hf⟩:=DataW.trod_struct ht h;simp only [Rows.uptoBulk] at hb;obtain ⟨ps,p1,p2⟩:=vC (n:=n) (m:=m') (B:=B) (fun t cs x a b c=>wR n t a m' cs x b c) fs.toList xs 0 (by rw [hl];exact hp.1) hp.2 (by simpa using hxl) (fun i f hi=>hf i f (by simpa using hi)) (by omega);exact⟨ps,by simpa using p1,by unfold Sh;rw [ht];exact p2⟩
  ·next k e ht =>
   simp only [ZU] at hp;obtain ⟨xs,m',rfl,rfl,hl,hxl,hf⟩:=DataW.trod_array ht h;simp only [Rows.uptoBulk] at hb;obtain ⟨ps,p1,p2⟩:=vC (n:=n) (m:=m') (B:=B) (fun t cs x a b c=>wR n t a m' cs x b c) (wE P e 0 k) xs 0 (by rw [hl];exact hp.1) hp.2 (by rw [vJ,hxl]) (fun i f hi=>by
    obtain ⟨g1,g2⟩:=B3 hi;have hlt:i < k:=by
     have:=(ZP.1 hi).1
     rwa [vJ] at this
    rw [g1,g2,Z4];exact hf i hlt) (by omega)
   exact⟨ps,by simpa using p1,by unfold Sh;rw [ht];exact p2⟩
  cases hp
end
end
end Go.Abs
namespace Go.Abs
open Go.Proofs.YtmkgeogoojcciaaGreatDoor Go.ChangeShapes Go.WideShapes Go.ChangeAt Go.RowKit
section
def KM (P:Program) (t:TypeId) (ps:List PV):AV :=match P.underlying t with
 | some (.struct _)=>.agg (ps.map .pv)
 | some (.array _ _)=>.agg (ps.map .pv)
 | _=>match ps with
  | [p]=>.pv p
  | _=>.any
section
variable {H:Type} {enc:TypeId×Value→H} {P:Program} {W:World} {B:Nat}
theorem PL.toV {I:Nat→Prop} {ι:cB} {Hp:aA} {cs:List Value} {ps:List PV} (h:PL W I cs ps) (i:Nat) (v:Value) (a:AV) (h1:cs[i]?=some v) (h2:(ps.map AV.pv)[i]?=some a):VRel W I ι Hp v a∧v.oneCell'=true:=by rw [Z6] at h2;obtain ⟨p,hp,rfl⟩:=Option.map_eq_some_iff.1 h2;have:=h.get i v p h1 hp;exact⟨.pv this,this.oneCell⟩
theorem W4 {n:Nat} {t:TypeId} {v:Value} {base:Nat} (hp:oD P n t=true) (hval:Value.okWide P W .any base t v) (hno:∀ fs,P.underlying t=some (.struct fs)→False) (hno2:∀ k e,P.underlying t=some (.array k e)→False):v.cells.toList=[v]:=by
 cases n with
 | zero=>cases hp
 | succ n =>
  unfold oD at hp;unfold Value.okWide at hval
  split at hp
  ·next ht=>cases v<;>first|rfl|(simp [Cell.okWide,Cell.ok,ht] at hval)
  ·next k ht=>cases v<;>first|rfl|(simp [Cell.okWide,Cell.ok,ht] at hval)
  ·next ht=>cases v<;>first|rfl|(simp [Cell.okWide,Cell.ok,ht] at hval)
  ·next e ht=>cases v<;>first|rfl|(simp [Cell.okWide,Cell.ok,ht] at hval)
  ·next fs ht=>exact(hno fs ht).elim
  ·next k e ht=>exact(hno2 k e ht).elim
  cases hp
theorem UH {n:Nat} {t:TypeId} {v:Value} {d:DataW H} {p:List MemPlace} {base:Nat} (ι:cB) (Hp:aA) (hp:oD P n t=true) (hval:Value.okWide P W .any base t v) (h:DataW.Trod enc P W 0 (fun _=>true) true t v d p) (hb:Rows.uptoBulk d≤B) :
  ∃ ps,Sh P B n t ps∧VRel W (KS W) ι Hp v (KM P t ps):=by
 obtain ⟨m,hm⟩:=h;obtain ⟨ps,h1,h2⟩:=wR (B:=B) n t hp m _ _ hm hb;refine⟨ps,h2,?_⟩;unfold KM
 split
 ·next fs ht =>
  unfold Value.okWide at hval;rw [ht] at hval;obtain ⟨cs,rfl,_,_⟩:=hval;have hl:=h1.length;simp only [Value.cells,Array.length_toList] at hl;refine .agg (by simpa using hl) (fun i v hv=>?_) (fun i v a hv ha=>?_)
  ·have hlt:=(Array.getElem?_eq_some_iff.1 hv).1;exact(PL.toV (ι:=ι) (Hp:=Hp) h1 i v (.pv (ps[i]'(by omega))) (by simpa [Value.cells] using hv) (by rw [Z6,ZQ (by omega)];rfl)).2
  exact(PL.toV h1 i v a (by simpa [Value.cells] using hv) ha).1
 ·next k e ht =>
  unfold Value.okWide at hval;rw [ht] at hval;obtain ⟨cs,rfl,_,_⟩:=hval;have hl:=h1.length;simp only [Value.cells,Array.length_toList] at hl;refine .agg (by simpa using hl) (fun i v hv=>?_) (fun i v a hv ha=>?_)
  ·have hlt:=(Array.getElem?_eq_some_iff.1 hv).1;exact(PL.toV (ι:=ι) (Hp:=Hp) h1 i v (.pv (ps[i]'(by omega))) (by simpa [Value.cells] using hv) (by rw [Z6,ZQ (by omega)];rfl)).2
  exact(PL.toV h1 i v a (by simpa [Value.cells] using hv) ha).1
 next hno hno2 =>
 split
 ·next q =>
  have hone:=W4 hp hval (fun fs h=>hno fs h) (fun k e h=>hno2 k e h);rw [hone] at h1;exact(PL.toV h1 0 _ _ rfl rfl).1
 exact .any v
def wD (P:Program):List TypeId→List (List PV)→List AV
 | t::ts,p::ps=>KM P t p::wD P ts ps
 | _,_=>[]
def B4 (P:Program) (B n:Nat):List TypeId→List (List PV)→Prop
 | [],[]=>True
 | t::ts,p::ps=>Sh P B n t p∧B4 P B n ts ps
 | _,_=>False
theorem LA {n:Nat} {pss:List (List PV)} (h:B4 P B n [] pss):pss=[]:=by
 cases pss with
 | nil=>rfl
 | cons p ps=>exact h.elim
theorem xP {n:Nat} {t:TypeId} {ts:List TypeId} {pss:List (List PV)} (h:B4 P B n (t::ts) pss):∃ p ps,pss=p::ps∧Sh P B n t p∧B4 P B n ts ps:=by
 cases pss with
 | nil=>exact h.elim
 | cons p ps=>exact⟨p,ps,rfl,h.1,h.2⟩
theorem F9 {n:Nat} {base:Nat} (ι:cB) (Hp:aA):∀ {ts:List TypeId} {vs:List Value} {ds:List (DataW H)} {p:List MemPlace},DataW.TrodAll enc P W 0 (fun _=>true) true ts vs ds p→ts.all (oD P n)=true →
  (∀ (j:Nat) t v,ts[j]?=some t→vs[j]?=some v→Value.okWide P W .any base t v)→Rows.uptoBulkAll ds≤B →
  ∃ pss,B4 P B n ts pss∧vs.length=(wD P ts pss).length∧∀ (i:Nat) (v:Value) (a:AV),vs[i]?=some v→(wD P ts pss)[i]?=some a→VRel W (KS W) ι Hp v a
 | [],vs,ds,p,h,hp,hv,hb=>by
  obtain ⟨rfl,rfl,rfl⟩:=trodAll_nil h;exact⟨[],trivial,rfl,fun i v a h=>by simp at h⟩
 | t::ts,vs,ds,p,h,hp,hv,hb=>by
  obtain ⟨v,vs',d,ds',p1,p2,rfl,rfl,rfl,h1,h2⟩:=trodAll_cons h;simp only [List.all_cons,ZU] at hp;simp only [Rows.uptoBulkAll] at hb;obtain ⟨ps,a1,a2⟩:=UH (B:=B) ι Hp hp.1 (hv 0 t v rfl rfl) h1 (by omega);obtain ⟨pss,b1,b2,b3⟩:=F9 ι Hp h2 hp.2 (fun j t v h1 h2=>hv (j+1) t v h1 h2) (by omega);refine⟨ps::pss,⟨a1,b1⟩,by simp [wD,b2],fun i v a h1 h2=>?_⟩;cases i with
  | zero=>cases h1;cases h2;exact a2
  | succ i=>exact b3 i v a h1 h2
theorem SP (ι:cB) (W:World) (hg:zN (KS W) W):Rel (KS W) ι [] W:=⟨fun _ h=>h,fun _ _ h=>(by cases h),fun _ _ _ _ _ _ _ h=>(by cases h),hg⟩
theorem IN {I I':Nat→Prop} {ι ι':cB} {H':aA} {w w':World} (h:Step I ι [] w I' ι' H' w'):Below w.heap.size w w' :=⟨h.os,h.tape,h.output,h.size,fun k hk=>h.keep k hk (fun⟨_,_,_,hx,_⟩=>by cases hx)⟩
theorem zI (hl:laidOutB P=true) {W':World} (hb:Below W.heap.size W W') {sp:Nat→Bool}:∀ {ts:List TypeId} {vs:List Value} {ds:List (DataW H)} {p:List MemPlace},DataW.TrodAll enc P W 0 (fun _=>true) true ts vs ds p →
  (ts.all fun t=>P.readableRec t&&Nat.blt t P.types.size)=true→(∀ x∈p,x.block < W.heap.size)→(∀ x∈p,sp x.block=true)→DataW.TrodAll enc P W' 0 sp true ts vs ds p
 | [],vs,ds,p,h,hp,hlt,hsp=>by
  obtain ⟨rfl,rfl,rfl⟩:=trodAll_nil h;exact trodAll_mk0
 | t::ts,vs,ds,p,h,hp,hlt,hsp=>by
  obtain ⟨v,vs',d,ds',p1,p2,rfl,rfl,rfl,h1,h2⟩:=trodAll_cons h;simp only [List.all_cons,ZU,Nat.blt_eq] at hp;exact trodAll_cons_mk (WideElems.Trod_stays hl hp.1.1 hp.1.2 h1 (fun x hx=>hb.same (hlt x (by simp [hx]))) (fun x hx=>hsp x (by simp [hx])))
   (zI hl hb h2 hp.2 (fun x hx=>hlt x (by simp [hx])) (fun x hx=>hsp x (by simp [hx])))
theorem HH {f:Func} {s:ChangeSpec} {apart fresh handsOn again:Bool} {W W':World} {args:Array Value} {v:Value} {ds gs:List (DataW H)} {gU pa pv:List MemPlace}
  (hW:DataW.Whole enc P f.params.toList s.vars apart W args.toList ds gs gU)
  (hres:∀ (b:Nat) (sp:Nat→Bool) (hd:Bool),DataW.TrodAll enc P W' b sp hd f.resultTypes.toList (v.resultList f.resultTypes.size) (s.fn H (ds++gs)).results [])
  (hargs:∀ sp:Nat→Bool,(∀ p∈gU,sp p.block=true)→DataW.TrodAll enc P W' 0 sp true f.params.toList args.toList (s.fn H (ds++gs)).args pa)
  (hvars:∀ sp:Nat→Bool,(∀ p∈gU,sp p.block=true)→DataW.TrodVars enc P W' sp s.vars (s.fn H (ds++gs)).vars pv)
  (hps:gU=pa++pv) (hb:Below W.heap.size W W')
  (hok:∀ (j:Nat) (t:TypeId) (r:Value),f.resultTypes[j]?=some t→(v.resultList f.resultTypes.size)[j]?=some r→Value.okWide P W' .any 0 t r) :
  s.post enc P f apart fresh handsOn again W args v W':=by
 have hlt:∀ p∈gU,p.block < W.heap.size:=fun p hp=>hW.lt p hp;have hold:∀ p∈gU,(fun b=>decide (b < W.heap.size)) p.block=true:=fun p hp=>by simpa using hlt p hp
 refine⟨ds,gs,gU,[],pa,pv,hW,hres _ _ _,hargs _ hold,hvars _ hold,World.keptBut_mono (fun p hp=>⟨hp,?_⟩) (hb.frame (·∈gU)),fun _=>?_⟩
 ·rw [hps,List.mem_append] at hp;exact Or.inr hp
 obtain ⟨_,_,_,_,_,hz,hn⟩:=hW;refine⟨hok,_,_,([]++pa)++pv,⟨[]++pa,pv,trodAll_append (hargs _ (fun _ _=>rfl)) (hres _ _ _),hvars _ (fun _ _=>rfl),rfl,?_,?_⟩,?_⟩
 ·intro b off hp;have hin:MemPlace.cell b off∈gU:=by rw [hps];simpa using hp
  rw [hb.frozen (hlt _ hin)];exact hz b off hin
 ·intro ha;have:=hn ha;rw [hps] at this
  simpa using this
 intro p hp _;rw [hps]
 simpa using hp
theorem PI {n:Nat} {fid:FuncId} {f:Func} {s:ChangeSpec} {apart fresh handsOn again:Bool} {args:Array Value} {ds gs:List (DataW H)} {gU:List MemPlace} {base:Nat} {bt:TypeId}
  (hl:laidOutB P=true) (hpar:(f.params.toList.all fun t=>P.readableRec t&&Nat.blt t P.types.size)=true) (hpure:f.params.toList.all (oD P n)=true) (hvars:s.vars=[])
  (hfn:∀ ds:List (DataW H),ds.length=f.params.toList.length→(s.fn H ds).results=[.lit (.bool true)]∧(s.fn H ds).args=ds∧(s.fn H ds).vars=[])
  (hres:f.resultTypes=#[bt]) (hbt:P.underlying bt=some .bool)
  (hval:∀ (j:Nat) t v,f.params[j]?=some t→args[j]?=some v→Value.okWide P W .any base t v)
  (hW:DataW.Whole enc P f.params.toList s.vars apart W args.toList ds gs gU) (hB:Rows.uptoBulkAll ds≤B)
  (hc:∀ pss,B4 P B n f.params.toList pss→aJ P fid (wD P f.params.toList pss) [] (fun r H'=>r=.pv (.bool true)∧H'=[])) (hg:zN (KS W) W:=by exact fun p hp=>by cases hp) :
  Calls P fid args W fun e W'=>∃ v,e=.returned v∧s.post enc P f apart fresh handsOn again W args v W':=by
 have hW':=hW;obtain ⟨p,q,hA,hV,rfl,hfz,hnd⟩:=hW;rw [hvars] at hV;obtain ⟨rfl,rfl⟩:=trodVars_none hV;obtain ⟨pss,h1,h2,h3⟩:=F9 (B:=B) (base:=base) (fun _=>none) [] hA hpure (fun j t v ht hv=>hval j t v (by simpa using ht) (by simpa using hv)) hB;have hlen:ds.length=f.params.toList.length:=by
  clear h1 h2 h3 hc hfn hpar hpure hval hW' hB hfz hnd;revert hA;generalize f.params.toList=ts;generalize args.toList=vs;intro hA;clear hV
  induction ts generalizing vs ds p with
  | nil=>obtain ⟨_,rfl,_⟩:=trodAll_nil hA;rfl
  | cons t ts ih =>
   obtain ⟨v,vs',d,ds',p1,p2,_,rfl,_,_,h2⟩:=trodAll_cons hA;simp [ih _ _ h2]
 refine(hc pss h1 (KS W) (fun _=>none) W args (SP _ W hg) (by simpa using h2) (fun i v a ha hb=>h3 i v a (by simpa using ha) hb)).mono ?_;rintro e W' ⟨r,H',I',ι',v,rfl,⟨rfl,rfl⟩,hv,hr,hst⟩;have hvb:v=.bool true:=hv.bool_inv;subst hvb;have hbel:=IN hst;obtain ⟨f1,f2,f3⟩:=hfn (ds++[]) (by simpa using hlen);refine⟨_,rfl,HH (pa:=p) (pv:=[]) hW' (fun b sp hd=>?_) (fun sp hsp=>?_) (fun sp hsp=>?_) rfl hbel (ok_one hres rfl (okWide_bool_mk hbt _))⟩
 ·rw [f1,hres];exact trodAll_cons_mk (shut_bool hbt _) trodAll_mk0
 ·rw [f2,List.append_nil];exact zI hl hbel hA hpar (fun x hx=>hW'.lt x (by simp [hx])) (fun x hx=>hsp x (by simp [hx]))
 rw [f3,hvars];rfl
theorem OM {n:Nat} {t:TypeId} {k:IntKind} {ps:List PV} (ht:P.underlying t=some (.int k)) (h:Sh P B (n+1) t ps):∃ i,ps=[.int k i]∧(Lit.int k i).wf=true:=by unfold Sh at h;rw [ht] at h;exact h
end
end
section
section
variable {P:Program} {G0:aA} {N:Nat} {o:Oper} {E:bJ} {H H2:aA} {v:AV} {Q:Exit→bJ→aA→Prop} {T e t t':TypeId} {x y:Operand} {id g i:Nat} {ob:Ob}
theorem Dd {ops:Array Oper} {K:bJ→aA→Prop} {rest:List Oper} {d:Tmp} {op:Op} {ty:TypeId} {pos:String} {af:Array Edge} (h:bN P N ⟨some d,op,ty,pos,af,none⟩ E H v H2) (hk:AL P G0 N ops K rest ((d,v)::E) H2) (hn:Nat.blt d N=true:=by rfl):AL P G0 N ops K (⟨some d,op,ty,pos,af,none⟩::rest) E H:=YK rfl rfl hn h hk
theorem Uu {ops:Array Oper} {K:bJ→aA→Prop} {rest:List Oper} {op:Op} {ty:TypeId} {pos:String} {af:Array Edge} (h:bN P N ⟨none,op,ty,pos,af,none⟩ E H v H2) (hk:AL P G0 N ops K rest E H2):AL P G0 N ops K (⟨none,op,ty,pos,af,none⟩::rest) E H:=YJ rfl rfl h hk
theorem Sq {x y:Code} (h:gP P G0 N x (uE (gP P G0 N y Q) Q) E H):gP P G0 N (.seq x y) Q E H:=KK h
theorem Rg {id:Nat} {ops:Array Oper} (h:AL P G0 N ops (fun E H=>Q .normal E H) ops.toList E H):gP P G0 N (.region id ops false) Q E H:=zH h
theorem Zz {ops:Array Oper} {K:bJ→aA→Prop} (h:K E H):AL P G0 N ops K [] E H:=WB h
theorem aF (ho:o.op=.move x:=by rfl) (hx:aO E x=some v:=by rfl):bN P N o E H v H:=mU ho hx
theorem aS (ho:o.op=.assign x:=by rfl) (hx:aO E x=some v:=by rfl):bN P N o E H v H:=yB ho hx
theorem Sr {id:Nat} {ops:Array Oper} {y:Code} (h:AL P G0 N ops (fun E H=>uE (gP P G0 N y Q) Q .normal E H) ops.toList E H):gP P G0 N (.seq (.region id ops false) y) Q E H:=Sq (Rg h)
theorem Dm {ops:Array Oper} {K:bJ→aA→Prop} {rest:List Oper} {d:Tmp} {op:Op} {ty:TypeId} {pos:String} {af:Array Edge} (hk:AL P G0 N ops K rest ((d,v)::E) H) (ho:op=.move x:=by rfl) (hx:aO E x=some v:=by rfl) (hn:Nat.blt d N=true:=by rfl):AL P G0 N ops K (⟨some d,op,ty,pos,af,none⟩::rest) E H:=Dd (mU ho hx) hk hn
theorem Da {ops:Array Oper} {K:bJ→aA→Prop} {d:Tmp} {op:Op} {ty:TypeId} {pos:String} {af:Array Edge} (hk:K ((d,v)::E) H) (ho:op=.assign x:=by rfl) (hx:aO E x=some v:=by rfl) (hn:Nat.blt d N=true:=by rfl):AL P G0 N ops K [⟨some d,op,ty,pos,af,none⟩] E H:=Dd (yB ho hx) (Zz hk) hn
theorem Kr {a b:Prop} (h:b) (h1:a:=by kernel_rfl):a∧b:=⟨h1,h⟩
theorem Qq {α β:Type} {a:α} {b:β}:a=a∧b=b:=⟨rfl,rfl⟩
theorem Pu {f:FuncId} {args:List AV} {r0:AV} (h:aJ P f args [] (fun r H=>r=r0∧H=[])) (hp:∀ a∈args,Clo [] a:=by simp):aJ P f args H (fun r H'=>r=r0∧H'=H):=aJ.pure h hp H
theorem eR {vs:List AV} {n:Nat} (ho:o.op=.extract x n:=by rfl) (hx:aO E x=some (.tup vs):=by rfl) (hv:vs[n]?=some v:=by rfl):bN P N o E H v H:=E4 ho hx hv
theorem dX {S off:TypeId} {k k2 f:Nat} (hF:dL P S f off) (ho:o.op=.fieldAddr S x f:=by rfl) (hx:aO E x=some (.ref id g i k):=by rfl) (hH:H.get id=some ob:=by rfl) (hg:ob.g=g:=by rfl) (hk:k+off=k2:=by rfl):bN P N o E H (.ref id g i k2) H:=fQ ho hF hx hH hg hk
theorem eQ {k:Nat} {r:List AV} (ha:∀ w,(isAgg T).run P w=.ok false w) (ho:o.op=.load T x:=by rfl) (hx:aO E x=some (.ref id g i k):=by rfl) (hH:H.get id=some ob:=by rfl) (hg:ob.g=g:=by rfl) (hi:ob.rows[i]?=some r:=by rfl) (hk:r[k]?=some v:=by rfl):bN P N o E H v H:=aW ho ha hx hH hg hi hk
theorem TA {n k:Nat} {r cs:List AV} (ha:∀ w,(isAgg T).run P w=.ok true w) (hs:∀ w,(sizeOf T).run P w=.ok n w) (ho:o.op=.load T x:=by rfl) (hx:aO E x=some (.ref id g i k):=by rfl) (hH:H.get id=some ob:=by rfl) (hg:ob.g=g:=by rfl) (hi:ob.rows[i]?=some r:=by rfl) (hk:(r.drop k).take n=cs:=by rfl) (hl:cs.length=n:=by rfl):bN P N o E H (.agg cs) H:=cX ho ha hs hx hH hg hi hk hl
theorem qV {cells r:List AV} {n:Nat} (hs:∀ w,(sizeOf T).run P w=.ok n w) (ho:o.op=.store T x y:=by rfl) (hx:aO E x=some (.ref id g 0 0):=by rfl) (hy:aO E y=some v:=by rfl) (hc:GB v=some cells:=by rfl) (hn:cells.length=n:=by rfl) (hH:H.get id=some ob:=by rfl) (hg:ob.g=g:=by rfl) (hi:ob.rows=[r]:=by rfl) (hk:r.length=n:=by rfl):bN P N o E H .any ((id,⟨g,ob.sz,ob.ty,[cells]⟩)::H):=iH ho hs hx hy hc hn hH hg hi hk
theorem qQ {rows:List (List PV)} (ht:P.underlying T=some (.slice e)) (ho:o.op=.call {callee:=.builtin .len,args:=#[x],argTypes:=#[T]}:=by rfl) (hx:aO E x=some (.pv (.sl rows)):=by rfl):bN P N o E H (.pv (.int .i64 rows.length)) H:=HO ho ht hx
theorem KV {rows:List (List PV)} {r:List PV} {kk:IntKind} {n:Int} {m sz:Nat} (hS:dT P T e sz) (ho:o.op=.indexAddr T x y:=by rfl) (hx:aO E x=some (.pv (.sl rows)):=by rfl) (hy:aO E y=some (.pv (.int kk n)):=by rfl) (h0:0≤n:=by omega) (hm:n.toNat=m:=by exact ZX _) (hi:rows[m]?=some r:=by assumption) (hl:r.length=sz:=by rfl):bN P N o E H (.pad rows m 0) H:=eT ho hS hx hy h0 hm hi hl
theorem NR {parts:Array (Nat×Operand)} {places:List (Nat×Nat)} {l0 l:List AV} {aps:List (Nat×AV)} (hB:oB P T places l0) (ho:o.op=.build T parts:=by rfl) (hp:jB E parts.toList=some aps:=by rfl) (hf:sA (fun i=>places[i]?) l0 aps=some l:=by rfl):bN P N o E H (.agg l) H:=I6 ho hB hp hf
theorem eF {k:IntKind} {n m:Int} (ho:o.op=.binOp .lss t x y t':=by rfl) (hx:aO E x=some (.pv (.int k n)):=by rfl) (hy:aO E y=some (.pv (.int k m)):=by rfl):bN P N o E H (.pv (.bool (decide (n < m)))) H:=wV ho hx hy
theorem gS {k:IntKind} {n m:Int} (ho:o.op=.binOp .eql t x y t':=by rfl) (hx:aO E x=some (.pv (.int k n)):=by rfl) (hy:aO E y=some (.pv (.int k m)):=by rfl):bN P N o E H (.pv (.bool (decide (n=m)))) H:=cN ho hx hy
theorem Cq {ops rest:List Oper} {K:List Rec→bJ→aA→Prop} {dst:Option Tmp} {op:Op} {ty:TypeId} {pos:String} {af:Array Edge} (h:bN P N ⟨dst,op,ty,pos,af,none⟩ (restr E (gF ops ⟨dst,op,ty,pos,af,none⟩)) H v H) (hk:DC P N ops rest (kI E dst v) H (fun rs E' H'=>K (⟨v,none,[]⟩::rs) E' H')) (hd:iV N dst=true:=by rfl):DC P N ops (⟨dst,op,ty,pos,af,none⟩::rest) E H K:=cF (DStep.q rfl h) hd hk
theorem Cp {ops rest:List Oper} {K:List Rec→bJ→aA→Prop} {dst:Option Tmp} {op:Op} {ty:TypeId} {pos:String} {af:Array Edge} (R:List Nat) {w:Nat×Ob} (h:∀ H1:aA,(∀ id,oI (some R) id=true→H1.get id=H.get id)→bN P N ⟨dst,op,ty,pos,af,none⟩ (restr E (gF ops ⟨dst,op,ty,pos,af,none⟩)) H1 v (w::H1)) (hk:DC P N ops rest (kI E dst v) (w::H) (fun rs E' H'=>K (⟨v,some R,[w]⟩::rs) E' H')) (hd:iV N dst=true:=by rfl):DC P N ops (⟨dst,op,ty,pos,af,none⟩::rest) E H K:=cF (r:=⟨v,some R,[w]⟩) (DStep.plain rfl h) hd hk
theorem Cr {ops rest:List Oper} {K:List Rec→bJ→aA→Prop} {dst:Option Tmp} {op:Op} {ty:TypeId} {pos:String} {af:Array Edge} (R:List Nat) (h:∀ H1:aA,(∀ id,oI (some R) id=true→H1.get id=H.get id)→bN P N ⟨dst,op,ty,pos,af,none⟩ (restr E (gF ops ⟨dst,op,ty,pos,af,none⟩)) H1 v H1) (hk:DC P N ops rest (kI E dst v) H (fun rs E' H'=>K (⟨v,some R,[]⟩::rs) E' H')) (hd:iV N dst=true:=by rfl):DC P N ops (⟨dst,op,ty,pos,af,none⟩::rest) E H K:=cF (r:=⟨v,some R,[]⟩) (DStep.plain rfl h) hd hk
theorem Cs {ops rest:List Oper} {K:List Rec→bJ→aA→Prop} {dst:Option Tmp} {op:Op} {ty:TypeId} {pos:String} {af:Array Edge} (h:∀ H1:aA,(∀ id,oI none id=true→H1.get id=H.get id)→bN P N ⟨dst,op,ty,pos,af,none⟩ (restr E (gF ops ⟨dst,op,ty,pos,af,none⟩)) H1 v H1) (hk:DC P N ops rest (kI E dst v) H (fun rs E' H'=>K (⟨v,none,[]⟩::rs) E' H')) (hd:iV N dst=true:=by rfl):DC P N ops (⟨dst,op,ty,pos,af,none⟩::rest) E H K:=cF (r:=⟨v,none,[]⟩) (DStep.plain rfl h) hd hk
theorem Ot {ops rest:List Oper} {K:List Rec→bJ→aA→Prop} {dst:Option Tmp} {op:Op} {ty:TypeId} {pos:String} {af:Array Edge} {j:Nat} {t:Tmp} {b:Bool} (hk:DC P N ops rest (kI E dst (.tup [])) H (fun rs E' H'=>K (⟨.tup [],some [],[]⟩::rs) E' H')) (hj:gG ops j=some t:=by rfl) (hb:E.get t=some (.pv (.bool b)):=by rfl) (hw:b=false:=by first|rfl|assumption) (hd:iV N dst=true:=by rfl):DC P N ops (⟨dst,op,ty,pos,af,some (j,true)⟩::rest) E H K:=cF (SR rfl hj hb hw) hd hk
theorem On {ops:Array Oper} {K:bJ→aA→Prop} {rest:List Oper} {d:Tmp} {op:Op} {ty:TypeId} {pos:String} {af:Array Edge} {j:Nat} {want b:Bool} {t:Tmp} (h:bN P N ⟨some d,op,ty,pos,af,some (j,want)⟩ E H v H2) (hk:AL P G0 N ops K rest ((d,v)::E) H2) (hj:gG ops.toList j=some t:=by rfl) (hb:E.get t=some (.pv (.bool b)):=by rfl) (hw:b=want:=by rfl) (hn:Nat.blt d N=true:=by rfl):AL P G0 N ops K (⟨some d,op,ty,pos,af,some (j,want)⟩::rest) E H:=RG rfl hj hb hw rfl hn h hk
theorem Fo {ops:Array Oper} {K:bJ→aA→Prop} {rest:List Oper} {dst:Option Tmp} {op:Op} {ty:TypeId} {pos:String} {af:Array Edge} {j:Nat} {want b:Bool} {t:Tmp} (hk:AL P G0 N ops K rest (kI E dst (.tup [])) H) (hj:gG ops.toList j=some t:=by rfl) (hb:E.get t=some (.pv (.bool b)):=by rfl) (hw:b=!want:=by rfl) (hd:iV N dst=true:=by rfl):AL P G0 N ops K (⟨dst,op,ty,pos,af,some (j,want)⟩::rest) E H:=RH rfl hj hb hw hd hk
theorem Oa {ops:Array Oper} {K:bJ→aA→Prop} {rest:List Oper} {d:Tmp} {op:Op} {ty:TypeId} {pos:String} {af:Array Edge} {j:Nat} {want b:Bool} {t:Tmp} (h:bN P N ⟨some d,op,ty,pos,af,some (j,want)⟩ E H v H2) (hk:AL P G0 N ops K rest ((d,v)::E) H2) (hj:gG ops.toList j=some t:=by rfl) (hb:E.get t=some (.pv (.bool b)):=by rfl) (hw:b=want:=by assumption) (hn:Nat.blt d N=true:=by rfl):AL P G0 N ops K (⟨some d,op,ty,pos,af,some (j,want)⟩::rest) E H:=RG rfl hj hb hw rfl hn h hk
theorem Fa {ops:Array Oper} {K:bJ→aA→Prop} {rest:List Oper} {dst:Option Tmp} {op:Op} {ty:TypeId} {pos:String} {af:Array Edge} {j:Nat} {want b:Bool} {t:Tmp} (hk:AL P G0 N ops K rest (kI E dst (.tup [])) H) (hj:gG ops.toList j=some t:=by rfl) (hb:E.get t=some (.pv (.bool b)):=by rfl) (hw:b=!want:=by assumption) (hd:iV N dst=true:=by rfl):AL P G0 N ops K (⟨dst,op,ty,pos,af,some (j,want)⟩::rest) E H:=RH rfl hj hb hw hd hk
section
variable {R:Option (List Nat)} {H1:aA}
theorem fh {S off:TypeId} {k k2 f:Nat} (hF:dL P S f off) (h:∀ id,oI R id=true→H1.get id=H.get id) (ho:o.op=.fieldAddr S x f:=by rfl) (hx:aO E x=some (.ref id g i k):=by rfl) (hm:oI R id=true:=by rfl) (hH:H.get id=some ob:=by rfl) (hg:ob.g=g:=by rfl) (hk:k+off=k2:=by rfl):bN P N o E H1 (.ref id g i k2) H1:=fQ ho hF hx ((h _ hm).trans hH) hg hk
theorem lh {k:Nat} {r:List AV} (ha:∀ w,(isAgg T).run P w=.ok false w) (h:∀ id,oI R id=true→H1.get id=H.get id) (ho:o.op=.load T x:=by rfl) (hx:aO E x=some (.ref id g i k):=by rfl) (hm:oI R id=true:=by rfl) (hH:H.get id=some ob:=by rfl) (hg:ob.g=g:=by rfl) (hi:ob.rows[i]?=some r:=by rfl) (hk:r[k]?=some v:=by rfl):bN P N o E H1 v H1:=aW ho ha hx ((h _ hm).trans hH) hg hi hk
end
section
variable {k:IntKind} {n m:Int} {s u:ByteArray} {b:Bool} {rows:List (List PV)} {r:List PV} {i j q f F:Nat}
theorem AJ (ho:o.op=.unOp .not t x:=by rfl) (hx:aO E x=some (.pv (.bool b)):=by rfl):bN P N o E H (.pv (.bool (!b))) H:=SY ho hx
theorem uG (ho:o.op=.binOp .neq t x y t':=by rfl) (hx:aO E x=some (.pv (.int k n)):=by rfl) (hy:aO E y=some (.pv (.int k m)):=by rfl):bN P N o E H (.pv (.bool (!decide (n=m)))) H:=SZ ho hx hy
theorem GI (ho:o.op=.binOp .gtr t x y t':=by rfl) (hx:aO E x=some (.pv (.int k n)):=by rfl) (hy:aO E y=some (.pv (.int k m)):=by rfl):bN P N o E H (.pv (.bool (decide (m < n)))) H:=S0 ho hx hy
theorem XV (ho:o.op=.binOp .leq t x y t':=by rfl) (hx:aO E x=some (.pv (.int k n)):=by rfl) (hy:aO E y=some (.pv (.int k m)):=by rfl):bN P N o E H (.pv (.bool (decide (n≤m)))) H:=jV ho hx hy
theorem R1 (ho:o.op=.binOp .geq t x y t':=by rfl) (hx:aO E x=some (.pv (.int k n)):=by rfl) (hy:aO E y=some (.pv (.int k m)):=by rfl):bN P N o E H (.pv (.bool (decide (m≤n)))) H:=wW ho hx hy
theorem VI (ho:o.op=.binOp .eql t x y t':=by rfl) (hx:aO E x=some (.pv (.str s)):=by rfl) (hy:aO E y=some (.pv (.str u)):=by rfl):bN P N o E H (.pv (.bool (decide (s=u)))) H:=xZ ho hx hy
theorem OG (ho:o.op=.binOp .neq t x y t':=by rfl) (hx:aO E x=some (.pv (.str s)):=by rfl) (hy:aO E y=some (.pv (.str u)):=by rfl):bN P N o E H (.pv (.bool (!decide (s=u)))) H:=O6 ho hx hy
theorem rD (ho:o.op=.binOp .add t x y t':=by rfl) (hx:aO E x=some (.pv (.int .i64 n)):=by rfl) (hy:aO E y=some (.pv (.int .i64 m)):=by rfl) {r:Int} (hr:IntKind.i64.wrap (n+m)=r:=by exact gV (by omega) (by omega)):bN P N o E H (.pv (.int .i64 r)) H:=bZ ho hx hy hr
theorem AK {p:PV} (ha:∀ w,(isAgg T).run P w=.ok false w) (ho:o.op=.load T x:=by rfl) (hx:aO E x=some (.pad rows i q):=by rfl) (hi:rows[i]?=some r:=by first|assumption|omega) (hk:r[q]?=some p:=by rfl):bN P N o E H (.pv p) H:=AE ho ha hx hi hk
theorem UT {c:Operand} (ho:o.op=.pick c x y:=by rfl) (hc:aO E c=some (.pv (.bool b)):=by rfl) (hb:b=true:=by assumption) (hv:aO E x=some v:=by rfl):bN P N o E H v H:=L0 ho hc hb hv
theorem LS {c:Operand} (ho:o.op=.pick c x y:=by rfl) (hc:aO E c=some (.pv (.bool b)):=by rfl) (hb:b=false:=by assumption) (hv:aO E y=some v:=by rfl):bN P N o E H v H:=L1 ho hc hb hv
theorem dU {c:Operand} (ho:o.op=.pick c x y:=by rfl) (hc:aO E c=some (.pv (.bool b)):=by rfl) (hv:aO E (if b then x else y)=some v:=by rfl):bN P N o E H v H:=oY ho hc hv
theorem wN (ht:P.underlying T=some .string) (ho:o.op=.call {callee:=.builtin .len,args:=#[x],argTypes:=#[T]}:=by rfl) (hx:aO E x=some (.pv (.str s)):=by rfl):bN P N o E H (.pv (.int .i64 s.size)) H:=EZ ho ht hx
theorem fH {q:Nat} (ho:o.op=.nilCheck x:=by rfl) (hx:aO E x=some (.ref id g i q):=by rfl) (hH:H.get id=some ob:=by rfl) (hg:ob.g=g:=by rfl):bN P N o E H (.ref id g i q) H:=bO ho hx hH hg
end
section
variable {G0:aA} {fn:Func} {Q:AV→aA→Prop} {q:Exit} {r r1 r2:AV} {t1 t2:Tmp}
theorem Rt (hq:Q r []) (hf:fn.results=#[.tmp t1]:=by rfl) (ht:E.get t1=some r:=by rfl) (hc:Clo [] r:=by simp):GG P fn [] Q .ret E H:=bD (.inr rfl) hf (aI ht) (Fin.wk hc trivial trivial) hq
theorem Ru (hq:Q (.tup [r1,r2]) []) (hf:fn.results=#[.tmp t1,.tmp t2]:=by rfl) (ht:E.get t1=some r1:=by rfl) (hu:E.get t2=some r2:=by rfl) (hc:Clo [] (.tup [r1,r2]):=by simp):GG P fn [] Q .ret E H:=fW (.inr rfl) hf (aI ht) (aI hu) (Fin.wk hc trivial trivial) hq
theorem XU {T:TypeId} {n i k:Nat} {cells cs:List AV} (ha:∀ w,(isAgg T).run P w=.ok true w) (hs:∀ w,(sizeOf T).run P w=.ok n w) (hx:E.get t1=some (.ref id g i k):=by rfl) (hH:H.get id=some ob:=by rfl) (hg:ob.g=g:=by rfl) (hi:ob.rows[i]?=some cells:=by rfl) (hk:(cells.drop k).take n=cs:=by rfl) (hl:cs.length=n:=by rfl):D1 P E H (.cell t1 T) (.agg cs):=jP hx ha hs hH hg hi hk hl
theorem Bd {f:FuncId} {c:Code} {args:List AV} (hf:P.funcs[f]?=some fn) (hb:fn.body=some c) (hN:fn.ntmps=N) (h:gP P H N c (GG P fn H Q) (pI args) H) (hlen:args.length≤N:=by exact ZZ rfl):aJ P f args H Q:=aJ.body hf hb hN hlen h
end
section
variable {Q:Exit→bJ→aA→Prop} {b:Bool} {E':bJ} {H':aA}
theorem Cn {c:Operand} {x y:Code} (h1:b=true→gP P G0 N x Q E H) (h2:b=false→gP P G0 N y Q E H) (hc:aO E c=some (.pv (.bool b)):=by rfl):gP P G0 N (.cond c x y) Q E H:=Q3 hc h1 h2
theorem Sp (t:Tmp) {ops:Array Oper} {l:List Oper} {K:bJ→aA→Prop} (h1:b=true→AL P G0 N ops K l ((t,.pv (.bool true))::E) H) (h2:b=false→AL P G0 N ops K l ((t,.pv (.bool false))::E) H) (hb:E.get t=some (.pv (.bool b)):=by rfl):AL P G0 N ops K l E H:=RE hb h1 h2
theorem Wk (hE:RV E H' E':=by repeat' first|exact trivial|refine⟨⟨_,rfl,rfl⟩,?_,?_⟩|(simp;done)|(simp;rfl)) (hH:GE H H' H':=by repeat' first|exact trivial|refine⟨⟨_,rfl,rfl⟩,?_,?_⟩|(simp;done)|(simp;rfl)) (hk:RT H' H G0:=by repeat' first|exact trivial|refine⟨rfl,?_⟩):cG G0 E H E' H':=cG.wk hE hH hk
theorem E0 (h:RU E E':=by repeat' first|exact trivial|refine⟨⟨_,rfl,rfl⟩,?_⟩):cG G0 E H E' H:=cG.e0 h
theorem Fu {ops:Array Oper} {K:bJ→aA→Prop} {rest:List Oper} {dst:Option Tmp} {op:Op} {ty:TypeId} {pos:String} {af:Array Edge} {j:Nat} {want:Bool} {t:Tmp} (hk:AL P G0 N ops K rest (kI E dst (.tup [])) H) (hj:gG ops.toList j=some t:=by rfl) (hb:E.get t=some (.tup []):=by rfl) (hd:iV N dst=true:=by rfl):AL P G0 N ops K (⟨dst,op,ty,pos,af,some (j,want)⟩::rest) E H:=UJ rfl hj hb hd hk
end
theorem Zl:(∀ {α:Type} (a:α) (l:List α) (i:Nat),(a::l).drop (i+1)=l.drop i)∧(∀ {α:Type} (l:List α),l.drop 0=l)∧(∀ {α:Type} (a:α) (l:List α) (i:Nat),(a::l).take (i+1)=a::l.take i)∧(∀ {α:Type} (l:List α),l.take 0=[])∧(∀ {α:Type} (i:Nat),([]:List α).take i=[]) ∧
  (∀ {α β:Type} (f:α→β) (a:α) (l:List α),(a::l).map f=f a::l.map f)∧(∀ {α β:Type} (f:α→β),[].map f=[])∧(∀ {α:Type} (a b:α) (l:List α),(a::l).set 0 b=b::l)∧(∀ {α:Type} (a b:α) (l:List α) (i:Nat),(a::l).set (i+1) b=a::l.set i b) ∧
  (∀ {α:Type} (a:α) (l l2:List α),(a::l)++l2=a::(l++l2))∧(∀ {α:Type} (l:List α),[]++l=l) :=
 ⟨fun _ _ _=>rfl,fun _=>rfl,fun _ _ _=>rfl,fun l=>by simp,fun _=>by simp,fun _ _ _=>rfl,fun _=>rfl,fun _ _ _=>rfl,fun _ _ _ _=>rfl,fun _ _ _=>rfl,fun _=>rfl⟩
theorem Zo:(∀ b:Bool,(false&&b)=false)∧(∀ b:Bool,(true&&b)=b)∧(∀ b:Bool,(b&&false)=false)∧(∀ b:Bool,(b&&true)=b)∧(∀ b:Bool,(true||b)=true)∧(∀ b:Bool,(false||b)=b)∧(∀ b:Bool,(b||true)=true)∧(∀ b:Bool,(b||false)=b)∧(!true)=false∧(!false)=true:=by simp
end
theorem Ea {E:bJ} {H':aA} {t:Nat} {v:AV} {L:bJ} (r:RV E H' L) (h1:∃ v0,E.get t=some v0∧v0=v:=by exact⟨_,rfl,rfl⟩) (h2:Clo H' v:=by simp;rfl):RV E H' ((t,v)::L):=⟨h1,h2,r⟩
theorem Eb {E:bJ} {H':aA} {t:Nat} {v:AV} {L:bJ} (r:RV E H' L) (h1:∃ v0,E.get t=some v0∧v0=v:=by exact⟨_,rfl,rfl⟩) (h2:Clo H' v:=by simp):RV E H' ((t,v)::L):=⟨h1,h2,r⟩
theorem Ec {E:bJ} {H':aA} {t:Nat} {v:AV} {L:bJ} (h2:Clo H' v) (r:RV E H' L) (h1:∃ v0,E.get t=some v0∧v0=v:=by exact⟨_,rfl,rfl⟩):RV E H' ((t,v)::L):=⟨h1,h2,r⟩
theorem Ha {H H':aA} {t:Nat} {o:Ob} {L:aA} (r:GE H H' L) (h1:∃ v0,H.get t=some v0∧v0=o:=by exact⟨_,rfl,rfl⟩) (h2:∀ r∈o.rows,∀ a∈r,Clo H' a:=by simp;rfl):GE H H' ((t,o)::L):=⟨h1,h2,r⟩
theorem Hb {H H':aA} {t:Nat} {o:Ob} {L:aA} (r:GE H H' L) (h1:∃ v0,H.get t=some v0∧v0=o:=by exact⟨_,rfl,rfl⟩) (h2:∀ r∈o.rows,∀ a∈r,Clo H' a:=by simp):GE H H' ((t,o)::L):=⟨h1,h2,r⟩
theorem Hc {H H':aA} {t:Nat} {o:Ob} {L:aA} (h2:∀ r∈o.rows,∀ a∈r,Clo H' a) (r:GE H H' L) (h1:∃ v0,H.get t=some v0∧v0=o:=by exact⟨_,rfl,rfl⟩):GE H H' ((t,o)::L):=⟨h1,h2,r⟩
end
section
section
variable {I:Nat→Prop} {ι:cB} {H:aA} {w:World} {id sz ty:Nat} {ob:Ob}
theorem Rel.renew (hr:Rel I ι H w) (hH:H.get id=some ob) (hsz:0 < sz) :
  Rel I (fun j=>if j=id then none else ι j) ((id,⟨ob.g+1,sz,ty,[]⟩)::H) w∧Step I ι H w I (fun j=>if j=id then none else ι j) ((id,⟨ob.g+1,sz,ty,[]⟩)::H) w:=by
 have h1:aA.get ((id,⟨ob.g+1,sz,ty,[]⟩)::H) id=some ⟨ob.g+1,sz,ty,[]⟩:=by simp [aA.get,fG]
 have h2:∀ j,j≠id→aA.get ((id,⟨ob.g+1,sz,ty,[]⟩)::H) j=H.get j:=fun j e=>by simp [aA.get,gT (Ne.symm e)]
 have hst:Step I ι H w I (fun j=>if j=id then none else ι j) ((id,⟨ob.g+1,sz,ty,[]⟩)::H) w:=by
  refine⟨rfl,rfl,rfl,ZR _,fun a _ _=>rfl,fun _ h=>h,fun _ h=>.inl h,?_,fun _ _ _=>rfl,?_⟩
  ·rintro x ⟨j,o,c,hj,hc⟩;by_cases e:j=id
   ·simp [e] at hc
   simp only [e,if_false] at hc;exact .inl ⟨j,o,c,(h2 j e).symm.trans hj,hc⟩
  intro j o hj;by_cases e:j=id
  ·subst e;rw [hH] at hj;cases hj;exact⟨_,h1,Nat.le_succ _,fun e=>absurd e (Nat.succ_ne_self _)⟩
  exact⟨o,(h2 j e).trans hj,ZR _,fun _=>⟨by simp [e],rfl,fun _=>ZR _⟩⟩
 refine⟨⟨hr.imm,?_,?_,hst.glob hr⟩,hst⟩
 ·intro j o hj;by_cases e:j=id
  ·subst e;rw [h1] at hj;cases hj;exact .inl ⟨hsz,by simp,.inr ⟨by simp,rfl⟩⟩
  rw [h2 j e] at hj;exact(hr.obj j o hj).keep (by simp [e]) (fun x c _ _=>⟨rfl,fun h=>h⟩) (fun r _ a _ v hv=>hv.mono hr hst)
 intro j j' o o' x c c' hj hj' hc hc';by_cases e:j=id
 ·simp [e] at hc
 by_cases e':j'=id
 ·simp [e'] at hc'
 simp only [e,if_false] at hc;simp only [e',if_false] at hc';exact hr.inj j j' o o' x c c' ((h2 j e).symm.trans hj) ((h2 j' e').symm.trans hj') hc hc'
end
section
variable {P:Program} {N:Nat} {o:Oper} {E:bJ} {H:aA} {T:TypeId} {x y:Operand}
theorem jU {r r':List AV} {id g i k q gq sz ty:Nat} {ob oq:Ob} {rows':List (List AV)} (ho:o.op=.store T x (.const (.slice none 0 0))) (hs:∀ w,(sizeOf T).run P w=.ok 1 w) (hx:aO E x=some (.ref id g i k))
  (hH:H.get id=some ob) (hg:ob.g=g) (hq:H.get q=some oq) (hgq:oq.g+1=gq) (hsz:Nat.blt 0 sz=true) (hne:Nat.beq q id=false) (hi:ob.rows[i]?=some r) (hk:k < r.length) (hr':r.set k (.osl q gq 0 0)=r') (hrows:ob.rows.set i r'=rows') :
  bN P N o E H .any ((id,⟨g,ob.sz,ob.ty,rows'⟩)::(q,⟨gq,sz,ty,[]⟩)::H):=by
 subst hg hrows hgq;intro a w I ι _ _ hr he K Q hkk;have hne':id≠q:=fun e=>by subst e;rw [fG] at hne;cases hne
 obtain ⟨a1,a2⟩:=Rel.renew (sz:=sz) (ty:=ty) hr hq (by simpa [Nat.blt_eq] using hsz);have hH':aA.get ((q,⟨oq.g+1,sz,ty,[]⟩)::H) id=some ob:=by rw [get_cons_other _ _ hne'];exact hH
 refine EF (v:=.osl q (oq.g+1) 0 0) (cells:=[.osl q (oq.g+1) 0 0]) (r':=r') (H2:=aA.set ((q,⟨oq.g+1,sz,ty,[]⟩)::H) id {ob with rows:=ob.rows.set i r'}) ho a1 ((aE he hx).mono hr a2)
  (.osl ⟨oq.g+1,sz,ty,[]⟩ (get_cons_same _ _ _) (ZR _) rfl fun _=>⟨by simpa [Nat.blt_eq] using hsz,by simp,.inr ⟨by simp,rfl,rfl,rfl⟩⟩) rfl hs rfl hH' rfl hi (by omega) ?_ rfl K Q (fun c w' k1 k2=>?_)
 ·rw [← hr',List.set_eq_take_append_cons_drop,ZK hk];rfl
 have he:∀ j,aA.get ((id,⟨ob.g,ob.sz,ob.ty,ob.rows.set i r'⟩)::(q,⟨oq.g+1,sz,ty,[]⟩)::H) j=(aA.set ((q,⟨oq.g+1,sz,ty,[]⟩)::H) id {ob with rows:=ob.rows.set i r'}).get j:=fun j=>iO _ _ _ j;have hsub:Sub ((id,⟨ob.g,ob.sz,ob.ty,ob.rows.set i r'⟩)::(q,⟨oq.g+1,sz,ty,[]⟩)::H) (aA.set ((q,⟨oq.g+1,sz,ty,[]⟩)::H) id {ob with rows:=ob.rows.set i r'}):=fun j o hj=>(he j).symm.trans hj;have hst:=a2.trans k2;refine hkk c w' I (fun j=>if j=q then none else ι j) .any _ ⟨rfl,rfl⟩ (.any _) ?_ ?_
 ·refine⟨k1.imm,fun j o hj=>?_,fun j j' o o' b c c' hj hj'=>k1.inj j j' o o' b c c' ((he j).symm.trans hj) ((he j').symm.trans hj'),k1.glob⟩;exact(k1.obj j o ((he j).symm.trans hj)).keep rfl (fun _ _ _ _=>⟨rfl,fun h=>h⟩) (fun r _ a _ v hv=>hv.mono' (fun _ _=>rfl) (fun _ h=>h) (fun id o ho=>⟨o,(he id).trans ho,ZR _,fun _=>⟨rfl,rfl,fun _=>ZR _⟩⟩))
 refine⟨hst.os,hst.tape,hst.output,hst.size,hst.froz,hst.imm,hst.immNew,fun b ⟨j,o,c,hj,hc⟩=>hst.own b ⟨j,o,c,(he j).symm.trans hj,hc⟩,hst.keep,fun j o hj=>?_⟩;obtain ⟨o',e1,e2⟩:=hst.objs j o hj;exact⟨o',(he j).trans e1,e2⟩
end
def GX (H:aA):aA→Prop
 | []=>True
 | (id,o)::r=>H.get id=some o∧GX H r
theorem GX.sub {H:aA}:∀ {L:aA},GX H L→Sub L H
 | [],_,id,o,h=>by cases h
 | (i,o')::r,h,id,o,ho=>by
  simp only [aA.get] at ho;cases e:Nat.beq i id with
  | true=>rw [e] at ho;cases ho;rw [← Nat.eq_of_beq_eq_true e];exact h.1
  | false=>rw [e] at ho;exact h.2.sub id o ho
theorem eZ (D H:aA) (k:Nat):aA.get (D++H) k=match D.get k with|some v=>some v|none=>H.get k:=xB D H k
theorem aJ.frame {P:Program} {f:FuncId} {args:List AV} {H0 H1 H:aA} {r0:AV} (h:aJ P f args H0 (fun r H'=>r=r0∧H'=H1)) (hs:Sub H0 H) (hc:bG H0) (ha:∀ a∈args,Clo H0 a)
  (hk:∀ id,(H1.get id).isSome=true→(H0.get id).isSome=true∨H.get id=none):aJ P f args H (fun r H'=>r=r0∧H'=H1++H):=by
 intro I ι w vs hr hl hv;refine(h I ι w vs (hr.restrict hs hc) hl (fun i v a h1 h2=>(hv i v a h1 h2).restrict hs (ha a (ZW h2)))).mono ?_;rintro e w' ⟨r,H',I',ι',v,rfl,⟨rfl,rfl⟩,k1,k2,k3⟩;obtain ⟨ι2,hι2⟩:∃ ι2:cB,ι2=(fun j=>if(H'.get j).isSome=true then ι' j else ι j):=⟨_,rfl⟩;have i1:∀ j o,H'.get j=some o→ι2 j=ι' j:=fun j o hj=>by rw [hι2];simp [hj]
 have i2:∀ j,H'.get j=none→ι2 j=ι j:=fun j hj=>by rw [hι2];simp [hj]
 have g1:∀ j o,H'.get j=some o→aA.get (H'++H) j=some o:=fun j o hj=>by rw [eZ,hj]
 have g2:∀ j,H'.get j=none→aA.get (H'++H) j=H.get j:=fun j hj=>by rw [eZ,hj]
 have hfr:∀ j o,H.get j=some o→H'.get j=none→H0.get j=none:=fun j o hj hn=>by
  cases e:H0.get j with
  | none=>rfl
  | some o0 =>
   obtain ⟨o',e1,_⟩:=k3.objs j o0 e;rw [hn] at e1;cases e1
 have hno:∀ j o b c,H.get j=some o→H'.get j=none→ι j=some (b,c)→¬ uM ι H0 b:=fun j o b c hj hn hb ⟨j',o',c',hj',hb'⟩=>by
  have:=hr.inj j j' o o' b c c' hj (hs _ _ hj') hb hb';subst this;rw [hfr j o hj hn] at hj';cases hj'
 have hst:Step I ι H w I' ι2 (H'++H) w':=by
  refine⟨k3.os,k3.tape,k3.output,k3.size,fun a ha hn=>k3.froz a ha (fun h=>hn (h.sub hs)),k3.imm,fun b hb=>?_,?_,?_,?_⟩
  ·rcases k3.immNew b hb with h1|h1|h1
   ·exact .inl h1
   ·exact .inr (.inl (h1.sub hs))
   exact .inr (.inr h1)
  ·rintro b ⟨j,o,c,hj,hc⟩;cases e:H'.get j with
   | some o' =>
    rw [i1 j o' e] at hc;rcases k3.own b ⟨j,o',c,e,hc⟩with h1|h1
    ·exact .inl (h1.sub hs)
    exact .inr h1
   | none =>
    rw [i2 j e] at hc;rw [g2 j e] at hj;exact .inl ⟨j,o,c,hj,hc⟩
  ·intro b hb hn;exact k3.keep b hb (fun h=>hn (h.sub hs))
  intro j o hj;cases e:H'.get j with
  | some o' =>
   rcases hk j (by rw [e];rfl)with h1|h1
   ·obtain ⟨o0,e0⟩:=Option.isSome_iff_exists.1 h1;have:=hs _ _ e0;rw [hj] at this;cases this;obtain ⟨o2,q1,q2,q3⟩:=k3.objs j o e0;exact⟨o2,g1 j o2 q1,q2,fun e=>by rw [i1 j o2 q1];exact q3 e⟩
   rw [hj] at h1;cases h1
  | none=>exact⟨o,(g2 j e).trans hj,ZR _,fun _=>⟨i2 j e,rfl,fun _=>ZR _⟩⟩
 have hv':∀ {v:Value} {a:AV},VRel w' I' ι' H' v a→VRel w' I' ι2 (H'++H) v a:=fun hva =>
  hva.mono' (fun _ _=>rfl) (fun _ h=>h) (fun id o ho=>⟨o,g1 id o ho,ZR _,fun _=>⟨i1 id o ho,rfl,fun _=>ZR _⟩⟩)
 refine⟨r,H'++H,I',ι2,v,rfl,⟨rfl,rfl⟩,hv' k1,⟨k2.imm,fun j o hj=>?_,fun j j' o o' b c c' hj hj' hc hc'=>?_,k2.glob⟩,hst⟩
 ·cases e:H'.get j with
  | some o' =>
   rw [g1 j o' e] at hj;obtain rfl:o'=o:=Option.some.inj hj;exact(k2.obj j o' e).keep (i1 j o' e) (fun _ _ _ _=>⟨rfl,fun h=>h⟩) (fun r _ a _ v hv=>hv' hv)
  | none =>
   rw [g2 j e] at hj;refine(hr.obj j o hj).keep (i2 j e) (fun b' cap' e1 hlt=>⟨k3.keep b' hlt (hno j o b' cap' hj e e1),fun e3 hi=>?_⟩) (fun r _ a _ v hv=>hv.mono hr hst);rcases k3.immNew b' hi with h1|h1|h1
   ·exact e3 h1
   ·exact hno j o b' cap' hj e e1 h1
   omega
 cases e:H'.get j with
 | some q =>
  rw [i1 j q e] at hc;cases e':H'.get j' with
  | some q' =>
   rw [i1 j' q' e'] at hc';exact k2.inj j j' q q' b c c' e e' hc hc'
  | none =>
   rw [i2 j' e'] at hc';rw [g2 j' e'] at hj';have hlt:=hr.lt ⟨j',o',c',hj',hc'⟩;rcases k3.own b ⟨j,q,c,e,hc⟩with h1|h1
   ·exact absurd h1 (hno j' o' b c' hj' e' hc')
   omega
 | none =>
  rw [i2 j e] at hc;rw [g2 j e] at hj;cases e':H'.get j' with
  | some q' =>
   rw [i1 j' q' e'] at hc';have hlt:=hr.lt ⟨j,o,c,hj,hc⟩;rcases k3.own b ⟨j',q',c',e',hc'⟩with h1|h1
   ·exact absurd h1 (hno j o b c hj e hc)
   omega
  | none =>
   rw [i2 j' e'] at hc';rw [g2 j' e'] at hj';exact hr.inj j j' o o' b c c' hj hj' hc hc'
mutual
def gK (ρ:Nat→Nat):AV→AV
 | .any=>.any
 | .pv p=>.pv p
 | .ref id g i k=>.ref (ρ id) g i k
 | .pad rows i k=>.pad rows i k
 | .osl id g off len=>.osl (ρ id) g off len
 | .clo f caps=>.clo f (iA ρ caps)
 | .agg cs=>.agg (iA ρ cs)
 | .tup vs=>.tup (iA ρ vs)
 | .mp id g=>.mp (ρ id) g
 | .it id g=>.it (ρ id) g
 | .yld id g=>.yld (ρ id) g
 | .raw x ts=>.raw x ts
 | .osc id g off len c=>.osc (ρ id) g off len c
def iA (ρ:Nat→Nat):List AV→List AV
 | []=>[]
 | a::l=>gK ρ a::iA ρ l
end
theorem eX (ρ:Nat→Nat) (l:List AV):iA ρ l=l.map (gK ρ):=by
 induction l with
 | nil=>rfl
 | cons a l ih=>simp [iA,ih]
def iP (ρ:Nat→Nat) (o:Ob):Ob:=⟨o.g,o.sz,o.ty,o.rows.map (iA ρ)⟩
def jG (ρ:Nat→Nat) (H:aA):aA:=H.map fun p=>(ρ p.1,iP ρ p.2)
theorem OW {ρ:Nat→Nat} {a:AV} {y:Go.Loop} {ts:List Nat} (h:gK ρ a=.raw y ts):a=.raw y ts:=by cases a<;>first|exact h|(simp only [gK] at h;cases h)
theorem SQ {ρ:Nat→Nat} (o:Ob):∀ y ts r',(iP ρ o).rows=[[.raw y ts],r']→∃ r,o.rows=[[.raw y ts],r]:=by
 intro y ts r' h;obtain ⟨g,sz,ty,rows⟩:=o;simp only [iP] at h ⊢;cases rows with
 | nil=>simp at h
 | cons a rows =>
  cases rows with
  | nil=>simp at h
  | cons b rows =>
   cases rows with
   | cons c rows=>simp at h
   | nil =>
    simp only [List.map_cons,List.map_nil,List.cons.injEq,and_true] at h;obtain ⟨h1,_⟩:=h;cases a with
    | nil=>simp [iA] at h1
    | cons x a =>
     cases a with
     | cons z a=>simp [iA] at h1
     | nil =>
      simp only [iA,List.cons.injEq,and_true] at h1;exact⟨b,by rw [OW h1]⟩
section
variable {ρ:Nat→Nat} (hρ:∀ n,ρ (ρ n)=n)
include hρ
theorem jX (H:aA) (id:Nat):(jG ρ H).get (ρ id)=(H.get id).map (iP ρ):=by
 induction H with
 | nil=>rfl
 | cons p H ih =>
  obtain ⟨i,o⟩:=p;simp only [jG,List.map_cons,aA.get] at ih ⊢;by_cases e:i=id
  ·subst e;simp [fG]
  have:ρ i≠ρ id:=fun h=>e (by rw [← hρ i,h,hρ]);simp [gT e,gT this,ih]
theorem mR (H:aA) (id:Nat):(jG ρ H).get id=(H.get (ρ id)).map (iP ρ):=by
 have:=jX hρ H (ρ id)
 rwa [hρ] at this
theorem VRel.ren {w:World} {I:Nat→Prop} {ι:cB} {H:aA} {v:Value} {a:AV} (h:VRel w I ι H v a):VRel w I (fun j=>ι (ρ j)) (jG ρ H) v (gK ρ a):=by
 induction h with
 | any v=>exact .any v
 | pv h=>exact .pv h
 | ref o hH hg h1 h =>
  refine .ref (iP ρ o) (by rw [jX hρ,hH];rfl) hg h1 (fun e=>?_);obtain ⟨e0,b,cap,e1,e2⟩:=h e;exact⟨e0,b,cap,by rw [hρ];exact e1,e2⟩
 | pad b off cap sz h hsz hlen cs hI hc hp=>exact .pad b off cap sz h hsz hlen cs hI hc hp
 | osl o hH hg h1 h =>
  refine .osl (iP ρ o) (by rw [jX hρ,hH];rfl) hg h1 (fun e=>?_);obtain ⟨e0,e1,e2⟩:=h e;refine⟨e0,by simpa [iP] using e1,?_⟩;rw [hρ];exact e2
 | clo hl h ih =>
  unfold gK;rw [eX];refine .clo (by simpa using hl) (fun i v a hv ha=>?_);rw [Z6] at ha;obtain ⟨a0,h0,rfl⟩:=Option.map_eq_some_iff.1 ha;exact ih i v a0 hv h0
 | agg hl h1 h ih =>
  unfold gK;rw [eX];refine .agg (by simpa using hl) h1 (fun i v a hv ha=>?_);rw [Z6] at ha;obtain ⟨a0,h0,rfl⟩:=Option.map_eq_some_iff.1 ha;exact ih i v a0 hv h0
 | tup hl h ih =>
  unfold gK;rw [eX];refine .tup (by simpa using hl) (fun i v a hv ha=>?_);rw [Z6] at ha;obtain ⟨a0,h0,rfl⟩:=Option.map_eq_some_iff.1 ha;exact ih i v a0 hv h0
 | mp o hH hg h1 h =>
  refine .mp (iP ρ o) (by rw [jX hρ,hH];rfl) hg h1 (fun e=>?_);obtain ⟨e0,b,e1,e2⟩:=h e;exact⟨e0,b,by rw [hρ];exact e1,e2⟩
 | it o hH hg h1 h =>
  refine .it (iP ρ o) (by rw [jX hρ,hH];rfl) hg h1 (fun e=>?_);obtain ⟨e0,b,e1,e2⟩:=h e;exact⟨e0,b,by rw [hρ];exact e1,e2⟩
 | yld o hH hg h1 h =>
  refine .yld (iP ρ o) (by rw [jX hρ,hH];rfl) hg h1 (fun e=>?_);obtain ⟨e0,b,e1,e2⟩:=h e;exact⟨e0,b,by rw [hρ];exact e1,e2⟩
 | osc o hH hg h1 h =>
  refine .osc (iP ρ o) (by rw [jX hρ,hH];rfl) hg h1 (fun e=>?_);obtain ⟨e0,e1,e2⟩:=h e;refine⟨e0,e1,?_⟩;rw [hρ];exact e2
theorem Rel.ren {w:World} {I:Nat→Prop} {ι:cB} {H:aA} (h:Rel I ι H w):Rel I (fun j=>ι (ρ j)) (jG ρ H) w:=by
 refine⟨h.imm,fun id o ho=>?_,fun id id' o o' b c c' ho ho' hi hi'=>?_,h.glob⟩
 ·rw [mR hρ] at ho;obtain ⟨o0,h0,rfl⟩:=Option.map_eq_some_iff.1 ho;refine(h.obj _ o0 h0).keepG rfl rfl (by simp [iP]) (SQ _) rfl (fun _ _ _ _=>⟨rfl,fun h=>h⟩) (fun i r hi=>?_);simp only [iP,Z6] at hi;obtain ⟨r0,hr0,rfl⟩:=Option.map_eq_some_iff.1 hi;refine⟨r0,hr0,by rw [eX,ZL],fun k a a' h1 h2 v hv=>?_⟩;rw [eX,Z6,h1] at h2;cases h2;exact hv.ren hρ
 rw [mR hρ] at ho ho';obtain ⟨o0,h0,rfl⟩:=Option.map_eq_some_iff.1 ho;obtain ⟨o1,h1,rfl⟩:=Option.map_eq_some_iff.1 ho';have:=h.inj _ _ o0 o1 b c c' h0 h1 hi hi';rw [← hρ id,this,hρ]
theorem Step.ren {w w':World} {I I':Nat→Prop} {ι ι':cB} {H H':aA} (h:Step I ι H w I' ι' H' w'):Step I (fun j=>ι (ρ j)) (jG ρ H) w I' (fun j=>ι' (ρ j)) (jG ρ H') w':=by
 have own:∀ {ι:cB} {H:aA} {b:Nat},uM (fun j=>ι (ρ j)) (jG ρ H) b↔uM ι H b:=by
  intro ι H b;constructor
  ·rintro⟨id,o,c,ho,hi⟩;rw [mR hρ] at ho;obtain ⟨o0,h0,rfl⟩:=Option.map_eq_some_iff.1 ho;exact⟨_,o0,c,h0,hi⟩
  rintro⟨id,o,c,ho,hi⟩;exact⟨ρ id,iP ρ o,c,by rw [jX hρ,ho];rfl,by show ι (ρ (ρ id))=_;rw [hρ];exact hi⟩
 refine⟨h.os,h.tape,h.output,h.size,fun a ha hn=>h.froz a ha (fun ho=>hn (own.2 ho)),h.imm,fun b hb=>?_,fun b hb=>?_,fun b hb hn=>h.keep b hb (fun ho=>hn (own.2 ho)),fun id o ho=>?_⟩
 ·rcases h.immNew b hb with h1|h1|h1
  ·exact .inl h1
  ·exact .inr (.inl (own.2 h1))
  exact .inr (.inr h1)
 ·rcases h.own b (own.1 hb)with h1|h1
  ·exact .inl (own.2 h1)
  exact .inr h1
 rw [mR hρ] at ho;obtain ⟨o0,h0,rfl⟩:=Option.map_eq_some_iff.1 ho;obtain ⟨o',e1,e2,e3⟩:=h.objs _ o0 h0;exact⟨iP ρ o',by rw [mR hρ,e1];rfl,e2,fun e=>by
  obtain ⟨q1,q2,q3⟩:=e3 e;exact⟨q1,q2,by simpa [iP] using q3⟩⟩
theorem uR (l:List AV):iA ρ (iA ρ l)=l∧∀ a∈l,gK ρ (gK ρ a)=a:=by
 have key:∀ n:Nat,∀ a:AV,SizeOf.sizeOf a≤n→gK ρ (gK ρ a)=a:=by
  intro n
  induction n with
  | zero=>intro a ha;cases a<;>simp at ha<;>omega
  | succ n ih =>
   have hl:∀ l:List AV,SizeOf.sizeOf l≤n+1→iA ρ (iA ρ l)=l:=by
    intro l hl;rw [eX,eX,List.map_map];have:∀ a∈l,(gK ρ∘gK ρ) a=a:=fun a ha=>ih a (by have:=List.sizeOf_lt_of_mem ha;omega);rw [List.map_congr_left this,List.map_id']
   intro a ha;cases a with
   | any=>rfl
   | pv p=>rfl
   | ref id g i k=>simp only [gK,hρ]
   | pad rows i k=>rfl
   | osl id g off len=>simp only [gK,hρ]
   | clo f caps=>simp only [gK];rw [hl caps (by simp at ha;omega)]
   | agg cs=>simp only [gK];rw [hl cs (by simp at ha;omega)]
   | tup cs=>simp only [gK];rw [hl cs (by simp at ha;omega)]
   | mp id g=>simp only [gK,hρ]
   | it id g=>simp only [gK,hρ]
   | yld id g=>simp only [gK,hρ]
   | raw x ts=>rfl
   | osc id g off len c=>simp only [gK,hρ]
 have h2:∀ a∈l,gK ρ (gK ρ a)=a:=fun a _=>key _ a (ZR _);refine⟨?_,h2⟩;rw [eX,eX,List.map_map];have:∀ a∈l,(gK ρ∘gK ρ) a=a:=h2;rw [List.map_congr_left this,List.map_id']
theorem pZ (H:aA):jG ρ (jG ρ H)=H:=by
 simp only [jG,List.map_map];have:∀ p∈H,((fun p:Nat×Ob=>(ρ p.1,iP ρ p.2))∘fun p=>(ρ p.1,iP ρ p.2)) p=p:=by
  rintro⟨i,o⟩ _;simp only [Function.comp,hρ,iP,List.map_map];have:∀ r∈o.rows,(iA ρ∘iA ρ) r=r:=fun r _=>(uR hρ r).1;rw [List.map_congr_left this,List.map_id']
 rw [List.map_congr_left this,List.map_id']
theorem aJ.ren {P:Program} {f:FuncId} {args args':List AV} {H H' H1 H1':aA} {r r':AV} (h:aJ P f args H (fun x K=>x=r∧K=H1)) (ha:iA ρ args=args') (hH:jG ρ H=H') (hr:gK ρ r=r') (hH1:jG ρ H1=H1') :
  aJ P f args' H' (fun x K=>x=r'∧K=H1'):=by
 subst ha hH hr hH1;intro I ι w vs hrel hl hv;have hrel':=hrel.ren hρ;rw [pZ hρ] at hrel';have hl':vs.size=args.length:=by rw [hl,eX,ZL]
 refine(h I _ w vs hrel' hl' (fun i v a h1 h2=>?_)).mono ?_
 ·have:=(hv i v (gK ρ a) h1 (by rw [eX,Z6,h2];rfl)).ren hρ
  rwa [pZ hρ,(uR hρ [a]).2 a (by simp)] at this
 rintro e w' ⟨x,K,I',ι',v,rfl,⟨rfl,rfl⟩,k1,k2,k3⟩;have k3':=k3.ren hρ;have e1:(fun j=>(fun j=>ι (ρ j)) (ρ j))=ι:=by funext j;simp only [hρ]
 rw [e1] at k3';exact⟨_,_,I',_,v,rfl,⟨rfl,rfl⟩,k1.ren hρ,k2.ren hρ,k3'⟩
end
end
section
structure KeyKind (α:Type) where
 d:TypeDesc
 pv:α→PV
 val:α→Value
 rel:∀ (w:World) (I:Nat→Prop) (v:Value) (a:α),PRep w I v (pv a)→v=val a
 inj:∀ a b,val a=val b→a=b
 is:∀ a,MapKept.IsKey d (val a)
 rep:∀ (w:World) (I:Nat→Prop) (a:α),PRep w I (val a) (pv a)
def fX:KeyKind ByteArray:=⟨.string,.str,.string,fun _ _ _ _ h=>by cases h;rfl,fun _ _ h=>by cases h;rfl,fun _=>trivial,fun _ _ _=>.str _⟩
def mV {α:Type} (κ:KeyKind α) (l:List (α×AV)):List (List AV):=l.mapIdx fun i p=>[.pv (κ.pv p.1),p.2,.pv (.int .i64 i)]
theorem BC {α:Type} {κ:KeyKind α} {l:List (α×AV)} {i:Nat} {r:List AV}:(mV κ l)[i]?=some r↔∃ p,l[i]?=some p∧r=[.pv (κ.pv p.1),p.2,.pv (.int .i64 i)]:=by
 rw [mV,List.getElem?_mapIdx];cases l[i]? with
 | none=>simp
 | some p=>simp [eq_comm]
theorem sY {α:Type} (κ:KeyKind α) (l:List (α×AV)):(mV κ l).length=l.length:=by simp [mV]
theorem sP {α:Type} {κ:KeyKind α} {H:aA} {w:World} {I:Nat→Prop} {ι:cB} {v:Value} {k:α} (h:VRel w I ι H v (.pv (κ.pv k))):v=κ.val k:=κ.rel _ _ _ _ h.pv_inv
section
variable {α:Type}
structure MapAt (w:World) (I:Nat→Prop) (ι:cB) (H:aA) (κ:KeyKind α) (l:List (α×AV)) (es:Array MapEntry):Prop where
 size:es.size=l.length
 rel:∀ (i:Nat) (p:α×AV),l[i]?=some p→∃ e,es[i]?=some e∧e.born=i∧e.key=κ.val p.1∧VRel w I ι H e.val p.2
theorem VT {w:World} {I:Nat→Prop} {ι:cB} {H:aA} {id b:Nat} {ob:Ob} {κ:KeyKind α} {l:List (α×AV)} (h:eB w I ι H id ob) (hz:ob.sz=0) (hι:ι id=some (b,0)) (hrows:ob.rows=mV κ l) :
  ∃ es,w.heap[b]?=some (.map es ob.ty)∧¬ I b∧MapAt w I ι H κ l es:=by
 obtain ⟨_,b',es,e1,e2,e3,e4,e5,e6,e7⟩:=h.map hz hι;rw [hι] at e1;cases e1;refine⟨es,e2,e3,⟨by rw [e4,hrows,sY],fun i p hp=>?_⟩⟩;obtain ⟨e,k,a,n,q1,q2,q3,q4,q5⟩:=e7 i _ (by rw [hrows];exact BC.2 ⟨p,hp,rfl⟩);cases q2;exact⟨e,q1,by injection q5.int_inv with _ hh;omega,κ.rel _ _ _ _ q3.pv_inv,q4⟩
theorem MapAt.born {w:World} {I:Nat→Prop} {ι:cB} {H:aA} {κ:KeyKind α} {l:List (α×AV)} {es:Array MapEntry} (h:MapAt w I ι H κ l es) {i:Nat} {e:MapEntry} (hi:es[i]?=some e):e.born=i∧i < l.length:=by
 have hlt:i < l.length:=by rw [← h.size];exact(Array.getElem?_eq_some_iff.1 hi).1
 obtain ⟨e',q1,q2,_⟩:=h.rel i l[i] (ZQ hlt);rw [hi] at q1;cases q1;exact⟨q2,hlt⟩
section
variable {I:Nat→Prop} {ι:cB} {H H':aA} {w:World} {id b cap:Nat} {ob ob':Ob}
def World.setObj (w:World) (b:Nat) (x:Obj):World:={w with heap:=w.heap.setIfInBounds b x}
def DA:Obj→Bool
 | .cells ..=>true
 | _=>false
theorem Rel.rewrite {x0 x:Obj} (hr:Rel I ι H w) (hH:H.get id=some ob) (hι:ι id=some (b,cap)) (hz:ob.sz=0) (hb:w.heap[b]?=some x0) (h0:DA x0=false) (hx:DA x=false) (hg:ob'.g=ob.g) (hz':ob'.sz=0)
  (hnew:w.heap.size=(World.setObj w b x).heap.size→(World.setObj w b x).heap[b]?=some x→¬ I b→(∀ v a,VRel w I ι H v a→VRel (World.setObj w b x) I ι H' v a)→eB (World.setObj w b x) I ι H' id ob')
  (h1:H'.get id=some ob') (h2:∀ j,j≠id→H'.get j=H.get j):Rel I ι H' (World.setObj w b x)∧Step I ι H w I ι H' (World.setObj w b x):=by
 have hown:uM ι H b:=⟨id,ob,cap,hH,hι⟩;obtain ⟨hs1,hs2⟩:=MapKept.heap_set (w:=w) (o':=x) hb;have hst:Step I ι H w I ι H' (World.setObj w b x):=by
  refine⟨rfl,rfl,rfl,by simp [World.setObj],fun a _ _=>?_,fun _ h=>h,fun _ h=>.inl h,?_,?_,?_⟩
  ·by_cases e:a.block=b
   ·simp only [World.frozen?,World.setObj,e,hs1,hb];cases x<;>cases x0<;>first|rfl|(simp [DA] at hx h0)
   simp [World.frozen?,World.setObj,hs2 _ e]
  ·rintro y ⟨j,o,c,hj,hc⟩;by_cases e:j=id
   ·subst e;exact .inl ⟨j,ob,c,hH,hc⟩
   exact .inl ⟨j,o,c,(h2 j e).symm.trans hj,hc⟩
  ·intro y _ hy;exact hs2 y (fun e=>hy (e▸hown))
  intro j o hj;by_cases e:j=id
  ·subst e;rw [hH] at hj;cases hj;exact⟨ob',h1,by omega,fun _=>⟨rfl,by omega,fun h=>by omega⟩⟩
  exact⟨o,(h2 j e).trans hj,ZR _,fun _=>⟨rfl,rfl,fun _=>ZR _⟩⟩
 refine⟨⟨fun y hy=>by simpa [World.setObj] using hr.imm y hy,?_,?_,hst.glob hr⟩,hst⟩
 ·intro j o hj;by_cases e:j=id
  ·subst e;rw [h1] at hj;cases hj;exact hnew (by simp [World.setObj]) hs1 ((hr.obj j ob hH).block hι).2 (fun v a hv=>hv.mono hr hst)
  rw [h2 j e] at hj;exact(hr.obj j o hj).keep rfl (fun y c hy _=>⟨hs2 y (fun hbb=>e (hr.inj j id o ob b c cap hj hH (hbb▸hy) hι)),fun h=>h⟩) (fun r _ a _ v hv=>hv.mono hr hst)
 intro j j' o o' y c c' hj hj' hc hc';have key:∀ j o,H'.get j=some o→∃ o,H.get j=some o:=by
  intro j o hj;by_cases e:j=id
  ·exact⟨ob,e▸hH⟩
  exact⟨o,(h2 j e).symm.trans hj⟩
 obtain ⟨q,hq⟩:=key j o hj;obtain ⟨q',hq'⟩:=key j' o' hj';exact hr.inj j j' q q' y c c' hq hq' hc hc'
theorem Rel.remap {κ:KeyKind α} {l:List (α×AV)} {es0 es':Array MapEntry} {c0:Nat} (hr:Rel I ι H w) (hH:H.get id=some ob) (hι:ι id=some (b,0)) (hz:ob.sz=0) (hb:w.heap[b]?=some (.map es0 c0)) (hg:ob'.g=ob.g) (hz':ob'.sz=0) (hty:ob'.ty=l.length) (hrows:ob'.rows=mV κ l)
  (hm:MapAt w I ι H κ l es') (h1:H'.get id=some ob') (h2:∀ j,j≠id→H'.get j=H.get j):Rel I ι H' (World.setObj w b (.map es' l.length))∧Step I ι H w I ι H' (World.setObj w b (.map es' l.length)):=by
 refine hr.rewrite hH hι hz hb rfl rfl hg hz' (fun _ hs1 hI hmono=>?_) h1 h2;refine .inr (.inl ⟨hz',b,es',hι,by rw [hty];exact hs1,hI,by rw [hm.size,hrows,sY],fun i e hi=>?_,fun i j e e' hij hi hj=>?_,fun i r hr'=>?_⟩)
 ·obtain ⟨q1,q2⟩:=hm.born hi;rw [q1,hty];exact q2
 ·have q1:=(hm.born hi).1;have q2:=(hm.born hj).1;omega
 rw [hrows] at hr';obtain ⟨p,hp,rfl⟩:=BC.1 hr';obtain ⟨e,q1,q2,q3,q4⟩:=hm.rel i p hp;exact⟨e,_,_,_,q1,rfl,by rw [q3];exact .pv (κ.rep _ _ p.1),hmono _ _ q4,by rw [q2];exact .pv (.int _ _)⟩
end
theorem pC {w:World} {I:Nat→Prop} {ι:cB} {H:aA} {v:Value} {id g:Nat} {ob:Ob} (h:VRel w I ι H v (.mp id g)) (hH:H.get id=some ob) (hg:ob.g=g):ob.sz=0∧∃ b,ι id=some (b,0)∧v=.map (some b):=by
 cases h with
 | mp o' h1 h2 _ h3 =>
  rw [hH] at h1;cases h1;exact h3 hg
variable [DecidableEq α]
def lI:List (α×AV)→α→Option AV
 | [],_=>none
 | (k',a)::r,k=>if k'=k then some a else lI r k
def qP:List (α×AV)→α→AV→List (α×AV)
 | [],k,v=>[(k,v)]
 | (k',a)::r,k,v=>if k'=k then(k,v)::r else(k',a)::qP r k v
def S7:List (α×AV)→α→List (α×AV)
 | [],_=>[]
 | (k',a)::r,k=>if k'=k then r else(k',a)::S7 r k
theorem J7 {w:World} {I:Nat→Prop} {ι:cB} {H:aA} (κ:KeyKind α) (k:α):∀ (l:List (α×AV)) (es:List MapEntry) (i:Nat),es.length=l.length→(∀ (i:Nat) (p:α×AV),l[i]?=some p→∃ e,es[i]?=some e∧e.key=κ.val p.1∧VRel w I ι H e.val p.2) →
  (Instr.findNow κ.d (κ.val k) es i=some none∧lI l k=none∧∀ v,qP l k v=l++[(k,v)]) ∨
  ∃ j e a,Instr.findNow κ.d (κ.val k) es i=some (some (i+j,e.val))∧es[j]?=some e∧e.key=κ.val k∧lI l k=some a∧VRel w I ι H e.val a∧l[j]?=some (k,a)∧(∀ v,qP l k v=l.set j (k,v))∧S7 l k=l.eraseIdx j
 | [],[],i,_,_=>.inl ⟨rfl,rfl,fun _=>rfl⟩
 | (k',a)::l,e::es,i,hl,hr=>by
  obtain ⟨e0,z1,z2,z3⟩:=hr 0 (k',a) rfl;cases z1;obtain ⟨r,hr1,hiff⟩:=MapKept.sameNow_of_keys (κ.is k) (show MapKept.IsKey κ.d e.key by rw [z2];exact κ.is k');by_cases hk:k'=k
  ·subst hk;have hrt:r=true:=hiff.2 z2.symm;subst hrt;exact .inr ⟨0,e,a,by simp [Instr.findNow,hr1],rfl,z2,by simp [lI],z3,rfl,fun v=>by simp [qP],by simp [S7]⟩
  have hrf:r=false:=by
   cases r with
   | false=>rfl
   | true=>exact absurd (κ.inj _ _ ((hiff.1 rfl).trans z2)).symm hk
  subst hrf;rcases J7 κ k l es (i+1) (by simpa using hl) (fun i p hp=>hr (i+1) p hp)with⟨h1,h2,h3⟩|⟨j,e',a',h1,h2,h3,h4,h5,h6,h7,h8⟩
  ·exact .inl ⟨by simp [Instr.findNow,hr1,h1],by simp [lI,hk,h2],fun v=>by simp [qP,hk,h3]⟩
  exact .inr ⟨j+1,e',a',by simp [Instr.findNow,hr1,h1];omega,by simpa using h2,h3,by simp [lI,hk,h4],h5,by simpa using h6,fun v=>by simp [qP,hk,h7],by simp [S7,hk,h8]⟩
section
variable {P:Program} {N:Nat} {o:Oper} {E:bJ} {H:aA} {T kt et:TypeId} {x y z:Operand} {κ:KeyKind α} {l:List (α×AV)} {id g:Nat} {ob:Ob} {k:α}
theorem AC {v:AV} {H2:aA} (ho:o.op=.mapUpdate T x y z∨o.op=.insert T x y z) (hT:P.underlying T=some (.map kt et)) (hd:P.underlying kt=some κ.d) (hx:aO E x=some (.mp id g)) (hH:H.get id=some ob) (hg:ob.g=g)
  (hty:ob.ty=l.length) (hrows:ob.rows=mV κ l) (hy:aO E y=some (.pv (κ.pv k))) (hz:aO E z=some v) (hH2:H.set id {ob with ty:=(qP l k v).length,rows:=mV κ (qP l k v)}=H2):bN P N o E H .any H2:=by
 intro a w I ι _ _ hr he K Q hkk;obtain ⟨hsz,b,hι,hvx⟩:=pC (aE he hx) hH hg;obtain ⟨es,e2,e3,e4⟩:=VT (hr.obj id ob hH) hsz hι hrows;rw [hty] at e2;have hvy:=sP (aE he hy);have hvz:=aE he hz;subst hH2;have fin:∀ es',(Instr.mapUpdate T (a.eval x) (a.eval y) (a.eval z)).run P w=.ok () (World.setObj w b (.map es' (qP l k v).length))→MapAt w I ι H κ (qP l k v) es'→o.wpW P a w K Q:=by
  intro es' hrun hm;obtain ⟨k2,k3⟩:=Rel.remap (H':=H.set id {ob with ty:=(qP l k v).length,rows:=mV κ (qP l k v)}) (ob':={ob with ty:=(qP l k v).length,rows:=mV κ (qP l k v)}) hr hH hι hsz e2 rfl hsz rfl rfl hm (aA.get_set_same _ _ _) (fun j hj=>aA.get_set_other _ _ hj);unfold Oper.wpW execOp;rcases ho with ho|ho
  ·simp only [ho,Sem.run_bind,hrun,Result.andThen_ok,Sem.run_pure];exact hkk _ _ I ι _ _ ⟨rfl,rfl⟩ (.any _) k2 k3
  simp only [ho,Sem.run_bind,hrun,Result.andThen_ok,Sem.run_pure];exact hkk _ _ I ι _ _ ⟨rfl,rfl⟩ (.any _) k2 k3
 rcases J7 κ k l es.toList 0 (by simpa using e4.size) (fun i p hp=>let ⟨e,q1,_,q3⟩:=e4.rel i p hp;⟨e,by simpa using q1,q3⟩)with⟨h1,h2,h3⟩|⟨j,e,a',h1,h2,h3,h4,h5,h6,h7,h8⟩
 ·refine fin (es.push {key:=κ.val k,val:=a.eval z,born:=l.length}) ?_ ⟨?_,?_⟩
  ·simp [Instr.mapUpdate,hvx,hvy,run_underlying hT,MapKept.run_getObj_map e2,MapKept.run_checkKey hd (κ.is k),MapKept.run_findKey hd h1,MapKept.run_setObj_map _ e2,World.setObj,h3]
  ·rw [h3];simp [e4.size]
  intro i p hp;rw [h3] at hp;by_cases hi:i < l.length
  ·rw [List.getElem?_append_left hi] at hp;obtain ⟨e,q1,q2⟩:=e4.rel i p hp;exact⟨e,by rw [Array.getElem?_push,ZJ (by rw [e4.size];omega)];exact q1,q2⟩
  rw [List.getElem?_append_right (by omega)] at hp;cases hil:i - l.length with
  | zero =>
   rw [hil] at hp;cases hp;exact⟨_,by rw [Array.getElem?_push,ZK (by rw [e4.size];omega)],by show l.length=i;omega,rfl,hvz⟩
  | succ m=>rw [hil] at hp;simp at hp
 have hj:es[j]?=some e:=by simpa using h2
 have hjl:j < es.size:=(Array.getElem?_eq_some_iff.1 hj).1;have hln:(qP l k v).length=l.length:=by rw [h7];simp
 refine fin (es.modify j fun e=>{e with key:=κ.val k,val:=a.eval z}) ?_ ⟨?_,?_⟩
 ·simp [Instr.mapUpdate,hvx,hvy,run_underlying hT,MapKept.run_getObj_map e2,MapKept.run_checkKey hd (κ.is k),MapKept.run_findKey hd h1,hj,h3,MapKept.run_keyThatStays (κ.is k),MapKept.run_setObj_map _ e2,World.setObj,hln]
 ·rw [h7];simp [e4.size]
 intro i p hp;rw [h7] at hp;by_cases e:i=j
 ·subst e;rw [List.getElem?_set_self (by rw [← e4.size];exact hjl)] at hp;cases hp;exact⟨{e with key:=κ.val k,val:=a.eval z},by rw [Array.getElem?_modify,ZK rfl,hj];rfl,(e4.born hj).1,rfl,hvz⟩
 rw [List.getElem?_set_ne (Ne.symm e)] at hp;obtain ⟨e',q1,q2⟩:=e4.rel i p hp;exact⟨e',by rw [Array.getElem?_modify,ZJ (Ne.symm e)];exact q1,q2⟩
theorem Rel.placeX {I:Nat→Prop} {ι:cB} {H H':aA} {w w':World} {id cap:Nat} {ob':Ob} {x:Obj} (hr:Rel I ι H w) (hos:w'.os=w.os) (htape:w'.tape=w.tape) (hout:w'.output=w.output) (hw:w'.heap=w.heap.push x)
  (hold:∀ o,H.get id=some o→o.g < ob'.g)
  (hobj:w'.heap[w.heap.size]?=some x→¬ I w.heap.size→(∀ v a,VRel w I ι H v a→VRel w' I (fun j=>if j=id then some (w.heap.size,cap)else ι j) H' v a)→eB w' I (fun j=>if j=id then some (w.heap.size,cap)else ι j) H' id ob')
  (h1:H'.get id=some ob') (h2:∀ j,j≠id→H'.get j=H.get j) :
  Rel I (fun j=>if j=id then some (w.heap.size,cap)else ι j) H' w'∧Step I ι H w I (fun j=>if j=id then some (w.heap.size,cap)else ι j) H' w':=by
 have hnew:w'.heap[w.heap.size]?=some x:=by rw [hw];simp
 have holdb:∀ x,x < w.heap.size→w'.heap[x]?=w.heap[x]?:=fun x hx=>by rw [hw,Array.getElem?_push,ZJ (Nat.ne_of_lt hx)]
 have hsize:w'.heap.size=w.heap.size+1:=by rw [hw];simp
 have hst:Step I ι H w I (fun j=>if j=id then some (w.heap.size,cap)else ι j) H' w':=by
  refine⟨hos,htape,hout,by omega,fun a ha _=>?_,fun _ h=>h,fun _ h=>.inl h,?_,fun x hx _=>holdb x hx,?_⟩
  ·simp [World.frozen?,holdb a.block ha]
  ·rintro x ⟨j,o,c,hj,hc⟩;by_cases e:j=id
   ·simp only [e,if_true] at hc;cases hc;exact .inr (ZR _)
   simp only [e,if_false] at hc;exact .inl ⟨j,o,c,(h2 j e).symm.trans hj,hc⟩
  intro j o hj;by_cases e:j=id
  ·subst e;have:=hold o hj;exact⟨ob',h1,by omega,fun e=>by omega⟩
  exact⟨o,(h2 j e).trans hj,ZR _,fun _=>⟨by simp [e],rfl,fun _=>ZR _⟩⟩
 refine⟨⟨fun x hx=>by have:=hr.imm x hx;omega,?_,?_,hst.glob hr⟩,hst⟩
 ·intro j o hj;by_cases e:j=id
  ·subst e;rw [h1] at hj;cases hj;exact hobj hnew (fun hi=>Nat.lt_irrefl _ (hr.imm _ hi)) (fun v a hv=>hv.mono hr hst)
  rw [h2 j e] at hj;exact(hr.obj j o hj).keep (by simp [e]) (fun x c _ hx=>⟨holdb x hx,fun h=>h⟩) (fun r _ a _ v hv=>hv.mono hr hst)
 intro j j' o o' x c c' hj hj' hc hc';by_cases e:j=id<;>by_cases e':j'=id
 ·rw [e,e']
 ·simp only [e,if_true] at hc;simp only [e',if_false] at hc';cases hc;have:=hr.lt ⟨j',o',c',(h2 j' e').symm.trans hj',hc'⟩;exact absurd this (Nat.lt_irrefl _)
 ·simp only [e,if_false] at hc;simp only [e',if_true] at hc';cases hc';have:=hr.lt ⟨j,o,c,(h2 j e).symm.trans hj,hc⟩;exact absurd this (Nat.lt_irrefl _)
 simp only [e,if_false] at hc;simp only [e',if_false] at hc';exact hr.inj j j' o o' x c c' ((h2 j e).symm.trans hj) ((h2 j' e').symm.trans hj') hc hc'
theorem Rel.placeM {I:Nat→Prop} {ι:cB} {H H':aA} {w w':World} {id:Nat} {ob':Ob} (hr:Rel I ι H w) (hos:w'.os=w.os) (htape:w'.tape=w.tape) (hout:w'.output=w.output) (hw:w'.heap=w.heap.push (.map #[] 0))
  (hold:∀ o,H.get id=some o→o.g < ob'.g) (hsz:ob'.sz=0) (hty:ob'.ty=0) (hrows:ob'.rows=[]) (h1:H'.get id=some ob') (h2:∀ j,j≠id→H'.get j=H.get j) :
  Rel I (fun j=>if j=id then some (w.heap.size,0)else ι j) H' w'∧Step I ι H w I (fun j=>if j=id then some (w.heap.size,0)else ι j) H' w' :=
 hr.placeX hos htape hout hw hold (fun hnew hI _=>.inr (.inl ⟨hsz,w.heap.size,#[],by simp,by rw [hty];exact hnew,hI,by rw [hrows];rfl,by simp,by simp,by rw [hrows];simp⟩)) h1 h2
theorem TE {I:Nat→Prop} {ι:cB} {w:World} {id gg:Nat} (hr:Rel I ι H w) (hid:∀ o,H.get id=some o→o.g < gg) :
  ∃ ι',VRel (w.alloc (.map #[] 0)) I ι' ((id,⟨gg,0,0,[]⟩)::H) (.map (some w.heap.size)) (.mp id gg)∧Rel I ι' ((id,⟨gg,0,0,[]⟩)::H) (w.alloc (.map #[] 0))∧Step I ι H w I ι' ((id,⟨gg,0,0,[]⟩)::H) (w.alloc (.map #[] 0)):=by
 obtain ⟨h1,h2⟩:=Rel.placeM (H':=(id,⟨gg,0,0,[]⟩)::H) (id:=id) (ob':=⟨gg,0,0,[]⟩) (w':=w.alloc (.map #[] 0)) hr rfl rfl rfl rfl hid rfl rfl rfl (get_cons_same _ _ _) (fun j hj=>get_cons_other _ _ hj);exact⟨_,.mp ⟨gg,0,0,[]⟩ (get_cons_same _ _ _) (ZR _) rfl fun _=>⟨rfl,w.heap.size,by simp,rfl⟩,h1,h2⟩
theorem lW {α:Type} (κ:KeyKind α) (ho:o.op=.makeMap T none) (hid:H.get id=none):bN P N o E H (.mp id 0) ((id,⟨0,0,([]:List (α×AV)).length,mV κ []⟩)::H):=by intro a w I ι _ _ hr he K Q hk;obtain ⟨ι',h1,h2,h3⟩:=TE (id:=id) (gg:=0) hr (fun o ho=>by rw [hid] at ho;cases ho);unfold Oper.wpW execOp;simp only [ho,Instr.makeMap,Option.map_none,Sem.run_bind,run_newObj,Sem.run_pure,Result.andThen_ok];exact hk _ _ I ι' _ _ ⟨rfl,rfl⟩ h1 h2 h3
theorem D4 {v:AV} {l':List (α×AV)} (ho:o.op=.mapUpdate T x y z∨o.op=.insert T x y z) (hT:P.underlying T=some (.map kt et)) (hd:P.underlying kt=some κ.d) (hx:aO E x=some (.mp id g)) (hH:H.get id=some ob) (hg:ob.g=g)
  (hty:ob.ty=l.length) (hrows:ob.rows=mV κ l) (hy:aO E y=some (.pv (κ.pv k))) (hz:aO E z=some v) (hr:qP l k v=l'):bN P N o E H .any ((id,⟨g,ob.sz,l'.length,mV κ l'⟩)::H):=by
 subst hg hr;exact(AC ho hT hd hx hH rfl hty hrows hy hz rfl).congr (iO _ _ _)
end
end
end
section
def eG (m:AV) (since last:Nat) (seen:List Nat):List (List AV):=[m,.pv (.int .i64 since),.pv (.int .i64 last)]::seen.map fun(n:Nat)=>[.pv (.int .i64 n)]
theorem H4 {w:World} {I:Nat→Prop} {ι:cB} {H:aA} {v:Value} {id g:Nat} {ob:Ob} (h:VRel w I ι H v (.it id g)) (hH:H.get id=some ob) (hg:ob.g=g):ob.sz=0∧∃ b,ι id=some (b,1)∧v=.pointer (some ⟨b,0,none⟩):=by
 cases h with
 | it o' h1 h2 _ h3 =>
  rw [hH] at h1;cases h1;exact h3 hg
theorem J3 {w:World} {I:Nat→Prop} {ι:cB} {H:aA} {q b mid mg since last:Nat} {oq om:Ob} {seen:List Nat} (h:eB w I ι H q oq) (hz:oq.sz=0) (hι:ι q=some (b,1)) (hrows:oq.rows=eG (.mp mid mg) since last seen) (hM:H.get mid=some om) (hmg:om.g=mg) :
  ∃ bm,ι mid=some (bm,0)∧om.sz=0∧w.heap[b]?=some (.mapIter (some bm) since seen.toArray last)∧¬ I b:=by
 obtain ⟨_,b',bm,since',seen',last',e1,e2,e3,e4,⟨m,n,k,z1,z2,z3,z4⟩,e6⟩:=h.iter hz hι;rw [hι] at e1;cases e1;rw [hrows] at z1;simp only [eG,List.getElem?_cons_zero,Option.some.injEq,List.cons.injEq,and_true] at z1;obtain ⟨rfl,rfl,rfl⟩:=z1;obtain ⟨q1,bm',q2,q3⟩:=pC z2 hM hmg;cases q3;injection z3.int_inv with _ h1;injection z4.int_inv with _ h2;have h1':since'=since:=by omega
 have h2':last'=last:=by omega
 subst h1' h2';refine⟨bm',q2,q1,?_,e3⟩;have hs:seen'=seen.toArray:=by
  have hl:seen'.size=seen.length:=by rw [hrows] at e4;simpa [eG] using e4.symm
  apply Array.ext
  ·simpa using hl
  intro i hi1 hi2;obtain ⟨x,n,y1,y2,y3⟩:=e6 i [.pv (.int .i64 (seen[i]'(by simpa using hi2)))] (by rw [hrows];show (seen.map _)[i]?=_;rw [Z6,ZQ (by simpa using hi2)];rfl);cases y2;injection y3.int_inv with _ h3;rw [Array.getElem?_eq_getElem hi1] at y1;cases y1;simp only [List.getElem_toArray];omega
 rw [← hs];exact e2
section
variable {α:Type}
theorem OR {P:Program} (w:World) (ty:TypeId) (r bm since c0:Nat) (seen:Array Nat) (es:Array MapEntry) (clock:Nat) (hr:w.heap[r]?=some (.mapIter (some bm) since seen c0)) (hb:w.heap[bm]?=some (.map es clock)) (hold:∀ x∈es.toList,x.born < since) (hsc:since≤c0) :
  ((leftOf es seen).size=0∧(Instr.next (.pointer (some ⟨r,0,none⟩)) false ty).run P w=.ok (.tuple #[.bool false]) w) ∨
  ∃ e∈(leftOf es seen).toList,∃ d:Nat,(Instr.next (.pointer (some ⟨r,0,none⟩)) false ty).run P w=.ok (.tuple #[.bool true,e.key,e.val]) (World.setObj {w with drawn:=d} r (.mapIter (some bm) since (seen.push e.born) clock)):=by
 simp only [Instr.next,getObj,Sem.run_bind,Sem.run,hr,hb,Result.andThen,next_test_false seen es since c0 hold hsc,Bool.false_eq_true,if_false];unfold leftOf;have hmem:∀ x∈(Array.filter (fun e=>!seen.contains e.born) es).toList,x.born < since:=fun x hx=>hold x (by simp at hx ⊢;exact hx.1);generalize Array.filter (fun e=>!seen.contains e.born) es=L at hmem ⊢;have e1:L.filter (fun x=>decide (x.born < since))=L:=Array.filter_eq_self.2 (fun x hx=>by simpa using hmem x (by simpa using hx));have e2:L.filter (fun x=>decide (x.born≥since))=#[]:=by
  rw [Array.filter_eq_empty_iff];intro x hx;have:=hmem x (by simpa using hx);simp;omega
 simp only [e1,e2,Array.append_empty];by_cases h0:L.size=0
 ·left;have:L=#[]:=Array.eq_empty_of_size_eq_zero h0;subst this;refine⟨rfl,?_⟩;simp [choose,Sem.run,Question.forced]
 right;have hne:L.isEmpty=false:=by simp [Array.isEmpty,h0]
 simp only [hne,Bool.false_eq_true,if_false,Array.empty_append,Array.size_map];have hch:∃ (j d:Nat),j < L.size∧(choose (Question.mapNext L.size)).run P w=.ok j {w with drawn:=d}:=by
  by_cases hf:L.size≤1
  ·exact⟨0,w.drawn,by omega,by simp [choose,Sem.run,Question.forced,hf]⟩
  exact⟨_,w.drawn+1,Nat.mod_lt _ (by omega),by
   simp only [choose,Sem.run,Question.forced,ZS,hf,if_false,Question.cut];rfl⟩
 obtain ⟨j,d,hj,hrun⟩:=hch;refine⟨L[j],by simp,d,?_⟩;have hset:∀ (o':Obj),(setObj r o').run P {w with drawn:=d}=.ok () (World.setObj {w with drawn:=d} r o'):=fun o'=>by
  simp [setObj,Sem.run,hr,World.setObj]
 simp only [hrun,Array.getElem?_map,Array.getElem?_eq_getElem hj,Option.map_some,Sem.run_bind,hset,Result.andThen];rfl
end
section
variable {P:Program} {N:Nat} {o:Oper} {E:bJ} {H:aA} {f:Operand} {args:Array Operand} {at_:Array TypeId} {F:FuncId} {fn:Func} {e:Array Value→Sem Value} {vs:List AV} {r:AV}
def WK (P:Program) (e:Array Value→Sem Value) (H:aA) (vs:List AV) (r:AV):Prop :=∀ (w:World) (I:Nat→Prop) (ι:cB) (cs:Array Value),cs.size=vs.length→(∀ (i:Nat) (v:Value) (a:AV),cs[i]?=some v→vs[i]?=some a→VRel w I ι H v a)→∃ c,(e cs).run P w=.ok c w∧VRel w I ι H c r
theorem JQ (ho:o.op=.call {callee:=.value f,args:=args,argTypes:=at_}) (hf:aO E f=some (.pv (.fn F))) (hF:P.funcs[F]?=some fn) (hname:(fn.name == "runtime.NumGoroutine")=false)
  (hb:fn.body.isNone=true) (hn:Extern.findNext fn=none) (he:Extern.find fn=some e) (hv:uC E args.toList=some vs) (h:WK P e H vs r):bN P N o E H r H :=
 .of_run fun a w I ι hr hE=>by
  have hfv:=(aE hE hf).fn_inv;obtain ⟨h1,h2⟩:=nN hE (oA hv);obtain ⟨c,hc,hcr⟩:=h w I ι (args.map a.eval) (by simpa using h1) (fun i v b hv hb=>h2 i v b (by simpa using hv) hb);refine⟨c,?_,hcr⟩;unfold execOp;simp only [ho,resolve,hfv,Deferred.ofValue,Sem.run_bind,Sem.run_pure,Result.andThen_ok,invoke,Array.empty_append,Array.append_empty,run_callFunc_extern hF hname hb hn he,hc]
theorem N4 {w:World} {I:Nat→Prop} {ι:cB} {H:aA} {x y:AV} {cs:Array Value} (hl:cs.size=[x,y].length) (h:∀ (i:Nat) (v:Value) (a:AV),cs[i]?=some v→[x,y][i]?=some a→VRel w I ι H v a):∃ u v,cs=#[u,v]∧VRel w I ι H u x∧VRel w I ι H v y:=by
 obtain ⟨l⟩:=cs
 match l,hl with
 | [u,v],_=>exact⟨u,v,rfl,h 0 u x rfl rfl,h 1 v y rfl rfl⟩
theorem AP (s:ByteArray) (c:Int):WK P Extern.BytealgIndexByte.indexByte H [.pv (.str s),.pv (.int .u8 c)] (.pv (.int .i64 (Lib.indexByte s.data.toList c.toNat.toUInt8))):=by intro w I ι cs hl h;obtain ⟨u,v,rfl,h1,h2⟩:=N4 hl h;rw [h1.str_inv,h2.int_inv];exact⟨_,Lib.run_indexByteString s c w,.pv (.int _ _)⟩
end
theorem WC {P:Program} {G0:aA} {N:Nat} {ops:Array Oper} {K:bJ→aA→Prop} {E:bJ} {H:aA} {l:List Oper} {t:Tmp} {v:AV} (hb:E.get t=some v) (h:AL P G0 N ops K l ((t,v)::E) H):AL P G0 N ops K l E H:=by
 intro G hG a w hs;refine h G hG a w (cG.sub (G0:=G0) (fun k u hk=>?_) G hG N a w hs);by_cases e:t=k
 ·subst e;rw [bJ.get_cons_same] at hk;rw [hb,hk]
 rwa [bJ.get_cons_other _ _ e] at hk
end
section
section
variable {P:Program} {N:Nat} {o:Oper} {E:bJ} {H:aA} {T:TypeId} {x y z:Operand}
def R0 (l:List ByteArray) (s:ByteArray):Bool:=l.any fun a=>decide (a=s)
end
end
theorem cG.get' {G0:aA} {E E':bJ} {H H':aA} (h:RU E E') (hH:∀ j,H'.get j=H.get j):cG G0 E H E' H':=(cG.e0 h).trans (cG.get (fun _=>rfl) hH)
theorem iT (id:Nat) (o o':Ob) (H:aA) (j:Nat):aA.get ((id,o)::H) j=aA.get ((id,o)::(id,o')::H) j:=by cases e:Nat.beq id j<;>simp [aA.get,e]
theorem cG.dup {G0:aA} {E E':bJ} {H:aA} {id:Nat} {o o':Ob} (h:RU E E'):cG G0 E ((id,o)::(id,o')::H) E' ((id,o)::H):=cG.get' h (iT id o o' H)
theorem zM.app {D H G0:aA} (hG:∀ p∈D,G0.get p.1=none):zM G0 H (D++H):=fun id hi=>by
 rw [eZ];cases e:D.get id with
 | none=>rfl
 | some o =>
  have:=hG _ (cJ e);rw [this] at hi;cases hi
theorem Fin.pops' {G0 H:aA} {r:AV} (D:aA) (hr:Clo H r) (hc:bG H) (hD:∀ p∈D,H.get p.1=none) (hG:∀ p∈D,G0.get p.1=none):Fin G0 (D++H) r H r:=by intro G hG' I ι w v h1 h2 h3;subst hG';exact⟨I,ι,h1.restrict (Sub.app hD) hc,h2.restrict (Sub.app hD) (zM.app hG),h3.restrict (Sub.app hD) hr⟩
theorem Fin.fzC {G0 H H':aA} {r r':AV} {id:Nat} {ob:Ob} (ps:List (List PV)) (hH:H.get id=some ob) (hps:ob.rows=ps.map (·.map .pv)) (hf:Fz H' id ob.g ps r r') (hno:H'.get id=none) (hs:Sub H' H) (hc:bG H') (hk:zM G0 H' H):Fin G0 H r H' r':=by intro G hG I ι w v h1 h2 h3;subst hG;exact⟨_,ι,h1.freeze hs hc hH hno,h2.freeze hs hk hH,VRel.freeze h1 hs hH hps hf h3⟩
theorem Fin.slice {G0 H:aA} {id g n:Nat} {ob:Ob} (D:aA) (ps:List (List PV)) (hH:aA.get (D++H) id=some ob) (hg:ob.g=g) (hps:ob.rows=ps.map (·.map .pv)) (hn:ps.length=n) (hc:bG H) (hD:∀ p∈D,H.get p.1=none) (hG:∀ p∈D,G0.get p.1=none) (hid:H.get id=none) :
  Fin G0 (D++H) (.osl id g 0 n) H (.pv (.sl ps)):=by
 subst hg hn;exact Fin.fzC ps hH hps (.osl (by rw [Z4,List.drop_zero,List.take_length])) hid (Sub.app hD) hc (zM.app hG)
end Go.Abs
namespace Go.Abs
open Go.Proofs
theorem Rel.grown {I:Nat→Prop} {ι:cB} {H:aA} {w:World} (os:Array Obj) (hr:Rel I ι H w):Rel I ι H (Sort.grow w os)∧Step I ι H w I ι H (Sort.grow w os):=by
 have hk:∀ b,b < w.heap.size→(Sort.grow w os).heap[b]?=w.heap[b]?:=fun b hb=>by
  show (w.heap++os)[b]?=_;rw [Array.getElem?_append_left hb]
 have hst:Step I ι H w I ι H (Sort.grow w os):=by
  refine⟨rfl,rfl,rfl,?_,fun a ha _=>?_,fun _ h=>h,fun _ h=>.inl h,fun _ h=>.inl h,fun b hb _=>hk b hb,fun _ o h=>⟨o,h,ZR _,fun _=>⟨rfl,rfl,fun _=>ZR _⟩⟩⟩
  ·show w.heap.size≤(w.heap++os).size;simp
  unfold World.frozen?;rw [hk _ ha]
 refine⟨⟨fun b hb=>?_,fun j o hj=>?_,hr.inj,hst.glob hr⟩,hst⟩
 ·have:=hr.imm b hb;show b < (w.heap++os).size;simp;omega
 exact(hr.obj j o hj).keep rfl (fun b c _ hb=>⟨hk b hb,fun h=>h⟩) (fun r _ a _ v hv=>hv.mono hr hst)
def dN (l:List ByteArray):List (List AV):=l.map fun s=>[.pv (.str s)]
def EB (s:ByteArray):List UInt8:=s.data.toList
def UY (l:List UInt8):ByteArray:=⟨l.toArray⟩
theorem JS (s:ByteArray):UY (EB s)=s:=by cases s;simp [UY,EB]
def cQ (l:List ByteArray):List ByteArray:=((l.map EB).mergeSort fun x y=>decide (x≤y)).map UY
theorem eV (l:List ByteArray):(cQ l).length=l.length:=by simp [cQ,List.length_mergeSort]
theorem JV (l:List ByteArray):(l.map EB).map UY=l:=by
 rw [List.map_map]
 conv=>rhs;rw [← List.map_id l]
 exact List.map_congr_left fun s _=>JS s
theorem rG (l:List ByteArray):(cQ l).Perm l:=by have h:=(List.mergeSort_perm (l.map EB) (fun x y=>decide (x≤y))).map UY;rw [JV] at h;exact h
theorem FI {w:World} {b:Nat} {cs:Array Value} {t:TypeId} {f:Nat×Nat} (h:w.heap[b]?=some (.cells cs t f)) (d:Array (List UInt8)):(Sort.putRow Proofs.encStr w b 0 d)=w.setRow b (Sort.putCells Proofs.encStr 0 d cs):=by
 unfold Sort.putRow Sort.mapBlock World.setRow;congr 1;apply Array.ext_getElem?;intro k;simp only [Array.getElem?_modify];by_cases e:b=k
 ·subst e;simp [h,Sort.onCells]
 simp [e]
theorem VF {P:Program} {ρ:Shelf.Ren} (Ly:SlLaysM.n6 P ρ) (ss:List ByteArray) {id g n ty:Nat} {H:aA} (hH:H.get id=some ⟨g,1,ty,dN ss⟩) (hn:n=ss.length) (hl:ss.length < 4611686018427387904) :
  aJ P (ρ.f 6) [.osl id g 0 n] H (fun r H'=>r=.tup []∧H'=(id,⟨g,1,ty,dN (cQ ss)⟩)::H):=by
 subst hn;intro I ι w vs hr hvl hv;obtain ⟨v,rfl⟩:∃ v,vs=#[v]:=by
  match vs,hvl with
  | ⟨[v]⟩,_=>exact⟨v,rfl⟩
 have h1:=hv 0 v _ rfl rfl;obtain ⟨_,hcase⟩:=dS h1 hH rfl;have hrowlen:∀ r∈dN (cQ ss),r.length=1:=fun r hr=>by
  obtain ⟨s,_,rfl⟩:=List.mem_map.1 hr;rfl
 have g1:aA.get ((id,⟨g,1,ty,dN (cQ ss)⟩)::H) id=some ⟨g,1,ty,dN (cQ ss)⟩:=by simp [aA.get,fG]
 have g2:∀ j,j≠id→aA.get ((id,⟨g,1,ty,dN (cQ ss)⟩)::H) j=H.get j:=fun j hj=>by simp [aA.get,gT (Ne.symm hj)]
 rcases hcase with⟨b,cap,oo,c1,c2,c3⟩|⟨c1,c2,_,c4⟩
 ·have hoo:oo=0:=by rw [c3 (.inr rfl)];simp
  subst hoo c2;have hobj:=(hr.obj id _ hH).cells (Nat.succ_pos 0);obtain ⟨p1,p2,⟨b',cap',cs,e1,e2,e3,e4,e5,e5',e6⟩|⟨e1,_⟩⟩:=hobj
  ·rw [c1] at e1;cases e1;simp only [Nat.mul_one] at e4 e6;have hlen:(dN ss).length=ss.length:=by simp [dN]
   simp only [hlen] at e5;have hcs:∀ (i:Nat) (s:ByteArray),ss[i]?=some s→cs[i]?=some (.string s):=fun i s hs=>by
    obtain ⟨u,q1,q2,q3⟩:=e6 i [.pv (.str s)] (by rw [dN,Z6,hs];rfl) 0 _ rfl;rw [q3.str_inv] at q1;exact q1
   have hholds:Sort.Holds Proofs.encStr w b 0 (ss.map EB).toArray:=by
    intro j hj;simp only [List.size_toArray,ZL] at hj;refine⟨?_,?_⟩
    ·have:=hcs j _ (ZQ hj);rw [Z4];simp only [World.cell?,e2,this];congr 1;rw [getElem!_pos _ _ (by simpa using hj)];simp only [List.getElem_toArray,List.getElem_map];show some (Value.string ss[j])=some (Value.string (UY (EB ss[j])));rw [JS]
    simp [World.frozen?,e2]
   have hrun:=AnyM.slices_Sort_string Ly b 0 (cap - 0) (ss.map EB) w hholds (Array.getElem?_eq_some_iff.1 e2).1 (by rw [ZL];exact hl);rw [ZL] at hrun;refine hrun.mono ?_;rintro e w' ⟨rfl,n,os,rfl⟩;obtain ⟨k1,k2⟩:=Rel.drawn (w':=Sort.ahead w n) hr rfl rfl rfl rfl;have e2':(Sort.ahead w n).heap[b]?=some (.cells cs ty (0,0)):=e2;rw [FI e2'];obtain ⟨m1,m2⟩:=Rel.update (H':=(id,⟨g,1,ty,dN (cQ ss)⟩)::H) (ob':=⟨g,1,ty,dN (cQ ss)⟩) (cs':=Sort.putCells Proofs.encStr 0 ((ss.map EB).mergeSort fun x y=>decide (x≤y)).toArray cs) k1 hH c1 e2' (ZR _) rfl rfl
    (fun _=>by simp [dN,eV]) (by rw [Sort.putCells];simp;omega) (by simp only [dN,ZL,eV];omega) hrowlen (fun i r hi k a hk=>by
     rw [dN,Z6] at hi;obtain ⟨s,hs,rfl⟩:=Option.map_eq_some_iff.1 hi;cases k with
     | succ k=>simp at hk
     | zero =>
      cases hk;have hil:=(ZP.1 hs).1;rw [eV] at hil;have hics:i < cs.size:=by omega
      refine⟨.string s,?_,rfl,.pv (.str s)⟩;rw [Nat.mul_one,Nat.add_zero,Sort.putCells,Array.getElem?_mapIdx,Array.getElem?_eq_getElem hics,Option.map_some];have hsz:i < ((ss.map EB).mergeSort fun x y=>decide (x≤y)).length:=by rw [List.length_mergeSort,ZL];exact hil
      rw [ZK ⟨Z3 _,by simpa using hsz⟩];congr 1;rw [Nat.sub_zero,getElem!_pos _ _ (by simpa using hsz)];rw [cQ,Z6] at hs;obtain ⟨u,hu,rfl⟩:=Option.map_eq_some_iff.1 hs;simp only [List.getElem_toArray];rw [(ZP.1 hu).2];rfl) g1 g2
   obtain ⟨n1,n2⟩:=Rel.grown os m1;exact⟨_,_,I,ι,.tuple #[],rfl,⟨rfl,rfl⟩,.tup rfl (by simp),n1,(k2.trans m2).trans n2⟩
  rw [c1] at e1;cases e1
 subst c2;have h0:ss=[]:=List.eq_nil_of_length_eq_zero c4;subst h0;refine(AnyM.slices_Sort_string_none Ly none 0 w).mono ?_;rintro e w' ⟨rfl,rfl⟩;have hg:∀ j,aA.get ((id,⟨g,1,ty,dN (cQ [])⟩)::H) j=H.get j:=fun j=>by
  by_cases e:j=id
  ·subst e;rw [g1,hH,show cQ []=[] by simp [cQ]]
  exact g2 j e
 obtain ⟨k1,k2⟩:=hr.congr hg;exact⟨_,_,I,ι,.tuple #[],rfl,⟨rfl,rfl⟩,.tup rfl (by simp),k1,k2⟩
def dA (n:Int):ByteArray:=⟨(Lib.itoa n).toArray⟩
theorem itoa_c {P:Program} {ρ:Shelf.Ren} (L:LaysM.n171 P ρ) {G:Nat} (hg:(G,GV.ints .u64 Lib.pow10Tab)∈DF) (hn:P.globalNamed "internal/strconv.uint64pow10" = some G) (n:Int) (h0 : -9223372036854775808≤n) (h1:n≤9223372036854775807) (H:aA) :
  aJ P (ρ.f 171) [.pv (.int .i64 n)] H (fun r H'=>r=.pv (.str (dA n))∧H'=H):=by
 intro I ι w vs hr hvl hv;obtain ⟨v,rfl⟩:∃ v,vs=#[v]:=by
  match vs,hvl with
  | ⟨[v]⟩,_=>exact⟨v,rfl⟩
 have e1:=(hv 0 v _ rfl rfl).int_inv;subst e1;have htab:Lib.TabIs P w "internal/strconv.uint64pow10" .u64 Lib.pow10Tab:=by
  obtain ⟨_,cs,t,f,h2,h3⟩:=hr.glob _ hg;have h3':cs=(Lib.pow10Tab.map fun z=>Value.int .u64 z).toArray:=h3;subst h3';simp only [Lib.TabIs,World.var?,hn,Option.bind_some,h2]
 refine(Any.strconv_Itoa L n h0 h1 w htab).mono ?_;rintro e w' ⟨rfl,k,os,rfl⟩;obtain ⟨k1,k2⟩:=Rel.drawn (w':=w.drewN k) hr rfl rfl rfl rfl;obtain ⟨m1,m2⟩:=Rel.grown os k1;exact⟨_,_,I,ι,_,rfl,⟨rfl,rfl⟩,.pv (.str _),m1,k2.trans m2⟩
theorem mul64_c {P:Program} {ρ:Shelf.Ren} (L:Lays.n264 P ρ) (x y:Nat) (hx:x < 18446744073709551616) (hy:y < 18446744073709551616) (H:aA) :
  aJ P (ρ.f 264) [.pv (.int .u64 (x:Int)),.pv (.int .u64 (y:Int))] H (fun r H'=>r=.tup [.pv (.int .u64 ((x*y / 18446744073709551616:Nat):Int)),.pv (.int .u64 ((x*y % 18446744073709551616:Nat):Int))]∧H'=H):=by
 intro I ι w vs hr hvl hv;obtain ⟨v,u,rfl⟩:∃ v u,vs=#[v,u]:=by
  match vs,hvl with
  | ⟨[v,u]⟩,_=>exact⟨v,u,rfl⟩
 have e1:=(hv 0 v _ rfl rfl).int_inv;have e2:=(hv 1 u _ rfl rfl).int_inv;subst e1 e2;refine(Any.bits_Mul64 L x y hx hy w).mono ?_;rintro e w' ⟨rfl,rfl⟩;refine⟨_,_,I,ι,_,rfl,⟨rfl,rfl⟩,.tup rfl fun i v a h1 h2=>?_,hr,Step.refl _ _ _ _⟩
 match i,h1,h2 with
 | 0,h1,h2=>cases h1;cases h2;exact .pv (.int _ _)
 | 1,h1,h2=>cases h1;cases h2;exact .pv (.int _ _)
 | i+2,h1,h2=>simp at h1
end Go.Abs
namespace Go.Proofs.YtmkgeogoojcciaaGreatDoor
open Go.Proofs.Tryz
open Go.Abs
theorem YW:gH Tryz.prog 3 [.pv (.int .i64 0)]:=⟨_,_,lE,.inl rfl,rfl⟩
theorem WW:gH Tryz.prog 5 [.pv (.int .u8 0)]:=⟨_,_,iN,.inl rfl,rfl⟩
theorem YQ:gH Tryz.prog 9 [.pv (.str ⟨#[]⟩)]:=⟨_,_,fC,.inl rfl,rfl⟩
theorem WU:gH Tryz.prog 31 [.pv .nils]:=⟨_,_,RM,.inr rfl,rfl⟩
theorem cK:dT Tryz.prog 31 9 1:=⟨aQ,sizeOf9,by decide,_,fC⟩
theorem P9:EI Tryz.prog 9 1 16:=EI.mk (z:=(Value.string ⟨#[]⟩)) (by kernel_rfl) rfl (by decide) (by decide)
theorem X4:gH Tryz.prog 33 [.pv .nilm]:=⟨_,_,zeroValue33,.inl rfl,rfl⟩
theorem CC:dT Tryz.prog 50 5 1:=⟨bV,cL,by decide,_,iN⟩
theorem WO:EI Tryz.prog 5 1 1:=EI.mk (z:=(Value.int IntKind.u8 (0))) (by kernel_rfl) rfl (by decide) (by decide)
theorem WV:gH Tryz.prog 53 [.pv .nilfn]:=⟨_,_,zeroValue53,.inl rfl,rfl⟩
theorem NU:gH Tryz.prog 70 [.pv (.int .i64 0),.pv (.int .i64 0)]:=⟨_,_,zeroValue70,.inl rfl,rfl⟩
theorem rV:dL Tryz.prog 70 0 0:=by refine⟨_,_,0,NK,rfl,rfl,?_⟩;exact sizeOf3
theorem mG:dL Tryz.prog 70 1 1:=by refine⟨_,_,0,NK,rfl,rfl,?_⟩;exact sizeOf3
theorem M6:oB Tryz.prog 70 [(0,1),(1,1)] [.pv (.int .i64 0),.pv (.int .i64 0)]:=⟨_,#[(0,1),(1,1)],_,_,NK,zeroValue70,.inl rfl,rfl,fun w=>by simp [sizeOf3],rfl⟩
theorem rU:dL Tryz.prog 72 0 0:=by refine⟨_,_,0,jE,rfl,rfl,?_⟩;exact sizeOf29
theorem rT:dL Tryz.prog 72 1 1:=by refine⟨_,_,0,jE,rfl,rfl,?_⟩;exact sizeOf3
theorem lK:dL Tryz.prog 72 2 2:=by refine⟨_,_,1,jE,rfl,rfl,?_⟩;exact sizeOf70
theorem rS:dL Tryz.prog 72 3 4:=by refine⟨_,_,0,jE,rfl,rfl,?_⟩;exact sizeOf33
theorem jR:dL Tryz.prog 72 4 5:=by refine⟨_,_,0,jE,rfl,rfl,?_⟩;exact sizeOf4
theorem YH:oB Tryz.prog 72 [(0,1),(1,1),(2,2),(4,1),(5,1)] [.pv .nilp,.pv (.int .i64 0),.pv (.int .i64 0),.pv (.int .i64 0),.pv .nilm,.pv (.bool false)]:=⟨_,#[(0,1),(1,1),(2,2),(4,1),(5,1)],_,_,jE,zeroValue72,.inl rfl,rfl,fun w=>by simp [sizeOf3,sizeOf4,sizeOf29,sizeOf33,sizeOf70],rfl⟩
theorem K8:dT Tryz.prog 75 3 1:=⟨NJ,sizeOf3,by decide,_,lE⟩
theorem G6:dT Tryz.prog 77 103 3:=⟨mK,sE,by decide,_,NG⟩
theorem XC:EI Tryz.prog 103 3 32:=EI.mk (z:=(Value.agg #[(Value.int IntKind.i64 (0)),(Value.int IntKind.i64 (0)),(Value.string ⟨#[]⟩)])) (by kernel_rfl) rfl (by decide) (by decide)
theorem DK:dL Tryz.prog 80 0 0:=by refine⟨_,_,0,mJ,rfl,rfl,?_⟩;exact sizeOf50
theorem iU:dL Tryz.prog 80 1 1:=by refine⟨_,_,0,mJ,rfl,rfl,?_⟩;exact sizeOf77
theorem vB:dL Tryz.prog 80 2 2:=by refine⟨_,_,0,mJ,rfl,rfl,?_⟩;exact sizeOf4
theorem mF:dL Tryz.prog 80 3 3:=by refine⟨_,_,0,mJ,rfl,rfl,?_⟩;exact sizeOf78
theorem XI:oB Tryz.prog 80 [(0,1),(1,1),(2,1),(3,1)] [.pv .nils,.pv .nils,.pv (.bool false),.pv .nilp]:=⟨_,#[(0,1),(1,1),(2,1),(3,1)],_,_,mJ,zeroValue80,.inr rfl,rfl,fun w=>by simp [sizeOf4,sizeOf50,sizeOf77,sizeOf78],rfl⟩
theorem X3:gH Tryz.prog 93 [.pv (.int .u64 0)]:=⟨_,_,kE,.inl rfl,rfl⟩
theorem zV:gH Tryz.prog 96 [.pv (.int .i64 0),.pv (.int .i64 0)]:=⟨_,_,zeroValue96,.inl rfl,rfl⟩
theorem DJ:dL Tryz.prog 96 0 0:=by refine⟨_,_,0,NH,rfl,rfl,?_⟩;exact sizeOf3
theorem P3:dL Tryz.prog 96 1 1:=by refine⟨_,_,0,NH,rfl,rfl,?_⟩;exact sizeOf3
theorem UD:oB Tryz.prog 96 [(0,1),(1,1)] [.pv (.int .i64 0),.pv (.int .i64 0)]:=⟨_,#[(0,1),(1,1)],_,_,NH,zeroValue96,.inl rfl,rfl,fun w=>by simp [sizeOf3],rfl⟩
theorem DN:dL Tryz.prog 100 0 0:=by refine⟨_,_,0,IW,rfl,rfl,?_⟩;exact sizeOf3
theorem TU:dL Tryz.prog 100 1 1:=by refine⟨_,_,0,IW,rfl,rfl,?_⟩;exact sizeOf3
theorem TT:dL Tryz.prog 100 2 2:=by refine⟨_,_,0,IW,rfl,rfl,?_⟩;exact sizeOf3
theorem UM:gH Tryz.prog 103 [.pv (.int .i64 0),.pv (.int .i64 0),.pv (.str ⟨#[]⟩)]:=⟨_,_,NG,.inl rfl,rfl⟩
theorem DM:dL Tryz.prog 103 0 0:=by refine⟨_,_,1,IV,rfl,rfl,?_⟩;exact sizeOf96
theorem DL:dL Tryz.prog 103 1 2:=by refine⟨_,_,0,IV,rfl,rfl,?_⟩;exact sizeOf9
theorem XJ:oB Tryz.prog 103 [(0,2),(2,1)] [.pv (.int .i64 0),.pv (.int .i64 0),.pv (.str ⟨#[]⟩)]:=⟨_,#[(0,2),(2,1)],_,_,IV,NG,.inl rfl,rfl,fun w=>by simp [sizeOf9,sizeOf96],rfl⟩
theorem NT:gH Tryz.prog 138 [.pv .nilp,.pv .nils]:=⟨_,_,zeroValue138,.inr rfl,rfl⟩
theorem xE:dL Tryz.prog 138 0 0:=by refine⟨_,_,0,IU,rfl,rfl,?_⟩;exact WF
theorem qI:dL Tryz.prog 138 1 1:=by refine⟨_,_,0,IU,rfl,rfl,?_⟩;exact sizeOf50
theorem WX:gH Tryz.prog 195 [.pv (.int .u8 0),.pv (.int .u8 0),.pv (.int .u8 0),.pv (.int .u8 0),.pv (.int .u8 0),.pv (.int .u8 0),.pv (.int .u8 0),.pv (.int .u8 0)]:=⟨_,_,zeroValue195,.inl rfl,rfl⟩
theorem IY:gH Tryz.prog 197 [.pv (.int .u8 0),.pv (.int .u8 0),.pv (.int .u8 0),.pv (.int .u8 0),.pv (.int .u8 0),.pv (.int .u8 0),.pv (.int .u8 0),.pv (.int .u8 0),.pv (.int .u8 0),.pv (.int .u8 0),.pv (.int .u8 0),.pv (.int .u8 0),.pv (.int .u8 0),.pv (.int .u8 0),.pv (.int .u8 0),.pv (.int .u8 0)]:=⟨_,_,zeroValue197,.inl rfl,rfl⟩
theorem follows:Tryz.prog.follows .mixedOrders=true:=by kernel_rfl
structure GTag where
 key:ByteArray
 val:ByteArray
structure GObj where
 id:ByteArray
 kind:Int
 x:Int
 y:Int
 refs:List ByteArray
 tags:List GTag
structure GEdit where
 op:Int
 id:ByteArray
 other:ByteArray
 node:ByteArray
 x:Int
 y:Int
 key:ByteArray
 val:ByteArray
 refs:List ByteArray
 obj:GObj
def encStr (s:ByteArray):List PV:=[.str s]
def aY (l:List ByteArray):PV:=.sl (l.map encStr)
theorem fV {α:Type} {f:α→List PV} {l:List α} {k:Nat} {a:α} (h:l[k]?=some a):(l.map f)[k]?=some (f a):=by rw [Z6,h];rfl
theorem bM {α:Type} {l:List α} {k:Nat} (h:k < l.length):∃ a,l[k]?=some a:=⟨_,ZQ h⟩
theorem MI {α:Type} {p:α→Bool} {l:List α} {k:Nat} {a:α} (h:∀ j,j < k→∀ b,l[j]?=some b→p b=false) (hk:l[k]?=some a) (hp:p a=true):l.findIdx? p=some k:=by rw [List.findIdx?_eq_some_iff_getElem];obtain ⟨hlt,he⟩:=ZP.1 hk;refine⟨hlt,by rw [he];exact hp,fun j hj=>?_⟩;have:=h j hj l[j] (ZQ (by omega));simp [this]
theorem MJ {α:Type} {p:α→Bool} {l:List α} (h:∀ j,j < l.length→∀ b,l[j]?=some b→p b=false):l.findIdx? p=none:=by rw [List.findIdx?_eq_none_iff];intro x hx;obtain ⟨j,hj⟩:=Z7.1 hx;exact h j (ZP.1 hj).1 x hj
def P1 {α:Type} (p:α→Bool) (l:List α):Int:=match l.findIdx? p with|some i=>(i:Int)|none => -1
theorem P0 {α:Type} (p:α→Bool) (l:List α):decide (0≤P1 p l)=l.any p:=by
 unfold P1;cases h:l.findIdx? p with
 | none =>
  have:l.any p=false:=by
   rw [List.findIdx?_eq_none_iff] at h;rw [List.any_eq_false];intro x hx;simp [h x hx]
  simp [this]
 | some i =>
  have:l.any p=true:=by
   rw [List.findIdx?_eq_some_iff_getElem] at h;obtain ⟨h1,h2,_⟩:=h;exact List.any_eq_true.2 ⟨_,List.getElem_mem h1,h2⟩
  simp [this]
theorem OZ {α:Type} {p:α→Bool} {l:List α} {k:Nat} {a:α} (h:∀ j,j < k→∀ b,l[j]?=some b→p b=false) (hk:l[k]?=some a) (hp:p a=false):∀ j,j < k+1→∀ b,l[j]?=some b→p b=false:=by
 intro j hj b hb;by_cases e:j=k
 ·subst e;rw [hk] at hb;cases hb;exact hp
 exact h j (by omega) b hb
end Go.Proofs.YtmkgeogoojcciaaGreatDoor
section
namespace Go.Proofs
open Go.RowKit Go.Sort Go.Shelf
def ZA:Go.Shelf.Ren:=⟨fun|171=>98|243=>128|246=>158|283=>178|284=>179|285=>180|286=>181|129=>157|317=>191|318=>192|319=>193|320=>194|337=>198|338=>199|n=>n,fun|3=>3|9=>9|2=>2|4=>4|171=>215|0=>0|53=>93|37=>50|5=>5|173=>217|212=>229|51=>191|20=>20|213=>230|46=>150|232=>234|233=>235|n=>n,fun|17=>3|18=>4|19=>5|n=>n⟩
theorem ZG:Go.Proofs.LaysM.n171 Tryz.prog ZA:={
  mixed:=by kernel_rfl
  f129:=Tryz.func157.trans (congrArg some (by kernel_rfl))
  f171:=Tryz.func98.trans (congrArg some (by kernel_rfl))
  f243:=Tryz.func128.trans (congrArg some (by kernel_rfl))
  f246:=Tryz.func158.trans (congrArg some (by kernel_rfl))
  f283:=Tryz.func178.trans (congrArg some (by kernel_rfl))
  f284:=Tryz.func179.trans (congrArg some (by kernel_rfl))
  f285:=Tryz.func180.trans (congrArg some (by kernel_rfl))
  f286:=Tryz.func181.trans (congrArg some (by kernel_rfl))
  f317:=Tryz.func191.trans (congrArg some (by kernel_rfl))
  f318:=Tryz.func192.trans (congrArg some (by kernel_rfl))
  f319:=Tryz.func193.trans (congrArg some (by kernel_rfl))
  f320:=Tryz.func194.trans (congrArg some (by kernel_rfl))
  f337:=Tryz.func198.trans (congrArg some (by kernel_rfl))
  f338:=Tryz.func199.trans (congrArg some (by kernel_rfl))
  t0:=wQ
  a0:=R2
  z0:=NM
  v0:=zU
  t2:=Tryz.underlying2
  a2:=Tryz.isAgg2
  z2:=Tryz.sizeOf2
  v2:=Tryz.zeroValue2
  t3:=bX
  a3:=aU
  z3:=Tryz.sizeOf3
  v3:=lE
  t4:=cS
  a4:=dM
  z4:=Tryz.sizeOf4
  v4:=zT
  t5:=bI
  a5:=oL
  z5:=cL
  v5:=iN
  t9:=aH
  a9:=bB
  z9:=Tryz.sizeOf9
  v9:=fC
  t20:=NL
  a20:=YL
  z20:=XL
  v20:=RN
  t37:=bV
  a37:=eO
  z37:=Tryz.sizeOf50
  v37:=RL
  t46:=eL
  a46:=vM
  z46:=sD
  v46:=mI
  t51:=sB
  a51:=GK
  z51:=DY
  v51:=uH
  t53:=dV
  a53:=mL
  z53:=kU
  v53:=kE
  t171:=Tryz.underlying215
  a171:=Tryz.isAgg215
  z171:=Tryz.sizeOf215
  v171:=Tryz.zeroValue215
  t173:=Tryz.underlying217
  a173:=Tryz.isAgg217
  z173:=Tryz.sizeOf217
  v173:=Tryz.zeroValue217
  t212:=Tryz.underlying229
  a212:=Tryz.isAgg229
  z212:=Tryz.sizeOf229
  v212:=Tryz.zeroValue229
  t213:=Tryz.underlying230
  a213:=Tryz.isAgg230
  z213:=Tryz.sizeOf230
  t232:=Tryz.underlying234
  a232:=Tryz.isAgg234
  z232:=Tryz.sizeOf234
  v232:=Tryz.zeroValue234
  t233:=Tryz.underlying235
  a233:=Tryz.isAgg235
  z233:=Tryz.sizeOf235
  v233:=Tryz.zeroValue235
  g17:=by kernel_rfl
  g18:=by kernel_rfl
  g19:=by kernel_rfl
  i0:=by kernel_rfl
  i2:=by kernel_rfl
  i3:=by kernel_rfl
  i4:=by kernel_rfl
  i5:=by kernel_rfl
  i9:=by kernel_rfl
  i20:=by kernel_rfl
  i37:=by kernel_rfl
  i46:=by kernel_rfl
  i51:=by kernel_rfl
  i53:=by kernel_rfl
  i171:=by kernel_rfl
  i173:=by kernel_rfl
  i212:=by kernel_rfl
  i232:=by kernel_rfl
  i233:=by kernel_rfl
  m17:=by kernel_rfl
  m18:=by kernel_rfl
  m19:=by kernel_rfl}
end Go.Proofs
namespace Go.Proofs.YtmkgeogoojcciaaGreatDoor
open Go.Proofs.Tryz
open Go.Abs
theorem nQ (n:Int) (h0 : -9223372036854775808≤n) (h1:n≤9223372036854775807) (H:aA):aJ Tryz.prog 98 [iv n] H (fun r H'=>r=sv (dA n)∧H'=H) :=Go.Abs.itoa_c ZG (G:=3) (by unfold DF;exact .head _) (by kernel_rfl) n h0 h1 H
end Go.Proofs.YtmkgeogoojcciaaGreatDoor
end
namespace Go.Abs
section
section
variable {P:Program} {G0:aA} {N:Nat} {E:bJ} {H:aA} {ops:Array Oper} {K:bJ→aA→Prop} {o:Oper} {rest:List Oper}
def XQ (P:Program) (G0:aA) (N:Nat) (ops:Array Oper) (K:bJ→aA→Prop) (l:List Oper) (E:bJ) (H:aA) (d:Nat) (F:cB→Value→Prop):Prop :=∀ G:Entry,G.H=G0→∀ (a:Act) (w:World) (I:Nat→Prop) (ι:cB),pR G.w w a.defers→a.tmps.size=N→Rel I ι H w→Step G.I G.ι G.H G.w I ι H w→fZ w I ι H E a→(∃ c,a.tmps[d]?=some c∧F ι c) →
  ∀ ro,(ro=none∨l.all Oper.noDefer=true)→∀ Q:Exit→Act→World→Prop,(∀ E H a w,K E H→St G N E H a w→Q .normal a w)→wpListIn (RF ro) 0 P ops Q l a w
def WH (id n:Nat) (ι:cB) (c:Value):Prop:=∃ b cap,ι id=some (b,cap)∧c=.slice (some ⟨b,0,none⟩) n n
theorem sR (a:Act) (d:Nat) (c:Value):(a.put (some d) c).tmps.size=a.tmps.size:=by simp [Act.put]
theorem OX (a:Act) {d:Nat} (c:Value) (h:d < a.tmps.size):(a.put (some d) c).tmps[d]?=some c:=by simp [Act.put,h]
theorem LK (a:Act) {d d2:Nat} (c:Value) (h:d2≠d):(a.put (some d2) c).tmps[d]?=a.tmps[d]?:=by simp [Act.put,h]
theorem uB {T e:TypeId} {p:Operand} {d id g n:Nat} {ob:Ob} (hg0:o.guard=none) (hd:o.dst=some d) (hdN:Nat.blt d N=true) (ho:o.op=.slice T p none none none) (hT:P.underlying T=some (.array n e)) (hs:∀ w,(sizeOf e).run P w=.ok 1 w)
  (hx:aO E p=some (.ref id g 0 0)) (hH:H.get id=some ob) (hg:ob.g=g) (hk:XQ P G0 N ops K rest ((d,.any)::E) H d (WH id n)):AL P G0 N ops K (o::rest) E H:=by
 intro G hG a w hst ro hro Q hq;refine wpListIn_plain hg0 fun K' hK=>?_;refine Oper.wpW_in (gJ hro).1 ?_;obtain ⟨I,ι,hr,hs',he⟩:=hst.rel;obtain ⟨b,cap,h1,h3⟩:=gL (aE he hx) hH hg;have hdn:d < N:=by simpa [Nat.blt_eq] using hdN
 have hrun:(execOp a.eval o).run P w=.ok (.value (.slice (some ⟨b,0,none⟩) n n)) w:=by
  simp only [execOp,ho,h3,Option.map_none];simp [Instr.sliceAt,run_underlying hT,Instr.sureAddr,Instr.sliceBounds,hs,Addr.add_lit]
 unfold Oper.wpW;rw [hrun];show K' (a.put o.dst _) w;rw [hd];exact hK _ _ (hk G hG _ w I ι (by rw [iB];exact hst.defers) (by rw [sR];exact hst.size) hr hs' (fZ.put (d:=some d) hr (Step.refl _ _ _ _) he (.any _) (by rw [hst.size];exact hdN)) ⟨_,OX a _ (by rw [hst.size];exact hdn),b,cap,h1,rfl⟩ ro (gJ hro).2 Q hq)
theorem RD {d d2:Nat} {F:cB→Value→Prop} {x:Operand} {v:AV} (hg0:o.guard=none) (hd:o.dst=some d2) (hdN:Nat.blt d2 N=true) (hne:d2≠d) (ho:o.op=.move x) (hx:aO E x=some v) (hk:XQ P G0 N ops K rest ((d2,v)::E) H d F):XQ P G0 N ops K (o::rest) E H d F:=by
 intro G hG a w I ι hm hsz hr hs' he ⟨c,hc,hF⟩ ro hro Q hq;refine wpListIn_plain hg0 fun K' hK=>?_;refine Oper.wpW_in (gJ hro).1 ?_;have hrun:(execOp a.eval o).run P w=.ok (.value (a.eval x)) w:=by simp [execOp,ho]
 unfold Oper.wpW;rw [hrun];show K' (a.put o.dst _) w;rw [hd];exact hK _ _ (hk G hG _ w I ι (by rw [iB];exact hm) (by rw [sR];exact hsz) hr hs' (fZ.put (d:=some d2) hr (Step.refl _ _ _ _) he (aE he hx) (by rw [hsz];exact hdN)) ⟨c,by rw [LK a _ hne];exact hc,hF⟩ ro (gJ hro).2 Q hq)
def eK (s:List UInt8):List AV:=s.map fun b=>.pv (.int .u8 b.toNat)
theorem lQ (s:List UInt8):(eK s).length=s.length:=ZL _
theorem DW {D S e:TypeId} {y:Operand} {d d2 id g n m T:Nat} {cells:List AV} {s:ByteArray} (hg0:o.guard=none) (hd:o.dst=some d2) (hdN:Nat.blt d2 N=true) (ho:o.op=.call {callee:=.builtin .copy,args:=#[.tmp d,y],argTypes:=#[D,S]}) (hD:P.underlying D=some (.slice e)) (hs:∀ w,(sizeOf e).run P w=.ok 1 w)
  (hH:H.get id=some ⟨g,n,T,[cells]⟩) (hn0:0 < n) (hy:aO E y=some (.pv (.str s))) (hm:min s.size n=m)
  (hk:AL P G0 N ops K rest ((d2,.pv (.int .i64 m))::E) ((id,⟨g,n,T,[eK (s.data.toList.take m)++cells.drop m]⟩)::H)):XQ P G0 N ops K (o::rest) E H d (WH id n):=by
 intro G hG a w I ι hmk hsz hr hs' he ⟨c,hc,b,cap,hι,hcv⟩ ro hro Q hq;refine wpListIn_plain hg0 fun K' hK=>?_;refine Oper.wpW_in (gJ hro).1 ?_;have e2y:=(aE he hy).str_inv;have e1:a.eval (.tmp d)=.slice (some ⟨b,0,none⟩) n n:=by simp [Act.eval,hc,hcv]
 obtain ⟨p1,p2,⟨b',cap',cs,f1,f2,f3,f4,f5,f5',f6⟩|⟨f1,_⟩⟩:=(hr.obj id _ hH).cells hn0
 rotate_left
 ·rw [hι] at f1;cases f1
 rw [hι] at f1;cases f1;have hlen:cells.length=n:=p2 cells (by simp);have hms:m≤s.size:=by omega
 have hmn:m≤n:=by omega
 simp only [List.length_singleton] at f5;have hcs:n≤cs.size:=by rw [f4];exact Nat.le_mul_of_pos_left _ (by omega)
 have hmm:min m s.data.size=m:=by have:s.data.size=s.size:=rfl;omega
 have hcells:((s.extract 0 m).data.map fun b=>Value.int .u8 b.toNat).toList=(s.data.toList.take m).map fun b=>Value.int .u8 b.toNat:=by simp
 have hst:=run_storeCells_at P b 0 T ((s.data.toList.take m).map fun b=>Value.int .u8 b.toNat) 0 cs w f2 (by simp [hmm];omega) (by intro v hv;obtain ⟨b,_,rfl⟩:=List.mem_map.1 hv;rfl);simp only [Nat.add_zero,Z4,List.take_zero,List.nil_append,ZL,Z0,Array.length_toList] at hst;rw [hmm] at hst;have hnl:(eK (s.data.toList.take m)++cells.drop m).length=n:=by
  rw [ZM,lQ,Z0,Z1,Array.length_toList,hmm,hlen];omega
 obtain ⟨k2,k3⟩:=Rel.update (H':=(id,⟨g,n,T,[eK (s.data.toList.take m)++cells.drop m]⟩)::H) (ob':=⟨g,n,T,[eK (s.data.toList.take m)++cells.drop m]⟩)
  (cs' := ((s.data.toList.take m).map (fun b => Value.int .u8 b.toNat) ++ cs.toList.drop m).toArray) hr hH hι f2 (ZR _) rfl rfl (fun _ => ZR _) (by
   simp only [List.size_toArray,ZM,ZL,Z0,Z1,Array.length_toList,hmm];rw [← f4];omega) (by simpa using f5) (by intro r hr';rw [ZO] at hr';subst hr';exact hnl) (fun i r hi k a' hk'=>by
    cases i with
    | succ i=>simp at hi
    | zero =>
     simp only [List.getElem?_cons_zero,Option.some.injEq] at hi;subst hi;rw [Nat.zero_mul,Z4];simp only [List.getElem?_toArray];by_cases ck:k < m
     ·rw [List.getElem?_append_left (by rw [lQ,Z0,Array.length_toList,hmm];exact ck),eK,Z6] at hk';rw [List.getElem?_append_left (by rw [ZL,Z0,Array.length_toList,hmm];exact ck),Z6];cases e:(s.data.toList.take m)[k]? with
      | none=>rw [e] at hk';cases hk'
      | some q =>
       rw [e] at hk';cases hk';exact⟨.int .u8 q.toNat,rfl,rfl,.pv (.int _ _)⟩
     rw [List.getElem?_append_right (by rw [lQ,Z0,Array.length_toList,hmm];omega),lQ,Z0,Array.length_toList,hmm,List.getElem?_drop,show m+(k - m)=k by omega] at hk';obtain ⟨u,q1,q2,q3⟩:=f6 0 cells rfl k a' hk';rw [Nat.zero_mul,Z4] at q1;refine⟨u,?_,q2,q3⟩;rw [List.getElem?_append_right (by rw [ZL,Z0,Array.length_toList,hmm];omega),ZL,Z0,Array.length_toList,hmm,List.getElem?_drop,show m+(k - m)=k by omega]
     simpa using q1) (get_cons_same _ _ _) (fun j hj=>get_cons_other _ _ hj)
 have hmin:Nat.min s.size n=m:=hm;unfold Oper.wpW execOp;simp only [ho,resolve,invoke,builtin,Sem.run_bind,Sem.run_pure,Result.andThen_ok,List.map_toArray,List.map_cons,List.map_nil,e1,e2y,Builtin.copy_,run_underlying hD,hs];simp only [List.getElem?_toArray,List.getElem?_cons_zero,List.getElem?_cons_succ,run_underlying hD,Builtin.lenOf,Builtin.firstCells,Sem.run_bind,Sem.run_pure,Result.andThen_ok,hs,hmin,hcells,hst];show K' (a.put o.dst _) _;rw [hd];refine hK _ _ (hk G hG _ _ ⟨?_,?_,I,ι,k2,hs'.trans k3,fZ.put (d:=some d2) hr k3 he (.pv (.int _ _)) (by rw [hsz];exact hdN)⟩ ro (gJ hro).2 Q hq)
 ·rw [iB];exact hmk.step hr k3
 rw [sR];exact hsz
theorem UI {S T e:TypeId} {d d2 id g n A:Nat} {bs:List UInt8} {r:ByteArray} (hg0:o.guard=none) (hd:o.dst=some d2) (hdN:Nat.blt d2 N=true) (ho:o.op=.convert S T (.tmp d)) (hS:P.underlying S=some (.slice e)) (he':P.underlying e=some (.int .u8)) (hT:P.underlying T=some .string)
  (hH:H.get id=some ⟨g,n,A,[eK bs]⟩) (hn0:0 < n) (hr':(⟨bs.toArray⟩:ByteArray)=r) (hk:AL P G0 N ops K rest ((d2,.pv (.str r))::E) H):XQ P G0 N ops K (o::rest) E H d (WH id n):=by
 intro G hG a w I ι hmk hsz hr hs' he ⟨c,hc,b,cap,hι,hcv⟩ ro hro Q hq;refine wpListIn_plain hg0 fun K' hK=>?_;refine Oper.wpW_in (gJ hro).1 ?_;have e1:a.eval (.tmp d)=.slice (some ⟨b,0,none⟩) n n:=by simp [Act.eval,hc,hcv]
 obtain ⟨p1,p2,⟨b',cap',cs,f1,f2,f3,f4,f5,f5',f6⟩|⟨f1,_⟩⟩:=(hr.obj id _ hH).cells hn0
 rotate_left
 ·rw [hι] at f1;cases f1
 rw [hι] at f1;cases f1;have hlen:bs.length=n:=by rw [← lQ bs];exact p2 (eK bs) (by simp)
 subst hr';have hl:(loadCells ⟨b,0,none⟩ n).run P w=.ok ((bs.map fun b=>(b.toNat:Int)).map (Value.int .u8)).toArray w:=by
  have h0:=run_loadCells_list (P:=P) w ⟨b,0,none⟩ ((bs.map fun b=>(b.toNat:Int)).map (Value.int .u8)) (fun j v hv=>by
   rw [List.map_map,Z6] at hv;obtain ⟨q,hq1,rfl⟩:=Option.map_eq_some_iff.1 hv;rw [Addr.add_lit,Z4,cell_of_row w b _ cs _ (0,0) f2];obtain ⟨u,q1,q2,q3⟩:=f6 0 (eK bs) rfl j (.pv (.int .u8 q.toNat)) (by rw [eK,Z6,hq1];rfl);rw [Nat.zero_mul,Z4] at q1;rw [q1,q3.int_inv];rfl)
  rwa [ZL,ZL,hlen] at h0
 have hrun:(execOp a.eval o).run P w=.ok (.value (.string ⟨bs.toArray⟩)) w:=by
  simp only [execOp,ho,e1,Sem.run_bind];rw [run_convert_bytes_string w S T e _ _ n hS he' hT,run_bytesToString w _ _ n _ hl,foldl_push_bytes];have e3:(bs.map fun b=>(b.toNat:Int)).map (fun n=>UInt8.ofNat n.toNat)=bs:=by
   rw [List.map_map]
   conv=>rhs;rw [← List.map_id bs]
   refine List.map_congr_left fun b _=>?_;simp
  rw [e3];simp [ByteArray.empty,ByteArray.emptyWithCapacity];rfl
 unfold Oper.wpW;rw [hrun];show K' (a.put o.dst _) w;rw [hd];exact hK _ _ (hk G hG _ w ⟨by rw [iB];exact hmk,by rw [sR];exact hsz,I,ι,hr,hs',fZ.put (d:=some d2) hr (Step.refl _ _ _ _) he (.pv (.str _)) (by rw [hsz];exact hdN)⟩ ro (gJ hro).2 Q hq)
end
end
end Go.Abs
