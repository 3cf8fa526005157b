/-
  Parts of the proof: rules of an abstract program logic, contracts of functions, plain laws. Conditions: each theorem's own.
-/
import Derived.Test.YtmdicgjnmfolfaaGreatDoorKR3M3
import Derived.Scope
import Derived.ChangeKeysEq
import Derived.Shelf.SortM.Plain
import Derived.Shelf.SortM.SortNone
import Derived.Ground.SlgmProg
import Derived.Shelf.Strconv.Itoa3
import Derived.Shelf.Bits.Mul64
import Derived.Shelf.LaysM
import Derived.Ground.NamesProg
import Derived.Shelf.Lays
import Derived.Laws.Bits64b
import Derived.Lib.AppendStr
set_option linter.unusedVariables false
set_option linter.unusedSimpArgs false
set_option maxRecDepth 100000
set_option maxHeartbeats 8000000
namespace Go.Proofs
open Tryz
theorem DG:type_of% call241:=call241
theorem xC:type_of% call242:=call242
theorem aPC:type_of% isAgg0:=isAgg0
theorem IM:type_of% isAgg122:=isAgg122
theorem dV:type_of% isAgg124:=isAgg124
theorem XL:type_of% isAgg125:=isAgg125
theorem cW:type_of% isAgg151:=isAgg151
theorem sJ:type_of% isAgg20:=isAgg20
theorem oT:type_of% isAgg4:=isAgg4
theorem aO6:type_of% sizeOf0:=sizeOf0
theorem ET:type_of% sizeOf122:=sizeOf122
theorem TQ:type_of% sizeOf125:=sizeOf125
theorem TP:type_of% sizeOf128:=sizeOf128
theorem aGM:type_of% underlying0:=underlying0
theorem jM:type_of% underlying122:=underlying122
theorem ER:type_of% underlying125:=underlying125
theorem vM:type_of% underlying128:=underlying128
theorem GY:type_of% underlying20:=underlying20
theorem dD:type_of% underlying4:=underlying4
theorem aIw:type_of% zeroValue0:=zeroValue0
theorem GU:type_of% zeroValue125:=zeroValue125
end Go.Proofs
namespace Go.Abs
section
theorem Clo.up{H H'}(d:∀i,(H.get i).isSome=true->(H'.get i).isSome=true){a}(h:Clo H a):Clo H' a:=by
 induction h with
 |any=>exact .any
 |pv p=>exact .pv p
 |pad rows i k=>exact .pad _ i k
 |ref h=>exact .ref (d _ h)
 |osl h=>exact .osl (d _ h)
 |clo h c=>exact .clo c
 |bnd h c=>exact .bnd c
 |agg h c=>exact .agg c
 |tup h c=>exact .tup c
 |mp h=>exact .mp (d _ h)
 |it h=>exact .it (d _ h)
 |yld h=>exact .yld (d _ h)
 |raw x ts=>exact .raw x _
 |osc h=>exact .osc (d _ h)
theorem Clo.app{D K}{a}(h:Clo K a):Clo (D++K) a:=h.up fun i hi=>by
 rw[fW]
 grind
theorem eI.app{D K}(c:∀p∈D,∀r∈p.2.rows,∀a∈r,Clo (D++K) a)(g:eI K):eI (D++K):=by
 intro id o b;rw[fW]at b;cases e:D.get _ with
 |some x =>
  rw[e]at b;cases b;exact c _ (dY e)
 |none =>
  rw[e]at b;exact fun r d a f=>(g _ o b r d a f).app
theorem Sub.front{D b K}(f:∀p∈D,K.get p.1=none)(c:∀p∈b,D.get p.1=some p.2):Sub (b++K) (D++K):=by
 intro id o a;rw[fW]at a |-;cases e:b.get _ with
 |some x =>
  rw[e]at a;cases a;rw[c _ (dY e)]
 | none =>
  rw[e]at a;cases d:D.get _ with
  |none=>exact a
  |some x =>
   have:=f _ (dY d);rw[this]at a;cases a
theorem JU.front{G0 D a K}(g:∀p∈a,D.get p.1=some p.2)(f:∀p∈D,G0.get p.1=none):JU G0 (a++K) (D++K):=by
 intro id d;have c:D.get id=none:=by
  cases e:D.get _ with
  |none=>rfl
  |some x =>
   have:=f _ (dY e);rw[this]at d;cases d
 have b:a.get id=none:=by
  cases e:a.get _ with
  |none=>rfl
  |some x =>
   have:=g _ (dY e);rw[c]at this;cases this
 rw[fW,fW,c,b]
theorem dA.front{G0}{E E'}{K}(D d)(z:EOk E (d++K) E')(j:∀p∈D,K.get p.1=none)(g:∀p∈d,D.get p.1=some p.2)(k:∀p∈d,∀r∈p.2.rows,∀a∈r,Clo (d++K) a)(y:eI K)
  (h:∀p∈D,G0.get p.1=none):dA G0 E (D++K) E' (d++K):=by
 intro G n N a w f;obtain ⟨I,q,l,e,m⟩:=f.rel;subst n;have b:=Sub.front j g;refine⟨f.defers,f.size,I,q,l.restrict b (eI.app k y),e.restrict b (JU.front g h),fun t v x=>?_⟩;obtain ⟨s,i⟩:=z.spec _ (gL x);obtain ⟨c,o,u⟩:=m t v s;exact⟨c,o,u.restrict b i⟩
section
variable{F:Fence}{n:Nat}{P:Program}{b:Frame}{a:Act}{k:List Item}{cs:List Frame}{w:World}{Q:Exit->Act->World->Prop}
theorem pK{c}:step P (lone (b.atR a (.code (.scope c)::k)) cs w)=.next (lone (b.atR a (.code c::.inScope c::k)) cs w) :=step_lone_go (rfl)
theorem N2{c}:step P (lone (b.atR a (.inScope c::k)) cs w)=.next (lone (b.atR a k) cs w) :=step_lone_go (rfl)
theorem C8{c}(h:c.wpIn F n P (Exit.noGoto Q) a w):(Code.scope c).wpIn F n P Q a w:=by
 intro b k cs r q o;have j:(lone (b.atR a (.code (.scope c)::k)) _ w).fenced P F:=fenced_calm q o rfl;obtain ⟨e,f,g,i,d⟩:=h b _ _ r q o;cases e with
 |normal=>exact⟨.normal,f,g,i,.head j pK (StepsIn.trans d (.one (fenced_calm q o rfl) N2))⟩
 | exit id =>
  have hx:exitTo _ (.inScope c::k)=exitTo id k:=rfl;exact⟨_,f,g,i,fun k' u=>.head j pK (d.1 _ (by simp_all)),
   fun p u=>let ⟨m,s,t⟩:=d.2 p (by simp_all);⟨m,s,.head j pK t⟩⟩
 |goto l=>exact i.elim
 |ret=>exact⟨_,f,g,i,.of_steps (.one j pK) d⟩
 |panic ch=>exact⟨_,f,g,i,.of_steps (.one j pK) d⟩
 |outgrown=>exact⟨_,f,g,i,.of_steps (.one j pK) d⟩
end
def aIz(Q:Exit->dB->aH->Prop):Exit->dB->aH->Prop
 |.goto _,_,_=>False
 |e,E,H=>Q e E H
theorem aCf{P}{G0}{N}{E}{H}{Q}{c}(h:gR P G0 N c (aIz Q) E H):gR P G0 N (.scope c) Q E H:=by intro G d a w i ro g;refine C8 (wpIn_mono (h G d a w i _ g) ?_);rintro e a' w' ⟨f,b,q,s⟩;cases e<;>first|exact⟨f,b,q,s⟩|exact q.elim
theorem vE{P}{G0}{N}{E}{H H2}{ops}{id n t}{d}{X}{Q}(h:gR P G0 N (.region id ops d) (fun e c H1=>e=.normal/\XD n t X E H2 c H1) E H)(g:Q .normal ((t,.pv (.bool X))::E) H2):gR P G0 N (.region id ops d) Q E H:=by intro G f a w k ro j;refine wpIn_mono (h G f a w k _ j) ?_;rintro e a' w' ⟨c,H1,⟨rfl,i⟩,b⟩;exact⟨_,_,g,(i.ent) G f N _ _ b⟩
def GO(H:aH):aH->Prop
 | []=>True
 |(_,o)::r=>(∀r∈o.rows,∀a∈r,Clo H a)/\GO H r
theorem GO.spec{H}:∀ {L},GO H L->∀p∈L,∀r∈p.2.rows,∀a∈r,Clo H a
 |(i,o)::L,h,p,b=>by
  rcases aP6.1 b with rfl|b
  ·exact h.1
  exact GO.spec h.2 p b
theorem eI.ofL{H}(h:GO H H):eI H:=fun _ _ a=>h.spec _ (dY a)
def lo(D:aH)(n:Nat):Prop:=∀p∈D,900<=p.1/\p.1<n
def clear(K:aH):Prop:=∀i,900<=i->i<1000->K.get i=none
theorem Fin.of_ent{G0 H H'}{r r'}(h:dA G0 [(0,r)] H [(0,r')] H'):Fin G0 H r H' r':=by
 intro G b I i w v f a h3;obtain ⟨_,_,I',ι',k1,k2,d⟩:=h G b 1 ⟨#[v],G.ds⟩ w ⟨rA.nil _ _ _,rfl,I,i,f,a,fun t x g=>by
  simp[dB.get]at g;cases e:Nat.beq 0 t with
  |true=>simp_all
  |false=>simp_all⟩
 obtain ⟨c,hc,hv⟩:=d 0 _ rfl
 grind
theorem Sub.front'{D b K}(f:∀p∈D,(b.get p.1).isSome=true\/K.get p.1=none)(c:∀p∈b,D.get p.1=some p.2):Sub (b++K) (D++K):=by
 intro id o a;rw[fW]at a |-;cases e:b.get _ with
 |some x =>
  rw[e]at a;cases a;rw[c _ (dY e)]
 | none =>
  rw[e]at a;cases d:D.get _ with
  |none=>exact a
  |some x =>
   rcases f _ (dY d)with h|h;all_goals simp_all
theorem JU.front'{G0 D a K}(c:∀p∈a,D.get p.1=some p.2)(b:∀p∈D,(a.get p.1).isSome=true\/G0.get p.1=none):JU G0 (a++K) (D++K):=by
 intro id hi;rw[fW,fW];cases e:a.get _ with
 |some x=>rw[c _ (dY e)]
 | none =>
  cases d:D.get _ with
  |none=>rfl
  |some x =>
   rcases b _ (dY d)with h|h;all_goals simp_all
theorem Fin.front'{G0 K}{r}(D d)(k:Clo (d++K) r)(i:∀p∈D,(d.get p.1).isSome=true\/K.get p.1=none)(e:∀p∈d,D.get p.1=some p.2)(j:∀p∈d,∀r∈p.2.rows,∀a∈r,Clo (d++K) a)(o:eI K)
  (f:∀p∈D,(d.get p.1).isSome=true\/G0.get p.1=none):Fin G0 (D++K) r (d++K) r:=by
 intro G g I l w v m n h;subst g;have b:=Sub.front' i e;exact⟨I,l,m.restrict b (eI.app j o),n.restrict b (JU.front' e f),h.restrict b k⟩
theorem Fin.get'{G0 H H'}{r}(a:∀j,H'.get j=H.get j):Fin G0 H r H' r:=Fin.of_ent (dA.get' ⟨⟨_,rfl,rfl⟩,trivial⟩ a)
end
end Go.Abs
namespace Go.Proofs.YtmdicgjnmfolfaaGreatDoor
open Go.Proofs.Tryz
open Go.Abs
variable{α:Type}
theorem K7:∀ {a b:List GTag},oX a b=true↔a=b
 | [],[]=>by simp[oX]
 | [],_::_=>by simp[oX]
 |_::_,[]=>by simp[oX]
 |x::a,y::b=>by rw[oX,aP3,PA,K7];simp
theorem aNy(a0 b0 a1 b1 a2 b2 a3 b3:ByteArray)(w:World):(Op.equalIn 10000 274 (.agg [.string a0,.string a1,.string a2,.string a3].toArray) (.agg [.string b0,.string b1,.string b2,.string b3].toArray)).run Tryz.prog w =
  .ok (decide (a0=b0)&&decide (a1=b1)&&decide (a2=b2)&&decide (a3=b3)) w:=by
 obtain ⟨i,hi⟩:=info_of_underlying underlying9;refine(run_equalIn_array (P:=Tryz.prog) w 9999 _ _ underlying274 hi).trans ?_;have hs:∀(d:Nat) (a b:ByteArray) (w:World),(Op.equalIn (d+1) 9 (.string a) (.string b)).run Tryz.prog w=.ok (decide (a=b)) w:=fun d a b w=>by rw[run_equalIn_string w d 9 a b underlying9,yB]
 have hc:Tryz.prog.cellsOf 9=1:=by kernel_rfl
 by_cases e0:a0=b0<;>by_cases e1:a1=b1<;>by_cases e2:a2=b2<;>by_cases e3:a3=b3<;>simp[List.range_succ,Op.eqItems,part,hc,hs,isAgg9,e0,e1,e2,e3]
theorem WK(a b:List ByteArray)(H:aH)(ha:a.length<4611686018427387904):aI Tryz.prog 268 [.pv (bA a),.pv (bA b)] H (fun r H'=>r=bv (decide (a=b))/\H'=H):=by
 refine Pu ?_;have hma:(a.map encStr).length=a.length:=aPU _;have hmb:(b.map encStr).length=b.length:=aPU _;refine Bd func268 rfl ntmps268<|Sr<|Dd aL<|Zz<|Sq<|Sr<|Dd aE<|Dd (fE aD)<|Dd aE<|Dd (fE aD)<|Dd xY<|Zz ?_;refine Cn ?_ ?_<;>intro hc1
 ·have hne:¬ a=b:=by
   intro e;subst e;simp at hc1
  refine Sr<|Dd aL<|Zz<|aB<|Rt ?_;exact⟨by rw[decide_eq_false hne],rfl⟩
 have heq:a.length=b.length:=by
  simp only[hma,hmb,Bool.not_eq_false',aP1]at hc1;omega
 refine aC<|Sq<|Sr<|Dd aE<|Dd (fE aD)<|Dd aE<|Zz<|aG ?_;refine bT (σ:=Nat) (fun k=>([(0,.pv (bA a)),(1,.pv (bA b)),(12,iv ((a.map encStr).length:Int)),(13,iv (k:Int))],[])) (fun k=>k<=a.length/\a.take k=b.take k) (fun k=>a.length - k) 0 ⟨by omega,by simp⟩ ?_ ?_
 ·exact E0
 rintro k ⟨hk,hall⟩;refine Sr<|Dd cZ<|Zz<|Sq ?_;refine Cn ?_ ?_<;>intro hc2
 ·have hlt:k<a.length:=by have:=aPQ hc2;omega
  obtain ⟨x,hx⟩:=aU hlt;obtain ⟨y,hy⟩:=aU (l:=b) (k:=k) (by omega);have hi:=cJ (f:=encStr) hx;have hi2:=cJ (f:=encStr) hy;refine aC<|Sq<|aG<|Sr<|Dd aE<|Dd aL<|Zz<|Sq<|aN follows<|Cq aE<|Cq aE<|Cq (mE cB)<|Cq (iJ isAgg9)<|Cq aE<|Cq aE<|Cq (mE cB)<|Cq (iJ isAgg9)<|Cq IU<|bL<|Kr ?_;refine Cn ?_ ?_<;>intro hc3
  ·have ht:¬ x=y:=by
    have h:(!decide (x=y))=true:=hc3
    simpa using h
   have hne:¬ a=b:=by
    intro e;subst e;rw[hx]at hy;exact ht (Option.some.inj hy)
   refine Sr<|Dd aL<|Zz<|aB<|Rt ?_;exact⟨by rw[decide_eq_false hne],rfl⟩
  have ht:x=y:=by
   have h:(!decide (x=y))=false:=hc3
   simpa using h
  refine aC<|Rg<|Dd mI<|Dd aE<|Zz ?_;refine⟨k+1,⟨by omega,?_⟩,by omega,E0⟩;rw[List.take_add_one,List.take_add_one,hx,hy,hall,ht]
 have hge:k=a.length:=by have:=aPR hc2;omega
 have he:a=b:=by
  have h:=hall;rw[hge,List.take_length,heq,List.take_length]at h;exact h
 refine aY<|Sr<|Dd aL<|Zz<|aB<|Rt ?_;exact⟨by rw[decide_eq_true he],rfl⟩
def qL(a b:GObj):Bool:=((decide (a.id=b.id)&&decide (a.kind=b.kind)&&(decide (a.x=b.x)&&decide (a.y=b.y)))&&decide (a.refs=b.refs))&&oX a.tags b.tags
theorem AB{a b:GObj}:qL a b=true↔a=b:=by
 cases a;cases b;simp only[qL,aP3,aP1,K7,GObj.mk.injEq];constructor
 ·rintro⟨⟨⟨⟨a1,a2⟩,a3,a4⟩,a5⟩,a6⟩;exact⟨a1,a2,a3,a4,a5,a6⟩
 rintro⟨a1,a2,a3,a4,a5,a6⟩;exact⟨⟨⟨⟨a1,a2⟩,a3,a4⟩,a5⟩,a6⟩
def okS(o:GObj):Prop:=o.refs.length<4611686018427387904/\o.tags.length<4611686018427387904
theorem aHK(a b:GObj)(H:aH)(ha:okS a):aI Tryz.prog 269 [av (bS a),av (bS b)] H (fun r H'=>r=bv (qL a b)/\H'=H):=by
 refine Pu ?_;refine Bd func269 rfl ntmps269<|Sr<|Dd (by exact cD (id:=2) rfl rfl rfl rfl rfl)<|Dd (by exact cD (id:=3) rfl rfl rfl rfl rfl)<|Dd aL<|Zz<|Sq ?_;refine aT (t:=4) (n:=38) (X:=qL a b) ?_ ?_
 ·all_goals refine Dd (aS nU) ?_
  all_goals refine Dd (bC isAgg9)<|Dd (aS nU)<|Dd (bC isAgg9)<|Dd zE<|Dm ?_
  all_goals refine Sp 10 (fun h10=>?_) fun h10=>?_
  all_goals try contradiction
  all_goals first|refine Fo<|Fo<|Fo<|Fo<|Fo ?_|refine On (aS dZ)<|On (bC isAgg3)<|On (aS dZ)<|On (bC isAgg3)<|On cK ?_
  all_goals refine Dd cG<|Dm ?_
  all_goals refine Sp 17 (fun h17=>?_) fun h17=>?_
  all_goals try contradiction
  all_goals first|refine Fo<|Fo<|Fo<|Fo<|Fo ?_|refine On (aS lV)<|On (by exact aM rfl dS sizeOf68 rfl rfl rfl rfl (by simp only[Zl,bJ,bS,encStr,aW];rfl) rfl)<|On (aS lV)<|On (by exact aM rfl dS sizeOf68 rfl rfl rfl rfl (by simp only[Zl,bJ,bS,encStr,aW];rfl) rfl)<|On (by exact xX rfl rfl rfl rfl rfl gZ (R1 _ _ _ _)) ?_
  all_goals refine Dd cG<|Dm ?_
  all_goals refine Sp 24 (fun h24=>?_) fun h24=>?_
  all_goals try contradiction
  all_goals first|refine Fo<|Fo<|Fo<|Fo<|Fo ?_|refine On (aS dT)<|On (bC aF)<|On (aS dT)<|On (bC aF)<|On (by exact aA rfl rfl call268 rfl (WK a.refs b.refs _ ha.1)) ?_
  all_goals refine Dd cG<|Dm ?_
  all_goals refine Sp 31 (fun h31=>?_) fun h31=>?_
  all_goals try contradiction
  all_goals first|refine Fo<|Fo<|Fo<|Fo<|Fo ?_|refine On (aS eX)<|On (bC cQ)<|On (aS eX)<|On (bC cQ)<|On (by exact aA rfl rfl call273 rfl (WH a.tags b.tags _ ha.2)) ?_
  all_goals refine Dd cG<|Da ?_
  all_goals(exact⟨⟨_,rfl,by(simp only[qL, *];rfl)⟩,rfl,rfl,rfl⟩)
 exact aB<|Rt<|Qq
def kV(a b:GEdit):Bool:=((((decide (a.refs=b.refs)&&qL a.obj b.obj)&&decide (a.op=b.op))&&(decide (a.id=b.id)&&decide (a.other=b.other)&&decide (a.node=b.node)&&decide (a.key=b.key)))&&decide (a.val=b.val))&&(decide (a.x=b.x)&&decide (a.y=b.y))
theorem nM{a b:GEdit}:kV a b=true↔a=b:=by
 cases a;cases b;simp only[kV,aP3,aP1,AB,GEdit.mk.injEq];constructor
 ·rintro⟨⟨⟨⟨⟨a1,a2⟩,a3⟩,⟨⟨a4,a5⟩,a6⟩,a7⟩,a8⟩,a9,a10⟩;exact⟨a3,a4,a5,a6,a9,a10,a7,a8,a1,a2⟩
 rintro⟨a3,a4,a5,a6,a9,a10,a7,a8,a1,a2⟩;exact⟨⟨⟨⟨⟨a1,a2⟩,a3⟩,⟨⟨a4,a5⟩,a6⟩,a7⟩,a8⟩,a9,a10⟩
theorem zF(a b:GEdit)(H:aH)(h1:a.refs.length<4611686018427387904)(h2:okS a.obj):aI Tryz.prog 242 [av (aW a),av (aW b)] H (fun r H'=>r=bv (kV a b)/\H'=H):=by
 refine Pu ?_;refine Bd func242 rfl ntmps242<|Sr<|Dd (by exact cD (id:=2) rfl rfl rfl rfl rfl)<|Dd (by exact cD (id:=3) rfl rfl rfl rfl rfl)<|Dd aL<|Zz<|Sq ?_;refine aT (t:=5) (n:=14) (X:=decide (a.refs=b.refs)&&qL a.obj b.obj) ?_ ?_
 ·all_goals refine Dd (aS eV) ?_
  all_goals refine Dd (bC aF)<|Dd (aS eV)<|Dd (bC aF)<|Dd (by exact aA rfl rfl call268 rfl (WK a.refs b.refs _ h1))<|Dm ?_
  all_goals refine Sp 11 (fun h11=>?_) fun h11=>?_
  all_goals try contradiction
  all_goals first|refine Fo<|Fo<|Fo<|Fo<|Fo ?_|refine On (aS nT)<|On (by exact aM rfl cW sizeOf151 rfl rfl rfl rfl (by simp only[Zl,bJ,bS,encStr,aW];rfl) rfl)<|On (aS nT)<|On (by exact aM rfl cW sizeOf151 rfl rfl rfl rfl (by simp only[Zl,bJ,bS,encStr,aW];rfl) rfl)<|On (by exact aA rfl rfl call269 rfl (aHK a.obj b.obj _ h2)) ?_
  all_goals refine Dd cG<|Da ?_
  all_goals(exact⟨⟨_,rfl,by(simp only[*];rfl)⟩,rfl,rfl,rfl⟩)
 refine Sq ?_;refine aT (t:=4) (n:=48) (X:=kV a b) ?_ ?_
 ·all_goals refine Dd aE ?_
  all_goals refine Dm ?_
  all_goals refine Sp 19 (fun h19=>?_) fun h19=>?_
  all_goals try contradiction
  all_goals first|refine Fo<|Fo<|Fo<|Fo<|Fo ?_|refine On (aS fZ)<|On (bC isAgg3)<|On (aS fZ)<|On (bC isAgg3)<|On cK ?_
  all_goals refine Dd cG<|Dm ?_
  all_goals refine Sp 26 (fun h26=>?_) fun h26=>?_
  all_goals try contradiction
  all_goals first|refine Fo<|Fo<|Fo<|Fo<|Fo<|Fo<|Fo<|Fo<|Fo<|Fo<|Fo<|Fo<|Fo<|Fo<|Fo<|Fo<|Fo<|Fo<|Fo ?_|refine On (aS gP)<|On (bC isAgg9)<|On (aS gV)<|On (bC isAgg9)<|On (aS lU)<|On (bC isAgg9)<|On (aS jR)<|On (bC isAgg9)<|On (by exact vS rfl aJ6 rfl rfl)<|On (aS gP)<|On (bC isAgg9)<|On (aS gV)<|On (bC isAgg9)<|On (aS lU)<|On (bC isAgg9)<|On (aS jR)<|On (bC isAgg9)<|On (by exact vS rfl aJ6 rfl rfl)<|On (by exact xX rfl rfl rfl rfl rfl eqGuardType274 (aNy a.id b.id a.other b.other a.node b.node a.key b.key)) ?_
  all_goals refine Dd cG<|Dm ?_
  all_goals refine Sp 47 (fun h47=>?_) fun h47=>?_
  all_goals try contradiction
  all_goals first|refine Fo<|Fo<|Fo<|Fo<|Fo ?_|refine On (aS kD)<|On (bC isAgg9)<|On (aS kD)<|On (bC isAgg9)<|On zE ?_
  all_goals refine Dd cG<|Dm ?_
  all_goals refine Sp 54 (fun h54=>?_) fun h54=>?_
  all_goals try contradiction
  all_goals first|refine Fo<|Fo<|Fo<|Fo<|Fo ?_|refine On (aS gO)<|On (by exact aM rfl dS sizeOf68 rfl rfl rfl rfl (by simp only[Zl,bJ,bS,encStr,aW];rfl) rfl)<|On (aS gO)<|On (by exact aM rfl dS sizeOf68 rfl rfl rfl rfl (by simp only[Zl,bJ,bS,encStr,aW];rfl) rfl)<|On (by exact xX rfl rfl rfl rfl rfl gZ (R1 _ _ _ _)) ?_
  all_goals refine Dd cG<|Da ?_
  all_goals(exact⟨⟨_,rfl,by(simp only[kV, *];rfl)⟩,rfl,rfl,rfl⟩)
 exact aB<|Rt<|Qq
def atP{α:Type}(l:List α)(p:α->Bool)(k:Nat):Bool:=match l[k]? with
 |some s=>p s
 |none=>false
theorem NK{l:List α}{p:α->Bool}{k:Nat}{s:α}(h:l[k]?=some s):atP l p k=p s:=by rw[atP,h]
theorem N4(l:List α)(p:α->Bool):(List.range l.length).any (atP l p)=l.any p:=by
 rw[Bool.eq_iff_iff,List.any_eq_true,List.any_eq_true];constructor
 ·rintro⟨k,hk,h⟩;have hlt:=List.mem_range.1 hk;rw[NK (aPZ hlt)]at h;exact⟨_,List.getElem_mem hlt,h⟩
 rintro⟨x,hx,h⟩;obtain ⟨k,hk⟩:=aPf.1 hx;exact⟨k,List.mem_range.2 (aPY.1 hk).1,by rw[NK hk];exact h⟩
theorem aE9(s:ByteArray)(H:aH)(hs:s.size<4611686018427387904):aI Tryz.prog 267 [sv s] H (fun r H'=>r=bv (!bM s)/\H'=H):=by refine Pu ?_;exact Bd func267 rfl ntmps267<|Sr<|Dd aL<|Zz<|Sr<|Dd aE<|Dd (by exact aA rfl rfl oU rfl (zO s _ hs))<|Dd iQ<|Dd aL<|Zz<|aB<|Rt<|Qq
theorem SQ(l:List ByteArray)(H:aH)(hl:l.length<4611686018427387904)(hs:∀s∈l,s.size<4611686018427387904):aI Tryz.prog 241 [.pv (bA l)] H (fun r H'=>r=bv (l.all bM)/\H'=H):=by
 refine Pu ?_;have e:l.all bM=!(List.range l.length).any (atP l (fun s=>!bM s)):=by
  rw[N4 l (fun s=>!bM s),List.any_eq_not_all_not];simp
 rw[e];exact Bd func241 rfl ntmps241<|Sr<|Dd aL<|Zz<|Sr<|Dd aE<|Dd (by exact aA rfl rfl TT rfl (rT (.pv (.fn 267)) l (atP l (fun s=>!bM s)) (fun _=>[]) hl (fun k s hk=>dK.fn call267 (by rw[NK hk];exact aE9 s _ (hs s (aP4 hk))))))<|Dd iQ<|Dd aL<|Zz<|aB<|Rt<|Qq
def DI(e:GEdit):GEdit :=if e.op=1 then⟨e.op,sNil,sNil,sNil,0,0,sNil,sNil,[],e.obj⟩
 else if e.op=2 then⟨e.op,e.id,sNil,sNil,e.x,e.y,sNil,sNil,[],zObj⟩
 else if e.op=3 then⟨e.op,e.id,sNil,sNil,0,0,e.key,e.val,[],zObj⟩
 else if e.op=4 then⟨e.op,e.id,sNil,sNil,0,0,sNil,sNil,e.refs,zObj⟩
 else if e.op=5 then⟨e.op,e.id,sNil,sNil,0,0,sNil,sNil,[],zObj⟩
 else if e.op=6 then⟨e.op,e.id,e.other,e.node,0,0,sNil,sNil,[],zObj⟩
 else⟨e.op,e.id,e.other,sNil,0,0,sNil,sNil,[],zObj⟩
def qW(e:GEdit):Bool :=if e.op=1 then lH e.obj
 else bM e.id&&(if e.op=2 then onP e.x e.y else if e.op=3 then bM e.key&&decide ((e.val.size:Int)<=200)
  else if e.op=4 then decide ((0:Int)<(e.refs.length:Int))&&decide ((e.refs.length:Int)<=2000)&&e.refs.all bM
  else if e.op=5 then true else if e.op=6 then bM e.node&&bM e.other else bM e.other)
def dU(e:GEdit):Bool:=(decide (1<=e.op)&&decide (e.op<=7))&&(qW e&&kV (DI e) e)
def MB(e:GEdit):Prop:=(e.id.size<4611686018427387904/\e.other.size<4611686018427387904/\e.node.size<4611686018427387904/\e.key.size<4611686018427387904)/\(e.refs.length<4611686018427387904/\∀s∈e.refs,s.size<4611686018427387904)/\okO e.obj
theorem aK7{o:GObj}(h:okO o):okS o:=⟨h.2.2.1,h.2.1.1⟩
theorem P0:okS zObj:=⟨by decide,by decide⟩
theorem aHr(s:ByteArray)(H:aH)(hs:s.size<4611686018427387904):aI Tryz.prog 241 [.pv (bA [s])] H (fun r H'=>r=bv (bM s)/\H'=H):=by
 have h:=SQ [s] H (by show 1<_;omega) (by simpa using hs)
 simpa using h
theorem aOP(s t:ByteArray)(H:aH)(hs:s.size<4611686018427387904)(ht:t.size<4611686018427387904):aI Tryz.prog 241 [.pv (bA [s,t])] H (fun r H'=>r=bv (bM s&&bM t)/\H'=H):=by
 have h:=SQ [s,t] H (by show 2<_;omega) (by simpa using ⟨hs,ht⟩)
 simpa using h
theorem WM(e:GEdit)(H:aH)(he:MB e):aI Tryz.prog 202 [av (aW e)] H (fun r H'=>r=bv (dU e)/\H'=H):=by
 refine Pu ?_;obtain ⟨⟨h1,h2,h3,h4⟩,⟨h5,h6⟩,h7⟩:=he;have hrl:(e.refs.map encStr).length=e.refs.length:=aPU _;refine Bd func202 rfl ntmps202<|Sr<|Dd (by exact cD (id:=1) rfl rfl rfl rfl rfl)<|Dd aL<|Zz<|Sr<|Dd (aS fZ)<|Dd (bC isAgg3)<|Dd (aS gP)<|Dd (bC isAgg9)<|Dd (vC DV)<|Dd (by exact bW (id:=3) rfl O0 rfl rfl)<|Uu (lG aX)<|Zz<|Sr<|Dd (aS gP)<|Dd (bC isAgg9)<|Dd (by exact aR ([e.id].map encStr) rfl cB rfl rfl rfl rfl rfl (by simp[encStr]))<|Dd (by exact aA rfl rfl DG rfl (aHr e.id _ h1))<|Dd aL<|Zz<|Sq<|Sr<|Dd (aS fZ)<|Dd (bC isAgg3)<|Zz<|aG<|Sr<|Dd cK<|Da ?_;refine Cn ?_ ?_<;>intro hc1
 ·have ho:e.op=1:=aPQ hc1;have hx:DI e=⟨e.op,sNil,sNil,sNil,0,0,sNil,sNil,[],e.obj⟩:=by rw[DI,aPT ho]
  have hk:qW e=lH e.obj:=by rw[qW,aPT ho]
  have hv:dU e=(lH e.obj&&kV ⟨e.op,sNil,sNil,sNil,0,0,sNil,sNil,[],e.obj⟩ e):=by rw[dU,hx,hk,ho];rfl
  refine aN follows<|Cr [1] (fun _ h=>fh nT h)<|Cr [1] (fun H1 hH=>by exact aM rfl cW sizeOf151 rfl ((hH _ rfl).trans rfl) rfl rfl (by simp only[Zl,bJ,bS,encStr,aW,zObj];rfl) rfl)<|Cr [1] (fun _ h=>fh nT h)<|Cr [1] (fun H1 hH=>by exact aM rfl cW sizeOf151 rfl ((hH _ rfl).trans rfl) rfl rfl (by simp only[Zl,bJ,bS,encStr,aW,zObj];rfl) rfl)<|Cr [] (fun H1 hH=>by exact aA rfl rfl call233 rfl (ME e.obj _ h7))<|Cr [3] (fun _ h=>fh gP h)<|Cp [3] (fun H1 hH=>by exact bH rfl sizeOf9 rfl rfl rfl ((hH _ rfl).trans rfl) rfl rfl (aP7 rfl) rfl rfl)<|Cr [3] (fun _ h=>fh nT h)<|Cp [3] (fun H1 hH=>by exact lI rfl sizeOf151 rfl rfl rfl rfl ((hH _ rfl).trans rfl) rfl rfl (aP7 rfl) rfl rfl)<|Cr [] (fun _ _=>aL) ?_;refine bL<|Kr<|Sq ?_;refine aT (t:=2) (n:=8) (X:=lH e.obj&&kV ⟨e.op,sNil,sNil,sNil,0,0,sNil,sNil,[],e.obj⟩ e) ?_ ?_
  ·all_goals refine Dd aE ?_
   all_goals refine Dm ?_
   all_goals refine Sp 127 (fun h127=>?_) fun h127=>?_
   all_goals try contradiction
   all_goals first|refine Fo<|Fo<|Fo ?_|refine On (by exact aM rfl cA aX rfl rfl rfl rfl (by simp only[Zl,bJ,bS,encStr,aW,zObj];rfl) rfl)<|On (by exact aM rfl cA aX rfl rfl rfl rfl (by simp only[Zl,bJ,bS,encStr,aW,zObj];rfl) rfl)<|On (by exact aA rfl rfl xC rfl (zF ⟨e.op,sNil,sNil,sNil,0,0,sNil,sNil,[],e.obj⟩ e _ (by show 0<_;omega) (aK7 h7))) ?_
   all_goals refine Dd cG<|Da ?_
   all_goals(exact⟨⟨_,rfl,by(simp_all[lH];done)⟩,rfl,rfl,rfl⟩)
  refine aB<|Rt ?_;exact⟨by rw[hv],rfl⟩
 have ho1:¬ e.op=1:=aPR hc1;refine Sr<|Dd cK<|Da ?_;refine Cn ?_ ?_<;>intro hc2
 ·have ho:e.op=2:=aPQ hc2;have hx:DI e=⟨e.op,e.id,sNil,sNil,e.x,e.y,sNil,sNil,[],zObj⟩:=by rw[DI,aPS ho1,aPT ho]
  have hk:qW e=(bM e.id&&onP e.x e.y):=by rw[qW,aPS ho1,aPT ho]
  have hb:(bM e.id&&decide (0<=min e.x e.y)&&decide (max e.x e.y<1048576))=(bM e.id&&onP e.x e.y):=by rw[onP,Bool.and_assoc]
  have hv:dU e=((bM e.id&&decide (0<=min e.x e.y)&&decide (max e.x e.y<1048576))&&kV ⟨e.op,e.id,sNil,sNil,e.x,e.y,sNil,sNil,[],zObj⟩ e):=by rw[dU,hx,hk,hb,ho];rfl
  apply vE (t:=4) (n:=25) (X:=bM e.id&&decide (0<=min e.x e.y)&&decide (max e.x e.y<1048576))
  ·cases hg30:(bM e.id:Bool)
   ·refine aN follows<|Cr [1] (fun _ h=>fh gO h)<|Cr [1] (fun H1 hH=>by exact aM rfl dS sizeOf68 rfl ((hH _ rfl).trans rfl) rfl rfl (by simp only[Zl,bJ,bS,encStr,aW,zObj];rfl) rfl)<|Cr [] (fun _ _=>aE)<|Cr [] (fun _ _=>aE)<|Ot<|Ot<|Ot<|Ot<|Ot<|Ot<|Ot<|Ot<|Cr [] (fun _ _=>cG)<|Cr [] (fun _ _=>aE)<|Ot<|Ot<|Ot<|Ot<|Ot<|Ot<|Ot<|Ot<|Cr [] (fun _ _=>cG)<|Cr [3] (fun _ h=>fh gO h)<|Cp [3] (fun H1 hH=>by exact lI rfl sizeOf68 rfl rfl rfl rfl ((hH _ rfl).trans rfl) rfl rfl (aP7 rfl) rfl rfl)<|Cr [] (fun _ _=>aL)<|bL<|Kr ?_;exact⟨rfl,⟨_,rfl,by rfl⟩,rfl,rfl,rfl⟩
   cases hg40:(decide (0<=min e.x e.y):Bool)
   ·refine aN follows<|Cr [1] (fun _ h=>fh gO h)<|Cr [1] (fun H1 hH=>by exact aM rfl dS sizeOf68 rfl ((hH _ rfl).trans rfl) rfl rfl (by simp only[Zl,bJ,bS,encStr,aW,zObj];rfl) rfl)<|Cr [] (fun _ _=>aE)<|Cr [] (fun _ _=>aE) ?_;refine bF (r:=⟨_,some [1],[]⟩) (cI rfl rfl rfl (by rfl) (fun H1 hH=>by exact(by exact bG rfl gO rfl ((hH _ rfl).trans rfl) rfl rfl))) rfl ?_;refine bF (r:=⟨_,some [1],[]⟩) (cI rfl rfl rfl (by rfl) (fun H1 hH=>by exact(by exact bG rfl pC rfl ((hH _ rfl).trans rfl) rfl rfl))) rfl ?_;refine bF (r:=⟨_,some [1],[]⟩) (cI rfl rfl rfl (by rfl) (fun H1 hH=>by exact(by exact aK rfl isAgg3 rfl ((hH _ rfl).trans rfl) rfl rfl rfl))) rfl ?_;refine bF (r:=⟨_,some [1],[]⟩) (cI rfl rfl rfl (by rfl) (fun H1 hH=>by exact(by exact bG rfl gO rfl ((hH _ rfl).trans rfl) rfl rfl))) rfl ?_;refine bF (r:=⟨_,some [1],[]⟩) (cI rfl rfl rfl (by rfl) (fun H1 hH=>by exact(by exact bG rfl pB rfl ((hH _ rfl).trans rfl) rfl rfl))) rfl ?_;refine bF (r:=⟨_,some [1],[]⟩) (cI rfl rfl rfl (by rfl) (fun H1 hH=>by exact(by exact aK rfl isAgg3 rfl ((hH _ rfl).trans rfl) rfl rfl rfl))) rfl ?_;refine bF (r:=⟨_,some [],[]⟩) (cI rfl rfl rfl (by rfl) (fun H1 hH=>by exact KA rfl rfl rfl rfl)) rfl ?_;refine bF (r:=⟨_,some [],[]⟩) (cI rfl rfl rfl (by rfl) (fun H1 hH=>by exact mQ rfl rfl rfl)) rfl ?_;refine Cr [] (fun _ _=>cG)<|Cr [] (fun _ _=>aE)<|Ot<|Ot<|Ot<|Ot<|Ot<|Ot<|Ot<|Ot<|Cr [] (fun _ _=>nX)<|Cr [3] (fun _ h=>fh gO h)<|Cp [3] (fun H1 hH=>by exact lI rfl sizeOf68 rfl rfl rfl rfl ((hH _ rfl).trans rfl) rfl rfl (aP7 rfl) rfl rfl)<|Cr [] (fun _ _=>aL)<|bL<|Kr ?_;exact⟨rfl,⟨_,rfl,by rfl⟩,rfl,rfl,rfl⟩
   refine aN follows<|Cr [1] (fun _ h=>fh gO h)<|Cr [1] (fun H1 hH=>by exact aM rfl dS sizeOf68 rfl ((hH _ rfl).trans rfl) rfl rfl (by simp only[Zl,bJ,bS,encStr,aW,zObj];rfl) rfl)<|Cr [] (fun _ _=>aE)<|Cr [] (fun _ _=>aE) ?_;refine bF (r:=⟨_,some [1],[]⟩) (cI rfl rfl rfl (by rfl) (fun H1 hH=>by exact(by exact bG rfl gO rfl ((hH _ rfl).trans rfl) rfl rfl))) rfl ?_;refine bF (r:=⟨_,some [1],[]⟩) (cI rfl rfl rfl (by rfl) (fun H1 hH=>by exact(by exact bG rfl pC rfl ((hH _ rfl).trans rfl) rfl rfl))) rfl ?_;refine bF (r:=⟨_,some [1],[]⟩) (cI rfl rfl rfl (by rfl) (fun H1 hH=>by exact(by exact aK rfl isAgg3 rfl ((hH _ rfl).trans rfl) rfl rfl rfl))) rfl ?_;refine bF (r:=⟨_,some [1],[]⟩) (cI rfl rfl rfl (by rfl) (fun H1 hH=>by exact(by exact bG rfl gO rfl ((hH _ rfl).trans rfl) rfl rfl))) rfl ?_;refine bF (r:=⟨_,some [1],[]⟩) (cI rfl rfl rfl (by rfl) (fun H1 hH=>by exact(by exact bG rfl pB rfl ((hH _ rfl).trans rfl) rfl rfl))) rfl ?_;refine bF (r:=⟨_,some [1],[]⟩) (cI rfl rfl rfl (by rfl) (fun H1 hH=>by exact(by exact aK rfl isAgg3 rfl ((hH _ rfl).trans rfl) rfl rfl rfl))) rfl ?_;refine bF (r:=⟨_,some [],[]⟩) (cI rfl rfl rfl (by rfl) (fun H1 hH=>by exact KA rfl rfl rfl rfl)) rfl ?_;refine bF (r:=⟨_,some [],[]⟩) (cI rfl rfl rfl (by rfl) (fun H1 hH=>by exact mQ rfl rfl rfl)) rfl ?_;refine Cr [] (fun _ _=>cG)<|Cr [] (fun _ _=>aE) ?_;refine bF (r:=⟨_,some [1],[]⟩) (cI rfl rfl rfl (by assumption) (fun H1 hH=>by exact(by exact bG rfl gO rfl ((hH _ rfl).trans rfl) rfl rfl))) rfl ?_;refine bF (r:=⟨_,some [1],[]⟩) (cI rfl rfl rfl (by assumption) (fun H1 hH=>by exact(by exact bG rfl pC rfl ((hH _ rfl).trans rfl) rfl rfl))) rfl ?_;refine bF (r:=⟨_,some [1],[]⟩) (cI rfl rfl rfl (by assumption) (fun H1 hH=>by exact(by exact aK rfl isAgg3 rfl ((hH _ rfl).trans rfl) rfl rfl rfl))) rfl ?_;refine bF (r:=⟨_,some [1],[]⟩) (cI rfl rfl rfl (by assumption) (fun H1 hH=>by exact(by exact bG rfl gO rfl ((hH _ rfl).trans rfl) rfl rfl))) rfl ?_;refine bF (r:=⟨_,some [1],[]⟩) (cI rfl rfl rfl (by assumption) (fun H1 hH=>by exact(by exact bG rfl pB rfl ((hH _ rfl).trans rfl) rfl rfl))) rfl ?_;refine bF (r:=⟨_,some [1],[]⟩) (cI rfl rfl rfl (by assumption) (fun H1 hH=>by exact(by exact aK rfl isAgg3 rfl ((hH _ rfl).trans rfl) rfl rfl rfl))) rfl ?_;refine bF (r:=⟨_,some [],[]⟩) (cI rfl rfl rfl (by assumption) (fun H1 hH=>by exact aHg rfl rfl rfl rfl)) rfl ?_;refine bF (r:=⟨_,some [],[]⟩) (cI rfl rfl rfl (by assumption) (fun H1 hH=>by exact qC rfl rfl rfl)) rfl ?_;refine Cr [] (fun _ _=>wQ)<|Cr [3] (fun _ h=>fh gO h)<|Cp [3] (fun H1 hH=>by exact lI rfl sizeOf68 rfl rfl rfl rfl ((hH _ rfl).trans rfl) rfl rfl (aP7 rfl) rfl rfl)<|Cr [] (fun _ _=>aL)<|bL<|Kr ?_;exact⟨rfl,⟨_,rfl,by rfl⟩,rfl,rfl,rfl⟩
  refine Sq ?_;refine aT (t:=2) (n:=8) (X:=(bM e.id&&decide (0<=min e.x e.y)&&decide (max e.x e.y<1048576))&&kV ⟨e.op,e.id,sNil,sNil,e.x,e.y,sNil,sNil,[],zObj⟩ e) ?_ ?_
  ·all_goals refine Dd aE ?_
   all_goals refine Dm ?_
   all_goals refine Sp 127 (fun h127=>?_) fun h127=>?_
   all_goals try contradiction
   all_goals first|refine Fo<|Fo<|Fo ?_|refine On (by exact aM rfl cA aX rfl rfl rfl rfl (by simp only[Zl,bJ,bS,encStr,aW,zObj];rfl) rfl)<|On (by exact aM rfl cA aX rfl rfl rfl rfl (by simp only[Zl,bJ,bS,encStr,aW,zObj];rfl) rfl)<|On (by exact aA rfl rfl xC rfl (zF ⟨e.op,e.id,sNil,sNil,e.x,e.y,sNil,sNil,[],zObj⟩ e _ (by(show 0<_;omega)) P0)) ?_
   all_goals refine Dd cG<|Da ?_
   all_goals(exact⟨⟨_,rfl,by(rw[h127];rfl)⟩,rfl,rfl,rfl⟩)
  refine aB<|Rt ?_;exact⟨by rw[hv],rfl⟩
 have ho2:¬ e.op=2:=aPR hc2;refine Sr<|Dd cK<|Da ?_;refine Cn ?_ ?_<;>intro hc3
 ·have ho:e.op=3:=aPQ hc3;have hx:DI e=⟨e.op,e.id,sNil,sNil,0,0,e.key,e.val,[],zObj⟩:=by rw[DI,aPS ho1,aPS ho2,aPT ho]
  have hk:qW e=(bM e.id&&(bM e.key&&decide ((e.val.size:Int)<=200))):=by rw[qW,aPS ho1,aPS ho2,aPT ho]
  have hb:(bM e.id&&bM e.key&&decide ((e.val.size:Int)<=200))=(bM e.id&&(bM e.key&&decide ((e.val.size:Int)<=200))):=by rw[Bool.and_assoc]
  have hv:dU e=((bM e.id&&bM e.key&&decide ((e.val.size:Int)<=200))&&kV ⟨e.op,e.id,sNil,sNil,0,0,e.key,e.val,[],zObj⟩ e):=by rw[dU,hx,hk,hb,ho];rfl
  apply vE (t:=4) (n:=20) (X:=bM e.id&&bM e.key&&decide ((e.val.size:Int)<=200))
  ·cases hg58:(bM e.id:Bool)
   ·refine aN follows<|Cr [1] (fun _ h=>fh jR h)<|Cr [1] (fun _ h=>lh isAgg9 h)<|Cr [1] (fun _ h=>fh kD h)<|Cr [1] (fun _ h=>lh isAgg9 h)<|Cr [] (fun _ _=>aE)<|Cr [] (fun _ _=>aE)<|Ot<|Ot<|Ot<|Ot<|Cr [] (fun _ _=>cG)<|Cr [] (fun _ _=>aE)<|Ot<|Ot<|Ot<|Ot<|Cr [] (fun _ _=>cG)<|Cr [3] (fun _ h=>fh jR h)<|Cp [3] (fun H1 hH=>by exact bH rfl sizeOf9 rfl rfl rfl ((hH _ rfl).trans rfl) rfl rfl (aP7 rfl) rfl rfl)<|Cr [3] (fun _ h=>fh kD h)<|Cp [3] (fun H1 hH=>by exact bH rfl sizeOf9 rfl rfl rfl ((hH _ rfl).trans rfl) rfl rfl (aP7 rfl) rfl rfl)<|Cr [] (fun _ _=>aL)<|bL<|Kr ?_;exact⟨rfl,⟨_,rfl,by rfl⟩,rfl,rfl,rfl⟩
   cases hg64:(bM e.key:Bool)
   ·refine aN follows<|Cr [1] (fun _ h=>fh jR h)<|Cr [1] (fun _ h=>lh isAgg9 h)<|Cr [1] (fun _ h=>fh kD h)<|Cr [1] (fun _ h=>lh isAgg9 h)<|Cr [] (fun _ _=>aE)<|Cr [] (fun _ _=>aE) ?_;refine bF (r:=⟨_,some [1],[]⟩) (cI rfl rfl rfl (by rfl) (fun H1 hH=>by exact(by exact bG rfl jR rfl ((hH _ rfl).trans rfl) rfl rfl))) rfl ?_;refine bF (r:=⟨_,some [1],[]⟩) (cI rfl rfl rfl (by rfl) (fun H1 hH=>by exact(by exact aK rfl isAgg9 rfl ((hH _ rfl).trans rfl) rfl rfl rfl))) rfl ?_;refine bF (r:=⟨_,some [],[]⟩) (cI rfl rfl rfl (by rfl) (fun H1 hH=>by exact(by exact aR ([e.key].map encStr) rfl cB rfl rfl rfl rfl rfl (by simp[encStr])))) rfl ?_;refine bF (r:=⟨_,some [],[]⟩) (cI rfl rfl rfl (by rfl) (fun H1 hH=>by exact aA rfl rfl DG rfl (aHr e.key _ h4))) rfl ?_;refine Cr [] (fun _ _=>cG)<|Cr [] (fun _ _=>aE)<|Ot<|Ot<|Ot<|Ot<|Cr [] (fun _ _=>nX)<|Cr [3] (fun _ h=>fh jR h)<|Cp [3] (fun H1 hH=>by exact bH rfl sizeOf9 rfl rfl rfl ((hH _ rfl).trans rfl) rfl rfl (aP7 rfl) rfl rfl)<|Cr [3] (fun _ h=>fh kD h)<|Cp [3] (fun H1 hH=>by exact bH rfl sizeOf9 rfl rfl rfl ((hH _ rfl).trans rfl) rfl rfl (aP7 rfl) rfl rfl)<|Cr [] (fun _ _=>aL)<|bL<|Kr ?_;exact⟨rfl,⟨_,rfl,by rfl⟩,rfl,rfl,rfl⟩
   refine aN follows<|Cr [1] (fun _ h=>fh jR h)<|Cr [1] (fun _ h=>lh isAgg9 h)<|Cr [1] (fun _ h=>fh kD h)<|Cr [1] (fun _ h=>lh isAgg9 h)<|Cr [] (fun _ _=>aE)<|Cr [] (fun _ _=>aE) ?_;refine bF (r:=⟨_,some [1],[]⟩) (cI rfl rfl rfl (by rfl) (fun H1 hH=>by exact(by exact bG rfl jR rfl ((hH _ rfl).trans rfl) rfl rfl))) rfl ?_;refine bF (r:=⟨_,some [1],[]⟩) (cI rfl rfl rfl (by rfl) (fun H1 hH=>by exact(by exact aK rfl isAgg9 rfl ((hH _ rfl).trans rfl) rfl rfl rfl))) rfl ?_;refine bF (r:=⟨_,some [],[]⟩) (cI rfl rfl rfl (by rfl) (fun H1 hH=>by exact(by exact aR ([e.key].map encStr) rfl cB rfl rfl rfl rfl rfl (by simp[encStr])))) rfl ?_;refine bF (r:=⟨_,some [],[]⟩) (cI rfl rfl rfl (by rfl) (fun H1 hH=>by exact aA rfl rfl DG rfl (aHr e.key _ h4))) rfl ?_;refine Cr [] (fun _ _=>cG)<|Cr [] (fun _ _=>aE) ?_;refine bF (r:=⟨_,some [1],[]⟩) (cI rfl rfl rfl (by assumption) (fun H1 hH=>by exact(by exact bG rfl kD rfl ((hH _ rfl).trans rfl) rfl rfl))) rfl ?_;refine bF (r:=⟨_,some [1],[]⟩) (cI rfl rfl rfl (by assumption) (fun H1 hH=>by exact(by exact aK rfl isAgg9 rfl ((hH _ rfl).trans rfl) rfl rfl rfl))) rfl ?_;refine bF (r:=⟨_,some [],[]⟩) (cI rfl rfl rfl (by assumption) (fun H1 hH=>by exact I0 rfl underlying9 rfl)) rfl ?_;refine bF (r:=⟨_,some [],[]⟩) (cI rfl rfl rfl (by assumption) (fun H1 hH=>by exact rO rfl rfl rfl)) rfl ?_;refine Cr [] (fun _ _=>wQ)<|Cr [3] (fun _ h=>fh jR h)<|Cp [3] (fun H1 hH=>by exact bH rfl sizeOf9 rfl rfl rfl ((hH _ rfl).trans rfl) rfl rfl (aP7 rfl) rfl rfl)<|Cr [3] (fun _ h=>fh kD h)<|Cp [3] (fun H1 hH=>by exact bH rfl sizeOf9 rfl rfl rfl ((hH _ rfl).trans rfl) rfl rfl (aP7 rfl) rfl rfl)<|Cr [] (fun _ _=>aL)<|bL<|Kr ?_;exact⟨rfl,⟨_,rfl,by rfl⟩,rfl,rfl,rfl⟩
  refine Sq ?_;refine aT (t:=2) (n:=8) (X:=(bM e.id&&bM e.key&&decide ((e.val.size:Int)<=200))&&kV ⟨e.op,e.id,sNil,sNil,0,0,e.key,e.val,[],zObj⟩ e) ?_ ?_
  ·all_goals refine Dd aE ?_
   all_goals refine Dm ?_
   all_goals refine Sp 127 (fun h127=>?_) fun h127=>?_
   all_goals try contradiction
   all_goals first|refine Fo<|Fo<|Fo ?_|refine On (by exact aM rfl cA aX rfl rfl rfl rfl (by simp only[Zl,bJ,bS,encStr,aW,zObj];rfl) rfl)<|On (by exact aM rfl cA aX rfl rfl rfl rfl (by simp only[Zl,bJ,bS,encStr,aW,zObj];rfl) rfl)<|On (by exact aA rfl rfl xC rfl (zF ⟨e.op,e.id,sNil,sNil,0,0,e.key,e.val,[],zObj⟩ e _ (by(show 0<_;omega)) P0)) ?_
   all_goals refine Dd cG<|Da ?_
   all_goals(exact⟨⟨_,rfl,by(rw[h127];rfl)⟩,rfl,rfl,rfl⟩)
  refine aB<|Rt ?_;exact⟨by rw[hv],rfl⟩
 have ho3:¬ e.op=3:=aPR hc3;refine Sr<|Dd cK<|Da ?_;refine Cn ?_ ?_<;>intro hc4
 ·have ho:e.op=4:=aPQ hc4;have hx:DI e=⟨e.op,e.id,sNil,sNil,0,0,sNil,sNil,e.refs,zObj⟩:=by rw[DI,aPS ho1,aPS ho2,aPS ho3,aPT ho]
  have hk:qW e=(bM e.id&&(decide ((0:Int)<(e.refs.length:Int))&&decide ((e.refs.length:Int)<=2000)&&e.refs.all bM)):=by rw[qW,aPS ho1,aPS ho2,aPS ho3,aPT ho]
  have hb:(bM e.id&&decide ((0:Int)<((e.refs.map encStr).length:Int))&&decide (((e.refs.map encStr).length:Int)<=2000)&&e.refs.all bM)=(bM e.id&&(decide ((0:Int)<(e.refs.length:Int))&&decide ((e.refs.length:Int)<=2000)&&e.refs.all bM)):=by rw[hrl];simp only[Bool.and_assoc]
  have hv:dU e=((bM e.id&&decide ((0:Int)<((e.refs.map encStr).length:Int))&&decide (((e.refs.map encStr).length:Int)<=2000)&&e.refs.all bM)&&kV ⟨e.op,e.id,sNil,sNil,0,0,sNil,sNil,e.refs,zObj⟩ e):=by rw[dU,hx,hk,hb,ho];rfl
  apply vE (t:=4) (n:=22) (X:=bM e.id&&decide ((0:Int)<((e.refs.map encStr).length:Int))&&decide (((e.refs.map encStr).length:Int)<=2000)&&e.refs.all bM)
  ·cases hg77:(bM e.id:Bool)
   ·refine aN follows<|Cr [1] (fun _ h=>fh eV h)<|Cr [1] (fun _ h=>lh aF h)<|Cr [] (fun _ _=>aE)<|Cr [] (fun _ _=>aE)<|Ot<|Ot<|Ot<|Ot<|Cr [] (fun _ _=>cG)<|Cr [] (fun _ _=>aE)<|Ot<|Ot<|Ot<|Ot<|Cr [] (fun _ _=>cG)<|Cr [] (fun _ _=>aE)<|Ot<|Ot<|Ot<|Cr [] (fun _ _=>cG)<|Cr [3] (fun _ h=>fh eV h)<|Cp [3] (fun H1 hH=>by exact bH rfl sizeOf22 rfl rfl rfl ((hH _ rfl).trans rfl) rfl rfl (aP7 rfl) rfl rfl)<|Cr [] (fun _ _=>aL)<|bL<|Kr ?_;exact⟨rfl,⟨_,rfl,by rfl⟩,rfl,rfl,rfl⟩
   cases hg83:(decide ((0:Int)<((e.refs.map encStr).length:Int)):Bool)
   ·refine aN follows<|Cr [1] (fun _ h=>fh eV h)<|Cr [1] (fun _ h=>lh aF h)<|Cr [] (fun _ _=>aE)<|Cr [] (fun _ _=>aE) ?_;refine bF (r:=⟨_,some [1],[]⟩) (cI rfl rfl rfl (by rfl) (fun H1 hH=>by exact(by exact bG rfl eV rfl ((hH _ rfl).trans rfl) rfl rfl))) rfl ?_;refine bF (r:=⟨_,some [1],[]⟩) (cI rfl rfl rfl (by rfl) (fun H1 hH=>by exact(by exact aK rfl aF rfl ((hH _ rfl).trans rfl) rfl rfl rfl))) rfl ?_;refine bF (r:=⟨_,some [],[]⟩) (cI rfl rfl rfl (by rfl) (fun H1 hH=>by exact(by exact lO rfl aD rfl))) rfl ?_;refine bF (r:=⟨_,some [],[]⟩) (cI rfl rfl rfl (by rfl) (fun H1 hH=>by exact FM rfl rfl rfl)) rfl ?_;refine Cr [] (fun _ _=>cG)<|Cr [] (fun _ _=>aE)<|Ot<|Ot<|Ot<|Ot<|Cr [] (fun _ _=>nX)<|Cr [] (fun _ _=>aE)<|Ot<|Ot<|Ot<|Cr [] (fun _ _=>cG)<|Cr [3] (fun _ h=>fh eV h)<|Cp [3] (fun H1 hH=>by exact bH rfl sizeOf22 rfl rfl rfl ((hH _ rfl).trans rfl) rfl rfl (aP7 rfl) rfl rfl)<|Cr [] (fun _ _=>aL)<|bL<|Kr ?_;exact⟨rfl,⟨_,rfl,by rfl⟩,rfl,rfl,rfl⟩
   cases hg89:(decide (((e.refs.map encStr).length:Int)<=2000):Bool)
   ·refine aN follows<|Cr [1] (fun _ h=>fh eV h)<|Cr [1] (fun _ h=>lh aF h)<|Cr [] (fun _ _=>aE)<|Cr [] (fun _ _=>aE) ?_;refine bF (r:=⟨_,some [1],[]⟩) (cI rfl rfl rfl (by rfl) (fun H1 hH=>by exact(by exact bG rfl eV rfl ((hH _ rfl).trans rfl) rfl rfl))) rfl ?_;refine bF (r:=⟨_,some [1],[]⟩) (cI rfl rfl rfl (by rfl) (fun H1 hH=>by exact(by exact aK rfl aF rfl ((hH _ rfl).trans rfl) rfl rfl rfl))) rfl ?_;refine bF (r:=⟨_,some [],[]⟩) (cI rfl rfl rfl (by rfl) (fun H1 hH=>by exact(by exact lO rfl aD rfl))) rfl ?_;refine bF (r:=⟨_,some [],[]⟩) (cI rfl rfl rfl (by rfl) (fun H1 hH=>by exact FM rfl rfl rfl)) rfl ?_;refine Cr [] (fun _ _=>cG)<|Cr [] (fun _ _=>aE) ?_;refine bF (r:=⟨_,some [1],[]⟩) (cI rfl rfl rfl (by assumption) (fun H1 hH=>by exact(by exact bG rfl eV rfl ((hH _ rfl).trans rfl) rfl rfl))) rfl ?_;refine bF (r:=⟨_,some [1],[]⟩) (cI rfl rfl rfl (by assumption) (fun H1 hH=>by exact(by exact aK rfl aF rfl ((hH _ rfl).trans rfl) rfl rfl rfl))) rfl ?_;refine bF (r:=⟨_,some [],[]⟩) (cI rfl rfl rfl (by assumption) (fun H1 hH=>by exact(by exact lO rfl aD rfl))) rfl ?_;refine bF (r:=⟨_,some [],[]⟩) (cI rfl rfl rfl (by assumption) (fun H1 hH=>by exact rO rfl rfl rfl)) rfl ?_;refine Cr [] (fun _ _=>wQ)<|Cr [] (fun _ _=>aE)<|Ot<|Ot<|Ot<|Cr [] (fun _ _=>nX)<|Cr [3] (fun _ h=>fh eV h)<|Cp [3] (fun H1 hH=>by exact bH rfl sizeOf22 rfl rfl rfl ((hH _ rfl).trans rfl) rfl rfl (aP7 rfl) rfl rfl)<|Cr [] (fun _ _=>aL)<|bL<|Kr ?_;exact⟨rfl,⟨_,rfl,by rfl⟩,rfl,rfl,rfl⟩
   refine aN follows<|Cr [1] (fun _ h=>fh eV h)<|Cr [1] (fun _ h=>lh aF h)<|Cr [] (fun _ _=>aE)<|Cr [] (fun _ _=>aE) ?_;refine bF (r:=⟨_,some [1],[]⟩) (cI rfl rfl rfl (by rfl) (fun H1 hH=>by exact(by exact bG rfl eV rfl ((hH _ rfl).trans rfl) rfl rfl))) rfl ?_;refine bF (r:=⟨_,some [1],[]⟩) (cI rfl rfl rfl (by rfl) (fun H1 hH=>by exact(by exact aK rfl aF rfl ((hH _ rfl).trans rfl) rfl rfl rfl))) rfl ?_;refine bF (r:=⟨_,some [],[]⟩) (cI rfl rfl rfl (by rfl) (fun H1 hH=>by exact(by exact lO rfl aD rfl))) rfl ?_;refine bF (r:=⟨_,some [],[]⟩) (cI rfl rfl rfl (by rfl) (fun H1 hH=>by exact FM rfl rfl rfl)) rfl ?_;refine Cr [] (fun _ _=>cG)<|Cr [] (fun _ _=>aE) ?_;refine bF (r:=⟨_,some [1],[]⟩) (cI rfl rfl rfl (by assumption) (fun H1 hH=>by exact(by exact bG rfl eV rfl ((hH _ rfl).trans rfl) rfl rfl))) rfl ?_;refine bF (r:=⟨_,some [1],[]⟩) (cI rfl rfl rfl (by assumption) (fun H1 hH=>by exact(by exact aK rfl aF rfl ((hH _ rfl).trans rfl) rfl rfl rfl))) rfl ?_;refine bF (r:=⟨_,some [],[]⟩) (cI rfl rfl rfl (by assumption) (fun H1 hH=>by exact(by exact lO rfl aD rfl))) rfl ?_;refine bF (r:=⟨_,some [],[]⟩) (cI rfl rfl rfl (by assumption) (fun H1 hH=>by exact rO rfl rfl rfl)) rfl ?_;refine Cr [] (fun _ _=>wQ)<|Cr [] (fun _ _=>aE) ?_;refine bF (r:=⟨_,some [1],[]⟩) (cI rfl rfl rfl (by assumption) (fun H1 hH=>by exact(by exact bG rfl eV rfl ((hH _ rfl).trans rfl) rfl rfl))) rfl ?_;refine bF (r:=⟨_,some [1],[]⟩) (cI rfl rfl rfl (by assumption) (fun H1 hH=>by exact(by exact aK rfl aF rfl ((hH _ rfl).trans rfl) rfl rfl rfl))) rfl ?_;refine bF (r:=⟨_,some [],[]⟩) (cI rfl rfl rfl (by assumption) (fun H1 hH=>by exact aA rfl rfl DG rfl (SQ e.refs _ h5 h6))) rfl ?_;refine Cr [] (fun _ _=>wQ)<|Cr [3] (fun _ h=>fh eV h)<|Cp [3] (fun H1 hH=>by exact bH rfl sizeOf22 rfl rfl rfl ((hH _ rfl).trans rfl) rfl rfl (aP7 rfl) rfl rfl)<|Cr [] (fun _ _=>aL)<|bL<|Kr ?_;exact⟨rfl,⟨_,rfl,by rfl⟩,rfl,rfl,rfl⟩
  refine Sq ?_;refine aT (t:=2) (n:=8) (X:=(bM e.id&&decide ((0:Int)<((e.refs.map encStr).length:Int))&&decide (((e.refs.map encStr).length:Int)<=2000)&&e.refs.all bM)&&kV ⟨e.op,e.id,sNil,sNil,0,0,sNil,sNil,e.refs,zObj⟩ e) ?_ ?_
  ·all_goals refine Dd aE ?_
   all_goals refine Dm ?_
   all_goals refine Sp 127 (fun h127=>?_) fun h127=>?_
   all_goals try contradiction
   all_goals first|refine Fo<|Fo<|Fo ?_|refine On (by exact aM rfl cA aX rfl rfl rfl rfl (by simp only[Zl,bJ,bS,encStr,aW,zObj];rfl) rfl)<|On (by exact aM rfl cA aX rfl rfl rfl rfl (by simp only[Zl,bJ,bS,encStr,aW,zObj];rfl) rfl)<|On (by exact aA rfl rfl xC rfl (zF ⟨e.op,e.id,sNil,sNil,0,0,sNil,sNil,e.refs,zObj⟩ e _ (by exact h5) P0)) ?_
   all_goals refine Dd cG<|Da ?_
   all_goals(exact⟨⟨_,rfl,by(rw[h127];rfl)⟩,rfl,rfl,rfl⟩)
  refine aB<|Rt ?_;exact⟨by rw[hv],rfl⟩
 have ho4:¬ e.op=4:=aPR hc4;refine Sr<|Dd cK<|Da ?_;refine Cn ?_ ?_<;>intro hc5
 ·have ho:e.op=5:=aPQ hc5;have hx:DI e=⟨e.op,e.id,sNil,sNil,0,0,sNil,sNil,[],zObj⟩:=by rw[DI,aPS ho1,aPS ho2,aPS ho3,aPS ho4,aPT ho]
  have hk:qW e=(bM e.id):=by rw[qW,aPS ho1,aPS ho2,aPS ho3,aPS ho4,aPT ho];simp
  have hv:dU e=((bM e.id)&&kV ⟨e.op,e.id,sNil,sNil,0,0,sNil,sNil,[],zObj⟩ e):=by rw[dU,hx,hk,ho];rfl
  refine aC<|Sq ?_;refine aT (t:=2) (n:=8) (X:=(bM e.id)&&kV ⟨e.op,e.id,sNil,sNil,0,0,sNil,sNil,[],zObj⟩ e) ?_ ?_
  ·all_goals refine Dd aE ?_
   all_goals refine Dm ?_
   all_goals refine Sp 127 (fun h127=>?_) fun h127=>?_
   all_goals try contradiction
   all_goals first|refine Fo<|Fo<|Fo ?_|refine On (by exact aM rfl cA aX rfl rfl rfl rfl (by simp only[Zl,bJ,bS,encStr,aW,zObj];rfl) rfl)<|On (by exact aM rfl cA aX rfl rfl rfl rfl (by simp only[Zl,bJ,bS,encStr,aW,zObj];rfl) rfl)<|On (by exact aA rfl rfl xC rfl (zF ⟨e.op,e.id,sNil,sNil,0,0,sNil,sNil,[],zObj⟩ e _ (by(show 0<_;omega)) P0)) ?_
   all_goals refine Dd cG<|Da ?_
   all_goals(exact⟨⟨_,rfl,by(rw[h127];rfl)⟩,rfl,rfl,rfl⟩)
  refine aB<|Rt ?_;exact⟨by rw[hv],rfl⟩
 have ho5:¬ e.op=5:=aPR hc5;refine Sr<|Dd cK<|Da ?_;refine Cn ?_ ?_<;>intro hc6
 ·have ho:e.op=6:=aPQ hc6;have hx:DI e=⟨e.op,e.id,e.other,e.node,0,0,sNil,sNil,[],zObj⟩:=by rw[DI,aPS ho1,aPS ho2,aPS ho3,aPS ho4,aPS ho5,aPT ho]
  have hk:qW e=(bM e.id&&(bM e.node&&bM e.other)):=by rw[qW,aPS ho1,aPS ho2,aPS ho3,aPS ho4,aPS ho5,aPT ho]
  have hb:(bM e.id&&(bM e.node&&bM e.other))=(bM e.id&&(bM e.node&&bM e.other)):=by rfl
  have hv:dU e=((bM e.id&&(bM e.node&&bM e.other))&&kV ⟨e.op,e.id,e.other,e.node,0,0,sNil,sNil,[],zObj⟩ e):=by rw[dU,hx,hk,hb,ho];rfl
  apply vE (t:=4) (n:=16) (X:=bM e.id&&(bM e.node&&bM e.other))
  ·cases hg104:(bM e.id:Bool)
   ·refine aN follows<|Cr [1] (fun _ h=>fh lU h)<|Cr [1] (fun _ h=>lh isAgg9 h)<|Cr [1] (fun _ h=>fh gV h)<|Cr [1] (fun _ h=>lh isAgg9 h)<|Cr [] (fun _ _=>aE)<|Cr [] (fun _ _=>aE)<|Ot<|Ot<|Ot<|Ot<|Ot<|Ot<|Cr [] (fun _ _=>cG)<|Cr [3] (fun _ h=>fh lU h)<|Cp [3] (fun H1 hH=>by exact bH rfl sizeOf9 rfl rfl rfl ((hH _ rfl).trans rfl) rfl rfl (aP7 rfl) rfl rfl)<|Cr [3] (fun _ h=>fh gV h)<|Cp [3] (fun H1 hH=>by exact bH rfl sizeOf9 rfl rfl rfl ((hH _ rfl).trans rfl) rfl rfl (aP7 rfl) rfl rfl)<|Cr [] (fun _ _=>aL)<|bL<|Kr ?_;exact⟨rfl,⟨_,rfl,by rfl⟩,rfl,rfl,rfl⟩
   refine aN follows<|Cr [1] (fun _ h=>fh lU h)<|Cr [1] (fun _ h=>lh isAgg9 h)<|Cr [1] (fun _ h=>fh gV h)<|Cr [1] (fun _ h=>lh isAgg9 h)<|Cr [] (fun _ _=>aE)<|Cr [] (fun _ _=>aE) ?_;refine bF (r:=⟨_,some [1],[]⟩) (cI rfl rfl rfl (by rfl) (fun H1 hH=>by exact(by exact bG rfl lU rfl ((hH _ rfl).trans rfl) rfl rfl))) rfl ?_;refine bF (r:=⟨_,some [1],[]⟩) (cI rfl rfl rfl (by rfl) (fun H1 hH=>by exact(by exact aK rfl isAgg9 rfl ((hH _ rfl).trans rfl) rfl rfl rfl))) rfl ?_;refine bF (r:=⟨_,some [1],[]⟩) (cI rfl rfl rfl (by rfl) (fun H1 hH=>by exact(by exact bG rfl gV rfl ((hH _ rfl).trans rfl) rfl rfl))) rfl ?_;refine bF (r:=⟨_,some [1],[]⟩) (cI rfl rfl rfl (by rfl) (fun H1 hH=>by exact(by exact aK rfl isAgg9 rfl ((hH _ rfl).trans rfl) rfl rfl rfl))) rfl ?_;refine bF (r:=⟨_,some [],[]⟩) (cI rfl rfl rfl (by rfl) (fun H1 hH=>by exact(by exact aR ([e.node,e.other].map encStr) rfl cB rfl rfl rfl rfl rfl (by simp[encStr])))) rfl ?_;refine bF (r:=⟨_,some [],[]⟩) (cI rfl rfl rfl (by rfl) (fun H1 hH=>by exact aA rfl rfl DG rfl (aOP e.node e.other _ h3 h2))) rfl ?_;refine Cr [] (fun _ _=>cG)<|Cr [3] (fun _ h=>fh lU h)<|Cp [3] (fun H1 hH=>by exact bH rfl sizeOf9 rfl rfl rfl ((hH _ rfl).trans rfl) rfl rfl (aP7 rfl) rfl rfl)<|Cr [3] (fun _ h=>fh gV h)<|Cp [3] (fun H1 hH=>by exact bH rfl sizeOf9 rfl rfl rfl ((hH _ rfl).trans rfl) rfl rfl (aP7 rfl) rfl rfl)<|Cr [] (fun _ _=>aL)<|bL<|Kr ?_;exact⟨rfl,⟨_,rfl,by rfl⟩,rfl,rfl,rfl⟩
  refine Sq ?_;refine aT (t:=2) (n:=8) (X:=(bM e.id&&(bM e.node&&bM e.other))&&kV ⟨e.op,e.id,e.other,e.node,0,0,sNil,sNil,[],zObj⟩ e) ?_ ?_
  ·all_goals refine Dd aE ?_
   all_goals refine Dm ?_
   all_goals refine Sp 127 (fun h127=>?_) fun h127=>?_
   all_goals try contradiction
   all_goals first|refine Fo<|Fo<|Fo ?_|refine On (by exact aM rfl cA aX rfl rfl rfl rfl (by simp only[Zl,bJ,bS,encStr,aW,zObj];rfl) rfl)<|On (by exact aM rfl cA aX rfl rfl rfl rfl (by simp only[Zl,bJ,bS,encStr,aW,zObj];rfl) rfl)<|On (by exact aA rfl rfl xC rfl (zF ⟨e.op,e.id,e.other,e.node,0,0,sNil,sNil,[],zObj⟩ e _ (by(show 0<_;omega)) P0)) ?_
   all_goals refine Dd cG<|Da ?_
   all_goals(exact⟨⟨_,rfl,by(rw[h127];rfl)⟩,rfl,rfl,rfl⟩)
  refine aB<|Rt ?_;exact⟨by rw[hv],rfl⟩
 have ho6:¬ e.op=6:=aPR hc6;refine Sr<|Dd cK<|Da ?_;refine Cn ?_ ?_<;>intro hc7
 ·have ho:e.op=7:=aPQ hc7;have hx:DI e=⟨e.op,e.id,e.other,sNil,0,0,sNil,sNil,[],zObj⟩:=by rw[DI,aPS ho1,aPS ho2,aPS ho3,aPS ho4,aPS ho5,aPS ho6]
  have hk:qW e=(bM e.id&&bM e.other):=by rw[qW,aPS ho1,aPS ho2,aPS ho3,aPS ho4,aPS ho5,aPS ho6]
  have hb:(bM e.id&&bM e.other)=(bM e.id&&bM e.other):=by rfl
  have hv:dU e=((bM e.id&&bM e.other)&&kV ⟨e.op,e.id,e.other,sNil,0,0,sNil,sNil,[],zObj⟩ e):=by rw[dU,hx,hk,hb,ho];rfl
  apply vE (t:=4) (n:=11) (X:=bM e.id&&bM e.other)
  ·cases hg119:(bM e.id:Bool)
   ·refine aN follows<|Cr [1] (fun _ h=>fh gV h)<|Cr [1] (fun _ h=>lh isAgg9 h)<|Cr [] (fun _ _=>aE)<|Cr [] (fun _ _=>aE)<|Ot<|Ot<|Ot<|Ot<|Cr [] (fun _ _=>cG)<|Cr [3] (fun _ h=>fh gV h)<|Cp [3] (fun H1 hH=>by exact bH rfl sizeOf9 rfl rfl rfl ((hH _ rfl).trans rfl) rfl rfl (aP7 rfl) rfl rfl)<|Cr [] (fun _ _=>aL)<|bL<|Kr ?_;exact⟨rfl,⟨_,rfl,by rfl⟩,rfl,rfl,rfl⟩
   refine aN follows<|Cr [1] (fun _ h=>fh gV h)<|Cr [1] (fun _ h=>lh isAgg9 h)<|Cr [] (fun _ _=>aE)<|Cr [] (fun _ _=>aE) ?_;refine bF (r:=⟨_,some [1],[]⟩) (cI rfl rfl rfl (by rfl) (fun H1 hH=>by exact(by exact bG rfl gV rfl ((hH _ rfl).trans rfl) rfl rfl))) rfl ?_;refine bF (r:=⟨_,some [1],[]⟩) (cI rfl rfl rfl (by rfl) (fun H1 hH=>by exact(by exact aK rfl isAgg9 rfl ((hH _ rfl).trans rfl) rfl rfl rfl))) rfl ?_;refine bF (r:=⟨_,some [],[]⟩) (cI rfl rfl rfl (by rfl) (fun H1 hH=>by exact(by exact aR ([e.other].map encStr) rfl cB rfl rfl rfl rfl rfl (by simp[encStr])))) rfl ?_;refine bF (r:=⟨_,some [],[]⟩) (cI rfl rfl rfl (by rfl) (fun H1 hH=>by exact aA rfl rfl DG rfl (aHr e.other _ h2))) rfl ?_;refine Cr [] (fun _ _=>cG)<|Cr [3] (fun _ h=>fh gV h)<|Cp [3] (fun H1 hH=>by exact bH rfl sizeOf9 rfl rfl rfl ((hH _ rfl).trans rfl) rfl rfl (aP7 rfl) rfl rfl)<|Cr [] (fun _ _=>aL)<|bL<|Kr ?_;exact⟨rfl,⟨_,rfl,by rfl⟩,rfl,rfl,rfl⟩
  refine Sq ?_;refine aT (t:=2) (n:=8) (X:=(bM e.id&&bM e.other)&&kV ⟨e.op,e.id,e.other,sNil,0,0,sNil,sNil,[],zObj⟩ e) ?_ ?_
  ·all_goals refine Dd aE ?_
   all_goals refine Dm ?_
   all_goals refine Sp 127 (fun h127=>?_) fun h127=>?_
   all_goals try contradiction
   all_goals first|refine Fo<|Fo<|Fo ?_|refine On (by exact aM rfl cA aX rfl rfl rfl rfl (by simp only[Zl,bJ,bS,encStr,aW,zObj];rfl) rfl)<|On (by exact aM rfl cA aX rfl rfl rfl rfl (by simp only[Zl,bJ,bS,encStr,aW,zObj];rfl) rfl)<|On (by exact aA rfl rfl xC rfl (zF ⟨e.op,e.id,e.other,sNil,0,0,sNil,sNil,[],zObj⟩ e _ (by(show 0<_;omega)) P0)) ?_
   all_goals refine Dd cG<|Da ?_
   all_goals(exact⟨⟨_,rfl,by(rw[h127];rfl)⟩,rfl,rfl,rfl⟩)
  refine aB<|Rt ?_;exact⟨by rw[hv],rfl⟩
 have ho7:¬ e.op=7:=aPR hc7;refine Sr<|Dd aL<|Zz<|aB<|Rt ?_;refine⟨?_,rfl⟩;have:dU e=false:=by
  rw[dU,Bool.and_eq_false_iff];left;rw[Bool.and_eq_false_iff,aP2,aP2];omega
 rw[this]
theorem NE(e:GEdit)(H:aH)(he:MB e):aI Tryz.prog 201 [av (aW e)] H (fun r H'=>r=bv (!dU e)/\H'=H):=by refine Pu ?_;exact Bd func201 rfl ntmps201<|Sr<|Dd (by exact cD (id:=1) rfl rfl rfl rfl rfl)<|Dd aL<|Zz<|Sr<|Dd (by exact aM rfl cA aX rfl rfl rfl rfl (by simp only[Zl,bJ,bS,encStr,aW,zObj];rfl) rfl)<|Dd (by exact aA rfl rfl call202 rfl (WM e _ he))<|Dd iQ<|Dd aL<|Zz<|aB<|Rt<|Qq
def kB(l:List GEdit):Bool:=decide ((0:Int)<(l.length:Int))&&decide ((l.length:Int)<=200)&&!(l.any (fun e=>!dU e))
theorem OX(l:List GEdit)(H:aH)(hl:l.length<4611686018427387904)(he:∀e∈l,MB e):aI Tryz.prog 160 [.pv (iF l)] H (fun r H'=>r=bv (kB l)/\H'=H):=by
 refine Pu ?_;have hml:(l.map aW).length=l.length:=aPU _;refine Bd func160 rfl ntmps160<|Sr<|Dd aL<|Zz<|Sq ?_;refine aT (t:=2) (n:=16) (X:=decide ((0:Int)<((l.map aW).length:Int))&&decide (((l.map aW).length:Int)<=200)&&!(l.any (fun e=>!dU e))) ?_ ?_
 ·all_goals refine Dd aE ?_
  all_goals refine Dd (fE cX)<|Dd iE<|Dm ?_
  all_goals refine Sp 6 (fun h6=>?_) fun h6=>?_
  all_goals try contradiction
  all_goals first|refine Fo<|Fo<|Fo ?_|refine On aE<|On (fE cX)<|On GQ ?_
  all_goals refine Dd cG<|Dm ?_
  all_goals refine Sp 11 (fun h11=>?_) fun h11=>?_
  all_goals try contradiction
  all_goals first|refine Fo<|Fo<|Fo ?_|refine On aE<|On (by exact aA rfl rfl call200 rfl (EJ (.pv (.fn 201)) l (fun e=>!dU e) _ hl (fun e h=>dK.fn call201 (NE e _ (he e h)))))<|On iQ ?_
  all_goals refine Dd cG<|Da ?_
  all_goals(exact⟨⟨_,rfl,by first|(simp_all;done)|(simp_all;omega)⟩,rfl,rfl,rfl⟩)
 refine aB<|Rt ?_;exact⟨by rw[kB,hml],rfl⟩
theorem aAX(f:α->List PV)(l:List α):l.map (fun e=>(f e).map AV.pv)=(l.map f).map (·.map .pv):=by rw[List.map_map];rfl
def nm(i:Nat):ByteArray:=⟨#[110,49+UInt8.ofNat i]⟩
theorem aK9{B:Nat}{e:GEdit}(hB:B<4611686018427387904)(h:RQ B e):MB e :=⟨⟨by have:=h.2.1;omega,by have:=h.2.2.1;omega,by have:=h.2.2.2.1;omega,by have:=h.2.2.2.2.2.2.1;omega⟩,
  ⟨by have:=h.2.2.2.2.2.2.2.2.1.1;omega,fun s hs=>by have:=h.2.2.2.2.2.2.2.2.1.2 s hs;omega⟩,aK8 hB h.2.2.2.2.2.2.2.2.2⟩
end Go.Proofs.YtmdicgjnmfolfaaGreatDoor
namespace Go.Abs
open Go.Proofs
theorem Rel.grown{I}{ι}{H}{w}(i)(g:Rel I ι H w):Rel I ι H (Sort.grow w i)/\Step I ι H w I ι H (Sort.grow w i):=by
 have k:∀b,b<w.heap.size->(Sort.grow w _).heap[b]?=w.heap[b]?:=fun b f=>by
  show (w.heap++i)[b]?=_
  grind
 have e:Step I ι H w I ι H (Sort.grow w i):=by
  refine⟨rfl,rfl,rfl,?_,fun a ha _=>?_,fun _ h=>h,fun _ h=>.inl h,fun _ h=>.inl h,fun b f _=>k b f,fun _ o h=>⟨o,h,aP0 _,fun _=>⟨rfl,rfl,fun _=>aP0 _⟩⟩⟩
  ·simp_all
  unfold World.frozen?
  simp_all
 refine⟨⟨fun b f=>?_,fun j o l=>?_,g.inj,e.glob g⟩,e⟩
 ·have:=g.imm b f
  grind
 exact(g.obj j o l).keep rfl (fun b c _ f=>⟨k b f,fun h=>h⟩) (fun r _ a _ v m=>m.mono g e)
def mO(l:List ByteArray):List (List AV):=l.map fun s=>[.pv (.str s)]
def aV(n:Int):ByteArray:=⟨(Lib.itoa n).toArray⟩
theorem itoa_c{P}{ρ}(L:LaysM.n171 P ρ){G}(A:(G,GV.ints .u64 Lib.pow10Tab)∈S3)(q:P.globalNamed "internal/strconv.uint64pow10" = some G)(n)(j : -9223372036854775808<=n)(s:n<=9223372036854775807)(H):
  aI P (ρ.f 171) [.pv (.int .i64 n)] H (fun r H'=>r=.pv (.str (aV n))/\H'=H):=by
 intro I m w h g d z;obtain ⟨v,rfl⟩:∃v,h=#[v]:=by
  match h,d with
  |⟨[v]⟩,_=>exact⟨v,rfl⟩
 have x:=(z 0 v _ rfl rfl).int_inv;subst x;have b:Lib.TabIs P w "internal/strconv.uint64pow10" .u64 Lib.pow10Tab:=by
  obtain ⟨_,cs,t,f,i,y⟩:=g.glob _ A;have c:=y;subst c;simp[Lib.TabIs,World.var?,q,Option.bind_some,i]
 refine(Any.strconv_Itoa L n j s w b).mono ?_;rintro e w' ⟨rfl,k,os,rfl⟩;obtain ⟨o,p⟩:=Rel.drawn (w':=w.drewN k) g rfl rfl rfl rfl;obtain ⟨l,u⟩:=Rel.grown _ o;exact⟨_,_,I,m,_,rfl,⟨rfl,rfl⟩,.pv (.str _),l,p.trans u⟩
theorem mul64_c{P}{ρ}(L:Lays.n264 P ρ)(x y:Nat)(k:x<18446744073709551616)(m:y<18446744073709551616)(H):
  aI P (ρ.f 264) [.pv (.int .u64 x),.pv (.int .u64 y)] H (fun r H'=>r=.tup [.pv (.int .u64 ((x*y / 18446744073709551616:Nat))),.pv (.int .u64 ((x*y % 18446744073709551616:Nat)))]/\H'=H):=by
 intro I o w h l f g;obtain ⟨v,u,rfl⟩:∃v u,h=#[v,u]:=by
  match h,f with
  |⟨[v,u]⟩,_=>exact⟨v,u,rfl⟩
 have j:=(g 0 v _ rfl rfl).int_inv;have n:=(g 1 u _ rfl rfl).int_inv;subst j n;refine(Any.bits_Mul64 L x y k m w).mono ?_;rintro e w' ⟨rfl,rfl⟩;refine⟨_,_,I,o,_,rfl,⟨rfl,rfl⟩,.tup rfl fun i v a c d=>?_,l,Step.refl _ _ _ _⟩
 match i,c,d with
 |0,c,d=>cases c;cases d;exact .pv (.int _ _)
 |1,c,d=>cases c;cases d;exact .pv (.int _ _)
 |i+2,c,d=>simp at c
end Go.Abs
section
namespace Go.Proofs
open Go.RowKit Go.Sort Go.Shelf
def aPL:Go.Shelf.Ren:=⟨fun|171=>108|243=>146|246=>181|283=>215|284=>216|285=>217|286=>218|129=>250|317=>249|318=>251|319=>252|320=>253|337=>271|338=>272|n=>n,fun|3=>3|9=>9|2=>2|4=>4|171=>230|0=>0|53=>122|37=>124|5=>5|173=>233|212=>257|51=>258|20=>20|213=>259|46=>125|232=>282|233=>283|n=>n,fun|17=>3|18=>6|19=>7|n=>n⟩
theorem aPN:Go.Proofs.LaysM.n171 Tryz.prog aPL:={
  mixed:=by kernel_rfl
  f129:=Tryz.func250.trans (congrArg some (by kernel_rfl))
  f171:=Tryz.func108.trans (congrArg some (by kernel_rfl))
  f243:=Tryz.func146.trans (congrArg some (by kernel_rfl))
  f246:=Tryz.func181.trans (congrArg some (by kernel_rfl))
  f283:=Tryz.func215.trans (congrArg some (by kernel_rfl))
  f284:=Tryz.func216.trans (congrArg some (by kernel_rfl))
  f285:=Tryz.func217.trans (congrArg some (by kernel_rfl))
  f286:=Tryz.func218.trans (congrArg some (by kernel_rfl))
  f317:=Tryz.func249.trans (congrArg some (by kernel_rfl))
  f318:=Tryz.func251.trans (congrArg some (by kernel_rfl))
  f319:=Tryz.func252.trans (congrArg some (by kernel_rfl))
  f320:=Tryz.func253.trans (congrArg some (by kernel_rfl))
  f337:=Tryz.func271.trans (congrArg some (by kernel_rfl))
  f338:=Tryz.func272.trans (congrArg some (by kernel_rfl))
  t0:=aGM
  a0:=aPC
  z0:=aO6
  v0:=aIw
  t2:=Tryz.underlying2
  a2:=Tryz.isAgg2
  z2:=Tryz.sizeOf2
  v2:=Tryz.zeroValue2
  t3:=Tryz.underlying3
  a3:=Tryz.isAgg3
  z3:=Tryz.sizeOf3
  v3:=CI
  t4:=dD
  a4:=oT
  z4:=Tryz.sizeOf4
  v4:=mX
  t5:=fQ
  a5:=A7
  z5:=cL
  v5:=CH
  t9:=Tryz.underlying9
  a9:=Tryz.isAgg9
  z9:=Tryz.sizeOf9
  v9:=tT
  t20:=GY
  a20:=sJ
  z20:=aNU
  v20:=aGL
  t37:=dH
  a37:=dV
  z37:=oH
  v37:=Tryz.zeroValue124
  t46:=ER
  a46:=XL
  z46:=TQ
  v46:=GU
  t51:=Tryz.underlying258
  a51:=Tryz.isAgg258
  z51:=Tryz.sizeOf258
  v51:=Tryz.zeroValue258
  t53:=jM
  a53:=IM
  z53:=ET
  v53:=GW
  t171:=Tryz.underlying230
  a171:=Tryz.isAgg230
  z171:=Tryz.sizeOf230
  v171:=Tryz.zeroValue230
  t173:=Tryz.underlying233
  a173:=Tryz.isAgg233
  z173:=Tryz.sizeOf233
  v173:=Tryz.zeroValue233
  t212:=Tryz.underlying257
  a212:=Tryz.isAgg257
  z212:=Tryz.sizeOf257
  v212:=Tryz.zeroValue257
  t213:=Tryz.underlying259
  a213:=Tryz.isAgg259
  z213:=Tryz.sizeOf259
  t232:=Tryz.underlying282
  a232:=Tryz.isAgg282
  z232:=Tryz.sizeOf282
  v232:=Tryz.zeroValue282
  t233:=Tryz.underlying283
  a233:=Tryz.isAgg283
  z233:=Tryz.sizeOf283
  v233:=Tryz.zeroValue283
  g17:=by kernel_rfl
  g18:=by kernel_rfl
  g19:=by kernel_rfl
  i0:=by kernel_rfl
  i2:=by kernel_rfl
  i3:=by kernel_rfl
  i4:=by kernel_rfl
  i5:=by kernel_rfl
  i9:=by kernel_rfl
  i20:=by kernel_rfl
  i37:=by kernel_rfl
  i46:=by kernel_rfl
  i51:=by kernel_rfl
  i53:=by kernel_rfl
  i171:=by kernel_rfl
  i173:=by kernel_rfl
  i212:=by kernel_rfl
  i232:=by kernel_rfl
  i233:=by kernel_rfl
  m17:=by kernel_rfl
  m18:=by kernel_rfl
  m19:=by kernel_rfl}
end Go.Proofs
namespace Go.Proofs.YtmdicgjnmfolfaaGreatDoor
open Go.Proofs.Tryz
open Go.Abs
theorem tI(n:Int)(h0 : -9223372036854775808<=n)(h1:n<=9223372036854775807)(H:aH):aI Tryz.prog 108 [iv n] H (fun r H'=>r=sv (aV n)/\H'=H) :=Go.Abs.itoa_c aPN (G:=3) (by unfold S3;exact .head _) (by kernel_rfl) n h0 h1 H
end Go.Proofs.YtmdicgjnmfolfaaGreatDoor
end
namespace Go.Abs
variable{d id g n:Nat}{T e S:TypeId}
section
section
variable{P:Program}{G0:aH}{N:Nat}{E:dB}{H:aH}{ops:Array Oper}{K:dB->aH->Prop}{o:Oper}{rest:List Oper}
def ALx(P:Program)(G0:aH)(N:Nat)(ops:Array Oper)(K:dB->aH->Prop)(l:List Oper)(E:dB)(H:aH)(d:Nat)(F:kJ->Value->Prop):Prop :=∀G:Entry,G.H=G0->∀(a:Act) (w:World) (I:Nat->Prop) (ι:kJ),rA G.ds G.w w a.defers->a.tmps.size=N->Rel I ι H w->Step G.I G.ι G.H G.w I ι H w->jB w I ι H E a->(∃c,a.tmps[d]?=some c/\F ι c) ->
  ∀ro,(ro=none\/l.all Oper.noDefer=true)->∀Q:Exit->Act->World->Prop,(∀E H a w,K E H->St G N E H a w->Q .normal a w)->wpListIn (RF ro) 0 P ops Q l a w
def aL3(id n:Nat)(ι:kJ)(c:Value):Prop:=∃b cap,ι id=some (b,cap)/\c=.slice (some ⟨b,0,none⟩) n n
theorem FD(a:Act)(d:Nat)(c):(a.put (some d) c).tmps.size=a.tmps.size:=by simp[Act.put]
theorem aDy(a:Act){d}(c)(h:d<a.tmps.size):(a.put (some d) c).tmps[d]?=some c:=by simp[Act.put,h]
theorem aBp(a:Act){b:Nat}(c)(h:b≠d):(a.put (some b) c).tmps[d]?=a.tmps[d]?:=by simp[Act.put,h]
theorem GL{p:Operand}{ob:Ob}(l:o.guard=none)(hd:o.dst=some d)(j:Nat.blt d N=true)(t:o.op=.slice T p none none none)(C:P.underlying T=some (.array n e))(y:∀w,(sizeOf e).run P w=.ok 1 w)
  (z:aP E p=some (.ref id g 0 0)) (x:H.get id=some ob) (L:ob.g=g) (B:ALx P G0 N ops K rest ((d,.any)::E) H d (aL3 id n)):AL P G0 N ops K (o::rest) E H:=by
 intro G u a w f M h Q v;refine wpListIn_plain l fun O F=>?_;refine Oper.wpW_in (lN h).1 ?_;obtain ⟨I,J,r,m,s⟩:=f.rel;obtain ⟨b,q,A,D⟩:=nQ (aJ s z) x L;have hdn:d<N:=by simp_all
 have i:(execOp a.eval o).run P w=.ok (.value (.slice (some ⟨b,0,none⟩) n n)) w:=by
  simp only[execOp,t,D,Option.map_none];simp[Instr.sliceAt,run_underlying C,Instr.sureAddr,Instr.sliceBounds,y,Addr.add_lit]
 unfold Oper.wpW;rw[i];show O (a.put o.dst _) w;rw[hd];exact F _ _ (B G u _ w I J (by exact f.defers) (by rw[FD];exact f.size) r m (jB.put (d:=some d) r (Step.refl _ _ _ _) s (.any _) (by rw[f.size];exact j)) ⟨_,aDy a _ (by rw[f.size];omega),b,q,A,rfl⟩ M (lN h).2 Q v)
theorem aFy{f:Nat}{F}{x}{v}(i:o.guard=none)(hd:o.dst=some f)(h:Nat.blt f N=true)(g:f≠d)(q:o.op=.move x)(r:aP E x=some v)(z:ALx P G0 N ops K rest ((f,v)::E) H d F):ALx P G0 N ops K (o::rest) E H d F:=by
 intro G s a w I B p j m k l ⟨c,u,y⟩ C b Q t;refine wpListIn_plain i fun n A=>?_;refine Oper.wpW_in (lN b).1 ?_;have e:(execOp a.eval o).run P w=.ok (.value (a.eval x)) w:=by simp[execOp,q]
 unfold Oper.wpW;rw[e];show n _ w;rw[hd];exact A _ _ (z G s _ w I B (by exact p) (by rw[FD];omega) m k (jB.put (d:=some f) m (Step.refl _ _ _ _) l (aJ l r) (by rw[j];exact h)) ⟨c,by rw[aBp a _ g];exact u,y⟩ C (lN b).2 Q t)
def jW(s:List UInt8):List AV:=s.map fun b=>.pv (.int .u8 b.toNat)
theorem vD(s):(jW s).length=s.length:=aPU _
theorem TK{D:TypeId}{y:Operand}{M m T:Nat}{cells:List AV}{s:ByteArray}(X:o.guard=none)(hd:o.dst=some M)(Z:Nat.blt M N=true)(ho:o.op=.call {callee:=.builtin .copy,args:=#[.tmp d,y],argTypes:=#[D,S]})(hD:P.underlying D=some (.slice e))(hs:∀w,(sizeOf e).run P w=.ok 1 w)
  (hH:H.get id=some ⟨g,n,T,[cells]⟩) (Y:0<n) (hy:aP E y=some (.pv (.str s))) (hm:min s.size n=m)
  (hk:AL P G0 N ops K rest ((M,.pv (.int .i64 m))::E) ((id,⟨g,n,T,[jW (s.data.toList.take m)++cells.drop m]⟩)::H)):ALx P G0 N ops K (o::rest) E H d (aL3 id n):=by
 intro G hG a w I ι O J L hs' he ⟨c,hc,b,cap,t,R⟩ ro A Q hq;refine wpListIn_plain X fun K' hK=>?_;refine Oper.wpW_in (lN A).1 ?_;have e2y:=(aJ he hy).str_inv;have e1:a.eval (.tmp d)=.slice (some ⟨b,0,none⟩) n n:=by simp[Act.eval,hc,R]
 obtain ⟨p1,p2,⟨b',cap',U,C,f2,f3,f4,f5,f5',f6⟩|⟨C,_⟩⟩:=(L.obj id _ hH).cells Y
 rotate_left
 ·rw[t]at C;cases C
 rw[t]at C;cases C;have B:cells.length=n:=p2 cells (by simp);have hms:m<=s.size:=by omega
 have hmn:m<=n:=by omega
 simp only[List.length_singleton]at f5;have hcs:n<=U.size:=by rw[f4];exact Nat.le_mul_of_pos_left _ (by omega)
 have f:min m s.data.size=m:=by have:s.data.size=s.size:=rfl;omega
 have l:((s.extract 0 m).data.map fun b=>Value.int .u8 b.toNat).toList=(s.data.toList.take m).map fun b=>Value.int .u8 b.toNat:=by simp
 have p:=run_storeCells_at P b 0 T ((s.data.toList.take m).map fun b=>Value.int .u8 b.toNat) 0 U w f2 (by grind) (by intro v hv;obtain ⟨b,_,rfl⟩:=List.mem_map.1 hv;rfl);simp only[Nat.add_zero,aPc,List.take_zero,List.nil_append,aPU,aP8,Array.length_toList]at p;rw[f]at p;have W:(jW (s.data.toList.take m)++cells.drop m).length=n:=by
  rw[aPV,vD,aP8,aP9,Array.length_toList,f,B];omega
 obtain ⟨k2,V⟩:=Rel.update (H':=(id,⟨g,n,T,[jW (s.data.toList.take m)++cells.drop m]⟩)::H) (ob':=⟨g,n,T,[jW (s.data.toList.take m)++cells.drop m]⟩)
  (cs' := ((s.data.toList.take m).map (fun b => Value.int .u8 b.toNat) ++ U.toList.drop m).toArray) L hH t f2 (aP0 _) rfl rfl (fun _ => aP0 _) (by
   grind) (by simpa using f5) (by intro r z;rw[aPX]at z;subst z;exact W) (fun i r hi k a' h=>by
    cases i with
    |succ i=>simp at hi
    | zero =>
     simp only[List.getElem?_cons_zero,Option.some.injEq]at hi;subst hi;rw[Nat.zero_mul,aPc];simp only[List.getElem?_toArray];by_cases ck:k<m
     ·rw[List.getElem?_append_left (by rw[vD,aP8,Array.length_toList,f];exact ck),jW,aPe]at h;rw[List.getElem?_append_left (by rw[aPU,aP8,Array.length_toList,f];exact ck),aPe];cases e:(s.data.toList.take m)[k]? with
      |none=>rw[e]at h;cases h
      |some q =>
       rw[e]at h;cases h;exact⟨.int .u8 q.toNat,rfl,rfl,.pv (.int _ _)⟩
     rw[List.getElem?_append_right (by rw[vD,aP8,Array.length_toList,f];omega),vD,aP8,Array.length_toList,f,List.getElem?_drop,show m+(k - m)=k by omega]at h;obtain ⟨u,q1,q2,q3⟩:=f6 0 cells rfl k a' h;rw[Nat.zero_mul,aPc]at q1;refine⟨u,?_,q2,q3⟩;rw[List.getElem?_append_right (by rw[aPU,aP8,Array.length_toList,f];omega),aPU,aP8,Array.length_toList,f,List.getElem?_drop,show m+(k - m)=k by omega]
     simpa using q1) (get_cons_same _ _ _) (fun j hj=>get_cons_other _ _ hj)
 have F:Nat.min s.size n=m:=hm;unfold Oper.wpW execOp;simp only[ho,resolve,invoke,builtin,Sem.run_bind,Sem.run_pure,Result.andThen_ok,List.map_toArray,List.map_cons,List.map_nil,e1,e2y,Builtin.copy_,run_underlying hD,hs];simp only[List.getElem?_toArray,List.getElem?_cons_zero,List.getElem?_cons_succ,run_underlying hD,Builtin.lenOf,Builtin.firstCells,Sem.run_bind,Sem.run_pure,Result.andThen_ok,hs,F,l,p];show K' (a.put o.dst _) _;rw[hd];refine hK _ _ (hk G hG _ _ ⟨?_,?_,I,ι,k2,hs'.trans V,jB.put (d:=some M) L V he (.pv (.int _ _)) (by rw[J];exact Z)⟩ ro (lN A).2 Q hq)
 ·rw[jC];exact O.step L V
 rw[FD];exact J
theorem aIt{s A:Nat}{bs:List UInt8}{r:ByteArray}(t:o.guard=none)(hd:o.dst=some s)(J:Nat.blt s N=true)(ho:o.op=.convert S T (.tmp d))(hS:P.underlying S=some (.slice e))(M:P.underlying e=some (.int .u8))(hT:P.underlying T=some .string)
  (U:H.get id=some ⟨g,n,A,[jW bs]⟩) (B:0<n) (z:(⟨bs.toArray⟩:ByteArray)=r) (hk:AL P G0 N ops K rest ((s,.pv (.str r))::E) H):ALx P G0 N ops K (o::rest) E H d (aL3 id n):=by
 intro G Z a w I X C p y F he ⟨c,hc,b,cap,i,D⟩ ro l Q W;refine wpListIn_plain t fun K' V=>?_;refine Oper.wpW_in (lN l).1 ?_;have e1:a.eval (.tmp d)=.slice (some ⟨b,0,none⟩) n n:=by simp[Act.eval,hc,D]
 obtain ⟨p1,p2,⟨b',cap',cs,m,f2,f3,f4,f5,f5',Y⟩|⟨m,_⟩⟩:=(y.obj id _ U).cells B
 rotate_left
 ·rw[i]at m;cases m
 rw[i]at m;cases m;have h:bs.length=n:=by rw[<-vD bs];simp_all
 subst z;have hl:(loadCells ⟨b,0,none⟩ n).run P w=.ok ((bs.map fun b=>(b.toNat:Int)).map (Value.int .u8)).toArray w:=by
  have h0:=run_loadCells_list (P:=P) w ⟨b,0,none⟩ ((bs.map fun b=>(b.toNat:Int)).map (Value.int .u8)) (fun j v R=>by
   rw[List.map_map,aPe]at R;obtain ⟨q,L,rfl⟩:=Option.map_eq_some_iff.1 R;rw[Addr.add_lit,aPc,cell_of_row w b _ cs _ (0,0) f2];obtain ⟨u,O,q2,q3⟩:=Y 0 (jW bs) rfl j (.pv (.int .u8 q.toNat)) (by rw[jW,aPe,L];rfl);rw[Nat.zero_mul,aPc]at O;rw[O,q3.int_inv];rfl)
  rwa [aPU,aPU,h]at h0
 have k:(execOp a.eval o).run P w=.ok (.value (.string ⟨bs.toArray⟩)) w:=by
  simp only[execOp,ho,e1,Sem.run_bind];rw[run_convert_bytes_string w S T e _ _ n hS M hT,run_bytesToString w _ _ n _ hl,foldl_push_bytes];have e3:(bs.map fun b=>(b.toNat:Int)).map (fun n=>UInt8.ofNat n.toNat)=bs:=by
   rw[List.map_map]
   conv=>rhs;rw[<-List.map_id bs]
   refine List.map_congr_left fun b _=>?_;simp
  rw[e3];simp[ByteArray.empty,ByteArray.emptyWithCapacity];rfl
 unfold Oper.wpW;rw[k];show K' (a.put o.dst _) w;rw[hd];exact V _ _ (hk G Z _ w ⟨by rw[jC];exact C,by rw[FD];exact p,I,X,y,F,jB.put (d:=some s) y (Step.refl _ _ _ _) he (.pv (.str _)) (by rw[p];exact J)⟩ ro (lN l).2 Q W)
end
end
end Go.Abs
section
namespace Go.Proofs
open Go.RowKit Go.Sort Go.Shelf

end Go.Proofs
namespace Go.Proofs.YtmdicgjnmfolfaaGreatDoor
open Go.Proofs.Tryz
open Go.Abs
def pick(L:List ByteArray)(seen:List Nat):List ByteArray:=seen.map fun i=>(L[i]?).getD ⟨#[]⟩
end Go.Proofs.YtmdicgjnmfolfaaGreatDoor
end
section
namespace Go.Proofs
open Go.RowKit Go.Sort Go.Shelf
def aPI:Go.Shelf.Ren:=⟨fun|264=>144|n=>n,fun|53=>122|46=>125|n=>n,fun|n=>n⟩
theorem aPM:Go.Proofs.Lays.n264 Tryz.prog aPI:={
  mixed:=by kernel_rfl
  f264:=Tryz.func144.trans (congrArg some (by kernel_rfl))
  t46:=ER
  a46:=XL
  z46:=TQ
  v46:=GU
  t53:=jM
  a53:=IM
  z53:=ET
  v53:=GW}
end Go.Proofs
namespace Go.Proofs.YtmdicgjnmfolfaaGreatDoor
open Go.Proofs.Tryz
open Go.Abs
variable{x i:Nat}{H:aH}
abbrev uv(n:Nat):AV:=.pv (.int .u64 (n:Int))
theorem VK(x y:Nat)(hx:x<18446744073709551616)(hy:y<18446744073709551616)(H:aH):aI Tryz.prog 144 [uv x,uv y] H (fun r H'=>r=.tup [uv (x*y / 18446744073709551616),uv (x*y % 18446744073709551616)]/\H'=H) :=Go.Abs.mul64_c aPM x y hx hy H
theorem aBa(a k:Nat){m:Int}(h:m.toNat=k):(a:Int) / 2 ^ m.toNat=((a / 2 ^ k:Nat):Int):=by
 rw[h]
 push_cast
 rfl
def HO(x:Nat):Nat:=x*2862933555777941757 % 18446744073709551616
def aHw(x:Nat):Nat:=HO x ^^^ (HO x / 2 ^ 32)
def MJ(x:Nat):Nat:=aHw x*3935559000370003845 % 18446744073709551616
def JO(x:Nat):Nat:=MJ x ^^^ (MJ x / 2 ^ 29)
theorem CV(x:Nat):HO x<18446744073709551616:=Nat.mod_lt _ (by decide)
theorem CU(x:Nat):MJ x<18446744073709551616:=Nat.mod_lt _ (by decide)
theorem uY(k:Nat)(h:x<18446744073709551616):x / 2 ^ k<18446744073709551616:=Nat.lt_of_le_of_lt (Nat.div_le_self _ _) h
theorem BE{y:Nat}(h:x<18446744073709551616)(h':y<18446744073709551616):x ^^^ y<18446744073709551616:=Nat.xor_lt_two_pow (n:=64) h h'
theorem aHv(x:Nat):aHw x<18446744073709551616:=BE (CV x) (uY 32 (CV x))
theorem SR(x:Nat):JO x<18446744073709551616:=BE (CU x) (uY 29 (CU x))
theorem aMs(x:Nat)(hx:x<18446744073709551616)(H:aH):aI Tryz.prog 104 [uv x] H (fun r H'=>r=uv (JO x)/\H'=H):=by refine Pu ?_;exact Bd func104 rfl ntmps104<|Sr<|Dd aL<|Zz<|Sr<|Dd aE<|Dd (by exact aA rfl rfl call144 rfl (VK x 2862933555777941757 hx (by decide) _))<|Dd aE<|Dd fS<|Dd fS<|Dd aL<|Zz<|Sr<|Dd aE<|Dd aE<|Dd (by exact CQ rfl rfl rfl (by decide) (by decide) (aBa (HO x) 32 rfl))<|Dd (by exact mC rfl (by simp) rfl rfl (bits_xor_u64_nat (HO x) (HO x / 2 ^ 32) (CV x) (uY 32 (CV x))))<|Dd aL<|Zz<|Sr<|Dd aE<|Dd (by exact aA rfl rfl call144 rfl (VK (aHw x) 3935559000370003845 (aHv x) (by decide) _))<|Dd aE<|Dd fS<|Dd fS<|Dd aL<|Zz<|Sr<|Dd aE<|Dd aE<|Dd (by exact CQ rfl rfl rfl (by decide) (by decide) (aBa (MJ x) 29 rfl))<|Dd (by exact mC rfl (by simp) rfl rfl (bits_xor_u64_nat (MJ x) (MJ x / 2 ^ 29) (CU x) (uY 29 (CU x))))<|Dd aL<|Zz<|aB<|Rt<|Qq
def sM(n:Nat):Int:=if n<10 then 48+(n:Int)else 87+(n:Int)
def jK(i:Nat):List AV:=(List.range 16).map fun j=>.pv (.int .u8 (if j<i then sM j else 0))
theorem uZ(i:Nat):(jK i).length=16:=by simp[jK]
theorem EG{j:Nat}(h:j<16):(jK i)[j]?=some (.pv (.int .u8 (if j<i then sM j else 0))):=by rw[jK,aPe,List.getElem?_range h];rfl
theorem NB(h:i<16):(jK i).set i (.pv (.int .u8 (sM i)))=jK (i+1):=by
 apply List.ext_getElem?;intro j;by_cases hj:j<16
 ·rw[EG hj];by_cases e:i=j
  ·subst e;rw[List.getElem?_set_self (by rw[uZ];exact h),aPT (Nat.lt_succ_self _)]
  rw[List.getElem?_set_ne e,EG hj];by_cases h1:j<i
  ·rw[aPT h1,aPT (by omega)]
  rw[aPS h1,aPS (by omega)]
 rw[List.getElem?_eq_none (by rw[List.length_set,uZ];omega),List.getElem?_eq_none (by rw[uZ];omega)]
theorem ZO(h:i<16)(x:AV){y:AV}(hy:y=.pv (.int .u8 (sM i))):((jK i).set i x).set i y=jK (i+1):=by rw[List.set_set,hy,NB h]
theorem rJ{n T:Nat}:∀r∈(bx n T (jK i)).rows,∀a∈r,Clo H a:=by intro r hr a ha;rw[bx,aPX]at hr;subst hr;obtain ⟨j,_,rfl⟩:=List.mem_map.1 ha;exact .pv _
theorem ZP:∀a∈jK i,Clo H a:=by intro a ha;obtain ⟨j,_,rfl⟩:=List.mem_map.1 ha;exact .pv _
theorem aAy:((jK 16).drop 0).take 16=jK 16:=rfl
theorem aF0(H:aH):aI Tryz.prog 105 [] H (fun r H'=>r=.agg (jK 16)/\H'=H):=by
 refine Pu ?_;refine Bd func105 rfl ntmps105<|Sr<|Dd (by exact bW (id:=0) rfl Z6 rfl rfl)<|Zz<|Sr<|Dd (by exact bW (id:=1) rfl Z6 rfl rfl)<|Zz<|Sq<|Sr<|Dd aE<|Zz<|aG ?_;refine bT (σ:=Nat) (fun i=>([(0,.ref 0 0 0 0),(1,.ref 1 0 0 0),(3,iv (i:Int))],[(1,bx 16 128 (jK i)),(0,bx 16 128 (jK 0))])) (fun i=>i<=16) (fun i=>16 - i) 0 (aPb _) ?_ ?_
 ·exact(dA.wk (Ea<|Ea<|Eb<|trivial) (Hc rJ<|Hc rJ<|trivial) trivial)
 intro i hi;refine Sr<|Dd cZ<|Zz<|Sq ?_;refine Cn ?_ ?_<;>intro hc1
 ·have hlt:i<16:=by have:=aPQ hc1;omega
  refine aC<|Sq<|aG<|Sr<|Dd aE<|Dd aL<|Zz<|Sr<|Dd aE<|Dd aE<|Dd mI<|Dd (by exact hU rfl underlying3 fQ rfl (by exact wu8 (by omega) (by omega)))<|Dd (by exact eJ rfl vM cL rfl rfl rfl rfl (by omega) (by exact aP5 _) (by omega) rfl)<|Uu (by exact bH rfl cL rfl rfl rfl rfl rfl rfl (by rw[uZ];omega) (show (jK i).set (0+i*1) (.pv (.int .u8 (48+(i:Int))))=(jK i).set i (.pv (.int .u8 (48+(i:Int))))by rw[aPc,Nat.mul_one]) rfl)<|Zz<|Sr<|Dd aE<|Dd DD<|Zz ?_;refine Cn ?_ ?_<;>intro hc2
  ·have h10:¬ i<10:=by have:=aPQ hc2;omega
   refine Rg<|Dd aE<|Dd aE<|Dd mI<|Dd (by exact dW rfl rfl rfl (by exact kK (by omega) (by omega)))<|Dd (by exact hU rfl underlying3 fQ rfl (by exact wu8 (by omega) (by omega)))<|Dd (by exact eJ rfl vM cL rfl rfl rfl rfl (by omega) (by exact aP5 _) (by omega) rfl)<|Uu (by exact bH rfl cL rfl rfl rfl rfl rfl rfl (by rw[List.length_set,uZ];omega) (show ((jK i).set i (.pv (.int .u8 (48+(i:Int))))).set (0+i*1) (.pv (.int .u8 (97+(i:Int) - 10)))=jK (i+1)by rw[aPc,Nat.mul_one];exact ZO hlt _ (by rw[sM,aPS (by have:=aPQ hc2;omega)];congr 2;omega)) rfl)<|Zz<|Rg<|Dd mI<|Dd aE<|Zz ?_;exact⟨i+1,by omega,by omega,(dA.wk (Ea<|Ea<|Eb<|trivial) (Hc rJ<|Hc rJ<|trivial) trivial)⟩
  have h10:i<10:=by have:=aPR hc2;omega
  refine aC<|Rg<|Dd mI<|Dd aE<|Zz ?_;refine⟨i+1,by omega,by omega,?_⟩;have e:(jK i).set i (.pv (.int .u8 (48+(i:Int))))=jK (i+1):=by
   rw[<-NB hlt,sM,aPT h10]
  rw[e];exact(dA.wk (Ea<|Ea<|Eb<|trivial) (Hc rJ<|Hc rJ<|trivial) trivial)
 have hge:i=16:=by have:=aPR hc1;omega
 subst hge;refine aY<|Sr<|Dd (by exact aM rfl isAgg128 TP rfl rfl rfl rfl aAy rfl)<|Uu (lG TP)<|Zz<|aB ?_;refine eG (H':=[]) (.inr rfl) rfl (gD rfl isAgg128 TP rfl rfl rfl aAy rfl) (Fin.wk (.agg ZP) trivial trivial) ?_;exact Qq
end Go.Proofs.YtmdicgjnmfolfaaGreatDoor
end
namespace Go.Proofs.YtmdicgjnmfolfaaGreatDoor
open Go.Proofs.Tryz
open Go.Abs
variable{l:List UInt8}{st i n a:Nat}{H:aH}
def sQ(l:List UInt8):Nat:=l.foldl (fun n b=>n*256+b.toNat) 0
def kS(l:List UInt8):List UInt8:=l.take 8++List.replicate (8 - l.length) 0
theorem U6(l:List UInt8):(kS l).length=8:=by rw[kS,aPV,aP8,List.length_replicate];omega
theorem RC(l:List UInt8)(b:UInt8):sQ (l++[b])=sQ l*256+b.toNat:=by rw[sQ,List.foldl_append];rfl
theorem aBI(l:List UInt8):sQ l<256 ^ l.length:=by
 suffices h:∀(l:List UInt8) (n:Nat),l.foldl (fun n b=>n*256+b.toNat) n<(n+1)*256 ^ l.length by
  have:=h l 0;rw[aPc,Nat.one_mul]at this;exact this
 intro l
 induction l with
 |nil=>intro n;simp
 |cons b r ih =>
  intro n;have h1:=ih (n*256+b.toNat);have h2:b.toNat<256:=b.toNat_lt;refine Nat.lt_of_lt_of_le h1 ?_;rw[aPW,Nat.pow_succ,Nat.mul_comm (256 ^ r.length) 256,<-Nat.mul_assoc];exact Nat.mul_le_mul_right _ (by omega)
theorem NQ(h:l.length<=8):sQ l<18446744073709551616:=by refine Nat.lt_of_lt_of_le (aBI l) ?_;exact Nat.le_trans (Nat.pow_le_pow_right (by decide) h) (by decide)
theorem XB(h:l.length<=7):sQ l<72057594037927936:=by refine Nat.lt_of_lt_of_le (aBI l) ?_;exact Nat.le_trans (Nat.pow_le_pow_right (by decide) h) (by decide)
def NA:Nat->List UInt8->Nat
 |s,a::b::c::d::e::f::g::h::r=>NA (JO (s ^^^ sQ [a,b,c,d,e,f,g,h])) r
 |s,l=>JO (s ^^^ sQ (kS l))
theorem QY(s:Nat)(h:8<=l.length):NA s l=NA (JO (s ^^^ sQ (kS (l.take 8)))) (l.drop 8):=by
 match l,h with
 |a::b::c::d::e::f::g::h::r,_=>rfl
theorem QZ(s:Nat)(h:l.length<8):NA s l=JO (s ^^^ sQ (kS l)):=by
 match l,h with
 | [],_=>rfl
 | [a],_=>rfl
 | [a,b],_=>rfl
 | [a,b,c],_=>rfl
 | [a,b,c,d],_=>rfl
 | [a,b,c,d,e],_=>rfl
 | [a,b,c,d,e,f],_=>rfl
 | [a,b,c,d,e,f,g],_=>rfl
 |_::_::_::_::_::_::_::_::r,h=>simp only[aPW]at h;omega
def MH(st j:Nat):Nat:=st / 2 ^ (60 - 4*j) % 16
def uS(st:Nat):List UInt8:=(List.range 16).map fun j=>UInt8.ofNat (sM (MH st j)).toNat
def sL(st i:Nat):List AV:=(List.range 16).map fun j=>.pv (.int .u8 (if j<i then sM (MH st j)else 0))
theorem zL(st i:Nat):(sL st i).length=16:=by simp[sL]
theorem MF{j:Nat}(h:j<16):(sL st i)[j]?=some (.pv (.int .u8 (if j<i then sM (MH st j)else 0))):=by rw[sL,aPe,List.getElem?_range h];rfl
theorem Y0(h:i<16):(sL st i).set i (.pv (.int .u8 (sM (MH st i))))=sL st (i+1):=by
 apply List.ext_getElem?;intro j;by_cases hj:j<16
 ·rw[MF hj];by_cases e:i=j
  ·subst e;rw[List.getElem?_set_self (by rw[zL];exact h),aPT (Nat.lt_succ_self _)]
  rw[List.getElem?_set_ne e,MF hj];by_cases h1:j<i
  ·rw[aPT h1,aPT (by omega)]
  rw[aPS h1,aPS (by omega)]
 rw[List.getElem?_eq_none (by rw[List.length_set,zL];omega),List.getElem?_eq_none (by rw[zL];omega)]
theorem aE8:∀a∈sL st i,Clo H a:=by intro a ha;obtain ⟨j,_,rfl⟩:=List.mem_map.1 ha;exact .pv _
theorem aFr:∀a∈jW l,Clo H a:=by intro a ha;obtain ⟨j,_,rfl⟩:=List.mem_map.1 ha;exact .pv _
theorem IE{T:Nat}{l:List AV}(h:∀a∈l,Clo H a):∀r∈(bx n T l).rows,∀a∈r,Clo H a:=by intro r hr a ha;rw[bx,aPX]at hr;subst hr;exact h a ha
theorem BU(st j:Nat):MH st j<16:=Nat.mod_lt _ (by decide)
theorem aAp(h:n<16):0<=sM n/\sM n<256:=by
 unfold sM
 split<;>omega
theorem Y1(st:Nat):sL st 16=jW (uS st):=by rw[sL,jW,uS,List.map_map];refine List.map_congr_left fun j hj=>?_;have hj':=List.mem_range.1 hj;have hb:=aAp (BU st j);simp only[Function.comp];rw[aPT hj',UInt8.toNat_ofNat'];have h2:(sM (MH st j)).toNat % 2 ^ 8=(sM (MH st j)).toNat:=Nat.mod_eq_of_lt (by omega);rw[h2,Int.toNat_of_nonneg hb.1]
def OV(n:Nat):Nat:=1181783497276652981 ^^^ n
def qS(s:ByteArray):ByteArray:=⟨(uS (NA (OV s.size) s.data.toList)).toArray⟩
theorem aAx(h:n<18446744073709551616):OV n<18446744073709551616:=BE (by decide) h
theorem orN{b:Nat}(ha:a<72057594037927936)(hb:b<256):bits .or .u64 ((a*256:Nat):Int) (b:Int)=((a*256+b:Nat):Int):=by rw[bits_or_u64_nat _ _ (by omega) (by omega)];have h:=Nat.two_pow_add_eq_or_of_lt (i:=8) (b:=b) (by omega) a;rw[Nat.mul_comm]at h;rw[show a*256=a*2 ^ 8 from rfl,h]
theorem aNv(h:a<72057594037927936):IntKind.u64.wrap ((a:Int)*2 ^ ((8:Int)).toNat)=((a*256:Nat):Int):=by show IntKind.u64.wrap ((a:Int)*256)=_;rw[IntKind.wrap_u64];omega
theorem T9(h:n<18446744073709551616):IntKind.u64.wrap (n:Int)=(n:Int):=by rw[IntKind.wrap_u64];omega
theorem aD0(s:ByteArray)(st:Nat)(hst:st<18446744073709551616):aI Tryz.prog 103 [sv s,.ref 903 0 0 0] [(903,bx 1 122 [uv st])] (fun r H'=>r=.tup []/\H'=[(903,bx 1 122 [uv (JO (st ^^^ sQ (kS s.data.toList)))])]):=by
 have hp:(List.replicate 8 (AV.pv (.int .u8 0)))=jW (List.replicate 8 0):=by rw[jW,List.map_replicate];rfl
 have hm:min s.size 8<=8:=by omega
 have hsl:s.data.toList.length=s.size:=by simp
 have hcell:jW (s.data.toList.take (min s.size 8))++(List.replicate 8 (AV.pv (.int .u8 0))).drop (min s.size 8)=jW (kS s.data.toList):=by
  rw[hp,jW,jW,<-List.map_drop,<-List.map_append,List.drop_replicate,jW,kS,hsl];congr 2
  ·by_cases h:s.size<=8
   ·rw[Nat.min_eq_left h,List.take_of_length_le (by omega),List.take_of_length_le (by omega)]
   rw[Nat.min_eq_right (by omega)]
  congr 1;omega
 refine Bd func103 rfl ntmps103<|Sr<|Dd (by exact bW (id:=3) rfl aLo rfl rfl)<|Zz<|Sq<|Rg ?_;refine GL (id:=3) rfl rfl rfl rfl underlying123 cL rfl rfl rfl ?_;refine aFy rfl rfl rfl (by decide) rfl rfl ?_;refine TK rfl rfl rfl rfl dH cL rfl (by decide) rfl rfl ?_;refine Zz<|Sr<|Dd aL<|Zz<|Sq<|Sr<|Dd aE<|Zz<|aG ?_;refine bT (σ:=Nat) (fun i=>([(0,sv s),(1,.ref 903 0 0 0),(3,.ref 3 0 0 0),(4,uv (sQ ((kS s.data.toList).take i))),(9,iv (i:Int))],[(3,bx 8 123 (jW (kS s.data.toList))),(903,bx 1 122 [uv st])])) (fun i=>i<=8) (fun i=>8 - i) 0 (aPb _) ?_ ?_
 ·rw[<-hcell];refine dA.wk (Eb<|Ea<|Ea<|Eb<|Eb<|trivial) (Hc ?_<|Hb<|trivial) ⟨rfl,trivial⟩;rw[hcell];exact IE aFr
 intro i hi;have hpl:=U6 s.data.toList;have hti:((kS s.data.toList).take i).length<=8:=by rw[aP8];omega
 refine Sr<|Dd cZ<|Zz<|Sq ?_;refine Cn ?_ ?_<;>intro hc1
 ·have hlt:i<8:=by have:=aPQ hc1;omega
  obtain ⟨b,hb⟩:∃b,(kS s.data.toList)[i]?=some b:=⟨_,aPZ (by omega)⟩;have hb2:(jW (kS s.data.toList))[i]?=some (.pv (.int .u8 (b.toNat:Int))):=by rw[jW,aPe,hb];rfl
  have ht7:((kS s.data.toList).take i).length<=7:=by rw[aP8];omega
  have ha:=XB ht7;have hb3:=b.toNat_lt;refine aC<|Sq<|aG<|Sr<|Dd aE<|Dd aL<|Zz<|Rg<|Dd aE<|Dd (by exact FH rfl rfl rfl (by decide) (by decide) (aNv ha))<|Dd aE<|Dd (by exact eJ rfl underlying123 cL rfl rfl rfl rfl (by omega) (by exact aP5 _) (by omega) rfl)<|Dd (by exact aK rfl A7 rfl rfl rfl rfl (by rw[aPc,Nat.mul_one];exact hb2))<|Dd (by exact hU rfl fQ jM rfl (T9 (by omega)))<|Dd (by exact mC rfl (by simp) rfl rfl (orN ha (by omega)))<|Dd aL<|Zz<|Rg<|Dd mI<|Dd aE<|Zz ?_;refine⟨i+1,by omega,by omega,?_⟩;have e:sQ ((kS s.data.toList).take (i+1))=sQ ((kS s.data.toList).take i)*256+b.toNat:=by rw[List.take_add_one,hb,Option.toList_some,RC]
  rw[e];exact(dA.wk (Eb<|Ea<|Ea<|Eb<|Eb<|trivial) (Hc (IE aFr)<|Hb<|trivial) ⟨rfl,trivial⟩)
 have hge:i=8:=by have:=aPR hc1;omega
 subst hge;have e:(kS s.data.toList).take 8=kS s.data.toList:=List.take_of_length_le (by omega);rw[e];refine aY<|Rg<|Dd (bC IM)<|Dd aE<|Dd (by exact mC rfl (by simp) rfl rfl (bits_xor_u64_nat st _ hst (NQ (Nat.le_of_eq hpl))))<|Dd (by exact aA rfl rfl call104 rfl (aMs _ (BE hst (NQ (Nat.le_of_eq hpl))) _))<|Uu (lG ET)<|Zz ?_;exact sI (H':=[(903,bx 1 122 [uv (JO (st ^^^ sQ (kS s.data.toList)))])]) (.inl rfl) rfl (Fin.wk (by simp) (Hb<|trivial) ⟨rfl,trivial⟩) ⟨rfl,rfl⟩
theorem WE(s:ByteArray)(i j:Nat):(s.extract i j).data.toList=(s.data.toList.drop i).take (j - i):=by rw[ByteArray.data_extract,Array.toList_extract,List.extract_eq_take_drop]
theorem dAt(st i:Nat):(jK 16)[0+MH st i*1]?=some (.pv (.int .u8 (sM (MH st i)))):=by rw[aPc,Nat.mul_one,EG (BU st i),aPT (BU st i)]
theorem aO3(ha:a<18446744073709551616):bits .and .u64 (a:Int) 15=((a % 16:Nat):Int):=by have h:=bits_and_u64_nat a 15 ha (by decide);rw[Nat.and_two_pow_sub_one_eq_mod a 4]at h;exact h
theorem UG(s:ByteArray)(H:aH)(hs:s.size<4611686018427387904):aI Tryz.prog 36 [sv s] H (fun r H'=>r=sv (qS s)/\H'=H):=by
 refine Pu ?_;have hd0:OV s.size<18446744073709551616:=aAx (by omega);have hsl:s.data.toList.length=s.size:=by simp
 refine Bd func36 rfl ntmps36<|Sr<|Dd aL<|Zz<|Sr<|Dd aE<|Dd (jV underlying9)<|Dd (by exact hU rfl underlying3 jM rfl (T9 (by omega)))<|Dd (by exact mC rfl (by simp) rfl rfl (bits_xor_u64_nat 1181783497276652981 s.size (by decide) (by omega)))<|Dd (by exact bW (id:=903) rfl aLp rfl rfl)<|Uu (lG ET)<|Zz<|Sr<|Dd (by exact gJ rfl rfl)<|Dd aL<|Zz<|Sq<|aG ?_;refine jA (fun(x:ByteArray) (st:Nat)=>([(0,sv x),(3,.ref 903 0 0 0),(4,.clo 103 [.ref 903 0 0 0])],[(903,bx 1 122 [uv st])])) (fun x st=>st<18446744073709551616/\x.size<=s.size/\NA st x.data.toList=NA (OV s.size) s.data.toList) (fun x st=>x.size) s (OV s.size) ⟨hd0,aP0 _,rfl⟩ ?_ ?_
 ·exact Wk
 rintro x st ⟨hst,hx,hD⟩;have hxl:x.data.toList.length=x.size:=by simp
 refine Sq<|Sr<|Dd aE<|Dd (jV underlying9)<|Dd DD<|Zz ?_;refine Cn ?_ ?_<;>intro hc1
 ·have h8:8<=x.size:=by have:=aPQ hc1;omega
  refine aC<|Sq<|aG<|Rg<|Dd aE<|Dd aE<|Dd (by exact cO (l:=0) (h:=8) rfl underlying9 rfl rfl rfl (by omega) (by omega) rfl)<|Dd (by exact cU rfl rfl rfl (dK.clo call103 (aD0 (x.extract 0 8) st hst)))<|Zz<|Rg<|Dd aE<|Dd (by exact cO (l:=8) (h:=x.size) rfl underlying9 rfl rfl rfl (by omega) (by omega) rfl)<|Da ?_;refine⟨x.extract 8 x.size,JO (st ^^^ sQ (kS (x.extract 0 8).data.toList)),⟨SR _,by rw[ByteArray.size_extract];omega,?_⟩,by rw[ByteArray.size_extract];omega,Wk⟩;rw[<-hD,QY st (by omega:8<=x.data.toList.length),WE,WE,List.drop_zero,List.take_of_length_le (l:=x.data.toList.drop 8) (by rw[aP9];omega)]
 have h8:x.size<8:=by have:=aPR hc1;omega
 have hL:=QZ st (by omega:x.data.toList.length<8);obtain ⟨S,hS⟩:∃S,S=JO (st ^^^ sQ (kS x.data.toList)):=⟨_,rfl⟩;have hSl:S<18446744073709551616:=by rw[hS];exact SR _
 have hres:qS s=⟨(uS S).toArray⟩:=by rw[qS,<-hD,hL,hS]
 rw[hres];refine aY<|Sr<|Dd aE<|Dd aE<|Dd (by exact cU rfl rfl rfl (dK.clo call103 (aD0 x st hst)))<|Zz<|Sr<|Dd (by exact aA rfl rfl call105 rfl (aF0 _))<|Dd (by exact bW (id:=5) rfl Z6 rfl rfl)<|Uu (lG TP)<|Zz<|Sr<|Dd (by exact bW (id:=6) rfl Z6 rfl rfl)<|Zz<|Sq<|Sr<|Dd aE<|Zz<|aG ?_;rw[<-hS];refine bT (σ:=Nat) (fun i=>([(3,.ref 903 0 0 0),(5,.ref 5 0 0 0),(6,.ref 6 0 0 0),(26,iv (i:Int))],[(6,bx 16 128 (sL S i)),(5,bx 16 128 (jK 16)),(903,bx 1 122 [uv S])])) (fun i=>i<=16) (fun i=>16 - i) 0 (aPb _) ?_ ?_
 ·exact(dA.wk (Ea<|Ea<|Ea<|Eb<|trivial) (Hc (IE aE8)<|Hc (IE ZP)<|Hb<|trivial) trivial)
 intro i hi;refine Sr<|Dd cZ<|Zz<|Sq ?_;refine Cn ?_ ?_<;>intro hc2
 ·have hlt:i<16:=by have:=aPQ hc2;omega
  refine aC<|Sq<|aG<|Sr<|Dd aE<|Dd aL<|Zz<|Rg<|Dd aE<|Dd (bC IM)<|Dd aE<|Dd (by exact kO rfl rfl rfl (by exact kK (by omega) (by omega)))<|Dd (by exact dW rfl rfl rfl (by exact kK (by omega) (by omega)))<|Dd (by exact CQ rfl rfl rfl (by omega) (by simp[IntKind.bits];omega) (aBa S (60 - 4*i) (by omega)))<|Dd (by exact mC rfl (by simp) rfl rfl (aO3 (uY _ hSl)))<|Dd (by exact eJ rfl vM cL rfl rfl rfl rfl (by omega) (aP5 _) (BU S i) rfl)<|Dd (by exact aK rfl A7 rfl rfl rfl rfl (dAt S i))<|Dd (by exact eJ rfl vM cL rfl rfl rfl rfl (by omega) (by exact aP5 _) (by omega) rfl)<|Uu (by exact bH rfl cL rfl rfl rfl rfl rfl rfl (by rw[zL];omega) (show (sL S i).set (0+i*1) (.pv (.int .u8 (sM (MH S i))))=sL S (i+1)by rw[aPc,Nat.mul_one];exact Y0 hlt) rfl) ?_;refine Zz<|Rg<|Dd mI<|Dd aE<|Zz ?_;exact⟨i+1,by omega,by omega,(dA.wk (Ea<|Ea<|Ea<|Eb<|trivial) (Hc (IE aE8)<|Hc (IE ZP)<|Hb<|trivial) trivial)⟩
 have hge:i=16:=by have:=aPR hc2;omega
 subst hge;refine aY<|Sq<|Rg ?_;refine GL (id:=6) rfl rfl rfl rfl vM cL rfl rfl rfl ?_;refine aIt (bs:=uS S) rfl rfl rfl rfl dH fQ underlying9 (by rw[<-Y1];rfl) (by decide) rfl ?_;exact Dd aL<|Zz<|aB<|Rt<|Qq
end Go.Proofs.YtmdicgjnmfolfaaGreatDoor
namespace Go.Abs
variable{ι:kJ}{H H' G0 K:aH}{v:Value}{a:AV}{E d:dB}{id b p N:Nat}{x:Go.Loop}{P:Program}
def aL1(H' H:aH):Prop:=∀j o',H'.get j=some o'->∃o,H.get j=some o/\o'.g=o.g/\o'.sz=o.sz/\o'.rows.length=o.rows.length
theorem VRel.restrictG{w:World}{I:Nat->Prop}(r:aL1 H' H)(h:VRel w I ι H v a):Clo H' a->VRel w I ι H' v a:=by
 induction h with
 |any v=>exact fun _=>.any v
 |pv h=>exact fun _=>.pv h
 | ref o f p g m =>
  intro c;cases c with
  |ref c =>
   obtain ⟨k,d⟩:=Option.isSome_iff_exists.1 c;obtain ⟨u,e,x,t,s⟩:=r _ _ d;rw[f]at e;cases e;exact .ref k d (by omega) g (fun y=>by simp_all)
 |pad b D A M f p g K m N O=>exact fun _=>.pad b D A M f p g K m N O
 | osl o f p g m =>
  intro c;cases c with
  |osl c =>
   obtain ⟨k,d⟩:=Option.isSome_iff_exists.1 c;obtain ⟨u,e,x,t,s⟩:=r _ _ d;rw[f]at e;cases e;exact .osl k d (by omega) g (fun y=>by simp_all)
 |clo n h l =>
  intro c;cases c with|clo c=>exact .clo n fun i v a q j=>l i v a q j (c a (aP4 j))
 |bnd n h l =>
  intro c;cases c with|bnd c=>exact .bnd n fun i v a q j=>l i v a q j (c a (aP4 j))
 |agg n f h l =>
  intro c;cases c with|agg c=>exact .agg n f fun i v a q j=>l i v a q j (c a (aP4 j))
 |tup n h l =>
  intro c;cases c with|tup c=>exact .tup n fun i v a q j=>l i v a q j (c a (aP4 j))
 | mp o f p g m =>
  intro c;cases c with
  |mp c =>
   obtain ⟨k,d⟩:=Option.isSome_iff_exists.1 c;obtain ⟨u,e,x,t,s⟩:=r _ _ d;rw[f]at e;cases e;exact .mp k d (by omega) g (fun y=>by simp_all)
 | it o f p g m =>
  intro c;cases c with
  |it c =>
   obtain ⟨k,d⟩:=Option.isSome_iff_exists.1 c;obtain ⟨u,e,x,t,s⟩:=r _ _ d;rw[f]at e;cases e;exact .it k d (by omega) g (fun y=>by simp_all)
 | yld o f p g m =>
  intro c;cases c with
  |yld c =>
   obtain ⟨k,d⟩:=Option.isSome_iff_exists.1 c;obtain ⟨u,e,x,t,s⟩:=r _ _ d;rw[f]at e;cases e;exact .yld k d (by omega) g (fun y=>by simp_all)
 | osc o f p g m =>
  intro c;cases c with
  |osc c =>
   obtain ⟨k,d⟩:=Option.isSome_iff_exists.1 c;obtain ⟨u,e,x,t,s⟩:=r _ _ d;rw[f]at e;cases e;exact .osc k d (by omega) g (fun y=>by simp_all)
theorem VRel.freezeG{w}{I}{ι}{H H'}{id}{ob}{ps}(p:Rel I ι H w)(s:aL1 H' H)(x:H.get id=some ob)(m:ob.rows=ps.map (·.map .pv)){a a'}(q:Fz H' id ob.g ps a a'):
  ∀ {v},VRel w I ι H v a->VRel w (oV I ι id) ι H' v a':=by
 induction q with
 |same h=>exact fun c=>(c.restrictG s h).mono' (fun _ _=>rfl) (fun _ h=>.inl h) (fun _ o h=>⟨o,h,aP0 _,fun _=>⟨rfl,rfl,fun _=>aP0 _⟩⟩)
 |osl r =>
  intro v c;subst r;exact .pv (B2 p x m c)
 | agg g h j =>
  intro v c;cases c with
  |agg k t f =>
   refine .agg (k.trans g) t fun i u a' l b=>?_;have n:=(aPY.1 b).1;exact j i _ _ (aPZ (by omega)) b (f i u _ l (aPZ _))
 | tup g h j =>
  intro v c;cases c with
  |tup k f =>
   refine .tup (k.trans g) fun i u a' l b=>?_;have n:=(aPY.1 b).1;exact j i _ _ (aPZ _) b (f i u _ l (aPZ (by omega)))
def NW(H':aH)(id g:Nat)(ps:List (List PV))(rows rows':List (List AV)):Prop :=rows'.length=rows.length/\∀(i:Nat) (r':List AV),rows'[i]?=some r'->∃r,rows[i]?=some r/\r.length=r'.length/\∀(k:Nat) (a a':AV),r[k]?=some a->r'[k]?=some a'->Fz H' id g ps a a'
theorem iD{H'}{id g}{ps}{rows}(h:∀r∈rows,∀a∈r,Clo H' a):NW H' id g ps rows rows :=⟨rfl,fun i r b=>⟨r,b,rfl,fun k a a' d c=>by rw[d]at c;cases c;exact .same (h r (aP4 b) a (aP4 d))⟩⟩
theorem qM{H'}{id g}{ps}{r r'}(c:r.length=r'.length)(h:∀(k:Nat) (a a'),r[k]?=some a->r'[k]?=some a'->Fz H' id g ps a a'):NW H' id g ps [r] [r'] :=⟨rfl,fun i x b=>by
  match i,b with
  |0,b=>cases b;exact⟨r,rfl,c,h⟩⟩
def FOk(H H':aH)(id g:Nat)(ps:List (List PV)):aH->Prop
 | []=>True
 |(j,o')::r=>(∃o,H.get j=some o/\o'.g=o.g/\o'.sz=o.sz/\o'.ty=o.ty/\NW H' id g ps o.rows o'.rows)/\FOk H H' id g ps r
theorem FOk.spec{H H'}{id g}{ps}{L}(h:FOk H H' id g ps L):∀p∈L,∃o,H.get p.1=some o/\p.2.g=o.g/\p.2.sz=o.sz/\p.2.ty=o.ty/\NW H' id g ps o.rows p.2.rows:=by
 induction L with
 |nil=>simp
 |cons x r ih =>
  obtain ⟨h1,h2⟩:=h
  simp_all
theorem dA.fzG{E':dB}{ob:Ob}(ps:List (List PV))(B:H.get id=some ob)(K:ob.rows=ps.map (·.map .pv))(hE:∀p∈E',∃v0,E.get p.1=some v0/\Fz H' id ob.g ps v0 p.2)(W:H'.get id=none)
    (hF:FOk H H' id ob.g ps H') (hk:KOk H' H G0):dA G0 E H E' H':=by
  intro G hG N a w T;obtain ⟨I,A,q,d,he⟩:=T.rel;subst hG;have C:∀j f,H'.get j=some f->∃o,H.get j=some o/\f.g=o.g/\f.sz=o.sz/\f.ty=o.ty/\NW H' id ob.g ps o.rows f.rows:=fun j f x=>hF.spec _ (dY x);have s:aL1 H' H:=fun j f x=>by
    obtain ⟨o,u,Z,R,_,L⟩:=C j f x;exact⟨o,u,Z,R,L.1⟩
  have D:∀b,JT A H' b->JT A H b:=fun b ⟨j,f,c,g,n⟩=>by
    obtain ⟨o,u,_⟩:=C j f g;exact⟨j,o,c,u,n⟩
  have J:Rel (oV I A id) A H' w:=by
    refine⟨fun b l=>?_,fun j f x=>?_,fun j j' o f b c c' g n=>?_,q.glob.mono (fun _ _=>rfl) (fun _ h=>.inl h)⟩
    · rcases l with l|⟨m,l⟩
      · exact q.imm b l
      · exact q.lt ⟨id,ob,m,B,l⟩
    · obtain ⟨o,u,Z,R,e4,L,Y⟩:=C j f x
      refine(q.obj j o u).keepG R e4 L (UW L.symm (fun i U V=>by
        obtain ⟨r,M,Q,X⟩:=Y i U V;exact⟨r,M,Q,fun k a P g n y ts e=>(X k a P g n).raw e⟩)) rfl (fun b' F q1 _=>⟨rfl,fun q3=>?_⟩) (fun i U V=>?_)
      · rintro(h|⟨m,h⟩)
        · exact q3 h
        · have:j=id:=q.inj j id o ob b' F m u B q1 h
          rw[this,W]at x;cases x
      · obtain ⟨r,M,Q,X⟩:=Y i U V
        exact⟨r,M,Q,fun k a P g n v S=>VRel.freezeG q s B K (X k a P g n) S⟩
    · obtain ⟨p,u,_⟩:=C j o g
      obtain ⟨p',O,_⟩:=C j' f n;exact q.inj j j' p p' b c c' u O
  have z:Step G.I G.ι G.H G.w (oV I A id) A H' w :=
    { os := d.os, tape := d.tape, output := d.output, size := d.size, froz := d.froz, keep := d.keep
      imm:=fun b l=>.inl (d.imm b l)
      immNew:=fun b l=>by
        rcases l with l|⟨m,l⟩
        · exact d.immNew b l
        · rcases d.own b ⟨id,ob,m,B,l⟩with g|g
          · exact .inr (.inl g)
          · exact .inr (.inr g)
      own:=fun b l=>d.own b (D b l)
      objs:=fun j o ho=>by
        obtain ⟨f,g,n⟩:=d.objs j o ho;exact⟨f,(hk.kept j (by simp[ho])).trans g,n⟩}
  refine⟨T.defers,T.size,_,A,J,z,fun t v ht=>?_⟩;obtain ⟨v0,g,n⟩:=hE _ (gL ht);obtain ⟨c,hc,S⟩:=he t v0 g;exact⟨c,hc,VRel.freezeG q s B K n S⟩
section
def LR(x:Go.Loop)(E0:dB):Ob:=⟨0,0,0,[[.raw x (E0.map (·.1))],E0.map (·.2)]⟩
section
variable{I:Nat->Prop}{w:World}
theorem aDm{x}(m:Rel I ι H w)(e:H.get id=some (LR x d))(j:VRel w I ι H v (.yld id 0)):
  ∃b,ι id=some (b,2)/\v=.func (.yield b) #[] #[]/\w.heap[b]?=some (.loop x)/\¬ I b/\∀(i t:Nat) (a:AV),(d.map (·.1))[i]?=some t->(d.map (·.2))[i]?=some a->∃c,x.tmps[t]?=some c/\VRel w I ι H c a:=by
 cases j with
 |yld o g h2 h3 k =>
  rw[e]at g;cases g;obtain ⟨_,b,f,e2⟩:=k rfl;obtain ⟨_,b',y,h,k2,k3,l⟩:=(m.obj id _ e).rec rfl f;rw[f]at h;obtain ⟨q1,q2⟩:=l x _ _ rfl
  grind
theorem Rel.setRec{y:Go.Loop}{G:dB}(m:Rel I ι H w)(n:H.get id=some (LR x G))(k:ι id=some (b,2))(hy:y.tmps=x.tmps)
  (K:H'.get id=some (LR y G)) (C:∀j,j≠id->H'.get j=H.get j):Rel I ι H' (w.putObj b (.loop y))/\Step I ι H w I ι H' (w.putObj b (.loop y)):=by
 obtain ⟨_,b',z,J,O,T,k4⟩:=(m.obj id _ n).rec rfl k;rw[k]at J;cases J;obtain ⟨Q,X⟩:=k4 x _ _ rfl;subst Q;have u:=(Array.getElem?_eq_some_iff.1 O).1;have s:∀c,JT ι H' c->JT ι H c:=fun c ⟨j,o,B,U,g⟩=>by
  by_cases e:j=id
  ·subst e;exact⟨j,_,B,n,g⟩
  exact⟨j,o,B,(C j e).symm.trans U,g⟩
 have l:Step I ι H w I ι H' (w.putObj b (.loop y)):=by
  refine⟨rfl,rfl,rfl,by simp_all,fun a L _=>?_,fun _ h=>h,fun _ h=>.inl h,fun c g=>.inl (s c g),fun c g V=>?_,fun j o f=>?_⟩
  ·unfold World.frozen?;by_cases e:a.block=b
   ·rw[e,World.putObj_heap_same u,O]
   rw[World.putObj_heap_other e]
  ·exact World.putObj_heap_other fun e=>V ⟨id,_,2,n,by rw[e];exact k⟩
  by_cases e:j=id
  ·subst e;rw[n]at f;cases f;exact⟨_,K,aP0 _,fun _=>⟨rfl,rfl,fun h=>by cases h⟩⟩
  exact⟨o,(C j e).trans f,aP0 _,fun _=>⟨rfl,rfl,fun _=>aP0 _⟩⟩
 refine⟨⟨fun c g=>by rw[World.putObj_size];exact m.imm c g,fun j o f=>?_,fun j N o o' c d d' f F g D=>?_,l.glob m⟩,l⟩
 ·by_cases e:j=id
  ·subst e;rw[K]at f;cases f;refine .inr (.inr (.inr ⟨rfl,b,y,k,World.putObj_heap_same u,T,fun z ts r M=>?_⟩));simp only[LR,List.cons.injEq,AV.raw.injEq,and_true]at M;obtain ⟨⟨rfl,rfl⟩,rfl⟩:=M;refine⟨rfl,fun i t a W L=>?_⟩;obtain ⟨c,Z,P⟩:=X i t a W L;exact⟨c,by rw[hy];exact Z,P.mono m l⟩
  rw[C j e]at f;exact(m.obj j o f).keep rfl (fun c d g _=>⟨World.putObj_heap_other (fun hb=>e (m.inj j id o _ c d 2 f n g (by rw[hb];exact k))),fun h=>h⟩) (fun r _ a _ v R=>R.mono m l)
 have A:∀j o,H'.get j=some o->∃o,H.get j=some o:=fun j o f=>by
  by_cases e:j=id
  ·subst e;exact⟨_,n⟩
  exact⟨o,(C j e).symm.trans f⟩
 obtain ⟨q,S⟩:=A j o f;obtain ⟨Y,E⟩:=A N o' F;exact m.inj j N q Y c d d' S E g D
theorem Rel.push(o:Obj)(f:Rel I ι H w):Rel I ι H (w.alloc o)/\Step I ι H w I ι H (w.alloc o):=by
 have g:∀b,b<w.heap.size->(w.alloc o).heap[b]?=w.heap[b]?:=fun b e=>by
  show (w.heap.push o)[b]?=_
  grind
 have d:Step I ι H w I ι H (w.alloc o):=by
  refine⟨rfl,rfl,rfl,by simp_all,fun a ha _=>?_,fun _ h=>h,fun _ h=>.inl h,fun _ h=>.inl h,fun b e _=>g b e,fun _ o h=>⟨o,h,aP0 _,fun _=>⟨rfl,rfl,fun _=>aP0 _⟩⟩⟩;unfold World.frozen?
  simp_all
 refine⟨⟨fun b e=>by have:=f.imm b e;rw[World.size_alloc];omega,fun j o k=>?_,f.inj,d.glob f⟩,d⟩;exact(f.obj j o k).keep rfl (fun b c _ e=>⟨g b e,fun h=>h⟩) (fun r _ a _ v i=>i.mono f d)
end
def busy(x:Go.Loop):Go.Loop:={x with state:=.busy}
def left(x:Go.Loop)(c:Code):Go.Loop:={x with state:=.done,pending:=some c}
def aGN(H0:aH)(id:Nat)(x:Go.Loop)(E0:dB)(Q:AV->aH->Prop):Exit->dB->aH->Prop
 |.normal,E,H=>∃K,dA H0 E H [] ((id,LR (busy x) E0)::K)/\Q (.pv (.bool true)) ((id,LR x E0)::K)
 |.ret,E,H=>∃K,dA H0 E H [] ((id,LR (busy x) E0)::K)/\Q (.pv (.bool false)) ((id,LR (left x .ret) E0)::K)
 |.exit j,E,H=>∃K,dA H0 E H [] ((id,LR (busy x) E0)::K)/\Q (.pv (.bool false)) ((id,LR (left x (.exit j)) E0)::K)
 |_,_,_=>False
theorem rF{G:Entry}{I}{ι}{H}{w}{id b}{x y}{e}(c:Step G.I G.ι G.H G.w I ι H w)(h:G.H.get id=some (LR x e))(a:G.ι id=some (b,2))(g:H.get id=some (LR y e)):ι id=some (b,2):=by obtain ⟨o',d,_,f⟩:=c.objs _ _ h;rw[g]at d;cases d;exact(f rfl).1.trans a
theorem sA{I}{w}{x}{f:dB}(g:Rel I ι H w)(d:H.get id=some (LR x f))(a:ι id=some (b,2)):w.heap[b]?=some (.loop x):=by
 obtain ⟨_,b',z,c,k2,k3,e⟩:=(g.obj id _ d).rec rfl a;rw[a]at c;obtain ⟨q1,_⟩:=e x _ _ rfl
 simp_all
theorem fX(id)(o)(K:aH):aH.get ((id,o)::K) id=some o:=by simp[aH.get,oO]
theorem yH{id j}(o o')(K:aH)(h:j≠id):aH.get ((id,o)::K) j=aH.get ((id,o')::K) j:=by simp[aH.get,kX (Ne.symm h)]
theorem RG{h n:Code}{Q:AV->aH->Prop}(E2:dB)(K2:aH)(G:x.state=.ready)(X:x.pending=none)(hp:x.params=#[p])(hN:x.tmps.size=N)(hxa:x.assign=h)(hxb:x.body=n)(U:Nat.blt p N=true)
  (hok:wC h=true) (T:wC n=true)
  (h1:gR P ((id,LR x d)::K) N h (yP (fun E1 H1=>dA ((id,LR x d)::K) E1 H1 E2 ((id,LR x d)::K2)) (fun _ _ _=>False)) ((p,a)::d) ((id,LR x d)::K))
  (h2:gR P ((id,LR x d)::K) N n (aGN ((id,LR x d)::K) id x d Q) E2 ((id,LR (busy x) d)::K2)):EN P id 0 [a] ((id,LR x d)::K) Q:=by
 subst hxa hxb;have U:p<N:=by simp_all
 intro I Y w vs v hr hv hl hvs;obtain ⟨b,e1,e2,e3,e4,e5⟩:=aDm hr (fX _ _ _) hv;obtain ⟨u,rfl⟩:∃u,vs=#[u]:=by
  match vs,hl with
  |⟨[u]⟩,_=>exact⟨u,rfl⟩
 have hu:=hvs 0 u a rfl rfl;refine⟨b,x.fn,_,x.assign,x.body,e2,run_yield e3 (by simp_all),?_⟩;refine roundIn_of_wpIn (F:=Fence.wide) trivial ?_;have Z:(⟨I,Y,(id,LR x d)::K,w,[]⟩:Entry).H=(id,LR x d)::K:=rfl;have hst:St ⟨I,Y,(id,LR x d)::K,w,[]⟩ N ((p,a)::d) ((id,LR x d)::K) {tmps:=(x.params.zip #[u]).foldl (fun m (t,a)=>m.setIfInBounds t a) x.tmps,defers:=[]} w:=by
  have ht:(x.params.zip #[u]).foldl (fun m (t,a)=>m.setIfInBounds t a) x.tmps=x.tmps.setIfInBounds p u:=by rw[hp];simp
  rw[ht];refine⟨rA.nil _ _ _,by simp[hN],I,Y,hr,Step.refl _ _ _ _,fun t y s=>?_⟩;by_cases e:p=t
  ·subst e;rw[dB.get_cons_same]at s;cases s;exact⟨u,by simp[hN,U],hu⟩
  rw[dB.get_cons_other _ _ e]at s;obtain ⟨i,hi⟩:=aPf.1 (gL s);obtain ⟨c,c1,c2⟩:=e5 i t y (by rw[aPe,hi];rfl) (by rw[aPe,hi];rfl);exact⟨c,by show (x.tmps.setIfInBounds p u)[t]?=some c;rw[Array.getElem?_setIfInBounds_ne e];exact c1,c2⟩
 refine wpIn_mono (h1 _ Z _ w hst (some b) (.inr hok)) ?_;rintro e a1 w1 ⟨E1,H1,q,hs1⟩;cases e with
 | normal =>
  have F:=q _ Z N a1 w1 hs1;obtain ⟨I1,ι1,z,B,he1⟩:=F.rel;have E:=rF B (fX _ _ _) e1 (fX _ _ _);have hb1:=sA z (fX _ _ _) E;obtain ⟨k1,k2⟩:=z.setRec (y:=busy x) (H':=(id,LR (busy x) d)::K2) (fX _ _ _) E rfl (fX _ _ _) (fun j hj=>yH _ _ _ hj);refine⟨_,run_beginRound hb1 G,?_⟩;have hs3:St ⟨I,Y,(id,LR x d)::K,w,[]⟩ N E2 ((id,LR (busy x) d)::K2) a1 (w1.putObj b (.loop (busy x))) :=
   ⟨F.defers.step z k2,F.size,I1,ι1,k1,B.trans k2,fun t y s=>let ⟨c,c1,c2⟩:=he1 t y s;⟨c,c1,c2.mono z k2⟩⟩
  refine wpIn_mono (h2 _ Z a1 _ hs3 (some b) (.inr T)) ?_;rintro e a2 w3 ⟨E3,H3,R,hs4⟩;have O:∀(g:Option Code) (y:Go.Loop) (o:aH),y={busy x with state:=if g.isNone then .ready else .done,pending:=g}->dA ((id,LR x d)::K) E3 H3 [] ((id,LR (busy x) d)::o)->Q (.pv (.bool g.isNone)) ((id,LR y d)::o) ->
    ∃v w',(Instr.endRound b g).run P w3=.ok v w'/\∃r H' I' L v',Ending.returned v=.returned v'/\Q r H'/\VRel w' I' L H' v' r/\Rel I' L H' w'/\Step I Y ((id,LR x d)::K) w I' L H' w':=by
   intro g y o s f M;have hs5:=f _ Z N a2 w3 hs4;obtain ⟨I5,ι5,W,C,_⟩:=hs5.rel;have D:=rF C (fX _ _ _) e1 (fX _ _ _);have hb5:=sA W (fX _ _ _) D;obtain ⟨z1,z2⟩:=W.setRec (y:=y) (H':=(id,LR y d)::o) (fX _ _ _) D (by rw[s]) (fX _ _ _) (fun j hj=>yH _ _ _ hj);refine⟨_,_,run_endRound g hb5,_,_,I5,ι5,_,rfl,M,.pv (.bool _),?_,?_⟩
   ·rw[<-s];exact z1
   rw[<-s];exact C.trans z2
  cases e with
  |normal =>
   obtain ⟨o,f,M⟩:=R;refine O none x o ?_ f M;obtain ⟨st,pe,fn,tm,pa,ax,bo,de⟩:=x;simp only at G X;subst G X;rfl
  |ret =>
   obtain ⟨o,f,M⟩:=R;exact O (some .ret) (left x .ret) o rfl f M
  |exit j =>
   obtain ⟨o,f,M⟩:=R;exact O (some (.exit j)) (left x (.exit j)) o rfl f M
  |goto l=>exact R.elim
  |panic ch=>exact R.elim
  |outgrown=>exact R.elim
 |exit j=>exact q.elim
 |goto l=>exact q.elim
 |ret=>exact q.elim
 |panic ch=>exact q.elim
 |outgrown=>exact q.elim
def aGQ(Q:Exit->dB->aH->Prop)(E:dB)(H:aH):Option Code->Prop
 |none=>Q .normal E H
 |some .ret=>Q .ret E H
 |some (.exit j)=>Q (.exit j) E H
 |_=>False
theorem C6{f:Nat}{M:List AV}{g:Operand}{ps:Array Tmp}{assign body:Code}{Q:Exit->dB->aH->Prop}(n:dB)(hg:aP E g=some (.clo f M))(hc:∀(args:Array Value) (w:World),(callFunc f args).run P w=.ok (.enter f args) w)
  (hps:ps=#[p]) (hid:H.get id=none) (hE0:∀q∈n,E.get q.1=some q.2)
  (h:∀x:Go.Loop,x.state=.ready->x.pending=none->x.params=#[p]->x.tmps.size=N->x.assign=assign->x.body=body ->
   aI P f (.yld id 0::M) ((id,LR x n)::H) (fun r H'=>∃(y:Go.Loop) (K:aH),y.tmps=x.tmps/\y.state≠.busy/\H'=(id,LR y n)::K/\∀z:Go.Loop,aGQ Q E ((id,LR z n)::K) y.pending)) :
  gR P G0 N (.rangeFunc g ps assign body) Q E H:=by
 intro G hG a w hs ro hro;obtain rfl:ro=none:=hro.resolve_right (fun h=>by cases h);obtain ⟨I,ι,hr,hst,he⟩:=hs.rel;refine wpIn_rangeFunc (F:=RF none) ?_;intro fn _;have hgv:=aJ he hg;generalize hfc:a.eval g=fc at hgv;cases hgv with
 | @clo _ us _ hl hh =>
  obtain ⟨x,R⟩:∃x:Go.Loop,x={state:=.ready,pending:=none,fn,tmps:=a.tmps,params:=ps,assign,body,defers:=w.heap.size}:=⟨_,rfl⟩;obtain ⟨a1,a2⟩:=hr.push (.deferred (some []));obtain ⟨X,V⟩:∃X,X=w.alloc (.deferred (some [])):=⟨_,rfl⟩;rw[<-V]at a1 a2;have L:X.heap.size=w.heap.size+1:=by simp_all
  have hDd:X.heap[w.heap.size]?=some (.deferred (some [])):=by rw[V];exact World.alloc_heap_new w _
  have m:aH.get ((id,LR x n)::H) id=some (LR x n):=fX _ _ _;obtain ⟨b1,b2⟩:=a1.placeX (id:=id) (cap:=2) (x:=.loop x) (w':=X.alloc (.loop x)) (H':=(id,LR x n)::H) (ob':=LR x n) rfl rfl rfl rfl (fun o ho=>by simp_all)
   (fun hnew hI hmono=>.inr (.inr (.inr ⟨rfl,_,x,by simp,hnew,hI,fun y ts r hy=>by
    simp only[LR,List.cons.injEq,AV.raw.injEq,and_true]at hy;obtain ⟨⟨rfl,rfl⟩,rfl⟩:=hy;refine⟨rfl,fun i t v ht u=>?_⟩;rw[aPe]at ht u;obtain ⟨q,hq,rfl⟩:=Option.map_eq_some_iff.1 ht;rw[hq]at u;cases u;obtain ⟨c,c1,c2⟩:=he q.1 q.2 (hE0 q (aP4 hq));exact⟨c,by rw[R];exact c1,hmono _ _ (c2.mono hr a2)⟩⟩)))
   m (fun j hj=>by simp[aH.get,kX (Ne.symm hj)])
  obtain ⟨T,hw1⟩:∃T,T=X.alloc (.loop x):=⟨_,rfl⟩;rw[<-hw1]at b1 b2;obtain ⟨B,U⟩:∃B:kJ,B=fun j=>if j=id then some (X.heap.size,2)else ι j:=⟨_,rfl⟩
  rw[<-U]at b1 b2;have d:B id=some (w.heap.size+1,2):=by rw[U,L];simp
  have hL1:=sA b1 m d;have W:T.heap[w.heap.size]?=some (.deferred (some [])):=by
   rw[b2.keep _ (by rw[L];omega) (xU a1 hDd)];exact hDd
  have Z:=h x (by rw[R]) (by rw[R]) (by rw[R,hps]) (by rw[R];exact hs.size) (by rw[R]) (by rw[R]) I B T (#[.func (.yield (w.heap.size+1)) #[] #[]]++us) b1 (by simp[hl];omega) (fun i v c u F=>by
   cases i with
   |zero =>
    rw[Array.getElem?_append_left (by simp)]at u;simp at u F;subst u F;exact .yld (LR x n) m (aP0 _) rfl (fun _=>⟨rfl,_,d,rfl⟩)
   |succ i =>
    rw[Array.getElem?_append_right (by simp)]at u;simp only[List.getElem?_cons_succ]at F;have:=hh i v c (by simpa using u) F;exact(this.mono hr a2).mono a1 b2)
  refine⟨w.heap.size+1,[mark w.heap.size],T,{target:=.fn (.func f) us,args:=#[.func (.yield (w.heap.size+1)) #[] #[]]},T,f,#[.func (.yield (w.heap.size+1)) #[] #[]]++us,T,?_,?_,fun _ _=>trivial,?_,(fun q=>by cases q),?_⟩
  ·rw[hw1,V,R];exact run_enterLoop_outer _ _ _ _ _
  ·simp only[resolve,hfc];simp[go_sem]
  ·simp[invoke,go_sem,hc]
  refine((callsIn_wide (n:=0)).2 Z).mono ?_;rintro e w3 ⟨r,H',I3,ι3,v3,rfl,⟨y,K,hy1,hy2,rfl,hq⟩,_,hr3,A⟩;have O:=rF (G:=⟨I,B,(id,LR x n)::H,T,[]⟩) A m d (fX _ _ _);have hb3:=sA hr3 (fX _ _ _) O;obtain ⟨z,hz⟩:∃z:Go.Loop,z={y with state:=.exhausted}:=⟨_,rfl⟩;obtain ⟨z1,z2⟩:=hr3.setRec (y:=z) (H':=(id,LR z n)::K) (fX _ _ _) O (by rw[hz]) (fX _ _ _) (fun j hj=>yH _ _ _ hj);obtain ⟨w4,hw4⟩:∃w4,w4=w3.putObj (w.heap.size+1) (.loop z):=⟨_,rfl⟩;rw[<-hw4]at z1 z2;refine⟨y.pending,w4,by rw[hw4,hz];exact run_endLoop hb3 hy2,?_⟩;have s:Step I ι H w I3 ι3 ((id,LR z n)::K) w4:=((a2.trans b2).trans A).trans z2;have hD4:w4.heap[w.heap.size]?=some (.deferred (some [])):=by
   rw[(A.trans z2).keep _ (Array.getElem?_eq_some_iff.1 W).1 (xU b1 W)];exact W
  have Y : St G N E ((id, LR z n) :: K) { a with defers := [mark w.heap.size] ++ a.defers } w4 := by
   refine⟨?_,hs.size,I3,ι3,z1,hst.trans s,fun t v u=>let ⟨c,c1,c2⟩:=he t v u;⟨c,c1,c2.mono hr s⟩⟩;obtain ⟨Ds,d1,d2,d3⟩:=hs.defers.step hr s;refine⟨w.heap.size::Ds,by rw[d1];rfl,List.nodup_cons.2 ⟨fun hmem=>?_,d2⟩,fun D hD=>?_⟩
   ·have hold:∀D∈Ds,D<w.heap.size:=by
     obtain ⟨Ds',d1',_,d3'⟩:=hs.defers;have he:Ds'=Ds:=by
      have h0:Ds'.map mark=Ds.map mark:=List.append_cancel_right (d1'.symm.trans d1);have hinj:∀(l J:List Nat),l.map mark=J.map mark->l=J:=by
       intro l
       induction l with
       |nil=>intro J h;cases J with
        |nil=>rfl
        |cons _ _=>cases h
       | cons D l ih=>intro J h;cases J with
        |nil=>cases h
        |cons D' J =>
         simp only[List.map_cons,List.cons.injEq,mark,Deferred.mk.injEq,Target.collected.injEq,and_true]at h;rw[h.1,ih J h.2]
      exact hinj _ _ h0
     subst he;exact fun D hD=>(Array.getElem?_eq_some_iff.1 (d3' D hD).2).1
    exact Nat.lt_irrefl _ (hold _ hmem)
   rcases aP6.1 hD with rfl|hD
   ·exact⟨hst.size,hD4⟩
   exact d3 D hD
  have b:=hq z;generalize y.pending=pend at b |-
  match pend,b with
  |none,b=>exact⟨E,_,b,Y⟩
  |some .ret,b=>exact wpIn_ret ⟨E,_,b,Y⟩
  |some (.exit j),b=>exact wpIn_exit ⟨E,_,b,Y⟩
end
theorem aI.congrG{P}{f}{args}{H H1 K K1}{d}(h:aI P f args H1 (fun r X=>r=d/\X=K1))(u:∀j,H1.get j=H.get j)(p:∀j,K.get j=K1.get j):aI P f args H (fun r X=>r=d/\X=K):=by intro I ι w vs g q n;obtain ⟨A,l⟩:=g.congr u;refine(h I _ w _ A q (fun i v a o y=>(n i v a o y).mono g l)).mono ?_;rintro e w' ⟨r,H',s,c,v,rfl,⟨rfl,rfl⟩,x,k,z⟩;obtain ⟨t,m⟩:=k.congr p;exact⟨r,K,s,c,v,rfl,⟨rfl,rfl⟩,x.mono k m,t,(l.trans z).trans m⟩
theorem EN.congrG{P}{id g}{args}{H H1 K K1}{q}(h:EN P id g args H1 (fun r X=>r=q/\X=K1))(J:∀j,H1.get j=H.get j)(E:∀j,K.get j=K1.get j):EN P id g args H (fun r X=>r=q/\X=K):=by intro I ι w vs v k m F A;obtain ⟨y,o⟩:=k.congr J;obtain ⟨l,f,c,b,d,G,B,z⟩:=h I _ w _ v y (m.mono k o) F (fun i v a D L=>(A i v a D L).mono k o);refine⟨l,f,c,b,d,G,B,z.mono ?_⟩;rintro e w' ⟨r,H',x,n,v,rfl,⟨rfl,rfl⟩,u,s,C⟩;obtain ⟨t,p⟩:=s.congr E;exact⟨r,K,x,n,v,rfl,⟨rfl,rfl⟩,u.mono s p,t,(o.trans C).trans p⟩
theorem dK.congrG{P}{c}{args}{H H1 K K1}{b}(h:dK P c args H1 (fun r X=>r=b/\X=K1))(d:∀j,H1.get j=H.get j)(f:∀j,K.get j=K1.get j):dK P c args H (fun r X=>r=b/\X=K):=by
 rcases h with⟨id,g,e,h⟩|⟨F,a,e,i,h⟩
 ·exact .inl ⟨id,g,e,h.congrG d f⟩
 exact .inr ⟨F,a,e,i,h.congrG d f⟩
theorem oN{i j}{a b}(h:i≠j)(k):aH.get ((i,a)::(j,b)::K) k=aH.get ((j,b)::(i,a)::K) k:=by
 simp[aH.get];cases c:Nat.beq i k with
 |true =>
  have:=Nat.eq_of_beq_eq_true c;subst this;rw[kX (Ne.symm h)];rfl
 |false=>all_goals rfl
end Go.Abs
namespace Go.Abs
open Go.Lib
variable{id:Nat}{ob:Ob}{H:aH}
section
section
variable{P:Program}{N:Nat}{o:Oper}{E:dB}{T S:TypeId}{x y:Operand}
theorem yZ{w}{I}{ι}(s):qX w I ι H 1 (strCells s) (eQ s.data.toList):=by
 intro i r c k a d;rw[eQ,aPe]at c;obtain ⟨b,e,rfl⟩:=Option.map_eq_some_iff.1 c;cases k with
 |zero =>
  cases d;exact⟨.int _ _,by rw[strCells,Nat.mul_one,Nat.add_zero,aPe,e];rfl,rfl,.pv (.int _ _)⟩
 |succ k=>grind
theorem MA{e:TypeId}{g n:Nat}{s:ByteArray}{H2:aH}(ho:o.op=.call {callee:=.builtin .append,args:=#[x,y],argTypes:=#[T,S]})(hT:P.underlying T=some (.slice e))(hS:P.underlying S=some .string)(hinf:XE P e 1 1)(hz0:∀i,P.info? e=some i->i.zero=some (.int .u8 0))
  (hx:aP E x=some (.osl id g 0 n)) (U:H.get id=some ob) (hg:ob.g=g) (q:ob.sz=1) (hty:ob.ty=e) (hn:ob.rows.length=n)
  (hy:aP E y=some (.pv (.str s))) (hmax:n+s.size<=140737488355328)
  (hH2:H.set id ⟨g+1,1,e,ob.rows++eQ s.data.toList⟩=H2):cS P N o E H (.osl id (g+1) 0 (n+s.size)) H2:=by
 intro a w I ι _ _ hr he K Q hk;obtain ⟨i,z,hi,hz,A,hby,hzs,hsz0⟩:=hinf;have hzi:=hz0 i hi;subst hg hty hn hH2;have f:(eQ s.data.toList).length=s.size:=by simp[eQ]
 have hml:ob.rows.length+s.size<=maxLen:=by simp only[maxLen];omega
 have W:(H.set id ⟨ob.g+1,1,ob.ty,ob.rows++eQ s.data.toList⟩).get id=some ⟨ob.g+1,1,ob.ty,ob.rows++eQ s.data.toList⟩:=aH.get_set_same _ _ _;have h2:∀j,j≠id->(H.set id ⟨ob.g+1,1,ob.ty,ob.rows++eQ s.data.toList⟩).get j=H.get j:=fun j hj=>aH.get_set_other _ _ hj;have V:0<ob.sz:=oA (aJ he hx) U rfl;have p2:=((hr.obj id ob U).cells V).2.1;rw[q]at p2;have hrl:∀r∈ob.rows++eQ s.data.toList,r.length=1:=fun r hr'=>by
  rcases List.mem_append.1 hr' with h|h
  ·simp_all
  obtain ⟨b,_,rfl⟩:=List.mem_map.1 h;rfl
 have hys:=(aJ he hy).str_inv;have R:∀(v':Value) (w':World) (G:kJ),(Builtin.append_ #[T,S] o.type #[a.eval x,.string s]).run P w=.ok v' w'->VRel w' I G (H.set id ⟨ob.g+1,1,ob.ty,ob.rows++eQ s.data.toList⟩) v' (.osl id (ob.g+1) 0 (ob.rows.length+s.size)) ->
   Rel I G (H.set id ⟨ob.g+1,1,ob.ty,ob.rows++eQ s.data.toList⟩) w'->Step I ι H w I G (H.set id ⟨ob.g+1,1,ob.ty,ob.rows++eQ s.data.toList⟩) w'->o.wpW P a w K Q:=by
  intro v' w' G l k1 M O;unfold Oper.wpW execOp;simp only[ho,resolve,invoke,builtin,Sem.run_bind,Sem.run_pure,Result.andThen_ok,List.map_toArray,List.map_cons,List.map_nil,hys,l];exact hk v' w' I G _ _ ⟨rfl,rfl⟩ k1 M O
 have hvx:=aJ he hx;obtain ⟨_,hcase⟩:=iY hvx U rfl;rcases hcase with⟨b,m,oo,c1,c2,c3⟩|⟨c1,c2,_,c4⟩
 ·obtain ⟨p1,_,⟨b',cap',L,Z,e2,e3,e4,e5,e5',e6⟩|⟨Z,_⟩⟩:=(hr.obj id ob U).cells V
  ·rw [c1] at Z;cases Z;rw [q] at e4 e6;have hoo:oo=0:=by omega
   subst hoo;rw[Nat.sub_zero]at c2;have X:qX w I ι H 1 (L.toList.take (ob.rows.length*1)) ob.rows:=by
    intro i' r C k a' F
    grind
   have t:(L.toList.take (ob.rows.length*1)).length=ob.rows.length*1:=by grind
   have B:(strCells s).length=s.size:=strCells_length s;by_cases hroom:ob.rows.length+s.size<=m
   ·have l:=run_append_room_string (P:=P) w T S o.type ob.ty i hT hS hi A b ob.rows.length m L e2 s hroom (by omega);obtain ⟨M,O⟩:=Rel.update (H':=H.set id ⟨ob.g+1,1,ob.ty,ob.rows++eQ s.data.toList⟩) (ob':=⟨ob.g+1,1,ob.ty,ob.rows++eQ s.data.toList⟩)
     (cs':=(L.toList.take ob.rows.length++strCells s++L.toList.drop (ob.rows.length+s.size)).toArray) hr U c1 e2 (by simp) q.symm rfl (fun e=>by grind) (by
      grind) (by grind) (by grind) (fun i' r C k a' F=>by
       have:=qX.app (l3:=L.toList.drop (ob.rows.length+s.size)) X t (yZ (H:=H) s) i' r C k a' F;rw[q]
       simpa[List.append_assoc]using this) W h2
    exact R _ _ ι (by rw[c2];exact l) (.osl _ W (aP0 _) rfl fun _=>⟨Nat.zero_lt_one,by grind,.inl ⟨b,m,0,c1,by simp,fun _=>by simp⟩⟩) M O
   have holds:∀j v,(L.toList.take ob.rows.length)[j]?=some v->w.cell? ((⟨b,0,none⟩:Addr).add j)=some v:=by
    intro j v hv;rw[Addr.add_lit,aPc,cell_of_row w b _ L ob.ty (0,0) e2];rw[List.getElem?_take]at hv
    split at hv
    ·simpa using hv
    cases hv
   have l:=run_append_grow_string (P:=P) w T S o.type ob.ty i (.int .u8 0) hT hS hi hzi ⟨b,0,none⟩ ob.rows.length m _ (by rw[A];simpa using t) holds s (by omega) (by omega) (growslice_fits (by omega) (by rw[hby];omega));have hge:=grownCap_ge w (ob.rows.length+s.size) m ob.ty;have Y:=grownCap_le_maxLen w (ob.rows.length+s.size) m ob.ty hml;have hz1:(Value.int IntKind.u8 0).cells.size=1:=rfl;obtain ⟨M,O⟩:=Rel.place (H':=H.set id ⟨ob.g+1,1,ob.ty,ob.rows++eQ s.data.toList⟩) (id:=id) (cap:=grownCap w (ob.rows.length+s.size) m ob.ty) (ob':=⟨ob.g+1,1,ob.ty,ob.rows++eQ s.data.toList⟩)
    (cs':=(L.toList.take ob.rows.length).toArray++(strCells s).toArray++Builtin.zeroCells (Value.int .u8 0).cells (grownCap w (ob.rows.length+s.size) m ob.ty - (ob.rows.length+s.size)))
    (w':=w.drew.alloc (.cells ((L.toList.take ob.rows.length).toArray++(strCells s).toArray++Builtin.zeroCells (Value.int .u8 0).cells (grownCap w (ob.rows.length+s.size) m ob.ty - (ob.rows.length+s.size))) ob.ty)) hr rfl rfl rfl rfl
    (fun o' J=>by rw[U]at J;cases J;simp) Nat.zero_lt_one (by
     simp only[Array.size_append,List.size_toArray,size_zeroCells,hz1,B,aP8,Array.length_toList];omega) (by simp only[aPV,f];exact hge) Y hrl (fun i' r C k a' F=>by
      obtain ⟨u,q1,q2,q3⟩:=qX.app (l3:=(Builtin.zeroCells (Value.int .u8 0).cells (grownCap w (ob.rows.length+s.size) m ob.ty - (ob.rows.length+s.size))).toList) X t (yZ (H:=H) s) i' r C k a' F;refine⟨u,?_,q2,q3⟩;rw[<-Array.getElem?_toList]
      simpa[List.append_assoc]using q1) W h2
   exact R _ _ _ (by rw[c2];exact l) (.osl _ W (aP0 _) rfl fun _=>⟨Nat.zero_lt_one,by simp[f],.inl ⟨w.heap.size,_,0,by simp;rfl,by simp,fun _=>by simp⟩⟩) M O
  rw[c1]at Z;cases Z
 have D:ob.rows=[]:=List.eq_nil_of_length_eq_zero c4;by_cases h0:s.size=0
 ·have hb0:eQ s.data.toList=[]:=List.eq_nil_of_length_eq_zero (by rw[f];exact h0);have l:(Builtin.append_ #[T,S] o.type #[.slice none 0 0,.string s]).run P w=.ok (.slice none 0 0) w:=by
   have hf:=run_firstCells_string (P:=P) w 1 s;rw[h0]at hf;simp[Builtin.append_,run_underlying hT,run_underlying hS,sizeOf,typeInfo,hi,A,Builtin.lenOf,h0,hf]
  obtain ⟨M,O⟩:=Rel.tick (H':=H.set id ⟨ob.g+1,1,ob.ty,ob.rows++eQ s.data.toList⟩) (ob':=⟨ob.g+1,1,ob.ty,ob.rows++eQ s.data.toList⟩) hr U (by simp) q.symm rfl (by simp[hb0]) W h2;exact R _ _ ι (by rw[c2];exact l) (.osl _ W (aP0 _) rfl fun _=>⟨Nat.zero_lt_one,by simp[f],.inr ⟨c1,rfl,rfl,by simp[D,h0]⟩⟩) M O
 have hr0:=run_append_nil_string (P:=P) w T S o.type ob.ty i (.int .u8 0) hT hS hi hzi s (by omega) (by omega) (by rw[hby];omega);have B:(strCells s).length=s.size:=strCells_length s;have Z:(s.data.map fun b=>Value.int .u8 b.toNat)=(strCells s).toArray:=by
  apply Array.ext';simp[strCells]
 rw[Z]at hr0;have hml0:s.size<=maxLen:=by omega
 have hge:=grownCap_ge w s.size 0 ob.ty;have Y:=grownCap_le_maxLen w s.size 0 ob.ty hml0;have hz1:(Value.int IntKind.u8 0).cells.size=1:=rfl;obtain ⟨M,O⟩:=Rel.place (H':=H.set id ⟨ob.g+1,1,ob.ty,ob.rows++eQ s.data.toList⟩) (id:=id) (cap:=grownCap w s.size 0 ob.ty) (ob':=⟨ob.g+1,1,ob.ty,ob.rows++eQ s.data.toList⟩)
  (cs':=(strCells s).toArray++Builtin.zeroCells (Value.int .u8 0).cells (grownCap w s.size 0 ob.ty - s.size))
  (w':=w.drew.alloc (.cells ((strCells s).toArray++Builtin.zeroCells (Value.int .u8 0).cells (grownCap w s.size 0 ob.ty - s.size)) ob.ty)) hr rfl rfl rfl rfl
  (fun o' J=>by rw[U]at J;cases J;simp) Nat.zero_lt_one (by
   simp only[Array.size_append,List.size_toArray,size_zeroCells,hz1,B];omega) (by simp only[aPV,f,D,List.length_nil,aPc];exact hge) Y hrl (fun i' r C k a' F=>by
    simp only[D,List.nil_append]at C;obtain ⟨u,q1,q2,q3⟩:=yZ (w:=w) (I:=I) (ι:=ι) (H:=H) s i' r C k a' F;have hlt:=(aPY.1 q1).1;refine⟨u,?_,q2,q3⟩;rw[Array.getElem?_append_left (by simpa using hlt)]
    simpa using q1) W h2
 exact R _ _ _ (by rw[c2];exact hr0) (.osl _ W (aP0 _) rfl fun _=>⟨Nat.zero_lt_one,by simp[f],.inl ⟨w.heap.size,_,0,by simp;rfl,by simp[D],fun _=>by simp⟩⟩) M O
theorem sW{e}{id g n k}{ob}{s}{rows'}(p:o.op=.call {callee:=.builtin .append,args:=#[x,y],argTypes:=#[T,S]})(l:fA P T e 1)(hS:P.underlying S=some .string)(d:EI P e 1 1)(h:∀i,P.info? e=some i->i.zero=some (.int .u8 0))
  (t:aP E x=some (.osl id g 0 n)) (m:H.get id=some ob) (v:ob.g=g) (b:ob.sz=1) (f:ob.ty=e) (q:ob.rows.length=n)
  (r:aP E y=some (.pv (.str s))) (c:n+s.size<=140737488355328) (u:n+s.size=k) (a:ob.rows++eQ s.data.toList=rows') :
  cS P N o E H (.osl id (g+1) 0 k) ((id,⟨g+1,1,e,rows'⟩)::H):=by
 subst u a;exact cS.congr (MA p l.1 hS d.1 h t m v b f q r c rfl) (fun j=>tZ _ _ _ j)
end
end
section
section
variable{P:Program}
def F3(ob:Ob):Ob:=⟨ob.g+1,ob.sz,ob.ty,[]⟩
def sH(ι:kJ)(id:Nat):kJ:=fun x=>if x=id then none else ι x
theorem Step.dead{w}{I}{ι}{H}{id}{ob}(g:H.get id=some ob):Step I ι H w (oV I ι id) (sH ι id) ((id,F3 ob)::H) w where
 os:=rfl
 tape:=rfl
 output:=rfl
 size:=aP0 _
 froz:=fun _ _ _=>rfl
 imm:=fun _ h=>.inl h
 immNew:=fun b c=>by
  rcases c with c|⟨a,c⟩
  ·simp_all
  exact .inr (.inl ⟨id,ob,a,g,c⟩)
 own:=fun b c=>by
  obtain ⟨j,o,a,d,f⟩:=c;by_cases e:j=id
  ·rw[sH,aPT e]at f;cases f
  rw[sH,aPS e]at f;rw[get_cons_other _ _ e]at d;exact .inl ⟨j,o,a,d,f⟩
 keep:=fun _ _ _=>rfl
 objs:=fun j o d=>by
  by_cases e:j=id
  ·subst e;rw[g]at d;cases d;exact⟨F3 _,get_cons_same _ _ _,Nat.le_succ _,fun h=>absurd h (by simp[F3])⟩
  exact⟨o,by rw[get_cons_other _ _ e];exact d,aP0 _,fun _=>⟨aPS e,rfl,fun _=>aP0 _⟩⟩
theorem Rel.dead{w:World}{I}{ι:kJ}(g:Rel I ι H w)(s:H.get id=some ob)(q:0<ob.sz):Rel (oV I ι id) (sH ι id) ((id,F3 ob)::H) w:=by
 have p:=Step.dead (w:=w) (I:=I) (ι:=ι) s;refine⟨fun b d=>?_,fun j o f=>?_,fun j u o z b c y f m n i=>?_,g.glob.mono (fun _ _=>rfl) (fun _ h=>.inl h)⟩
 ·rcases d with d|⟨k,d⟩
  ·exact g.imm b d
  exact g.lt ⟨id,ob,k,s,d⟩
 ·by_cases e:j=id
  ·subst e;rw[get_cons_same]at f;cases f;exact .inl ⟨q,by simp[F3],.inr ⟨aPT rfl,rfl⟩⟩
  rw[get_cons_other _ _ e]at f;refine(g.obj j o f).keep (aPS e) (fun b k B _=>⟨rfl,fun h=>?_⟩) (fun r _ a _ v A=>A.mono g p);rintro(d|⟨l,d⟩)
  ·grind
  exact e (g.inj j id o ob b k l f s B d)
 have x:j≠id:=fun e=>by rw[sH,aPT e]at n;cases n
 have t:u≠id:=fun e=>by rw[sH]at i;grind
 rw[sH,aPS x]at n;rw[sH,aPS t]at i;rw[get_cons_other _ _ x]at f;rw[get_cons_other _ _ t]at m;exact g.inj j u o z b c y f m n i
theorem aI.retire{f:FuncId}{args args':List AV}{Q}(ps:List (List PV))(h:aI P f args' ((id,F3 ob)::H) Q)(l:H.get id=some ob)(hsz:Nat.blt 0 ob.sz=true)(m:ob.rows=ps.map (·.map .pv))
  (hl:args.length=args'.length) (x:∀(i:Nat) (a a':AV),args[i]?=some a->args'[i]?=some a'->a=a'\/∃off len,a=.osl id ob.g off len/\a'=.pv (.sl ((ps.take (off+len)).drop off))):aI P f args H Q:=by
 intro I o w z k hlen u;have g:=Step.dead (w:=w) (I:=I) (ι:=o) l;refine(h _ _ w z (k.dead l (by simp_all)) (by omega) ?_).mono ?_
 ·intro i v a' y c;have d:i<args.length:=by
   have:=(aPY.1 c).1;omega
  have b:=u i v _ y (aPZ d);rcases x i _ a' (aPZ d) c with e|⟨off,len,B,C⟩
  ·rw[e]at b;exact b.mono k g
  rw[B]at b;rw[C];exact .pv (B2 k l m b)
 rintro e w' ⟨r,s,n,j,v,rfl,q,p,t,A⟩;exact⟨r,s,n,j,v,rfl,q,p,t,g.trans A⟩
end
end
end Go.Abs
