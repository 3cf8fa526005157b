/-
  Parts of the proof: rules of a program logic, contracts, plain laws. Conditions: each theorem's own.
-/
import Derived.Test.YtmdicgjnmfolfaaGreatDoorKR7M3
import Derived.Scope
import Derived.ChangeKeysEq
import Derived.Shelf.SortM.Plain
import Derived.Shelf.SortM.SortNone
import Derived.Ground.SlgmProg
import Derived.Shelf.Strconv.Itoa3
import Derived.Shelf.Bits.Mul64
import Derived.Shelf.LaysM
import Derived.Ground.NamesProg
import Derived.Shelf.Lays
import Derived.Laws.Bits64b
import Derived.Lib.AppendStr
import Derived.Lib.UnsafeStr
import Derived.Lib.MakeNoZero
import Derived.Lib.Builder
set_option linter.unusedVariables false
set_option linter.unusedSimpArgs false
set_option maxRecDepth 100000
set_option maxHeartbeats 8000000
namespace Go.Proofs
open Tryz
theorem FN:type_of% call241:=call241
theorem zK:type_of% call242:=call242
theorem aCW:type_of% isAgg0:=isAgg0
theorem LF:type_of% isAgg122:=isAgg122
theorem dX:type_of% isAgg124:=isAgg124
theorem dm:type_of% isAgg125:=isAgg125
theorem bZ:type_of% isAgg151:=isAgg151
theorem uQ:type_of% isAgg20:=isAgg20
theorem mN:type_of% isAgg4:=isAgg4
theorem aBg:type_of% sizeOf0:=sizeOf0
theorem HB:type_of% sizeOf122:=sizeOf122
theorem XQ:type_of% sizeOf125:=sizeOf125
theorem XP:type_of% sizeOf128:=sizeOf128
theorem Gz:type_of% underlying0:=underlying0
theorem iU:type_of% underlying122:=underlying122
theorem G9:type_of% underlying125:=underlying125
theorem xU:type_of% underlying128:=underlying128
theorem JP:type_of% underlying20:=underlying20
theorem eM:type_of% underlying4:=underlying4
theorem Ov:type_of% zeroValue0:=zeroValue0
theorem JM:type_of% zeroValue125:=zeroValue125
end Go.Proofs
namespace Go.Abs
section
theorem Clo.up{H H'}(d:∀i,(H.get i).isSome=true->(H'.get i).isSome=true){a}(h:Clo H a):Clo H' a:=by
 induction h with
 |any=>exact .any
 |pv p=>exact .pv p
 |pad rows i k=>exact .pad _ i k
 |ref h=>exact .ref (d _ h)
 |osl h=>exact .osl (d _ h)
 |clo h c=>exact .clo c
 |bnd h c=>exact .bnd c
 |agg h c=>exact .agg c
 |tup h c=>exact .tup c
 |mp h=>exact .mp (d _ h)
 |it h=>exact .it (d _ h)
 |yld h=>exact .yld (d _ h)
 |raw x ts=>exact .raw x _
 |osc h=>exact .osc (d _ h)
theorem Clo.app{D K}{a}(h:Clo K a):Clo (D++K) a:=h.up fun i hi=>by
 rw[gJ]
 grind
theorem eE.app{D K}(c:∀p∈D,∀r∈p.2.rows,∀a∈r,Clo (D++K) a)(g:eE K):eE (D++K):=by
 intro id o b;rw[gJ]at b;cases e:D.get _ with
 |some x =>
  rw[e]at b;cases b;exact c _ (dY e)
 |none =>
  rw[e]at b;exact fun r d a f=>(g _ o b r d a f).app
theorem Sub.front{D b K}(f:∀p∈D,K.get p.1=none)(c:∀p∈b,D.get p.1=some p.2):Sub (b++K) (D++K):=by
 intro id o a;rw[gJ]at a |-;cases e:b.get _ with
 |some x =>
  rw[e]at a;cases a;rw[c _ (dY e)]
 | none =>
  rw[e]at a;cases d:D.get _ with
  |none=>exact a
  |some x =>
   have:=f _ (dY d);rw[this]at a;cases a
theorem MX.front{G0 D a K}(g:∀p∈a,D.get p.1=some p.2)(f:∀p∈D,G0.get p.1=none):MX G0 (a++K) (D++K):=by
 intro id d;have c:D.get id=none:=by
  cases e:D.get _ with
  |none=>rfl
  |some x =>
   have:=f _ (dY e);rw[this]at d;cases d
 have b:a.get id=none:=by
  cases e:a.get _ with
  |none=>rfl
  |some x =>
   have:=g _ (dY e);rw[c]at this;cases this
 rw[gJ,gJ,c,b]
theorem cQ.front{G0}{E E'}{K}(D d)(z:we E (d++K) E')(j:∀p∈D,K.get p.1=none)(g:∀p∈d,D.get p.1=some p.2)(k:∀p∈d,∀r∈p.2.rows,∀a∈r,Clo (d++K) a)(y:eE K)
  (h:∀p∈D,G0.get p.1=none):cQ G0 E (D++K) E' (d++K):=by
 intro G n N a w f;obtain ⟨I,q,l,e,m⟩:=f.rel;subst n;have b:=Sub.front j g;refine⟨f.defers,f.size,I,q,l.restrict b (eE.app k y),e.restrict b (MX.front g h),fun t v x=>?_⟩;obtain ⟨s,i⟩:=z.spec _ (iA x);obtain ⟨c,o,u⟩:=m t v s;exact⟨c,o,u.restrict b i⟩
section
variable{F:Fence}{n:Nat}{P:Program}{b:Frame}{a:Act}{k:List Item}{cs:List Frame}{w:World}{Q:Exit->Act->World->Prop}
theorem qV{c}:step P (lone (b.atR a (.code (.scope c)::k)) cs w)=.next (lone (b.atR a (.code c::.inScope c::k)) cs w) :=step_lone_go (rfl)
theorem RU{c}:step P (lone (b.atR a (.inScope c::k)) cs w)=.next (lone (b.atR a k) cs w) :=step_lone_go (rfl)
theorem FD{c}(h:c.wpIn F n P (Exit.noGoto Q) a w):(Code.scope c).wpIn F n P Q a w:=by
 intro b k cs r q o;have j:(lone (b.atR a (.code (.scope c)::k)) _ w).fenced P F:=fenced_calm q o rfl;obtain ⟨e,f,g,i,d⟩:=h b _ _ r q o;cases e with
 |normal=>exact⟨.normal,f,g,i,.head j qV (StepsIn.trans d (.one (fenced_calm q o rfl) RU))⟩
 | exit id =>
  have hx:exitTo _ (.inScope c::k)=exitTo id k:=rfl;exact⟨_,f,g,i,fun k' u=>.head j qV (d.1 _ (by simp_all)),
   fun p u=>let ⟨m,s,t⟩:=d.2 p (by simp_all);⟨m,s,.head j qV t⟩⟩
 |goto l=>exact i.elim
 |ret=>exact⟨_,f,g,i,.of_steps (.one j qV) d⟩
 |panic ch=>exact⟨_,f,g,i,.of_steps (.one j qV) d⟩
 |outgrown=>exact⟨_,f,g,i,.of_steps (.one j qV) d⟩
end
def Oz(Q:Exit->dC->aG->Prop):Exit->dC->aG->Prop
 |.goto _,_,_=>False
 |e,E,H=>Q e E H
theorem va{P}{G0}{N}{E}{H}{Q}{c}(h:gC P G0 N c (Oz Q) E H):gC P G0 N (.scope c) Q E H:=by intro G d a w i ro g;refine FD (wpIn_mono (h G d a w i _ g) ?_);rintro e a' w' ⟨f,b,q,s⟩;cases e<;>first|exact⟨f,b,q,s⟩|exact q.elim
theorem xP{P}{G0}{N}{E}{H H2}{ops}{id n t}{d}{X}{Q}(h:gC P G0 N (.region id ops d) (fun e c H1=>e=.normal/\cq n t X E H2 c H1) E H)(g:Q .normal ((t,.pv (.bool X))::E) H2):gC P G0 N (.region id ops d) Q E H:=by intro G f a w k ro j;refine wpIn_mono (h G f a w k _ j) ?_;rintro e a' w' ⟨c,H1,⟨rfl,i⟩,b⟩;exact⟨_,_,g,(i.ent) G f N _ _ b⟩
def JH(H:aG):aG->Prop
 | []=>True
 |(_,o)::r=>(∀r∈o.rows,∀a∈r,Clo H a)/\JH H r
theorem JH.spec{H}:∀ {L},JH H L->∀p∈L,∀r∈p.2.rows,∀a∈r,Clo H a
 |(i,o)::L,h,p,b=>by
  rcases aCr.1 b with rfl|b
  ·exact h.1
  exact JH.spec h.2 p b
theorem eE.ofL{H}(h:JH H H):eE H:=fun _ _ a=>h.spec _ (dY a)
def lo(D:aG)(n:Nat):Prop:=∀p∈D,900<=p.1/\p.1<n
def clear(K:aG):Prop:=∀i,900<=i->i<1000->K.get i=none
theorem Fin.of_ent{G0 H H'}{r r'}(h:cQ G0 [(0,r)] H [(0,r')] H'):Fin G0 H r H' r':=by
 intro G b I i w v f a h3;obtain ⟨_,_,I',ι',k1,k2,d⟩:=h G b 1 ⟨#[v],G.ds⟩ w ⟨sY.nil _ _ _,rfl,I,i,f,a,fun t x g=>by
  simp[dC.get]at g;cases e:Nat.beq 0 t with
  |true=>simp_all
  |false=>simp_all⟩
 obtain ⟨c,hc,hv⟩:=d 0 _ rfl
 grind
theorem Sub.front'{D b K}(f:∀p∈D,(b.get p.1).isSome=true\/K.get p.1=none)(c:∀p∈b,D.get p.1=some p.2):Sub (b++K) (D++K):=by
 intro id o a;rw[gJ]at a |-;cases e:b.get _ with
 |some x =>
  rw[e]at a;cases a;rw[c _ (dY e)]
 | none =>
  rw[e]at a;cases d:D.get _ with
  |none=>exact a
  |some x =>
   rcases f _ (dY d)with h|h;all_goals simp_all
theorem MX.front'{G0 D a K}(c:∀p∈a,D.get p.1=some p.2)(b:∀p∈D,(a.get p.1).isSome=true\/G0.get p.1=none):MX G0 (a++K) (D++K):=by
 intro id hi;rw[gJ,gJ];cases e:a.get _ with
 |some x=>rw[c _ (dY e)]
 | none =>
  cases d:D.get _ with
  |none=>rfl
  |some x =>
   rcases b _ (dY d)with h|h;all_goals simp_all
theorem Fin.front'{G0 K}{r}(D d)(k:Clo (d++K) r)(i:∀p∈D,(d.get p.1).isSome=true\/K.get p.1=none)(e:∀p∈d,D.get p.1=some p.2)(j:∀p∈d,∀r∈p.2.rows,∀a∈r,Clo (d++K) a)(o:eE K)
  (f:∀p∈D,(d.get p.1).isSome=true\/G0.get p.1=none):Fin G0 (D++K) r (d++K) r:=by
 intro G g I l w v m n h;subst g;have b:=Sub.front' i e;exact⟨I,l,m.restrict b (eE.app j o),n.restrict b (MX.front' e f),h.restrict b k⟩
theorem Fin.get'{G0 H H'}{r}(a:∀j,H'.get j=H.get j):Fin G0 H r H' r:=Fin.of_ent (cQ.get' ⟨⟨_,rfl,rfl⟩,trivial⟩ a)
end
end Go.Abs
namespace Go.Proofs.YtmdicgjnmfolfaaGreatDoor
open Go.Proofs.Tryz
open Go.Abs
variable{α:Type}
theorem OE:∀ {a b},pY a b=true↔a=b
 | [],[]=>by simp[pY]
 | [],_::_=>by simp[pY]
 |_::_,[]=>by simp[pY]
 |x::a,y::b=>by rw[pY,aCo,SY,OE];simp
theorem aBG(k f o g n j m l:ByteArray)(w:World):(Op.equalIn 10000 274 (.agg [.string k,.string o,.string n,.string m].toArray) (.agg [.string f,.string g,.string j,.string l].toArray)).run Tryz.prog w =
  .ok (decide (k=f)&&decide (o=g)&&decide (n=j)&&decide (m=l)) w:=by
 obtain ⟨i,q⟩:=info_of_underlying underlying9;refine(run_equalIn_array (P:=Tryz.prog) w 9999 _ _ underlying274 q).trans ?_;have s:∀(d:Nat) (a b:ByteArray) (w:World),(Op.equalIn (d+1) 9 (.string a) (.string b)).run Tryz.prog w=.ok (decide (a=b)) w:=fun d a b w=>by rw[run_equalIn_string w d 9 a b underlying9,AP]
 have t:Tryz.prog.cellsOf 9=1:=by rfl
 by_cases r:k=f<;>by_cases p:o=g<;>by_cases u:n=j<;>by_cases v:m=l<;>simp[List.range_succ,Op.eqItems,part,t,s,isAgg9,r,p,u,v]
theorem bf(a b:List ByteArray)(H:aG)(ha:a.length<4611686018427387904):RC 268 [.pv (aU a),.pv (aU b)] (bv (decide (a=b))) H:=by
 refine Pu ?_;have hma:(a.map encStr).length=a.length:=aCf _;refine Bd func268 rfl ntmps268<|Sz aH<|Sq<|Sd aC<|Dd (eR aD)<|Dd aC<|Dd (eR aD)<|Zd rI ?_;refine Cn ?_ ?_<;>intro hc1
 ·have j:¬ a=b:=by
   grind
  refine Sz aH<|aB<|Rt ?_
  simp_all
 have m:a.length=b.length:=by
  grind
 refine aA<|Sq<|Sd aC<|Dd (eR aD)<|Zd aC<|aE ?_;refine bJ (σ:=Nat) (fun k=>([(0,.pv (aU a)),(1,.pv (aU b)),(12,iv ((a.map encStr).length:Int)),(13,iv (k:Int))],[])) (fun k=>k<=a.length/\a.take k=b.take k) (fun k=>a.length - k) 0 ⟨by omega,by simp⟩ ?_ ?_
 ·exact E0
 rintro k ⟨hk,e⟩;refine Sz cJ<|Sq ?_;refine Cn ?_ ?_<;>intro f
 ·have l:k<a.length:=by have:=aCb f;omega
  obtain ⟨x,n⟩:=aT l;obtain ⟨y,o⟩:=aT (l:=b) (k:=k) (by omega);have hi:=cE (f:=encStr) n;have hi2:=cE (f:=encStr) o;refine aA<|Sq<|aE<|Sd aC<|Zd aH<|Sq<|aL follows<|Cq aC<|Cq aC<|Cq (jE bT)<|Cq (fO isAgg9)<|Cq aC<|Cq aC<|Cq (jE bT)<|Cq (fO isAgg9)<|Cq DH<|bF<|Kr ?_;refine Cn ?_ ?_<;>intro i
  ·have j:¬ a=b:=by
    grind
   refine Sz aH<|aB<|Rt ?_
   simp_all
  have p:x=y:=by
   have h:(!decide (x=y))=false:=i
   simpa using h
  refine aA<|Rd iF<|Zd aC ?_;refine⟨k+1,⟨by omega,?_⟩,by omega,E0⟩;rw[List.take_add_one,List.take_add_one,n,o,e,p]
 have g:k=a.length:=by have:=aCc f;omega
 have he:a=b:=by
  have h:=e;rw[g,List.take_length,m,List.take_length]at h;exact h
 refine aS<|Sz aH<|aB<|Rt ?_
 simp_all
def sF(a b:GObj):Bool:=((decide (a.id=b.id)&&decide (a.kind=b.kind)&&(decide (a.x=b.x)&&decide (a.y=b.y)))&&decide (a.refs=b.refs))&&pY a.tags b.tags
theorem CC{a b}:sF a b=true↔a=b:=by
 cases a;cases b;simp[sF,aCo,aCm,OE,GObj.mk.injEq]
 grind
def okS(o:GObj):Prop:=o.refs.length<4611686018427387904/\o.tags.length<4611686018427387904
theorem Ju(a b:GObj)(H:aG)(h:okS a):RC 269 [av (bG a),av (bG b)] (bv (sF a b)) H:=by
 refine Pu ?_;refine Bd func269 rfl ntmps269<|Sd (kb 2)<|Dd (kb 3)<|Zd aH<|Sq ?_;refine aQ (t:=4) (n:=38) (X:=sF a b) ?_ ?_
 ·all_goals refine Dd (aV oW) ?_
  all_goals refine Dd (bD isAgg9)<|Dd (aV oW)<|Dd (bD isAgg9)<|Dd vF<|Dm ?_<;>(refine Sp 10 (fun d=>?_) fun d=>?_)<;>(first|contradiction|refine Fo<|Fo<|Fo<|Fo<|Fo ?_|refine On (aV dW)<|On (bD isAgg3)<|On (aV dW)<|On (bD isAgg3)<|On cF ?_)<;>refine Dd cD<|Dm ?_<;>(refine Sp 17 (fun f=>?_) fun f=>?_)<;>(first|contradiction|refine Fo<|Fo<|Fo<|Fo<|Fo ?_|refine On (aV lV)<|On (by exact aM rfl dO sizeOf68 rfl rfl rfl rfl (by simp only[Zl,bM,bG,encStr,aZ];rfl) rfl)<|On (aV lV)<|On (by exact aM rfl dO sizeOf68 rfl rfl rfl rfl (by simp only[Zl,bM,bG,encStr,aZ];rfl) rfl)<|On (by exact AK rfl rfl rfl rfl rfl iV (VR _ _ _ _)) ?_)<;>refine Dd cD<|Dm ?_<;>(refine Sp 24 (fun g=>?_) fun g=>?_)<;>(first|contradiction|refine Fo<|Fo<|Fo<|Fo<|Fo ?_|refine On (aV dQ)<|On (bD aF)<|On (aV dQ)<|On (bD aF)<|On (kc call268 (bf a.refs b.refs _ h.1)) ?_)<;>refine Dd cD<|Dm ?_<;>(refine Sp 31 (fun e=>?_) fun e=>?_)<;>(first|contradiction|refine Fo<|Fo<|Fo<|Fo<|Fo ?_|refine On (aV eT)<|On (bD cU)<|On (aV eT)<|On (bD cU)<|On (kc call273 (ba a.tags b.tags _ h.2)) ?_)<;>refine Dd cD<|Da ?_<;>(exact⟨⟨_,rfl,by(simp only[sF, *];rfl)⟩,rfl,rfl,rfl⟩)
 exact aB<|Rt<|Qq
def mC(a b:GEdit):Bool:=((((decide (a.refs=b.refs)&&sF a.obj b.obj)&&decide (a.op=b.op))&&(decide (a.id=b.id)&&decide (a.other=b.other)&&decide (a.node=b.node)&&decide (a.key=b.key)))&&decide (a.val=b.val))&&(decide (a.x=b.x)&&decide (a.y=b.y))
theorem oM{a b}:mC a b=true↔a=b:=by
 cases a;cases b;simp[mC,aCo,aCm,CC,GEdit.mk.injEq]
 grind
theorem BS(a b:GEdit)(H:aG)(j:a.refs.length<4611686018427387904)(i:okS a.obj):RC 242 [av (aZ a),av (aZ b)] (bv (mC a b)) H:=by
 refine Pu ?_;refine Bd func242 rfl ntmps242<|Sd (kb 2)<|Dd (kb 3)<|Zd aH<|Sq ?_;refine aQ (t:=5) (n:=14) (X:=decide (a.refs=b.refs)&&sF a.obj b.obj) ?_ ?_
 ·all_goals refine Dd (aV fB) ?_
  all_goals refine Dd (bD aF)<|Dd (aV fB)<|Dd (bD aF)<|Dd (kc call268 (bf a.refs b.refs _ j))<|Dm ?_<;>(refine Sp 11 (fun g=>?_) fun g=>?_)<;>(first|contradiction|refine Fo<|Fo<|Fo<|Fo<|Fo ?_|refine On (aV oV)<|On (by exact aM rfl bZ sizeOf151 rfl rfl rfl rfl (by simp only[Zl,bM,bG,encStr,aZ];rfl) rfl)<|On (aV oV)<|On (by exact aM rfl bZ sizeOf151 rfl rfl rfl rfl (by simp only[Zl,bM,bG,encStr,aZ];rfl) rfl)<|On (kc call269 (Ju a.obj b.obj _ i)) ?_)<;>refine Dd cD<|Da ?_<;>(exact⟨⟨_,rfl,by simp_all⟩,rfl,rfl,rfl⟩)
 refine Sq ?_;refine aQ (t:=4) (n:=48) (X:=mC a b) ?_ ?_
 ·all_goals refine Dd aC ?_
  all_goals refine Dm ?_<;>(refine Sp 19 (fun f=>?_) fun f=>?_)<;>(first|contradiction|refine Fo<|Fo<|Fo<|Fo<|Fo ?_|refine On (aV gN)<|On (bD isAgg3)<|On (aV gN)<|On (bD isAgg3)<|On cF ?_)<;>refine Dd cD<|Dm ?_<;>(refine Sp 26 (fun h26=>?_) fun h26=>?_)<;>(first|contradiction|refine Fo<|Fo<|Fo<|Fo<|Fo<|Fo<|Fo<|Fo<|Fo<|Fo<|Fo<|Fo<|Fo<|Fo<|Fo<|Fo<|Fo<|Fo<|Fo ?_|refine On (aV iE)<|On (bD isAgg9)<|On (aV iL)<|On (bD isAgg9)<|On (aV nC)<|On (bD isAgg9)<|On (aV kQ)<|On (bD isAgg9)<|On (by exact yB rfl Qk rfl rfl)<|On (aV iE)<|On (bD isAgg9)<|On (aV iL)<|On (bD isAgg9)<|On (aV nC)<|On (bD isAgg9)<|On (aV kQ)<|On (bD isAgg9)<|On (by exact yB rfl Qk rfl rfl)<|On (by exact AK rfl rfl rfl rfl rfl eqGuardType274 (aBG a.id b.id a.other b.other a.node b.node a.key b.key)) ?_)<;>refine Dd cD<|Dm ?_<;>(refine Sp 47 (fun h=>?_) fun h=>?_)<;>(first|contradiction|refine Fo<|Fo<|Fo<|Fo<|Fo ?_|refine On (aV lG)<|On (bD isAgg9)<|On (aV lG)<|On (bD isAgg9)<|On vF ?_)<;>refine Dd cD<|Dm ?_<;>(refine Sp 54 (fun e=>?_) fun e=>?_)<;>(first|contradiction|refine Fo<|Fo<|Fo<|Fo<|Fo ?_|refine On (aV iD)<|On (by exact aM rfl dO sizeOf68 rfl rfl rfl rfl (by simp only[Zl,bM,bG,encStr,aZ];rfl) rfl)<|On (aV iD)<|On (by exact aM rfl dO sizeOf68 rfl rfl rfl rfl (by simp only[Zl,bM,bG,encStr,aZ];rfl) rfl)<|On (by exact AK rfl rfl rfl rfl rfl iV (VR _ _ _ _)) ?_)<;>refine Dd cD<|Da ?_<;>(exact⟨⟨_,rfl,by(simp only[mC, *];rfl)⟩,rfl,rfl,rfl⟩)
 exact aB<|Rt<|Qq
def atP{α:Type}(l:List α)(p:α->Bool)(k:Nat):Bool:=match l[k]? with
 |some s=>p s
 |none=>false
theorem RB{l}{p}{k}{s:α}(h:l[k]?=some s):atP l p k=p s:=by rw[atP,h]
theorem RW(l:List α)(p):(List.range l.length).any (atP l p)=l.any p:=by
 rw[Bool.eq_iff_iff,List.any_eq_true,List.any_eq_true];constructor
 ·rintro⟨k,a,h⟩;have b:=List.mem_range.1 a;rw[RB (aCk b)]at h;exact⟨_,List.getElem_mem _,h⟩
 rintro⟨x,c,h⟩;obtain ⟨k,a⟩:=aDA.1 c;exact⟨k,List.mem_range.2 (aCj.1 a).1,by rw[RB a];exact h⟩
theorem By(s)(H)(b:s.size<4611686018427387904):RC 267 [sv s] (bv (!bS s)) H:=by refine Pu ?_;exact Bd func267 rfl ntmps267<|Sz aH<|Sd aC<|Dd (bL rfl rfl pU rfl (B3 s _ b))<|Dd iJ<|Zd aH<|aB<|Rt<|Qq
theorem WU(l)(H)(d:l.length<4611686018427387904)(c:∀s∈l,s.size<4611686018427387904):RC 241 [.pv (aU l)] (bv (l.all bS)) H:=by
 refine Pu ?_;have e:l.all bS=!(List.range l.length).any (atP l (fun s=>!bS s)):=by
  rw[RW l _,List.any_eq_not_all_not];simp
 rw[e];exact Bd func241 rfl ntmps241<|Sz aH<|Sd aC<|Dd (kc XU (uC _ l (atP l _) (fun _=>[]) d (fun k s b=>dI.fn call267 (by rw[RB b];exact By s _ (c s (aCp b))))))<|Dd iJ<|Zd aH<|aB<|Rt<|Qq
def BC(e:GEdit):GEdit :=if e.op=1 then⟨e.op,sNil,sNil,sNil,0,0,sNil,sNil,[],e.obj⟩
 else if e.op=2 then⟨e.op,e.id,sNil,sNil,e.x,e.y,sNil,sNil,[],zObj⟩
 else if e.op=3 then⟨e.op,e.id,sNil,sNil,0,0,e.key,e.val,[],zObj⟩
 else if e.op=4 then⟨e.op,e.id,sNil,sNil,0,0,sNil,sNil,e.refs,zObj⟩
 else if e.op=5 then⟨e.op,e.id,sNil,sNil,0,0,sNil,sNil,[],zObj⟩
 else if e.op=6 then⟨e.op,e.id,e.other,e.node,0,0,sNil,sNil,[],zObj⟩
 else⟨e.op,e.id,e.other,sNil,0,0,sNil,sNil,[],zObj⟩
def rY(e:GEdit):Bool :=if e.op=1 then nA e.obj
 else bS e.id&&(if e.op=2 then Bl e.x e.y else if e.op=3 then bS e.key&&decide ((e.val.size:Int)<=200)
  else if e.op=4 then decide ((0:Int)<(e.refs.length:Int))&&decide ((e.refs.length:Int)<=2000)&&e.refs.all bS
  else if e.op=5 then true else if e.op=6 then bS e.node&&bS e.other else bS e.other)
def dT(e:GEdit):Bool:=(decide (1<=e.op)&&decide (e.op<=7))&&(rY e&&mC (BC e) e)
def KD(e:GEdit):Prop:=(e.id.size<4611686018427387904/\e.other.size<4611686018427387904/\e.node.size<4611686018427387904/\e.key.size<4611686018427387904)/\(e.refs.length<4611686018427387904/\∀s∈e.refs,s.size<4611686018427387904)/\ZU e.obj
theorem Tp{o}(h:ZU o):okS o:=⟨h.2.2.1,h.2.1.1⟩
theorem TP:okS zObj:=⟨by decide,by decide⟩
theorem Ls(s)(H)(hs:s.size<4611686018427387904):RC 241 [.pv (aU [s])] (bv (bS s)) H:=by
 have h:=WU [s] H (by simp) (by simp_all)
 simpa using h
theorem aBY(s t)(H)(hs:s.size<4611686018427387904)(ht:t.size<4611686018427387904):RC 241 [.pv (aU [s,t])] (bv (bS s&&bS t)) H:=by
 have h:=WU [s,t] H (by simp) (by simp_all)
 simpa using h
theorem bh(e:GEdit)(H:aG)(J:KD e):RC 202 [av (aZ e)] (bv (dT e)) H:=by
 refine Pu ?_;obtain ⟨⟨G,F,I,C⟩,⟨D,K⟩,E⟩:=J;have B:(e.refs.map encStr).length=e.refs.length:=aCf _;refine Bd func202 rfl ntmps202<|Sd (kb 1)<|Zd aH<|Sd (aV gN)<|Dd (bD isAgg3)<|Dd (aV iE)<|Dd (bD isAgg9)<|Dd (nP sX)<|Dd (kl 3 N2)<|Uu (iP aR)<|Zz<|Sd (aV iE)<|Dd (bD isAgg9)<|Dd (by exact aN ([e.id].map encStr) rfl bT rfl rfl rfl rfl rfl (by simp[encStr]))<|Dd (kc FN (Ls e.id _ G))<|Zd aH<|Sq<|Sd (aV gN)<|Zd (bD isAgg3)<|aE<|Sd cF<|Da ?_;refine Cn ?_ ?_<;>intro z
 ·have ho:e.op=1:=aCb z;have hx:BC e=⟨e.op,sNil,sNil,sNil,0,0,sNil,sNil,[],e.obj⟩:=by rw[BC,aCe ho]
  have hk:rY e=nA e.obj:=by rw[rY,aCe ho]
  have hv:dT e=(nA e.obj&&mC ⟨e.op,sNil,sNil,sNil,0,0,sNil,sNil,[],e.obj⟩ e):=by rw[dT,hx,hk,ho];rfl
  refine aL follows<|Cr [1] (fun _ h=>fh oV h)<|Cr [1] (fun H1 hH=>by exact aM rfl bZ sizeOf151 rfl ((hH _ rfl).trans rfl) rfl rfl (by simp only[Zl,bM,bG,encStr,aZ,zObj];rfl) rfl)<|Cr [1] (fun _ h=>fh oV h)<|Cr [1] (fun H1 hH=>by exact aM rfl bZ sizeOf151 rfl ((hH _ rfl).trans rfl) rfl rfl (by simp only[Zl,bM,bG,encStr,aZ,zObj];rfl) rfl)<|Cr [] (fun H1 hH=>by exact bL rfl rfl call233 rfl (PM e.obj _ E))<|Cr [3] (fun _ h=>fh iE h)<|Cp [3] (fun _ h=>su sizeOf9 h)<|Cr [3] (fun _ h=>fh oV h)<|Cp [3] (fun _ h=>sx sizeOf151 h)<|Cr [] (fun _ _=>aH) ?_;refine bF<|Kr<|Sq ?_;refine aQ (t:=2) (n:=8) (X:=nA e.obj&&mC ⟨e.op,sNil,sNil,sNil,0,0,sNil,sNil,[],e.obj⟩ e) ?_ ?_
  ·all_goals refine Dd aC ?_
   all_goals refine Dm ?_<;>(refine Sp 127 (fun h127=>?_) fun h127=>?_)<;>(first|contradiction|refine Fo<|Fo<|Fo ?_|refine On (by exact aM rfl bW aR rfl rfl rfl rfl (by simp only[Zl,bM,bG,encStr,aZ,zObj];rfl) rfl)<|On (by exact aM rfl bW aR rfl rfl rfl rfl (by simp only[Zl,bM,bG,encStr,aZ,zObj];rfl) rfl)<|On (kc zK (BS ⟨e.op,sNil,sNil,sNil,0,0,sNil,sNil,[],e.obj⟩ e _ (by simp_all) (Tp E))) ?_)<;>refine Dd cD<|Da ?_<;>(exact⟨⟨_,rfl,by simp_all⟩,rfl,rfl,rfl⟩)
  refine aB<|Rt ?_
  simp_all
 have ho1:¬ e.op=1:=aCc z;refine Sd cF<|Da ?_;refine Cn ?_ ?_<;>intro A
 ·have ho:e.op=2:=aCb A;have hx:BC e=⟨e.op,e.id,sNil,sNil,e.x,e.y,sNil,sNil,[],zObj⟩:=by rw[BC,aCd ho1,aCe ho]
  have hk:rY e=(bS e.id&&Bl e.x e.y):=by rw[rY,aCd ho1,aCe ho]
  have hb:(bS e.id&&decide (0<=min e.x e.y)&&decide (max e.x e.y<1048576))=(bS e.id&&Bl e.x e.y):=by rw[Bl,Bool.and_assoc]
  have hv:dT e=((bS e.id&&decide (0<=min e.x e.y)&&decide (max e.x e.y<1048576))&&mC ⟨e.op,e.id,sNil,sNil,e.x,e.y,sNil,sNil,[],zObj⟩ e):=by rw[dT,hx,hk,hb,ho];rfl
  apply xP (t:=4) (n:=25) (X:=bS e.id&&decide (0<=min e.x e.y)&&decide (max e.x e.y<1048576))
  ·cases hg30:(bS e.id:Bool)
   ·refine aL follows<|Cr [1] (fun _ h=>fh iD h)<|Cr [1] (fun H1 hH=>by exact aM rfl dO sizeOf68 rfl ((hH _ rfl).trans rfl) rfl rfl (by simp only[Zl,bM,bG,encStr,aZ,zObj];rfl) rfl)<|Cr [] (fun _ _=>aC)<|Cr [] (fun _ _=>aC)<|Ot<|Ot<|Ot<|Ot<|Ot<|Ot<|Ot<|Ot<|Cr [] (fun _ _=>cD)<|Cr [] (fun _ _=>aC)<|Ot<|Ot<|Ot<|Ot<|Ot<|Ot<|Ot<|Ot<|Cr [] (fun _ _=>cD)<|Cr [3] (fun _ h=>fh iD h)<|Cp [3] (fun _ h=>sx sizeOf68 h)<|Cr [] (fun _ _=>aH)<|bF<|Kr ?_;exact⟨rfl,⟨_,rfl,by rfl⟩,rfl,rfl,rfl⟩
   cases hg40:(decide (0<=min e.x e.y):Bool)
   ·refine aL follows<|Cr [1] (fun _ h=>fh iD h)<|Cr [1] (fun H1 hH=>by exact aM rfl dO sizeOf68 rfl ((hH _ rfl).trans rfl) rfl rfl (by simp only[Zl,bM,bG,encStr,aZ,zObj];rfl) rfl)<|Cr [] (fun _ _=>aC)<|Cr [] (fun _ _=>aC)<|Lt [1] (fun _ h=>fh iD h)<|Lt [1] (fun _ h=>fh pC h)<|Lt [1] (fun _ h=>lh isAgg3 h)<|Lt [1] (fun _ h=>fh iD h)<|Lt [1] (fun _ h=>fh pB h)<|Lt [1] (fun _ h=>lh isAgg3 h)<|Lt [] (fun H1 hH=>by exact BZ rfl rfl rfl rfl)<|Lt [] (fun H1 hH=>by exact jF rfl rfl rfl) ?_;refine Cr [] (fun _ _=>cD)<|Cr [] (fun _ _=>aC)<|Ot<|Ot<|Ot<|Ot<|Ot<|Ot<|Ot<|Ot<|Cr [] (fun _ _=>nT)<|Cr [3] (fun _ h=>fh iD h)<|Cp [3] (fun _ h=>sx sizeOf68 h)<|Cr [] (fun _ _=>aH)<|bF<|Kr ?_;exact⟨rfl,⟨_,rfl,by rfl⟩,rfl,rfl,rfl⟩
   refine aL follows<|Cr [1] (fun _ h=>fh iD h)<|Cr [1] (fun H1 hH=>by exact aM rfl dO sizeOf68 rfl ((hH _ rfl).trans rfl) rfl rfl (by simp only[Zl,bM,bG,encStr,aZ,zObj];rfl) rfl)<|Cr [] (fun _ _=>aC)<|Cr [] (fun _ _=>aC)<|Lt [1] (fun _ h=>fh iD h)<|Lt [1] (fun _ h=>fh pC h)<|Lt [1] (fun _ h=>lh isAgg3 h)<|Lt [1] (fun _ h=>fh iD h)<|Lt [1] (fun _ h=>fh pB h)<|Lt [1] (fun _ h=>lh isAgg3 h)<|Lt [] (fun H1 hH=>by exact BZ rfl rfl rfl rfl)<|Lt [] (fun H1 hH=>by exact jF rfl rfl rfl) ?_;refine Cr [] (fun _ _=>cD)<|Cr [] (fun _ _=>aC)<|Lt [1] (fun _ h=>fh iD h)<|Lt [1] (fun _ h=>fh pC h)<|Lt [1] (fun _ h=>lh isAgg3 h)<|Lt [1] (fun _ h=>fh iD h)<|Lt [1] (fun _ h=>fh pB h)<|Lt [1] (fun _ h=>lh isAgg3 h)<|Lt [] (fun H1 hH=>by exact Ld rfl rfl rfl rfl)<|Lt [] (fun H1 hH=>by exact iZ rfl rfl rfl) ?_;refine Cr [] (fun _ _=>xX)<|Cr [3] (fun _ h=>fh iD h)<|Cp [3] (fun _ h=>sx sizeOf68 h)<|Cr [] (fun _ _=>aH)<|bF<|Kr ?_;exact⟨rfl,⟨_,rfl,by rfl⟩,rfl,rfl,rfl⟩
  refine Sq ?_;refine aQ (t:=2) (n:=8) (X:=(bS e.id&&decide (0<=min e.x e.y)&&decide (max e.x e.y<1048576))&&mC ⟨e.op,e.id,sNil,sNil,e.x,e.y,sNil,sNil,[],zObj⟩ e) ?_ ?_
  ·all_goals refine Dd aC ?_
   all_goals refine Dm ?_<;>(refine Sp 127 (fun h127=>?_) fun h127=>?_)<;>(first|contradiction|refine Fo<|Fo<|Fo ?_|refine On (by exact aM rfl bW aR rfl rfl rfl rfl (by simp only[Zl,bM,bG,encStr,aZ,zObj];rfl) rfl)<|On (by exact aM rfl bW aR rfl rfl rfl rfl (by simp only[Zl,bM,bG,encStr,aZ,zObj];rfl) rfl)<|On (kc zK (BS ⟨e.op,e.id,sNil,sNil,e.x,e.y,sNil,sNil,[],zObj⟩ e _ (by(show 0<_;omega)) TP)) ?_)<;>refine Dd cD<|Da ?_<;>(exact⟨⟨_,rfl,by(rw[h127];rfl)⟩,rfl,rfl,rfl⟩)
  refine aB<|Rt ?_
  simp_all
 have ho2:¬ e.op=2:=aCc A;refine Sd cF<|Da ?_;refine Cn ?_ ?_<;>intro w
 ·have ho:e.op=3:=aCb w;have hx:BC e=⟨e.op,e.id,sNil,sNil,0,0,e.key,e.val,[],zObj⟩:=by rw[BC,aCd ho1,aCd ho2,aCe ho]
  have hk:rY e=(bS e.id&&(bS e.key&&decide ((e.val.size:Int)<=200))):=by rw[rY,aCd ho1,aCd ho2,aCe ho]
  have hb:(bS e.id&&bS e.key&&decide ((e.val.size:Int)<=200))=(bS e.id&&(bS e.key&&decide ((e.val.size:Int)<=200))):=by rw[Bool.and_assoc]
  have hv:dT e=((bS e.id&&bS e.key&&decide ((e.val.size:Int)<=200))&&mC ⟨e.op,e.id,sNil,sNil,0,0,e.key,e.val,[],zObj⟩ e):=by rw[dT,hx,hk,hb,ho];rfl
  apply xP (t:=4) (n:=20) (X:=bS e.id&&bS e.key&&decide ((e.val.size:Int)<=200))
  ·cases hg58:(bS e.id:Bool)
   ·refine aL follows<|Cr [1] (fun _ h=>fh kQ h)<|Cr [1] (fun _ h=>lh isAgg9 h)<|Cr [1] (fun _ h=>fh lG h)<|Cr [1] (fun _ h=>lh isAgg9 h)<|Cr [] (fun _ _=>aC)<|Cr [] (fun _ _=>aC)<|Ot<|Ot<|Ot<|Ot<|Cr [] (fun _ _=>cD)<|Cr [] (fun _ _=>aC)<|Ot<|Ot<|Ot<|Ot<|Cr [] (fun _ _=>cD)<|Cr [3] (fun _ h=>fh kQ h)<|Cp [3] (fun _ h=>su sizeOf9 h)<|Cr [3] (fun _ h=>fh lG h)<|Cp [3] (fun _ h=>su sizeOf9 h)<|Cr [] (fun _ _=>aH)<|bF<|Kr ?_;exact⟨rfl,⟨_,rfl,by rfl⟩,rfl,rfl,rfl⟩
   cases hg64:(bS e.key:Bool)
   ·refine aL follows<|Cr [1] (fun _ h=>fh kQ h)<|Cr [1] (fun _ h=>lh isAgg9 h)<|Cr [1] (fun _ h=>fh lG h)<|Cr [1] (fun _ h=>lh isAgg9 h)<|Cr [] (fun _ _=>aC)<|Cr [] (fun _ _=>aC)<|Lt [1] (fun _ h=>fh kQ h)<|Lt [1] (fun _ h=>lh isAgg9 h)<|Lt [] (fun H1 hH=>by exact aN ([e.key].map encStr) rfl bT rfl rfl rfl rfl rfl (by simp[encStr]))<|Lt [] (fun H1 hH=>by exact bL rfl rfl FN rfl (Ls e.key _ C)) ?_;refine Cr [] (fun _ _=>cD)<|Cr [] (fun _ _=>aC)<|Ot<|Ot<|Ot<|Ot<|Cr [] (fun _ _=>nT)<|Cr [3] (fun _ h=>fh kQ h)<|Cp [3] (fun _ h=>su sizeOf9 h)<|Cr [3] (fun _ h=>fh lG h)<|Cp [3] (fun _ h=>su sizeOf9 h)<|Cr [] (fun _ _=>aH)<|bF<|Kr ?_;exact⟨rfl,⟨_,rfl,by rfl⟩,rfl,rfl,rfl⟩
   refine aL follows<|Cr [1] (fun _ h=>fh kQ h)<|Cr [1] (fun _ h=>lh isAgg9 h)<|Cr [1] (fun _ h=>fh lG h)<|Cr [1] (fun _ h=>lh isAgg9 h)<|Cr [] (fun _ _=>aC)<|Cr [] (fun _ _=>aC)<|Lt [1] (fun _ h=>fh kQ h)<|Lt [1] (fun _ h=>lh isAgg9 h)<|Lt [] (fun H1 hH=>by exact aN ([e.key].map encStr) rfl bT rfl rfl rfl rfl rfl (by simp[encStr]))<|Lt [] (fun H1 hH=>by exact bL rfl rfl FN rfl (Ls e.key _ C)) ?_;refine Cr [] (fun _ _=>cD)<|Cr [] (fun _ _=>aC)<|Lt [1] (fun _ h=>fh lG h)<|Lt [1] (fun _ h=>lh isAgg9 h)<|Lt [] (fun H1 hH=>by exact LQ rfl underlying9 rfl)<|Lt [] (fun H1 hH=>by exact oS rfl rfl rfl) ?_;refine Cr [] (fun _ _=>xX)<|Cr [3] (fun _ h=>fh kQ h)<|Cp [3] (fun _ h=>su sizeOf9 h)<|Cr [3] (fun _ h=>fh lG h)<|Cp [3] (fun _ h=>su sizeOf9 h)<|Cr [] (fun _ _=>aH)<|bF<|Kr ?_;exact⟨rfl,⟨_,rfl,by rfl⟩,rfl,rfl,rfl⟩
  refine Sq ?_;refine aQ (t:=2) (n:=8) (X:=(bS e.id&&bS e.key&&decide ((e.val.size:Int)<=200))&&mC ⟨e.op,e.id,sNil,sNil,0,0,e.key,e.val,[],zObj⟩ e) ?_ ?_
  ·all_goals refine Dd aC ?_
   all_goals refine Dm ?_<;>(refine Sp 127 (fun h127=>?_) fun h127=>?_)<;>(first|contradiction|refine Fo<|Fo<|Fo ?_|refine On (by exact aM rfl bW aR rfl rfl rfl rfl (by simp only[Zl,bM,bG,encStr,aZ,zObj];rfl) rfl)<|On (by exact aM rfl bW aR rfl rfl rfl rfl (by simp only[Zl,bM,bG,encStr,aZ,zObj];rfl) rfl)<|On (kc zK (BS ⟨e.op,e.id,sNil,sNil,0,0,e.key,e.val,[],zObj⟩ e _ (by(show 0<_;omega)) TP)) ?_)<;>refine Dd cD<|Da ?_<;>(exact⟨⟨_,rfl,by(rw[h127];rfl)⟩,rfl,rfl,rfl⟩)
  refine aB<|Rt ?_;exact⟨by rw[hv],rfl⟩
 have ho3:¬ e.op=3:=aCc w;refine Sd cF<|Da ?_;refine Cn ?_ ?_<;>intro t
 ·have ho:e.op=4:=aCb t;have hx:BC e=⟨e.op,e.id,sNil,sNil,0,0,sNil,sNil,e.refs,zObj⟩:=by rw[BC,aCd ho1,aCd ho2,aCd ho3,aCe ho]
  have hk:rY e=(bS e.id&&(decide ((0:Int)<(e.refs.length:Int))&&decide ((e.refs.length:Int)<=2000)&&e.refs.all bS)):=by rw[rY,aCd ho1,aCd ho2,aCd ho3,aCe ho]
  have hb:(bS e.id&&decide ((0:Int)<((e.refs.map encStr).length:Int))&&decide (((e.refs.map encStr).length:Int)<=2000)&&e.refs.all bS)=(bS e.id&&(decide ((0:Int)<(e.refs.length:Int))&&decide ((e.refs.length:Int)<=2000)&&e.refs.all bS)):=by rw[B];simp only[Bool.and_assoc]
  have hv:dT e=((bS e.id&&decide ((0:Int)<((e.refs.map encStr).length:Int))&&decide (((e.refs.map encStr).length:Int)<=2000)&&e.refs.all bS)&&mC ⟨e.op,e.id,sNil,sNil,0,0,sNil,sNil,e.refs,zObj⟩ e):=by rw[dT,hx,hk,hb,ho];rfl
  apply xP (t:=4) (n:=22) (X:=bS e.id&&decide ((0:Int)<((e.refs.map encStr).length:Int))&&decide (((e.refs.map encStr).length:Int)<=2000)&&e.refs.all bS)
  ·cases hg77:(bS e.id:Bool)
   ·refine aL follows<|Cr [1] (fun _ h=>fh fB h)<|Cr [1] (fun _ h=>lh aF h)<|Cr [] (fun _ _=>aC)<|Cr [] (fun _ _=>aC)<|Ot<|Ot<|Ot<|Ot<|Cr [] (fun _ _=>cD)<|Cr [] (fun _ _=>aC)<|Ot<|Ot<|Ot<|Ot<|Cr [] (fun _ _=>cD)<|Cr [] (fun _ _=>aC)<|Ot<|Ot<|Ot<|Cr [] (fun _ _=>cD)<|Cr [3] (fun _ h=>fh fB h)<|Cp [3] (fun _ h=>su sizeOf22 h)<|Cr [] (fun _ _=>aH)<|bF<|Kr ?_;exact⟨rfl,⟨_,rfl,by rfl⟩,rfl,rfl,rfl⟩
   cases hg83:(decide ((0:Int)<((e.refs.map encStr).length:Int)):Bool)
   ·refine aL follows<|Cr [1] (fun _ h=>fh fB h)<|Cr [1] (fun _ h=>lh aF h)<|Cr [] (fun _ _=>aC)<|Cr [] (fun _ _=>aC)<|Lt [1] (fun _ h=>fh fB h)<|Lt [1] (fun _ h=>lh aF h)<|Lt [] (fun H1 hH=>by exact mY rfl aD rfl)<|Lt [] (fun H1 hH=>by exact ID rfl rfl rfl) ?_;refine Cr [] (fun _ _=>cD)<|Cr [] (fun _ _=>aC)<|Ot<|Ot<|Ot<|Ot<|Cr [] (fun _ _=>nT)<|Cr [] (fun _ _=>aC)<|Ot<|Ot<|Ot<|Cr [] (fun _ _=>cD)<|Cr [3] (fun _ h=>fh fB h)<|Cp [3] (fun _ h=>su sizeOf22 h)<|Cr [] (fun _ _=>aH)<|bF<|Kr ?_;exact⟨rfl,⟨_,rfl,by rfl⟩,rfl,rfl,rfl⟩
   cases hg89:(decide (((e.refs.map encStr).length:Int)<=2000):Bool)
   ·refine aL follows<|Cr [1] (fun _ h=>fh fB h)<|Cr [1] (fun _ h=>lh aF h)<|Cr [] (fun _ _=>aC)<|Cr [] (fun _ _=>aC)<|Lt [1] (fun _ h=>fh fB h)<|Lt [1] (fun _ h=>lh aF h)<|Lt [] (fun H1 hH=>by exact mY rfl aD rfl)<|Lt [] (fun H1 hH=>by exact ID rfl rfl rfl) ?_;refine Cr [] (fun _ _=>cD)<|Cr [] (fun _ _=>aC)<|Lt [1] (fun _ h=>fh fB h)<|Lt [1] (fun _ h=>lh aF h)<|Lt [] (fun H1 hH=>by exact mY rfl aD rfl)<|Lt [] (fun H1 hH=>by exact oS rfl rfl rfl) ?_;refine Cr [] (fun _ _=>xX)<|Cr [] (fun _ _=>aC)<|Ot<|Ot<|Ot<|Cr [] (fun _ _=>nT)<|Cr [3] (fun _ h=>fh fB h)<|Cp [3] (fun _ h=>su sizeOf22 h)<|Cr [] (fun _ _=>aH)<|bF<|Kr ?_;exact⟨rfl,⟨_,rfl,by rfl⟩,rfl,rfl,rfl⟩
   refine aL follows<|Cr [1] (fun _ h=>fh fB h)<|Cr [1] (fun _ h=>lh aF h)<|Cr [] (fun _ _=>aC)<|Cr [] (fun _ _=>aC)<|Lt [1] (fun _ h=>fh fB h)<|Lt [1] (fun _ h=>lh aF h)<|Lt [] (fun H1 hH=>by exact mY rfl aD rfl)<|Lt [] (fun H1 hH=>by exact ID rfl rfl rfl) ?_;refine Cr [] (fun _ _=>cD)<|Cr [] (fun _ _=>aC)<|Lt [1] (fun _ h=>fh fB h)<|Lt [1] (fun _ h=>lh aF h)<|Lt [] (fun H1 hH=>by exact mY rfl aD rfl)<|Lt [] (fun H1 hH=>by exact oS rfl rfl rfl) ?_;refine Cr [] (fun _ _=>xX)<|Cr [] (fun _ _=>aC)<|Lt [1] (fun _ h=>fh fB h)<|Lt [1] (fun _ h=>lh aF h)<|Lt [] (fun H1 hH=>by exact bL rfl rfl FN rfl (WU e.refs _ D K)) ?_;refine Cr [] (fun _ _=>xX)<|Cr [3] (fun _ h=>fh fB h)<|Cp [3] (fun _ h=>su sizeOf22 h)<|Cr [] (fun _ _=>aH)<|bF<|Kr ?_;exact⟨rfl,⟨_,rfl,by rfl⟩,rfl,rfl,rfl⟩
  refine Sq ?_;refine aQ (t:=2) (n:=8) (X:=(bS e.id&&decide ((0:Int)<((e.refs.map encStr).length:Int))&&decide (((e.refs.map encStr).length:Int)<=2000)&&e.refs.all bS)&&mC ⟨e.op,e.id,sNil,sNil,0,0,sNil,sNil,e.refs,zObj⟩ e) ?_ ?_
  ·all_goals refine Dd aC ?_
   all_goals refine Dm ?_<;>(refine Sp 127 (fun h127=>?_) fun h127=>?_)<;>(first|contradiction|refine Fo<|Fo<|Fo ?_|refine On (by exact aM rfl bW aR rfl rfl rfl rfl (by simp only[Zl,bM,bG,encStr,aZ,zObj];rfl) rfl)<|On (by exact aM rfl bW aR rfl rfl rfl rfl (by simp only[Zl,bM,bG,encStr,aZ,zObj];rfl) rfl)<|On (kc zK (BS ⟨e.op,e.id,sNil,sNil,0,0,sNil,sNil,e.refs,zObj⟩ e _ (by exact D) TP)) ?_)<;>refine Dd cD<|Da ?_<;>(exact⟨⟨_,rfl,by(rw[h127];rfl)⟩,rfl,rfl,rfl⟩)
  refine aB<|Rt ?_;exact⟨by rw[hv],rfl⟩
 have ho4:¬ e.op=4:=aCc t;refine Sd cF<|Da ?_;refine Cn ?_ ?_<;>intro v
 ·have ho:e.op=5:=aCb v;have hx:BC e=⟨e.op,e.id,sNil,sNil,0,0,sNil,sNil,[],zObj⟩:=by rw[BC,aCd ho1,aCd ho2,aCd ho3,aCd ho4,aCe ho]
  have hk:rY e=(bS e.id):=by rw[rY,aCd ho1,aCd ho2,aCd ho3,aCd ho4,aCe ho];simp
  have hv:dT e=((bS e.id)&&mC ⟨e.op,e.id,sNil,sNil,0,0,sNil,sNil,[],zObj⟩ e):=by rw[dT,hx,hk,ho];rfl
  refine aA<|Sq ?_;refine aQ (t:=2) (n:=8) (X:=(bS e.id)&&mC ⟨e.op,e.id,sNil,sNil,0,0,sNil,sNil,[],zObj⟩ e) ?_ ?_
  ·all_goals refine Dd aC ?_
   all_goals refine Dm ?_<;>(refine Sp 127 (fun h127=>?_) fun h127=>?_)<;>(first|contradiction|refine Fo<|Fo<|Fo ?_|refine On (by exact aM rfl bW aR rfl rfl rfl rfl (by simp only[Zl,bM,bG,encStr,aZ,zObj];rfl) rfl)<|On (by exact aM rfl bW aR rfl rfl rfl rfl (by simp only[Zl,bM,bG,encStr,aZ,zObj];rfl) rfl)<|On (kc zK (BS ⟨e.op,e.id,sNil,sNil,0,0,sNil,sNil,[],zObj⟩ e _ (by(show 0<_;omega)) TP)) ?_)<;>refine Dd cD<|Da ?_<;>(exact⟨⟨_,rfl,by(rw[h127];rfl)⟩,rfl,rfl,rfl⟩)
  refine aB<|Rt ?_;exact⟨by rw[hv],rfl⟩
 have ho5:¬ e.op=5:=aCc v;refine Sd cF<|Da ?_;refine Cn ?_ ?_<;>intro u
 ·have ho:e.op=6:=aCb u;have hx:BC e=⟨e.op,e.id,e.other,e.node,0,0,sNil,sNil,[],zObj⟩:=by rw[BC,aCd ho1,aCd ho2,aCd ho3,aCd ho4,aCd ho5,aCe ho]
  have hk:rY e=(bS e.id&&(bS e.node&&bS e.other)):=by rw[rY,aCd ho1,aCd ho2,aCd ho3,aCd ho4,aCd ho5,aCe ho]
  have hb:(bS e.id&&(bS e.node&&bS e.other))=(bS e.id&&(bS e.node&&bS e.other)):=by rfl
  have hv:dT e=((bS e.id&&(bS e.node&&bS e.other))&&mC ⟨e.op,e.id,e.other,e.node,0,0,sNil,sNil,[],zObj⟩ e):=by rw[dT,hx,hk,hb,ho];rfl
  apply xP (t:=4) (n:=16) (X:=bS e.id&&(bS e.node&&bS e.other))
  ·cases hg104:(bS e.id:Bool)
   ·refine aL follows<|Cr [1] (fun _ h=>fh nC h)<|Cr [1] (fun _ h=>lh isAgg9 h)<|Cr [1] (fun _ h=>fh iL h)<|Cr [1] (fun _ h=>lh isAgg9 h)<|Cr [] (fun _ _=>aC)<|Cr [] (fun _ _=>aC)<|Ot<|Ot<|Ot<|Ot<|Ot<|Ot<|Cr [] (fun _ _=>cD)<|Cr [3] (fun _ h=>fh nC h)<|Cp [3] (fun _ h=>su sizeOf9 h)<|Cr [3] (fun _ h=>fh iL h)<|Cp [3] (fun _ h=>su sizeOf9 h)<|Cr [] (fun _ _=>aH)<|bF<|Kr ?_;exact⟨rfl,⟨_,rfl,by rfl⟩,rfl,rfl,rfl⟩
   refine aL follows<|Cr [1] (fun _ h=>fh nC h)<|Cr [1] (fun _ h=>lh isAgg9 h)<|Cr [1] (fun _ h=>fh iL h)<|Cr [1] (fun _ h=>lh isAgg9 h)<|Cr [] (fun _ _=>aC)<|Cr [] (fun _ _=>aC)<|Lt [1] (fun _ h=>fh nC h)<|Lt [1] (fun _ h=>lh isAgg9 h)<|Lt [1] (fun _ h=>fh iL h)<|Lt [1] (fun _ h=>lh isAgg9 h)<|Lt [] (fun H1 hH=>by exact aN ([e.node,e.other].map encStr) rfl bT rfl rfl rfl rfl rfl (by simp[encStr]))<|Lt [] (fun H1 hH=>by exact bL rfl rfl FN rfl (aBY e.node e.other _ I F)) ?_;refine Cr [] (fun _ _=>cD)<|Cr [3] (fun _ h=>fh nC h)<|Cp [3] (fun _ h=>su sizeOf9 h)<|Cr [3] (fun _ h=>fh iL h)<|Cp [3] (fun _ h=>su sizeOf9 h)<|Cr [] (fun _ _=>aH)<|bF<|Kr ?_;exact⟨rfl,⟨_,rfl,by rfl⟩,rfl,rfl,rfl⟩
  refine Sq ?_;refine aQ (t:=2) (n:=8) (X:=(bS e.id&&(bS e.node&&bS e.other))&&mC ⟨e.op,e.id,e.other,e.node,0,0,sNil,sNil,[],zObj⟩ e) ?_ ?_
  ·all_goals refine Dd aC ?_
   all_goals refine Dm ?_<;>(refine Sp 127 (fun h127=>?_) fun h127=>?_)<;>(first|contradiction|refine Fo<|Fo<|Fo ?_|refine On (by exact aM rfl bW aR rfl rfl rfl rfl (by simp only[Zl,bM,bG,encStr,aZ,zObj];rfl) rfl)<|On (by exact aM rfl bW aR rfl rfl rfl rfl (by simp only[Zl,bM,bG,encStr,aZ,zObj];rfl) rfl)<|On (kc zK (BS ⟨e.op,e.id,e.other,e.node,0,0,sNil,sNil,[],zObj⟩ e _ (by(show 0<_;omega)) TP)) ?_)<;>refine Dd cD<|Da ?_<;>(exact⟨⟨_,rfl,by(rw[h127];rfl)⟩,rfl,rfl,rfl⟩)
  refine aB<|Rt ?_;exact⟨by rw[hv],rfl⟩
 have y:¬ e.op=6:=aCc u;refine Sd cF<|Da ?_;refine Cn ?_ ?_<;>intro x
 ·have ho:e.op=7:=aCb x;have hx:BC e=⟨e.op,e.id,e.other,sNil,0,0,sNil,sNil,[],zObj⟩:=by rw[BC,aCd ho1,aCd ho2,aCd ho3,aCd ho4,aCd ho5,aCd y]
  have hk:rY e=(bS e.id&&bS e.other):=by rw[rY,aCd ho1,aCd ho2,aCd ho3,aCd ho4,aCd ho5,aCd y]
  have hb:(bS e.id&&bS e.other)=(bS e.id&&bS e.other):=by rfl
  have hv:dT e=((bS e.id&&bS e.other)&&mC ⟨e.op,e.id,e.other,sNil,0,0,sNil,sNil,[],zObj⟩ e):=by rw[dT,hx,hk,hb,ho];rfl
  apply xP (t:=4) (n:=11) (X:=bS e.id&&bS e.other)
  ·cases hg119:(bS e.id:Bool)
   ·refine aL follows<|Cr [1] (fun _ h=>fh iL h)<|Cr [1] (fun _ h=>lh isAgg9 h)<|Cr [] (fun _ _=>aC)<|Cr [] (fun _ _=>aC)<|Ot<|Ot<|Ot<|Ot<|Cr [] (fun _ _=>cD)<|Cr [3] (fun _ h=>fh iL h)<|Cp [3] (fun _ h=>su sizeOf9 h)<|Cr [] (fun _ _=>aH)<|bF<|Kr ?_;exact⟨rfl,⟨_,rfl,by rfl⟩,rfl,rfl,rfl⟩
   refine aL follows<|Cr [1] (fun _ h=>fh iL h)<|Cr [1] (fun _ h=>lh isAgg9 h)<|Cr [] (fun _ _=>aC)<|Cr [] (fun _ _=>aC)<|Lt [1] (fun _ h=>fh iL h)<|Lt [1] (fun _ h=>lh isAgg9 h)<|Lt [] (fun H1 hH=>by exact aN ([e.other].map encStr) rfl bT rfl rfl rfl rfl rfl (by simp[encStr]))<|Lt [] (fun H1 hH=>by exact bL rfl rfl FN rfl (Ls e.other _ F)) ?_;refine Cr [] (fun _ _=>cD)<|Cr [3] (fun _ h=>fh iL h)<|Cp [3] (fun _ h=>su sizeOf9 h)<|Cr [] (fun _ _=>aH)<|bF<|Kr ?_;exact⟨rfl,⟨_,rfl,by rfl⟩,rfl,rfl,rfl⟩
  refine Sq ?_;refine aQ (t:=2) (n:=8) (X:=(bS e.id&&bS e.other)&&mC ⟨e.op,e.id,e.other,sNil,0,0,sNil,sNil,[],zObj⟩ e) ?_ ?_
  ·all_goals refine Dd aC ?_
   all_goals refine Dm ?_<;>(refine Sp 127 (fun h127=>?_) fun h127=>?_)<;>(first|contradiction|refine Fo<|Fo<|Fo ?_|refine On (by exact aM rfl bW aR rfl rfl rfl rfl (by simp only[Zl,bM,bG,encStr,aZ,zObj];rfl) rfl)<|On (by exact aM rfl bW aR rfl rfl rfl rfl (by simp only[Zl,bM,bG,encStr,aZ,zObj];rfl) rfl)<|On (kc zK (BS ⟨e.op,e.id,e.other,sNil,0,0,sNil,sNil,[],zObj⟩ e _ (by(show 0<_;omega)) TP)) ?_)<;>refine Dd cD<|Da ?_<;>(exact⟨⟨_,rfl,by(rw[h127];rfl)⟩,rfl,rfl,rfl⟩)
  refine aB<|Rt ?_;exact⟨by rw[hv],rfl⟩
 have ho7:¬ e.op=7:=aCc x;refine Sz aH<|aB<|Rt ?_;refine⟨?_,rfl⟩;have:dT e=false:=by
  rw[dT,Bool.and_eq_false_iff];left;rw[Bool.and_eq_false_iff,aCn,aCn];omega
 rw[this]
theorem QS(e)(H)(b:KD e):RC 201 [av (aZ e)] (bv (!dT e)) H:=by refine Pu ?_;exact Bd func201 rfl ntmps201<|Sd (rW (id:=1) rfl rfl rfl rfl rfl)<|Zd aH<|Sd (aM rfl bW aR rfl rfl rfl rfl (rfl) rfl)<|Dd (bL rfl rfl call202 rfl (bh e _ b))<|Dd iJ<|Zd aH<|aB<|Rt<|Qq
def kP(l:List GEdit):Bool:=decide ((0:Int)<(l.length:Int))&&decide ((l.length:Int)<=200)&&!(l.any (fun e=>!dT e))
theorem SJ(l)(H:aG)(i:l.length<4611686018427387904)(f:∀e∈l,KD e):RC 160 [.pv (fX l)] (bv (kP l)) H:=by
 refine Pu ?_;have c:(l.map aZ).length=l.length:=aCf _;refine Bd func160 rfl ntmps160<|Sz aH<|Sq ?_;refine aQ (t:=2) (n:=16) (X:=decide ((0:Int)<((l.map aZ).length:Int))&&decide (((l.map aZ).length:Int)<=200)&&!(l.any (fun e=>!dT e))) ?_ ?_
 ·all_goals refine Dd aC ?_
  all_goals refine Dd (eR cT)<|Dd gX<|Dm ?_<;>(refine Sp 6 (fun g=>?_) fun g=>?_)<;>(first|refine Fo<|Fo<|Fo ?_|refine On aC<|On (eR cT)<|On GP ?_)<;>refine Dd cD<|Dm ?_<;>(refine Sp 11 (fun d=>?_) fun d=>?_)<;>(first|refine Fo<|Fo<|Fo ?_|refine On aC<|On (kc call200 (G3 _ l _ _ i (fun e h=>dI.fn call201 (QS e _ (f e h)))))<|On iJ ?_)<;>refine Dd cD<|Da ?_<;>(exact⟨⟨_,rfl,by grind⟩,rfl,rfl,rfl⟩)
 refine aB<|Rt ?_;exact⟨by rw[kP,c],rfl⟩
theorem Jv(f:α->List _)(l:List _):l.map (fun e=>(f e).map AV.pv)=(l.map f).map (·.map .pv):=by simp
def nm(i:Nat):ByteArray:=⟨#[110,49+UInt8.ofNat i]⟩
theorem Tr{B}{e}(b:B<4611686018427387904)(h:ef B e):KD e :=⟨⟨by have:=h.2.1;omega,by have:=h.2.2.1;omega,by have:=h.2.2.2.1;omega,by have:=h.2.2.2.2.2.2.1;omega⟩,
  ⟨by have:=h.2.2.2.2.2.2.2.2.1.1;omega,fun s a=>by have:=h.2.2.2.2.2.2.2.2.1.2 s a;omega⟩,Tq b h.2.2.2.2.2.2.2.2.2⟩
end Go.Proofs.YtmdicgjnmfolfaaGreatDoor
namespace Go.Abs
open Go.Proofs
theorem Rel.grown{I}{ι}{H}{w}(i)(g:Rel I ι H w):Rel I ι H (Sort.grow w i)/\Step I ι H w I ι H (Sort.grow w i):=by
 have k:∀b,b<w.heap.size->(Sort.grow w _).heap[b]?=w.heap[b]?:=fun b f=>by
  show (w.heap++i)[b]?=_
  grind
 have e:Step I ι H w I ι H (Sort.grow w i):=by
  refine⟨rfl,rfl,rfl,?_,fun a ha _=>?_,fun _ h=>h,fun _ h=>.inl h,fun _ h=>.inl h,fun b f _=>k b f,fun _ o h=>⟨o,h,aCl _,fun _=>⟨rfl,rfl,fun _=>aCl _⟩⟩⟩
  ·simp_all
  unfold World.frozen?
  simp_all
 refine⟨⟨fun b f=>?_,fun j o l=>?_,g.inj,e.glob g⟩,e⟩
 ·have:=g.imm b f
  grind
 exact(g.obj j o l).keep rfl (fun b c _ f=>⟨k b f,fun h=>h⟩) (fun r _ a _ v m=>m.mono g e)
def pS(l:List ByteArray):List (List AV):=l.map fun s=>[.pv (.str s)]
def aY(n:Int):ByteArray:=⟨(Lib.itoa n).toArray⟩
theorem itoa_c{P}{ρ}(L:LaysM.n171 P ρ){G}(A:(G,GV.ints .u64 Lib.pow10Tab)∈ak)(q:P.globalNamed "internal/strconv.uint64pow10" = some G)(n)(j : -9223372036854775808<=n)(s:n<=9223372036854775807)(H):
  aW P (ρ.f 171) [.pv (.int .i64 n)] H (fun r H'=>r=.pv (.str (aY n))/\H'=H):=by
 intro I m w h g d z;obtain ⟨v,rfl⟩:∃v,h=#[v]:=by
  match h,d with
  |⟨[v]⟩,_=>exact⟨v,rfl⟩
 have x:=(z 0 v _ rfl rfl).int_inv;subst x;have b:Lib.TabIs P w "internal/strconv.uint64pow10" .u64 Lib.pow10Tab:=by
  obtain ⟨_,cs,t,f,i,y⟩:=g.glob _ A;have c:=y;subst c;simp[Lib.TabIs,World.var?,q,Option.bind_some,i]
 refine(Any.strconv_Itoa L n j s w b).mono ?_;rintro e w' ⟨rfl,k,os,rfl⟩;obtain ⟨o,p⟩:=Rel.drawn (w':=w.drewN k) g rfl rfl rfl rfl;obtain ⟨l,u⟩:=Rel.grown _ o;exact⟨_,_,I,m,_,rfl,⟨rfl,rfl⟩,.pv (.str _),l,p.trans u⟩
theorem mul64_c{P}{ρ}(L:Lays.n264 P ρ)(x y:Nat)(k:x<18446744073709551616)(m:y<18446744073709551616)(H):
  aW P (ρ.f 264) [.pv (.int .u64 x),.pv (.int .u64 y)] H (fun r H'=>r=.tup [.pv (.int .u64 ((x*y / 18446744073709551616:Nat))),.pv (.int .u64 ((x*y % 18446744073709551616:Nat)))]/\H'=H):=by
 intro I o w h l f g;obtain ⟨v,u,rfl⟩:∃v u,h=#[v,u]:=by
  match h,f with
  |⟨[v,u]⟩,_=>exact⟨v,u,rfl⟩
 have j:=(g 0 v _ rfl rfl).int_inv;have n:=(g 1 u _ rfl rfl).int_inv;subst j n;refine(Any.bits_Mul64 L x y k m w).mono ?_;rintro e w' ⟨rfl,rfl⟩;refine⟨_,_,I,o,_,rfl,⟨rfl,rfl⟩,.tup rfl fun i v a c d=>?_,l,Step.refl _ _ _ _⟩
 match i,c,d with
 |0,c,d=>cases c;cases d;exact .pv (.int _ _)
 |1,c,d=>cases c;cases d;exact .pv (.int _ _)
 |i+2,c,d=>simp at c
end Go.Abs
section
namespace Go.Proofs
open Go.RowKit Go.Sort Go.Shelf
def aC6:Go.Shelf.Ren:=⟨fun|171=>108|243=>146|246=>181|283=>215|284=>216|285=>217|286=>218|129=>250|317=>249|318=>251|319=>252|320=>253|337=>271|338=>272|n=>n,fun|3=>3|9=>9|2=>2|4=>4|171=>230|0=>0|53=>122|37=>124|5=>5|173=>233|212=>257|51=>258|20=>20|213=>259|46=>125|232=>282|233=>283|n=>n,fun|17=>3|18=>6|19=>7|n=>n⟩
theorem aCa:Go.Proofs.LaysM.n171 Tryz.prog aC6:={
  mixed:=by rfl
  f129:=Tryz.func250.trans (congrArg some (by rfl))
  f171:=Tryz.func108.trans (congrArg some (by rfl))
  f243:=Tryz.func146.trans (congrArg some (by rfl))
  f246:=Tryz.func181.trans (congrArg some (by rfl))
  f283:=Tryz.func215.trans (congrArg some (by rfl))
  f284:=Tryz.func216.trans (congrArg some (by rfl))
  f285:=Tryz.func217.trans (congrArg some (by rfl))
  f286:=Tryz.func218.trans (congrArg some (by rfl))
  f317:=Tryz.func249.trans (congrArg some (by rfl))
  f318:=Tryz.func251.trans (congrArg some (by rfl))
  f319:=Tryz.func252.trans (congrArg some (by rfl))
  f320:=Tryz.func253.trans (congrArg some (by rfl))
  f337:=Tryz.func271.trans (congrArg some (by rfl))
  f338:=Tryz.func272.trans (congrArg some (by rfl))
  t0:=Gz
  a0:=aCW
  z0:=aBg
  v0:=Ov
  t2:=Tryz.underlying2
  a2:=Tryz.isAgg2
  z2:=Tryz.sizeOf2
  v2:=Tryz.zeroValue2
  t3:=Tryz.underlying3
  a3:=Tryz.isAgg3
  z3:=Tryz.sizeOf3
  v3:=wM
  t4:=eM
  a4:=mN
  z4:=Tryz.sizeOf4
  v4:=nY
  t5:=eB
  a5:=C4
  z5:=cO
  v5:=EB
  t9:=Tryz.underlying9
  a9:=Tryz.isAgg9
  z9:=Tryz.sizeOf9
  v9:=wL
  t20:=JP
  a20:=uQ
  z20:=aA9
  v20:=Gy
  t37:=dG
  a37:=dX
  z37:=pF
  v37:=Tryz.zeroValue124
  t46:=G9
  a46:=dm
  z46:=XQ
  v46:=JM
  t51:=Tryz.underlying258
  a51:=Tryz.isAgg258
  z51:=Tryz.sizeOf258
  v51:=Tryz.zeroValue258
  t53:=iU
  a53:=LF
  z53:=HB
  v53:=JN
  t171:=Tryz.underlying230
  a171:=Tryz.isAgg230
  z171:=Tryz.sizeOf230
  v171:=Tryz.zeroValue230
  t173:=Tryz.underlying233
  a173:=Tryz.isAgg233
  z173:=Tryz.sizeOf233
  v173:=Tryz.zeroValue233
  t212:=Tryz.underlying257
  a212:=Tryz.isAgg257
  z212:=Tryz.sizeOf257
  v212:=Tryz.zeroValue257
  t213:=Tryz.underlying259
  a213:=Tryz.isAgg259
  z213:=Tryz.sizeOf259
  t232:=Tryz.underlying282
  a232:=Tryz.isAgg282
  z232:=Tryz.sizeOf282
  v232:=Tryz.zeroValue282
  t233:=Tryz.underlying283
  a233:=Tryz.isAgg283
  z233:=Tryz.sizeOf283
  v233:=Tryz.zeroValue283
  g17:=by kernel_rfl
  g18:=by kernel_rfl
  g19:=by kernel_rfl
  i0:=by rfl
  i2:=by rfl
  i3:=by rfl
  i4:=by rfl
  i5:=by rfl
  i9:=by rfl
  i20:=by rfl
  i37:=by rfl
  i46:=by rfl
  i51:=by rfl
  i53:=by rfl
  i171:=by rfl
  i173:=by rfl
  i212:=by rfl
  i232:=by rfl
  i233:=by rfl
  m17:=by kernel_rfl
  m18:=by kernel_rfl
  m19:=by kernel_rfl}
end Go.Proofs
namespace Go.Proofs.YtmdicgjnmfolfaaGreatDoor
open Go.Proofs.Tryz
open Go.Abs
theorem vX(n)(c : -9223372036854775808<=n)(b:n<=9223372036854775807)(H):RC 108 [iv n] (sv (aY n)) H :=Go.Abs.itoa_c aCa (.head _) (rfl) n c b H
end Go.Proofs.YtmdicgjnmfolfaaGreatDoor
end
namespace Go.Abs
variable{d id g n:Nat}{T e S:TypeId}
section
section
variable{P:Program}{G0:aG}{N:Nat}{E:dC}{H:aG}{ops:Array Oper}{K:dC->aG->Prop}{o:Oper}{rest:List Oper}
def ALx(P:Program)(G0:aG)(N:Nat)(ops:Array Oper)(K:dC->aG->Prop)(l:List Oper)(E:dC)(H:aG)(d:Nat)(F:lR->Value->Prop):Prop :=∀G:Entry,G.H=G0->∀(a:Act) (w:World) (I:Nat->Prop) (ι:lR),sY G.ds G.w w a.defers->a.tmps.size=N->Rel I ι H w->Step G.I G.ι G.H G.w I ι H w->kS w I ι H E a->(∃c,a.tmps[d]?=some c/\F ι c) ->
  ∀ro,(ro=none\/l.all Oper.noDefer=true)->∀Q:Exit->Act->World->Prop,(∀E H a w,K E H->St G N E H a w->Q .normal a w)->wpListIn (RF ro) 0 P ops Q l a w
def Vx(id n:Nat)(ι:lR)(c:Value):Prop:=∃b cap,ι id=some (b,cap)/\c=.slice (some ⟨b,0,none⟩) n n
theorem HY(a:Act)(d:Nat)(c):(a.put (some d) c).tmps.size=a.tmps.size:=by simp[Act.put]
theorem Af(a:Act){d}(c)(h:d<a.tmps.size):(a.put (some d) c).tmps[d]?=some c:=by simp[Act.put,h]
theorem ru(a:Act){b:Nat}(c)(h:b≠d):(a.put (some b) c).tmps[d]?=a.tmps[d]?:=by simp[Act.put,h]
theorem JE{p:Operand}{ob:Ob}(l:o.guard=none)(hd:o.dst=some d)(j:Nat.blt d N=true)(t:o.op=.slice T p none none none)(C:P.underlying T=some (.array n e))(y:∀w,(sizeOf e).run P w=.ok 1 w)
  (z:aO E p=some (.ref id g 0 0)) (x:H.get id=some ob) (L:ob.g=g) (B:ALx P G0 N ops K rest ((d,.any)::E) H d (Vx id n)):AL P G0 N ops K (o::rest) E H:=by
 intro G u a w f M h Q v;refine wpListIn_plain l fun O F=>?_;refine Oper.wpW_in (mX h).1 ?_;obtain ⟨I,J,r,m,s⟩:=f.rel;obtain ⟨b,q,A,D⟩:=oP (aI s z) x L;have hdn:d<N:=by simp_all
 have i:(execOp a.eval o).run P w=.ok (.value (.slice (some ⟨b,0,none⟩) n n)) w:=by
  simp only[execOp,t,D,Option.map_none];simp[Instr.sliceAt,run_underlying C,Instr.sureAddr,Instr.sliceBounds,y,Addr.add_lit]
 unfold Oper.wpW;rw[i];show O (a.put o.dst _) w;rw[hd];exact F _ _ (B G u _ w I J (by exact f.defers) (by rw[HY];exact f.size) r m (kS.put (d:=some d) r (Step.refl _ _ _ _) s (.any _) (by rw[f.size];exact j)) ⟨_,Af a _ (by rw[f.size];omega),b,q,A,rfl⟩ M (mX h).2 Q v)
theorem Gj{f:Nat}{F}{x}{v}(i:o.guard=none)(hd:o.dst=some f)(h:Nat.blt f N=true)(g:f≠d)(q:o.op=.move x)(r:aO E x=some v)(z:ALx P G0 N ops K rest ((f,v)::E) H d F):ALx P G0 N ops K (o::rest) E H d F:=by
 intro G s a w I B p j m k l ⟨c,u,y⟩ C b Q t;refine wpListIn_plain i fun n A=>?_;refine Oper.wpW_in (mX b).1 ?_;have e:(execOp a.eval o).run P w=.ok (.value (a.eval x)) w:=by simp[execOp,q]
 unfold Oper.wpW;rw[e];show n _ w;rw[hd];exact A _ _ (z G s _ w I B (by exact p) (by rw[HY];omega) m k (kS.put (d:=some f) m (Step.refl _ _ _ _) l (aI l r) (by rw[j];exact h)) ⟨c,by rw[ru a _ g];exact u,y⟩ C (mX b).2 Q t)
def lQ(s:List UInt8):List AV:=s.map fun b=>.pv (.int .u8 b.toNat)
theorem xO(s):(lQ s).length=s.length:=aCf _
theorem XM{D:TypeId}{y:Operand}{M m T:Nat}{cells:List AV}{s:ByteArray}(X:o.guard=none)(hd:o.dst=some M)(Z:Nat.blt M N=true)(ho:o.op=.call {callee:=.builtin .copy,args:=#[.tmp d,y],argTypes:=#[D,S]})(hD:P.underlying D=some (.slice e))(hs:∀w,(sizeOf e).run P w=.ok 1 w)
  (hH:H.get id=some ⟨g,n,T,[cells]⟩) (Y:0<n) (hy:aO E y=some (.pv (.str s))) (hm:min s.size n=m)
  (hk:AL P G0 N ops K rest ((M,.pv (.int .i64 m))::E) ((id,⟨g,n,T,[lQ (s.data.toList.take m)++cells.drop m]⟩)::H)):ALx P G0 N ops K (o::rest) E H d (Vx id n):=by
 intro G hG a w I ι O J L hs' he ⟨c,hc,b,cap,t,R⟩ ro A Q hq;refine wpListIn_plain X fun K' hK=>?_;refine Oper.wpW_in (mX A).1 ?_;have e2y:=(aI he hy).str_inv;have e1:a.eval (.tmp d)=.slice (some ⟨b,0,none⟩) n n:=by simp[Act.eval,hc,R]
 obtain ⟨p1,p2,⟨b',cap',U,C,f2,f3,f4,f5,f5',f6⟩|⟨C,_⟩⟩:=(L.obj id _ hH).cells Y
 rotate_left
 ·rw[t]at C;cases C
 rw[t]at C;cases C;have B:cells.length=n:=p2 cells (by simp);have hms:m<=s.size:=by omega
 have hmn:m<=n:=by omega
 simp only[List.length_singleton]at f5;have hcs:n<=U.size:=by rw[f4];exact Nat.le_mul_of_pos_left _ (by omega)
 have f:min m s.data.size=m:=by have:s.data.size=s.size:=rfl;omega
 have l:((s.extract 0 m).data.map fun b=>Value.int .u8 b.toNat).toList=(s.data.toList.take m).map fun b=>Value.int .u8 b.toNat:=by simp
 have p:=run_storeCells_at P b 0 T ((s.data.toList.take m).map fun b=>Value.int .u8 b.toNat) 0 U w f2 (by grind) (by intro v hv;obtain ⟨b,_,rfl⟩:=List.mem_map.1 hv;rfl);simp only[Nat.add_zero,aCx,List.take_zero,List.nil_append,aCf,aCt,Array.length_toList]at p;rw[f]at p;have W:(lQ (s.data.toList.take m)++cells.drop m).length=n:=by
  rw[aCg,xO,aCt,aCu,Array.length_toList,f,B];omega
 obtain ⟨k2,V⟩:=Rel.update (H':=(id,⟨g,n,T,[lQ (s.data.toList.take m)++cells.drop m]⟩)::H) (ob':=⟨g,n,T,[lQ (s.data.toList.take m)++cells.drop m]⟩)
  (cs' := ((s.data.toList.take m).map (fun b => Value.int .u8 b.toNat) ++ U.toList.drop m).toArray) L hH t f2 (aCl _) rfl rfl (fun _ => aCl _) (by
   grind) (by simpa using f5) (by intro r z;rw[aCi]at z;subst z;exact W) (fun i r hi k a' h=>by
    cases i with
    |succ i=>simp at hi
    | zero =>
     simp only[List.getElem?_cons_zero,Option.some.injEq]at hi;subst hi;rw[Nat.zero_mul,aCx];simp only[List.getElem?_toArray];by_cases ck:k<m
     ·rw[List.getElem?_append_left (by rw[xO,aCt,Array.length_toList,f];exact ck),lQ,aCz]at h;rw[List.getElem?_append_left (by rw[aCf,aCt,Array.length_toList,f];exact ck),aCz];cases e:(s.data.toList.take m)[k]? with
      |none=>rw[e]at h;cases h
      |some q =>
       rw[e]at h;cases h;exact⟨.int .u8 q.toNat,rfl,rfl,.pv (.int _ _)⟩
     rw[List.getElem?_append_right (by rw[xO,aCt,Array.length_toList,f];omega),xO,aCt,Array.length_toList,f,List.getElem?_drop,show m+(k - m)=k by omega]at h;obtain ⟨u,q1,q2,q3⟩:=f6 0 cells rfl k a' h;rw[Nat.zero_mul,aCx]at q1;refine⟨u,?_,q2,q3⟩;rw[List.getElem?_append_right (by rw[aCf,aCt,Array.length_toList,f];omega),aCf,aCt,Array.length_toList,f,List.getElem?_drop,show m+(k - m)=k by omega]
     simpa using q1) (get_cons_same _ _ _) (fun j hj=>get_cons_other _ _ hj)
 have F:Nat.min s.size n=m:=hm;unfold Oper.wpW execOp;simp only[ho,resolve,invoke,builtin,Sem.run_bind,Sem.run_pure,Result.andThen_ok,List.map_toArray,List.map_cons,List.map_nil,e1,e2y,Builtin.copy_,run_underlying hD,hs];simp only[List.getElem?_toArray,List.getElem?_cons_zero,List.getElem?_cons_succ,run_underlying hD,Builtin.lenOf,Builtin.firstCells,Sem.run_bind,Sem.run_pure,Result.andThen_ok,hs,F,l,p];show K' (a.put o.dst _) _;rw[hd];refine hK _ _ (hk G hG _ _ ⟨?_,?_,I,ι,k2,hs'.trans V,kS.put (d:=some M) L V he (.pv (.int _ _)) (by rw[J];exact Z)⟩ ro (mX A).2 Q hq)
 ·rw[lJ];exact O.step L V
 rw[HY];exact J
theorem Om{s A:Nat}{bs:List UInt8}{r:ByteArray}(t:o.guard=none)(hd:o.dst=some s)(J:Nat.blt s N=true)(ho:o.op=.convert S T (.tmp d))(hS:P.underlying S=some (.slice e))(M:P.underlying e=some (.int .u8))(hT:P.underlying T=some .string)
  (U:H.get id=some ⟨g,n,A,[lQ bs]⟩) (B:0<n) (z:(⟨bs.toArray⟩:ByteArray)=r) (hk:AL P G0 N ops K rest ((s,.pv (.str r))::E) H):ALx P G0 N ops K (o::rest) E H d (Vx id n):=by
 intro G Z a w I X C p y F he ⟨c,hc,b,cap,i,D⟩ ro l Q W;refine wpListIn_plain t fun K' V=>?_;refine Oper.wpW_in (mX l).1 ?_;have e1:a.eval (.tmp d)=.slice (some ⟨b,0,none⟩) n n:=by simp[Act.eval,hc,D]
 obtain ⟨p1,p2,⟨b',cap',cs,m,f2,f3,f4,f5,f5',Y⟩|⟨m,_⟩⟩:=(y.obj id _ U).cells B
 rotate_left
 ·rw[i]at m;cases m
 rw[i]at m;cases m;have h:bs.length=n:=by rw[<-xO bs];simp_all
 subst z;have hl:(loadCells ⟨b,0,none⟩ n).run P w=.ok ((bs.map fun b=>(b.toNat:Int)).map (Value.int .u8)).toArray w:=by
  have h0:=run_loadCells_list (P:=P) w ⟨b,0,none⟩ ((bs.map fun b=>(b.toNat:Int)).map (Value.int .u8)) (fun j v R=>by
   rw[List.map_map,aCz]at R;obtain ⟨q,L,rfl⟩:=Option.map_eq_some_iff.1 R;rw[Addr.add_lit,aCx,cell_of_row w b _ cs _ (0,0) f2];obtain ⟨u,O,q2,q3⟩:=Y 0 (lQ bs) rfl j (.pv (.int .u8 q.toNat)) (by rw[lQ,aCz,L];rfl);rw[Nat.zero_mul,aCx]at O;rw[O,q3.int_inv];rfl)
  rwa [aCf,aCf,h]at h0
 have k:(execOp a.eval o).run P w=.ok (.value (.string ⟨bs.toArray⟩)) w:=by
  simp only[execOp,ho,e1,Sem.run_bind];rw[run_convert_bytes_string w S T e _ _ n hS M hT,run_bytesToString w _ _ n _ hl,foldl_push_bytes];have e3:(bs.map fun b=>(b.toNat:Int)).map (fun n=>UInt8.ofNat n.toNat)=bs:=by
   rw[List.map_map]
   conv=>rhs;rw[<-List.map_id bs]
   refine List.map_congr_left fun b _=>?_;simp
  rw[e3];simp[ByteArray.empty,ByteArray.emptyWithCapacity];rfl
 unfold Oper.wpW;rw[k];show K' (a.put o.dst _) w;rw[hd];exact V _ _ (hk G Z _ w ⟨by rw[lJ];exact C,by rw[HY];exact p,I,X,y,F,kS.put (d:=some s) y (Step.refl _ _ _ _) he (.pv (.str _)) (by rw[p];exact J)⟩ ro (mX l).2 Q W)
end
end
end Go.Abs
section
namespace Go.Proofs
open Go.RowKit Go.Sort Go.Shelf

end Go.Proofs
namespace Go.Proofs.YtmdicgjnmfolfaaGreatDoor
open Go.Proofs.Tryz
open Go.Abs
def pick(L:List ByteArray)(seen:List Nat):List ByteArray:=seen.map fun i=>(L[i]?).getD ⟨#[]⟩
end Go.Proofs.YtmdicgjnmfolfaaGreatDoor
end
section
namespace Go.Proofs
open Go.RowKit Go.Sort Go.Shelf
def aC3:Go.Shelf.Ren:=⟨fun|264=>144|n=>n,fun|53=>122|46=>125|n=>n,fun|n=>n⟩
theorem aC7:Go.Proofs.Lays.n264 Tryz.prog aC3:={
  mixed:=rfl
  f264:=Tryz.func144.trans (congrArg _ (rfl))
  t46:=G9
  a46:=dm
  z46:=XQ
  v46:=JM
  t53:=iU
  a53:=LF
  z53:=HB
  v53:=JN}
end Go.Proofs
namespace Go.Proofs.YtmdicgjnmfolfaaGreatDoor
open Go.Proofs.Tryz
open Go.Abs
abbrev uv(n:Nat):AV:=.pv (.int .u64 (n:Int))
theorem Z3(x y)(c:x<18446744073709551616)(b:y<18446744073709551616)(H):RC 144 [uv x,uv y] (.tup [uv (x*y / 18446744073709551616),uv (x*y % 18446744073709551616)]) H :=Go.Abs.mul64_c aC7 x y c b H
theorem qy(a k){m:Int}(h:m.toNat=k):a / 2 ^ m.toNat=((a / 2 ^ k:Nat):Int):=by simp_all
def td(x:Nat):Nat:=x*2862933555777941757 % 18446744073709551616
def Tz(x:Nat):Nat:=td x ^^^ (td x / 2 ^ 32)
def tc(x:Nat):Nat:=Tz x*3935559000370003845 % 18446744073709551616
def MN(x:Nat):Nat:=tc x ^^^ (tc x / 2 ^ 29)
theorem EX(x):td x<18446744073709551616:=Nat.mod_lt _ (by simp)
theorem EW(x):tc x<18446744073709551616:=Nat.mod_lt _ (by simp)
theorem xM{x}(k)(h:x<18446744073709551616):x / 2 ^ k<18446744073709551616:=Nat.lt_of_le_of_lt (Nat.div_le_self _ _) h
theorem DA{x y}(h:x<18446744073709551616)(a:y<18446744073709551616):x ^^^ y<18446744073709551616:=Nat.xor_lt_two_pow (n:=64) h a
theorem Lx(x):Tz x<18446744073709551616:=DA (EX x) (xM _ (EX x))
theorem WV(x):MN x<18446744073709551616:=DA (EW x) (xM _ (EW x))
theorem aAE(x:Nat)(b:x<18446744073709551616)(H:aG):RC 104 [uv x] (uv (MN x)) H:=by refine Pu ?_;exact Bd func104 rfl ntmps104<|Sz aH<|Sd aC<|Dd (by exact bL rfl rfl call144 rfl (Z3 x _ b (by decide) _))<|Dd aC<|Dd eG<|Dd eG<|Zd aH<|Sd aC<|Dd aC<|Dd (by exact ET rfl rfl rfl (by decide) (by decide) (qy (td x) 32 rfl))<|Dd (by exact nJ rfl (by simp) rfl rfl (bits_xor_u64_nat (td x) _ (EX x) (xM 32 (EX x))))<|Zd aH<|Sd aC<|Dd (by exact bL rfl rfl call144 rfl (Z3 (Tz x) _ (Lx x) (by decide) _))<|Dd aC<|Dd eG<|Dd eG<|Zd aH<|Sd aC<|Dd aC<|Dd (by exact ET rfl rfl rfl (by decide) (by decide) (qy (tc x) 29 rfl))<|Dd (by exact nJ rfl (by simp) rfl rfl (bits_xor_u64_nat (tc x) _ (EW x) (xM 29 (EW x))))<|Zd aH<|aB<|Rt<|Qq
def rK(n:Nat):Int:=if n<10 then 48+(n:Int)else 87+(n:Int)
def kU(i:Nat):List AV:=(List.range 16).map fun j=>.pv (.int .u8 (if j<i then rK j else 0))
theorem CJ(i):(kU i).length=16:=rfl
theorem GY{i j}(h:j<16):(kU i)[j]?=some (.pv (.int .u8 (if j<i then rK j else 0))):=by rw[kU,aCz,List.getElem?_range h];rfl
theorem QM{i}(h:i<16):(kU i).set i (.pv (.int .u8 (rK i)))=kU (i+1):=by
 apply List.ext_getElem?;intro j;by_cases a:j<16
 ·rw[GY a];by_cases e:i=j
  ·subst e;rw[List.getElem?_set_self (h),aCe (Nat.lt_succ_self _)]
  rw[List.getElem?_set_ne e,GY a]
  grind
 rw[List.getElem?_eq_none (by rw[List.length_set,CJ];omega),List.getElem?_eq_none (by rw[CJ];omega)]
theorem jg{i}(h:i<16)(x){y}(a:y=.pv (.int .u8 (rK i))):((kU i).set i x).set i y=kU (i+1):=by rw[List.set_set,a,QM h]
theorem tM{H}{n T i}:∀r∈(bx n T (kU i)).rows,∀a∈r,Clo H a:=by intro r b a c;rw[aCi]at b;subst b;obtain ⟨j,_,rfl⟩:=List.mem_map.1 c;exact .pv _
theorem jh{H}{i}:∀a∈kU i,Clo H a:=by intro a b;obtain ⟨j,_,rfl⟩:=List.mem_map.1 b;exact .pv _
theorem pd:((kU 16).drop 0).take 16=kU 16:=rfl
theorem Er(H:aG):RC 105 [] (.agg (kU 16)) H:=by
 refine Pu ?_;refine Bd func105 rfl ntmps105<|Sz (kl 0 jy)<|Sz (kl 1 jy)<|Sq<|Sz aC<|aE ?_;refine bJ (σ:=Nat) (fun i=>([(0,.ref 0 0 0 0),(1,.ref 1 0 0 0),(3,iv (i:Int))],[(1,bx 16 128 (kU i)),(0,bx 16 128 (kU 0))])) (fun i=>i<=16) (fun i=>16 - i) 0 (aCw _) ?_ ?_
 ·exact(cQ.wk (Ea<|Ea<|Eb<|trivial) (Hc tM<|Hc tM<|trivial) trivial)
 intro i hi;refine Sz cJ<|Sq ?_;refine Cn ?_ ?_<;>intro c
 ·have f:i<16:=by have:=aCb c;omega
  refine aA<|Sq<|aE<|Sd aC<|Zd aH<|Sd aC<|Dd aC<|Dd iF<|Dd (by exact fA rfl underlying3 eB rfl (by exact wu8 (by omega) (by omega)))<|Dd (by exact eH rfl xU cO rfl rfl rfl rfl (by omega) (by exact aCq _) (by omega) rfl)<|Uu (by exact cV rfl cO rfl rfl rfl rfl rfl rfl (by rw[CJ];omega) (show (kU i).set (0+i*1) (.pv (.int .u8 (48+(i:Int))))=(kU i).set i (.pv (.int .u8 (48+(i:Int))))by simp_all) rfl)<|Zz<|Sd aC<|Zd CX ?_;refine Cn ?_ ?_<;>intro b
  ·have d:¬ i<10:=by have:=aCb b;omega
   refine Rd aC<|Dd aC<|Dd iF<|Dd (by exact dB rfl rfl rfl (by exact lI (by omega) (by omega)))<|Dd (by exact fA rfl underlying3 eB rfl (by exact wu8 (by omega) (by omega)))<|Dd (by exact eH rfl xU cO rfl rfl rfl rfl (by omega) (by exact aCq _) (by omega) rfl)<|Uu (by exact cV rfl cO rfl rfl rfl rfl rfl rfl (by rw[List.length_set,CJ];omega) (show ((kU i).set i (.pv (.int .u8 (48+(i:Int))))).set (0+i*1) (.pv (.int .u8 (97+(i:Int) - 10)))=kU (i+1)by rw[aCx,Nat.mul_one];exact jg f _ (by rw[rK,aCd (by have:=aCb b;omega)];grind)) rfl)<|Zz<|Rd iF<|Zd aC ?_;exact⟨i+1,by omega,by omega,(cQ.wk (Ea<|Ea<|Eb<|trivial) (Hc tM<|Hc tM<|trivial) trivial)⟩
  have d:i<10:=by have:=aCc b;omega
  refine aA<|Rd iF<|Zd aC ?_;refine⟨i+1,by omega,by omega,?_⟩;have e:(kU i).set i (.pv (.int .u8 (48+(i:Int))))=kU (i+1):=by
   rw[<-QM f,rK,aCe d]
  rw[e];exact(cQ.wk (Ea<|Ea<|Eb<|trivial) (Hc tM<|Hc tM<|trivial) trivial)
 have g:i=16:=by have:=aCc c;omega
 subst g;refine aS<|Sd (by exact aM rfl isAgg128 XP rfl rfl rfl rfl pd rfl)<|Uu (iP XP)<|Zz<|aB ?_;refine dA (H':=[]) (.inr rfl) rfl (eU rfl isAgg128 XP rfl rfl rfl pd rfl) (Fin.wk (.agg jh) trivial trivial) ?_;exact Qq
end Go.Proofs.YtmdicgjnmfolfaaGreatDoor
end
namespace Go.Proofs.YtmdicgjnmfolfaaGreatDoor
open Go.Proofs.Tryz
open Go.Abs
variable{a:Nat}
def vC(l:List UInt8):Nat:=l.foldl (fun n b=>n*256+b.toNat) 0
def mA(l:List UInt8):List UInt8:=l.take 8++List.replicate (8 - l.length) 0
theorem ZL(l):(mA l).length=8:=by rw[mA,aCg,aCt,List.length_replicate];omega
theorem U6(l)(b):vC (l++[b])=vC l*256+b.toNat:=by rw[vC,List.foldl_append];rfl
theorem pr(l):vC l<256 ^ l.length:=by
 suffices h:∀(l:List _) (n),l.foldl _ n<(n+1)*256 ^ l.length by
  have:=h l 0;rw[Nat.one_mul]at this;exact this
 intro l
 induction l with
 |nil=>simp_all
 |cons b r c =>
  intro n;have a:=c (n*256+b.toNat);have h2:=b.toNat_lt;refine Nat.lt_of_lt_of_le a ?_;rw[aCh,Nat.pow_succ,Nat.mul_comm (256 ^ r.length) _,<-Nat.mul_assoc];exact Nat.mul_le_mul_right _ (by omega)
theorem RI{l}(h:l.length<=8):vC l<18446744073709551616:=by refine Nat.lt_of_lt_of_le (pr l) ?_;exact Nat.le_trans (Nat.pow_le_pow_right (by simp) h) (by simp)
theorem cp{l}(h:l.length<=7):vC l<72057594037927936:=by refine Nat.lt_of_lt_of_le (pr l) ?_;exact Nat.le_trans (Nat.pow_le_pow_right (by simp) h) (by simp)
def QL:Nat->List UInt8->Nat
 |s,a::b::c::d::e::f::g::h::r=>QL (MN (s ^^^ vC [a,b,c,d,e,f,g,h])) r
 |s,l=>MN (s ^^^ vC (mA l))
theorem UU(s){l}(h:8<=l.length):QL s l=QL (MN (s ^^^ vC (mA (l.take 8)))) (l.drop 8):=by
 match l,h with
 |a::b::c::d::e::f::g::h::r,_=>rfl
theorem UV(s){l}(h:l.length<8):QL s l=MN (s ^^^ vC (mA l)):=by
 match l,h with
 | [],_=>rfl
 | [a],_=>rfl
 | [a,b],_=>rfl
 | [a,b,c],_=>rfl
 | [a,b,c,d],_=>rfl
 | [a,b,c,d,e],_=>rfl
 | [a,b,c,d,e,f],_=>rfl
 | [a,b,c,d,e,f,g],_=>rfl
 |_::_::_::_::_::_::_::_::r,h=>simp[aCh]at h;omega
def LU(st j:Nat):Nat:=st / 2 ^ (60 - 4*j) % 16
def AX(st:Nat):List UInt8:=(List.range 16).map fun j=>UInt8.ofNat (rK (LU st j)).toNat
def zA(st i:Nat):List AV:=(List.range 16).map fun j=>.pv (.int .u8 (if j<i then rK (LU st j)else 0))
theorem GK(a i):(zA a i).length=16:=rfl
theorem PN{a i j}(h:j<16):(zA a i)[j]?=some (.pv (.int .u8 (if j<i then rK (LU a j)else 0))):=by rw[zA,aCz,List.getElem?_range h];rfl
theorem gq{a i}(h:i<16):(zA a i).set i (.pv (.int .u8 (rK (LU a i))))=zA a (i+1):=by
 apply List.ext_getElem?;intro j;by_cases b:j<16
 ·rw[PN b];by_cases e:i=j
  ·subst e;rw[List.getElem?_set_self (by exact h),aCe (Nat.lt_succ_self _)]
  rw[List.getElem?_set_ne e,PN b]
  grind
 rw[List.getElem?_eq_none (by rw[List.length_set,GK];omega),List.getElem?_eq_none (by rw[GK];omega)]
theorem Bs{H}{c i}:∀a∈zA c i,Clo H a:=by intro a b;obtain ⟨j,_,rfl⟩:=List.mem_map.1 b;exact .pv _
theorem Gc{H}{l}:∀a∈lQ l,Clo H a:=by intro a b;obtain ⟨j,_,rfl⟩:=List.mem_map.1 b;exact .pv _
theorem K5{H}{n T}{l}(h:∀a∈l,Clo H a):∀r∈(bx n T l).rows,∀a∈r,Clo H a:=by simp_all
theorem B1(a j):LU a j<16:=Nat.mod_lt _ (by simp)
theorem og{n}(h:n<16):0<=rK n/\rK n<256:=by unfold rK;all_goals omega
theorem gu(b):zA b 16=lQ (AX b):=by rw[lQ,AX,List.map_map];refine List.map_congr_left fun j d=>?_;have c:=List.mem_range.1 d;have f:=og (B1 b j);simp only[Function.comp];rw[aCe c,UInt8.toNat_ofNat'];have e:(rK (LU b j)).toNat % 2 ^ 8=(rK _).toNat:=Nat.mod_eq_of_lt (by omega);rw[e,Int.toNat_of_nonneg f.1]
def SH(n:Nat):Nat:=1181783497276652981 ^^^ n
def tL(s:ByteArray):ByteArray:=⟨(AX (QL (SH s.size) s.data.toList)).toArray⟩
theorem pc{n}(h:n<18446744073709551616):SH n<18446744073709551616:=DA (by simp) h
theorem orN{b:Nat}(ha:a<72057594037927936)(hb:b<256):bits .or .u64 ((a*256:Nat)) b=((a*256+b:Nat)):=by rw[bits_or_u64_nat _ _ (by omega) (by omega)];have h:=Nat.two_pow_add_eq_or_of_lt (i:=8) (by omega) a;rw[Nat.mul_comm]at h;rw[h]
theorem aBD(h:a<72057594037927936):IntKind.u64.wrap (a*2 ^ ((8:Int)).toNat)=((a*256:Nat)):=by show IntKind.u64.wrap (a*256)=_;rw[IntKind.wrap_u64];omega
theorem YI{n:Nat}(h:n<18446744073709551616):IntKind.u64.wrap n=n:=by rw[IntKind.wrap_u64];omega
theorem xw(s:ByteArray)(g:Nat)(k:g<18446744073709551616):aW Tryz.prog 103 [sv s,.ref 903 0 0 0] [(903,bx 1 122 [uv g])] (fun r H'=>r=.tup []/\H'=[(903,bx 1 122 [uv (MN (g ^^^ vC (mA s.data.toList)))])]):=by
 have t:(List.replicate 8 (AV.pv (.int .u8 0)))=lQ (List.replicate 8 0):=by rfl
 have hm:min s.size 8<=8:=by omega
 have o:s.data.toList.length=s.size:=by simp
 have d:lQ (s.data.toList.take (min s.size 8))++(List.replicate 8 (AV.pv (.int .u8 0))).drop (min s.size 8)=lQ (mA s.data.toList):=by
  rw[t,lQ,lQ,<-List.map_drop,<-List.map_append,List.drop_replicate,lQ,mA,o]
  grind
 refine Bd func103 rfl ntmps103<|Sz (kl 3 Wy)<|Sq<|Rg ?_;refine JE (id:=3) rfl rfl rfl rfl underlying123 cO rfl rfl rfl ?_;refine Gj rfl rfl rfl (by decide) rfl rfl ?_;refine XM rfl rfl rfl rfl dG cO rfl (by decide) rfl rfl ?_;refine Zz<|Sz aH<|Sq<|Sz aC<|aE ?_;refine bJ (σ:=Nat) (fun i=>([(0,sv s),(1,.ref 903 0 0 0),(3,.ref 3 0 0 0),(4,uv (vC ((mA s.data.toList).take i))),(9,iv (i:Int))],[(3,bx 8 123 (lQ (mA s.data.toList))),(903,bx 1 122 [uv g])])) (fun i=>i<=8) (fun i=>8 - i) 0 (aCw _) ?_ ?_
 ·rw[<-d];refine cQ.wk (Eb<|Ea<|Ea<|Eb<|Eb<|trivial) (Hc ?_<|Hb<|trivial) ⟨rfl,trivial⟩;rw[d];exact K5 Gc
 intro i hi;have h:=ZL s.data.toList;have hti:((mA s.data.toList).take i).length<=8:=by simp_all
 refine Sz cJ<|Sq ?_;refine Cn ?_ ?_<;>intro j
 ·have hlt:i<8:=by have:=aCb j;omega
  obtain ⟨b,q⟩:∃b,(mA s.data.toList)[i]?=some b:=⟨_,aCk (by omega)⟩;have l:(lQ (mA s.data.toList))[i]?=some (.pv (.int .u8 (b.toNat:Int))):=by rw[lQ,aCz,q];rfl
  have m:((mA s.data.toList).take i).length<=7:=by grind
  have p:=cp m;have hb3:=b.toNat_lt;refine aA<|Sq<|aE<|Sd aC<|Zd aH<|Rd aC<|Dd (by exact H9 rfl rfl rfl (by decide) (by decide) (aBD p))<|Dd aC<|Dd (by exact eH rfl underlying123 cO rfl rfl rfl rfl (by omega) (by exact aCq _) (by omega) rfl)<|Dd (by exact bA rfl C4 rfl rfl rfl rfl (by rw[aCx,Nat.mul_one];exact l))<|Dd (by exact fA rfl eB iU rfl (YI (by omega)))<|Dd (by exact nJ rfl (by simp) rfl rfl (orN p (by omega)))<|Zd aH<|Rd iF<|Zd aC ?_;refine⟨i+1,by omega,by omega,?_⟩;have e:vC ((mA s.data.toList).take (i+1))=vC ((mA s.data.toList).take i)*256+b.toNat:=by rw[List.take_add_one,q,Option.toList_some,U6]
  rw[e];exact(cQ.wk (Eb<|Ea<|Ea<|Eb<|Eb<|trivial) (Hc (K5 Gc)<|Hb<|trivial) ⟨rfl,trivial⟩)
 have n:i=8:=by have:=aCc j;omega
 subst n;have e:(mA s.data.toList).take 8=mA s.data.toList:=List.take_of_length_le (by omega);rw[e];refine aS<|Rd (bD LF)<|Dd aC<|Dd (by exact nJ rfl (by simp) rfl rfl (bits_xor_u64_nat g _ k (RI (Nat.le_of_eq h))))<|Dd (kc call104 (aAE _ (DA k (RI (Nat.le_of_eq h))) _))<|Uu (iP HB)<|Zz ?_;exact uP (H':=[(903,bx 1 122 [uv (MN (g ^^^ vC (mA s.data.toList)))])]) (.inl rfl) rfl (Fin.wk (by simp) (Hb<|trivial) ⟨rfl,trivial⟩) ⟨rfl,rfl⟩
theorem ay(s:ByteArray)(i j):(s.extract i j).data.toList=(s.data.toList.drop i).take (j - i):=by simp
theorem dAt(a i):(kU 16)[0+LU a i*1]?=some (.pv (.int .u8 (rK (LU a i)))):=by rw[aCx,Nat.mul_one,GY (B1 _ i),aCe (B1 _ i)]
theorem aBd(b:a<18446744073709551616):bits .and .u64 a 15=((a % 16:Nat)):=by have h:=bits_and_u64_nat a 15 b (by simp);rw[Nat.and_two_pow_sub_one_eq_mod a 4]at h;exact h
theorem YN(s:ByteArray)(H:aG)(hs:s.size<4611686018427387904):RC 36 [sv s] (sv (tL s)) H:=by
 refine Pu ?_;have k:SH s.size<18446744073709551616:=pc (by omega);have hsl:s.data.toList.length=s.size:=by simp
 refine Bd func36 rfl ntmps36<|Sz aH<|Sd aC<|Dd (gF underlying9)<|Dd (by exact fA rfl underlying3 iU rfl (YI (by omega)))<|Dd (by exact nJ rfl (by simp) rfl rfl (bits_xor_u64_nat 1181783497276652981 s.size (by decide) (by omega)))<|Dd (kl 903 Wz)<|Uu (iP HB)<|Zz<|Sd (by exact hU rfl rfl)<|Zd aH<|Sq<|aE ?_;refine fZ (fun(x:ByteArray) (b:Nat)=>([(0,sv x),(3,.ref 903 0 0 0),(4,.clo 103 [.ref 903 0 0 0])],[(903,bx 1 122 [uv b])])) (fun x b=>b<18446744073709551616/\x.size<=s.size/\QL b x.data.toList=QL (SH s.size) s.data.toList) (fun x b=>x.size) s (SH s.size) ⟨k,aCl _,rfl⟩ ?_ ?_
 ·exact Wk
 rintro x b ⟨c,hx,m⟩;have hxl:x.data.toList.length=x.size:=by simp
 refine Sq<|Sd aC<|Dd (gF underlying9)<|Zd CX ?_;refine Cn ?_ ?_<;>intro d
 ·have n:8<=x.size:=by have:=aCb d;omega
  refine aA<|Sq<|aE<|Rd aC<|Dd aC<|Dd (by exact cB (l:=0) (h:=8) rfl underlying9 rfl rfl rfl (by omega) (by omega) rfl)<|Zd (by exact cW rfl rfl rfl (dI.clo call103 (xw (x.extract 0 8) b c)))<|Rd aC<|Dd (by exact cB (l:=8) (h:=x.size) rfl underlying9 rfl rfl rfl (by omega) (by omega) rfl)<|Da ?_;refine⟨x.extract 8 x.size,MN (b ^^^ vC (mA (x.extract 0 8).data.toList)),⟨WV _,by rw[ByteArray.size_extract];omega,?_⟩,by rw[ByteArray.size_extract];omega,Wk⟩;rw[<-m,UU b (by omega:8<=x.data.toList.length),ay,ay,List.drop_zero,List.take_of_length_le (l:=x.data.toList.drop 8) (by simp_all)]
 have n:x.size<8:=by have:=aCc d;omega
 have o:=UV b (by omega:x.data.toList.length<8);obtain ⟨S,l⟩:∃S,S=MN (b ^^^ vC (mA x.data.toList)):=⟨_,rfl⟩;have h:S<18446744073709551616:=by rw[l];exact WV _
 have e:tL s=⟨(AX S).toArray⟩:=by rw[tL,<-m,o,l]
 rw[e];refine aS<|Sd aC<|Dd aC<|Zd (by exact cW rfl rfl rfl (dI.clo call103 (xw x b c)))<|Sd (kc call105 (Er _))<|Dd (kl 5 jy)<|Uu (iP XP)<|Zz<|Sz (kl 6 jy)<|Sq<|Sz aC<|aE ?_;rw[<-l];refine bJ (σ:=Nat) (fun i=>([(3,.ref 903 0 0 0),(5,.ref 5 0 0 0),(6,.ref 6 0 0 0),(26,iv (i:Int))],[(6,bx 16 128 (zA S i)),(5,bx 16 128 (kU 16)),(903,bx 1 122 [uv S])])) (fun i=>i<=16) (fun i=>16 - i) 0 (aCw _) ?_ ?_
 ·exact(cQ.wk (Ea<|Ea<|Ea<|Eb<|trivial) (Hc (K5 Bs)<|Hc (K5 jh)<|Hb<|trivial) trivial)
 intro i hi;refine Sz cJ<|Sq ?_;refine Cn ?_ ?_<;>intro f
 ·have g:i<16:=by have:=aCb f;omega
  refine aA<|Sq<|aE<|Sd aC<|Zd aH<|Rd aC<|Dd (bD LF)<|Dd aC<|Dd (by exact iY rfl rfl rfl (by exact lI (by omega) (by omega)))<|Dd (by exact dB rfl rfl rfl (by exact lI (by omega) (by omega)))<|Dd (by exact ET rfl rfl rfl (by omega) (by simp[IntKind.bits];omega) (qy S (60 - 4*i) (by omega)))<|Dd (by exact nJ rfl (by simp) rfl rfl (aBd (xM _ h)))<|Dd (by exact eH rfl xU cO rfl rfl rfl rfl (by omega) (aCq _) (B1 S i) rfl)<|Dd (by exact bA rfl C4 rfl rfl rfl rfl (dAt S i))<|Dd (by exact eH rfl xU cO rfl rfl rfl rfl (by omega) (by exact aCq _) (by omega) rfl)<|Uu (by exact cV rfl cO rfl rfl rfl rfl rfl rfl (by rw[GK];omega) (show (zA S i).set (0+i*1) (.pv (.int .u8 (rK (LU S i))))=zA S (i+1)by rw[aCx,Nat.mul_one];exact gq g) rfl) ?_;refine Zz<|Rd iF<|Zd aC ?_;exact⟨i+1,by omega,by omega,(cQ.wk (Ea<|Ea<|Ea<|Eb<|trivial) (Hc (K5 Bs)<|Hc (K5 jh)<|Hb<|trivial) trivial)⟩
 have j:i=16:=by have:=aCc f;omega
 subst j;refine aS<|Sq<|Rg ?_;refine JE (id:=6) rfl rfl rfl rfl xU cO rfl rfl rfl ?_;refine Om (bs:=AX S) rfl rfl rfl rfl dG eB underlying9 (by rw[<-gu];rfl) (by decide) rfl ?_;exact Zd aH<|aB<|Rt<|Qq
end Go.Proofs.YtmdicgjnmfolfaaGreatDoor
namespace Go.Abs
variable{ι:lR}{H H' G0 K:aG}{v:Value}{a:AV}{E d:dC}{id b p N:Nat}{x:Go.Loop}{P:Program}
def Vv(H' H:aG):Prop:=∀j o',H'.get j=some o'->∃o,H.get j=some o/\o'.g=o.g/\o'.sz=o.sz/\o'.rows.length=o.rows.length
theorem VRel.restrictG{w:World}{I:Nat->Prop}(r:Vv H' H)(h:VRel w I ι H v a):Clo H' a->VRel w I ι H' v a:=by
 induction h with
 |any v=>exact fun _=>.any v
 |pv h=>exact fun _=>.pv h
 | ref o f p g m =>
  intro c;cases c with
  |ref c =>
   obtain ⟨k,d⟩:=Option.isSome_iff_exists.1 c;obtain ⟨u,e,x,t,s⟩:=r _ _ d;rw[f]at e;cases e;exact .ref k d (by omega) g (fun y=>by simp_all)
 |pad b D A M f p g K m N O=>exact fun _=>.pad b D A M f p g K m N O
 | osl o f p g m =>
  intro c;cases c with
  |osl c =>
   obtain ⟨k,d⟩:=Option.isSome_iff_exists.1 c;obtain ⟨u,e,x,t,s⟩:=r _ _ d;rw[f]at e;cases e;exact .osl k d (by omega) g (fun y=>by simp_all)
 |clo n h l =>
  intro c;cases c with|clo c=>exact .clo n fun i v a q j=>l i v a q j (c a (aCp j))
 |bnd n h l =>
  intro c;cases c with|bnd c=>exact .bnd n fun i v a q j=>l i v a q j (c a (aCp j))
 |agg n f h l =>
  intro c;cases c with|agg c=>exact .agg n f fun i v a q j=>l i v a q j (c a (aCp j))
 |tup n h l =>
  intro c;cases c with|tup c=>exact .tup n fun i v a q j=>l i v a q j (c a (aCp j))
 | mp o f p g m =>
  intro c;cases c with
  |mp c =>
   obtain ⟨k,d⟩:=Option.isSome_iff_exists.1 c;obtain ⟨u,e,x,t,s⟩:=r _ _ d;rw[f]at e;cases e;exact .mp k d (by omega) g (fun y=>by simp_all)
 | it o f p g m =>
  intro c;cases c with
  |it c =>
   obtain ⟨k,d⟩:=Option.isSome_iff_exists.1 c;obtain ⟨u,e,x,t,s⟩:=r _ _ d;rw[f]at e;cases e;exact .it k d (by omega) g (fun y=>by simp_all)
 | yld o f p g m =>
  intro c;cases c with
  |yld c =>
   obtain ⟨k,d⟩:=Option.isSome_iff_exists.1 c;obtain ⟨u,e,x,t,s⟩:=r _ _ d;rw[f]at e;cases e;exact .yld k d (by omega) g (fun y=>by simp_all)
 | osc o f p g m =>
  intro c;cases c with
  |osc c =>
   obtain ⟨k,d⟩:=Option.isSome_iff_exists.1 c;obtain ⟨u,e,x,t,s⟩:=r _ _ d;rw[f]at e;cases e;exact .osc k d (by omega) g (fun y=>by simp_all)
theorem VRel.freezeG{w}{I}{ι}{H H'}{id}{ob}{ps}(p:Rel I ι H w)(s:Vv H' H)(x:H.get id=some ob)(m:ob.rows=ps.map (·.map .pv)){a a'}(q:Fz H' id ob.g ps a a'):
  ∀ {v},VRel w I ι H v a->VRel w (pX I ι id) ι H' v a':=by
 induction q with
 |same h=>exact fun c=>(c.restrictG s h).mono' (fun _ _=>rfl) (fun _ h=>.inl h) (fun _ o h=>⟨o,h,aCl _,fun _=>⟨rfl,rfl,fun _=>aCl _⟩⟩)
 |osl r =>
  intro v c;subst r;exact .pv (D0 p x m c)
 | agg g h j =>
  intro v c;cases c with
  |agg k t f =>
   refine .agg (k.trans g) t fun i u a' l b=>?_;have n:=(aCj.1 b).1;exact j i _ _ (aCk (by omega)) b (f i u _ l (aCk _))
 | tup g h j =>
  intro v c;cases c with
  |tup k f =>
   refine .tup (k.trans g) fun i u a' l b=>?_;have n:=(aCj.1 b).1;exact j i _ _ (aCk _) b (f i u _ l (aCk (by omega)))
def RP(H':aG)(id g:Nat)(ps:List (List PV))(rows rows':List (List AV)):Prop :=rows'.length=rows.length/\∀(i:Nat) (r':List AV),rows'[i]?=some r'->∃r,rows[i]?=some r/\r.length=r'.length/\∀(k:Nat) (a a':AV),r[k]?=some a->r'[k]?=some a'->Fz H' id g ps a a'
theorem gA{H'}{id g}{ps}{rows}(h:∀r∈rows,∀a∈r,Clo H' a):RP H' id g ps rows rows :=⟨rfl,fun i r b=>⟨r,b,rfl,fun k a a' d c=>by rw[d]at c;cases c;exact .same (h r (aCp b) a (aCp d))⟩⟩
theorem nB{H'}{id g}{ps}{r r'}(c:r.length=r'.length)(h:∀(k:Nat) (a a'),r[k]?=some a->r'[k]?=some a'->Fz H' id g ps a a'):RP H' id g ps [r] [r'] :=⟨rfl,fun i x b=>by
  match i,b with
  |0,b=>cases b;exact⟨r,rfl,c,h⟩⟩
def FOk(H H':aG)(id g:Nat)(ps:List (List PV)):aG->Prop
 | []=>True
 |(j,o')::r=>(∃o,H.get j=some o/\o'.g=o.g/\o'.sz=o.sz/\o'.ty=o.ty/\RP H' id g ps o.rows o'.rows)/\FOk H H' id g ps r
theorem FOk.spec{H H'}{id g}{ps}{L}(h:FOk H H' id g ps L):∀p∈L,∃o,H.get p.1=some o/\p.2.g=o.g/\p.2.sz=o.sz/\p.2.ty=o.ty/\RP H' id g ps o.rows p.2.rows:=by
 induction L with
 |nil=>simp
 |cons x r ih =>
  obtain ⟨h1,h2⟩:=h
  simp_all
theorem cQ.fzG{E':dC}{ob:Ob}(ps:List (List PV))(B:H.get id=some ob)(K:ob.rows=ps.map (·.map .pv))(hE:∀p∈E',∃v0,E.get p.1=some v0/\Fz H' id ob.g ps v0 p.2)(W:H'.get id=none)
    (hF:FOk H H' id ob.g ps H') (hk:wc H' H G0):cQ G0 E H E' H':=by
  intro G hG N a w T;obtain ⟨I,A,q,d,he⟩:=T.rel;subst hG;have C:∀j f,H'.get j=some f->∃o,H.get j=some o/\f.g=o.g/\f.sz=o.sz/\f.ty=o.ty/\RP H' id ob.g ps o.rows f.rows:=fun j f x=>hF.spec _ (dY x);have s:Vv H' H:=fun j f x=>by
    obtain ⟨o,u,Z,R,_,L⟩:=C j f x;exact⟨o,u,Z,R,L.1⟩
  have D:∀b,MW A H' b->MW A H b:=fun b ⟨j,f,c,g,n⟩=>by
    obtain ⟨o,u,_⟩:=C j f g;exact⟨j,o,c,u,n⟩
  have J:Rel (pX I A id) A H' w:=by
    refine⟨fun b l=>?_,fun j f x=>?_,fun j j' o f b c c' g n=>?_,q.glob.mono (fun _ _=>rfl) (fun _ h=>.inl h)⟩
    · rcases l with l|⟨m,l⟩
      · exact q.imm b l
      · exact q.lt ⟨id,ob,m,B,l⟩
    · obtain ⟨o,u,Z,R,e4,L,Y⟩:=C j f x
      refine(q.obj j o u).keepG R e4 L (Y8 L.symm (fun i U V=>by
        obtain ⟨r,M,Q,X⟩:=Y i U V;exact⟨r,M,Q,fun k a P g n y ts e=>(X k a P g n).raw e⟩)) rfl (fun b' F q1 _=>⟨rfl,fun q3=>?_⟩) (fun i U V=>?_)
      · rintro(h|⟨m,h⟩)
        · exact q3 h
        · have:j=id:=q.inj j id o ob b' F m u B q1 h
          rw[this,W]at x;cases x
      · obtain ⟨r,M,Q,X⟩:=Y i U V
        exact⟨r,M,Q,fun k a P g n v S=>VRel.freezeG q s B K (X k a P g n) S⟩
    · obtain ⟨p,u,_⟩:=C j o g
      obtain ⟨p',O,_⟩:=C j' f n;exact q.inj j j' p p' b c c' u O
  have z:Step G.I G.ι G.H G.w (pX I A id) A H' w :=
    { os := d.os, tape := d.tape, output := d.output, size := d.size, froz := d.froz, keep := d.keep
      imm:=fun b l=>.inl (d.imm b l)
      immNew:=fun b l=>by
        rcases l with l|⟨m,l⟩
        · exact d.immNew b l
        · rcases d.own b ⟨id,ob,m,B,l⟩with g|g
          · exact .inr (.inl g)
          · exact .inr (.inr g)
      own:=fun b l=>d.own b (D b l)
      objs:=fun j o ho=>by
        obtain ⟨f,g,n⟩:=d.objs j o ho;exact⟨f,(hk.kept j (by simp[ho])).trans g,n⟩}
  refine⟨T.defers,T.size,_,A,J,z,fun t v ht=>?_⟩;obtain ⟨v0,g,n⟩:=hE _ (iA ht);obtain ⟨c,hc,S⟩:=he t v0 g;exact⟨c,hc,VRel.freezeG q s B K n S⟩
section
def LR(x:Go.Loop)(E0:dC):Ob:=⟨0,0,0,[[.raw x (E0.map (·.1))],E0.map (·.2)]⟩
section
variable{I:Nat->Prop}{w:World}
theorem zg{x}(m:Rel I ι H w)(e:H.get id=some (LR x d))(j:VRel w I ι H v (.yld id 0)):
  ∃b,ι id=some (b,2)/\v=.func (.yield b) #[] #[]/\w.heap[b]?=some (.loop x)/\¬ I b/\∀(i t:Nat) (a:AV),(d.map (·.1))[i]?=some t->(d.map (·.2))[i]?=some a->∃c,x.tmps[t]?=some c/\VRel w I ι H c a:=by
 cases j with
 |yld o g h2 h3 k =>
  rw[e]at g;cases g;obtain ⟨_,b,f,e2⟩:=k rfl;obtain ⟨_,b',y,h,k2,k3,l⟩:=(m.obj id _ e).rec rfl f;rw[f]at h;obtain ⟨q1,q2⟩:=l x _ _ rfl
  grind
theorem Rel.setRec{y:Go.Loop}{G:dC}(m:Rel I ι H w)(n:H.get id=some (LR x G))(k:ι id=some (b,2))(hy:y.tmps=x.tmps)
  (K:H'.get id=some (LR y G)) (C:∀j,j≠id->H'.get j=H.get j):Rel I ι H' (w.putObj b (.loop y))/\Step I ι H w I ι H' (w.putObj b (.loop y)):=by
 obtain ⟨_,b',z,J,O,T,k4⟩:=(m.obj id _ n).rec rfl k;rw[k]at J;cases J;obtain ⟨Q,X⟩:=k4 x _ _ rfl;subst Q;have u:=(Array.getElem?_eq_some_iff.1 O).1;have s:∀c,MW ι H' c->MW ι H c:=fun c ⟨j,o,B,U,g⟩=>by
  by_cases e:j=id
  ·subst e;exact⟨j,_,B,n,g⟩
  exact⟨j,o,B,(C j e).symm.trans U,g⟩
 have l:Step I ι H w I ι H' (w.putObj b (.loop y)):=by
  refine⟨rfl,rfl,rfl,by simp_all,fun a L _=>?_,fun _ h=>h,fun _ h=>.inl h,fun c g=>.inl (s c g),fun c g V=>?_,fun j o f=>?_⟩
  ·unfold World.frozen?;by_cases e:a.block=b
   ·rw[e,World.putObj_heap_same u,O]
   rw[World.putObj_heap_other e]
  ·exact World.putObj_heap_other fun e=>V ⟨id,_,2,n,by rw[e];exact k⟩
  by_cases e:j=id
  ·subst e;rw[n]at f;cases f;exact⟨_,K,aCl _,fun _=>⟨rfl,rfl,fun h=>by cases h⟩⟩
  exact⟨o,(C j e).trans f,aCl _,fun _=>⟨rfl,rfl,fun _=>aCl _⟩⟩
 refine⟨⟨fun c g=>by rw[World.putObj_size];exact m.imm c g,fun j o f=>?_,fun j N o o' c d d' f F g D=>?_,l.glob m⟩,l⟩
 ·by_cases e:j=id
  ·subst e;rw[K]at f;cases f;refine .inr (.inr (.inr ⟨rfl,b,y,k,World.putObj_heap_same u,T,fun z ts r M=>?_⟩));simp only[LR,List.cons.injEq,AV.raw.injEq,and_true]at M;obtain ⟨⟨rfl,rfl⟩,rfl⟩:=M;refine⟨rfl,fun i t a W L=>?_⟩;obtain ⟨c,Z,P⟩:=X i t a W L;exact⟨c,by rw[hy];exact Z,P.mono m l⟩
  rw[C j e]at f;exact(m.obj j o f).keep rfl (fun c d g _=>⟨World.putObj_heap_other (fun hb=>e (m.inj j id o _ c d 2 f n g (by rw[hb];exact k))),fun h=>h⟩) (fun r _ a _ v R=>R.mono m l)
 have A:∀j o,H'.get j=some o->∃o,H.get j=some o:=fun j o f=>by
  by_cases e:j=id
  ·subst e;exact⟨_,n⟩
  exact⟨o,(C j e).symm.trans f⟩
 obtain ⟨q,S⟩:=A j o f;obtain ⟨Y,E⟩:=A N o' F;exact m.inj j N q Y c d d' S E g D
theorem Rel.push(o:Obj)(f:Rel I ι H w):Rel I ι H (w.alloc o)/\Step I ι H w I ι H (w.alloc o):=by
 have g:∀b,b<w.heap.size->(w.alloc o).heap[b]?=w.heap[b]?:=fun b e=>by
  show (w.heap.push o)[b]?=_
  grind
 have d:Step I ι H w I ι H (w.alloc o):=by
  refine⟨rfl,rfl,rfl,by simp_all,fun a ha _=>?_,fun _ h=>h,fun _ h=>.inl h,fun _ h=>.inl h,fun b e _=>g b e,fun _ o h=>⟨o,h,aCl _,fun _=>⟨rfl,rfl,fun _=>aCl _⟩⟩⟩;unfold World.frozen?
  simp_all
 refine⟨⟨fun b e=>by have:=f.imm b e;rw[World.size_alloc];omega,fun j o k=>?_,f.inj,d.glob f⟩,d⟩;exact(f.obj j o k).keep rfl (fun b c _ e=>⟨g b e,fun h=>h⟩) (fun r _ a _ v i=>i.mono f d)
end
def busy(x:Go.Loop):Go.Loop:={x with state:=.busy}
def left(x:Go.Loop)(c:Code):Go.Loop:={x with state:=.done,pending:=some c}
def Hd(H0:aG)(id:Nat)(x:Go.Loop)(E0:dC)(Q:AV->aG->Prop):Exit->dC->aG->Prop
 |.normal,E,H=>∃K,cQ H0 E H [] ((id,LR (busy x) E0)::K)/\Q (.pv (.bool true)) ((id,LR x E0)::K)
 |.ret,E,H=>∃K,cQ H0 E H [] ((id,LR (busy x) E0)::K)/\Q (.pv (.bool false)) ((id,LR (left x .ret) E0)::K)
 |.exit j,E,H=>∃K,cQ H0 E H [] ((id,LR (busy x) E0)::K)/\Q (.pv (.bool false)) ((id,LR (left x (.exit j)) E0)::K)
 |_,_,_=>False
theorem tB{G:Entry}{I}{ι}{H}{w}{id b}{x y}{e}(c:Step G.I G.ι G.H G.w I ι H w)(h:G.H.get id=some (LR x e))(a:G.ι id=some (b,2))(g:H.get id=some (LR y e)):ι id=some (b,2):=by obtain ⟨o',d,_,f⟩:=c.objs _ _ h;rw[g]at d;cases d;exact(f rfl).1.trans a
theorem uD{I}{w}{x}{f:dC}(g:Rel I ι H w)(d:H.get id=some (LR x f))(a:ι id=some (b,2)):w.heap[b]?=some (.loop x):=by
 obtain ⟨_,b',z,c,k2,k3,e⟩:=(g.obj id _ d).rec rfl a;rw[a]at c;obtain ⟨q1,_⟩:=e x _ _ rfl
 simp_all
theorem gK(id)(o)(K:aG):aG.get ((id,o)::K) id=some o:=by simp[aG.get,pQ]
theorem AY{id j}(o o')(K:aG)(h:j≠id):aG.get ((id,o)::K) j=aG.get ((id,o')::K) j:=by simp[aG.get,kV (Ne.symm h)]
theorem VB{h n:Code}{Q:AV->aG->Prop}(E2:dC)(K2:aG)(G:x.state=.ready)(X:x.pending=none)(hp:x.params=#[p])(hN:x.tmps.size=N)(hxa:x.assign=h)(hxb:x.body=n)(U:Nat.blt p N=true)
  (hok:yL h=true) (T:yL n=true)
  (h1:gC P ((id,LR x d)::K) N h (xV (fun E1 H1=>cQ ((id,LR x d)::K) E1 H1 E2 ((id,LR x d)::K2)) (fun _ _ _=>False)) ((p,a)::d) ((id,LR x d)::K))
  (h2:gC P ((id,LR x d)::K) N n (Hd ((id,LR x d)::K) id x d Q) E2 ((id,LR (busy x) d)::K2)):G5 P id 0 [a] ((id,LR x d)::K) Q:=by
 subst hxa hxb;have U:p<N:=by simp_all
 intro I Y w vs v hr hv hl hvs;obtain ⟨b,e1,e2,e3,e4,e5⟩:=zg hr (gK _ _ _) hv;obtain ⟨u,rfl⟩:∃u,vs=#[u]:=by
  match vs,hl with
  |⟨[u]⟩,_=>exact⟨u,rfl⟩
 have hu:=hvs 0 u a rfl rfl;refine⟨b,x.fn,_,x.assign,x.body,e2,run_yield e3 (by simp_all),?_⟩;refine roundIn_of_wpIn (F:=Fence.wide) trivial ?_;have Z:(⟨I,Y,(id,LR x d)::K,w,[]⟩:Entry).H=(id,LR x d)::K:=rfl;have hst:St ⟨I,Y,(id,LR x d)::K,w,[]⟩ N ((p,a)::d) ((id,LR x d)::K) {tmps:=(x.params.zip #[u]).foldl (fun m (t,a)=>m.setIfInBounds t a) x.tmps,defers:=[]} w:=by
  have ht:(x.params.zip #[u]).foldl (fun m (t,a)=>m.setIfInBounds t a) x.tmps=x.tmps.setIfInBounds p u:=by rw[hp];simp
  rw[ht];refine⟨sY.nil _ _ _,by simp[hN],I,Y,hr,Step.refl _ _ _ _,fun t y s=>?_⟩;by_cases e:p=t
  ·subst e;rw[dC.get_cons_same]at s;cases s;exact⟨u,by simp[hN,U],hu⟩
  rw[dC.get_cons_other _ _ e]at s;obtain ⟨i,hi⟩:=aDA.1 (iA s);obtain ⟨c,c1,c2⟩:=e5 i t y (by rw[aCz,hi];rfl) (by rw[aCz,hi];rfl);exact⟨c,by show (x.tmps.setIfInBounds p u)[t]?=some c;rw[Array.getElem?_setIfInBounds_ne e];exact c1,c2⟩
 refine wpIn_mono (h1 _ Z _ w hst (some b) (.inr hok)) ?_;rintro e a1 w1 ⟨E1,H1,q,hs1⟩;cases e with
 | normal =>
  have F:=q _ Z N a1 w1 hs1;obtain ⟨I1,ι1,z,B,he1⟩:=F.rel;have E:=tB B (gK _ _ _) e1 (gK _ _ _);have hb1:=uD z (gK _ _ _) E;obtain ⟨k1,k2⟩:=z.setRec (y:=busy x) (H':=(id,LR (busy x) d)::K2) (gK _ _ _) E rfl (gK _ _ _) (fun j hj=>AY _ _ _ hj);refine⟨_,run_beginRound hb1 G,?_⟩;have hs3:St ⟨I,Y,(id,LR x d)::K,w,[]⟩ N E2 ((id,LR (busy x) d)::K2) a1 (w1.putObj b (.loop (busy x))) :=
   ⟨F.defers.step z k2,F.size,I1,ι1,k1,B.trans k2,fun t y s=>let ⟨c,c1,c2⟩:=he1 t y s;⟨c,c1,c2.mono z k2⟩⟩
  refine wpIn_mono (h2 _ Z a1 _ hs3 (some b) (.inr T)) ?_;rintro e a2 w3 ⟨E3,H3,R,hs4⟩;have O:∀(g:Option Code) (y:Go.Loop) (o:aG),y={busy x with state:=if g.isNone then .ready else .done,pending:=g}->cQ ((id,LR x d)::K) E3 H3 [] ((id,LR (busy x) d)::o)->Q (.pv (.bool g.isNone)) ((id,LR y d)::o) ->
    ∃v w',(Instr.endRound b g).run P w3=.ok v w'/\∃r H' I' L v',Ending.returned v=.returned v'/\Q r H'/\VRel w' I' L H' v' r/\Rel I' L H' w'/\Step I Y ((id,LR x d)::K) w I' L H' w':=by
   intro g y o s f M;have hs5:=f _ Z N a2 w3 hs4;obtain ⟨I5,ι5,W,C,_⟩:=hs5.rel;have D:=tB C (gK _ _ _) e1 (gK _ _ _);have hb5:=uD W (gK _ _ _) D;obtain ⟨z1,z2⟩:=W.setRec (y:=y) (H':=(id,LR y d)::o) (gK _ _ _) D (by rw[s]) (gK _ _ _) (fun j hj=>AY _ _ _ hj);refine⟨_,_,run_endRound g hb5,_,_,I5,ι5,_,rfl,M,.pv (.bool _),?_,?_⟩
   ·rw[<-s];exact z1
   rw[<-s];exact C.trans z2
  cases e with
  |normal =>
   obtain ⟨o,f,M⟩:=R;refine O none x o ?_ f M;obtain ⟨st,pe,fn,tm,pa,ax,bo,de⟩:=x;simp only at G X;subst G X;rfl
  |ret =>
   obtain ⟨o,f,M⟩:=R;exact O (some .ret) (left x .ret) o rfl f M
  |exit j =>
   obtain ⟨o,f,M⟩:=R;exact O (some (.exit j)) (left x (.exit j)) o rfl f M
  |goto l=>exact R.elim
  |panic ch=>exact R.elim
  |outgrown=>exact R.elim
 |exit j=>exact q.elim
 |goto l=>exact q.elim
 |ret=>exact q.elim
 |panic ch=>exact q.elim
 |outgrown=>exact q.elim
def Hh(Q:Exit->dC->aG->Prop)(E:dC)(H:aG):Option Code->Prop
 |none=>Q .normal E H
 |some .ret=>Q .ret E H
 |some (.exit j)=>Q (.exit j) E H
 |_=>False
theorem FA{f:Nat}{M:List AV}{g:Operand}{ps:Array Tmp}{assign body:Code}{Q:Exit->dC->aG->Prop}(n:dC)(hg:aO E g=some (.clo f M))(hc:∀(args:Array Value) (w:World),(callFunc f args).run P w=.ok (.enter f args) w)
  (hps:ps=#[p]) (hid:H.get id=none) (hE0:∀q∈n,E.get q.1=some q.2)
  (h:∀x:Go.Loop,x.state=.ready->x.pending=none->x.params=#[p]->x.tmps.size=N->x.assign=assign->x.body=body ->
   aW P f (.yld id 0::M) ((id,LR x n)::H) (fun r H'=>∃(y:Go.Loop) (K:aG),y.tmps=x.tmps/\y.state≠.busy/\H'=(id,LR y n)::K/\∀z:Go.Loop,Hh Q E ((id,LR z n)::K) y.pending)) :
  gC P G0 N (.rangeFunc g ps assign body) Q E H:=by
 intro G hG a w hs ro hro;obtain rfl:ro=none:=hro.resolve_right (fun h=>by cases h);obtain ⟨I,ι,hr,hst,he⟩:=hs.rel;refine wpIn_rangeFunc (F:=RF none) ?_;intro fn _;have hgv:=aI he hg;generalize hfc:a.eval g=fc at hgv;cases hgv with
 | @clo _ us _ hl hh =>
  obtain ⟨x,R⟩:∃x:Go.Loop,x={state:=.ready,pending:=none,fn,tmps:=a.tmps,params:=ps,assign,body,defers:=w.heap.size}:=⟨_,rfl⟩;obtain ⟨a1,a2⟩:=hr.push (.deferred (some []));obtain ⟨X,V⟩:∃X,X=w.alloc (.deferred (some [])):=⟨_,rfl⟩;rw[<-V]at a1 a2;have L:X.heap.size=w.heap.size+1:=by simp_all
  have hDd:X.heap[w.heap.size]?=some (.deferred (some [])):=by rw[V];exact World.alloc_heap_new w _
  have m:aG.get ((id,LR x n)::H) id=some (LR x n):=gK _ _ _;obtain ⟨b1,b2⟩:=a1.placeX (id:=id) (cap:=2) (x:=.loop x) (w':=X.alloc (.loop x)) (H':=(id,LR x n)::H) (ob':=LR x n) rfl rfl rfl rfl (fun o ho=>by simp_all)
   (fun hnew hI hmono=>.inr (.inr (.inr ⟨rfl,_,x,by simp,hnew,hI,fun y ts r hy=>by
    simp only[LR,List.cons.injEq,AV.raw.injEq,and_true]at hy;obtain ⟨⟨rfl,rfl⟩,rfl⟩:=hy;refine⟨rfl,fun i t v ht u=>?_⟩;rw[aCz]at ht u;obtain ⟨q,hq,rfl⟩:=Option.map_eq_some_iff.1 ht;rw[hq]at u;cases u;obtain ⟨c,c1,c2⟩:=he q.1 q.2 (hE0 q (aCp hq));exact⟨c,by rw[R];exact c1,hmono _ _ (c2.mono hr a2)⟩⟩)))
   m (fun j hj=>by simp[aG.get,kV (Ne.symm hj)])
  obtain ⟨T,hw1⟩:∃T,T=X.alloc (.loop x):=⟨_,rfl⟩;rw[<-hw1]at b1 b2;obtain ⟨B,U⟩:∃B:lR,B=fun j=>if j=id then some (X.heap.size,2)else ι j:=⟨_,rfl⟩
  rw[<-U]at b1 b2;have d:B id=some (w.heap.size+1,2):=by rw[U,L];simp
  have hL1:=uD b1 m d;have W:T.heap[w.heap.size]?=some (.deferred (some [])):=by
   rw[b2.keep _ (by rw[L];omega) (AG a1 hDd)];exact hDd
  have Z:=h x (by rw[R]) (by rw[R]) (by rw[R,hps]) (by rw[R];exact hs.size) (by rw[R]) (by rw[R]) I B T (#[.func (.yield (w.heap.size+1)) #[] #[]]++us) b1 (by simp[hl];omega) (fun i v c u F=>by
   cases i with
   |zero =>
    rw[Array.getElem?_append_left (by simp)]at u;simp at u F;subst u F;exact .yld (LR x n) m (aCl _) rfl (fun _=>⟨rfl,_,d,rfl⟩)
   |succ i =>
    rw[Array.getElem?_append_right (by simp)]at u;simp only[List.getElem?_cons_succ]at F;have:=hh i v c (by simpa using u) F;exact(this.mono hr a2).mono a1 b2)
  refine⟨w.heap.size+1,[mark w.heap.size],T,{target:=.fn (.func f) us,args:=#[.func (.yield (w.heap.size+1)) #[] #[]]},T,f,#[.func (.yield (w.heap.size+1)) #[] #[]]++us,T,?_,?_,fun _ _=>trivial,?_,(fun q=>by cases q),?_⟩
  ·rw[hw1,V,R];exact run_enterLoop_outer _ _ _ _ _
  ·simp only[resolve,hfc];simp[go_sem]
  ·simp[invoke,go_sem,hc]
  refine((callsIn_wide (n:=0)).2 Z).mono ?_;rintro e w3 ⟨r,H',I3,ι3,v3,rfl,⟨y,K,hy1,hy2,rfl,hq⟩,_,hr3,A⟩;have O:=tB (G:=⟨I,B,(id,LR x n)::H,T,[]⟩) A m d (gK _ _ _);have hb3:=uD hr3 (gK _ _ _) O;obtain ⟨z,hz⟩:∃z:Go.Loop,z={y with state:=.exhausted}:=⟨_,rfl⟩;obtain ⟨z1,z2⟩:=hr3.setRec (y:=z) (H':=(id,LR z n)::K) (gK _ _ _) O (by rw[hz]) (gK _ _ _) (fun j hj=>AY _ _ _ hj);obtain ⟨w4,hw4⟩:∃w4,w4=w3.putObj (w.heap.size+1) (.loop z):=⟨_,rfl⟩;rw[<-hw4]at z1 z2;refine⟨y.pending,w4,by rw[hw4,hz];exact run_endLoop hb3 hy2,?_⟩;have s:Step I ι H w I3 ι3 ((id,LR z n)::K) w4:=((a2.trans b2).trans A).trans z2;have hD4:w4.heap[w.heap.size]?=some (.deferred (some [])):=by
   rw[(A.trans z2).keep _ (Array.getElem?_eq_some_iff.1 W).1 (AG b1 W)];exact W
  have Y : St G N E ((id, LR z n) :: K) { a with defers := [mark w.heap.size] ++ a.defers } w4 := by
   refine⟨?_,hs.size,I3,ι3,z1,hst.trans s,fun t v u=>let ⟨c,c1,c2⟩:=he t v u;⟨c,c1,c2.mono hr s⟩⟩;obtain ⟨Ds,d1,d2,d3⟩:=hs.defers.step hr s;refine⟨w.heap.size::Ds,by rw[d1];rfl,List.nodup_cons.2 ⟨fun hmem=>?_,d2⟩,fun D hD=>?_⟩
   ·have hold:∀D∈Ds,D<w.heap.size:=by
     obtain ⟨Ds',d1',_,d3'⟩:=hs.defers;have he:Ds'=Ds:=by
      have h0:Ds'.map mark=Ds.map mark:=List.append_cancel_right (d1'.symm.trans d1);have hinj:∀(l J:List Nat),l.map mark=J.map mark->l=J:=by
       intro l
       induction l with
       |nil=>intro J h;cases J with
        |nil=>rfl
        |cons _ _=>cases h
       | cons D l ih=>intro J h;cases J with
        |nil=>cases h
        |cons D' J =>
         simp only[List.map_cons,List.cons.injEq,mark,Deferred.mk.injEq,Target.collected.injEq,and_true]at h;rw[h.1,ih J h.2]
      exact hinj _ _ h0
     subst he;exact fun D hD=>(Array.getElem?_eq_some_iff.1 (d3' D hD).2).1
    exact Nat.lt_irrefl _ (hold _ hmem)
   rcases aCr.1 hD with rfl|hD
   ·exact⟨hst.size,hD4⟩
   exact d3 D hD
  have b:=hq z;generalize y.pending=pend at b |-
  match pend,b with
  |none,b=>exact⟨E,_,b,Y⟩
  |some .ret,b=>exact wpIn_ret ⟨E,_,b,Y⟩
  |some (.exit j),b=>exact wpIn_exit ⟨E,_,b,Y⟩
end
theorem aW.congrG{P}{f}{args}{H H1 K K1}{d}(h:aW P f args H1 (fun r X=>r=d/\X=K1))(u:∀j,H1.get j=H.get j)(p:∀j,K.get j=K1.get j):aW P f args H (fun r X=>r=d/\X=K):=by intro I ι w vs g q n;obtain ⟨A,l⟩:=g.congr u;refine(h I _ w _ A q (fun i v a o y=>(n i v a o y).mono g l)).mono ?_;rintro e w' ⟨r,H',s,c,v,rfl,⟨rfl,rfl⟩,x,k,z⟩;obtain ⟨t,m⟩:=k.congr p;exact⟨r,K,s,c,v,rfl,⟨rfl,rfl⟩,x.mono k m,t,(l.trans z).trans m⟩
theorem G5.congrG{P}{id g}{args}{H H1 K K1}{q}(h:G5 P id g args H1 (fun r X=>r=q/\X=K1))(J:∀j,H1.get j=H.get j)(E:∀j,K.get j=K1.get j):G5 P id g args H (fun r X=>r=q/\X=K):=by intro I ι w vs v k m F A;obtain ⟨y,o⟩:=k.congr J;obtain ⟨l,f,c,b,d,G,B,z⟩:=h I _ w _ v y (m.mono k o) F (fun i v a D L=>(A i v a D L).mono k o);refine⟨l,f,c,b,d,G,B,z.mono ?_⟩;rintro e w' ⟨r,H',x,n,v,rfl,⟨rfl,rfl⟩,u,s,C⟩;obtain ⟨t,p⟩:=s.congr E;exact⟨r,K,x,n,v,rfl,⟨rfl,rfl⟩,u.mono s p,t,(o.trans C).trans p⟩
theorem dI.congrG{P}{c}{args}{H H1 K K1}{b}(h:dI P c args H1 (fun r X=>r=b/\X=K1))(d:∀j,H1.get j=H.get j)(f:∀j,K.get j=K1.get j):dI P c args H (fun r X=>r=b/\X=K):=by
 rcases h with⟨id,g,e,h⟩|⟨F,a,e,i,h⟩
 ·exact .inl ⟨id,g,e,h.congrG d f⟩
 exact .inr ⟨F,a,e,i,h.congrG d f⟩
theorem pM{i j}{a b}(h:i≠j)(k):aG.get ((i,a)::(j,b)::K) k=aG.get ((j,b)::(i,a)::K) k:=by
 simp[aG.get];cases c:Nat.beq i k with
 |true =>
  have:=Nat.eq_of_beq_eq_true c;subst this;rw[kV (Ne.symm h)];rfl
 |false=>all_goals rfl
end Go.Abs
namespace Go.Abs
open Go.Lib
variable{id:Nat}{ob:Ob}{s:ByteArray}{w:World}{ι:lR}{H:aG}
section
section
variable{P:Program}{N:Nat}{o:Oper}{E:dC}{T S:TypeId}{x y:Operand}
theorem BN{w}{I}{ι}(s):sR w I ι H 1 (strCells s) (fE s.data.toList):=by
 intro i r c k a d;rw[fE,aCz]at c;obtain ⟨b,e,rfl⟩:=Option.map_eq_some_iff.1 c;cases k with
 |zero =>
  cases d;exact⟨.int _ _,by rw[strCells,Nat.mul_one,Nat.add_zero,aCz,e];rfl,rfl,.pv (.int _ _)⟩
 |succ k=>grind
theorem PI{e:TypeId}{g n:Nat}{H2:aG}(ho:o.op=.call {callee:=.builtin .append,args:=#[x,y],argTypes:=#[T,S]})(hT:P.underlying T=some (.slice e))(hS:P.underlying S=some .string)(hinf:cr P e 1 1)(hz0:∀i,P.info? e=some i->i.zero=some (.int .u8 0))
  (hx:aO E x=some (.osl id g 0 n)) (U:H.get id=some ob) (hg:ob.g=g) (q:ob.sz=1) (hty:ob.ty=e) (hn:ob.rows.length=n)
  (hy:aO E y=some (.pv (.str s))) (hmax:n+s.size<=140737488355328)
  (hH2:H.set id ⟨g+1,1,e,ob.rows++fE s.data.toList⟩=H2):cK P N o E H (.osl id (g+1) 0 (n+s.size)) H2:=by
 intro a w I ι _ _ hr he K Q hk;obtain ⟨i,z,hi,hz,A,hby,hzs,hsz0⟩:=hinf;have hzi:=hz0 i hi;subst hg hty hn hH2;have f:(fE s.data.toList).length=s.size:=by simp[fE]
 have hml:ob.rows.length+s.size<=maxLen:=by simp only[maxLen];omega
 have W:(H.set id ⟨ob.g+1,1,ob.ty,ob.rows++fE s.data.toList⟩).get id=some ⟨ob.g+1,1,ob.ty,ob.rows++fE s.data.toList⟩:=aG.get_set_same _ _ _;have h2:∀j,j≠id->(H.set id ⟨ob.g+1,1,ob.ty,ob.rows++fE s.data.toList⟩).get j=H.get j:=fun j hj=>aG.get_set_other _ _ hj;have V:0<ob.sz:=pA (aI he hx) U rfl;have p2:=((hr.obj id ob U).cells V).2.1;rw[q]at p2;have hrl:∀r∈ob.rows++fE s.data.toList,r.length=1:=fun r hr'=>by
  rcases List.mem_append.1 hr' with h|h
  ·simp_all
  obtain ⟨b,_,rfl⟩:=List.mem_map.1 h;rfl
 have hys:=(aI he hy).str_inv;have R:∀(v':Value) (w':World) (G:lR),(Builtin.append_ #[T,S] o.type #[a.eval x,.string s]).run P w=.ok v' w'->VRel w' I G (H.set id ⟨ob.g+1,1,ob.ty,ob.rows++fE s.data.toList⟩) v' (.osl id (ob.g+1) 0 (ob.rows.length+s.size)) ->
   Rel I G (H.set id ⟨ob.g+1,1,ob.ty,ob.rows++fE s.data.toList⟩) w'->Step I ι H w I G (H.set id ⟨ob.g+1,1,ob.ty,ob.rows++fE s.data.toList⟩) w'->o.wpW P a w K Q:=by
  intro v' w' G l k1 M O;unfold Oper.wpW execOp;simp only[ho,resolve,invoke,builtin,Sem.run_bind,Sem.run_pure,Result.andThen_ok,List.map_toArray,List.map_cons,List.map_nil,hys,l];exact hk v' w' I G _ _ ⟨rfl,rfl⟩ k1 M O
 have hvx:=aI he hx;obtain ⟨_,hcase⟩:=kB hvx U rfl;rcases hcase with⟨b,m,oo,c1,c2,c3⟩|⟨c1,c2,_,c4⟩
 ·obtain ⟨p1,_,⟨b',cap',L,Z,e2,e3,e4,e5,e5',e6⟩|⟨Z,_⟩⟩:=(hr.obj id ob U).cells V
  ·rw [c1] at Z;cases Z;rw [q] at e4 e6;have hoo:oo=0:=by omega
   subst hoo;rw[Nat.sub_zero]at c2;have X:sR w I ι H 1 (L.toList.take (ob.rows.length*1)) ob.rows:=by
    intro i' r C k a' F
    grind
   have t:(L.toList.take (ob.rows.length*1)).length=ob.rows.length*1:=by grind
   have B:(strCells s).length=s.size:=strCells_length s;by_cases hroom:ob.rows.length+s.size<=m
   ·have l:=run_append_room_string (P:=P) w T S o.type ob.ty i hT hS hi A b ob.rows.length m L e2 s hroom (by omega);obtain ⟨M,O⟩:=Rel.update (H':=H.set id ⟨ob.g+1,1,ob.ty,ob.rows++fE s.data.toList⟩) (ob':=⟨ob.g+1,1,ob.ty,ob.rows++fE s.data.toList⟩)
     (cs':=(L.toList.take ob.rows.length++strCells s++L.toList.drop (ob.rows.length+s.size)).toArray) hr U c1 e2 (by simp) q.symm rfl (fun e=>by grind) (by
      grind) (by grind) (by grind) (fun i' r C k a' F=>by
       have:=sR.app (l3:=L.toList.drop (ob.rows.length+s.size)) X t (BN (H:=H) s) i' r C k a' F;rw[q]
       simpa[List.append_assoc]using this) W h2
    exact R _ _ ι (by rw[c2];exact l) (.osl _ W (aCl _) rfl fun _=>⟨Nat.zero_lt_one,by grind,.inl ⟨b,m,0,c1,by simp,fun _=>by simp⟩⟩) M O
   have holds:∀j v,(L.toList.take ob.rows.length)[j]?=some v->w.cell? ((⟨b,0,none⟩:Addr).add j)=some v:=by
    intro j v hv;rw[Addr.add_lit,aCx,cell_of_row w b _ L ob.ty (0,0) e2];rw[List.getElem?_take]at hv
    split at hv
    ·simpa using hv
    cases hv
   have l:=run_append_grow_string (P:=P) w T S o.type ob.ty i (.int .u8 0) hT hS hi hzi ⟨b,0,none⟩ ob.rows.length m _ (by rw[A];simpa using t) holds s (by omega) (by omega) (growslice_fits (by omega) (by rw[hby];omega));have hge:=grownCap_ge w (ob.rows.length+s.size) m ob.ty;have Y:=grownCap_le_maxLen w (ob.rows.length+s.size) m ob.ty hml;have hz1:(Value.int IntKind.u8 0).cells.size=1:=rfl;obtain ⟨M,O⟩:=Rel.place (H':=H.set id ⟨ob.g+1,1,ob.ty,ob.rows++fE s.data.toList⟩) (id:=id) (cap:=grownCap w (ob.rows.length+s.size) m ob.ty) (ob':=⟨ob.g+1,1,ob.ty,ob.rows++fE s.data.toList⟩)
    (cs':=(L.toList.take ob.rows.length).toArray++(strCells s).toArray++Builtin.zeroCells (Value.int .u8 0).cells (grownCap w (ob.rows.length+s.size) m ob.ty - (ob.rows.length+s.size)))
    (w':=w.drew.alloc (.cells ((L.toList.take ob.rows.length).toArray++(strCells s).toArray++Builtin.zeroCells (Value.int .u8 0).cells (grownCap w (ob.rows.length+s.size) m ob.ty - (ob.rows.length+s.size))) ob.ty)) hr rfl rfl rfl rfl
    (fun o' J=>by rw[U]at J;cases J;simp) Nat.zero_lt_one (by
     simp only[Array.size_append,List.size_toArray,size_zeroCells,hz1,B,aCt,Array.length_toList];omega) (by simp only[aCg,f];exact hge) Y hrl (fun i' r C k a' F=>by
      obtain ⟨u,q1,q2,q3⟩:=sR.app (l3:=(Builtin.zeroCells (Value.int .u8 0).cells (grownCap w (ob.rows.length+s.size) m ob.ty - (ob.rows.length+s.size))).toList) X t (BN (H:=H) s) i' r C k a' F;refine⟨u,?_,q2,q3⟩;rw[<-Array.getElem?_toList]
      simpa[List.append_assoc]using q1) W h2
   exact R _ _ _ (by rw[c2];exact l) (.osl _ W (aCl _) rfl fun _=>⟨Nat.zero_lt_one,by simp[f],.inl ⟨w.heap.size,_,0,by simp;rfl,by simp,fun _=>by simp⟩⟩) M O
  rw[c1]at Z;cases Z
 have D:ob.rows=[]:=List.eq_nil_of_length_eq_zero c4;by_cases h0:s.size=0
 ·have hb0:fE s.data.toList=[]:=List.eq_nil_of_length_eq_zero (by rw[f];exact h0);have l:(Builtin.append_ #[T,S] o.type #[.slice none 0 0,.string s]).run P w=.ok (.slice none 0 0) w:=by
   have hf:=run_firstCells_string (P:=P) w 1 s;rw[h0]at hf;simp[Builtin.append_,run_underlying hT,run_underlying hS,sizeOf,typeInfo,hi,A,Builtin.lenOf,h0,hf]
  obtain ⟨M,O⟩:=Rel.tick (H':=H.set id ⟨ob.g+1,1,ob.ty,ob.rows++fE s.data.toList⟩) (ob':=⟨ob.g+1,1,ob.ty,ob.rows++fE s.data.toList⟩) hr U (by simp) q.symm rfl (by simp[hb0]) W h2;exact R _ _ ι (by rw[c2];exact l) (.osl _ W (aCl _) rfl fun _=>⟨Nat.zero_lt_one,by simp[f],.inr ⟨c1,rfl,rfl,by simp[D,h0]⟩⟩) M O
 have hr0:=run_append_nil_string (P:=P) w T S o.type ob.ty i (.int .u8 0) hT hS hi hzi s (by omega) (by omega) (by rw[hby];omega);have B:(strCells s).length=s.size:=strCells_length s;have Z:(s.data.map fun b=>Value.int .u8 b.toNat)=(strCells s).toArray:=by
  apply Array.ext';simp[strCells]
 rw[Z]at hr0;have hml0:s.size<=maxLen:=by omega
 have hge:=grownCap_ge w s.size 0 ob.ty;have Y:=grownCap_le_maxLen w s.size 0 ob.ty hml0;have hz1:(Value.int IntKind.u8 0).cells.size=1:=rfl;obtain ⟨M,O⟩:=Rel.place (H':=H.set id ⟨ob.g+1,1,ob.ty,ob.rows++fE s.data.toList⟩) (id:=id) (cap:=grownCap w s.size 0 ob.ty) (ob':=⟨ob.g+1,1,ob.ty,ob.rows++fE s.data.toList⟩)
  (cs':=(strCells s).toArray++Builtin.zeroCells (Value.int .u8 0).cells (grownCap w s.size 0 ob.ty - s.size))
  (w':=w.drew.alloc (.cells ((strCells s).toArray++Builtin.zeroCells (Value.int .u8 0).cells (grownCap w s.size 0 ob.ty - s.size)) ob.ty)) hr rfl rfl rfl rfl
  (fun o' J=>by rw[U]at J;cases J;simp) Nat.zero_lt_one (by
   simp only[Array.size_append,List.size_toArray,size_zeroCells,hz1,B];omega) (by simp only[aCg,f,D,List.length_nil,aCx];exact hge) Y hrl (fun i' r C k a' F=>by
    simp only[D,List.nil_append]at C;obtain ⟨u,q1,q2,q3⟩:=BN (w:=w) (I:=I) (ι:=ι) (H:=H) s i' r C k a' F;have hlt:=(aCj.1 q1).1;refine⟨u,?_,q2,q3⟩;rw[Array.getElem?_append_left (by simpa using hlt)]
    simpa using q1) W h2
 exact R _ _ _ (by rw[c2];exact hr0) (.osl _ W (aCl _) rfl fun _=>⟨Nat.zero_lt_one,by simp[f],.inl ⟨w.heap.size,_,0,by simp;rfl,by simp[D],fun _=>by simp⟩⟩) M O
theorem vM{e}{id g n k}{ob}{s}{rows'}(p:o.op=.call {callee:=.builtin .append,args:=#[x,y],argTypes:=#[T,S]})(l:fC P T e 1)(hS:P.underlying S=some .string)(d:EI P e 1 1)(h:∀i,P.info? e=some i->i.zero=some (.int .u8 0))
  (t:aO E x=some (.osl id g 0 n)) (m:H.get id=some ob) (v:ob.g=g) (b:ob.sz=1) (f:ob.ty=e) (q:ob.rows.length=n)
  (r:aO E y=some (.pv (.str s))) (c:n+s.size<=140737488355328) (u:n+s.size=k) (a:ob.rows++fE s.data.toList=rows') :
  cK P N o E H (.osl id (g+1) 0 k) ((id,⟨g+1,1,e,rows'⟩)::H):=by
 subst u a;exact cK.congr (PI p l.1 hS d.1 h t m v b f q r c rfl) (fun j=>wU _ _ _ j)
end
end
section
section
variable{P:Program}
def GS(ob:Ob):Ob:=⟨ob.g+1,ob.sz,ob.ty,[]⟩
def uO(ι:lR)(id:Nat):lR:=fun x=>if x=id then none else ι x
theorem Step.dead{w}{I}{ι}{H}{id}{ob}(g:H.get id=some ob):Step I ι H w (pX I ι id) (uO ι id) ((id,GS ob)::H) w where
 os:=rfl
 tape:=rfl
 output:=rfl
 size:=aCl _
 froz:=fun _ _ _=>rfl
 imm:=fun _ h=>.inl h
 immNew:=fun b c=>by
  rcases c with c|⟨a,c⟩
  ·simp_all
  exact .inr (.inl ⟨id,ob,a,g,c⟩)
 own:=fun b c=>by
  obtain ⟨j,o,a,d,f⟩:=c;by_cases e:j=id
  ·rw[uO,aCe e]at f;cases f
  rw[uO,aCd e]at f;rw[get_cons_other _ _ e]at d;exact .inl ⟨j,o,a,d,f⟩
 keep:=fun _ _ _=>rfl
 objs:=fun j o d=>by
  by_cases e:j=id
  ·subst e;rw[g]at d;cases d;exact⟨GS _,get_cons_same _ _ _,Nat.le_succ _,fun h=>absurd h (by simp[GS])⟩
  exact⟨o,by rw[get_cons_other _ _ e];exact d,aCl _,fun _=>⟨aCd e,rfl,fun _=>aCl _⟩⟩
theorem Rel.dead{I}(g:Rel I ι H w)(s:H.get id=some ob)(q:0<ob.sz):Rel (pX I ι id) (uO ι id) ((id,GS ob)::H) w:=by
 have p:=Step.dead (w:=w) (I:=I) (ι:=ι) s;refine⟨fun b d=>?_,fun j o f=>?_,fun j u o z b c y f m n i=>?_,g.glob.mono (fun _ _=>rfl) (fun _ h=>.inl h)⟩
 ·rcases d with d|⟨k,d⟩
  ·exact g.imm b d
  exact g.lt ⟨id,ob,k,s,d⟩
 ·by_cases e:j=id
  ·subst e;rw[get_cons_same]at f;cases f;exact .inl ⟨q,by simp[GS],.inr ⟨aCe rfl,rfl⟩⟩
  rw[get_cons_other _ _ e]at f;refine(g.obj j o f).keep (aCd e) (fun b k B _=>⟨rfl,fun h=>?_⟩) (fun r _ a _ v A=>A.mono g p);rintro(d|⟨l,d⟩)
  ·grind
  exact e (g.inj j id o ob b k l f s B d)
 have x:j≠id:=fun e=>by rw[uO,aCe e]at n;cases n
 have t:u≠id:=fun e=>by rw[uO]at i;grind
 rw[uO,aCd x]at n;rw[uO,aCd t]at i;rw[get_cons_other _ _ x]at f;rw[get_cons_other _ _ t]at m;exact g.inj j u o z b c y f m n i
theorem aW.retire{f:FuncId}{args args':List AV}{Q}(ps:List (List PV))(h:aW P f args' ((id,GS ob)::H) Q)(l:H.get id=some ob)(hsz:Nat.blt 0 ob.sz=true)(m:ob.rows=ps.map (·.map .pv))
  (hl:args.length=args'.length) (x:∀(i:Nat) (a a':AV),args[i]?=some a->args'[i]?=some a'->a=a'\/∃off len,a=.osl id ob.g off len/\a'=.pv (.sl ((ps.take (off+len)).drop off))):aW P f args H Q:=by
 intro I o w z k hlen u;have g:=Step.dead (w:=w) (I:=I) (ι:=o) l;refine(h _ _ w z (k.dead l (by simp_all)) (by omega) ?_).mono ?_
 ·intro i v a' y c;have d:i<args.length:=by
   have:=(aCj.1 c).1;omega
  have b:=u i v _ y (aCk d);rcases x i _ a' (aCk d) c with e|⟨off,len,B,C⟩
  ·rw[e]at b;exact b.mono k g
  rw[B]at b;rw[C];exact .pv (D0 k l m b)
 rintro e w' ⟨r,s,n,j,v,rfl,q,p,t,A⟩;exact⟨r,s,n,j,v,rfl,q,p,t,g.trans A⟩
end
end
section
def Cz(v:Value):Prop:=∃p,v=.pointer p
theorem Z6{P}{e}{s}(c:P.cellsOf e=s+1)(a)(d:1<=a):liesAt P P.depth e a 0 e 1=true:=by have b:P.depth=(2*(P.types.size+Made.depth)+1)+1:=rfl;rw[b];simp[liesAt,Bool.or_eq_true];rw[b];simp[rowAt,c,d,sameLayout]
theorem JZ{I}{ι}{H}{w}{v}{id g}{ob}(k:Rel I ι H w)(h:VRel w I ι H v (.ref id g 0 0))(c:H.get id=some ob)(f:ob.g=g)(d:ob.rows≠[]):
  ∃b cap,v=.pointer (some ⟨b,0,none⟩)/\w.shape? b=some (ob.ty,cap*ob.sz)/\0<cap/\0<ob.sz:=by
 obtain ⟨b,cap,i,e2⟩:=oP h c f;have e:=OY h c f;obtain ⟨_,_,⟨b',cap',cs,a,l,f3,j,f5,_⟩|⟨a,_⟩⟩:=(k.obj _ _ c).cells e
 ·rw[i]at a;cases a;refine⟨b,cap,by simp_all,by simp[World.shape?,l,j],?_,e⟩;have:=List.length_pos_iff.2 d;omega
 rw[i]at a;cases a
theorem VRel.sat_inv{w}{I}{ι}{H}{v}{p}(h:VRel w I ι H v (.pv (.sat p))):p v:=by
 have:=h.pv_inv;cases this with
 |sat h1 a=>exact a
section
variable{P:Program}{N:Nat}{o:Oper}{E:dC}{S T t t' e:TypeId}{x y:Operand}{id g n:Nat}
theorem AW{P:Program}{t}{n}(h:(P.info? t).map (·.size)=some n):∃j,P.info? t=some j/\j.size=n:=by simp_all
theorem FU(i:o.op=.convert S T x)(hS:P.underlying S=some (.pointer t))(v:P.underlying T=some .unsafePointer)(hi:(P.info? t).map (·.size)=some (n+1))(k:aO E x=some (.ref id g 0 0))(s:H.get id=some ob)(h:ob.g=g)(d:ob.rows≠[]):cK P N o E H (.ref id g 0 0) H :=.of_run fun a w I ι l z=>by
  have f:=aI z k;obtain ⟨b,cap,q,m,p,r⟩:=JZ l f s h d;obtain ⟨j,u,h2⟩:=AW hi;have c:=Nat.mul_pos p r;refine⟨_,?_,f⟩;simp only[execOp,i,q];rw[Sem.run_bind,Lib.run_to_unsafe w _ hS v u (by omega) m c];rfl
theorem MM(r:o.op=.convert S T x)(hS:P.underlying S=some .unsafePointer)(z:P.underlying T=some (.pointer t))(hi:(P.info? t).map (·.size)=some (n+1))(s:aO E x=some (.ref id g 0 0))(q:H.get id=some ob)(B:ob.g=g)(c:ob.rows≠[])(d:ob.ty=t)(f:ob.sz=n+1):cK P N o E H (.ref id g 0 0) H :=.of_run fun a w I ι u A=>by
  have k:=aI A s;obtain ⟨b,cap,v,i,p,e4⟩:=JZ u k q B c;obtain ⟨j,l,m⟩:=AW hi;have h:P.cellsOf t=n+1:=by simp[Program.cellsOf,l,m]
  refine⟨_,?_,k⟩;simp only[execOp,r,v];rw[d]at i;rw[Sem.run_bind,Lib.run_from_unsafe w ⟨b,0,none⟩ hS z l i (Z6 h _ (by rw[h,f,Nat.mul_div_cancel _ (by omega)];exact p))];rfl
theorem IA{i k}(r:o.op=.binOp .neq t x y t')(s:P.underlying t=some (.pointer e))(hi:(P.info? e).map (·.size)=some (n+1))(m:aO E x=some (.ref id g i k))(v:aO E y=some (.ref id g i k))(f:H.get id=some ob)(c:ob.g=g):cK P N o E H (.pv (.bool false)) H :=.of_run fun a w I ι _ h=>⟨.bool _,by
  obtain ⟨b,cap,p,l⟩:=oP (aI h m) f c;obtain ⟨b',cap',d,q⟩:=oP (aI h v) f c;rw[p]at d;cases d;obtain ⟨j,u,h2⟩:=AW hi;simp[execOp,r,l,q,eqGuard_at_pointer,Sem.run_bind,Sem.run_pure,Result.andThen_ok,Lib.run_neq_ptr_same w _ s u],.pv (.bool _)⟩
theorem aw(v):Ox P Extern.AbiNoEscape.same H [v] v:=by
 intro w I ι b a h;obtain ⟨l⟩:=b
 match l,a with
 | [u],_=>exact⟨u,rfl,h 0 u v rfl rfl⟩
theorem FW(l:o.op=.call {callee:=.builtin .unsafeSliceData,args:=#[x],argTypes:=#[T]})(q:aO E x=some (.osl id g 0 n))(f:H.get id=some ob)(h:ob.g=g)(hn:0<n):cK P N o E H (.ref id g 0 0) H :=.of_run fun a w I ι r s=>by
  have k:=aI s q;have j:=pA k f h;obtain ⟨hl,⟨b,c,oo,i,m,e3⟩|⟨_,_,_,e4⟩⟩:=kB k f h
  ·obtain ⟨_,_,⟨b',cap',cs,d,f2,f3,f4,f5,_⟩|⟨d,_⟩⟩:=(r.obj _ _ f).cells j
   ·rw[i]at d;cases d;refine⟨.pointer (some ⟨b,0,none⟩),?_,.ref _ f (Nat.le_of_eq h.symm) rfl fun _=>⟨j,b,c,i,by simp⟩⟩;have p:c≠0:=by omega
    simp[execOp,l,resolve,invoke,builtin,m,Lib.run_unsafeSliceData_row w _ _ _ _ _ p]
   rw[i]at d;cases d
  omega
theorem DM(G:o.op=.call {callee:=.builtin .unsafeSliceData,args:=#[x],argTypes:=#[T]})(J:P.underlying o.type=some (.pointer e))(L:aO E x=some (.osl id g 0 0))(r:H.get id=some ob)(D:ob.g=g):cK P N o E H (.pv (.sat Cz)) H:=by
 intro a w I l _ _ m U K Q M;have F:=aI U L;have V:=pA F r D;have d:∀(c:Value) (f:World),(Builtin.unsafeSliceData_ #[T] o.type #[a.eval x]).run P w=.ok c f->Cz c->Rel I l H f->Step I l H w I l H f->o.wpW P a w K Q:=fun c f j q u v=>by
  have h:c.oneCell'=true:=by obtain ⟨p,rfl⟩:=q;rfl
  unfold Oper.wpW;have:(execOp a.eval o).run P w=.ok (.value c) f:=by
   simp[execOp,G,resolve,invoke,builtin,j]
  rw[this];exact M c f I l _ H ⟨rfl,rfl⟩ (.pv (.sat h q)) u v
 obtain ⟨hl,⟨b,B,s,C,k,e3⟩|⟨_,k,_,e4⟩⟩:=kB F r D
 ·by_cases q:B=0
  ·obtain ⟨_,_,⟨b',cap',R,i,O,f3,f4,f5,_⟩|⟨i,_⟩⟩:=(m.obj id ob r).cells V
   ·rw[C]at i;cases i;obtain ⟨u,v⟩:=m.push _;refine d (.pointer (some ⟨w.heap.size,0,none⟩)) _ ?_ ⟨_,rfl⟩ u v;rw[k,q];exact Lib.run_unsafeSliceData_zero w #[T] o.type e J ⟨b,s,none⟩ 0 (ob.ty,R.size) (by simp[World.shape?,O])
   rw[C]at i;cases i
  refine d (.pointer (some ⟨b,s,none⟩)) _ ?_ ⟨_,rfl⟩ m (Step.refl _ _ _ _);rw[k];exact Lib.run_unsafeSliceData_row w #[T] o.type ⟨b,s,none⟩ 0 _ (by omega)
 refine d (.pointer none) _ ?_ ⟨_,rfl⟩ m (Step.refl _ _ _ _);rw[k];rfl
theorem yK{c}(d:o.op=.call {callee:=.builtin .unsafeString,args:=#[x,y],argTypes:=#[T,c]})(h:aO E x=some (.pv (.sat Cz)))(f:aO E y=some (.pv (.int .i64 0))):cK P N o E H (.pv (.str ⟨#[]⟩)) H :=.of_run fun a w I ι hr b=>by
  have j:=(aI b f).int_inv;have i:=(aI b h).sat_inv;obtain ⟨p,k⟩:=i;refine⟨_,?_,.pv (.str _)⟩;simp[execOp,d,resolve,invoke,builtin,k,j,Lib.run_unsafeString_none w T _ _ p];rfl
theorem Rel.lost{I:Nat->Prop}{w':World}{b cap:Nat}(q:Rel I ι H w)(D:H.get id=some ob)(U:0<ob.sz)(u:ι id=some (b,cap))(C:w'.os=w.os)(m:w'.tape=w.tape)(s:w'.output=w.output)(l:w'.heap.size=w.heap.size)
  (F:∀c,c≠b->w'.heap[c]?=w.heap[c]?):Rel I (uO ι id) ((id,GS ob)::H) w'/\Step I ι H w I (uO ι id) ((id,GS ob)::H) w':=by
 have B:MW ι H b:=⟨id,ob,cap,D,u⟩;have p:Step I ι H w I (uO ι id) ((id,GS ob)::H) w':=by
  refine⟨C,m,s,by omega,fun a _ J=>?_,fun _ h=>h,fun _ h=>.inl h,fun c z=>?_,fun c _ J=>F c (fun e=>J (e▸B)),fun j o f=>?_⟩
  ·unfold World.frozen?
   grind
  ·obtain ⟨j,o,O,f,i⟩:=z;by_cases e:j=id
   ·rw[uO,aCe e]at i;cases i
   rw[uO,aCd e]at i;rw[get_cons_other _ _ e]at f;exact .inl ⟨j,o,O,f,i⟩
  by_cases e:j=id
  ·subst e;rw[D]at f;cases f;exact⟨GS ob,get_cons_same _ _ _,Nat.le_succ _,fun h=>absurd h (by simp[GS])⟩
  exact⟨o,by rw[get_cons_other _ _ e];exact f,aCl _,fun _=>⟨aCd e,rfl,fun _=>aCl _⟩⟩
 refine⟨⟨fun c z=>by rw[l];exact q.imm c z,fun j o f=>?_,fun j L o V c d Q f A i k=>?_,p.glob q⟩,p⟩
 ·by_cases e:j=id
  ·subst e;rw[get_cons_same]at f;cases f;exact .inl ⟨U,by simp[GS],.inr ⟨aCe rfl,rfl⟩⟩
  rw[get_cons_other _ _ e]at f;exact(q.obj j o f).keep (aCd e) (fun c d R _=>⟨F c (fun z=>e (q.inj j id o ob b d cap f D (by rw[<-z];exact R) u)),fun h=>h⟩) (fun r _ a _ v M=>M.mono q p)
 have K:j≠id:=fun e=>by rw[uO,aCe e]at i;cases i
 have G:L≠id:=fun e=>by rw[uO,aCe e]at k;cases k
 rw[uO,aCd K]at i;rw[uO,aCd G]at k;rw[get_cons_other _ _ K]at f;rw[get_cons_other _ _ G]at A;exact q.inj j L o V c d Q f A i k
theorem AH{z:TypeId}{l:List UInt8}(V:o.op=.call {callee:=.builtin .unsafeString,args:=#[x,y],argTypes:=#[T,z]})(Y:P.underlying T=some (.pointer e))(hi:(P.info? e).map (·.size)=some 1)(W:aO E x=some (.ref id g 0 0))(hy:aO E y=some (.pv (.int .i64 n)))
  (q:H.get id=some ob) (hg:ob.g=g) (h:ob.sz=1) (r:ob.ty=e) (d:ob.rows=fE l) (X:l.length=n) (hn:0<n) (p:n<=9223372036854775807) (U:(⟨l.toArray⟩:ByteArray)=s):cK P N o E H (.pv (.str s)) ((id,GS ob)::H):=by
 subst U X;intro a w I G _ _ B F K Q hk;have O:=aI F W;obtain ⟨b,cap,m,C⟩:=oP O q hg;have J:=(aI F hy).int_inv;obtain ⟨j,h3,R⟩:=AW hi;have Z:P.cellsOf e=1:=by simp[Program.cellsOf,h3,R]
 have hlen:ob.rows.length=l.length:=by rw[d];simp[fE]
 obtain ⟨_,_,⟨b',cap',A,k,D,f3,L,f5,_,f6⟩|⟨k,_⟩⟩:=(B.obj id ob q).cells (by omega)
 ·rw[m]at k;cases k;rw[h,Nat.mul_one]at L;have f:∀j x,l[j]?=some x->w.cell? ((⟨b,0,none⟩:Addr).add j)=some (.int .u8 x.toNat):=fun j x hj=>by
   obtain ⟨v,u,_,q3⟩:=f6 j [.pv (.int .u8 x.toNat)] (by rw[d,fE,aCz,hj];rfl) 0 _ rfl;rw[h,Nat.mul_one,Nat.add_zero,q3.int_inv]at u;rw[Addr.add_lit,aCx,cell_of_row w b _ A ob.ty (0,0) D];exact u
  have i:=Lib.run_unsafeString_row (P:=P) w T z o.type e Y Z b A.size (by rw[<-r];simp[World.shape?,D]) l (fun h0=>by simp_all) (by omega) p f;have M:∀c,c≠b->(w.freeze ⟨b,0,none⟩ l.length).heap[c]?=w.heap[c]?:=fun c hcb=>by
   unfold World.freeze
   grind
  obtain ⟨k1,k2⟩:=B.lost (w':=w.freeze ⟨b,0,none⟩ l.length) q (by omega) m (by unfold World.freeze;all_goals grind) (by unfold World.freeze;all_goals grind) (by unfold World.freeze;all_goals grind) (by unfold World.freeze;split<;>simp) M;unfold Oper.wpW;have:(execOp a.eval o).run P w=.ok (.value (.string ⟨l.toArray⟩)) (w.freeze ⟨b,0,none⟩ l.length):=by
   rw[h]at C;simp[execOp,V,resolve,invoke,builtin,C,J,i]
  rw[this];exact hk _ _ I (uO G id) _ _ ⟨rfl,rfl⟩ (.pv (.str _)) k1 k2
 rw[m]at k;cases k
end
end
end Go.Abs
