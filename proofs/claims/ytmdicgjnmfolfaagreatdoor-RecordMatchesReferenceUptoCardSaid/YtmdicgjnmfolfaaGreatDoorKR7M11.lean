/-
  Parts of the proof: rules of a program logic, contracts, plain laws. Conditions: each theorem's own.
-/
import Derived.Test.YtmdicgjnmfolfaaGreatDoorKR7M10
set_option linter.unusedVariables false
set_option linter.unusedSimpArgs false
set_option maxRecDepth 100000
set_option maxHeartbeats 8000000
namespace Go.Proofs
open Tryz
theorem aC1:type_of% call18:=call18
theorem vq:type_of% call184:=call184
theorem zN:type_of% call185:=call185
theorem FO:type_of% call186:=call186
theorem aBl:type_of% call187:=call187
theorem XW:type_of% call19:=call19
theorem aBj:type_of% call244:=call244
theorem FM:type_of% isAgg37:=isAgg37
theorem wC:type_of% sizeOf37:=sizeOf37
end Go.Proofs
namespace Go.Proofs.YtmdicgjnmfolfaaGreatDoor
open Go.Proofs.Tryz
open Go.Abs
variable{α:Type}{r x:GRec}{s:ByteArray}{h:Int}
def ud(a b:GEdit):Bool:=((((((!decide (a.op=b.op)||!decide (a.id=b.id))||!decide (a.other=b.other))||!decide (a.node=b.node))||!(decide (a.x=b.x)&&decide (a.y=b.y)))||!decide (a.key=b.key))||!decide (a.val=b.val))||!decide (((a.refs.map encStr).length:Int)=((b.refs.map encStr).length:Int))
def bj(a b:GEdit):Bool:=(((((((decide (a.op=b.op)&&decide (a.id=b.id))&&decide (a.other=b.other))&&decide (a.node=b.node))&&(decide (a.x=b.x)&&decide (a.y=b.y)))&&decide (a.key=b.key))&&decide (a.val=b.val))&&decide (a.refs=b.refs))&&sF a.obj b.obj
theorem I0{a b}:bj a b=true↔a=b:=by obtain ⟨a1,a2,a3,a4,a5,a6,a7,a8,a9,a10⟩:=a;obtain ⟨b1,b2,b3,b4,b5,b6,b7,b8,b9,b10⟩:=b;simp[bj,aCo,aCm,CC,GEdit.mk.injEq,and_assoc]
theorem Na{a b}(h:ud a b=true):bj a b=false:=by
 cases e:bj a b with
 |false=>rfl
 |true =>
  have:=I0.1 e;subst this;simp[ud]at h
theorem En{a b}(h:ud a b=false):a.refs.length=b.refs.length/\∀r,(decide (a.refs=b.refs)&&sF a.obj b.obj)=r->bj a b=r:=by simp[ud,aDB,Bool.not_eq_false',aCm,aCo,aCf]at h;obtain ⟨⟨⟨⟨⟨⟨⟨l,j⟩,d⟩,i⟩,c,f⟩,k⟩,g⟩,h9⟩:=h;refine⟨by omega,fun r e=>?_⟩;rw[bj,decide_eq_true l,decide_eq_true j,decide_eq_true d,decide_eq_true i,decide_eq_true c,decide_eq_true f,decide_eq_true k,decide_eq_true g];exact e
theorem rh(a b:GEdit)(H:aG)(B:KD a)(G:KD b):RC 138 [av (aZ a),av (aZ b)] (bv (bj a b)) H:=by
 refine aW.pure ?_ (by simp_all) H;have hra:(a.refs.map encStr).length=a.refs.length:=aCf _;have hrb:(b.refs.map encStr).length=b.refs.length:=aCf _;have hla:=B.2.1.1;have hlb:=G.2.1.1;have hX:ud a b=(((((((!decide (a.op=b.op)||!decide (a.id=b.id))||!decide (a.other=b.other))||!decide (a.node=b.node))||!(decide (a.x=b.x)&&decide (a.y=b.y)))||!decide (a.key=b.key))||!decide (a.val=b.val))||!decide (((a.refs.map encStr).length:Int)=((b.refs.map encStr).length:Int))):=rfl;have hso:=fun H=>mo a.obj b.obj H B.2.2.2.2.1 B.2.2.2.1.1;obtain ⟨so,hsoE⟩:∃so,so=sF a.obj b.obj:=⟨_,rfl⟩;have hyes:=fun h=>En (a:=a) (b:=b) h;rw[<-hsoE]at hso hyes;clear hsoE;refine Bd func138 rfl ntmps138<|Sd (kb 2)<|Dd (kb 3)<|Zd aH<|Sq<|Sq ?_;refine aQ (t:=61) (n:=63) (X:=ud a b) ?_ ?_
 ·all_goals refine Dd (aV gN) ?_
  all_goals refine Dd (bD isAgg3)<|Dd (aV gN)<|Dd (bD isAgg3)<|Dd rI<|Dm ?_<;>(refine Sp 11 (fun C=>?_) fun C=>?_)<;>(first|contradiction|refine Fo<|Fo<|Fo<|Fo<|Fo ?_|refine On (aV iE)<|On (bD isAgg9)<|On (aV iE)<|On (bD isAgg9)<|On DH ?_)<;>refine Dd cD<|Dm ?_<;>(refine Sp 18 (fun h18=>?_) fun h18=>?_)<;>(first|contradiction|refine Fo<|Fo<|Fo<|Fo<|Fo ?_|refine On (aV iL)<|On (bD isAgg9)<|On (aV iL)<|On (bD isAgg9)<|On DH ?_)<;>refine Dd cD<|Dm ?_<;>(refine Sp 25 (fun h25=>?_) fun h25=>?_)<;>(first|contradiction|refine Fo<|Fo<|Fo<|Fo<|Fo ?_|refine On (aV nC)<|On (bD isAgg9)<|On (aV nC)<|On (bD isAgg9)<|On DH ?_)<;>refine Dd cD<|Dm ?_<;>(refine Sp 32 (fun D=>?_) fun D=>?_)<;>(first|contradiction|refine Fo<|Fo<|Fo<|Fo<|Fo ?_|refine On (aV iD)<|On (by exact aM rfl dO sizeOf68 rfl rfl rfl rfl (by simp only[Zl,aZ];rfl) rfl)<|On (aV iD)<|On (by exact aM rfl dO sizeOf68 rfl rfl rfl rfl (by simp only[Zl,aZ];rfl) rfl)<|On (by exact AJ rfl rfl rfl rfl rfl iV (VR _ _ _ _)) ?_)<;>refine Dd cD<|Dm ?_<;>(refine Sp 39 (fun h39=>?_) fun h39=>?_)<;>(first|contradiction|refine Fo<|Fo<|Fo<|Fo<|Fo ?_|refine On (aV kQ)<|On (bD isAgg9)<|On (aV kQ)<|On (bD isAgg9)<|On DH ?_)<;>refine Dd cD<|Dm ?_<;>(refine Sp 46 (fun p=>?_) fun p=>?_)<;>(first|contradiction|refine Fo<|Fo<|Fo<|Fo<|Fo ?_|refine On (aV lG)<|On (bD isAgg9)<|On (aV lG)<|On (bD isAgg9)<|On DH ?_)<;>refine Dd cD<|Dm ?_<;>(refine Sp 53 (fun h53=>?_) fun h53=>?_)<;>(first|contradiction|refine Fo<|Fo<|Fo<|Fo<|Fo<|Fo<|Fo ?_|refine On (aV fB)<|On (bD aF)<|On (eR aD)<|On (aV fB)<|On (bD aF)<|On (eR aD)<|On rI ?_)<;>refine Zd cD ?_<;>(exact⟨⟨_,rfl,by simp_all⟩,rfl,rfl,rfl⟩)
 refine Cn ?_ ?_<;>intro m
 ·rw[Na m];exact Sz aH<|aB<|Rt<|Qq
 obtain ⟨hl,hyes⟩:=hyes m;refine aA<|Sq<|Sz aH<|aE ?_;refine bJ (σ:=Nat) (fun i=>([(2,.ref 2 0 0 0),(3,.ref 3 0 0 0),(5,iv (i:Int))],[(3,bx 15 153 ((aZ b).map .pv)),(2,bx 15 153 ((aZ a).map .pv))])) (fun i=>i<=a.refs.length/\a.refs.take i=b.refs.take i) (fun i=>a.refs.length - i) 0 ⟨by omega,rfl⟩ ?_ ?_
 ·exact Wk
 rintro i ⟨hi,I⟩;refine Sq<|Sd aC<|Dd (aV fB)<|Dd (bD aF)<|Dd (eR aD)<|Zd cJ ?_;refine Cn ?_ ?_<;>intro o
 ·have q:i<a.refs.length:=by have:=aCb o;omega
  obtain ⟨s,F⟩:=aT q;obtain ⟨u,E⟩:=aT (show i<b.refs.length by omega);have hi1:=cE (f:=encStr) F;have l:=cE (f:=encStr) E;refine aA<|Sq<|aE<|Sq<|aL follows<|Cq (aV fB)<|Cq (bD aF)<|Cq aC<|Cq (by exact bP rfl bT rfl rfl (by omega) (by rfl) hi1 rfl)<|Cq (fO isAgg9 (hi:=hi1))<|Cq (aV fB)<|Cq (bD aF)<|Cq aC<|Cq (by exact bP rfl bT rfl rfl (by omega) (by rfl) l rfl)<|Cq (fO isAgg9 (hi:=l))<|Cq DH<|bF<|Kr ?_;refine Cn ?_ ?_<;>intro n
  ·have hne:s≠u:=by have h:=n;intro e;simp_all
   rw[hyes false (by grind)];exact Sz aH<|aB<|Rt<|Qq
  have t:s=u:=by have h:=n;simpa using h
  refine aA<|Rd aC<|Dd kp<|Da ?_;exact⟨i+1,⟨by omega,BJ I F E t⟩,by omega,Wk⟩
 have hge:i=a.refs.length:=by have:=aCc o;omega
 rw[hyes so (by grind)];exact aS<|Sd (aV oV)<|Dd (by exact aM rfl bZ sizeOf151 rfl rfl rfl rfl (by simp only[Zl,aZ,bG];rfl) rfl)<|Dd (aV oV)<|Dd (by exact aM rfl bZ sizeOf151 rfl rfl rfl rfl (by simp only[Zl,aZ,bG];rfl) rfl)<|Dd (kc call179 (hso _))<|Zd aH<|aB<|Rt<|Qq
def CY:List GEdit->List GEdit->Bool
 | [],[]=>true
 |a::l,b::m=>bj a b&&CY l m
 |_,_=>false
theorem E9:∀ {a b},CY a b=true↔a=b
 | [],[]=>by simp[CY]
 |a::l,b::m=>by rw[CY,aCo,I0,E9,List.cons.injEq]
 | [],_::_=>by simp[CY]
 |_::_,[]=>by simp[CY]
theorem bg{a b}(h:a≠b):CY a b=false:=by
 cases e:CY a b with
 |false=>rfl
 |true=>exact absurd (E9.1 e) h
theorem VT(a b:List GEdit)(H:aG)(ha:a.length<4611686018427387904)(hb:b.length<4611686018427387904)(x:∀e∈a,KD e)(q:∀e∈b,KD e):RC 89 [.pv (fX a),.pv (fX b)] (bv (CY a b)) H:=by
 refine Pu ?_;have hma:(a.map aZ).length=a.length:=aCf _;have hmb:(b.map aZ).length=b.length:=aCf _;refine Bd func89 rfl ntmps89<|Sz aH<|Sq<|Sd aC<|Dd (eR cT)<|Dd aC<|Dd (eR cT)<|Zd rI ?_;refine Cn ?_ ?_<;>intro j
 ·have f:a≠b:=by have h:=j;intro e;simp_all
  rw[bg f];exact Sz aH<|aB<|Rt<|Qq
 have z:a.length=b.length:=by have h:=j;simp only[Bool.not_eq_false',aCm]at h;omega
 refine aA<|Sq<|Sz aH<|aE ?_;refine bJ (σ:=Nat) (fun i=>([(0,.pv (fX a)),(1,.pv (fX b)),(5,iv (i:Int))],[])) (fun i=>i<=a.length/\a.take i=b.take i) (fun i=>a.length - i) 0 ⟨by omega,rfl⟩ ?_ ?_
 ·exact Wk
 rintro i ⟨hi,y⟩;refine Sq<|Sd aC<|Dd aC<|Dd (eR cT)<|Zd cJ ?_;refine Cn ?_ ?_<;>intro l
 ·have p:i<a.length:=by have:=aCb l;omega
  obtain ⟨s,o⟩:=aT p;obtain ⟨u,n⟩:=aT (show i<b.length by omega);have k:=cE (f:=aZ) o;have m:=cE (f:=aZ) n;have t:=fun H=>rh s u H (x s (aCp o)) (q u (aCp n));refine aA<|Sq<|aE<|Sq<|aL follows<|Cq aC<|Cq aC<|Cq (by exact bP rfl OP rfl rfl (by omega) (by rfl) k rfl)<|Cq (by exact dM rfl bW aR rfl k rfl rfl)<|Cq aC<|Cq aC<|Cq (by exact bP rfl OP rfl rfl (by omega) (by rfl) m rfl)<|Cq (by exact dM rfl bW aR rfl m rfl rfl)<|Cq (kc call138 (t _))<|Cq iJ<|bF<|Kr ?_;refine Cn ?_ ?_<;>intro g
  ·have f:s≠u:=by have h:=not_not g;intro e;rw[I0.2 e]at h;cases h
   rw[bg (Bx o n f)];exact Sz aH<|aB<|Rt<|Qq
  have w:s=u:=I0.1 (nU g);refine aA<|Rd aC<|Dd kp<|Da ?_;exact⟨i+1,⟨by omega,BJ y o n w⟩,by omega,Wk⟩
 have v:i=a.length:=by have:=aCc l;omega
 rw[E9.2 (QG z v y)];exact aS<|Sz aH<|aB<|Rt<|Qq
def ZH(a b:GRec):Bool:=(((((((((decide (a.kind=b.kind)&&decide (a.author=b.author))&&decide (a.number=b.number))&&decide (a.clock=b.clock))&&decide (a.branch=b.branch))&&decide (a.parents=b.parents))&&CY a.edits b.edits)&&decide (a.target=b.target))&&(a.yes == b.yes))&&decide (a.order=b.order))&&decide (a.from'=b.from')
structure PubEq(a b:GRec):Prop where
 ki:a.kind=b.kind
 au:a.author=b.author
 nu:a.number=b.number
 cl:a.clock=b.clock
 br:a.branch=b.branch
 pa:a.parents=b.parents
 ed:a.edits=b.edits
 ta:a.target=b.target
 ye:a.yes=b.yes
 od:a.order=b.order
 fr:a.from'=b.from'
theorem Aj{a b}:ZH a b=true↔PubEq a b:=by simp[ZH,aCo,aCm,E9,beq_iff_eq];exact⟨fun⟨⟨⟨⟨⟨⟨⟨⟨⟨⟨m,j⟩,g⟩,i⟩,e⟩,f⟩,l⟩,h⟩,k⟩,d⟩,c⟩=>⟨m,j,g,i,e,f,l,h,k,d,c⟩,fun⟨m,j,g,i,e,f,l,h,k,d,c⟩=>⟨⟨⟨⟨⟨⟨⟨⟨⟨⟨m,j⟩,g⟩,i⟩,e⟩,f⟩,l⟩,h⟩,k⟩,d⟩,c⟩⟩
def ZZ(r:GRec):Prop:=(r.parents.length<4611686018427387904/\r.edits.length<4611686018427387904/\∀e∈r.edits,KD e)/\ZX r.sl/\ZX r.priv.sl/\r.priv.sources.length<4611686018427387904/\r.priv.trace.length<4611686018427387904
theorem IG{r}(h:gE r):ZZ r:=by obtain ⟨_,_,e,d,c,_,_,b,h5,a⟩:=h;exact⟨⟨by have:=e.1;omega,by omega,d.2⟩,ZW c,ZW a,by have:=b.1;omega,by omega⟩
theorem VS(a b:GRec)(H:aG)(j:ZZ a)(m:ZZ b):RC 26 [av (cC a),av (cC b)] (bv (ZH a b)) H:=by
 refine aW.pure ?_ (by simp_all) H;have n:=fun H=>yD a.parents b.parents H j.1.1 m.1.1;have hs2:=fun H=>VT a.edits b.edits H j.1.2.1 m.1.2.1 j.1.2.2 m.1.2.2;have u:ZH a b=((((((((((decide (a.kind=b.kind)&&decide (a.author=b.author))&&decide (a.number=b.number))&&decide (a.clock=b.clock))&&decide (a.branch=b.branch))&&decide (a.parents=b.parents))&&CY a.edits b.edits)&&decide (a.target=b.target))&&(a.yes == b.yes))&&decide (a.order=b.order))&&decide (a.from'=b.from')):=rfl;obtain ⟨t,hee⟩:∃t,t=CY a.edits b.edits:=⟨_,rfl⟩;rw[<-hee]at hs2 u;clear hee;refine Bd func26 rfl ntmps26<|Sd (kb 2)<|Dd (kb 3)<|Zd aH<|Sq ?_;refine aQ (t:=4) (n:=86) (X:=ZH a b) ?_ ?_
 ·all_goals refine Dd (aV mF) ?_
  all_goals refine Dd (bD isAgg3)<|Dd (aV mF)<|Dd (bD isAgg3)<|Dd cF<|Dm ?_<;>(refine Sp 10 (fun q=>?_) fun q=>?_)<;>(first|contradiction|refine Fo<|Fo<|Fo<|Fo<|Fo ?_|refine On (aV sJ)<|On (bD isAgg3)<|On (aV sJ)<|On (bD isAgg3)<|On cF ?_)<;>refine Dd cD<|Dm ?_<;>(refine Sp 17 (fun i=>?_) fun i=>?_)<;>(first|contradiction|refine Fo<|Fo<|Fo<|Fo<|Fo ?_|refine On (aV mE)<|On (bD isAgg3)<|On (aV mE)<|On (bD isAgg3)<|On cF ?_)<;>refine Dd cD<|Dm ?_<;>(refine Sp 24 (fun k=>?_) fun k=>?_)<;>(first|contradiction|refine Fo<|Fo<|Fo<|Fo<|Fo ?_|refine On (aV uZ)<|On (bD isAgg3)<|On (aV uZ)<|On (bD isAgg3)<|On cF ?_)<;>refine Dd cD<|Dm ?_<;>(refine Sp 31 (fun h31=>?_) fun h31=>?_)<;>(first|contradiction|refine Fo<|Fo<|Fo<|Fo<|Fo ?_|refine On (aV uY)<|On (bD isAgg9)<|On (aV uY)<|On (bD isAgg9)<|On vF ?_)<;>refine Dd cD<|Dm ?_<;>(refine Sp 38 (fun s=>?_) fun s=>?_)<;>(first|contradiction|refine Fo<|Fo<|Fo<|Fo<|Fo ?_|refine On (aV lM)<|On (bD aF)<|On (aV lM)<|On (bD aF)<|On (kc Hy (n _)) ?_)<;>refine Dd cD<|Dm ?_<;>(refine Sp 45 (fun p=>?_) fun p=>?_)<;>(first|contradiction|refine Fo<|Fo<|Fo<|Fo<|Fo ?_|refine On (aV uX)<|On (bD jJ)<|On (aV uX)<|On (bD jJ)<|On (kc call89 (hs2 _)) ?_)<;>refine Dd cD<|Dm ?_<;>(refine Sp 52 (fun h=>?_) fun h=>?_)<;>(first|contradiction|refine Fo<|Fo<|Fo<|Fo<|Fo ?_|refine On (aV uW)<|On (bD isAgg9)<|On (aV uW)<|On (bD isAgg9)<|On vF ?_)<;>refine Dd cD<|Dm ?_<;>(refine Sp 59 (fun g=>?_) fun g=>?_)<;>(first|contradiction|refine Fo<|Fo<|Fo<|Fo<|Fo ?_|refine On (aV CD)<|On (bD mN)<|On (aV CD)<|On (bD mN)<|On (by exact IF rfl eM rfl rfl) ?_)<;>refine Dd cD<|Dm ?_<;>(refine Sp 66 (fun o=>?_) fun o=>?_)<;>(first|contradiction|refine Fo<|Fo<|Fo<|Fo<|Fo ?_|refine On (aV tJ)<|On (bD isAgg3)<|On (aV tJ)<|On (bD isAgg3)<|On cF ?_)<;>refine Dd cD<|Dm ?_<;>(refine Sp 73 (fun l=>?_) fun l=>?_)<;>(first|contradiction|refine Fo<|Fo<|Fo<|Fo<|Fo ?_|refine On (aV pT)<|On (bD isAgg9)<|On (aV pT)<|On (bD isAgg9)<|On vF ?_)<;>refine Dd cD<|Da ?_<;>(exact⟨⟨_,rfl,by simp_all⟩,rfl,rfl,rfl⟩)
 exact aB<|Rt<|Qq
def zk(a b:GRec):Bool:=((ZH a b&&WC a.priv b.priv)&&decide (a.sl=b.sl))&&decide (a.priv.sl=b.priv.sl)
theorem Y6{a b}:zk a b=true↔a=b:=by
 simp[zk,WC,aCo,aCm,Aj];constructor
 ·rintro⟨⟨⟨⟨h1,h2,h3,h4,h5,h6,h7,h8,h9,h10,h11⟩,⟨⟨q1,q2⟩,q3⟩,q4⟩,h12⟩,h13⟩;obtain ⟨a1,a2,a3,a4,a5,a6,a7,a8,a9,a10,a11,a12,b1,b2,b3,b4,b5⟩:=a
  simp_all
 rintro rfl;exact⟨⟨⟨⟨rfl,rfl,rfl,rfl,rfl,rfl,rfl,rfl,rfl,rfl,rfl⟩,⟨⟨rfl,rfl⟩,rfl⟩,rfl⟩,rfl⟩,rfl⟩
theorem S5(a b:GRec)(H:aG)(f:ZZ a)(i:ZZ b):RC 18 [av (cC a),av (cC b)] (bv (zk a b)) H:=by
 refine aW.pure ?_ (by simp_all) H;have h:=fun H=>VS a b H f i;have e:=fun H=>RV a.priv b.priv H f.2.2.2.1 i.2.2.2.1 f.2.2.2.2;have m:=fun H=>OS a.sl b.sl H f.2.1 i.2.1;have k:=fun H=>OS a.priv.sl b.priv.sl H f.2.2.1 i.2.2.1;have n:zk a b=(((ZH a b&&WC a.priv b.priv)&&decide (a.sl=b.sl))&&decide (a.priv.sl=b.priv.sl)):=rfl;obtain ⟨p1,g⟩:∃p,p=ZH a b:=⟨_,rfl⟩;obtain ⟨p2,d⟩:∃p,p=WC a.priv b.priv:=⟨_,rfl⟩;rw[<-g]at h n;rw[<-d]at e n;clear g d;refine Bd func18 rfl ntmps18<|Sd (kb 2)<|Dd (kb 3)<|Zd aH<|Sq ?_;refine aQ (t:=4) (n:=30) (X:=zk a b) ?_ ?_
 ·all_goals refine Dd (kY aX aK) ?_
  all_goals refine Dd (kY aX aK)<|Dd (kc call26 (h _))<|Dm ?_<;>(refine Sp 8 (fun o=>?_) fun o=>?_)<;>(first|contradiction|refine Fo<|Fo<|Fo<|Fo<|Fo ?_|refine On (aV dV)<|On (kY iO sizeOf28)<|On (aV dV)<|On (kY iO sizeOf28)<|On (kc call27 (e _)) ?_)<;>refine Dd cD<|Dm ?_<;>(refine Sp 15 (fun l=>?_) fun l=>?_)<;>(first|contradiction|refine Fo<|Fo<|Fo<|Fo<|Fo ?_|refine On (aV jR)<|On (kY dK sizeOf25)<|On (aV jR)<|On (kY dK sizeOf25)<|On (kc call31 (m _)) ?_)<;>refine Dd cD<|Dm ?_<;>(refine Sp 22 (fun j=>?_) fun j=>?_)<;>(first|contradiction|refine Fo<|Fo<|Fo<|Fo<|Fo<|Fo<|Fo ?_|refine On (aV dV)<|On (aV lN)<|On (kY dK sizeOf25)<|On (aV dV)<|On (aV lN)<|On (kY dK sizeOf25)<|On (kc call31 (k _)) ?_)<;>refine Dd cD<|Da ?_<;>(exact⟨⟨_,rfl,by simp_all⟩,rfl,rfl,rfl⟩)
 exact aB<|Rt<|Qq
structure WRest where
 a:PV
 b:PV
 c:PV
 d:PV
 e:PV
def KX(w:WRest)(ks:List ByteArray):List PV:=[w.a,aU ks,w.b,w.c,w.d,w.e]
def Fc(r:GRec)(ks:List ByteArray):Bool:=!eJ r||decide (((ks.map encStr).length:Int)<=r.author)
def Hx(r:GRec)(key:ByteArray):Bool:=!decide (r.sl.idx=2*r.number - 2)||!uR key (sW r) r.sl.idx r.sl.sig r.sl.path
def Nv(r:GRec):Bool:=gL r.priv&&!qS r.priv.sl
def Nu(r:GRec)(key:ByteArray):Bool:=!gL r.priv&&(!decide (r.priv.sl.idx=2*r.number - 1)||!uR key (rJ r) r.priv.sl.idx r.priv.sl.sig r.priv.sl.path)
def qM(r:GRec)(ks:List ByteArray):Int:=if Fc r ks=true then 1 else if Hx r (ks.getD r.author.toNat sNil)=true then 16 else if Nv r=true then 16 else if Nu r (ks.getD r.author.toNat sNil)=true then 16 else 0
theorem I9(r:GRec)(w:WRest)(ks:List ByteArray)(L:gE r)(Q:r.parents.length<549755813888)(X:FH ks)(H:aG):RC 19 [av (cC r),av (KX w ks)] (iv (qM r ks)) H:=by
 refine aW.pure ?_ (by simp_all) H;have hkl:(ks.map encStr).length=ks.length:=aCf _;have hks:=X.1;have Y:=fun H=>HI r L Q H;have hid:=fun H=>UB r L Q H;have I:Fc r ks=(!eJ r||decide (((ks.map encStr).length:Int)<=r.author)):=rfl;rw[qM];refine Bd func19 rfl ntmps19<|Sd (kb 2)<|Dd (kb 3)<|Zd aH<|Sq<|Sq ?_;refine aQ (t:=17) (n:=12) (X:=Fc r ks) ?_ ?_
 ·all_goals refine Dd (kY aX aK) ?_
  all_goals refine Dd (kc XX (Y _))<|Dd iJ<|Dm ?_<;>(refine Sp 10 (fun M=>?_) fun M=>?_)<;>(first|contradiction|refine Fo<|Fo<|Fo<|Fo<|Fo<|Fo ?_|refine On (aV sJ)<|On (bD isAgg3)<|On (aV KV)<|On (bD aF)<|On (eR aD)<|On CX ?_)<;>refine Zd cD ?_<;>(exact⟨⟨_,rfl,by simp_all⟩,rfl,rfl,rfl⟩)
 refine Cn ?_ ?_<;>intro D
 ·rw[aCe D];exact Sz aH<|aB<|Rt<|Qq
 have O:=D;rw[aCd (by simp_all)];rw[I,aDB]at O;have V:=nU O.1;have hau:=aCc O.2;have K:=lY V;have hau0:=K.au;have hnu:=K.nu;have F:=fun H=>T1 r L Q V H;have hfs:=gO K.sl;have hfp:=gO K.psl;have i0:=hfs.i0;have i1:=hfs.i1;have q0:=hfp.i0;have q1:=hfp.i1;have hms:(rJ r).size=16:=gP _;have his:=IS r;have hix:(ks.map encStr)[r.author.toNat]?=some (encStr (ks.getD r.author.toNat sNil)):=by
  simp_all
 obtain ⟨key,hkey⟩:∃key,key=ks.getD r.author.toNat sNil:=⟨_,rfl⟩;rw[<-hkey]at hix |-;have hve1:=fun H=>SQ key (sW r) r.sl.idx r.sl.sig r.sl.path H (by omega) (by omega) (by omega) (hV hfs).2.1.1 (hV hfs).2.2.1 (hV hfs).2.1.2 (hV hfs).2.2.2;have hve2:=fun H=>SQ key (rJ r) r.priv.sl.idx r.priv.sl.sig r.priv.sl.path H (by omega) (by omega) (by omega) (hV hfp).2.1.1 (hV hfp).2.2.1 (hV hfp).2.1.2 (hV hfp).2.2.2;have hem:=fun H=>ou r.priv L.2.2.2.2.2 H;have G:=fun H=>wm r.priv.sl (hV hfp) H;have hckB:Hx r key=(!decide (r.sl.idx=2*r.number - 2)||!uR key (sW r) r.sl.idx r.sl.sig r.sl.path):=rfl;have hckC:Nv r=(gL r.priv&&!qS r.priv.sl):=rfl;have hckD:Nu r key=(!gL r.priv&&(!decide (r.priv.sl.idx=2*r.number - 1)||!uR key (rJ r) r.priv.sl.idx r.priv.sl.sig r.priv.sl.path)):=rfl;obtain ⟨T,hv1⟩:∃T,T=uR key (sW r) r.sl.idx r.sl.sig r.sl.path:=⟨_,rfl⟩;obtain ⟨U,hv2⟩:∃U,U=uR key (rJ r) r.priv.sl.idx r.priv.sl.sig r.priv.sl.path:=⟨_,rfl⟩;obtain ⟨P,hemE⟩:∃P,P=gL r.priv:=⟨_,rfl⟩;obtain ⟨W,hzeE⟩:∃W,W=qS r.priv.sl:=⟨_,rfl⟩;obtain ⟨i,S⟩:∃i,i=sW r:=⟨_,rfl⟩;obtain ⟨m,R⟩:∃m,m=rJ r:=⟨_,rfl⟩;rw[<-hv1]at hckB;rw[<-hv2]at hckD;rw[<-hemE]at hckC hckD;rw[<-hzeE]at hckC;simp only[<-hv1]at hve1;simp only[<-hv2]at hve2;simp only[<-S]at hid hve1;simp only[<-R]at F hve2;simp only[<-hemE]at hem;simp only[<-hzeE]at G;clear hv1 hv2 hemE hzeE S R hkey;refine aA<|Sq<|aL follows<|Cr [3] (fun _ h=>fh KV h)<|Cr [3] (fun _ h=>lh aF h)<|Cr [2] (fun _ h=>fh sJ h)<|Cr [2] (fun _ h=>lh isAgg3 h)<|Cr [] (fun N hH=>by exact bP rfl bT rfl rfl (by omega) (by rfl) hix rfl)<|Cr [] (fun _ _=>(fO isAgg9 (hi:=hix)))<|Cr [2] (fun _ h=>fh dV h)<|Cr [2] (fun N hH=>by exact aM rfl iO sizeOf28 rfl ((hH _ rfl).trans rfl) rfl rfl rfl rfl)<|Cp [6] (fun N hH=>by exact BB (id:=6) rfl Qw rfl ((hH _ rfl).trans rfl))<|Cr [] (fun _ _=>aH)<|Cp [6] (fun _ h=>sa sizeOf28 h)<|bF<|Kr<|Sq<|aE<|Sq ?_;refine kH (t:=26) (n:=18) (X:=Hx r key) ?_ ?_
 ·cases hg35:(!decide (r.sl.idx=2*r.number - 2):Bool)
  ·refine aL follows<|Cq (aV jR)<|Cq (aV iC)<|Cq (bD isAgg3)<|Cq (aV mE)<|Cq (bD isAgg3)<|Cq (by exact iY rfl rfl rfl (lI (by omega) (by omega)))<|Cq (by exact dB rfl rfl rfl (lI (by omega) (by omega)))<|Cq rI<|Cq aC<|Nf aC<|Nf (kY aX aK)<|Nf (kc JQ (hid _))<|Nf (aV jR)<|Nf (kY dK sizeOf25)<|Nf (kc call28 (hve1 _))<|Nf iJ<|Cq nT<|Cq aH<|bF<|Kr ?_;exact⟨rfl,⟨_,rfl,by(rw[hckB,hg35];rfl)⟩,rfl,rfl,rfl⟩
  refine aL follows<|Cq (aV jR)<|Cq (aV iC)<|Cq (bD isAgg3)<|Cq (aV mE)<|Cq (bD isAgg3)<|Cq (by exact iY rfl rfl rfl (lI (by omega) (by omega)))<|Cq (by exact dB rfl rfl rfl (lI (by omega) (by omega)))<|Cq rI<|Cq aC<|Of<|Of<|Of<|Of<|Of<|Of<|Of<|Cq xX<|Cq aH<|bF<|Kr ?_;exact⟨rfl,⟨_,rfl,by(rw[hckB,hg35];rfl)⟩,rfl,rfl,rfl⟩
 refine Cn ?_ ?_<;>intro J
 ·rw[aCe J];exact Sz aH<|aB<|Rt<|Qq
 rw[aCd (by rw[J];decide)];refine Sq ?_;refine aQ (t:=44) (n:=10) (X:=Nv r) ?_ ?_
 ·all_goals refine Dd (kY iO sizeOf28) ?_
  all_goals refine Dd (kc XS (hem _))<|Dm ?_<;>(refine Sp 47 (fun E=>?_) fun E=>?_)<;>(first|contradiction|refine Fo<|Fo<|Fo<|Fo ?_|refine On (aV lN)<|On (kY dK sizeOf25)<|On (kc call81 (G _))<|On iJ ?_)<;>refine Dd cD<|Da ?_<;>(exact⟨⟨_,rfl,by(rw[hckC,E];rfl)⟩,rfl,rfl,rfl⟩)
 refine Cn ?_ ?_<;>intro C
 ·rw[aCe C];exact Sz aH<|aB<|Rt<|Qq
 rw[aCd (by rw[C];decide)];refine Sq ?_;refine kH (t:=53) (n:=23) (X:=Nu r key) ?_ ?_
 ·cases hg57:(!P:Bool)
  ·refine aL follows<|Cq (kY iO sizeOf28)<|Cq (kc XS (hem _))<|Cq iJ<|Cq aC<|Ot<|Ot<|Ot<|Ot<|Ot<|Ot<|Ot<|Ot<|Ot<|Ou<|Ou<|Ou<|Ou<|Ou<|Ou<|Ou<|Ot<|Cq nT<|Cq aH<|bF<|Kr ?_;exact⟨rfl,⟨_,rfl,by(rw[hckD,hg57];rfl)⟩,rfl,rfl,rfl⟩
  cases hg66:(!decide (r.priv.sl.idx=2*r.number - 1):Bool)
  ·refine aL follows<|Cq (kY iO sizeOf28)<|Cq (kc XS (hem _))<|Cq iJ<|Cq aC<|Nt (aV lN)<|Nt (aV iC)<|Nt (bD isAgg3)<|Nt (aV mE)<|Nt (bD isAgg3)<|Nt (by exact iY rfl rfl rfl (lI (by omega) (by omega)))<|Nt (by exact dB rfl rfl rfl (lI (by omega) (by omega)))<|Nt rI<|Nt aC<|Nf aC<|Nf (kY aX aK)<|Nf (kc call82 (F _))<|Nf (aV lN)<|Nf (kY dK sizeOf25)<|Nf (kc call28 (hve2 _))<|Nf iJ<|Nt nT<|Cq xX<|Cq aH<|bF<|Kr ?_;exact⟨rfl,⟨_,rfl,by(rw[hckD,hg57,hg66];rfl)⟩,rfl,rfl,rfl⟩
  refine aL follows<|Cq (kY iO sizeOf28)<|Cq (kc XS (hem _))<|Cq iJ<|Cq aC<|Nt (aV lN)<|Nt (aV iC)<|Nt (bD isAgg3)<|Nt (aV mE)<|Nt (bD isAgg3)<|Nt (by exact iY rfl rfl rfl (lI (by omega) (by omega)))<|Nt (by exact dB rfl rfl rfl (lI (by omega) (by omega)))<|Nt rI<|Nt aC<|Of<|Of<|Of<|Of<|Of<|Of<|Of<|Nt xX<|Cq xX<|Cq aH<|bF<|Kr ?_;exact⟨rfl,⟨_,rfl,by(rw[hckD,hg57,hg66];rfl)⟩,rfl,rfl,rfl⟩
 refine Cn ?_ ?_<;>intro hc4
 ·rw[aCe hc4];exact Sz aH<|aB<|Rt<|Qq
 rw[aCd (by rw[hc4];decide)];exact aA<|Sz aH<|aB<|Rt<|Qq
def SF(l:List ByteArray):List PV:=[aU l]
def VM(ls:List (List ByteArray)):PV:=.sl (ls.map SF)
def eu(l:List GRec):PV:=.sl (l.map cC)
def lsOk(l:List ByteArray):Bool:=decide (l.length<=30)&&l.all fun s=>decide (s.size<=300)
theorem xR{l:List α}{p}(h:∀j,j<l.length->∀b,l[j]?=some b->p b=true):l.all p=true:=by
 rw[List.all_eq_true];intro b a;obtain ⟨j,hj⟩:=aDA.1 a
 grind
theorem CP{l:List α}{p}{i:Nat}{b}(hb:l[i]?=some b)(h:p b=false):l.all p=false:=by grind
theorem sZ{l:List _}{p:α->Bool}{i}{x}(h:∀j,j<i->∀b,l[j]?=some b->p b=true)(hx:l[i]?=some x)(hp:p x=true):∀j,j<i+1->∀b,l[j]?=some b->p b=true:=by grind
theorem T4(ls:List (List ByteArray))(H:aG)(hl:ls.length<1099511627776)(B:∀l∈ls,l.length<1099511627776):RC 106 [.pv (VM ls)] (bv (ls.all lsOk)) H:=by
 refine Pu ?_;have hml:(ls.map SF).length=ls.length:=aCf _;refine Bd func106 rfl ntmps106<|Sz aH<|Sq<|Sz aH<|aE ?_;refine bJ (σ:=Nat) (fun k=>([(0,.pv (VM ls)),(3,iv (k:Int))],[])) (fun k=>k<=ls.length/\∀j,j<k->∀b,ls[j]?=some b->lsOk b=true) (fun k=>ls.length - k) 0 ⟨by omega,by omega⟩ ?_ ?_
 ·exact Wk
 rintro k ⟨hk,w⟩;refine Sq<|Sd aC<|Dd aC<|Dd (eR G8)<|Zd cJ ?_;refine Cn ?_ ?_<;>intro q
 ·have A:k<ls.length:=by have:=aCb q;omega
  obtain ⟨l,d⟩:=aT A;have o:=cE (f:=SF) d;have hll:=B l (aCp d);have hmm:(l.map encStr).length=l.length:=aCf _;have f:=fun h=>CP (p:=lsOk) d h;refine aA<|Sq<|aE<|Sq<|Sd aC<|Dd aC<|Dd (by exact bP rfl LM rfl rfl (by omega) (by rfl) o rfl)<|Dd (fO aF (hi:=o))<|Dd (eR aD)<|Zd gX ?_;refine Cn ?_ ?_<;>intro x
  ·have y:¬ l.length<=30:=by have:=aCb x;omega
   rw[f (by rw[lsOk,decide_eq_false y];rfl)];exact Sz aH<|aB<|Rt<|Qq
  have y:l.length<=30:=by have:=aCc x;omega
  refine aA<|Sz aH<|aE ?_;refine bJ (σ:=Nat) (fun i=>([(0,.pv (VM ls)),(3,iv (k:Int)),(4,iv (i:Int))],[])) (fun i=>i<=l.length/\∀j,j<i->∀b,l[j]?=some b->decide (b.size<=300)=true) (fun i=>l.length - i) 0 ⟨by omega,by omega⟩ ?_ ?_
  ·exact Wk
  rintro i ⟨hi',e⟩;refine Sq<|Sd aC<|Dd aC<|Dd aC<|Dd (by exact bP rfl LM rfl rfl (by omega) (by rfl) o rfl)<|Dd (fO aF (hi:=o))<|Dd (eR aD)<|Zd cJ ?_;refine Cn ?_ ?_<;>intro t
  ·have v:i<l.length:=by have:=aCb t;omega
   obtain ⟨s,g⟩:=aT v;have u:=cE (f:=encStr) g;refine aA<|Sq<|aE<|Sd aC<|Dd aC<|Dd (by exact bP rfl LM rfl rfl (by omega) (by rfl) o rfl)<|Dd (fO aF (hi:=o))<|Dd aC<|Dd (by exact bP rfl bT rfl rfl (by omega) (by rfl) u rfl)<|Dd (fO isAgg9 (hi:=u))<|Dd (gF underlying9)<|Zd gX ?_;refine Cn ?_ ?_<;>intro p
   ·have m:¬ s.size<=300:=by have:=aCb p;omega
    rw[f (by rw[lsOk,CP (p:=fun s=>decide (s.size<=300)) g (decide_eq_false m),Bool.and_false])];exact Sz aH<|aB<|Rt<|Qq
   have m:s.size<=300:=by have:=aCc p;omega
   refine aA<|Rd aC<|Dd kp<|Da ?_;exact⟨i+1,⟨by omega,sZ (p:=fun s=>decide (s.size<=300)) e g (decide_eq_true m)⟩,by omega,Wk⟩
  have n:i=l.length:=by have:=aCc t;omega
  subst n;have z:lsOk l=true:=by rw[lsOk,decide_eq_true y,xR e];rfl
  refine aS<|Rd aC<|Dd kp<|Da ?_;exact⟨k+1,⟨by omega,sZ w d z⟩,by omega,Wk⟩
 have n:k=ls.length:=by have:=aCc q;omega
 subst n;rw[xR w];exact aS<|Sz aH<|aB<|Rt<|Qq
def Ed(r:GRec):Bool:=((!([r.parents,r.sl.sig,r.sl.path,r.priv.sources,r.priv.sl.sig,r.priv.sl.path].all lsOk)||!([[r.branch,r.target,r.from',r.priv.name,r.priv.reason]].all lsOk))||decide (210<((r.priv.trace.map fQ).length:Int)))||!CG r.edits 10
def iz(r:GRec):Bool:=!Ed r
def UM(l:List GRec)(n:Int):Bool:=decide ((l.length:Int)<=n)&&l.all iz
theorem ZY{r}(h:gE r):∀l∈[r.parents,r.sl.sig,r.sl.path,r.priv.sources,r.priv.sl.sig,r.priv.sl.path],l.length<1099511627776:=by
 obtain ⟨_,_,e,_,a,_,_,d,_,b⟩:=h;intro l c;simp[aCr,aCv,or_false]at c;rcases c with rfl|rfl|rfl|rfl|rfl|rfl
 ·exact e.1
 ·exact a.2.1.1
 ·exact a.2.2.1
 ·exact d.1
 ·exact b.2.1.1
 exact b.2.2.1
theorem Mt(l:List GRec)(n:Int)(H:aG)(hl:l.length<1099511627776)(g:∀r∈l,gE r):RC 37 [.pv (eu l),iv n] (bv (UM l n)) H:=by
 refine Pu ?_;have J:(l.map cC).length=l.length:=aCf _;have M:UM l n=(decide (((l.map cC).length:Int)<=n)&&l.all iz):=by rw[UM,J]
 refine Bd func37 rfl ntmps37<|Sz aH<|Sq<|Sz aH<|aE ?_;refine bJ (σ:=Nat) (fun k=>([(0,.pv (eu l)),(1,iv n),(5,iv (k:Int))],[])) (fun k=>k<=l.length/\∀j,j<k->∀b,l[j]?=some b->iz b=true) (fun k=>l.length - k) 0 ⟨by omega,by omega⟩ ?_ ?_
 ·exact Wk
 rintro k ⟨hk,w⟩;refine Sq<|Sq ?_;refine aQ (t:=17) (n:=11) (X:=decide ((k:Int)<((l.map cC).length:Int))&&decide (((l.map cC).length:Int)<=n)) ?_ ?_
 ·all_goals refine Dd aC ?_
  all_goals refine Dd aC<|Dd (eR JO)<|Dd cJ<|Dm ?_<;>(refine Sp 12 (fun C=>?_) fun C=>?_)<;>(first|contradiction|refine Fo<|Fo<|Fo<|Fo ?_|refine On aC<|On (eR JO)<|On aC<|On GP ?_)<;>refine Zd cD ?_<;>(exact⟨⟨_,rfl,by grind⟩,rfl,rfl,rfl⟩)
 refine Cn ?_ ?_<;>intro v
 ·have m:=v;rw[aCo,aCm,aCm]at m;have D:k<l.length:=by omega
  obtain ⟨r,f⟩:=aT D;have L:=cE (f:=cC) f;have d:=g r (aCp f);have s:=fun h=>CP (p:=iz) f h;have u:=fun H=>T4 [r.parents,r.sl.sig,r.sl.path,r.priv.sources,r.priv.sl.sig,r.priv.sl.path] H (show 6<1099511627776 by decide) (ZY d);have x:=fun H=>T4 [[r.branch,r.target,r.from',r.priv.name,r.priv.reason]] H (show 1<1099511627776 by decide) (by simp_all);have z:=fun H=>Mu r.edits 10 H (by have:=d.2.2.2.1.1;omega) (fun e I=>⟨⟨(d.2.2.2.1.2 e I).2.2.2.2.1,(d.2.2.2.1.2 e I).2.2.2.1.1⟩,by have:=(d.2.2.2.1.2 e I).2.1.1;omega⟩);have E:Ed r=(((!([r.parents,r.sl.sig,r.sl.path,r.priv.sources,r.priv.sl.sig,r.priv.sl.path].all lsOk)||!([[r.branch,r.target,r.from',r.priv.name,r.priv.reason]].all lsOk))||decide (210<((r.priv.trace.map fQ).length:Int)))||!CG r.edits 10):=rfl;obtain ⟨b1,y⟩:∃b,b=[r.parents,r.sl.sig,r.sl.path,r.priv.sources,r.priv.sl.sig,r.priv.sl.path].all lsOk:=⟨_,rfl⟩;obtain ⟨b2,t⟩:∃b,b=[[r.branch,r.target,r.from',r.priv.name,r.priv.reason]].all lsOk:=⟨_,rfl⟩;obtain ⟨b3,p⟩:∃b,b=CG r.edits 10:=⟨_,rfl⟩;rw[<-y]at u E;rw[<-t]at x E;rw[<-p]at z E;clear y t p;refine aA<|Sq<|aE<|Sd aC<|Dd aC<|Dd (by exact bP rfl Xs rfl rfl (by omega) (by rfl) L rfl)<|Dd (by exact dM rfl aX aK rfl L rfl rfl)<|Dd (kl 6 HC)<|Uu (iP aK)<|Zz<|Sd (aV dV)<|Dd (kY iO sizeOf28)<|Dd (kl 7 Qw)<|Uu (iP sizeOf28)<|Zz<|Sq ?_;refine aQ (t:=72) (n:=50) (X:=Ed r) ?_ ?_
  ·all_goals refine Dd (aV lM) ?_
   all_goals refine Dd (bD aF)<|Dd (aV jR)<|Dd (aV gD)<|Dd (bD aF)<|Dd (aV jR)<|Dd (aV iB)<|Dd (bD aF)<|Dd (aV qK)<|Dd (bD aF)<|Dd (aV lN)<|Dd (aV gD)<|Dd (bD aF)<|Dd (aV lN)<|Dd (aV iB)<|Dd (bD aF)<|Dd (by exact aN [SF r.parents,SF r.sl.sig,SF r.sl.path,SF r.priv.sources,SF r.priv.sl.sig,SF r.priv.sl.path] rfl LM rfl rfl rfl rfl rfl (by intro r g;simp only[aCr,aCv,or_false]at g;rcases g with rfl|rfl|rfl|rfl|rfl|rfl<;>rfl))<|Dd (kc call106 (u _))<|Dd iJ<|Dm ?_<;>(refine Sp 45 (fun K=>?_) fun K=>?_)<;>(first|contradiction|refine Fo<|Fo<|Fo<|Fo<|Fo<|Fo<|Fo<|Fo<|Fo<|Fo<|Fo<|Fo<|Fo<|Fo ?_|refine On (aV uY)<|On (bD isAgg9)<|On (aV uW)<|On (bD isAgg9)<|On (aV pT)<|On (bD isAgg9)<|On (aV xK)<|On (bD isAgg9)<|On (aV xJ)<|On (bD isAgg9)<|On (by exact aN [[.str r.branch],[.str r.target],[.str r.from'],[.str r.priv.name],[.str r.priv.reason]] rfl bT rfl rfl rfl rfl rfl (by simp_all))<|On (by exact aN [SF [r.branch,r.target,r.from',r.priv.name,r.priv.reason]] rfl LM rfl rfl rfl rfl rfl (by intro r g;rw[aCi]at g;subst g;rfl))<|On (kc call106 (x _))<|On iJ ?_)<;>refine Dd cD<|Dm ?_<;>(refine Sp 61 (fun A=>?_) fun A=>?_)<;>(first|contradiction|refine Fo<|Fo<|Fo<|Fo ?_|refine On (aV lO)<|On (bD eQ)<|On (eR dH)<|On gX ?_)<;>refine Dd cD<|Dm ?_<;>(refine Sp 67 (fun B=>?_) fun B=>?_)<;>(first|contradiction|refine Fo<|Fo<|Fo<|Fo ?_|refine On (aV uX)<|On (bD jJ)<|On (kc call107 (z _))<|On iJ ?_)<;>refine Zd cD ?_<;>(exact⟨⟨_,rfl,by grind⟩,rfl,rfl,rfl⟩)
  refine Cn ?_ ?_<;>intro o
  ·rw[M,s (by rw[iz,o];rfl),Bool.and_false];exact Sz aH<|aB<|Rt<|Qq
  have G:iz r=true:=by rw[iz,o];rfl
  refine aA<|Rd aC<|Dd kp<|Da ?_;exact⟨k+1,⟨by omega,sZ w f G⟩,by omega,Wk⟩
 have m:=v;rw[Bool.and_eq_false_iff,aCn,aCn]at m;have q:UM l n=decide (((l.map cC).length:Int)<=n):=by
  rw[M];rcases m with m|m
  ·have F:k=l.length:=by omega
   subst F;rw[xR w,Bool.and_true]
  grind
 rw[q];exact aS<|Sd aC<|Dd (eR JO)<|Dd aC<|Dd GP<|Zd aH<|aB<|Rt<|Qq
theorem gz(l)(H)(d:l.length<1099511627776)(c:∀r∈l,gE r):RC 8 [.pv (eu l)] (bv (UM l 5)) H:=by refine Pu ?_;have b:=fun H=>Mt l 5 H d c;exact Bd func8 rfl ntmps8<|Sz aH<|Sd aC<|Dd (bL rfl rfl call37 rfl (b _))<|Zd aH<|aB<|Rt<|Qq
theorem zX{r}{a b}(h:eJ r=true)(ha:iW a=true)(hb:iW b=true):eJ (df r a b)=true:=by simp[eJ,aCo,aCy]at h |-;obtain ⟨⟨⟨⟨c,f⟩,g⟩,e⟩,d⟩:=h;refine⟨⟨⟨⟨?_,f⟩,g⟩,e⟩,d⟩;simp only[du,aDB]at c |-;obtain ⟨⟨c,_⟩,_⟩:=c;exact⟨⟨c,by show (!iW b)=false;simp_all⟩,by show (!iW a)=false;simp_all⟩
theorem oj:iW zS=true:=by decide
theorem il{r}{a b}(h:eJ r=true)(d:iW a=true)(c:iW b=true):sW (df r a b)=sW r:=by rw[sW,sW,aCe (zX h d c),aCe h];rfl
theorem Lu{r}{a b}(h:eJ r=true)(c:iW a=true)(d:iW b=true):rJ (df r a b)=rJ r:=by rw[rJ,il h c d];rfl
theorem N5{r}(h:eJ r=true):eJ (sP r)=true:=by simp[eJ,aCo,aCy]at h |-;obtain ⟨⟨⟨⟨a,g⟩,i⟩,e⟩,b⟩:=h;refine⟨⟨⟨⟨?_,g⟩,i⟩,e⟩,b⟩;simp[du,aDB]at a |-;obtain ⟨_,f⟩:=a;refine⟨?_,f⟩;have d:iW ⟨0,[],[]⟩=true:=rfl;have c:FX sNil=false:=rfl;simp[sP,d,c]
theorem Mn{r}(h:eJ r=true):sW (sP r)=sW r:=by rw[sW,sW,aCe (N5 h),aCe h];rfl
theorem aAP{s}(h:FSeal s)(hl:s.sig.length=18):iW s=true:=by have b:=h.i0;have a:=h.i1;have l2:=h.pl;rw[iW,aCf,aCf,decide_eq_true b,decide_eq_true a,decide_eq_true (by omega),decide_eq_true (by omega),List.all_eq_true.2 h.sa,List.all_eq_true.2 h.pa];simp
theorem nI{s m}{h i}(a:(EO s h i m).2=0):iW (EO s h i m).1=true:=by obtain ⟨f,e,_⟩:=wT a;refine aAP f ?_;rw[e];rfl
theorem lz{s m}{h i}(a:(EO s h i m).2=0):uR (yZ s h.toNat) m (EO s h i m).1.idx (EO s h i m).1.sig (EO s h i m).1.path=true/\(EO s h i m).1.idx=i:=by
 obtain ⟨_,e,⟨h2,h3⟩,h4,h5⟩:=wT a;rw[e];refine⟨?_,rfl⟩;obtain ⟨n,rfl⟩:∃n:Nat,h=n:=⟨h.toNat,by omega⟩;obtain ⟨k,rfl⟩:∃k:Nat,i=k:=⟨i.toNat,by omega⟩;have b:k<2 ^ n:=by grind
 exact xf s m (by omega) b
theorem Z4{r x}(h:CU r=(x,0)):x=r/\(lA r).2=0:=by
 rw[CU]at h
 grind
structure Made(r x:GRec)(s:ByteArray)(h:Int):Prop where
 v0:eJ (GM r)=true
 a0:(EO s h (2*r.number - 2) (sW (GM r))).2=0
 tx:(lA x).2=0
 e:(gL r.priv=true/\x=Lw r (EO s h (2*r.number - 2) (sW (GM r))).1)\/(gL r.priv=false/\(EO s h (2*r.number - 1) (rJ (GM r))).2=0/\x=df r (EO s h (2*r.number - 2) (sW (GM r))).1 (EO s h (2*r.number - 1) (rJ (GM r))).1)
theorem Mb{r x}{s}{h}(a:LV r s h=(x,0)):Made r x s h:=by
 rw[LV]at a
 split at a
 ·cases a
 next h1 =>
 split at a
 ·next c =>
  have:=congrArg Prod.snd a;exact absurd this c
 next c =>
 have c:(EO s h (2*r.number - 2) (sW (GM r))).2=0:=by omega
 split at a
 ·next e =>
  obtain ⟨b,d⟩:=Z4 a;exact⟨by simp_all,c,b▸d,.inl ⟨e,b⟩⟩
 next e =>
 split at a
 ·next f =>
  have:=congrArg Prod.snd a;exact absurd this f
 next f =>
 obtain ⟨b,d⟩:=Z4 a;refine⟨by simp_all,c,b▸d,.inr ⟨by simp_all,?_,b⟩⟩;omega
theorem Made.valid{r x}{s}{h}(a:Made r x s h):eJ x=true:=by
 rcases a.e with⟨_,e⟩|⟨_,b,e⟩
 ·rw[e];exact zX (r:=GM r) a.v0 (nI a.a0) oj
 rw[e];exact zX (r:=GM r) a.v0 (nI a.a0) (nI b)
theorem Made.text{r x}{s}{h}(b:Made r x s h):lA x=(ofL (aP (iT x)),0):=by
 have a:=b.tx;rw[lA,aCe b.valid]at a |-
 split at a
 ·cases a
 next c=>rw[aCd c]
theorem Made.id{r x}{s}{h}(a:Made r x s h):sW x=sW (GM r):=by
 rcases a.e with⟨_,e⟩|⟨_,b,e⟩
 ·rw[e];exact il a.v0 (nI a.a0) oj
 rw[e];exact il a.v0 (nI a.a0) (nI b)
theorem Made.ver{r x}{s}{h}(a:Made r x s h):uR (yZ s h.toNat) (sW x) x.sl.idx x.sl.sig x.sl.path=true/\x.sl.idx=2*x.number - 2:=by
 rw[a.id];have:=lz a.a0;rcases a.e with⟨_,e⟩|⟨_,h2,e⟩
 ·rw[e];exact this
 rw[e];exact this
theorem Made.check(b:Made r x s h){ks:List ByteArray}(p:ks[r.author.toNat]?=some (yZ s h.toNat)):qM x ks=0:=by
 have i:=b.valid;have t:=lY i;have hau:=t.au;obtain ⟨o,l⟩:=b.ver;have ha:x.author=r.author:=by rcases b.e with⟨_,e⟩|⟨_,_,e⟩<;>rw[e]<;>rfl
 have hlt:r.author.toNat<ks.length:=(aCj.1 p).1;have v:ks.getD x.author.toNat sNil=yZ s h.toNat:=by simp_all
 rw[qM,v];have q:Fc x ks=false:=by rw[Fc,i,aCf,decide_eq_false (by omega)];rfl
 have m:Hx x (yZ s h.toNat)=false:=by rw[Hx,o,decide_eq_true l];rfl
 rw[q,m];rcases b.e with⟨g,e⟩|⟨g,j,e⟩
 ·have f:Nv x=false:=by rw[Nv,e];show (_&&!qS zS)=false;rw[show qS zS=true by decide];simp
  have c:Nu x (yZ s h.toNat)=false:=by rw[Nu,e];show (!gL (Lw r zS).priv&&_)=false;rw[show gL (Lw r zS).priv=gL r.priv from rfl,g];rfl
  rw[f,c];rfl
 have f:Nv x=false:=by rw[Nv,e];show (gL (Lw r zS).priv&&_)=false;rw[show gL (Lw r zS).priv=gL r.priv from rfl,g];rfl
 have c:Nu x (yZ s h.toNat)=false:=by
  obtain ⟨w,u⟩:=lz j;have d:rJ x=rJ (GM r):=by rw[e];exact Lu (r:=GM r) b.v0 (nI b.a0) (nI j)
  have k:x.priv.sl=(EO s h (2*r.number - 1) (rJ (GM r))).1:=by rw[e];rfl
  have n:x.number=r.number:=by rw[e];rfl
  rw[Nu,d,k,w,n,decide_eq_true u];simp
 rw[f,c];rfl
theorem Made.bare(b:Made r x s h){ks}(g:ks[r.author.toNat]?=some (yZ s h.toNat)):qM (sP x) ks=0:=by
 have c:=b.valid;have hf:=lY c;obtain ⟨k1,k2⟩:=b.ver;have ha:x.author=r.author:=by rcases b.e with⟨_,e⟩|⟨_,_,e⟩<;>rw[e]<;>rfl
 have hlt:=(aCj.1 g).1;have k:ks.getD x.author.toNat sNil=yZ s h.toNat:=by simp_all
 rw[qM,show (sP x).author=x.author from rfl,k];have j:Fc (sP x) ks=false:=by rw[Fc,N5 c,aCf,show (sP x).author=x.author from rfl,decide_eq_false (by omega)];rfl
 have d:Hx (sP x) (yZ s h.toNat)=false:=by
  rw[Hx,Mn c];show (!decide (x.sl.idx=2*x.number - 2)||!uR _ (sW x) x.sl.idx x.sl.sig x.sl.path)=false
  simp_all
 have i:Nv (sP x)=false:=by rfl
 have f:Nu (sP x) (yZ s h.toNat)=false:=by rfl
 rw[j,d,i,f];rfl
theorem Made.parse{r x}{s}{h}(a:Made r x s h):eW (aP (iT x))=(x,0):=PC a.text
def BR:ByteArray:=⟨#[115,101,99,114,101,116]⟩
def aAF:ByteArray:=⟨#[109,97,105,110]⟩
def Oj:ByteArray:=⟨#[65,110,110]⟩
def litH:ByteArray:=⟨#[54,58,114,101,99,111,114,100,49,58,53,49,58,49,49,58,50,49,58,53,52,58,109,97,105,110,49,58,48,48,58,48,58,49,58,48,49,58,48,48,58]⟩
def r0H:GRec:=⟨5,1,2,5,aAF,[],[],sNil,false,0,sNil,zS,⟨sNil,sNil,[],[],zS⟩⟩
def p0H:GRec:={r0H with priv:=⟨Oj,sNil,[],[(1,2)],zS⟩}
def sAH:GSeal:=(EO BR 2 2 (tL litH)).1
def sBH:GSeal:=(EO BR 2 3 (rJ p0H)).1
def xH:GRec:=df p0H sAH sBH
def fxH:GRec:={xH with clock:=6}
def f0H:GRec:={p0H with clock:=6}
def AS:ByteArray:=yZ BR 2
theorem xg:eJ r0H=true:=by kernel_rfl
theorem YJ:eJ p0H=true:=by kernel_rfl
theorem xh:eJ f0H=true:=by kernel_rfl
theorem Cg:(⟨(aP (pG r0H)).toArray⟩)=litH:=by kernel_rfl
theorem aAN:sW r0H=tL litH:=by rw[sW,aCe xg,wA,Cg]
theorem Qd:sW p0H=tL litH:=congrArg tL Cg
theorem OT:(EO BR 2 2 (tL litH)).2=0:=rfl
theorem S6:(EO BR 2 3 (rJ p0H)).2=0:=rfl
theorem Pc{s}(h:FSeal s):(∀t∈fI (.z s.idx s.sig s.path),t.size<=24)/\(fI (.z s.idx s.sig s.path)).length<=29:=by
 have i0:=h.i0;have i1:=h.i1;have l1:=h.sl;have l2:=h.pl;constructor
 ·intro t a;simp only[fI,aCr,List.mem_append]at a;rcases a with rfl|(rfl|a)|(rfl|a)
  ·exact Nat.le_trans (qJ (by omega) (by omega)) (by simp)
  ·exact Nat.le_trans (qJ (by omega) (by omega)) (by simp)
  ·exact Nat.le_trans (vY (h.sa t a)) (by simp)
  ·exact Nat.le_trans (qJ (by omega) (by omega)) (by simp)
  exact Nat.le_trans (vY (h.pa t a)) (by simp)
 simp[fI,aCh,aCg];omega
theorem Kn:(pG p0H).all (fun s=>decide (s.size<=24))=true:=by kernel_rfl
theorem Ai:(pG p0H).length=12:=by kernel_rfl
theorem Jt:((fI (.t Oj)++(fI (.t sNil)++(fI (.l [])++fI (.p [(1,2)]))))).all (fun s=>decide (s.size<=24))=true:=by kernel_rfl
theorem za:((fI (.t Oj)++(fI (.t sNil)++(fI (.l [])++fI (.p [(1,2)]))))).length=6:=rfl
theorem N9{a b:GSeal}(g:FSeal a)(d:FSeal b):(aP (iT (df p0H a b))).length<=20000:=by
 obtain ⟨h,a2⟩:=Pc g;obtain ⟨f,b2⟩:=Pc d;have e:iT (df p0H a b)=pG p0H++(fI (.z a.idx a.sig a.path)++((fI (.t Oj)++(fI (.t sNil)++(fI (.l [])++fI (.p [(1,2)]))))++fI (.z b.idx b.sig b.path))):=by
  rw[iT,uB,HQ];simp only[List.flatMap_cons,List.flatMap_nil,List.append_nil,List.append_assoc];rfl
 have hl:=za;have hp:=Ai;rw[e];refine Nat.le_trans (B8 (M:=24) (by decide) _ ?_) ?_
 ·intro s c;rw[List.mem_append,List.mem_append,List.mem_append]at c;rcases c with c|c|c|c
  ·exact aCb (List.all_eq_true.1 Kn s c)
  ·exact h s c
  ·exact aCb (List.all_eq_true.1 Jt s c)
  exact f s c
 grind
theorem ni:LV p0H BR 2=(xH,0):=by
 have f:GM p0H=p0H:=rfl;have c:(2:Int)*p0H.number - 2=2:=rfl;have i:(2:Int)*p0H.number - 1=3:=rfl;have a:gL p0H.priv=false:=by decide
 obtain ⟨b,_⟩:=wT OT;obtain ⟨e,_⟩:=wT S6;rw[LV,f,c,i,YJ,a,Qd,aCd (by decide),aCd (fun h=>h OT),aCd (by decide),aCd (fun h=>h S6)];show CU xH=(xH,0);have g:(lA xH).2=0:=by
  have d:eJ xH=true:=zX (r:=p0H) YJ (nI OT) (nI S6);rw[lA,aCe d,aCd (by have:=N9 b e;exact Nat.not_lt.2 this)]
 rw[CU,aCd (fun h=>h g)]
theorem PT:Made p0H xH BR 2:=Mb ni
theorem Ma:LV r0H BR 1=(zR,1):=rfl
theorem Rm:lA xH=(ofL (aP (iT xH)),0):=PT.text
theorem Kp:eW (aP (iT xH))=(xH,0):=PT.parse
theorem aB1:sW xH=tL litH:=by rw[PT.id];exact Qd
theorem Nw:qM xH [sNil,AS]=0:=PT.check (rfl)
theorem Vp:qM (sP xH) [sNil,AS]=0:=PT.bare (rfl)
theorem Oo:qM xH [AS]=1:=by rw[qM,aCe];rw[Fc];have:decide ((([AS]).map encStr).length<=xH.author)=true:=rfl;rw[this,Bool.or_true]
theorem kz:eJ fxH=true:=zX xh (nI OT) (nI S6)
theorem Xj:uR (yZ BR 2) (wA (pG f0H)) 2 (MJ BR 2 (tL litH)) (pH 2 (oL BR 2) 2)=false:=by kernel_rfl
theorem Dv:qM fxH [sNil,AS]=16:=by
 rw[qM,aCd,aCe]
 ·have hid:sW fxH=wA (pG f0H):=by rw[sW,aCe kz];rfl
  have a:fxH.sl=⟨2,MJ BR 2 (tL litH),pH 2 (oL BR 2) 2⟩:=(wT OT).2.1;have b:([sNil,AS]:List ByteArray).getD fxH.author.toNat sNil=yZ BR 2:=rfl;rw[b,Hx,hid,a];rw[Xj];simp
 rw[Fc,kz];decide
theorem Bo:gE r0H:=by refine⟨⟨⟨by decide,by decide⟩,⟨by decide,by decide⟩,⟨by decide,by decide⟩,⟨by decide,by decide⟩,⟨by decide,by decide⟩⟩,⟨by decide,by decide,by decide⟩,⟨by decide,by simp[r0H]⟩,⟨by decide,by simp[r0H]⟩,Hw,by decide,by decide,⟨by decide,by simp[r0H]⟩,by decide,Hw⟩
theorem Pt:gE p0H:=by obtain ⟨a,b,c,d,e,_⟩:=Bo;exact⟨a,b,c,d,e,by decide,by decide,⟨by decide,by simp[p0H]⟩,by decide,Hw⟩
theorem ZT:gE xH:=gm Pt (hV (wT OT).1) (hV (wT S6).1)
theorem Zs:gE fxH:=by obtain ⟨⟨f,a,e,a4,d⟩,b,c⟩:=ZT;exact⟨⟨f,a,e,⟨by decide,by decide⟩,d⟩,b,c⟩
def Pl:WRest:=⟨.sl [],.sl [],.int .i64 0,.sl [],.sl []⟩
theorem Wi:AS.size=16:=by kernel_rfl
theorem Bn:FH [sNil,AS]:=⟨by simp,by
 intro t a;simp[aCr,aCv,or_false]at a;rcases a with rfl|rfl
 ·decide
 decide⟩
theorem Zr:FH [AS]:=⟨by simp,fun t a=>Bn.2 t (List.mem_cons_of_mem _ a)⟩
theorem Zt:gE (sP xH):=by obtain ⟨a,b,c,d,e,_⟩:=ZT;exact⟨a,b,c,d,e,by decide,by decide,⟨by decide,by simp[sP]⟩,by decide,Hw⟩
theorem neZ{a:Int}:(!decide (a=a))=false:=by simp
theorem cK.val{P}{N}{o}{E}{H H'}{b a}(h:cK P N o E H (.pv (.bool b)) H')(e:b=a):cK P N o E H (.pv (.bool a)) H':=e▸h
theorem Do(H:aG):RC 7 [] (bv true) H:=by
 refine Pu ?_;have hSum:=fun H=>YN litH H (by decide);have hPub:=fun H=>eg BR 2 H (by decide) (by decide);have hMk:∀H,RC 23 [av (cC p0H),sv BR,iv 2] (.tup [av (cC xH),iv 0]) H:=fun H=>by
  have:=Cc p0H BR 2 Pt (by decide) (by decide) H;rw[ni]at this;exact this
 have q:∀H,RC 23 [av (cC r0H),sv BR,iv 1] (.tup [av (cC zR),iv 1]) H:=fun H=>by
  have:=Cc r0H BR 1 Bo (by decide) (by decide) H;rw[Ma]at this;exact this
 have m:∀H,RC 10 [av (cC xH)] (.tup [sv (ofL (aP (iT xH))),iv 0]) H:=fun H=>by
  have:=M2 xH ZT (by decide) H;rw[Rm]at this;exact this
 have hlen:(aP (iT xH)).length<1099511627776:=Nat.lt_of_le_of_lt (N9 (wT OT).1 (wT S6).1) (by decide);have n:∀H,RC 12 [sv (ofL (aP (iT xH)))] (.tup [av (cC xH),iv 0]) H:=fun H=>by
  have:=ZK (aP (iT xH)) hlen H;rw[Kp]at this;exact this
 have hI0:∀H,RC 16 [av (cC r0H)] (sv (tL litH)) H:=fun H=>by
  have:=UB r0H Bo (by decide) H;rw[aAN]at this;exact this
 have o:∀H,RC 16 [av (cC xH)] (sv (tL litH)) H:=fun H=>by
  have:=UB xH ZT (by decide) H;rw[aB1]at this;exact this
 have s:∀H,RC 18 [av (cC xH),av (cC xH)] (bv true) H:=fun H=>by
  have:=S5 xH xH H (IG ZT) (IG ZT);rw[Y6.2 rfl]at this;exact this
 have hks:FH [sNil,AS]:=Bn;have j:∀H,RC 19 [av (cC xH),av (KX Pl [sNil,AS])] (iv 0) H:=fun H=>by
  have:=I9 xH Pl [sNil,AS] ZT (by decide) hks H;rw[Nw]at this;exact this
 have k:=fun H=>ph xH H;have t:∀H,RC 19 [av (cC (sP xH)),av (KX Pl [sNil,AS])] (iv 0) H:=fun H=>by
  have:=I9 (sP xH) Pl [sNil,AS] Zt (by decide) hks H;rw[Vp]at this;exact this
 have p:∀H,RC 19 [av (cC fxH),av (KX Pl [sNil,AS])] (iv 16) H:=fun H=>by
  have:=I9 fxH Pl [sNil,AS] Zs (by decide) hks H;rw[Dv]at this;exact this
 have l:∀H,RC 19 [av (cC xH),av (KX Pl [AS])] (iv 1) H:=fun H=>by
  have:=I9 xH Pl [AS] ZT (by decide) Zr H;rw[Oo]at this;exact this
 refine Bd func7 rfl ntmps7<|Sz aH<|Sd (nP QV)<|Dd (kl 1 HC)<|Uu (iP aK)<|Zz<|Sd (kc XV (hSum _))<|Zd aH<|Sd (kc call25 (hPub _))<|Dd aC<|Dd eG<|Dd eG<|Dd aH<|Zd aH<|Sd aC<|Dd (by exact aN ([sNil,AS].map encStr) rfl bT rfl rfl rfl rfl rfl (by intro r hr;simp only[List.map_cons,List.map_nil,aCr,aCv,or_false]at hr;rcases hr with rfl|rfl<;>rfl))<|Dd (nP aA2)<|Dd (kl 5 aAz)<|Uu (iP wC)<|Zz<|Sd (by exact aM rfl aX aK rfl rfl rfl rfl (by simp only[Zl,encStr];rfl) rfl)<|Dd (kl 6 HC)<|Uu (iP aK)<|Zz<|Sd (nP SK)<|Dd (by exact aN ([((1:Int),(2:Int))].map fQ) rfl JW rfl rfl rfl rfl rfl (by intro r hr;simp only[List.map_cons,List.map_nil,aCr,aCv,or_false]at hr;subst hr;rfl)) ?_;refine Dd (nP Oc)<|Dd (aV dV)<|Uu (by exact mT rfl sizeOf28 rfl rfl rfl rfl rfl rfl rfl (aCs rfl) rfl rfl)<|Zz<|Sd (by exact aM rfl aX aK rfl rfl rfl rfl (by simp only[Zl,encStr];rfl) rfl)<|Dd (kc call23 (hMk _))<|Dd aC<|Dd eG<|Dd eG<|Dd (kl 7 HC)<|Uu (iP aK)<|Zd aH<|Sd (by exact aM rfl aX aK rfl rfl rfl rfl (by simp only[Zl,encStr];rfl) rfl)<|Dd (kc Ic (m _))<|Dd aC<|Dd eG<|Dd eG<|Dd aH<|Zd aH<|Sd aC<|Dd (kc call12 (n _))<|Dd aC<|Dd eG<|Dd eG<|Dd (kl 11 HC)<|Uu (iP aK)<|Zd aH<|Sd (by exact aM rfl aX aK rfl rfl rfl rfl (by simp only[Zl,encStr];rfl) rfl) ?_;refine Dd (kl 13 HC)<|Uu (iP aK)<|Zz<|Sd (aV uZ)<|Dd (bD isAgg3)<|Dd (by exact eA rfl rfl rfl (by rfl))<|Dd (aV uZ)<|Uu (ku sizeOf3)<|Zz<|Sd (by exact aM rfl aX aK rfl rfl rfl rfl (by simp only[Zl,encStr];rfl) rfl)<|Dd (kc call23 (q _))<|Dd aC<|Dd eG<|Dd eG<|Dd (kl 14 HC)<|Uu (iP aK)<|Zd aH<|Sq<|Sd aC<|Dd (by exact cK.val (by exact vQ rfl rfl rfl) (neZ))<|Dd aC<|On aC<|On (by exact cK.val (by exact vQ rfl rfl rfl) (neZ))<|Dd cD<|Dd aC<|On aC<|On (by exact cK.val (by exact vQ rfl rfl rfl) (neZ))<|Dd cD<|Dd aC<|On aC<|On (by exact cK.val (by exact vQ rfl rfl rfl) (neZ)) ?_;refine Dd cD<|Dd aC<|On aC<|On (by exact cK.val (by exact vQ rfl rfl rfl) (neZ))<|Zd cD ?_;refine Cn ?_ ?_<;>intro hc1
 ·refine Sz aH<|aB<|Rt ?_
  grind
 refine aA<|Sq<|aL follows<|Cq (by exact aM rfl aX aK rfl rfl rfl rfl (by simp only[Zl,encStr];rfl) rfl)<|Cq (kc JQ (hI0 _))<|Cq aC<|Cq (by exact cK.val (by exact AI rfl rfl rfl) ((decide_eq_true rfl)))<|Cq aC<|Nt (by exact aM rfl aX aK rfl rfl rfl rfl (by simp only[Zl,encStr];rfl) rfl)<|Nt (kc JQ (o _))<|Nt aC<|Nt (by exact cK.val (by exact AI rfl rfl rfl) ((decide_eq_true rfl)))<|Cq cD<|Cq aC<|Nt (by exact aM rfl aX aK rfl rfl rfl rfl (by simp only[Zl,encStr];rfl) rfl)<|Nt (by exact aM rfl aX aK rfl rfl rfl rfl (by simp only[Zl,encStr];rfl) rfl)<|Nt (kc aC1 (s _))<|Cq cD<|Cq aC<|Nt (by exact aM rfl aX aK rfl rfl rfl rfl (by simp only[Zl,encStr];rfl) rfl) ?_;refine Nt (by exact aM rfl FM wC rfl rfl rfl rfl (by simp only[Zl,encStr];rfl) rfl)<|Nt (kc XW (j _))<|Nt (by exact cK.val (by exact gS rfl rfl rfl) ((decide_eq_true rfl)))<|Cq cD<|Cq aC<|Nt (by exact aM rfl aX aK rfl rfl rfl rfl (by simp only[Zl,encStr];rfl) rfl)<|Nt (kc call21 (k _))<|Nt (by exact aM rfl FM wC rfl rfl rfl rfl (by simp only[Zl,encStr];rfl) rfl)<|Nt (kc XW (t _))<|Nt (by exact cK.val (by exact gS rfl rfl rfl) ((decide_eq_true rfl)))<|Cq cD<|Cq aC<|Nt (by exact aM rfl aX aK rfl rfl rfl rfl (by simp only[Zl,encStr];rfl) rfl)<|Nt (by exact aM rfl FM wC rfl rfl rfl rfl (by simp only[Zl,encStr];rfl) rfl) ?_;refine Nt (kc XW (p _))<|Nt (by exact cK.val (by exact gS rfl rfl rfl) ((decide_eq_true rfl)))<|Cq cD<|Cq aC<|Nt (by exact aM rfl aX aK rfl rfl rfl rfl (by simp only[Zl,encStr];rfl) rfl)<|Nt aC<|Nt (by exact aN ([AS].map encStr) rfl bT rfl rfl rfl rfl rfl (by intro r hr;simp only[List.map_cons,List.map_nil,aCr,aCv,or_false]at hr;subst hr;rfl))<|Nt (nP aA2)<|Nt (kc XW (l _))<|Nt (by exact cK.val (by exact gS rfl rfl rfl) ((decide_eq_true rfl)))<|Cq cD<|Cq aC<|Nt (aV jR)<|Nt (aV iC)<|Nt (bD isAgg3)<|Nt (by exact cK.val (by exact gS rfl rfl rfl) ((decide_eq_true rfl)))<|Cq cD<|Cq aC<|Nt (aV dV)<|Nt (aV lN)<|Nt (aV iC)<|Nt (bD isAgg3)<|Nt (by exact cK.val (by exact gS rfl rfl rfl) ((decide_eq_true rfl))) ?_;exact Cq cD<|Cq aH<|bF<|Kr<|aB<|Rt<|Qq
section
def Po(B:Nat)(l:List (Int×Int)):Prop:=l.length<=B/\∀q,q∈l->RR q.1/\RR q.2
def VH(B:Nat)(s:GSeal):Prop:=RR s.idx/\BM B s.sig/\BM B s.path
def ee(B:Nat)(p:GPriv):Prop:=p.name.size<=B/\p.reason.size<=B/\BM B p.sources/\Po B p.trace/\VH B p.sl
def lk(B:Nat)(r:GRec):Prop:=(RR r.kind/\RR r.author/\RR r.number/\RR r.clock/\RR r.order)/\(r.branch.size<=B/\r.target.size<=B/\r.from'.size<=B)/\BM B r.parents/\ln B r.edits/\VH B r.sl/\ee B r.priv
section
variable{B n:Nat}{ps:List PV}
theorem aAY(h:Sh Tryz.prog B (n+3) 26 ps):∃l,ps=[vE l]/\Po B l:=by
 obtain ⟨l,rfl,b,c⟩:=BQ (f:=fQ) (good:=fun q=>RR q.1/\RR q.2) dH h (fun r d=>by
  obtain ⟨x,y,rfl,b,c⟩:=XD d;exact⟨(x,y),rfl,b,c⟩)
 exact⟨l,rfl,b,c⟩
theorem Ew(h:Sh Tryz.prog B (n+3) 25 ps):∃s,ps=iM s/\VH B s:=by obtain ⟨_,_,rfl,_,d,_,_,rfl,_,j,_,_,rfl,_,g,rfl⟩:=oO iG h;obtain ⟨i,rfl,e⟩:=wS underlying3 d;obtain ⟨a,rfl,k⟩:=D3 j;obtain ⟨b,rfl,f⟩:=D3 g;exact⟨⟨i,a,b⟩,rfl,e,k,f⟩
theorem Ve(h:Sh Tryz.prog B (n+4) 28 ps):∃p,ps=nD p/\ee B p:=by obtain ⟨_,_,rfl,_,j,_,_,rfl,_,q,_,_,rfl,_,k,_,_,rfl,_,g,_,_,rfl,_,f,rfl⟩:=oO oA h;obtain ⟨a,rfl,l⟩:=qC underlying9 j;obtain ⟨b,rfl,r⟩:=qC underlying9 q;obtain ⟨c,rfl,m⟩:=D3 k;obtain ⟨d,rfl,o⟩:=aAY g;obtain ⟨s,rfl,i⟩:=Ew f;exact⟨⟨a,b,c,d,s⟩,rfl,l,r,m,o,i⟩
theorem aAX(h:Sh Tryz.prog B (n+7) 30 ps):∃r,ps=cC r/\lk B r:=by obtain ⟨_,_,rfl,_,H,_,_,rfl,_,P,_,_,rfl,_,J,_,_,rfl,_,E,_,_,rfl,_,x,_,_,rfl,_,A,_,_,rfl,_,u,_,_,rfl,_,F,_,_,rfl,_,z,_,_,rfl,_,l,_,_,rfl,_,b,_,_,rfl,_,i,_,_,rfl,_,f,rfl⟩:=oO eC h;obtain ⟨Q,rfl,L⟩:=wS underlying3 H;obtain ⟨o,rfl,v⟩:=wS underlying3 P;obtain ⟨w,rfl,K⟩:=wS underlying3 J;obtain ⟨y,rfl,C⟩:=wS underlying3 E;obtain ⟨t,rfl,G⟩:=qC underlying9 x;obtain ⟨I,rfl,m⟩:=D3 A;obtain ⟨q,rfl,N⟩:=Nh u;obtain ⟨M,rfl,D⟩:=qC underlying9 F;obtain ⟨O,rfl⟩:=Jo eM z;obtain ⟨j,rfl,e⟩:=wS underlying3 l;obtain ⟨d,rfl,c⟩:=qC underlying9 b;obtain ⟨s,rfl,g⟩:=Ew i;obtain ⟨p,rfl,k⟩:=Ve f;exact⟨⟨Q,o,w,y,t,I,q,M,O,j,d,s,p⟩,rfl,⟨L,v,K,C,e⟩,⟨G,D,c⟩,m,N,g,k⟩
end
theorem TO{s}(h:VH 1048576 s):tH s:=⟨h.1.bd,⟨Nat.lt_of_le_of_lt h.2.1.1 (by simp),fun t a=>Nat.lt_of_le_of_lt (h.2.1.2 t a) (by simp)⟩,⟨Nat.lt_of_le_of_lt h.2.2.1 (by simp),fun t a=>Nat.lt_of_le_of_lt (h.2.2.2 t a) (by simp)⟩⟩
theorem ss{p}(h:ee 1048576 p):PJ p:=⟨Nat.lt_of_le_of_lt h.1 (by simp),Nat.lt_of_le_of_lt h.2.1 (by simp),⟨Nat.lt_of_le_of_lt h.2.2.1.1 (by simp),fun t a=>Nat.lt_of_le_of_lt (h.2.2.1.2 t a) (by simp)⟩,Nat.lt_of_le_of_lt h.2.2.2.1.1 (by simp),TO h.2.2.2.2⟩
theorem Bp{r}(h:lk 1048576 r):gE r:=by obtain ⟨⟨i,g,c,f,a⟩,⟨q1,q2,q3⟩,p,e,s,v⟩:=h;exact⟨⟨i.bd,g.bd,c.bd,f.bd,a.bd⟩,⟨by omega,by omega,by omega⟩,⟨Nat.lt_of_le_of_lt p.1 (by simp),fun t d=>Nat.lt_of_le_of_lt (p.2 t d) (by simp)⟩,⟨Nat.lt_of_le_of_lt e.1 (by simp),fun x b=>Tr (by simp) (e.2 x b)⟩,TO s,ss v⟩
theorem Su{r}(h:lk 1048576 r):r.parents.length<549755813888:=Nat.lt_of_le_of_lt h.2.2.1.1 (by simp)
end
theorem Jy{r}(h:lk 1048576 r):∀e∈r.edits,e.refs.length<1099511627776:=fun e a=>Nat.lt_of_le_of_lt (h.2.2.2.1.2 e a).2.2.2.2.2.2.2.2.1.1 (by simp)
theorem Ng{B n}{ps}(h:Sh Tryz.prog B (n+7) 37 ps):∃w ks,ps=KX w ks/\BM B ks:=by obtain ⟨_,_,rfl,_,i,_,_,rfl,_,o,_,_,rfl,_,j,_,_,rfl,_,g,_,_,rfl,_,f,_,_,rfl,_,l,rfl⟩:=oO vj h;obtain ⟨m,rfl,_⟩:=aAZ i;obtain ⟨ks,rfl,q⟩:=D3 o;obtain ⟨a,rfl,_⟩:=BQ underlying34 j (fun r k=>⟨r,rfl,trivial⟩);obtain ⟨b,rfl,_⟩:=wS underlying3 g;obtain ⟨c,rfl,_⟩:=D3 f;obtain ⟨d,rfl,_⟩:=BQ underlying35 l (fun r k=>⟨r,rfl,trivial⟩);exact⟨⟨_,_,_,_,_⟩,ks,rfl,q⟩
theorem Lg{ks}(h:BM 1048576 ks):FH ks:=⟨Nat.lt_of_le_of_lt h.1 (by simp),fun t a=>Nat.lt_of_le_of_lt (h.2 t a) (by simp)⟩
def Je(c:UInt8):ByteArray:=⟨#[c]⟩
def Py(c:UInt8):GObj:=⟨Je c,1,(c.toNat:Int),0,[],[]⟩
def cs3:List UInt8:=[97,98,99]
def aBA:GObj:=⟨Je 119,2,0,0,cs3.map Je,[]⟩
def s0:List GObj:=cs3.map Py++[aBA]
def x1:List GObj:=cs3.map Py++[⟨Je 118,2,0,0,[Je 98,Je 99],[]⟩,⟨Je 119,2,0,0,[Je 97,Je 98],[]⟩]
end Go.Proofs.YtmdicgjnmfolfaaGreatDoor
section
namespace Go.Proofs.YtmdicgjnmfolfaaGreatDoor
open Go.Proofs.Tryz
open Go.Abs
structure M3 where
 k:ByteArray
 b:ByteArray
 o:ByteArray
 t:ByteArray
end Go.Proofs.YtmdicgjnmfolfaaGreatDoor
namespace Go.Abs

end Go.Abs
namespace Go.Proofs.YtmdicgjnmfolfaaGreatDoor
open Go.Proofs.Tryz
open Go.Abs

end Go.Proofs.YtmdicgjnmfolfaaGreatDoor
end
namespace Go.Proofs.YtmdicgjnmfolfaaGreatDoor
open Go.Proofs.Tryz
open Go.Abs
def m1(p:M3):ByteArray×Bool:=if p.t=p.o then(p.o,false)else if p.t=p.b then(p.o,false)else if p.o=p.b then(p.t,false)else(p.b,true)
def zs(down:Bool):List Int:=if down then[2,1,0]else[0,1,2]
def aB0(m:List GObj)(down:Bool):List GObj:=(zs down).flatMap fun z=>m.filter fun o=>decide (o.kind.tdiv 2=z)
def Uy(b:List GObj)(o:GObj):Bool:=match aBZ b o.id with
 |some p=>!decide (p.kind=o.kind)||(decide (o.kind=5)&&!decide (o.refs=p.refs))
 |none=>false
def rnB(b:List GObj)(X:List ByteArray)(o:GObj):Bool:=Uy b o||o.refs.any (Dh X)
def rnL(b:List GObj):List ByteArray->List GObj->List ByteArray
 |X,[]=>X
 |X,o::L=>rnL b (if rnB b X o then X++[o.id]else X) L
def aAl(a b:List GObj):List ByteArray:=rnL b [] (aB0 a false)
section
section
variable{a b:List GObj}
def c1(k:GObj×GObj):GObj:=⟨k.1.id,k.1.kind,k.2.x,k.2.y,k.1.refs,k.1.tags⟩
def c2(k:GObj×GObj):GObj:=⟨k.1.id,k.1.kind,k.2.x,k.2.y,k.2.refs,k.1.tags⟩
def c3(k:GObj×GObj):GObj:=⟨k.1.id,k.1.kind,k.2.x,k.2.y,k.2.refs,k.2.tags⟩
end
end
theorem cK.valY{P}{N}{o}{E}{H H'}{b a}(h:cK P N o E H (.pv (.bool b)) H')(e:b=a):cK P N o E H (.pv (.bool a)) H':=e▸h
end Go.Proofs.YtmdicgjnmfolfaaGreatDoor
namespace Go.Proofs.YtmdicgjnmfolfaaGreatDoor
open Go.Proofs.Tryz
section
def Rk(u:List Nat)(i:Nat):Nat:=u.getD i i
def Xp:Nat->List Nat->Nat->Nat
 |0,_,i=>i
 |n+1,u,i=>if Rk u i=i then i else Xp n u (Rk u i)
def top(u:List Nat)(i:Nat):Nat:=Xp i u i
def aBf(u:List Nat):Prop:=∀i,Rk u i<=i
def Inv(L:Nat->Nat->Prop)(f:Nat->Nat):Prop:=∀i k,L i k->f i=f k
structure Snd(L:Nat->Nat->Prop)(u:List Nat):Prop where
 ok:aBf u
 sn:∀f,Inv L f->∀x,f (top u x)=f x
section
variable{S:Type}[DecidableEq S]
def Ms:List (S×Nat)->S->Option Nat
 | [],_=>none
 |(k,v)::r,s=>if k=s then some v else Ms r s
structure I1(L:Nat->Nat->Prop)(W:Nat->List S)(k m:Nat)(st:List Nat×List (S×Nat)):Prop where
 len:st.1.length=m
 snd:Snd L st.1
 at_:∀s j,Ms st.2 s=some j->j<m/\s∈W j
 has:∀j,j<k->∀s,s∈W j->(Ms st.2 s).isSome=true
structure I2(L:Nat->Nat->Prop)(F:List (S×Nat))(N:Nat->List S)(n k:Nat)(u:List Nat):Prop where
 len:u.length=n
 snd:Snd L u
 same:∀i,i<k->∀s,s∈N i->∀j,Ms F s=some j->top u i=top u j
end
end
def Ps(f:Nat->Nat)(n:Nat):List Nat:=(List.range n).filter fun i=>f i=i
def grp(f:Nat->Nat)(n r:Nat):List Nat:=(List.range n).filter fun j=>f j=r
def aB3(f:Nat->Nat)(n:Nat):List (List Nat):=(Ps f n).map (grp f n)
def aCK(f:Nat->Nat)(n x:Nat):Nat:=(Ps f n).idxOf (f x)
end Go.Proofs.YtmdicgjnmfolfaaGreatDoor
namespace Go.Proofs.YtmdicgjnmfolfaaGreatDoor
open Go.Proofs.Tryz
open Go.Abs
theorem MA{l}(h:kP l=true):0<l.length/\l.length<=200/\∀e∈l,dT e=true:=by
 rw[kP,aCo]at h
 grind
end Go.Proofs.YtmdicgjnmfolfaaGreatDoor
namespace Go.Proofs.YtmdicgjnmfolfaaGreatDoor
open Go.Proofs.Tryz
open Go.Abs Go.Lib
theorem Se(u:Nat):∀H,u<1000000000->RC 186 [iv (u:Int)] (sv (ofL (decDigits u))) H:=by
 induction u using Nat.strongRecOn with
 | ind u g =>
  intro H hu;refine Pu ?_;refine Bd func186 rfl ntmps186<|Sz aH<|Sq<|Sd aC<|Zd cJ ?_;refine Cn ?_ ?_<;>intro d
  ·have f:u<10:=by have:=aCb d;omega
   have h10:(⟨#[48,49,50,51,52,53,54,55,56,57]⟩:ByteArray).size=10:=rfl;have i:(⟨#[48,49,50,51,52,53,54,55,56,57]⟩:ByteArray).extract u (u+1)=ofL (decDigits u):=by
    rw[decDigits,dif_pos f];have h:u=0\/u=1\/u=2\/u=3\/u=4\/u=5\/u=6\/u=7\/u=8\/u=9:=by omega
    rcases h with rfl|rfl|rfl|rfl|rfl|rfl|rfl|rfl|rfl|rfl<;>rfl
   exact Sd aC<|Dd aC<|Dd iF<|Dd (by exact cB (l:=u) (h:=u+1) rfl underlying9 rfl rfl rfl (by omega) (by omega) i)<|Zd aH<|aB<|Rt<|Qq
  have f:¬ u<10:=by have:=aCc d;omega
  have j:IntKind.i64.wrap ((u:Int).tdiv 10)=((u / 10:Nat):Int):=by
   rw[show (u:Int).tdiv 10=((u / 10:Nat):Int)from rfl];exact lI (by omega) (by omega)
  have hs1:(ofL (decDigits (u / 10))).size<=9:=by rw[cM];exact dF (by omega) (by decide)
  have hs2:(ofL (decDigits (u % 10))).size<=1:=by rw[cM];exact dF (by omega) (by decide)
  have k:ofL (decDigits (u / 10))++ofL (decDigits (u % 10))=ofL (decDigits u):=ja (by
   rw[show (ofL (decDigits (u / 10))++ofL (decDigits (u % 10))).data.toList=(ofL (decDigits (u / 10))).data.toList++(ofL (decDigits (u % 10))).data.toList by simp,dD,dD,dD];rw[show decDigits u=decDigits (u / 10)++[UInt8.ofNat (48+u % 10)]by rw[decDigits,dif_neg f]];congr 1;rw[decDigits,dif_pos (by omega)])
  exact aA<|Sd aC<|Dd (by exact vP rfl rfl rfl (by decide) j)<|Dd (kc FO (g (u / 10) (by omega) _ (by omega)))<|Dd aC<|Dd (by exact tX rfl rfl rfl (by decide) (rfl:(u:Int).tmod 10=((u % 10:Nat):Int)))<|Dd (kc FO (g (u % 10) (by omega) _ (by omega)))<|Dd (by exact fM rfl rfl rfl (by omega) k)<|Zd aH<|aB<|Rt<|Qq
theorem AU{a:List _}{k}{w}(h:a[k]?=some w):ofL (bU [32] (bs (a.take (k+1))))=(if 0<k then ofL (bU [32] (bs (a.take k)))++⟨#[32]⟩else ofL (bU [32] (bs (a.take k))))++w:=by
 have b:=(aCj.1 h).1;refine ja ?_;rw[List.take_add_one,h,bs];cases k with
 |zero =>
  simp[bU,bs,ofL]
 | succ k =>
  cases a with
  |nil=>cases b
  |cons x l =>
   simp[ofL,bs,bU]
theorem EF(a:List ByteArray)(H:aG)(hb:cZ a+a.length<1099511627776):RC 185 [.pv (aU a)] (sv (ofL (bU [32] (bs a)))) H:=by
 refine Pu ?_;have hmw:(a.map encStr).length=a.length:=aCf _;refine Bd func185 rfl ntmps185<|Sz aH<|Sz aH<|Sq<|Sz aH<|aE ?_;refine bJ (σ:=Nat) (fun k=>([(0,.pv (aU a)),(3,sv (ofL (bU [32] (bs (a.take k))))),(4,iv (k:Int))],[])) (fun k=>k<=a.length) (fun k=>a.length - k) 0 (aCw _) ?_ ?_
 ·exact Wk
 rintro k hk;have hsz:(ofL (bU [32] (bs (a.take k)))).size<=cZ a+a.length:=by
  rw[cM];have m:=fK (a.take k);have n:=nH a k;have h3:(a.take k).length<=a.length:=by simp_all
  omega
 refine Sq<|Sd aC<|Dd aC<|Dd (eR aD)<|Zd cJ ?_;refine Cn ?_ ?_<;>intro g
 ·have h:k<a.length:=by have:=aCb g;omega
  obtain ⟨w,j⟩:=aT h;have hiw:=cE (f:=encStr) j;have d:=AU j;have hws:w.size<=cZ a:=by
   have m:=wR j;have n:=nH a (k+1);omega
  have h32:(⟨#[32]⟩:ByteArray).size=1:=rfl;have hs2:(ofL (bU [32] (bs (a.take k)))++⟨#[32]⟩).size=(ofL (bU [32] (bs (a.take k)))).size+1:=by simp_all
  refine aA<|Sq<|aE<|Sq<|Sd aC<|Zd gX ?_;refine Cn ?_ ?_<;>intro f
  ·have i:0<k:=by have:=aCb f;omega
   rw[aCe i]at d;refine Rd aC<|Dd kq<|Zd aH<|Rd aC<|Dd aC<|Dd aC<|Dd (jE bT)<|Dd (fO isAgg9)<|Dd kq<|Zd aH<|Rd aC<|Dd iF<|Da ?_;refine⟨k+1,by omega,by omega,?_⟩;rw[d];exact Wk
  have i:¬ 0<k:=by have:=aCc f;omega
  rw[aCd i]at d;refine aA<|Rd aC<|Dd aC<|Dd aC<|Dd (jE bT)<|Dd (fO isAgg9)<|Dd kq<|Zd aH<|Rd aC<|Dd iF<|Da ?_;refine⟨k+1,by omega,by omega,?_⟩;rw[d];exact Wk
 have l:k=a.length:=by have:=aCc g;omega
 subst l;rw[List.take_length];exact aS<|Sd aC<|Zd aH<|aB<|Rt<|Qq
end Go.Proofs.YtmdicgjnmfolfaaGreatDoor
namespace Go.Proofs.YtmdicgjnmfolfaaGreatDoor
open Go.Proofs.Tryz
open Go.Abs
def P7(s:ByteArray)(n:Int):Bool:=(List.range s.size).any fun j=>decide (bH s j=n)
theorem Dp(s)(n:Int)(H:aG)(hs:s.size<4611686018427387904):RC 244 [sv s,.pv (.int .u8 n)] (bv (P7 s n)) H:=by
 refine Pu ?_;refine Bd func244 rfl ntmps244<|Sz aH<|Sq<|Sz aH<|aE ?_;refine bJ (σ:=Nat) (fun k=>([(0,sv s),(1,.pv (.int .u8 n)),(5,iv (k:Int))],[])) (fun k=>k<=s.size/\∀j,j<k->decide (bH s j=n)=false) (fun k=>s.size - k) 0 ⟨by omega,by omega⟩ ?_ ?_
 ·exact E0
 rintro k ⟨hk,e⟩;refine Sq<|Sd aC<|Dd aC<|Dd (gF underlying9)<|Zd cJ ?_;refine Cn ?_ ?_<;>intro b
 ·have f:k<s.size:=by have:=aCb b;omega
  refine aA<|Sq<|aE<|Sd aC<|Dd aC<|Dd (cR rfl underlying9 rfl rfl (by omega) (rfl) (by omega) rfl)<|Dd aC<|Zd cF ?_;refine Cn ?_ ?_<;>intro c
  ·refine Sz aH<|aB<|Rt ?_;exact⟨by rw[P7,tE f c],rfl⟩
  refine aA<|Rd aC<|Dd iF<|Da ?_;refine⟨k+1,⟨by omega,fun j hj=>?_⟩,by omega,E0⟩
  grind
 have d:k=s.size:=by have:=aCc b;omega
 subst d;refine aS<|Sz aH<|aB<|Rt ?_;exact⟨by rw[P7,AE e],rfl⟩
theorem Mo:∀n:Fin 256,(P7 ⟨#[32,9,10]⟩ (n.val:Int)=decide (xN (n.val)=1))/\(decide ((n.val:Int)=35)=decide (xN (n.val)=2))/\(P7 ⟨#[59,44,46,58,40,41,123,125,91,93,61,60,62,47,45]⟩ (n.val:Int)=decide (xN (n.val)=6))/\(decide ((n.val:Int)=34)=decide (xN (n.val)=7))/\(P7 ⟨#[92,34,110]⟩ (n.val:Int)=(sD (UInt8.ofNat n.val)).isSome):=by decide +kernel
theorem W3(s)(k):(P7 ⟨#[32,9,10]⟩ (bH s k)=decide (xN (bH s k)=1))/\(decide (bH s k=35)=decide (xN (bH s k)=2))/\(P7 ⟨#[59,44,46,58,40,41,123,125,91,93,61,60,62,47,45]⟩ (bH s k)=decide (xN (bH s k)=6))/\(decide (bH s k=34)=decide (xN (bH s k)=7))/\(P7 ⟨#[92,34,110]⟩ (bH s k)=(sD (oE s k)).isSome):=by
 have h:=Mo ⟨(bH s k).toNat,A4 s k⟩;have e:UInt8.ofNat (bH s k).toNat=oE s k:=by rw[sO,aCq,UInt8.ofNat_toNat]
 rw[e]at h;exact h
theorem szW(w:List _):(⟨w.toArray⟩:ByteArray).size=w.length:=rfl
theorem D6(w)(t):(⟨w.toArray⟩:ByteArray)++t=⟨(w++t.data.toList).toArray⟩:=pD (rfl)
theorem ar{s}{i}(h:i<s.size):(s.extract i (i+1)).data.toList=[oE s i]:=by rw[jS,Nat.add_sub_cancel_left,xL h];rfl
theorem lq(s:ByteArray)(f:Nat)(H:aG)(hs:s.size<1099511627776)(ha:f<s.size):RC 245 [sv s,iv (f:Int)] (.tup [sv (wN (nG (s.data.toList.drop (f+1))) [] (f+1)).1,iv (wN (nG (s.data.toList.drop (f+1))) [] (f+1)).2,bv (nG (s.data.toList.drop (f+1))).isSome]) H:=by
 refine Pu ?_;obtain ⟨j,x⟩:∃j,j=wN (nG (s.data.toList.drop (f+1))) [] (f+1):=⟨_,rfl⟩;obtain ⟨ok,E⟩:∃ok,ok=(nG (s.data.toList.drop (f+1))).isSome:=⟨_,rfl⟩;rw[<-x,<-E];refine Bd func245 rfl ntmps245<|Sd aH<|Dd aH<|Zd aH<|Sz aH<|Sq<|Sd aC<|Dd iF<|Zd aH<|aE ?_;refine fZ (fun(i:Nat) (w:List UInt8)=>([(0,sv s),(7,sv ⟨w.toArray⟩),(8,iv (i:Int))],[])) (fun i w=>w.length<=i/\i<2199023255552/\j=wN (nG (s.data.toList.drop i)) w i/\ok=(nG (s.data.toList.drop i)).isSome) (fun i w=>s.size+1 - i) (f+1) [] ⟨aCw _,by omega,x,E⟩ ?_ ?_
 ·exact E0
 rintro i w ⟨hwl,hib,d,a⟩;have hsw:=szW w;refine Sq<|Sd aC<|Dd aC<|Dd (gF underlying9)<|Zd cJ ?_;refine Cn ?_ ?_<;>intro M
 ·have F:i<s.size:=by have:=aCb M;omega
  have o:=xL F;have Q:=ar F;have L:(⟨w.toArray⟩:ByteArray)++s.extract i (i+1)=⟨(w++[oE s i]).toArray⟩:=by rw[D6,Q]
  have hxs:=fL s i (i+1);refine aA<|Sq<|aE<|Sd aC<|Dd aC<|Dd (ky underlying9)<|Zd aH<|Sq<|Sd aC<|Zd cF ?_;refine Cn ?_ ?_<;>intro N
  ·have n:oE s i=34:=aCb (A5 (n:=34) (by decide) N);have t:j=(⟨w.toArray⟩,((i+1:Nat):Int)):=by rw[d,o,n,BF,wN,List.append_nil]
   have g:ok=true:=by rw[a,o,n,BF];rfl
   rw[t,g];refine Sd aC<|Dd aC<|Dd iF<|Dd aH<|Dd aH<|Zd aH<|aB ?_;refine lH (H':=[]) (.inr rfl) rfl (aJ rfl) (aJ rfl) (aJ rfl) (Fin.wk (by simp) trivial trivial) ?_;exact Qq
  have y:oE s i≠34:=aCc (A5 (n:=34) (by decide) N);refine aA<|Sq<|Sd aC<|Zd cF ?_;refine Cn ?_ ?_<;>intro K
  ·have n:oE s i=10:=aCb (A5 (n:=10) (by decide) K);have t:j=(sNil,0):=by rw[d,o,n,JS,wN]
   have g:ok=false:=by rw[a,o,n,JS];rfl
   rw[t,g];refine Sd aH<|Dd aH<|Zd aH<|aB ?_;refine lH (H':=[]) (.inr rfl) rfl (aJ rfl) (aJ rfl) (aJ rfl) (Fin.wk (by simp) trivial trivial) ?_;exact Qq
  have v:oE s i≠10:=aCc (A5 (n:=10) (by decide) K);refine aA<|Sq<|Sd aC<|Zd rI ?_;refine Cn ?_ ?_<;>intro hc4
  ·have z:oE s i≠92:=by
    have h:decide (bH s i=92)=false:=by simp_all
    exact aCc (A5 (n:=92) (by decide) h)
   refine Sd aC<|Dd aC<|Dd aC<|Dd aC<|Dd iF<|Dd (by exact cB (l:=i) (h:=(i+1)) rfl underlying9 rfl rfl rfl (by omega) (by omega) rfl)<|Dd (by exact fM rfl rfl rfl (by omega) L)<|Zd aH<|aS<|Rd aC<|Dd iF<|Da ?_;refine⟨i+1,w++[oE s i],⟨by simp_all,by omega,?_,?_⟩,by omega,E0⟩
   ·rw[d,o,BG y v z,zY]
   rw[a,o,BG y v z,Option.isSome_map]
  have n:oE s i=92:=by
   have h:decide (bH s i=92)=true:=by simp_all
   exact aCb (A5 (n:=92) (by decide) h)
  by_cases J:i+1<s.size
  ·have p:decide ((s.size:Int)<=(i:Int)+1)=false:=decide_eq_false (by omega);have q:=xL J;have G:=(W3 s (i+1)).2.2.2.2;have P:=ar J;have hxs2:=fL s (i+1) (i+1+1);have B:(⟨w.toArray⟩:ByteArray)++s.extract (i+1) (i+1+1)=⟨(w++[oE s (i+1)]).toArray⟩:=by rw[D6,P]
   have A:(⟨w.toArray⟩:ByteArray)++⟨#[10]⟩=⟨(w++[10]).toArray⟩:=by rfl
   refine aA<|Sd aC<|Dd iF<|Zd aH<|Sq<|Sd aC<|Dd aC<|Dd (gF underlying9)<|Dd (by exact cK.valY (by exact jF rfl rfl rfl) (p))<|Dd aC<|On aC<|On aC<|On (ky underlying9)<|On (by exact bL rfl rfl aBj rfl (Dp ⟨#[92,34,110]⟩ (bH s (i+1)) _ (by decide)))<|On iJ<|Zd cD ?_;refine Cn ?_ ?_<;>intro R
   ·have S:sD (oE s (i+1))=none:=by
     simp_all
    have t:j=(sNil,0):=by rw[d,o,n,q,tT,S];rfl
    have g:ok=false:=by rw[a,o,n,q,tT,S];rfl
    rw[t,g];refine Sd aH<|Dd aH<|Zd aH<|aB ?_;refine lH (H':=[]) (.inr rfl) rfl (aJ rfl) (aJ rfl) (aJ rfl) (Fin.wk (by simp) trivial trivial) ?_;exact Qq
   obtain ⟨b,l⟩:∃b,sD (oE s (i+1))=some b:=by
    rw[G]at R;cases l:sD (oE s (i+1))with
    |none=>simp_all
    |some b=>simp_all
   refine aA<|Sd aC<|Dd aC<|Dd (ky underlying9)<|Zd cF ?_;refine Cn ?_ ?_<;>intro I
   ·have D:oE s (i+1)=110:=aCb (A5 (n:=110) (by decide) I);have C:b=10:=by rw[D]at l;exact(Option.some.inj l).symm
    refine Rd aC<|Dd (by exact fM rfl rfl rfl (by show (⟨w.toArray⟩:ByteArray).size+1<=_;omega) A)<|Zd aH<|Rd aC<|Dd iF<|Da ?_;refine⟨i+1+1,w++[10],⟨by rw[aCg,List.length_singleton];omega,by omega,?_,?_⟩,by omega,E0⟩
    ·rw[d,o,n,q,tT,l,C];exact zY
    rw[a,o,n,q,tT,l];exact Option.isSome_map
   have D:oE s (i+1)≠110:=aCc (A5 (n:=110) (by decide) I);have C:b=oE s (i+1):=by
    rw[sD]at l
    split at l
    ·rename_i e;rw[e];exact(Option.some.inj l).symm
    split at l
    ·rename_i e;rw[e];exact(Option.some.inj l).symm
    first
    |cases l
    |(rw[aCd D]at l;cases l)
   refine Rd aC<|Dd aC<|Dd aC<|Dd aC<|Dd iF<|Dd (by exact cB (l:=(i+1)) (h:=(i+1+1)) rfl underlying9 rfl rfl rfl (by omega) (by omega) rfl)<|Dd (by exact fM rfl rfl rfl (by omega) B)<|Zd aH<|Rd aC<|Dd iF<|Da ?_;refine⟨i+1+1,w++[oE s (i+1)],⟨by rw[aCg,List.length_singleton];omega,by omega,?_,?_⟩,by omega,E0⟩
   ·rw[d,o,n,q,tT,l,C];exact zY
   rw[a,o,n,q,tT,l]
   simp_all
  have p:decide ((s.size:Int)<=(i:Int)+1)=true:=decide_eq_true (by omega);have t:j=(sNil,0):=by rw[d,o,n,A1 (by omega)];rfl
  have g:ok=false:=by rw[a,o,n,A1 (by omega)];rfl
  rw[t,g];refine aA<|Sd aC<|Dd iF<|Zd aH<|Sq<|Sd aC<|Dd aC<|Dd (gF underlying9)<|Dd (by exact cK.valY (by exact jF rfl rfl rfl) (p))<|Dd aC<|Fo<|Fo<|Fo<|Fo<|Fo<|Zd cD ?_;refine Cn ?_ ?_<;>intro O
  ·refine Sd aH<|Dd aH<|Zd aH<|aB ?_;refine lH (H':=[]) (.inr rfl) rfl (aJ rfl) (aJ rfl) (aJ rfl) (Fin.wk (by simp) trivial trivial) ?_;exact Qq
  ((cases O;done))
 have p:s.size<=i:=by have:=aCc M;omega
 have t:j=(sNil,0):=by rw[d,A1 p];rfl
 have g:ok=false:=by rw[a,A1 p];rfl
 rw[t,g];refine aS<|Sd aH<|Dd aH<|Zd aH<|aB ?_;refine lH (H':=[]) (.inr rfl) rfl (aJ rfl) (aJ rfl) (aJ rfl) (Fin.wk (by simp) trivial trivial) ?_;exact Qq
theorem J5(s:ByteArray)(H:aG)(G:s.size<17592186044416):RC 187 [sv s] (sv ⟨(cX s.data.toList).toArray⟩) H:=by
 refine Pu ?_;have hsl:=bC s;refine Bd func187 rfl ntmps187<|Sz aH<|Sz aH<|Sz aH<|Sq<|Sz aH<|aE ?_;refine A6 (fun(i f:Nat) (w:List UInt8)=>([(0,sv s),(3,sv ⟨w.toArray⟩),(4,iv (f:Int)),(5,iv (i:Int))],[])) (fun i f w=>f<=i/\i<=s.size/\w.length<=(kR s i).length/\w++(s.data.toList.drop f).take (i - f)=kR s i) (fun i f w=>s.size - i) 0 0 [34] ⟨aCl _,aCw _,aCl _,rfl⟩ ?_ ?_
 ·exact E0
 rintro i f w ⟨hf,hi,hwl,k⟩;have hq:=ZF (s:=s) (k:=i) G;have hsw:=szW w;refine Sq<|Sd aC<|Dd aC<|Dd (gF underlying9)<|Zd cJ ?_;refine Cn ?_ ?_<;>intro x
 ·have e:i<s.size:=by have:=aCb x;omega
  have d:=TH e;have g:=jS s f i;have c:(⟨w.toArray⟩:ByteArray)++s.extract f i=⟨(kR s i).toArray⟩:=by rw[D6,g,k]
  have B:=szW (kR s i);have o:(⟨(kR s i).toArray⟩:ByteArray)++⟨#[92,110]⟩=⟨(kR s i++[92,110]).toArray⟩:=by rfl
  have p:(⟨(kR s i).toArray⟩:ByteArray)++⟨#[92]⟩=⟨(kR s i++[92]).toArray⟩:=by rfl
  have A:=fL s f i;refine aA<|Sq<|aE<|Sd aC<|Dd aC<|Dd (ky underlying9)<|Zd cF ?_;refine Cn ?_ ?_<;>intro q
  ·have v:oE s i=10:=aCb (A5 (n:=10) (by decide) q);have t:pN (oE s i)=[92,110]:=by rw[pN,aCe v]
   rw[t]at d;refine Sd aC<|Dd aC<|Dd aC<|Dd aC<|Dd (by exact cB (l:=f) (h:=i) rfl underlying9 rfl rfl rfl (by omega) (by omega) rfl)<|Dd (by exact fM rfl rfl rfl (by omega) c)<|Dd (by exact fM rfl rfl rfl (by show (⟨(kR s i).toArray⟩:ByteArray).size+2<=_;omega) o)<|Zd aH<|Rd aC<|Dd iF<|Zd aH<|Rd aC<|Dd iF<|Da ?_;refine⟨i+1,i+1,kR s i++[92,110],⟨aCl _,e,by simp_all,by simp_all⟩,by omega,E0⟩
  have n:¬ oE s i=10:=aCc (A5 (n:=10) (by decide) q);refine Sq ?_;refine aQ (t:=34) (n:=11) (X:=decide (bH s i=34)||decide (bH s i=92)) ?_ ?_
  ·all_goals refine Dd aC ?_
   all_goals refine Dd aC<|Dd (ky underlying9)<|Dd cF<|Dm ?_<;>(refine Sp 29 (fun C=>?_) fun C=>?_)<;>(first|contradiction|refine Fo<|Fo<|Fo<|Fo ?_|refine On aC<|On aC<|On (ky underlying9)<|On cF ?_)<;>refine Zd cD ?_<;>(exact⟨⟨_,rfl,by simp_all⟩,rfl,rfl,rfl⟩)
  refine Cn ?_ ?_<;>intro j
  ·have v:oE s i=34\/oE s i=92:=by
    rw[Bool.or_eq_true]at j;rcases j with h|h
    ·exact .inl (aCb (A5 (n:=34) (by decide) h))
    exact .inr (aCb (A5 (n:=92) (by decide) h))
   have t:pN (oE s i)=[92,oE s i]:=by rw[pN,aCd n,aCe v]
   rw[t]at d;refine Sd aC<|Dd aC<|Dd aC<|Dd aC<|Dd (by exact cB (l:=f) (h:=i) rfl underlying9 rfl rfl rfl (by omega) (by omega) rfl)<|Dd (by exact fM rfl rfl rfl (by omega) c)<|Dd (by exact fM rfl rfl rfl (by show (⟨(kR s i).toArray⟩:ByteArray).size+1<=_;omega) p)<|Zd aH<|Rd aC<|Zd aH<|Rd aC<|Dd iF<|Da ?_;refine⟨i+1,i,kR s i++[92],⟨Nat.le_succ _,e,by simp_all,by rw[d,Nat.add_sub_cancel_left,xL e,List.append_assoc];rfl⟩,by omega,E0⟩
  have v:¬ (oE s i=34\/oE s i=92):=by
   rw[aDB]at j;rintro(h|h)
   ·exact absurd h (aCc (A5 (n:=34) (by decide) j.1))
   exact absurd h (aCc (A5 (n:=92) (by decide) j.2))
  have t:pN (oE s i)=[oE s i]:=by rw[pN,aCd n,aCd v]
  rw[t]at d;have z:(s.data.toList.drop f).take (i+1 - f)=(s.data.toList.drop f).take (i - f)++[oE s i]:=by
   have F:i+1 - f=(i - f)+1:=by omega
   have D:(s.data.toList.drop f)[i - f]?=some (oE s i):=by
    rw[List.getElem?_drop,show f+(i - f)=i by omega];have E:=xL e;exact(P5 E).1
   rw[F,List.take_add_one,D];rfl
  refine aA<|Rd aC<|Dd iF<|Da ?_;refine⟨i+1,f,w,⟨by omega,e,by rw[d,aCg];omega,by rw[z,<-List.append_assoc,k,d]⟩,by omega,E0⟩
 have y:i=s.size:=by have:=aCc x;omega
 subst y;have g:=jS s f s.size;have c:(⟨w.toArray⟩:ByteArray)++s.extract f s.size=⟨(kR s s.size).toArray⟩:=by rw[D6,g,k]
 have B:=szW (kR s s.size);have A:=fL s f s.size;have u:(⟨(kR s s.size).toArray⟩:ByteArray)++⟨#[34]⟩=⟨(cX s.data.toList).toArray⟩:=by
  rw[D6,kR,List.take_of_length_le (by omega),cX];rfl
 exact aS<|Sd aC<|Dd aC<|Dd aC<|Dd (by exact cB (l:=f) (h:=s.size) rfl underlying9 rfl rfl rfl (by omega) (by omega) rfl)<|Dd (by exact fM rfl rfl rfl (by omega) c)<|Dd (by exact fM rfl rfl rfl (by show (⟨(kR s s.size).toArray⟩:ByteArray).size+1<=_;omega) u)<|Zd aH<|aB<|Rt<|Qq
abbrev oBx(o:GObj):Ob:=bx 6 151 ((bG o).map .pv)
def RQ(l:List ByteArray):List (List AV):=l.map fun s=>[sv s]
theorem VU(l):(RQ l).length=l.length:=aCf _
theorem lD(H)(l):∀r∈RQ l,∀a∈r,Clo H a:=by intro r c a b;obtain ⟨x,_,rfl⟩:=List.mem_map.1 c;rw[aCi]at b;subst b;simp
theorem VV{l}{k:Nat}{s}(h:l[k]?=some s):(RQ l)[k]?=some [sv s]:=by rw[RQ,aCz,h];rfl
theorem VW(l)(s):RQ l++[(encStr s).map AV.pv]=RQ (l++[s]):=by rw[RQ,RQ,List.map_append];rfl
theorem zd(l):RQ l=(l.map encStr).map (·.map .pv):=by rw[List.map_map];rfl
theorem fmC{α β:Type}{f g:α->List β}:∀ {l:List _},(∀x∈l,f x=g x)->l.flatMap f=l.flatMap g
 | [],_=>rfl
 |x::l,h=>by rw[List.flatMap_cons,List.flatMap_cons,h x List.mem_cons_self,fmC fun y a=>h y (List.mem_cons_of_mem _ a)]
end Go.Proofs.YtmdicgjnmfolfaaGreatDoor
namespace Go.Proofs.YtmdicgjnmfolfaaGreatDoor
open Go.Proofs.Tryz
open Go.Abs Go.Lib
theorem aAL{x}(h:0<=x):aY x=ofL (decDigits x.toNat):=by rw[aY,jL _ h];rfl
theorem NF(x)(H)(a:0<=x)(h1:x<1000000000):RC 186 [iv x] (sv (aY x)) H:=by obtain ⟨u,rfl⟩:=Int.eq_ofNat_of_zero_le a;exact Se u H (by omega)
def wO(o:GObj)(M:List ByteArray)(k:Nat):List ByteArray:=[dZ o.kind,o.id]++M++(o.tags.take k).map iH
theorem ko{o}{M}{k}{t}(h:o.tags[k]?=some t):wO o M (k+1)=wO o M k++[iH t]:=by rw[wO,List.take_add_one,h,List.map_append,<-List.append_assoc];rfl
theorem EM(a b):cZ (a++b)=cZ a+cZ b:=by rw[cZ,cZ,cZ,List.map_append,List.sum_append]
theorem gn{o}(d:nA o=true):eS o=if 20000<(C1 o).size then(sNil,2)else(C1 o,0):=by
 rw[eS,aCe d];by_cases h:0<o.tags.length/\(jH o.tags).2≠0
 ·have b:=(A0 d).2.2.1;rw[aCe h];have a:=h.2;rw[jH,aCe b]at a |-
  split at a
  ·next c =>
   rw[aCe c,aCe _];rw[C1,<-bC];rw[rG,aCg];cases e:o.tags with
   |nil=>simp_all
   |cons t l =>
    rw[e]at c;have:=SX t l;have f:=congrArg List.length this;rw[bC]at f;rw[mR,List.flatMap_cons,aCg,aCh];rw[aCg,mR]at f;omega
  exact absurd rfl a
 simp_all
theorem kr(o)(M):(ofL (bU [32] (bs (wO o M o.tags.length)))).data.toList=(dZ o.kind).data.toList++32::(o.id.data.toList++M.flatMap fun s=>32::s.data.toList)++mR o.tags:=by rw[dD,wO,List.take_length,List.cons_append,List.cons_append,bs,List.map_cons,bU];simp only[List.map_cons,List.map_append,List.flatMap_cons,List.flatMap_append,List.flatMap_map,List.nil_append,List.append_assoc,List.cons_append];congr 3;congr 1;refine fmC fun t _=>?_;rw[KK]
theorem kv{o}{M}(hM:(dZ o.kind).data.toList++32::(o.id.data.toList++M.flatMap fun s=>32::s.data.toList)=lF o):ofL (bU [32] (bs (wO o M o.tags.length)))=C1 o:=ja (by
 rw[kr,hM];rfl)
theorem T9:∀(l) (k),(bU [32] (bs (l.take k))).length<=(bU [32] (bs l)).length
 | [],k=>by simp
 |x::l,0=>aCw _
 |x::l,k+1=>by
  rw[List.take_succ_cons,xE,xE,aCg,aCg,E8,E8];have h1:=nH l k;have h2:(l.take k).length<=l.length:=by grind
  omega
theorem yH(a b:ByteArray):(a++b).size=a.size+b.size:=ByteArray.size_append
theorem BW(o:GObj)(H:aG)(ho:ZU o):RC 184 [av (bG o)] (.tup [sv (eS o).1,iv (eS o).2]) H:=by
 refine Pu ?_;have hmt:(o.tags.map bM).length=o.tags.length:=aCf _;have hmr:(o.refs.map encStr).length=o.refs.length:=aCf _;refine Bd func184 rfl ntmps184<|Sd (kb 1)<|Dd aH<|Zd aH<|Sq<|Sd (by exact aM rfl bZ sizeOf151 rfl rfl rfl rfl (by simp only[Zl,bM,bG,encStr,aZ,fS];rfl) rfl)<|Dd (kc call220 (Aa o _ ho))<|Zd iJ ?_;refine Cn ?_ ?_<;>intro hc1
 ·have N:nA o=false:=by have h:=hc1;rwa [aCy]at h
  have e:eS o=(sNil,1):=by rw[eS,aCd (by simp_all)]
  rw[e];exact Sd aH<|Zd aH<|aB<|Ru<|Qq
 have N:nA o=true:=by have h:=hc1;rwa [Bool.not_eq_false']at h
 obtain ⟨hr,ht,htg,hid,_⟩:=A0 N;obtain ⟨hx,hy,hn,hz⟩:=cg N;have D:=(zU (E4 N)).1;have hws:=dL D;have his:=dL hid;have hT:=gn N;have O:∀t∈o.tags,t.key.size<=24/\t.val.size<=200:=fun t ht=>by
  obtain ⟨p1,_,_⟩:=wI.1 htg;have:=p1 t ht;exact⟨dL this.1,this.2.2⟩
 have hTs:∀k,cZ ((o.tags.take k).map iH)<=60*427:=fun k=>by
  have h1:∀l:List GTag,(∀t∈l,t∈o.tags)->cZ (l.map iH)<=l.length*427:=by
   intro l
   induction l with
   |nil=>intro _;exact aCw _
   |cons t l ih =>
    intro h;rw[List.map_cons,cI,aCh,Nat.add_mul];have U:=ih fun x hx=>h x (List.mem_cons_of_mem _ hx);have M:=O t (h t List.mem_cons_self);have h4:=T5 M.1 M.2;omega
  have U:=h1 (o.tags.take k) fun t ht=>List.mem_of_mem_take ht;have M:(o.tags.take k).length<=60:=by grind
  have h4:(o.tags.take k).length*427<=60*427:=Nat.mul_le_mul_right _ M;omega
 refine aA<|Sq<|aL follows<|Cs (fun _ h=>fh dW h)<|Cs (fun _ h=>lh isAgg3 h)<|Cs (fun H1 hH=>by exact bL rfl rfl vp rfl (ER o.kind _))<|Cs (fun _ h=>fh oW h)<|Cs (fun _ h=>lh isAgg9 h) ?_;refine gW (r:=⟨_,none,[_]⟩) (DStep.plain rfl (fun H1 hH=>by exact fW (id:=901) rfl bT rfl rfl rfl rfl (by simp_all) ((hH _ rfl).trans rfl))) rfl ?_;refine Cs (fun _ _=>aH)<|bF<|Kr<|Sq<|Sq ?_;refine gC.ent (E':=[(1,.ref 1 0 0 0),(4,.osl 901 0 0 2)]) (H':=[(901,⟨0,1,9,RQ [dZ o.kind,o.id]⟩),(1,oBx o)]) (cQ.wk (Ea<|Ea<|trivial) (Hc (lD _ _)<|Hb<|trivial) trivial) ?_;refine Rd (aV dW)<|Dd (bD isAgg3)<|Zd cF ?_;refine Cn ?_ ?_<;>intro X
 ·have hk:o.kind=1:=aCb X;have Rv:(aY o.x).size<=7:=by rw[<-bC];show (Lib.itoa o.x).length<=7;rw[jL _ hx.1];exact dF (by omega) (by decide)
  have siy:(aY o.y).size<=7:=by rw[<-bC];show (Lib.itoa o.y).length<=7;rw[jL _ hy.1];exact dF (by omega) (by decide)
  have hMs:cZ [aY o.x,aY o.y]=(aY o.x).size+((aY o.y).size+0):=by rw[cI,cI];rfl
  have hMl:([aY o.x,aY o.y]:List ByteArray).length=2:=rfl;have Q:(dZ o.kind).data.toList++32::(o.id.data.toList++([aY o.x,aY o.y]:List ByteArray).flatMap fun s=>32::s.data.toList)=lF o:=by
   rw[lF,aCe hk];simp[aY]
  have hFT:eS o=if 20000<(ofL (bU [32] (bs (wO o [aY o.x,aY o.y] o.tags.length)))).size then(sNil,2)else(ofL (bU [32] (bs (wO o [aY o.x,aY o.y] o.tags.length))),0):=by rw[kv Q];exact hT
  refine aL follows<|Cs (fun _ _=>aC)<|Cs (fun _ h=>fh lV h)<|Cs (fun _ h=>fh pC h)<|Cs (fun _ h=>lh isAgg3 h)<|Cs (fun H1 hH=>by exact bL rfl rfl FO rfl (NF o.x _ (by omega) (by omega)))<|Cs (fun _ h=>fh lV h)<|Cs (fun _ h=>fh pB h)<|Cs (fun _ h=>lh isAgg3 h)<|Cs (fun H1 hH=>by exact bL rfl rfl FO rfl (NF o.y _ (by omega) (by omega)))<|Cs (fun H1 hH=>by exact aN [encStr (aY o.x),encStr (aY o.y)] rfl bT rfl rfl rfl rfl rfl (by intro r hr;simp only[aCr,aCv,or_false]at hr;rcases hr with rfl|rfl<;>rfl)) ?_;refine gW (r:=⟨_,none,[_]⟩) (DStep.plain rfl (fun H1 hH=>by exact cG (ps:=[encStr (aY o.x),encStr (aY o.y)]) rfl bT zT rfl ((hH _ rfl).trans rfl) rfl rfl rfl rfl rfl (by intro r hr;simp only[aCr,aCv,or_false]at hr;rcases hr with rfl|rfl<;>rfl) (m:=2) rfl (by omega) rfl (rfl:_=RQ (wO o [aY o.x,aY o.y] 0)))) rfl ?_;refine Cs (fun _ _=>aH)<|bF<|Kr<|Sq<|Sz aH<|aE ?_;have hMs2:cZ ([dZ o.kind,o.id]++[aY o.x,aY o.y])<=70000:=by rw[EM];have:cZ [dZ o.kind,o.id]=(dZ o.kind).size+(o.id.size+0):=(by rw[cI,cI];rfl);omega
  have K:∀k,k<=o.tags.length->(wO o [aY o.x,aY o.y] k).length<=64:=fun k hk=>by rw[wO,aCg,aCg,aCf,aCt];show 2+_+_<=_;omega
  have R:∀k,cZ (wO o [aY o.x,aY o.y] k)<=100000:=fun k=>by
   rw[wO,EM];have h1:=hTs k;omega
  refine bJ (σ:=Nat) (fun k=>([(1,.ref 1 0 0 0),(4,.osl 901 (1+k) 0 (wO o [aY o.x,aY o.y] k).length),(7,iv (k:Int))],[(901,⟨1+k,1,9,RQ (wO o [aY o.x,aY o.y] k)⟩),(1,oBx o)])) (fun k=>k<=o.tags.length) (fun k=>o.tags.length - k) 0 (aCw _) ?_ ?_
  ·exact(cQ.wk (Ea<|Ea<|Eb<|trivial) (Hc (lD _ _)<|Hb<|trivial) trivial)
  rintro k hk;have P:=K k hk;refine Sq<|Sd aC<|Dd (aV eT)<|Dd (bD cU)<|Dd (eR cY)<|Zd cJ ?_;refine Cn ?_ ?_<;>intro hc3
  ·have hlt:k<o.tags.length:=by have:=aCb hc3;omega
   obtain ⟨t,ht⟩:=aT hlt;have hit:=cE (f:=bM) ht;have hnx:=ko (M:=[aY o.x,aY o.y]) ht;have L:(wO o [aY o.x,aY o.y] k++[iH t]).length=(wO o [aY o.x,aY o.y] k).length+1:=by rw[aCg];rfl
   obtain ⟨hks,hvs⟩:=O t (aCp ht);have hq:=qD t.val;have h61:(⟨#[61]⟩:ByteArray).size=1:=rfl;have hk1:(t.key++(⟨#[61]⟩:ByteArray)).size=t.key.size+1:=yH _ _;refine aA<|Sq<|aE<|aL follows<|Cs (fun _ _=>aC)<|Cs (fun _ h=>fh eT h)<|Cs (fun _ h=>lh cU h)<|Cs (fun _ _=>aC)<|Cs (fun _ _=>(jE jX))<|Cs (fun _ _=>(C2 nW))<|Cs (fun _ _=>(fO isAgg9))<|Cs (fun H1 hH=>by exact fM rfl rfl rfl (by omega) rfl)<|Cs (fun _ h=>fh eT h)<|Cs (fun _ h=>lh cU h)<|Cs (fun _ _=>aC)<|Cs (fun _ _=>(jE jX))<|Cs (fun _ _=>(C2 oU))<|Cs (fun _ _=>(fO isAgg9))<|Cs (fun H1 hH=>by exact bL rfl rfl aBl rfl (J5 t.val _ (by omega)))<|Cs (fun H1 hH=>by exact fM rfl rfl rfl (by omega) rfl)<|Cs (fun H1 hH=>by exact aN [encStr (iH t)] rfl bT rfl rfl rfl rfl rfl (by intro r hr;rw[aCi]at hr;subst hr;rfl)) ?_;refine gW (r:=⟨_,none,[_]⟩) (DStep.plain rfl (fun H1 hH=>by exact cG (ps:=[encStr (iH t)]) rfl bT zT rfl ((hH _ rfl).trans rfl) rfl rfl rfl (VU _) rfl (by intro r hr;rw[aCi]at hr;subst hr;rfl) (m:=1) rfl (by omega) rfl (VW _ (iH t)))) rfl ?_;refine Cs (fun _ _=>aH)<|bF<|Kr<|Rd aC<|Dd iF<|Da ?_;refine⟨k+1,by omega,by omega,?_⟩;rw[hnx,L];exact(cQ.wk (Ea<|Ea<|Eb<|trivial) (Hc (lD _ _)<|Hb<|trivial) trivial)
  have hge:k=o.tags.length:=by have:=aCc hc3;omega
  subst hge;obtain ⟨W,hW⟩:∃W,W=wO o [aY o.x,aY o.y] o.tags.length:=⟨_,rfl⟩;have hWs2:=R o.tags.length;rw[<-hW]at P hWs2 hFT;rw[<-hW];obtain ⟨F,hF⟩:∃F,F=ofL (bU [32] (bs W)):=⟨_,rfl⟩;rw[<-hF]at hFT;refine aS<|Sz aH<|Sq<|Sz aH<|aE ?_;refine bJ (σ:=Nat) (fun k=>([(4,.osl 901 (1+o.tags.length) 0 W.length),(8,sv (ofL (bU [32] (bs (W.take k))))),(9,iv (k:Int))],[(901,⟨1+o.tags.length,1,9,RQ W⟩)])) (fun k=>k<=W.length) (fun k=>W.length - k) 0 (aCw _) ?_ ?_
  ·exact(cQ.wk (Ea<|Eb<|Eb<|trivial) (Hc (lD _ _)<|trivial) trivial)
  rintro k hk;have hsz:(ofL (bU [32] (bs (W.take k)))).size<=100064:=by
   rw[cM];have h1:=fK (W.take k);have U:=nH W k;have M:(W.take k).length<=W.length:=by rw[aCt];exact Nat.min_le_right _ _
   omega
  refine Sq<|Sd aC<|Dd aC<|Dd (by exact dU rfl aD rfl rfl rfl)<|Zd cJ ?_;refine Cn ?_ ?_<;>intro Z
  ·have hlt:k<W.length:=by have:=aCb Z;omega
   obtain ⟨w,D⟩:=aT hlt;have hiw:=VV D;have hnx:=AU D;have hws:w.size<=100000:=by
    have h1:=wR D;have U:=nH W (k+1);omega
   have h32:(⟨#[32]⟩:ByteArray).size=1:=rfl;have Y:(ofL (bU [32] (bs (W.take k)))++⟨#[32]⟩).size=(ofL (bU [32] (bs (W.take k)))).size+1:=yH _ _;refine aA<|Sq<|aE<|Sq<|Sd aC<|Zd gX ?_;refine Cn ?_ ?_<;>intro hc5
   ·have hq:0<k:=by have:=aCb hc5;omega
    rw[aCe hq]at hnx;refine Rd aC<|Dd kq<|Zd aH<|Rd aC<|Dd aC<|Dd aC<|Dd (by exact dN rfl bT rfl rfl rfl rfl rfl (by omega) (by exact aCq _) hlt (aCx _))<|Dd (by exact bA rfl isAgg9 rfl rfl rfl hiw rfl)<|Dd kq<|Zd aH<|Rd aC<|Dd iF<|Da ?_;refine⟨k+1,by omega,by omega,?_⟩;rw[hnx];exact(cQ.wk (Ea<|Eb<|Eb<|trivial) (Hc (lD _ _)<|trivial) trivial)
   have hq:¬ 0<k:=by have:=aCc hc5;omega
   rw[aCd hq]at hnx;refine aA<|Rd aC<|Dd aC<|Dd aC<|Dd (by exact dN rfl bT rfl rfl rfl rfl rfl (by omega) (by exact aCq _) hlt (aCx _))<|Dd (by exact bA rfl isAgg9 rfl rfl rfl hiw rfl)<|Dd kq<|Zd aH<|Rd aC<|Dd iF<|Da ?_;refine⟨k+1,by omega,by omega,?_⟩;rw[hnx];exact(cQ.wk (Ea<|Eb<|Eb<|trivial) (Hc (lD _ _)<|trivial) trivial)
  have hge:k=W.length:=by have:=aCc Z;omega
  subst hge;rw[List.take_length,<-hF];refine aS<|Sq<|Sd aC<|Dd (gF underlying9)<|Zd gX ?_;refine Cn ?_ ?_<;>intro hc6
  ·have hbig:20000<F.size:=by have:=aCb hc6;omega
   rw[hFT,aCe hbig];exact Sd aH<|Zd aH<|aB<|Ru<|Qq
  have hbig:¬ 20000<F.size:=by have:=aCc hc6;omega
  rw[hFT,aCd hbig];exact aA<|Sd aC<|Dd aH<|Zd aH<|aB<|Ru<|Qq
 have hk:o.kind≠1:=aCc X;have hsz:cZ o.refs<=24*o.refs.length:=oH (fun s hs=>dL (tD N s hs));have hjl:=fK o.refs;have hSz:∀k,(ofL (bU [32] (bs (o.refs.take k)))).size<=50000:=fun k=>by
  rw[cM];have:=T9 o.refs k;omega
 refine Sz aH<|Sq<|Sz aH<|aE ?_;refine bJ (σ:=Nat) (fun k=>([(1,.ref 1 0 0 0),(4,.osl 901 0 0 2),(5,sv (ofL (bU [32] (bs (o.refs.take k))))),(6,iv (k:Int))],[(901,⟨0,1,9,RQ [dZ o.kind,o.id]⟩),(1,oBx o)])) (fun k=>k<=o.refs.length) (fun k=>o.refs.length - k) 0 (aCw _) ?_ ?_
 ·exact(cQ.wk (Ea<|Ea<|Eb<|Eb<|trivial) (Hc (lD _ _)<|Hb<|trivial) trivial)
 rintro k hkr;have hsk:=hSz k;refine Sq<|Sq ?_;refine aQ (t:=42) (n:=11) (X:=decide ((k:Int)<((o.refs.map encStr).length:Int))&&decide (((ofL (bU [32] (bs (o.refs.take k)))).size:Int)<=20000)) ?_ ?_
 ·all_goals refine Dd aC ?_
  all_goals refine Dd (aV dQ)<|Dd (bD aF)<|Dd (eR aD)<|Dd cJ<|Dm ?_<;>(refine Sp 38 (fun h38=>?_) fun h38=>?_)<;>(first|contradiction|refine Fo<|Fo<|Fo ?_|refine On aC<|On (gF underlying9)<|On GP ?_)<;>refine Zd cD ?_<;>(exact⟨⟨_,rfl,by(rw[h38];rfl)⟩,rfl,rfl,rfl⟩)
 refine Cn ?_ ?_<;>intro hc7
 ·have hlt:k<o.refs.length:=by have h:=hc7;rw[aCo,aCm]at h;omega
  obtain ⟨w,T⟩:=aT hlt;have hiw:=cE (f:=encStr) T;have hnx:=AU T;have hwsz:=dL (tD N w (aCp T));have h32:(⟨#[32]⟩:ByteArray).size=1:=rfl;have Y:(ofL (bU [32] (bs (o.refs.take k)))++⟨#[32]⟩).size=(ofL (bU [32] (bs (o.refs.take k)))).size+1:=yH _ _;refine aA<|Sq<|aE<|Sq<|Sd aC<|Zd gX ?_;refine Cn ?_ ?_<;>intro hc8
  ·have hq:0<k:=by have:=aCb hc8;omega
   rw[aCe hq]at hnx;refine Rd aC<|Dd kq<|Zd aH<|Rd aC<|Dd (aV dQ)<|Dd (bD aF)<|Dd aC<|Dd (jE bT)<|Dd (fO isAgg9)<|Dd kq<|Zd aH<|Rd aC<|Dd iF<|Da ?_;refine⟨k+1,by omega,by omega,?_⟩;rw[hnx];exact(cQ.wk (Ea<|Ea<|Eb<|Eb<|trivial) (Hc (lD _ _)<|Hb<|trivial) trivial)
  have hq:¬ 0<k:=by have:=aCc hc8;omega
  rw[aCd hq]at hnx;refine aA<|Rd aC<|Dd (aV dQ)<|Dd (bD aF)<|Dd aC<|Dd (jE bT)<|Dd (fO isAgg9)<|Dd kq<|Zd aH<|Rd aC<|Dd iF<|Da ?_;refine⟨k+1,by omega,by omega,?_⟩;rw[hnx];exact(cQ.wk (Ea<|Ea<|Eb<|Eb<|trivial) (Hc (lD _ _)<|Hb<|trivial) trivial)
 have I:k=o.refs.length\/20000<(ofL (bU [32] (bs (o.refs.take k)))).size:=by have h:=hc7;simp only[Bool.and_eq_false_iff,aCn]at h;omega
 obtain ⟨S,hS⟩:∃S,S=ofL (bU [32] (bs (o.refs.take k))):=⟨_,rfl⟩;obtain ⟨B,hB⟩:∃B,B=(⟨#[40]⟩:ByteArray)++S++⟨#[41]⟩:=⟨_,rfl⟩;rw[<-hS]at hsk I;rw[<-hS];have h40:(⟨#[40]⟩:ByteArray).size=1:=rfl;have h41:(⟨#[41]⟩:ByteArray).size=1:=rfl;have hA:((⟨#[40]⟩:ByteArray)++S).size=1+S.size:=yH _ _;have hBs:B.size=1+S.size+1:=by rw[hB,yH,hA];rfl
 have hMs:cZ [B]=B.size+0:=by rw[cI];rfl
 have hMl:([B]:List ByteArray).length=1:=rfl;have hFT:eS o=if 20000<(ofL (bU [32] (bs (wO o [B] o.tags.length)))).size then(sNil,2)else(ofL (bU [32] (bs (wO o [B] o.tags.length))),0):=by
  by_cases he:k=o.refs.length
  ·have Q:(dZ o.kind).data.toList++32::(o.id.data.toList++([B]:List ByteArray).flatMap fun s=>32::s.data.toList)=lF o:=by
    rw[lF,aCd hk,hB,hS,he,List.take_length];simp[ofL]
   rw[kv Q];exact hT
  have hbig:20000<S.size:=by rcases I with h|h;exact absurd h he;exact h
  have h1:=congrArg List.length (kr o [B]);rw[bC]at h1;have U:(C1 o).size=(rG o).length:=by rw[<-bC];rfl
  have M:=T9 o.refs k;have h4:S.size=(bU [32] (bs (o.refs.take k))).length:=by rw[hS,cM]
  have h5:(rG o).length>=(bU [32] (bs o.refs)).length:=by
   rw[rG,lF,aCd hk];simp only[aCg,aCh];omega
  have h6:([B]:List ByteArray).flatMap (fun s=>32::s.data.toList)=32::B.data.toList:=by simp
  rw[h6]at h1;simp only[aCg,aCh,bC]at h1;rw[hT,aCe (by omega),aCe (by omega)]
 refine aS<|Rd aC<|Dd aC<|Dd kq<|Dd (by exact fM rfl rfl rfl (by omega) hB.symm)<|Dd (by exact aN [encStr B] rfl bT rfl rfl rfl rfl rfl (by intro r hr;rw[aCi]at hr;subst hr;rfl))<|Dd (by exact cG (ps:=[encStr B]) rfl bT zT rfl rfl rfl rfl rfl rfl rfl (by intro r hr;rw[aCi]at hr;subst hr;rfl) (m:=1) rfl (by omega) rfl (rfl:_=RQ (wO o [B] 0)))<|Zd aH<|Sq<|Sz aH<|aE ?_;have hMs2:cZ ([dZ o.kind,o.id]++[B])<=70000:=by rw[EM];have:cZ [dZ o.kind,o.id]=(dZ o.kind).size+(o.id.size+0):=(by rw[cI,cI];rfl);omega
 have K:∀k,k<=o.tags.length->(wO o [B] k).length<=64:=fun k hk=>by rw[wO,aCg,aCg,aCf,aCt];show 2+_+_<=_;omega
 have R:∀k,cZ (wO o [B] k)<=100000:=fun k=>by
  rw[wO,EM];have h1:=hTs k;omega
 refine bJ (σ:=Nat) (fun k=>([(1,.ref 1 0 0 0),(4,.osl 901 (1+k) 0 (wO o [B] k).length),(7,iv (k:Int))],[(901,⟨1+k,1,9,RQ (wO o [B] k)⟩),(1,oBx o)])) (fun k=>k<=o.tags.length) (fun k=>o.tags.length - k) 0 (aCw _) ?_ ?_
 ·exact(cQ.wk (Ea<|Ea<|Eb<|trivial) (Hc (lD _ _)<|Hb<|trivial) trivial)
 rintro k hk;have P:=K k hk;refine Sq<|Sd aC<|Dd (aV eT)<|Dd (bD cU)<|Dd (eR cY)<|Zd cJ ?_;refine Cn ?_ ?_<;>intro V
 ·have hlt:k<o.tags.length:=by have:=aCb V;omega
  obtain ⟨t,ht⟩:=aT hlt;have hit:=cE (f:=bM) ht;have hnx:=ko (M:=[B]) ht;have L:(wO o [B] k++[iH t]).length=(wO o [B] k).length+1:=by rw[aCg];rfl
  obtain ⟨hks,hvs⟩:=O t (aCp ht);have hq:=qD t.val;have h61:(⟨#[61]⟩:ByteArray).size=1:=rfl;have hk1:(t.key++(⟨#[61]⟩:ByteArray)).size=t.key.size+1:=yH _ _;refine aA<|Sq<|aE<|aL follows<|Cs (fun _ _=>aC)<|Cs (fun _ h=>fh eT h)<|Cs (fun _ h=>lh cU h)<|Cs (fun _ _=>aC)<|Cs (fun _ _=>(jE jX))<|Cs (fun _ _=>(C2 nW))<|Cs (fun _ _=>(fO isAgg9))<|Cs (fun H1 hH=>by exact fM rfl rfl rfl (by omega) rfl)<|Cs (fun _ h=>fh eT h)<|Cs (fun _ h=>lh cU h)<|Cs (fun _ _=>aC)<|Cs (fun _ _=>(jE jX))<|Cs (fun _ _=>(C2 oU))<|Cs (fun _ _=>(fO isAgg9))<|Cs (fun H1 hH=>by exact bL rfl rfl aBl rfl (J5 t.val _ (by omega)))<|Cs (fun H1 hH=>by exact fM rfl rfl rfl (by omega) rfl)<|Cs (fun H1 hH=>by exact aN [encStr (iH t)] rfl bT rfl rfl rfl rfl rfl (by intro r hr;rw[aCi]at hr;subst hr;rfl)) ?_;refine gW (r:=⟨_,none,[_]⟩) (DStep.plain rfl (fun H1 hH=>by exact cG (ps:=[encStr (iH t)]) rfl bT zT rfl ((hH _ rfl).trans rfl) rfl rfl rfl (VU _) rfl (by intro r hr;rw[aCi]at hr;subst hr;rfl) (m:=1) rfl (by omega) rfl (VW _ (iH t)))) rfl ?_;refine Cs (fun _ _=>aH)<|bF<|Kr<|Rd aC<|Dd iF<|Da ?_;refine⟨k+1,by omega,by omega,?_⟩;rw[hnx,L];exact(cQ.wk (Ea<|Ea<|Eb<|trivial) (Hc (lD _ _)<|Hb<|trivial) trivial)
 have hge:k=o.tags.length:=by have:=aCc V;omega
 subst hge;obtain ⟨W,hW⟩:∃W,W=wO o [B] o.tags.length:=⟨_,rfl⟩;have hWs2:=R o.tags.length;rw[<-hW]at P hWs2 hFT;rw[<-hW];obtain ⟨F,hF⟩:∃F,F=ofL (bU [32] (bs W)):=⟨_,rfl⟩;rw[<-hF]at hFT;refine aS<|Sz aH<|Sq<|Sz aH<|aE ?_;refine bJ (σ:=Nat) (fun k=>([(4,.osl 901 (1+o.tags.length) 0 W.length),(8,sv (ofL (bU [32] (bs (W.take k))))),(9,iv (k:Int))],[(901,⟨1+o.tags.length,1,9,RQ W⟩)])) (fun k=>k<=W.length) (fun k=>W.length - k) 0 (aCw _) ?_ ?_
 ·exact(cQ.wk (Ea<|Eb<|Eb<|trivial) (Hc (lD _ _)<|trivial) trivial)
 rintro k hk;have hsz:(ofL (bU [32] (bs (W.take k)))).size<=100064:=by
  rw[cM];have h1:=fK (W.take k);have U:=nH W k;have M:(W.take k).length<=W.length:=by rw[aCt];exact Nat.min_le_right _ _
  omega
 refine Sq<|Sd aC<|Dd aC<|Dd (by exact dU rfl aD rfl rfl rfl)<|Zd cJ ?_;refine Cn ?_ ?_<;>intro J
 ·have hlt:k<W.length:=by have:=aCb J;omega
  obtain ⟨w,D⟩:=aT hlt;have hiw:=VV D;have hnx:=AU D;have hws:w.size<=100000:=by
   have h1:=wR D;have U:=nH W (k+1);omega
  have h32:(⟨#[32]⟩:ByteArray).size=1:=rfl;have Y:(ofL (bU [32] (bs (W.take k)))++⟨#[32]⟩).size=(ofL (bU [32] (bs (W.take k)))).size+1:=yH _ _;refine aA<|Sq<|aE<|Sq<|Sd aC<|Zd gX ?_;refine Cn ?_ ?_<;>intro E
  ·have hq:0<k:=by have:=aCb E;omega
   rw[aCe hq]at hnx;refine Rd aC<|Dd kq<|Zd aH<|Rd aC<|Dd aC<|Dd aC<|Dd (by exact dN rfl bT rfl rfl rfl rfl rfl (by omega) (by exact aCq _) hlt (aCx _))<|Dd (by exact bA rfl isAgg9 rfl rfl rfl hiw rfl)<|Dd kq<|Zd aH<|Rd aC<|Dd iF<|Da ?_;refine⟨k+1,by omega,by omega,?_⟩;rw[hnx];exact(cQ.wk (Ea<|Eb<|Eb<|trivial) (Hc (lD _ _)<|trivial) trivial)
  have hq:¬ 0<k:=by have:=aCc E;omega
  rw[aCd hq]at hnx;refine aA<|Rd aC<|Dd aC<|Dd aC<|Dd (by exact dN rfl bT rfl rfl rfl rfl rfl (by omega) (by exact aCq _) hlt (aCx _))<|Dd (by exact bA rfl isAgg9 rfl rfl rfl hiw rfl)<|Dd kq<|Zd aH<|Rd aC<|Dd iF<|Da ?_;refine⟨k+1,by omega,by omega,?_⟩;rw[hnx];exact(cQ.wk (Ea<|Eb<|Eb<|trivial) (Hc (lD _ _)<|trivial) trivial)
 have hge:k=W.length:=by have:=aCc J;omega
 subst hge;rw[List.take_length,<-hF];refine aS<|Sq<|Sd aC<|Dd (gF underlying9)<|Zd gX ?_;refine Cn ?_ ?_<;>intro G
 ·have hbig:20000<F.size:=by have:=aCb G;omega
  rw[hFT,aCe hbig];exact Sd aH<|Zd aH<|aB<|Ru<|Qq
 have hbig:¬ 20000<F.size:=by have:=aCc G;omega
 rw[hFT,aCd hbig];exact aA<|Sd aC<|Dd aH<|Zd aH<|aB<|Ru<|Qq
theorem xc(a:List ByteArray)(H:aG)(id g:Nat)(i:H.get id=some ⟨g,1,9,RQ a⟩)(hb:cZ a+a.length<1099511627776):RC 185 [.osl id g 0 a.length] (sv (ofL (bU [32] (bs a)))) H:=by
 refine Bd func185 rfl ntmps185<|Sz aH<|Sz aH<|Sq<|Sz aH<|aE ?_;refine bJ (σ:=Nat) (fun k=>([(0,.osl id g 0 a.length),(3,sv (ofL (bU [32] (bs (a.take k))))),(4,iv (k:Int))],H)) (fun k=>k<=a.length) (fun k=>a.length - k) 0 (aCw _) ?_ ?_
 ·exact E0
 rintro k hk;have hsz:(ofL (bU [32] (bs (a.take k)))).size<=cZ a+a.length:=by
  rw[cM];have o:=fK (a.take k);have p:=nH a k;have h3:(a.take k).length<=a.length:=by simp_all
  omega
 refine Sq<|Sd aC<|Dd aC<|Dd (by exact dU rfl aD rfl i rfl)<|Zd cJ ?_;refine Cn ?_ ?_<;>intro h
 ·have e:k<a.length:=by have:=aCb h;omega
  obtain ⟨w,m⟩:=aT e;have j:=VV m;have d:=AU m;have hws:w.size<=cZ a:=by
   have o:=wR m;have p:=nH a (k+1);omega
  have h32:(⟨#[32]⟩:ByteArray).size=1:=rfl;have hs2:(ofL (bU [32] (bs (a.take k)))++⟨#[32]⟩).size=(ofL (bU [32] (bs (a.take k)))).size+1:=yH _ _;refine aA<|Sq<|aE<|Sq<|Sd aC<|Zd gX ?_;refine Cn ?_ ?_<;>intro f
  ·have n:0<k:=by have:=aCb f;omega
   rw[aCe n]at d;refine Rd aC<|Dd kq<|Zd aH<|Rd aC<|Dd aC<|Dd aC<|Dd (by exact dN rfl bT rfl i rfl rfl rfl (by omega) (by rfl) e (aCx _))<|Dd (by exact bA rfl isAgg9 rfl i rfl j rfl)<|Dd kq<|Zd aH<|Rd aC<|Dd iF<|Da ?_;refine⟨k+1,by omega,by omega,?_⟩;rw[d];exact E0
  have n:¬ 0<k:=by have:=aCc f;omega
  rw[aCd n]at d;refine aA<|Rd aC<|Dd aC<|Dd aC<|Dd (by exact dN rfl bT rfl i rfl rfl rfl (by omega) (by rfl) e (aCx _))<|Dd (by exact bA rfl isAgg9 rfl i rfl j rfl)<|Dd kq<|Zd aH<|Rd aC<|Dd iF<|Da ?_;refine⟨k+1,by omega,by omega,?_⟩;rw[d];exact E0
 have l:k=a.length:=by have:=aCc h;omega
 subst l;rw[List.take_length];refine aS<|Sd aC<|Zd aH<|aB ?_;refine dA (H':=H) (.inr rfl) rfl (aJ rfl) Fin.refl ?_;exact Qq
theorem SP{e}{a}(b:e.op≠1)(h:bs a=fV e):ofL (bU [32] (bs a))++⟨#[10]⟩=ofL (fD e++[10]):=xC b h
theorem Ke(e:GEdit)(H:aG)(N:KD e)(I:dT e=true):RC 149 [av (aZ e)] (.tup [sv (ofL (fD e++[10])),bv (decide (fG e=0))]) H:=by
 refine Pu ?_;obtain ⟨⟨o1,o2⟩,o3,o4⟩:=tI.1 I;rw[rY]at o3;have hval:=GT I;have hs0:cZ []=0:=rfl;refine Bd func149 rfl ntmps149<|Sd (kb 1)<|Dd aH<|Zd aH<|Sq<|Sd (aV gN)<|Zd (bD isAgg3)<|aE<|Sd cF<|Da ?_;refine Cn ?_ ?_<;>intro u
 ·have p:e.op=1:=aCb u;have hos:=KE (o:=e.obj);have n:(⟨#[112,117,116]⟩:ByteArray).size=3:=rfl;have h10:(⟨#[10]⟩:ByteArray).size=1:=rfl;have hjs:(ofL (bU [32] (bs [⟨#[112,117,116]⟩,(eS e.obj).1]))).size<=70000:=by
   rw[cM];have:=fK [⟨#[112,117,116]⟩,(eS e.obj).1];simp only[cI,aCh,List.length_nil]at this;omega
  have hout:ofL (bU [32] (bs [⟨#[112,117,116]⟩,(eS e.obj).1]))++⟨#[10]⟩=ofL (fD e++[10]):=ja (by
   rw[dD,fD,aCe p];simp[ofL,bs,bU,wPut])
  refine Sd (aV oV)<|Dd (by exact aM rfl bZ sizeOf151 rfl rfl rfl rfl (by simp only[Zl,bM,bG,encStr,aZ,fS];rfl) rfl)<|Dd (kc vq (BW e.obj _ N.2.2))<|Dd aC<|Dd eG<|Dd eG<|Dd aH<|Zd aH<|Sd aC<|Dd (by exact aN [encStr ⟨#[112,117,116]⟩,encStr (eS e.obj).1] rfl bT rfl rfl rfl rfl rfl (iS [⟨#[112,117,116]⟩,(eS e.obj).1]))<|Dd (kc zN (EF [⟨#[112,117,116]⟩,(eS e.obj).1] _ (by simp only[cI,aCh,List.length_nil];omega)))<|Dd (by exact fM rfl rfl rfl (by omega) hout)<|Dd aC<|Dd cF<|Dd aH<|Zd aH<|aB<|Ru ?_;rw[show fG e=(eS e.obj).2 from aCe p];exact Qq
 have p:e.op≠1:=aCc u;rw[aCd p,aCo]at o3;obtain ⟨J,o6⟩:=o3;have hid:=dL J;refine Sd cF<|Da ?_;refine Cn ?_ ?_<;>intro hc2
 ·have m:e.op=2:=aCb hc2;rw[aCe m,Bl,aCo,aCm,aCm]at o6;have O:0<=e.x/\e.x<1048576:=by omega
  have K:0<=e.y/\e.y<1048576:=by omega
  have Rv:(aY e.x).size<=7:=by rw[<-bC];show (Lib.itoa e.x).length<=7;rw[jL _ O.1];exact dF (by omega) (by decide)
  have siy:(aY e.y).size<=7:=by rw[<-bC];show (Lib.itoa e.y).length<=7;rw[jL _ K.1];exact dF (by omega) (by decide)
  have k:(⟨#[109,111,118,101]⟩:ByteArray).size=4:=rfl;have l:bs [⟨#[109,111,118,101]⟩,e.id,aY e.x,aY e.y]=fV e:=by
   rw[fV]
   (rw[aCe m];rfl)
  have hne:e.op≠1:=by omega
  have hjs:(ofL (bU [32] (bs [⟨#[109,111,118,101]⟩,e.id,aY e.x,aY e.y]))).size<=70000:=by
   rw[cM];have:=fK [⟨#[109,111,118,101]⟩,e.id,aY e.x,aY e.y];simp only[cI,aCh,List.length_nil]at this;omega
  have h10:(⟨#[10]⟩:ByteArray).size=1:=rfl;refine Sq<|aL follows<|Cq (aV iE)<|Cq (bD isAgg9)<|Cq (aV iD)<|Cq (aV pC)<|Cq (bD isAgg3)<|Cq (kc FO (NF e.x _ (by omega) (by omega)))<|Cq (aV iD)<|Cq (aV pB)<|Cq (bD isAgg3)<|Cq (kc FO (NF e.y _ (by omega) (by omega)))<|Cq (by exact aN (([⟨#[109,111,118,101]⟩,e.id,aY e.x,aY e.y]:List ByteArray).map encStr) rfl bT rfl rfl rfl rfl rfl (iS _))<|Cq (kc zN (EF [⟨#[109,111,118,101]⟩,e.id,aY e.x,aY e.y] _ (by simp only[cI,aCh,List.length_nil];omega)))<|Cq kq<|Cq aH<|Cq aH<|bF<|Kr<|aB<|Ru ?_;rw[SP hne l,show fG e=0 from aCd hne];exact Qq
 have m:e.op≠2:=aCc hc2;rw[aCd m]at o6;refine Sd cF<|Da ?_;refine Cn ?_ ?_<;>intro hc3
 ·have n:e.op=3:=aCb hc3;rw[aCe n,aCo,aCm]at o6;have hks:=dL o6.1;have hq:=qD e.val;have k:(⟨#[116,97,103]⟩:ByteArray).size=3:=rfl;have l:bs [⟨#[116,97,103]⟩,e.id,e.key,⟨(cX e.val.data.toList).toArray⟩]=fV e:=by
   rw[fV]
   (rw[aCd m,aCe n];rfl)
  have hne:e.op≠1:=by omega
  have hjs:(ofL (bU [32] (bs [⟨#[116,97,103]⟩,e.id,e.key,⟨(cX e.val.data.toList).toArray⟩]))).size<=70000:=by
   rw[cM];have:=fK [⟨#[116,97,103]⟩,e.id,e.key,⟨(cX e.val.data.toList).toArray⟩];simp only[cI,aCh,List.length_nil]at this;omega
  have h10:(⟨#[10]⟩:ByteArray).size=1:=rfl;refine Sq<|aL follows<|Cq (aV iE)<|Cq (bD isAgg9)<|Cq (aV kQ)<|Cq (bD isAgg9)<|Cq (aV lG)<|Cq (bD isAgg9)<|Cq (kc aBl (J5 e.val _ (by omega)))<|Cq (by exact aN (([⟨#[116,97,103]⟩,e.id,e.key,⟨(cX e.val.data.toList).toArray⟩]:List ByteArray).map encStr) rfl bT rfl rfl rfl rfl rfl (iS _))<|Cq (kc zN (EF [⟨#[116,97,103]⟩,e.id,e.key,⟨(cX e.val.data.toList).toArray⟩] _ (by simp only[cI,aCh,List.length_nil];omega)))<|Cq kq<|Cq aH<|Cq aH<|bF<|Kr<|aB<|Ru ?_;rw[SP hne l,show fG e=0 from aCd hne];exact Qq
 have n:e.op≠3:=aCc hc3;rw[aCd n]at o6;refine Sd cF<|Da ?_;refine Cn ?_ ?_<;>intro q
 ·have o:e.op=4:=aCb q;rw[aCe o,aCo,aCo,aCm,aCm,List.all_eq_true]at o6;obtain ⟨⟨r1,r2⟩,P⟩:=o6;have hrs:cZ e.refs<=24*e.refs.length:=oH (fun s M=>dL (P s M));have k:(⟨#[114,101,102,115]⟩:ByteArray).size=4:=rfl;have F:∀H,H.get 901=some ⟨1,1,9,RQ (⟨#[114,101,102,115]⟩::e.id::e.refs)⟩->RC 185 [.osl 901 1 0 (⟨#[114,101,102,115]⟩::e.id::e.refs).length] (sv (ofL (bU [32] (bs (⟨#[114,101,102,115]⟩::e.id::e.refs))))) H:=fun H L=>xc _ H 901 1 L (by simp only[cI,aCh];omega);have l:bs (⟨#[114,101,102,115]⟩::e.id::e.refs)=fV e:=by rw[fV,aCd m,aCd n,aCe o];rfl
  have hjs:(ofL (bU [32] (bs (⟨#[114,101,102,115]⟩::e.id::e.refs)))).size<=70000:=by
   rw[cM];have:=fK (⟨#[114,101,102,115]⟩::e.id::e.refs);simp only[cI,aCh]at this;omega
  have h10:(⟨#[10]⟩:ByteArray).size=1:=rfl;have G:(e.refs.map encStr).length=e.refs.length:=aCf _;have hrw:RQ [⟨#[114,101,102,115]⟩,e.id]++(e.refs.map encStr).map (·.map .pv)=RQ (⟨#[114,101,102,115]⟩::e.id::e.refs):=by rw[<-zd];rfl
  refine Sd (aV iE)<|Dd (bD isAgg9)<|Dd (by exact fW (id:=901) rfl bT rfl rfl rfl rfl (by simp_all) rfl)<|Dd (aV fB)<|Dd (bD aF)<|Dd (by exact cG (ps:=e.refs.map encStr) rfl bT zT rfl rfl rfl rfl rfl rfl rfl (iS e.refs) (m:=e.refs.length) G (by omega) (Nat.add_comm 2 _:2+e.refs.length=(⟨#[114,101,102,115]⟩::e.id::e.refs).length) hrw)<|Dd (kc zN (F _ rfl))<|Dd kq<|Dd aH<|Zd aH<|aB<|Ru ?_;rw[SP p l,show fG e=0 from aCd p];exact Qq
 have o:e.op≠4:=aCc q;rw[aCd o]at o6;refine Sd cF<|Da ?_;refine Cn ?_ ?_<;>intro v
 ·have t:e.op=5:=aCb v;have k:(⟨#[100,114,111,112]⟩:ByteArray).size=4:=rfl;have l:bs [⟨#[100,114,111,112]⟩,e.id]=fV e:=by
   rw[fV]
   (rw[aCd m,aCd n,aCd o,aCe t];rfl)
  have hne:e.op≠1:=by omega
  have hjs:(ofL (bU [32] (bs [⟨#[100,114,111,112]⟩,e.id]))).size<=70000:=by
   rw[cM];have:=fK [⟨#[100,114,111,112]⟩,e.id];simp only[cI,aCh,List.length_nil]at this;omega
  have h10:(⟨#[10]⟩:ByteArray).size=1:=rfl;refine Sd (aV iE)<|Dd (bD isAgg9)<|Dd (by exact aN (([⟨#[100,114,111,112]⟩,e.id]:List ByteArray).map encStr) rfl bT rfl rfl rfl rfl rfl (iS _))<|Dd (kc zN (EF [⟨#[100,114,111,112]⟩,e.id] _ (by simp only[cI,aCh,List.length_nil];omega)))<|Dd kq<|Dd aH<|Zd aH<|aB<|Ru ?_;rw[SP hne l,show fG e=0 from aCd hne];exact Qq
 have t:e.op≠5:=aCc v;rw[aCd t]at o6;refine Sd cF<|Da ?_;refine Cn ?_ ?_<;>intro hc6
 ·have h6:e.op=6:=aCb hc6;rw[aCe h6,aCo]at o6;have hns:=dL o6.1;have hos:=dL o6.2;have k:(⟨#[115,112,108,105,116]⟩:ByteArray).size=5:=rfl;have l:bs [⟨#[115,112,108,105,116]⟩,e.id,e.node,e.other]=fV e:=by
   rw[fV]
   (rw[aCd m,aCd n,aCd o,aCd t,aCe h6];rfl)
  have hne:e.op≠1:=by omega
  have hjs:(ofL (bU [32] (bs [⟨#[115,112,108,105,116]⟩,e.id,e.node,e.other]))).size<=70000:=by
   rw[cM];have:=fK [⟨#[115,112,108,105,116]⟩,e.id,e.node,e.other];simp only[cI,aCh,List.length_nil]at this;omega
  have h10:(⟨#[10]⟩:ByteArray).size=1:=rfl;refine Sd (aV iE)<|Dd (bD isAgg9)<|Dd (aV nC)<|Dd (bD isAgg9)<|Dd (aV iL)<|Dd (bD isAgg9)<|Dd (by exact aN (([⟨#[115,112,108,105,116]⟩,e.id,e.node,e.other]:List ByteArray).map encStr) rfl bT rfl rfl rfl rfl rfl (iS _))<|Dd (kc zN (EF [⟨#[115,112,108,105,116]⟩,e.id,e.node,e.other] _ (by simp only[cI,aCh,List.length_nil];omega)))<|Dd kq<|Dd aH<|Zd aH<|aB<|Ru ?_;rw[SP hne l,show fG e=0 from aCd hne];exact Qq
 have h6:e.op≠6:=aCc hc6;rw[aCd h6]at o6;have hos:=dL o6;have k:(⟨#[106,111,105,110]⟩:ByteArray).size=4:=rfl;have l:bs [⟨#[106,111,105,110]⟩,e.id,e.other]=fV e:=by
  rw[fV]
  (rw[aCd m,aCd n,aCd o,aCd t,aCd h6];rfl)
 have hne:e.op≠1:=by omega
 have hjs:(ofL (bU [32] (bs [⟨#[106,111,105,110]⟩,e.id,e.other]))).size<=70000:=by
  rw[cM];have:=fK [⟨#[106,111,105,110]⟩,e.id,e.other];simp only[cI,aCh,List.length_nil]at this;omega
 have h10:(⟨#[10]⟩:ByteArray).size=1:=rfl;refine aA<|Sd (aV iE)<|Dd (bD isAgg9)<|Dd (aV iL)<|Dd (bD isAgg9)<|Dd (by exact aN (([⟨#[106,111,105,110]⟩,e.id,e.other]:List ByteArray).map encStr) rfl bT rfl rfl rfl rfl rfl (iS _))<|Dd (kc zN (EF [⟨#[106,111,105,110]⟩,e.id,e.other] _ (by simp only[cI,aCh,List.length_nil];omega)))<|Dd kq<|Dd aH<|Zd aH<|aB<|Ru ?_;rw[SP hne l,show fG e=0 from aCd hne];exact Qq
theorem O2(l:List GEdit)(H:aG)(C:l.length<1099511627776)(z:∀e∈l,KD e)(B:∀e∈l,e.refs.length<1099511627776):RC 112 [.pv (fX l)] (.tup [sv (dS l).1,iv (dS l).2]) H:=by
 refine Pu ?_;have hml:(l.map aZ).length=l.length:=aCf _;refine Bd func112 rfl ntmps112<|Sd aH<|Zd aH<|Sq<|Sd aC<|Dd (kc call148 (rr l _ C z B))<|Zd iJ ?_;refine Cn ?_ ?_<;>intro p
 ·have t:kP l=false:=by have h:=p;rwa [aCy]at h
  rw[show dS l=(sNil,1)by rw[dS,t];rfl];exact Sd aH<|Zd aH<|aB<|Ru<|Qq
 have t:kP l=true:=by have h:=p;rwa [Bool.not_eq_false']at h
 have A:=(MA t).2.2;have y:dS l=(ofL (qT [] l).1,(qT [] l).2):=by rw[dS,t];rfl
 refine aA<|Sz aH<|Sq<|Sz aH<|aE ?_;refine bJ (σ:=Nat) (fun k=>([(0,.pv (fX l)),(4,sv (ofL (oX l k))),(5,iv (k:Int))],[])) (fun k=>k<=l.length/\qT [] l=qT (oX l k) (l.drop k)/\(oX l k).length<=20000) (fun k=>l.length - k) 0 ⟨aCw _,rfl,aCw _⟩ ?_ ?_
 ·exact Wk
 rintro k ⟨hk,i,hA⟩;refine Sq<|Sd aC<|Dd aC<|Dd (eR cT)<|Zd cJ ?_;refine Cn ?_ ?_<;>intro o
 ·have m:k<l.length:=by have:=aCb o;omega
  obtain ⟨e,n⟩:=aT m;have hi:=cE (f:=aZ) n;have j:=aCp n;have c:=U7 n;have hYl:=T6 (A e j);have u:l.drop k=e::l.drop (k+1):=by
   rw[List.drop_eq_getElem_cons m]
   simp_all
  rw[u,qT]at i;have hsA:(ofL (oX l k)).size=(oX l k).length:=cM _;have hsz:(ofL (fD e++[10])).size=(fD e).length+1:=by rw[cM,aCg];rfl
  have x:ofL (oX l k)++ofL (fD e++[10])=ofL (oX l (k+1)):=ja (by
   rw[show (ofL (oX l k)++ofL (fD e++[10])).data.toList=(ofL (oX l k)).data.toList++(ofL (fD e++[10])).data.toList by simp,dD,dD,dD,c])
  have hsB:(ofL (oX l (k+1))).size=(oX l (k+1)).length:=cM _;refine aA<|Sq<|aE<|Sd aC<|Dd aC<|Dd (jE OP)<|Dd (by exact dM rfl bW aR rfl (by omega) (by simp only[Zl,bM,bG,encStr,aZ,fS];rfl) rfl)<|Dd (kc call149 (Ke e _ (z e j) (A e j)))<|Dd aC<|Dd eG<|Dd eG<|Dd aH<|Zd aH<|Sd aC<|Dd aC<|Dd (by exact fM rfl rfl rfl (by omega) x)<|Zd aH<|Sq ?_;refine aQ (t:=34) (n:=8) (X:=!decide (fG e=0)||decide ((20000:Int)<((ofL (oX l (k+1))).size:Int))) ?_ ?_
  ·all_goals refine Dd aC ?_
   all_goals refine Dd iJ<|Dm ?_<;>(refine Sp 30 (fun w=>?_) fun w=>?_)<;>(first|contradiction|refine Fo<|Fo<|Fo ?_|refine On aC<|On (gF underlying9)<|On gX ?_)<;>refine Zd cD ?_<;>(exact⟨⟨_,rfl,by simp_all⟩,rfl,rfl,rfl⟩)
  refine Cn ?_ ?_<;>intro s
  ·have q:fG e≠0\/20000<(oX l k++(fD e++[10])).length:=by have h:=s;rw[<-c];simp only[Bool.or_eq_true,aCy,aCn,aCm]at h;omega
   rw[aCe q]at i;rw[y,i];exact Sd aH<|Zd aH<|aB<|Ru<|Qq
  have f:¬ (fG e≠0\/20000<(oX l k++(fD e++[10])).length):=by have h:=s;rw[<-c];simp only[aDB,Bool.not_eq_false',aCn,aCm]at h;omega
  rw[aCd f,<-c]at i;rw[<-c]at f;refine aA<|Rd aC<|Dd iF<|Da ?_;exact⟨k+1,⟨m,i,by omega⟩,by omega,Wk⟩
 have v:k=l.length:=by have:=aCc o;omega
 subst v;rw[List.drop_length,qT]at i;rw[y,i];exact aS<|Sd aC<|Dd aH<|Zd aH<|aB<|Ru<|Qq
end Go.Proofs.YtmdicgjnmfolfaaGreatDoor
