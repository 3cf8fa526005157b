/-
  Parts of the proof: rules of an abstract program logic, contracts of functions, plain laws. Conditions: each theorem's own.
-/
import Derived.Test.YtmdicgjnmfolfaaGreatDoorKR6M3
import Derived.ChangeKeysEq
import Derived.Shelf.SortM.Plain
import Derived.Shelf.SortM.SortNone
import Derived.Ground.SlgmProg
import Derived.Shelf.Strconv.Itoa3
import Derived.Shelf.Bits.Mul64
import Derived.Shelf.LaysM
import Derived.Ground.NamesProg
import Derived.Shelf.Lays
import Derived.Laws.Bits64b
import Derived.Lib.AppendStr
set_option linter.unusedVariables false
set_option linter.unusedSimpArgs false
set_option maxRecDepth 100000
set_option maxHeartbeats 8000000
namespace Go.Proofs
open Tryz
theorem DW:type_of% call241:=call241
theorem yC:type_of% call242:=call242
theorem aPj:type_of% isAgg0:=isAgg0
theorem JB:type_of% isAgg122:=isAgg122
theorem dW:type_of% isAgg124:=isAgg124
theorem YM:type_of% isAgg125:=isAgg125
theorem dA:type_of% isAgg151:=isAgg151
theorem sZ:type_of% isAgg20:=isAgg20
theorem pG:type_of% isAgg4:=isAgg4
theorem aPJ:type_of% sizeOf0:=sizeOf0
theorem FD:type_of% sizeOf122:=sizeOf122
theorem UO:type_of% sizeOf125:=sizeOf125
theorem UN:type_of% sizeOf128:=sizeOf128
theorem aGn:type_of% underlying0:=underlying0
theorem jY:type_of% underlying122:=underlying122
theorem FB:type_of% underlying125:=underlying125
theorem wG:type_of% underlying128:=underlying128
theorem HF:type_of% underlying20:=underlying20
theorem eV:type_of% underlying4:=underlying4
theorem aJ6:type_of% zeroValue0:=zeroValue0
theorem HC:type_of% zeroValue125:=zeroValue125
end Go.Proofs
namespace Go.Proofs.YtmdicgjnmfolfaaGreatDoor
open Go.Proofs.Tryz
open Go.Abs
variable{α:Type}
theorem aOb(a0 b0 a1 b1 a2 b2 a3 b3:ByteArray)(w:World):(Op.equalIn 10000 274 (.agg [.string a0,.string a1,.string a2,.string a3].toArray) (.agg [.string b0,.string b1,.string b2,.string b3].toArray)).run Tryz.prog w =
  .ok (decide (a0=b0)&&decide (a1=b1)&&decide (a2=b2)&&decide (a3=b3)) w:=by
 obtain ⟨i,hi⟩:=info_of_underlying underlying9;refine(run_equalIn_array (P:=Tryz.prog) w 9999 _ _ underlying274 hi).trans ?_;have hs:∀(d:Nat) (a b:ByteArray) (w:World),(Op.equalIn (d+1) 9 (.string a) (.string b)).run Tryz.prog w=.ok (decide (a=b)) w:=fun d a b w=>by rw[run_equalIn_string w d 9 a b underlying9,zA]
 have hc:Tryz.prog.cellsOf 9=1:=by kernel_rfl
 by_cases e0:a0=b0<;>by_cases e1:a1=b1<;>by_cases e2:a2=b2<;>by_cases e3:a3=b3<;>simp[List.range_succ,Op.eqItems,part,hc,hs,isAgg9,e0,e1,e2,e3]
theorem XN(a b:List ByteArray)(H:aH)(ha:a.length<4611686018427387904):aI Tryz.prog 268 [.pv (aZ a),.pv (aZ b)] H (fun r H'=>r=bv (decide (a=b))/\H'=H):=by
 refine Pu ?_;have hma:(a.map encStr).length=a.length:=aQE _;have hmb:(b.map encStr).length=b.length:=aQE _;refine Bd func268 rfl ntmps268<|Sr<|Dd aM<|Zz<|Sq<|Sr<|Dd aE<|Dd (fM aD)<|Dd aE<|Dd (fM aD)<|Dd wM<|Zz ?_;refine Cn ?_ ?_<;>intro hc1
 ·have hne:¬ a=b:=by
   intro e;subst e;simp at hc1
  refine Sr<|Dd aM<|Zz<|aB<|Rt ?_;exact⟨by rw[decide_eq_false hne],rfl⟩
 have heq:a.length=b.length:=by
  simp only[hma,hmb,Bool.not_eq_false',aQL]at hc1;omega
 refine aC<|Sq<|Sr<|Dd aE<|Dd (fM aD)<|Dd aE<|Zz<|aF ?_;refine bJ (σ:=Nat) (fun k=>([(0,.pv (aZ a)),(1,.pv (aZ b)),(12,iv ((a.map encStr).length:Int)),(13,iv (k:Int))],[])) (fun k=>k<=a.length/\a.take k=b.take k) (fun k=>a.length - k) 0 ⟨by omega,by simp⟩ ?_ ?_
 ·exact E0
 rintro k ⟨hk,hall⟩;refine Sr<|Dd cW<|Zz<|Sq ?_;refine Cn ?_ ?_<;>intro hc2
 ·have hlt:k<a.length:=by have:=aQA hc2;omega
  obtain ⟨x,hx⟩:=aU hlt;obtain ⟨y,hy⟩:=aU (l:=b) (k:=k) (by omega);have hi:=cI (f:=encStr) hx;have hi2:=cI (f:=encStr) hy;refine aC<|Sq<|aF<|Sr<|Dd aE<|Dd aM<|Zz<|Sq<|aO follows<|Cq aE<|Cq aE<|Cq (mR cC)<|Cq (iN isAgg9)<|Cq aE<|Cq aE<|Cq (mR cC)<|Cq (iN isAgg9)<|Cq JI<|bM<|Kr ?_;refine Cn ?_ ?_<;>intro hc3
  ·have ht:¬ x=y:=by
    have h:(!decide (x=y))=true:=hc3
    simpa using h
   have hne:¬ a=b:=by
    intro e;subst e;rw[hx]at hy;exact ht (Option.some.inj hy)
   refine Sr<|Dd aM<|Zz<|aB<|Rt ?_;exact⟨by rw[decide_eq_false hne],rfl⟩
  have ht:x=y:=by
   have h:(!decide (x=y))=false:=hc3
   simpa using h
  refine aC<|Rg<|Dd mV<|Dd aE<|Zz ?_;refine⟨k+1,⟨by omega,?_⟩,by omega,E0⟩;rw[List.take_add_one,List.take_add_one,hx,hy,hall,ht]
 have hge:k=a.length:=by have:=aQB hc2;omega
 have he:a=b:=by
  have h:=hall;rw[hge,List.take_length,heq,List.take_length]at h;exact h
 refine aW<|Sr<|Dd aM<|Zz<|aB<|Rt ?_;exact⟨by rw[decide_eq_true he],rfl⟩
def qZ(a b:GObj):Bool:=((decide (a.id=b.id)&&decide (a.kind=b.kind)&&(decide (a.x=b.x)&&decide (a.y=b.y)))&&decide (a.refs=b.refs))&&pK a.tags b.tags
theorem A2{a b:GObj}:qZ a b=true↔a=b:=by
 cases a;cases b;simp only[qZ,aQN,aQL,LS,GObj.mk.injEq];constructor
 ·rintro⟨⟨⟨⟨a1,a2⟩,a3,a4⟩,a5⟩,a6⟩;exact⟨a1,a2,a3,a4,a5,a6⟩
 rintro⟨a1,a2,a3,a4,a5,a6⟩;exact⟨⟨⟨⟨a1,a2⟩,a3,a4⟩,a5⟩,a6⟩
def okS(o:GObj):Prop:=o.refs.length<4611686018427387904/\o.tags.length<4611686018427387904
theorem aHj(a b:GObj)(H:aH)(ha:okS a):aI Tryz.prog 269 [av (bW a),av (bW b)] H (fun r H'=>r=bv (qZ a b)/\H'=H):=by
 refine Pu ?_;refine Bd func269 rfl ntmps269<|Sr<|Dd (by exact cF (id:=2) rfl rfl rfl rfl rfl)<|Dd (by exact cF (id:=3) rfl rfl rfl rfl rfl)<|Dd aM<|Zz<|Sq ?_;refine aY (t:=4) (n:=38) (X:=qZ a b) ?_ ?_
 ·all_goals refine Dd (aT oH) ?_
  all_goals refine Dd (bF isAgg9)<|Dd (aT oH)<|Dd (bF isAgg9)<|Dd AG<|Dm ?_
  all_goals refine Sp 10 (fun h10=>?_) fun h10=>?_
  all_goals try contradiction
  all_goals first|refine Fo<|Fo<|Fo<|Fo<|Fo ?_|refine On (aT eB)<|On (bF isAgg3)<|On (aT eB)<|On (bF isAgg3)<|On cN ?_
  all_goals refine Dd cH<|Dm ?_
  all_goals refine Sp 17 (fun h17=>?_) fun h17=>?_
  all_goals try contradiction
  all_goals first|refine Fo<|Fo<|Fo<|Fo<|Fo ?_|refine On (aT mI)<|On (by exact aN rfl dS sizeOf68 rfl rfl rfl rfl (by simp only[Zl,bQ,bW,encStr,bA];rfl) rfl)<|On (aT mI)<|On (by exact aN rfl dS sizeOf68 rfl rfl rfl rfl (by simp only[Zl,bQ,bW,encStr,bA];rfl) rfl)<|On (by exact yX rfl rfl rfl rfl rfl iF (SZ _ _ _ _)) ?_
  all_goals refine Dd cH<|Dm ?_
  all_goals refine Sp 24 (fun h24=>?_) fun h24=>?_
  all_goals try contradiction
  all_goals first|refine Fo<|Fo<|Fo<|Fo<|Fo ?_|refine On (aT dT)<|On (bF aG)<|On (aT dT)<|On (bF aG)<|On (by exact aA rfl rfl call268 rfl (XN a.refs b.refs _ ha.1)) ?_
  all_goals refine Dd cH<|Dm ?_
  all_goals refine Sp 31 (fun h31=>?_) fun h31=>?_
  all_goals try contradiction
  all_goals first|refine Fo<|Fo<|Fo<|Fo<|Fo ?_|refine On (aT fB)<|On (bF cS)<|On (aT fB)<|On (bF cS)<|On (by exact aA rfl rfl call273 rfl (XK a.tags b.tags _ ha.2)) ?_
  all_goals refine Dd cH<|Da ?_
  all_goals(exact⟨⟨_,rfl,by(simp only[qZ, *];rfl)⟩,rfl,rfl,rfl⟩)
 exact aB<|Rt<|Qq
def lJ(a b:GEdit):Bool:=((((decide (a.refs=b.refs)&&qZ a.obj b.obj)&&decide (a.op=b.op))&&(decide (a.id=b.id)&&decide (a.other=b.other)&&decide (a.node=b.node)&&decide (a.key=b.key)))&&decide (a.val=b.val))&&(decide (a.x=b.x)&&decide (a.y=b.y))
theorem nV{a b:GEdit}:lJ a b=true↔a=b:=by
 cases a;cases b;simp only[lJ,aQN,aQL,A2,GEdit.mk.injEq];constructor
 ·rintro⟨⟨⟨⟨⟨a1,a2⟩,a3⟩,⟨⟨a4,a5⟩,a6⟩,a7⟩,a8⟩,a9,a10⟩;exact⟨a3,a4,a5,a6,a9,a10,a7,a8,a1,a2⟩
 rintro⟨a3,a4,a5,a6,a9,a10,a7,a8,a1,a2⟩;exact⟨⟨⟨⟨⟨a1,a2⟩,a3⟩,⟨⟨a4,a5⟩,a6⟩,a7⟩,a8⟩,a9,a10⟩
theorem AH(a b:GEdit)(H:aH)(h1:a.refs.length<4611686018427387904)(h2:okS a.obj):aI Tryz.prog 242 [av (bA a),av (bA b)] H (fun r H'=>r=bv (lJ a b)/\H'=H):=by
 refine Pu ?_;refine Bd func242 rfl ntmps242<|Sr<|Dd (by exact cF (id:=2) rfl rfl rfl rfl rfl)<|Dd (by exact cF (id:=3) rfl rfl rfl rfl rfl)<|Dd aM<|Zz<|Sq ?_;refine aY (t:=5) (n:=14) (X:=decide (a.refs=b.refs)&&qZ a.obj b.obj) ?_ ?_
 ·all_goals refine Dd (aT eY) ?_
  all_goals refine Dd (bF aG)<|Dd (aT eY)<|Dd (bF aG)<|Dd (by exact aA rfl rfl call268 rfl (XN a.refs b.refs _ h1))<|Dm ?_
  all_goals refine Sp 11 (fun h11=>?_) fun h11=>?_
  all_goals try contradiction
  all_goals first|refine Fo<|Fo<|Fo<|Fo<|Fo ?_|refine On (aT oG)<|On (by exact aN rfl dA sizeOf151 rfl rfl rfl rfl (by simp only[Zl,bQ,bW,encStr,bA];rfl) rfl)<|On (aT oG)<|On (by exact aN rfl dA sizeOf151 rfl rfl rfl rfl (by simp only[Zl,bQ,bW,encStr,bA];rfl) rfl)<|On (by exact aA rfl rfl call269 rfl (aHj a.obj b.obj _ h2)) ?_
  all_goals refine Dd cH<|Da ?_
  all_goals(exact⟨⟨_,rfl,by(simp only[*];rfl)⟩,rfl,rfl,rfl⟩)
 refine Sq ?_;refine aY (t:=4) (n:=48) (X:=lJ a b) ?_ ?_
 ·all_goals refine Dd aE ?_
  all_goals refine Dm ?_
  all_goals refine Sp 19 (fun h19=>?_) fun h19=>?_
  all_goals try contradiction
  all_goals first|refine Fo<|Fo<|Fo<|Fo<|Fo ?_|refine On (aT gG)<|On (bF isAgg3)<|On (aT gG)<|On (bF isAgg3)<|On cN ?_
  all_goals refine Dd cH<|Dm ?_
  all_goals refine Sp 26 (fun h26=>?_) fun h26=>?_
  all_goals try contradiction
  all_goals first|refine Fo<|Fo<|Fo<|Fo<|Fo<|Fo<|Fo<|Fo<|Fo<|Fo<|Fo<|Fo<|Fo<|Fo<|Fo<|Fo<|Fo<|Fo<|Fo ?_|refine On (aT gX)<|On (bF isAgg9)<|On (aT iC)<|On (bF isAgg9)<|On (aT mH)<|On (bF isAgg9)<|On (aT kD)<|On (bF isAgg9)<|On (by exact wQ rfl aKH rfl rfl)<|On (aT gX)<|On (bF isAgg9)<|On (aT iC)<|On (bF isAgg9)<|On (aT mH)<|On (bF isAgg9)<|On (aT kD)<|On (bF isAgg9)<|On (by exact wQ rfl aKH rfl rfl)<|On (by exact yX rfl rfl rfl rfl rfl eqGuardType274 (aOb a.id b.id a.other b.other a.node b.node a.key b.key)) ?_
  all_goals refine Dd cH<|Dm ?_
  all_goals refine Sp 47 (fun h47=>?_) fun h47=>?_
  all_goals try contradiction
  all_goals first|refine Fo<|Fo<|Fo<|Fo<|Fo ?_|refine On (aT kR)<|On (bF isAgg9)<|On (aT kR)<|On (bF isAgg9)<|On AG ?_
  all_goals refine Dd cH<|Dm ?_
  all_goals refine Sp 54 (fun h54=>?_) fun h54=>?_
  all_goals try contradiction
  all_goals first|refine Fo<|Fo<|Fo<|Fo<|Fo ?_|refine On (aT gW)<|On (by exact aN rfl dS sizeOf68 rfl rfl rfl rfl (by simp only[Zl,bQ,bW,encStr,bA];rfl) rfl)<|On (aT gW)<|On (by exact aN rfl dS sizeOf68 rfl rfl rfl rfl (by simp only[Zl,bQ,bW,encStr,bA];rfl) rfl)<|On (by exact yX rfl rfl rfl rfl rfl iF (SZ _ _ _ _)) ?_
  all_goals refine Dd cH<|Da ?_
  all_goals(exact⟨⟨_,rfl,by(simp only[lJ, *];rfl)⟩,rfl,rfl,rfl⟩)
 exact aB<|Rt<|Qq
def atP{α:Type}(l:List α)(p:α->Bool)(k:Nat):Bool:=match l[k]? with
 |some s=>p s
 |none=>false
theorem OC{l:List α}{p:α->Bool}{k:Nat}{s:α}(h:l[k]?=some s):atP l p k=p s:=by rw[atP,h]
theorem OV(l:List α)(p:α->Bool):(List.range l.length).any (atP l p)=l.any p:=by
 rw[Bool.eq_iff_iff,List.any_eq_true,List.any_eq_true];constructor
 ·rintro⟨k,hk,h⟩;have hlt:=List.mem_range.1 hk;rw[OC (aQJ hlt)]at h;exact⟨_,List.getElem_mem hlt,h⟩
 rintro⟨x,hx,h⟩;obtain ⟨k,hk⟩:=aQZ.1 hx;exact⟨k,List.mem_range.2 (aQI.1 hk).1,by rw[OC hk];exact h⟩
theorem aFN(s:ByteArray)(H:aH)(hs:s.size<4611686018427387904):aI Tryz.prog 267 [sv s] H (fun r H'=>r=bv (!bT s)/\H'=H):=by refine Pu ?_;exact Bd func267 rfl ntmps267<|Sr<|Dd aM<|Zz<|Sr<|Dd aE<|Dd (by exact aA rfl rfl pH rfl (AR s _ hs))<|Dd iS<|Dd aM<|Zz<|aB<|Rt<|Qq
theorem TM(l:List ByteArray)(H:aH)(hl:l.length<4611686018427387904)(hs:∀s∈l,s.size<4611686018427387904):aI Tryz.prog 241 [.pv (aZ l)] H (fun r H'=>r=bv (l.all bT)/\H'=H):=by
 refine Pu ?_;have e:l.all bT=!(List.range l.length).any (atP l (fun s=>!bT s)):=by
  rw[OV l (fun s=>!bT s),List.any_eq_not_all_not];simp
 rw[e];exact Bd func241 rfl ntmps241<|Sr<|Dd aM<|Zz<|Sr<|Dd aE<|Dd (by exact aA rfl rfl US rfl (sI (.pv (.fn 267)) l (atP l (fun s=>!bT s)) (fun _=>[]) hl (fun k s hk=>dN.fn call267 (by rw[OC hk];exact aFN s _ (hs s (aQO hk))))))<|Dd iS<|Dd aM<|Zz<|aB<|Rt<|Qq
def DY(e:GEdit):GEdit :=if e.op=1 then⟨e.op,sNil,sNil,sNil,0,0,sNil,sNil,[],e.obj⟩
 else if e.op=2 then⟨e.op,e.id,sNil,sNil,e.x,e.y,sNil,sNil,[],zObj⟩
 else if e.op=3 then⟨e.op,e.id,sNil,sNil,0,0,e.key,e.val,[],zObj⟩
 else if e.op=4 then⟨e.op,e.id,sNil,sNil,0,0,sNil,sNil,e.refs,zObj⟩
 else if e.op=5 then⟨e.op,e.id,sNil,sNil,0,0,sNil,sNil,[],zObj⟩
 else if e.op=6 then⟨e.op,e.id,e.other,e.node,0,0,sNil,sNil,[],zObj⟩
 else⟨e.op,e.id,e.other,sNil,0,0,sNil,sNil,[],zObj⟩
def rI(e:GEdit):Bool :=if e.op=1 then lV e.obj
 else bT e.id&&(if e.op=2 then onP e.x e.y else if e.op=3 then bT e.key&&decide ((e.val.size:Int)<=200)
  else if e.op=4 then decide ((0:Int)<(e.refs.length:Int))&&decide ((e.refs.length:Int)<=2000)&&e.refs.all bT
  else if e.op=5 then true else if e.op=6 then bT e.node&&bT e.other else bT e.other)
def dU(e:GEdit):Bool:=(decide (1<=e.op)&&decide (e.op<=7))&&(rI e&&lJ (DY e) e)
def M0(e:GEdit):Prop:=(e.id.size<4611686018427387904/\e.other.size<4611686018427387904/\e.node.size<4611686018427387904/\e.key.size<4611686018427387904)/\(e.refs.length<4611686018427387904/\∀s∈e.refs,s.size<4611686018427387904)/\okO e.obj
theorem aLL{o:GObj}(h:okO o):okS o:=⟨h.2.2.1,h.2.1.1⟩
theorem QW:okS zObj:=⟨by decide,by decide⟩
theorem aI4(s:ByteArray)(H:aH)(hs:s.size<4611686018427387904):aI Tryz.prog 241 [.pv (aZ [s])] H (fun r H'=>r=bv (bT s)/\H'=H):=by
 have h:=TM [s] H (by show 1<_;omega) (by simpa using hs)
 simpa using h
theorem aOs(s t:ByteArray)(H:aH)(hs:s.size<4611686018427387904)(ht:t.size<4611686018427387904):aI Tryz.prog 241 [.pv (aZ [s,t])] H (fun r H'=>r=bv (bT s&&bT t)/\H'=H):=by
 have h:=TM [s,t] H (by show 2<_;omega) (by simpa using ⟨hs,ht⟩)
 simpa using h
theorem XP(e:GEdit)(H:aH)(he:M0 e):aI Tryz.prog 202 [av (bA e)] H (fun r H'=>r=bv (dU e)/\H'=H):=by
 refine Pu ?_;obtain ⟨⟨h1,h2,h3,h4⟩,⟨h5,h6⟩,h7⟩:=he;have hrl:(e.refs.map encStr).length=e.refs.length:=aQE _;refine Bd func202 rfl ntmps202<|Sr<|Dd (by exact cF (id:=1) rfl rfl rfl rfl rfl)<|Dd aM<|Zz<|Sr<|Dd (aT gG)<|Dd (bF isAgg3)<|Dd (aT gX)<|Dd (bF isAgg9)<|Dd (rJ EA)<|Dd (by exact bU (id:=3) rfl PX rfl rfl)<|Uu (jN bC)<|Zz<|Sr<|Dd (aT gX)<|Dd (bF isAgg9)<|Dd (by exact aQ ([e.id].map encStr) rfl cC rfl rfl rfl rfl rfl (by simp[encStr]))<|Dd (by exact aA rfl rfl DW rfl (aI4 e.id _ h1))<|Dd aM<|Zz<|Sq<|Sr<|Dd (aT gG)<|Dd (bF isAgg3)<|Zz<|aF<|Sr<|Dd cN<|Da ?_;refine Cn ?_ ?_<;>intro hc1
 ·have ho:e.op=1:=aQA hc1;have hx:DY e=⟨e.op,sNil,sNil,sNil,0,0,sNil,sNil,[],e.obj⟩:=by rw[DY,aQD ho]
  have hk:rI e=lV e.obj:=by rw[rI,aQD ho]
  have hv:dU e=(lV e.obj&&lJ ⟨e.op,sNil,sNil,sNil,0,0,sNil,sNil,[],e.obj⟩ e):=by rw[dU,hx,hk,ho];rfl
  refine aO follows<|Cr [1] (fun _ h=>fh oG h)<|Cr [1] (fun H1 hH=>by exact aN rfl dA sizeOf151 rfl ((hH _ rfl).trans rfl) rfl rfl (by simp only[Zl,bQ,bW,encStr,bA,zObj];rfl) rfl)<|Cr [1] (fun _ h=>fh oG h)<|Cr [1] (fun H1 hH=>by exact aN rfl dA sizeOf151 rfl ((hH _ rfl).trans rfl) rfl rfl (by simp only[Zl,bQ,bW,encStr,bA,zObj];rfl) rfl)<|Cr [] (fun H1 hH=>by exact aA rfl rfl call233 rfl (M4 e.obj _ h7))<|Cr [3] (fun _ h=>fh gX h)<|Cp [3] (fun H1 hH=>by exact bG rfl sizeOf9 rfl rfl rfl ((hH _ rfl).trans rfl) rfl rfl (aQR rfl) rfl rfl)<|Cr [3] (fun _ h=>fh oG h)<|Cp [3] (fun H1 hH=>by exact iY rfl sizeOf151 rfl rfl rfl rfl ((hH _ rfl).trans rfl) rfl rfl (aQR rfl) rfl rfl)<|Cr [] (fun _ _=>aM) ?_;refine bM<|Kr<|Sq ?_;refine aY (t:=2) (n:=8) (X:=lV e.obj&&lJ ⟨e.op,sNil,sNil,sNil,0,0,sNil,sNil,[],e.obj⟩ e) ?_ ?_
  ·all_goals refine Dd aE ?_
   all_goals refine Dm ?_
   all_goals refine Sp 127 (fun h127=>?_) fun h127=>?_
   all_goals try contradiction
   all_goals first|refine Fo<|Fo<|Fo ?_|refine On (by exact aN rfl cE bC rfl rfl rfl rfl (by simp only[Zl,bQ,bW,encStr,bA,zObj];rfl) rfl)<|On (by exact aN rfl cE bC rfl rfl rfl rfl (by simp only[Zl,bQ,bW,encStr,bA,zObj];rfl) rfl)<|On (by exact aA rfl rfl yC rfl (AH ⟨e.op,sNil,sNil,sNil,0,0,sNil,sNil,[],e.obj⟩ e _ (by show 0<_;omega) (aLL h7))) ?_
   all_goals refine Dd cH<|Da ?_
   all_goals(exact⟨⟨_,rfl,by(simp_all[lV];done)⟩,rfl,rfl,rfl⟩)
  refine aB<|Rt ?_;exact⟨by rw[hv],rfl⟩
 have ho1:¬ e.op=1:=aQB hc1;refine Sr<|Dd cN<|Da ?_;refine Cn ?_ ?_<;>intro hc2
 ·have ho:e.op=2:=aQA hc2;have hx:DY e=⟨e.op,e.id,sNil,sNil,e.x,e.y,sNil,sNil,[],zObj⟩:=by rw[DY,aQC ho1,aQD ho]
  have hk:rI e=(bT e.id&&onP e.x e.y):=by rw[rI,aQC ho1,aQD ho]
  have hb:(bT e.id&&decide (0<=min e.x e.y)&&decide (max e.x e.y<1048576))=(bT e.id&&onP e.x e.y):=by rw[onP,Bool.and_assoc]
  have hv:dU e=((bT e.id&&decide (0<=min e.x e.y)&&decide (max e.x e.y<1048576))&&lJ ⟨e.op,e.id,sNil,sNil,e.x,e.y,sNil,sNil,[],zObj⟩ e):=by rw[dU,hx,hk,hb,ho];rfl
  apply wC (t:=4) (n:=25) (X:=bT e.id&&decide (0<=min e.x e.y)&&decide (max e.x e.y<1048576))
  ·cases hg30:(bT e.id:Bool)
   ·refine aO follows<|Cr [1] (fun _ h=>fh gW h)<|Cr [1] (fun H1 hH=>by exact aN rfl dS sizeOf68 rfl ((hH _ rfl).trans rfl) rfl rfl (by simp only[Zl,bQ,bW,encStr,bA,zObj];rfl) rfl)<|Cr [] (fun _ _=>aE)<|Cr [] (fun _ _=>aE)<|Ot<|Ot<|Ot<|Ot<|Ot<|Ot<|Ot<|Ot<|Cr [] (fun _ _=>cH)<|Cr [] (fun _ _=>aE)<|Ot<|Ot<|Ot<|Ot<|Ot<|Ot<|Ot<|Ot<|Cr [] (fun _ _=>cH)<|Cr [3] (fun _ h=>fh gW h)<|Cp [3] (fun H1 hH=>by exact iY rfl sizeOf68 rfl rfl rfl rfl ((hH _ rfl).trans rfl) rfl rfl (aQR rfl) rfl rfl)<|Cr [] (fun _ _=>aM)<|bM<|Kr ?_;exact⟨rfl,⟨_,rfl,by rfl⟩,rfl,rfl,rfl⟩
   cases hg40:(decide (0<=min e.x e.y):Bool)
   ·refine aO follows<|Cr [1] (fun _ h=>fh gW h)<|Cr [1] (fun H1 hH=>by exact aN rfl dS sizeOf68 rfl ((hH _ rfl).trans rfl) rfl rfl (by simp only[Zl,bQ,bW,encStr,bA,zObj];rfl) rfl)<|Cr [] (fun _ _=>aE)<|Cr [] (fun _ _=>aE) ?_;refine bL (r:=⟨_,some [1],[]⟩) (cL rfl rfl rfl (by rfl) (fun H1 hH=>by exact(by exact bP rfl gW rfl ((hH _ rfl).trans rfl) rfl rfl))) rfl ?_;refine bL (r:=⟨_,some [1],[]⟩) (cL rfl rfl rfl (by rfl) (fun H1 hH=>by exact(by exact bP rfl pR rfl ((hH _ rfl).trans rfl) rfl rfl))) rfl ?_;refine bL (r:=⟨_,some [1],[]⟩) (cL rfl rfl rfl (by rfl) (fun H1 hH=>by exact(by exact aK rfl isAgg3 rfl ((hH _ rfl).trans rfl) rfl rfl rfl))) rfl ?_;refine bL (r:=⟨_,some [1],[]⟩) (cL rfl rfl rfl (by rfl) (fun H1 hH=>by exact(by exact bP rfl gW rfl ((hH _ rfl).trans rfl) rfl rfl))) rfl ?_;refine bL (r:=⟨_,some [1],[]⟩) (cL rfl rfl rfl (by rfl) (fun H1 hH=>by exact(by exact bP rfl pQ rfl ((hH _ rfl).trans rfl) rfl rfl))) rfl ?_;refine bL (r:=⟨_,some [1],[]⟩) (cL rfl rfl rfl (by rfl) (fun H1 hH=>by exact(by exact aK rfl isAgg3 rfl ((hH _ rfl).trans rfl) rfl rfl rfl))) rfl ?_;refine bL (r:=⟨_,some [],[]⟩) (cL rfl rfl rfl (by rfl) (fun H1 hH=>by exact KU rfl rfl rfl rfl)) rfl ?_;refine bL (r:=⟨_,some [],[]⟩) (cL rfl rfl rfl (by rfl) (fun H1 hH=>by exact lC rfl rfl rfl)) rfl ?_;refine Cr [] (fun _ _=>cH)<|Cr [] (fun _ _=>aE)<|Ot<|Ot<|Ot<|Ot<|Ot<|Ot<|Ot<|Ot<|Cr [] (fun _ _=>oU)<|Cr [3] (fun _ h=>fh gW h)<|Cp [3] (fun H1 hH=>by exact iY rfl sizeOf68 rfl rfl rfl rfl ((hH _ rfl).trans rfl) rfl rfl (aQR rfl) rfl rfl)<|Cr [] (fun _ _=>aM)<|bM<|Kr ?_;exact⟨rfl,⟨_,rfl,by rfl⟩,rfl,rfl,rfl⟩
   refine aO follows<|Cr [1] (fun _ h=>fh gW h)<|Cr [1] (fun H1 hH=>by exact aN rfl dS sizeOf68 rfl ((hH _ rfl).trans rfl) rfl rfl (by simp only[Zl,bQ,bW,encStr,bA,zObj];rfl) rfl)<|Cr [] (fun _ _=>aE)<|Cr [] (fun _ _=>aE) ?_;refine bL (r:=⟨_,some [1],[]⟩) (cL rfl rfl rfl (by rfl) (fun H1 hH=>by exact(by exact bP rfl gW rfl ((hH _ rfl).trans rfl) rfl rfl))) rfl ?_;refine bL (r:=⟨_,some [1],[]⟩) (cL rfl rfl rfl (by rfl) (fun H1 hH=>by exact(by exact bP rfl pR rfl ((hH _ rfl).trans rfl) rfl rfl))) rfl ?_;refine bL (r:=⟨_,some [1],[]⟩) (cL rfl rfl rfl (by rfl) (fun H1 hH=>by exact(by exact aK rfl isAgg3 rfl ((hH _ rfl).trans rfl) rfl rfl rfl))) rfl ?_;refine bL (r:=⟨_,some [1],[]⟩) (cL rfl rfl rfl (by rfl) (fun H1 hH=>by exact(by exact bP rfl gW rfl ((hH _ rfl).trans rfl) rfl rfl))) rfl ?_;refine bL (r:=⟨_,some [1],[]⟩) (cL rfl rfl rfl (by rfl) (fun H1 hH=>by exact(by exact bP rfl pQ rfl ((hH _ rfl).trans rfl) rfl rfl))) rfl ?_;refine bL (r:=⟨_,some [1],[]⟩) (cL rfl rfl rfl (by rfl) (fun H1 hH=>by exact(by exact aK rfl isAgg3 rfl ((hH _ rfl).trans rfl) rfl rfl rfl))) rfl ?_;refine bL (r:=⟨_,some [],[]⟩) (cL rfl rfl rfl (by rfl) (fun H1 hH=>by exact KU rfl rfl rfl rfl)) rfl ?_;refine bL (r:=⟨_,some [],[]⟩) (cL rfl rfl rfl (by rfl) (fun H1 hH=>by exact lC rfl rfl rfl)) rfl ?_;refine Cr [] (fun _ _=>cH)<|Cr [] (fun _ _=>aE) ?_;refine bL (r:=⟨_,some [1],[]⟩) (cL rfl rfl rfl (by assumption) (fun H1 hH=>by exact(by exact bP rfl gW rfl ((hH _ rfl).trans rfl) rfl rfl))) rfl ?_;refine bL (r:=⟨_,some [1],[]⟩) (cL rfl rfl rfl (by assumption) (fun H1 hH=>by exact(by exact bP rfl pR rfl ((hH _ rfl).trans rfl) rfl rfl))) rfl ?_;refine bL (r:=⟨_,some [1],[]⟩) (cL rfl rfl rfl (by assumption) (fun H1 hH=>by exact(by exact aK rfl isAgg3 rfl ((hH _ rfl).trans rfl) rfl rfl rfl))) rfl ?_;refine bL (r:=⟨_,some [1],[]⟩) (cL rfl rfl rfl (by assumption) (fun H1 hH=>by exact(by exact bP rfl gW rfl ((hH _ rfl).trans rfl) rfl rfl))) rfl ?_;refine bL (r:=⟨_,some [1],[]⟩) (cL rfl rfl rfl (by assumption) (fun H1 hH=>by exact(by exact bP rfl pQ rfl ((hH _ rfl).trans rfl) rfl rfl))) rfl ?_;refine bL (r:=⟨_,some [1],[]⟩) (cL rfl rfl rfl (by assumption) (fun H1 hH=>by exact(by exact aK rfl isAgg3 rfl ((hH _ rfl).trans rfl) rfl rfl rfl))) rfl ?_;refine bL (r:=⟨_,some [],[]⟩) (cL rfl rfl rfl (by assumption) (fun H1 hH=>by exact aIT rfl rfl rfl rfl)) rfl ?_;refine bL (r:=⟨_,some [],[]⟩) (cL rfl rfl rfl (by assumption) (fun H1 hH=>by exact iZ rfl rfl rfl)) rfl ?_;refine Cr [] (fun _ _=>yT)<|Cr [3] (fun _ h=>fh gW h)<|Cp [3] (fun H1 hH=>by exact iY rfl sizeOf68 rfl rfl rfl rfl ((hH _ rfl).trans rfl) rfl rfl (aQR rfl) rfl rfl)<|Cr [] (fun _ _=>aM)<|bM<|Kr ?_;exact⟨rfl,⟨_,rfl,by rfl⟩,rfl,rfl,rfl⟩
  refine Sq ?_;refine aY (t:=2) (n:=8) (X:=(bT e.id&&decide (0<=min e.x e.y)&&decide (max e.x e.y<1048576))&&lJ ⟨e.op,e.id,sNil,sNil,e.x,e.y,sNil,sNil,[],zObj⟩ e) ?_ ?_
  ·all_goals refine Dd aE ?_
   all_goals refine Dm ?_
   all_goals refine Sp 127 (fun h127=>?_) fun h127=>?_
   all_goals try contradiction
   all_goals first|refine Fo<|Fo<|Fo ?_|refine On (by exact aN rfl cE bC rfl rfl rfl rfl (by simp only[Zl,bQ,bW,encStr,bA,zObj];rfl) rfl)<|On (by exact aN rfl cE bC rfl rfl rfl rfl (by simp only[Zl,bQ,bW,encStr,bA,zObj];rfl) rfl)<|On (by exact aA rfl rfl yC rfl (AH ⟨e.op,e.id,sNil,sNil,e.x,e.y,sNil,sNil,[],zObj⟩ e _ (by(show 0<_;omega)) QW)) ?_
   all_goals refine Dd cH<|Da ?_
   all_goals(exact⟨⟨_,rfl,by(rw[h127];rfl)⟩,rfl,rfl,rfl⟩)
  refine aB<|Rt ?_;exact⟨by rw[hv],rfl⟩
 have ho2:¬ e.op=2:=aQB hc2;refine Sr<|Dd cN<|Da ?_;refine Cn ?_ ?_<;>intro hc3
 ·have ho:e.op=3:=aQA hc3;have hx:DY e=⟨e.op,e.id,sNil,sNil,0,0,e.key,e.val,[],zObj⟩:=by rw[DY,aQC ho1,aQC ho2,aQD ho]
  have hk:rI e=(bT e.id&&(bT e.key&&decide ((e.val.size:Int)<=200))):=by rw[rI,aQC ho1,aQC ho2,aQD ho]
  have hb:(bT e.id&&bT e.key&&decide ((e.val.size:Int)<=200))=(bT e.id&&(bT e.key&&decide ((e.val.size:Int)<=200))):=by rw[Bool.and_assoc]
  have hv:dU e=((bT e.id&&bT e.key&&decide ((e.val.size:Int)<=200))&&lJ ⟨e.op,e.id,sNil,sNil,0,0,e.key,e.val,[],zObj⟩ e):=by rw[dU,hx,hk,hb,ho];rfl
  apply wC (t:=4) (n:=20) (X:=bT e.id&&bT e.key&&decide ((e.val.size:Int)<=200))
  ·cases hg58:(bT e.id:Bool)
   ·refine aO follows<|Cr [1] (fun _ h=>fh kD h)<|Cr [1] (fun _ h=>lh isAgg9 h)<|Cr [1] (fun _ h=>fh kR h)<|Cr [1] (fun _ h=>lh isAgg9 h)<|Cr [] (fun _ _=>aE)<|Cr [] (fun _ _=>aE)<|Ot<|Ot<|Ot<|Ot<|Cr [] (fun _ _=>cH)<|Cr [] (fun _ _=>aE)<|Ot<|Ot<|Ot<|Ot<|Cr [] (fun _ _=>cH)<|Cr [3] (fun _ h=>fh kD h)<|Cp [3] (fun H1 hH=>by exact bG rfl sizeOf9 rfl rfl rfl ((hH _ rfl).trans rfl) rfl rfl (aQR rfl) rfl rfl)<|Cr [3] (fun _ h=>fh kR h)<|Cp [3] (fun H1 hH=>by exact bG rfl sizeOf9 rfl rfl rfl ((hH _ rfl).trans rfl) rfl rfl (aQR rfl) rfl rfl)<|Cr [] (fun _ _=>aM)<|bM<|Kr ?_;exact⟨rfl,⟨_,rfl,by rfl⟩,rfl,rfl,rfl⟩
   cases hg64:(bT e.key:Bool)
   ·refine aO follows<|Cr [1] (fun _ h=>fh kD h)<|Cr [1] (fun _ h=>lh isAgg9 h)<|Cr [1] (fun _ h=>fh kR h)<|Cr [1] (fun _ h=>lh isAgg9 h)<|Cr [] (fun _ _=>aE)<|Cr [] (fun _ _=>aE) ?_;refine bL (r:=⟨_,some [1],[]⟩) (cL rfl rfl rfl (by rfl) (fun H1 hH=>by exact(by exact bP rfl kD rfl ((hH _ rfl).trans rfl) rfl rfl))) rfl ?_;refine bL (r:=⟨_,some [1],[]⟩) (cL rfl rfl rfl (by rfl) (fun H1 hH=>by exact(by exact aK rfl isAgg9 rfl ((hH _ rfl).trans rfl) rfl rfl rfl))) rfl ?_;refine bL (r:=⟨_,some [],[]⟩) (cL rfl rfl rfl (by rfl) (fun H1 hH=>by exact(by exact aQ ([e.key].map encStr) rfl cC rfl rfl rfl rfl rfl (by simp[encStr])))) rfl ?_;refine bL (r:=⟨_,some [],[]⟩) (cL rfl rfl rfl (by rfl) (fun H1 hH=>by exact aA rfl rfl DW rfl (aI4 e.key _ h4))) rfl ?_;refine Cr [] (fun _ _=>cH)<|Cr [] (fun _ _=>aE)<|Ot<|Ot<|Ot<|Ot<|Cr [] (fun _ _=>oU)<|Cr [3] (fun _ h=>fh kD h)<|Cp [3] (fun H1 hH=>by exact bG rfl sizeOf9 rfl rfl rfl ((hH _ rfl).trans rfl) rfl rfl (aQR rfl) rfl rfl)<|Cr [3] (fun _ h=>fh kR h)<|Cp [3] (fun H1 hH=>by exact bG rfl sizeOf9 rfl rfl rfl ((hH _ rfl).trans rfl) rfl rfl (aQR rfl) rfl rfl)<|Cr [] (fun _ _=>aM)<|bM<|Kr ?_;exact⟨rfl,⟨_,rfl,by rfl⟩,rfl,rfl,rfl⟩
   refine aO follows<|Cr [1] (fun _ h=>fh kD h)<|Cr [1] (fun _ h=>lh isAgg9 h)<|Cr [1] (fun _ h=>fh kR h)<|Cr [1] (fun _ h=>lh isAgg9 h)<|Cr [] (fun _ _=>aE)<|Cr [] (fun _ _=>aE) ?_;refine bL (r:=⟨_,some [1],[]⟩) (cL rfl rfl rfl (by rfl) (fun H1 hH=>by exact(by exact bP rfl kD rfl ((hH _ rfl).trans rfl) rfl rfl))) rfl ?_;refine bL (r:=⟨_,some [1],[]⟩) (cL rfl rfl rfl (by rfl) (fun H1 hH=>by exact(by exact aK rfl isAgg9 rfl ((hH _ rfl).trans rfl) rfl rfl rfl))) rfl ?_;refine bL (r:=⟨_,some [],[]⟩) (cL rfl rfl rfl (by rfl) (fun H1 hH=>by exact(by exact aQ ([e.key].map encStr) rfl cC rfl rfl rfl rfl rfl (by simp[encStr])))) rfl ?_;refine bL (r:=⟨_,some [],[]⟩) (cL rfl rfl rfl (by rfl) (fun H1 hH=>by exact aA rfl rfl DW rfl (aI4 e.key _ h4))) rfl ?_;refine Cr [] (fun _ _=>cH)<|Cr [] (fun _ _=>aE) ?_;refine bL (r:=⟨_,some [1],[]⟩) (cL rfl rfl rfl (by assumption) (fun H1 hH=>by exact(by exact bP rfl kR rfl ((hH _ rfl).trans rfl) rfl rfl))) rfl ?_;refine bL (r:=⟨_,some [1],[]⟩) (cL rfl rfl rfl (by assumption) (fun H1 hH=>by exact(by exact aK rfl isAgg9 rfl ((hH _ rfl).trans rfl) rfl rfl rfl))) rfl ?_;refine bL (r:=⟨_,some [],[]⟩) (cL rfl rfl rfl (by assumption) (fun H1 hH=>by exact JM rfl underlying9 rfl)) rfl ?_;refine bL (r:=⟨_,some [],[]⟩) (cL rfl rfl rfl (by assumption) (fun H1 hH=>by exact sF rfl rfl rfl)) rfl ?_;refine Cr [] (fun _ _=>yT)<|Cr [3] (fun _ h=>fh kD h)<|Cp [3] (fun H1 hH=>by exact bG rfl sizeOf9 rfl rfl rfl ((hH _ rfl).trans rfl) rfl rfl (aQR rfl) rfl rfl)<|Cr [3] (fun _ h=>fh kR h)<|Cp [3] (fun H1 hH=>by exact bG rfl sizeOf9 rfl rfl rfl ((hH _ rfl).trans rfl) rfl rfl (aQR rfl) rfl rfl)<|Cr [] (fun _ _=>aM)<|bM<|Kr ?_;exact⟨rfl,⟨_,rfl,by rfl⟩,rfl,rfl,rfl⟩
  refine Sq ?_;refine aY (t:=2) (n:=8) (X:=(bT e.id&&bT e.key&&decide ((e.val.size:Int)<=200))&&lJ ⟨e.op,e.id,sNil,sNil,0,0,e.key,e.val,[],zObj⟩ e) ?_ ?_
  ·all_goals refine Dd aE ?_
   all_goals refine Dm ?_
   all_goals refine Sp 127 (fun h127=>?_) fun h127=>?_
   all_goals try contradiction
   all_goals first|refine Fo<|Fo<|Fo ?_|refine On (by exact aN rfl cE bC rfl rfl rfl rfl (by simp only[Zl,bQ,bW,encStr,bA,zObj];rfl) rfl)<|On (by exact aN rfl cE bC rfl rfl rfl rfl (by simp only[Zl,bQ,bW,encStr,bA,zObj];rfl) rfl)<|On (by exact aA rfl rfl yC rfl (AH ⟨e.op,e.id,sNil,sNil,0,0,e.key,e.val,[],zObj⟩ e _ (by(show 0<_;omega)) QW)) ?_
   all_goals refine Dd cH<|Da ?_
   all_goals(exact⟨⟨_,rfl,by(rw[h127];rfl)⟩,rfl,rfl,rfl⟩)
  refine aB<|Rt ?_;exact⟨by rw[hv],rfl⟩
 have ho3:¬ e.op=3:=aQB hc3;refine Sr<|Dd cN<|Da ?_;refine Cn ?_ ?_<;>intro hc4
 ·have ho:e.op=4:=aQA hc4;have hx:DY e=⟨e.op,e.id,sNil,sNil,0,0,sNil,sNil,e.refs,zObj⟩:=by rw[DY,aQC ho1,aQC ho2,aQC ho3,aQD ho]
  have hk:rI e=(bT e.id&&(decide ((0:Int)<(e.refs.length:Int))&&decide ((e.refs.length:Int)<=2000)&&e.refs.all bT)):=by rw[rI,aQC ho1,aQC ho2,aQC ho3,aQD ho]
  have hb:(bT e.id&&decide ((0:Int)<((e.refs.map encStr).length:Int))&&decide (((e.refs.map encStr).length:Int)<=2000)&&e.refs.all bT)=(bT e.id&&(decide ((0:Int)<(e.refs.length:Int))&&decide ((e.refs.length:Int)<=2000)&&e.refs.all bT)):=by rw[hrl];simp only[Bool.and_assoc]
  have hv:dU e=((bT e.id&&decide ((0:Int)<((e.refs.map encStr).length:Int))&&decide (((e.refs.map encStr).length:Int)<=2000)&&e.refs.all bT)&&lJ ⟨e.op,e.id,sNil,sNil,0,0,sNil,sNil,e.refs,zObj⟩ e):=by rw[dU,hx,hk,hb,ho];rfl
  apply wC (t:=4) (n:=22) (X:=bT e.id&&decide ((0:Int)<((e.refs.map encStr).length:Int))&&decide (((e.refs.map encStr).length:Int)<=2000)&&e.refs.all bT)
  ·cases hg77:(bT e.id:Bool)
   ·refine aO follows<|Cr [1] (fun _ h=>fh eY h)<|Cr [1] (fun _ h=>lh aG h)<|Cr [] (fun _ _=>aE)<|Cr [] (fun _ _=>aE)<|Ot<|Ot<|Ot<|Ot<|Cr [] (fun _ _=>cH)<|Cr [] (fun _ _=>aE)<|Ot<|Ot<|Ot<|Ot<|Cr [] (fun _ _=>cH)<|Cr [] (fun _ _=>aE)<|Ot<|Ot<|Ot<|Cr [] (fun _ _=>cH)<|Cr [3] (fun _ h=>fh eY h)<|Cp [3] (fun H1 hH=>by exact bG rfl sizeOf22 rfl rfl rfl ((hH _ rfl).trans rfl) rfl rfl (aQR rfl) rfl rfl)<|Cr [] (fun _ _=>aM)<|bM<|Kr ?_;exact⟨rfl,⟨_,rfl,by rfl⟩,rfl,rfl,rfl⟩
   cases hg83:(decide ((0:Int)<((e.refs.map encStr).length:Int)):Bool)
   ·refine aO follows<|Cr [1] (fun _ h=>fh eY h)<|Cr [1] (fun _ h=>lh aG h)<|Cr [] (fun _ _=>aE)<|Cr [] (fun _ _=>aE) ?_;refine bL (r:=⟨_,some [1],[]⟩) (cL rfl rfl rfl (by rfl) (fun H1 hH=>by exact(by exact bP rfl eY rfl ((hH _ rfl).trans rfl) rfl rfl))) rfl ?_;refine bL (r:=⟨_,some [1],[]⟩) (cL rfl rfl rfl (by rfl) (fun H1 hH=>by exact(by exact aK rfl aG rfl ((hH _ rfl).trans rfl) rfl rfl rfl))) rfl ?_;refine bL (r:=⟨_,some [],[]⟩) (cL rfl rfl rfl (by rfl) (fun H1 hH=>by exact(by exact mC rfl aD rfl))) rfl ?_;refine bL (r:=⟨_,some [],[]⟩) (cL rfl rfl rfl (by rfl) (fun H1 hH=>by exact tX rfl rfl rfl)) rfl ?_;refine Cr [] (fun _ _=>cH)<|Cr [] (fun _ _=>aE)<|Ot<|Ot<|Ot<|Ot<|Cr [] (fun _ _=>oU)<|Cr [] (fun _ _=>aE)<|Ot<|Ot<|Ot<|Cr [] (fun _ _=>cH)<|Cr [3] (fun _ h=>fh eY h)<|Cp [3] (fun H1 hH=>by exact bG rfl sizeOf22 rfl rfl rfl ((hH _ rfl).trans rfl) rfl rfl (aQR rfl) rfl rfl)<|Cr [] (fun _ _=>aM)<|bM<|Kr ?_;exact⟨rfl,⟨_,rfl,by rfl⟩,rfl,rfl,rfl⟩
   cases hg89:(decide (((e.refs.map encStr).length:Int)<=2000):Bool)
   ·refine aO follows<|Cr [1] (fun _ h=>fh eY h)<|Cr [1] (fun _ h=>lh aG h)<|Cr [] (fun _ _=>aE)<|Cr [] (fun _ _=>aE) ?_;refine bL (r:=⟨_,some [1],[]⟩) (cL rfl rfl rfl (by rfl) (fun H1 hH=>by exact(by exact bP rfl eY rfl ((hH _ rfl).trans rfl) rfl rfl))) rfl ?_;refine bL (r:=⟨_,some [1],[]⟩) (cL rfl rfl rfl (by rfl) (fun H1 hH=>by exact(by exact aK rfl aG rfl ((hH _ rfl).trans rfl) rfl rfl rfl))) rfl ?_;refine bL (r:=⟨_,some [],[]⟩) (cL rfl rfl rfl (by rfl) (fun H1 hH=>by exact(by exact mC rfl aD rfl))) rfl ?_;refine bL (r:=⟨_,some [],[]⟩) (cL rfl rfl rfl (by rfl) (fun H1 hH=>by exact tX rfl rfl rfl)) rfl ?_;refine Cr [] (fun _ _=>cH)<|Cr [] (fun _ _=>aE) ?_;refine bL (r:=⟨_,some [1],[]⟩) (cL rfl rfl rfl (by assumption) (fun H1 hH=>by exact(by exact bP rfl eY rfl ((hH _ rfl).trans rfl) rfl rfl))) rfl ?_;refine bL (r:=⟨_,some [1],[]⟩) (cL rfl rfl rfl (by assumption) (fun H1 hH=>by exact(by exact aK rfl aG rfl ((hH _ rfl).trans rfl) rfl rfl rfl))) rfl ?_;refine bL (r:=⟨_,some [],[]⟩) (cL rfl rfl rfl (by assumption) (fun H1 hH=>by exact(by exact mC rfl aD rfl))) rfl ?_;refine bL (r:=⟨_,some [],[]⟩) (cL rfl rfl rfl (by assumption) (fun H1 hH=>by exact sF rfl rfl rfl)) rfl ?_;refine Cr [] (fun _ _=>yT)<|Cr [] (fun _ _=>aE)<|Ot<|Ot<|Ot<|Cr [] (fun _ _=>oU)<|Cr [3] (fun _ h=>fh eY h)<|Cp [3] (fun H1 hH=>by exact bG rfl sizeOf22 rfl rfl rfl ((hH _ rfl).trans rfl) rfl rfl (aQR rfl) rfl rfl)<|Cr [] (fun _ _=>aM)<|bM<|Kr ?_;exact⟨rfl,⟨_,rfl,by rfl⟩,rfl,rfl,rfl⟩
   refine aO follows<|Cr [1] (fun _ h=>fh eY h)<|Cr [1] (fun _ h=>lh aG h)<|Cr [] (fun _ _=>aE)<|Cr [] (fun _ _=>aE) ?_;refine bL (r:=⟨_,some [1],[]⟩) (cL rfl rfl rfl (by rfl) (fun H1 hH=>by exact(by exact bP rfl eY rfl ((hH _ rfl).trans rfl) rfl rfl))) rfl ?_;refine bL (r:=⟨_,some [1],[]⟩) (cL rfl rfl rfl (by rfl) (fun H1 hH=>by exact(by exact aK rfl aG rfl ((hH _ rfl).trans rfl) rfl rfl rfl))) rfl ?_;refine bL (r:=⟨_,some [],[]⟩) (cL rfl rfl rfl (by rfl) (fun H1 hH=>by exact(by exact mC rfl aD rfl))) rfl ?_;refine bL (r:=⟨_,some [],[]⟩) (cL rfl rfl rfl (by rfl) (fun H1 hH=>by exact tX rfl rfl rfl)) rfl ?_;refine Cr [] (fun _ _=>cH)<|Cr [] (fun _ _=>aE) ?_;refine bL (r:=⟨_,some [1],[]⟩) (cL rfl rfl rfl (by assumption) (fun H1 hH=>by exact(by exact bP rfl eY rfl ((hH _ rfl).trans rfl) rfl rfl))) rfl ?_;refine bL (r:=⟨_,some [1],[]⟩) (cL rfl rfl rfl (by assumption) (fun H1 hH=>by exact(by exact aK rfl aG rfl ((hH _ rfl).trans rfl) rfl rfl rfl))) rfl ?_;refine bL (r:=⟨_,some [],[]⟩) (cL rfl rfl rfl (by assumption) (fun H1 hH=>by exact(by exact mC rfl aD rfl))) rfl ?_;refine bL (r:=⟨_,some [],[]⟩) (cL rfl rfl rfl (by assumption) (fun H1 hH=>by exact sF rfl rfl rfl)) rfl ?_;refine Cr [] (fun _ _=>yT)<|Cr [] (fun _ _=>aE) ?_;refine bL (r:=⟨_,some [1],[]⟩) (cL rfl rfl rfl (by assumption) (fun H1 hH=>by exact(by exact bP rfl eY rfl ((hH _ rfl).trans rfl) rfl rfl))) rfl ?_;refine bL (r:=⟨_,some [1],[]⟩) (cL rfl rfl rfl (by assumption) (fun H1 hH=>by exact(by exact aK rfl aG rfl ((hH _ rfl).trans rfl) rfl rfl rfl))) rfl ?_;refine bL (r:=⟨_,some [],[]⟩) (cL rfl rfl rfl (by assumption) (fun H1 hH=>by exact aA rfl rfl DW rfl (TM e.refs _ h5 h6))) rfl ?_;refine Cr [] (fun _ _=>yT)<|Cr [3] (fun _ h=>fh eY h)<|Cp [3] (fun H1 hH=>by exact bG rfl sizeOf22 rfl rfl rfl ((hH _ rfl).trans rfl) rfl rfl (aQR rfl) rfl rfl)<|Cr [] (fun _ _=>aM)<|bM<|Kr ?_;exact⟨rfl,⟨_,rfl,by rfl⟩,rfl,rfl,rfl⟩
  refine Sq ?_;refine aY (t:=2) (n:=8) (X:=(bT e.id&&decide ((0:Int)<((e.refs.map encStr).length:Int))&&decide (((e.refs.map encStr).length:Int)<=2000)&&e.refs.all bT)&&lJ ⟨e.op,e.id,sNil,sNil,0,0,sNil,sNil,e.refs,zObj⟩ e) ?_ ?_
  ·all_goals refine Dd aE ?_
   all_goals refine Dm ?_
   all_goals refine Sp 127 (fun h127=>?_) fun h127=>?_
   all_goals try contradiction
   all_goals first|refine Fo<|Fo<|Fo ?_|refine On (by exact aN rfl cE bC rfl rfl rfl rfl (by simp only[Zl,bQ,bW,encStr,bA,zObj];rfl) rfl)<|On (by exact aN rfl cE bC rfl rfl rfl rfl (by simp only[Zl,bQ,bW,encStr,bA,zObj];rfl) rfl)<|On (by exact aA rfl rfl yC rfl (AH ⟨e.op,e.id,sNil,sNil,0,0,sNil,sNil,e.refs,zObj⟩ e _ (by exact h5) QW)) ?_
   all_goals refine Dd cH<|Da ?_
   all_goals(exact⟨⟨_,rfl,by(rw[h127];rfl)⟩,rfl,rfl,rfl⟩)
  refine aB<|Rt ?_;exact⟨by rw[hv],rfl⟩
 have ho4:¬ e.op=4:=aQB hc4;refine Sr<|Dd cN<|Da ?_;refine Cn ?_ ?_<;>intro hc5
 ·have ho:e.op=5:=aQA hc5;have hx:DY e=⟨e.op,e.id,sNil,sNil,0,0,sNil,sNil,[],zObj⟩:=by rw[DY,aQC ho1,aQC ho2,aQC ho3,aQC ho4,aQD ho]
  have hk:rI e=(bT e.id):=by rw[rI,aQC ho1,aQC ho2,aQC ho3,aQC ho4,aQD ho];simp
  have hv:dU e=((bT e.id)&&lJ ⟨e.op,e.id,sNil,sNil,0,0,sNil,sNil,[],zObj⟩ e):=by rw[dU,hx,hk,ho];rfl
  refine aC<|Sq ?_;refine aY (t:=2) (n:=8) (X:=(bT e.id)&&lJ ⟨e.op,e.id,sNil,sNil,0,0,sNil,sNil,[],zObj⟩ e) ?_ ?_
  ·all_goals refine Dd aE ?_
   all_goals refine Dm ?_
   all_goals refine Sp 127 (fun h127=>?_) fun h127=>?_
   all_goals try contradiction
   all_goals first|refine Fo<|Fo<|Fo ?_|refine On (by exact aN rfl cE bC rfl rfl rfl rfl (by simp only[Zl,bQ,bW,encStr,bA,zObj];rfl) rfl)<|On (by exact aN rfl cE bC rfl rfl rfl rfl (by simp only[Zl,bQ,bW,encStr,bA,zObj];rfl) rfl)<|On (by exact aA rfl rfl yC rfl (AH ⟨e.op,e.id,sNil,sNil,0,0,sNil,sNil,[],zObj⟩ e _ (by(show 0<_;omega)) QW)) ?_
   all_goals refine Dd cH<|Da ?_
   all_goals(exact⟨⟨_,rfl,by(rw[h127];rfl)⟩,rfl,rfl,rfl⟩)
  refine aB<|Rt ?_;exact⟨by rw[hv],rfl⟩
 have ho5:¬ e.op=5:=aQB hc5;refine Sr<|Dd cN<|Da ?_;refine Cn ?_ ?_<;>intro hc6
 ·have ho:e.op=6:=aQA hc6;have hx:DY e=⟨e.op,e.id,e.other,e.node,0,0,sNil,sNil,[],zObj⟩:=by rw[DY,aQC ho1,aQC ho2,aQC ho3,aQC ho4,aQC ho5,aQD ho]
  have hk:rI e=(bT e.id&&(bT e.node&&bT e.other)):=by rw[rI,aQC ho1,aQC ho2,aQC ho3,aQC ho4,aQC ho5,aQD ho]
  have hb:(bT e.id&&(bT e.node&&bT e.other))=(bT e.id&&(bT e.node&&bT e.other)):=by rfl
  have hv:dU e=((bT e.id&&(bT e.node&&bT e.other))&&lJ ⟨e.op,e.id,e.other,e.node,0,0,sNil,sNil,[],zObj⟩ e):=by rw[dU,hx,hk,hb,ho];rfl
  apply wC (t:=4) (n:=16) (X:=bT e.id&&(bT e.node&&bT e.other))
  ·cases hg104:(bT e.id:Bool)
   ·refine aO follows<|Cr [1] (fun _ h=>fh mH h)<|Cr [1] (fun _ h=>lh isAgg9 h)<|Cr [1] (fun _ h=>fh iC h)<|Cr [1] (fun _ h=>lh isAgg9 h)<|Cr [] (fun _ _=>aE)<|Cr [] (fun _ _=>aE)<|Ot<|Ot<|Ot<|Ot<|Ot<|Ot<|Cr [] (fun _ _=>cH)<|Cr [3] (fun _ h=>fh mH h)<|Cp [3] (fun H1 hH=>by exact bG rfl sizeOf9 rfl rfl rfl ((hH _ rfl).trans rfl) rfl rfl (aQR rfl) rfl rfl)<|Cr [3] (fun _ h=>fh iC h)<|Cp [3] (fun H1 hH=>by exact bG rfl sizeOf9 rfl rfl rfl ((hH _ rfl).trans rfl) rfl rfl (aQR rfl) rfl rfl)<|Cr [] (fun _ _=>aM)<|bM<|Kr ?_;exact⟨rfl,⟨_,rfl,by rfl⟩,rfl,rfl,rfl⟩
   refine aO follows<|Cr [1] (fun _ h=>fh mH h)<|Cr [1] (fun _ h=>lh isAgg9 h)<|Cr [1] (fun _ h=>fh iC h)<|Cr [1] (fun _ h=>lh isAgg9 h)<|Cr [] (fun _ _=>aE)<|Cr [] (fun _ _=>aE) ?_;refine bL (r:=⟨_,some [1],[]⟩) (cL rfl rfl rfl (by rfl) (fun H1 hH=>by exact(by exact bP rfl mH rfl ((hH _ rfl).trans rfl) rfl rfl))) rfl ?_;refine bL (r:=⟨_,some [1],[]⟩) (cL rfl rfl rfl (by rfl) (fun H1 hH=>by exact(by exact aK rfl isAgg9 rfl ((hH _ rfl).trans rfl) rfl rfl rfl))) rfl ?_;refine bL (r:=⟨_,some [1],[]⟩) (cL rfl rfl rfl (by rfl) (fun H1 hH=>by exact(by exact bP rfl iC rfl ((hH _ rfl).trans rfl) rfl rfl))) rfl ?_;refine bL (r:=⟨_,some [1],[]⟩) (cL rfl rfl rfl (by rfl) (fun H1 hH=>by exact(by exact aK rfl isAgg9 rfl ((hH _ rfl).trans rfl) rfl rfl rfl))) rfl ?_;refine bL (r:=⟨_,some [],[]⟩) (cL rfl rfl rfl (by rfl) (fun H1 hH=>by exact(by exact aQ ([e.node,e.other].map encStr) rfl cC rfl rfl rfl rfl rfl (by simp[encStr])))) rfl ?_;refine bL (r:=⟨_,some [],[]⟩) (cL rfl rfl rfl (by rfl) (fun H1 hH=>by exact aA rfl rfl DW rfl (aOs e.node e.other _ h3 h2))) rfl ?_;refine Cr [] (fun _ _=>cH)<|Cr [3] (fun _ h=>fh mH h)<|Cp [3] (fun H1 hH=>by exact bG rfl sizeOf9 rfl rfl rfl ((hH _ rfl).trans rfl) rfl rfl (aQR rfl) rfl rfl)<|Cr [3] (fun _ h=>fh iC h)<|Cp [3] (fun H1 hH=>by exact bG rfl sizeOf9 rfl rfl rfl ((hH _ rfl).trans rfl) rfl rfl (aQR rfl) rfl rfl)<|Cr [] (fun _ _=>aM)<|bM<|Kr ?_;exact⟨rfl,⟨_,rfl,by rfl⟩,rfl,rfl,rfl⟩
  refine Sq ?_;refine aY (t:=2) (n:=8) (X:=(bT e.id&&(bT e.node&&bT e.other))&&lJ ⟨e.op,e.id,e.other,e.node,0,0,sNil,sNil,[],zObj⟩ e) ?_ ?_
  ·all_goals refine Dd aE ?_
   all_goals refine Dm ?_
   all_goals refine Sp 127 (fun h127=>?_) fun h127=>?_
   all_goals try contradiction
   all_goals first|refine Fo<|Fo<|Fo ?_|refine On (by exact aN rfl cE bC rfl rfl rfl rfl (by simp only[Zl,bQ,bW,encStr,bA,zObj];rfl) rfl)<|On (by exact aN rfl cE bC rfl rfl rfl rfl (by simp only[Zl,bQ,bW,encStr,bA,zObj];rfl) rfl)<|On (by exact aA rfl rfl yC rfl (AH ⟨e.op,e.id,e.other,e.node,0,0,sNil,sNil,[],zObj⟩ e _ (by(show 0<_;omega)) QW)) ?_
   all_goals refine Dd cH<|Da ?_
   all_goals(exact⟨⟨_,rfl,by(rw[h127];rfl)⟩,rfl,rfl,rfl⟩)
  refine aB<|Rt ?_;exact⟨by rw[hv],rfl⟩
 have ho6:¬ e.op=6:=aQB hc6;refine Sr<|Dd cN<|Da ?_;refine Cn ?_ ?_<;>intro hc7
 ·have ho:e.op=7:=aQA hc7;have hx:DY e=⟨e.op,e.id,e.other,sNil,0,0,sNil,sNil,[],zObj⟩:=by rw[DY,aQC ho1,aQC ho2,aQC ho3,aQC ho4,aQC ho5,aQC ho6]
  have hk:rI e=(bT e.id&&bT e.other):=by rw[rI,aQC ho1,aQC ho2,aQC ho3,aQC ho4,aQC ho5,aQC ho6]
  have hb:(bT e.id&&bT e.other)=(bT e.id&&bT e.other):=by rfl
  have hv:dU e=((bT e.id&&bT e.other)&&lJ ⟨e.op,e.id,e.other,sNil,0,0,sNil,sNil,[],zObj⟩ e):=by rw[dU,hx,hk,hb,ho];rfl
  apply wC (t:=4) (n:=11) (X:=bT e.id&&bT e.other)
  ·cases hg119:(bT e.id:Bool)
   ·refine aO follows<|Cr [1] (fun _ h=>fh iC h)<|Cr [1] (fun _ h=>lh isAgg9 h)<|Cr [] (fun _ _=>aE)<|Cr [] (fun _ _=>aE)<|Ot<|Ot<|Ot<|Ot<|Cr [] (fun _ _=>cH)<|Cr [3] (fun _ h=>fh iC h)<|Cp [3] (fun H1 hH=>by exact bG rfl sizeOf9 rfl rfl rfl ((hH _ rfl).trans rfl) rfl rfl (aQR rfl) rfl rfl)<|Cr [] (fun _ _=>aM)<|bM<|Kr ?_;exact⟨rfl,⟨_,rfl,by rfl⟩,rfl,rfl,rfl⟩
   refine aO follows<|Cr [1] (fun _ h=>fh iC h)<|Cr [1] (fun _ h=>lh isAgg9 h)<|Cr [] (fun _ _=>aE)<|Cr [] (fun _ _=>aE) ?_;refine bL (r:=⟨_,some [1],[]⟩) (cL rfl rfl rfl (by rfl) (fun H1 hH=>by exact(by exact bP rfl iC rfl ((hH _ rfl).trans rfl) rfl rfl))) rfl ?_;refine bL (r:=⟨_,some [1],[]⟩) (cL rfl rfl rfl (by rfl) (fun H1 hH=>by exact(by exact aK rfl isAgg9 rfl ((hH _ rfl).trans rfl) rfl rfl rfl))) rfl ?_;refine bL (r:=⟨_,some [],[]⟩) (cL rfl rfl rfl (by rfl) (fun H1 hH=>by exact(by exact aQ ([e.other].map encStr) rfl cC rfl rfl rfl rfl rfl (by simp[encStr])))) rfl ?_;refine bL (r:=⟨_,some [],[]⟩) (cL rfl rfl rfl (by rfl) (fun H1 hH=>by exact aA rfl rfl DW rfl (aI4 e.other _ h2))) rfl ?_;refine Cr [] (fun _ _=>cH)<|Cr [3] (fun _ h=>fh iC h)<|Cp [3] (fun H1 hH=>by exact bG rfl sizeOf9 rfl rfl rfl ((hH _ rfl).trans rfl) rfl rfl (aQR rfl) rfl rfl)<|Cr [] (fun _ _=>aM)<|bM<|Kr ?_;exact⟨rfl,⟨_,rfl,by rfl⟩,rfl,rfl,rfl⟩
  refine Sq ?_;refine aY (t:=2) (n:=8) (X:=(bT e.id&&bT e.other)&&lJ ⟨e.op,e.id,e.other,sNil,0,0,sNil,sNil,[],zObj⟩ e) ?_ ?_
  ·all_goals refine Dd aE ?_
   all_goals refine Dm ?_
   all_goals refine Sp 127 (fun h127=>?_) fun h127=>?_
   all_goals try contradiction
   all_goals first|refine Fo<|Fo<|Fo ?_|refine On (by exact aN rfl cE bC rfl rfl rfl rfl (by simp only[Zl,bQ,bW,encStr,bA,zObj];rfl) rfl)<|On (by exact aN rfl cE bC rfl rfl rfl rfl (by simp only[Zl,bQ,bW,encStr,bA,zObj];rfl) rfl)<|On (by exact aA rfl rfl yC rfl (AH ⟨e.op,e.id,e.other,sNil,0,0,sNil,sNil,[],zObj⟩ e _ (by(show 0<_;omega)) QW)) ?_
   all_goals refine Dd cH<|Da ?_
   all_goals(exact⟨⟨_,rfl,by(rw[h127];rfl)⟩,rfl,rfl,rfl⟩)
  refine aB<|Rt ?_;exact⟨by rw[hv],rfl⟩
 have ho7:¬ e.op=7:=aQB hc7;refine Sr<|Dd aM<|Zz<|aB<|Rt ?_;refine⟨?_,rfl⟩;have:dU e=false:=by
  rw[dU,Bool.and_eq_false_iff];left;rw[Bool.and_eq_false_iff,aQM,aQM];omega
 rw[this]
theorem N5(e:GEdit)(H:aH)(he:M0 e):aI Tryz.prog 201 [av (bA e)] H (fun r H'=>r=bv (!dU e)/\H'=H):=by refine Pu ?_;exact Bd func201 rfl ntmps201<|Sr<|Dd (by exact cF (id:=1) rfl rfl rfl rfl rfl)<|Dd aM<|Zz<|Sr<|Dd (by exact aN rfl cE bC rfl rfl rfl rfl (by simp only[Zl,bQ,bW,encStr,bA,zObj];rfl) rfl)<|Dd (by exact aA rfl rfl call202 rfl (XP e _ he))<|Dd iS<|Dd aM<|Zz<|aB<|Rt<|Qq
def kP(l:List GEdit):Bool:=decide ((0:Int)<(l.length:Int))&&decide ((l.length:Int)<=200)&&!(l.any (fun e=>!dU e))
theorem PS(l:List GEdit)(H:aH)(hl:l.length<4611686018427387904)(he:∀e∈l,M0 e):aI Tryz.prog 160 [.pv (iO l)] H (fun r H'=>r=bv (kP l)/\H'=H):=by
 refine Pu ?_;have hml:(l.map bA).length=l.length:=aQE _;refine Bd func160 rfl ntmps160<|Sr<|Dd aM<|Zz<|Sq ?_;refine aY (t:=2) (n:=16) (X:=decide ((0:Int)<((l.map bA).length:Int))&&decide (((l.map bA).length:Int)<=200)&&!(l.any (fun e=>!dU e))) ?_ ?_
 ·all_goals refine Dd aE ?_
  all_goals refine Dd (fM dB)<|Dd iG<|Dm ?_
  all_goals refine Sp 6 (fun h6=>?_) fun h6=>?_
  all_goals try contradiction
  all_goals first|refine Fo<|Fo<|Fo ?_|refine On aE<|On (fM dB)<|On G9 ?_
  all_goals refine Dd cH<|Dm ?_
  all_goals refine Sp 11 (fun h11=>?_) fun h11=>?_
  all_goals try contradiction
  all_goals first|refine Fo<|Fo<|Fo ?_|refine On aE<|On (by exact aA rfl rfl call200 rfl (EZ (.pv (.fn 201)) l (fun e=>!dU e) _ hl (fun e h=>dN.fn call201 (N5 e _ (he e h)))))<|On iS ?_
  all_goals refine Dd cH<|Da ?_
  all_goals(exact⟨⟨_,rfl,by first|(simp_all;done)|(simp_all;omega)⟩,rfl,rfl,rfl⟩)
 refine aB<|Rt ?_;exact⟨by rw[kP,hml],rfl⟩
theorem aBE(f:α->List PV)(l:List α):l.map (fun e=>(f e).map AV.pv)=(l.map f).map (·.map .pv):=by rw[List.map_map];rfl
def nm(i:Nat):ByteArray:=⟨#[110,49+UInt8.ofNat i]⟩
theorem aLN{B:Nat}{e:GEdit}(hB:B<4611686018427387904)(h:SL B e):M0 e :=⟨⟨by have:=h.2.1;omega,by have:=h.2.2.1;omega,by have:=h.2.2.2.1;omega,by have:=h.2.2.2.2.2.2.1;omega⟩,
  ⟨by have:=h.2.2.2.2.2.2.2.2.1.1;omega,fun s hs=>by have:=h.2.2.2.2.2.2.2.2.1.2 s hs;omega⟩,aLM hB h.2.2.2.2.2.2.2.2.2⟩
end Go.Proofs.YtmdicgjnmfolfaaGreatDoor
namespace Go.Abs
open Go.Proofs
theorem Rel.grown{I}{ι}{H}{w}(i)(g:Rel I ι H w):Rel I ι H (Sort.grow w i)/\Step I ι H w I ι H (Sort.grow w i):=by
 have k:∀b,b<w.heap.size->(Sort.grow w _).heap[b]?=w.heap[b]?:=fun b f=>by
  show (w.heap++i)[b]?=_
  grind
 have e:Step I ι H w I ι H (Sort.grow w i):=by
  refine⟨rfl,rfl,rfl,?_,fun a ha _=>?_,fun _ h=>h,fun _ h=>.inl h,fun _ h=>.inl h,fun b f _=>k b f,fun _ o h=>⟨o,h,aQK _,fun _=>⟨rfl,rfl,fun _=>aQK _⟩⟩⟩
  ·simp_all
  unfold World.frozen?
  simp_all
 refine⟨⟨fun b f=>?_,fun j o l=>?_,g.inj,e.glob g⟩,e⟩
 ·have:=g.imm b f
  grind
 exact(g.obj j o l).keep rfl (fun b c _ f=>⟨k b f,fun h=>h⟩) (fun r _ a _ v m=>m.mono g e)
def nB(l:List ByteArray):List (List AV):=l.map fun s=>[.pv (.str s)]
def aV(n:Int):ByteArray:=⟨(Lib.itoa n).toArray⟩
theorem itoa_c{P}{ρ}(L:LaysM.n171 P ρ){G}(A:(G,GV.ints .u64 Lib.pow10Tab)∈TY)(q:P.globalNamed "internal/strconv.uint64pow10" = some G)(n)(j : -9223372036854775808<=n)(s:n<=9223372036854775807)(H):
  aI P (ρ.f 171) [.pv (.int .i64 n)] H (fun r H'=>r=.pv (.str (aV n))/\H'=H):=by
 intro I m w h g d z;obtain ⟨v,rfl⟩:∃v,h=#[v]:=by
  match h,d with
  |⟨[v]⟩,_=>exact⟨v,rfl⟩
 have x:=(z 0 v _ rfl rfl).int_inv;subst x;have b:Lib.TabIs P w "internal/strconv.uint64pow10" .u64 Lib.pow10Tab:=by
  obtain ⟨_,cs,t,f,i,y⟩:=g.glob _ A;have c:=y;subst c;simp[Lib.TabIs,World.var?,q,Option.bind_some,i]
 refine(Any.strconv_Itoa L n j s w b).mono ?_;rintro e w' ⟨rfl,k,os,rfl⟩;obtain ⟨o,p⟩:=Rel.drawn (w':=w.drewN k) g rfl rfl rfl rfl;obtain ⟨l,u⟩:=Rel.grown _ o;exact⟨_,_,I,m,_,rfl,⟨rfl,rfl⟩,.pv (.str _),l,p.trans u⟩
theorem mul64_c{P}{ρ}(L:Lays.n264 P ρ)(x y:Nat)(k:x<18446744073709551616)(m:y<18446744073709551616)(H):
  aI P (ρ.f 264) [.pv (.int .u64 x),.pv (.int .u64 y)] H (fun r H'=>r=.tup [.pv (.int .u64 ((x*y / 18446744073709551616:Nat))),.pv (.int .u64 ((x*y % 18446744073709551616:Nat)))]/\H'=H):=by
 intro I o w h l f g;obtain ⟨v,u,rfl⟩:∃v u,h=#[v,u]:=by
  match h,f with
  |⟨[v,u]⟩,_=>exact⟨v,u,rfl⟩
 have j:=(g 0 v _ rfl rfl).int_inv;have n:=(g 1 u _ rfl rfl).int_inv;subst j n;refine(Any.bits_Mul64 L x y k m w).mono ?_;rintro e w' ⟨rfl,rfl⟩;refine⟨_,_,I,o,_,rfl,⟨rfl,rfl⟩,.tup rfl fun i v a c d=>?_,l,Step.refl _ _ _ _⟩
 match i,c,d with
 |0,c,d=>cases c;cases d;exact .pv (.int _ _)
 |1,c,d=>cases c;cases d;exact .pv (.int _ _)
 |i+2,c,d=>simp at c
end Go.Abs
section
namespace Go.Proofs
open Go.RowKit Go.Sort Go.Shelf
def aPu:Go.Shelf.Ren:=⟨fun|171=>108|243=>146|246=>181|283=>215|284=>216|285=>217|286=>218|129=>250|317=>249|318=>251|319=>252|320=>253|337=>271|338=>272|n=>n,fun|3=>3|9=>9|2=>2|4=>4|171=>230|0=>0|53=>122|37=>124|5=>5|173=>233|212=>257|51=>258|20=>20|213=>259|46=>125|232=>282|233=>283|n=>n,fun|17=>3|18=>6|19=>7|n=>n⟩
theorem aPz:Go.Proofs.LaysM.n171 Tryz.prog aPu:={
  mixed:=by kernel_rfl
  f129:=Tryz.func250.trans (congrArg some (by kernel_rfl))
  f171:=Tryz.func108.trans (congrArg some (by kernel_rfl))
  f243:=Tryz.func146.trans (congrArg some (by kernel_rfl))
  f246:=Tryz.func181.trans (congrArg some (by kernel_rfl))
  f283:=Tryz.func215.trans (congrArg some (by kernel_rfl))
  f284:=Tryz.func216.trans (congrArg some (by kernel_rfl))
  f285:=Tryz.func217.trans (congrArg some (by kernel_rfl))
  f286:=Tryz.func218.trans (congrArg some (by kernel_rfl))
  f317:=Tryz.func249.trans (congrArg some (by kernel_rfl))
  f318:=Tryz.func251.trans (congrArg some (by kernel_rfl))
  f319:=Tryz.func252.trans (congrArg some (by kernel_rfl))
  f320:=Tryz.func253.trans (congrArg some (by kernel_rfl))
  f337:=Tryz.func271.trans (congrArg some (by kernel_rfl))
  f338:=Tryz.func272.trans (congrArg some (by kernel_rfl))
  t0:=aGn
  a0:=aPj
  z0:=aPJ
  v0:=aJ6
  t2:=Tryz.underlying2
  a2:=Tryz.isAgg2
  z2:=Tryz.sizeOf2
  v2:=Tryz.zeroValue2
  t3:=Tryz.underlying3
  a3:=Tryz.isAgg3
  z3:=Tryz.sizeOf3
  v3:=uP
  t4:=eV
  a4:=pG
  z4:=Tryz.sizeOf4
  v4:=nI
  t5:=fW
  a5:=BT
  z5:=cM
  v5:=CZ
  t9:=Tryz.underlying9
  a9:=Tryz.isAgg9
  z9:=Tryz.sizeOf9
  v9:=uO
  t20:=HF
  a20:=sZ
  z20:=aNx
  v20:=aGm
  t37:=dL
  a37:=dW
  z37:=oT
  v37:=Tryz.zeroValue124
  t46:=FB
  a46:=YM
  z46:=UO
  v46:=HC
  t51:=Tryz.underlying258
  a51:=Tryz.isAgg258
  z51:=Tryz.sizeOf258
  v51:=Tryz.zeroValue258
  t53:=jY
  a53:=JB
  z53:=FD
  v53:=HD
  t171:=Tryz.underlying230
  a171:=Tryz.isAgg230
  z171:=Tryz.sizeOf230
  v171:=Tryz.zeroValue230
  t173:=Tryz.underlying233
  a173:=Tryz.isAgg233
  z173:=Tryz.sizeOf233
  v173:=Tryz.zeroValue233
  t212:=Tryz.underlying257
  a212:=Tryz.isAgg257
  z212:=Tryz.sizeOf257
  v212:=Tryz.zeroValue257
  t213:=Tryz.underlying259
  a213:=Tryz.isAgg259
  z213:=Tryz.sizeOf259
  t232:=Tryz.underlying282
  a232:=Tryz.isAgg282
  z232:=Tryz.sizeOf282
  v232:=Tryz.zeroValue282
  t233:=Tryz.underlying283
  a233:=Tryz.isAgg283
  z233:=Tryz.sizeOf283
  v233:=Tryz.zeroValue283
  g17:=by kernel_rfl
  g18:=by kernel_rfl
  g19:=by kernel_rfl
  i0:=by kernel_rfl
  i2:=by kernel_rfl
  i3:=by kernel_rfl
  i4:=by kernel_rfl
  i5:=by kernel_rfl
  i9:=by kernel_rfl
  i20:=by kernel_rfl
  i37:=by kernel_rfl
  i46:=by kernel_rfl
  i51:=by kernel_rfl
  i53:=by kernel_rfl
  i171:=by kernel_rfl
  i173:=by kernel_rfl
  i212:=by kernel_rfl
  i232:=by kernel_rfl
  i233:=by kernel_rfl
  m17:=by kernel_rfl
  m18:=by kernel_rfl
  m19:=by kernel_rfl}
end Go.Proofs
namespace Go.Proofs.YtmdicgjnmfolfaaGreatDoor
open Go.Proofs.Tryz
open Go.Abs
theorem uD(n:Int)(h0 : -9223372036854775808<=n)(h1:n<=9223372036854775807)(H:aH):aI Tryz.prog 108 [iv n] H (fun r H'=>r=sv (aV n)/\H'=H) :=Go.Abs.itoa_c aPz (G:=3) (by unfold TY;exact .head _) (by kernel_rfl) n h0 h1 H
end Go.Proofs.YtmdicgjnmfolfaaGreatDoor
end
namespace Go.Abs
variable{d id g n:Nat}{T e S:TypeId}
section
section
variable{P:Program}{G0:aH}{N:Nat}{E:dG}{H:aH}{ops:Array Oper}{K:dG->aH->Prop}{o:Oper}{rest:List Oper}
def ALx(P:Program)(G0:aH)(N:Nat)(ops:Array Oper)(K:dG->aH->Prop)(l:List Oper)(E:dG)(H:aH)(d:Nat)(F:kY->Value->Prop):Prop :=∀G:Entry,G.H=G0->∀(a:Act) (w:World) (I:Nat->Prop) (ι:kY),rP G.ds G.w w a.defers->a.tmps.size=N->Rel I ι H w->Step G.I G.ι G.H G.w I ι H w->jL w I ι H E a->(∃c,a.tmps[d]?=some c/\F ι c) ->
  ∀ro,(ro=none\/l.all Oper.noDefer=true)->∀Q:Exit->Act->World->Prop,(∀E H a w,K E H->St G N E H a w->Q .normal a w)->wpListIn (RF ro) 0 P ops Q l a w
def aMF(id n:Nat)(ι:kY)(c:Value):Prop:=∃b cap,ι id=some (b,cap)/\c=.slice (some ⟨b,0,none⟩) n n
theorem FW(a:Act)(d:Nat)(c):(a.put (some d) c).tmps.size=a.tmps.size:=by simp[Act.put]
theorem aEe(a:Act){d}(c)(h:d<a.tmps.size):(a.put (some d) c).tmps[d]?=some c:=by simp[Act.put,h]
theorem aC5(a:Act){b:Nat}(c)(h:b≠d):(a.put (some b) c).tmps[d]?=a.tmps[d]?:=by simp[Act.put,h]
theorem GZ{p:Operand}{ob:Ob}(l:o.guard=none)(hd:o.dst=some d)(j:Nat.blt d N=true)(t:o.op=.slice T p none none none)(C:P.underlying T=some (.array n e))(y:∀w,(sizeOf e).run P w=.ok 1 w)
  (z:aR E p=some (.ref id g 0 0)) (x:H.get id=some ob) (L:ob.g=g) (B:ALx P G0 N ops K rest ((d,.any)::E) H d (aMF id n)):AL P G0 N ops K (o::rest) E H:=by
 intro G u a w f M h Q v;refine wpListIn_plain l fun O F=>?_;refine Oper.wpW_in (lZ h).1 ?_;obtain ⟨I,J,r,m,s⟩:=f.rel;obtain ⟨b,q,A,D⟩:=nZ (aJ s z) x L;have hdn:d<N:=by simp_all
 have i:(execOp a.eval o).run P w=.ok (.value (.slice (some ⟨b,0,none⟩) n n)) w:=by
  simp only[execOp,t,D,Option.map_none];simp[Instr.sliceAt,run_underlying C,Instr.sureAddr,Instr.sliceBounds,y,Addr.add_lit]
 unfold Oper.wpW;rw[i];show O (a.put o.dst _) w;rw[hd];exact F _ _ (B G u _ w I J (by exact f.defers) (by rw[FW];exact f.size) r m (jL.put (d:=some d) r (Step.refl _ _ _ _) s (.any _) (by rw[f.size];exact j)) ⟨_,aEe a _ (by rw[f.size];omega),b,q,A,rfl⟩ M (lZ h).2 Q v)
theorem aG8{f:Nat}{F}{x}{v}(i:o.guard=none)(hd:o.dst=some f)(h:Nat.blt f N=true)(g:f≠d)(q:o.op=.move x)(r:aR E x=some v)(z:ALx P G0 N ops K rest ((f,v)::E) H d F):ALx P G0 N ops K (o::rest) E H d F:=by
 intro G s a w I B p j m k l ⟨c,u,y⟩ C b Q t;refine wpListIn_plain i fun n A=>?_;refine Oper.wpW_in (lZ b).1 ?_;have e:(execOp a.eval o).run P w=.ok (.value (a.eval x)) w:=by simp[execOp,q]
 unfold Oper.wpW;rw[e];show n _ w;rw[hd];exact A _ _ (z G s _ w I B (by exact p) (by rw[FW];omega) m k (jL.put (d:=some f) m (Step.refl _ _ _ _) l (aJ l r) (by rw[j];exact h)) ⟨c,by rw[aC5 a _ g];exact u,y⟩ C (lZ b).2 Q t)
def kI(s:List UInt8):List AV:=s.map fun b=>.pv (.int .u8 b.toNat)
theorem wB(s):(kI s).length=s.length:=aQE _
theorem UI{D:TypeId}{y:Operand}{M m T:Nat}{cells:List AV}{s:ByteArray}(X:o.guard=none)(hd:o.dst=some M)(Z:Nat.blt M N=true)(ho:o.op=.call {callee:=.builtin .copy,args:=#[.tmp d,y],argTypes:=#[D,S]})(hD:P.underlying D=some (.slice e))(hs:∀w,(sizeOf e).run P w=.ok 1 w)
  (hH:H.get id=some ⟨g,n,T,[cells]⟩) (Y:0<n) (hy:aR E y=some (.pv (.str s))) (hm:min s.size n=m)
  (hk:AL P G0 N ops K rest ((M,.pv (.int .i64 m))::E) ((id,⟨g,n,T,[kI (s.data.toList.take m)++cells.drop m]⟩)::H)):ALx P G0 N ops K (o::rest) E H d (aMF id n):=by
 intro G hG a w I ι O J L hs' he ⟨c,hc,b,cap,t,R⟩ ro A Q hq;refine wpListIn_plain X fun K' hK=>?_;refine Oper.wpW_in (lZ A).1 ?_;have e2y:=(aJ he hy).str_inv;have e1:a.eval (.tmp d)=.slice (some ⟨b,0,none⟩) n n:=by simp[Act.eval,hc,R]
 obtain ⟨p1,p2,⟨b',cap',U,C,f2,f3,f4,f5,f5',f6⟩|⟨C,_⟩⟩:=(L.obj id _ hH).cells Y
 rotate_left
 ·rw[t]at C;cases C
 rw[t]at C;cases C;have B:cells.length=n:=p2 cells (by simp);have hms:m<=s.size:=by omega
 have hmn:m<=n:=by omega
 simp only[List.length_singleton]at f5;have hcs:n<=U.size:=by rw[f4];exact Nat.le_mul_of_pos_left _ (by omega)
 have f:min m s.data.size=m:=by have:s.data.size=s.size:=rfl;omega
 have l:((s.extract 0 m).data.map fun b=>Value.int .u8 b.toNat).toList=(s.data.toList.take m).map fun b=>Value.int .u8 b.toNat:=by simp
 have p:=run_storeCells_at P b 0 T ((s.data.toList.take m).map fun b=>Value.int .u8 b.toNat) 0 U w f2 (by grind) (by intro v hv;obtain ⟨b,_,rfl⟩:=List.mem_map.1 hv;rfl);simp only[Nat.add_zero,aQW,List.take_zero,List.nil_append,aQE,aQS,Array.length_toList]at p;rw[f]at p;have W:(kI (s.data.toList.take m)++cells.drop m).length=n:=by
  rw[aQF,wB,aQS,aQT,Array.length_toList,f,B];omega
 obtain ⟨k2,V⟩:=Rel.update (H':=(id,⟨g,n,T,[kI (s.data.toList.take m)++cells.drop m]⟩)::H) (ob':=⟨g,n,T,[kI (s.data.toList.take m)++cells.drop m]⟩)
  (cs' := ((s.data.toList.take m).map (fun b => Value.int .u8 b.toNat) ++ U.toList.drop m).toArray) L hH t f2 (aQK _) rfl rfl (fun _ => aQK _) (by
   grind) (by simpa using f5) (by intro r z;rw[aQH]at z;subst z;exact W) (fun i r hi k a' h=>by
    cases i with
    |succ i=>simp at hi
    | zero =>
     simp only[List.getElem?_cons_zero,Option.some.injEq]at hi;subst hi;rw[Nat.zero_mul,aQW];simp only[List.getElem?_toArray];by_cases ck:k<m
     ·rw[List.getElem?_append_left (by rw[wB,aQS,Array.length_toList,f];exact ck),kI,aQY]at h;rw[List.getElem?_append_left (by rw[aQE,aQS,Array.length_toList,f];exact ck),aQY];cases e:(s.data.toList.take m)[k]? with
      |none=>rw[e]at h;cases h
      |some q =>
       rw[e]at h;cases h;exact⟨.int .u8 q.toNat,rfl,rfl,.pv (.int _ _)⟩
     rw[List.getElem?_append_right (by rw[wB,aQS,Array.length_toList,f];omega),wB,aQS,Array.length_toList,f,List.getElem?_drop,show m+(k - m)=k by omega]at h;obtain ⟨u,q1,q2,q3⟩:=f6 0 cells rfl k a' h;rw[Nat.zero_mul,aQW]at q1;refine⟨u,?_,q2,q3⟩;rw[List.getElem?_append_right (by rw[aQE,aQS,Array.length_toList,f];omega),aQE,aQS,Array.length_toList,f,List.getElem?_drop,show m+(k - m)=k by omega]
     simpa using q1) (get_cons_same _ _ _) (fun j hj=>get_cons_other _ _ hj)
 have F:Nat.min s.size n=m:=hm;unfold Oper.wpW execOp;simp only[ho,resolve,invoke,builtin,Sem.run_bind,Sem.run_pure,Result.andThen_ok,List.map_toArray,List.map_cons,List.map_nil,e1,e2y,Builtin.copy_,run_underlying hD,hs];simp only[List.getElem?_toArray,List.getElem?_cons_zero,List.getElem?_cons_succ,run_underlying hD,Builtin.lenOf,Builtin.firstCells,Sem.run_bind,Sem.run_pure,Result.andThen_ok,hs,F,l,p];show K' (a.put o.dst _) _;rw[hd];refine hK _ _ (hk G hG _ _ ⟨?_,?_,I,ι,k2,hs'.trans V,jL.put (d:=some M) L V he (.pv (.int _ _)) (by rw[J];exact Z)⟩ ro (lZ A).2 Q hq)
 ·rw[jP];exact O.step L V
 rw[FW];exact J
theorem aJ3{s A:Nat}{bs:List UInt8}{r:ByteArray}(t:o.guard=none)(hd:o.dst=some s)(J:Nat.blt s N=true)(ho:o.op=.convert S T (.tmp d))(hS:P.underlying S=some (.slice e))(M:P.underlying e=some (.int .u8))(hT:P.underlying T=some .string)
  (U:H.get id=some ⟨g,n,A,[kI bs]⟩) (B:0<n) (z:(⟨bs.toArray⟩:ByteArray)=r) (hk:AL P G0 N ops K rest ((s,.pv (.str r))::E) H):ALx P G0 N ops K (o::rest) E H d (aMF id n):=by
 intro G Z a w I X C p y F he ⟨c,hc,b,cap,i,D⟩ ro l Q W;refine wpListIn_plain t fun K' V=>?_;refine Oper.wpW_in (lZ l).1 ?_;have e1:a.eval (.tmp d)=.slice (some ⟨b,0,none⟩) n n:=by simp[Act.eval,hc,D]
 obtain ⟨p1,p2,⟨b',cap',cs,m,f2,f3,f4,f5,f5',Y⟩|⟨m,_⟩⟩:=(y.obj id _ U).cells B
 rotate_left
 ·rw[i]at m;cases m
 rw[i]at m;cases m;have h:bs.length=n:=by rw[<-wB bs];simp_all
 subst z;have hl:(loadCells ⟨b,0,none⟩ n).run P w=.ok ((bs.map fun b=>(b.toNat:Int)).map (Value.int .u8)).toArray w:=by
  have h0:=run_loadCells_list (P:=P) w ⟨b,0,none⟩ ((bs.map fun b=>(b.toNat:Int)).map (Value.int .u8)) (fun j v R=>by
   rw[List.map_map,aQY]at R;obtain ⟨q,L,rfl⟩:=Option.map_eq_some_iff.1 R;rw[Addr.add_lit,aQW,cell_of_row w b _ cs _ (0,0) f2];obtain ⟨u,O,q2,q3⟩:=Y 0 (kI bs) rfl j (.pv (.int .u8 q.toNat)) (by rw[kI,aQY,L];rfl);rw[Nat.zero_mul,aQW]at O;rw[O,q3.int_inv];rfl)
  rwa [aQE,aQE,h]at h0
 have k:(execOp a.eval o).run P w=.ok (.value (.string ⟨bs.toArray⟩)) w:=by
  simp only[execOp,ho,e1,Sem.run_bind];rw[run_convert_bytes_string w S T e _ _ n hS M hT,run_bytesToString w _ _ n _ hl,foldl_push_bytes];have e3:(bs.map fun b=>(b.toNat:Int)).map (fun n=>UInt8.ofNat n.toNat)=bs:=by
   rw[List.map_map]
   conv=>rhs;rw[<-List.map_id bs]
   refine List.map_congr_left fun b _=>?_;simp
  rw[e3];simp[ByteArray.empty,ByteArray.emptyWithCapacity];rfl
 unfold Oper.wpW;rw[k];show K' (a.put o.dst _) w;rw[hd];exact V _ _ (hk G Z _ w ⟨by rw[jP];exact C,by rw[FW];exact p,I,X,y,F,jL.put (d:=some s) y (Step.refl _ _ _ _) he (.pv (.str _)) (by rw[p];exact J)⟩ ro (lZ l).2 Q W)
end
end
end Go.Abs
section
namespace Go.Proofs
open Go.RowKit Go.Sort Go.Shelf

end Go.Proofs
namespace Go.Proofs.YtmdicgjnmfolfaaGreatDoor
open Go.Proofs.Tryz
open Go.Abs
def pick(L:List ByteArray)(seen:List Nat):List ByteArray:=seen.map fun i=>(L[i]?).getD ⟨#[]⟩
end Go.Proofs.YtmdicgjnmfolfaaGreatDoor
end
section
namespace Go.Proofs
open Go.RowKit Go.Sort Go.Shelf
def aPs:Go.Shelf.Ren:=⟨fun|264=>144|n=>n,fun|53=>122|46=>125|n=>n,fun|n=>n⟩
theorem aPw:Go.Proofs.Lays.n264 Tryz.prog aPs:={
  mixed:=by kernel_rfl
  f264:=Tryz.func144.trans (congrArg some (by kernel_rfl))
  t46:=FB
  a46:=YM
  z46:=UO
  v46:=HC
  t53:=jY
  a53:=JB
  z53:=FD
  v53:=HD}
end Go.Proofs
namespace Go.Proofs.YtmdicgjnmfolfaaGreatDoor
open Go.Proofs.Tryz
open Go.Abs
variable{x i:Nat}{H:aH}
abbrev uv(n:Nat):AV:=.pv (.int .u64 (n:Int))
theorem WX(x y:Nat)(hx:x<18446744073709551616)(hy:y<18446744073709551616)(H:aH):aI Tryz.prog 144 [uv x,uv y] H (fun r H'=>r=.tup [uv (x*y / 18446744073709551616),uv (x*y % 18446744073709551616)]/\H'=H) :=Go.Abs.mul64_c aPw x y hx hy H
theorem aCS(a k:Nat){m:Int}(h:m.toNat=k):(a:Int) / 2 ^ m.toNat=((a / 2 ^ k:Nat):Int):=by
 rw[h]
 push_cast
 rfl
def H9(x:Nat):Nat:=x*2862933555777941757 % 18446744073709551616
def aI8(x:Nat):Nat:=H9 x ^^^ (H9 x / 2 ^ 32)
def M8(x:Nat):Nat:=aI8 x*3935559000370003845 % 18446744073709551616
def J4(x:Nat):Nat:=M8 x ^^^ (M8 x / 2 ^ 29)
theorem DA(x:Nat):H9 x<18446744073709551616:=Nat.mod_lt _ (by decide)
theorem C9(x:Nat):M8 x<18446744073709551616:=Nat.mod_lt _ (by decide)
theorem vW(k:Nat)(h:x<18446744073709551616):x / 2 ^ k<18446744073709551616:=Nat.lt_of_le_of_lt (Nat.div_le_self _ _) h
theorem BY{y:Nat}(h:x<18446744073709551616)(h':y<18446744073709551616):x ^^^ y<18446744073709551616:=Nat.xor_lt_two_pow (n:=64) h h'
theorem aI7(x:Nat):aI8 x<18446744073709551616:=BY (DA x) (vW 32 (DA x))
theorem TN(x:Nat):J4 x<18446744073709551616:=BY (C9 x) (vW 29 (C9 x))
theorem aN4(x:Nat)(hx:x<18446744073709551616)(H:aH):aI Tryz.prog 104 [uv x] H (fun r H'=>r=uv (J4 x)/\H'=H):=by refine Pu ?_;exact Bd func104 rfl ntmps104<|Sr<|Dd aM<|Zz<|Sr<|Dd aE<|Dd (by exact aA rfl rfl call144 rfl (WX x 2862933555777941757 hx (by decide) _))<|Dd aE<|Dd fG<|Dd fG<|Dd aM<|Zz<|Sr<|Dd aE<|Dd aE<|Dd (by exact C6 rfl rfl rfl (by decide) (by decide) (aCS (H9 x) 32 rfl))<|Dd (by exact mO rfl (by simp) rfl rfl (bits_xor_u64_nat (H9 x) (H9 x / 2 ^ 32) (DA x) (vW 32 (DA x))))<|Dd aM<|Zz<|Sr<|Dd aE<|Dd (by exact aA rfl rfl call144 rfl (WX (aI8 x) 3935559000370003845 (aI7 x) (by decide) _))<|Dd aE<|Dd fG<|Dd fG<|Dd aM<|Zz<|Sr<|Dd aE<|Dd aE<|Dd (by exact C6 rfl rfl rfl (by decide) (by decide) (aCS (M8 x) 29 rfl))<|Dd (by exact mO rfl (by simp) rfl rfl (bits_xor_u64_nat (M8 x) (M8 x / 2 ^ 29) (C9 x) (vW 29 (C9 x))))<|Dd aM<|Zz<|aB<|Rt<|Qq
def pP(n:Nat):Int:=if n<10 then 48+(n:Int)else 87+(n:Int)
def jV(i:Nat):List AV:=(List.range 16).map fun j=>.pv (.int .u8 (if j<i then pP j else 0))
theorem vY(i:Nat):(jV i).length=16:=by simp[jV]
theorem EX{j:Nat}(h:j<16):(jV i)[j]?=some (.pv (.int .u8 (if j<i then pP j else 0))):=by rw[jV,aQY,List.getElem?_range h];rfl
theorem N2(h:i<16):(jV i).set i (.pv (.int .u8 (pP i)))=jV (i+1):=by
 apply List.ext_getElem?;intro j;by_cases hj:j<16
 ·rw[EX hj];by_cases e:i=j
  ·subst e;rw[List.getElem?_set_self (by rw[vY];exact h),aQD (Nat.lt_succ_self _)]
  rw[List.getElem?_set_ne e,EX hj];by_cases h1:j<i
  ·rw[aQD h1,aQD (by omega)]
  rw[aQC h1,aQC (by omega)]
 rw[List.getElem?_eq_none (by rw[List.length_set,vY];omega),List.getElem?_eq_none (by rw[vY];omega)]
theorem aAU(h:i<16)(x:AV){y:AV}(hy:y=.pv (.int .u8 (pP i))):((jV i).set i x).set i y=jV (i+1):=by rw[List.set_set,hy,N2 h]
theorem rX{n T:Nat}:∀r∈(bx n T (jV i)).rows,∀a∈r,Clo H a:=by intro r hr a ha;rw[bx,aQH]at hr;subst hr;obtain ⟨j,_,rfl⟩:=List.mem_map.1 ha;exact .pv _
theorem aAV:∀a∈jV i,Clo H a:=by intro a ha;obtain ⟨j,_,rfl⟩:=List.mem_map.1 ha;exact .pv _
theorem aBf:((jV 16).drop 0).take 16=jV 16:=rfl
theorem aGF(H:aH):aI Tryz.prog 105 [] H (fun r H'=>r=.agg (jV 16)/\H'=H):=by
 refine Pu ?_;refine Bd func105 rfl ntmps105<|Sr<|Dd (by exact bU (id:=0) rfl aAa rfl rfl)<|Zz<|Sr<|Dd (by exact bU (id:=1) rfl aAa rfl rfl)<|Zz<|Sq<|Sr<|Dd aE<|Zz<|aF ?_;refine bJ (σ:=Nat) (fun i=>([(0,.ref 0 0 0 0),(1,.ref 1 0 0 0),(3,iv (i:Int))],[(1,bx 16 128 (jV i)),(0,bx 16 128 (jV 0))])) (fun i=>i<=16) (fun i=>16 - i) 0 (aQV _) ?_ ?_
 ·exact(cX.wk (Ea<|Ea<|Eb<|trivial) (Hc rX<|Hc rX<|trivial) trivial)
 intro i hi;refine Sr<|Dd cW<|Zz<|Sq ?_;refine Cn ?_ ?_<;>intro hc1
 ·have hlt:i<16:=by have:=aQA hc1;omega
  refine aC<|Sq<|aF<|Sr<|Dd aE<|Dd aM<|Zz<|Sr<|Dd aE<|Dd aE<|Dd mV<|Dd (by exact iH rfl underlying3 fW rfl (by exact wu8 (by omega) (by omega)))<|Dd (by exact eJ rfl wG cM rfl rfl rfl rfl (by omega) (by exact aQP _) (by omega) rfl)<|Uu (by exact bG rfl cM rfl rfl rfl rfl rfl rfl (by rw[vY];omega) (show (jV i).set (0+i*1) (.pv (.int .u8 (48+(i:Int))))=(jV i).set i (.pv (.int .u8 (48+(i:Int))))by rw[aQW,Nat.mul_one]) rfl)<|Zz<|Sr<|Dd aE<|Dd D7<|Zz ?_;refine Cn ?_ ?_<;>intro hc2
  ·have h10:¬ i<10:=by have:=aQA hc2;omega
   refine Rg<|Dd aE<|Dd aE<|Dd mV<|Dd (by exact dX rfl rfl rfl (by exact jM (by omega) (by omega)))<|Dd (by exact iH rfl underlying3 fW rfl (by exact wu8 (by omega) (by omega)))<|Dd (by exact eJ rfl wG cM rfl rfl rfl rfl (by omega) (by exact aQP _) (by omega) rfl)<|Uu (by exact bG rfl cM rfl rfl rfl rfl rfl rfl (by rw[List.length_set,vY];omega) (show ((jV i).set i (.pv (.int .u8 (48+(i:Int))))).set (0+i*1) (.pv (.int .u8 (97+(i:Int) - 10)))=jV (i+1)by rw[aQW,Nat.mul_one];exact aAU hlt _ (by rw[pP,aQC (by have:=aQA hc2;omega)];congr 2;omega)) rfl)<|Zz<|Rg<|Dd mV<|Dd aE<|Zz ?_;exact⟨i+1,by omega,by omega,(cX.wk (Ea<|Ea<|Eb<|trivial) (Hc rX<|Hc rX<|trivial) trivial)⟩
  have h10:i<10:=by have:=aQB hc2;omega
  refine aC<|Rg<|Dd mV<|Dd aE<|Zz ?_;refine⟨i+1,by omega,by omega,?_⟩;have e:(jV i).set i (.pv (.int .u8 (48+(i:Int))))=jV (i+1):=by
   rw[<-N2 hlt,pP,aQD h10]
  rw[e];exact(cX.wk (Ea<|Ea<|Eb<|trivial) (Hc rX<|Hc rX<|trivial) trivial)
 have hge:i=16:=by have:=aQB hc1;omega
 subst hge;refine aW<|Sr<|Dd (by exact aN rfl isAgg128 UN rfl rfl rfl rfl aBf rfl)<|Uu (jN UN)<|Zz<|aB ?_;refine dV (H':=[]) (.inr rfl) rfl (eA rfl isAgg128 UN rfl rfl rfl aBf rfl) (Fin.wk (.agg aAV) trivial trivial) ?_;exact Qq
end Go.Proofs.YtmdicgjnmfolfaaGreatDoor
end
namespace Go.Proofs.YtmdicgjnmfolfaaGreatDoor
open Go.Proofs.Tryz
open Go.Abs
variable{l:List UInt8}{st i n a:Nat}{H:aH}
def tK(l:List UInt8):Nat:=l.foldl (fun n b=>n*256+b.toNat) 0
def lG(l:List UInt8):List UInt8:=l.take 8++List.replicate (8 - l.length) 0
theorem WK(l:List UInt8):(lG l).length=8:=by rw[lG,aQF,aQS,List.length_replicate];omega
theorem SC(l:List UInt8)(b:UInt8):tK (l++[b])=tK l*256+b.toNat:=by rw[tK,List.foldl_append];rfl
theorem aBq(l:List UInt8):tK l<256 ^ l.length:=by
 suffices h:∀(l:List UInt8) (n:Nat),l.foldl (fun n b=>n*256+b.toNat) n<(n+1)*256 ^ l.length by
  have:=h l 0;rw[aQW,Nat.one_mul]at this;exact this
 intro l
 induction l with
 |nil=>intro n;simp
 |cons b r ih =>
  intro n;have h1:=ih (n*256+b.toNat);have h2:b.toNat<256:=b.toNat_lt;refine Nat.lt_of_lt_of_le h1 ?_;rw[aQG,Nat.pow_succ,Nat.mul_comm (256 ^ r.length) 256,<-Nat.mul_assoc];exact Nat.mul_le_mul_right _ (by omega)
theorem OI(h:l.length<=8):tK l<18446744073709551616:=by refine Nat.lt_of_lt_of_le (aBq l) ?_;exact Nat.le_trans (Nat.pow_le_pow_right (by decide) h) (by decide)
theorem YC(h:l.length<=7):tK l<72057594037927936:=by refine Nat.lt_of_lt_of_le (aBq l) ?_;exact Nat.le_trans (Nat.pow_le_pow_right (by decide) h) (by decide)
def N1:Nat->List UInt8->Nat
 |s,a::b::c::d::e::f::g::h::r=>N1 (J4 (s ^^^ tK [a,b,c,d,e,f,g,h])) r
 |s,l=>J4 (s ^^^ tK (lG l))
theorem RZ(s:Nat)(h:8<=l.length):N1 s l=N1 (J4 (s ^^^ tK (lG (l.take 8)))) (l.drop 8):=by
 match l,h with
 |a::b::c::d::e::f::g::h::r,_=>rfl
theorem R0(s:Nat)(h:l.length<8):N1 s l=J4 (s ^^^ tK (lG l)):=by
 match l,h with
 | [],_=>rfl
 | [a],_=>rfl
 | [a,b],_=>rfl
 | [a,b,c],_=>rfl
 | [a,b,c,d],_=>rfl
 | [a,b,c,d,e],_=>rfl
 | [a,b,c,d,e,f],_=>rfl
 | [a,b,c,d,e,f,g],_=>rfl
 |_::_::_::_::_::_::_::_::r,h=>simp only[aQG]at h;omega
def G8(st j:Nat):Nat:=st / 2 ^ (60 - 4*j) % 16
def vQ(st:Nat):List UInt8:=(List.range 16).map fun j=>UInt8.ofNat (pP (G8 st j)).toNat
def tD(st i:Nat):List AV:=(List.range 16).map fun j=>.pv (.int .u8 (if j<i then pP (G8 st j)else 0))
theorem AN(st i:Nat):(tD st i).length=16:=by simp[tD]
theorem M5{j:Nat}(h:j<16):(tD st i)[j]?=some (.pv (.int .u8 (if j<i then pP (G8 st j)else 0))):=by rw[tD,aQY,List.getElem?_range h];rfl
theorem Z4(h:i<16):(tD st i).set i (.pv (.int .u8 (pP (G8 st i))))=tD st (i+1):=by
 apply List.ext_getElem?;intro j;by_cases hj:j<16
 ·rw[M5 hj];by_cases e:i=j
  ·subst e;rw[List.getElem?_set_self (by rw[AN];exact h),aQD (Nat.lt_succ_self _)]
  rw[List.getElem?_set_ne e,M5 hj];by_cases h1:j<i
  ·rw[aQD h1,aQD (by omega)]
  rw[aQC h1,aQC (by omega)]
 rw[List.getElem?_eq_none (by rw[List.length_set,AN];omega),List.getElem?_eq_none (by rw[AN];omega)]
theorem aFM:∀a∈tD st i,Clo H a:=by intro a ha;obtain ⟨j,_,rfl⟩:=List.mem_map.1 ha;exact .pv _
theorem aG1:∀a∈kI l,Clo H a:=by intro a ha;obtain ⟨j,_,rfl⟩:=List.mem_map.1 ha;exact .pv _
theorem IW{T:Nat}{l:List AV}(h:∀a∈l,Clo H a):∀r∈(bx n T l).rows,∀a∈r,Clo H a:=by intro r hr a ha;rw[bx,aQH]at hr;subst hr;exact h a ha
theorem AP(st j:Nat):G8 st j<16:=Nat.mod_lt _ (by decide)
theorem aB5(h:n<16):0<=pP n/\pP n<256:=by
 unfold pP
 split<;>omega
theorem Z5(st:Nat):tD st 16=kI (vQ st):=by rw[tD,kI,vQ,List.map_map];refine List.map_congr_left fun j hj=>?_;have hj':=List.mem_range.1 hj;have hb:=aB5 (AP st j);simp only[Function.comp];rw[aQD hj',UInt8.toNat_ofNat'];have h2:(pP (G8 st j)).toNat % 2 ^ 8=(pP (G8 st j)).toNat:=Nat.mod_eq_of_lt (by omega);rw[h2,Int.toNat_of_nonneg hb.1]
def PO(n:Nat):Nat:=1181783497276652981 ^^^ n
def qK(s:ByteArray):ByteArray:=⟨(vQ (N1 (PO s.size) s.data.toList)).toArray⟩
theorem aBe(h:n<18446744073709551616):PO n<18446744073709551616:=BY (by decide) h
theorem orN{b:Nat}(ha:a<72057594037927936)(hb:b<256):bits .or .u64 ((a*256:Nat):Int) (b:Int)=((a*256+b:Nat):Int):=by rw[bits_or_u64_nat _ _ (by omega) (by omega)];have h:=Nat.two_pow_add_eq_or_of_lt (i:=8) (b:=b) (by omega) a;rw[Nat.mul_comm]at h;rw[show a*256=a*2 ^ 8 from rfl,h]
theorem aO8(h:a<72057594037927936):IntKind.u64.wrap ((a:Int)*2 ^ ((8:Int)).toNat)=((a*256:Nat):Int):=by show IntKind.u64.wrap ((a:Int)*256)=_;rw[IntKind.wrap_u64];omega
theorem U6(h:n<18446744073709551616):IntKind.u64.wrap (n:Int)=(n:Int):=by rw[IntKind.wrap_u64];omega
theorem aEJ(s:ByteArray)(st:Nat)(hst:st<18446744073709551616):aI Tryz.prog 103 [sv s,.ref 903 0 0 0] [(903,bx 1 122 [uv st])] (fun r H'=>r=.tup []/\H'=[(903,bx 1 122 [uv (J4 (st ^^^ tK (lG s.data.toList)))])]):=by
 have hp:(List.replicate 8 (AV.pv (.int .u8 0)))=kI (List.replicate 8 0):=by rw[kI,List.map_replicate];rfl
 have hm:min s.size 8<=8:=by omega
 have hsl:s.data.toList.length=s.size:=by simp
 have hcell:kI (s.data.toList.take (min s.size 8))++(List.replicate 8 (AV.pv (.int .u8 0))).drop (min s.size 8)=kI (lG s.data.toList):=by
  rw[hp,kI,kI,<-List.map_drop,<-List.map_append,List.drop_replicate,kI,lG,hsl];congr 2
  ·by_cases h:s.size<=8
   ·rw[Nat.min_eq_left h,List.take_of_length_le (by omega),List.take_of_length_le (by omega)]
   rw[Nat.min_eq_right (by omega)]
  congr 1;omega
 refine Bd func103 rfl ntmps103<|Sr<|Dd (by exact bU (id:=3) rfl aM1 rfl rfl)<|Zz<|Sq<|Rg ?_;refine GZ (id:=3) rfl rfl rfl rfl underlying123 cM rfl rfl rfl ?_;refine aG8 rfl rfl rfl (by decide) rfl rfl ?_;refine UI rfl rfl rfl rfl dL cM rfl (by decide) rfl rfl ?_;refine Zz<|Sr<|Dd aM<|Zz<|Sq<|Sr<|Dd aE<|Zz<|aF ?_;refine bJ (σ:=Nat) (fun i=>([(0,sv s),(1,.ref 903 0 0 0),(3,.ref 3 0 0 0),(4,uv (tK ((lG s.data.toList).take i))),(9,iv (i:Int))],[(3,bx 8 123 (kI (lG s.data.toList))),(903,bx 1 122 [uv st])])) (fun i=>i<=8) (fun i=>8 - i) 0 (aQV _) ?_ ?_
 ·rw[<-hcell];refine cX.wk (Eb<|Ea<|Ea<|Eb<|Eb<|trivial) (Hc ?_<|Hb<|trivial) ⟨rfl,trivial⟩;rw[hcell];exact IW aG1
 intro i hi;have hpl:=WK s.data.toList;have hti:((lG s.data.toList).take i).length<=8:=by rw[aQS];omega
 refine Sr<|Dd cW<|Zz<|Sq ?_;refine Cn ?_ ?_<;>intro hc1
 ·have hlt:i<8:=by have:=aQA hc1;omega
  obtain ⟨b,hb⟩:∃b,(lG s.data.toList)[i]?=some b:=⟨_,aQJ (by omega)⟩;have hb2:(kI (lG s.data.toList))[i]?=some (.pv (.int .u8 (b.toNat:Int))):=by rw[kI,aQY,hb];rfl
  have ht7:((lG s.data.toList).take i).length<=7:=by rw[aQS];omega
  have ha:=YC ht7;have hb3:=b.toNat_lt;refine aC<|Sq<|aF<|Sr<|Dd aE<|Dd aM<|Zz<|Rg<|Dd aE<|Dd (by exact F1 rfl rfl rfl (by decide) (by decide) (aO8 ha))<|Dd aE<|Dd (by exact eJ rfl underlying123 cM rfl rfl rfl rfl (by omega) (by exact aQP _) (by omega) rfl)<|Dd (by exact aK rfl BT rfl rfl rfl rfl (by rw[aQW,Nat.mul_one];exact hb2))<|Dd (by exact iH rfl fW jY rfl (U6 (by omega)))<|Dd (by exact mO rfl (by simp) rfl rfl (orN ha (by omega)))<|Dd aM<|Zz<|Rg<|Dd mV<|Dd aE<|Zz ?_;refine⟨i+1,by omega,by omega,?_⟩;have e:tK ((lG s.data.toList).take (i+1))=tK ((lG s.data.toList).take i)*256+b.toNat:=by rw[List.take_add_one,hb,Option.toList_some,SC]
  rw[e];exact(cX.wk (Eb<|Ea<|Ea<|Eb<|Eb<|trivial) (Hc (IW aG1)<|Hb<|trivial) ⟨rfl,trivial⟩)
 have hge:i=8:=by have:=aQB hc1;omega
 subst hge;have e:(lG s.data.toList).take 8=lG s.data.toList:=List.take_of_length_le (by omega);rw[e];refine aW<|Rg<|Dd (bF JB)<|Dd aE<|Dd (by exact mO rfl (by simp) rfl rfl (bits_xor_u64_nat st _ hst (OI (Nat.le_of_eq hpl))))<|Dd (by exact aA rfl rfl call104 rfl (aN4 _ (BY hst (OI (Nat.le_of_eq hpl))) _))<|Uu (jN FD)<|Zz ?_;exact sY (H':=[(903,bx 1 122 [uv (J4 (st ^^^ tK (lG s.data.toList)))])]) (.inl rfl) rfl (Fin.wk (by simp) (Hb<|trivial) ⟨rfl,trivial⟩) ⟨rfl,rfl⟩
theorem XH(s:ByteArray)(i j:Nat):(s.extract i j).data.toList=(s.data.toList.drop i).take (j - i):=by rw[ByteArray.data_extract,Array.toList_extract,List.extract_eq_take_drop]
theorem dAt(st i:Nat):(jV 16)[0+G8 st i*1]?=some (.pv (.int .u8 (pP (G8 st i)))):=by rw[aQW,Nat.mul_one,EX (AP st i),aQD (AP st i)]
theorem aPG(ha:a<18446744073709551616):bits .and .u64 (a:Int) 15=((a % 16:Nat):Int):=by have h:=bits_and_u64_nat a 15 ha (by decide);rw[Nat.and_two_pow_sub_one_eq_mod a 4]at h;exact h
theorem VD(s:ByteArray)(H:aH)(hs:s.size<4611686018427387904):aI Tryz.prog 36 [sv s] H (fun r H'=>r=sv (qK s)/\H'=H):=by
 refine Pu ?_;have hd0:PO s.size<18446744073709551616:=aBe (by omega);have hsl:s.data.toList.length=s.size:=by simp
 refine Bd func36 rfl ntmps36<|Sr<|Dd aM<|Zz<|Sr<|Dd aE<|Dd (kG underlying9)<|Dd (by exact iH rfl underlying3 jY rfl (U6 (by omega)))<|Dd (by exact mO rfl (by simp) rfl rfl (bits_xor_u64_nat 1181783497276652981 s.size (by decide) (by omega)))<|Dd (by exact bU (id:=903) rfl aM2 rfl rfl)<|Uu (jN FD)<|Zz<|Sr<|Dd (by exact gR rfl rfl)<|Dd aM<|Zz<|Sq<|aF ?_;refine jK (fun(x:ByteArray) (st:Nat)=>([(0,sv x),(3,.ref 903 0 0 0),(4,.clo 103 [.ref 903 0 0 0])],[(903,bx 1 122 [uv st])])) (fun x st=>st<18446744073709551616/\x.size<=s.size/\N1 st x.data.toList=N1 (PO s.size) s.data.toList) (fun x st=>x.size) s (PO s.size) ⟨hd0,aQK _,rfl⟩ ?_ ?_
 ·exact Wk
 rintro x st ⟨hst,hx,hD⟩;have hxl:x.data.toList.length=x.size:=by simp
 refine Sq<|Sr<|Dd aE<|Dd (kG underlying9)<|Dd D7<|Zz ?_;refine Cn ?_ ?_<;>intro hc1
 ·have h8:8<=x.size:=by have:=aQA hc1;omega
  refine aC<|Sq<|aF<|Rg<|Dd aE<|Dd aE<|Dd (by exact cQ (l:=0) (h:=8) rfl underlying9 rfl rfl rfl (by omega) (by omega) rfl)<|Dd (by exact cY rfl rfl rfl (dN.clo call103 (aEJ (x.extract 0 8) st hst)))<|Zz<|Rg<|Dd aE<|Dd (by exact cQ (l:=8) (h:=x.size) rfl underlying9 rfl rfl rfl (by omega) (by omega) rfl)<|Da ?_;refine⟨x.extract 8 x.size,J4 (st ^^^ tK (lG (x.extract 0 8).data.toList)),⟨TN _,by rw[ByteArray.size_extract];omega,?_⟩,by rw[ByteArray.size_extract];omega,Wk⟩;rw[<-hD,RZ st (by omega:8<=x.data.toList.length),XH,XH,List.drop_zero,List.take_of_length_le (l:=x.data.toList.drop 8) (by rw[aQT];omega)]
 have h8:x.size<8:=by have:=aQB hc1;omega
 have hL:=R0 st (by omega:x.data.toList.length<8);obtain ⟨S,hS⟩:∃S,S=J4 (st ^^^ tK (lG x.data.toList)):=⟨_,rfl⟩;have hSl:S<18446744073709551616:=by rw[hS];exact TN _
 have hres:qK s=⟨(vQ S).toArray⟩:=by rw[qK,<-hD,hL,hS]
 rw[hres];refine aW<|Sr<|Dd aE<|Dd aE<|Dd (by exact cY rfl rfl rfl (dN.clo call103 (aEJ x st hst)))<|Zz<|Sr<|Dd (by exact aA rfl rfl call105 rfl (aGF _))<|Dd (by exact bU (id:=5) rfl aAa rfl rfl)<|Uu (jN UN)<|Zz<|Sr<|Dd (by exact bU (id:=6) rfl aAa rfl rfl)<|Zz<|Sq<|Sr<|Dd aE<|Zz<|aF ?_;rw[<-hS];refine bJ (σ:=Nat) (fun i=>([(3,.ref 903 0 0 0),(5,.ref 5 0 0 0),(6,.ref 6 0 0 0),(26,iv (i:Int))],[(6,bx 16 128 (tD S i)),(5,bx 16 128 (jV 16)),(903,bx 1 122 [uv S])])) (fun i=>i<=16) (fun i=>16 - i) 0 (aQV _) ?_ ?_
 ·exact(cX.wk (Ea<|Ea<|Ea<|Eb<|trivial) (Hc (IW aFM)<|Hc (IW aAV)<|Hb<|trivial) trivial)
 intro i hi;refine Sr<|Dd cW<|Zz<|Sq ?_;refine Cn ?_ ?_<;>intro hc2
 ·have hlt:i<16:=by have:=aQA hc2;omega
  refine aC<|Sq<|aF<|Sr<|Dd aE<|Dd aM<|Zz<|Rg<|Dd aE<|Dd (bF JB)<|Dd aE<|Dd (by exact mB rfl rfl rfl (by exact jM (by omega) (by omega)))<|Dd (by exact dX rfl rfl rfl (by exact jM (by omega) (by omega)))<|Dd (by exact C6 rfl rfl rfl (by omega) (by simp[IntKind.bits];omega) (aCS S (60 - 4*i) (by omega)))<|Dd (by exact mO rfl (by simp) rfl rfl (aPG (vW _ hSl)))<|Dd (by exact eJ rfl wG cM rfl rfl rfl rfl (by omega) (aQP _) (AP S i) rfl)<|Dd (by exact aK rfl BT rfl rfl rfl rfl (dAt S i))<|Dd (by exact eJ rfl wG cM rfl rfl rfl rfl (by omega) (by exact aQP _) (by omega) rfl)<|Uu (by exact bG rfl cM rfl rfl rfl rfl rfl rfl (by rw[AN];omega) (show (tD S i).set (0+i*1) (.pv (.int .u8 (pP (G8 S i))))=tD S (i+1)by rw[aQW,Nat.mul_one];exact Z4 hlt) rfl) ?_;refine Zz<|Rg<|Dd mV<|Dd aE<|Zz ?_;exact⟨i+1,by omega,by omega,(cX.wk (Ea<|Ea<|Ea<|Eb<|trivial) (Hc (IW aFM)<|Hc (IW aAV)<|Hb<|trivial) trivial)⟩
 have hge:i=16:=by have:=aQB hc2;omega
 subst hge;refine aW<|Sq<|Rg ?_;refine GZ (id:=6) rfl rfl rfl rfl wG cM rfl rfl rfl ?_;refine aJ3 (bs:=vQ S) rfl rfl rfl rfl dL fW underlying9 (by rw[<-Z5];rfl) (by decide) rfl ?_;exact Dd aM<|Zz<|aB<|Rt<|Qq
end Go.Proofs.YtmdicgjnmfolfaaGreatDoor
namespace Go.Abs
variable{ι:kY}{H H' G0 K:aH}{v:Value}{a:AV}{E d:dG}{id b p N:Nat}{x:Go.Loop}{P:Program}
def aMD(H' H:aH):Prop:=∀j o',H'.get j=some o'->∃o,H.get j=some o/\o'.g=o.g/\o'.sz=o.sz/\o'.rows.length=o.rows.length
theorem VRel.restrictG{w:World}{I:Nat->Prop}(r:aMD H' H)(h:VRel w I ι H v a):Clo H' a->VRel w I ι H' v a:=by
 induction h with
 |any v=>exact fun _=>.any v
 |pv h=>exact fun _=>.pv h
 | ref o f p g m =>
  intro c;cases c with
  |ref c =>
   obtain ⟨k,d⟩:=Option.isSome_iff_exists.1 c;obtain ⟨u,e,x,t,s⟩:=r _ _ d;rw[f]at e;cases e;exact .ref k d (by omega) g (fun y=>by simp_all)
 |pad b D A M f p g K m N O=>exact fun _=>.pad b D A M f p g K m N O
 | osl o f p g m =>
  intro c;cases c with
  |osl c =>
   obtain ⟨k,d⟩:=Option.isSome_iff_exists.1 c;obtain ⟨u,e,x,t,s⟩:=r _ _ d;rw[f]at e;cases e;exact .osl k d (by omega) g (fun y=>by simp_all)
 |clo n h l =>
  intro c;cases c with|clo c=>exact .clo n fun i v a q j=>l i v a q j (c a (aQO j))
 |bnd n h l =>
  intro c;cases c with|bnd c=>exact .bnd n fun i v a q j=>l i v a q j (c a (aQO j))
 |agg n f h l =>
  intro c;cases c with|agg c=>exact .agg n f fun i v a q j=>l i v a q j (c a (aQO j))
 |tup n h l =>
  intro c;cases c with|tup c=>exact .tup n fun i v a q j=>l i v a q j (c a (aQO j))
 | mp o f p g m =>
  intro c;cases c with
  |mp c =>
   obtain ⟨k,d⟩:=Option.isSome_iff_exists.1 c;obtain ⟨u,e,x,t,s⟩:=r _ _ d;rw[f]at e;cases e;exact .mp k d (by omega) g (fun y=>by simp_all)
 | it o f p g m =>
  intro c;cases c with
  |it c =>
   obtain ⟨k,d⟩:=Option.isSome_iff_exists.1 c;obtain ⟨u,e,x,t,s⟩:=r _ _ d;rw[f]at e;cases e;exact .it k d (by omega) g (fun y=>by simp_all)
 | yld o f p g m =>
  intro c;cases c with
  |yld c =>
   obtain ⟨k,d⟩:=Option.isSome_iff_exists.1 c;obtain ⟨u,e,x,t,s⟩:=r _ _ d;rw[f]at e;cases e;exact .yld k d (by omega) g (fun y=>by simp_all)
 | osc o f p g m =>
  intro c;cases c with
  |osc c =>
   obtain ⟨k,d⟩:=Option.isSome_iff_exists.1 c;obtain ⟨u,e,x,t,s⟩:=r _ _ d;rw[f]at e;cases e;exact .osc k d (by omega) g (fun y=>by simp_all)
theorem VRel.freezeG{w}{I}{ι}{H H'}{id}{ob}{ps}(p:Rel I ι H w)(s:aMD H' H)(x:H.get id=some ob)(m:ob.rows=ps.map (·.map .pv)){a a'}(q:Fz H' id ob.g ps a a'):
  ∀ {v},VRel w I ι H v a->VRel w (pI I ι id) ι H' v a':=by
 induction q with
 |same h=>exact fun c=>(c.restrictG s h).mono' (fun _ _=>rfl) (fun _ h=>.inl h) (fun _ o h=>⟨o,h,aQK _,fun _=>⟨rfl,rfl,fun _=>aQK _⟩⟩)
 |osl r =>
  intro v c;subst r;exact .pv (CM p x m c)
 | agg g h j =>
  intro v c;cases c with
  |agg k t f =>
   refine .agg (k.trans g) t fun i u a' l b=>?_;have n:=(aQI.1 b).1;exact j i _ _ (aQJ (by omega)) b (f i u _ l (aQJ _))
 | tup g h j =>
  intro v c;cases c with
  |tup k f =>
   refine .tup (k.trans g) fun i u a' l b=>?_;have n:=(aQI.1 b).1;exact j i _ _ (aQJ _) b (f i u _ l (aQJ (by omega)))
def OO(H':aH)(id g:Nat)(ps:List (List PV))(rows rows':List (List AV)):Prop :=rows'.length=rows.length/\∀(i:Nat) (r':List AV),rows'[i]?=some r'->∃r,rows[i]?=some r/\r.length=r'.length/\∀(k:Nat) (a a':AV),r[k]?=some a->r'[k]?=some a'->Fz H' id g ps a a'
theorem gK{H'}{id g}{ps}{rows}(h:∀r∈rows,∀a∈r,Clo H' a):OO H' id g ps rows rows :=⟨rfl,fun i r b=>⟨r,b,rfl,fun k a a' d c=>by rw[d]at c;cases c;exact .same (h r (aQO b) a (aQO d))⟩⟩
theorem oD{H'}{id g}{ps}{r r'}(c:r.length=r'.length)(h:∀(k:Nat) (a a'),r[k]?=some a->r'[k]?=some a'->Fz H' id g ps a a'):OO H' id g ps [r] [r'] :=⟨rfl,fun i x b=>by
  match i,b with
  |0,b=>cases b;exact⟨r,rfl,c,h⟩⟩
def FOk(H H':aH)(id g:Nat)(ps:List (List PV)):aH->Prop
 | []=>True
 |(j,o')::r=>(∃o,H.get j=some o/\o'.g=o.g/\o'.sz=o.sz/\o'.ty=o.ty/\OO H' id g ps o.rows o'.rows)/\FOk H H' id g ps r
theorem FOk.spec{H H'}{id g}{ps}{L}(h:FOk H H' id g ps L):∀p∈L,∃o,H.get p.1=some o/\p.2.g=o.g/\p.2.sz=o.sz/\p.2.ty=o.ty/\OO H' id g ps o.rows p.2.rows:=by
 induction L with
 |nil=>simp
 |cons x r ih =>
  obtain ⟨h1,h2⟩:=h
  simp_all
theorem cX.fzG{E':dG}{ob:Ob}(ps:List (List PV))(B:H.get id=some ob)(K:ob.rows=ps.map (·.map .pv))(hE:∀p∈E',∃v0,E.get p.1=some v0/\Fz H' id ob.g ps v0 p.2)(W:H'.get id=none)
    (hF:FOk H H' id ob.g ps H') (hk:KOk H' H G0):cX G0 E H E' H':=by
  intro G hG N a w T;obtain ⟨I,A,q,d,he⟩:=T.rel;subst hG;have C:∀j f,H'.get j=some f->∃o,H.get j=some o/\f.g=o.g/\f.sz=o.sz/\f.ty=o.ty/\OO H' id ob.g ps o.rows f.rows:=fun j f x=>hF.spec _ (dZ x);have s:aMD H' H:=fun j f x=>by
    obtain ⟨o,u,Z,R,_,L⟩:=C j f x;exact⟨o,u,Z,R,L.1⟩
  have D:∀b,KA A H' b->KA A H b:=fun b ⟨j,f,c,g,n⟩=>by
    obtain ⟨o,u,_⟩:=C j f g;exact⟨j,o,c,u,n⟩
  have J:Rel (pI I A id) A H' w:=by
    refine⟨fun b l=>?_,fun j f x=>?_,fun j j' o f b c c' g n=>?_,q.glob.mono (fun _ _=>rfl) (fun _ h=>.inl h)⟩
    · rcases l with l|⟨m,l⟩
      · exact q.imm b l
      · exact q.lt ⟨id,ob,m,B,l⟩
    · obtain ⟨o,u,Z,R,e4,L,Y⟩:=C j f x
      refine(q.obj j o u).keepG R e4 L (VZ L.symm (fun i U V=>by
        obtain ⟨r,M,Q,X⟩:=Y i U V;exact⟨r,M,Q,fun k a P g n y ts e=>(X k a P g n).raw e⟩)) rfl (fun b' F q1 _=>⟨rfl,fun q3=>?_⟩) (fun i U V=>?_)
      · rintro(h|⟨m,h⟩)
        · exact q3 h
        · have:j=id:=q.inj j id o ob b' F m u B q1 h
          rw[this,W]at x;cases x
      · obtain ⟨r,M,Q,X⟩:=Y i U V
        exact⟨r,M,Q,fun k a P g n v S=>VRel.freezeG q s B K (X k a P g n) S⟩
    · obtain ⟨p,u,_⟩:=C j o g
      obtain ⟨p',O,_⟩:=C j' f n;exact q.inj j j' p p' b c c' u O
  have z:Step G.I G.ι G.H G.w (pI I A id) A H' w :=
    { os := d.os, tape := d.tape, output := d.output, size := d.size, froz := d.froz, keep := d.keep
      imm:=fun b l=>.inl (d.imm b l)
      immNew:=fun b l=>by
        rcases l with l|⟨m,l⟩
        · exact d.immNew b l
        · rcases d.own b ⟨id,ob,m,B,l⟩with g|g
          · exact .inr (.inl g)
          · exact .inr (.inr g)
      own:=fun b l=>d.own b (D b l)
      objs:=fun j o ho=>by
        obtain ⟨f,g,n⟩:=d.objs j o ho;exact⟨f,(hk.kept j (by simp[ho])).trans g,n⟩}
  refine⟨T.defers,T.size,_,A,J,z,fun t v ht=>?_⟩;obtain ⟨v0,g,n⟩:=hE _ (gT ht);obtain ⟨c,hc,S⟩:=he t v0 g;exact⟨c,hc,VRel.freezeG q s B K n S⟩
section
def LR(x:Go.Loop)(E0:dG):Ob:=⟨0,0,0,[[.raw x (E0.map (·.1))],E0.map (·.2)]⟩
section
variable{I:Nat->Prop}{w:World}
theorem aE3{x}(m:Rel I ι H w)(e:H.get id=some (LR x d))(j:VRel w I ι H v (.yld id 0)):
  ∃b,ι id=some (b,2)/\v=.func (.yield b) #[] #[]/\w.heap[b]?=some (.loop x)/\¬ I b/\∀(i t:Nat) (a:AV),(d.map (·.1))[i]?=some t->(d.map (·.2))[i]?=some a->∃c,x.tmps[t]?=some c/\VRel w I ι H c a:=by
 cases j with
 |yld o g h2 h3 k =>
  rw[e]at g;cases g;obtain ⟨_,b,f,e2⟩:=k rfl;obtain ⟨_,b',y,h,k2,k3,l⟩:=(m.obj id _ e).rec rfl f;rw[f]at h;obtain ⟨q1,q2⟩:=l x _ _ rfl
  grind
theorem Rel.setRec{y:Go.Loop}{G:dG}(m:Rel I ι H w)(n:H.get id=some (LR x G))(k:ι id=some (b,2))(hy:y.tmps=x.tmps)
  (K:H'.get id=some (LR y G)) (C:∀j,j≠id->H'.get j=H.get j):Rel I ι H' (w.putObj b (.loop y))/\Step I ι H w I ι H' (w.putObj b (.loop y)):=by
 obtain ⟨_,b',z,J,O,T,k4⟩:=(m.obj id _ n).rec rfl k;rw[k]at J;cases J;obtain ⟨Q,X⟩:=k4 x _ _ rfl;subst Q;have u:=(Array.getElem?_eq_some_iff.1 O).1;have s:∀c,KA ι H' c->KA ι H c:=fun c ⟨j,o,B,U,g⟩=>by
  by_cases e:j=id
  ·subst e;exact⟨j,_,B,n,g⟩
  exact⟨j,o,B,(C j e).symm.trans U,g⟩
 have l:Step I ι H w I ι H' (w.putObj b (.loop y)):=by
  refine⟨rfl,rfl,rfl,by simp_all,fun a L _=>?_,fun _ h=>h,fun _ h=>.inl h,fun c g=>.inl (s c g),fun c g V=>?_,fun j o f=>?_⟩
  ·unfold World.frozen?;by_cases e:a.block=b
   ·rw[e,World.putObj_heap_same u,O]
   rw[World.putObj_heap_other e]
  ·exact World.putObj_heap_other fun e=>V ⟨id,_,2,n,by rw[e];exact k⟩
  by_cases e:j=id
  ·subst e;rw[n]at f;cases f;exact⟨_,K,aQK _,fun _=>⟨rfl,rfl,fun h=>by cases h⟩⟩
  exact⟨o,(C j e).trans f,aQK _,fun _=>⟨rfl,rfl,fun _=>aQK _⟩⟩
 refine⟨⟨fun c g=>by rw[World.putObj_size];exact m.imm c g,fun j o f=>?_,fun j N o o' c d d' f F g D=>?_,l.glob m⟩,l⟩
 ·by_cases e:j=id
  ·subst e;rw[K]at f;cases f;refine .inr (.inr (.inr ⟨rfl,b,y,k,World.putObj_heap_same u,T,fun z ts r M=>?_⟩));simp only[LR,List.cons.injEq,AV.raw.injEq,and_true]at M;obtain ⟨⟨rfl,rfl⟩,rfl⟩:=M;refine⟨rfl,fun i t a W L=>?_⟩;obtain ⟨c,Z,P⟩:=X i t a W L;exact⟨c,by rw[hy];exact Z,P.mono m l⟩
  rw[C j e]at f;exact(m.obj j o f).keep rfl (fun c d g _=>⟨World.putObj_heap_other (fun hb=>e (m.inj j id o _ c d 2 f n g (by rw[hb];exact k))),fun h=>h⟩) (fun r _ a _ v R=>R.mono m l)
 have A:∀j o,H'.get j=some o->∃o,H.get j=some o:=fun j o f=>by
  by_cases e:j=id
  ·subst e;exact⟨_,n⟩
  exact⟨o,(C j e).symm.trans f⟩
 obtain ⟨q,S⟩:=A j o f;obtain ⟨Y,E⟩:=A N o' F;exact m.inj j N q Y c d d' S E g D
theorem Rel.push(o:Obj)(f:Rel I ι H w):Rel I ι H (w.alloc o)/\Step I ι H w I ι H (w.alloc o):=by
 have g:∀b,b<w.heap.size->(w.alloc o).heap[b]?=w.heap[b]?:=fun b e=>by
  show (w.heap.push o)[b]?=_
  grind
 have d:Step I ι H w I ι H (w.alloc o):=by
  refine⟨rfl,rfl,rfl,by simp_all,fun a ha _=>?_,fun _ h=>h,fun _ h=>.inl h,fun _ h=>.inl h,fun b e _=>g b e,fun _ o h=>⟨o,h,aQK _,fun _=>⟨rfl,rfl,fun _=>aQK _⟩⟩⟩;unfold World.frozen?
  simp_all
 refine⟨⟨fun b e=>by have:=f.imm b e;rw[World.size_alloc];omega,fun j o k=>?_,f.inj,d.glob f⟩,d⟩;exact(f.obj j o k).keep rfl (fun b c _ e=>⟨g b e,fun h=>h⟩) (fun r _ a _ v i=>i.mono f d)
end
def busy(x:Go.Loop):Go.Loop:={x with state:=.busy}
def left(x:Go.Loop)(c:Code):Go.Loop:={x with state:=.done,pending:=some c}
def aGo(H0:aH)(id:Nat)(x:Go.Loop)(E0:dG)(Q:AV->aH->Prop):Exit->dG->aH->Prop
 |.normal,E,H=>∃K,cX H0 E H [] ((id,LR (busy x) E0)::K)/\Q (.pv (.bool true)) ((id,LR x E0)::K)
 |.ret,E,H=>∃K,cX H0 E H [] ((id,LR (busy x) E0)::K)/\Q (.pv (.bool false)) ((id,LR (left x .ret) E0)::K)
 |.exit j,E,H=>∃K,cX H0 E H [] ((id,LR (busy x) E0)::K)/\Q (.pv (.bool false)) ((id,LR (left x (.exit j)) E0)::K)
 |_,_,_=>False
theorem rT{G:Entry}{I}{ι}{H}{w}{id b}{x y}{e}(c:Step G.I G.ι G.H G.w I ι H w)(h:G.H.get id=some (LR x e))(a:G.ι id=some (b,2))(g:H.get id=some (LR y e)):ι id=some (b,2):=by obtain ⟨o',d,_,f⟩:=c.objs _ _ h;rw[g]at d;cases d;exact(f rfl).1.trans a
theorem sO{I}{w}{x}{f:dG}(g:Rel I ι H w)(d:H.get id=some (LR x f))(a:ι id=some (b,2)):w.heap[b]?=some (.loop x):=by
 obtain ⟨_,b',z,c,k2,k3,e⟩:=(g.obj id _ d).rec rfl a;rw[a]at c;obtain ⟨q1,_⟩:=e x _ _ rfl
 simp_all
theorem gE(id)(o)(K:aH):aH.get ((id,o)::K) id=some o:=by simp[aH.get,pA]
theorem zF{id j}(o o')(K:aH)(h:j≠id):aH.get ((id,o)::K) j=aH.get ((id,o')::K) j:=by simp[aH.get,kW (Ne.symm h)]
theorem SF{h n:Code}{Q:AV->aH->Prop}(E2:dG)(K2:aH)(G:x.state=.ready)(X:x.pending=none)(hp:x.params=#[p])(hN:x.tmps.size=N)(hxa:x.assign=h)(hxb:x.body=n)(U:Nat.blt p N=true)
  (hok:xA h=true) (T:xA n=true)
  (h1:gM P ((id,LR x d)::K) N h (zQ (fun E1 H1=>cX ((id,LR x d)::K) E1 H1 E2 ((id,LR x d)::K2)) (fun _ _ _=>False)) ((p,a)::d) ((id,LR x d)::K))
  (h2:gM P ((id,LR x d)::K) N n (aGo ((id,LR x d)::K) id x d Q) E2 ((id,LR (busy x) d)::K2)):E7 P id 0 [a] ((id,LR x d)::K) Q:=by
 subst hxa hxb;have U:p<N:=by simp_all
 intro I Y w vs v hr hv hl hvs;obtain ⟨b,e1,e2,e3,e4,e5⟩:=aE3 hr (gE _ _ _) hv;obtain ⟨u,rfl⟩:∃u,vs=#[u]:=by
  match vs,hl with
  |⟨[u]⟩,_=>exact⟨u,rfl⟩
 have hu:=hvs 0 u a rfl rfl;refine⟨b,x.fn,_,x.assign,x.body,e2,run_yield e3 (by simp_all),?_⟩;refine roundIn_of_wpIn (F:=Fence.wide) trivial ?_;have Z:(⟨I,Y,(id,LR x d)::K,w,[]⟩:Entry).H=(id,LR x d)::K:=rfl;have hst:St ⟨I,Y,(id,LR x d)::K,w,[]⟩ N ((p,a)::d) ((id,LR x d)::K) {tmps:=(x.params.zip #[u]).foldl (fun m (t,a)=>m.setIfInBounds t a) x.tmps,defers:=[]} w:=by
  have ht:(x.params.zip #[u]).foldl (fun m (t,a)=>m.setIfInBounds t a) x.tmps=x.tmps.setIfInBounds p u:=by rw[hp];simp
  rw[ht];refine⟨rP.nil _ _ _,by simp[hN],I,Y,hr,Step.refl _ _ _ _,fun t y s=>?_⟩;by_cases e:p=t
  ·subst e;rw[dG.get_cons_same]at s;cases s;exact⟨u,by simp[hN,U],hu⟩
  rw[dG.get_cons_other _ _ e]at s;obtain ⟨i,hi⟩:=aQZ.1 (gT s);obtain ⟨c,c1,c2⟩:=e5 i t y (by rw[aQY,hi];rfl) (by rw[aQY,hi];rfl);exact⟨c,by show (x.tmps.setIfInBounds p u)[t]?=some c;rw[Array.getElem?_setIfInBounds_ne e];exact c1,c2⟩
 refine wpIn_mono (h1 _ Z _ w hst (some b) (.inr hok)) ?_;rintro e a1 w1 ⟨E1,H1,q,hs1⟩;cases e with
 | normal =>
  have F:=q _ Z N a1 w1 hs1;obtain ⟨I1,ι1,z,B,he1⟩:=F.rel;have E:=rT B (gE _ _ _) e1 (gE _ _ _);have hb1:=sO z (gE _ _ _) E;obtain ⟨k1,k2⟩:=z.setRec (y:=busy x) (H':=(id,LR (busy x) d)::K2) (gE _ _ _) E rfl (gE _ _ _) (fun j hj=>zF _ _ _ hj);refine⟨_,run_beginRound hb1 G,?_⟩;have hs3:St ⟨I,Y,(id,LR x d)::K,w,[]⟩ N E2 ((id,LR (busy x) d)::K2) a1 (w1.putObj b (.loop (busy x))) :=
   ⟨F.defers.step z k2,F.size,I1,ι1,k1,B.trans k2,fun t y s=>let ⟨c,c1,c2⟩:=he1 t y s;⟨c,c1,c2.mono z k2⟩⟩
  refine wpIn_mono (h2 _ Z a1 _ hs3 (some b) (.inr T)) ?_;rintro e a2 w3 ⟨E3,H3,R,hs4⟩;have O:∀(g:Option Code) (y:Go.Loop) (o:aH),y={busy x with state:=if g.isNone then .ready else .done,pending:=g}->cX ((id,LR x d)::K) E3 H3 [] ((id,LR (busy x) d)::o)->Q (.pv (.bool g.isNone)) ((id,LR y d)::o) ->
    ∃v w',(Instr.endRound b g).run P w3=.ok v w'/\∃r H' I' L v',Ending.returned v=.returned v'/\Q r H'/\VRel w' I' L H' v' r/\Rel I' L H' w'/\Step I Y ((id,LR x d)::K) w I' L H' w':=by
   intro g y o s f M;have hs5:=f _ Z N a2 w3 hs4;obtain ⟨I5,ι5,W,C,_⟩:=hs5.rel;have D:=rT C (gE _ _ _) e1 (gE _ _ _);have hb5:=sO W (gE _ _ _) D;obtain ⟨z1,z2⟩:=W.setRec (y:=y) (H':=(id,LR y d)::o) (gE _ _ _) D (by rw[s]) (gE _ _ _) (fun j hj=>zF _ _ _ hj);refine⟨_,_,run_endRound g hb5,_,_,I5,ι5,_,rfl,M,.pv (.bool _),?_,?_⟩
   ·rw[<-s];exact z1
   rw[<-s];exact C.trans z2
  cases e with
  |normal =>
   obtain ⟨o,f,M⟩:=R;refine O none x o ?_ f M;obtain ⟨st,pe,fn,tm,pa,ax,bo,de⟩:=x;simp only at G X;subst G X;rfl
  |ret =>
   obtain ⟨o,f,M⟩:=R;exact O (some .ret) (left x .ret) o rfl f M
  |exit j =>
   obtain ⟨o,f,M⟩:=R;exact O (some (.exit j)) (left x (.exit j)) o rfl f M
  |goto l=>exact R.elim
  |panic ch=>exact R.elim
  |outgrown=>exact R.elim
 |exit j=>exact q.elim
 |goto l=>exact q.elim
 |ret=>exact q.elim
 |panic ch=>exact q.elim
 |outgrown=>exact q.elim
def aGr(Q:Exit->dG->aH->Prop)(E:dG)(H:aH):Option Code->Prop
 |none=>Q .normal E H
 |some .ret=>Q .ret E H
 |some (.exit j)=>Q (.exit j) E H
 |_=>False
theorem DN{f:Nat}{M:List AV}{g:Operand}{ps:Array Tmp}{assign body:Code}{Q:Exit->dG->aH->Prop}(n:dG)(hg:aR E g=some (.clo f M))(hc:∀(args:Array Value) (w:World),(callFunc f args).run P w=.ok (.enter f args) w)
  (hps:ps=#[p]) (hid:H.get id=none) (hE0:∀q∈n,E.get q.1=some q.2)
  (h:∀x:Go.Loop,x.state=.ready->x.pending=none->x.params=#[p]->x.tmps.size=N->x.assign=assign->x.body=body ->
   aI P f (.yld id 0::M) ((id,LR x n)::H) (fun r H'=>∃(y:Go.Loop) (K:aH),y.tmps=x.tmps/\y.state≠.busy/\H'=(id,LR y n)::K/\∀z:Go.Loop,aGr Q E ((id,LR z n)::K) y.pending)) :
  gM P G0 N (.rangeFunc g ps assign body) Q E H:=by
 intro G hG a w hs ro hro;obtain rfl:ro=none:=hro.resolve_right (fun h=>by cases h);obtain ⟨I,ι,hr,hst,he⟩:=hs.rel;refine wpIn_rangeFunc (F:=RF none) ?_;intro fn _;have hgv:=aJ he hg;generalize hfc:a.eval g=fc at hgv;cases hgv with
 | @clo _ us _ hl hh =>
  obtain ⟨x,R⟩:∃x:Go.Loop,x={state:=.ready,pending:=none,fn,tmps:=a.tmps,params:=ps,assign,body,defers:=w.heap.size}:=⟨_,rfl⟩;obtain ⟨a1,a2⟩:=hr.push (.deferred (some []));obtain ⟨X,V⟩:∃X,X=w.alloc (.deferred (some [])):=⟨_,rfl⟩;rw[<-V]at a1 a2;have L:X.heap.size=w.heap.size+1:=by simp_all
  have hDd:X.heap[w.heap.size]?=some (.deferred (some [])):=by rw[V];exact World.alloc_heap_new w _
  have m:aH.get ((id,LR x n)::H) id=some (LR x n):=gE _ _ _;obtain ⟨b1,b2⟩:=a1.placeX (id:=id) (cap:=2) (x:=.loop x) (w':=X.alloc (.loop x)) (H':=(id,LR x n)::H) (ob':=LR x n) rfl rfl rfl rfl (fun o ho=>by simp_all)
   (fun hnew hI hmono=>.inr (.inr (.inr ⟨rfl,_,x,by simp,hnew,hI,fun y ts r hy=>by
    simp only[LR,List.cons.injEq,AV.raw.injEq,and_true]at hy;obtain ⟨⟨rfl,rfl⟩,rfl⟩:=hy;refine⟨rfl,fun i t v ht u=>?_⟩;rw[aQY]at ht u;obtain ⟨q,hq,rfl⟩:=Option.map_eq_some_iff.1 ht;rw[hq]at u;cases u;obtain ⟨c,c1,c2⟩:=he q.1 q.2 (hE0 q (aQO hq));exact⟨c,by rw[R];exact c1,hmono _ _ (c2.mono hr a2)⟩⟩)))
   m (fun j hj=>by simp[aH.get,kW (Ne.symm hj)])
  obtain ⟨T,hw1⟩:∃T,T=X.alloc (.loop x):=⟨_,rfl⟩;rw[<-hw1]at b1 b2;obtain ⟨B,U⟩:∃B:kY,B=fun j=>if j=id then some (X.heap.size,2)else ι j:=⟨_,rfl⟩
  rw[<-U]at b1 b2;have d:B id=some (w.heap.size+1,2):=by rw[U,L];simp
  have hL1:=sO b1 m d;have W:T.heap[w.heap.size]?=some (.deferred (some [])):=by
   rw[b2.keep _ (by rw[L];omega) (yU a1 hDd)];exact hDd
  have Z:=h x (by rw[R]) (by rw[R]) (by rw[R,hps]) (by rw[R];exact hs.size) (by rw[R]) (by rw[R]) I B T (#[.func (.yield (w.heap.size+1)) #[] #[]]++us) b1 (by simp[hl];omega) (fun i v c u F=>by
   cases i with
   |zero =>
    rw[Array.getElem?_append_left (by simp)]at u;simp at u F;subst u F;exact .yld (LR x n) m (aQK _) rfl (fun _=>⟨rfl,_,d,rfl⟩)
   |succ i =>
    rw[Array.getElem?_append_right (by simp)]at u;simp only[List.getElem?_cons_succ]at F;have:=hh i v c (by simpa using u) F;exact(this.mono hr a2).mono a1 b2)
  refine⟨w.heap.size+1,[mark w.heap.size],T,{target:=.fn (.func f) us,args:=#[.func (.yield (w.heap.size+1)) #[] #[]]},T,f,#[.func (.yield (w.heap.size+1)) #[] #[]]++us,T,?_,?_,fun _ _=>trivial,?_,(fun q=>by cases q),?_⟩
  ·rw[hw1,V,R];exact run_enterLoop_outer _ _ _ _ _
  ·simp only[resolve,hfc];simp[go_sem]
  ·simp[invoke,go_sem,hc]
  refine((callsIn_wide (n:=0)).2 Z).mono ?_;rintro e w3 ⟨r,H',I3,ι3,v3,rfl,⟨y,K,hy1,hy2,rfl,hq⟩,_,hr3,A⟩;have O:=rT (G:=⟨I,B,(id,LR x n)::H,T,[]⟩) A m d (gE _ _ _);have hb3:=sO hr3 (gE _ _ _) O;obtain ⟨z,hz⟩:∃z:Go.Loop,z={y with state:=.exhausted}:=⟨_,rfl⟩;obtain ⟨z1,z2⟩:=hr3.setRec (y:=z) (H':=(id,LR z n)::K) (gE _ _ _) O (by rw[hz]) (gE _ _ _) (fun j hj=>zF _ _ _ hj);obtain ⟨w4,hw4⟩:∃w4,w4=w3.putObj (w.heap.size+1) (.loop z):=⟨_,rfl⟩;rw[<-hw4]at z1 z2;refine⟨y.pending,w4,by rw[hw4,hz];exact run_endLoop hb3 hy2,?_⟩;have s:Step I ι H w I3 ι3 ((id,LR z n)::K) w4:=((a2.trans b2).trans A).trans z2;have hD4:w4.heap[w.heap.size]?=some (.deferred (some [])):=by
   rw[(A.trans z2).keep _ (Array.getElem?_eq_some_iff.1 W).1 (yU b1 W)];exact W
  have Y : St G N E ((id, LR z n) :: K) { a with defers := [mark w.heap.size] ++ a.defers } w4 := by
   refine⟨?_,hs.size,I3,ι3,z1,hst.trans s,fun t v u=>let ⟨c,c1,c2⟩:=he t v u;⟨c,c1,c2.mono hr s⟩⟩;obtain ⟨Ds,d1,d2,d3⟩:=hs.defers.step hr s;refine⟨w.heap.size::Ds,by rw[d1];rfl,List.nodup_cons.2 ⟨fun hmem=>?_,d2⟩,fun D hD=>?_⟩
   ·have hold:∀D∈Ds,D<w.heap.size:=by
     obtain ⟨Ds',d1',_,d3'⟩:=hs.defers;have he:Ds'=Ds:=by
      have h0:Ds'.map mark=Ds.map mark:=List.append_cancel_right (d1'.symm.trans d1);have hinj:∀(l J:List Nat),l.map mark=J.map mark->l=J:=by
       intro l
       induction l with
       |nil=>intro J h;cases J with
        |nil=>rfl
        |cons _ _=>cases h
       | cons D l ih=>intro J h;cases J with
        |nil=>cases h
        |cons D' J =>
         simp only[List.map_cons,List.cons.injEq,mark,Deferred.mk.injEq,Target.collected.injEq,and_true]at h;rw[h.1,ih J h.2]
      exact hinj _ _ h0
     subst he;exact fun D hD=>(Array.getElem?_eq_some_iff.1 (d3' D hD).2).1
    exact Nat.lt_irrefl _ (hold _ hmem)
   rcases aQQ.1 hD with rfl|hD
   ·exact⟨hst.size,hD4⟩
   exact d3 D hD
  have b:=hq z;generalize y.pending=pend at b |-
  match pend,b with
  |none,b=>exact⟨E,_,b,Y⟩
  |some .ret,b=>exact wpIn_ret ⟨E,_,b,Y⟩
  |some (.exit j),b=>exact wpIn_exit ⟨E,_,b,Y⟩
end
theorem aI.congrG{P}{f}{args}{H H1 K K1}{d}(h:aI P f args H1 (fun r X=>r=d/\X=K1))(u:∀j,H1.get j=H.get j)(p:∀j,K.get j=K1.get j):aI P f args H (fun r X=>r=d/\X=K):=by intro I ι w vs g q n;obtain ⟨A,l⟩:=g.congr u;refine(h I _ w _ A q (fun i v a o y=>(n i v a o y).mono g l)).mono ?_;rintro e w' ⟨r,H',s,c,v,rfl,⟨rfl,rfl⟩,x,k,z⟩;obtain ⟨t,m⟩:=k.congr p;exact⟨r,K,s,c,v,rfl,⟨rfl,rfl⟩,x.mono k m,t,(l.trans z).trans m⟩
theorem E7.congrG{P}{id g}{args}{H H1 K K1}{q}(h:E7 P id g args H1 (fun r X=>r=q/\X=K1))(J:∀j,H1.get j=H.get j)(E:∀j,K.get j=K1.get j):E7 P id g args H (fun r X=>r=q/\X=K):=by intro I ι w vs v k m F A;obtain ⟨y,o⟩:=k.congr J;obtain ⟨l,f,c,b,d,G,B,z⟩:=h I _ w _ v y (m.mono k o) F (fun i v a D L=>(A i v a D L).mono k o);refine⟨l,f,c,b,d,G,B,z.mono ?_⟩;rintro e w' ⟨r,H',x,n,v,rfl,⟨rfl,rfl⟩,u,s,C⟩;obtain ⟨t,p⟩:=s.congr E;exact⟨r,K,x,n,v,rfl,⟨rfl,rfl⟩,u.mono s p,t,(o.trans C).trans p⟩
theorem dN.congrG{P}{c}{args}{H H1 K K1}{b}(h:dN P c args H1 (fun r X=>r=b/\X=K1))(d:∀j,H1.get j=H.get j)(f:∀j,K.get j=K1.get j):dN P c args H (fun r X=>r=b/\X=K):=by
 rcases h with⟨id,g,e,h⟩|⟨F,a,e,i,h⟩
 ·exact .inl ⟨id,g,e,h.congrG d f⟩
 exact .inr ⟨F,a,e,i,h.congrG d f⟩
theorem oZ{i j}{a b}(h:i≠j)(k):aH.get ((i,a)::(j,b)::K) k=aH.get ((j,b)::(i,a)::K) k:=by
 simp[aH.get];cases c:Nat.beq i k with
 |true =>
  have:=Nat.eq_of_beq_eq_true c;subst this;rw[kW (Ne.symm h)];rfl
 |false=>all_goals rfl
end Go.Abs
namespace Go.Abs
open Go.Lib
variable{id:Nat}{ob:Ob}{H:aH}
section
section
variable{P:Program}{N:Nat}{o:Oper}{E:dG}{T S:TypeId}{x y:Operand}
theorem AC{w}{I}{ι}(s):rK w I ι H 1 (strCells s) (eR s.data.toList):=by
 intro i r c k a d;rw[eR,aQY]at c;obtain ⟨b,e,rfl⟩:=Option.map_eq_some_iff.1 c;cases k with
 |zero =>
  cases d;exact⟨.int _ _,by rw[strCells,Nat.mul_one,Nat.add_zero,aQY,e];rfl,rfl,.pv (.int _ _)⟩
 |succ k=>grind
theorem MY{e:TypeId}{g n:Nat}{s:ByteArray}{H2:aH}(ho:o.op=.call {callee:=.builtin .append,args:=#[x,y],argTypes:=#[T,S]})(hT:P.underlying T=some (.slice e))(hS:P.underlying S=some .string)(hinf:YF P e 1 1)(hz0:∀i,P.info? e=some i->i.zero=some (.int .u8 0))
  (hx:aR E x=some (.osl id g 0 n)) (U:H.get id=some ob) (hg:ob.g=g) (q:ob.sz=1) (hty:ob.ty=e) (hn:ob.rows.length=n)
  (hy:aR E y=some (.pv (.str s))) (hmax:n+s.size<=140737488355328)
  (hH2:H.set id ⟨g+1,1,e,ob.rows++eR s.data.toList⟩=H2):cU P N o E H (.osl id (g+1) 0 (n+s.size)) H2:=by
 intro a w I ι _ _ hr he K Q hk;obtain ⟨i,z,hi,hz,A,hby,hzs,hsz0⟩:=hinf;have hzi:=hz0 i hi;subst hg hty hn hH2;have f:(eR s.data.toList).length=s.size:=by simp[eR]
 have hml:ob.rows.length+s.size<=maxLen:=by simp only[maxLen];omega
 have W:(H.set id ⟨ob.g+1,1,ob.ty,ob.rows++eR s.data.toList⟩).get id=some ⟨ob.g+1,1,ob.ty,ob.rows++eR s.data.toList⟩:=aH.get_set_same _ _ _;have h2:∀j,j≠id->(H.set id ⟨ob.g+1,1,ob.ty,ob.rows++eR s.data.toList⟩).get j=H.get j:=fun j hj=>aH.get_set_other _ _ hj;have V:0<ob.sz:=oM (aJ he hx) U rfl;have p2:=((hr.obj id ob U).cells V).2.1;rw[q]at p2;have hrl:∀r∈ob.rows++eR s.data.toList,r.length=1:=fun r hr'=>by
  rcases List.mem_append.1 hr' with h|h
  ·simp_all
  obtain ⟨b,_,rfl⟩:=List.mem_map.1 h;rfl
 have hys:=(aJ he hy).str_inv;have R:∀(v':Value) (w':World) (G:kY),(Builtin.append_ #[T,S] o.type #[a.eval x,.string s]).run P w=.ok v' w'->VRel w' I G (H.set id ⟨ob.g+1,1,ob.ty,ob.rows++eR s.data.toList⟩) v' (.osl id (ob.g+1) 0 (ob.rows.length+s.size)) ->
   Rel I G (H.set id ⟨ob.g+1,1,ob.ty,ob.rows++eR s.data.toList⟩) w'->Step I ι H w I G (H.set id ⟨ob.g+1,1,ob.ty,ob.rows++eR s.data.toList⟩) w'->o.wpW P a w K Q:=by
  intro v' w' G l k1 M O;unfold Oper.wpW execOp;simp only[ho,resolve,invoke,builtin,Sem.run_bind,Sem.run_pure,Result.andThen_ok,List.map_toArray,List.map_cons,List.map_nil,hys,l];exact hk v' w' I G _ _ ⟨rfl,rfl⟩ k1 M O
 have hvx:=aJ he hx;obtain ⟨_,hcase⟩:=jI hvx U rfl;rcases hcase with⟨b,m,oo,c1,c2,c3⟩|⟨c1,c2,_,c4⟩
 ·obtain ⟨p1,_,⟨b',cap',L,Z,e2,e3,e4,e5,e5',e6⟩|⟨Z,_⟩⟩:=(hr.obj id ob U).cells V
  ·rw [c1] at Z;cases Z;rw [q] at e4 e6;have hoo:oo=0:=by omega
   subst hoo;rw[Nat.sub_zero]at c2;have X:rK w I ι H 1 (L.toList.take (ob.rows.length*1)) ob.rows:=by
    intro i' r C k a' F
    grind
   have t:(L.toList.take (ob.rows.length*1)).length=ob.rows.length*1:=by grind
   have B:(strCells s).length=s.size:=strCells_length s;by_cases hroom:ob.rows.length+s.size<=m
   ·have l:=run_append_room_string (P:=P) w T S o.type ob.ty i hT hS hi A b ob.rows.length m L e2 s hroom (by omega);obtain ⟨M,O⟩:=Rel.update (H':=H.set id ⟨ob.g+1,1,ob.ty,ob.rows++eR s.data.toList⟩) (ob':=⟨ob.g+1,1,ob.ty,ob.rows++eR s.data.toList⟩)
     (cs':=(L.toList.take ob.rows.length++strCells s++L.toList.drop (ob.rows.length+s.size)).toArray) hr U c1 e2 (by simp) q.symm rfl (fun e=>by grind) (by
      grind) (by grind) (by grind) (fun i' r C k a' F=>by
       have:=rK.app (l3:=L.toList.drop (ob.rows.length+s.size)) X t (AC (H:=H) s) i' r C k a' F;rw[q]
       simpa[List.append_assoc]using this) W h2
    exact R _ _ ι (by rw[c2];exact l) (.osl _ W (aQK _) rfl fun _=>⟨Nat.zero_lt_one,by grind,.inl ⟨b,m,0,c1,by simp,fun _=>by simp⟩⟩) M O
   have holds:∀j v,(L.toList.take ob.rows.length)[j]?=some v->w.cell? ((⟨b,0,none⟩:Addr).add j)=some v:=by
    intro j v hv;rw[Addr.add_lit,aQW,cell_of_row w b _ L ob.ty (0,0) e2];rw[List.getElem?_take]at hv
    split at hv
    ·simpa using hv
    cases hv
   have l:=run_append_grow_string (P:=P) w T S o.type ob.ty i (.int .u8 0) hT hS hi hzi ⟨b,0,none⟩ ob.rows.length m _ (by rw[A];simpa using t) holds s (by omega) (by omega) (growslice_fits (by omega) (by rw[hby];omega));have hge:=grownCap_ge w (ob.rows.length+s.size) m ob.ty;have Y:=grownCap_le_maxLen w (ob.rows.length+s.size) m ob.ty hml;have hz1:(Value.int IntKind.u8 0).cells.size=1:=rfl;obtain ⟨M,O⟩:=Rel.place (H':=H.set id ⟨ob.g+1,1,ob.ty,ob.rows++eR s.data.toList⟩) (id:=id) (cap:=grownCap w (ob.rows.length+s.size) m ob.ty) (ob':=⟨ob.g+1,1,ob.ty,ob.rows++eR s.data.toList⟩)
    (cs':=(L.toList.take ob.rows.length).toArray++(strCells s).toArray++Builtin.zeroCells (Value.int .u8 0).cells (grownCap w (ob.rows.length+s.size) m ob.ty - (ob.rows.length+s.size)))
    (w':=w.drew.alloc (.cells ((L.toList.take ob.rows.length).toArray++(strCells s).toArray++Builtin.zeroCells (Value.int .u8 0).cells (grownCap w (ob.rows.length+s.size) m ob.ty - (ob.rows.length+s.size))) ob.ty)) hr rfl rfl rfl rfl
    (fun o' J=>by rw[U]at J;cases J;simp) Nat.zero_lt_one (by
     simp only[Array.size_append,List.size_toArray,size_zeroCells,hz1,B,aQS,Array.length_toList];omega) (by simp only[aQF,f];exact hge) Y hrl (fun i' r C k a' F=>by
      obtain ⟨u,q1,q2,q3⟩:=rK.app (l3:=(Builtin.zeroCells (Value.int .u8 0).cells (grownCap w (ob.rows.length+s.size) m ob.ty - (ob.rows.length+s.size))).toList) X t (AC (H:=H) s) i' r C k a' F;refine⟨u,?_,q2,q3⟩;rw[<-Array.getElem?_toList]
      simpa[List.append_assoc]using q1) W h2
   exact R _ _ _ (by rw[c2];exact l) (.osl _ W (aQK _) rfl fun _=>⟨Nat.zero_lt_one,by simp[f],.inl ⟨w.heap.size,_,0,by simp;rfl,by simp,fun _=>by simp⟩⟩) M O
  rw[c1]at Z;cases Z
 have D:ob.rows=[]:=List.eq_nil_of_length_eq_zero c4;by_cases h0:s.size=0
 ·have hb0:eR s.data.toList=[]:=List.eq_nil_of_length_eq_zero (by rw[f];exact h0);have l:(Builtin.append_ #[T,S] o.type #[.slice none 0 0,.string s]).run P w=.ok (.slice none 0 0) w:=by
   have hf:=run_firstCells_string (P:=P) w 1 s;rw[h0]at hf;simp[Builtin.append_,run_underlying hT,run_underlying hS,sizeOf,typeInfo,hi,A,Builtin.lenOf,h0,hf]
  obtain ⟨M,O⟩:=Rel.tick (H':=H.set id ⟨ob.g+1,1,ob.ty,ob.rows++eR s.data.toList⟩) (ob':=⟨ob.g+1,1,ob.ty,ob.rows++eR s.data.toList⟩) hr U (by simp) q.symm rfl (by simp[hb0]) W h2;exact R _ _ ι (by rw[c2];exact l) (.osl _ W (aQK _) rfl fun _=>⟨Nat.zero_lt_one,by simp[f],.inr ⟨c1,rfl,rfl,by simp[D,h0]⟩⟩) M O
 have hr0:=run_append_nil_string (P:=P) w T S o.type ob.ty i (.int .u8 0) hT hS hi hzi s (by omega) (by omega) (by rw[hby];omega);have B:(strCells s).length=s.size:=strCells_length s;have Z:(s.data.map fun b=>Value.int .u8 b.toNat)=(strCells s).toArray:=by
  apply Array.ext';simp[strCells]
 rw[Z]at hr0;have hml0:s.size<=maxLen:=by omega
 have hge:=grownCap_ge w s.size 0 ob.ty;have Y:=grownCap_le_maxLen w s.size 0 ob.ty hml0;have hz1:(Value.int IntKind.u8 0).cells.size=1:=rfl;obtain ⟨M,O⟩:=Rel.place (H':=H.set id ⟨ob.g+1,1,ob.ty,ob.rows++eR s.data.toList⟩) (id:=id) (cap:=grownCap w s.size 0 ob.ty) (ob':=⟨ob.g+1,1,ob.ty,ob.rows++eR s.data.toList⟩)
  (cs':=(strCells s).toArray++Builtin.zeroCells (Value.int .u8 0).cells (grownCap w s.size 0 ob.ty - s.size))
  (w':=w.drew.alloc (.cells ((strCells s).toArray++Builtin.zeroCells (Value.int .u8 0).cells (grownCap w s.size 0 ob.ty - s.size)) ob.ty)) hr rfl rfl rfl rfl
  (fun o' J=>by rw[U]at J;cases J;simp) Nat.zero_lt_one (by
   simp only[Array.size_append,List.size_toArray,size_zeroCells,hz1,B];omega) (by simp only[aQF,f,D,List.length_nil,aQW];exact hge) Y hrl (fun i' r C k a' F=>by
    simp only[D,List.nil_append]at C;obtain ⟨u,q1,q2,q3⟩:=AC (w:=w) (I:=I) (ι:=ι) (H:=H) s i' r C k a' F;have hlt:=(aQI.1 q1).1;refine⟨u,?_,q2,q3⟩;rw[Array.getElem?_append_left (by simpa using hlt)]
    simpa using q1) W h2
 exact R _ _ _ (by rw[c2];exact hr0) (.osl _ W (aQK _) rfl fun _=>⟨Nat.zero_lt_one,by simp[f],.inl ⟨w.heap.size,_,0,by simp;rfl,by simp[D],fun _=>by simp⟩⟩) M O
theorem tR{e}{id g n k}{ob}{s}{rows'}(p:o.op=.call {callee:=.builtin .append,args:=#[x,y],argTypes:=#[T,S]})(l:fC P T e 1)(hS:P.underlying S=some .string)(d:EI P e 1 1)(h:∀i,P.info? e=some i->i.zero=some (.int .u8 0))
  (t:aR E x=some (.osl id g 0 n)) (m:H.get id=some ob) (v:ob.g=g) (b:ob.sz=1) (f:ob.ty=e) (q:ob.rows.length=n)
  (r:aR E y=some (.pv (.str s))) (c:n+s.size<=140737488355328) (u:n+s.size=k) (a:ob.rows++eR s.data.toList=rows') :
  cU P N o E H (.osl id (g+1) 0 k) ((id,⟨g+1,1,e,rows'⟩)::H):=by
 subst u a;exact cU.congr (MY p l.1 hS d.1 h t m v b f q r c rfl) (fun j=>uV _ _ _ j)
end
end
section
section
variable{P:Program}
def EU(ob:Ob):Ob:=⟨ob.g+1,ob.sz,ob.ty,[]⟩
def sX(ι:kY)(id:Nat):kY:=fun x=>if x=id then none else ι x
theorem Step.dead{w}{I}{ι}{H}{id}{ob}(g:H.get id=some ob):Step I ι H w (pI I ι id) (sX ι id) ((id,EU ob)::H) w where
 os:=rfl
 tape:=rfl
 output:=rfl
 size:=aQK _
 froz:=fun _ _ _=>rfl
 imm:=fun _ h=>.inl h
 immNew:=fun b c=>by
  rcases c with c|⟨a,c⟩
  ·simp_all
  exact .inr (.inl ⟨id,ob,a,g,c⟩)
 own:=fun b c=>by
  obtain ⟨j,o,a,d,f⟩:=c;by_cases e:j=id
  ·rw[sX,aQD e]at f;cases f
  rw[sX,aQC e]at f;rw[get_cons_other _ _ e]at d;exact .inl ⟨j,o,a,d,f⟩
 keep:=fun _ _ _=>rfl
 objs:=fun j o d=>by
  by_cases e:j=id
  ·subst e;rw[g]at d;cases d;exact⟨EU _,get_cons_same _ _ _,Nat.le_succ _,fun h=>absurd h (by simp[EU])⟩
  exact⟨o,by rw[get_cons_other _ _ e];exact d,aQK _,fun _=>⟨aQC e,rfl,fun _=>aQK _⟩⟩
theorem Rel.dead{w:World}{I}{ι:kY}(g:Rel I ι H w)(s:H.get id=some ob)(q:0<ob.sz):Rel (pI I ι id) (sX ι id) ((id,EU ob)::H) w:=by
 have p:=Step.dead (w:=w) (I:=I) (ι:=ι) s;refine⟨fun b d=>?_,fun j o f=>?_,fun j u o z b c y f m n i=>?_,g.glob.mono (fun _ _=>rfl) (fun _ h=>.inl h)⟩
 ·rcases d with d|⟨k,d⟩
  ·exact g.imm b d
  exact g.lt ⟨id,ob,k,s,d⟩
 ·by_cases e:j=id
  ·subst e;rw[get_cons_same]at f;cases f;exact .inl ⟨q,by simp[EU],.inr ⟨aQD rfl,rfl⟩⟩
  rw[get_cons_other _ _ e]at f;refine(g.obj j o f).keep (aQC e) (fun b k B _=>⟨rfl,fun h=>?_⟩) (fun r _ a _ v A=>A.mono g p);rintro(d|⟨l,d⟩)
  ·grind
  exact e (g.inj j id o ob b k l f s B d)
 have x:j≠id:=fun e=>by rw[sX,aQD e]at n;cases n
 have t:u≠id:=fun e=>by rw[sX]at i;grind
 rw[sX,aQC x]at n;rw[sX,aQC t]at i;rw[get_cons_other _ _ x]at f;rw[get_cons_other _ _ t]at m;exact g.inj j u o z b c y f m n i
theorem aI.retire{f:FuncId}{args args':List AV}{Q}(ps:List (List PV))(h:aI P f args' ((id,EU ob)::H) Q)(l:H.get id=some ob)(hsz:Nat.blt 0 ob.sz=true)(m:ob.rows=ps.map (·.map .pv))
  (hl:args.length=args'.length) (x:∀(i:Nat) (a a':AV),args[i]?=some a->args'[i]?=some a'->a=a'\/∃off len,a=.osl id ob.g off len/\a'=.pv (.sl ((ps.take (off+len)).drop off))):aI P f args H Q:=by
 intro I o w z k hlen u;have g:=Step.dead (w:=w) (I:=I) (ι:=o) l;refine(h _ _ w z (k.dead l (by simp_all)) (by omega) ?_).mono ?_
 ·intro i v a' y c;have d:i<args.length:=by
   have:=(aQI.1 c).1;omega
  have b:=u i v _ y (aQJ d);rcases x i _ a' (aQJ d) c with e|⟨off,len,B,C⟩
  ·rw[e]at b;exact b.mono k g
  rw[B]at b;rw[C];exact .pv (CM k l m b)
 rintro e w' ⟨r,s,n,j,v,rfl,q,p,t,A⟩;exact⟨r,s,n,j,v,rfl,q,p,t,g.trans A⟩
end
end
end Go.Abs
