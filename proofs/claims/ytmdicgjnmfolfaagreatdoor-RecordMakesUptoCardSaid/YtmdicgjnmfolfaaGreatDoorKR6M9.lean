/-
  Parts of the proof: rules of an abstract program logic, contracts of functions, plain laws. Conditions: each theorem's own.
-/
import Derived.Test.YtmdicgjnmfolfaaGreatDoorKR6M8
set_option linter.unusedVariables false
set_option linter.unusedSimpArgs false
set_option maxRecDepth 100000
set_option maxHeartbeats 8000000
namespace Go.Proofs
open Tryz
theorem aHF:type_of% call14:=call14
theorem UU:type_of% call16:=call16
theorem gB:type_of% isAgg28:=isAgg28
theorem aS:type_of% isAgg30:=isAgg30
end Go.Proofs
namespace Go.Proofs.YtmdicgjnmfolfaaGreatDoor
open Go.Proofs.Tryz
open Go.Abs
variable{α:Type}
def T4{α:Type}(e:α->α->Bool)(a b:List α):Bool:=decide (a.length=b.length)&&(List.range a.length).all fun k=>match a[k]?,b[k]? with|some x,some y=>e x y|_,_=>true
theorem XL{e:α->α->Bool}(he:∀x y,e x y=true↔x=y){a b:List α}:T4 e a b=true↔a=b:=by
 constructor
 ·intro h;simp only[T4,aQN,aQL,List.all_eq_true,List.mem_range]at h;apply List.ext_getElem h.1;intro k h1 h2;have:=h.2 k h1;rw[aQJ h1,aQJ h2]at this;exact(he _ _).1 this
 rintro rfl;simp only[T4,aQN,aQL,List.all_eq_true,List.mem_range,true_and];intro k hk;rw[aQJ hk];exact(he _ _).2 rfl
theorem XM{e:α->α->Bool}{a b:List α}{k:Nat}{x y:α}(hx:a[k]?=some x)(hy:b[k]?=some y)(h:e x y=false):T4 e a b=false:=by have hk:=(aQI.1 hx).1;rw[T4,Bool.and_eq_false_iff];right;rw[List.all_eq_false];exact⟨k,List.mem_range.2 hk,by rw[hx,hy];simp[h]⟩
theorem RW{e:α->α->Bool}{a b:List α}(hl:a.length=b.length)(h:∀k,k<a.length->∀x y,a[k]?=some x->b[k]?=some y->e x y=true):T4 e a b=true:=by simp only[T4,aQN,aQL,List.all_eq_true,List.mem_range];refine⟨hl,fun k hk=>?_⟩;rw[aQJ hk,aQJ (by omega)];exact h k hk _ _ (aQJ hk) (aQJ (by omega))
def JG(a b:ByteArray):Bool:=decide (a=b)
theorem aCJ(a b:ByteArray):JG a b=true↔a=b:=by simp[JG]
def ET(a b:GObj):Bool:=decide (a.id=b.id)&&decide (a.kind=b.kind)&&(decide (a.x=b.x)&&decide (a.y=b.y))&&decide (a.refs.length=b.refs.length)&&decide (a.tags.length=b.tags.length)
def IK(a b:GObj):Bool:=ET a b&&(T4 JG a.refs b.refs&&T4 tL a.tags b.tags)
theorem aAL{a b:GObj}:IK a b=true↔a=b:=by
 rw[IK,aQN,aQN,XL aCJ,XL P8];cases a;cases b;simp only[ET,aQN,aQL,GObj.mk.injEq];constructor
 ·rintro⟨⟨⟨⟨⟨a1,a2⟩,a3,a4⟩,a5⟩,a6⟩,a7,a8⟩;exact⟨a1,a2,a3,a4,a7,a8⟩
 rintro⟨a1,a2,a3,a4,a7,a8⟩;exact⟨⟨⟨⟨⟨a1,a2⟩,a3,a4⟩,by rw[a7]⟩,by rw[a8]⟩,a7,a8⟩
def NK(a b:GObj)(n1 n2 n3 n4:Int):Bool:=!decide (a.id=b.id)||!decide (a.kind=b.kind)||!(decide (a.x=b.x)&&decide (a.y=b.y))||!decide (n1=n2)||!decide (n3=n4)
theorem RN(a b:GObj):NK a b ((a.refs.map encStr).length:Int) ((b.refs.map encStr).length:Int) ((a.tags.map bQ).length:Int) ((b.tags.map bQ).length:Int)=!ET a b:=by simp only[NK,ET,aQE,Bool.not_and,Int.natCast_inj]
theorem aE0(a b:GObj)(H:aH)(ha:a.refs.length<4611686018427387904)(ha2:a.tags.length<4611686018427387904):aI Tryz.prog 179 [av (bW a),av (bW b)] H (fun r H'=>r=bv (IK a b)/\H'=H):=by
 refine Pu ?_;have hra:(a.refs.map encStr).length=a.refs.length:=aQE _;have hta:(a.tags.map bQ).length=a.tags.length:=aQE _;refine Bd func179 rfl ntmps179<|Sr<|Dd (by exact cF (id:=2) rfl rfl rfl rfl rfl)<|Dd (by exact cF (id:=3) rfl rfl rfl rfl rfl)<|Dd aM<|Zz<|Sq<|Sq ?_;refine aY (t:=43) (n:=41) (X:=NK a b ((a.refs.map encStr).length:Int) ((b.refs.map encStr).length:Int) ((a.tags.map bQ).length:Int) ((b.tags.map bQ).length:Int)) ?_ ?_
 ·all_goals refine Dd (aT oH) ?_
  all_goals refine Dd (bF isAgg9)<|Dd (aT oH)<|Dd (bF isAgg9)<|Dd JI<|Dm ?_
  all_goals refine Sp 12 (fun h12=>?_) fun h12=>?_
  all_goals try contradiction
  all_goals first|refine Fo<|Fo<|Fo<|Fo<|Fo ?_|refine On (aT eB)<|On (bF isAgg3)<|On (aT eB)<|On (bF isAgg3)<|On wM ?_
  all_goals refine Dd cH<|Dm ?_
  all_goals refine Sp 19 (fun h19=>?_) fun h19=>?_
  all_goals try contradiction
  all_goals first|refine Fo<|Fo<|Fo<|Fo<|Fo ?_|refine On (aT mI)<|On (by exact aN rfl dS sizeOf68 rfl rfl rfl rfl (by simp only[Zl,bQ,bW,encStr];rfl) rfl)<|On (aT mI)<|On (by exact aN rfl dS sizeOf68 rfl rfl rfl rfl (by simp only[Zl,bQ,bW,encStr];rfl) rfl)<|On (by exact yW rfl rfl rfl rfl rfl iF (SZ _ _ _ _)) ?_
  all_goals refine Dd cH<|Dm ?_
  all_goals refine Sp 26 (fun h26=>?_) fun h26=>?_
  all_goals try contradiction
  all_goals first|refine Fo<|Fo<|Fo<|Fo<|Fo<|Fo<|Fo ?_|refine On (aT dT)<|On (bF aG)<|On (fM aD)<|On (aT dT)<|On (bF aG)<|On (fM aD)<|On wM ?_
  all_goals refine Dd cH<|Dm ?_
  all_goals refine Sp 35 (fun h35=>?_) fun h35=>?_
  all_goals try contradiction
  all_goals first|refine Fo<|Fo<|Fo<|Fo<|Fo<|Fo<|Fo ?_|refine On (aT fB)<|On (bF cS)<|On (fM cZ)<|On (aT fB)<|On (bF cS)<|On (fM cZ)<|On wM ?_
  all_goals refine Dd cH<|Zz ?_
  all_goals(exact⟨⟨_,rfl,by first|(simp only[NK, *];rfl)|(simp_all[NK];done)⟩,rfl,rfl,rfl⟩)
 refine Cn ?_ ?_<;>intro hc1
 ·rw[RN]at hc1;refine Sr<|Dd aM<|Zz<|aB<|Rt ?_;refine⟨?_,rfl⟩;have:ET a b=false:=by simpa using hc1
  rw[IK,this];rfl
 rw[RN]at hc1;have hh:ET a b=true:=by simpa using hc1
 have hlens:a.refs.length=b.refs.length/\a.tags.length=b.tags.length:=by
  simp only[ET,aQN,aQL]at hh;exact⟨hh.1.2,hh.2⟩
 obtain ⟨hl1,hl2⟩:=hlens;rw[IK,hh,Bool.true_and];refine aC<|Sq<|Sr<|Dd aM<|Zz<|aF ?_;refine bJ (σ:=Nat) (fun k=>([(2,.ref 2 0 0 0),(3,.ref 3 0 0 0),(5,iv (k:Int))],[(3,bx 6 151 ((bW b).map .pv)),(2,bx 6 151 ((bW a).map .pv))])) (fun k=>k<=a.refs.length/\∀j,j<k->∀x y,a.refs[j]?=some x->b.refs[j]?=some y->JG x y=true) (fun k=>a.refs.length - k) 0 ⟨by omega,by omega⟩ ?_ ?_
 ·exact Wk
 rintro k ⟨hk,hall⟩;refine Sq<|Sr<|Dd aE<|Dd (aT dT)<|Dd (bF aG)<|Dd (fM aD)<|Dd cW<|Zz ?_;refine Cn ?_ ?_<;>intro hc2
 ·have hlt:k<a.refs.length:=by have:=aQA hc2;omega
  obtain ⟨x,hx⟩:=aU hlt;obtain ⟨y,hy⟩:=aU (l:=b.refs) (k:=k) (by omega);have hi:=cI (f:=encStr) hx;have hi2:=cI (f:=encStr) hy;refine aC<|Sq<|aF<|Sq<|aO follows<|Cq (aT dT)<|Cq (bF aG)<|Cq aE<|Cq (mR cC)<|Cq (iN isAgg9)<|Cq (aT dT)<|Cq (bF aG)<|Cq aE<|Cq (mR cC)<|Cq (iN isAgg9)<|Cq JI<|bM<|Kr ?_;refine Cn ?_ ?_<;>intro hc3
  ·have ht:JG x y=false:=by
    have h:(!JG x y)=true:=hc3
    simpa using h
   refine Sr<|Dd aM<|Zz<|aB<|Rt ?_;exact⟨by rw[XM hx hy ht];rfl,rfl⟩
  have ht:JG x y=true:=by
   have h:(!JG x y)=false:=hc3
   simpa using h
  refine aC<|Rg<|Dd aE<|Dd mV<|Da ?_;refine⟨k+1,⟨by omega,fun j hj x' y' h1 h2=>?_⟩,by omega,Wk⟩;by_cases e:j=k
  ·subst e;rw[hx]at h1;rw[hy]at h2;cases h1;cases h2;exact ht
  exact hall j (by omega) x' y' h1 h2
 have hge:k=a.refs.length:=by have:=aQB hc2;omega
 subst hge;rw[RW hl1 hall,Bool.true_and];refine aW<|Sq<|Sr<|Dd aM<|Zz<|aF ?_;refine bJ (σ:=Nat) (fun k=>([(2,.ref 2 0 0 0),(3,.ref 3 0 0 0),(6,iv (k:Int))],[(3,bx 6 151 ((bW b).map .pv)),(2,bx 6 151 ((bW a).map .pv))])) (fun k=>k<=a.tags.length/\∀j,j<k->∀x y,a.tags[j]?=some x->b.tags[j]?=some y->tL x y=true) (fun k=>a.tags.length - k) 0 ⟨by omega,by omega⟩ ?_ ?_
 ·exact Wk
 rintro k ⟨hk,hall2⟩;refine Sq<|Sr<|Dd aE<|Dd (aT fB)<|Dd (bF cS)<|Dd (fM cZ)<|Dd cW<|Zz ?_;refine Cn ?_ ?_<;>intro hc4
 ·have hlt:k<a.tags.length:=by have:=aQA hc4;omega
  obtain ⟨x,hx⟩:=aU hlt;obtain ⟨y,hy⟩:=aU (l:=b.tags) (k:=k) (by omega);have hi:=cI (f:=bQ) hx;have hi2:=cI (f:=bQ) hy;refine aC<|Sq<|aF<|Sq<|aO follows<|Cq (aT fB)<|Cq (bF cS)<|Cq aE<|Cq (mR kH)<|Cq (by exact dP rfl uI kJ rfl (by omega) (by simp only[Zl,bQ,bW,encStr];rfl) rfl)<|Cq (aT fB)<|Cq (bF cS)<|Cq aE<|Cq (mR kH)<|Cq (by exact dP rfl uI kJ rfl (by omega) (by simp only[Zl,bQ,bW,encStr];rfl) rfl)<|Cq (by exact yW rfl rfl rfl rfl rfl eqGuardType199 (aJi _ _ _ _))<|bM<|Kr ?_;refine Cn ?_ ?_<;>intro hc5
  ·have ht:tL x y=false:=by
    have h:(!tL x y)=true:=hc5
    simpa using h
   refine Sr<|Dd aM<|Zz<|aB<|Rt ?_;exact⟨by rw[XM hx hy ht],rfl⟩
  have ht:tL x y=true:=by
   have h:(!tL x y)=false:=hc5
   simpa using h
  refine aC<|Rg<|Dd aE<|Dd mV<|Da ?_;refine⟨k+1,⟨by omega,fun j hj x' y' h1 h2=>?_⟩,by omega,Wk⟩;by_cases e:j=k
  ·subst e;rw[hx]at h1;rw[hy]at h2;cases h1;cases h2;exact ht
  exact hall2 j (by omega) x' y' h1 h2
 have hge:k=a.tags.length:=by have:=aQB hc4;omega
 subst hge;refine aW<|Sr<|Dd aM<|Zz<|aB<|Rt ?_;exact⟨by rw[RW hl2 hall2],rfl⟩
theorem aDA(a b:GObj):IK a b=qZ a b:=by rw[Bool.eq_iff_iff,aAL,A2]
theorem aBI(a b:GObj)(H:aH)(ha:a.refs.length<4611686018427387904)(ha2:a.tags.length<4611686018427387904):aI Tryz.prog 179 [av (bW a),av (bW b)] H (fun r H'=>r=bv (qZ a b)/\H'=H):=by rw[<-aDA];exact aE0 a b H ha ha2
def raw(e:GEdit)(s:ByteArray):Prop:=s=e.id\/s=e.other\/s=e.node\/s=e.obj.id\/s∈e.refs\/s∈e.obj.refs
def rb(b:GEdit):Bool:=((((((!decide (b.id=sNil)||!decide (b.other=sNil))||!decide (b.node=sNil))||!(decide (b.x=0)&&decide (b.y=0)))||!decide (b.key=sNil))||!decide (b.val=sNil))||decide ((0:Int)<((b.refs.map encStr).length:Int)))||!qZ b.obj zObj
theorem EL(b:GEdit):rb b=false↔(b.id=sNil/\b.other=sNil/\b.node=sNil/\(b.x=0/\b.y=0)/\b.key=sNil/\b.val=sNil/\b.refs=[]/\b.obj=zObj):=by
 have hr:decide ((0:Int)<((b.refs.map encStr).length:Int))=false↔b.refs=[]:=by
  rw[aQM,aQE];constructor
  ·intro h;exact List.eq_nil_of_length_eq_zero (by omega)
  intro h;rw[h];simp
 simp only[rb,aQ0,Bool.not_eq_false',aQN,aQL,hr,A2];constructor
 ·rintro⟨⟨⟨⟨⟨⟨⟨a,b⟩,c⟩,d⟩,e⟩,f⟩,g⟩,i⟩;exact⟨a,b,c,d,e,f,g,i⟩
 rintro⟨a,b,c,d,e,f,g,i⟩;exact⟨⟨⟨⟨⟨⟨⟨a,b⟩,c⟩,d⟩,e⟩,f⟩,g⟩,i⟩
theorem qS(x y:Int):onP x y=TZ x y:=by rw[Bool.eq_iff_iff];simp only[onP,TZ,aQN,aQL];omega
theorem vI:(sNil.size:Int)<=200:=by decide
def aG0(e:GEdit):GEdit:=⟨e.op,e.id,e.other,e.node,e.x,e.y,e.key,e.val,e.refs,zObj⟩
theorem ed1(e:GEdit)(ho:e.op=1):dU e=(!rb (aG0 e)&&lV e.obj):=by
 obtain ⟨op,id,other,node,x,y,key,val,refs,obj⟩:=e;simp only at ho;subst ho;have hb:=EL (aG0 ⟨1,id,other,node,x,y,key,val,refs,obj⟩);rw[Bool.eq_iff_iff];simp only[aG0]at hb |-;simp only[dU,aQN,aQX,hb,nV,qS,rI,DY];simp only[Int.reduceEq,if_true,if_false,reduceIte,Int.reduceLE,decide_true,GEdit.mk.injEq,true_and,and_true,List.all_cons,List.all_nil,Bool.and_true,aQN,qS,aQL,aQX,aQ0,aQM,aQE,eq_comm (a:=sNil),eq_comm (a:=(0:Int)),eq_comm (a:=zObj),eq_comm (a:=([]:List ByteArray))];constructor
 ·intro h;have hs:=vI
  simp_all
  try omega
 intro h
 simp_all
 try omega
def aGZ(e:GEdit):GEdit:=⟨e.op,sNil,e.other,e.node,0,0,e.key,e.val,e.refs,e.obj⟩
theorem ed2(e:GEdit)(ho:e.op=2):dU e=(!rb (aGZ e)&&([e.id].all bT&&(decide ((e.val.size:Int)<=200)&&TZ e.x e.y))):=by
 obtain ⟨op,id,other,node,x,y,key,val,refs,obj⟩:=e;simp only at ho;subst ho;have hb:=EL (aGZ ⟨2,id,other,node,x,y,key,val,refs,obj⟩);rw[Bool.eq_iff_iff];simp only[aGZ]at hb |-;simp only[dU,aQN,aQX,hb,nV,qS,rI,DY];simp only[Int.reduceEq,if_true,if_false,reduceIte,Int.reduceLE,decide_true,GEdit.mk.injEq,true_and,and_true,List.all_cons,List.all_nil,Bool.and_true,aQN,qS,aQL,aQX,aQ0,aQM,aQE,eq_comm (a:=sNil),eq_comm (a:=(0:Int)),eq_comm (a:=zObj),eq_comm (a:=([]:List ByteArray))];constructor
 ·intro h;have hs:=vI
  simp_all
  try omega
 intro h
 simp_all
 try omega
def aGY(e:GEdit):GEdit:=⟨e.op,sNil,e.other,e.node,e.x,e.y,sNil,sNil,e.refs,e.obj⟩
theorem ed3(e:GEdit)(ho:e.op=3):dU e=(!rb (aGY e)&&([e.id,e.key].all bT&&decide ((e.val.size:Int)<=200))):=by
 obtain ⟨op,id,other,node,x,y,key,val,refs,obj⟩:=e;simp only at ho;subst ho;have hb:=EL (aGY ⟨3,id,other,node,x,y,key,val,refs,obj⟩);rw[Bool.eq_iff_iff];simp only[aGY]at hb |-;simp only[dU,aQN,aQX,hb,nV,qS,rI,DY];simp only[Int.reduceEq,if_true,if_false,reduceIte,Int.reduceLE,decide_true,GEdit.mk.injEq,true_and,and_true,List.all_cons,List.all_nil,Bool.and_true,aQN,qS,aQL,aQX,aQ0,aQM,aQE,eq_comm (a:=sNil),eq_comm (a:=(0:Int)),eq_comm (a:=zObj),eq_comm (a:=([]:List ByteArray))];constructor
 ·intro h;have hs:=vI
  simp_all
  try omega
 intro h
 simp_all
 try omega
def aGX(e:GEdit):GEdit:=⟨e.op,sNil,e.other,e.node,e.x,e.y,e.key,e.val,[],e.obj⟩
theorem ed4(e:GEdit)(ho:e.op=4):dU e=(!rb (aGX e)&&((e.id::e.refs).all bT&&(!(decide (((e.refs.map encStr).length:Int)<1)||decide (2000<((e.refs.map encStr).length:Int)))&&decide ((e.val.size:Int)<=200)))):=by
 obtain ⟨op,id,other,node,x,y,key,val,refs,obj⟩:=e;simp only at ho;subst ho;have hb:=EL (aGX ⟨4,id,other,node,x,y,key,val,refs,obj⟩);rw[Bool.eq_iff_iff];simp only[aGX]at hb |-;simp only[dU,aQN,aQX,hb,nV,qS,rI,DY];simp only[Int.reduceEq,if_true,if_false,reduceIte,Int.reduceLE,decide_true,GEdit.mk.injEq,true_and,and_true,List.all_cons,List.all_nil,Bool.and_true,aQN,qS,aQL,aQX,aQ0,aQM,aQE,eq_comm (a:=sNil),eq_comm (a:=(0:Int)),eq_comm (a:=zObj),eq_comm (a:=([]:List ByteArray))];constructor
 ·intro h;have hs:=vI
  simp_all
  try omega
 intro h
 simp_all
 try omega
def aGW(e:GEdit):GEdit:=⟨e.op,sNil,e.other,e.node,e.x,e.y,e.key,e.val,e.refs,e.obj⟩
theorem ed5(e:GEdit)(ho:e.op=5):dU e=(!rb (aGW e)&&([e.id].all bT&&decide ((e.val.size:Int)<=200))):=by
 obtain ⟨op,id,other,node,x,y,key,val,refs,obj⟩:=e;simp only at ho;subst ho;have hb:=EL (aGW ⟨5,id,other,node,x,y,key,val,refs,obj⟩);rw[Bool.eq_iff_iff];simp only[aGW]at hb |-;simp only[dU,aQN,aQX,hb,nV,qS,rI,DY];simp only[Int.reduceEq,if_true,if_false,reduceIte,Int.reduceLE,decide_true,GEdit.mk.injEq,true_and,and_true,List.all_cons,List.all_nil,Bool.and_true,aQN,qS,aQL,aQX,aQ0,aQM,aQE,eq_comm (a:=sNil),eq_comm (a:=(0:Int)),eq_comm (a:=zObj),eq_comm (a:=([]:List ByteArray))];constructor
 ·intro h;have hs:=vI
  simp_all
  try omega
 intro h
 simp_all
 try omega
def aGV(e:GEdit):GEdit:=⟨e.op,sNil,sNil,sNil,e.x,e.y,e.key,e.val,e.refs,e.obj⟩
theorem ed6(e:GEdit)(ho:e.op=6):dU e=(!rb (aGV e)&&([e.id,e.node,e.other].all bT&&decide ((e.val.size:Int)<=200))):=by
 obtain ⟨op,id,other,node,x,y,key,val,refs,obj⟩:=e;simp only at ho;subst ho;have hb:=EL (aGV ⟨6,id,other,node,x,y,key,val,refs,obj⟩);rw[Bool.eq_iff_iff];simp only[aGV]at hb |-;simp only[dU,aQN,aQX,hb,nV,qS,rI,DY];simp only[Int.reduceEq,if_true,if_false,reduceIte,Int.reduceLE,decide_true,GEdit.mk.injEq,true_and,and_true,List.all_cons,List.all_nil,Bool.and_true,aQN,qS,aQL,aQX,aQ0,aQM,aQE,eq_comm (a:=sNil),eq_comm (a:=(0:Int)),eq_comm (a:=zObj),eq_comm (a:=([]:List ByteArray))];constructor
 ·intro h;have hs:=vI
  simp_all
  try omega
 intro h
 simp_all
 try omega
def aGU(e:GEdit):GEdit:=⟨e.op,sNil,sNil,e.node,e.x,e.y,e.key,e.val,e.refs,e.obj⟩
theorem ed7(e:GEdit)(ho:e.op=7):dU e=(!rb (aGU e)&&([e.id,e.other].all bT&&decide ((e.val.size:Int)<=200))):=by
 obtain ⟨op,id,other,node,x,y,key,val,refs,obj⟩:=e;simp only at ho;subst ho;have hb:=EL (aGU ⟨7,id,other,node,x,y,key,val,refs,obj⟩);rw[Bool.eq_iff_iff];simp only[aGU]at hb |-;simp only[dU,aQN,aQX,hb,nV,qS,rI,DY];simp only[Int.reduceEq,if_true,if_false,reduceIte,Int.reduceLE,decide_true,GEdit.mk.injEq,true_and,and_true,List.all_cons,List.all_nil,Bool.and_true,aQN,qS,aQL,aQX,aQ0,aQM,aQE,eq_comm (a:=sNil),eq_comm (a:=(0:Int)),eq_comm (a:=zObj),eq_comm (a:=([]:List ByteArray))];constructor
 ·intro h;have hs:=vI
  simp_all
  try omega
 intro h
 simp_all
 try omega
abbrev nB(l:List ByteArray):List (List AV):=l.map (fun s=>(encStr s).map .pv)
theorem wT(l m:List ByteArray):nB l++(m.map encStr).map (·.map .pv)=nB (l++m):=by rw[<-aBE encStr m,nB,nB,List.map_append]
theorem tV(H:aH)(l:List ByteArray):∀r∈nB l,∀a∈r,Clo H a:=aBg _ _ _
theorem FJ(l:List ByteArray):∀r∈l.map encStr,r.length=1:=fun r hr=>by
 obtain ⟨o,_,rfl⟩:=List.mem_map.1 hr;rfl
def bI(e:GEdit):ByteArray:=if e.op=1 then e.id else sNil
def bB(e:GEdit):GObj:=if e.op=1 then zObj else e.obj
def bX(e:GEdit):Int:=if e.op=2 then 0 else e.x
def bY(e:GEdit):Int:=if e.op=2 then 0 else e.y
def bK(e:GEdit):ByteArray:=if e.op=3 then sNil else e.key
def bV(e:GEdit):ByteArray:=if e.op=3 then sNil else e.val
def bR(e:GEdit):List ByteArray:=if e.op=4 then[]else e.refs
def bN(e:GEdit):ByteArray:=if e.op=6 then sNil else e.node
def bO(e:GEdit):ByteArray:=if(decide (e.op=6)||decide (e.op=7))=true then sNil else e.other
def tP(e:GEdit):GEdit:=⟨e.op,bI e,bO e,bN e,bX e,bY e,bK e,bV e,bR e,bB e⟩
abbrev bE(e:GEdit):Ob:=bx 15 153 ((bA e).map .pv)
def eNo:GEdit:=⟨0,sNil,sNil,sNil,0,0,sNil,sNil,[],zObj⟩
theorem aLx(e:GEdit)(H:aH):aI Tryz.prog 219 [av (bA e)] H (fun r H'=>r=av (bA (tP e))/\H'=H):=by
 refine Pu ?_;rw[tP];obtain ⟨i,hi⟩:∃x,x=bI e:=⟨_,rfl⟩;obtain ⟨b,hb⟩:∃x,x=bB e:=⟨_,rfl⟩;obtain ⟨x,hx⟩:∃x,x=bX e:=⟨_,rfl⟩;obtain ⟨y,hy⟩:∃x,x=bY e:=⟨_,rfl⟩;obtain ⟨k,hk⟩:∃x,x=bK e:=⟨_,rfl⟩;obtain ⟨v,hv⟩:∃x,x=bV e:=⟨_,rfl⟩;obtain ⟨r,hr⟩:∃x,x=bR e:=⟨_,rfl⟩;obtain ⟨n,hn⟩:∃x,x=bN e:=⟨_,rfl⟩;obtain ⟨o,ho⟩:∃x,x=bO e:=⟨_,rfl⟩;rw[<-hi,<-hb,<-hx,<-hy,<-hk,<-hv,<-hr,<-hn,<-ho];refine Bd func219 rfl ntmps219<|Sr<|Dd (by exact cF (id:=1) rfl rfl rfl rfl rfl)<|Dd (by exact bU (id:=2) rfl PX rfl rfl)<|Zz ?_;refine fJ (fun(_:Unit)=>([(1,.ref 1 0 0 0),(2,.ref 2 0 0 0)],[(1,bE ⟨e.op,i,e.other,e.node,e.x,e.y,e.key,e.val,e.refs,b⟩),(2,bE eNo)])) (fun _=>True) ?_ ?_
 ·refine Sr<|Dd (aT gG)<|Dd (bF isAgg3)<|Dd cN<|Zz ?_;refine Cn ?_ ?_<;>intro hc1
  ·have h:=aQA hc1
   (rw[hi,hb,bI,bB,aQD h,aQD h])
   refine Rg<|Dd (rJ R7)<|Dd (aT oG)<|Uu (by exact iY rfl sizeOf151 rfl rfl rfl rfl rfl rfl rfl (aQR rfl) rfl rfl)<|Zz ?_;exact⟨(),trivial,Wk⟩
  have h:=aQB hc1
  (rw[hi,hb,bI,bB,aQC h,aQC h])
  refine Rg<|Dd (aT gX)<|Uu (by exact bG rfl sizeOf9 rfl rfl rfl rfl rfl rfl (aQR rfl) rfl rfl)<|Zz ?_;exact⟨(),trivial,Wk⟩
 rintro _ -;refine fJ (fun(_:Unit)=>([(1,.ref 1 0 0 0),(2,.ref 2 0 0 0)],[(1,bE ⟨e.op,i,e.other,e.node,x,y,e.key,e.val,e.refs,b⟩),(2,bE eNo)])) (fun _=>True) ?_ ?_
 ·refine Sr<|Dd (aT gG)<|Dd (bF isAgg3)<|Dd cN<|Zz ?_;refine Cn ?_ ?_<;>intro hc2
  ·have h:=aQA hc2
   (rw[hx,hy,bX,bY,aQD h,aQD h])
   refine Rg<|Dd (rJ X3)<|Dd (aT gW)<|Uu (by exact iY rfl sizeOf68 rfl rfl rfl rfl rfl rfl rfl (aQR rfl) rfl rfl)<|Zz ?_;exact⟨(),trivial,Wk⟩
  have h:=aQB hc2
  (rw[hx,hy,bX,bY,aQC h,aQC h])
  refine aC ?_;exact⟨(),trivial,Wk⟩
 rintro _ -;refine fJ (fun(_:Unit)=>([(1,.ref 1 0 0 0),(2,.ref 2 0 0 0)],[(1,bE ⟨e.op,i,e.other,e.node,x,y,k,v,e.refs,b⟩),(2,bE eNo)])) (fun _=>True) ?_ ?_
 ·refine Sr<|Dd (aT gG)<|Dd (bF isAgg3)<|Dd cN<|Zz ?_;refine Cn ?_ ?_<;>intro hc3
  ·have h:=aQA hc3
   (rw[hk,hv,bK,bV,aQD h,aQD h])
   refine Sr<|Dd (aT kD)<|Uu (by exact bG rfl sizeOf9 rfl rfl rfl rfl rfl rfl (aQR rfl) rfl rfl)<|Zz<|Rg<|Dd (aT kR)<|Uu (by exact bG rfl sizeOf9 rfl rfl rfl rfl rfl rfl (aQR rfl) rfl rfl)<|Zz ?_;exact⟨(),trivial,Wk⟩
  have h:=aQB hc3
  (rw[hk,hv,bK,bV,aQC h,aQC h])
  refine aC ?_;exact⟨(),trivial,Wk⟩
 rintro _ -;refine fJ (fun(_:Unit)=>([(1,.ref 1 0 0 0),(2,.ref 2 0 0 0)],[(1,bE ⟨e.op,i,e.other,e.node,x,y,k,v,r,b⟩),(2,bE eNo)])) (fun _=>True) ?_ ?_
 ·refine Sr<|Dd (aT gG)<|Dd (bF isAgg3)<|Dd cN<|Zz ?_;refine Cn ?_ ?_<;>intro hc4
  ·have h:=aQA hc4
   (rw[hr,bR,aQD h])
   refine Rg<|Dd (aT eY)<|Uu (by exact bG rfl sizeOf22 rfl rfl rfl rfl rfl rfl (aQR rfl) rfl rfl)<|Zz ?_;exact⟨(),trivial,Wk⟩
  have h:=aQB hc4
  (rw[hr,bR,aQC h])
  refine aC ?_;exact⟨(),trivial,Wk⟩
 rintro _ -;refine fJ (fun(_:Unit)=>([(1,.ref 1 0 0 0),(2,.ref 2 0 0 0)],[(1,bE ⟨e.op,i,e.other,n,x,y,k,v,r,b⟩),(2,bE eNo)])) (fun _=>True) ?_ ?_
 ·refine Sr<|Dd (aT gG)<|Dd (bF isAgg3)<|Dd cN<|Zz ?_;refine Cn ?_ ?_<;>intro hc5
  ·have h:=aQA hc5
   (rw[hn,bN,aQD h])
   refine Rg<|Dd (aT mH)<|Uu (by exact bG rfl sizeOf9 rfl rfl rfl rfl rfl rfl (aQR rfl) rfl rfl)<|Zz ?_;exact⟨(),trivial,Wk⟩
  have h:=aQB hc5
  (rw[hn,bN,aQC h])
  refine aC ?_;exact⟨(),trivial,Wk⟩
 rintro _ -;refine fJ (fun(_:Unit)=>([(1,.ref 1 0 0 0),(2,.ref 2 0 0 0)],[(1,bE ⟨e.op,i,o,n,x,y,k,v,r,b⟩),(2,bE eNo)])) (fun _=>True) ?_ ?_
 ·refine Sq ?_;refine aY (t:=34) (n:=9) (X:=decide (e.op=6)||decide (e.op=7)) ?_ ?_
  ·all_goals refine Dd (aT gG) ?_
   all_goals refine Dd (bF isAgg3)<|Dd cN<|Dm ?_
   all_goals refine Sp 30 (fun h30=>?_) fun h30=>?_
   all_goals try contradiction
   all_goals first|refine Fo<|Fo<|Fo ?_|refine On (aT gG)<|On (bF isAgg3)<|On cN ?_
   all_goals refine Dd cH<|Zz ?_
   all_goals(exact⟨⟨_,rfl,by(simp only[*,Zo];done)⟩,rfl,rfl,rfl⟩)
  refine Cn ?_ ?_<;>intro hc6
  ·have h:=hc6;rw[ho,bO,aQD h];refine Rg<|Dd (aT iC)<|Uu (by exact bG rfl sizeOf9 rfl rfl rfl rfl rfl rfl (aQR rfl) rfl rfl)<|Zz ?_;exact⟨(),trivial,Wk⟩
  have h:=hc6;rw[ho,bO,aQC (by rw[h];decide)];refine aC ?_;exact⟨(),trivial,Wk⟩
 rintro _ -;refine Sr<|Dd (mD cE bC)<|Uu (jN bC)<|Zz<|aB ?_;refine dV (H':=[]) (.inr rfl) rfl (ZB cE bC) (Fin.wk (r:=av (bA ⟨e.op,i,o,n,x,y,k,v,r,b⟩)) (by simp) trivial trivial) ?_;exact Qq
def Q1(e:GEdit):List ByteArray:=if e.op=3 then[e.id]++[e.key]else[e.id]
def TL(e:GEdit):List ByteArray:=if e.op=4 then Q1 e++e.refs else Q1 e
def U0(e:GEdit):List ByteArray:=if e.op=6 then TL e++[e.node]else TL e
def nm4(e:GEdit):List ByteArray:=if(decide (e.op=6)||decide (e.op=7))=true then U0 e++[e.other]else U0 e
def aNs(e:GEdit):Bool:=decide (((e.refs.map encStr).length:Int)<1)||decide (2000<((e.refs.map encStr).length:Int))
def vG(e:GEdit):Bool:=!rb (tP e)&&(if e.op=1 then lV e.obj else(nm4 e).all bT&&(!(decide (e.op=4)&&aNs e)&&(decide ((e.val.size:Int)<=200)&&(!decide (e.op=2)||TZ e.x e.y))))
theorem aMd(e:GEdit)(h:1<=e.op/\e.op<=7):dU e=vG e:=by
 obtain ⟨op,id,other,node,x,y,key,val,refs,obj⟩:=e;simp only at h;rcases(by omega:op=1\/op=2\/op=3\/op=4\/op=5\/op=6\/op=7)with rfl|rfl|rfl|rfl|rfl|rfl|rfl
 ·rw[ed1 _ rfl];rfl
 ·rw[ed2 _ rfl];rfl
 ·rw[ed3 _ rfl,vG];show _=(_&&(_&&(true&&(_&&true))));rw[Bool.and_true,Bool.true_and];rfl
 ·rw[ed4 _ rfl,vG];show _=(_&&(_&&(!(true&&_)&&(_&&true))));rw[Bool.and_true,Bool.true_and];rfl
 ·rw[ed5 _ rfl,vG];show _=(_&&(_&&(true&&(_&&true))));rw[Bool.and_true,Bool.true_and];rfl
 ·rw[ed6 _ rfl,vG];show _=(_&&(_&&(true&&(_&&true))));rw[Bool.and_true,Bool.true_and];rfl
 rw[ed7 _ rfl,vG];show _=(_&&(_&&(true&&(_&&true))));rw[Bool.and_true,Bool.true_and];rfl
theorem aBR(e:GEdit):(nm4 e).length<=e.refs.length+5:=by
 rw[nm4,U0,TL,Q1]
 repeat' split
 all_goals simp only[aQF,aQG,List.length_nil];omega
theorem aI1(e:GEdit):(Q1 e).length<=e.refs.length+5:=by
 rw[Q1]
 split<;>(simp only[aQF,aQG,List.length_nil];omega)
theorem aI0(e:GEdit):(TL e).length<=e.refs.length+5:=by
 rw[TL,Q1]
 repeat' split
 all_goals simp only[aQF,aQG,List.length_nil];omega
theorem aIZ(e:GEdit):(U0 e).length<=e.refs.length+5:=by
 rw[U0,TL,Q1]
 repeat' split
 all_goals simp only[aQF,aQG,List.length_nil];omega
theorem GC{P:α->Prop}{p:Prop}[Decidable p]{a b:List α}(ha:∀s∈a,P s)(hb:∀s∈b,P s):∀s∈(if p then a else b),P s:=by
 split
 ·exact ha
 exact hb
theorem GD{P:α->Prop}{a b:List α}(ha:∀s∈a,P s)(hb:∀s∈b,P s):∀s∈a++b,P s:=fun s hs=>(List.mem_append.1 hs).elim (ha s) (hb s)
theorem CE{P:α->Prop}{a:α}(h:P a):∀s∈[a],P s:=fun s hs=>by
 rw[aQH.1 hs];exact h
theorem aIX{e:GEdit}(he:M0 e):∀s∈nm4 e,s.size<4611686018427387904:=by obtain ⟨⟨h1,h2,h3,h4⟩,⟨h5,h6⟩,h7⟩:=he;have m1:∀s∈Q1 e,s.size<4611686018427387904:=GC (GD (CE h1) (CE h4)) (CE h1);have m2:∀s∈TL e,s.size<4611686018427387904:=GC (GD m1 h6) m1;have m3:∀s∈U0 e,s.size<4611686018427387904:=GC (GD m2 (CE h3)) m2;exact GC (GD m3 (CE h2)) m3
def nm0(e:GEdit):List ByteArray:=[e.id]
theorem aC3(e:GEdit)(H:aH)(he:M0 e)(hr:e.refs.length<1099511627776):aI Tryz.prog 183 [av (bA e)] H (fun r H'=>r=bv (dU e)/\H'=H):=by
 refine Pu ?_;have hnm:=aIX he;have hnl:=aBR e;have hrl:(e.refs.map encStr).length=e.refs.length:=aQE _;have hbo:(tP e).obj.refs.length<4611686018427387904/\(tP e).obj.tags.length<4611686018427387904:=by
  show (bB e).refs.length<_/\(bB e).tags.length<_;rw[bB]
  split
  ·exact⟨by decide,by decide⟩
  exact⟨he.2.2.2.2.1,he.2.2.2.1.1⟩
 refine Bd func183 rfl ntmps183<|Sr<|Dd (by exact cF (id:=1) rfl rfl rfl rfl rfl)<|Dd aM<|Zz<|Sq<|Sq ?_;refine aY (t:=13) (n:=9) (X:=decide (e.op<1)||decide (7<e.op)) ?_ ?_
 ·all_goals refine Dd (aT gG) ?_
  all_goals refine Dd (bF isAgg3)<|Dd cW<|Dm ?_
  all_goals refine Sp 9 (fun h9=>?_) fun h9=>?_
  all_goals try contradiction
  all_goals first|refine Fo<|Fo<|Fo ?_|refine On (aT gG)<|On (bF isAgg3)<|On iG ?_
  all_goals refine Dd cH<|Zz ?_
  all_goals(exact⟨⟨_,rfl,by(rw[h9];rfl)⟩,rfl,rfl,rfl⟩)
 refine Cn ?_ ?_<;>intro hc1
 ·have h:=hc1;have hs:dU e=false:=by
   simp only[Bool.or_eq_true,aQL]at h;rw[dU,Bool.and_eq_false_iff,Bool.and_eq_false_iff,aQM,aQM];omega
  rw[hs];exact Sr<|Dd aM<|Zz<|aB<|Rt<|Qq
 have h:=hc1;simp only[aQ0,aQM]at h;rw[aMd e (by omega),vG];have hrb:rb (tP e)=(((((((!decide ((tP e).id=sNil)||!decide ((tP e).other=sNil))||!decide ((tP e).node=sNil))||!(decide ((tP e).x=0)&&decide ((tP e).y=0)))||!decide ((tP e).key=sNil))||!decide ((tP e).val=sNil))||decide ((0:Int)<(((tP e).refs.map encStr).length:Int)))||!qZ (tP e).obj zObj):=rfl;have hbc:=fun H=>aLx e H;obtain ⟨G,hG⟩:∃G,G=tP e:=⟨_,rfl⟩;simp only[<-hG]at hrb hbo hbc;rw[<-hG];clear hG;obtain ⟨g0,g1,g2,g3,g4,g5,g6,g7,g8,g9⟩:=G;simp only at hrb hbo;refine aC<|Sr<|Dd (by exact aN rfl cE bC rfl rfl rfl rfl (by simp only[Zl,bQ,bW,encStr,bA,zObj];rfl) rfl)<|Dd (by exact aA rfl rfl call219 rfl (hbc _))<|Dd (by exact bU (id:=3) rfl PX rfl rfl)<|Uu (jN bC)<|Zz<|Sq<|Sq ?_;refine aY (t:=57) (n:=49) (X:=rb ⟨g0,g1,g2,g3,g4,g5,g6,g7,g8,g9⟩) ?_ ?_
 ·all_goals refine Dd (aT gX) ?_
  all_goals refine Dd (bF isAgg9)<|Dd JI<|Dm ?_
  all_goals refine Sp 19 (fun h19=>?_) fun h19=>?_
  all_goals(try(with_reducible contradiction))
  all_goals first|refine Fo<|Fo<|Fo ?_|refine On (aT iC)<|On (bF isAgg9)<|On JI ?_
  all_goals refine Dd cH<|Dm ?_
  all_goals refine Sp 24 (fun h24=>?_) fun h24=>?_
  all_goals(try(with_reducible contradiction))
  all_goals first|refine Fo<|Fo<|Fo ?_|refine On (aT mH)<|On (bF isAgg9)<|On JI ?_
  all_goals refine Dd cH<|Dm ?_
  all_goals refine Sp 29 (fun h29=>?_) fun h29=>?_
  all_goals(try(with_reducible contradiction))
  all_goals first|refine Fo<|Fo<|Fo<|Fo ?_|refine On (aT gW)<|On (by exact aN rfl dS sizeOf68 rfl rfl rfl rfl (by simp only[Zl,bQ,bW,encStr,bA,zObj];rfl) rfl)<|On (rJ X3)<|On (by exact yW rfl rfl rfl rfl rfl iF (SZ _ _ _ _)) ?_
  all_goals refine Dd cH<|Dm ?_
  all_goals refine Sp 35 (fun h35=>?_) fun h35=>?_
  all_goals(try(with_reducible contradiction))
  all_goals first|refine Fo<|Fo<|Fo ?_|refine On (aT kD)<|On (bF isAgg9)<|On JI ?_
  all_goals refine Dd cH<|Dm ?_
  all_goals refine Sp 40 (fun h40=>?_) fun h40=>?_
  all_goals(try(with_reducible contradiction))
  all_goals first|refine Fo<|Fo<|Fo ?_|refine On (aT kR)<|On (bF isAgg9)<|On JI ?_
  all_goals refine Dd cH<|Dm ?_
  all_goals refine Sp 45 (fun h45=>?_) fun h45=>?_
  all_goals(try(with_reducible contradiction))
  all_goals first|refine Fo<|Fo<|Fo<|Fo ?_|refine On (aT eY)<|On (bF aG)<|On (fM aD)<|On iG ?_
  all_goals refine Dd cH<|Dm ?_
  all_goals refine Sp 51 (fun h51=>?_) fun h51=>?_
  all_goals(try(with_reducible contradiction))
  all_goals first|refine Fo<|Fo<|Fo<|Fo<|Fo ?_|refine On (aT oG)<|On (by exact aN rfl dA sizeOf151 rfl rfl rfl rfl (by simp only[Zl,bQ,bW,encStr,bA,zObj];rfl) rfl)<|On (rJ R7)<|On (by exact aA rfl rfl call179 rfl (aBI g9 zObj _ hbo.1 hbo.2))<|On iS ?_
  all_goals refine Dd cH<|Zz ?_
  all_goals(exact⟨⟨_,rfl,by rw[hrb];first|(rw[h19];rfl)|(rw[h19,h24];rfl)|(rw[h19,h24,h29];rfl)|(rw[h19,h24,h29,h35];rfl)|(rw[h19,h24,h29,h35,h40];rfl)|(rw[h19,h24,h29,h35,h40,h45];rfl)|(rw[h19,h24,h29,h35,h40,h45,h51];rfl)⟩,rfl,rfl,rfl⟩)
 refine Cn ?_ ?_<;>intro hc2
 ·have h2:=hc2;rw[h2,Bool.not_true,Bool.false_and];exact Sr<|Dd aM<|Zz<|aB<|Rt<|Qq
 have h2:=hc2;rw[h2,Bool.not_false,Bool.true_and];clear hrb hbo h2;refine aC<|Sq<|Sr<|Dd (aT gG)<|Dd (bF isAgg3)<|Dd cN<|Zz ?_;refine Cn ?_ ?_<;>intro hc3
 ·have h3:e.op=1:=aQA hc3;rw[aQD h3];exact Sr<|Dd (aT oG)<|Dd (by exact aN rfl dA sizeOf151 rfl rfl rfl rfl (by simp only[Zl,bQ,bW,encStr,bA,zObj];rfl) rfl)<|Dd (by exact aA rfl rfl call220 rfl (aEa e.obj _ he.2.2))<|Dd aM<|Zz<|aB<|Rt<|Qq
 have h3:¬ e.op=1:=aQB hc3;rw[aQC h3];refine aC<|Sr<|Dd (aT gX)<|Dd (bF isAgg9)<|Dd (by exact fT (id:=66) rfl cC rfl rfl rfl rfl (by simp) rfl)<|Da ?_;refine fJ (fun(g:Nat)=>([(1,.ref 1 0 0 0),(4,.osl 66 g 0 (Q1 e).length)],[(1,bE e),(66,⟨g,1,9,nB (Q1 e)⟩)])) (fun _=>True) ?_ ?_
 ·refine Sr<|Dd (aT gG)<|Dd (bF isAgg3)<|Dd cN<|Zz ?_;refine Cn ?_ ?_<;>intro hc4
  ·have h:=aQA hc4;have hm:Q1 e=nm0 e++[e.key]:=aQD h;have hl:(nm0 e).length+([e.key]).length=(nm0 e++[e.key]).length:=aQF.symm;have hb:(nm0 e++[e.key]).length<8796093022208:=by rw[<-hm];have:=aI1 e;omega
   rw[hm];refine Rg<|Dd aE<|Dd (aT kD)<|Dd (bF isAgg9)<|Dd (by exact aQ [encStr e.key] rfl cC rfl rfl rfl rfl rfl (by simp[encStr]))<|Dd (by exact cJ (ps:=([e.key]).map encStr) rfl cC xI rfl rfl rfl rfl rfl (show (nB (nm0 e)).length=(nm0 e).length from aQE _) rfl (FJ _) (m:=([e.key]).length) (aQE _) (by omega) hl (wT (nm0 e) [e.key]))<|Da ?_;exact⟨0+1,trivial,(cX.wk (Ea<|Ea<|trivial) (Hb<|Hc (tV _ _)<|trivial) trivial)⟩
  have h:=hc4;have hm:Q1 e=nm0 e:=aQC (by exact aQB h);rw[hm];refine aC ?_;exact⟨0,trivial,Wk⟩
 rintro g -;refine fJ (fun(g:Nat)=>([(1,.ref 1 0 0 0),(4,.osl 66 g 0 (TL e).length)],[(1,bE e),(66,⟨g,1,9,nB (TL e)⟩)])) (fun _=>True) ?_ ?_
 ·refine Sr<|Dd (aT gG)<|Dd (bF isAgg3)<|Dd cN<|Zz ?_;refine Cn ?_ ?_<;>intro hc5
  ·have h:=aQA hc5;have hm:TL e=Q1 e++e.refs:=aQD h;have hl:(Q1 e).length+(e.refs).length=(Q1 e++e.refs).length:=aQF.symm;have hb:(Q1 e++e.refs).length<8796093022208:=by rw[<-hm];have:=aI0 e;omega
   rw[hm];refine Rg<|Dd aE<|Dd (aT eY)<|Dd (bF aG)<|Dd (by exact cJ (ps:=(e.refs).map encStr) rfl cC xI rfl rfl rfl rfl rfl (show (nB (Q1 e)).length=(Q1 e).length from aQE _) rfl (FJ _) (m:=(e.refs).length) (aQE _) (by omega) hl (wT (Q1 e) e.refs))<|Da ?_;exact⟨g+1,trivial,(cX.wk (Ea<|Ea<|trivial) (Hb<|Hc (tV _ _)<|trivial) trivial)⟩
  have h:=hc5;have hm:TL e=Q1 e:=aQC (by exact aQB h);rw[hm];refine aC ?_;exact⟨g,trivial,Wk⟩
 rintro g -;refine fJ (fun(g:Nat)=>([(1,.ref 1 0 0 0),(4,.osl 66 g 0 (U0 e).length)],[(1,bE e),(66,⟨g,1,9,nB (U0 e)⟩)])) (fun _=>True) ?_ ?_
 ·refine Sr<|Dd (aT gG)<|Dd (bF isAgg3)<|Dd cN<|Zz ?_;refine Cn ?_ ?_<;>intro hc6
  ·have h:=aQA hc6;have hm:U0 e=TL e++[e.node]:=aQD h;have hl:(TL e).length+([e.node]).length=(TL e++[e.node]).length:=aQF.symm;have hb:(TL e++[e.node]).length<8796093022208:=by rw[<-hm];have:=aIZ e;omega
   rw[hm];refine Rg<|Dd aE<|Dd (aT mH)<|Dd (bF isAgg9)<|Dd (by exact aQ [encStr e.node] rfl cC rfl rfl rfl rfl rfl (by simp[encStr]))<|Dd (by exact cJ (ps:=([e.node]).map encStr) rfl cC xI rfl rfl rfl rfl rfl (show (nB (TL e)).length=(TL e).length from aQE _) rfl (FJ _) (m:=([e.node]).length) (aQE _) (by omega) hl (wT (TL e) [e.node]))<|Da ?_;exact⟨g+1,trivial,(cX.wk (Ea<|Ea<|trivial) (Hb<|Hc (tV _ _)<|trivial) trivial)⟩
  have h:=hc6;have hm:U0 e=TL e:=aQC (by exact aQB h);rw[hm];refine aC ?_;exact⟨g,trivial,Wk⟩
 rintro g -;refine fJ (fun(g:Nat)=>([(1,.ref 1 0 0 0),(4,.osl 66 g 0 (nm4 e).length)],[(1,bE e),(66,⟨g,1,9,nB (nm4 e)⟩)])) (fun _=>True) ?_ ?_
 ·refine Sq ?_;refine aY (t:=97) (n:=9) (X:=decide (e.op=6)||decide (e.op=7)) ?_ ?_
  ·all_goals refine Dd (aT gG) ?_
   all_goals refine Dd (bF isAgg3)<|Dd cN<|Dm ?_
   all_goals refine Sp 93 (fun h93=>?_) fun h93=>?_
   all_goals(try(with_reducible contradiction))
   all_goals first|refine Fo<|Fo<|Fo ?_|refine On (aT gG)<|On (bF isAgg3)<|On cN ?_
   all_goals refine Dd cH<|Zz ?_
   all_goals(exact⟨⟨_,rfl,by(rw[h93];rfl)⟩,rfl,rfl,rfl⟩)
  refine Cn ?_ ?_<;>intro hc7
  ·have h:=id hc7;have hm:nm4 e=U0 e++[e.other]:=aQD h;have hl:(U0 e).length+([e.other]).length=(U0 e++[e.other]).length:=aQF.symm;have hb:(U0 e++[e.other]).length<8796093022208:=by rw[<-hm];have:=aBR e;omega
   rw[hm];refine Rg<|Dd aE<|Dd (aT iC)<|Dd (bF isAgg9)<|Dd (by exact aQ [encStr e.other] rfl cC rfl rfl rfl rfl rfl (by simp[encStr]))<|Dd (by exact cJ (ps:=([e.other]).map encStr) rfl cC xI rfl rfl rfl rfl rfl (show (nB (U0 e)).length=(U0 e).length from aQE _) rfl (FJ _) (m:=([e.other]).length) (aQE _) (by omega) hl (wT (U0 e) [e.other]))<|Da ?_;exact⟨g+1,trivial,(cX.wk (Ea<|Ea<|trivial) (Hb<|Hc (tV _ _)<|trivial) trivial)⟩
  have h:=hc7;have hm:nm4 e=U0 e:=aQC (by(rw[h];decide));rw[hm];refine aC ?_;exact⟨g,trivial,Wk⟩
 rintro g -;obtain ⟨N,hN⟩:∃N,N=nm4 e:=⟨_,rfl⟩;rw[<-hN]at hnm hnl;rw[<-hN];clear hN;have hNl:(N.map encStr).length=N.length:=aQE _;refine Sq<|Sq ?_;refine gM.ent (cX.fz (id:=66) (E':=[(1,.ref 1 0 0 0),(4,.pv (aZ N))]) (H':=[(1,bE e)]) (N.map encStr) rfl (aBE encStr N)
  (by intro p hp;simp only[aQQ,aQU,or_false]at hp;rcases hp with rfl|rfl;exact⟨_,rfl,.same (.ref rfl)⟩;exact⟨_,rfl,.osl (by rw[aQW,List.drop_zero,<-List.length_map (f:=encStr),List.take_length])⟩) rfl ⟨⟨_,rfl,rfl⟩,(by(simp;done)),trivial⟩ trivial) ?_
 refine Rg<|Dd aM<|Zz<|aF ?_;refine bJ (σ:=Nat) (fun q=>([(1,.ref 1 0 0 0),(4,.pv (aZ N)),(5,iv (q:Int))],[(1,bE e)])) (fun q=>q<=N.length/\∀j,j<q->∀b,N[j]?=some b->(!bT b)=false) (fun q=>N.length - q) 0 ⟨by omega,by omega⟩ ?_ ?_
 ·exact Wk
 rintro q ⟨hq,hno⟩;refine Sq<|Sr<|Dd aE<|Dd aE<|Dd (fM aD)<|Dd cW<|Zz ?_;refine Cn ?_ ?_<;>intro hc8
 ·have hlt:q<N.length:=by have:=aQA hc8;omega
  obtain ⟨s,hs⟩:=aU hlt;have hi:=cI (f:=encStr) hs;refine aC<|Sq<|aF<|Sr<|Dd aE<|Dd aE<|Dd (mR cC)<|Dd (iN isAgg9)<|Dd (by exact aA rfl rfl fX rfl (kB s _ (hnm s (aQO hs))))<|Dd iS<|Zz ?_;refine Cn ?_ ?_<;>intro hc9
  ·have hb:(!bT s)=true:=hc9;have hall:N.all bT=false:=by
    rw[List.all_eq_false];exact⟨s,aQO hs,by simpa using hb⟩
   rw[hall];exact Sr<|Dd aM<|Zz<|aB<|Rt<|Qq
  have hb:(!bT s)=false:=hc9;refine aC<|Rg<|Dd aE<|Dd mV<|Da ?_;exact⟨q+1,⟨by omega,vB hno hs hb⟩,by omega,Wk⟩
 have hge:q=N.length:=by have:=aQB hc8;omega
 subst hge;have hall:N.all bT=true:=by
  rw[List.all_eq_true];intro s hs;obtain ⟨j,hj⟩:=aQZ.1 hs;have:=hno j (aQI.1 hj).1 s hj
  simpa using this
 rw[hall,Bool.true_and,aNs];clear hnm hnl hno hall he;refine aW<|Sq<|Sq ?_;refine aY (t:=129) (n:=17) (X:=decide (e.op=4)&&(decide (((e.refs.map encStr).length:Int)<1)||decide (2000<((e.refs.map encStr).length:Int)))) ?_ ?_
 ·all_goals refine Dd (aT gG) ?_
  all_goals refine Dd (bF isAgg3)<|Dd cN<|Dm ?_
  all_goals refine Sp 118 (fun h118=>?_) fun h118=>?_
  all_goals(try(with_reducible contradiction))
  all_goals first|refine Fo<|Fo<|Fo<|Fo<|Fo ?_|refine On (aT eY)<|On (bF aG)<|On (fM aD)<|On cW<|On aE ?_
  all_goals(first|refine Sp 123 (fun h123=>?_) fun h123=>?_|refine jW (t:=123) rfl ?_)
  all_goals(try(with_reducible contradiction))
  all_goals first|refine Fo ?_|refine Fu ?_|refine On (aT eY) ?_
  all_goals first|refine Fo ?_|refine Fu ?_|refine On (bF aG) ?_
  all_goals first|refine Fo ?_|refine Fu ?_|refine On (fM aD) ?_
  all_goals first|refine Fo ?_|refine Fu ?_|refine On iG ?_
  all_goals first|refine Fo ?_|refine On cH ?_
  all_goals refine Dd cH<|Zz ?_
  all_goals(exact⟨⟨_,rfl,by first|(rw[h118];rfl)|(rw[h118,h123];rfl)⟩,rfl,rfl,rfl⟩)
 refine Cn ?_ ?_<;>intro hc10
 ·have h5:=hc10;rw[h5];exact Sr<|Dd aM<|Zz<|aB<|Rt<|Qq
 have h5:=hc10;rw[h5,Bool.not_false,Bool.true_and];refine aC<|Sq ?_;refine aY (t:=2) (n:=17) (X:=decide ((e.val.size:Int)<=200)&&(!decide (e.op=2)||TZ e.x e.y)) ?_ ?_
 ·all_goals refine Dd (aT kR) ?_
  all_goals refine Dd (bF isAgg9)<|Dd (kG underlying9)<|Dd G9<|Dm ?_
  all_goals refine Sp 134 (fun h134=>?_) fun h134=>?_
  all_goals(try(with_reducible contradiction))
  all_goals first|refine Fo<|Fo<|Fo<|Fo ?_|refine On (aT gG)<|On (bF isAgg3)<|On wM<|On aE ?_
  all_goals(first|refine Sp 138 (fun h138=>?_) fun h138=>?_|refine jW (t:=138) rfl ?_)
  all_goals(try(with_reducible contradiction))
  all_goals first|refine Fo ?_|refine Fu ?_|refine On (aT gW) ?_
  all_goals first|refine Fo ?_|refine Fu ?_|refine On (by exact aN rfl dS sizeOf68 rfl rfl rfl rfl (by simp only[Zl,bQ,bW,encStr,bA,zObj];rfl) rfl) ?_
  all_goals first|refine Fo ?_|refine Fu ?_|refine On (by exact aA rfl rfl aPR rfl (aE9 e.x e.y _)) ?_
  all_goals first|refine Fo ?_|refine On cH ?_
  all_goals refine Dd cH<|Da ?_
  all_goals(exact⟨⟨_,rfl,by first|(rw[h134];rfl)|(rw[h134,h138];rfl)⟩,rfl,rfl,rfl⟩)
 exact aB<|Rt<|Qq
theorem aC4(l:List GEdit)(H:aH)(hl:l.length<1099511627776)(he:∀e∈l,M0 e)(hr:∀e∈l,e.refs.length<1099511627776):aI Tryz.prog 148 [.pv (iO l)] H (fun r H'=>r=bv (kP l)/\H'=H):=by
 refine Pu ?_;have hml:(l.map bA).length=l.length:=aQE _;refine Bd func148 rfl ntmps148<|Sr<|Dd aM<|Zz<|Sq<|Sq ?_;refine aY (t:=11) (n:=9) (X:=decide (((l.map bA).length:Int)<1)||decide (200<((l.map bA).length:Int))) ?_ ?_
 ·all_goals refine Dd aE ?_
  all_goals refine Dd (fM dB)<|Dd cW<|Dm ?_
  all_goals refine Sp 7 (fun h7=>?_) fun h7=>?_
  all_goals try contradiction
  all_goals first|refine Fo<|Fo<|Fo ?_|refine On aE<|On (fM dB)<|On iG ?_
  all_goals refine Dd cH<|Zz ?_
  all_goals(exact⟨⟨_,rfl,by first|(simp_all;done)|(simp_all;omega)⟩,rfl,rfl,rfl⟩)
 refine Cn ?_ ?_<;>intro hc1
 ·have hs:kP l=false:=by
   simp only[Bool.or_eq_true,aQL]at hc1;rw[kP,Bool.and_eq_false_iff,Bool.and_eq_false_iff,aQM,aQM];left;omega
  refine Sr<|Dd aM<|Zz<|aB<|Rt ?_;exact⟨by rw[hs],rfl⟩
 have hs:kP l=!(l.any (fun e=>!dU e)):=by
  simp only[aQ0,aQM]at hc1;rw[kP,decide_eq_true (by omega:(0:Int)<(l.length:Int)),decide_eq_true (by omega:(l.length:Int)<=200)];rfl
 rw[hs];refine aC<|Sq<|Sr<|Dd aM<|Zz<|aF ?_;refine bJ (σ:=Nat) (fun k=>([(0,.pv (iO l)),(3,iv (k:Int))],[])) (fun k=>k<=l.length/\∀j,j<k->∀b,l[j]?=some b->(!dU b)=false) (fun k=>l.length - k) 0 ⟨by omega,by omega⟩ ?_ ?_
 ·exact E0
 rintro k ⟨hk,hno⟩;refine Sq<|Sr<|Dd aE<|Dd aE<|Dd (fM dB)<|Dd cW<|Zz ?_;refine Cn ?_ ?_<;>intro hc2
 ·have hlt:k<l.length:=by have:=aQA hc2;omega
  obtain ⟨e,hx⟩:=aU hlt;have hi:=cI (f:=bA) hx;refine aC<|Sq<|aF<|Sr<|Dd aE<|Dd aE<|Dd (mR SQ)<|Dd (by exact dP rfl cE bC rfl (by omega) (by simp only[Zl,bQ,bW,encStr,bA,zObj];rfl) rfl)<|Dd (by exact aA rfl rfl call183 rfl (aC3 e _ (he e (aQO hx)) (hr e (aQO hx))))<|Dd iS<|Zz ?_;refine Cn ?_ ?_<;>intro hc3
  ·refine Sr<|Dd aM<|Zz<|aB<|Rt ?_;exact⟨by rw[zN hx hc3];rfl,rfl⟩
  refine aC<|Rg<|Dd aE<|Dd mV<|Da ?_;exact⟨k+1,⟨by omega,vB hno hx hc3⟩,by omega,E0⟩
 have hge:k=l.length:=by have:=aQB hc2;omega
 subst hge;refine aW<|Sr<|Dd aM<|Zz<|aB<|Rt ?_;exact⟨by rw[CY hno];rfl,rfl⟩
end Go.Proofs.YtmdicgjnmfolfaaGreatDoor
section
namespace Go.Abs
theorem O9{P:Program}{N:Nat}{o:Oper}{E:dG}{H:aH}{T:TypeId}{t:Tmp}{e:TypeId}{id g off len sz:Nat}{ob:Ob}{row:List AV}{rows':List (List AV)}(ho:o.op=.call {callee:=.builtin .clear,args:=#[.tmp t],argTypes:=#[T]})(hS:fC P T e sz)(hZ:eN P e row)(hrow:row.length=sz)
  (hx:E.get t=some (.osl id g off len)) (hH:H.get id=some ob) (hg:ob.g=g) (hosz:ob.sz=sz) (hoff:off<=ob.rows.length) (hrows:ob.rows.take off++(List.replicate len row++ob.rows.drop (off+len))=rows') :
  cU P N o E H .any ((id,⟨g,sz,ob.ty,rows'⟩)::H):=by
 intro a w I ι h1 h2 hr he K Q hkk;obtain ⟨v,hv,hvr⟩:=he t _ hx;obtain ⟨c,h3,h4,h5⟩:=aBN hr hvr hH hg;refine aCg (x:=.tmp t) (E:=(t,.osc id g off len c)::E) ho hS hZ hrow (dG.get_cons_same _ _ _) hH hg hosz hoff hrows a w I ι h1 h2 hr (fun u x hu=>?_) K Q hkk;by_cases e:t=u
 ·subst e;rw[dG.get_cons_same]at hu;cases hu;exact⟨v,hv,h5⟩
 rw[dG.get_cons_other _ _ e]at hu;exact he u x hu
end Go.Abs
namespace Go.Proofs.YtmdicgjnmfolfaaGreatDoor
open Go.Proofs.Tryz
open Go.Abs
variable{L:List ByteArray}{s:ByteArray}
def iM:List ByteArray->List ByteArray
 | []=>[]
 | [x]=>[x]
 |x::y::r=>if x=y then iM (y::r)else x::iM (y::r)
theorem IT:∀(l:List ByteArray) (x y:ByteArray),iM (l++[x,y])=iM (l++[x])++(if x=y then[]else[y])
 | [],x,y=>by
  show (if x=y then iM [y]else x::iM [y])=[x]++_;by_cases e:x=y
  ·rw[aQD e,aQD e,e];rfl
  rw[aQC e,aQC e];rfl
 | [a],x,y=>by
  show (if a=x then iM [x,y]else a::iM [x,y])=(if a=x then iM [x]else a::iM [x])++_;have:=IT [] x y;rw[show iM [x,y]=iM ([]++[x,y])from rfl,this]
  split<;>rfl
 |a::b::l,x,y=>by
  have:=IT (b::l) x y;show (if a=b then iM ((b::l)++[x,y])else a::iM ((b::l)++[x,y]))=(if a=b then iM ((b::l)++[x])else a::iM ((b::l)++[x]))++_;rw[this]
  split<;>rfl
theorem R2{k:Nat}{x y:ByteArray}(hk:1<=k)(hx:L[k - 1]?=some x)(hy:L[k]?=some y):iM (L.take (k+1))=iM (L.take k)++(if x=y then[]else[y]):=by
 obtain ⟨j,rfl⟩:∃j,k=j+1:=⟨k - 1,by omega⟩;rw[show j+1 - 1=j by omega]at hx;have h1:L.take (j+1)=L.take j++[x]:=by rw[List.take_add_one,hx];rfl
 have h2:L.take (j+1+1)=L.take j++[x,y]:=by rw[List.take_add_one,h1,hy,List.append_assoc];rfl
 rw[h2,h1,IT]
theorem FK{l:List ByteArray}{i:Nat}(h:l[i]?=some s):(tB l)[i]?=some ((encStr s).map .pv):=by rw[aQY,h];rfl
theorem Z7{P:List ByteArray}{j:Nat}(h:P.length<=j)(hs:L[j]?=some s):(P++L.drop P.length)[j]?=some s:=by rw[List.getElem?_append_right h,List.getElem?_drop,show P.length+(j - P.length)=j by omega];exact hs
theorem aAO{H:aH}{id:Nat}{o:Ob}(h:H.get id=some o)(j:Nat):aH.get ((id,o)::H) j=H.get j:=by
 by_cases e:j=id
 ·subst e;rw[get_cons_same,h]
 exact get_cons_other _ _ e
theorem aDN(L:List ByteArray)(g:Nat)(H:aH)(h1:H.get 901=some ⟨g,1,9,tB L⟩)(hl:L.length<1099511627776):
  aI Tryz.prog 68 [.osl 901 g 0 L.length] H (fun r H'=>r=.osl 901 g 0 (iM L).length/\H'=(901,⟨g,1,9,tB (iM L++List.replicate (L.length - (iM L).length) sNil)⟩)::H):=by
 refine Bd func68 rfl ntmps68 ?_;refine gM.ent (E':=[(0,.osl 901 g 0 L.length)]) (H':=(901,⟨g,1,9,tB L⟩)::H) (cX.get' ⟨⟨_,rfl,rfl⟩,trivial⟩ (aAO h1)) ?_;refine Sr<|Dd aM<|Zz<|Sq<|Sr<|Dd aE<|Dd (by exact eG rfl aD rfl rfl rfl)<|Dd cW<|Zz ?_;refine Cn ?_ ?_<;>intro hc1
 ·have hlt:L.length<2:=by have:=aQA hc1;omega
  have hc0:iM L=L:=by
   match L,hlt with
   | [],_=>rfl
   | [a],_=>rfl
  refine Sr<|Dd aE<|Dd aM<|Zz<|aB ?_;refine dV (H':=(901,⟨g,1,9,tB L⟩)::H) (.inr rfl) rfl (aX rfl) Fin.refl ⟨by rw[hc0],by rw[hc0,Nat.sub_self,List.replicate_zero,List.append_nil]⟩
 have hge:2<=L.length:=by have:=aQB hc1;omega
 refine aC<|Sq<|Sr<|Dd aM<|Zz<|aF ?_;refine bJ (σ:=Nat) (fun i=>([(0,.osl 901 g 0 L.length),(3,iv (i:Int))],(901,⟨g,1,9,tB L⟩)::H)) (fun i=>1<=i/\i<=L.length/\iM (L.take i)=L.take i) (fun i=>L.length - i) 1 ⟨by omega,by omega,by
  obtain ⟨x,hx⟩:=aU (l:=L) (k:=0) (by omega);rw[List.take_add_one,hx];rfl⟩ ?_ ?_
 ·exact cX.get' ⟨⟨_,rfl,rfl⟩,⟨_,rfl,rfl⟩,trivial⟩ (fun j=>rfl)
 rintro i ⟨hi1,hi2,hi3⟩;refine Sq<|Sr<|Dd aE<|Dd aE<|Dd (by exact eG rfl aD rfl rfl rfl)<|Dd cW<|Zz ?_;refine Cn ?_ ?_<;>intro hc2
 ·have hil:i<L.length:=by have:=aQA hc2;omega
  obtain ⟨y,hy⟩:=aU hil;obtain ⟨x,hx⟩:=aU (l:=L) (k:=i - 1) (by omega);have ht:=R2 hi1 hx hy;refine aC<|Sq<|aF<|Sq<|aO follows<|Cq aE<|Cq aE<|Cq (by exact dQ rfl cC rfl rfl rfl rfl rfl (by omega) (by exact aQP _) hil (aQW _))<|Cq (by exact aK rfl isAgg9 rfl rfl rfl (FK hy) rfl)<|Cq aE<|Cq aE<|Cq (by exact dX rfl rfl rfl (by exact jM (by omega) (by omega)))<|Cq (by exact dQ (m:=i - 1) rfl cC rfl rfl rfl rfl rfl (by omega) (show ((i:Int) - 1).toNat=i - 1 by omega) (by omega) (aQW _))<|Cq (by exact aK rfl isAgg9 rfl rfl rfl (FK hx) rfl)<|Cq AG<|bM<|Kr ?_;refine Cn ?_ ?_<;>intro hc3
  ·have hyx:=aQA hc3;rw[aQD hyx.symm,List.append_nil,hi3]at ht;refine Sr<|Dd aE<|Dd aE<|Dd (by exact jC (l:=i) (h:=L.length) rfl cC rfl rfl rfl rfl rfl rfl (by omega) (aQK _) (aQW _) rfl)<|Dd aM<|Zz<|Sq<|Sr<|Dd aM<|Zz<|aF ?_;refine jK (fun(k:Nat) (R:List ByteArray)=>([(0,.osl 901 g 0 L.length),(3,iv (R.length:Int)),(4,.osl 901 g i (L.length - i)),(5,iv (k:Int))],(901,⟨g,1,9,tB (R++L.drop R.length)⟩)::H)) (fun k R=>1<=k/\i+k<=L.length/\R=iM (L.take (i+k))/\R.length+1<=i+k) (fun k R=>L.length - (i+k)) 1 (L.take i) ⟨by omega,by omega,ht.symm,by rw[aQS];omega⟩ ?_ ?_
   ·have hti:(L.take i).length=i:=by rw[aQS];omega
    rw[hti,List.take_append_drop];exact cX.get' ⟨⟨_,rfl,rfl⟩,⟨_,rfl,rfl⟩,⟨_,rfl,rfl⟩,⟨_,rfl,rfl⟩,trivial⟩ (fun j=>rfl)
   rintro k R ⟨hk1,hk2,hk3,hk4⟩;refine Sq<|Sr<|Dd aE<|Dd aE<|Dd (by exact eG rfl aD rfl rfl rfl)<|Dd cW<|Zz ?_;refine Cn ?_ ?_<;>intro hc4
   ·have hkl:i+k<L.length:=by have:=aQA hc4;omega
    obtain ⟨v,hv⟩:=aU hkl;obtain ⟨u,hu⟩:=aU (l:=L) (k:=i+k - 1) (by omega);have ht2:=R2 (by omega) hu hv;have hv2:=FK (Z7 (P:=R) (by omega) hv);have hu2:=FK (Z7 (P:=R) (by omega) hu);refine aC<|Sq<|aF<|Sq<|aO follows<|Cq aE<|Cq aE<|Cq (by exact dQ (m:=k) rfl cC rfl rfl rfl rfl rfl (by omega) (aQP _) (by omega) rfl)<|Cq (by exact aK rfl isAgg9 rfl rfl rfl hv2 rfl)<|Cq aE<|Cq aE<|Cq (by exact dX rfl rfl rfl (by exact jM (by omega) (by omega)))<|Cq (by exact dQ (m:=k - 1) (m2:=i+k - 1) rfl cC rfl rfl rfl rfl rfl (by omega) (show ((k:Int) - 1).toNat=k - 1 by omega) (by omega) (by omega))<|Cq (by exact aK rfl isAgg9 rfl rfl rfl hu2 rfl)<|Cq JI<|bM<|Kr ?_;refine Cn ?_ ?_<;>intro hc5
    ·have hne:¬ u=v:=fun e=>by
      have h:=hc5;rw[e]at h;simp at h
     rw[aQC hne,<-hk3]at ht2;have hR0:∃z,L[R.length]?=some z:=aU (by omega);obtain ⟨z,hz⟩:=hR0;have hat:(tB (R++L.drop R.length))[R.length]?=some ((encStr z).map .pv):=FK (Z7 (P:=R) (aQK _) hz);have hset:(tB (R++L.drop R.length)).set R.length [sv v]=tB ((R++[v])++L.drop (R++[v]).length):=by
      have hd:L.drop R.length=z::L.drop (R.length+1):=by
       obtain ⟨p,q⟩:=aQI.1 hz;rw[List.drop_eq_getElem_cons p,q]
      rw[hd,aQF,List.length_singleton,tB,List.map_append,List.map_cons,List.set_append_right _ _ (by rw[aQE];exact aQK _),aQE,Nat.sub_self,List.set_cons_zero,List.append_assoc,tB,List.map_append,List.map_append];rfl
     refine Sr<|Dd aE<|Dd aE<|Dd aE<|Dd aE<|Dd (by exact dQ (m:=k) rfl cC rfl rfl rfl rfl rfl (by omega) (aQP _) (by omega) rfl)<|Dd (by exact aK rfl isAgg9 rfl rfl rfl hv2 rfl)<|Dd (by exact dQ rfl cC rfl rfl rfl rfl rfl (by omega) (by exact aQP _) (by omega:R.length<L.length) (aQW _))<|Uu (by exact bG rfl sizeOf9 rfl rfl rfl rfl rfl hat (by simp[encStr]) rfl hset)<|Zz<|Rg<|Dd aE<|Dd mV<|Dd aM<|Zz<|Rg<|Dd aE<|Dd mV<|Da ?_;refine⟨k+1,R++[v],⟨by omega,by omega,ht2.symm,by rw[aQF,List.length_singleton];omega⟩,by omega,?_⟩;rw[show (((R++[v]).length:Nat):Int)=(R.length:Int)+1 by rw[aQF,List.length_singleton];rfl];exact cX.dup ⟨⟨_,rfl,rfl⟩,⟨_,rfl,rfl⟩,⟨_,rfl,rfl⟩,⟨_,rfl,rfl⟩,trivial⟩
    have he:u=v:=by
     have h:=hc5;have h2:v=u:=by simpa using h
     exact h2.symm
    rw[aQD he,List.append_nil,<-hk3]at ht2;refine aC<|Rg<|Dd aE<|Dd mV<|Da ?_;refine⟨k+1,R,⟨by omega,by omega,ht2.symm,by omega⟩,by omega,?_⟩;exact cX.get' ⟨⟨_,rfl,rfl⟩,⟨_,rfl,rfl⟩,⟨_,rfl,rfl⟩,⟨_,rfl,rfl⟩,trivial⟩ (fun j=>rfl)
   have hge2:i+k=L.length:=by have:=aQB hc4;omega
   rw[hge2,List.take_length]at hk3;have hRl:R.length<=L.length:=by omega
   have hmix:(tB (R++L.drop R.length)).length=L.length:=by
    rw[aQE,aQF,aQT];omega
   have hcl:(tB (R++L.drop R.length)).take R.length++(List.replicate (L.length - R.length) [sv sNil]++(tB (R++L.drop R.length)).drop (R.length+(L.length - R.length)))=tB (R++List.replicate (L.length - R.length) sNil):=by
    have hd0:(tB (R++L.drop R.length)).drop (R.length+(L.length - R.length))=[]:=List.drop_eq_nil_of_le (by rw[hmix];omega);rw[hd0,List.append_nil,tB,List.map_append,List.take_left' (aQE _),tB,List.map_append,List.map_replicate];rfl
   refine aW<|Sr<|Dd aE<|Dd aE<|Dd (by exact jC (l:=R.length) (h:=L.length) rfl cC rfl rfl rfl rfl rfl rfl hRl (aQK _) (aQW _) rfl)<|Uu (by exact O9 rfl cC zo9 rfl rfl rfl rfl rfl (by rw[hmix];exact hRl) hcl)<|Zz<|Sr<|Dd aE<|Dd aE<|Dd (by exact jC (l:=0) (h:=R.length) rfl cC rfl rfl rfl rfl rfl rfl (aQV _) hRl (aQW _) rfl)<|Dd aM<|Zz<|aB ?_;refine dV (H':=(901,⟨g,1,9,tB (R++List.replicate (L.length - R.length) sNil)⟩)::H) (.inr rfl) rfl (aX rfl) (Fin.get' (fun j=>xE _ _ _ _ j)) ⟨by rw[hk3];rfl,by rw[hk3]⟩
  have hyx:=aQB hc3;rw[aQC (fun e=>hyx e.symm),hi3]at ht;refine aC<|Rg<|Dd aE<|Dd mV<|Da ?_;refine⟨i+1,⟨by omega,by omega,?_⟩,by omega,cX.get' ⟨⟨_,rfl,rfl⟩,⟨_,rfl,rfl⟩,trivial⟩ (fun j=>rfl)⟩;rw[ht,List.take_add_one,hy];rfl
 have hge3:i=L.length:=by have:=aQB hc2;omega
 subst hge3;rw[List.take_length]at hi3;refine aW<|Sr<|Dd aE<|Dd aM<|Zz<|aB ?_;refine dV (H':=(901,⟨g,1,9,tB L⟩)::H) (.inr rfl) rfl (aX rfl) Fin.refl ⟨by rw[hi3],by rw[hi3,Nat.sub_self,List.replicate_zero,List.append_nil]⟩
end Go.Proofs.YtmdicgjnmfolfaaGreatDoor
end
namespace Go.Proofs.YtmdicgjnmfolfaaGreatDoor
open Go.Proofs.Tryz
open Go.Abs
variable{r:GRec}
def lA(n a b:Int):Bool:=decide (a<=n)&&decide (n<=b)
def YP(r:GRec):Bool:=(((((r.priv.trace.any M1||!(!([r.priv.name,r.priv.reason].any CF)))||!(!r.priv.sources.any CF))||decide (16<((r.priv.sources.map encStr).length:Int)))||decide (200<((r.priv.trace.map fS).length:Int)))||!gV r.priv.sl)||!gV r.sl
def aFf(l:List ByteArray):Bool:=lX l&&decide (((iM l).length:Int)=((l.map encStr).length:Int))
theorem aLq(l:List ByteArray)(hl:l.length<1099511627776){H:aH}(hno:H.get 901=none):aI Tryz.prog 69 [.pv (aZ l)] H (fun r H'=>r=.osl 901 1 0 l.length/\H'=(901,⟨1,1,9,tB l⟩)::H) :=aI.frame (aGM l [] (fun _ _ h=>by cases h) rfl hl) (fun _ _ h=>by cases h) (fun _ _ h=>by cases h) (by simp) (fun id h=>.inr (by
  by_cases e:901=id
  ·subst e;exact hno
  simp[aH.get,kW e]at h))
def LF(r:GRec):Bool:=(((((!lA r.author 0 59||!lA r.number 1 128)||!lA r.clock 1 1000000)||!bT r.branch)||decide (16<((r.parents.map encStr).length:Int)))||!r.parents.all isJ)||!aFf r.parents
def ndG(r:GRec):Bool:=decide (r.kind=2)||decide (r.kind=3)
def HA(r:GRec):Bool:=if r.kind=3 then lA r.order 1 4 else if r.kind=4 then(bT r.from'&&!decide (r.from'=r.branch))else decide (1<=r.kind/\r.kind<=5)
def UX(r:GRec):ByteArray:=if r.kind=2\/r.kind=3 then r.target else sNil
def wYG(r:GRec):Bool:=if r.kind=2 then r.yes else false
def wOG(r:GRec):Int:=if r.kind=3 then r.order else 0
def wFG(r:GRec):ByteArray:=if r.kind=4 then r.from' else sNil
def wEG(r:GRec):Bool:=if r.kind=1 then true else if r.kind=3 then decide (r.order=3)else false
def v5G(r:GRec):Bool:=((((decide (r.target=UX r)&&(r.yes == wYG r))&&decide (r.order=wOG r))&&decide (r.from'=wFG r))&&(decide (0<((r.edits.map bA).length:Int)) == wEG r))&&(!ndG r||isJ (UX r))
def eQ(r:GRec):Bool:=(((!YP r&&!LF r)&&(iT r.edits).2)&&HA r)&&v5G r
abbrev W5:=ByteArray×Bool×Int×ByteArray×Bool
def BC(r:GRec):W5:=(UX r,wYG r,wOG r,wFG r,wEG r)
theorem aM9(h:r.kind=1):HA r=true/\(sNil,false,0,sNil,true)=BC r:=by simp[HA,BC,UX,wYG,wOG,wFG,wEG,h]
theorem aM8(h:r.kind=2):HA r=true/\(r.target,r.yes,0,sNil,false)=BC r:=by simp[HA,BC,UX,wYG,wOG,wFG,wEG,h]
theorem aM7(h:r.kind=3)(hw:lA r.order 1 4=true):HA r=true/\(r.target,false,r.order,sNil,decide (r.order=3))=BC r:=by simp[HA,BC,UX,wYG,wOG,wFG,wEG,h,hw]
theorem aM6(h:r.kind=4)(hn:bT r.from'=true)(hb:r.from'≠r.branch):HA r=true/\(sNil,false,0,r.from',false)=BC r:=by simp[HA,BC,UX,wYG,wOG,wFG,wEG,h,hn,hb]
theorem aM5(h:r.kind=5):HA r=true/\(sNil,false,0,sNil,false)=BC r:=by simp[HA,BC,UX,wYG,wOG,wFG,wEG,h]
theorem aHQ(h:YP r=true):eQ r=false:=by simp[eQ,h]
theorem aAk(h:LF r=true):eQ r=false:=by simp[eQ,h]
theorem aHP(h:(iT r.edits).2=false):eQ r=false:=by simp[eQ,h]
theorem SJ(h:HA r=false):eQ r=false:=by simp[eQ,h]
theorem aHO(h1:YP r=false)(h2:LF r=false)(h3:(iT r.edits).2=true)(h4:HA r=true):eQ r=v5G r:=by simp[eQ,h1,h2,h3,h4]
theorem aDu(h:r.target.size<1099511627776):(UX r).size<1099511627776:=by
 rw[UX]
 split
 ·exact h
 exact(by decide:(0:Nat)<1099511627776)
theorem KF(r:GRec)(hr:fR r)(hp:r.parents.length<549755813888)(H:aH):aI Tryz.prog 14 [av (bS r)] H (fun x H'=>x=bv (eQ r)/\H'=H):=by
 refine Pu ?_;obtain ⟨_,⟨b1,b2,b3⟩,hpa,hed,hs,hpv⟩:=hr;have htx:=fun H=>aAn r.edits H hed.1 hed.2;obtain ⟨p1,p2,p3,p4,p5⟩:=hpv;have hoffs:=aLO r.priv.trace p4;have hsh1:=fun H=>aAv [r.priv.name,r.priv.reason] (show 2<1099511627776 by decide) H;have hsh2:=fun H=>aAv r.priv.sources p3.1 H;have hf1:=fun H=>XF r.priv.sl p5 H;have hf2:=fun H=>XF r.sl hs H;have hso:=fun H=>W7 r.parents H (by omega);have hdg:=fun H=>IQ r.parents hpa H;have hnm:=fun H=>AR r.branch H (by omega);have hnf:=fun H=>AR r.from' H (by omega)
 have hwt:=aDu b2;have hw:∀(n a b:Int) (H:aH),aI Tryz.prog 60 [iv n,iv a,iv b] H (fun r H'=>r=bv (lA n a b)/\H'=H):=fun n a b H=>LA n a b H;refine Bd func14 rfl ntmps14<|Sr<|Dd (by exact cF (id:=1) rfl rfl rfl rfl rfl)<|Dd aM<|Zz<|Sr<|Dd (by exact bU (id:=3) rfl aOZ rfl rfl)<|Uu (jN sizeOf98)<|Zz<|Sr<|Dd aM<|Zz<|Sr<|Dd (aT eS)<|Dd (mD gB sizeOf28)<|Dd (by exact bU (id:=5) rfl aKT rfl rfl)<|Uu (jN sizeOf28)<|Zz<|Sr<|Dd (aT mF)<|Dd (bF eW)<|Dd (by exact gR rfl rfl)<|Dd (by exact aA rfl rfl call64 rfl ((aI.frameS hoffs (OS.sub ⟨rfl,trivial⟩) (eI.ofL ⟨wR _,trivial⟩) (by simp;rfl))))<|Dd aM<|Zz<|Sq<|Sq ?_;refine aY (t:=63) (n:=48) (X:=YP r) ?_ ?_
 ·all_goals refine Dd aE ?_
  all_goals refine Dm ?_
  all_goals refine Sp 23 (fun h23=>?_) fun h23=>?_
  all_goals try contradiction
  all_goals first|refine Fo<|Fo<|Fo<|Fo<|Fo ?_|refine On aE<|On (aT xT)<|On (bF isAgg9)<|On (aT xS)<|On (bF isAgg9) ?_
  all_goals first|refine Fo ?_|refine On (by exact aQ [[.str r.priv.name],[.str r.priv.reason]] rfl cC rfl rfl rfl rfl rfl (by intro r hr;simp only[aQQ,aQU,or_false]at hr;rcases hr with rfl|rfl<;>rfl)) ?_
  all_goals first|refine Fo<|Fo ?_|refine On (by exact cY rfl rfl rfl (dN.fn call61 (hsh1 _)))<|On iS ?_
  all_goals refine Dd cH<|Dm ?_
  all_goals refine Sp 33 (fun h33=>?_) fun h33=>?_
  all_goals try contradiction
  all_goals first|refine Fo<|Fo<|Fo<|Fo<|Fo ?_|refine On aE<|On (aT rB)<|On (bF aG)<|On (by exact cY rfl rfl rfl (dN.fn call61 (hsh2 _)))<|On iS ?_
  all_goals refine Dd cH<|Dm ?_
  all_goals refine Sp 40 (fun h40=>?_) fun h40=>?_
  all_goals try contradiction
  all_goals first|refine Fo<|Fo<|Fo<|Fo ?_|refine On (aT rB)<|On (bF aG)<|On (fM aD)<|On iG ?_
  all_goals refine Dd cH<|Dm ?_
  all_goals refine Sp 46 (fun h46=>?_) fun h46=>?_
  all_goals try contradiction
  all_goals first|refine Fo<|Fo<|Fo<|Fo ?_|refine On (aT mF)<|On (bF eW)<|On (fM dM)<|On iG ?_
  all_goals refine Dd cH<|Dm ?_
  all_goals refine Sp 52 (fun h52=>?_) fun h52=>?_
  all_goals try contradiction
  all_goals first|refine Fo<|Fo<|Fo<|Fo ?_|refine On (aT nA)<|On (mD dD sizeOf25)<|On (by exact aA rfl rfl call66 rfl (hf1 _))<|On iS ?_
  all_goals refine Dd cH<|Dm ?_
  all_goals refine Sp 58 (fun h58=>?_) fun h58=>?_
  all_goals try contradiction
  all_goals first|refine Fo<|Fo<|Fo<|Fo ?_|refine On (aT kQ)<|On (mD dD sizeOf25)<|On (by exact aA rfl rfl call66 rfl (hf2 _))<|On iS ?_
  all_goals refine Dd cH<|Zz ?_
  all_goals(exact⟨⟨_,rfl,by first|(rw[YP,h23];rfl)|(rw[YP,h23,h33];rfl)|(rw[YP,h23,h33,h40];rfl)|(rw[YP,h23,h33,h40,h46];rfl)|(rw[YP,h23,h33,h40,h46,h52];rfl)|(rw[YP,h23,h33,h40,h46,h52,h58];rfl)⟩,rfl,rfl,rfl⟩)
 refine Cn ?_ ?_<;>intro hc1
 ·rw[aHQ hc1];exact Sr<|Dd aM<|Zz<|aB<|Rt<|Qq
 have h1:=hc1;have hin:aFf r.parents=(lX r.parents&&decide (((iM r.parents).length:Int)=((r.parents.map encStr).length:Int))):=rfl;obtain ⟨so,hsoe⟩:∃so,so=lX r.parents:=⟨_,rfl⟩;rw[<-hsoe]at hso hin;refine aC<|Sq ?_;refine gM.ent (E':=[(1,.ref 1 0 0 0),(3,.ref 3 0 0 0),(5,.ref 5 0 0 0),(4,.pv (.fn 61))]) (H':=[(5,bx 7 28 ((iP r.priv).map .pv)),(3,wiO),(1,bx 21 30 ((bS r).map .pv))]) (cX.wk (Ea<|Ea<|Ea<|Eb<|trivial) (Hb<|Hc (wR _)<|Hb<|trivial) trivial) ?_;cases so with
 | false =>
  have h2:LF r=true:=by rw[LF,hin,Bool.false_and,Bool.not_false,Bool.or_true]
  rw[aAk h2];refine aO follows<|Cr [1] (fun _ h=>fh lK h)<|Cr [1] (fun _ h=>lh aG h)<|Cr [] (fun H1 hH=>by exact aA rfl rfl call67 rfl (hso _))<|Cr [] (fun _ _=>aE)<|Ot<|Ot<|Ot<|Ot<|Ot<|Ot<|Ot<|Ot<|Ot<|Cr [] (fun _ _=>cH)<|Cr [] (fun _ _=>aM)<|bM<|Kr<|Sq<|Sq ?_;refine aY (t:=118) (n:=47) (X:=LF r) ?_ ?_
  ·all_goals refine Dd (bF pU) ?_
   all_goals refine Dd (aT tH)<|Dd (bF isAgg3)<|Dd (by exact cY rfl rfl rfl (dN.fn sA (hw r.author 0 59 _)))<|Dd iS<|Dm ?_
   all_goals refine Sp 83 (fun h83=>?_) fun h83=>?_
   all_goals try contradiction
   all_goals first|refine Fo<|Fo<|Fo<|Fo<|Fo ?_|refine On (bF pU)<|On (aT nX)<|On (bF isAgg3)<|On (by exact cY rfl rfl rfl (dN.fn sA (hw r.number 1 128 _)))<|On iS ?_
   all_goals refine Dd cH<|Dm ?_
   all_goals refine Sp 90 (fun h90=>?_) fun h90=>?_
   all_goals try contradiction
   all_goals first|refine Fo<|Fo<|Fo<|Fo<|Fo ?_|refine On (bF pU)<|On (aT vV)<|On (bF isAgg3)<|On (by exact cY rfl rfl rfl (dN.fn sA (hw r.clock 1 1000000 _)))<|On iS ?_
   all_goals refine Dd cH<|Dm ?_
   all_goals refine Sp 97 (fun h97=>?_) fun h97=>?_
   all_goals try contradiction
   all_goals first|refine Fo<|Fo<|Fo<|Fo ?_|refine On (aT vU)<|On (bF isAgg9)<|On (by exact aA rfl rfl pH rfl (hnm _))<|On iS ?_
   all_goals refine Dd cH<|Dm ?_
   all_goals refine Sp 103 (fun h103=>?_) fun h103=>?_
   all_goals try contradiction
   all_goals first|refine Fo<|Fo<|Fo<|Fo ?_|refine On (aT lK)<|On (bF aG)<|On (fM aD)<|On iG ?_
   all_goals refine Dd cH<|Dm ?_
   all_goals refine Sp 109 (fun h109=>?_) fun h109=>?_
   all_goals try contradiction
   all_goals first|refine Fo<|Fo<|Fo<|Fo ?_|refine On (aT lK)<|On (bF aG)<|On (by exact aA rfl rfl aHE rfl (hdg _))<|On iS ?_
   all_goals refine Dd cH<|Dm ?_
   all_goals refine Sp 115 (fun h115=>?_) fun h115=>?_
   all_goals try contradiction
   all_goals first|refine Fo<|Fo ?_|refine On aE<|On iS ?_
   all_goals refine Dd cH<|Zz ?_
   all_goals(exact⟨⟨_,rfl,by first|(rw[LF,hin,h83];rfl)|(rw[LF,hin,h83,h90];rfl)|(rw[LF,hin,h83,h90,h97];rfl)|(rw[LF,hin,h83,h90,h97,h103];rfl)|(rw[LF,hin,h83,h90,h97,h103,h109];rfl)|(rw[LF,hin,h83,h90,h97,h103,h109,h115];rfl)⟩,rfl,rfl,rfl⟩)
  refine Cn ?_ ?_<;>intro hc2
  ·exact Sr<|Dd aM<|Zz<|aB<|Rt<|Qq
  rw[h2]at hc2;cases hc2
 | true =>
  refine aO follows<|Cr [1] (fun _ h=>fh lK h)<|Cr [1] (fun _ h=>lh aG h)<|Cr [] (fun H1 hH=>by exact aA rfl rfl call67 rfl (hso _))<|Cr [] (fun _ _=>aE) ?_;refine bL (r:=⟨_,some [1],[]⟩) (cL rfl rfl rfl (by rfl) (fun H1 hH=>by exact(by exact bP rfl lK rfl ((hH _ rfl).trans rfl) rfl rfl))) rfl ?_;refine bL (r:=⟨_,some [1],[]⟩) (cL rfl rfl rfl (by rfl) (fun H1 hH=>by exact(by exact aK rfl aG rfl ((hH _ rfl).trans rfl) rfl rfl rfl))) rfl ?_;refine bL (r:=⟨_,some [901],[_]⟩) (cL rfl rfl rfl (by rfl) (fun H1 hH=>by exact aA rfl rfl call69 rfl (aLq r.parents (by omega) ((hH _ rfl).trans rfl)))) rfl ?_;refine bL (r:=⟨_,some [901],[_]⟩) (cL rfl rfl rfl (by rfl) (fun H1 hH=>by exact aA rfl rfl call68 rfl (aDN r.parents 1 _ ((hH _ rfl).trans rfl) (by omega)))) rfl ?_;refine bL (r:=⟨_,some [901],[]⟩) (cL rfl rfl rfl (by rfl) (fun H1 hH=>by exact(by exact eG rfl aD rfl ((hH _ rfl).trans rfl) rfl))) rfl ?_;refine bL (r:=⟨_,some [1],[]⟩) (cL rfl rfl rfl (by rfl) (fun H1 hH=>by exact(by exact bP rfl lK rfl ((hH _ rfl).trans rfl) rfl rfl))) rfl ?_;refine bL (r:=⟨_,some [1],[]⟩) (cL rfl rfl rfl (by rfl) (fun H1 hH=>by exact(by exact aK rfl aG rfl ((hH _ rfl).trans rfl) rfl rfl rfl))) rfl ?_;refine bL (r:=⟨_,some [],[]⟩) (cL rfl rfl rfl (by rfl) (fun H1 hH=>by exact(by exact mC rfl aD rfl))) rfl ?_;refine bL (r:=⟨_,some [],[]⟩) (cL rfl rfl rfl (by rfl) (fun H1 hH=>by exact oA rfl rfl rfl)) rfl ?_;refine Cr [] (fun _ _=>cH)<|Cr [] (fun _ _=>aM)<|bM<|Kr<|Sq<|Sq ?_;refine aY (t:=118) (n:=47) (X:=LF r) ?_ ?_
  ·all_goals refine Dd (bF pU) ?_
   all_goals refine Dd (aT tH)<|Dd (bF isAgg3)<|Dd (by exact cY rfl rfl rfl (dN.fn sA (hw r.author 0 59 _)))<|Dd iS<|Dm ?_
   all_goals refine Sp 83 (fun h83=>?_) fun h83=>?_
   all_goals try contradiction
   all_goals first|refine Fo<|Fo<|Fo<|Fo<|Fo ?_|refine On (bF pU)<|On (aT nX)<|On (bF isAgg3)<|On (by exact cY rfl rfl rfl (dN.fn sA (hw r.number 1 128 _)))<|On iS ?_
   all_goals refine Dd cH<|Dm ?_
   all_goals refine Sp 90 (fun h90=>?_) fun h90=>?_
   all_goals try contradiction
   all_goals first|refine Fo<|Fo<|Fo<|Fo<|Fo ?_|refine On (bF pU)<|On (aT vV)<|On (bF isAgg3)<|On (by exact cY rfl rfl rfl (dN.fn sA (hw r.clock 1 1000000 _)))<|On iS ?_
   all_goals refine Dd cH<|Dm ?_
   all_goals refine Sp 97 (fun h97=>?_) fun h97=>?_
   all_goals try contradiction
   all_goals first|refine Fo<|Fo<|Fo<|Fo ?_|refine On (aT vU)<|On (bF isAgg9)<|On (by exact aA rfl rfl pH rfl (hnm _))<|On iS ?_
   all_goals refine Dd cH<|Dm ?_
   all_goals refine Sp 103 (fun h103=>?_) fun h103=>?_
   all_goals try contradiction
   all_goals first|refine Fo<|Fo<|Fo<|Fo ?_|refine On (aT lK)<|On (bF aG)<|On (fM aD)<|On iG ?_
   all_goals refine Dd cH<|Dm ?_
   all_goals refine Sp 109 (fun h109=>?_) fun h109=>?_
   all_goals try contradiction
   all_goals first|refine Fo<|Fo<|Fo<|Fo ?_|refine On (aT lK)<|On (bF aG)<|On (by exact aA rfl rfl aHE rfl (hdg _))<|On iS ?_
   all_goals refine Dd cH<|Dm ?_
   all_goals refine Sp 115 (fun h115=>?_) fun h115=>?_
   all_goals try contradiction
   all_goals first|refine Fo<|Fo ?_|refine On aE<|On iS ?_
   all_goals refine Dd cH<|Zz ?_
   all_goals(exact⟨⟨_,rfl,by first|(rw[LF,hin,h83];rfl)|(rw[LF,hin,h83,h90];rfl)|(rw[LF,hin,h83,h90,h97];rfl)|(rw[LF,hin,h83,h90,h97,h103];rfl)|(rw[LF,hin,h83,h90,h97,h103,h109];rfl)|(rw[LF,hin,h83,h90,h97,h103,h109,h115];rfl)⟩,rfl,rfl,rfl⟩)
  refine Cn ?_ ?_<;>intro hc3
  ·rw[aAk hc3];exact Sr<|Dd aM<|Zz<|aB<|Rt<|Qq
  have h2:=hc3;obtain ⟨tx,htxe⟩:∃tx,tx=(iT r.edits).1:=⟨_,rfl⟩;obtain ⟨tb,htbe⟩:∃tb,tb=(iT r.edits).2:=⟨_,rfl⟩;rw[<-htxe,<-htbe]at htx;refine aC<|Sq<|Sr<|Dd (aT vT)<|Dd (bF iR)<|Dd (by exact aA rfl rfl call72 rfl (htx _))<|Dd aE<|Dd fG<|Dd fG<|Dd aM<|Dd aM<|Zz<|Sr<|Dd aE<|Dd iS<|Zz ?_;refine Cn ?_ ?_<;>intro hc4
  ·have hb:tb=false:=by have:=hc4;cases tb;rfl;cases this
   rw[aHP (htbe.symm.trans hb)];exact Sr<|Dd aM<|Zz<|aB<|Rt<|Qq
  have hb:tb=true:=by have:=hc4;cases tb;cases this;rfl
  have h3:(iT r.edits).2=true:=htbe.symm.trans hb;have hyes:=fun h4=>aHO h1 h2 h3 h4;clear htxe htbe;refine aC<|Sr<|Dd aM<|Dd aM<|Dd aM<|Dd aM<|Da ?_;refine fJ (fun(p:W5)=>([(1,.ref 1 0 0 0),(3,.ref 3 0 0 0),(10,sv p.1),(11,bv p.2.1),(12,iv p.2.2.1),(13,sv p.2.2.2.1),(14,bv p.2.2.2.2)],[(5,bx 7 28 ((iP r.priv).map .pv)),(3,wiO),(1,bx 21 30 ((bS r).map .pv))])) (fun p=>HA r=true/\p=BC r) ?_ ?_
  ·refine Sr<|Dd (aT lL)<|Dd (bF isAgg3)<|Zz<|aF<|Sr<|Dd cN<|Da ?_;refine Cn ?_ ?_<;>intro hc5
   ·have hk:=aM9 (aQA hc5);refine Rg<|Da ?_;exact⟨_,hk,(cX.wk (Ea<|Ea<|Eb<|Eb<|Eb<|Eb<|Eb<|trivial) (Hb<|Hc (wR _)<|Hb<|trivial) trivial)⟩
   have hk1:=aQB hc5;refine Sr<|Dd cN<|Da ?_;refine Cn ?_ ?_<;>intro hc6
   ·have hk:=aM8 (aQA hc6);refine aO follows<|Cq (aT vS)<|Cq (bF isAgg9)<|Cq (aT CN)<|Cq (bF pG)<|Cq aM<|Cq aM<|bM<|Kr ?_;exact⟨_,hk,(cX.wk (Ea<|Ea<|Eb<|Eb<|Eb<|Eb<|Eb<|trivial) (Hb<|Hc (wR _)<|Hb<|trivial) trivial)⟩
   have hk2:=aQB hc6;refine Sr<|Dd cN<|Da ?_;refine Cn ?_ ?_<;>intro hc7
   ·have hk3:=aQA hc7;refine Sq<|aO follows<|Cq (aT vS)<|Cq (bF isAgg9)<|Cq (aT tG)<|Cq (bF isAgg3)<|Cq (aT tG)<|Cq (bF isAgg3)<|Cq cN<|Cq aM<|Cq aM<|Cq aM<|bM<|Kr<|Sr<|Dd (bF pU)<|Dd aE<|Dd (by exact cY rfl rfl rfl (dN.fn sA (hw r.order 1 4 _)))<|Dd iS<|Zz ?_;refine Cn ?_ ?_<;>intro hc8
    ·have hk:lA r.order 1 4=false:=by have:=hc8;revert this;cases lA r.order 1 4<;>simp
     rw[SJ (by rw[HA,aQD hk3];exact hk)];exact Sr<|Dd aM<|Zz<|aB<|Rt<|Qq
    have hk:=aM7 hk3 (by have:=hc8;revert this;cases lA r.order 1 4<;>simp);refine aC ?_;exact⟨_,hk,(cX.wk (Ea<|Ea<|Eb<|Eb<|Eb<|Eb<|Eb<|trivial) (Hb<|Hc (wR _)<|Hb<|trivial) trivial)⟩
   have hk3:=aQB hc7;refine Sr<|Dd cN<|Da ?_;refine Cn ?_ ?_<;>intro hc9
   ·have hk4:=aQA hc9;refine Sr<|Dd (aT rA)<|Dd (bF isAgg9)<|Dd aM<|Zz<|Sq ?_;refine aY (t:=162) (n:=10) (X:=!bT r.from'||decide (r.from'=r.branch)) ?_ ?_
    ·all_goals refine Dd aE ?_
     all_goals refine Dd (by exact aA rfl rfl pH rfl (hnf _))<|Dd iS<|Dm ?_
     all_goals refine Sp 157 (fun h157=>?_) fun h157=>?_
     all_goals try contradiction
     all_goals first|refine Fo<|Fo<|Fo<|Fo ?_|refine On aE<|On (aT vU)<|On (bF isAgg9)<|On AG ?_
     all_goals refine Dd cH<|Zz ?_
     all_goals(exact⟨⟨_,rfl,by(rw[h157];rfl)⟩,rfl,rfl,rfl⟩)
    refine Cn ?_ ?_<;>intro hc10
    ·have hk:(bT r.from'&&!decide (r.from'=r.branch))=false:=by have:=hc10;revert this;cases bT r.from'<;>cases decide (r.from'=r.branch)<;>simp
     rw[SJ (by rw[HA,aQC hk3,aQD hk4];exact hk)];exact Sr<|Dd aM<|Zz<|aB<|Rt<|Qq
    have hk:bT r.from'=true/\¬ r.from'=r.branch:=by have:=hc10;rw[aQ0,Bool.not_eq_false',aQM]at this;exact this
    have hk:=aM6 hk4 hk.1 hk.2;refine aC ?_;exact⟨_,hk,(cX.wk (Ea<|Ea<|Eb<|Eb<|Eb<|Eb<|Eb<|trivial) (Hb<|Hc (wR _)<|Hb<|trivial) trivial)⟩
   have hk4:=aQB hc9;refine Sr<|Dd cN<|Da ?_;refine Cn ?_ ?_<;>intro hc11
   ·have hk:=aM5 (aQA hc11);refine aC ?_;exact⟨_,hk,(cX.wk (Ea<|Ea<|Eb<|Eb<|Eb<|Eb<|Eb<|trivial) (Hb<|Hc (wR _)<|Hb<|trivial) trivial)⟩
   have hk5:=aQB hc11;rw[SJ (by rw[HA,aQC hk3,aQC hk4,decide_eq_false (by omega)])];exact Sr<|Dd aM<|Zz<|aB<|Rt<|Qq
  rintro _ ⟨h4,rfl⟩;rw[hyes h4];have hdT:=fun H=>aFe (UX r) hwt H;have hv5:v5G r=(((((decide (r.target=UX r)&&(r.yes == wYG r))&&decide (r.order=wOG r))&&decide (r.from'=wFG r))&&(decide (0<((r.edits.map bA).length:Int)) == wEG r))&&(!ndG r||isJ (UX r))):=rfl;rw[BC];refine Sq ?_;refine aY (t:=15) (n:=10) (X:=ndG r) ?_ ?_
  ·all_goals refine Dd (aT lL) ?_
   all_goals refine Dd (bF isAgg3)<|Dd cN<|Dm ?_
   all_goals refine Sp 168 (fun h168=>?_) fun h168=>?_
   all_goals try contradiction
   all_goals first|refine Fo<|Fo<|Fo ?_|refine On (aT lL)<|On (bF isAgg3)<|On cN ?_
   all_goals refine Dd cH<|Da ?_
   all_goals(exact⟨⟨_,rfl,by(rw[ndG,h168];rfl)⟩,rfl,rfl,rfl⟩)
  refine Sq ?_;refine aY (t:=2) (n:=45) (X:=v5G r) ?_ ?_
  ·all_goals refine Dd (aT vS) ?_
   all_goals refine Dd (bF isAgg9)<|Dd aE<|Dd AG<|Dm ?_
   all_goals refine Sp 177 (fun h177=>?_) fun h177=>?_
   all_goals try contradiction
   all_goals first|refine Fo<|Fo<|Fo<|Fo ?_|refine On (aT CN)<|On (bF pG)<|On aE<|On (by exact MX rfl eV rfl rfl) ?_
   all_goals refine Dd cH<|Dm ?_
   all_goals refine Sp 183 (fun h183=>?_) fun h183=>?_
   all_goals try contradiction
   all_goals first|refine Fo<|Fo<|Fo<|Fo ?_|refine On (aT tG)<|On (bF isAgg3)<|On aE<|On cN ?_
   all_goals refine Dd cH<|Dm ?_
   all_goals refine Sp 189 (fun h189=>?_) fun h189=>?_
   all_goals try contradiction
   all_goals first|refine Fo<|Fo<|Fo<|Fo ?_|refine On (aT rA)<|On (bF isAgg9)<|On aE<|On AG ?_
   all_goals refine Dd cH<|Dm ?_
   all_goals refine Sp 195 (fun h195=>?_) fun h195=>?_
   all_goals try contradiction
   all_goals first|refine Fo<|Fo<|Fo<|Fo<|Fo<|Fo ?_|refine On (aT vT)<|On (bF iR)<|On (fM dB)<|On iG<|On aE<|On (by exact MX rfl eV rfl rfl) ?_
   all_goals refine Dd cH<|Dm ?_
   all_goals refine Sp 203 (fun h203=>?_) fun h203=>?_
   all_goals try contradiction
   all_goals first|refine Fo<|Fo<|Fo ?_|refine On aE<|On iS<|On aE ?_
   all_goals(first|refine Sp 206 (fun h206=>?_) fun h206=>?_|refine jW (t:=206) rfl ?_)
   all_goals try contradiction
   all_goals first|refine Fo ?_|refine Fu ?_|refine On aE ?_
   all_goals first|refine Fo ?_|refine Fu ?_|refine On (by exact aA rfl rfl aPo rfl (hdT _)) ?_
   all_goals first|refine Fo ?_|refine On cH ?_
   all_goals refine Dd cH<|Da ?_
   all_goals(exact⟨⟨_,rfl,by first|(rw[hv5,h177];rfl)|(rw[hv5,h177,h183];rfl)|(rw[hv5,h177,h183,h189];rfl)|(rw[hv5,h177,h183,h189,h195];rfl)|(rw[hv5,h177,h183,h189,h195,h203];rfl)|(rw[hv5,h177,h183,h189,h195,h203,h206];rfl)⟩,rfl,rfl,rfl⟩)
  exact aB<|Rt<|Qq
end Go.Proofs.YtmdicgjnmfolfaaGreatDoor
namespace Go.Proofs.YtmdicgjnmfolfaaGreatDoor
open Go.Proofs.Tryz
open Go.Abs Go.Lib
variable{s:GSeal}{r:GRec}{l:List GEdit}{n:Nat}
structure FSeal(s:GSeal):Prop where
 i0:0<=s.idx
 i1:s.idx<256
 sl:s.sig.length<=18
 pl:s.path.length<=8
 sa:∀t∈s.sig,isJ t=true
 pa:∀t∈s.path,isJ t=true
theorem YN(h:pX s=true):s=⟨0,[],[]⟩:=by rw[pX,aQN,aQL,aQL,aQE,aQE]at h;obtain ⟨i,a,b⟩:=s;obtain ⟨h1,h2⟩:=h;simp only at h1 h2;have ha:a=[]:=List.eq_nil_of_length_eq_zero (by omega);have hb:b=[]:=List.eq_nil_of_length_eq_zero (by omega);subst h1 ha hb;rfl
theorem jS(h:gV s=true):FSeal s:=by
 rw[gV,Bool.or_eq_true]at h;rcases h with h|h
 ·have:=YN h;subst this;exact⟨by decide,by decide,by decide,by decide,by simp,by simp⟩
 simp only[aQN,aQL,aQE,List.all_eq_true]at h;obtain ⟨⟨⟨⟨⟨h1,h2⟩,h3⟩,h4⟩,h5⟩,h6⟩:=h;exact⟨h1,h2,by omega,by omega,h5,h6⟩
structure VF(r:GRec):Prop where
 tr:∀q∈r.priv.trace,(0<=q.1/\q.1<=1048575)/\(0<=q.2/\q.2<=1048575)
 nm:r.priv.name.size<=200
 rs:r.priv.reason.size<=200
 so:∀s∈r.priv.sources,s.size<=200
 sol:r.priv.sources.length<=16
 trl:r.priv.trace.length<=200
 psl:gV r.priv.sl=true
 sl:gV r.sl=true
 au:0<=r.author/\r.author<=59
 nu:1<=r.number/\r.number<=128
 cl:1<=r.clock/\r.clock<=1000000
 br:bT r.branch=true
 pal:r.parents.length<=16
 pa:∀p∈r.parents,isJ p=true
 inc:aFf r.parents=true
 tx:(iT r.edits).2=true
 k:HA r=true
 ta:r.target=UX r
 ye:r.yes=wYG r
 od:r.order=wOG r
 fr:r.from'=wFG r
 ed:decide (0<r.edits.length)=wEG r
 nd:ndG r=true->isJ (UX r)=true
theorem TP{s:ByteArray}:CF s=false↔s.size<=200:=by rw[CF,aQM];omega
theorem lE(h:eQ r=true):VF r:=by
 simp only[eQ,aQN,aQX]at h;obtain ⟨⟨⟨⟨h1,h2⟩,h3⟩,h4⟩,h5⟩:=h;simp only[YP,aQ0,Bool.not_eq_false',aQX,aQM,aQE,List.any_eq_false,Bool.not_eq_true]at h1;obtain ⟨⟨⟨⟨⟨⟨a1,a2⟩,a3⟩,a4⟩,a5⟩,a6⟩,a7⟩:=h1;simp only[LF,aQ0,Bool.not_eq_false',aQM,aQE,List.all_eq_true,lA,aQN,aQL]at h2;obtain ⟨⟨⟨⟨⟨⟨b1,b2⟩,b3⟩,b4⟩,b5⟩,b6⟩,b7⟩:=h2;simp only[v5G,aQN,aQL,beq_iff_eq,aQE,Bool.or_eq_true,aQX]at h5;obtain ⟨⟨⟨⟨⟨c1,c2⟩,c3⟩,c4⟩,c5⟩,c6⟩:=h5;refine⟨fun q hq=>?_,TP.1 (a2 _ (by simp)),TP.1 (a2 _ (by simp)),fun s hs=>TP.1 (a3 s hs),by omega,by omega,a6,a7,b1,b2,b3,b4,by omega,b6,b7,h3,h4,c1,c2,c3,c4,?_,fun hn=>?_⟩
 ·have:=a1 q hq;simp only[M1,aQ0,Bool.not_eq_false',aQN,aQL]at this;exact this
 ·rw[<-c5];congr 1;exact propext ⟨fun h=>by omega,fun h=>by omega⟩
 rcases c6 with h|h
 ·rw[hn]at h;cases h
 exact h
theorem DD(h:HA r=true):1<=r.kind/\r.kind<=5:=by
 rw[HA]at h
 split at h
 ·omega
 split at h
 ·omega
 exact aQA h
theorem H7{s:ByteArray}(h:bT s=true):s.size<=24:=by simp only[bT,aQN,aQL]at h;omega
theorem YU(h:(eZ l).2=0):(eZ l).1.size<=20000:=by
 have h2:=JJ h;rw[nE]at h2
 split at h2
 ·have:=congrArg Prod.snd h2;cases this
 omega
theorem LO(h:(iT l).2=true):(iT l).1.size<=20000:=by
 rw[iT]at h |-
 split at h
 ·next h0 =>
  rw[aQD h0];exact(by decide:(0:Nat)<=20000)
 next h0 =>
 rw[aQC h0];exact YU (aQA h)
theorem qX{s:ByteArray}(h:isJ s=true):s.size<=16:=Nat.le_of_eq (sU h)
theorem VF.target(h:VF r):r.target.size<=16:=by
 rw[h.ta];by_cases hn:ndG r=true
 ·exact qX (h.nd hn)
 have:UX r=sNil:=by
  rw[UX,aQC];rintro(e|e)<;>simp[ndG,e]at hn
 rw[this];decide
theorem VF.from(h:VF r):r.from'.size<=24:=by
 rw[h.fr,wFG]
 split
 ·next e =>
  have hk:=h.k;rw[HA,aQC (by omega),aQD e,aQN]at hk;exact H7 hk.1
 decide
theorem VF.order(h:VF r):0<=r.order/\r.order<=4:=by
 rw[h.od,wOG]
 split
 ·next e =>
  have hk:=h.k;rw[HA,aQD e,lA,aQN,aQL,aQL]at hk;omega
 decide
def G7(p:GPriv):List IV:=[.t p.name,.t p.reason,.l p.sources,.p p.trace]
def FO(r:GRec):List IV:=[.z r.sl.idx r.sl.sig r.sl.path,.t r.priv.name,.t r.priv.reason,.l r.priv.sources,.p r.priv.trace,.z r.priv.sl.idx r.priv.sl.sig r.priv.sl.path]
def pD(r:GRec):List ByteArray:=mA r++rN (FO r)
def rU(r:GRec):ByteArray:=if eQ r=true then xX (mA r)else sNil
def jO(r:GRec):ByteArray×Int:=if eQ r=true then(if 20000<(aP (pD r)).length then(sNil,2)else(ofL (aP (pD r)),0))else(sNil,1)
def prW:ByteArray:=⟨#[112,114,105,118,97,116,101]⟩
def qV(r:GRec):ByteArray:=xX ([prW,rU r]++rN (G7 r.priv))
def le2(x:ByteArray):Prop:=x.size<=20000
theorem oY{n:Int}(h0 : -9223372036854775808<=n)(h1:n<=9223372036854775807):le2 (aV n):=Nat.le_trans (mE h0 h1) (by decide)
theorem GA(h:n<1099511627776):le2 (aV (n:Int)):=oY (by omega) (by omega)
theorem VO(h:FSeal s):∀x∈fI (.z s.idx s.sig s.path),le2 x:=by
 intro x hx;have i0:=h.i0;have i1:=h.i1;have l1:=h.sl;have l2:=h.pl;simp only[fI,aQQ,List.mem_append]at hx;rcases hx with rfl|(rfl|hx)|(rfl|hx)
 ·exact oY (by omega) (by omega)
 ·exact GA (by omega)
 ·exact Nat.le_trans (qX (h.sa x hx)) (by decide)
 ·exact GA (by omega)
 exact Nat.le_trans (qX (h.pa x hx)) (by decide)
theorem VN(h:FSeal s):(fI (.z s.idx s.sig s.path)).length<=29:=by have l1:=h.sl;have l2:=h.pl;simp only[fI,aQG,aQF];omega
theorem KS(h:VF r):∀x∈mA r,le2 x:=by
 intro x hx;obtain ⟨v,hv,hx⟩:=List.mem_flatMap.1 hx;have hk:=DD h.k;have h1:=h.au;have h2:=h.nu;have h3:=h.cl;have h4:=h.order;have hn:=H7 h.br;have ht:=h.target;have hf:=h.from
 have hl:=h.pal;simp only[FY,aQQ,aQU,or_false]at hv;rcases hv with rfl|rfl|rfl|rfl|rfl|rfl|rfl|rfl|rfl|rfl|rfl|rfl<;>simp only[fI,aQQ,aQU,or_false]at hx
 ·subst hx;exact(by decide:VU.size<=20000)
 ·subst hx;exact oY (by omega) (by omega)
 ·subst hx;exact oY (by omega) (by omega)
 ·subst hx;exact oY (by omega) (by omega)
 ·subst hx;exact oY (by omega) (by omega)
 ·subst hx;exact Nat.le_trans hn (by decide)
 ·rcases hx with rfl|hx
  ·exact GA (by omega)
  exact Nat.le_trans (qX (h.pa x hx)) (by decide)
 ·subst hx;exact LO h.tx
 ·subst hx;exact Nat.le_trans ht (by decide)
 ·subst hx;split<;>exact oY (by decide) (by decide)
 ·subst hx;exact oY (by omega) (by omega)
 subst hx;exact Nat.le_trans hf (by decide)
theorem FX(h:VF r):(mA r).length<=28:=by have:=h.pal;rw[mA,WD];omega
theorem ZF(h:VF r):∀x∈rN (G7 r.priv),le2 x:=by
 intro x hx;obtain ⟨v,hv,hx⟩:=List.mem_flatMap.1 hx;have h1:=h.nm;have h2:=h.rs;have h3:=h.sol;have h4:=h.trl;simp only[G7,aQQ,aQU,or_false]at hv;rcases hv with rfl|rfl|rfl|rfl<;>simp only[fI,aQQ,aQU,or_false,List.mem_flatMap]at hx
 ·subst hx;exact Nat.le_trans h1 (by decide)
 ·subst hx;exact Nat.le_trans h2 (by decide)
 ·rcases hx with rfl|hx
  ·exact GA (by omega)
  exact Nat.le_trans (h.so x hx) (by decide)
 rcases hx with rfl|⟨q,hq,hx⟩
 ·exact GA (by omega)
 obtain ⟨q1,q2⟩:=h.tr q hq;rcases hx with rfl|rfl
 ·exact oY (by omega) (by omega)
 exact oY (by omega) (by omega)
theorem aEi(ps:List (Int×Int)):(fI (.p ps)).length=1+2*ps.length:=by rw[show fI (.p ps)=aV (ps.length:Int)::OR ps from rfl,aQG,KT];omega
theorem ZE(h:VF r):(rN (G7 r.priv)).length<=420:=by have h3:=h.sol;have h4:=h.trl;have:=aEi r.priv.trace;simp only[rN,G7,List.flatMap_cons,List.flatMap_nil,aQF,this];simp only[fI,aQG,List.length_nil];omega
theorem Y5(r:GRec):rN (FO r)=fI (.z r.sl.idx r.sl.sig r.sl.path)++(rN (G7 r.priv)++fI (.z r.priv.sl.idx r.priv.sl.sig r.priv.sl.path)):=by simp[rN,FO,G7,List.flatMap_cons]
theorem aAz(h:VF r):∀x∈rN (FO r),le2 x:=by
 intro x hx;rw[Y5]at hx;rcases List.mem_append.1 hx with hx|hx
 ·exact VO (jS h.sl) x hx
 rcases List.mem_append.1 hx with hx|hx
 ·exact ZF h x hx
 exact VO (jS h.psl) x hx
theorem SY(h:VF r):(rN (FO r)).length<=478:=by have h1:=VN (jS h.sl);have h2:=VN (jS h.psl);have h3:=ZE h;rw[Y5,aQF,aQF];omega
theorem AX{M:Nat}(hM:M<1000000000000000000):∀(L:List ByteArray),(∀s∈L,s.size<=M)->(aP L).length<=L.length*(M+22)
 | [],_=>aQV _
 |s::L,h=>by
  have ih:=AX hM L fun x hx=>h x (List.mem_cons_of_mem _ hx);have hs:=h s List.mem_cons_self;have hi:=mE (n:=(s.size:Int)) (by omega) (by omega);rw[show aP (s::L)=(oL s).data.toList++aP L by rw[aP,List.flatMap_cons];rfl,aQF,nO,qC,aQG,Nat.succ_mul];omega
theorem vL{L:List ByteArray}(h:∀x∈L,le2 x)(hn:L.length<=n):(aP L).length<=n*20022:=Nat.le_trans (AX (M:=20000) (by decide) L h) (Nat.mul_le_mul_right _ hn)
end Go.Proofs.YtmdicgjnmfolfaaGreatDoor
namespace Go.Abs
theorem aI.fin{P}{f}{args}{H}{Q a}(h:aI P f args H Q)(c:∀r H1,Q r H1->∃r' H2,Fin H H1 r H2 r'/\a r' H2):aI P f args H a :=fun I l w vs j i d=>(h I _ w _ j i d).mono fun _ w' ⟨r,H',I',ι',v,e,q,m,b,g⟩=>by
  obtain ⟨r',H2,k,hq'⟩:=c r _ q;obtain ⟨I2,ι2,a1,a2,a3⟩:=k ⟨I,l,H,w,[]⟩ rfl _ _ _ v b g m
  grind
end Go.Abs
namespace Go.Proofs.YtmdicgjnmfolfaaGreatDoor
open Go.Proofs.Tryz
open Go.Abs
variable{b:Bool}{r:GRec}
theorem not_not(h:(!b)=true):b=false:=by cases b;rfl;cases h
theorem oC(h:(!b)=false):b=true:=by cases b;cases h;rfl
theorem kS{α:Type}(f:α->List PV)(l:List α):((l.map f).take (0+l.length)).drop 0=l.map f:=by rw[aQW,List.drop_zero];exact List.take_of_length_le (by rw[aQE];exact aQK _)
theorem XU(l:List ByteArray):qK ⟨(aP l).toArray⟩=xX l:=rfl
theorem aC8(r:GRec)(hr:fR r)(hp:r.parents.length<549755813888)(H:aH):aI Tryz.prog 39 [av (bS r)] H (fun x H'=>x=.pv (aZ (mA r))/\H'=H):=by refine aI.pure ((QP r hr hp).fin ?_) (by simp[bS]) H;rintro _ _ ⟨rfl,rfl⟩;exact⟨_,[],Fin.fz (id:=971) (ob:=⟨WE r,1,9,cD (mA r)⟩) ((mA r).map encStr) rfl (eM _) (.osl (kS encStr _)) rfl trivial trivial,rfl,rfl⟩
theorem aC9(r:GRec)(hr:fR r)(hp:r.parents.length<549755813888){H:aH}(hno:H.get 971=none):aI Tryz.prog 39 [av (bS r)] H (fun x H'=>x=.osl 971 (WE r) 0 (mA r).length/\H'=(971,⟨WE r,1,9,cD (mA r)⟩)::H) :=aI.frame (QP r hr hp) (fun _ _ h=>by cases h) (fun _ _ h=>by cases h) (by simp[bS]) (fun id h=>.inr (by
  by_cases e:971=id
  ·subst e;exact hno
  simp[aH.get,kW e]at h))
theorem W8(r:GRec)(hr:fR r)(hp:r.parents.length<549755813888)(H:aH):aI Tryz.prog 16 [av (bS r)] H (fun x H'=>x=sv (rU r)/\H'=H):=by
 refine aI.pure ?_ (by simp[bS]) H;have hv:=fun H=>KF r hr hp H;have hpu:=fun H=>aC8 r hr hp H;rw[rU];refine Bd func16 rfl ntmps16<|Sr<|Dd (by exact cF (id:=1) rfl rfl rfl rfl rfl)<|Dd aM<|Zz<|Sq<|Sr<|Dd (mD aS aL)<|Dd (by exact aA rfl rfl aHF rfl (hv _))<|Dd iS<|Zz ?_;refine Cn ?_ ?_<;>intro hc1
 ·have hb:=not_not hc1;rw[aQC (by rw[hb];decide)];exact Sr<|Dd aM<|Zz<|aB<|Rt<|Qq
 have hb:=oC hc1;have hf:=lE hb;have hsz:=vL (KS hf) (FX hf);rw[aQD hb];have hjo:=fun H=>RK (mA r) H (by omega);have hsu:=fun H=>VD ⟨(aP (mA r)).toArray⟩ H (by rw[show (⟨(aP (mA r)).toArray⟩:ByteArray).size=(aP (mA r)).length from by simp[ByteArray.size]];omega);rw[XU]at hsu;exact aC<|Sr<|Dd (mD aS aL)<|Dd (by exact aA rfl rfl call39 rfl (hpu _))<|Dd (by exact aA rfl rfl call41 rfl (hjo _))<|Dd (by exact aA rfl rfl UT rfl (hsu _))<|Dd aM<|Zz<|aB<|Rt<|Qq
theorem aHh(h:fR r)(hv:VF r):∀v∈FO r,okI v:=by
 obtain ⟨_,_,_,_,⟨a1,a2,a3⟩,b1,b2,b3,b4,c1,c2,c3⟩:=h;intro v hv';simp only[FO,aQQ,aQU,or_false]at hv';rcases hv' with rfl|rfl|rfl|rfl|rfl|rfl
 ·exact⟨a1,a2.1,a3.1⟩
 ·exact trivial
 ·exact trivial
 ·exact b3.1
 ·exact⟨b4,fun q hq=>by
   obtain ⟨⟨q1,q2⟩,q3,q4⟩:=hv.tr q hq;exact⟨⟨by omega,by omega⟩,by omega,by omega⟩⟩
 exact⟨c1,c2.1,c3.1⟩
theorem aKm(h:fR r)(hv:VF r):∀v∈G7 r.priv,okI v:=by
 obtain ⟨_,_,_,_,_,b1,b2,b3,b4,c1,c2,c3⟩:=h;intro v hv';simp only[G7,aQQ,aQU,or_false]at hv';rcases hv' with rfl|rfl|rfl|rfl
 ·exact trivial
 ·exact trivial
 ·exact b3.1
 exact⟨b4,fun q hq=>by
  obtain ⟨⟨q1,q2⟩,q3,q4⟩:=hv.tr q hq;exact⟨⟨by omega,by omega⟩,by omega,by omega⟩⟩
theorem KJ(r:GRec)(hr:fR r)(hp:r.parents.length<549755813888)(H:aH):aI Tryz.prog 10 [av (bS r)] H (fun x H'=>x=.tup [sv (jO r).1,iv (jO r).2]/\H'=H):=by
 refine aI.pure ?_ (by simp[bS]) H;have hv:=fun H=>KF r hr hp H;have hpu:=fun H hno=>aC9 r hr hp (H:=H) hno;rw[jO];refine Bd func10 rfl ntmps10<|Sr<|Dd (by exact cF (id:=1) rfl rfl rfl rfl rfl)<|Dd aM<|Dd aM<|Zz<|Sq<|Sr<|Dd (mD aS aL)<|Dd (by exact aA rfl rfl aHF rfl (hv _))<|Dd iS<|Zz ?_;refine Cn ?_ ?_<;>intro hc1
 ·have hb:=not_not hc1;rw[aQC (by rw[hb];decide)];exact Sr<|Dd aM<|Dd aM<|Zz<|aB<|Ru<|Qq
 have hb:=oC hc1;have hf:=lE hb;have hsz:=vL (L:=pD r) (n:=506) (fun x hx=>(List.mem_append.1 hx).elim (KS hf x) (aAz hf x)) (by
  have:=FX hf;have:=SY hf;rw[pD,aQF];omega)
 have hpl:=FX hf;have hsl:=SY hf;rw[aQD hb];have hadd:=aA5 (FO r) (aHh hr hf) (WE r) (mA r) (show 6<1099511627776 by decide) (by omega);have hjo:=fun H=>RK (pD r) H (by omega);have hal:pD r=mA r++rN (FO r):=rfl;rw[<-hal]at hadd;obtain ⟨S,hS⟩:∃S,S=pD r:=⟨_,rfl⟩;obtain ⟨g,hg⟩:∃g,g=WE r+gIs (FO r):=⟨_,rfl⟩;rw[<-hS]at hadd hjo hsz |-;rw[<-hg]at hadd;have hof:(⟨(aP S).toArray⟩:ByteArray)=ofL (aP S):=rfl;rw[hof]at hjo;have hos:(ofL (aP S)).size=(aP S).length:=dH _;refine aC<|Sr<|Dd (mD aS aL)<|Dd (by exact aA rfl rfl call39 rfl (hpu _ rfl))<|Dd (by exact bU (id:=970) rfl aMU rfl rfl)<|Uu (jN I7)<|Zz<|Sr<|Dd (aT kQ)<|Dd (mD dD sizeOf25)<|Dd (by exact F4 (ps:=fZ r.sl) rfl (dR gY rfl) rfl)<|Dd (aT eS)<|Dd (aT xT)<|Dd (bF isAgg9)<|Dd (by exact fN (p:=.str r.priv.name) rfl (dR underlying9 rfl) rfl)<|Dd (aT eS)<|Dd (aT xS)<|Dd (bF isAgg9)<|Dd (by exact fN (p:=.str r.priv.reason) rfl (dR underlying9 rfl) rfl)<|Dd (aT eS)<|Dd (aT rB)<|Dd (bF aG)<|Dd (by exact fN (p:=aZ r.priv.sources) rfl (dR aD rfl) rfl)<|Dd (aT eS)<|Dd (aT mF)<|Dd (bF eW)<|Dd (by exact fN (p:=sN r.priv.trace) rfl (dR dM rfl) rfl) ?_;refine Dd (aT eS)<|Dd (aT nA)<|Dd (mD dD sizeOf25)<|Dd (by exact F4 (ps:=fZ r.priv.sl) rfl (dR gY rfl) rfl)<|Dd (by exact aQ ((FO r).map xV) rfl wV rfl rfl rfl rfl rfl (NY (FO r)))<|Dd (by exact aA rfl rfl wJ rfl (YB hadd ⟨rfl,rfl,trivial⟩ (by simp;rfl)))<|Zz<|Sq ?_;refine gM.ent (cX.fzG (id:=971) (E':=[(4,.ref 970 0 0 0)]) (H':=[(970,bx 1 72 [.pv (aZ S)])]) (S.map encStr) rfl (eM _) ?_ rfl ?_ ?_) ?_
 ·intro p hp;simp only[aQQ,aQU,or_false]at hp;rcases hp with rfl;exact⟨_,rfl,.same (by simp;rfl)⟩
 ·exact⟨⟨_,rfl,rfl,rfl,rfl,oD rfl (dF (.osl (kS encStr _)) oO)⟩,trivial⟩
 ·exact trivial
 refine Rg<|Dd (bF DV)<|Dd (by exact aA rfl rfl call41 rfl (hjo _))<|Dd aM<|Zz<|Sq<|Sr<|Dd aE<|Dd (kG underlying9)<|Dd iG<|Zz ?_;refine Cn ?_ ?_<;>intro hc2
 ·have hlt:20000<(aP S).length:=by have:=aQA hc2;omega
  rw[aQD hlt];exact Sr<|Dd aM<|Dd aM<|Zz<|aB<|Ru<|Qq
 have hlt:¬ 20000<(aP S).length:=by have:=aQB hc2;omega
 rw[aQC hlt];exact aC<|Sr<|Dd aE<|Dd aM<|Dd aM<|Zz<|aB<|Ru<|Qq
theorem GJ(r:GRec):(rU r).size<=20000:=by
 by_cases h:eQ r=true
 ·rw[rU,aQD h];exact Nat.le_trans (Nat.le_of_eq (gH _)) (by decide)
 rw[rU,aQC h];decide
theorem Q8(r:GRec)(hr:fR r)(hp:r.parents.length<549755813888)(hb:eQ r=true)(H:aH):aI Tryz.prog 82 [av (bS r)] H (fun x H'=>x=sv (qV r)/\H'=H):=by
 refine aI.pure ?_ (by simp[bS]) H;have hid:=fun H=>W8 r hr hp H;have hf:=lE hb;have hpl:=ZE hf;have hadd:=aA5 (G7 r.priv) (aKm hr hf) 0 [prW,rU r] (show 4<1099511627776 by decide) (by simp only[aQG,List.length_nil];omega);have his:=GJ r;have hsz:=vL (L:=[prW,rU r]++rN (G7 r.priv)) (n:=422) (fun x hx=>(List.mem_append.1 hx).elim (fun hx=>by
   simp only[aQQ,aQU,or_false]at hx;rcases hx with rfl|rfl
   ·exact(by decide:prW.size<=20000)
   exact his) (ZF hf x)) (by rw[aQF,aQG,aQG,List.length_nil];omega)
 rw[qV];have hli:=fun H=>aFY ([prW,rU r]++rN (G7 r.priv)) H (by omega);obtain ⟨S,hS⟩:∃S,S=[prW,rU r]++rN (G7 r.priv):=⟨_,rfl⟩;obtain ⟨g,hg⟩:∃g,g=0+gIs (G7 r.priv):=⟨_,rfl⟩;rw[<-hS]at hadd hli |-;rw[<-hg]at hadd;obtain ⟨i,hi⟩:∃i,i=rU r:=⟨_,rfl⟩;rw[<-hi]at hid hadd;refine Bd func82 rfl ntmps82<|Sr<|Dd (by exact cF (id:=1) rfl rfl rfl rfl rfl)<|Dd aM<|Zz<|Sr<|Dd (mD aS aL)<|Dd (by exact aA rfl rfl UU rfl (hid _))<|Dd (by exact fT (id:=971) rfl Y1 rfl rfl rfl rfl (by intro r hr;simp only[aQQ,aQU,or_false]at hr;rcases hr with rfl|rfl<;>rfl) rfl)<|Dd (by exact bU (id:=970) rfl aMU rfl rfl)<|Uu (jN I7)<|Zz<|Sr<|Dd (aT eS)<|Dd (aT xT)<|Dd (bF isAgg9)<|Dd (by exact fN (p:=.str r.priv.name) rfl (dR underlying9 rfl) rfl)<|Dd (aT eS)<|Dd (aT xS)<|Dd (bF isAgg9)<|Dd (by exact fN (p:=.str r.priv.reason) rfl (dR underlying9 rfl) rfl)<|Dd (aT eS)<|Dd (aT rB)<|Dd (bF aG)<|Dd (by exact fN (p:=aZ r.priv.sources) rfl (dR aD rfl) rfl) ?_;refine Dd (aT eS)<|Dd (aT mF)<|Dd (bF eW)<|Dd (by exact fN (p:=sN r.priv.trace) rfl (dR dM rfl) rfl)<|Dd (by exact aQ ((G7 r.priv).map xV) rfl wV rfl rfl rfl rfl rfl (NY (G7 r.priv)))<|Dd (by exact aA rfl rfl wJ rfl (YB hadd ⟨rfl,rfl,trivial⟩ (by simp;rfl)))<|Zz<|Sq ?_;refine gM.ent (cX.fzG (id:=971) (E':=[(3,.ref 970 0 0 0)]) (H':=[(970,bx 1 72 [.pv (aZ S)])]) (S.map encStr) rfl (eM _) ?_ rfl ?_ ?_) ?_
 ·intro p hp;simp only[aQQ,aQU,or_false]at hp;rcases hp with rfl;exact⟨_,rfl,.same (by simp;rfl)⟩
 ·exact⟨⟨_,rfl,rfl,rfl,rfl,oD rfl (dF (.osl (kS encStr _)) oO)⟩,trivial⟩
 ·exact trivial
 exact Rg<|Dd (bF DV)<|Dd (by exact aA rfl rfl call130 rfl (hli _))<|Dd aM<|Zz<|aB<|Rt<|Qq
def rO(r:GRec):GRec:={r with priv:=⟨sNil,sNil,[],[],⟨0,[],[]⟩⟩}
theorem aBj(r:GRec)(H:aH):aI Tryz.prog 21 [av (bS r)] H (fun x H'=>x=av (bS (rO r))/\H'=H):=by refine aI.pure ?_ (by simp[bS]) H;refine Bd func21 rfl ntmps21<|Sr<|Dd (by exact cF (id:=1) rfl rfl rfl rfl rfl)<|Dd (by exact bU (id:=2) rfl FF rfl rfl)<|Zz<|Sr<|Dd (rJ aLv)<|Dd (aT eS)<|Uu (by exact iY rfl sizeOf28 rfl rfl rfl rfl rfl rfl rfl (aQR rfl) rfl rfl)<|Zz<|Sr<|Dd (mD aS aL)<|Uu (jN aL)<|Zz<|aB ?_;refine dV (H':=[]) (.inr rfl) rfl (eA rfl aS aL rfl rfl rfl (by simp only[Zl,encStr];rfl) rfl) (Fin.wk (by simp[bS]) trivial trivial) ?_;exact Qq
end Go.Proofs.YtmdicgjnmfolfaaGreatDoor
namespace Go.Abs
variable{F:FuncId}{f:Operand}{args:Array Operand}{P:Program}{H H0:aH}
section
abbrev YG:=List PanicEntry
def BW(P:Program)(N:Nat)(o:Oper)(E:dG)(H:aH)(R:AV->aH->Prop)(PP:YG->aH->Prop):Prop :=∀(a:Act) (w:World) (I:Nat->Prop) (ι:kY),a.tmps.size=N->Rel I ι H w->jL w I ι H E a->∀(K:Act->World->Prop) (Q:Exit->Act->World->Prop),
  (∀c w' I' ι' r H',R r H'->VRel w' I' ι' H' c r->Rel I' ι' H' w'->Step I ι H w I' ι' H' w'->K (a.put o.dst c) w') ->
  (∀ch w' I' ι' H',PP ch H'->Rel I' ι' H' w'->Step I ι H w I' ι' H' w'->Q (.panic ch) a w')->o.wpW P a w K Q
theorem BW.of{P}{N}{o}{E}{H}{R}{PP}(h:OpR P N o E H R):BW P N o E H R PP :=fun a w I ι e c d K Q b _=>h a w I _ trivial e c d K Q b
theorem BW.opr{P}{N}{o}{E}{H}{R}(h:BW P N o E H R (fun _ _=>False)):OpR P N o E H R :=fun a w I ι _ f c e K Q b=>h a w I _ f c e K Q b (fun _ _ _ _ _ d=>d.elim)
def fD(P:Program)(f:FuncId)(args:List AV)(H:aH)(Q:AV->aH->Prop)(PP:YG->aH->Prop):Prop :=∀(I:Nat->Prop) (ι:kY) (w:World) (vs:Array Value),Rel I ι H w->vs.size=args.length->(∀(i:Nat) (v:Value) (a:AV),vs[i]?=some v->args[i]?=some a->VRel w I ι H v a) ->
  Calls P f vs w fun e w'=>(∃r H' I' ι' v,e=.returned v/\Q r H'/\VRel w' I' ι' H' v r/\Rel I' ι' H' w'/\Step I ι H w I' ι' H' w')\/(∃ch H' I' ι',e=.panicked ch/\PP ch H'/\Rel I' ι' H' w'/\Step I ι H w I' ι' H' w')
section
variable{f:FuncId}{args:List AV}{Q:AV->aH->Prop}{PP:YG->aH->Prop}
theorem fD.of(h:aI P f args H Q):fD P f args H Q PP:=fun I ι w vs b a c=>(h I _ w _ b a c).mono fun _ _ h=>.inl h
theorem fD.mono{g}{PP'}(h:fD P f args H Q PP)(l:∀r H',Q r H'->g r H')(m:∀c H',PP c H'->PP' c H'):fD P f args H g PP' :=fun I ι w vs k j i=>(h I _ w _ k j i).mono fun _ _ h=>h.elim (fun⟨r,H',d,b,v,e,q,a⟩=>.inl ⟨r,H',d,b,v,e,l _ _ q,a⟩) (fun⟨c,H',d,b,e,q,a⟩=>.inr ⟨c,H',d,b,e,m _ _ q,a⟩)
theorem fD.calls(h:fD P f args H Q PP)(d:∀a H',¬ PP a H'):aI P f args H Q :=fun I ι w vs c b e=>(h I _ w _ c b e).mono fun _ _ h=>h.elim id (fun⟨a,H',_,_,_,q,_⟩=>(d _ _ q).elim)
end
section
variable{N:Nat}{o:Oper}{E:dG}{Q:AV->aH->Prop}{PP:YG->aH->Prop}
theorem eF{F}{f}{args}{c}{e}(m:o.op=.call {callee:=.value f,args:=args,argTypes:=c})(p:aR E f=some (.pv (.fn F)))
  (q:∀(args) (w),(callFunc F args).run P w=.ok (.enter F args) w) (g:xM E args.toList=some e) (h:fD P F e H Q PP):BW P N o E H Q PP:=by
 intro a w I r _ n j K QQ hk hp;have d:=(aJ j p).fn_inv;obtain ⟨h1,k⟩:=nT j (mJ g);unfold Oper.wpW execOp;simp[m,resolve,d,Deferred.ofValue,Sem.run_bind,Sem.run_pure,Result.andThen_ok,invoke,q,Oper.uponW_enter];refine(h I r w _ n (by simp_all) (fun i v b g l=>k i v b (by simp_all) l)).mono ?_
 grind
theorem D0{m:Array TypeId}{k c:List AV}(x:o.op=.call {callee:=.value f,args:=args,argTypes:=m})(t:aR E f=some (.clo F c))
  (s:∀(args:Array Value) (w:World),(callFunc F args).run P w=.ok (.enter F args) w) (d:xM E args.toList=some k) (h:fD P F (k++c) H Q PP):BW P N o E H Q PP:=by
 intro a w I u _ r n K QQ hk hp;have e:=aJ n t;generalize j:a.eval f=fc at e;obtain ⟨h1,p⟩:=nT n (mJ d);cases e with
 | @clo _ us _ hl q =>
  unfold Oper.wpW execOp;simp only[x,resolve,j,Deferred.ofValue,Sem.run_bind,Sem.run_pure,Result.andThen_ok,invoke,s,Oper.uponW_enter,Array.empty_append];have l:args.size=k.length:=by omega
  refine(h I u w _ r (by simp_all) (fun i v b d g=>?_)).mono ?_
  ·by_cases hi:i<args.size
   ·rw[Array.getElem?_append_left (by simp_all)]at d;rw[List.getElem?_append_left (by omega)]at g;exact p i v b (by simp_all) g
   rw[Array.getElem?_append_right (by grind)]at d;rw[List.getElem?_append_right (by omega)]at g;simp only[Array.size_map]at d;rw[l]at d;exact q _ v b d g
  grind
end
section
variable{N:Nat}{o:Oper}{E:dG}{Q:AV->aH->Prop}{PP:YG->aH->Prop}{t t' T:TypeId}{x y:Operand}
theorem nQ{f}{xs}{c}(e:o.op=.makeFunc (.func f) xs #[])(d:xM E xs.toList=some c):cU P N o E H (.bnd f c) H :=.of_run fun a w I ι _ h=>by
  obtain ⟨h1,j⟩:=nT h (mJ d);exact⟨.func _ (xs.map a.eval) #[],by simp[execOp,e,Instr.makeFunc],.bnd (by simp_all) (fun i v b d g=>j i v b (by simp_all) g)⟩
theorem D1{j:Array TypeId}{l xs:List AV}(r:o.op=.call {callee:=.value f,args:=args,argTypes:=j})(u:aR E f=some (.bnd F xs))
  (z:∀(args:Array Value) (w:World),(callFunc F args).run P w=.ok (.enter F args) w) (d:xM E args.toList=some l) (h:fD P F (xs++l) H Q PP):BW P N o E H Q PP:=by
 intro a w I A _ m k K QQ hk hp;have c:=aJ k u;generalize g:a.eval f=fc at c;obtain ⟨h1,n⟩:=nT k (mJ d);cases c with
 | @bnd _ s _ hl p =>
  unfold Oper.wpW execOp;simp only[r,resolve,g,Deferred.ofValue,Sem.run_bind,Sem.run_pure,Result.andThen_ok,invoke,z,Oper.uponW_enter,Array.append_empty];refine(h I A w _ m (by simp_all) (fun i v b d e=>?_)).mono ?_
  ·by_cases q:i<s.size
   ·rw[Array.getElem?_append_left q]at d;rw[List.getElem?_append_left (by omega)]at e;exact p i v b d e
   rw[Array.getElem?_append_right (by omega)]at d;rw[List.getElem?_append_right (by omega)]at e;exact n _ v b (by simp_all) e
  grind
abbrev ms(t:TypeId):YG:=[{v:=.iface t (.agg #[]),recovered:=false}]
theorem QU(e:o.op=.panic x)(f:aR E x=some (.pv (.ifa t []))):BW P N o E H (fun _ _=>False) (fun c H'=>c=ms t/\H'=H):=by intro a w I ι _ g h K QQ hk b;obtain ⟨cs,d,hl,_⟩:=(aJ h f).ifa_inv;have:=Array.eq_empty_of_size_eq_zero (by omega);subst this;unfold Oper.wpW execOp;simp[e,d];exact b _ w I _ H ⟨rfl,rfl⟩ g (Step.refl _ _ _ _)
end
section
variable{G0:aH}{N:Nat}{E:dG}{ops:Array Oper}{Q:Exit->dG->aH->Prop}{o:Oper}{rest:List Oper}{R:AV->aH->Prop}{PP:YG->aH->Prop}
def ALP(P:Program)(G0:aH)(N:Nat)(ops:Array Oper)(Q:Exit->dG->aH->Prop)(l:List Oper)(E:dG)(H:aH):Prop :=∀G:Entry,G.H=G0->∀a w,St G N E H a w->∀ro,(ro=none\/l.all Oper.noDefer=true)->wpListIn (RF ro) 0 P ops (fun e a w=>∃E H,Q e E H/\St G N E H a w) l a w
theorem K7(h:Q .normal E H):ALP P G0 N ops Q [] E H:=fun _ _ a w b _ _=>⟨E,H,h,b⟩
theorem St.opP{G}{a}{w}(e:St G N E H a w)(hd:iW N o.dst=true)(h:BW P N o E H R PP){K}{Q}
  (u:∀r H' a' w',R r H'->St G N (kZ E o.dst r) H' a' w'->K a' w') (m:∀j H' w',PP j H'->St G N E H' a w'->Q (.panic j) a w') {ro} (z:ro=none\/o.noDefer=true):o.wpIn (RF ro) 0 P a w K Q:=by
 refine Oper.wpW_in z ?_;obtain ⟨I,ι,g,i,l⟩:=e.rel;refine h a w I _ e.size g l K Q ?_ ?_
 ·intro c w' k d r H' s x f b;refine u r _ _ _ s ⟨?_,?_,k,d,f,i.trans b,jL.put g b l x (by rw[e.size];exact hd)⟩
  ·rw[jP];exact e.defers.step g b
  have:=e.size;cases o.dst<;>simpa[Act.put]using this
 intro j w' k d H' p f b;exact m _ _ _ p ⟨e.defers.step g b,e.size,k,d,f,i.trans b,fun t v n=>let ⟨c,q,y⟩:=l t v n;⟨c,q,y.mono g b⟩⟩
theorem aG9(l:o.guard=none)(hd:iW N o.dst=true)(h:BW P N o E H R PP)(e:∀d H',PP d H'->Q (.panic d) E H')(i:∀r H',R r H'->ALP P G0 N ops Q rest (kZ E o.dst r) H'):ALP P G0 N ops Q (o::rest) E H:=by intro G j a w k ro c;refine wpListIn_plain l fun K' m=>?_;exact k.opP hd h (fun r H' a' g n b=>m _ _ (i r _ n G j _ _ b _ (lZ c).2)) (fun d H' g f b=>⟨E,H',e _ _ f,b⟩) (lZ c).1
theorem aKI(b:o.guard=none)(hd:iW N o.dst=true)(h:OpR P N o E H R)(a:∀r H',R r H'->ALP P G0 N ops Q rest (kZ E o.dst r) H'):ALP P G0 N ops Q (o::rest) E H :=aG9 (PP:=fun _ _=>False) b hd (.of h) (fun _ _ h=>h.elim) a
theorem hU{d}{v}{H2}(a:o.guard=none)(hd:o.dst=some d)(c:Nat.blt d N=true)(h:cU P N o E H v H2)(e:ALP P G0 N ops Q rest ((d,v)::E) H2):ALP P G0 N ops Q (o::rest) E H :=aKI a (by rw[hd];exact c) h fun r H' ⟨b,f⟩=>by subst b f;rw[hd];exact e
theorem aGa{v}{H2}(d:o.guard=none)(hd:o.dst=none)(h:cU P N o E H v H2)(a:ALP P G0 N ops Q rest E H2):ALP P G0 N ops Q (o::rest) E H :=aKI d (by rw[hd];rfl) h fun r H' ⟨c,b⟩=>by subst c b;rw[hd];exact a
theorem UJ{d}{v}{H2}{F}(j:o.guard=none)(hd:o.dst=some d)(e:Nat.blt d N=true)(h:BW P N o E H (fun r H'=>r=v/\H'=H2/\F) PP)(b:∀a H',PP a H'->Q (.panic a) E H')(f:F->ALP P G0 N ops Q rest ((d,v)::E) H2):ALP P G0 N ops Q (o::rest) E H :=aG9 j (by rw[hd];exact e) h b fun r H' ⟨c,g,i⟩=>by subst c g;rw[hd];exact f i
theorem pC(c:o.guard=none)(hd:iW N o.dst=true)(h:BW P N o E H (fun _ _=>False) PP)(b:∀a H',PP a H'->Q (.panic a) E H'):ALP P G0 N ops Q (o::rest) E H:=aG9 c hd h b (fun _ _ h=>h.elim)
theorem gA{id}(h:ALP P G0 N ops Q ops.toList E H):gM P G0 N (.region id ops false) Q E H:=fun G d a w b ro c=>wpIn_region_list (h G d a w b _ c)
end
def aGv(P:Program)(fn:Func)(G0:aH)(Q:AV->aH->Prop)(PP:YG->aH->Prop)(e:Exit)(E:dG)(H:aH):Prop :=JC P fn G0 Q e E H\/∃ch H',e=.panic ch/\Fin G0 H (.tup []) H' (.tup [])/\PP ch H'
theorem I6{P}{a}{G0 H}{Q}{PP}{e}{E}(h:JC P a G0 Q e E H):aGv P a G0 Q PP e E H:=.inl h
theorem CX{P}{d}{G0 H H'}{Q}{PP}{a:YG}{E}(c:Fin G0 H (.tup []) H' (.tup []))(b:PP a H'):aGv P d G0 Q PP (.panic a) E H:=.inr ⟨a,H',rfl,c,b⟩
theorem fD.body{f:FuncId}{o:Func}{c:Code}{args:List AV}{Q:AV->aH->Prop}{PP:YG->aH->Prop}{N:Nat}(V:P.funcs[f]?=some o)(Y:o.body=some c)(hN:o.ntmps=N)(hlen:args.length<=N)
  (h:gM P H N c (aGv P o H Q PP) (mP args) H):fD P f args H Q PP:=by
 intro I n w s O hl S;refine callsIn_wide.1 (callsIn_of_wp_marks (F:=Fence.wide) (n:=0) V Y trivial ?_);have F:St ⟨I,n,H,w,[]⟩ N (mP args) H {tmps:=s++Array.replicate (o.ntmps - s.size) undef,defers:=[]} w:=by
  refine⟨rP.nil _ _ _,?_,I,n,O,Step.refl _ _ _ _,fun t a Z=>?_⟩
  ·grind
  have R:=uF Z;have G:t<s.size:=by grind
  have W:s[t]?=some s[t]:=Array.getElem?_eq_getElem G;exact⟨s[t],by grind,S t _ a W R⟩
 refine wpIn_mono (h ⟨I,n,H,w,[]⟩ rfl _ w F none (.inl rfl)) ?_;rintro e y m ⟨E',k,(⟨U,r,C,r',z,i,L⟩|⟨B,z,rfl,i,L⟩),D⟩
 ·have u:LeavesInM Fence.wide 0 P o y.tmps (fun e m=>(∃r k g b v,e=.returned v/\Q r k/\VRel m g b k v r/\Rel g b k m/\Step I n H w g b k m)\/(∃B k g b,e=.panicked B/\PP B k/\Rel g b k m/\Step I n H w g b k m)) y.defers .returning m:=by
   obtain ⟨g,b,q,d,p⟩:=D.rel;refine uA D.defers q d p ?_;intro E l j A;obtain ⟨v,h1,X⟩:=C y E g b l A;obtain ⟨M,x,J,K,T⟩:=i ⟨I,n,H,w,[]⟩ rfl g b E v l j X
   grind
  rcases U with rfl|rfl
  ·exact u
  exact u
 obtain ⟨g,b,q,d,p⟩:=D.rel;show LeavesInM Fence.wide 0 P o y.tmps _ y.defers (.panicking B) m;refine xQ (by simp) D.defers q d p ?_;intro E l j A;obtain ⟨M,x,J,K,T⟩:=i ⟨I,n,H,w,[]⟩ rfl g b E (.tuple #[]) l j (.tup rfl (by simp));exact .inr ⟨B,z,M,x,rfl,L,J,K⟩
theorem NR{I x:Nat->Prop}{ι s:kY}{H':aH}{w w':World}(J:Rel I ι H w)(G:Sub H0 H)(k2:Rel x s H' w')(m:Step I ι H0 w x s H' w')(hk:∀id,(H'.get id).isSome=true->(H0.get id).isSome=true\/H.get id=none):
  ∃f,Rel x f (H'++H) w'/\Step I ι H w x f (H'++H) w'/\∀v a,VRel w' x s H' v a->VRel w' x f (H'++H) v a:=by
 obtain ⟨f,hι2⟩:∃f:kY,f=(fun j=>if(H'.get j).isSome=true then s j else ι j):=⟨_,rfl⟩;have B:∀j o,H'.get j=some o->f j=s j:=fun j o d=>by simp_all
 have D:∀j,H'.get j=none->f j=ι j:=fun j d=>by simp_all
 have W:∀j o,H'.get j=some o->aH.get (H'++H) j=some o:=fun j o d=>by rw[gD,d]
 have F:∀j,H'.get j=none->aH.get (H'++H) j=H.get j:=fun j d=>by rw[gD,d]
 have U:∀j o,H.get j=some o->H'.get j=none->H0.get j=none:=fun j o d E=>by
  cases e:H0.get j with
  |none=>rfl
  |some o0 =>
   obtain ⟨l,T,_⟩:=m.objs j o0 e
   simp_all
 have y:∀j o b c,H.get j=some o->H'.get j=none->ι j=some (b,c)->¬ KA ι H0 b:=fun j o b c d E K ⟨n,l,C,k,R⟩=>by
  have:=J.inj j n o l b c C d (G _ _ k) K R;subst this;rw[U j o d E]at k;cases k
 have O:Step I ι H w x f (H'++H) w':=by
  refine⟨m.os,m.tape,m.output,m.size,fun a ha E=>m.froz a ha (fun h=>E (h.sub G)),m.imm,fun b K=>?_,?_,?_,?_⟩
  ·rcases m.immNew b K with g|g|g
   ·simp_all
   ·exact .inr (.inl (g.sub G))
   omega
  ·rintro b ⟨j,o,c,d,t⟩;cases e:H'.get j with
   |some l =>
    rw[B j l e]at t;rcases m.own b ⟨j,l,c,e,t⟩with g|g
    ·exact .inl (g.sub G)
    omega
   |none =>
    rw[D j e]at t;rw[F j e]at d;exact .inl ⟨j,o,c,d,t⟩
  ·intro b K E;exact m.keep b K (fun h=>E (h.sub G))
  intro j o d;cases e:H'.get j with
  |some l =>
   rcases hk j (by rw[e];rfl)with g|g
   ·obtain ⟨o0,Y⟩:=Option.isSome_iff_exists.1 g;have:=G _ _ Y;rw[d]at this;cases this;obtain ⟨S,Z,q2,q3⟩:=m.objs j o Y;exact⟨S,W j S Z,q2,fun e=>by rw[B j S Z];exact q3 e⟩
   rw[d]at g;cases g
  |none=>exact⟨o,(F j e).trans d,aQK _,fun _=>⟨D j e,rfl,fun _=>aQK _⟩⟩
 have L:∀ {v:Value} {a:AV},VRel w' x s H' v a->VRel w' x f (H'++H) v a:=fun V =>
  V.mono' (fun _ _=>rfl) (fun _ h=>h) (fun id o X=>⟨o,W id o X,aQK _,fun _=>⟨B id o X,rfl,fun _=>aQK _⟩⟩)
 refine⟨f,⟨k2.imm,fun j o d=>?_,fun j n o l b c C d k t i=>?_,k2.glob⟩,O,fun v a h=>L h⟩
 ·cases e:H'.get j with
  |some l =>
   rw[W j l e]at d;obtain rfl:l=o:=Option.some.inj d;exact(k2.obj j l e).keep (B j l e) (fun _ _ _ _=>⟨rfl,fun h=>h⟩) (fun r _ a _ v Q=>L Q)
  |none =>
   rw[F j e]at d;refine(J.obj j o d).keep (D j e) (fun P z T A=>⟨m.keep P A (y j o P z d e T),fun e3 hi=>?_⟩) (fun r _ a _ v Q=>Q.mono J O);rcases m.immNew P hi with g|g|g
   ·exact e3 g
   ·exact y j o P z d e T g
   omega
 cases e:H'.get j with
 | some q =>
  rw[B j q e]at t;cases u:H'.get n with
  |some N =>
   rw[B n N u]at i;exact k2.inj j n q N b c C e u t i
  |none =>
   rw[D n u]at i;rw[F n u]at k;have A:=J.lt ⟨n,l,C,k,i⟩;rcases m.own b ⟨j,q,c,e,t⟩with g|g
   ·exact absurd g (y n l b C k u i)
   omega
 | none =>
  rw[D j e]at t;rw[F j e]at d;cases u:H'.get n with
  |some N =>
   rw[B n N u]at i;have A:=J.lt ⟨j,o,c,d,t⟩;rcases m.own b ⟨n,N,C,u,i⟩with g|g
   ·exact absurd g (y j o b c d e t)
   omega
  |none =>
   rw[D n u]at i;rw[F n u]at k;exact J.inj j n o l b c C d k t i
theorem fD.conv{P}{f}{args}{H}{Q n}{PP PP'}(h:fD P f args H Q PP)(u:∀r H',Q r H'->∃H2,(∀j,H2.get j=H'.get j)/\n r H2)(x:∀c H',PP c H'->∃H2,(∀j,H2.get j=H'.get j)/\PP' c H2):fD P f args H n PP' :=fun I ι w vs p t o=>(h I _ w _ p t o).mono fun _ _ h=>by
  rcases h with⟨r,H',k,b,v,e,q,s,d,i⟩|⟨c,H',k,b,e,q,d,i⟩
  ·obtain ⟨H2,m,a⟩:=u r _ q;obtain ⟨l,g⟩:=d.congr m;exact .inl ⟨r,H2,k,b,v,e,a,s.mono d g,l,i.trans g⟩
  obtain ⟨H2,m,a⟩:=x _ _ q;obtain ⟨l,g⟩:=d.congr m;exact .inr ⟨c,H2,k,b,e,a,l,i.trans g⟩
theorem fD.frame{f:FuncId}{args:List AV}{R}{PP}(h:fD P f args H0 R PP)(d:Sub H0 H)(s:eI H0)(y:∀a∈args,Clo H0 a)
  (g:∀r H1,R r H1->∀id,(H1.get id).isSome=true->(H0.get id).isSome=true\/H.get id=none) (l:∀c H1,PP c H1->∀id,(H1.get id).isSome=true->(H0.get id).isSome=true\/H.get id=none) :
  fD P f args H (fun r H'=>∃K,R r K/\H'=K++H) (fun c H'=>∃K,PP c K/\H'=K++H):=by
 intro I t w C j B x;refine(h I t w C (j.restrict d s) B (fun i v a A q=>(x i v a A q).restrict d (y a (aQO q)))).mono ?_;rintro e w' (⟨r,H',E,k,v,rfl,n,k1,o,p⟩|⟨c,H',E,k,rfl,n,o,p⟩)
 ·obtain ⟨m,u,z,D⟩:=NR j d o p (g r H' n)
  grind
 obtain ⟨m,u,z,D⟩:=NR j d o p (l c H' n)
 grind
end
end Go.Abs
