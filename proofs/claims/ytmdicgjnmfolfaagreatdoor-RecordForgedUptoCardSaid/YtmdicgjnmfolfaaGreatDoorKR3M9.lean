/-
  Parts of the proof: rules of an abstract program logic, contracts of functions, plain laws. Conditions: each theorem's own.
-/
import Derived.Test.YtmdicgjnmfolfaaGreatDoorKR3M8
set_option linter.unusedVariables false
set_option linter.unusedSimpArgs false
set_option maxRecDepth 100000
set_option maxHeartbeats 8000000
namespace Go.Proofs
open Tryz
theorem TW:type_of% call14:=call14
theorem GZ:type_of% call16:=call16
theorem iH:type_of% isAgg28:=isAgg28
theorem bQ:type_of% isAgg30:=isAgg30
end Go.Proofs
namespace Go.Proofs.YtmdicgjnmfolfaaGreatDoor
open Go.Proofs.Tryz
open Go.Abs
variable{α:Type}
def S7{α:Type}(e:α->α->Bool)(a b:List α):Bool:=decide (a.length=b.length)&&(List.range a.length).all fun k=>match a[k]?,b[k]? with|some x,some y=>e x y|_,_=>true
theorem WI{e:α->α->Bool}(he:∀x y,e x y=true↔x=y){a b:List α}:S7 e a b=true↔a=b:=by
 constructor
 ·intro h;simp only[S7,aP3,aP1,List.all_eq_true,List.mem_range]at h;apply List.ext_getElem h.1;intro k h1 h2;have:=h.2 k h1;rw[aPZ h1,aPZ h2]at this;exact(he _ _).1 this
 rintro rfl;simp only[S7,aP3,aP1,List.all_eq_true,List.mem_range,true_and];intro k hk;rw[aPZ hk];exact(he _ _).2 rfl
theorem WJ{e:α->α->Bool}{a b:List α}{k:Nat}{x y:α}(hx:a[k]?=some x)(hy:b[k]?=some y)(h:e x y=false):S7 e a b=false:=by have hk:=(aPY.1 hx).1;rw[S7,Bool.and_eq_false_iff];right;rw[List.all_eq_false];exact⟨k,List.mem_range.2 hk,by rw[hx,hy];simp[h]⟩
theorem QT{e:α->α->Bool}{a b:List α}(hl:a.length=b.length)(h:∀k,k<a.length->∀x y,a[k]?=some x->b[k]?=some y->e x y=true):S7 e a b=true:=by simp only[S7,aP3,aP1,List.all_eq_true,List.mem_range];refine⟨hl,fun k hk=>?_⟩;rw[aPZ hk,aPZ (by omega)];exact h k hk _ _ (aPZ hk) (aPZ (by omega))
def IS(a b:ByteArray):Bool:=decide (a=b)
theorem aB1(a b:ByteArray):IS a b=true↔a=b:=by simp[IS]
def EA(a b:GObj):Bool:=decide (a.id=b.id)&&decide (a.kind=b.kind)&&(decide (a.x=b.x)&&decide (a.y=b.y))&&decide (a.refs.length=b.refs.length)&&decide (a.tags.length=b.tags.length)
def H4(a b:GObj):Bool:=EA a b&&(S7 IS a.refs b.refs&&S7 sR a.tags b.tags)
theorem ZE{a b:GObj}:H4 a b=true↔a=b:=by
 rw[H4,aP3,aP3,WI aB1,WI PA];cases a;cases b;simp only[EA,aP3,aP1,GObj.mk.injEq];constructor
 ·rintro⟨⟨⟨⟨⟨a1,a2⟩,a3,a4⟩,a5⟩,a6⟩,a7,a8⟩;exact⟨a1,a2,a3,a4,a7,a8⟩
 rintro⟨a1,a2,a3,a4,a7,a8⟩;exact⟨⟨⟨⟨⟨a1,a2⟩,a3,a4⟩,by rw[a7]⟩,by rw[a8]⟩,a7,a8⟩
def MV(a b:GObj)(n1 n2 n3 n4:Int):Bool:=!decide (a.id=b.id)||!decide (a.kind=b.kind)||!(decide (a.x=b.x)&&decide (a.y=b.y))||!decide (n1=n2)||!decide (n3=n4)
theorem QK(a b:GObj):MV a b ((a.refs.map encStr).length:Int) ((b.refs.map encStr).length:Int) ((a.tags.map bJ).length:Int) ((b.tags.map bJ).length:Int)=!EA a b:=by simp only[MV,EA,aPU,Bool.not_and,Int.natCast_inj]
theorem aDi(a b:GObj)(H:aH)(ha:a.refs.length<4611686018427387904)(ha2:a.tags.length<4611686018427387904):aI Tryz.prog 179 [av (bS a),av (bS b)] H (fun r H'=>r=bv (H4 a b)/\H'=H):=by
 refine Pu ?_;have hra:(a.refs.map encStr).length=a.refs.length:=aPU _;have hta:(a.tags.map bJ).length=a.tags.length:=aPU _;refine Bd func179 rfl ntmps179<|Sr<|Dd (by exact cD (id:=2) rfl rfl rfl rfl rfl)<|Dd (by exact cD (id:=3) rfl rfl rfl rfl rfl)<|Dd aL<|Zz<|Sq<|Sq ?_;refine aT (t:=43) (n:=41) (X:=MV a b ((a.refs.map encStr).length:Int) ((b.refs.map encStr).length:Int) ((a.tags.map bJ).length:Int) ((b.tags.map bJ).length:Int)) ?_ ?_
 ·all_goals refine Dd (aS nU) ?_
  all_goals refine Dd (bC isAgg9)<|Dd (aS nU)<|Dd (bC isAgg9)<|Dd IU<|Dm ?_
  all_goals refine Sp 12 (fun h12=>?_) fun h12=>?_
  all_goals try contradiction
  all_goals first|refine Fo<|Fo<|Fo<|Fo<|Fo ?_|refine On (aS dZ)<|On (bC isAgg3)<|On (aS dZ)<|On (bC isAgg3)<|On xY ?_
  all_goals refine Dd cG<|Dm ?_
  all_goals refine Sp 19 (fun h19=>?_) fun h19=>?_
  all_goals try contradiction
  all_goals first|refine Fo<|Fo<|Fo<|Fo<|Fo ?_|refine On (aS lV)<|On (by exact aM rfl dS sizeOf68 rfl rfl rfl rfl (by simp only[Zl,bJ,bS,encStr];rfl) rfl)<|On (aS lV)<|On (by exact aM rfl dS sizeOf68 rfl rfl rfl rfl (by simp only[Zl,bJ,bS,encStr];rfl) rfl)<|On (by exact xW rfl rfl rfl rfl rfl gZ (R1 _ _ _ _)) ?_
  all_goals refine Dd cG<|Dm ?_
  all_goals refine Sp 26 (fun h26=>?_) fun h26=>?_
  all_goals try contradiction
  all_goals first|refine Fo<|Fo<|Fo<|Fo<|Fo<|Fo<|Fo ?_|refine On (aS dT)<|On (bC aF)<|On (fE aD)<|On (aS dT)<|On (bC aF)<|On (fE aD)<|On xY ?_
  all_goals refine Dd cG<|Dm ?_
  all_goals refine Sp 35 (fun h35=>?_) fun h35=>?_
  all_goals try contradiction
  all_goals first|refine Fo<|Fo<|Fo<|Fo<|Fo<|Fo<|Fo ?_|refine On (aS eX)<|On (bC cQ)<|On (fE cV)<|On (aS eX)<|On (bC cQ)<|On (fE cV)<|On xY ?_
  all_goals refine Dd cG<|Zz ?_
  all_goals(exact⟨⟨_,rfl,by first|(simp only[MV, *];rfl)|(simp_all[MV];done)⟩,rfl,rfl,rfl⟩)
 refine Cn ?_ ?_<;>intro hc1
 ·rw[QK]at hc1;refine Sr<|Dd aL<|Zz<|aB<|Rt ?_;refine⟨?_,rfl⟩;have:EA a b=false:=by simpa using hc1
  rw[H4,this];rfl
 rw[QK]at hc1;have hh:EA a b=true:=by simpa using hc1
 have hlens:a.refs.length=b.refs.length/\a.tags.length=b.tags.length:=by
  simp only[EA,aP3,aP1]at hh;exact⟨hh.1.2,hh.2⟩
 obtain ⟨hl1,hl2⟩:=hlens;rw[H4,hh,Bool.true_and];refine aC<|Sq<|Sr<|Dd aL<|Zz<|aG ?_;refine bT (σ:=Nat) (fun k=>([(2,.ref 2 0 0 0),(3,.ref 3 0 0 0),(5,iv (k:Int))],[(3,bx 6 151 ((bS b).map .pv)),(2,bx 6 151 ((bS a).map .pv))])) (fun k=>k<=a.refs.length/\∀j,j<k->∀x y,a.refs[j]?=some x->b.refs[j]?=some y->IS x y=true) (fun k=>a.refs.length - k) 0 ⟨by omega,by omega⟩ ?_ ?_
 ·exact Wk
 rintro k ⟨hk,hall⟩;refine Sq<|Sr<|Dd aE<|Dd (aS dT)<|Dd (bC aF)<|Dd (fE aD)<|Dd cZ<|Zz ?_;refine Cn ?_ ?_<;>intro hc2
 ·have hlt:k<a.refs.length:=by have:=aPQ hc2;omega
  obtain ⟨x,hx⟩:=aU hlt;obtain ⟨y,hy⟩:=aU (l:=b.refs) (k:=k) (by omega);have hi:=cJ (f:=encStr) hx;have hi2:=cJ (f:=encStr) hy;refine aC<|Sq<|aG<|Sq<|aN follows<|Cq (aS dT)<|Cq (bC aF)<|Cq aE<|Cq (mE cB)<|Cq (iJ isAgg9)<|Cq (aS dT)<|Cq (bC aF)<|Cq aE<|Cq (mE cB)<|Cq (iJ isAgg9)<|Cq IU<|bL<|Kr ?_;refine Cn ?_ ?_<;>intro hc3
  ·have ht:IS x y=false:=by
    have h:(!IS x y)=true:=hc3
    simpa using h
   refine Sr<|Dd aL<|Zz<|aB<|Rt ?_;exact⟨by rw[WJ hx hy ht];rfl,rfl⟩
  have ht:IS x y=true:=by
   have h:(!IS x y)=false:=hc3
   simpa using h
  refine aC<|Rg<|Dd aE<|Dd mI<|Da ?_;refine⟨k+1,⟨by omega,fun j hj x' y' h1 h2=>?_⟩,by omega,Wk⟩;by_cases e:j=k
  ·subst e;rw[hx]at h1;rw[hy]at h2;cases h1;cases h2;exact ht
  exact hall j (by omega) x' y' h1 h2
 have hge:k=a.refs.length:=by have:=aPR hc2;omega
 subst hge;rw[QT hl1 hall,Bool.true_and];refine aY<|Sq<|Sr<|Dd aL<|Zz<|aG ?_;refine bT (σ:=Nat) (fun k=>([(2,.ref 2 0 0 0),(3,.ref 3 0 0 0),(6,iv (k:Int))],[(3,bx 6 151 ((bS b).map .pv)),(2,bx 6 151 ((bS a).map .pv))])) (fun k=>k<=a.tags.length/\∀j,j<k->∀x y,a.tags[j]?=some x->b.tags[j]?=some y->sR x y=true) (fun k=>a.tags.length - k) 0 ⟨by omega,by omega⟩ ?_ ?_
 ·exact Wk
 rintro k ⟨hk,hall2⟩;refine Sq<|Sr<|Dd aE<|Dd (aS eX)<|Dd (bC cQ)<|Dd (fE cV)<|Dd cZ<|Zz ?_;refine Cn ?_ ?_<;>intro hc4
 ·have hlt:k<a.tags.length:=by have:=aPQ hc4;omega
  obtain ⟨x,hx⟩:=aU hlt;obtain ⟨y,hy⟩:=aU (l:=b.tags) (k:=k) (by omega);have hi:=cJ (f:=bJ) hx;have hi2:=cJ (f:=bJ) hy;refine aC<|Sq<|aG<|Sq<|aN follows<|Cq (aS eX)<|Cq (bC cQ)<|Cq aE<|Cq (mE jU)<|Cq (by exact dN rfl tP jY rfl (by omega) (by simp only[Zl,bJ,bS,encStr];rfl) rfl)<|Cq (aS eX)<|Cq (bC cQ)<|Cq aE<|Cq (mE jU)<|Cq (by exact dN rfl tP jY rfl (by omega) (by simp only[Zl,bJ,bS,encStr];rfl) rfl)<|Cq (by exact xW rfl rfl rfl rfl rfl eqGuardType199 (aJJ _ _ _ _))<|bL<|Kr ?_;refine Cn ?_ ?_<;>intro hc5
  ·have ht:sR x y=false:=by
    have h:(!sR x y)=true:=hc5
    simpa using h
   refine Sr<|Dd aL<|Zz<|aB<|Rt ?_;exact⟨by rw[WJ hx hy ht],rfl⟩
  have ht:sR x y=true:=by
   have h:(!sR x y)=false:=hc5
   simpa using h
  refine aC<|Rg<|Dd aE<|Dd mI<|Da ?_;refine⟨k+1,⟨by omega,fun j hj x' y' h1 h2=>?_⟩,by omega,Wk⟩;by_cases e:j=k
  ·subst e;rw[hx]at h1;rw[hy]at h2;cases h1;cases h2;exact ht
  exact hall2 j (by omega) x' y' h1 h2
 have hge:k=a.tags.length:=by have:=aPR hc4;omega
 subst hge;refine aY<|Sr<|Dd aL<|Zz<|aB<|Rt ?_;exact⟨by rw[QT hl2 hall2],rfl⟩
theorem aCS(a b:GObj):H4 a b=qL a b:=by rw[Bool.eq_iff_iff,ZE,AB]
theorem aA2(a b:GObj)(H:aH)(ha:a.refs.length<4611686018427387904)(ha2:a.tags.length<4611686018427387904):aI Tryz.prog 179 [av (bS a),av (bS b)] H (fun r H'=>r=bv (qL a b)/\H'=H):=by rw[<-aCS];exact aDi a b H ha ha2
def raw(e:GEdit)(s:ByteArray):Prop:=s=e.id\/s=e.other\/s=e.node\/s=e.obj.id\/s∈e.refs\/s∈e.obj.refs
def rb(b:GEdit):Bool:=((((((!decide (b.id=sNil)||!decide (b.other=sNil))||!decide (b.node=sNil))||!(decide (b.x=0)&&decide (b.y=0)))||!decide (b.key=sNil))||!decide (b.val=sNil))||decide ((0:Int)<((b.refs.map encStr).length:Int)))||!qL b.obj zObj
theorem D2(b:GEdit):rb b=false↔(b.id=sNil/\b.other=sNil/\b.node=sNil/\(b.x=0/\b.y=0)/\b.key=sNil/\b.val=sNil/\b.refs=[]/\b.obj=zObj):=by
 have hr:decide ((0:Int)<((b.refs.map encStr).length:Int))=false↔b.refs=[]:=by
  rw[aP2,aPU];constructor
  ·intro h;exact List.eq_nil_of_length_eq_zero (by omega)
  intro h;rw[h];simp
 simp only[rb,aPg,Bool.not_eq_false',aP3,aP1,hr,AB];constructor
 ·rintro⟨⟨⟨⟨⟨⟨⟨a,b⟩,c⟩,d⟩,e⟩,f⟩,g⟩,i⟩;exact⟨a,b,c,d,e,f,g,i⟩
 rintro⟨a,b,c,d,e,f,g,i⟩;exact⟨⟨⟨⟨⟨⟨⟨a,b⟩,c⟩,d⟩,e⟩,f⟩,g⟩,i⟩
theorem qG(x y:Int):onP x y=S4 x y:=by rw[Bool.eq_iff_iff];simp only[onP,S4,aP3,aP1];omega
theorem uJ:(sNil.size:Int)<=200:=by decide
def aFq(e:GEdit):GEdit:=⟨e.op,e.id,e.other,e.node,e.x,e.y,e.key,e.val,e.refs,zObj⟩
theorem ed1(e:GEdit)(ho:e.op=1):dU e=(!rb (aFq e)&&lH e.obj):=by
 obtain ⟨op,id,other,node,x,y,key,val,refs,obj⟩:=e;simp only at ho;subst ho;have hb:=D2 (aFq ⟨1,id,other,node,x,y,key,val,refs,obj⟩);rw[Bool.eq_iff_iff];simp only[aFq]at hb |-;simp only[dU,aP3,aPd,hb,nM,qG,qW,DI];simp only[Int.reduceEq,if_true,if_false,reduceIte,Int.reduceLE,decide_true,GEdit.mk.injEq,true_and,and_true,List.all_cons,List.all_nil,Bool.and_true,aP3,qG,aP1,aPd,aPg,aP2,aPU,eq_comm (a:=sNil),eq_comm (a:=(0:Int)),eq_comm (a:=zObj),eq_comm (a:=([]:List ByteArray))];constructor
 ·intro h;have hs:=uJ
  simp_all
  try omega
 intro h
 simp_all
 try omega
def aFp(e:GEdit):GEdit:=⟨e.op,sNil,e.other,e.node,0,0,e.key,e.val,e.refs,e.obj⟩
theorem ed2(e:GEdit)(ho:e.op=2):dU e=(!rb (aFp e)&&([e.id].all bM&&(decide ((e.val.size:Int)<=200)&&S4 e.x e.y))):=by
 obtain ⟨op,id,other,node,x,y,key,val,refs,obj⟩:=e;simp only at ho;subst ho;have hb:=D2 (aFp ⟨2,id,other,node,x,y,key,val,refs,obj⟩);rw[Bool.eq_iff_iff];simp only[aFp]at hb |-;simp only[dU,aP3,aPd,hb,nM,qG,qW,DI];simp only[Int.reduceEq,if_true,if_false,reduceIte,Int.reduceLE,decide_true,GEdit.mk.injEq,true_and,and_true,List.all_cons,List.all_nil,Bool.and_true,aP3,qG,aP1,aPd,aPg,aP2,aPU,eq_comm (a:=sNil),eq_comm (a:=(0:Int)),eq_comm (a:=zObj),eq_comm (a:=([]:List ByteArray))];constructor
 ·intro h;have hs:=uJ
  simp_all
  try omega
 intro h
 simp_all
 try omega
def aFo(e:GEdit):GEdit:=⟨e.op,sNil,e.other,e.node,e.x,e.y,sNil,sNil,e.refs,e.obj⟩
theorem ed3(e:GEdit)(ho:e.op=3):dU e=(!rb (aFo e)&&([e.id,e.key].all bM&&decide ((e.val.size:Int)<=200))):=by
 obtain ⟨op,id,other,node,x,y,key,val,refs,obj⟩:=e;simp only at ho;subst ho;have hb:=D2 (aFo ⟨3,id,other,node,x,y,key,val,refs,obj⟩);rw[Bool.eq_iff_iff];simp only[aFo]at hb |-;simp only[dU,aP3,aPd,hb,nM,qG,qW,DI];simp only[Int.reduceEq,if_true,if_false,reduceIte,Int.reduceLE,decide_true,GEdit.mk.injEq,true_and,and_true,List.all_cons,List.all_nil,Bool.and_true,aP3,qG,aP1,aPd,aPg,aP2,aPU,eq_comm (a:=sNil),eq_comm (a:=(0:Int)),eq_comm (a:=zObj),eq_comm (a:=([]:List ByteArray))];constructor
 ·intro h;have hs:=uJ
  simp_all
  try omega
 intro h
 simp_all
 try omega
def aFn(e:GEdit):GEdit:=⟨e.op,sNil,e.other,e.node,e.x,e.y,e.key,e.val,[],e.obj⟩
theorem ed4(e:GEdit)(ho:e.op=4):dU e=(!rb (aFn e)&&((e.id::e.refs).all bM&&(!(decide (((e.refs.map encStr).length:Int)<1)||decide (2000<((e.refs.map encStr).length:Int)))&&decide ((e.val.size:Int)<=200)))):=by
 obtain ⟨op,id,other,node,x,y,key,val,refs,obj⟩:=e;simp only at ho;subst ho;have hb:=D2 (aFn ⟨4,id,other,node,x,y,key,val,refs,obj⟩);rw[Bool.eq_iff_iff];simp only[aFn]at hb |-;simp only[dU,aP3,aPd,hb,nM,qG,qW,DI];simp only[Int.reduceEq,if_true,if_false,reduceIte,Int.reduceLE,decide_true,GEdit.mk.injEq,true_and,and_true,List.all_cons,List.all_nil,Bool.and_true,aP3,qG,aP1,aPd,aPg,aP2,aPU,eq_comm (a:=sNil),eq_comm (a:=(0:Int)),eq_comm (a:=zObj),eq_comm (a:=([]:List ByteArray))];constructor
 ·intro h;have hs:=uJ
  simp_all
  try omega
 intro h
 simp_all
 try omega
def aFm(e:GEdit):GEdit:=⟨e.op,sNil,e.other,e.node,e.x,e.y,e.key,e.val,e.refs,e.obj⟩
theorem ed5(e:GEdit)(ho:e.op=5):dU e=(!rb (aFm e)&&([e.id].all bM&&decide ((e.val.size:Int)<=200))):=by
 obtain ⟨op,id,other,node,x,y,key,val,refs,obj⟩:=e;simp only at ho;subst ho;have hb:=D2 (aFm ⟨5,id,other,node,x,y,key,val,refs,obj⟩);rw[Bool.eq_iff_iff];simp only[aFm]at hb |-;simp only[dU,aP3,aPd,hb,nM,qG,qW,DI];simp only[Int.reduceEq,if_true,if_false,reduceIte,Int.reduceLE,decide_true,GEdit.mk.injEq,true_and,and_true,List.all_cons,List.all_nil,Bool.and_true,aP3,qG,aP1,aPd,aPg,aP2,aPU,eq_comm (a:=sNil),eq_comm (a:=(0:Int)),eq_comm (a:=zObj),eq_comm (a:=([]:List ByteArray))];constructor
 ·intro h;have hs:=uJ
  simp_all
  try omega
 intro h
 simp_all
 try omega
def aFl(e:GEdit):GEdit:=⟨e.op,sNil,sNil,sNil,e.x,e.y,e.key,e.val,e.refs,e.obj⟩
theorem ed6(e:GEdit)(ho:e.op=6):dU e=(!rb (aFl e)&&([e.id,e.node,e.other].all bM&&decide ((e.val.size:Int)<=200))):=by
 obtain ⟨op,id,other,node,x,y,key,val,refs,obj⟩:=e;simp only at ho;subst ho;have hb:=D2 (aFl ⟨6,id,other,node,x,y,key,val,refs,obj⟩);rw[Bool.eq_iff_iff];simp only[aFl]at hb |-;simp only[dU,aP3,aPd,hb,nM,qG,qW,DI];simp only[Int.reduceEq,if_true,if_false,reduceIte,Int.reduceLE,decide_true,GEdit.mk.injEq,true_and,and_true,List.all_cons,List.all_nil,Bool.and_true,aP3,qG,aP1,aPd,aPg,aP2,aPU,eq_comm (a:=sNil),eq_comm (a:=(0:Int)),eq_comm (a:=zObj),eq_comm (a:=([]:List ByteArray))];constructor
 ·intro h;have hs:=uJ
  simp_all
  try omega
 intro h
 simp_all
 try omega
def aFk(e:GEdit):GEdit:=⟨e.op,sNil,sNil,e.node,e.x,e.y,e.key,e.val,e.refs,e.obj⟩
theorem ed7(e:GEdit)(ho:e.op=7):dU e=(!rb (aFk e)&&([e.id,e.other].all bM&&decide ((e.val.size:Int)<=200))):=by
 obtain ⟨op,id,other,node,x,y,key,val,refs,obj⟩:=e;simp only at ho;subst ho;have hb:=D2 (aFk ⟨7,id,other,node,x,y,key,val,refs,obj⟩);rw[Bool.eq_iff_iff];simp only[aFk]at hb |-;simp only[dU,aP3,aPd,hb,nM,qG,qW,DI];simp only[Int.reduceEq,if_true,if_false,reduceIte,Int.reduceLE,decide_true,GEdit.mk.injEq,true_and,and_true,List.all_cons,List.all_nil,Bool.and_true,aP3,qG,aP1,aPd,aPg,aP2,aPU,eq_comm (a:=sNil),eq_comm (a:=(0:Int)),eq_comm (a:=zObj),eq_comm (a:=([]:List ByteArray))];constructor
 ·intro h;have hs:=uJ
  simp_all
  try omega
 intro h
 simp_all
 try omega
abbrev mO(l:List ByteArray):List (List AV):=l.map (fun s=>(encStr s).map .pv)
theorem vV(l m:List ByteArray):mO l++(m.map encStr).map (·.map .pv)=mO (l++m):=by rw[<-aAX encStr m,mO,mO,List.map_append]
theorem sY(H:aH)(l:List ByteArray):∀r∈mO l,∀a∈r,Clo H a:=aAz _ _ _
theorem EX(l:List ByteArray):∀r∈l.map encStr,r.length=1:=fun r hr=>by
 obtain ⟨o,_,rfl⟩:=List.mem_map.1 hr;rfl
def bI(e:GEdit):ByteArray:=if e.op=1 then e.id else sNil
def bB(e:GEdit):GObj:=if e.op=1 then zObj else e.obj
def bX(e:GEdit):Int:=if e.op=2 then 0 else e.x
def bY(e:GEdit):Int:=if e.op=2 then 0 else e.y
def bK(e:GEdit):ByteArray:=if e.op=3 then sNil else e.key
def bV(e:GEdit):ByteArray:=if e.op=3 then sNil else e.val
def bR(e:GEdit):List ByteArray:=if e.op=4 then[]else e.refs
def bN(e:GEdit):ByteArray:=if e.op=6 then sNil else e.node
def bO(e:GEdit):ByteArray:=if(decide (e.op=6)||decide (e.op=7))=true then sNil else e.other
def sU(e:GEdit):GEdit:=⟨e.op,bI e,bO e,bN e,bX e,bY e,bK e,bV e,bR e,bB e⟩
abbrev bE(e:GEdit):Ob:=bx 15 153 ((aW e).map .pv)
def eNo:GEdit:=⟨0,sNil,sNil,sNil,0,0,sNil,sNil,[],zObj⟩
theorem aLV(e:GEdit)(H:aH):aI Tryz.prog 219 [av (aW e)] H (fun r H'=>r=av (aW (sU e))/\H'=H):=by
 refine Pu ?_;rw[sU];obtain ⟨i,hi⟩:∃x,x=bI e:=⟨_,rfl⟩;obtain ⟨b,hb⟩:∃x,x=bB e:=⟨_,rfl⟩;obtain ⟨x,hx⟩:∃x,x=bX e:=⟨_,rfl⟩;obtain ⟨y,hy⟩:∃x,x=bY e:=⟨_,rfl⟩;obtain ⟨k,hk⟩:∃x,x=bK e:=⟨_,rfl⟩;obtain ⟨v,hv⟩:∃x,x=bV e:=⟨_,rfl⟩;obtain ⟨r,hr⟩:∃x,x=bR e:=⟨_,rfl⟩;obtain ⟨n,hn⟩:∃x,x=bN e:=⟨_,rfl⟩;obtain ⟨o,ho⟩:∃x,x=bO e:=⟨_,rfl⟩;rw[<-hi,<-hb,<-hx,<-hy,<-hk,<-hv,<-hr,<-hn,<-ho];refine Bd func219 rfl ntmps219<|Sr<|Dd (by exact cD (id:=1) rfl rfl rfl rfl rfl)<|Dd (by exact bW (id:=2) rfl O0 rfl rfl)<|Zz ?_;refine fJ (fun(_:Unit)=>([(1,.ref 1 0 0 0),(2,.ref 2 0 0 0)],[(1,bE ⟨e.op,i,e.other,e.node,e.x,e.y,e.key,e.val,e.refs,b⟩),(2,bE eNo)])) (fun _=>True) ?_ ?_
 ·refine Sr<|Dd (aS fZ)<|Dd (bC isAgg3)<|Dd cK<|Zz ?_;refine Cn ?_ ?_<;>intro hc1
  ·have h:=aPQ hc1
   (rw[hi,hb,bI,bB,aPT h,aPT h])
   refine Rg<|Dd (vC Q6)<|Dd (aS nT)<|Uu (by exact lI rfl sizeOf151 rfl rfl rfl rfl rfl rfl rfl (aP7 rfl) rfl rfl)<|Zz ?_;exact⟨(),trivial,Wk⟩
  have h:=aPR hc1
  (rw[hi,hb,bI,bB,aPS h,aPS h])
  refine Rg<|Dd (aS gP)<|Uu (by exact bH rfl sizeOf9 rfl rfl rfl rfl rfl rfl (aP7 rfl) rfl rfl)<|Zz ?_;exact⟨(),trivial,Wk⟩
 rintro _ -;refine fJ (fun(_:Unit)=>([(1,.ref 1 0 0 0),(2,.ref 2 0 0 0)],[(1,bE ⟨e.op,i,e.other,e.node,x,y,e.key,e.val,e.refs,b⟩),(2,bE eNo)])) (fun _=>True) ?_ ?_
 ·refine Sr<|Dd (aS fZ)<|Dd (bC isAgg3)<|Dd cK<|Zz ?_;refine Cn ?_ ?_<;>intro hc2
  ·have h:=aPQ hc2
   (rw[hx,hy,bX,bY,aPT h,aPT h])
   refine Rg<|Dd (vC W0)<|Dd (aS gO)<|Uu (by exact lI rfl sizeOf68 rfl rfl rfl rfl rfl rfl rfl (aP7 rfl) rfl rfl)<|Zz ?_;exact⟨(),trivial,Wk⟩
  have h:=aPR hc2
  (rw[hx,hy,bX,bY,aPS h,aPS h])
  refine aC ?_;exact⟨(),trivial,Wk⟩
 rintro _ -;refine fJ (fun(_:Unit)=>([(1,.ref 1 0 0 0),(2,.ref 2 0 0 0)],[(1,bE ⟨e.op,i,e.other,e.node,x,y,k,v,e.refs,b⟩),(2,bE eNo)])) (fun _=>True) ?_ ?_
 ·refine Sr<|Dd (aS fZ)<|Dd (bC isAgg3)<|Dd cK<|Zz ?_;refine Cn ?_ ?_<;>intro hc3
  ·have h:=aPQ hc3
   (rw[hk,hv,bK,bV,aPT h,aPT h])
   refine Sr<|Dd (aS jR)<|Uu (by exact bH rfl sizeOf9 rfl rfl rfl rfl rfl rfl (aP7 rfl) rfl rfl)<|Zz<|Rg<|Dd (aS kD)<|Uu (by exact bH rfl sizeOf9 rfl rfl rfl rfl rfl rfl (aP7 rfl) rfl rfl)<|Zz ?_;exact⟨(),trivial,Wk⟩
  have h:=aPR hc3
  (rw[hk,hv,bK,bV,aPS h,aPS h])
  refine aC ?_;exact⟨(),trivial,Wk⟩
 rintro _ -;refine fJ (fun(_:Unit)=>([(1,.ref 1 0 0 0),(2,.ref 2 0 0 0)],[(1,bE ⟨e.op,i,e.other,e.node,x,y,k,v,r,b⟩),(2,bE eNo)])) (fun _=>True) ?_ ?_
 ·refine Sr<|Dd (aS fZ)<|Dd (bC isAgg3)<|Dd cK<|Zz ?_;refine Cn ?_ ?_<;>intro hc4
  ·have h:=aPQ hc4
   (rw[hr,bR,aPT h])
   refine Rg<|Dd (aS eV)<|Uu (by exact bH rfl sizeOf22 rfl rfl rfl rfl rfl rfl (aP7 rfl) rfl rfl)<|Zz ?_;exact⟨(),trivial,Wk⟩
  have h:=aPR hc4
  (rw[hr,bR,aPS h])
  refine aC ?_;exact⟨(),trivial,Wk⟩
 rintro _ -;refine fJ (fun(_:Unit)=>([(1,.ref 1 0 0 0),(2,.ref 2 0 0 0)],[(1,bE ⟨e.op,i,e.other,n,x,y,k,v,r,b⟩),(2,bE eNo)])) (fun _=>True) ?_ ?_
 ·refine Sr<|Dd (aS fZ)<|Dd (bC isAgg3)<|Dd cK<|Zz ?_;refine Cn ?_ ?_<;>intro hc5
  ·have h:=aPQ hc5
   (rw[hn,bN,aPT h])
   refine Rg<|Dd (aS lU)<|Uu (by exact bH rfl sizeOf9 rfl rfl rfl rfl rfl rfl (aP7 rfl) rfl rfl)<|Zz ?_;exact⟨(),trivial,Wk⟩
  have h:=aPR hc5
  (rw[hn,bN,aPS h])
  refine aC ?_;exact⟨(),trivial,Wk⟩
 rintro _ -;refine fJ (fun(_:Unit)=>([(1,.ref 1 0 0 0),(2,.ref 2 0 0 0)],[(1,bE ⟨e.op,i,o,n,x,y,k,v,r,b⟩),(2,bE eNo)])) (fun _=>True) ?_ ?_
 ·refine Sq ?_;refine aT (t:=34) (n:=9) (X:=decide (e.op=6)||decide (e.op=7)) ?_ ?_
  ·all_goals refine Dd (aS fZ) ?_
   all_goals refine Dd (bC isAgg3)<|Dd cK<|Dm ?_
   all_goals refine Sp 30 (fun h30=>?_) fun h30=>?_
   all_goals try contradiction
   all_goals first|refine Fo<|Fo<|Fo ?_|refine On (aS fZ)<|On (bC isAgg3)<|On cK ?_
   all_goals refine Dd cG<|Zz ?_
   all_goals(exact⟨⟨_,rfl,by(simp only[*,Zo];done)⟩,rfl,rfl,rfl⟩)
  refine Cn ?_ ?_<;>intro hc6
  ·have h:=hc6;rw[ho,bO,aPT h];refine Rg<|Dd (aS gV)<|Uu (by exact bH rfl sizeOf9 rfl rfl rfl rfl rfl rfl (aP7 rfl) rfl rfl)<|Zz ?_;exact⟨(),trivial,Wk⟩
  have h:=hc6;rw[ho,bO,aPS (by rw[h];decide)];refine aC ?_;exact⟨(),trivial,Wk⟩
 rintro _ -;refine Sr<|Dd (pU cA aX)<|Uu (lG aX)<|Zz<|aB ?_;refine eG (H':=[]) (.inr rfl) rfl (X8 cA aX) (Fin.wk (r:=av (aW ⟨e.op,i,o,n,x,y,k,v,r,b⟩)) (by simp) trivial trivial) ?_;exact Qq
def P5(e:GEdit):List ByteArray:=if e.op=3 then[e.id]++[e.key]else[e.id]
def SP(e:GEdit):List ByteArray:=if e.op=4 then P5 e++e.refs else P5 e
def T3(e:GEdit):List ByteArray:=if e.op=6 then SP e++[e.node]else SP e
def nm4(e:GEdit):List ByteArray:=if(decide (e.op=6)||decide (e.op=7))=true then T3 e++[e.other]else T3 e
def aNP(e:GEdit):Bool:=decide (((e.refs.map encStr).length:Int)<1)||decide (2000<((e.refs.map encStr).length:Int))
def vG(e:GEdit):Bool:=!rb (sU e)&&(if e.op=1 then lH e.obj else(nm4 e).all bM&&(!(decide (e.op=4)&&aNP e)&&(decide ((e.val.size:Int)<=200)&&(!decide (e.op=2)||S4 e.x e.y))))
theorem aMA(e:GEdit)(h:1<=e.op/\e.op<=7):dU e=vG e:=by
 obtain ⟨op,id,other,node,x,y,key,val,refs,obj⟩:=e;simp only at h;rcases(by omega:op=1\/op=2\/op=3\/op=4\/op=5\/op=6\/op=7)with rfl|rfl|rfl|rfl|rfl|rfl|rfl
 ·rw[ed1 _ rfl];rfl
 ·rw[ed2 _ rfl];rfl
 ·rw[ed3 _ rfl,vG];show _=(_&&(_&&(true&&(_&&true))));rw[Bool.and_true,Bool.true_and];rfl
 ·rw[ed4 _ rfl,vG];show _=(_&&(_&&(!(true&&_)&&(_&&true))));rw[Bool.and_true,Bool.true_and];rfl
 ·rw[ed5 _ rfl,vG];show _=(_&&(_&&(true&&(_&&true))));rw[Bool.and_true,Bool.true_and];rfl
 ·rw[ed6 _ rfl,vG];show _=(_&&(_&&(true&&(_&&true))));rw[Bool.and_true,Bool.true_and];rfl
 rw[ed7 _ rfl,vG];show _=(_&&(_&&(true&&(_&&true))));rw[Bool.and_true,Bool.true_and];rfl
theorem aAc(e:GEdit):(nm4 e).length<=e.refs.length+5:=by
 rw[nm4,T3,SP,P5]
 repeat' split
 all_goals simp only[aPV,aPW,List.length_nil];omega
theorem aHp(e:GEdit):(P5 e).length<=e.refs.length+5:=by
 rw[P5]
 split<;>(simp only[aPV,aPW,List.length_nil];omega)
theorem aHo(e:GEdit):(SP e).length<=e.refs.length+5:=by
 rw[SP,P5]
 repeat' split
 all_goals simp only[aPV,aPW,List.length_nil];omega
theorem aHn(e:GEdit):(T3 e).length<=e.refs.length+5:=by
 rw[T3,SP,P5]
 repeat' split
 all_goals simp only[aPV,aPW,List.length_nil];omega
theorem FV{P:α->Prop}{p:Prop}[Decidable p]{a b:List α}(ha:∀s∈a,P s)(hb:∀s∈b,P s):∀s∈(if p then a else b),P s:=by
 split
 ·exact ha
 exact hb
theorem FW{P:α->Prop}{a b:List α}(ha:∀s∈a,P s)(hb:∀s∈b,P s):∀s∈a++b,P s:=fun s hs=>(List.mem_append.1 hs).elim (ha s) (hb s)
theorem BV{P:α->Prop}{a:α}(h:P a):∀s∈[a],P s:=fun s hs=>by
 rw[aPX.1 hs];exact h
theorem aHl{e:GEdit}(he:MB e):∀s∈nm4 e,s.size<4611686018427387904:=by obtain ⟨⟨h1,h2,h3,h4⟩,⟨h5,h6⟩,h7⟩:=he;have m1:∀s∈P5 e,s.size<4611686018427387904:=FV (FW (BV h1) (BV h4)) (BV h1);have m2:∀s∈SP e,s.size<4611686018427387904:=FV (FW m1 h6) m1;have m3:∀s∈T3 e,s.size<4611686018427387904:=FV (FW m2 (BV h3)) m2;exact FV (FW m3 (BV h2)) m3
def nm0(e:GEdit):List ByteArray:=[e.id]
theorem aBn(e:GEdit)(H:aH)(he:MB e)(hr:e.refs.length<1099511627776):aI Tryz.prog 183 [av (aW e)] H (fun r H'=>r=bv (dU e)/\H'=H):=by
 refine Pu ?_;have hnm:=aHl he;have hnl:=aAc e;have hrl:(e.refs.map encStr).length=e.refs.length:=aPU _;have hbo:(sU e).obj.refs.length<4611686018427387904/\(sU e).obj.tags.length<4611686018427387904:=by
  show (bB e).refs.length<_/\(bB e).tags.length<_;rw[bB]
  split
  ·exact⟨by decide,by decide⟩
  exact⟨he.2.2.2.2.1,he.2.2.2.1.1⟩
 refine Bd func183 rfl ntmps183<|Sr<|Dd (by exact cD (id:=1) rfl rfl rfl rfl rfl)<|Dd aL<|Zz<|Sq<|Sq ?_;refine aT (t:=13) (n:=9) (X:=decide (e.op<1)||decide (7<e.op)) ?_ ?_
 ·all_goals refine Dd (aS fZ) ?_
  all_goals refine Dd (bC isAgg3)<|Dd cZ<|Dm ?_
  all_goals refine Sp 9 (fun h9=>?_) fun h9=>?_
  all_goals try contradiction
  all_goals first|refine Fo<|Fo<|Fo ?_|refine On (aS fZ)<|On (bC isAgg3)<|On iE ?_
  all_goals refine Dd cG<|Zz ?_
  all_goals(exact⟨⟨_,rfl,by(rw[h9];rfl)⟩,rfl,rfl,rfl⟩)
 refine Cn ?_ ?_<;>intro hc1
 ·have h:=hc1;have hs:dU e=false:=by
   simp only[Bool.or_eq_true,aP1]at h;rw[dU,Bool.and_eq_false_iff,Bool.and_eq_false_iff,aP2,aP2];omega
  rw[hs];exact Sr<|Dd aL<|Zz<|aB<|Rt<|Qq
 have h:=hc1;simp only[aPg,aP2]at h;rw[aMA e (by omega),vG];have hrb:rb (sU e)=(((((((!decide ((sU e).id=sNil)||!decide ((sU e).other=sNil))||!decide ((sU e).node=sNil))||!(decide ((sU e).x=0)&&decide ((sU e).y=0)))||!decide ((sU e).key=sNil))||!decide ((sU e).val=sNil))||decide ((0:Int)<(((sU e).refs.map encStr).length:Int)))||!qL (sU e).obj zObj):=rfl;have hbc:=fun H=>aLV e H;obtain ⟨G,hG⟩:∃G,G=sU e:=⟨_,rfl⟩;simp only[<-hG]at hrb hbo hbc;rw[<-hG];clear hG;obtain ⟨g0,g1,g2,g3,g4,g5,g6,g7,g8,g9⟩:=G;simp only at hrb hbo;refine aC<|Sr<|Dd (by exact aM rfl cA aX rfl rfl rfl rfl (by simp only[Zl,bJ,bS,encStr,aW,zObj];rfl) rfl)<|Dd (by exact aA rfl rfl call219 rfl (hbc _))<|Dd (by exact bW (id:=3) rfl O0 rfl rfl)<|Uu (lG aX)<|Zz<|Sq<|Sq ?_;refine aT (t:=57) (n:=49) (X:=rb ⟨g0,g1,g2,g3,g4,g5,g6,g7,g8,g9⟩) ?_ ?_
 ·all_goals refine Dd (aS gP) ?_
  all_goals refine Dd (bC isAgg9)<|Dd IU<|Dm ?_
  all_goals refine Sp 19 (fun h19=>?_) fun h19=>?_
  all_goals(try(with_reducible contradiction))
  all_goals first|refine Fo<|Fo<|Fo ?_|refine On (aS gV)<|On (bC isAgg9)<|On IU ?_
  all_goals refine Dd cG<|Dm ?_
  all_goals refine Sp 24 (fun h24=>?_) fun h24=>?_
  all_goals(try(with_reducible contradiction))
  all_goals first|refine Fo<|Fo<|Fo ?_|refine On (aS lU)<|On (bC isAgg9)<|On IU ?_
  all_goals refine Dd cG<|Dm ?_
  all_goals refine Sp 29 (fun h29=>?_) fun h29=>?_
  all_goals(try(with_reducible contradiction))
  all_goals first|refine Fo<|Fo<|Fo<|Fo ?_|refine On (aS gO)<|On (by exact aM rfl dS sizeOf68 rfl rfl rfl rfl (by simp only[Zl,bJ,bS,encStr,aW,zObj];rfl) rfl)<|On (vC W0)<|On (by exact xW rfl rfl rfl rfl rfl gZ (R1 _ _ _ _)) ?_
  all_goals refine Dd cG<|Dm ?_
  all_goals refine Sp 35 (fun h35=>?_) fun h35=>?_
  all_goals(try(with_reducible contradiction))
  all_goals first|refine Fo<|Fo<|Fo ?_|refine On (aS jR)<|On (bC isAgg9)<|On IU ?_
  all_goals refine Dd cG<|Dm ?_
  all_goals refine Sp 40 (fun h40=>?_) fun h40=>?_
  all_goals(try(with_reducible contradiction))
  all_goals first|refine Fo<|Fo<|Fo ?_|refine On (aS kD)<|On (bC isAgg9)<|On IU ?_
  all_goals refine Dd cG<|Dm ?_
  all_goals refine Sp 45 (fun h45=>?_) fun h45=>?_
  all_goals(try(with_reducible contradiction))
  all_goals first|refine Fo<|Fo<|Fo<|Fo ?_|refine On (aS eV)<|On (bC aF)<|On (fE aD)<|On iE ?_
  all_goals refine Dd cG<|Dm ?_
  all_goals refine Sp 51 (fun h51=>?_) fun h51=>?_
  all_goals(try(with_reducible contradiction))
  all_goals first|refine Fo<|Fo<|Fo<|Fo<|Fo ?_|refine On (aS nT)<|On (by exact aM rfl cW sizeOf151 rfl rfl rfl rfl (by simp only[Zl,bJ,bS,encStr,aW,zObj];rfl) rfl)<|On (vC Q6)<|On (by exact aA rfl rfl call179 rfl (aA2 g9 zObj _ hbo.1 hbo.2))<|On iQ ?_
  all_goals refine Dd cG<|Zz ?_
  all_goals(exact⟨⟨_,rfl,by rw[hrb];first|(rw[h19];rfl)|(rw[h19,h24];rfl)|(rw[h19,h24,h29];rfl)|(rw[h19,h24,h29,h35];rfl)|(rw[h19,h24,h29,h35,h40];rfl)|(rw[h19,h24,h29,h35,h40,h45];rfl)|(rw[h19,h24,h29,h35,h40,h45,h51];rfl)⟩,rfl,rfl,rfl⟩)
 refine Cn ?_ ?_<;>intro hc2
 ·have h2:=hc2;rw[h2,Bool.not_true,Bool.false_and];exact Sr<|Dd aL<|Zz<|aB<|Rt<|Qq
 have h2:=hc2;rw[h2,Bool.not_false,Bool.true_and];clear hrb hbo h2;refine aC<|Sq<|Sr<|Dd (aS fZ)<|Dd (bC isAgg3)<|Dd cK<|Zz ?_;refine Cn ?_ ?_<;>intro hc3
 ·have h3:e.op=1:=aPQ hc3;rw[aPT h3];exact Sr<|Dd (aS nT)<|Dd (by exact aM rfl cW sizeOf151 rfl rfl rfl rfl (by simp only[Zl,bJ,bS,encStr,aW,zObj];rfl) rfl)<|Dd (by exact aA rfl rfl call220 rfl (aDu e.obj _ he.2.2))<|Dd aL<|Zz<|aB<|Rt<|Qq
 have h3:¬ e.op=1:=aPR hc3;rw[aPS h3];refine aC<|Sr<|Dd (aS gP)<|Dd (bC isAgg9)<|Dd (by exact gB (id:=66) rfl cB rfl rfl rfl rfl (by simp) rfl)<|Da ?_;refine fJ (fun(g:Nat)=>([(1,.ref 1 0 0 0),(4,.osl 66 g 0 (P5 e).length)],[(1,bE e),(66,⟨g,1,9,mO (P5 e)⟩)])) (fun _=>True) ?_ ?_
 ·refine Sr<|Dd (aS fZ)<|Dd (bC isAgg3)<|Dd cK<|Zz ?_;refine Cn ?_ ?_<;>intro hc4
  ·have h:=aPQ hc4;have hm:P5 e=nm0 e++[e.key]:=aPT h;have hl:(nm0 e).length+([e.key]).length=(nm0 e++[e.key]).length:=aPV.symm;have hb:(nm0 e++[e.key]).length<8796093022208:=by rw[<-hm];have:=aHp e;omega
   rw[hm];refine Rg<|Dd aE<|Dd (aS jR)<|Dd (bC isAgg9)<|Dd (by exact aR [encStr e.key] rfl cB rfl rfl rfl rfl rfl (by simp[encStr]))<|Dd (by exact dL (ps:=([e.key]).map encStr) rfl cB EF rfl rfl rfl rfl rfl (show (mO (nm0 e)).length=(nm0 e).length from aPU _) rfl (EX _) (m:=([e.key]).length) (aPU _) (by omega) hl (vV (nm0 e) [e.key]))<|Da ?_;exact⟨0+1,trivial,(dA.wk (Ea<|Ea<|trivial) (Hb<|Hc (sY _ _)<|trivial) trivial)⟩
  have h:=hc4;have hm:P5 e=nm0 e:=aPS (by exact aPR h);rw[hm];refine aC ?_;exact⟨0,trivial,Wk⟩
 rintro g -;refine fJ (fun(g:Nat)=>([(1,.ref 1 0 0 0),(4,.osl 66 g 0 (SP e).length)],[(1,bE e),(66,⟨g,1,9,mO (SP e)⟩)])) (fun _=>True) ?_ ?_
 ·refine Sr<|Dd (aS fZ)<|Dd (bC isAgg3)<|Dd cK<|Zz ?_;refine Cn ?_ ?_<;>intro hc5
  ·have h:=aPQ hc5;have hm:SP e=P5 e++e.refs:=aPT h;have hl:(P5 e).length+(e.refs).length=(P5 e++e.refs).length:=aPV.symm;have hb:(P5 e++e.refs).length<8796093022208:=by rw[<-hm];have:=aHo e;omega
   rw[hm];refine Rg<|Dd aE<|Dd (aS eV)<|Dd (bC aF)<|Dd (by exact dL (ps:=(e.refs).map encStr) rfl cB EF rfl rfl rfl rfl rfl (show (mO (P5 e)).length=(P5 e).length from aPU _) rfl (EX _) (m:=(e.refs).length) (aPU _) (by omega) hl (vV (P5 e) e.refs))<|Da ?_;exact⟨g+1,trivial,(dA.wk (Ea<|Ea<|trivial) (Hb<|Hc (sY _ _)<|trivial) trivial)⟩
  have h:=hc5;have hm:SP e=P5 e:=aPS (by exact aPR h);rw[hm];refine aC ?_;exact⟨g,trivial,Wk⟩
 rintro g -;refine fJ (fun(g:Nat)=>([(1,.ref 1 0 0 0),(4,.osl 66 g 0 (T3 e).length)],[(1,bE e),(66,⟨g,1,9,mO (T3 e)⟩)])) (fun _=>True) ?_ ?_
 ·refine Sr<|Dd (aS fZ)<|Dd (bC isAgg3)<|Dd cK<|Zz ?_;refine Cn ?_ ?_<;>intro hc6
  ·have h:=aPQ hc6;have hm:T3 e=SP e++[e.node]:=aPT h;have hl:(SP e).length+([e.node]).length=(SP e++[e.node]).length:=aPV.symm;have hb:(SP e++[e.node]).length<8796093022208:=by rw[<-hm];have:=aHn e;omega
   rw[hm];refine Rg<|Dd aE<|Dd (aS lU)<|Dd (bC isAgg9)<|Dd (by exact aR [encStr e.node] rfl cB rfl rfl rfl rfl rfl (by simp[encStr]))<|Dd (by exact dL (ps:=([e.node]).map encStr) rfl cB EF rfl rfl rfl rfl rfl (show (mO (SP e)).length=(SP e).length from aPU _) rfl (EX _) (m:=([e.node]).length) (aPU _) (by omega) hl (vV (SP e) [e.node]))<|Da ?_;exact⟨g+1,trivial,(dA.wk (Ea<|Ea<|trivial) (Hb<|Hc (sY _ _)<|trivial) trivial)⟩
  have h:=hc6;have hm:T3 e=SP e:=aPS (by exact aPR h);rw[hm];refine aC ?_;exact⟨g,trivial,Wk⟩
 rintro g -;refine fJ (fun(g:Nat)=>([(1,.ref 1 0 0 0),(4,.osl 66 g 0 (nm4 e).length)],[(1,bE e),(66,⟨g,1,9,mO (nm4 e)⟩)])) (fun _=>True) ?_ ?_
 ·refine Sq ?_;refine aT (t:=97) (n:=9) (X:=decide (e.op=6)||decide (e.op=7)) ?_ ?_
  ·all_goals refine Dd (aS fZ) ?_
   all_goals refine Dd (bC isAgg3)<|Dd cK<|Dm ?_
   all_goals refine Sp 93 (fun h93=>?_) fun h93=>?_
   all_goals(try(with_reducible contradiction))
   all_goals first|refine Fo<|Fo<|Fo ?_|refine On (aS fZ)<|On (bC isAgg3)<|On cK ?_
   all_goals refine Dd cG<|Zz ?_
   all_goals(exact⟨⟨_,rfl,by(rw[h93];rfl)⟩,rfl,rfl,rfl⟩)
  refine Cn ?_ ?_<;>intro hc7
  ·have h:=id hc7;have hm:nm4 e=T3 e++[e.other]:=aPT h;have hl:(T3 e).length+([e.other]).length=(T3 e++[e.other]).length:=aPV.symm;have hb:(T3 e++[e.other]).length<8796093022208:=by rw[<-hm];have:=aAc e;omega
   rw[hm];refine Rg<|Dd aE<|Dd (aS gV)<|Dd (bC isAgg9)<|Dd (by exact aR [encStr e.other] rfl cB rfl rfl rfl rfl rfl (by simp[encStr]))<|Dd (by exact dL (ps:=([e.other]).map encStr) rfl cB EF rfl rfl rfl rfl rfl (show (mO (T3 e)).length=(T3 e).length from aPU _) rfl (EX _) (m:=([e.other]).length) (aPU _) (by omega) hl (vV (T3 e) [e.other]))<|Da ?_;exact⟨g+1,trivial,(dA.wk (Ea<|Ea<|trivial) (Hb<|Hc (sY _ _)<|trivial) trivial)⟩
  have h:=hc7;have hm:nm4 e=T3 e:=aPS (by(rw[h];decide));rw[hm];refine aC ?_;exact⟨g,trivial,Wk⟩
 rintro g -;obtain ⟨N,hN⟩:∃N,N=nm4 e:=⟨_,rfl⟩;rw[<-hN]at hnm hnl;rw[<-hN];clear hN;have hNl:(N.map encStr).length=N.length:=aPU _;refine Sq<|Sq ?_;refine gR.ent (dA.fz (id:=66) (E':=[(1,.ref 1 0 0 0),(4,.pv (bA N))]) (H':=[(1,bE e)]) (N.map encStr) rfl (aAX encStr N)
  (by intro p hp;simp only[aP6,aPa,or_false]at hp;rcases hp with rfl|rfl;exact⟨_,rfl,.same (.ref rfl)⟩;exact⟨_,rfl,.osl (by rw[aPc,List.drop_zero,<-List.length_map (f:=encStr),List.take_length])⟩) rfl ⟨⟨_,rfl,rfl⟩,(by(simp;done)),trivial⟩ trivial) ?_
 refine Rg<|Dd aL<|Zz<|aG ?_;refine bT (σ:=Nat) (fun q=>([(1,.ref 1 0 0 0),(4,.pv (bA N)),(5,iv (q:Int))],[(1,bE e)])) (fun q=>q<=N.length/\∀j,j<q->∀b,N[j]?=some b->(!bM b)=false) (fun q=>N.length - q) 0 ⟨by omega,by omega⟩ ?_ ?_
 ·exact Wk
 rintro q ⟨hq,hno⟩;refine Sq<|Sr<|Dd aE<|Dd aE<|Dd (fE aD)<|Dd cZ<|Zz ?_;refine Cn ?_ ?_<;>intro hc8
 ·have hlt:q<N.length:=by have:=aPQ hc8;omega
  obtain ⟨s,hs⟩:=aU hlt;have hi:=cJ (f:=encStr) hs;refine aC<|Sq<|aG<|Sr<|Dd aE<|Dd aE<|Dd (mE cB)<|Dd (iJ isAgg9)<|Dd (by exact aA rfl rfl fR rfl (jP s _ (hnm s (aP4 hs))))<|Dd iQ<|Zz ?_;refine Cn ?_ ?_<;>intro hc9
  ·have hb:(!bM s)=true:=hc9;have hall:N.all bM=false:=by
    rw[List.all_eq_false];exact⟨s,aP4 hs,by simpa using hb⟩
   rw[hall];exact Sr<|Dd aL<|Zz<|aB<|Rt<|Qq
  have hb:(!bM s)=false:=hc9;refine aC<|Rg<|Dd aE<|Dd mI<|Da ?_;exact⟨q+1,⟨by omega,uE hno hs hb⟩,by omega,Wk⟩
 have hge:q=N.length:=by have:=aPR hc8;omega
 subst hge;have hall:N.all bM=true:=by
  rw[List.all_eq_true];intro s hs;obtain ⟨j,hj⟩:=aPf.1 hs;have:=hno j (aPY.1 hj).1 s hj
  simpa using this
 rw[hall,Bool.true_and,aNP];clear hnm hnl hno hall he;refine aY<|Sq<|Sq ?_;refine aT (t:=129) (n:=17) (X:=decide (e.op=4)&&(decide (((e.refs.map encStr).length:Int)<1)||decide (2000<((e.refs.map encStr).length:Int)))) ?_ ?_
 ·all_goals refine Dd (aS fZ) ?_
  all_goals refine Dd (bC isAgg3)<|Dd cK<|Dm ?_
  all_goals refine Sp 118 (fun h118=>?_) fun h118=>?_
  all_goals(try(with_reducible contradiction))
  all_goals first|refine Fo<|Fo<|Fo<|Fo<|Fo ?_|refine On (aS eV)<|On (bC aF)<|On (fE aD)<|On cZ<|On aE ?_
  all_goals(first|refine Sp 123 (fun h123=>?_) fun h123=>?_|refine jX (t:=123) rfl ?_)
  all_goals(try(with_reducible contradiction))
  all_goals first|refine Fo ?_|refine Fu ?_|refine On (aS eV) ?_
  all_goals first|refine Fo ?_|refine Fu ?_|refine On (bC aF) ?_
  all_goals first|refine Fo ?_|refine Fu ?_|refine On (fE aD) ?_
  all_goals first|refine Fo ?_|refine Fu ?_|refine On iE ?_
  all_goals first|refine Fo ?_|refine On cG ?_
  all_goals refine Dd cG<|Zz ?_
  all_goals(exact⟨⟨_,rfl,by first|(rw[h118];rfl)|(rw[h118,h123];rfl)⟩,rfl,rfl,rfl⟩)
 refine Cn ?_ ?_<;>intro hc10
 ·have h5:=hc10;rw[h5];exact Sr<|Dd aL<|Zz<|aB<|Rt<|Qq
 have h5:=hc10;rw[h5,Bool.not_false,Bool.true_and];refine aC<|Sq ?_;refine aT (t:=2) (n:=17) (X:=decide ((e.val.size:Int)<=200)&&(!decide (e.op=2)||S4 e.x e.y)) ?_ ?_
 ·all_goals refine Dd (aS kD) ?_
  all_goals refine Dd (bC isAgg9)<|Dd (jV underlying9)<|Dd GQ<|Dm ?_
  all_goals refine Sp 134 (fun h134=>?_) fun h134=>?_
  all_goals(try(with_reducible contradiction))
  all_goals first|refine Fo<|Fo<|Fo<|Fo ?_|refine On (aS fZ)<|On (bC isAgg3)<|On xY<|On aE ?_
  all_goals(first|refine Sp 138 (fun h138=>?_) fun h138=>?_|refine jX (t:=138) rfl ?_)
  all_goals(try(with_reducible contradiction))
  all_goals first|refine Fo ?_|refine Fu ?_|refine On (aS gO) ?_
  all_goals first|refine Fo ?_|refine Fu ?_|refine On (by exact aM rfl dS sizeOf68 rfl rfl rfl rfl (by simp only[Zl,bJ,bS,encStr,aW,zObj];rfl) rfl) ?_
  all_goals first|refine Fo ?_|refine Fu ?_|refine On (by exact aA rfl rfl aOd rfl (aDt e.x e.y _)) ?_
  all_goals first|refine Fo ?_|refine On cG ?_
  all_goals refine Dd cG<|Da ?_
  all_goals(exact⟨⟨_,rfl,by first|(rw[h134];rfl)|(rw[h134,h138];rfl)⟩,rfl,rfl,rfl⟩)
 exact aB<|Rt<|Qq
theorem aBo(l:List GEdit)(H:aH)(hl:l.length<1099511627776)(he:∀e∈l,MB e)(hr:∀e∈l,e.refs.length<1099511627776):aI Tryz.prog 148 [.pv (iF l)] H (fun r H'=>r=bv (kB l)/\H'=H):=by
 refine Pu ?_;have hml:(l.map aW).length=l.length:=aPU _;refine Bd func148 rfl ntmps148<|Sr<|Dd aL<|Zz<|Sq<|Sq ?_;refine aT (t:=11) (n:=9) (X:=decide (((l.map aW).length:Int)<1)||decide (200<((l.map aW).length:Int))) ?_ ?_
 ·all_goals refine Dd aE ?_
  all_goals refine Dd (fE cX)<|Dd cZ<|Dm ?_
  all_goals refine Sp 7 (fun h7=>?_) fun h7=>?_
  all_goals try contradiction
  all_goals first|refine Fo<|Fo<|Fo ?_|refine On aE<|On (fE cX)<|On iE ?_
  all_goals refine Dd cG<|Zz ?_
  all_goals(exact⟨⟨_,rfl,by first|(simp_all;done)|(simp_all;omega)⟩,rfl,rfl,rfl⟩)
 refine Cn ?_ ?_<;>intro hc1
 ·have hs:kB l=false:=by
   simp only[Bool.or_eq_true,aP1]at hc1;rw[kB,Bool.and_eq_false_iff,Bool.and_eq_false_iff,aP2,aP2];left;omega
  refine Sr<|Dd aL<|Zz<|aB<|Rt ?_;exact⟨by rw[hs],rfl⟩
 have hs:kB l=!(l.any (fun e=>!dU e)):=by
  simp only[aPg,aP2]at hc1;rw[kB,decide_eq_true (by omega:(0:Int)<(l.length:Int)),decide_eq_true (by omega:(l.length:Int)<=200)];rfl
 rw[hs];refine aC<|Sq<|Sr<|Dd aL<|Zz<|aG ?_;refine bT (σ:=Nat) (fun k=>([(0,.pv (iF l)),(3,iv (k:Int))],[])) (fun k=>k<=l.length/\∀j,j<k->∀b,l[j]?=some b->(!dU b)=false) (fun k=>l.length - k) 0 ⟨by omega,by omega⟩ ?_ ?_
 ·exact E0
 rintro k ⟨hk,hno⟩;refine Sq<|Sr<|Dd aE<|Dd aE<|Dd (fE cX)<|Dd cZ<|Zz ?_;refine Cn ?_ ?_<;>intro hc2
 ·have hlt:k<l.length:=by have:=aPQ hc2;omega
  obtain ⟨e,hx⟩:=aU hlt;have hi:=cJ (f:=aW) hx;refine aC<|Sq<|aG<|Sr<|Dd aE<|Dd aE<|Dd (mE RU)<|Dd (by exact dN rfl cA aX rfl (by omega) (by simp only[Zl,bJ,bS,encStr,aW,zObj];rfl) rfl)<|Dd (by exact aA rfl rfl call183 rfl (aBn e _ (he e (aP4 hx)) (hr e (aP4 hx))))<|Dd iQ<|Zz ?_;refine Cn ?_ ?_<;>intro hc3
  ·refine Sr<|Dd aL<|Zz<|aB<|Rt ?_;exact⟨by rw[yN hx hc3];rfl,rfl⟩
  refine aC<|Rg<|Dd aE<|Dd mI<|Da ?_;exact⟨k+1,⟨by omega,uE hno hx hc3⟩,by omega,E0⟩
 have hge:k=l.length:=by have:=aPR hc2;omega
 subst hge;refine aY<|Sr<|Dd aL<|Zz<|aB<|Rt ?_;exact⟨by rw[CG hno];rfl,rfl⟩
end Go.Proofs.YtmdicgjnmfolfaaGreatDoor
section
namespace Go.Abs
theorem OI{P:Program}{N:Nat}{o:Oper}{E:dB}{H:aH}{T:TypeId}{t:Tmp}{e:TypeId}{id g off len sz:Nat}{ob:Ob}{row:List AV}{rows':List (List AV)}(ho:o.op=.call {callee:=.builtin .clear,args:=#[.tmp t],argTypes:=#[T]})(hS:fA P T e sz)(hZ:eP P e row)(hrow:row.length=sz)
  (hx:E.get t=some (.osl id g off len)) (hH:H.get id=some ob) (hg:ob.g=g) (hosz:ob.sz=sz) (hoff:off<=ob.rows.length) (hrows:ob.rows.take off++(List.replicate len row++ob.rows.drop (off+len))=rows') :
  cS P N o E H .any ((id,⟨g,sz,ob.ty,rows'⟩)::H):=by
 intro a w I ι h1 h2 hr he K Q hkk;obtain ⟨v,hv,hvr⟩:=he t _ hx;obtain ⟨c,h3,h4,h5⟩:=aA8 hr hvr hH hg;refine aCA (x:=.tmp t) (E:=(t,.osc id g off len c)::E) ho hS hZ hrow (dB.get_cons_same _ _ _) hH hg hosz hoff hrows a w I ι h1 h2 hr (fun u x hu=>?_) K Q hkk;by_cases e:t=u
 ·subst e;rw[dB.get_cons_same]at hu;cases hu;exact⟨v,hv,h5⟩
 rw[dB.get_cons_other _ _ e]at hu;exact he u x hu
end Go.Abs
namespace Go.Proofs.YtmdicgjnmfolfaaGreatDoor
open Go.Proofs.Tryz
open Go.Abs
variable{L:List ByteArray}{s:ByteArray}
def iC:List ByteArray->List ByteArray
 | []=>[]
 | [x]=>[x]
 |x::y::r=>if x=y then iC (y::r)else x::iC (y::r)
theorem IC:∀(l:List ByteArray) (x y:ByteArray),iC (l++[x,y])=iC (l++[x])++(if x=y then[]else[y])
 | [],x,y=>by
  show (if x=y then iC [y]else x::iC [y])=[x]++_;by_cases e:x=y
  ·rw[aPT e,aPT e,e];rfl
  rw[aPS e,aPS e];rfl
 | [a],x,y=>by
  show (if a=x then iC [x,y]else a::iC [x,y])=(if a=x then iC [x]else a::iC [x])++_;have:=IC [] x y;rw[show iC [x,y]=iC ([]++[x,y])from rfl,this]
  split<;>rfl
 |a::b::l,x,y=>by
  have:=IC (b::l) x y;show (if a=b then iC ((b::l)++[x,y])else a::iC ((b::l)++[x,y]))=(if a=b then iC ((b::l)++[x])else a::iC ((b::l)++[x]))++_;rw[this]
  split<;>rfl
theorem Q1{k:Nat}{x y:ByteArray}(hk:1<=k)(hx:L[k - 1]?=some x)(hy:L[k]?=some y):iC (L.take (k+1))=iC (L.take k)++(if x=y then[]else[y]):=by
 obtain ⟨j,rfl⟩:∃j,k=j+1:=⟨k - 1,by omega⟩;rw[show j+1 - 1=j by omega]at hx;have h1:L.take (j+1)=L.take j++[x]:=by rw[List.take_add_one,hx];rfl
 have h2:L.take (j+1+1)=L.take j++[x,y]:=by rw[List.take_add_one,h1,hy,List.append_assoc];rfl
 rw[h2,h1,IC]
theorem EY{l:List ByteArray}{i:Nat}(h:l[i]?=some s):(sK l)[i]?=some ((encStr s).map .pv):=by rw[aPe,h];rfl
theorem Y2{P:List ByteArray}{j:Nat}(h:P.length<=j)(hs:L[j]?=some s):(P++L.drop P.length)[j]?=some s:=by rw[List.getElem?_append_right h,List.getElem?_drop,show P.length+(j - P.length)=j by omega];exact hs
theorem ZH{H:aH}{id:Nat}{o:Ob}(h:H.get id=some o)(j:Nat):aH.get ((id,o)::H) j=H.get j:=by
 by_cases e:j=id
 ·subst e;rw[get_cons_same,h]
 exact get_cons_other _ _ e
theorem aC4(L:List ByteArray)(g:Nat)(H:aH)(h1:H.get 901=some ⟨g,1,9,sK L⟩)(hl:L.length<1099511627776):
  aI Tryz.prog 68 [.osl 901 g 0 L.length] H (fun r H'=>r=.osl 901 g 0 (iC L).length/\H'=(901,⟨g,1,9,sK (iC L++List.replicate (L.length - (iC L).length) sNil)⟩)::H):=by
 refine Bd func68 rfl ntmps68 ?_;refine gR.ent (E':=[(0,.osl 901 g 0 L.length)]) (H':=(901,⟨g,1,9,sK L⟩)::H) (dA.get' ⟨⟨_,rfl,rfl⟩,trivial⟩ (ZH h1)) ?_;refine Sr<|Dd aL<|Zz<|Sq<|Sr<|Dd aE<|Dd (by exact eF rfl aD rfl rfl rfl)<|Dd cZ<|Zz ?_;refine Cn ?_ ?_<;>intro hc1
 ·have hlt:L.length<2:=by have:=aPQ hc1;omega
  have hc0:iC L=L:=by
   match L,hlt with
   | [],_=>rfl
   | [a],_=>rfl
  refine Sr<|Dd aE<|Dd aL<|Zz<|aB ?_;refine eG (H':=(901,⟨g,1,9,sK L⟩)::H) (.inr rfl) rfl (bD rfl) Fin.refl ⟨by rw[hc0],by rw[hc0,Nat.sub_self,List.replicate_zero,List.append_nil]⟩
 have hge:2<=L.length:=by have:=aPR hc1;omega
 refine aC<|Sq<|Sr<|Dd aL<|Zz<|aG ?_;refine bT (σ:=Nat) (fun i=>([(0,.osl 901 g 0 L.length),(3,iv (i:Int))],(901,⟨g,1,9,sK L⟩)::H)) (fun i=>1<=i/\i<=L.length/\iC (L.take i)=L.take i) (fun i=>L.length - i) 1 ⟨by omega,by omega,by
  obtain ⟨x,hx⟩:=aU (l:=L) (k:=0) (by omega);rw[List.take_add_one,hx];rfl⟩ ?_ ?_
 ·exact dA.get' ⟨⟨_,rfl,rfl⟩,⟨_,rfl,rfl⟩,trivial⟩ (fun j=>rfl)
 rintro i ⟨hi1,hi2,hi3⟩;refine Sq<|Sr<|Dd aE<|Dd aE<|Dd (by exact eF rfl aD rfl rfl rfl)<|Dd cZ<|Zz ?_;refine Cn ?_ ?_<;>intro hc2
 ·have hil:i<L.length:=by have:=aPQ hc2;omega
  obtain ⟨y,hy⟩:=aU hil;obtain ⟨x,hx⟩:=aU (l:=L) (k:=i - 1) (by omega);have ht:=Q1 hi1 hx hy;refine aC<|Sq<|aG<|Sq<|aN follows<|Cq aE<|Cq aE<|Cq (by exact dP rfl cB rfl rfl rfl rfl rfl (by omega) (by exact aP5 _) hil (aPc _))<|Cq (by exact aK rfl isAgg9 rfl rfl rfl (EY hy) rfl)<|Cq aE<|Cq aE<|Cq (by exact dW rfl rfl rfl (by exact kK (by omega) (by omega)))<|Cq (by exact dP (m:=i - 1) rfl cB rfl rfl rfl rfl rfl (by omega) (show ((i:Int) - 1).toNat=i - 1 by omega) (by omega) (aPc _))<|Cq (by exact aK rfl isAgg9 rfl rfl rfl (EY hx) rfl)<|Cq zE<|bL<|Kr ?_;refine Cn ?_ ?_<;>intro hc3
  ·have hyx:=aPQ hc3;rw[aPT hyx.symm,List.append_nil,hi3]at ht;refine Sr<|Dd aE<|Dd aE<|Dd (by exact iT (l:=i) (h:=L.length) rfl cB rfl rfl rfl rfl rfl rfl (by omega) (aP0 _) (aPc _) rfl)<|Dd aL<|Zz<|Sq<|Sr<|Dd aL<|Zz<|aG ?_;refine jA (fun(k:Nat) (R:List ByteArray)=>([(0,.osl 901 g 0 L.length),(3,iv (R.length:Int)),(4,.osl 901 g i (L.length - i)),(5,iv (k:Int))],(901,⟨g,1,9,sK (R++L.drop R.length)⟩)::H)) (fun k R=>1<=k/\i+k<=L.length/\R=iC (L.take (i+k))/\R.length+1<=i+k) (fun k R=>L.length - (i+k)) 1 (L.take i) ⟨by omega,by omega,ht.symm,by rw[aP8];omega⟩ ?_ ?_
   ·have hti:(L.take i).length=i:=by rw[aP8];omega
    rw[hti,List.take_append_drop];exact dA.get' ⟨⟨_,rfl,rfl⟩,⟨_,rfl,rfl⟩,⟨_,rfl,rfl⟩,⟨_,rfl,rfl⟩,trivial⟩ (fun j=>rfl)
   rintro k R ⟨hk1,hk2,hk3,hk4⟩;refine Sq<|Sr<|Dd aE<|Dd aE<|Dd (by exact eF rfl aD rfl rfl rfl)<|Dd cZ<|Zz ?_;refine Cn ?_ ?_<;>intro hc4
   ·have hkl:i+k<L.length:=by have:=aPQ hc4;omega
    obtain ⟨v,hv⟩:=aU hkl;obtain ⟨u,hu⟩:=aU (l:=L) (k:=i+k - 1) (by omega);have ht2:=Q1 (by omega) hu hv;have hv2:=EY (Y2 (P:=R) (by omega) hv);have hu2:=EY (Y2 (P:=R) (by omega) hu);refine aC<|Sq<|aG<|Sq<|aN follows<|Cq aE<|Cq aE<|Cq (by exact dP (m:=k) rfl cB rfl rfl rfl rfl rfl (by omega) (aP5 _) (by omega) rfl)<|Cq (by exact aK rfl isAgg9 rfl rfl rfl hv2 rfl)<|Cq aE<|Cq aE<|Cq (by exact dW rfl rfl rfl (by exact kK (by omega) (by omega)))<|Cq (by exact dP (m:=k - 1) (m2:=i+k - 1) rfl cB rfl rfl rfl rfl rfl (by omega) (show ((k:Int) - 1).toNat=k - 1 by omega) (by omega) (by omega))<|Cq (by exact aK rfl isAgg9 rfl rfl rfl hu2 rfl)<|Cq IU<|bL<|Kr ?_;refine Cn ?_ ?_<;>intro hc5
    ·have hne:¬ u=v:=fun e=>by
      have h:=hc5;rw[e]at h;simp at h
     rw[aPS hne,<-hk3]at ht2;have hR0:∃z,L[R.length]?=some z:=aU (by omega);obtain ⟨z,hz⟩:=hR0;have hat:(sK (R++L.drop R.length))[R.length]?=some ((encStr z).map .pv):=EY (Y2 (P:=R) (aP0 _) hz);have hset:(sK (R++L.drop R.length)).set R.length [sv v]=sK ((R++[v])++L.drop (R++[v]).length):=by
      have hd:L.drop R.length=z::L.drop (R.length+1):=by
       obtain ⟨p,q⟩:=aPY.1 hz;rw[List.drop_eq_getElem_cons p,q]
      rw[hd,aPV,List.length_singleton,sK,List.map_append,List.map_cons,List.set_append_right _ _ (by rw[aPU];exact aP0 _),aPU,Nat.sub_self,List.set_cons_zero,List.append_assoc,sK,List.map_append,List.map_append];rfl
     refine Sr<|Dd aE<|Dd aE<|Dd aE<|Dd aE<|Dd (by exact dP (m:=k) rfl cB rfl rfl rfl rfl rfl (by omega) (aP5 _) (by omega) rfl)<|Dd (by exact aK rfl isAgg9 rfl rfl rfl hv2 rfl)<|Dd (by exact dP rfl cB rfl rfl rfl rfl rfl (by omega) (by exact aP5 _) (by omega:R.length<L.length) (aPc _))<|Uu (by exact bH rfl sizeOf9 rfl rfl rfl rfl rfl hat (by simp[encStr]) rfl hset)<|Zz<|Rg<|Dd aE<|Dd mI<|Dd aL<|Zz<|Rg<|Dd aE<|Dd mI<|Da ?_;refine⟨k+1,R++[v],⟨by omega,by omega,ht2.symm,by rw[aPV,List.length_singleton];omega⟩,by omega,?_⟩;rw[show (((R++[v]).length:Nat):Int)=(R.length:Int)+1 by rw[aPV,List.length_singleton];rfl];exact dA.dup ⟨⟨_,rfl,rfl⟩,⟨_,rfl,rfl⟩,⟨_,rfl,rfl⟩,⟨_,rfl,rfl⟩,trivial⟩
    have he:u=v:=by
     have h:=hc5;have h2:v=u:=by simpa using h
     exact h2.symm
    rw[aPT he,List.append_nil,<-hk3]at ht2;refine aC<|Rg<|Dd aE<|Dd mI<|Da ?_;refine⟨k+1,R,⟨by omega,by omega,ht2.symm,by omega⟩,by omega,?_⟩;exact dA.get' ⟨⟨_,rfl,rfl⟩,⟨_,rfl,rfl⟩,⟨_,rfl,rfl⟩,⟨_,rfl,rfl⟩,trivial⟩ (fun j=>rfl)
   have hge2:i+k=L.length:=by have:=aPR hc4;omega
   rw[hge2,List.take_length]at hk3;have hRl:R.length<=L.length:=by omega
   have hmix:(sK (R++L.drop R.length)).length=L.length:=by
    rw[aPU,aPV,aP9];omega
   have hcl:(sK (R++L.drop R.length)).take R.length++(List.replicate (L.length - R.length) [sv sNil]++(sK (R++L.drop R.length)).drop (R.length+(L.length - R.length)))=sK (R++List.replicate (L.length - R.length) sNil):=by
    have hd0:(sK (R++L.drop R.length)).drop (R.length+(L.length - R.length))=[]:=List.drop_eq_nil_of_le (by rw[hmix];omega);rw[hd0,List.append_nil,sK,List.map_append,List.take_left' (aPU _),sK,List.map_append,List.map_replicate];rfl
   refine aY<|Sr<|Dd aE<|Dd aE<|Dd (by exact iT (l:=R.length) (h:=L.length) rfl cB rfl rfl rfl rfl rfl rfl hRl (aP0 _) (aPc _) rfl)<|Uu (by exact OI rfl cB zo9 rfl rfl rfl rfl rfl (by rw[hmix];exact hRl) hcl)<|Zz<|Sr<|Dd aE<|Dd aE<|Dd (by exact iT (l:=0) (h:=R.length) rfl cB rfl rfl rfl rfl rfl rfl (aPb _) hRl (aPc _) rfl)<|Dd aL<|Zz<|aB ?_;refine eG (H':=(901,⟨g,1,9,sK (R++List.replicate (L.length - R.length) sNil)⟩)::H) (.inr rfl) rfl (bD rfl) (Fin.get' (fun j=>wG _ _ _ _ j)) ⟨by rw[hk3];rfl,by rw[hk3]⟩
  have hyx:=aPR hc3;rw[aPS (fun e=>hyx e.symm),hi3]at ht;refine aC<|Rg<|Dd aE<|Dd mI<|Da ?_;refine⟨i+1,⟨by omega,by omega,?_⟩,by omega,dA.get' ⟨⟨_,rfl,rfl⟩,⟨_,rfl,rfl⟩,trivial⟩ (fun j=>rfl)⟩;rw[ht,List.take_add_one,hy];rfl
 have hge3:i=L.length:=by have:=aPR hc2;omega
 subst hge3;rw[List.take_length]at hi3;refine aY<|Sr<|Dd aE<|Dd aL<|Zz<|aB ?_;refine eG (H':=(901,⟨g,1,9,sK L⟩)::H) (.inr rfl) rfl (bD rfl) Fin.refl ⟨by rw[hi3],by rw[hi3,Nat.sub_self,List.replicate_zero,List.append_nil]⟩
end Go.Proofs.YtmdicgjnmfolfaaGreatDoor
end
namespace Go.Proofs.YtmdicgjnmfolfaaGreatDoor
open Go.Proofs.Tryz
open Go.Abs
variable{r:GRec}
def kN(n a b:Int):Bool:=decide (a<=n)&&decide (n<=b)
def XN(r:GRec):Bool:=(((((r.priv.trace.any MC||!(!([r.priv.name,r.priv.reason].any BW)))||!(!r.priv.sources.any BW))||decide (16<((r.priv.sources.map encStr).length:Int)))||decide (200<((r.priv.trace.map fM).length:Int)))||!gN r.priv.sl)||!gN r.sl
def aFA(l:List ByteArray):Bool:=lL l&&decide (((iC l).length:Int)=((l.map encStr).length:Int))
theorem aLO(l:List ByteArray)(hl:l.length<1099511627776){H:aH}(hno:H.get 901=none):aI Tryz.prog 69 [.pv (bA l)] H (fun r H'=>r=.osl 901 1 0 l.length/\H'=(901,⟨1,1,9,sK l⟩)::H) :=aI.frame (aF8 l [] (fun _ _ h=>by cases h) rfl hl) (fun _ _ h=>by cases h) (fun _ _ h=>by cases h) (by simp) (fun id h=>.inr (by
  by_cases e:901=id
  ·subst e;exact hno
  simp[aH.get,kX e]at h))
def KU(r:GRec):Bool:=(((((!kN r.author 0 59||!kN r.number 1 128)||!kN r.clock 1 1000000)||!bM r.branch)||decide (16<((r.parents.map encStr).length:Int)))||!r.parents.all isJ)||!aFA r.parents
def ndG(r:GRec):Bool:=decide (r.kind=2)||decide (r.kind=3)
def GR(r:GRec):Bool:=if r.kind=3 then kN r.order 1 4 else if r.kind=4 then(bM r.from'&&!decide (r.from'=r.branch))else decide (1<=r.kind/\r.kind<=5)
def T0(r:GRec):ByteArray:=if r.kind=2\/r.kind=3 then r.target else sNil
def wYG(r:GRec):Bool:=if r.kind=2 then r.yes else false
def wOG(r:GRec):Int:=if r.kind=3 then r.order else 0
def wFG(r:GRec):ByteArray:=if r.kind=4 then r.from' else sNil
def wEG(r:GRec):Bool:=if r.kind=1 then true else if r.kind=3 then decide (r.order=3)else false
def v5G(r:GRec):Bool:=((((decide (r.target=T0 r)&&(r.yes == wYG r))&&decide (r.order=wOG r))&&decide (r.from'=wFG r))&&(decide (0<((r.edits.map aW).length:Int)) == wEG r))&&(!ndG r||isJ (T0 r))
def eL(r:GRec):Bool:=(((!XN r&&!KU r)&&(iK r.edits).2)&&GR r)&&v5G r
abbrev W5:=ByteArray×Bool×Int×ByteArray×Bool
def AO(r:GRec):W5:=(T0 r,wYG r,wOG r,wFG r,wEG r)
theorem aLw(h:r.kind=1):GR r=true/\(sNil,false,0,sNil,true)=AO r:=by simp[GR,AO,T0,wYG,wOG,wFG,wEG,h]
theorem aLv(h:r.kind=2):GR r=true/\(r.target,r.yes,0,sNil,false)=AO r:=by simp[GR,AO,T0,wYG,wOG,wFG,wEG,h]
theorem aLu(h:r.kind=3)(hw:kN r.order 1 4=true):GR r=true/\(r.target,false,r.order,sNil,decide (r.order=3))=AO r:=by simp[GR,AO,T0,wYG,wOG,wFG,wEG,h,hw]
theorem aLt(h:r.kind=4)(hn:bM r.from'=true)(hb:r.from'≠r.branch):GR r=true/\(sNil,false,0,r.from',false)=AO r:=by simp[GR,AO,T0,wYG,wOG,wFG,wEG,h,hn,hb]
theorem aLs(h:r.kind=5):GR r=true/\(sNil,false,0,sNil,false)=AO r:=by simp[GR,AO,T0,wYG,wOG,wFG,wEG,h]
theorem aGf(h:XN r=true):eL r=false:=by simp[eL,h]
theorem aAG(h:KU r=true):eL r=false:=by simp[eL,h]
theorem aGe(h:(iK r.edits).2=false):eL r=false:=by simp[eL,h]
theorem RK(h:GR r=false):eL r=false:=by simp[eL,h]
theorem aGd(h1:XN r=false)(h2:KU r=false)(h3:(iK r.edits).2=true)(h4:GR r=true):eL r=v5G r:=by simp[eL,h1,h2,h3,h4]
theorem aDN(h:r.target.size<1099511627776):(T0 r).size<1099511627776:=by
 rw[T0]
 split
 ·exact h
 exact(by decide:(0:Nat)<1099511627776)
theorem EV(r:GRec)(hr:iA r)(hp:r.parents.length<549755813888)(H:aH):aI Tryz.prog 14 [av (cC r)] H (fun x H'=>x=bv (eL r)/\H'=H):=by
 refine Pu ?_;obtain ⟨_,⟨b1,b2,b3⟩,hpa,hed,hs,hpv⟩:=hr;have htx:=fun H=>aAJ r.edits H hed.1 hed.2;obtain ⟨p1,p2,p3,p4,p5⟩:=hpv;have hoffs:=aKa r.priv.trace p4;have hsh1:=fun H=>aAR [r.priv.name,r.priv.reason] (show 2<1099511627776 by decide) H;have hsh2:=fun H=>aAR r.priv.sources p3.1 H;have hf1:=fun H=>WB r.priv.sl p5 H;have hf2:=fun H=>WB r.sl hs H;have hso:=fun H=>VU r.parents H (by omega);have hdg:=fun H=>IA r.parents hpa H;have hnm:=fun H=>zO r.branch H (by omega);have hnf:=fun H=>zO r.from' H (by omega)
 have hwt:=aDN b2;have hw:∀(n a b:Int) (H:aH),aI Tryz.prog 60 [iv n,iv a,iv b] H (fun r H'=>r=bv (kN n a b)/\H'=H):=fun n a b H=>KQ n a b H;refine Bd func14 rfl ntmps14<|Sr<|Dd (by exact cD (id:=1) rfl rfl rfl rfl rfl)<|Dd aL<|Zz<|Sr<|Dd (by exact bW (id:=3) rfl aNm rfl rfl)<|Uu (lG sizeOf98)<|Zz<|Sr<|Dd aL<|Zz<|Sr<|Dd (aS eU)<|Dd (pU iH sizeOf28)<|Dd (by exact bW (id:=5) rfl aJi rfl rfl)<|Uu (lG sizeOf28)<|Zz<|Sr<|Dd (aS lS)<|Dd (bC eT)<|Dd (by exact gJ rfl rfl)<|Dd (by exact aA rfl rfl call64 rfl ((aI.frameS hoffs (N1.sub ⟨rfl,trivial⟩) (eI.ofL ⟨vT _,trivial⟩) (by simp;rfl))))<|Dd aL<|Zz<|Sq<|Sq ?_;refine aT (t:=63) (n:=48) (X:=XN r) ?_ ?_
 ·all_goals refine Dd aE ?_
  all_goals refine Dm ?_
  all_goals refine Sp 23 (fun h23=>?_) fun h23=>?_
  all_goals try contradiction
  all_goals first|refine Fo<|Fo<|Fo<|Fo<|Fo ?_|refine On aE<|On (aS wV)<|On (bC isAgg9)<|On (aS wU)<|On (bC isAgg9) ?_
  all_goals first|refine Fo ?_|refine On (by exact aR [[.str r.priv.name],[.str r.priv.reason]] rfl cB rfl rfl rfl rfl rfl (by intro r hr;simp only[aP6,aPa,or_false]at hr;rcases hr with rfl|rfl<;>rfl)) ?_
  all_goals first|refine Fo<|Fo ?_|refine On (by exact cU rfl rfl rfl (dK.fn call61 (hsh1 _)))<|On iQ ?_
  all_goals refine Dd cG<|Dm ?_
  all_goals refine Sp 33 (fun h33=>?_) fun h33=>?_
  all_goals try contradiction
  all_goals first|refine Fo<|Fo<|Fo<|Fo<|Fo ?_|refine On aE<|On (aS qQ)<|On (bC aF)<|On (by exact cU rfl rfl rfl (dK.fn call61 (hsh2 _)))<|On iQ ?_
  all_goals refine Dd cG<|Dm ?_
  all_goals refine Sp 40 (fun h40=>?_) fun h40=>?_
  all_goals try contradiction
  all_goals first|refine Fo<|Fo<|Fo<|Fo ?_|refine On (aS qQ)<|On (bC aF)<|On (fE aD)<|On iE ?_
  all_goals refine Dd cG<|Dm ?_
  all_goals refine Sp 46 (fun h46=>?_) fun h46=>?_
  all_goals try contradiction
  all_goals first|refine Fo<|Fo<|Fo<|Fo ?_|refine On (aS lS)<|On (bC eT)<|On (fE dI)<|On iE ?_
  all_goals refine Dd cG<|Dm ?_
  all_goals refine Sp 52 (fun h52=>?_) fun h52=>?_
  all_goals try contradiction
  all_goals first|refine Fo<|Fo<|Fo<|Fo ?_|refine On (aS lR)<|On (pU eC sizeOf25)<|On (by exact aA rfl rfl call66 rfl (hf1 _))<|On iQ ?_
  all_goals refine Dd cG<|Dm ?_
  all_goals refine Sp 58 (fun h58=>?_) fun h58=>?_
  all_goals try contradiction
  all_goals first|refine Fo<|Fo<|Fo<|Fo ?_|refine On (aS kC)<|On (pU eC sizeOf25)<|On (by exact aA rfl rfl call66 rfl (hf2 _))<|On iQ ?_
  all_goals refine Dd cG<|Zz ?_
  all_goals(exact⟨⟨_,rfl,by first|(rw[XN,h23];rfl)|(rw[XN,h23,h33];rfl)|(rw[XN,h23,h33,h40];rfl)|(rw[XN,h23,h33,h40,h46];rfl)|(rw[XN,h23,h33,h40,h46,h52];rfl)|(rw[XN,h23,h33,h40,h46,h52,h58];rfl)⟩,rfl,rfl,rfl⟩)
 refine Cn ?_ ?_<;>intro hc1
 ·rw[aGf hc1];exact Sr<|Dd aL<|Zz<|aB<|Rt<|Qq
 have h1:=hc1;have hin:aFA r.parents=(lL r.parents&&decide (((iC r.parents).length:Int)=((r.parents.map encStr).length:Int))):=rfl;obtain ⟨so,hsoe⟩:∃so,so=lL r.parents:=⟨_,rfl⟩;rw[<-hsoe]at hso hin;refine aC<|Sq ?_;refine gR.ent (E':=[(1,.ref 1 0 0 0),(3,.ref 3 0 0 0),(5,.ref 5 0 0 0),(4,.pv (.fn 61))]) (H':=[(5,bx 7 28 ((jS r.priv).map .pv)),(3,wiO),(1,bx 21 30 ((cC r).map .pv))]) (dA.wk (Ea<|Ea<|Ea<|Eb<|trivial) (Hb<|Hc (vT _)<|Hb<|trivial) trivial) ?_;cases so with
 | false =>
  have h2:KU r=true:=by rw[KU,hin,Bool.false_and,Bool.not_false,Bool.or_true]
  rw[aAG h2];refine aN follows<|Cr [1] (fun _ h=>fh kW h)<|Cr [1] (fun _ h=>lh aF h)<|Cr [] (fun H1 hH=>by exact aA rfl rfl call67 rfl (hso _))<|Cr [] (fun _ _=>aE)<|Ot<|Ot<|Ot<|Ot<|Ot<|Ot<|Ot<|Ot<|Ot<|Cr [] (fun _ _=>cG)<|Cr [] (fun _ _=>aL)<|bL<|Kr<|Sq<|Sq ?_;refine aT (t:=118) (n:=47) (X:=KU r) ?_ ?_
  ·all_goals refine Dd (bC pF) ?_
   all_goals refine Dd (aS qP)<|Dd (bC isAgg3)<|Dd (by exact cU rfl rfl rfl (dK.fn rM (hw r.author 0 59 _)))<|Dd iQ<|Dm ?_
   all_goals refine Sp 83 (fun h83=>?_) fun h83=>?_
   all_goals try contradiction
   all_goals first|refine Fo<|Fo<|Fo<|Fo<|Fo ?_|refine On (bC pF)<|On (aS lP)<|On (bC isAgg3)<|On (by exact cU rfl rfl rfl (dK.fn rM (hw r.number 1 128 _)))<|On iQ ?_
   all_goals refine Dd cG<|Dm ?_
   all_goals refine Sp 90 (fun h90=>?_) fun h90=>?_
   all_goals try contradiction
   all_goals first|refine Fo<|Fo<|Fo<|Fo<|Fo ?_|refine On (bC pF)<|On (aS uX)<|On (bC isAgg3)<|On (by exact cU rfl rfl rfl (dK.fn rM (hw r.clock 1 1000000 _)))<|On iQ ?_
   all_goals refine Dd cG<|Dm ?_
   all_goals refine Sp 97 (fun h97=>?_) fun h97=>?_
   all_goals try contradiction
   all_goals first|refine Fo<|Fo<|Fo<|Fo ?_|refine On (aS uW)<|On (bC isAgg9)<|On (by exact aA rfl rfl oU rfl (hnm _))<|On iQ ?_
   all_goals refine Dd cG<|Dm ?_
   all_goals refine Sp 103 (fun h103=>?_) fun h103=>?_
   all_goals try contradiction
   all_goals first|refine Fo<|Fo<|Fo<|Fo ?_|refine On (aS kW)<|On (bC aF)<|On (fE aD)<|On iE ?_
   all_goals refine Dd cG<|Dm ?_
   all_goals refine Sp 109 (fun h109=>?_) fun h109=>?_
   all_goals try contradiction
   all_goals first|refine Fo<|Fo<|Fo<|Fo ?_|refine On (aS kW)<|On (bC aF)<|On (by exact aA rfl rfl aG4 rfl (hdg _))<|On iQ ?_
   all_goals refine Dd cG<|Dm ?_
   all_goals refine Sp 115 (fun h115=>?_) fun h115=>?_
   all_goals try contradiction
   all_goals first|refine Fo<|Fo ?_|refine On aE<|On iQ ?_
   all_goals refine Dd cG<|Zz ?_
   all_goals(exact⟨⟨_,rfl,by first|(rw[KU,hin,h83];rfl)|(rw[KU,hin,h83,h90];rfl)|(rw[KU,hin,h83,h90,h97];rfl)|(rw[KU,hin,h83,h90,h97,h103];rfl)|(rw[KU,hin,h83,h90,h97,h103,h109];rfl)|(rw[KU,hin,h83,h90,h97,h103,h109,h115];rfl)⟩,rfl,rfl,rfl⟩)
  refine Cn ?_ ?_<;>intro hc2
  ·exact Sr<|Dd aL<|Zz<|aB<|Rt<|Qq
  rw[h2]at hc2;cases hc2
 | true =>
  refine aN follows<|Cr [1] (fun _ h=>fh kW h)<|Cr [1] (fun _ h=>lh aF h)<|Cr [] (fun H1 hH=>by exact aA rfl rfl call67 rfl (hso _))<|Cr [] (fun _ _=>aE) ?_;refine bF (r:=⟨_,some [1],[]⟩) (cI rfl rfl rfl (by rfl) (fun H1 hH=>by exact(by exact bG rfl kW rfl ((hH _ rfl).trans rfl) rfl rfl))) rfl ?_;refine bF (r:=⟨_,some [1],[]⟩) (cI rfl rfl rfl (by rfl) (fun H1 hH=>by exact(by exact aK rfl aF rfl ((hH _ rfl).trans rfl) rfl rfl rfl))) rfl ?_;refine bF (r:=⟨_,some [901],[_]⟩) (cI rfl rfl rfl (by rfl) (fun H1 hH=>by exact aA rfl rfl call69 rfl (aLO r.parents (by omega) ((hH _ rfl).trans rfl)))) rfl ?_;refine bF (r:=⟨_,some [901],[_]⟩) (cI rfl rfl rfl (by rfl) (fun H1 hH=>by exact aA rfl rfl call68 rfl (aC4 r.parents 1 _ ((hH _ rfl).trans rfl) (by omega)))) rfl ?_;refine bF (r:=⟨_,some [901],[]⟩) (cI rfl rfl rfl (by rfl) (fun H1 hH=>by exact(by exact eF rfl aD rfl ((hH _ rfl).trans rfl) rfl))) rfl ?_;refine bF (r:=⟨_,some [1],[]⟩) (cI rfl rfl rfl (by rfl) (fun H1 hH=>by exact(by exact bG rfl kW rfl ((hH _ rfl).trans rfl) rfl rfl))) rfl ?_;refine bF (r:=⟨_,some [1],[]⟩) (cI rfl rfl rfl (by rfl) (fun H1 hH=>by exact(by exact aK rfl aF rfl ((hH _ rfl).trans rfl) rfl rfl rfl))) rfl ?_;refine bF (r:=⟨_,some [],[]⟩) (cI rfl rfl rfl (by rfl) (fun H1 hH=>by exact(by exact lO rfl aD rfl))) rfl ?_;refine bF (r:=⟨_,some [],[]⟩) (cI rfl rfl rfl (by rfl) (fun H1 hH=>by exact fO rfl rfl rfl)) rfl ?_;refine Cr [] (fun _ _=>cG)<|Cr [] (fun _ _=>aL)<|bL<|Kr<|Sq<|Sq ?_;refine aT (t:=118) (n:=47) (X:=KU r) ?_ ?_
  ·all_goals refine Dd (bC pF) ?_
   all_goals refine Dd (aS qP)<|Dd (bC isAgg3)<|Dd (by exact cU rfl rfl rfl (dK.fn rM (hw r.author 0 59 _)))<|Dd iQ<|Dm ?_
   all_goals refine Sp 83 (fun h83=>?_) fun h83=>?_
   all_goals try contradiction
   all_goals first|refine Fo<|Fo<|Fo<|Fo<|Fo ?_|refine On (bC pF)<|On (aS lP)<|On (bC isAgg3)<|On (by exact cU rfl rfl rfl (dK.fn rM (hw r.number 1 128 _)))<|On iQ ?_
   all_goals refine Dd cG<|Dm ?_
   all_goals refine Sp 90 (fun h90=>?_) fun h90=>?_
   all_goals try contradiction
   all_goals first|refine Fo<|Fo<|Fo<|Fo<|Fo ?_|refine On (bC pF)<|On (aS uX)<|On (bC isAgg3)<|On (by exact cU rfl rfl rfl (dK.fn rM (hw r.clock 1 1000000 _)))<|On iQ ?_
   all_goals refine Dd cG<|Dm ?_
   all_goals refine Sp 97 (fun h97=>?_) fun h97=>?_
   all_goals try contradiction
   all_goals first|refine Fo<|Fo<|Fo<|Fo ?_|refine On (aS uW)<|On (bC isAgg9)<|On (by exact aA rfl rfl oU rfl (hnm _))<|On iQ ?_
   all_goals refine Dd cG<|Dm ?_
   all_goals refine Sp 103 (fun h103=>?_) fun h103=>?_
   all_goals try contradiction
   all_goals first|refine Fo<|Fo<|Fo<|Fo ?_|refine On (aS kW)<|On (bC aF)<|On (fE aD)<|On iE ?_
   all_goals refine Dd cG<|Dm ?_
   all_goals refine Sp 109 (fun h109=>?_) fun h109=>?_
   all_goals try contradiction
   all_goals first|refine Fo<|Fo<|Fo<|Fo ?_|refine On (aS kW)<|On (bC aF)<|On (by exact aA rfl rfl aG4 rfl (hdg _))<|On iQ ?_
   all_goals refine Dd cG<|Dm ?_
   all_goals refine Sp 115 (fun h115=>?_) fun h115=>?_
   all_goals try contradiction
   all_goals first|refine Fo<|Fo ?_|refine On aE<|On iQ ?_
   all_goals refine Dd cG<|Zz ?_
   all_goals(exact⟨⟨_,rfl,by first|(rw[KU,hin,h83];rfl)|(rw[KU,hin,h83,h90];rfl)|(rw[KU,hin,h83,h90,h97];rfl)|(rw[KU,hin,h83,h90,h97,h103];rfl)|(rw[KU,hin,h83,h90,h97,h103,h109];rfl)|(rw[KU,hin,h83,h90,h97,h103,h109,h115];rfl)⟩,rfl,rfl,rfl⟩)
  refine Cn ?_ ?_<;>intro hc3
  ·rw[aAG hc3];exact Sr<|Dd aL<|Zz<|aB<|Rt<|Qq
  have h2:=hc3;obtain ⟨tx,htxe⟩:∃tx,tx=(iK r.edits).1:=⟨_,rfl⟩;obtain ⟨tb,htbe⟩:∃tb,tb=(iK r.edits).2:=⟨_,rfl⟩;rw[<-htxe,<-htbe]at htx;refine aC<|Sq<|Sr<|Dd (aS uV)<|Dd (bC iI)<|Dd (by exact aA rfl rfl call72 rfl (htx _))<|Dd aE<|Dd fS<|Dd fS<|Dd aL<|Dd aL<|Zz<|Sr<|Dd aE<|Dd iQ<|Zz ?_;refine Cn ?_ ?_<;>intro hc4
  ·have hb:tb=false:=by have:=hc4;cases tb;rfl;cases this
   rw[aGe (htbe.symm.trans hb)];exact Sr<|Dd aL<|Zz<|aB<|Rt<|Qq
  have hb:tb=true:=by have:=hc4;cases tb;cases this;rfl
  have h3:(iK r.edits).2=true:=htbe.symm.trans hb;have hyes:=fun h4=>aGd h1 h2 h3 h4;clear htxe htbe;refine aC<|Sr<|Dd aL<|Dd aL<|Dd aL<|Dd aL<|Da ?_;refine fJ (fun(p:W5)=>([(1,.ref 1 0 0 0),(3,.ref 3 0 0 0),(10,sv p.1),(11,bv p.2.1),(12,iv p.2.2.1),(13,sv p.2.2.2.1),(14,bv p.2.2.2.2)],[(5,bx 7 28 ((jS r.priv).map .pv)),(3,wiO),(1,bx 21 30 ((cC r).map .pv))])) (fun p=>GR r=true/\p=AO r) ?_ ?_
  ·refine Sr<|Dd (aS lQ)<|Dd (bC isAgg3)<|Zz<|aG<|Sr<|Dd cK<|Da ?_;refine Cn ?_ ?_<;>intro hc5
   ·have hk:=aLw (aPQ hc5);refine Rg<|Da ?_;exact⟨_,hk,(dA.wk (Ea<|Ea<|Eb<|Eb<|Eb<|Eb<|Eb<|trivial) (Hb<|Hc (vT _)<|Hb<|trivial) trivial)⟩
   have hk1:=aPR hc5;refine Sr<|Dd cK<|Da ?_;refine Cn ?_ ?_<;>intro hc6
   ·have hk:=aLv (aPQ hc6);refine aN follows<|Cq (aS uU)<|Cq (bC isAgg9)<|Cq (aS B3)<|Cq (bC oT)<|Cq aL<|Cq aL<|bL<|Kr ?_;exact⟨_,hk,(dA.wk (Ea<|Ea<|Eb<|Eb<|Eb<|Eb<|Eb<|trivial) (Hb<|Hc (vT _)<|Hb<|trivial) trivial)⟩
   have hk2:=aPR hc6;refine Sr<|Dd cK<|Da ?_;refine Cn ?_ ?_<;>intro hc7
   ·have hk3:=aPQ hc7;refine Sq<|aN follows<|Cq (aS uU)<|Cq (bC isAgg9)<|Cq (aS sO)<|Cq (bC isAgg3)<|Cq (aS sO)<|Cq (bC isAgg3)<|Cq cK<|Cq aL<|Cq aL<|Cq aL<|bL<|Kr<|Sr<|Dd (bC pF)<|Dd aE<|Dd (by exact cU rfl rfl rfl (dK.fn rM (hw r.order 1 4 _)))<|Dd iQ<|Zz ?_;refine Cn ?_ ?_<;>intro hc8
    ·have hk:kN r.order 1 4=false:=by have:=hc8;revert this;cases kN r.order 1 4<;>simp
     rw[RK (by rw[GR,aPT hk3];exact hk)];exact Sr<|Dd aL<|Zz<|aB<|Rt<|Qq
    have hk:=aLu hk3 (by have:=hc8;revert this;cases kN r.order 1 4<;>simp);refine aC ?_;exact⟨_,hk,(dA.wk (Ea<|Ea<|Eb<|Eb<|Eb<|Eb<|Eb<|trivial) (Hb<|Hc (vT _)<|Hb<|trivial) trivial)⟩
   have hk3:=aPR hc7;refine Sr<|Dd cK<|Da ?_;refine Cn ?_ ?_<;>intro hc9
   ·have hk4:=aPQ hc9;refine Sr<|Dd (aS qO)<|Dd (bC isAgg9)<|Dd aL<|Zz<|Sq ?_;refine aT (t:=162) (n:=10) (X:=!bM r.from'||decide (r.from'=r.branch)) ?_ ?_
    ·all_goals refine Dd aE ?_
     all_goals refine Dd (by exact aA rfl rfl oU rfl (hnf _))<|Dd iQ<|Dm ?_
     all_goals refine Sp 157 (fun h157=>?_) fun h157=>?_
     all_goals try contradiction
     all_goals first|refine Fo<|Fo<|Fo<|Fo ?_|refine On aE<|On (aS uW)<|On (bC isAgg9)<|On zE ?_
     all_goals refine Dd cG<|Zz ?_
     all_goals(exact⟨⟨_,rfl,by(rw[h157];rfl)⟩,rfl,rfl,rfl⟩)
    refine Cn ?_ ?_<;>intro hc10
    ·have hk:(bM r.from'&&!decide (r.from'=r.branch))=false:=by have:=hc10;revert this;cases bM r.from'<;>cases decide (r.from'=r.branch)<;>simp
     rw[RK (by rw[GR,aPS hk3,aPT hk4];exact hk)];exact Sr<|Dd aL<|Zz<|aB<|Rt<|Qq
    have hk:bM r.from'=true/\¬ r.from'=r.branch:=by have:=hc10;rw[aPg,Bool.not_eq_false',aP2]at this;exact this
    have hk:=aLt hk4 hk.1 hk.2;refine aC ?_;exact⟨_,hk,(dA.wk (Ea<|Ea<|Eb<|Eb<|Eb<|Eb<|Eb<|trivial) (Hb<|Hc (vT _)<|Hb<|trivial) trivial)⟩
   have hk4:=aPR hc9;refine Sr<|Dd cK<|Da ?_;refine Cn ?_ ?_<;>intro hc11
   ·have hk:=aLs (aPQ hc11);refine aC ?_;exact⟨_,hk,(dA.wk (Ea<|Ea<|Eb<|Eb<|Eb<|Eb<|Eb<|trivial) (Hb<|Hc (vT _)<|Hb<|trivial) trivial)⟩
   have hk5:=aPR hc11;rw[RK (by rw[GR,aPS hk3,aPS hk4,decide_eq_false (by omega)])];exact Sr<|Dd aL<|Zz<|aB<|Rt<|Qq
  rintro _ ⟨h4,rfl⟩;rw[hyes h4];have hdT:=fun H=>aEz (T0 r) hwt H;have hv5:v5G r=(((((decide (r.target=T0 r)&&(r.yes == wYG r))&&decide (r.order=wOG r))&&decide (r.from'=wFG r))&&(decide (0<((r.edits.map aW).length:Int)) == wEG r))&&(!ndG r||isJ (T0 r))):=rfl;rw[AO];refine Sq ?_;refine aT (t:=15) (n:=10) (X:=ndG r) ?_ ?_
  ·all_goals refine Dd (aS lQ) ?_
   all_goals refine Dd (bC isAgg3)<|Dd cK<|Dm ?_
   all_goals refine Sp 168 (fun h168=>?_) fun h168=>?_
   all_goals try contradiction
   all_goals first|refine Fo<|Fo<|Fo ?_|refine On (aS lQ)<|On (bC isAgg3)<|On cK ?_
   all_goals refine Dd cG<|Da ?_
   all_goals(exact⟨⟨_,rfl,by(rw[ndG,h168];rfl)⟩,rfl,rfl,rfl⟩)
  refine Sq ?_;refine aT (t:=2) (n:=45) (X:=v5G r) ?_ ?_
  ·all_goals refine Dd (aS uU) ?_
   all_goals refine Dd (bC isAgg9)<|Dd aE<|Dd zE<|Dm ?_
   all_goals refine Sp 177 (fun h177=>?_) fun h177=>?_
   all_goals try contradiction
   all_goals first|refine Fo<|Fo<|Fo<|Fo ?_|refine On (aS B3)<|On (bC oT)<|On aE<|On (by exact qE rfl dD rfl rfl) ?_
   all_goals refine Dd cG<|Dm ?_
   all_goals refine Sp 183 (fun h183=>?_) fun h183=>?_
   all_goals try contradiction
   all_goals first|refine Fo<|Fo<|Fo<|Fo ?_|refine On (aS sO)<|On (bC isAgg3)<|On aE<|On cK ?_
   all_goals refine Dd cG<|Dm ?_
   all_goals refine Sp 189 (fun h189=>?_) fun h189=>?_
   all_goals try contradiction
   all_goals first|refine Fo<|Fo<|Fo<|Fo ?_|refine On (aS qO)<|On (bC isAgg9)<|On aE<|On zE ?_
   all_goals refine Dd cG<|Dm ?_
   all_goals refine Sp 195 (fun h195=>?_) fun h195=>?_
   all_goals try contradiction
   all_goals first|refine Fo<|Fo<|Fo<|Fo<|Fo<|Fo ?_|refine On (aS uV)<|On (bC iI)<|On (fE cX)<|On iE<|On aE<|On (by exact qE rfl dD rfl rfl) ?_
   all_goals refine Dd cG<|Dm ?_
   all_goals refine Sp 203 (fun h203=>?_) fun h203=>?_
   all_goals try contradiction
   all_goals first|refine Fo<|Fo<|Fo ?_|refine On aE<|On iQ<|On aE ?_
   all_goals(first|refine Sp 206 (fun h206=>?_) fun h206=>?_|refine jX (t:=206) rfl ?_)
   all_goals try contradiction
   all_goals first|refine Fo ?_|refine Fu ?_|refine On aE ?_
   all_goals first|refine Fo ?_|refine Fu ?_|refine On (by exact aA rfl rfl aPF rfl (hdT _)) ?_
   all_goals first|refine Fo ?_|refine On cG ?_
   all_goals refine Dd cG<|Da ?_
   all_goals(exact⟨⟨_,rfl,by first|(rw[hv5,h177];rfl)|(rw[hv5,h177,h183];rfl)|(rw[hv5,h177,h183,h189];rfl)|(rw[hv5,h177,h183,h189,h195];rfl)|(rw[hv5,h177,h183,h189,h195,h203];rfl)|(rw[hv5,h177,h183,h189,h195,h203,h206];rfl)⟩,rfl,rfl,rfl⟩)
  exact aB<|Rt<|Qq
end Go.Proofs.YtmdicgjnmfolfaaGreatDoor
namespace Go.Proofs.YtmdicgjnmfolfaaGreatDoor
open Go.Proofs.Tryz
open Go.Abs Go.Lib
variable{s:GSeal}{r:GRec}{l:List GEdit}{n:Nat}
structure FSeal(s:GSeal):Prop where
 i0:0<=s.idx
 i1:s.idx<256
 sl:s.sig.length<=18
 pl:s.path.length<=8
 sa:∀t∈s.sig,isJ t=true
 pa:∀t∈s.path,isJ t=true
theorem KO(h:oI s=true):s=⟨0,[],[]⟩:=by rw[oI,aP3,aP1,aP1,aPU,aPU]at h;obtain ⟨i,a,b⟩:=s;obtain ⟨h1,h2⟩:=h;simp only at h1 h2;have ha:a=[]:=List.eq_nil_of_length_eq_zero (by omega);have hb:b=[]:=List.eq_nil_of_length_eq_zero (by omega);subst h1 ha hb;rfl
theorem jF(h:gN s=true):FSeal s:=by
 rw[gN,Bool.or_eq_true]at h;rcases h with h|h
 ·have:=KO h;subst this;exact⟨by decide,by decide,by decide,by decide,by simp,by simp⟩
 simp only[aP3,aP1,aPU,List.all_eq_true]at h;obtain ⟨⟨⟨⟨⟨h1,h2⟩,h3⟩,h4⟩,h5⟩,h6⟩:=h;exact⟨h1,h2,by omega,by omega,h5,h6⟩
structure VF(r:GRec):Prop where
 tr:∀q∈r.priv.trace,(0<=q.1/\q.1<=1048575)/\(0<=q.2/\q.2<=1048575)
 nm:r.priv.name.size<=200
 rs:r.priv.reason.size<=200
 so:∀s∈r.priv.sources,s.size<=200
 sol:r.priv.sources.length<=16
 trl:r.priv.trace.length<=200
 psl:gN r.priv.sl=true
 sl:gN r.sl=true
 au:0<=r.author/\r.author<=59
 nu:1<=r.number/\r.number<=128
 cl:1<=r.clock/\r.clock<=1000000
 br:bM r.branch=true
 pal:r.parents.length<=16
 pa:∀p∈r.parents,isJ p=true
 inc:aFA r.parents=true
 tx:(iK r.edits).2=true
 k:GR r=true
 ta:r.target=T0 r
 ye:r.yes=wYG r
 od:r.order=wOG r
 fr:r.from'=wFG r
 ed:decide (0<r.edits.length)=wEG r
 nd:ndG r=true->isJ (T0 r)=true
theorem SU{s:ByteArray}:BW s=false↔s.size<=200:=by rw[BW,aP2];omega
theorem lZ(h:eL r=true):VF r:=by
 simp only[eL,aP3,aPd]at h;obtain ⟨⟨⟨⟨h1,h2⟩,h3⟩,h4⟩,h5⟩:=h;simp only[XN,aPg,Bool.not_eq_false',aPd,aP2,aPU,List.any_eq_false,Bool.not_eq_true]at h1;obtain ⟨⟨⟨⟨⟨⟨a1,a2⟩,a3⟩,a4⟩,a5⟩,a6⟩,a7⟩:=h1;simp only[KU,aPg,Bool.not_eq_false',aP2,aPU,List.all_eq_true,kN,aP3,aP1]at h2;obtain ⟨⟨⟨⟨⟨⟨b1,b2⟩,b3⟩,b4⟩,b5⟩,b6⟩,b7⟩:=h2;simp only[v5G,aP3,aP1,beq_iff_eq,aPU,Bool.or_eq_true,aPd]at h5;obtain ⟨⟨⟨⟨⟨c1,c2⟩,c3⟩,c4⟩,c5⟩,c6⟩:=h5;refine⟨fun q hq=>?_,SU.1 (a2 _ (by simp)),SU.1 (a2 _ (by simp)),fun s hs=>SU.1 (a3 s hs),by omega,by omega,a6,a7,b1,b2,b3,b4,by omega,b6,b7,h3,h4,c1,c2,c3,c4,?_,fun hn=>?_⟩
 ·have:=a1 q hq;simp only[MC,aPg,Bool.not_eq_false',aP3,aP1]at this;exact this
 ·rw[<-c5];congr 1;exact propext ⟨fun h=>by omega,fun h=>by omega⟩
 rcases c6 with h|h
 ·rw[hn]at h;cases h
 exact h
theorem CY(h:GR r=true):1<=r.kind/\r.kind<=5:=by
 rw[GR]at h
 split at h
 ·omega
 split at h
 ·omega
 exact aPQ h
theorem HM{s:ByteArray}(h:bM s=true):s.size<=24:=by simp only[bM,aP3,aP1]at h;omega
theorem XS(h:(eW l).2=0):(eW l).1.size<=20000:=by
 have h2:=IX h;rw[mT]at h2
 split at h2
 ·have:=congrArg Prod.snd h2;cases this
 omega
theorem K4(h:(iK l).2=true):(iK l).1.size<=20000:=by
 rw[iK]at h |-
 split at h
 ·next h0 =>
  rw[aPT h0];exact(by decide:(0:Nat)<=20000)
 next h0 =>
 rw[aPS h0];exact XS (aPQ h)
theorem tJ{s:ByteArray}(h:isJ s=true):s.size<=16:=Nat.le_of_eq (uP h)
theorem VF.target(h:VF r):r.target.size<=16:=by
 rw[h.ta];by_cases hn:ndG r=true
 ·exact tJ (h.nd hn)
 have:T0 r=sNil:=by
  rw[T0,aPS];rintro(e|e)<;>simp[ndG,e]at hn
 rw[this];decide
theorem VF.from(h:VF r):r.from'.size<=24:=by
 rw[h.fr,wFG]
 split
 ·next e =>
  have hk:=h.k;rw[GR,aPS (by omega),aPT e,aP3]at hk;exact HM hk.1
 decide
theorem VF.order(h:VF r):0<=r.order/\r.order<=4:=by
 rw[h.od,wOG]
 split
 ·next e =>
  have hk:=h.k;rw[GR,aPT e,kN,aP3,aP1,aP1]at hk;omega
 decide
def IW(p:GPriv):List IV:=[.t p.name,.t p.reason,.l p.sources,.p p.trace]
def E7(r:GRec):List IV:=[.z r.sl.idx r.sl.sig r.sl.path,.t r.priv.name,.t r.priv.reason,.l r.priv.sources,.p r.priv.trace,.z r.priv.sl.idx r.priv.sl.sig r.priv.sl.path]
def tO(r:GRec):List ByteArray:=nG r++rS (E7 r)
def qV(r:GRec):ByteArray:=if eL r=true then yK (nG r)else sNil
def pX(r:GRec):ByteArray×Int:=if eL r=true then(if 20000<(aO (tO r)).length then(sNil,2)else(ofL (aO (tO r)),0))else(sNil,1)
def prW:ByteArray:=⟨#[112,114,105,118,97,116,101]⟩
def oD(r:GRec):ByteArray:=yK ([prW,qV r]++rS (IW r.priv))
def le2(x:ByteArray):Prop:=x.size<=20000
theorem oM{n:Int}(h0 : -9223372036854775808<=n)(h1:n<=9223372036854775807):le2 (aV n):=Nat.le_trans (pA h0 h1) (by decide)
theorem FT(h:n<1099511627776):le2 (aV (n:Int)):=oM (by omega) (by omega)
theorem UO(h:FSeal s):∀x∈fI (.z s.idx s.sig s.path),le2 x:=by
 intro x hx;have i0:=h.i0;have i1:=h.i1;have l1:=h.sl;have l2:=h.pl;simp only[fI,aP6,List.mem_append]at hx;rcases hx with rfl|(rfl|hx)|(rfl|hx)
 ·exact oM (by omega) (by omega)
 ·exact FT (by omega)
 ·exact Nat.le_trans (tJ (h.sa x hx)) (by decide)
 ·exact FT (by omega)
 exact Nat.le_trans (tJ (h.pa x hx)) (by decide)
theorem UN(h:FSeal s):(fI (.z s.idx s.sig s.path)).length<=29:=by have l1:=h.sl;have l2:=h.pl;simp only[fI,aPW,aPV];omega
theorem R9(h:VF r):∀x∈nG r,le2 x:=by
 intro x hx;obtain ⟨v,hv,hx⟩:=List.mem_flatMap.1 hx;have hk:=CY h.k;have h1:=h.au;have h2:=h.nu;have h3:=h.cl;have h4:=h.order;have hn:=HM h.br;have ht:=h.target;have hf:=h.from
 have hl:=h.pal;simp only[FE,aP6,aPa,or_false]at hv;rcases hv with rfl|rfl|rfl|rfl|rfl|rfl|rfl|rfl|rfl|rfl|rfl|rfl<;>simp only[fI,aP6,aPa,or_false]at hx
 ·subst hx;exact(by decide:UT.size<=20000)
 ·subst hx;exact oM (by omega) (by omega)
 ·subst hx;exact oM (by omega) (by omega)
 ·subst hx;exact oM (by omega) (by omega)
 ·subst hx;exact oM (by omega) (by omega)
 ·subst hx;exact Nat.le_trans hn (by decide)
 ·rcases hx with rfl|hx
  ·exact FT (by omega)
  exact Nat.le_trans (tJ (h.pa x hx)) (by decide)
 ·subst hx;exact K4 h.tx
 ·subst hx;exact Nat.le_trans ht (by decide)
 ·subst hx;split<;>exact oM (by decide) (by decide)
 ·subst hx;exact oM (by omega) (by omega)
 subst hx;exact Nat.le_trans hf (by decide)
theorem J8(h:VF r):(nG r).length<=28:=by have:=h.pal;rw[nG,U0];omega
theorem YC(h:VF r):∀x∈rS (IW r.priv),le2 x:=by
 intro x hx;obtain ⟨v,hv,hx⟩:=List.mem_flatMap.1 hx;have h1:=h.nm;have h2:=h.rs;have h3:=h.sol;have h4:=h.trl;simp only[IW,aP6,aPa,or_false]at hv;rcases hv with rfl|rfl|rfl|rfl<;>simp only[fI,aP6,aPa,or_false,List.mem_flatMap]at hx
 ·subst hx;exact Nat.le_trans h1 (by decide)
 ·subst hx;exact Nat.le_trans h2 (by decide)
 ·rcases hx with rfl|hx
  ·exact FT (by omega)
  exact Nat.le_trans (h.so x hx) (by decide)
 rcases hx with rfl|⟨q,hq,hx⟩
 ·exact FT (by omega)
 obtain ⟨q1,q2⟩:=h.tr q hq;rcases hx with rfl|rfl
 ·exact oM (by omega) (by omega)
 exact oM (by omega) (by omega)
theorem aED(ps:List (Int×Int)):(fI (.p ps)).length=1+2*ps.length:=by rw[show fI (.p ps)=aV (ps.length:Int)::NY ps from rfl,aPW,J9];omega
theorem YB(h:VF r):(rS (IW r.priv)).length<=420:=by have h3:=h.sol;have h4:=h.trl;have:=aED r.priv.trace;simp only[rS,IW,List.flatMap_cons,List.flatMap_nil,aPV,this];simp only[fI,aPW,List.length_nil];omega
theorem aDg(r:GRec):rS (E7 r)=fI (.z r.sl.idx r.sl.sig r.sl.path)++(rS (IW r.priv)++fI (.z r.priv.sl.idx r.priv.sl.sig r.priv.sl.path)):=by simp[rS,E7,IW,List.flatMap_cons]
theorem aHG(h:VF r):∀x∈rS (E7 r),le2 x:=by
 intro x hx;rw[aDg]at hx;rcases List.mem_append.1 hx with hx|hx
 ·exact UO (jF h.sl) x hx
 rcases List.mem_append.1 hx with hx|hx
 ·exact YC h x hx
 exact UO (jF h.psl) x hx
theorem aAT(h:VF r):(rS (E7 r)).length<=478:=by have h1:=UN (jF h.sl);have h2:=UN (jF h.psl);have h3:=YB h;rw[aDg,aPV,aPV];omega
theorem zW{M:Nat}(hM:M<1000000000000000000):∀(L:List ByteArray),(∀s∈L,s.size<=M)->(aO L).length<=L.length*(M+22)
 | [],_=>aPb _
 |s::L,h=>by
  have ih:=zW hM L fun x hx=>h x (List.mem_cons_of_mem _ hx);have hs:=h s List.mem_cons_self;have hi:=pA (n:=(s.size:Int)) (by omega) (by omega);rw[show aO (s::L)=(nZ s).data.toList++aO L by rw[aO,List.flatMap_cons];rfl,aPV,nF,pN,aPW,Nat.succ_mul];omega
theorem zV{L:List ByteArray}(h:∀x∈L,le2 x)(hn:L.length<=n):(aO L).length<=n*20022:=Nat.le_trans (zW (M:=20000) (by decide) L h) (Nat.mul_le_mul_right _ hn)
end Go.Proofs.YtmdicgjnmfolfaaGreatDoor
namespace Go.Abs
theorem aI.fin{P}{f}{args}{H}{Q a}(h:aI P f args H Q)(c:∀r H1,Q r H1->∃r' H2,Fin H H1 r H2 r'/\a r' H2):aI P f args H a :=fun I l w vs j i d=>(h I _ w _ j i d).mono fun _ w' ⟨r,H',I',ι',v,e,q,m,b,g⟩=>by
  obtain ⟨r',H2,k,hq'⟩:=c r _ q;obtain ⟨I2,ι2,a1,a2,a3⟩:=k ⟨I,l,H,w,[]⟩ rfl _ _ _ v b g m
  grind
end Go.Abs
namespace Go.Proofs.YtmdicgjnmfolfaaGreatDoor
open Go.Proofs.Tryz
open Go.Abs
variable{b:Bool}{r:GRec}
theorem not_not(h:(!b)=true):b=false:=by cases b;rfl;cases h
theorem qJ(h:(!b)=false):b=true:=by cases b;cases h;rfl
theorem nC{α:Type}(f:α->List PV)(l:List α):((l.map f).take (0+l.length)).drop 0=l.map f:=by rw[aPc,List.drop_zero];exact List.take_of_length_le (by rw[aPU];exact aP0 _)
theorem WR(l:List ByteArray):qS ⟨(aO l).toArray⟩=yK l:=rfl
theorem aBs(r:GRec)(hr:iA r)(hp:r.parents.length<549755813888)(H:aH):aI Tryz.prog 39 [av (cC r)] H (fun x H'=>x=.pv (bA (nG r))/\H'=H):=by refine aI.pure ((PS r hr hp).fin ?_) (by simp[cC]) H;rintro _ _ ⟨rfl,rfl⟩;exact⟨_,[],Fin.fz (id:=971) (ob:=⟨U1 r,1,9,dF (nG r)⟩) ((nG r).map encStr) rfl (gC _) (.osl (nC encStr _)) rfl trivial trivial,rfl,rfl⟩
theorem aBt(r:GRec)(hr:iA r)(hp:r.parents.length<549755813888){H:aH}(hno:H.get 971=none):aI Tryz.prog 39 [av (cC r)] H (fun x H'=>x=.osl 971 (U1 r) 0 (nG r).length/\H'=(971,⟨U1 r,1,9,dF (nG r)⟩)::H) :=aI.frame (PS r hr hp) (fun _ _ h=>by cases h) (fun _ _ h=>by cases h) (by simp[cC]) (fun id h=>.inr (by
  by_cases e:971=id
  ·subst e;exact hno
  simp[aH.get,kX e]at h))
theorem QJ(r:GRec)(hr:iA r)(hp:r.parents.length<549755813888)(H:aH):aI Tryz.prog 16 [av (cC r)] H (fun x H'=>x=sv (qV r)/\H'=H):=by
 refine aI.pure ?_ (by simp[cC]) H;have hv:=fun H=>EV r hr hp H;have hpu:=fun H=>aBs r hr hp H;rw[qV];refine Bd func16 rfl ntmps16<|Sr<|Dd (by exact cD (id:=1) rfl rfl rfl rfl rfl)<|Dd aL<|Zz<|Sq<|Sr<|Dd (pU bQ aQ)<|Dd (by exact aA rfl rfl TW rfl (hv _))<|Dd iQ<|Zz ?_;refine Cn ?_ ?_<;>intro hc1
 ·have hb:=not_not hc1;rw[aPS (by rw[hb];decide)];exact Sr<|Dd aL<|Zz<|aB<|Rt<|Qq
 have hb:=qJ hc1;have hf:=lZ hb;have hsz:=zV (R9 hf) (J8 hf);rw[aPT hb];have hjo:=fun H=>QG (nG r) H (by omega);have hsu:=fun H=>UG ⟨(aO (nG r)).toArray⟩ H (by rw[show (⟨(aO (nG r)).toArray⟩:ByteArray).size=(aO (nG r)).length from by simp[ByteArray.size]];omega);rw[WR]at hsu;exact aC<|Sr<|Dd (pU bQ aQ)<|Dd (by exact aA rfl rfl call39 rfl (hpu _))<|Dd (by exact aA rfl rfl call41 rfl (hjo _))<|Dd (by exact aA rfl rfl TU rfl (hsu _))<|Dd aL<|Zz<|aB<|Rt<|Qq
theorem aHI(h:iA r)(hv:VF r):∀v∈E7 r,okI v:=by
 obtain ⟨_,_,_,_,⟨a1,a2,a3⟩,b1,b2,b3,b4,c1,c2,c3⟩:=h;intro v hv';simp only[E7,aP6,aPa,or_false]at hv';rcases hv' with rfl|rfl|rfl|rfl|rfl|rfl
 ·exact⟨a1,a2.1,a3.1⟩
 ·exact trivial
 ·exact trivial
 ·exact b3.1
 ·exact⟨b4,fun q hq=>by
   obtain ⟨⟨q1,q2⟩,q3,q4⟩:=hv.tr q hq;exact⟨⟨by omega,by omega⟩,by omega,by omega⟩⟩
 exact⟨c1,c2.1,c3.1⟩
theorem aKI(h:iA r)(hv:VF r):∀v∈IW r.priv,okI v:=by
 obtain ⟨_,_,_,_,_,b1,b2,b3,b4,c1,c2,c3⟩:=h;intro v hv';simp only[IW,aP6,aPa,or_false]at hv';rcases hv' with rfl|rfl|rfl|rfl
 ·exact trivial
 ·exact trivial
 ·exact b3.1
 exact⟨b4,fun q hq=>by
  obtain ⟨⟨q1,q2⟩,q3,q4⟩:=hv.tr q hq;exact⟨⟨by omega,by omega⟩,by omega,by omega⟩⟩
theorem RN(r:GRec)(hr:iA r)(hp:r.parents.length<549755813888)(H:aH):aI Tryz.prog 10 [av (cC r)] H (fun x H'=>x=.tup [sv (pX r).1,iv (pX r).2]/\H'=H):=by
 refine aI.pure ?_ (by simp[cC]) H;have hv:=fun H=>EV r hr hp H;have hpu:=fun H hno=>aBt r hr hp (H:=H) hno;rw[pX];refine Bd func10 rfl ntmps10<|Sr<|Dd (by exact cD (id:=1) rfl rfl rfl rfl rfl)<|Dd aL<|Dd aL<|Zz<|Sq<|Sr<|Dd (pU bQ aQ)<|Dd (by exact aA rfl rfl TW rfl (hv _))<|Dd iQ<|Zz ?_;refine Cn ?_ ?_<;>intro hc1
 ·have hb:=not_not hc1;rw[aPS (by rw[hb];decide)];exact Sr<|Dd aL<|Dd aL<|Zz<|aB<|Ru<|Qq
 have hb:=qJ hc1;have hf:=lZ hb;have hsz:=zV (L:=tO r) (n:=506) (fun x hx=>(List.mem_append.1 hx).elim (R9 hf x) (aHG hf x)) (by
  have:=J8 hf;have:=aAT hf;rw[tO,aPV];omega)
 have hpl:=J8 hf;have hsl:=aAT hf;rw[aPT hb];have hadd:=Z1 (E7 r) (aHI hr hf) (U1 r) (nG r) (show 6<1099511627776 by decide) (by omega);have hjo:=fun H=>QG (tO r) H (by omega);have hal:tO r=nG r++rS (E7 r):=rfl;rw[<-hal]at hadd;obtain ⟨S,hS⟩:∃S,S=tO r:=⟨_,rfl⟩;obtain ⟨g,hg⟩:∃g,g=U1 r+ZG (E7 r):=⟨_,rfl⟩;rw[<-hS]at hadd hjo hsz |-;rw[<-hg]at hadd;have hof:(⟨(aO S).toArray⟩:ByteArray)=ofL (aO S):=rfl;rw[hof]at hjo;have hos:(ofL (aO S)).size=(aO S).length:=dG _;refine aC<|Sr<|Dd (pU bQ aQ)<|Dd (by exact aA rfl rfl call39 rfl (hpu _ rfl))<|Dd (by exact bW (id:=970) rfl aLh rfl rfl)<|Uu (lG IJ)<|Zz<|Sr<|Dd (aS kC)<|Dd (pU eC sizeOf25)<|Dd (by exact FK (ps:=gW r.sl) rfl (dQ gQ rfl) rfl)<|Dd (aS eU)<|Dd (aS wV)<|Dd (bC isAgg9)<|Dd (by exact fD (p:=.str r.priv.name) rfl (dQ underlying9 rfl) rfl)<|Dd (aS eU)<|Dd (aS wU)<|Dd (bC isAgg9)<|Dd (by exact fD (p:=.str r.priv.reason) rfl (dQ underlying9 rfl) rfl)<|Dd (aS eU)<|Dd (aS qQ)<|Dd (bC aF)<|Dd (by exact fD (p:=bA r.priv.sources) rfl (dQ aD rfl) rfl)<|Dd (aS eU)<|Dd (aS lS)<|Dd (bC eT)<|Dd (by exact fD (p:=rZ r.priv.trace) rfl (dQ dI rfl) rfl) ?_;refine Dd (aS eU)<|Dd (aS lR)<|Dd (pU eC sizeOf25)<|Dd (by exact FK (ps:=gW r.priv.sl) rfl (dQ gQ rfl) rfl)<|Dd (by exact aR ((E7 r).map wX) rfl vW rfl rfl rfl rfl rfl (M8 (E7 r)))<|Dd (by exact aA rfl rfl vP rfl (XA hadd ⟨rfl,rfl,trivial⟩ (by simp;rfl)))<|Zz<|Sq ?_;refine gR.ent (dA.fzG (id:=971) (E':=[(4,.ref 970 0 0 0)]) (H':=[(970,bx 1 72 [.pv (bA S)])]) (S.map encStr) rfl (gC _) ?_ rfl ?_ ?_) ?_
 ·intro p hp;simp only[aP6,aPa,or_false]at hp;rcases hp with rfl;exact⟨_,rfl,.same (by simp;rfl)⟩
 ·exact⟨⟨_,rfl,rfl,rfl,rfl,qM rfl (dR (.osl (nC encStr _)) qN)⟩,trivial⟩
 ·exact trivial
 refine Rg<|Dd (bC DF)<|Dd (by exact aA rfl rfl call41 rfl (hjo _))<|Dd aL<|Zz<|Sq<|Sr<|Dd aE<|Dd (jV underlying9)<|Dd iE<|Zz ?_;refine Cn ?_ ?_<;>intro hc2
 ·have hlt:20000<(aO S).length:=by have:=aPQ hc2;omega
  rw[aPT hlt];exact Sr<|Dd aL<|Dd aL<|Zz<|aB<|Ru<|Qq
 have hlt:¬ 20000<(aO S).length:=by have:=aPR hc2;omega
 rw[aPS hlt];exact aC<|Sr<|Dd aE<|Dd aL<|Dd aL<|Zz<|aB<|Ru<|Qq
theorem F2(r:GRec):(qV r).size<=20000:=by
 by_cases h:eL r=true
 ·rw[qV,aPT h];exact Nat.le_trans (Nat.le_of_eq (jJ _)) (by decide)
 rw[qV,aPS h];decide
theorem P8(r:GRec)(hr:iA r)(hp:r.parents.length<549755813888)(hb:eL r=true)(H:aH):aI Tryz.prog 82 [av (cC r)] H (fun x H'=>x=sv (oD r)/\H'=H):=by
 refine aI.pure ?_ (by simp[cC]) H;have hid:=fun H=>QJ r hr hp H;have hf:=lZ hb;have hpl:=YB hf;have hadd:=Z1 (IW r.priv) (aKI hr hf) 0 [prW,qV r] (show 4<1099511627776 by decide) (by simp only[aPW,List.length_nil];omega);have his:=F2 r;have hsz:=zV (L:=[prW,qV r]++rS (IW r.priv)) (n:=422) (fun x hx=>(List.mem_append.1 hx).elim (fun hx=>by
   simp only[aP6,aPa,or_false]at hx;rcases hx with rfl|rfl
   ·exact(by decide:prW.size<=20000)
   exact his) (YC hf x)) (by rw[aPV,aPW,aPW,List.length_nil];omega)
 rw[oD];have hli:=fun H=>aEi ([prW,qV r]++rS (IW r.priv)) H (by omega);obtain ⟨S,hS⟩:∃S,S=[prW,qV r]++rS (IW r.priv):=⟨_,rfl⟩;obtain ⟨g,hg⟩:∃g,g=0+ZG (IW r.priv):=⟨_,rfl⟩;rw[<-hS]at hadd hli |-;rw[<-hg]at hadd;obtain ⟨i,hi⟩:∃i,i=qV r:=⟨_,rfl⟩;rw[<-hi]at hid hadd;refine Bd func82 rfl ntmps82<|Sr<|Dd (by exact cD (id:=1) rfl rfl rfl rfl rfl)<|Dd aL<|Zz<|Sr<|Dd (pU bQ aQ)<|Dd (by exact aA rfl rfl GZ rfl (hid _))<|Dd (by exact gB (id:=971) rfl X1 rfl rfl rfl rfl (by intro r hr;simp only[aP6,aPa,or_false]at hr;rcases hr with rfl|rfl<;>rfl) rfl)<|Dd (by exact bW (id:=970) rfl aLh rfl rfl)<|Uu (lG IJ)<|Zz<|Sr<|Dd (aS eU)<|Dd (aS wV)<|Dd (bC isAgg9)<|Dd (by exact fD (p:=.str r.priv.name) rfl (dQ underlying9 rfl) rfl)<|Dd (aS eU)<|Dd (aS wU)<|Dd (bC isAgg9)<|Dd (by exact fD (p:=.str r.priv.reason) rfl (dQ underlying9 rfl) rfl)<|Dd (aS eU)<|Dd (aS qQ)<|Dd (bC aF)<|Dd (by exact fD (p:=bA r.priv.sources) rfl (dQ aD rfl) rfl) ?_;refine Dd (aS eU)<|Dd (aS lS)<|Dd (bC eT)<|Dd (by exact fD (p:=rZ r.priv.trace) rfl (dQ dI rfl) rfl)<|Dd (by exact aR ((IW r.priv).map wX) rfl vW rfl rfl rfl rfl rfl (M8 (IW r.priv)))<|Dd (by exact aA rfl rfl vP rfl (XA hadd ⟨rfl,rfl,trivial⟩ (by simp;rfl)))<|Zz<|Sq ?_;refine gR.ent (dA.fzG (id:=971) (E':=[(3,.ref 970 0 0 0)]) (H':=[(970,bx 1 72 [.pv (bA S)])]) (S.map encStr) rfl (gC _) ?_ rfl ?_ ?_) ?_
 ·intro p hp;simp only[aP6,aPa,or_false]at hp;rcases hp with rfl;exact⟨_,rfl,.same (by simp;rfl)⟩
 ·exact⟨⟨_,rfl,rfl,rfl,rfl,qM rfl (dR (.osl (nC encStr _)) qN)⟩,trivial⟩
 ·exact trivial
 exact Rg<|Dd (bC DF)<|Dd (by exact aA rfl rfl call130 rfl (hli _))<|Dd aL<|Zz<|aB<|Rt<|Qq
def sT(r:GRec):GRec:={r with priv:=⟨sNil,sNil,[],[],⟨0,[],[]⟩⟩}
theorem aIn(r:GRec)(H:aH):aI Tryz.prog 21 [av (cC r)] H (fun x H'=>x=av (cC (sT r))/\H'=H):=by refine aI.pure ?_ (by simp[cC]) H;refine Bd func21 rfl ntmps21<|Sr<|Dd (by exact cD (id:=1) rfl rfl rfl rfl rfl)<|Dd (by exact bW (id:=2) rfl NZ rfl rfl)<|Zz<|Sr<|Dd (vC aLT)<|Dd (aS eU)<|Uu (by exact lI rfl sizeOf28 rfl rfl rfl rfl rfl rfl rfl (aP7 rfl) rfl rfl)<|Zz<|Sr<|Dd (pU bQ aQ)<|Uu (lG aQ)<|Zz<|aB ?_;refine eG (H':=[]) (.inr rfl) rfl (gD rfl bQ aQ rfl rfl rfl (by simp only[Zl,encStr];rfl) rfl) (Fin.wk (by simp[cC]) trivial trivial) ?_;exact Qq
end Go.Proofs.YtmdicgjnmfolfaaGreatDoor
namespace Go.Abs
variable{F:FuncId}{f:Operand}{args:Array Operand}{P:Program}{H H0:aH}
section
abbrev XF:=List PanicEntry
def BA(P:Program)(N:Nat)(o:Oper)(E:dB)(H:aH)(R:AV->aH->Prop)(PP:XF->aH->Prop):Prop :=∀(a:Act) (w:World) (I:Nat->Prop) (ι:kJ),a.tmps.size=N->Rel I ι H w->jB w I ι H E a->∀(K:Act->World->Prop) (Q:Exit->Act->World->Prop),
  (∀c w' I' ι' r H',R r H'->VRel w' I' ι' H' c r->Rel I' ι' H' w'->Step I ι H w I' ι' H' w'->K (a.put o.dst c) w') ->
  (∀ch w' I' ι' H',PP ch H'->Rel I' ι' H' w'->Step I ι H w I' ι' H' w'->Q (.panic ch) a w')->o.wpW P a w K Q
theorem BA.of{P}{N}{o}{E}{H}{R}{PP}(h:Z3 P N o E H R):BA P N o E H R PP :=fun a w I ι e c d K Q b _=>h a w I _ trivial e c d K Q b
theorem BA.opr{P}{N}{o}{E}{H}{R}(h:BA P N o E H R (fun _ _=>False)):Z3 P N o E H R :=fun a w I ι _ f c e K Q b=>h a w I _ f c e K Q b (fun _ _ _ _ _ d=>d.elim)
def eY(P:Program)(f:FuncId)(args:List AV)(H:aH)(Q:AV->aH->Prop)(PP:XF->aH->Prop):Prop :=∀(I:Nat->Prop) (ι:kJ) (w:World) (vs:Array Value),Rel I ι H w->vs.size=args.length->(∀(i:Nat) (v:Value) (a:AV),vs[i]?=some v->args[i]?=some a->VRel w I ι H v a) ->
  Calls P f vs w fun e w'=>(∃r H' I' ι' v,e=.returned v/\Q r H'/\VRel w' I' ι' H' v r/\Rel I' ι' H' w'/\Step I ι H w I' ι' H' w')\/(∃ch H' I' ι',e=.panicked ch/\PP ch H'/\Rel I' ι' H' w'/\Step I ι H w I' ι' H' w')
section
variable{f:FuncId}{args:List AV}{Q:AV->aH->Prop}{PP:XF->aH->Prop}
theorem eY.of(h:aI P f args H Q):eY P f args H Q PP:=fun I ι w vs b a c=>(h I _ w _ b a c).mono fun _ _ h=>.inl h
theorem eY.mono{g}{PP'}(h:eY P f args H Q PP)(l:∀r H',Q r H'->g r H')(m:∀c H',PP c H'->PP' c H'):eY P f args H g PP' :=fun I ι w vs k j i=>(h I _ w _ k j i).mono fun _ _ h=>h.elim (fun⟨r,H',d,b,v,e,q,a⟩=>.inl ⟨r,H',d,b,v,e,l _ _ q,a⟩) (fun⟨c,H',d,b,e,q,a⟩=>.inr ⟨c,H',d,b,e,m _ _ q,a⟩)
theorem eY.calls(h:eY P f args H Q PP)(d:∀a H',¬ PP a H'):aI P f args H Q :=fun I ι w vs c b e=>(h I _ w _ c b e).mono fun _ _ h=>h.elim id (fun⟨a,H',_,_,_,q,_⟩=>(d _ _ q).elim)
end
section
variable{N:Nat}{o:Oper}{E:dB}{Q:AV->aH->Prop}{PP:XF->aH->Prop}
theorem eE{F}{f}{args}{c}{e}(m:o.op=.call {callee:=.value f,args:=args,argTypes:=c})(p:aP E f=some (.pv (.fn F)))
  (q:∀(args) (w),(callFunc F args).run P w=.ok (.enter F args) w) (g:wM E args.toList=some e) (h:eY P F e H Q PP):BA P N o E H Q PP:=by
 intro a w I r _ n j K QQ hk hp;have d:=(aJ j p).fn_inv;obtain ⟨h1,k⟩:=nK j (lW g);unfold Oper.wpW execOp;simp[m,resolve,d,Deferred.ofValue,Sem.run_bind,Sem.run_pure,Result.andThen_ok,invoke,q,Oper.uponW_enter];refine(h I r w _ n (by simp_all) (fun i v b g l=>k i v b (by simp_all) l)).mono ?_
 grind
theorem DK{m:Array TypeId}{k c:List AV}(x:o.op=.call {callee:=.value f,args:=args,argTypes:=m})(t:aP E f=some (.clo F c))
  (s:∀(args:Array Value) (w:World),(callFunc F args).run P w=.ok (.enter F args) w) (d:wM E args.toList=some k) (h:eY P F (k++c) H Q PP):BA P N o E H Q PP:=by
 intro a w I u _ r n K QQ hk hp;have e:=aJ n t;generalize j:a.eval f=fc at e;obtain ⟨h1,p⟩:=nK n (lW d);cases e with
 | @clo _ us _ hl q =>
  unfold Oper.wpW execOp;simp only[x,resolve,j,Deferred.ofValue,Sem.run_bind,Sem.run_pure,Result.andThen_ok,invoke,s,Oper.uponW_enter,Array.empty_append];have l:args.size=k.length:=by omega
  refine(h I u w _ r (by simp_all) (fun i v b d g=>?_)).mono ?_
  ·by_cases hi:i<args.size
   ·rw[Array.getElem?_append_left (by simp_all)]at d;rw[List.getElem?_append_left (by omega)]at g;exact p i v b (by simp_all) g
   rw[Array.getElem?_append_right (by grind)]at d;rw[List.getElem?_append_right (by omega)]at g;simp only[Array.size_map]at d;rw[l]at d;exact q _ v b d g
  grind
end
section
variable{N:Nat}{o:Oper}{E:dB}{Q:AV->aH->Prop}{PP:XF->aH->Prop}{t t' T:TypeId}{x y:Operand}
theorem nJ{f}{xs}{c}(e:o.op=.makeFunc (.func f) xs #[])(d:wM E xs.toList=some c):cS P N o E H (.bnd f c) H :=.of_run fun a w I ι _ h=>by
  obtain ⟨h1,j⟩:=nK h (lW d);exact⟨.func _ (xs.map a.eval) #[],by simp[execOp,e,Instr.makeFunc],.bnd (by simp_all) (fun i v b d g=>j i v b (by simp_all) g)⟩
theorem DL{j:Array TypeId}{l xs:List AV}(r:o.op=.call {callee:=.value f,args:=args,argTypes:=j})(u:aP E f=some (.bnd F xs))
  (z:∀(args:Array Value) (w:World),(callFunc F args).run P w=.ok (.enter F args) w) (d:wM E args.toList=some l) (h:eY P F (xs++l) H Q PP):BA P N o E H Q PP:=by
 intro a w I A _ m k K QQ hk hp;have c:=aJ k u;generalize g:a.eval f=fc at c;obtain ⟨h1,n⟩:=nK k (lW d);cases c with
 | @bnd _ s _ hl p =>
  unfold Oper.wpW execOp;simp only[r,resolve,g,Deferred.ofValue,Sem.run_bind,Sem.run_pure,Result.andThen_ok,invoke,z,Oper.uponW_enter,Array.append_empty];refine(h I A w _ m (by simp_all) (fun i v b d e=>?_)).mono ?_
  ·by_cases q:i<s.size
   ·rw[Array.getElem?_append_left q]at d;rw[List.getElem?_append_left (by omega)]at e;exact p i v b d e
   rw[Array.getElem?_append_right (by omega)]at d;rw[List.getElem?_append_right (by omega)]at e;exact n _ v b (by simp_all) e
  grind
abbrev ms(t:TypeId):XF:=[{v:=.iface t (.agg #[]),recovered:=false}]
theorem PY(e:o.op=.panic x)(f:aP E x=some (.pv (.ifa t []))):BA P N o E H (fun _ _=>False) (fun c H'=>c=ms t/\H'=H):=by intro a w I ι _ g h K QQ hk b;obtain ⟨cs,d,hl,_⟩:=(aJ h f).ifa_inv;have:=Array.eq_empty_of_size_eq_zero (by omega);subst this;unfold Oper.wpW execOp;simp[e,d];exact b _ w I _ H ⟨rfl,rfl⟩ g (Step.refl _ _ _ _)
end
section
variable{G0:aH}{N:Nat}{E:dB}{ops:Array Oper}{Q:Exit->dB->aH->Prop}{o:Oper}{rest:List Oper}{R:AV->aH->Prop}{PP:XF->aH->Prop}
def ALP(P:Program)(G0:aH)(N:Nat)(ops:Array Oper)(Q:Exit->dB->aH->Prop)(l:List Oper)(E:dB)(H:aH):Prop :=∀G:Entry,G.H=G0->∀a w,St G N E H a w->∀ro,(ro=none\/l.all Oper.noDefer=true)->wpListIn (RF ro) 0 P ops (fun e a w=>∃E H,Q e E H/\St G N E H a w) l a w
theorem KM(h:Q .normal E H):ALP P G0 N ops Q [] E H:=fun _ _ a w b _ _=>⟨E,H,h,b⟩
theorem St.opP{G}{a}{w}(e:St G N E H a w)(hd:iN N o.dst=true)(h:BA P N o E H R PP){K}{Q}
  (u:∀r H' a' w',R r H'->St G N (kM E o.dst r) H' a' w'->K a' w') (m:∀j H' w',PP j H'->St G N E H' a w'->Q (.panic j) a w') {ro} (z:ro=none\/o.noDefer=true):o.wpIn (RF ro) 0 P a w K Q:=by
 refine Oper.wpW_in z ?_;obtain ⟨I,ι,g,i,l⟩:=e.rel;refine h a w I _ e.size g l K Q ?_ ?_
 ·intro c w' k d r H' s x f b;refine u r _ _ _ s ⟨?_,?_,k,d,f,i.trans b,jB.put g b l x (by rw[e.size];exact hd)⟩
  ·rw[jC];exact e.defers.step g b
  have:=e.size;cases o.dst<;>simpa[Act.put]using this
 intro j w' k d H' p f b;exact m _ _ _ p ⟨e.defers.step g b,e.size,k,d,f,i.trans b,fun t v n=>let ⟨c,q,y⟩:=l t v n;⟨c,q,y.mono g b⟩⟩
theorem aFz(l:o.guard=none)(hd:iN N o.dst=true)(h:BA P N o E H R PP)(e:∀d H',PP d H'->Q (.panic d) E H')(i:∀r H',R r H'->ALP P G0 N ops Q rest (kM E o.dst r) H'):ALP P G0 N ops Q (o::rest) E H:=by intro G j a w k ro c;refine wpListIn_plain l fun K' m=>?_;exact k.opP hd h (fun r H' a' g n b=>m _ _ (i r _ n G j _ _ b _ (lN c).2)) (fun d H' g f b=>⟨E,H',e _ _ f,b⟩) (lN c).1
theorem aJ7(b:o.guard=none)(hd:iN N o.dst=true)(h:Z3 P N o E H R)(a:∀r H',R r H'->ALP P G0 N ops Q rest (kM E o.dst r) H'):ALP P G0 N ops Q (o::rest) E H :=aFz (PP:=fun _ _=>False) b hd (.of h) (fun _ _ h=>h.elim) a
theorem gS{d}{v}{H2}(a:o.guard=none)(hd:o.dst=some d)(c:Nat.blt d N=true)(h:cS P N o E H v H2)(e:ALP P G0 N ops Q rest ((d,v)::E) H2):ALP P G0 N ops Q (o::rest) E H :=aJ7 a (by rw[hd];exact c) h fun r H' ⟨b,f⟩=>by subst b f;rw[hd];exact e
theorem aGA{v}{H2}(d:o.guard=none)(hd:o.dst=none)(h:cS P N o E H v H2)(a:ALP P G0 N ops Q rest E H2):ALP P G0 N ops Q (o::rest) E H :=aJ7 d (by rw[hd];rfl) h fun r H' ⟨c,b⟩=>by subst c b;rw[hd];exact a
theorem TL{d}{v}{H2}{F}(j:o.guard=none)(hd:o.dst=some d)(e:Nat.blt d N=true)(h:BA P N o E H (fun r H'=>r=v/\H'=H2/\F) PP)(b:∀a H',PP a H'->Q (.panic a) E H')(f:F->ALP P G0 N ops Q rest ((d,v)::E) H2):ALP P G0 N ops Q (o::rest) E H :=aFz j (by rw[hd];exact e) h b fun r H' ⟨c,g,i⟩=>by subst c g;rw[hd];exact f i
theorem oQ(c:o.guard=none)(hd:iN N o.dst=true)(h:BA P N o E H (fun _ _=>False) PP)(b:∀a H',PP a H'->Q (.panic a) E H'):ALP P G0 N ops Q (o::rest) E H:=aFz c hd h b (fun _ _ h=>h.elim)
theorem fU{id}(h:ALP P G0 N ops Q ops.toList E H):gR P G0 N (.region id ops false) Q E H:=fun G d a w b ro c=>wpIn_region_list (h G d a w b _ c)
end
def aGU(P:Program)(fn:Func)(G0:aH)(Q:AV->aH->Prop)(PP:XF->aH->Prop)(e:Exit)(E:dB)(H:aH):Prop :=IN P fn G0 Q e E H\/∃ch H',e=.panic ch/\Fin G0 H (.tup []) H' (.tup [])/\PP ch H'
theorem II{P}{a}{G0 H}{Q}{PP}{e}{E}(h:IN P a G0 Q e E H):aGU P a G0 Q PP e E H:=.inl h
theorem CF{P}{d}{G0 H H'}{Q}{PP}{a:XF}{E}(c:Fin G0 H (.tup []) H' (.tup []))(b:PP a H'):aGU P d G0 Q PP (.panic a) E H:=.inr ⟨a,H',rfl,c,b⟩
theorem eY.body{f:FuncId}{o:Func}{c:Code}{args:List AV}{Q:AV->aH->Prop}{PP:XF->aH->Prop}{N:Nat}(V:P.funcs[f]?=some o)(Y:o.body=some c)(hN:o.ntmps=N)(hlen:args.length<=N)
  (h:gR P H N c (aGU P o H Q PP) (mD args) H):eY P f args H Q PP:=by
 intro I n w s O hl S;refine callsIn_wide.1 (callsIn_of_wp_marks (F:=Fence.wide) (n:=0) V Y trivial ?_);have F:St ⟨I,n,H,w,[]⟩ N (mD args) H {tmps:=s++Array.replicate (o.ntmps - s.size) undef,defers:=[]} w:=by
  refine⟨rA.nil _ _ _,?_,I,n,O,Step.refl _ _ _ _,fun t a Z=>?_⟩
  ·grind
  have R:=tL Z;have G:t<s.size:=by grind
  have W:s[t]?=some s[t]:=Array.getElem?_eq_getElem G;exact⟨s[t],by grind,S t _ a W R⟩
 refine wpIn_mono (h ⟨I,n,H,w,[]⟩ rfl _ w F none (.inl rfl)) ?_;rintro e y m ⟨E',k,(⟨U,r,C,r',z,i,L⟩|⟨B,z,rfl,i,L⟩),D⟩
 ·have u:LeavesInM Fence.wide 0 P o y.tmps (fun e m=>(∃r k g b v,e=.returned v/\Q r k/\VRel m g b k v r/\Rel g b k m/\Step I n H w g b k m)\/(∃B k g b,e=.panicked B/\PP B k/\Rel g b k m/\Step I n H w g b k m)) y.defers .returning m:=by
   obtain ⟨g,b,q,d,p⟩:=D.rel;refine tE D.defers q d p ?_;intro E l j A;obtain ⟨v,h1,X⟩:=C y E g b l A;obtain ⟨M,x,J,K,T⟩:=i ⟨I,n,H,w,[]⟩ rfl g b E v l j X
   grind
  rcases U with rfl|rfl
  ·exact u
  exact u
 obtain ⟨g,b,q,d,p⟩:=D.rel;show LeavesInM Fence.wide 0 P o y.tmps _ y.defers (.panicking B) m;refine wS (by simp) D.defers q d p ?_;intro E l j A;obtain ⟨M,x,J,K,T⟩:=i ⟨I,n,H,w,[]⟩ rfl g b E (.tuple #[]) l j (.tup rfl (by simp));exact .inr ⟨B,z,M,x,rfl,L,J,K⟩
theorem M2{I x:Nat->Prop}{ι s:kJ}{H':aH}{w w':World}(J:Rel I ι H w)(G:Sub H0 H)(k2:Rel x s H' w')(m:Step I ι H0 w x s H' w')(hk:∀id,(H'.get id).isSome=true->(H0.get id).isSome=true\/H.get id=none):
  ∃f,Rel x f (H'++H) w'/\Step I ι H w x f (H'++H) w'/\∀v a,VRel w' x s H' v a->VRel w' x f (H'++H) v a:=by
 obtain ⟨f,hι2⟩:∃f:kJ,f=(fun j=>if(H'.get j).isSome=true then s j else ι j):=⟨_,rfl⟩;have B:∀j o,H'.get j=some o->f j=s j:=fun j o d=>by simp_all
 have D:∀j,H'.get j=none->f j=ι j:=fun j d=>by simp_all
 have W:∀j o,H'.get j=some o->aH.get (H'++H) j=some o:=fun j o d=>by rw[fW,d]
 have F:∀j,H'.get j=none->aH.get (H'++H) j=H.get j:=fun j d=>by rw[fW,d]
 have U:∀j o,H.get j=some o->H'.get j=none->H0.get j=none:=fun j o d E=>by
  cases e:H0.get j with
  |none=>rfl
  |some o0 =>
   obtain ⟨l,T,_⟩:=m.objs j o0 e
   simp_all
 have y:∀j o b c,H.get j=some o->H'.get j=none->ι j=some (b,c)->¬ JT ι H0 b:=fun j o b c d E K ⟨n,l,C,k,R⟩=>by
  have:=J.inj j n o l b c C d (G _ _ k) K R;subst this;rw[U j o d E]at k;cases k
 have O:Step I ι H w x f (H'++H) w':=by
  refine⟨m.os,m.tape,m.output,m.size,fun a ha E=>m.froz a ha (fun h=>E (h.sub G)),m.imm,fun b K=>?_,?_,?_,?_⟩
  ·rcases m.immNew b K with g|g|g
   ·simp_all
   ·exact .inr (.inl (g.sub G))
   omega
  ·rintro b ⟨j,o,c,d,t⟩;cases e:H'.get j with
   |some l =>
    rw[B j l e]at t;rcases m.own b ⟨j,l,c,e,t⟩with g|g
    ·exact .inl (g.sub G)
    omega
   |none =>
    rw[D j e]at t;rw[F j e]at d;exact .inl ⟨j,o,c,d,t⟩
  ·intro b K E;exact m.keep b K (fun h=>E (h.sub G))
  intro j o d;cases e:H'.get j with
  |some l =>
   rcases hk j (by rw[e];rfl)with g|g
   ·obtain ⟨o0,Y⟩:=Option.isSome_iff_exists.1 g;have:=G _ _ Y;rw[d]at this;cases this;obtain ⟨S,Z,q2,q3⟩:=m.objs j o Y;exact⟨S,W j S Z,q2,fun e=>by rw[B j S Z];exact q3 e⟩
   rw[d]at g;cases g
  |none=>exact⟨o,(F j e).trans d,aP0 _,fun _=>⟨D j e,rfl,fun _=>aP0 _⟩⟩
 have L:∀ {v:Value} {a:AV},VRel w' x s H' v a->VRel w' x f (H'++H) v a:=fun V =>
  V.mono' (fun _ _=>rfl) (fun _ h=>h) (fun id o X=>⟨o,W id o X,aP0 _,fun _=>⟨B id o X,rfl,fun _=>aP0 _⟩⟩)
 refine⟨f,⟨k2.imm,fun j o d=>?_,fun j n o l b c C d k t i=>?_,k2.glob⟩,O,fun v a h=>L h⟩
 ·cases e:H'.get j with
  |some l =>
   rw[W j l e]at d;obtain rfl:l=o:=Option.some.inj d;exact(k2.obj j l e).keep (B j l e) (fun _ _ _ _=>⟨rfl,fun h=>h⟩) (fun r _ a _ v Q=>L Q)
  |none =>
   rw[F j e]at d;refine(J.obj j o d).keep (D j e) (fun P z T A=>⟨m.keep P A (y j o P z d e T),fun e3 hi=>?_⟩) (fun r _ a _ v Q=>Q.mono J O);rcases m.immNew P hi with g|g|g
   ·exact e3 g
   ·exact y j o P z d e T g
   omega
 cases e:H'.get j with
 | some q =>
  rw[B j q e]at t;cases u:H'.get n with
  |some N =>
   rw[B n N u]at i;exact k2.inj j n q N b c C e u t i
  |none =>
   rw[D n u]at i;rw[F n u]at k;have A:=J.lt ⟨n,l,C,k,i⟩;rcases m.own b ⟨j,q,c,e,t⟩with g|g
   ·exact absurd g (y n l b C k u i)
   omega
 | none =>
  rw[D j e]at t;rw[F j e]at d;cases u:H'.get n with
  |some N =>
   rw[B n N u]at i;have A:=J.lt ⟨j,o,c,d,t⟩;rcases m.own b ⟨n,N,C,u,i⟩with g|g
   ·exact absurd g (y j o b c d e t)
   omega
  |none =>
   rw[D n u]at i;rw[F n u]at k;exact J.inj j n o l b c C d k t i
theorem eY.conv{P}{f}{args}{H}{Q n}{PP PP'}(h:eY P f args H Q PP)(u:∀r H',Q r H'->∃H2,(∀j,H2.get j=H'.get j)/\n r H2)(x:∀c H',PP c H'->∃H2,(∀j,H2.get j=H'.get j)/\PP' c H2):eY P f args H n PP' :=fun I ι w vs p t o=>(h I _ w _ p t o).mono fun _ _ h=>by
  rcases h with⟨r,H',k,b,v,e,q,s,d,i⟩|⟨c,H',k,b,e,q,d,i⟩
  ·obtain ⟨H2,m,a⟩:=u r _ q;obtain ⟨l,g⟩:=d.congr m;exact .inl ⟨r,H2,k,b,v,e,a,s.mono d g,l,i.trans g⟩
  obtain ⟨H2,m,a⟩:=x _ _ q;obtain ⟨l,g⟩:=d.congr m;exact .inr ⟨c,H2,k,b,e,a,l,i.trans g⟩
theorem eY.frame{f:FuncId}{args:List AV}{R}{PP}(h:eY P f args H0 R PP)(d:Sub H0 H)(s:eI H0)(y:∀a∈args,Clo H0 a)
  (g:∀r H1,R r H1->∀id,(H1.get id).isSome=true->(H0.get id).isSome=true\/H.get id=none) (l:∀c H1,PP c H1->∀id,(H1.get id).isSome=true->(H0.get id).isSome=true\/H.get id=none) :
  eY P f args H (fun r H'=>∃K,R r K/\H'=K++H) (fun c H'=>∃K,PP c K/\H'=K++H):=by
 intro I t w C j B x;refine(h I t w C (j.restrict d s) B (fun i v a A q=>(x i v a A q).restrict d (y a (aP4 q)))).mono ?_;rintro e w' (⟨r,H',E,k,v,rfl,n,k1,o,p⟩|⟨c,H',E,k,rfl,n,o,p⟩)
 ·obtain ⟨m,u,z,D⟩:=M2 j d o p (g r H' n)
  grind
 obtain ⟨m,u,z,D⟩:=M2 j d o p (l c H' n)
 grind
end
end Go.Abs
