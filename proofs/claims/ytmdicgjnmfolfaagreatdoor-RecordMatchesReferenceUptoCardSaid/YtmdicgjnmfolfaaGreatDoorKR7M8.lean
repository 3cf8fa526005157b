/-
  Parts of the proof: rules of a program logic, contracts, plain laws. Conditions: each theorem's own.
-/
import Derived.Test.YtmdicgjnmfolfaaGreatDoorKR7M7
import Derived.Shelf.LaysC
import Derived.Ground.NamesProg
set_option linter.unusedVariables false
set_option linter.unusedSimpArgs false
set_option maxRecDepth 100000
set_option maxHeartbeats 8000000
namespace Go.Proofs
open Tryz
theorem zQ:type_of% call114:=call114
theorem aBt:type_of% call126:=call126
theorem aBs:type_of% call127:=call127
theorem aBr:type_of% call129:=call129
theorem aBn:type_of% call175:=call175
theorem vp:type_of% call205:=call205
theorem tQ:type_of% call60:=call60
theorem gB:type_of% call74:=call74
theorem aBi:type_of% func156:=func156
theorem qP:type_of% isAgg98:=isAgg98
theorem aAb:type_of% ntmps156:=ntmps156
theorem qO:type_of% underlying139:=underlying139
end Go.Proofs
section
namespace Go.Proofs
open Go.RowKit Go.Sort Go.Shelf
def aC5:Go.Shelf.Ren:=⟨fun|172=>114|244=>151|245=>152|247=>189|279=>190|280=>191|281=>192|282=>193|287=>224|316=>225|171=>108|205=>226|321=>257|322=>258|243=>146|246=>181|283=>215|284=>216|285=>217|286=>218|129=>250|317=>249|318=>251|319=>252|320=>253|337=>271|338=>272|n=>n,fun|9=>9|3=>3|75=>139|76=>140|4=>4|5=>5|167=>206|37=>124|0=>0|85=>207|2=>2|168=>209|53=>122|175=>237|46=>125|210=>240|127=>174|145=>268|143=>266|21=>21|171=>230|173=>233|212=>257|51=>258|20=>20|213=>259|232=>282|233=>283|80=>75|n=>n,fun|15=>1|16=>2|17=>3|18=>6|19=>7|n=>n⟩
theorem aC8:Go.Proofs.LaysC.n172 Tryz.prog aC5:={
  mixed:=by rfl
  f129:=Tryz.func250.trans (congrArg some (by rfl))
  f171:=Tryz.func108.trans (congrArg some (by rfl))
  f172:=Tryz.func114.trans (congrArg some (by rfl))
  f205:=Tryz.func226.trans (congrArg some (by rfl))
  f243:=Tryz.func146.trans (congrArg some (by rfl))
  f244:=Tryz.func151.trans (congrArg some (by rfl))
  f245:=Tryz.func152.trans (congrArg some (by rfl))
  f246:=Tryz.func181.trans (congrArg some (by rfl))
  f247:=Tryz.func189.trans (congrArg some (by rfl))
  f279:=Tryz.func190.trans (congrArg some (by rfl))
  f280:=Tryz.func191.trans (congrArg some (by rfl))
  f281:=Tryz.func192.trans (congrArg some (by rfl))
  f282:=Tryz.func193.trans (congrArg some (by rfl))
  f283:=Tryz.func215.trans (congrArg some (by rfl))
  f284:=Tryz.func216.trans (congrArg some (by rfl))
  f285:=Tryz.func217.trans (congrArg some (by rfl))
  f286:=Tryz.func218.trans (congrArg some (by rfl))
  f287:=Tryz.func224.trans (congrArg some (by rfl))
  f316:=Tryz.func225.trans (congrArg some (by rfl))
  f317:=Tryz.func249.trans (congrArg some (by rfl))
  f318:=Tryz.func251.trans (congrArg some (by rfl))
  f319:=Tryz.func252.trans (congrArg some (by rfl))
  f320:=Tryz.func253.trans (congrArg some (by rfl))
  f321:=Tryz.func257.trans (congrArg some (by rfl))
  f322:=Tryz.func258.trans (congrArg some (by rfl))
  f337:=Tryz.func271.trans (congrArg some (by rfl))
  f338:=Tryz.func272.trans (congrArg some (by rfl))
  t0:=Gz
  a0:=aCW
  z0:=aBg
  v0:=Ov
  t2:=Tryz.underlying2
  a2:=Tryz.isAgg2
  z2:=Tryz.sizeOf2
  v2:=Tryz.zeroValue2
  t3:=Tryz.underlying3
  a3:=Tryz.isAgg3
  z3:=Tryz.sizeOf3
  v3:=wM
  t4:=eM
  a4:=mN
  z4:=Tryz.sizeOf4
  v4:=nY
  t5:=eB
  a5:=C4
  z5:=cO
  v5:=EB
  t9:=Tryz.underlying9
  a9:=Tryz.isAgg9
  z9:=Tryz.sizeOf9
  v9:=wL
  t20:=JP
  a20:=uQ
  z20:=aA9
  v20:=Gy
  t21:=Tryz.underlying21
  a21:=Tryz.isAgg21
  z21:=Tryz.sizeOf21
  v21:=Tryz.zeroValue21
  t37:=dG
  a37:=dX
  z37:=pF
  v37:=Tryz.zeroValue124
  t46:=G9
  a46:=dm
  z46:=XQ
  v46:=JM
  t51:=Tryz.underlying258
  a51:=Tryz.isAgg258
  z51:=Tryz.sizeOf258
  v51:=Tryz.zeroValue258
  t53:=iU
  a53:=LF
  z53:=HB
  v53:=JN
  t75:=qO
  a75:=Tryz.isAgg139
  z75:=Tryz.sizeOf139
  v75:=Tryz.zeroValue139
  t76:=Tryz.underlying140
  a76:=Tryz.isAgg140
  z76:=Tryz.sizeOf140
  v76:=Tryz.zeroValue140
  t85:=Tryz.underlying207
  a85:=Tryz.isAgg207
  z85:=Tryz.sizeOf207
  v85:=Tryz.zeroValue207
  t127:=xT
  a127:=Tryz.isAgg174
  z127:=Tryz.sizeOf174
  v127:=Tryz.zeroValue174
  t143:=Tryz.underlying266
  a143:=Tryz.isAgg266
  z143:=Tryz.sizeOf266
  v143:=Tryz.zeroValue266
  t145:=Tryz.underlying268
  a145:=Tryz.isAgg268
  z145:=Tryz.sizeOf268
  v145:=Tryz.zeroValue268
  t167:=Tryz.underlying206
  a167:=Tryz.isAgg206
  z167:=Tryz.sizeOf206
  v167:=Tryz.zeroValue206
  t168:=Tryz.underlying209
  a168:=Tryz.isAgg209
  z168:=Tryz.sizeOf209
  v168:=Tryz.zeroValue209
  t171:=Tryz.underlying230
  a171:=Tryz.isAgg230
  z171:=Tryz.sizeOf230
  v171:=Tryz.zeroValue230
  t173:=Tryz.underlying233
  a173:=Tryz.isAgg233
  z173:=Tryz.sizeOf233
  v173:=Tryz.zeroValue233
  t175:=Tryz.underlying237
  a175:=Tryz.isAgg237
  z175:=Tryz.sizeOf237
  v175:=Tryz.zeroValue237
  t210:=Tryz.underlying240
  a210:=Tryz.isAgg240
  z210:=Tryz.sizeOf240
  v210:=Tryz.zeroValue240
  t212:=Tryz.underlying257
  a212:=Tryz.isAgg257
  z212:=Tryz.sizeOf257
  v212:=Tryz.zeroValue257
  t213:=Tryz.underlying259
  a213:=Tryz.isAgg259
  z213:=Tryz.sizeOf259
  t232:=Tryz.underlying282
  a232:=Tryz.isAgg282
  z232:=Tryz.sizeOf282
  v232:=Tryz.zeroValue282
  t233:=Tryz.underlying283
  a233:=Tryz.isAgg283
  z233:=Tryz.sizeOf283
  v233:=Tryz.zeroValue283
  g15:=by kernel_rfl
  g16:=by kernel_rfl
  g17:=by kernel_rfl
  g18:=by kernel_rfl
  g19:=by kernel_rfl
  t80:=Tryz.underlying75
  a80:=Tryz.isAgg75
  z80:=Tryz.sizeOf75
  v80:=Tryz.zeroValue75
  i0:=by rfl
  i2:=by rfl
  i3:=by rfl
  i4:=by rfl
  i5:=by rfl
  i9:=by rfl
  i20:=by rfl
  i21:=by rfl
  i37:=by rfl
  i46:=by rfl
  i51:=by rfl
  i53:=by rfl
  i75:=by rfl
  i76:=by rfl
  i80:=by rfl
  i85:=by rfl
  i127:=by rfl
  i143:=by rfl
  i145:=by kernel_rfl
  i167:=by kernel_rfl
  i168:=by kernel_rfl
  i171:=by kernel_rfl
  i173:=by kernel_rfl
  i175:=by kernel_rfl
  i210:=by kernel_rfl
  i212:=by kernel_rfl
  i232:=by kernel_rfl
  i233:=by kernel_rfl
  m15:=by kernel_rfl
  m16:=by kernel_rfl
  m17:=by kernel_rfl
  m18:=by kernel_rfl
  m19:=by kernel_rfl
  c0:=by kernel_rfl
  c2:=by kernel_rfl
  c3:=by kernel_rfl
  c4:=by kernel_rfl
  c5:=by kernel_rfl
  c9:=by kernel_rfl
  c20:=by kernel_rfl
  c21:=by kernel_rfl
  c37:=by kernel_rfl
  c46:=by kernel_rfl
  c51:=by kernel_rfl
  c53:=by kernel_rfl
  c75:=by kernel_rfl
  c76:=by kernel_rfl
  c80:=by kernel_rfl
  c85:=by kernel_rfl
  c127:=by kernel_rfl
  c143:=by kernel_rfl
  c145:=by kernel_rfl
  c167:=by kernel_rfl
  c168:=by kernel_rfl
  c171:=by kernel_rfl
  c173:=by kernel_rfl
  c175:=by kernel_rfl
  c210:=by kernel_rfl
  c212:=by kernel_rfl
  c213:=by kernel_rfl
  c232:=by kernel_rfl
  c233:=by kernel_rfl}
end Go.Proofs
namespace Go.Proofs.YtmdicgjnmfolfaaGreatDoor
open Go.Proofs.Tryz
open Go.Abs
theorem NX(s)(b:s.size<1099511627776)(H):RC 114 [sv s] (.tup [iv (oY s).1,.pv (oY s).2]) H :=Go.Abs.atoi_c aC8 (G1:=1) (G2:=2) (by unfold ak;simp_all) (rfl) (by unfold ak;simp_all) (rfl) s b H
end Go.Proofs.YtmdicgjnmfolfaaGreatDoor
end
namespace Go.Proofs.YtmdicgjnmfolfaaGreatDoor
open Go.Proofs.Tryz
open Go.Abs
theorem Z2(s:ByteArray)(H:aG)(d:s.size<1099511627776):RC 156 [sv s] (iv (R8 s.data.toList)) H:=by
 refine Pu ?_;have c:=NX s d;unfold oY at c;unfold R8;cases h:Lib.atoiAll s.data.toList with
 |ok v =>
  simp only[h]at c;refine Bd aBi rfl aAb<|Sz aH<|Sd aC<|Dd (kc zQ (c _))<|Dd aC<|Dd eG<|Dd eG<|Dd aH<|Zd aH<|Sq<|Sd aC<|Zd (by exact PF rfl qO rfl) ?_;refine Cn ?_ ?_<;>intro b
  ·cases b
  exact aA<|Sd aC<|Zd aH<|aB<|Rt<|Qq
 |range =>
  simp only[h]at c;refine Bd aBi rfl aAb<|Sz aH<|Sd aC<|Dd (kc zQ (c _))<|Dd aC<|Dd eG<|Dd eG<|Dd aH<|Zd aH<|Sq<|Sd aC<|Zd (by exact GG rfl qO rfl) ?_;refine Cn ?_ ?_<;>intro b
  ·exact Sz aH<|aB<|Rt<|Qq
  cases b
 |_ =>
  simp only[h]at c;refine Bd aBi rfl aAb<|Sz aH<|Sd aC<|Dd (kc zQ (c _))<|Dd aC<|Dd eG<|Dd eG<|Dd aH<|Zd aH<|Sq<|Sd aC<|Zd (by exact GG rfl qO rfl) ?_;refine Cn ?_ ?_<;>intro b
  ·exact Sz aH<|aB<|Rt<|Qq
  cases b
end Go.Proofs.YtmdicgjnmfolfaaGreatDoor
section
namespace Go.Abs
section
variable{P:Program}{N:Nat}{o:Oper}{E:dC}{H:aG}{t t':TypeId}{x:Operand}
abbrev Ux(b:Bool):PV:=bif b then ua else KG
theorem ZS{b}(a:o.op=.binOp .neq t x (.const .nilIface) t')(d:P.underlying t=some (.interface (P.methodsAt t)))(c:aO E x=some (.pv (Ux b))):cK P N o E H (.pv (.bool b)) H:=by
 cases b
 ·exact PF a d c
 exact GG a d c
end
def rF(s:ByteArray):Int:=(oY s).1
def A7(s:ByteArray):Bool:=match Lib.atoiAll s.data.toList with
 |.ok _=>false
 |_=>true
theorem Gg(s):oY s=(rF s,Ux (A7 s)):=by rw[rF,A7,oY];all_goals grind
open Go.Lib
theorem vd{l}{u}(hne:l≠[])(hm:∀b∈l,48<=b.toNat/\b.toNat<=57)(hd:decFrom 0 l=some u):atoi l=some (u:Int):=by
 cases l with
 |nil=>simp_all
 |cons b r =>
  have d:decNat (b::r)=some u:=by rw[decNat,hd];rfl
  have a:¬ (b == 43)=true:=fun h=>by simp_all
  have c:¬ (b == 45)=true:=fun h=>by simp_all
  rw[atoi,aCd c,aCd a,d];rfl
theorem XL{l}{u}(d:l.length<=18)(a:l≠[])(c:∀b∈l,48<=b.toNat/\b.toNat<=57)(hd:decFrom 0 l=some u):atoiAll l=.ok u:=by rw[atoiAll_short _ d,vd a c hd];rfl
end Go.Abs
namespace Go.Proofs.YtmdicgjnmfolfaaGreatDoor
open Go.Proofs.Tryz
open Go.Abs Go.Lib
theorem pj(s)(a:s.size<1099511627776)(H):RC 114 [sv s] (.tup [iv (rF s),.pv (Ux (A7 s))]) H:=by
 have:=NX s a H
 rwa [Gg]at this
abbrev sCo:ByteArray:=⟨#[58]⟩
theorem ev(s)(H:aG):RC 188 [sv s,sv sCo] (iv (Lib.indexByte s.data.toList 58)) H:=by
 refine Pu ?_;refine Bd func188 rfl ntmps188<|Sz aH<|Sd aC<|Dd (gF underlying9)<|Zd aH<|Sq<|aE<|Sq ?_;refine aQ (t:=16) (n:=9) (X:=decide (sCo=s)) ?_ ?_
 ·all_goals refine Dd aC ?_
  all_goals refine Dd cF<|Dm ?_<;>(refine Sp 19 (fun c=>?_) fun c=>?_)<;>(try contradiction)<;>refine On aC<|On aC<|On vF<|Dd cD<|Da ?_<;>(exact⟨⟨_,rfl,by rfl⟩,rfl,rfl,rfl⟩)
 refine Cn ?_ ?_<;>intro d
 ·have e:=aCb d;subst e;exact Sz aH<|aB<|Rt<|Qq
 refine Sd aC<|Dd cF<|Da ?_;refine Cn ?_ ?_<;>intro b
 ·exact Sd aC<|Dd aC<|Dd (cR rfl underlying9 rfl rfl (by omega) (by rfl) (show 0<(⟨#[58]⟩:ByteArray).size from Nat.zero_lt_one) rfl)<|Dd (kc aBm (yX s 58 _))<|Zd aH<|aB<|Rt<|Qq
 cases b
def jj(s:ByteArray):AV:=if Lib.indexByte s.data.toList 58 = -1 then .tup [sv s,sv ⟨#[]⟩,bv false]else .tup [sv (s.extract 0 (Lib.indexByte s.data.toList 58).toNat),sv (s.extract ((Lib.indexByte s.data.toList 58).toNat+1) s.size),bv true]
theorem yj(s:ByteArray)(H:aG)(hs:s.size<1099511627776):RC 150 [sv s,sv sCo] (jj s) H:=by
 refine Pu ?_;have d:=fun H=>ev s H;rw[jj];rcases Classical.em (Lib.indexByte s.data.toList 58 = -1)with c|c
 ·rw[aCe c];simp only[c]at d;refine Bd vk rfl dh<|Sd aH<|Dd aH<|Zd aH<|Sq<|Sd aC<|Dd aC<|Dd (kc RK (d _))<|Zd aH<|Sd aC<|Zd CX ?_;refine Cn ?_ ?_<;>intro b
  ·cases b
  refine aA<|Sd aC<|Dd aH<|Dd aH<|Zd aH<|aB ?_;refine lH (H':=[]) (.inr rfl) rfl (aJ rfl) (aJ rfl) (aJ rfl) (Fin.wk (by simp) trivial trivial) ?_;exact Qq
 rw[aCd c];obtain ⟨w,r,f,e2,e⟩:=xI c;simp only[e]at d;rw[e,aCq];have hl:w.length+1+r.length=s.size:=by rw[<-show s.data.toList.length=s.size by simp,f,aCg,aCh];omega
 refine Bd vk rfl dh<|Sd aH<|Dd aH<|Zd aH<|Sq<|Sd aC<|Dd aC<|Dd (kc RK (d _))<|Zd aH<|Sd aC<|Zd CX ?_;refine Cn ?_ ?_<;>intro b
 ·refine Sq<|aL follows<|Cq aC<|Cq aC<|Cq (by exact cB (l:=0) (h:=(w.length)) rfl underlying9 rfl rfl rfl (by omega) (by omega) rfl)<|Cq aC<|Cq aC<|Cq aC<|Cq (gF underlying9)<|Cq kp<|Cq (by exact cB (l:=(w.length+1)) (h:=s.size) rfl underlying9 rfl rfl rfl (by omega) (by omega) rfl)<|Cq aH<|Cq aH<|Cq aH<|bF<|Kr<|aB ?_;refine lH (H':=[]) (.inr rfl) rfl (aJ rfl) (aJ rfl) (aJ rfl) (Fin.wk (by simp) trivial trivial) ?_;exact Qq
 have hx:=aCc b;omega
theorem Vi(s)(H:aG)(d:s.size<1099511627776):RC 113 [sv s,sv sCo] (jj s) H:=by
 refine Pu ?_;have b:=fun H=>yj s H d;rcases Classical.em (Lib.indexByte s.data.toList 58 = -1)with c|c
 ·simp only[jj,aCe c]at b |-;refine Bd vm rfl dj<|Sd aH<|Dd aH<|Zd aH<|Sd aC<|Dd aC<|Dd (bL rfl rfl vr rfl (b _))<|Dd eG<|Dd eG<|Dd eG<|Dd aH<|Dd aH<|Zd aH<|aB ?_;refine lH (H':=[]) (.inr rfl) rfl (aJ rfl) (aJ rfl) (aJ rfl) (Fin.wk (by simp) trivial trivial) ?_;exact Qq
 simp only[jj,aCd c]at b |-;refine Bd vm rfl dj<|Sd aH<|Dd aH<|Zd aH<|Sd aC<|Dd aC<|Dd (bL rfl rfl vr rfl (b _))<|Dd eG<|Dd eG<|Dd eG<|Dd aH<|Dd aH<|Zd aH<|aB ?_;refine lH (H':=[]) (.inr rfl) rfl (aJ rfl) (aJ rfl) (aJ rfl) (Fin.wk (by simp) trivial trivial) ?_;exact Qq
def X5(l:List UInt8):List UInt8:=l.takeWhile fun b=>!decide (b=58)
def X6(l:List UInt8):List UInt8:=(l.dropWhile fun b=>!decide (b=58)).drop 1
theorem Ez{w r}(h:58∉w):X5 (w++58::r)=w/\X6 (w++58::r)=r:=by
 induction w with
 |nil=>exact⟨rfl,rfl⟩
 |cons b w d =>
  obtain ⟨a,c⟩:=d (fun e=>h (List.mem_cons_of_mem _ e));rw[X5]at a |-;rw[X6]at c |-;rw[List.cons_append,List.takeWhile_cons,List.dropWhile_cons,aCe (by grind),aCe (by grind),a];exact⟨rfl,c⟩
theorem Ey:∀ {l},58∉l->X5 l=l/\X6 l=[]
 | [],_=>⟨rfl,rfl⟩
 |b::l,h=>by
  obtain ⟨a,c⟩:=Ey (fun e=>h (List.mem_cons_of_mem _ e));rw[X5]at a |-;rw[X6]at c |-;rw[List.takeWhile_cons,List.dropWhile_cons,aCe (by grind),aCe (by grind),a];exact⟨rfl,c⟩
theorem Nj(l:List UInt8):jj (ofL l)=.tup [sv (ofL (X5 l)),sv (ofL (X6 l)),bv (decide ((58:UInt8)∈l))]:=by
 rw[jj,dD];by_cases h:Lib.indexByte l 58 = -1
 ·rw[aCe h];have b:=xG.1 h;rw[(Ey b).1,(Ey b).2,decide_eq_false b];rfl
 rw[aCd h];obtain ⟨w,r,e,c,f⟩:=xI h;rw[f,aCq];subst e;rw[(Ez c).1,(Ez c).2,decide_eq_true (by simp)];have g:(ofL (w++58::r)).extract 0 w.length=ofL w:=pD (by rw[jS,dD,dD,List.drop_zero,Nat.sub_zero,List.take_left]);have d:(ofL (w++58::r)).extract (w.length+1) _=ofL r:=pD (by
  rw[uL,dD,dD,<-List.drop_drop,List.drop_left];rfl)
 rw[g,d]
theorem ve(s): -9223372036854775808<=rF s/\rF s<=9223372036854775807:=by
 rw[rF,oY];cases e:Lib.atoiAll _ with
 |ok v=>exact Lib.atoiAll_bounds e
 |range =>
  show _<=Lib.atoiSat _/\Lib.atoiSat _<=_;rw[Lib.atoiSat];omega
 |_ =>
  simp_all
theorem Vj(l):(X5 l).length<=l.length/\(X6 l).length<=l.length:=by
 constructor
 ·exact(List.takeWhile_sublist _).length_le
 rw[X6,aCu];have:=(List.dropWhile_sublist (l:=l) fun b=>!decide (b=58)).length_le;omega
theorem Gf{l}{u}(d:l.length<=18)(a:l≠[])(c:∀b∈l,48<=b.toNat/\b.toNat<=57)(hd:decFrom 0 l=some u):A7 (ofL l)=false/\rF (ofL l)=u:=by
 have h:=XL d a c hd;constructor
 ·rw[A7,dD,h]
 rw[rF,oY,dD,h]
theorem UA(n:Nat):(aY n).data.toList=decDigits n:=rfl
theorem mS(x)(L):aP (x::L)=decDigits x.size++58::(x.data.toList++aP L):=by have a:aP (x::L)=(qF x).data.toList++aP L:=rfl;rw[a,qF,ByteArray.data_append,Array.toList_append,ByteArray.data_append,Array.toList_append,UA];simp
theorem Es(n):58∉decDigits n:=fun h=>by
 have:=qL n h;exact absurd this.2 (by simp)
theorem aa(A B):aP (A++B)=aP A++aP B:=List.flatMap_append
end Go.Proofs.YtmdicgjnmfolfaaGreatDoor
end
namespace Go.Proofs.YtmdicgjnmfolfaaGreatDoor
open Go.Proofs.Tryz
open Go.Abs Go.Lib
def IJ(l:List UInt8):Bool:=((!decide ((58:UInt8)∈l)||A7 (ofL (X5 l)))||decide (rF (ofL (X5 l))<0))||decide (((X6 l).length:Int)<rF (ofL (X5 l)))
def Wg(l:List UInt8):Nat:=(rF (ofL (X5 l))).toNat
def nZ(l:List UInt8):Option (ByteArray×List UInt8):=if IJ l=true then none else some (ofL ((X6 l).take (Wg l)),(X6 l).drop (Wg l))
def wG(l:List UInt8):Option (Int×List UInt8):=match nZ l with
 |none=>none
 |some (s,r)=>if A7 s=true then none else some (rF s,r)
def FI{α:Type}(f:List UInt8->Option (α×List UInt8)):Nat->List UInt8->Option (List α×List UInt8)
 |0,l=>some ([],l)
 | n+1,l=>match f l with
  |none=>none
  |some (x,r)=>match FI f n r with
   |none=>none
   |some (xs,q)=>some (x::xs,q)
def B6{α:Type}(f:List UInt8->Option (α×List UInt8))(l:List UInt8):Option (List α×List UInt8):=match wG l with
 |none=>none
 |some (n,r)=>FI f n.toNat r
def PA(l:List UInt8):Option ((Int×Int)×List UInt8):=match wG l with
 |none=>none
 |some (x,r)=>match wG r with
  |none=>none
  |some (y,q)=>some ((x,y),q)
def qu(l:List UInt8):Option (GSeal×List UInt8):=match wG l with
 |none=>none
 | some (i,r)=>match B6 nZ r with
  |none=>none
  |some (a,q)=>match B6 nZ q with
   |none=>none
   |some (b,p)=>some (⟨i,a,b⟩,p)
def GC(x:ByteArray):Prop:=x.size<1000000000000000000
theorem lK{x}(L)(d:GC x):nZ (aP (x::L))=some (x,aP L):=by
 obtain ⟨c,a⟩:=Ez (Es _);rw[<-mS]at c a;obtain ⟨f,g⟩:=Gf (dF (show x.size<10 ^ 18 from d) (by simp)) (sL _) (fun b=>qL _) (oN _);have e:58∈aP (x::L):=by rw[mS];simp
 have hb:IJ (aP (x::L))=false:=by
  rw[IJ,c,a,f,decide_eq_true e,decide_eq_false (by omega),decide_eq_false (by rw[aCg,bC];omega)];rfl
 rw[nZ,aCd (by simp_all),Wg,c,g,a,aCq,List.drop_left' (bC x),List.take_left' (bC x),hY]
theorem LX{n}(h0:0<=n)(h1:n<1000000000000000000):GC (aY n):=Nat.lt_of_le_of_lt (qJ (by omega) (by omega)) (by simp)
theorem jq{n}(b:0<=n)(a:n<1000000000000000000):A7 (aY n)=false/\rF (aY n)=n:=by
 have h:=CN b a;have e:(aY n).data.toList=itoa n:=rfl;constructor
 ·rw[A7,e,h]
 rw[rF,oY,e,h]
theorem lL{n}(L)(b:0<=n)(a:n<1000000000000000000):wG (aP (aY n::L))=some (n,aP L):=by
 obtain ⟨a1,a2⟩:=jq b a;rw[wG,lK L (LX b a)]
 simp_all
theorem PW:∀(a L),(∀t∈a,GC t)->FI nZ a.length (aP (a++L))=some (a,aP L)
 | [],L,_=>rfl
 |t::a,L,h=>by
  rw[aCh,FI,List.cons_append,lK _ (h t List.mem_cons_self)];simp[PW _ L fun x hx=>h x (List.mem_cons_of_mem _ _)]
theorem B5(a L)(h:∀t∈a,GC t)(hl:a.length<1000000000000000000):B6 nZ (aP (aY (a.length)::(a++L)))=some (a,aP L):=by rw[B6,lL _ (by omega) (by omega)];show FI _ _ _=_;rw[aCq,PW _ L h]
theorem OQ(s)(L)(h:0<=s.idx)(f:s.idx<1000000000000000000)(i:∀t∈s.sig,GC t)(g:∀t∈s.path,GC t)(d:s.sig.length<1000000000000000000)(c:s.path.length<1000000000000000000):
  qu (aP (fI (.z s.idx s.sig s.path)++L))=some (s,aP L):=by
 have e:fI (.z s.idx s.sig s.path)++L=aY s.idx::(aY (s.sig.length)::(s.sig++(aY (s.path.length)::(s.path++L)))):=by simp[fI]
 rw[e,qu,lL _ h f];show (match B6 nZ _ with|none=>none|some (a,q)=>match B6 nZ q with|none=>none|some (b,p)=>some _)=_;rw[B5 _ _ i d];show (match B6 nZ _ with|none=>none|some (b,p)=>some _)=_;rw[B5 _ _ g c]
theorem PU:∀(ps) (L),(∀q∈ps,(0<=q.1/\q.1<1000000000000000000)/\(0<=q.2/\q.2<1000000000000000000))->FI PA ps.length (aP (NH ps++L))=some (ps,aP L)
 | [],L,_=>rfl
 | p::ps,L,h=>by
  obtain ⟨⟨d,c⟩,f,a⟩:=h p List.mem_cons_self;have e:NH (p::ps)++L=aY _::(aY _::(NH _++L)):=rfl;have b:PA (aP (NH (p::ps)++L))=some (p,aP (NH ps++L)):=by
   rw[e,PA,lL _ d c];show (match wG _ with|none=>none|some (y,q)=>some _)=_;rw[lL _ f a]
  rw[aCh,FI,b];simp[PU _ L fun x hx=>h x (List.mem_cons_of_mem _ _)]
theorem gx(ps)(L)(h:∀q∈ps,(0<=q.1/\q.1<1000000000000000000)/\(0<=q.2/\q.2<1000000000000000000))(hl:ps.length<1000000000000000000):B6 PA (aP (fI (.p ps)++L))=some (ps,aP L):=by have e:fI (.p _)++L=aY _::(NH ps++L):=rfl;rw[e,B6,lL _ (by omega) (by omega)];show FI _ _ _=_;rw[aCq,PU _ L h]
end Go.Proofs.YtmdicgjnmfolfaaGreatDoor
namespace Go.Proofs.YtmdicgjnmfolfaaGreatDoor
open Go.Proofs.Tryz
open Go.Abs
variable{α:Type}{a b:List _}
theorem ik(m:AV)(l:List (Int×Int))(p:Nat->Bool)(e:Nat->aG)(hl:l.length<4611686018427387904)(o:∀k s,l[k]?=some s->dI Tryz.prog m [av (fQ s)] (e k) (fun r H'=>r=bv (p k)/\H'=e (k+1))):
  aW Tryz.prog 121 [.pv (vE l),m] (e 0) (fun r H'=>r=iv (LY p l.length)/\H'=e (FQ p l.length)):=by
 have hml:(l.map fQ).length=l.length:=aCf _;refine Bd func121 rfl ntmps121<|Sz aH<|Sq<|Sd aC<|Dd (eR dH)<|Zd aC<|aE ?_;refine bJ (σ:=Nat) (fun k=>([(0,.pv (vE l)),(1,m),(7,iv ((l.map fQ).length:Int)),(8,iv (k:Int))],e k)) (fun k=>k<=l.length/\∀j,j<k->p j=false) (fun k=>l.length - k) 0 ⟨by omega,by omega⟩ ?_ ?_
 ·exact E0
 rintro k ⟨hk,c⟩;refine Sz cJ<|Sq ?_;refine Cn ?_ ?_<;>intro f
 ·have d:k<l.length:=by have:=aCb f;omega
  obtain ⟨s,n⟩:=aT d;have hi:=cE (f:=fQ) n;have h:=o k s n;refine aA<|Sq<|aE<|Sd aC<|Zd aH<|Sd aC<|Dd aC<|Dd aC<|Dd (jE JW)<|Dd (by exact dM rfl dO sizeOf68 rfl (by omega) (rfl) rfl)<|Zd (by exact cW rfl rfl rfl (h)) ?_;refine Cn ?_ ?_<;>intro g
  ·refine Sd aC<|Zd aH<|aB ?_;exact dA (H':=e (k+1)) (.inr rfl) rfl (aJ rfl) Fin.refl ⟨by rw[LY,CE d g c],by rw[FQ,CE d g c]⟩
  refine aA<|Rd iF<|Zd aC ?_;refine⟨k+1,⟨by omega,fun j hj=>?_⟩,by omega,E0⟩
  grind
 have i:k=l.length:=by have:=aCc f;omega
 subst i;refine aS<|Sz aH<|aB ?_;exact dA (H':=e l.length) (.inr rfl) rfl (aJ rfl) Fin.refl ⟨by rw[LY,CF c],by rw[FQ,CF c]⟩
theorem SI(c)(l)(p)(b:Nat->aG)(d:l.length<4611686018427387904)(e:∀k s,l[k]?=some s->dI Tryz.prog c [av (fQ s)] (b k) (fun r H'=>r=bv (p k)/\H'=b (k+1))):
  aW Tryz.prog 64 [.pv (vE l),c] (b 0) (fun r H'=>r=bv ((List.range l.length).any p)/\H'=b (FQ p l.length)):=by
 refine Bd func64 rfl ntmps64<|Sz aH<|Sd aC<|Dd aC<|Dd (bL rfl rfl call121 rfl (ik c l p b d e))<|Dd CX<|Zd aH<|aB ?_;exact dA (.inr rfl) rfl (aJ rfl) Fin.refl ⟨by rw[UE],rfl⟩
def WS(q:Int×Int):Bool:=!(decide (0<=q.1)&&decide (q.1<=1048575))||!(decide (0<=q.2)&&decide (q.2<=1048575))
def Im:Ob:=bx 1 98 [.pv (.fn 60)]
theorem yC(H):∀r∈Im.rows,∀a∈r,Clo H a:=by intro r c a b;simp[Im,bx,aCi]at c;subst c;rw[aCi]at b;subst b;simp
theorem Zx(q:Int×Int):aW Tryz.prog 65 [av (fQ q),.ref 3 0 0 0] [(3,Im)] (fun r H'=>r=bv (WS q)/\H'=[(3,Im)]):=by
 have c:=fun H=>N4 q.1 0 1048575 H;have b:=fun H=>N4 q.2 0 1048575 H;have hof:WS q=(!(decide (0<=q.1)&&decide _)||!(decide (0<=q.2)&&decide _)):=rfl;obtain ⟨u,e⟩:∃u,u=(decide (0<=q.1)&&decide (q.1<=1048575)):=⟨_,rfl⟩;obtain ⟨v,d⟩:∃v,v=(decide (0<=q.2)&&decide (q.2<=1048575)):=⟨_,rfl⟩;clear e d;refine Bd func65 rfl ntmps65<|Sd (kb 2)<|Zd aH<|Sq ?_;refine aQ (t:=3) (n:=14) (X:=WS q) ?_ ?_
 ·all_goals refine Dd (bD qP) ?_
  all_goals refine Dd (aV pC)<|Dd (bD isAgg3)<|Dd (by exact cW rfl rfl rfl (dI.fn tQ (c _)))<|Dd iJ<|Dm ?_<;>(refine Sp 9 (fun f=>?_) fun f=>?_)<;>(first|refine Fo<|Fo<|Fo<|Fo<|Fo ?_|refine On (bD qP)<|On (aV pB)<|On (bD isAgg3)<|On (by exact cW rfl rfl rfl (dI.fn tQ (b _)))<|On iJ ?_)<;>refine Dd cD<|Da ?_<;>(exact⟨⟨_,rfl,by simp_all⟩,rfl,rfl,rfl⟩)
 refine aB ?_;refine dA (H':=[(3,Im)]) (.inr rfl) rfl (aJ rfl) (Fin.wk (by(simp;done)) (Hc (yC _)<|trivial) ⟨rfl,trivial⟩) ?_;exact Qq
theorem jr(l:List (Int×Int))(q):((List.range l.length).any fun k=>match l[k]? with|some s=>q s|none=>false)=l.any q:=by
 rw[Bool.eq_iff_iff,List.any_eq_true,List.any_eq_true];constructor
 ·grind
 rintro⟨s,a,h⟩;obtain ⟨k,hk⟩:=aDA.1 a
 grind
def Si(l:List (Int×Int))(k:Nat):Bool:=match l[k]? with|some s=>WS s|none=>false
theorem Ts(l)(hl:l.length<1099511627776):aW Tryz.prog 64 [.pv (vE l),.clo 65 [.ref 3 0 0 0]] [(3,Im)] (fun r H'=>r=bv (l.any WS)/\H'=[(3,Im)]):=by
 have b:=SI _ l (Si l) _ (by omega) (fun k s c=>by
  rw[Si,c];exact dI.clo call65 (Zx s))
 rw[show (List.range _).any (Si l)=l.any _ from jr l _]at b;exact b
theorem Db(s)(H):RC 167 [sv s] (bv false) H:=by
 refine Pu ?_;refine Bd func167 rfl ntmps167<|Sz aH<|Sd aC<|Dd aC<|Dd DH<|Zd aH<|aB<|Rt ?_
 simp_all
theorem Mg(s t)(H):RC 122 [sv s,sv t] (bv (xW s t)) H:=by
 refine Pu ?_;refine Bd func122 rfl ntmps122<|Sz aH<|Sq ?_;refine aQ (t:=4) (n:=15) (X:=xW s t) ?_ ?_
 ·all_goals refine Dd aC ?_
  all_goals refine Dd (bL rfl rfl call167 rfl (Db _ _))<|Dm ?_<;>(refine Sp 7 (fun c=>?_) fun c=>?_)<;>(try contradiction)<;>refine Fo<|Fo<|Fo<|Dd cD<|Dm ?_<;>(refine Sp 12 (fun b=>?_) fun b=>?_)<;>(try contradiction)<;>refine On aC<|On aC<|On (Bh rfl rfl rfl)<|Dd cD<|Da ?_<;>(exact⟨⟨_,rfl,rfl⟩,rfl,rfl,rfl⟩)
 exact aB<|Rt<|Qq
def mV:List ByteArray->Bool
 |a::b::r=>!xW b a&&mV (b::r)
 |_=>true
theorem VK{a}{l}(h:mV (a::l)=true):mV l=true:=by
 cases l with
 |nil=>rfl
 |cons b r=>exact(aCo _ _▸h).2
theorem HO:∀(i) {l},mV l=true->mV (l.drop i)=true
 |0,_,h=>h
 |i+1,[],_=>rfl
 |i+1,a::l,h=>HO i (VK h)
theorem eo{l:List _}{k}{a b}(f:l[k]?=some a)(c:l[k+1]?=some b):mV (l.drop k)=(!xW b a&&mV (l.drop (k+1))):=by obtain ⟨h,e⟩:=aCj.1 f;obtain ⟨g,d⟩:=aCj.1 c;rw[List.drop_eq_getElem_cons h,List.drop_eq_getElem_cons g,e,d];rfl
theorem ag(l:List ByteArray)(H:aG)(hl:l.length<1099511627776):RC 67 [.pv (aU l)] (bv (mV l)) H:=by
 refine Pu ?_;have n:(l.map encStr).length=l.length:=aCf _;refine Bd func67 rfl ntmps67<|Sz aH<|Sq<|Sd aC<|Dd (eR aD)<|Dd (by exact dB rfl rfl rfl (show IntKind.i64.wrap (((l.map encStr).length:Int) - 1)=((l.map encStr).length:Int) - 1 by rw[IntKind.wrap_i64];omega))<|Zd aH<|aE ?_;refine bJ (σ:=Nat) (fun k=>([(0,.pv (aU l)),(3,iv ((k:Int) - 1))],[])) (fun k=>k<=l.length/\mV (l.drop (k - 1))=true) (fun k=>k) l.length ⟨aCl _,?_⟩ ?_ ?_
 ·have:(l.drop (l.length - 1)).length<=1:=by grind
  match l.drop (l.length - 1),this with
  | [],_=>rfl
  | [a],_=>rfl
 ·rw[n];exact Wk
 rintro k ⟨hk,p⟩;refine Sq<|Sd aC<|Zd gX ?_;refine Cn ?_ ?_<;>intro f
 ·have hlt:2<=k:=by have:=aCb f;omega
  obtain ⟨m,rfl⟩:∃m,k=m+2:=⟨k - 2,by omega⟩;obtain ⟨b,s⟩:=aT (l:=l) (k:=m+1) (by omega);obtain ⟨a,q⟩:=aT (l:=l) (k:=m) (by omega);have j:=cE (f:=encStr) s;have hia:=cE (f:=encStr) q;have i:=eo q s;rw[show m+2 - 1=m+1 by omega]at p;rw[p,Bool.and_true]at i;refine aA<|Sq<|aE<|Sq<|aL follows<|Cq aC<|Cq aC<|Cq (by exact bP (m:=m+1) rfl bT rfl rfl (by omega) (show (((m+2:Nat):Int) - 1).toNat=m+1 by omega) j rfl)<|Cq (fO isAgg9)<|Cq aC<|Cq aC<|Cq (by exact dB rfl rfl rfl (show IntKind.i64.wrap ((((m+2:Nat):Int) - 1) - 1)=((m:Nat):Int)by rw[IntKind.wrap_i64];omega))<|Cq (jE bT)<|Cq (fO isAgg9)<|Cq (kc call122 (Mg b a _))<|bF<|Kr ?_;refine Cn ?_ ?_<;>intro g
  ·have e:xW b a=true:=g;have o:mV l=false:=by
    rw[Bool.eq_false_iff];intro h;rw[HO m h,e]at i
    grind
   rw[o];exact Sz aH<|aB<|Rt<|Qq
  have e:xW b a=false:=g;refine aA<|Rd aC<|Dd (by exact dB rfl rfl rfl (show IntKind.i64.wrap ((((m+2:Nat):Int) - 1) - 1)=((m+1:Nat):Int) - 1 by rw[IntKind.wrap_i64];omega))<|Da ?_;refine⟨m+1,⟨by omega,?_⟩,by omega,?_⟩
  ·simp_all
  exact Wk
 have hge:k<=1:=by have:=aCc f;omega
 have o:mV l=true:=by simp_all
 rw[o];exact aS<|Sz aH<|aB<|Rt<|Qq
abbrev vO(l:List ByteArray):List (List AV):=l.map (fun e=>(encStr e).map .pv)
theorem Xq(l:List _):∀r∈l.map encStr,r.length=1:=fun r a=>by
 obtain ⟨t,_,rfl⟩:=List.mem_map.1 a;rfl
theorem Fb(l)(H:aG)(hc:eE H)(f:H.get 901=none)(hl:l.length<1099511627776):
  aW Tryz.prog 69 [.pv (aU l)] H (fun r H'=>r=.osl 901 1 0 l.length/\H'=(901,⟨1,1,9,vO l⟩)::H):=by
 have e:(l.map encStr).length=l.length:=aCf _;refine Bd func69 rfl ntmps69<|Sz aH<|Sq<|Sr<|Dm ?_;refine Gq rfl rfl (gb rfl aD rfl) ?_;rintro _ H2 ⟨g,b,rfl,h⟩;rw[g];refine Zz ?_;refine Cn ?_ ?_<;>intro d
 ·have i:=h d;have c:=List.map_eq_nil_iff.1 i;subst c;refine Sz (by exact fF (sz:=1) (ty:=9) rfl f rfl)<|aB ?_;refine dA (.inr rfl) rfl (aJ rfl) ((Fin.bump (g:=0) (k:=1) rfl rfl (by decide) rfl rfl rfl).trans (Fin.get' (fun j=>yP _ _ _ _ j))) ?_;exact Qq
 refine aA<|Sd (fW rfl bT rfl rfl rfl rfl (by simp) f)<|Dd aC<|Dd (cG rfl bT zT rfl rfl rfl rfl rfl rfl rfl (Xq l) e (by omega) (aCx _) (show []++(l.map encStr).map _=vO l by simp_all))<|Zd aH<|aB ?_;refine dA (.inr rfl) rfl (aJ rfl) (Fin.get' (fun j=>yP _ _ _ _ j)) ?_;exact Qq
theorem J4(n)(H):RC 127 [.pv (.int .u8 n)] (bv (uJ n)) H:=by
 refine Pu ?_;refine Bd func127 rfl ntmps127<|Sz aH<|Sq ?_;refine aQ (t:=2) (n:=18) (X:=uJ n) ?_ ?_
 ·all_goals refine Dd aC ?_
  all_goals refine Dd CX<|Dm ?_<;>(refine Sp 5 (fun c=>?_) fun c=>?_)<;>(first|refine Fo<|Fo ?_|refine On aC<|On GP ?_)<;>refine Dd cD<|Dm ?_<;>(refine Sp 9 (fun d=>?_) fun d=>?_)<;>(first|refine Fo<|Fo<|Fo ?_|refine On aC<|On CX<|On aC ?_)<;>(first|refine Sp 12 (fun b=>?_) fun b=>?_|refine kI (t:=12) rfl ?_)<;>(first|contradiction|refine Fo ?_|refine Fu ?_|refine On aC ?_)<;>(first|refine Fo ?_|refine Fu ?_|refine On GP ?_)<;>(first|refine Fo ?_|refine On cD ?_)<;>refine Dd cD<|Da ?_<;>(exact⟨⟨_,rfl,by(simp only[uJ, *];rfl)⟩,rfl,rfl,rfl⟩)
 exact aB<|Rt<|Qq
theorem O7(n)(H):RC 175 [.pv (.int .u8 n)] (bv (xF n)) H:=by
 refine Pu ?_;refine Bd func175 rfl ntmps175<|Sz aH<|Sq ?_;refine aQ (t:=2) (n:=8) (X:=xF n) ?_ ?_
 ·all_goals refine Dd aC ?_
  all_goals refine Dd CX<|Dm ?_<;>(refine Sp 5 (fun b=>?_) fun b=>?_)<;>(first|refine Fo<|Fo ?_|refine On aC<|On GP ?_)<;>refine Dd cD<|Da ?_<;>(exact⟨⟨_,rfl,by(simp only[xF, *];rfl)⟩,rfl,rfl,rfl⟩)
 exact aB<|Rt<|Qq
def vz(n:Int):Bool:=(uJ n||xF n)||decide (n=95)
theorem V4(n)(H):RC 126 [.pv (.int .u8 n)] (bv (vz n)) H:=by
 refine Pu ?_;refine Bd func126 rfl ntmps126<|Sz aH<|Sq ?_;refine aQ (t:=2) (n:=13) (X:=vz n) ?_ ?_
 ·all_goals refine Dd aC ?_
  all_goals refine Dd (bL rfl rfl aBs rfl (J4 n _))<|Dm ?_<;>(refine Sp 5 (fun b=>?_) fun b=>?_)<;>(first|refine Fo<|Fo ?_|refine On aC<|On (bL rfl rfl aBn rfl (O7 n _)) ?_)<;>refine Dd cD<|Dm ?_<;>(refine Sp 9 (fun c=>?_) fun c=>?_)<;>(first|contradiction|refine Fo<|Fo ?_|refine On aC<|On cF ?_)<;>refine Dd cD<|Da ?_<;>(exact⟨⟨_,rfl,by(simp only[vz, *];rfl)⟩,rfl,rfl,rfl⟩)
 exact aB<|Rt<|Qq
theorem Nm:∀n:Fin 256,(decide (xN (n.val)=3)=uJ (n.val))/\(decide (xN (n.val)=4)=xF (n.val))/\(decide (xN (n.val)=5)=decide ((n.val:Int)=95)):=by decide +kernel
theorem QR(s)(k):(decide (xN (bH s k)=3)=uJ (bH s k))/\(decide (xN (bH s k)=4)=xF (bH s k))/\(decide (xN (bH s k)=5)=decide (bH s k=95)):=by have h:=Nm ⟨(bH s k).toNat,A4 s k⟩;exact h
def Og(s:ByteArray)(k:Nat):Bool:=!vz (bH s k)
def TF(s:ByteArray):Bool:=!((List.range s.size).any (Og s))&&(decide ((0:Int)<(s.size:Int))&&decide ((s.size:Int)<=24)&&uJ (bH s 0))
theorem YX{s}:s=sNil↔s.size=0:=by
 constructor
 ·rintro rfl;rfl
 intro h;exact ByteArray.ext (Array.eq_empty_of_size_eq_zero h)
theorem Ab(s:ByteArray):TF s=bS s:=by
 have m:∀k,cb s k=(!uJ (bH s k)&&(decide ((k:Int)=0)||(!xF (bH s k)&&!decide (bH s k=95)))):=fun k=>by
  obtain ⟨a,b,c⟩:=QR s k;rw[cb,a,b,c]
 rw[Bool.eq_iff_iff,TF,bS];simp only[aCo,aCy,aCm,aCn,List.any_eq_false,List.mem_range,YX,Og,m];constructor
 ·rintro⟨f,⟨l,e⟩,j⟩;refine⟨fun k i=>?_,by omega,e⟩;by_cases g:k=0
  ·subst g;simp[j]
  have d:vz (bH s k)=true:=by
   simp_all
  simp only[vz,Bool.or_eq_true,aCm]at d;rcases d with(h|h)|h
  ·simp[h]
  ·simp[h,g]
  simp[h,g]
 rintro⟨f,l,e⟩;refine⟨fun k i=>?_,⟨by omega,e⟩,?_⟩
 ·have:=f k i;intro d;apply this;simp only[vz,aCy,aDB]at d
  simp_all
 have:=f 0 (by omega);cases hl:uJ (bH s 0)with
 |true=>rfl
 |false=>exact absurd (by grind) this
theorem Ac(s:ByteArray)(H:aG)(hs:s.size<4611686018427387904):RC 74 [sv s] (bv (TF s)) H:=by
 refine Pu ?_;refine Bd func74 rfl ntmps74<|Sz aH<|Sq<|Sz aH<|aE ?_;refine bJ (σ:=Nat) (fun k=>([(0,sv s),(3,iv (k:Int))],[])) (fun k=>k<=s.size/\∀j,j<k->Og s j=false) (fun k=>s.size - k) 0 ⟨by omega,by omega⟩ ?_ ?_
 ·exact E0
 rintro k ⟨hk,i⟩;refine Sq<|Sd aC<|Dd aC<|Dd (gF underlying9)<|Zd cJ ?_;refine Cn ?_ ?_<;>intro d
 ·have f:k<s.size:=by have:=aCb d;omega
  refine aA<|Sq<|aE<|Sd aC<|Dd aC<|Dd (ky underlying9)<|Dd (kc aBt (V4 (bH s k) _))<|Zd iJ ?_;refine Cn ?_ ?_<;>intro b
  ·have o:Og s k=true:=b;refine Sz aH<|aB<|Rt ?_;exact⟨by rw[TF,tE f o];rfl,rfl⟩
  refine aA<|Rd aC<|Dd iF<|Da ?_;refine⟨k+1,⟨by omega,fun j hj=>?_⟩,by omega,E0⟩;by_cases e:j=k
  ·subst e;exact b
  grind
 have h:k=s.size:=by have:=aCc d;omega
 have m:TF s=(decide ((0:Int)<(s.size:Int))&&decide ((s.size:Int)<=24)&&uJ (bH s 0)):=by
  subst h;rw[TF,AE i];rfl
 rw[m];clear m;by_cases n:(0:Int)<(s.size:Int)
 ·have g:=decide_eq_true n;have h00:0<s.size:=by omega
  rw[g,Bool.true_and];by_cases c:(s.size:Int)<=24
  ·have l:=decide_eq_true c;rw[l,Bool.true_and];exact aS<|Sd aC<|Dd (gF underlying9)<|Dd gX<|Dd aC<|Oa aC<|Oa (gF underlying9)<|Oa GP<|Dd xX<|Dd aC<|Oa aC<|Oa (ky underlying9)<|Oa (kc aBs (J4 (bH s 0) _))<|Dd xX<|Zd aH<|aB<|Rt<|Qq
  have l:=decide_eq_false c;rw[l];exact aS<|Sd aC<|Dd (gF underlying9)<|Dd gX<|Dd aC<|Oa aC<|Oa (gF underlying9)<|Oa GP<|Dd xX<|Dd aC<|Fa<|Fa<|Fa<|Dd nT<|Zd aH<|aB<|Rt<|Qq
 have g:=decide_eq_false n;rw[g];exact aS<|Sd aC<|Dd (gF underlying9)<|Dd gX<|Dd aC<|Fa<|Fa<|Fa<|Dd nT<|Dd aC<|Fo<|Fo<|Fo<|Dd cD<|Zd aH<|aB<|Rt<|Qq
theorem kN(s)(H)(a:s.size<4611686018427387904):RC 74 [sv s] (bv (bS s)) H:=by rw[<-Ab];exact Ac s H a
theorem zz(x y:Int)(H:aG):RC 129 [.agg [iv x,iv y]] (bv (W4 x y)) H:=by
 refine Pu ?_;refine Bd func129 rfl ntmps129<|Sd (kb 1)<|Zd aH<|Sq ?_;refine aQ (t:=2) (n:=22) (X:=W4 x y) ?_ ?_
 ·all_goals refine Dd (aV pC) ?_
  all_goals refine Dd (bD isAgg3)<|Dd CX<|Dm ?_<;>(refine Sp 6 (fun d=>?_) fun d=>?_)<;>(first|refine Fo<|Fo<|Fo ?_|refine On (aV pC)<|On (bD isAgg3)<|On cJ ?_)<;>refine Dd cD<|Dm ?_<;>(refine Sp 11 (fun b=>?_) fun b=>?_)<;>(first|refine Fo<|Fo<|Fo ?_|refine On (aV pB)<|On (bD isAgg3)<|On CX ?_)<;>refine Dd cD<|Dm ?_<;>(refine Sp 16 (fun c=>?_) fun c=>?_)<;>(first|contradiction|refine Fo<|Fo<|Fo ?_|refine On (aV pB)<|On (bD isAgg3)<|On cJ ?_)<;>refine Dd cD<|Da ?_<;>(exact⟨⟨_,rfl,by(simp only[W4, *];rfl)⟩,rfl,rfl,rfl⟩)
 exact aB<|Rt<|Qq
theorem ri{n:Nat}(a:1<=n)(b:n<=5):[encStr sNil,encStr ⟨#[110,111,100,101]⟩,encStr ⟨#[119,97,121]⟩,encStr ⟨#[97,114,101,97]⟩,encStr ⟨#[114,111,117,116,101]⟩,encStr ⟨#[116,117,114,110]⟩][n]?=some (encStr (dZ n)):=by
 match n,a,b with
 |1,_,_=>rfl
 |2,_,_=>rfl
 |3,_,_=>rfl
 |4,_,_=>rfl
 |5,_,_=>rfl
 |n+6,_,h=>exact absurd h (by omega)
theorem ER(k:Int)(H:aG):RC 205 [iv k] (sv (dZ k)) H:=by
 refine Pu ?_;refine Bd func205 rfl ntmps205<|Sz aH<|Sd (aN [encStr sNil,encStr _,encStr _,encStr _,encStr _,encStr _] rfl bT rfl rfl rfl rfl rfl (by simp[encStr]))<|Zd aH<|Sq<|Sq ?_;refine aQ (t:=10) (n:=7) (X:=decide (k<1)||decide (5<k)) ?_ ?_
 ·all_goals refine Dd aC ?_
  all_goals refine Dd cJ<|Dm ?_<;>(refine Sp 7 (fun d=>?_) fun d=>?_)<;>(first|refine Fo<|Fo ?_|refine On aC<|On gX ?_)<;>refine Zd cD ?_<;>(exact⟨⟨_,rfl,by grind⟩,rfl,rfl,rfl⟩)
 refine Cn ?_ ?_<;>intro hc1
 ·have b:¬ (k=1)/\¬ (k=2)/\¬ (k=3)/\¬ (k=4)/\¬ (k=5):=by
   grind
  refine Sz aH<|aB<|Rt ?_;exact⟨by simp only[dZ,b.1,b.2.1,b.2.2.1,b.2.2.2.1,b.2.2.2.2,if_false],rfl⟩
 obtain ⟨n,rfl⟩:∃n:Nat,k=(n:Int):=⟨k.toNat,by grind⟩;have c:1<=n/\n<=5:=by
  grind
 have hi:=ri c.1 c.2;exact aA<|Sd aC<|Dd aC<|Dd (jE bT)<|Dd (fO isAgg9)<|Zd aH<|aB<|Rt<|Qq
theorem ux(l)(k:Nat)(t a)(c:0<k->l[k - 1]?=some a):(((!bS t.key||decide ((t.val.size:Int)<1))||decide (200<(t.val.size:Int)))||(decide ((0:Int)<k)&&!xW a.key t.key))=CK (jT GTag.key l k) t:=by
 have d:decide ((t.val.size:Int)<1)=decide (t.val=sNil):=decide_eq_decide.2 (by rw[YX];omega);rw[d,CK];cases g:bS t.key with
 |false=>simp
 | true =>
  have f:Rs t.key (jT GTag.key l k)=(decide (0<(k:Int))&&!xW a.key t.key):=by
   cases k with
   | zero =>
    have:xW sNil t.key=true:=by
     cases e:xW sNil t.key with
     |true=>rfl
     |false=>exact absurd (M8 (lx _) e) (QA g)
    rw[jT,NA.2 this];rfl
   | succ k =>
    have h:=c (by omega);rw[show k+1 - 1=k from rfl]at h;rw[yT h,decide_eq_true (show 0<((k+1:Nat):Int)by omega)];cases e:xW _ t.key with
    |true=>rw[NA.2 e];rfl
    |false =>
     cases b:Rs t.key _ with
     |true=>rfl
     |false=>rw[NA]at b;rw[e]at b;cases b
  rw[<-f];cases Rs t.key _<;>cases decide (t.val=sNil)<;>cases decide (200<(t.val.size:Int))<;>rfl
theorem mn(l:List GTag)(H:aG)(w:GJ l):RC 254 [.pv (oG l)] (bv (sE l)) H:=by
 refine Pu ?_;obtain ⟨w,u⟩:=w;have hml:(l.map bM).length=l.length:=aCf _;refine Bd func254 rfl ntmps254<|Sz aH<|Sq<|Sd aC<|Dd (eR cY)<|Zd gX ?_;refine Cn ?_ ?_<;>intro n
 ·have f:decide ((l.length:Int)<=60)=false:=by
   have:=aCb n;exact decide_eq_false (by omega)
  refine Sz aH<|aB<|Rt ?_;exact⟨by rw[sE,f,Bool.and_false],rfl⟩
 have f:decide ((l.length:Int)<=60)=true:=by
  have:=aCc n;exact decide_eq_true (by omega)
 rw[sE,f,Bool.and_true];refine aA<|Sq<|Sz aH<|aE ?_;refine bJ (σ:=Nat) (fun k=>([(0,.pv (oG l)),(3,iv (k:Int))],[])) (fun k=>k<=l.length/\∀j,j<k->QX CK GTag.key l j=false) (fun k=>l.length - k) 0 ⟨by omega,by omega⟩ ?_ ?_
 ·exact E0
 rintro k ⟨hk,hno⟩;refine Sq<|Sd aC<|Dd aC<|Dd (eR cY)<|Zd cJ ?_;refine Cn ?_ ?_<;>intro g
 ·have o:k<l.length:=by have:=aCb g;omega
  obtain ⟨t,q⟩:=aT o;have hi:=cE (f:=bM) q;have hkt:=u t (aCp q);obtain ⟨p,v⟩:∃p,0<k->l[k - 1]?=some p:=by
   grind
  have m:0<k->(l.map bM)[k - 1]?=some (bM p):=fun h=>cE (f:=bM) (v h);have i:=ux l k t p v;refine aA<|Sq<|aE<|Sq ?_;refine kH (t:=55) (n:=43) (X:=((!bS t.key||decide ((t.val.size:Int)<1))||decide (200<(t.val.size:Int)))||(decide ((0:Int)<(k:Int))&&!xW p.key t.key)) ?_ ?_
  ·cases hg20:(!bS t.key:Bool)
   ·cases hg29:(decide ((t.val.size:Int)<1):Bool)
    ·cases hg38:(decide (200<(t.val.size:Int)):Bool)
     ·cases hg41:(decide ((0:Int)<(k:Int)):Bool)
      ·refine aL follows<|Cq aC<|Cq aC<|Cq (jE jX)<|Cq (C2 nW)<|Cq (fO isAgg9)<|Cq (kc gB (kN t.key _ hkt.1))<|Cq iJ<|Cq aC<|Nf aC<|Nf aC<|Nf (jE jX)<|Nf (C2 oU)<|Nf (fO isAgg9)<|Nf (gF underlying9)<|Nf cJ<|Cq nT<|Cq aC<|Nf aC<|Nf aC<|Nf (jE jX)<|Nf (C2 oU)<|Nf (fO isAgg9)<|Nf (gF underlying9)<|Nf gX<|Cq nT<|Cq aC<|Nf aC<|Nf gX<|Nf aC<|Ot<|Ot<|Ot<|Ot<|Ot<|Ot<|Ot<|Ot<|Ot<|Ot<|Ot<|Ot<|Nf nT<|Cq nT<|bF<|Kr ?_;exact⟨rfl,⟨_,rfl,by rfl⟩,rfl,rfl,rfl⟩
      refine aL follows<|Cq aC<|Cq aC<|Cq (jE jX)<|Cq (C2 nW)<|Cq (fO isAgg9)<|Cq (kc gB (kN t.key _ hkt.1))<|Cq iJ<|Cq aC<|Nf aC<|Nf aC<|Nf (jE jX)<|Nf (C2 oU)<|Nf (fO isAgg9)<|Nf (gF underlying9)<|Nf cJ<|Cq nT<|Cq aC<|Nf aC<|Nf aC<|Nf (jE jX)<|Nf (C2 oU)<|Nf (fO isAgg9)<|Nf (gF underlying9)<|Nf gX<|Cq nT<|Cq aC<|Nf aC<|Nf gX<|Nf aC<|Nt aC<|Nt aC<|Nt (by exact dB rfl rfl rfl (by exact lI (by omega) (by omega)))<|Nt (by exact bP rfl jX rfl rfl (by have:=aCb hg41;omega) (show ((k:Int) - 1).toNat=k - 1 by omega) (m (by have:=aCb hg41;omega)) rfl)<|Nt (C2 nW)<|Nt (by exact pI rfl isAgg9 rfl (m (by have:=aCb hg41;omega)) rfl)<|Nt aC<|Nt aC<|Nt (jE jX)<|Nt (C2 nW)<|Nt (fO isAgg9) ?_;refine Nt (by exact ZR rfl rfl rfl)<|Nf xX<|Cq nT<|bF<|Kr ?_;exact⟨rfl,⟨_,rfl,by rfl⟩,rfl,rfl,rfl⟩
     refine aL follows<|Cq aC<|Cq aC<|Cq (jE jX)<|Cq (C2 nW)<|Cq (fO isAgg9)<|Cq (kc gB (kN t.key _ hkt.1))<|Cq iJ<|Cq aC<|Nf aC<|Nf aC<|Nf (jE jX)<|Nf (C2 oU)<|Nf (fO isAgg9)<|Nf (gF underlying9)<|Nf cJ<|Cq nT<|Cq aC<|Nf aC<|Nf aC<|Nf (jE jX)<|Nf (C2 oU)<|Nf (fO isAgg9)<|Nf (gF underlying9)<|Nf gX<|Cq nT<|Cq aC<|Of<|Of<|Of<|Ou<|Ou<|Ou<|Ou<|Ou<|Ou<|Ou<|Ou<|Ou<|Ou<|Ou<|Ou<|Of<|Cq xX<|bF<|Kr ?_;exact⟨rfl,⟨_,rfl,by rfl⟩,rfl,rfl,rfl⟩
    refine aL follows<|Cq aC<|Cq aC<|Cq (jE jX)<|Cq (C2 nW)<|Cq (fO isAgg9)<|Cq (kc gB (kN t.key _ hkt.1))<|Cq iJ<|Cq aC<|Nf aC<|Nf aC<|Nf (jE jX)<|Nf (C2 oU)<|Nf (fO isAgg9)<|Nf (gF underlying9)<|Nf cJ<|Cq nT<|Cq aC<|Of<|Of<|Of<|Of<|Of<|Of<|Of<|Cq xX<|Cq aC<|Of<|Of<|Of<|Ou<|Ou<|Ou<|Ou<|Ou<|Ou<|Ou<|Ou<|Ou<|Ou<|Ou<|Ou<|Of<|Cq cD<|bF<|Kr ?_;exact⟨rfl,⟨_,rfl,by rfl⟩,rfl,rfl,rfl⟩
   refine aL follows<|Cq aC<|Cq aC<|Cq (jE jX)<|Cq (C2 nW)<|Cq (fO isAgg9)<|Cq (kc gB (kN t.key _ hkt.1))<|Cq iJ<|Cq aC<|Of<|Of<|Of<|Of<|Of<|Of<|Of<|Cq xX<|Cq aC<|Of<|Of<|Of<|Of<|Of<|Of<|Of<|Cq cD<|Cq aC<|Of<|Of<|Of<|Ou<|Ou<|Ou<|Ou<|Ou<|Ou<|Ou<|Ou<|Ou<|Ou<|Ou<|Ou<|Of<|Cq cD<|bF<|Kr ?_;exact⟨rfl,⟨_,rfl,by rfl⟩,rfl,rfl,rfl⟩
  refine Cn ?_ ?_<;>intro hc3
  ·rw[i]at hc3;refine Sz aH<|aB<|Rt ?_;exact⟨by rw[tE o ((CL q).trans hc3)];rfl,rfl⟩
  rw[i]at hc3;refine aA<|Rd aC<|Dd iF<|Da ?_;refine⟨k+1,⟨by omega,fun j hj=>?_⟩,by omega,E0⟩;by_cases e:j=k
  ·subst e;exact(CL q).trans hc3
  grind
 have s:k=l.length:=by have:=aCc g;omega
 subst s;refine aS<|Sz aH<|aB<|Rt ?_
 simp_all
theorem xb(o)(k:Nat)(s p)(a:0<k->o.refs[k - 1]?=some p):
  ((!bS s||((decide (o.kind=2)&&decide (0<(k:Int)))&&decide (p=s)))||(decide (o.kind=3)&&Dh (AB o.refs k) s))=KR o (jT id o.refs k) (AB o.refs k) s:=by
 rw[KR,P9];cases c:bS s with
 |false=>simp
 | true =>
  have b:(decide (0<(k:Int))&&decide (p=s))=decide (s=jT id o.refs k):=by
   cases k with
   |zero=>rw[jT,decide_eq_false (QA c)];rfl
   |succ k =>
    have h:=a (by omega);rw[show k+1 - 1=k from rfl]at h;rw[yT h,decide_eq_true (show 0<((k+1:Nat):Int)by omega)];exact decide_eq_decide.2 eq_comm
  rw[<-b];simp[Bool.and_assoc]
theorem yz{l}{k}{s}(h:l[k]?=some s):AB l (k+1)=OI (AB l k) s:=by rw[AB,h];rfl
def Ur(k n:Int):Bool:=if k=1 then decide (n=0)else if k=2 then decide (2<=n)else if k=3 then decide (3<=n)else if k=4 then decide (1<=n)else decide (n=3)
def O3(o:GObj):Bool:=(decide ((o.refs.length:Int)<=2000)&&!((List.range o.refs.length).any (tR o)))&&Ur o.kind (o.refs.length:Int)
theorem mq(o:GObj)(H:aG)(G:ZU o):RC 255 [av (bG o)] (bv (O3 o)) H:=by
 refine Pu ?_;obtain ⟨h1,h2,h3,l⟩:=G;have B:(o.refs.map encStr).length=o.refs.length:=aCf _;refine Bd func255 rfl ntmps255<|Sd (kb 1)<|Zd aH<|Sd (aV dQ)<|Dd (bD aF)<|Dd (eR aD)<|Zd aH<|Sq<|Sd aC<|Zd gX ?_;refine Cn ?_ ?_<;>intro v
 ·have C:decide ((o.refs.length:Int)<=2000)=false:=by
   have:=aCb v;exact decide_eq_false (by omega)
  refine Sz aH<|aB<|Rt ?_;exact⟨by rw[O3,C];rfl,rfl⟩
 have C:decide ((o.refs.length:Int)<=2000)=true:=by
  have:=aCc v;exact decide_eq_true (by omega)
 rw[O3,C,Bool.true_and];refine aA<|Sd (by exact DO (id:=11) qj rfl rfl)<|Zd aH<|Sq<|Sz aH<|aE ?_;refine bJ (σ:=Nat) (fun k=>([(1,.ref 1 0 0 0),(3,iv ((o.refs.map encStr).length:Int)),(4,.mp 11 0),(5,iv (k:Int))],[(11,sob (AB o.refs k)),(1,bx 6 151 ((bG o).map .pv))])) (fun k=>k<=o.refs.length/\∀j,j<k->tR o j=false) (fun k=>o.refs.length - k) 0 ⟨by omega,by omega⟩ ?_ ?_
 ·exact(cQ.wk (Ea<|Eb<|Ea<|Eb<|trivial) (Hc (M7 _ _)<|Hb<|trivial) trivial)
 rintro k ⟨hk,q⟩;refine Sq<|Sd aC<|Dd aC<|Zd cJ ?_;refine Cn ?_ ?_<;>intro z
 ·have x:k<o.refs.length:=by have:=aCb z;omega
  obtain ⟨s,hs⟩:=aT x;have hi:=cE (f:=encStr) hs;obtain ⟨p,F⟩:∃p,0<k->o.refs[k - 1]?=some p:=by
   grind
  have hpv:0<k->(o.refs.map encStr)[k - 1]?=some (encStr p):=fun h=>cE (f:=encStr) (F h);have u:=xb o k s p F;have E:tR o k=KR o (jT id o.refs k) (AB o.refs k) s:=by rw[tR,hs]
  have D:=yz hs;refine aA<|Sq<|aE<|Sq<|Sq ?_;refine kH (t:=60) (n:=44) (X:=(!bS s||((decide (o.kind=2)&&decide ((0:Int)<(k:Int)))&&decide (p=s)))||(decide (o.kind=3)&&Dh (AB o.refs k) s)) ?_ ?_
  ·cases hg24:(!bS s:Bool)
   ·cases hg28:(decide (o.kind=2):Bool)
    ·cases m:(decide (o.kind=3):Bool)
     ·refine aL follows<|Cq (aV dQ)<|Cq (bD aF)<|Cq aC<|Cq (jE bT)<|Cq (fO isAgg9)<|Cq (kc gB (kN s _ (l s (aCp hs))))<|Cq iJ<|Cq aC<|Nf (aV dW)<|Nf (bD isAgg3)<|Nf cF<|Nf aC<|Ot<|Ot<|Nf nT<|Nf aC<|Ot<|Ot<|Ot<|Ot<|Ot<|Ot<|Ot<|Ot<|Ot<|Ot<|Ot<|Ot<|Nf cD<|Cq nT<|Cq aC<|Nf (aV dW)<|Nf (bD isAgg3)<|Nf cF<|Nf aC<|Ot<|Ot<|Ot<|Ot<|Ot<|Ot<|Ot<|Nf nT<|Cq cD<|bF<|Kr ?_;exact⟨rfl,⟨_,rfl,by rfl⟩,rfl,rfl,rfl⟩
     refine aL follows<|Cq (aV dQ)<|Cq (bD aF)<|Cq aC<|Cq (jE bT)<|Cq (fO isAgg9)<|Cq (kc gB (kN s _ (l s (aCp hs))))<|Cq iJ<|Cq aC<|Nf (aV dW)<|Nf (bD isAgg3)<|Nf cF<|Nf aC<|Ot<|Ot<|Nf nT<|Nf aC<|Ot<|Ot<|Ot<|Ot<|Ot<|Ot<|Ot<|Ot<|Ot<|Ot<|Ot<|Ot<|Nf cD<|Cq nT<|Cq aC<|Nf (aV dW)<|Nf (bD isAgg3)<|Nf cF<|Nf aC<|Nt aC<|Nt (aV dQ)<|Nt (bD aF)<|Nt aC<|Nt (jE bT)<|Nt (fO isAgg9)<|Nt (by exact vL rfl qN underlying9 rfl rfl rfl rfl rfl nY (.inl rfl))<|Nf xX<|Cq cD<|bF<|Kr ?_;exact⟨rfl,⟨_,rfl,by rfl⟩,rfl,rfl,rfl⟩
    cases hg32:(decide ((0:Int)<(k:Int)):Bool)
    ·cases m:(decide (o.kind=3):Bool)
     ·refine aL follows<|Cq (aV dQ)<|Cq (bD aF)<|Cq aC<|Cq (jE bT)<|Cq (fO isAgg9)<|Cq (kc gB (kN s _ (l s (aCp hs))))<|Cq iJ<|Cq aC<|Nf (aV dW)<|Nf (bD isAgg3)<|Nf cF<|Nf aC<|Nt aC<|Nt gX<|Nf xX<|Nf aC<|Ot<|Ot<|Ot<|Ot<|Ot<|Ot<|Ot<|Ot<|Ot<|Ot<|Ot<|Ot<|Nf nT<|Cq nT<|Cq aC<|Nf (aV dW)<|Nf (bD isAgg3)<|Nf cF<|Nf aC<|Ot<|Ot<|Ot<|Ot<|Ot<|Ot<|Ot<|Nf nT<|Cq cD<|bF<|Kr ?_;exact⟨rfl,⟨_,rfl,by rfl⟩,rfl,rfl,rfl⟩
     refine aL follows<|Cq (aV dQ)<|Cq (bD aF)<|Cq aC<|Cq (jE bT)<|Cq (fO isAgg9)<|Cq (kc gB (kN s _ (l s (aCp hs))))<|Cq iJ<|Cq aC<|Nf (aV dW)<|Nf (bD isAgg3)<|Nf cF<|Nf aC<|Nt aC<|Nt gX<|Nf xX<|Nf aC<|Ot<|Ot<|Ot<|Ot<|Ot<|Ot<|Ot<|Ot<|Ot<|Ot<|Ot<|Ot<|Nf nT<|Cq nT<|Cq aC<|Nf (aV dW)<|Nf (bD isAgg3)<|Nf cF<|Nf aC<|Nt aC<|Nt (aV dQ)<|Nt (bD aF)<|Nt aC<|Nt (jE bT)<|Nt (fO isAgg9)<|Nt (by exact vL rfl qN underlying9 rfl rfl rfl rfl rfl nY (.inl rfl))<|Nf xX<|Cq cD<|bF<|Kr ?_
     simp_all
    cases hg47:(decide (p=s):Bool)
    ·cases m:(decide (o.kind=3):Bool)
     ·refine aL follows<|Cq (aV dQ)<|Cq (bD aF)<|Cq aC<|Cq (jE bT)<|Cq (fO isAgg9)<|Cq (kc gB (kN s _ (l s (aCp hs))))<|Cq iJ<|Cq aC<|Nf (aV dW)<|Nf (bD isAgg3)<|Nf cF<|Nf aC<|Nt aC<|Nt gX<|Nf xX<|Nf aC<|Nt (aV dQ)<|Nt (bD aF)<|Nt aC<|Nt (by exact dB rfl rfl rfl (by exact lI (by omega) (by omega)))<|Nt (by exact bP rfl bT rfl rfl (by have:=aCb hg32;omega) (show ((k:Int) - 1).toNat=k - 1 by omega) (hpv (by have:=aCb hg32;omega)) rfl)<|Nt (by exact pI rfl isAgg9 rfl (hpv (by have:=aCb hg32;omega)) rfl)<|Nt (aV dQ)<|Nt (bD aF)<|Nt aC<|Nt (jE bT)<|Nt (fO isAgg9)<|Nt vF<|Nf xX<|Cq nT<|Cq aC<|Nf (aV dW)<|Nf (bD isAgg3)<|Nf cF<|Nf aC<|Ot<|Ot<|Ot<|Ot ?_;refine Ot<|Ot<|Ot<|Nf nT<|Cq nT<|bF<|Kr ?_;exact⟨rfl,⟨_,rfl,by rfl⟩,rfl,rfl,rfl⟩
     refine aL follows<|Cq (aV dQ)<|Cq (bD aF)<|Cq aC<|Cq (jE bT)<|Cq (fO isAgg9)<|Cq (kc gB (kN s _ (l s (aCp hs))))<|Cq iJ<|Cq aC<|Nf (aV dW)<|Nf (bD isAgg3)<|Nf cF<|Nf aC<|Nt aC<|Nt gX<|Nf xX<|Nf aC<|Nt (aV dQ)<|Nt (bD aF)<|Nt aC<|Nt (by exact dB rfl rfl rfl (by exact lI (by omega) (by omega)))<|Nt (by exact bP rfl bT rfl rfl (by have:=aCb hg32;omega) (show ((k:Int) - 1).toNat=k - 1 by omega) (hpv (by have:=aCb hg32;omega)) rfl)<|Nt (by exact pI rfl isAgg9 rfl (hpv (by have:=aCb hg32;omega)) rfl)<|Nt (aV dQ)<|Nt (bD aF)<|Nt aC<|Nt (jE bT)<|Nt (fO isAgg9)<|Nt vF<|Nf xX<|Cq nT<|Cq aC<|Nf (aV dW)<|Nf (bD isAgg3)<|Nf cF<|Nf aC<|Nt aC<|Nt (aV dQ) ?_;refine Nt (bD aF)<|Nt aC<|Nt (jE bT)<|Nt (fO isAgg9)<|Nt (by exact vL rfl qN underlying9 rfl rfl rfl rfl rfl nY (.inl rfl))<|Nf xX<|Cq nT<|bF<|Kr ?_
     simp_all
    refine aL follows<|Cq (aV dQ)<|Cq (bD aF)<|Cq aC<|Cq (jE bT)<|Cq (fO isAgg9)<|Cq (kc gB (kN s _ (l s (aCp hs))))<|Cq iJ<|Cq aC<|Nf (aV dW)<|Nf (bD isAgg3)<|Nf cF<|Nf aC<|Nt aC<|Nt gX<|Nf xX<|Nf aC<|Nt (aV dQ)<|Nt (bD aF)<|Nt aC<|Nt (by exact dB rfl rfl rfl (by exact lI (by omega) (by omega)))<|Nt (by exact bP rfl bT rfl rfl (by have:=aCb hg32;omega) (show ((k:Int) - 1).toNat=k - 1 by omega) (hpv (by have:=aCb hg32;omega)) rfl)<|Nt (by exact pI rfl isAgg9 rfl (hpv (by have:=aCb hg32;omega)) rfl)<|Nt (aV dQ)<|Nt (bD aF)<|Nt aC<|Nt (jE bT)<|Nt (fO isAgg9)<|Nt vF<|Nf xX<|Cq nT<|Cq aC<|Of<|Of<|Of<|Of<|Ou<|Ou<|Ou<|Ou<|Ou<|Ou<|Ou<|Of<|Cq xX<|bF<|Kr ?_;exact⟨rfl,⟨_,rfl,by rfl⟩,rfl,rfl,rfl⟩
   refine aL follows<|Cq (aV dQ)<|Cq (bD aF)<|Cq aC<|Cq (jE bT)<|Cq (fO isAgg9)<|Cq (kc gB (kN s _ (l s (aCp hs))))<|Cq iJ<|Cq aC<|Of<|Of<|Of<|Of<|Ou<|Ou<|Of<|Of<|Ou<|Ou<|Ou<|Ou<|Ou<|Ou<|Ou<|Ou<|Ou<|Ou<|Ou<|Ou<|Of<|Cq xX<|Cq aC<|Of<|Of<|Of<|Of<|Ou<|Ou<|Ou<|Ou<|Ou<|Ou<|Ou<|Of<|Cq cD<|bF<|Kr ?_;exact⟨rfl,⟨_,rfl,by rfl⟩,rfl,rfl,rfl⟩
  refine Cn ?_ ?_<;>intro i
  ·rw[u,<-E]at i;refine Sz aH<|aB<|Rt ?_;exact⟨by rw[tE x i];rfl,rfl⟩
  rw[u,<-E]at i;refine aA<|Rd aC<|Dd (aV dQ)<|Dd (bD aF)<|Dd aC<|Dd (jE bT)<|Dd (fO isAgg9)<|Uu (by exact SN (.inl rfl) qN underlying9 rfl rfl rfl rfl rfl rfl rfl)<|Zz<|Rd aC<|Dd iF<|Da ?_;refine⟨k+1,⟨by omega,fun j hj=>?_⟩,by omega,?_⟩
  ·by_cases e:j=k
   ·subst e;exact i
   exact q j (by omega)
  rw[D];exact(cQ.wk (Ea<|Eb<|Ea<|Eb<|trivial) (Hc (M7 _ _)<|Hb<|trivial) trivial)
 have A:k=o.refs.length:=by have:=aCc z;omega
 subst A;rw[AE q,Bool.not_false,Bool.true_and,Ur,<-B];refine aS<|Sq<|Sd (aV dW)<|Zd (bD isAgg3)<|aE<|Sd cF<|Da ?_;refine Cn ?_ ?_<;>intro n
 ·rw[aCe (aCb n)];exact Sd aC<|Dd cF<|Zd aH<|aB<|Rt<|Qq
 rw[aCd (aCc n)];refine Sd cF<|Da ?_;refine Cn ?_ ?_<;>intro w
 ·rw[aCe (aCb w)];exact Sd aC<|Dd CX<|Zd aH<|aB<|Rt<|Qq
 rw[aCd (aCc w)];refine Sd cF<|Da ?_;refine Cn ?_ ?_<;>intro t
 ·rw[aCe (aCb t)];exact Sd aC<|Dd CX<|Zd aH<|aB<|Rt<|Qq
 rw[aCd (aCc t)];refine Sd cF<|Da ?_;refine Cn ?_ ?_<;>intro y
 ·rw[aCe (aCb y)];exact Sd aC<|Dd CX<|Zd aH<|aB<|Rt<|Qq
 rw[aCd (aCc y)];exact aA<|Sd aC<|Dd cF<|Zd aH<|aB<|Rt<|Qq
def Qj(o:GObj):Bool:=if o.kind=1 then W4 o.x o.y else(decide (o.x=0)&&decide (o.y=0))
theorem Kd(o):((((bS o.id&&!decide (dZ o.kind=sNil))&&Qj o)&&sE o.tags)&&O3 o)=nA o:=by
 cases f:decide (dZ _=sNil)with
 |true=>simp[nA,LZ,uV,f]
 |false =>
  have hk:=zV f;have hk0:¬ o.kind=0:=fun e=>by rw[e]at f;simp[dZ]at f
  simp only[nA,LZ,uV,f,O3,Qj,QB,Ur,DZ];generalize bS o.id=a;generalize sE o.tags=b;generalize (List.range _).any _=w;generalize W4 o.x o.y=c;generalize (decide (o.x=0)&&decide (o.y=0))=d;generalize o.kind=k at *;rcases(by omega:k=1\/k=2\/k=3\/k=4\/k=5)with rfl|rfl|rfl|rfl|rfl<;>cases a<;>cases b<;>cases w<;>cases c<;>cases d<;>rw[Bool.eq_iff_iff]<;>simp<;>omega
theorem Aa(o:GObj)(H:aG)(f:ZU o):RC 220 [av (bG o)] (bv (nA o)) H:=by
 refine Pu ?_;rw[<-Kd];refine Bd func220 rfl ntmps220<|Sd (kb 1)<|Zd aH<|Sd (aV lV)<|Dd (by exact aM rfl dO sizeOf68 rfl rfl rfl rfl (by simp only[Zl,bM,bG,encStr];rfl) rfl)<|Dd (kc aBr (zz o.x o.y _))<|Zd aH<|Sq<|Sd (aV dW)<|Dd (bD isAgg3)<|Zd rI ?_;refine Cn ?_ ?_<;>intro g
 ·have i:Qj o=(decide (o.x=0)&&decide (o.y=0)):=by
   have h:(!decide (o.kind=1))=true:=g;rw[Qj,aCd (by simp_all)]
  refine Rd (aV lV)<|Dd (by exact aM rfl dO sizeOf68 rfl rfl rfl rfl (by simp only[Zl,bM,bG,encStr];rfl) rfl)<|Dd (nP SK)<|Dd (by exact AK rfl rfl rfl rfl rfl iV (VR _ _ _ _))<|Zd aH<|Sq ?_;refine aQ (t:=2) (n:=26) (X:=(((bS o.id&&!decide (dZ o.kind=sNil))&&Qj o)&&sE o.tags)&&O3 o) ?_ ?_
  ·all_goals refine Dd (aV oW) ?_
   all_goals refine Dd (bD isAgg9)<|Dd (kc gB (kN o.id _ f.1))<|Dm ?_<;>(refine Sp 17 (fun d=>?_) fun d=>?_)<;>(first|contradiction|refine Fo<|Fo<|Fo<|Fo ?_|refine On (aV dW)<|On (bD isAgg3)<|On (kc vp (ER o.kind _))<|On DH ?_)<;>refine Dd cD<|Dm ?_<;>(refine Sp 23 (fun b=>?_) fun b=>?_)<;>(first|contradiction|refine Fo ?_|refine On aC ?_)<;>refine Dd cD<|Dm ?_<;>(refine Sp 26 (fun e=>?_) fun e=>?_)<;>(first|contradiction|refine Fo<|Fo<|Fo ?_|refine On (aV eT)<|On (bD cU)<|On (kc call254 (mn o.tags _ f.2.1)) ?_)<;>refine Dd cD<|Dm ?_<;>(refine Sp 31 (fun c=>?_) fun c=>?_)<;>(first|contradiction|refine Fo<|Fo ?_|refine On (by exact aM rfl bZ sizeOf151 rfl rfl rfl rfl (by simp only[Zl,bM,bG,encStr];rfl) rfl)<|On (kc call255 (mq o _ f)) ?_)<;>refine Dd cD<|Da ?_<;>(exact⟨⟨_,rfl,by simp_all⟩,rfl,rfl,rfl⟩)
  exact aB<|Rt<|Qq
 have i:Qj o=W4 o.x o.y:=by
  have h:(!decide (o.kind=1))=false:=g;rw[Qj,aCe (by simp_all)]
 refine aA<|Sq ?_;refine aQ (t:=2) (n:=26) (X:=(((bS o.id&&!decide (dZ o.kind=sNil))&&Qj o)&&sE o.tags)&&O3 o) ?_ ?_
 ·all_goals refine Dd (aV oW) ?_
  all_goals refine Dd (bD isAgg9)<|Dd (kc gB (kN o.id _ f.1))<|Dm ?_<;>(refine Sp 17 (fun d=>?_) fun d=>?_)<;>(first|contradiction|refine Fo<|Fo<|Fo<|Fo ?_|refine On (aV dW)<|On (bD isAgg3)<|On (kc vp (ER o.kind _))<|On DH ?_)<;>refine Dd cD<|Dm ?_<;>(refine Sp 23 (fun b=>?_) fun b=>?_)<;>(first|contradiction|refine Fo ?_|refine On aC ?_)<;>refine Dd cD<|Dm ?_<;>(refine Sp 26 (fun e=>?_) fun e=>?_)<;>(first|contradiction|refine Fo<|Fo<|Fo ?_|refine On (aV eT)<|On (bD cU)<|On (kc call254 (mn o.tags _ f.2.1)) ?_)<;>refine Dd cD<|Dm ?_<;>(refine Sp 31 (fun c=>?_) fun c=>?_)<;>(first|contradiction|refine Fo<|Fo ?_|refine On (by exact aM rfl bZ sizeOf151 rfl rfl rfl rfl (by simp only[Zl,bM,bG,encStr];rfl) rfl)<|On (kc call255 (mq o _ f)) ?_)<;>refine Dd cD<|Da ?_<;>(exact⟨⟨_,rfl,by simp_all⟩,rfl,rfl,rfl⟩)
 exact aB<|Rt<|Qq
def W9{α:Type}(e:α->α->Bool)(a b:List α):Bool:=decide (a.length=b.length)&&(List.range a.length).all fun k=>match a[k]?,b[k]? with|some x,some y=>e x y|_,_=>true
theorem bb{e}(he:∀x y,e x y=true↔x=y){a b:List α}:W9 e a b=true↔a=b:=by
 constructor
 ·intro h;simp[W9,aCo,aCm,List.all_eq_true,List.mem_range]at h;apply List.ext_getElem h.1
  grind
 simp[W9,aCo,aCm,List.all_eq_true,List.mem_range,true_and]
 simp_all
theorem bc{e}{a b}{k:Nat}{x y:α}(hx:a[k]?=some x)(hy:b[k]?=some y)(h:e x y=false):W9 e a b=false:=by
 rw[W9]
 grind
theorem UN{e}{a b:List α}(hl:a.length=b.length)(h:∀k,k<a.length->∀x y,a[k]?=some x->b[k]?=some y->e x y=true):W9 e a b=true:=by
 simp[W9,aCo,aCm,List.all_eq_true,List.mem_range]
 simp_all
def LJ(a b:ByteArray):Bool:=decide (a=b)
theorem qk(a b):LJ a b=true↔a=b:=by simp[LJ]
def GR(a b:GObj):Bool:=decide (a.id=b.id)&&decide (a.kind=b.kind)&&(decide (a.x=b.x)&&decide (a.y=b.y))&&decide (a.refs.length=b.refs.length)&&decide (a.tags.length=b.tags.length)
def KS(a b:GObj):Bool:=GR a b&&(W9 LJ a.refs b.refs&&W9 vD a.tags b.tags)
theorem iu{a b}:KS a b=true↔a=b:=by
 rw[KS,aCo,aCo,bb qk,bb SY];cases a;cases b;simp[GR,aCo,aCm,GObj.mk.injEq]
 grind
def P6(a b:GObj)(n1 n2 n3 n4:Int):Bool:=!decide (a.id=b.id)||!decide (a.kind=b.kind)||!(decide (a.x=b.x)&&decide (a.y=b.y))||!decide (n1=n2)||!decide (n3=n4)
theorem UC(a b):P6 a b ((a.refs.map encStr).length) ((b.refs.map encStr).length) ((a.tags.map bM).length) ((b.tags.map bM).length)=!GR a b:=by simp[P6,GR,aCf,Bool.not_and,Int.natCast_inj]
theorem zb(a b:GObj)(H:aG)(ha:a.refs.length<4611686018427387904)(ha2:a.tags.length<4611686018427387904):RC 179 [av (bG a),av (bG b)] (bv (KS a b)) H:=by
 refine Pu ?_;have hra:(a.refs.map encStr).length=a.refs.length:=aCf _;have hta:(a.tags.map bM).length=a.tags.length:=aCf _;refine Bd func179 rfl ntmps179<|Sd (kb 2)<|Dd (kb 3)<|Zd aH<|Sq<|Sq ?_;refine aQ (t:=43) (n:=41) (X:=P6 a b ((a.refs.map encStr).length:Int) ((b.refs.map encStr).length:Int) ((a.tags.map bM).length:Int) ((b.tags.map bM).length:Int)) ?_ ?_
 ·all_goals refine Dd (aV oW) ?_
  all_goals refine Dd (bD isAgg9)<|Dd (aV oW)<|Dd (bD isAgg9)<|Dd DH<|Dm ?_<;>(refine Sp 12 (fun E=>?_) fun E=>?_)<;>(first|contradiction|refine Fo<|Fo<|Fo<|Fo<|Fo ?_|refine On (aV dW)<|On (bD isAgg3)<|On (aV dW)<|On (bD isAgg3)<|On rI ?_)<;>refine Dd cD<|Dm ?_<;>(refine Sp 19 (fun A=>?_) fun A=>?_)<;>(first|contradiction|refine Fo<|Fo<|Fo<|Fo<|Fo ?_|refine On (aV lV)<|On (by exact aM rfl dO sizeOf68 rfl rfl rfl rfl (by simp only[Zl,bM,bG,encStr];rfl) rfl)<|On (aV lV)<|On (by exact aM rfl dO sizeOf68 rfl rfl rfl rfl (by simp only[Zl,bM,bG,encStr];rfl) rfl)<|On (by exact AJ rfl rfl rfl rfl rfl iV (VR _ _ _ _)) ?_)<;>refine Dd cD<|Dm ?_<;>(refine Sp 26 (fun z=>?_) fun z=>?_)<;>(first|contradiction|refine Fo<|Fo<|Fo<|Fo<|Fo<|Fo<|Fo ?_|refine On (aV dQ)<|On (bD aF)<|On (eR aD)<|On (aV dQ)<|On (bD aF)<|On (eR aD)<|On rI ?_)<;>refine Dd cD<|Dm ?_<;>(refine Sp 35 (fun w=>?_) fun w=>?_)<;>(first|contradiction|refine Fo<|Fo<|Fo<|Fo<|Fo<|Fo<|Fo ?_|refine On (aV eT)<|On (bD cU)<|On (eR cY)<|On (aV eT)<|On (bD cU)<|On (eR cY)<|On rI ?_)<;>refine Zd cD ?_<;>(exact⟨⟨_,rfl,by first|(simp only[P6, *];rfl)|(simp_all[P6];done)⟩,rfl,rfl,rfl⟩)
 refine Cn ?_ ?_<;>intro q
 ·rw[UC]at q;refine Sz aH<|aB<|Rt ?_;refine⟨?_,rfl⟩;have:GR a b=false:=by simp_all
  rw[KS,this];rfl
 rw[UC]at q;have F:GR a b=true:=by simp_all
 have hlens:a.refs.length=b.refs.length/\a.tags.length=b.tags.length:=by
  simp only[GR,aCo,aCm]at F;omega
 obtain ⟨B,D⟩:=hlens;rw[KS,F,Bool.true_and];refine aA<|Sq<|Sz aH<|aE ?_;refine bJ (σ:=Nat) (fun k=>([(2,.ref 2 0 0 0),(3,.ref 3 0 0 0),(5,iv (k:Int))],[(3,bx 6 151 ((bG b).map .pv)),(2,bx 6 151 ((bG a).map .pv))])) (fun k=>k<=a.refs.length/\∀j,j<k->∀x y,a.refs[j]?=some x->b.refs[j]?=some y->LJ x y=true) (fun k=>a.refs.length - k) 0 ⟨by omega,by omega⟩ ?_ ?_
 ·exact Wk
 rintro k ⟨I,s⟩;refine Sq<|Sd aC<|Dd (aV dQ)<|Dd (bD aF)<|Dd (eR aD)<|Zd cJ ?_;refine Cn ?_ ?_<;>intro v
 ·have hlt:k<a.refs.length:=by have:=aCb v;omega
  obtain ⟨x,n⟩:=aT hlt;obtain ⟨y,p⟩:=aT (l:=b.refs) (k:=k) (by omega);have N:=cE (f:=encStr) n;have C:=cE (f:=encStr) p;refine aA<|Sq<|aE<|Sq<|aL follows<|Cq (aV dQ)<|Cq (bD aF)<|Cq aC<|Cq (jE bT)<|Cq (fO isAgg9)<|Cq (aV dQ)<|Cq (bD aF)<|Cq aC<|Cq (jE bT)<|Cq (fO isAgg9)<|Cq DH<|bF<|Kr ?_;refine Cn ?_ ?_<;>intro t
  ·have u:LJ x y=false:=by
    have h:(!LJ x y)=true:=t
    simpa using h
   refine Sz aH<|aB<|Rt ?_;exact⟨by rw[bc n p u];rfl,rfl⟩
  have u:LJ x y=true:=by
   have h:(!LJ x y)=false:=t
   simpa using h
  refine aA<|Rd aC<|Dd iF<|Da ?_;refine⟨k+1,⟨by omega,fun j K G L M J=>?_⟩,by omega,Wk⟩
  grind
 have hge:k=a.refs.length:=by have:=aCc v;omega
 subst hge;rw[UN B s,Bool.true_and];refine aS<|Sq<|Sz aH<|aE ?_;refine bJ (σ:=Nat) (fun k=>([(2,.ref 2 0 0 0),(3,.ref 3 0 0 0),(6,iv (k:Int))],[(3,bx 6 151 ((bG b).map .pv)),(2,bx 6 151 ((bG a).map .pv))])) (fun k=>k<=a.tags.length/\∀j,j<k->∀x y,a.tags[j]?=some x->b.tags[j]?=some y->vD x y=true) (fun k=>a.tags.length - k) 0 ⟨by omega,by omega⟩ ?_ ?_
 ·exact Wk
 rintro k ⟨I,hall2⟩;refine Sq<|Sd aC<|Dd (aV eT)<|Dd (bD cU)<|Dd (eR cY)<|Zd cJ ?_;refine Cn ?_ ?_<;>intro m
 ·have hlt:k<a.tags.length:=by have:=aCb m;omega
  obtain ⟨x,n⟩:=aT hlt;obtain ⟨y,p⟩:=aT (l:=b.tags) (k:=k) (by omega);have N:=cE (f:=bM) n;have C:=cE (f:=bM) p;refine aA<|Sq<|aE<|Sq<|aL follows<|Cq (aV eT)<|Cq (bD cU)<|Cq aC<|Cq (jE jX)<|Cq (by exact dM rfl wD kW rfl (by omega) (by simp only[Zl,bM,bG,encStr];rfl) rfl)<|Cq (aV eT)<|Cq (bD cU)<|Cq aC<|Cq (jE jX)<|Cq (by exact dM rfl wD kW rfl (by omega) (by simp only[Zl,bM,bG,encStr];rfl) rfl)<|Cq (by exact AJ rfl rfl rfl rfl rfl eqGuardType199 (Pq _ _ _ _))<|bF<|Kr ?_;refine Cn ?_ ?_<;>intro o
  ·have u:vD x y=false:=by
    have h:(!vD x y)=true:=o
    simpa using h
   refine Sz aH<|aB<|Rt ?_;exact⟨by rw[bc n p u],rfl⟩
  have u:vD x y=true:=by
   have h:(!vD x y)=false:=o
   simpa using h
  refine aA<|Rd aC<|Dd iF<|Da ?_;refine⟨k+1,⟨by omega,fun j K G L M J=>?_⟩,by omega,Wk⟩
  grind
 have hge:k=a.tags.length:=by have:=aCc m;omega
 subst hge;refine aS<|Sz aH<|aB<|Rt ?_;exact⟨by rw[UN D hall2],rfl⟩
theorem tu(a b):KS a b=sF a b:=by rw[Bool.eq_iff_iff,iu,CC]
theorem mo(a b)(H)(d:a.refs.length<4611686018427387904)(c:a.tags.length<4611686018427387904):RC 179 [av (bG a),av (bG b)] (bv (sF a b)) H:=by rw[<-tu];exact zb a b H d c
def raw(e:GEdit)(s:ByteArray):Prop:=s=e.id\/s=e.other\/s=e.node\/s=e.obj.id\/s∈e.refs\/s∈e.obj.refs
def rb(b:GEdit):Bool:=((((((!decide (b.id=sNil)||!decide (b.other=sNil))||!decide (b.node=sNil))||!(decide (b.x=0)&&decide (b.y=0)))||!decide (b.key=sNil))||!decide (b.val=sNil))||decide ((0:Int)<((b.refs.map encStr).length:Int)))||!sF b.obj zObj
theorem GE(b):rb b=false↔(b.id=sNil/\b.other=sNil/\b.node=sNil/\(b.x=0/\b.y=0)/\b.key=sNil/\b.val=sNil/\b.refs=[]/\b.obj=zObj):=by
 have a:decide (0<((b.refs.map encStr).length))=false↔b.refs=[]:=by simp
 simp[rb,aDB,Bool.not_eq_false',aCo,aCm,a,CC];constructor;all_goals simp_all
theorem uU(x y):Bl x y=W4 x y:=by rw[Bool.eq_iff_iff];simp[Bl,W4,aCo,aCm];omega
theorem DS:(sNil.size:Int)<=200:=by decide
def Ga(e:GEdit):GEdit:=⟨e.op,e.id,e.other,e.node,e.x,e.y,e.key,e.val,e.refs,zObj⟩
theorem ed1(e)(ho:e.op=1):dT e=(!rb (Ga e)&&nA e.obj):=by
 obtain ⟨op,id,a,b,x,y,g,f,c,d⟩:=e;have h:=GE (Ga ⟨1,id,a,b,x,y,g,f,c,d⟩);rw[Bool.eq_iff_iff];simp[Ga]at h |-;simp[dT,aCo,aCy,h,oM,uU,rY,BC]
 grind
def Fy(e:GEdit):GEdit:=⟨e.op,sNil,e.other,e.node,0,0,e.key,e.val,e.refs,e.obj⟩
theorem ed2(e)(ho:e.op=2):dT e=(!rb (Fy e)&&([e.id].all bS&&(decide ((e.val.size:Int)<=200)&&W4 e.x e.y))):=by
 obtain ⟨op,id,a,b,x,y,g,f,c,d⟩:=e;have i:=GE (Fy ⟨2,id,a,b,x,y,g,f,c,d⟩);rw[Bool.eq_iff_iff];simp[Fy]at i |-;simp[dT,aCo,aCy,i,oM,uU,rY,BC];simp only[Int.reduceEq,if_true,if_false,reduceIte,Int.reduceLE,decide_true,GEdit.mk.injEq,true_and,and_true,List.all_cons,List.all_nil,Bool.and_true,aCo,uU,aCm,aCy,aDB,aCn,aCf,eq_comm,eq_comm,eq_comm,eq_comm];constructor
 ·intro h;have hs:=DS
  simp_all
 simp_all
def Fx(e:GEdit):GEdit:=⟨e.op,sNil,e.other,e.node,e.x,e.y,sNil,sNil,e.refs,e.obj⟩
theorem ed3(e)(ho:e.op=3):dT e=(!rb (Fx e)&&([e.id,e.key].all bS&&decide ((e.val.size:Int)<=200))):=by
 obtain ⟨op,id,a,b,x,y,g,f,c,d⟩:=e;have h:=GE (Fx ⟨3,id,a,b,x,y,g,f,c,d⟩);rw[Bool.eq_iff_iff];simp[Fx]at h |-;simp[dT,aCo,aCy,h,oM,uU,rY,BC]
 grind
def Fw(e:GEdit):GEdit:=⟨e.op,sNil,e.other,e.node,e.x,e.y,e.key,e.val,[],e.obj⟩
theorem ed4(e)(ho:e.op=4):dT e=(!rb (Fw e)&&((e.id::e.refs).all bS&&(!(decide (((e.refs.map encStr).length:Int)<1)||decide (2000<((e.refs.map encStr).length:Int)))&&decide ((e.val.size:Int)<=200)))):=by
 obtain ⟨op,id,b,c,x,y,i,f,d,g⟩:=e;have j:=GE (Fw ⟨4,id,b,c,x,y,i,f,d,g⟩);rw[Bool.eq_iff_iff];simp[Fw]at j |-;simp[dT,aCo,aCy,j,oM,uU,rY,BC];simp only[Int.reduceEq,if_true,if_false,reduceIte,Int.reduceLE,decide_true,GEdit.mk.injEq,true_and,and_true,List.all_cons,List.all_nil,Bool.and_true,aCo,uU,aCm,aCy,aDB,aCn,aCf,eq_comm,eq_comm,eq_comm,eq_comm];constructor
 ·intro h;have hs:=DS
  simp_all
  omega
 grind
def Fv(e:GEdit):GEdit:=⟨e.op,sNil,e.other,e.node,e.x,e.y,e.key,e.val,e.refs,e.obj⟩
theorem ed5(e)(i:e.op=5):dT e=(!rb (Fv e)&&([e.id].all bS&&decide ((e.val.size:Int)<=200))):=by
 obtain ⟨op,id,a,b,x,y,g,f,c,d⟩:=e;subst i;have h:=GE (Fv ⟨5,id,a,b,x,y,g,f,c,d⟩);rw[Bool.eq_iff_iff];simp[Fv]at h |-;simp[dT,aCo,aCy,h,oM,uU,rY,BC];simp only[Int.reduceEq,if_true,if_false,reduceIte,Int.reduceLE,decide_true,GEdit.mk.injEq,true_and,and_true,List.all_cons,List.all_nil,Bool.and_true,aCo,uU,aCm,aCy,aDB,aCn,aCf,eq_comm,eq_comm,eq_comm,eq_comm];constructor
 ·have hs:=DS
  simp_all
 simp_all
def Ft(e:GEdit):GEdit:=⟨e.op,sNil,sNil,sNil,e.x,e.y,e.key,e.val,e.refs,e.obj⟩
theorem ed6(e)(i:e.op=6):dT e=(!rb (Ft e)&&([e.id,e.node,e.other].all bS&&decide ((e.val.size:Int)<=200))):=by
 obtain ⟨op,id,a,b,x,y,g,f,c,d⟩:=e;subst i;have h:=GE (Ft ⟨6,id,a,b,x,y,g,f,c,d⟩);rw[Bool.eq_iff_iff];simp[Ft]at h |-;simp[dT,aCo,aCy,h,oM,uU,rY,BC];simp only[Int.reduceEq,if_true,if_false,reduceIte,Int.reduceLE,decide_true,GEdit.mk.injEq,true_and,and_true,List.all_cons,List.all_nil,Bool.and_true,aCo,uU,aCm,aCy,aDB,aCn,aCf,eq_comm,eq_comm,eq_comm,eq_comm];constructor
 ·have hs:=DS
  simp_all
 simp_all
def Fq(e:GEdit):GEdit:=⟨e.op,sNil,sNil,e.node,e.x,e.y,e.key,e.val,e.refs,e.obj⟩
theorem ed7(e)(i:e.op=7):dT e=(!rb (Fq e)&&([e.id,e.other].all bS&&decide ((e.val.size:Int)<=200))):=by
 obtain ⟨op,id,a,b,x,y,g,f,c,d⟩:=e;subst i;have h:=GE (Fq ⟨7,id,a,b,x,y,g,f,c,d⟩);rw[Bool.eq_iff_iff];simp[Fq]at h |-;simp[dT,aCo,aCy,h,oM,uU,rY,BC];simp only[Int.reduceEq,if_true,if_false,reduceIte,Int.reduceLE,decide_true,GEdit.mk.injEq,true_and,and_true,List.all_cons,List.all_nil,Bool.and_true,aCo,uU,aCm,aCy,aDB,aCn,aCf,eq_comm,eq_comm,eq_comm,eq_comm];constructor
 ·have hs:=DS
  simp_all
 simp_all
abbrev pS(l:List ByteArray):List (List AV):=l.map (fun s=>(encStr s).map .pv)
theorem yE(l m):pS l++(m.map encStr).map (·.map .pv)=pS (l++m):=by simp
theorem vN(H)(l):∀r∈pS l,∀a∈r,Clo H a:=pf _ _ _
theorem HK(l:List _):∀r∈l.map encStr,r.length=1:=fun r a=>by
 obtain ⟨o,_,rfl⟩:=List.mem_map.1 a;rfl
def bI(e:GEdit):ByteArray:=if e.op=1 then e.id else sNil
def bB(e:GEdit):GObj:=if e.op=1 then zObj else e.obj
def bX(e:GEdit):Int:=if e.op=2 then 0 else e.x
def bY(e:GEdit):Int:=if e.op=2 then 0 else e.y
def bK(e:GEdit):ByteArray:=if e.op=3 then sNil else e.key
def bV(e:GEdit):ByteArray:=if e.op=3 then sNil else e.val
def bR(e:GEdit):List ByteArray:=if e.op=4 then[]else e.refs
def bN(e:GEdit):ByteArray:=if e.op=6 then sNil else e.node
def bO(e:GEdit):ByteArray:=if(decide (e.op=6)||decide (e.op=7))=true then sNil else e.other
def vK(e:GEdit):GEdit:=⟨e.op,bI e,bO e,bN e,bX e,bY e,bK e,bV e,bR e,bB e⟩
abbrev bE(e:GEdit):Ob:=bx 15 153 ((aZ e).map .pv)
def Wl:GEdit:=⟨0,sNil,sNil,sNil,0,0,sNil,sNil,[],zObj⟩
theorem Vq(e:GEdit)(H:aG):RC 219 [av (aZ e)] (av (aZ (vK e))) H:=by
 refine Pu ?_;rw[vK];obtain ⟨i,z⟩:∃x,x=bI e:=⟨_,rfl⟩;obtain ⟨b,t⟩:∃x,x=bB e:=⟨_,rfl⟩;obtain ⟨x,p⟩:∃x,x=bX e:=⟨_,rfl⟩;obtain ⟨y,s⟩:∃x,x=bY e:=⟨_,rfl⟩;obtain ⟨k,A⟩:∃x,x=bK e:=⟨_,rfl⟩;obtain ⟨v,w⟩:∃x,x=bV e:=⟨_,rfl⟩;obtain ⟨r,q⟩:∃x,x=bR e:=⟨_,rfl⟩;obtain ⟨n,u⟩:∃x,x=bN e:=⟨_,rfl⟩;obtain ⟨o,B⟩:∃x,x=bO e:=⟨_,rfl⟩;rw[<-z,<-t,<-p,<-s,<-A,<-w,<-q,<-u,<-B];refine Bd func219 rfl ntmps219<|Sd (kb 1)<|Zd (kl 2 N2) ?_;refine eV (fun(_:Unit)=>([(1,.ref 1 0 0 0),(2,.ref 2 0 0 0)],[(1,bE ⟨e.op,i,e.other,e.node,e.x,e.y,e.key,e.val,e.refs,b⟩),(2,bE Wl)])) (fun _=>True) ?_ ?_
 ·refine Sd (aV gN)<|Dd (bD isAgg3)<|Zd cF ?_;refine Cn ?_ ?_<;>intro j
  ·have h:=aCb j
   (rw[z,t,bI,bB,aCe h,aCe h])
   refine Rd (nP D7)<|Dd (aV oV)<|Uu (by exact mT rfl sizeOf151 rfl rfl rfl rfl rfl rfl rfl (aCs rfl) rfl rfl)<|Zz ?_;exact⟨(),trivial,Wk⟩
  have h:=aCc j
  (rw[z,t,bI,bB,aCd h,aCd h])
  refine Rd (aV iE)<|Uu (ku sizeOf9)<|Zz ?_;exact⟨(),trivial,Wk⟩
 rintro _ -;refine eV (fun(_:Unit)=>([(1,.ref 1 0 0 0),(2,.ref 2 0 0 0)],[(1,bE ⟨e.op,i,e.other,e.node,x,y,e.key,e.val,e.refs,b⟩),(2,bE Wl)])) (fun _=>True) ?_ ?_
 ·refine Sd (aV gN)<|Dd (bD isAgg3)<|Zd cF ?_;refine Cn ?_ ?_<;>intro l
  ·have h:=aCb l
   (rw[p,s,bX,bY,aCe h,aCe h])
   refine Rd (nP SK)<|Dd (aV iD)<|Uu (by exact mT rfl sizeOf68 rfl rfl rfl rfl rfl rfl rfl (aCs rfl) rfl rfl)<|Zz ?_;exact⟨(),trivial,Wk⟩
  have h:=aCc l
  (rw[p,s,bX,bY,aCd h,aCd h])
  refine aA ?_;exact⟨(),trivial,Wk⟩
 rintro _ -;refine eV (fun(_:Unit)=>([(1,.ref 1 0 0 0),(2,.ref 2 0 0 0)],[(1,bE ⟨e.op,i,e.other,e.node,x,y,k,v,e.refs,b⟩),(2,bE Wl)])) (fun _=>True) ?_ ?_
 ·refine Sd (aV gN)<|Dd (bD isAgg3)<|Zd cF ?_;refine Cn ?_ ?_<;>intro f
  ·have h:=aCb f
   (rw[A,w,bK,bV,aCe h,aCe h])
   refine Sd (aV kQ)<|Uu (ku sizeOf9)<|Zz<|Rd (aV lG)<|Uu (ku sizeOf9)<|Zz ?_;exact⟨(),trivial,Wk⟩
  have h:=aCc f
  (rw[A,w,bK,bV,aCd h,aCd h])
  refine aA ?_;exact⟨(),trivial,Wk⟩
 rintro _ -;refine eV (fun(_:Unit)=>([(1,.ref 1 0 0 0),(2,.ref 2 0 0 0)],[(1,bE ⟨e.op,i,e.other,e.node,x,y,k,v,r,b⟩),(2,bE Wl)])) (fun _=>True) ?_ ?_
 ·refine Sd (aV gN)<|Dd (bD isAgg3)<|Zd cF ?_;refine Cn ?_ ?_<;>intro c
  ·have h:=aCb c
   (rw[q,bR,aCe h])
   refine Rd (aV fB)<|Uu (ku sizeOf22)<|Zz ?_;exact⟨(),trivial,Wk⟩
  have h:=aCc c
  (rw[q,bR,aCd h])
  refine aA ?_;exact⟨(),trivial,Wk⟩
 rintro _ -;refine eV (fun(_:Unit)=>([(1,.ref 1 0 0 0),(2,.ref 2 0 0 0)],[(1,bE ⟨e.op,i,e.other,n,x,y,k,v,r,b⟩),(2,bE Wl)])) (fun _=>True) ?_ ?_
 ·refine Sd (aV gN)<|Dd (bD isAgg3)<|Zd cF ?_;refine Cn ?_ ?_<;>intro d
  ·have h:=aCb d
   (rw[u,bN,aCe h])
   refine Rd (aV nC)<|Uu (ku sizeOf9)<|Zz ?_;exact⟨(),trivial,Wk⟩
  have h:=aCc d
  (rw[u,bN,aCd h])
  refine aA ?_;exact⟨(),trivial,Wk⟩
 rintro _ -;refine eV (fun(_:Unit)=>([(1,.ref 1 0 0 0),(2,.ref 2 0 0 0)],[(1,bE ⟨e.op,i,o,n,x,y,k,v,r,b⟩),(2,bE Wl)])) (fun _=>True) ?_ ?_
 ·refine Sq ?_;refine aQ (t:=34) (n:=9) (X:=decide (e.op=6)||decide (e.op=7)) ?_ ?_
  ·all_goals refine Dd (aV gN) ?_
   all_goals refine Dd (bD isAgg3)<|Dd cF<|Dm ?_<;>(refine Sp 30 (fun m=>?_) fun m=>?_)<;>(first|contradiction|refine Fo<|Fo<|Fo ?_|refine On (aV gN)<|On (bD isAgg3)<|On cF ?_)<;>refine Zd cD ?_<;>(exact⟨⟨_,rfl,by simp_all⟩,rfl,rfl,rfl⟩)
  refine Cn ?_ ?_<;>intro g
  ·have h:=g;rw[B,bO,aCe h];refine Rd (aV iL)<|Uu (ku sizeOf9)<|Zz ?_;exact⟨(),trivial,Wk⟩
  have h:=g;rw[B,bO,aCd (by simp_all)];refine aA ?_;exact⟨(),trivial,Wk⟩
 rintro _ -;refine Sd (kY bW aR)<|Uu (iP aR)<|Zz<|aB ?_;refine dA (H':=[]) (.inr rfl) rfl (BT bW aR) (Fin.wk (r:=av (aZ ⟨e.op,i,o,n,x,y,k,v,r,b⟩)) (by simp) trivial trivial) ?_;exact Qq
def TV(e:GEdit):List ByteArray:=if e.op=3 then[e.id]++[e.key]else[e.id]
def WT(e:GEdit):List ByteArray:=if e.op=4 then TV e++e.refs else TV e
def X4(e:GEdit):List ByteArray:=if e.op=6 then WT e++[e.node]else WT e
def Lm(e:GEdit):List ByteArray:=if(decide (e.op=6)||decide (e.op=7))=true then X4 e++[e.other]else X4 e
def aA4(e:GEdit):Bool:=decide (((e.refs.map encStr).length:Int)<1)||decide (2000<((e.refs.map encStr).length:Int))
def vG(e:GEdit):Bool:=!rb (vK e)&&(if e.op=1 then nA e.obj else(Lm e).all bS&&(!(decide (e.op=4)&&aA4 e)&&(decide ((e.val.size:Int)<=200)&&(!decide (e.op=2)||W4 e.x e.y))))
theorem Xk(e)(h:1<=e.op/\e.op<=7):dT e=vG e:=by
 obtain ⟨a,id,other,node,x,y,key,val,refs,obj⟩:=e;simp only at h;rcases(by omega:a=1\/a=2\/a=3\/a=4\/a=5\/a=6\/a=7)with rfl|rfl|rfl|rfl|rfl|rfl|rfl
 ·rw[ed1 _ rfl];rfl
 ·rw[ed2 _ rfl];rfl
 ·rw[ed3 _ rfl,vG];show _=(_&&(_&&(true&&(_&&true))));rw[Bool.and_true];rfl
 ·rw[ed4 _ rfl,vG];show _=(_&&(_&&(!(true&&_)&&(_&&true))));rw[Bool.and_true];rfl
 ·rw[ed5 _ rfl,vG];show _=(_&&(_&&(true&&(_&&true))));rw[Bool.and_true];rfl
 ·rw[ed6 _ rfl,vG];show _=(_&&(_&&(true&&(_&&true))));rw[Bool.and_true];rfl
 rw[ed7 _ rfl,vG];show _=(_&&(_&&(true&&(_&&true))));rw[Bool.and_true];rfl
theorem nh(e):(Lm e).length<=e.refs.length+5:=by
 rw[Lm,X4,WT,TV]
 grind
theorem Lq(e):(TV e).length<=e.refs.length+5:=by rw[TV];all_goals grind
theorem Lo(e):(WT e).length<=e.refs.length+5:=by
 rw[WT,TV]
 grind
theorem Ln(e):(X4 e).length<=e.refs.length+5:=by
 rw[X4,WT,TV]
 grind
theorem IP{P:α->Prop}{p}[Decidable p](ha:∀s∈a,P s)(hb:∀s∈b,P s):∀s∈(if p then a else b),P s:=by grind
theorem IQ{P:α->Prop}(c:∀s∈a,P s)(d:∀s∈b,P s):∀s∈a++b,P s:=fun s e=>(List.mem_append.1 e).elim (c s) (d s)
theorem DU{P:α->Prop}{a}(h:P a):∀s∈[a],P s:=fun s hs=>by
 simp_all
theorem Ll{e}(j:KD e):∀s∈Lm e,s.size<4611686018427387904:=by obtain ⟨⟨d,i,f,h⟩,⟨h5,g⟩,h7⟩:=j;have c:∀s∈TV e,s.size<4611686018427387904:=IP (IQ (DU d) (DU h)) (DU d);have b:∀s∈WT e,s.size<4611686018427387904:=IP (IQ c g) c;have a:∀s∈X4 e,s.size<4611686018427387904:=IP (IQ b (DU f)) b;exact IP (IQ a (DU i)) a
def Pz(e:GEdit):List ByteArray:=[e.id]
theorem rn(e:GEdit)(H:aG)(he:KD e)(hr:e.refs.length<1099511627776):RC 183 [av (aZ e)] (bv (dT e)) H:=by
 refine Pu ?_;have hnm:=Ll he;have hnl:=nh e;have hrl:(e.refs.map encStr).length=e.refs.length:=aCf _;have hbo:(vK e).obj.refs.length<4611686018427387904/\(vK e).obj.tags.length<4611686018427387904:=by
  show (bB e).refs.length<_/\(bB e).tags.length<_;rw[bB]
  split
  ·exact⟨by decide,by decide⟩
  exact⟨he.2.2.2.2.1,he.2.2.2.1.1⟩
 refine Bd func183 rfl ntmps183<|Sd (kb 1)<|Zd aH<|Sq<|Sq ?_;refine aQ (t:=13) (n:=9) (X:=decide (e.op<1)||decide (7<e.op)) ?_ ?_
 ·all_goals refine Dd (aV gN) ?_
  all_goals refine Dd (bD isAgg3)<|Dd cJ<|Dm ?_<;>(refine Sp 9 (fun h9=>?_) fun h9=>?_)<;>(first|contradiction|refine Fo<|Fo<|Fo ?_|refine On (aV gN)<|On (bD isAgg3)<|On gX ?_)<;>refine Zd cD ?_<;>(exact⟨⟨_,rfl,by grind⟩,rfl,rfl,rfl⟩)
 refine Cn ?_ ?_<;>intro hc1
 ·have h:=hc1;have hs:dT e=false:=by
   simp only[Bool.or_eq_true,aCm]at h;rw[dT,Bool.and_eq_false_iff,Bool.and_eq_false_iff,aCn,aCn];omega
  rw[hs];exact Sz aH<|aB<|Rt<|Qq
 have h:=hc1;simp only[aDB,aCn]at h;rw[Xk e (by omega),vG];have hrb:rb (vK e)=(((((((!decide ((vK e).id=sNil)||!decide ((vK e).other=sNil))||!decide ((vK e).node=sNil))||!(decide ((vK e).x=0)&&decide ((vK e).y=0)))||!decide ((vK e).key=sNil))||!decide ((vK e).val=sNil))||decide ((0:Int)<(((vK e).refs.map encStr).length:Int)))||!sF (vK e).obj zObj):=rfl;have hbc:=fun H=>Vq e H;obtain ⟨G,hG⟩:∃G,G=vK e:=⟨_,rfl⟩;simp only[<-hG]at hrb hbo hbc;rw[<-hG];clear hG;obtain ⟨g0,g1,g2,g3,g4,g5,g6,g7,g8,g9⟩:=G;simp only at hrb hbo;refine aA<|Sd (by exact aM rfl bW aR rfl rfl rfl rfl (by simp only[Zl,bM,bG,encStr,aZ,zObj];rfl) rfl)<|Dd (kc call219 (hbc _))<|Dd (kl 3 N2)<|Uu (iP aR)<|Zz<|Sq<|Sq ?_;refine aQ (t:=57) (n:=49) (X:=rb ⟨g0,g1,g2,g3,g4,g5,g6,g7,g8,g9⟩) ?_ ?_
 ·all_goals refine Dd (aV iE) ?_
  all_goals refine Dd (bD isAgg9)<|Dd DH<|Dm ?_<;>(refine Sp 19 (fun h19=>?_) fun h19=>?_)<;>(try(with_reducible contradiction))<;>(first|refine Fo<|Fo<|Fo ?_|refine On (aV iL)<|On (bD isAgg9)<|On DH ?_)<;>refine Dd cD<|Dm ?_<;>(refine Sp 24 (fun h24=>?_) fun h24=>?_)<;>(try(with_reducible contradiction))<;>(first|refine Fo<|Fo<|Fo ?_|refine On (aV nC)<|On (bD isAgg9)<|On DH ?_)<;>refine Dd cD<|Dm ?_<;>(refine Sp 29 (fun h29=>?_) fun h29=>?_)<;>(try(with_reducible contradiction))<;>(first|refine Fo<|Fo<|Fo<|Fo ?_|refine On (aV iD)<|On (by exact aM rfl dO sizeOf68 rfl rfl rfl rfl (by simp only[Zl,bM,bG,encStr,aZ,zObj];rfl) rfl)<|On (nP SK)<|On (by exact AJ rfl rfl rfl rfl rfl iV (VR _ _ _ _)) ?_)<;>refine Dd cD<|Dm ?_<;>(refine Sp 35 (fun h35=>?_) fun h35=>?_)<;>(try(with_reducible contradiction))<;>(first|refine Fo<|Fo<|Fo ?_|refine On (aV kQ)<|On (bD isAgg9)<|On DH ?_)<;>refine Dd cD<|Dm ?_<;>(refine Sp 40 (fun h40=>?_) fun h40=>?_)<;>(try(with_reducible contradiction))<;>(first|refine Fo<|Fo<|Fo ?_|refine On (aV lG)<|On (bD isAgg9)<|On DH ?_)<;>refine Dd cD<|Dm ?_<;>(refine Sp 45 (fun h45=>?_) fun h45=>?_)<;>(try(with_reducible contradiction))<;>(first|refine Fo<|Fo<|Fo<|Fo ?_|refine On (aV fB)<|On (bD aF)<|On (eR aD)<|On gX ?_)<;>refine Dd cD<|Dm ?_<;>(refine Sp 51 (fun h51=>?_) fun h51=>?_)<;>(try(with_reducible contradiction))<;>(first|refine Fo<|Fo<|Fo<|Fo<|Fo ?_|refine On (aV oV)<|On (by exact aM rfl bZ sizeOf151 rfl rfl rfl rfl (by simp only[Zl,bM,bG,encStr,aZ,zObj];rfl) rfl)<|On (nP D7)<|On (kc call179 (mo g9 zObj _ hbo.1 hbo.2))<|On iJ ?_)<;>refine Zd cD ?_<;>(exact⟨⟨_,rfl,by simp_all⟩,rfl,rfl,rfl⟩)
 refine Cn ?_ ?_<;>intro hc2
 ·have h2:=hc2;rw[h2,Bool.not_true,Bool.false_and];exact Sz aH<|aB<|Rt<|Qq
 have h2:=hc2;rw[h2,Bool.not_false,Bool.true_and];clear hrb hbo h2;refine aA<|Sq<|Sd (aV gN)<|Dd (bD isAgg3)<|Zd cF ?_;refine Cn ?_ ?_<;>intro hc3
 ·have h3:e.op=1:=aCb hc3;rw[aCe h3];exact Sd (aV oV)<|Dd (by exact aM rfl bZ sizeOf151 rfl rfl rfl rfl (by simp only[Zl,bM,bG,encStr,aZ,zObj];rfl) rfl)<|Dd (kc call220 (Aa e.obj _ he.2.2))<|Zd aH<|aB<|Rt<|Qq
 have h3:¬ e.op=1:=aCc hc3;rw[aCd h3];refine aA<|Sd (aV iE)<|Dd (bD isAgg9)<|Dd (by exact fW (id:=66) rfl bT rfl rfl rfl rfl (by simp) rfl)<|Da ?_;refine eV (fun(g:Nat)=>([(1,.ref 1 0 0 0),(4,.osl 66 g 0 (TV e).length)],[(1,bE e),(66,⟨g,1,9,pS (TV e)⟩)])) (fun _=>True) ?_ ?_
 ·refine Sd (aV gN)<|Dd (bD isAgg3)<|Zd cF ?_;refine Cn ?_ ?_<;>intro hc4
  ·have h:=aCb hc4;have hm:TV e=Pz e++[e.key]:=aCe h;have hl:(Pz e).length+([e.key]).length=(Pz e++[e.key]).length:=aCg.symm;have hb:(Pz e++[e.key]).length<8796093022208:=by rw[<-hm];have:=Lq e;omega
   rw[hm];refine Rd aC<|Dd (aV kQ)<|Dd (bD isAgg9)<|Dd (by exact aN [encStr e.key] rfl bT rfl rfl rfl rfl rfl (by simp[encStr]))<|Dd (by exact cG (ps:=([e.key]).map encStr) rfl bT zT rfl rfl rfl rfl rfl (show (pS (Pz e)).length=(Pz e).length from aCf _) rfl (HK _) (m:=([e.key]).length) (aCf _) (by omega) hl (yE (Pz e) [e.key]))<|Da ?_;exact⟨0+1,trivial,(cQ.wk (Ea<|Ea<|trivial) (Hb<|Hc (vN _ _)<|trivial) trivial)⟩
  have h:=hc4;have hm:TV e=Pz e:=aCd (by exact aCc h);rw[hm];refine aA ?_;exact⟨0,trivial,Wk⟩
 rintro g -;refine eV (fun(g:Nat)=>([(1,.ref 1 0 0 0),(4,.osl 66 g 0 (WT e).length)],[(1,bE e),(66,⟨g,1,9,pS (WT e)⟩)])) (fun _=>True) ?_ ?_
 ·refine Sd (aV gN)<|Dd (bD isAgg3)<|Zd cF ?_;refine Cn ?_ ?_<;>intro hc5
  ·have h:=aCb hc5;have hm:WT e=TV e++e.refs:=aCe h;have hl:(TV e).length+(e.refs).length=(TV e++e.refs).length:=aCg.symm;have hb:(TV e++e.refs).length<8796093022208:=by rw[<-hm];have:=Lo e;omega
   rw[hm];refine Rd aC<|Dd (aV fB)<|Dd (bD aF)<|Dd (by exact cG (ps:=(e.refs).map encStr) rfl bT zT rfl rfl rfl rfl rfl (show (pS (TV e)).length=(TV e).length from aCf _) rfl (HK _) (m:=(e.refs).length) (aCf _) (by omega) hl (yE (TV e) e.refs))<|Da ?_;exact⟨g+1,trivial,(cQ.wk (Ea<|Ea<|trivial) (Hb<|Hc (vN _ _)<|trivial) trivial)⟩
  have h:=hc5;have hm:WT e=TV e:=aCd (by exact aCc h);rw[hm];refine aA ?_;exact⟨g,trivial,Wk⟩
 rintro g -;refine eV (fun(g:Nat)=>([(1,.ref 1 0 0 0),(4,.osl 66 g 0 (X4 e).length)],[(1,bE e),(66,⟨g,1,9,pS (X4 e)⟩)])) (fun _=>True) ?_ ?_
 ·refine Sd (aV gN)<|Dd (bD isAgg3)<|Zd cF ?_;refine Cn ?_ ?_<;>intro hc6
  ·have h:=aCb hc6;have hm:X4 e=WT e++[e.node]:=aCe h;have hl:(WT e).length+([e.node]).length=(WT e++[e.node]).length:=aCg.symm;have hb:(WT e++[e.node]).length<8796093022208:=by rw[<-hm];have:=Ln e;omega
   rw[hm];refine Rd aC<|Dd (aV nC)<|Dd (bD isAgg9)<|Dd (by exact aN [encStr e.node] rfl bT rfl rfl rfl rfl rfl (by simp[encStr]))<|Dd (by exact cG (ps:=([e.node]).map encStr) rfl bT zT rfl rfl rfl rfl rfl (show (pS (WT e)).length=(WT e).length from aCf _) rfl (HK _) (m:=([e.node]).length) (aCf _) (by omega) hl (yE (WT e) [e.node]))<|Da ?_;exact⟨g+1,trivial,(cQ.wk (Ea<|Ea<|trivial) (Hb<|Hc (vN _ _)<|trivial) trivial)⟩
  have h:=hc6;have hm:X4 e=WT e:=aCd (by exact aCc h);rw[hm];refine aA ?_;exact⟨g,trivial,Wk⟩
 rintro g -;refine eV (fun(g:Nat)=>([(1,.ref 1 0 0 0),(4,.osl 66 g 0 (Lm e).length)],[(1,bE e),(66,⟨g,1,9,pS (Lm e)⟩)])) (fun _=>True) ?_ ?_
 ·refine Sq ?_;refine aQ (t:=97) (n:=9) (X:=decide (e.op=6)||decide (e.op=7)) ?_ ?_
  ·all_goals refine Dd (aV gN) ?_
   all_goals refine Dd (bD isAgg3)<|Dd cF<|Dm ?_<;>(refine Sp 93 (fun h93=>?_) fun h93=>?_)<;>(try(with_reducible contradiction))<;>(first|refine Fo<|Fo<|Fo ?_|refine On (aV gN)<|On (bD isAgg3)<|On cF ?_)<;>refine Zd cD ?_<;>(exact⟨⟨_,rfl,by(rw[h93];rfl)⟩,rfl,rfl,rfl⟩)
  refine Cn ?_ ?_<;>intro hc7
  ·have h:=id hc7;have hm:Lm e=X4 e++[e.other]:=aCe h;have hl:(X4 e).length+([e.other]).length=(X4 e++[e.other]).length:=aCg.symm;have hb:(X4 e++[e.other]).length<8796093022208:=by rw[<-hm];have:=nh e;omega
   rw[hm];refine Rd aC<|Dd (aV iL)<|Dd (bD isAgg9)<|Dd (by exact aN [encStr e.other] rfl bT rfl rfl rfl rfl rfl (by simp[encStr]))<|Dd (by exact cG (ps:=([e.other]).map encStr) rfl bT zT rfl rfl rfl rfl rfl (show (pS (X4 e)).length=(X4 e).length from aCf _) rfl (HK _) (m:=([e.other]).length) (aCf _) (by omega) hl (yE (X4 e) [e.other]))<|Da ?_;exact⟨g+1,trivial,(cQ.wk (Ea<|Ea<|trivial) (Hb<|Hc (vN _ _)<|trivial) trivial)⟩
  have h:=hc7;have hm:Lm e=X4 e:=aCd (by(rw[h];decide));rw[hm];refine aA ?_;exact⟨g,trivial,Wk⟩
 rintro g -;obtain ⟨N,hN⟩:∃N,N=Lm e:=⟨_,rfl⟩;rw[<-hN]at hnm hnl;rw[<-hN];clear hN;have hNl:(N.map encStr).length=N.length:=aCf _;refine Sq<|Sq ?_;refine gC.ent (cQ.fz (id:=66) (E':=[(1,.ref 1 0 0 0),(4,.pv (aU N))]) (H':=[(1,bE e)]) (N.map encStr) rfl (Jv encStr N)
  (by intro p hp;simp only[aCr,aCv,or_false]at hp;rcases hp with rfl|rfl;exact⟨_,rfl,.same (.ref rfl)⟩;exact⟨_,rfl,.osl (by rw[aCx,List.drop_zero,<-List.length_map (f:=encStr),List.take_length])⟩) rfl ⟨⟨_,rfl,rfl⟩,(by(simp;done)),trivial⟩ trivial) ?_
 refine Rg<|Zd aH<|aE ?_;refine bJ (σ:=Nat) (fun q=>([(1,.ref 1 0 0 0),(4,.pv (aU N)),(5,iv (q:Int))],[(1,bE e)])) (fun q=>q<=N.length/\∀j,j<q->∀b,N[j]?=some b->(!bS b)=false) (fun q=>N.length - q) 0 ⟨by omega,by omega⟩ ?_ ?_
 ·exact Wk
 rintro q ⟨hq,hno⟩;refine Sq<|Sd aC<|Dd aC<|Dd (eR aD)<|Zd cJ ?_;refine Cn ?_ ?_<;>intro hc8
 ·have hlt:q<N.length:=by have:=aCb hc8;omega
  obtain ⟨s,hs⟩:=aT hlt;have hi:=cE (f:=encStr) hs;refine aA<|Sq<|aE<|Sd aC<|Dd aC<|Dd (jE bT)<|Dd (fO isAgg9)<|Dd (kc gB (kN s _ (hnm s (aCp hs))))<|Zd iJ ?_;refine Cn ?_ ?_<;>intro hc9
  ·have hb:(!bS s)=true:=hc9;have hall:N.all bS=false:=by
    rw[List.all_eq_false];exact⟨s,aCp hs,by simpa using hb⟩
   rw[hall];exact Sz aH<|aB<|Rt<|Qq
  have hb:(!bS s)=false:=hc9;refine aA<|Rd aC<|Dd iF<|Da ?_;exact⟨q+1,⟨by omega,wV hno hs hb⟩,by omega,Wk⟩
 have hge:q=N.length:=by have:=aCc hc8;omega
 subst hge;have hall:N.all bS=true:=by
  rw[List.all_eq_true];intro s hs;obtain ⟨j,hj⟩:=aDA.1 hs;have:=hno j (aCj.1 hj).1 s hj
  simpa using this
 rw[hall,Bool.true_and,aA4];clear hnm hnl hno hall he;refine aS<|Sq<|Sq ?_;refine aQ (t:=129) (n:=17) (X:=decide (e.op=4)&&(decide (((e.refs.map encStr).length:Int)<1)||decide (2000<((e.refs.map encStr).length:Int)))) ?_ ?_
 ·all_goals refine Dd (aV gN) ?_
  all_goals refine Dd (bD isAgg3)<|Dd cF<|Dm ?_<;>(refine Sp 118 (fun h118=>?_) fun h118=>?_)<;>(try(with_reducible contradiction))<;>(first|refine Fo<|Fo<|Fo<|Fo<|Fo ?_|refine On (aV fB)<|On (bD aF)<|On (eR aD)<|On cJ<|On aC ?_)<;>(first|refine Sp 123 (fun h123=>?_) fun h123=>?_|refine kI (t:=123) rfl ?_)<;>(try(with_reducible contradiction))<;>(first|refine Fo ?_|refine Fu ?_|refine On (aV fB) ?_)<;>(first|refine Fo ?_|refine Fu ?_|refine On (bD aF) ?_)<;>(first|refine Fo ?_|refine Fu ?_|refine On (eR aD) ?_)<;>(first|refine Fo ?_|refine Fu ?_|refine On gX ?_)<;>(first|refine Fo ?_|refine On cD ?_)<;>refine Zd cD ?_<;>(exact⟨⟨_,rfl,by first|(rw[h118];rfl)|(rw[h118,h123];rfl)⟩,rfl,rfl,rfl⟩)
 refine Cn ?_ ?_<;>intro hc10
 ·have h5:=hc10;rw[h5];exact Sz aH<|aB<|Rt<|Qq
 have h5:=hc10;rw[h5,Bool.not_false,Bool.true_and];refine aA<|Sq ?_;refine aQ (t:=2) (n:=17) (X:=decide ((e.val.size:Int)<=200)&&(!decide (e.op=2)||W4 e.x e.y)) ?_ ?_
 ·all_goals refine Dd (aV lG) ?_
  all_goals refine Dd (bD isAgg9)<|Dd (gF underlying9)<|Dd GP<|Dm ?_<;>(refine Sp 134 (fun h134=>?_) fun h134=>?_)<;>(try(with_reducible contradiction))<;>(first|refine Fo<|Fo<|Fo<|Fo ?_|refine On (aV gN)<|On (bD isAgg3)<|On rI<|On aC ?_)<;>(first|refine Sp 138 (fun h138=>?_) fun h138=>?_|refine kI (t:=138) rfl ?_)<;>(try(with_reducible contradiction))<;>(first|refine Fo ?_|refine Fu ?_|refine On (aV iD) ?_)<;>(first|refine Fo ?_|refine Fu ?_|refine On (by exact aM rfl dO sizeOf68 rfl rfl rfl rfl (by simp only[Zl,bM,bG,encStr,aZ,zObj];rfl) rfl) ?_)<;>(first|refine Fo ?_|refine Fu ?_|refine On (kc aBr (zz e.x e.y _)) ?_)<;>(first|refine Fo ?_|refine On cD ?_)<;>refine Dd cD<|Da ?_<;>(exact⟨⟨_,rfl,by first|(rw[h134];rfl)|(rw[h134,h138];rfl)⟩,rfl,rfl,rfl⟩)
 exact aB<|Rt<|Qq
theorem rr(l:List GEdit)(H:aG)(hl:l.length<1099511627776)(s:∀e∈l,KD e)(p:∀e∈l,e.refs.length<1099511627776):RC 148 [.pv (fX l)] (bv (kP l)) H:=by
 refine Pu ?_;have hml:(l.map aZ).length=l.length:=aCf _;refine Bd func148 rfl ntmps148<|Sz aH<|Sq<|Sq ?_;refine aQ (t:=11) (n:=9) (X:=decide (((l.map aZ).length:Int)<1)||decide (200<((l.map aZ).length:Int))) ?_ ?_
 ·all_goals refine Dd aC ?_
  all_goals refine Dd (eR cT)<|Dd cJ<|Dm ?_<;>(refine Sp 7 (fun q=>?_) fun q=>?_)<;>(first|contradiction|refine Fo<|Fo<|Fo ?_|refine On aC<|On (eR cT)<|On gX ?_)<;>refine Zd cD ?_<;>(exact⟨⟨_,rfl,by grind⟩,rfl,rfl,rfl⟩)
 refine Cn ?_ ?_<;>intro g
 ·have o:kP l=false:=by
   simp only[Bool.or_eq_true,aCm]at g;rw[kP,Bool.and_eq_false_iff,Bool.and_eq_false_iff,aCn,aCn];omega
  refine Sz aH<|aB<|Rt ?_
  simp_all
 have o:kP l=!(l.any (fun e=>!dT e)):=by
  simp only[aDB,aCn]at g;rw[kP,decide_eq_true (by omega:(0:Int)<(l.length:Int)),decide_eq_true (by omega:(l.length:Int)<=200)];rfl
 rw[o];refine aA<|Sq<|Sz aH<|aE ?_;refine bJ (σ:=Nat) (fun k=>([(0,.pv (fX l)),(3,iv (k:Int))],[])) (fun k=>k<=l.length/\∀j,j<k->∀b,l[j]?=some b->(!dT b)=false) (fun k=>l.length - k) 0 ⟨by omega,by omega⟩ ?_ ?_
 ·exact E0
 rintro k ⟨hk,f⟩;refine Sq<|Sd aC<|Dd aC<|Dd (eR cT)<|Zd cJ ?_;refine Cn ?_ ?_<;>intro d
 ·have i:k<l.length:=by have:=aCb d;omega
  obtain ⟨e,h⟩:=aT i;have hi:=cE (f:=aZ) h;refine aA<|Sq<|aE<|Sd aC<|Dd aC<|Dd (jE OP)<|Dd (by exact dM rfl bW aR rfl (by omega) (by simp only[Zl,bM,bG,encStr,aZ,zObj];rfl) rfl)<|Dd (kc call183 (rn e _ (s e (aCp h)) (p e (aCp h))))<|Zd iJ ?_;refine Cn ?_ ?_<;>intro m
  ·refine Sz aH<|aB<|Rt ?_
   grind
  refine aA<|Rd aC<|Dd iF<|Da ?_;exact⟨k+1,⟨by omega,wV f h m⟩,by omega,E0⟩
 have n:k=l.length:=by have:=aCc d;omega
 subst n;refine aS<|Sz aH<|aB<|Rt ?_;exact⟨by rw[EA f];rfl,rfl⟩
end Go.Proofs.YtmdicgjnmfolfaaGreatDoor
section
namespace Go.Abs
theorem R3{P}{N}{o}{E}{H}{T}{t}{e}{id g off len sz:Nat}{ob}{b}{rows'}(z:o.op=.call {callee:=.builtin .clear,args:=#[.tmp t],argTypes:=#[T]})(hS:fC P T e sz)(s:eL P e b)(f:b.length=sz)
  (r:E.get t=some (.osl id g off len)) (p:H.get id=some ob) (q:ob.g=g) (i:ob.sz=sz) (h:off<=ob.rows.length) (d:ob.rows.take off++(List.replicate len b++ob.rows.drop (off+len))=rows') :
  cK P N o E H .any ((id,⟨g,sz,ob.ty,rows'⟩)::H):=by
 intro a w I ι A y n m K Q l;obtain ⟨v,hv,j⟩:=m t _ r;obtain ⟨c,h3,h4,h5⟩:=nc n j p q;refine sj (E:=(t,.osc _ g _ _ c)::E) z hS s f (dC.get_cons_same _ _ _) p q i h d a w I _ A y n (fun u x k=>?_) K Q l;by_cases e:t=u
 ·subst e;rw[dC.get_cons_same]at k;simp_all
 rw[dC.get_cons_other _ _ e]at k;exact m u x k
end Go.Abs
namespace Go.Proofs.YtmdicgjnmfolfaaGreatDoor
open Go.Proofs.Tryz
open Go.Abs
def kG:List ByteArray->List ByteArray
 | []=>[]
 | [x]=>[x]
 |x::y::r=>if x=y then kG (y::r)else x::kG (y::r)
theorem K0:∀(l) (x y),kG (l++[x,y])=kG (l++[x])++(if x=y then[]else[y])
 | [],x,y=>by
  show (if x=y then kG [y]else x::kG [y])=[x]++_;by_cases e:x=y
  ·rw[aCe e,aCe e,e];rfl
  rw[aCd e,aCd e];rfl
 | [a],x,y=>by
  show (if a=x then kG _ else a::kG _)=(if a=x then kG [x]else a::kG [x])++_;have:=K0 [] x y;rw[show kG [x,y]=kG ([]++[x,y])from rfl,this]
  split<;>rfl
 |a::b::l,x,y=>by
  have:=K0 (b::l) x y;show (if a=b then kG ((b::l)++[x,y])else a::kG ((b::l)++[x,y]))=(if a=b then kG ((b::l)++[x])else a::kG ((b::l)++[x]))++_
  grind
theorem UX{L:List ByteArray}{k:Nat}{x y:ByteArray}(hk:1<=k)(b:L[k - 1]?=some x)(c:L[k]?=some y):kG (L.take (k+1))=kG (L.take k)++(if x=y then[]else[y]):=by
 obtain ⟨j,rfl⟩:∃j,k=j+1:=⟨k - 1,by omega⟩;rw[show j+1 - 1=j by omega]at b;have a:L.take (j+1)=L.take j++[x]:=by rw[List.take_add_one,b];rfl
 have d:L.take (j+1+1)=L.take j++[x,y]:=by rw[List.take_add_one,a,c,List.append_assoc];rfl
 rw[d,a,K0]
theorem HL{l}{i:Nat}{s}(h:l[i]?=some s):(vO l)[i]?=some ((encStr s).map .pv):=by simp_all
theorem gw{P L:List ByteArray}{j}{s}(h:P.length<=j)(hs:L[j]?=some s):(P++L.drop P.length)[j]?=some s:=by grind
theorem iy{H:aG}{id}{o}(h:H.get id=some o)(j):aG.get ((id,o)::H) j=H.get j:=by
 by_cases e:j=id
 ·subst e;rw[get_cons_same,h]
 exact get_cons_other _ _ e
theorem uh(L:List ByteArray)(g:Nat)(H:aG)(h1:H.get 901=some ⟨g,1,9,vO L⟩)(hl:L.length<1099511627776):
  aW Tryz.prog 68 [.osl 901 g 0 L.length] H (fun r H'=>r=.osl 901 g 0 (kG L).length/\H'=(901,⟨g,1,9,vO (kG L++List.replicate (L.length - (kG L).length) sNil)⟩)::H):=by
 refine Bd func68 rfl ntmps68 ?_;refine gC.ent (E':=[(0,.osl 901 g 0 L.length)]) (H':=(901,⟨g,1,9,vO L⟩)::H) (cQ.get' ⟨⟨_,rfl,rfl⟩,trivial⟩ (iy h1)) ?_;refine Sz aH<|Sq<|Sd aC<|Dd (by exact dU rfl aD rfl rfl rfl)<|Zd cJ ?_;refine Cn ?_ ?_<;>intro E
 ·have N:L.length<2:=by have:=aCb E;omega
  have O:kG L=L:=by
   match L,N with
   | [],_=>rfl
   | [a],_=>rfl
  refine Sd aC<|Zd aH<|aB ?_;refine dA (H':=(901,⟨g,1,9,vO L⟩)::H) (.inr rfl) rfl (aJ rfl) Fin.refl ⟨by rw[O],by simp_all⟩
 have hge:2<=L.length:=by have:=aCc E;omega
 refine aA<|Sq<|Sz aH<|aE ?_;refine bJ (σ:=Nat) (fun i=>([(0,.osl 901 g 0 L.length),(3,iv (i:Int))],(901,⟨g,1,9,vO L⟩)::H)) (fun i=>1<=i/\i<=L.length/\kG (L.take i)=L.take i) (fun i=>L.length - i) 1 ⟨by omega,by omega,by
  obtain ⟨x,K⟩:=aT (l:=L) (k:=0) (by omega);rw[List.take_add_one,K];rfl⟩ ?_ ?_
 ·exact cQ.get' ⟨⟨_,rfl,rfl⟩,⟨_,rfl,rfl⟩,trivial⟩ (fun j=>rfl)
 rintro i ⟨P,hi2,f⟩;refine Sq<|Sd aC<|Dd aC<|Dd (by exact dU rfl aD rfl rfl rfl)<|Zd cJ ?_;refine Cn ?_ ?_<;>intro I
 ·have w:i<L.length:=by have:=aCb I;omega
  obtain ⟨y,Z⟩:=aT w;obtain ⟨x,K⟩:=aT (l:=L) (k:=i - 1) (by omega);have M:=UX P K Z;refine aA<|Sq<|aE<|Sq<|aL follows<|Cq aC<|Cq aC<|Cq (by exact dN rfl bT rfl rfl rfl rfl rfl (by omega) (by rfl) w (aCx _))<|Cq (by exact bA rfl isAgg9 rfl rfl rfl (HL Z) rfl)<|Cq aC<|Cq aC<|Cq (by exact dB rfl rfl rfl (by exact lI (by omega) (by omega)))<|Cq (by exact dN (m:=i - 1) rfl bT rfl rfl rfl rfl rfl (by omega) (show ((i:Int) - 1).toNat=i - 1 by omega) (by omega) (aCx _))<|Cq (by exact bA rfl isAgg9 rfl rfl rfl (HL K) rfl)<|Cq vF<|bF<|Kr ?_;refine Cn ?_ ?_<;>intro F
  ·have n:=aCb F;rw[aCe n.symm,List.append_nil,f]at M;refine Sd aC<|Dd aC<|Dd (by exact jU (l:=i) (h:=L.length) rfl bT rfl rfl rfl rfl rfl rfl (by omega) (aCl _) (aCx _) rfl)<|Zd aH<|Sq<|Sz aH<|aE ?_;refine fZ (fun(k:Nat) (R:List ByteArray)=>([(0,.osl 901 g 0 L.length),(3,iv (R.length:Int)),(4,.osl 901 g i (L.length - i)),(5,iv (k:Int))],(901,⟨g,1,9,vO (R++L.drop R.length)⟩)::H)) (fun k R=>1<=k/\i+k<=L.length/\R=kG (L.take (i+k))/\R.length+1<=i+k) (fun k R=>L.length - (i+k)) 1 (L.take i) ⟨by omega,by omega,M.symm,by simp_all⟩ ?_ ?_
   ·have S:(L.take i).length=i:=by simp_all
    rw[S,List.take_append_drop];exact cQ.get' ⟨⟨_,rfl,rfl⟩,⟨_,rfl,rfl⟩,⟨_,rfl,rfl⟩,⟨_,rfl,rfl⟩,trivial⟩ (fun j=>rfl)
   rintro k R ⟨hk1,hk2,d,hk4⟩;refine Sq<|Sd aC<|Dd aC<|Dd (by exact dU rfl aD rfl rfl rfl)<|Zd cJ ?_;refine Cn ?_ ?_<;>intro J
   ·have Q:i+k<L.length:=by have:=aCb J;omega
    obtain ⟨v,hv⟩:=aT Q;obtain ⟨u,hu⟩:=aT (l:=L) (k:=i+k - 1) (by omega);have l:=UX (by omega) hu hv;have t:=HL (gw (P:=R) (by omega) hv);have U:=HL (gw (P:=R) (by omega) hu);refine aA<|Sq<|aE<|Sq<|aL follows<|Cq aC<|Cq aC<|Cq (by exact dN (m:=k) rfl bT rfl rfl rfl rfl rfl (by omega) (aCq _) (by omega) rfl)<|Cq (by exact bA rfl isAgg9 rfl rfl rfl t rfl)<|Cq aC<|Cq aC<|Cq (by exact dB rfl rfl rfl (by exact lI (by omega) (by omega)))<|Cq (by exact dN (m:=k - 1) (m2:=i+k - 1) rfl bT rfl rfl rfl rfl rfl (by omega) (show ((k:Int) - 1).toNat=k - 1 by omega) (by omega) (by omega))<|Cq (by exact bA rfl isAgg9 rfl rfl rfl U rfl)<|Cq DH<|bF<|Kr ?_;refine Cn ?_ ?_<;>intro B
    ·have T:¬ u=v:=fun e=>by
      have h:=B;rw[e]at h;simp at h
     rw[aCd T,<-d]at l;have Y:∃z,L[R.length]?=some z:=aT (by omega);obtain ⟨z,hz⟩:=Y;have X:(vO (R++L.drop R.length))[R.length]?=some ((encStr z).map .pv):=HL (gw (P:=R) (aCl _) hz);have A:(vO (R++L.drop R.length)).set R.length [sv v]=vO ((R++[v])++L.drop (R++[v]).length):=by
      have hd:L.drop R.length=z::L.drop (R.length+1):=by
       obtain ⟨p,q⟩:=aCj.1 hz;rw[List.drop_eq_getElem_cons p,q]
      rw[hd,aCg,List.length_singleton,vO,List.map_append,List.map_cons,List.set_append_right _ _ (by rw[aCf];exact aCl _),aCf,Nat.sub_self,List.set_cons_zero,List.append_assoc,vO,List.map_append,List.map_append];rfl
     refine Sd aC<|Dd aC<|Dd aC<|Dd aC<|Dd (by exact dN (m:=k) rfl bT rfl rfl rfl rfl rfl (by omega) (aCq _) (by omega) rfl)<|Dd (by exact bA rfl isAgg9 rfl rfl rfl t rfl)<|Dd (by exact dN rfl bT rfl rfl rfl rfl rfl (by omega) (by exact aCq _) (by omega:R.length<L.length) (aCx _))<|Uu (by exact cV rfl sizeOf9 rfl rfl rfl rfl rfl X (by simp[encStr]) rfl A)<|Zz<|Rd aC<|Dd iF<|Zd aH<|Rd aC<|Dd iF<|Da ?_;refine⟨k+1,R++[v],⟨by omega,by omega,l.symm,by rw[aCg,List.length_singleton];omega⟩,by omega,?_⟩;rw[show (((R++[v]).length:Nat):Int)=(R.length:Int)+1 by rw[aCg,List.length_singleton];rfl];exact cQ.dup ⟨⟨_,rfl,rfl⟩,⟨_,rfl,rfl⟩,⟨_,rfl,rfl⟩,⟨_,rfl,rfl⟩,trivial⟩
    have he:u=v:=by
     have h:=B;have h2:v=u:=by simpa using h
     exact h2.symm
    rw[aCe he,List.append_nil,<-d]at l;refine aA<|Rd aC<|Dd iF<|Da ?_;refine⟨k+1,R,⟨by omega,by omega,l.symm,by omega⟩,by omega,?_⟩;exact cQ.get' ⟨⟨_,rfl,rfl⟩,⟨_,rfl,rfl⟩,⟨_,rfl,rfl⟩,⟨_,rfl,rfl⟩,trivial⟩ (fun j=>rfl)
   have D:i+k=L.length:=by have:=aCc J;omega
   rw[D,List.take_length]at d;have s:R.length<=L.length:=by omega
   have m:(vO (R++L.drop R.length)).length=L.length:=by
    rw[aCf,aCg,aCu];omega
   have W:(vO (R++L.drop R.length)).take R.length++(List.replicate (L.length - R.length) [sv sNil]++(vO (R++L.drop R.length)).drop (R.length+(L.length - R.length)))=vO (R++List.replicate (L.length - R.length) sNil):=by
    have V:(vO (R++L.drop R.length)).drop (R.length+(L.length - R.length))=[]:=List.drop_eq_nil_of_le (by rw[m];omega);rw[V,List.append_nil,vO,List.map_append,List.take_left' (aCf _),vO,List.map_append,List.map_replicate];rfl
   refine aS<|Sd aC<|Dd aC<|Dd (by exact jU (l:=R.length) (h:=L.length) rfl bT rfl rfl rfl rfl rfl rfl s (aCl _) (aCx _) rfl)<|Uu (by exact R3 rfl bT Ig rfl rfl rfl rfl rfl (by rw[m];exact s) W)<|Zz<|Sd aC<|Dd aC<|Dd (by exact jU (l:=0) (h:=R.length) rfl bT rfl rfl rfl rfl rfl rfl (aCw _) s (aCx _) rfl)<|Zd aH<|aB ?_;refine dA (H':=(901,⟨g,1,9,vO (R++List.replicate (L.length - R.length) sNil)⟩)::H) (.inr rfl) rfl (aJ rfl) (Fin.get' (fun j=>yP _ _ _ _ j)) ⟨by rw[d];rfl,by rw[d]⟩
  have n:=aCc F;rw[aCd (fun e=>n e.symm),f]at M;refine aA<|Rd aC<|Dd iF<|Da ?_;refine⟨i+1,⟨by omega,by omega,?_⟩,by omega,cQ.get' ⟨⟨_,rfl,rfl⟩,⟨_,rfl,rfl⟩,trivial⟩ (fun j=>rfl)⟩;rw[M,List.take_add_one,Z];rfl
 have G:i=L.length:=by have:=aCc I;omega
 subst G;rw[List.take_length]at f;refine aS<|Sd aC<|Zd aH<|aB ?_;refine dA (H':=(901,⟨g,1,9,vO L⟩)::H) (.inr rfl) rfl (aJ rfl) Fin.refl ⟨by rw[f],by rw[f,Nat.sub_self,List.replicate_zero,List.append_nil]⟩
end Go.Proofs.YtmdicgjnmfolfaaGreatDoor
end
namespace Go.Proofs.YtmdicgjnmfolfaaGreatDoor
open Go.Proofs.Tryz
open Go.Abs
def lS(n a b:Int):Bool:=decide (a<=n)&&decide (n<=b)
def du(r:GRec):Bool:=(((((r.priv.trace.any WS||!(!([r.priv.name,r.priv.reason].any FX)))||!(!r.priv.sources.any FX))||decide (16<((r.priv.sources.map encStr).length:Int)))||decide (200<((r.priv.trace.map fQ).length:Int)))||!iW r.priv.sl)||!iW r.sl
def De(l:List ByteArray):Bool:=mV l&&decide (((kG l).length:Int)=((l.map encStr).length:Int))
theorem Vk(l)(a:l.length<1099511627776){H}(hno:H.get 901=none):aW Tryz.prog 69 [.pv (aU l)] H (fun r H'=>r=.osl 901 1 0 l.length/\H'=(901,⟨1,1,9,vO l⟩)::H) :=aW.frame (Fb l [] (fun _ _ h=>by cases h) rfl a) (fun _ _ h=>by cases h) (fun _ _ h=>by cases h) (by simp) (fun id h=>.inr (by
  by_cases e:901=id
  ·simp_all
  simp[aG.get,kV e]at h))
def ct(r:GRec):Bool:=(((((!lS r.author 0 59||!lS r.number 1 128)||!lS r.clock 1 1000000)||!bS r.branch)||decide (16<((r.parents.map encStr).length:Int)))||!r.parents.all isJ)||!De r.parents
end Go.Proofs.YtmdicgjnmfolfaaGreatDoor
