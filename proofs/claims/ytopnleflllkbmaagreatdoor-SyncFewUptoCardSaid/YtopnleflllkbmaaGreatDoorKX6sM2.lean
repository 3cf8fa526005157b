/-
  Parts of the proof. Conditions: each theorem's own.
-/
import Derived.Test.YtopnleflllkbmaaGreatDoorKX6sM1
set_option linter.unusedVariables false
set_option linter.unusedSimpArgs false
set_option maxRecDepth 100000
set_option maxHeartbeats 8000000
open List Nat
open List renaming length->C
open Option renaming some->A,none->ζ
open Bool renaming true->T,false->η
open ByteArray renaming data->μ
open Array renaming toList->ν
open Decidable renaming decide->θ
open Go.IntKind renaming i64->ξ
open Go.Proofs.Tryz renaming prog->φ
namespace Go.Proofs.C
end Go.Proofs.C
open Go.Proofs.YtopnleflllkbmaaGreatDoor
namespace Go.Proofs
open Tryz
theorem pH:type_of% call154:=call154
theorem mU:type_of% eqGuardType104:=eqGuardType104
theorem eL:type_of% isAgg104:=isAgg104
theorem dP:type_of% isAgg133:=isAgg133
theorem eK:type_of% isAgg159:=isAgg159
theorem xT:type_of% isAgg169:=isAgg169
theorem wE:type_of% isAgg20:=isAgg20
theorem aG:type_of% isAgg22:=isAgg22
theorem xS:type_of% isAgg270:=isAgg270
theorem nO:type_of% isAgg4:=isAgg4
theorem vE:type_of% isAgg5:=isAgg5
theorem bD:type_of% sizeOf137:=sizeOf137
theorem A9:type_of% sizeOf157:=sizeOf157
theorem qR:type_of% sizeOf159:=sizeOf159
theorem vD:type_of% sizeOf169:=sizeOf169
theorem A8:type_of% sizeOf223:=sizeOf223
theorem mA:type_of% sizeOf270:=sizeOf270
theorem cO:type_of% sizeOf5:=sizeOf5
theorem eC:type_of% sizeOf70:=sizeOf70
theorem D7:type_of% underlying0:=underlying0
theorem dU:type_of% underlying133:=underlying133
theorem oG:type_of% underlying135:=underlying135
theorem iG:type_of% underlying137:=underlying137
theorem lK:type_of% underlying157:=underlying157
theorem dM:type_of% underlying159:=underlying159
theorem gQ:type_of% underlying169:=underlying169
theorem zH:type_of% underlying180:=underlying180
theorem cU:type_of% underlying185:=underlying185
theorem aD:type_of% underlying22:=underlying22
theorem N_:type_of% isAgg9:=isAgg9
theorem M_:type_of% isAgg3:=isAgg3
theorem U_:type_of% underlying9:=underlying9
theorem V_:type_of% sizeOf9:=sizeOf9
theorem gP:type_of% underlying223:=underlying223
theorem fB:type_of% underlying4:=underlying4
theorem fD:type_of% underlying46:=underlying46
theorem kG:type_of% underlying48:=underlying48
theorem gH:type_of% underlying49:=underlying49
theorem cZ:type_of% underlying5:=underlying5
theorem uD:type_of% underlying51:=underlying51
theorem fC:type_of% underlying53:=underlying53
theorem mM:type_of% underlying68:=underlying68
theorem A7:type_of% underlying70:=underlying70
theorem uC:type_of% underlying73:=underlying73
theorem mL:type_of% underlying82:=underlying82
theorem uB:type_of% underlying84:=underlying84
theorem A6:type_of% underlying92:=underlying92
theorem uA:type_of% zeroValue157:=zeroValue157
theorem tZ:type_of% zeroValue169:=zeroValue169
theorem wD:type_of% zeroValue22:=zeroValue22
theorem sU:type_of% zeroValue3:=zeroValue3
theorem jC:type_of% zeroValue4:=zeroValue4
theorem sT:type_of% zeroValue5:=zeroValue5
theorem gV:type_of% zeroValue9:=zeroValue9
end Go.Proofs
namespace Go.Abs
variable{ops:Array Oper}{K:dG->aF->Prop}{rest:List Oper}{d t:Tmp}{op:Op}{ty f_ off:TypeId}{pos:String}{af:Array Edge}{x y:Code}{id n k k2 m sz j:Nat}{b want:Bool}{α β γ:Type}{f:FuncId}{args vs r cs cells:List AV}{rows:List (List PV)}{dst:Option Tmp}{c:Operand}{E L:dG}{H' H:aF}{v:AV}{o:Ob}{s:B_}
section
section
variable{P:Program}{G0:aF}{r4:Nat}{o:Oper}{H H2:aF}{Q:Exit->dG->aF->Prop}{u4 e t t':TypeId}{x y:Operand}{id g i:Nat}{ob:Ob}
theorem Y(h:cP P r4 ⟨A d,op,ty,pos,af,ζ⟩ E H v H2)(B:AL P G0 r4 ops K rest ((d,v)::E) H2)(D:Nat.blt d r4=T:=by rfl):AL P G0 r4 ops K (⟨A d,op,ty,pos,af,ζ⟩::rest) E H:=ur Z Z D h B
theorem Uu(h:cP P r4 ⟨ζ,op,ty,pos,af,ζ⟩ E H v H2)(B:AL P G0 r4 ops K rest E H2):AL P G0 r4 ops K (⟨ζ,op,ty,pos,af,ζ⟩::rest) E H:=aGF Z Z h B
theorem S{x y:Code}(h:fW P G0 r4 x (zJ (fW P G0 r4 y Q) Q) E H):fW P G0 r4 (.seq x y) Q E H:=ME h
theorem Rg(h:AL P G0 r4 ops (λE H=>Q .normal E H) ops.toList E H):fW P G0 r4 (.region id ops η) Q E H:=D3 h
theorem Zz(h:K E H):AL P G0 r4 ops K [] E H:=uq h
theorem aA(B:o.op=.move x:=by rfl)(D:aQ E x=A v:=by rfl):cP P r4 o E H v H:=iA B D
theorem aH(B:o.op=.assign x:=by rfl)(D:aQ E x=A v:=by rfl):cP P r4 o E H v H:=yI B D
theorem Sr{y:Code}(h:AL P G0 r4 ops (λE H=>zJ (fW P G0 r4 y Q) Q .normal E H) ops.toList E H):fW P G0 r4 (.seq (.region id ops η) y) Q E H:=S (Rg h)
theorem Dm(B:AL P G0 r4 ops K rest ((d,v)::E) H)(F:op=.move x:=by rfl)(G:aQ E x=A v:=by rfl)(D:Nat.blt d r4=T:=by rfl):AL P G0 r4 ops K (⟨A d,op,ty,pos,af,ζ⟩::rest) E H:=Y (iA F G) B D
theorem Da(B:K ((d,v)::E) H)(F:op=.assign x:=by rfl)(G:aQ E x=A v:=by rfl)(D:Nat.blt d r4=T:=by rfl):AL P G0 r4 ops K [⟨A d,op,ty,pos,af,ζ⟩] E H:=Y (yI F G) (Zz B) D
theorem Kr{a b:Prop}(h:b)(B:a:=by kernel_rfl):a/\b:=⟨B,h⟩
theorem Qq{a:α}{b:β}:a=a/\b=b:=⟨Z,Z⟩
theorem Pu{B:AV}(h:aU P f args [] (λr H=>r=B/\H=[]))(D:∀a∈args,Clo [] a:=by simp):aU P f args H (λr H'=>r=B/\H'=H):=aU.pure h D H
theorem dO(B:o.op=.extract x n:=by rfl)(F:aQ E x=A (.tup vs):=by rfl)(D:vs[n]?=A v:=by rfl):cP P r4 o E H v H:=vV B F D
theorem bC{f:Nat}(B:cE P f_ f off)(I:o.op=.fieldAddr f_ x f:=by rfl)(J:aQ E x=A (.ref id g i k):=by rfl)(D:H.get id=A ob:=by rfl)(F:ob.g=g:=by rfl)(G:k+off=k2:=by rfl):cP P r4 o E H (.ref id g i k2) H:=oO I B J D F G
theorem bQ(D:∀w,(isAgg u4).run P w=.ok η w)(I:o.op=.load u4 x:=by rfl)(J:aQ E x=A (.ref id g i k):=by rfl)(B:H.get id=A ob:=by rfl)(F:ob.g=g:=by rfl)(hi:ob.rows[i]?=A r:=by rfl)(G:r[k]?=A v:=by rfl):cP P r4 o E H v H:=aX I D J B F hi G
theorem wY(D:∀w,(isAgg u4).run P w=.ok T w)(K:∀w,(sizeOf u4).run P w=.ok n w)(J:o.op=.load u4 x:=by rfl)(L:aQ E x=A (.ref id g i k):=by rfl)(B:H.get id=A ob:=by rfl)(F:ob.g=g:=by rfl)(hi:ob.rows[i]?=A r:=by rfl)(G:(r.drop k).take n=cs:=by rfl)(I:C cs=n:=by rfl):cP P r4 o E H (.agg cs) H:=aW J D K L B F hi G I
theorem jG(K:∀w,(sizeOf u4).run P w=.ok n w)(J:o.op=.store u4 x y:=by rfl)(L:aQ E x=A (.ref id g 0 0):=by rfl)(Q:aQ E y=A v:=by rfl)(D:RD v=A cells:=by rfl)(I:C cells=n:=by rfl)(B:H.get id=A ob:=by rfl)(F:ob.g=g:=by rfl)(hi:ob.rows=[r]:=by rfl)(G:C r=n:=by rfl):cP P r4 o E H .any ((id,⟨g,ob.sz,ob.ty,[cells]⟩)::H):=mE J K L Q D I B F hi G
theorem fM(D:P.underlying u4=A (.slice e))(B:o.op=.call {callee:=.builtin .len,args:=#[x],argTypes:=#[u4]}:=by rfl)(F:aQ E x=A (.pv (.sl rows)):=by rfl):cP P r4 o E H (.pv (.int .i64 (C rows))) H:=lH B D F
theorem iV{r:List PV}{kk:IntKind}{n:Int}(D:fN P u4 e sz)(I:o.op=.indexAddr u4 x y:=by rfl)(J:aQ E x=A (.pv (.sl rows)):=by rfl)(K:aQ E y=A (.pv (.int kk n)):=by rfl)(B:0<=n:=by omega)(G:n.toNat=m:=by exact l_ _)(hi:rows[m]?=A r:=by assumption)(F:C r=sz:=by rfl):cP P r4 o E H (.pad rows m 0) H:=bP I D J K B G hi F
theorem oD{B:Array (Nat×Operand)}{places:List (Nat×Nat)}{l0 l:List AV}{aps:List (Nat×AV)}(D:kC P u4 places l0)(G:o.op=.build u4 B:=by rfl)(I:qQ E B.toList=A aps:=by rfl)(F:D6 (λi=>places[i]?) l0 aps=A l:=by rfl):cP P r4 o E H (.agg l) H:=PS G D I F
theorem cI{k:IntKind}{n m:Int}(B:o.op=.binOp .lss t x y t':=by rfl)(D:aQ E x=A (.pv (.int k n)):=by rfl)(F:aQ E y=A (.pv (.int k m)):=by rfl):cP P r4 o E H (.pv (.bool (θ (n<m)))) H:=iK B D F
theorem cF{k:IntKind}{n m:Int}(B:o.op=.binOp .eql t x y t':=by rfl)(D:aQ E x=A (.pv (.int k n)):=by rfl)(F:aQ E y=A (.pv (.int k m)):=by rfl):cP P r4 o E H (.pv (.bool (θ (n=m)))) H:=kR B D F
theorem Cq{ops:List Oper}{K:List Rec->dG->aF->Prop}(h:cP P r4 ⟨dst,op,ty,pos,af,ζ⟩ (restr E (jD ops ⟨dst,op,ty,pos,af,ζ⟩)) H v H)(D:DC P r4 ops rest (nR E dst v) H (λrs E' H'=>K (⟨v,ζ,[]⟩::rs) E' H'))(B:jI r4 dst=T:=by rfl):DC P r4 ops (⟨dst,op,ty,pos,af,ζ⟩::rest) E H K:=iP (DStep.q Z h) B D
theorem Cp{ops:List Oper}{K:List Rec->dG->aF->Prop}(R:List Nat){w:Nat×Ob}(h:∀H1:aF,(∀id,uF (A R) id=T->H1.get id=H.get id)->cP P r4 ⟨dst,op,ty,pos,af,ζ⟩ (restr E (jD ops ⟨dst,op,ty,pos,af,ζ⟩)) H1 v (w::H1))(D:DC P r4 ops rest (nR E dst v) (w::H) (λrs E' H'=>K (⟨v,A R,[w]⟩::rs) E' H'))(B:jI r4 dst=T:=by rfl):DC P r4 ops (⟨dst,op,ty,pos,af,ζ⟩::rest) E H K:=iP (r:=⟨v,A R,[w]⟩) (DStep.plain Z h) B D
theorem Cr{ops:List Oper}{K:List Rec->dG->aF->Prop}(R:List Nat)(h:∀H1:aF,(∀id,uF (A R) id=T->H1.get id=H.get id)->cP P r4 ⟨dst,op,ty,pos,af,ζ⟩ (restr E (jD ops ⟨dst,op,ty,pos,af,ζ⟩)) H1 v H1)(D:DC P r4 ops rest (nR E dst v) H (λrs E' H'=>K (⟨v,A R,[]⟩::rs) E' H'))(B:jI r4 dst=T:=by rfl):DC P r4 ops (⟨dst,op,ty,pos,af,ζ⟩::rest) E H K:=iP (r:=⟨v,A R,[]⟩) (DStep.plain Z h) B D
theorem x_{ops:List Oper}{K:List Rec->dG->aF->Prop}(h:∀{H1:aF},cP P r4 ⟨dst,op,ty,pos,af,ζ⟩ (restr E (jD ops ⟨dst,op,ty,pos,af,ζ⟩)) H1 v H1)(D:DC P r4 ops rest (nR E dst v) H (λrs E' H'=>K (⟨v,A [],[]⟩::rs) E' H'))(B:jI r4 dst=T:=by rfl):DC P r4 ops (⟨dst,op,ty,pos,af,ζ⟩::rest) E H K:=Cr [] (λ_ _=>h) D B
theorem Cs{ops:List Oper}{K:List Rec->dG->aF->Prop}(h:∀H1:aF,(∀id,uF ζ id=T->H1.get id=H.get id)->cP P r4 ⟨dst,op,ty,pos,af,ζ⟩ (restr E (jD ops ⟨dst,op,ty,pos,af,ζ⟩)) H1 v H1)(D:DC P r4 ops rest (nR E dst v) H (λrs E' H'=>K (⟨v,ζ,[]⟩::rs) E' H'))(B:jI r4 dst=T:=by rfl):DC P r4 ops (⟨dst,op,ty,pos,af,ζ⟩::rest) E H K:=iP (r:=⟨v,ζ,[]⟩) (DStep.plain Z h) B D
theorem Ot{ops:List Oper}{K:List Rec->dG->aF->Prop}{t:Tmp}(G:DC P r4 ops rest (nR E dst (.tup [])) H (λrs E' H'=>K (⟨.tup [],A [],[]⟩::rs) E' H'))(F:jZ ops j=A t:=by rfl)(B:E.get t=A (.pv (.bool b)):=by rfl)(I:b=η:=by first|rfl|assumption)(D:jI r4 dst=T:=by rfl):DC P r4 ops (⟨dst,op,ty,pos,af,A (j,T)⟩::rest) E H K:=iP (Vr Z F B I) D G
theorem Of{ops:List Oper}{K:List Rec->dG->aF->Prop}{t:Tmp}(G:DC P r4 ops rest (nR E dst (.tup [])) H (λrs E' H'=>K (⟨.tup [],A [],[]⟩::rs) E' H'))(F:jZ ops j=A t:=by rfl)(B:E.get t=A (.pv (.bool b)):=by rfl)(I:b=T:=by first|rfl|assumption)(D:jI r4 dst=T:=by rfl):DC P r4 ops (⟨dst,op,ty,pos,af,A (j,η)⟩::rest) E H K:=iP (Vs Z F B I) D G
theorem Ou{ops:List Oper}{K:List Rec->dG->aF->Prop}{t:Tmp}{w:Bool}(G:DC P r4 ops rest (nR E dst (.tup [])) H (λrs E' H'=>K (⟨.tup [],A [],[]⟩::rs) E' H'))(F:jZ ops j=A t:=by rfl)(B:E.get t=A (.tup []):=by rfl)(D:jI r4 dst=T:=by rfl):DC P r4 ops (⟨dst,op,ty,pos,af,A (j,w)⟩::rest) E H K:=iP (Vq Z F B) D G
theorem O{t:Tmp}(h:cP P r4 ⟨A d,op,ty,pos,af,A (j,want)⟩ E H v H2)(F:AL P G0 r4 ops K rest ((d,v)::E) H2)(D:jZ ops.toList j=A t:=by rfl)(B:E.get t=A (.pv (.bool b)):=by rfl)(I:b=want:=by rfl)(G:Nat.blt d r4=T:=by rfl):AL P G0 r4 ops K (⟨A d,op,ty,pos,af,A (j,want)⟩::rest) E H:=Rp Z D B I Z G h F
theorem M{t:Tmp}(G:AL P G0 r4 ops K rest (nR E dst (.tup [])) H)(F:jZ ops.toList j=A t:=by rfl)(B:E.get t=A (.pv (.bool b)):=by rfl)(I:b=!want:=by rfl)(D:jI r4 dst=T:=by rfl):AL P G0 r4 ops K (⟨dst,op,ty,pos,af,A (j,want)⟩::rest) E H:=Rq Z F B I D G
theorem Oa{t:Tmp}(h:cP P r4 ⟨A d,op,ty,pos,af,A (j,want)⟩ E H v H2)(F:AL P G0 r4 ops K rest ((d,v)::E) H2)(D:jZ ops.toList j=A t:=by rfl)(B:E.get t=A (.pv (.bool b)):=by rfl)(I:b=want:=by assumption)(G:Nat.blt d r4=T:=by rfl):AL P G0 r4 ops K (⟨A d,op,ty,pos,af,A (j,want)⟩::rest) E H:=Rp Z D B I Z G h F
theorem Fa{t:Tmp}(G:AL P G0 r4 ops K rest (nR E dst (.tup [])) H)(F:jZ ops.toList j=A t:=by rfl)(B:E.get t=A (.pv (.bool b)):=by rfl)(I:b=!want:=by assumption)(D:jI r4 dst=T:=by rfl):AL P G0 r4 ops K (⟨dst,op,ty,pos,af,A (j,want)⟩::rest) E H:=Rq Z F B I D G
section
variable{R:Option (List Nat)}{H1:aF}
theorem fh{f:Nat}(B:cE P f_ f off)(h:∀id,uF R id=T->H1.get id=H.get id)(J:o.op=.fieldAddr f_ x f:=by rfl)(K:aQ E x=A (.ref id g i k):=by rfl)(I:uF R id=T:=by rfl)(D:H.get id=A ob:=by rfl)(F:ob.g=g:=by rfl)(G:k+off=k2:=by rfl):cP P r4 o E H1 (.ref id g i k2) H1:=oO J B K ((h _ I).trans D) F G
theorem lh(D:∀w,(isAgg u4).run P w=.ok η w)(h:∀id,uF R id=T->H1.get id=H.get id)(J:o.op=.load u4 x:=by rfl)(K:aQ E x=A (.ref id g i k):=by rfl)(I:uF R id=T:=by rfl)(B:H.get id=A ob:=by rfl)(F:ob.g=g:=by rfl)(hi:ob.rows[i]?=A r:=by rfl)(G:r[k]?=A v:=by rfl):cP P r4 o E H1 v H1:=aX J D K ((h _ I).trans B) F hi G
end
section
variable{k:IntKind}{n m:Int}{s u:B_}{r:List PV}{i j q f F:Nat}
theorem iH(B:o.op=.unOp .not t x:=by rfl)(D:aQ E x=A (.pv (.bool b)):=by rfl):cP P r4 o E H (.pv (.bool (!b))) H:=Wn B D
theorem xI(B:o.op=.binOp .neq t x y t':=by rfl)(D:aQ E x=A (.pv (.int k n)):=by rfl)(F:aQ E y=A (.pv (.int k m)):=by rfl):cP P r4 o E H (.pv (.bool (!θ (n=m)))) H:=K0 B D F
theorem iX(B:o.op=.binOp .gtr t x y t':=by rfl)(D:aQ E x=A (.pv (.int k n)):=by rfl)(F:aQ E y=A (.pv (.int k m)):=by rfl):cP P r4 o E H (.pv (.bool (θ (m<n)))) H:=K5 B D F
theorem H7(B:o.op=.binOp .leq t x y t':=by rfl)(D:aQ E x=A (.pv (.int k n)):=by rfl)(F:aQ E y=A (.pv (.int k m)):=by rfl):cP P r4 o E H (.pv (.bool (θ (n<=m)))) H:=mW B D F
theorem AF(B:o.op=.binOp .geq t x y t':=by rfl)(D:aQ E x=A (.pv (.int k n)):=by rfl)(F:aQ E y=A (.pv (.int k m)):=by rfl):cP P r4 o E H (.pv (.bool (θ (m<=n)))) H:=jY B D F
theorem wU(B:o.op=.binOp .eql t x y t':=by rfl)(D:aQ E x=A (.pv (.str s)):=by rfl)(F:aQ E y=A (.pv (.str u)):=by rfl):cP P r4 o E H (.pv (.bool (θ (s=u)))) H:=BX B D F
theorem E4(B:o.op=.binOp .neq t x y t':=by rfl)(D:aQ E x=A (.pv (.str s)):=by rfl)(F:aQ E y=A (.pv (.str u)):=by rfl):cP P r4 o E H (.pv (.bool (!θ (s=u)))) H:=Mp B D F
theorem iD(B:o.op=.binOp .add t x y t':=by rfl)(F:aQ E x=A (.pv (.int .i64 n)):=by rfl)(G:aQ E y=A (.pv (.int .i64 m)):=by rfl){r:Int}(D:ξ.wrap (n+m)=r:=by exact lT (by omega) (by omega)):cP P r4 o E H (.pv (.int .i64 r)) H:=dD B F G D
theorem F9{B:Nat}(D:cE P f_ f off)(G:o.op=.fieldAddr f_ x f:=by rfl)(I:aQ E x=A (.pad rows i q):=by rfl)(F:q+off=B:=by rfl):cP P r4 o E H (.pad rows i B) H:=VY G D I F
theorem fS{p:PV}(B:∀w,(isAgg u4).run P w=.ok η w)(F:o.op=.load u4 x:=by rfl)(G:aQ E x=A (.pad rows i q):=by rfl)(hi:rows[i]?=A r:=by first|assumption|omega)(D:r[q]?=A p:=by rfl):cP P r4 o E H (.pv p) H:=eF F B G hi D
theorem C6(F:o.op=.pick c x y:=by rfl)(D:aQ E c=A (.pv (.bool b)):=by rfl)(B:b=T:=by assumption)(G:aQ E x=A v:=by rfl):cP P r4 o E H v H:=Df F D B G
theorem sQ(F:o.op=.pick c x y:=by rfl)(D:aQ E c=A (.pv (.bool b)):=by rfl)(B:b=η:=by assumption)(G:aQ E y=A v:=by rfl):cP P r4 o E H v H:=Dg F D B G
theorem cD(D:o.op=.pick c x y:=by rfl)(B:aQ E c=A (.pv (.bool b)):=by rfl)(F:aQ E (if b then x else y)=A v:=by rfl):cP P r4 o E H v H:=FC D B F
theorem gL(D:P.underlying u4=A .string)(B:o.op=.call {callee:=.builtin .len,args:=#[x],argTypes:=#[u4]}:=by rfl)(F:aQ E x=A (.pv (.str s)):=by rfl):cP P r4 o E H (.pv (.int .i64 s.size)) H:=OP B D F
theorem pA{q:Nat}(F:o.op=.nilCheck x:=by rfl)(G:aQ E x=A (.ref id g i q):=by rfl)(B:H.get id=A ob:=by rfl)(D:ob.g=g:=by rfl):cP P r4 o E H (.ref id g i q) H:=cL F G B D
end
section
variable{G0:aF}{fn:Func}{Q:AV->aF->Prop}{q:Exit}{r r1 r2:AV}{t1 t2:Tmp}
theorem Rt(F:Q r [])(D:fn.results=#[.tmp t1]:=by rfl)(G:E.get t1=A r:=by rfl)(B:Clo [] r:=by simp):OG P fn [] Q .ret E H:=cT (.inr Z) D (aI G) (Fin.wk B T_ T_) F
theorem Ru(F:Q (.tup [r1,r2]) [])(D:fn.results=#[.tmp t1,.tmp t2]:=by rfl)(G:E.get t1=A r1:=by rfl)(I:E.get t2=A r2:=by rfl)(B:Clo [] (.tup [r1,r2]):=by simp):OG P fn [] Q .ret E H:=gD (.inr Z) D (aI G) (aI I) (Fin.wk B T_ T_) F
theorem C1{u4:TypeId}{i:Nat}(D:∀w,(isAgg u4).run P w=.ok T w)(J:∀w,(sizeOf u4).run P w=.ok n w)(K:E.get t1=A (.ref id g i k):=by rfl)(B:H.get id=A ob:=by rfl)(F:ob.g=g:=by rfl)(hi:ob.rows[i]?=A cells:=by rfl)(G:(cells.drop k).take n=cs:=by rfl)(I:C cs=n:=by rfl):PM P E H (.cell t1 u4) (.agg cs):=fG K D J B F hi G I
theorem Bd{c:Code}(F:P.funcs[f]?=A fn)(E:fn.body=A c)(D:fn.ntmps=r4)(h:fW P H r4 c (OG P fn H Q) (oN args) H)(B:C args<=r4:=by exact r_ Z):aU P f args H Q:=aU.body F E D B h
end
section
variable{Q:Exit->dG->aF->Prop}{E':dG}
theorem Cn{x y:Code}(B:b=T->fW P G0 r4 x Q E H)(D:b=η->fW P G0 r4 y Q E H)(F:aQ E c=A (.pv (.bool b)):=by rfl):fW P G0 r4 (.cond c x y) Q E H:=Rb F B D
theorem Sp(t:Tmp){l:List Oper}(B:b=T->AL P G0 r4 ops K l ((t,.pv (.bool T))::E) H)(D:b=η->AL P G0 r4 ops K l ((t,.pv (.bool η))::E) H)(F:E.get t=A (.pv (.bool b)):=by rfl):AL P G0 r4 ops K l E H:=Ro F B D
theorem Wk(B:Hl E H' E':=by repeat' first|exact trivial|refine⟨⟨_,Z,Z⟩,?_,?_⟩|(simp;done)|(simp;rfl))(D:ee H H' H':=by repeat' first|exact trivial|refine⟨⟨_,Z,Z⟩,?_,?_⟩|(simp;done)|(simp;rfl))(F:Hj H' H G0:=by repeat' first|exact trivial|refine⟨Z,?_⟩):cH G0 E H E' H':=cH.wk B D F
theorem E0(h:Si E E':=by repeat' first|exact trivial|refine⟨⟨_,Z,Z⟩,?_⟩):cH G0 E H E' H:=cH.e0 h
theorem Fu{t:Tmp}(G:AL P G0 r4 ops K rest (nR E dst (.tup [])) H)(F:jZ ops.toList j=A t:=by rfl)(B:E.get t=A (.tup []):=by rfl)(D:jI r4 dst=T:=by rfl):AL P G0 r4 ops K (⟨dst,op,ty,pos,af,A (j,want)⟩::rest) E H:=rF Z F B D G
end
section
variable{ops rest:List Oper}{K:List Rec->dG->aF->Prop}
theorem Nt(h:cP P r4 ⟨dst,op,ty,pos,af,A (j,T)⟩ (restr E (jD ops ⟨dst,op,ty,pos,af,A (j,T)⟩)) H v H)(G:DC P r4 ops rest (nR E dst v) H (λrs E' H'=>K (⟨v,ζ,[]⟩::rs) E' H'))(F:jZ ops j=A t:=by rfl)(B:E.get t=A (.pv (.bool b)):=by rfl)(I:b=T:=by first|rfl|assumption)(D:jI r4 dst=T:=by rfl):DC P r4 ops (⟨dst,op,ty,pos,af,A (j,T)⟩::rest) E H K:=iP (aBP Z F B I h) D G
theorem Nf(h:cP P r4 ⟨dst,op,ty,pos,af,A (j,η)⟩ (restr E (jD ops ⟨dst,op,ty,pos,af,A (j,η)⟩)) H v H)(G:DC P r4 ops rest (nR E dst v) H (λrs E' H'=>K (⟨v,ζ,[]⟩::rs) E' H'))(F:jZ ops j=A t:=by rfl)(B:E.get t=A (.pv (.bool b)):=by rfl)(I:b=η:=by first|rfl|assumption)(D:jI r4 dst=T:=by rfl):DC P r4 ops (⟨dst,op,ty,pos,af,A (j,η)⟩::rest) E H K:=iP (aBQ Z F B I h) D G
end
theorem Zl:(∀ {α:Type} (a:α) (l:List α) (i:Nat),(a::l).drop (i+1)=l.drop i)/\(∀ {α:Type} (l:List α),l.drop 0=l)/\(∀ {α:Type} (a:α) (l:List α) (i:Nat),(a::l).take (i+1)=a::l.take i)/\(∀ {α:Type} (l:List α),l.take 0=[])/\(∀ {α:Type} (i:Nat),([]:List α).take i=[]) /\
  (∀ {α β:Type} (f:α->β) (a:α) (l:List α),(a::l).map f=f a::l.map f)/\(∀ {α β:Type} (f:α->β),[].map f=[])/\(∀ {α:Type} (a b:α) (l:List α),(a::l).set 0 b=b::l)/\(∀ {α:Type} (a b:α) (l:List α) (i:Nat),(a::l).set (i+1) b=a::l.set i b) /\
  (∀ {α:Type} (a:α) (l l2:List α),(a::l)++l2=a::(l++l2))/\(∀ {α:Type} (l:List α),[]++l=l) :=
 ⟨λ_ _ _=>rfl,λ_=>rfl,λ_ _ _=>rfl,λl=>by simp,λ_=>by simp,λ_ _ _=>rfl,λ_=>rfl,λ_ _ _=>rfl,λ_ _ _ _=>rfl,λ_ _ _=>rfl,λ_=>rfl⟩
theorem Zo:(∀b:Bool,(η&&b)=η)/\(∀b:Bool,(T&&b)=b)/\(∀b:Bool,(b&&η)=η)/\(∀b:Bool,(b&&T)=b)/\(∀b:Bool,(T||b)=T)/\(∀b:Bool,(η||b)=b)/\(∀b:Bool,(b||true)=T)/\(∀b:Bool,(b||false)=b)/\(!T)=η/\(!η)=T:=H_
end
theorem Ea{t:Nat}(r:Hl E H' L)(B:∃v0,E.get t=A v0/\v0=v:=by exact⟨_,Z,Z⟩)(D:Clo H' v:=by simp;rfl):Hl E H' ((t,v)::L):=⟨B,D,r⟩
theorem Eb{t:Nat}(r:Hl E H' L)(B:∃v0,E.get t=A v0/\v0=v:=by exact⟨_,Z,Z⟩)(D:Clo H' v:=by simp):Hl E H' ((t,v)::L):=⟨B,D,r⟩
theorem Ec{t:Nat}(D:Clo H' v)(r:Hl E H' L)(B:∃v0,E.get t=A v0/\v0=v:=by exact⟨_,Z,Z⟩):Hl E H' ((t,v)::L):=⟨B,D,r⟩
theorem Ha{t:Nat}{L:aF}(r:ee H H' L)(B:∃v0,H.get t=A v0/\v0=o:=by exact⟨_,Z,Z⟩)(D:∀r∈o.rows,∀a∈r,Clo H' a:=by simp;rfl):ee H H' ((t,o)::L):=⟨B,D,r⟩
theorem Hb{t:Nat}{L:aF}(r:ee H H' L)(B:∃v0,H.get t=A v0/\v0=o:=by exact⟨_,Z,Z⟩)(D:∀r∈o.rows,∀a∈r,Clo H' a:=by simp):ee H H' ((t,o)::L):=⟨B,D,r⟩
theorem Hc{t:Nat}{L:aF}(D:∀r∈o.rows,∀a∈r,Clo H' a)(r:ee H H' L)(B:∃v0,H.get t=A v0/\v0=o:=by exact⟨_,Z,Z⟩):ee H H' ((t,o)::L):=⟨B,D,r⟩
section
variable{P:Program}{r4:Nat}{o:Oper}{u4 t t' e:TypeId}{x y:Operand}{id g i k:Nat}{ob:Ob}{r r' cells:List AV}{rows':List (List AV)}{kk:IntKind}
theorem kc{F:FuncId}{f:Operand}{args:Array Operand}{at_:Array TypeId}{Q:AV->aF->Prop}(B:∀(args:Array Value) (w:World),(callFunc F args).run P w=.ok (.enter F args) w)(h:aU P F vs H Q)(G:o.op=.call {callee:=.value f,args:=args,argTypes:=at_}:=by rfl)(D:aQ E f=A (.pv (.fn F)):=by rfl)(I:zF E args.toList=A vs:=by rfl):nv P r4 o E H Q:=bH G D B I h
theorem kl(id:Nat)(D:eU P u4 cells)(G:o.op=.alloc u4:=by rfl)(F:C cells=n+1:=by rfl)(B:H.get id=ζ:=by rfl):cP P r4 o E H (.ref id 0 0 0) ((id,⟨0,n+1,u4,[cells]⟩)::H):=CN G D F B
theorem kb(id:Nat)(G:o.op=.box u4 x:=by rfl)(I:aQ E x=A v:=by rfl)(D:RD v=A cells:=by rfl)(F:C cells=n+1:=by rfl)(B:H.get id=ζ:=by rfl):cP P r4 o E H (.ref id 0 0 0) ((id,⟨0,n+1,u4,[cells]⟩)::H):=tL G I D F B
theorem ka{n m:Int}{q:Int}(D:kk.wrap (n+m)=q)(B:o.op=.binOp .add t x y u4:=by rfl)(F:aQ E x=A (.pv (.int kk n)):=by rfl)(G:aQ E y=A (.pv (.int kk m)):=by rfl):cP P r4 o E H (.pv (.int kk q)) H:=dD B F G D
theorem kp(B:o.op=.binOp .add t x y u4:=by rfl)(D:aQ E x=A (.pv (.int .i64 (n:Int))):=by rfl)(F:aQ E y=A (.pv (.int .i64 1)):=by rfl)(G:n<9223372036854775807:=by omega):cP P r4 o E H (.pv (.int .i64 ((n+1:Nat):Int))) H:=dD B D F (by rw[lT X X];omega)
theorem kq{u:B_}(B:o.op=.binOp .add t x y t':=by rfl)(F:aQ E x=A (.pv (.str s)):=by rfl)(G:aQ E y=A (.pv (.str u)):=by rfl)(D:s.size+u.size<=9223372036854775807:=by omega):cP P r4 o E H (.pv (.str (s++u))) H:=fJ B F G D Z
theorem ku(L:∀w,(sizeOf u4).run P w=.ok 1 w)(K:o.op=.store u4 x y:=by rfl)(Q:aQ E x=A (.ref id g i k):=by rfl)(R:aQ E y=A v:=by rfl)(G:RD v=A [v]:=by rfl)(F:H.get id=A ob:=by rfl)(I:ob.g=g:=by rfl)(hi:ob.rows[i]?=A r:=by rfl)(J:k<C r:=by exact r_ Z)(D:r.set k v=r':=by rfl)(B:ob.rows.set i r'=rows':=by rfl):cP P r4 o E H .any ((id,⟨g,ob.sz,ob.ty,rows'⟩)::H):=cM K L Q R G F I hi J D B
theorem kx{n:Int}{w:List PV}(D:fN P u4 e sz)(hi:rows[m]?=A w)(I:o.op=.indexAddr u4 x y:=by rfl)(J:aQ E x=A (.pv (.sl rows)):=by rfl)(K:aQ E y=A (.pv (.int kk n)):=by rfl)(B:0<=n:=by omega)(G:n.toNat=m:=by exact l_ _)(F:C w=sz:=by rfl):cP P r4 o E H (.pad rows m 0) H:=bP I D J K B G hi F
theorem ky{n:Int}(D:P.underlying u4=A .string)(G:o.op=.index u4 x y:=by rfl)(I:aQ E x=A (.pv (.str s)):=by rfl)(J:aQ E y=A (.pv (.int kk n)):=by rfl)(B:0<=n:=by omega)(F:n.toNat=m:=by exact l_ _)(hi:m<s.size:=by omega):cP P r4 o E H (.pv (.int .u8 (aZ s m))) H:=cK G D I J B F hi Z
end
section
variable{P:Program}{r4:Nat}{ops rest:List Oper}{K:List Rec->dG->aF->Prop}{w:Nat×Ob}
theorem Lt(R:List Nat)(h:∀H1:aF,(∀id,uF (A R) id=T->H1.get id=H.get id)->cP P r4 ⟨dst,op,ty,pos,af,A (j,T)⟩ (restr E (jD ops ⟨dst,op,ty,pos,af,A (j,T)⟩)) H1 v H1)(G:DC P r4 ops rest (nR E dst v) H (λrs E' H'=>K (⟨v,A R,[]⟩::rs) E' H'))(F:jZ ops j=A t:=by rfl)(B:E.get t=A (.pv (.bool b)):=by rfl)(I:b=T:=by first|rfl|assumption)(D:jI r4 dst=T:=by rfl):DC P r4 ops (⟨dst,op,ty,pos,af,A (j,T)⟩::rest) E H K:=iP (r:=⟨v,A R,[]⟩) (Nx Z F B I h) D G
theorem Lp(R:List Nat)(h:∀H1:aF,(∀id,uF (A R) id=T->H1.get id=H.get id)->cP P r4 ⟨dst,op,ty,pos,af,A (j,T)⟩ (restr E (jD ops ⟨dst,op,ty,pos,af,A (j,T)⟩)) H1 v (w::H1))(G:DC P r4 ops rest (nR E dst v) (w::H) (λrs E' H'=>K (⟨v,A R,[w]⟩::rs) E' H'))(F:jZ ops j=A t:=by rfl)(B:E.get t=A (.pv (.bool b)):=by rfl)(I:b=T:=by first|rfl|assumption)(D:jI r4 dst=T:=by rfl):DC P r4 ops (⟨dst,op,ty,pos,af,A (j,T)⟩::rest) E H K:=iP (r:=⟨v,A R,[w]⟩) (Nx Z F B I h) D G
end
section
variable{P:Program}{r4:Nat}{o:Oper}{H H1:aF}{u4:TypeId}{x y:Operand}{id g i k n:Nat}{ob:Ob}{R:Option (List Nat)}{r r' cells:List AV}{rows':List (List AV)}
theorem su(Q:∀w,(sizeOf u4).run P w=.ok 1 w)(h:∀id,uF R id=T->H1.get id=H.get id)(L:o.op=.store u4 x y:=by rfl)(W:aQ E x=A (.ref id g i k):=by rfl)(a:aQ E y=A v:=by rfl)(G:RD v=A [v]:=by rfl)(K:uF R id=T:=by rfl)(F:H.get id=A ob:=by rfl)(I:ob.g=g:=by rfl)(hi:ob.rows[i]?=A r:=by rfl)(J:k<C r:=by exact r_ Z)(D:r.set k v=r':=by rfl)(B:ob.rows.set i r'=rows':=by rfl):cP P r4 o E H1 .any ((id,⟨g,ob.sz,ob.ty,rows'⟩)::H1):=cM L Q W a G ((h _ K).trans F) I hi J D B
theorem sx(W:∀w,(sizeOf u4).run P w=.ok n w)(h:∀id,uF R id=T->H1.get id=H.get id)(Q:o.op=.store u4 x y:=by rfl)(a:aQ E x=A (.ref id g i k):=by rfl)(b:aQ E y=A v:=by rfl)(G:RD v=A cells:=by rfl)(L:C cells=n:=by rfl)(K:uF R id=T:=by rfl)(F:H.get id=A ob:=by rfl)(I:ob.g=g:=by rfl)(hi:ob.rows[i]?=A r:=by rfl)(J:k+n<=C r:=by exact r_ Z)(D:r.take k++(cells++r.drop (k+n))=r':=by rfl)(B:ob.rows.set i r'=rows':=by rfl):cP P r4 o E H1 .any ((id,⟨g,ob.sz,ob.ty,rows'⟩)::H1):=qZ Q W a b G L ((h _ K).trans F) I hi J D B
theorem sa(L:∀w,(sizeOf u4).run P w=.ok n w)(h:∀id,uF R id=T->H1.get id=H.get id)(K:o.op=.store u4 x y:=by rfl)(Q:aQ E x=A (.ref id g 0 0):=by rfl)(W:aQ E y=A v:=by rfl)(D:RD v=A cells:=by rfl)(J:C cells=n:=by rfl)(I:uF R id=T:=by rfl)(B:H.get id=A ob:=by rfl)(F:ob.g=g:=by rfl)(hi:ob.rows=[r]:=by rfl)(G:C r=n:=by rfl):cP P r4 o E H1 .any ((id,⟨g,ob.sz,ob.ty,[cells]⟩)::H1):=mE K L Q W D J ((h _ I).trans B) F hi G
end
section
variable{P:Program}{G0:aF}{r4:Nat}{H H2:aF}{Q:Exit->dG->aF->Prop}
theorem V(h:cP P r4 ⟨A d,op,ty,pos,af,ζ⟩ E H v H2)(B:K ((d,v)::E) H2)(D:Nat.blt d r4=T:=by rfl):AL P G0 r4 ops K [⟨A d,op,ty,pos,af,ζ⟩] E H:=Y h (Zz B) D
theorem U(h:cP P r4 ⟨A d,op,ty,pos,af,ζ⟩ E H v H2)(B:AL P G0 r4 ⟨⟨A d,op,ty,pos,af,ζ⟩::rest⟩ (λE H=>zJ (fW P G0 r4 y Q) Q .normal E H) rest ((d,v)::E) H2)(D:Nat.blt d r4=T:=by rfl):fW P G0 r4 (.seq (.region id ⟨⟨A d,op,ty,pos,af,ζ⟩::rest⟩ η) y) Q E H:=Sr (Y h B D)
theorem Sz(h:cP P r4 ⟨A d,op,ty,pos,af,ζ⟩ E H v H2)(B:zJ (fW P G0 r4 y Q) Q .normal ((d,v)::E) H2)(D:Nat.blt d r4=T:=by rfl):fW P G0 r4 (.seq (.region id ⟨[⟨A d,op,ty,pos,af,ζ⟩]⟩ η) y) Q E H:=Sr (Y h (Zz B) D)
theorem Rd(h:cP P r4 ⟨A d,op,ty,pos,af,ζ⟩ E H v H2)(B:AL P G0 r4 ⟨⟨A d,op,ty,pos,af,ζ⟩::rest⟩ (λE H=>Q .normal E H) rest ((d,v)::E) H2)(D:Nat.blt d r4=T:=by rfl):fW P G0 r4 (.region id ⟨⟨A d,op,ty,pos,af,ζ⟩::rest⟩ η) Q E H:=Rg (Y h B D)
end
end
def Pi:PV->Bool
 |.int _ _=>T
 |.bool _=>T
 |.str _=>T
 |_=>η
theorem PRep.flat{w w'}{I b}{v}{p}(h:PRep w I v p)(a:Pi p=T):PRep w' b v p:=by cases h<;>first|(constructor;done)|(simp[Pi]at a)
def RO(P:Program)(f:FuncId)(args:List AV)(H:aF)(p:PV):Prop :=∀(I:Nat->Prop) (ι:mD) (w:World) (vs:Array Value),Rel I ι H w->vs.size=C args->(∀(i:Nat) (v:Value) (a:AV),vs[i]?=A v->args[i]?=A a->VRel w I ι H v a) ->
  Calls P f vs w λe w'=>∃v,e=.returned v/\(∀B I2,PRep B I2 v p)/\w'.os=w.os/\w'.tape=w.tape/\w'.output=w.output/\w.heap.size<=w'.heap.size /\
   (∀a,a.block<w.heap.size->w'.frozen? a=w.frozen? a)/\∀b,b<w.heap.size->w'.heap[b]?=w.heap[b]?
theorem RO.of{P}{f}{args}{p}(h:aU P f args [] (λr H=>r=.pv p/\H=[]))(m:Pi p=T):RO P f args [] p:=by
 intro I o w vs l j i;refine(h I _ w _ l j i).mono ?_;rintro e w' ⟨r,H',I',ι',v,rfl,⟨rfl,rfl⟩,q,k2,c⟩;have d:∀b,¬ OF o [] b:=λb ⟨_,_,_,k,_⟩=>by cases k
 exact⟨v,Z,λB I2=>q.pv_inv.flat m,c.os,c.tape,c.output,c.size,λa n=>c.froz a n (d _),λb g=>c.keep b g (d b)⟩
theorem RO.lend{P}{f}{args args'}{p}{H H1}{id}{ob}(ps)(h:RO P f args' H1 p)(g:H.get id=A ob)(c:ob.rows=ps.map (·.map .pv))(E:C args=C args')
  (m:∀(i:Nat) (a B),args[i]?=A a->args'[i]?=A B->Fz H1 id ob.g ps a B) (j:Sub H1 H) (o:dN H1) (e:H1.get id=ζ):RO P f args H p:=by
 intro I ι w vs k D n;refine h _ _ w _ (k.freeze j o g e) X ?_;intro i v B l b;have d:i<C args:=by
  have:=(m9.1 b).1;omega
 exact VRel.freeze k j g c (m i _ _ (n_ d) b) (n i v _ l (n_ _))
theorem RO.calls{P}{f}{args}{p}{H}(h:RO P f args H p):aU P f args H (λr H'=>r=.pv p/\H'=H):=by
 intro I n w vs d z k;refine(h I _ w _ d z k).mono ?_;rintro e w' ⟨v,rfl,y,u,t,x,l,q,m⟩;have c:Step I _ H w I n H _ :=
  ⟨u,t,x,l,λa s _=>q a s,λ_ h=>h,λ_ h=>.inl h,λ_ h=>.inl h,λb j _=>m b j,λid o i=>⟨o,i,h_ _,λ_=>⟨Z,Z,λ_=>h_ _⟩⟩⟩
 refine⟨.pv p,H,I,n,v,Z,⟨Z,Z⟩,.pv (y _ _),?_,c⟩;refine⟨λb j=>Nat.lt_of_lt_of_le (d.imm b j) l,λid o i=>?_,d.inj,c.glob d⟩;exact(d.obj _ o i).keep Z (λB _ _ g=>⟨m _ g,λh=>h⟩) (λr _ a _ v k=>k.mono d c)
theorem eZ{P}{G0}{r4}{Q}{E}{H}{h}(f_:α->β->dG×aF)(D:α->β->Prop)(g:α->β->Nat)(e)(c)(i:D e c)(f:cH G0 E H (f_ e c).1 (f_ e c).2)
  (round:∀a b,D a b->fW P G0 r4 h (zJ (λE' H'=>∃B d,D B d/\g B d<g a b/\cH G0 E' H' (f_ B d).1 (f_ B d).2) Q) (f_ a b).1 (f_ a b).2):fW P G0 r4 (.loop h) Q E H:=by
 refine bF (λs=>f_ s.1 s.2) (λs=>D s.1 s.2) (λs=>g s.1 s.2) (e,c) i f ?_
 simp_all
theorem CI{P}{G0}{r4}{Q}{E}{H}{j}(f_:α->β->γ->dG×aF)(F:α->β->γ->Prop)(h:α->β->γ->Nat)(f)(d)(g)(k:F f d g)(i:cH G0 E H (f_ f d g).1 (f_ f d g).2)
  (round:∀a b c,F a b c->fW P G0 r4 j (zJ (λE' H'=>∃B e D,F B e D/\h B e D<h a b c/\cH G0 E' H' (f_ B e D).1 (f_ B e D).2) Q) (f_ a b c).1 (f_ a b c).2):fW P G0 r4 (.loop j) Q E H:=by
 refine bF (λs=>f_ s.1 s.2.1 s.2.2) (λs=>F s.1 s.2.1 s.2.2) (λs=>h s.1 s.2.1 s.2.2) (f,d,g) k i ?_
 simp_all
theorem Y6{P}{G0}{r4}{Q}{E}{H}{l}{I:Type}(f_:α->β->γ->I->dG×aF)(F:α->β->γ->I->Prop)(j:α->β->γ->I->Nat)(h)(e)(i)(f)(m:F h e i f)(k:cH G0 E H (f_ h e i f).1 (f_ h e i f).2)
  (round:∀a b c d,F a b c d->fW P G0 r4 l (zJ (λE' H'=>∃B g D G,F B g D G/\j B g D G<j a b c d/\cH G0 E' H' (f_ B g D G).1 (f_ B g D G).2) Q) (f_ a b c d).1 (f_ a b c d).2):fW P G0 r4 (.loop l) Q E H:=by
 refine bF (λs=>f_ s.1 s.2.1 s.2.2.1 s.2.2.2) (λs=>F s.1 s.2.1 s.2.2.1 s.2.2.2) (λs=>j s.1 s.2.1 s.2.2.1 s.2.2.2) (h,e,i,f) m k ?_
 simp_all
theorem cy(f:α->List _)(l:List _)(H):∀r∈l.map (λe=>(f e).map AV.pv),∀a∈r,Clo H a:=H_
theorem jA{H}{id g}{ps}:∀(i:Nat) (a B),[][i]?=A a->[][i]?=A B->Fz H id g ps a B:=λi a B h=>by simp
theorem bA{H}{id g}{ps}{x d}{l e}(h:Fz H id g ps x d)(f:∀(i:Nat) (a a'),l[i]?=A a->e[i]?=A a'->Fz H id g ps a a'):
  ∀(i:Nat) (a a'),(x::l)[i]?=A a->(d::e)[i]?=A a'->Fz H id g ps a a'
 |0,a,a',c,b=>by cases c;cases b;exact h
 |i+1,a,a',c,b=>f i a _ c b
inductive Nz(H':aF)(id:Nat):AV->AV->Prop
 |same {a:AV} (h:Clo H' a):Nz H' id a a
 |own:Nz H' id (.pv .nils) (.osl id 0 0 0)
 |weak:Nz H' id (.pv .nils) (.pv (.sl []))
 |agg {cs cs':List AV} (hl:C cs=C cs') (h:∀(i:Nat) (a a':AV),cs[i]?=A a->cs'[i]?=A a'->Nz H' id a a'):Nz H' id (.agg cs) (.agg cs')
 |tup {cs cs':List AV} (hl:C cs=C cs') (h:∀(i:Nat) (a a':AV),cs[i]?=A a->cs'[i]?=A a'->Nz H' id a a'):Nz H' id (.tup cs) (.tup cs')
def As(H H':aF):Prop:=∀j B,H'.get j=A B->∃o,H.get j=A o/\o.g=B.g/\o.sz=B.sz/\o.ty=B.ty/\C o.rows=C B.rows
theorem VRel.alike{w:World}{I:Nat->Prop}{ι:mD}(r:As H H'){v:Value}{a:AV}(h:VRel w I ι H v a):Clo H' a->VRel w I ι H' v a:=by
 induction h with
 |any v=>exact λ_=>.any v
 |pv h=>exact λ_=>.pv h
 |ref o k x j h =>
  intro d;rw[DY]at d;have ⟨g,c⟩:=Option.isSome_iff_exists.1 d;have ⟨t,f,s,q,u,y⟩:=r _ g c;rw[k]at f;cases f;exact .ref g c X j (λe=>by simp_all)
 |pad b J B G h K z F E d D=>exact λ_=>.pad b J B G h K z F E d D
 |osl o k x j h =>
  intro d;rw[Zf]at d;have ⟨g,c⟩:=Option.isSome_iff_exists.1 d;have ⟨t,f,s,q,u,y⟩:=r _ g c;rw[k]at f;cases f;exact .osl g c X j (λe=>by simp_all)
 |clo p h m =>
  intro d;rw[Zh]at d;exact .clo p (λi v a n l=>m i v a n l (d a (m7 l)))
 |bnd p h m =>
  intro d;rw[Zi]at d;exact .bnd p (λi v a n l=>m i v a n l (d a (m7 l)))
 |agg p j h m =>
  intro d;rw[cz]at d;exact .agg p j (λi v a n l=>m i v a n l (d a (m7 l)))
 |tup p h m =>
  intro d;rw[Ze]at d;exact .tup p (λi v a n l=>m i v a n l (d a (m7 l)))
 |mp o k x j h =>
  intro d;rw[aC7]at d;have ⟨g,c⟩:=Option.isSome_iff_exists.1 d;have ⟨t,f,s,q,u,y⟩:=r _ g c;rw[k]at f;cases f;exact .mp g c X j (λe=>by simp_all)
 |it o k x j h =>
  intro d;rw[aC8]at d;have ⟨g,c⟩:=Option.isSome_iff_exists.1 d;have ⟨t,f,s,q,u,y⟩:=r _ g c;rw[k]at f;cases f;exact .it g c X j (λe=>by simp_all)
 |yld o k x j h =>
  intro d;rw[Zc]at d;have ⟨g,c⟩:=Option.isSome_iff_exists.1 d;have ⟨t,f,s,q,u,y⟩:=r _ g c;rw[k]at f;cases f;exact .yld g c X j (λe=>by simp_all)
 |osc o k x j h =>
  intro d;rw[Zg]at d;have ⟨g,c⟩:=Option.isSome_iff_exists.1 d;have ⟨t,f,s,q,u,y⟩:=r _ g c;rw[k]at f;cases f;exact .osc g c X j (λe=>by rw[<-q];exact h X)
theorem Nz.raw{H'}{id}{a B}(h:Nz H' id a B){y}{b}(e:B=.raw y b):a=.raw y b:=by cases h<;>first|exact e|cases e
theorem VRel.nz{w}{I}{ι}{H H'}{id}{ob:Ob}(t:As H H')(l:ι id=ζ)(g:H'.get id=A ob)(D:ob.g=0)(e:0<ob.sz){a B}(s:Nz H' id a B):∀ {v},VRel w I ι H v a->VRel w I ι H' v B:=by
 induction s with
 |same h=>exact λc=>c.alike t h
 |own =>
  intro v c;have:=c.pv_inv;cases this;exact .osl ob g X Z (λ_=>⟨e,X,.inr ⟨l,Z,Z,Z⟩⟩)
 |weak =>
  intro v c;have:=c.pv_inv;cases this;exact .pv .nilsl
 | @agg j n o h k =>
  intro v c;cases c with
  |agg d x q =>
   refine .agg (d.trans o) x (λi u B m b=>?_);have f:=getElem?_eq_getElem (l:=j) (i:=i) (by have:=(m9.1 b).1;omega);exact k i _ B f b (q i u _ m f)
 | @tup j n o h k =>
  intro v c;cases c with
  |tup d q =>
   refine .tup (d.trans o) (λi u B m b=>?_);have f:=getElem?_eq_getElem (l:=j) (i:=i) (by have:=(m9.1 b).1;omega);exact k i _ B f b (q i u _ m f)
def NzL(H:aF)(id:Nat):List AV->List AV->Prop
 | [],[]=>True
 |a::l,b::r=>Nz H id a b/\NzL H id l r
 |_,_=>False
theorem NzL.spec{H}{id}:∀ {l r},NzL H id l r->C l=C r/\∀(k:Nat) (a b),l[k]?=A a->r[k]?=A b->Nz H id a b
 | [],[],_=>⟨Z,λk a b h=>by grind⟩
 | a::l,b::r,h=>⟨by simp [(NzL.spec h.2).1],λk x y c d=>by
   cases k with
   |zero=>cases c;cases d;exact h.1
   |succ k=>exact(NzL.spec h.2).2 k x y c d⟩
 | [],_::_,h=>h.elim
 |_::_,[],h=>h.elim
def NzR(H:aF)(id:Nat)(rows rows':List (List AV)):Prop:=(rows=rows'/\∀r∈rows',∀a∈r,Clo H a)\/∃r r',rows=[r]/\rows'=[r']/\NzL H id r r'
theorem NzR.spec{H}{rows rows'}(h:NzR H id rows rows'):C rows=C rows'/\∀(i:Nat) (r'),rows'[i]?=A r'->∃r,rows[i]?=A r/\C r=C r'/\∀(k:Nat) (b:AV),r'[k]?=A b->∃a,r[k]?=A a/\Nz H id a b:=by
 rcases h with⟨rfl,f⟩|⟨r,r',rfl,rfl,e⟩
 .exact⟨Z,λi r' c=>⟨r',c,Z,λk b d=>⟨b,d,.same (f r' (m7 c) b (m7 d))⟩⟩⟩
 refine⟨Z,λi r2 c=>?_⟩;cases i with
 |zero =>
  have ⟨B,D⟩:=e.spec
  grind
 |succ i=>grind
def NzE(E:dG)(H:aF)(id:Nat):dG->Prop
 | []=>True
 |(t,v)::r=>(∃v0,E.get t=A v0/\Nz H id v0 v)/\NzE E H id r
theorem NzE.spec{E}{H}{id}:∀ {E'},NzE E H id E'->∀p∈E',∃v0,E.get p.1=A v0/\Nz H id v0 p.2
 |(t,v)::r,h,p,a=>by
  rcases l9.1 a with e|e
  .subst e;exact h.1
  exact NzE.spec h.2 p e
def NzH(H H2:aF)(id:Nat):aF->Prop
 | []=>True
 |(j,o')::r=>(∃o,H.get j=A o/\o.g=o'.g/\o.sz=o'.sz/\o.ty=o'.ty/\NzR H2 id o.rows o'.rows)/\NzH H H2 id r
theorem NzH.spec{H H2}{id}:∀ {H'},NzH H H2 id H'->∀p∈H',∃o,H.get p.1=A o/\o.g=p.2.g/\o.sz=p.2.sz/\o.ty=p.2.ty/\NzR H2 id o.rows p.2.rows
 |(j,o')::r,h,p,a=>by
  rcases l9.1 a with e|e
  .subst e;exact h.1
  exact NzH.spec h.2 p e
theorem cH.nz{G0:aF}{E':dG}(id sz ty:Nat)(P:H.get id=ζ)(τ:Nat.blt 0 sz=T)(hE:NzE E ((id,⟨0,sz,ty,[]⟩)::H') id E')(hH:NzH H ((id,⟨0,sz,ty,[]⟩)::H') id H')(hk:Hj ((id,⟨0,sz,ty,[]⟩)::H') H G0):
  cH G0 E H E' ((id,⟨0,sz,ty,[]⟩)::H'):=by
 intro G hG r4 a w A_;obtain ⟨I,ι,hr,d_,he⟩:=A_.rel;obtain ⟨B,R⟩:=hr.adopt (sz:=sz) (ty:=ty) P (by simp_all);have c_:0<sz:=by simp_all
 have ⟨f,K⟩:∃f:mD,f=(λj=>if j=id then ζ else ι j):=X_;rw[<-K]at B R;have n:f id=ζ:=F_
 obtain ⟨x,s⟩:∃x:aF,x=(id,(⟨0,sz,ty,[]⟩:Ob))::H:=X_;obtain ⟨q,i_⟩:∃q:aF,q=(id,(⟨0,sz,ty,[]⟩:Ob))::H':=X_;rw[<-s]at B R;rw[<-i_]at hE hH hk |-;have g1:x.get id=A ⟨0,sz,ty,[]⟩:=by rw[s];simp[aF.get]
 have g2:q.get id=A ⟨0,sz,ty,[]⟩:=by rw[i_];simp[aF.get]
 have n1:∀j,j≠id->x.get j=H.get j:=λj e=>by rw[s];simp[aF.get,kE (Ne.symm e)]
 have n2:∀j,j≠id->q.get j=H'.get j:=λj e=>by rw[i_];simp[aF.get,kE (Ne.symm e)]
 have g:∀j l,q.get j=A l->∃o,x.get j=A o/\o.g=l.g/\o.sz=l.sz/\o.ty=l.ty/\NzR q id o.rows l.rows:=by
  intro j l p;by_cases e:j=id
  .subst e;rw[g2]at p;cases p;exact⟨_,g1,Z,Z,Z,.inl ⟨Z,by simp⟩⟩
  rw[n2 j e]at p;have ⟨o,m,u⟩:=hH.spec _ (eH p)
  simp_all
 have L:As x q:=λj l p=>by
  obtain ⟨o,m,u,e3,e4,e5⟩:=g j l p;exact⟨o,m,u,e3,e4,e5.spec.1⟩
 have Q:∀b,OF f q b->OF f x b:=by
  rintro b ⟨j,l,c,p,u4⟩;obtain ⟨o,m,_⟩:=g j l p;exact⟨j,o,c,m,u4⟩
 have D:Rel I f q w:=by
  refine⟨B.imm,λj l p=>?_,λj j' o l b c c' J y_=>?_,B.glob⟩
  .have ⟨o,m,u,e3,e4,e5⟩:=g j l p;have ⟨s1,s2⟩:=e5.spec;refine(B.obj j o m).keepG e3.symm e4.symm s1.symm (gi s1 (λi r' hi=>by
    obtain ⟨r,t1,t2,u_⟩:=s2 i r' hi;refine⟨r,t1,t2,λk a z_ h1 h2 y ts e=>?_⟩;obtain ⟨z,F,u2⟩:=u_ k z_ h2;rw[h1]at F;cases F;exact u2.raw e)) Z (λ_ _ _ _=>⟨Z,λh=>h⟩) (λi r' hi=>?_)
   obtain ⟨r,t1,t2,u_⟩:=s2 i r' hi;refine⟨r,t1,t2,λk a z_ h1 h2 v f_=>?_⟩;obtain ⟨y,F,u2⟩:=u_ k z_ h2;rw[h1]at F;cases F;exact VRel.nz L n g2 Z c_ u2 f_
  obtain ⟨v_,m,_⟩:=g j o J;obtain ⟨o2,u,_⟩:=g j' l y_;exact B.inj j j' v_ o2 b c c' m u
 have d:=d_.trans R;have o_:Step G.I G.ι G.H G.w I f q w:=by
  refine⟨d.os,d.tape,d.output,d.size,d.froz,d.imm,d.immNew,λb u4=>d.own b (Q b u4),d.keep,λj o J=>?_⟩;obtain ⟨v_,m,u⟩:=d.objs j o J;subst hG;have W:=hk.kept j (by rw[J];rfl);by_cases e:j=id
  .subst e;obtain ⟨o0,e0,_⟩:=d_.objs j o J;rw[P]at e0;cases e0
  rw[n1 j e]at m;exact⟨v_,W.trans m,u⟩
 refine⟨A_.defers,A_.size,I,f,D,o_,λt v f_=>?_⟩;have ⟨v0,f1,f2⟩:=hE.spec _ (iS f_);have ⟨c,c1,c2⟩:=he t v0 f1;exact⟨c,c1,VRel.nz L n g2 Z c_ f2 (c2.mono hr R)⟩
class W_(H:aF)(R:List (List AV)):Prop where o:∀r∈R,∀a∈r,Clo H a
theorem L_{G0 H H':aF}{E E':dG}(B:Hl E H' E':=by repeat' first|exact trivial|refine⟨⟨_,rfl,rfl⟩,?_,?_⟩|(simp;done)|(simp;rfl)|(simp;exact⟨rfl,rfl⟩))(D:ee H H' H':=by repeat' first|exact trivial|refine⟨⟨_,rfl,rfl⟩,?_,?_⟩|exact W_.o|(dsimp only;exact W_.o)|(simp;done)|(simp;rfl)|(simp;exact⟨rfl,rfl⟩)|(simp;exact⟨rfl,rfl,rfl⟩)|(simp;exact⟨rfl,rfl,rfl,rfl⟩)|(simp;exact⟨rfl,rfl,rfl,rfl,rfl⟩))(F:Hj H' H G0:=by repeat' first|exact trivial|refine⟨rfl,?_⟩):cH G0 E H E' H':=cH.wk B D F
theorem P_{G0 H H':aF}{r:AV}(c:Clo H' r:=by first|(simp;done)|(simp;rfl))(B:ee H H' H':=by repeat' first|exact trivial|refine⟨⟨_,rfl,rfl⟩,?_,?_⟩|exact W_.o|(dsimp only;exact W_.o)|(simp;done)|(simp;rfl)|(simp;exact⟨rfl,rfl⟩)|(simp;exact⟨rfl,rfl,rfl⟩)|(simp;exact⟨rfl,rfl,rfl,rfl⟩)|(simp;exact⟨rfl,rfl,rfl,rfl,rfl⟩))(D:Hj H' H G0:=by repeat' first|exact trivial|refine⟨rfl,?_⟩):Fin G0 H r H' r:=Fin.wk c B D
theorem Q_{G0 H H':aF}{E E':dG}(id sz ty:Nat)(P:H.get id=ζ:=by rfl)(B:Nat.blt 0 sz=T:=by rfl)(D:NzE E ((id,⟨0,sz,ty,[]⟩)::H') id E':=by repeat' first|exact trivial|refine⟨⟨_,rfl,(by first|exact Nz.own|exact Nz.same (by first|(simp;done)|(simp;rfl)|(simp;exact⟨rfl,rfl⟩)|(simp;exact⟨rfl,rfl,rfl⟩)))⟩,?_⟩)(F:NzH H ((id,⟨0,sz,ty,[]⟩)::H') id H':=by repeat' first|exact trivial|refine⟨⟨_,rfl,rfl,rfl,rfl,(by first|exact .inl ⟨rfl,(by first|exact W_.o|(dsimp only;exact W_.o)|(simp;done)|(simp;rfl)|(simp;exact⟨rfl,rfl⟩)|(simp;exact⟨rfl,rfl,rfl⟩)|(simp;exact⟨rfl,rfl,rfl,rfl⟩)|(simp;exact⟨rfl,rfl,rfl,rfl,rfl⟩))⟩|exact .inr ⟨_,_,rfl,rfl,(by repeat' first|exact trivial|refine⟨(by first|exact Nz.own|exact Nz.same (by first|(simp;done)|(simp;rfl)|(simp;exact⟨rfl,rfl⟩)|(simp;exact⟨rfl,rfl,rfl⟩))),?_⟩)⟩)⟩,?_⟩)(G:Hj ((id,⟨0,sz,ty,[]⟩)::H') H G0:=by repeat' first|exact trivial|refine⟨rfl,?_⟩):cH G0 E H E' ((id,⟨0,sz,ty,[]⟩)::H'):=cH.nz id sz ty P B D F G
end Go.Abs
namespace Go.Abs
open Go.Proofs.C
section
theorem Qg{H}(d:DataW H):1<=Rows.uptoBulk d:=by
 cases d with
 |lit l=>cases l<;>simp[Rows.uptoBulk]
 |_=>simp[Rows.uptoBulk]
theorem Qh{H}{d:DataW H}{l}(h:d∈l):Rows.uptoBulk d<=Rows.uptoBulkAll l:=by
 induction l with
 |nil=>cases h
 |cons x r B =>
  simp[Rows.uptoBulkAll]
  grind
theorem Qi{H}(l:List (DataW H)):C l<=Rows.uptoBulkAll l:=by
 induction l with
 |nil=>simp
 |cons x r B=>have:=Qg x;simp[Rows.uptoBulkAll,j6];omega
inductive PL(w:World)(I:Nat->Prop):List Value->List PV->Prop
 |nil:PL w I [] []
 |cons {c:Value} {p:PV} {cs:List Value} {ps:List PV} (h:PRep w I c p) (r:PL w I cs ps):PL w I (c::cs) (p::ps)
theorem PL.length{w}{I}{cs}{ps}(h:PL w I cs ps):C cs=C ps:=by
 induction h with
 |nil=>rfl
 |cons h r B=>grind
theorem PL.append{w}{I}{cs cs'}{ps a}(h:PL w I cs ps)(b:PL w I cs' a):PL w I (cs++cs') (ps++a):=by
 induction h with
 |nil=>exact b
 |cons h r c=>exact .cons h c
theorem PL.get{w}{I}{cs}{ps}(h:PL w I cs ps):∀(k:Nat) (c) (p),cs[k]?=A c->ps[k]?=A p->PRep w I c p:=by
 induction h with
 |nil=>simp_all
 |cons h r B =>
  grind
def JP(P:Program):Nat->List Field->Nat->Bool
 |o,[],n=>Nat.beq o n
 |o,f::r,n=>Nat.beq f.offset o&&JP P (o+P.cellsOf f.type) r n
def O3(P:Program)(e:TypeId):Nat->Nat->List Field
 |_,0=>[]
 |o,k+1=>⟨ "",e,o,η, "", "",0⟩::O3 P e (o+P.cellsOf e) k
theorem OB{P}{e}:∀ {o k},C (O3 P e o k)=k
 |_,0=>rfl
 |o,k+1=>congrArg _ (OB)
theorem ZA{P}{e}:∀ {k o i} {f},(O3 P e o k)[i]?=A f->f.type=e/\f.offset=o+i*P.cellsOf e
 |0,o,i,f,h=>by cases h
 |k+1,o,0,f,h=>by
  obtain rfl:=Option.some.inj h
  simp_all
 |k+1,o,i+1,f,h=>by
  have:=ZA (show (O3 P e _ k)[i]?=A f from h)
  grind
def EA(P:Program):Nat->TypeId->Bool
 |0,_=>η
 |n+1,t=>match P.underlying t with
  |some .bool=>T
  |some (.int _)=>T
  |some .string=>T
  |some (.slice e)=>EA P n e&&Nat.blt 0 (P.cellsOf e)
  |some (.struct fs)=>JP P 0 fs.toList (P.cellsOf t)&&fs.toList.all λf=>EA P n f.type
  |some (.array k e)=>JP P 0 (O3 P e 0 k) (P.cellsOf t)&&(O3 P e 0 k).all λf=>EA P n f.type
  |_=>η
def ShF(f_:TypeId->List PV->Prop)(c:TypeId->Nat):List Field->List PV->Prop
 | [],ps=>ps=[]
 |f::r,ps=>∃a b,ps=a++b/\C a=c f.type/\f_ f.type a/\ShF f_ c r b
def Sh(P:Program)(B:Nat):Nat->TypeId->List PV->Prop
 |0,_,_=>False
 |n+1,t,ps=>match P.underlying t with
  |some .bool=>∃b,ps=[.bool b]
  |some (.int k)=>∃i,ps=[.int k i]/\(Lit.int k i).wf=T
  |some .string=>∃s,ps=[.str s]/\s.size<=B
  |some (.slice e)=>∃rows,ps=[.sl rows]/\C rows<=B/\∀r∈rows,C r=P.cellsOf e/\Sh P B n e r
  |some (.struct fs)=>ShF (λt ps=>Sh P B n t ps) P.cellsOf fs.toList ps
  |some (.array k e)=>ShF (λt ps=>Sh P B n t ps) P.cellsOf (O3 P e 0 k) ps
  |_=>False
abbrev Ao(W:World):Nat->Prop:=λb=>b<W.heap.size
theorem Mu{W}{a}{v}(h:W.cell? a=A v):a.spot=ζ/\Ao W a.block:=by
 unfold World.cell? at h
 split at h
 .next c t fr e =>
  refine⟨?_,(Array.getElem?_eq_some_iff.1 e).1⟩
  simp_all
 grind
section
variable{H:Type}{enc:TypeId×Value->H}{P:Program}{W:World}{B:Nat}
theorem YZ{P}:∀ {fs} {o n},JP P o fs n=T->o<=n
 | [],o,n,h=>Nat.le_of_eq (Nat.eq_of_beq_eq_true h)
 |f::fs,o,n,h=>by
  simp[JP,l6]at h;have:=YZ h.2;omega
theorem N1{m n:Nat}{cs:List Value}(p:∀(t:TypeId) (cs:List Value) (x),EA P n t=T->DataW.trod enc P W 0 (λ_=>T) T m t cs=A x->Rows.uptoBulk x.1<=B->∃ps,PL W (Ao W) cs ps/\Sh P B n t ps):
  ∀(fs:List Field) (xs:List _) (o:Nat),JP P o fs (C cs)=T->(fs.all λf=>EA P n f.type)=T->C xs=C fs ->
   (∀(i:Nat) (f:Field),fs[i]?=A f->DataW.trod enc P W 0 (λ_=>T) T m f.type ((cs.drop f.offset).take (P.cellsOf f.type))=xs[i]?)->Rows.uptoBulkAll (xs.map (·.1))<=B ->
   ∃ps,PL W (Ao W) (cs.drop o) ps/\ShF (λt ps=>Sh P B n t ps) P.cellsOf fs ps
 | [],xs,o,c,_,l,d,j=>by
  have:o=C cs:=eq_of_beq_eq_true c;subst this;exact⟨[],by rw[drop_length];exact .nil,Z⟩
 |f::fs,[],o,c,_,l,d,j=>by grind
 | f::fs,x::xs,o,c,e,l,d,j=>by
  simp only[JP,l6]at c;have r:f.offset=o:=eq_of_beq_eq_true c.1;simp only[all_cons,l6]at e;simp only[map_cons,Rows.uptoBulkAll]at j;have k:=d 0 f Z;rw[r]at k;have ⟨a,q,s⟩:=p f.type _ x e.1 k X;have ⟨b,w,u⟩:=N1 p fs xs (o+P.cellsOf f.type) c.2 e.2 F_ (λi g v=>d (i+1) g v) X;have D:=YZ c.2;have h:C a=P.cellsOf f.type:=by
   rw[<-q.length,m_,p_];omega
  refine⟨a++b,?_,a,b,Z,h,s,u⟩;have:=q.append w
  rwa [<-drop_drop,take_append_drop]at this
theorem PU:∀(n:Nat) (t:TypeId),EA P n t=true->∀(m:Nat) (cs:List Value) (x:DataW H×List MemPlace),DataW.trod enc P W 0 (λ_=>true) true m t cs=some x->Rows.uptoBulk x.1<=B->∃ps,PL W (Ao W) cs ps/\Sh P B n t ps
 |0,t,y,m,cs,x,h,R=>by cases y
 | n + 1, t, y, m, cs, x, h, R => by
  unfold EA at y
  split at y
  ·next j =>
   obtain ⟨b,rfl,rfl⟩:=DataW.trod_bool j h;exact⟨[.bool b],.cons (.bool b) .nil,by unfold Sh;rw[j];exact⟨b,Z⟩⟩
  ·next k j =>
   obtain ⟨i,rfl,rfl,hw⟩:=DataW.trod_int j h;exact⟨[.int k i],.cons (.int k i) .nil,by unfold Sh;rw[j];exact⟨i,Z,hw⟩⟩
  ·next j =>
   obtain ⟨s,rfl,rfl,hs⟩:=DataW.trod_string j h;have d_:s.size<=B:=by
    have z_:s.data.toList.length=s.size:=Array.length_toList;simp only[Rows.uptoBulk]at R;omega
   exact⟨[.str s],.cons (.str s) .nil,by unfold Sh;rw[j];exact⟨s,Z,d_⟩⟩
  ·next e j =>
   simp only[l6,Nat.blt_eq]at y;obtain ⟨hpe,d_⟩:=y;rcases DataW.trod_slice j h with⟨rfl,rfl⟩|⟨a,u,f_,g,v_,K,rfl,rfl,rfl,_,hlc,hmax,hlen,u4,r4,_⟩
   ·exact⟨[.sl []],.cons .nilsl .nil,by unfold Sh;rw[j];exact⟨[],Z,by simp,by simp⟩⟩
   obtain ⟨hrl,r4⟩:=r4 Z;simp only[Rows.uptoBulk]at R;rcases Nat.eq_zero_or_pos f_ with hc0|hcpos
   ·have I:u=0:=by omega
    subst I hc0;exact⟨[.sl []],.cons (.empsl a) .nil,by unfold Sh;rw[j];exact⟨[],Z,by simp,by simp⟩⟩
   have e_:∃v,W.cell? a=some v:=by
    rcases Nat.eq_zero_or_pos u with I|hlp
    ·subst I;have G:=r4 0 X;have E:=getElem?_eq_getElem (l:=v_) (i:=0) X;rw[E,Option.bind_eq_some_iff]at G;have ⟨c0,u_,_⟩:=G;have ⟨_,q2,q3⟩:=World.cells?_some u_;have:=q3 0 d_;simp only[Nat.add_zero,Nat.zero_mul]at this;rw[Addr.add_zero',Addr.add_zero',n_ X]at this;exact⟨_,this⟩
    have G:=u4 0 hlp;have E:=List.getElem?_eq_getElem (l:=g) (i:=0) X;rw[E,Option.bind_eq_some_iff]at G;obtain ⟨c0,u_,_⟩:=G;obtain ⟨_,q2,q3⟩:=World.cells?_some u_;have:=q3 0 d_;simp only[Nat.zero_mul]at this;rw[Addr.add_zero',Addr.add_zero',n_ X]at this;exact⟨_,this⟩
   have ⟨v0,hv0⟩:=e_;have ⟨i_,F⟩:=Mu hv0;have ⟨b,z,sp⟩:=a;simp only at i_ F;subst i_;have Q:∀i,i<u->∃ps:List PV,∃w,W.cells? 0 (Addr.add ⟨b,z,none⟩ (i*P.cellsOf e)) (P.cellsOf e)=some w/\PL W (Ao W) w ps/\Sh P B n e ps:=by
    intro i D;have G:=u4 i D;have E:=List.getElem?_eq_getElem (l:=g) (i:=i) (by omega);rw[E,Option.bind_eq_some_iff]at G;obtain ⟨w,u_,q2⟩:=G;have hbi:Rows.uptoBulk (g[i]'(by omega)).1<=B:=by
     have:=Qh (List.mem_map_of_mem (f:=λx:DataW H×List MemPlace=>x.1) (List.getElem_mem (l:=g) (n:=i) X));omega
    obtain ⟨ps,s1,s2⟩:=PU n e hpe K w _ q2 hbi;exact⟨ps,w,u_,s1,s2⟩
   have ⟨d,r1,r2⟩:∃d:List (List PV),d.length=u/\∀i r,d[i]?=some r->∃w,W.cells? 0 (Addr.add ⟨b,z,none⟩ (i*P.cellsOf e)) (P.cellsOf e)=some w/\PL W (Ao W) w r/\Sh P B n e r:=by
    refine⟨(List.range u).map (λi=>if h:i<u then(Q i h).choose else[]),by simp,λi r q=>?_⟩
    grind
   have L:∀(i:Nat) (r:List PV),d[i]?=some r->r.length=P.cellsOf e:=λi r q=>by
    obtain ⟨w,y_,A_,c3⟩:=r2 i r q;rw[<-A_.length];exact(World.cells?_some y_).2.1
   refine⟨[.sl d],.cons ?_ .nil,by
    unfold Sh;rw[j];refine⟨d,Z,?_,λr q=>?_⟩
    ·have:=Qi (g.map (·.1));simp only[g_]at this;omega
    obtain ⟨i,D⟩:=s8.1 q;obtain ⟨w,y_,A_,c3⟩:=r2 i r D;exact⟨L i r D,c3⟩⟩
   rw[<-r1];have o:∀(i:Nat) (r:List PV),d[i]?=some r->∀(k:Nat) (p:PV),r[k]?=some p->∃v,W.cell? ⟨b,z+i*P.cellsOf e+k,none⟩=some v/\PRep W (Ao W) v p:=by
    intro i r q k p o_;obtain ⟨w,y_,A_,c3⟩:=r2 i r q;obtain ⟨_,d1,d2⟩:=World.cells?_some y_;have hkl:k<P.cellsOf e:=by rw[<-L i r q];exact(m9.1 o_).1
    have z_:=d2 k hkl;rw[Addr.add_lit,Addr.add_lit]at z_;have e2:w[k]?=some (w[k]' X):=n_ X;exact⟨_,z_.trans e2,A_.get k _ p e2 o_⟩
   refine PRep.sl b z f_ (P.cellsOf e) d (λi k=>(W.cell? ⟨b,z+i*P.cellsOf e+k,none⟩).getD undef) F d_ (λr q=>?_) (by omega) (λi r q k p o_=>?_) (λi r q k p o_=>?_)
   ·obtain ⟨i,D⟩:=s8.1 q;exact L i r D
   ·obtain ⟨v,v1,v2⟩:=o i r q k p o_;simp[v1]
   obtain ⟨v,v1,v2⟩:=o i r q k p o_;simp[v1,v2]
  ·next fs j =>
   simp only[l6]at y;obtain ⟨xs,K,rfl,rfl,hl,c_,hf⟩:=DataW.trod_struct j h;simp only[Rows.uptoBulk]at R;obtain ⟨ps,p1,p2⟩:=N1 (n:=n) (m:=K) (B:=B) (λt cs x a b c=>PU n t a K cs x b c) fs.toList xs 0 (by rw[hl];exact y.1) y.2 (by simpa using c_) (λi f D=>hf i f (by simpa using D)) X;exact⟨ps,by simpa using p1,by unfold Sh;rw[j];exact p2⟩
  ·next k e j =>
   simp only[l6]at y;obtain ⟨xs,K,rfl,rfl,hl,c_,hf⟩:=DataW.trod_array j h;simp only[Rows.uptoBulk]at R;obtain ⟨ps,p1,p2⟩:=N1 (n:=n) (m:=K) (B:=B) (λt cs x a b c=>PU n t a K cs x b c) (O3 P e 0 k) xs 0 (by rw[hl];exact y.1) y.2 (by rw[OB,c_]) (λi f D=>by
    obtain ⟨g1,g2⟩:=ZA D;have hlt:i<k:=by
     have:=(m9.1 D).1
     rwa [OB]at this
    rw[g1,g2,r7];exact hf i hlt) X
   exact⟨ps,by simpa using p1,by unfold Sh;rw[j];exact p2⟩
  grind
end
end
end Go.Abs
namespace Go.Abs
open Go.Proofs.C Go.ChangeShapes Go.WideShapes Go.ChangeAt Go.RowKit
variable{n base:Nat}{v:Value}{f:Func}{s:ChangeSpec}{c:Bool}{args:Array Value}
section
def Ai(P:Program)(t:TypeId)(ps:List PV):AV :=match P.underlying t with
 |some (.struct _)=>.agg (ps.map .pv)
 |some (.array _ _)=>.agg (ps.map .pv)
 |_=>match ps with
  | [p]=>.pv p
  |_=>.any
section
variable{H:Type}{enc:TypeId×Value->H}{P:Program}{W:World}{B:Nat}
theorem PL.toV{I}{ι}{Hp}{cs}{ps}(h:PL W I cs ps)(i:Nat)(v)(a)(d:cs[i]?=A v)(b:(ps.map AV.pv)[i]?=A a):VRel W I ι Hp v a/\v.oneCell'=T:=by rw[r8]at b;obtain ⟨p,c,rfl⟩:=Option.map_eq_some_iff.1 b;have:=h.get i v p d c;exact⟨.pv this,this.oneCell⟩
theorem aEO{n}{t}{v}{base}(d:EA P n t=T)(b:Value.okWide P W .any base t v)(D:∀fs,P.underlying t=A (.struct fs)->False)(B:∀k e,P.underlying t=A (.array k e)->False):v.cells.toList=[v]:=by
 cases n with
 |zero=>cases d
 |succ n =>
  unfold EA at d;unfold Value.okWide at b
  split at d
  .next c=>cases v<;>first|rfl|(simp[Cell.okWide,Cell.ok,c]at b)
  .next k c=>cases v<;>first|rfl|(simp[Cell.okWide,Cell.ok,c]at b)
  .next c=>cases v<;>first|rfl|(simp[Cell.okWide,Cell.ok,c]at b)
  .next e c=>cases v<;>first|rfl|(simp[Cell.okWide,Cell.ok,c]at b)
  all_goals simp_all
theorem Zr{t:TypeId}{d:DataW H}{p:List MemPlace}(ι:mD)(Hp:aF)(x:EA P n t=true)(b:Value.okWide P W .any base t v)(h:DataW.Trod enc P W 0 (λ_=>true) true t v d p)(z:Rows.uptoBulk d<=B):
  ∃ps,Sh P B n t ps/\VRel W (Ao W) ι Hp v (Ai P t ps):=by
 obtain ⟨m,i_⟩:=h;obtain ⟨ps,f,d_⟩:=PU (B:=B) n t x m _ _ i_ z;refine⟨ps,d_,?_⟩;unfold Ai
 split
 ·next w s =>
  unfold Value.okWide at b;rw[s]at b;obtain ⟨y,rfl,_,_⟩:=b;have u:=f.length;simp only[Value.cells,Array.length_toList]at u;refine .agg (by simp_all) (λi v c=>?_) (λi v a c r=>?_)
  ·have l:=(Array.getElem?_eq_some_iff.1 c).1;exact(PL.toV (ι:=ι) (Hp:=Hp) f i v (.pv (ps[i]'(by omega))) (by simpa[Value.cells]using c) (by simp_all)).2
  exact(PL.toV f i v a (by simpa[Value.cells]using c) r).1
 ·next k e s =>
  unfold Value.okWide at b;rw[s]at b;obtain ⟨y,rfl,_,_⟩:=b;have u:=f.length;simp only[Value.cells,Array.length_toList]at u;refine .agg (by simp_all) (λi v c=>?_) (λi v a c r=>?_)
  ·have l:=(Array.getElem?_eq_some_iff.1 c).1;exact(PL.toV (ι:=ι) (Hp:=Hp) f i v (.pv (ps[i]'(by omega))) (by simpa[Value.cells]using c) (by simp_all)).2
  exact(PL.toV f i v a (by simpa[Value.cells]using c) r).1
 next o g =>
 split
 ·next q =>
  have j:=aEO x b (λw h=>o w h) (λk e h=>g k e h);rw[j]at f;exact(PL.toV f 0 _ _ Z Z).1
 exact .any v
def O2(P:Program):List TypeId->List (List PV)->List AV
 |t::ts,p::ps=>Ai P t p::O2 P ts ps
 |_,_=>[]
def ZD(P:Program)(B n:Nat):List TypeId->List (List PV)->Prop
 | [],[]=>True
 |t::ts,p::ps=>Sh P B n t p/\ZD P B n ts ps
 |_,_=>False
theorem Cb{n}{a}(h:ZD P B n [] a):a=[]:=by
 cases a with
 |nil=>rfl
 |cons p ps=>exact h.elim
theorem IP{n}{t}{b}{a}(h:ZD P B n (t::b) a):∃p ps,a=p::ps/\Sh P B n t p/\ZD P B n b ps:=by
 cases a with
 |nil=>exact h.elim
 |cons p ps=>exact⟨p,ps,Z,h.1,h.2⟩
theorem mn{n}{base}(ι)(Hp):∀ {c} {e} {l} {p},DataW.TrodAll enc P W 0 (λ_=>T) T c e l p->c.all (EA P n)=T ->
  (∀(j:Nat) t v,c[j]?=A t->e[j]?=A v->Value.okWide P W .any base t v)->Rows.uptoBulkAll l<=B ->
  ∃b,ZD P B n c b/\C e=C (O2 P c b)/\∀(i:Nat) (v) (a),e[i]?=A v->(O2 P c b)[i]?=A a->VRel W (Ao W) ι Hp v a
 | [],e,l,p,h,k,m,o=>by
  obtain ⟨rfl,rfl,rfl⟩:=trodAll_nil h;exact⟨[],T_,Z,λi v a h=>by grind⟩
 |t::c,e,l,p,h,k,m,o=>by
  obtain ⟨v,vs',d,ds',p1,p2,rfl,rfl,rfl,g,f⟩:=trodAll_cons h;simp only[all_cons,l6]at k;simp[Rows.uptoBulkAll]at o;obtain ⟨r,x,u⟩:=Zr (B:=B) _ _ k.1 (m 0 t v Z Z) g X;obtain ⟨b,q,w,s⟩:=mn _ _ f k.2 (λj t v g f=>m (j+1) t v g f) X;refine⟨r::b,⟨x,q⟩,by simp[O2,w],λi v a g f=>?_⟩;cases i with
  |zero=>cases g;cases f;exact u
  |succ i=>exact s i v a g f
theorem Vi(ι)(W)(a:VG (Ao W) W):Rel (Ao W) ι [] W:=⟨λ_ h=>h,λ_ _ h=>(by cases h),λ_ _ _ _ _ _ _ h=>(by cases h),a⟩
theorem ug{I d}{ι a}{H'}{w w'}(h:Step I ι [] w d a H' w'):Below w.heap.size w w' :=⟨h.os,h.tape,h.output,h.size,λk b=>h.keep k b (λ⟨_,_,_,c,_⟩=>by cases c)⟩
theorem U1(m:laidOutB P=T){k:World}(l:Below W.heap.size W k){j}:∀ {f} {g} {e} {p},DataW.TrodAll enc P W 0 (λ_=>T) T f g e p ->
  (f.all λt=>P.readableRec t&&Nat.blt t P.types.size)=T->(∀x∈p,x.block<W.heap.size)->(∀x∈p,j x.block=T)->DataW.TrodAll enc P k 0 j T f g e p
 | [],g,e,p,h,c,a,b=>by
  obtain ⟨rfl,rfl,rfl⟩:=trodAll_nil h;exact trodAll_mk0
 | t::f,g,e,p,h,c,a,b=>by
  obtain ⟨v,D,d,B,p1,p2,rfl,rfl,rfl,o,n⟩:=trodAll_cons h;simp only[all_cons,l6,blt_eq]at c;exact trodAll_cons_mk (WideElems.Trod_stays m c.1.1 c.1.2 o (λx i=>l.same (a x G_)) (λx i=>b x G_))
   (U1 m l n c.2 (λx i=>a x G_) (λx i=>b x G_))
theorem qc{g m l:Bool}{W n:World}{q x:List (DataW H)}{a pa pv:List MemPlace}
  (y:DataW.Whole enc P f.params.toList s.vars g W args.toList q x a)
  (h:∀(b:Nat) (k:Nat->Bool) (F:Bool),DataW.TrodAll enc P n b k F f.resultTypes.toList (v.resultList f.resultTypes.size) (s.fn H (q++x)).results [])
  (e:∀k:Nat->Bool,(∀p∈a,k p.block=T)->DataW.TrodAll enc P n 0 k T f.params.toList args.toList (s.fn H (q++x)).args pa)
  (d:∀k:Nat->Bool,(∀p∈a,k p.block=T)->DataW.TrodVars enc P n k s.vars (s.fn H (q++x)).vars pv)
  (B:a=pa++pv) (D:Below W.heap.size W n)
  (z:∀(j:Nat) (t:TypeId) (r:Value),f.resultTypes[j]?=A t->(v.resultList f.resultTypes.size)[j]?=A r->Value.okWide P n .any 0 t r) :
  s.post enc P f g m c l W args v n:=by
 have G:∀p∈a,p.block<W.heap.size:=λp o=>y.lt p o;have i:∀p∈a,(λb=>θ (b<W.heap.size)) p.block=T:=λp o=>by simp_all
 refine⟨q,x,a,[],pa,pv,y,h _ _ _,e _ i,d _ i,World.keptBut_mono (λp o=>⟨o,?_⟩) (D.frame (·∈a)),λ_=>?_⟩
 .simp_all
 have ⟨_,_,_,_,_,E,I⟩:=y;refine⟨z,_,_,([]++pa)++pv,⟨[]++pa,pv,trodAll_append (e _ (λ_ _=>rfl)) (h _ _ _),d _ (λ_ _=>rfl),Z,?_,?_⟩,?_⟩
 .intro b w o;have u:MemPlace.cell b w∈a:=by rw[B];simpa using o
  rw[D.frozen (G _ u)];exact E b w u
 all_goals simp_all
theorem Nv{b:FuncId}{k d_ i_:Bool}{h gs:List (DataW H)}{m:List MemPlace}{J:TypeId}
  (hl:laidOutB P=T) (w:(f.params.toList.all λt=>P.readableRec t&&Nat.blt t P.types.size)=T) (l:f.params.toList.all (EA P n)=T) (g:s.vars=[])
  (F:∀h:List (DataW H),C h=C f.params.toList->(s.fn H h).results=[.lit (.bool T)]/\(s.fn H h).args=h/\(s.fn H h).vars=[])
  (z:f.resultTypes=#[J]) (G:P.underlying J=A .bool)
  (u:∀(j:Nat) t v,f.params[j]?=A t->args[j]?=A v->Value.okWide P W .any base t v)
  (u4:DataW.Whole enc P f.params.toList s.vars k W args.toList h gs m) (f_:Rows.uptoBulkAll h<=B)
  (v_:∀o,ZD P B n f.params.toList o->aU P b (O2 P f.params.toList o) [] (λr H'=>r=.pv (.bool T)/\H'=[])) (hg:VG (Ao W) W:=by exact λp hp=>by cases hp) :
  Calls P b args W λe y_=>∃v,e=.returned v/\s.post enc P f k d_ c i_ W args v y_:=by
 have D:=u4;obtain ⟨p,q,E,L,rfl,r4,e_⟩:=u4;rw[g]at L;obtain ⟨rfl,rfl⟩:=trodVars_none L;have ⟨o,z_,h2,A_⟩:=mn (B:=B) (base:=base) (λ_=>ζ) [] E l (λj t v ht R=>u j t v F_ F_) f_;have τ:C h=C f.params.toList:=by
  clear z_ h2 A_ v_ F w l u D f_ r4 e_;revert E;generalize f.params.toList=u_;generalize args.toList=vs;intro E;clear L
  induction u_ generalizing vs h p with
  |nil=>obtain ⟨_,rfl,_⟩:=trodAll_nil E;rfl
  |cons t u_ ih =>
   obtain ⟨v,ρ,d,σ,p1,p2,_,rfl,_,_,h2⟩:=trodAll_cons E
   grind
 refine(v_ o z_ (Ao W) (λ_=>ζ) W args (Vi _ W hg) X (λi v a ha hb=>A_ i v a F_ hb)).mono ?_;rintro e y_ ⟨r,H',I',ι',v,rfl,⟨rfl,rfl⟩,R,hr,K⟩;have o_:v=.bool T:=R.bool_inv;subst o_;have y:=ug K;have ⟨f1,f2,f3⟩:=F (h++[]) F_;refine⟨_,Z,qc (pa:=p) (pv:=[]) D (λb Q hd=>?_) (λQ I=>?_) (λQ I=>?_) Z y (ok_one z Z (okWide_bool_mk G _))⟩
 .rw[f1,z];exact trodAll_cons_mk (shut_bool G _) trodAll_mk0
 .rw[f2,append_nil];exact U1 hl y E w (λx hx=>D.lt x G_) (λx hx=>I x G_)
 rw[f3,g];rfl
theorem aBF{n}{t}{k}{ps}(D:P.underlying t=A (.int k))(h:Sh P B (n+1) t ps):∃i,ps=[.int k i]/\(Lit.int k i).wf=T:=by unfold Sh at h;simp_all
theorem Ut{n}{t}{ps}(D:P.underlying t=A .bool)(h:Sh P B (n+1) t ps):∃b,ps=[.bool b]:=by unfold Sh at h;simp_all
theorem aBE{n}{t}{ps}(D:P.underlying t=A .string)(h:Sh P B (n+1) t ps):∃s,ps=[.str s]/\s.size<=B:=by unfold Sh at h;simp_all
theorem Us{t e}{ps}{α:Type}{f}{D:α->Prop}(j:P.underlying t=A (.slice e))(h:Sh P B (n+1) t ps)(E:∀r,Sh P B n e r->∃a,r=f a/\D a):
  ∃l:List α,ps=[.sl (l.map f)]/\C l<=B/\∀a,a∈l->D a:=by
 unfold Sh at h;rw[j]at h;obtain ⟨c,rfl,d,g⟩:=h;have ⟨l,k,m⟩:∃l:List α,c=l.map f/\∀a,a∈l->D a:=by
  clear d
  induction c with
  |nil=>simp_all
  |cons r rs i =>
   have ⟨l,k,m⟩:=i (λr h=>g r (by simp[h]));have ⟨a,F,G⟩:=E r (g r H_).2;refine⟨a::l,F_,λb H=>?_⟩
   grind
 grind
end
end
end Go.Abs
namespace Go.Proofs.C
open Go.Proofs.Tryz
open Go.Abs
variable{α:Type}{l:List _}{k:Nat}
theorem zo3:eU φ 3 [.pv (.int .i64 0)]:=⟨_,_,sU,.inl Z,Z⟩
theorem zo4:eU φ 4 [.pv (.bool η)]:=⟨_,_,jC,.inl Z,Z⟩
theorem zo5:eU φ 5 [.pv (.int .u8 0)]:=⟨_,_,sT,.inl Z,Z⟩
theorem Th:eU φ 9 [.pv (.str ⟨#[]⟩)]:=⟨_,_,gV,.inl Z,Z⟩
theorem aDF:eU φ 22 [.pv (.sl [])]:=⟨_,_,wD,.inl Z,Z⟩
theorem Zy:eU φ 22 [.pv .nils]:=⟨_,_,wD,.inr Z,Z⟩
theorem aY:fN φ 22 9 1:=⟨aD,V_,E_,_,gV⟩
theorem y8{p:Prop}(h:p:=by kernel_rfl):p:=h
theorem sW:EI φ 9 1 16:=EI.mk (z:=(Value.string ⟨#[]⟩)) y8 Z E_ E_
theorem aAe:eU φ 25 [.pv (.int .i64 0)]:=⟨_,_,zeroValue25,.inl Z,Z⟩
theorem tj:cE φ 38 0 0:=⟨_,_,0,underlying38,Z,Z,sizeOf22⟩
theorem FY:cE φ 38 1 1:=⟨_,_,0,underlying38,Z,Z,sizeOf22⟩
theorem A2:cE φ 38 2 2:=⟨_,_,0,underlying38,Z,Z,sizeOf3⟩
theorem Af:kC φ 38 [(0,1),(1,1),(2,1)] [.pv .nils,.pv .nils,.pv (.int .i64 0)]:=⟨_,#[(0,1),(1,1),(2,1)],_,_,underlying38,zeroValue38,.inr Z,Z,λw=>by simp[sizeOf3,sizeOf22],Z⟩
theorem aDY:fN φ 41 92 4:=⟨underlying41,sizeOf92,E_,_,zeroValue92⟩
theorem aFv:EI φ 92 4 64:=EI.mk (z:=(Value.agg #[(Value.string ⟨#[]⟩),(Value.int ξ (0)),(Value.string ⟨#[]⟩),(Value.slice ζ (0) (0))])) y8 Z E_ E_
theorem aDB:eU φ 46 [.pv .nils]:=⟨_,_,zeroValue46,.inr Z,Z⟩
theorem fo:fN φ 46 137 15:=⟨fD,bD,E_,_,zeroValue137⟩
theorem aAZ:EI φ 137 15 216:=EI.mk (z:=(Value.agg #[(Value.int ξ (0)),(Value.string ⟨#[]⟩),(Value.string ⟨#[]⟩),(Value.string ⟨#[]⟩),(Value.int ξ (0)),(Value.int ξ (0)),(Value.string ⟨#[]⟩),(Value.string ⟨#[]⟩),(Value.slice ζ (0) (0)),(Value.string ⟨#[]⟩),(Value.int ξ (0)),(Value.int ξ (0)),(Value.int ξ (0)),(Value.slice ζ (0) (0)),(Value.slice ζ (0) (0))])) y8 Z E_ E_
theorem eg:eU φ 48 [.pv (.int .i64 0),.pv (.sl []),.pv (.sl [])]:=⟨_,_,zeroValue48,.inl Z,Z⟩
theorem DR:cE φ 48 0 0:=⟨_,_,0,kG,Z,Z,sizeOf3⟩
theorem wQ:cE φ 48 1 1:=⟨_,_,0,kG,Z,Z,sizeOf22⟩
theorem wP:cE φ 48 2 2:=⟨_,_,0,kG,Z,Z,sizeOf22⟩
theorem Zk:kC φ 48 [(0,1),(1,1),(2,1)] [.pv (.int .i64 0),.pv (.sl []),.pv (.sl [])]:=⟨_,#[(0,1),(1,1),(2,1)],_,_,kG,zeroValue48,.inl Z,Z,λw=>by simp[sizeOf3,sizeOf22],Z⟩
theorem aEi:kC φ 48 [(0,1),(1,1),(2,1)] [.pv (.int .i64 0),.pv .nils,.pv .nils]:=⟨_,#[(0,1),(1,1),(2,1)],_,_,kG,zeroValue48,.inr Z,Z,λw=>by simp[sizeOf3,sizeOf22],Z⟩
theorem VM:fN φ 49 104 2:=⟨gH,sizeOf104,E_,_,zeroValue104⟩
theorem aA0:EI φ 104 2 16:=EI.mk (z:=(Value.agg #[(Value.int ξ (0)),(Value.int ξ (0))])) y8 Z E_ E_
theorem aFY:eU φ 51 [.pv (.str ⟨#[]⟩),.pv (.str ⟨#[]⟩),.pv (.sl []),.pv (.sl []),.pv (.int .i64 0),.pv (.sl []),.pv (.sl [])]:=⟨_,_,zeroValue51,.inl Z,Z⟩
theorem JJ:cE φ 51 0 0:=⟨_,_,0,uD,Z,Z,V_⟩
theorem JI:cE φ 51 1 1:=⟨_,_,0,uD,Z,Z,V_⟩
theorem yV:cE φ 51 2 2:=⟨_,_,0,uD,Z,Z,sizeOf22⟩
theorem tV:cE φ 51 3 3:=⟨_,_,0,uD,Z,Z,sizeOf49⟩
theorem FX:cE φ 51 4 4:=⟨_,_,2,uD,Z,Z,sizeOf48⟩
theorem aGD:kC φ 51 [(0,1),(1,1),(2,1),(3,1),(4,3)] [.pv (.str ⟨#[]⟩),.pv (.str ⟨#[]⟩),.pv (.sl []),.pv (.sl []),.pv (.int .i64 0),.pv (.sl []),.pv (.sl [])]:=⟨_,#[(0,1),(1,1),(2,1),(3,1),(4,3)],_,_,uD,zeroValue51,.inl Z,Z,λw=>by simp[V_,sizeOf22,sizeOf48,sizeOf49],Z⟩
theorem nx:eU φ 53 [.pv (.int .i64 0),.pv (.int .i64 0),.pv (.int .i64 0),.pv (.int .i64 0),.pv (.str ⟨#[]⟩),.pv (.sl []),.pv (.sl []),.pv (.str ⟨#[]⟩),.pv (.bool η),.pv (.int .i64 0),.pv (.str ⟨#[]⟩),.pv (.int .i64 0),.pv (.sl []),.pv (.sl []),.pv (.str ⟨#[]⟩),.pv (.str ⟨#[]⟩),.pv (.sl []),.pv (.sl []),.pv (.int .i64 0),.pv (.sl []),.pv (.sl [])]:=⟨_,_,zeroValue53,.inl Z,Z⟩
theorem aDA:eU φ 53 [.pv (.int .i64 0),.pv (.int .i64 0),.pv (.int .i64 0),.pv (.int .i64 0),.pv (.str ⟨#[]⟩),.pv .nils,.pv .nils,.pv (.str ⟨#[]⟩),.pv (.bool η),.pv (.int .i64 0),.pv (.str ⟨#[]⟩),.pv (.int .i64 0),.pv .nils,.pv .nils,.pv (.str ⟨#[]⟩),.pv (.str ⟨#[]⟩),.pv .nils,.pv .nils,.pv (.int .i64 0),.pv .nils,.pv .nils]:=⟨_,_,zeroValue53,.inr Z,Z⟩
theorem oX:cE φ 53 0 0:=⟨_,_,0,fC,Z,Z,sizeOf3⟩
theorem FW:cE φ 53 1 1:=⟨_,_,0,fC,Z,Z,sizeOf3⟩
theorem A1:cE φ 53 2 2:=⟨_,_,0,fC,Z,Z,sizeOf3⟩
theorem FV:cE φ 53 3 3:=⟨_,_,0,fC,Z,Z,sizeOf3⟩
theorem DQ:cE φ 53 4 4:=⟨_,_,0,fC,Z,Z,V_⟩
theorem oW:cE φ 53 5 5:=⟨_,_,0,fC,Z,Z,sizeOf22⟩
theorem DP:cE φ 53 6 6:=⟨_,_,0,fC,Z,Z,sizeOf46⟩
theorem DO:cE φ 53 7 7:=⟨_,_,0,fC,Z,Z,V_⟩
theorem JH:cE φ 53 8 8:=⟨_,_,0,fC,Z,Z,sizeOf4⟩
theorem yU:cE φ 53 9 9:=⟨_,_,0,fC,Z,Z,sizeOf3⟩
theorem xP:cE φ 53 10 10:=⟨_,_,0,fC,Z,Z,V_⟩
theorem AG:cE φ 53 11 11:=⟨_,_,2,fC,Z,Z,sizeOf48⟩
theorem iM:cE φ 53 12 14:=⟨_,_,6,fC,Z,Z,sizeOf51⟩
theorem UT:kC φ 53 [(0,1),(1,1),(2,1),(3,1),(4,1),(5,1),(6,1),(7,1),(8,1),(9,1),(10,1),(11,3),(14,7)] [.pv (.int .i64 0),.pv (.int .i64 0),.pv (.int .i64 0),.pv (.int .i64 0),.pv (.str ⟨#[]⟩),.pv (.sl []),.pv (.sl []),.pv (.str ⟨#[]⟩),.pv (.bool η),.pv (.int .i64 0),.pv (.str ⟨#[]⟩),.pv (.int .i64 0),.pv (.sl []),.pv (.sl []),.pv (.str ⟨#[]⟩),.pv (.str ⟨#[]⟩),.pv (.sl []),.pv (.sl []),.pv (.int .i64 0),.pv (.sl []),.pv (.sl [])]:=⟨_,#[(0,1),(1,1),(2,1),(3,1),(4,1),(5,1),(6,1),(7,1),(8,1),(9,1),(10,1),(11,3),(14,7)],_,_,fC,zeroValue53,.inl Z,Z,λw=>by simp[sizeOf3,sizeOf4,V_,sizeOf22,sizeOf46,sizeOf48,sizeOf51],Z⟩
theorem R8:fN φ 68 9 1:=⟨mM,V_,E_,_,gV⟩
theorem Ho:eU φ 70 [.pv (.str ⟨#[]⟩),.pv (.str ⟨#[]⟩),.pv (.int .i64 0),.pv (.sl [])]:=⟨_,_,zeroValue70,.inl Z,Z⟩
theorem N0:cE φ 70 0 0:=⟨_,_,0,A7,Z,Z,V_⟩
theorem UE:cE φ 70 1 1:=⟨_,_,0,A7,Z,Z,V_⟩
theorem FU:cE φ 70 2 2:=⟨_,_,0,A7,Z,Z,sizeOf3⟩
theorem FT:cE φ 70 3 3:=⟨_,_,0,A7,Z,Z,sizeOf68⟩
theorem aEj:kC φ 70 [(0,1),(1,1),(2,1),(3,1)] [.pv (.str ⟨#[]⟩),.pv (.str ⟨#[]⟩),.pv (.int .i64 0),.pv (.sl [])]:=⟨_,#[(0,1),(1,1),(2,1),(3,1)],_,_,A7,zeroValue70,.inl Z,Z,λw=>by simp[sizeOf3,V_,sizeOf68],Z⟩
theorem HG:fN φ 73 22 1:=⟨uC,sizeOf22,E_,_,wD⟩
theorem aCV:EI φ 22 1 24:=EI.mk (z:=(Value.slice ζ (0) (0))) y8 Z E_ E_
theorem aDC:eU φ 80 [.pv (.sl []),.pv .nilm]:=⟨_,_,zeroValue80,.inl Z,Z⟩
theorem JG:cE φ 80 0 0:=⟨_,_,0,underlying80,Z,Z,sizeOf68⟩
theorem ti:cE φ 80 1 1:=⟨_,_,0,underlying80,Z,Z,sizeOf78⟩
theorem aEh:kC φ 80 [(0,1),(1,1)] [.pv .nils,.pv .nilm]:=⟨_,#[(0,1),(1,1)],_,_,underlying80,zeroValue80,.inr Z,Z,λw=>by simp[sizeOf68,sizeOf78],Z⟩
theorem aFX:eU φ 82 [.pv .nilm]:=⟨_,_,zeroValue82,.inl Z,Z⟩
theorem UD:cE φ 84 0 0:=⟨_,_,1,uB,Z,Z,sizeOf80⟩
theorem th:cE φ 84 1 2:=⟨_,_,0,uB,Z,Z,sizeOf22⟩
theorem Pg:cE φ 84 2 3:=⟨_,_,0,uB,Z,Z,sizeOf82⟩
theorem tg:cE φ 84 3 4:=⟨_,_,0,uB,Z,Z,sizeOf73⟩
theorem UC:cE φ 84 4 5:=⟨_,_,0,uB,Z,Z,sizeOf73⟩
theorem aEg:kC φ 84 [(0,2),(2,1),(3,1),(4,1),(5,1)] [.pv .nils,.pv .nilm,.pv .nils,.pv .nilm,.pv .nils,.pv .nils]:=⟨_,#[(0,2),(2,1),(3,1),(4,1),(5,1)],_,_,uB,zeroValue84,.inr Z,Z,λw=>by simp[sizeOf22,sizeOf73,sizeOf80,sizeOf82],Z⟩
theorem aBA:fN φ 86 70 4:=⟨underlying86,eC,E_,_,zeroValue70⟩
theorem aFw:EI φ 70 4 64:=EI.mk (z:=(Value.agg #[(Value.string ⟨#[]⟩),(Value.string ⟨#[]⟩),(Value.int ξ (0)),(Value.slice ζ (0) (0))])) y8 Z E_ E_
theorem aFW:eU φ 92 [.pv (.str ⟨#[]⟩),.pv (.int .i64 0),.pv (.str ⟨#[]⟩),.pv (.sl [])]:=⟨_,_,zeroValue92,.inl Z,Z⟩
theorem cp:cE φ 92 0 0:=⟨_,_,0,A6,Z,Z,V_⟩
theorem UB:cE φ 92 1 1:=⟨_,_,0,A6,Z,Z,sizeOf3⟩
theorem Pf:cE φ 92 2 2:=⟨_,_,0,A6,Z,Z,V_⟩
theorem wN:cE φ 92 3 3:=⟨_,_,0,A6,Z,Z,sizeOf22⟩
theorem aGC:kC φ 92 [(0,1),(1,1),(2,1),(3,1)] [.pv (.str ⟨#[]⟩),.pv (.int .i64 0),.pv (.str ⟨#[]⟩),.pv (.sl [])]:=⟨_,#[(0,1),(1,1),(2,1),(3,1)],_,_,A6,zeroValue92,.inl Z,Z,λw=>by simp[sizeOf3,V_,sizeOf22],Z⟩
theorem NZ:cE φ 99 0 0:=⟨_,_,0,underlying99,Z,Z,sizeOf22⟩
theorem NY:cE φ 99 1 1:=⟨_,_,0,underlying99,Z,Z,sizeOf4⟩
theorem aGB:kC φ 99 [(0,1),(1,1)] [.pv (.sl []),.pv (.bool η)]:=⟨_,#[(0,1),(1,1)],_,_,underlying99,zeroValue99,.inl Z,Z,λw=>by simp[sizeOf4,sizeOf22],Z⟩
theorem Hr:eU φ 104 [.pv (.int .i64 0),.pv (.int .i64 0)]:=⟨_,_,zeroValue104,.inl Z,Z⟩
theorem nA:cE φ 104 0 0:=⟨_,_,0,underlying104,Z,Z,sizeOf3⟩
theorem mZ:cE φ 104 1 1:=⟨_,_,0,underlying104,Z,Z,sizeOf3⟩
theorem MC:kC φ 104 [(0,1),(1,1)] [.pv (.int .i64 0),.pv (.int .i64 0)]:=⟨_,#[(0,1),(1,1)],_,_,underlying104,zeroValue104,.inl Z,Z,λw=>by simp[sizeOf3],Z⟩
theorem SD(B E:Int)(D F:Int)(w:World):(Op.equalIn 10000 104 (.agg [.int .i64 B,.int .i64 D].toArray) (.agg [.int .i64 E,.int .i64 F].toArray)).run φ w=.ok (θ (B=E)&&θ (D=F)) w:=by
 refine(run_equalIn_struct (P:=φ) w 9999 104 _ _ (by simp[Program.fieldsOf,underlying104]) stoodInHeld104).trans ?_;have I:∀(d:Nat) (a b:Int) (w:World),(Op.equalIn (d+1) 3 (.int .i64 a) (.int .i64 b)).run φ w=.ok (θ (a=b)) w:=λd a b w=>by rw[run_equalIn_int w d 3 _ _ a b underlying3];by_cases h:a=b<;>simp[h]
 by_cases G:B=E<;>by_cases H:D=F<;>simp[Program.fieldsOf,underlying104,Op.eqFields,part,I,M_,G,H]
theorem aDJ:eU φ 125 [.pv .nilp]:=⟨_,_,zeroValue125,.inl Z,Z⟩
theorem zj:cE φ 127 0 0:=⟨_,_,0,underlying127,Z,Z,V_⟩
theorem aEl:kC φ 127 [(0,1)] [.pv (.str ⟨#[]⟩)]:=⟨_,#[(0,1)],_,_,underlying127,zeroValue127,.inl Z,Z,λw=>by simp[V_],Z⟩
theorem aAC:eU φ 131 [.pv (.sl [])]:=⟨_,_,zeroValue131,.inl Z,Z⟩
theorem aAc:eU φ 131 [.pv .nils]:=⟨_,_,zeroValue131,.inr Z,Z⟩
theorem R9:fN φ 131 9 1:=⟨underlying131,V_,E_,_,gV⟩
theorem lU:fN φ 133 270 2:=⟨dU,mA,E_,_,zeroValue270⟩
theorem Po:EI φ 270 2 32:=EI.mk (z:=(Value.agg #[(Value.string ⟨#[]⟩),(Value.string ⟨#[]⟩)])) y8 Z E_ E_
theorem WM:eU φ 135 [.pv (.str ⟨#[]⟩),.pv (.int .i64 0),.pv (.int .i64 0),.pv (.int .i64 0),.pv (.sl []),.pv (.sl [])]:=⟨_,_,zeroValue135,.inl Z,Z⟩
theorem Hn:eU φ 135 [.pv (.str ⟨#[]⟩),.pv (.int .i64 0),.pv (.int .i64 0),.pv (.int .i64 0),.pv .nils,.pv .nils]:=⟨_,_,zeroValue135,.inr Z,Z⟩
theorem rD:cE φ 135 0 0:=⟨_,_,0,oG,Z,Z,V_⟩
theorem eJ:cE φ 135 1 1:=⟨_,_,0,oG,Z,Z,sizeOf3⟩
theorem mY:cE φ 135 2 2:=⟨_,_,1,oG,Z,Z,sizeOf104⟩
theorem eI:cE φ 135 3 4:=⟨_,_,0,oG,Z,Z,sizeOf22⟩
theorem gF:cE φ 135 4 5:=⟨_,_,0,oG,Z,Z,sizeOf133⟩
theorem F6:kC φ 135 [(0,1),(1,1),(2,2),(4,1),(5,1)] [.pv (.str ⟨#[]⟩),.pv (.int .i64 0),.pv (.int .i64 0),.pv (.int .i64 0),.pv (.sl []),.pv (.sl [])]:=⟨_,#[(0,1),(1,1),(2,2),(4,1),(5,1)],_,_,oG,zeroValue135,.inl Z,Z,λw=>by simp[sizeOf3,V_,sizeOf22,sizeOf104,sizeOf133],Z⟩
theorem Ql:kC φ 135 [(0,1),(1,1),(2,2),(4,1),(5,1)] [.pv (.str ⟨#[]⟩),.pv (.int .i64 0),.pv (.int .i64 0),.pv (.int .i64 0),.pv .nils,.pv .nils]:=⟨_,#[(0,1),(1,1),(2,2),(4,1),(5,1)],_,_,oG,zeroValue135,.inr Z,Z,λw=>by simp[sizeOf3,V_,sizeOf22,sizeOf104,sizeOf133],Z⟩
theorem WL:eU φ 137 [.pv (.int .i64 0),.pv (.str ⟨#[]⟩),.pv (.str ⟨#[]⟩),.pv (.str ⟨#[]⟩),.pv (.int .i64 0),.pv (.int .i64 0),.pv (.str ⟨#[]⟩),.pv (.str ⟨#[]⟩),.pv (.sl []),.pv (.str ⟨#[]⟩),.pv (.int .i64 0),.pv (.int .i64 0),.pv (.int .i64 0),.pv (.sl []),.pv (.sl [])]:=⟨_,_,zeroValue137,.inl Z,Z⟩
theorem iU:cE φ 137 0 0:=⟨_,_,0,iG,Z,Z,sizeOf3⟩
theorem kB:cE φ 137 1 1:=⟨_,_,0,iG,Z,Z,V_⟩
theorem kV:cE φ 137 2 2:=⟨_,_,0,iG,Z,Z,V_⟩
theorem rC:cE φ 137 3 3:=⟨_,_,0,iG,Z,Z,V_⟩
theorem jP:cE φ 137 4 4:=⟨_,_,1,iG,Z,Z,sizeOf104⟩
theorem oA:cE φ 137 5 6:=⟨_,_,0,iG,Z,Z,V_⟩
theorem pC:cE φ 137 6 7:=⟨_,_,0,iG,Z,Z,V_⟩
theorem iT:cE φ 137 7 8:=⟨_,_,0,iG,Z,Z,sizeOf22⟩
theorem vO:cE φ 137 8 9:=⟨_,_,5,iG,Z,Z,sizeOf135⟩
theorem uJ:kC φ 137 [(0,1),(1,1),(2,1),(3,1),(4,2),(6,1),(7,1),(8,1),(9,6)] [.pv (.int .i64 0),.pv (.str ⟨#[]⟩),.pv (.str ⟨#[]⟩),.pv (.str ⟨#[]⟩),.pv (.int .i64 0),.pv (.int .i64 0),.pv (.str ⟨#[]⟩),.pv (.str ⟨#[]⟩),.pv (.sl []),.pv (.str ⟨#[]⟩),.pv (.int .i64 0),.pv (.int .i64 0),.pv (.int .i64 0),.pv (.sl []),.pv (.sl [])]:=⟨_,#[(0,1),(1,1),(2,1),(3,1),(4,2),(6,1),(7,1),(8,1),(9,6)],_,_,iG,zeroValue137,.inl Z,Z,λw=>by simp[sizeOf3,V_,sizeOf22,sizeOf104,sizeOf135],Z⟩
theorem BM:fN φ 159 5 1:=⟨dM,cO,E_,_,sT⟩
theorem ei5:EI φ 5 1 1:=EI.mk (z:=(Value.int IntKind.u8 (0))) y8 Z E_ E_
theorem IF:eU φ 161 [.pv .nilp,.pv .nils]:=⟨_,_,zeroValue161,.inr Z,Z⟩
theorem AH:cE φ 161 0 0:=⟨_,_,0,underlying161,Z,Z,sizeOf158⟩
theorem iO:cE φ 161 1 1:=⟨_,_,0,underlying161,Z,Z,qR⟩
theorem aDI:eU φ 169 [.pv (.int .u64 0)]:=⟨_,_,tZ,.inl Z,Z⟩
theorem aDH:eU φ 174 [.pv .nilfn]:=⟨_,_,zeroValue174,.inl Z,Z⟩
theorem aDG:eU φ 179 [.pv (.int .u8 0),.pv (.int .u8 0),.pv (.int .u8 0),.pv (.int .u8 0),.pv (.int .u8 0),.pv (.int .u8 0),.pv (.int .u8 0),.pv (.int .u8 0)]:=⟨_,_,zeroValue179,.inl Z,Z⟩
theorem va:eU φ 180 [.pv (.int .u8 0),.pv (.int .u8 0),.pv (.int .u8 0),.pv (.int .u8 0),.pv (.int .u8 0),.pv (.int .u8 0),.pv (.int .u8 0),.pv (.int .u8 0),.pv (.int .u8 0),.pv (.int .u8 0),.pv (.int .u8 0),.pv (.int .u8 0),.pv (.int .u8 0),.pv (.int .u8 0),.pv (.int .u8 0),.pv (.int .u8 0)]:=⟨_,_,zeroValue180,.inl Z,Z⟩
theorem aAB:eU φ 185 [.pv (.sl [])]:=⟨_,_,zeroValue185,.inl Z,Z⟩
theorem Hm:eU φ 185 [.pv .nils]:=⟨_,_,zeroValue185,.inr Z,Z⟩
theorem iI:fN φ 185 189 3:=⟨cU,sizeOf189,E_,_,zeroValue189⟩
theorem zq:EI φ 189 3 32:=EI.mk (z:=(Value.agg #[(Value.int ξ (0)),(Value.string ⟨#[]⟩),(Value.int ξ (0))])) y8 Z E_ E_
theorem uz:eU φ 189 [.pv (.int .i64 0),.pv (.str ⟨#[]⟩),.pv (.int .i64 0)]:=⟨_,_,zeroValue189,.inl Z,Z⟩
theorem vN:cE φ 189 0 0:=⟨_,_,0,underlying189,Z,Z,sizeOf3⟩
theorem iN:cE φ 189 1 1:=⟨_,_,0,underlying189,Z,Z,V_⟩
theorem QV:cE φ 189 2 2:=⟨_,_,0,underlying189,Z,Z,sizeOf3⟩
theorem IE:kC φ 189 [(0,1),(1,1),(2,1)] [.pv (.int .i64 0),.pv (.str ⟨#[]⟩),.pv (.int .i64 0)]:=⟨_,#[(0,1),(1,1),(2,1)],_,_,underlying189,zeroValue189,.inl Z,Z,λw=>by simp[sizeOf3,V_],Z⟩
theorem zU:fN φ 200 20 1:=⟨underlying200,sizeOf20,E_,_,zeroValue20⟩
theorem Hq:eU φ 266 [.pv (.int .i64 0),.pv (.str ⟨#[]⟩),.pv (.int .i64 0),.pv (.int .i64 0)]:=⟨_,_,zeroValue266,.inl Z,Z⟩
theorem pB:cE φ 266 0 0:=⟨_,_,2,underlying266,Z,Z,sizeOf189⟩
theorem tW:cE φ 266 1 3:=⟨_,_,0,underlying266,Z,Z,sizeOf25⟩
theorem aEk:kC φ 266 [(0,3),(3,1)] [.pv (.int .i64 0),.pv (.str ⟨#[]⟩),.pv (.int .i64 0),.pv (.int .i64 0)]:=⟨_,#[(0,3),(3,1)],_,_,underlying266,zeroValue266,.inl Z,Z,λw=>by simp[sizeOf25,sizeOf189],Z⟩
theorem aAA:eU φ 270 [.pv (.str ⟨#[]⟩),.pv (.str ⟨#[]⟩)]:=⟨_,_,zeroValue270,.inl Z,Z⟩
theorem qD:cE φ 270 0 0:=⟨_,_,0,underlying270,Z,Z,V_⟩
theorem rB:cE φ 270 1 1:=⟨_,_,0,underlying270,Z,Z,V_⟩
theorem Qm:kC φ 270 [(0,1),(1,1)] [.pv (.str ⟨#[]⟩),.pv (.str ⟨#[]⟩)]:=⟨_,#[(0,1),(1,1)],_,_,underlying270,zeroValue270,.inl Z,Z,λw=>by simp[V_],Z⟩
theorem aAO(B E:B_)(D F:B_)(w:World):(Op.equalIn 10000 270 (.agg [.string B,.string D].toArray) (.agg [.string E,.string F].toArray)).run φ w=.ok (θ (B=E)&&θ (D=F)) w:=by
 refine(run_equalIn_struct (P:=φ) w 9999 270 _ _ (by simp[Program.fieldsOf,underlying270]) stoodInHeld270).trans ?_;have I:∀(d:Nat) (a b:B_) (w:World),(Op.equalIn (d+1) 9 (.string a) (.string b)).run φ w=.ok (θ (a=b)) w:=λd a b w=>by rw[run_equalIn_string w d 9 a b U_,B0]
 by_cases G:B=E<;>by_cases H:D=F<;>simp[Program.fieldsOf,underlying270,Op.eqFields,part,I,N_,G,H]
theorem aAb:eU φ 297 [.pv .nilp,.pv .nils]:=⟨_,_,zeroValue297,.inr Z,Z⟩
theorem qC:cE φ 297 0 0:=⟨_,_,1,underlying297,Z,Z,sizeOf161⟩
theorem aDE:eU φ 299 [.pv .nilfn]:=⟨_,_,zeroValue299,.inl Z,Z⟩
theorem aDD:eU φ 312 [.pv (.str ⟨#[]⟩),.pv (.str ⟨#[]⟩),.pv (.str ⟨#[]⟩),.pv (.str ⟨#[]⟩),.pv (.str ⟨#[]⟩),.pv (.str ⟨#[]⟩)]:=⟨_,_,zeroValue312,.inl Z,Z⟩
theorem aEp:RE φ 312 1 [.pv (.str ⟨#[]⟩),.pv (.str ⟨#[]⟩),.pv (.str ⟨#[]⟩),.pv (.str ⟨#[]⟩),.pv (.str ⟨#[]⟩),.pv (.str ⟨#[]⟩)]:=⟨_,_,_,_,underlying312,zeroValue312,.inl Z,Z,V_⟩
theorem aA4:RE φ 316 1 [.pv (.str ⟨#[]⟩),.pv (.str ⟨#[]⟩),.pv (.str ⟨#[]⟩),.pv (.str ⟨#[]⟩)]:=⟨_,_,_,_,underlying316,zeroValue316,.inl Z,Z,V_⟩
theorem aEo:RE φ 319 1 [.pv (.int .i64 0),.pv (.int .i64 0),.pv (.int .i64 0),.pv (.int .i64 0),.pv (.int .i64 0),.pv (.int .i64 0)]:=⟨_,_,_,_,underlying319,zeroValue319,.inl Z,Z,sizeOf3⟩
theorem a7:φ.follows .mixedOrders=T:=rfl
structure m8 where
 key:B_
 val:B_
structure l8 where
 id:B_
 kind:Int
 x:Int
 y:Int
 refs:List B_
 tags:List m8
structure b8 where
 op:Int
 id:B_
 other:B_
 node:B_
 x:Int
 y:Int
 key:B_
 val:B_
 refs:List B_
 obj:l8
def S_(s:B_):List PV:=[.str s]
def gU(n:Int):List PV:=[.int .i64 n]
def bU(t:m8):List PV:=[.str t.key,.str t.val]
def bS(o:l8):List PV:=[.str o.id,.int .i64 o.kind,.int .i64 o.x,.int .i64 o.y,.sl (o.refs.map S_),.sl (o.tags.map bU)]
def bL(e:b8):List PV:=[.int .i64 e.op,.str e.id,.str e.other,.str e.node,.int .i64 e.x,.int .i64 e.y,.str e.key,.str e.val,.sl (e.refs.map S_),
 .str e.obj.id,.int .i64 e.obj.kind,.int .i64 e.obj.x,.int .i64 e.obj.y,.sl (e.obj.refs.map S_),.sl (e.obj.tags.map bU)]
def aK(l:List B_):PV:=.sl (l.map S_)
def qM(l:List m8):PV:=.sl (l.map bU)
def kP(l:List b8):PV:=.sl (l.map bL)
def j7:l8:=⟨⟨#[]⟩,0,0,0,[],[]⟩
theorem cC{f:α->List PV}{a}(h:l[k]?=A a):(l.map f)[k]?=A (f a):=F_
theorem aR{l:List α}{k}(h:k<C l):∃a,l[k]?=A a:=⟨_,n_ h⟩
theorem YO{p}{l:List α}{k}{a}(h:∀j,j<k->∀b,l[j]?=A b->p b=η)(B:l[k]?=A a)(D:p a=T):l.findIdx? p=A k:=by
 rw[findIdx?_eq_some_iff_getElem]
 grind
theorem YP{p}{l:List α}(h:∀j,j<C l->∀b,l[j]?=A b->p b=η):l.findIdx? p=ζ:=by
 rw[findIdx?_eq_none_iff];intro x a;have ⟨j,B⟩:=s8.1 a
 grind
def AY{α:Type}(p:α->Bool)(l:List α):Int:=match l.findIdx? p with|some i=>(i:Int)|none => -1
theorem Pc(p)(l:List α):θ (0<=AY p l)=l.any p:=by
 unfold AY
 grind
theorem sw(p)(l):(AY p l = -1/\l.find? p=ζ)\/∃(k:Nat) (o:α),AY p l=k/\l[k]?=A o/\l.find? p=A o:=by
 cases h:l.findIdx? p with
 |none =>
  left;refine⟨by simp[AY,h],?_⟩
  simp_all
 |some k =>
  right;have a:=h;rw[findIdx?_eq_some_iff_getElem]at h;have ⟨B,D,E⟩:=h;refine⟨k,l[k],by simp[AY,a],n_ _,?_⟩;rw[find?_eq_some_iff_getElem]
  grind
theorem SX{p:α->Bool}{k}{a}(h:∀j,j<k->∀b,l[j]?=A b->p b=η)(B:l[k]?=A a)(D:p a=η):∀j,j<k+1->∀b,l[j]?=A b->p b=η:=G_
theorem Rh{p}{l:List α}(h:∀j,j<C l->∀b,l[j]?=A b->p b=η):l.any p=η:=by
 rw[any_eq_false];intro x a;have ⟨j,B⟩:=s8.1 a
 grind
theorem aEq{p}{l:List α}{a}(c:l[k]?=A a)(b:p a=T):l.any p=T:=any_eq_true.2 ⟨_,m7 c,b⟩
end Go.Proofs.C
namespace Go.Abs
variable{H H':aF}{w w':World}{I:Nat->Prop}{ι:mD}{x:Obj}{zv:Value}{v0:AV}{id:Nat}{ob':Ob}
section
def EX(H:aF):aF->Prop
 | []=>True
 |(id,o)::r=>H.get id=A o/\EX H r
theorem EX.sub{H}:∀ {L},EX H L->Sub L H
 | [],_,id,o,h=>by cases h
 |(i,o')::r,h,id,o,a=>by
  simp[aF.get]at a;cases e:Nat.beq i _ with
  |true=>rw[e]at a;cases a;rw[<-Nat.eq_of_beq_eq_true e];exact h.1
  |false=>rw[e]at a;exact h.2.sub _ o a
theorem gN(D H)(k):aF.get (D++H) k=match D.get k with|some v=>A v|none=>H.get k:=QU D H k
theorem aU.frame{P:Program}{f:FuncId}{args:List AV}{H0 H1:aF}{r0:AV}(h:aU P f args H0 (λr H'=>r=r0/\H'=H1))(J:Sub H0 H)(u:dN H0)(z_:∀a∈args,Clo H0 a)
  (hk:∀id,(H1.get id).isSome=T->(H0.get id).isSome=T\/H.get id=ζ):aU P f args H (λr H'=>r=r0/\H'=H1++H):=by
 intro I L w vs F hl o_;refine(h I L w vs (F.restrict J u) hl (λi v a g h2=>(o_ i v a g h2).restrict J (z_ a (m7 h2)))).mono ?_;rintro e w' ⟨r,H',u4,D,v,rfl,⟨rfl,rfl⟩,k1,v_,n⟩;have ⟨s,τ⟩:∃s:mD,s=(λj=>if(H'.get j).isSome=T then D j else L j):=X_;have R:∀j o,H'.get j=A o->s j=D j:=λj o d=>by simp_all
 have t:∀j,H'.get j=ζ->s j=L j:=λj d=>by simp_all
 have g1:∀j o,H'.get j=A o->aF.get (H'++H) j=A o:=λj o d=>by rw[gN,d]
 have G:∀j,H'.get j=ζ->aF.get (H'++H) j=H.get j:=λj d=>by rw[gN,d]
 have y_:∀j o,H.get j=A o->H'.get j=ζ->H0.get j=ζ:=λj o d K=>by
  cases e:H0.get j with
  |none=>rfl
  |some o0 =>
   obtain ⟨p,W,_⟩:=n.objs j o0 e
   simp_all
 have y:∀j o b c,H.get j=A o->H'.get j=ζ->L j=A (b,c)->¬ OF L H0 b:=λj o b c d K f_ ⟨m,p,B,l,A_⟩=>by
  have:=F.inj j m o p b c B d (J _ _ l) f_ A_;subst this;rw[y_ j o d K]at l;cases l
 have e_:Step I L H w u4 s (H'++H) w':=by
  refine⟨n.os,n.tape,n.output,n.size,λa z_ K=>n.froz a z_ (λh=>K (h.sub J)),n.imm,λb f_=>?_,?_,?_,?_⟩
  .rcases n.immNew b f_ with g|g|g
   .exact .inl g
   .exact .inr (.inl (g.sub J))
   exact .inr (.inr g)
  .rintro b ⟨j,o,c,d,u⟩;cases e:H'.get j with
   |some p =>
    rw[R j p e]at u;rcases n.own b ⟨j,p,c,e,u⟩with g|g
    .exact .inl (g.sub J)
    exact .inr g
   |none =>
    rw[t j e]at u;rw[G j e]at d;exact .inl ⟨j,o,c,d,u⟩
  .intro b f_ K;exact n.keep b f_ (λh=>K (h.sub J))
  intro j o d;cases e:H'.get j with
  |some p =>
   rcases hk j (by rw[e];rfl)with g|g
   .have ⟨o0,e0⟩:=Option.isSome_iff_exists.1 g;have:=J _ _ e0;rw[d]at this;cases this;have ⟨o2,q1,q2,q3⟩:=n.objs j o e0;exact⟨o2,g1 j o2 q1,q2,λe=>by rw[R j o2 q1];exact q3 e⟩
   rw[d]at g;cases g
  |none=>exact⟨o,(G j e).trans d,h_ _,λ_=>⟨t j e,Z,λ_=>h_ _⟩⟩
 have r4:∀ {v:Value} {a:AV},VRel w' u4 D H' v a->VRel w' u4 s (H'++H) v a:=λσ =>
  σ.mono' (λ_ _=>rfl) (λ_ h=>h) (λid o ho=>⟨o,g1 id o ho,h_ _,λ_=>⟨R id o ho,Z,λ_=>h_ _⟩⟩)
 refine⟨r,H'++H,u4,s,v,Z,⟨Z,Z⟩,r4 k1,⟨v_.imm,λj o d=>?_,λj m o p b c B d l u k=>?_,v_.glob⟩,e_⟩
 .cases e:H'.get j with
  |some p =>
   rw[g1 j p e]at d;obtain rfl:p=o:=Option.some.inj d;exact(v_.obj j p e).keep (R j p e) (λ_ _ _ _=>⟨Z,λh=>h⟩) (λr _ a _ v o_=>r4 o_)
  |none =>
   rw[G j e]at d;refine(F.obj j o d).keep (t j e) (λu_ z W E=>⟨n.keep u_ E (y j o u_ z d e W),λe3 hi=>?_⟩) (λr _ a _ v o_=>o_.mono F e_);rcases n.immNew u_ hi with g|g|g
   .exact e3 g
   .exact y j o u_ z d e W g
   omega
 cases e:H'.get j with
 | some q =>
  rw[R j q e]at u;cases x:H'.get m with
  |some Q =>
   rw[R m Q x]at k;exact v_.inj j m q Q b c B e x u k
  |none =>
   rw[t m x]at k;rw[G m x]at l;have E:=F.lt ⟨m,p,B,l,k⟩;rcases n.own b ⟨j,q,c,e,u⟩with g|g
   .exact absurd g (y m p b B l x k)
   omega
 | none =>
  rw[t j e]at u;rw[G j e]at d;cases x:H'.get m with
  |some Q =>
   rw[R m Q x]at k;have E:=F.lt ⟨j,o,c,d,u⟩;rcases n.own b ⟨m,Q,B,x,k⟩with g|g
   .exact absurd g (y j o b c d e u)
   omega
  |none =>
   rw[t m x]at k;rw[G m x]at l;exact F.inj j m o p b c B d l u k
mutual
def tH(ρ:Nat->Nat):AV->AV
 |.any=>.any
 |.pv p=>.pv p
 |.ref id g i k=>.ref (ρ id) g i k
 |.pad rows i k=>.pad rows i k
 |.osl id g off len=>.osl (ρ id) g off len
 |.clo f caps=>.clo f (BR ρ caps)
 |.bnd f xs=>.bnd f (BR ρ xs)
 |.agg cs=>.agg (BR ρ cs)
 |.tup vs=>.tup (BR ρ vs)
 |.mp id g=>.mp (ρ id) g
 |.it id g=>.it (ρ id) g
 |.yld id g=>.yld (ρ id) g
 |.raw x ts=>.raw x ts
 |.osc id g off len c=>.osc (ρ id) g off len c
def BR(ρ:Nat->Nat):List AV->List AV
 | []=>[]
 |a::l=>tH ρ a::BR ρ l
end
theorem oL(ρ)(l):BR ρ l=l.map (tH ρ):=by
 induction l with
 |nil=>rfl
 |cons a l b=>simp[BR,b]
def xE(ρ:Nat->Nat)(o:Ob):Ob:=⟨o.g,o.sz,o.ty,o.rows.map (BR ρ)⟩
def IQ(ρ:Nat->Nat)(H:aF):aF:=H.map λp=>(ρ p.1,xE ρ p.2)
theorem Kt{ρ}{a}{y}{b}(h:tH ρ a=.raw y b):a=.raw y b:=by cases a<;>first|exact h|(cases h)
theorem Vk{ρ}(o):∀y e r',(xE ρ o).rows=[[.raw y e],r']->∃r,o.rows=[[.raw y e],r]:=by
 intro y e r' h;have ⟨g,sz,ty,rows⟩:=o;simp[xE]at h |-;cases rows with
 |nil=>grind
 | cons a rows =>
  cases rows with
  |nil=>grind
  | cons b rows =>
   cases rows with
   |cons c rows=>grind
   | nil =>
    simp[map_cons,map_nil,List.cons.injEq,and_true]at h;have ⟨d,_⟩:=h;cases a with
    |nil=>simp[BR]at d
    | cons x a =>
     cases a with
     |cons z a=>simp[BR]at d
     |nil =>
      simp[BR,List.cons.injEq,and_true]at d;exact⟨b,by rw[Kt d]⟩
section
variable{ρ:Nat->Nat}(hρ:∀n,ρ (ρ n)=n)
include hρ
theorem vP(H)(id):(IQ ρ H).get (ρ id)=(H.get id).map (xE ρ):=by
 induction H with
 |nil=>rfl
 |cons p H a =>
  have ⟨i,o⟩:=p;simp[IQ,map_cons,aF.get]at a |-;by_cases e:i=id
  .simp_all
  have:ρ i≠ρ id:=λh=>e G_;simp[kE e,kE this,a]
theorem BS(H)(id):(IQ ρ H).get id=(H.get (ρ id)).map (xE ρ):=by
 have:=vP hρ H (ρ id)
 rwa [hρ]at this
theorem VRel.ren{v:Value}{a:AV}(h:VRel w I ι H v a):VRel w I (λj=>ι (ρ j)) (IQ ρ H) v (tH ρ a):=by
 induction h with
 |any v=>exact .any v
 |pv h=>exact .pv h
 |ref o f l c h =>
  refine .ref (xE ρ o) (by rw[vP hρ,f];rfl) l c (λe=>?_);have ⟨g,b,q,s,k⟩:=h e;exact⟨g,b,q,F_,k⟩
 |pad b x q B h y u E D G F=>exact .pad b x q B h y u E D G F
 |osl o f l c h =>
  refine .osl (xE ρ o) (by rw[vP hρ,f];rfl) l c (λe=>?_);have ⟨g,s,k⟩:=h e;refine⟨g,by simpa[xE]using s,?_⟩;rw[hρ];exact k
 |clo z h r =>
  unfold tH;rw[oL];refine .clo F_ (λi v a t d=>?_);rw[r8]at d;obtain ⟨p,m,rfl⟩:=Option.map_eq_some_iff.1 d;exact r i v p t m
 |bnd z h r =>
  unfold tH;rw[oL];refine .bnd F_ (λi v a t d=>?_);rw[r8]at d;obtain ⟨p,m,rfl⟩:=Option.map_eq_some_iff.1 d;exact r i v p t m
 |agg z c h r =>
  unfold tH;rw[oL];refine .agg F_ c (λi v a t d=>?_);rw[r8]at d;obtain ⟨p,m,rfl⟩:=Option.map_eq_some_iff.1 d;exact r i v p t m
 |tup z h r =>
  unfold tH;rw[oL];refine .tup F_ (λi v a t d=>?_);rw[r8]at d;obtain ⟨p,m,rfl⟩:=Option.map_eq_some_iff.1 d;exact r i v p t m
 |mp o f l c h =>
  refine .mp (xE ρ o) (by rw[vP hρ,f];rfl) l c (λe=>?_);have ⟨g,b,s,k⟩:=h e;exact⟨g,b,F_,k⟩
 |it o f l c h =>
  refine .it (xE ρ o) (by rw[vP hρ,f];rfl) l c (λe=>?_);have ⟨g,b,s,k⟩:=h e;exact⟨g,b,F_,k⟩
 |yld o f l c h =>
  refine .yld (xE ρ o) (by rw[vP hρ,f];rfl) l c (λe=>?_);have ⟨g,b,s,k⟩:=h e;exact⟨g,b,F_,k⟩
 |osc o f l c h =>
  refine .osc (xE ρ o) (by rw[vP hρ,f];rfl) l c (λe=>?_);have ⟨g,s,k⟩:=h e;refine⟨g,s,?_⟩;rw[hρ];exact k
theorem Rel.ren{w}{I}{ι}{H}(h:Rel I ι H w):Rel I (λj=>ι (ρ j)) (IQ ρ H) w:=by
 refine⟨h.imm,λid o d=>?_,λid id' o E b c D d e f m=>?_,h.glob⟩
 .rw[BS hρ]at d;obtain ⟨s,p,rfl⟩:=Option.map_eq_some_iff.1 d;refine(h.obj _ _ p).keepG Z Z (by simp[xE]) (Vk _) Z (λ_ _ _ _=>⟨Z,λh=>h⟩) (λi r f=>?_);simp only[xE,r8]at f;obtain ⟨u,g,rfl⟩:=Option.map_eq_some_iff.1 f;refine⟨u,g,by rw[oL,g_],λk a B l q v t=>?_⟩;rw[oL,r8,l]at q;cases q;exact t.ren hρ
 rw[BS hρ]at d e;obtain ⟨s,p,rfl⟩:=Option.map_eq_some_iff.1 d;obtain ⟨F,l,rfl⟩:=Option.map_eq_some_iff.1 e;have:=h.inj _ _ _ _ b c _ p l f m;rw[<-hρ id,this,hρ]
theorem Step.ren{r:Nat->Prop}{g:mD}(h:Step I ι H w r g H' w'):Step I (λj=>ι (ρ j)) (IQ ρ H) w r (λj=>g (ρ j)) (IQ ρ H') w':=by
 have f:∀ {ι:mD} {H:aF} {b:Nat},OF (λj=>ι (ρ j)) (IQ ρ H) b↔OF ι H b:=by
  intro ι H b;constructor
  .rintro⟨id,o,c,d,q⟩;rw[BS hρ]at d;obtain ⟨l,p,rfl⟩:=Option.map_eq_some_iff.1 d;exact⟨_,l,c,p,q⟩
  rintro⟨id,o,c,d,q⟩;exact⟨ρ id,xE ρ o,c,by rw[vP hρ,d];rfl,F_⟩
 refine⟨h.os,h.tape,h.output,h.size,λa x m=>h.froz a x (λd=>m (f.2 d)),h.imm,λb i=>?_,λb i=>?_,λb i m=>h.keep b i (λd=>m (f.2 d)),λid o d=>?_⟩
 .rcases h.immNew b i with k|k|k;all_goals simp_all
 .rcases h.own b (f.1 i)with k|k;all_goals simp_all
 rw[BS hρ]at d;obtain ⟨l,p,rfl⟩:=Option.map_eq_some_iff.1 d;have ⟨z,s,B,u⟩:=h.objs _ l p;exact⟨xE ρ z,by rw[BS hρ,s];rfl,B,λe=>by
  have ⟨v,y,t⟩:=u e;exact⟨v,y,by simpa[xE]using t⟩⟩
theorem W8(l:List AV):BR ρ (BR ρ l)=l/\∀a∈l,tH ρ (tH ρ a)=a:=by
 have d:∀n:Nat,∀a:AV,SizeOf.sizeOf a<=n->tH ρ (tH ρ a)=a:=by
  intro n
  induction n with
  |zero=>intro a b;cases a<;>simp at b<;>omega
  | succ n o =>
   have q:∀l:List AV,SizeOf.sizeOf l<=n+1->BR ρ (BR ρ l)=l:=by
    intro l q;rw[oL,oL,map_map];have:∀a∈l,(tH ρ∘tH ρ) a=a:=λa b=>o a (by have:=sizeOf_lt_of_mem b;omega);rw[map_congr_left this,map_id']
   intro a b;cases a with
   |any=>rfl
   |pv p=>rfl
   |ref id g i k=>simp only[tH,hρ]
   |pad rows i k=>rfl
   |osl id g h e=>simp only[tH,hρ]
   |clo f caps=>simp only[tH];grind
   |bnd f xs=>simp only[tH];grind
   |agg m=>simp only[tH];grind
   |tup m=>simp only[tH];grind
   |mp id g=>simp only[tH,hρ]
   |it id g=>simp only[tH,hρ]
   |yld id g=>simp only[tH,hρ]
   |raw x ts=>rfl
   |osc id g h e c=>simp only[tH,hρ]
 have j:∀a∈l,tH ρ (tH ρ a)=a:=λa _=>d _ a (h_ _);refine⟨?_,j⟩;rw[oL,oL,map_map];have:∀a∈l,(tH ρ∘tH ρ) a=a:=j;rw[map_congr_left this,map_id']
theorem W9(H):IQ ρ (IQ ρ H)=H:=by
 simp[IQ,map_map];have:∀p∈H,((λp=>(ρ p.1,xE ρ p.2))∘λp=>(ρ p.1,xE ρ p.2)) p=p:=by
  rintro⟨i,o⟩ _;simp[Function.comp,hρ,xE,map_map];have:∀r∈o.rows,(BR _∘BR _) r=r:=λr _=>(W8 hρ r).1;rw[map_congr_left this,map_id']
 rw[map_congr_left this,map_id']
theorem aU.ren{P}{f}{args args'}{H H' H1 E}{r r'}(h:aU P f args H (λx K=>x=r/\K=H1))(p:BR ρ args=args')(t:IQ ρ H=H')(o:tH ρ r=r')(g:IQ ρ H1=E):
  aU P f args' H' (λx K=>x=r'/\K=E):=by
 subst p t o g;intro I l w D c F u;have b:=c.ren hρ;rw[W9 hρ]at b;have k:D.size=C args:=by rw[F,oL,g_]
 refine(h I _ w _ b k (λi v a G m=>?_)).mono ?_
 .have:=(u i v _ G (by rw[oL,r8,m];rfl)).ren hρ
  rwa [W9 hρ,(W8 hρ [a]).2 a H_]at this
 rintro e w' ⟨x,K,z,ι',v,rfl,⟨rfl,rfl⟩,s,y,B⟩;have d:=B.ren hρ;have q:(λj=>(λj=>l (ρ j)) (ρ j))=l:=F_
 rw[q]at d;exact⟨_,_,z,_,v,Z,⟨Z,Z⟩,s.ren hρ,y.ren hρ,d⟩
end
end
section
structure KeyKind(α:Type) where
 d:TypeDesc
 pv:α->PV
 val:α->Value
 rel:∀(w:World) (I:Nat->Prop) (v:Value) (a:α),PRep w I v (pv a)->v=val a
 inj:∀a b,val a=val b->a=b
 is:∀a,MapKept.IsKey d (val a)
 rep:∀(w:World) (I:Nat->Prop) (a:α),PRep w I (val a) (pv a)
def J7:KeyKind B_:=⟨.string,.str,.string,λ_ _ _ _ h=>by cases h;rfl,λ_ _ h=>by cases h;rfl,λ_=>trivial,λ_ _ _=>.str _⟩
def Qk:KeyKind Bool:=⟨.bool,.bool,.bool,λ_ _ _ _ h=>by cases h;rfl,λ_ _ h=>by cases h;rfl,λ_=>trivial,λ_ _ _=>.bool _⟩
def sJ{α:Type}(κ:KeyKind α)(l:List (α×AV)):List (List AV):=l.mapIdx λi p=>[.pv (κ.pv p.1),p.2,.pv (.int .i64 i)]
theorem GY{α}{κ:KeyKind α}{l}{i:Nat}{r}:(sJ κ l)[i]?=A r↔∃p,l[i]?=A p/\r=[.pv (κ.pv p.1),p.2,.pv (.int .i64 i)]:=by
 rw[sJ]
 grind
theorem LH{α}(κ:KeyKind α)(l):C (sJ κ l)=C l:=by simp[sJ]
theorem Z5{α}{κ:KeyKind α}{H}{w}{I}{ι}{v}{k}(h:VRel w I ι H v (.pv (κ.pv k))):v=κ.val k:=κ.rel _ _ _ _ h.pv_inv
section
variable{α:Type}
structure MapAt(w:World)(I:Nat->Prop)(ι:mD)(H:aF)(κ:KeyKind α)(l:List (α×AV))(es:Array MapEntry):Prop where
 size:es.size=C l
 rel:∀(i:Nat) (p:α×AV),l[i]?=A p->∃e,es[i]?=A e/\e.born=i/\e.key=κ.val p.1/\VRel w I ι H e.val p.2
theorem rv{w}{I}{ι}{H}{id b}{ob}{κ:KeyKind α}{l}(h:mC w I ι H id ob)(o:ob.sz=0)(d:ι id=A (b,0))(c:ob.rows=sJ κ l):
  ∃f,w.heap[b]?=A (.map f ob.ty)/\¬ I b/\MapAt w I ι H κ l f:=by
 obtain ⟨_,b',f,g,r,t,u,e5,e6,v⟩:=h.map o d;rw[d]at g;cases g;refine⟨f,r,t,⟨by rw[u,c,LH],λi p j=>?_⟩⟩;obtain ⟨e,k,a,n,q,y,s,x,m⟩:=v i _ (by rw[c];exact GY.2 ⟨p,j,Z⟩);cases y;exact⟨e,q,by injection m.int_inv with _ hh;omega,κ.rel _ _ _ _ s.pv_inv,x⟩
theorem MapAt.born{w}{I}{ι}{H}{κ:KeyKind α}{l}{c}(h:MapAt w I ι H κ l c){i}{e}(hi:c[i]?=A e):e.born=i/\i<C l:=by
 have a:i<C l:=by rw[<-h.size];grind
 have ⟨B,b,d,_⟩:=h.rel i _ (n_ a);rw[hi]at b;cases b;exact⟨d,a⟩
section
variable{id b cap:Nat}{ob ob':Ob}
def World.setObj(w:World)(b:Nat)(x:Obj):World:={w with heap:=w.heap.setIfInBounds b x}
def yr:Obj->Bool
 |.cells ..=>T
 |_=>η
theorem Rel.rewrite{P:Obj}(g:Rel I ι H w)(B:H.get id=A ob)(k:ι id=A (b,cap))(hz:ob.sz=0)(r:w.heap[b]?=A P)(h0:yr P=η)(hx:yr x=η)(hg:ob'.g=ob.g)(W:ob'.sz=0)
  (n:w.heap.size=(World.setObj w b x).heap.size->(World.setObj w b x).heap[b]?=A x->¬ I b->(∀v a,VRel w I ι H v a->VRel (World.setObj w b x) I ι H' v a)->mC (World.setObj w b x) I ι H' id ob')
  (K:H'.get id=A ob') (G:∀j,j≠id->H'.get j=H.get j):Rel I ι H' (World.setObj w b x)/\Step I ι H w I ι H' (World.setObj w b x):=by
 have p:OF ι H b:=⟨id,ob,cap,B,k⟩;have ⟨m,i⟩:=MapKept.heap_set (w:=w) (o':=x) r;have d:Step I ι H w I ι H' (World.setObj w b x):=by
  refine⟨Z,Z,Z,by simp[World.setObj],λa _ _=>?_,λ_ h=>h,λ_ h=>.inl h,?_,?_,?_⟩
  .by_cases e:a.block=b
   .simp_all
   simp[World.frozen?,World.setObj,i _ e]
  .rintro y ⟨j,o,c,f,J⟩;by_cases e:j=id
   .simp_all
   exact .inl ⟨j,o,c,(G j e).symm.trans f,J⟩
  .intro y _ s;exact i y (λe=>s (e▸p))
  grind
 refine⟨⟨λy s=>by simpa[World.setObj]using g.imm y s,?_,?_,d.glob g⟩,d⟩
 .intro j o f;by_cases e:j=id
  .subst e;rw[K]at f;cases f;exact n (by simp[World.setObj]) m ((g.obj j ob B).block k).2 (λv a D=>D.mono g d)
  rw[G j e]at f;exact(g.obj j o f).keep Z (λy c s _=>⟨i y (λE=>e (g.inj j id o ob b c cap f B (E▸s) k)),λh=>h⟩) (λr _ a _ v D=>D.mono g d)
 intro j F o r4 y c L f u J t;have l:∀j o,H'.get j=A o->∃o,H.get j=A o:=by
  grind
 have ⟨q,Q⟩:=l j o f;have ⟨R,z⟩:=l F r4 u;exact g.inj j F q R y c L Q z J t
theorem Rel.remap{κ:KeyKind α}{l:List (α×AV)}{q c:Array MapEntry}{u:Nat}(z:Rel I ι H w)(x:H.get id=A ob)(g:ι id=A (b,0))(B:ob.sz=0)(y:w.heap[b]?=A (.map q u))(D:ob'.g=ob.g)(h:ob'.sz=0)(L:ob'.ty=C l)(a:ob'.rows=sJ κ l)
  (f:MapAt w I ι H κ l c) (v:H'.get id=A ob') (E:∀j,j≠id->H'.get j=H.get j):Rel I ι H' (World.setObj w b (.map c (C l)))/\Step I ι H w I ι H' (World.setObj w b (.map c (C l))):=by
 refine z.rewrite x g B y Z Z D h (λ_ K P d=>?_) v E;refine .inr (.inl ⟨h,b,c,g,F_,P,by rw[f.size,a,LH],λi e o=>?_,λi j e Q J o F=>?_,λi r k=>?_⟩)
 .have ⟨m,n⟩:=f.born o
  simp_all
 .have m:=(f.born o).1;have n:=(f.born F).1;omega
 rw[a]at k;obtain ⟨p,s,rfl⟩:=GY.1 k;have ⟨e,m,n,G,t⟩:=f.rel i p s;exact⟨e,_,_,_,m,Z,by rw[G];exact .pv (κ.rep _ _ p.1),d _ _ t,by rw[n];exact .pv (.int _ _)⟩
end
theorem rr{w}{I}{ι}{H}{v}{id g}{ob}(h:VRel w I ι H v (.mp id g))(F:H.get id=A ob)(G:ob.g=g):ob.sz=0/\∃b,ι id=A (b,0)/\v=.map (A b):=by
 cases h with
 |mp J B D _ E =>
  simp_all
variable [DecidableEq α]
def zN:List (α×AV)->α->Option AV
 | [],_=>ζ
 |(k',a)::r,k=>if k'=k then A a else zN r k
def xJ:List (α×AV)->α->AV->List (α×AV)
 | [],k,v=>[(k,v)]
 |(k',a)::r,k,v=>if k'=k then(k,v)::r else(k',a)::xJ r k v
def Xk:List (α×AV)->α->List (α×AV)
 | [],_=>[]
 |(k',a)::r,k=>if k'=k then r else(k',a)::Xk r k
theorem QW{w:World}{I:Nat->Prop}{ι:mD}{H:aF}(κ:KeyKind α)(k:α):∀(l:List (α×AV)) (g:List MapEntry) (i:Nat),C g=C l->(∀(i:Nat) (p:α×AV),l[i]?=A p->∃e,g[i]?=A e/\e.key=κ.val p.1/\VRel w I ι H e.val p.2) ->
  (Instr.findNow κ.d (κ.val k) g i=A ζ/\zN l k=ζ/\∀v,xJ l k v=l++[(k,v)]) \/
  ∃j e a,Instr.findNow κ.d (κ.val k) g i=A (A (i+j,e.val))/\g[j]?=A e/\e.key=κ.val k/\zN l k=A a/\VRel w I ι H e.val a/\l[j]?=A (k,a)/\(∀v,xJ l k v=l.set j (k,v))/\Xk l k=l.eraseIdx j
 | [],[],i,_,_=>.inl ⟨Z,Z,λ_=>rfl⟩
 | (n,a)::l,e::g,i,hl,x=>by
  obtain ⟨K,J,m,B⟩:=x 0 (n,a) Z;cases J;have ⟨r,h,d⟩:=MapKept.sameNow_of_keys (κ.is k) (show MapKept.IsKey κ.d e.key by rw[m];exact κ.is n);by_cases f:n=k
  .subst f;have t:r=T:=d.2 m.symm;subst t;exact .inr ⟨0,e,a,by simp[Instr.findNow,h],Z,m,by simp[zN],B,Z,λv=>by simp[xJ],by simp[Xk]⟩
  have s:r=η:=by
   cases r with
   |false=>rfl
   |true=>exact absurd (κ.inj _ _ ((d.1 Z).trans m)).symm f
  subst s;rcases QW κ k l g (i+1) F_ (λi p y=>x (i+1) p y)with⟨o,u,q⟩|⟨j,E,F,o,u,q,D,G,h6,i_,z⟩
  .exact .inl ⟨by simp[Instr.findNow,h,o],by simp[zN,f,u],λv=>by simp[xJ,f,q]⟩
  exact .inr ⟨j+1,E,F,by simp[Instr.findNow,h,o];omega,F_,q,by simp[zN,f,D],G,F_,λv=>by simp[xJ,f,i_],by simp[Xk,f,z]⟩
section
variable{P:Program}{r4:Nat}{o:Oper}{E:dG}{u4 kt et:TypeId}{x y z:Operand}{κ:KeyKind α}{l:List (α×AV)}{id g:Nat}{ob:Ob}{k:α}
theorem IU(u:o.op=.lookup u4 x y false)(i_:P.underlying u4=some (.map kt et))(hd:P.underlying kt=some κ.d)(o_:aQ E x=some (.mp id g))(s:H.get id=some ob)(Q:ob.g=g)
  (d:ob.rows=sJ κ l) (G:aQ E y=some (.pv (κ.pv k))) (f_:∀w,(zeroValue et).run P w=.ok zv w) (D:ZV zv v0):cP P r4 o E H ((zN l k).getD v0) H :=
 .of_run λa w I ι c_ t=>by
  obtain ⟨q,b,r,m⟩:=rr (aJ t o_) s Q;obtain ⟨R,d_,e3,v⟩:=rv (c_.obj id ob s) q r d;have h:=Z5 (aJ t G);rcases QW κ k l R.toList 0 (by simpa using v.size) (λi p u_=>let ⟨e,q1,_,e_⟩:=v.rel i p u_;⟨e,F_,e_⟩)with⟨n,B,L⟩|⟨j,e,a',n,B,L,F,K,_⟩
  ·refine⟨zv,?_,by rw[B];exact D.rel⟩;simp only[execOp,u,m,h];simp[Instr.lookup,run_underlying i_,MapKept.run_getObj_map d_,MapKept.run_checkKey hd (κ.is k),MapKept.run_findKey hd n,f_]
  refine⟨e.val,?_,by rw[F];exact K⟩;simp only[execOp,u,m,h];simp[Instr.lookup,run_underlying i_,MapKept.run_getObj_map d_,MapKept.run_checkKey hd (κ.is k),MapKept.run_findKey hd n]
theorem HY(D:o.op=.lookup u4 x y T)(d:P.underlying u4=A (.map kt et))(J:P.underlying kt=A κ.d)(Q:aQ E x=A (.mp id g))(m:H.get id=A ob)(z_:ob.g=g)
  (f:ob.rows=sJ κ l) (f_:aQ E y=A (.pv (κ.pv k))) (hz:∀w,(zeroValue et).run P w=.ok zv w) (h:ZV zv v0):cP P r4 o E H (.tup [(zN l k).getD v0,.pv (.bool (zN l k).isSome)]) H :=
 .of_run λa w I F R G=>by
  have ⟨i_,b,B,s⟩:=rr (aJ G Q) m z_;have ⟨u_,L,e3,K⟩:=rv (R.obj id ob m) i_ B f;have n:=Z5 (aJ G f_);have r:∀ {u:Value} {a:AV} {c:Bool},VRel w I F H u a->VRel w I F H (.tuple #[u,.bool c]) (.tup [a,.pv (.bool c)]):=fun {u a c} y_=>.tup Z (λi v q h t=>by
   match i with
   |0=>simp at h t;subst h t;exact y_
   |1=>simp at h t;subst h t;exact .pv (.bool _)
   |i+2=>simp at h)
  rcases QW κ k l u_.toList 0 (by simpa using K.size) (λi p z=>let ⟨e,q1,_,W⟩:=K.rel i p z;⟨e,F_,W⟩)with⟨d_,e_,v_⟩|⟨j,e,a',d_,e_,v_,h4,A_,_⟩
  .refine⟨.tuple #[zv,.bool η],?_,by rw[e_];exact r h.rel⟩;simp only[execOp,D,s,n];simp[Instr.lookup,run_underlying d,MapKept.run_getObj_map L,MapKept.run_checkKey J (κ.is k),MapKept.run_findKey J d_,hz]
  refine⟨.tuple #[e.val,.bool T],?_,by rw[h4];exact r A_⟩;simp only[execOp,D,s,n];simp[Instr.lookup,run_underlying d,MapKept.run_getObj_map L,MapKept.run_checkKey J (κ.is k),MapKept.run_findKey J d_]
theorem VT{v:AV}{H2:aF}(c:o.op=.mapUpdate u4 x y z\/o.op=.insert u4 x y z)(hT:P.underlying u4=A (.map kt et))(d:P.underlying kt=A κ.d)(hx:aQ E x=A (.mp id g))(A_:H.get id=A ob)(hg:ob.g=g)
  (τ:ob.ty=C l) (s:ob.rows=sJ κ l) (hy:aQ E y=A (.pv (κ.pv k))) (hz:aQ E z=A v) (v_:H.set id {ob with ty:=C (xJ l k v),rows:=sJ κ (xJ l k v)}=H2):cP P r4 o E H .any H2:=by
 intro a w I ι _ _ hr h K Q c_;have ⟨r,b,G,D⟩:=rr (aJ h hx) A_ hg;have ⟨R,J,e3,n⟩:=rv (hr.obj id ob A_) r G s;rw[τ]at J;have B:=Z5 (aJ h hy);have L:=aJ h hz;subst v_;have o_:∀t,(Instr.mapUpdate u4 (a.eval x) (a.eval y) (a.eval z)).run P w=.ok () (World.setObj w b (.map t (C (xJ l k v))))->MapAt w I ι H κ (xJ l k v) t->o.wpW P a w K Q:=by
  intro t q hm;have ⟨k2,k3⟩:=Rel.remap (H':=H.set id {ob with ty:=C (xJ l k v),rows:=sJ κ (xJ l k v)}) (ob':={ob with ty:=C (xJ l k v),rows:=sJ κ (xJ l k v)}) hr A_ G r J Z r Z Z hm (aF.get_set_same _ _ _) (λj u=>aF.get_set_other _ _ u);unfold Oper.wpW execOp;rcases c with c|c
  .simp only[c,Sem.run_bind,q,Result.andThen_ok,Sem.run_pure];exact c_ _ _ I ι _ _ ⟨Z,Z⟩ (.any _) k2 k3
  simp only[c,Sem.run_bind,q,Result.andThen_ok,Sem.run_pure];exact c_ _ _ I ι _ _ ⟨Z,Z⟩ (.any _) k2 k3
 rcases QW κ k l R.toList 0 (by simpa using n.size) (λi p f=>let ⟨e,u_,_,q3⟩:=n.rel i p f;⟨e,F_,q3⟩)with⟨y_,h2,F⟩|⟨j,e,a',y_,h2,F,h4,h5,h6,f_,h8⟩
 .refine o_ (R.push {key:=κ.val k,val:=a.eval z,born:=C l}) ?_ ⟨?_,?_⟩
  .simp[Instr.mapUpdate,D,B,run_underlying hT,MapKept.run_getObj_map J,MapKept.run_checkKey d (κ.is k),MapKept.run_findKey d y_,MapKept.run_setObj_map _ J,World.setObj,F]
  .rw[F];simp[n.size]
  intro i p f;rw[F]at f;by_cases hi:i<C l
  .rw[List.getElem?_append_left hi]at f;obtain ⟨e,u_,q2⟩:=n.rel i p f
   grind
  rw[List.getElem?_append_right (by omega)]at f;cases e_:i - C l with
  |zero =>
   rw[e_]at f;cases f;exact⟨_,by rw[Array.getElem?_push,b6 (by rw[n.size];omega)],by show C l=i;omega,Z,L⟩
  |succ m=>rw[e_]at f;simp at f
 have u:R[j]?=A e:=by simpa using h2
 have z_:j<R.size:=(Array.getElem?_eq_some_iff.1 u).1;have W:C (xJ l k v)=C l:=by rw[f_];simp
 refine o_ (R.modify j λe=>{e with key:=κ.val k,val:=a.eval z}) ?_ ⟨?_,?_⟩
 .simp[Instr.mapUpdate,D,B,run_underlying hT,MapKept.run_getObj_map J,MapKept.run_checkKey d (κ.is k),MapKept.run_findKey d y_,u,F,MapKept.run_keyThatStays (κ.is k),MapKept.run_setObj_map _ J,World.setObj,W]
 .rw[f_];simp[n.size]
 intro i p f;rw[f_]at f;by_cases e:i=j
 .subst e;rw[getElem?_set_self (by rw[<-n.size];exact z_)]at f;cases f;exact⟨{e with key:=κ.val k,val:=a.eval z},by rw[Array.getElem?_modify,b6 Z,u];rfl,(n.born u).1,Z,L⟩
 rw[List.getElem?_set_ne (Ne.symm e)]at f;obtain ⟨e',u_,q2⟩:=n.rel i p f;exact⟨e',by rw[Array.getElem?_modify,a8 (Ne.symm e)];exact u_,q2⟩
theorem Rel.placeX{cap:Nat}{x:Obj}(n:Rel I ι H w)(G:w'.os=w.os)(q:w'.tape=w.tape)(D:w'.output=w.output)(g:w'.heap=w.heap.push x)
  (R:∀o,H.get id=A o->o.g<ob'.g)
  (F:w'.heap[w.heap.size]?=A x->¬ I w.heap.size->(∀v a,VRel w I ι H v a->VRel w' I (λj=>if j=id then A (w.heap.size,cap)else ι j) H' v a)->mC w' I (λj=>if j=id then A (w.heap.size,cap)else ι j) H' id ob')
  (Q:H'.get id=A ob') (u:∀j,j≠id->H'.get j=H.get j) :
  Rel I (λj=>if j=id then A (w.heap.size,cap)else ι j) H' w'/\Step I ι H w I (λj=>if j=id then A (w.heap.size,cap)else ι j) H' w':=by
 have d:w'.heap[w.heap.size]?=A x:=F_
 have b:∀x,x<w.heap.size->w'.heap[x]?=w.heap[x]?:=λx s=>by grind
 have P:w'.heap.size=w.heap.size+1:=F_
 have m:Step I ι H w I (λj=>if j=id then A (w.heap.size,cap)else ι j) H' w':=by
  refine⟨G,q,D,X,λa W _=>?_,λ_ h=>h,λ_ h=>.inl h,?_,λx s _=>b x s,?_⟩
  .simp[World.frozen?,b a.block W]
  .rintro x ⟨j,o,c,p,i⟩;by_cases e:j=id
   .simp only[e,if_true]at i;cases i;exact .inr (h_ _)
   simp only[e,if_false]at i;exact .inl ⟨j,o,c,(u j e).symm.trans p,i⟩
  grind
 refine⟨⟨λx s=>by have:=n.imm x s;omega,?_,?_,m.glob n⟩,m⟩
 .intro j o p;by_cases e:j=id
  .subst e;rw[Q]at p;cases p;exact F d (λk=>Nat.lt_irrefl _ (n.imm _ k)) (λv a J=>J.mono n m)
  rw[u j e]at p;exact(n.obj j o p).keep (by simp[e]) (λx c _ s=>⟨b x s,λh=>h⟩) (λr _ a _ v J=>J.mono n m)
 intro j E o L x c K p B i f;by_cases e:j=id<;>by_cases t:E=id
 .rw[e,t]
 .simp only[e,if_true]at i;simp only[t,if_false]at f;cases i;have:=n.lt ⟨E,L,K,(u E t).symm.trans B,f⟩;exact absurd this (Nat.lt_irrefl _)
 .simp only[e,if_false]at i;simp only[t,if_true]at f;cases f;have:=n.lt ⟨j,o,c,(u j e).symm.trans p,i⟩;exact absurd this (Nat.lt_irrefl _)
 simp only[e,if_false]at i;simp only[t,if_false]at f;exact n.inj j E o L x c K ((u j e).symm.trans p) ((u E t).symm.trans B) i f
theorem Rel.placeM(i:Rel I ι H w)(e:w'.os=w.os)(a:w'.tape=w.tape)(c:w'.output=w.output)(n:w'.heap=w.heap.push (.map #[] 0))
  (b:∀o,H.get id=A o->o.g<ob'.g) (d:ob'.sz=0) (D:ob'.ty=0) (B:ob'.rows=[]) (f:H'.get id=A ob') (m:∀j,j≠id->H'.get j=H.get j) :
  Rel I (λj=>if j=id then A (w.heap.size,0)else ι j) H' w'/\Step I ι H w I (λj=>if j=id then A (w.heap.size,0)else ι j) H' w' :=
 i.placeX e a c n b (λE h _=>.inr (.inl ⟨d,w.heap.size,#[],H_,F_,h,F_,H_,H_,F_⟩)) f m
theorem Xs{I}{ι}{w}{id B}(c:Rel I ι H w)(b:∀o,H.get id=A o->o.g<B):
  ∃a,VRel (w.alloc (.map #[] 0)) I a ((id,⟨B,0,0,[]⟩)::H) (.map (A w.heap.size)) (.mp id B)/\Rel I a ((id,⟨B,0,0,[]⟩)::H) (w.alloc (.map #[] 0))/\Step I ι H w I a ((id,⟨B,0,0,[]⟩)::H) (w.alloc (.map #[] 0)):=by
 have ⟨d,f⟩:=Rel.placeM (ob':=⟨B,0,0,[]⟩) (w':=w.alloc _) c Z Z Z Z b Z Z Z (get_cons_same _ _ _) (λj e=>get_cons_other _ _ e);exact⟨_,.mp _ (get_cons_same _ _ _) (h_ _) Z λ_=>⟨Z,w.heap.size,H_,Z⟩,d,f⟩
theorem vU{α}(κ:KeyKind α)(b:o.op=.makeMap u4 none)(hid:H.get id=none):cP P r4 o E H (.mp id 0) ((id,⟨0,0,([]:List (α×AV)).length,sJ κ []⟩)::H):=by intro a w I ι _ _ h he K Q d;obtain ⟨ι',e,c,f⟩:=Xs (id:=id) h (λo b=>by simp_all);unfold Oper.wpW execOp;simp[b,Instr.makeMap,Option.map_none,Sem.run_bind,run_newObj,Sem.run_pure,Result.andThen_ok];exact d _ _ I _ _ _ ⟨Z,Z⟩ e c f
theorem zO{v}{b}(f:o.op=.mapUpdate u4 x y z\/o.op=.insert u4 x y z)(i:P.underlying u4=A (.map kt et))(B:P.underlying kt=A κ.d)(j:aQ E x=A (.mp id g))(e:H.get id=A ob)(d:ob.g=g)
  (c:ob.ty=C l) (a:ob.rows=sJ κ l) (h:aQ E y=A (.pv (κ.pv k))) (n:aQ E z=A v) (m:xJ l k v=b):cP P r4 o E H .any ((id,⟨g,ob.sz,C b,sJ κ b⟩)::H):=by
 subst d m;exact(VT f i B j e Z c a h n Z).congr (yF _ _ _)
end
end
end
section
theorem Oe{w}{I}{ι}{H}{v}{id g}{ob}(h:VRel w I ι H v (.it id g))(F:H.get id=A ob)(G:ob.g=g):ob.sz=0/\∃b,ι id=A (b,1)/\v=.pointer (A ⟨b,0,ζ⟩):=by
 cases h with
 |it J B D _ E =>
  simp_all
section
variable{P:Program}{r4:Nat}{o:Oper}{E:dG}{f:Operand}{args:Array Operand}{at_:Array TypeId}{F:FuncId}{fn:Func}{e:Array Value->Sem Value}{vs:List AV}{r:AV}
def Zv(P:Program)(e:Array Value->Sem Value)(H:aF)(vs:List AV)(r:AV):Prop :=∀(w:World) (I:Nat->Prop) (ι:mD) (cs:Array Value),cs.size=C vs->(∀(i:Nat) (v:Value) (a:AV),cs[i]?=A v->vs[i]?=A a->VRel w I ι H v a)->∃c,(e cs).run P w=.ok c w/\VRel w I ι H c r
theorem QH(p:o.op=.call {callee:=.value f,args:=args,argTypes:=at_})(x:aQ E f=A (.pv (.fn F)))(s:P.funcs[F]?=A fn)(g:(fn.name == "runtime.NumGoroutine")=η)
  (k:fn.body.isNone=T) (q:Extern.findNext fn=ζ) (u:Extern.find fn=A e) (n:zF E args.toList=A vs) (h:Zv P e H vs r):cP P r4 o E H r H :=
 .of_run λa w I z D m=>by
  have l:=(aJ m x).fn_inv;have ⟨B,y⟩:=pT m (oE n);have ⟨c,t,j⟩:=h w I z (args.map a.eval) F_ (λi v b n k=>y i v b F_ k);refine⟨c,?_,j⟩;unfold execOp;simp only[p,resolve,l,Deferred.ofValue,Sem.run_bind,Sem.run_pure,Result.andThen_ok,invoke,Array.empty_append,Array.append_empty,run_callFunc_extern s g k q u,t]
theorem fa{w}{I}{ι}{H}{x y}{cs}(b:cs.size=C [x,y])(h:∀(i:Nat) (v) (a),cs[i]?=A v->[x,y][i]?=A a->VRel w I ι H v a):∃u v,cs=#[u,v]/\VRel w I ι H u x/\VRel w I ι H v y:=by
 have ⟨l⟩:=cs
 match l,b with
 | [u,v],_=>exact⟨u,v,Z,h 0 u x Z Z,h 1 v y Z Z⟩
theorem WF(s)(c):Zv P Extern.BytealgIndexByte.indexByte H [.pv (.str s),.pv (.int .u8 c)] (.pv (.int .i64 (Lib.indexByte (ν (μ s)) c.toNat.toUInt8))):=by intro w I ι cs b h;obtain ⟨u,v,rfl,d,g⟩:=fa b h;rw[d.str_inv,g.int_inv];exact⟨_,Lib.run_indexByteString s c w,.pv (.int _ _)⟩
end
theorem kX{P}{G0}{r4}{ops}{K}{E:dG}{H}{l}{t:Tmp}{v}(B:E.get t=A v)(h:AL P G0 r4 ops K l ((t,v)::E) H):AL P G0 r4 ops K l E H:=by
 intro G c a w d;refine h G c a w (cH.sub (λk u b=>?_) G c r4 a w d);by_cases e:t=k
 .subst e;rw[dG.get_cons_same]at b
  grind
 rwa [dG.get_cons_other _ _ e]at b
end
end Go.Abs
namespace Go.Proofs.C
open Go.Proofs.Tryz
open Go.Abs
variable{c:Nat}{α:Type}
abbrev RC(f : FuncId)(a : List AV)(x : AV)(H : aF): Prop := aU φ f a H (λr H' => r = x /\ H' = H)
theorem AP(s:B_)(c:Int)(H:aF):RC 250 [.pv (.str s),.pv (.int .u8 c)] (.pv (.int .i64 (Lib.indexByte (ν (μ s)) c.toNat.toUInt8))) H:=by refine Pu ?_;exact Bd func250 Z ntmps250<|Sz aH<|U aA<|Y aA<|Y (QH Z Z func279 Z Z Z Z Z (WF s c))<|V aH<|aC<|Rt<|Qq
theorem sL(s)(c)(H):RC 199 [.pv (.str s),.pv (.int .u8 c)] (.pv (.int .i64 (Lib.indexByte (ν (μ s)) c.toNat.toUInt8))) H:=by refine Pu ?_;exact Bd func199 Z ntmps199<|Sz aH<|U aA<|Y aA<|Y (bH Z Z call250 Z (AP s c _))<|V aH<|aC<|Rt<|Qq
abbrev aBJ:B_:=⟨#[32,9,10]⟩
abbrev aF7:B_:=⟨#[59,44,46,58,40,41,123,125,91,93,61,60,62,47,45]⟩
def sr(s:B_)(n:Int):Bool:=θ (0<=Lib.indexByte (ν (μ s)) n.toNat.toUInt8)
def vY(n:Int):Bool:=(θ (97<=n)&&θ (n<=122))||(θ (65<=n)&&θ (n<=90))
def yQ(n:Int):Bool:=θ (48<=n)&&θ (n<=57)
def HL(n:Int):Int:=if vY n then 3 else if yQ n then 4 else if sr aBJ n then 1 else if sr aF7 n then 6 else 0
def yZ(n:Int):Int:=if n=34 then 7 else if n=95 then 5 else if n=35 then 2 else HL n
def tX(c:Nat):List AV:=(List.range 256).map λ(i:Nat)=>.pv (.int .u8 (if i<c then HL i else 0))
def wR:List AV:=(List.range 256).map λ(i:Nat)=>.pv (.int .u8 (yZ i))
theorem lA(c):C (tX c)=256:=rfl
theorem uZ(E:c<256){v}(a:HL c=v):(tX c).set c (.pv (.int .u8 v))=tX (c+1):=by
 apply ext_getElem
 .simp[tX]
 intro i B D;rw[getElem_set]
 split
 .next e=>subst e;simp[tX,a]
 next e=>simp[tX,getElem_map,getElem_range];grind
theorem mc(b:c<256)(a:HL c=0):tX c=tX (c+1):=by
 rw[<-uZ b a];apply ext_getElem
 .simp
 intro i B D;rw[getElem_set]
 split
 .next e=>subst e;simp[tX]
 rfl
theorem mb:List.replicate 256 (.pv (.int .u8 0))=tX 0:=rfl
theorem me:(((tX 256).set 35 (.pv (.int .u8 2))).set 95 (.pv (.int .u8 5))).set 34 (.pv (.int .u8 7))=wR:=by kernel_rfl
theorem ue{m}(h:m<256):wR[m]?=A (.pv (.int .u8 (yZ m))):=by simp[wR,h]
theorem pD(c)(H):∀r∈[tX c],∀a∈r,Clo H a:=by intro r b a d;rw[q9]at b;subst b;obtain ⟨i,_,rfl⟩:=mem_map.1 d;simp
instance(c)(H):W_ (H) ([tX c]):=⟨pD c H⟩
theorem ma(H):Clo H (.agg wR):=by rw[cz];intro a b;obtain ⟨i,_,rfl⟩:=mem_map.1 b;simp
theorem uy:eU φ 223 (List.replicate 256 (.pv (.int .u8 0))):=⟨_,.agg _,zeroValue223,.inl (Z),Z⟩
theorem w6{p:Prop}(h:p:=by exact cM Z cO Z Z Z Z Z Z (by rw[lA];omega) (uZ d f) Z):p:=h
theorem Y3 (H:aF):RC 211 [] (.agg wR) H:=by
  refine Pu<|Bd func211 Z ntmps211<|Sz (kl 0 uy)<|Sz (kl 1 uy)<|S<|Sz aA<|aE ?_;rw[mb];refine bF (σ:=Nat) (λc=>([(0,.ref 0 0 0 0),(1,.ref 1 0 0 0),(4,iv (c:Int))],[(1,bx 256 223 (tX c)),(0,bx 256 223 (tX 0))])) (λc=>c<=256) (λc=>256 - c) 0 X ?_ ?_
  · exact L_
  · intro c B
    refine Sz cI<|S<|Cn ?_ ?_<;>intro n
    · have d:c<256:=I_ n
      refine aB<|S<|aE<|U aA<|V aH<|U aA<|Y (eE Z underlying3 cZ Z (wu8 X X))<|V aH<|aE<|S<|S<|aT (t:=9) (n:=8) (A_:=θ (97<=(c:Int))&&θ ((c:Int)<=122)) ?_ ?_
      · all_goals refine Y aA<|Y H7<|Dm ?_<;>(refine Sp 12 (λm=>?_) λm=>?_)<;>(first|exact s_|refine M<|M ?_|refine O aA<|O H7 ?_)<;>refine Y cD<|Da ?_<;>(exact⟨⟨_,Z,G_⟩,Z,Z,Z⟩)
      refine Cn ?_ ?_<;>intro b
      · have f:HL c=3:=by rw[HL,vY,b];rfl
        refine aB<|Cn ?_ ?_<;>intro j
        · skip
          refine Rd aA<|Y (eV (k2:=c) Z gP cO Z Z Z Z X (l_ _) X X)<|Uu w6<|Zz<|Rd iD<|V aA ?_;exact⟨c+1,X,X,L_⟩
        · rw[b]at j;cases j
      · skip
        refine aT (t:=9) (n:=8) (A_:=θ (65<=(c:Int))&&θ ((c:Int)<=90)) ?_ ?_
        · all_goals refine Y aA<|Y H7<|Dm ?_<;>(refine Sp 18 (λk=>?_) λk=>?_)<;>(first|exact s_|refine M<|M ?_|refine O aA<|O H7 ?_)<;>refine Y cD<|Da ?_<;>(exact⟨⟨_,Z,G_⟩,Z,Z,Z⟩)
        refine Cn ?_ ?_<;>intro e
        · have f:HL c=3:=by rw[HL,vY,b,e];rfl
          refine Rd aA<|Y (eV (k2:=c) Z gP cO Z Z Z Z X (l_ _) X X)<|Uu w6<|Zz<|Rd iD<|V aA ?_;exact⟨c+1,X,X,L_⟩
        · skip
          refine S<|aT (t:=24) (n:=8) (A_:=θ (48<=(c:Int))&&θ ((c:Int)<=57)) ?_ ?_
          · all_goals refine Y aA<|Y H7<|Dm ?_<;>(refine Sp 27 (λl=>?_) λl=>?_)<;>(first|exact s_|refine M<|M ?_|refine O aA<|O H7 ?_)<;>refine Y cD<|Da ?_<;>(exact⟨⟨_,Z,G_⟩,Z,Z,Z⟩)
          refine Cn ?_ ?_<;>intro g
          · have f:HL c=4:=by rw[HL,vY,b,e,yQ,g];rfl
            refine Rd aA<|Y (eV (k2:=c) Z gP cO Z Z Z Z X (l_ _) X X)<|Uu w6<|Zz<|Rd iD<|V aA ?_;exact⟨c+1,X,X,L_⟩
          · skip
            refine U aA<|Y (kc call199 (sL _ _ _))<|Y AF<|Da<|Cn ?_ ?_<;>intro h
            · have f:HL c=1:=by rw[HL,vY,b,e,yQ,g,sr,h];rfl
              refine Rd aA<|Y (eV (k2:=c) Z gP cO Z Z Z Z X (l_ _) X X)<|Uu w6<|Zz<|Rd iD<|V aA ?_;exact⟨c+1,X,X,L_⟩
            · skip
              refine U aA<|Y (kc call199 (sL _ _ _))<|Y AF<|Da<|Cn ?_ ?_<;>intro i
              · have f:HL c=6:=by rw[HL,vY,b,e,yQ,g,sr,h,sr,i];rfl
                refine Rd aA<|Y (eV (k2:=c) Z gP cO Z Z Z Z X (l_ _) X X)<|Uu w6<|Zz<|Rd iD<|V aA ?_;exact⟨c+1,X,X,L_⟩
              · have f:HL c=0:=by rw[HL,vY,b,e,yQ,g,sr,h,sr,i];rfl
                refine aB<|Rd iD<|V aA ?_;rw[mc d f];exact⟨c+1,X,X,L_⟩
    · have:c=256:=G_
      subst this;refine aP<|U (by exact eV (k2:=35) Z gP cO Z Z Z Z X Z X Z)<|Uu (by exact cM Z cO Z Z Z Z Z Z (by simp[lA]) Z Z)<|Y (by exact eV (k2:=95) Z gP cO Z Z Z Z X Z X Z)<|Uu (by exact cM Z cO Z Z Z Z Z Z (by simp[lA]) Z Z)<|Y (by exact eV (k2:=34) Z gP cO Z Z Z Z X Z X Z)<|Uu (by exact cM Z cO Z Z Z Z Z Z (by simp[lA]) Z Z)<|Zz<|U (by exact aW Z isAgg223 A8 Z Z Z Z (show List.take 256 (List.drop 0 _)=wR by rw[<-me];rfl) Z)<|Uu (jG A8)<|Zz<|aC ?_;refine cT (H':=[]) (.inr Z) Z (fG Z isAgg223 A8 Z Z Z (show List.take 256 (List.drop 0 wR)=wR by rfl) Z) (Fin.wk (by exact ma _) T_ T_) ?_;exact Qq
abbrev a6:B_:=⟨#[]⟩
theorem N6(s)(k):0<=aZ s k:=by unfold aZ;omega
theorem CE(s)(k):(aZ s k).toNat<256:=by
 unfold aZ;have:=(((s.data.toList[k]?).getD 0)).toNat_lt
 simpa using this
theorem aA2(s)(k):wR[(aZ s k).toNat]?=A (.pv (.int .u8 (yZ (aZ s k)))):=by rw[ue (CE s k),Int.toNat_of_nonneg (N6 s k)]
theorem kO(H):∀r∈[wR],∀a∈r,Clo H a:=by intro r b a c;rw[q9]at b;subst b;have:=ma H;rw[cz]at this;exact this a c
instance(H):W_ (H) ([wR]):=⟨kO H⟩
def mh(s:B_)(k:Nat):Bool:=!θ (yZ (aZ s k)=3)&&(θ ((k:Int)=0)||(!θ (yZ (aZ s k)=4)&&!θ (yZ (aZ s k)=5)))
def cJ(s:B_):Bool:=!((List.range s.size).any (mh s))&&(!θ (s=a6)&&θ ((s.size:Int)<=24))
theorem BT{n}{p}(h:∀j,j<n->p j=η):(List.range n).any p=η:=F_
theorem uQ{n k}{p}(a:k<n)(h:p k=T):(List.range n).any p=T:=any_eq_true.2 ⟨k,mem_range.2 a,h⟩
theorem DE(s:B_)(H:aF)(D:s.size<2^62):RC 154 [sv s] (bv (cJ s)) H:=by
 refine Pu<|Bd func154 Z ntmps154<|Sz aH<|U (kc call211 (Y3 _))<|Y (kl 3 uy)<|Uu (mE Z A8 Z Z Z Z Z Z Z H_)<|Zz<|S<|U aA<|Y (gL U_)<|V aA<|aE<|bF (σ:=Nat) (λk=>([(0,sv s),(3,.ref 3 0 0 0),(8,iv (s.size:Int)),(9,iv (k:Int))],[(3,bx 256 223 wR)])) (λk=>k<=s.size/\∀j,j<k->mh s j=η) (λk=>s.size - k) 0 ⟨X,X⟩ ?_ ?_
 .exact L_
 rintro k ⟨hk,g⟩;refine Sz cI<|S<|Cn ?_ ?_<;>intro c
 .have h:k<s.size:=I_ c
  refine aB<|S<|aE<|U aA<|V aH<|U aA<|Y aA<|Y (ky U_)<|Y (eV (m:=(aZ s k).toNat) (k2:=(aZ s k).toNat) Z gP cO Z Z Z Z (N6 s k) Z (CE s k) X)<|Y (aX Z vE Z Z Z Z (aA2 s k))<|V aH<|S<|aT (t:=30) (n:=17) (A_:=mh s k) ?_ ?_
  .all_goals refine Y aA<|Y xI<|Dm ?_<;>(refine Sp 19 (λf=>?_) λf=>?_)<;>(first|exact s_|refine M<|M<|M ?_|refine O aA<|O cF<|O aA ?_)<;>(first|refine Sp 22 (λl=>?_) λl=>?_|refine kX (t:=22) Z ?_)<;>(first|exact s_|refine M ?_|refine Fu ?_|refine O aA ?_)<;>(first|refine M ?_|refine Fu ?_|refine O xI ?_)<;>(first|refine M ?_|refine Fu ?_|refine O aA ?_)<;>(first|refine Sp 25 (λe=>?_) λe=>?_|refine kX (t:=25) Z ?_)<;>(first|exact s_|refine M ?_|refine Fu ?_|refine O aA ?_)<;>(first|refine M ?_|refine Fu ?_|refine O xI ?_)<;>(first|refine M ?_|refine Fu ?_|refine O cD ?_)<;>(first|refine M ?_|refine O cD ?_)<;>refine V cD ?_<;>exact Gj (h:=by(simp only[mh, *];rfl))
  refine Cn ?_ ?_<;>intro d
  .refine Sz aH<|aC<|Rt ?_;exact⟨by rw[cJ,uQ h d];rfl,Z⟩
  refine aB<|Rd iD<|V aA ?_;refine⟨k+1,⟨X,λj B=>?_⟩,X,L_⟩
  grind
 have i:k=s.size:=J_ c
 refine aP<|S<|aT (t:=2) (n:=9) (A_:=!θ (s=a6)&&θ ((s.size:Int)<=24)) ?_ ?_
 .all_goals refine Y aA<|Y E4<|Dm ?_<;>(refine Sp 34 (λm=>?_) λm=>?_)<;>(first|exact s_|refine M<|M<|M ?_|refine O aA<|O (gL U_)<|O H7 ?_)<;>refine Y cD<|Da ?_<;>exact Gj (h:=by simp_all)
 refine aC<|Rt ?_;subst i;exact⟨by rw[cJ,BT g];rfl,Z⟩
def big:Nat:=4611686018427387904
def kW{α:Type}(f:α->B_)(l:List α):Nat->B_
 |0=>a6
 |k+1=>((l[k]?).map f).getD a6
def sle(a b:B_):Bool:=jV a b||θ (a=b)
def DZ(last:B_)(t:m8):Bool:=!cJ t.key||sle t.key last||θ (t.val=a6)||θ (200<(t.val.size:Int))
def UV{α:Type}(p:B_->α->Bool)(f:α->B_)(l:List α)(k:Nat):Bool:=match l[k]? with
 |some t=>p (kW f l k) t
 |none=>η
theorem D0{p}{f}{l}{k}{t:α}(h:l[k]?=A t):UV p f l k=p (kW f l k) t:=by rw[UV,h]
theorem AJ{f}{l}{k}{t:α}(h:l[k]?=A t):kW f l (k+1)=f t:=by rw[kW,h];rfl
def tR(l:List m8):Bool:=!((List.range (C l)).any (UV DZ m8.key l))&&θ ((C l:Int)<=60)
def NF(l:List m8):Prop:=C l<2^62/\∀t∈l,t.key.size<2^62/\t.val.size<2^62
theorem CU(l:List m8)(H:aF)(u:NF l):RC 305 [.pv (qM l)] (bv (tR l)) H:=by
 refine Pu ?_;have ⟨u,n⟩:=u;have i:C (l.map bU)=C l:=g_ _;refine Bd func305 Z ntmps305<|Sz aH<|Sz aH<|S<|U aA<|Y (fM dU)<|V aA<|aE<|bF (σ:=Nat) (λk=>([(0,.pv (qM l)),(3,sv (kW m8.key l k)),(6,.pv (qM l)),(7,iv (C (l.map bU):Int)),(8,iv (k:Int))],[])) (λk=>k<=C l/\∀j,j<k->UV DZ m8.key l j=η) (λk=>C l - k) 0 ⟨X,X⟩ ?_ ?_
 .exact Wk
 rintro k ⟨hk,h⟩;refine Sz cI<|S<|Cn ?_ ?_<;>intro d
 .have f:k<C l:=I_ d
  have ⟨t,g⟩:=aR f;have hi:=cC (f:=bU) g;have m:=n t (m7 g);refine aB<|S<|aE<|U (iV lU)<|Y (by exact fF Z xS mA Z X (by simp only[Zl,bU,bS];rfl) Z)<|Y (kl 5 aAA)<|Uu (jG mA)<|Zz<|S<|S ?_;refine aT (t:=32) (n:=24) (A_:=DZ (kW m8.key l k) t) ?_ ?_
  .all_goals refine Y (bC qD)<|Y (bQ N_)<|Y (kc pH (DE t.key _ m.1))<|Y iH<|Dm ?_<;>(refine Sp 16 (λo=>?_) λo=>?_)<;>(first|exact s_|refine M<|M<|M<|M ?_|refine O (bC qD)<|O (bQ N_)<|O aA<|O (Mq Z Z Z) ?_)<;>refine Y cD<|Dm ?_<;>(refine Sp 22 (λs=>?_) λs=>?_)<;>(first|exact s_|refine M<|M<|M ?_|refine O (bC rB)<|O (bQ N_)<|O wU ?_)<;>refine Y cD<|Dm ?_<;>(refine Sp 27 (λp=>?_) λp=>?_)<;>(first|exact s_|refine M<|M<|M<|M ?_|refine O (bC rB)<|O (bQ N_)<|O (gL U_)<|O iX ?_)<;>refine V cD ?_<;>exact Gj (h:=by(simp only[DZ,sle, *];rfl))
  refine Cn ?_ ?_<;>intro c
  .refine Sz aH<|aC<|Rt ?_;exact⟨by rw[tR,uQ f ((D0 g).trans c)];rfl,Z⟩
  refine aB<|Rd (bC qD)<|Y (bQ N_)<|V aH<|Rd iD<|V aA ?_;refine⟨k+1,⟨X,λj B=>?_⟩,X,?_⟩
  .by_cases e:j=k
   .subst e;exact(D0 g).trans c
   grind
  rw[AJ g];exact Wk
 have q:k=C l:=J_ d
 subst q;refine aP<|U aA<|Y (fM dU)<|Y H7<|V aH<|aC<|Rt ?_;exact⟨by rw[tR,BT h,<-i];rfl,Z⟩
end Go.Proofs.C
namespace Go.Abs
section
section
variable{P:Program}{r4:Nat}{o:Oper}{E:dG}{H:aF}{u4:TypeId}{x y z:Operand}
theorem VX{e}{b}{s}{n}{m}{l}{v}(K:o.op=.index u4 x y)(D:P.underlying u4=A (.array b e))(p:∀w,(sizeOf e).run P w=.ok 1 w)(r:∀w,(isAgg e).run P w=.ok η w)
  (J:aQ E x=A (.agg l)) (F:aQ E y=A (.pv (.int s n))) (G:0<=n) (u:n.toNat=m) (hi:m<b) (k:l[m]?=A v):cP P r4 o E H v H :=
 .of_run λa w I ι L g=>by
  have h:=aJ g J;have B:=(aJ g F).int_inv;generalize q:a.eval x=c at h;cases h with
  | @agg i _ hl h1 c_ =>
   have d:m<i.size:=by grind
   have j:=Array.getElem?_eq_getElem d;refine⟨i[m],?_,c_ m _ v j k⟩;have t:n<b:=by omega
   simp[execOp,K,q,B];simp[Instr.index,run_underlying D,asIntOf,G,t,p,u,part,r,j]
def HH(l:List B_):List (B_×AV):=l.map λs=>(s,.pv (.bool T))
def yw(l:List B_)(s:B_):Bool:=l.any λa=>θ (a=s)
def RZ(l:List B_)(s:B_):List B_:=if yw l s then l else l++[s]
theorem Kg(l)(s):(zN (HH l) s).getD (.pv (.bool η))=.pv (.bool (yw l s)):=by
 induction l with
 |nil=>rfl
 |cons a l b =>
  by_cases h:a=s
  .subst h;simp[HH,zN,yw]
  simp[HH,map_cons,zN,h,if_false,yw,any_cons,decide_false,Bool.false_or]at b |-;exact b
theorem Kf(l)(s):xJ (HH l) s (.pv (.bool T))=HH (RZ l s):=by
 induction l with
 |nil=>rfl
 | cons a l b =>
  by_cases h:a=s
  .subst h;simp[HH,xJ,RZ,yw]
  have e:RZ (a::l) s=a::RZ l s:=by
   unfold RZ yw
   grind
  rw[e];show xJ ((a,.pv _)::HH l) s _=(a,.pv _)::HH _;rw[xJ,a8 h,b]
theorem xA{c b}{l}{id g}{ob}{s}{zv}(e:o.op=.lookup u4 x y η)(i:P.underlying u4=A (.map c b))(B:P.underlying c=A .string)(j:aQ E x=A (.mp id g))(f:H.get id=A ob)(k:ob.g=g)
  (a:ob.rows=sJ J7 (HH l)) (h:aQ E y=A (.pv (.str s))) (d:∀w,(zeroValue b).run P w=.ok zv w) (m:ZV zv (.pv (.bool η))):cP P r4 o E H (.pv (.bool (yw l s))) H:=by
 rw[<-Kg];exact IU e i B j f k a h d m
theorem WN{d h}{l}{id g}{ob}{s}(f:o.op=.mapUpdate u4 x y z\/o.op=.insert u4 x y z)(j:P.underlying u4=A (.map d h))(B:P.underlying d=A .string)(k:aQ E x=A (.mp id g))(e:H.get id=A ob)(n:ob.g=g)
  (c:ob.ty=C (HH l)) (b:ob.rows=sJ J7 (HH l)) (i:aQ E y=A (.pv (.str s))) (m:aQ E z=A (.pv (.bool T))):cP P r4 o E H .any ((id,⟨g,ob.sz,C (HH (RZ l s)),sJ J7 (HH (RZ l s))⟩)::H) :=
 zO f j B k e n c b i m (Kf l s)
abbrev sob(l:List B_):Ob:=⟨0,0,C (HH l),sJ J7 (HH l)⟩
end
end
end Go.Abs
namespace Go.Proofs.C
open Go.Proofs.Tryz
open Go.Abs
def eN(k:Int):B_:=if k=1 then⟨#[110,111,100,101]⟩else if k=2 then⟨#[119,97,121]⟩else if k=3 then⟨#[97,114,101,97]⟩else if k=4 then⟨#[114,111,117,116,101]⟩else if k=5 then⟨#[116,117,114,110]⟩else a6
abbrev Tn:List AV:=[sv a6,sv ⟨#[110,111,100,101]⟩,sv ⟨#[119,97,121]⟩,sv ⟨#[97,114,101,97]⟩,sv ⟨#[114,111,117,116,101]⟩,sv ⟨#[116,117,114,110]⟩]
theorem six{k:Int}(B:0<=k)(D:k<6):k=0\/k=1\/k=2\/k=3\/k=4\/k=5:=X
theorem Tm{k}(a:0<=k)(b:k<6):Tn[k.toNat]?=A (sv (eN k)):=by rcases six a b with rfl|rfl|rfl|rfl|rfl|rfl<;>rfl
theorem IG(k:Int)(H:aF):RC 283 [iv k] (sv (eN k)) H:=by
 refine Pu<|Bd func283 Z ntmps283<|Sz aH<|U (zP Z aEp Z Z)<|Y (kl 3 aDD)<|Uu (jG sizeOf312)<|Zz<|S<|S<|aT (t:=10) (n:=7) (A_:=θ (k<0)||θ (6<=k)) ?_ ?_
 .all_goals refine Y aA<|Y cI<|Dm ?_<;>(refine Sp 7 (λd=>?_) λd=>?_)<;>(first|exact s_|refine M<|M ?_|refine O aA<|O AF ?_)<;>refine V cD ?_<;>(exact⟨⟨_,Z,G_⟩,Z,Z,Z⟩)
 refine Cn ?_ ?_<;>intro B
 .have b:¬ (k=1)/\¬ (k=2)/\¬ (k=3)/\¬ (k=4)/\¬ (k=5):=by
   grind
  refine Sz aH<|aC<|Rt ?_;exact⟨by simp only[eN,b.1,b.2.1,b.2.2.1,b.2.2.2.1,b.2.2.2.2,if_false],Z⟩
 have c:0<=k/\k<6:=by
  simp_all
 exact aB<|U aA<|Y (eV (m:=k.toNat) (k2:=k.toNat) Z underlying312 V_ Z Z Z Z c.1 Z X X)<|Y (aX Z N_ Z Z Z Z (Tm c.1 c.2))<|V aH<|aC<|Rt<|Qq
def FQ(k:Int):Int:=if k=2 then 2 else if k=3 then 3 else if k=4 then 1 else if k=5 then 3 else 0
theorem Nr{k}(a:0<=k)(b:k<6):[iv 0,iv 0,iv 2,iv 3,iv 1,iv 3][k.toNat]?=A (iv (FQ k)):=by rcases six a b with rfl|rfl|rfl|rfl|rfl|rfl<;>rfl
theorem yj(k)(H)(b:0<=k)(c:k<6):RC 306 [iv k] (iv (FQ k)) H:=by refine Pu ?_;exact Bd func306 Z ntmps306<|Sz aH<|U (zP Z aEo Z Z)<|Y aA<|Y (VX Z underlying319 sizeOf3 M_ Z Z b Z X (Nr b c))<|V aH<|aC<|Rt<|Qq
def cn(x y:Int):Bool:=((θ (0<=x)&&θ (x<1048576))&&θ (0<=y))&&θ (y<1048576)
theorem aFn(x y:Int)(H:aF):RC 308 [.agg [iv x,iv y]] (bv (cn x y)) H:=by
 refine Pu<|Bd func308 Z ntmps308<|U (kb 1)<|V aH<|S<|aT (t:=2) (n:=22) (A_:=cn x y) ?_ ?_
 .all_goals refine Y (bC nA)<|Y (bQ M_)<|Y AF<|Dm ?_<;>(refine Sp 6 (λd=>?_) λd=>?_)<;>(first|refine M<|M<|M ?_|refine O (bC nA)<|O (bQ M_)<|O cI ?_)<;>refine Y cD<|Dm ?_<;>(refine Sp 11 (λb=>?_) λb=>?_)<;>(first|refine M<|M<|M ?_|refine O (bC mZ)<|O (bQ M_)<|O AF ?_)<;>refine Y cD<|Dm ?_<;>(refine Sp 16 (λc=>?_) λc=>?_)<;>(first|exact s_|refine M<|M<|M ?_|refine O (bC mZ)<|O (bQ M_)<|O cI ?_)<;>refine Y cD<|Da ?_<;>exact Gj (h:=by(simp only[cn, *];rfl))
 exact aC<|Rt<|Qq
def OW(p:Nat->Bool)(n:Nat):Int:=match (List.range n).find? p with|some k=>(k:Int)|none => -1
def HP(p:Nat->Bool)(n:Nat):Nat:=match (List.range n).find? p with|some k=>k+1|none=>n
theorem DS{p}{n k}(D:k<n)(E:p k=T)(B:∀j,j<k->p j=η):(List.range n).find? p=A k:=F_
theorem DT{p}{n}(B:∀j,j<n->p j=η):(List.range n).find? p=ζ:=F_
theorem sk(m:AV)(l:List B_)(p:Nat->Bool)(e:Nat->aF)(E:C l<2^62)(o:∀k s,l[k]?=A s->dQ φ m [sv s] (e k) (λr H'=>r=bv (p k)/\H'=e (k+1))):
  aU φ 73 [.pv (aK l),m] (e 0) (λr H'=>r=iv (OW p (C l))/\H'=e (HP p (C l))):=by
 have B:C (l.map S_)=C l:=g_ _;refine Bd func73 Z ntmps73<|Sz aH<|S<|U aA<|Y (fM aD)<|V aA<|aE<|bF (σ:=Nat) (λk=>([(0,.pv (aK l)),(1,m),(7,iv (C (l.map S_):Int)),(8,iv (k:Int))],e k)) (λk=>k<=C l/\∀j,j<k->p j=η) (λk=>C l - k) 0 ⟨X,X⟩ ?_ ?_
 .exact E0
 rintro k ⟨hk,c⟩;refine Sz cI<|S<|Cn ?_ ?_<;>intro f
 .have d:k<C l:=I_ f
  have ⟨s,n⟩:=aR d;have hi:=cC (f:=S_) n;have h:=o k s n;refine aB<|S<|aE<|U aA<|V aH<|U aA<|Y aA<|Y aA<|Y (iV aY)<|Y (fS N_)<|V (dK Z Z Z (h))<|Cn ?_ ?_<;>intro g
  .refine U aA<|V aH<|aC ?_;exact cT (H':=e (k+1)) (.inr Z) Z (aI Z) Fin.refl ⟨by rw[OW,DS d g c],by rw[HP,DS d g c]⟩
  refine aB<|Rd iD<|V aA ?_;refine⟨k+1,⟨X,λj D=>?_⟩,X,E0⟩
  grind
 have i:k=C l:=J_ f
 subst i;refine aP<|Sz aH<|aC ?_;exact cT (H':=e (C l)) (.inr Z) Z (aI Z) Fin.refl ⟨by rw[OW,DT c],by rw[HP,DT c]⟩
theorem YH(p)(n):θ (0<=OW p n)=(List.range n).any p:=by
 unfold OW
 grind
theorem A5(c)(l)(p)(b:Nat->aF)(d:C l<2^62)(e:∀k s,l[k]?=A s->dQ φ c [sv s] (b k) (λr H'=>r=bv (p k)/\H'=b (k+1))):
  aU φ 28 [.pv (aK l),c] (b 0) (λr H'=>r=bv ((List.range (C l)).any p)/\H'=b (HP p (C l))):=by
 refine Bd func28 Z ntmps28<|Sz aH<|U aA<|Y aA<|Y (bH Z Z call73 Z (sk _ l p _ d e))<|Y AF<|V aH<|aC ?_;exact cT (.inr Z) Z (aI Z) Fin.refl ⟨by rw[YH],Z⟩
theorem P3(L)(H):∀r∈(sob L).rows,∀a∈r,Clo H a:=by intro r d a c;have ⟨i,e⟩:=s8.1 d;obtain ⟨p,b,rfl⟩:=GY.1 e;simp only[HH,r8]at b;obtain ⟨q,_,rfl⟩:=Option.map_eq_some_iff.1 b;simp[l9,q8,or_false]at c;rcases c with rfl|rfl|rfl<;>simp
instance(L)(H):W_ (H) ((sob L).rows):=⟨P3 L H⟩
def vH(o:l8)(last:B_)(L:List B_):aF:=[(37,sob L),(4,bx 1 9 [sv last]),(3,bx 1 82 [.mp 37 0]),(1,bx 6 135 ((bS o).map .pv))]
theorem aAn(o)(a)(L)(f:Nat):Clo (vH o a L) (.clo f [.ref 1 0 0 0,.ref 4 0 0 0,.ref 3 0 0 0]):=by refine .clo λx b=>?_;simp[l9,q8,or_false]at b;rcases b with rfl|rfl|rfl<;>exact .ref Z
def T4(o:l8)(last:B_)(L:List B_)(s:B_):Bool:=(θ (o.kind=2)&&θ (s=last))||(θ (o.kind=3)&&yw L s)
def NV(o:l8)(last:B_)(L:List B_)(s:B_):Bool:=T4 o last L s||!cJ s
theorem Il(o:l8)(b s:B_)(L:List B_)(g:s.size<2^62):
  aU φ 307 [sv s,.ref 1 0 0 0,.ref 4 0 0 0,.ref 3 0 0 0] (vH o b L) (λr H'=>r=bv (NV o b L s)/\H'=vH o s (RZ L s)):=by
 unfold vH;refine Bd func307 Z ntmps307<|Sz aH<|S<|aT (t:=6) (n:=22) (A_:=T4 o b L s) ?_ ?_
 .all_goals refine Y (bC eJ)<|Y (bQ M_)<|Y cF<|Dm ?_<;>(refine Sp 10 (λe=>?_) λe=>?_)<;>(first|exact s_|refine M<|M<|M ?_|refine O aA<|O (bQ N_)<|O wU ?_)<;>refine Y cD<|Dm ?_<;>(refine Sp 15 (λd=>?_) λd=>?_)<;>(first|exact s_|refine M<|M<|M<|M ?_|refine O (bC eJ)<|O (bQ M_)<|O cF<|O aA ?_)<;>(first|refine Sp 19 (λc=>?_) λc=>?_|refine kX (t:=19) Z ?_)<;>(first|exact s_|refine M ?_|refine Fu ?_|refine O (bQ isAgg82) ?_)<;>(first|refine M ?_|refine Fu ?_|refine O aA ?_)<;>(first|refine M ?_|refine Fu ?_|refine O (xA Z mL U_ Z Z Z Z Z jC (.inl Z)) ?_)<;>(first|refine M ?_|refine O cD ?_)<;>refine Y cD<|Da ?_<;>exact Gj (h:=by(simp only[T4, *];rfl))
 refine U (bQ isAgg82)<|Y aA<|Y aA<|Uu (by exact WN (.inl Z) mL U_ Z Z Z Z Z Z Z)<|Uu (jG V_)<|Zz<|S<|aT (t:=5) (n:=8) (A_:=T4 o b L s||!cJ s) ?_ ?_
 .all_goals refine Y aA<|Dm ?_<;>(refine Sp 29 (λf=>?_) λf=>?_)<;>(first|exact s_|refine M<|M<|M ?_|refine O aA<|O (kc pH (DE s _ g))<|O iH ?_)<;>refine Y cD<|Da ?_<;>exact Gj (h:=by simp_all)
 refine aC<|cT (H':=vH o s (RZ L s)) (.inr Z) Z (aI Z) P_ Qq
def BO(l:List B_):Nat->List B_
 |0=>[]
 |k+1=>RZ (BO l k) ((l[k]?).getD a6)
def vF(o:l8)(k:Nat):Bool:=match o.refs[k]? with
 |some s=>NV o (kW id o.refs k) (BO o.refs k) s
 |none=>η
def T6(o:l8):Bool:=if o.kind=1 then θ ((C o.refs:Int)=0)&&cn o.x o.y else if o.kind=5 then θ ((C o.refs:Int)=3)&&(θ (o.x=0)&&θ (o.y=0))else θ (o.x=0)&&θ (o.y=0)
def wM(o:l8)(n:Int):Bool:=θ (eN o.kind=a6)||!cJ o.id||!tR o.tags||θ (n<FQ o.kind)||θ (2000<n)
def OX(o:l8):Bool:=wM o (C o.refs:Int)
def oV(o:l8):Bool:=!OX o&&(!((List.range (C o.refs)).any (vF o))&&T6 o)
def nh(o:l8):Prop:=o.id.size<2^62/\NF o.tags/\C o.refs<2^62/\∀s∈o.refs,s.size<2^62
theorem BI{k}(h:θ (eN k=a6)=η):0<=k/\k<6:=by
 by_cases b:0<=k/\k<6
 .exact b
 have:eN k=a6:=by
  have a:¬ (k=1)/\¬ (k=2)/\¬ (k=3)/\¬ (k=4)/\¬ (k=5):=X
  simp[eN,a.1,a.2.1,a.2.2.1,a.2.2.2.1,a.2.2.2.2,if_false]
 rw[this]at h;simp at h
theorem TD(o:l8)(H:aF)(x:nh o):RC 286 [av (bS o)] (bv (oV o)) H:=by
 refine Pu ?_;have ⟨p,t,y,w⟩:=x;have B:C (o.refs.map S_)=C o.refs:=g_ _;refine Bd func286 Z ntmps286<|U (kb 1)<|V aH<|S<|S<|pX (t:=36) (n:=31) (A_:=wM o (C (o.refs.map S_):Int)) ?_ ?_
 .cases hg10:(θ (eN o.kind=a6):Bool)
  .cases hg16:(!cJ o.id:Bool)
   .cases i:(!tR o.tags:Bool)
    .cases g:(θ ((C (o.refs.map S_):Int)<FQ o.kind):Bool)
     .refine aM a7<|Cq (bC eJ)<|Cq (bQ M_)<|Cq (kc call283 (IG o.kind _))<|Cq wU<|Cq aA<|Nf (bC rD)<|Nf (bQ N_)<|Nf (kc pH (DE o.id _ p))<|Nf iH<|Cq sQ<|Cq aA<|Nf (bC gF)<|Nf (bQ dP)<|Nf (kc call305 (CU o.tags _ t))<|Nf iH<|Cq sQ<|Cq aA<|Nf (bC eI)<|Nf (bQ aG)<|Nf (fM aD)<|Nf (bC eJ)<|Nf (bQ M_)<|Nf (kc call306 (yj o.kind _ (BI hg10).1 (BI hg10).2))<|Nf cI<|Cq sQ<|Cq aA<|Nf (bC eI)<|Nf (bQ aG)<|Nf (fM aD)<|Nf iX<|Cq sQ<|bG<|Kr ?_;exact⟨Z,⟨_,Z,by(simp only[wM,hg10,hg16,i,g];rfl)⟩,Z,Z,Z⟩
     refine aM a7<|Cq (bC eJ)<|Cq (bQ M_)<|Cq (kc call283 (IG o.kind _))<|Cq wU<|Cq aA<|Nf (bC rD)<|Nf (bQ N_)<|Nf (kc pH (DE o.id _ p))<|Nf iH<|Cq sQ<|Cq aA<|Nf (bC gF)<|Nf (bQ dP)<|Nf (kc call305 (CU o.tags _ t))<|Nf iH<|Cq sQ<|Cq aA<|Nf (bC eI)<|Nf (bQ aG)<|Nf (fM aD)<|Nf (bC eJ)<|Nf (bQ M_)<|Nf (kc call306 (yj o.kind _ (BI hg10).1 (BI hg10).2))<|Nf cI<|Cq sQ<|Cq aA<|Of<|Of<|Of<|Of<|Cq C6<|bG<|Kr ?_;exact⟨Z,⟨_,Z,by(simp only[wM,hg10,hg16,i,g];rfl)⟩,Z,Z,Z⟩
    refine aM a7<|Cq (bC eJ)<|Cq (bQ M_)<|Cq (kc call283 (IG o.kind _))<|Cq wU<|Cq aA<|Nf (bC rD)<|Nf (bQ N_)<|Nf (kc pH (DE o.id _ p))<|Nf iH<|Cq sQ<|Cq aA<|Nf (bC gF)<|Nf (bQ dP)<|Nf (kc call305 (CU o.tags _ t))<|Nf iH<|Cq sQ<|Cq aA<|Of<|Of<|Of<|Of<|Of<|Of<|Of<|Cq C6<|Cq aA<|Of<|Of<|Of<|Of<|Cq cD<|bG<|Kr ?_;exact⟨Z,⟨_,Z,by(simp only[wM, *];rfl)⟩,Z,Z,Z⟩
   refine aM a7<|Cq (bC eJ)<|Cq (bQ M_)<|Cq (kc call283 (IG o.kind _))<|Cq wU<|Cq aA<|Nf (bC rD)<|Nf (bQ N_)<|Nf (kc pH (DE o.id _ p))<|Nf iH<|Cq sQ<|Cq aA<|Of<|Of<|Of<|Of<|Cq C6<|Cq aA<|Of<|Of<|Of<|Of<|Of<|Of<|Of<|Cq cD<|Cq aA<|Of<|Of<|Of<|Of<|Cq cD<|bG<|Kr ?_;exact⟨Z,⟨_,Z,by(simp only[wM, *];rfl)⟩,Z,Z,Z⟩
  refine aM a7<|Cq (bC eJ)<|Cq (bQ M_)<|Cq (kc call283 (IG o.kind _))<|Cq wU<|Cq aA<|Of<|Of<|Of<|Of<|Cq C6<|Cq aA<|Of<|Of<|Of<|Of<|Cq cD<|Cq aA<|Of<|Of<|Of<|Of<|Of<|Of<|Of<|Cq cD<|Cq aA<|Of<|Of<|Of<|Of<|Cq cD<|bG<|Kr ?_;exact⟨Z,⟨_,Z,by(simp only[wM, *];rfl)⟩,Z,Z,Z⟩
 refine Cn ?_ ?_<;>intro l
 .refine Sz aH<|aC<|Rt ?_;exact⟨by rw[oV,OX,<-B,l];rfl,Z⟩
 refine aB<|U (vU (id:=37) J7 Z Z)<|Y (kl 3 aFX)<|Uu (jG sizeOf82)<|Zz<|U (kl 4 Th)<|Uu (jG V_)<|Zz<|ui ([(1,.ref 1 0 0 0),(5,.clo 307 [.ref 1 0 0 0,.ref 4 0 0 0,.ref 3 0 0 0])]) (vH o a6 []) ?_ ?_
 .refine Rd (iC Z Z)<|Da ?_;exact(cH.wk (Ea<|Ec (aAn _ _ _ _)<|T_) (Hc (P3 _ _)<|Hb<|Ha<|Hb<|T_) T_)
 refine S<|U (bC eI)<|Y (bQ aG)<|Y aA<|V (kc call28 (A5 _ o.refs (vF o) (λk=>vH o (kW id o.refs k) (BO o.refs k)) y (λk s q=>dQ.clo call307 (by rw[vF,q,AJ q];simp only[BO,q];exact Il o _ s _ (w s (m7 q)))))) ?_;refine Cn ?_ ?_<;>intro n
 .refine Sz aH<|aC<|Rt ?_;exact⟨by rw[oV,n];simp,Z⟩
 have f:oV o=T6 o:=by have h:=l;rw[B]at h;rw[oV,OX,h,n];rfl
 rw[f];clear f;generalize kW id o.refs (HP (vF o) (C o.refs))=E;generalize BO o.refs (HP (vF o) (C o.refs))=D;unfold vH;refine aB<|S<|U (bC eJ)<|V (bQ M_)<|aE<|U cF<|Da<|Cn ?_ ?_<;>intro j
 .refine S<|aT (t:=2) (n:=11) (A_:=θ ((C (o.refs.map S_):Int)=0)&&cn o.x o.y) ?_ ?_
  .all_goals refine Y (bC eI)<|Y (bQ aG)<|Y (fM aD)<|Y cF<|Dm ?_<;>(refine Sp 51 (λv=>?_) λv=>?_)<;>(first|exact s_|refine M<|M<|M ?_|refine O (bC mY)<|O (by exact aW Z eL sizeOf104 Z Z Z Z (by simp only[Zl,bU,bS];rfl) Z)<|O (kc call308 (aFn o.x o.y _)) ?_)<;>refine Y cD<|Da ?_<;>exact Gj (h:=by simp_all)
  refine aC<|Rt ?_;exact⟨by rw[T6,b6 (b9 j),<-B],Z⟩
 refine U cF<|Da<|Cn ?_ ?_<;>intro m
 .refine S<|aT (t:=2) (n:=12) (A_:=θ ((C (o.refs.map S_):Int)=3)&&(θ (o.x=0)&&θ (o.y=0))) ?_ ?_
  .all_goals refine Y (bC eI)<|Y (bQ aG)<|Y (fM aD)<|Y cF<|Dm ?_<;>(refine Sp 62 (λu=>?_) λu=>?_)<;>(first|exact s_|refine M<|M<|M<|M ?_|refine O (bC mY)<|O (by exact aW Z eL sizeOf104 Z Z Z Z (by simp only[Zl,bU,bS];rfl) Z)<|O (oD MC)<|O (BY Z Z Z Z Z mU (SD _ _ _ _)) ?_)<;>refine Y cD<|Da ?_<;>exact Gj (h:=by simp_all)
  refine aC<|Rt ?_;exact⟨by rw[T6,a8 (b_ j),b6 (b9 m),<-B],Z⟩
 refine aB<|U (bC mY)<|Y (by exact aW Z eL sizeOf104 Z Z Z Z (by simp only[Zl,bU,bS];rfl) Z)<|Y (oD MC)<|Y (BY Z Z Z Z Z mU (SD _ _ _ _))<|V aH<|aC<|Rt ?_;exact⟨by rw[T6,a8 (b_ j),a8 (b_ m)],Z⟩
section
def aAu(B:Nat)(l:List B_):Prop:=C l<=B/\∀s,s∈l->s.size<=B
section
variable{B n:Nat}{ps:List PV}
theorem aC2(h:Sh φ B (n+2) 22 ps):∃l,ps=[aK l]/\aAu B l:=by
 obtain ⟨l,rfl,b,e⟩:=Us aD h (λr c=>by
  obtain ⟨s,rfl,d⟩:=aBE U_ c;exact⟨s,Z,d⟩)
 exact⟨l,Z,b,e⟩
end
end
end Go.Proofs.C
namespace Go.Proofs.C
open Go.Proofs.Tryz
open Go.Abs Go.ChangeShapes Go.WideShapes Go.ChangeAt Go.RowKit
theorem own:ownKnob φ.godebug=ζ:=rfl
theorem yl:laidOutB φ=T:=by kernel_rfl
theorem oe{H}{l}(a:Rows.uptoSmall H l=T):Rows.uptoBulkAll l<=1048576:=b9 a
theorem Fi{H}{l r:List (DataW H)}{n}(h:Rows.uptoBulkAll (l++r)<=n):Rows.uptoBulkAll l<=n:=by
 induction l generalizing n with
 |nil=>simp[Rows.uptoBulkAll]
 |cons x l a =>
  simp[cons_append,Rows.uptoBulkAll]at h |-;have:=a (n:=n - Rows.uptoBulk x) X;omega
theorem aFy{B n}{ps}(h:Sh φ B (n+1) 5 ps):∃i,ps=[.int .u8 i]/\0<=i/\i<=255:=by obtain ⟨i,rfl,b⟩:=aBF cZ h;exact⟨i,Z,by simpa[Lit.wf,IntKind.min,IntKind.max,IntKind.signed,IntKind.bits]using b⟩
theorem aC3{B n:Nat}{ps:List PV}(h:Sh φ B (n+1) 4 ps):∃b,ps=[.bool b]/\True:=by obtain ⟨b,rfl⟩:=Ut fB h;exact⟨b,Z,T_⟩
end Go.Proofs.C
namespace Go.Abs
theorem cH.get'{G0}{E E'}{H H'}(h:Si E E')(a:∀j,H'.get j=H.get j):cH G0 E H E' H':=(cH.e0 h).trans (cH.get (λ_=>rfl) a)
theorem xO(id)(o o')(H:aF)(j):aF.get ((id,o)::H) j=aF.get ((id,o)::(id,o')::H) j:=by cases e:Nat.beq id j<;>simp[aF.get,e]
theorem cH.dup{G0}{E E'}{H:aF}{id}{o o'}(h:Si E E'):cH G0 E ((id,o)::(id,o')::H) E' ((id,o)::H):=cH.get' h (xO _ o _ H)
theorem PN.app{D H G0}(b:∀p∈D,G0.get p.1=ζ):PN G0 H (D++H):=λid a=>by
 rw[gN];cases e:D.get _ with
 |none=>rfl
 |some o =>
  have:=b _ (eH e);rw[this]at a;cases a
theorem Fin.pops'{G0 H}{r}(D)(c:Clo H r)(e:dN H)(b:∀p∈D,H.get p.1=ζ)(d:∀p∈D,G0.get p.1=ζ):Fin G0 (D++H) r H r:=by intro G a I g w v i h f;subst a;exact⟨I,g,i.restrict (Sub.app b) e,h.restrict (Sub.app b) (PN.app d),f.restrict (Sub.app b) c⟩
end Go.Abs
namespace Go.Abs
open Go.Proofs
theorem Rel.grown{I}{ι}{H}{w}(i)(g:Rel I ι H w):Rel I ι H (Sort.grow w i)/\Step I ι H w I ι H (Sort.grow w i):=by
 have k:∀b,b<w.heap.size->(Sort.grow w _).heap[b]?=w.heap[b]?:=λb f=>by
  show (w.heap++i)[b]?=_
  grind
 have e:Step I ι H w I ι H (Sort.grow w i):=by
  refine⟨Z,Z,Z,?_,λa B _=>?_,λ_ h=>h,λ_ h=>.inl h,λ_ h=>.inl h,λb f _=>k b f,λ_ o h=>⟨o,h,h_ _,λ_=>⟨Z,Z,λ_=>h_ _⟩⟩⟩
  .simp_all
  unfold World.frozen?
  simp_all
 refine⟨⟨λb f=>?_,λj o l=>?_,g.inj,e.glob g⟩,e⟩
 .have:=g.imm b f
  grind
 exact(g.obj j o l).keep Z (λb c _ f=>⟨k b f,λh=>h⟩) (λr _ a _ v m=>m.mono g e)
def fL(l:List B_):List (List AV):=l.map λs=>[.pv (.str s)]
def vu(s:B_):List UInt8:=ν (μ s)
def ofU(l:List UInt8):B_:=⟨l.toArray⟩
theorem ya(s):ofU (vu s)=s:=rfl
def jR(l:List B_):List B_:=((l.map vu).mergeSort λx y=>θ (x<=y)).map ofU
theorem jL(l):C (jR l)=C l:=by simp[jR,length_mergeSort]
theorem Xl(l:List _):(l.map vu).map ofU=l:=by
 rw[map_map]
 conv=>rhs;rw[<-map_id l]
 rfl
theorem pL(l):(jR l).Perm l:=by have h:=(mergeSort_perm (l.map vu) (λx y=>θ (x<=y))).map ofU;rw[Xl]at h;exact h
theorem jz{w}{b}{cs}{t}{f}(h:w.heap[b]?=A (.cells cs t f))(d):(Sort.putRow Proofs.encStr w b 0 d)=w.setRow b (Sort.putCells Proofs.encStr 0 d cs):=by
 unfold Sort.putRow Sort.mapBlock World.setRow;congr 1;apply Array.ext_getElem?;intro k;simp[Array.getElem?_modify];by_cases e:b=k
 .subst e;simp[h,Sort.onCells]
 grind
theorem Jk{P:Program}{ρ:Shelf.Ren}(f:SlLaysM.n6 P ρ)(c:List B_){id g n ty:Nat}{H:aF}(L:H.get id=A ⟨g,1,ty,fL c⟩)(hn:n=C c)(hl:C c<2^62):
  aU P (ρ.f 6) [.osl id g 0 n] H (λr H'=>r=.tup []/\H'=(id,⟨g,1,ty,fL (jR c)⟩)::H):=by
 subst hn;intro I y_ w vs F W hv;obtain ⟨v,rfl⟩:∃v,vs=#[v]:=by
  match vs,W with
  |⟨[v]⟩,_=>exact⟨v,Z⟩
 have h1:=hv 0 v _ Z Z;have ⟨_,t⟩:=jX h1 L Z;have h:∀r∈fL (jR c),C r=1:=λr F=>by
  obtain ⟨s,_,rfl⟩:=mem_map.1 F;rfl
 have o:aF.get ((id,⟨g,1,ty,fL (jR c)⟩)::H) id=A ⟨g,1,ty,fL (jR c)⟩:=by simp[aF.get,pW]
 have p:∀j,j≠id->aF.get ((id,⟨g,1,ty,fL (jR c)⟩)::H) j=H.get j:=λj J=>by simp[aF.get,kE (Ne.symm J)]
 rcases t with⟨b,R,oo,Q,u_,c3⟩|⟨Q,u_,_,c4⟩
 .have v_:oo=0:=X
  subst v_ u_;have G:=(F.obj id _ L).cells (succ_pos 0);obtain ⟨p1,p2,⟨b',cap',d,D,r4,e3,e4,e5,e5',l⟩|⟨D,_⟩⟩:=G
  .rw [Q] at D;cases D;simp only [Nat.mul_one] at e4 l;have d_:C (fL c)=C c:=by simp [fL]
   simp only[d_]at e5;have A_:∀(i:Nat) (s:B_),c[i]?=A s->d[i]?=A (.string s):=λi s E=>by
    have ⟨u,q1,q2,q3⟩:=l i [.pv (.str s)] (by rw[fL,r8,E];rfl) 0 _ Z;rw[q3.str_inv]at q1;exact q1
   have m:Sort.Holds Proofs.encStr w b 0 (c.map vu).toArray:=by
    intro j J;simp only[size_toArray,g_]at J;refine⟨?_,?_⟩
    .have:=A_ j _ (n_ J);rw[r7];simp only[World.cell?,r4,this];congr 1;rw[getElem!_pos _ _ G_];simp only[getElem_toArray,getElem_map];show A (Value.string c[j])=A (Value.string (ofU (vu c[j])));rfl
    simp[World.frozen?,r4]
   have q:=AnyM.slices_Sort_string f b 0 (R - 0) (c.map vu) w m (Array.getElem?_eq_some_iff.1 r4).1 G_;rw[g_]at q;refine q.mono ?_;rintro e w' ⟨rfl,n,os,rfl⟩;have ⟨u4,f_⟩:=Rel.drawn (w':=Sort.ahead w n) F Z Z Z Z;have B:(Sort.ahead w n).heap[b]?=A (.cells d ty (0,0)):=r4;rw[jz B];have ⟨m1,m2⟩:=Rel.update (H':=(id,⟨g,1,ty,fL (jR c)⟩)::H) (ob':=⟨g,1,ty,fL (jR c)⟩) (cs':=Sort.putCells Proofs.encStr 0 ((c.map vu).mergeSort λx y=>θ (x<=y)).toArray d) u4 L Q B (h_ _) Z Z
    (λ_=>by simp[fL,jL]) (by rw[Sort.putCells];simp;omega) (by simp only[fL,g_,jL];omega) h (λi r z_ k a hk=>by
     rw[fL,r8]at z_;obtain ⟨s,E,rfl⟩:=Option.map_eq_some_iff.1 z_;cases k with
     |succ k=>simp at hk
     |zero =>
      cases hk;have z:=(m9.1 E).1;rw[jL]at z;have i_:i<d.size:=X
      refine⟨.string s,?_,Z,.pv (.str s)⟩;rw[Nat.mul_one,Nat.add_zero,Sort.putCells,Array.getElem?_mapIdx,Array.getElem?_eq_getElem i_,Option.map_some];have K:i<C ((c.map vu).mergeSort λx y=>θ (x<=y)):=by rw[length_mergeSort,g_];exact z
      rw[b6 ⟨l7 _,by simpa using K⟩];congr 1;rw[Nat.sub_zero,getElem!_pos _ _ (by simpa using K)];rw[jR,r8]at E;obtain ⟨u,hu,rfl⟩:=Option.map_eq_some_iff.1 E;simp only[getElem_toArray];rw[(m9.1 hu).2];rfl) o p
   have ⟨n1,n2⟩:=Rel.grown os m1;exact⟨_,_,I,y_,.tuple #[],Z,⟨Z,Z⟩,.tup Z H_,n1,(f_.trans m2).trans n2⟩
  rw[Q]at D;cases D
 subst u_;have h0:c=[]:=eq_nil_of_length_eq_zero c4;subst h0;refine(AnyM.slices_Sort_string_none f ζ 0 w).mono ?_;rintro e w' ⟨rfl,rfl⟩;have hg:∀j,aF.get ((id,⟨g,1,ty,fL (jR [])⟩)::H) j=H.get j:=λj=>by
  by_cases e:j=id
  .subst e;rw[o,L,show jR []=[]by simp[jR]]
  exact p j e
 have ⟨u4,f_⟩:=F.congr hg;exact⟨_,_,I,y_,.tuple #[],Z,⟨Z,Z⟩,.tup Z H_,u4,f_⟩
def aV(n:Int):B_:=⟨(Lib.itoa n).toArray⟩
theorem itoa_c{P}{ρ}(L:LaysM.n171 P ρ){G}(B:(G,GV.ints .u64 Lib.pow10Tab)∈kh)(q:P.globalNamed "internal/strconv.uint64pow10" = A G)(n)(j : -9223372036854775808<=n)(s:n<=9223372036854775807)(H):
  aU P (ρ.f 171) [.pv (.int .i64 n)] H (λr H'=>r=.pv (.str (aV n))/\H'=H):=by
 intro I m w h g d z;obtain ⟨v,rfl⟩:∃v,h=#[v]:=by
  match h,d with
  |⟨[v]⟩,_=>exact⟨v,Z⟩
 have x:=(z 0 v _ Z Z).int_inv;subst x;have b:Lib.TabIs P w "internal/strconv.uint64pow10" .u64 Lib.pow10Tab:=by
  have ⟨_,cs,t,f,i,y⟩:=g.glob _ B;have c:=y;subst c;simp[Lib.TabIs,World.var?,q,Option.bind_some,i]
 refine(Any.strconv_Itoa L n j s w b).mono ?_;rintro e w' ⟨rfl,k,os,rfl⟩;obtain ⟨o,p⟩:=Rel.drawn (w':=w.drewN k) g Z Z Z Z;obtain ⟨l,u⟩:=Rel.grown _ o;exact⟨_,_,I,m,_,Z,⟨Z,Z⟩,.pv (.str _),l,p.trans u⟩
theorem mul64_c{P}{ρ}(L:Lays.n264 P ρ)(x y:Nat)(k:x<18446744073709551616)(m:y<18446744073709551616)(H):
  aU P (ρ.f 264) [.pv (.int .u64 x),.pv (.int .u64 y)] H (λr H'=>r=.tup [.pv (.int .u64 ((x*y / 18446744073709551616:Nat))),.pv (.int .u64 ((x*y % 18446744073709551616:Nat)))]/\H'=H):=by
 intro I o w h l f g;obtain ⟨v,u,rfl⟩:∃v u,h=#[v,u]:=by
  match h,f with
  |⟨[v,u]⟩,_=>exact⟨v,u,Z⟩
 have j:=(g 0 v _ Z Z).int_inv;have n:=(g 1 u _ Z Z).int_inv;subst j n;refine(Any.bits_Mul64 L x y k m w).mono ?_;rintro e w' ⟨rfl,rfl⟩;refine⟨_,_,I,o,_,Z,⟨Z,Z⟩,.tup Z λi v a c d=>?_,l,Step.refl _ _ _ _⟩
 match i,c,d with
 |0,c,d=>cases c;cases d;exact .pv (.int _ _)
 |1,c,d=>cases c;cases d;exact .pv (.int _ _)
 |i+2,c,d=>simp at c
end Go.Abs
section
namespace Go.Proofs
open Go.RowKit Go.Sort Go.Shelf
def aGy:Go.Shelf.Ren:=⟨λ|171=>79|243=>134|246=>192|283=>240|284=>241|285=>242|286=>243|129=>190|317=>271|318=>272|319=>273|320=>274|337=>298|338=>299|n=>n,λ|3=>3|9=>9|2=>2|4=>4|171=>249|0=>0|53=>169|37=>159|5=>5|173=>251|212=>286|51=>213|20=>20|213=>287|46=>157|232=>317|233=>318|n=>n,λ|17=>2|18=>6|19=>7|n=>n⟩
theorem aHC:Go.Proofs.LaysM.n171 φ aGy:={
  mixed:=by rfl
  f129:=Tryz.func190.trans C_
  f171:=Tryz.func79.trans C_
  f243:=Tryz.func134.trans C_
  f246:=Tryz.func192.trans C_
  f283:=Tryz.func240.trans C_
  f284:=Tryz.func241.trans C_
  f285:=Tryz.func242.trans C_
  f286:=Tryz.func243.trans C_
  f317:=Tryz.func271.trans C_
  f318:=Tryz.func272.trans C_
  f319:=Tryz.func273.trans C_
  f320:=Tryz.func274.trans C_
  f337:=Tryz.func298.trans C_
  f338:=Tryz.func299.trans C_
  t0:=D7
  a0:=Tryz.isAgg0
  z0:=Tryz.sizeOf0
  v0:=Tryz.zeroValue0
  t2:=Tryz.underlying2
  a2:=Tryz.isAgg2
  z2:=Tryz.sizeOf2
  v2:=Tryz.zeroValue2
  t3:=Tryz.underlying3
  a3:=Tryz.isAgg3
  z3:=Tryz.sizeOf3
  v3:=sU
  t4:=fB
  a4:=nO
  z4:=Tryz.sizeOf4
  v4:=jC
  t5:=cZ
  a5:=vE
  z5:=cO
  v5:=sT
  t9:=Tryz.underlying9
  a9:=Tryz.isAgg9
  z9:=Tryz.sizeOf9
  v9:=gV
  t20:=Tryz.underlying20
  a20:=wE
  z20:=Tryz.sizeOf20
  v20:=Tryz.zeroValue20
  t37:=dM
  a37:=eK
  z37:=qR
  v37:=Tryz.zeroValue159
  t46:=lK
  a46:=Tryz.isAgg157
  z46:=A9
  v46:=uA
  t51:=Tryz.underlying213
  a51:=Tryz.isAgg213
  z51:=Tryz.sizeOf213
  v51:=Tryz.zeroValue213
  t53:=gQ
  a53:=xT
  z53:=vD
  v53:=tZ
  t171:=Tryz.underlying249
  a171:=Tryz.isAgg249
  z171:=Tryz.sizeOf249
  v171:=Tryz.zeroValue249
  t173:=Tryz.underlying251
  a173:=Tryz.isAgg251
  z173:=Tryz.sizeOf251
  v173:=Tryz.zeroValue251
  t212:=Tryz.underlying286
  a212:=Tryz.isAgg286
  z212:=Tryz.sizeOf286
  v212:=Tryz.zeroValue286
  t213:=Tryz.underlying287
  a213:=Tryz.isAgg287
  z213:=Tryz.sizeOf287
  t232:=Tryz.underlying317
  a232:=Tryz.isAgg317
  z232:=Tryz.sizeOf317
  v232:=Tryz.zeroValue317
  t233:=Tryz.underlying318
  a233:=Tryz.isAgg318
  z233:=Tryz.sizeOf318
  v233:=Tryz.zeroValue318
  g17:=by kernel_rfl
  g18:=by kernel_rfl
  g19:=by kernel_rfl
  i0:=by rfl
  i2:=by rfl
  i3:=by rfl
  i4:=by rfl
  i5:=by rfl
  i9:=by rfl
  i20:=by rfl
  i37:=by rfl
  i46:=by rfl
  i51:=by rfl
  i53:=by rfl
  i171:=by rfl
  i173:=by rfl
  i212:=by rfl
  i232:=by rfl
  i233:=by rfl
  m17:=by kernel_rfl
  m18:=by kernel_rfl
  m19:=by kernel_rfl}
end Go.Proofs
namespace Go.Proofs.C
open Go.Proofs.Tryz
open Go.Abs
theorem qB(n)(c : -9223372036854775808<=n)(b:n<=9223372036854775807)(H):RC 79 [iv n] (sv (aV n)) H :=Go.Abs.itoa_c aHC (.head _) (Z) n c b H
end Go.Proofs.C
end
namespace Go.Abs
variable{d id g n:Nat}{u4 e f_:TypeId}
section
section
variable{P:Program}{G0:aF}{r4:Nat}{E:dG}{H:aF}{ops:Array Oper}{K:dG->aF->Prop}{o:Oper}{rest:List Oper}
def ALx(P:Program)(G0:aF)(r4:Nat)(ops:Array Oper)(K:dG->aF->Prop)(l:List Oper)(E:dG)(H:aF)(d:Nat)(F:mD->Value->Prop):Prop :=∀G:Entry,G.H=G0->∀(a:Act) (w:World) (I:Nat->Prop) (ι:mD),uM G.ds G.w w a.defers->a.tmps.size=r4->Rel I ι H w->Step G.I G.ι G.H G.w I ι H w->lS w I ι H E a->(∃c,a.tmps[d]?=A c/\F ι c) ->
  ∀ro,(ro=ζ\/l.all Oper.noDefer=T)->∀Q:Exit->Act->World->Prop,(∀E H a w,K E H->St G r4 E H a w->Q .normal a w)->wpListIn (RF ro) 0 P ops Q l a w
def aCj(id n:Nat)(ι:mD)(c:Value):Prop:=∃b cap,ι id=A (b,cap)/\c=.slice (A ⟨b,0,ζ⟩) n n
theorem KN(a:Act)(d:Nat)(c):(a.put (A d) c).tmps.size=a.tmps.size:=by simp[Act.put]
theorem Lk(a:Act){d}(c)(h:d<a.tmps.size):(a.put (A d) c).tmps[d]?=A c:=by simp[Act.put,h]
theorem Cv(a:Act){b:Nat}(c)(h:b≠d):(a.put (A b) c).tmps[d]?=a.tmps[d]?:=by simp[Act.put,h]
theorem MF{p:Operand}{ob:Ob}(l:o.guard=ζ)(c:o.dst=A d)(j:Nat.blt d r4=T)(t:o.op=.slice u4 p ζ ζ ζ)(R:P.underlying u4=A (.array n e))(y:∀w,(sizeOf e).run P w=.ok 1 w)
  (z:aQ E p=A (.ref id g 0 0)) (x:H.get id=A ob) (L:ob.g=g) (B:ALx P G0 r4 ops K rest ((d,.any)::E) H d (aCj id n)):AL P G0 r4 ops K (o::rest) E H:=by
 intro G u a w f W h Q v;refine wpListIn_plain l λo_ F=>?_;refine Oper.wpW_in (nW h).1 ?_;have ⟨I,J,r,m,s⟩:=f.rel;have ⟨b,q,i_,D⟩:=pZ (aJ s z) x L;have k:d<r4:=F_
 have i:(execOp a.eval o).run P w=.ok (.value (.slice (A ⟨b,0,ζ⟩) n n)) w:=by
  simp only[execOp,t,D,Option.map_none];simp[Instr.sliceAt,run_underlying R,Instr.sureAddr,Instr.sliceBounds,y,Addr.add_lit]
 unfold Oper.wpW;rw[i];show o_ (a.put o.dst _) w;rw[c];exact F _ _ (B G u _ w I J (by exact f.defers) (by rw[KN];exact f.size) r m (lS.put (d:=some d) r (Step.refl _ _ _ _) s (.any _) (by rw[f.size];exact j)) ⟨_,Lk a _ (by rw[f.size];omega),b,q,i_,Z⟩ W (nW h).2 Q v)
theorem Rj{f:Nat}{F}{x}{v}(i:o.guard=ζ)(D:o.dst=A f)(h:Nat.blt f r4=T)(g:f≠d)(q:o.op=.move x)(r:aQ E x=A v)(z:ALx P G0 r4 ops K rest ((f,v)::E) H d F):ALx P G0 r4 ops K (o::rest) E H d F:=by
 intro G s a w I B p j m k l ⟨c,u,y⟩ d_ b Q t;refine wpListIn_plain i λn J=>?_;refine Oper.wpW_in (nW b).1 ?_;have e:(execOp a.eval o).run P w=.ok (.value (a.eval x)) w:=by simp[execOp,q]
 unfold Oper.wpW;rw[e];show n _ w;rw[D];exact J _ _ (z G s _ w I B (by exact p) (by rw[KN];omega) m k (lS.put (d:=some f) m (Step.refl _ _ _ _) l (aJ l r) (by rw[j];exact h)) ⟨c,by rw[Cv a _ g];exact u,y⟩ d_ (nW b).2 Q t)
def mQ(s:List UInt8):List AV:=s.map λb=>.pv (.int .u8 b.toNat)
theorem zC(s):C (mQ s)=C s:=g_ _
theorem di{D:TypeId}{y:Operand}{e_ m u4:Nat}{cells:List AV}{s:B_}(A_:o.guard=ζ)(hd:o.dst=A e_)(z_:Nat.blt e_ r4=T)(ho:o.op=.call {callee:=.builtin .copy,args:=#[.tmp d,y],argTypes:=#[D,f_]})(hD:P.underlying D=A (.slice e))(hs:∀w,(sizeOf e).run P w=.ok 1 w)
  (hH:H.get id=A ⟨g,n,u4,[cells]⟩) (y_:0<n) (hy:aQ E y=A (.pv (.str s))) (hm:min s.size n=m)
  (hk:AL P G0 r4 ops K rest ((e_,.pv (.int .i64 m))::E) ((id,⟨g,n,u4,[mQ (s.data.toList.take m)++cells.drop m]⟩)::H)):ALx P G0 r4 ops K (o::rest) E H d (aCj id n):=by
 intro G hG a w I ι o_ c_ L x he ⟨c,hc,b,cap,t,R⟩ ro i_ Q hq;refine wpListIn_plain A_ λK' hK=>?_;refine Oper.wpW_in (nW i_).1 ?_;have j:=(aJ he hy).str_inv;have e1:a.eval (.tmp d)=.slice (A ⟨b,0,ζ⟩) n n:=by simp[Act.eval,hc,R]
 obtain ⟨p1,p2,⟨b',cap',u_,J,f2,f3,f4,f5,τ,f6⟩|⟨J,_⟩⟩:=(L.obj id _ hH).cells y_
 rotate_left
 .rw[t]at J;cases J
 rw[t]at J;cases J;have B:C cells=n:=p2 cells H_;have κ:m<=s.size:=X
 have ρ:m<=n:=X
 simp only[length_singleton]at f5;have σ:n<=u_.size:=by rw[f4];exact Nat.le_mul_of_pos_left _ X
 have f:min m s.data.size=m:=by have:s.data.size=s.size:=rfl;omega
 have l:((s.extract 0 m).data.map λb=>Value.int .u8 b.toNat).toList=(s.data.toList.take m).map λb=>Value.int .u8 b.toNat:=H_
 have p:=run_storeCells_at P b 0 u4 ((s.data.toList.take m).map λb=>Value.int .u8 b.toNat) 0 u_ w f2 G_ (by intro v hv;obtain ⟨b,_,rfl⟩:=mem_map.1 hv;rfl);simp only[Nat.add_zero,r7,take_zero,nil_append,g_,m_,Array.length_toList]at p;rw[f]at p;have W:C (mQ (s.data.toList.take m)++cells.drop m)=n:=by
  rw[j8,zC,m_,p_,Array.length_toList,f,B];omega
 have ⟨k2,v_⟩:=Rel.update (H':=(id,⟨g,n,u4,[mQ (s.data.toList.take m)++cells.drop m]⟩)::H) (ob':=⟨g,n,u4,[mQ (s.data.toList.take m)++cells.drop m]⟩)
  (cs' := ((s.data.toList.take m).map (λb => Value.int .u8 b.toNat) ++ u_.toList.drop m).toArray) L hH t f2 (h_ _) Z Z (λ_ => h_ _) (by
   grind) (by simpa using f5) (by intro r z;rw[q9]at z;subst z;exact W) (λi r hi k a' h=>by
    cases i with
    |succ i=>simp at hi
    | zero =>
     simp only[getElem?_cons_zero,Option.some.injEq]at hi;subst hi;rw[Nat.zero_mul,r7];simp only[getElem?_toArray];by_cases ck:k<m
     .rw[getElem?_append_left (by rw[zC,m_,Array.length_toList,f];exact ck),mQ,r8]at h;rw[getElem?_append_left (by rw[g_,m_,Array.length_toList,f];exact ck),r8];cases e:(s.data.toList.take m)[k]? with
      |none=>rw[e]at h;cases h
      |some q =>
       rw[e]at h;cases h;exact⟨.int .u8 q.toNat,Z,Z,.pv (.int _ _)⟩
     rw[getElem?_append_right (by rw[zC,m_,Array.length_toList,f];omega),zC,m_,Array.length_toList,f,getElem?_drop,show m+(k - m)=k by omega]at h;have ⟨u,q1,q2,q3⟩:=f6 0 cells Z k a' h;rw[Nat.zero_mul,r7]at q1;refine⟨u,?_,q2,q3⟩;rw[getElem?_append_right (by rw[g_,m_,Array.length_toList,f];omega),g_,m_,Array.length_toList,f,getElem?_drop,show m+(k - m)=k by omega]
     simpa using q1) (get_cons_same _ _ _) (λj hj=>get_cons_other _ _ hj)
 have F:Nat.min s.size n=m:=hm;unfold Oper.wpW execOp;simp only[ho,resolve,invoke,builtin,Sem.run_bind,Sem.run_pure,Result.andThen_ok,map_toArray,map_cons,map_nil,e1,j,Builtin.copy_,run_underlying hD,hs];simp only[getElem?_toArray,getElem?_cons_zero,getElem?_cons_succ,run_underlying hD,Builtin.lenOf,Builtin.firstCells,Sem.run_bind,Sem.run_pure,Result.andThen_ok,hs,F,l,p];show K' (a.put o.dst _) _;rw[hd];refine hK _ _ (hk G hG _ _ ⟨?_,?_,I,ι,k2,x.trans v_,lS.put (d:=A e_) L v_ he (.pv (.int _ _)) (by rw[c_];exact z_)⟩ ro (nW i_).2 Q hq)
 .rw[mN];exact o_.step L v_
 rw[KN];exact c_
theorem Zs{s i_:Nat}{bs:List UInt8}{r:B_}(t:o.guard=ζ)(hd:o.dst=A s)(f:Nat.blt s r4=T)(ho:o.op=.convert f_ u4 (.tmp d))(hS:P.underlying f_=A (.slice e))(e_:P.underlying e=A (.int .u8))(hT:P.underlying u4=A .string)
  (u_:H.get id=A ⟨g,n,i_,[mQ bs]⟩) (B:0<n) (z:(⟨bs.toArray⟩:B_)=r) (hk:AL P G0 r4 ops K rest ((s,.pv (.str r))::E) H):ALx P G0 r4 ops K (o::rest) E H d (aCj id n):=by
 intro G z_ a w I A_ x p y F he ⟨c,hc,b,cap,i,D⟩ ro l Q W;refine wpListIn_plain t λK' v_=>?_;refine Oper.wpW_in (nW l).1 ?_;have e1:a.eval (.tmp d)=.slice (A ⟨b,0,ζ⟩) n n:=by simp[Act.eval,hc,D]
 obtain ⟨p1,p2,⟨b',cap',cs,m,f2,f3,f4,f5,τ,y_⟩|⟨m,_⟩⟩:=(y.obj id _ u_).cells B
 rotate_left
 .rw[i]at m;cases m
 rw[i]at m;cases m;have h:C bs=n:=by rw[<-zC bs];simp_all
 subst z;have hl:(loadCells ⟨b,0,ζ⟩ n).run P w=.ok ((bs.map λb=>(b.toNat:Int)).map (Value.int .u8)).toArray w:=by
  have h0:=run_loadCells_list (P:=P) w ⟨b,0,ζ⟩ ((bs.map λb=>(b.toNat:Int)).map (Value.int .u8)) (λj v R=>by
   rw[map_map,r8]at R;obtain ⟨q,L,rfl⟩:=Option.map_eq_some_iff.1 R;rw[Addr.add_lit,r7,cell_of_row w b _ cs _ (0,0) f2];have ⟨u,J,q2,q3⟩:=y_ 0 (mQ bs) Z j (.pv (.int .u8 q.toNat)) (by rw[mQ,r8,L];rfl);rw[Nat.zero_mul,r7]at J;rw[J,q3.int_inv];rfl)
  rwa [g_,g_,h]at h0
 have k:(execOp a.eval o).run P w=.ok (.value (.string ⟨bs.toArray⟩)) w:=by
  simp only[execOp,ho,e1,Sem.run_bind];rw[run_convert_bytes_string w f_ u4 e _ _ n hS e_ hT,run_bytesToString w _ _ n _ hl,foldl_push_bytes];have e3:(bs.map λb=>(b.toNat:Int)).map (λn=>UInt8.ofNat n.toNat)=bs:=by
   rw[map_map]
   conv=>rhs;rw[<-map_id bs]
   refine map_congr_left λb _=>?_;simp
  rw[e3];simp[ByteArray.empty,ByteArray.emptyWithCapacity];rfl
 unfold Oper.wpW;rw[k];show K' (a.put o.dst _) w;rw[hd];exact v_ _ _ (hk G z_ _ w ⟨by rw[mN];exact x,by rw[KN];exact p,I,A_,y,F,lS.put (d:=A s) y (Step.refl _ _ _ _) he (.pv (.str _)) (by rw[p];exact f)⟩ ro (nW l).2 Q W)
end
end
end Go.Abs
section
namespace Go.Proofs
open Go.RowKit Go.Sort Go.Shelf
def aGu:Go.Shelf.Ren:=⟨λ|6=>76|8=>131|9=>130|19=>189|20=>190|21=>180|22=>181|23=>182|24=>183|25=>184|26=>185|27=>186|28=>187|29=>188|36=>233|31=>234|32=>235|37=>236|38=>237|39=>238|41=>270|n=>n,λ|27=>22|29=>9|3=>3|32=>157|26=>22|0=>0|44=>213|46=>169|4=>4|36=>207|35=>206|41=>166|5=>5|9=>9|53=>241|57=>245|63=>282|64=>283|n=>n,λ|n=>n⟩
theorem aHA:Go.Proofs.SlLaysM.n6 φ aGu:={
  mixed:=by kernel_rfl
  f6:=⟨Tryz.f76.name,E_,Tryz.func76.trans D_⟩
  f8:=Tryz.func131.trans D_
  f9:=⟨Tryz.f130.name,E_,Tryz.func130.trans D_⟩
  f19:=Tryz.func189.trans D_
  f20:=Tryz.func190.trans D_
  f21:=⟨Tryz.f180.name,E_,Tryz.func180.trans D_⟩
  f22:=⟨Tryz.f181.name,E_,Tryz.func181.trans D_⟩
  f23:=⟨Tryz.f182.name,E_,Tryz.func182.trans D_⟩
  f24:=⟨Tryz.f183.name,E_,Tryz.func183.trans D_⟩
  f25:=⟨Tryz.f184.name,E_,Tryz.func184.trans D_⟩
  f26:=⟨Tryz.f185.name,E_,Tryz.func185.trans D_⟩
  f27:=⟨Tryz.f186.name,E_,Tryz.func186.trans D_⟩
  f28:=⟨Tryz.f187.name,E_,Tryz.func187.trans D_⟩
  f29:=⟨Tryz.f188.name,E_,Tryz.func188.trans D_⟩
  f31:=Tryz.func234.trans D_
  f32:=Tryz.func235.trans D_
  f36:=⟨Tryz.f233.name,E_,Tryz.func233.trans D_⟩
  f37:=⟨Tryz.f236.name,E_,Tryz.func236.trans D_⟩
  f38:=⟨Tryz.f237.name,E_,Tryz.func237.trans D_⟩
  f39:=⟨Tryz.f238.name,E_,Tryz.func238.trans D_⟩
  f41:=⟨Tryz.f270.name,E_,Tryz.func270.trans D_⟩
  t0:=D7
  a0:=Tryz.isAgg0
  z0:=Tryz.sizeOf0
  v0:=Tryz.zeroValue0
  t3:=Tryz.underlying3
  a3:=Tryz.isAgg3
  z3:=Tryz.sizeOf3
  v3:=sU
  t4:=fB
  a4:=nO
  z4:=Tryz.sizeOf4
  v4:=jC
  t5:=cZ
  a5:=vE
  z5:=cO
  v5:=sT
  t9:=Tryz.underlying9
  a9:=Tryz.isAgg9
  z9:=Tryz.sizeOf9
  v9:=gV
  t26:=aD
  a26:=aG
  z26:=Tryz.sizeOf22
  v26:=wD
  t27:=aD
  a27:=aG
  z27:=Tryz.sizeOf22
  v27:=wD
  t29:=Tryz.underlying9
  a29:=Tryz.isAgg9
  z29:=Tryz.sizeOf9
  v29:=gV
  t32:=lK
  a32:=Tryz.isAgg157
  z32:=A9
  v32:=uA
  t35:=Tryz.underlying206
  a35:=Tryz.isAgg206
  z35:=Tryz.sizeOf206
  v35:=Tryz.zeroValue206
  t36:=Tryz.underlying207
  a36:=Tryz.isAgg207
  z36:=Tryz.sizeOf207
  v36:=Tryz.zeroValue207
  t41:=Tryz.underlying166
  a41:=Tryz.isAgg166
  z41:=Tryz.sizeOf166
  v41:=Tryz.zeroValue166
  t44:=Tryz.underlying213
  a44:=Tryz.isAgg213
  z44:=Tryz.sizeOf213
  v44:=Tryz.zeroValue213
  t46:=gQ
  a46:=xT
  z46:=vD
  v46:=tZ
  t53:=Tryz.underlying241
  a53:=Tryz.isAgg241
  z53:=Tryz.sizeOf241
  v53:=Tryz.zeroValue241
  t57:=Tryz.underlying245
  a57:=Tryz.isAgg245
  z57:=Tryz.sizeOf245
  v57:=Tryz.zeroValue245
  t63:=Tryz.underlying282
  a63:=Tryz.isAgg282
  z63:=Tryz.sizeOf282
  v63:=Tryz.zeroValue282
  t64:=Tryz.underlying283
  a64:=Tryz.isAgg283
  z64:=Tryz.sizeOf283
  v64:=Tryz.zeroValue283}
end Go.Proofs
namespace Go.Proofs.C
open Go.Proofs.Tryz
open Go.Abs
theorem Bs(B:List B_){id g n ty:Nat}{H:aF}(D:H.get id=A ⟨g,1,ty,fL B⟩)(F:n=C B)(E:C B<2^62):
  aU φ 76 [.osl id g 0 n] H (λr H'=>r=.tup []/\H'=(id,⟨g,1,ty,fL (jR B)⟩)::H):=Jk aHA B D F E
def pick(L:List B_)(seen:List Nat):List B_:=seen.map λi=>(L[i]?).getD ⟨#[]⟩
theorem OI(a b:List UInt8):θ (a<=b)||θ (b<=a):=by all_goals grind
theorem Jl{a b}(h:a.Perm b):jR a=jR b:=by
 unfold jR;congr 1;have d:∀l:List _,((l.map vu).mergeSort _).Pairwise _:=λl =>
  pairwise_mergeSort (le:=λx y=>θ (x<=y)) (λa b c e i=>decide_eq_true (List.le_trans (b9 e) (b9 i))) OI _
 exact List.Perm.eq_of_pairwise (λx y _ _ f g=>List.le_antisymm (b9 f) (b9 g)) (d a) (d b) (((mergeSort_perm _ _).trans (h.map _)).trans (mergeSort_perm _ _).symm)
end Go.Proofs.C
end
section
namespace Go.Proofs
open Go.RowKit Go.Sort Go.Shelf
def aGv:Go.Shelf.Ren:=⟨λ|264=>213|n=>n,λ|53=>169|46=>157|n=>n,λ|n=>n⟩
theorem aHB:Go.Proofs.Lays.n264 φ aGv:={
  mixed:=rfl
  f264:=Tryz.func213.trans (congrArg _ (Z))
  t46:=lK
  a46:=Tryz.isAgg157
  z46:=A9
  v46:=uA
  t53:=gQ
  a53:=xT
  z53:=vD
  v53:=tZ}
end Go.Proofs
namespace Go.Proofs.C
open Go.Proofs.Tryz
open Go.Abs
abbrev uv(n:Nat):AV:=.pv (.int .u64 (n:Int))
theorem jh(x y)(c:x<18446744073709551616)(b:y<18446744073709551616)(H):RC 213 [uv x,uv y] (.tup [uv (x*y / 18446744073709551616),uv (x*y % 18446744073709551616)]) H :=Go.Abs.mul64_c aHB x y c b H
theorem Ju(a k){m:Int}(h:m.toNat=k):a / 2 ^ m.toNat=((a / 2 ^ k:Nat):Int):=F_
def Dr(x:Nat):Nat:=x*2862933555777941757 % 18446744073709551616
def aBs(x:Nat):Nat:=Dr x ^^^ (Dr x / 2 ^ 32)
def Dq(x:Nat):Nat:=aBs x*3935559000370003845 % 18446744073709551616
def PD(x:Nat):Nat:=Dq x ^^^ (Dq x / 2 ^ 29)
theorem G3(x):Dr x<18446744073709551616:=mod_lt _ H_
theorem GZ(x):Dq x<18446744073709551616:=mod_lt _ H_
theorem yX{x}(k)(h:x<18446744073709551616):x / 2 ^ k<18446744073709551616:=Nat.lt_of_le_of_lt (div_le_self _ _) h
theorem ES{x y}(h:x<18446744073709551616)(a:y<18446744073709551616):x ^^^ y<18446744073709551616:=xor_lt_two_pow (n:=64) h a
theorem Xj(x):aBs x<18446744073709551616:=ES (G3 x) (yX _ (G3 x))
theorem bq(x):PD x<18446744073709551616:=ES (GZ x) (yX _ (GZ x))
theorem aEX(x:Nat)(b:x<18446744073709551616)(H:aF):RC 158 [uv x] (uv (PD x)) H:=by refine Pu ?_;exact Bd func158 Z ntmps158<|Sz aH<|U aA<|Y (bH Z Z call213 Z (jh x _ b E_ _))<|Y aA<|Y dO<|Y dO<|V aH<|U aA<|Y aA<|Y (GR Z Z Z E_ E_ (Ju (Dr x) 32 Z))<|Y (pS Z H_ Z Z (bits_xor_u64_nat (Dr x) _ (G3 x) (yX 32 (G3 x))))<|V aH<|U aA<|Y (bH Z Z call213 Z (jh (aBs x) _ (Xj x) E_ _))<|Y aA<|Y dO<|Y dO<|V aH<|U aA<|Y aA<|Y (GR Z Z Z E_ E_ (Ju (Dq x) 29 Z))<|Y (pS Z H_ Z Z (bits_xor_u64_nat (Dq x) _ (GZ x) (yX 29 (GZ x))))<|V aH<|aC<|Rt<|Qq
def xN(n:Nat):Int:=if n<10 then 48+(n:Int)else 87+(n:Int)
def lZ(i:Nat):List AV:=(List.range 16).map λj=>.pv (.int .u8 (if j<i then xN j else 0))
theorem DW(i):C (lZ i)=16:=rfl
theorem JO{i j}(h:j<16):(lZ i)[j]?=A (.pv (.int .u8 (if j<i then xN j else 0))):=by rw[lZ,r8,getElem?_range h];rfl
theorem UO{i}(h:i<16):(lZ i).set i (.pv (.int .u8 (xN i)))=lZ (i+1):=by
 apply ext_getElem?;intro j;by_cases a:j<16
 .rw[JO a];by_cases e:i=j
  .subst e;rw[getElem?_set_self (h),b6 (lt_succ_self _)]
  rw[getElem?_set_ne e,JO a]
  grind
 rw[getElem?_eq_none (by rw[length_set,DW];omega),getElem?_eq_none (by rw[DW];omega)]
theorem tw{i}(h:i<16)(x){y}(a:y=.pv (.int .u8 (xN i))):((lZ i).set i x).set i y=lZ (i+1):=by rw[set_set,a,UO h]
theorem uY{H}{n u4 i}:∀r∈(bx n u4 (lZ i)).rows,∀a∈r,Clo H a:=by intro r b a c;rw[q9]at b;subst b;obtain ⟨j,_,rfl⟩:=mem_map.1 c;exact .pv _
instance{H}{n u4 i}:W_ (H) ((bx n u4 (lZ i)).rows):=⟨uY ⟩
theorem tz{H}{i}:∀a∈lZ i,Clo H a:=by intro a b;obtain ⟨j,_,rfl⟩:=mem_map.1 b;exact .pv _
theorem zz:((lZ 16).drop 0).take 16=lZ 16:=rfl
theorem Ps(H:aF):RC 159 [] (.agg (lZ 16)) H:=by
 refine Pu<|Bd func159 Z ntmps159<|Sz (kl 0 va)<|Sz (kl 1 va)<|S<|Sz aA<|aE<|bF (σ:=Nat) (λi=>([(0,.ref 0 0 0 0),(1,.ref 1 0 0 0),(3,iv (i:Int))],[(1,bx 16 180 (lZ i)),(0,bx 16 180 (lZ 0))])) (λi=>i<=16) (λi=>16 - i) 0 (l7 _) ?_ ?_
 .exact L_
 intro i hi;refine Sz cI<|S<|Cn ?_ ?_<;>intro c
 .have f:i<16:=I_ c
  refine aB<|S<|aE<|U aA<|V aH<|U aA<|Y aA<|Y iD<|Y (eE Z underlying3 cZ Z (wu8 X X))<|Y (eV Z zH cO Z Z Z Z X (l_ _) X Z)<|Uu (by exact cM Z cO Z Z Z Z Z Z (by rw[DW];omega) (show (lZ i).set (0+i*1) (.pv (.int .u8 (48+(i:Int))))=(lZ i).set i (.pv (.int .u8 (48+(i:Int))))by simp_all) Z)<|Zz<|U aA<|V AF ?_;refine Cn ?_ ?_<;>intro b
  .have d:¬ i<10:=I_ b
   refine Rd aA<|Y aA<|Y iD<|Y (dT Z Z Z (lT X X))<|Y (eE Z underlying3 cZ Z (wu8 X X))<|Y (eV Z zH cO Z Z Z Z X (l_ _) X Z)<|Uu (by exact cM Z cO Z Z Z Z Z Z (by rw[length_set,DW];omega) (show ((lZ i).set i (.pv (.int .u8 (48+(i:Int))))).set (0+i*1) (.pv (.int .u8 (97+(i:Int) - 10)))=lZ (i+1)by rw[r7,Nat.mul_one];exact tw f _ (by rw[xN,a8 (I_ b)];grind)) Z)<|Zz<|Rd iD<|V aA ?_;exact⟨i+1,X,X,L_⟩
  have d:i<10:=J_ b
  refine aB<|Rd iD<|V aA ?_;refine⟨i+1,X,X,?_⟩;have e:(lZ i).set i (.pv (.int .u8 (48+(i:Int))))=lZ (i+1):=by
   rw[<-UO f,xN,b6 d]
  rw[e];exact L_
 have g:i=16:=J_ c
 subst g;refine aP<|U (by exact aW Z isAgg180 sizeOf180 Z Z Z Z zz Z)<|Uu (jG sizeOf180)<|Zz<|aC<|cT (H':=[]) (.inr Z) Z (fG Z isAgg180 sizeOf180 Z Z Z zz Z) (Fin.wk (.agg tz) T_ T_) Qq
end Go.Proofs.C
end
namespace Go.Proofs.C
open Go.Proofs.Tryz
open Go.Abs
variable{a:Nat}
def wS(l:List UInt8):Nat:=l.foldl (λn b=>n*256+b.toNat) 0
def nE(l:List UInt8):List UInt8:=l.take 8++List.replicate (8 - C l) 0
theorem ie(l):C (nE l)=8:=by rw[nE,j8,m_,length_replicate];omega
theorem ZB(l)(b):wS (l++[b])=wS l*256+b.toNat:=by rw[wS,foldl_append];rfl
theorem Am(l):wS l<256 ^ C l:=by
 suffices h:∀(l:List _) (n),l.foldl _ n<(n+1)*256 ^ C l by
  have:=h l 0;rw[Nat.one_mul]at this;exact this
 intro l
 induction l with
 |nil=>simp_all
 |cons b r c =>
  intro n;have a:=c (n*256+b.toNat);have B:=b.toNat_lt;refine Nat.lt_of_lt_of_le a ?_;rw[j6,Nat.pow_succ,Nat.mul_comm (256 ^ C r) _,<-Nat.mul_assoc];exact mul_le_mul_right _ X
theorem U8{l}(h:C l<=8):wS l<18446744073709551616:=by refine Nat.lt_of_lt_of_le (Am l) ?_;exact Nat.le_trans (Nat.pow_le_pow_right H_ h) H_
theorem mq{l}(h:C l<=7):wS l<72057594037927936:=by refine Nat.lt_of_lt_of_le (Am l) ?_;exact Nat.le_trans (Nat.pow_le_pow_right H_ h) H_
def UM:Nat->List UInt8->Nat
 |s,a::b::c::d::e::f::g::h::r=>UM (PD (s ^^^ wS [a,b,c,d,e,f,g,h])) r
 |s,l=>PD (s ^^^ wS (nE l))
theorem YX(s){l}(h:8<=C l):UM s l=UM (PD (s ^^^ wS (nE (l.take 8)))) (l.drop 8):=by
 match l,h with
 |a::b::c::d::e::f::g::h::r,_=>rfl
theorem YY(s){l}(h:C l<8):UM s l=PD (s ^^^ wS (nE l)):=by
 match l,h with
 | [],_=>rfl
 | [a],_=>rfl
 | [a,b],_=>rfl
 | [a,b,c],_=>rfl
 | [a,b,c,d],_=>rfl
 | [a,b,c,d,e],_=>rfl
 | [a,b,c,d,e,f],_=>rfl
 | [a,b,c,d,e,f,g],_=>rfl
 |_::_::_::_::_::_::_::_::r,h=>simp[j6]at h;omega
def WD(st j:Nat):Nat:=st / 2 ^ (60 - 4*j) % 16
def B8(st:Nat):List UInt8:=(List.range 16).map λj=>UInt8.ofNat (xN (WD st j)).toNat
def AT(st i:Nat):List AV:=(List.range 16).map λj=>.pv (.int .u8 (if j<i then xN (WD st j)else 0))
theorem I0(a i):C (AT a i)=16:=rfl
theorem TE{a i j}(h:j<16):(AT a i)[j]?=A (.pv (.int .u8 (if j<i then xN (WD a j)else 0))):=by rw[AT,r8,getElem?_range h];rfl
theorem rk{a i}(h:i<16):(AT a i).set i (.pv (.int .u8 (xN (WD a i))))=AT a (i+1):=by
 apply ext_getElem?;intro j;by_cases b:j<16
 .rw[TE b];by_cases e:i=j
  .subst e;rw[getElem?_set_self h,b6 (lt_succ_self _)]
  rw[getElem?_set_ne e,TE b]
  grind
 rw[getElem?_eq_none (by rw[length_set,I0];omega),getElem?_eq_none (by rw[I0];omega)]
theorem Mz{H}{c i}:∀a∈AT c i,Clo H a:=by intro a b;obtain ⟨j,_,rfl⟩:=mem_map.1 b;exact .pv _
theorem Qz{H}{l}:∀a∈mQ l,Clo H a:=by intro a b;obtain ⟨j,_,rfl⟩:=mem_map.1 b;exact .pv _
theorem N7{H}{n u4}{l}(h:∀a∈l,Clo H a):∀r∈(bx n u4 l).rows,∀a∈r,Clo H a:=F_
theorem FI(a j):WD a j<16:=mod_lt _ H_
theorem zb{n}(h:n<16):0<=xN n/\xN n<256:=by unfold xN;all_goals omega
theorem rl(b):AT b 16=mQ (B8 b):=by rw[mQ,B8,map_map];refine map_congr_left λj d=>?_;have c:=mem_range.1 d;have f:=zb (FI b j);simp only[Function.comp];rw[b6 c,UInt8.toNat_ofNat'];have e:(xN (WD b j)).toNat % 2 ^ 8=(xN _).toNat:=mod_eq_of_lt X;rw[e,Int.toNat_of_nonneg f.1]
def WH(n:Nat):Nat:=1181783497276652981 ^^^ n
def F1(s:B_):B_:=⟨(B8 (UM (WH s.size) (ν (μ s)))).toArray⟩
theorem zy{n}(h:n<18446744073709551616):WH n<18446744073709551616:=ES H_ h
theorem orN{b:Nat}(B:a<72057594037927936)(D:b<256):bits .or .u64 ((a*256:Nat)) b=((a*256+b:Nat)):=by rw[bits_or_u64_nat _ _ X X];have h:=two_pow_add_eq_or_of_lt (i:=8) X a;rw[Nat.mul_comm]at h;rw[h]
theorem aF3(h:a<72057594037927936):IntKind.u64.wrap (a*2 ^ ((8:Int)).toNat)=((a*256:Nat)):=by show IntKind.u64.wrap (a*256)=_;rw[IntKind.wrap_u64];omega
theorem ew{n:Nat}(h:n<18446744073709551616):IntKind.u64.wrap n=n:=by rw[IntKind.wrap_u64];omega
theorem Ja(s:B_)(g:Nat)(k:g<18446744073709551616):aU φ 157 [sv s,.ref 903 0 0 0] [(903,bx 1 169 [uv g])] (λr H'=>r=.tup []/\H'=[(903,bx 1 169 [uv (PD (g ^^^ wS (nE (ν (μ s)))))])]):=by
 have t:(List.replicate 8 (AV.pv (.int .u8 0)))=mQ (List.replicate 8 0):=by rfl
 have E:min s.size 8<=8:=X
 have o:C s.data.toList=s.size:=H_
 have d:mQ (s.data.toList.take (min s.size 8))++(List.replicate 8 (AV.pv (.int .u8 0))).drop (min s.size 8)=mQ (nE (ν (μ s))):=by
  rw[t,mQ,mQ,<-map_drop,<-map_append,drop_replicate,mQ,nE,o]
  grind
 refine Bd func157 Z ntmps157<|Sz (kl 3 aDG)<|S<|Rg<|MF (id:=3) Z Z Z Z underlying179 cO Z Z rfl<|Rj Z Z Z E_ Z rfl<|di Z Z Z Z dM cO Z E_ Z rfl<|Zz<|Sz aH<|S<|Sz aA<|aE<|bF (σ:=Nat) (λi=>([(0,sv s),(1,.ref 903 0 0 0),(3,.ref 3 0 0 0),(4,uv (wS ((nE (ν (μ s))).take i))),(9,iv (i:Int))],[(3,bx 8 179 (mQ (nE (ν (μ s))))),(903,bx 1 169 [uv g])])) (λi=>i<=8) (λi=>8 - i) 0 (l7 _) ?_ ?_
 .rw[<-d];refine cH.wk (Eb<|Ea<|Ea<|Eb<|Eb<|T_) (Hc ?_<|Hb<|T_) ⟨Z,T_⟩;rw[d];exact N7 Qz
 intro i hi;have h:=ie (ν (μ s));have D:C ((nE (ν (μ s))).take i)<=8:=F_
 refine Sz cI<|S<|Cn ?_ ?_<;>intro j
 .have hlt:i<8:=I_ j
  have ⟨b,q⟩:∃b,(nE (ν (μ s)))[i]?=A b:=⟨_,n_ X⟩;have l:(mQ (nE (ν (μ s))))[i]?=A (.pv (.int .u8 (b.toNat:Int))):=by rw[mQ,r8,q];rfl
  have m:C ((nE (ν (μ s))).take i)<=7:=G_
  have p:=mq m;have B:=b.toNat_lt;refine aB<|S<|aE<|U aA<|V aH<|Rd aA<|Y (QG Z Z Z E_ E_ (aF3 p))<|Y aA<|Y (eV Z underlying179 cO Z Z Z Z X (l_ _) X Z)<|Y (by exact aX Z vE Z Z Z Z (by rw[r7,Nat.mul_one];exact l))<|Y (eE Z cZ gQ Z (ew X))<|Y (pS Z H_ Z Z (orN p X))<|V aH<|Rd iD<|V aA ?_;refine⟨i+1,X,X,?_⟩;have e:wS ((nE (ν (μ s))).take (i+1))=wS ((nE (ν (μ s))).take i)*256+b.toNat:=by rw[take_add_one,q,Option.toList_some,ZB]
  rw[e];exact(cH.wk (Eb<|Ea<|Ea<|Eb<|Eb<|T_) (Hc (N7 Qz)<|Hb<|T_) ⟨Z,T_⟩)
 have n:i=8:=J_ j
 subst n;have e:(nE (ν (μ s))).take 8=nE (ν (μ s)):=take_of_length_le X;rw[e];refine aP<|Rd (bQ xT)<|Y aA<|Y (pS Z H_ Z Z (bits_xor_u64_nat g _ k (U8 (Nat.le_of_eq h))))<|Y (kc call158 (aEX _ (ES k (U8 (Nat.le_of_eq h))) _))<|Uu (jG vD)<|Zz ?_;exact pE (H':=[(903,bx 1 169 [uv (PD (g ^^^ wS (nE (ν (μ s)))))])]) (.inl Z) Z P_ ⟨Z,Z⟩
theorem lf(s:B_)(i j):(s.extract i j).data.toList=(s.data.toList.drop i).take (j - i):=H_
theorem dAt(a i):(lZ 16)[0+WD a i*1]?=A (.pv (.int .u8 (xN (WD a i)))):=by rw[r7,Nat.mul_one,JO (FI _ i),b6 (FI _ i)]
theorem aGE(b:a<18446744073709551616):bits .and .u64 a 15=((a % 16:Nat)):=by have h:=bits_and_u64_nat a 15 b H_;rw[and_two_pow_sub_one_eq_mod a 4]at h;exact h
theorem vz(s:B_)(H:aF)(E:s.size<2^62):RC 106 [sv s] (sv (F1 s)) H:=by
 refine Pu ?_;have k:WH s.size<18446744073709551616:=zy X;have B:C s.data.toList=s.size:=H_
 refine Bd func106 Z ntmps106<|Sz aH<|U aA<|Y (gL U_)<|Y (eE Z underlying3 gQ Z (ew X))<|Y (pS Z H_ Z Z (bits_xor_u64_nat 1181783497276652981 s.size E_ X))<|Y (kl 903 aDI)<|Uu (jG vD)<|Zz<|U (iC Z Z)<|V aH<|S<|aE<|eZ (λ(x:B_) (b:Nat)=>([(0,sv x),(3,.ref 903 0 0 0),(4,.clo 157 [.ref 903 0 0 0])],[(903,bx 1 169 [uv b])])) (λx b=>b<18446744073709551616/\x.size<=s.size/\UM b (ν (μ x))=UM (WH s.size) (ν (μ s))) (λx b=>x.size) s (WH s.size) ⟨k,h_ _,Z⟩ ?_ ?_
 .exact Wk
 rintro x b ⟨c,hx,m⟩;have D:C x.data.toList=x.size:=H_
 refine S<|U aA<|Y (gL U_)<|V AF<|Cn ?_ ?_<;>intro d
 .have n:8<=x.size:=I_ d
  refine aB<|S<|aE<|Rd aA<|Y aA<|Y (bM (l:=0) (h:=8) Z U_ Z Z Z X X Z)<|V (dK Z Z Z (dQ.clo call157 (Ja (x.extract 0 8) b c)))<|Rd aA<|Y (bM (l:=8) (h:=x.size) Z U_ Z Z Z X X Z)<|Da ?_;refine⟨x.extract 8 x.size,PD (b ^^^ wS (nE (x.extract 0 8).data.toList)),⟨bq _,by rw[ByteArray.size_extract];omega,?_⟩,by rw[ByteArray.size_extract];omega,Wk⟩;rw[<-m,YX b (by omega:8<=C x.data.toList),lf,lf,drop_zero,take_of_length_le (l:=x.data.toList.drop 8) F_]
 have n:x.size<8:=J_ d
 have o:=YY b (by omega:C x.data.toList<8);have ⟨f_,l⟩:∃f_,f_=PD (b ^^^ wS (nE (ν (μ x)))):=X_;have h:f_<18446744073709551616:=by rw[l];exact bq _
 have e:F1 s=⟨(B8 f_).toArray⟩:=by rw[F1,<-m,o,l]
 rw[e];refine aP<|U aA<|Y aA<|V (dK Z Z Z (dQ.clo call157 (Ja x b c)))<|U (kc call159 (Ps _))<|Y (kl 5 va)<|Uu (jG sizeOf180)<|Zz<|Sz (kl 6 va)<|S<|Sz aA<|aE ?_;rw[<-l];refine bF (σ:=Nat) (λi=>([(3,.ref 903 0 0 0),(5,.ref 5 0 0 0),(6,.ref 6 0 0 0),(26,iv (i:Int))],[(6,bx 16 180 (AT f_ i)),(5,bx 16 180 (lZ 16)),(903,bx 1 169 [uv f_])])) (λi=>i<=16) (λi=>16 - i) 0 (l7 _) ?_ ?_
 .exact(cH.wk (Ea<|Ea<|Ea<|Eb<|T_) (Hc (N7 Mz)<|Hc (N7 tz)<|Hb<|T_) T_)
 intro i hi;refine Sz cI<|S<|Cn ?_ ?_<;>intro f
 .have g:i<16:=I_ f
  refine aB<|S<|aE<|U aA<|V aH<|Rd aA<|Y (bQ xT)<|Y aA<|Y (oZ Z Z Z (lT X X))<|Y (dT Z Z Z (lT X X))<|Y (by exact GR Z Z Z X (by simp[IntKind.bits];omega) (Ju f_ (60 - 4*i) X))<|Y (pS Z H_ Z Z (aGE (yX _ h)))<|Y (eV Z zH cO Z Z Z Z X (l_ _) (FI f_ i) Z)<|Y (aX Z vE Z Z Z Z (dAt f_ i))<|Y (eV Z zH cO Z Z Z Z X (l_ _) X Z)<|Uu (by exact cM Z cO Z Z Z Z Z Z (by rw[I0];omega) (show (AT f_ i).set (0+i*1) (.pv (.int .u8 (xN (WD f_ i))))=AT f_ (i+1)by rw[r7,Nat.mul_one];exact rk g) Z) ?_;refine Zz<|Rd iD<|V aA ?_;exact⟨i+1,X,X,(cH.wk (Ea<|Ea<|Ea<|Eb<|T_) (Hc (N7 Mz)<|Hc (N7 tz)<|Hb<|T_) T_)⟩
 have j:i=16:=J_ f
 subst j;refine aP<|S<|Rg<|MF (id:=6) Z Z Z Z zH cO Z Z rfl<|Zs (bs:=B8 f_) Z Z Z Z dM cZ U_ (by rw[<-rl];rfl) E_ Z ?_;exact V aH<|aC<|Rt<|Qq
end Go.Proofs.C
namespace Go.Abs
variable{H H':aF}
def aCh(H' H:aF):Prop:=∀j B,H'.get j=A B->∃o,H.get j=A o/\B.g=o.g/\B.sz=o.sz/\C B.rows=C o.rows
theorem VRel.restrictG{w:World}{I:Nat->Prop}{ι:mD}(r:aCh H' H){v:Value}{a:AV}(h:VRel w I ι H v a):Clo H' a->VRel w I ι H' v a:=by
 induction h with
 |any v=>exact λ_=>.any v
 |pv h=>exact λ_=>.pv h
 | ref o f p g m =>
  intro c;cases c with
  |ref c =>
   have ⟨k,d⟩:=Option.isSome_iff_exists.1 c;have ⟨u,e,x,t,s⟩:=r _ _ d;rw[f]at e;cases e;exact .ref k d X g (λy=>by simp_all)
 |pad b D E B f p g K m r4 F=>exact λ_=>.pad b D E B f p g K m r4 F
 | osl o f p g m =>
  intro c;cases c with
  |osl c =>
   have ⟨k,d⟩:=Option.isSome_iff_exists.1 c;have ⟨u,e,x,t,s⟩:=r _ _ d;rw[f]at e;cases e;exact .osl k d X g (λy=>by simp_all)
 |clo n h l =>
  intro c;cases c with|clo c=>exact .clo n λi v a q j=>l i v a q j (c a (m7 j))
 |bnd n h l =>
  intro c;cases c with|bnd c=>exact .bnd n λi v a q j=>l i v a q j (c a (m7 j))
 |agg n f h l =>
  intro c;cases c with|agg c=>exact .agg n f λi v a q j=>l i v a q j (c a (m7 j))
 |tup n h l =>
  intro c;cases c with|tup c=>exact .tup n λi v a q j=>l i v a q j (c a (m7 j))
 | mp o f p g m =>
  intro c;cases c with
  |mp c =>
   have ⟨k,d⟩:=Option.isSome_iff_exists.1 c;have ⟨u,e,x,t,s⟩:=r _ _ d;rw[f]at e;cases e;exact .mp k d X g (λy=>by simp_all)
 | it o f p g m =>
  intro c;cases c with
  |it c =>
   have ⟨k,d⟩:=Option.isSome_iff_exists.1 c;have ⟨u,e,x,t,s⟩:=r _ _ d;rw[f]at e;cases e;exact .it k d X g (λy=>by simp_all)
 | yld o f p g m =>
  intro c;cases c with
  |yld c =>
   have ⟨k,d⟩:=Option.isSome_iff_exists.1 c;have ⟨u,e,x,t,s⟩:=r _ _ d;rw[f]at e;cases e;exact .yld k d X g (λy=>by simp_all)
 | osc o f p g m =>
  intro c;cases c with
  |osc c =>
   have ⟨k,d⟩:=Option.isSome_iff_exists.1 c;have ⟨u,e,x,t,s⟩:=r _ _ d;rw[f]at e;cases e;exact .osc k d X g (λy=>by simp_all)
theorem VRel.freezeG{w}{I}{ι}{H H'}{id}{ob}{ps}(p:Rel I ι H w)(s:aCh H' H)(x:H.get id=A ob)(m:ob.rows=ps.map (·.map .pv)){a B}(q:Fz H' id ob.g ps a B):
  ∀ {v},VRel w I ι H v a->VRel w (rJ I ι id) ι H' v B:=by
 induction q with
 |same h=>exact λc=>(c.restrictG s h).mono' (λ_ _=>rfl) (λ_ h=>.inl h) (λ_ o h=>⟨o,h,h_ _,λ_=>⟨Z,Z,λ_=>h_ _⟩⟩)
 |osl r =>
  intro v c;subst r;exact .pv (FR p x m c)
 | agg g h j =>
  intro v c;cases c with
  |agg k t f =>
   refine .agg (k.trans g) t λi u B l b=>?_;have n:=(m9.1 b).1;exact j i _ _ (n_ X) b (f i u _ l (n_ _))
 | tup g h j =>
  intro v c;cases c with
  |tup k f =>
   refine .tup (k.trans g) λi u B l b=>?_;have n:=(m9.1 b).1;exact j i _ _ (n_ _) b (f i u _ l (n_ X))
def VH(H':aF)(id g:Nat)(ps:List (List PV))(rows rows':List (List AV)):Prop :=C rows'=C rows/\∀(i:Nat) (r':List AV),rows'[i]?=A r'->∃r,rows[i]?=A r/\C r=C r'/\∀(k:Nat) (a B:AV),r[k]?=A a->r'[k]?=A B->Fz H' id g ps a B
theorem dC{H'}{id g}{ps}{rows}(h:∀r∈rows,∀a∈r,Clo H' a):VH H' id g ps rows rows :=⟨Z,λi r b=>⟨r,b,Z,λk a B d c=>by rw[d]at c;cases c;exact .same (h r (m7 b) a (m7 d))⟩⟩
theorem jO{H'}{id g}{ps}{r r'}(c:C r=C r')(h:∀(k:Nat) (a a'),r[k]?=A a->r'[k]?=A a'->Fz H' id g ps a a'):VH H' id g ps [r] [r'] :=⟨Z,λi x b=>by
  match i,b with
  |0,b=>cases b;exact⟨r,Z,c,h⟩⟩
def FOk(H H':aF)(id g:Nat)(ps:List (List PV)):aF->Prop
 | []=>True
 |(j,o')::r=>(∃o,H.get j=A o/\o'.g=o.g/\o'.sz=o.sz/\o'.ty=o.ty/\VH H' id g ps o.rows o'.rows)/\FOk H H' id g ps r
theorem FOk.spec{H H'}{id g}{ps}{L}(h:FOk H H' id g ps L):∀p∈L,∃o,H.get p.1=A o/\p.2.g=o.g/\p.2.sz=o.sz/\p.2.ty=o.ty/\VH H' id g ps o.rows p.2.rows:=by
 induction L with
 |nil=>simp
 |cons x r E =>
  have ⟨B,D⟩:=h
  simp_all
theorem cH.fzG{G0:aF}{E E':dG}{id:Nat}{ob:Ob}(ps:List (List PV))(B:H.get id=A ob)(K:ob.rows=ps.map (·.map .pv))(hE:∀p∈E',∃v0,E.get p.1=A v0/\Fz H' id ob.g ps v0 p.2)(W:H'.get id=ζ)
    (hF:FOk H H' id ob.g ps H') (hk:Hj H' H G0):cH G0 E H E' H':=by
  intro G hG r4 a w u4;have ⟨I,J,q,d,he⟩:=u4.rel;subst hG;have d_:∀j f,H'.get j=A f->∃o,H.get j=A o/\f.g=o.g/\f.sz=o.sz/\f.ty=o.ty/\VH H' id ob.g ps o.rows f.rows:=λj f x=>hF.spec _ (eH x);have s:aCh H' H:=λj f x=>by
    have ⟨o,u,z_,R,_,L⟩:=d_ j f x;exact⟨o,u,z_,R,L.1⟩
  have D:∀b,OF J H' b->OF J H b:=λb ⟨j,f,c,g,n⟩=>by
    have ⟨o,u,_⟩:=d_ j f g;exact⟨j,o,c,u,n⟩
  have c_:Rel (rJ I J id) J H' w:=by
    refine⟨λb l=>?_,λj f x=>?_,λj j' o f b c c' g n=>?_,q.glob.mono (λ_ _=>rfl) (λ_ h=>.inl h)⟩
    · rcases l with l|⟨m,l⟩
      · exact q.imm b l
      · exact q.lt ⟨id,ob,m,B,l⟩
    · have ⟨o,u,z_,R,e4,L,y_⟩:=d_ j f x
      refine(q.obj j o u).keepG R e4 L (gi L.symm (λi u_ v_=>by
        have ⟨r,e_,Q,A_⟩:=y_ i u_ v_;exact⟨r,e_,Q,λk a P g n y ts e=>(A_ k a P g n).raw e⟩)) Z (λb' F q1 _=>⟨Z,λq3=>?_⟩) (λi u_ v_=>?_)
      · rintro(h|⟨m,h⟩)
        · exact q3 h
        · have:j=id:=q.inj j id o ob b' F m u B q1 h
          rw[this,W]at x;cases x
      · have ⟨r,e_,Q,A_⟩:=y_ i u_ v_
        exact⟨r,e_,Q,λk a P g n v f_=>VRel.freezeG q s B K (A_ k a P g n) f_⟩
    · have ⟨p,u,_⟩:=d_ j o g
      have ⟨p',o_,_⟩:=d_ j' f n;exact q.inj j j' p p' b c c' u o_
  have z:Step G.I G.ι G.H G.w (rJ I J id) J H' w :=
    { os := d.os, tape := d.tape, output := d.output, size := d.size, froz := d.froz, keep := d.keep
      imm:=λb l=>.inl (d.imm b l)
      immNew:=λb l=>by
        rcases l with l|⟨m,l⟩
        · exact d.immNew b l
        · rcases d.own b ⟨id,ob,m,B,l⟩with g|g
          · exact .inr (.inl g)
          · exact .inr (.inr g)
      own:=λb l=>d.own b (D b l)
      objs:=λj o ho=>by
        have ⟨f,g,n⟩:=d.objs j o ho;exact⟨f,(hk.kept j (by simp[ho])).trans g,n⟩}
  refine⟨u4.defers,u4.size,_,J,c_,z,λt v ht=>?_⟩;have ⟨v0,g,n⟩:=hE _ (iS ht);have ⟨c,hc,f_⟩:=he t v0 g;exact⟨c,hc,VRel.freezeG q s B K n f_⟩
end Go.Abs
