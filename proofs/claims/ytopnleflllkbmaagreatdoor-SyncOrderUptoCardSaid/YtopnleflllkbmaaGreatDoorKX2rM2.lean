/-
  Parts of the proof. Conditions: each theorem's own.
-/
import Derived.Test.YtopnleflllkbmaaGreatDoorKX2rM1
import Derived.Test.YtopnleflllkbmaaGreatDoorRows
import Derived.OpenShut
import Derived.JoinedCond
import Derived.Carry
import Derived.MapKept
import Derived.Laws.IdiomRangeMap
import Derived.Lib.Bytealg
import Derived.Shelf.SortM.Plain
import Derived.Shelf.SortM.SortNone
import Derived.Ground.SlgmProg
import Derived.Shelf.Strconv.Itoa3
import Derived.Shelf.Bits.Mul64
import Derived.Shelf.LaysM
import Derived.Ground.NamesProg
import Derived.Shelf.Lays
import Derived.Laws.Bits64b
set_option linter.unusedVariables false
set_option linter.unusedSimpArgs false
set_option maxRecDepth 100000
set_option maxHeartbeats 8000000
namespace Go.Proofs
open Tryz
theorem oU:type_of% call154:=call154
theorem AU:type_of% call199:=call199
theorem aEN:type_of% call250:=call250
theorem LI:type_of% call28:=call28
theorem AR:type_of% call283:=call283
theorem Bh:type_of% call305:=call305
theorem mJ:type_of% eqGuardType104:=eqGuardType104
theorem ZQ:type_of% isAgg0:=isAgg0
theorem eB:type_of% isAgg104:=isAgg104
theorem dC:type_of% isAgg133:=isAgg133
theorem DO:type_of% isAgg157:=isAgg157
theorem eA:type_of% isAgg159:=isAgg159
theorem wY:type_of% isAgg169:=isAgg169
theorem vM:type_of% isAgg20:=isAgg20
theorem iz:type_of% isAgg213:=isAgg213
theorem aH:type_of% isAgg22:=isAgg22
theorem aDI:type_of% isAgg223:=isAgg223
theorem wX:type_of% isAgg270:=isAgg270
theorem nD:type_of% isAgg4:=isAgg4
theorem uI:type_of% isAgg5:=isAgg5
theorem Ba:type_of% isAgg82:=isAgg82
theorem TI:type_of% sizeOf0:=sizeOf0
theorem aZ:type_of% sizeOf137:=sizeOf137
theorem AP:type_of% sizeOf157:=sizeOf157
theorem aAq:type_of% sizeOf158:=sizeOf158
theorem qC:type_of% sizeOf159:=sizeOf159
theorem uH:type_of% sizeOf169:=sizeOf169
theorem ZP:type_of% sizeOf180:=sizeOf180
theorem aDF:type_of% sizeOf20:=sizeOf20
theorem ZO:type_of% sizeOf213:=sizeOf213
theorem AO:type_of% sizeOf223:=sizeOf223
theorem lL:type_of% sizeOf270:=sizeOf270
theorem cK:type_of% sizeOf5:=sizeOf5
theorem dU:type_of% sizeOf70:=sizeOf70
theorem DI:type_of% underlying0:=underlying0
theorem dL:type_of% underlying133:=underlying133
theorem nU:type_of% underlying135:=underlying135
theorem gX:type_of% underlying137:=underlying137
theorem kW:type_of% underlying157:=underlying157
theorem dB:type_of% underlying159:=underlying159
theorem gF:type_of% underlying169:=underlying169
theorem yN:type_of% underlying180:=underlying180
theorem cP:type_of% underlying185:=underlying185
theorem IW:type_of% underlying189:=underlying189
theorem LD:type_of% underlying20:=underlying20
theorem IU:type_of% underlying213:=underlying213
theorem aE:type_of% underlying22:=underlying22
theorem N_:type_of% isAgg9:=isAgg9
theorem M_:type_of% isAgg3:=isAgg3
theorem U_:type_of% underlying9:=underlying9
theorem V_:type_of% sizeOf9:=sizeOf9
theorem gE:type_of% underlying223:=underlying223
theorem pk:type_of% underlying266:=underlying266
theorem eZ:type_of% underlying4:=underlying4
theorem eS:type_of% underlying46:=underlying46
theorem jQ:type_of% underlying48:=underlying48
theorem fW:type_of% underlying49:=underlying49
theorem dM:type_of% underlying5:=underlying5
theorem tI:type_of% underlying51:=underlying51
theorem eR:type_of% underlying53:=underlying53
theorem mA:type_of% underlying68:=underlying68
theorem AN:type_of% underlying70:=underlying70
theorem tH:type_of% underlying73:=underlying73
theorem Ax:type_of% underlying80:=underlying80
theorem lZ:type_of% underlying82:=underlying82
theorem tG:type_of% underlying84:=underlying84
theorem Aw:type_of% underlying86:=underlying86
theorem Av:type_of% underlying99:=underlying99
theorem FE:type_of% zeroValue0:=zeroValue0
theorem Au:type_of% zeroValue104:=zeroValue104
theorem LC:type_of% zeroValue135:=zeroValue135
theorem Ar:type_of% zeroValue137:=zeroValue137
theorem tE:type_of% zeroValue157:=zeroValue157
theorem tD:type_of% zeroValue169:=zeroValue169
theorem Aq:type_of% zeroValue189:=zeroValue189
theorem Mu:type_of% zeroValue20:=zeroValue20
theorem LB:type_of% zeroValue213:=zeroValue213
theorem vL:type_of% zeroValue22:=zeroValue22
theorem Ap:type_of% zeroValue270:=zeroValue270
theorem sE:type_of% zeroValue3:=zeroValue3
theorem iS:type_of% zeroValue4:=zeroValue4
theorem Mt:type_of% zeroValue48:=zeroValue48
theorem sD:type_of% zeroValue5:=zeroValue5
theorem Ms:type_of% zeroValue53:=zeroValue53
theorem Mr:type_of% zeroValue70:=zeroValue70
theorem gK:type_of% zeroValue9:=zeroValue9
end Go.Proofs
namespace Go.Abs
variable{ops:Array Oper}{K:cY->aF->Prop}{rest:List Oper}{d t:Tmp}{op:Op}{ty f_ off:TypeId}{pos:String}{af:Array Edge}{x y:Code}{id n k k2 m sz j:Nat}{b want:Bool}{α β γ:Type}{f:FuncId}{args vs r cs cells:List AV}{rows:List (List PV)}{dst:Option Tmp}{c:Operand}{E L:cY}{H' H:aF}{v:AV}{o:Ob}{s:B_}
section
section
variable{P:Program}{G0:aF}{N:Nat}{o:Oper}{H H2:aF}{Q:Exit->cY->aF->Prop}{T e t t':TypeId}{x y:Operand}{id g i:Nat}{ob:Ob}
theorem Y(h:cL P N ⟨some d,op,ty,pos,af,none⟩ E H v H2)(hk:AL P G0 N ops K rest ((d,v)::E) H2)(hn:Nat.blt d N=true:=by rfl):AL P G0 N ops K (⟨some d,op,ty,pos,af,none⟩::rest) E H:=ph Z Z hn h hk
theorem Uu(h:cL P N ⟨none,op,ty,pos,af,none⟩ E H v H2)(hk:AL P G0 N ops K rest E H2):AL P G0 N ops K (⟨none,op,ty,pos,af,none⟩::rest) E H:=aEH Z Z h hk
theorem S{x y:Code}(h:fZ P G0 N x (yP (fZ P G0 N y Q) Q) E H):fZ P G0 N (.seq x y) Q E H:=K4 h
theorem Rg(h:AL P G0 N ops (fun E H=>Q .normal E H) ops.toList E H):fZ P G0 N (.region id ops false) Q E H:=DE h
theorem Zz(h:K E H):AL P G0 N ops K [] E H:=pg h
theorem V(ho:o.op=.move x:=by rfl)(hx:aO E x=some v:=by rfl):cL P N o E H v H:=gP ho hx
theorem U(ho:o.op=.assign x:=by rfl)(hx:aO E x=some v:=by rfl):cL P N o E H v H:=xP ho hx
theorem Sr{y:Code}(h:AL P G0 N ops (fun E H=>yP (fZ P G0 N y Q) Q .normal E H) ops.toList E H):fZ P G0 N (.seq (.region id ops false) y) Q E H:=S (Rg h)
theorem Dm(hk:AL P G0 N ops K rest ((d,v)::E) H)(ho:op=.move x:=by rfl)(hx:aO E x=some v:=by rfl)(hn:Nat.blt d N=true:=by rfl):AL P G0 N ops K (⟨some d,op,ty,pos,af,none⟩::rest) E H:=Y (gP ho hx) hk hn
theorem Da(hk:K ((d,v)::E) H)(ho:op=.assign x:=by rfl)(hx:aO E x=some v:=by rfl)(hn:Nat.blt d N=true:=by rfl):AL P G0 N ops K [⟨some d,op,ty,pos,af,none⟩] E H:=Y (xP ho hx) (Zz hk) hn
theorem Kr{a b:Prop}(h:b)(h1:a:=by kernel_rfl):a/\b:=⟨h1,h⟩
theorem Qq{a:α}{b:β}:a=a/\b=b:=⟨Z,Z⟩
theorem Pu{r0:AV}(h:aS P f args [] (fun r H=>r=r0/\H=[]))(hp:∀a∈args,Clo [] a:=by simp):aS P f args H (fun r H'=>r=r0/\H'=H):=aS.pure h hp H
theorem dH(ho:o.op=.extract x n:=by rfl)(hx:aO E x=some (.tup vs):=by rfl)(hv:vs[n]?=some v:=by rfl):cL P N o E H v H:=uZ ho hx hv
theorem bD{f:Nat}(hF:cH P f_ f off)(ho:o.op=.fieldAddr f_ x f:=by rfl)(hx:aO E x=some (.ref id g i k):=by rfl)(hH:H.get id=some ob:=by rfl)(hg:ob.g=g:=by rfl)(hk:k+off=k2:=by rfl):cL P N o E H (.ref id g i k2) H:=oC ho hF hx hH hg hk
theorem bS(ha:∀w,(isAgg T).run P w=.ok false w)(ho:o.op=.load T x:=by rfl)(hx:aO E x=some (.ref id g i k):=by rfl)(hH:H.get id=some ob:=by rfl)(hg:ob.g=g:=by rfl)(hi:ob.rows[i]?=some r:=by rfl)(hk:r[k]?=some v:=by rfl):cL P N o E H v H:=aX ho ha hx hH hg hi hk
theorem vC(ha:∀w,(isAgg T).run P w=.ok true w)(hs:∀w,(sizeOf T).run P w=.ok n w)(ho:o.op=.load T x:=by rfl)(hx:aO E x=some (.ref id g i k):=by rfl)(hH:H.get id=some ob:=by rfl)(hg:ob.g=g:=by rfl)(hi:ob.rows[i]?=some r:=by rfl)(hk:(r.drop k).take n=cs:=by rfl)(hl:cs.length=n:=by rfl):cL P N o E H (.agg cs) H:=aW ho ha hs hx hH hg hi hk hl
theorem iU(hs:∀w,(sizeOf T).run P w=.ok n w)(ho:o.op=.store T x y:=by rfl)(hx:aO E x=some (.ref id g 0 0):=by rfl)(hy:aO E y=some v:=by rfl)(hc:PO v=some cells:=by rfl)(hn:cells.length=n:=by rfl)(hH:H.get id=some ob:=by rfl)(hg:ob.g=g:=by rfl)(hi:ob.rows=[r]:=by rfl)(hk:r.length=n:=by rfl):cL P N o E H .any ((id,⟨g,ob.sz,ob.ty,[cells]⟩)::H):=lQ ho hs hx hy hc hn hH hg hi hk
theorem fV(ht:P.underlying T=some (.slice e))(ho:o.op=.call {callee:=.builtin .len,args:=#[x],argTypes:=#[T]}:=by rfl)(hx:aO E x=some (.pv (.sl rows)):=by rfl):cL P N o E H (.pv (.int .i64 rows.length)) H:=kR ho ht hx
theorem iM{r:List PV}{kk:IntKind}{n:Int}(hS:fF P T e sz)(ho:o.op=.indexAddr T x y:=by rfl)(hx:aO E x=some (.pv (.sl rows)):=by rfl)(hy:aO E y=some (.pv (.int kk n)):=by rfl)(h0:0<=n:=by omega)(hm:n.toNat=m:=by exact l8 _)(hi:rows[m]?=some r:=by assumption)(hl:r.length=sz:=by rfl):cL P N o E H (.pad rows m 0) H:=bU ho hS hx hy h0 hm hi hl
theorem oO{parts:Array (Nat×Operand)}{places:List (Nat×Nat)}{l0 l:List AV}{aps:List (Nat×AV)}(hB:lF P T places l0)(ho:o.op=.build T parts:=by rfl)(hp:qB E parts.toList=some aps:=by rfl)(hf:DH (fun i=>places[i]?) l0 aps=some l:=by rfl):cL P N o E H (.agg l) H:=OK ho hB hp hf
theorem cM{k:IntKind}{n m:Int}(ho:o.op=.binOp .lss t x y t':=by rfl)(hx:aO E x=some (.pv (.int k n)):=by rfl)(hy:aO E y=some (.pv (.int k m)):=by rfl):cL P N o E H (.pv (.bool (decide (n<m)))) H:=iA ho hx hy
theorem cD{k:IntKind}{n m:Int}(ho:o.op=.binOp .eql t x y t':=by rfl)(hx:aO E x=some (.pv (.int k n)):=by rfl)(hy:aO E y=some (.pv (.int k m)):=by rfl):cL P N o E H (.pv (.bool (decide (n=m)))) H:=lU ho hx hy
theorem Cq{ops:List Oper}{K:List Rec->cY->aF->Prop}(h:cL P N ⟨dst,op,ty,pos,af,none⟩ (restr E (iV ops ⟨dst,op,ty,pos,af,none⟩)) H v H)(hk:DC P N ops rest (nG E dst v) H (fun rs E' H'=>K (⟨v,none,[]⟩::rs) E' H'))(hd:iZ N dst=true:=by rfl):DC P N ops (⟨dst,op,ty,pos,af,none⟩::rest) E H K:=iF (DStep.q Z h) hd hk
theorem Cp{ops:List Oper}{K:List Rec->cY->aF->Prop}(R:List Nat){w:Nat×Ob}(h:∀H1:aF,(∀id,tL (some R) id=true->H1.get id=H.get id)->cL P N ⟨dst,op,ty,pos,af,none⟩ (restr E (iV ops ⟨dst,op,ty,pos,af,none⟩)) H1 v (w::H1))(hk:DC P N ops rest (nG E dst v) (w::H) (fun rs E' H'=>K (⟨v,some R,[w]⟩::rs) E' H'))(hd:iZ N dst=true:=by rfl):DC P N ops (⟨dst,op,ty,pos,af,none⟩::rest) E H K:=iF (r:=⟨v,some R,[w]⟩) (DStep.plain Z h) hd hk
theorem Cr{ops:List Oper}{K:List Rec->cY->aF->Prop}(R:List Nat)(h:∀H1:aF,(∀id,tL (some R) id=true->H1.get id=H.get id)->cL P N ⟨dst,op,ty,pos,af,none⟩ (restr E (iV ops ⟨dst,op,ty,pos,af,none⟩)) H1 v H1)(hk:DC P N ops rest (nG E dst v) H (fun rs E' H'=>K (⟨v,some R,[]⟩::rs) E' H'))(hd:iZ N dst=true:=by rfl):DC P N ops (⟨dst,op,ty,pos,af,none⟩::rest) E H K:=iF (r:=⟨v,some R,[]⟩) (DStep.plain Z h) hd hk
theorem Cs{ops:List Oper}{K:List Rec->cY->aF->Prop}(h:∀H1:aF,(∀id,tL none id=true->H1.get id=H.get id)->cL P N ⟨dst,op,ty,pos,af,none⟩ (restr E (iV ops ⟨dst,op,ty,pos,af,none⟩)) H1 v H1)(hk:DC P N ops rest (nG E dst v) H (fun rs E' H'=>K (⟨v,none,[]⟩::rs) E' H'))(hd:iZ N dst=true:=by rfl):DC P N ops (⟨dst,op,ty,pos,af,none⟩::rest) E H K:=iF (r:=⟨v,none,[]⟩) (DStep.plain Z h) hd hk
theorem Ot{ops:List Oper}{K:List Rec->cY->aF->Prop}{t:Tmp}(hk:DC P N ops rest (nG E dst (.tup [])) H (fun rs E' H'=>K (⟨.tup [],some [],[]⟩::rs) E' H'))(hj:jL ops j=some t:=by rfl)(hb:E.get t=some (.pv (.bool b)):=by rfl)(hw:b=false:=by first|rfl|assumption)(hd:iZ N dst=true:=by rfl):DC P N ops (⟨dst,op,ty,pos,af,some (j,true)⟩::rest) E H K:=iF (Ra Z hj hb hw) hd hk
theorem Of{ops:List Oper}{K:List Rec->cY->aF->Prop}{t:Tmp}(hk:DC P N ops rest (nG E dst (.tup [])) H (fun rs E' H'=>K (⟨.tup [],some [],[]⟩::rs) E' H'))(hj:jL ops j=some t:=by rfl)(hb:E.get t=some (.pv (.bool b)):=by rfl)(hw:b=true:=by first|rfl|assumption)(hd:iZ N dst=true:=by rfl):DC P N ops (⟨dst,op,ty,pos,af,some (j,false)⟩::rest) E H K:=iF (Rb Z hj hb hw) hd hk
theorem Ou{ops:List Oper}{K:List Rec->cY->aF->Prop}{t:Tmp}{w:Bool}(hk:DC P N ops rest (nG E dst (.tup [])) H (fun rs E' H'=>K (⟨.tup [],some [],[]⟩::rs) E' H'))(hj:jL ops j=some t:=by rfl)(hb:E.get t=some (.tup []):=by rfl)(hd:iZ N dst=true:=by rfl):DC P N ops (⟨dst,op,ty,pos,af,some (j,w)⟩::rest) E H K:=iF (Qz Z hj hb) hd hk
theorem J{t:Tmp}(h:cL P N ⟨some d,op,ty,pos,af,some (j,want)⟩ E H v H2)(hk:AL P G0 N ops K rest ((d,v)::E) H2)(hj:jL ops.toList j=some t:=by rfl)(hb:E.get t=some (.pv (.bool b)):=by rfl)(hw:b=want:=by rfl)(hn:Nat.blt d N=true:=by rfl):AL P G0 N ops K (⟨some d,op,ty,pos,af,some (j,want)⟩::rest) E H:=Mo Z hj hb hw Z hn h hk
theorem M{t:Tmp}(hk:AL P G0 N ops K rest (nG E dst (.tup [])) H)(hj:jL ops.toList j=some t:=by rfl)(hb:E.get t=some (.pv (.bool b)):=by rfl)(hw:b=!want:=by rfl)(hd:iZ N dst=true:=by rfl):AL P G0 N ops K (⟨dst,op,ty,pos,af,some (j,want)⟩::rest) E H:=Mp Z hj hb hw hd hk
theorem Oa{t:Tmp}(h:cL P N ⟨some d,op,ty,pos,af,some (j,want)⟩ E H v H2)(hk:AL P G0 N ops K rest ((d,v)::E) H2)(hj:jL ops.toList j=some t:=by rfl)(hb:E.get t=some (.pv (.bool b)):=by rfl)(hw:b=want:=by assumption)(hn:Nat.blt d N=true:=by rfl):AL P G0 N ops K (⟨some d,op,ty,pos,af,some (j,want)⟩::rest) E H:=Mo Z hj hb hw Z hn h hk
theorem Fa{t:Tmp}(hk:AL P G0 N ops K rest (nG E dst (.tup [])) H)(hj:jL ops.toList j=some t:=by rfl)(hb:E.get t=some (.pv (.bool b)):=by rfl)(hw:b=!want:=by assumption)(hd:iZ N dst=true:=by rfl):AL P G0 N ops K (⟨dst,op,ty,pos,af,some (j,want)⟩::rest) E H:=Mp Z hj hb hw hd hk
section
variable{R:Option (List Nat)}{H1:aF}
theorem fh{f:Nat}(hF:cH P f_ f off)(h:∀id,tL R id=true->H1.get id=H.get id)(ho:o.op=.fieldAddr f_ x f:=by rfl)(hx:aO E x=some (.ref id g i k):=by rfl)(hm:tL R id=true:=by rfl)(hH:H.get id=some ob:=by rfl)(hg:ob.g=g:=by rfl)(hk:k+off=k2:=by rfl):cL P N o E H1 (.ref id g i k2) H1:=oC ho hF hx ((h _ hm).trans hH) hg hk
theorem lh(ha:∀w,(isAgg T).run P w=.ok false w)(h:∀id,tL R id=true->H1.get id=H.get id)(ho:o.op=.load T x:=by rfl)(hx:aO E x=some (.ref id g i k):=by rfl)(hm:tL R id=true:=by rfl)(hH:H.get id=some ob:=by rfl)(hg:ob.g=g:=by rfl)(hi:ob.rows[i]?=some r:=by rfl)(hk:r[k]?=some v:=by rfl):cL P N o E H1 v H1:=aX ho ha hx ((h _ hm).trans hH) hg hi hk
end
section
variable{k:IntKind}{n m:Int}{s u:B_}{r:List PV}{i j q f F:Nat}
theorem iT(ho:o.op=.unOp .not t x:=by rfl)(hx:aO E x=some (.pv (.bool b)):=by rfl):cL P N o E H (.pv (.bool (!b))) H:=Sc ho hx
theorem AY(ho:o.op=.binOp .neq t x y t':=by rfl)(hx:aO E x=some (.pv (.int k n)):=by rfl)(hy:aO E y=some (.pv (.int k m)):=by rfl):cL P N o E H (.pv (.bool (!decide (n=m)))) H:=J2 ho hx hy
theorem iY(ho:o.op=.binOp .gtr t x y t':=by rfl)(hx:aO E x=some (.pv (.int k n)):=by rfl)(hy:aO E y=some (.pv (.int k m)):=by rfl):cL P N o E H (.pv (.bool (decide (m<n)))) H:=J5 ho hx hy
theorem IA(ho:o.op=.binOp .leq t x y t':=by rfl)(hx:aO E x=some (.pv (.int k n)):=by rfl)(hy:aO E y=some (.pv (.int k m)):=by rfl):cL P N o E H (.pv (.bool (decide (n<=m)))) H:=pJ ho hx hy
theorem B0(ho:o.op=.binOp .geq t x y t':=by rfl)(hx:aO E x=some (.pv (.int k n)):=by rfl)(hy:aO E y=some (.pv (.int k m)):=by rfl):cL P N o E H (.pv (.bool (decide (m<=n)))) H:=jK ho hx hy
theorem wF(ho:o.op=.binOp .eql t x y t':=by rfl)(hx:aO E x=some (.pv (.str s)):=by rfl)(hy:aO E y=some (.pv (.str u)):=by rfl):cL P N o E H (.pv (.bool (decide (s=u)))) H:=EC ho hx hy
theorem GU(ho:o.op=.binOp .neq t x y t':=by rfl)(hx:aO E x=some (.pv (.str s)):=by rfl)(hy:aO E y=some (.pv (.str u)):=by rfl):cL P N o E H (.pv (.bool (!decide (s=u)))) H:=Hy ho hx hy
theorem gT(ho:o.op=.binOp .add t x y t':=by rfl)(hx:aO E x=some (.pv (.int .i64 n)):=by rfl)(hy:aO E y=some (.pv (.int .i64 m)):=by rfl){r:Int}(hr:IntKind.i64.wrap (n+m)=r:=by exact qD (by omega) (by omega)):cL P N o E H (.pv (.int .i64 r)) H:=eQ ho hx hy hr
theorem EV{q2:Nat}(hF:cH P f_ f off)(ho:o.op=.fieldAddr f_ x f:=by rfl)(hx:aO E x=some (.pad rows i q):=by rfl)(hk:q+off=q2:=by rfl):cL P N o E H (.pad rows i q2) H:=T6 ho hF hx hk
theorem fY{p:PV}(ha:∀w,(isAgg T).run P w=.ok false w)(ho:o.op=.load T x:=by rfl)(hx:aO E x=some (.pad rows i q):=by rfl)(hi:rows[i]?=some r:=by first|assumption|omega)(hk:r[q]?=some p:=by rfl):cL P N o E H (.pv p) H:=fO ho ha hx hi hk
theorem CK(ho:o.op=.pick c x y:=by rfl)(hc:aO E c=some (.pv (.bool b)):=by rfl)(hb:b=true:=by assumption)(hv:aO E x=some v:=by rfl):cL P N o E H v H:=yh ho hc hb hv
theorem vP(ho:o.op=.pick c x y:=by rfl)(hc:aO E c=some (.pv (.bool b)):=by rfl)(hb:b=false:=by assumption)(hv:aO E y=some v:=by rfl):cL P N o E H v H:=yi ho hc hb hv
theorem cE(ho:o.op=.pick c x y:=by rfl)(hc:aO E c=some (.pv (.bool b)):=by rfl)(hv:aO E (if b then x else y)=some v:=by rfl):cL P N o E H v H:=EF ho hc hv
theorem gM(ht:P.underlying T=some .string)(ho:o.op=.call {callee:=.builtin .len,args:=#[x],argTypes:=#[T]}:=by rfl)(hx:aO E x=some (.pv (.str s)):=by rfl):cL P N o E H (.pv (.int .i64 s.size)) H:=NP ho ht hx
theorem sC{q:Nat}(ho:o.op=.nilCheck x:=by rfl)(hx:aO E x=some (.ref id g i q):=by rfl)(hH:H.get id=some ob:=by rfl)(hg:ob.g=g:=by rfl):cL P N o E H (.ref id g i q) H:=dK ho hx hH hg
end
section
variable{G0:aF}{fn:Func}{Q:AV->aF->Prop}{q:Exit}{r r1 r2:AV}{t1 t2:Tmp}
theorem Rt(hq:Q r [])(hf:fn.results=#[.tmp t1]:=by rfl)(ht:E.get t1=some r:=by rfl)(hc:Clo [] r:=by simp):NG P fn [] Q .ret E H:=cR (.inr Z) hf (aJ ht) (Fin.wk hc T_ T_) hq
theorem Ru(hq:Q (.tup [r1,r2]) [])(hf:fn.results=#[.tmp t1,.tmp t2]:=by rfl)(ht:E.get t1=some r1:=by rfl)(hu:E.get t2=some r2:=by rfl)(hc:Clo [] (.tup [r1,r2]):=by simp):NG P fn [] Q .ret E H:=hU (.inr Z) hf (aJ ht) (aJ hu) (Fin.wk hc T_ T_) hq
theorem CF{T:TypeId}{i:Nat}(ha:∀w,(isAgg T).run P w=.ok true w)(hs:∀w,(sizeOf T).run P w=.ok n w)(hx:E.get t1=some (.ref id g i k):=by rfl)(hH:H.get id=some ob:=by rfl)(hg:ob.g=g:=by rfl)(hi:ob.rows[i]?=some cells:=by rfl)(hk:(cells.drop k).take n=cs:=by rfl)(hl:cs.length=n:=by rfl):OH P E H (.cell t1 T) (.agg cs):=eV hx ha hs hH hg hi hk hl
theorem Bd{c:Code}(hf:P.funcs[f]?=some fn)(hb:fn.body=some c)(hN:fn.ntmps=N)(h:fZ P H N c (NG P fn H Q) (oA args) H)(hlen:args.length<=N:=by exact r9 Z):aS P f args H Q:=aS.body hf hb hN hlen h
end
section
variable{Q:Exit->cY->aF->Prop}{E':cY}
theorem Cn{x y:Code}(h1:b=true->fZ P G0 N x Q E H)(h2:b=false->fZ P G0 N y Q E H)(hc:aO E c=some (.pv (.bool b)):=by rfl):fZ P G0 N (.cond c x y) Q E H:=Md hc h1 h2
theorem Sp(t:Tmp){l:List Oper}(h1:b=true->AL P G0 N ops K l ((t,.pv (.bool true))::E) H)(h2:b=false->AL P G0 N ops K l ((t,.pv (.bool false))::E) H)(hb:E.get t=some (.pv (.bool b)):=by rfl):AL P G0 N ops K l E H:=Mn hb h1 h2
theorem Wk(hE:Ca E H' E':=by repeat' first|exact trivial|refine⟨⟨_,Z,Z⟩,?_,?_⟩|(simp;done)|(simp;rfl))(hH:Z0 H H' H':=by repeat' first|exact trivial|refine⟨⟨_,Z,Z⟩,?_,?_⟩|(simp;done)|(simp;rfl))(hk:Bz H' H G0:=by repeat' first|exact trivial|refine⟨Z,?_⟩):cJ G0 E H E' H':=cJ.wk hE hH hk
theorem E0(h:Nc E E':=by repeat' first|exact trivial|refine⟨⟨_,Z,Z⟩,?_⟩):cJ G0 E H E' H:=cJ.e0 h
theorem Fu{t:Tmp}(hk:AL P G0 N ops K rest (nG E dst (.tup [])) H)(hj:jL ops.toList j=some t:=by rfl)(hb:E.get t=some (.tup []):=by rfl)(hd:iZ N dst=true:=by rfl):AL P G0 N ops K (⟨dst,op,ty,pos,af,some (j,want)⟩::rest) E H:=qR Z hj hb hd hk
end
section
variable{ops rest:List Oper}{K:List Rec->cY->aF->Prop}
theorem Nt(h:cL P N ⟨dst,op,ty,pos,af,some (j,true)⟩ (restr E (iV ops ⟨dst,op,ty,pos,af,some (j,true)⟩)) H v H)(hk:DC P N ops rest (nG E dst v) H (fun rs E' H'=>K (⟨v,none,[]⟩::rs) E' H'))(hj:jL ops j=some t:=by rfl)(hb:E.get t=some (.pv (.bool b)):=by rfl)(hw:b=true:=by first|rfl|assumption)(hd:iZ N dst=true:=by rfl):DC P N ops (⟨dst,op,ty,pos,af,some (j,true)⟩::rest) E H K:=iF (Yq Z hj hb hw h) hd hk
theorem Nf(h:cL P N ⟨dst,op,ty,pos,af,some (j,false)⟩ (restr E (iV ops ⟨dst,op,ty,pos,af,some (j,false)⟩)) H v H)(hk:DC P N ops rest (nG E dst v) H (fun rs E' H'=>K (⟨v,none,[]⟩::rs) E' H'))(hj:jL ops j=some t:=by rfl)(hb:E.get t=some (.pv (.bool b)):=by rfl)(hw:b=false:=by first|rfl|assumption)(hd:iZ N dst=true:=by rfl):DC P N ops (⟨dst,op,ty,pos,af,some (j,false)⟩::rest) E H K:=iF (Yr Z hj hb hw h) hd hk
end
theorem Zl:(∀ {α:Type} (a:α) (l:List α) (i:Nat),(a::l).drop (i+1)=l.drop i)/\(∀ {α:Type} (l:List α),l.drop 0=l)/\(∀ {α:Type} (a:α) (l:List α) (i:Nat),(a::l).take (i+1)=a::l.take i)/\(∀ {α:Type} (l:List α),l.take 0=[])/\(∀ {α:Type} (i:Nat),([]:List α).take i=[]) /\
  (∀ {α β:Type} (f:α->β) (a:α) (l:List α),(a::l).map f=f a::l.map f)/\(∀ {α β:Type} (f:α->β),[].map f=[])/\(∀ {α:Type} (a b:α) (l:List α),(a::l).set 0 b=b::l)/\(∀ {α:Type} (a b:α) (l:List α) (i:Nat),(a::l).set (i+1) b=a::l.set i b) /\
  (∀ {α:Type} (a:α) (l l2:List α),(a::l)++l2=a::(l++l2))/\(∀ {α:Type} (l:List α),[]++l=l) :=
 ⟨fun _ _ _=>rfl,fun _=>rfl,fun _ _ _=>rfl,fun l=>by simp,fun _=>by simp,fun _ _ _=>rfl,fun _=>rfl,fun _ _ _=>rfl,fun _ _ _ _=>rfl,fun _ _ _=>rfl,fun _=>rfl⟩
theorem Zo:(∀b:Bool,(false&&b)=false)/\(∀b:Bool,(true&&b)=b)/\(∀b:Bool,(b&&false)=false)/\(∀b:Bool,(b&&true)=b)/\(∀b:Bool,(true||b)=true)/\(∀b:Bool,(false||b)=b)/\(∀b:Bool,(b||true)=true)/\(∀b:Bool,(b||false)=b)/\(!true)=false/\(!false)=true:=H_
end
theorem Ea{t:Nat}(r:Ca E H' L)(h1:∃v0,E.get t=some v0/\v0=v:=by exact⟨_,Z,Z⟩)(h2:Clo H' v:=by simp;rfl):Ca E H' ((t,v)::L):=⟨h1,h2,r⟩
theorem Eb{t:Nat}(r:Ca E H' L)(h1:∃v0,E.get t=some v0/\v0=v:=by exact⟨_,Z,Z⟩)(h2:Clo H' v:=by simp):Ca E H' ((t,v)::L):=⟨h1,h2,r⟩
theorem Ec{t:Nat}(h2:Clo H' v)(r:Ca E H' L)(h1:∃v0,E.get t=some v0/\v0=v:=by exact⟨_,Z,Z⟩):Ca E H' ((t,v)::L):=⟨h1,h2,r⟩
theorem Ha{t:Nat}{L:aF}(r:Z0 H H' L)(h1:∃v0,H.get t=some v0/\v0=o:=by exact⟨_,Z,Z⟩)(h2:∀r∈o.rows,∀a∈r,Clo H' a:=by simp;rfl):Z0 H H' ((t,o)::L):=⟨h1,h2,r⟩
theorem Hb{t:Nat}{L:aF}(r:Z0 H H' L)(h1:∃v0,H.get t=some v0/\v0=o:=by exact⟨_,Z,Z⟩)(h2:∀r∈o.rows,∀a∈r,Clo H' a:=by simp):Z0 H H' ((t,o)::L):=⟨h1,h2,r⟩
theorem Hc{t:Nat}{L:aF}(h2:∀r∈o.rows,∀a∈r,Clo H' a)(r:Z0 H H' L)(h1:∃v0,H.get t=some v0/\v0=o:=by exact⟨_,Z,Z⟩):Z0 H H' ((t,o)::L):=⟨h1,h2,r⟩
section
variable{P:Program}{N:Nat}{o:Oper}{T t t' e:TypeId}{x y:Operand}{id g i k:Nat}{ob:Ob}{r r' cells:List AV}{rows':List (List AV)}{kk:IntKind}
theorem kc{F:FuncId}{f:Operand}{args:Array Operand}{at_:Array TypeId}{Q:AV->aF->Prop}(hc:∀(args:Array Value) (w:World),(callFunc F args).run P w=.ok (.enter F args) w)(h:aS P F vs H Q)(ho:o.op=.call {callee:=.value f,args:=args,argTypes:=at_}:=by rfl)(hf:aO E f=some (.pv (.fn F)):=by rfl)(hv:yL E args.toList=some vs:=by rfl):ja P N o E H Q:=bF ho hf hc hv h
theorem kl(id:Nat)(hZ:eO P T cells)(ho:o.op=.alloc T:=by rfl)(hn:cells.length=n+1:=by rfl)(hid:H.get id=none:=by rfl):cL P N o E H (.ref id 0 0 0) ((id,⟨0,n+1,T,[cells]⟩)::H):=FG ho hZ hn hid
theorem kb(id:Nat)(ho:o.op=.box T x:=by rfl)(hx:aO E x=some v:=by rfl)(hc:PO v=some cells:=by rfl)(hn:cells.length=n+1:=by rfl)(hid:H.get id=none:=by rfl):cL P N o E H (.ref id 0 0 0) ((id,⟨0,n+1,T,[cells]⟩)::H):=uO ho hx hc hn hid
theorem ka{n m:Int}{q:Int}(hr:kk.wrap (n+m)=q)(ho:o.op=.binOp .add t x y T:=by rfl)(hx:aO E x=some (.pv (.int kk n)):=by rfl)(hy:aO E y=some (.pv (.int kk m)):=by rfl):cL P N o E H (.pv (.int kk q)) H:=eQ ho hx hy hr
theorem kp(ho:o.op=.binOp .add t x y T:=by rfl)(hx:aO E x=some (.pv (.int .i64 (n:Int))):=by rfl)(hy:aO E y=some (.pv (.int .i64 1)):=by rfl)(hn:n<9223372036854775807:=by omega):cL P N o E H (.pv (.int .i64 ((n+1:Nat):Int))) H:=eQ ho hx hy (by rw[qD X X];omega)
theorem kq{u:B_}(ho:o.op=.binOp .add t x y t':=by rfl)(hx:aO E x=some (.pv (.str s)):=by rfl)(hy:aO E y=some (.pv (.str u)):=by rfl)(hs:s.size+u.size<=9223372036854775807:=by omega):cL P N o E H (.pv (.str (s++u))) H:=eW ho hx hy hs Z
theorem ku(hs:∀w,(sizeOf T).run P w=.ok 1 w)(ho:o.op=.store T x y:=by rfl)(hx:aO E x=some (.ref id g i k):=by rfl)(hy:aO E y=some v:=by rfl)(hc:PO v=some [v]:=by rfl)(hH:H.get id=some ob:=by rfl)(hg:ob.g=g:=by rfl)(hi:ob.rows[i]?=some r:=by rfl)(hk:k<r.length:=by exact r9 Z)(hr':r.set k v=r':=by rfl)(hrows:ob.rows.set i r'=rows':=by rfl):cL P N o E H .any ((id,⟨g,ob.sz,ob.ty,rows'⟩)::H):=cQ ho hs hx hy hc hH hg hi hk hr' hrows
theorem kx{n:Int}{w:List PV}(hS:fF P T e sz)(hi:rows[m]?=some w)(ho:o.op=.indexAddr T x y:=by rfl)(hx:aO E x=some (.pv (.sl rows)):=by rfl)(hy:aO E y=some (.pv (.int kk n)):=by rfl)(h0:0<=n:=by omega)(hm:n.toNat=m:=by exact l8 _)(hl:w.length=sz:=by rfl):cL P N o E H (.pad rows m 0) H:=bU ho hS hx hy h0 hm hi hl
theorem ky{n:Int}(hT:P.underlying T=some .string)(ho:o.op=.index T x y:=by rfl)(hx:aO E x=some (.pv (.str s)):=by rfl)(hy:aO E y=some (.pv (.int kk n)):=by rfl)(h0:0<=n:=by omega)(hm:n.toNat=m:=by exact l8 _)(hi:m<s.size:=by omega):cL P N o E H (.pv (.int .u8 (bA s m))) H:=cV ho hT hx hy h0 hm hi Z
end
section
variable{P:Program}{N:Nat}{ops rest:List Oper}{K:List Rec->cY->aF->Prop}{w:Nat×Ob}
theorem Lt(R:List Nat)(h:∀H1:aF,(∀id,tL (some R) id=true->H1.get id=H.get id)->cL P N ⟨dst,op,ty,pos,af,some (j,true)⟩ (restr E (iV ops ⟨dst,op,ty,pos,af,some (j,true)⟩)) H1 v H1)(hk:DC P N ops rest (nG E dst v) H (fun rs E' H'=>K (⟨v,some R,[]⟩::rs) E' H'))(hj:jL ops j=some t:=by rfl)(hb:E.get t=some (.pv (.bool b)):=by rfl)(hw:b=true:=by first|rfl|assumption)(hd:iZ N dst=true:=by rfl):DC P N ops (⟨dst,op,ty,pos,af,some (j,true)⟩::rest) E H K:=iF (r:=⟨v,some R,[]⟩) (Jf Z hj hb hw h) hd hk
theorem Lp(R:List Nat)(h:∀H1:aF,(∀id,tL (some R) id=true->H1.get id=H.get id)->cL P N ⟨dst,op,ty,pos,af,some (j,true)⟩ (restr E (iV ops ⟨dst,op,ty,pos,af,some (j,true)⟩)) H1 v (w::H1))(hk:DC P N ops rest (nG E dst v) (w::H) (fun rs E' H'=>K (⟨v,some R,[w]⟩::rs) E' H'))(hj:jL ops j=some t:=by rfl)(hb:E.get t=some (.pv (.bool b)):=by rfl)(hw:b=true:=by first|rfl|assumption)(hd:iZ N dst=true:=by rfl):DC P N ops (⟨dst,op,ty,pos,af,some (j,true)⟩::rest) E H K:=iF (r:=⟨v,some R,[w]⟩) (Jf Z hj hb hw h) hd hk
end
section
variable{P:Program}{N:Nat}{o:Oper}{H H1:aF}{T:TypeId}{x y:Operand}{id g i k n:Nat}{ob:Ob}{R:Option (List Nat)}{r r' cells:List AV}{rows':List (List AV)}
theorem su(hs:∀w,(sizeOf T).run P w=.ok 1 w)(h:∀id,tL R id=true->H1.get id=H.get id)(ho:o.op=.store T x y:=by rfl)(hx:aO E x=some (.ref id g i k):=by rfl)(hy:aO E y=some v:=by rfl)(hc:PO v=some [v]:=by rfl)(hm:tL R id=true:=by rfl)(hH:H.get id=some ob:=by rfl)(hg:ob.g=g:=by rfl)(hi:ob.rows[i]?=some r:=by rfl)(hk:k<r.length:=by exact r9 Z)(hr':r.set k v=r':=by rfl)(hrows:ob.rows.set i r'=rows':=by rfl):cL P N o E H1 .any ((id,⟨g,ob.sz,ob.ty,rows'⟩)::H1):=cQ ho hs hx hy hc ((h _ hm).trans hH) hg hi hk hr' hrows
theorem sx(hs:∀w,(sizeOf T).run P w=.ok n w)(h:∀id,tL R id=true->H1.get id=H.get id)(ho:o.op=.store T x y:=by rfl)(hx:aO E x=some (.ref id g i k):=by rfl)(hy:aO E y=some v:=by rfl)(hc:PO v=some cells:=by rfl)(hn:cells.length=n:=by rfl)(hm:tL R id=true:=by rfl)(hH:H.get id=some ob:=by rfl)(hg:ob.g=g:=by rfl)(hi:ob.rows[i]?=some r:=by rfl)(hk:k+n<=r.length:=by exact r9 Z)(hr':r.take k++(cells++r.drop (k+n))=r':=by rfl)(hrows:ob.rows.set i r'=rows':=by rfl):cL P N o E H1 .any ((id,⟨g,ob.sz,ob.ty,rows'⟩)::H1):=qL ho hs hx hy hc hn ((h _ hm).trans hH) hg hi hk hr' hrows
theorem sa(hs:∀w,(sizeOf T).run P w=.ok n w)(h:∀id,tL R id=true->H1.get id=H.get id)(ho:o.op=.store T x y:=by rfl)(hx:aO E x=some (.ref id g 0 0):=by rfl)(hy:aO E y=some v:=by rfl)(hc:PO v=some cells:=by rfl)(hn:cells.length=n:=by rfl)(hm:tL R id=true:=by rfl)(hH:H.get id=some ob:=by rfl)(hg:ob.g=g:=by rfl)(hi:ob.rows=[r]:=by rfl)(hk:r.length=n:=by rfl):cL P N o E H1 .any ((id,⟨g,ob.sz,ob.ty,[cells]⟩)::H1):=lQ ho hs hx hy hc hn ((h _ hm).trans hH) hg hi hk
end
section
variable{P:Program}{G0:aF}{N:Nat}{H H2:aF}{Q:Exit->cY->aF->Prop}
theorem O(h:cL P N ⟨some d,op,ty,pos,af,none⟩ E H v H2)(hk:K ((d,v)::E) H2)(hn:Nat.blt d N=true:=by rfl):AL P G0 N ops K [⟨some d,op,ty,pos,af,none⟩] E H:=Y h (Zz hk) hn
theorem C(h:cL P N ⟨some d,op,ty,pos,af,none⟩ E H v H2)(hk:AL P G0 N ⟨⟨some d,op,ty,pos,af,none⟩::rest⟩ (fun E H=>yP (fZ P G0 N y Q) Q .normal E H) rest ((d,v)::E) H2)(hn:Nat.blt d N=true:=by rfl):fZ P G0 N (.seq (.region id ⟨⟨some d,op,ty,pos,af,none⟩::rest⟩ false) y) Q E H:=Sr (Y h hk hn)
theorem Sz(h:cL P N ⟨some d,op,ty,pos,af,none⟩ E H v H2)(hk:yP (fZ P G0 N y Q) Q .normal ((d,v)::E) H2)(hn:Nat.blt d N=true:=by rfl):fZ P G0 N (.seq (.region id ⟨[⟨some d,op,ty,pos,af,none⟩]⟩ false) y) Q E H:=Sr (Y h (Zz hk) hn)
theorem Rd(h:cL P N ⟨some d,op,ty,pos,af,none⟩ E H v H2)(hk:AL P G0 N ⟨⟨some d,op,ty,pos,af,none⟩::rest⟩ (fun E H=>Q .normal E H) rest ((d,v)::E) H2)(hn:Nat.blt d N=true:=by rfl):fZ P G0 N (.region id ⟨⟨some d,op,ty,pos,af,none⟩::rest⟩ false) Q E H:=Rg (Y h hk hn)
end
end
def Kh:PV->Bool
 |.int _ _=>true
 |.bool _=>true
 |.str _=>true
 |_=>false
theorem PRep.flat{w w'}{I b}{v}{p}(h:PRep w I v p)(a:Kh p=true):PRep w' b v p:=by cases h<;>first|(constructor;done)|(simp[Kh]at a)
def RO(P:Program)(f:FuncId)(args:List AV)(H:aF)(p:PV):Prop :=∀(I:Nat->Prop) (ι:lP) (w:World) (vs:Array Value),Rel I ι H w->vs.size=args.length->(∀(i:Nat) (v:Value) (a:AV),vs[i]?=some v->args[i]?=some a->VRel w I ι H v a) ->
  Calls P f vs w fun e w'=>∃v,e=.returned v/\(∀w2 I2,PRep w2 I2 v p)/\w'.os=w.os/\w'.tape=w.tape/\w'.output=w.output/\w.heap.size<=w'.heap.size /\
   (∀a,a.block<w.heap.size->w'.frozen? a=w.frozen? a)/\∀b,b<w.heap.size->w'.heap[b]?=w.heap[b]?
theorem RO.of{P}{f}{args}{p}(h:aS P f args [] (fun r H=>r=.pv p/\H=[]))(m:Kh p=true):RO P f args [] p:=by
 intro I o w vs l j i;refine(h I _ w _ l j i).mono ?_;rintro e w' ⟨r,H',I',ι',v,rfl,⟨rfl,rfl⟩,q,k2,c⟩;have d:∀b,¬ NF o [] b:=fun b ⟨_,_,_,k,_⟩=>by cases k
 exact⟨v,Z,fun w2 I2=>q.pv_inv.flat m,c.os,c.tape,c.output,c.size,fun a n=>c.froz a n (d _),fun b g=>c.keep b g (d b)⟩
theorem RO.lend{P}{f}{args args'}{p}{H H1}{id}{ob}(ps)(h:RO P f args' H1 p)(g:H.get id=some ob)(c:ob.rows=ps.map (·.map .pv))(hl:args.length=args'.length)
  (m:∀(i:Nat) (a a'),args[i]?=some a->args'[i]?=some a'->Fz H1 id ob.g ps a a') (j:Sub H1 H) (o:dD H1) (e:H1.get id=none):RO P f args H p:=by
 intro I ι w vs k hlen n;refine h _ _ w _ (k.freeze j o g e) X ?_;intro i v a' l b;have d:i<args.length:=by
  have:=(m_.1 b).1;omega
 exact VRel.freeze k j g c (m i _ _ (m8 d) b) (n i v _ l (m8 _))
theorem RO.calls{P}{f}{args}{p}{H}(h:RO P f args H p):aS P f args H (fun r H'=>r=.pv p/\H'=H):=by
 intro I n w vs d z k;refine(h I _ w _ d z k).mono ?_;rintro e w' ⟨v,rfl,y,u,t,x,l,q,m⟩;have c:Step I _ H w I n H _ :=
  ⟨u,t,x,l,fun a s _=>q a s,fun _ h=>h,fun _ h=>.inl h,fun _ h=>.inl h,fun b j _=>m b j,fun id o i=>⟨o,i,j6 _,fun _=>⟨Z,Z,fun _=>j6 _⟩⟩⟩
 refine⟨.pv p,H,I,n,v,Z,⟨Z,Z⟩,.pv (y _ _),?_,c⟩;refine⟨fun b j=>Nat.lt_of_lt_of_le (d.imm b j) l,fun id o i=>?_,d.inj,c.glob d⟩;exact(d.obj _ o i).keep Z (fun b' _ _ g=>⟨m _ g,fun h=>h⟩) (fun r _ a _ v k=>k.mono d c)
theorem fR{P}{G0}{N}{Q}{E}{H}{h}(f_:α->β->cY×aF)(c_:α->β->Prop)(g:α->β->Nat)(e)(c)(i:c_ e c)(f:cJ G0 E H (f_ e c).1 (f_ e c).2)
  (round:∀a b,c_ a b->fZ P G0 N h (yP (fun E' H'=>∃a' d,c_ a' d/\g a' d<g a b/\cJ G0 E' H' (f_ a' d).1 (f_ a' d).2) Q) (f_ a b).1 (f_ a b).2):fZ P G0 N (.loop h) Q E H:=by
 refine bC (fun s=>f_ s.1 s.2) (fun s=>c_ s.1 s.2) (fun s=>g s.1 s.2) (e,c) i f ?_
 simp_all
theorem BX{P}{G0}{N}{Q}{E}{H}{j}(f_:α->β->γ->cY×aF)(c_:α->β->γ->Prop)(h:α->β->γ->Nat)(f)(d)(g)(k:c_ f d g)(i:cJ G0 E H (f_ f d g).1 (f_ f d g).2)
  (round:∀a b c,c_ a b c->fZ P G0 N j (yP (fun E' H'=>∃a' e c',c_ a' e c'/\h a' e c'<h a b c/\cJ G0 E' H' (f_ a' e c').1 (f_ a' e c').2) Q) (f_ a b c).1 (f_ a b c).2):fZ P G0 N (.loop j) Q E H:=by
 refine bC (fun s=>f_ s.1 s.2.1 s.2.2) (fun s=>c_ s.1 s.2.1 s.2.2) (fun s=>h s.1 s.2.1 s.2.2) (f,d,g) k i ?_
 simp_all
theorem XC{P}{G0}{N}{Q}{E}{H}{l}{δ:Type}(f_:α->β->γ->δ->cY×aF)(c_:α->β->γ->δ->Prop)(j:α->β->γ->δ->Nat)(h)(e)(i)(f)(m:c_ h e i f)(k:cJ G0 E H (f_ h e i f).1 (f_ h e i f).2)
  (round:∀a b c d,c_ a b c d->fZ P G0 N l (yP (fun E' H'=>∃a' g c' d',c_ a' g c' d'/\j a' g c' d'<j a b c d/\cJ G0 E' H' (f_ a' g c' d').1 (f_ a' g c' d').2) Q) (f_ a b c d).1 (f_ a b c d).2):fZ P G0 N (.loop l) Q E H:=by
 refine bC (fun s=>f_ s.1 s.2.1 s.2.2.1 s.2.2.2) (fun s=>c_ s.1 s.2.1 s.2.2.1 s.2.2.2) (fun s=>j s.1 s.2.1 s.2.2.1 s.2.2.2) (h,e,i,f) m k ?_
 simp_all
theorem ZE(f:α->List _)(l:List _)(H):∀r∈l.map (fun e=>(f e).map AV.pv),∀a∈r,Clo H a:=H_
theorem kT{H}{id g}{ps}:∀(i:Nat) (a a'),[][i]?=some a->[][i]?=some a'->Fz H id g ps a a':=fun i a a' h=>by simp
theorem bG{H}{id g}{ps}{x d}{l e}(h:Fz H id g ps x d)(f:∀(i:Nat) (a a'),l[i]?=some a->e[i]?=some a'->Fz H id g ps a a'):
  ∀(i:Nat) (a a'),(x::l)[i]?=some a->(d::e)[i]?=some a'->Fz H id g ps a a'
 |0,a,a',c,b=>by cases c;cases b;exact h
 |i+1,a,a',c,b=>f i a _ c b
inductive Nz(H':aF)(id:Nat):AV->AV->Prop
 |same {a:AV} (h:Clo H' a):Nz H' id a a
 |own:Nz H' id (.pv .nils) (.osl id 0 0 0)
 |weak:Nz H' id (.pv .nils) (.pv (.sl []))
 |agg {cs cs':List AV} (hl:cs.length=cs'.length) (h:∀(i:Nat) (a a':AV),cs[i]?=some a->cs'[i]?=some a'->Nz H' id a a'):Nz H' id (.agg cs) (.agg cs')
 |tup {cs cs':List AV} (hl:cs.length=cs'.length) (h:∀(i:Nat) (a a':AV),cs[i]?=some a->cs'[i]?=some a'->Nz H' id a a'):Nz H' id (.tup cs) (.tup cs')
def vv(H H':aF):Prop:=∀j o',H'.get j=some o'->∃o,H.get j=some o/\o.g=o'.g/\o.sz=o'.sz/\o.ty=o'.ty/\o.rows.length=o'.rows.length
theorem VRel.alike{w:World}{I:Nat->Prop}{ι:lP}(r:vv H H'){v:Value}{a:AV}(h:VRel w I ι H v a):Clo H' a->VRel w I ι H' v a:=by
 induction h with
 |any v=>exact fun _=>.any v
 |pv h=>exact fun _=>.pv h
 |ref o k x j h =>
  intro d;rw[DA]at d;obtain ⟨g,c⟩:=Option.isSome_iff_exists.1 d;obtain ⟨t,f,s,q,u,y⟩:=r _ g c;rw[k]at f;cases f;exact .ref g c X j (fun e=>by simp_all)
 |pad b d_ B G h A z F E d D=>exact fun _=>.pad b d_ B G h A z F E d D
 |osl o k x j h =>
  intro d;rw[Va]at d;obtain ⟨g,c⟩:=Option.isSome_iff_exists.1 d;obtain ⟨t,f,s,q,u,y⟩:=r _ g c;rw[k]at f;cases f;exact .osl g c X j (fun e=>by simp_all)
 |clo p h m =>
  intro d;rw[Vc]at d;exact .clo p (fun i v a n l=>m i v a n l (d a (m7 l)))
 |bnd p h m =>
  intro d;rw[Vd]at d;exact .bnd p (fun i v a n l=>m i v a n l (d a (m7 l)))
 |agg p j h m =>
  intro d;rw[ZF]at d;exact .agg p j (fun i v a n l=>m i v a n l (d a (m7 l)))
 |tup p h m =>
  intro d;rw[Uy]at d;exact .tup p (fun i v a n l=>m i v a n l (d a (m7 l)))
 |mp o k x j h =>
  intro d;rw[aAi]at d;obtain ⟨g,c⟩:=Option.isSome_iff_exists.1 d;obtain ⟨t,f,s,q,u,y⟩:=r _ g c;rw[k]at f;cases f;exact .mp g c X j (fun e=>by simp_all)
 |it o k x j h =>
  intro d;rw[aAj]at d;obtain ⟨g,c⟩:=Option.isSome_iff_exists.1 d;obtain ⟨t,f,s,q,u,y⟩:=r _ g c;rw[k]at f;cases f;exact .it g c X j (fun e=>by simp_all)
 |yld o k x j h =>
  intro d;rw[Ux]at d;obtain ⟨g,c⟩:=Option.isSome_iff_exists.1 d;obtain ⟨t,f,s,q,u,y⟩:=r _ g c;rw[k]at f;cases f;exact .yld g c X j (fun e=>by simp_all)
 |osc o k x j h =>
  intro d;rw[Vb]at d;obtain ⟨g,c⟩:=Option.isSome_iff_exists.1 d;obtain ⟨t,f,s,q,u,y⟩:=r _ g c;rw[k]at f;cases f;exact .osc g c X j (fun e=>by rw[<-q];exact h X)
theorem Nz.raw{H'}{id}{a a'}(h:Nz H' id a a'){y}{b}(e:a'=.raw y b):a=.raw y b:=by cases h<;>first|exact e|cases e
theorem VRel.nz{w}{I}{ι}{H H'}{id}{ob:Ob}(t:vv H H')(l:ι id=none)(g:H'.get id=some ob)(hg:ob.g=0)(e:0<ob.sz){a a'}(s:Nz H' id a a'):∀ {v},VRel w I ι H v a->VRel w I ι H' v a':=by
 induction s with
 |same h=>exact fun c=>c.alike t h
 |own =>
  intro v c;have:=c.pv_inv;cases this;exact .osl ob g X Z (fun _=>⟨e,X,.inr ⟨l,Z,Z,Z⟩⟩)
 |weak =>
  intro v c;have:=c.pv_inv;cases this;exact .pv .nilsl
 | @agg j n o h k =>
  intro v c;cases c with
  |agg d x q =>
   refine .agg (d.trans o) x (fun i u a' m b=>?_);have f:=List.getElem?_eq_getElem (l:=j) (i:=i) (by have:=(m_.1 b).1;omega);exact k i _ a' f b (q i u _ m f)
 | @tup j n o h k =>
  intro v c;cases c with
  |tup d q =>
   refine .tup (d.trans o) (fun i u a' m b=>?_);have f:=List.getElem?_eq_getElem (l:=j) (i:=i) (by have:=(m_.1 b).1;omega);exact k i _ a' f b (q i u _ m f)
def NzL(H:aF)(id:Nat):List AV->List AV->Prop
 | [],[]=>True
 |a::l,b::r=>Nz H id a b/\NzL H id l r
 |_,_=>False
theorem NzL.spec{H}{id}:∀ {l r},NzL H id l r->l.length=r.length/\∀(k:Nat) (a b),l[k]?=some a->r[k]?=some b->Nz H id a b
 | [],[],_=>⟨Z,fun k a b h=>by grind⟩
 | a::l,b::r,h=>⟨by simp [(NzL.spec h.2).1],fun k x y c d=>by
   cases k with
   |zero=>cases c;cases d;exact h.1
   |succ k=>exact(NzL.spec h.2).2 k x y c d⟩
 | [],_::_,h=>h.elim
 |_::_,[],h=>h.elim
def NzR(H:aF)(id:Nat)(rows rows':List (List AV)):Prop:=(rows=rows'/\∀r∈rows',∀a∈r,Clo H a)\/∃r r',rows=[r]/\rows'=[r']/\NzL H id r r'
theorem NzR.spec{H}{rows rows'}(h:NzR H id rows rows'):rows.length=rows'.length/\∀(i:Nat) (r'),rows'[i]?=some r'->∃r,rows[i]?=some r/\r.length=r'.length/\∀(k:Nat) (b:AV),r'[k]?=some b->∃a,r[k]?=some a/\Nz H id a b:=by
 rcases h with⟨rfl,f⟩|⟨r,r',rfl,rfl,e⟩
 ·exact⟨Z,fun i r' c=>⟨r',c,Z,fun k b d=>⟨b,d,.same (f r' (m7 c) b (m7 d))⟩⟩⟩
 refine⟨Z,fun i r2 c=>?_⟩;cases i with
 |zero =>
  obtain ⟨e1,e2⟩:=e.spec
  grind
 |succ i=>grind
def NzE(E:cY)(H:aF)(id:Nat):cY->Prop
 | []=>True
 |(t,v)::r=>(∃v0,E.get t=some v0/\Nz H id v0 v)/\NzE E H id r
theorem NzE.spec{E}{H}{id}:∀ {E'},NzE E H id E'->∀p∈E',∃v0,E.get p.1=some v0/\Nz H id v0 p.2
 |(t,v)::r,h,p,a=>by
  rcases l7.1 a with e|e
  ·subst e;exact h.1
  exact NzE.spec h.2 p e
def NzH(H H2:aF)(id:Nat):aF->Prop
 | []=>True
 |(j,o')::r=>(∃o,H.get j=some o/\o.g=o'.g/\o.sz=o'.sz/\o.ty=o'.ty/\NzR H2 id o.rows o'.rows)/\NzH H H2 id r
theorem NzH.spec{H H2}{id}:∀ {H'},NzH H H2 id H'->∀p∈H',∃o,H.get p.1=some o/\o.g=p.2.g/\o.sz=p.2.sz/\o.ty=p.2.ty/\NzR H2 id o.rows p.2.rows
 |(j,o')::r,h,p,a=>by
  rcases l7.1 a with e|e
  ·subst e;exact h.1
  exact NzH.spec h.2 p e
theorem cJ.nz{G0:aF}{E':cY}(id sz ty:Nat)(P:H.get id=none)(hsz:Nat.blt 0 sz=true)(hE:NzE E ((id,⟨0,sz,ty,[]⟩)::H') id E')(hH:NzH H ((id,⟨0,sz,ty,[]⟩)::H') id H')(hk:Bz ((id,⟨0,sz,ty,[]⟩)::H') H G0):
  cJ G0 E H E' ((id,⟨0,sz,ty,[]⟩)::H'):=by
 intro G hG N a w A_;obtain ⟨I,ι,hr,d_,he⟩:=A_.rel;obtain ⟨B,R⟩:=hr.adopt (sz:=sz) (ty:=ty) P F_;have c_:0<sz:=F_
 obtain ⟨f,K⟩:∃f:lP,f=(fun j=>if j=id then none else ι j):=X_;rw[<-K]at B R;have n:f id=none:=F_
 obtain ⟨x,s⟩:∃x:aF,x=(id,(⟨0,sz,ty,[]⟩:Ob))::H:=X_;obtain ⟨q,A⟩:∃q:aF,q=(id,(⟨0,sz,ty,[]⟩:Ob))::H':=X_;rw[<-s]at B R;rw[<-A]at hE hH hk |-;have g1:x.get id=some ⟨0,sz,ty,[]⟩:=by rw[s];simp[aF.get]
 have g2:q.get id=some ⟨0,sz,ty,[]⟩:=by rw[A];simp[aF.get]
 have n1:∀j,j≠id->x.get j=H.get j:=fun j e=>by rw[s];simp[aF.get,jP (Ne.symm e)]
 have n2:∀j,j≠id->q.get j=H'.get j:=fun j e=>by rw[A];simp[aF.get,jP (Ne.symm e)]
 have g:∀j l,q.get j=some l->∃o,x.get j=some o/\o.g=l.g/\o.sz=l.sz/\o.ty=l.ty/\NzR q id o.rows l.rows:=by
  intro j l p;by_cases e:j=id
  ·subst e;rw[g2]at p;cases p;exact⟨_,g1,Z,Z,Z,.inl ⟨Z,H_⟩⟩
  rw[n2 j e]at p;obtain ⟨o,m,u⟩:=hH.spec _ (dX p)
  simp_all
 have L:vv x q:=fun j l p=>by
  obtain ⟨o,m,u,e3,e4,e5⟩:=g j l p;exact⟨o,m,u,e3,e4,e5.spec.1⟩
 have Q:∀b,NF f q b->NF f x b:=by
  rintro b ⟨j,l,c,p,T⟩;obtain ⟨o,m,_⟩:=g j l p;exact⟨j,o,c,m,T⟩
 have D:Rel I f q w:=by
  refine⟨B.imm,fun j l p=>?_,fun j j' o l b c c' e_ y_=>?_,B.glob⟩
  ·obtain ⟨o,m,u,e3,e4,e5⟩:=g j l p;obtain ⟨s1,s2⟩:=e5.spec;refine(B.obj j o m).keepG e3.symm e4.symm s1.symm (bq s1 (fun i r' hi=>by
    obtain ⟨r,t1,t2,u_⟩:=s2 i r' hi;refine⟨r,t1,t2,fun k a z_ h1 h2 y ts e=>?_⟩;obtain ⟨z,F,u2⟩:=u_ k z_ h2;rw[h1]at F;cases F;exact u2.raw e)) Z (fun _ _ _ _=>⟨Z,fun h=>h⟩) (fun i r' hi=>?_)
   obtain ⟨r,t1,t2,u_⟩:=s2 i r' hi;refine⟨r,t1,t2,fun k a z_ h1 h2 v f_=>?_⟩;obtain ⟨y,F,u2⟩:=u_ k z_ h2;rw[h1]at F;cases F;exact VRel.nz L n g2 Z c_ u2 f_
  obtain ⟨v_,m,_⟩:=g j o e_;obtain ⟨o2,u,_⟩:=g j' l y_;exact B.inj j j' v_ o2 b c c' m u
 have d:=d_.trans R;have o_:Step G.I G.ι G.H G.w I f q w:=by
  refine⟨d.os,d.tape,d.output,d.size,d.froz,d.imm,d.immNew,fun b T=>d.own b (Q b T),d.keep,fun j o e_=>?_⟩;obtain ⟨v_,m,u⟩:=d.objs j o e_;subst hG;have W:=hk.kept j (by rw[e_];rfl);by_cases e:j=id
  ·subst e;obtain ⟨o0,e0,_⟩:=d_.objs j o e_;rw[P]at e0;cases e0
  rw[n1 j e]at m;exact⟨v_,W.trans m,u⟩
 refine⟨A_.defers,A_.size,I,f,D,o_,fun t v f_=>?_⟩;obtain ⟨v0,f1,f2⟩:=hE.spec _ (iJ f_);obtain ⟨c,c1,c2⟩:=he t v0 f1;exact⟨c,c1,VRel.nz L n g2 Z c_ f2 (c2.mono hr R)⟩
class W_(H:aF)(R:List (List AV)):Prop where o:∀r∈R,∀a∈r,Clo H a
theorem L_{G0 H H':aF}{E E':cY}(hE:Ca E H' E':=by repeat' first|exact trivial|refine⟨⟨_,rfl,rfl⟩,?_,?_⟩|(simp;done)|(simp;rfl)|(simp;exact⟨rfl,rfl⟩))(hH:Z0 H H' H':=by repeat' first|exact trivial|refine⟨⟨_,rfl,rfl⟩,?_,?_⟩|exact W_.o|(dsimp only;exact W_.o)|(simp;done)|(simp;rfl)|(simp;exact⟨rfl,rfl⟩)|(simp;exact⟨rfl,rfl,rfl⟩)|(simp;exact⟨rfl,rfl,rfl,rfl⟩)|(simp;exact⟨rfl,rfl,rfl,rfl,rfl⟩))(hk:Bz H' H G0:=by repeat' first|exact trivial|refine⟨rfl,?_⟩):cJ G0 E H E' H':=cJ.wk hE hH hk
theorem P_{G0 H H':aF}{r:AV}(c:Clo H' r:=by first|(simp;done)|(simp;rfl))(hH:Z0 H H' H':=by repeat' first|exact trivial|refine⟨⟨_,rfl,rfl⟩,?_,?_⟩|exact W_.o|(dsimp only;exact W_.o)|(simp;done)|(simp;rfl)|(simp;exact⟨rfl,rfl⟩)|(simp;exact⟨rfl,rfl,rfl⟩)|(simp;exact⟨rfl,rfl,rfl,rfl⟩)|(simp;exact⟨rfl,rfl,rfl,rfl,rfl⟩))(hk:Bz H' H G0:=by repeat' first|exact trivial|refine⟨rfl,?_⟩):Fin G0 H r H' r:=Fin.wk c hH hk
theorem Q_{G0 H H':aF}{E E':cY}(id sz ty:Nat)(P:H.get id=none:=by rfl)(hsz:Nat.blt 0 sz=true:=by rfl)(hE:NzE E ((id,⟨0,sz,ty,[]⟩)::H') id E':=by repeat' first|exact trivial|refine⟨⟨_,rfl,(by first|exact Nz.own|exact Nz.same (by first|(simp;done)|(simp;rfl)|(simp;exact⟨rfl,rfl⟩)|(simp;exact⟨rfl,rfl,rfl⟩)))⟩,?_⟩)(hH:NzH H ((id,⟨0,sz,ty,[]⟩)::H') id H':=by repeat' first|exact trivial|refine⟨⟨_,rfl,rfl,rfl,rfl,(by first|exact .inl ⟨rfl,(by first|exact W_.o|(dsimp only;exact W_.o)|(simp;done)|(simp;rfl)|(simp;exact⟨rfl,rfl⟩)|(simp;exact⟨rfl,rfl,rfl⟩)|(simp;exact⟨rfl,rfl,rfl,rfl⟩)|(simp;exact⟨rfl,rfl,rfl,rfl,rfl⟩))⟩|exact .inr ⟨_,_,rfl,rfl,(by repeat' first|exact trivial|refine⟨(by first|exact Nz.own|exact Nz.same (by first|(simp;done)|(simp;rfl)|(simp;exact⟨rfl,rfl⟩)|(simp;exact⟨rfl,rfl,rfl⟩))),?_⟩)⟩)⟩,?_⟩)(hk:Bz ((id,⟨0,sz,ty,[]⟩)::H') H G0:=by repeat' first|exact trivial|refine⟨rfl,?_⟩):cJ G0 E H E' ((id,⟨0,sz,ty,[]⟩)::H'):=cJ.nz id sz ty P hsz hE hH hk
end Go.Abs
namespace Go.Abs
open Go.Proofs.YtopnleflllkbmaaGreatDoor
section
theorem Lf{H}(d:DataW H):1<=Rows.uptoBulk d:=by
 cases d with
 |lit l=>cases l<;>simp[Rows.uptoBulk]
 |_=>simp[Rows.uptoBulk]
theorem Lg{H}{d:DataW H}{l}(h:d∈l):Rows.uptoBulk d<=Rows.uptoBulkAll l:=by
 induction l with
 |nil=>cases h
 |cons x r ih =>
  simp[Rows.uptoBulkAll]
  grind
theorem Lh{H}(l:List (DataW H)):l.length<=Rows.uptoBulkAll l:=by
 induction l with
 |nil=>simp
 |cons x r ih=>have:=Lf x;simp[Rows.uptoBulkAll,j8];omega
inductive PL(w:World)(I:Nat->Prop):List Value->List PV->Prop
 |nil:PL w I [] []
 |cons {c:Value} {p:PV} {cs:List Value} {ps:List PV} (h:PRep w I c p) (r:PL w I cs ps):PL w I (c::cs) (p::ps)
theorem PL.length{w}{I}{cs}{ps}(h:PL w I cs ps):cs.length=ps.length:=by
 induction h with
 |nil=>rfl
 |cons h r ih=>grind
theorem PL.append{w}{I}{cs cs'}{ps a}(h:PL w I cs ps)(b:PL w I cs' a):PL w I (cs++cs') (ps++a):=by
 induction h with
 |nil=>exact b
 |cons h r c=>exact .cons h c
theorem PL.get{w}{I}{cs}{ps}(h:PL w I cs ps):∀(k:Nat) (c) (p),cs[k]?=some c->ps[k]?=some p->PRep w I c p:=by
 induction h with
 |nil=>simp_all
 |cons h r ih =>
  grind
def IP(P:Program):Nat->List Field->Nat->Bool
 |o,[],n=>Nat.beq o n
 |o,f::r,n=>Nat.beq f.offset o&&IP P (o+P.cellsOf f.type) r n
def N2(P:Program)(e:TypeId):Nat->Nat->List Field
 |_,0=>[]
 |o,k+1=>⟨"",e,o,false, "", "",0⟩::N2 P e (o+P.cellsOf e) k
theorem NB{P}{e}:∀ {o k},(N2 P e o k).length=k
 |_,0=>rfl
 |o,k+1=>congrArg _ (NB)
theorem XG{P}{e}:∀ {k o i} {f},(N2 P e o k)[i]?=some f->f.type=e/\f.offset=o+i*P.cellsOf e
 |0,o,i,f,h=>by cases h
 |k+1,o,0,f,h=>by
  obtain rfl:=Option.some.inj h
  simp_all
 |k+1,o,i+1,f,h=>by
  have:=XG (show (N2 P e _ k)[i]?=some f from h)
  grind
def DL(P:Program):Nat->TypeId->Bool
 |0,_=>false
 |n+1,t=>match P.underlying t with
  |some .bool=>true
  |some (.int _)=>true
  |some .string=>true
  |some (.slice e)=>DL P n e&&Nat.blt 0 (P.cellsOf e)
  |some (.struct fs)=>IP P 0 fs.toList (P.cellsOf t)&&fs.toList.all fun f=>DL P n f.type
  |some (.array k e)=>IP P 0 (N2 P e 0 k) (P.cellsOf t)&&(N2 P e 0 k).all fun f=>DL P n f.type
  |_=>false
def ShF(f_:TypeId->List PV->Prop)(c:TypeId->Nat):List Field->List PV->Prop
 | [],ps=>ps=[]
 |f::r,ps=>∃a b,ps=a++b/\a.length=c f.type/\f_ f.type a/\ShF f_ c r b
def Sh(P:Program)(B:Nat):Nat->TypeId->List PV->Prop
 |0,_,_=>False
 |n+1,t,ps=>match P.underlying t with
  |some .bool=>∃b,ps=[.bool b]
  |some (.int k)=>∃i,ps=[.int k i]/\(Lit.int k i).wf=true
  |some .string=>∃s,ps=[.str s]/\s.size<=B
  |some (.slice e)=>∃rows,ps=[.sl rows]/\rows.length<=B/\∀r∈rows,r.length=P.cellsOf e/\Sh P B n e r
  |some (.struct fs)=>ShF (fun t ps=>Sh P B n t ps) P.cellsOf fs.toList ps
  |some (.array k e)=>ShF (fun t ps=>Sh P B n t ps) P.cellsOf (N2 P e 0 k) ps
  |_=>False
abbrev vq(W:World):Nat->Prop:=fun b=>b<W.heap.size
theorem Ie{W}{a}{v}(h:W.cell? a=some v):a.spot=none/\vq W a.block:=by
 unfold World.cell? at h
 split at h
 ·next c t fr e =>
  refine⟨?_,(Array.getElem?_eq_some_iff.1 e).1⟩
  simp_all
 grind
section
variable{H:Type}{enc:TypeId×Value->H}{P:Program}{W:World}{B:Nat}
theorem W2{P}:∀ {fs} {o n},IP P o fs n=true->o<=n
 | [],o,n,h=>Nat.le_of_eq (Nat.eq_of_beq_eq_true h)
 |f::fs,o,n,h=>by
  simp[IP,j0]at h;have:=W2 h.2;omega
theorem MZ{m n:Nat}{cs:List Value}(p:∀(t:TypeId) (cs:List Value) (x),DL P n t=true->DataW.trod enc P W 0 (fun _=>true) true m t cs=some x->Rows.uptoBulk x.1<=B->∃ps,PL W (vq W) cs ps/\Sh P B n t ps):
  ∀(fs:List Field) (xs:List _) (o:Nat),IP P o fs cs.length=true->(fs.all fun f=>DL P n f.type)=true->xs.length=fs.length ->
   (∀(i:Nat) (f:Field),fs[i]?=some f->DataW.trod enc P W 0 (fun _=>true) true m f.type ((cs.drop f.offset).take (P.cellsOf f.type))=xs[i]?)->Rows.uptoBulkAll (xs.map (·.1))<=B ->
   ∃ps,PL W (vq W) (cs.drop o) ps/\ShF (fun t ps=>Sh P B n t ps) P.cellsOf fs ps
 | [],xs,o,c,_,l,d,j=>by
  have:o=cs.length:=Nat.eq_of_beq_eq_true c;subst this;exact⟨[],by rw[List.drop_length];exact .nil,Z⟩
 |f::fs,[],o,c,_,l,d,j=>by grind
 | f::fs,x::xs,o,c,e,l,d,j=>by
  simp only[IP,j0]at c;have r:f.offset=o:=Nat.eq_of_beq_eq_true c.1;simp only[List.all_cons,j0]at e;simp only[List.map_cons,Rows.uptoBulkAll]at j;have k:=d 0 f Z;rw[r]at k;obtain ⟨a,q,s⟩:=p f.type _ x e.1 k X;obtain ⟨b,w,u⟩:=MZ p fs xs (o+P.cellsOf f.type) c.2 e.2 F_ (fun i g v=>d (i+1) g v) X;have hle:=W2 c.2;have h:a.length=P.cellsOf f.type:=by
   rw[<-q.length,q8,q6];omega
  refine⟨a++b,?_,a,b,Z,h,s,u⟩;have:=q.append w
  rwa [<-List.drop_drop,List.take_append_drop]at this
theorem OM:∀(n:Nat) (t:TypeId),DL P n t=true->∀(m:Nat) (cs:List Value) (x:DataW H×List MemPlace),DataW.trod enc P W 0 (fun _=>true) true m t cs=some x->Rows.uptoBulk x.1<=B->∃ps,PL W (vq W) cs ps/\Sh P B n t ps
 |0,t,y,m,cs,x,h,R=>by cases y
 | n + 1, t, y, m, cs, x, h, R => by
  unfold DL at y
  split at y
  ·next j =>
   obtain ⟨b,rfl,rfl⟩:=DataW.trod_bool j h;exact⟨[.bool b],.cons (.bool b) .nil,by unfold Sh;rw[j];exact⟨b,Z⟩⟩
  ·next k j =>
   obtain ⟨i,rfl,rfl,hw⟩:=DataW.trod_int j h;exact⟨[.int k i],.cons (.int k i) .nil,by unfold Sh;rw[j];exact⟨i,Z,hw⟩⟩
  ·next j =>
   obtain ⟨s,rfl,rfl,hs⟩:=DataW.trod_string j h;have d_:s.size<=B:=by
    have z_:s.data.toList.length=s.size:=Array.length_toList;simp only[Rows.uptoBulk]at R;omega
   exact⟨[.str s],.cons (.str s) .nil,by unfold Sh;rw[j];exact⟨s,Z,d_⟩⟩
  ·next e j =>
   simp only[j0,Nat.blt_eq]at y;obtain ⟨hpe,d_⟩:=y;rcases DataW.trod_slice j h with⟨rfl,rfl⟩|⟨a,u,f_,g,v_,K,rfl,rfl,rfl,_,hlc,hmax,hlen,T,N,_⟩
   ·exact⟨[.sl []],.cons .nilsl .nil,by unfold Sh;rw[j];exact⟨[],Z,H_,H_⟩⟩
   obtain ⟨hrl,N⟩:=N Z;simp only[Rows.uptoBulk]at R;rcases Nat.eq_zero_or_pos f_ with hc0|hcpos
   ·have I:u=0:=X
    subst I hc0;exact⟨[.sl []],.cons (.empsl a) .nil,by unfold Sh;rw[j];exact⟨[],Z,H_,H_⟩⟩
   have e_:∃v,W.cell? a=some v:=by
    rcases Nat.eq_zero_or_pos u with I|hlp
    ·subst I;have G:=N 0 X;have E:=List.getElem?_eq_getElem (l:=v_) (i:=0) X;rw[E,Option.bind_eq_some_iff]at G;obtain ⟨c0,u_,_⟩:=G;obtain ⟨_,q2,q3⟩:=World.cells?_some u_;have:=q3 0 d_;simp only[Nat.add_zero,Nat.zero_mul]at this;rw[Addr.add_zero',Addr.add_zero',m8 X]at this;exact⟨_,this⟩
    have G:=T 0 hlp;have E:=List.getElem?_eq_getElem (l:=g) (i:=0) X;rw[E,Option.bind_eq_some_iff]at G;obtain ⟨c0,u_,_⟩:=G;obtain ⟨_,q2,q3⟩:=World.cells?_some u_;have:=q3 0 d_;simp only[Nat.zero_mul]at this;rw[Addr.add_zero',Addr.add_zero',m8 X]at this;exact⟨_,this⟩
   obtain ⟨v0,hv0⟩:=e_;obtain ⟨A,F⟩:=Ie hv0;obtain ⟨b,z,sp⟩:=a;simp only at A F;subst A;have Q:∀i,i<u->∃ps:List PV,∃w,W.cells? 0 (Addr.add ⟨b,z,none⟩ (i*P.cellsOf e)) (P.cellsOf e)=some w/\PL W (vq W) w ps/\Sh P B n e ps:=by
    intro i D;have G:=T i D;have E:=List.getElem?_eq_getElem (l:=g) (i:=i) X;rw[E,Option.bind_eq_some_iff]at G;obtain ⟨w,u_,q2⟩:=G;have hbi:Rows.uptoBulk (g[i]' X).1<=B:=by
     have:=Lg (List.mem_map_of_mem (f:=fun x:DataW H×List MemPlace=>x.1) (List.getElem_mem (l:=g) (n:=i) X));omega
    obtain ⟨ps,s1,s2⟩:=OM n e hpe K w _ q2 hbi;exact⟨ps,w,u_,s1,s2⟩
   obtain ⟨d,r1,r2⟩:∃d:List (List PV),d.length=u/\∀i r,d[i]?=some r->∃w,W.cells? 0 (Addr.add ⟨b,z,none⟩ (i*P.cellsOf e)) (P.cellsOf e)=some w/\PL W (vq W) w r/\Sh P B n e r:=by
    refine⟨(List.range u).map (fun i=>if h:i<u then(Q i h).choose else[]),H_,fun i r q=>?_⟩
    grind
   have L:∀(i:Nat) (r:List PV),d[i]?=some r->r.length=P.cellsOf e:=fun i r q=>by
    obtain ⟨w,y_,A_,c3⟩:=r2 i r q;rw[<-A_.length];exact(World.cells?_some y_).2.1
   refine⟨[.sl d],.cons ?_ .nil,by
    unfold Sh;rw[j];refine⟨d,Z,?_,fun r q=>?_⟩
    ·have:=Lh (g.map (·.1));simp only[h_]at this;omega
    obtain ⟨i,D⟩:=r_.1 q;obtain ⟨w,y_,A_,c3⟩:=r2 i r D;exact⟨L i r D,c3⟩⟩
   rw[<-r1];have o:∀(i:Nat) (r:List PV),d[i]?=some r->∀(k:Nat) (p:PV),r[k]?=some p->∃v,W.cell? ⟨b,z+i*P.cellsOf e+k,none⟩=some v/\PRep W (vq W) v p:=by
    intro i r q k p o_;obtain ⟨w,y_,A_,c3⟩:=r2 i r q;obtain ⟨_,d1,d2⟩:=World.cells?_some y_;have hkl:k<P.cellsOf e:=by rw[<-L i r q];exact(m_.1 o_).1
    have z_:=d2 k hkl;rw[Addr.add_lit,Addr.add_lit]at z_;have e2:w[k]?=some (w[k]' X):=m8 X;exact⟨_,z_.trans e2,A_.get k _ p e2 o_⟩
   refine PRep.sl b z f_ (P.cellsOf e) d (fun i k=>(W.cell? ⟨b,z+i*P.cellsOf e+k,none⟩).getD undef) F d_ (fun r q=>?_) X (fun i r q k p o_=>?_) (fun i r q k p o_=>?_)
   ·obtain ⟨i,D⟩:=r_.1 q;exact L i r D
   ·obtain ⟨v,v1,v2⟩:=o i r q k p o_;simp[v1]
   obtain ⟨v,v1,v2⟩:=o i r q k p o_;simp[v1,v2]
  ·next fs j =>
   simp only[j0]at y;obtain ⟨xs,K,rfl,rfl,hl,c_,hf⟩:=DataW.trod_struct j h;simp only[Rows.uptoBulk]at R;obtain ⟨ps,p1,p2⟩:=MZ (n:=n) (m:=K) (B:=B) (fun t cs x a b c=>OM n t a K cs x b c) fs.toList xs 0 (by rw[hl];exact y.1) y.2 (by simpa using c_) (fun i f D=>hf i f (by simpa using D)) X;exact⟨ps,by simpa using p1,by unfold Sh;rw[j];exact p2⟩
  ·next k e j =>
   simp only[j0]at y;obtain ⟨xs,K,rfl,rfl,hl,c_,hf⟩:=DataW.trod_array j h;simp only[Rows.uptoBulk]at R;obtain ⟨ps,p1,p2⟩:=MZ (n:=n) (m:=K) (B:=B) (fun t cs x a b c=>OM n t a K cs x b c) (N2 P e 0 k) xs 0 (by rw[hl];exact y.1) y.2 (by rw[NB,c_]) (fun i f D=>by
    obtain ⟨g1,g2⟩:=XG D;have hlt:i<k:=by
     have:=(m_.1 D).1
     rwa [NB]at this
    rw[g1,g2,r7];exact hf i hlt) X
   exact⟨ps,by simpa using p1,by unfold Sh;rw[j];exact p2⟩
  grind
end
end
end Go.Abs
namespace Go.Abs
open Go.Proofs.YtopnleflllkbmaaGreatDoor Go.ChangeShapes Go.WideShapes Go.ChangeAt Go.RowKit
variable{n base:Nat}{v:Value}{f:Func}{s:ChangeSpec}{c:Bool}{args:Array Value}
section
def vl(P:Program)(t:TypeId)(ps:List PV):AV :=match P.underlying t with
 |some (.struct _)=>.agg (ps.map .pv)
 |some (.array _ _)=>.agg (ps.map .pv)
 |_=>match ps with
  | [p]=>.pv p
  |_=>.any
section
variable{H:Type}{enc:TypeId×Value->H}{P:Program}{W:World}{B:Nat}
theorem PL.toV{I}{ι}{Hp}{cs}{ps}(h:PL W I cs ps)(i:Nat)(v)(a)(d:cs[i]?=some v)(b:(ps.map AV.pv)[i]?=some a):VRel W I ι Hp v a/\v.oneCell'=true:=by rw[r6]at b;obtain ⟨p,c,rfl⟩:=Option.map_eq_some_iff.1 b;have:=h.get i v p d c;exact⟨.pv this,this.oneCell⟩
theorem aCW{n}{t}{v}{base}(d:DL P n t=true)(b:Value.okWide P W .any base t v)(hno:∀fs,P.underlying t=some (.struct fs)->False)(hno2:∀k e,P.underlying t=some (.array k e)->False):v.cells.toList=[v]:=by
 cases n with
 |zero=>cases d
 |succ n =>
  unfold DL at d;unfold Value.okWide at b
  split at d
  ·next c=>cases v<;>first|rfl|(simp[Cell.okWide,Cell.ok,c]at b)
  ·next k c=>cases v<;>first|rfl|(simp[Cell.okWide,Cell.ok,c]at b)
  ·next c=>cases v<;>first|rfl|(simp[Cell.okWide,Cell.ok,c]at b)
  ·next e c=>cases v<;>first|rfl|(simp[Cell.okWide,Cell.ok,c]at b)
  all_goals simp_all
theorem Vj{t:TypeId}{d:DataW H}{p:List MemPlace}(ι:lP)(Hp:aF)(x:DL P n t=true)(b:Value.okWide P W .any base t v)(h:DataW.Trod enc P W 0 (fun _=>true) true t v d p)(z:Rows.uptoBulk d<=B):
  ∃ps,Sh P B n t ps/\VRel W (vq W) ι Hp v (vl P t ps):=by
 obtain ⟨m,A⟩:=h;obtain ⟨ps,f,d_⟩:=OM (B:=B) n t x m _ _ A z;refine⟨ps,d_,?_⟩;unfold vl
 split
 ·next w s =>
  unfold Value.okWide at b;rw[s]at b;obtain ⟨y,rfl,_,_⟩:=b;have u:=f.length;simp only[Value.cells,Array.length_toList]at u;refine .agg F_ (fun i v c=>?_) (fun i v a c r=>?_)
  ·have l:=(Array.getElem?_eq_some_iff.1 c).1;exact(PL.toV (ι:=ι) (Hp:=Hp) f i v (.pv (ps[i]' X)) (by simpa[Value.cells]using c) F_).2
  exact(PL.toV f i v a (by simpa[Value.cells]using c) r).1
 ·next k e s =>
  unfold Value.okWide at b;rw[s]at b;obtain ⟨y,rfl,_,_⟩:=b;have u:=f.length;simp only[Value.cells,Array.length_toList]at u;refine .agg F_ (fun i v c=>?_) (fun i v a c r=>?_)
  ·have l:=(Array.getElem?_eq_some_iff.1 c).1;exact(PL.toV (ι:=ι) (Hp:=Hp) f i v (.pv (ps[i]' X)) (by simpa[Value.cells]using c) F_).2
  exact(PL.toV f i v a (by simpa[Value.cells]using c) r).1
 next o g =>
 split
 ·next q =>
  have j:=aCW x b (fun w h=>o w h) (fun k e h=>g k e h);rw[j]at f;exact(PL.toV f 0 _ _ Z Z).1
 exact .any v
def N1(P:Program):List TypeId->List (List PV)->List AV
 |t::ts,p::ps=>vl P t p::N1 P ts ps
 |_,_=>[]
def XJ(P:Program)(B n:Nat):List TypeId->List (List PV)->Prop
 | [],[]=>True
 |t::ts,p::ps=>Sh P B n t p/\XJ P B n ts ps
 |_,_=>False
theorem xk{n}{a}(h:XJ P B n [] a):a=[]:=by
 cases a with
 |nil=>rfl
 |cons p ps=>exact h.elim
theorem HQ{n}{t}{b}{a}(h:XJ P B n (t::b) a):∃p ps,a=p::ps/\Sh P B n t p/\XJ P B n b ps:=by
 cases a with
 |nil=>exact h.elim
 |cons p ps=>exact⟨p,ps,Z,h.1,h.2⟩
theorem gp{n}{base}(ι)(Hp):∀ {c} {e} {l} {p},DataW.TrodAll enc P W 0 (fun _=>true) true c e l p->c.all (DL P n)=true ->
  (∀(j:Nat) t v,c[j]?=some t->e[j]?=some v->Value.okWide P W .any base t v)->Rows.uptoBulkAll l<=B ->
  ∃b,XJ P B n c b/\e.length=(N1 P c b).length/\∀(i:Nat) (v) (a),e[i]?=some v->(N1 P c b)[i]?=some a->VRel W (vq W) ι Hp v a
 | [],e,l,p,h,k,m,o=>by
  obtain ⟨rfl,rfl,rfl⟩:=trodAll_nil h;exact⟨[],T_,Z,fun i v a h=>by grind⟩
 |t::c,e,l,p,h,k,m,o=>by
  obtain ⟨v,vs',d,ds',p1,p2,rfl,rfl,rfl,g,f⟩:=trodAll_cons h;simp only[List.all_cons,j0]at k;simp[Rows.uptoBulkAll]at o;obtain ⟨r,x,u⟩:=Vj (B:=B) _ _ k.1 (m 0 t v Z Z) g X;obtain ⟨b,q,w,s⟩:=gp _ _ f k.2 (fun j t v g f=>m (j+1) t v g f) X;refine⟨r::b,⟨x,q⟩,by simp[N1,w],fun i v a g f=>?_⟩;cases i with
  |zero=>cases g;cases f;exact u
  |succ i=>exact s i v a g f
theorem Qp(ι)(W)(a:TO (vq W) W):Rel (vq W) ι [] W:=⟨fun _ h=>h,fun _ _ h=>(by cases h),fun _ _ _ _ _ _ _ h=>(by cases h),a⟩
theorem ox{I d}{ι a}{H'}{w w'}(h:Step I ι [] w d a H' w'):Below w.heap.size w w' :=⟨h.os,h.tape,h.output,h.size,fun k b=>h.keep k b (fun⟨_,_,_,c,_⟩=>by cases c)⟩
theorem TC(m:laidOutB P=true){k:World}(l:Below W.heap.size W k){j}:∀ {f} {g} {e} {p},DataW.TrodAll enc P W 0 (fun _=>true) true f g e p ->
  (f.all fun t=>P.readableRec t&&Nat.blt t P.types.size)=true->(∀x∈p,x.block<W.heap.size)->(∀x∈p,j x.block=true)->DataW.TrodAll enc P k 0 j true f g e p
 | [],g,e,p,h,c,a,b=>by
  obtain ⟨rfl,rfl,rfl⟩:=trodAll_nil h;exact trodAll_mk0
 | t::f,g,e,p,h,c,a,b=>by
  obtain ⟨v,vs',d,ds',p1,p2,rfl,rfl,rfl,o,n⟩:=trodAll_cons h;simp only[List.all_cons,j0,Nat.blt_eq]at c;exact trodAll_cons_mk (WideElems.Trod_stays m c.1.1 c.1.2 o (fun x i=>l.same (a x G_)) (fun x i=>b x G_))
   (TC m l n c.2 (fun x i=>a x G_) (fun x i=>b x G_))
theorem kv{g m l:Bool}{W n:World}{q x:List (DataW H)}{a pa pv:List MemPlace}
  (y:DataW.Whole enc P f.params.toList s.vars g W args.toList q x a)
  (h:∀(b:Nat) (k:Nat->Bool) (hd:Bool),DataW.TrodAll enc P n b k hd f.resultTypes.toList (v.resultList f.resultTypes.size) (s.fn H (q++x)).results [])
  (e:∀k:Nat->Bool,(∀p∈a,k p.block=true)->DataW.TrodAll enc P n 0 k true f.params.toList args.toList (s.fn H (q++x)).args pa)
  (d:∀k:Nat->Bool,(∀p∈a,k p.block=true)->DataW.TrodVars enc P n k s.vars (s.fn H (q++x)).vars pv)
  (d_:a=pa++pv) (D:Below W.heap.size W n)
  (z:∀(j:Nat) (t:TypeId) (r:Value),f.resultTypes[j]?=some t->(v.resultList f.resultTypes.size)[j]?=some r->Value.okWide P n .any 0 t r) :
  s.post enc P f g m c l W args v n:=by
 have A:∀p∈a,p.block<W.heap.size:=fun p o=>y.lt p o;have i:∀p∈a,(fun b=>decide (b<W.heap.size)) p.block=true:=fun p o=>by simp_all
 refine⟨q,x,a,[],pa,pv,y,h _ _ _,e _ i,d _ i,World.keptBut_mono (fun p o=>⟨o,?_⟩) (D.frame (·∈a)),fun _=>?_⟩
 ·simp_all
 obtain ⟨_,_,_,_,_,E,hn⟩:=y;refine⟨z,_,_,([]++pa)++pv,⟨[]++pa,pv,trodAll_append (e _ (fun _ _=>rfl)) (h _ _ _),d _ (fun _ _=>rfl),Z,?_,?_⟩,?_⟩
 ·intro b w o;have u:MemPlace.cell b w∈a:=by rw[d_];simpa using o
  rw[D.frozen (A _ u)];exact E b w u
 all_goals simp_all
theorem Jd{c_:FuncId}{k d_ A:Bool}{h gs:List (DataW H)}{m:List MemPlace}{bt:TypeId}
  (hl:laidOutB P=true) (w:(f.params.toList.all fun t=>P.readableRec t&&Nat.blt t P.types.size)=true) (l:f.params.toList.all (DL P n)=true) (g:s.vars=[])
  (F:∀h:List (DataW H),h.length=f.params.toList.length->(s.fn H h).results=[.lit (.bool true)]/\(s.fn H h).args=h/\(s.fn H h).vars=[])
  (z:f.resultTypes=#[bt]) (G:P.underlying bt=some .bool)
  (u:∀(j:Nat) t v,f.params[j]?=some t->args[j]?=some v->Value.okWide P W .any base t v)
  (T:DataW.Whole enc P f.params.toList s.vars k W args.toList h gs m) (f_:Rows.uptoBulkAll h<=B)
  (v_:∀o,XJ P B n f.params.toList o->aS P c_ (N1 P f.params.toList o) [] (fun r H'=>r=.pv (.bool true)/\H'=[])) (hg:TO (vq W) W:=by exact fun p hp=>by cases hp) :
  Calls P c_ args W fun e y_=>∃v,e=.returned v/\s.post enc P f k d_ c A W args v y_:=by
 have D:=T;obtain ⟨p,q,E,L,rfl,N,e_⟩:=T;rw[g]at L;obtain ⟨rfl,rfl⟩:=trodVars_none L;obtain ⟨o,z_,h2,A_⟩:=gp (B:=B) (base:=base) (fun _=>none) [] E l (fun j t v ht R=>u j t v F_ F_) f_;have hlen:h.length=f.params.toList.length:=by
  clear z_ h2 A_ v_ F w l u D f_ N e_;revert E;generalize f.params.toList=u_;generalize args.toList=vs;intro E;clear L
  induction u_ generalizing vs h p with
  |nil=>obtain ⟨_,rfl,_⟩:=trodAll_nil E;rfl
  |cons t u_ ih =>
   obtain ⟨v,vs',d,ds',p1,p2,_,rfl,_,_,h2⟩:=trodAll_cons E
   grind
 refine(v_ o z_ (vq W) (fun _=>none) W args (Qp _ W hg) X (fun i v a ha hb=>A_ i v a F_ hb)).mono ?_;rintro e y_ ⟨r,H',I',ι',v,rfl,⟨rfl,rfl⟩,R,hr,K⟩;have o_:v=.bool true:=R.bool_inv;subst o_;have y:=ox K;obtain ⟨f1,f2,f3⟩:=F (h++[]) F_;refine⟨_,Z,kv (pa:=p) (pv:=[]) D (fun b Q hd=>?_) (fun Q I=>?_) (fun Q I=>?_) Z y (ok_one z Z (okWide_bool_mk G _))⟩
 ·rw[f1,z];exact trodAll_cons_mk (shut_bool G _) trodAll_mk0
 ·rw[f2,List.append_nil];exact TC hl y E w (fun x hx=>D.lt x G_) (fun x hx=>I x G_)
 rw[f3,g];rfl
theorem Et{n}{t}{ps}(ht:P.underlying t=some .string)(h:Sh P B (n+1) t ps):∃s,ps=[.str s]/\s.size<=B:=by unfold Sh at h;simp_all
theorem Py{t e}{ps}{α:Type}{f}{good:α->Prop}(j:P.underlying t=some (.slice e))(h:Sh P B (n+1) t ps)(hd:∀r,Sh P B n e r->∃a,r=f a/\good a):
  ∃l:List α,ps=[.sl (l.map f)]/\l.length<=B/\∀a,a∈l->good a:=by
 unfold Sh at h;rw[j]at h;obtain ⟨c,rfl,d,g⟩:=h;obtain ⟨l,k,m⟩:∃l:List α,c=l.map f/\∀a,a∈l->good a:=by
  clear d
  induction c with
  |nil=>simp_all
  |cons r rs i =>
   obtain ⟨l,k,m⟩:=i (fun r h=>g r (by simp[h]));obtain ⟨a,a1,a2⟩:=hd r (g r H_).2;refine⟨a::l,F_,fun b hb=>?_⟩
   grind
 grind
end
end
end Go.Abs
namespace Go.Proofs.YtopnleflllkbmaaGreatDoor
open Go.Proofs.Tryz
open Go.Abs
variable{α:Type}{l:List _}{k:Nat}
theorem Xg:eO Tryz.prog 3 [.pv (.int .i64 0)]:=⟨_,_,sE,.inl Z,Z⟩
theorem zo4:eO Tryz.prog 4 [.pv (.bool false)]:=⟨_,_,iS,.inl Z,Z⟩
theorem zo5:eO Tryz.prog 5 [.pv (.int .u8 0)]:=⟨_,_,sD,.inl Z,Z⟩
theorem Oc:eO Tryz.prog 9 [.pv (.str ⟨#[]⟩)]:=⟨_,_,gK,.inl Z,Z⟩
theorem aBN:eO Tryz.prog 22 [.pv (.sl [])]:=⟨_,_,vL,.inl Z,Z⟩
theorem Vr:eO Tryz.prog 22 [.pv .nils]:=⟨_,_,vL,.inr Z,Z⟩
theorem bH:fF Tryz.prog 22 9 1:=⟨aE,V_,E_,_,gK⟩
theorem xE:EI Tryz.prog 9 1 16:=EI.mk (z:=(Value.string ⟨#[]⟩)) (by kernel_rfl) Z E_ E_
theorem Xh:eO Tryz.prog 25 [.pv (.int .i64 0)]:=⟨_,_,zeroValue25,.inl Z,Z⟩
theorem aBJ:eO Tryz.prog 46 [.pv .nils]:=⟨_,_,zeroValue46,.inr Z,Z⟩
theorem ay:fF Tryz.prog 46 137 15:=⟨eS,aZ,E_,_,Ar⟩
theorem Ws:EI Tryz.prog 137 15 216:=EI.mk (z:=(Value.agg #[(Value.int IntKind.i64 (0)),(Value.string ⟨#[]⟩),(Value.string ⟨#[]⟩),(Value.string ⟨#[]⟩),(Value.int IntKind.i64 (0)),(Value.int IntKind.i64 (0)),(Value.string ⟨#[]⟩),(Value.string ⟨#[]⟩),(Value.slice none (0) (0)),(Value.string ⟨#[]⟩),(Value.int IntKind.i64 (0)),(Value.int IntKind.i64 (0)),(Value.int IntKind.i64 (0)),(Value.slice none (0) (0)),(Value.slice none (0) (0))])) (by kernel_rfl) Z E_ E_
theorem Z3:eO Tryz.prog 48 [.pv (.int .i64 0),.pv (.sl []),.pv (.sl [])]:=⟨_,_,Mt,.inl Z,Z⟩
theorem C2:cH Tryz.prog 48 0 0:=⟨_,_,0,jQ,Z,Z,sizeOf3⟩
theorem vV:cH Tryz.prog 48 1 1:=⟨_,_,0,jQ,Z,Z,sizeOf22⟩
theorem vU:cH Tryz.prog 48 2 2:=⟨_,_,0,jQ,Z,Z,sizeOf22⟩
theorem Vf:lF Tryz.prog 48 [(0,1),(1,1),(2,1)] [.pv (.int .i64 0),.pv (.sl []),.pv (.sl [])]:=⟨_,#[(0,1),(1,1),(2,1)],_,_,jQ,Mt,.inl Z,Z,fun w=>by simp[sizeOf3,sizeOf22],Z⟩
theorem aCq:lF Tryz.prog 48 [(0,1),(1,1),(2,1)] [.pv (.int .i64 0),.pv .nils,.pv .nils]:=⟨_,#[(0,1),(1,1),(2,1)],_,_,jQ,Mt,.inr Z,Z,fun w=>by simp[sizeOf3,sizeOf22],Z⟩
theorem TU:fF Tryz.prog 49 104 2:=⟨fW,sizeOf104,E_,_,Au⟩
theorem Wt:EI Tryz.prog 104 2 16:=EI.mk (z:=(Value.agg #[(Value.int IntKind.i64 (0)),(Value.int IntKind.i64 (0))])) (by kernel_rfl) Z E_ E_
theorem aD3:eO Tryz.prog 51 [.pv (.str ⟨#[]⟩),.pv (.str ⟨#[]⟩),.pv (.sl []),.pv (.sl []),.pv (.int .i64 0),.pv (.sl []),.pv (.sl [])]:=⟨_,_,zeroValue51,.inl Z,Z⟩
theorem IJ:cH Tryz.prog 51 0 0:=⟨_,_,0,tI,Z,Z,V_⟩
theorem II:cH Tryz.prog 51 1 1:=⟨_,_,0,tI,Z,Z,V_⟩
theorem yD:cH Tryz.prog 51 2 2:=⟨_,_,0,tI,Z,Z,sizeOf22⟩
theorem sX:cH Tryz.prog 51 3 3:=⟨_,_,0,tI,Z,Z,sizeOf49⟩
theorem E4:cH Tryz.prog 51 4 4:=⟨_,_,2,tI,Z,Z,sizeOf48⟩
theorem aEF:lF Tryz.prog 51 [(0,1),(1,1),(2,1),(3,1),(4,3)] [.pv (.str ⟨#[]⟩),.pv (.str ⟨#[]⟩),.pv (.sl []),.pv (.sl []),.pv (.int .i64 0),.pv (.sl []),.pv (.sl [])]:=⟨_,#[(0,1),(1,1),(2,1),(3,1),(4,3)],_,_,tI,zeroValue51,.inl Z,Z,fun w=>by simp[V_,sizeOf22,sizeOf48,sizeOf49],Z⟩
theorem Z2:eO Tryz.prog 53 [.pv (.int .i64 0),.pv (.int .i64 0),.pv (.int .i64 0),.pv (.int .i64 0),.pv (.str ⟨#[]⟩),.pv (.sl []),.pv (.sl []),.pv (.str ⟨#[]⟩),.pv (.bool false),.pv (.int .i64 0),.pv (.str ⟨#[]⟩),.pv (.int .i64 0),.pv (.sl []),.pv (.sl []),.pv (.str ⟨#[]⟩),.pv (.str ⟨#[]⟩),.pv (.sl []),.pv (.sl []),.pv (.int .i64 0),.pv (.sl []),.pv (.sl [])]:=⟨_,_,Ms,.inl Z,Z⟩
theorem aBI:eO Tryz.prog 53 [.pv (.int .i64 0),.pv (.int .i64 0),.pv (.int .i64 0),.pv (.int .i64 0),.pv (.str ⟨#[]⟩),.pv .nils,.pv .nils,.pv (.str ⟨#[]⟩),.pv (.bool false),.pv (.int .i64 0),.pv (.str ⟨#[]⟩),.pv (.int .i64 0),.pv .nils,.pv .nils,.pv (.str ⟨#[]⟩),.pv (.str ⟨#[]⟩),.pv .nils,.pv .nils,.pv (.int .i64 0),.pv .nils,.pv .nils]:=⟨_,_,Ms,.inr Z,Z⟩
theorem oJ:cH Tryz.prog 53 0 0:=⟨_,_,0,eR,Z,Z,sizeOf3⟩
theorem EZ:cH Tryz.prog 53 1 1:=⟨_,_,0,eR,Z,Z,sizeOf3⟩
theorem AH:cH Tryz.prog 53 2 2:=⟨_,_,0,eR,Z,Z,sizeOf3⟩
theorem EY:cH Tryz.prog 53 3 3:=⟨_,_,0,eR,Z,Z,sizeOf3⟩
theorem C1:cH Tryz.prog 53 4 4:=⟨_,_,0,eR,Z,Z,V_⟩
theorem oI:cH Tryz.prog 53 5 5:=⟨_,_,0,eR,Z,Z,sizeOf22⟩
theorem C0:cH Tryz.prog 53 6 6:=⟨_,_,0,eR,Z,Z,sizeOf46⟩
theorem CZ:cH Tryz.prog 53 7 7:=⟨_,_,0,eR,Z,Z,V_⟩
theorem IH:cH Tryz.prog 53 8 8:=⟨_,_,0,eR,Z,Z,sizeOf4⟩
theorem yC:cH Tryz.prog 53 9 9:=⟨_,_,0,eR,Z,Z,sizeOf3⟩
theorem wR:cH Tryz.prog 53 10 10:=⟨_,_,0,eR,Z,Z,V_⟩
theorem zL:cH Tryz.prog 53 11 11:=⟨_,_,2,eR,Z,Z,sizeOf48⟩
theorem iC:cH Tryz.prog 53 12 14:=⟨_,_,6,eR,Z,Z,sizeOf51⟩
theorem S3:lF Tryz.prog 53 [(0,1),(1,1),(2,1),(3,1),(4,1),(5,1),(6,1),(7,1),(8,1),(9,1),(10,1),(11,3),(14,7)] [.pv (.int .i64 0),.pv (.int .i64 0),.pv (.int .i64 0),.pv (.int .i64 0),.pv (.str ⟨#[]⟩),.pv (.sl []),.pv (.sl []),.pv (.str ⟨#[]⟩),.pv (.bool false),.pv (.int .i64 0),.pv (.str ⟨#[]⟩),.pv (.int .i64 0),.pv (.sl []),.pv (.sl []),.pv (.str ⟨#[]⟩),.pv (.str ⟨#[]⟩),.pv (.sl []),.pv (.sl []),.pv (.int .i64 0),.pv (.sl []),.pv (.sl [])]:=⟨_,#[(0,1),(1,1),(2,1),(3,1),(4,1),(5,1),(6,1),(7,1),(8,1),(9,1),(10,1),(11,3),(14,7)],_,_,eR,Ms,.inl Z,Z,fun w=>by simp[sizeOf3,sizeOf4,V_,sizeOf22,sizeOf46,sizeOf48,sizeOf51],Z⟩
theorem QI:fF Tryz.prog 68 9 1:=⟨mA,V_,E_,_,gK⟩
theorem Cd:eO Tryz.prog 70 [.pv (.str ⟨#[]⟩),.pv (.str ⟨#[]⟩),.pv (.int .i64 0),.pv (.sl [])]:=⟨_,_,Mr,.inl Z,Z⟩
theorem MY:cH Tryz.prog 70 0 0:=⟨_,_,0,AN,Z,Z,V_⟩
theorem SR:cH Tryz.prog 70 1 1:=⟨_,_,0,AN,Z,Z,V_⟩
theorem EX:cH Tryz.prog 70 2 2:=⟨_,_,0,AN,Z,Z,sizeOf3⟩
theorem EW:cH Tryz.prog 70 3 3:=⟨_,_,0,AN,Z,Z,sizeOf68⟩
theorem aCr:lF Tryz.prog 70 [(0,1),(1,1),(2,1),(3,1)] [.pv (.str ⟨#[]⟩),.pv (.str ⟨#[]⟩),.pv (.int .i64 0),.pv (.sl [])]:=⟨_,#[(0,1),(1,1),(2,1),(3,1)],_,_,AN,Mr,.inl Z,Z,fun w=>by simp[sizeOf3,V_,sizeOf68],Z⟩
theorem GH:fF Tryz.prog 73 22 1:=⟨tH,sizeOf22,E_,_,vL⟩
theorem aA8:EI Tryz.prog 22 1 24:=EI.mk (z:=(Value.slice none (0) (0))) (by kernel_rfl) Z E_ E_
theorem aBK:eO Tryz.prog 80 [.pv (.sl []),.pv .nilm]:=⟨_,_,zeroValue80,.inl Z,Z⟩
theorem IG:cH Tryz.prog 80 0 0:=⟨_,_,0,Ax,Z,Z,sizeOf68⟩
theorem nv:cH Tryz.prog 80 1 1:=⟨_,_,0,Ax,Z,Z,sizeOf78⟩
theorem aCp:lF Tryz.prog 80 [(0,1),(1,1)] [.pv .nils,.pv .nilm]:=⟨_,#[(0,1),(1,1)],_,_,Ax,zeroValue80,.inr Z,Z,fun w=>by simp[sizeOf68,sizeOf78],Z⟩
theorem aD2:eO Tryz.prog 82 [.pv .nilm]:=⟨_,_,zeroValue82,.inl Z,Z⟩
theorem SQ:cH Tryz.prog 84 0 0:=⟨_,_,1,tG,Z,Z,sizeOf80⟩
theorem nt:cH Tryz.prog 84 1 2:=⟨_,_,0,tG,Z,Z,sizeOf22⟩
theorem Kf:cH Tryz.prog 84 2 3:=⟨_,_,0,tG,Z,Z,sizeOf82⟩
theorem ns:cH Tryz.prog 84 3 4:=⟨_,_,0,tG,Z,Z,sizeOf73⟩
theorem SP:cH Tryz.prog 84 4 5:=⟨_,_,0,tG,Z,Z,sizeOf73⟩
theorem aCo:lF Tryz.prog 84 [(0,2),(2,1),(3,1),(4,1),(5,1)] [.pv .nils,.pv .nilm,.pv .nils,.pv .nilm,.pv .nils,.pv .nils]:=⟨_,#[(0,2),(2,1),(3,1),(4,1),(5,1)],_,_,tG,zeroValue84,.inr Z,Z,fun w=>by simp[sizeOf22,sizeOf73,sizeOf80,sizeOf82],Z⟩
theorem Yd:fF Tryz.prog 86 70 4:=⟨Aw,dU,E_,_,Mr⟩
theorem aEA:EI Tryz.prog 70 4 64:=EI.mk (z:=(Value.agg #[(Value.string ⟨#[]⟩),(Value.string ⟨#[]⟩),(Value.int IntKind.i64 (0)),(Value.slice none (0) (0))])) (by kernel_rfl) Z E_ E_
theorem MX:cH Tryz.prog 99 0 0:=⟨_,_,0,Av,Z,Z,sizeOf22⟩
theorem MW:cH Tryz.prog 99 1 1:=⟨_,_,0,Av,Z,Z,sizeOf4⟩
theorem aEE:lF Tryz.prog 99 [(0,1),(1,1)] [.pv (.sl []),.pv (.bool false)]:=⟨_,#[(0,1),(1,1)],_,_,Av,zeroValue99,.inl Z,Z,fun w=>by simp[sizeOf4,sizeOf22],Z⟩
theorem Cf:eO Tryz.prog 104 [.pv (.int .i64 0),.pv (.int .i64 0)]:=⟨_,_,Au,.inl Z,Z⟩
theorem mO:cH Tryz.prog 104 0 0:=⟨_,_,0,underlying104,Z,Z,sizeOf3⟩
theorem mN:cH Tryz.prog 104 1 1:=⟨_,_,0,underlying104,Z,Z,sizeOf3⟩
theorem K0:lF Tryz.prog 104 [(0,1),(1,1)] [.pv (.int .i64 0),.pv (.int .i64 0)]:=⟨_,#[(0,1),(1,1)],_,_,underlying104,Au,.inl Z,Z,fun w=>by simp[sizeOf3],Z⟩
theorem QP(a0 b0:Int)(a1 b1:Int)(w:World):(Op.equalIn 10000 104 (.agg [.int .i64 a0,.int .i64 a1].toArray) (.agg [.int .i64 b0,.int .i64 b1].toArray)).run Tryz.prog w=.ok (decide (a0=b0)&&decide (a1=b1)) w:=by
 refine(run_equalIn_struct (P:=Tryz.prog) w 9999 104 _ _ (by simp[Program.fieldsOf,underlying104]) stoodInHeld104).trans ?_;have h3:∀(d:Nat) (a b:Int) (w:World),(Op.equalIn (d+1) 3 (.int .i64 a) (.int .i64 b)).run Tryz.prog w=.ok (decide (a=b)) w:=fun d a b w=>by rw[run_equalIn_int w d 3 _ _ a b underlying3];by_cases h:a=b<;>simp[h]
 by_cases e0:a0=b0<;>by_cases e1:a1=b1<;>simp[Program.fieldsOf,underlying104,Op.eqFields,part,h3,M_,e0,e1]
theorem aBR:eO Tryz.prog 125 [.pv .nilp]:=⟨_,_,zeroValue125,.inl Z,Z⟩
theorem uu:cH Tryz.prog 127 0 0:=⟨_,_,0,underlying127,Z,Z,V_⟩
theorem aCt:lF Tryz.prog 127 [(0,1)] [.pv (.str ⟨#[]⟩)]:=⟨_,#[(0,1)],_,_,underlying127,zeroValue127,.inl Z,Z,fun w=>by simp[V_],Z⟩
theorem Vu:eO Tryz.prog 131 [.pv (.sl [])]:=⟨_,_,zeroValue131,.inl Z,Z⟩
theorem Xf:eO Tryz.prog 131 [.pv .nils]:=⟨_,_,zeroValue131,.inr Z,Z⟩
theorem QJ:fF Tryz.prog 131 9 1:=⟨underlying131,V_,E_,_,gK⟩
theorem lI:fF Tryz.prog 133 270 2:=⟨dL,lL,E_,_,Ap⟩
theorem Kn:EI Tryz.prog 270 2 32:=EI.mk (z:=(Value.agg #[(Value.string ⟨#[]⟩),(Value.string ⟨#[]⟩)])) (by kernel_rfl) Z E_ E_
theorem UN:eO Tryz.prog 135 [.pv (.str ⟨#[]⟩),.pv (.int .i64 0),.pv (.int .i64 0),.pv (.int .i64 0),.pv (.sl []),.pv (.sl [])]:=⟨_,_,LC,.inl Z,Z⟩
theorem Cc:eO Tryz.prog 135 [.pv (.str ⟨#[]⟩),.pv (.int .i64 0),.pv (.int .i64 0),.pv (.int .i64 0),.pv .nils,.pv .nils]:=⟨_,_,LC,.inr Z,Z⟩
theorem qQ:cH Tryz.prog 135 0 0:=⟨_,_,0,nU,Z,Z,V_⟩
theorem dZ:cH Tryz.prog 135 1 1:=⟨_,_,0,nU,Z,Z,sizeOf3⟩
theorem mM:cH Tryz.prog 135 2 2:=⟨_,_,1,nU,Z,Z,sizeOf104⟩
theorem dY:cH Tryz.prog 135 3 4:=⟨_,_,0,nU,Z,Z,sizeOf22⟩
theorem fU:cH Tryz.prog 135 4 5:=⟨_,_,0,nU,Z,Z,sizeOf133⟩
theorem FC:lF Tryz.prog 135 [(0,1),(1,1),(2,2),(4,1),(5,1)] [.pv (.str ⟨#[]⟩),.pv (.int .i64 0),.pv (.int .i64 0),.pv (.int .i64 0),.pv (.sl []),.pv (.sl [])]:=⟨_,#[(0,1),(1,1),(2,2),(4,1),(5,1)],_,_,nU,LC,.inl Z,Z,fun w=>by simp[sizeOf3,V_,sizeOf22,sizeOf104,sizeOf133],Z⟩
theorem Lk:lF Tryz.prog 135 [(0,1),(1,1),(2,2),(4,1),(5,1)] [.pv (.str ⟨#[]⟩),.pv (.int .i64 0),.pv (.int .i64 0),.pv (.int .i64 0),.pv .nils,.pv .nils]:=⟨_,#[(0,1),(1,1),(2,2),(4,1),(5,1)],_,_,nU,LC,.inr Z,Z,fun w=>by simp[sizeOf3,V_,sizeOf22,sizeOf104,sizeOf133],Z⟩
theorem UM:eO Tryz.prog 137 [.pv (.int .i64 0),.pv (.str ⟨#[]⟩),.pv (.str ⟨#[]⟩),.pv (.str ⟨#[]⟩),.pv (.int .i64 0),.pv (.int .i64 0),.pv (.str ⟨#[]⟩),.pv (.str ⟨#[]⟩),.pv (.sl []),.pv (.str ⟨#[]⟩),.pv (.int .i64 0),.pv (.int .i64 0),.pv (.int .i64 0),.pv (.sl []),.pv (.sl [])]:=⟨_,_,Ar,.inl Z,Z⟩
theorem iL:cH Tryz.prog 137 0 0:=⟨_,_,0,gX,Z,Z,sizeOf3⟩
theorem jN:cH Tryz.prog 137 1 1:=⟨_,_,0,gX,Z,Z,V_⟩
theorem kG:cH Tryz.prog 137 2 2:=⟨_,_,0,gX,Z,Z,V_⟩
theorem qP:cH Tryz.prog 137 3 3:=⟨_,_,0,gX,Z,Z,V_⟩
theorem jC:cH Tryz.prog 137 4 4:=⟨_,_,1,gX,Z,Z,sizeOf104⟩
theorem nR:cH Tryz.prog 137 5 6:=⟨_,_,0,gX,Z,Z,V_⟩
theorem oM:cH Tryz.prog 137 6 7:=⟨_,_,0,gX,Z,Z,V_⟩
theorem iK:cH Tryz.prog 137 7 8:=⟨_,_,0,gX,Z,Z,sizeOf22⟩
theorem uS:cH Tryz.prog 137 8 9:=⟨_,_,5,gX,Z,Z,sizeOf135⟩
theorem tQ:lF Tryz.prog 137 [(0,1),(1,1),(2,1),(3,1),(4,2),(6,1),(7,1),(8,1),(9,6)] [.pv (.int .i64 0),.pv (.str ⟨#[]⟩),.pv (.str ⟨#[]⟩),.pv (.str ⟨#[]⟩),.pv (.int .i64 0),.pv (.int .i64 0),.pv (.str ⟨#[]⟩),.pv (.str ⟨#[]⟩),.pv (.sl []),.pv (.str ⟨#[]⟩),.pv (.int .i64 0),.pv (.int .i64 0),.pv (.int .i64 0),.pv (.sl []),.pv (.sl [])]:=⟨_,#[(0,1),(1,1),(2,1),(3,1),(4,2),(6,1),(7,1),(8,1),(9,6)],_,_,gX,Ar,.inl Z,Z,fun w=>by simp[sizeOf3,V_,sizeOf22,sizeOf104,sizeOf135],Z⟩
theorem A5:fF Tryz.prog 159 5 1:=⟨dB,cK,E_,_,sD⟩
theorem Wr:EI Tryz.prog 5 1 1:=EI.mk (z:=(Value.int IntKind.u8 (0))) (by kernel_rfl) Z E_ E_
theorem HG:eO Tryz.prog 161 [.pv .nilp,.pv .nils]:=⟨_,_,zeroValue161,.inr Z,Z⟩
theorem zM:cH Tryz.prog 161 0 0:=⟨_,_,0,underlying161,Z,Z,aAq⟩
theorem iE:cH Tryz.prog 161 1 1:=⟨_,_,0,underlying161,Z,Z,qC⟩
theorem aBQ:eO Tryz.prog 169 [.pv (.int .u64 0)]:=⟨_,_,tD,.inl Z,Z⟩
theorem aBP:eO Tryz.prog 174 [.pv .nilfn]:=⟨_,_,zeroValue174,.inl Z,Z⟩
theorem aBO:eO Tryz.prog 179 [.pv (.int .u8 0),.pv (.int .u8 0),.pv (.int .u8 0),.pv (.int .u8 0),.pv (.int .u8 0),.pv (.int .u8 0),.pv (.int .u8 0),.pv (.int .u8 0)]:=⟨_,_,zeroValue179,.inl Z,Z⟩
theorem pr:eO Tryz.prog 180 [.pv (.int .u8 0),.pv (.int .u8 0),.pv (.int .u8 0),.pv (.int .u8 0),.pv (.int .u8 0),.pv (.int .u8 0),.pv (.int .u8 0),.pv (.int .u8 0),.pv (.int .u8 0),.pv (.int .u8 0),.pv (.int .u8 0),.pv (.int .u8 0),.pv (.int .u8 0),.pv (.int .u8 0),.pv (.int .u8 0),.pv (.int .u8 0)]:=⟨_,_,zeroValue180,.inl Z,Z⟩
theorem Vt:eO Tryz.prog 185 [.pv (.sl [])]:=⟨_,_,zeroValue185,.inl Z,Z⟩
theorem Cb:eO Tryz.prog 185 [.pv .nils]:=⟨_,_,zeroValue185,.inr Z,Z⟩
theorem gY:fF Tryz.prog 185 189 3:=⟨cP,sizeOf189,E_,_,Aq⟩
theorem uz:EI Tryz.prog 189 3 32:=EI.mk (z:=(Value.agg #[(Value.int IntKind.i64 (0)),(Value.string ⟨#[]⟩),(Value.int IntKind.i64 (0))])) (by kernel_rfl) Z E_ E_
theorem pq:eO Tryz.prog 189 [.pv (.int .i64 0),.pv (.str ⟨#[]⟩),.pv (.int .i64 0)]:=⟨_,_,Aq,.inl Z,Z⟩
theorem uR:cH Tryz.prog 189 0 0:=⟨_,_,0,IW,Z,Z,sizeOf3⟩
theorem iD:cH Tryz.prog 189 1 1:=⟨_,_,0,IW,Z,Z,V_⟩
theorem PF:cH Tryz.prog 189 2 2:=⟨_,_,0,IW,Z,Z,sizeOf3⟩
theorem HF:lF Tryz.prog 189 [(0,1),(1,1),(2,1)] [.pv (.int .i64 0),.pv (.str ⟨#[]⟩),.pv (.int .i64 0)]:=⟨_,#[(0,1),(1,1),(2,1)],_,_,IW,Aq,.inl Z,Z,fun w=>by simp[sizeOf3,V_],Z⟩
theorem yZ:fF Tryz.prog 200 20 1:=⟨underlying200,aDF,E_,_,Mu⟩
theorem Ce:eO Tryz.prog 266 [.pv (.int .i64 0),.pv (.str ⟨#[]⟩),.pv (.int .i64 0),.pv (.int .i64 0)]:=⟨_,_,zeroValue266,.inl Z,Z⟩
theorem oL:cH Tryz.prog 266 0 0:=⟨_,_,2,pk,Z,Z,sizeOf189⟩
theorem sY:cH Tryz.prog 266 1 3:=⟨_,_,0,pk,Z,Z,sizeOf25⟩
theorem aCs:lF Tryz.prog 266 [(0,3),(3,1)] [.pv (.int .i64 0),.pv (.str ⟨#[]⟩),.pv (.int .i64 0),.pv (.int .i64 0)]:=⟨_,#[(0,3),(3,1)],_,_,pk,zeroValue266,.inl Z,Z,fun w=>by simp[sizeOf25,sizeOf189],Z⟩
theorem Vs:eO Tryz.prog 270 [.pv (.str ⟨#[]⟩),.pv (.str ⟨#[]⟩)]:=⟨_,_,Ap,.inl Z,Z⟩
theorem pO:cH Tryz.prog 270 0 0:=⟨_,_,0,underlying270,Z,Z,V_⟩
theorem qO:cH Tryz.prog 270 1 1:=⟨_,_,0,underlying270,Z,Z,V_⟩
theorem Ll:lF Tryz.prog 270 [(0,1),(1,1)] [.pv (.str ⟨#[]⟩),.pv (.str ⟨#[]⟩)]:=⟨_,#[(0,1),(1,1)],_,_,underlying270,Ap,.inl Z,Z,fun w=>by simp[V_],Z⟩
theorem Wf(a0 b0:B_)(a1 b1:B_)(w:World):(Op.equalIn 10000 270 (.agg [.string a0,.string a1].toArray) (.agg [.string b0,.string b1].toArray)).run Tryz.prog w=.ok (decide (a0=b0)&&decide (a1=b1)) w:=by
 refine(run_equalIn_struct (P:=Tryz.prog) w 9999 270 _ _ (by simp[Program.fieldsOf,underlying270]) stoodInHeld270).trans ?_;have h9:∀(d:Nat) (a b:B_) (w:World),(Op.equalIn (d+1) 9 (.string a) (.string b)).run Tryz.prog w=.ok (decide (a=b)) w:=fun d a b w=>by rw[run_equalIn_string w d 9 a b U_,BH]
 by_cases e0:a0=b0<;>by_cases e1:a1=b1<;>simp[Program.fieldsOf,underlying270,Op.eqFields,part,h9,N_,e0,e1]
theorem Xe:eO Tryz.prog 297 [.pv .nilp,.pv .nils]:=⟨_,_,zeroValue297,.inr Z,Z⟩
theorem pN:cH Tryz.prog 297 0 0:=⟨_,_,1,underlying297,Z,Z,sizeOf161⟩
theorem aBM:eO Tryz.prog 299 [.pv .nilfn]:=⟨_,_,zeroValue299,.inl Z,Z⟩
theorem aBL:eO Tryz.prog 312 [.pv (.str ⟨#[]⟩),.pv (.str ⟨#[]⟩),.pv (.str ⟨#[]⟩),.pv (.str ⟨#[]⟩),.pv (.str ⟨#[]⟩),.pv (.str ⟨#[]⟩)]:=⟨_,_,zeroValue312,.inl Z,Z⟩
theorem aCx:PS Tryz.prog 312 1 [.pv (.str ⟨#[]⟩),.pv (.str ⟨#[]⟩),.pv (.str ⟨#[]⟩),.pv (.str ⟨#[]⟩),.pv (.str ⟨#[]⟩),.pv (.str ⟨#[]⟩)]:=⟨_,_,_,_,underlying312,zeroValue312,.inl Z,Z,V_⟩
theorem Wx:PS Tryz.prog 316 1 [.pv (.str ⟨#[]⟩),.pv (.str ⟨#[]⟩),.pv (.str ⟨#[]⟩),.pv (.str ⟨#[]⟩)]:=⟨_,_,_,_,underlying316,zeroValue316,.inl Z,Z,V_⟩
theorem aCw:PS Tryz.prog 319 1 [.pv (.int .i64 0),.pv (.int .i64 0),.pv (.int .i64 0),.pv (.int .i64 0),.pv (.int .i64 0),.pv (.int .i64 0)]:=⟨_,_,_,_,underlying319,zeroValue319,.inl Z,Z,sizeOf3⟩
theorem a7:Tryz.prog.follows .mixedOrders=true:=rfl
structure l_ where
 key:B_
 val:B_
structure j_ where
 id:B_
 kind:Int
 x:Int
 y:Int
 refs:List B_
 tags:List l_
structure b8 where
 op:Int
 id:B_
 other:B_
 node:B_
 x:Int
 y:Int
 key:B_
 val:B_
 refs:List B_
 obj:j_
def S_(s:B_):List PV:=[.str s]
def gJ(n:Int):List PV:=[.int .i64 n]
def bP(t:l_):List PV:=[.str t.key,.str t.val]
def bM(o:j_):List PV:=[.str o.id,.int .i64 o.kind,.int .i64 o.x,.int .i64 o.y,.sl (o.refs.map S_),.sl (o.tags.map bP)]
def bL(e:b8):List PV:=[.int .i64 e.op,.str e.id,.str e.other,.str e.node,.int .i64 e.x,.int .i64 e.y,.str e.key,.str e.val,.sl (e.refs.map S_),
 .str e.obj.id,.int .i64 e.obj.kind,.int .i64 e.obj.x,.int .i64 e.obj.y,.sl (e.obj.refs.map S_),.sl (e.obj.tags.map bP)]
def aK(l:List B_):PV:=.sl (l.map S_)
def pX(l:List l_):PV:=.sl (l.map bP)
def jZ(l:List b8):PV:=.sl (l.map bL)
def g_:j_:=⟨⟨#[]⟩,0,0,0,[],[]⟩
theorem cC{f:α->List PV}{a}(h:l[k]?=some a):(l.map f)[k]?=some (f a):=F_
theorem aU{l:List α}{k}(h:k<l.length):∃a,l[k]?=some a:=⟨_,m8 h⟩
theorem WS{p}{l:List α}{k}{a}(h:∀j,j<k->∀b,l[j]?=some b->p b=false)(hk:l[k]?=some a)(hp:p a=true):l.findIdx? p=some k:=by
 rw[List.findIdx?_eq_some_iff_getElem]
 grind
theorem WT{p}{l:List α}(h:∀j,j<l.length->∀b,l[j]?=some b->p b=false):l.findIdx? p=none:=by
 rw[List.findIdx?_eq_none_iff];intro x a;obtain ⟨j,hj⟩:=r_.1 a
 grind
def AE{α:Type}(p:α->Bool)(l:List α):Int:=match l.findIdx? p with|some i=>(i:Int)|none => -1
theorem Kc(p)(l:List α):decide (0<=AE p l)=l.any p:=by
 unfold AE
 grind
theorem nk(p)(l):(AE p l = -1/\l.find? p=none)\/∃(k:Nat) (o:α),AE p l=k/\l[k]?=some o/\l.find? p=some o:=by
 cases h:l.findIdx? p with
 |none =>
  left;refine⟨by simp[AE,h],?_⟩
  simp_all
 |some k =>
  right;have a:=h;rw[List.findIdx?_eq_some_iff_getElem]at h;obtain ⟨h1,h2,h3⟩:=h;refine⟨k,l[k],by simp[AE,a],m8 _,?_⟩;rw[List.find?_eq_some_iff_getElem]
  grind
theorem RK{p:α->Bool}{k}{a}(h:∀j,j<k->∀b,l[j]?=some b->p b=false)(hk:l[k]?=some a)(hp:p a=false):∀j,j<k+1->∀b,l[j]?=some b->p b=false:=G_
theorem Mh{p}{l:List α}(h:∀j,j<l.length->∀b,l[j]?=some b->p b=false):l.any p=false:=by
 rw[List.any_eq_false];intro x a;obtain ⟨j,hj⟩:=r_.1 a
 grind
theorem aCy{p}{l:List α}{a}(c:l[k]?=some a)(b:p a=true):l.any p=true:=List.any_eq_true.2 ⟨_,m7 c,b⟩
end Go.Proofs.YtopnleflllkbmaaGreatDoor
namespace Go.Abs
variable{H H':aF}{w w':World}{I:Nat->Prop}{ι:lP}{x:Obj}{zv:Value}{v0:AV}{id:Nat}{ob':Ob}
section
def HN(H:aF):aF->Prop
 | []=>True
 |(id,o)::r=>H.get id=some o/\HN H r
theorem HN.sub{H}:∀ {L},HN H L->Sub L H
 | [],_,id,o,h=>by cases h
 |(i,o')::r,h,id,o,a=>by
  simp[aF.get]at a;cases e:Nat.beq i _ with
  |true=>rw[e]at a;cases a;rw[<-Nat.eq_of_beq_eq_true e];exact h.1
  |false=>rw[e]at a;exact h.2.sub _ o a
theorem gC(D H)(k):aF.get (D++H) k=match D.get k with|some v=>some v|none=>H.get k:=PD D H k
theorem aS.frame{P:Program}{f:FuncId}{args:List AV}{H0 H1:aF}{r0:AV}(h:aS P f args H0 (fun r H'=>r=r0/\H'=H1))(A:Sub H0 H)(u:dD H0)(z_:∀a∈args,Clo H0 a)
  (hk:∀id,(H1.get id).isSome=true->(H0.get id).isSome=true\/H.get id=none):aS P f args H (fun r H'=>r=r0/\H'=H1++H):=by
 intro I L w vs F hl o_;refine(h I L w vs (F.restrict A u) hl (fun i v a g h2=>(o_ i v a g h2).restrict A (z_ a (m7 h2)))).mono ?_;rintro e w' ⟨r,H',T,D,v,rfl,⟨rfl,rfl⟩,k1,v_,n⟩;obtain ⟨s,hι2⟩:∃s:lP,s=(fun j=>if(H'.get j).isSome=true then D j else L j):=X_;have d_:∀j o,H'.get j=some o->s j=D j:=fun j o d=>by simp_all
 have c_:∀j,H'.get j=none->s j=L j:=fun j d=>by simp_all
 have g1:∀j o,H'.get j=some o->aF.get (H'++H) j=some o:=fun j o d=>by rw[gC,d]
 have G:∀j,H'.get j=none->aF.get (H'++H) j=H.get j:=fun j d=>by rw[gC,d]
 have y_:∀j o,H.get j=some o->H'.get j=none->H0.get j=none:=fun j o d K=>by
  cases e:H0.get j with
  |none=>rfl
  |some o0 =>
   obtain ⟨p,W,_⟩:=n.objs j o0 e
   simp_all
 have y:∀j o b c,H.get j=some o->H'.get j=none->L j=some (b,c)->¬ NF L H0 b:=fun j o b c d K f_ ⟨m,p,B,l,A_⟩=>by
  have:=F.inj j m o p b c B d (A _ _ l) f_ A_;subst this;rw[y_ j o d K]at l;cases l
 have e_:Step I L H w T s (H'++H) w':=by
  refine⟨n.os,n.tape,n.output,n.size,fun a z_ K=>n.froz a z_ (fun h=>K (h.sub A)),n.imm,fun b f_=>?_,?_,?_,?_⟩
  ·rcases n.immNew b f_ with g|g|g
   ·exact .inl g
   ·exact .inr (.inl (g.sub A))
   exact .inr (.inr g)
  ·rintro b ⟨j,o,c,d,u⟩;cases e:H'.get j with
   |some p =>
    rw[d_ j p e]at u;rcases n.own b ⟨j,p,c,e,u⟩with g|g
    ·exact .inl (g.sub A)
    exact .inr g
   |none =>
    rw[c_ j e]at u;rw[G j e]at d;exact .inl ⟨j,o,c,d,u⟩
  ·intro b f_ K;exact n.keep b f_ (fun h=>K (h.sub A))
  intro j o d;cases e:H'.get j with
  |some p =>
   rcases hk j (by rw[e];rfl)with g|g
   ·obtain ⟨o0,e0⟩:=Option.isSome_iff_exists.1 g;have:=A _ _ e0;rw[d]at this;cases this;obtain ⟨o2,q1,q2,q3⟩:=n.objs j o e0;exact⟨o2,g1 j o2 q1,q2,fun e=>by rw[d_ j o2 q1];exact q3 e⟩
   rw[d]at g;cases g
  |none=>exact⟨o,(G j e).trans d,j6 _,fun _=>⟨c_ j e,Z,fun _=>j6 _⟩⟩
 have N:∀ {v:Value} {a:AV},VRel w' T D H' v a->VRel w' T s (H'++H) v a:=fun hva =>
  hva.mono' (fun _ _=>rfl) (fun _ h=>h) (fun id o ho=>⟨o,g1 id o ho,j6 _,fun _=>⟨d_ id o ho,Z,fun _=>j6 _⟩⟩)
 refine⟨r,H'++H,T,s,v,Z,⟨Z,Z⟩,N k1,⟨v_.imm,fun j o d=>?_,fun j m o p b c B d l u k=>?_,v_.glob⟩,e_⟩
 ·cases e:H'.get j with
  |some p =>
   rw[g1 j p e]at d;obtain rfl:p=o:=Option.some.inj d;exact(v_.obj j p e).keep (d_ j p e) (fun _ _ _ _=>⟨Z,fun h=>h⟩) (fun r _ a _ v o_=>N o_)
  |none =>
   rw[G j e]at d;refine(F.obj j o d).keep (c_ j e) (fun u_ z W E=>⟨n.keep u_ E (y j o u_ z d e W),fun e3 hi=>?_⟩) (fun r _ a _ v o_=>o_.mono F e_);rcases n.immNew u_ hi with g|g|g
   ·exact e3 g
   ·exact y j o u_ z d e W g
   omega
 cases e:H'.get j with
 | some q =>
  rw[d_ j q e]at u;cases x:H'.get m with
  |some Q =>
   rw[d_ m Q x]at k;exact v_.inj j m q Q b c B e x u k
  |none =>
   rw[c_ m x]at k;rw[G m x]at l;have E:=F.lt ⟨m,p,B,l,k⟩;rcases n.own b ⟨j,q,c,e,u⟩with g|g
   ·exact absurd g (y m p b B l x k)
   omega
 | none =>
  rw[c_ j e]at u;rw[G j e]at d;cases x:H'.get m with
  |some Q =>
   rw[d_ m Q x]at k;have E:=F.lt ⟨j,o,c,d,u⟩;rcases n.own b ⟨m,Q,B,x,k⟩with g|g
   ·exact absurd g (y j o b c d e u)
   omega
  |none =>
   rw[c_ m x]at k;rw[G m x]at l;exact F.inj j m o p b c B d l u k
mutual
def sO(ρ:Nat->Nat):AV->AV
 |.any=>.any
 |.pv p=>.pv p
 |.ref id g i k=>.ref (ρ id) g i k
 |.pad rows i k=>.pad rows i k
 |.osl id g off len=>.osl (ρ id) g off len
 |.clo f caps=>.clo f (A9 ρ caps)
 |.bnd f xs=>.bnd f (A9 ρ xs)
 |.agg cs=>.agg (A9 ρ cs)
 |.tup vs=>.tup (A9 ρ vs)
 |.mp id g=>.mp (ρ id) g
 |.it id g=>.it (ρ id) g
 |.yld id g=>.yld (ρ id) g
 |.raw x ts=>.raw x ts
 |.osc id g off len c=>.osc (ρ id) g off len c
def A9(ρ:Nat->Nat):List AV->List AV
 | []=>[]
 |a::l=>sO ρ a::A9 ρ l
end
theorem nZ(ρ)(l):A9 ρ l=l.map (sO ρ):=by
 induction l with
 |nil=>rfl
 |cons a l b=>simp[A9,b]
def wG(ρ:Nat->Nat)(o:Ob):Ob:=⟨o.g,o.sz,o.ty,o.rows.map (A9 ρ)⟩
def HR(ρ:Nat->Nat)(H:aF):aF:=H.map fun p=>(ρ p.1,wG ρ p.2)
theorem Gb{ρ}{a}{y}{b}(h:sO ρ a=.raw y b):a=.raw y b:=by cases a<;>first|exact h|(cases h)
theorem Qt{ρ}(o):∀y e r',(wG ρ o).rows=[[.raw y e],r']->∃r,o.rows=[[.raw y e],r]:=by
 intro y e r' h;obtain ⟨g,sz,ty,rows⟩:=o;simp[wG]at h |-;cases rows with
 |nil=>grind
 | cons a rows =>
  cases rows with
  |nil=>grind
  | cons b rows =>
   cases rows with
   |cons c rows=>grind
   | nil =>
    simp[List.map_cons,List.map_nil,List.cons.injEq,and_true]at h;obtain ⟨d,_⟩:=h;cases a with
    |nil=>simp[A9]at d
    | cons x a =>
     cases a with
     |cons z a=>simp[A9]at d
     |nil =>
      simp[A9,List.cons.injEq,and_true]at d;exact⟨b,by rw[Gb d]⟩
section
variable{ρ:Nat->Nat}(hρ:∀n,ρ (ρ n)=n)
include hρ
theorem uT(H)(id):(HR ρ H).get (ρ id)=(H.get id).map (wG ρ):=by
 induction H with
 |nil=>rfl
 |cons p H a =>
  obtain ⟨i,o⟩:=p;simp[HR,List.map_cons,aF.get]at a |-;by_cases e:i=id
  ·simp_all
  have:ρ i≠ρ id:=fun h=>e G_;simp[jP e,jP this,a]
theorem BA(H)(id):(HR ρ H).get id=(H.get (ρ id)).map (wG ρ):=by
 have:=uT hρ H (ρ id)
 rwa [hρ]at this
theorem VRel.ren{v:Value}{a:AV}(h:VRel w I ι H v a):VRel w I (fun j=>ι (ρ j)) (HR ρ H) v (sO ρ a):=by
 induction h with
 |any v=>exact .any v
 |pv h=>exact .pv h
 |ref o f l c h =>
  refine .ref (wG ρ o) (by rw[uT hρ,f];rfl) l c (fun e=>?_);obtain ⟨g,b,q,s,k⟩:=h e;exact⟨g,b,q,F_,k⟩
 |pad b x q B h y u E D A d_=>exact .pad b x q B h y u E D A d_
 |osl o f l c h =>
  refine .osl (wG ρ o) (by rw[uT hρ,f];rfl) l c (fun e=>?_);obtain ⟨g,s,k⟩:=h e;refine⟨g,by simpa[wG]using s,?_⟩;rw[hρ];exact k
 |clo z h r =>
  unfold sO;rw[nZ];refine .clo F_ (fun i v a t d=>?_);rw[r6]at d;obtain ⟨p,m,rfl⟩:=Option.map_eq_some_iff.1 d;exact r i v p t m
 |bnd z h r =>
  unfold sO;rw[nZ];refine .bnd F_ (fun i v a t d=>?_);rw[r6]at d;obtain ⟨p,m,rfl⟩:=Option.map_eq_some_iff.1 d;exact r i v p t m
 |agg z c h r =>
  unfold sO;rw[nZ];refine .agg F_ c (fun i v a t d=>?_);rw[r6]at d;obtain ⟨p,m,rfl⟩:=Option.map_eq_some_iff.1 d;exact r i v p t m
 |tup z h r =>
  unfold sO;rw[nZ];refine .tup F_ (fun i v a t d=>?_);rw[r6]at d;obtain ⟨p,m,rfl⟩:=Option.map_eq_some_iff.1 d;exact r i v p t m
 |mp o f l c h =>
  refine .mp (wG ρ o) (by rw[uT hρ,f];rfl) l c (fun e=>?_);obtain ⟨g,b,s,k⟩:=h e;exact⟨g,b,F_,k⟩
 |it o f l c h =>
  refine .it (wG ρ o) (by rw[uT hρ,f];rfl) l c (fun e=>?_);obtain ⟨g,b,s,k⟩:=h e;exact⟨g,b,F_,k⟩
 |yld o f l c h =>
  refine .yld (wG ρ o) (by rw[uT hρ,f];rfl) l c (fun e=>?_);obtain ⟨g,b,s,k⟩:=h e;exact⟨g,b,F_,k⟩
 |osc o f l c h =>
  refine .osc (wG ρ o) (by rw[uT hρ,f];rfl) l c (fun e=>?_);obtain ⟨g,s,k⟩:=h e;refine⟨g,s,?_⟩;rw[hρ];exact k
theorem Rel.ren{w}{I}{ι}{H}(h:Rel I ι H w):Rel I (fun j=>ι (ρ j)) (HR ρ H) w:=by
 refine⟨h.imm,fun id o d=>?_,fun id id' o o' b c c' d e f m=>?_,h.glob⟩
 ·rw[BA hρ]at d;obtain ⟨s,p,rfl⟩:=Option.map_eq_some_iff.1 d;refine(h.obj _ _ p).keepG Z Z (by simp[wG]) (Qt _) Z (fun _ _ _ _=>⟨Z,fun h=>h⟩) (fun i r f=>?_);simp only[wG,r6]at f;obtain ⟨u,g,rfl⟩:=Option.map_eq_some_iff.1 f;refine⟨u,g,by rw[nZ,h_],fun k a a' l q v t=>?_⟩;rw[nZ,r6,l]at q;cases q;exact t.ren hρ
 rw[BA hρ]at d e;obtain ⟨s,p,rfl⟩:=Option.map_eq_some_iff.1 d;obtain ⟨o1,l,rfl⟩:=Option.map_eq_some_iff.1 e;have:=h.inj _ _ _ _ b c _ p l f m;rw[<-hρ id,this,hρ]
theorem Step.ren{r:Nat->Prop}{g:lP}(h:Step I ι H w r g H' w'):Step I (fun j=>ι (ρ j)) (HR ρ H) w r (fun j=>g (ρ j)) (HR ρ H') w':=by
 have f:∀ {ι:lP} {H:aF} {b:Nat},NF (fun j=>ι (ρ j)) (HR ρ H) b↔NF ι H b:=by
  intro ι H b;constructor
  ·rintro⟨id,o,c,d,q⟩;rw[BA hρ]at d;obtain ⟨l,p,rfl⟩:=Option.map_eq_some_iff.1 d;exact⟨_,l,c,p,q⟩
  rintro⟨id,o,c,d,q⟩;exact⟨ρ id,wG ρ o,c,by rw[uT hρ,d];rfl,F_⟩
 refine⟨h.os,h.tape,h.output,h.size,fun a x m=>h.froz a x (fun d=>m (f.2 d)),h.imm,fun b i=>?_,fun b i=>?_,fun b i m=>h.keep b i (fun d=>m (f.2 d)),fun id o d=>?_⟩
 ·rcases h.immNew b i with k|k|k;all_goals simp_all
 ·rcases h.own b (f.1 i)with k|k;all_goals simp_all
 rw[BA hρ]at d;obtain ⟨l,p,rfl⟩:=Option.map_eq_some_iff.1 d;obtain ⟨z,s,A,u⟩:=h.objs _ l p;exact⟨wG ρ z,by rw[BA hρ,s];rfl,A,fun e=>by
  obtain ⟨v,y,t⟩:=u e;exact⟨v,y,by simpa[wG]using t⟩⟩
theorem U7(l:List AV):A9 ρ (A9 ρ l)=l/\∀a∈l,sO ρ (sO ρ a)=a:=by
 have d:∀n:Nat,∀a:AV,SizeOf.sizeOf a<=n->sO ρ (sO ρ a)=a:=by
  intro n
  induction n with
  |zero=>intro a b;cases a<;>simp at b<;>omega
  | succ n o =>
   have q:∀l:List AV,SizeOf.sizeOf l<=n+1->A9 ρ (A9 ρ l)=l:=by
    intro l q;rw[nZ,nZ,List.map_map];have:∀a∈l,(sO ρ∘sO ρ) a=a:=fun a b=>o a (by have:=List.sizeOf_lt_of_mem b;omega);rw[List.map_congr_left this,List.map_id']
   intro a b;cases a with
   |any=>rfl
   |pv p=>rfl
   |ref id g i k=>simp only[sO,hρ]
   |pad rows i k=>rfl
   |osl id g h e=>simp only[sO,hρ]
   |clo f caps=>simp only[sO];grind
   |bnd f xs=>simp only[sO];grind
   |agg m=>simp only[sO];grind
   |tup m=>simp only[sO];grind
   |mp id g=>simp only[sO,hρ]
   |it id g=>simp only[sO,hρ]
   |yld id g=>simp only[sO,hρ]
   |raw x ts=>rfl
   |osc id g h e c=>simp only[sO,hρ]
 have j:∀a∈l,sO ρ (sO ρ a)=a:=fun a _=>d _ a (j6 _);refine⟨?_,j⟩;rw[nZ,nZ,List.map_map];have:∀a∈l,(sO ρ∘sO ρ) a=a:=j;rw[List.map_congr_left this,List.map_id']
theorem U8(H):HR ρ (HR ρ H)=H:=by
 simp[HR,List.map_map];have:∀p∈H,((fun p=>(ρ p.1,wG ρ p.2))∘fun p=>(ρ p.1,wG ρ p.2)) p=p:=by
  rintro⟨i,o⟩ _;simp[Function.comp,hρ,wG,List.map_map];have:∀r∈o.rows,(A9 _∘A9 _) r=r:=fun r _=>(U7 hρ r).1;rw[List.map_congr_left this,List.map_id']
 rw[List.map_congr_left this,List.map_id']
theorem aS.ren{P}{f}{args args'}{H H' H1 H1'}{r r'}(h:aS P f args H (fun x K=>x=r/\K=H1))(p:A9 ρ args=args')(t:HR ρ H=H')(o:sO ρ r=r')(g:HR ρ H1=H1'):
  aS P f args' H' (fun x K=>x=r'/\K=H1'):=by
 subst p t o g;intro I l w D c d_ u;have b:=c.ren hρ;rw[U8 hρ]at b;have k:D.size=args.length:=by rw[d_,nZ,h_]
 refine(h I _ w _ b k (fun i v a A m=>?_)).mono ?_
 ·have:=(u i v _ A (by rw[nZ,r6,m];rfl)).ren hρ
  rwa [U8 hρ,(U7 hρ [a]).2 a H_]at this
 rintro e w' ⟨x,K,z,ι',v,rfl,⟨rfl,rfl⟩,s,y,B⟩;have d:=B.ren hρ;have q:(fun j=>(fun j=>l (ρ j)) (ρ j))=l:=F_
 rw[q]at d;exact⟨_,_,z,_,v,Z,⟨Z,Z⟩,s.ren hρ,y.ren hρ,d⟩
end
end
section
structure KeyKind(α:Type) where
 d:TypeDesc
 pv:α->PV
 val:α->Value
 rel:∀(w:World) (I:Nat->Prop) (v:Value) (a:α),PRep w I v (pv a)->v=val a
 inj:∀a b,val a=val b->a=b
 is:∀a,MapKept.IsKey d (val a)
 rep:∀(w:World) (I:Nat->Prop) (a:α),PRep w I (val a) (pv a)
def JE:KeyKind B_:=⟨.string,.str,.string,fun _ _ _ _ h=>by cases h;rfl,fun _ _ h=>by cases h;rfl,fun _=>trivial,fun _ _ _=>.str _⟩
def Lj:KeyKind Bool:=⟨.bool,.bool,.bool,fun _ _ _ _ h=>by cases h;rfl,fun _ _ h=>by cases h;rfl,fun _=>trivial,fun _ _ _=>.bool _⟩
def rS{α:Type}(κ:KeyKind α)(l:List (α×AV)):List (List AV):=l.mapIdx fun i p=>[.pv (κ.pv p.1),p.2,.pv (.int .i64 i)]
theorem F2{α}{κ:KeyKind α}{l}{i:Nat}{r}:(rS κ l)[i]?=some r↔∃p,l[i]?=some p/\r=[.pv (κ.pv p.1),p.2,.pv (.int .i64 i)]:=by
 rw[rS]
 grind
theorem KF{α}(κ:KeyKind α)(l):(rS κ l).length=l.length:=by simp[rS]
theorem X6{α}{κ:KeyKind α}{H}{w}{I}{ι}{v}{k}(h:VRel w I ι H v (.pv (κ.pv k))):v=κ.val k:=κ.rel _ _ _ _ h.pv_inv
section
variable{α:Type}
structure MapAt(w:World)(I:Nat->Prop)(ι:lP)(H:aF)(κ:KeyKind α)(l:List (α×AV))(es:Array MapEntry):Prop where
 size:es.size=l.length
 rel:∀(i:Nat) (p:α×AV),l[i]?=some p->∃e,es[i]?=some e/\e.born=i/\e.key=κ.val p.1/\VRel w I ι H e.val p.2
theorem mu{w}{I}{ι}{H}{id b}{ob}{κ:KeyKind α}{l}(h:lN w I ι H id ob)(o:ob.sz=0)(d:ι id=some (b,0))(c:ob.rows=rS κ l):
  ∃f,w.heap[b]?=some (.map f ob.ty)/\¬ I b/\MapAt w I ι H κ l f:=by
 obtain ⟨_,b',f,g,r,t,u,e5,e6,v⟩:=h.map o d;rw[d]at g;cases g;refine⟨f,r,t,⟨by rw[u,c,KF],fun i p j=>?_⟩⟩;obtain ⟨e,k,a,n,q,y,s,x,m⟩:=v i _ (by rw[c];exact F2.2 ⟨p,j,Z⟩);cases y;exact⟨e,q,by injection m.int_inv with _ hh;omega,κ.rel _ _ _ _ s.pv_inv,x⟩
theorem MapAt.born{w}{I}{ι}{H}{κ:KeyKind α}{l}{c}(h:MapAt w I ι H κ l c){i}{e}(hi:c[i]?=some e):e.born=i/\i<l.length:=by
 have a:i<l.length:=by rw[<-h.size];grind
 obtain ⟨e',b,d,_⟩:=h.rel i _ (m8 a);rw[hi]at b;cases b;exact⟨d,a⟩
section
variable{id b cap:Nat}{ob ob':Ob}
def World.setObj(w:World)(b:Nat)(x:Obj):World:={w with heap:=w.heap.setIfInBounds b x}
def uc:Obj->Bool
 |.cells ..=>true
 |_=>false
theorem Rel.rewrite{x0:Obj}(g:Rel I ι H w)(B:H.get id=some ob)(k:ι id=some (b,cap))(hz:ob.sz=0)(o_:w.heap[b]?=some x0)(h0:uc x0=false)(hx:uc x=false)(hg:ob'.g=ob.g)(hz':ob'.sz=0)
  (n:w.heap.size=(World.setObj w b x).heap.size->(World.setObj w b x).heap[b]?=some x->¬ I b->(∀v a,VRel w I ι H v a->VRel (World.setObj w b x) I ι H' v a)->lN (World.setObj w b x) I ι H' id ob')
  (K:H'.get id=some ob') (G:∀j,j≠id->H'.get j=H.get j):Rel I ι H' (World.setObj w b x)/\Step I ι H w I ι H' (World.setObj w b x):=by
 have p:NF ι H b:=⟨id,ob,cap,B,k⟩;obtain ⟨A,i⟩:=MapKept.heap_set (w:=w) (o':=x) o_;have d:Step I ι H w I ι H' (World.setObj w b x):=by
  refine⟨Z,Z,Z,by simp[World.setObj],fun a _ _=>?_,fun _ h=>h,fun _ h=>.inl h,?_,?_,?_⟩
  ·by_cases e:a.block=b
   ·simp_all
   simp[World.frozen?,World.setObj,i _ e]
  ·rintro y ⟨j,o,c,f,d_⟩;by_cases e:j=id
   ·simp_all
   exact .inl ⟨j,o,c,(G j e).symm.trans f,d_⟩
  ·intro y _ s;exact i y (fun e=>s (e▸p))
  grind
 refine⟨⟨fun y s=>by simpa[World.setObj]using g.imm y s,?_,?_,d.glob g⟩,d⟩
 ·intro j o f;by_cases e:j=id
  ·subst e;rw[K]at f;cases f;exact n (by simp[World.setObj]) A ((g.obj j ob B).block k).2 (fun v a D=>D.mono g d)
  rw[G j e]at f;exact(g.obj j o f).keep Z (fun y c s _=>⟨i y (fun E=>e (g.inj j id o ob b c cap f B (E▸s) k)),fun h=>h⟩) (fun r _ a _ v D=>D.mono g d)
 intro j F o N y c L f u d_ t;have l:∀j o,H'.get j=some o->∃o,H.get j=some o:=by
  grind
 obtain ⟨q,c_⟩:=l j o f;obtain ⟨e_,z⟩:=l F N u;exact g.inj j F q e_ y c L c_ z d_ t
theorem Rel.remap{κ:KeyKind α}{l:List (α×AV)}{q c:Array MapEntry}{u:Nat}(z:Rel I ι H w)(x:H.get id=some ob)(g:ι id=some (b,0))(B:ob.sz=0)(y:w.heap[b]?=some (.map q u))(D:ob'.g=ob.g)(h:ob'.sz=0)(hty:ob'.ty=l.length)(a:ob'.rows=rS κ l)
  (f:MapAt w I ι H κ l c) (v:H'.get id=some ob') (E:∀j,j≠id->H'.get j=H.get j):Rel I ι H' (World.setObj w b (.map c l.length))/\Step I ι H w I ι H' (World.setObj w b (.map c l.length)):=by
 refine z.rewrite x g B y Z Z D h (fun _ hs1 A d=>?_) v E;refine .inr (.inl ⟨h,b,c,g,F_,A,by rw[f.size,a,KF],fun i e o=>?_,fun i j e e' hij o F=>?_,fun i r k=>?_⟩)
 ·obtain ⟨m,n⟩:=f.born o
  simp_all
 ·have m:=(f.born o).1;have n:=(f.born F).1;omega
 rw[a]at k;obtain ⟨p,s,rfl⟩:=F2.1 k;obtain ⟨e,m,n,d_,t⟩:=f.rel i p s;exact⟨e,_,_,_,m,Z,by rw[d_];exact .pv (κ.rep _ _ p.1),d _ _ t,by rw[n];exact .pv (.int _ _)⟩
end
theorem mq{w}{I}{ι}{H}{v}{id g}{ob}(h:VRel w I ι H v (.mp id g))(hH:H.get id=some ob)(hg:ob.g=g):ob.sz=0/\∃b,ι id=some (b,0)/\v=.map (some b):=by
 cases h with
 |mp o' h1 h2 _ h3 =>
  simp_all
variable [DecidableEq α]
def yU:List (α×AV)->α->Option AV
 | [],_=>none
 |(k',a)::r,k=>if k'=k then some a else yU r k
def wJ:List (α×AV)->α->AV->List (α×AV)
 | [],k,v=>[(k,v)]
 |(k',a)::r,k,v=>if k'=k then(k,v)::r else(k',a)::wJ r k v
def Tf:List (α×AV)->α->List (α×AV)
 | [],_=>[]
 |(k',a)::r,k=>if k'=k then r else(k',a)::Tf r k
theorem PG{w:World}{I:Nat->Prop}{ι:lP}{H:aF}(κ:KeyKind α)(k:α):∀(l:List (α×AV)) (g:List MapEntry) (i:Nat),g.length=l.length->(∀(i:Nat) (p:α×AV),l[i]?=some p->∃e,g[i]?=some e/\e.key=κ.val p.1/\VRel w I ι H e.val p.2) ->
  (Instr.findNow κ.d (κ.val k) g i=some none/\yU l k=none/\∀v,wJ l k v=l++[(k,v)]) \/
  ∃j e a,Instr.findNow κ.d (κ.val k) g i=some (some (i+j,e.val))/\g[j]?=some e/\e.key=κ.val k/\yU l k=some a/\VRel w I ι H e.val a/\l[j]?=some (k,a)/\(∀v,wJ l k v=l.set j (k,v))/\Tf l k=l.eraseIdx j
 | [],[],i,_,_=>.inl ⟨Z,Z,fun _=>rfl⟩
 | (n,a)::l,e::g,i,hl,x=>by
  obtain ⟨e0,d_,m,B⟩:=x 0 (n,a) Z;cases d_;obtain ⟨r,h,d⟩:=MapKept.sameNow_of_keys (κ.is k) (show MapKept.IsKey κ.d e.key by rw[m];exact κ.is n);by_cases f:n=k
  ·subst f;have t:r=true:=d.2 m.symm;subst t;exact .inr ⟨0,e,a,by simp[Instr.findNow,h],Z,m,by simp[yU],B,Z,fun v=>by simp[wJ],by simp[Tf]⟩
  have s:r=false:=by
   cases r with
   |false=>rfl
   |true=>exact absurd (κ.inj _ _ ((d.1 Z).trans m)).symm f
  subst s;rcases PG κ k l g (i+1) F_ (fun i p y=>x (i+1) p y)with⟨o,u,q⟩|⟨j,E,F,o,u,q,D,G,h6,A,z⟩
  ·exact .inl ⟨by simp[Instr.findNow,h,o],by simp[yU,f,u],fun v=>by simp[wJ,f,q]⟩
  exact .inr ⟨j+1,E,F,by simp[Instr.findNow,h,o];omega,F_,q,by simp[yU,f,D],G,F_,fun v=>by simp[wJ,f,A],by simp[Tf,f,z]⟩
section
variable{P:Program}{N:Nat}{o:Oper}{E:cY}{T kt et:TypeId}{x y z:Operand}{κ:KeyKind α}{l:List (α×AV)}{id g:Nat}{ob:Ob}{k:α}
theorem HV(u:o.op=.lookup T x y false)(A:P.underlying T=some (.map kt et))(hd:P.underlying kt=some κ.d)(o_:aO E x=some (.mp id g))(s:H.get id=some ob)(Q:ob.g=g)
  (d:ob.rows=rS κ l) (G:aO E y=some (.pv (κ.pv k))) (f_:∀w,(zeroValue et).run P w=.ok zv w) (D:ZV zv v0):cL P N o E H ((yU l k).getD v0) H :=
 .of_run fun a w I ι c_ t=>by
  obtain ⟨q,b,r,m⟩:=mq (aI t o_) s Q;obtain ⟨R,d_,e3,v⟩:=mu (c_.obj id ob s) q r d;have h:=X6 (aI t G);rcases PG κ k l R.toList 0 (by simpa using v.size) (fun i p u_=>let ⟨e,q1,_,e_⟩:=v.rel i p u_;⟨e,F_,e_⟩)with⟨n,B,L⟩|⟨j,e,a',n,B,L,F,K,_⟩
  ·refine⟨zv,?_,by rw[B];exact D.rel⟩;simp only[execOp,u,m,h];simp[Instr.lookup,run_underlying A,MapKept.run_getObj_map d_,MapKept.run_checkKey hd (κ.is k),MapKept.run_findKey hd n,f_]
  refine⟨e.val,?_,by rw[F];exact K⟩;simp only[execOp,u,m,h];simp[Instr.lookup,run_underlying A,MapKept.run_getObj_map d_,MapKept.run_checkKey hd (κ.is k),MapKept.run_findKey hd n]
theorem G6(D:o.op=.lookup T x y true)(c_:P.underlying T=some (.map kt et))(hd:P.underlying kt=some κ.d)(Q:aO E x=some (.mp id g))(o_:H.get id=some ob)(z_:ob.g=g)
  (f:ob.rows=rS κ l) (f_:aO E y=some (.pv (κ.pv k))) (hz:∀w,(zeroValue et).run P w=.ok zv w) (h:ZV zv v0):cL P N o E H (.tup [(yU l k).getD v0,.pv (.bool (yU l k).isSome)]) H :=
 .of_run fun a w I F R G=>by
  obtain ⟨A,b,B,s⟩:=mq (aI G Q) o_ z_;obtain ⟨u_,L,e3,K⟩:=mu (R.obj id ob o_) A B f;have n:=X6 (aI G f_);have r:∀ {u:Value} {a:AV} {c:Bool},VRel w I F H u a->VRel w I F H (.tuple #[u,.bool c]) (.tup [a,.pv (.bool c)]):=fun {u a c} y_=>.tup Z (fun i v q h t=>by
   match i with
   |0=>simp at h t;subst h t;exact y_
   |1=>simp at h t;subst h t;exact .pv (.bool _)
   |i+2=>simp at h)
  rcases PG κ k l u_.toList 0 (by simpa using K.size) (fun i p hp=>let ⟨e,q1,_,W⟩:=K.rel i p hp;⟨e,F_,W⟩)with⟨d_,e_,v_⟩|⟨j,e,a',d_,e_,v_,h4,A_,_⟩
  ·refine⟨.tuple #[zv,.bool false],?_,by rw[e_];exact r h.rel⟩;simp only[execOp,D,s,n];simp[Instr.lookup,run_underlying c_,MapKept.run_getObj_map L,MapKept.run_checkKey hd (κ.is k),MapKept.run_findKey hd d_,hz]
  refine⟨.tuple #[e.val,.bool true],?_,by rw[h4];exact r A_⟩;simp only[execOp,D,s,n];simp[Instr.lookup,run_underlying c_,MapKept.run_getObj_map L,MapKept.run_checkKey hd (κ.is k),MapKept.run_findKey hd d_]
theorem T0{v:AV}{H2:aF}(d_:o.op=.mapUpdate T x y z\/o.op=.insert T x y z)(hT:P.underlying T=some (.map kt et))(hd:P.underlying kt=some κ.d)(hx:aO E x=some (.mp id g))(A_:H.get id=some ob)(hg:ob.g=g)
  (hty:ob.ty=l.length) (s:ob.rows=rS κ l) (hy:aO E y=some (.pv (κ.pv k))) (hz:aO E z=some v) (v_:H.set id {ob with ty:=(wJ l k v).length,rows:=rS κ (wJ l k v)}=H2):cL P N o E H .any H2:=by
 intro a w I ι _ _ hr he K Q c_;obtain ⟨r,b,G,D⟩:=mq (aI he hx) A_ hg;obtain ⟨R,A,e3,n⟩:=mu (hr.obj id ob A_) r G s;rw[hty]at A;have B:=X6 (aI he hy);have L:=aI he hz;subst v_;have o_:∀t,(Instr.mapUpdate T (a.eval x) (a.eval y) (a.eval z)).run P w=.ok () (World.setObj w b (.map t (wJ l k v).length))->MapAt w I ι H κ (wJ l k v) t->o.wpW P a w K Q:=by
  intro t q hm;obtain ⟨k2,k3⟩:=Rel.remap (H':=H.set id {ob with ty:=(wJ l k v).length,rows:=rS κ (wJ l k v)}) (ob':={ob with ty:=(wJ l k v).length,rows:=rS κ (wJ l k v)}) hr A_ G r A Z r Z Z hm (aF.get_set_same _ _ _) (fun j u=>aF.get_set_other _ _ u);unfold Oper.wpW execOp;rcases d_ with d_|d_
  ·simp only[d_,Sem.run_bind,q,Result.andThen_ok,Sem.run_pure];exact c_ _ _ I ι _ _ ⟨Z,Z⟩ (.any _) k2 k3
  simp only[d_,Sem.run_bind,q,Result.andThen_ok,Sem.run_pure];exact c_ _ _ I ι _ _ ⟨Z,Z⟩ (.any _) k2 k3
 rcases PG κ k l R.toList 0 (by simpa using n.size) (fun i p f=>let ⟨e,u_,_,q3⟩:=n.rel i p f;⟨e,F_,q3⟩)with⟨y_,h2,F⟩|⟨j,e,a',y_,h2,F,h4,h5,h6,f_,h8⟩
 ·refine o_ (R.push {key:=κ.val k,val:=a.eval z,born:=l.length}) ?_ ⟨?_,?_⟩
  ·simp[Instr.mapUpdate,D,B,run_underlying hT,MapKept.run_getObj_map A,MapKept.run_checkKey hd (κ.is k),MapKept.run_findKey hd y_,MapKept.run_setObj_map _ A,World.setObj,F]
  ·rw[F];simp[n.size]
  intro i p f;rw[F]at f;by_cases hi:i<l.length
  ·rw[List.getElem?_append_left hi]at f;obtain ⟨e,u_,q2⟩:=n.rel i p f
   grind
  rw[List.getElem?_append_right X]at f;cases e_:i - l.length with
  |zero =>
   rw[e_]at f;cases f;exact⟨_,by rw[Array.getElem?_push,b6 (by rw[n.size];omega)],by show l.length=i;omega,Z,L⟩
  |succ m=>rw[e_]at f;simp at f
 have u:R[j]?=some e:=by simpa using h2
 have z_:j<R.size:=(Array.getElem?_eq_some_iff.1 u).1;have W:(wJ l k v).length=l.length:=by rw[f_];simp
 refine o_ (R.modify j fun e=>{e with key:=κ.val k,val:=a.eval z}) ?_ ⟨?_,?_⟩
 ·simp[Instr.mapUpdate,D,B,run_underlying hT,MapKept.run_getObj_map A,MapKept.run_checkKey hd (κ.is k),MapKept.run_findKey hd y_,u,F,MapKept.run_keyThatStays (κ.is k),MapKept.run_setObj_map _ A,World.setObj,W]
 ·rw[f_];simp[n.size]
 intro i p f;rw[f_]at f;by_cases e:i=j
 ·subst e;rw[List.getElem?_set_self (by rw[<-n.size];exact z_)]at f;cases f;exact⟨{e with key:=κ.val k,val:=a.eval z},by rw[Array.getElem?_modify,b6 Z,u];rfl,(n.born u).1,Z,L⟩
 rw[List.getElem?_set_ne (Ne.symm e)]at f;obtain ⟨e',u_,q2⟩:=n.rel i p f;exact⟨e',by rw[Array.getElem?_modify,a8 (Ne.symm e)];exact u_,q2⟩
theorem Rel.placeX{cap:Nat}{x:Obj}(n:Rel I ι H w)(G:w'.os=w.os)(q:w'.tape=w.tape)(D:w'.output=w.output)(hw:w'.heap=w.heap.push x)
  (hold:∀o,H.get id=some o->o.g<ob'.g)
  (F:w'.heap[w.heap.size]?=some x->¬ I w.heap.size->(∀v a,VRel w I ι H v a->VRel w' I (fun j=>if j=id then some (w.heap.size,cap)else ι j) H' v a)->lN w' I (fun j=>if j=id then some (w.heap.size,cap)else ι j) H' id ob')
  (Q:H'.get id=some ob') (u:∀j,j≠id->H'.get j=H.get j) :
  Rel I (fun j=>if j=id then some (w.heap.size,cap)else ι j) H' w'/\Step I ι H w I (fun j=>if j=id then some (w.heap.size,cap)else ι j) H' w':=by
 have A:w'.heap[w.heap.size]?=some x:=F_
 have b:∀x,x<w.heap.size->w'.heap[x]?=w.heap[x]?:=fun x s=>by grind
 have hsize:w'.heap.size=w.heap.size+1:=F_
 have m:Step I ι H w I (fun j=>if j=id then some (w.heap.size,cap)else ι j) H' w':=by
  refine⟨G,q,D,X,fun a e_ _=>?_,fun _ h=>h,fun _ h=>.inl h,?_,fun x s _=>b x s,?_⟩
  ·simp[World.frozen?,b a.block e_]
  ·rintro x ⟨j,o,c,p,i⟩;by_cases e:j=id
   ·simp only[e,if_true]at i;cases i;exact .inr (j6 _)
   simp only[e,if_false]at i;exact .inl ⟨j,o,c,(u j e).symm.trans p,i⟩
  grind
 refine⟨⟨fun x s=>by have:=n.imm x s;omega,?_,?_,m.glob n⟩,m⟩
 ·intro j o p;by_cases e:j=id
  ·subst e;rw[Q]at p;cases p;exact F A (fun o_=>Nat.lt_irrefl _ (n.imm _ o_)) (fun v a c_=>c_.mono n m)
  rw[u j e]at p;exact(n.obj j o p).keep (by simp[e]) (fun x c _ s=>⟨b x s,fun h=>h⟩) (fun r _ a _ v c_=>c_.mono n m)
 intro j d_ o L x c K p B i f;by_cases e:j=id<;>by_cases t:d_=id
 ·rw[e,t]
 ·simp only[e,if_true]at i;simp only[t,if_false]at f;cases i;have:=n.lt ⟨d_,L,K,(u d_ t).symm.trans B,f⟩;exact absurd this (Nat.lt_irrefl _)
 ·simp only[e,if_false]at i;simp only[t,if_true]at f;cases f;have:=n.lt ⟨j,o,c,(u j e).symm.trans p,i⟩;exact absurd this (Nat.lt_irrefl _)
 simp only[e,if_false]at i;simp only[t,if_false]at f;exact n.inj j d_ o L x c K ((u j e).symm.trans p) ((u d_ t).symm.trans B) i f
theorem Rel.placeM(i:Rel I ι H w)(e:w'.os=w.os)(a:w'.tape=w.tape)(c:w'.output=w.output)(n:w'.heap=w.heap.push (.map #[] 0))
  (b:∀o,H.get id=some o->o.g<ob'.g) (d:ob'.sz=0) (hty:ob'.ty=0) (hrows:ob'.rows=[]) (f:H'.get id=some ob') (m:∀j,j≠id->H'.get j=H.get j) :
  Rel I (fun j=>if j=id then some (w.heap.size,0)else ι j) H' w'/\Step I ι H w I (fun j=>if j=id then some (w.heap.size,0)else ι j) H' w' :=
 i.placeX e a c n b (fun hnew h _=>.inr (.inl ⟨d,w.heap.size,#[],H_,F_,h,F_,H_,H_,F_⟩)) f m
theorem Tn{I}{ι}{w}{id gg}(c:Rel I ι H w)(b:∀o,H.get id=some o->o.g<gg):
  ∃a,VRel (w.alloc (.map #[] 0)) I a ((id,⟨gg,0,0,[]⟩)::H) (.map (some w.heap.size)) (.mp id gg)/\Rel I a ((id,⟨gg,0,0,[]⟩)::H) (w.alloc (.map #[] 0))/\Step I ι H w I a ((id,⟨gg,0,0,[]⟩)::H) (w.alloc (.map #[] 0)):=by
 obtain ⟨d,f⟩:=Rel.placeM (ob':=⟨gg,0,0,[]⟩) (w':=w.alloc _) c Z Z Z Z b Z Z Z (get_cons_same _ _ _) (fun j e=>get_cons_other _ _ e);exact⟨_,.mp _ (get_cons_same _ _ _) (j6 _) Z fun _=>⟨Z,w.heap.size,H_,Z⟩,d,f⟩
theorem uY{α}(κ:KeyKind α)(b:o.op=.makeMap T none)(hid:H.get id=none):cL P N o E H (.mp id 0) ((id,⟨0,0,([]:List (α×AV)).length,rS κ []⟩)::H):=by intro a w I ι _ _ h he K Q d;obtain ⟨ι',e,c,f⟩:=Tn (id:=id) h (fun o b=>by simp_all);unfold Oper.wpW execOp;simp[b,Instr.makeMap,Option.map_none,Sem.run_bind,run_newObj,Sem.run_pure,Result.andThen_ok];exact d _ _ I _ _ _ ⟨Z,Z⟩ e c f
theorem yV{v}{b}(f:o.op=.mapUpdate T x y z\/o.op=.insert T x y z)(i:P.underlying T=some (.map kt et))(hd:P.underlying kt=some κ.d)(j:aO E x=some (.mp id g))(e:H.get id=some ob)(d:ob.g=g)
  (c:ob.ty=l.length) (a:ob.rows=rS κ l) (h:aO E y=some (.pv (κ.pv k))) (n:aO E z=some v) (m:wJ l k v=b):cL P N o E H .any ((id,⟨g,ob.sz,b.length,rS κ b⟩)::H):=by
 subst d m;exact(T0 f i hd j e Z c a h n Z).congr (xM _ _ _)
end
end
end
section
theorem Jj{w}{I}{ι}{H}{v}{id g}{ob}(h:VRel w I ι H v (.it id g))(hH:H.get id=some ob)(hg:ob.g=g):ob.sz=0/\∃b,ι id=some (b,1)/\v=.pointer (some ⟨b,0,none⟩):=by
 cases h with
 |it o' h1 h2 _ h3 =>
  simp_all
section
variable{P:Program}{N:Nat}{o:Oper}{E:cY}{f:Operand}{args:Array Operand}{at_:Array TypeId}{F:FuncId}{fn:Func}{e:Array Value->Sem Value}{vs:List AV}{r:AV}
def Vo(P:Program)(e:Array Value->Sem Value)(H:aF)(vs:List AV)(r:AV):Prop :=∀(w:World) (I:Nat->Prop) (ι:lP) (cs:Array Value),cs.size=vs.length->(∀(i:Nat) (v:Value) (a:AV),cs[i]?=some v->vs[i]?=some a->VRel w I ι H v a)->∃c,(e cs).run P w=.ok c w/\VRel w I ι H c r
theorem O3(p:o.op=.call {callee:=.value f,args:=args,argTypes:=at_})(x:aO E f=some (.pv (.fn F)))(s:P.funcs[F]?=some fn)(g:(fn.name == "runtime.NumGoroutine")=false)
  (k:fn.body.isNone=true) (q:Extern.findNext fn=none) (u:Extern.find fn=some e) (n:yL E args.toList=some vs) (h:Vo P e H vs r):cL P N o E H r H :=
 .of_run fun a w I z hr m=>by
  have l:=(aI m x).fn_inv;obtain ⟨h1,y⟩:=pD m (nS n);obtain ⟨c,t,j⟩:=h w I z (args.map a.eval) F_ (fun i v b n k=>y i v b F_ k);refine⟨c,?_,j⟩;unfold execOp;simp only[p,resolve,l,Deferred.ofValue,Sem.run_bind,Sem.run_pure,Result.andThen_ok,invoke,Array.empty_append,Array.append_empty,run_callFunc_extern s g k q u,t]
theorem ai{w}{I}{ι}{H}{x y}{cs}(b:cs.size=[x,y].length)(h:∀(i:Nat) (v) (a),cs[i]?=some v->[x,y][i]?=some a->VRel w I ι H v a):∃u v,cs=#[u,v]/\VRel w I ι H u x/\VRel w I ι H v y:=by
 obtain ⟨l⟩:=cs
 match l,b with
 | [u,v],_=>exact⟨u,v,Z,h 0 u x Z Z,h 1 v y Z Z⟩
theorem UG(s)(c):Vo P Extern.BytealgIndexByte.indexByte H [.pv (.str s),.pv (.int .u8 c)] (.pv (.int .i64 (Lib.indexByte s.data.toList c.toNat.toUInt8))):=by intro w I ι cs b h;obtain ⟨u,v,rfl,d,g⟩:=ai b h;rw[d.str_inv,g.int_inv];exact⟨_,Lib.run_indexByteString s c w,.pv (.int _ _)⟩
end
theorem kI{P}{G0}{N}{ops}{K}{E:cY}{H}{l}{t:Tmp}{v}(hb:E.get t=some v)(h:AL P G0 N ops K l ((t,v)::E) H):AL P G0 N ops K l E H:=by
 intro G c a w d;refine h G c a w (cJ.sub (fun k u b=>?_) G c N a w d);by_cases e:t=k
 ·subst e;rw[cY.get_cons_same]at b
  grind
 rwa [cY.get_cons_other _ _ e]at b
end
end Go.Abs
namespace Go.Proofs.YtopnleflllkbmaaGreatDoor
open Go.Proofs.Tryz
open Go.Abs
variable{c:Nat}{α:Type}
abbrev RC(f : FuncId)(a : List AV)(x : AV)(H : aF): Prop := aS Tryz.prog f a H (fun r H' => r = x /\ H' = H)
theorem zW(s:B_)(c:Int)(H:aF):RC 250 [.pv (.str s),.pv (.int .u8 c)] (.pv (.int .i64 (Lib.indexByte s.data.toList c.toNat.toUInt8))) H:=by refine Pu ?_;exact Bd func250 Z ntmps250<|Sz U<|C V<|Y V<|Y (O3 Z Z func279 Z Z Z Z Z (UG s c))<|O U<|aC<|Rt<|Qq
theorem rV(s)(c)(H):RC 199 [.pv (.str s),.pv (.int .u8 c)] (.pv (.int .i64 (Lib.indexByte s.data.toList c.toNat.toUInt8))) H:=by refine Pu ?_;exact Bd func199 Z ntmps199<|Sz U<|C V<|Y V<|Y (bF Z Z aEN Z (zW s c _))<|O U<|aC<|Rt<|Qq
abbrev Yk:B_:=⟨#[32,9,10]⟩
abbrev aDc:B_:=⟨#[59,44,46,58,40,41,123,125,91,93,61,60,62,47,45]⟩
def nj(s:B_)(n:Int):Bool:=decide (0<=Lib.indexByte s.data.toList n.toNat.toUInt8)
def vE(n:Int):Bool:=(decide (97<=n)&&decide (n<=122))||(decide (65<=n)&&decide (n<=90))
def xY(n:Int):Bool:=decide (48<=n)&&decide (n<=57)
def GP(n:Int):Int:=if vE n then 3 else if xY n then 4 else if nj Yk n then 1 else if nj aDc n then 6 else 0
def yG(n:Int):Int:=if n=34 then 7 else if n=95 then 5 else if n=35 then 2 else GP n
def sZ(c:Nat):List AV:=(List.range 256).map fun(i:Nat)=>.pv (.int .u8 (if i<c then GP i else 0))
def vW:List AV:=(List.range 256).map fun(i:Nat)=>.pv (.int .u8 (yG i))
theorem kM(c):(sZ c).length=256:=rfl
theorem uE(hc:c<256){v}(a:GP c=v):(sZ c).set c (.pv (.int .u8 v))=sZ (c+1):=by
 apply List.ext_getElem
 ·simp[sZ]
 intro i h1 h2;rw[List.getElem_set]
 split
 ·next e=>subst e;simp[sZ,a]
 next e=>simp[sZ,List.getElem_map,List.getElem_range];grind
theorem gd(b:c<256)(a:GP c=0):sZ c=sZ (c+1):=by
 rw[<-uE b a];apply List.ext_getElem
 ·simp
 intro i h1 h2;rw[List.getElem_set]
 split
 ·next e=>subst e;simp[sZ]
 rfl
theorem gb:List.replicate 256 (.pv (.int .u8 0))=sZ 0:=rfl
theorem gf:(((sZ 256).set 35 (.pv (.int .u8 2))).set 95 (.pv (.int .u8 5))).set 34 (.pv (.int .u8 7))=vW:=by kernel_rfl
theorem ou{m}(h:m<256):vW[m]?=some (.pv (.int .u8 (yG m))):=by simp[vW,h]
theorem oN(c)(H):∀r∈[sZ c],∀a∈r,Clo H a:=by intro r b a d;rw[q_]at b;subst b;obtain ⟨i,_,rfl⟩:=List.mem_map.1 d;simp
instance(c)(H):W_ (H) ([sZ c]):=⟨oN c H⟩
theorem ga(H):Clo H (.agg vW):=by rw[ZF];intro a b;obtain ⟨i,_,rfl⟩:=List.mem_map.1 b;simp
theorem po:eO Tryz.prog 223 (List.replicate 256 (.pv (.int .u8 0))):=⟨_,.agg _,zeroValue223,.inl (Z),Z⟩
theorem W7 (H:aF):RC 211 [] (.agg vW) H:=by
  refine Pu<|Bd func211 Z ntmps211<|Sz (kl 0 po)<|Sz (kl 1 po)<|S<|Sz V<|aD ?_;rw[gb];refine bC (σ:=Nat) (fun c=>([(0,.ref 0 0 0 0),(1,.ref 1 0 0 0),(4,iv (c:Int))],[(1,bx 256 223 (sZ c)),(0,bx 256 223 (sZ 0))])) (fun c=>c<=256) (fun c=>256 - c) 0 (by omega) ?_ ?_
  · exact(cJ.wk (Ea<|Ea<|Eb<|T_) (Hc (oN _ _)<|Hc (oN _ _)<|T_) T_)
  · intro c hc
    refine Sz cM<|S<|Cn ?_ ?_<;>intro n
    · have d:c<256:=by have:=b9 n;omega
      refine aA<|S<|aD<|C V<|O U<|C V<|Y (by exact eP Z underlying3 dM Z (by exact wu8 (by omega) (by omega)))<|O U<|aD<|S<|S<|aR (t:=9) (n:=8) (A_:=decide (97<=(c:Int))&&decide ((c:Int)<=122)) ?_ ?_
      · all_goals refine Y V<|Y IA<|Dm ?_<;>(refine Sp 12 (fun m=>?_) fun m=>?_)<;>(first|contradiction|refine M<|M ?_|refine J V<|J IA ?_)<;>refine Y cE<|Da ?_<;>(exact⟨⟨_,Z,by grind⟩,Z,Z,Z⟩)
      refine Cn ?_ ?_<;>intro b
      · have f:GP c=3:=by rw[GP,vE,b];rfl
        refine aA<|Cn ?_ ?_<;>intro j
        · skip
          refine Rd V<|Y (by exact eK (k2:=c) Z gE cK Z Z Z Z (by omega) (by exact l8 _) (by omega) (by omega))<|Uu (by exact cQ Z cK Z Z Z Z Z Z (by rw[kM];omega) (uE d f) Z)<|Zz<|Rd gT<|O V ?_;exact⟨c+1,by omega,by omega,(cJ.wk (Ea<|Ea<|Eb<|T_) (Hc (oN _ _)<|Hc (oN _ _)<|T_) T_)⟩
        · rw[b]at j;cases j
      · skip
        refine aR (t:=9) (n:=8) (A_:=decide (65<=(c:Int))&&decide ((c:Int)<=90)) ?_ ?_
        · all_goals refine Y V<|Y IA<|Dm ?_<;>(refine Sp 18 (fun k=>?_) fun k=>?_)<;>(first|contradiction|refine M<|M ?_|refine J V<|J IA ?_)<;>refine Y cE<|Da ?_<;>(exact⟨⟨_,Z,by grind⟩,Z,Z,Z⟩)
        refine Cn ?_ ?_<;>intro e
        · have f:GP c=3:=by rw[GP,vE,b,e];rfl
          refine Rd V<|Y (by exact eK (k2:=c) Z gE cK Z Z Z Z (by omega) (by exact l8 _) (by omega) (by omega))<|Uu (by exact cQ Z cK Z Z Z Z Z Z (by rw[kM];omega) (uE d f) Z)<|Zz<|Rd gT<|O V ?_;exact⟨c+1,by omega,by omega,(cJ.wk (Ea<|Ea<|Eb<|T_) (Hc (oN _ _)<|Hc (oN _ _)<|T_) T_)⟩
        · skip
          refine S<|aR (t:=24) (n:=8) (A_:=decide (48<=(c:Int))&&decide ((c:Int)<=57)) ?_ ?_
          · all_goals refine Y V<|Y IA<|Dm ?_<;>(refine Sp 27 (fun l=>?_) fun l=>?_)<;>(first|contradiction|refine M<|M ?_|refine J V<|J IA ?_)<;>refine Y cE<|Da ?_<;>(exact⟨⟨_,Z,by grind⟩,Z,Z,Z⟩)
          refine Cn ?_ ?_<;>intro g
          · have f:GP c=4:=by rw[GP,vE,b,e,xY,g];rfl
            refine Rd V<|Y (by exact eK (k2:=c) Z gE cK Z Z Z Z (by omega) (by exact l8 _) (by omega) (by omega))<|Uu (by exact cQ Z cK Z Z Z Z Z Z (by rw[kM];omega) (uE d f) Z)<|Zz<|Rd gT<|O V ?_;exact⟨c+1,by omega,by omega,(cJ.wk (Ea<|Ea<|Eb<|T_) (Hc (oN _ _)<|Hc (oN _ _)<|T_) T_)⟩
          · skip
            refine C V<|Y (kc AU (rV _ _ _))<|Y B0<|Da<|Cn ?_ ?_<;>intro h
            · have f:GP c=1:=by rw[GP,vE,b,e,xY,g,nj,h];rfl
              refine Rd V<|Y (by exact eK (k2:=c) Z gE cK Z Z Z Z (by omega) (by exact l8 _) (by omega) (by omega))<|Uu (by exact cQ Z cK Z Z Z Z Z Z (by rw[kM];omega) (uE d f) Z)<|Zz<|Rd gT<|O V ?_;exact⟨c+1,by omega,by omega,(cJ.wk (Ea<|Ea<|Eb<|T_) (Hc (oN _ _)<|Hc (oN _ _)<|T_) T_)⟩
            · skip
              refine C V<|Y (kc AU (rV _ _ _))<|Y B0<|Da<|Cn ?_ ?_<;>intro i
              · have f:GP c=6:=by rw[GP,vE,b,e,xY,g,nj,h,nj,i];rfl
                refine Rd V<|Y (by exact eK (k2:=c) Z gE cK Z Z Z Z (by omega) (by exact l8 _) (by omega) (by omega))<|Uu (by exact cQ Z cK Z Z Z Z Z Z (by rw[kM];omega) (uE d f) Z)<|Zz<|Rd gT<|O V ?_;exact⟨c+1,by omega,by omega,(cJ.wk (Ea<|Ea<|Eb<|T_) (Hc (oN _ _)<|Hc (oN _ _)<|T_) T_)⟩
              · have f:GP c=0:=by rw[GP,vE,b,e,xY,g,nj,h,nj,i];rfl
                refine aA<|Rd gT<|O V ?_;rw[gd d f];exact⟨c+1,by omega,by omega,(cJ.wk (Ea<|Ea<|Eb<|T_) (Hc (oN _ _)<|Hc (oN _ _)<|T_) T_)⟩
    · have:c=256:=by grind
      subst this;refine aP<|C (by exact eK (k2:=35) Z gE cK Z Z Z Z (by omega) Z (by omega) Z)<|Uu (by exact cQ Z cK Z Z Z Z Z Z (by simp[kM]) Z Z)<|Y (by exact eK (k2:=95) Z gE cK Z Z Z Z (by omega) Z (by omega) Z)<|Uu (by exact cQ Z cK Z Z Z Z Z Z (by simp[kM]) Z Z)<|Y (by exact eK (k2:=34) Z gE cK Z Z Z Z (by omega) Z (by omega) Z)<|Uu (by exact cQ Z cK Z Z Z Z Z Z (by simp[kM]) Z Z)<|Zz<|C (by exact aW Z aDI AO Z Z Z Z (show List.take 256 (List.drop 0 _)=vW by rw[<-gf];rfl) Z)<|Uu (iU AO)<|Zz<|aC ?_;refine cR (H':=[]) (.inr Z) Z (eV Z aDI AO Z Z Z (show List.take 256 (List.drop 0 vW)=vW by rfl) Z) (Fin.wk (by exact ga _) T_ T_) ?_;exact Qq
abbrev a6:B_:=⟨#[]⟩
theorem M6(s)(k):0<=bA s k:=by unfold bA;omega
theorem BU(s)(k):(bA s k).toNat<256:=by
 unfold bA;have:=(((s.data.toList[k]?).getD 0)).toNat_lt
 simpa using this
theorem Wv(s)(k):vW[(bA s k).toNat]?=some (.pv (.int .u8 (yG (bA s k)))):=by rw[ou (BU s k),Int.toNat_of_nonneg (M6 s k)]
theorem jX(H):∀r∈[vW],∀a∈r,Clo H a:=by intro r b a c;rw[q_]at b;subst b;have:=ga H;rw[ZF]at this;exact this a c
instance(H):W_ (H) ([vW]):=⟨jX H⟩
def gj(s:B_)(k:Nat):Bool:=!decide (yG (bA s k)=3)&&(decide ((k:Int)=0)||(!decide (yG (bA s k)=4)&&!decide (yG (bA s k)=5)))
def cG(s:B_):Bool:=!((List.range s.size).any (gj s))&&(!decide (s=a6)&&decide ((s.size:Int)<=24))
theorem BB{n}{p}(h:∀j,j<n->p j=false):(List.range n).any p=false:=F_
theorem tX{n k}{p}(a:k<n)(h:p k=true):(List.range n).any p=true:=List.any_eq_true.2 ⟨k,List.mem_range.2 a,h⟩
theorem CQ(s:B_)(H:aF)(hs:s.size<2^62):RC 154 [sv s] (bv (cG s)) H:=by
 refine Pu<|Bd func154 Z ntmps154<|Sz U<|C (kc call211 (W7 _))<|Y (kl 3 po)<|Uu (lQ Z AO Z Z Z Z Z Z Z H_)<|Zz<|S<|C V<|Y (gM U_)<|O V<|aD<|bC (σ:=Nat) (fun k=>([(0,sv s),(3,.ref 3 0 0 0),(8,iv (s.size:Int)),(9,iv (k:Int))],[(3,bx 256 223 vW)])) (fun k=>k<=s.size/\∀j,j<k->gj s j=false) (fun k=>s.size - k) 0 ⟨X,X⟩ ?_ ?_
 ·exact L_
 rintro k ⟨hk,g⟩;refine Sz cM<|S<|Cn ?_ ?_<;>intro c
 ·have h:k<s.size:=I_ c
  refine aA<|S<|aD<|C V<|O U<|C V<|Y V<|Y (ky U_)<|Y (eK (m:=(bA s k).toNat) (k2:=(bA s k).toNat) Z gE cK Z Z Z Z (M6 s k) Z (BU s k) X)<|Y (aX Z uI Z Z Z Z (Wv s k))<|O U<|S<|aR (t:=30) (n:=17) (A_:=gj s k) ?_ ?_
  ·all_goals refine Y V<|Y AY<|Dm ?_<;>(refine Sp 19 (fun f=>?_) fun f=>?_)<;>(first|contradiction|refine M<|M<|M ?_|refine J V<|J cD<|J V ?_)<;>(first|refine Sp 22 (fun l=>?_) fun l=>?_|refine kI (t:=22) Z ?_)<;>(first|contradiction|refine M ?_|refine Fu ?_|refine J V ?_)<;>(first|refine M ?_|refine Fu ?_|refine J AY ?_)<;>(first|refine M ?_|refine Fu ?_|refine J V ?_)<;>(first|refine Sp 25 (fun e=>?_) fun e=>?_|refine kI (t:=25) Z ?_)<;>(first|contradiction|refine M ?_|refine Fu ?_|refine J V ?_)<;>(first|refine M ?_|refine Fu ?_|refine J AY ?_)<;>(first|refine M ?_|refine Fu ?_|refine J cE ?_)<;>(first|refine M ?_|refine J cE ?_)<;>refine O cE ?_<;>exact Gj (h:=by(simp only[gj, *];rfl))
  refine Cn ?_ ?_<;>intro d
  ·refine Sz U<|aC<|Rt ?_;exact⟨by rw[cG,tX h d];rfl,Z⟩
  refine aA<|Rd gT<|O V ?_;refine⟨k+1,⟨X,fun j hj=>?_⟩,X,L_⟩
  grind
 have i:k=s.size:=J_ c
 refine aP<|S<|aR (t:=2) (n:=9) (A_:=!decide (s=a6)&&decide ((s.size:Int)<=24)) ?_ ?_
 ·all_goals refine Y V<|Y GU<|Dm ?_<;>(refine Sp 34 (fun m=>?_) fun m=>?_)<;>(first|contradiction|refine M<|M<|M ?_|refine J V<|J (gM U_)<|J IA ?_)<;>refine Y cE<|Da ?_<;>exact Gj (h:=by simp_all)
 refine aC<|Rt ?_;subst i;exact⟨by rw[cG,BB g];rfl,Z⟩
def big:Nat:=4611686018427387904
def kH{α:Type}(f:α->B_)(l:List α):Nat->B_
 |0=>a6
 |k+1=>((l[k]?).map f).getD a6
def Ye(a b:B_):Bool:=lY a b||decide (a=b)
def DB(last:B_)(t:l_):Bool:=!cG t.key||Ye t.key last||decide (t.val=a6)||decide (200<(t.val.size:Int))
def S5{α:Type}(p:B_->α->Bool)(f:α->B_)(l:List α)(k:Nat):Bool:=match l[k]? with
 |some t=>p (kH f l k) t
 |none=>false
theorem DD{p}{f}{l}{k}{t:α}(h:l[k]?=some t):S5 p f l k=p (kH f l k) t:=by rw[S5,h]
theorem zO{f}{l}{k}{t:α}(h:l[k]?=some t):kH f l (k+1)=f t:=by rw[kH,h];rfl
def sU(l:List l_):Bool:=!((List.range l.length).any (S5 DB l_.key l))&&decide ((l.length:Int)<=60)
def ME(l:List l_):Prop:=l.length<2^62/\∀t∈l,t.key.size<2^62/\t.val.size<2^62
theorem B8(l:List l_)(H:aF)(u:ME l):RC 305 [.pv (pX l)] (bv (sU l)) H:=by
 refine Pu ?_;obtain ⟨u,n⟩:=u;have i:(l.map bP).length=l.length:=h_ _;refine Bd func305 Z ntmps305<|Sz U<|Sz U<|S<|C V<|Y (fV dL)<|O V<|aD<|bC (σ:=Nat) (fun k=>([(0,.pv (pX l)),(3,sv (kH l_.key l k)),(6,.pv (pX l)),(7,iv ((l.map bP).length:Int)),(8,iv (k:Int))],[])) (fun k=>k<=l.length/\∀j,j<k->S5 DB l_.key l j=false) (fun k=>l.length - k) 0 ⟨X,X⟩ ?_ ?_
 ·exact Wk
 rintro k ⟨hk,h⟩;refine Sz cM<|S<|Cn ?_ ?_<;>intro d
 ·have f:k<l.length:=I_ d
  obtain ⟨t,g⟩:=aU f;have hi:=cC (f:=bP) g;have m:=n t (m7 g);refine aA<|S<|aD<|C (iM lI)<|Y (by exact eU Z wX lL Z X (by simp only[Zl,bP,bM];rfl) Z)<|Y (kl 5 Vs)<|Uu (iU lL)<|Zz<|S<|S ?_;refine aR (t:=32) (n:=24) (A_:=DB (kH l_.key l k) t) ?_ ?_
  ·all_goals refine Y (bD pO)<|Y (bS N_)<|Y (kc oU (CQ t.key _ m.1))<|Y iT<|Dm ?_<;>(refine Sp 16 (fun o=>?_) fun o=>?_)<;>(first|contradiction|refine M<|M<|M<|M ?_|refine J (bD pO)<|J (bS N_)<|J V<|J (Ia Z Z Z) ?_)<;>refine Y cE<|Dm ?_<;>(refine Sp 22 (fun s=>?_) fun s=>?_)<;>(first|contradiction|refine M<|M<|M ?_|refine J (bD qO)<|J (bS N_)<|J wF ?_)<;>refine Y cE<|Dm ?_<;>(refine Sp 27 (fun p=>?_) fun p=>?_)<;>(first|contradiction|refine M<|M<|M<|M ?_|refine J (bD qO)<|J (bS N_)<|J (gM U_)<|J iY ?_)<;>refine O cE ?_<;>exact Gj (h:=by(simp only[DB,Ye, *];rfl))
  refine Cn ?_ ?_<;>intro c
  ·refine Sz U<|aC<|Rt ?_;exact⟨by rw[sU,tX f ((DD g).trans c)];rfl,Z⟩
  refine aA<|Rd (bD pO)<|Y (bS N_)<|O U<|Rd gT<|O V ?_;refine⟨k+1,⟨X,fun j hj=>?_⟩,X,?_⟩
  ·by_cases e:j=k
   ·subst e;exact(DD g).trans c
   grind
  rw[zO g];exact Wk
 have q:k=l.length:=J_ d
 subst q;refine aP<|C V<|Y (fV dL)<|Y IA<|O U<|aC<|Rt ?_;exact⟨by rw[sU,BB h,<-i];rfl,Z⟩
end Go.Proofs.YtopnleflllkbmaaGreatDoor
namespace Go.Abs
section
section
variable{P:Program}{N:Nat}{o:Oper}{E:cY}{H:aF}{T:TypeId}{x y z:Operand}
theorem T5{e}{b}{s}{n}{m}{l}{v}(A:o.op=.index T x y)(D:P.underlying T=some (.array b e))(p:∀w,(sizeOf e).run P w=.ok 1 w)(r:∀w,(isAgg e).run P w=.ok false w)
  (d_:aO E x=some (.agg l)) (F:aO E y=some (.pv (.int s n))) (G:0<=n) (u:n.toNat=m) (hi:m<b) (k:l[m]?=some v):cL P N o E H v H :=
 .of_run fun a w I ι hr g=>by
  have h:=aI g d_;have B:=(aI g F).int_inv;generalize q:a.eval x=c at h;cases h with
  | @agg i _ hl h1 c_ =>
   have d:m<i.size:=G_
   have j:=Array.getElem?_eq_getElem d;refine⟨i[m],?_,c_ m _ v j k⟩;have t:n<b:=X
   simp[execOp,A,q,B];simp[Instr.index,run_underlying D,asIntOf,G,t,p,u,part,r,j]
def GI(l:List B_):List (B_×AV):=l.map fun s=>(s,.pv (.bool true))
def uf(l:List B_)(s:B_):Bool:=l.any fun a=>decide (a=s)
def QB(l:List B_)(s:B_):List B_:=if uf l s then l else l++[s]
theorem Fi(l)(s):(yU (GI l) s).getD (.pv (.bool false))=.pv (.bool (uf l s)):=by
 induction l with
 |nil=>rfl
 |cons a l b =>
  by_cases h:a=s
  ·subst h;simp[GI,yU,uf]
  simp[GI,List.map_cons,yU,h,if_false,uf,List.any_cons,decide_false,Bool.false_or]at b |-;exact b
theorem Fh(l)(s):wJ (GI l) s (.pv (.bool true))=GI (QB l s):=by
 induction l with
 |nil=>rfl
 | cons a l b =>
  by_cases h:a=s
  ·subst h;simp[GI,wJ,QB,uf]
  have e:QB (a::l) s=a::QB l s:=by
   unfold QB uf
   grind
  rw[e];show wJ ((a,.pv _)::GI l) s _=(a,.pv _)::GI _;rw[wJ,a8 h,b]
theorem wC{c b}{l}{id g}{ob}{s}{zv}(e:o.op=.lookup T x y false)(i:P.underlying T=some (.map c b))(hd:P.underlying c=some .string)(j:aO E x=some (.mp id g))(f:H.get id=some ob)(k:ob.g=g)
  (a:ob.rows=rS JE (GI l)) (h:aO E y=some (.pv (.str s))) (d:∀w,(zeroValue b).run P w=.ok zv w) (m:ZV zv (.pv (.bool false))):cL P N o E H (.pv (.bool (uf l s))) H:=by
 rw[<-Fi];exact HV e i hd j f k a h d m
theorem UO{d h}{l}{id g}{ob}{s}(f:o.op=.mapUpdate T x y z\/o.op=.insert T x y z)(j:P.underlying T=some (.map d h))(hd:P.underlying d=some .string)(k:aO E x=some (.mp id g))(e:H.get id=some ob)(n:ob.g=g)
  (c:ob.ty=(GI l).length) (b:ob.rows=rS JE (GI l)) (i:aO E y=some (.pv (.str s))) (m:aO E z=some (.pv (.bool true))):cL P N o E H .any ((id,⟨g,ob.sz,(GI (QB l s)).length,rS JE (GI (QB l s))⟩)::H) :=
 yV f j hd k e n c b i m (Fh l s)
abbrev sob(l:List B_):Ob:=⟨0,0,(GI l).length,rS JE (GI l)⟩
end
end
end Go.Abs
namespace Go.Proofs.YtopnleflllkbmaaGreatDoor
open Go.Proofs.Tryz
open Go.Abs
def eD(k:Int):B_:=if k=1 then⟨#[110,111,100,101]⟩else if k=2 then⟨#[119,97,121]⟩else if k=3 then⟨#[97,114,101,97]⟩else if k=4 then⟨#[114,111,117,116,101]⟩else if k=5 then⟨#[116,117,114,110]⟩else a6
abbrev Oj:List AV:=[sv a6,sv ⟨#[110,111,100,101]⟩,sv ⟨#[119,97,121]⟩,sv ⟨#[97,114,101,97]⟩,sv ⟨#[114,111,117,116,101]⟩,sv ⟨#[116,117,114,110]⟩]
theorem Yf{k:Int}(h0:0<=k)(h1:k<6):k=0\/k=1\/k=2\/k=3\/k=4\/k=5:=X
theorem Oi{k}(a:0<=k)(b:k<6):Oj[k.toNat]?=some (sv (eD k)):=by rcases Yf a b with rfl|rfl|rfl|rfl|rfl|rfl<;>rfl
theorem HH(k:Int)(H:aF):RC 283 [iv k] (sv (eD k)) H:=by
 refine Pu<|Bd func283 Z ntmps283<|Sz U<|C (yW Z aCx Z Z)<|Y (kl 3 aBL)<|Uu (iU sizeOf312)<|Zz<|S<|S<|aR (t:=10) (n:=7) (A_:=decide (k<0)||decide (6<=k)) ?_ ?_
 ·all_goals refine Y V<|Y cM<|Dm ?_<;>(refine Sp 7 (fun d=>?_) fun d=>?_)<;>(first|contradiction|refine M<|M ?_|refine J V<|J B0 ?_)<;>refine O cE ?_<;>(exact⟨⟨_,Z,G_⟩,Z,Z,Z⟩)
 refine Cn ?_ ?_<;>intro hc1
 ·have b:¬ (k=1)/\¬ (k=2)/\¬ (k=3)/\¬ (k=4)/\¬ (k=5):=by
   grind
  refine Sz U<|aC<|Rt ?_;exact⟨by simp only[eD,b.1,b.2.1,b.2.2.1,b.2.2.2.1,b.2.2.2.2,if_false],Z⟩
 have c:0<=k/\k<6:=by
  simp_all
 exact aA<|C V<|Y (eK (m:=k.toNat) (k2:=k.toNat) Z underlying312 V_ Z Z Z Z c.1 Z X X)<|Y (aX Z N_ Z Z Z Z (Oi c.1 c.2))<|O U<|aC<|Rt<|Qq
def ET(k:Int):Int:=if k=2 then 2 else if k=3 then 3 else if k=4 then 1 else if k=5 then 3 else 0
theorem Ja{k}(a:0<=k)(b:k<6):[iv 0,iv 0,iv 2,iv 3,iv 1,iv 3][k.toNat]?=some (iv (ET k)):=by rcases Yf a b with rfl|rfl|rfl|rfl|rfl|rfl<;>rfl
theorem tq(k)(H)(b:0<=k)(c:k<6):RC 306 [iv k] (iv (ET k)) H:=by refine Pu ?_;exact Bd func306 Z ntmps306<|Sz U<|C (yW Z aCw Z Z)<|Y V<|Y (T5 Z underlying319 sizeOf3 M_ Z Z b Z X (Ja b c))<|O U<|aC<|Rt<|Qq
def Y9(x y:Int):Bool:=((decide (0<=x)&&decide (x<1048576))&&decide (0<=y))&&decide (y<1048576)
theorem aDs(x y:Int)(H:aF):RC 308 [.agg [iv x,iv y]] (bv (Y9 x y)) H:=by
 refine Pu<|Bd func308 Z ntmps308<|C (kb 1)<|O U<|S<|aR (t:=2) (n:=22) (A_:=Y9 x y) ?_ ?_
 ·all_goals refine Y (bD mO)<|Y (bS M_)<|Y B0<|Dm ?_<;>(refine Sp 6 (fun d=>?_) fun d=>?_)<;>(first|refine M<|M<|M ?_|refine J (bD mO)<|J (bS M_)<|J cM ?_)<;>refine Y cE<|Dm ?_<;>(refine Sp 11 (fun b=>?_) fun b=>?_)<;>(first|refine M<|M<|M ?_|refine J (bD mN)<|J (bS M_)<|J B0 ?_)<;>refine Y cE<|Dm ?_<;>(refine Sp 16 (fun c=>?_) fun c=>?_)<;>(first|contradiction|refine M<|M<|M ?_|refine J (bD mN)<|J (bS M_)<|J cM ?_)<;>refine Y cE<|Da ?_<;>exact Gj (h:=by(simp only[Y9, *];rfl))
 exact aC<|Rt<|Qq
def NW(p:Nat->Bool)(n:Nat):Int:=match (List.range n).find? p with|some k=>(k:Int)|none => -1
def GT(p:Nat->Bool)(n:Nat):Nat:=match (List.range n).find? p with|some k=>k+1|none=>n
theorem C3{p}{n k}(hk:k<n)(hp:p k=true)(hno:∀j,j<k->p j=false):(List.range n).find? p=some k:=F_
theorem C4{p}{n}(hno:∀j,j<n->p j=false):(List.range n).find? p=none:=F_
theorem ng(m:AV)(l:List B_)(p:Nat->Bool)(e:Nat->aF)(hl:l.length<2^62)(o:∀k s,l[k]?=some s->dF Tryz.prog m [sv s] (e k) (fun r H'=>r=bv (p k)/\H'=e (k+1))):
  aS Tryz.prog 73 [.pv (aK l),m] (e 0) (fun r H'=>r=iv (NW p l.length)/\H'=e (GT p l.length)):=by
 have hml:(l.map S_).length=l.length:=h_ _;refine Bd func73 Z ntmps73<|Sz U<|S<|C V<|Y (fV aE)<|O V<|aD<|bC (σ:=Nat) (fun k=>([(0,.pv (aK l)),(1,m),(7,iv ((l.map S_).length:Int)),(8,iv (k:Int))],e k)) (fun k=>k<=l.length/\∀j,j<k->p j=false) (fun k=>l.length - k) 0 ⟨X,X⟩ ?_ ?_
 ·exact E0
 rintro k ⟨hk,c⟩;refine Sz cM<|S<|Cn ?_ ?_<;>intro f
 ·have d:k<l.length:=I_ f
  obtain ⟨s,n⟩:=aU d;have hi:=cC (f:=S_) n;have h:=o k s n;refine aA<|S<|aD<|C V<|O U<|C V<|Y V<|Y V<|Y (iM bH)<|Y (fY N_)<|O (cZ Z Z Z (h))<|Cn ?_ ?_<;>intro g
  ·refine C V<|O U<|aC ?_;exact cR (H':=e (k+1)) (.inr Z) Z (aJ Z) Fin.refl ⟨by rw[NW,C3 d g c],by rw[GT,C3 d g c]⟩
  refine aA<|Rd gT<|O V ?_;refine⟨k+1,⟨X,fun j hj=>?_⟩,X,E0⟩
  grind
 have i:k=l.length:=J_ f
 subst i;refine aP<|Sz U<|aC ?_;exact cR (H':=e l.length) (.inr Z) Z (aJ Z) Fin.refl ⟨by rw[NW,C4 c],by rw[GT,C4 c]⟩
theorem WL(p)(n):decide (0<=NW p n)=(List.range n).any p:=by
 unfold NW
 grind
theorem AK(c)(l)(p)(b:Nat->aF)(d:l.length<2^62)(e:∀k s,l[k]?=some s->dF Tryz.prog c [sv s] (b k) (fun r H'=>r=bv (p k)/\H'=b (k+1))):
  aS Tryz.prog 28 [.pv (aK l),c] (b 0) (fun r H'=>r=bv ((List.range l.length).any p)/\H'=b (GT p l.length)):=by
 refine Bd func28 Z ntmps28<|Sz U<|C V<|Y V<|Y (bF Z Z call73 Z (ng _ l p _ d e))<|Y B0<|O U<|aC ?_;exact cR (.inr Z) Z (aJ Z) Fin.refl ⟨by rw[WL],Z⟩
theorem OQ(L)(H):∀r∈(sob L).rows,∀a∈r,Clo H a:=by intro r d a c;obtain ⟨i,e⟩:=r_.1 d;obtain ⟨p,b,rfl⟩:=F2.1 e;simp only[GI,r6]at b;obtain ⟨q,_,rfl⟩:=Option.map_eq_some_iff.1 b;simp[l7,n_,or_false]at c;rcases c with rfl|rfl|rfl<;>simp
instance(L)(H):W_ (H) ((sob L).rows):=⟨OQ L H⟩
def vH(o:j_)(last:B_)(L:List B_):aF:=[(37,sob L),(4,bx 1 9 [sv last]),(3,bx 1 82 [.mp 37 0]),(1,bx 6 135 ((bM o).map .pv))]
theorem Xq(o)(a)(L)(f:Nat):Clo (vH o a L) (.clo f [.ref 1 0 0 0,.ref 4 0 0 0,.ref 3 0 0 0]):=by refine .clo fun x b=>?_;simp[l7,n_,or_false]at b;rcases b with rfl|rfl|rfl<;>exact .ref Z
def SI(o:j_)(last:B_)(L:List B_)(s:B_):Bool:=(decide (o.kind=2)&&decide (s=last))||(decide (o.kind=3)&&uf L s)
def MU(o:j_)(last:B_)(L:List B_)(s:B_):Bool:=SI o last L s||!cG s
theorem Df(o:j_)(b s:B_)(L:List B_)(g:s.size<2^62):
  aS Tryz.prog 307 [sv s,.ref 1 0 0 0,.ref 4 0 0 0,.ref 3 0 0 0] (vH o b L) (fun r H'=>r=bv (MU o b L s)/\H'=vH o s (QB L s)):=by
 unfold vH;refine Bd func307 Z ntmps307<|Sz U<|S<|aR (t:=6) (n:=22) (A_:=SI o b L s) ?_ ?_
 ·all_goals refine Y (bD dZ)<|Y (bS M_)<|Y cD<|Dm ?_<;>(refine Sp 10 (fun e=>?_) fun e=>?_)<;>(first|contradiction|refine M<|M<|M ?_|refine J V<|J (bS N_)<|J wF ?_)<;>refine Y cE<|Dm ?_<;>(refine Sp 15 (fun d=>?_) fun d=>?_)<;>(first|contradiction|refine M<|M<|M<|M ?_|refine J (bD dZ)<|J (bS M_)<|J cD<|J V ?_)<;>(first|refine Sp 19 (fun c=>?_) fun c=>?_|refine kI (t:=19) Z ?_)<;>(first|contradiction|refine M ?_|refine Fu ?_|refine J (bS Ba) ?_)<;>(first|refine M ?_|refine Fu ?_|refine J V ?_)<;>(first|refine M ?_|refine Fu ?_|refine J (by exact wC Z lZ U_ Z Z Z Z Z iS (.inl Z)) ?_)<;>(first|refine M ?_|refine J cE ?_)<;>refine Y cE<|Da ?_<;>exact Gj (h:=by(simp only[SI, *];rfl))
 refine C (bS Ba)<|Y V<|Y V<|Uu (by exact UO (.inl Z) lZ U_ Z Z Z Z Z Z Z)<|Uu (iU V_)<|Zz<|S<|aR (t:=5) (n:=8) (A_:=SI o b L s||!cG s) ?_ ?_
 ·all_goals refine Y V<|Dm ?_<;>(refine Sp 29 (fun f=>?_) fun f=>?_)<;>(first|contradiction|refine M<|M<|M ?_|refine J V<|J (kc oU (CQ s _ g))<|J iT ?_)<;>refine Y cE<|Da ?_<;>exact Gj (h:=by simp_all)
 refine aC<|cR (H':=vH o s (QB L s)) (.inr Z) Z (aJ Z) (Fin.wk (by(simp;done)) (Hc (OQ _ _)<|Hb<|Ha<|Hb<|T_) ⟨Z,Z,Z,Z,T_⟩) Qq
def A6(l:List B_):Nat->List B_
 |0=>[]
 |k+1=>QB (A6 l k) ((l[k]?).getD a6)
def uJ(o:j_)(k:Nat):Bool:=match o.refs[k]? with
 |some s=>MU o (kH id o.refs k) (A6 o.refs k) s
 |none=>false
def SL(o:j_):Bool:=if o.kind=1 then decide ((o.refs.length:Int)=0)&&Y9 o.x o.y else if o.kind=5 then decide ((o.refs.length:Int)=3)&&(decide (o.x=0)&&decide (o.y=0))else decide (o.x=0)&&decide (o.y=0)
def vT(o:j_)(n:Int):Bool:=decide (eD o.kind=a6)||!cG o.id||!sU o.tags||decide (n<ET o.kind)||decide (2000<n)
def NX(o:j_):Bool:=vT o (o.refs.length:Int)
def oH(o:j_):Bool:=!NX o&&(!((List.range o.refs.length).any (uJ o))&&SL o)
def iq(o:j_):Prop:=o.id.size<2^62/\ME o.tags/\o.refs.length<2^62/\∀s∈o.refs,s.size<2^62
theorem A1{k}(h:decide (eD k=a6)=false):0<=k/\k<6:=by
 by_cases b:0<=k/\k<6
 ·exact b
 have:eD k=a6:=by
  have a:¬ (k=1)/\¬ (k=2)/\¬ (k=3)/\¬ (k=4)/\¬ (k=5):=X
  simp[eD,a.1,a.2.1,a.2.2.1,a.2.2.2.1,a.2.2.2.2,if_false]
 rw[this]at h;simp at h
theorem RW(o:j_)(H:aF)(x:iq o):RC 286 [av (bM o)] (bv (oH o)) H:=by
 refine Pu ?_;obtain ⟨p,t,y,w⟩:=x;have hml:(o.refs.map S_).length=o.refs.length:=h_ _;refine Bd func286 Z ntmps286<|C (kb 1)<|O U<|S<|S<|rF (t:=36) (n:=31) (A_:=vT o ((o.refs.map S_).length:Int)) ?_ ?_
 ·cases hg10:(decide (eD o.kind=a6):Bool)
  ·cases hg16:(!cG o.id:Bool)
   ·cases i:(!sU o.tags:Bool)
    ·cases g:(decide (((o.refs.map S_).length:Int)<ET o.kind):Bool)
     ·refine aN a7<|Cq (bD dZ)<|Cq (bS M_)<|Cq (kc AR (HH o.kind _))<|Cq wF<|Cq V<|Nf (bD qQ)<|Nf (bS N_)<|Nf (kc oU (CQ o.id _ p))<|Nf iT<|Cq vP<|Cq V<|Nf (bD fU)<|Nf (bS dC)<|Nf (kc Bh (B8 o.tags _ t))<|Nf iT<|Cq vP<|Cq V<|Nf (bD dY)<|Nf (bS aH)<|Nf (fV aE)<|Nf (bD dZ)<|Nf (bS M_)<|Nf (kc call306 (tq o.kind _ (A1 hg10).1 (A1 hg10).2))<|Nf cM<|Cq vP<|Cq V<|Nf (bD dY)<|Nf (bS aH)<|Nf (fV aE)<|Nf iY<|Cq vP<|bJ<|Kr ?_;exact⟨Z,⟨_,Z,by(simp only[vT,hg10,hg16,i,g];rfl)⟩,Z,Z,Z⟩
     refine aN a7<|Cq (bD dZ)<|Cq (bS M_)<|Cq (kc AR (HH o.kind _))<|Cq wF<|Cq V<|Nf (bD qQ)<|Nf (bS N_)<|Nf (kc oU (CQ o.id _ p))<|Nf iT<|Cq vP<|Cq V<|Nf (bD fU)<|Nf (bS dC)<|Nf (kc Bh (B8 o.tags _ t))<|Nf iT<|Cq vP<|Cq V<|Nf (bD dY)<|Nf (bS aH)<|Nf (fV aE)<|Nf (bD dZ)<|Nf (bS M_)<|Nf (kc call306 (tq o.kind _ (A1 hg10).1 (A1 hg10).2))<|Nf cM<|Cq vP<|Cq V<|Of<|Of<|Of<|Of<|Cq CK<|bJ<|Kr ?_;exact⟨Z,⟨_,Z,by(simp only[vT,hg10,hg16,i,g];rfl)⟩,Z,Z,Z⟩
    refine aN a7<|Cq (bD dZ)<|Cq (bS M_)<|Cq (kc AR (HH o.kind _))<|Cq wF<|Cq V<|Nf (bD qQ)<|Nf (bS N_)<|Nf (kc oU (CQ o.id _ p))<|Nf iT<|Cq vP<|Cq V<|Nf (bD fU)<|Nf (bS dC)<|Nf (kc Bh (B8 o.tags _ t))<|Nf iT<|Cq vP<|Cq V<|Of<|Of<|Of<|Of<|Of<|Of<|Of<|Cq CK<|Cq V<|Of<|Of<|Of<|Of<|Cq cE<|bJ<|Kr ?_;exact⟨Z,⟨_,Z,by(simp only[vT, *];rfl)⟩,Z,Z,Z⟩
   refine aN a7<|Cq (bD dZ)<|Cq (bS M_)<|Cq (kc AR (HH o.kind _))<|Cq wF<|Cq V<|Nf (bD qQ)<|Nf (bS N_)<|Nf (kc oU (CQ o.id _ p))<|Nf iT<|Cq vP<|Cq V<|Of<|Of<|Of<|Of<|Cq CK<|Cq V<|Of<|Of<|Of<|Of<|Of<|Of<|Of<|Cq cE<|Cq V<|Of<|Of<|Of<|Of<|Cq cE<|bJ<|Kr ?_;exact⟨Z,⟨_,Z,by(simp only[vT, *];rfl)⟩,Z,Z,Z⟩
  refine aN a7<|Cq (bD dZ)<|Cq (bS M_)<|Cq (kc AR (HH o.kind _))<|Cq wF<|Cq V<|Of<|Of<|Of<|Of<|Cq CK<|Cq V<|Of<|Of<|Of<|Of<|Cq cE<|Cq V<|Of<|Of<|Of<|Of<|Of<|Of<|Of<|Cq cE<|Cq V<|Of<|Of<|Of<|Of<|Cq cE<|bJ<|Kr ?_;exact⟨Z,⟨_,Z,by(simp only[vT, *];rfl)⟩,Z,Z,Z⟩
 refine Cn ?_ ?_<;>intro l
 ·refine Sz U<|aC<|Rt ?_;exact⟨by rw[oH,NX,<-hml,l];rfl,Z⟩
 refine aA<|C (uY (id:=37) JE Z Z)<|Y (kl 3 aD2)<|Uu (iU sizeOf82)<|Zz<|C (kl 4 Oc)<|Uu (iU V_)<|Zz<|oz ([(1,.ref 1 0 0 0),(5,.clo 307 [.ref 1 0 0 0,.ref 4 0 0 0,.ref 3 0 0 0])]) (vH o a6 []) ?_ ?_
 ·refine Rd (gR Z Z)<|Da ?_;exact(cJ.wk (Ea<|Ec (Xq _ _ _ _)<|T_) (Hc (OQ _ _)<|Hb<|Ha<|Hb<|T_) T_)
 refine S<|C (bD dY)<|Y (bS aH)<|Y V<|O (kc LI (AK _ o.refs (uJ o) (fun k=>vH o (kH id o.refs k) (A6 o.refs k)) y (fun k s q=>dF.clo call307 (by rw[uJ,q,zO q];simp only[A6,q];exact Df o _ s _ (w s (m7 q)))))) ?_;refine Cn ?_ ?_<;>intro n
 ·refine Sz U<|aC<|Rt ?_;exact⟨by rw[oH,n];simp,Z⟩
 have f:oH o=SL o:=by have h:=l;rw[hml]at h;rw[oH,NX,h,n];rfl
 rw[f];clear f;generalize kH id o.refs (GT (uJ o) o.refs.length)=la;generalize A6 o.refs (GT (uJ o) o.refs.length)=LL;unfold vH;refine aA<|S<|C (bD dZ)<|O (bS M_)<|aD<|C cD<|Da<|Cn ?_ ?_<;>intro j
 ·refine S<|aR (t:=2) (n:=11) (A_:=decide (((o.refs.map S_).length:Int)=0)&&Y9 o.x o.y) ?_ ?_
  ·all_goals refine Y (bD dY)<|Y (bS aH)<|Y (fV aE)<|Y cD<|Dm ?_<;>(refine Sp 51 (fun v=>?_) fun v=>?_)<;>(first|contradiction|refine M<|M<|M ?_|refine J (bD mM)<|J (by exact aW Z eB sizeOf104 Z Z Z Z (by simp only[Zl,bP,bM];rfl) Z)<|J (kc call308 (aDs o.x o.y _)) ?_)<;>refine Y cE<|Da ?_<;>exact Gj (h:=by simp_all)
  refine aC<|Rt ?_;exact⟨by rw[SL,b6 (b9 j),<-hml],Z⟩
 refine C cD<|Da<|Cn ?_ ?_<;>intro m
 ·refine S<|aR (t:=2) (n:=12) (A_:=decide (((o.refs.map S_).length:Int)=3)&&(decide (o.x=0)&&decide (o.y=0))) ?_ ?_
  ·all_goals refine Y (bD dY)<|Y (bS aH)<|Y (fV aE)<|Y cD<|Dm ?_<;>(refine Sp 62 (fun u=>?_) fun u=>?_)<;>(first|contradiction|refine M<|M<|M<|M ?_|refine J (bD mM)<|J (by exact aW Z eB sizeOf104 Z Z Z Z (by simp only[Zl,bP,bM];rfl) Z)<|J (oO K0)<|J (BF Z Z Z Z Z mJ (QP _ _ _ _)) ?_)<;>refine Y cE<|Da ?_<;>exact Gj (h:=by simp_all)
  refine aC<|Rt ?_;exact⟨by rw[SL,a8 (b_ j),b6 (b9 m),<-hml],Z⟩
 refine aA<|C (bD mM)<|Y (by exact aW Z eB sizeOf104 Z Z Z Z (by simp only[Zl,bP,bM];rfl) Z)<|Y (oO K0)<|Y (BF Z Z Z Z Z mJ (QP _ _ _ _))<|O U<|aC<|Rt ?_;exact⟨by rw[SL,a8 (b_ j),a8 (b_ m)],Z⟩
section
def Xx(B:Nat)(l:List B_):Prop:=l.length<=B/\∀s,s∈l->s.size<=B
section
variable{B n:Nat}{ps:List PV}
theorem Kt(h:Sh Tryz.prog B (n+2) 22 ps):∃l,ps=[aK l]/\Xx B l:=by
 obtain ⟨l,rfl,b,e⟩:=Py aE h (fun r c=>by
  obtain ⟨s,rfl,d⟩:=Et U_ c;exact⟨s,Z,d⟩)
 exact⟨l,Z,b,e⟩
end
section
variable{B n:Nat}{ps:List PV}
theorem aCm(h:Sh Tryz.prog B (n+1) 9 ps):∃s,ps=[.str s]/\s.size<=B:=by
 obtain ⟨k,rfl,hk⟩:=Et U_ h
 simp_all
end
end
end Go.Proofs.YtopnleflllkbmaaGreatDoor
namespace Go.Proofs.YtopnleflllkbmaaGreatDoor
open Go.Proofs.Tryz
open Go.Abs Go.ChangeShapes Go.WideShapes Go.ChangeAt Go.RowKit
theorem own:ownKnob Tryz.prog.godebug=none:=rfl
theorem tu:laidOutB Tryz.prog=true:=by kernel_rfl
theorem jg{H}{l}(a:Rows.uptoSmall H l=true):Rows.uptoBulkAll l<=1048576:=b9 a
theorem Ag{H}{l r:List (DataW H)}{n}(h:Rows.uptoBulkAll (l++r)<=n):Rows.uptoBulkAll l<=n:=by
 induction l generalizing n with
 |nil=>simp[Rows.uptoBulkAll]
 |cons x l a =>
  simp[List.cons_append,Rows.uptoBulkAll]at h |-;have:=a (n:=n - Rows.uptoBulk x) X;omega
end Go.Proofs.YtopnleflllkbmaaGreatDoor
namespace Go.Abs
theorem cJ.get'{G0}{E E'}{H H'}(h:Nc E E')(a:∀j,H'.get j=H.get j):cJ G0 E H E' H':=(cJ.e0 h).trans (cJ.get (fun _=>rfl) a)
theorem wQ(id)(o o')(H:aF)(j):aF.get ((id,o)::H) j=aF.get ((id,o)::(id,o')::H) j:=by cases e:Nat.beq id j<;>simp[aF.get,e]
theorem cJ.dup{G0}{E E'}{H:aF}{id}{o o'}(h:Nc E E'):cJ G0 E ((id,o)::(id,o')::H) E' ((id,o)::H):=cJ.get' h (wQ _ o _ H)
theorem OI.app{D H G0}(b:∀p∈D,G0.get p.1=none):OI G0 H (D++H):=fun id a=>by
 rw[gC];cases e:D.get _ with
 |none=>rfl
 |some o =>
  have:=b _ (dX e);rw[this]at a;cases a
theorem Fin.pops'{G0 H}{r}(D)(c:Clo H r)(e:dD H)(b:∀p∈D,H.get p.1=none)(d:∀p∈D,G0.get p.1=none):Fin G0 (D++H) r H r:=by intro G a I g w v i h f;subst a;exact⟨I,g,i.restrict (Sub.app b) e,h.restrict (Sub.app b) (OI.app d),f.restrict (Sub.app b) c⟩
end Go.Abs
namespace Go.Abs
open Go.Proofs
theorem Rel.grown{I}{ι}{H}{w}(i)(g:Rel I ι H w):Rel I ι H (Sort.grow w i)/\Step I ι H w I ι H (Sort.grow w i):=by
 have k:∀b,b<w.heap.size->(Sort.grow w _).heap[b]?=w.heap[b]?:=fun b f=>by
  show (w.heap++i)[b]?=_
  grind
 have e:Step I ι H w I ι H (Sort.grow w i):=by
  refine⟨Z,Z,Z,?_,fun a ha _=>?_,fun _ h=>h,fun _ h=>.inl h,fun _ h=>.inl h,fun b f _=>k b f,fun _ o h=>⟨o,h,j6 _,fun _=>⟨Z,Z,fun _=>j6 _⟩⟩⟩
  ·simp_all
  unfold World.frozen?
  simp_all
 refine⟨⟨fun b f=>?_,fun j o l=>?_,g.inj,e.glob g⟩,e⟩
 ·have:=g.imm b f
  grind
 exact(g.obj j o l).keep Z (fun b c _ f=>⟨k b f,fun h=>h⟩) (fun r _ a _ v m=>m.mono g e)
def eY(l:List B_):List (List AV):=l.map fun s=>[.pv (.str s)]
def qn(s:B_):List UInt8:=s.data.toList
def ofU(l:List UInt8):B_:=⟨l.toArray⟩
theorem tf(s):ofU (qn s)=s:=rfl
def jF(l:List B_):List B_:=((l.map qn).mergeSort fun x y=>decide (x<=y)).map ofU
theorem jY(l):(jF l).length=l.length:=by simp[jF,List.length_mergeSort]
theorem Tg(l:List _):(l.map qn).map ofU=l:=by
 rw[List.map_map]
 conv=>rhs;rw[<-List.map_id l]
 rfl
theorem xJ(l):(jF l).Perm l:=by have h:=(List.mergeSort_perm (l.map qn) (fun x y=>decide (x<=y))).map ofU;rw[Tg]at h;exact h
theorem ei{w}{b}{cs}{t}{f}(h:w.heap[b]?=some (.cells cs t f))(d):(Sort.putRow Proofs.encStr w b 0 d)=w.setRow b (Sort.putCells Proofs.encStr 0 d cs):=by
 unfold Sort.putRow Sort.mapBlock World.setRow;congr 1;apply Array.ext_getElem?;intro k;simp[Array.getElem?_modify];by_cases e:b=k
 ·subst e;simp[h,Sort.onCells]
 grind
theorem Eg{P:Program}{ρ:Shelf.Ren}(Ly:SlLaysM.n6 P ρ)(c:List B_){id g n ty:Nat}{H:aF}(L:H.get id=some ⟨g,1,ty,eY c⟩)(hn:n=c.length)(hl:c.length<2^62):
  aS P (ρ.f 6) [.osl id g 0 n] H (fun r H'=>r=.tup []/\H'=(id,⟨g,1,ty,eY (jF c)⟩)::H):=by
 subst hn;intro I y_ w vs c_ W hv;obtain ⟨v,rfl⟩:∃v,vs=#[v]:=by
  match vs,W with
  |⟨[v]⟩,_=>exact⟨v,Z⟩
 have h1:=hv 0 v _ Z Z;obtain ⟨_,t⟩:=jJ h1 L Z;have h:∀r∈eY (jF c),r.length=1:=fun r c_=>by
  obtain ⟨s,_,rfl⟩:=List.mem_map.1 c_;rfl
 have g1:aF.get ((id,⟨g,1,ty,eY (jF c)⟩)::H) id=some ⟨g,1,ty,eY (jF c)⟩:=by simp[aF.get,pF]
 have g2:∀j,j≠id->aF.get ((id,⟨g,1,ty,eY (jF c)⟩)::H) j=H.get j:=fun j e_=>by simp[aF.get,jP (Ne.symm e_)]
 rcases t with⟨b,R,oo,Q,u_,c3⟩|⟨Q,u_,_,c4⟩
 ·have v_:oo=0:=X
  subst v_ u_;have G:=(c_.obj id _ L).cells (Nat.succ_pos 0);obtain ⟨p1,p2,⟨b',cap',o_,D,N,e3,e4,e5,e5',e6⟩|⟨D,_⟩⟩:=G
  ·rw [Q] at D;cases D;simp only [Nat.mul_one] at e4 e6;have d_:(eY c).length=c.length:=by simp [eY]
   simp only[d_]at e5;have A_:∀(i:Nat) (s:B_),c[i]?=some s->o_[i]?=some (.string s):=fun i s E=>by
    obtain ⟨u,q1,q2,q3⟩:=e6 i [.pv (.str s)] (by rw[eY,r6,E];rfl) 0 _ Z;rw[q3.str_inv]at q1;exact q1
   have m:Sort.Holds Proofs.encStr w b 0 (c.map qn).toArray:=by
    intro j e_;simp only[List.size_toArray,h_]at e_;refine⟨?_,?_⟩
    ·have:=A_ j _ (m8 e_);rw[r7];simp only[World.cell?,N,this];congr 1;rw[getElem!_pos _ _ G_];simp only[List.getElem_toArray,List.getElem_map];show some (Value.string c[j])=some (Value.string (ofU (qn c[j])));rfl
    simp[World.frozen?,N]
   have q:=AnyM.slices_Sort_string Ly b 0 (R - 0) (c.map qn) w m (Array.getElem?_eq_some_iff.1 N).1 G_;rw[h_]at q;refine q.mono ?_;rintro e w' ⟨rfl,n,os,rfl⟩;obtain ⟨T,f_⟩:=Rel.drawn (w':=Sort.ahead w n) c_ Z Z Z Z;have B:(Sort.ahead w n).heap[b]?=some (.cells o_ ty (0,0)):=N;rw[ei B];obtain ⟨m1,m2⟩:=Rel.update (H':=(id,⟨g,1,ty,eY (jF c)⟩)::H) (ob':=⟨g,1,ty,eY (jF c)⟩) (cs':=Sort.putCells Proofs.encStr 0 ((c.map qn).mergeSort fun x y=>decide (x<=y)).toArray o_) T L Q B (j6 _) Z Z
    (fun _=>by simp[eY,jY]) (by rw[Sort.putCells];simp;omega) (by simp only[eY,h_,jY];omega) h (fun i r z_ k a hk=>by
     rw[eY,r6]at z_;obtain ⟨s,E,rfl⟩:=Option.map_eq_some_iff.1 z_;cases k with
     |succ k=>simp at hk
     |zero =>
      cases hk;have z:=(m_.1 E).1;rw[jY]at z;have A:i<o_.size:=X
      refine⟨.string s,?_,Z,.pv (.str s)⟩;rw[Nat.mul_one,Nat.add_zero,Sort.putCells,Array.getElem?_mapIdx,Array.getElem?_eq_getElem A,Option.map_some];have K:i<((c.map qn).mergeSort fun x y=>decide (x<=y)).length:=by rw[List.length_mergeSort,h_];exact z
      rw[b6 ⟨l6 _,by simpa using K⟩];congr 1;rw[Nat.sub_zero,getElem!_pos _ _ (by simpa using K)];rw[jF,r6]at E;obtain ⟨u,hu,rfl⟩:=Option.map_eq_some_iff.1 E;simp only[List.getElem_toArray];rw[(m_.1 hu).2];rfl) g1 g2
   obtain ⟨n1,n2⟩:=Rel.grown os m1;exact⟨_,_,I,y_,.tuple #[],Z,⟨Z,Z⟩,.tup Z H_,n1,(f_.trans m2).trans n2⟩
  rw[Q]at D;cases D
 subst u_;have h0:c=[]:=List.eq_nil_of_length_eq_zero c4;subst h0;refine(AnyM.slices_Sort_string_none Ly none 0 w).mono ?_;rintro e w' ⟨rfl,rfl⟩;have hg:∀j,aF.get ((id,⟨g,1,ty,eY (jF [])⟩)::H) j=H.get j:=fun j=>by
  by_cases e:j=id
  ·subst e;rw[g1,L,show jF []=[]by simp[jF]]
  exact g2 j e
 obtain ⟨T,f_⟩:=c_.congr hg;exact⟨_,_,I,y_,.tuple #[],Z,⟨Z,Z⟩,.tup Z H_,T,f_⟩
def aQ(n:Int):B_:=⟨(Lib.itoa n).toArray⟩
theorem itoa_c{P}{ρ}(L:LaysM.n171 P ρ){G}(A:(G,GV.ints .u64 Lib.pow10Tab)∈eu)(q:P.globalNamed "internal/strconv.uint64pow10" = some G)(n)(j : -9223372036854775808<=n)(s:n<=9223372036854775807)(H):
  aS P (ρ.f 171) [.pv (.int .i64 n)] H (fun r H'=>r=.pv (.str (aQ n))/\H'=H):=by
 intro I m w h g d z;obtain ⟨v,rfl⟩:∃v,h=#[v]:=by
  match h,d with
  |⟨[v]⟩,_=>exact⟨v,Z⟩
 have x:=(z 0 v _ Z Z).int_inv;subst x;have b:Lib.TabIs P w "internal/strconv.uint64pow10" .u64 Lib.pow10Tab:=by
  obtain ⟨_,cs,t,f,i,y⟩:=g.glob _ A;have c:=y;subst c;simp[Lib.TabIs,World.var?,q,Option.bind_some,i]
 refine(Any.strconv_Itoa L n j s w b).mono ?_;rintro e w' ⟨rfl,k,os,rfl⟩;obtain ⟨o,p⟩:=Rel.drawn (w':=w.drewN k) g Z Z Z Z;obtain ⟨l,u⟩:=Rel.grown _ o;exact⟨_,_,I,m,_,Z,⟨Z,Z⟩,.pv (.str _),l,p.trans u⟩
theorem mul64_c{P}{ρ}(L:Lays.n264 P ρ)(x y:Nat)(k:x<18446744073709551616)(m:y<18446744073709551616)(H):
  aS P (ρ.f 264) [.pv (.int .u64 x),.pv (.int .u64 y)] H (fun r H'=>r=.tup [.pv (.int .u64 ((x*y / 18446744073709551616:Nat))),.pv (.int .u64 ((x*y % 18446744073709551616:Nat)))]/\H'=H):=by
 intro I o w h l f g;obtain ⟨v,u,rfl⟩:∃v u,h=#[v,u]:=by
  match h,f with
  |⟨[v,u]⟩,_=>exact⟨v,u,Z⟩
 have j:=(g 0 v _ Z Z).int_inv;have n:=(g 1 u _ Z Z).int_inv;subst j n;refine(Any.bits_Mul64 L x y k m w).mono ?_;rintro e w' ⟨rfl,rfl⟩;refine⟨_,_,I,o,_,Z,⟨Z,Z⟩,.tup Z fun i v a c d=>?_,l,Step.refl _ _ _ _⟩
 match i,c,d with
 |0,c,d=>cases c;cases d;exact .pv (.int _ _)
 |1,c,d=>cases c;cases d;exact .pv (.int _ _)
 |i+2,c,d=>simp at c
end Go.Abs
section
namespace Go.Proofs
open Go.RowKit Go.Sort Go.Shelf
def aEx:Go.Shelf.Ren:=⟨fun|171=>79|243=>134|246=>192|283=>240|284=>241|285=>242|286=>243|129=>190|317=>271|318=>272|319=>273|320=>274|337=>298|338=>299|n=>n,fun|3=>3|9=>9|2=>2|4=>4|171=>249|0=>0|53=>169|37=>159|5=>5|173=>251|212=>286|51=>213|20=>20|213=>287|46=>157|232=>317|233=>318|n=>n,fun|17=>2|18=>6|19=>7|n=>n⟩
theorem aFD:Go.Proofs.LaysM.n171 Tryz.prog aEx:={
  mixed:=by rfl
  f129:=Tryz.func190.trans C_
  f171:=Tryz.func79.trans C_
  f243:=Tryz.func134.trans C_
  f246:=Tryz.func192.trans C_
  f283:=Tryz.func240.trans C_
  f284:=Tryz.func241.trans C_
  f285:=Tryz.func242.trans C_
  f286:=Tryz.func243.trans C_
  f317:=Tryz.func271.trans C_
  f318:=Tryz.func272.trans C_
  f319:=Tryz.func273.trans C_
  f320:=Tryz.func274.trans C_
  f337:=Tryz.func298.trans C_
  f338:=Tryz.func299.trans C_
  t0:=DI
  a0:=ZQ
  z0:=TI
  v0:=FE
  t2:=Tryz.underlying2
  a2:=Tryz.isAgg2
  z2:=Tryz.sizeOf2
  v2:=Tryz.zeroValue2
  t3:=Tryz.underlying3
  a3:=Tryz.isAgg3
  z3:=Tryz.sizeOf3
  v3:=sE
  t4:=eZ
  a4:=nD
  z4:=Tryz.sizeOf4
  v4:=iS
  t5:=dM
  a5:=uI
  z5:=cK
  v5:=sD
  t9:=Tryz.underlying9
  a9:=Tryz.isAgg9
  z9:=Tryz.sizeOf9
  v9:=gK
  t20:=LD
  a20:=vM
  z20:=aDF
  v20:=Mu
  t37:=dB
  a37:=eA
  z37:=qC
  v37:=Tryz.zeroValue159
  t46:=kW
  a46:=DO
  z46:=AP
  v46:=tE
  t51:=IU
  a51:=iz
  z51:=ZO
  v51:=LB
  t53:=gF
  a53:=wY
  z53:=uH
  v53:=tD
  t171:=Tryz.underlying249
  a171:=Tryz.isAgg249
  z171:=Tryz.sizeOf249
  v171:=Tryz.zeroValue249
  t173:=Tryz.underlying251
  a173:=Tryz.isAgg251
  z173:=Tryz.sizeOf251
  v173:=Tryz.zeroValue251
  t212:=Tryz.underlying286
  a212:=Tryz.isAgg286
  z212:=Tryz.sizeOf286
  v212:=Tryz.zeroValue286
  t213:=Tryz.underlying287
  a213:=Tryz.isAgg287
  z213:=Tryz.sizeOf287
  t232:=Tryz.underlying317
  a232:=Tryz.isAgg317
  z232:=Tryz.sizeOf317
  v232:=Tryz.zeroValue317
  t233:=Tryz.underlying318
  a233:=Tryz.isAgg318
  z233:=Tryz.sizeOf318
  v233:=Tryz.zeroValue318
  g17:=by kernel_rfl
  g18:=by kernel_rfl
  g19:=by kernel_rfl
  i0:=by rfl
  i2:=by rfl
  i3:=by rfl
  i4:=by rfl
  i5:=by rfl
  i9:=by rfl
  i20:=by rfl
  i37:=by rfl
  i46:=by rfl
  i51:=by rfl
  i53:=by rfl
  i171:=by rfl
  i173:=by rfl
  i212:=by rfl
  i232:=by rfl
  i233:=by rfl
  m17:=by kernel_rfl
  m18:=by kernel_rfl
  m19:=by kernel_rfl}
end Go.Proofs
namespace Go.Proofs.YtopnleflllkbmaaGreatDoor
open Go.Proofs.Tryz
open Go.Abs
theorem pL(n)(c : -9223372036854775808<=n)(b:n<=9223372036854775807)(H):RC 79 [iv n] (sv (aQ n)) H :=Go.Abs.itoa_c aFD (.head _) (Z) n c b H
end Go.Proofs.YtopnleflllkbmaaGreatDoor
end
namespace Go.Abs
variable{d id g n:Nat}{T e f_:TypeId}
section
section
variable{P:Program}{G0:aF}{N:Nat}{E:cY}{H:aF}{ops:Array Oper}{K:cY->aF->Prop}{o:Oper}{rest:List Oper}
def ALx(P:Program)(G0:aF)(N:Nat)(ops:Array Oper)(K:cY->aF->Prop)(l:List Oper)(E:cY)(H:aF)(d:Nat)(F:lP->Value->Prop):Prop :=∀G:Entry,G.H=G0->∀(a:Act) (w:World) (I:Nat->Prop) (ι:lP),tR G.ds G.w w a.defers->a.tmps.size=N->Rel I ι H w->Step G.I G.ι G.H G.w I ι H w->lH w I ι H E a->(∃c,a.tmps[d]?=some c/\F ι c) ->
  ∀ro,(ro=none\/l.all Oper.noDefer=true)->∀Q:Exit->Act->World->Prop,(∀E H a w,K E H->St G N E H a w->Q .normal a w)->wpListIn (RF ro) 0 P ops Q l a w
def aAt(id n:Nat)(ι:lP)(c:Value):Prop:=∃b cap,ι id=some (b,cap)/\c=.slice (some ⟨b,0,none⟩) n n
theorem JQ(a:Act)(d:Nat)(c):(a.put (some d) c).tmps.size=a.tmps.size:=by simp[Act.put]
theorem Gt(a:Act){d}(c)(h:d<a.tmps.size):(a.put (some d) c).tmps[d]?=some c:=by simp[Act.put,h]
theorem xx(a:Act){b:Nat}(c)(h:b≠d):(a.put (some b) c).tmps[d]?=a.tmps[d]?:=by simp[Act.put,h]
theorem K6{p:Operand}{ob:Ob}(l:o.guard=none)(hd:o.dst=some d)(j:Nat.blt d N=true)(t:o.op=.slice T p none none none)(d_:P.underlying T=some (.array n e))(y:∀w,(sizeOf e).run P w=.ok 1 w)
  (z:aO E p=some (.ref id g 0 0)) (x:H.get id=some ob) (L:ob.g=g) (B:ALx P G0 N ops K rest ((d,.any)::E) H d (aAt id n)):AL P G0 N ops K (o::rest) E H:=by
 intro G u a w f e_ h Q v;refine wpListIn_plain l fun o_ F=>?_;refine Oper.wpW_in (nO h).1 ?_;obtain ⟨I,c_,r,m,s⟩:=f.rel;obtain ⟨b,q,A,D⟩:=pI (aI s z) x L;have hdn:d<N:=by simp_all
 have i:(execOp a.eval o).run P w=.ok (.value (.slice (some ⟨b,0,none⟩) n n)) w:=by
  simp only[execOp,t,D,Option.map_none];simp[Instr.sliceAt,run_underlying d_,Instr.sureAddr,Instr.sliceBounds,y,Addr.add_lit]
 unfold Oper.wpW;rw[i];show o_ (a.put o.dst _) w;rw[hd];exact F _ _ (B G u _ w I c_ (by exact f.defers) (by rw[JQ];exact f.size) r m (lH.put (d:=some d) r (Step.refl _ _ _ _) s (.any _) (by rw[f.size];exact j)) ⟨_,Gt a _ (by rw[f.size];omega),b,q,A,Z⟩ e_ (nO h).2 Q v)
theorem Mi{f:Nat}{F}{x}{v}(i:o.guard=none)(hd:o.dst=some f)(h:Nat.blt f N=true)(g:f≠d)(q:o.op=.move x)(r:aO E x=some v)(z:ALx P G0 N ops K rest ((f,v)::E) H d F):ALx P G0 N ops K (o::rest) E H d F:=by
 intro G s a w I B p j m k l ⟨c,u,y⟩ d_ b Q t;refine wpListIn_plain i fun n A=>?_;refine Oper.wpW_in (nO b).1 ?_;have e:(execOp a.eval o).run P w=.ok (.value (a.eval x)) w:=by simp[execOp,q]
 unfold Oper.wpW;rw[e];show n _ w;rw[hd];exact A _ _ (z G s _ w I B (by exact p) (by rw[JQ];omega) m k (lH.put (d:=some f) m (Step.refl _ _ _ _) l (aI l r) (by rw[j];exact h)) ⟨c,by rw[xx a _ g];exact u,y⟩ d_ (nO b).2 Q t)
def mF(s:List UInt8):List AV:=s.map fun b=>.pv (.int .u8 b.toNat)
theorem yI(s):(mF s).length=s.length:=h_ _
theorem ZL{D:TypeId}{y:Operand}{e_ m T:Nat}{cells:List AV}{s:B_}(A_:o.guard=none)(hd:o.dst=some e_)(z_:Nat.blt e_ N=true)(ho:o.op=.call {callee:=.builtin .copy,args:=#[.tmp d,y],argTypes:=#[D,f_]})(hD:P.underlying D=some (.slice e))(hs:∀w,(sizeOf e).run P w=.ok 1 w)
  (hH:H.get id=some ⟨g,n,T,[cells]⟩) (y_:0<n) (hy:aO E y=some (.pv (.str s))) (hm:min s.size n=m)
  (hk:AL P G0 N ops K rest ((e_,.pv (.int .i64 m))::E) ((id,⟨g,n,T,[mF (s.data.toList.take m)++cells.drop m]⟩)::H)):ALx P G0 N ops K (o::rest) E H d (aAt id n):=by
 intro G hG a w I ι o_ c_ L hs' he ⟨c,hc,b,cap,t,R⟩ ro A Q hq;refine wpListIn_plain A_ fun K' hK=>?_;refine Oper.wpW_in (nO A).1 ?_;have e2y:=(aI he hy).str_inv;have e1:a.eval (.tmp d)=.slice (some ⟨b,0,none⟩) n n:=by simp[Act.eval,hc,R]
 obtain ⟨p1,p2,⟨b',cap',u_,d_,f2,f3,f4,f5,f5',f6⟩|⟨d_,_⟩⟩:=(L.obj id _ hH).cells y_
 rotate_left
 ·rw[t]at d_;cases d_
 rw[t]at d_;cases d_;have B:cells.length=n:=p2 cells H_;have hms:m<=s.size:=X
 have hmn:m<=n:=X
 simp only[List.length_singleton]at f5;have hcs:n<=u_.size:=by rw[f4];exact Nat.le_mul_of_pos_left _ X
 have f:min m s.data.size=m:=by have:s.data.size=s.size:=rfl;omega
 have l:((s.extract 0 m).data.map fun b=>Value.int .u8 b.toNat).toList=(s.data.toList.take m).map fun b=>Value.int .u8 b.toNat:=H_
 have p:=run_storeCells_at P b 0 T ((s.data.toList.take m).map fun b=>Value.int .u8 b.toNat) 0 u_ w f2 G_ (by intro v hv;obtain ⟨b,_,rfl⟩:=List.mem_map.1 hv;rfl);simp only[Nat.add_zero,r7,List.take_zero,List.nil_append,h_,q8,Array.length_toList]at p;rw[f]at p;have W:(mF (s.data.toList.take m)++cells.drop m).length=n:=by
  rw[j9,yI,q8,q6,Array.length_toList,f,B];omega
 obtain ⟨k2,v_⟩:=Rel.update (H':=(id,⟨g,n,T,[mF (s.data.toList.take m)++cells.drop m]⟩)::H) (ob':=⟨g,n,T,[mF (s.data.toList.take m)++cells.drop m]⟩)
  (cs' := ((s.data.toList.take m).map (fun b => Value.int .u8 b.toNat) ++ u_.toList.drop m).toArray) L hH t f2 (j6 _) Z Z (fun _ => j6 _) (by
   grind) (by simpa using f5) (by intro r z;rw[q_]at z;subst z;exact W) (fun i r hi k a' h=>by
    cases i with
    |succ i=>simp at hi
    | zero =>
     simp only[List.getElem?_cons_zero,Option.some.injEq]at hi;subst hi;rw[Nat.zero_mul,r7];simp only[List.getElem?_toArray];by_cases ck:k<m
     ·rw[List.getElem?_append_left (by rw[yI,q8,Array.length_toList,f];exact ck),mF,r6]at h;rw[List.getElem?_append_left (by rw[h_,q8,Array.length_toList,f];exact ck),r6];cases e:(s.data.toList.take m)[k]? with
      |none=>rw[e]at h;cases h
      |some q =>
       rw[e]at h;cases h;exact⟨.int .u8 q.toNat,Z,Z,.pv (.int _ _)⟩
     rw[List.getElem?_append_right (by rw[yI,q8,Array.length_toList,f];omega),yI,q8,Array.length_toList,f,List.getElem?_drop,show m+(k - m)=k by omega]at h;obtain ⟨u,q1,q2,q3⟩:=f6 0 cells Z k a' h;rw[Nat.zero_mul,r7]at q1;refine⟨u,?_,q2,q3⟩;rw[List.getElem?_append_right (by rw[h_,q8,Array.length_toList,f];omega),h_,q8,Array.length_toList,f,List.getElem?_drop,show m+(k - m)=k by omega]
     simpa using q1) (get_cons_same _ _ _) (fun j hj=>get_cons_other _ _ hj)
 have F:Nat.min s.size n=m:=hm;unfold Oper.wpW execOp;simp only[ho,resolve,invoke,builtin,Sem.run_bind,Sem.run_pure,Result.andThen_ok,List.map_toArray,List.map_cons,List.map_nil,e1,e2y,Builtin.copy_,run_underlying hD,hs];simp only[List.getElem?_toArray,List.getElem?_cons_zero,List.getElem?_cons_succ,run_underlying hD,Builtin.lenOf,Builtin.firstCells,Sem.run_bind,Sem.run_pure,Result.andThen_ok,hs,F,l,p];show K' (a.put o.dst _) _;rw[hd];refine hK _ _ (hk G hG _ _ ⟨?_,?_,I,ι,k2,hs'.trans v_,lH.put (d:=some e_) L v_ he (.pv (.int _ _)) (by rw[c_];exact z_)⟩ ro (nO A).2 Q hq)
 ·rw[mB];exact o_.step L v_
 rw[JQ];exact c_
theorem Vl{s A:Nat}{bs:List UInt8}{r:B_}(t:o.guard=none)(hd:o.dst=some s)(c_:Nat.blt s N=true)(ho:o.op=.convert f_ T (.tmp d))(hS:P.underlying f_=some (.slice e))(e_:P.underlying e=some (.int .u8))(hT:P.underlying T=some .string)
  (u_:H.get id=some ⟨g,n,A,[mF bs]⟩) (B:0<n) (z:(⟨bs.toArray⟩:B_)=r) (hk:AL P G0 N ops K rest ((s,.pv (.str r))::E) H):ALx P G0 N ops K (o::rest) E H d (aAt id n):=by
 intro G z_ a w I A_ d_ p y F he ⟨c,hc,b,cap,i,D⟩ ro l Q W;refine wpListIn_plain t fun K' v_=>?_;refine Oper.wpW_in (nO l).1 ?_;have e1:a.eval (.tmp d)=.slice (some ⟨b,0,none⟩) n n:=by simp[Act.eval,hc,D]
 obtain ⟨p1,p2,⟨b',cap',cs,m,f2,f3,f4,f5,f5',y_⟩|⟨m,_⟩⟩:=(y.obj id _ u_).cells B
 rotate_left
 ·rw[i]at m;cases m
 rw[i]at m;cases m;have h:bs.length=n:=by rw[<-yI bs];simp_all
 subst z;have hl:(loadCells ⟨b,0,none⟩ n).run P w=.ok ((bs.map fun b=>(b.toNat:Int)).map (Value.int .u8)).toArray w:=by
  have h0:=run_loadCells_list (P:=P) w ⟨b,0,none⟩ ((bs.map fun b=>(b.toNat:Int)).map (Value.int .u8)) (fun j v R=>by
   rw[List.map_map,r6]at R;obtain ⟨q,L,rfl⟩:=Option.map_eq_some_iff.1 R;rw[Addr.add_lit,r7,cell_of_row w b _ cs _ (0,0) f2];obtain ⟨u,o_,q2,q3⟩:=y_ 0 (mF bs) Z j (.pv (.int .u8 q.toNat)) (by rw[mF,r6,L];rfl);rw[Nat.zero_mul,r7]at o_;rw[o_,q3.int_inv];rfl)
  rwa [h_,h_,h]at h0
 have k:(execOp a.eval o).run P w=.ok (.value (.string ⟨bs.toArray⟩)) w:=by
  simp only[execOp,ho,e1,Sem.run_bind];rw[run_convert_bytes_string w f_ T e _ _ n hS e_ hT,run_bytesToString w _ _ n _ hl,foldl_push_bytes];have e3:(bs.map fun b=>(b.toNat:Int)).map (fun n=>UInt8.ofNat n.toNat)=bs:=by
   rw[List.map_map]
   conv=>rhs;rw[<-List.map_id bs]
   refine List.map_congr_left fun b _=>?_;simp
  rw[e3];simp[ByteArray.empty,ByteArray.emptyWithCapacity];rfl
 unfold Oper.wpW;rw[k];show K' (a.put o.dst _) w;rw[hd];exact v_ _ _ (hk G z_ _ w ⟨by rw[mB];exact d_,by rw[JQ];exact p,I,A_,y,F,lH.put (d:=some s) y (Step.refl _ _ _ _) he (.pv (.str _)) (by rw[p];exact c_)⟩ ro (nO l).2 Q W)
end
end
end Go.Abs
section
namespace Go.Proofs
open Go.RowKit Go.Sort Go.Shelf
def aEt:Go.Shelf.Ren:=⟨fun|6=>76|8=>131|9=>130|19=>189|20=>190|21=>180|22=>181|23=>182|24=>183|25=>184|26=>185|27=>186|28=>187|29=>188|36=>233|31=>234|32=>235|37=>236|38=>237|39=>238|41=>270|n=>n,fun|27=>22|29=>9|3=>3|32=>157|26=>22|0=>0|44=>213|46=>169|4=>4|36=>207|35=>206|41=>166|5=>5|9=>9|53=>241|57=>245|63=>282|64=>283|n=>n,fun|n=>n⟩
theorem aFA:Go.Proofs.SlLaysM.n6 Tryz.prog aEt:={
  mixed:=by kernel_rfl
  f6:=⟨Tryz.f76.name,E_,Tryz.func76.trans D_⟩
  f8:=Tryz.func131.trans D_
  f9:=⟨Tryz.f130.name,E_,Tryz.func130.trans D_⟩
  f19:=Tryz.func189.trans D_
  f20:=Tryz.func190.trans D_
  f21:=⟨Tryz.f180.name,E_,Tryz.func180.trans D_⟩
  f22:=⟨Tryz.f181.name,E_,Tryz.func181.trans D_⟩
  f23:=⟨Tryz.f182.name,E_,Tryz.func182.trans D_⟩
  f24:=⟨Tryz.f183.name,E_,Tryz.func183.trans D_⟩
  f25:=⟨Tryz.f184.name,E_,Tryz.func184.trans D_⟩
  f26:=⟨Tryz.f185.name,E_,Tryz.func185.trans D_⟩
  f27:=⟨Tryz.f186.name,E_,Tryz.func186.trans D_⟩
  f28:=⟨Tryz.f187.name,E_,Tryz.func187.trans D_⟩
  f29:=⟨Tryz.f188.name,E_,Tryz.func188.trans D_⟩
  f31:=Tryz.func234.trans D_
  f32:=Tryz.func235.trans D_
  f36:=⟨Tryz.f233.name,E_,Tryz.func233.trans D_⟩
  f37:=⟨Tryz.f236.name,E_,Tryz.func236.trans D_⟩
  f38:=⟨Tryz.f237.name,E_,Tryz.func237.trans D_⟩
  f39:=⟨Tryz.f238.name,E_,Tryz.func238.trans D_⟩
  f41:=⟨Tryz.f270.name,E_,Tryz.func270.trans D_⟩
  t0:=DI
  a0:=ZQ
  z0:=TI
  v0:=FE
  t3:=Tryz.underlying3
  a3:=Tryz.isAgg3
  z3:=Tryz.sizeOf3
  v3:=sE
  t4:=eZ
  a4:=nD
  z4:=Tryz.sizeOf4
  v4:=iS
  t5:=dM
  a5:=uI
  z5:=cK
  v5:=sD
  t9:=Tryz.underlying9
  a9:=Tryz.isAgg9
  z9:=Tryz.sizeOf9
  v9:=gK
  t26:=aE
  a26:=aH
  z26:=Tryz.sizeOf22
  v26:=vL
  t27:=aE
  a27:=aH
  z27:=Tryz.sizeOf22
  v27:=vL
  t29:=Tryz.underlying9
  a29:=Tryz.isAgg9
  z29:=Tryz.sizeOf9
  v29:=gK
  t32:=kW
  a32:=DO
  z32:=AP
  v32:=tE
  t35:=Tryz.underlying206
  a35:=Tryz.isAgg206
  z35:=Tryz.sizeOf206
  v35:=Tryz.zeroValue206
  t36:=Tryz.underlying207
  a36:=Tryz.isAgg207
  z36:=Tryz.sizeOf207
  v36:=Tryz.zeroValue207
  t41:=Tryz.underlying166
  a41:=Tryz.isAgg166
  z41:=Tryz.sizeOf166
  v41:=Tryz.zeroValue166
  t44:=IU
  a44:=iz
  z44:=ZO
  v44:=LB
  t46:=gF
  a46:=wY
  z46:=uH
  v46:=tD
  t53:=Tryz.underlying241
  a53:=Tryz.isAgg241
  z53:=Tryz.sizeOf241
  v53:=Tryz.zeroValue241
  t57:=Tryz.underlying245
  a57:=Tryz.isAgg245
  z57:=Tryz.sizeOf245
  v57:=Tryz.zeroValue245
  t63:=Tryz.underlying282
  a63:=Tryz.isAgg282
  z63:=Tryz.sizeOf282
  v63:=Tryz.zeroValue282
  t64:=Tryz.underlying283
  a64:=Tryz.isAgg283
  z64:=Tryz.sizeOf283
  v64:=Tryz.zeroValue283}
end Go.Proofs
namespace Go.Proofs.YtopnleflllkbmaaGreatDoor
open Go.Proofs.Tryz
open Go.Abs
theorem xb(ss:List B_){id g n ty:Nat}{H:aF}(hH:H.get id=some ⟨g,1,ty,eY ss⟩)(hn:n=ss.length)(hl:ss.length<2^62):
  aS Tryz.prog 76 [.osl id g 0 n] H (fun r H'=>r=.tup []/\H'=(id,⟨g,1,ty,eY (jF ss)⟩)::H):=Eg aFA ss hH hn hl
def pick(L:List B_)(seen:List Nat):List B_:=seen.map fun i=>(L[i]?).getD ⟨#[]⟩
theorem NI(a b:List UInt8):decide (a<=b)||decide (b<=a):=by all_goals grind
theorem Eh{a b}(h:a.Perm b):jF a=jF b:=by
 unfold jF;congr 1;have d:∀l:List _,((l.map qn).mergeSort _).Pairwise _:=fun l =>
  List.pairwise_mergeSort (le:=fun x y=>decide (x<=y)) (fun a b c e i=>decide_eq_true (List.le_trans (b9 e) (b9 i))) NI _
 exact List.Perm.eq_of_pairwise (fun x y _ _ f g=>List.le_antisymm (b9 f) (b9 g)) (d a) (d b) (((List.mergeSort_perm _ _).trans (h.map _)).trans (List.mergeSort_perm _ _).symm)
end Go.Proofs.YtopnleflllkbmaaGreatDoor
end
section
namespace Go.Proofs
open Go.RowKit Go.Sort Go.Shelf
def aEv:Go.Shelf.Ren:=⟨fun|264=>213|n=>n,fun|53=>169|46=>157|n=>n,fun|n=>n⟩
theorem aFB:Go.Proofs.Lays.n264 Tryz.prog aEv:={
  mixed:=rfl
  f264:=Tryz.func213.trans (congrArg _ (Z))
  t46:=kW
  a46:=DO
  z46:=AP
  v46:=tE
  t53:=gF
  a53:=wY
  z53:=uH
  v53:=tD}
end Go.Proofs
namespace Go.Proofs.YtopnleflllkbmaaGreatDoor
open Go.Proofs.Tryz
open Go.Abs
abbrev uv(n:Nat):AV:=.pv (.int .u64 (n:Int))
theorem dk(x y)(c:x<18446744073709551616)(b:y<18446744073709551616)(H):RC 213 [uv x,uv y] (.tup [uv (x*y / 18446744073709551616),uv (x*y % 18446744073709551616)]) H :=Go.Abs.mul64_c aFB x y c b H
theorem Es(a k){m:Int}(h:m.toNat=k):a / 2 ^ m.toNat=((a / 2 ^ k:Nat):Int):=F_
def yt(x:Nat):Nat:=x*2862933555777941757 % 18446744073709551616
def aAF(x:Nat):Nat:=yt x ^^^ (yt x / 2 ^ 32)
def yr(x:Nat):Nat:=aAF x*3935559000370003845 % 18446744073709551616
def OB(x:Nat):Nat:=yr x ^^^ (yr x / 2 ^ 29)
theorem F4(x):yt x<18446744073709551616:=Nat.mod_lt _ H_
theorem F3(x):yr x<18446744073709551616:=Nat.mod_lt _ H_
theorem yF{x}(k)(h:x<18446744073709551616):x / 2 ^ k<18446744073709551616:=Nat.lt_of_le_of_lt (Nat.div_le_self _ _) h
theorem DZ{x y}(h:x<18446744073709551616)(a:y<18446744073709551616):x ^^^ y<18446744073709551616:=Nat.xor_lt_two_pow (n:=64) h a
theorem Te(x):aAF x<18446744073709551616:=DZ (F4 x) (yF _ (F4 x))
theorem YX(x):OB x<18446744073709551616:=DZ (F3 x) (yF _ (F3 x))
theorem aC5(x:Nat)(b:x<18446744073709551616)(H:aF):RC 158 [uv x] (uv (OB x)) H:=by refine Pu ?_;exact Bd func158 Z ntmps158<|Sz U<|C V<|Y (bF Z Z call213 Z (dk x _ b E_ _))<|Y V<|Y dH<|Y dH<|O U<|C V<|Y V<|Y (FZ Z Z Z E_ E_ (Es (yt x) 32 Z))<|Y (pC Z H_ Z Z (bits_xor_u64_nat (yt x) _ (F4 x) (yF 32 (F4 x))))<|O U<|C V<|Y (bF Z Z call213 Z (dk (aAF x) _ (Te x) E_ _))<|Y V<|Y dH<|Y dH<|O U<|C V<|Y V<|Y (FZ Z Z Z E_ E_ (Es (yr x) 29 Z))<|Y (pC Z H_ Z Z (bits_xor_u64_nat (yr x) _ (F3 x) (yF 29 (F3 x))))<|O U<|aC<|Rt<|Qq
def wP(n:Nat):Int:=if n<10 then 48+(n:Int)else 87+(n:Int)
def lK(i:Nat):List AV:=(List.range 16).map fun j=>.pv (.int .u8 (if j<i then wP j else 0))
theorem C8(i):(lK i).length=16:=rfl
theorem IN{i j}(h:j<16):(lK i)[j]?=some (.pv (.int .u8 (if j<i then wP j else 0))):=by rw[lK,r6,List.getElem?_range h];rfl
theorem SZ{i}(h:i<16):(lK i).set i (.pv (.int .u8 (wP i)))=lK (i+1):=by
 apply List.ext_getElem?;intro j;by_cases a:j<16
 ·rw[IN a];by_cases e:i=j
  ·subst e;rw[List.getElem?_set_self (h),b6 (Nat.lt_succ_self _)]
  rw[List.getElem?_set_ne e,IN a]
  grind
 rw[List.getElem?_eq_none (by rw[List.length_set,C8];omega),List.getElem?_eq_none (by rw[C8];omega)]
theorem og{i}(h:i<16)(x){y}(a:y=.pv (.int .u8 (wP i))):((lK i).set i x).set i y=lK (i+1):=by rw[List.set_set,a,SZ h]
theorem uD{H}{n T i}:∀r∈(bx n T (lK i)).rows,∀a∈r,Clo H a:=by intro r b a c;rw[q_]at b;subst b;obtain ⟨j,_,rfl⟩:=List.mem_map.1 c;exact .pv _
instance{H}{n T i}:W_ (H) ((bx n T (lK i)).rows):=⟨uD ⟩
theorem oh{H}{i}:∀a∈lK i,Clo H a:=by intro a b;obtain ⟨j,_,rfl⟩:=List.mem_map.1 b;exact .pv _
theorem ve:((lK 16).drop 0).take 16=lK 16:=rfl
theorem Kq(H:aF):RC 159 [] (.agg (lK 16)) H:=by
 refine Pu<|Bd func159 Z ntmps159<|Sz (kl 0 pr)<|Sz (kl 1 pr)<|S<|Sz V<|aD<|bC (σ:=Nat) (fun i=>([(0,.ref 0 0 0 0),(1,.ref 1 0 0 0),(3,iv (i:Int))],[(1,bx 16 180 (lK i)),(0,bx 16 180 (lK 0))])) (fun i=>i<=16) (fun i=>16 - i) 0 (l6 _) ?_ ?_
 ·exact(cJ.wk (Ea<|Ea<|Eb<|T_) (Hc uD<|Hc uD<|T_) T_)
 intro i hi;refine Sz cM<|S<|Cn ?_ ?_<;>intro c
 ·have f:i<16:=by have:=b9 c;omega
  refine aA<|S<|aD<|C V<|O U<|C V<|Y V<|Y gT<|Y (by exact eP Z underlying3 dM Z (by exact wu8 (by omega) (by omega)))<|Y (by exact eK Z yN cK Z Z Z Z (by omega) (by exact l8 _) (by omega) Z)<|Uu (by exact cQ Z cK Z Z Z Z Z Z (by rw[C8];omega) (show (lK i).set (0+i*1) (.pv (.int .u8 (48+(i:Int))))=(lK i).set i (.pv (.int .u8 (48+(i:Int))))by simp_all) Z)<|Zz<|C V<|O B0 ?_;refine Cn ?_ ?_<;>intro b
  ·have d:¬ i<10:=by have:=b9 b;omega
   refine Rd V<|Y V<|Y gT<|Y (by exact dP Z Z Z (by exact qD (by omega) (by omega)))<|Y (by exact eP Z underlying3 dM Z (by exact wu8 (by omega) (by omega)))<|Y (by exact eK Z yN cK Z Z Z Z (by omega) (by exact l8 _) (by omega) Z)<|Uu (by exact cQ Z cK Z Z Z Z Z Z (by rw[List.length_set,C8];omega) (show ((lK i).set i (.pv (.int .u8 (48+(i:Int))))).set (0+i*1) (.pv (.int .u8 (97+(i:Int) - 10)))=lK (i+1)by rw[r7,Nat.mul_one];exact og f _ (by rw[wP,a8 (by have:=b9 b;omega)];grind)) Z)<|Zz<|Rd gT<|O V ?_;exact⟨i+1,by omega,by omega,(cJ.wk (Ea<|Ea<|Eb<|T_) (Hc uD<|Hc uD<|T_) T_)⟩
  have d:i<10:=by have:=b_ b;omega
  refine aA<|Rd gT<|O V ?_;refine⟨i+1,by omega,by omega,?_⟩;have e:(lK i).set i (.pv (.int .u8 (48+(i:Int))))=lK (i+1):=by
   rw[<-SZ f,wP,b6 d]
  rw[e];exact(cJ.wk (Ea<|Ea<|Eb<|T_) (Hc uD<|Hc uD<|T_) T_)
 have g:i=16:=by have:=b_ c;omega
 subst g;refine aP<|C (by exact aW Z isAgg180 ZP Z Z Z Z ve Z)<|Uu (iU ZP)<|Zz<|aC<|cR (H':=[]) (.inr Z) Z (eV Z isAgg180 ZP Z Z Z ve Z) (Fin.wk (.agg oh) T_ T_) Qq
end Go.Proofs.YtopnleflllkbmaaGreatDoor
end
namespace Go.Proofs.YtopnleflllkbmaaGreatDoor
open Go.Proofs.Tryz
open Go.Abs
variable{a:Nat}
def vX(l:List UInt8):Nat:=l.foldl (fun n b=>n*256+b.toNat) 0
def mR(l:List UInt8):List UInt8:=l.take 8++List.replicate (8 - l.length) 0
theorem cr(l):(mR l).length=8:=by rw[mR,j9,q8,List.length_replicate];omega
theorem XH(l)(b):vX (l++[b])=vX l*256+b.toNat:=by rw[vX,List.foldl_append];rfl
theorem vo(l):vX l<256 ^ l.length:=by
 suffices h:∀(l:List _) (n),l.foldl _ n<(n+1)*256 ^ l.length by
  have:=h l 0;rw[Nat.one_mul]at this;exact this
 intro l
 induction l with
 |nil=>simp_all
 |cons b r c =>
  intro n;have a:=c (n*256+b.toNat);have h2:=b.toNat_lt;refine Nat.lt_of_lt_of_le a ?_;rw[j8,Nat.pow_succ,Nat.mul_comm (256 ^ r.length) _,<-Nat.mul_assoc];exact Nat.mul_le_mul_right _ X
theorem TH{l}(h:l.length<=8):vX l<18446744073709551616:=by refine Nat.lt_of_lt_of_le (vo l) ?_;exact Nat.le_trans (Nat.pow_le_pow_right H_ h) H_
theorem gv{l}(h:l.length<=7):vX l<72057594037927936:=by refine Nat.lt_of_lt_of_le (vo l) ?_;exact Nat.le_trans (Nat.pow_le_pow_right H_ h) H_
def SY:Nat->List UInt8->Nat
 |s,a::b::c::d::e::f::g::h::r=>SY (OB (s ^^^ vX [a,b,c,d,e,f,g,h])) r
 |s,l=>OB (s ^^^ vX (mR l))
theorem W0(s){l}(h:8<=l.length):SY s l=SY (OB (s ^^^ vX (mR (l.take 8)))) (l.drop 8):=by
 match l,h with
 |a::b::c::d::e::f::g::h::r,_=>rfl
theorem W1(s){l}(h:l.length<8):SY s l=OB (s ^^^ vX (mR l)):=by
 match l,h with
 | [],_=>rfl
 | [a],_=>rfl
 | [a,b],_=>rfl
 | [a,b,c],_=>rfl
 | [a,b,c,d],_=>rfl
 | [a,b,c,d,e],_=>rfl
 | [a,b,c,d,e,f],_=>rfl
 | [a,b,c,d,e,f,g],_=>rfl
 |_::_::_::_::_::_::_::_::r,h=>simp[j8]at h;omega
def UE(st j:Nat):Nat:=st / 2 ^ (60 - 4*j) % 16
def BO(st:Nat):List UInt8:=(List.range 16).map fun j=>UInt8.ofNat (wP (UE st j)).toNat
def AB(st i:Nat):List AV:=(List.range 16).map fun j=>.pv (.int .u8 (if j<i then wP (UE st j)else 0))
theorem H4(a i):(AB a i).length=16:=rfl
theorem RX{a i j}(h:j<16):(AB a i)[j]?=some (.pv (.int .u8 (if j<i then wP (UE a j)else 0))):=by rw[AB,r6,List.getElem?_range h];rfl
theorem mj{a i}(h:i<16):(AB a i).set i (.pv (.int .u8 (wP (UE a i))))=AB a (i+1):=by
 apply List.ext_getElem?;intro j;by_cases b:j<16
 ·rw[RX b];by_cases e:i=j
  ·subst e;rw[List.getElem?_set_self h,b6 (Nat.lt_succ_self _)]
  rw[List.getElem?_set_ne e,RX b]
  grind
 rw[List.getElem?_eq_none (by rw[List.length_set,H4];omega),List.getElem?_eq_none (by rw[H4];omega)]
theorem Ik{H}{c i}:∀a∈AB c i,Clo H a:=by intro a b;obtain ⟨j,_,rfl⟩:=List.mem_map.1 b;exact .pv _
theorem Mb{H}{l}:∀a∈mF l,Clo H a:=by intro a b;obtain ⟨j,_,rfl⟩:=List.mem_map.1 b;exact .pv _
theorem M7{H}{n T}{l}(h:∀a∈l,Clo H a):∀r∈(bx n T l).rows,∀a∈r,Clo H a:=F_
theorem EN(a j):UE a j<16:=Nat.mod_lt _ H_
theorem um{n}(h:n<16):0<=wP n/\wP n<256:=by unfold wP;all_goals omega
theorem ml(b):AB b 16=mF (BO b):=by rw[mF,BO,List.map_map];refine List.map_congr_left fun j d=>?_;have c:=List.mem_range.1 d;have f:=um (EN b j);simp only[Function.comp];rw[b6 c,UInt8.toNat_ofNat'];have e:(wP (UE b j)).toNat % 2 ^ 8=(wP _).toNat:=Nat.mod_eq_of_lt X;rw[e,Int.toNat_of_nonneg f.1]
def UI(n:Nat):Nat:=1181783497276652981 ^^^ n
def E7(s:B_):B_:=⟨(BO (SY (UI s.size) s.data.toList)).toArray⟩
theorem vd{n}(h:n<18446744073709551616):UI n<18446744073709551616:=DZ H_ h
theorem orN{b:Nat}(ha:a<72057594037927936)(hb:b<256):bits .or .u64 ((a*256:Nat)) b=((a*256+b:Nat)):=by rw[bits_or_u64_nat _ _ X X];have h:=Nat.two_pow_add_eq_or_of_lt (i:=8) X a;rw[Nat.mul_comm]at h;rw[h]
theorem aD8(h:a<72057594037927936):IntKind.u64.wrap (a*2 ^ ((8:Int)).toNat)=((a*256:Nat)):=by show IntKind.u64.wrap (a*256)=_;rw[IntKind.wrap_u64];omega
theorem ae{n:Nat}(h:n<18446744073709551616):IntKind.u64.wrap n=n:=by rw[IntKind.wrap_u64];omega
theorem Dv(s:B_)(g:Nat)(k:g<18446744073709551616):aS Tryz.prog 157 [sv s,.ref 903 0 0 0] [(903,bx 1 169 [uv g])] (fun r H'=>r=.tup []/\H'=[(903,bx 1 169 [uv (OB (g ^^^ vX (mR s.data.toList)))])]):=by
 have t:(List.replicate 8 (AV.pv (.int .u8 0)))=mF (List.replicate 8 0):=by rfl
 have hm:min s.size 8<=8:=X
 have o:s.data.toList.length=s.size:=H_
 have d:mF (s.data.toList.take (min s.size 8))++(List.replicate 8 (AV.pv (.int .u8 0))).drop (min s.size 8)=mF (mR s.data.toList):=by
  rw[t,mF,mF,<-List.map_drop,<-List.map_append,List.drop_replicate,mF,mR,o]
  grind
 refine Bd func157 Z ntmps157<|Sz (kl 3 aBO)<|S<|Rg<|K6 (id:=3) Z Z Z Z underlying179 cK Z Z rfl<|Mi Z Z Z E_ Z rfl<|ZL Z Z Z Z dB cK Z E_ Z rfl<|Zz<|Sz U<|S<|Sz V<|aD<|bC (σ:=Nat) (fun i=>([(0,sv s),(1,.ref 903 0 0 0),(3,.ref 3 0 0 0),(4,uv (vX ((mR s.data.toList).take i))),(9,iv (i:Int))],[(3,bx 8 179 (mF (mR s.data.toList))),(903,bx 1 169 [uv g])])) (fun i=>i<=8) (fun i=>8 - i) 0 (l6 _) ?_ ?_
 ·rw[<-d];refine cJ.wk (Eb<|Ea<|Ea<|Eb<|Eb<|T_) (Hc ?_<|Hb<|T_) ⟨Z,T_⟩;rw[d];exact M7 Mb
 intro i hi;have h:=cr s.data.toList;have hti:((mR s.data.toList).take i).length<=8:=F_
 refine Sz cM<|S<|Cn ?_ ?_<;>intro j
 ·have hlt:i<8:=I_ j
  obtain ⟨b,q⟩:∃b,(mR s.data.toList)[i]?=some b:=⟨_,m8 X⟩;have l:(mF (mR s.data.toList))[i]?=some (.pv (.int .u8 (b.toNat:Int))):=by rw[mF,r6,q];rfl
  have m:((mR s.data.toList).take i).length<=7:=G_
  have p:=gv m;have hb3:=b.toNat_lt;refine aA<|S<|aD<|C V<|O U<|Rd V<|Y (O2 Z Z Z E_ E_ (aD8 p))<|Y V<|Y (eK Z underlying179 cK Z Z Z Z X (l8 _) X Z)<|Y (by exact aX Z uI Z Z Z Z (by rw[r7,Nat.mul_one];exact l))<|Y (eP Z dM gF Z (ae X))<|Y (pC Z H_ Z Z (orN p X))<|O U<|Rd gT<|O V ?_;refine⟨i+1,X,X,?_⟩;have e:vX ((mR s.data.toList).take (i+1))=vX ((mR s.data.toList).take i)*256+b.toNat:=by rw[List.take_add_one,q,Option.toList_some,XH]
  rw[e];exact(cJ.wk (Eb<|Ea<|Ea<|Eb<|Eb<|T_) (Hc (M7 Mb)<|Hb<|T_) ⟨Z,T_⟩)
 have n:i=8:=J_ j
 subst n;have e:(mR s.data.toList).take 8=mR s.data.toList:=List.take_of_length_le X;rw[e];refine aP<|Rd (bS wY)<|Y V<|Y (pC Z H_ Z Z (bits_xor_u64_nat g _ k (TH (Nat.le_of_eq h))))<|Y (kc call158 (aC5 _ (DZ k (TH (Nat.le_of_eq h))) _))<|Uu (iU uH)<|Zz ?_;exact oP (H':=[(903,bx 1 169 [uv (OB (g ^^^ vX (mR s.data.toList)))])]) (.inl Z) Z P_ ⟨Z,Z⟩
theorem fj(s:B_)(i j):(s.extract i j).data.toList=(s.data.toList.drop i).take (j - i):=H_
theorem dAt(a i):(lK 16)[0+UE a i*1]?=some (.pv (.int .u8 (wP (UE a i)))):=by rw[r7,Nat.mul_one,IN (EN _ i),b6 (EN _ i)]
theorem aEG(b:a<18446744073709551616):bits .and .u64 a 15=((a % 16:Nat)):=by have h:=bits_and_u64_nat a 15 b H_;rw[Nat.and_two_pow_sub_one_eq_mod a 4]at h;exact h
theorem qu(s:B_)(H:aF)(hs:s.size<2^62):RC 106 [sv s] (sv (E7 s)) H:=by
 refine Pu ?_;have k:UI s.size<18446744073709551616:=vd X;have hsl:s.data.toList.length=s.size:=H_
 refine Bd func106 Z ntmps106<|Sz U<|C V<|Y (gM U_)<|Y (eP Z underlying3 gF Z (ae X))<|Y (pC Z H_ Z Z (bits_xor_u64_nat 1181783497276652981 s.size E_ X))<|Y (kl 903 aBQ)<|Uu (iU uH)<|Zz<|C (gR Z Z)<|O U<|S<|aD<|fR (fun(x:B_) (b:Nat)=>([(0,sv x),(3,.ref 903 0 0 0),(4,.clo 157 [.ref 903 0 0 0])],[(903,bx 1 169 [uv b])])) (fun x b=>b<18446744073709551616/\x.size<=s.size/\SY b x.data.toList=SY (UI s.size) s.data.toList) (fun x b=>x.size) s (UI s.size) ⟨k,j6 _,Z⟩ ?_ ?_
 ·exact Wk
 rintro x b ⟨c,hx,m⟩;have hxl:x.data.toList.length=x.size:=H_
 refine S<|C V<|Y (gM U_)<|O B0<|Cn ?_ ?_<;>intro d
 ·have n:8<=x.size:=I_ d
  refine aA<|S<|aD<|Rd V<|Y V<|Y (bT (l:=0) (h:=8) Z U_ Z Z Z X X Z)<|O (cZ Z Z Z (dF.clo call157 (Dv (x.extract 0 8) b c)))<|Rd V<|Y (bT (l:=8) (h:=x.size) Z U_ Z Z Z X X Z)<|Da ?_;refine⟨x.extract 8 x.size,OB (b ^^^ vX (mR (x.extract 0 8).data.toList)),⟨YX _,by rw[ByteArray.size_extract];omega,?_⟩,by rw[ByteArray.size_extract];omega,Wk⟩;rw[<-m,W0 b (by omega:8<=x.data.toList.length),fj,fj,List.drop_zero,List.take_of_length_le (l:=x.data.toList.drop 8) F_]
 have n:x.size<8:=J_ d
 have o:=W1 b (by omega:x.data.toList.length<8);obtain ⟨f_,l⟩:∃f_,f_=OB (b ^^^ vX (mR x.data.toList)):=X_;have h:f_<18446744073709551616:=by rw[l];exact YX _
 have e:E7 s=⟨(BO f_).toArray⟩:=by rw[E7,<-m,o,l]
 rw[e];refine aP<|C V<|Y V<|O (cZ Z Z Z (dF.clo call157 (Dv x b c)))<|C (kc call159 (Kq _))<|Y (kl 5 pr)<|Uu (iU ZP)<|Zz<|Sz (kl 6 pr)<|S<|Sz V<|aD ?_;rw[<-l];refine bC (σ:=Nat) (fun i=>([(3,.ref 903 0 0 0),(5,.ref 5 0 0 0),(6,.ref 6 0 0 0),(26,iv (i:Int))],[(6,bx 16 180 (AB f_ i)),(5,bx 16 180 (lK 16)),(903,bx 1 169 [uv f_])])) (fun i=>i<=16) (fun i=>16 - i) 0 (l6 _) ?_ ?_
 ·exact(cJ.wk (Ea<|Ea<|Ea<|Eb<|T_) (Hc (M7 Ik)<|Hc (M7 oh)<|Hb<|T_) T_)
 intro i hi;refine Sz cM<|S<|Cn ?_ ?_<;>intro f
 ·have g:i<16:=I_ f
  refine aA<|S<|aD<|C V<|O U<|Rd V<|Y (bS wY)<|Y V<|Y (qM Z Z Z (qD X X))<|Y (dP Z Z Z (qD X X))<|Y (by exact FZ Z Z Z X (by simp[IntKind.bits];omega) (Es f_ (60 - 4*i) X))<|Y (pC Z H_ Z Z (aEG (yF _ h)))<|Y (eK Z yN cK Z Z Z Z X (l8 _) (EN f_ i) Z)<|Y (aX Z uI Z Z Z Z (dAt f_ i))<|Y (eK Z yN cK Z Z Z Z X (l8 _) X Z)<|Uu (by exact cQ Z cK Z Z Z Z Z Z (by rw[H4];omega) (show (AB f_ i).set (0+i*1) (.pv (.int .u8 (wP (UE f_ i))))=AB f_ (i+1)by rw[r7,Nat.mul_one];exact mj g) Z) ?_;refine Zz<|Rd gT<|O V ?_;exact⟨i+1,X,X,(cJ.wk (Ea<|Ea<|Ea<|Eb<|T_) (Hc (M7 Ik)<|Hc (M7 oh)<|Hb<|T_) T_)⟩
 have j:i=16:=J_ f
 subst j;refine aP<|S<|Rg<|K6 (id:=6) Z Z Z Z yN cK Z Z rfl<|Vl (bs:=BO f_) Z Z Z Z dB dM U_ (by rw[<-ml];rfl) E_ Z ?_;exact O U<|aC<|Rt<|Qq
end Go.Proofs.YtopnleflllkbmaaGreatDoor
namespace Go.Abs
variable{H H':aF}
def aAr(H' H:aF):Prop:=∀j o',H'.get j=some o'->∃o,H.get j=some o/\o'.g=o.g/\o'.sz=o.sz/\o'.rows.length=o.rows.length
theorem VRel.restrictG{w:World}{I:Nat->Prop}{ι:lP}(r:aAr H' H){v:Value}{a:AV}(h:VRel w I ι H v a):Clo H' a->VRel w I ι H' v a:=by
 induction h with
 |any v=>exact fun _=>.any v
 |pv h=>exact fun _=>.pv h
 | ref o f p g m =>
  intro c;cases c with
  |ref c =>
   obtain ⟨k,d⟩:=Option.isSome_iff_exists.1 c;obtain ⟨u,e,x,t,s⟩:=r _ _ d;rw[f]at e;cases e;exact .ref k d X g (fun y=>by simp_all)
 |pad b D A e_ f p g K m N o_=>exact fun _=>.pad b D A e_ f p g K m N o_
 | osl o f p g m =>
  intro c;cases c with
  |osl c =>
   obtain ⟨k,d⟩:=Option.isSome_iff_exists.1 c;obtain ⟨u,e,x,t,s⟩:=r _ _ d;rw[f]at e;cases e;exact .osl k d X g (fun y=>by simp_all)
 |clo n h l =>
  intro c;cases c with|clo c=>exact .clo n fun i v a q j=>l i v a q j (c a (m7 j))
 |bnd n h l =>
  intro c;cases c with|bnd c=>exact .bnd n fun i v a q j=>l i v a q j (c a (m7 j))
 |agg n f h l =>
  intro c;cases c with|agg c=>exact .agg n f fun i v a q j=>l i v a q j (c a (m7 j))
 |tup n h l =>
  intro c;cases c with|tup c=>exact .tup n fun i v a q j=>l i v a q j (c a (m7 j))
 | mp o f p g m =>
  intro c;cases c with
  |mp c =>
   obtain ⟨k,d⟩:=Option.isSome_iff_exists.1 c;obtain ⟨u,e,x,t,s⟩:=r _ _ d;rw[f]at e;cases e;exact .mp k d X g (fun y=>by simp_all)
 | it o f p g m =>
  intro c;cases c with
  |it c =>
   obtain ⟨k,d⟩:=Option.isSome_iff_exists.1 c;obtain ⟨u,e,x,t,s⟩:=r _ _ d;rw[f]at e;cases e;exact .it k d X g (fun y=>by simp_all)
 | yld o f p g m =>
  intro c;cases c with
  |yld c =>
   obtain ⟨k,d⟩:=Option.isSome_iff_exists.1 c;obtain ⟨u,e,x,t,s⟩:=r _ _ d;rw[f]at e;cases e;exact .yld k d X g (fun y=>by simp_all)
 | osc o f p g m =>
  intro c;cases c with
  |osc c =>
   obtain ⟨k,d⟩:=Option.isSome_iff_exists.1 c;obtain ⟨u,e,x,t,s⟩:=r _ _ d;rw[f]at e;cases e;exact .osc k d X g (fun y=>by simp_all)
theorem VRel.freezeG{w}{I}{ι}{H H'}{id}{ob}{ps}(p:Rel I ι H w)(s:aAr H' H)(x:H.get id=some ob)(m:ob.rows=ps.map (·.map .pv)){a a'}(q:Fz H' id ob.g ps a a'):
  ∀ {v},VRel w I ι H v a->VRel w (qU I ι id) ι H' v a':=by
 induction q with
 |same h=>exact fun c=>(c.restrictG s h).mono' (fun _ _=>rfl) (fun _ h=>.inl h) (fun _ o h=>⟨o,h,j6 _,fun _=>⟨Z,Z,fun _=>j6 _⟩⟩)
 |osl r =>
  intro v c;subst r;exact .pv (EU p x m c)
 | agg g h j =>
  intro v c;cases c with
  |agg k t f =>
   refine .agg (k.trans g) t fun i u a' l b=>?_;have n:=(m_.1 b).1;exact j i _ _ (m8 X) b (f i u _ l (m8 _))
 | tup g h j =>
  intro v c;cases c with
  |tup k f =>
   refine .tup (k.trans g) fun i u a' l b=>?_;have n:=(m_.1 b).1;exact j i _ _ (m8 _) b (f i u _ l (m8 X))
def TP(H':aF)(id g:Nat)(ps:List (List PV))(rows rows':List (List AV)):Prop :=rows'.length=rows.length/\∀(i:Nat) (r':List AV),rows'[i]?=some r'->∃r,rows[i]?=some r/\r.length=r'.length/\∀(k:Nat) (a a':AV),r[k]?=some a->r'[k]?=some a'->Fz H' id g ps a a'
theorem eG{H'}{id g}{ps}{rows}(h:∀r∈rows,∀a∈r,Clo H' a):TP H' id g ps rows rows :=⟨Z,fun i r b=>⟨r,b,Z,fun k a a' d c=>by rw[d]at c;cases c;exact .same (h r (m7 b) a (m7 d))⟩⟩
theorem lW{H'}{id g}{ps}{r r'}(c:r.length=r'.length)(h:∀(k:Nat) (a a'),r[k]?=some a->r'[k]?=some a'->Fz H' id g ps a a'):TP H' id g ps [r] [r'] :=⟨Z,fun i x b=>by
  match i,b with
  |0,b=>cases b;exact⟨r,Z,c,h⟩⟩
def FOk(H H':aF)(id g:Nat)(ps:List (List PV)):aF->Prop
 | []=>True
 |(j,o')::r=>(∃o,H.get j=some o/\o'.g=o.g/\o'.sz=o.sz/\o'.ty=o.ty/\TP H' id g ps o.rows o'.rows)/\FOk H H' id g ps r
theorem FOk.spec{H H'}{id g}{ps}{L}(h:FOk H H' id g ps L):∀p∈L,∃o,H.get p.1=some o/\p.2.g=o.g/\p.2.sz=o.sz/\p.2.ty=o.ty/\TP H' id g ps o.rows p.2.rows:=by
 induction L with
 |nil=>simp
 |cons x r ih =>
  obtain ⟨h1,h2⟩:=h
  simp_all
theorem cJ.fzG{G0:aF}{E E':cY}{id:Nat}{ob:Ob}(ps:List (List PV))(B:H.get id=some ob)(K:ob.rows=ps.map (·.map .pv))(hE:∀p∈E',∃v0,E.get p.1=some v0/\Fz H' id ob.g ps v0 p.2)(W:H'.get id=none)
    (hF:FOk H H' id ob.g ps H') (hk:Bz H' H G0):cJ G0 E H E' H':=by
  intro G hG N a w T;obtain ⟨I,A,q,d,he⟩:=T.rel;subst hG;have d_:∀j f,H'.get j=some f->∃o,H.get j=some o/\f.g=o.g/\f.sz=o.sz/\f.ty=o.ty/\TP H' id ob.g ps o.rows f.rows:=fun j f x=>hF.spec _ (dX x);have s:aAr H' H:=fun j f x=>by
    obtain ⟨o,u,z_,R,_,L⟩:=d_ j f x;exact⟨o,u,z_,R,L.1⟩
  have D:∀b,NF A H' b->NF A H b:=fun b ⟨j,f,c,g,n⟩=>by
    obtain ⟨o,u,_⟩:=d_ j f g;exact⟨j,o,c,u,n⟩
  have c_:Rel (qU I A id) A H' w:=by
    refine⟨fun b l=>?_,fun j f x=>?_,fun j j' o f b c c' g n=>?_,q.glob.mono (fun _ _=>rfl) (fun _ h=>.inl h)⟩
    · rcases l with l|⟨m,l⟩
      · exact q.imm b l
      · exact q.lt ⟨id,ob,m,B,l⟩
    · obtain ⟨o,u,z_,R,e4,L,y_⟩:=d_ j f x
      refine(q.obj j o u).keepG R e4 L (bq L.symm (fun i u_ v_=>by
        obtain ⟨r,e_,Q,A_⟩:=y_ i u_ v_;exact⟨r,e_,Q,fun k a P g n y ts e=>(A_ k a P g n).raw e⟩)) Z (fun b' F q1 _=>⟨Z,fun q3=>?_⟩) (fun i u_ v_=>?_)
      · rintro(h|⟨m,h⟩)
        · exact q3 h
        · have:j=id:=q.inj j id o ob b' F m u B q1 h
          rw[this,W]at x;cases x
      · obtain ⟨r,e_,Q,A_⟩:=y_ i u_ v_
        exact⟨r,e_,Q,fun k a P g n v f_=>VRel.freezeG q s B K (A_ k a P g n) f_⟩
    · obtain ⟨p,u,_⟩:=d_ j o g
      obtain ⟨p',o_,_⟩:=d_ j' f n;exact q.inj j j' p p' b c c' u o_
  have z:Step G.I G.ι G.H G.w (qU I A id) A H' w :=
    { os := d.os, tape := d.tape, output := d.output, size := d.size, froz := d.froz, keep := d.keep
      imm:=fun b l=>.inl (d.imm b l)
      immNew:=fun b l=>by
        rcases l with l|⟨m,l⟩
        · exact d.immNew b l
        · rcases d.own b ⟨id,ob,m,B,l⟩with g|g
          · exact .inr (.inl g)
          · exact .inr (.inr g)
      own:=fun b l=>d.own b (D b l)
      objs:=fun j o ho=>by
        obtain ⟨f,g,n⟩:=d.objs j o ho;exact⟨f,(hk.kept j (by simp[ho])).trans g,n⟩}
  refine⟨T.defers,T.size,_,A,c_,z,fun t v ht=>?_⟩;obtain ⟨v0,g,n⟩:=hE _ (iJ ht);obtain ⟨c,hc,f_⟩:=he t v0 g;exact⟨c,hc,VRel.freezeG q s B K n f_⟩
end Go.Abs
