/-
  Parts of the proof. Conditions: each theorem's own.
-/
import Derived.Test.YtopnleflllkbmaaGreatDoorKX3rM1
import Derived.Test.YtopnleflllkbmaaGreatDoorRows
import Derived.OpenShut
import Derived.JoinedCond
import Derived.Carry
import Derived.MapKept
import Derived.Laws.IdiomRangeMap
import Derived.Lib.Bytealg
import Derived.Shelf.SortM.Plain
import Derived.Shelf.SortM.SortNone
import Derived.Ground.SlgmProg
import Derived.Shelf.Strconv.Itoa3
import Derived.Shelf.Bits.Mul64
import Derived.Shelf.LaysM
import Derived.Ground.NamesProg
import Derived.Shelf.Lays
import Derived.Laws.Bits64b
set_option linter.unusedVariables false
set_option linter.unusedSimpArgs false
set_option maxRecDepth 100000
set_option maxHeartbeats 8000000
open List Nat
namespace Go.Proofs
open Tryz
theorem oW:type_of% call154:=call154
theorem mG:type_of% eqGuardType104:=eqGuardType104
theorem eD:type_of% isAgg104:=isAgg104
theorem dF:type_of% isAgg133:=isAgg133
theorem eC:type_of% isAgg159:=isAgg159
theorem xC:type_of% isAgg169:=isAgg169
theorem vM:type_of% isAgg20:=isAgg20
theorem aG:type_of% isAgg22:=isAgg22
theorem xB:type_of% isAgg270:=isAgg270
theorem nA:type_of% isAgg4:=isAgg4
theorem uM:type_of% isAgg5:=isAgg5
theorem aZ:type_of% sizeOf137:=sizeOf137
theorem AU:type_of% sizeOf157:=sizeOf157
theorem qF:type_of% sizeOf159:=sizeOf159
theorem uL:type_of% sizeOf169:=sizeOf169
theorem AT:type_of% sizeOf223:=sizeOf223
theorem lN:type_of% sizeOf270:=sizeOf270
theorem cM:type_of% sizeOf5:=sizeOf5
theorem dT:type_of% sizeOf70:=sizeOf70
theorem DP:type_of% underlying0:=underlying0
theorem dO:type_of% underlying133:=underlying133
theorem nR:type_of% underlying135:=underlying135
theorem hU:type_of% underlying137:=underlying137
theorem kZ:type_of% underlying157:=underlying157
theorem dD:type_of% underlying159:=underlying159
theorem gL:type_of% underlying169:=underlying169
theorem yV:type_of% underlying180:=underlying180
theorem cP:type_of% underlying185:=underlying185
theorem aE:type_of% underlying22:=underlying22
theorem N_:type_of% isAgg9:=isAgg9
theorem M_:type_of% isAgg3:=isAgg3
theorem U_:type_of% underlying9:=underlying9
theorem V_:type_of% sizeOf9:=sizeOf9
theorem gK:type_of% underlying223:=underlying223
theorem eH:type_of% underlying4:=underlying4
theorem eW:type_of% underlying46:=underlying46
theorem jT:type_of% underlying48:=underlying48
theorem gC:type_of% underlying49:=underlying49
theorem cZ:type_of% underlying5:=underlying5
theorem tL:type_of% underlying51:=underlying51
theorem eV:type_of% underlying53:=underlying53
theorem lZ:type_of% underlying68:=underlying68
theorem AS:type_of% underlying70:=underlying70
theorem tJ:type_of% underlying73:=underlying73
theorem lY:type_of% underlying82:=underlying82
theorem tI:type_of% underlying84:=underlying84
theorem AR:type_of% underlying92:=underlying92
theorem tH:type_of% zeroValue157:=zeroValue157
theorem tG:type_of% zeroValue169:=zeroValue169
theorem vL:type_of% zeroValue22:=zeroValue22
theorem sH:type_of% zeroValue3:=zeroValue3
theorem iU:type_of% zeroValue4:=zeroValue4
theorem sF:type_of% zeroValue5:=zeroValue5
theorem gQ:type_of% zeroValue9:=zeroValue9
end Go.Proofs
namespace Go.Abs
variable{ops:Array Oper}{K:cY->aF->Prop}{rest:List Oper}{d t:Tmp}{op:Op}{ty f_ off:TypeId}{pos:String}{af:Array Edge}{x y:Code}{id n k k2 m sz j:Nat}{b want:Bool}{α β γ:Type}{f:FuncId}{args vs r cs cells:List AV}{rows:List (List PV)}{dst:Option Tmp}{c:Operand}{E L:cY}{H' H:aF}{v:AV}{o:Ob}{s:B_}
section
section
variable{P:Program}{G0:aF}{N:Nat}{o:Oper}{H H2:aF}{Q:Exit->cY->aF->Prop}{T e t t':TypeId}{x y:Operand}{id g i:Nat}{ob:Ob}
theorem Y(h:cN P N ⟨some d,op,ty,pos,af,none⟩ E H v H2)(hk:AL P G0 N ops K rest ((d,v)::E) H2)(hn:Nat.blt d N=true:=by rfl):AL P G0 N ops K (⟨some d,op,ty,pos,af,none⟩::rest) E H:=qp Z Z hn h hk
theorem Uu(h:cN P N ⟨none,op,ty,pos,af,none⟩ E H v H2)(hk:AL P G0 N ops K rest E H2):AL P G0 N ops K (⟨none,op,ty,pos,af,none⟩::rest) E H:=aE2 Z Z h hk
theorem S{x y:Code}(h:gG P G0 N x (yX (gG P G0 N y Q) Q) E H):gG P G0 N (.seq x y) Q E H:=K3 h
theorem Rg(h:AL P G0 N ops (λE H=>Q .normal E H) ops.toList E H):gG P G0 N (.region id ops false) Q E H:=DL h
theorem Zz(h:K E H):AL P G0 N ops K [] E H:=qo h
theorem aA(ho:o.op=.move x:=by rfl)(hx:aO E x=some v:=by rfl):cN P N o E H v H:=gU ho hx
theorem aI(ho:o.op=.assign x:=by rfl)(hx:aO E x=some v:=by rfl):cN P N o E H v H:=xT ho hx
theorem Sr{y:Code}(h:AL P G0 N ops (λE H=>yX (gG P G0 N y Q) Q .normal E H) ops.toList E H):gG P G0 N (.seq (.region id ops false) y) Q E H:=S (Rg h)
theorem Dm(hk:AL P G0 N ops K rest ((d,v)::E) H)(ho:op=.move x:=by rfl)(hx:aO E x=some v:=by rfl)(hn:Nat.blt d N=true:=by rfl):AL P G0 N ops K (⟨some d,op,ty,pos,af,none⟩::rest) E H:=Y (gU ho hx) hk hn
theorem Da(hk:K ((d,v)::E) H)(ho:op=.assign x:=by rfl)(hx:aO E x=some v:=by rfl)(hn:Nat.blt d N=true:=by rfl):AL P G0 N ops K [⟨some d,op,ty,pos,af,none⟩] E H:=Y (xT ho hx) (Zz hk) hn
theorem Kr{a b:Prop}(h:b)(h1:a:=by kernel_rfl):a/\b:=⟨h1,h⟩
theorem Qq{a:α}{b:β}:a=a/\b=b:=⟨Z,Z⟩
theorem Pu{r0:AV}(h:aU P f args [] (λr H=>r=r0/\H=[]))(hp:∀a∈args,Clo [] a:=by simp):aU P f args H (λr H'=>r=r0/\H'=H):=aU.pure h hp H
theorem dK(ho:o.op=.extract x n:=by rfl)(hx:aO E x=some (.tup vs):=by rfl)(hv:vs[n]?=some v:=by rfl):cN P N o E H v H:=vB ho hx hv
theorem bA{f:Nat}(hF:cF P f_ f off)(ho:o.op=.fieldAddr f_ x f:=by rfl)(hx:aO E x=some (.ref id g i k):=by rfl)(hH:H.get id=some ob:=by rfl)(hg:ob.g=g:=by rfl)(hk:k+off=k2:=by rfl):cN P N o E H (.ref id g i k2) H:=nY ho hF hx hH hg hk
theorem bQ(ha:∀w,(isAgg T).run P w=.ok false w)(ho:o.op=.load T x:=by rfl)(hx:aO E x=some (.ref id g i k):=by rfl)(hH:H.get id=some ob:=by rfl)(hg:ob.g=g:=by rfl)(hi:ob.rows[i]?=some r:=by rfl)(hk:r[k]?=some v:=by rfl):cN P N o E H v H:=aX ho ha hx hH hg hi hk
theorem wQ(ha:∀w,(isAgg T).run P w=.ok true w)(hs:∀w,(sizeOf T).run P w=.ok n w)(ho:o.op=.load T x:=by rfl)(hx:aO E x=some (.ref id g i k):=by rfl)(hH:H.get id=some ob:=by rfl)(hg:ob.g=g:=by rfl)(hi:ob.rows[i]?=some r:=by rfl)(hk:(r.drop k).take n=cs:=by rfl)(hl:cs.length=n:=by rfl):cN P N o E H (.agg cs) H:=aW ho ha hs hx hH hg hi hk hl
theorem jA(hs:∀w,(sizeOf T).run P w=.ok n w)(ho:o.op=.store T x y:=by rfl)(hx:aO E x=some (.ref id g 0 0):=by rfl)(hy:aO E y=some v:=by rfl)(hc:PU v=some cells:=by rfl)(hn:cells.length=n:=by rfl)(hH:H.get id=some ob:=by rfl)(hg:ob.g=g:=by rfl)(hi:ob.rows=[r]:=by rfl)(hk:r.length=n:=by rfl):cN P N o E H .any ((id,⟨g,ob.sz,ob.ty,[cells]⟩)::H):=lR ho hs hx hy hc hn hH hg hi hk
theorem fW(ht:P.underlying T=some (.slice e))(ho:o.op=.call {callee:=.builtin .len,args:=#[x],argTypes:=#[T]}:=by rfl)(hx:aO E x=some (.pv (.sl rows)):=by rfl):cN P N o E H (.pv (.int .i64 rows.length)) H:=kW ho ht hx
theorem iO{r:List PV}{kk:IntKind}{n:Int}(hS:fG P T e sz)(ho:o.op=.indexAddr T x y:=by rfl)(hx:aO E x=some (.pv (.sl rows)):=by rfl)(hy:aO E y=some (.pv (.int kk n)):=by rfl)(h0:0<=n:=by omega)(hm:n.toNat=m:=by exact l_ _)(hi:rows[m]?=some r:=by assumption)(hl:r.length=sz:=by rfl):cN P N o E H (.pad rows m 0) H:=bU ho hS hx hy h0 hm hi hl
theorem oI{parts:Array (Nat×Operand)}{places:List (Nat×Nat)}{l0 l:List AV}{aps:List (Nat×AV)}(hB:kO P T places l0)(ho:o.op=.build T parts:=by rfl)(hp:qD E parts.toList=some aps:=by rfl)(hf:DO (λi=>places[i]?) l0 aps=some l:=by rfl):cN P N o E H (.agg l) H:=ON ho hB hp hf
theorem cJ{k:IntKind}{n m:Int}(ho:o.op=.binOp .lss t x y t':=by rfl)(hx:aO E x=some (.pv (.int k n)):=by rfl)(hy:aO E y=some (.pv (.int k m)):=by rfl):cN P N o E H (.pv (.bool (decide (n<m)))) H:=iC ho hx hy
theorem cD{k:IntKind}{n m:Int}(ho:o.op=.binOp .eql t x y t':=by rfl)(hx:aO E x=some (.pv (.int k n)):=by rfl)(hy:aO E y=some (.pv (.int k m)):=by rfl):cN P N o E H (.pv (.bool (decide (n=m)))) H:=nK ho hx hy
theorem Cq{ops:List Oper}{K:List Rec->cY->aF->Prop}(h:cN P N ⟨dst,op,ty,pos,af,none⟩ (restr E (iX ops ⟨dst,op,ty,pos,af,none⟩)) H v H)(hk:DC P N ops rest (nD E dst v) H (λrs E' H'=>K (⟨v,none,[]⟩::rs) E' H'))(hd:jB N dst=true:=by rfl):DC P N ops (⟨dst,op,ty,pos,af,none⟩::rest) E H K:=iH (DStep.q Z h) hd hk
theorem Cp{ops:List Oper}{K:List Rec->cY->aF->Prop}(R:List Nat){w:Nat×Ob}(h:∀H1:aF,(∀id,tO (some R) id=true->H1.get id=H.get id)->cN P N ⟨dst,op,ty,pos,af,none⟩ (restr E (iX ops ⟨dst,op,ty,pos,af,none⟩)) H1 v (w::H1))(hk:DC P N ops rest (nD E dst v) (w::H) (λrs E' H'=>K (⟨v,some R,[w]⟩::rs) E' H'))(hd:jB N dst=true:=by rfl):DC P N ops (⟨dst,op,ty,pos,af,none⟩::rest) E H K:=iH (r:=⟨v,some R,[w]⟩) (DStep.plain Z h) hd hk
theorem Cr{ops:List Oper}{K:List Rec->cY->aF->Prop}(R:List Nat)(h:∀H1:aF,(∀id,tO (some R) id=true->H1.get id=H.get id)->cN P N ⟨dst,op,ty,pos,af,none⟩ (restr E (iX ops ⟨dst,op,ty,pos,af,none⟩)) H1 v H1)(hk:DC P N ops rest (nD E dst v) H (λrs E' H'=>K (⟨v,some R,[]⟩::rs) E' H'))(hd:jB N dst=true:=by rfl):DC P N ops (⟨dst,op,ty,pos,af,none⟩::rest) E H K:=iH (r:=⟨v,some R,[]⟩) (DStep.plain Z h) hd hk
theorem x_{ops:List Oper}{K:List Rec->cY->aF->Prop}(h:∀{H1:aF},cN P N ⟨dst,op,ty,pos,af,none⟩ (restr E (iX ops ⟨dst,op,ty,pos,af,none⟩)) H1 v H1)(hk:DC P N ops rest (nD E dst v) H (λrs E' H'=>K (⟨v,some [],[]⟩::rs) E' H'))(hd:jB N dst=true:=by rfl):DC P N ops (⟨dst,op,ty,pos,af,none⟩::rest) E H K:=Cr [] (λ_ _=>h) hk hd
theorem Cs{ops:List Oper}{K:List Rec->cY->aF->Prop}(h:∀H1:aF,(∀id,tO none id=true->H1.get id=H.get id)->cN P N ⟨dst,op,ty,pos,af,none⟩ (restr E (iX ops ⟨dst,op,ty,pos,af,none⟩)) H1 v H1)(hk:DC P N ops rest (nD E dst v) H (λrs E' H'=>K (⟨v,none,[]⟩::rs) E' H'))(hd:jB N dst=true:=by rfl):DC P N ops (⟨dst,op,ty,pos,af,none⟩::rest) E H K:=iH (r:=⟨v,none,[]⟩) (DStep.plain Z h) hd hk
theorem Ot{ops:List Oper}{K:List Rec->cY->aF->Prop}{t:Tmp}(hk:DC P N ops rest (nD E dst (.tup [])) H (λrs E' H'=>K (⟨.tup [],some [],[]⟩::rs) E' H'))(hj:jM ops j=some t:=by rfl)(hb:E.get t=some (.pv (.bool b)):=by rfl)(hw:b=false:=by first|rfl|assumption)(hd:jB N dst=true:=by rfl):DC P N ops (⟨dst,op,ty,pos,af,some (j,true)⟩::rest) E H K:=iH (Rv Z hj hb hw) hd hk
theorem Of{ops:List Oper}{K:List Rec->cY->aF->Prop}{t:Tmp}(hk:DC P N ops rest (nD E dst (.tup [])) H (λrs E' H'=>K (⟨.tup [],some [],[]⟩::rs) E' H'))(hj:jM ops j=some t:=by rfl)(hb:E.get t=some (.pv (.bool b)):=by rfl)(hw:b=true:=by first|rfl|assumption)(hd:jB N dst=true:=by rfl):DC P N ops (⟨dst,op,ty,pos,af,some (j,false)⟩::rest) E H K:=iH (Rw Z hj hb hw) hd hk
theorem Ou{ops:List Oper}{K:List Rec->cY->aF->Prop}{t:Tmp}{w:Bool}(hk:DC P N ops rest (nD E dst (.tup [])) H (λrs E' H'=>K (⟨.tup [],some [],[]⟩::rs) E' H'))(hj:jM ops j=some t:=by rfl)(hb:E.get t=some (.tup []):=by rfl)(hd:jB N dst=true:=by rfl):DC P N ops (⟨dst,op,ty,pos,af,some (j,w)⟩::rest) E H K:=iH (Rs Z hj hb) hd hk
theorem U{t:Tmp}(h:cN P N ⟨some d,op,ty,pos,af,some (j,want)⟩ E H v H2)(hk:AL P G0 N ops K rest ((d,v)::E) H2)(hj:jM ops.toList j=some t:=by rfl)(hb:E.get t=some (.pv (.bool b)):=by rfl)(hw:b=want:=by rfl)(hn:Nat.blt d N=true:=by rfl):AL P G0 N ops K (⟨some d,op,ty,pos,af,some (j,want)⟩::rest) E H:=Nn Z hj hb hw Z hn h hk
theorem M{t:Tmp}(hk:AL P G0 N ops K rest (nD E dst (.tup [])) H)(hj:jM ops.toList j=some t:=by rfl)(hb:E.get t=some (.pv (.bool b)):=by rfl)(hw:b=!want:=by rfl)(hd:jB N dst=true:=by rfl):AL P G0 N ops K (⟨dst,op,ty,pos,af,some (j,want)⟩::rest) E H:=No Z hj hb hw hd hk
theorem Oa{t:Tmp}(h:cN P N ⟨some d,op,ty,pos,af,some (j,want)⟩ E H v H2)(hk:AL P G0 N ops K rest ((d,v)::E) H2)(hj:jM ops.toList j=some t:=by rfl)(hb:E.get t=some (.pv (.bool b)):=by rfl)(hw:b=want:=by assumption)(hn:Nat.blt d N=true:=by rfl):AL P G0 N ops K (⟨some d,op,ty,pos,af,some (j,want)⟩::rest) E H:=Nn Z hj hb hw Z hn h hk
theorem Fa{t:Tmp}(hk:AL P G0 N ops K rest (nD E dst (.tup [])) H)(hj:jM ops.toList j=some t:=by rfl)(hb:E.get t=some (.pv (.bool b)):=by rfl)(hw:b=!want:=by assumption)(hd:jB N dst=true:=by rfl):AL P G0 N ops K (⟨dst,op,ty,pos,af,some (j,want)⟩::rest) E H:=No Z hj hb hw hd hk
section
variable{R:Option (List Nat)}{H1:aF}
theorem fh{f:Nat}(hF:cF P f_ f off)(h:∀id,tO R id=true->H1.get id=H.get id)(ho:o.op=.fieldAddr f_ x f:=by rfl)(hx:aO E x=some (.ref id g i k):=by rfl)(hm:tO R id=true:=by rfl)(hH:H.get id=some ob:=by rfl)(hg:ob.g=g:=by rfl)(hk:k+off=k2:=by rfl):cN P N o E H1 (.ref id g i k2) H1:=nY ho hF hx ((h _ hm).trans hH) hg hk
theorem lh(ha:∀w,(isAgg T).run P w=.ok false w)(h:∀id,tO R id=true->H1.get id=H.get id)(ho:o.op=.load T x:=by rfl)(hx:aO E x=some (.ref id g i k):=by rfl)(hm:tO R id=true:=by rfl)(hH:H.get id=some ob:=by rfl)(hg:ob.g=g:=by rfl)(hi:ob.rows[i]?=some r:=by rfl)(hk:r[k]?=some v:=by rfl):cN P N o E H1 v H1:=aX ho ha hx ((h _ hm).trans hH) hg hi hk
end
section
variable{k:IntKind}{n m:Int}{s u:B_}{r:List PV}{i j q f F:Nat}
theorem iI(ho:o.op=.unOp .not t x:=by rfl)(hx:aO E x=some (.pv (.bool b)):=by rfl):cN P N o E H (.pv (.bool (!b))) H:=Sw ho hx
theorem zB(ho:o.op=.binOp .neq t x y t':=by rfl)(hx:aO E x=some (.pv (.int k n)):=by rfl)(hy:aO E y=some (.pv (.int k m)):=by rfl):cN P N o E H (.pv (.bool (!decide (n=m)))) H:=J2 ho hx hy
theorem iP(ho:o.op=.binOp .gtr t x y t':=by rfl)(hx:aO E x=some (.pv (.int k n)):=by rfl)(hy:aO E y=some (.pv (.int k m)):=by rfl):cN P N o E H (.pv (.bool (decide (m<n)))) H:=J5 ho hx hy
theorem G8(ho:o.op=.binOp .leq t x y t':=by rfl)(hx:aO E x=some (.pv (.int k n)):=by rfl)(hy:aO E y=some (.pv (.int k m)):=by rfl):cN P N o E H (.pv (.bool (decide (n<=m)))) H:=oM ho hx hy
theorem zU(ho:o.op=.binOp .geq t x y t':=by rfl)(hx:aO E x=some (.pv (.int k n)):=by rfl)(hy:aO E y=some (.pv (.int k m)):=by rfl):cN P N o E H (.pv (.bool (decide (m<=n)))) H:=jL ho hx hy
theorem wH(ho:o.op=.binOp .eql t x y t':=by rfl)(hx:aO E x=some (.pv (.str s)):=by rfl)(hy:aO E y=some (.pv (.str u)):=by rfl):cN P N o E H (.pv (.bool (decide (s=u)))) H:=J0 ho hx hy
theorem DZ(ho:o.op=.binOp .neq t x y t':=by rfl)(hx:aO E x=some (.pv (.str s)):=by rfl)(hy:aO E y=some (.pv (.str u)):=by rfl):cN P N o E H (.pv (.bool (!decide (s=u)))) H:=Jd ho hx hy
theorem gX(ho:o.op=.binOp .add t x y t':=by rfl)(hx:aO E x=some (.pv (.int .i64 n)):=by rfl)(hy:aO E y=some (.pv (.int .i64 m)):=by rfl){r:Int}(hr:IntKind.i64.wrap (n+m)=r:=by exact mE (by omega) (by omega)):cN P N o E H (.pv (.int .i64 r)) H:=dB ho hx hy hr
theorem E5{q2:Nat}(hF:cF P f_ f off)(ho:o.op=.fieldAddr f_ x f:=by rfl)(hx:aO E x=some (.pad rows i q):=by rfl)(hk:q+off=q2:=by rfl):cN P N o E H (.pad rows i q2) H:=UN ho hF hx hk
theorem fZ{p:PV}(ha:∀w,(isAgg T).run P w=.ok false w)(ho:o.op=.load T x:=by rfl)(hx:aO E x=some (.pad rows i q):=by rfl)(hi:rows[i]?=some r:=by first|assumption|omega)(hk:r[q]?=some p:=by rfl):cN P N o E H (.pv p) H:=dV ho ha hx hi hk
theorem CS(ho:o.op=.pick c x y:=by rfl)(hc:aO E c=some (.pv (.bool b)):=by rfl)(hb:b=true:=by assumption)(hv:aO E x=some v:=by rfl):cN P N o E H v H:=zm ho hc hb hv
theorem sC(ho:o.op=.pick c x y:=by rfl)(hc:aO E c=some (.pv (.bool b)):=by rfl)(hb:b=false:=by assumption)(hv:aO E y=some v:=by rfl):cN P N o E H v H:=zn ho hc hb hv
theorem cC(ho:o.op=.pick c x y:=by rfl)(hc:aO E c=some (.pv (.bool b)):=by rfl)(hv:aO E (if b then x else y)=some v:=by rfl):cN P N o E H v H:=EN ho hc hv
theorem gE(ht:P.underlying T=some .string)(ho:o.op=.call {callee:=.builtin .len,args:=#[x],argTypes:=#[T]}:=by rfl)(hx:aO E x=some (.pv (.str s)):=by rfl):cN P N o E H (.pv (.int .i64 s.size)) H:=NP ho ht hx
theorem sE{q:Nat}(ho:o.op=.nilCheck x:=by rfl)(hx:aO E x=some (.ref id g i q):=by rfl)(hH:H.get id=some ob:=by rfl)(hg:ob.g=g:=by rfl):cN P N o E H (.ref id g i q) H:=dN ho hx hH hg
end
section
variable{G0:aF}{fn:Func}{Q:AV->aF->Prop}{q:Exit}{r r1 r2:AV}{t1 t2:Tmp}
theorem Rt(hq:Q r [])(hf:fn.results=#[.tmp t1]:=by rfl)(ht:E.get t1=some r:=by rfl)(hc:Clo [] r:=by simp):NH P fn [] Q .ret E H:=cR (.inr Z) hf (aH ht) (Fin.wk hc T_ T_) hq
theorem Ru(hq:Q (.tup [r1,r2]) [])(hf:fn.results=#[.tmp t1,.tmp t2]:=by rfl)(ht:E.get t1=some r1:=by rfl)(hu:E.get t2=some r2:=by rfl)(hc:Clo [] (.tup [r1,r2]):=by simp):NH P fn [] Q .ret E H:=fP (.inr Z) hf (aH ht) (aH hu) (Fin.wk hc T_ T_) hq
theorem CN{T:TypeId}{i:Nat}(ha:∀w,(isAgg T).run P w=.ok true w)(hs:∀w,(sizeOf T).run P w=.ok n w)(hx:E.get t1=some (.ref id g i k):=by rfl)(hH:H.get id=some ob:=by rfl)(hg:ob.g=g:=by rfl)(hi:ob.rows[i]?=some cells:=by rfl)(hk:(cells.drop k).take n=cs:=by rfl)(hl:cs.length=n:=by rfl):OK P E H (.cell t1 T) (.agg cs):=fB hx ha hs hH hg hi hk hl
theorem Bd{c:Code}(hf:P.funcs[f]?=some fn)(hb:fn.body=some c)(hN:fn.ntmps=N)(h:gG P H N c (NH P fn H Q) (nX args) H)(hlen:args.length<=N:=by exact r_ Z):aU P f args H Q:=aU.body hf hb hN hlen h
end
section
variable{Q:Exit->cY->aF->Prop}{E':cY}
theorem Cn{x y:Code}(h1:b=true->gG P G0 N x Q E H)(h2:b=false->gG P G0 N y Q E H)(hc:aO E c=some (.pv (.bool b)):=by rfl):gG P G0 N (.cond c x y) Q E H:=Na hc h1 h2
theorem Sp(t:Tmp){l:List Oper}(h1:b=true->AL P G0 N ops K l ((t,.pv (.bool true))::E) H)(h2:b=false->AL P G0 N ops K l ((t,.pv (.bool false))::E) H)(hb:E.get t=some (.pv (.bool b)):=by rfl):AL P G0 N ops K l E H:=Nm hb h1 h2
theorem Wk(hE:Dk E H' E':=by repeat' first|exact trivial|refine⟨⟨_,Z,Z⟩,?_,?_⟩|(simp;done)|(simp;rfl))(hH:an H H' H':=by repeat' first|exact trivial|refine⟨⟨_,Z,Z⟩,?_,?_⟩|(simp;done)|(simp;rfl))(hk:Dj H' H G0:=by repeat' first|exact trivial|refine⟨Z,?_⟩):cL G0 E H E' H':=cL.wk hE hH hk
theorem E0(h:Oh E E':=by repeat' first|exact trivial|refine⟨⟨_,Z,Z⟩,?_⟩):cL G0 E H E' H:=cL.e0 h
theorem Fu{t:Tmp}(hk:AL P G0 N ops K rest (nD E dst (.tup [])) H)(hj:jM ops.toList j=some t:=by rfl)(hb:E.get t=some (.tup []):=by rfl)(hd:jB N dst=true:=by rfl):AL P G0 N ops K (⟨dst,op,ty,pos,af,some (j,want)⟩::rest) E H:=qS Z hj hb hd hk
end
section
variable{ops rest:List Oper}{K:List Rec->cY->aF->Prop}
theorem Nt(h:cN P N ⟨dst,op,ty,pos,af,some (j,true)⟩ (restr E (iX ops ⟨dst,op,ty,pos,af,some (j,true)⟩)) H v H)(hk:DC P N ops rest (nD E dst v) H (λrs E' H'=>K (⟨v,none,[]⟩::rs) E' H'))(hj:jM ops j=some t:=by rfl)(hb:E.get t=some (.pv (.bool b)):=by rfl)(hw:b=true:=by first|rfl|assumption)(hd:jB N dst=true:=by rfl):DC P N ops (⟨dst,op,ty,pos,af,some (j,true)⟩::rest) E H K:=iH (Za Z hj hb hw h) hd hk
theorem Nf(h:cN P N ⟨dst,op,ty,pos,af,some (j,false)⟩ (restr E (iX ops ⟨dst,op,ty,pos,af,some (j,false)⟩)) H v H)(hk:DC P N ops rest (nD E dst v) H (λrs E' H'=>K (⟨v,none,[]⟩::rs) E' H'))(hj:jM ops j=some t:=by rfl)(hb:E.get t=some (.pv (.bool b)):=by rfl)(hw:b=false:=by first|rfl|assumption)(hd:jB N dst=true:=by rfl):DC P N ops (⟨dst,op,ty,pos,af,some (j,false)⟩::rest) E H K:=iH (Zb Z hj hb hw h) hd hk
end
theorem Zl:(∀ {α:Type} (a:α) (l:List α) (i:Nat),(a::l).drop (i+1)=l.drop i)/\(∀ {α:Type} (l:List α),l.drop 0=l)/\(∀ {α:Type} (a:α) (l:List α) (i:Nat),(a::l).take (i+1)=a::l.take i)/\(∀ {α:Type} (l:List α),l.take 0=[])/\(∀ {α:Type} (i:Nat),([]:List α).take i=[]) /\
  (∀ {α β:Type} (f:α->β) (a:α) (l:List α),(a::l).map f=f a::l.map f)/\(∀ {α β:Type} (f:α->β),[].map f=[])/\(∀ {α:Type} (a b:α) (l:List α),(a::l).set 0 b=b::l)/\(∀ {α:Type} (a b:α) (l:List α) (i:Nat),(a::l).set (i+1) b=a::l.set i b) /\
  (∀ {α:Type} (a:α) (l l2:List α),(a::l)++l2=a::(l++l2))/\(∀ {α:Type} (l:List α),[]++l=l) :=
 ⟨λ_ _ _=>rfl,λ_=>rfl,λ_ _ _=>rfl,λl=>by simp,λ_=>by simp,λ_ _ _=>rfl,λ_=>rfl,λ_ _ _=>rfl,λ_ _ _ _=>rfl,λ_ _ _=>rfl,λ_=>rfl⟩
theorem Zo:(∀b:Bool,(false&&b)=false)/\(∀b:Bool,(true&&b)=b)/\(∀b:Bool,(b&&false)=false)/\(∀b:Bool,(b&&true)=b)/\(∀b:Bool,(true||b)=true)/\(∀b:Bool,(false||b)=b)/\(∀b:Bool,(b||true)=true)/\(∀b:Bool,(b||false)=b)/\(!true)=false/\(!false)=true:=H_
end
theorem Ea{t:Nat}(r:Dk E H' L)(h1:∃v0,E.get t=some v0/\v0=v:=by exact⟨_,Z,Z⟩)(h2:Clo H' v:=by simp;rfl):Dk E H' ((t,v)::L):=⟨h1,h2,r⟩
theorem Eb{t:Nat}(r:Dk E H' L)(h1:∃v0,E.get t=some v0/\v0=v:=by exact⟨_,Z,Z⟩)(h2:Clo H' v:=by simp):Dk E H' ((t,v)::L):=⟨h1,h2,r⟩
theorem Ec{t:Nat}(h2:Clo H' v)(r:Dk E H' L)(h1:∃v0,E.get t=some v0/\v0=v:=by exact⟨_,Z,Z⟩):Dk E H' ((t,v)::L):=⟨h1,h2,r⟩
theorem Ha{t:Nat}{L:aF}(r:an H H' L)(h1:∃v0,H.get t=some v0/\v0=o:=by exact⟨_,Z,Z⟩)(h2:∀r∈o.rows,∀a∈r,Clo H' a:=by simp;rfl):an H H' ((t,o)::L):=⟨h1,h2,r⟩
theorem Hb{t:Nat}{L:aF}(r:an H H' L)(h1:∃v0,H.get t=some v0/\v0=o:=by exact⟨_,Z,Z⟩)(h2:∀r∈o.rows,∀a∈r,Clo H' a:=by simp):an H H' ((t,o)::L):=⟨h1,h2,r⟩
theorem Hc{t:Nat}{L:aF}(h2:∀r∈o.rows,∀a∈r,Clo H' a)(r:an H H' L)(h1:∃v0,H.get t=some v0/\v0=o:=by exact⟨_,Z,Z⟩):an H H' ((t,o)::L):=⟨h1,h2,r⟩
section
variable{P:Program}{N:Nat}{o:Oper}{T t t' e:TypeId}{x y:Operand}{id g i k:Nat}{ob:Ob}{r r' cells:List AV}{rows':List (List AV)}{kk:IntKind}
theorem kc{F:FuncId}{f:Operand}{args:Array Operand}{at_:Array TypeId}{Q:AV->aF->Prop}(hc:∀(args:Array Value) (w:World),(callFunc F args).run P w=.ok (.enter F args) w)(h:aU P F vs H Q)(ho:o.op=.call {callee:=.value f,args:=args,argTypes:=at_}:=by rfl)(hf:aO E f=some (.pv (.fn F)):=by rfl)(hv:yT E args.toList=some vs:=by rfl):ju P N o E H Q:=bH ho hf hc hv h
theorem kl(id:Nat)(hZ:eN P T cells)(ho:o.op=.alloc T:=by rfl)(hn:cells.length=n+1:=by rfl)(hid:H.get id=none:=by rfl):cN P N o E H (.ref id 0 0 0) ((id,⟨0,n+1,T,[cells]⟩)::H):=CA ho hZ hn hid
theorem kb(id:Nat)(ho:o.op=.box T x:=by rfl)(hx:aO E x=some v:=by rfl)(hc:PU v=some cells:=by rfl)(hn:cells.length=n+1:=by rfl)(hid:H.get id=none:=by rfl):cN P N o E H (.ref id 0 0 0) ((id,⟨0,n+1,T,[cells]⟩)::H):=wL ho hx hc hn hid
theorem ka{n m:Int}{q:Int}(hr:kk.wrap (n+m)=q)(ho:o.op=.binOp .add t x y T:=by rfl)(hx:aO E x=some (.pv (.int kk n)):=by rfl)(hy:aO E y=some (.pv (.int kk m)):=by rfl):cN P N o E H (.pv (.int kk q)) H:=dB ho hx hy hr
theorem kp(ho:o.op=.binOp .add t x y T:=by rfl)(hx:aO E x=some (.pv (.int .i64 (n:Int))):=by rfl)(hy:aO E y=some (.pv (.int .i64 1)):=by rfl)(hn:n<9223372036854775807:=by omega):cN P N o E H (.pv (.int .i64 ((n+1:Nat):Int))) H:=dB ho hx hy (by rw[mE X X];omega)
theorem kq{u:B_}(ho:o.op=.binOp .add t x y t':=by rfl)(hx:aO E x=some (.pv (.str s)):=by rfl)(hy:aO E y=some (.pv (.str u)):=by rfl)(hs:s.size+u.size<=9223372036854775807:=by omega):cN P N o E H (.pv (.str (s++u))) H:=fC ho hx hy hs Z
theorem ku(hs:∀w,(sizeOf T).run P w=.ok 1 w)(ho:o.op=.store T x y:=by rfl)(hx:aO E x=some (.ref id g i k):=by rfl)(hy:aO E y=some v:=by rfl)(hc:PU v=some [v]:=by rfl)(hH:H.get id=some ob:=by rfl)(hg:ob.g=g:=by rfl)(hi:ob.rows[i]?=some r:=by rfl)(hk:k<r.length:=by exact r_ Z)(hr':r.set k v=r':=by rfl)(hrows:ob.rows.set i r'=rows':=by rfl):cN P N o E H .any ((id,⟨g,ob.sz,ob.ty,rows'⟩)::H):=cQ ho hs hx hy hc hH hg hi hk hr' hrows
theorem kx{n:Int}{w:List PV}(hS:fG P T e sz)(hi:rows[m]?=some w)(ho:o.op=.indexAddr T x y:=by rfl)(hx:aO E x=some (.pv (.sl rows)):=by rfl)(hy:aO E y=some (.pv (.int kk n)):=by rfl)(h0:0<=n:=by omega)(hm:n.toNat=m:=by exact l_ _)(hl:w.length=sz:=by rfl):cN P N o E H (.pad rows m 0) H:=bU ho hS hx hy h0 hm hi hl
theorem ky{n:Int}(hT:P.underlying T=some .string)(ho:o.op=.index T x y:=by rfl)(hx:aO E x=some (.pv (.str s)):=by rfl)(hy:aO E y=some (.pv (.int kk n)):=by rfl)(h0:0<=n:=by omega)(hm:n.toNat=m:=by exact l_ _)(hi:m<s.size:=by omega):cN P N o E H (.pv (.int .u8 (aY s m))) H:=cI ho hT hx hy h0 hm hi Z
end
section
variable{P:Program}{N:Nat}{ops rest:List Oper}{K:List Rec->cY->aF->Prop}{w:Nat×Ob}
theorem Lt(R:List Nat)(h:∀H1:aF,(∀id,tO (some R) id=true->H1.get id=H.get id)->cN P N ⟨dst,op,ty,pos,af,some (j,true)⟩ (restr E (iX ops ⟨dst,op,ty,pos,af,some (j,true)⟩)) H1 v H1)(hk:DC P N ops rest (nD E dst v) H (λrs E' H'=>K (⟨v,some R,[]⟩::rs) E' H'))(hj:jM ops j=some t:=by rfl)(hb:E.get t=some (.pv (.bool b)):=by rfl)(hw:b=true:=by first|rfl|assumption)(hd:jB N dst=true:=by rfl):DC P N ops (⟨dst,op,ty,pos,af,some (j,true)⟩::rest) E H K:=iH (r:=⟨v,some R,[]⟩) (Kj Z hj hb hw h) hd hk
theorem Lp(R:List Nat)(h:∀H1:aF,(∀id,tO (some R) id=true->H1.get id=H.get id)->cN P N ⟨dst,op,ty,pos,af,some (j,true)⟩ (restr E (iX ops ⟨dst,op,ty,pos,af,some (j,true)⟩)) H1 v (w::H1))(hk:DC P N ops rest (nD E dst v) (w::H) (λrs E' H'=>K (⟨v,some R,[w]⟩::rs) E' H'))(hj:jM ops j=some t:=by rfl)(hb:E.get t=some (.pv (.bool b)):=by rfl)(hw:b=true:=by first|rfl|assumption)(hd:jB N dst=true:=by rfl):DC P N ops (⟨dst,op,ty,pos,af,some (j,true)⟩::rest) E H K:=iH (r:=⟨v,some R,[w]⟩) (Kj Z hj hb hw h) hd hk
end
section
variable{P:Program}{N:Nat}{o:Oper}{H H1:aF}{T:TypeId}{x y:Operand}{id g i k n:Nat}{ob:Ob}{R:Option (List Nat)}{r r' cells:List AV}{rows':List (List AV)}
theorem su(hs:∀w,(sizeOf T).run P w=.ok 1 w)(h:∀id,tO R id=true->H1.get id=H.get id)(ho:o.op=.store T x y:=by rfl)(hx:aO E x=some (.ref id g i k):=by rfl)(hy:aO E y=some v:=by rfl)(hc:PU v=some [v]:=by rfl)(hm:tO R id=true:=by rfl)(hH:H.get id=some ob:=by rfl)(hg:ob.g=g:=by rfl)(hi:ob.rows[i]?=some r:=by rfl)(hk:k<r.length:=by exact r_ Z)(hr':r.set k v=r':=by rfl)(hrows:ob.rows.set i r'=rows':=by rfl):cN P N o E H1 .any ((id,⟨g,ob.sz,ob.ty,rows'⟩)::H1):=cQ ho hs hx hy hc ((h _ hm).trans hH) hg hi hk hr' hrows
theorem sx(hs:∀w,(sizeOf T).run P w=.ok n w)(h:∀id,tO R id=true->H1.get id=H.get id)(ho:o.op=.store T x y:=by rfl)(hx:aO E x=some (.ref id g i k):=by rfl)(hy:aO E y=some v:=by rfl)(hc:PU v=some cells:=by rfl)(hn:cells.length=n:=by rfl)(hm:tO R id=true:=by rfl)(hH:H.get id=some ob:=by rfl)(hg:ob.g=g:=by rfl)(hi:ob.rows[i]?=some r:=by rfl)(hk:k+n<=r.length:=by exact r_ Z)(hr':r.take k++(cells++r.drop (k+n))=r':=by rfl)(hrows:ob.rows.set i r'=rows':=by rfl):cN P N o E H1 .any ((id,⟨g,ob.sz,ob.ty,rows'⟩)::H1):=qO ho hs hx hy hc hn ((h _ hm).trans hH) hg hi hk hr' hrows
theorem sa(hs:∀w,(sizeOf T).run P w=.ok n w)(h:∀id,tO R id=true->H1.get id=H.get id)(ho:o.op=.store T x y:=by rfl)(hx:aO E x=some (.ref id g 0 0):=by rfl)(hy:aO E y=some v:=by rfl)(hc:PU v=some cells:=by rfl)(hn:cells.length=n:=by rfl)(hm:tO R id=true:=by rfl)(hH:H.get id=some ob:=by rfl)(hg:ob.g=g:=by rfl)(hi:ob.rows=[r]:=by rfl)(hk:r.length=n:=by rfl):cN P N o E H1 .any ((id,⟨g,ob.sz,ob.ty,[cells]⟩)::H1):=lR ho hs hx hy hc hn ((h _ hm).trans hH) hg hi hk
end
section
variable{P:Program}{G0:aF}{N:Nat}{H H2:aF}{Q:Exit->cY->aF->Prop}
theorem V(h:cN P N ⟨some d,op,ty,pos,af,none⟩ E H v H2)(hk:K ((d,v)::E) H2)(hn:Nat.blt d N=true:=by rfl):AL P G0 N ops K [⟨some d,op,ty,pos,af,none⟩] E H:=Y h (Zz hk) hn
theorem O(h:cN P N ⟨some d,op,ty,pos,af,none⟩ E H v H2)(hk:AL P G0 N ⟨⟨some d,op,ty,pos,af,none⟩::rest⟩ (λE H=>yX (gG P G0 N y Q) Q .normal E H) rest ((d,v)::E) H2)(hn:Nat.blt d N=true:=by rfl):gG P G0 N (.seq (.region id ⟨⟨some d,op,ty,pos,af,none⟩::rest⟩ false) y) Q E H:=Sr (Y h hk hn)
theorem Sz(h:cN P N ⟨some d,op,ty,pos,af,none⟩ E H v H2)(hk:yX (gG P G0 N y Q) Q .normal ((d,v)::E) H2)(hn:Nat.blt d N=true:=by rfl):gG P G0 N (.seq (.region id ⟨[⟨some d,op,ty,pos,af,none⟩]⟩ false) y) Q E H:=Sr (Y h (Zz hk) hn)
theorem Rd(h:cN P N ⟨some d,op,ty,pos,af,none⟩ E H v H2)(hk:AL P G0 N ⟨⟨some d,op,ty,pos,af,none⟩::rest⟩ (λE H=>Q .normal E H) rest ((d,v)::E) H2)(hn:Nat.blt d N=true:=by rfl):gG P G0 N (.region id ⟨⟨some d,op,ty,pos,af,none⟩::rest⟩ false) Q E H:=Rg (Y h hk hn)
end
end
def Lj:PV->Bool
 |.int _ _=>true
 |.bool _=>true
 |.str _=>true
 |_=>false
theorem PRep.flat{w w'}{I b}{v}{p}(h:PRep w I v p)(a:Lj p=true):PRep w' b v p:=by cases h<;>first|(constructor;done)|(simp[Lj]at a)
def RO(P:Program)(f:FuncId)(args:List AV)(H:aF)(p:PV):Prop :=∀(I:Nat->Prop) (ι:lQ) (w:World) (vs:Array Value),Rel I ι H w->vs.size=args.length->(∀(i:Nat) (v:Value) (a:AV),vs[i]?=some v->args[i]?=some a->VRel w I ι H v a) ->
  Calls P f vs w λe w'=>∃v,e=.returned v/\(∀w2 I2,PRep w2 I2 v p)/\w'.os=w.os/\w'.tape=w.tape/\w'.output=w.output/\w.heap.size<=w'.heap.size /\
   (∀a,a.block<w.heap.size->w'.frozen? a=w.frozen? a)/\∀b,b<w.heap.size->w'.heap[b]?=w.heap[b]?
theorem RO.of{P}{f}{args}{p}(h:aU P f args [] (λr H=>r=.pv p/\H=[]))(m:Lj p=true):RO P f args [] p:=by
 intro I o w vs l j i;refine(h I _ w _ l j i).mono ?_;rintro e w' ⟨r,H',I',ι',v,rfl,⟨rfl,rfl⟩,q,k2,c⟩;have d:∀b,¬ NG o [] b:=λb ⟨_,_,_,k,_⟩=>by cases k
 exact⟨v,Z,λw2 I2=>q.pv_inv.flat m,c.os,c.tape,c.output,c.size,λa n=>c.froz a n (d _),λb g=>c.keep b g (d b)⟩
theorem RO.lend{P}{f}{args args'}{p}{H H1}{id}{ob}(ps)(h:RO P f args' H1 p)(g:H.get id=some ob)(c:ob.rows=ps.map (·.map .pv))(hl:args.length=args'.length)
  (m:∀(i:Nat) (a a'),args[i]?=some a->args'[i]?=some a'->Fz H1 id ob.g ps a a') (j:Sub H1 H) (o:dG H1) (e:H1.get id=none):RO P f args H p:=by
 intro I ι w vs k hlen n;refine h _ _ w _ (k.freeze j o g e) X ?_;intro i v a' l b;have d:i<args.length:=by
  have:=(m9.1 b).1;omega
 exact VRel.freeze k j g c (m i _ _ (m_ d) b) (n i v _ l (m_ _))
theorem RO.calls{P}{f}{args}{p}{H}(h:RO P f args H p):aU P f args H (λr H'=>r=.pv p/\H'=H):=by
 intro I n w vs d z k;refine(h I _ w _ d z k).mono ?_;rintro e w' ⟨v,rfl,y,u,t,x,l,q,m⟩;have c:Step I _ H w I n H _ :=
  ⟨u,t,x,l,λa s _=>q a s,λ_ h=>h,λ_ h=>.inl h,λ_ h=>.inl h,λb j _=>m b j,λid o i=>⟨o,i,g_ _,λ_=>⟨Z,Z,λ_=>g_ _⟩⟩⟩
 refine⟨.pv p,H,I,n,v,Z,⟨Z,Z⟩,.pv (y _ _),?_,c⟩;refine⟨λb j=>Nat.lt_of_lt_of_le (d.imm b j) l,λid o i=>?_,d.inj,c.glob d⟩;exact(d.obj _ o i).keep Z (λb' _ _ g=>⟨m _ g,λh=>h⟩) (λr _ a _ v k=>k.mono d c)
theorem eU{P}{G0}{N}{Q}{E}{H}{h}(f_:α->β->cY×aF)(c_:α->β->Prop)(g:α->β->Nat)(e)(c)(i:c_ e c)(f:cL G0 E H (f_ e c).1 (f_ e c).2)
  (round:∀a b,c_ a b->gG P G0 N h (yX (λE' H'=>∃a' d,c_ a' d/\g a' d<g a b/\cL G0 E' H' (f_ a' d).1 (f_ a' d).2) Q) (f_ a b).1 (f_ a b).2):gG P G0 N (.loop h) Q E H:=by
 refine bF (λs=>f_ s.1 s.2) (λs=>c_ s.1 s.2) (λs=>g s.1 s.2) (e,c) i f ?_
 simp_all
theorem B5{P}{G0}{N}{Q}{E}{H}{j}(f_:α->β->γ->cY×aF)(c_:α->β->γ->Prop)(h:α->β->γ->Nat)(f)(d)(g)(k:c_ f d g)(i:cL G0 E H (f_ f d g).1 (f_ f d g).2)
  (round:∀a b c,c_ a b c->gG P G0 N j (yX (λE' H'=>∃a' e c',c_ a' e c'/\h a' e c'<h a b c/\cL G0 E' H' (f_ a' e c').1 (f_ a' e c').2) Q) (f_ a b c).1 (f_ a b c).2):gG P G0 N (.loop j) Q E H:=by
 refine bF (λs=>f_ s.1 s.2.1 s.2.2) (λs=>c_ s.1 s.2.1 s.2.2) (λs=>h s.1 s.2.1 s.2.2) (f,d,g) k i ?_
 simp_all
theorem XP{P}{G0}{N}{Q}{E}{H}{l}{δ:Type}(f_:α->β->γ->δ->cY×aF)(c_:α->β->γ->δ->Prop)(j:α->β->γ->δ->Nat)(h)(e)(i)(f)(m:c_ h e i f)(k:cL G0 E H (f_ h e i f).1 (f_ h e i f).2)
  (round:∀a b c d,c_ a b c d->gG P G0 N l (yX (λE' H'=>∃a' g c' d',c_ a' g c' d'/\j a' g c' d'<j a b c d/\cL G0 E' H' (f_ a' g c' d').1 (f_ a' g c' d').2) Q) (f_ a b c d).1 (f_ a b c d).2):gG P G0 N (.loop l) Q E H:=by
 refine bF (λs=>f_ s.1 s.2.1 s.2.2.1 s.2.2.2) (λs=>c_ s.1 s.2.1 s.2.2.1 s.2.2.2) (λs=>j s.1 s.2.1 s.2.2.1 s.2.2.2) (h,e,i,f) m k ?_
 simp_all
theorem ZY(f:α->List _)(l:List _)(H):∀r∈l.map (λe=>(f e).map AV.pv),∀a∈r,Clo H a:=H_
theorem kK{H}{id g}{ps}:∀(i:Nat) (a a'),[][i]?=some a->[][i]?=some a'->Fz H id g ps a a':=λi a a' h=>by simp
theorem bC{H}{id g}{ps}{x d}{l e}(h:Fz H id g ps x d)(f:∀(i:Nat) (a a'),l[i]?=some a->e[i]?=some a'->Fz H id g ps a a'):
  ∀(i:Nat) (a a'),(x::l)[i]?=some a->(d::e)[i]?=some a'->Fz H id g ps a a'
 |0,a,a',c,b=>by cases c;cases b;exact h
 |i+1,a,a',c,b=>f i a _ c b
inductive Nz(H':aF)(id:Nat):AV->AV->Prop
 |same {a:AV} (h:Clo H' a):Nz H' id a a
 |own:Nz H' id (.pv .nils) (.osl id 0 0 0)
 |weak:Nz H' id (.pv .nils) (.pv (.sl []))
 |agg {cs cs':List AV} (hl:cs.length=cs'.length) (h:∀(i:Nat) (a a':AV),cs[i]?=some a->cs'[i]?=some a'->Nz H' id a a'):Nz H' id (.agg cs) (.agg cs')
 |tup {cs cs':List AV} (hl:cs.length=cs'.length) (h:∀(i:Nat) (a a':AV),cs[i]?=some a->cs'[i]?=some a'->Nz H' id a a'):Nz H' id (.tup cs) (.tup cs')
def xc(H H':aF):Prop:=∀j o',H'.get j=some o'->∃o,H.get j=some o/\o.g=o'.g/\o.sz=o'.sz/\o.ty=o'.ty/\o.rows.length=o'.rows.length
theorem VRel.alike{w:World}{I:Nat->Prop}{ι:lQ}(r:xc H H'){v:Value}{a:AV}(h:VRel w I ι H v a):Clo H' a->VRel w I ι H' v a:=by
 induction h with
 |any v=>exact λ_=>.any v
 |pv h=>exact λ_=>.pv h
 |ref o k x j h =>
  intro d;rw[DI]at d;have ⟨g,c⟩:=Option.isSome_iff_exists.1 d;have ⟨t,f,s,q,u,y⟩:=r _ g c;rw[k]at f;cases f;exact .ref g c X j (λe=>by simp_all)
 |pad b d_ B G h A z F E d D=>exact λ_=>.pad b d_ B G h A z F E d D
 |osl o k x j h =>
  intro d;rw[Vn]at d;have ⟨g,c⟩:=Option.isSome_iff_exists.1 d;have ⟨t,f,s,q,u,y⟩:=r _ g c;rw[k]at f;cases f;exact .osl g c X j (λe=>by simp_all)
 |clo p h m =>
  intro d;rw[Vp]at d;exact .clo p (λi v a n l=>m i v a n l (d a (m8 l)))
 |bnd p h m =>
  intro d;rw[Vq]at d;exact .bnd p (λi v a n l=>m i v a n l (d a (m8 l)))
 |agg p j h m =>
  intro d;rw[ZZ]at d;exact .agg p j (λi v a n l=>m i v a n l (d a (m8 l)))
 |tup p h m =>
  intro d;rw[Vm]at d;exact .tup p (λi v a n l=>m i v a n l (d a (m8 l)))
 |mp o k x j h =>
  intro d;rw[aAy]at d;have ⟨g,c⟩:=Option.isSome_iff_exists.1 d;have ⟨t,f,s,q,u,y⟩:=r _ g c;rw[k]at f;cases f;exact .mp g c X j (λe=>by simp_all)
 |it o k x j h =>
  intro d;rw[aAz]at d;have ⟨g,c⟩:=Option.isSome_iff_exists.1 d;have ⟨t,f,s,q,u,y⟩:=r _ g c;rw[k]at f;cases f;exact .it g c X j (λe=>by simp_all)
 |yld o k x j h =>
  intro d;rw[Vl]at d;have ⟨g,c⟩:=Option.isSome_iff_exists.1 d;have ⟨t,f,s,q,u,y⟩:=r _ g c;rw[k]at f;cases f;exact .yld g c X j (λe=>by simp_all)
 |osc o k x j h =>
  intro d;rw[Vo]at d;have ⟨g,c⟩:=Option.isSome_iff_exists.1 d;have ⟨t,f,s,q,u,y⟩:=r _ g c;rw[k]at f;cases f;exact .osc g c X j (λe=>by rw[<-q];exact h X)
theorem Nz.raw{H'}{id}{a a'}(h:Nz H' id a a'){y}{b}(e:a'=.raw y b):a=.raw y b:=by cases h<;>first|exact e|cases e
theorem VRel.nz{w}{I}{ι}{H H'}{id}{ob:Ob}(t:xc H H')(l:ι id=none)(g:H'.get id=some ob)(hg:ob.g=0)(e:0<ob.sz){a a'}(s:Nz H' id a a'):∀ {v},VRel w I ι H v a->VRel w I ι H' v a':=by
 induction s with
 |same h=>exact λc=>c.alike t h
 |own =>
  intro v c;have:=c.pv_inv;cases this;exact .osl ob g X Z (λ_=>⟨e,X,.inr ⟨l,Z,Z,Z⟩⟩)
 |weak =>
  intro v c;have:=c.pv_inv;cases this;exact .pv .nilsl
 | @agg j n o h k =>
  intro v c;cases c with
  |agg d x q =>
   refine .agg (d.trans o) x (λi u a' m b=>?_);have f:=getElem?_eq_getElem (l:=j) (i:=i) (by have:=(m9.1 b).1;omega);exact k i _ a' f b (q i u _ m f)
 | @tup j n o h k =>
  intro v c;cases c with
  |tup d q =>
   refine .tup (d.trans o) (λi u a' m b=>?_);have f:=getElem?_eq_getElem (l:=j) (i:=i) (by have:=(m9.1 b).1;omega);exact k i _ a' f b (q i u _ m f)
def NzL(H:aF)(id:Nat):List AV->List AV->Prop
 | [],[]=>True
 |a::l,b::r=>Nz H id a b/\NzL H id l r
 |_,_=>False
theorem NzL.spec{H}{id}:∀ {l r},NzL H id l r->l.length=r.length/\∀(k:Nat) (a b),l[k]?=some a->r[k]?=some b->Nz H id a b
 | [],[],_=>⟨Z,λk a b h=>by grind⟩
 | a::l,b::r,h=>⟨by simp [(NzL.spec h.2).1],λk x y c d=>by
   cases k with
   |zero=>cases c;cases d;exact h.1
   |succ k=>exact(NzL.spec h.2).2 k x y c d⟩
 | [],_::_,h=>h.elim
 |_::_,[],h=>h.elim
def NzR(H:aF)(id:Nat)(rows rows':List (List AV)):Prop:=(rows=rows'/\∀r∈rows',∀a∈r,Clo H a)\/∃r r',rows=[r]/\rows'=[r']/\NzL H id r r'
theorem NzR.spec{H}{rows rows'}(h:NzR H id rows rows'):rows.length=rows'.length/\∀(i:Nat) (r'),rows'[i]?=some r'->∃r,rows[i]?=some r/\r.length=r'.length/\∀(k:Nat) (b:AV),r'[k]?=some b->∃a,r[k]?=some a/\Nz H id a b:=by
 rcases h with⟨rfl,f⟩|⟨r,r',rfl,rfl,e⟩
 ·exact⟨Z,λi r' c=>⟨r',c,Z,λk b d=>⟨b,d,.same (f r' (m8 c) b (m8 d))⟩⟩⟩
 refine⟨Z,λi r2 c=>?_⟩;cases i with
 |zero =>
  have ⟨e1,e2⟩:=e.spec
  grind
 |succ i=>grind
def NzE(E:cY)(H:aF)(id:Nat):cY->Prop
 | []=>True
 |(t,v)::r=>(∃v0,E.get t=some v0/\Nz H id v0 v)/\NzE E H id r
theorem NzE.spec{E}{H}{id}:∀ {E'},NzE E H id E'->∀p∈E',∃v0,E.get p.1=some v0/\Nz H id v0 p.2
 |(t,v)::r,h,p,a=>by
  rcases l9.1 a with e|e
  ·subst e;exact h.1
  exact NzE.spec h.2 p e
def NzH(H H2:aF)(id:Nat):aF->Prop
 | []=>True
 |(j,o')::r=>(∃o,H.get j=some o/\o.g=o'.g/\o.sz=o'.sz/\o.ty=o'.ty/\NzR H2 id o.rows o'.rows)/\NzH H H2 id r
theorem NzH.spec{H H2}{id}:∀ {H'},NzH H H2 id H'->∀p∈H',∃o,H.get p.1=some o/\o.g=p.2.g/\o.sz=p.2.sz/\o.ty=p.2.ty/\NzR H2 id o.rows p.2.rows
 |(j,o')::r,h,p,a=>by
  rcases l9.1 a with e|e
  ·subst e;exact h.1
  exact NzH.spec h.2 p e
theorem cL.nz{G0:aF}{E':cY}(id sz ty:Nat)(P:H.get id=none)(hsz:Nat.blt 0 sz=true)(hE:NzE E ((id,⟨0,sz,ty,[]⟩)::H') id E')(hH:NzH H ((id,⟨0,sz,ty,[]⟩)::H') id H')(hk:Dj ((id,⟨0,sz,ty,[]⟩)::H') H G0):
  cL G0 E H E' ((id,⟨0,sz,ty,[]⟩)::H'):=by
 intro G hG N a w A_;obtain ⟨I,ι,hr,d_,he⟩:=A_.rel;obtain ⟨B,R⟩:=hr.adopt (sz:=sz) (ty:=ty) P (by simp_all);have c_:0<sz:=by simp_all
 have ⟨f,K⟩:∃f:lQ,f=(λj=>if j=id then none else ι j):=X_;rw[<-K]at B R;have n:f id=none:=F_
 obtain ⟨x,s⟩:∃x:aF,x=(id,(⟨0,sz,ty,[]⟩:Ob))::H:=X_;obtain ⟨q,A⟩:∃q:aF,q=(id,(⟨0,sz,ty,[]⟩:Ob))::H':=X_;rw[<-s]at B R;rw[<-A]at hE hH hk |-;have g1:x.get id=some ⟨0,sz,ty,[]⟩:=by rw[s];simp[aF.get]
 have g2:q.get id=some ⟨0,sz,ty,[]⟩:=by rw[A];simp[aF.get]
 have n1:∀j,j≠id->x.get j=H.get j:=λj e=>by rw[s];simp[aF.get,jR (Ne.symm e)]
 have n2:∀j,j≠id->q.get j=H'.get j:=λj e=>by rw[A];simp[aF.get,jR (Ne.symm e)]
 have g:∀j l,q.get j=some l->∃o,x.get j=some o/\o.g=l.g/\o.sz=l.sz/\o.ty=l.ty/\NzR q id o.rows l.rows:=by
  intro j l p;by_cases e:j=id
  ·subst e;rw[g2]at p;cases p;exact⟨_,g1,Z,Z,Z,.inl ⟨Z,by simp⟩⟩
  rw[n2 j e]at p;have ⟨o,m,u⟩:=hH.spec _ (dY p)
  simp_all
 have L:xc x q:=λj l p=>by
  obtain ⟨o,m,u,e3,e4,e5⟩:=g j l p;exact⟨o,m,u,e3,e4,e5.spec.1⟩
 have Q:∀b,NG f q b->NG f x b:=by
  rintro b ⟨j,l,c,p,T⟩;obtain ⟨o,m,_⟩:=g j l p;exact⟨j,o,c,m,T⟩
 have D:Rel I f q w:=by
  refine⟨B.imm,λj l p=>?_,λj j' o l b c c' e_ y_=>?_,B.glob⟩
  ·have ⟨o,m,u,e3,e4,e5⟩:=g j l p;have ⟨s1,s2⟩:=e5.spec;refine(B.obj j o m).keepG e3.symm e4.symm s1.symm (cu s1 (λi r' hi=>by
    obtain ⟨r,t1,t2,u_⟩:=s2 i r' hi;refine⟨r,t1,t2,λk a z_ h1 h2 y ts e=>?_⟩;obtain ⟨z,F,u2⟩:=u_ k z_ h2;rw[h1]at F;cases F;exact u2.raw e)) Z (λ_ _ _ _=>⟨Z,λh=>h⟩) (λi r' hi=>?_)
   obtain ⟨r,t1,t2,u_⟩:=s2 i r' hi;refine⟨r,t1,t2,λk a z_ h1 h2 v f_=>?_⟩;obtain ⟨y,F,u2⟩:=u_ k z_ h2;rw[h1]at F;cases F;exact VRel.nz L n g2 Z c_ u2 f_
  obtain ⟨v_,m,_⟩:=g j o e_;obtain ⟨o2,u,_⟩:=g j' l y_;exact B.inj j j' v_ o2 b c c' m u
 have d:=d_.trans R;have o_:Step G.I G.ι G.H G.w I f q w:=by
  refine⟨d.os,d.tape,d.output,d.size,d.froz,d.imm,d.immNew,λb T=>d.own b (Q b T),d.keep,λj o e_=>?_⟩;obtain ⟨v_,m,u⟩:=d.objs j o e_;subst hG;have W:=hk.kept j (by rw[e_];rfl);by_cases e:j=id
  ·subst e;obtain ⟨o0,e0,_⟩:=d_.objs j o e_;rw[P]at e0;cases e0
  rw[n1 j e]at m;exact⟨v_,W.trans m,u⟩
 refine⟨A_.defers,A_.size,I,f,D,o_,λt v f_=>?_⟩;have ⟨v0,f1,f2⟩:=hE.spec _ (iL f_);have ⟨c,c1,c2⟩:=he t v0 f1;exact⟨c,c1,VRel.nz L n g2 Z c_ f2 (c2.mono hr R)⟩
class W_(H:aF)(R:List (List AV)):Prop where o:∀r∈R,∀a∈r,Clo H a
theorem L_{G0 H H':aF}{E E':cY}(hE:Dk E H' E':=by repeat' first|exact trivial|refine⟨⟨_,rfl,rfl⟩,?_,?_⟩|(simp;done)|(simp;rfl)|(simp;exact⟨rfl,rfl⟩))(hH:an H H' H':=by repeat' first|exact trivial|refine⟨⟨_,rfl,rfl⟩,?_,?_⟩|exact W_.o|(dsimp only;exact W_.o)|(simp;done)|(simp;rfl)|(simp;exact⟨rfl,rfl⟩)|(simp;exact⟨rfl,rfl,rfl⟩)|(simp;exact⟨rfl,rfl,rfl,rfl⟩)|(simp;exact⟨rfl,rfl,rfl,rfl,rfl⟩))(hk:Dj H' H G0:=by repeat' first|exact trivial|refine⟨rfl,?_⟩):cL G0 E H E' H':=cL.wk hE hH hk
theorem P_{G0 H H':aF}{r:AV}(c:Clo H' r:=by first|(simp;done)|(simp;rfl))(hH:an H H' H':=by repeat' first|exact trivial|refine⟨⟨_,rfl,rfl⟩,?_,?_⟩|exact W_.o|(dsimp only;exact W_.o)|(simp;done)|(simp;rfl)|(simp;exact⟨rfl,rfl⟩)|(simp;exact⟨rfl,rfl,rfl⟩)|(simp;exact⟨rfl,rfl,rfl,rfl⟩)|(simp;exact⟨rfl,rfl,rfl,rfl,rfl⟩))(hk:Dj H' H G0:=by repeat' first|exact trivial|refine⟨rfl,?_⟩):Fin G0 H r H' r:=Fin.wk c hH hk
theorem Q_{G0 H H':aF}{E E':cY}(id sz ty:Nat)(P:H.get id=none:=by rfl)(hsz:Nat.blt 0 sz=true:=by rfl)(hE:NzE E ((id,⟨0,sz,ty,[]⟩)::H') id E':=by repeat' first|exact trivial|refine⟨⟨_,rfl,(by first|exact Nz.own|exact Nz.same (by first|(simp;done)|(simp;rfl)|(simp;exact⟨rfl,rfl⟩)|(simp;exact⟨rfl,rfl,rfl⟩)))⟩,?_⟩)(hH:NzH H ((id,⟨0,sz,ty,[]⟩)::H') id H':=by repeat' first|exact trivial|refine⟨⟨_,rfl,rfl,rfl,rfl,(by first|exact .inl ⟨rfl,(by first|exact W_.o|(dsimp only;exact W_.o)|(simp;done)|(simp;rfl)|(simp;exact⟨rfl,rfl⟩)|(simp;exact⟨rfl,rfl,rfl⟩)|(simp;exact⟨rfl,rfl,rfl,rfl⟩)|(simp;exact⟨rfl,rfl,rfl,rfl,rfl⟩))⟩|exact .inr ⟨_,_,rfl,rfl,(by repeat' first|exact trivial|refine⟨(by first|exact Nz.own|exact Nz.same (by first|(simp;done)|(simp;rfl)|(simp;exact⟨rfl,rfl⟩)|(simp;exact⟨rfl,rfl,rfl⟩))),?_⟩)⟩)⟩,?_⟩)(hk:Dj ((id,⟨0,sz,ty,[]⟩)::H') H G0:=by repeat' first|exact trivial|refine⟨rfl,?_⟩):cL G0 E H E' ((id,⟨0,sz,ty,[]⟩)::H'):=cL.nz id sz ty P hsz hE hH hk
end Go.Abs
namespace Go.Abs
open Go.Proofs.YtopnleflllkbmaaGreatDoor
section
theorem Mf{H}(d:DataW H):1<=Rows.uptoBulk d:=by
 cases d with
 |lit l=>cases l<;>simp[Rows.uptoBulk]
 |_=>simp[Rows.uptoBulk]
theorem Mg{H}{d:DataW H}{l}(h:d∈l):Rows.uptoBulk d<=Rows.uptoBulkAll l:=by
 induction l with
 |nil=>cases h
 |cons x r ih =>
  simp[Rows.uptoBulkAll]
  grind
theorem Mh{H}(l:List (DataW H)):l.length<=Rows.uptoBulkAll l:=by
 induction l with
 |nil=>simp
 |cons x r ih=>have:=Mf x;simp[Rows.uptoBulkAll,j7];omega
inductive PL(w:World)(I:Nat->Prop):List Value->List PV->Prop
 |nil:PL w I [] []
 |cons {c:Value} {p:PV} {cs:List Value} {ps:List PV} (h:PRep w I c p) (r:PL w I cs ps):PL w I (c::cs) (p::ps)
theorem PL.length{w}{I}{cs}{ps}(h:PL w I cs ps):cs.length=ps.length:=by
 induction h with
 |nil=>rfl
 |cons h r ih=>grind
theorem PL.append{w}{I}{cs cs'}{ps a}(h:PL w I cs ps)(b:PL w I cs' a):PL w I (cs++cs') (ps++a):=by
 induction h with
 |nil=>exact b
 |cons h r c=>exact .cons h c
theorem PL.get{w}{I}{cs}{ps}(h:PL w I cs ps):∀(k:Nat) (c) (p),cs[k]?=some c->ps[k]?=some p->PRep w I c p:=by
 induction h with
 |nil=>simp_all
 |cons h r ih =>
  grind
def IP(P:Program):Nat->List Field->Nat->Bool
 |o,[],n=>Nat.beq o n
 |o,f::r,n=>Nat.beq f.offset o&&IP P (o+P.cellsOf f.type) r n
def N3(P:Program)(e:TypeId):Nat->Nat->List Field
 |_,0=>[]
 |o,k+1=>⟨ "",e,o,false, "", "",0⟩::N3 P e (o+P.cellsOf e) k
theorem NC{P}{e}:∀ {o k},(N3 P e o k).length=k
 |_,0=>rfl
 |o,k+1=>congrArg _ (NC)
theorem XT{P}{e}:∀ {k o i} {f},(N3 P e o k)[i]?=some f->f.type=e/\f.offset=o+i*P.cellsOf e
 |0,o,i,f,h=>by cases h
 |k+1,o,0,f,h=>by
  obtain rfl:=Option.some.inj h
  simp_all
 |k+1,o,i+1,f,h=>by
  have:=XT (show (N3 P e _ k)[i]?=some f from h)
  grind
def DS(P:Program):Nat->TypeId->Bool
 |0,_=>false
 |n+1,t=>match P.underlying t with
  |some .bool=>true
  |some (.int _)=>true
  |some .string=>true
  |some (.slice e)=>DS P n e&&Nat.blt 0 (P.cellsOf e)
  |some (.struct fs)=>IP P 0 fs.toList (P.cellsOf t)&&fs.toList.all λf=>DS P n f.type
  |some (.array k e)=>IP P 0 (N3 P e 0 k) (P.cellsOf t)&&(N3 P e 0 k).all λf=>DS P n f.type
  |_=>false
def ShF(f_:TypeId->List PV->Prop)(c:TypeId->Nat):List Field->List PV->Prop
 | [],ps=>ps=[]
 |f::r,ps=>∃a b,ps=a++b/\a.length=c f.type/\f_ f.type a/\ShF f_ c r b
def Sh(P:Program)(B:Nat):Nat->TypeId->List PV->Prop
 |0,_,_=>False
 |n+1,t,ps=>match P.underlying t with
  |some .bool=>∃b,ps=[.bool b]
  |some (.int k)=>∃i,ps=[.int k i]/\(Lit.int k i).wf=true
  |some .string=>∃s,ps=[.str s]/\s.size<=B
  |some (.slice e)=>∃rows,ps=[.sl rows]/\rows.length<=B/\∀r∈rows,r.length=P.cellsOf e/\Sh P B n e r
  |some (.struct fs)=>ShF (λt ps=>Sh P B n t ps) P.cellsOf fs.toList ps
  |some (.array k e)=>ShF (λt ps=>Sh P B n t ps) P.cellsOf (N3 P e 0 k) ps
  |_=>False
abbrev wy(W:World):Nat->Prop:=λb=>b<W.heap.size
theorem Jj{W}{a}{v}(h:W.cell? a=some v):a.spot=none/\wy W a.block:=by
 unfold World.cell? at h
 split at h
 ·next c t fr e =>
  refine⟨?_,(Array.getElem?_eq_some_iff.1 e).1⟩
  simp_all
 grind
section
variable{H:Type}{enc:TypeId×Value->H}{P:Program}{W:World}{B:Nat}
theorem XI{P}:∀ {fs} {o n},IP P o fs n=true->o<=n
 | [],o,n,h=>Nat.le_of_eq (Nat.eq_of_beq_eq_true h)
 |f::fs,o,n,h=>by
  simp[IP,k_]at h;have:=XI h.2;omega
theorem M1{m n:Nat}{cs:List Value}(p:∀(t:TypeId) (cs:List Value) (x),DS P n t=true->DataW.trod enc P W 0 (λ_=>true) true m t cs=some x->Rows.uptoBulk x.1<=B->∃ps,PL W (wy W) cs ps/\Sh P B n t ps):
  ∀(fs:List Field) (xs:List _) (o:Nat),IP P o fs cs.length=true->(fs.all λf=>DS P n f.type)=true->xs.length=fs.length ->
   (∀(i:Nat) (f:Field),fs[i]?=some f->DataW.trod enc P W 0 (λ_=>true) true m f.type ((cs.drop f.offset).take (P.cellsOf f.type))=xs[i]?)->Rows.uptoBulkAll (xs.map (·.1))<=B ->
   ∃ps,PL W (wy W) (cs.drop o) ps/\ShF (λt ps=>Sh P B n t ps) P.cellsOf fs ps
 | [],xs,o,c,_,l,d,j=>by
  have:o=cs.length:=eq_of_beq_eq_true c;subst this;exact⟨[],by rw[drop_length];exact .nil,Z⟩
 |f::fs,[],o,c,_,l,d,j=>by grind
 | f::fs,x::xs,o,c,e,l,d,j=>by
  simp only[IP,k_]at c;have r:f.offset=o:=eq_of_beq_eq_true c.1;simp only[all_cons,k_]at e;simp only[map_cons,Rows.uptoBulkAll]at j;have k:=d 0 f Z;rw[r]at k;have ⟨a,q,s⟩:=p f.type _ x e.1 k X;have ⟨b,w,u⟩:=M1 p fs xs (o+P.cellsOf f.type) c.2 e.2 F_ (λi g v=>d (i+1) g v) X;have hle:=XI c.2;have h:a.length=P.cellsOf f.type:=by
   rw[<-q.length,q9,q6];omega
  refine⟨a++b,?_,a,b,Z,h,s,u⟩;have:=q.append w
  rwa [<-drop_drop,take_append_drop]at this
theorem OP:∀(n:Nat) (t:TypeId),DS P n t=true->∀(m:Nat) (cs:List Value) (x:DataW H×List MemPlace),DataW.trod enc P W 0 (λ_=>true) true m t cs=some x->Rows.uptoBulk x.1<=B->∃ps,PL W (wy W) cs ps/\Sh P B n t ps
 |0,t,y,m,cs,x,h,R=>by cases y
 | n + 1, t, y, m, cs, x, h, R => by
  unfold DS at y
  split at y
  ·next j =>
   obtain ⟨b,rfl,rfl⟩:=DataW.trod_bool j h;exact⟨[.bool b],.cons (.bool b) .nil,by unfold Sh;rw[j];exact⟨b,Z⟩⟩
  ·next k j =>
   obtain ⟨i,rfl,rfl,hw⟩:=DataW.trod_int j h;exact⟨[.int k i],.cons (.int k i) .nil,by unfold Sh;rw[j];exact⟨i,Z,hw⟩⟩
  ·next j =>
   obtain ⟨s,rfl,rfl,hs⟩:=DataW.trod_string j h;have d_:s.size<=B:=by
    have z_:s.data.toList.length=s.size:=Array.length_toList;simp only[Rows.uptoBulk]at R;omega
   exact⟨[.str s],.cons (.str s) .nil,by unfold Sh;rw[j];exact⟨s,Z,d_⟩⟩
  ·next e j =>
   simp only[k_,blt_eq]at y;obtain ⟨hpe,d_⟩:=y;rcases DataW.trod_slice j h with⟨rfl,rfl⟩|⟨a,u,f_,g,v_,K,rfl,rfl,rfl,_,hlc,hmax,hlen,T,N,_⟩
   ·exact⟨[.sl []],.cons .nilsl .nil,by unfold Sh;rw[j];exact⟨[],Z,by simp,by simp⟩⟩
   obtain ⟨hrl,N⟩:=N Z;simp only[Rows.uptoBulk]at R;rcases Nat.eq_zero_or_pos f_ with hc0|hcpos
   ·have I:u=0:=by omega
    subst I hc0;exact⟨[.sl []],.cons (.empsl a) .nil,by unfold Sh;rw[j];exact⟨[],Z,by simp,by simp⟩⟩
   have e_:∃v,W.cell? a=some v:=by
    rcases Nat.eq_zero_or_pos u with I|hlp
    ·subst I;have G:=N 0 (by omega);have E:=List.getElem?_eq_getElem (l:=v_) (i:=0) (by omega);rw[E,Option.bind_eq_some_iff]at G;obtain ⟨c0,u_,_⟩:=G;obtain ⟨_,q2,q3⟩:=World.cells?_some u_;have:=q3 0 d_;simp only[Nat.add_zero,Nat.zero_mul]at this;rw[Addr.add_zero',Addr.add_zero',m_ (by omega)]at this;exact⟨_,this⟩
    have G:=T 0 hlp;have E:=List.getElem?_eq_getElem (l:=g) (i:=0) (by omega);rw[E,Option.bind_eq_some_iff]at G;obtain ⟨c0,u_,_⟩:=G;obtain ⟨_,q2,q3⟩:=World.cells?_some u_;have:=q3 0 d_;simp only[Nat.zero_mul]at this;rw[Addr.add_zero',Addr.add_zero',m_ (by omega)]at this;exact⟨_,this⟩
   obtain ⟨v0,hv0⟩:=e_;obtain ⟨A,F⟩:=Jj hv0;obtain ⟨b,z,sp⟩:=a;simp only at A F;subst A;have Q:∀i,i<u->∃ps:List PV,∃w,W.cells? 0 (Addr.add ⟨b,z,none⟩ (i*P.cellsOf e)) (P.cellsOf e)=some w/\PL W (wy W) w ps/\Sh P B n e ps:=by
    intro i D;have G:=T i D;have E:=List.getElem?_eq_getElem (l:=g) (i:=i) (by omega);rw[E,Option.bind_eq_some_iff]at G;obtain ⟨w,u_,q2⟩:=G;have hbi:Rows.uptoBulk (g[i]'(by omega)).1<=B:=by
     have:=Mg (mem_map_of_mem (f:=λx:DataW H×List MemPlace=>x.1) (getElem_mem (l:=g) (n:=i) X));omega
    obtain ⟨ps,s1,s2⟩:=OP n e hpe K w _ q2 hbi;exact⟨ps,w,u_,s1,s2⟩
   obtain ⟨d,r1,r2⟩:∃d:List (List PV),d.length=u/\∀i r,d[i]?=some r->∃w,W.cells? 0 (Addr.add ⟨b,z,none⟩ (i*P.cellsOf e)) (P.cellsOf e)=some w/\PL W (wy W) w r/\Sh P B n e r:=by
    refine⟨(List.range u).map (λi=>if h:i<u then(Q i h).choose else[]),by simp,λi r q=>?_⟩
    grind
   have L:∀(i:Nat) (r:List PV),d[i]?=some r->r.length=P.cellsOf e:=λi r q=>by
    obtain ⟨w,y_,A_,c3⟩:=r2 i r q;rw[<-A_.length];exact(World.cells?_some y_).2.1
   refine⟨[.sl d],.cons ?_ .nil,by
    unfold Sh;rw[j];refine⟨d,Z,?_,λr q=>?_⟩
    ·have:=Mh (g.map (·.1));simp only[j6]at this;omega
    obtain ⟨i,D⟩:=s8.1 q;obtain ⟨w,y_,A_,c3⟩:=r2 i r D;exact⟨L i r D,c3⟩⟩
   rw[<-r1];have o:∀(i:Nat) (r:List PV),d[i]?=some r->∀(k:Nat) (p:PV),r[k]?=some p->∃v,W.cell? ⟨b,z+i*P.cellsOf e+k,none⟩=some v/\PRep W (wy W) v p:=by
    intro i r q k p o_;obtain ⟨w,y_,A_,c3⟩:=r2 i r q;obtain ⟨_,d1,d2⟩:=World.cells?_some y_;have hkl:k<P.cellsOf e:=by rw[<-L i r q];exact(m9.1 o_).1
    have z_:=d2 k hkl;rw[Addr.add_lit,Addr.add_lit]at z_;have e2:w[k]?=some (w[k]'(by omega)):=m_ (by omega);exact⟨_,z_.trans e2,A_.get k _ p e2 o_⟩
   refine PRep.sl b z f_ (P.cellsOf e) d (λi k=>(W.cell? ⟨b,z+i*P.cellsOf e+k,none⟩).getD undef) F d_ (λr q=>?_) (by omega) (λi r q k p o_=>?_) (λi r q k p o_=>?_)
   ·obtain ⟨i,D⟩:=s8.1 q;exact L i r D
   ·obtain ⟨v,v1,v2⟩:=o i r q k p o_;simp[v1]
   obtain ⟨v,v1,v2⟩:=o i r q k p o_;simp[v1,v2]
  ·next fs j =>
   simp only[k_]at y;obtain ⟨xs,K,rfl,rfl,hl,c_,hf⟩:=DataW.trod_struct j h;simp only[Rows.uptoBulk]at R;obtain ⟨ps,p1,p2⟩:=M1 (n:=n) (m:=K) (B:=B) (λt cs x a b c=>OP n t a K cs x b c) fs.toList xs 0 (by rw[hl];exact y.1) y.2 (by simpa using c_) (λi f D=>hf i f (by simpa using D)) X;exact⟨ps,by simpa using p1,by unfold Sh;rw[j];exact p2⟩
  ·next k e j =>
   simp only[k_]at y;obtain ⟨xs,K,rfl,rfl,hl,c_,hf⟩:=DataW.trod_array j h;simp only[Rows.uptoBulk]at R;obtain ⟨ps,p1,p2⟩:=M1 (n:=n) (m:=K) (B:=B) (λt cs x a b c=>OP n t a K cs x b c) (N3 P e 0 k) xs 0 (by rw[hl];exact y.1) y.2 (by rw[NC,c_]) (λi f D=>by
    obtain ⟨g1,g2⟩:=XT D;have hlt:i<k:=by
     have:=(m9.1 D).1
     rwa [NC]at this
    rw[g1,g2,r9];exact hf i hlt) X
   exact⟨ps,by simpa using p1,by unfold Sh;rw[j];exact p2⟩
  grind
end
end
end Go.Abs
namespace Go.Abs
open Go.Proofs.YtopnleflllkbmaaGreatDoor Go.ChangeShapes Go.WideShapes Go.ChangeAt Go.RowKit
variable{n base:Nat}{v:Value}{f:Func}{s:ChangeSpec}{c:Bool}{args:Array Value}
section
def wq(P:Program)(t:TypeId)(ps:List PV):AV :=match P.underlying t with
 |some (.struct _)=>.agg (ps.map .pv)
 |some (.array _ _)=>.agg (ps.map .pv)
 |_=>match ps with
  | [p]=>.pv p
  |_=>.any
section
variable{H:Type}{enc:TypeId×Value->H}{P:Program}{W:World}{B:Nat}
theorem PL.toV{I}{ι}{Hp}{cs}{ps}(h:PL W I cs ps)(i:Nat)(v)(a)(d:cs[i]?=some v)(b:(ps.map AV.pv)[i]?=some a):VRel W I ι Hp v a/\v.oneCell'=true:=by rw[r7]at b;obtain ⟨p,c,rfl⟩:=Option.map_eq_some_iff.1 b;have:=h.get i v p d c;exact⟨.pv this,this.oneCell⟩
theorem aCe{n}{t}{v}{base}(d:DS P n t=true)(b:Value.okWide P W .any base t v)(hno:∀fs,P.underlying t=some (.struct fs)->False)(hno2:∀k e,P.underlying t=some (.array k e)->False):v.cells.toList=[v]:=by
 cases n with
 |zero=>cases d
 |succ n =>
  unfold DS at d;unfold Value.okWide at b
  split at d
  ·next c=>cases v<;>first|rfl|(simp[Cell.okWide,Cell.ok,c]at b)
  ·next k c=>cases v<;>first|rfl|(simp[Cell.okWide,Cell.ok,c]at b)
  ·next c=>cases v<;>first|rfl|(simp[Cell.okWide,Cell.ok,c]at b)
  ·next e c=>cases v<;>first|rfl|(simp[Cell.okWide,Cell.ok,c]at b)
  all_goals simp_all
theorem Vw{t:TypeId}{d:DataW H}{p:List MemPlace}(ι:lQ)(Hp:aF)(x:DS P n t=true)(b:Value.okWide P W .any base t v)(h:DataW.Trod enc P W 0 (λ_=>true) true t v d p)(z:Rows.uptoBulk d<=B):
  ∃ps,Sh P B n t ps/\VRel W (wy W) ι Hp v (wq P t ps):=by
 have ⟨m,A⟩:=h;have ⟨ps,f,d_⟩:=OP (B:=B) n t x m _ _ A z;refine⟨ps,d_,?_⟩;unfold wq
 split
 ·next w s =>
  unfold Value.okWide at b;rw[s]at b;obtain ⟨y,rfl,_,_⟩:=b;have u:=f.length;simp only[Value.cells,Array.length_toList]at u;refine .agg (by simp_all) (λi v c=>?_) (λi v a c r=>?_)
  ·have l:=(Array.getElem?_eq_some_iff.1 c).1;exact(PL.toV (ι:=ι) (Hp:=Hp) f i v (.pv (ps[i]'(by omega))) (by simpa[Value.cells]using c) (by simp_all)).2
  exact(PL.toV f i v a (by simpa[Value.cells]using c) r).1
 ·next k e s =>
  unfold Value.okWide at b;rw[s]at b;obtain ⟨y,rfl,_,_⟩:=b;have u:=f.length;simp only[Value.cells,Array.length_toList]at u;refine .agg (by simp_all) (λi v c=>?_) (λi v a c r=>?_)
  ·have l:=(Array.getElem?_eq_some_iff.1 c).1;exact(PL.toV (ι:=ι) (Hp:=Hp) f i v (.pv (ps[i]'(by omega))) (by simpa[Value.cells]using c) (by simp_all)).2
  exact(PL.toV f i v a (by simpa[Value.cells]using c) r).1
 next o g =>
 split
 ·next q =>
  have j:=aCe x b (λw h=>o w h) (λk e h=>g k e h);rw[j]at f;exact(PL.toV f 0 _ _ Z Z).1
 exact .any v
def N2(P:Program):List TypeId->List (List PV)->List AV
 |t::ts,p::ps=>wq P t p::N2 P ts ps
 |_,_=>[]
def XW(P:Program)(B n:Nat):List TypeId->List (List PV)->Prop
 | [],[]=>True
 |t::ts,p::ps=>Sh P B n t p/\XW P B n ts ps
 |_,_=>False
theorem yj{n}{a}(h:XW P B n [] a):a=[]:=by
 cases a with
 |nil=>rfl
 |cons p ps=>exact h.elim
theorem QP{n}{t}{b}{a}(h:XW P B n (t::b) a):∃p ps,a=p::ps/\Sh P B n t p/\XW P B n b ps:=by
 cases a with
 |nil=>exact h.elim
 |cons p ps=>exact⟨p,ps,Z,h.1,h.2⟩
theorem iw{n}{base}(ι)(Hp):∀ {c} {e} {l} {p},DataW.TrodAll enc P W 0 (λ_=>true) true c e l p->c.all (DS P n)=true ->
  (∀(j:Nat) t v,c[j]?=some t->e[j]?=some v->Value.okWide P W .any base t v)->Rows.uptoBulkAll l<=B ->
  ∃b,XW P B n c b/\e.length=(N2 P c b).length/\∀(i:Nat) (v) (a),e[i]?=some v->(N2 P c b)[i]?=some a->VRel W (wy W) ι Hp v a
 | [],e,l,p,h,k,m,o=>by
  obtain ⟨rfl,rfl,rfl⟩:=trodAll_nil h;exact⟨[],T_,Z,λi v a h=>by grind⟩
 |t::c,e,l,p,h,k,m,o=>by
  obtain ⟨v,vs',d,ds',p1,p2,rfl,rfl,rfl,g,f⟩:=trodAll_cons h;simp only[all_cons,k_]at k;simp[Rows.uptoBulkAll]at o;obtain ⟨r,x,u⟩:=Vw (B:=B) _ _ k.1 (m 0 t v Z Z) g X;obtain ⟨b,q,w,s⟩:=iw _ _ f k.2 (λj t v g f=>m (j+1) t v g f) X;refine⟨r::b,⟨x,q⟩,by simp[N2,w],λi v a g f=>?_⟩;cases i with
  |zero=>cases g;cases f;exact u
  |succ i=>exact s i v a g f
theorem Rj(ι)(W)(a:T3 (wy W) W):Rel (wy W) ι [] W:=⟨λ_ h=>h,λ_ _ h=>(by cases h),λ_ _ _ _ _ _ _ h=>(by cases h),a⟩
theorem qh{I d}{ι a}{H'}{w w'}(h:Step I ι [] w d a H' w'):Below w.heap.size w w' :=⟨h.os,h.tape,h.output,h.size,λk b=>h.keep k b (λ⟨_,_,_,c,_⟩=>by cases c)⟩
theorem TP(m:laidOutB P=true){k:World}(l:Below W.heap.size W k){j}:∀ {f} {g} {e} {p},DataW.TrodAll enc P W 0 (λ_=>true) true f g e p ->
  (f.all λt=>P.readableRec t&&Nat.blt t P.types.size)=true->(∀x∈p,x.block<W.heap.size)->(∀x∈p,j x.block=true)->DataW.TrodAll enc P k 0 j true f g e p
 | [],g,e,p,h,c,a,b=>by
  obtain ⟨rfl,rfl,rfl⟩:=trodAll_nil h;exact trodAll_mk0
 | t::f,g,e,p,h,c,a,b=>by
  obtain ⟨v,vs',d,ds',p1,p2,rfl,rfl,rfl,o,n⟩:=trodAll_cons h;simp only[all_cons,k_,blt_eq]at c;exact trodAll_cons_mk (WideElems.Trod_stays m c.1.1 c.1.2 o (λx i=>l.same (a x G_)) (λx i=>b x G_))
   (TP m l n c.2 (λx i=>a x G_) (λx i=>b x G_))
theorem mi{g m l:Bool}{W n:World}{q x:List (DataW H)}{a pa pv:List MemPlace}
  (y:DataW.Whole enc P f.params.toList s.vars g W args.toList q x a)
  (h:∀(b:Nat) (k:Nat->Bool) (hd:Bool),DataW.TrodAll enc P n b k hd f.resultTypes.toList (v.resultList f.resultTypes.size) (s.fn H (q++x)).results [])
  (e:∀k:Nat->Bool,(∀p∈a,k p.block=true)->DataW.TrodAll enc P n 0 k true f.params.toList args.toList (s.fn H (q++x)).args pa)
  (d:∀k:Nat->Bool,(∀p∈a,k p.block=true)->DataW.TrodVars enc P n k s.vars (s.fn H (q++x)).vars pv)
  (d_:a=pa++pv) (D:Below W.heap.size W n)
  (z:∀(j:Nat) (t:TypeId) (r:Value),f.resultTypes[j]?=some t->(v.resultList f.resultTypes.size)[j]?=some r->Value.okWide P n .any 0 t r) :
  s.post enc P f g m c l W args v n:=by
 have A:∀p∈a,p.block<W.heap.size:=λp o=>y.lt p o;have i:∀p∈a,(λb=>decide (b<W.heap.size)) p.block=true:=λp o=>by simp_all
 refine⟨q,x,a,[],pa,pv,y,h _ _ _,e _ i,d _ i,World.keptBut_mono (λp o=>⟨o,?_⟩) (D.frame (·∈a)),λ_=>?_⟩
 ·simp_all
 have ⟨_,_,_,_,_,E,hn⟩:=y;refine⟨z,_,_,([]++pa)++pv,⟨[]++pa,pv,trodAll_append (e _ (λ_ _=>rfl)) (h _ _ _),d _ (λ_ _=>rfl),Z,?_,?_⟩,?_⟩
 ·intro b w o;have u:MemPlace.cell b w∈a:=by rw[d_];simpa using o
  rw[D.frozen (A _ u)];exact E b w u
 all_goals simp_all
theorem Kh{c_:FuncId}{k d_ A:Bool}{h gs:List (DataW H)}{m:List MemPlace}{bt:TypeId}
  (hl:laidOutB P=true) (w:(f.params.toList.all λt=>P.readableRec t&&Nat.blt t P.types.size)=true) (l:f.params.toList.all (DS P n)=true) (g:s.vars=[])
  (F:∀h:List (DataW H),h.length=f.params.toList.length->(s.fn H h).results=[.lit (.bool true)]/\(s.fn H h).args=h/\(s.fn H h).vars=[])
  (z:f.resultTypes=#[bt]) (G:P.underlying bt=some .bool)
  (u:∀(j:Nat) t v,f.params[j]?=some t->args[j]?=some v->Value.okWide P W .any base t v)
  (T:DataW.Whole enc P f.params.toList s.vars k W args.toList h gs m) (f_:Rows.uptoBulkAll h<=B)
  (v_:∀o,XW P B n f.params.toList o->aU P c_ (N2 P f.params.toList o) [] (λr H'=>r=.pv (.bool true)/\H'=[])) (hg:T3 (wy W) W:=by exact λp hp=>by cases hp) :
  Calls P c_ args W λe y_=>∃v,e=.returned v/\s.post enc P f k d_ c A W args v y_:=by
 have D:=T;obtain ⟨p,q,E,L,rfl,N,e_⟩:=T;rw[g]at L;obtain ⟨rfl,rfl⟩:=trodVars_none L;have ⟨o,z_,h2,A_⟩:=iw (B:=B) (base:=base) (λ_=>none) [] E l (λj t v ht R=>u j t v F_ F_) f_;have hlen:h.length=f.params.toList.length:=by
  clear z_ h2 A_ v_ F w l u D f_ N e_;revert E;generalize f.params.toList=u_;generalize args.toList=vs;intro E;clear L
  induction u_ generalizing vs h p with
  |nil=>obtain ⟨_,rfl,_⟩:=trodAll_nil E;rfl
  |cons t u_ ih =>
   obtain ⟨v,vs',d,ds',p1,p2,_,rfl,_,_,h2⟩:=trodAll_cons E
   grind
 refine(v_ o z_ (wy W) (λ_=>none) W args (Rj _ W hg) X (λi v a ha hb=>A_ i v a F_ hb)).mono ?_;rintro e y_ ⟨r,H',I',ι',v,rfl,⟨rfl,rfl⟩,R,hr,K⟩;have o_:v=.bool true:=R.bool_inv;subst o_;have y:=qh K;have ⟨f1,f2,f3⟩:=F (h++[]) F_;refine⟨_,Z,mi (pa:=p) (pv:=[]) D (λb Q hd=>?_) (λQ I=>?_) (λQ I=>?_) Z y (ok_one z Z (okWide_bool_mk G _))⟩
 ·rw[f1,z];exact trodAll_cons_mk (shut_bool G _) trodAll_mk0
 ·rw[f2,append_nil];exact TP hl y E w (λx hx=>D.lt x G_) (λx hx=>I x G_)
 rw[f3,g];rfl
theorem Gf{n}{t}{ps}(ht:P.underlying t=some .string)(h:Sh P B (n+1) t ps):∃s,ps=[.str s]/\s.size<=B:=by unfold Sh at h;simp_all
theorem Qr{t e}{ps}{α:Type}{f}{good:α->Prop}(j:P.underlying t=some (.slice e))(h:Sh P B (n+1) t ps)(hd:∀r,Sh P B n e r->∃a,r=f a/\good a):
  ∃l:List α,ps=[.sl (l.map f)]/\l.length<=B/\∀a,a∈l->good a:=by
 unfold Sh at h;rw[j]at h;obtain ⟨c,rfl,d,g⟩:=h;have ⟨l,k,m⟩:∃l:List α,c=l.map f/\∀a,a∈l->good a:=by
  clear d
  induction c with
  |nil=>simp_all
  |cons r rs i =>
   have ⟨l,k,m⟩:=i (λr h=>g r (by simp[h]));have ⟨a,a1,a2⟩:=hd r (g r H_).2;refine⟨a::l,F_,λb hb=>?_⟩
   grind
 grind
end
end
end Go.Abs
namespace Go.Proofs.YtopnleflllkbmaaGreatDoor
open Go.Proofs.Tryz
open Go.Abs
variable{α:Type}{l:List _}{k:Nat}
theorem Xq:eN Tryz.prog 3 [.pv (.int .i64 0)]:=⟨_,_,sH,.inl Z,Z⟩
theorem zo4:eN Tryz.prog 4 [.pv (.bool false)]:=⟨_,_,iU,.inl Z,Z⟩
theorem zo5:eN Tryz.prog 5 [.pv (.int .u8 0)]:=⟨_,_,sF,.inl Z,Z⟩
theorem Pf:eN Tryz.prog 9 [.pv (.str ⟨#[]⟩)]:=⟨_,_,gQ,.inl Z,Z⟩
theorem aB5:eN Tryz.prog 22 [.pv (.sl [])]:=⟨_,_,vL,.inl Z,Z⟩
theorem Wd:eN Tryz.prog 22 [.pv .nils]:=⟨_,_,vL,.inr Z,Z⟩
theorem bD:fG Tryz.prog 22 9 1:=⟨aE,V_,E_,_,gQ⟩
theorem x7{p:Prop}(h:p:=by kernel_rfl):p:=h
theorem yJ:EI Tryz.prog 9 1 16:=EI.mk (z:=(Value.string ⟨#[]⟩)) x7 Z E_ E_
theorem Xr:eN Tryz.prog 25 [.pv (.int .i64 0)]:=⟨_,_,zeroValue25,.inl Z,Z⟩
theorem aBo:fG Tryz.prog 41 92 4:=⟨underlying41,sizeOf92,E_,_,zeroValue92⟩
theorem aET:EI Tryz.prog 92 4 64:=EI.mk (z:=(Value.agg #[(Value.string ⟨#[]⟩),(Value.int IntKind.i64 (0)),(Value.string ⟨#[]⟩),(Value.slice none (0) (0))])) x7 Z E_ E_
theorem aB1:eN Tryz.prog 46 [.pv .nils]:=⟨_,_,zeroValue46,.inr Z,Z⟩
theorem ca:fG Tryz.prog 46 137 15:=⟨eW,aZ,E_,_,zeroValue137⟩
theorem Xc:EI Tryz.prog 137 15 216:=EI.mk (z:=(Value.agg #[(Value.int IntKind.i64 (0)),(Value.string ⟨#[]⟩),(Value.string ⟨#[]⟩),(Value.string ⟨#[]⟩),(Value.int IntKind.i64 (0)),(Value.int IntKind.i64 (0)),(Value.string ⟨#[]⟩),(Value.string ⟨#[]⟩),(Value.slice none (0) (0)),(Value.string ⟨#[]⟩),(Value.int IntKind.i64 (0)),(Value.int IntKind.i64 (0)),(Value.int IntKind.i64 (0)),(Value.slice none (0) (0)),(Value.slice none (0) (0))])) x7 Z E_ E_
theorem aq:eN Tryz.prog 48 [.pv (.int .i64 0),.pv (.sl []),.pv (.sl [])]:=⟨_,_,zeroValue48,.inl Z,Z⟩
theorem DA:cF Tryz.prog 48 0 0:=⟨_,_,0,jT,Z,Z,sizeOf3⟩
theorem vX:cF Tryz.prog 48 1 1:=⟨_,_,0,jT,Z,Z,sizeOf22⟩
theorem vW:cF Tryz.prog 48 2 2:=⟨_,_,0,jT,Z,Z,sizeOf22⟩
theorem Vs:kO Tryz.prog 48 [(0,1),(1,1),(2,1)] [.pv (.int .i64 0),.pv (.sl []),.pv (.sl [])]:=⟨_,#[(0,1),(1,1),(2,1)],_,_,jT,zeroValue48,.inl Z,Z,λw=>by simp[sizeOf3,sizeOf22],Z⟩
theorem aDI:kO Tryz.prog 48 [(0,1),(1,1),(2,1)] [.pv (.int .i64 0),.pv .nils,.pv .nils]:=⟨_,#[(0,1),(1,1),(2,1)],_,_,jT,zeroValue48,.inr Z,Z,λw=>by simp[sizeOf3,sizeOf22],Z⟩
theorem UB:fG Tryz.prog 49 104 2:=⟨gC,sizeOf104,E_,_,zeroValue104⟩
theorem Xd:EI Tryz.prog 104 2 16:=EI.mk (z:=(Value.agg #[(Value.int IntKind.i64 (0)),(Value.int IntKind.i64 (0))])) x7 Z E_ E_
theorem aDm:eN Tryz.prog 51 [.pv (.str ⟨#[]⟩),.pv (.str ⟨#[]⟩),.pv (.sl []),.pv (.sl []),.pv (.int .i64 0),.pv (.sl []),.pv (.sl [])]:=⟨_,_,zeroValue51,.inl Z,Z⟩
theorem IJ:cF Tryz.prog 51 0 0:=⟨_,_,0,tL,Z,Z,V_⟩
theorem II:cF Tryz.prog 51 1 1:=⟨_,_,0,tL,Z,Z,V_⟩
theorem yI:cF Tryz.prog 51 2 2:=⟨_,_,0,tL,Z,Z,sizeOf22⟩
theorem sZ:cF Tryz.prog 51 3 3:=⟨_,_,0,tL,Z,Z,sizeOf49⟩
theorem FA:cF Tryz.prog 51 4 4:=⟨_,_,2,tL,Z,Z,sizeOf48⟩
theorem aE0:kO Tryz.prog 51 [(0,1),(1,1),(2,1),(3,1),(4,3)] [.pv (.str ⟨#[]⟩),.pv (.str ⟨#[]⟩),.pv (.sl []),.pv (.sl []),.pv (.int .i64 0),.pv (.sl []),.pv (.sl [])]:=⟨_,#[(0,1),(1,1),(2,1),(3,1),(4,3)],_,_,tL,zeroValue51,.inl Z,Z,λw=>by simp[V_,sizeOf22,sizeOf48,sizeOf49],Z⟩
theorem jw:eN Tryz.prog 53 [.pv (.int .i64 0),.pv (.int .i64 0),.pv (.int .i64 0),.pv (.int .i64 0),.pv (.str ⟨#[]⟩),.pv (.sl []),.pv (.sl []),.pv (.str ⟨#[]⟩),.pv (.bool false),.pv (.int .i64 0),.pv (.str ⟨#[]⟩),.pv (.int .i64 0),.pv (.sl []),.pv (.sl []),.pv (.str ⟨#[]⟩),.pv (.str ⟨#[]⟩),.pv (.sl []),.pv (.sl []),.pv (.int .i64 0),.pv (.sl []),.pv (.sl [])]:=⟨_,_,zeroValue53,.inl Z,Z⟩
theorem aB0:eN Tryz.prog 53 [.pv (.int .i64 0),.pv (.int .i64 0),.pv (.int .i64 0),.pv (.int .i64 0),.pv (.str ⟨#[]⟩),.pv .nils,.pv .nils,.pv (.str ⟨#[]⟩),.pv (.bool false),.pv (.int .i64 0),.pv (.str ⟨#[]⟩),.pv (.int .i64 0),.pv .nils,.pv .nils,.pv (.str ⟨#[]⟩),.pv (.str ⟨#[]⟩),.pv .nils,.pv .nils,.pv (.int .i64 0),.pv .nils,.pv .nils]:=⟨_,_,zeroValue53,.inr Z,Z⟩
theorem oH:cF Tryz.prog 53 0 0:=⟨_,_,0,eV,Z,Z,sizeOf3⟩
theorem E9:cF Tryz.prog 53 1 1:=⟨_,_,0,eV,Z,Z,sizeOf3⟩
theorem AN:cF Tryz.prog 53 2 2:=⟨_,_,0,eV,Z,Z,sizeOf3⟩
theorem E8:cF Tryz.prog 53 3 3:=⟨_,_,0,eV,Z,Z,sizeOf3⟩
theorem C9:cF Tryz.prog 53 4 4:=⟨_,_,0,eV,Z,Z,V_⟩
theorem oG:cF Tryz.prog 53 5 5:=⟨_,_,0,eV,Z,Z,sizeOf22⟩
theorem C8:cF Tryz.prog 53 6 6:=⟨_,_,0,eV,Z,Z,sizeOf46⟩
theorem C7:cF Tryz.prog 53 7 7:=⟨_,_,0,eV,Z,Z,V_⟩
theorem IH:cF Tryz.prog 53 8 8:=⟨_,_,0,eV,Z,Z,sizeOf4⟩
theorem yH:cF Tryz.prog 53 9 9:=⟨_,_,0,eV,Z,Z,sizeOf3⟩
theorem wX:cF Tryz.prog 53 10 10:=⟨_,_,0,eV,Z,Z,V_⟩
theorem zV:cF Tryz.prog 53 11 11:=⟨_,_,2,eV,Z,Z,sizeOf48⟩
theorem iE:cF Tryz.prog 53 12 14:=⟨_,_,6,eV,Z,Z,sizeOf51⟩
theorem TH:kO Tryz.prog 53 [(0,1),(1,1),(2,1),(3,1),(4,1),(5,1),(6,1),(7,1),(8,1),(9,1),(10,1),(11,3),(14,7)] [.pv (.int .i64 0),.pv (.int .i64 0),.pv (.int .i64 0),.pv (.int .i64 0),.pv (.str ⟨#[]⟩),.pv (.sl []),.pv (.sl []),.pv (.str ⟨#[]⟩),.pv (.bool false),.pv (.int .i64 0),.pv (.str ⟨#[]⟩),.pv (.int .i64 0),.pv (.sl []),.pv (.sl []),.pv (.str ⟨#[]⟩),.pv (.str ⟨#[]⟩),.pv (.sl []),.pv (.sl []),.pv (.int .i64 0),.pv (.sl []),.pv (.sl [])]:=⟨_,#[(0,1),(1,1),(2,1),(3,1),(4,1),(5,1),(6,1),(7,1),(8,1),(9,1),(10,1),(11,3),(14,7)],_,_,eV,zeroValue53,.inl Z,Z,λw=>by simp[sizeOf3,sizeOf4,V_,sizeOf22,sizeOf46,sizeOf48,sizeOf51],Z⟩
theorem QK:fG Tryz.prog 68 9 1:=⟨lZ,V_,E_,_,gQ⟩
theorem Do:eN Tryz.prog 70 [.pv (.str ⟨#[]⟩),.pv (.str ⟨#[]⟩),.pv (.int .i64 0),.pv (.sl [])]:=⟨_,_,zeroValue70,.inl Z,Z⟩
theorem M0:cF Tryz.prog 70 0 0:=⟨_,_,0,AS,Z,Z,V_⟩
theorem S3:cF Tryz.prog 70 1 1:=⟨_,_,0,AS,Z,Z,V_⟩
theorem E7:cF Tryz.prog 70 2 2:=⟨_,_,0,AS,Z,Z,sizeOf3⟩
theorem E6:cF Tryz.prog 70 3 3:=⟨_,_,0,AS,Z,Z,sizeOf68⟩
theorem aDJ:kO Tryz.prog 70 [(0,1),(1,1),(2,1),(3,1)] [.pv (.str ⟨#[]⟩),.pv (.str ⟨#[]⟩),.pv (.int .i64 0),.pv (.sl [])]:=⟨_,#[(0,1),(1,1),(2,1),(3,1)],_,_,AS,zeroValue70,.inl Z,Z,λw=>by simp[sizeOf3,V_,sizeOf68],Z⟩
theorem GK:fG Tryz.prog 73 22 1:=⟨tJ,sizeOf22,E_,_,vL⟩
theorem aAn:EI Tryz.prog 22 1 24:=EI.mk (z:=(Value.slice none (0) (0))) x7 Z E_ E_
theorem aB2:eN Tryz.prog 80 [.pv (.sl []),.pv .nilm]:=⟨_,_,zeroValue80,.inl Z,Z⟩
theorem IG:cF Tryz.prog 80 0 0:=⟨_,_,0,underlying80,Z,Z,sizeOf68⟩
theorem po:cF Tryz.prog 80 1 1:=⟨_,_,0,underlying80,Z,Z,sizeOf78⟩
theorem aDH:kO Tryz.prog 80 [(0,1),(1,1)] [.pv .nils,.pv .nilm]:=⟨_,#[(0,1),(1,1)],_,_,underlying80,zeroValue80,.inr Z,Z,λw=>by simp[sizeOf68,sizeOf78],Z⟩
theorem aDl:eN Tryz.prog 82 [.pv .nilm]:=⟨_,_,zeroValue82,.inl Z,Z⟩
theorem S2:cF Tryz.prog 84 0 0:=⟨_,_,1,tI,Z,Z,sizeOf80⟩
theorem pn:cF Tryz.prog 84 1 2:=⟨_,_,0,tI,Z,Z,sizeOf22⟩
theorem Lh:cF Tryz.prog 84 2 3:=⟨_,_,0,tI,Z,Z,sizeOf82⟩
theorem pk:cF Tryz.prog 84 3 4:=⟨_,_,0,tI,Z,Z,sizeOf73⟩
theorem S1:cF Tryz.prog 84 4 5:=⟨_,_,0,tI,Z,Z,sizeOf73⟩
theorem aDG:kO Tryz.prog 84 [(0,2),(2,1),(3,1),(4,1),(5,1)] [.pv .nils,.pv .nilm,.pv .nils,.pv .nilm,.pv .nils,.pv .nils]:=⟨_,#[(0,2),(2,1),(3,1),(4,1),(5,1)],_,_,tI,zeroValue84,.inr Z,Z,λw=>by simp[sizeOf22,sizeOf73,sizeOf80,sizeOf82],Z⟩
theorem Yn:fG Tryz.prog 86 70 4:=⟨underlying86,dT,E_,_,zeroValue70⟩
theorem aEU:EI Tryz.prog 70 4 64:=EI.mk (z:=(Value.agg #[(Value.string ⟨#[]⟩),(Value.string ⟨#[]⟩),(Value.int IntKind.i64 (0)),(Value.slice none (0) (0))])) x7 Z E_ E_
theorem aDk:eN Tryz.prog 92 [.pv (.str ⟨#[]⟩),.pv (.int .i64 0),.pv (.str ⟨#[]⟩),.pv (.sl [])]:=⟨_,_,zeroValue92,.inl Z,Z⟩
theorem ZS:cF Tryz.prog 92 0 0:=⟨_,_,0,AR,Z,Z,V_⟩
theorem S0:cF Tryz.prog 92 1 1:=⟨_,_,0,AR,Z,Z,sizeOf3⟩
theorem Lg:cF Tryz.prog 92 2 2:=⟨_,_,0,AR,Z,Z,V_⟩
theorem vV:cF Tryz.prog 92 3 3:=⟨_,_,0,AR,Z,Z,sizeOf22⟩
theorem aEZ:kO Tryz.prog 92 [(0,1),(1,1),(2,1),(3,1)] [.pv (.str ⟨#[]⟩),.pv (.int .i64 0),.pv (.str ⟨#[]⟩),.pv (.sl [])]:=⟨_,#[(0,1),(1,1),(2,1),(3,1)],_,_,AR,zeroValue92,.inl Z,Z,λw=>by simp[sizeOf3,V_,sizeOf22],Z⟩
theorem MZ:cF Tryz.prog 99 0 0:=⟨_,_,0,underlying99,Z,Z,sizeOf22⟩
theorem MY:cF Tryz.prog 99 1 1:=⟨_,_,0,underlying99,Z,Z,sizeOf4⟩
theorem aEY:kO Tryz.prog 99 [(0,1),(1,1)] [.pv (.sl []),.pv (.bool false)]:=⟨_,#[(0,1),(1,1)],_,_,underlying99,zeroValue99,.inl Z,Z,λw=>by simp[sizeOf4,sizeOf22],Z⟩
theorem Dq:eN Tryz.prog 104 [.pv (.int .i64 0),.pv (.int .i64 0)]:=⟨_,_,zeroValue104,.inl Z,Z⟩
theorem mM:cF Tryz.prog 104 0 0:=⟨_,_,0,underlying104,Z,Z,sizeOf3⟩
theorem mL:cF Tryz.prog 104 1 1:=⟨_,_,0,underlying104,Z,Z,sizeOf3⟩
theorem KZ:kO Tryz.prog 104 [(0,1),(1,1)] [.pv (.int .i64 0),.pv (.int .i64 0)]:=⟨_,#[(0,1),(1,1)],_,_,underlying104,zeroValue104,.inl Z,Z,λw=>by simp[sizeOf3],Z⟩
theorem QT(a0 b0:Int)(a1 b1:Int)(w:World):(Op.equalIn 10000 104 (.agg [.int .i64 a0,.int .i64 a1].toArray) (.agg [.int .i64 b0,.int .i64 b1].toArray)).run Tryz.prog w=.ok (decide (a0=b0)&&decide (a1=b1)) w:=by
 refine(run_equalIn_struct (P:=Tryz.prog) w 9999 104 _ _ (by simp[Program.fieldsOf,underlying104]) stoodInHeld104).trans ?_;have h3:∀(d:Nat) (a b:Int) (w:World),(Op.equalIn (d+1) 3 (.int .i64 a) (.int .i64 b)).run Tryz.prog w=.ok (decide (a=b)) w:=λd a b w=>by rw[run_equalIn_int w d 3 _ _ a b underlying3];by_cases h:a=b<;>simp[h]
 by_cases e0:a0=b0<;>by_cases e1:a1=b1<;>simp[Program.fieldsOf,underlying104,Op.eqFields,part,h3,M_,e0,e1]
theorem aB9:eN Tryz.prog 125 [.pv .nilp]:=⟨_,_,zeroValue125,.inl Z,Z⟩
theorem vr:cF Tryz.prog 127 0 0:=⟨_,_,0,underlying127,Z,Z,V_⟩
theorem aDL:kO Tryz.prog 127 [(0,1)] [.pv (.str ⟨#[]⟩)]:=⟨_,#[(0,1)],_,_,underlying127,zeroValue127,.inl Z,Z,λw=>by simp[V_],Z⟩
theorem Wg:eN Tryz.prog 131 [.pv (.sl [])]:=⟨_,_,zeroValue131,.inl Z,Z⟩
theorem Xp:eN Tryz.prog 131 [.pv .nils]:=⟨_,_,zeroValue131,.inr Z,Z⟩
theorem QL:fG Tryz.prog 131 9 1:=⟨underlying131,V_,E_,_,gQ⟩
theorem lK:fG Tryz.prog 133 270 2:=⟨dO,lN,E_,_,zeroValue270⟩
theorem Ln:EI Tryz.prog 270 2 32:=EI.mk (z:=(Value.agg #[(Value.string ⟨#[]⟩),(Value.string ⟨#[]⟩)])) x7 Z E_ E_
theorem U5:eN Tryz.prog 135 [.pv (.str ⟨#[]⟩),.pv (.int .i64 0),.pv (.int .i64 0),.pv (.int .i64 0),.pv (.sl []),.pv (.sl [])]:=⟨_,_,zeroValue135,.inl Z,Z⟩
theorem Dn:eN Tryz.prog 135 [.pv (.str ⟨#[]⟩),.pv (.int .i64 0),.pv (.int .i64 0),.pv (.int .i64 0),.pv .nils,.pv .nils]:=⟨_,_,zeroValue135,.inr Z,Z⟩
theorem qR:cF Tryz.prog 135 0 0:=⟨_,_,0,nR,Z,Z,V_⟩
theorem eB:cF Tryz.prog 135 1 1:=⟨_,_,0,nR,Z,Z,sizeOf3⟩
theorem mK:cF Tryz.prog 135 2 2:=⟨_,_,1,nR,Z,Z,sizeOf104⟩
theorem eA:cF Tryz.prog 135 3 4:=⟨_,_,0,nR,Z,Z,sizeOf22⟩
theorem gA:cF Tryz.prog 135 4 5:=⟨_,_,0,nR,Z,Z,sizeOf133⟩
theorem FI:kO Tryz.prog 135 [(0,1),(1,1),(2,2),(4,1),(5,1)] [.pv (.str ⟨#[]⟩),.pv (.int .i64 0),.pv (.int .i64 0),.pv (.int .i64 0),.pv (.sl []),.pv (.sl [])]:=⟨_,#[(0,1),(1,1),(2,2),(4,1),(5,1)],_,_,nR,zeroValue135,.inl Z,Z,λw=>by simp[sizeOf3,V_,sizeOf22,sizeOf104,sizeOf133],Z⟩
theorem Mk:kO Tryz.prog 135 [(0,1),(1,1),(2,2),(4,1),(5,1)] [.pv (.str ⟨#[]⟩),.pv (.int .i64 0),.pv (.int .i64 0),.pv (.int .i64 0),.pv .nils,.pv .nils]:=⟨_,#[(0,1),(1,1),(2,2),(4,1),(5,1)],_,_,nR,zeroValue135,.inr Z,Z,λw=>by simp[sizeOf3,V_,sizeOf22,sizeOf104,sizeOf133],Z⟩
theorem U4:eN Tryz.prog 137 [.pv (.int .i64 0),.pv (.str ⟨#[]⟩),.pv (.str ⟨#[]⟩),.pv (.str ⟨#[]⟩),.pv (.int .i64 0),.pv (.int .i64 0),.pv (.str ⟨#[]⟩),.pv (.str ⟨#[]⟩),.pv (.sl []),.pv (.str ⟨#[]⟩),.pv (.int .i64 0),.pv (.int .i64 0),.pv (.int .i64 0),.pv (.sl []),.pv (.sl [])]:=⟨_,_,zeroValue137,.inl Z,Z⟩
theorem iN:cF Tryz.prog 137 0 0:=⟨_,_,0,hU,Z,Z,sizeOf3⟩
theorem jO:cF Tryz.prog 137 1 1:=⟨_,_,0,hU,Z,Z,V_⟩
theorem kM:cF Tryz.prog 137 2 2:=⟨_,_,0,hU,Z,Z,V_⟩
theorem qQ:cF Tryz.prog 137 3 3:=⟨_,_,0,hU,Z,Z,V_⟩
theorem jE:cF Tryz.prog 137 4 4:=⟨_,_,1,hU,Z,Z,sizeOf104⟩
theorem nN:cF Tryz.prog 137 5 6:=⟨_,_,0,hU,Z,Z,V_⟩
theorem oP:cF Tryz.prog 137 6 7:=⟨_,_,0,hU,Z,Z,V_⟩
theorem iM:cF Tryz.prog 137 7 8:=⟨_,_,0,hU,Z,Z,sizeOf22⟩
theorem uU:cF Tryz.prog 137 8 9:=⟨_,_,5,hU,Z,Z,sizeOf135⟩
theorem tT:kO Tryz.prog 137 [(0,1),(1,1),(2,1),(3,1),(4,2),(6,1),(7,1),(8,1),(9,6)] [.pv (.int .i64 0),.pv (.str ⟨#[]⟩),.pv (.str ⟨#[]⟩),.pv (.str ⟨#[]⟩),.pv (.int .i64 0),.pv (.int .i64 0),.pv (.str ⟨#[]⟩),.pv (.str ⟨#[]⟩),.pv (.sl []),.pv (.str ⟨#[]⟩),.pv (.int .i64 0),.pv (.int .i64 0),.pv (.int .i64 0),.pv (.sl []),.pv (.sl [])]:=⟨_,#[(0,1),(1,1),(2,1),(3,1),(4,2),(6,1),(7,1),(8,1),(9,6)],_,_,hU,zeroValue137,.inl Z,Z,λw=>by simp[sizeOf3,V_,sizeOf22,sizeOf104,sizeOf135],Z⟩
theorem A8:fG Tryz.prog 159 5 1:=⟨dD,cM,E_,_,sF⟩
theorem Xb:EI Tryz.prog 5 1 1:=EI.mk (z:=(Value.int IntKind.u8 (0))) x7 Z E_ E_
theorem HG:eN Tryz.prog 161 [.pv .nilp,.pv .nils]:=⟨_,_,zeroValue161,.inr Z,Z⟩
theorem zW:cF Tryz.prog 161 0 0:=⟨_,_,0,underlying161,Z,Z,sizeOf158⟩
theorem iG:cF Tryz.prog 161 1 1:=⟨_,_,0,underlying161,Z,Z,qF⟩
theorem aB8:eN Tryz.prog 169 [.pv (.int .u64 0)]:=⟨_,_,tG,.inl Z,Z⟩
theorem aB7:eN Tryz.prog 174 [.pv .nilfn]:=⟨_,_,zeroValue174,.inl Z,Z⟩
theorem aB6:eN Tryz.prog 179 [.pv (.int .u8 0),.pv (.int .u8 0),.pv (.int .u8 0),.pv (.int .u8 0),.pv (.int .u8 0),.pv (.int .u8 0),.pv (.int .u8 0),.pv (.int .u8 0)]:=⟨_,_,zeroValue179,.inl Z,Z⟩
theorem qx:eN Tryz.prog 180 [.pv (.int .u8 0),.pv (.int .u8 0),.pv (.int .u8 0),.pv (.int .u8 0),.pv (.int .u8 0),.pv (.int .u8 0),.pv (.int .u8 0),.pv (.int .u8 0),.pv (.int .u8 0),.pv (.int .u8 0),.pv (.int .u8 0),.pv (.int .u8 0),.pv (.int .u8 0),.pv (.int .u8 0),.pv (.int .u8 0),.pv (.int .u8 0)]:=⟨_,_,zeroValue180,.inl Z,Z⟩
theorem Wf:eN Tryz.prog 185 [.pv (.sl [])]:=⟨_,_,zeroValue185,.inl Z,Z⟩
theorem Dl:eN Tryz.prog 185 [.pv .nils]:=⟨_,_,zeroValue185,.inr Z,Z⟩
theorem iA:fG Tryz.prog 185 189 3:=⟨cP,sizeOf189,E_,_,zeroValue189⟩
theorem vw:EI Tryz.prog 189 3 32:=EI.mk (z:=(Value.agg #[(Value.int IntKind.i64 (0)),(Value.string ⟨#[]⟩),(Value.int IntKind.i64 (0))])) x7 Z E_ E_
theorem qw:eN Tryz.prog 189 [.pv (.int .i64 0),.pv (.str ⟨#[]⟩),.pv (.int .i64 0)]:=⟨_,_,zeroValue189,.inl Z,Z⟩
theorem uT:cF Tryz.prog 189 0 0:=⟨_,_,0,underlying189,Z,Z,sizeOf3⟩
theorem iF:cF Tryz.prog 189 1 1:=⟨_,_,0,underlying189,Z,Z,V_⟩
theorem PK:cF Tryz.prog 189 2 2:=⟨_,_,0,underlying189,Z,Z,sizeOf3⟩
theorem HF:kO Tryz.prog 189 [(0,1),(1,1),(2,1)] [.pv (.int .i64 0),.pv (.str ⟨#[]⟩),.pv (.int .i64 0)]:=⟨_,#[(0,1),(1,1),(2,1)],_,_,underlying189,zeroValue189,.inl Z,Z,λw=>by simp[sizeOf3,V_],Z⟩
theorem zH:fG Tryz.prog 200 20 1:=⟨underlying200,sizeOf20,E_,_,zeroValue20⟩
theorem Dp:eN Tryz.prog 266 [.pv (.int .i64 0),.pv (.str ⟨#[]⟩),.pv (.int .i64 0),.pv (.int .i64 0)]:=⟨_,_,zeroValue266,.inl Z,Z⟩
theorem oO:cF Tryz.prog 266 0 0:=⟨_,_,2,underlying266,Z,Z,sizeOf189⟩
theorem tB:cF Tryz.prog 266 1 3:=⟨_,_,0,underlying266,Z,Z,sizeOf25⟩
theorem aDK:kO Tryz.prog 266 [(0,3),(3,1)] [.pv (.int .i64 0),.pv (.str ⟨#[]⟩),.pv (.int .i64 0),.pv (.int .i64 0)]:=⟨_,#[(0,3),(3,1)],_,_,underlying266,zeroValue266,.inl Z,Z,λw=>by simp[sizeOf25,sizeOf189],Z⟩
theorem We:eN Tryz.prog 270 [.pv (.str ⟨#[]⟩),.pv (.str ⟨#[]⟩)]:=⟨_,_,zeroValue270,.inl Z,Z⟩
theorem pS:cF Tryz.prog 270 0 0:=⟨_,_,0,underlying270,Z,Z,V_⟩
theorem qP:cF Tryz.prog 270 1 1:=⟨_,_,0,underlying270,Z,Z,V_⟩
theorem Ml:kO Tryz.prog 270 [(0,1),(1,1)] [.pv (.str ⟨#[]⟩),.pv (.str ⟨#[]⟩)]:=⟨_,#[(0,1),(1,1)],_,_,underlying270,zeroValue270,.inl Z,Z,λw=>by simp[V_],Z⟩
theorem Ws(a0 b0:B_)(a1 b1:B_)(w:World):(Op.equalIn 10000 270 (.agg [.string a0,.string a1].toArray) (.agg [.string b0,.string b1].toArray)).run Tryz.prog w=.ok (decide (a0=b0)&&decide (a1=b1)) w:=by
 refine(run_equalIn_struct (P:=Tryz.prog) w 9999 270 _ _ (by simp[Program.fieldsOf,underlying270]) stoodInHeld270).trans ?_;have h9:∀(d:Nat) (a b:B_) (w:World),(Op.equalIn (d+1) 9 (.string a) (.string b)).run Tryz.prog w=.ok (decide (a=b)) w:=λd a b w=>by rw[run_equalIn_string w d 9 a b U_,BL]
 by_cases e0:a0=b0<;>by_cases e1:a1=b1<;>simp[Program.fieldsOf,underlying270,Op.eqFields,part,h9,N_,e0,e1]
theorem Xo:eN Tryz.prog 297 [.pv .nilp,.pv .nils]:=⟨_,_,zeroValue297,.inr Z,Z⟩
theorem pR:cF Tryz.prog 297 0 0:=⟨_,_,1,underlying297,Z,Z,sizeOf161⟩
theorem aB4:eN Tryz.prog 299 [.pv .nilfn]:=⟨_,_,zeroValue299,.inl Z,Z⟩
theorem aB3:eN Tryz.prog 312 [.pv (.str ⟨#[]⟩),.pv (.str ⟨#[]⟩),.pv (.str ⟨#[]⟩),.pv (.str ⟨#[]⟩),.pv (.str ⟨#[]⟩),.pv (.str ⟨#[]⟩)]:=⟨_,_,zeroValue312,.inl Z,Z⟩
theorem aDP:PW Tryz.prog 312 1 [.pv (.str ⟨#[]⟩),.pv (.str ⟨#[]⟩),.pv (.str ⟨#[]⟩),.pv (.str ⟨#[]⟩),.pv (.str ⟨#[]⟩),.pv (.str ⟨#[]⟩)]:=⟨_,_,_,_,underlying312,zeroValue312,.inl Z,Z,V_⟩
theorem Xh:PW Tryz.prog 316 1 [.pv (.str ⟨#[]⟩),.pv (.str ⟨#[]⟩),.pv (.str ⟨#[]⟩),.pv (.str ⟨#[]⟩)]:=⟨_,_,_,_,underlying316,zeroValue316,.inl Z,Z,V_⟩
theorem aDO:PW Tryz.prog 319 1 [.pv (.int .i64 0),.pv (.int .i64 0),.pv (.int .i64 0),.pv (.int .i64 0),.pv (.int .i64 0),.pv (.int .i64 0)]:=⟨_,_,_,_,underlying319,zeroValue319,.inl Z,Z,sizeOf3⟩
theorem a7:Tryz.prog.follows .mixedOrders=true:=rfl
structure m7 where
 key:B_
 val:B_
structure l6 where
 id:B_
 kind:Int
 x:Int
 y:Int
 refs:List B_
 tags:List m7
structure b8 where
 op:Int
 id:B_
 other:B_
 node:B_
 x:Int
 y:Int
 key:B_
 val:B_
 refs:List B_
 obj:l6
def S_(s:B_):List PV:=[.str s]
def gP(n:Int):List PV:=[.int .i64 n]
def bS(t:m7):List PV:=[.str t.key,.str t.val]
def bP(o:l6):List PV:=[.str o.id,.int .i64 o.kind,.int .i64 o.x,.int .i64 o.y,.sl (o.refs.map S_),.sl (o.tags.map bS)]
def bJ(e:b8):List PV:=[.int .i64 e.op,.str e.id,.str e.other,.str e.node,.int .i64 e.x,.int .i64 e.y,.str e.key,.str e.val,.sl (e.refs.map S_),
 .str e.obj.id,.int .i64 e.obj.kind,.int .i64 e.obj.x,.int .i64 e.obj.y,.sl (e.obj.refs.map S_),.sl (e.obj.tags.map bS)]
def aL(l:List B_):PV:=.sl (l.map S_)
def pY(l:List m7):PV:=.sl (l.map bS)
def kD(l:List b8):PV:=.sl (l.map bJ)
def h_:l6:=⟨⟨#[]⟩,0,0,0,[],[]⟩
theorem cE{f:α->List PV}{a}(h:l[k]?=some a):(l.map f)[k]?=some (f a):=F_
theorem aS{l:List α}{k}(h:k<l.length):∃a,l[k]?=some a:=⟨_,m_ h⟩
theorem W8{p}{l:List α}{k}{a}(h:∀j,j<k->∀b,l[j]?=some b->p b=false)(hk:l[k]?=some a)(hp:p a=true):l.findIdx? p=some k:=by
 rw[findIdx?_eq_some_iff_getElem]
 grind
theorem W9{p}{l:List α}(h:∀j,j<l.length->∀b,l[j]?=some b->p b=false):l.findIdx? p=none:=by
 rw[findIdx?_eq_none_iff];intro x a;have ⟨j,hj⟩:=s8.1 a
 grind
def AJ{α:Type}(p:α->Bool)(l:List α):Int:=match l.findIdx? p with|some i=>(i:Int)|none => -1
theorem Ld(p)(l:List α):decide (0<=AJ p l)=l.any p:=by
 unfold AJ
 grind
theorem pc(p)(l):(AJ p l = -1/\l.find? p=none)\/∃(k:Nat) (o:α),AJ p l=k/\l[k]?=some o/\l.find? p=some o:=by
 cases h:l.findIdx? p with
 |none =>
  left;refine⟨by simp[AJ,h],?_⟩
  simp_all
 |some k =>
  right;have a:=h;rw[findIdx?_eq_some_iff_getElem]at h;have ⟨h1,h2,h3⟩:=h;refine⟨k,l[k],by simp[AJ,a],m_ _,?_⟩;rw[find?_eq_some_iff_getElem]
  grind
theorem RN{p:α->Bool}{k}{a}(h:∀j,j<k->∀b,l[j]?=some b->p b=false)(hk:l[k]?=some a)(hp:p a=false):∀j,j<k+1->∀b,l[j]?=some b->p b=false:=G_
theorem Ng{p}{l:List α}(h:∀j,j<l.length->∀b,l[j]?=some b->p b=false):l.any p=false:=by
 rw[any_eq_false];intro x a;have ⟨j,hj⟩:=s8.1 a
 grind
theorem aDQ{p}{l:List α}{a}(c:l[k]?=some a)(b:p a=true):l.any p=true:=any_eq_true.2 ⟨_,m8 c,b⟩
end Go.Proofs.YtopnleflllkbmaaGreatDoor
namespace Go.Abs
variable{H H':aF}{w w':World}{I:Nat->Prop}{ι:lQ}{x:Obj}{zv:Value}{v0:AV}{id:Nat}{ob':Ob}
section
def HN(H:aF):aF->Prop
 | []=>True
 |(id,o)::r=>H.get id=some o/\HN H r
theorem HN.sub{H}:∀ {L},HN H L->Sub L H
 | [],_,id,o,h=>by cases h
 |(i,o')::r,h,id,o,a=>by
  simp[aF.get]at a;cases e:Nat.beq i _ with
  |true=>rw[e]at a;cases a;rw[<-Nat.eq_of_beq_eq_true e];exact h.1
  |false=>rw[e]at a;exact h.2.sub _ o a
theorem gH(D H)(k):aF.get (D++H) k=match D.get k with|some v=>some v|none=>H.get k:=PJ D H k
theorem aU.frame{P:Program}{f:FuncId}{args:List AV}{H0 H1:aF}{r0:AV}(h:aU P f args H0 (λr H'=>r=r0/\H'=H1))(A:Sub H0 H)(u:dG H0)(z_:∀a∈args,Clo H0 a)
  (hk:∀id,(H1.get id).isSome=true->(H0.get id).isSome=true\/H.get id=none):aU P f args H (λr H'=>r=r0/\H'=H1++H):=by
 intro I L w vs F hl o_;refine(h I L w vs (F.restrict A u) hl (λi v a g h2=>(o_ i v a g h2).restrict A (z_ a (m8 h2)))).mono ?_;rintro e w' ⟨r,H',T,D,v,rfl,⟨rfl,rfl⟩,k1,v_,n⟩;have ⟨s,hι2⟩:∃s:lQ,s=(λj=>if(H'.get j).isSome=true then D j else L j):=X_;have d_:∀j o,H'.get j=some o->s j=D j:=λj o d=>by simp_all
 have c_:∀j,H'.get j=none->s j=L j:=λj d=>by simp_all
 have g1:∀j o,H'.get j=some o->aF.get (H'++H) j=some o:=λj o d=>by rw[gH,d]
 have G:∀j,H'.get j=none->aF.get (H'++H) j=H.get j:=λj d=>by rw[gH,d]
 have y_:∀j o,H.get j=some o->H'.get j=none->H0.get j=none:=λj o d K=>by
  cases e:H0.get j with
  |none=>rfl
  |some o0 =>
   obtain ⟨p,W,_⟩:=n.objs j o0 e
   simp_all
 have y:∀j o b c,H.get j=some o->H'.get j=none->L j=some (b,c)->¬ NG L H0 b:=λj o b c d K f_ ⟨m,p,B,l,A_⟩=>by
  have:=F.inj j m o p b c B d (A _ _ l) f_ A_;subst this;rw[y_ j o d K]at l;cases l
 have e_:Step I L H w T s (H'++H) w':=by
  refine⟨n.os,n.tape,n.output,n.size,λa z_ K=>n.froz a z_ (λh=>K (h.sub A)),n.imm,λb f_=>?_,?_,?_,?_⟩
  ·rcases n.immNew b f_ with g|g|g
   ·exact .inl g
   ·exact .inr (.inl (g.sub A))
   exact .inr (.inr g)
  ·rintro b ⟨j,o,c,d,u⟩;cases e:H'.get j with
   |some p =>
    rw[d_ j p e]at u;rcases n.own b ⟨j,p,c,e,u⟩with g|g
    ·exact .inl (g.sub A)
    exact .inr g
   |none =>
    rw[c_ j e]at u;rw[G j e]at d;exact .inl ⟨j,o,c,d,u⟩
  ·intro b f_ K;exact n.keep b f_ (λh=>K (h.sub A))
  intro j o d;cases e:H'.get j with
  |some p =>
   rcases hk j (by rw[e];rfl)with g|g
   ·have ⟨o0,e0⟩:=Option.isSome_iff_exists.1 g;have:=A _ _ e0;rw[d]at this;cases this;have ⟨o2,q1,q2,q3⟩:=n.objs j o e0;exact⟨o2,g1 j o2 q1,q2,λe=>by rw[d_ j o2 q1];exact q3 e⟩
   rw[d]at g;cases g
  |none=>exact⟨o,(G j e).trans d,g_ _,λ_=>⟨c_ j e,Z,λ_=>g_ _⟩⟩
 have N:∀ {v:Value} {a:AV},VRel w' T D H' v a->VRel w' T s (H'++H) v a:=λhva =>
  hva.mono' (λ_ _=>rfl) (λ_ h=>h) (λid o ho=>⟨o,g1 id o ho,g_ _,λ_=>⟨d_ id o ho,Z,λ_=>g_ _⟩⟩)
 refine⟨r,H'++H,T,s,v,Z,⟨Z,Z⟩,N k1,⟨v_.imm,λj o d=>?_,λj m o p b c B d l u k=>?_,v_.glob⟩,e_⟩
 ·cases e:H'.get j with
  |some p =>
   rw[g1 j p e]at d;obtain rfl:p=o:=Option.some.inj d;exact(v_.obj j p e).keep (d_ j p e) (λ_ _ _ _=>⟨Z,λh=>h⟩) (λr _ a _ v o_=>N o_)
  |none =>
   rw[G j e]at d;refine(F.obj j o d).keep (c_ j e) (λu_ z W E=>⟨n.keep u_ E (y j o u_ z d e W),λe3 hi=>?_⟩) (λr _ a _ v o_=>o_.mono F e_);rcases n.immNew u_ hi with g|g|g
   ·exact e3 g
   ·exact y j o u_ z d e W g
   omega
 cases e:H'.get j with
 | some q =>
  rw[d_ j q e]at u;cases x:H'.get m with
  |some Q =>
   rw[d_ m Q x]at k;exact v_.inj j m q Q b c B e x u k
  |none =>
   rw[c_ m x]at k;rw[G m x]at l;have E:=F.lt ⟨m,p,B,l,k⟩;rcases n.own b ⟨j,q,c,e,u⟩with g|g
   ·exact absurd g (y m p b B l x k)
   omega
 | none =>
  rw[c_ j e]at u;rw[G j e]at d;cases x:H'.get m with
  |some Q =>
   rw[d_ m Q x]at k;have E:=F.lt ⟨j,o,c,d,u⟩;rcases n.own b ⟨m,Q,B,x,k⟩with g|g
   ·exact absurd g (y j o b c d e u)
   omega
  |none =>
   rw[c_ m x]at k;rw[G m x]at l;exact F.inj j m o p b c B d l u k
mutual
def sQ(ρ:Nat->Nat):AV->AV
 |.any=>.any
 |.pv p=>.pv p
 |.ref id g i k=>.ref (ρ id) g i k
 |.pad rows i k=>.pad rows i k
 |.osl id g off len=>.osl (ρ id) g off len
 |.clo f caps=>.clo f (BC ρ caps)
 |.bnd f xs=>.bnd f (BC ρ xs)
 |.agg cs=>.agg (BC ρ cs)
 |.tup vs=>.tup (BC ρ vs)
 |.mp id g=>.mp (ρ id) g
 |.it id g=>.it (ρ id) g
 |.yld id g=>.yld (ρ id) g
 |.raw x ts=>.raw x ts
 |.osc id g off len c=>.osc (ρ id) g off len c
def BC(ρ:Nat->Nat):List AV->List AV
 | []=>[]
 |a::l=>sQ ρ a::BC ρ l
end
theorem nW(ρ)(l):BC ρ l=l.map (sQ ρ):=by
 induction l with
 |nil=>rfl
 |cons a l b=>simp[BC,b]
def wI(ρ:Nat->Nat)(o:Ob):Ob:=⟨o.g,o.sz,o.ty,o.rows.map (BC ρ)⟩
def HR(ρ:Nat->Nat)(H:aF):aF:=H.map λp=>(ρ p.1,wI ρ p.2)
theorem Hj{ρ}{a}{y}{b}(h:sQ ρ a=.raw y b):a=.raw y b:=by cases a<;>first|exact h|(cases h)
theorem Rm{ρ}(o):∀y e r',(wI ρ o).rows=[[.raw y e],r']->∃r,o.rows=[[.raw y e],r]:=by
 intro y e r' h;have ⟨g,sz,ty,rows⟩:=o;simp[wI]at h |-;cases rows with
 |nil=>grind
 | cons a rows =>
  cases rows with
  |nil=>grind
  | cons b rows =>
   cases rows with
   |cons c rows=>grind
   | nil =>
    simp[map_cons,map_nil,List.cons.injEq,and_true]at h;have ⟨d,_⟩:=h;cases a with
    |nil=>simp[BC]at d
    | cons x a =>
     cases a with
     |cons z a=>simp[BC]at d
     |nil =>
      simp[BC,List.cons.injEq,and_true]at d;exact⟨b,by rw[Hj d]⟩
section
variable{ρ:Nat->Nat}(hρ:∀n,ρ (ρ n)=n)
include hρ
theorem uV(H)(id):(HR ρ H).get (ρ id)=(H.get id).map (wI ρ):=by
 induction H with
 |nil=>rfl
 |cons p H a =>
  have ⟨i,o⟩:=p;simp[HR,map_cons,aF.get]at a |-;by_cases e:i=id
  ·simp_all
  have:ρ i≠ρ id:=λh=>e G_;simp[jR e,jR this,a]
theorem BD(H)(id):(HR ρ H).get id=(H.get (ρ id)).map (wI ρ):=by
 have:=uV hρ H (ρ id)
 rwa [hρ]at this
theorem VRel.ren{v:Value}{a:AV}(h:VRel w I ι H v a):VRel w I (λj=>ι (ρ j)) (HR ρ H) v (sQ ρ a):=by
 induction h with
 |any v=>exact .any v
 |pv h=>exact .pv h
 |ref o f l c h =>
  refine .ref (wI ρ o) (by rw[uV hρ,f];rfl) l c (λe=>?_);have ⟨g,b,q,s,k⟩:=h e;exact⟨g,b,q,F_,k⟩
 |pad b x q B h y u E D A d_=>exact .pad b x q B h y u E D A d_
 |osl o f l c h =>
  refine .osl (wI ρ o) (by rw[uV hρ,f];rfl) l c (λe=>?_);have ⟨g,s,k⟩:=h e;refine⟨g,by simpa[wI]using s,?_⟩;rw[hρ];exact k
 |clo z h r =>
  unfold sQ;rw[nW];refine .clo F_ (λi v a t d=>?_);rw[r7]at d;obtain ⟨p,m,rfl⟩:=Option.map_eq_some_iff.1 d;exact r i v p t m
 |bnd z h r =>
  unfold sQ;rw[nW];refine .bnd F_ (λi v a t d=>?_);rw[r7]at d;obtain ⟨p,m,rfl⟩:=Option.map_eq_some_iff.1 d;exact r i v p t m
 |agg z c h r =>
  unfold sQ;rw[nW];refine .agg F_ c (λi v a t d=>?_);rw[r7]at d;obtain ⟨p,m,rfl⟩:=Option.map_eq_some_iff.1 d;exact r i v p t m
 |tup z h r =>
  unfold sQ;rw[nW];refine .tup F_ (λi v a t d=>?_);rw[r7]at d;obtain ⟨p,m,rfl⟩:=Option.map_eq_some_iff.1 d;exact r i v p t m
 |mp o f l c h =>
  refine .mp (wI ρ o) (by rw[uV hρ,f];rfl) l c (λe=>?_);have ⟨g,b,s,k⟩:=h e;exact⟨g,b,F_,k⟩
 |it o f l c h =>
  refine .it (wI ρ o) (by rw[uV hρ,f];rfl) l c (λe=>?_);have ⟨g,b,s,k⟩:=h e;exact⟨g,b,F_,k⟩
 |yld o f l c h =>
  refine .yld (wI ρ o) (by rw[uV hρ,f];rfl) l c (λe=>?_);have ⟨g,b,s,k⟩:=h e;exact⟨g,b,F_,k⟩
 |osc o f l c h =>
  refine .osc (wI ρ o) (by rw[uV hρ,f];rfl) l c (λe=>?_);have ⟨g,s,k⟩:=h e;refine⟨g,s,?_⟩;rw[hρ];exact k
theorem Rel.ren{w}{I}{ι}{H}(h:Rel I ι H w):Rel I (λj=>ι (ρ j)) (HR ρ H) w:=by
 refine⟨h.imm,λid o d=>?_,λid id' o o' b c c' d e f m=>?_,h.glob⟩
 ·rw[BD hρ]at d;obtain ⟨s,p,rfl⟩:=Option.map_eq_some_iff.1 d;refine(h.obj _ _ p).keepG Z Z (by simp[wI]) (Rm _) Z (λ_ _ _ _=>⟨Z,λh=>h⟩) (λi r f=>?_);simp only[wI,r7]at f;obtain ⟨u,g,rfl⟩:=Option.map_eq_some_iff.1 f;refine⟨u,g,by rw[nW,j6],λk a a' l q v t=>?_⟩;rw[nW,r7,l]at q;cases q;exact t.ren hρ
 rw[BD hρ]at d e;obtain ⟨s,p,rfl⟩:=Option.map_eq_some_iff.1 d;obtain ⟨o1,l,rfl⟩:=Option.map_eq_some_iff.1 e;have:=h.inj _ _ _ _ b c _ p l f m;rw[<-hρ id,this,hρ]
theorem Step.ren{r:Nat->Prop}{g:lQ}(h:Step I ι H w r g H' w'):Step I (λj=>ι (ρ j)) (HR ρ H) w r (λj=>g (ρ j)) (HR ρ H') w':=by
 have f:∀ {ι:lQ} {H:aF} {b:Nat},NG (λj=>ι (ρ j)) (HR ρ H) b↔NG ι H b:=by
  intro ι H b;constructor
  ·rintro⟨id,o,c,d,q⟩;rw[BD hρ]at d;obtain ⟨l,p,rfl⟩:=Option.map_eq_some_iff.1 d;exact⟨_,l,c,p,q⟩
  rintro⟨id,o,c,d,q⟩;exact⟨ρ id,wI ρ o,c,by rw[uV hρ,d];rfl,F_⟩
 refine⟨h.os,h.tape,h.output,h.size,λa x m=>h.froz a x (λd=>m (f.2 d)),h.imm,λb i=>?_,λb i=>?_,λb i m=>h.keep b i (λd=>m (f.2 d)),λid o d=>?_⟩
 ·rcases h.immNew b i with k|k|k;all_goals simp_all
 ·rcases h.own b (f.1 i)with k|k;all_goals simp_all
 rw[BD hρ]at d;obtain ⟨l,p,rfl⟩:=Option.map_eq_some_iff.1 d;have ⟨z,s,A,u⟩:=h.objs _ l p;exact⟨wI ρ z,by rw[BD hρ,s];rfl,A,λe=>by
  have ⟨v,y,t⟩:=u e;exact⟨v,y,by simpa[wI]using t⟩⟩
theorem VQ(l:List AV):BC ρ (BC ρ l)=l/\∀a∈l,sQ ρ (sQ ρ a)=a:=by
 have d:∀n:Nat,∀a:AV,SizeOf.sizeOf a<=n->sQ ρ (sQ ρ a)=a:=by
  intro n
  induction n with
  |zero=>intro a b;cases a<;>simp at b<;>omega
  | succ n o =>
   have q:∀l:List AV,SizeOf.sizeOf l<=n+1->BC ρ (BC ρ l)=l:=by
    intro l q;rw[nW,nW,map_map];have:∀a∈l,(sQ ρ∘sQ ρ) a=a:=λa b=>o a (by have:=sizeOf_lt_of_mem b;omega);rw[map_congr_left this,map_id']
   intro a b;cases a with
   |any=>rfl
   |pv p=>rfl
   |ref id g i k=>simp only[sQ,hρ]
   |pad rows i k=>rfl
   |osl id g h e=>simp only[sQ,hρ]
   |clo f caps=>simp only[sQ];grind
   |bnd f xs=>simp only[sQ];grind
   |agg m=>simp only[sQ];grind
   |tup m=>simp only[sQ];grind
   |mp id g=>simp only[sQ,hρ]
   |it id g=>simp only[sQ,hρ]
   |yld id g=>simp only[sQ,hρ]
   |raw x ts=>rfl
   |osc id g h e c=>simp only[sQ,hρ]
 have j:∀a∈l,sQ ρ (sQ ρ a)=a:=λa _=>d _ a (g_ _);refine⟨?_,j⟩;rw[nW,nW,map_map];have:∀a∈l,(sQ ρ∘sQ ρ) a=a:=j;rw[map_congr_left this,map_id']
theorem VR(H):HR ρ (HR ρ H)=H:=by
 simp[HR,map_map];have:∀p∈H,((λp=>(ρ p.1,wI ρ p.2))∘λp=>(ρ p.1,wI ρ p.2)) p=p:=by
  rintro⟨i,o⟩ _;simp[Function.comp,hρ,wI,map_map];have:∀r∈o.rows,(BC _∘BC _) r=r:=λr _=>(VQ hρ r).1;rw[map_congr_left this,map_id']
 rw[map_congr_left this,map_id']
theorem aU.ren{P}{f}{args args'}{H H' H1 H1'}{r r'}(h:aU P f args H (λx K=>x=r/\K=H1))(p:BC ρ args=args')(t:HR ρ H=H')(o:sQ ρ r=r')(g:HR ρ H1=H1'):
  aU P f args' H' (λx K=>x=r'/\K=H1'):=by
 subst p t o g;intro I l w D c d_ u;have b:=c.ren hρ;rw[VR hρ]at b;have k:D.size=args.length:=by rw[d_,nW,j6]
 refine(h I _ w _ b k (λi v a A m=>?_)).mono ?_
 ·have:=(u i v _ A (by rw[nW,r7,m];rfl)).ren hρ
  rwa [VR hρ,(VQ hρ [a]).2 a H_]at this
 rintro e w' ⟨x,K,z,ι',v,rfl,⟨rfl,rfl⟩,s,y,B⟩;have d:=B.ren hρ;have q:(λj=>(λj=>l (ρ j)) (ρ j))=l:=F_
 rw[q]at d;exact⟨_,_,z,_,v,Z,⟨Z,Z⟩,s.ren hρ,y.ren hρ,d⟩
end
end
section
structure KeyKind(α:Type) where
 d:TypeDesc
 pv:α->PV
 val:α->Value
 rel:∀(w:World) (I:Nat->Prop) (v:Value) (a:α),PRep w I v (pv a)->v=val a
 inj:∀a b,val a=val b->a=b
 is:∀a,MapKept.IsKey d (val a)
 rep:∀(w:World) (I:Nat->Prop) (a:α),PRep w I (val a) (pv a)
def JD:KeyKind B_:=⟨.string,.str,.string,λ_ _ _ _ h=>by cases h;rfl,λ_ _ h=>by cases h;rfl,λ_=>trivial,λ_ _ _=>.str _⟩
def Mj:KeyKind Bool:=⟨.bool,.bool,.bool,λ_ _ _ _ h=>by cases h;rfl,λ_ _ h=>by cases h;rfl,λ_=>trivial,λ_ _ _=>.bool _⟩
def rS{α:Type}(κ:KeyKind α)(l:List (α×AV)):List (List AV):=l.mapIdx λi p=>[.pv (κ.pv p.1),p.2,.pv (.int .i64 i)]
theorem F7{α}{κ:KeyKind α}{l}{i:Nat}{r}:(rS κ l)[i]?=some r↔∃p,l[i]?=some p/\r=[.pv (κ.pv p.1),p.2,.pv (.int .i64 i)]:=by
 rw[rS]
 grind
theorem KG{α}(κ:KeyKind α)(l):(rS κ l).length=l.length:=by simp[rS]
theorem YL{α}{κ:KeyKind α}{H}{w}{I}{ι}{v}{k}(h:VRel w I ι H v (.pv (κ.pv k))):v=κ.val k:=κ.rel _ _ _ _ h.pv_inv
section
variable{α:Type}
structure MapAt(w:World)(I:Nat->Prop)(ι:lQ)(H:aF)(κ:KeyKind α)(l:List (α×AV))(es:Array MapEntry):Prop where
 size:es.size=l.length
 rel:∀(i:Nat) (p:α×AV),l[i]?=some p->∃e,es[i]?=some e/\e.born=i/\e.key=κ.val p.1/\VRel w I ι H e.val p.2
theorem oe{w}{I}{ι}{H}{id b}{ob}{κ:KeyKind α}{l}(h:lP w I ι H id ob)(o:ob.sz=0)(d:ι id=some (b,0))(c:ob.rows=rS κ l):
  ∃f,w.heap[b]?=some (.map f ob.ty)/\¬ I b/\MapAt w I ι H κ l f:=by
 obtain ⟨_,b',f,g,r,t,u,e5,e6,v⟩:=h.map o d;rw[d]at g;cases g;refine⟨f,r,t,⟨by rw[u,c,KG],λi p j=>?_⟩⟩;obtain ⟨e,k,a,n,q,y,s,x,m⟩:=v i _ (by rw[c];exact F7.2 ⟨p,j,Z⟩);cases y;exact⟨e,q,by injection m.int_inv with _ hh;omega,κ.rel _ _ _ _ s.pv_inv,x⟩
theorem MapAt.born{w}{I}{ι}{H}{κ:KeyKind α}{l}{c}(h:MapAt w I ι H κ l c){i}{e}(hi:c[i]?=some e):e.born=i/\i<l.length:=by
 have a:i<l.length:=by rw[<-h.size];grind
 obtain ⟨e',b,d,_⟩:=h.rel i _ (m_ a);rw[hi]at b;cases b;exact⟨d,a⟩
section
variable{id b cap:Nat}{ob ob':Ob}
def World.setObj(w:World)(b:Nat)(x:Obj):World:={w with heap:=w.heap.setIfInBounds b x}
def vf:Obj->Bool
 |.cells ..=>true
 |_=>false
theorem Rel.rewrite{x0:Obj}(g:Rel I ι H w)(B:H.get id=some ob)(k:ι id=some (b,cap))(hz:ob.sz=0)(o_:w.heap[b]?=some x0)(h0:vf x0=false)(hx:vf x=false)(hg:ob'.g=ob.g)(hz':ob'.sz=0)
  (n:w.heap.size=(World.setObj w b x).heap.size->(World.setObj w b x).heap[b]?=some x->¬ I b->(∀v a,VRel w I ι H v a->VRel (World.setObj w b x) I ι H' v a)->lP (World.setObj w b x) I ι H' id ob')
  (K:H'.get id=some ob') (G:∀j,j≠id->H'.get j=H.get j):Rel I ι H' (World.setObj w b x)/\Step I ι H w I ι H' (World.setObj w b x):=by
 have p:NG ι H b:=⟨id,ob,cap,B,k⟩;have ⟨A,i⟩:=MapKept.heap_set (w:=w) (o':=x) o_;have d:Step I ι H w I ι H' (World.setObj w b x):=by
  refine⟨Z,Z,Z,by simp[World.setObj],λa _ _=>?_,λ_ h=>h,λ_ h=>.inl h,?_,?_,?_⟩
  ·by_cases e:a.block=b
   ·simp_all
   simp[World.frozen?,World.setObj,i _ e]
  ·rintro y ⟨j,o,c,f,d_⟩;by_cases e:j=id
   ·simp_all
   exact .inl ⟨j,o,c,(G j e).symm.trans f,d_⟩
  ·intro y _ s;exact i y (λe=>s (e▸p))
  grind
 refine⟨⟨λy s=>by simpa[World.setObj]using g.imm y s,?_,?_,d.glob g⟩,d⟩
 ·intro j o f;by_cases e:j=id
  ·subst e;rw[K]at f;cases f;exact n (by simp[World.setObj]) A ((g.obj j ob B).block k).2 (λv a D=>D.mono g d)
  rw[G j e]at f;exact(g.obj j o f).keep Z (λy c s _=>⟨i y (λE=>e (g.inj j id o ob b c cap f B (E▸s) k)),λh=>h⟩) (λr _ a _ v D=>D.mono g d)
 intro j F o N y c L f u d_ t;have l:∀j o,H'.get j=some o->∃o,H.get j=some o:=by
  grind
 have ⟨q,c_⟩:=l j o f;have ⟨e_,z⟩:=l F N u;exact g.inj j F q e_ y c L c_ z d_ t
theorem Rel.remap{κ:KeyKind α}{l:List (α×AV)}{q c:Array MapEntry}{u:Nat}(z:Rel I ι H w)(x:H.get id=some ob)(g:ι id=some (b,0))(B:ob.sz=0)(y:w.heap[b]?=some (.map q u))(D:ob'.g=ob.g)(h:ob'.sz=0)(hty:ob'.ty=l.length)(a:ob'.rows=rS κ l)
  (f:MapAt w I ι H κ l c) (v:H'.get id=some ob') (E:∀j,j≠id->H'.get j=H.get j):Rel I ι H' (World.setObj w b (.map c l.length))/\Step I ι H w I ι H' (World.setObj w b (.map c l.length)):=by
 refine z.rewrite x g B y Z Z D h (λ_ hs1 A d=>?_) v E;refine .inr (.inl ⟨h,b,c,g,F_,A,by rw[f.size,a,KG],λi e o=>?_,λi j e e' hij o F=>?_,λi r k=>?_⟩)
 ·have ⟨m,n⟩:=f.born o
  simp_all
 ·have m:=(f.born o).1;have n:=(f.born F).1;omega
 rw[a]at k;obtain ⟨p,s,rfl⟩:=F7.1 k;have ⟨e,m,n,d_,t⟩:=f.rel i p s;exact⟨e,_,_,_,m,Z,by rw[d_];exact .pv (κ.rep _ _ p.1),d _ _ t,by rw[n];exact .pv (.int _ _)⟩
end
theorem ny{w}{I}{ι}{H}{v}{id g}{ob}(h:VRel w I ι H v (.mp id g))(hH:H.get id=some ob)(hg:ob.g=g):ob.sz=0/\∃b,ι id=some (b,0)/\v=.map (some b):=by
 cases h with
 |mp o' h1 h2 _ h3 =>
  simp_all
variable [DecidableEq α]
def zC:List (α×AV)->α->Option AV
 | [],_=>none
 |(k',a)::r,k=>if k'=k then some a else zC r k
def wP:List (α×AV)->α->AV->List (α×AV)
 | [],k,v=>[(k,v)]
 |(k',a)::r,k,v=>if k'=k then(k,v)::r else(k',a)::wP r k v
def Ts:List (α×AV)->α->List (α×AV)
 | [],_=>[]
 |(k',a)::r,k=>if k'=k then r else(k',a)::Ts r k
theorem PM{w:World}{I:Nat->Prop}{ι:lQ}{H:aF}(κ:KeyKind α)(k:α):∀(l:List (α×AV)) (g:List MapEntry) (i:Nat),g.length=l.length->(∀(i:Nat) (p:α×AV),l[i]?=some p->∃e,g[i]?=some e/\e.key=κ.val p.1/\VRel w I ι H e.val p.2) ->
  (Instr.findNow κ.d (κ.val k) g i=some none/\zC l k=none/\∀v,wP l k v=l++[(k,v)]) \/
  ∃j e a,Instr.findNow κ.d (κ.val k) g i=some (some (i+j,e.val))/\g[j]?=some e/\e.key=κ.val k/\zC l k=some a/\VRel w I ι H e.val a/\l[j]?=some (k,a)/\(∀v,wP l k v=l.set j (k,v))/\Ts l k=l.eraseIdx j
 | [],[],i,_,_=>.inl ⟨Z,Z,λ_=>rfl⟩
 | (n,a)::l,e::g,i,hl,x=>by
  obtain ⟨e0,d_,m,B⟩:=x 0 (n,a) Z;cases d_;have ⟨r,h,d⟩:=MapKept.sameNow_of_keys (κ.is k) (show MapKept.IsKey κ.d e.key by rw[m];exact κ.is n);by_cases f:n=k
  ·subst f;have t:r=true:=d.2 m.symm;subst t;exact .inr ⟨0,e,a,by simp[Instr.findNow,h],Z,m,by simp[zC],B,Z,λv=>by simp[wP],by simp[Ts]⟩
  have s:r=false:=by
   cases r with
   |false=>rfl
   |true=>exact absurd (κ.inj _ _ ((d.1 Z).trans m)).symm f
  subst s;rcases PM κ k l g (i+1) F_ (λi p y=>x (i+1) p y)with⟨o,u,q⟩|⟨j,E,F,o,u,q,D,G,h6,A,z⟩
  ·exact .inl ⟨by simp[Instr.findNow,h,o],by simp[zC,f,u],λv=>by simp[wP,f,q]⟩
  exact .inr ⟨j+1,E,F,by simp[Instr.findNow,h,o];omega,F_,q,by simp[zC,f,D],G,F_,λv=>by simp[wP,f,A],by simp[Ts,f,z]⟩
section
variable{P:Program}{N:Nat}{o:Oper}{E:cY}{T kt et:TypeId}{x y z:Operand}{κ:KeyKind α}{l:List (α×AV)}{id g:Nat}{ob:Ob}{k:α}
theorem HV(u:o.op=.lookup T x y false)(A:P.underlying T=some (.map kt et))(hd:P.underlying kt=some κ.d)(o_:aO E x=some (.mp id g))(s:H.get id=some ob)(Q:ob.g=g)
  (d:ob.rows=rS κ l) (G:aO E y=some (.pv (κ.pv k))) (f_:∀w,(zeroValue et).run P w=.ok zv w) (D:ZV zv v0):cN P N o E H ((zC l k).getD v0) H :=
 .of_run λa w I ι c_ t=>by
  have ⟨q,b,r,m⟩:=ny (aJ t o_) s Q;have ⟨R,d_,e3,v⟩:=oe (c_.obj id ob s) q r d;have h:=YL (aJ t G);rcases PM κ k l R.toList 0 (by simpa using v.size) (λi p u_=>let ⟨e,q1,_,e_⟩:=v.rel i p u_;⟨e,F_,e_⟩)with⟨n,B,L⟩|⟨j,e,a',n,B,L,F,K,_⟩
  ·refine⟨zv,?_,by rw[B];exact D.rel⟩;simp only[execOp,u,m,h];simp[Instr.lookup,run_underlying A,MapKept.run_getObj_map d_,MapKept.run_checkKey hd (κ.is k),MapKept.run_findKey hd n,f_]
  refine⟨e.val,?_,by rw[F];exact K⟩;simp only[execOp,u,m,h];simp[Instr.lookup,run_underlying A,MapKept.run_getObj_map d_,MapKept.run_checkKey hd (κ.is k),MapKept.run_findKey hd n]
theorem G5(D:o.op=.lookup T x y true)(c_:P.underlying T=some (.map kt et))(hd:P.underlying kt=some κ.d)(Q:aO E x=some (.mp id g))(o_:H.get id=some ob)(z_:ob.g=g)
  (f:ob.rows=rS κ l) (f_:aO E y=some (.pv (κ.pv k))) (hz:∀w,(zeroValue et).run P w=.ok zv w) (h:ZV zv v0):cN P N o E H (.tup [(zC l k).getD v0,.pv (.bool (zC l k).isSome)]) H :=
 .of_run λa w I F R G=>by
  have ⟨A,b,B,s⟩:=ny (aJ G Q) o_ z_;have ⟨u_,L,e3,K⟩:=oe (R.obj id ob o_) A B f;have n:=YL (aJ G f_);have r:∀ {u:Value} {a:AV} {c:Bool},VRel w I F H u a->VRel w I F H (.tuple #[u,.bool c]) (.tup [a,.pv (.bool c)]):=fun {u a c} y_=>.tup Z (λi v q h t=>by
   match i with
   |0=>simp at h t;subst h t;exact y_
   |1=>simp at h t;subst h t;exact .pv (.bool _)
   |i+2=>simp at h)
  rcases PM κ k l u_.toList 0 (by simpa using K.size) (λi p hp=>let ⟨e,q1,_,W⟩:=K.rel i p hp;⟨e,F_,W⟩)with⟨d_,e_,v_⟩|⟨j,e,a',d_,e_,v_,h4,A_,_⟩
  ·refine⟨.tuple #[zv,.bool false],?_,by rw[e_];exact r h.rel⟩;simp only[execOp,D,s,n];simp[Instr.lookup,run_underlying c_,MapKept.run_getObj_map L,MapKept.run_checkKey hd (κ.is k),MapKept.run_findKey hd d_,hz]
  refine⟨.tuple #[e.val,.bool true],?_,by rw[h4];exact r A_⟩;simp only[execOp,D,s,n];simp[Instr.lookup,run_underlying c_,MapKept.run_getObj_map L,MapKept.run_checkKey hd (κ.is k),MapKept.run_findKey hd d_]
theorem UI{v:AV}{H2:aF}(d_:o.op=.mapUpdate T x y z\/o.op=.insert T x y z)(hT:P.underlying T=some (.map kt et))(hd:P.underlying kt=some κ.d)(hx:aO E x=some (.mp id g))(A_:H.get id=some ob)(hg:ob.g=g)
  (hty:ob.ty=l.length) (s:ob.rows=rS κ l) (hy:aO E y=some (.pv (κ.pv k))) (hz:aO E z=some v) (v_:H.set id {ob with ty:=(wP l k v).length,rows:=rS κ (wP l k v)}=H2):cN P N o E H .any H2:=by
 intro a w I ι _ _ hr he K Q c_;have ⟨r,b,G,D⟩:=ny (aJ he hx) A_ hg;have ⟨R,A,e3,n⟩:=oe (hr.obj id ob A_) r G s;rw[hty]at A;have B:=YL (aJ he hy);have L:=aJ he hz;subst v_;have o_:∀t,(Instr.mapUpdate T (a.eval x) (a.eval y) (a.eval z)).run P w=.ok () (World.setObj w b (.map t (wP l k v).length))->MapAt w I ι H κ (wP l k v) t->o.wpW P a w K Q:=by
  intro t q hm;have ⟨k2,k3⟩:=Rel.remap (H':=H.set id {ob with ty:=(wP l k v).length,rows:=rS κ (wP l k v)}) (ob':={ob with ty:=(wP l k v).length,rows:=rS κ (wP l k v)}) hr A_ G r A Z r Z Z hm (aF.get_set_same _ _ _) (λj u=>aF.get_set_other _ _ u);unfold Oper.wpW execOp;rcases d_ with d_|d_
  ·simp only[d_,Sem.run_bind,q,Result.andThen_ok,Sem.run_pure];exact c_ _ _ I ι _ _ ⟨Z,Z⟩ (.any _) k2 k3
  simp only[d_,Sem.run_bind,q,Result.andThen_ok,Sem.run_pure];exact c_ _ _ I ι _ _ ⟨Z,Z⟩ (.any _) k2 k3
 rcases PM κ k l R.toList 0 (by simpa using n.size) (λi p f=>let ⟨e,u_,_,q3⟩:=n.rel i p f;⟨e,F_,q3⟩)with⟨y_,h2,F⟩|⟨j,e,a',y_,h2,F,h4,h5,h6,f_,h8⟩
 ·refine o_ (R.push {key:=κ.val k,val:=a.eval z,born:=l.length}) ?_ ⟨?_,?_⟩
  ·simp[Instr.mapUpdate,D,B,run_underlying hT,MapKept.run_getObj_map A,MapKept.run_checkKey hd (κ.is k),MapKept.run_findKey hd y_,MapKept.run_setObj_map _ A,World.setObj,F]
  ·rw[F];simp[n.size]
  intro i p f;rw[F]at f;by_cases hi:i<l.length
  ·rw[List.getElem?_append_left hi]at f;obtain ⟨e,u_,q2⟩:=n.rel i p f
   grind
  rw[List.getElem?_append_right (by omega)]at f;cases e_:i - l.length with
  |zero =>
   rw[e_]at f;cases f;exact⟨_,by rw[Array.getElem?_push,b7 (by rw[n.size];omega)],by show l.length=i;omega,Z,L⟩
  |succ m=>rw[e_]at f;simp at f
 have u:R[j]?=some e:=by simpa using h2
 have z_:j<R.size:=(Array.getElem?_eq_some_iff.1 u).1;have W:(wP l k v).length=l.length:=by rw[f_];simp
 refine o_ (R.modify j λe=>{e with key:=κ.val k,val:=a.eval z}) ?_ ⟨?_,?_⟩
 ·simp[Instr.mapUpdate,D,B,run_underlying hT,MapKept.run_getObj_map A,MapKept.run_checkKey hd (κ.is k),MapKept.run_findKey hd y_,u,F,MapKept.run_keyThatStays (κ.is k),MapKept.run_setObj_map _ A,World.setObj,W]
 ·rw[f_];simp[n.size]
 intro i p f;rw[f_]at f;by_cases e:i=j
 ·subst e;rw[getElem?_set_self (by rw[<-n.size];exact z_)]at f;cases f;exact⟨{e with key:=κ.val k,val:=a.eval z},by rw[Array.getElem?_modify,b7 Z,u];rfl,(n.born u).1,Z,L⟩
 rw[List.getElem?_set_ne (Ne.symm e)]at f;obtain ⟨e',u_,q2⟩:=n.rel i p f;exact⟨e',by rw[Array.getElem?_modify,a8 (Ne.symm e)];exact u_,q2⟩
theorem Rel.placeX{cap:Nat}{x:Obj}(n:Rel I ι H w)(G:w'.os=w.os)(q:w'.tape=w.tape)(D:w'.output=w.output)(hw:w'.heap=w.heap.push x)
  (hold:∀o,H.get id=some o->o.g<ob'.g)
  (F:w'.heap[w.heap.size]?=some x->¬ I w.heap.size->(∀v a,VRel w I ι H v a->VRel w' I (λj=>if j=id then some (w.heap.size,cap)else ι j) H' v a)->lP w' I (λj=>if j=id then some (w.heap.size,cap)else ι j) H' id ob')
  (Q:H'.get id=some ob') (u:∀j,j≠id->H'.get j=H.get j) :
  Rel I (λj=>if j=id then some (w.heap.size,cap)else ι j) H' w'/\Step I ι H w I (λj=>if j=id then some (w.heap.size,cap)else ι j) H' w':=by
 have A:w'.heap[w.heap.size]?=some x:=F_
 have b:∀x,x<w.heap.size->w'.heap[x]?=w.heap[x]?:=λx s=>by grind
 have hsize:w'.heap.size=w.heap.size+1:=F_
 have m:Step I ι H w I (λj=>if j=id then some (w.heap.size,cap)else ι j) H' w':=by
  refine⟨G,q,D,X,λa e_ _=>?_,λ_ h=>h,λ_ h=>.inl h,?_,λx s _=>b x s,?_⟩
  ·simp[World.frozen?,b a.block e_]
  ·rintro x ⟨j,o,c,p,i⟩;by_cases e:j=id
   ·simp only[e,if_true]at i;cases i;exact .inr (g_ _)
   simp only[e,if_false]at i;exact .inl ⟨j,o,c,(u j e).symm.trans p,i⟩
  grind
 refine⟨⟨λx s=>by have:=n.imm x s;omega,?_,?_,m.glob n⟩,m⟩
 ·intro j o p;by_cases e:j=id
  ·subst e;rw[Q]at p;cases p;exact F A (λo_=>Nat.lt_irrefl _ (n.imm _ o_)) (λv a c_=>c_.mono n m)
  rw[u j e]at p;exact(n.obj j o p).keep (by simp[e]) (λx c _ s=>⟨b x s,λh=>h⟩) (λr _ a _ v c_=>c_.mono n m)
 intro j d_ o L x c K p B i f;by_cases e:j=id<;>by_cases t:d_=id
 ·rw[e,t]
 ·simp only[e,if_true]at i;simp only[t,if_false]at f;cases i;have:=n.lt ⟨d_,L,K,(u d_ t).symm.trans B,f⟩;exact absurd this (Nat.lt_irrefl _)
 ·simp only[e,if_false]at i;simp only[t,if_true]at f;cases f;have:=n.lt ⟨j,o,c,(u j e).symm.trans p,i⟩;exact absurd this (Nat.lt_irrefl _)
 simp only[e,if_false]at i;simp only[t,if_false]at f;exact n.inj j d_ o L x c K ((u j e).symm.trans p) ((u d_ t).symm.trans B) i f
theorem Rel.placeM(i:Rel I ι H w)(e:w'.os=w.os)(a:w'.tape=w.tape)(c:w'.output=w.output)(n:w'.heap=w.heap.push (.map #[] 0))
  (b:∀o,H.get id=some o->o.g<ob'.g) (d:ob'.sz=0) (hty:ob'.ty=0) (hrows:ob'.rows=[]) (f:H'.get id=some ob') (m:∀j,j≠id->H'.get j=H.get j) :
  Rel I (λj=>if j=id then some (w.heap.size,0)else ι j) H' w'/\Step I ι H w I (λj=>if j=id then some (w.heap.size,0)else ι j) H' w' :=
 i.placeX e a c n b (λhnew h _=>.inr (.inl ⟨d,w.heap.size,#[],H_,F_,h,F_,H_,H_,F_⟩)) f m
theorem Ua{I}{ι}{w}{id gg}(c:Rel I ι H w)(b:∀o,H.get id=some o->o.g<gg):
  ∃a,VRel (w.alloc (.map #[] 0)) I a ((id,⟨gg,0,0,[]⟩)::H) (.map (some w.heap.size)) (.mp id gg)/\Rel I a ((id,⟨gg,0,0,[]⟩)::H) (w.alloc (.map #[] 0))/\Step I ι H w I a ((id,⟨gg,0,0,[]⟩)::H) (w.alloc (.map #[] 0)):=by
 have ⟨d,f⟩:=Rel.placeM (ob':=⟨gg,0,0,[]⟩) (w':=w.alloc _) c Z Z Z Z b Z Z Z (get_cons_same _ _ _) (λj e=>get_cons_other _ _ e);exact⟨_,.mp _ (get_cons_same _ _ _) (g_ _) Z λ_=>⟨Z,w.heap.size,H_,Z⟩,d,f⟩
theorem uZ{α}(κ:KeyKind α)(b:o.op=.makeMap T none)(hid:H.get id=none):cN P N o E H (.mp id 0) ((id,⟨0,0,([]:List (α×AV)).length,rS κ []⟩)::H):=by intro a w I ι _ _ h he K Q d;obtain ⟨ι',e,c,f⟩:=Ua (id:=id) h (λo b=>by simp_all);unfold Oper.wpW execOp;simp[b,Instr.makeMap,Option.map_none,Sem.run_bind,run_newObj,Sem.run_pure,Result.andThen_ok];exact d _ _ I _ _ _ ⟨Z,Z⟩ e c f
theorem zD{v}{b}(f:o.op=.mapUpdate T x y z\/o.op=.insert T x y z)(i:P.underlying T=some (.map kt et))(hd:P.underlying kt=some κ.d)(j:aO E x=some (.mp id g))(e:H.get id=some ob)(d:ob.g=g)
  (c:ob.ty=l.length) (a:ob.rows=rS κ l) (h:aO E y=some (.pv (κ.pv k))) (n:aO E z=some v) (m:wP l k v=b):cN P N o E H .any ((id,⟨g,ob.sz,b.length,rS κ b⟩)::H):=by
 subst d m;exact(UI f i hd j e Z c a h n Z).congr (xQ _ _ _)
end
end
end
section
theorem Kn{w}{I}{ι}{H}{v}{id g}{ob}(h:VRel w I ι H v (.it id g))(hH:H.get id=some ob)(hg:ob.g=g):ob.sz=0/\∃b,ι id=some (b,1)/\v=.pointer (some ⟨b,0,none⟩):=by
 cases h with
 |it o' h1 h2 _ h3 =>
  simp_all
section
variable{P:Program}{N:Nat}{o:Oper}{E:cY}{f:Operand}{args:Array Operand}{at_:Array TypeId}{F:FuncId}{fn:Func}{e:Array Value->Sem Value}{vs:List AV}{r:AV}
def Wa(P:Program)(e:Array Value->Sem Value)(H:aF)(vs:List AV)(r:AV):Prop :=∀(w:World) (I:Nat->Prop) (ι:lQ) (cs:Array Value),cs.size=vs.length->(∀(i:Nat) (v:Value) (a:AV),cs[i]?=some v->vs[i]?=some a->VRel w I ι H v a)->∃c,(e cs).run P w=.ok c w/\VRel w I ι H c r
theorem O9(p:o.op=.call {callee:=.value f,args:=args,argTypes:=at_})(x:aO E f=some (.pv (.fn F)))(s:P.funcs[F]?=some fn)(g:(fn.name == "runtime.NumGoroutine")=false)
  (k:fn.body.isNone=true) (q:Extern.findNext fn=none) (u:Extern.find fn=some e) (n:yT E args.toList=some vs) (h:Wa P e H vs r):cN P N o E H r H :=
 .of_run λa w I z hr m=>by
  have l:=(aJ m x).fn_inv;have ⟨h1,y⟩:=pF m (nP n);have ⟨c,t,j⟩:=h w I z (args.map a.eval) F_ (λi v b n k=>y i v b F_ k);refine⟨c,?_,j⟩;unfold execOp;simp only[p,resolve,l,Deferred.ofValue,Sem.run_bind,Sem.run_pure,Result.andThen_ok,invoke,Array.empty_append,Array.append_empty,run_callFunc_extern s g k q u,t]
theorem bl{w}{I}{ι}{H}{x y}{cs}(b:cs.size=[x,y].length)(h:∀(i:Nat) (v) (a),cs[i]?=some v->[x,y][i]?=some a->VRel w I ι H v a):∃u v,cs=#[u,v]/\VRel w I ι H u x/\VRel w I ι H v y:=by
 have ⟨l⟩:=cs
 match l,b with
 | [u,v],_=>exact⟨u,v,Z,h 0 u x Z Z,h 1 v y Z Z⟩
theorem UY(s)(c):Wa P Extern.BytealgIndexByte.indexByte H [.pv (.str s),.pv (.int .u8 c)] (.pv (.int .i64 (Lib.indexByte s.data.toList c.toNat.toUInt8))):=by intro w I ι cs b h;obtain ⟨u,v,rfl,d,g⟩:=bl b h;rw[d.str_inv,g.int_inv];exact⟨_,Lib.run_indexByteString s c w,.pv (.int _ _)⟩
end
theorem jS{P}{G0}{N}{ops}{K}{E:cY}{H}{l}{t:Tmp}{v}(hb:E.get t=some v)(h:AL P G0 N ops K l ((t,v)::E) H):AL P G0 N ops K l E H:=by
 intro G c a w d;refine h G c a w (cL.sub (λk u b=>?_) G c N a w d);by_cases e:t=k
 ·subst e;rw[cY.get_cons_same]at b
  grind
 rwa [cY.get_cons_other _ _ e]at b
end
end Go.Abs
namespace Go.Proofs.YtopnleflllkbmaaGreatDoor
open Go.Proofs.Tryz
open Go.Abs
variable{c:Nat}{α:Type}
abbrev RC(f : FuncId)(a : List AV)(x : AV)(H : aF): Prop := aU Tryz.prog f a H (λr H' => r = x /\ H' = H)
theorem AC(s:B_)(c:Int)(H:aF):RC 250 [.pv (.str s),.pv (.int .u8 c)] (.pv (.int .i64 (Lib.indexByte s.data.toList c.toNat.toUInt8))) H:=by refine Pu ?_;exact Bd func250 Z ntmps250<|Sz aI<|O aA<|Y aA<|Y (O9 Z Z func279 Z Z Z Z Z (UY s c))<|V aI<|aC<|Rt<|Qq
theorem rW(s)(c)(H):RC 199 [.pv (.str s),.pv (.int .u8 c)] (.pv (.int .i64 (Lib.indexByte s.data.toList c.toNat.toUInt8))) H:=by refine Pu ?_;exact Bd func199 Z ntmps199<|Sz aI<|O aA<|Y aA<|Y (bH Z Z call250 Z (AC s c _))<|V aI<|aC<|Rt<|Qq
abbrev Yu:B_:=⟨#[32,9,10]⟩
abbrev aDv:B_:=⟨#[59,44,46,58,40,41,123,125,91,93,61,60,62,47,45]⟩
def pb(s:B_)(n:Int):Bool:=decide (0<=Lib.indexByte s.data.toList n.toNat.toUInt8)
def vE(n:Int):Bool:=(decide (97<=n)&&decide (n<=122))||(decide (65<=n)&&decide (n<=90))
def yD(n:Int):Bool:=decide (48<=n)&&decide (n<=57)
def GP(n:Int):Int:=if vE n then 3 else if yD n then 4 else if pb Yu n then 1 else if pb aDv n then 6 else 0
def yN(n:Int):Int:=if n=34 then 7 else if n=95 then 5 else if n=35 then 2 else GP n
def tD(c:Nat):List AV:=(List.range 256).map λ(i:Nat)=>.pv (.int .u8 (if i<c then GP i else 0))
def vY:List AV:=(List.range 256).map λ(i:Nat)=>.pv (.int .u8 (yN i))
theorem kR(c):(tD c).length=256:=rfl
theorem uH(hc:c<256){v}(a:GP c=v):(tD c).set c (.pv (.int .u8 v))=tD (c+1):=by
 apply ext_getElem
 ·simp[tD]
 intro i h1 h2;rw[getElem_set]
 split
 ·next e=>subst e;simp[tD,a]
 next e=>simp[tD,getElem_map,getElem_range];grind
theorem ic(b:c<256)(a:GP c=0):tD c=tD (c+1):=by
 rw[<-uH b a];apply ext_getElem
 ·simp
 intro i h1 h2;rw[getElem_set]
 split
 ·next e=>subst e;simp[tD]
 rfl
theorem ib:List.replicate 256 (.pv (.int .u8 0))=tD 0:=rfl
theorem ie:(((tD 256).set 35 (.pv (.int .u8 2))).set 95 (.pv (.int .u8 5))).set 34 (.pv (.int .u8 7))=vY:=by kernel_rfl
theorem qf{m}(h:m<256):vY[m]?=some (.pv (.int .u8 (yN m))):=by simp[vY,h]
theorem oS(c)(H):∀r∈[tD c],∀a∈r,Clo H a:=by intro r b a d;rw[r6]at b;subst b;obtain ⟨i,_,rfl⟩:=mem_map.1 d;simp
instance(c)(H):W_ (H) ([tD c]):=⟨oS c H⟩
theorem ia(H):Clo H (.agg vY):=by rw[ZZ];intro a b;obtain ⟨i,_,rfl⟩:=mem_map.1 b;simp
theorem qv:eN Tryz.prog 223 (List.replicate 256 (.pv (.int .u8 0))):=⟨_,.agg _,zeroValue223,.inl (Z),Z⟩
theorem u5{p:Prop}(h:p:=by exact cQ Z cM Z Z Z Z Z Z (by rw[kR];omega) (uH d f) Z):p:=h
theorem XM (H:aF):RC 211 [] (.agg vY) H:=by
  refine Pu<|Bd func211 Z ntmps211<|Sz (kl 0 qv)<|Sz (kl 1 qv)<|S<|Sz aA<|aD ?_;rw[ib];refine bF (σ:=Nat) (λc=>([(0,.ref 0 0 0 0),(1,.ref 1 0 0 0),(4,iv (c:Int))],[(1,bx 256 223 (tD c)),(0,bx 256 223 (tD 0))])) (λc=>c<=256) (λc=>256 - c) 0 X ?_ ?_
  · exact L_
  · intro c hc
    refine Sz cJ<|S<|Cn ?_ ?_<;>intro n
    · have d:c<256:=I_ n
      refine aB<|S<|aD<|O aA<|V aI<|O aA<|Y (eE Z underlying3 cZ Z (wu8 X X))<|V aI<|aD<|S<|S<|aQ (t:=9) (n:=8) (A_:=decide (97<=(c:Int))&&decide ((c:Int)<=122)) ?_ ?_
      · all_goals refine Y aA<|Y G8<|Dm ?_<;>(refine Sp 12 (λm=>?_) λm=>?_)<;>(first|exact s_|refine M<|M ?_|refine U aA<|U G8 ?_)<;>refine Y cC<|Da ?_<;>(exact⟨⟨_,Z,G_⟩,Z,Z,Z⟩)
      refine Cn ?_ ?_<;>intro b
      · have f:GP c=3:=by rw[GP,vE,b];rfl
        refine aB<|Cn ?_ ?_<;>intro j
        · skip
          refine Rd aA<|Y (eO (k2:=c) Z gK cM Z Z Z Z X (l_ _) X X)<|Uu u5<|Zz<|Rd gX<|V aA ?_;exact⟨c+1,X,X,L_⟩
        · rw[b]at j;cases j
      · skip
        refine aQ (t:=9) (n:=8) (A_:=decide (65<=(c:Int))&&decide ((c:Int)<=90)) ?_ ?_
        · all_goals refine Y aA<|Y G8<|Dm ?_<;>(refine Sp 18 (λk=>?_) λk=>?_)<;>(first|exact s_|refine M<|M ?_|refine U aA<|U G8 ?_)<;>refine Y cC<|Da ?_<;>(exact⟨⟨_,Z,G_⟩,Z,Z,Z⟩)
        refine Cn ?_ ?_<;>intro e
        · have f:GP c=3:=by rw[GP,vE,b,e];rfl
          refine Rd aA<|Y (eO (k2:=c) Z gK cM Z Z Z Z X (l_ _) X X)<|Uu u5<|Zz<|Rd gX<|V aA ?_;exact⟨c+1,X,X,L_⟩
        · skip
          refine S<|aQ (t:=24) (n:=8) (A_:=decide (48<=(c:Int))&&decide ((c:Int)<=57)) ?_ ?_
          · all_goals refine Y aA<|Y G8<|Dm ?_<;>(refine Sp 27 (λl=>?_) λl=>?_)<;>(first|exact s_|refine M<|M ?_|refine U aA<|U G8 ?_)<;>refine Y cC<|Da ?_<;>(exact⟨⟨_,Z,G_⟩,Z,Z,Z⟩)
          refine Cn ?_ ?_<;>intro g
          · have f:GP c=4:=by rw[GP,vE,b,e,yD,g];rfl
            refine Rd aA<|Y (eO (k2:=c) Z gK cM Z Z Z Z X (l_ _) X X)<|Uu u5<|Zz<|Rd gX<|V aA ?_;exact⟨c+1,X,X,L_⟩
          · skip
            refine O aA<|Y (kc call199 (rW _ _ _))<|Y zU<|Da<|Cn ?_ ?_<;>intro h
            · have f:GP c=1:=by rw[GP,vE,b,e,yD,g,pb,h];rfl
              refine Rd aA<|Y (eO (k2:=c) Z gK cM Z Z Z Z X (l_ _) X X)<|Uu u5<|Zz<|Rd gX<|V aA ?_;exact⟨c+1,X,X,L_⟩
            · skip
              refine O aA<|Y (kc call199 (rW _ _ _))<|Y zU<|Da<|Cn ?_ ?_<;>intro i
              · have f:GP c=6:=by rw[GP,vE,b,e,yD,g,pb,h,pb,i];rfl
                refine Rd aA<|Y (eO (k2:=c) Z gK cM Z Z Z Z X (l_ _) X X)<|Uu u5<|Zz<|Rd gX<|V aA ?_;exact⟨c+1,X,X,L_⟩
              · have f:GP c=0:=by rw[GP,vE,b,e,yD,g,pb,h,pb,i];rfl
                refine aB<|Rd gX<|V aA ?_;rw[ic d f];exact⟨c+1,X,X,L_⟩
    · have:c=256:=G_
      subst this;refine aP<|O (by exact eO (k2:=35) Z gK cM Z Z Z Z X Z X Z)<|Uu (by exact cQ Z cM Z Z Z Z Z Z (by simp[kR]) Z Z)<|Y (by exact eO (k2:=95) Z gK cM Z Z Z Z X Z X Z)<|Uu (by exact cQ Z cM Z Z Z Z Z Z (by simp[kR]) Z Z)<|Y (by exact eO (k2:=34) Z gK cM Z Z Z Z X Z X Z)<|Uu (by exact cQ Z cM Z Z Z Z Z Z (by simp[kR]) Z Z)<|Zz<|O (by exact aW Z isAgg223 AT Z Z Z Z (show List.take 256 (List.drop 0 _)=vY by rw[<-ie];rfl) Z)<|Uu (jA AT)<|Zz<|aC ?_;refine cR (H':=[]) (.inr Z) Z (fB Z isAgg223 AT Z Z Z (show List.take 256 (List.drop 0 vY)=vY by rfl) Z) (Fin.wk (by exact ia _) T_ T_) ?_;exact Qq
abbrev a6:B_:=⟨#[]⟩
theorem M7(s)(k):0<=aY s k:=by unfold aY;omega
theorem B0(s)(k):(aY s k).toNat<256:=by
 unfold aY;have:=(((s.data.toList[k]?).getD 0)).toNat_lt
 simpa using this
theorem Xf(s)(k):vY[(aY s k).toNat]?=some (.pv (.int .u8 (yN (aY s k)))):=by rw[qf (B0 s k),Int.toNat_of_nonneg (M7 s k)]
theorem kB(H):∀r∈[vY],∀a∈r,Clo H a:=by intro r b a c;rw[r6]at b;subst b;have:=ia H;rw[ZZ]at this;exact this a c
instance(H):W_ (H) ([vY]):=⟨kB H⟩
def il(s:B_)(k:Nat):Bool:=!decide (yN (aY s k)=3)&&(decide ((k:Int)=0)||(!decide (yN (aY s k)=4)&&!decide (yN (aY s k)=5)))
def cH(s:B_):Bool:=!((List.range s.size).any (il s))&&(!decide (s=a6)&&decide ((s.size:Int)<=24))
theorem BE{n}{p}(h:∀j,j<n->p j=false):(List.range n).any p=false:=F_
theorem tZ{n k}{p}(a:k<n)(h:p k=true):(List.range n).any p=true:=any_eq_true.2 ⟨k,mem_range.2 a,h⟩
theorem CY(s:B_)(H:aF)(hs:s.size<2^62):RC 154 [sv s] (bv (cH s)) H:=by
 refine Pu<|Bd func154 Z ntmps154<|Sz aI<|O (kc call211 (XM _))<|Y (kl 3 qv)<|Uu (lR Z AT Z Z Z Z Z Z Z H_)<|Zz<|S<|O aA<|Y (gE U_)<|V aA<|aD<|bF (σ:=Nat) (λk=>([(0,sv s),(3,.ref 3 0 0 0),(8,iv (s.size:Int)),(9,iv (k:Int))],[(3,bx 256 223 vY)])) (λk=>k<=s.size/\∀j,j<k->il s j=false) (λk=>s.size - k) 0 ⟨X,X⟩ ?_ ?_
 ·exact L_
 rintro k ⟨hk,g⟩;refine Sz cJ<|S<|Cn ?_ ?_<;>intro c
 ·have h:k<s.size:=I_ c
  refine aB<|S<|aD<|O aA<|V aI<|O aA<|Y aA<|Y (ky U_)<|Y (eO (m:=(aY s k).toNat) (k2:=(aY s k).toNat) Z gK cM Z Z Z Z (M7 s k) Z (B0 s k) X)<|Y (aX Z uM Z Z Z Z (Xf s k))<|V aI<|S<|aQ (t:=30) (n:=17) (A_:=il s k) ?_ ?_
  ·all_goals refine Y aA<|Y zB<|Dm ?_<;>(refine Sp 19 (λf=>?_) λf=>?_)<;>(first|exact s_|refine M<|M<|M ?_|refine U aA<|U cD<|U aA ?_)<;>(first|refine Sp 22 (λl=>?_) λl=>?_|refine jS (t:=22) Z ?_)<;>(first|exact s_|refine M ?_|refine Fu ?_|refine U aA ?_)<;>(first|refine M ?_|refine Fu ?_|refine U zB ?_)<;>(first|refine M ?_|refine Fu ?_|refine U aA ?_)<;>(first|refine Sp 25 (λe=>?_) λe=>?_|refine jS (t:=25) Z ?_)<;>(first|exact s_|refine M ?_|refine Fu ?_|refine U aA ?_)<;>(first|refine M ?_|refine Fu ?_|refine U zB ?_)<;>(first|refine M ?_|refine Fu ?_|refine U cC ?_)<;>(first|refine M ?_|refine U cC ?_)<;>refine V cC ?_<;>exact Gj (h:=by(simp only[il, *];rfl))
  refine Cn ?_ ?_<;>intro d
  ·refine Sz aI<|aC<|Rt ?_;exact⟨by rw[cH,tZ h d];rfl,Z⟩
  refine aB<|Rd gX<|V aA ?_;refine⟨k+1,⟨X,λj hj=>?_⟩,X,L_⟩
  grind
 have i:k=s.size:=J_ c
 refine aP<|S<|aQ (t:=2) (n:=9) (A_:=!decide (s=a6)&&decide ((s.size:Int)<=24)) ?_ ?_
 ·all_goals refine Y aA<|Y DZ<|Dm ?_<;>(refine Sp 34 (λm=>?_) λm=>?_)<;>(first|exact s_|refine M<|M<|M ?_|refine U aA<|U (gE U_)<|U G8 ?_)<;>refine Y cC<|Da ?_<;>exact Gj (h:=by simp_all)
 refine aC<|Rt ?_;subst i;exact⟨by rw[cH,BE g];rfl,Z⟩
def big:Nat:=4611686018427387904
def kN{α:Type}(f:α->B_)(l:List α):Nat->B_
 |0=>a6
 |k+1=>((l[k]?).map f).getD a6
def Yo(a b:B_):Bool:=lA a b||decide (a=b)
def DJ(last:B_)(t:m7):Bool:=!cH t.key||Yo t.key last||decide (t.val=a6)||decide (200<(t.val.size:Int))
def TJ{α:Type}(p:B_->α->Bool)(f:α->B_)(l:List α)(k:Nat):Bool:=match l[k]? with
 |some t=>p (kN f l k) t
 |none=>false
theorem DK{p}{f}{l}{k}{t:α}(h:l[k]?=some t):TJ p f l k=p (kN f l k) t:=by rw[TJ,h]
theorem zY{f}{l}{k}{t:α}(h:l[k]?=some t):kN f l (k+1)=f t:=by rw[kN,h];rfl
def sW(l:List m7):Bool:=!((List.range l.length).any (TJ DJ m7.key l))&&decide ((l.length:Int)<=60)
def MF(l:List m7):Prop:=l.length<2^62/\∀t∈l,t.key.size<2^62/\t.val.size<2^62
theorem CH(l:List m7)(H:aF)(u:MF l):RC 305 [.pv (pY l)] (bv (sW l)) H:=by
 refine Pu ?_;have ⟨u,n⟩:=u;have i:(l.map bS).length=l.length:=j6 _;refine Bd func305 Z ntmps305<|Sz aI<|Sz aI<|S<|O aA<|Y (fW dO)<|V aA<|aD<|bF (σ:=Nat) (λk=>([(0,.pv (pY l)),(3,sv (kN m7.key l k)),(6,.pv (pY l)),(7,iv ((l.map bS).length:Int)),(8,iv (k:Int))],[])) (λk=>k<=l.length/\∀j,j<k->TJ DJ m7.key l j=false) (λk=>l.length - k) 0 ⟨X,X⟩ ?_ ?_
 ·exact Wk
 rintro k ⟨hk,h⟩;refine Sz cJ<|S<|Cn ?_ ?_<;>intro d
 ·have f:k<l.length:=I_ d
  have ⟨t,g⟩:=aS f;have hi:=cE (f:=bS) g;have m:=n t (m8 g);refine aB<|S<|aD<|O (iO lK)<|Y (by exact fA Z xB lN Z X (by simp only[Zl,bS,bP];rfl) Z)<|Y (kl 5 We)<|Uu (jA lN)<|Zz<|S<|S ?_;refine aQ (t:=32) (n:=24) (A_:=DJ (kN m7.key l k) t) ?_ ?_
  ·all_goals refine Y (bA pS)<|Y (bQ N_)<|Y (kc oW (CY t.key _ m.1))<|Y iI<|Dm ?_<;>(refine Sp 16 (λo=>?_) λo=>?_)<;>(first|exact s_|refine M<|M<|M<|M ?_|refine U (bA pS)<|U (bQ N_)<|U aA<|U (Jf Z Z Z) ?_)<;>refine Y cC<|Dm ?_<;>(refine Sp 22 (λs=>?_) λs=>?_)<;>(first|exact s_|refine M<|M<|M ?_|refine U (bA qP)<|U (bQ N_)<|U wH ?_)<;>refine Y cC<|Dm ?_<;>(refine Sp 27 (λp=>?_) λp=>?_)<;>(first|exact s_|refine M<|M<|M<|M ?_|refine U (bA qP)<|U (bQ N_)<|U (gE U_)<|U iP ?_)<;>refine V cC ?_<;>exact Gj (h:=by(simp only[DJ,Yo, *];rfl))
  refine Cn ?_ ?_<;>intro c
  ·refine Sz aI<|aC<|Rt ?_;exact⟨by rw[sW,tZ f ((DK g).trans c)];rfl,Z⟩
  refine aB<|Rd (bA pS)<|Y (bQ N_)<|V aI<|Rd gX<|V aA ?_;refine⟨k+1,⟨X,λj hj=>?_⟩,X,?_⟩
  ·by_cases e:j=k
   ·subst e;exact(DK g).trans c
   grind
  rw[zY g];exact Wk
 have q:k=l.length:=J_ d
 subst q;refine aP<|O aA<|Y (fW dO)<|Y G8<|V aI<|aC<|Rt ?_;exact⟨by rw[sW,BE h,<-i];rfl,Z⟩
end Go.Proofs.YtopnleflllkbmaaGreatDoor
namespace Go.Abs
section
section
variable{P:Program}{N:Nat}{o:Oper}{E:cY}{H:aF}{T:TypeId}{x y z:Operand}
theorem UM{e}{b}{s}{n}{m}{l}{v}(A:o.op=.index T x y)(D:P.underlying T=some (.array b e))(p:∀w,(sizeOf e).run P w=.ok 1 w)(r:∀w,(isAgg e).run P w=.ok false w)
  (d_:aO E x=some (.agg l)) (F:aO E y=some (.pv (.int s n))) (G:0<=n) (u:n.toNat=m) (hi:m<b) (k:l[m]?=some v):cN P N o E H v H :=
 .of_run λa w I ι hr g=>by
  have h:=aJ g d_;have B:=(aJ g F).int_inv;generalize q:a.eval x=c at h;cases h with
  | @agg i _ hl h1 c_ =>
   have d:m<i.size:=by grind
   have j:=Array.getElem?_eq_getElem d;refine⟨i[m],?_,c_ m _ v j k⟩;have t:n<b:=by omega
   simp[execOp,A,q,B];simp[Instr.index,run_underlying D,asIntOf,G,t,p,u,part,r,j]
def GL(l:List B_):List (B_×AV):=l.map λs=>(s,.pv (.bool true))
def vi(l:List B_)(s:B_):Bool:=l.any λa=>decide (a=s)
def QC(l:List B_)(s:B_):List B_:=if vi l s then l else l++[s]
theorem Gs(l)(s):(zC (GL l) s).getD (.pv (.bool false))=.pv (.bool (vi l s)):=by
 induction l with
 |nil=>rfl
 |cons a l b =>
  by_cases h:a=s
  ·subst h;simp[GL,zC,vi]
  simp[GL,map_cons,zC,h,if_false,vi,any_cons,decide_false,Bool.false_or]at b |-;exact b
theorem Gr(l)(s):wP (GL l) s (.pv (.bool true))=GL (QC l s):=by
 induction l with
 |nil=>rfl
 | cons a l b =>
  by_cases h:a=s
  ·subst h;simp[GL,wP,QC,vi]
  have e:QC (a::l) s=a::QC l s:=by
   unfold QC vi
   grind
  rw[e];show wP ((a,.pv _)::GL l) s _=(a,.pv _)::GL _;rw[wP,a8 h,b]
theorem wE{c b}{l}{id g}{ob}{s}{zv}(e:o.op=.lookup T x y false)(i:P.underlying T=some (.map c b))(hd:P.underlying c=some .string)(j:aO E x=some (.mp id g))(f:H.get id=some ob)(k:ob.g=g)
  (a:ob.rows=rS JD (GL l)) (h:aO E y=some (.pv (.str s))) (d:∀w,(zeroValue b).run P w=.ok zv w) (m:ZV zv (.pv (.bool false))):cN P N o E H (.pv (.bool (vi l s))) H:=by
 rw[<-Gs];exact HV e i hd j f k a h d m
theorem U6{d h}{l}{id g}{ob}{s}(f:o.op=.mapUpdate T x y z\/o.op=.insert T x y z)(j:P.underlying T=some (.map d h))(hd:P.underlying d=some .string)(k:aO E x=some (.mp id g))(e:H.get id=some ob)(n:ob.g=g)
  (c:ob.ty=(GL l).length) (b:ob.rows=rS JD (GL l)) (i:aO E y=some (.pv (.str s))) (m:aO E z=some (.pv (.bool true))):cN P N o E H .any ((id,⟨g,ob.sz,(GL (QC l s)).length,rS JD (GL (QC l s))⟩)::H) :=
 zD f j hd k e n c b i m (Gr l s)
abbrev sob(l:List B_):Ob:=⟨0,0,(GL l).length,rS JD (GL l)⟩
end
end
end Go.Abs
namespace Go.Proofs.YtopnleflllkbmaaGreatDoor
open Go.Proofs.Tryz
open Go.Abs
def eF(k:Int):B_:=if k=1 then⟨#[110,111,100,101]⟩else if k=2 then⟨#[119,97,121]⟩else if k=3 then⟨#[97,114,101,97]⟩else if k=4 then⟨#[114,111,117,116,101]⟩else if k=5 then⟨#[116,117,114,110]⟩else a6
abbrev Pl:List AV:=[sv a6,sv ⟨#[110,111,100,101]⟩,sv ⟨#[119,97,121]⟩,sv ⟨#[97,114,101,97]⟩,sv ⟨#[114,111,117,116,101]⟩,sv ⟨#[116,117,114,110]⟩]
theorem Yp{k:Int}(h0:0<=k)(h1:k<6):k=0\/k=1\/k=2\/k=3\/k=4\/k=5:=X
theorem Pk{k}(a:0<=k)(b:k<6):Pl[k.toNat]?=some (sv (eF k)):=by rcases Yp a b with rfl|rfl|rfl|rfl|rfl|rfl<;>rfl
theorem HH(k:Int)(H:aF):RC 283 [iv k] (sv (eF k)) H:=by
 refine Pu<|Bd func283 Z ntmps283<|Sz aI<|O (zE Z aDP Z Z)<|Y (kl 3 aB3)<|Uu (jA sizeOf312)<|Zz<|S<|S<|aQ (t:=10) (n:=7) (A_:=decide (k<0)||decide (6<=k)) ?_ ?_
 ·all_goals refine Y aA<|Y cJ<|Dm ?_<;>(refine Sp 7 (λd=>?_) λd=>?_)<;>(first|exact s_|refine M<|M ?_|refine U aA<|U zU ?_)<;>refine V cC ?_<;>(exact⟨⟨_,Z,G_⟩,Z,Z,Z⟩)
 refine Cn ?_ ?_<;>intro hc1
 ·have b:¬ (k=1)/\¬ (k=2)/\¬ (k=3)/\¬ (k=4)/\¬ (k=5):=by
   grind
  refine Sz aI<|aC<|Rt ?_;exact⟨by simp only[eF,b.1,b.2.1,b.2.2.1,b.2.2.2.1,b.2.2.2.2,if_false],Z⟩
 have c:0<=k/\k<6:=by
  simp_all
 exact aB<|O aA<|Y (eO (m:=k.toNat) (k2:=k.toNat) Z underlying312 V_ Z Z Z Z c.1 Z X X)<|Y (aX Z N_ Z Z Z Z (Pk c.1 c.2))<|V aI<|aC<|Rt<|Qq
def EZ(k:Int):Int:=if k=2 then 2 else if k=3 then 3 else if k=4 then 1 else if k=5 then 3 else 0
theorem Ke{k}(a:0<=k)(b:k<6):[iv 0,iv 0,iv 2,iv 3,iv 1,iv 3][k.toNat]?=some (iv (EZ k)):=by rcases Yp a b with rfl|rfl|rfl|rfl|rfl|rfl<;>rfl
theorem ux(k)(H)(b:0<=k)(c:k<6):RC 306 [iv k] (iv (EZ k)) H:=by refine Pu ?_;exact Bd func306 Z ntmps306<|Sz aI<|O (zE Z aDO Z Z)<|Y aA<|Y (UM Z underlying319 sizeOf3 M_ Z Z b Z X (Ke b c))<|V aI<|aC<|Rt<|Qq
def ZR(x y:Int):Bool:=((decide (0<=x)&&decide (x<1048576))&&decide (0<=y))&&decide (y<1048576)
theorem aEL(x y:Int)(H:aF):RC 308 [.agg [iv x,iv y]] (bv (ZR x y)) H:=by
 refine Pu<|Bd func308 Z ntmps308<|O (kb 1)<|V aI<|S<|aQ (t:=2) (n:=22) (A_:=ZR x y) ?_ ?_
 ·all_goals refine Y (bA mM)<|Y (bQ M_)<|Y zU<|Dm ?_<;>(refine Sp 6 (λd=>?_) λd=>?_)<;>(first|refine M<|M<|M ?_|refine U (bA mM)<|U (bQ M_)<|U cJ ?_)<;>refine Y cC<|Dm ?_<;>(refine Sp 11 (λb=>?_) λb=>?_)<;>(first|refine M<|M<|M ?_|refine U (bA mL)<|U (bQ M_)<|U zU ?_)<;>refine Y cC<|Dm ?_<;>(refine Sp 16 (λc=>?_) λc=>?_)<;>(first|exact s_|refine M<|M<|M ?_|refine U (bA mL)<|U (bQ M_)<|U cJ ?_)<;>refine Y cC<|Da ?_<;>exact Gj (h:=by(simp only[ZR, *];rfl))
 exact aC<|Rt<|Qq
def NW(p:Nat->Bool)(n:Nat):Int:=match (List.range n).find? p with|some k=>(k:Int)|none => -1
def GT(p:Nat->Bool)(n:Nat):Nat:=match (List.range n).find? p with|some k=>k+1|none=>n
theorem DB{p}{n k}(hk:k<n)(hp:p k=true)(hno:∀j,j<k->p j=false):(List.range n).find? p=some k:=F_
theorem DD{p}{n}(hno:∀j,j<n->p j=false):(List.range n).find? p=none:=F_
theorem ox(m:AV)(l:List B_)(p:Nat->Bool)(e:Nat->aF)(hl:l.length<2^62)(o:∀k s,l[k]?=some s->dH Tryz.prog m [sv s] (e k) (λr H'=>r=bv (p k)/\H'=e (k+1))):
  aU Tryz.prog 73 [.pv (aL l),m] (e 0) (λr H'=>r=iv (NW p l.length)/\H'=e (GT p l.length)):=by
 have hml:(l.map S_).length=l.length:=j6 _;refine Bd func73 Z ntmps73<|Sz aI<|S<|O aA<|Y (fW aE)<|V aA<|aD<|bF (σ:=Nat) (λk=>([(0,.pv (aL l)),(1,m),(7,iv ((l.map S_).length:Int)),(8,iv (k:Int))],e k)) (λk=>k<=l.length/\∀j,j<k->p j=false) (λk=>l.length - k) 0 ⟨X,X⟩ ?_ ?_
 ·exact E0
 rintro k ⟨hk,c⟩;refine Sz cJ<|S<|Cn ?_ ?_<;>intro f
 ·have d:k<l.length:=I_ f
  have ⟨s,n⟩:=aS d;have hi:=cE (f:=S_) n;have h:=o k s n;refine aB<|S<|aD<|O aA<|V aI<|O aA<|Y aA<|Y aA<|Y (iO bD)<|Y (fZ N_)<|V (dA Z Z Z (h))<|Cn ?_ ?_<;>intro g
  ·refine O aA<|V aI<|aC ?_;exact cR (H':=e (k+1)) (.inr Z) Z (aH Z) Fin.refl ⟨by rw[NW,DB d g c],by rw[GT,DB d g c]⟩
  refine aB<|Rd gX<|V aA ?_;refine⟨k+1,⟨X,λj hj=>?_⟩,X,E0⟩
  grind
 have i:k=l.length:=J_ f
 subst i;refine aP<|Sz aI<|aC ?_;exact cR (H':=e l.length) (.inr Z) Z (aH Z) Fin.refl ⟨by rw[NW,DD c],by rw[GT,DD c]⟩
theorem W1(p)(n):decide (0<=NW p n)=(List.range n).any p:=by
 unfold NW
 grind
theorem AQ(c)(l)(p)(b:Nat->aF)(d:l.length<2^62)(e:∀k s,l[k]?=some s->dH Tryz.prog c [sv s] (b k) (λr H'=>r=bv (p k)/\H'=b (k+1))):
  aU Tryz.prog 28 [.pv (aL l),c] (b 0) (λr H'=>r=bv ((List.range l.length).any p)/\H'=b (GT p l.length)):=by
 refine Bd func28 Z ntmps28<|Sz aI<|O aA<|Y aA<|Y (bH Z Z call73 Z (ox _ l p _ d e))<|Y zU<|V aI<|aC ?_;exact cR (.inr Z) Z (aH Z) Fin.refl ⟨by rw[W1],Z⟩
theorem OU(L)(H):∀r∈(sob L).rows,∀a∈r,Clo H a:=by intro r d a c;have ⟨i,e⟩:=s8.1 d;obtain ⟨p,b,rfl⟩:=F7.1 e;simp only[GL,r7]at b;obtain ⟨q,_,rfl⟩:=Option.map_eq_some_iff.1 b;simp[l9,q7,or_false]at c;rcases c with rfl|rfl|rfl<;>simp
instance(L)(H):W_ (H) ((sob L).rows):=⟨OU L H⟩
def vH(o:l6)(last:B_)(L:List B_):aF:=[(37,sob L),(4,bx 1 9 [sv last]),(3,bx 1 82 [.mp 37 0]),(1,bx 6 135 ((bP o).map .pv))]
theorem Ya(o)(a)(L)(f:Nat):Clo (vH o a L) (.clo f [.ref 1 0 0 0,.ref 4 0 0 0,.ref 3 0 0 0]):=by refine .clo λx b=>?_;simp[l9,q7,or_false]at b;rcases b with rfl|rfl|rfl<;>exact .ref Z
def SU(o:l6)(last:B_)(L:List B_)(s:B_):Bool:=(decide (o.kind=2)&&decide (s=last))||(decide (o.kind=3)&&vi L s)
def MW(o:l6)(last:B_)(L:List B_)(s:B_):Bool:=SU o last L s||!cH s
theorem Eo(o:l6)(b s:B_)(L:List B_)(g:s.size<2^62):
  aU Tryz.prog 307 [sv s,.ref 1 0 0 0,.ref 4 0 0 0,.ref 3 0 0 0] (vH o b L) (λr H'=>r=bv (MW o b L s)/\H'=vH o s (QC L s)):=by
 unfold vH;refine Bd func307 Z ntmps307<|Sz aI<|S<|aQ (t:=6) (n:=22) (A_:=SU o b L s) ?_ ?_
 ·all_goals refine Y (bA eB)<|Y (bQ M_)<|Y cD<|Dm ?_<;>(refine Sp 10 (λe=>?_) λe=>?_)<;>(first|contradiction|refine M<|M<|M ?_|refine U aA<|U (bQ N_)<|U wH ?_)<;>refine Y cC<|Dm ?_<;>(refine Sp 15 (λd=>?_) λd=>?_)<;>(first|contradiction|refine M<|M<|M<|M ?_|refine U (bA eB)<|U (bQ M_)<|U cD<|U aA ?_)<;>(first|refine Sp 19 (λc=>?_) λc=>?_|refine jS (t:=19) Z ?_)<;>(first|contradiction|refine M ?_|refine Fu ?_|refine U (bQ isAgg82) ?_)<;>(first|refine M ?_|refine Fu ?_|refine U aA ?_)<;>(first|refine M ?_|refine Fu ?_|refine U (by exact wE Z lY U_ Z Z Z Z Z iU (.inl Z)) ?_)<;>(first|refine M ?_|refine U cC ?_)<;>refine Y cC<|Da ?_<;>exact Gj (h:=by(simp only[SU, *];rfl))
 refine O (bQ isAgg82)<|Y aA<|Y aA<|Uu (by exact U6 (.inl Z) lY U_ Z Z Z Z Z Z Z)<|Uu (jA V_)<|Zz<|S<|aQ (t:=5) (n:=8) (A_:=SU o b L s||!cH s) ?_ ?_
 ·all_goals refine Y aA<|Dm ?_<;>(refine Sp 29 (λf=>?_) λf=>?_)<;>(first|contradiction|refine M<|M<|M ?_|refine U aA<|U (kc oW (CY s _ g))<|U iI ?_)<;>refine Y cC<|Da ?_<;>exact Gj (h:=by simp_all)
 refine aC<|cR (H':=vH o s (QC L s)) (.inr Z) Z (aH Z) (Fin.wk (by(simp;done)) (Hc (OU _ _)<|Hb<|Ha<|Hb<|T_) ⟨Z,Z,Z,Z,T_⟩) Qq
def A9(l:List B_):Nat->List B_
 |0=>[]
 |k+1=>QC (A9 l k) ((l[k]?).getD a6)
def uN(o:l6)(k:Nat):Bool:=match o.refs[k]? with
 |some s=>MW o (kN id o.refs k) (A9 o.refs k) s
 |none=>false
def SW(o:l6):Bool:=if o.kind=1 then decide ((o.refs.length:Int)=0)&&ZR o.x o.y else if o.kind=5 then decide ((o.refs.length:Int)=3)&&(decide (o.x=0)&&decide (o.y=0))else decide (o.x=0)&&decide (o.y=0)
def vU(o:l6)(n:Int):Bool:=decide (eF o.kind=a6)||!cH o.id||!sW o.tags||decide (n<EZ o.kind)||decide (2000<n)
def NX(o:l6):Bool:=vU o (o.refs.length:Int)
def oF(o:l6):Bool:=!NX o&&(!((List.range o.refs.length).any (uN o))&&SW o)
def jl(o:l6):Prop:=o.id.size<2^62/\MF o.tags/\o.refs.length<2^62/\∀s∈o.refs,s.size<2^62
theorem A4{k}(h:decide (eF k=a6)=false):0<=k/\k<6:=by
 by_cases b:0<=k/\k<6
 ·exact b
 have:eF k=a6:=by
  have a:¬ (k=1)/\¬ (k=2)/\¬ (k=3)/\¬ (k=4)/\¬ (k=5):=X
  simp[eF,a.1,a.2.1,a.2.2.1,a.2.2.2.1,a.2.2.2.2,if_false]
 rw[this]at h;simp at h
theorem R4(o:l6)(H:aF)(x:jl o):RC 286 [av (bP o)] (bv (oF o)) H:=by
 refine Pu ?_;have ⟨p,t,y,w⟩:=x;have hml:(o.refs.map S_).length=o.refs.length:=j6 _;refine Bd func286 Z ntmps286<|O (kb 1)<|V aI<|S<|S<|pJ (t:=36) (n:=31) (A_:=vU o ((o.refs.map S_).length:Int)) ?_ ?_
 ·cases hg10:(decide (eF o.kind=a6):Bool)
  ·cases hg16:(!cH o.id:Bool)
   ·cases i:(!sW o.tags:Bool)
    ·cases g:(decide (((o.refs.map S_).length:Int)<EZ o.kind):Bool)
     ·refine aM a7<|Cq (bA eB)<|Cq (bQ M_)<|Cq (kc call283 (HH o.kind _))<|Cq wH<|Cq aA<|Nf (bA qR)<|Nf (bQ N_)<|Nf (kc oW (CY o.id _ p))<|Nf iI<|Cq sC<|Cq aA<|Nf (bA gA)<|Nf (bQ dF)<|Nf (kc call305 (CH o.tags _ t))<|Nf iI<|Cq sC<|Cq aA<|Nf (bA eA)<|Nf (bQ aG)<|Nf (fW aE)<|Nf (bA eB)<|Nf (bQ M_)<|Nf (kc call306 (ux o.kind _ (A4 hg10).1 (A4 hg10).2))<|Nf cJ<|Cq sC<|Cq aA<|Nf (bA eA)<|Nf (bQ aG)<|Nf (fW aE)<|Nf iP<|Cq sC<|bG<|Kr ?_;exact⟨Z,⟨_,Z,by(simp only[vU,hg10,hg16,i,g];rfl)⟩,Z,Z,Z⟩
     refine aM a7<|Cq (bA eB)<|Cq (bQ M_)<|Cq (kc call283 (HH o.kind _))<|Cq wH<|Cq aA<|Nf (bA qR)<|Nf (bQ N_)<|Nf (kc oW (CY o.id _ p))<|Nf iI<|Cq sC<|Cq aA<|Nf (bA gA)<|Nf (bQ dF)<|Nf (kc call305 (CH o.tags _ t))<|Nf iI<|Cq sC<|Cq aA<|Nf (bA eA)<|Nf (bQ aG)<|Nf (fW aE)<|Nf (bA eB)<|Nf (bQ M_)<|Nf (kc call306 (ux o.kind _ (A4 hg10).1 (A4 hg10).2))<|Nf cJ<|Cq sC<|Cq aA<|Of<|Of<|Of<|Of<|Cq CS<|bG<|Kr ?_;exact⟨Z,⟨_,Z,by(simp only[vU,hg10,hg16,i,g];rfl)⟩,Z,Z,Z⟩
    refine aM a7<|Cq (bA eB)<|Cq (bQ M_)<|Cq (kc call283 (HH o.kind _))<|Cq wH<|Cq aA<|Nf (bA qR)<|Nf (bQ N_)<|Nf (kc oW (CY o.id _ p))<|Nf iI<|Cq sC<|Cq aA<|Nf (bA gA)<|Nf (bQ dF)<|Nf (kc call305 (CH o.tags _ t))<|Nf iI<|Cq sC<|Cq aA<|Of<|Of<|Of<|Of<|Of<|Of<|Of<|Cq CS<|Cq aA<|Of<|Of<|Of<|Of<|Cq cC<|bG<|Kr ?_;exact⟨Z,⟨_,Z,by(simp only[vU, *];rfl)⟩,Z,Z,Z⟩
   refine aM a7<|Cq (bA eB)<|Cq (bQ M_)<|Cq (kc call283 (HH o.kind _))<|Cq wH<|Cq aA<|Nf (bA qR)<|Nf (bQ N_)<|Nf (kc oW (CY o.id _ p))<|Nf iI<|Cq sC<|Cq aA<|Of<|Of<|Of<|Of<|Cq CS<|Cq aA<|Of<|Of<|Of<|Of<|Of<|Of<|Of<|Cq cC<|Cq aA<|Of<|Of<|Of<|Of<|Cq cC<|bG<|Kr ?_;exact⟨Z,⟨_,Z,by(simp only[vU, *];rfl)⟩,Z,Z,Z⟩
  refine aM a7<|Cq (bA eB)<|Cq (bQ M_)<|Cq (kc call283 (HH o.kind _))<|Cq wH<|Cq aA<|Of<|Of<|Of<|Of<|Cq CS<|Cq aA<|Of<|Of<|Of<|Of<|Cq cC<|Cq aA<|Of<|Of<|Of<|Of<|Of<|Of<|Of<|Cq cC<|Cq aA<|Of<|Of<|Of<|Of<|Cq cC<|bG<|Kr ?_;exact⟨Z,⟨_,Z,by(simp only[vU, *];rfl)⟩,Z,Z,Z⟩
 refine Cn ?_ ?_<;>intro l
 ·refine Sz aI<|aC<|Rt ?_;exact⟨by rw[oF,NX,<-hml,l];rfl,Z⟩
 refine aB<|O (uZ (id:=37) JD Z Z)<|Y (kl 3 aDl)<|Uu (jA sizeOf82)<|Zz<|O (kl 4 Pf)<|Uu (jA V_)<|Zz<|qj ([(1,.ref 1 0 0 0),(5,.clo 307 [.ref 1 0 0 0,.ref 4 0 0 0,.ref 3 0 0 0])]) (vH o a6 []) ?_ ?_
 ·refine Rd (gW Z Z)<|Da ?_;exact(cL.wk (Ea<|Ec (Ya _ _ _ _)<|T_) (Hc (OU _ _)<|Hb<|Ha<|Hb<|T_) T_)
 refine S<|O (bA eA)<|Y (bQ aG)<|Y aA<|V (kc call28 (AQ _ o.refs (uN o) (λk=>vH o (kN id o.refs k) (A9 o.refs k)) y (λk s q=>dH.clo call307 (by rw[uN,q,zY q];simp only[A9,q];exact Eo o _ s _ (w s (m8 q)))))) ?_;refine Cn ?_ ?_<;>intro n
 ·refine Sz aI<|aC<|Rt ?_;exact⟨by rw[oF,n];simp,Z⟩
 have f:oF o=SW o:=by have h:=l;rw[hml]at h;rw[oF,NX,h,n];rfl
 rw[f];clear f;generalize kN id o.refs (GT (uN o) o.refs.length)=la;generalize A9 o.refs (GT (uN o) o.refs.length)=LL;unfold vH;refine aB<|S<|O (bA eB)<|V (bQ M_)<|aD<|O cD<|Da<|Cn ?_ ?_<;>intro j
 ·refine S<|aQ (t:=2) (n:=11) (A_:=decide (((o.refs.map S_).length:Int)=0)&&ZR o.x o.y) ?_ ?_
  ·all_goals refine Y (bA eA)<|Y (bQ aG)<|Y (fW aE)<|Y cD<|Dm ?_<;>(refine Sp 51 (λv=>?_) λv=>?_)<;>(first|exact s_|refine M<|M<|M ?_|refine U (bA mK)<|U (by exact aW Z eD sizeOf104 Z Z Z Z (by simp only[Zl,bS,bP];rfl) Z)<|U (kc call308 (aEL o.x o.y _)) ?_)<;>refine Y cC<|Da ?_<;>exact Gj (h:=by simp_all)
  refine aC<|Rt ?_;exact⟨by rw[SW,b7 (b9 j),<-hml],Z⟩
 refine O cD<|Da<|Cn ?_ ?_<;>intro m
 ·refine S<|aQ (t:=2) (n:=12) (A_:=decide (((o.refs.map S_).length:Int)=3)&&(decide (o.x=0)&&decide (o.y=0))) ?_ ?_
  ·all_goals refine Y (bA eA)<|Y (bQ aG)<|Y (fW aE)<|Y cD<|Dm ?_<;>(refine Sp 62 (λu=>?_) λu=>?_)<;>(first|exact s_|refine M<|M<|M<|M ?_|refine U (bA mK)<|U (by exact aW Z eD sizeOf104 Z Z Z Z (by simp only[Zl,bS,bP];rfl) Z)<|U (oI KZ)<|U (BI Z Z Z Z Z mG (QT _ _ _ _)) ?_)<;>refine Y cC<|Da ?_<;>exact Gj (h:=by simp_all)
  refine aC<|Rt ?_;exact⟨by rw[SW,a8 (b_ j),b7 (b9 m),<-hml],Z⟩
 refine aB<|O (bA mK)<|Y (by exact aW Z eD sizeOf104 Z Z Z Z (by simp only[Zl,bS,bP];rfl) Z)<|Y (oI KZ)<|Y (BI Z Z Z Z Z mG (QT _ _ _ _))<|V aI<|aC<|Rt ?_;exact⟨by rw[SW,a8 (b_ j),a8 (b_ m)],Z⟩
section
def Yh(B:Nat)(l:List B_):Prop:=l.length<=B/\∀s,s∈l->s.size<=B
section
variable{B n:Nat}{ps:List PV}
theorem aAu(h:Sh Tryz.prog B (n+2) 22 ps):∃l,ps=[aL l]/\Yh B l:=by
 obtain ⟨l,rfl,b,e⟩:=Qr aE h (λr c=>by
  obtain ⟨s,rfl,d⟩:=Gf U_ c;exact⟨s,Z,d⟩)
 exact⟨l,Z,b,e⟩
end
section
variable{B n:Nat}{ps:List PV}
theorem aDE(h:Sh Tryz.prog B (n+1) 9 ps):∃s,ps=[.str s]/\s.size<=B:=by
 obtain ⟨k,rfl,hk⟩:=Gf U_ h
 simp_all
end
end
end Go.Proofs.YtopnleflllkbmaaGreatDoor
namespace Go.Proofs.YtopnleflllkbmaaGreatDoor
open Go.Proofs.Tryz
open Go.Abs Go.ChangeShapes Go.WideShapes Go.ChangeAt Go.RowKit
theorem own:ownKnob Tryz.prog.godebug=none:=rfl
theorem uz:laidOutB Tryz.prog=true:=by kernel_rfl
theorem kf{H}{l}(a:Rows.uptoSmall H l=true):Rows.uptoBulkAll l<=1048576:=b9 a
theorem Bm{H}{l r:List (DataW H)}{n}(h:Rows.uptoBulkAll (l++r)<=n):Rows.uptoBulkAll l<=n:=by
 induction l generalizing n with
 |nil=>simp[Rows.uptoBulkAll]
 |cons x l a =>
  simp[cons_append,Rows.uptoBulkAll]at h |-;have:=a (n:=n - Rows.uptoBulk x) X;omega
end Go.Proofs.YtopnleflllkbmaaGreatDoor
namespace Go.Abs
theorem cL.get'{G0}{E E'}{H H'}(h:Oh E E')(a:∀j,H'.get j=H.get j):cL G0 E H E' H':=(cL.e0 h).trans (cL.get (λ_=>rfl) a)
theorem wV(id)(o o')(H:aF)(j):aF.get ((id,o)::H) j=aF.get ((id,o)::(id,o')::H) j:=by cases e:Nat.beq id j<;>simp[aF.get,e]
theorem cL.dup{G0}{E E'}{H:aF}{id}{o o'}(h:Oh E E'):cL G0 E ((id,o)::(id,o')::H) E' ((id,o)::H):=cL.get' h (wV _ o _ H)
theorem OL.app{D H G0}(b:∀p∈D,G0.get p.1=none):OL G0 H (D++H):=λid a=>by
 rw[gH];cases e:D.get _ with
 |none=>rfl
 |some o =>
  have:=b _ (dY e);rw[this]at a;cases a
theorem Fin.pops'{G0 H}{r}(D)(c:Clo H r)(e:dG H)(b:∀p∈D,H.get p.1=none)(d:∀p∈D,G0.get p.1=none):Fin G0 (D++H) r H r:=by intro G a I g w v i h f;subst a;exact⟨I,g,i.restrict (Sub.app b) e,h.restrict (Sub.app b) (OL.app d),f.restrict (Sub.app b) c⟩
end Go.Abs
namespace Go.Abs
open Go.Proofs
theorem Rel.grown{I}{ι}{H}{w}(i)(g:Rel I ι H w):Rel I ι H (Sort.grow w i)/\Step I ι H w I ι H (Sort.grow w i):=by
 have k:∀b,b<w.heap.size->(Sort.grow w _).heap[b]?=w.heap[b]?:=λb f=>by
  show (w.heap++i)[b]?=_
  grind
 have e:Step I ι H w I ι H (Sort.grow w i):=by
  refine⟨Z,Z,Z,?_,λa ha _=>?_,λ_ h=>h,λ_ h=>.inl h,λ_ h=>.inl h,λb f _=>k b f,λ_ o h=>⟨o,h,g_ _,λ_=>⟨Z,Z,λ_=>g_ _⟩⟩⟩
  ·simp_all
  unfold World.frozen?
  simp_all
 refine⟨⟨λb f=>?_,λj o l=>?_,g.inj,e.glob g⟩,e⟩
 ·have:=g.imm b f
  grind
 exact(g.obj j o l).keep Z (λb c _ f=>⟨k b f,λh=>h⟩) (λr _ a _ v m=>m.mono g e)
def fE(l:List B_):List (List AV):=l.map λs=>[.pv (.str s)]
def sb(s:B_):List UInt8:=s.data.toList
def ofU(l:List UInt8):B_:=⟨l.toArray⟩
theorem uj(s):ofU (sb s)=s:=rfl
def jG(l:List B_):List B_:=((l.map sb).mergeSort λx y=>decide (x<=y)).map ofU
theorem kC(l):(jG l).length=l.length:=by simp[jG,length_mergeSort]
theorem Tt(l:List _):(l.map sb).map ofU=l:=by
 rw[map_map]
 conv=>rhs;rw[<-map_id l]
 rfl
theorem xN(l):(jG l).Perm l:=by have h:=(mergeSort_perm (l.map sb) (λx y=>decide (x<=y))).map ofU;rw[Tt]at h;exact h
theorem fl{w}{b}{cs}{t}{f}(h:w.heap[b]?=some (.cells cs t f))(d):(Sort.putRow Proofs.encStr w b 0 d)=w.setRow b (Sort.putCells Proofs.encStr 0 d cs):=by
 unfold Sort.putRow Sort.mapBlock World.setRow;congr 1;apply Array.ext_getElem?;intro k;simp[Array.getElem?_modify];by_cases e:b=k
 ·subst e;simp[h,Sort.onCells]
 grind
theorem Fq{P:Program}{ρ:Shelf.Ren}(Ly:SlLaysM.n6 P ρ)(c:List B_){id g n ty:Nat}{H:aF}(L:H.get id=some ⟨g,1,ty,fE c⟩)(hn:n=c.length)(hl:c.length<2^62):
  aU P (ρ.f 6) [.osl id g 0 n] H (λr H'=>r=.tup []/\H'=(id,⟨g,1,ty,fE (jG c)⟩)::H):=by
 subst hn;intro I y_ w vs c_ W hv;obtain ⟨v,rfl⟩:∃v,vs=#[v]:=by
  match vs,W with
  |⟨[v]⟩,_=>exact⟨v,Z⟩
 have h1:=hv 0 v _ Z Z;have ⟨_,t⟩:=jK h1 L Z;have h:∀r∈fE (jG c),r.length=1:=λr c_=>by
  obtain ⟨s,_,rfl⟩:=mem_map.1 c_;rfl
 have g1:aF.get ((id,⟨g,1,ty,fE (jG c)⟩)::H) id=some ⟨g,1,ty,fE (jG c)⟩:=by simp[aF.get,pI]
 have g2:∀j,j≠id->aF.get ((id,⟨g,1,ty,fE (jG c)⟩)::H) j=H.get j:=λj e_=>by simp[aF.get,jR (Ne.symm e_)]
 rcases t with⟨b,R,oo,Q,u_,c3⟩|⟨Q,u_,_,c4⟩
 ·have v_:oo=0:=X
  subst v_ u_;have G:=(c_.obj id _ L).cells (succ_pos 0);obtain ⟨p1,p2,⟨b',cap',o_,D,N,e3,e4,e5,e5',e6⟩|⟨D,_⟩⟩:=G
  ·rw [Q] at D;cases D;simp only [Nat.mul_one] at e4 e6;have d_:(fE c).length=c.length:=by simp [fE]
   simp only[d_]at e5;have A_:∀(i:Nat) (s:B_),c[i]?=some s->o_[i]?=some (.string s):=λi s E=>by
    have ⟨u,q1,q2,q3⟩:=e6 i [.pv (.str s)] (by rw[fE,r7,E];rfl) 0 _ Z;rw[q3.str_inv]at q1;exact q1
   have m:Sort.Holds Proofs.encStr w b 0 (c.map sb).toArray:=by
    intro j e_;simp only[size_toArray,j6]at e_;refine⟨?_,?_⟩
    ·have:=A_ j _ (m_ e_);rw[r9];simp only[World.cell?,N,this];congr 1;rw[getElem!_pos _ _ G_];simp only[getElem_toArray,getElem_map];show some (Value.string c[j])=some (Value.string (ofU (sb c[j])));rfl
    simp[World.frozen?,N]
   have q:=AnyM.slices_Sort_string Ly b 0 (R - 0) (c.map sb) w m (Array.getElem?_eq_some_iff.1 N).1 G_;rw[j6]at q;refine q.mono ?_;rintro e w' ⟨rfl,n,os,rfl⟩;have ⟨T,f_⟩:=Rel.drawn (w':=Sort.ahead w n) c_ Z Z Z Z;have B:(Sort.ahead w n).heap[b]?=some (.cells o_ ty (0,0)):=N;rw[fl B];have ⟨m1,m2⟩:=Rel.update (H':=(id,⟨g,1,ty,fE (jG c)⟩)::H) (ob':=⟨g,1,ty,fE (jG c)⟩) (cs':=Sort.putCells Proofs.encStr 0 ((c.map sb).mergeSort λx y=>decide (x<=y)).toArray o_) T L Q B (g_ _) Z Z
    (λ_=>by simp[fE,kC]) (by rw[Sort.putCells];simp;omega) (by simp only[fE,j6,kC];omega) h (λi r z_ k a hk=>by
     rw[fE,r7]at z_;obtain ⟨s,E,rfl⟩:=Option.map_eq_some_iff.1 z_;cases k with
     |succ k=>simp at hk
     |zero =>
      cases hk;have z:=(m9.1 E).1;rw[kC]at z;have A:i<o_.size:=X
      refine⟨.string s,?_,Z,.pv (.str s)⟩;rw[Nat.mul_one,Nat.add_zero,Sort.putCells,Array.getElem?_mapIdx,Array.getElem?_eq_getElem A,Option.map_some];have K:i<((c.map sb).mergeSort λx y=>decide (x<=y)).length:=by rw[length_mergeSort,j6];exact z
      rw[b7 ⟨l7 _,by simpa using K⟩];congr 1;rw[Nat.sub_zero,getElem!_pos _ _ (by simpa using K)];rw[jG,r7]at E;obtain ⟨u,hu,rfl⟩:=Option.map_eq_some_iff.1 E;simp only[getElem_toArray];rw[(m9.1 hu).2];rfl) g1 g2
   have ⟨n1,n2⟩:=Rel.grown os m1;exact⟨_,_,I,y_,.tuple #[],Z,⟨Z,Z⟩,.tup Z H_,n1,(f_.trans m2).trans n2⟩
  rw[Q]at D;cases D
 subst u_;have h0:c=[]:=eq_nil_of_length_eq_zero c4;subst h0;refine(AnyM.slices_Sort_string_none Ly none 0 w).mono ?_;rintro e w' ⟨rfl,rfl⟩;have hg:∀j,aF.get ((id,⟨g,1,ty,fE (jG [])⟩)::H) j=H.get j:=λj=>by
  by_cases e:j=id
  ·subst e;rw[g1,L,show jG []=[]by simp[jG]]
  exact g2 j e
 have ⟨T,f_⟩:=c_.congr hg;exact⟨_,_,I,y_,.tuple #[],Z,⟨Z,Z⟩,.tup Z H_,T,f_⟩
def aT(n:Int):B_:=⟨(Lib.itoa n).toArray⟩
theorem itoa_c{P}{ρ}(L:LaysM.n171 P ρ){G}(A:(G,GV.ints .u64 Lib.pow10Tab)∈ft)(q:P.globalNamed "internal/strconv.uint64pow10" = some G)(n)(j : -9223372036854775808<=n)(s:n<=9223372036854775807)(H):
  aU P (ρ.f 171) [.pv (.int .i64 n)] H (λr H'=>r=.pv (.str (aT n))/\H'=H):=by
 intro I m w h g d z;obtain ⟨v,rfl⟩:∃v,h=#[v]:=by
  match h,d with
  |⟨[v]⟩,_=>exact⟨v,Z⟩
 have x:=(z 0 v _ Z Z).int_inv;subst x;have b:Lib.TabIs P w "internal/strconv.uint64pow10" .u64 Lib.pow10Tab:=by
  have ⟨_,cs,t,f,i,y⟩:=g.glob _ A;have c:=y;subst c;simp[Lib.TabIs,World.var?,q,Option.bind_some,i]
 refine(Any.strconv_Itoa L n j s w b).mono ?_;rintro e w' ⟨rfl,k,os,rfl⟩;obtain ⟨o,p⟩:=Rel.drawn (w':=w.drewN k) g Z Z Z Z;obtain ⟨l,u⟩:=Rel.grown _ o;exact⟨_,_,I,m,_,Z,⟨Z,Z⟩,.pv (.str _),l,p.trans u⟩
theorem mul64_c{P}{ρ}(L:Lays.n264 P ρ)(x y:Nat)(k:x<18446744073709551616)(m:y<18446744073709551616)(H):
  aU P (ρ.f 264) [.pv (.int .u64 x),.pv (.int .u64 y)] H (λr H'=>r=.tup [.pv (.int .u64 ((x*y / 18446744073709551616:Nat))),.pv (.int .u64 ((x*y % 18446744073709551616:Nat)))]/\H'=H):=by
 intro I o w h l f g;obtain ⟨v,u,rfl⟩:∃v u,h=#[v,u]:=by
  match h,f with
  |⟨[v,u]⟩,_=>exact⟨v,u,Z⟩
 have j:=(g 0 v _ Z Z).int_inv;have n:=(g 1 u _ Z Z).int_inv;subst j n;refine(Any.bits_Mul64 L x y k m w).mono ?_;rintro e w' ⟨rfl,rfl⟩;refine⟨_,_,I,o,_,Z,⟨Z,Z⟩,.tup Z λi v a c d=>?_,l,Step.refl _ _ _ _⟩
 match i,c,d with
 |0,c,d=>cases c;cases d;exact .pv (.int _ _)
 |1,c,d=>cases c;cases d;exact .pv (.int _ _)
 |i+2,c,d=>simp at c
end Go.Abs
section
namespace Go.Proofs
open Go.RowKit Go.Sort Go.Shelf
def aFV:Go.Shelf.Ren:=⟨λ|171=>79|243=>134|246=>192|283=>240|284=>241|285=>242|286=>243|129=>190|317=>271|318=>272|319=>273|320=>274|337=>298|338=>299|n=>n,λ|3=>3|9=>9|2=>2|4=>4|171=>249|0=>0|53=>169|37=>159|5=>5|173=>251|212=>286|51=>213|20=>20|213=>287|46=>157|232=>317|233=>318|n=>n,λ|17=>2|18=>6|19=>7|n=>n⟩
theorem aF1:Go.Proofs.LaysM.n171 Tryz.prog aFV:={
  mixed:=by rfl
  f129:=Tryz.func190.trans C_
  f171:=Tryz.func79.trans C_
  f243:=Tryz.func134.trans C_
  f246:=Tryz.func192.trans C_
  f283:=Tryz.func240.trans C_
  f284:=Tryz.func241.trans C_
  f285:=Tryz.func242.trans C_
  f286:=Tryz.func243.trans C_
  f317:=Tryz.func271.trans C_
  f318:=Tryz.func272.trans C_
  f319:=Tryz.func273.trans C_
  f320:=Tryz.func274.trans C_
  f337:=Tryz.func298.trans C_
  f338:=Tryz.func299.trans C_
  t0:=DP
  a0:=Tryz.isAgg0
  z0:=Tryz.sizeOf0
  v0:=Tryz.zeroValue0
  t2:=Tryz.underlying2
  a2:=Tryz.isAgg2
  z2:=Tryz.sizeOf2
  v2:=Tryz.zeroValue2
  t3:=Tryz.underlying3
  a3:=Tryz.isAgg3
  z3:=Tryz.sizeOf3
  v3:=sH
  t4:=eH
  a4:=nA
  z4:=Tryz.sizeOf4
  v4:=iU
  t5:=cZ
  a5:=uM
  z5:=cM
  v5:=sF
  t9:=Tryz.underlying9
  a9:=Tryz.isAgg9
  z9:=Tryz.sizeOf9
  v9:=gQ
  t20:=Tryz.underlying20
  a20:=vM
  z20:=Tryz.sizeOf20
  v20:=Tryz.zeroValue20
  t37:=dD
  a37:=eC
  z37:=qF
  v37:=Tryz.zeroValue159
  t46:=kZ
  a46:=Tryz.isAgg157
  z46:=AU
  v46:=tH
  t51:=Tryz.underlying213
  a51:=Tryz.isAgg213
  z51:=Tryz.sizeOf213
  v51:=Tryz.zeroValue213
  t53:=gL
  a53:=xC
  z53:=uL
  v53:=tG
  t171:=Tryz.underlying249
  a171:=Tryz.isAgg249
  z171:=Tryz.sizeOf249
  v171:=Tryz.zeroValue249
  t173:=Tryz.underlying251
  a173:=Tryz.isAgg251
  z173:=Tryz.sizeOf251
  v173:=Tryz.zeroValue251
  t212:=Tryz.underlying286
  a212:=Tryz.isAgg286
  z212:=Tryz.sizeOf286
  v212:=Tryz.zeroValue286
  t213:=Tryz.underlying287
  a213:=Tryz.isAgg287
  z213:=Tryz.sizeOf287
  t232:=Tryz.underlying317
  a232:=Tryz.isAgg317
  z232:=Tryz.sizeOf317
  v232:=Tryz.zeroValue317
  t233:=Tryz.underlying318
  a233:=Tryz.isAgg318
  z233:=Tryz.sizeOf318
  v233:=Tryz.zeroValue318
  g17:=by kernel_rfl
  g18:=by kernel_rfl
  g19:=by kernel_rfl
  i0:=by rfl
  i2:=by rfl
  i3:=by rfl
  i4:=by rfl
  i5:=by rfl
  i9:=by rfl
  i20:=by rfl
  i37:=by rfl
  i46:=by rfl
  i51:=by rfl
  i53:=by rfl
  i171:=by rfl
  i173:=by rfl
  i212:=by rfl
  i232:=by rfl
  i233:=by rfl
  m17:=by kernel_rfl
  m18:=by kernel_rfl
  m19:=by kernel_rfl}
end Go.Proofs
namespace Go.Proofs.YtopnleflllkbmaaGreatDoor
open Go.Proofs.Tryz
open Go.Abs
theorem pQ(n)(c : -9223372036854775808<=n)(b:n<=9223372036854775807)(H):RC 79 [iv n] (sv (aT n)) H :=Go.Abs.itoa_c aF1 (.head _) (Z) n c b H
end Go.Proofs.YtopnleflllkbmaaGreatDoor
end
namespace Go.Abs
variable{d id g n:Nat}{T e f_:TypeId}
section
section
variable{P:Program}{G0:aF}{N:Nat}{E:cY}{H:aF}{ops:Array Oper}{K:cY->aF->Prop}{o:Oper}{rest:List Oper}
def ALx(P:Program)(G0:aF)(N:Nat)(ops:Array Oper)(K:cY->aF->Prop)(l:List Oper)(E:cY)(H:aF)(d:Nat)(F:lQ->Value->Prop):Prop :=∀G:Entry,G.H=G0->∀(a:Act) (w:World) (I:Nat->Prop) (ι:lQ),tU G.ds G.w w a.defers->a.tmps.size=N->Rel I ι H w->Step G.I G.ι G.H G.w I ι H w->lJ w I ι H E a->(∃c,a.tmps[d]?=some c/\F ι c) ->
  ∀ro,(ro=none\/l.all Oper.noDefer=true)->∀Q:Exit->Act->World->Prop,(∀E H a w,K E H->St G N E H a w->Q .normal a w)->wpListIn (RF ro) 0 P ops Q l a w
def aBK(id n:Nat)(ι:lQ)(c:Value):Prop:=∃b cap,ι id=some (b,cap)/\c=.slice (some ⟨b,0,none⟩) n n
theorem JS(a:Act)(d:Nat)(c):(a.put (some d) c).tmps.size=a.tmps.size:=by simp[Act.put]
theorem Ie(a:Act){d}(c)(h:d<a.tmps.size):(a.put (some d) c).tmps[d]?=some c:=by simp[Act.put,h]
theorem za(a:Act){b:Nat}(c)(h:b≠d):(a.put (some b) c).tmps[d]?=a.tmps[d]?:=by simp[Act.put,h]
theorem K5{p:Operand}{ob:Ob}(l:o.guard=none)(hd:o.dst=some d)(j:Nat.blt d N=true)(t:o.op=.slice T p none none none)(d_:P.underlying T=some (.array n e))(y:∀w,(sizeOf e).run P w=.ok 1 w)
  (z:aO E p=some (.ref id g 0 0)) (x:H.get id=some ob) (L:ob.g=g) (B:ALx P G0 N ops K rest ((d,.any)::E) H d (aBK id n)):AL P G0 N ops K (o::rest) E H:=by
 intro G u a w f e_ h Q v;refine wpListIn_plain l λo_ F=>?_;refine Oper.wpW_in (nJ h).1 ?_;have ⟨I,c_,r,m,s⟩:=f.rel;have ⟨b,q,A,D⟩:=pN (aJ s z) x L;have hdn:d<N:=F_
 have i:(execOp a.eval o).run P w=.ok (.value (.slice (some ⟨b,0,none⟩) n n)) w:=by
  simp only[execOp,t,D,Option.map_none];simp[Instr.sliceAt,run_underlying d_,Instr.sureAddr,Instr.sliceBounds,y,Addr.add_lit]
 unfold Oper.wpW;rw[i];show o_ (a.put o.dst _) w;rw[hd];exact F _ _ (B G u _ w I c_ (by exact f.defers) (by rw[JS];exact f.size) r m (lJ.put (d:=some d) r (Step.refl _ _ _ _) s (.any _) (by rw[f.size];exact j)) ⟨_,Ie a _ (by rw[f.size];omega),b,q,A,Z⟩ e_ (nJ h).2 Q v)
theorem Nh{f:Nat}{F}{x}{v}(i:o.guard=none)(hd:o.dst=some f)(h:Nat.blt f N=true)(g:f≠d)(q:o.op=.move x)(r:aO E x=some v)(z:ALx P G0 N ops K rest ((f,v)::E) H d F):ALx P G0 N ops K (o::rest) E H d F:=by
 intro G s a w I B p j m k l ⟨c,u,y⟩ d_ b Q t;refine wpListIn_plain i λn A=>?_;refine Oper.wpW_in (nJ b).1 ?_;have e:(execOp a.eval o).run P w=.ok (.value (a.eval x)) w:=by simp[execOp,q]
 unfold Oper.wpW;rw[e];show n _ w;rw[hd];exact A _ _ (z G s _ w I B (by exact p) (by rw[JS];omega) m k (lJ.put (d:=some f) m (Step.refl _ _ _ _) l (aJ l r) (by rw[j];exact h)) ⟨c,by rw[za a _ g];exact u,y⟩ d_ (nJ b).2 Q t)
def mD(s:List UInt8):List AV:=s.map λb=>.pv (.int .u8 b.toNat)
theorem yQ(s):(mD s).length=s.length:=j6 _
theorem Z5{D:TypeId}{y:Operand}{e_ m T:Nat}{cells:List AV}{s:B_}(A_:o.guard=none)(hd:o.dst=some e_)(z_:Nat.blt e_ N=true)(ho:o.op=.call {callee:=.builtin .copy,args:=#[.tmp d,y],argTypes:=#[D,f_]})(hD:P.underlying D=some (.slice e))(hs:∀w,(sizeOf e).run P w=.ok 1 w)
  (hH:H.get id=some ⟨g,n,T,[cells]⟩) (y_:0<n) (hy:aO E y=some (.pv (.str s))) (hm:min s.size n=m)
  (hk:AL P G0 N ops K rest ((e_,.pv (.int .i64 m))::E) ((id,⟨g,n,T,[mD (s.data.toList.take m)++cells.drop m]⟩)::H)):ALx P G0 N ops K (o::rest) E H d (aBK id n):=by
 intro G hG a w I ι o_ c_ L hs' he ⟨c,hc,b,cap,t,R⟩ ro A Q hq;refine wpListIn_plain A_ λK' hK=>?_;refine Oper.wpW_in (nJ A).1 ?_;have e2y:=(aJ he hy).str_inv;have e1:a.eval (.tmp d)=.slice (some ⟨b,0,none⟩) n n:=by simp[Act.eval,hc,R]
 obtain ⟨p1,p2,⟨b',cap',u_,d_,f2,f3,f4,f5,f5',f6⟩|⟨d_,_⟩⟩:=(L.obj id _ hH).cells y_
 rotate_left
 ·rw[t]at d_;cases d_
 rw[t]at d_;cases d_;have B:cells.length=n:=p2 cells H_;have hms:m<=s.size:=X
 have hmn:m<=n:=X
 simp only[length_singleton]at f5;have hcs:n<=u_.size:=by rw[f4];exact Nat.le_mul_of_pos_left _ X
 have f:min m s.data.size=m:=by have:s.data.size=s.size:=rfl;omega
 have l:((s.extract 0 m).data.map λb=>Value.int .u8 b.toNat).toList=(s.data.toList.take m).map λb=>Value.int .u8 b.toNat:=H_
 have p:=run_storeCells_at P b 0 T ((s.data.toList.take m).map λb=>Value.int .u8 b.toNat) 0 u_ w f2 G_ (by intro v hv;obtain ⟨b,_,rfl⟩:=mem_map.1 hv;rfl);simp only[Nat.add_zero,r9,take_zero,nil_append,j6,q9,Array.length_toList]at p;rw[f]at p;have W:(mD (s.data.toList.take m)++cells.drop m).length=n:=by
  rw[j_,yQ,q9,q6,Array.length_toList,f,B];omega
 have ⟨k2,v_⟩:=Rel.update (H':=(id,⟨g,n,T,[mD (s.data.toList.take m)++cells.drop m]⟩)::H) (ob':=⟨g,n,T,[mD (s.data.toList.take m)++cells.drop m]⟩)
  (cs' := ((s.data.toList.take m).map (λb => Value.int .u8 b.toNat) ++ u_.toList.drop m).toArray) L hH t f2 (g_ _) Z Z (λ_ => g_ _) (by
   grind) (by simpa using f5) (by intro r z;rw[r6]at z;subst z;exact W) (λi r hi k a' h=>by
    cases i with
    |succ i=>simp at hi
    | zero =>
     simp only[getElem?_cons_zero,Option.some.injEq]at hi;subst hi;rw[Nat.zero_mul,r9];simp only[getElem?_toArray];by_cases ck:k<m
     ·rw[getElem?_append_left (by rw[yQ,q9,Array.length_toList,f];exact ck),mD,r7]at h;rw[getElem?_append_left (by rw[j6,q9,Array.length_toList,f];exact ck),r7];cases e:(s.data.toList.take m)[k]? with
      |none=>rw[e]at h;cases h
      |some q =>
       rw[e]at h;cases h;exact⟨.int .u8 q.toNat,Z,Z,.pv (.int _ _)⟩
     rw[getElem?_append_right (by rw[yQ,q9,Array.length_toList,f];omega),yQ,q9,Array.length_toList,f,getElem?_drop,show m+(k - m)=k by omega]at h;have ⟨u,q1,q2,q3⟩:=f6 0 cells Z k a' h;rw[Nat.zero_mul,r9]at q1;refine⟨u,?_,q2,q3⟩;rw[getElem?_append_right (by rw[j6,q9,Array.length_toList,f];omega),j6,q9,Array.length_toList,f,getElem?_drop,show m+(k - m)=k by omega]
     simpa using q1) (get_cons_same _ _ _) (λj hj=>get_cons_other _ _ hj)
 have F:Nat.min s.size n=m:=hm;unfold Oper.wpW execOp;simp only[ho,resolve,invoke,builtin,Sem.run_bind,Sem.run_pure,Result.andThen_ok,map_toArray,map_cons,map_nil,e1,e2y,Builtin.copy_,run_underlying hD,hs];simp only[getElem?_toArray,getElem?_cons_zero,getElem?_cons_succ,run_underlying hD,Builtin.lenOf,Builtin.firstCells,Sem.run_bind,Sem.run_pure,Result.andThen_ok,hs,F,l,p];show K' (a.put o.dst _) _;rw[hd];refine hK _ _ (hk G hG _ _ ⟨?_,?_,I,ι,k2,hs'.trans v_,lJ.put (d:=some e_) L v_ he (.pv (.int _ _)) (by rw[c_];exact z_)⟩ ro (nJ A).2 Q hq)
 ·rw[mA];exact o_.step L v_
 rw[JS];exact c_
theorem Vx{s A:Nat}{bs:List UInt8}{r:B_}(t:o.guard=none)(hd:o.dst=some s)(c_:Nat.blt s N=true)(ho:o.op=.convert f_ T (.tmp d))(hS:P.underlying f_=some (.slice e))(e_:P.underlying e=some (.int .u8))(hT:P.underlying T=some .string)
  (u_:H.get id=some ⟨g,n,A,[mD bs]⟩) (B:0<n) (z:(⟨bs.toArray⟩:B_)=r) (hk:AL P G0 N ops K rest ((s,.pv (.str r))::E) H):ALx P G0 N ops K (o::rest) E H d (aBK id n):=by
 intro G z_ a w I A_ d_ p y F he ⟨c,hc,b,cap,i,D⟩ ro l Q W;refine wpListIn_plain t λK' v_=>?_;refine Oper.wpW_in (nJ l).1 ?_;have e1:a.eval (.tmp d)=.slice (some ⟨b,0,none⟩) n n:=by simp[Act.eval,hc,D]
 obtain ⟨p1,p2,⟨b',cap',cs,m,f2,f3,f4,f5,f5',y_⟩|⟨m,_⟩⟩:=(y.obj id _ u_).cells B
 rotate_left
 ·rw[i]at m;cases m
 rw[i]at m;cases m;have h:bs.length=n:=by rw[<-yQ bs];simp_all
 subst z;have hl:(loadCells ⟨b,0,none⟩ n).run P w=.ok ((bs.map λb=>(b.toNat:Int)).map (Value.int .u8)).toArray w:=by
  have h0:=run_loadCells_list (P:=P) w ⟨b,0,none⟩ ((bs.map λb=>(b.toNat:Int)).map (Value.int .u8)) (λj v R=>by
   rw[map_map,r7]at R;obtain ⟨q,L,rfl⟩:=Option.map_eq_some_iff.1 R;rw[Addr.add_lit,r9,cell_of_row w b _ cs _ (0,0) f2];have ⟨u,o_,q2,q3⟩:=y_ 0 (mD bs) Z j (.pv (.int .u8 q.toNat)) (by rw[mD,r7,L];rfl);rw[Nat.zero_mul,r9]at o_;rw[o_,q3.int_inv];rfl)
  rwa [j6,j6,h]at h0
 have k:(execOp a.eval o).run P w=.ok (.value (.string ⟨bs.toArray⟩)) w:=by
  simp only[execOp,ho,e1,Sem.run_bind];rw[run_convert_bytes_string w f_ T e _ _ n hS e_ hT,run_bytesToString w _ _ n _ hl,foldl_push_bytes];have e3:(bs.map λb=>(b.toNat:Int)).map (λn=>UInt8.ofNat n.toNat)=bs:=by
   rw[map_map]
   conv=>rhs;rw[<-map_id bs]
   refine map_congr_left λb _=>?_;simp
  rw[e3];simp[ByteArray.empty,ByteArray.emptyWithCapacity];rfl
 unfold Oper.wpW;rw[k];show K' (a.put o.dst _) w;rw[hd];exact v_ _ _ (hk G z_ _ w ⟨by rw[mA];exact d_,by rw[JS];exact p,I,A_,y,F,lJ.put (d:=some s) y (Step.refl _ _ _ _) he (.pv (.str _)) (by rw[p];exact c_)⟩ ro (nJ l).2 Q W)
end
end
end Go.Abs
section
namespace Go.Proofs
open Go.RowKit Go.Sort Go.Shelf
def aFS:Go.Shelf.Ren:=⟨λ|6=>76|8=>131|9=>130|19=>189|20=>190|21=>180|22=>181|23=>182|24=>183|25=>184|26=>185|27=>186|28=>187|29=>188|36=>233|31=>234|32=>235|37=>236|38=>237|39=>238|41=>270|n=>n,λ|27=>22|29=>9|3=>3|32=>157|26=>22|0=>0|44=>213|46=>169|4=>4|36=>207|35=>206|41=>166|5=>5|9=>9|53=>241|57=>245|63=>282|64=>283|n=>n,λ|n=>n⟩
theorem aFZ:Go.Proofs.SlLaysM.n6 Tryz.prog aFS:={
  mixed:=by kernel_rfl
  f6:=⟨Tryz.f76.name,E_,Tryz.func76.trans D_⟩
  f8:=Tryz.func131.trans D_
  f9:=⟨Tryz.f130.name,E_,Tryz.func130.trans D_⟩
  f19:=Tryz.func189.trans D_
  f20:=Tryz.func190.trans D_
  f21:=⟨Tryz.f180.name,E_,Tryz.func180.trans D_⟩
  f22:=⟨Tryz.f181.name,E_,Tryz.func181.trans D_⟩
  f23:=⟨Tryz.f182.name,E_,Tryz.func182.trans D_⟩
  f24:=⟨Tryz.f183.name,E_,Tryz.func183.trans D_⟩
  f25:=⟨Tryz.f184.name,E_,Tryz.func184.trans D_⟩
  f26:=⟨Tryz.f185.name,E_,Tryz.func185.trans D_⟩
  f27:=⟨Tryz.f186.name,E_,Tryz.func186.trans D_⟩
  f28:=⟨Tryz.f187.name,E_,Tryz.func187.trans D_⟩
  f29:=⟨Tryz.f188.name,E_,Tryz.func188.trans D_⟩
  f31:=Tryz.func234.trans D_
  f32:=Tryz.func235.trans D_
  f36:=⟨Tryz.f233.name,E_,Tryz.func233.trans D_⟩
  f37:=⟨Tryz.f236.name,E_,Tryz.func236.trans D_⟩
  f38:=⟨Tryz.f237.name,E_,Tryz.func237.trans D_⟩
  f39:=⟨Tryz.f238.name,E_,Tryz.func238.trans D_⟩
  f41:=⟨Tryz.f270.name,E_,Tryz.func270.trans D_⟩
  t0:=DP
  a0:=Tryz.isAgg0
  z0:=Tryz.sizeOf0
  v0:=Tryz.zeroValue0
  t3:=Tryz.underlying3
  a3:=Tryz.isAgg3
  z3:=Tryz.sizeOf3
  v3:=sH
  t4:=eH
  a4:=nA
  z4:=Tryz.sizeOf4
  v4:=iU
  t5:=cZ
  a5:=uM
  z5:=cM
  v5:=sF
  t9:=Tryz.underlying9
  a9:=Tryz.isAgg9
  z9:=Tryz.sizeOf9
  v9:=gQ
  t26:=aE
  a26:=aG
  z26:=Tryz.sizeOf22
  v26:=vL
  t27:=aE
  a27:=aG
  z27:=Tryz.sizeOf22
  v27:=vL
  t29:=Tryz.underlying9
  a29:=Tryz.isAgg9
  z29:=Tryz.sizeOf9
  v29:=gQ
  t32:=kZ
  a32:=Tryz.isAgg157
  z32:=AU
  v32:=tH
  t35:=Tryz.underlying206
  a35:=Tryz.isAgg206
  z35:=Tryz.sizeOf206
  v35:=Tryz.zeroValue206
  t36:=Tryz.underlying207
  a36:=Tryz.isAgg207
  z36:=Tryz.sizeOf207
  v36:=Tryz.zeroValue207
  t41:=Tryz.underlying166
  a41:=Tryz.isAgg166
  z41:=Tryz.sizeOf166
  v41:=Tryz.zeroValue166
  t44:=Tryz.underlying213
  a44:=Tryz.isAgg213
  z44:=Tryz.sizeOf213
  v44:=Tryz.zeroValue213
  t46:=gL
  a46:=xC
  z46:=uL
  v46:=tG
  t53:=Tryz.underlying241
  a53:=Tryz.isAgg241
  z53:=Tryz.sizeOf241
  v53:=Tryz.zeroValue241
  t57:=Tryz.underlying245
  a57:=Tryz.isAgg245
  z57:=Tryz.sizeOf245
  v57:=Tryz.zeroValue245
  t63:=Tryz.underlying282
  a63:=Tryz.isAgg282
  z63:=Tryz.sizeOf282
  v63:=Tryz.zeroValue282
  t64:=Tryz.underlying283
  a64:=Tryz.isAgg283
  z64:=Tryz.sizeOf283
  v64:=Tryz.zeroValue283}
end Go.Proofs
namespace Go.Proofs.YtopnleflllkbmaaGreatDoor
open Go.Proofs.Tryz
open Go.Abs
theorem xz(ss:List B_){id g n ty:Nat}{H:aF}(hH:H.get id=some ⟨g,1,ty,fE ss⟩)(hn:n=ss.length)(hl:ss.length<2^62):
  aU Tryz.prog 76 [.osl id g 0 n] H (λr H'=>r=.tup []/\H'=(id,⟨g,1,ty,fE (jG ss)⟩)::H):=Fq aFZ ss hH hn hl
def pick(L:List B_)(seen:List Nat):List B_:=seen.map λi=>(L[i]?).getD ⟨#[]⟩
theorem NJ(a b:List UInt8):decide (a<=b)||decide (b<=a):=by all_goals grind
theorem Ft{a b}(h:a.Perm b):jG a=jG b:=by
 unfold jG;congr 1;have d:∀l:List _,((l.map sb).mergeSort _).Pairwise _:=λl =>
  pairwise_mergeSort (le:=λx y=>decide (x<=y)) (λa b c e i=>decide_eq_true (List.le_trans (b9 e) (b9 i))) NJ _
 exact List.Perm.eq_of_pairwise (λx y _ _ f g=>List.le_antisymm (b9 f) (b9 g)) (d a) (d b) (((mergeSort_perm _ _).trans (h.map _)).trans (mergeSort_perm _ _).symm)
end Go.Proofs.YtopnleflllkbmaaGreatDoor
end
section
namespace Go.Proofs
open Go.RowKit Go.Sort Go.Shelf
def aFU:Go.Shelf.Ren:=⟨λ|264=>213|n=>n,λ|53=>169|46=>157|n=>n,λ|n=>n⟩
theorem aF0:Go.Proofs.Lays.n264 Tryz.prog aFU:={
  mixed:=rfl
  f264:=Tryz.func213.trans (congrArg _ (Z))
  t46:=kZ
  a46:=Tryz.isAgg157
  z46:=AU
  v46:=tH
  t53:=gL
  a53:=xC
  z53:=uL
  v53:=tG}
end Go.Proofs
namespace Go.Proofs.YtopnleflllkbmaaGreatDoor
open Go.Proofs.Tryz
open Go.Abs
abbrev uv(n:Nat):AV:=.pv (.int .u64 (n:Int))
theorem el(x y)(c:x<18446744073709551616)(b:y<18446744073709551616)(H):RC 213 [uv x,uv y] (.tup [uv (x*y / 18446744073709551616),uv (x*y % 18446744073709551616)]) H :=Go.Abs.mul64_c aF0 x y c b H
theorem Ge(a k){m:Int}(h:m.toNat=k):a / 2 ^ m.toNat=((a / 2 ^ k:Nat):Int):=F_
def Ac(x:Nat):Nat:=x*2862933555777941757 % 18446744073709551616
def aAQ(x:Nat):Nat:=Ac x ^^^ (Ac x / 2 ^ 32)
def Ab(x:Nat):Nat:=aAQ x*3935559000370003845 % 18446744073709551616
def OD(x:Nat):Nat:=Ab x ^^^ (Ab x / 2 ^ 29)
theorem F9(x):Ac x<18446744073709551616:=mod_lt _ H_
theorem F8(x):Ab x<18446744073709551616:=mod_lt _ H_
theorem yL{x}(k)(h:x<18446744073709551616):x / 2 ^ k<18446744073709551616:=Nat.lt_of_le_of_lt (div_le_self _ _) h
theorem D7{x y}(h:x<18446744073709551616)(a:y<18446744073709551616):x ^^^ y<18446744073709551616:=xor_lt_two_pow (n:=64) h a
theorem Tr(x):aAQ x<18446744073709551616:=D7 (F9 x) (yL _ (F9 x))
theorem ZF(x):OD x<18446744073709551616:=D7 (F8 x) (yL _ (F8 x))
theorem aCn(x:Nat)(b:x<18446744073709551616)(H:aF):RC 158 [uv x] (uv (OD x)) H:=by refine Pu ?_;exact Bd func158 Z ntmps158<|Sz aI<|O aA<|Y (bH Z Z call213 Z (el x _ b E_ _))<|Y aA<|Y dK<|Y dK<|V aI<|O aA<|Y aA<|Y (F2 Z Z Z E_ E_ (Ge (Ac x) 32 Z))<|Y (pE Z H_ Z Z (bits_xor_u64_nat (Ac x) _ (F9 x) (yL 32 (F9 x))))<|V aI<|O aA<|Y (bH Z Z call213 Z (el (aAQ x) _ (Tr x) E_ _))<|Y aA<|Y dK<|Y dK<|V aI<|O aA<|Y aA<|Y (F2 Z Z Z E_ E_ (Ge (Ab x) 29 Z))<|Y (pE Z H_ Z Z (bits_xor_u64_nat (Ab x) _ (F8 x) (yL 29 (F8 x))))<|V aI<|aC<|Rt<|Qq
def wU(n:Nat):Int:=if n<10 then 48+(n:Int)else 87+(n:Int)
def lM(i:Nat):List AV:=(List.range 16).map λj=>.pv (.int .u8 (if j<i then wU j else 0))
theorem DG(i):(lM i).length=16:=rfl
theorem IN{i j}(h:j<16):(lM i)[j]?=some (.pv (.int .u8 (if j<i then wU j else 0))):=by rw[lM,r7,getElem?_range h];rfl
theorem TD{i}(h:i<16):(lM i).set i (.pv (.int .u8 (wU i)))=lM (i+1):=by
 apply ext_getElem?;intro j;by_cases a:j<16
 ·rw[IN a];by_cases e:i=j
  ·subst e;rw[getElem?_set_self (h),b7 (lt_succ_self _)]
  rw[getElem?_set_ne e,IN a]
  grind
 rw[getElem?_eq_none (by rw[length_set,DG];omega),getElem?_eq_none (by rw[DG];omega)]
theorem pz{i}(h:i<16)(x){y}(a:y=.pv (.int .u8 (wU i))):((lM i).set i x).set i y=lM (i+1):=by rw[set_set,a,TD h]
theorem uG{H}{n T i}:∀r∈(bx n T (lM i)).rows,∀a∈r,Clo H a:=by intro r b a c;rw[r6]at b;subst b;obtain ⟨j,_,rfl⟩:=mem_map.1 c;exact .pv _
instance{H}{n T i}:W_ (H) ((bx n T (lM i)).rows):=⟨uG ⟩
theorem qa{H}{i}:∀a∈lM i,Clo H a:=by intro a b;obtain ⟨j,_,rfl⟩:=mem_map.1 b;exact .pv _
theorem we:((lM 16).drop 0).take 16=lM 16:=rfl
theorem Lr(H:aF):RC 159 [] (.agg (lM 16)) H:=by
 refine Pu<|Bd func159 Z ntmps159<|Sz (kl 0 qx)<|Sz (kl 1 qx)<|S<|Sz aA<|aD<|bF (σ:=Nat) (λi=>([(0,.ref 0 0 0 0),(1,.ref 1 0 0 0),(3,iv (i:Int))],[(1,bx 16 180 (lM i)),(0,bx 16 180 (lM 0))])) (λi=>i<=16) (λi=>16 - i) 0 (l7 _) ?_ ?_
 ·exact L_
 intro i hi;refine Sz cJ<|S<|Cn ?_ ?_<;>intro c
 ·have f:i<16:=I_ c
  refine aB<|S<|aD<|O aA<|V aI<|O aA<|Y aA<|Y gX<|Y (eE Z underlying3 cZ Z (wu8 X X))<|Y (eO Z yV cM Z Z Z Z X (l_ _) X Z)<|Uu (by exact cQ Z cM Z Z Z Z Z Z (by rw[DG];omega) (show (lM i).set (0+i*1) (.pv (.int .u8 (48+(i:Int))))=(lM i).set i (.pv (.int .u8 (48+(i:Int))))by simp_all) Z)<|Zz<|O aA<|V zU ?_;refine Cn ?_ ?_<;>intro b
  ·have d:¬ i<10:=I_ b
   refine Rd aA<|Y aA<|Y gX<|Y (dM Z Z Z (mE X X))<|Y (eE Z underlying3 cZ Z (wu8 X X))<|Y (eO Z yV cM Z Z Z Z X (l_ _) X Z)<|Uu (by exact cQ Z cM Z Z Z Z Z Z (by rw[length_set,DG];omega) (show ((lM i).set i (.pv (.int .u8 (48+(i:Int))))).set (0+i*1) (.pv (.int .u8 (97+(i:Int) - 10)))=lM (i+1)by rw[r9,Nat.mul_one];exact pz f _ (by rw[wU,a8 (I_ b)];grind)) Z)<|Zz<|Rd gX<|V aA ?_;exact⟨i+1,X,X,L_⟩
  have d:i<10:=J_ b
  refine aB<|Rd gX<|V aA ?_;refine⟨i+1,X,X,?_⟩;have e:(lM i).set i (.pv (.int .u8 (48+(i:Int))))=lM (i+1):=by
   rw[<-TD f,wU,b7 d]
  rw[e];exact L_
 have g:i=16:=J_ c
 subst g;refine aP<|O (by exact aW Z isAgg180 sizeOf180 Z Z Z Z we Z)<|Uu (jA sizeOf180)<|Zz<|aC<|cR (H':=[]) (.inr Z) Z (fB Z isAgg180 sizeOf180 Z Z Z we Z) (Fin.wk (.agg qa) T_ T_) Qq
end Go.Proofs.YtopnleflllkbmaaGreatDoor
end
namespace Go.Proofs.YtopnleflllkbmaaGreatDoor
open Go.Proofs.Tryz
open Go.Abs
variable{a:Nat}
def vZ(l:List UInt8):Nat:=l.foldl (λn b=>n*256+b.toNat) 0
def mP(l:List UInt8):List UInt8:=l.take 8++List.replicate (8 - l.length) 0
theorem dq(l):(mP l).length=8:=by rw[mP,j_,q9,length_replicate];omega
theorem XU(l)(b):vZ (l++[b])=vZ l*256+b.toNat:=by rw[vZ,foldl_append];rfl
theorem wv(l):vZ l<256 ^ l.length:=by
 suffices h:∀(l:List _) (n),l.foldl _ n<(n+1)*256 ^ l.length by
  have:=h l 0;rw[Nat.one_mul]at this;exact this
 intro l
 induction l with
 |nil=>simp_all
 |cons b r c =>
  intro n;have a:=c (n*256+b.toNat);have h2:=b.toNat_lt;refine Nat.lt_of_lt_of_le a ?_;rw[j7,Nat.pow_succ,Nat.mul_comm (256 ^ r.length) _,<-Nat.mul_assoc];exact mul_le_mul_right _ X
theorem TU{l}(h:l.length<=8):vZ l<18446744073709551616:=by refine Nat.lt_of_lt_of_le (wv l) ?_;exact Nat.le_trans (Nat.pow_le_pow_right H_ h) H_
theorem iz{l}(h:l.length<=7):vZ l<72057594037927936:=by refine Nat.lt_of_lt_of_le (wv l) ?_;exact Nat.le_trans (Nat.pow_le_pow_right H_ h) H_
def TB:Nat->List UInt8->Nat
 |s,a::b::c::d::e::f::g::h::r=>TB (OD (s ^^^ vZ [a,b,c,d,e,f,g,h])) r
 |s,l=>OD (s ^^^ vZ (mP l))
theorem XG(s){l}(h:8<=l.length):TB s l=TB (OD (s ^^^ vZ (mP (l.take 8)))) (l.drop 8):=by
 match l,h with
 |a::b::c::d::e::f::g::h::r,_=>rfl
theorem XH(s){l}(h:l.length<8):TB s l=OD (s ^^^ vZ (mP l)):=by
 match l,h with
 | [],_=>rfl
 | [a],_=>rfl
 | [a,b],_=>rfl
 | [a,b,c],_=>rfl
 | [a,b,c,d],_=>rfl
 | [a,b,c,d,e],_=>rfl
 | [a,b,c,d,e,f],_=>rfl
 | [a,b,c,d,e,f,g],_=>rfl
 |_::_::_::_::_::_::_::_::r,h=>simp[j7]at h;omega
def UW(st j:Nat):Nat:=st / 2 ^ (60 - 4*j) % 16
def BT(st:Nat):List UInt8:=(List.range 16).map λj=>UInt8.ofNat (wU (UW st j)).toNat
def AF(st i:Nat):List AV:=(List.range 16).map λj=>.pv (.int .u8 (if j<i then wU (UW st j)else 0))
theorem H4(a i):(AF a i).length=16:=rfl
theorem R5{a i j}(h:j<16):(AF a i)[j]?=some (.pv (.int .u8 (if j<i then wU (UW a j)else 0))):=by rw[AF,r7,getElem?_range h];rfl
theorem nr{a i}(h:i<16):(AF a i).set i (.pv (.int .u8 (wU (UW a i))))=AF a (i+1):=by
 apply ext_getElem?;intro j;by_cases b:j<16
 ·rw[R5 b];by_cases e:i=j
  ·subst e;rw[getElem?_set_self h,b7 (lt_succ_self _)]
  rw[getElem?_set_ne e,R5 b]
  grind
 rw[getElem?_eq_none (by rw[length_set,H4];omega),getElem?_eq_none (by rw[H4];omega)]
theorem Jo{H}{c i}:∀a∈AF c i,Clo H a:=by intro a b;obtain ⟨j,_,rfl⟩:=mem_map.1 b;exact .pv _
theorem My{H}{l}:∀a∈mD l,Clo H a:=by intro a b;obtain ⟨j,_,rfl⟩:=mem_map.1 b;exact .pv _
theorem M8{H}{n T}{l}(h:∀a∈l,Clo H a):∀r∈(bx n T l).rows,∀a∈r,Clo H a:=F_
theorem ET(a j):UW a j<16:=mod_lt _ H_
theorem vn{n}(h:n<16):0<=wU n/\wU n<256:=by unfold wU;all_goals omega
theorem ns(b):AF b 16=mD (BT b):=by rw[mD,BT,map_map];refine map_congr_left λj d=>?_;have c:=mem_range.1 d;have f:=vn (ET b j);simp only[Function.comp];rw[b7 c,UInt8.toNat_ofNat'];have e:(wU (UW b j)).toNat % 2 ^ 8=(wU _).toNat:=mod_eq_of_lt X;rw[e,Int.toNat_of_nonneg f.1]
def U0(n:Nat):Nat:=1181783497276652981 ^^^ n
def FD(s:B_):B_:=⟨(BT (TB (U0 s.size) s.data.toList)).toArray⟩
theorem wc{n}(h:n<18446744073709551616):U0 n<18446744073709551616:=D7 H_ h
theorem orN{b:Nat}(ha:a<72057594037927936)(hb:b<256):bits .or .u64 ((a*256:Nat)) b=((a*256+b:Nat)):=by rw[bits_or_u64_nat _ _ X X];have h:=two_pow_add_eq_or_of_lt (i:=8) X a;rw[Nat.mul_comm]at h;rw[h]
theorem aDr(h:a<72057594037927936):IntKind.u64.wrap (a*2 ^ ((8:Int)).toNat)=((a*256:Nat)):=by show IntKind.u64.wrap (a*256)=_;rw[IntKind.wrap_u64];omega
theorem bh{n:Nat}(h:n<18446744073709551616):IntKind.u64.wrap n=n:=by rw[IntKind.wrap_u64];omega
theorem Fg(s:B_)(g:Nat)(k:g<18446744073709551616):aU Tryz.prog 157 [sv s,.ref 903 0 0 0] [(903,bx 1 169 [uv g])] (λr H'=>r=.tup []/\H'=[(903,bx 1 169 [uv (OD (g ^^^ vZ (mP s.data.toList)))])]):=by
 have t:(List.replicate 8 (AV.pv (.int .u8 0)))=mD (List.replicate 8 0):=by rfl
 have hm:min s.size 8<=8:=X
 have o:s.data.toList.length=s.size:=H_
 have d:mD (s.data.toList.take (min s.size 8))++(List.replicate 8 (AV.pv (.int .u8 0))).drop (min s.size 8)=mD (mP s.data.toList):=by
  rw[t,mD,mD,<-map_drop,<-map_append,drop_replicate,mD,mP,o]
  grind
 refine Bd func157 Z ntmps157<|Sz (kl 3 aB6)<|S<|Rg<|K5 (id:=3) Z Z Z Z underlying179 cM Z Z rfl<|Nh Z Z Z E_ Z rfl<|Z5 Z Z Z Z dD cM Z E_ Z rfl<|Zz<|Sz aI<|S<|Sz aA<|aD<|bF (σ:=Nat) (λi=>([(0,sv s),(1,.ref 903 0 0 0),(3,.ref 3 0 0 0),(4,uv (vZ ((mP s.data.toList).take i))),(9,iv (i:Int))],[(3,bx 8 179 (mD (mP s.data.toList))),(903,bx 1 169 [uv g])])) (λi=>i<=8) (λi=>8 - i) 0 (l7 _) ?_ ?_
 ·rw[<-d];refine cL.wk (Eb<|Ea<|Ea<|Eb<|Eb<|T_) (Hc ?_<|Hb<|T_) ⟨Z,T_⟩;rw[d];exact M8 My
 intro i hi;have h:=dq s.data.toList;have hti:((mP s.data.toList).take i).length<=8:=F_
 refine Sz cJ<|S<|Cn ?_ ?_<;>intro j
 ·have hlt:i<8:=I_ j
  have ⟨b,q⟩:∃b,(mP s.data.toList)[i]?=some b:=⟨_,m_ X⟩;have l:(mD (mP s.data.toList))[i]?=some (.pv (.int .u8 (b.toNat:Int))):=by rw[mD,r7,q];rfl
  have m:((mP s.data.toList).take i).length<=7:=G_
  have p:=iz m;have hb3:=b.toNat_lt;refine aB<|S<|aD<|O aA<|V aI<|Rd aA<|Y (O8 Z Z Z E_ E_ (aDr p))<|Y aA<|Y (eO Z underlying179 cM Z Z Z Z X (l_ _) X Z)<|Y (by exact aX Z uM Z Z Z Z (by rw[r9,Nat.mul_one];exact l))<|Y (eE Z cZ gL Z (bh X))<|Y (pE Z H_ Z Z (orN p X))<|V aI<|Rd gX<|V aA ?_;refine⟨i+1,X,X,?_⟩;have e:vZ ((mP s.data.toList).take (i+1))=vZ ((mP s.data.toList).take i)*256+b.toNat:=by rw[take_add_one,q,Option.toList_some,XU]
  rw[e];exact(cL.wk (Eb<|Ea<|Ea<|Eb<|Eb<|T_) (Hc (M8 My)<|Hb<|T_) ⟨Z,T_⟩)
 have n:i=8:=J_ j
 subst n;have e:(mP s.data.toList).take 8=mP s.data.toList:=take_of_length_le X;rw[e];refine aP<|Rd (bQ xC)<|Y aA<|Y (pE Z H_ Z Z (bits_xor_u64_nat g _ k (TU (Nat.le_of_eq h))))<|Y (kc call158 (aCn _ (D7 k (TU (Nat.le_of_eq h))) _))<|Uu (jA uL)<|Zz ?_;exact oT (H':=[(903,bx 1 169 [uv (OD (g ^^^ vZ (mP s.data.toList)))])]) (.inl Z) Z P_ ⟨Z,Z⟩
theorem gi(s:B_)(i j):(s.extract i j).data.toList=(s.data.toList.drop i).take (j - i):=H_
theorem dAt(a i):(lM 16)[0+UW a i*1]?=some (.pv (.int .u8 (wU (UW a i)))):=by rw[r9,Nat.mul_one,IN (ET _ i),b7 (ET _ i)]
theorem aE1(b:a<18446744073709551616):bits .and .u64 a 15=((a % 16:Nat)):=by have h:=bits_and_u64_nat a 15 b H_;rw[and_two_pow_sub_one_eq_mod a 4]at h;exact h
theorem sg(s:B_)(H:aF)(hs:s.size<2^62):RC 106 [sv s] (sv (FD s)) H:=by
 refine Pu ?_;have k:U0 s.size<18446744073709551616:=wc X;have hsl:s.data.toList.length=s.size:=H_
 refine Bd func106 Z ntmps106<|Sz aI<|O aA<|Y (gE U_)<|Y (eE Z underlying3 gL Z (bh X))<|Y (pE Z H_ Z Z (bits_xor_u64_nat 1181783497276652981 s.size E_ X))<|Y (kl 903 aB8)<|Uu (jA uL)<|Zz<|O (gW Z Z)<|V aI<|S<|aD<|eU (λ(x:B_) (b:Nat)=>([(0,sv x),(3,.ref 903 0 0 0),(4,.clo 157 [.ref 903 0 0 0])],[(903,bx 1 169 [uv b])])) (λx b=>b<18446744073709551616/\x.size<=s.size/\TB b x.data.toList=TB (U0 s.size) s.data.toList) (λx b=>x.size) s (U0 s.size) ⟨k,g_ _,Z⟩ ?_ ?_
 ·exact Wk
 rintro x b ⟨c,hx,m⟩;have hxl:x.data.toList.length=x.size:=H_
 refine S<|O aA<|Y (gE U_)<|V zU<|Cn ?_ ?_<;>intro d
 ·have n:8<=x.size:=I_ d
  refine aB<|S<|aD<|Rd aA<|Y aA<|Y (bM (l:=0) (h:=8) Z U_ Z Z Z X X Z)<|V (dA Z Z Z (dH.clo call157 (Fg (x.extract 0 8) b c)))<|Rd aA<|Y (bM (l:=8) (h:=x.size) Z U_ Z Z Z X X Z)<|Da ?_;refine⟨x.extract 8 x.size,OD (b ^^^ vZ (mP (x.extract 0 8).data.toList)),⟨ZF _,by rw[ByteArray.size_extract];omega,?_⟩,by rw[ByteArray.size_extract];omega,Wk⟩;rw[<-m,XG b (by omega:8<=x.data.toList.length),gi,gi,drop_zero,take_of_length_le (l:=x.data.toList.drop 8) F_]
 have n:x.size<8:=J_ d
 have o:=XH b (by omega:x.data.toList.length<8);have ⟨f_,l⟩:∃f_,f_=OD (b ^^^ vZ (mP x.data.toList)):=X_;have h:f_<18446744073709551616:=by rw[l];exact ZF _
 have e:FD s=⟨(BT f_).toArray⟩:=by rw[FD,<-m,o,l]
 rw[e];refine aP<|O aA<|Y aA<|V (dA Z Z Z (dH.clo call157 (Fg x b c)))<|O (kc call159 (Lr _))<|Y (kl 5 qx)<|Uu (jA sizeOf180)<|Zz<|Sz (kl 6 qx)<|S<|Sz aA<|aD ?_;rw[<-l];refine bF (σ:=Nat) (λi=>([(3,.ref 903 0 0 0),(5,.ref 5 0 0 0),(6,.ref 6 0 0 0),(26,iv (i:Int))],[(6,bx 16 180 (AF f_ i)),(5,bx 16 180 (lM 16)),(903,bx 1 169 [uv f_])])) (λi=>i<=16) (λi=>16 - i) 0 (l7 _) ?_ ?_
 ·exact(cL.wk (Ea<|Ea<|Ea<|Eb<|T_) (Hc (M8 Jo)<|Hc (M8 qa)<|Hb<|T_) T_)
 intro i hi;refine Sz cJ<|S<|Cn ?_ ?_<;>intro f
 ·have g:i<16:=I_ f
  refine aB<|S<|aD<|O aA<|V aI<|Rd aA<|Y (bQ xC)<|Y aA<|Y (oL Z Z Z (mE X X))<|Y (dM Z Z Z (mE X X))<|Y (by exact F2 Z Z Z X (by simp[IntKind.bits];omega) (Ge f_ (60 - 4*i) X))<|Y (pE Z H_ Z Z (aE1 (yL _ h)))<|Y (eO Z yV cM Z Z Z Z X (l_ _) (ET f_ i) Z)<|Y (aX Z uM Z Z Z Z (dAt f_ i))<|Y (eO Z yV cM Z Z Z Z X (l_ _) X Z)<|Uu (by exact cQ Z cM Z Z Z Z Z Z (by rw[H4];omega) (show (AF f_ i).set (0+i*1) (.pv (.int .u8 (wU (UW f_ i))))=AF f_ (i+1)by rw[r9,Nat.mul_one];exact nr g) Z) ?_;refine Zz<|Rd gX<|V aA ?_;exact⟨i+1,X,X,(cL.wk (Ea<|Ea<|Ea<|Eb<|T_) (Hc (M8 Jo)<|Hc (M8 qa)<|Hb<|T_) T_)⟩
 have j:i=16:=J_ f
 subst j;refine aP<|S<|Rg<|K5 (id:=6) Z Z Z Z yV cM Z Z rfl<|Vx (bs:=BT f_) Z Z Z Z dD cZ U_ (by rw[<-ns];rfl) E_ Z ?_;exact V aI<|aC<|Rt<|Qq
end Go.Proofs.YtopnleflllkbmaaGreatDoor
namespace Go.Abs
variable{H H':aF}
def aBI(H' H:aF):Prop:=∀j o',H'.get j=some o'->∃o,H.get j=some o/\o'.g=o.g/\o'.sz=o.sz/\o'.rows.length=o.rows.length
theorem VRel.restrictG{w:World}{I:Nat->Prop}{ι:lQ}(r:aBI H' H){v:Value}{a:AV}(h:VRel w I ι H v a):Clo H' a->VRel w I ι H' v a:=by
 induction h with
 |any v=>exact λ_=>.any v
 |pv h=>exact λ_=>.pv h
 | ref o f p g m =>
  intro c;cases c with
  |ref c =>
   have ⟨k,d⟩:=Option.isSome_iff_exists.1 c;have ⟨u,e,x,t,s⟩:=r _ _ d;rw[f]at e;cases e;exact .ref k d X g (λy=>by simp_all)
 |pad b D A e_ f p g K m N o_=>exact λ_=>.pad b D A e_ f p g K m N o_
 | osl o f p g m =>
  intro c;cases c with
  |osl c =>
   have ⟨k,d⟩:=Option.isSome_iff_exists.1 c;have ⟨u,e,x,t,s⟩:=r _ _ d;rw[f]at e;cases e;exact .osl k d X g (λy=>by simp_all)
 |clo n h l =>
  intro c;cases c with|clo c=>exact .clo n λi v a q j=>l i v a q j (c a (m8 j))
 |bnd n h l =>
  intro c;cases c with|bnd c=>exact .bnd n λi v a q j=>l i v a q j (c a (m8 j))
 |agg n f h l =>
  intro c;cases c with|agg c=>exact .agg n f λi v a q j=>l i v a q j (c a (m8 j))
 |tup n h l =>
  intro c;cases c with|tup c=>exact .tup n λi v a q j=>l i v a q j (c a (m8 j))
 | mp o f p g m =>
  intro c;cases c with
  |mp c =>
   have ⟨k,d⟩:=Option.isSome_iff_exists.1 c;have ⟨u,e,x,t,s⟩:=r _ _ d;rw[f]at e;cases e;exact .mp k d X g (λy=>by simp_all)
 | it o f p g m =>
  intro c;cases c with
  |it c =>
   have ⟨k,d⟩:=Option.isSome_iff_exists.1 c;have ⟨u,e,x,t,s⟩:=r _ _ d;rw[f]at e;cases e;exact .it k d X g (λy=>by simp_all)
 | yld o f p g m =>
  intro c;cases c with
  |yld c =>
   have ⟨k,d⟩:=Option.isSome_iff_exists.1 c;have ⟨u,e,x,t,s⟩:=r _ _ d;rw[f]at e;cases e;exact .yld k d X g (λy=>by simp_all)
 | osc o f p g m =>
  intro c;cases c with
  |osc c =>
   have ⟨k,d⟩:=Option.isSome_iff_exists.1 c;have ⟨u,e,x,t,s⟩:=r _ _ d;rw[f]at e;cases e;exact .osc k d X g (λy=>by simp_all)
theorem VRel.freezeG{w}{I}{ι}{H H'}{id}{ob}{ps}(p:Rel I ι H w)(s:aBI H' H)(x:H.get id=some ob)(m:ob.rows=ps.map (·.map .pv)){a a'}(q:Fz H' id ob.g ps a a'):
  ∀ {v},VRel w I ι H v a->VRel w (qV I ι id) ι H' v a':=by
 induction q with
 |same h=>exact λc=>(c.restrictG s h).mono' (λ_ _=>rfl) (λ_ h=>.inl h) (λ_ o h=>⟨o,h,g_ _,λ_=>⟨Z,Z,λ_=>g_ _⟩⟩)
 |osl r =>
  intro v c;subst r;exact .pv (E4 p x m c)
 | agg g h j =>
  intro v c;cases c with
  |agg k t f =>
   refine .agg (k.trans g) t λi u a' l b=>?_;have n:=(m9.1 b).1;exact j i _ _ (m_ X) b (f i u _ l (m_ _))
 | tup g h j =>
  intro v c;cases c with
  |tup k f =>
   refine .tup (k.trans g) λi u a' l b=>?_;have n:=(m9.1 b).1;exact j i _ _ (m_ _) b (f i u _ l (m_ X))
def T4(H':aF)(id g:Nat)(ps:List (List PV))(rows rows':List (List AV)):Prop :=rows'.length=rows.length/\∀(i:Nat) (r':List AV),rows'[i]?=some r'->∃r,rows[i]?=some r/\r.length=r'.length/\∀(k:Nat) (a a':AV),r[k]?=some a->r'[k]?=some a'->Fz H' id g ps a a'
theorem eP{H'}{id g}{ps}{rows}(h:∀r∈rows,∀a∈r,Clo H' a):T4 H' id g ps rows rows :=⟨Z,λi r b=>⟨r,b,Z,λk a a' d c=>by rw[d]at c;cases c;exact .same (h r (m8 b) a (m8 d))⟩⟩
theorem lW{H'}{id g}{ps}{r r'}(c:r.length=r'.length)(h:∀(k:Nat) (a a'),r[k]?=some a->r'[k]?=some a'->Fz H' id g ps a a'):T4 H' id g ps [r] [r'] :=⟨Z,λi x b=>by
  match i,b with
  |0,b=>cases b;exact⟨r,Z,c,h⟩⟩
def FOk(H H':aF)(id g:Nat)(ps:List (List PV)):aF->Prop
 | []=>True
 |(j,o')::r=>(∃o,H.get j=some o/\o'.g=o.g/\o'.sz=o.sz/\o'.ty=o.ty/\T4 H' id g ps o.rows o'.rows)/\FOk H H' id g ps r
theorem FOk.spec{H H'}{id g}{ps}{L}(h:FOk H H' id g ps L):∀p∈L,∃o,H.get p.1=some o/\p.2.g=o.g/\p.2.sz=o.sz/\p.2.ty=o.ty/\T4 H' id g ps o.rows p.2.rows:=by
 induction L with
 |nil=>simp
 |cons x r ih =>
  have ⟨h1,h2⟩:=h
  simp_all
theorem cL.fzG{G0:aF}{E E':cY}{id:Nat}{ob:Ob}(ps:List (List PV))(B:H.get id=some ob)(K:ob.rows=ps.map (·.map .pv))(hE:∀p∈E',∃v0,E.get p.1=some v0/\Fz H' id ob.g ps v0 p.2)(W:H'.get id=none)
    (hF:FOk H H' id ob.g ps H') (hk:Dj H' H G0):cL G0 E H E' H':=by
  intro G hG N a w T;have ⟨I,A,q,d,he⟩:=T.rel;subst hG;have d_:∀j f,H'.get j=some f->∃o,H.get j=some o/\f.g=o.g/\f.sz=o.sz/\f.ty=o.ty/\T4 H' id ob.g ps o.rows f.rows:=λj f x=>hF.spec _ (dY x);have s:aBI H' H:=λj f x=>by
    have ⟨o,u,z_,R,_,L⟩:=d_ j f x;exact⟨o,u,z_,R,L.1⟩
  have D:∀b,NG A H' b->NG A H b:=λb ⟨j,f,c,g,n⟩=>by
    have ⟨o,u,_⟩:=d_ j f g;exact⟨j,o,c,u,n⟩
  have c_:Rel (qV I A id) A H' w:=by
    refine⟨λb l=>?_,λj f x=>?_,λj j' o f b c c' g n=>?_,q.glob.mono (λ_ _=>rfl) (λ_ h=>.inl h)⟩
    · rcases l with l|⟨m,l⟩
      · exact q.imm b l
      · exact q.lt ⟨id,ob,m,B,l⟩
    · have ⟨o,u,z_,R,e4,L,y_⟩:=d_ j f x
      refine(q.obj j o u).keepG R e4 L (cu L.symm (λi u_ v_=>by
        have ⟨r,e_,Q,A_⟩:=y_ i u_ v_;exact⟨r,e_,Q,λk a P g n y ts e=>(A_ k a P g n).raw e⟩)) Z (λb' F q1 _=>⟨Z,λq3=>?_⟩) (λi u_ v_=>?_)
      · rintro(h|⟨m,h⟩)
        · exact q3 h
        · have:j=id:=q.inj j id o ob b' F m u B q1 h
          rw[this,W]at x;cases x
      · have ⟨r,e_,Q,A_⟩:=y_ i u_ v_
        exact⟨r,e_,Q,λk a P g n v f_=>VRel.freezeG q s B K (A_ k a P g n) f_⟩
    · have ⟨p,u,_⟩:=d_ j o g
      have ⟨p',o_,_⟩:=d_ j' f n;exact q.inj j j' p p' b c c' u o_
  have z:Step G.I G.ι G.H G.w (qV I A id) A H' w :=
    { os := d.os, tape := d.tape, output := d.output, size := d.size, froz := d.froz, keep := d.keep
      imm:=λb l=>.inl (d.imm b l)
      immNew:=λb l=>by
        rcases l with l|⟨m,l⟩
        · exact d.immNew b l
        · rcases d.own b ⟨id,ob,m,B,l⟩with g|g
          · exact .inr (.inl g)
          · exact .inr (.inr g)
      own:=λb l=>d.own b (D b l)
      objs:=λj o ho=>by
        have ⟨f,g,n⟩:=d.objs j o ho;exact⟨f,(hk.kept j (by simp[ho])).trans g,n⟩}
  refine⟨T.defers,T.size,_,A,c_,z,λt v ht=>?_⟩;have ⟨v0,g,n⟩:=hE _ (iL ht);have ⟨c,hc,f_⟩:=he t v0 g;exact⟨c,hc,VRel.freezeG q s B K n f_⟩
end Go.Abs
