/-
  Parts of the proof: rules of an abstract program logic, contracts of functions, plain laws. Conditions: each theorem's own.
-/
import Derived.Test.YtmdicgjnmfolfaaGreatDoorKR3M2
import Derived.MapKept
import Derived.Laws.IdiomRangeMap
import Derived.Lib.Bytealg
set_option linter.unusedVariables false
set_option linter.unusedSimpArgs false
set_option maxRecDepth 100000
set_option maxHeartbeats 8000000
namespace Go.Proofs
open Tryz
theorem xI:type_of% call140:=call140
theorem aOb:type_of% call180:=call180
theorem xE:type_of% call230:=call230
theorem aCt:type_of% call261:=call261
theorem TT:type_of% call62:=call62
theorem oU:type_of% call70:=call70
theorem gZ:type_of% eqGuardType68:=eqGuardType68
theorem cQ:type_of% isAgg149:=isAgg149
theorem cA:type_of% isAgg153:=isAgg153
theorem aNX:type_of% isAgg158:=isAgg158
theorem tP:type_of% isAgg199:=isAgg199
theorem aF:type_of% isAgg22:=isAgg22
theorem A7:type_of% isAgg5:=isAgg5
theorem dS:type_of% isAgg68:=isAgg68
theorem oH:type_of% sizeOf124:=sizeOf124
theorem aL0:type_of% sizeOf135:=sizeOf135
theorem aX:type_of% sizeOf153:=sizeOf153
theorem xB:type_of% sizeOf158:=sizeOf158
theorem jY:type_of% sizeOf199:=sizeOf199
theorem aNU:type_of% sizeOf20:=sizeOf20
theorem aQ:type_of% sizeOf30:=sizeOf30
theorem cL:type_of% sizeOf5:=sizeOf5
theorem dH:type_of% underlying124:=underlying124
theorem cV:type_of% underlying149:=underlying149
theorem jL:type_of% underlying151:=underlying151
theorem fL:type_of% underlying153:=underlying153
theorem fK:type_of% underlying158:=underlying158
theorem EQ:type_of% underlying172:=underlying172
theorem gY:type_of% underlying182:=underlying182
theorem EP:type_of% underlying187:=underlying187
theorem Z2:type_of% underlying218:=underlying218
theorem aD:type_of% underlying22:=underlying22
theorem cX:type_of% underlying23:=underlying23
theorem gQ:type_of% underlying25:=underlying25
theorem dI:type_of% underlying26:=underlying26
theorem pD:type_of% underlying270:=underlying270
theorem mY:type_of% underlying28:=underlying28
theorem eA:type_of% underlying30:=underlying30
theorem aCo:type_of% underlying37:=underlying37
theorem fQ:type_of% underlying5:=underlying5
theorem GX:type_of% underlying69:=underlying69
theorem GW:type_of% zeroValue122:=zeroValue122
theorem GT:type_of% zeroValue151:=zeroValue151
theorem aCn:type_of% zeroValue153:=zeroValue153
theorem aCm:type_of% zeroValue187:=zeroValue187
theorem aCl:type_of% zeroValue199:=zeroValue199
theorem aGL:type_of% zeroValue20:=zeroValue20
theorem aGK:type_of% zeroValue22:=zeroValue22
theorem aGJ:type_of% zeroValue25:=zeroValue25
theorem CI:type_of% zeroValue3:=zeroValue3
theorem aGI:type_of% zeroValue30:=zeroValue30
theorem mX:type_of% zeroValue4:=zeroValue4
theorem CH:type_of% zeroValue5:=zeroValue5
theorem aGH:type_of% zeroValue68:=zeroValue68
theorem tT:type_of% zeroValue9:=zeroValue9
end Go.Proofs
namespace Go.Abs
variable{ops:Array Oper}{K:dB->aH->Prop}{rest:List Oper}{d t:Tmp}{op:Op}{ty S off:TypeId}{pos:String}{af:Array Edge}{x y:Code}{id n k k2 j:Nat}{b want:Bool}{f:FuncId}{args r cs cells:List AV}{rows:List (List PV)}{m:Int}{dst:Option Tmp}{c:Operand}{E L:dB}{H' H:aH}{v:AV}{o:Ob}
section
section
variable{P:Program}{G0:aH}{N:Nat}{o:Oper}{H H2:aH}{Q:Exit->dB->aH->Prop}{T e t t':TypeId}{x y:Operand}{id g i:Nat}{ob:Ob}
theorem Dd(h:cS P N ⟨some d,op,ty,pos,af,none⟩ E H v H2)(hk:AL P G0 N ops K rest ((d,v)::E) H2)(hn:Nat.blt d N=true:=by rfl):AL P G0 N ops K (⟨some d,op,ty,pos,af,none⟩::rest) E H:=Z0 rfl rfl hn h hk
theorem Uu(h:cS P N ⟨none,op,ty,pos,af,none⟩ E H v H2)(hk:AL P G0 N ops K rest E H2):AL P G0 N ops K (⟨none,op,ty,pos,af,none⟩::rest) E H:=aO4 rfl rfl h hk
theorem Sq{x y:Code}(h:gR P G0 N x (yP (gR P G0 N y Q) Q) E H):gR P G0 N (.seq x y) Q E H:=GI h
theorem Rg(h:AL P G0 N ops (fun E H=>Q .normal E H) ops.toList E H):gR P G0 N (.region id ops false) Q E H:=AJ h
theorem Zz(h:K E H):AL P G0 N ops K [] E H:=ZZ h
theorem aE(ho:o.op=.move x:=by rfl)(hx:aP E x=some v:=by rfl):cS P N o E H v H:=fV ho hx
theorem aL(ho:o.op=.assign x:=by rfl)(hx:aP E x=some v:=by rfl):cS P N o E H v H:=uG ho hx
theorem Sr{y:Code}(h:AL P G0 N ops (fun E H=>yP (gR P G0 N y Q) Q .normal E H) ops.toList E H):gR P G0 N (.seq (.region id ops false) y) Q E H:=Sq (Rg h)
theorem Dm(hk:AL P G0 N ops K rest ((d,v)::E) H)(ho:op=.move x:=by rfl)(hx:aP E x=some v:=by rfl)(hn:Nat.blt d N=true:=by rfl):AL P G0 N ops K (⟨some d,op,ty,pos,af,none⟩::rest) E H:=Dd (fV ho hx) hk hn
theorem Da(hk:K ((d,v)::E) H)(ho:op=.assign x:=by rfl)(hx:aP E x=some v:=by rfl)(hn:Nat.blt d N=true:=by rfl):AL P G0 N ops K [⟨some d,op,ty,pos,af,none⟩] E H:=Dd (uG ho hx) (Zz hk) hn
theorem Kr{a b:Prop}(h:b)(h1:a:=by kernel_rfl):a/\b:=⟨h1,h⟩
theorem Qq{α β:Type}{a:α}{b:β}:a=a/\b=b:=⟨rfl,rfl⟩
theorem Pu{r0:AV}(h:aI P f args [] (fun r H=>r=r0/\H=[]))(hp:∀a∈args,Clo [] a:=by simp):aI P f args H (fun r H'=>r=r0/\H'=H):=aI.pure h hp H
theorem fS{vs:List AV}(ho:o.op=.extract x n:=by rfl)(hx:aP E x=some (.tup vs):=by rfl)(hv:vs[n]?=some v:=by rfl):cS P N o E H v H:=sC ho hx hv
theorem aS{f:Nat}(hF:cT P S f off)(ho:o.op=.fieldAddr S x f:=by rfl)(hx:aP E x=some (.ref id g i k):=by rfl)(hH:H.get id=some ob:=by rfl)(hg:ob.g=g:=by rfl)(hk:k+off=k2:=by rfl):cS P N o E H (.ref id g i k2) H:=bG ho hF hx hH hg hk
theorem bC(ha:∀w,(isAgg T).run P w=.ok false w)(ho:o.op=.load T x:=by rfl)(hx:aP E x=some (.ref id g i k):=by rfl)(hH:H.get id=some ob:=by rfl)(hg:ob.g=g:=by rfl)(hi:ob.rows[i]?=some r:=by rfl)(hk:r[k]?=some v:=by rfl):cS P N o E H v H:=aK ho ha hx hH hg hi hk
theorem pU(ha:∀w,(isAgg T).run P w=.ok true w)(hs:∀w,(sizeOf T).run P w=.ok n w)(ho:o.op=.load T x:=by rfl)(hx:aP E x=some (.ref id g i k):=by rfl)(hH:H.get id=some ob:=by rfl)(hg:ob.g=g:=by rfl)(hi:ob.rows[i]?=some r:=by rfl)(hk:(r.drop k).take n=cs:=by rfl)(hl:cs.length=n:=by rfl):cS P N o E H (.agg cs) H:=aM ho ha hs hx hH hg hi hk hl
theorem lG(hs:∀w,(sizeOf T).run P w=.ok n w)(ho:o.op=.store T x y:=by rfl)(hx:aP E x=some (.ref id g 0 0):=by rfl)(hy:aP E y=some v:=by rfl)(hc:TO v=some cells:=by rfl)(hn:cells.length=n:=by rfl)(hH:H.get id=some ob:=by rfl)(hg:ob.g=g:=by rfl)(hi:ob.rows=[r]:=by rfl)(hk:r.length=n:=by rfl):cS P N o E H .any ((id,⟨g,ob.sz,ob.ty,[cells]⟩)::H):=cM ho hs hx hy hc hn hH hg hi hk
theorem fE(ht:P.underlying T=some (.slice e))(ho:o.op=.call {callee:=.builtin .len,args:=#[x],argTypes:=#[T]}:=by rfl)(hx:aP E x=some (.pv (.sl rows)):=by rfl):cS P N o E H (.pv (.int .i64 rows.length)) H:=lO ho ht hx
theorem mE{r:List PV}{kk:IntKind}{n:Int}{m sz:Nat}(hS:fA P T e sz)(ho:o.op=.indexAddr T x y:=by rfl)(hx:aP E x=some (.pv (.sl rows)):=by rfl)(hy:aP E y=some (.pv (.int kk n)):=by rfl)(h0:0<=n:=by omega)(hm:n.toNat=m:=by exact aP5 _)(hi:rows[m]?=some r:=by assumption)(hl:r.length=sz:=by rfl):cS P N o E H (.pad rows m 0) H:=bP ho hS hx hy h0 hm hi hl
theorem vC{parts:Array (Nat×Operand)}{places:List (Nat×Nat)}{l0 l:List AV}{aps:List (Nat×AV)}(hB:lY P T places l0)(ho:o.op=.build T parts:=by rfl)(hp:oG E parts.toList=some aps:=by rfl)(hf:AN (fun i=>places[i]?) l0 aps=some l:=by rfl):cS P N o E H (.agg l) H:=JW ho hB hp hf
theorem cZ{k:IntKind}{n:Int}(ho:o.op=.binOp .lss t x y t':=by rfl)(hx:aP E x=some (.pv (.int k n)):=by rfl)(hy:aP E y=some (.pv (.int k m)):=by rfl):cS P N o E H (.pv (.bool (decide (n<m)))) H:=qC ho hx hy
theorem cK{k:IntKind}{n:Int}(ho:o.op=.binOp .eql t x y t':=by rfl)(hx:aP E x=some (.pv (.int k n)):=by rfl)(hy:aP E y=some (.pv (.int k m)):=by rfl):cS P N o E H (.pv (.bool (decide (n=m)))) H:=fO ho hx hy
theorem Cq{ops:List Oper}{K:List Rec->dB->aH->Prop}(h:cS P N ⟨dst,op,ty,pos,af,none⟩ (restr E (gT ops ⟨dst,op,ty,pos,af,none⟩)) H v H)(hk:DC P N ops rest (kM E dst v) H (fun rs E' H'=>K (⟨v,none,[]⟩::rs) E' H'))(hd:iN N dst=true:=by rfl):DC P N ops (⟨dst,op,ty,pos,af,none⟩::rest) E H K:=bF (DStep.q rfl h) hd hk
theorem Cp{ops:List Oper}{K:List Rec->dB->aH->Prop}(R:List Nat){w:Nat×Ob}(h:∀H1:aH,(∀id,zP (some R) id=true->H1.get id=H.get id)->cS P N ⟨dst,op,ty,pos,af,none⟩ (restr E (gT ops ⟨dst,op,ty,pos,af,none⟩)) H1 v (w::H1))(hk:DC P N ops rest (kM E dst v) (w::H) (fun rs E' H'=>K (⟨v,some R,[w]⟩::rs) E' H'))(hd:iN N dst=true:=by rfl):DC P N ops (⟨dst,op,ty,pos,af,none⟩::rest) E H K:=bF (r:=⟨v,some R,[w]⟩) (DStep.plain rfl h) hd hk
theorem Cr{ops:List Oper}{K:List Rec->dB->aH->Prop}(R:List Nat)(h:∀H1:aH,(∀id,zP (some R) id=true->H1.get id=H.get id)->cS P N ⟨dst,op,ty,pos,af,none⟩ (restr E (gT ops ⟨dst,op,ty,pos,af,none⟩)) H1 v H1)(hk:DC P N ops rest (kM E dst v) H (fun rs E' H'=>K (⟨v,some R,[]⟩::rs) E' H'))(hd:iN N dst=true:=by rfl):DC P N ops (⟨dst,op,ty,pos,af,none⟩::rest) E H K:=bF (r:=⟨v,some R,[]⟩) (DStep.plain rfl h) hd hk
theorem Cs{ops:List Oper}{K:List Rec->dB->aH->Prop}(h:∀H1:aH,(∀id,zP none id=true->H1.get id=H.get id)->cS P N ⟨dst,op,ty,pos,af,none⟩ (restr E (gT ops ⟨dst,op,ty,pos,af,none⟩)) H1 v H1)(hk:DC P N ops rest (kM E dst v) H (fun rs E' H'=>K (⟨v,none,[]⟩::rs) E' H'))(hd:iN N dst=true:=by rfl):DC P N ops (⟨dst,op,ty,pos,af,none⟩::rest) E H K:=bF (r:=⟨v,none,[]⟩) (DStep.plain rfl h) hd hk
theorem Ot{ops:List Oper}{K:List Rec->dB->aH->Prop}{t:Tmp}(hk:DC P N ops rest (kM E dst (.tup [])) H (fun rs E' H'=>K (⟨.tup [],some [],[]⟩::rs) E' H'))(hj:iM ops j=some t:=by rfl)(hb:E.get t=some (.pv (.bool b)):=by rfl)(hw:b=false:=by first|rfl|assumption)(hd:iN N dst=true:=by rfl):DC P N ops (⟨dst,op,ty,pos,af,some (j,true)⟩::rest) E H K:=bF (aHU rfl hj hb hw) hd hk
theorem Of{ops:List Oper}{K:List Rec->dB->aH->Prop}{t:Tmp}(hk:DC P N ops rest (kM E dst (.tup [])) H (fun rs E' H'=>K (⟨.tup [],some [],[]⟩::rs) E' H'))(hj:iM ops j=some t:=by rfl)(hb:E.get t=some (.pv (.bool b)):=by rfl)(hw:b=true:=by first|rfl|assumption)(hd:iN N dst=true:=by rfl):DC P N ops (⟨dst,op,ty,pos,af,some (j,false)⟩::rest) E H K:=bF (aHV rfl hj hb hw) hd hk
theorem Ou{ops:List Oper}{K:List Rec->dB->aH->Prop}{t:Tmp}{w:Bool}(hk:DC P N ops rest (kM E dst (.tup [])) H (fun rs E' H'=>K (⟨.tup [],some [],[]⟩::rs) E' H'))(hj:iM ops j=some t:=by rfl)(hb:E.get t=some (.tup []):=by rfl)(hd:iN N dst=true:=by rfl):DC P N ops (⟨dst,op,ty,pos,af,some (j,w)⟩::rest) E H K:=bF (aHT rfl hj hb) hd hk
theorem On{t:Tmp}(h:cS P N ⟨some d,op,ty,pos,af,some (j,want)⟩ E H v H2)(hk:AL P G0 N ops K rest ((d,v)::E) H2)(hj:iM ops.toList j=some t:=by rfl)(hb:E.get t=some (.pv (.bool b)):=by rfl)(hw:b=want:=by rfl)(hn:Nat.blt d N=true:=by rfl):AL P G0 N ops K (⟨some d,op,ty,pos,af,some (j,want)⟩::rest) E H:=aGD rfl hj hb hw rfl hn h hk
theorem Fo{t:Tmp}(hk:AL P G0 N ops K rest (kM E dst (.tup [])) H)(hj:iM ops.toList j=some t:=by rfl)(hb:E.get t=some (.pv (.bool b)):=by rfl)(hw:b=!want:=by rfl)(hd:iN N dst=true:=by rfl):AL P G0 N ops K (⟨dst,op,ty,pos,af,some (j,want)⟩::rest) E H:=aGE rfl hj hb hw hd hk
theorem Oa{t:Tmp}(h:cS P N ⟨some d,op,ty,pos,af,some (j,want)⟩ E H v H2)(hk:AL P G0 N ops K rest ((d,v)::E) H2)(hj:iM ops.toList j=some t:=by rfl)(hb:E.get t=some (.pv (.bool b)):=by rfl)(hw:b=want:=by assumption)(hn:Nat.blt d N=true:=by rfl):AL P G0 N ops K (⟨some d,op,ty,pos,af,some (j,want)⟩::rest) E H:=aGD rfl hj hb hw rfl hn h hk
theorem Fa{t:Tmp}(hk:AL P G0 N ops K rest (kM E dst (.tup [])) H)(hj:iM ops.toList j=some t:=by rfl)(hb:E.get t=some (.pv (.bool b)):=by rfl)(hw:b=!want:=by assumption)(hd:iN N dst=true:=by rfl):AL P G0 N ops K (⟨dst,op,ty,pos,af,some (j,want)⟩::rest) E H:=aGE rfl hj hb hw hd hk
section
variable{R:Option (List Nat)}{H1:aH}
theorem fh{f:Nat}(hF:cT P S f off)(h:∀id,zP R id=true->H1.get id=H.get id)(ho:o.op=.fieldAddr S x f:=by rfl)(hx:aP E x=some (.ref id g i k):=by rfl)(hm:zP R id=true:=by rfl)(hH:H.get id=some ob:=by rfl)(hg:ob.g=g:=by rfl)(hk:k+off=k2:=by rfl):cS P N o E H1 (.ref id g i k2) H1:=bG ho hF hx ((h _ hm).trans hH) hg hk
theorem lh(ha:∀w,(isAgg T).run P w=.ok false w)(h:∀id,zP R id=true->H1.get id=H.get id)(ho:o.op=.load T x:=by rfl)(hx:aP E x=some (.ref id g i k):=by rfl)(hm:zP R id=true:=by rfl)(hH:H.get id=some ob:=by rfl)(hg:ob.g=g:=by rfl)(hi:ob.rows[i]?=some r:=by rfl)(hk:r[k]?=some v:=by rfl):cS P N o E H1 v H1:=aK ho ha hx ((h _ hm).trans hH) hg hi hk
end
section
variable{k:IntKind}{n m:Int}{s u:ByteArray}{r:List PV}{i j q f F:Nat}
theorem iQ(ho:o.op=.unOp .not t x:=by rfl)(hx:aP E x=some (.pv (.bool b)):=by rfl):cS P N o E H (.pv (.bool (!b))) H:=aHf ho hx
theorem xY(ho:o.op=.binOp .neq t x y t':=by rfl)(hx:aP E x=some (.pv (.int k n)):=by rfl)(hy:aP E y=some (.pv (.int k m)):=by rfl):cS P N o E H (.pv (.bool (!decide (n=m)))) H:=CR ho hx hy
theorem iE(ho:o.op=.binOp .gtr t x y t':=by rfl)(hx:aP E x=some (.pv (.int k n)):=by rfl)(hy:aP E y=some (.pv (.int k m)):=by rfl):cS P N o E H (.pv (.bool (decide (m<n)))) H:=FM ho hx hy
theorem GQ(ho:o.op=.binOp .leq t x y t':=by rfl)(hx:aP E x=some (.pv (.int k n)):=by rfl)(hy:aP E y=some (.pv (.int k m)):=by rfl):cS P N o E H (.pv (.bool (decide (n<=m)))) H:=rO ho hx hy
theorem DD(ho:o.op=.binOp .geq t x y t':=by rfl)(hx:aP E x=some (.pv (.int k n)):=by rfl)(hy:aP E y=some (.pv (.int k m)):=by rfl):cS P N o E H (.pv (.bool (decide (m<=n)))) H:=mQ ho hx hy
theorem zE(ho:o.op=.binOp .eql t x y t':=by rfl)(hx:aP E x=some (.pv (.str s)):=by rfl)(hy:aP E y=some (.pv (.str u)):=by rfl):cS P N o E H (.pv (.bool (decide (s=u)))) H:=FI ho hx hy
theorem IU(ho:o.op=.binOp .neq t x y t':=by rfl)(hx:aP E x=some (.pv (.str s)):=by rfl)(hy:aP E y=some (.pv (.str u)):=by rfl):cS P N o E H (.pv (.bool (!decide (s=u)))) H:=aEW ho hx hy
theorem mI(ho:o.op=.binOp .add t x y t':=by rfl)(hx:aP E x=some (.pv (.int .i64 n)):=by rfl)(hy:aP E y=some (.pv (.int .i64 m)):=by rfl){r:Int}(hr:IntKind.i64.wrap (n+m)=r:=by exact kK (by omega) (by omega)):cS P N o E H (.pv (.int .i64 r)) H:=bZ ho hx hy hr
theorem M4{q2:Nat}(hF:cT P S f off)(ho:o.op=.fieldAddr S x f:=by rfl)(hx:aP E x=some (.pad rows i q):=by rfl)(hk:q+off=q2:=by rfl):cS P N o E H (.pad rows i q2) H:=OH ho hF hx hk
theorem iJ{p:PV}(ha:∀w,(isAgg T).run P w=.ok false w)(ho:o.op=.load T x:=by rfl)(hx:aP E x=some (.pad rows i q):=by rfl)(hi:rows[i]?=some r:=by first|assumption|omega)(hk:r[q]?=some p:=by rfl):cS P N o E H (.pv p) H:=oK ho ha hx hi hk
theorem wQ(ho:o.op=.pick c x y:=by rfl)(hc:aP E c=some (.pv (.bool b)):=by rfl)(hb:b=true:=by assumption)(hv:aP E x=some v:=by rfl):cS P N o E H v H:=aBy ho hc hb hv
theorem nX(ho:o.op=.pick c x y:=by rfl)(hc:aP E c=some (.pv (.bool b)):=by rfl)(hb:b=false:=by assumption)(hv:aP E y=some v:=by rfl):cS P N o E H v H:=aBz ho hc hb hv
theorem cG(ho:o.op=.pick c x y:=by rfl)(hc:aP E c=some (.pv (.bool b)):=by rfl)(hv:aP E (if b then x else y)=some v:=by rfl):cS P N o E H v H:=BQ ho hc hv
theorem jV(ht:P.underlying T=some .string)(ho:o.op=.call {callee:=.builtin .len,args:=#[x],argTypes:=#[T]}:=by rfl)(hx:aP E x=some (.pv (.str s)):=by rfl):cS P N o E H (.pv (.int .i64 s.size)) H:=I0 ho ht hx
theorem A6{q:Nat}(ho:o.op=.nilCheck x:=by rfl)(hx:aP E x=some (.ref id g i q):=by rfl)(hH:H.get id=some ob:=by rfl)(hg:ob.g=g:=by rfl):cS P N o E H (.ref id g i q) H:=fN ho hx hH hg
end
section
variable{G0:aH}{fn:Func}{Q:AV->aH->Prop}{q:Exit}{r r1 r2:AV}{t1 t2:Tmp}
theorem Rt(hq:Q r [])(hf:fn.results=#[.tmp t1]:=by rfl)(ht:E.get t1=some r:=by rfl)(hc:Clo [] r:=by simp):IN P fn [] Q .ret E H:=eG (.inr rfl) hf (bD ht) (Fin.wk hc trivial trivial) hq
theorem Ru(hq:Q (.tup [r1,r2]) [])(hf:fn.results=#[.tmp t1,.tmp t2]:=by rfl)(ht:E.get t1=some r1:=by rfl)(hu:E.get t2=some r2:=by rfl)(hc:Clo [] (.tup [r1,r2]):=by simp):IN P fn [] Q .ret E H:=vI (.inr rfl) hf (bD ht) (bD hu) (Fin.wk hc trivial trivial) hq
theorem X8{T:TypeId}{i:Nat}(ha:∀w,(isAgg T).run P w=.ok true w)(hs:∀w,(sizeOf T).run P w=.ok n w)(hx:E.get t1=some (.ref id g i k):=by rfl)(hH:H.get id=some ob:=by rfl)(hg:ob.g=g:=by rfl)(hi:ob.rows[i]?=some cells:=by rfl)(hk:(cells.drop k).take n=cs:=by rfl)(hl:cs.length=n:=by rfl):JS P E H (.cell t1 T) (.agg cs):=gD hx ha hs hH hg hi hk hl
theorem Bd{c:Code}(hf:P.funcs[f]?=some fn)(hb:fn.body=some c)(hN:fn.ntmps=N)(h:gR P H N c (IN P fn H Q) (mD args) H)(hlen:args.length<=N:=by exact aP7 rfl):aI P f args H Q:=aI.body hf hb hN hlen h
end
section
variable{Q:Exit->dB->aH->Prop}{E':dB}
theorem Cn{x y:Code}(h1:b=true->gR P G0 N x Q E H)(h2:b=false->gR P G0 N y Q E H)(hc:aP E c=some (.pv (.bool b)):=by rfl):gR P G0 N (.cond c x y) Q E H:=aFt hc h1 h2
theorem Sp(t:Tmp){l:List Oper}(h1:b=true->AL P G0 N ops K l ((t,.pv (.bool true))::E) H)(h2:b=false->AL P G0 N ops K l ((t,.pv (.bool false))::E) H)(hb:E.get t=some (.pv (.bool b)):=by rfl):AL P G0 N ops K l E H:=aGC hb h1 h2
theorem Wk(hE:EOk E H' E':=by repeat' first|exact trivial|refine⟨⟨_,rfl,rfl⟩,?_,?_⟩|(simp;done)|(simp;rfl))(hH:T6 H H' H':=by repeat' first|exact trivial|refine⟨⟨_,rfl,rfl⟩,?_,?_⟩|(simp;done)|(simp;rfl))(hk:KOk H' H G0:=by repeat' first|exact trivial|refine⟨rfl,?_⟩):dA G0 E H E' H':=dA.wk hE hH hk
theorem E0(h:aGS E E':=by repeat' first|exact trivial|refine⟨⟨_,rfl,rfl⟩,?_⟩):dA G0 E H E' H:=dA.e0 h
theorem Fu{t:Tmp}(hk:AL P G0 N ops K rest (kM E dst (.tup [])) H)(hj:iM ops.toList j=some t:=by rfl)(hb:E.get t=some (.tup []):=by rfl)(hd:iN N dst=true:=by rfl):AL P G0 N ops K (⟨dst,op,ty,pos,af,some (j,want)⟩::rest) E H:=aIv rfl hj hb hd hk
end
section
variable{ops rest:List Oper}{K:List Rec->dB->aH->Prop}
theorem Nt(h:cS P N ⟨dst,op,ty,pos,af,some (j,true)⟩ (restr E (gT ops ⟨dst,op,ty,pos,af,some (j,true)⟩)) H v H)(hk:DC P N ops rest (kM E dst v) H (fun rs E' H'=>K (⟨v,none,[]⟩::rs) E' H'))(hj:iM ops j=some t:=by rfl)(hb:E.get t=some (.pv (.bool b)):=by rfl)(hw:b=true:=by first|rfl|assumption)(hd:iN N dst=true:=by rfl):DC P N ops (⟨dst,op,ty,pos,af,some (j,true)⟩::rest) E H K:=bF (aKE rfl hj hb hw h) hd hk
theorem Nf(h:cS P N ⟨dst,op,ty,pos,af,some (j,false)⟩ (restr E (gT ops ⟨dst,op,ty,pos,af,some (j,false)⟩)) H v H)(hk:DC P N ops rest (kM E dst v) H (fun rs E' H'=>K (⟨v,none,[]⟩::rs) E' H'))(hj:iM ops j=some t:=by rfl)(hb:E.get t=some (.pv (.bool b)):=by rfl)(hw:b=false:=by first|rfl|assumption)(hd:iN N dst=true:=by rfl):DC P N ops (⟨dst,op,ty,pos,af,some (j,false)⟩::rest) E H K:=bF (aKF rfl hj hb hw h) hd hk
end
theorem Zl:(∀ {α:Type} (a:α) (l:List α) (i:Nat),(a::l).drop (i+1)=l.drop i)/\(∀ {α:Type} (l:List α),l.drop 0=l)/\(∀ {α:Type} (a:α) (l:List α) (i:Nat),(a::l).take (i+1)=a::l.take i)/\(∀ {α:Type} (l:List α),l.take 0=[])/\(∀ {α:Type} (i:Nat),([]:List α).take i=[]) /\
  (∀ {α β:Type} (f:α->β) (a:α) (l:List α),(a::l).map f=f a::l.map f)/\(∀ {α β:Type} (f:α->β),[].map f=[])/\(∀ {α:Type} (a b:α) (l:List α),(a::l).set 0 b=b::l)/\(∀ {α:Type} (a b:α) (l:List α) (i:Nat),(a::l).set (i+1) b=a::l.set i b) /\
  (∀ {α:Type} (a:α) (l l2:List α),(a::l)++l2=a::(l++l2))/\(∀ {α:Type} (l:List α),[]++l=l) :=
 ⟨fun _ _ _=>rfl,fun _=>rfl,fun _ _ _=>rfl,fun l=>by simp,fun _=>by simp,fun _ _ _=>rfl,fun _=>rfl,fun _ _ _=>rfl,fun _ _ _ _=>rfl,fun _ _ _=>rfl,fun _=>rfl⟩
theorem Zo:(∀b:Bool,(false&&b)=false)/\(∀b:Bool,(true&&b)=b)/\(∀b:Bool,(b&&false)=false)/\(∀b:Bool,(b&&true)=b)/\(∀b:Bool,(true||b)=true)/\(∀b:Bool,(false||b)=b)/\(∀b:Bool,(b||true)=true)/\(∀b:Bool,(b||false)=b)/\(!true)=false/\(!false)=true:=by simp
end
theorem Ea{t:Nat}(r:EOk E H' L)(h1:∃v0,E.get t=some v0/\v0=v:=by exact⟨_,rfl,rfl⟩)(h2:Clo H' v:=by simp;rfl):EOk E H' ((t,v)::L):=⟨h1,h2,r⟩
theorem Eb{t:Nat}(r:EOk E H' L)(h1:∃v0,E.get t=some v0/\v0=v:=by exact⟨_,rfl,rfl⟩)(h2:Clo H' v:=by simp):EOk E H' ((t,v)::L):=⟨h1,h2,r⟩
theorem Ec{t:Nat}(h2:Clo H' v)(r:EOk E H' L)(h1:∃v0,E.get t=some v0/\v0=v:=by exact⟨_,rfl,rfl⟩):EOk E H' ((t,v)::L):=⟨h1,h2,r⟩
theorem Ha{t:Nat}{L:aH}(r:T6 H H' L)(h1:∃v0,H.get t=some v0/\v0=o:=by exact⟨_,rfl,rfl⟩)(h2:∀r∈o.rows,∀a∈r,Clo H' a:=by simp;rfl):T6 H H' ((t,o)::L):=⟨h1,h2,r⟩
theorem Hb{t:Nat}{L:aH}(r:T6 H H' L)(h1:∃v0,H.get t=some v0/\v0=o:=by exact⟨_,rfl,rfl⟩)(h2:∀r∈o.rows,∀a∈r,Clo H' a:=by simp):T6 H H' ((t,o)::L):=⟨h1,h2,r⟩
theorem Hc{t:Nat}{L:aH}(h2:∀r∈o.rows,∀a∈r,Clo H' a)(r:T6 H H' L)(h1:∃v0,H.get t=some v0/\v0=o:=by exact⟨_,rfl,rfl⟩):T6 H H' ((t,o)::L):=⟨h1,h2,r⟩
end
end Go.Abs
namespace Go.Proofs.YtmdicgjnmfolfaaGreatDoor
open Go.Proofs.Tryz
open Go.Abs
variable{α:Type}{k:Nat}
theorem zo3:eP Tryz.prog 3 [.pv (.int .i64 0)]:=⟨_,_,CI,.inl rfl,rfl⟩
theorem zo4:eP Tryz.prog 4 [.pv (.bool false)]:=⟨_,_,mX,.inl rfl,rfl⟩
theorem zo5:eP Tryz.prog 5 [.pv (.int .u8 0)]:=⟨_,_,CH,.inl rfl,rfl⟩
theorem zo9:eP Tryz.prog 9 [.pv (.str ⟨#[]⟩)]:=⟨_,_,tT,.inl rfl,rfl⟩
theorem aLm:eP Tryz.prog 22 [.pv (.sl [])]:=⟨_,_,aGK,.inl rfl,rfl⟩
theorem aDD:eP Tryz.prog 22 [.pv .nils]:=⟨_,_,aGK,.inr rfl,rfl⟩
theorem cB:fA Tryz.prog 22 9 1:=⟨aD,sizeOf9,by decide,_,tT⟩
theorem EF:EI Tryz.prog 9 1 16:=EI.mk (z:=(Value.string ⟨#[]⟩)) (by kernel_rfl) rfl (by decide) (by decide)
theorem aLg:eP Tryz.prog 23 [.pv .nils]:=⟨_,_,zeroValue23,.inr rfl,rfl⟩
theorem RU:fA Tryz.prog 23 153 15:=⟨cX,aX,by decide,_,aCn⟩
theorem aNF:EI Tryz.prog 153 15 216:=EI.mk (z:=(Value.agg #[(Value.int IntKind.i64 (0)),(Value.string ⟨#[]⟩),(Value.string ⟨#[]⟩),(Value.string ⟨#[]⟩),(Value.int IntKind.i64 (0)),(Value.int IntKind.i64 (0)),(Value.string ⟨#[]⟩),(Value.string ⟨#[]⟩),(Value.slice none (0) (0)),(Value.string ⟨#[]⟩),(Value.int IntKind.i64 (0)),(Value.int IntKind.i64 (0)),(Value.int IntKind.i64 (0)),(Value.slice none (0) (0)),(Value.slice none (0) (0))])) (by kernel_rfl) rfl (by decide) (by decide)
theorem aBO:eP Tryz.prog 25 [.pv (.int .i64 0),.pv (.sl []),.pv (.sl [])]:=⟨_,_,aGJ,.inl rfl,rfl⟩
theorem jG:cT Tryz.prog 25 0 0:=by refine⟨_,_,0,gQ,rfl,rfl,?_⟩;exact sizeOf3
theorem iS:cT Tryz.prog 25 1 1:=by refine⟨_,_,0,gQ,rfl,rfl,?_⟩;exact sizeOf22
theorem mN:cT Tryz.prog 25 2 2:=by refine⟨_,_,0,gQ,rfl,rfl,?_⟩;exact sizeOf22
theorem aFh:lY Tryz.prog 25 [(0,1),(1,1),(2,1)] [.pv (.int .i64 0),.pv (.sl []),.pv (.sl [])]:=⟨_,#[(0,1),(1,1),(2,1)],_,_,gQ,aGJ,.inl rfl,rfl,fun w=>by simp[sizeOf3,sizeOf22],rfl⟩
theorem aNM:lY Tryz.prog 25 [(0,1),(1,1),(2,1)] [.pv (.int .i64 0),.pv .nils,.pv .nils]:=⟨_,#[(0,1),(1,1),(2,1)],_,_,gQ,aGJ,.inr rfl,rfl,fun w=>by simp[sizeOf3,sizeOf22],rfl⟩
theorem LG:fA Tryz.prog 26 68 2:=⟨dI,sizeOf68,by decide,_,aGH⟩
theorem aOX:EI Tryz.prog 68 2 16:=EI.mk (z:=(Value.agg #[(Value.int IntKind.i64 (0)),(Value.int IntKind.i64 (0))])) (by kernel_rfl) rfl (by decide) (by decide)
theorem aJi:eP Tryz.prog 28 [.pv (.str ⟨#[]⟩),.pv (.str ⟨#[]⟩),.pv (.sl []),.pv (.sl []),.pv (.int .i64 0),.pv (.sl []),.pv (.sl [])]:=⟨_,_,zeroValue28,.inl rfl,rfl⟩
theorem wV:cT Tryz.prog 28 0 0:=by refine⟨_,_,0,mY,rfl,rfl,?_⟩;exact sizeOf9
theorem wU:cT Tryz.prog 28 1 1:=by refine⟨_,_,0,mY,rfl,rfl,?_⟩;exact sizeOf9
theorem qQ:cT Tryz.prog 28 2 2:=by refine⟨_,_,0,mY,rfl,rfl,?_⟩;exact sizeOf22
theorem lS:cT Tryz.prog 28 3 3:=by refine⟨_,_,0,mY,rfl,rfl,?_⟩;exact sizeOf26
theorem lR:cT Tryz.prog 28 4 4:=by refine⟨_,_,2,mY,rfl,rfl,?_⟩;exact sizeOf25
theorem aLT:lY Tryz.prog 28 [(0,1),(1,1),(2,1),(3,1),(4,3)] [.pv (.str ⟨#[]⟩),.pv (.str ⟨#[]⟩),.pv (.sl []),.pv (.sl []),.pv (.int .i64 0),.pv (.sl []),.pv (.sl [])]:=⟨_,#[(0,1),(1,1),(2,1),(3,1),(4,3)],_,_,mY,zeroValue28,.inl rfl,rfl,fun w=>by simp[sizeOf9,sizeOf22,sizeOf25,sizeOf26],rfl⟩
theorem NZ:eP Tryz.prog 30 [.pv (.int .i64 0),.pv (.int .i64 0),.pv (.int .i64 0),.pv (.int .i64 0),.pv (.str ⟨#[]⟩),.pv (.sl []),.pv (.sl []),.pv (.str ⟨#[]⟩),.pv (.bool false),.pv (.int .i64 0),.pv (.str ⟨#[]⟩),.pv (.int .i64 0),.pv (.sl []),.pv (.sl []),.pv (.str ⟨#[]⟩),.pv (.str ⟨#[]⟩),.pv (.sl []),.pv (.sl []),.pv (.int .i64 0),.pv (.sl []),.pv (.sl [])]:=⟨_,_,aGI,.inl rfl,rfl⟩
theorem lQ:cT Tryz.prog 30 0 0:=by refine⟨_,_,0,eA,rfl,rfl,?_⟩;exact sizeOf3
theorem qP:cT Tryz.prog 30 1 1:=by refine⟨_,_,0,eA,rfl,rfl,?_⟩;exact sizeOf3
theorem lP:cT Tryz.prog 30 2 2:=by refine⟨_,_,0,eA,rfl,rfl,?_⟩;exact sizeOf3
theorem uX:cT Tryz.prog 30 3 3:=by refine⟨_,_,0,eA,rfl,rfl,?_⟩;exact sizeOf3
theorem uW:cT Tryz.prog 30 4 4:=by refine⟨_,_,0,eA,rfl,rfl,?_⟩;exact sizeOf9
theorem kW:cT Tryz.prog 30 5 5:=by refine⟨_,_,0,eA,rfl,rfl,?_⟩;exact sizeOf22
theorem uV:cT Tryz.prog 30 6 6:=by refine⟨_,_,0,eA,rfl,rfl,?_⟩;exact sizeOf23
theorem uU:cT Tryz.prog 30 7 7:=by refine⟨_,_,0,eA,rfl,rfl,?_⟩;exact sizeOf9
theorem B3:cT Tryz.prog 30 8 8:=by refine⟨_,_,0,eA,rfl,rfl,?_⟩;exact sizeOf4
theorem sO:cT Tryz.prog 30 9 9:=by refine⟨_,_,0,eA,rfl,rfl,?_⟩;exact sizeOf3
theorem qO:cT Tryz.prog 30 10 10:=by refine⟨_,_,0,eA,rfl,rfl,?_⟩;exact sizeOf9
theorem kC:cT Tryz.prog 30 11 11:=by refine⟨_,_,2,eA,rfl,rfl,?_⟩;exact sizeOf25
theorem eU:cT Tryz.prog 30 12 14:=by refine⟨_,_,6,eA,rfl,rfl,?_⟩;exact sizeOf28
theorem W1:lY Tryz.prog 30 [(0,1),(1,1),(2,1),(3,1),(4,1),(5,1),(6,1),(7,1),(8,1),(9,1),(10,1),(11,3),(14,7)] [.pv (.int .i64 0),.pv (.int .i64 0),.pv (.int .i64 0),.pv (.int .i64 0),.pv (.str ⟨#[]⟩),.pv (.sl []),.pv (.sl []),.pv (.str ⟨#[]⟩),.pv (.bool false),.pv (.int .i64 0),.pv (.str ⟨#[]⟩),.pv (.int .i64 0),.pv (.sl []),.pv (.sl []),.pv (.str ⟨#[]⟩),.pv (.str ⟨#[]⟩),.pv (.sl []),.pv (.sl []),.pv (.int .i64 0),.pv (.sl []),.pv (.sl [])]:=⟨_,#[(0,1),(1,1),(2,1),(3,1),(4,1),(5,1),(6,1),(7,1),(8,1),(9,1),(10,1),(11,3),(14,7)],_,_,eA,aGI,.inl rfl,rfl,fun w=>by simp[sizeOf3,sizeOf4,sizeOf9,sizeOf22,sizeOf23,sizeOf25,sizeOf28],rfl⟩
theorem aNp:eP Tryz.prog 37 [.pv (.sl []),.pv (.sl []),.pv (.sl []),.pv (.int .i64 0),.pv (.sl []),.pv (.sl [])]:=⟨_,_,zeroValue37,.inl rfl,rfl⟩
theorem H7:cT Tryz.prog 37 1 1:=by refine⟨_,_,0,aCo,rfl,rfl,?_⟩;exact sizeOf22
theorem aNN:lY Tryz.prog 37 [(0,1),(1,1),(2,1),(3,1),(4,1),(5,1)] [.pv (.sl []),.pv (.sl []),.pv (.sl []),.pv (.int .i64 0),.pv (.sl []),.pv (.sl [])]:=⟨_,#[(0,1),(1,1),(2,1),(3,1),(4,1),(5,1)],_,_,aCo,zeroValue37,.inl rfl,rfl,fun w=>by simp[sizeOf3,sizeOf22,sizeOf33,sizeOf34,sizeOf35],rfl⟩
theorem aJg:eP Tryz.prog 41 [.pv (.int .i64 0)]:=⟨_,_,zeroValue41,.inl rfl,rfl⟩
theorem aLi:eP Tryz.prog 68 [.pv (.int .i64 0),.pv (.int .i64 0)]:=⟨_,_,aGH,.inl rfl,rfl⟩
theorem pC:cT Tryz.prog 68 0 0:=by refine⟨_,_,0,underlying68,rfl,rfl,?_⟩;exact sizeOf3
theorem pB:cT Tryz.prog 68 1 1:=by refine⟨_,_,0,underlying68,rfl,rfl,?_⟩;exact sizeOf3
theorem W0:lY Tryz.prog 68 [(0,1),(1,1)] [.pv (.int .i64 0),.pv (.int .i64 0)]:=⟨_,#[(0,1),(1,1)],_,_,underlying68,aGH,.inl rfl,rfl,fun w=>by simp[sizeOf3],rfl⟩
theorem R1(a0 b0:Int)(a1 b1:Int)(w:World):(Op.equalIn 10000 68 (.agg [.int .i64 a0,.int .i64 a1].toArray) (.agg [.int .i64 b0,.int .i64 b1].toArray)).run Tryz.prog w=.ok (decide (a0=b0)&&decide (a1=b1)) w:=by
 refine(run_equalIn_struct (P:=Tryz.prog) w 9999 68 _ _ (by simp[Program.fieldsOf,underlying68]) stoodInHeld68).trans ?_;have h3:∀(d:Nat) (a b:Int) (w:World),(Op.equalIn (d+1) 3 (.int .i64 a) (.int .i64 b)).run Tryz.prog w=.ok (decide (a=b)) w:=fun d a b w=>by rw[run_equalIn_int w d 3 _ _ a b underlying3];by_cases h:a=b<;>simp[h]
 by_cases e0:a0=b0<;>by_cases e1:a1=b1<;>simp[Program.fieldsOf,underlying68,Op.eqFields,part,h3,isAgg3,e0,e1]
theorem aMH:fA Tryz.prog 69 30 21:=⟨GX,aQ,by decide,_,aGI⟩
theorem aLh:eP Tryz.prog 72 [.pv (.sl [])]:=⟨_,_,zeroValue72,.inl rfl,rfl⟩
theorem aLf:eP Tryz.prog 72 [.pv .nils]:=⟨_,_,zeroValue72,.inr rfl,rfl⟩
theorem X1:fA Tryz.prog 72 9 1:=⟨underlying72,sizeOf9,by decide,_,tT⟩
theorem aNn:eP Tryz.prog 82 [.pv .nilp]:=⟨_,_,zeroValue82,.inl rfl,rfl⟩
theorem aFO:cT Tryz.prog 84 0 0:=by refine⟨_,_,0,underlying84,rfl,rfl,?_⟩;exact sizeOf9
theorem aO1:lY Tryz.prog 84 [(0,1)] [.pv (.str ⟨#[]⟩)]:=⟨_,#[(0,1)],_,_,underlying84,zeroValue84,.inl rfl,rfl,fun w=>by simp[sizeOf9],rfl⟩
theorem aNm:eP Tryz.prog 98 [.pv .nilfn]:=⟨_,_,zeroValue98,.inl rfl,rfl⟩
theorem aLp:eP Tryz.prog 122 [.pv (.int .u64 0)]:=⟨_,_,GW,.inl rfl,rfl⟩
theorem aLo:eP Tryz.prog 123 [.pv (.int .u8 0),.pv (.int .u8 0),.pv (.int .u8 0),.pv (.int .u8 0),.pv (.int .u8 0),.pv (.int .u8 0),.pv (.int .u8 0),.pv (.int .u8 0)]:=⟨_,_,zeroValue123,.inl rfl,rfl⟩
theorem xO:fA Tryz.prog 124 5 1:=⟨dH,cL,by decide,_,CH⟩
theorem ei5:EI Tryz.prog 5 1 1:=EI.mk (z:=(Value.int IntKind.u8 (0))) (by kernel_rfl) rfl (by decide) (by decide)
theorem Z6:eP Tryz.prog 128 [.pv (.int .u8 0),.pv (.int .u8 0),.pv (.int .u8 0),.pv (.int .u8 0),.pv (.int .u8 0),.pv (.int .u8 0),.pv (.int .u8 0),.pv (.int .u8 0),.pv (.int .u8 0),.pv (.int .u8 0),.pv (.int .u8 0),.pv (.int .u8 0),.pv (.int .u8 0),.pv (.int .u8 0),.pv (.int .u8 0),.pv (.int .u8 0)]:=⟨_,_,zeroValue128,.inl rfl,rfl⟩
theorem vW:fA Tryz.prog 133 20 1:=⟨underlying133,aNU,by decide,_,aGL⟩
theorem G3:eP Tryz.prog 137 [.pv .nilp,.pv .nils]:=⟨_,_,zeroValue137,.inr rfl,rfl⟩
theorem wH:cT Tryz.prog 137 0 0:=by refine⟨_,_,0,underlying137,rfl,rfl,?_⟩;exact aL0
theorem gE:cT Tryz.prog 137 1 1:=by refine⟨_,_,0,underlying137,rfl,rfl,?_⟩;exact oH
theorem jU:fA Tryz.prog 149 199 2:=⟨cV,jY,by decide,_,aCl⟩
theorem aJY:EI Tryz.prog 199 2 32:=EI.mk (z:=(Value.agg #[(Value.string ⟨#[]⟩),(Value.string ⟨#[]⟩)])) (by kernel_rfl) rfl (by decide) (by decide)
theorem Z5:eP Tryz.prog 151 [.pv (.str ⟨#[]⟩),.pv (.int .i64 0),.pv (.int .i64 0),.pv (.int .i64 0),.pv (.sl []),.pv (.sl [])]:=⟨_,_,GT,.inl rfl,rfl⟩
theorem aJf:eP Tryz.prog 151 [.pv (.str ⟨#[]⟩),.pv (.int .i64 0),.pv (.int .i64 0),.pv (.int .i64 0),.pv .nils,.pv .nils]:=⟨_,_,GT,.inr rfl,rfl⟩
theorem nU:cT Tryz.prog 151 0 0:=by refine⟨_,_,0,jL,rfl,rfl,?_⟩;exact sizeOf9
theorem dZ:cT Tryz.prog 151 1 1:=by refine⟨_,_,0,jL,rfl,rfl,?_⟩;exact sizeOf3
theorem lV:cT Tryz.prog 151 2 2:=by refine⟨_,_,1,jL,rfl,rfl,?_⟩;exact sizeOf68
theorem dT:cT Tryz.prog 151 3 4:=by refine⟨_,_,0,jL,rfl,rfl,?_⟩;exact sizeOf22
theorem eX:cT Tryz.prog 151 4 5:=by refine⟨_,_,0,jL,rfl,rfl,?_⟩;exact sizeOf149
theorem Q6:lY Tryz.prog 151 [(0,1),(1,1),(2,2),(4,1),(5,1)] [.pv (.str ⟨#[]⟩),.pv (.int .i64 0),.pv (.int .i64 0),.pv (.int .i64 0),.pv (.sl []),.pv (.sl [])]:=⟨_,#[(0,1),(1,1),(2,2),(4,1),(5,1)],_,_,jL,GT,.inl rfl,rfl,fun w=>by simp[sizeOf3,sizeOf9,sizeOf22,sizeOf68,sizeOf149],rfl⟩
theorem aLS:lY Tryz.prog 151 [(0,1),(1,1),(2,2),(4,1),(5,1)] [.pv (.str ⟨#[]⟩),.pv (.int .i64 0),.pv (.int .i64 0),.pv (.int .i64 0),.pv .nils,.pv .nils]:=⟨_,#[(0,1),(1,1),(2,2),(4,1),(5,1)],_,_,jL,GT,.inr rfl,rfl,fun w=>by simp[sizeOf3,sizeOf9,sizeOf22,sizeOf68,sizeOf149],rfl⟩
theorem O0:eP Tryz.prog 153 [.pv (.int .i64 0),.pv (.str ⟨#[]⟩),.pv (.str ⟨#[]⟩),.pv (.str ⟨#[]⟩),.pv (.int .i64 0),.pv (.int .i64 0),.pv (.str ⟨#[]⟩),.pv (.str ⟨#[]⟩),.pv (.sl []),.pv (.str ⟨#[]⟩),.pv (.int .i64 0),.pv (.int .i64 0),.pv (.int .i64 0),.pv (.sl []),.pv (.sl [])]:=⟨_,_,aCn,.inl rfl,rfl⟩
theorem fZ:cT Tryz.prog 153 0 0:=by refine⟨_,_,0,fL,rfl,rfl,?_⟩;exact sizeOf3
theorem gP:cT Tryz.prog 153 1 1:=by refine⟨_,_,0,fL,rfl,rfl,?_⟩;exact sizeOf9
theorem gV:cT Tryz.prog 153 2 2:=by refine⟨_,_,0,fL,rfl,rfl,?_⟩;exact sizeOf9
theorem lU:cT Tryz.prog 153 3 3:=by refine⟨_,_,0,fL,rfl,rfl,?_⟩;exact sizeOf9
theorem gO:cT Tryz.prog 153 4 4:=by refine⟨_,_,1,fL,rfl,rfl,?_⟩;exact sizeOf68
theorem jR:cT Tryz.prog 153 5 6:=by refine⟨_,_,0,fL,rfl,rfl,?_⟩;exact sizeOf9
theorem kD:cT Tryz.prog 153 6 7:=by refine⟨_,_,0,fL,rfl,rfl,?_⟩;exact sizeOf9
theorem eV:cT Tryz.prog 153 7 8:=by refine⟨_,_,0,fL,rfl,rfl,?_⟩;exact sizeOf22
theorem nT:cT Tryz.prog 153 8 9:=by refine⟨_,_,5,fL,rfl,rfl,?_⟩;exact sizeOf151
theorem DV:lY Tryz.prog 153 [(0,1),(1,1),(2,1),(3,1),(4,2),(6,1),(7,1),(8,1),(9,6)] [.pv (.int .i64 0),.pv (.str ⟨#[]⟩),.pv (.str ⟨#[]⟩),.pv (.str ⟨#[]⟩),.pv (.int .i64 0),.pv (.int .i64 0),.pv (.str ⟨#[]⟩),.pv (.str ⟨#[]⟩),.pv (.sl []),.pv (.str ⟨#[]⟩),.pv (.int .i64 0),.pv (.int .i64 0),.pv (.int .i64 0),.pv (.sl []),.pv (.sl [])]:=⟨_,#[(0,1),(1,1),(2,1),(3,1),(4,2),(6,1),(7,1),(8,1),(9,6)],_,_,fL,aCn,.inl rfl,rfl,fun w=>by simp[sizeOf3,sizeOf9,sizeOf22,sizeOf68,sizeOf151],rfl⟩
theorem IT:fA Tryz.prog 172 22 1:=⟨EQ,sizeOf22,by decide,_,aGK⟩
theorem aJB:eP Tryz.prog 182 [.pv (.sl [])]:=⟨_,_,zeroValue182,.inl rfl,rfl⟩
theorem aDE:eP Tryz.prog 182 [.pv .nils]:=⟨_,_,zeroValue182,.inr rfl,rfl⟩
theorem nW:fA Tryz.prog 182 187 3:=⟨gY,sizeOf187,by decide,_,aCm⟩
theorem aFX:EI Tryz.prog 187 3 32:=EI.mk (z:=(Value.agg #[(Value.int IntKind.i64 (0)),(Value.string ⟨#[]⟩),(Value.int IntKind.i64 (0))])) (by kernel_rfl) rfl (by decide) (by decide)
theorem aLn:eP Tryz.prog 187 [.pv (.int .i64 0),.pv (.str ⟨#[]⟩),.pv (.int .i64 0)]:=⟨_,_,aCm,.inl rfl,rfl⟩
theorem F7:cT Tryz.prog 187 0 0:=by refine⟨_,_,0,EP,rfl,rfl,?_⟩;exact sizeOf3
theorem lT:cT Tryz.prog 187 1 1:=by refine⟨_,_,0,EP,rfl,rfl,?_⟩;exact sizeOf9
theorem KJ:cT Tryz.prog 187 2 2:=by refine⟨_,_,0,EP,rfl,rfl,?_⟩;exact sizeOf3
theorem aJ3:lY Tryz.prog 187 [(0,1),(1,1),(2,1)] [.pv (.int .i64 0),.pv (.str ⟨#[]⟩),.pv (.int .i64 0)]:=⟨_,#[(0,1),(1,1),(2,1)],_,_,EP,aCm,.inl rfl,rfl,fun w=>by simp[sizeOf3,sizeOf9],rfl⟩
theorem aJA:eP Tryz.prog 199 [.pv (.str ⟨#[]⟩),.pv (.str ⟨#[]⟩)]:=⟨_,_,aCl,.inl rfl,rfl⟩
theorem mV:cT Tryz.prog 199 0 0:=by refine⟨_,_,0,underlying199,rfl,rfl,?_⟩;exact sizeOf9
theorem nS:cT Tryz.prog 199 1 1:=by refine⟨_,_,0,underlying199,rfl,rfl,?_⟩;exact sizeOf9
theorem aJ2:lY Tryz.prog 199 [(0,1),(1,1)] [.pv (.str ⟨#[]⟩),.pv (.str ⟨#[]⟩)]:=⟨_,#[(0,1),(1,1)],_,_,underlying199,aCl,.inl rfl,rfl,fun w=>by simp[sizeOf9],rfl⟩
theorem aJJ(a0 b0:ByteArray)(a1 b1:ByteArray)(w:World):(Op.equalIn 10000 199 (.agg [.string a0,.string a1].toArray) (.agg [.string b0,.string b1].toArray)).run Tryz.prog w=.ok (decide (a0=b0)&&decide (a1=b1)) w:=by
 refine(run_equalIn_struct (P:=Tryz.prog) w 9999 199 _ _ (by simp[Program.fieldsOf,underlying199]) stoodInHeld199).trans ?_;have h9:∀(d:Nat) (a b:ByteArray) (w:World),(Op.equalIn (d+1) 9 (.string a) (.string b)).run Tryz.prog w=.ok (decide (a=b)) w:=fun d a b w=>by rw[run_equalIn_string w d 9 a b underlying9,yB]
 by_cases e0:a0=b0<;>by_cases e1:a1=b1<;>simp[Program.fieldsOf,underlying199,Op.eqFields,part,h9,isAgg9,e0,e1]
theorem aDF:eP Tryz.prog 218 [.pv (.int .i64 0),.pv (.str ⟨#[]⟩),.pv (.int .i64 0),.pv (.int .i64 0)]:=⟨_,_,zeroValue218,.inl rfl,rfl⟩
theorem mU:cT Tryz.prog 218 0 0:=by refine⟨_,_,2,Z2,rfl,rfl,?_⟩;exact sizeOf187
theorem qR:cT Tryz.prog 218 1 3:=by refine⟨_,_,0,Z2,rfl,rfl,?_⟩;exact sizeOf41
theorem aNO:lY Tryz.prog 218 [(0,3),(3,1)] [.pv (.int .i64 0),.pv (.str ⟨#[]⟩),.pv (.int .i64 0),.pv (.int .i64 0)]:=⟨_,#[(0,3),(3,1)],_,_,Z2,zeroValue218,.inl rfl,rfl,fun w=>by simp[sizeOf41,sizeOf187],rfl⟩
theorem aJe:eP Tryz.prog 245 [.pv .nilp,.pv .nils]:=⟨_,_,zeroValue245,.inr rfl,rfl⟩
theorem nR:cT Tryz.prog 245 0 0:=by refine⟨_,_,1,underlying245,rfl,rfl,?_⟩;exact sizeOf137
theorem aLl:eP Tryz.prog 247 [.pv .nilfn]:=⟨_,_,zeroValue247,.inl rfl,rfl⟩
theorem aLk:eP Tryz.prog 269 [.pv (.str ⟨#[]⟩),.pv (.str ⟨#[]⟩),.pv (.str ⟨#[]⟩),.pv (.str ⟨#[]⟩),.pv (.str ⟨#[]⟩),.pv (.str ⟨#[]⟩)]:=⟨_,_,zeroValue269,.inl rfl,rfl⟩
theorem aNS:KN Tryz.prog 269 1 [.pv (.str ⟨#[]⟩),.pv (.str ⟨#[]⟩),.pv (.str ⟨#[]⟩),.pv (.str ⟨#[]⟩),.pv (.str ⟨#[]⟩),.pv (.str ⟨#[]⟩)]:=⟨_,_,_,_,underlying269,zeroValue269,.inl rfl,rfl,sizeOf9⟩
theorem aLj:eP Tryz.prog 270 [.pv .nilm]:=⟨_,_,zeroValue270,.inl rfl,rfl⟩
theorem aJ6:KN Tryz.prog 274 1 [.pv (.str ⟨#[]⟩),.pv (.str ⟨#[]⟩),.pv (.str ⟨#[]⟩),.pv (.str ⟨#[]⟩)]:=⟨_,_,_,_,underlying274,zeroValue274,.inl rfl,rfl,sizeOf9⟩
theorem aNR:KN Tryz.prog 280 1 [.pv (.int .i64 0),.pv (.int .i64 0),.pv (.int .i64 0),.pv (.int .i64 0),.pv (.int .i64 0),.pv (.int .i64 0)]:=⟨_,_,_,_,underlying280,zeroValue280,.inl rfl,rfl,sizeOf3⟩
theorem follows:Tryz.prog.follows .mixedOrders=true:=by kernel_rfl
structure GTag where
 key:ByteArray
 val:ByteArray
structure GObj where
 id:ByteArray
 kind:Int
 x:Int
 y:Int
 refs:List ByteArray
 tags:List GTag
structure GEdit where
 op:Int
 id:ByteArray
 other:ByteArray
 node:ByteArray
 x:Int
 y:Int
 key:ByteArray
 val:ByteArray
 refs:List ByteArray
 obj:GObj
def encStr(s:ByteArray):List PV:=[.str s]
def jH(n:Int):List PV:=[.int .i64 n]
def bJ(t:GTag):List PV:=[.str t.key,.str t.val]
def bS(o:GObj):List PV:=[.str o.id,.int .i64 o.kind,.int .i64 o.x,.int .i64 o.y,.sl (o.refs.map encStr),.sl (o.tags.map bJ)]
def aW(e:GEdit):List PV:=[.int .i64 e.op,.str e.id,.str e.other,.str e.node,.int .i64 e.x,.int .i64 e.y,.str e.key,.str e.val,.sl (e.refs.map encStr),
 .str e.obj.id,.int .i64 e.obj.kind,.int .i64 e.obj.x,.int .i64 e.obj.y,.sl (e.obj.refs.map encStr),.sl (e.obj.tags.map bJ)]
def bA(l:List ByteArray):PV:=.sl (l.map encStr)
def rD(l:List GTag):PV:=.sl (l.map bJ)
def aD6(l:List GObj):PV:=.sl (l.map bS)
def iF(l:List GEdit):PV:=.sl (l.map aW)
def zObj:GObj:=⟨⟨#[]⟩,0,0,0,[],[]⟩
theorem cJ{f:α->List PV}{l:List α}{a:α}(h:l[k]?=some a):(l.map f)[k]?=some (f a):=by rw[aPe,h];rfl
theorem aU{l:List α}(h:k<l.length):∃a,l[k]?=some a:=⟨_,aPZ h⟩
theorem QP{p:α->Bool}{l:List α}{a:α}(h:∀j,j<k->∀b,l[j]?=some b->p b=false)(hk:l[k]?=some a)(hp:p a=true):l.findIdx? p=some k:=by rw[List.findIdx?_eq_some_iff_getElem];obtain ⟨hlt,he⟩:=aPY.1 hk;refine⟨hlt,by rw[he];exact hp,fun j hj=>?_⟩;have:=h j hj l[j] (aPZ (by omega));simp[this]
theorem QR{p:α->Bool}{l:List α}(h:∀j,j<l.length->∀b,l[j]?=some b->p b=false):l.findIdx? p=none:=by rw[List.findIdx?_eq_none_iff];intro x hx;obtain ⟨j,hj⟩:=aPf.1 hx;exact h j (aPY.1 hj).1 x hj
def wT{α:Type}(p:α->Bool)(l:List α):Int:=match l.findIdx? p with|some i=>(i:Int)|none => -1
theorem aFL(p:α->Bool)(l:List α):decide (0<=wT p l)=l.any p:=by
 unfold wT;cases h:l.findIdx? p with
 | none =>
  have:l.any p=false:=by
   rw[List.findIdx?_eq_none_iff]at h;rw[List.any_eq_false];intro x hx;simp[h x hx]
  simp[this]
 | some i =>
  have:l.any p=true:=by
   rw[List.findIdx?_eq_some_iff_getElem]at h;obtain ⟨h1,h2,_⟩:=h;exact List.any_eq_true.2 ⟨_,List.getElem_mem h1,h2⟩
  simp[this]
theorem ZC(p:α->Bool)(l:List α):(wT p l = -1/\l.find? p=none)\/∃(k:Nat) (o:α),wT p l=(k:Int)/\l[k]?=some o/\l.find? p=some o:=by
 cases h:l.findIdx? p with
 |none =>
  left;refine⟨by simp[wT,h],?_⟩;rw[List.findIdx?_eq_none_iff]at h;rw[List.find?_eq_none];intro x hx;simp[h x hx]
 |some k =>
  right;have h':=h;rw[List.findIdx?_eq_some_iff_getElem]at h;obtain ⟨h1,h2,h3⟩:=h;refine⟨k,l[k],by simp[wT,h'],aPZ h1,?_⟩;rw[List.find?_eq_some_iff_getElem];exact⟨h2,k,h1,rfl,fun j hj=>by have:=h3 j hj;simpa using this⟩
theorem uE{p:α->Bool}{l:List α}{a:α}(h:∀j,j<k->∀b,l[j]?=some b->p b=false)(hk:l[k]?=some a)(hp:p a=false):∀j,j<k+1->∀b,l[j]?=some b->p b=false:=by
 intro j hj b hb;by_cases e:j=k
 ·subst e;rw[hk]at hb;cases hb;exact hp
 exact h j (by omega) b hb
theorem CG{p:α->Bool}{l:List α}(h:∀j,j<l.length->∀b,l[j]?=some b->p b=false):l.any p=false:=by rw[List.any_eq_false];intro x hx;obtain ⟨j,hj⟩:=aPf.1 hx;simp[h j (aPY.1 hj).1 x hj]
theorem yN{p:α->Bool}{l:List α}{a:α}(hk:l[k]?=some a)(hp:p a=true):l.any p=true:=List.any_eq_true.2 ⟨_,aP4 hk,hp⟩
end Go.Proofs.YtmdicgjnmfolfaaGreatDoor
namespace Go.Abs
variable{H H':aH}{x:Obj}{I:Nat->Prop}{ι:kJ}{w w':World}{id:Nat}{ob':Ob}
def N1(H:aH):aH->Prop
 | []=>True
 |(id,o)::r=>H.get id=some o/\N1 H r
theorem N1.sub{H}:∀ {L},N1 H L->Sub L H
 | [],_,id,o,h=>by cases h
 |(i,o')::r,h,id,o,a=>by
  simp[aH.get]at a;cases e:Nat.beq i _ with
  |true=>rw[e]at a;cases a;rw[<-Nat.eq_of_beq_eq_true e];exact h.1
  |false=>rw[e]at a;exact h.2.sub _ o a
theorem fW(D H)(k):aH.get (D++H) k=match D.get k with|some v=>some v|none=>H.get k:=C0 D H k
theorem aI.frame{P:Program}{f:FuncId}{args:List AV}{H0 H1:aH}{r0:AV}(h:aI P f args H0 (fun r H'=>r=r0/\H'=H1))(A:Sub H0 H)(u:eI H0)(Z:∀a∈args,Clo H0 a)
  (hk:∀id,(H1.get id).isSome=true->(H0.get id).isSome=true\/H.get id=none):aI P f args H (fun r H'=>r=r0/\H'=H1++H):=by
 intro I L w vs F hl O;refine(h I L w vs (F.restrict A u) hl (fun i v a g h2=>(O i v a g h2).restrict A (Z a (aP4 h2)))).mono ?_;rintro e w' ⟨r,H',T,D,v,rfl,⟨rfl,rfl⟩,k1,V,n⟩;obtain ⟨s,hι2⟩:∃s:kJ,s=(fun j=>if(H'.get j).isSome=true then D j else L j):=⟨_,rfl⟩;have C:∀j o,H'.get j=some o->s j=D j:=fun j o d=>by simp_all
 have J:∀j,H'.get j=none->s j=L j:=fun j d=>by simp_all
 have g1:∀j o,H'.get j=some o->aH.get (H'++H) j=some o:=fun j o d=>by rw[fW,d]
 have G:∀j,H'.get j=none->aH.get (H'++H) j=H.get j:=fun j d=>by rw[fW,d]
 have Y:∀j o,H.get j=some o->H'.get j=none->H0.get j=none:=fun j o d K=>by
  cases e:H0.get j with
  |none=>rfl
  |some o0 =>
   obtain ⟨p,W,_⟩:=n.objs j o0 e
   simp_all
 have y:∀j o b c,H.get j=some o->H'.get j=none->L j=some (b,c)->¬ JT L H0 b:=fun j o b c d K S ⟨m,p,B,l,X⟩=>by
  have:=F.inj j m o p b c B d (A _ _ l) S X;subst this;rw[Y j o d K]at l;cases l
 have M:Step I L H w T s (H'++H) w':=by
  refine⟨n.os,n.tape,n.output,n.size,fun a Z K=>n.froz a Z (fun h=>K (h.sub A)),n.imm,fun b S=>?_,?_,?_,?_⟩
  ·rcases n.immNew b S with g|g|g
   ·exact .inl g
   ·exact .inr (.inl (g.sub A))
   exact .inr (.inr g)
  ·rintro b ⟨j,o,c,d,u⟩;cases e:H'.get j with
   |some p =>
    rw[C j p e]at u;rcases n.own b ⟨j,p,c,e,u⟩with g|g
    ·exact .inl (g.sub A)
    exact .inr g
   |none =>
    rw[J j e]at u;rw[G j e]at d;exact .inl ⟨j,o,c,d,u⟩
  ·intro b S K;exact n.keep b S (fun h=>K (h.sub A))
  intro j o d;cases e:H'.get j with
  |some p =>
   rcases hk j (by rw[e];rfl)with g|g
   ·obtain ⟨o0,e0⟩:=Option.isSome_iff_exists.1 g;have:=A _ _ e0;rw[d]at this;cases this;obtain ⟨o2,q1,q2,q3⟩:=n.objs j o e0;exact⟨o2,g1 j o2 q1,q2,fun e=>by rw[C j o2 q1];exact q3 e⟩
   rw[d]at g;cases g
  |none=>exact⟨o,(G j e).trans d,aP0 _,fun _=>⟨J j e,rfl,fun _=>aP0 _⟩⟩
 have N:∀ {v:Value} {a:AV},VRel w' T D H' v a->VRel w' T s (H'++H) v a:=fun hva =>
  hva.mono' (fun _ _=>rfl) (fun _ h=>h) (fun id o ho=>⟨o,g1 id o ho,aP0 _,fun _=>⟨C id o ho,rfl,fun _=>aP0 _⟩⟩)
 refine⟨r,H'++H,T,s,v,rfl,⟨rfl,rfl⟩,N k1,⟨V.imm,fun j o d=>?_,fun j m o p b c B d l u k=>?_,V.glob⟩,M⟩
 ·cases e:H'.get j with
  |some p =>
   rw[g1 j p e]at d;obtain rfl:p=o:=Option.some.inj d;exact(V.obj j p e).keep (C j p e) (fun _ _ _ _=>⟨rfl,fun h=>h⟩) (fun r _ a _ v O=>N O)
  |none =>
   rw[G j e]at d;refine(F.obj j o d).keep (J j e) (fun U z W E=>⟨n.keep U E (y j o U z d e W),fun e3 hi=>?_⟩) (fun r _ a _ v O=>O.mono F M);rcases n.immNew U hi with g|g|g
   ·exact e3 g
   ·exact y j o U z d e W g
   omega
 cases e:H'.get j with
 | some q =>
  rw[C j q e]at u;cases x:H'.get m with
  |some Q =>
   rw[C m Q x]at k;exact V.inj j m q Q b c B e x u k
  |none =>
   rw[J m x]at k;rw[G m x]at l;have E:=F.lt ⟨m,p,B,l,k⟩;rcases n.own b ⟨j,q,c,e,u⟩with g|g
   ·exact absurd g (y m p b B l x k)
   omega
 | none =>
  rw[J j e]at u;rw[G j e]at d;cases x:H'.get m with
  |some Q =>
   rw[C m Q x]at k;have E:=F.lt ⟨j,o,c,d,u⟩;rcases n.own b ⟨m,Q,B,x,k⟩with g|g
   ·exact absurd g (y j o b c d e u)
   omega
  |none =>
   rw[J m x]at k;rw[G m x]at l;exact F.inj j m o p b c B d l u k
section
structure KeyKind(α:Type) where
 d:TypeDesc
 pv:α->PV
 val:α->Value
 rel:∀(w:World) (I:Nat->Prop) (v:Value) (a:α),PRep w I v (pv a)->v=val a
 inj:∀a b,val a=val b->a=b
 is:∀a,MapKept.IsKey d (val a)
 rep:∀(w:World) (I:Nat->Prop) (a:α),PRep w I (val a) (pv a)
def aB0:KeyKind ByteArray:=⟨.string,.str,.string,fun _ _ _ _ h=>by cases h;rfl,fun _ _ h=>by cases h;rfl,fun _=>trivial,fun _ _ _=>.str _⟩
def aFg:KeyKind Bool:=⟨.bool,.bool,.bool,fun _ _ _ _ h=>by cases h;rfl,fun _ _ h=>by cases h;rfl,fun _=>trivial,fun _ _ _=>.bool _⟩
def qZ{α:Type}(κ:KeyKind α)(l:List (α×AV)):List (List AV):=l.mapIdx fun i p=>[.pv (κ.pv p.1),p.2,.pv (.int .i64 i)]
theorem HN{α}{κ:KeyKind α}{l}{i:Nat}{r}:(qZ κ l)[i]?=some r↔∃p,l[i]?=some p/\r=[.pv (κ.pv p.1),p.2,.pv (.int .i64 i)]:=by
 rw[qZ]
 grind
theorem FU{α}(κ:KeyKind α)(l):(qZ κ l).length=l.length:=by simp[qZ]
theorem aA0{α}{κ:KeyKind α}{H}{w}{I}{ι}{v}{k}(h:VRel w I ι H v (.pv (κ.pv k))):v=κ.val k:=κ.rel _ _ _ _ h.pv_inv
section
variable{α:Type}
structure MapAt(w:World)(I:Nat->Prop)(ι:kJ)(H:aH)(κ:KeyKind α)(l:List (α×AV))(es:Array MapEntry):Prop where
 size:es.size=l.length
 rel:∀(i:Nat) (p:α×AV),l[i]?=some p->∃e,es[i]?=some e/\e.born=i/\e.key=κ.val p.1/\VRel w I ι H e.val p.2
theorem aEb{w}{I}{ι}{H}{id b}{ob}{κ:KeyKind α}{l}(h:lA w I ι H id ob)(o:ob.sz=0)(d:ι id=some (b,0))(c:ob.rows=qZ κ l):
  ∃f,w.heap[b]?=some (.map f ob.ty)/\¬ I b/\MapAt w I ι H κ l f:=by
 obtain ⟨_,b',f,g,r,t,u,e5,e6,v⟩:=h.map o d;rw[d]at g;cases g;refine⟨f,r,t,⟨by rw[u,c,FU],fun i p j=>?_⟩⟩;obtain ⟨e,k,a,n,q,y,s,x,m⟩:=v i _ (by rw[c];exact HN.2 ⟨p,j,rfl⟩);cases y;exact⟨e,q,by injection m.int_inv with _ hh;omega,κ.rel _ _ _ _ s.pv_inv,x⟩
theorem MapAt.born{w}{I}{ι}{H}{κ:KeyKind α}{l}{c}(h:MapAt w I ι H κ l c){i}{e}(hi:c[i]?=some e):e.born=i/\i<l.length:=by
 have a:i<l.length:=by rw[<-h.size];grind
 obtain ⟨e',b,d,_⟩:=h.rel i _ (aPZ a);rw[hi]at b;cases b;exact⟨d,a⟩
section
variable{id b cap:Nat}{ob ob':Ob}
def World.setObj(w:World)(b:Nat)(x:Obj):World:={w with heap:=w.heap.setIfInBounds b x}
def aAn:Obj->Bool
 |.cells ..=>true
 |_=>false
theorem Rel.rewrite{x0:Obj}(g:Rel I ι H w)(B:H.get id=some ob)(k:ι id=some (b,cap))(hz:ob.sz=0)(O:w.heap[b]?=some x0)(h0:aAn x0=false)(hx:aAn x=false)(hg:ob'.g=ob.g)(hz':ob'.sz=0)
  (n:w.heap.size=(World.setObj w b x).heap.size->(World.setObj w b x).heap[b]?=some x->¬ I b->(∀v a,VRel w I ι H v a->VRel (World.setObj w b x) I ι H' v a)->lA (World.setObj w b x) I ι H' id ob')
  (K:H'.get id=some ob') (G:∀j,j≠id->H'.get j=H.get j):Rel I ι H' (World.setObj w b x)/\Step I ι H w I ι H' (World.setObj w b x):=by
 have p:JT ι H b:=⟨id,ob,cap,B,k⟩;obtain ⟨A,i⟩:=MapKept.heap_set (w:=w) (o':=x) O;have d:Step I ι H w I ι H' (World.setObj w b x):=by
  refine⟨rfl,rfl,rfl,by simp[World.setObj],fun a _ _=>?_,fun _ h=>h,fun _ h=>.inl h,?_,?_,?_⟩
  ·by_cases e:a.block=b
   ·simp_all
   simp[World.frozen?,World.setObj,i _ e]
  ·rintro y ⟨j,o,c,f,C⟩;by_cases e:j=id
   ·simp_all
   exact .inl ⟨j,o,c,(G j e).symm.trans f,C⟩
  ·intro y _ s;exact i y (fun e=>s (e▸p))
  grind
 refine⟨⟨fun y s=>by simpa[World.setObj]using g.imm y s,?_,?_,d.glob g⟩,d⟩
 ·intro j o f;by_cases e:j=id
  ·subst e;rw[K]at f;cases f;exact n (by simp[World.setObj]) A ((g.obj j ob B).block k).2 (fun v a D=>D.mono g d)
  rw[G j e]at f;exact(g.obj j o f).keep rfl (fun y c s _=>⟨i y (fun E=>e (g.inj j id o ob b c cap f B (E▸s) k)),fun h=>h⟩) (fun r _ a _ v D=>D.mono g d)
 intro j F o N y c L f u C t;have l:∀j o,H'.get j=some o->∃o,H.get j=some o:=by
  grind
 obtain ⟨q,J⟩:=l j o f;obtain ⟨M,z⟩:=l F N u;exact g.inj j F q M y c L J z C t
theorem Rel.remap{κ:KeyKind α}{l:List (α×AV)}{q c:Array MapEntry}{u:Nat}(z:Rel I ι H w)(x:H.get id=some ob)(g:ι id=some (b,0))(B:ob.sz=0)(y:w.heap[b]?=some (.map q u))(D:ob'.g=ob.g)(h:ob'.sz=0)(hty:ob'.ty=l.length)(a:ob'.rows=qZ κ l)
  (f:MapAt w I ι H κ l c) (v:H'.get id=some ob') (E:∀j,j≠id->H'.get j=H.get j):Rel I ι H' (World.setObj w b (.map c l.length))/\Step I ι H w I ι H' (World.setObj w b (.map c l.length)):=by
 refine z.rewrite x g B y rfl rfl D h (fun _ hs1 A d=>?_) v E;refine .inr (.inl ⟨h,b,c,g,by simp_all,A,by rw[f.size,a,FU],fun i e o=>?_,fun i j e e' hij o F=>?_,fun i r k=>?_⟩)
 ·obtain ⟨m,n⟩:=f.born o
  simp_all
 ·have m:=(f.born o).1;have n:=(f.born F).1;omega
 rw[a]at k;obtain ⟨p,s,rfl⟩:=HN.1 k;obtain ⟨e,m,n,C,t⟩:=f.rel i p s;exact⟨e,_,_,_,m,rfl,by rw[C];exact .pv (κ.rep _ _ p.1),d _ _ t,by rw[n];exact .pv (.int _ _)⟩
end
theorem aEa{w}{I}{ι}{H}{v}{id g}{ob}(h:VRel w I ι H v (.mp id g))(hH:H.get id=some ob)(hg:ob.g=g):ob.sz=0/\∃b,ι id=some (b,0)/\v=.map (some b):=by
 cases h with
 |mp o' h1 h2 _ h3 =>
  simp_all
variable [DecidableEq α]
def OO:List (α×AV)->α->Option AV
 | [],_=>none
 |(k',a)::r,k=>if k'=k then some a else OO r k
def yA:List (α×AV)->α->AV->List (α×AV)
 | [],k,v=>[(k,v)]
 |(k',a)::r,k,v=>if k'=k then(k,v)::r else(k',a)::yA r k v
def aHy:List (α×AV)->α->List (α×AV)
 | [],_=>[]
 |(k',a)::r,k=>if k'=k then r else(k',a)::aHy r k
theorem S5{w:World}{I:Nat->Prop}{ι:kJ}{H:aH}(κ:KeyKind α)(k:α):∀(l:List (α×AV)) (g:List MapEntry) (i:Nat),g.length=l.length->(∀(i:Nat) (p:α×AV),l[i]?=some p->∃e,g[i]?=some e/\e.key=κ.val p.1/\VRel w I ι H e.val p.2) ->
  (Instr.findNow κ.d (κ.val k) g i=some none/\OO l k=none/\∀v,yA l k v=l++[(k,v)]) \/
  ∃j e a,Instr.findNow κ.d (κ.val k) g i=some (some (i+j,e.val))/\g[j]?=some e/\e.key=κ.val k/\OO l k=some a/\VRel w I ι H e.val a/\l[j]?=some (k,a)/\(∀v,yA l k v=l.set j (k,v))/\aHy l k=l.eraseIdx j
 | [],[],i,_,_=>.inl ⟨rfl,rfl,fun _=>rfl⟩
 | (n,a)::l,e::g,i,hl,x=>by
  obtain ⟨e0,C,m,B⟩:=x 0 (n,a) rfl;cases C;obtain ⟨r,h,d⟩:=MapKept.sameNow_of_keys (κ.is k) (show MapKept.IsKey κ.d e.key by rw[m];exact κ.is n);by_cases f:n=k
  ·subst f;have t:r=true:=d.2 m.symm;subst t;exact .inr ⟨0,e,a,by simp[Instr.findNow,h],rfl,m,by simp[OO],B,rfl,fun v=>by simp[yA],by simp[aHy]⟩
  have s:r=false:=by
   cases r with
   |false=>rfl
   |true=>exact absurd (κ.inj _ _ ((d.1 rfl).trans m)).symm f
  subst s;rcases S5 κ k l g (i+1) (by simp_all) (fun i p y=>x (i+1) p y)with⟨o,u,q⟩|⟨j,E,F,o,u,q,D,G,h6,A,z⟩
  ·exact .inl ⟨by simp[Instr.findNow,h,o],by simp[OO,f,u],fun v=>by simp[yA,f,q]⟩
  exact .inr ⟨j+1,E,F,by simp[Instr.findNow,h,o];omega,by simp_all,q,by simp[OO,f,D],G,by simp_all,fun v=>by simp[yA,f,A],by simp[aHy,f,z]⟩
section
variable{P:Program}{N:Nat}{o:Oper}{E:dB}{T kt et:TypeId}{x y z:Operand}{κ:KeyKind α}{l:List (α×AV)}{id g:Nat}{ob:Ob}{k:α}
theorem LY{zv:Value}{v0:AV}(u:o.op=.lookup T x y false)(A:P.underlying T=some (.map kt et))(hd:P.underlying kt=some κ.d)(O:aP E x=some (.mp id g))(s:H.get id=some ob)(Q:ob.g=g)
  (d:ob.rows=qZ κ l) (G:aP E y=some (.pv (κ.pv k))) (S:∀w,(zeroValue et).run P w=.ok zv w) (D:ZV zv v0):cS P N o E H ((OO l k).getD v0) H :=
 .of_run fun a w I ι J t=>by
  obtain ⟨q,b,r,m⟩:=aEa (aJ t O) s Q;obtain ⟨R,C,e3,v⟩:=aEb (J.obj id ob s) q r d;have h:=aA0 (aJ t G);rcases S5 κ k l R.toList 0 (by simpa using v.size) (fun i p U=>let ⟨e,q1,_,M⟩:=v.rel i p U;⟨e,by simp_all,M⟩)with⟨n,B,L⟩|⟨j,e,a',n,B,L,F,K,_⟩
  ·refine⟨zv,?_,by rw[B];exact D.rel⟩;simp only[execOp,u,m,h];simp[Instr.lookup,run_underlying A,MapKept.run_getObj_map C,MapKept.run_checkKey hd (κ.is k),MapKept.run_findKey hd n,S]
  refine⟨e.val,?_,by rw[F];exact K⟩;simp only[execOp,u,m,h];simp[Instr.lookup,run_underlying A,MapKept.run_getObj_map C,MapKept.run_checkKey hd (κ.is k),MapKept.run_findKey hd n]
theorem OC{v:AV}{H2:aH}(C:o.op=.mapUpdate T x y z\/o.op=.insert T x y z)(hT:P.underlying T=some (.map kt et))(hd:P.underlying kt=some κ.d)(hx:aP E x=some (.mp id g))(X:H.get id=some ob)(hg:ob.g=g)
  (hty:ob.ty=l.length) (s:ob.rows=qZ κ l) (hy:aP E y=some (.pv (κ.pv k))) (hz:aP E z=some v) (V:H.set id {ob with ty:=(yA l k v).length,rows:=qZ κ (yA l k v)}=H2):cS P N o E H .any H2:=by
 intro a w I ι _ _ hr he K Q J;obtain ⟨r,b,G,D⟩:=aEa (aJ he hx) X hg;obtain ⟨R,A,e3,n⟩:=aEb (hr.obj id ob X) r G s;rw[hty]at A;have B:=aA0 (aJ he hy);have L:=aJ he hz;subst V;have O:∀t,(Instr.mapUpdate T (a.eval x) (a.eval y) (a.eval z)).run P w=.ok () (World.setObj w b (.map t (yA l k v).length))->MapAt w I ι H κ (yA l k v) t->o.wpW P a w K Q:=by
  intro t q hm;obtain ⟨k2,k3⟩:=Rel.remap (H':=H.set id {ob with ty:=(yA l k v).length,rows:=qZ κ (yA l k v)}) (ob':={ob with ty:=(yA l k v).length,rows:=qZ κ (yA l k v)}) hr X G r A rfl r rfl rfl hm (aH.get_set_same _ _ _) (fun j u=>aH.get_set_other _ _ u);unfold Oper.wpW execOp;rcases C with C|C
  ·simp only[C,Sem.run_bind,q,Result.andThen_ok,Sem.run_pure];exact J _ _ I ι _ _ ⟨rfl,rfl⟩ (.any _) k2 k3
  simp only[C,Sem.run_bind,q,Result.andThen_ok,Sem.run_pure];exact J _ _ I ι _ _ ⟨rfl,rfl⟩ (.any _) k2 k3
 rcases S5 κ k l R.toList 0 (by simpa using n.size) (fun i p f=>let ⟨e,U,_,q3⟩:=n.rel i p f;⟨e,by simp_all,q3⟩)with⟨Y,h2,F⟩|⟨j,e,a',Y,h2,F,h4,h5,h6,S,h8⟩
 ·refine O (R.push {key:=κ.val k,val:=a.eval z,born:=l.length}) ?_ ⟨?_,?_⟩
  ·simp[Instr.mapUpdate,D,B,run_underlying hT,MapKept.run_getObj_map A,MapKept.run_checkKey hd (κ.is k),MapKept.run_findKey hd Y,MapKept.run_setObj_map _ A,World.setObj,F]
  ·rw[F];simp[n.size]
  intro i p f;rw[F]at f;by_cases hi:i<l.length
  ·rw[List.getElem?_append_left hi]at f;obtain ⟨e,U,q2⟩:=n.rel i p f
   grind
  rw[List.getElem?_append_right (by omega)]at f;cases M:i - l.length with
  |zero =>
   rw[M]at f;cases f;exact⟨_,by rw[Array.getElem?_push,aPT (by rw[n.size];omega)],by show l.length=i;omega,rfl,L⟩
  |succ m=>rw[M]at f;simp at f
 have u:R[j]?=some e:=by simpa using h2
 have Z:j<R.size:=(Array.getElem?_eq_some_iff.1 u).1;have W:(yA l k v).length=l.length:=by rw[S];simp
 refine O (R.modify j fun e=>{e with key:=κ.val k,val:=a.eval z}) ?_ ⟨?_,?_⟩
 ·simp[Instr.mapUpdate,D,B,run_underlying hT,MapKept.run_getObj_map A,MapKept.run_checkKey hd (κ.is k),MapKept.run_findKey hd Y,u,F,MapKept.run_keyThatStays (κ.is k),MapKept.run_setObj_map _ A,World.setObj,W]
 ·rw[S];simp[n.size]
 intro i p f;rw[S]at f;by_cases e:i=j
 ·subst e;rw[List.getElem?_set_self (by rw[<-n.size];exact Z)]at f;cases f;exact⟨{e with key:=κ.val k,val:=a.eval z},by rw[Array.getElem?_modify,aPT rfl,u];rfl,(n.born u).1,rfl,L⟩
 rw[List.getElem?_set_ne (Ne.symm e)]at f;obtain ⟨e',U,q2⟩:=n.rel i p f;exact⟨e',by rw[Array.getElem?_modify,aPS (Ne.symm e)];exact U,q2⟩
theorem Rel.placeX{cap:Nat}{x:Obj}(n:Rel I ι H w)(G:w'.os=w.os)(q:w'.tape=w.tape)(D:w'.output=w.output)(hw:w'.heap=w.heap.push x)
  (hold:∀o,H.get id=some o->o.g<ob'.g)
  (F:w'.heap[w.heap.size]?=some x->¬ I w.heap.size->(∀v a,VRel w I ι H v a->VRel w' I (fun j=>if j=id then some (w.heap.size,cap)else ι j) H' v a)->lA w' I (fun j=>if j=id then some (w.heap.size,cap)else ι j) H' id ob')
  (Q:H'.get id=some ob') (u:∀j,j≠id->H'.get j=H.get j) :
  Rel I (fun j=>if j=id then some (w.heap.size,cap)else ι j) H' w'/\Step I ι H w I (fun j=>if j=id then some (w.heap.size,cap)else ι j) H' w':=by
 have A:w'.heap[w.heap.size]?=some x:=by simp_all
 have b:∀x,x<w.heap.size->w'.heap[x]?=w.heap[x]?:=fun x s=>by grind
 have hsize:w'.heap.size=w.heap.size+1:=by simp_all
 have m:Step I ι H w I (fun j=>if j=id then some (w.heap.size,cap)else ι j) H' w':=by
  refine⟨G,q,D,by omega,fun a M _=>?_,fun _ h=>h,fun _ h=>.inl h,?_,fun x s _=>b x s,?_⟩
  ·simp[World.frozen?,b a.block M]
  ·rintro x ⟨j,o,c,p,i⟩;by_cases e:j=id
   ·simp only[e,if_true]at i;cases i;exact .inr (aP0 _)
   simp only[e,if_false]at i;exact .inl ⟨j,o,c,(u j e).symm.trans p,i⟩
  grind
 refine⟨⟨fun x s=>by have:=n.imm x s;omega,?_,?_,m.glob n⟩,m⟩
 ·intro j o p;by_cases e:j=id
  ·subst e;rw[Q]at p;cases p;exact F A (fun O=>Nat.lt_irrefl _ (n.imm _ O)) (fun v a J=>J.mono n m)
  rw[u j e]at p;exact(n.obj j o p).keep (by simp[e]) (fun x c _ s=>⟨b x s,fun h=>h⟩) (fun r _ a _ v J=>J.mono n m)
 intro j C o L x c K p B i f;by_cases e:j=id<;>by_cases t:C=id
 ·rw[e,t]
 ·simp only[e,if_true]at i;simp only[t,if_false]at f;cases i;have:=n.lt ⟨C,L,K,(u C t).symm.trans B,f⟩;exact absurd this (Nat.lt_irrefl _)
 ·simp only[e,if_false]at i;simp only[t,if_true]at f;cases f;have:=n.lt ⟨j,o,c,(u j e).symm.trans p,i⟩;exact absurd this (Nat.lt_irrefl _)
 simp only[e,if_false]at i;simp only[t,if_false]at f;exact n.inj j C o L x c K ((u j e).symm.trans p) ((u C t).symm.trans B) i f
theorem Rel.placeM(i:Rel I ι H w)(e:w'.os=w.os)(a:w'.tape=w.tape)(c:w'.output=w.output)(n:w'.heap=w.heap.push (.map #[] 0))
  (b:∀o,H.get id=some o->o.g<ob'.g) (d:ob'.sz=0) (hty:ob'.ty=0) (hrows:ob'.rows=[]) (f:H'.get id=some ob') (m:∀j,j≠id->H'.get j=H.get j) :
  Rel I (fun j=>if j=id then some (w.heap.size,0)else ι j) H' w'/\Step I ι H w I (fun j=>if j=id then some (w.heap.size,0)else ι j) H' w' :=
 i.placeX e a c n b (fun hnew h _=>.inr (.inl ⟨d,w.heap.size,#[],by simp,by simp_all,h,by simp_all,by simp,by simp,by simp_all⟩)) f m
theorem aIH{I}{ι}{w}{id gg}(c:Rel I ι H w)(b:∀o,H.get id=some o->o.g<gg):
  ∃a,VRel (w.alloc (.map #[] 0)) I a ((id,⟨gg,0,0,[]⟩)::H) (.map (some w.heap.size)) (.mp id gg)/\Rel I a ((id,⟨gg,0,0,[]⟩)::H) (w.alloc (.map #[] 0))/\Step I ι H w I a ((id,⟨gg,0,0,[]⟩)::H) (w.alloc (.map #[] 0)):=by
 obtain ⟨d,f⟩:=Rel.placeM (ob':=⟨gg,0,0,[]⟩) (w':=w.alloc _) c rfl rfl rfl rfl b rfl rfl rfl (get_cons_same _ _ _) (fun j e=>get_cons_other _ _ e);exact⟨_,.mp _ (get_cons_same _ _ _) (aP0 _) rfl fun _=>⟨rfl,w.heap.size,by simp,rfl⟩,d,f⟩
theorem BR{α}(κ:KeyKind α)(b:o.op=.makeMap T none)(hid:H.get id=none):cS P N o E H (.mp id 0) ((id,⟨0,0,([]:List (α×AV)).length,qZ κ []⟩)::H):=by intro a w I ι _ _ h he K Q d;obtain ⟨ι',e,c,f⟩:=aIH (id:=id) h (fun o b=>by simp_all);unfold Oper.wpW execOp;simp[b,Instr.makeMap,Option.map_none,Sem.run_bind,run_newObj,Sem.run_pure,Result.andThen_ok];exact d _ _ I _ _ _ ⟨rfl,rfl⟩ e c f
theorem IP{v}{b}(f:o.op=.mapUpdate T x y z\/o.op=.insert T x y z)(i:P.underlying T=some (.map kt et))(hd:P.underlying kt=some κ.d)(j:aP E x=some (.mp id g))(e:H.get id=some ob)(d:ob.g=g)
  (c:ob.ty=l.length) (a:ob.rows=qZ κ l) (h:aP E y=some (.pv (κ.pv k))) (n:aP E z=some v) (m:yA l k v=b):cS P N o E H .any ((id,⟨g,ob.sz,b.length,qZ κ b⟩)::H):=by
 subst d m;exact(OC f i hd j e rfl c a h n rfl).congr (tZ _ _ _)
end
end
end
section
section
variable{P:Program}{N:Nat}{o:Oper}{E:dB}{f:Operand}{args:Array Operand}{at_:Array TypeId}{F:FuncId}{fn:Func}{e:Array Value->Sem Value}{vs:List AV}{r:AV}
def aIy(P:Program)(e:Array Value->Sem Value)(H:aH)(vs:List AV)(r:AV):Prop :=∀(w:World) (I:Nat->Prop) (ι:kJ) (cs:Array Value),cs.size=vs.length->(∀(i:Nat) (v:Value) (a:AV),cs[i]?=some v->vs[i]?=some a->VRel w I ι H v a)->∃c,(e cs).run P w=.ok c w/\VRel w I ι H c r
theorem KB(p:o.op=.call {callee:=.value f,args:=args,argTypes:=at_})(x:aP E f=some (.pv (.fn F)))(s:P.funcs[F]?=some fn)(g:(fn.name == "runtime.NumGoroutine")=false)
  (k:fn.body.isNone=true) (q:Extern.findNext fn=none) (u:Extern.find fn=some e) (n:wM E args.toList=some vs) (h:aIy P e H vs r):cS P N o E H r H :=
 .of_run fun a w I z hr m=>by
  have l:=(aJ m x).fn_inv;obtain ⟨h1,y⟩:=nK m (lW n);obtain ⟨c,t,j⟩:=h w I z (args.map a.eval) (by simp_all) (fun i v b n k=>y i v b (by simp_all) k);refine⟨c,?_,j⟩;unfold execOp;simp only[p,resolve,l,Deferred.ofValue,Sem.run_bind,Sem.run_pure,Result.andThen_ok,invoke,Array.empty_append,Array.append_empty,run_callFunc_extern s g k q u,t]
theorem UC{w}{I}{ι}{H}{x y}{cs}(b:cs.size=[x,y].length)(h:∀(i:Nat) (v) (a),cs[i]?=some v->[x,y][i]?=some a->VRel w I ι H v a):∃u v,cs=#[u,v]/\VRel w I ι H u x/\VRel w I ι H v y:=by
 obtain ⟨l⟩:=cs
 match l,b with
 | [u,v],_=>exact⟨u,v,rfl,h 0 u x rfl rfl,h 1 v y rfl rfl⟩
theorem OS(s)(c):aIy P Extern.BytealgIndexByte.indexByte H [.pv (.str s),.pv (.int .u8 c)] (.pv (.int .i64 (Lib.indexByte s.data.toList c.toNat.toUInt8))):=by intro w I ι cs b h;obtain ⟨u,v,rfl,d,g⟩:=UC b h;rw[d.str_inv,g.int_inv];exact⟨_,Lib.run_indexByteString s c w,.pv (.int _ _)⟩
end
theorem jX{P}{G0}{N}{ops}{K}{E:dB}{H}{l}{t:Tmp}{v}(hb:E.get t=some v)(h:AL P G0 N ops K l ((t,v)::E) H):AL P G0 N ops K l E H:=by
 intro G c a w d;refine h G c a w (dA.sub (fun k u b=>?_) G c N a w d);by_cases e:t=k
 ·subst e;rw[dB.get_cons_same]at b
  grind
 rwa [dB.get_cons_other _ _ e]at b
end
end Go.Abs
namespace Go.Proofs.YtmdicgjnmfolfaaGreatDoor
open Go.Proofs.Tryz
open Go.Abs
variable{c n k:Nat}{p:Nat->Bool}{α:Type}
theorem wP(s:ByteArray)(c:Int)(H:aH):aI Tryz.prog 180 [.pv (.str s),.pv (.int .u8 c)] H (fun r H'=>r=.pv (.int .i64 (Lib.indexByte s.data.toList c.toNat.toUInt8))/\H'=H):=by refine Pu ?_;exact Bd func180 rfl ntmps180<|Sr<|Dd aL<|Zz<|Sr<|Dd aE<|Dd aE<|Dd (by exact KB rfl rfl func214 rfl rfl rfl rfl rfl (OS s c))<|Dd aL<|Zz<|aB<|Rt<|Qq
theorem pQ(s:ByteArray)(c:Int)(H:aH):aI Tryz.prog 140 [.pv (.str s),.pv (.int .u8 c)] H (fun r H'=>r=.pv (.int .i64 (Lib.indexByte s.data.toList c.toNat.toUInt8))/\H'=H):=by refine Pu ?_;exact Bd func140 rfl ntmps140<|Sr<|Dd aL<|Zz<|Sr<|Dd aE<|Dd aE<|Dd (by exact aA rfl rfl aOb rfl (wP s c _))<|Dd aL<|Zz<|aB<|Rt<|Qq
abbrev aJy:ByteArray:=⟨#[32,9,10]⟩
abbrev aNz:ByteArray:=⟨#[59,44,46,58,40,41,123,125,91,93,61,60,62,47,45]⟩
def ZB(s:ByteArray)(n:Int):Bool:=decide (0<=Lib.indexByte s.data.toList n.toNat.toUInt8)
def sE(n:Int):Bool:=(decide (97<=n)&&decide (n<=122))||(decide (65<=n)&&decide (n<=90))
def AT(n:Int):Bool:=decide (48<=n)&&decide (n<=57)
def DE(n:Int):Int:=if sE n then 3 else if AT n then 4 else if ZB aJy n then 1 else if ZB aNz n then 6 else 0
def CD(n:Int):Int:=if n=34 then 7 else if n=95 then 5 else if n=35 then 2 else DE n
def oE(c:Nat):List AV:=(List.range 256).map fun(i:Nat)=>.pv (.int .u8 (if i<c then DE i else 0))
def sP:List AV:=(List.range 256).map fun(i:Nat)=>.pv (.int .u8 (CD i))
theorem iX(c:Nat):(oE c).length=256:=by simp[oE]
theorem rK(hc:c<256){v:Int}(hv:DE c=v):(oE c).set c (.pv (.int .u8 v))=oE (c+1):=by
 apply List.ext_getElem
 ·simp[oE]
 intro i h1 h2;simp only[oE,aPU,List.length_range]at h2;rw[List.getElem_set]
 split
 ·next e=>subst e;simp[oE,hv]
 next e=>simp only[oE,List.getElem_map,List.getElem_range];congr 2;by_cases h:i<c<;>by_cases h':i<c+1<;>simp[h,h']<;>omega
theorem WX(hc:c<256)(hv:DE c=0):oE c=oE (c+1):=by
 rw[<-rK hc hv];apply List.ext_getElem
 ·simp
 intro i h1 h2;rw[List.getElem_set]
 split
 ·next e=>subst e;simp[oE]
 rfl
theorem WW:List.replicate 256 (.pv (.int .u8 0))=oE 0:=by kernel_rfl
theorem WY:(((oE 256).set 35 (.pv (.int .u8 2))).set 95 (.pv (.int .u8 5))).set 34 (.pv (.int .u8 7))=sP:=by kernel_rfl
theorem ZQ{m:Nat}(h:m<256):sP[m]?=some (.pv (.int .u8 (CD m))):=by simp[sP,h]
theorem mW(c:Nat)(H:aH):∀r∈[oE c],∀a∈r,Clo H a:=by intro r hr a ha;rw[aPX]at hr;subst hr;obtain ⟨i,_,rfl⟩:=List.mem_map.1 ha;simp
theorem WV(H:aH):Clo H (.agg sP):=by rw[TC];intro a ha;obtain ⟨i,_,rfl⟩:=List.mem_map.1 ha;simp
theorem Z4:eP Tryz.prog 158 (List.replicate 256 (.pv (.int .u8 0))):=⟨_,.agg (List.replicate 256 (.pv (.int .u8 0))),zeroValue158,.inl (by kernel_rfl),rfl⟩
theorem Q3 (H:aH):aI Tryz.prog 123 [] H (fun r H'=>r=.agg sP/\H'=H):=by
  refine Pu ?_;refine Bd func123 rfl ntmps123<|Sr<|Dd (by exact bW (id:=0) rfl Z4 rfl rfl)<|Zz<|Sr<|Dd (by exact bW (id:=1) rfl Z4 rfl rfl)<|Zz<|Sq<|Sr<|Dd aE<|Zz<|aG ?_;rw[WW];refine bT (σ:=Nat) (fun c=>([(0,.ref 0 0 0 0),(1,.ref 1 0 0 0),(4,iv (c:Int))],[(1,bx 256 158 (oE c)),(0,bx 256 158 (oE 0))])) (fun c=>c<=256) (fun c=>256 - c) 0 (by omega) ?_ ?_
  · exact(dA.wk (Ea<|Ea<|Eb<|trivial) (Hc (mW _ _)<|Hc (mW _ _)<|trivial) trivial)
  · intro c hc
    refine Sr<|Dd cZ<|Zz<|Sq ?_;refine Cn ?_ ?_<;>intro hc1
    · have hlt:c<256:=by have:=aPQ hc1;omega
      refine aC<|Sq<|aG<|Sr<|Dd aE<|Dd aL<|Zz<|Sr<|Dd aE<|Dd (by exact hU rfl underlying3 fQ rfl (by exact wu8 (by omega) (by omega)))<|Dd aL<|Zz<|aG<|Sq<|Sq ?_;refine aT (t:=9) (n:=8) (X:=decide (97<=(c:Int))&&decide ((c:Int)<=122)) ?_ ?_
      · all_goals refine Dd aE ?_
        all_goals refine Dd GQ<|Dm ?_
        all_goals refine Sp 12 (fun h12=>?_) fun h12=>?_
        all_goals try contradiction
        all_goals first|refine Fo<|Fo ?_|refine On aE<|On GQ ?_
        all_goals refine Dd cG<|Da ?_
        all_goals(exact⟨⟨_,rfl,by(simp only[*,Zo];done)⟩,rfl,rfl,rfl⟩)
      refine Cn ?_ ?_<;>intro hc2
      · have hv:DE c=3:=by rw[DE,sE,hc2];rfl
        refine aC ?_;refine Cn ?_ ?_<;>intro hc3
        · skip
          refine Rg<|Dd aE<|Dd (by exact eJ (k2:=c) rfl fK cL rfl rfl rfl rfl (by omega) (by exact aP5 _) (by omega) (by omega))<|Uu (by exact bH rfl cL rfl rfl rfl rfl rfl rfl (by rw[iX];omega) (rK hlt hv) rfl)<|Zz<|Rg<|Dd mI<|Dd aE<|Zz ?_;exact⟨c+1,by omega,by omega,(dA.wk (Ea<|Ea<|Eb<|trivial) (Hc (mW _ _)<|Hc (mW _ _)<|trivial) trivial)⟩
        · rw[hc2]at hc3;cases hc3
      · skip
        refine aT (t:=9) (n:=8) (X:=decide (65<=(c:Int))&&decide ((c:Int)<=90)) ?_ ?_
        · all_goals refine Dd aE ?_
          all_goals refine Dd GQ<|Dm ?_
          all_goals refine Sp 18 (fun h18=>?_) fun h18=>?_
          all_goals try contradiction
          all_goals first|refine Fo<|Fo ?_|refine On aE<|On GQ ?_
          all_goals refine Dd cG<|Da ?_
          all_goals(exact⟨⟨_,rfl,by(simp only[*,Zo];done)⟩,rfl,rfl,rfl⟩)
        refine Cn ?_ ?_<;>intro hc4
        · have hv:DE c=3:=by rw[DE,sE,hc2,hc4];rfl
          refine Rg<|Dd aE<|Dd (by exact eJ (k2:=c) rfl fK cL rfl rfl rfl rfl (by omega) (by exact aP5 _) (by omega) (by omega))<|Uu (by exact bH rfl cL rfl rfl rfl rfl rfl rfl (by rw[iX];omega) (rK hlt hv) rfl)<|Zz<|Rg<|Dd mI<|Dd aE<|Zz ?_;exact⟨c+1,by omega,by omega,(dA.wk (Ea<|Ea<|Eb<|trivial) (Hc (mW _ _)<|Hc (mW _ _)<|trivial) trivial)⟩
        · skip
          refine Sq ?_;refine aT (t:=24) (n:=8) (X:=decide (48<=(c:Int))&&decide ((c:Int)<=57)) ?_ ?_
          · all_goals refine Dd aE ?_
            all_goals refine Dd GQ<|Dm ?_
            all_goals refine Sp 27 (fun h27=>?_) fun h27=>?_
            all_goals try contradiction
            all_goals first|refine Fo<|Fo ?_|refine On aE<|On GQ ?_
            all_goals refine Dd cG<|Da ?_
            all_goals(exact⟨⟨_,rfl,by(simp only[*,Zo];done)⟩,rfl,rfl,rfl⟩)
          refine Cn ?_ ?_<;>intro hc5
          · have hv:DE c=4:=by rw[DE,sE,hc2,hc4,AT,hc5];rfl
            refine Rg<|Dd aE<|Dd (by exact eJ (k2:=c) rfl fK cL rfl rfl rfl rfl (by omega) (by exact aP5 _) (by omega) (by omega))<|Uu (by exact bH rfl cL rfl rfl rfl rfl rfl rfl (by rw[iX];omega) (rK hlt hv) rfl)<|Zz<|Rg<|Dd mI<|Dd aE<|Zz ?_;exact⟨c+1,by omega,by omega,(dA.wk (Ea<|Ea<|Eb<|trivial) (Hc (mW _ _)<|Hc (mW _ _)<|trivial) trivial)⟩
          · skip
            refine Sr<|Dd aE<|Dd (by exact aA rfl rfl xI rfl (pQ _ _ _))<|Dd DD<|Da ?_;refine Cn ?_ ?_<;>intro hc6
            · have hv:DE c=1:=by rw[DE,sE,hc2,hc4,AT,hc5,ZB,hc6];rfl
              refine Rg<|Dd aE<|Dd (by exact eJ (k2:=c) rfl fK cL rfl rfl rfl rfl (by omega) (by exact aP5 _) (by omega) (by omega))<|Uu (by exact bH rfl cL rfl rfl rfl rfl rfl rfl (by rw[iX];omega) (rK hlt hv) rfl)<|Zz<|Rg<|Dd mI<|Dd aE<|Zz ?_;exact⟨c+1,by omega,by omega,(dA.wk (Ea<|Ea<|Eb<|trivial) (Hc (mW _ _)<|Hc (mW _ _)<|trivial) trivial)⟩
            · skip
              refine Sr<|Dd aE<|Dd (by exact aA rfl rfl xI rfl (pQ _ _ _))<|Dd DD<|Da ?_;refine Cn ?_ ?_<;>intro hc7
              · have hv:DE c=6:=by rw[DE,sE,hc2,hc4,AT,hc5,ZB,hc6,ZB,hc7];rfl
                refine Rg<|Dd aE<|Dd (by exact eJ (k2:=c) rfl fK cL rfl rfl rfl rfl (by omega) (by exact aP5 _) (by omega) (by omega))<|Uu (by exact bH rfl cL rfl rfl rfl rfl rfl rfl (by rw[iX];omega) (rK hlt hv) rfl)<|Zz<|Rg<|Dd mI<|Dd aE<|Zz ?_;exact⟨c+1,by omega,by omega,(dA.wk (Ea<|Ea<|Eb<|trivial) (Hc (mW _ _)<|Hc (mW _ _)<|trivial) trivial)⟩
              · have hv:DE c=0:=by rw[DE,sE,hc2,hc4,AT,hc5,ZB,hc6,ZB,hc7];rfl
                refine aC<|Rg<|Dd mI<|Dd aE<|Zz ?_;rw[WX hlt hv];exact⟨c+1,by omega,by omega,(dA.wk (Ea<|Ea<|Eb<|trivial) (Hc (mW _ _)<|Hc (mW _ _)<|trivial) trivial)⟩
    · have : c = 256 := by have : ¬ ((c : Int)<256) := by simpa using hc1
                           omega
      subst this;refine aY<|Sr<|Dd (by exact eJ (k2:=35) rfl fK cL rfl rfl rfl rfl (by omega) rfl (by omega) rfl)<|Uu (by exact bH rfl cL rfl rfl rfl rfl rfl rfl (by simp[iX]) rfl rfl)<|Dd (by exact eJ (k2:=95) rfl fK cL rfl rfl rfl rfl (by omega) rfl (by omega) rfl)<|Uu (by exact bH rfl cL rfl rfl rfl rfl rfl rfl (by simp[iX]) rfl rfl)<|Dd (by exact eJ (k2:=34) rfl fK cL rfl rfl rfl rfl (by omega) rfl (by omega) rfl)<|Uu (by exact bH rfl cL rfl rfl rfl rfl rfl rfl (by simp[iX]) rfl rfl)<|Zz<|Sr<|Dd (by exact aM rfl aNX xB rfl rfl rfl rfl (show List.take 256 (List.drop 0 _)=sP by rw[<-WY];rfl) rfl)<|Uu (lG xB)<|Zz<|aB ?_;refine eG (H':=[]) (.inr rfl) rfl (gD rfl aNX xB rfl rfl rfl (show List.take 256 (List.drop 0 sP)=sP by rfl) rfl) (Fin.wk (by exact WV _) trivial trivial) ?_;exact Qq
abbrev sNil:ByteArray:=⟨#[]⟩
theorem C4(s:ByteArray)(k:Nat):0<=cP s k:=by unfold cP;omega
theorem C5(s:ByteArray)(k:Nat):(cP s k).toNat<256:=by
 unfold cP;have:=(((s.data.toList[k]?).getD 0)).toNat_lt
 simpa using this
theorem aJ0(s:ByteArray)(k:Nat):sP[(cP s k).toNat]?=some (.pv (.int .u8 (CD (cP s k)))):=by rw[ZQ (C5 s k),Int.toNat_of_nonneg (C4 s k)]
theorem iO(H:aH):∀r∈[sP],∀a∈r,Clo H a:=by intro r hr a ha;rw[aPX]at hr;subst hr;have:=WV H;rw[TC]at this;exact this a ha
def OY(s:ByteArray)(k:Nat):Bool:=!decide (CD (cP s k)=3)&&(decide ((k:Int)=0)||(!decide (CD (cP s k)=4)&&!decide (CD (cP s k)=5)))
def bM(s:ByteArray):Bool:=!((List.range s.size).any (OY s))&&(!decide (s=sNil)&&decide ((s.size:Int)<=24))
theorem xT(h:∀j,j<n->p j=false):(List.range n).any p=false:=by rw[List.any_eq_false];intro x hx;rw[h x (List.mem_range.1 hx)];simp
theorem uC(hk:k<n)(h:p k=true):(List.range n).any p=true:=List.any_eq_true.2 ⟨k,List.mem_range.2 hk,h⟩
theorem zO(s:ByteArray)(H:aH)(hs:s.size<4611686018427387904):aI Tryz.prog 70 [sv s] H (fun r H'=>r=bv (bM s)/\H'=H):=by
 refine Pu ?_;refine Bd func70 rfl ntmps70<|Sr<|Dd aL<|Zz<|Sr<|Dd (by exact aA rfl rfl call123 rfl (Q3 _))<|Dd (by exact bW (id:=3) rfl Z4 rfl rfl)<|Uu (by exact cM rfl xB rfl rfl rfl rfl rfl rfl rfl (by simp))<|Zz<|Sq<|Sr<|Dd aE<|Dd (jV underlying9)<|Dd aE<|Zz<|aG ?_;refine bT (σ:=Nat) (fun k=>([(0,sv s),(3,.ref 3 0 0 0),(8,iv (s.size:Int)),(9,iv (k:Int))],[(3,bx 256 158 sP)])) (fun k=>k<=s.size/\∀j,j<k->OY s j=false) (fun k=>s.size - k) 0 ⟨by omega,by omega⟩ ?_ ?_
 ·exact(dA.wk (Eb<|Ea<|Eb<|Eb<|trivial) (Hc (iO _)<|trivial) trivial)
 rintro k ⟨hk,hno⟩;refine Sr<|Dd cZ<|Zz<|Sq ?_;refine Cn ?_ ?_<;>intro hc1
 ·have hlt:k<s.size:=by have:=aPQ hc1;omega
  refine aC<|Sq<|aG<|Sr<|Dd aE<|Dd aL<|Zz<|Sr<|Dd aE<|Dd aE<|Dd (by exact dO rfl underlying9 rfl rfl (by omega) (by exact aP5 _) (by omega) rfl)<|Dd (by exact eJ (m:=(cP s k).toNat) (k2:=(cP s k).toNat) rfl fK cL rfl rfl rfl rfl (C4 s k) rfl (C5 s k) (by omega))<|Dd (by exact aK rfl A7 rfl rfl rfl rfl (aJ0 s k))<|Dd aL<|Zz<|Sq ?_;refine aT (t:=30) (n:=17) (X:=OY s k) ?_ ?_
  ·all_goals refine Dd aE ?_
   all_goals refine Dd xY<|Dm ?_
   all_goals refine Sp 19 (fun h19=>?_) fun h19=>?_
   all_goals try contradiction
   all_goals first|refine Fo<|Fo<|Fo ?_|refine On aE<|On cK<|On aE ?_
   all_goals(first|refine Sp 22 (fun h22=>?_) fun h22=>?_|refine jX (t:=22) rfl ?_)
   all_goals try contradiction
   all_goals first|refine Fo ?_|refine Fu ?_|refine On aE ?_
   all_goals first|refine Fo ?_|refine Fu ?_|refine On xY ?_
   all_goals first|refine Fo ?_|refine Fu ?_|refine On aE ?_
   all_goals(first|refine Sp 25 (fun h25=>?_) fun h25=>?_|refine jX (t:=25) rfl ?_)
   all_goals try contradiction
   all_goals first|refine Fo ?_|refine Fu ?_|refine On aE ?_
   all_goals first|refine Fo ?_|refine Fu ?_|refine On xY ?_
   all_goals first|refine Fo ?_|refine Fu ?_|refine On cG ?_
   all_goals first|refine Fo ?_|refine On cG ?_
   all_goals refine Dd cG<|Zz ?_
   all_goals(exact⟨⟨_,rfl,by(simp only[OY, *];rfl)⟩,rfl,rfl,rfl⟩)
  refine Cn ?_ ?_<;>intro hc2
  ·refine Sr<|Dd aL<|Zz<|aB<|Rt ?_;exact⟨by rw[bM,uC hlt hc2];rfl,rfl⟩
  refine aC<|Rg<|Dd mI<|Dd aE<|Zz ?_;refine⟨k+1,⟨by omega,fun j hj=>?_⟩,by omega,(dA.wk (Eb<|Ea<|Eb<|Eb<|trivial) (Hc (iO _)<|trivial) trivial)⟩;by_cases e:j=k
  ·subst e;exact hc2
  exact hno j (by omega)
 have hge:k=s.size:=by have:=aPR hc1;omega
 refine aY<|Sq ?_;refine aT (t:=2) (n:=9) (X:=!decide (s=sNil)&&decide ((s.size:Int)<=24)) ?_ ?_
 ·all_goals refine Dd aE ?_
  all_goals refine Dd IU<|Dm ?_
  all_goals refine Sp 34 (fun h34=>?_) fun h34=>?_
  all_goals try contradiction
  all_goals first|refine Fo<|Fo<|Fo ?_|refine On aE<|On (jV underlying9)<|On GQ ?_
  all_goals refine Dd cG<|Da ?_
  all_goals(exact⟨⟨_,rfl,by(simp only[OY, *];rfl)⟩,rfl,rfl,rfl⟩)
 refine aB<|Rt ?_;subst hge;exact⟨by rw[bM,xT hno];rfl,rfl⟩
def iG{α:Type}(f:α->ByteArray)(l:List α):Nat->ByteArray
 |0=>sNil
 |k+1=>((l[k]?).map f).getD sNil
def sle(a b:ByteArray):Bool:=vN a b||decide (a=b)
def AH(last:ByteArray)(t:GTag):Bool:=!bM t.key||sle t.key last||decide (t.val=sNil)||decide (200<(t.val.size:Int))
def NG{α:Type}(p:ByteArray->α->Bool)(f:α->ByteArray)(l:List α)(k:Nat):Bool:=match l[k]? with
 |some t=>p (iG f l k) t
 |none=>false
theorem AI{p:ByteArray->α->Bool}{f:α->ByteArray}{l:List α}{t:α}(h:l[k]?=some t):NG p f l k=p (iG f l k) t:=by rw[NG,h]
theorem wI{f:α->ByteArray}{l:List α}{t:α}(h:l[k]?=some t):iG f l (k+1)=f t:=by rw[iG,h];rfl
def qK(l:List GTag):Bool:=!((List.range l.length).any (NG AH GTag.key l))&&decide ((l.length:Int)<=60)
def HI(l:List GTag):Prop:=l.length<4611686018427387904/\∀t∈l,t.key.size<4611686018427387904/\t.val.size<4611686018427387904
theorem yX(l:List GTag)(H:aH)(hl:HI l):aI Tryz.prog 261 [.pv (rD l)] H (fun r H'=>r=bv (qK l)/\H'=H):=by
 refine Pu ?_;obtain ⟨hl,hks⟩:=hl;have hml:(l.map bJ).length=l.length:=aPU _;refine Bd func261 rfl ntmps261<|Sr<|Dd aL<|Zz<|Sr<|Dd aL<|Zz<|Sq<|Sr<|Dd aE<|Dd (fE cV)<|Dd aE<|Zz<|aG ?_;refine bT (σ:=Nat) (fun k=>([(0,.pv (rD l)),(3,sv (iG GTag.key l k)),(6,.pv (rD l)),(7,iv ((l.map bJ).length:Int)),(8,iv (k:Int))],[])) (fun k=>k<=l.length/\∀j,j<k->NG AH GTag.key l j=false) (fun k=>l.length - k) 0 ⟨by omega,by omega⟩ ?_ ?_
 ·exact Wk
 rintro k ⟨hk,hno⟩;refine Sr<|Dd cZ<|Zz<|Sq ?_;refine Cn ?_ ?_<;>intro hc1
 ·have hlt:k<l.length:=by have:=aPQ hc1;omega
  obtain ⟨t,ht⟩:=aU hlt;have hi:=cJ (f:=bJ) ht;have hkt:=hks t (aP4 ht);refine aC<|Sq<|aG<|Sr<|Dd (mE jU)<|Dd (by exact dN rfl tP jY rfl (by omega) (by simp only[Zl,bJ,bS];rfl) rfl)<|Dd (by exact bW (id:=5) rfl aJA rfl rfl)<|Uu (lG jY)<|Zz<|Sq<|Sq ?_;refine aT (t:=32) (n:=24) (X:=AH (iG GTag.key l k) t) ?_ ?_
  ·all_goals refine Dd (aS mV) ?_
   all_goals refine Dd (bC isAgg9)<|Dd (by exact aA rfl rfl oU rfl (zO t.key _ hkt.1))<|Dd iQ<|Dm ?_
   all_goals refine Sp 16 (fun h16=>?_) fun h16=>?_
   all_goals try contradiction
   all_goals first|refine Fo<|Fo<|Fo<|Fo ?_|refine On (aS mV)<|On (bC isAgg9)<|On aE<|On (by exact aEY rfl rfl rfl) ?_
   all_goals refine Dd cG<|Dm ?_
   all_goals refine Sp 22 (fun h22=>?_) fun h22=>?_
   all_goals try contradiction
   all_goals first|refine Fo<|Fo<|Fo ?_|refine On (aS nS)<|On (bC isAgg9)<|On zE ?_
   all_goals refine Dd cG<|Dm ?_
   all_goals refine Sp 27 (fun h27=>?_) fun h27=>?_
   all_goals try contradiction
   all_goals first|refine Fo<|Fo<|Fo<|Fo ?_|refine On (aS nS)<|On (bC isAgg9)<|On (jV underlying9)<|On iE ?_
   all_goals refine Dd cG<|Zz ?_
   all_goals(exact⟨⟨_,rfl,by(simp only[AH,sle, *];rfl)⟩,rfl,rfl,rfl⟩)
  refine Cn ?_ ?_<;>intro hc2
  ·refine Sr<|Dd aL<|Zz<|aB<|Rt ?_;exact⟨by rw[qK,uC hlt ((AI ht).trans hc2)];rfl,rfl⟩
  refine aC<|Rg<|Dd (aS mV)<|Dd (bC isAgg9)<|Dd aL<|Zz<|Rg<|Dd mI<|Dd aE<|Zz ?_;refine⟨k+1,⟨by omega,fun j hj=>?_⟩,by omega,?_⟩
  ·by_cases e:j=k
   ·subst e;exact(AI ht).trans hc2
   exact hno j (by omega)
  rw[wI ht];exact Wk
 have hge:k=l.length:=by have:=aPR hc1;omega
 subst hge;refine aY<|Sr<|Dd aE<|Dd (fE cV)<|Dd GQ<|Dd aL<|Zz<|aB<|Rt ?_;exact⟨by rw[qK,xT hno,<-hml];rfl,rfl⟩
end Go.Proofs.YtmdicgjnmfolfaaGreatDoor
namespace Go.Abs
section
section
variable{P:Program}{N:Nat}{o:Oper}{E:dB}{H:aH}{T:TypeId}{x y z:Operand}
theorem OG{e}{b}{s}{n}{m}{l}{v}(A:o.op=.index T x y)(D:P.underlying T=some (.array b e))(p:∀w,(sizeOf e).run P w=.ok 1 w)(r:∀w,(isAgg e).run P w=.ok false w)
  (C:aP E x=some (.agg l)) (F:aP E y=some (.pv (.int s n))) (G:0<=n) (u:n.toNat=m) (hi:m<b) (k:l[m]?=some v):cS P N o E H v H :=
 .of_run fun a w I ι hr g=>by
  have h:=aJ g C;have B:=(aJ g F).int_inv;generalize q:a.eval x=c at h;cases h with
  | @agg i _ hl h1 J =>
   have d:m<i.size:=by grind
   have j:=Array.getElem?_eq_getElem d;refine⟨i[m],?_,J m _ v j k⟩;have t:n<b:=by omega
   simp[execOp,A,q,B];simp[Instr.index,run_underlying D,asIntOf,G,t,p,u,part,r,j]
def C9(l:List ByteArray):List (ByteArray×AV):=l.map fun s=>(s,.pv (.bool true))
def inB(l:List ByteArray)(s:ByteArray):Bool:=l.any fun a=>decide (a=s)
def LA(l:List ByteArray)(s:ByteArray):List ByteArray:=if inB l s then l else l++[s]
theorem aDd(l)(s):(OO (C9 l) s).getD (.pv (.bool false))=.pv (.bool (inB l s)):=by
 induction l with
 |nil=>rfl
 |cons a l b =>
  by_cases h:a=s
  ·subst h;simp[C9,OO,inB]
  simp[C9,List.map_cons,OO,h,if_false,inB,List.any_cons,decide_false,Bool.false_or]at b |-;exact b
theorem aDc(l)(s):yA (C9 l) s (.pv (.bool true))=C9 (LA l s):=by
 induction l with
 |nil=>rfl
 | cons a l b =>
  by_cases h:a=s
  ·subst h;simp[C9,yA,LA,inB]
  have e:LA (a::l) s=a::LA l s:=by
   unfold LA inB
   grind
  rw[e];show yA ((a,.pv _)::C9 l) s _=(a,.pv _)::C9 _;rw[yA,aPS h,b]
theorem sV{c b}{l}{id g}{ob}{s}{zv}(e:o.op=.lookup T x y false)(i:P.underlying T=some (.map c b))(hd:P.underlying c=some .string)(j:aP E x=some (.mp id g))(f:H.get id=some ob)(k:ob.g=g)
  (a:ob.rows=qZ aB0 (C9 l)) (h:aP E y=some (.pv (.str s))) (d:∀w,(zeroValue b).run P w=.ok zv w) (m:ZV zv (.pv (.bool false))):cS P N o E H (.pv (.bool (inB l s))) H:=by
 rw[<-aDd];exact LY e i hd j f k a h d m
theorem O1{d h}{l}{id g}{ob}{s}(f:o.op=.mapUpdate T x y z\/o.op=.insert T x y z)(j:P.underlying T=some (.map d h))(hd:P.underlying d=some .string)(k:aP E x=some (.mp id g))(e:H.get id=some ob)(n:ob.g=g)
  (c:ob.ty=(C9 l).length) (b:ob.rows=qZ aB0 (C9 l)) (i:aP E y=some (.pv (.str s))) (m:aP E z=some (.pv (.bool true))):cS P N o E H .any ((id,⟨g,ob.sz,(C9 (LA l s)).length,qZ aB0 (C9 (LA l s))⟩)::H) :=
 IP f j hd k e n c b i m (aDc l s)
abbrev sob(l:List ByteArray):Ob:=⟨0,0,(C9 l).length,qZ aB0 (C9 l)⟩
end
end
end Go.Abs
namespace Go.Proofs.YtmdicgjnmfolfaaGreatDoor
open Go.Proofs.Tryz
open Go.Abs
variable{k:Int}{p:Nat->Bool}{n B:Nat}
def eO(k:Int):ByteArray:=if k=1 then⟨#[110,111,100,101]⟩else if k=2 then⟨#[119,97,121]⟩else if k=3 then⟨#[97,114,101,97]⟩else if k=4 then⟨#[114,111,117,116,101]⟩else if k=5 then⟨#[116,117,114,110]⟩else sNil
abbrev aGa:List AV:=[sv sNil,sv ⟨#[110,111,100,101]⟩,sv ⟨#[119,97,121]⟩,sv ⟨#[97,114,101,97]⟩,sv ⟨#[114,111,117,116,101]⟩,sv ⟨#[116,117,114,110]⟩]
theorem six(h0:0<=k)(h1:k<6):k=0\/k=1\/k=2\/k=3\/k=4\/k=5:=by omega
theorem aG9(h0:0<=k)(h1:k<6):aGa[k.toNat]?=some (sv (eO k)):=by rcases six h0 h1 with rfl|rfl|rfl|rfl|rfl|rfl<;>rfl
theorem DX(k:Int)(H:aH):aI Tryz.prog 230 [iv k] H (fun r H'=>r=sv (eO k)/\H'=H):=by
 refine Pu ?_;refine Bd func230 rfl ntmps230<|Sr<|Dd aL<|Zz<|Sr<|Dd (by exact vS rfl aNS rfl rfl)<|Dd (by exact bW (id:=3) rfl aLk rfl rfl)<|Uu (lG sizeOf269)<|Zz<|Sq<|Sq ?_;refine aT (t:=10) (n:=7) (X:=decide (k<0)||decide (6<=k)) ?_ ?_
 ·all_goals refine Dd aE ?_
  all_goals refine Dd cZ<|Dm ?_
  all_goals refine Sp 7 (fun h7=>?_) fun h7=>?_
  all_goals try contradiction
  all_goals first|refine Fo<|Fo ?_|refine On aE<|On DD ?_
  all_goals refine Dd cG<|Zz ?_
  all_goals(exact⟨⟨_,rfl,by(simp only[*,Zo];done)⟩,rfl,rfl,rfl⟩)
 refine Cn ?_ ?_<;>intro hc1
 ·have hn:¬ (k=1)/\¬ (k=2)/\¬ (k=3)/\¬ (k=4)/\¬ (k=5):=by
   simp only[Bool.or_eq_true,aP1]at hc1;omega
  refine Sr<|Dd aL<|Zz<|aB<|Rt ?_;exact⟨by simp only[eO,hn.1,hn.2.1,hn.2.2.1,hn.2.2.2.1,hn.2.2.2.2,if_false],rfl⟩
 have hb:0<=k/\k<6:=by
  simp only[aPg,aP2]at hc1;omega
 exact aC<|Sr<|Dd aE<|Dd (by exact eJ (m:=k.toNat) (k2:=k.toNat) rfl underlying269 sizeOf9 rfl rfl rfl rfl hb.1 rfl (by omega) (by omega))<|Dd (by exact aK rfl isAgg9 rfl rfl rfl rfl (aG9 hb.1 hb.2))<|Dd aL<|Zz<|aB<|Rt<|Qq
def B1(k:Int):Int:=if k=2 then 2 else if k=3 then 3 else if k=4 then 1 else if k=5 then 3 else 0
theorem aEn(h0:0<=k)(h1:k<6):[iv 0,iv 0,iv 2,iv 3,iv 1,iv 3][k.toNat]?=some (iv (B1 k)):=by rcases six h0 h1 with rfl|rfl|rfl|rfl|rfl|rfl<;>rfl
theorem aAh(k:Int)(H:aH)(h0:0<=k)(h1:k<6):aI Tryz.prog 262 [iv k] H (fun r H'=>r=iv (B1 k)/\H'=H):=by refine Pu ?_;exact Bd func262 rfl ntmps262<|Sr<|Dd aL<|Zz<|Sr<|Dd (by exact vS rfl aNR rfl rfl)<|Dd aE<|Dd (by exact OG (m:=k.toNat) rfl underlying280 sizeOf3 isAgg3 rfl rfl h0 rfl (by omega) (aEn h0 h1))<|Dd aL<|Zz<|aB<|Rt<|Qq
def S4(x y:Int):Bool:=((decide (0<=x)&&decide (x<1048576))&&decide (0<=y))&&decide (y<1048576)
theorem aOO(x y:Int)(H:aH):aI Tryz.prog 264 [.agg [iv x,iv y]] H (fun r H'=>r=bv (S4 x y)/\H'=H):=by
 refine Pu ?_;refine Bd func264 rfl ntmps264<|Sr<|Dd (by exact cD (id:=1) rfl rfl rfl rfl rfl)<|Dd aL<|Zz<|Sq ?_;refine aT (t:=2) (n:=22) (X:=S4 x y) ?_ ?_
 ·all_goals refine Dd (aS pC) ?_
  all_goals refine Dd (bC isAgg3)<|Dd DD<|Dm ?_
  all_goals refine Sp 6 (fun h6=>?_) fun h6=>?_
  all_goals try contradiction
  all_goals first|refine Fo<|Fo<|Fo ?_|refine On (aS pC)<|On (bC isAgg3)<|On cZ ?_
  all_goals refine Dd cG<|Dm ?_
  all_goals refine Sp 11 (fun h11=>?_) fun h11=>?_
  all_goals try contradiction
  all_goals first|refine Fo<|Fo<|Fo ?_|refine On (aS pB)<|On (bC isAgg3)<|On DD ?_
  all_goals refine Dd cG<|Dm ?_
  all_goals refine Sp 16 (fun h16=>?_) fun h16=>?_
  all_goals try contradiction
  all_goals first|refine Fo<|Fo<|Fo ?_|refine On (aS pB)<|On (bC isAgg3)<|On cZ ?_
  all_goals refine Dd cG<|Da ?_
  all_goals(exact⟨⟨_,rfl,by(simp only[S4, *];rfl)⟩,rfl,rfl,rfl⟩)
 exact aB<|Rt<|Qq
def JD(p:Nat->Bool)(n:Nat):Int:=match (List.range n).find? p with|some k=>(k:Int)|none => -1
def AP(p:Nat->Bool)(n:Nat):Nat:=match (List.range n).find? p with|some k=>k+1|none=>n
theorem AC{k:Nat}(hk:k<n)(hp:p k=true)(hno:∀j,j<k->p j=false):(List.range n).find? p=some k:=by rw[List.find?_range_eq_some];exact⟨hp,by simpa using hk,fun j hj=>by simp[hno j hj]⟩
theorem AD(hno:∀j,j<n->p j=false):(List.range n).find? p=none:=by rw[List.find?_eq_none];intro x hx;simp[hno x (List.mem_range.1 hx)]
theorem Y8(fv:AV)(l:List ByteArray)(p:Nat->Bool)(Hs:Nat->aH)(hl:l.length<4611686018427387904)(hf:∀k s,l[k]?=some s->dK Tryz.prog fv [sv s] (Hs k) (fun r H'=>r=bv (p k)/\H'=Hs (k+1))):
  aI Tryz.prog 120 [.pv (bA l),fv] (Hs 0) (fun r H'=>r=iv (JD p l.length)/\H'=Hs (AP p l.length)):=by
 have hml:(l.map encStr).length=l.length:=aPU _;refine Bd func120 rfl ntmps120<|Sr<|Dd aL<|Zz<|Sq<|Sr<|Dd aE<|Dd (fE aD)<|Dd aE<|Zz<|aG ?_;refine bT (σ:=Nat) (fun k=>([(0,.pv (bA l)),(1,fv),(7,iv ((l.map encStr).length:Int)),(8,iv (k:Int))],Hs k)) (fun k=>k<=l.length/\∀j,j<k->p j=false) (fun k=>l.length - k) 0 ⟨by omega,by omega⟩ ?_ ?_
 ·exact E0
 rintro k ⟨hk,hno⟩;refine Sr<|Dd cZ<|Zz<|Sq ?_;refine Cn ?_ ?_<;>intro hc1
 ·have hlt:k<l.length:=by have:=aPQ hc1;omega
  obtain ⟨s,hs⟩:=aU hlt;have hi:=cJ (f:=encStr) hs;have hfo:=hf k s hs;refine aC<|Sq<|aG<|Sr<|Dd aE<|Dd aL<|Zz<|Sr<|Dd aE<|Dd aE<|Dd aE<|Dd (mE cB)<|Dd (iJ isAgg9)<|Dd (by exact cU rfl rfl rfl (hfo))<|Zz ?_;refine Cn ?_ ?_<;>intro hc2
  ·refine Sr<|Dd aE<|Dd aL<|Zz<|aB ?_;exact eG (H':=Hs (k+1)) (.inr rfl) rfl (bD rfl) Fin.refl ⟨by rw[JD,AC hlt hc2 hno],by rw[AP,AC hlt hc2 hno]⟩
  refine aC<|Rg<|Dd mI<|Dd aE<|Zz ?_;refine⟨k+1,⟨by omega,fun j hj=>?_⟩,by omega,E0⟩;by_cases e:j=k
  ·subst e;exact hc2
  exact hno j (by omega)
 have hge:k=l.length:=by have:=aPR hc1;omega
 subst hge;refine aY<|Sr<|Dd aL<|Zz<|aB ?_;exact eG (H':=Hs l.length) (.inr rfl) rfl (bD rfl) Fin.refl ⟨by rw[JD,AD hno],by rw[AP,AD hno]⟩
theorem QL(p:Nat->Bool)(n:Nat):decide (0<=JD p n)=(List.range n).any p:=by
 unfold JD;cases h:(List.range n).find? p with
 | none =>
  have:(List.range n).any p=false:=by
   rw[List.find?_eq_none]at h;rw[List.any_eq_false];exact h
  simp[this]
 |some i =>
  have:(List.range n).any p=true:=List.any_eq_true.2 ⟨i,List.mem_of_find?_eq_some h,List.find?_some h⟩;simp[this]
theorem rT(fv:AV)(l:List ByteArray)(p:Nat->Bool)(Hs:Nat->aH)(hl:l.length<4611686018427387904)(hf:∀k s,l[k]?=some s->dK Tryz.prog fv [sv s] (Hs k) (fun r H'=>r=bv (p k)/\H'=Hs (k+1))):
  aI Tryz.prog 62 [.pv (bA l),fv] (Hs 0) (fun r H'=>r=bv ((List.range l.length).any p)/\H'=Hs (AP p l.length)):=by
 refine Bd func62 rfl ntmps62<|Sr<|Dd aL<|Zz<|Sr<|Dd aE<|Dd aE<|Dd (by exact aA rfl rfl call120 rfl (Y8 fv l p Hs hl hf))<|Dd DD<|Dd aL<|Zz<|aB ?_;exact eG (H':=Hs (AP p l.length)) (.inr rfl) rfl (bD rfl) Fin.refl ⟨by rw[QL],rfl⟩
theorem J2(L:List ByteArray)(H:aH):∀r∈(sob L).rows,∀a∈r,Clo H a:=by intro r hr a ha;obtain ⟨i,hi⟩:=aPf.1 hr;obtain ⟨p,hp,rfl⟩:=HN.1 hi;simp only[C9,aPe]at hp;obtain ⟨q,_,rfl⟩:=Option.map_eq_some_iff.1 hp;simp only[aP6,aPa,or_false]at ha;rcases ha with rfl|rfl|rfl<;>simp
def vH(o:GObj)(last:ByteArray)(L:List ByteArray):aH:=[(37,sob L),(4,bx 1 9 [sv last]),(3,bx 1 270 [.mp 37 0]),(1,bx 6 151 ((bS o).map .pv))]
theorem aJm(o:GObj)(a:ByteArray)(L:List ByteArray)(f:Nat):Clo (vH o a L) (.clo f [.ref 1 0 0 0,.ref 4 0 0 0,.ref 3 0 0 0]):=by refine .clo fun x hx=>?_;simp only[aP6,aPa,or_false]at hx;rcases hx with rfl|rfl|rfl<;>exact .ref rfl
def MX(o:GObj)(last:ByteArray)(L:List ByteArray)(s:ByteArray):Bool:=(decide (o.kind=2)&&decide (s=last))||(decide (o.kind=3)&&inB L s)
def HZ(o:GObj)(last:ByteArray)(L:List ByteArray)(s:ByteArray):Bool:=MX o last L s||!bM s
theorem aDR(o:GObj)(last s:ByteArray)(L:List ByteArray)(hs:s.size<4611686018427387904):
  aI Tryz.prog 263 [sv s,.ref 1 0 0 0,.ref 4 0 0 0,.ref 3 0 0 0] (vH o last L) (fun r H'=>r=bv (HZ o last L s)/\H'=vH o s (LA L s)):=by
 unfold vH;refine Bd func263 rfl ntmps263<|Sr<|Dd aL<|Zz<|Sq ?_;refine aT (t:=6) (n:=22) (X:=MX o last L s) ?_ ?_
 ·all_goals refine Dd (aS dZ) ?_
  all_goals refine Dd (bC isAgg3)<|Dd cK<|Dm ?_
  all_goals refine Sp 10 (fun h10=>?_) fun h10=>?_
  all_goals try contradiction
  all_goals first|refine Fo<|Fo<|Fo ?_|refine On aE<|On (bC isAgg9)<|On zE ?_
  all_goals refine Dd cG<|Dm ?_
  all_goals refine Sp 15 (fun h15=>?_) fun h15=>?_
  all_goals try contradiction
  all_goals first|refine Fo<|Fo<|Fo<|Fo ?_|refine On (aS dZ)<|On (bC isAgg3)<|On cK<|On aE ?_
  all_goals(first|refine Sp 19 (fun h19=>?_) fun h19=>?_|refine jX (t:=19) rfl ?_)
  all_goals try contradiction
  all_goals first|refine Fo ?_|refine Fu ?_|refine On (bC isAgg270) ?_
  all_goals first|refine Fo ?_|refine Fu ?_|refine On aE ?_
  all_goals first|refine Fo ?_|refine Fu ?_|refine On (by exact sV rfl pD underlying9 rfl rfl rfl rfl rfl mX (.inl rfl)) ?_
  all_goals first|refine Fo ?_|refine On cG ?_
  all_goals refine Dd cG<|Da ?_
  all_goals(exact⟨⟨_,rfl,by(simp only[MX, *];rfl)⟩,rfl,rfl,rfl⟩)
 refine Sr<|Dd (bC isAgg270)<|Dd aE<|Dd aE<|Uu (by exact O1 (.inl rfl) pD underlying9 rfl rfl rfl rfl rfl rfl rfl)<|Uu (lG sizeOf9)<|Zz<|Sq ?_;refine aT (t:=5) (n:=8) (X:=MX o last L s||!bM s) ?_ ?_
 ·all_goals refine Dd aE ?_
  all_goals refine Dm ?_
  all_goals refine Sp 29 (fun h29=>?_) fun h29=>?_
  all_goals try contradiction
  all_goals first|refine Fo<|Fo<|Fo ?_|refine On aE<|On (by exact aA rfl rfl oU rfl (zO s _ hs))<|On iQ ?_
  all_goals refine Dd cG<|Da ?_
  all_goals(exact⟨⟨_,rfl,by(simp only[*];rfl)⟩,rfl,rfl,rfl⟩)
 refine aB ?_;refine eG (H':=vH o s (LA L s)) (.inr rfl) rfl (bD rfl) (Fin.wk (by(simp;done)) (Hc (J2 _ _)<|Hb<|Ha<|Hb<|trivial) ⟨rfl,rfl,rfl,rfl,trivial⟩) ?_;exact Qq
def xP(l:List ByteArray):Nat->List ByteArray
 |0=>[]
 |k+1=>LA (xP l k) ((l[k]?).getD sNil)
def pV(o:GObj)(k:Nat):Bool:=match o.refs[k]? with
 |some s=>HZ o (iG id o.refs k) (xP o.refs k) s
 |none=>false
def M0(o:GObj):Bool:=if o.kind=1 then decide ((o.refs.length:Int)=0)&&S4 o.x o.y else if o.kind=5 then decide ((o.refs.length:Int)=3)&&(decide (o.x=0)&&decide (o.y=0))else decide (o.x=0)&&decide (o.y=0)
def sN(o:GObj)(n:Int):Bool:=decide (eO o.kind=sNil)||!bM o.id||!qK o.tags||decide (n<B1 o.kind)||decide (2000<n)
def JF(o:GObj):Bool:=sN o (o.refs.length:Int)
def lH(o:GObj):Bool:=!JF o&&(!((List.range o.refs.length).any (pV o))&&M0 o)
def okO(o:GObj):Prop:=o.id.size<4611686018427387904/\HI o.tags/\o.refs.length<4611686018427387904/\∀s∈o.refs,s.size<4611686018427387904
theorem xL(h:decide (eO k=sNil)=false):0<=k/\k<6:=by
 by_cases h0:0<=k/\k<6
 ·exact h0
 have:eO k=sNil:=by
  have hn:¬ (k=1)/\¬ (k=2)/\¬ (k=3)/\¬ (k=4)/\¬ (k=5):=by omega
  simp only[eO,hn.1,hn.2.1,hn.2.2.1,hn.2.2.2.1,hn.2.2.2.2,if_false]
 rw[this]at h;simp at h
theorem ME(o:GObj)(H:aH)(ho:okO o):aI Tryz.prog 233 [av (bS o)] H (fun r H'=>r=bv (lH o)/\H'=H):=by
 refine Pu ?_;obtain ⟨h1,h2,h3,h4⟩:=ho;have hml:(o.refs.map encStr).length=o.refs.length:=aPU _;refine Bd func233 rfl ntmps233<|Sr<|Dd (by exact cD (id:=1) rfl rfl rfl rfl rfl)<|Dd aL<|Zz<|Sq<|Sq ?_;refine kH (t:=36) (n:=31) (X:=sN o ((o.refs.map encStr).length:Int)) ?_ ?_
 ·cases hg10:(decide (eO o.kind=sNil):Bool)
  ·cases hg16:(!bM o.id:Bool)
   ·cases hg22:(!qK o.tags:Bool)
    ·cases hg31:(decide (((o.refs.map encStr).length:Int)<B1 o.kind):Bool)
     ·refine aN follows<|Cq (aS dZ)<|Cq (bC isAgg3)<|Cq (by exact aA rfl rfl xE rfl (DX o.kind _))<|Cq zE<|Cq aE<|Nf (aS nU)<|Nf (bC isAgg9)<|Nf (by exact aA rfl rfl oU rfl (zO o.id _ h1))<|Nf iQ<|Cq nX<|Cq aE<|Nf (aS eX)<|Nf (bC cQ)<|Nf (by exact aA rfl rfl aCt rfl (yX o.tags _ h2))<|Nf iQ<|Cq nX<|Cq aE<|Nf (aS dT)<|Nf (bC aF)<|Nf (fE aD)<|Nf (aS dZ)<|Nf (bC isAgg3)<|Nf (by exact aA rfl rfl call262 rfl (aAh o.kind _ (xL hg10).1 (xL hg10).2))<|Nf cZ<|Cq nX<|Cq aE<|Nf (aS dT)<|Nf (bC aF)<|Nf (fE aD)<|Nf iE<|Cq nX<|bL<|Kr ?_;exact⟨rfl,⟨_,rfl,by(simp only[sN,hg10,hg16,hg22,hg31];rfl)⟩,rfl,rfl,rfl⟩
     refine aN follows<|Cq (aS dZ)<|Cq (bC isAgg3)<|Cq (by exact aA rfl rfl xE rfl (DX o.kind _))<|Cq zE<|Cq aE<|Nf (aS nU)<|Nf (bC isAgg9)<|Nf (by exact aA rfl rfl oU rfl (zO o.id _ h1))<|Nf iQ<|Cq nX<|Cq aE<|Nf (aS eX)<|Nf (bC cQ)<|Nf (by exact aA rfl rfl aCt rfl (yX o.tags _ h2))<|Nf iQ<|Cq nX<|Cq aE<|Nf (aS dT)<|Nf (bC aF)<|Nf (fE aD)<|Nf (aS dZ)<|Nf (bC isAgg3)<|Nf (by exact aA rfl rfl call262 rfl (aAh o.kind _ (xL hg10).1 (xL hg10).2))<|Nf cZ<|Cq nX<|Cq aE<|Of<|Of<|Of<|Of<|Cq wQ<|bL<|Kr ?_;exact⟨rfl,⟨_,rfl,by(simp only[sN,hg10,hg16,hg22,hg31];rfl)⟩,rfl,rfl,rfl⟩
    refine aN follows<|Cq (aS dZ)<|Cq (bC isAgg3)<|Cq (by exact aA rfl rfl xE rfl (DX o.kind _))<|Cq zE<|Cq aE<|Nf (aS nU)<|Nf (bC isAgg9)<|Nf (by exact aA rfl rfl oU rfl (zO o.id _ h1))<|Nf iQ<|Cq nX<|Cq aE<|Nf (aS eX)<|Nf (bC cQ)<|Nf (by exact aA rfl rfl aCt rfl (yX o.tags _ h2))<|Nf iQ<|Cq nX<|Cq aE<|Of<|Of<|Of<|Of<|Of<|Of<|Of<|Cq wQ<|Cq aE<|Of<|Of<|Of<|Of<|Cq cG<|bL<|Kr ?_;exact⟨rfl,⟨_,rfl,by(simp only[sN, *];rfl)⟩,rfl,rfl,rfl⟩
   refine aN follows<|Cq (aS dZ)<|Cq (bC isAgg3)<|Cq (by exact aA rfl rfl xE rfl (DX o.kind _))<|Cq zE<|Cq aE<|Nf (aS nU)<|Nf (bC isAgg9)<|Nf (by exact aA rfl rfl oU rfl (zO o.id _ h1))<|Nf iQ<|Cq nX<|Cq aE<|Of<|Of<|Of<|Of<|Cq wQ<|Cq aE<|Of<|Of<|Of<|Of<|Of<|Of<|Of<|Cq cG<|Cq aE<|Of<|Of<|Of<|Of<|Cq cG<|bL<|Kr ?_;exact⟨rfl,⟨_,rfl,by(simp only[sN, *];rfl)⟩,rfl,rfl,rfl⟩
  refine aN follows<|Cq (aS dZ)<|Cq (bC isAgg3)<|Cq (by exact aA rfl rfl xE rfl (DX o.kind _))<|Cq zE<|Cq aE<|Of<|Of<|Of<|Of<|Cq wQ<|Cq aE<|Of<|Of<|Of<|Of<|Cq cG<|Cq aE<|Of<|Of<|Of<|Of<|Of<|Of<|Of<|Cq cG<|Cq aE<|Of<|Of<|Of<|Of<|Cq cG<|bL<|Kr ?_;exact⟨rfl,⟨_,rfl,by(simp only[sN, *];rfl)⟩,rfl,rfl,rfl⟩
 refine Cn ?_ ?_<;>intro hc1
 ·refine Sr<|Dd aL<|Zz<|aB<|Rt ?_;exact⟨by rw[lH,JF,<-hml,hc1];rfl,rfl⟩
 refine aC<|Sr<|Dd (by exact BR (id:=37) aB0 rfl rfl)<|Dd (by exact bW (id:=3) rfl aLj rfl rfl)<|Uu (lG sizeOf270)<|Zz<|Sr<|Dd (by exact bW (id:=4) rfl zo9 rfl rfl)<|Uu (lG sizeOf9)<|Zz ?_;refine ZW ([(1,.ref 1 0 0 0),(5,.clo 263 [.ref 1 0 0 0,.ref 4 0 0 0,.ref 3 0 0 0])]) (vH o sNil []) ?_ ?_
 ·refine Rg<|Dd (by exact gJ rfl rfl)<|Da ?_;exact(dA.wk (Ea<|Ec (aJm _ _ _ _)<|trivial) (Hc (J2 _ _)<|Hb<|Ha<|Hb<|trivial) trivial)
 refine Sq<|Sr<|Dd (aS dT)<|Dd (bC aF)<|Dd aE<|Dd (by exact aA rfl rfl TT rfl (rT _ o.refs (pV o) (fun k=>vH o (iG id o.refs k) (xP o.refs k)) h3 (fun k s hk=>dK.clo call263 (by rw[pV,hk,wI hk];simp only[xP,hk];exact aDR o _ s _ (h4 s (aP4 hk))))))<|Zz ?_;refine Cn ?_ ?_<;>intro hc2
 ·refine Sr<|Dd aL<|Zz<|aB<|Rt ?_;exact⟨by rw[lH,hc2];simp,rfl⟩
 have hfin:lH o=M0 o:=by have h:=hc1;rw[hml]at h;rw[lH,JF,h,hc2];rfl
 rw[hfin];clear hfin;generalize iG id o.refs (AP (pV o) o.refs.length)=la;generalize xP o.refs (AP (pV o) o.refs.length)=LL;unfold vH;refine aC<|Sq<|Sr<|Dd (aS dZ)<|Dd (bC isAgg3)<|Zz<|aG<|Sr<|Dd cK<|Da ?_;refine Cn ?_ ?_<;>intro hc3
 ·refine Sq ?_;refine aT (t:=2) (n:=11) (X:=decide (((o.refs.map encStr).length:Int)=0)&&S4 o.x o.y) ?_ ?_
  ·all_goals refine Dd (aS dT) ?_
   all_goals refine Dd (bC aF)<|Dd (fE aD)<|Dd cK<|Dm ?_
   all_goals refine Sp 51 (fun h51=>?_) fun h51=>?_
   all_goals try contradiction
   all_goals first|refine Fo<|Fo<|Fo ?_|refine On (aS lV)<|On (by exact aM rfl dS sizeOf68 rfl rfl rfl rfl (by simp only[Zl,bJ,bS];rfl) rfl)<|On (by exact aA rfl rfl call264 rfl (aOO o.x o.y _)) ?_
   all_goals refine Dd cG<|Da ?_
   all_goals(exact⟨⟨_,rfl,by(simp_all;done)⟩,rfl,rfl,rfl⟩)
  refine aB<|Rt ?_;exact⟨by rw[M0,aPT (aPQ hc3),<-hml],rfl⟩
 refine Sr<|Dd cK<|Da ?_;refine Cn ?_ ?_<;>intro hc4
 ·refine Sq ?_;refine aT (t:=2) (n:=12) (X:=decide (((o.refs.map encStr).length:Int)=3)&&(decide (o.x=0)&&decide (o.y=0))) ?_ ?_
  ·all_goals refine Dd (aS dT) ?_
   all_goals refine Dd (bC aF)<|Dd (fE aD)<|Dd cK<|Dm ?_
   all_goals refine Sp 62 (fun h62=>?_) fun h62=>?_
   all_goals try contradiction
   all_goals first|refine Fo<|Fo<|Fo<|Fo ?_|refine On (aS lV)<|On (by exact aM rfl dS sizeOf68 rfl rfl rfl rfl (by simp only[Zl,bJ,bS];rfl) rfl)<|On (vC W0)<|On (by exact xX rfl rfl rfl rfl rfl gZ (R1 _ _ _ _)) ?_
   all_goals refine Dd cG<|Da ?_
   all_goals(exact⟨⟨_,rfl,by(simp_all;done)⟩,rfl,rfl,rfl⟩)
  refine aB<|Rt ?_;exact⟨by rw[M0,aPS (aPR hc3),aPT (aPQ hc4),<-hml],rfl⟩
 refine aC<|Sr<|Dd (aS lV)<|Dd (by exact aM rfl dS sizeOf68 rfl rfl rfl rfl (by simp only[Zl,bJ,bS];rfl) rfl)<|Dd (vC W0)<|Dd (by exact xX rfl rfl rfl rfl rfl gZ (R1 _ _ _ _))<|Dd aL<|Zz<|aB<|Rt ?_;exact⟨by rw[M0,aPS (aPR hc3),aPS (aPR hc4)],rfl⟩
section
def N0(n:Int):Prop:=(Lit.int .i64 n).wf=true
theorem N0.bd{n:Int}(h:N0 n): -9223372036854775808<=n/\n<=9223372036854775807:=by simpa[N0,Lit.wf,IntKind.min,IntKind.max,IntKind.signed,IntKind.bits]using h
def aDZ(B:Nat)(t:GTag):Prop:=t.key.size<=B/\t.val.size<=B
def yY(B:Nat)(l:List ByteArray):Prop:=l.length<=B/\∀s,s∈l->s.size<=B
def XU(B:Nat)(l:List GTag):Prop:=l.length<=B/\∀s,s∈l->aDZ B s
def UF(B:Nat)(o:GObj):Prop:=o.id.size<=B/\N0 o.kind/\N0 o.x/\N0 o.y/\yY B o.refs/\XU B o.tags
def aJI(B:Nat)(m:List GObj):Prop:=m.length<=B/\∀o,o∈m->UF B o
def RQ(B:Nat)(e:GEdit):Prop:=N0 e.op/\e.id.size<=B/\e.other.size<=B/\e.node.size<=B/\N0 e.x/\N0 e.y/\e.key.size<=B/\e.val.size<=B/\yY B e.refs/\UF B e.obj
def aAM(B:Nat)(l:List GEdit):Prop:=l.length<=B/\∀e,e∈l->RQ B e
section
variable{ps:List PV}
theorem B9(h:Sh Tryz.prog B (n+2) 22 ps):∃l,ps=[bA l]/\yY B l:=by
 obtain ⟨l,rfl,h1,h2⟩:=zD (f:=encStr) (good:=fun s=>s.size<=B) aD h (fun r hr=>by
  obtain ⟨s,rfl,hs⟩:=qB underlying9 hr;exact⟨s,rfl,hs⟩)
 exact⟨l,rfl,h1,h2⟩
theorem aNH(h:Sh Tryz.prog B (n+2) 199 ps):∃t,ps=bJ t/\aDZ B t:=by obtain ⟨a,b,rfl,_,h1,a2,b2,rfl,_,h2,rfl⟩:=nP underlying199 h;obtain ⟨k,rfl,hk⟩:=qB underlying9 h1;obtain ⟨v,rfl,hv⟩:=qB underlying9 h2;exact⟨⟨k,v⟩,rfl,hk,hv⟩
theorem aLG(h:Sh Tryz.prog B (n+3) 149 ps):∃l,ps=[rD l]/\XU B l:=by obtain ⟨l,rfl,h1,h2⟩:=zD (f:=bJ) (good:=aDZ B) cV h (fun r hr=>aNH hr);exact⟨l,rfl,h1,h2⟩
theorem TA(h:Sh Tryz.prog B (n+2) 68 ps):∃x y,ps=[.int .i64 x,.int .i64 y]/\N0 x/\N0 y:=by obtain ⟨a,b,rfl,_,h1,a2,b2,rfl,_,h2,rfl⟩:=nP underlying68 h;obtain ⟨x,rfl,hx⟩:=tX underlying3 h1;obtain ⟨y,rfl,hy⟩:=tX underlying3 h2;exact⟨x,y,rfl,hx,hy⟩
theorem aJZ(h:Sh Tryz.prog B (n+4) 151 ps):∃o,ps=bS o/\UF B o:=by obtain ⟨_,_,rfl,_,h1,_,_,rfl,_,h2,_,_,rfl,_,h3,_,_,rfl,_,h4,_,_,rfl,_,h5,rfl⟩:=nP jL h;obtain ⟨id,rfl,q1⟩:=qB underlying9 h1;obtain ⟨k,rfl,q2⟩:=tX underlying3 h2;obtain ⟨x,y,rfl,q3,q4⟩:=TA h3;obtain ⟨rs,rfl,q5⟩:=B9 h4;obtain ⟨ts,rfl,q6⟩:=aLG h5;exact⟨⟨id,k,x,y,rs,ts⟩,rfl,q1,q2,q3,q4,q5,q6⟩
theorem aLI(h:Sh Tryz.prog B (n+5) 31 ps):∃l,ps=[aD6 l]/\aJI B l:=by obtain ⟨l,rfl,h1,h2⟩:=zD (f:=bS) (good:=UF B) underlying31 h (fun r hr=>aJZ hr);exact⟨l,rfl,h1,h2⟩
theorem aNK(h:Sh Tryz.prog B (n+6) 33 ps):∃l,ps=[aD6 l]/\aJI B l:=by obtain ⟨_,_,rfl,_,h1,rfl⟩:=nP underlying33 h;obtain ⟨l,rfl,q⟩:=aLI h1;exact⟨l,rfl,q⟩
end
theorem aCD{l:List GTag}(hB:B<4611686018427387904)(h:XU B l):HI l:=⟨by have:=h.1;omega,fun t ht=>⟨by have:=(h.2 t ht).1;omega,by have:=(h.2 t ht).2;omega⟩⟩
theorem aK8{o:GObj}(hB:B<4611686018427387904)(h:UF B o):okO o :=⟨by have:=h.1;omega,aCD hB h.2.2.2.2.2,by have:=h.2.2.2.2.1.1;omega,fun s hs=>by have:=h.2.2.2.2.1.2 s hs;omega⟩
end
end Go.Proofs.YtmdicgjnmfolfaaGreatDoor
namespace Go.Proofs.YtmdicgjnmfolfaaGreatDoor
open Go.Proofs.Tryz
open Go.Abs Go.ChangeShapes Go.WideShapes Go.ChangeAt Go.RowKit
theorem own:ownKnob Tryz.prog.godebug=none:=by kernel_rfl
theorem aAj:laidOutB Tryz.prog=true:=by kernel_rfl
theorem XO{H:Type}{l:List (DataW H)}(hk:Rows.uptoSmall H l=true):Rows.uptoBulkAll l<=1048576:=aPQ hk
theorem aCb{H:Type}{l r:List (DataW H)}{n:Nat}(h:Rows.uptoBulkAll (l++r)<=n):Rows.uptoBulkAll l<=n:=by
 induction l generalizing n with
 |nil=>simp[Rows.uptoBulkAll]
 |cons x l ih =>
  simp only[List.cons_append,Rows.uptoBulkAll]at h |-;have:=ih (n:=n - Rows.uptoBulk x) (by omega);omega
end Go.Proofs.YtmdicgjnmfolfaaGreatDoor
namespace Go.Proofs.YtmdicgjnmfolfaaGreatDoor
open Go.Proofs.Tryz
open Go.Abs
section
section
variable{B n:Nat}{ps:List PV}
theorem aLJ(h:Sh Tryz.prog B (n+5) 153 ps):∃o,ps=aW o/\RQ B o:=by obtain ⟨_,_,rfl,_,h1,_,_,rfl,_,h2,_,_,rfl,_,h3,_,_,rfl,_,h4,_,_,rfl,_,h5,_,_,rfl,_,h6,_,_,rfl,_,h7,_,_,rfl,_,h8,_,_,rfl,_,h9,rfl⟩:=nP fL h;obtain ⟨op,rfl,q1⟩:=tX underlying3 h1;obtain ⟨id,rfl,q2⟩:=qB underlying9 h2;obtain ⟨ot,rfl,q3⟩:=qB underlying9 h3;obtain ⟨nd,rfl,q4⟩:=qB underlying9 h4;obtain ⟨x,y,rfl,q5,q6⟩:=TA h5;obtain ⟨k,rfl,q7⟩:=qB underlying9 h6;obtain ⟨v,rfl,q8⟩:=qB underlying9 h7;obtain ⟨rs,rfl,q9⟩:=B9 h8;obtain ⟨o,rfl,q10⟩:=aJZ h9;exact⟨⟨op,id,ot,nd,x,y,k,v,rs,o⟩,rfl,q1,q2,q3,q4,q5,q6,q7,q8,q9,q10⟩
theorem aI7(h:Sh Tryz.prog B (n+6) 23 ps):∃l,ps=[iF l]/\aAM B l:=by obtain ⟨l,rfl,h1,h2⟩:=zD (f:=aW) (good:=RQ B) cX h (fun r hr=>aLJ hr);exact⟨l,rfl,h1,h2⟩
end
end
end Go.Proofs.YtmdicgjnmfolfaaGreatDoor
namespace Go.Abs
theorem dA.get'{G0}{E E'}{H H'}(h:aGS E E')(a:∀j,H'.get j=H.get j):dA G0 E H E' H':=(dA.e0 h).trans (dA.get (fun _=>rfl) a)
theorem wG(id)(o o')(H:aH)(j):aH.get ((id,o)::H) j=aH.get ((id,o)::(id,o')::H) j:=by cases e:Nat.beq id j<;>simp[aH.get,e]
theorem dA.dup{G0}{E E'}{H:aH}{id}{o o'}(h:aGS E E'):dA G0 E ((id,o)::(id,o')::H) E' ((id,o)::H):=dA.get' h (wG _ o _ H)
theorem JU.app{D H G0}(b:∀p∈D,G0.get p.1=none):JU G0 H (D++H):=fun id a=>by
 rw[fW];cases e:D.get _ with
 |none=>rfl
 |some o =>
  have:=b _ (dY e);rw[this]at a;cases a
theorem Fin.pops'{G0 H}{r}(D)(c:Clo H r)(e:eI H)(b:∀p∈D,H.get p.1=none)(d:∀p∈D,G0.get p.1=none):Fin G0 (D++H) r H r:=by intro G a I g w v i h f;subst a;exact⟨I,g,i.restrict (Sub.app b) e,h.restrict (Sub.app b) (JU.app d),f.restrict (Sub.app b) c⟩
end Go.Abs
namespace Go.Proofs.YtmdicgjnmfolfaaGreatDoor
open Go.Proofs.Tryz
open Go.Abs
variable{a b:ByteArray}
theorem qT:∀(x y:List UInt8),Op.bytesLess x y=decide (x<y)
 | [],[]=>by simp[Op.bytesLess]
 |_::_,[]=>by simp[Op.bytesLess]
 | [],_::_=>by simp[Op.bytesLess]
 |a::x,b::y=>by
  rw[Op.bytesLess,qT x y];simp only[List.cons_lt_cons_iff];by_cases h1:a<b<;>by_cases h2:a=b<;>by_cases h3:x<y<;>simp[h1,h2,h3]
theorem J4(s:ByteArray):vN s s=false:=by unfold vN;rw[qT];exact decide_eq_false (List.lt_irrefl _)
theorem J3(h1:vN a b=false)(h2:vN b a=false):a=b:=by
 unfold vN at h1 h2;rw[qT]at h1 h2;have e:a.toList=b.toList:=List.le_antisymm (List.not_lt.1 (aPR h2)) (List.not_lt.1 (aPR h1));have:=yB a b;rw[e]at this
 simpa using this.symm
theorem G6{c:ByteArray}(h1:vN a b=true)(h2:vN b c=true):vN a c=true:=by unfold vN at *;rw[qT]at *;exact decide_eq_true (List.lt_trans (aPQ h1) (aPQ h2))
theorem aAQ(s:ByteArray):vN s sNil=false:=by unfold vN;rw[qT,ByteArray.toList_eq sNil];exact decide_eq_false (List.not_lt_nil _)
theorem J5:sle a b=false↔vN b a=true:=by
 unfold sle;constructor
 ·intro h;simp only[aPg,aP2]at h;cases e:vN b a with
  |true=>rfl
  |false=>exact absurd (J3 h.1 e) h.2
 intro h;simp only[aPg,aP2];refine⟨?_,fun e=>?_⟩
 ·cases e:vN a b with
  |false=>rfl
  |true=>have:=G6 e h;rw[J4]at this;cases this
 subst e;rw[J4]at h;cases h
theorem MZ{s:ByteArray}(h:bM s=true):s≠sNil:=by simp only[bM,aP3,aPd,aP2]at h;exact h.2.1
theorem JQ(fv:AV)(l:List GEdit)(p:GEdit->Bool)(H:aH)(hl:l.length<4611686018427387904)(hf:∀o,o∈l->dK Tryz.prog fv [.agg ((aW o).map .pv)] H (fun r H'=>r=.pv (.bool (p o))/\H'=H)):
    aI Tryz.prog 240 [.pv (.sl (l.map aW)),fv] H (fun r H'=>r=.pv (.int .i64 (wT p l))/\H'=H):=by
  refine Bd func240 rfl ntmps240<|Sr<|Dd aL<|Zz<|Sq<|Sr<|Dd aE<|Dd (fE cX)<|Dd aE<|Zz<|aG ?_;refine bT (σ:=Nat) (fun k=>([(0,.pv (.sl (l.map aW))),(1,fv),(7,.pv (.int .i64 (l.map aW).length)),(8,.pv (.int .i64 (k:Int)))],H)) (fun k=>k<=l.length/\∀j,j<k->∀b,l[j]?=some b->p b=false) (fun k=>l.length - k) 0 ⟨by omega,by omega⟩ ?_ ?_
  · exact E0
  · rintro k ⟨hk,hno⟩
    refine Sr<|Dd cZ<|Zz<|Sq ?_;refine Cn ?_ ?_<;>intro hc1
    · have hlt:k<l.length:=by simpa using hc1
      obtain ⟨o,ho⟩:=aU hlt;have hi:=cJ (f:=aW) ho;have hfo:=hf o (aP4 ho);refine aC<|Sq<|aG<|Sr<|Dd aE<|Dd aL<|Zz<|Sr<|Dd aE<|Dd aE<|Dd aE<|Dd (mE RU)<|Dd (by exact dN rfl cA aX rfl (by omega) (by simp only[Zl,aW];rfl) rfl)<|Dd (by exact cU rfl rfl rfl (hfo))<|Zz ?_;refine Cn ?_ ?_<;>intro hc2
      · skip
        refine Sr<|Dd aE<|Dd aL<|Zz<|aB ?_;exact eG (H':=H) (.inr rfl) rfl (bD rfl) Fin.refl ⟨by rw[wT,QP hno ho hc2],rfl⟩
      · skip
        refine aC<|Rg<|Dd mI<|Dd aE<|Zz ?_;refine⟨k+1,⟨by omega,fun j hj b hb=>?_⟩,by omega,E0⟩;by_cases e:j=k
        · subst e;rw[ho]at hb;cases hb;exact hc2
        · exact hno j (by omega) b hb
    · have hge : k = l.length := by have : l.length <= k := by simpa using hc1
                                    omega
      subst hge;refine aY<|Sr<|Dd aL<|Zz<|aB ?_;exact eG (H':=H) (.inr rfl) rfl (bD rfl) Fin.refl ⟨by rw[wT,QR hno],rfl⟩
def aOT(id:ByteArray)(o:GObj):Bool:=decide (o.id=id)
def onP(x y:Int):Bool:=decide (0<=min x y)&&decide (max x y<1048576)
theorem EJ(fv:AV)(l:List GEdit)(p:GEdit->Bool)(H:aH)(hl:l.length<4611686018427387904)(hf:∀o,o∈l->dK Tryz.prog fv [.agg ((aW o).map .pv)] H (fun r H'=>r=.pv (.bool (p o))/\H'=H)):
  aI Tryz.prog 200 [.pv (.sl (l.map aW)),fv] H (fun r H'=>r=.pv (.bool (l.any p))/\H'=H):=by
 refine aI.body func200 rfl ntmps200 (aP7 rfl) ?_;refine GI ?_;refine AJ ?_;refine Z0 rfl rfl rfl (by exact uG rfl rfl) ?_;refine ZZ ?_;refine GI ?_;refine AJ ?_;refine Z0 rfl rfl rfl (by exact fV rfl rfl) ?_;refine Z0 rfl rfl rfl (by exact fV rfl rfl) ?_;refine Z0 rfl rfl rfl (by exact aA rfl rfl call240 rfl (JQ fv l p H hl hf)) ?_;refine Z0 rfl rfl rfl (by exact mQ rfl rfl rfl) ?_;refine Z0 rfl rfl rfl (by exact uG rfl rfl) ?_;refine ZZ ?_;refine aB ?_;exact eG (H':=H) (.inr rfl) rfl (bD rfl) Fin.refl ⟨by rw[aFL],rfl⟩
def sR(a b:GTag):Bool:=decide (a.key=b.key)&&decide (a.val=b.val)
def oX:List GTag->List GTag->Bool
 | [],[]=>true
 |a::l,b::r=>sR a b&&oX l r
 |_,_=>false
theorem PA(a b:GTag):sR a b=true↔a=b:=by cases a;cases b;simp[sR]
theorem O6:∀(a b:List GTag),a.length≠b.length->oX a b=false
 | [],[],h=>absurd rfl h
 | [],_::_,_=>rfl
 |_::_,[],_=>rfl
 |x::a,y::b,h=>by rw[oX,O6 a b (by simpa using h)];simp
theorem O7:∀(a b:List GTag) (k:Nat) (x y:GTag),a[k]?=some x->b[k]?=some y->sR x y=false->oX a b=false
 | [],_,k,x,y,h,_,_=>by simp at h
 |_::_,[],k,x,y,_,h,_=>by simp at h
 |u::a,v::b,0,x,y,h1,h2,h=>by cases h1;cases h2;rw[oX,h];rfl
 |u::a,v::b,k+1,x,y,h1,h2,h=>by rw[oX,O7 a b k x y h1 h2 h];simp
theorem K8:∀(a b:List GTag),a.length=b.length->(∀k,k<a.length->∀x y,a[k]?=some x->b[k]?=some y->sR x y=true)->oX a b=true
 | [],[],_,_=>rfl
 | [],_::_,h,_=>by simp at h
 |_::_,[],h,_=>by simp at h
 |u::a,v::b,hl,h=>by
  rw[oX,h 0 (by simp) u v rfl rfl,K8 a b (by simpa using hl) (fun k hk x y h1 h2=>h (k+1) (by simpa using hk) x y h1 h2)];rfl
theorem WH (a b : List GTag) (H : aH) (ha : a.length < 4611686018427387904) :
    aI Tryz.prog 273 [lv (a.map bJ),lv (b.map bJ)] H (fun r H'=>r=bv (oX a b)/\H'=H):=by
  refine Pu ?_;refine Bd func273 rfl ntmps273<|Sr<|Dd aL<|Zz<|Sq<|Sr<|Dd aE<|Dd (fE cV)<|Dd aE<|Dd (fE cV)<|Dd xY<|Zz ?_;refine Cn ?_ ?_<;>intro hc1
  · have hne:a.length≠b.length:=by simp at hc1;omega
    refine Sr<|Dd aL<|Zz<|aB<|Rt ?_;exact⟨by rw[O6 a b hne],rfl⟩
  · have heq : a.length = b.length := by simp at hc1; omega
    refine aC<|Sq<|Sr<|Dd aE<|Dd (fE cV)<|Dd aE<|Zz<|aG ?_;refine bT (σ:=Nat) (fun k=>([(0,lv (a.map bJ)),(1,lv (b.map bJ)),(12,iv (a.map bJ).length),(13,iv (k:Int))],[])) (fun k=>k<=a.length/\∀j,j<k->∀x y,a[j]?=some x->b[j]?=some y->sR x y=true) (fun k=>a.length - k) 0 ⟨by omega,by omega⟩ ?_ ?_
    · exact E0
    · rintro k ⟨hk,hall⟩
      refine Sr<|Dd cZ<|Zz<|Sq ?_;refine Cn ?_ ?_<;>intro hc2
      · have hlt:k<a.length:=by simpa using hc2
        obtain ⟨x,hx⟩:=aU hlt;obtain ⟨y,hy⟩:=aU (l:=b) (k:=k) (by omega);have hi:=cJ (f:=bJ) hx;have hi2:=cJ (f:=bJ) hy;refine aC<|Sq<|aG<|Sr<|Dd aE<|Dd aL<|Zz<|Sq<|aN follows<|Cq aE<|Cq aE<|Cq (mE jU)<|Cq (by exact dN rfl tP jY rfl (by omega) (by simp only[Zl,bJ,bS,aW];rfl) rfl)<|Cq aE<|Cq aE<|Cq (mE jU)<|Cq (by exact dN rfl tP jY rfl (by omega) (by simp only[Zl,bJ,bS,aW];rfl) rfl)<|Cq (by exact xW rfl rfl rfl rfl rfl eqGuardType199 (aJJ _ _ _ _))<|bL<|Kr ?_;refine Cn ?_ ?_<;>intro hc3
        · have ht:sR x y=false:=by
            have h:(!sR x y)=true:=hc3
            simpa using h
          refine Sr<|Dd aL<|Zz<|aB<|Rt ?_;exact⟨by rw[O7 a b k x y hx hy ht],rfl⟩
        · have ht:sR x y=true:=by
            have h:(!sR x y)=false:=hc3
            simpa using h
          refine aC<|Rg<|Dd mI<|Dd aE<|Zz ?_;refine⟨k+1,⟨by omega,fun j hj x' y' h1 h2=>?_⟩,by omega,E0⟩;by_cases e:j=k
          · subst e;rw[hx]at h1;rw[hy]at h2;cases h1;cases h2;exact ht
          · exact hall j (by omega) x' y' h1 h2
      · have hge : k = a.length := by have : a.length <= k := by simpa using hc2
                                      omega
        subst hge;refine aY<|Sr<|Dd aL<|Zz<|aB<|Rt ?_;exact⟨by rw[K8 a b heq hall],rfl⟩
def AS(n:Int)(s:ByteArray):Bool:=decide (n<(s.size:Int))
def aEe(n:Int)(t:GTag):Bool:=decide (n<IntKind.i64.wrap ((t.key.size:Int)+(t.val.size:Int)))
def aJO(o:GObj):Prop:=o.refs.length<4611686018427387904/\o.tags.length<4611686018427387904
def DW(o:GObj)(n:Int):Bool:=(AS 300 o.id||decide (n<(o.refs.length:Int))||decide (65<(o.tags.length:Int)))||o.refs.any (AS 300)||o.tags.any (aEe 600)
theorem aIV(o:GObj)(n:Int)(H:aH)(hok:aJO o):
  aI Tryz.prog 145 [av (bS o),iv n] H (fun r H'=>r=bv (!DW o n)/\H'=H):=by
 refine Pu ?_;have hrl:(o.refs.map encStr).length=o.refs.length:=aPU _;have htl:(o.tags.map bJ).length=o.tags.length:=aPU _;have h1:=hok.1;have h2:=hok.2;refine Bd func145 rfl ntmps145<|Sr<|Dd (by exact cD (id:=2) rfl rfl rfl rfl rfl)<|Dd aL<|Zz<|Sq<|Sq ?_;refine aT (t:=23) (n:=19) (X:=AS 300 o.id||decide (n<((o.refs.map encStr).length:Int))||decide (65<((o.tags.map bJ).length:Int))) ?_ ?_
 ·all_goals refine Dd (aS nU) ?_
  all_goals refine Dd (bC isAgg9)<|Dd (jV underlying9)<|Dd iE<|Dm ?_
  all_goals refine Sp 11 (fun h11=>?_) fun h11=>?_
  all_goals try contradiction
  all_goals first|refine Fo<|Fo<|Fo<|Fo<|Fo ?_|refine On (aS dT)<|On (bC aF)<|On (fE aD)<|On aE<|On iE ?_
  all_goals refine Dd cG<|Dm ?_
  all_goals refine Sp 18 (fun h18=>?_) fun h18=>?_
  all_goals try contradiction
  all_goals first|refine Fo<|Fo<|Fo<|Fo ?_|refine On (aS eX)<|On (bC cQ)<|On (fE cV)<|On iE ?_
  all_goals refine Dd cG<|Zz ?_
  all_goals(exact⟨⟨_,rfl,by first|(simp only[AS, *];rfl)|(simp_all[AS];done)|(simp_all[AS];omega)⟩,rfl,rfl,rfl⟩)
 refine Cn ?_ ?_<;>intro hc1
 ·rw[hrl,htl]at hc1;refine Sr<|Dd aL<|Zz<|aB<|Rt ?_;exact⟨by rw[DW,hc1];rfl,rfl⟩
 rw[hrl,htl]at hc1;have hb1:DW o n=(o.refs.any (AS 300)||o.tags.any (aEe 600)):=by rw[DW,hc1];rfl
 refine aC<|Sq<|Sr<|Dd aL<|Zz<|aG ?_;refine bT (σ:=Nat) (fun q=>([(2,.ref 2 0 0 0),(5,iv (q:Int))],[(2,bx 6 151 ((bS o).map .pv))])) (fun q=>q<=o.refs.length/\∀j,j<q->∀b,o.refs[j]?=some b->AS 300 b=false) (fun q=>o.refs.length - q) 0 ⟨by omega,by omega⟩ ?_ ?_
 ·exact Wk
 rintro q ⟨hq,hnr⟩;refine Sq<|Sr<|Dd aE<|Dd (aS dT)<|Dd (bC aF)<|Dd (fE aD)<|Dd cZ<|Zz ?_;refine Cn ?_ ?_<;>intro hc2
 ·have hlt2:q<o.refs.length:=by simpa using hc2
  obtain ⟨s,hs⟩:=aU hlt2;have hse:=cJ (f:=encStr) hs;refine aC<|Sq<|aG<|Sr<|Dd (aS dT)<|Dd (bC aF)<|Dd aE<|Dd (mE cB)<|Dd (iJ isAgg9)<|Dd (jV underlying9)<|Dd iE<|Zz ?_;refine Cn ?_ ?_<;>intro hc3
  ·have hbad:DW o n=true:=by rw[hb1,yN hs hc3];rfl
   refine Sr<|Dd aL<|Zz<|aB<|Rt ?_;exact⟨by rw[hbad];rfl,rfl⟩
  refine aC<|Rg<|Dd aE<|Dd mI<|Da ?_;exact⟨q+1,⟨by omega,uE hnr hs hc3⟩,by omega,Wk⟩
 have hge:q=o.refs.length:=by
  have:o.refs.length<=q:=by simpa using hc2
  omega
 subst hge;rw[CG hnr,Bool.false_or]at hb1;refine aY<|Sq<|Sr<|Dd aL<|Zz<|aG ?_;refine bT (σ:=Nat) (fun q=>([(2,.ref 2 0 0 0),(6,iv (q:Int))],[(2,bx 6 151 ((bS o).map .pv))])) (fun q=>q<=o.tags.length/\∀j,j<q->∀b,o.tags[j]?=some b->aEe 600 b=false) (fun q=>o.tags.length - q) 0 ⟨by omega,by omega⟩ ?_ ?_
 ·exact Wk
 rintro q ⟨hq,hnt⟩;refine Sq<|Sr<|Dd aE<|Dd (aS eX)<|Dd (bC cQ)<|Dd (fE cV)<|Dd cZ<|Zz ?_;refine Cn ?_ ?_<;>intro hc4
 ·have hlt2:q<o.tags.length:=by simpa using hc4
  obtain ⟨s,hs⟩:=aU hlt2;have hse:=cJ (f:=bJ) hs;refine aC<|Sq<|aG<|Sq<|aN follows<|Cq (aS eX)<|Cq (bC cQ)<|Cq aE<|Cq (mE jU)<|Cq (M4 mV)<|Cq (iJ isAgg9)<|Cq (jV underlying9)<|Cq (aS eX)<|Cq (bC cQ)<|Cq aE<|Cq (mE jU)<|Cq (M4 nS)<|Cq (iJ isAgg9)<|Cq (jV underlying9)<|Cq (by exact bZ rfl rfl rfl rfl)<|Cq iE<|bL<|Kr ?_;refine Cn ?_ ?_<;>intro hc5
  ·have hbad:DW o n=true:=by rw[hb1,yN hs hc5]
   refine Sr<|Dd aL<|Zz<|aB<|Rt ?_;exact⟨by rw[hbad];rfl,rfl⟩
  refine aC<|Rg<|Dd aE<|Dd mI<|Da ?_;exact⟨q+1,⟨by omega,uE hnt hs hc5⟩,by omega,Wk⟩
 have hge:q=o.tags.length:=by
  have:o.tags.length<=q:=by simpa using hc4
  omega
 subst hge;have hgood:DW o n=false:=by rw[hb1,CG hnt]
 refine aY<|Sr<|Dd aL<|Zz<|aB<|Rt ?_;exact⟨by rw[hgood];rfl,rfl⟩
end Go.Proofs.YtmdicgjnmfolfaaGreatDoor
