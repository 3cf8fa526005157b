/-
  Parts of the proof: rules of an abstract program logic, contracts of functions, plain laws. Conditions: each theorem's own.
-/
import Derived.Test.YtmdicgjnmfolfaaGreatDoorKR5M2
import Derived.Test.YtmdicgjnmfolfaaGreatDoorRows
import Derived.OpenShut
import Derived.JoinedCond
import Derived.Carry
import Derived.MapKept
import Derived.Laws.IdiomRangeMap
import Derived.Lib.Bytealg
set_option linter.unusedVariables false
set_option linter.unusedSimpArgs false
set_option maxRecDepth 100000
set_option maxHeartbeats 8000000
namespace Go.Proofs
open Tryz
theorem vV:type_of% call140:=call140
theorem aNQ:type_of% call180:=call180
theorem nH:type_of% call70:=call70
theorem aME:type_of% isAgg158:=isAgg158
theorem sG:type_of% isAgg199:=isAgg199
theorem zO:type_of% isAgg5:=isAgg5
theorem mX:type_of% sizeOf124:=sizeOf124
theorem aKL:type_of% sizeOf135:=sizeOf135
theorem bA:type_of% sizeOf153:=sizeOf153
theorem vQ:type_of% sizeOf158:=sizeOf158
theorem iR:type_of% sizeOf199:=sizeOf199
theorem aMB:type_of% sizeOf20:=sizeOf20
theorem aR:type_of% sizeOf30:=sizeOf30
theorem bV:type_of% sizeOf5:=sizeOf5
theorem cJ:type_of% underlying124:=underlying124
theorem cQ:type_of% underlying149:=underlying149
theorem iK:type_of% underlying151:=underlying151
theorem eT:type_of% underlying153:=underlying153
theorem eS:type_of% underlying158:=underlying158
theorem DK:type_of% underlying172:=underlying172
theorem gE:type_of% underlying182:=underlying182
theorem DJ:type_of% underlying187:=underlying187
theorem ZG:type_of% underlying218:=underlying218
theorem aC:type_of% underlying22:=underlying22
theorem dL:type_of% underlying23:=underlying23
theorem fT:type_of% underlying25:=underlying25
theorem dY:type_of% underlying26:=underlying26
theorem lN:type_of% underlying28:=underlying28
theorem cW:type_of% underlying30:=underlying30
theorem dU:type_of% underlying5:=underlying5
theorem FR:type_of% underlying69:=underlying69
theorem FQ:type_of% zeroValue122:=zeroValue122
theorem FO:type_of% zeroValue151:=zeroValue151
theorem aCT:type_of% zeroValue153:=zeroValue153
theorem aCS:type_of% zeroValue187:=zeroValue187
theorem aCR:type_of% zeroValue199:=zeroValue199
theorem aFU:type_of% zeroValue20:=zeroValue20
theorem aFT:type_of% zeroValue22:=zeroValue22
theorem aFS:type_of% zeroValue25:=zeroValue25
theorem sP:type_of% zeroValue3:=zeroValue3
theorem aFR:type_of% zeroValue30:=zeroValue30
theorem aFQ:type_of% zeroValue37:=zeroValue37
theorem BB:type_of% zeroValue4:=zeroValue4
theorem BA:type_of% zeroValue5:=zeroValue5
theorem aFP:type_of% zeroValue68:=zeroValue68
theorem sO:type_of% zeroValue9:=zeroValue9
end Go.Proofs
namespace Go.Abs
variable{ops:Array Oper}{K:bS->aB->Prop}{rest:List Oper}{d t:Tmp}{op:Op}{ty S off:TypeId}{pos:String}{af:Array Edge}{x y cc:Code}{id n k k2 j N g:Nat}{a v a':AV}{b want:Bool}{α β γ:Type}{f:FuncId}{args r cs cells l:List AV}{rows ps:List (List PV)}{m:Int}{dst:Option Tmp}{w:World}{p:PV}{c:Operand}{E L:bS}{H' H G0:aB}{o ob:Ob}{I:Nat->Prop}{P:Program}{Q:Exit->bS->aB->Prop}{ι:dX}
section
section
variable{o:Oper}{H H2:aB}{T e t t':TypeId}{x y:Operand}{id g i:Nat}
theorem Dd(h:cH P N ⟨some d,op,ty,pos,af,none⟩ E H v H2)(hk:AL P G0 N ops K rest ((d,v)::E) H2)(hn:Nat.blt d N=true:=by rfl):AL P G0 N ops K (⟨some d,op,ty,pos,af,none⟩::rest) E H:=ZE rfl rfl hn h hk
theorem Uu(h:cH P N ⟨none,op,ty,pos,af,none⟩ E H v H2)(hk:AL P G0 N ops K rest E H2):AL P G0 N ops K (⟨none,op,ty,pos,af,none⟩::rest) E H:=aNL rfl rfl h hk
theorem Sq{x y:Code}(h:fL P G0 N x (xA (fL P G0 N y Q) Q) E H):fL P G0 N (.seq x y) Q E H:=FE h
theorem Rg(h:AL P G0 N ops (fun E H=>Q .normal E H) ops.toList E H):fL P G0 N (.region id ops false) Q E H:=yR h
theorem Zz(h:K E H):AL P G0 N ops K [] E H:=ZD h
theorem aG(ho:o.op=.move x:=by rfl)(hx:aO E x=some v:=by rfl):cH P N o E H v H:=eP ho hx
theorem aM(ho:o.op=.assign x:=by rfl)(hx:aO E x=some v:=by rfl):cH P N o E H v H:=tE ho hx
theorem Sr{y:Code}(h:AL P G0 N ops (fun E H=>xA (fL P G0 N y Q) Q .normal E H) ops.toList E H):fL P G0 N (.seq (.region id ops false) y) Q E H:=Sq (Rg h)
theorem Dm(hk:AL P G0 N ops K rest ((d,v)::E) H)(ho:op=.move x:=by rfl)(hx:aO E x=some v:=by rfl)(hn:Nat.blt d N=true:=by rfl):AL P G0 N ops K (⟨some d,op,ty,pos,af,none⟩::rest) E H:=Dd (eP ho hx) hk hn
theorem Da(hk:K ((d,v)::E) H)(ho:op=.assign x:=by rfl)(hx:aO E x=some v:=by rfl)(hn:Nat.blt d N=true:=by rfl):AL P G0 N ops K [⟨some d,op,ty,pos,af,none⟩] E H:=Dd (tE ho hx) (Zz hk) hn
theorem Kr{a b:Prop}(h:b)(h1:a:=by kernel_rfl):a/\b:=⟨h1,h⟩
theorem Qq{a:α}{b:β}:a=a/\b=b:=⟨rfl,rfl⟩
theorem Pu{r0:AV}(h:aH P f args [] (fun r H=>r=r0/\H=[]))(hp:∀a∈args,Clo [] a:=by simp):aH P f args H (fun r H'=>r=r0/\H'=H):=aH.pure h hp H
theorem eZ{vs:List AV}(ho:o.op=.extract x n:=by rfl)(hx:aO E x=some (.tup vs):=by rfl)(hv:vs[n]?=some v:=by rfl):cH P N o E H v H:=qN ho hx hv
theorem bE{f:Nat}(hF:cB P S f off)(ho:o.op=.fieldAddr S x f:=by rfl)(hx:aO E x=some (.ref id g i k):=by rfl)(hH:H.get id=some ob:=by rfl)(hg:ob.g=g:=by rfl)(hk:k+off=k2:=by rfl):cH P N o E H (.ref id g i k2) H:=aZ ho hF hx hH hg hk
theorem bQ(ha:∀w,(isAgg T).run P w=.ok false w)(ho:o.op=.load T x:=by rfl)(hx:aO E x=some (.ref id g i k):=by rfl)(hH:H.get id=some ob:=by rfl)(hg:ob.g=g:=by rfl)(hi:ob.rows[i]?=some r:=by rfl)(hk:r[k]?=some v:=by rfl):cH P N o E H v H:=aK ho ha hx hH hg hi hk
theorem rC(ha:∀w,(isAgg T).run P w=.ok true w)(hs:∀w,(sizeOf T).run P w=.ok n w)(ho:o.op=.load T x:=by rfl)(hx:aO E x=some (.ref id g i k):=by rfl)(hH:H.get id=some ob:=by rfl)(hg:ob.g=g:=by rfl)(hi:ob.rows[i]?=some r:=by rfl)(hk:(r.drop k).take n=cs:=by rfl)(hl:cs.length=n:=by rfl):cH P N o E H (.agg cs) H:=aN ho ha hs hx hH hg hi hk hl
theorem kG(hs:∀w,(sizeOf T).run P w=.ok n w)(ho:o.op=.store T x y:=by rfl)(hx:aO E x=some (.ref id g 0 0):=by rfl)(hy:aO E y=some v:=by rfl)(hc:SX v=some cells:=by rfl)(hn:cells.length=n:=by rfl)(hH:H.get id=some ob:=by rfl)(hg:ob.g=g:=by rfl)(hi:ob.rows=[r]:=by rfl)(hk:r.length=n:=by rfl):cH P N o E H .any ((id,⟨g,ob.sz,ob.ty,[cells]⟩)::H):=bX ho hs hx hy hc hn hH hg hi hk
theorem fZ(ht:P.underlying T=some (.slice e))(ho:o.op=.call {callee:=.builtin .len,args:=#[x],argTypes:=#[T]}:=by rfl)(hx:aO E x=some (.pv (.sl rows)):=by rfl):cH P N o E H (.pv (.int .i64 rows.length)) H:=kJ ho ht hx
theorem zV{r:List PV}{kk:IntKind}{n:Int}{m sz:Nat}(hS:eG P T e sz)(ho:o.op=.indexAddr T x y:=by rfl)(hx:aO E x=some (.pv (.sl rows)):=by rfl)(hy:aO E y=some (.pv (.int kk n)):=by rfl)(h0:0<=n:=by omega)(hm:n.toNat=m:=by exact aOG _)(hi:rows[m]?=some r:=by assumption)(hl:r.length=sz:=by rfl):cH P N o E H (.pad rows m 0) H:=aT ho hS hx hy h0 hm hi hl
theorem wV{parts:Array (Nat×Operand)}{places:List (Nat×Nat)}{l0:List AV}{aps:List (Nat×AV)}(hB:kR P T places l0)(ho:o.op=.build T parts:=by rfl)(hp:mW E parts.toList=some aps:=by rfl)(hf:yU (fun i=>places[i]?) l0 aps=some l:=by rfl):cH P N o E H (.agg l) H:=IL ho hB hp hf
theorem cP{k:IntKind}{n:Int}(ho:o.op=.binOp .lss t x y t':=by rfl)(hx:aO E x=some (.pv (.int k n)):=by rfl)(hy:aO E y=some (.pv (.int k m)):=by rfl):cH P N o E H (.pv (.bool (decide (n<m)))) H:=IY ho hx hy
theorem dK{k:IntKind}{n:Int}(ho:o.op=.binOp .eql t x y t':=by rfl)(hx:aO E x=some (.pv (.int k n)):=by rfl)(hy:aO E y=some (.pv (.int k m)):=by rfl):cH P N o E H (.pv (.bool (decide (n=m)))) H:=rS ho hx hy
theorem Cq{ops:List Oper}{K:List Rec->bS->aB->Prop}(h:cH P N ⟨dst,op,ty,pos,af,none⟩ (restr E (fV ops ⟨dst,op,ty,pos,af,none⟩)) H v H)(hk:DC P N ops rest (iZ E dst v) H (fun rs E' H'=>K (⟨v,none,[]⟩::rs) E' H'))(hd:gY N dst=true:=by rfl):DC P N ops (⟨dst,op,ty,pos,af,none⟩::rest) E H K:=aX (DStep.q rfl h) hd hk
theorem Cp{ops:List Oper}{K:List Rec->bS->aB->Prop}(R:List Nat){w:Nat×Ob}(h:∀H1:aB,(∀id,wJ (some R) id=true->H1.get id=H.get id)->cH P N ⟨dst,op,ty,pos,af,none⟩ (restr E (fV ops ⟨dst,op,ty,pos,af,none⟩)) H1 v (w::H1))(hk:DC P N ops rest (iZ E dst v) (w::H) (fun rs E' H'=>K (⟨v,some R,[w]⟩::rs) E' H'))(hd:gY N dst=true:=by rfl):DC P N ops (⟨dst,op,ty,pos,af,none⟩::rest) E H K:=aX (r:=⟨v,some R,[w]⟩) (DStep.plain rfl h) hd hk
theorem Cr{ops:List Oper}{K:List Rec->bS->aB->Prop}(R:List Nat)(h:∀H1:aB,(∀id,wJ (some R) id=true->H1.get id=H.get id)->cH P N ⟨dst,op,ty,pos,af,none⟩ (restr E (fV ops ⟨dst,op,ty,pos,af,none⟩)) H1 v H1)(hk:DC P N ops rest (iZ E dst v) H (fun rs E' H'=>K (⟨v,some R,[]⟩::rs) E' H'))(hd:gY N dst=true:=by rfl):DC P N ops (⟨dst,op,ty,pos,af,none⟩::rest) E H K:=aX (r:=⟨v,some R,[]⟩) (DStep.plain rfl h) hd hk
theorem Cs{ops:List Oper}{K:List Rec->bS->aB->Prop}(h:∀H1:aB,(∀id,wJ none id=true->H1.get id=H.get id)->cH P N ⟨dst,op,ty,pos,af,none⟩ (restr E (fV ops ⟨dst,op,ty,pos,af,none⟩)) H1 v H1)(hk:DC P N ops rest (iZ E dst v) H (fun rs E' H'=>K (⟨v,none,[]⟩::rs) E' H'))(hd:gY N dst=true:=by rfl):DC P N ops (⟨dst,op,ty,pos,af,none⟩::rest) E H K:=aX (r:=⟨v,none,[]⟩) (DStep.plain rfl h) hd hk
theorem Ot{ops:List Oper}{K:List Rec->bS->aB->Prop}{t:Tmp}(hk:DC P N ops rest (iZ E dst (.tup [])) H (fun rs E' H'=>K (⟨.tup [],some [],[]⟩::rs) E' H'))(hj:iD ops j=some t:=by rfl)(hb:E.get t=some (.pv (.bool b)):=by rfl)(hw:b=false:=by first|rfl|assumption)(hd:gY N dst=true:=by rfl):DC P N ops (⟨dst,op,ty,pos,af,some (j,true)⟩::rest) E H K:=aX (aG2 rfl hj hb hw) hd hk
theorem Of{ops:List Oper}{K:List Rec->bS->aB->Prop}{t:Tmp}(hk:DC P N ops rest (iZ E dst (.tup [])) H (fun rs E' H'=>K (⟨.tup [],some [],[]⟩::rs) E' H'))(hj:iD ops j=some t:=by rfl)(hb:E.get t=some (.pv (.bool b)):=by rfl)(hw:b=true:=by first|rfl|assumption)(hd:gY N dst=true:=by rfl):DC P N ops (⟨dst,op,ty,pos,af,some (j,false)⟩::rest) E H K:=aX (aG3 rfl hj hb hw) hd hk
theorem Ou{ops:List Oper}{K:List Rec->bS->aB->Prop}{t:Tmp}{w:Bool}(hk:DC P N ops rest (iZ E dst (.tup [])) H (fun rs E' H'=>K (⟨.tup [],some [],[]⟩::rs) E' H'))(hj:iD ops j=some t:=by rfl)(hb:E.get t=some (.tup []):=by rfl)(hd:gY N dst=true:=by rfl):DC P N ops (⟨dst,op,ty,pos,af,some (j,w)⟩::rest) E H K:=aX (aG1 rfl hj hb) hd hk
theorem On{t:Tmp}(h:cH P N ⟨some d,op,ty,pos,af,some (j,want)⟩ E H v H2)(hk:AL P G0 N ops K rest ((d,v)::E) H2)(hj:iD ops.toList j=some t:=by rfl)(hb:E.get t=some (.pv (.bool b)):=by rfl)(hw:b=want:=by rfl)(hn:Nat.blt d N=true:=by rfl):AL P G0 N ops K (⟨some d,op,ty,pos,af,some (j,want)⟩::rest) E H:=aKI rfl hj hb hw rfl hn h hk
theorem Fo{t:Tmp}(hk:AL P G0 N ops K rest (iZ E dst (.tup [])) H)(hj:iD ops.toList j=some t:=by rfl)(hb:E.get t=some (.pv (.bool b)):=by rfl)(hw:b=!want:=by rfl)(hd:gY N dst=true:=by rfl):AL P G0 N ops K (⟨dst,op,ty,pos,af,some (j,want)⟩::rest) E H:=aKJ rfl hj hb hw hd hk
section
variable{R:Option (List Nat)}{H1:aB}
theorem fh{f:Nat}(hF:cB P S f off)(h:∀id,wJ R id=true->H1.get id=H.get id)(ho:o.op=.fieldAddr S x f:=by rfl)(hx:aO E x=some (.ref id g i k):=by rfl)(hm:wJ R id=true:=by rfl)(hH:H.get id=some ob:=by rfl)(hg:ob.g=g:=by rfl)(hk:k+off=k2:=by rfl):cH P N o E H1 (.ref id g i k2) H1:=aZ ho hF hx ((h _ hm).trans hH) hg hk
theorem lh(ha:∀w,(isAgg T).run P w=.ok false w)(h:∀id,wJ R id=true->H1.get id=H.get id)(ho:o.op=.load T x:=by rfl)(hx:aO E x=some (.ref id g i k):=by rfl)(hm:wJ R id=true:=by rfl)(hH:H.get id=some ob:=by rfl)(hg:ob.g=g:=by rfl)(hi:ob.rows[i]?=some r:=by rfl)(hk:r[k]?=some v:=by rfl):cH P N o E H1 v H1:=aK ho ha hx ((h _ hm).trans hH) hg hi hk
end
section
variable{k:IntKind}{n m:Int}{s u:ByteArray}{r:List PV}{i j q f F:Nat}
theorem mT(ho:o.op=.unOp .not t x:=by rfl)(hx:aO E x=some (.pv (.bool b)):=by rfl):cH P N o E H (.pv (.bool (!b))) H:=aGh ho hx
theorem zW(ho:o.op=.binOp .neq t x y t':=by rfl)(hx:aO E x=some (.pv (.int k n)):=by rfl)(hy:aO E y=some (.pv (.int k m)):=by rfl):cH P N o E H (.pv (.bool (!decide (n=m)))) H:=xT ho hx hy
theorem mN(ho:o.op=.binOp .gtr t x y t':=by rfl)(hx:aO E x=some (.pv (.int k n)):=by rfl)(hy:aO E y=some (.pv (.int k m)):=by rfl):cH P N o E H (.pv (.bool (decide (m<n)))) H:=EB ho hx hy
theorem TA(ho:o.op=.binOp .leq t x y t':=by rfl)(hx:aO E x=some (.pv (.int k n)):=by rfl)(hy:aO E y=some (.pv (.int k m)):=by rfl):cH P N o E H (.pv (.bool (decide (n<=m)))) H:=xU ho hx hy
theorem LN(ho:o.op=.binOp .geq t x y t':=by rfl)(hx:aO E x=some (.pv (.int k n)):=by rfl)(hy:aO E y=some (.pv (.int k m)):=by rfl):cH P N o E H (.pv (.bool (decide (m<=n)))) H:=uP ho hx hy
theorem B3(ho:o.op=.binOp .eql t x y t':=by rfl)(hx:aO E x=some (.pv (.str s)):=by rfl)(hy:aO E y=some (.pv (.str u)):=by rfl):cH P N o E H (.pv (.bool (decide (s=u)))) H:=tD ho hx hy
theorem TU(ho:o.op=.binOp .neq t x y t':=by rfl)(hx:aO E x=some (.pv (.str s)):=by rfl)(hy:aO E y=some (.pv (.str u)):=by rfl):cH P N o E H (.pv (.bool (!decide (s=u)))) H:=KO ho hx hy
theorem qV(ho:o.op=.binOp .add t x y t':=by rfl)(hx:aO E x=some (.pv (.int .i64 n)):=by rfl)(hy:aO E y=some (.pv (.int .i64 m)):=by rfl){r:Int}(hr:IntKind.i64.wrap (n+m)=r:=by exact iY (by omega) (by omega)):cH P N o E H (.pv (.int .i64 r)) H:=bG ho hx hy hr
theorem fp'{q2:Nat}(hF:cB P S f off)(ho:o.op=.fieldAddr S x f:=by rfl)(hx:aO E x=some (.pad rows i q):=by rfl)(hk:q+off=q2:=by rfl):cH P N o E H (.pad rows i q2) H:=NS ho hF hx hk
theorem kS(ha:∀w,(isAgg T).run P w=.ok false w)(ho:o.op=.load T x:=by rfl)(hx:aO E x=some (.pad rows i q):=by rfl)(hi:rows[i]?=some r:=by first|assumption|omega)(hk:r[q]?=some p:=by rfl):cH P N o E H (.pv p) H:=NO ho ha hx hi hk
theorem NE(ho:o.op=.pick c x y:=by rfl)(hc:aO E c=some (.pv (.bool b)):=by rfl)(hb:b=true:=by assumption)(hv:aO E x=some v:=by rfl):cH P N o E H v H:=aB2 ho hc hb hv
theorem zA(ho:o.op=.pick c x y:=by rfl)(hc:aO E c=some (.pv (.bool b)):=by rfl)(hb:b=false:=by assumption)(hv:aO E y=some v:=by rfl):cH P N o E H v H:=aB3 ho hc hb hv
theorem cN(ho:o.op=.pick c x y:=by rfl)(hc:aO E c=some (.pv (.bool b)):=by rfl)(hv:aO E (if b then x else y)=some v:=by rfl):cH P N o E H v H:=AM ho hc hv
theorem nF(ht:P.underlying T=some .string)(ho:o.op=.call {callee:=.builtin .len,args:=#[x],argTypes:=#[T]}:=by rfl)(hx:aO E x=some (.pv (.str s)):=by rfl):cH P N o E H (.pv (.int .i64 s.size)) H:=HO ho ht hx
theorem zN{q:Nat}(ho:o.op=.nilCheck x:=by rfl)(hx:aO E x=some (.ref id g i q):=by rfl)(hH:H.get id=some ob:=by rfl)(hg:ob.g=g:=by rfl):cH P N o E H (.ref id g i q) H:=eU ho hx hH hg
end
section
variable{fn:Func}{Q:AV->aB->Prop}{q:Exit}{r r1 r2:AV}{t1 t2:Tmp}
theorem Rt(hq:Q r [])(hf:fn.results=#[.tmp t1]:=by rfl)(ht:E.get t1=some r:=by rfl)(hc:Clo [] r:=by simp):HE P fn [] Q .ret E H:=dC (.inr rfl) hf (aW ht) (Fin.wk hc trivial trivial) hq
theorem Ru(hq:Q (.tup [r1,r2]) [])(hf:fn.results=#[.tmp t1,.tmp t2]:=by rfl)(ht:E.get t1=some r1:=by rfl)(hu:E.get t2=some r2:=by rfl)(hc:Clo [] (.tup [r1,r2]):=by simp):HE P fn [] Q .ret E H:=tX (.inr rfl) hf (aW ht) (aW hu) (Fin.wk hc trivial trivial) hq
theorem rl'{T:TypeId}{i:Nat}(ha:∀w,(isAgg T).run P w=.ok true w)(hs:∀w,(sizeOf T).run P w=.ok n w)(hx:E.get t1=some (.ref id g i k):=by rfl)(hH:H.get id=some ob:=by rfl)(hg:ob.g=g:=by rfl)(hi:ob.rows[i]?=some cells:=by rfl)(hk:(cells.drop k).take n=cs:=by rfl)(hl:cs.length=n:=by rfl):IH P E H (.cell t1 T) (.agg cs):=fF hx ha hs hH hg hi hk hl
theorem Bd{c:Code}(hf:P.funcs[f]?=some fn)(hb:fn.body=some c)(hN:fn.ntmps=N)(h:fL P H N c (HE P fn H Q) (kV args) H)(hlen:args.length<=N:=by exact aOI rfl):aH P f args H Q:=aH.body hf hb hN hlen h
end
section
variable{E':bS}
theorem Cn{x y:Code}(h1:b=true->fL P G0 N x Q E H)(h2:b=false->fL P G0 N y Q E H)(hc:aO E c=some (.pv (.bool b)):=by rfl):fL P G0 N (.cond c x y) Q E H:=aFD hc h1 h2
theorem Sp(t:Tmp){l:List Oper}(h1:b=true->AL P G0 N ops K l ((t,.pv (.bool true))::E) H)(h2:b=false->AL P G0 N ops K l ((t,.pv (.bool false))::E) H)(hb:E.get t=some (.pv (.bool b)):=by rfl):AL P G0 N ops K l E H:=aFM hb h1 h2
theorem Wk(hE:EOk E H' E':=by repeat' first|exact trivial|refine⟨⟨_,rfl,rfl⟩,?_,?_⟩|(simp;done)|(simp;rfl))(hH:TD H H' H':=by repeat' first|exact trivial|refine⟨⟨_,rfl,rfl⟩,?_,?_⟩|(simp;done)|(simp;rfl))(hk:KOk H' H G0:=by repeat' first|exact trivial|refine⟨rfl,?_⟩):cD G0 E H E' H':=cD.wk hE hH hk
theorem E0(h:aF2 E E':=by repeat' first|exact trivial|refine⟨⟨_,rfl,rfl⟩,?_⟩):cD G0 E H E' H:=cD.e0 h
theorem Fu{t:Tmp}(hk:AL P G0 N ops K rest (iZ E dst (.tup [])) H)(hj:iD ops.toList j=some t:=by rfl)(hb:E.get t=some (.tup []):=by rfl)(hd:gY N dst=true:=by rfl):AL P G0 N ops K (⟨dst,op,ty,pos,af,some (j,want)⟩::rest) E H:=aHt rfl hj hb hd hk
end
section
variable{ops rest:List Oper}{K:List Rec->bS->aB->Prop}
theorem Nt(h:cH P N ⟨dst,op,ty,pos,af,some (j,true)⟩ (restr E (fV ops ⟨dst,op,ty,pos,af,some (j,true)⟩)) H v H)(hk:DC P N ops rest (iZ E dst v) H (fun rs E' H'=>K (⟨v,none,[]⟩::rs) E' H'))(hj:iD ops j=some t:=by rfl)(hb:E.get t=some (.pv (.bool b)):=by rfl)(hw:b=true:=by first|rfl|assumption)(hd:gY N dst=true:=by rfl):DC P N ops (⟨dst,op,ty,pos,af,some (j,true)⟩::rest) E H K:=aX (aIu rfl hj hb hw h) hd hk
theorem Nf(h:cH P N ⟨dst,op,ty,pos,af,some (j,false)⟩ (restr E (fV ops ⟨dst,op,ty,pos,af,some (j,false)⟩)) H v H)(hk:DC P N ops rest (iZ E dst v) H (fun rs E' H'=>K (⟨v,none,[]⟩::rs) E' H'))(hj:iD ops j=some t:=by rfl)(hb:E.get t=some (.pv (.bool b)):=by rfl)(hw:b=false:=by first|rfl|assumption)(hd:gY N dst=true:=by rfl):DC P N ops (⟨dst,op,ty,pos,af,some (j,false)⟩::rest) E H K:=aX (aIv rfl hj hb hw h) hd hk
end
theorem Zl:(∀ {α:Type} (a:α) (l:List α) (i:Nat),(a::l).drop (i+1)=l.drop i)/\(∀ {α:Type} (l:List α),l.drop 0=l)/\(∀ {α:Type} (a:α) (l:List α) (i:Nat),(a::l).take (i+1)=a::l.take i)/\(∀ {α:Type} (l:List α),l.take 0=[])/\(∀ {α:Type} (i:Nat),([]:List α).take i=[]) /\
  (∀ {α β:Type} (f:α->β) (a:α) (l:List α),(a::l).map f=f a::l.map f)/\(∀ {α β:Type} (f:α->β),[].map f=[])/\(∀ {α:Type} (a b:α) (l:List α),(a::l).set 0 b=b::l)/\(∀ {α:Type} (a b:α) (l:List α) (i:Nat),(a::l).set (i+1) b=a::l.set i b) /\
  (∀ {α:Type} (a:α) (l l2:List α),(a::l)++l2=a::(l++l2))/\(∀ {α:Type} (l:List α),[]++l=l) :=
 ⟨fun _ _ _=>rfl,fun _=>rfl,fun _ _ _=>rfl,fun l=>by simp,fun _=>by simp,fun _ _ _=>rfl,fun _=>rfl,fun _ _ _=>rfl,fun _ _ _ _=>rfl,fun _ _ _=>rfl,fun _=>rfl⟩
theorem Zo:(∀b:Bool,(false&&b)=false)/\(∀b:Bool,(true&&b)=b)/\(∀b:Bool,(b&&false)=false)/\(∀b:Bool,(b&&true)=b)/\(∀b:Bool,(true||b)=true)/\(∀b:Bool,(false||b)=b)/\(∀b:Bool,(b||true)=true)/\(∀b:Bool,(b||false)=b)/\(!true)=false/\(!false)=true:=by simp
end
theorem Ea{t:Nat}(r:EOk E H' L)(h1:∃v0,E.get t=some v0/\v0=v:=by exact⟨_,rfl,rfl⟩)(h2:Clo H' v:=by simp;rfl):EOk E H' ((t,v)::L):=⟨h1,h2,r⟩
theorem Eb{t:Nat}(r:EOk E H' L)(h1:∃v0,E.get t=some v0/\v0=v:=by exact⟨_,rfl,rfl⟩)(h2:Clo H' v:=by simp):EOk E H' ((t,v)::L):=⟨h1,h2,r⟩
theorem Ec{t:Nat}(h2:Clo H' v)(r:EOk E H' L)(h1:∃v0,E.get t=some v0/\v0=v:=by exact⟨_,rfl,rfl⟩):EOk E H' ((t,v)::L):=⟨h1,h2,r⟩
theorem Ha{t:Nat}{L:aB}(r:TD H H' L)(h1:∃v0,H.get t=some v0/\v0=o:=by exact⟨_,rfl,rfl⟩)(h2:∀r∈o.rows,∀a∈r,Clo H' a:=by simp;rfl):TD H H' ((t,o)::L):=⟨h1,h2,r⟩
theorem Hb{t:Nat}{L:aB}(r:TD H H' L)(h1:∃v0,H.get t=some v0/\v0=o:=by exact⟨_,rfl,rfl⟩)(h2:∀r∈o.rows,∀a∈r,Clo H' a:=by simp):TD H H' ((t,o)::L):=⟨h1,h2,r⟩
theorem Hc{t:Nat}{L:aB}(h2:∀r∈o.rows,∀a∈r,Clo H' a)(r:TD H H' L)(h1:∃v0,H.get t=some v0/\v0=o:=by exact⟨_,rfl,rfl⟩):TD H H' ((t,o)::L):=⟨h1,h2,r⟩
end
def aE9:PV->Bool
 |.int _ _=>true
 |.bool _=>true
 |.str _=>true
 |_=>false
theorem PRep.flat{w':World}{I':Nat->Prop}{v:Value}(h:PRep w I v p)(hf:aE9 p=true):PRep w' I' v p:=by cases h<;>first|(constructor;done)|(simp[aE9]at hf;done)
def RO(P:Program)(f:FuncId)(args:List AV)(H:aB)(p:PV):Prop :=∀(I:Nat->Prop) (ι:dX) (w:World) (vs:Array Value),Rel I ι H w->vs.size=args.length->(∀(i:Nat) (v:Value) (a:AV),vs[i]?=some v->args[i]?=some a->VRel w I ι H v a) ->
  Calls P f vs w fun e w'=>∃v,e=.returned v/\(∀w2 I2,PRep w2 I2 v p)/\w'.os=w.os/\w'.tape=w.tape/\w'.output=w.output/\w.heap.size<=w'.heap.size /\
   (∀a,a.block<w.heap.size->w'.frozen? a=w.frozen? a)/\∀b,b<w.heap.size->w'.heap[b]?=w.heap[b]?
theorem RO.of(h:aH P f args [] (fun r H=>r=.pv p/\H=[]))(hf:aE9 p=true):RO P f args [] p:=by
 intro I ι w vs hr hl hv;refine(h I ι w vs hr hl hv).mono ?_;rintro e w' ⟨r,H',I',ι',v,rfl,⟨rfl,rfl⟩,k1,k2,k3⟩;have hno:∀b,¬ H9 ι [] b:=fun b ⟨_,_,_,hx,_⟩=>by cases hx
 exact⟨v,rfl,fun w2 I2=>k1.pv_inv.flat hf,k3.os,k3.tape,k3.output,k3.size,fun a ha=>k3.froz a ha (hno _),fun b hb=>k3.keep b hb (hno b)⟩
theorem RO.lend{args':List AV}{H1:aB}(ps:List (List PV))(h:RO P f args' H1 p)(hH:H.get id=some ob)(hps:ob.rows=ps.map (·.map .pv))(hl:args.length=args'.length)
  (hz:∀(i:Nat) (a a':AV),args[i]?=some a->args'[i]?=some a'->Fz H1 id ob.g ps a a') (hs:Sub H1 H) (hc:dF H1) (hno:H1.get id=none):RO P f args H p:=by
 intro I ι w vs hr hlen hv;refine h (mL I ι id) ι w vs (hr.freeze hs hc hH hno) (by omega) ?_;intro i v a' hi ha';have hlt:i<args.length:=by
  have:=(aNz.1 ha').1;omega
 exact VRel.freeze hr hs hH hps (hz i _ a' (aOA hlt) ha') (hv i v _ hi (aOA hlt))
theorem RO.calls(h:RO P f args H p):aH P f args H (fun r H'=>r=.pv p/\H'=H):=by
 intro I ι w vs hr hl hv;refine(h I ι w vs hr hl hv).mono ?_;rintro e w' ⟨v,rfl,h1,h2,h3,h4,h5,h6,h7⟩;have hst:Step I ι H w I ι H w' :=
  ⟨h2,h3,h4,h5,fun a ha _=>h6 a ha,fun _ h=>h,fun _ h=>.inl h,fun _ h=>.inl h,fun b hb _=>h7 b hb,fun id o ho=>⟨o,ho,aOB _,fun _=>⟨rfl,rfl,fun _=>aOB _⟩⟩⟩
 refine⟨.pv p,H,I,ι,v,rfl,⟨rfl,rfl⟩,.pv (h1 _ _),?_,hst⟩;refine⟨fun b hb=>Nat.lt_of_lt_of_le (hr.imm b hb) h5,fun id o ho=>?_,hr.inj,hst.glob hr⟩;exact(hr.obj id o ho).keep rfl (fun b' _ _ hlt=>⟨h7 b' hlt,fun h=>h⟩) (fun r _ a _ v hv=>hv.mono hr hst)
theorem iA(S:α->β->bS×aB)(J:α->β->Prop)(μ:α->β->Nat)(a0:α)(b0:β)(h0:J a0 b0)(hin:cD G0 E H (S a0 b0).1 (S a0 b0).2)
  (round:∀a b,J a b->fL P G0 N cc (xA (fun E' H'=>∃a' b',J a' b'/\μ a' b'<μ a b/\cD G0 E' H' (S a' b').1 (S a' b').2) Q) (S a b).1 (S a b).2):fL P G0 N (.loop cc) Q E H:=by
 refine bL (σ:=α×β) (fun s=>S s.1 s.2) (fun s=>J s.1 s.2) (fun s=>μ s.1 s.2) (a0,b0) h0 hin ?_;intro s hs;have h:=round s.1 s.2 hs;have e:(fun(E':bS) (H':aB)=>∃s':α×β,J s'.1 s'.2/\μ s'.1 s'.2<μ s.1 s.2/\cD G0 E' H' (S s'.1 s'.2).1 (S s'.1 s'.2).2)=(fun E' H'=>∃a' b',J a' b'/\μ a' b'<μ s.1 s.2/\cD G0 E' H' (S a' b').1 (S a' b').2):=by
  funext E' H';exact propext ⟨fun⟨s',h⟩=>⟨s'.1,s'.2,h⟩,fun⟨a',b',h⟩=>⟨(a',b'),h⟩⟩
 rw[e];exact h
theorem QJ(S:α->β->γ->bS×aB)(J:α->β->γ->Prop)(μ:α->β->γ->Nat)(a0:α)(b0:β)(c0:γ)(h0:J a0 b0 c0)(hin:cD G0 E H (S a0 b0 c0).1 (S a0 b0 c0).2)
  (round:∀a b c,J a b c->fL P G0 N cc (xA (fun E' H'=>∃a' b' c',J a' b' c'/\μ a' b' c'<μ a b c/\cD G0 E' H' (S a' b' c').1 (S a' b' c').2) Q) (S a b c).1 (S a b c).2):fL P G0 N (.loop cc) Q E H:=by
 refine bL (σ:=α×β×γ) (fun s=>S s.1 s.2.1 s.2.2) (fun s=>J s.1 s.2.1 s.2.2) (fun s=>μ s.1 s.2.1 s.2.2) (a0,b0,c0) h0 hin ?_;intro s hs;have h:=round s.1 s.2.1 s.2.2 hs;have e:(fun(E':bS) (H':aB)=>∃s':α×β×γ,J s'.1 s'.2.1 s'.2.2/\μ s'.1 s'.2.1 s'.2.2<μ s.1 s.2.1 s.2.2/\cD G0 E' H' (S s'.1 s'.2.1 s'.2.2).1 (S s'.1 s'.2.1 s'.2.2).2)=(fun E' H'=>∃a' b' c',J a' b' c'/\μ a' b' c'<μ s.1 s.2.1 s.2.2/\cD G0 E' H' (S a' b' c').1 (S a' b' c').2):=by
  funext E' H';exact propext ⟨fun⟨s',h⟩=>⟨s'.1,s'.2.1,s'.2.2,h⟩,fun⟨a',b',c',h⟩=>⟨(a',b',c'),h⟩⟩
 rw[e];exact h
theorem BY{δ:Type}(S:α->β->γ->δ->bS×aB)(J:α->β->γ->δ->Prop)(μ:α->β->γ->δ->Nat)(a0:α)(b0:β)(c0:γ)(d0:δ)(h0:J a0 b0 c0 d0)(hin:cD G0 E H (S a0 b0 c0 d0).1 (S a0 b0 c0 d0).2)
  (round:∀a b c d,J a b c d->fL P G0 N cc (xA (fun E' H'=>∃a' b' c' d',J a' b' c' d'/\μ a' b' c' d'<μ a b c d/\cD G0 E' H' (S a' b' c' d').1 (S a' b' c' d').2) Q) (S a b c d).1 (S a b c d).2):fL P G0 N (.loop cc) Q E H:=by
 refine bL (σ:=α×β×γ×δ) (fun s=>S s.1 s.2.1 s.2.2.1 s.2.2.2) (fun s=>J s.1 s.2.1 s.2.2.1 s.2.2.2) (fun s=>μ s.1 s.2.1 s.2.2.1 s.2.2.2) (a0,b0,c0,d0) h0 hin ?_;intro s hs;have h:=round s.1 s.2.1 s.2.2.1 s.2.2.2 hs;have e:(fun(E':bS) (H':aB)=>∃s':α×β×γ×δ,J s'.1 s'.2.1 s'.2.2.1 s'.2.2.2/\μ s'.1 s'.2.1 s'.2.2.1 s'.2.2.2<μ s.1 s.2.1 s.2.2.1 s.2.2.2/\cD G0 E' H' (S s'.1 s'.2.1 s'.2.2.1 s'.2.2.2).1 (S s'.1 s'.2.1 s'.2.2.1 s'.2.2.2).2)=(fun E' H'=>∃a' b' c' d',J a' b' c' d'/\μ a' b' c' d'<μ s.1 s.2.1 s.2.2.1 s.2.2.2/\cD G0 E' H' (S a' b' c' d').1 (S a' b' c' d').2):=by
  funext E' H';exact propext ⟨fun⟨s',h⟩=>⟨s'.1,s'.2.1,s'.2.2.1,s'.2.2.2,h⟩,fun⟨a',b',c',d',h⟩=>⟨(a',b',c',d'),h⟩⟩
 rw[e];exact h
theorem aHc(f:α->List PV)(l:List α)(H:aB):∀r∈l.map (fun e=>(f e).map AV.pv),∀a∈r,Clo H a:=by intro r hr a ha;obtain ⟨e,_,rfl⟩:=List.mem_map.1 hr;obtain ⟨p,_,rfl⟩:=List.mem_map.1 ha;exact .pv p
theorem nO:∀(i:Nat) (a a':AV),([]:List AV)[i]?=some a->([]:List AV)[i]?=some a'->Fz H id g ps a a':=fun i a a' h=>by cases h
theorem cG{x x':AV}{l':List AV}(h:Fz H id g ps x x')(hr:∀(i:Nat) (a a':AV),l[i]?=some a->l'[i]?=some a'->Fz H id g ps a a'):
  ∀(i:Nat) (a a':AV),(x::l)[i]?=some a->(x'::l')[i]?=some a'->Fz H id g ps a a'
 |0,a,a',h1,h2=>by cases h1;cases h2;exact h
 |i+1,a,a',h1,h2=>hr i a a' h1 h2
inductive Nz(H':aB)(id:Nat):AV->AV->Prop
 |same {a:AV} (h:Clo H' a):Nz H' id a a
 |own:Nz H' id (.pv .nils) (.osl id 0 0 0)
 |weak:Nz H' id (.pv .nils) (.pv (.sl []))
 |agg {cs cs':List AV} (hl:cs.length=cs'.length) (h:∀(i:Nat) (a a':AV),cs[i]?=some a->cs'[i]?=some a'->Nz H' id a a'):Nz H' id (.agg cs) (.agg cs')
 |tup {cs cs':List AV} (hl:cs.length=cs'.length) (h:∀(i:Nat) (a a':AV),cs[i]?=some a->cs'[i]?=some a'->Nz H' id a a'):Nz H' id (.tup cs) (.tup cs')
def aAm(H H':aB):Prop:=∀j o',H'.get j=some o'->∃o,H.get j=some o/\o.g=o'.g/\o.sz=o'.sz/\o.ty=o'.ty/\o.rows.length=o'.rows.length
theorem VRel.alike(hs:aAm H H'){v:Value}(h:VRel w I ι H v a):Clo H' a->VRel w I ι H' v a:=by
 induction h with
 |any v=>exact fun _=>.any v
 |pv h=>exact fun _=>.pv h
 |ref o hH hg h1 h =>
  intro hc;rw[qE]at hc;obtain ⟨o',ho'⟩:=Option.isSome_iff_exists.1 hc;obtain ⟨o2,e1,e2,e3,e4,e5⟩:=hs _ o' ho';rw[hH]at e1;cases e1;exact .ref o' ho' (by omega) h1 (fun e=>by rw[<-e3];exact h (by omega))
 |pad b off cap sz h hsz hlen cs hI hc hp=>exact fun _=>.pad b off cap sz h hsz hlen cs hI hc hp
 |osl o hH hg h1 h =>
  intro hc;rw[aHa]at hc;obtain ⟨o',ho'⟩:=Option.isSome_iff_exists.1 hc;obtain ⟨o2,e1,e2,e3,e4,e5⟩:=hs _ o' ho';rw[hH]at e1;cases e1;exact .osl o' ho' (by omega) h1 (fun e=>by rw[<-e3,<-e5];exact h (by omega))
 |clo hl h ih =>
  intro hc;rw[aHd]at hc;exact .clo hl (fun i v a hv ha=>ih i v a hv ha (hc a (aOF ha)))
 |bnd hl h ih =>
  intro hc;rw[aHe]at hc;exact .bnd hl (fun i v a hv ha=>ih i v a hv ha (hc a (aOF ha)))
 |agg hl h1 h ih =>
  intro hc;rw[SK]at hc;exact .agg hl h1 (fun i v a hv ha=>ih i v a hv ha (hc a (aOF ha)))
 |tup hl h ih =>
  intro hc;rw[aH9]at hc;exact .tup hl (fun i v a hv ha=>ih i v a hv ha (hc a (aOF ha)))
 |mp o hH hg h1 h =>
  intro hc;rw[aJy]at hc;obtain ⟨o',ho'⟩:=Option.isSome_iff_exists.1 hc;obtain ⟨o2,e1,e2,e3,e4,e5⟩:=hs _ o' ho';rw[hH]at e1;cases e1;exact .mp o' ho' (by omega) h1 (fun e=>by rw[<-e3];exact h (by omega))
 |it o hH hg h1 h =>
  intro hc;rw[aJz]at hc;obtain ⟨o',ho'⟩:=Option.isSome_iff_exists.1 hc;obtain ⟨o2,e1,e2,e3,e4,e5⟩:=hs _ o' ho';rw[hH]at e1;cases e1;exact .it o' ho' (by omega) h1 (fun e=>by rw[<-e3];exact h (by omega))
 |yld o hH hg h1 h =>
  intro hc;rw[aH8]at hc;obtain ⟨o',ho'⟩:=Option.isSome_iff_exists.1 hc;obtain ⟨o2,e1,e2,e3,e4,e5⟩:=hs _ o' ho';rw[hH]at e1;cases e1;exact .yld o' ho' (by omega) h1 (fun e=>by rw[<-e3];exact h (by omega))
 |osc o hH hg h1 h =>
  intro hc;rw[aHb]at hc;obtain ⟨o',ho'⟩:=Option.isSome_iff_exists.1 hc;obtain ⟨o2,e1,e2,e3,e4,e5⟩:=hs _ o' ho';rw[hH]at e1;cases e1;exact .osc o' ho' (by omega) h1 (fun e=>by rw[<-e3];exact h (by omega))
theorem Nz.raw(h:Nz H' id a a'){y:Go.Loop}{ts:List Nat}(e:a'=.raw y ts):a=.raw y ts:=by cases h<;>first|exact e|cases e
theorem VRel.nz(hs:aAm H H')(hι:ι id=none)(hid:H'.get id=some ob)(hg:ob.g=0)(hpos:0<ob.sz)(hn:Nz H' id a a'):∀ {v:Value},VRel w I ι H v a->VRel w I ι H' v a':=by
 induction hn with
 |same h=>exact fun hv=>hv.alike hs h
 |own =>
  intro v hv;have:=hv.pv_inv;cases this;exact .osl ob hid (by omega) rfl (fun _=>⟨hpos,by omega,.inr ⟨hι,rfl,rfl,rfl⟩⟩)
 |weak =>
  intro v hv;have:=hv.pv_inv;cases this;exact .pv .nilsl
 | @agg cs cs' hl h ih =>
  intro v hv;cases hv with
  |agg hl2 h1 h2 =>
   refine .agg (hl2.trans hl) h1 (fun i u a' hu ha'=>?_);have ha:=List.getElem?_eq_getElem (l:=cs) (i:=i) (by have:=(aNz.1 ha').1;omega);exact ih i _ a' ha ha' (h2 i u _ hu ha)
 | @tup cs cs' hl h ih =>
  intro v hv;cases hv with
  |tup hl2 h2 =>
   refine .tup (hl2.trans hl) (fun i u a' hu ha'=>?_);have ha:=List.getElem?_eq_getElem (l:=cs) (i:=i) (by have:=(aNz.1 ha').1;omega);exact ih i _ a' ha ha' (h2 i u _ hu ha)
def NzL(H:aB)(id:Nat):List AV->List AV->Prop
 | [],[]=>True
 |a::l,b::r=>Nz H id a b/\NzL H id l r
 |_,_=>False
theorem NzL.spec:∀ {l r:List AV},NzL H id l r->l.length=r.length/\∀(k:Nat) (a b:AV),l[k]?=some a->r[k]?=some b->Nz H id a b
 | [],[],_=>⟨rfl,fun k a b h=>by simp at h⟩
 | a::l,b::r,h=>⟨by simp [(NzL.spec h.2).1],fun k x y h1 h2=>by
   cases k with
   |zero=>cases h1;cases h2;exact h.1
   |succ k=>exact(NzL.spec h.2).2 k x y h1 h2⟩
 | [],_::_,h=>h.elim
 |_::_,[],h=>h.elim
def NzR(H:aB)(id:Nat)(rows rows':List (List AV)):Prop:=(rows=rows'/\∀r∈rows',∀a∈r,Clo H a)\/∃r r',rows=[r]/\rows'=[r']/\NzL H id r r'
theorem NzR.spec{rows rows':List (List AV)}(h:NzR H id rows rows'):rows.length=rows'.length/\∀(i:Nat) (r':List AV),rows'[i]?=some r'->∃r,rows[i]?=some r/\r.length=r'.length/\∀(k:Nat) (b:AV),r'[k]?=some b->∃a,r[k]?=some a/\Nz H id a b:=by
 rcases h with⟨rfl,hc⟩|⟨r,r',rfl,rfl,hl⟩
 ·exact⟨rfl,fun i r' hr=>⟨r',hr,rfl,fun k b hb=>⟨b,hb,.same (hc r' (aOF hr) b (aOF hb))⟩⟩⟩
 refine⟨rfl,fun i r2 hr=>?_⟩;cases i with
 |zero =>
  cases hr;obtain ⟨e1,e2⟩:=hl.spec;refine⟨r,rfl,e1,fun k b hb=>?_⟩;have hlt:=(aNz.1 hb).1;exact⟨r[k],aOA (by omega),e2 k _ b (aOA (by omega)) hb⟩
 |succ i=>simp at hr
def NzE(E:bS)(H:aB)(id:Nat):bS->Prop
 | []=>True
 |(t,v)::r=>(∃v0,E.get t=some v0/\Nz H id v0 v)/\NzE E H id r
theorem NzE.spec:∀ {E':bS},NzE E H id E'->∀p∈E',∃v0,E.get p.1=some v0/\Nz H id v0 p.2
 |(t,v)::r,h,p,hp=>by
  rcases aOH.1 hp with e|e
  ·subst e;exact h.1
  exact NzE.spec h.2 p e
def NzH(H H2:aB)(id:Nat):aB->Prop
 | []=>True
 |(j,o')::r=>(∃o,H.get j=some o/\o.g=o'.g/\o.sz=o'.sz/\o.ty=o'.ty/\NzR H2 id o.rows o'.rows)/\NzH H H2 id r
theorem NzH.spec{H2:aB}:∀ {H':aB},NzH H H2 id H'->∀p∈H',∃o,H.get p.1=some o/\o.g=p.2.g/\o.sz=p.2.sz/\o.ty=p.2.ty/\NzR H2 id o.rows p.2.rows
 |(j,o')::r,h,p,hp=>by
  rcases aOH.1 hp with e|e
  ·subst e;exact h.1
  exact NzH.spec h.2 p e
theorem cD.nz{E':bS}(id sz ty:Nat)(hid:H.get id=none)(hsz:Nat.blt 0 sz=true)(hE:NzE E ((id,⟨0,sz,ty,[]⟩)::H') id E')(hH:NzH H ((id,⟨0,sz,ty,[]⟩)::H') id H')(hk:KOk ((id,⟨0,sz,ty,[]⟩)::H') H G0):
  cD G0 E H E' ((id,⟨0,sz,ty,[]⟩)::H'):=by
 intro G hG N a w hs;obtain ⟨I,ι,hr,hst,he⟩:=hs.rel;obtain ⟨a1,a2⟩:=hr.adopt (sz:=sz) (ty:=ty) hid (by simpa[Nat.blt_eq]using hsz);have hpz:0<sz:=by simpa[Nat.blt_eq]using hsz
 obtain ⟨ι',hι'⟩:∃ι':dX,ι'=(fun j=>if j=id then none else ι j):=⟨_,rfl⟩;rw[<-hι']at a1 a2;have hιid:ι' id=none:=by rw[hι'];simp
 obtain ⟨H1,hH1⟩:∃H1:aB,H1=(id,(⟨0,sz,ty,[]⟩:Ob))::H:=⟨_,rfl⟩;obtain ⟨H2,hH2⟩:∃H2:aB,H2=(id,(⟨0,sz,ty,[]⟩:Ob))::H':=⟨_,rfl⟩;rw[<-hH1]at a1 a2;rw[<-hH2]at hE hH hk |-;have g1:H1.get id=some ⟨0,sz,ty,[]⟩:=by rw[hH1];simp[aB.get]
 have g2:H2.get id=some ⟨0,sz,ty,[]⟩:=by rw[hH2];simp[aB.get]
 have n1:∀j,j≠id->H1.get j=H.get j:=fun j e=>by rw[hH1];simp[aB.get,jC (Ne.symm e)]
 have n2:∀j,j≠id->H2.get j=H'.get j:=fun j e=>by rw[hH2];simp[aB.get,jC (Ne.symm e)]
 have hobj:∀j o',H2.get j=some o'->∃o,H1.get j=some o/\o.g=o'.g/\o.sz=o'.sz/\o.ty=o'.ty/\NzR H2 id o.rows o'.rows:=by
  intro j o' ho;by_cases e:j=id
  ·subst e;rw[g2]at ho;cases ho;exact⟨_,g1,rfl,rfl,rfl,.inl ⟨rfl,by simp⟩⟩
  rw[n2 j e]at ho;obtain ⟨o,e1,e2⟩:=hH.spec _ (cV ho);exact⟨o,(n1 j e).trans e1,e2⟩
 have hal:aAm H1 H2:=fun j o' ho=>by
  obtain ⟨o,e1,e2,e3,e4,e5⟩:=hobj j o' ho;exact⟨o,e1,e2,e3,e4,e5.spec.1⟩
 have hown:∀b,H9 ι' H2 b->H9 ι' H1 b:=by
  rintro b ⟨j,o',c,ho,hb⟩;obtain ⟨o,e1,_⟩:=hobj j o' ho;exact⟨j,o,c,e1,hb⟩
 have hrel:Rel I ι' H2 w:=by
  refine⟨a1.imm,fun j o' ho=>?_,fun j j' o o' b c c' hj hj'=>?_,a1.glob⟩
  ·obtain ⟨o,e1,e2,e3,e4,e5⟩:=hobj j o' ho;obtain ⟨s1,s2⟩:=e5.spec;refine(a1.obj j o e1).keepG e3.symm e4.symm s1.symm (T7 s1 (fun i r' hi=>by
    obtain ⟨r,t1,t2,t3⟩:=s2 i r' hi;refine⟨r,t1,t2,fun k a a' h1 h2 y ts e=>?_⟩;obtain ⟨z,u1,u2⟩:=t3 k a' h2;rw[h1]at u1;cases u1;exact u2.raw e)) rfl (fun _ _ _ _=>⟨rfl,fun h=>h⟩) (fun i r' hi=>?_)
   obtain ⟨r,t1,t2,t3⟩:=s2 i r' hi;refine⟨r,t1,t2,fun k a a' h1 h2 v hv=>?_⟩;obtain ⟨y,u1,u2⟩:=t3 k a' h2;rw[h1]at u1;cases u1;exact VRel.nz hal hιid g2 rfl hpz u2 hv
  obtain ⟨o1,e1,_⟩:=hobj j o hj;obtain ⟨o2,e2,_⟩:=hobj j' o' hj';exact a1.inj j j' o1 o2 b c c' e1 e2
 have hst1:=hst.trans a2;have hst2:Step G.I G.ι G.H G.w I ι' H2 w:=by
  refine⟨hst1.os,hst1.tape,hst1.output,hst1.size,hst1.froz,hst1.imm,hst1.immNew,fun b hb=>hst1.own b (hown b hb),hst1.keep,fun j o hj=>?_⟩;obtain ⟨o1,e1,e2⟩:=hst1.objs j o hj;subst hG;have hkk:=hk.kept j (by rw[hj];rfl);by_cases e:j=id
  ·subst e;obtain ⟨o0,e0,_⟩:=hst.objs j o hj;rw[hid]at e0;cases e0
  rw[n1 j e]at e1;exact⟨o1,hkk.trans e1,e2⟩
 refine⟨hs.defers,hs.size,I,ι',hrel,hst2,fun t v hv=>?_⟩;obtain ⟨v0,f1,f2⟩:=hE.spec _ (fR hv);obtain ⟨c,c1,c2⟩:=he t v0 f1;exact⟨c,c1,VRel.nz hal hιid g2 rfl hpz f2 (c2.mono hr a2)⟩
end Go.Abs
namespace Go.Abs
open Go.Proofs.YtmdicgjnmfolfaaGreatDoor
variable{H:Type}{w:World}{I:Nat->Prop}{cs:List Value}{ps:List PV}
section
theorem aEu(d:DataW H):1<=Rows.uptoBulk d:=by
 cases d with
 |lit l=>cases l<;>simp[Rows.uptoBulk]
 |_=>simp[Rows.uptoBulk]
theorem aEv{d:DataW H}{l:List (DataW H)}(h:d∈l):Rows.uptoBulk d<=Rows.uptoBulkAll l:=by
 induction l with
 |nil=>cases h
 |cons x r ih =>
  simp only[Rows.uptoBulkAll];rcases aOH.1 h with e|e
  ·subst e;omega
  have:=ih e;omega
theorem aEw(l:List (DataW H)):l.length<=Rows.uptoBulkAll l:=by
 induction l with
 |nil=>simp
 |cons x r ih=>have:=aEu x;simp only[Rows.uptoBulkAll,aNx];omega
inductive PL(w:World)(I:Nat->Prop):List Value->List PV->Prop
 |nil:PL w I [] []
 |cons {c:Value} {p:PV} {cs:List Value} {ps:List PV} (h:PRep w I c p) (r:PL w I cs ps):PL w I (c::cs) (p::ps)
theorem PL.length(h:PL w I cs ps):cs.length=ps.length:=by
 induction h with
 |nil=>rfl
 |cons h r ih=>simp[ih]
theorem PL.append{cs':List Value}{ps':List PV}(h:PL w I cs ps)(h':PL w I cs' ps'):PL w I (cs++cs') (ps++ps'):=by
 induction h with
 |nil=>exact h'
 |cons h r ih=>exact .cons h ih
theorem PL.get(h:PL w I cs ps):∀(k:Nat) (c:Value) (p:PV),cs[k]?=some c->ps[k]?=some p->PRep w I c p:=by
 induction h with
 |nil=>intro k c p h;simp at h
 |cons h r ih =>
  intro k c p hc hp;cases k with
  |zero=>cases hc;cases hp;exact h
  |succ k=>exact ih k c p hc hp
def C9(P:Program):Nat->List Field->Nat->Bool
 |o,[],n=>Nat.beq o n
 |o,f::r,n=>Nat.beq f.offset o&&C9 P (o+P.cellsOf f.type) r n
def H4(P:Program)(e:TypeId):Nat->Nat->List Field
 |_,0=>[]
 |o,k+1=>⟨"",e,o,false, "", "",0⟩::H4 P e (o+P.cellsOf e) k
theorem G8{P:Program}{e:TypeId}:∀ {o k:Nat},(H4 P e o k).length=k
 |_,0=>rfl
 |o,k+1=>congrArg Nat.succ (G8 (o:=o+P.cellsOf e) (k:=k))
theorem QL{P:Program}{e:TypeId}:∀ {k o i:Nat} {f:Field},(H4 P e o k)[i]?=some f->f.type=e/\f.offset=o+i*P.cellsOf e
 |0,o,i,f,h=>by cases h
 |k+1,o,0,f,h=>by
  obtain rfl:=Option.some.inj h;exact⟨rfl,by rw[Nat.zero_mul];rfl⟩
 |k+1,o,i+1,f,h=>by
  have:=QL (k:=k) (i:=i) (show (H4 P e (o+P.cellsOf e) k)[i]?=some f from h);refine⟨this.1,?_⟩;rw[this.2,Nat.add_mul];omega
def yZ(P:Program):Nat->TypeId->Bool
 |0,_=>false
 |n+1,t=>match P.underlying t with
  |some .bool=>true
  |some (.int _)=>true
  |some .string=>true
  |some (.slice e)=>yZ P n e&&Nat.blt 0 (P.cellsOf e)
  |some (.struct fs)=>C9 P 0 fs.toList (P.cellsOf t)&&fs.toList.all fun f=>yZ P n f.type
  |some (.array k e)=>C9 P 0 (H4 P e 0 k) (P.cellsOf t)&&(H4 P e 0 k).all fun f=>yZ P n f.type
  |_=>false
def ShF(S:TypeId->List PV->Prop)(c:TypeId->Nat):List Field->List PV->Prop
 | [],ps=>ps=[]
 |f::r,ps=>∃a b,ps=a++b/\a.length=c f.type/\S f.type a/\ShF S c r b
def Sh(P:Program)(B:Nat):Nat->TypeId->List PV->Prop
 |0,_,_=>False
 |n+1,t,ps=>match P.underlying t with
  |some .bool=>∃b,ps=[.bool b]
  |some (.int k)=>∃i,ps=[.int k i]/\(Lit.int k i).wf=true
  |some .string=>∃s,ps=[.str s]/\s.size<=B
  |some (.slice e)=>∃rows,ps=[.sl rows]/\rows.length<=B/\∀r∈rows,r.length=P.cellsOf e/\Sh P B n e r
  |some (.struct fs)=>ShF (fun t ps=>Sh P B n t ps) P.cellsOf fs.toList ps
  |some (.array k e)=>ShF (fun t ps=>Sh P B n t ps) P.cellsOf (H4 P e 0 k) ps
  |_=>False
abbrev Old(W:World):Nat->Prop:=fun b=>b<W.heap.size
theorem aDo{W:World}{a:Addr}{v:Value}(h:W.cell? a=some v):a.spot=none/\Old W a.block:=by
 unfold World.cell? at h
 split at h
 ·next c t fr e =>
  refine⟨?_,(Array.getElem?_eq_some_iff.1 e).1⟩;cases hs:a.spot with
  |none=>rfl
  |some k=>rw[hs]at h;simp at h
 cases h
section
variable{enc:TypeId×Value->H}{P:Program}{W:World}{B:Nat}
theorem QA{P:Program}:∀ {fs:List Field} {o n:Nat},C9 P o fs n=true->o<=n
 | [],o,n,h=>Nat.le_of_eq (Nat.eq_of_beq_eq_true h)
 |f::fs,o,n,h=>by
  simp only[C9,aOE]at h;have:=QA h.2;omega
theorem GQ{m n:Nat}{cs:List Value}(hn:∀(t:TypeId) (cs:List Value) (x:DataW H×List MemPlace),yZ P n t=true->DataW.trod enc P W 0 (fun _=>true) true m t cs=some x->Rows.uptoBulk x.1<=B->∃ps,PL W (Old W) cs ps/\Sh P B n t ps):
  ∀(fs:List Field) (xs:List (DataW H×List MemPlace)) (o:Nat),C9 P o fs cs.length=true->(fs.all fun f=>yZ P n f.type)=true->xs.length=fs.length ->
   (∀(i:Nat) (f:Field),fs[i]?=some f->DataW.trod enc P W 0 (fun _=>true) true m f.type ((cs.drop f.offset).take (P.cellsOf f.type))=xs[i]?)->Rows.uptoBulkAll (xs.map (·.1))<=B ->
   ∃ps,PL W (Old W) (cs.drop o) ps/\ShF (fun t ps=>Sh P B n t ps) P.cellsOf fs ps
 | [],xs,o,hc,_,hl,hx,hb=>by
  have:o=cs.length:=Nat.eq_of_beq_eq_true hc;subst this;exact⟨[],by rw[List.drop_length];exact .nil,rfl⟩
 |f::fs,[],o,hc,_,hl,hx,hb=>by simp at hl
 | f::fs,x::xs,o,hc,hp,hl,hx,hb=>by
  simp only[C9,aOE]at hc;have ho:f.offset=o:=Nat.eq_of_beq_eq_true hc.1;simp only[List.all_cons,aOE]at hp;simp only[List.map_cons,Rows.uptoBulkAll]at hb;have h0:=hx 0 f rfl;simp only[List.getElem?_cons_zero]at h0;rw[ho]at h0;obtain ⟨a,a1,a2⟩:=hn f.type _ x hp.1 h0 (by omega);obtain ⟨b,b1,b2⟩:=GQ hn fs xs (o+P.cellsOf f.type) hc.2 hp.2 (by simpa using hl) (fun i g hg=>hx (i+1) g hg) (by omega);have hle:=QA hc.2;have hal:a.length=P.cellsOf f.type:=by
   rw[<-a1.length,aOJ,aOK];omega
  refine⟨a++b,?_,a,b,rfl,hal,a2,b2⟩;have:=a1.append b1
  rwa [<-List.drop_drop,List.take_append_drop]at this
theorem IQ:∀(n:Nat) (t:TypeId),yZ P n t=true->∀(m:Nat) (cs:List Value) (x:DataW H×List MemPlace),DataW.trod enc P W 0 (fun _=>true) true m t cs=some x->Rows.uptoBulk x.1<=B->∃ps,PL W (Old W) cs ps/\Sh P B n t ps
 |0,t,hp,m,cs,x,h,hb=>by cases hp
 | n + 1, t, hp, m, cs, x, h, hb => by
  unfold yZ at hp
  split at hp
  ·next ht =>
   obtain ⟨b,rfl,rfl⟩:=DataW.trod_bool ht h;exact⟨[.bool b],.cons (.bool b) .nil,by unfold Sh;rw[ht];exact⟨b,rfl⟩⟩
  ·next k ht =>
   obtain ⟨i,rfl,rfl,hw⟩:=DataW.trod_int ht h;exact⟨[.int k i],.cons (.int k i) .nil,by unfold Sh;rw[ht];exact⟨i,rfl,hw⟩⟩
  ·next ht =>
   obtain ⟨s,rfl,rfl,hs⟩:=DataW.trod_string ht h;have hsz:s.size<=B:=by
    have e1:s.data.toList.length=s.size:=Array.length_toList;simp only[Rows.uptoBulk]at hb;omega
   exact⟨[.str s],.cons (.str s) .nil,by unfold Sh;rw[ht];exact⟨s,rfl,hsz⟩⟩
  ·next e ht =>
   simp only[aOE,Nat.blt_eq]at hp;obtain ⟨hpe,hsz⟩:=hp;rcases DataW.trod_slice ht h with⟨rfl,rfl⟩|⟨a,len,cap,elems,rest,m',rfl,rfl,rfl,_,hlc,hmax,hlen,hel,hre,_⟩
   ·exact⟨[.sl []],.cons .nilsl .nil,by unfold Sh;rw[ht];exact⟨[],rfl,by simp,by simp⟩⟩
   obtain ⟨hrl,hre⟩:=hre rfl;simp only[Rows.uptoBulk]at hb;rcases Nat.eq_zero_or_pos cap with hc0|hcpos
   ·have hl0:len=0:=by omega
    subst hl0 hc0;exact⟨[.sl []],.cons (.empsl a) .nil,by unfold Sh;rw[ht];exact⟨[],rfl,by simp,by simp⟩⟩
   have hcell:∃v,W.cell? a=some v:=by
    rcases Nat.eq_zero_or_pos len with hl0|hlp
    ·subst hl0;have h0:=hre 0 (by omega);have hr0:=List.getElem?_eq_getElem (l:=rest) (i:=0) (by omega);rw[hr0,Option.bind_eq_some_iff]at h0;obtain ⟨c0,q1,_⟩:=h0;obtain ⟨_,q2,q3⟩:=World.cells?_some q1;have:=q3 0 hsz;simp only[Nat.add_zero,Nat.zero_mul]at this;rw[Addr.add_zero',Addr.add_zero',aOA (by omega)]at this;exact⟨_,this⟩
    have h0:=hel 0 hlp;have hr0:=List.getElem?_eq_getElem (l:=elems) (i:=0) (by omega);rw[hr0,Option.bind_eq_some_iff]at h0;obtain ⟨c0,q1,_⟩:=h0;obtain ⟨_,q2,q3⟩:=World.cells?_some q1;have:=q3 0 hsz;simp only[Nat.zero_mul]at this;rw[Addr.add_zero',Addr.add_zero',aOA (by omega)]at this;exact⟨_,this⟩
   obtain ⟨v0,hv0⟩:=hcell;obtain ⟨hspot,hold⟩:=aDo hv0;obtain ⟨b,off,sp⟩:=a;simp only at hspot hold;subst hspot;have hrow:∀i,i<len->∃ps:List PV,∃ci,W.cells? 0 (Addr.add ⟨b,off,none⟩ (i*P.cellsOf e)) (P.cellsOf e)=some ci/\PL W (Old W) ci ps/\Sh P B n e ps:=by
    intro i hi;have h0:=hel i hi;have hr0:=List.getElem?_eq_getElem (l:=elems) (i:=i) (by omega);rw[hr0,Option.bind_eq_some_iff]at h0;obtain ⟨ci,q1,q2⟩:=h0;have hbi:Rows.uptoBulk (elems[i]'(by omega)).1<=B:=by
     have:=aEv (List.mem_map_of_mem (f:=fun x:DataW H×List MemPlace=>x.1) (List.getElem_mem (l:=elems) (n:=i) (by omega)));omega
    obtain ⟨ps,s1,s2⟩:=IQ n e hpe m' ci _ q2 hbi;exact⟨ps,ci,q1,s1,s2⟩
   obtain ⟨rows,r1,r2⟩:∃rows:List (List PV),rows.length=len/\∀i r,rows[i]?=some r->∃ci,W.cells? 0 (Addr.add ⟨b,off,none⟩ (i*P.cellsOf e)) (P.cellsOf e)=some ci/\PL W (Old W) ci r/\Sh P B n e r:=by
    refine⟨(List.range len).map (fun i=>if h:i<len then(hrow i h).choose else[]),by simp,fun i r hr=>?_⟩;rw[aOP]at hr;obtain ⟨j,hj,rfl⟩:=Option.map_eq_some_iff.1 hr;obtain ⟨hlt,hj⟩:=aNz.1 hj;rw[List.getElem_range]at hj;subst hj;have hi:i<len:=by simpa using hlt
    rw[dif_pos hi];exact(hrow i hi).choose_spec
   have hcl:∀(i:Nat) (r:List PV),rows[i]?=some r->r.length=P.cellsOf e:=fun i r hr=>by
    obtain ⟨ci,c1,c2,c3⟩:=r2 i r hr;rw[<-c2.length];exact(World.cells?_some c1).2.1
   refine⟨[.sl rows],.cons ?_ .nil,by
    unfold Sh;rw[ht];refine⟨rows,rfl,?_,fun r hr=>?_⟩
    ·have:=aEw (elems.map (·.1));simp only[aNv]at this;omega
    obtain ⟨i,hi⟩:=aOQ.1 hr;obtain ⟨ci,c1,c2,c3⟩:=r2 i r hi;exact⟨hcl i r hi,c3⟩⟩
   rw[<-r1];have hcells:∀(i:Nat) (r:List PV),rows[i]?=some r->∀(k:Nat) (p:PV),r[k]?=some p->∃v,W.cell? ⟨b,off+i*P.cellsOf e+k,none⟩=some v/\PRep W (Old W) v p:=by
    intro i r hr k p hk;obtain ⟨ci,c1,c2,c3⟩:=r2 i r hr;obtain ⟨_,d1,d2⟩:=World.cells?_some c1;have hkl:k<P.cellsOf e:=by rw[<-hcl i r hr];exact(aNz.1 hk).1
    have e1:=d2 k hkl;rw[Addr.add_lit,Addr.add_lit]at e1;have e2:ci[k]?=some (ci[k]'(by omega)):=aOA (by omega);exact⟨_,e1.trans e2,c2.get k _ p e2 hk⟩
   refine PRep.sl b off cap (P.cellsOf e) rows (fun i k=>(W.cell? ⟨b,off+i*P.cellsOf e+k,none⟩).getD undef) hold hsz (fun r hr=>?_) (by omega) (fun i r hr k p hk=>?_) (fun i r hr k p hk=>?_)
   ·obtain ⟨i,hi⟩:=aOQ.1 hr;exact hcl i r hi
   ·obtain ⟨v,v1,v2⟩:=hcells i r hr k p hk;simp[v1]
   obtain ⟨v,v1,v2⟩:=hcells i r hr k p hk;simp[v1,v2]
  ·next fs ht =>
   simp only[aOE]at hp;obtain ⟨xs,m',rfl,rfl,hl,hxl,hf⟩:=DataW.trod_struct ht h;simp only[Rows.uptoBulk]at hb;obtain ⟨ps,p1,p2⟩:=GQ (n:=n) (m:=m') (B:=B) (fun t cs x a b c=>IQ n t a m' cs x b c) fs.toList xs 0 (by rw[hl];exact hp.1) hp.2 (by simpa using hxl) (fun i f hi=>hf i f (by simpa using hi)) (by omega);exact⟨ps,by simpa using p1,by unfold Sh;rw[ht];exact p2⟩
  ·next k e ht =>
   simp only[aOE]at hp;obtain ⟨xs,m',rfl,rfl,hl,hxl,hf⟩:=DataW.trod_array ht h;simp only[Rows.uptoBulk]at hb;obtain ⟨ps,p1,p2⟩:=GQ (n:=n) (m:=m') (B:=B) (fun t cs x a b c=>IQ n t a m' cs x b c) (H4 P e 0 k) xs 0 (by rw[hl];exact hp.1) hp.2 (by rw[G8,hxl]) (fun i f hi=>by
    obtain ⟨g1,g2⟩:=QL hi;have hlt:i<k:=by
     have:=(aNz.1 hi).1
     rwa [G8]at this
    rw[g1,g2,aON];exact hf i hlt) (by omega)
   exact⟨ps,by simpa using p1,by unfold Sh;rw[ht];exact p2⟩
  cases hp
end
end
end Go.Abs
namespace Go.Abs
open Go.Proofs.YtmdicgjnmfolfaaGreatDoor Go.ChangeShapes Go.WideShapes Go.ChangeAt Go.RowKit
variable{I:Nat->Prop}{ι:dX}{ps:List PV}{n base:Nat}{t:TypeId}{v:Value}{pss:List (List PV)}{f:Func}{s:ChangeSpec}{apart fresh handsOn again:Bool}{args:Array Value}{fS:List MemPlace}
section
def aAe(P:Program)(t:TypeId)(ps:List PV):AV :=match P.underlying t with
 |some (.struct _)=>.agg (ps.map .pv)
 |some (.array _ _)=>.agg (ps.map .pv)
 |_=>match ps with
  | [p]=>.pv p
  |_=>.any
section
variable{H:Type}{enc:TypeId×Value->H}{P:Program}{W:World}{B:Nat}
theorem PL.toV{Hp:aB}{cs:List Value}(h:PL W I cs ps)(i:Nat)(v:Value)(a:AV)(h1:cs[i]?=some v)(h2:(ps.map AV.pv)[i]?=some a):VRel W I ι Hp v a/\v.oneCell'=true:=by rw[aOP]at h2;obtain ⟨p,hp,rfl⟩:=Option.map_eq_some_iff.1 h2;have:=h.get i v p h1 hp;exact⟨.pv this,this.oneCell⟩
theorem aL7(hp:yZ P n t=true)(hval:Value.okWide P W .any base t v)(hno:∀fs,P.underlying t=some (.struct fs)->False)(hno2:∀k e,P.underlying t=some (.array k e)->False):v.cells.toList=[v]:=by
 cases n with
 |zero=>cases hp
 |succ n =>
  unfold yZ at hp;unfold Value.okWide at hval
  split at hp
  ·next ht=>cases v<;>first|rfl|(simp[Cell.okWide,Cell.ok,ht]at hval)
  ·next k ht=>cases v<;>first|rfl|(simp[Cell.okWide,Cell.ok,ht]at hval)
  ·next ht=>cases v<;>first|rfl|(simp[Cell.okWide,Cell.ok,ht]at hval)
  ·next e ht=>cases v<;>first|rfl|(simp[Cell.okWide,Cell.ok,ht]at hval)
  ·next fs ht=>exact(hno fs ht).elim
  ·next k e ht=>exact(hno2 k e ht).elim
  cases hp
theorem aHo{d:DataW H}{p:List MemPlace}(ι:dX)(Hp:aB)(hp:yZ P n t=true)(hval:Value.okWide P W .any base t v)(h:DataW.Trod enc P W 0 (fun _=>true) true t v d p)(hb:Rows.uptoBulk d<=B):
  ∃ps,Sh P B n t ps/\VRel W (Old W) ι Hp v (aAe P t ps):=by
 obtain ⟨m,hm⟩:=h;obtain ⟨ps,h1,h2⟩:=IQ (B:=B) n t hp m _ _ hm hb;refine⟨ps,h2,?_⟩;unfold aAe
 split
 ·next fs ht =>
  unfold Value.okWide at hval;rw[ht]at hval;obtain ⟨cs,rfl,_,_⟩:=hval;have hl:=h1.length;simp only[Value.cells,Array.length_toList]at hl;refine .agg (by simpa using hl) (fun i v hv=>?_) (fun i v a hv ha=>?_)
  ·have hlt:=(Array.getElem?_eq_some_iff.1 hv).1;exact(PL.toV (ι:=ι) (Hp:=Hp) h1 i v (.pv (ps[i]'(by omega))) (by simpa[Value.cells]using hv) (by rw[aOP,aOA (by omega)];rfl)).2
  exact(PL.toV h1 i v a (by simpa[Value.cells]using hv) ha).1
 ·next k e ht =>
  unfold Value.okWide at hval;rw[ht]at hval;obtain ⟨cs,rfl,_,_⟩:=hval;have hl:=h1.length;simp only[Value.cells,Array.length_toList]at hl;refine .agg (by simpa using hl) (fun i v hv=>?_) (fun i v a hv ha=>?_)
  ·have hlt:=(Array.getElem?_eq_some_iff.1 hv).1;exact(PL.toV (ι:=ι) (Hp:=Hp) h1 i v (.pv (ps[i]'(by omega))) (by simpa[Value.cells]using hv) (by rw[aOP,aOA (by omega)];rfl)).2
  exact(PL.toV h1 i v a (by simpa[Value.cells]using hv) ha).1
 next hno hno2 =>
 split
 ·next q =>
  have hone:=aL7 hp hval (fun fs h=>hno fs h) (fun k e h=>hno2 k e h);rw[hone]at h1;exact(PL.toV h1 0 _ _ rfl rfl).1
 exact .any v
def HZ(P:Program):List TypeId->List (List PV)->List AV
 |t::ts,p::ps=>aAe P t p::HZ P ts ps
 |_,_=>[]
def QO(P:Program)(B n:Nat):List TypeId->List (List PV)->Prop
 | [],[]=>True
 |t::ts,p::ps=>Sh P B n t p/\QO P B n ts ps
 |_,_=>False
theorem aBL(h:QO P B n [] pss):pss=[]:=by
 cases pss with
 |nil=>rfl
 |cons p ps=>exact h.elim
theorem CP{ts:List TypeId}(h:QO P B n (t::ts) pss):∃p ps,pss=p::ps/\Sh P B n t p/\QO P B n ts ps:=by
 cases pss with
 |nil=>exact h.elim
 |cons p ps=>exact⟨p,ps,rfl,h.1,h.2⟩
theorem WJ{n:Nat}{base:Nat}(ι:dX)(Hp:aB):∀ {ts:List TypeId} {vs:List Value} {ds:List (DataW H)} {p:List MemPlace},DataW.TrodAll enc P W 0 (fun _=>true) true ts vs ds p->ts.all (yZ P n)=true ->
  (∀(j:Nat) t v,ts[j]?=some t->vs[j]?=some v->Value.okWide P W .any base t v)->Rows.uptoBulkAll ds<=B ->
  ∃pss,QO P B n ts pss/\vs.length=(HZ P ts pss).length/\∀(i:Nat) (v:Value) (a:AV),vs[i]?=some v->(HZ P ts pss)[i]?=some a->VRel W (Old W) ι Hp v a
 | [],vs,ds,p,h,hp,hv,hb=>by
  obtain ⟨rfl,rfl,rfl⟩:=trodAll_nil h;exact⟨[],trivial,rfl,fun i v a h=>by simp at h⟩
 |t::ts,vs,ds,p,h,hp,hv,hb=>by
  obtain ⟨v,vs',d,ds',p1,p2,rfl,rfl,rfl,h1,h2⟩:=trodAll_cons h;simp only[List.all_cons,aOE]at hp;simp only[Rows.uptoBulkAll]at hb;obtain ⟨ps,a1,a2⟩:=aHo (B:=B) ι Hp hp.1 (hv 0 t v rfl rfl) h1 (by omega);obtain ⟨pss,b1,b2,b3⟩:=WJ ι Hp h2 hp.2 (fun j t v h1 h2=>hv (j+1) t v h1 h2) (by omega);refine⟨ps::pss,⟨a1,b1⟩,by simp[HZ,b2],fun i v a h1 h2=>?_⟩;cases i with
  |zero=>cases h1;cases h2;exact a2
  |succ i=>exact b3 i v a h1 h2
theorem aGY(ι:dX)(W:World)(hg:M2 (Old W) W):Rel (Old W) ι [] W:=⟨fun _ h=>h,fun _ _ h=>(by cases h),fun _ _ _ _ _ _ _ h=>(by cases h),hg⟩
theorem Y7{I':Nat->Prop}{ι':dX}{H':aB}{w w':World}(h:Step I ι [] w I' ι' H' w'):Below w.heap.size w w' :=⟨h.os,h.tape,h.output,h.size,fun k hk=>h.keep k hk (fun⟨_,_,_,hx,_⟩=>by cases hx)⟩
theorem MQ(hl:laidOutB P=true){W':World}(hb:Below W.heap.size W W'){sp:Nat->Bool}:∀ {ts:List TypeId} {vs:List Value} {ds:List (DataW H)} {p:List MemPlace},DataW.TrodAll enc P W 0 (fun _=>true) true ts vs ds p ->
  (ts.all fun t=>P.readableRec t&&Nat.blt t P.types.size)=true->(∀x∈p,x.block<W.heap.size)->(∀x∈p,sp x.block=true)->DataW.TrodAll enc P W' 0 sp true ts vs ds p
 | [],vs,ds,p,h,hp,hlt,hsp=>by
  obtain ⟨rfl,rfl,rfl⟩:=trodAll_nil h;exact trodAll_mk0
 | t::ts,vs,ds,p,h,hp,hlt,hsp=>by
  obtain ⟨v,vs',d,ds',p1,p2,rfl,rfl,rfl,h1,h2⟩:=trodAll_cons h;simp only[List.all_cons,aOE,Nat.blt_eq]at hp;exact trodAll_cons_mk (WideElems.Trod_stays hl hp.1.1 hp.1.2 h1 (fun x hx=>hb.same (hlt x (by simp[hx]))) (fun x hx=>hsp x (by simp[hx])))
   (MQ hl hb h2 hp.2 (fun x hx=>hlt x (by simp[hx])) (fun x hx=>hsp x (by simp[hx])))
theorem XS{W W':World}{ds gs:List (DataW H)}{pa pv:List MemPlace}
  (hW:DataW.Whole enc P f.params.toList s.vars apart W args.toList ds gs fS)
  (hres:∀(b:Nat) (sp:Nat->Bool) (hd:Bool),DataW.TrodAll enc P W' b sp hd f.resultTypes.toList (v.resultList f.resultTypes.size) (s.fn H (ds++gs)).results [])
  (hargs:∀sp:Nat->Bool,(∀p∈fS,sp p.block=true)->DataW.TrodAll enc P W' 0 sp true f.params.toList args.toList (s.fn H (ds++gs)).args pa)
  (hvars:∀sp:Nat->Bool,(∀p∈fS,sp p.block=true)->DataW.TrodVars enc P W' sp s.vars (s.fn H (ds++gs)).vars pv)
  (hps:fS=pa++pv) (hb:Below W.heap.size W W')
  (hok:∀(j:Nat) (t:TypeId) (r:Value),f.resultTypes[j]?=some t->(v.resultList f.resultTypes.size)[j]?=some r->Value.okWide P W' .any 0 t r) :
  s.post enc P f apart fresh handsOn again W args v W':=by
 have hlt:∀p∈fS,p.block<W.heap.size:=fun p hp=>hW.lt p hp;have hold:∀p∈fS,(fun b=>decide (b<W.heap.size)) p.block=true:=fun p hp=>by simpa using hlt p hp
 refine⟨ds,gs,fS,[],pa,pv,hW,hres _ _ _,hargs _ hold,hvars _ hold,World.keptBut_mono (fun p hp=>⟨hp,?_⟩) (hb.frame (·∈fS)),fun _=>?_⟩
 ·rw[hps,List.mem_append]at hp;exact Or.inr hp
 obtain ⟨_,_,_,_,_,hz,hn⟩:=hW;refine⟨hok,_,_,([]++pa)++pv,⟨[]++pa,pv,trodAll_append (hargs _ (fun _ _=>rfl)) (hres _ _ _),hvars _ (fun _ _=>rfl),rfl,?_,?_⟩,?_⟩
 ·intro b off hp;have hin:MemPlace.cell b off∈fS:=by rw[hps];simpa using hp
  rw[hb.frozen (hlt _ hin)];exact hz b off hin
 ·intro ha;have:=hn ha;rw[hps]at this
  simpa using this
 intro p hp _;rw[hps]
 simpa using hp
theorem aEL{fid:FuncId}{ds gs:List (DataW H)}{bt:TypeId}
  (hl:laidOutB P=true) (hpar:(f.params.toList.all fun t=>P.readableRec t&&Nat.blt t P.types.size)=true) (hpure:f.params.toList.all (yZ P n)=true) (hvars:s.vars=[])
  (hfn:∀ds:List (DataW H),ds.length=f.params.toList.length->(s.fn H ds).results=[.lit (.bool true)]/\(s.fn H ds).args=ds/\(s.fn H ds).vars=[])
  (hres:f.resultTypes=#[bt]) (hbt:P.underlying bt=some .bool)
  (hval:∀(j:Nat) t v,f.params[j]?=some t->args[j]?=some v->Value.okWide P W .any base t v)
  (hW:DataW.Whole enc P f.params.toList s.vars apart W args.toList ds gs fS) (hB:Rows.uptoBulkAll ds<=B)
  (hc:∀pss,QO P B n f.params.toList pss->aH P fid (HZ P f.params.toList pss) [] (fun r H'=>r=.pv (.bool true)/\H'=[])) (hg:M2 (Old W) W:=by exact fun p hp=>by cases hp) :
  Calls P fid args W fun e W'=>∃v,e=.returned v/\s.post enc P f apart fresh handsOn again W args v W':=by
 have hW':=hW;obtain ⟨p,q,hA,hV,rfl,hfz,hnd⟩:=hW;rw[hvars]at hV;obtain ⟨rfl,rfl⟩:=trodVars_none hV;obtain ⟨pss,h1,h2,h3⟩:=WJ (B:=B) (base:=base) (fun _=>none) [] hA hpure (fun j t v ht hv=>hval j t v (by simpa using ht) (by simpa using hv)) hB;have hlen:ds.length=f.params.toList.length:=by
  clear h1 h2 h3 hc hfn hpar hpure hval hW' hB hfz hnd;revert hA;generalize f.params.toList=ts;generalize args.toList=vs;intro hA;clear hV
  induction ts generalizing vs ds p with
  |nil=>obtain ⟨_,rfl,_⟩:=trodAll_nil hA;rfl
  |cons t ts ih =>
   obtain ⟨v,vs',d,ds',p1,p2,_,rfl,_,_,h2⟩:=trodAll_cons hA;simp[ih _ _ h2]
 refine(hc pss h1 (Old W) (fun _=>none) W args (aGY _ W hg) (by simpa using h2) (fun i v a ha hb=>h3 i v a (by simpa using ha) hb)).mono ?_;rintro e W' ⟨r,H',I',ι',v,rfl,⟨rfl,rfl⟩,hv,hr,hst⟩;have hvb:v=.bool true:=hv.bool_inv;subst hvb;have hbel:=Y7 hst;obtain ⟨f1,f2,f3⟩:=hfn (ds++[]) (by simpa using hlen);refine⟨_,rfl,XS (pa:=p) (pv:=[]) hW' (fun b sp hd=>?_) (fun sp hsp=>?_) (fun sp hsp=>?_) rfl hbel (ok_one hres rfl (okWide_bool_mk hbt _))⟩
 ·rw[f1,hres];exact trodAll_cons_mk (shut_bool hbt _) trodAll_mk0
 ·rw[f2,List.append_nil];exact MQ hl hbel hA hpar (fun x hx=>hW'.lt x (by simp[hx])) (fun x hx=>hsp x (by simp[hx]))
 rw[f3,hvars];rfl
theorem sV{k:IntKind}(ht:P.underlying t=some (.int k))(h:Sh P B (n+1) t ps):∃i,ps=[.int k i]/\(Lit.int k i).wf=true:=by unfold Sh at h;rw[ht]at h;exact h
theorem aGH(ht:P.underlying t=some .bool)(h:Sh P B (n+1) t ps):∃b,ps=[.bool b]:=by unfold Sh at h;rw[ht]at h;exact h
theorem nK(ht:P.underlying t=some .string)(h:Sh P B (n+1) t ps):∃s,ps=[.str s]/\s.size<=B:=by unfold Sh at h;rw[ht]at h;exact h
theorem pI{fs:Array Field}(ht:P.underlying t=some (.struct fs))(h:Sh P B (n+1) t ps):ShF (fun t ps=>Sh P B n t ps) P.cellsOf fs.toList ps:=by unfold Sh at h;rw[ht]at h;exact h
theorem IT{e:TypeId}{α:Type}{f:α->List PV}{good:α->Prop}(ht:P.underlying t=some (.slice e))(h:Sh P B (n+1) t ps)(hd:∀r,Sh P B n e r->∃a,r=f a/\good a):
  ∃l:List α,ps=[.sl (l.map f)]/\l.length<=B/\∀a,a∈l->good a:=by
 unfold Sh at h;rw[ht]at h;obtain ⟨rows,rfl,hlen,hr⟩:=h;obtain ⟨l,h1,h2⟩:∃l:List α,rows=l.map f/\∀a,a∈l->good a:=by
  clear hlen
  induction rows with
  |nil=>exact⟨[],rfl,by simp⟩
  |cons r rs ih =>
   obtain ⟨l,h1,h2⟩:=ih (fun r h=>hr r (by simp[h]));obtain ⟨a,a1,a2⟩:=hd r (hr r (by simp)).2;refine⟨a::l,by simp[a1,h1],fun b hb=>?_⟩;rcases aOH.1 hb with e|e
   ·subst e;exact a2
   exact h2 b e
 subst h1;exact⟨l,rfl,by simpa using hlen,h2⟩
end
end
end Go.Abs
namespace Go.Proofs.YtmdicgjnmfolfaaGreatDoor
open Go.Proofs.Tryz
open Go.Abs
variable{α:Type}{k:Nat}
theorem zo3:dM Tryz.prog 3 [.pv (.int .i64 0)]:=⟨_,_,sP,.inl rfl,rfl⟩
theorem zo4:dM Tryz.prog 4 [.pv (.bool false)]:=⟨_,_,BB,.inl rfl,rfl⟩
theorem zo5:dM Tryz.prog 5 [.pv (.int .u8 0)]:=⟨_,_,BA,.inl rfl,rfl⟩
theorem zo9:dM Tryz.prog 9 [.pv (.str ⟨#[]⟩)]:=⟨_,_,sO,.inl rfl,rfl⟩
theorem aK9:dM Tryz.prog 22 [.pv (.sl [])]:=⟨_,_,aFT,.inl rfl,rfl⟩
theorem aC9:dM Tryz.prog 22 [.pv .nils]:=⟨_,_,aFT,.inr rfl,rfl⟩
theorem bT:eG Tryz.prog 22 9 1:=⟨aC,sizeOf9,by decide,_,sO⟩
theorem CH:EI Tryz.prog 9 1 16:=EI.mk (z:=(Value.string ⟨#[]⟩)) (by kernel_rfl) rfl (by decide) (by decide)
theorem aK3:dM Tryz.prog 23 [.pv .nils]:=⟨_,_,zeroValue23,.inr rfl,rfl⟩
theorem XD:eG Tryz.prog 23 153 15:=⟨dL,bA,by decide,_,aCT⟩
theorem aLm:EI Tryz.prog 153 15 216:=EI.mk (z:=(Value.agg #[(Value.int IntKind.i64 (0)),(Value.string ⟨#[]⟩),(Value.string ⟨#[]⟩),(Value.string ⟨#[]⟩),(Value.int IntKind.i64 (0)),(Value.int IntKind.i64 (0)),(Value.string ⟨#[]⟩),(Value.string ⟨#[]⟩),(Value.slice none (0) (0)),(Value.string ⟨#[]⟩),(Value.int IntKind.i64 (0)),(Value.int IntKind.i64 (0)),(Value.int IntKind.i64 (0)),(Value.slice none (0) (0)),(Value.slice none (0) (0))])) (by kernel_rfl) rfl (by decide) (by decide)
theorem WW:dM Tryz.prog 25 [.pv (.int .i64 0),.pv (.sl []),.pv (.sl [])]:=⟨_,_,aFS,.inl rfl,rfl⟩
theorem mD:cB Tryz.prog 25 0 0:=by refine⟨_,_,0,fT,rfl,rfl,?_⟩;exact sizeOf3
theorem iG:cB Tryz.prog 25 1 1:=by refine⟨_,_,0,fT,rfl,rfl,?_⟩;exact sizeOf22
theorem lF:cB Tryz.prog 25 2 2:=by refine⟨_,_,0,fT,rfl,rfl,?_⟩;exact sizeOf22
theorem aHk:kR Tryz.prog 25 [(0,1),(1,1),(2,1)] [.pv (.int .i64 0),.pv (.sl []),.pv (.sl [])]:=⟨_,#[(0,1),(1,1),(2,1)],_,_,fT,aFS,.inl rfl,rfl,fun w=>by simp[sizeOf3,sizeOf22],rfl⟩
theorem aLu:kR Tryz.prog 25 [(0,1),(1,1),(2,1)] [.pv (.int .i64 0),.pv .nils,.pv .nils]:=⟨_,#[(0,1),(1,1),(2,1)],_,_,fT,aFS,.inr rfl,rfl,fun w=>by simp[sizeOf3,sizeOf22],rfl⟩
theorem TT:eG Tryz.prog 26 68 2:=⟨dY,sizeOf68,by decide,_,aFP⟩
theorem aND:EI Tryz.prog 68 2 16:=EI.mk (z:=(Value.agg #[(Value.int IntKind.i64 (0)),(Value.int IntKind.i64 (0))])) (by kernel_rfl) rfl (by decide) (by decide)
theorem aIa:dM Tryz.prog 28 [.pv (.str ⟨#[]⟩),.pv (.str ⟨#[]⟩),.pv (.sl []),.pv (.sl []),.pv (.int .i64 0),.pv (.sl []),.pv (.sl [])]:=⟨_,_,zeroValue28,.inl rfl,rfl⟩
theorem C7:cB Tryz.prog 28 0 0:=by refine⟨_,_,0,lN,rfl,rfl,?_⟩;exact sizeOf9
theorem C6:cB Tryz.prog 28 1 1:=by refine⟨_,_,0,lN,rfl,rfl,?_⟩;exact sizeOf9
theorem A0:cB Tryz.prog 28 2 2:=by refine⟨_,_,0,lN,rfl,rfl,?_⟩;exact sizeOf22
theorem tP:cB Tryz.prog 28 3 3:=by refine⟨_,_,0,lN,rfl,rfl,?_⟩;exact sizeOf26
theorem oV:cB Tryz.prog 28 4 4:=by refine⟨_,_,2,lN,rfl,rfl,?_⟩;exact sizeOf25
theorem aKD:kR Tryz.prog 28 [(0,1),(1,1),(2,1),(3,1),(4,3)] [.pv (.str ⟨#[]⟩),.pv (.str ⟨#[]⟩),.pv (.sl []),.pv (.sl []),.pv (.int .i64 0),.pv (.sl []),.pv (.sl [])]:=⟨_,#[(0,1),(1,1),(2,1),(3,1),(4,3)],_,_,lN,zeroValue28,.inl rfl,rfl,fun w=>by simp[sizeOf9,sizeOf22,sizeOf25,sizeOf26],rfl⟩
theorem M8:dM Tryz.prog 30 [.pv (.int .i64 0),.pv (.int .i64 0),.pv (.int .i64 0),.pv (.int .i64 0),.pv (.str ⟨#[]⟩),.pv (.sl []),.pv (.sl []),.pv (.str ⟨#[]⟩),.pv (.bool false),.pv (.int .i64 0),.pv (.str ⟨#[]⟩),.pv (.int .i64 0),.pv (.sl []),.pv (.sl []),.pv (.str ⟨#[]⟩),.pv (.str ⟨#[]⟩),.pv (.sl []),.pv (.sl []),.pv (.int .i64 0),.pv (.sl []),.pv (.sl [])]:=⟨_,_,aFR,.inl rfl,rfl⟩
theorem C5:cB Tryz.prog 30 0 0:=by refine⟨_,_,0,cW,rfl,rfl,?_⟩;exact sizeOf3
theorem tO:cB Tryz.prog 30 1 1:=by refine⟨_,_,0,cW,rfl,rfl,?_⟩;exact sizeOf3
theorem pN:cB Tryz.prog 30 2 2:=by refine⟨_,_,0,cW,rfl,rfl,?_⟩;exact sizeOf3
theorem AZ:cB Tryz.prog 30 3 3:=by refine⟨_,_,0,cW,rfl,rfl,?_⟩;exact sizeOf3
theorem AY:cB Tryz.prog 30 4 4:=by refine⟨_,_,0,cW,rfl,rfl,?_⟩;exact sizeOf9
theorem pM:cB Tryz.prog 30 5 5:=by refine⟨_,_,0,cW,rfl,rfl,?_⟩;exact sizeOf22
theorem C4:cB Tryz.prog 30 6 6:=by refine⟨_,_,0,cW,rfl,rfl,?_⟩;exact sizeOf23
theorem AX:cB Tryz.prog 30 7 7:=by refine⟨_,_,0,cW,rfl,rfl,?_⟩;exact sizeOf9
theorem GP:cB Tryz.prog 30 8 8:=by refine⟨_,_,0,cW,rfl,rfl,?_⟩;exact sizeOf4
theorem C3:cB Tryz.prog 30 9 9:=by refine⟨_,_,0,cW,rfl,rfl,?_⟩;exact sizeOf3
theorem yK:cB Tryz.prog 30 10 10:=by refine⟨_,_,0,cW,rfl,rfl,?_⟩;exact sizeOf9
theorem kM:cB Tryz.prog 30 11 11:=by refine⟨_,_,2,cW,rfl,rfl,?_⟩;exact sizeOf25
theorem fJ:cB Tryz.prog 30 12 14:=by refine⟨_,_,6,cW,rfl,rfl,?_⟩;exact sizeOf28
theorem WC:kR Tryz.prog 30 [(0,1),(1,1),(2,1),(3,1),(4,1),(5,1),(6,1),(7,1),(8,1),(9,1),(10,1),(11,3),(14,7)] [.pv (.int .i64 0),.pv (.int .i64 0),.pv (.int .i64 0),.pv (.int .i64 0),.pv (.str ⟨#[]⟩),.pv (.sl []),.pv (.sl []),.pv (.str ⟨#[]⟩),.pv (.bool false),.pv (.int .i64 0),.pv (.str ⟨#[]⟩),.pv (.int .i64 0),.pv (.sl []),.pv (.sl []),.pv (.str ⟨#[]⟩),.pv (.str ⟨#[]⟩),.pv (.sl []),.pv (.sl []),.pv (.int .i64 0),.pv (.sl []),.pv (.sl [])]:=⟨_,#[(0,1),(1,1),(2,1),(3,1),(4,1),(5,1),(6,1),(7,1),(8,1),(9,1),(10,1),(11,3),(14,7)],_,_,cW,aFR,.inl rfl,rfl,fun w=>by simp[sizeOf3,sizeOf4,sizeOf9,sizeOf22,sizeOf23,sizeOf25,sizeOf28],rfl⟩
theorem aBF:eG Tryz.prog 34 3 1:=⟨underlying34,sizeOf3,by decide,_,sP⟩
theorem ei3:EI Tryz.prog 3 1 8:=EI.mk (z:=(Value.int IntKind.i64 (0))) (by kernel_rfl) rfl (by decide) (by decide)
theorem aM6:dM Tryz.prog 37 [.pv (.sl []),.pv (.sl []),.pv (.sl []),.pv (.int .i64 0),.pv (.sl []),.pv (.sl [])]:=⟨_,_,aFQ,.inl rfl,rfl⟩
theorem aK2:dM Tryz.prog 37 [.pv .nils,.pv .nils,.pv .nils,.pv (.int .i64 0),.pv .nils,.pv .nils]:=⟨_,_,aFQ,.inr rfl,rfl⟩
theorem SB:cB Tryz.prog 37 1 1:=by refine⟨_,_,0,underlying37,rfl,rfl,?_⟩;exact sizeOf22
theorem aLv:kR Tryz.prog 37 [(0,1),(1,1),(2,1),(3,1),(4,1),(5,1)] [.pv (.sl []),.pv (.sl []),.pv (.sl []),.pv (.int .i64 0),.pv (.sl []),.pv (.sl [])]:=⟨_,#[(0,1),(1,1),(2,1),(3,1),(4,1),(5,1)],_,_,underlying37,aFQ,.inl rfl,rfl,fun w=>by simp[sizeOf3,sizeOf22,sizeOf33,sizeOf34,sizeOf35],rfl⟩
theorem aI8:dM Tryz.prog 41 [.pv (.int .i64 0)]:=⟨_,_,zeroValue41,.inl rfl,rfl⟩
theorem aK5:dM Tryz.prog 68 [.pv (.int .i64 0),.pv (.int .i64 0)]:=⟨_,_,aFP,.inl rfl,rfl⟩
theorem vI:cB Tryz.prog 68 0 0:=by refine⟨_,_,0,underlying68,rfl,rfl,?_⟩;exact sizeOf3
theorem vG:cB Tryz.prog 68 1 1:=by refine⟨_,_,0,underlying68,rfl,rfl,?_⟩;exact sizeOf3
theorem aEy:kR Tryz.prog 68 [(0,1),(1,1)] [.pv (.int .i64 0),.pv (.int .i64 0)]:=⟨_,#[(0,1),(1,1)],_,_,underlying68,aFP,.inl rfl,rfl,fun w=>by simp[sizeOf3],rfl⟩
theorem XH(a0 b0:Int)(a1 b1:Int)(w:World):(Op.equalIn 10000 68 (.agg [.int .i64 a0,.int .i64 a1].toArray) (.agg [.int .i64 b0,.int .i64 b1].toArray)).run Tryz.prog w=.ok (decide (a0=b0)&&decide (a1=b1)) w:=by
 refine(run_equalIn_struct (P:=Tryz.prog) w 9999 68 _ _ (by simp[Program.fieldsOf,underlying68]) stoodInHeld68).trans ?_;have h3:∀(d:Nat) (a b:Int) (w:World),(Op.equalIn (d+1) 3 (.int .i64 a) (.int .i64 b)).run Tryz.prog w=.ok (decide (a=b)) w:=fun d a b w=>by rw[run_equalIn_int w d 3 _ _ a b underlying3];by_cases h:a=b<;>simp[h]
 by_cases e0:a0=b0<;>by_cases e1:a1=b1<;>simp[Program.fieldsOf,underlying68,Op.eqFields,part,h3,isAgg3,e0,e1]
theorem aKs:eG Tryz.prog 69 30 21:=⟨FR,aR,by decide,_,aFR⟩
theorem aK4:dM Tryz.prog 72 [.pv (.sl [])]:=⟨_,_,zeroValue72,.inl rfl,rfl⟩
theorem aK1:dM Tryz.prog 72 [.pv .nils]:=⟨_,_,zeroValue72,.inr rfl,rfl⟩
theorem XC:eG Tryz.prog 72 9 1:=⟨underlying72,sizeOf9,by decide,_,sO⟩
theorem aM4:dM Tryz.prog 82 [.pv .nilp]:=⟨_,_,zeroValue82,.inl rfl,rfl⟩
theorem aE8:cB Tryz.prog 84 0 0:=by refine⟨_,_,0,underlying84,rfl,rfl,?_⟩;exact sizeOf9
theorem aNI:kR Tryz.prog 84 [(0,1)] [.pv (.str ⟨#[]⟩)]:=⟨_,#[(0,1)],_,_,underlying84,zeroValue84,.inl rfl,rfl,fun w=>by simp[sizeOf9],rfl⟩
theorem aM3:dM Tryz.prog 98 [.pv .nilfn]:=⟨_,_,zeroValue98,.inl rfl,rfl⟩
theorem aKc:dM Tryz.prog 122 [.pv (.int .u64 0)]:=⟨_,_,FQ,.inl rfl,rfl⟩
theorem aKb:dM Tryz.prog 123 [.pv (.int .u8 0),.pv (.int .u8 0),.pv (.int .u8 0),.pv (.int .u8 0),.pv (.int .u8 0),.pv (.int .u8 0),.pv (.int .u8 0),.pv (.int .u8 0)]:=⟨_,_,zeroValue123,.inl rfl,rfl⟩
theorem wA:eG Tryz.prog 124 5 1:=⟨cJ,bV,by decide,_,BA⟩
theorem ei5:EI Tryz.prog 5 1 1:=EI.mk (z:=(Value.int IntKind.u8 (0))) (by kernel_rfl) rfl (by decide) (by decide)
theorem ZL:dM Tryz.prog 128 [.pv (.int .u8 0),.pv (.int .u8 0),.pv (.int .u8 0),.pv (.int .u8 0),.pv (.int .u8 0),.pv (.int .u8 0),.pv (.int .u8 0),.pv (.int .u8 0),.pv (.int .u8 0),.pv (.int .u8 0),.pv (.int .u8 0),.pv (.int .u8 0),.pv (.int .u8 0),.pv (.int .u8 0),.pv (.int .u8 0),.pv (.int .u8 0)]:=⟨_,_,zeroValue128,.inl rfl,rfl⟩
theorem uM:eG Tryz.prog 133 20 1:=⟨underlying133,aMB,by decide,_,aFU⟩
theorem FU:dM Tryz.prog 137 [.pv .nilp,.pv .nils]:=⟨_,_,zeroValue137,.inr rfl,rfl⟩
theorem uX:cB Tryz.prog 137 0 0:=by refine⟨_,_,0,underlying137,rfl,rfl,?_⟩;exact aKL
theorem fK:cB Tryz.prog 137 1 1:=by refine⟨_,_,0,underlying137,rfl,rfl,?_⟩;exact mX
theorem yX:eG Tryz.prog 149 199 2:=⟨cQ,iR,by decide,_,aCR⟩
theorem aIR:EI Tryz.prog 199 2 32:=EI.mk (z:=(Value.agg #[(Value.string ⟨#[]⟩),(Value.string ⟨#[]⟩)])) (by kernel_rfl) rfl (by decide) (by decide)
theorem ZK:dM Tryz.prog 151 [.pv (.str ⟨#[]⟩),.pv (.int .i64 0),.pv (.int .i64 0),.pv (.int .i64 0),.pv (.sl []),.pv (.sl [])]:=⟨_,_,FO,.inl rfl,rfl⟩
theorem aI7:dM Tryz.prog 151 [.pv (.str ⟨#[]⟩),.pv (.int .i64 0),.pv (.int .i64 0),.pv (.int .i64 0),.pv .nils,.pv .nils]:=⟨_,_,FO,.inr rfl,rfl⟩
theorem qB:cB Tryz.prog 151 0 0:=by refine⟨_,_,0,iK,rfl,rfl,?_⟩;exact sizeOf9
theorem gR:cB Tryz.prog 151 1 1:=by refine⟨_,_,0,iK,rfl,rfl,?_⟩;exact sizeOf3
theorem oY:cB Tryz.prog 151 2 2:=by refine⟨_,_,1,iK,rfl,rfl,?_⟩;exact sizeOf68
theorem gQ:cB Tryz.prog 151 3 4:=by refine⟨_,_,0,iK,rfl,rfl,?_⟩;exact sizeOf22
theorem fY:cB Tryz.prog 151 4 5:=by refine⟨_,_,0,iK,rfl,rfl,?_⟩;exact sizeOf149
theorem aAa:kR Tryz.prog 151 [(0,1),(1,1),(2,2),(4,1),(5,1)] [.pv (.str ⟨#[]⟩),.pv (.int .i64 0),.pv (.int .i64 0),.pv (.int .i64 0),.pv (.sl []),.pv (.sl [])]:=⟨_,#[(0,1),(1,1),(2,2),(4,1),(5,1)],_,_,iK,FO,.inl rfl,rfl,fun w=>by simp[sizeOf3,sizeOf9,sizeOf22,sizeOf68,sizeOf149],rfl⟩
theorem aKC:kR Tryz.prog 151 [(0,1),(1,1),(2,2),(4,1),(5,1)] [.pv (.str ⟨#[]⟩),.pv (.int .i64 0),.pv (.int .i64 0),.pv (.int .i64 0),.pv .nils,.pv .nils]:=⟨_,#[(0,1),(1,1),(2,2),(4,1),(5,1)],_,_,iK,FO,.inr rfl,rfl,fun w=>by simp[sizeOf3,sizeOf9,sizeOf22,sizeOf68,sizeOf149],rfl⟩
theorem ZJ:dM Tryz.prog 153 [.pv (.int .i64 0),.pv (.str ⟨#[]⟩),.pv (.str ⟨#[]⟩),.pv (.str ⟨#[]⟩),.pv (.int .i64 0),.pv (.int .i64 0),.pv (.str ⟨#[]⟩),.pv (.str ⟨#[]⟩),.pv (.sl []),.pv (.str ⟨#[]⟩),.pv (.int .i64 0),.pv (.int .i64 0),.pv (.int .i64 0),.pv (.sl []),.pv (.sl [])]:=⟨_,_,aCT,.inl rfl,rfl⟩
theorem yL:cB Tryz.prog 153 0 0:=by refine⟨_,_,0,eT,rfl,rfl,?_⟩;exact sizeOf3
theorem lL:cB Tryz.prog 153 1 1:=by refine⟨_,_,0,eT,rfl,rfl,?_⟩;exact sizeOf9
theorem iW:cB Tryz.prog 153 2 2:=by refine⟨_,_,0,eT,rfl,rfl,?_⟩;exact sizeOf9
theorem oX:cB Tryz.prog 153 3 3:=by refine⟨_,_,0,eT,rfl,rfl,?_⟩;exact sizeOf9
theorem iP:cB Tryz.prog 153 4 4:=by refine⟨_,_,1,eT,rfl,rfl,?_⟩;exact sizeOf68
theorem lK:cB Tryz.prog 153 5 6:=by refine⟨_,_,0,eT,rfl,rfl,?_⟩;exact sizeOf9
theorem mK:cB Tryz.prog 153 6 7:=by refine⟨_,_,0,eT,rfl,rfl,?_⟩;exact sizeOf9
theorem fC:cB Tryz.prog 153 7 8:=by refine⟨_,_,0,eT,rfl,rfl,?_⟩;exact sizeOf22
theorem rZ:cB Tryz.prog 153 8 9:=by refine⟨_,_,5,eT,rfl,rfl,?_⟩;exact sizeOf151
theorem CJ:kR Tryz.prog 153 [(0,1),(1,1),(2,1),(3,1),(4,2),(6,1),(7,1),(8,1),(9,6)] [.pv (.int .i64 0),.pv (.str ⟨#[]⟩),.pv (.str ⟨#[]⟩),.pv (.str ⟨#[]⟩),.pv (.int .i64 0),.pv (.int .i64 0),.pv (.str ⟨#[]⟩),.pv (.str ⟨#[]⟩),.pv (.sl []),.pv (.str ⟨#[]⟩),.pv (.int .i64 0),.pv (.int .i64 0),.pv (.int .i64 0),.pv (.sl []),.pv (.sl [])]:=⟨_,#[(0,1),(1,1),(2,1),(3,1),(4,2),(6,1),(7,1),(8,1),(9,6)],_,_,eT,aCT,.inl rfl,rfl,fun w=>by simp[sizeOf3,sizeOf9,sizeOf22,sizeOf68,sizeOf151],rfl⟩
theorem HJ:eG Tryz.prog 172 22 1:=⟨DK,sizeOf22,by decide,_,aFT⟩
theorem aHz:dM Tryz.prog 182 [.pv (.sl [])]:=⟨_,_,zeroValue182,.inl rfl,rfl⟩
theorem aCa:dM Tryz.prog 182 [.pv .nils]:=⟨_,_,zeroValue182,.inr rfl,rfl⟩
theorem mM:eG Tryz.prog 182 187 3:=⟨gE,sizeOf187,by decide,_,aCS⟩
theorem aEg:EI Tryz.prog 187 3 32:=EI.mk (z:=(Value.agg #[(Value.int IntKind.i64 (0)),(Value.string ⟨#[]⟩),(Value.int IntKind.i64 (0))])) (by kernel_rfl) rfl (by decide) (by decide)
theorem aKa:dM Tryz.prog 187 [.pv (.int .i64 0),.pv (.str ⟨#[]⟩),.pv (.int .i64 0)]:=⟨_,_,aCS,.inl rfl,rfl⟩
theorem EY:cB Tryz.prog 187 0 0:=by refine⟨_,_,0,DJ,rfl,rfl,?_⟩;exact sizeOf3
theorem kN:cB Tryz.prog 187 1 1:=by refine⟨_,_,0,DJ,rfl,rfl,?_⟩;exact sizeOf9
theorem JF:cB Tryz.prog 187 2 2:=by refine⟨_,_,0,DJ,rfl,rfl,?_⟩;exact sizeOf3
theorem aIW:kR Tryz.prog 187 [(0,1),(1,1),(2,1)] [.pv (.int .i64 0),.pv (.str ⟨#[]⟩),.pv (.int .i64 0)]:=⟨_,#[(0,1),(1,1),(2,1)],_,_,DJ,aCS,.inl rfl,rfl,fun w=>by simp[sizeOf3,sizeOf9],rfl⟩
theorem aHy:dM Tryz.prog 199 [.pv (.str ⟨#[]⟩),.pv (.str ⟨#[]⟩)]:=⟨_,_,aCR,.inl rfl,rfl⟩
theorem EX:cB Tryz.prog 199 0 0:=by refine⟨_,_,0,underlying199,rfl,rfl,?_⟩;exact sizeOf9
theorem JE:cB Tryz.prog 199 1 1:=by refine⟨_,_,0,underlying199,rfl,rfl,?_⟩;exact sizeOf9
theorem aIV:kR Tryz.prog 199 [(0,1),(1,1)] [.pv (.str ⟨#[]⟩),.pv (.str ⟨#[]⟩)]:=⟨_,#[(0,1),(1,1)],_,_,underlying199,aCR,.inl rfl,rfl,fun w=>by simp[sizeOf9],rfl⟩
theorem aIE(a0 b0:ByteArray)(a1 b1:ByteArray)(w:World):(Op.equalIn 10000 199 (.agg [.string a0,.string a1].toArray) (.agg [.string b0,.string b1].toArray)).run Tryz.prog w=.ok (decide (a0=b0)&&decide (a1=b1)) w:=by
 refine(run_equalIn_struct (P:=Tryz.prog) w 9999 199 _ _ (by simp[Program.fieldsOf,underlying199]) stoodInHeld199).trans ?_;have h9:∀(d:Nat) (a b:ByteArray) (w:World),(Op.equalIn (d+1) 9 (.string a) (.string b)).run Tryz.prog w=.ok (decide (a=b)) w:=fun d a b w=>by rw[run_equalIn_string w d 9 a b underlying9,wM]
 by_cases e0:a0=b0<;>by_cases e1:a1=b1<;>simp[Program.fieldsOf,underlying199,Op.eqFields,part,h9,isAgg9,e0,e1]
theorem aCb:dM Tryz.prog 218 [.pv (.int .i64 0),.pv (.str ⟨#[]⟩),.pv (.int .i64 0),.pv (.int .i64 0)]:=⟨_,_,zeroValue218,.inl rfl,rfl⟩
theorem lJ:cB Tryz.prog 218 0 0:=by refine⟨_,_,2,ZG,rfl,rfl,?_⟩;exact sizeOf187
theorem oW:cB Tryz.prog 218 1 3:=by refine⟨_,_,0,ZG,rfl,rfl,?_⟩;exact sizeOf41
theorem aLw:kR Tryz.prog 218 [(0,3),(3,1)] [.pv (.int .i64 0),.pv (.str ⟨#[]⟩),.pv (.int .i64 0),.pv (.int .i64 0)]:=⟨_,#[(0,3),(3,1)],_,_,ZG,zeroValue218,.inl rfl,rfl,fun w=>by simp[sizeOf41,sizeOf187],rfl⟩
theorem aI6:dM Tryz.prog 245 [.pv .nilp,.pv .nils]:=⟨_,_,zeroValue245,.inr rfl,rfl⟩
theorem mJ:cB Tryz.prog 245 0 0:=by refine⟨_,_,1,underlying245,rfl,rfl,?_⟩;exact sizeOf137
theorem aK8:dM Tryz.prog 247 [.pv .nilfn]:=⟨_,_,zeroValue247,.inl rfl,rfl⟩
theorem aK7:dM Tryz.prog 269 [.pv (.str ⟨#[]⟩),.pv (.str ⟨#[]⟩),.pv (.str ⟨#[]⟩),.pv (.str ⟨#[]⟩),.pv (.str ⟨#[]⟩),.pv (.str ⟨#[]⟩)]:=⟨_,_,zeroValue269,.inl rfl,rfl⟩
theorem aLz:JK Tryz.prog 269 1 [.pv (.str ⟨#[]⟩),.pv (.str ⟨#[]⟩),.pv (.str ⟨#[]⟩),.pv (.str ⟨#[]⟩),.pv (.str ⟨#[]⟩),.pv (.str ⟨#[]⟩)]:=⟨_,_,_,_,underlying269,zeroValue269,.inl rfl,rfl,sizeOf9⟩
theorem aK6:dM Tryz.prog 270 [.pv .nilm]:=⟨_,_,zeroValue270,.inl rfl,rfl⟩
theorem aIY:JK Tryz.prog 274 1 [.pv (.str ⟨#[]⟩),.pv (.str ⟨#[]⟩),.pv (.str ⟨#[]⟩),.pv (.str ⟨#[]⟩)]:=⟨_,_,_,_,underlying274,zeroValue274,.inl rfl,rfl,sizeOf9⟩
theorem aLy:JK Tryz.prog 280 1 [.pv (.int .i64 0),.pv (.int .i64 0),.pv (.int .i64 0),.pv (.int .i64 0),.pv (.int .i64 0),.pv (.int .i64 0)]:=⟨_,_,_,_,underlying280,zeroValue280,.inl rfl,rfl,sizeOf3⟩
theorem follows:Tryz.prog.follows .mixedOrders=true:=by kernel_rfl
structure GTag where
 key:ByteArray
 val:ByteArray
structure GObj where
 id:ByteArray
 kind:Int
 x:Int
 y:Int
 refs:List ByteArray
 tags:List GTag
structure GEdit where
 op:Int
 id:ByteArray
 other:ByteArray
 node:ByteArray
 x:Int
 y:Int
 key:ByteArray
 val:ByteArray
 refs:List ByteArray
 obj:GObj
def encStr(s:ByteArray):List PV:=[.str s]
def jR(n:Int):List PV:=[.int .i64 n]
def bJ(t:GTag):List PV:=[.str t.key,.str t.val]
def bN(o:GObj):List PV:=[.str o.id,.int .i64 o.kind,.int .i64 o.x,.int .i64 o.y,.sl (o.refs.map encStr),.sl (o.tags.map bJ)]
def bC(e:GEdit):List PV:=[.int .i64 e.op,.str e.id,.str e.other,.str e.node,.int .i64 e.x,.int .i64 e.y,.str e.key,.str e.val,.sl (e.refs.map encStr),
 .str e.obj.id,.int .i64 e.obj.kind,.int .i64 e.obj.x,.int .i64 e.obj.y,.sl (e.obj.refs.map encStr),.sl (e.obj.tags.map bJ)]
def aS(l:List ByteArray):PV:=.sl (l.map encStr)
def sT(l:List GTag):PV:=.sl (l.map bJ)
def jF(l:List GEdit):PV:=.sl (l.map bC)
def zObj:GObj:=⟨⟨#[]⟩,0,0,0,[],[]⟩
theorem cA{f:α->List PV}{l:List α}{a:α}(h:l[k]?=some a):(l.map f)[k]?=some (f a):=by rw[aOP,h];rfl
theorem aV{l:List α}(h:k<l.length):∃a,l[k]?=some a:=⟨_,aOA h⟩
theorem P2{p:α->Bool}{l:List α}{a:α}(h:∀j,j<k->∀b,l[j]?=some b->p b=false)(hk:l[k]?=some a)(hp:p a=true):l.findIdx? p=some k:=by rw[List.findIdx?_eq_some_iff_getElem];obtain ⟨hlt,he⟩:=aNz.1 hk;refine⟨hlt,by rw[he];exact hp,fun j hj=>?_⟩;have:=h j hj l[j] (aOA (by omega));simp[this]
theorem P3{p:α->Bool}{l:List α}(h:∀j,j<l.length->∀b,l[j]?=some b->p b=false):l.findIdx? p=none:=by rw[List.findIdx?_eq_none_iff];intro x hx;obtain ⟨j,hj⟩:=aOQ.1 hx;exact h j (aNz.1 hj).1 x hj
def vE{α:Type}(p:α->Bool)(l:List α):Int:=match l.findIdx? p with|some i=>(i:Int)|none => -1
theorem aE4(p:α->Bool)(l:List α):decide (0<=vE p l)=l.any p:=by
 unfold vE;cases h:l.findIdx? p with
 | none =>
  have:l.any p=false:=by
   rw[List.findIdx?_eq_none_iff]at h;rw[List.any_eq_false];intro x hx;simp[h x hx]
  simp[this]
 | some i =>
  have:l.any p=true:=by
   rw[List.findIdx?_eq_some_iff_getElem]at h;obtain ⟨h1,h2,_⟩:=h;exact List.any_eq_true.2 ⟨_,List.getElem_mem h1,h2⟩
  simp[this]
theorem YQ(p:α->Bool)(l:List α):(vE p l = -1/\l.find? p=none)\/∃(k:Nat) (o:α),vE p l=(k:Int)/\l[k]?=some o/\l.find? p=some o:=by
 cases h:l.findIdx? p with
 |none =>
  left;refine⟨by simp[vE,h],?_⟩;rw[List.findIdx?_eq_none_iff]at h;rw[List.find?_eq_none];intro x hx;simp[h x hx]
 |some k =>
  right;have h':=h;rw[List.findIdx?_eq_some_iff_getElem]at h;obtain ⟨h1,h2,h3⟩:=h;refine⟨k,l[k],by simp[vE,h'],aOA h1,?_⟩;rw[List.find?_eq_some_iff_getElem];exact⟨h2,k,h1,rfl,fun j hj=>by have:=h3 j hj;simpa using this⟩
theorem AH{p:α->Bool}{l:List α}{a:α}(h:∀j,j<k->∀b,l[j]?=some b->p b=false)(hk:l[k]?=some a)(hp:p a=false):∀j,j<k+1->∀b,l[j]?=some b->p b=false:=by
 intro j hj b hb;by_cases e:j=k
 ·subst e;rw[hk]at hb;cases hb;exact hp
 exact h j (by omega) b hb
theorem FG{p:α->Bool}{l:List α}(h:∀j,j<l.length->∀b,l[j]?=some b->p b=false):l.any p=false:=by rw[List.any_eq_false];intro x hx;obtain ⟨j,hj⟩:=aOQ.1 hx;simp[h j (aNz.1 hj).1 x hj]
theorem A9{p:α->Bool}{l:List α}{a:α}(hk:l[k]?=some a)(hp:p a=true):l.any p=true:=List.any_eq_true.2 ⟨_,aOF hk,hp⟩
end Go.Proofs.YtmdicgjnmfolfaaGreatDoor
namespace Go.Abs
variable{H H':aB}{P:Program}{i id:Nat}{w w':World}{I:Nat->Prop}{ι:dX}{v:AV}{ob ob':Ob}{x:Obj}
def NA(H:aB):aB->Prop
 | []=>True
 |(id,o)::r=>H.get id=some o/\NA H r
theorem NA.sub:∀ {L:aB},NA H L->Sub L H
 | [],_,id,o,h=>by cases h
 |(i,o')::r,h,id,o,ho=>by
  simp only[aB.get]at ho;cases e:Nat.beq i id with
  |true=>rw[e]at ho;cases ho;rw[<-Nat.eq_of_beq_eq_true e];exact h.1
  |false=>rw[e]at ho;exact h.2.sub id o ho
theorem eX(D H:aB)(k:Nat):aB.get (D++H) k=match D.get k with|some v=>some v|none=>H.get k:=BS D H k
theorem aH.frame{f:FuncId}{args:List AV}{H0 H1:aB}{r0:AV}(h:aH P f args H0 (fun r H'=>r=r0/\H'=H1))(hs:Sub H0 H)(hc:dF H0)(ha:∀a∈args,Clo H0 a)
  (hk:∀id,(H1.get id).isSome=true->(H0.get id).isSome=true\/H.get id=none):aH P f args H (fun r H'=>r=r0/\H'=H1++H):=by
 intro I ι w vs hr hl hv;refine(h I ι w vs (hr.restrict hs hc) hl (fun i v a h1 h2=>(hv i v a h1 h2).restrict hs (ha a (aOF h2)))).mono ?_;rintro e w' ⟨r,H',I',ι',v,rfl,⟨rfl,rfl⟩,k1,k2,k3⟩;obtain ⟨ι2,hι2⟩:∃ι2:dX,ι2=(fun j=>if(H'.get j).isSome=true then ι' j else ι j):=⟨_,rfl⟩;have i1:∀j o,H'.get j=some o->ι2 j=ι' j:=fun j o hj=>by rw[hι2];simp[hj]
 have i2:∀j,H'.get j=none->ι2 j=ι j:=fun j hj=>by rw[hι2];simp[hj]
 have g1:∀j o,H'.get j=some o->aB.get (H'++H) j=some o:=fun j o hj=>by rw[eX,hj]
 have g2:∀j,H'.get j=none->aB.get (H'++H) j=H.get j:=fun j hj=>by rw[eX,hj]
 have hfr:∀j o,H.get j=some o->H'.get j=none->H0.get j=none:=fun j o hj hn=>by
  cases e:H0.get j with
  |none=>rfl
  |some o0 =>
   obtain ⟨o',e1,_⟩:=k3.objs j o0 e;rw[hn]at e1;cases e1
 have hno:∀j o b c,H.get j=some o->H'.get j=none->ι j=some (b,c)->¬ H9 ι H0 b:=fun j o b c hj hn hb ⟨j',o',c',hj',hb'⟩=>by
  have:=hr.inj j j' o o' b c c' hj (hs _ _ hj') hb hb';subst this;rw[hfr j o hj hn]at hj';cases hj'
 have hst:Step I ι H w I' ι2 (H'++H) w':=by
  refine⟨k3.os,k3.tape,k3.output,k3.size,fun a ha hn=>k3.froz a ha (fun h=>hn (h.sub hs)),k3.imm,fun b hb=>?_,?_,?_,?_⟩
  ·rcases k3.immNew b hb with h1|h1|h1
   ·exact .inl h1
   ·exact .inr (.inl (h1.sub hs))
   exact .inr (.inr h1)
  ·rintro b ⟨j,o,c,hj,hc⟩;cases e:H'.get j with
   |some o' =>
    rw[i1 j o' e]at hc;rcases k3.own b ⟨j,o',c,e,hc⟩with h1|h1
    ·exact .inl (h1.sub hs)
    exact .inr h1
   |none =>
    rw[i2 j e]at hc;rw[g2 j e]at hj;exact .inl ⟨j,o,c,hj,hc⟩
  ·intro b hb hn;exact k3.keep b hb (fun h=>hn (h.sub hs))
  intro j o hj;cases e:H'.get j with
  |some o' =>
   rcases hk j (by rw[e];rfl)with h1|h1
   ·obtain ⟨o0,e0⟩:=Option.isSome_iff_exists.1 h1;have:=hs _ _ e0;rw[hj]at this;cases this;obtain ⟨o2,q1,q2,q3⟩:=k3.objs j o e0;exact⟨o2,g1 j o2 q1,q2,fun e=>by rw[i1 j o2 q1];exact q3 e⟩
   rw[hj]at h1;cases h1
  |none=>exact⟨o,(g2 j e).trans hj,aOB _,fun _=>⟨i2 j e,rfl,fun _=>aOB _⟩⟩
 have hv':∀ {v:Value} {a:AV},VRel w' I' ι' H' v a->VRel w' I' ι2 (H'++H) v a:=fun hva =>
  hva.mono' (fun _ _=>rfl) (fun _ h=>h) (fun id o ho=>⟨o,g1 id o ho,aOB _,fun _=>⟨i1 id o ho,rfl,fun _=>aOB _⟩⟩)
 refine⟨r,H'++H,I',ι2,v,rfl,⟨rfl,rfl⟩,hv' k1,⟨k2.imm,fun j o hj=>?_,fun j j' o o' b c c' hj hj' hc hc'=>?_,k2.glob⟩,hst⟩
 ·cases e:H'.get j with
  |some o' =>
   rw[g1 j o' e]at hj;obtain rfl:o'=o:=Option.some.inj hj;exact(k2.obj j o' e).keep (i1 j o' e) (fun _ _ _ _=>⟨rfl,fun h=>h⟩) (fun r _ a _ v hv=>hv' hv)
  |none =>
   rw[g2 j e]at hj;refine(hr.obj j o hj).keep (i2 j e) (fun b' cap' e1 hlt=>⟨k3.keep b' hlt (hno j o b' cap' hj e e1),fun e3 hi=>?_⟩) (fun r _ a _ v hv=>hv.mono hr hst);rcases k3.immNew b' hi with h1|h1|h1
   ·exact e3 h1
   ·exact hno j o b' cap' hj e e1 h1
   omega
 cases e:H'.get j with
 | some q =>
  rw[i1 j q e]at hc;cases e':H'.get j' with
  |some q' =>
   rw[i1 j' q' e']at hc';exact k2.inj j j' q q' b c c' e e' hc hc'
  |none =>
   rw[i2 j' e']at hc';rw[g2 j' e']at hj';have hlt:=hr.lt ⟨j',o',c',hj',hc'⟩;rcases k3.own b ⟨j,q,c,e,hc⟩with h1|h1
   ·exact absurd h1 (hno j' o' b c' hj' e' hc')
   omega
 | none =>
  rw[i2 j e]at hc;rw[g2 j e]at hj;cases e':H'.get j' with
  |some q' =>
   rw[i1 j' q' e']at hc';have hlt:=hr.lt ⟨j,o,c,hj,hc⟩;rcases k3.own b ⟨j',q',c',e',hc'⟩with h1|h1
   ·exact absurd h1 (hno j o b c hj e hc)
   omega
  |none =>
   rw[i2 j' e']at hc';rw[g2 j' e']at hj';exact hr.inj j j' o o' b c c' hj hj' hc hc'
section
structure KeyKind(α:Type) where
 d:TypeDesc
 pv:α->PV
 val:α->Value
 rel:∀(w:World) (I:Nat->Prop) (v:Value) (a:α),PRep w I v (pv a)->v=val a
 inj:∀a b,val a=val b->a=b
 is:∀a,MapKept.IsKey d (val a)
 rep:∀(w:World) (I:Nat->Prop) (a:α),PRep w I (val a) (pv a)
def W7:KeyKind ByteArray:=⟨.string,.str,.string,fun _ _ _ _ h=>by cases h;rfl,fun _ _ h=>by cases h;rfl,fun _=>trivial,fun _ _ _=>.str _⟩
def aEx:KeyKind Bool:=⟨.bool,.bool,.bool,fun _ _ _ _ h=>by cases h;rfl,fun _ _ h=>by cases h;rfl,fun _=>trivial,fun _ _ _=>.bool _⟩
def pE{α:Type}(κ:KeyKind α)(l:List (α×AV)):List (List AV):=l.mapIdx fun i p=>[.pv (κ.pv p.1),p.2,.pv (.int .i64 i)]
theorem GD{α:Type}{κ:KeyKind α}{l:List (α×AV)}{r:List AV}:(pE κ l)[i]?=some r↔∃p,l[i]?=some p/\r=[.pv (κ.pv p.1),p.2,.pv (.int .i64 i)]:=by
 rw[pE,List.getElem?_mapIdx];cases l[i]? with
 |none=>simp
 |some p=>simp[eq_comm]
theorem EL{α:Type}(κ:KeyKind α)(l:List (α×AV)):(pE κ l).length=l.length:=by simp[pE]
theorem aAB{α:Type}{κ:KeyKind α}{v:Value}{k:α}(h:VRel w I ι H v (.pv (κ.pv k))):v=κ.val k:=κ.rel _ _ _ _ h.pv_inv
section
variable{α:Type}
structure MapAt(w:World)(I:Nat->Prop)(ι:dX)(H:aB)(κ:KeyKind α)(l:List (α×AV))(es:Array MapEntry):Prop where
 size:es.size=l.length
 rel:∀(i:Nat) (p:α×AV),l[i]?=some p->∃e,es[i]?=some e/\e.born=i/\e.key=κ.val p.1/\VRel w I ι H e.val p.2
theorem aDy{b:Nat}{κ:KeyKind α}{l:List (α×AV)}(h:jV w I ι H id ob)(hz:ob.sz=0)(hι:ι id=some (b,0))(hrows:ob.rows=pE κ l):
  ∃es,w.heap[b]?=some (.map es ob.ty)/\¬ I b/\MapAt w I ι H κ l es:=by
 obtain ⟨_,b',es,e1,e2,e3,e4,e5,e6,e7⟩:=h.map hz hι;rw[hι]at e1;cases e1;refine⟨es,e2,e3,⟨by rw[e4,hrows,EL],fun i p hp=>?_⟩⟩;obtain ⟨e,k,a,n,q1,q2,q3,q4,q5⟩:=e7 i _ (by rw[hrows];exact GD.2 ⟨p,hp,rfl⟩);cases q2;exact⟨e,q1,by injection q5.int_inv with _ hh;omega,κ.rel _ _ _ _ q3.pv_inv,q4⟩
theorem MapAt.born{κ:KeyKind α}{l:List (α×AV)}{es:Array MapEntry}(h:MapAt w I ι H κ l es){e:MapEntry}(hi:es[i]?=some e):e.born=i/\i<l.length:=by
 have hlt:i<l.length:=by rw[<-h.size];exact(Array.getElem?_eq_some_iff.1 hi).1
 obtain ⟨e',q1,q2,_⟩:=h.rel i l[i] (aOA hlt);rw[hi]at q1;cases q1;exact⟨q2,hlt⟩
section
variable{id b cap:Nat}
def World.setObj(w:World)(b:Nat)(x:Obj):World:={w with heap:=w.heap.setIfInBounds b x}
def R6:Obj->Bool
 |.cells ..=>true
 |_=>false
theorem Rel.rewrite{x0:Obj}(hr:Rel I ι H w)(hH:H.get id=some ob)(hι:ι id=some (b,cap))(hz:ob.sz=0)(hb:w.heap[b]?=some x0)(h0:R6 x0=false)(hx:R6 x=false)(hg:ob'.g=ob.g)(hz':ob'.sz=0)
  (hnew:w.heap.size=(World.setObj w b x).heap.size->(World.setObj w b x).heap[b]?=some x->¬ I b->(∀v a,VRel w I ι H v a->VRel (World.setObj w b x) I ι H' v a)->jV (World.setObj w b x) I ι H' id ob')
  (h1:H'.get id=some ob') (h2:∀j,j≠id->H'.get j=H.get j):Rel I ι H' (World.setObj w b x)/\Step I ι H w I ι H' (World.setObj w b x):=by
 have hown:H9 ι H b:=⟨id,ob,cap,hH,hι⟩;obtain ⟨hs1,hs2⟩:=MapKept.heap_set (w:=w) (o':=x) hb;have hst:Step I ι H w I ι H' (World.setObj w b x):=by
  refine⟨rfl,rfl,rfl,by simp[World.setObj],fun a _ _=>?_,fun _ h=>h,fun _ h=>.inl h,?_,?_,?_⟩
  ·by_cases e:a.block=b
   ·simp only[World.frozen?,World.setObj,e,hs1,hb];cases x<;>cases x0<;>first|rfl|(simp[R6]at hx h0)
   simp[World.frozen?,World.setObj,hs2 _ e]
  ·rintro y ⟨j,o,c,hj,hc⟩;by_cases e:j=id
   ·subst e;exact .inl ⟨j,ob,c,hH,hc⟩
   exact .inl ⟨j,o,c,(h2 j e).symm.trans hj,hc⟩
  ·intro y _ hy;exact hs2 y (fun e=>hy (e▸hown))
  intro j o hj;by_cases e:j=id
  ·subst e;rw[hH]at hj;cases hj;exact⟨ob',h1,by omega,fun _=>⟨rfl,by omega,fun h=>by omega⟩⟩
  exact⟨o,(h2 j e).trans hj,aOB _,fun _=>⟨rfl,rfl,fun _=>aOB _⟩⟩
 refine⟨⟨fun y hy=>by simpa[World.setObj]using hr.imm y hy,?_,?_,hst.glob hr⟩,hst⟩
 ·intro j o hj;by_cases e:j=id
  ·subst e;rw[h1]at hj;cases hj;exact hnew (by simp[World.setObj]) hs1 ((hr.obj j ob hH).block hι).2 (fun v a hv=>hv.mono hr hst)
  rw[h2 j e]at hj;exact(hr.obj j o hj).keep rfl (fun y c hy _=>⟨hs2 y (fun hbb=>e (hr.inj j id o ob b c cap hj hH (hbb▸hy) hι)),fun h=>h⟩) (fun r _ a _ v hv=>hv.mono hr hst)
 intro j j' o o' y c c' hj hj' hc hc';have key:∀j o,H'.get j=some o->∃o,H.get j=some o:=by
  intro j o hj;by_cases e:j=id
  ·exact⟨ob,e▸hH⟩
  exact⟨o,(h2 j e).symm.trans hj⟩
 obtain ⟨q,hq⟩:=key j o hj;obtain ⟨q',hq'⟩:=key j' o' hj';exact hr.inj j j' q q' y c c' hq hq' hc hc'
theorem Rel.remap{κ:KeyKind α}{l:List (α×AV)}{es0 es':Array MapEntry}{c0:Nat}(hr:Rel I ι H w)(hH:H.get id=some ob)(hι:ι id=some (b,0))(hz:ob.sz=0)(hb:w.heap[b]?=some (.map es0 c0))(hg:ob'.g=ob.g)(hz':ob'.sz=0)(hty:ob'.ty=l.length)(hrows:ob'.rows=pE κ l)
  (hm:MapAt w I ι H κ l es') (h1:H'.get id=some ob') (h2:∀j,j≠id->H'.get j=H.get j):Rel I ι H' (World.setObj w b (.map es' l.length))/\Step I ι H w I ι H' (World.setObj w b (.map es' l.length)):=by
 refine hr.rewrite hH hι hz hb rfl rfl hg hz' (fun _ hs1 hI hmono=>?_) h1 h2;refine .inr (.inl ⟨hz',b,es',hι,by rw[hty];exact hs1,hI,by rw[hm.size,hrows,EL],fun i e hi=>?_,fun i j e e' hij hi hj=>?_,fun i r hr'=>?_⟩)
 ·obtain ⟨q1,q2⟩:=hm.born hi;rw[q1,hty];exact q2
 ·have q1:=(hm.born hi).1;have q2:=(hm.born hj).1;omega
 rw[hrows]at hr';obtain ⟨p,hp,rfl⟩:=GD.1 hr';obtain ⟨e,q1,q2,q3,q4⟩:=hm.rel i p hp;exact⟨e,_,_,_,q1,rfl,by rw[q3];exact .pv (κ.rep _ _ p.1),hmono _ _ q4,by rw[q2];exact .pv (.int _ _)⟩
end
theorem aDx{v:Value}{g:Nat}(h:VRel w I ι H v (.mp id g))(hH:H.get id=some ob)(hg:ob.g=g):ob.sz=0/\∃b,ι id=some (b,0)/\v=.map (some b):=by
 cases h with
 |mp o' h1 h2 _ h3 =>
  rw[hH]at h1;cases h1;exact h3 hg
variable [DecidableEq α]
def NZ:List (α×AV)->α->Option AV
 | [],_=>none
 |(k',a)::r,k=>if k'=k then some a else NZ r k
def wI:List (α×AV)->α->AV->List (α×AV)
 | [],k,v=>[(k,v)]
 |(k',a)::r,k,v=>if k'=k then(k,v)::r else(k',a)::wI r k v
def aGu:List (α×AV)->α->List (α×AV)
 | [],_=>[]
 |(k',a)::r,k=>if k'=k then r else(k',a)::aGu r k
theorem SC{w:World}{I:Nat->Prop}{ι:dX}{H:aB}(κ:KeyKind α)(k:α):∀(l:List (α×AV)) (es:List MapEntry) (i:Nat),es.length=l.length->(∀(i:Nat) (p:α×AV),l[i]?=some p->∃e,es[i]?=some e/\e.key=κ.val p.1/\VRel w I ι H e.val p.2) ->
  (Instr.findNow κ.d (κ.val k) es i=some none/\NZ l k=none/\∀v,wI l k v=l++[(k,v)]) \/
  ∃j e a,Instr.findNow κ.d (κ.val k) es i=some (some (i+j,e.val))/\es[j]?=some e/\e.key=κ.val k/\NZ l k=some a/\VRel w I ι H e.val a/\l[j]?=some (k,a)/\(∀v,wI l k v=l.set j (k,v))/\aGu l k=l.eraseIdx j
 | [],[],i,_,_=>.inl ⟨rfl,rfl,fun _=>rfl⟩
 | (k',a)::l,e::es,i,hl,hr=>by
  obtain ⟨e0,z1,z2,z3⟩:=hr 0 (k',a) rfl;cases z1;obtain ⟨r,hr1,hiff⟩:=MapKept.sameNow_of_keys (κ.is k) (show MapKept.IsKey κ.d e.key by rw[z2];exact κ.is k');by_cases hk:k'=k
  ·subst hk;have hrt:r=true:=hiff.2 z2.symm;subst hrt;exact .inr ⟨0,e,a,by simp[Instr.findNow,hr1],rfl,z2,by simp[NZ],z3,rfl,fun v=>by simp[wI],by simp[aGu]⟩
  have hrf:r=false:=by
   cases r with
   |false=>rfl
   |true=>exact absurd (κ.inj _ _ ((hiff.1 rfl).trans z2)).symm hk
  subst hrf;rcases SC κ k l es (i+1) (by simpa using hl) (fun i p hp=>hr (i+1) p hp)with⟨h1,h2,h3⟩|⟨j,e',a',h1,h2,h3,h4,h5,h6,h7,h8⟩
  ·exact .inl ⟨by simp[Instr.findNow,hr1,h1],by simp[NZ,hk,h2],fun v=>by simp[wI,hk,h3]⟩
  exact .inr ⟨j+1,e',a',by simp[Instr.findNow,hr1,h1];omega,by simpa using h2,h3,by simp[NZ,hk,h4],h5,by simpa using h6,fun v=>by simp[wI,hk,h7],by simp[aGu,hk,h8]⟩
section
variable{N:Nat}{o:Oper}{E:bS}{T kt et:TypeId}{x y z:Operand}{κ:KeyKind α}{l:List (α×AV)}{id g:Nat}{k:α}
theorem KQ{zv:Value}{v0:AV}(ho:o.op=.lookup T x y false)(hT:P.underlying T=some (.map kt et))(hd:P.underlying kt=some κ.d)(hx:aO E x=some (.mp id g))(hH:H.get id=some ob)(hg:ob.g=g)
  (hrows:ob.rows=pE κ l) (hy:aO E y=some (.pv (κ.pv k))) (hz:∀w,(zeroValue et).run P w=.ok zv w) (hv:ZV zv v0):cH P N o E H ((NZ l k).getD v0) H :=
 .of_run fun a w I ι hr he=>by
  obtain ⟨hsz,b,hι,hvx⟩:=aDx (aI he hx) hH hg;obtain ⟨es,e2,e3,e4⟩:=aDy (hr.obj id ob hH) hsz hι hrows;have hvy:=aAB (aI he hy);rcases SC κ k l es.toList 0 (by simpa using e4.size) (fun i p hp=>let ⟨e,q1,_,q3⟩:=e4.rel i p hp;⟨e,by simpa using q1,q3⟩)with⟨h1,h2,h3⟩|⟨j,e,a',h1,h2,h3,h4,h5,_⟩
  ·refine⟨zv,?_,by rw[h2];exact hv.rel⟩;simp only[execOp,ho,hvx,hvy];simp[Instr.lookup,run_underlying hT,MapKept.run_getObj_map e2,MapKept.run_checkKey hd (κ.is k),MapKept.run_findKey hd h1,hz]
  refine⟨e.val,?_,by rw[h4];exact h5⟩;simp only[execOp,ho,hvx,hvy];simp[Instr.lookup,run_underlying hT,MapKept.run_getObj_map e2,MapKept.run_checkKey hd (κ.is k),MapKept.run_findKey hd h1]
theorem NM{H2:aB}(ho:o.op=.mapUpdate T x y z\/o.op=.insert T x y z)(hT:P.underlying T=some (.map kt et))(hd:P.underlying kt=some κ.d)(hx:aO E x=some (.mp id g))(hH:H.get id=some ob)(hg:ob.g=g)
  (hty:ob.ty=l.length) (hrows:ob.rows=pE κ l) (hy:aO E y=some (.pv (κ.pv k))) (hz:aO E z=some v) (hH2:H.set id {ob with ty:=(wI l k v).length,rows:=pE κ (wI l k v)}=H2):cH P N o E H .any H2:=by
 intro a w I ι _ _ hr he K Q hkk;obtain ⟨hsz,b,hι,hvx⟩:=aDx (aI he hx) hH hg;obtain ⟨es,e2,e3,e4⟩:=aDy (hr.obj id ob hH) hsz hι hrows;rw[hty]at e2;have hvy:=aAB (aI he hy);have hvz:=aI he hz;subst hH2;have fin:∀es',(Instr.mapUpdate T (a.eval x) (a.eval y) (a.eval z)).run P w=.ok () (World.setObj w b (.map es' (wI l k v).length))->MapAt w I ι H κ (wI l k v) es'->o.wpW P a w K Q:=by
  intro es' hrun hm;obtain ⟨k2,k3⟩:=Rel.remap (H':=H.set id {ob with ty:=(wI l k v).length,rows:=pE κ (wI l k v)}) (ob':={ob with ty:=(wI l k v).length,rows:=pE κ (wI l k v)}) hr hH hι hsz e2 rfl hsz rfl rfl hm (aB.get_set_same _ _ _) (fun j hj=>aB.get_set_other _ _ hj);unfold Oper.wpW execOp;rcases ho with ho|ho
  ·simp only[ho,Sem.run_bind,hrun,Result.andThen_ok,Sem.run_pure];exact hkk _ _ I ι _ _ ⟨rfl,rfl⟩ (.any _) k2 k3
  simp only[ho,Sem.run_bind,hrun,Result.andThen_ok,Sem.run_pure];exact hkk _ _ I ι _ _ ⟨rfl,rfl⟩ (.any _) k2 k3
 rcases SC κ k l es.toList 0 (by simpa using e4.size) (fun i p hp=>let ⟨e,q1,_,q3⟩:=e4.rel i p hp;⟨e,by simpa using q1,q3⟩)with⟨h1,h2,h3⟩|⟨j,e,a',h1,h2,h3,h4,h5,h6,h7,h8⟩
 ·refine fin (es.push {key:=κ.val k,val:=a.eval z,born:=l.length}) ?_ ⟨?_,?_⟩
  ·simp[Instr.mapUpdate,hvx,hvy,run_underlying hT,MapKept.run_getObj_map e2,MapKept.run_checkKey hd (κ.is k),MapKept.run_findKey hd h1,MapKept.run_setObj_map _ e2,World.setObj,h3]
  ·rw[h3];simp[e4.size]
  intro i p hp;rw[h3]at hp;by_cases hi:i<l.length
  ·rw[List.getElem?_append_left hi]at hp;obtain ⟨e,q1,q2⟩:=e4.rel i p hp;exact⟨e,by rw[Array.getElem?_push,aNt (by rw[e4.size];omega)];exact q1,q2⟩
  rw[List.getElem?_append_right (by omega)]at hp;cases hil:i - l.length with
  |zero =>
   rw[hil]at hp;cases hp;exact⟨_,by rw[Array.getElem?_push,aNu (by rw[e4.size];omega)],by show l.length=i;omega,rfl,hvz⟩
  |succ m=>rw[hil]at hp;simp at hp
 have hj:es[j]?=some e:=by simpa using h2
 have hjl:j<es.size:=(Array.getElem?_eq_some_iff.1 hj).1;have hln:(wI l k v).length=l.length:=by rw[h7];simp
 refine fin (es.modify j fun e=>{e with key:=κ.val k,val:=a.eval z}) ?_ ⟨?_,?_⟩
 ·simp[Instr.mapUpdate,hvx,hvy,run_underlying hT,MapKept.run_getObj_map e2,MapKept.run_checkKey hd (κ.is k),MapKept.run_findKey hd h1,hj,h3,MapKept.run_keyThatStays (κ.is k),MapKept.run_setObj_map _ e2,World.setObj,hln]
 ·rw[h7];simp[e4.size]
 intro i p hp;rw[h7]at hp;by_cases e:i=j
 ·subst e;rw[List.getElem?_set_self (by rw[<-e4.size];exact hjl)]at hp;cases hp;exact⟨{e with key:=κ.val k,val:=a.eval z},by rw[Array.getElem?_modify,aNu rfl,hj];rfl,(e4.born hj).1,rfl,hvz⟩
 rw[List.getElem?_set_ne (Ne.symm e)]at hp;obtain ⟨e',q1,q2⟩:=e4.rel i p hp;exact⟨e',by rw[Array.getElem?_modify,aNt (Ne.symm e)];exact q1,q2⟩
theorem Rel.placeX{cap:Nat}{x:Obj}(hr:Rel I ι H w)(hos:w'.os=w.os)(htape:w'.tape=w.tape)(hout:w'.output=w.output)(hw:w'.heap=w.heap.push x)
  (hold:∀o,H.get id=some o->o.g<ob'.g)
  (hobj:w'.heap[w.heap.size]?=some x->¬ I w.heap.size->(∀v a,VRel w I ι H v a->VRel w' I (fun j=>if j=id then some (w.heap.size,cap)else ι j) H' v a)->jV w' I (fun j=>if j=id then some (w.heap.size,cap)else ι j) H' id ob')
  (h1:H'.get id=some ob') (h2:∀j,j≠id->H'.get j=H.get j) :
  Rel I (fun j=>if j=id then some (w.heap.size,cap)else ι j) H' w'/\Step I ι H w I (fun j=>if j=id then some (w.heap.size,cap)else ι j) H' w':=by
 have hnew:w'.heap[w.heap.size]?=some x:=by rw[hw];simp
 have holdb:∀x,x<w.heap.size->w'.heap[x]?=w.heap[x]?:=fun x hx=>by rw[hw,Array.getElem?_push,aNt (Nat.ne_of_lt hx)]
 have hsize:w'.heap.size=w.heap.size+1:=by rw[hw];simp
 have hst:Step I ι H w I (fun j=>if j=id then some (w.heap.size,cap)else ι j) H' w':=by
  refine⟨hos,htape,hout,by omega,fun a ha _=>?_,fun _ h=>h,fun _ h=>.inl h,?_,fun x hx _=>holdb x hx,?_⟩
  ·simp[World.frozen?,holdb a.block ha]
  ·rintro x ⟨j,o,c,hj,hc⟩;by_cases e:j=id
   ·simp only[e,if_true]at hc;cases hc;exact .inr (aOB _)
   simp only[e,if_false]at hc;exact .inl ⟨j,o,c,(h2 j e).symm.trans hj,hc⟩
  intro j o hj;by_cases e:j=id
  ·subst e;have:=hold o hj;exact⟨ob',h1,by omega,fun e=>by omega⟩
  exact⟨o,(h2 j e).trans hj,aOB _,fun _=>⟨by simp[e],rfl,fun _=>aOB _⟩⟩
 refine⟨⟨fun x hx=>by have:=hr.imm x hx;omega,?_,?_,hst.glob hr⟩,hst⟩
 ·intro j o hj;by_cases e:j=id
  ·subst e;rw[h1]at hj;cases hj;exact hobj hnew (fun hi=>Nat.lt_irrefl _ (hr.imm _ hi)) (fun v a hv=>hv.mono hr hst)
  rw[h2 j e]at hj;exact(hr.obj j o hj).keep (by simp[e]) (fun x c _ hx=>⟨holdb x hx,fun h=>h⟩) (fun r _ a _ v hv=>hv.mono hr hst)
 intro j j' o o' x c c' hj hj' hc hc';by_cases e:j=id<;>by_cases e':j'=id
 ·rw[e,e']
 ·simp only[e,if_true]at hc;simp only[e',if_false]at hc';cases hc;have:=hr.lt ⟨j',o',c',(h2 j' e').symm.trans hj',hc'⟩;exact absurd this (Nat.lt_irrefl _)
 ·simp only[e,if_false]at hc;simp only[e',if_true]at hc';cases hc';have:=hr.lt ⟨j,o,c,(h2 j e).symm.trans hj,hc⟩;exact absurd this (Nat.lt_irrefl _)
 simp only[e,if_false]at hc;simp only[e',if_false]at hc';exact hr.inj j j' o o' x c c' ((h2 j e).symm.trans hj) ((h2 j' e').symm.trans hj') hc hc'
theorem Rel.placeM(hr:Rel I ι H w)(hos:w'.os=w.os)(htape:w'.tape=w.tape)(hout:w'.output=w.output)(hw:w'.heap=w.heap.push (.map #[] 0))
  (hold:∀o,H.get id=some o->o.g<ob'.g) (hsz:ob'.sz=0) (hty:ob'.ty=0) (hrows:ob'.rows=[]) (h1:H'.get id=some ob') (h2:∀j,j≠id->H'.get j=H.get j) :
  Rel I (fun j=>if j=id then some (w.heap.size,0)else ι j) H' w'/\Step I ι H w I (fun j=>if j=id then some (w.heap.size,0)else ι j) H' w' :=
 hr.placeX hos htape hout hw hold (fun hnew hI _=>.inr (.inl ⟨hsz,w.heap.size,#[],by simp,by rw[hty];exact hnew,hI,by rw[hrows];rfl,by simp,by simp,by rw[hrows];simp⟩)) h1 h2
theorem aHE{gg:Nat}(hr:Rel I ι H w)(hid:∀o,H.get id=some o->o.g<gg):
  ∃ι',VRel (w.alloc (.map #[] 0)) I ι' ((id,⟨gg,0,0,[]⟩)::H) (.map (some w.heap.size)) (.mp id gg)/\Rel I ι' ((id,⟨gg,0,0,[]⟩)::H) (w.alloc (.map #[] 0))/\Step I ι H w I ι' ((id,⟨gg,0,0,[]⟩)::H) (w.alloc (.map #[] 0)):=by
 obtain ⟨h1,h2⟩:=Rel.placeM (H':=(id,⟨gg,0,0,[]⟩)::H) (id:=id) (ob':=⟨gg,0,0,[]⟩) (w':=w.alloc (.map #[] 0)) hr rfl rfl rfl rfl hid rfl rfl rfl (get_cons_same _ _ _) (fun j hj=>get_cons_other _ _ hj);exact⟨_,.mp ⟨gg,0,0,[]⟩ (get_cons_same _ _ _) (aOB _) rfl fun _=>⟨rfl,w.heap.size,by simp,rfl⟩,h1,h2⟩
theorem HN{α:Type}(κ:KeyKind α)(ho:o.op=.makeMap T none)(hid:H.get id=none):cH P N o E H (.mp id 0) ((id,⟨0,0,([]:List (α×AV)).length,pE κ []⟩)::H):=by intro a w I ι _ _ hr he K Q hk;obtain ⟨ι',h1,h2,h3⟩:=aHE (id:=id) (gg:=0) hr (fun o ho=>by rw[hid]at ho;cases ho);unfold Oper.wpW execOp;simp only[ho,Instr.makeMap,Option.map_none,Sem.run_bind,run_newObj,Sem.run_pure,Result.andThen_ok];exact hk _ _ I ι' _ _ ⟨rfl,rfl⟩ h1 h2 h3
theorem HF{l':List (α×AV)}(ho:o.op=.mapUpdate T x y z\/o.op=.insert T x y z)(hT:P.underlying T=some (.map kt et))(hd:P.underlying kt=some κ.d)(hx:aO E x=some (.mp id g))(hH:H.get id=some ob)(hg:ob.g=g)
  (hty:ob.ty=l.length) (hrows:ob.rows=pE κ l) (hy:aO E y=some (.pv (κ.pv k))) (hz:aO E z=some v) (hr:wI l k v=l'):cH P N o E H .any ((id,⟨g,ob.sz,l'.length,pE κ l'⟩)::H):=by
 subst hg hr;exact(NM ho hT hd hx hH rfl hty hrows hy hz rfl).congr (sX _ _ _)
end
end
end
section
section
variable{N:Nat}{o:Oper}{E:bS}{f:Operand}{args:Array Operand}{at_:Array TypeId}{F:FuncId}{fn:Func}{e:Array Value->Sem Value}{vs:List AV}{r:AV}
def aHw(P:Program)(e:Array Value->Sem Value)(H:aB)(vs:List AV)(r:AV):Prop :=∀(w:World) (I:Nat->Prop) (ι:dX) (cs:Array Value),cs.size=vs.length->(∀(i:Nat) (v:Value) (a:AV),cs[i]?=some v->vs[i]?=some a->VRel w I ι H v a)->∃c,(e cs).run P w=.ok c w/\VRel w I ι H c r
theorem IZ(ho:o.op=.call {callee:=.value f,args:=args,argTypes:=at_})(hf:aO E f=some (.pv (.fn F)))(hF:P.funcs[F]?=some fn)(hname:(fn.name == "runtime.NumGoroutine")=false)
  (hb:fn.body.isNone=true) (hn:Extern.findNext fn=none) (he:Extern.find fn=some e) (hv:uZ E args.toList=some vs) (h:aHw P e H vs r):cH P N o E H r H :=
 .of_run fun a w I ι hr hE=>by
  have hfv:=(aI hE hf).fn_inv;obtain ⟨h1,h2⟩:=lZ hE (kO hv);obtain ⟨c,hc,hcr⟩:=h w I ι (args.map a.eval) (by simpa using h1) (fun i v b hv hb=>h2 i v b (by simpa using hv) hb);refine⟨c,?_,hcr⟩;unfold execOp;simp only[ho,resolve,hfv,Deferred.ofValue,Sem.run_bind,Sem.run_pure,Result.andThen_ok,invoke,Array.empty_append,Array.append_empty,run_callFunc_extern hF hname hb hn he,hc]
theorem TK{x y:AV}{cs:Array Value}(hl:cs.size=[x,y].length)(h:∀(i:Nat) (v:Value) (a:AV),cs[i]?=some v->[x,y][i]?=some a->VRel w I ι H v a):∃u v,cs=#[u,v]/\VRel w I ι H u x/\VRel w I ι H v y:=by
 obtain ⟨l⟩:=cs
 match l,hl with
 | [u,v],_=>exact⟨u,v,rfl,h 0 u x rfl rfl,h 1 v y rfl rfl⟩
theorem N2(s:ByteArray)(c:Int):aHw P Extern.BytealgIndexByte.indexByte H [.pv (.str s),.pv (.int .u8 c)] (.pv (.int .i64 (Lib.indexByte s.data.toList c.toNat.toUInt8))):=by intro w I ι cs hl h;obtain ⟨u,v,rfl,h1,h2⟩:=TK hl h;rw[h1.str_inv,h2.int_inv];exact⟨_,Lib.run_indexByteString s c w,.pv (.int _ _)⟩
end
theorem yT{G0:aB}{N:Nat}{ops:Array Oper}{K:bS->aB->Prop}{E:bS}{l:List Oper}{t:Tmp}(hb:E.get t=some v)(h:AL P G0 N ops K l ((t,v)::E) H):AL P G0 N ops K l E H:=by
 intro G hG a w hs;refine h G hG a w (cD.sub (G0:=G0) (fun k u hk=>?_) G hG N a w hs);by_cases e:t=k
 ·subst e;rw[bS.get_cons_same]at hk;rw[hb,hk]
 rwa [bS.get_cons_other _ _ e]at hk
end
end Go.Abs
namespace Go.Proofs.YtmdicgjnmfolfaaGreatDoor
open Go.Proofs.Tryz
open Go.Abs
variable{c n k:Nat}{p:Nat->Bool}{α:Type}
theorem vB(s:ByteArray)(c:Int)(H:aB):aH Tryz.prog 180 [.pv (.str s),.pv (.int .u8 c)] H (fun r H'=>r=.pv (.int .i64 (Lib.indexByte s.data.toList c.toNat.toUInt8))/\H'=H):=by refine Pu ?_;exact Bd func180 rfl ntmps180<|Sr<|Dd aM<|Zz<|Sr<|Dd aG<|Dd aG<|Dd (by exact IZ rfl rfl func214 rfl rfl rfl rfl rfl (N2 s c))<|Dd aM<|Zz<|aE<|Rt<|Qq
theorem oC(s:ByteArray)(c:Int)(H:aB):aH Tryz.prog 140 [.pv (.str s),.pv (.int .u8 c)] H (fun r H'=>r=.pv (.int .i64 (Lib.indexByte s.data.toList c.toNat.toUInt8))/\H'=H):=by refine Pu ?_;exact Bd func140 rfl ntmps140<|Sr<|Dd aM<|Zz<|Sr<|Dd aG<|Dd aG<|Dd (by exact aA rfl rfl aNQ rfl (vB s c _))<|Dd aM<|Zz<|aE<|Rt<|Qq
abbrev aIp:ByteArray:=⟨#[32,9,10]⟩
abbrev aMe:ByteArray:=⟨#[59,44,46,58,40,41,123,125,91,93,61,60,62,47,45]⟩
def YP(s:ByteArray)(n:Int):Bool:=decide (0<=Lib.indexByte s.data.toList n.toNat.toUInt8)
def LH(n:Int):Bool:=(decide (97<=n)&&decide (n<=122))||(decide (65<=n)&&decide (n<=90))
def U3(n:Int):Bool:=decide (48<=n)&&decide (n<=57)
def B5(n:Int):Int:=if LH n then 3 else if U3 n then 4 else if YP aIp n then 1 else if YP aMe n then 6 else 0
def E9(n:Int):Int:=if n=34 then 7 else if n=95 then 5 else if n=35 then 2 else B5 n
def mU(c:Nat):List AV:=(List.range 256).map fun(i:Nat)=>.pv (.int .u8 (if i<c then B5 i else 0))
def rF:List AV:=(List.range 256).map fun(i:Nat)=>.pv (.int .u8 (E9 i))
theorem gZ(c:Nat):(mU c).length=256:=by simp[mU]
theorem pQ(hc:c<256){v:Int}(hv:B5 c=v):(mU c).set c (.pv (.int .u8 v))=mU (c+1):=by
 apply List.ext_getElem
 ·simp[mU]
 intro i h1 h2;simp only[mU,aNv,List.length_range]at h2;rw[List.getElem_set]
 split
 ·next e=>subst e;simp[mU,hv]
 next e=>simp only[mU,List.getElem_map,List.getElem_range];congr 2;by_cases h:i<c<;>by_cases h':i<c+1<;>simp[h,h']<;>omega
theorem VX(hc:c<256)(hv:B5 c=0):mU c=mU (c+1):=by
 rw[<-pQ hc hv];apply List.ext_getElem
 ·simp
 intro i h1 h2;rw[List.getElem_set]
 split
 ·next e=>subst e;simp[mU]
 rfl
theorem VW:List.replicate 256 (.pv (.int .u8 0))=mU 0:=by kernel_rfl
theorem VY:(((mU 256).set 35 (.pv (.int .u8 2))).set 95 (.pv (.int .u8 5))).set 34 (.pv (.int .u8 7))=rF:=by kernel_rfl
theorem Y5{m:Nat}(h:m<256):rF[m]?=some (.pv (.int .u8 (E9 m))):=by simp[rF,h]
theorem lM(c:Nat)(H:aB):∀r∈[mU c],∀a∈r,Clo H a:=by intro r hr a ha;rw[aNy]at hr;subst hr;obtain ⟨i,_,rfl⟩:=List.mem_map.1 ha;simp
theorem VV(H:aB):Clo H (.agg rF):=by rw[SK];intro a ha;obtain ⟨i,_,rfl⟩:=List.mem_map.1 ha;simp
theorem ZI:dM Tryz.prog 158 (List.replicate 256 (.pv (.int .u8 0))):=⟨_,.agg (List.replicate 256 (.pv (.int .u8 0))),zeroValue158,.inl (by kernel_rfl),rfl⟩
theorem QD (H:aB):aH Tryz.prog 123 [] H (fun r H'=>r=.agg rF/\H'=H):=by
  refine Pu ?_;refine Bd func123 rfl ntmps123<|Sr<|Dd (by exact bM (id:=0) rfl ZI rfl rfl)<|Zz<|Sr<|Dd (by exact bM (id:=1) rfl ZI rfl rfl)<|Zz<|Sq<|Sr<|Dd aG<|Zz<|aD ?_;rw[VW];refine bL (σ:=Nat) (fun c=>([(0,.ref 0 0 0 0),(1,.ref 1 0 0 0),(4,iv (c:Int))],[(1,bx 256 158 (mU c)),(0,bx 256 158 (mU 0))])) (fun c=>c<=256) (fun c=>256 - c) 0 (by omega) ?_ ?_
  · exact(cD.wk (Ea<|Ea<|Eb<|trivial) (Hc (lM _ _)<|Hc (lM _ _)<|trivial) trivial)
  · intro c hc
    refine Sr<|Dd cP<|Zz<|Sq ?_;refine Cn ?_ ?_<;>intro hc1
    · have hlt:c<256:=by have:=aNr hc1;omega
      refine aF<|Sq<|aD<|Sr<|Dd aG<|Dd aM<|Zz<|Sr<|Dd aG<|Dd (by exact fP rfl underlying3 dU rfl (by exact wu8 (by omega) (by omega)))<|Dd aM<|Zz<|aD<|Sq<|Sq ?_;refine bF (t:=9) (n:=8) (X:=decide (97<=(c:Int))&&decide ((c:Int)<=122)) ?_ ?_
      · all_goals refine Dd aG ?_
        all_goals refine Dd TA<|Dm ?_
        all_goals refine Sp 12 (fun h12=>?_) fun h12=>?_
        all_goals try contradiction
        all_goals first|refine Fo<|Fo ?_|refine On aG<|On TA ?_
        all_goals refine Dd cN<|Da ?_
        all_goals(exact⟨⟨_,rfl,by(simp only[*,Zo];done)⟩,rfl,rfl,rfl⟩)
      refine Cn ?_ ?_<;>intro hc2
      · have hv:B5 c=3:=by rw[B5,LH,hc2];rfl
        refine aF ?_;refine Cn ?_ ?_<;>intro hc3
        · skip
          refine Rg<|Dd aG<|Dd (by exact dG (k2:=c) rfl eS bV rfl rfl rfl rfl (by omega) (by exact aOG _) (by omega) (by omega))<|Uu (by exact bD rfl bV rfl rfl rfl rfl rfl rfl (by rw[gZ];omega) (pQ hlt hv) rfl)<|Zz<|Rg<|Dd qV<|Dd aG<|Zz ?_;exact⟨c+1,by omega,by omega,(cD.wk (Ea<|Ea<|Eb<|trivial) (Hc (lM _ _)<|Hc (lM _ _)<|trivial) trivial)⟩
        · rw[hc2]at hc3;cases hc3
      · skip
        refine bF (t:=9) (n:=8) (X:=decide (65<=(c:Int))&&decide ((c:Int)<=90)) ?_ ?_
        · all_goals refine Dd aG ?_
          all_goals refine Dd TA<|Dm ?_
          all_goals refine Sp 18 (fun h18=>?_) fun h18=>?_
          all_goals try contradiction
          all_goals first|refine Fo<|Fo ?_|refine On aG<|On TA ?_
          all_goals refine Dd cN<|Da ?_
          all_goals(exact⟨⟨_,rfl,by(simp only[*,Zo];done)⟩,rfl,rfl,rfl⟩)
        refine Cn ?_ ?_<;>intro hc4
        · have hv:B5 c=3:=by rw[B5,LH,hc2,hc4];rfl
          refine Rg<|Dd aG<|Dd (by exact dG (k2:=c) rfl eS bV rfl rfl rfl rfl (by omega) (by exact aOG _) (by omega) (by omega))<|Uu (by exact bD rfl bV rfl rfl rfl rfl rfl rfl (by rw[gZ];omega) (pQ hlt hv) rfl)<|Zz<|Rg<|Dd qV<|Dd aG<|Zz ?_;exact⟨c+1,by omega,by omega,(cD.wk (Ea<|Ea<|Eb<|trivial) (Hc (lM _ _)<|Hc (lM _ _)<|trivial) trivial)⟩
        · skip
          refine Sq ?_;refine bF (t:=24) (n:=8) (X:=decide (48<=(c:Int))&&decide ((c:Int)<=57)) ?_ ?_
          · all_goals refine Dd aG ?_
            all_goals refine Dd TA<|Dm ?_
            all_goals refine Sp 27 (fun h27=>?_) fun h27=>?_
            all_goals try contradiction
            all_goals first|refine Fo<|Fo ?_|refine On aG<|On TA ?_
            all_goals refine Dd cN<|Da ?_
            all_goals(exact⟨⟨_,rfl,by(simp only[*,Zo];done)⟩,rfl,rfl,rfl⟩)
          refine Cn ?_ ?_<;>intro hc5
          · have hv:B5 c=4:=by rw[B5,LH,hc2,hc4,U3,hc5];rfl
            refine Rg<|Dd aG<|Dd (by exact dG (k2:=c) rfl eS bV rfl rfl rfl rfl (by omega) (by exact aOG _) (by omega) (by omega))<|Uu (by exact bD rfl bV rfl rfl rfl rfl rfl rfl (by rw[gZ];omega) (pQ hlt hv) rfl)<|Zz<|Rg<|Dd qV<|Dd aG<|Zz ?_;exact⟨c+1,by omega,by omega,(cD.wk (Ea<|Ea<|Eb<|trivial) (Hc (lM _ _)<|Hc (lM _ _)<|trivial) trivial)⟩
          · skip
            refine Sr<|Dd aG<|Dd (by exact aA rfl rfl vV rfl (oC _ _ _))<|Dd LN<|Da ?_;refine Cn ?_ ?_<;>intro hc6
            · have hv:B5 c=1:=by rw[B5,LH,hc2,hc4,U3,hc5,YP,hc6];rfl
              refine Rg<|Dd aG<|Dd (by exact dG (k2:=c) rfl eS bV rfl rfl rfl rfl (by omega) (by exact aOG _) (by omega) (by omega))<|Uu (by exact bD rfl bV rfl rfl rfl rfl rfl rfl (by rw[gZ];omega) (pQ hlt hv) rfl)<|Zz<|Rg<|Dd qV<|Dd aG<|Zz ?_;exact⟨c+1,by omega,by omega,(cD.wk (Ea<|Ea<|Eb<|trivial) (Hc (lM _ _)<|Hc (lM _ _)<|trivial) trivial)⟩
            · skip
              refine Sr<|Dd aG<|Dd (by exact aA rfl rfl vV rfl (oC _ _ _))<|Dd LN<|Da ?_;refine Cn ?_ ?_<;>intro hc7
              · have hv:B5 c=6:=by rw[B5,LH,hc2,hc4,U3,hc5,YP,hc6,YP,hc7];rfl
                refine Rg<|Dd aG<|Dd (by exact dG (k2:=c) rfl eS bV rfl rfl rfl rfl (by omega) (by exact aOG _) (by omega) (by omega))<|Uu (by exact bD rfl bV rfl rfl rfl rfl rfl rfl (by rw[gZ];omega) (pQ hlt hv) rfl)<|Zz<|Rg<|Dd qV<|Dd aG<|Zz ?_;exact⟨c+1,by omega,by omega,(cD.wk (Ea<|Ea<|Eb<|trivial) (Hc (lM _ _)<|Hc (lM _ _)<|trivial) trivial)⟩
              · have hv:B5 c=0:=by rw[B5,LH,hc2,hc4,U3,hc5,YP,hc6,YP,hc7];rfl
                refine aF<|Rg<|Dd qV<|Dd aG<|Zz ?_;rw[VX hlt hv];exact⟨c+1,by omega,by omega,(cD.wk (Ea<|Ea<|Eb<|trivial) (Hc (lM _ _)<|Hc (lM _ _)<|trivial) trivial)⟩
    · have : c = 256 := by have : ¬ ((c : Int)<256) := by simpa using hc1
                           omega
      subst this;refine aY<|Sr<|Dd (by exact dG (k2:=35) rfl eS bV rfl rfl rfl rfl (by omega) rfl (by omega) rfl)<|Uu (by exact bD rfl bV rfl rfl rfl rfl rfl rfl (by simp[gZ]) rfl rfl)<|Dd (by exact dG (k2:=95) rfl eS bV rfl rfl rfl rfl (by omega) rfl (by omega) rfl)<|Uu (by exact bD rfl bV rfl rfl rfl rfl rfl rfl (by simp[gZ]) rfl rfl)<|Dd (by exact dG (k2:=34) rfl eS bV rfl rfl rfl rfl (by omega) rfl (by omega) rfl)<|Uu (by exact bD rfl bV rfl rfl rfl rfl rfl rfl (by simp[gZ]) rfl rfl)<|Zz<|Sr<|Dd (by exact aN rfl aME vQ rfl rfl rfl rfl (show List.take 256 (List.drop 0 _)=rF by rw[<-VY];rfl) rfl)<|Uu (kG vQ)<|Zz<|aE ?_;refine dC (H':=[]) (.inr rfl) rfl (fF rfl aME vQ rfl rfl rfl (show List.take 256 (List.drop 0 rF)=rF by rfl) rfl) (Fin.wk (by exact VV _) trivial trivial) ?_;exact Qq
abbrev sNil:ByteArray:=⟨#[]⟩
theorem G3(s:ByteArray)(k:Nat):0<=cZ s k:=by unfold cZ;omega
theorem G4(s:ByteArray)(k:Nat):(cZ s k).toNat<256:=by
 unfold cZ;have:=(((s.data.toList[k]?).getD 0)).toNat_lt
 simpa using this
theorem aIT(s:ByteArray)(k:Nat):rF[(cZ s k).toNat]?=some (.pv (.int .u8 (E9 (cZ s k)))):=by rw[Y5 (G4 s k),Int.toNat_of_nonneg (G3 s k)]
theorem gN(H:aB):∀r∈[rF],∀a∈r,Clo H a:=by intro r hr a ha;rw[aNy]at hr;subst hr;have:=VV H;rw[SK]at this;exact this a ha
def WE(s:ByteArray)(k:Nat):Bool:=!decide (E9 (cZ s k)=3)&&(decide ((k:Int)=0)||(!decide (E9 (cZ s k)=4)&&!decide (E9 (cZ s k)=5)))
def bO(s:ByteArray):Bool:=!((List.range s.size).any (WE s))&&(!decide (s=sNil)&&decide ((s.size:Int)<=24))
theorem OW(h:∀j,j<n->p j=false):(List.range n).any p=false:=by rw[List.any_eq_false];intro x hx;rw[h x (List.mem_range.1 hx)];simp
theorem KK(hk:k<n)(h:p k=true):(List.range n).any p=true:=List.any_eq_true.2 ⟨k,List.mem_range.2 hk,h⟩
theorem yA(s:ByteArray)(H:aB)(hs:s.size<4611686018427387904):aH Tryz.prog 70 [sv s] H (fun r H'=>r=bv (bO s)/\H'=H):=by
 refine Pu ?_;refine Bd func70 rfl ntmps70<|Sr<|Dd aM<|Zz<|Sr<|Dd (by exact aA rfl rfl call123 rfl (QD _))<|Dd (by exact bM (id:=3) rfl ZI rfl rfl)<|Uu (by exact bX rfl vQ rfl rfl rfl rfl rfl rfl rfl (by simp))<|Zz<|Sq<|Sr<|Dd aG<|Dd (nF underlying9)<|Dd aG<|Zz<|aD ?_;refine bL (σ:=Nat) (fun k=>([(0,sv s),(3,.ref 3 0 0 0),(8,iv (s.size:Int)),(9,iv (k:Int))],[(3,bx 256 158 rF)])) (fun k=>k<=s.size/\∀j,j<k->WE s j=false) (fun k=>s.size - k) 0 ⟨by omega,by omega⟩ ?_ ?_
 ·exact(cD.wk (Eb<|Ea<|Eb<|Eb<|trivial) (Hc (gN _)<|trivial) trivial)
 rintro k ⟨hk,hno⟩;refine Sr<|Dd cP<|Zz<|Sq ?_;refine Cn ?_ ?_<;>intro hc1
 ·have hlt:k<s.size:=by have:=aNr hc1;omega
  refine aF<|Sq<|aD<|Sr<|Dd aG<|Dd aM<|Zz<|Sr<|Dd aG<|Dd aG<|Dd (by exact dW rfl underlying9 rfl rfl (by omega) (by exact aOG _) (by omega) rfl)<|Dd (by exact dG (m:=(cZ s k).toNat) (k2:=(cZ s k).toNat) rfl eS bV rfl rfl rfl rfl (G3 s k) rfl (G4 s k) (by omega))<|Dd (by exact aK rfl zO rfl rfl rfl rfl (aIT s k))<|Dd aM<|Zz<|Sq ?_;refine bF (t:=30) (n:=17) (X:=WE s k) ?_ ?_
  ·all_goals refine Dd aG ?_
   all_goals refine Dd zW<|Dm ?_
   all_goals refine Sp 19 (fun h19=>?_) fun h19=>?_
   all_goals try contradiction
   all_goals first|refine Fo<|Fo<|Fo ?_|refine On aG<|On dK<|On aG ?_
   all_goals(first|refine Sp 22 (fun h22=>?_) fun h22=>?_|refine yT (t:=22) rfl ?_)
   all_goals try contradiction
   all_goals first|refine Fo ?_|refine Fu ?_|refine On aG ?_
   all_goals first|refine Fo ?_|refine Fu ?_|refine On zW ?_
   all_goals first|refine Fo ?_|refine Fu ?_|refine On aG ?_
   all_goals(first|refine Sp 25 (fun h25=>?_) fun h25=>?_|refine yT (t:=25) rfl ?_)
   all_goals try contradiction
   all_goals first|refine Fo ?_|refine Fu ?_|refine On aG ?_
   all_goals first|refine Fo ?_|refine Fu ?_|refine On zW ?_
   all_goals first|refine Fo ?_|refine Fu ?_|refine On cN ?_
   all_goals first|refine Fo ?_|refine On cN ?_
   all_goals refine Dd cN<|Zz ?_
   all_goals(exact⟨⟨_,rfl,by(simp only[WE, *];rfl)⟩,rfl,rfl,rfl⟩)
  refine Cn ?_ ?_<;>intro hc2
  ·refine Sr<|Dd aM<|Zz<|aE<|Rt ?_;exact⟨by rw[bO,KK hlt hc2];rfl,rfl⟩
  refine aF<|Rg<|Dd qV<|Dd aG<|Zz ?_;refine⟨k+1,⟨by omega,fun j hj=>?_⟩,by omega,(cD.wk (Eb<|Ea<|Eb<|Eb<|trivial) (Hc (gN _)<|trivial) trivial)⟩;by_cases e:j=k
  ·subst e;exact hc2
  exact hno j (by omega)
 have hge:k=s.size:=by have:=aNs hc1;omega
 refine aY<|Sq ?_;refine bF (t:=2) (n:=9) (X:=!decide (s=sNil)&&decide ((s.size:Int)<=24)) ?_ ?_
 ·all_goals refine Dd aG ?_
  all_goals refine Dd TU<|Dm ?_
  all_goals refine Sp 34 (fun h34=>?_) fun h34=>?_
  all_goals try contradiction
  all_goals first|refine Fo<|Fo<|Fo ?_|refine On aG<|On (nF underlying9)<|On TA ?_
  all_goals refine Dd cN<|Da ?_
  all_goals(exact⟨⟨_,rfl,by(simp only[WE, *];rfl)⟩,rfl,rfl,rfl⟩)
 refine aE<|Rt ?_;subst hge;exact⟨by rw[bO,OW hno];rfl,rfl⟩
def fS{α:Type}(f:α->ByteArray)(l:List α):Nat->ByteArray
 |0=>sNil
 |k+1=>((l[k]?).map f).getD sNil
def sle(a b:ByteArray):Bool:=DP a b||decide (a=b)
def G6(last:ByteArray)(t:GTag):Bool:=!bO t.key||sle t.key last||decide (t.val=sNil)||decide (200<(t.val.size:Int))
def QI{α:Type}(p:ByteArray->α->Bool)(f:α->ByteArray)(l:List α)(k:Nat):Bool:=match l[k]? with
 |some t=>p (fS f l k) t
 |none=>false
theorem ML{p:ByteArray->α->Bool}{f:α->ByteArray}{l:List α}{t:α}(h:l[k]?=some t):QI p f l k=p (fS f l k) t:=by rw[QI,h]
theorem HY{f:α->ByteArray}{l:List α}{t:α}(h:l[k]?=some t):fS f l (k+1)=f t:=by rw[fS,h];rfl
def zD(l:List GTag):Bool:=!((List.range l.length).any (QI G6 GTag.key l))&&decide ((l.length:Int)<=60)
def KU(l:List GTag):Prop:=l.length<4611686018427387904/\∀t∈l,t.key.size<4611686018427387904/\t.val.size<4611686018427387904
theorem xI(l:List GTag)(H:aB)(hl:KU l):aH Tryz.prog 261 [.pv (sT l)] H (fun r H'=>r=bv (zD l)/\H'=H):=by
 refine Pu ?_;obtain ⟨hl,hks⟩:=hl;have hml:(l.map bJ).length=l.length:=aNv _;refine Bd func261 rfl ntmps261<|Sr<|Dd aM<|Zz<|Sr<|Dd aM<|Zz<|Sq<|Sr<|Dd aG<|Dd (fZ cQ)<|Dd aG<|Zz<|aD ?_;refine bL (σ:=Nat) (fun k=>([(0,.pv (sT l)),(3,sv (fS GTag.key l k)),(6,.pv (sT l)),(7,iv ((l.map bJ).length:Int)),(8,iv (k:Int))],[])) (fun k=>k<=l.length/\∀j,j<k->QI G6 GTag.key l j=false) (fun k=>l.length - k) 0 ⟨by omega,by omega⟩ ?_ ?_
 ·exact Wk
 rintro k ⟨hk,hno⟩;refine Sr<|Dd cP<|Zz<|Sq ?_;refine Cn ?_ ?_<;>intro hc1
 ·have hlt:k<l.length:=by have:=aNr hc1;omega
  obtain ⟨t,ht⟩:=aV hlt;have hi:=cA (f:=bJ) ht;have hkt:=hks t (aOF ht);refine aF<|Sq<|aD<|Sr<|Dd (zV yX)<|Dd (by exact cU rfl sG iR rfl (by omega) (by simp only[Zl,bJ,bN];rfl) rfl)<|Dd (by exact bM (id:=5) rfl aHy rfl rfl)<|Uu (kG iR)<|Zz<|Sq<|Sq ?_;refine bF (t:=32) (n:=24) (X:=G6 (fS GTag.key l k) t) ?_ ?_
  ·all_goals refine Dd (bE EX) ?_
   all_goals refine Dd (bQ isAgg9)<|Dd (by exact aA rfl rfl nH rfl (yA t.key _ hkt.1))<|Dd mT<|Dm ?_
   all_goals refine Sp 16 (fun h16=>?_) fun h16=>?_
   all_goals try contradiction
   all_goals first|refine Fo<|Fo<|Fo<|Fo ?_|refine On (bE EX)<|On (bQ isAgg9)<|On aG<|On (by exact aDl rfl rfl rfl) ?_
   all_goals refine Dd cN<|Dm ?_
   all_goals refine Sp 22 (fun h22=>?_) fun h22=>?_
   all_goals try contradiction
   all_goals first|refine Fo<|Fo<|Fo ?_|refine On (bE JE)<|On (bQ isAgg9)<|On B3 ?_
   all_goals refine Dd cN<|Dm ?_
   all_goals refine Sp 27 (fun h27=>?_) fun h27=>?_
   all_goals try contradiction
   all_goals first|refine Fo<|Fo<|Fo<|Fo ?_|refine On (bE JE)<|On (bQ isAgg9)<|On (nF underlying9)<|On mN ?_
   all_goals refine Dd cN<|Zz ?_
   all_goals(exact⟨⟨_,rfl,by(simp only[G6,sle, *];rfl)⟩,rfl,rfl,rfl⟩)
  refine Cn ?_ ?_<;>intro hc2
  ·refine Sr<|Dd aM<|Zz<|aE<|Rt ?_;exact⟨by rw[zD,KK hlt ((ML ht).trans hc2)];rfl,rfl⟩
  refine aF<|Rg<|Dd (bE EX)<|Dd (bQ isAgg9)<|Dd aM<|Zz<|Rg<|Dd qV<|Dd aG<|Zz ?_;refine⟨k+1,⟨by omega,fun j hj=>?_⟩,by omega,?_⟩
  ·by_cases e:j=k
   ·subst e;exact(ML ht).trans hc2
   exact hno j (by omega)
  rw[HY ht];exact Wk
 have hge:k=l.length:=by have:=aNs hc1;omega
 subst hge;refine aY<|Sr<|Dd aG<|Dd (fZ cQ)<|Dd TA<|Dd aM<|Zz<|aE<|Rt ?_;exact⟨by rw[zD,OW hno,<-hml];rfl,rfl⟩
end Go.Proofs.YtmdicgjnmfolfaaGreatDoor
namespace Go.Abs
variable{l:List ByteArray}{kt et:TypeId}{id g:Nat}{ob:Ob}{s:ByteArray}
section
section
variable{P:Program}{N:Nat}{o:Oper}{E:bS}{H:aB}{T:TypeId}{x y z:Operand}
theorem NR{e:TypeId}{cnt:Nat}{kk:IntKind}{n:Int}{m:Nat}{l:List AV}{v:AV}(ho:o.op=.index T x y)(hT:P.underlying T=some (.array cnt e))(hs:∀w,(sizeOf e).run P w=.ok 1 w)(ha:∀w,(isAgg e).run P w=.ok false w)
  (hx:aO E x=some (.agg l)) (hy:aO E y=some (.pv (.int kk n))) (h0:0<=n) (hm:n.toNat=m) (hi:m<cnt) (hv:l[m]?=some v):cH P N o E H v H :=
 .of_run fun a w I ι hr he=>by
  have h:=aI he hx;have hn:=(aI he hy).int_inv;generalize hc:a.eval x=c at h;cases h with
  | @agg vs _ hl h1 h2 =>
   have hlt:m<vs.size:=by rw[hl];exact(aNz.1 hv).1
   have hu:vs[m]?=some vs[m]:=Array.getElem?_eq_getElem hlt;refine⟨vs[m],?_,h2 m _ v hu hv⟩;have h5:n<(cnt:Int):=by omega
   simp only[execOp,ho,hc,hn];simp[Instr.index,run_underlying hT,asIntOf,h0,h5,hs,hm,part,ha,hu]
def B2(l:List ByteArray):List (ByteArray×AV):=l.map fun s=>(s,.pv (.bool true))
def inB(l:List ByteArray)(s:ByteArray):Bool:=l.any fun a=>decide (a=s)
def J4(l:List ByteArray)(s:ByteArray):List ByteArray:=if inB l s then l else l++[s]
theorem aDK(l:List ByteArray)(s:ByteArray):(NZ (B2 l) s).getD (.pv (.bool false))=.pv (.bool (inB l s)):=by
 induction l with
 |nil=>rfl
 |cons a l ih =>
  by_cases h:a=s
  ·subst h;simp[B2,NZ,inB]
  simp only[B2,List.map_cons,NZ,h,if_false,inB,List.any_cons,decide_false,Bool.false_or]at ih |-;exact ih
theorem aDJ(l:List ByteArray)(s:ByteArray):wI (B2 l) s (.pv (.bool true))=B2 (J4 l s):=by
 induction l with
 |nil=>rfl
 | cons a l ih =>
  by_cases h:a=s
  ·subst h;simp[B2,wI,J4,inB]
  have e:J4 (a::l) s=a::J4 l s:=by
   unfold J4 inB;rw[List.any_cons,decide_eq_false h,Bool.false_or]
   split<;>rfl
  rw[e];show wI ((a,.pv (.bool true))::B2 l) s (.pv (.bool true))=(a,.pv (.bool true))::B2 (J4 l s);rw[wI,aNt h,ih]
theorem QS{zv:Value}(ho:o.op=.lookup T x y false)(hT:P.underlying T=some (.map kt et))(hd:P.underlying kt=some .string)(hx:aO E x=some (.mp id g))(hH:H.get id=some ob)(hg:ob.g=g)
  (hrows:ob.rows=pE W7 (B2 l)) (hy:aO E y=some (.pv (.str s))) (hz:∀w,(zeroValue et).run P w=.ok zv w) (hv:ZV zv (.pv (.bool false))):cH P N o E H (.pv (.bool (inB l s))) H:=by
 rw[<-aDK];exact KQ (κ:=W7) ho hT hd hx hH hg hrows hy hz hv
theorem aAo(ho:o.op=.mapUpdate T x y z\/o.op=.insert T x y z)(hT:P.underlying T=some (.map kt et))(hd:P.underlying kt=some .string)(hx:aO E x=some (.mp id g))(hH:H.get id=some ob)(hg:ob.g=g)
  (hty:ob.ty=(B2 l).length) (hrows:ob.rows=pE W7 (B2 l)) (hy:aO E y=some (.pv (.str s))) (hz:aO E z=some (.pv (.bool true))):cH P N o E H .any ((id,⟨g,ob.sz,(B2 (J4 l s)).length,pE W7 (B2 (J4 l s))⟩)::H) :=
 HF (κ:=W7) ho hT hd hx hH hg hty hrows hy hz (aDJ l s)
abbrev sob(l:List ByteArray):Ob:=⟨0,0,(B2 l).length,pE W7 (B2 l)⟩
end
end
end Go.Abs
