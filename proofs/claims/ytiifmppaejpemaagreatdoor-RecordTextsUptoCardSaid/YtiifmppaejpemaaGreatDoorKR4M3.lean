/-
  Parts of the proof: rules of an abstract program logic, contracts of functions, plain laws. Conditions: each theorem's own.
-/
import Derived.Test.YtiifmppaejpemaaGreatDoorKR4M2
import Derived.Test.YtiifmppaejpemaaGreatDoorRows
import Derived.OpenShut
import Derived.JoinedCond
import Derived.Carry
import Derived.MapKept
import Derived.Laws.IdiomRangeMap
import Derived.Lib.Bytealg
set_option linter.unusedVariables false
set_option linter.unusedSimpArgs false
set_option maxRecDepth 100000
set_option maxHeartbeats 8000000
namespace Go.Proofs
theorem tY:type_of% Tryz.call150:=Tryz.call150
theorem aKq:type_of% Tryz.call187:=Tryz.call187
theorem mD:type_of% Tryz.call74:=Tryz.call74
theorem aJl:type_of% Tryz.isAgg160:=Tryz.isAgg160
theorem qQ:type_of% Tryz.isAgg206:=Tryz.isAgg206
theorem xS:type_of% Tryz.isAgg5:=Tryz.isAgg5
theorem lW:type_of% Tryz.sizeOf124:=Tryz.sizeOf124
theorem aHv:type_of% Tryz.sizeOf138:=Tryz.sizeOf138
theorem aV:type_of% Tryz.sizeOf155:=Tryz.sizeOf155
theorem tT:type_of% Tryz.sizeOf160:=Tryz.sizeOf160
theorem aJi:type_of% Tryz.sizeOf20:=Tryz.sizeOf20
theorem iC:type_of% Tryz.sizeOf206:=Tryz.sizeOf206
theorem aL:type_of% Tryz.sizeOf30:=Tryz.sizeOf30
theorem bR:type_of% Tryz.sizeOf5:=Tryz.sizeOf5
theorem cF:type_of% Tryz.underlying124:=Tryz.underlying124
theorem cM:type_of% Tryz.underlying151:=Tryz.underlying151
theorem gY:type_of% Tryz.underlying153:=Tryz.underlying153
theorem eH:type_of% Tryz.underlying155:=Tryz.underlying155
theorem eG:type_of% Tryz.underlying160:=Tryz.underlying160
theorem B5:type_of% Tryz.underlying183:=Tryz.underlying183
theorem fP:type_of% Tryz.underlying191:=Tryz.underlying191
theorem B4:type_of% Tryz.underlying196:=Tryz.underlying196
theorem aD:type_of% Tryz.underlying22:=Tryz.underlying22
theorem WS:type_of% Tryz.underlying223:=Tryz.underlying223
theorem dD:type_of% Tryz.underlying23:=Tryz.underlying23
theorem fC:type_of% Tryz.underlying25:=Tryz.underlying25
theorem dP:type_of% Tryz.underlying26:=Tryz.underlying26
theorem kS:type_of% Tryz.underlying28:=Tryz.underlying28
theorem cS:type_of% Tryz.underlying30:=Tryz.underlying30
theorem jK:type_of% Tryz.underlying5:=Tryz.underlying5
theorem D0:type_of% Tryz.underlying74:=Tryz.underlying74
theorem DZ:type_of% Tryz.zeroValue126:=Tryz.zeroValue126
theorem DX:type_of% Tryz.zeroValue153:=Tryz.zeroValue153
theorem aAf:type_of% Tryz.zeroValue155:=Tryz.zeroValue155
theorem aAe:type_of% Tryz.zeroValue196:=Tryz.zeroValue196
theorem aDY:type_of% Tryz.zeroValue20:=Tryz.zeroValue20
theorem aAd:type_of% Tryz.zeroValue206:=Tryz.zeroValue206
theorem aDX:type_of% Tryz.zeroValue22:=Tryz.zeroValue22
theorem aDW:type_of% Tryz.zeroValue25:=Tryz.zeroValue25
theorem zP:type_of% Tryz.zeroValue3:=Tryz.zeroValue3
theorem aDV:type_of% Tryz.zeroValue30:=Tryz.zeroValue30
theorem zO:type_of% Tryz.zeroValue4:=Tryz.zeroValue4
theorem KN:type_of% Tryz.zeroValue5:=Tryz.zeroValue5
theorem aDU:type_of% Tryz.zeroValue73:=Tryz.zeroValue73
theorem qU:type_of% Tryz.zeroValue9:=Tryz.zeroValue9
end Go.Proofs
namespace Go.Abs
section
section
variable {P:Program} {G0:aB} {N:Nat} {o:Oper} {E:bO} {H H2:aB} {v:AV} {Q:Exit→bO→aB→Prop} {T e t t':TypeId} {x y:Operand} {id g i:Nat} {ob:Ob}
theorem Dd {ops:Array Oper} {K:bO→aB→Prop} {rest:List Oper} {d:Tmp} {op:Op} {ty:TypeId} {pos:String} {af:Array Edge} (h:cB P N ⟨some d,op,ty,pos,af,none⟩ E H v H2) (hk:AL P G0 N ops K rest ((d,v)::E) H2) (hn:Nat.blt d N=true:=by rfl):AL P G0 N ops K (⟨some d,op,ty,pos,af,none⟩::rest) E H:=WQ rfl rfl hn h hk
theorem Uu {ops:Array Oper} {K:bO→aB→Prop} {rest:List Oper} {op:Op} {ty:TypeId} {pos:String} {af:Array Edge} (h:cB P N ⟨none,op,ty,pos,af,none⟩ E H v H2) (hk:AL P G0 N ops K rest E H2):AL P G0 N ops K (⟨none,op,ty,pos,af,none⟩::rest) E H:=aKl rfl rfl h hk
theorem Sq {x y:Code} (h:fE P G0 N x (vC (fE P G0 N y Q) Q) E H):fE P G0 N (.seq x y) Q E H:=DN h
theorem Rg {id:Nat} {ops:Array Oper} (h:AL P G0 N ops (fun E H=>Q .normal E H) ops.toList E H):fE P G0 N (.region id ops false) Q E H:=wS h
theorem Zz {ops:Array Oper} {K:bO→aB→Prop} (h:K E H):AL P G0 N ops K [] E H:=WP h
theorem aF (ho:o.op=.move x:=by rfl) (hx:aN E x=some v:=by rfl):cB P N o E H v H:=eN ho hx
theorem aP (ho:o.op=.assign x:=by rfl) (hx:aN E x=some v:=by rfl):cB P N o E H v H:=rG ho hx
theorem Sr {id:Nat} {ops:Array Oper} {y:Code} (h:AL P G0 N ops (fun E H=>vC (fE P G0 N y Q) Q .normal E H) ops.toList E H):fE P G0 N (.seq (.region id ops false) y) Q E H:=Sq (Rg h)
theorem Dm {ops:Array Oper} {K:bO→aB→Prop} {rest:List Oper} {d:Tmp} {op:Op} {ty:TypeId} {pos:String} {af:Array Edge} (hk:AL P G0 N ops K rest ((d,v)::E) H) (ho:op=.move x:=by rfl) (hx:aN E x=some v:=by rfl) (hn:Nat.blt d N=true:=by rfl):AL P G0 N ops K (⟨some d,op,ty,pos,af,none⟩::rest) E H:=Dd (eN ho hx) hk hn
theorem Da {ops:Array Oper} {K:bO→aB→Prop} {d:Tmp} {op:Op} {ty:TypeId} {pos:String} {af:Array Edge} (hk:K ((d,v)::E) H) (ho:op=.assign x:=by rfl) (hx:aN E x=some v:=by rfl) (hn:Nat.blt d N=true:=by rfl):AL P G0 N ops K [⟨some d,op,ty,pos,af,none⟩] E H:=Dd (rG ho hx) (Zz hk) hn
theorem Kr {a b:Prop} (h:b) (h1:a:=by kernel_rfl):a∧b:=⟨h1,h⟩
theorem Qq {α β:Type} {a:α} {b:β}:a=a∧b=b:=⟨rfl,rfl⟩
theorem Pu {f:FuncId} {args:List AV} {r0:AV} (h:aH P f args [] (fun r H=>r=r0∧H=[])) (hp:∀ a∈args,Clo [] a:=by simp):aH P f args H (fun r H'=>r=r0∧H'=H):=aH.pure h hp H
theorem dV {vs:List AV} {n:Nat} (ho:o.op=.extract x n:=by rfl) (hx:aN E x=some (.tup vs):=by rfl) (hv:vs[n]?=some v:=by rfl):cB P N o E H v H:=pE ho hx hv
theorem bB {S off:TypeId} {k k2 f:Nat} (hF:bX P S f off) (ho:o.op=.fieldAddr S x f:=by rfl) (hx:aN E x=some (.ref id g i k):=by rfl) (hH:H.get id=some ob:=by rfl) (hg:ob.g=g:=by rfl) (hk:k+off=k2:=by rfl):cB P N o E H (.ref id g i k2) H:=aW ho hF hx hH hg hk
theorem bK {k:Nat} {r:List AV} (ha:∀ w,(isAgg T).run P w=.ok false w) (ho:o.op=.load T x:=by rfl) (hx:aN E x=some (.ref id g i k):=by rfl) (hH:H.get id=some ob:=by rfl) (hg:ob.g=g:=by rfl) (hi:ob.rows[i]?=some r:=by rfl) (hk:r[k]?=some v:=by rfl):cB P N o E H v H:=aK ho ha hx hH hg hi hk
theorem pZ {n k:Nat} {r cs:List AV} (ha:∀ w,(isAgg T).run P w=.ok true w) (hs:∀ w,(sizeOf T).run P w=.ok n w) (ho:o.op=.load T x:=by rfl) (hx:aN E x=some (.ref id g i k):=by rfl) (hH:H.get id=some ob:=by rfl) (hg:ob.g=g:=by rfl) (hi:ob.rows[i]?=some r:=by rfl) (hk:(r.drop k).take n=cs:=by rfl) (hl:cs.length=n:=by rfl):cB P N o E H (.agg cs) H:=aM ho ha hs hx hH hg hi hk hl
theorem iH {cells r:List AV} {n:Nat} (hs:∀ w,(sizeOf T).run P w=.ok n w) (ho:o.op=.store T x y:=by rfl) (hx:aN E x=some (.ref id g 0 0):=by rfl) (hy:aN E y=some v:=by rfl) (hc:QB v=some cells:=by rfl) (hn:cells.length=n:=by rfl) (hH:H.get id=some ob:=by rfl) (hg:ob.g=g:=by rfl) (hi:ob.rows=[r]:=by rfl) (hk:r.length=n:=by rfl):cB P N o E H .any ((id,⟨g,ob.sz,ob.ty,[cells]⟩)::H):=bT ho hs hx hy hc hn hH hg hi hk
theorem fY {rows:List (List PV)} (ht:P.underlying T=some (.slice e)) (ho:o.op=.call {callee:=.builtin .len,args:=#[x],argTypes:=#[T]}:=by rfl) (hx:aN E x=some (.pv (.sl rows)):=by rfl):cB P N o E H (.pv (.int .i64 rows.length)) H:=jR ho ht hx
theorem xZ {rows:List (List PV)} {r:List PV} {kk:IntKind} {n:Int} {m sz:Nat} (hS:dZ P T e sz) (ho:o.op=.indexAddr T x y:=by rfl) (hx:aN E x=some (.pv (.sl rows)):=by rfl) (hy:aN E y=some (.pv (.int kk n)):=by rfl) (h0:0≤n:=by omega) (hm:n.toNat=m:=by exact aL4 _) (hi:rows[m]?=some r:=by assumption) (hl:r.length=sz:=by rfl):cB P N o E H (.pad rows m 0) H:=bN ho hS hx hy h0 hm hi hl
theorem uX {parts:Array (Nat×Operand)} {places:List (Nat×Nat)} {l0 l:List AV} {aps:List (Nat×AV)} (hB:jY P T places l0) (ho:o.op=.build T parts:=by rfl) (hp:lV E parts.toList=some aps:=by rfl) (hf:wV (fun i=>places[i]?) l0 aps=some l:=by rfl):cB P N o E H (.agg l) H:=GO ho hB hp hf
theorem dK {k:IntKind} {n m:Int} (ho:o.op=.binOp .lss t x y t':=by rfl) (hx:aN E x=some (.pv (.int k n)):=by rfl) (hy:aN E y=some (.pv (.int k m)):=by rfl):cB P N o E H (.pv (.bool (decide (n < m)))) H:=G3 ho hx hy
theorem cY {k:IntKind} {n m:Int} (ho:o.op=.binOp .eql t x y t':=by rfl) (hx:aN E x=some (.pv (.int k n)):=by rfl) (hy:aN E y=some (.pv (.int k m)):=by rfl):cB P N o E H (.pv (.bool (decide (n=m)))) H:=gC ho hx hy
theorem Cq {ops rest:List Oper} {K:List Rec→bO→aB→Prop} {dst:Option Tmp} {op:Op} {ty:TypeId} {pos:String} {af:Array Edge} (h:cB P N ⟨dst,op,ty,pos,af,none⟩ (restr E (fF ops ⟨dst,op,ty,pos,af,none⟩)) H v H) (hk:DC P N ops rest (iI E dst v) H (fun rs E' H'=>K (⟨v,none,[]⟩::rs) E' H')) (hd:gM N dst=true:=by rfl):DC P N ops (⟨dst,op,ty,pos,af,none⟩::rest) E H K:=aX (DStep.q rfl h) hd hk
theorem Cp {ops rest:List Oper} {K:List Rec→bO→aB→Prop} {dst:Option Tmp} {op:Op} {ty:TypeId} {pos:String} {af:Array Edge} (R:List Nat) {w:Nat×Ob} (h:∀ H1:aB,(∀ id,uO (some R) id=true→H1.get id=H.get id)→cB P N ⟨dst,op,ty,pos,af,none⟩ (restr E (fF ops ⟨dst,op,ty,pos,af,none⟩)) H1 v (w::H1)) (hk:DC P N ops rest (iI E dst v) (w::H) (fun rs E' H'=>K (⟨v,some R,[w]⟩::rs) E' H')) (hd:gM N dst=true:=by rfl):DC P N ops (⟨dst,op,ty,pos,af,none⟩::rest) E H K:=aX (r:=⟨v,some R,[w]⟩) (DStep.plain rfl h) hd hk
theorem Cr {ops rest:List Oper} {K:List Rec→bO→aB→Prop} {dst:Option Tmp} {op:Op} {ty:TypeId} {pos:String} {af:Array Edge} (R:List Nat) (h:∀ H1:aB,(∀ id,uO (some R) id=true→H1.get id=H.get id)→cB P N ⟨dst,op,ty,pos,af,none⟩ (restr E (fF ops ⟨dst,op,ty,pos,af,none⟩)) H1 v H1) (hk:DC P N ops rest (iI E dst v) H (fun rs E' H'=>K (⟨v,some R,[]⟩::rs) E' H')) (hd:gM N dst=true:=by rfl):DC P N ops (⟨dst,op,ty,pos,af,none⟩::rest) E H K:=aX (r:=⟨v,some R,[]⟩) (DStep.plain rfl h) hd hk
theorem Cs {ops rest:List Oper} {K:List Rec→bO→aB→Prop} {dst:Option Tmp} {op:Op} {ty:TypeId} {pos:String} {af:Array Edge} (h:∀ H1:aB,(∀ id,uO none id=true→H1.get id=H.get id)→cB P N ⟨dst,op,ty,pos,af,none⟩ (restr E (fF ops ⟨dst,op,ty,pos,af,none⟩)) H1 v H1) (hk:DC P N ops rest (iI E dst v) H (fun rs E' H'=>K (⟨v,none,[]⟩::rs) E' H')) (hd:gM N dst=true:=by rfl):DC P N ops (⟨dst,op,ty,pos,af,none⟩::rest) E H K:=aX (r:=⟨v,none,[]⟩) (DStep.plain rfl h) hd hk
theorem Ot {ops rest:List Oper} {K:List Rec→bO→aB→Prop} {dst:Option Tmp} {op:Op} {ty:TypeId} {pos:String} {af:Array Edge} {j:Nat} {t:Tmp} {b:Bool} (hk:DC P N ops rest (iI E dst (.tup [])) H (fun rs E' H'=>K (⟨.tup [],some [],[]⟩::rs) E' H')) (hj:gS ops j=some t:=by rfl) (hb:E.get t=some (.pv (.bool b)):=by rfl) (hw:b=false:=by first|rfl|assumption) (hd:gM N dst=true:=by rfl):DC P N ops (⟨dst,op,ty,pos,af,some (j,true)⟩::rest) E H K:=aX (aE5 rfl hj hb hw) hd hk
theorem Of {ops rest:List Oper} {K:List Rec→bO→aB→Prop} {dst:Option Tmp} {op:Op} {ty:TypeId} {pos:String} {af:Array Edge} {j:Nat} {t:Tmp} {b:Bool} (hk:DC P N ops rest (iI E dst (.tup [])) H (fun rs E' H'=>K (⟨.tup [],some [],[]⟩::rs) E' H')) (hj:gS ops j=some t:=by rfl) (hb:E.get t=some (.pv (.bool b)):=by rfl) (hw:b=true:=by first|rfl|assumption) (hd:gM N dst=true:=by rfl):DC P N ops (⟨dst,op,ty,pos,af,some (j,false)⟩::rest) E H K:=aX (aE6 rfl hj hb hw) hd hk
theorem Ou {ops rest:List Oper} {K:List Rec→bO→aB→Prop} {dst:Option Tmp} {op:Op} {ty:TypeId} {pos:String} {af:Array Edge} {j:Nat} {t:Tmp} {w:Bool} (hk:DC P N ops rest (iI E dst (.tup [])) H (fun rs E' H'=>K (⟨.tup [],some [],[]⟩::rs) E' H')) (hj:gS ops j=some t:=by rfl) (hb:E.get t=some (.tup []):=by rfl) (hd:gM N dst=true:=by rfl):DC P N ops (⟨dst,op,ty,pos,af,some (j,w)⟩::rest) E H K:=aX (aE4 rfl hj hb) hd hk
theorem On {ops:Array Oper} {K:bO→aB→Prop} {rest:List Oper} {d:Tmp} {op:Op} {ty:TypeId} {pos:String} {af:Array Edge} {j:Nat} {want b:Bool} {t:Tmp} (h:cB P N ⟨some d,op,ty,pos,af,some (j,want)⟩ E H v H2) (hk:AL P G0 N ops K rest ((d,v)::E) H2) (hj:gS ops.toList j=some t:=by rfl) (hb:E.get t=some (.pv (.bool b)):=by rfl) (hw:b=want:=by rfl) (hn:Nat.blt d N=true:=by rfl):AL P G0 N ops K (⟨some d,op,ty,pos,af,some (j,want)⟩::rest) E H:=aHs rfl hj hb hw rfl hn h hk
theorem Fo {ops:Array Oper} {K:bO→aB→Prop} {rest:List Oper} {dst:Option Tmp} {op:Op} {ty:TypeId} {pos:String} {af:Array Edge} {j:Nat} {want b:Bool} {t:Tmp} (hk:AL P G0 N ops K rest (iI E dst (.tup [])) H) (hj:gS ops.toList j=some t:=by rfl) (hb:E.get t=some (.pv (.bool b)):=by rfl) (hw:b=!want:=by rfl) (hd:gM N dst=true:=by rfl):AL P G0 N ops K (⟨dst,op,ty,pos,af,some (j,want)⟩::rest) E H:=aHt rfl hj hb hw hd hk
section
variable {R:Option (List Nat)} {H1:aB}
theorem fh {S off:TypeId} {k k2 f:Nat} (hF:bX P S f off) (h:∀ id,uO R id=true→H1.get id=H.get id) (ho:o.op=.fieldAddr S x f:=by rfl) (hx:aN E x=some (.ref id g i k):=by rfl) (hm:uO R id=true:=by rfl) (hH:H.get id=some ob:=by rfl) (hg:ob.g=g:=by rfl) (hk:k+off=k2:=by rfl):cB P N o E H1 (.ref id g i k2) H1:=aW ho hF hx ((h _ hm).trans hH) hg hk
theorem lh {k:Nat} {r:List AV} (ha:∀ w,(isAgg T).run P w=.ok false w) (h:∀ id,uO R id=true→H1.get id=H.get id) (ho:o.op=.load T x:=by rfl) (hx:aN E x=some (.ref id g i k):=by rfl) (hm:uO R id=true:=by rfl) (hH:H.get id=some ob:=by rfl) (hg:ob.g=g:=by rfl) (hi:ob.rows[i]?=some r:=by rfl) (hk:r[k]?=some v:=by rfl):cB P N o E H1 v H1:=aK ho ha hx ((h _ hm).trans hH) hg hi hk
end
section
variable {k:IntKind} {n m:Int} {s u:ByteArray} {b:Bool} {rows:List (List PV)} {r:List PV} {i j q f F:Nat}
theorem lI (ho:o.op=.unOp .not t x:=by rfl) (hx:aN E x=some (.pv (.bool b)):=by rfl):cB P N o E H (.pv (.bool (!b))) H:=aEj ho hx
theorem uL (ho:o.op=.binOp .neq t x y t':=by rfl) (hx:aN E x=some (.pv (.int k n)):=by rfl) (hy:aN E y=some (.pv (.int k m)):=by rfl):cB P N o E H (.pv (.bool (!decide (n=m)))) H:=oN ho hx hy
theorem mI (ho:o.op=.binOp .gtr t x y t':=by rfl) (hx:aN E x=some (.pv (.int k n)):=by rfl) (hy:aN E y=some (.pv (.int k m)):=by rfl):cB P N o E H (.pv (.bool (decide (m < n)))) H:=CW ho hx hy
theorem TP (ho:o.op=.binOp .leq t x y t':=by rfl) (hx:aN E x=some (.pv (.int k n)):=by rfl) (hy:aN E y=some (.pv (.int k m)):=by rfl):cB P N o E H (.pv (.bool (decide (n≤m)))) H:=G4 ho hx hy
theorem JR (ho:o.op=.binOp .geq t x y t':=by rfl) (hx:aN E x=some (.pv (.int k n)):=by rfl) (hy:aN E y=some (.pv (.int k m)):=by rfl):cB P N o E H (.pv (.bool (decide (m≤n)))) H:=CX ho hx hy
theorem zZ (ho:o.op=.binOp .eql t x y t':=by rfl) (hx:aN E x=some (.pv (.str s)):=by rfl) (hy:aN E y=some (.pv (.str u)):=by rfl):cB P N o E H (.pv (.bool (decide (s=u)))) H:=rF ho hx hy
theorem Q6 (ho:o.op=.binOp .neq t x y t':=by rfl) (hx:aN E x=some (.pv (.str s)):=by rfl) (hy:aN E y=some (.pv (.str u)):=by rfl):cB P N o E H (.pv (.bool (!decide (s=u)))) H:=RT ho hx hy
theorem pM (ho:o.op=.binOp .add t x y t':=by rfl) (hx:aN E x=some (.pv (.int .i64 n)):=by rfl) (hy:aN E y=some (.pv (.int .i64 m)):=by rfl) {r:Int} (hr:IntKind.i64.wrap (n+m)=r:=by exact pO (by omega) (by omega)):cB P N o E H (.pv (.int .i64 r)) H:=cA ho hx hy hr
theorem fp' {S off:TypeId} {q2:Nat} (hF:bX P S f off) (ho:o.op=.fieldAddr S x f:=by rfl) (hx:aN E x=some (.pad rows i q):=by rfl) (hk:q+off=q2:=by rfl):cB P N o E H (.pad rows i q2) H:=LB ho hF hx hk
theorem pH {p:PV} (ha:∀ w,(isAgg T).run P w=.ok false w) (ho:o.op=.load T x:=by rfl) (hx:aN E x=some (.pad rows i q):=by rfl) (hi:rows[i]?=some r:=by first|assumption|omega) (hk:r[q]?=some p:=by rfl):cB P N o E H (.pv p) H:=K7 ho ha hx hi hk
theorem KU {c:Operand} (ho:o.op=.pick c x y:=by rfl) (hc:aN E c=some (.pv (.bool b)):=by rfl) (hb:b=true:=by assumption) (hv:aN E x=some v:=by rfl):cB P N o E H v H:=ZU ho hc hb hv
theorem xA {c:Operand} (ho:o.op=.pick c x y:=by rfl) (hc:aN E c=some (.pv (.bool b)):=by rfl) (hb:b=false:=by assumption) (hv:aN E y=some v:=by rfl):cB P N o E H v H:=ZW ho hc hb hv
theorem cE {c:Operand} (ho:o.op=.pick c x y:=by rfl) (hc:aN E c=some (.pv (.bool b)):=by rfl) (hv:aN E (if b then x else y)=some v:=by rfl):cB P N o E H v H:=yM ho hc hv
theorem nT (ht:P.underlying T=some .string) (ho:o.op=.call {callee:=.builtin .len,args:=#[x],argTypes:=#[T]}:=by rfl) (hx:aN E x=some (.pv (.str s)):=by rfl):cB P N o E H (.pv (.int .i64 s.size)) H:=FX ho ht hx
theorem xQ {q:Nat} (ho:o.op=.nilCheck x:=by rfl) (hx:aN E x=some (.ref id g i q):=by rfl) (hH:H.get id=some ob:=by rfl) (hg:ob.g=g:=by rfl):cB P N o E H (.ref id g i q) H:=eJ ho hx hH hg
end
section
variable {G0:aB} {fn:Func} {Q:AV→aB→Prop} {q:Exit} {r r1 r2:AV} {t1 t2:Tmp}
theorem Rt (hq:Q r []) (hf:fn.results=#[.tmp t1]:=by rfl) (ht:E.get t1=some r:=by rfl) (hc:Clo [] r:=by simp):FL P fn [] Q .ret E H:=dF (.inr rfl) hf (aT ht) (Fin.wk hc trivial trivial) hq
theorem Ru (hq:Q (.tup [r1,r2]) []) (hf:fn.results=#[.tmp t1,.tmp t2]:=by rfl) (ht:E.get t1=some r1:=by rfl) (hu:E.get t2=some r2:=by rfl) (hc:Clo [] (.tup [r1,r2]):=by simp):FL P fn [] Q .ret E H:=rW (.inr rfl) hf (aT ht) (aT hu) (Fin.wk hc trivial trivial) hq
theorem XL {T:TypeId} {n i k:Nat} {cells cs:List AV} (ha:∀ w,(isAgg T).run P w=.ok true w) (hs:∀ w,(sizeOf T).run P w=.ok n w) (hx:E.get t1=some (.ref id g i k):=by rfl) (hH:H.get id=some ob:=by rfl) (hg:ob.g=g:=by rfl) (hi:ob.rows[i]?=some cells:=by rfl) (hk:(cells.drop k).take n=cs:=by rfl) (hl:cs.length=n:=by rfl):GM P E H (.cell t1 T) (.agg cs):=eU hx ha hs hH hg hi hk hl
theorem Bd {f:FuncId} {c:Code} {args:List AV} (hf:P.funcs[f]?=some fn) (hb:fn.body=some c) (hN:fn.ntmps=N) (h:fE P H N c (FL P fn H Q) (kA args) H) (hlen:args.length≤N:=by exact aL6 rfl):aH P f args H Q:=aH.body hf hb hN hlen h
end
section
variable {Q:Exit→bO→aB→Prop} {b:Bool} {E':bO} {H':aB}
theorem Cn {c:Operand} {x y:Code} (h1:b=true→fE P G0 N x Q E H) (h2:b=false→fE P G0 N y Q E H) (hc:aN E c=some (.pv (.bool b)):=by rfl):fE P G0 N (.cond c x y) Q E H:=aDH hc h1 h2
theorem Sp (t:Tmp) {ops:Array Oper} {l:List Oper} {K:bO→aB→Prop} (h1:b=true→AL P G0 N ops K l ((t,.pv (.bool true))::E) H) (h2:b=false→AL P G0 N ops K l ((t,.pv (.bool false))::E) H) (hb:E.get t=some (.pv (.bool b)):=by rfl):AL P G0 N ops K l E H:=aDQ hb h1 h2
theorem Wk (hE:EOk E H' E':=by repeat' first|exact trivial|refine⟨⟨_,rfl,rfl⟩,?_,?_⟩|(simp;done)|(simp;rfl)) (hH:QP H H' H':=by repeat' first|exact trivial|refine⟨⟨_,rfl,rfl⟩,?_,?_⟩|(simp;done)|(simp;rfl)) (hk:KOk H' H G0:=by repeat' first|exact trivial|refine⟨rfl,?_⟩):cD G0 E H E' H':=cD.wk hE hH hk
theorem E0 (h:aD5 E E':=by repeat' first|exact trivial|refine⟨⟨_,rfl,rfl⟩,?_⟩):cD G0 E H E' H:=cD.e0 h
theorem Fu {ops:Array Oper} {K:bO→aB→Prop} {rest:List Oper} {dst:Option Tmp} {op:Op} {ty:TypeId} {pos:String} {af:Array Edge} {j:Nat} {want:Bool} {t:Tmp} (hk:AL P G0 N ops K rest (iI E dst (.tup [])) H) (hj:gS ops.toList j=some t:=by rfl) (hb:E.get t=some (.tup []):=by rfl) (hd:gM N dst=true:=by rfl):AL P G0 N ops K (⟨dst,op,ty,pos,af,some (j,want)⟩::rest) E H:=aFp rfl hj hb hd hk
end
section
variable {ops rest:List Oper} {K:List Rec→bO→aB→Prop} {dst:Option Tmp} {op:Op} {ty:TypeId} {pos:String} {af:Array Edge} {j:Nat} {t:Tmp} {b:Bool}
theorem Nt (h:cB P N ⟨dst,op,ty,pos,af,some (j,true)⟩ (restr E (fF ops ⟨dst,op,ty,pos,af,some (j,true)⟩)) H v H) (hk:DC P N ops rest (iI E dst v) H (fun rs E' H'=>K (⟨v,none,[]⟩::rs) E' H')) (hj:gS ops j=some t:=by rfl) (hb:E.get t=some (.pv (.bool b)):=by rfl) (hw:b=true:=by first|rfl|assumption) (hd:gM N dst=true:=by rfl):DC P N ops (⟨dst,op,ty,pos,af,some (j,true)⟩::rest) E H K:=aX (aGh rfl hj hb hw h) hd hk
theorem Nf (h:cB P N ⟨dst,op,ty,pos,af,some (j,false)⟩ (restr E (fF ops ⟨dst,op,ty,pos,af,some (j,false)⟩)) H v H) (hk:DC P N ops rest (iI E dst v) H (fun rs E' H'=>K (⟨v,none,[]⟩::rs) E' H')) (hj:gS ops j=some t:=by rfl) (hb:E.get t=some (.pv (.bool b)):=by rfl) (hw:b=false:=by first|rfl|assumption) (hd:gM N dst=true:=by rfl):DC P N ops (⟨dst,op,ty,pos,af,some (j,false)⟩::rest) E H K:=aX (aGi rfl hj hb hw h) hd hk
end
theorem Zl:(∀ {α:Type} (a:α) (l:List α) (i:Nat),(a::l).drop (i+1)=l.drop i)∧(∀ {α:Type} (l:List α),l.drop 0=l)∧(∀ {α:Type} (a:α) (l:List α) (i:Nat),(a::l).take (i+1)=a::l.take i)∧(∀ {α:Type} (l:List α),l.take 0=[])∧(∀ {α:Type} (i:Nat),([]:List α).take i=[]) ∧
  (∀ {α β:Type} (f:α→β) (a:α) (l:List α),(a::l).map f=f a::l.map f)∧(∀ {α β:Type} (f:α→β),[].map f=[])∧(∀ {α:Type} (a b:α) (l:List α),(a::l).set 0 b=b::l)∧(∀ {α:Type} (a b:α) (l:List α) (i:Nat),(a::l).set (i+1) b=a::l.set i b) ∧
  (∀ {α:Type} (a:α) (l l2:List α),(a::l)++l2=a::(l++l2))∧(∀ {α:Type} (l:List α),[]++l=l) :=
 ⟨fun _ _ _=>rfl,fun _=>rfl,fun _ _ _=>rfl,fun l=>by simp,fun _=>by simp,fun _ _ _=>rfl,fun _=>rfl,fun _ _ _=>rfl,fun _ _ _ _=>rfl,fun _ _ _=>rfl,fun _=>rfl⟩
theorem Zo:(∀ b:Bool,(false&&b)=false)∧(∀ b:Bool,(true&&b)=b)∧(∀ b:Bool,(b&&false)=false)∧(∀ b:Bool,(b&&true)=b)∧(∀ b:Bool,(true||b)=true)∧(∀ b:Bool,(false||b)=b)∧(∀ b:Bool,(b||true)=true)∧(∀ b:Bool,(b||false)=b)∧(!true)=false∧(!false)=true:=by simp
end
theorem Ea {E:bO} {H':aB} {t:Nat} {v:AV} {L:bO} (r:EOk E H' L) (h1:∃ v0,E.get t=some v0∧v0=v:=by exact⟨_,rfl,rfl⟩) (h2:Clo H' v:=by simp;rfl):EOk E H' ((t,v)::L):=⟨h1,h2,r⟩
theorem Eb {E:bO} {H':aB} {t:Nat} {v:AV} {L:bO} (r:EOk E H' L) (h1:∃ v0,E.get t=some v0∧v0=v:=by exact⟨_,rfl,rfl⟩) (h2:Clo H' v:=by simp):EOk E H' ((t,v)::L):=⟨h1,h2,r⟩
theorem Ec {E:bO} {H':aB} {t:Nat} {v:AV} {L:bO} (h2:Clo H' v) (r:EOk E H' L) (h1:∃ v0,E.get t=some v0∧v0=v:=by exact⟨_,rfl,rfl⟩):EOk E H' ((t,v)::L):=⟨h1,h2,r⟩
theorem Ha {H H':aB} {t:Nat} {o:Ob} {L:aB} (r:QP H H' L) (h1:∃ v0,H.get t=some v0∧v0=o:=by exact⟨_,rfl,rfl⟩) (h2:∀ r∈o.rows,∀ a∈r,Clo H' a:=by simp;rfl):QP H H' ((t,o)::L):=⟨h1,h2,r⟩
theorem Hb {H H':aB} {t:Nat} {o:Ob} {L:aB} (r:QP H H' L) (h1:∃ v0,H.get t=some v0∧v0=o:=by exact⟨_,rfl,rfl⟩) (h2:∀ r∈o.rows,∀ a∈r,Clo H' a:=by simp):QP H H' ((t,o)::L):=⟨h1,h2,r⟩
theorem Hc {H H':aB} {t:Nat} {o:Ob} {L:aB} (h2:∀ r∈o.rows,∀ a∈r,Clo H' a) (r:QP H H' L) (h1:∃ v0,H.get t=some v0∧v0=o:=by exact⟨_,rfl,rfl⟩):QP H H' ((t,o)::L):=⟨h1,h2,r⟩
end
def aCg:PV→Bool
 | .int _ _=>true
 | .bool _=>true
 | .str _=>true
 | _=>false
theorem PRep.flat {w w':World} {I I':Nat→Prop} {v:Value} {p:PV} (h:PRep w I v p) (hf:aCg p=true):PRep w' I' v p:=by cases h<;>first|(constructor;done)|(simp [aCg] at hf;done)
def RO (P:Program) (f:FuncId) (args:List AV) (H:aB) (p:PV):Prop :=∀ (I:Nat→Prop) (ι:dR) (w:World) (vs:Array Value),Rel I ι H w→vs.size=args.length→(∀ (i:Nat) (v:Value) (a:AV),vs[i]?=some v→args[i]?=some a→VRel w I ι H v a) →
  Calls P f vs w fun e w'=>∃ v,e=.returned v∧(∀ w2 I2,PRep w2 I2 v p)∧w'.os=w.os∧w'.tape=w.tape∧w'.output=w.output∧w.heap.size≤w'.heap.size ∧
   (∀ a,a.block < w.heap.size→w'.frozen? a=w.frozen? a)∧∀ b,b < w.heap.size→w'.heap[b]?=w.heap[b]?
theorem RO.of {P:Program} {f:FuncId} {args:List AV} {p:PV} (h:aH P f args [] (fun r H=>r=.pv p∧H=[])) (hf:aCg p=true):RO P f args [] p:=by
 intro I ι w vs hr hl hv;refine(h I ι w vs hr hl hv).mono ?_;rintro e w' ⟨r,H',I',ι',v,rfl,⟨rfl,rfl⟩,k1,k2,k3⟩;have hno:∀ b,¬ GG ι [] b:=fun b ⟨_,_,_,hx,_⟩=>by cases hx
 exact⟨v,rfl,fun w2 I2=>k1.pv_inv.flat hf,k3.os,k3.tape,k3.output,k3.size,fun a ha=>k3.froz a ha (hno _),fun b hb=>k3.keep b hb (hno b)⟩
theorem RO.lend {P:Program} {f:FuncId} {args args':List AV} {p:PV} {H H1:aB} {id:Nat} {ob:Ob} (ps:List (List PV)) (h:RO P f args' H1 p) (hH:H.get id=some ob) (hps:ob.rows=ps.map (·.map .pv)) (hl:args.length=args'.length)
  (hz:∀ (i:Nat) (a a':AV),args[i]?=some a→args'[i]?=some a'→Fz H1 id ob.g ps a a') (hs:Sub H1 H) (hc:cZ H1) (hno:H1.get id=none):RO P f args H p:=by
 intro I ι w vs hr hlen hv;refine h (nS I ι id) ι w vs (hr.freeze hs hc hH hno) (by omega) ?_;intro i v a' hi ha';have hlt:i < args.length:=by
  have:=(aLX.1 ha').1;omega
 exact VRel.freeze hr hs hH hps (hz i _ a' (aLY hlt) ha') (hv i v _ hi (aLY hlt))
theorem RO.calls {P:Program} {f:FuncId} {args:List AV} {p:PV} {H:aB} (h:RO P f args H p):aH P f args H (fun r H'=>r=.pv p∧H'=H):=by
 intro I ι w vs hr hl hv;refine(h I ι w vs hr hl hv).mono ?_;rintro e w' ⟨v,rfl,h1,h2,h3,h4,h5,h6,h7⟩;have hst:Step I ι H w I ι H w' :=
  ⟨h2,h3,h4,h5,fun a ha _=>h6 a ha,fun _ h=>h,fun _ h=>.inl h,fun _ h=>.inl h,fun b hb _=>h7 b hb,fun id o ho=>⟨o,ho,aLZ _,fun _=>⟨rfl,rfl,fun _=>aLZ _⟩⟩⟩
 refine⟨.pv p,H,I,ι,v,rfl,⟨rfl,rfl⟩,.pv (h1 _ _),?_,hst⟩;refine⟨fun b hb=>Nat.lt_of_lt_of_le (hr.imm b hb) h5,fun id o ho=>?_,hr.inj,hst.glob hr⟩;exact(hr.obj id o ho).keep rfl (fun b' _ _ hlt=>⟨h7 b' hlt,fun h=>h⟩) (fun r _ a _ v hv=>hv.mono hr hst)
theorem jB {P:Program} {G0:aB} {N:Nat} {Q:Exit→bO→aB→Prop} {E:bO} {H:aB} {cc:Code} {α β:Type} (S:α→β→bO×aB) (J:α→β→Prop) (μ:α→β→Nat) (a0:α) (b0:β) (h0:J a0 b0) (hin:cD G0 E H (S a0 b0).1 (S a0 b0).2)
  (round:∀ a b,J a b→fE P G0 N cc (vC (fun E' H'=>∃ a' b',J a' b'∧μ a' b' < μ a b∧cD G0 E' H' (S a' b').1 (S a' b').2) Q) (S a b).1 (S a b).2):fE P G0 N (.loop cc) Q E H:=by
 refine bQ (σ:=α×β) (fun s=>S s.1 s.2) (fun s=>J s.1 s.2) (fun s=>μ s.1 s.2) (a0,b0) h0 hin ?_;intro s hs;have h:=round s.1 s.2 hs;have e:(fun(E':bO) (H':aB)=>∃ s':α×β,J s'.1 s'.2∧μ s'.1 s'.2 < μ s.1 s.2∧cD G0 E' H' (S s'.1 s'.2).1 (S s'.1 s'.2).2)=(fun E' H'=>∃ a' b',J a' b'∧μ a' b' < μ s.1 s.2∧cD G0 E' H' (S a' b').1 (S a' b').2):=by
  funext E' H';exact propext ⟨fun⟨s',h⟩=>⟨s'.1,s'.2,h⟩,fun⟨a',b',h⟩=>⟨(a',b'),h⟩⟩
 rw [e];exact h
theorem N1 {P:Program} {G0:aB} {N:Nat} {Q:Exit→bO→aB→Prop} {E:bO} {H:aB} {cc:Code} {α β γ:Type} (S:α→β→γ→bO×aB) (J:α→β→γ→Prop) (μ:α→β→γ→Nat) (a0:α) (b0:β) (c0:γ) (h0:J a0 b0 c0) (hin:cD G0 E H (S a0 b0 c0).1 (S a0 b0 c0).2)
  (round:∀ a b c,J a b c→fE P G0 N cc (vC (fun E' H'=>∃ a' b' c',J a' b' c'∧μ a' b' c' < μ a b c∧cD G0 E' H' (S a' b' c').1 (S a' b' c').2) Q) (S a b c).1 (S a b c).2):fE P G0 N (.loop cc) Q E H:=by
 refine bQ (σ:=α×β×γ) (fun s=>S s.1 s.2.1 s.2.2) (fun s=>J s.1 s.2.1 s.2.2) (fun s=>μ s.1 s.2.1 s.2.2) (a0,b0,c0) h0 hin ?_;intro s hs;have h:=round s.1 s.2.1 s.2.2 hs;have e:(fun(E':bO) (H':aB)=>∃ s':α×β×γ,J s'.1 s'.2.1 s'.2.2∧μ s'.1 s'.2.1 s'.2.2 < μ s.1 s.2.1 s.2.2∧cD G0 E' H' (S s'.1 s'.2.1 s'.2.2).1 (S s'.1 s'.2.1 s'.2.2).2)=(fun E' H'=>∃ a' b' c',J a' b' c'∧μ a' b' c' < μ s.1 s.2.1 s.2.2∧cD G0 E' H' (S a' b' c').1 (S a' b' c').2):=by
  funext E' H';exact propext ⟨fun⟨s',h⟩=>⟨s'.1,s'.2.1,s'.2.2,h⟩,fun⟨a',b',c',h⟩=>⟨(a',b',c'),h⟩⟩
 rw [e];exact h
theorem N0 {P:Program} {G0:aB} {N:Nat} {Q:Exit→bO→aB→Prop} {E:bO} {H:aB} {cc:Code} {α β γ δ:Type} (S:α→β→γ→δ→bO×aB) (J:α→β→γ→δ→Prop) (μ:α→β→γ→δ→Nat) (a0:α) (b0:β) (c0:γ) (d0:δ) (h0:J a0 b0 c0 d0) (hin:cD G0 E H (S a0 b0 c0 d0).1 (S a0 b0 c0 d0).2)
  (round:∀ a b c d,J a b c d→fE P G0 N cc (vC (fun E' H'=>∃ a' b' c' d',J a' b' c' d'∧μ a' b' c' d' < μ a b c d∧cD G0 E' H' (S a' b' c' d').1 (S a' b' c' d').2) Q) (S a b c d).1 (S a b c d).2):fE P G0 N (.loop cc) Q E H:=by
 refine bQ (σ:=α×β×γ×δ) (fun s=>S s.1 s.2.1 s.2.2.1 s.2.2.2) (fun s=>J s.1 s.2.1 s.2.2.1 s.2.2.2) (fun s=>μ s.1 s.2.1 s.2.2.1 s.2.2.2) (a0,b0,c0,d0) h0 hin ?_;intro s hs;have h:=round s.1 s.2.1 s.2.2.1 s.2.2.2 hs;have e:(fun(E':bO) (H':aB)=>∃ s':α×β×γ×δ,J s'.1 s'.2.1 s'.2.2.1 s'.2.2.2∧μ s'.1 s'.2.1 s'.2.2.1 s'.2.2.2 < μ s.1 s.2.1 s.2.2.1 s.2.2.2∧cD G0 E' H' (S s'.1 s'.2.1 s'.2.2.1 s'.2.2.2).1 (S s'.1 s'.2.1 s'.2.2.1 s'.2.2.2).2)=(fun E' H'=>∃ a' b' c' d',J a' b' c' d'∧μ a' b' c' d' < μ s.1 s.2.1 s.2.2.1 s.2.2.2∧cD G0 E' H' (S a' b' c' d').1 (S a' b' c' d').2):=by
  funext E' H';exact propext ⟨fun⟨s',h⟩=>⟨s'.1,s'.2.1,s'.2.2.1,s'.2.2.2,h⟩,fun⟨a',b',c',d',h⟩=>⟨(a',b',c',d'),h⟩⟩
 rw [e];exact h
theorem aF7 {α:Type} (f:α→List PV) (l:List α) (H:aB):∀ r∈l.map (fun e=>(f e).map AV.pv),∀ a∈r,Clo H a:=by intro r hr a ha;obtain ⟨e,_,rfl⟩:=List.mem_map.1 hr;obtain ⟨p,_,rfl⟩:=List.mem_map.1 ha;exact .pv p
theorem nL {H:aB} {id g:Nat} {ps:List (List PV)}:∀ (i:Nat) (a a':AV),([]:List AV)[i]?=some a→([]:List AV)[i]?=some a'→Fz H id g ps a a':=fun i a a' h=>by cases h
theorem cI {H:aB} {id g:Nat} {ps:List (List PV)} {x x':AV} {l l':List AV} (h:Fz H id g ps x x') (hr:∀ (i:Nat) (a a':AV),l[i]?=some a→l'[i]?=some a'→Fz H id g ps a a') :
  ∀ (i:Nat) (a a':AV),(x::l)[i]?=some a→(x'::l')[i]?=some a'→Fz H id g ps a a'
 | 0,a,a',h1,h2=>by cases h1;cases h2;exact h
 | i+1,a,a',h1,h2=>hr i a a' h1 h2
inductive Nz (H':aB) (id:Nat):AV→AV→Prop
 | same {a:AV} (h:Clo H' a):Nz H' id a a
 | own:Nz H' id (.pv .nils) (.osl id 0 0 0)
 | weak:Nz H' id (.pv .nils) (.pv (.sl []))
 | agg {cs cs':List AV} (hl:cs.length=cs'.length) (h:∀ (i:Nat) (a a':AV),cs[i]?=some a→cs'[i]?=some a'→Nz H' id a a'):Nz H' id (.agg cs) (.agg cs')
 | tup {cs cs':List AV} (hl:cs.length=cs'.length) (h:∀ (i:Nat) (a a':AV),cs[i]?=some a→cs'[i]?=some a'→Nz H' id a a'):Nz H' id (.tup cs) (.tup cs')
def YS (H H':aB):Prop:=∀ j o',H'.get j=some o'→∃ o,H.get j=some o∧o.g=o'.g∧o.sz=o'.sz∧o.ty=o'.ty∧o.rows.length=o'.rows.length
theorem VRel.alike {w:World} {I:Nat→Prop} {ι:dR} {H H':aB} (hs:YS H H') {v:Value} {a:AV} (h:VRel w I ι H v a):Clo H' a→VRel w I ι H' v a:=by
 induction h with
 | any v=>exact fun _=>.any v
 | pv h=>exact fun _=>.pv h
 | ref o hH hg h1 h =>
  intro hc;rw [oV] at hc;obtain ⟨o',ho'⟩:=Option.isSome_iff_exists.1 hc;obtain ⟨o2,e1,e2,e3,e4,e5⟩:=hs _ o' ho';rw [hH] at e1;cases e1;exact .ref o' ho' (by omega) h1 (fun e=>by rw [← e3];exact h (by omega))
 | pad b off cap sz h hsz hlen cs hI hc hp=>exact fun _=>.pad b off cap sz h hsz hlen cs hI hc hp
 | osl o hH hg h1 h =>
  intro hc;rw [aF5] at hc;obtain ⟨o',ho'⟩:=Option.isSome_iff_exists.1 hc;obtain ⟨o2,e1,e2,e3,e4,e5⟩:=hs _ o' ho';rw [hH] at e1;cases e1;exact .osl o' ho' (by omega) h1 (fun e=>by rw [← e3,← e5];exact h (by omega))
 | clo hl h ih =>
  intro hc;rw [aF8] at hc;exact .clo hl (fun i v a hv ha=>ih i v a hv ha (hc a (aL3 ha)))
 | bnd hl h ih =>
  intro hc;rw [aF9] at hc;exact .bnd hl (fun i v a hv ha=>ih i v a hv ha (hc a (aL3 ha)))
 | agg hl h1 h ih =>
  intro hc;rw [PZ] at hc;exact .agg hl h1 (fun i v a hv ha=>ih i v a hv ha (hc a (aL3 ha)))
 | tup hl h ih =>
  intro hc;rw [aF4] at hc;exact .tup hl (fun i v a hv ha=>ih i v a hv ha (hc a (aL3 ha)))
 | mp o hH hg h1 h =>
  intro hc;rw [aHj] at hc;obtain ⟨o',ho'⟩:=Option.isSome_iff_exists.1 hc;obtain ⟨o2,e1,e2,e3,e4,e5⟩:=hs _ o' ho';rw [hH] at e1;cases e1;exact .mp o' ho' (by omega) h1 (fun e=>by rw [← e3];exact h (by omega))
 | it o hH hg h1 h =>
  intro hc;rw [aHk] at hc;obtain ⟨o',ho'⟩:=Option.isSome_iff_exists.1 hc;obtain ⟨o2,e1,e2,e3,e4,e5⟩:=hs _ o' ho';rw [hH] at e1;cases e1;exact .it o' ho' (by omega) h1 (fun e=>by rw [← e3];exact h (by omega))
 | yld o hH hg h1 h =>
  intro hc;rw [aF3] at hc;obtain ⟨o',ho'⟩:=Option.isSome_iff_exists.1 hc;obtain ⟨o2,e1,e2,e3,e4,e5⟩:=hs _ o' ho';rw [hH] at e1;cases e1;exact .yld o' ho' (by omega) h1 (fun e=>by rw [← e3];exact h (by omega))
 | osc o hH hg h1 h =>
  intro hc;rw [aF6] at hc;obtain ⟨o',ho'⟩:=Option.isSome_iff_exists.1 hc;obtain ⟨o2,e1,e2,e3,e4,e5⟩:=hs _ o' ho';rw [hH] at e1;cases e1;exact .osc o' ho' (by omega) h1 (fun e=>by rw [← e3];exact h (by omega))
theorem Nz.raw {H':aB} {id:Nat} {a a':AV} (h:Nz H' id a a') {y:Go.Loop} {ts:List Nat} (e:a'=.raw y ts):a=.raw y ts:=by cases h<;>first|exact e|cases e
theorem VRel.nz {w:World} {I:Nat→Prop} {ι:dR} {H H':aB} {id:Nat} {ob:Ob} (hs:YS H H') (hι:ι id=none) (hid:H'.get id=some ob) (hg:ob.g=0) (hpos:0 < ob.sz) {a a':AV} (hn:Nz H' id a a'):∀ {v:Value},VRel w I ι H v a→VRel w I ι H' v a':=by
 induction hn with
 | same h=>exact fun hv=>hv.alike hs h
 | own =>
  intro v hv;have:=hv.pv_inv;cases this;exact .osl ob hid (by omega) rfl (fun _=>⟨hpos,by omega,.inr ⟨hι,rfl,rfl,rfl⟩⟩)
 | weak =>
  intro v hv;have:=hv.pv_inv;cases this;exact .pv .nilsl
 | @agg cs cs' hl h ih =>
  intro v hv;cases hv with
  | agg hl2 h1 h2 =>
   refine .agg (hl2.trans hl) h1 (fun i u a' hu ha'=>?_);have ha:=List.getElem?_eq_getElem (l:=cs) (i:=i) (by have:=(aLX.1 ha').1;omega);exact ih i _ a' ha ha' (h2 i u _ hu ha)
 | @tup cs cs' hl h ih =>
  intro v hv;cases hv with
  | tup hl2 h2 =>
   refine .tup (hl2.trans hl) (fun i u a' hu ha'=>?_);have ha:=List.getElem?_eq_getElem (l:=cs) (i:=i) (by have:=(aLX.1 ha').1;omega);exact ih i _ a' ha ha' (h2 i u _ hu ha)
def NzL (H:aB) (id:Nat):List AV→List AV→Prop
 | [],[]=>True
 | a::l,b::r=>Nz H id a b∧NzL H id l r
 | _,_=>False
theorem NzL.spec {H:aB} {id:Nat}:∀ {l r:List AV},NzL H id l r→l.length=r.length∧∀ (k:Nat) (a b:AV),l[k]?=some a→r[k]?=some b→Nz H id a b
 | [],[],_=>⟨rfl,fun k a b h=>by simp at h⟩
 | a::l,b::r,h=>⟨by simp [(NzL.spec h.2).1],fun k x y h1 h2=>by
   cases k with
   | zero=>cases h1;cases h2;exact h.1
   | succ k=>exact(NzL.spec h.2).2 k x y h1 h2⟩
 | [],_::_,h=>h.elim
 | _::_,[],h=>h.elim
def NzR (H:aB) (id:Nat) (rows rows':List (List AV)):Prop:=(rows=rows'∧∀ r∈rows',∀ a∈r,Clo H a)∨∃ r r',rows=[r]∧rows'=[r']∧NzL H id r r'
theorem NzR.spec {H:aB} {id:Nat} {rows rows':List (List AV)} (h:NzR H id rows rows'):rows.length=rows'.length∧∀ (i:Nat) (r':List AV),rows'[i]?=some r'→∃ r,rows[i]?=some r∧r.length=r'.length∧∀ (k:Nat) (b:AV),r'[k]?=some b→∃ a,r[k]?=some a∧Nz H id a b:=by
 rcases h with⟨rfl,hc⟩|⟨r,r',rfl,rfl,hl⟩
 ·exact⟨rfl,fun i r' hr=>⟨r',hr,rfl,fun k b hb=>⟨b,hb,.same (hc r' (aL3 hr) b (aL3 hb))⟩⟩⟩
 refine⟨rfl,fun i r2 hr=>?_⟩;cases i with
 | zero =>
  cases hr;obtain ⟨e1,e2⟩:=hl.spec;refine⟨r,rfl,e1,fun k b hb=>?_⟩;have hlt:=(aLX.1 hb).1;exact⟨r[k],aLY (by omega),e2 k _ b (aLY (by omega)) hb⟩
 | succ i=>simp at hr
def NzE (E:bO) (H:aB) (id:Nat):bO→Prop
 | []=>True
 | (t,v)::r=>(∃ v0,E.get t=some v0∧Nz H id v0 v)∧NzE E H id r
theorem NzE.spec {E:bO} {H:aB} {id:Nat}:∀ {E':bO},NzE E H id E'→∀ p∈E',∃ v0,E.get p.1=some v0∧Nz H id v0 p.2
 | (t,v)::r,h,p,hp=>by
  rcases aL5.1 hp with e|e
  ·subst e;exact h.1
  exact NzE.spec h.2 p e
def NzH (H H2:aB) (id:Nat):aB→Prop
 | []=>True
 | (j,o')::r=>(∃ o,H.get j=some o∧o.g=o'.g∧o.sz=o'.sz∧o.ty=o'.ty∧NzR H2 id o.rows o'.rows)∧NzH H H2 id r
theorem NzH.spec {H H2:aB} {id:Nat}:∀ {H':aB},NzH H H2 id H'→∀ p∈H',∃ o,H.get p.1=some o∧o.g=p.2.g∧o.sz=p.2.sz∧o.ty=p.2.ty∧NzR H2 id o.rows p.2.rows
 | (j,o')::r,h,p,hp=>by
  rcases aL5.1 hp with e|e
  ·subst e;exact h.1
  exact NzH.spec h.2 p e
theorem cD.nz {G0:aB} {E E':bO} {H H':aB} (id sz ty:Nat) (hid:H.get id=none) (hsz:Nat.blt 0 sz=true) (hE:NzE E ((id,⟨0,sz,ty,[]⟩)::H') id E') (hH:NzH H ((id,⟨0,sz,ty,[]⟩)::H') id H') (hk:KOk ((id,⟨0,sz,ty,[]⟩)::H') H G0) :
  cD G0 E H E' ((id,⟨0,sz,ty,[]⟩)::H'):=by
 intro G hG N a w hs;obtain ⟨I,ι,hr,hst,he⟩:=hs.rel;obtain ⟨a1,a2⟩:=hr.adopt (sz:=sz) (ty:=ty) hid (by simpa [Nat.blt_eq] using hsz);have hpz:0 < sz:=by simpa [Nat.blt_eq] using hsz
 obtain ⟨ι',hι'⟩:∃ ι':dR,ι'=(fun j=>if j=id then none else ι j):=⟨_,rfl⟩;rw [← hι'] at a1 a2;have hιid:ι' id=none:=by rw [hι'];simp
 obtain ⟨H1,hH1⟩:∃ H1:aB,H1=(id,(⟨0,sz,ty,[]⟩:Ob))::H:=⟨_,rfl⟩;obtain ⟨H2,hH2⟩:∃ H2:aB,H2=(id,(⟨0,sz,ty,[]⟩:Ob))::H':=⟨_,rfl⟩;rw [← hH1] at a1 a2;rw [← hH2] at hE hH hk ⊢;have g1:H1.get id=some ⟨0,sz,ty,[]⟩:=by rw [hH1];simp [aB.get]
 have g2:H2.get id=some ⟨0,sz,ty,[]⟩:=by rw [hH2];simp [aB.get]
 have n1:∀ j,j≠id→H1.get j=H.get j:=fun j e=>by rw [hH1];simp [aB.get,jA (Ne.symm e)]
 have n2:∀ j,j≠id→H2.get j=H'.get j:=fun j e=>by rw [hH2];simp [aB.get,jA (Ne.symm e)]
 have hobj:∀ j o',H2.get j=some o'→∃ o,H1.get j=some o∧o.g=o'.g∧o.sz=o'.sz∧o.ty=o'.ty∧NzR H2 id o.rows o'.rows:=by
  intro j o' ho;by_cases e:j=id
  ·subst e;rw [g2] at ho;cases ho;exact⟨_,g1,rfl,rfl,rfl,.inl ⟨rfl,by simp⟩⟩
  rw [n2 j e] at ho;obtain ⟨o,e1,e2⟩:=hH.spec _ (cR ho);exact⟨o,(n1 j e).trans e1,e2⟩
 have hal:YS H1 H2:=fun j o' ho=>by
  obtain ⟨o,e1,e2,e3,e4,e5⟩:=hobj j o' ho;exact⟨o,e1,e2,e3,e4,e5.spec.1⟩
 have hown:∀ b,GG ι' H2 b→GG ι' H1 b:=by
  rintro b ⟨j,o',c,ho,hb⟩;obtain ⟨o,e1,_⟩:=hobj j o' ho;exact⟨j,o,c,e1,hb⟩
 have hrel:Rel I ι' H2 w:=by
  refine⟨a1.imm,fun j o' ho=>?_,fun j j' o o' b c c' hj hj'=>?_,a1.glob⟩
  ·obtain ⟨o,e1,e2,e3,e4,e5⟩:=hobj j o' ho;obtain ⟨s1,s2⟩:=e5.spec;refine(a1.obj j o e1).keepG e3.symm e4.symm s1.symm (RJ s1 (fun i r' hi=>by
    obtain ⟨r,t1,t2,t3⟩:=s2 i r' hi;refine⟨r,t1,t2,fun k a a' h1 h2 y ts e=>?_⟩;obtain ⟨z,u1,u2⟩:=t3 k a' h2;rw [h1] at u1;cases u1;exact u2.raw e)) rfl (fun _ _ _ _=>⟨rfl,fun h=>h⟩) (fun i r' hi=>?_)
   obtain ⟨r,t1,t2,t3⟩:=s2 i r' hi;refine⟨r,t1,t2,fun k a a' h1 h2 v hv=>?_⟩;obtain ⟨y,u1,u2⟩:=t3 k a' h2;rw [h1] at u1;cases u1;exact VRel.nz hal hιid g2 rfl hpz u2 hv
  obtain ⟨o1,e1,_⟩:=hobj j o hj;obtain ⟨o2,e2,_⟩:=hobj j' o' hj';exact a1.inj j j' o1 o2 b c c' e1 e2
 have hst1:=hst.trans a2;have hst2:Step G.I G.ι G.H G.w I ι' H2 w:=by
  refine⟨hst1.os,hst1.tape,hst1.output,hst1.size,hst1.froz,hst1.imm,hst1.immNew,fun b hb=>hst1.own b (hown b hb),hst1.keep,fun j o hj=>?_⟩;obtain ⟨o1,e1,e2⟩:=hst1.objs j o hj;subst hG;have hkk:=hk.kept j (by rw [hj];rfl);by_cases e:j=id
  ·subst e;obtain ⟨o0,e0,_⟩:=hst.objs j o hj;rw [hid] at e0;cases e0
  rw [n1 j e] at e1;exact⟨o1,hkk.trans e1,e2⟩
 refine⟨hs.defers,hs.size,I,ι',hrel,hst2,fun t v hv=>?_⟩;obtain ⟨v0,f1,f2⟩:=hE.spec _ (fA hv);obtain ⟨c,c1,c2⟩:=he t v0 f1;exact⟨c,c1,VRel.nz hal hιid g2 rfl hpz f2 (c2.mono hr a2)⟩
end Go.Abs
namespace Go.Abs
open Go.Proofs.YtiifmppaejpemaaGreatDoor
section
theorem aCy {H:Type} (d:DataW H):1≤Rows.uptoBulk d:=by
 cases d with
 | lit l=>cases l<;>simp [Rows.uptoBulk]
 | _=>simp [Rows.uptoBulk]
theorem aCz {H:Type} {d:DataW H} {l:List (DataW H)} (h:d∈l):Rows.uptoBulk d≤Rows.uptoBulkAll l:=by
 induction l with
 | nil=>cases h
 | cons x r ih =>
  simp only [Rows.uptoBulkAll];rcases aL5.1 h with e|e
  ·subst e;omega
  have:=ih e;omega
theorem aDA {H:Type} (l:List (DataW H)):l.length≤Rows.uptoBulkAll l:=by
 induction l with
 | nil=>simp
 | cons x r ih=>have:=aCy x;simp only [Rows.uptoBulkAll,aLV];omega
inductive PL (w:World) (I:Nat→Prop):List Value→List PV→Prop
 | nil:PL w I [] []
 | cons {c:Value} {p:PV} {cs:List Value} {ps:List PV} (h:PRep w I c p) (r:PL w I cs ps):PL w I (c::cs) (p::ps)
theorem PL.length {w:World} {I:Nat→Prop} {cs:List Value} {ps:List PV} (h:PL w I cs ps):cs.length=ps.length:=by
 induction h with
 | nil=>rfl
 | cons h r ih=>simp [ih]
theorem PL.append {w:World} {I:Nat→Prop} {cs cs':List Value} {ps ps':List PV} (h:PL w I cs ps) (h':PL w I cs' ps'):PL w I (cs++cs') (ps++ps'):=by
 induction h with
 | nil=>exact h'
 | cons h r ih=>exact .cons h ih
theorem PL.get {w:World} {I:Nat→Prop} {cs:List Value} {ps:List PV} (h:PL w I cs ps):∀ (k:Nat) (c:Value) (p:PV),cs[k]?=some c→ps[k]?=some p→PRep w I c p:=by
 induction h with
 | nil=>intro k c p h;simp at h
 | cons h r ih =>
  intro k c p hc hp;cases k with
  | zero=>cases hc;cases hp;exact h
  | succ k=>exact ih k c p hc hp
def BV (P:Program):Nat→List Field→Nat→Bool
 | o,[],n=>Nat.beq o n
 | o,f::r,n=>Nat.beq f.offset o&&BV P (o+P.cellsOf f.type) r n
def GD (P:Program) (e:TypeId):Nat→Nat→List Field
 | _,0=>[]
 | o,k+1=>⟨"",e,o,false, "", "",0⟩::GD P e (o+P.cellsOf e) k
theorem FG {P:Program} {e:TypeId}:∀ {o k:Nat},(GD P e o k).length=k
 | _,0=>rfl
 | o,k+1=>congrArg Nat.succ (FG (o:=o+P.cellsOf e) (k:=k))
theorem N3 {P:Program} {e:TypeId}:∀ {k o i:Nat} {f:Field},(GD P e o k)[i]?=some f→f.type=e∧f.offset=o+i*P.cellsOf e
 | 0,o,i,f,h=>by cases h
 | k+1,o,0,f,h=>by
  obtain rfl:=Option.some.inj h;exact⟨rfl,by rw [Nat.zero_mul];rfl⟩
 | k+1,o,i+1,f,h=>by
  have:=N3 (k:=k) (i:=i) (show (GD P e (o+P.cellsOf e) k)[i]?=some f from h);refine⟨this.1,?_⟩;rw [this.2,Nat.add_mul];omega
def wZ (P:Program):Nat→TypeId→Bool
 | 0,_=>false
 | n+1,t=>match P.underlying t with
  | some .bool=>true
  | some (.int _)=>true
  | some .string=>true
  | some (.slice e)=>wZ P n e&&Nat.blt 0 (P.cellsOf e)
  | some (.struct fs)=>BV P 0 fs.toList (P.cellsOf t)&&fs.toList.all fun f=>wZ P n f.type
  | some (.array k e)=>BV P 0 (GD P e 0 k) (P.cellsOf t)&&(GD P e 0 k).all fun f=>wZ P n f.type
  | _=>false
def ShF (S:TypeId→List PV→Prop) (c:TypeId→Nat):List Field→List PV→Prop
 | [],ps=>ps=[]
 | f::r,ps=>∃ a b,ps=a++b∧a.length=c f.type∧S f.type a∧ShF S c r b
def Sh (P:Program) (B:Nat):Nat→TypeId→List PV→Prop
 | 0,_,_=>False
 | n+1,t,ps=>match P.underlying t with
  | some .bool=>∃ b,ps=[.bool b]
  | some (.int k)=>∃ i,ps=[.int k i]∧(Lit.int k i).wf=true
  | some .string=>∃ s,ps=[.str s]∧s.size≤B
  | some (.slice e)=>∃ rows,ps=[.sl rows]∧rows.length≤B∧∀ r∈rows,r.length=P.cellsOf e∧Sh P B n e r
  | some (.struct fs)=>ShF (fun t ps=>Sh P B n t ps) P.cellsOf fs.toList ps
  | some (.array k e)=>ShF (fun t ps=>Sh P B n t ps) P.cellsOf (GD P e 0 k) ps
  | _=>False
abbrev YP (W:World):Nat→Prop:=fun b=>b < W.heap.size
theorem aBz {W:World} {a:Addr} {v:Value} (h:W.cell? a=some v):a.spot=none∧YP W a.block:=by
 unfold World.cell? at h
 split at h
 ·next c t fr e =>
  refine⟨?_,(Array.getElem?_eq_some_iff.1 e).1⟩;cases hs:a.spot with
  | none=>rfl
  | some k=>rw [hs] at h;simp at h
 cases h
section
variable {H:Type} {enc:TypeId×Value→H} {P:Program} {W:World} {B:Nat}
theorem NT {P:Program}:∀ {fs:List Field} {o n:Nat},BV P o fs n=true→o≤n
 | [],o,n,h=>Nat.le_of_eq (Nat.eq_of_beq_eq_true h)
 | f::fs,o,n,h=>by
  simp only [BV,aL2] at h;have:=NT h.2;omega
theorem E4 {m n:Nat} {cs:List Value} (hn:∀ (t:TypeId) (cs:List Value) (x:DataW H×List MemPlace),wZ P n t=true→DataW.trod enc P W 0 (fun _=>true) true m t cs=some x→Rows.uptoBulk x.1≤B→∃ ps,PL W (YP W) cs ps∧Sh P B n t ps) :
  ∀ (fs:List Field) (xs:List (DataW H×List MemPlace)) (o:Nat),BV P o fs cs.length=true→(fs.all fun f=>wZ P n f.type)=true→xs.length=fs.length →
   (∀ (i:Nat) (f:Field),fs[i]?=some f→DataW.trod enc P W 0 (fun _=>true) true m f.type ((cs.drop f.offset).take (P.cellsOf f.type))=xs[i]?)→Rows.uptoBulkAll (xs.map (·.1))≤B →
   ∃ ps,PL W (YP W) (cs.drop o) ps∧ShF (fun t ps=>Sh P B n t ps) P.cellsOf fs ps
 | [],xs,o,hc,_,hl,hx,hb=>by
  have:o=cs.length:=Nat.eq_of_beq_eq_true hc;subst this;exact⟨[],by rw [List.drop_length];exact .nil,rfl⟩
 | f::fs,[],o,hc,_,hl,hx,hb=>by simp at hl
 | f::fs,x::xs,o,hc,hp,hl,hx,hb=>by
  simp only [BV,aL2] at hc;have ho:f.offset=o:=Nat.eq_of_beq_eq_true hc.1;simp only [List.all_cons,aL2] at hp;simp only [List.map_cons,Rows.uptoBulkAll] at hb;have h0:=hx 0 f rfl;simp only [List.getElem?_cons_zero] at h0;rw [ho] at h0;obtain ⟨a,a1,a2⟩:=hn f.type _ x hp.1 h0 (by omega);obtain ⟨b,b1,b2⟩:=E4 hn fs xs (o+P.cellsOf f.type) hc.2 hp.2 (by simpa using hl) (fun i g hg=>hx (i+1) g hg) (by omega);have hle:=NT hc.2;have hal:a.length=P.cellsOf f.type:=by
   rw [← a1.length,aL7,aL8];omega
  refine⟨a++b,?_,a,b,rfl,hal,a2,b2⟩;have:=a1.append b1
  rwa [← List.drop_drop,List.take_append_drop] at this
theorem GS:∀ (n:Nat) (t:TypeId),wZ P n t=true→∀ (m:Nat) (cs:List Value) (x:DataW H×List MemPlace),DataW.trod enc P W 0 (fun _=>true) true m t cs=some x→Rows.uptoBulk x.1≤B→∃ ps,PL W (YP W) cs ps∧Sh P B n t ps
 | 0,t,hp,m,cs,x,h,hb=>by cases hp
 | n + 1, t, hp, m, cs, x, h, hb => by
  unfold wZ at hp
  split at hp
  ·next ht =>
   obtain ⟨b,rfl,rfl⟩:=DataW.trod_bool ht h;exact⟨[.bool b],.cons (.bool b) .nil,by unfold Sh;rw [ht];exact⟨b,rfl⟩⟩
  ·next k ht =>
   obtain ⟨i,rfl,rfl,hw⟩:=DataW.trod_int ht h;exact⟨[.int k i],.cons (.int k i) .nil,by unfold Sh;rw [ht];exact⟨i,rfl,hw⟩⟩
  ·next ht =>
   obtain ⟨s,rfl,rfl,hs⟩:=DataW.trod_string ht h;have hsz:s.size≤B:=by
    have e1:s.data.toList.length=s.size:=Array.length_toList;simp only [Rows.uptoBulk] at hb;omega
   exact⟨[.str s],.cons (.str s) .nil,by unfold Sh;rw [ht];exact⟨s,rfl,hsz⟩⟩
  ·next e ht =>
   simp only [aL2,Nat.blt_eq] at hp;obtain ⟨hpe,hsz⟩:=hp;rcases DataW.trod_slice ht h with⟨rfl,rfl⟩|⟨a,len,cap,elems,rest,m',rfl,rfl,rfl,_,hlc,hmax,hlen,hel,hre,_⟩
   ·exact⟨[.sl []],.cons .nilsl .nil,by unfold Sh;rw [ht];exact⟨[],rfl,by simp,by simp⟩⟩
   obtain ⟨hrl,hre⟩:=hre rfl;simp only [Rows.uptoBulk] at hb;rcases Nat.eq_zero_or_pos cap with hc0|hcpos
   ·have hl0:len=0:=by omega
    subst hl0 hc0;exact⟨[.sl []],.cons (.empsl a) .nil,by unfold Sh;rw [ht];exact⟨[],rfl,by simp,by simp⟩⟩
   have hcell:∃ v,W.cell? a=some v:=by
    rcases Nat.eq_zero_or_pos len with hl0|hlp
    ·subst hl0;have h0:=hre 0 (by omega);have hr0:=List.getElem?_eq_getElem (l:=rest) (i:=0) (by omega);rw [hr0,Option.bind_eq_some_iff] at h0;obtain ⟨c0,q1,_⟩:=h0;obtain ⟨_,q2,q3⟩:=World.cells?_some q1;have:=q3 0 hsz;simp only [Nat.add_zero,Nat.zero_mul] at this;rw [Addr.add_zero',Addr.add_zero',aLY (by omega)] at this;exact⟨_,this⟩
    have h0:=hel 0 hlp;have hr0:=List.getElem?_eq_getElem (l:=elems) (i:=0) (by omega);rw [hr0,Option.bind_eq_some_iff] at h0;obtain ⟨c0,q1,_⟩:=h0;obtain ⟨_,q2,q3⟩:=World.cells?_some q1;have:=q3 0 hsz;simp only [Nat.zero_mul] at this;rw [Addr.add_zero',Addr.add_zero',aLY (by omega)] at this;exact⟨_,this⟩
   obtain ⟨v0,hv0⟩:=hcell;obtain ⟨hspot,hold⟩:=aBz hv0;obtain ⟨b,off,sp⟩:=a;simp only at hspot hold;subst hspot;have hrow:∀ i,i < len→∃ ps:List PV,∃ ci,W.cells? 0 (Addr.add ⟨b,off,none⟩ (i*P.cellsOf e)) (P.cellsOf e)=some ci∧PL W (YP W) ci ps∧Sh P B n e ps:=by
    intro i hi;have h0:=hel i hi;have hr0:=List.getElem?_eq_getElem (l:=elems) (i:=i) (by omega);rw [hr0,Option.bind_eq_some_iff] at h0;obtain ⟨ci,q1,q2⟩:=h0;have hbi:Rows.uptoBulk (elems[i]'(by omega)).1≤B:=by
     have:=aCz (List.mem_map_of_mem (f:=fun x:DataW H×List MemPlace=>x.1) (List.getElem_mem (l:=elems) (n:=i) (by omega)));omega
    obtain ⟨ps,s1,s2⟩:=GS n e hpe m' ci _ q2 hbi;exact⟨ps,ci,q1,s1,s2⟩
   obtain ⟨rows,r1,r2⟩:∃ rows:List (List PV),rows.length=len∧∀ i r,rows[i]?=some r→∃ ci,W.cells? 0 (Addr.add ⟨b,off,none⟩ (i*P.cellsOf e)) (P.cellsOf e)=some ci∧PL W (YP W) ci r∧Sh P B n e r:=by
    refine⟨(List.range len).map (fun i=>if h:i < len then(hrow i h).choose else[]),by simp,fun i r hr=>?_⟩;rw [aLd] at hr;obtain ⟨j,hj,rfl⟩:=Option.map_eq_some_iff.1 hr;obtain ⟨hlt,hj⟩:=aLX.1 hj;rw [List.getElem_range] at hj;subst hj;have hi:i < len:=by simpa using hlt
    rw [dif_pos hi];exact(hrow i hi).choose_spec
   have hcl:∀ (i:Nat) (r:List PV),rows[i]?=some r→r.length=P.cellsOf e:=fun i r hr=>by
    obtain ⟨ci,c1,c2,c3⟩:=r2 i r hr;rw [← c2.length];exact(World.cells?_some c1).2.1
   refine⟨[.sl rows],.cons ?_ .nil,by
    unfold Sh;rw [ht];refine⟨rows,rfl,?_,fun r hr=>?_⟩
    ·have:=aDA (elems.map (·.1));simp only [aLT] at this;omega
    obtain ⟨i,hi⟩:=aLe.1 hr;obtain ⟨ci,c1,c2,c3⟩:=r2 i r hi;exact⟨hcl i r hi,c3⟩⟩
   rw [← r1];have hcells:∀ (i:Nat) (r:List PV),rows[i]?=some r→∀ (k:Nat) (p:PV),r[k]?=some p→∃ v,W.cell? ⟨b,off+i*P.cellsOf e+k,none⟩=some v∧PRep W (YP W) v p:=by
    intro i r hr k p hk;obtain ⟨ci,c1,c2,c3⟩:=r2 i r hr;obtain ⟨_,d1,d2⟩:=World.cells?_some c1;have hkl:k < P.cellsOf e:=by rw [← hcl i r hr];exact(aLX.1 hk).1
    have e1:=d2 k hkl;rw [Addr.add_lit,Addr.add_lit] at e1;have e2:ci[k]?=some (ci[k]'(by omega)):=aLY (by omega);exact⟨_,e1.trans e2,c2.get k _ p e2 hk⟩
   refine PRep.sl b off cap (P.cellsOf e) rows (fun i k=>(W.cell? ⟨b,off+i*P.cellsOf e+k,none⟩).getD undef) hold hsz (fun r hr=>?_) (by omega) (fun i r hr k p hk=>?_) (fun i r hr k p hk=>?_)
   ·obtain ⟨i,hi⟩:=aLe.1 hr;exact hcl i r hi
   ·obtain ⟨v,v1,v2⟩:=hcells i r hr k p hk;simp [v1]
   obtain ⟨v,v1,v2⟩:=hcells i r hr k p hk;simp [v1,v2]
  ·next fs ht =>
   simp only [aL2] at hp;obtain ⟨xs,m',rfl,rfl,hl,hxl,hf⟩:=DataW.trod_struct ht h;simp only [Rows.uptoBulk] at hb;obtain ⟨ps,p1,p2⟩:=E4 (n:=n) (m:=m') (B:=B) (fun t cs x a b c=>GS n t a m' cs x b c) fs.toList xs 0 (by rw [hl];exact hp.1) hp.2 (by simpa using hxl) (fun i f hi=>hf i f (by simpa using hi)) (by omega);exact⟨ps,by simpa using p1,by unfold Sh;rw [ht];exact p2⟩
  ·next k e ht =>
   simp only [aL2] at hp;obtain ⟨xs,m',rfl,rfl,hl,hxl,hf⟩:=DataW.trod_array ht h;simp only [Rows.uptoBulk] at hb;obtain ⟨ps,p1,p2⟩:=E4 (n:=n) (m:=m') (B:=B) (fun t cs x a b c=>GS n t a m' cs x b c) (GD P e 0 k) xs 0 (by rw [hl];exact hp.1) hp.2 (by rw [FG,hxl]) (fun i f hi=>by
    obtain ⟨g1,g2⟩:=N3 hi;have hlt:i < k:=by
     have:=(aLX.1 hi).1
     rwa [FG] at this
    rw [g1,g2,aLb];exact hf i hlt) (by omega)
   exact⟨ps,by simpa using p1,by unfold Sh;rw [ht];exact p2⟩
  cases hp
end
end
end Go.Abs
namespace Go.Abs
open Go.Proofs.YtiifmppaejpemaaGreatDoor Go.ChangeShapes Go.WideShapes Go.ChangeAt Go.RowKit
section
def YK (P:Program) (t:TypeId) (ps:List PV):AV :=match P.underlying t with
 | some (.struct _)=>.agg (ps.map .pv)
 | some (.array _ _)=>.agg (ps.map .pv)
 | _=>match ps with
  | [p]=>.pv p
  | _=>.any
section
variable {H:Type} {enc:TypeId×Value→H} {P:Program} {W:World} {B:Nat}
theorem PL.toV {I:Nat→Prop} {ι:dR} {Hp:aB} {cs:List Value} {ps:List PV} (h:PL W I cs ps) (i:Nat) (v:Value) (a:AV) (h1:cs[i]?=some v) (h2:(ps.map AV.pv)[i]?=some a):VRel W I ι Hp v a∧v.oneCell'=true:=by rw [aLd] at h2;obtain ⟨p,hp,rfl⟩:=Option.map_eq_some_iff.1 h2;have:=h.get i v p h1 hp;exact⟨.pv this,this.oneCell⟩
theorem aJP {n:Nat} {t:TypeId} {v:Value} {base:Nat} (hp:wZ P n t=true) (hval:Value.okWide P W .any base t v) (hno:∀ fs,P.underlying t=some (.struct fs)→False) (hno2:∀ k e,P.underlying t=some (.array k e)→False):v.cells.toList=[v]:=by
 cases n with
 | zero=>cases hp
 | succ n =>
  unfold wZ at hp;unfold Value.okWide at hval
  split at hp
  ·next ht=>cases v<;>first|rfl|(simp [Cell.okWide,Cell.ok,ht] at hval)
  ·next k ht=>cases v<;>first|rfl|(simp [Cell.okWide,Cell.ok,ht] at hval)
  ·next ht=>cases v<;>first|rfl|(simp [Cell.okWide,Cell.ok,ht] at hval)
  ·next e ht=>cases v<;>first|rfl|(simp [Cell.okWide,Cell.ok,ht] at hval)
  ·next fs ht=>exact(hno fs ht).elim
  ·next k e ht=>exact(hno2 k e ht).elim
  cases hp
theorem aFk {n:Nat} {t:TypeId} {v:Value} {d:DataW H} {p:List MemPlace} {base:Nat} (ι:dR) (Hp:aB) (hp:wZ P n t=true) (hval:Value.okWide P W .any base t v) (h:DataW.Trod enc P W 0 (fun _=>true) true t v d p) (hb:Rows.uptoBulk d≤B) :
  ∃ ps,Sh P B n t ps∧VRel W (YP W) ι Hp v (YK P t ps):=by
 obtain ⟨m,hm⟩:=h;obtain ⟨ps,h1,h2⟩:=GS (B:=B) n t hp m _ _ hm hb;refine⟨ps,h2,?_⟩;unfold YK
 split
 ·next fs ht =>
  unfold Value.okWide at hval;rw [ht] at hval;obtain ⟨cs,rfl,_,_⟩:=hval;have hl:=h1.length;simp only [Value.cells,Array.length_toList] at hl;refine .agg (by simpa using hl) (fun i v hv=>?_) (fun i v a hv ha=>?_)
  ·have hlt:=(Array.getElem?_eq_some_iff.1 hv).1;exact(PL.toV (ι:=ι) (Hp:=Hp) h1 i v (.pv (ps[i]'(by omega))) (by simpa [Value.cells] using hv) (by rw [aLd,aLY (by omega)];rfl)).2
  exact(PL.toV h1 i v a (by simpa [Value.cells] using hv) ha).1
 ·next k e ht =>
  unfold Value.okWide at hval;rw [ht] at hval;obtain ⟨cs,rfl,_,_⟩:=hval;have hl:=h1.length;simp only [Value.cells,Array.length_toList] at hl;refine .agg (by simpa using hl) (fun i v hv=>?_) (fun i v a hv ha=>?_)
  ·have hlt:=(Array.getElem?_eq_some_iff.1 hv).1;exact(PL.toV (ι:=ι) (Hp:=Hp) h1 i v (.pv (ps[i]'(by omega))) (by simpa [Value.cells] using hv) (by rw [aLd,aLY (by omega)];rfl)).2
  exact(PL.toV h1 i v a (by simpa [Value.cells] using hv) ha).1
 next hno hno2 =>
 split
 ·next q =>
  have hone:=aJP hp hval (fun fs h=>hno fs h) (fun k e h=>hno2 k e h);rw [hone] at h1;exact(PL.toV h1 0 _ _ rfl rfl).1
 exact .any v
def GC (P:Program):List TypeId→List (List PV)→List AV
 | t::ts,p::ps=>YK P t p::GC P ts ps
 | _,_=>[]
def N5 (P:Program) (B n:Nat):List TypeId→List (List PV)→Prop
 | [],[]=>True
 | t::ts,p::ps=>Sh P B n t p∧N5 P B n ts ps
 | _,_=>False
theorem ZF {n:Nat} {pss:List (List PV)} (h:N5 P B n [] pss):pss=[]:=by
 cases pss with
 | nil=>rfl
 | cons p ps=>exact h.elim
theorem BD {n:Nat} {t:TypeId} {ts:List TypeId} {pss:List (List PV)} (h:N5 P B n (t::ts) pss):∃ p ps,pss=p::ps∧Sh P B n t p∧N5 P B n ts ps:=by
 cases pss with
 | nil=>exact h.elim
 | cons p ps=>exact⟨p,ps,rfl,h.1,h.2⟩
theorem TI {n:Nat} {base:Nat} (ι:dR) (Hp:aB):∀ {ts:List TypeId} {vs:List Value} {ds:List (DataW H)} {p:List MemPlace},DataW.TrodAll enc P W 0 (fun _=>true) true ts vs ds p→ts.all (wZ P n)=true →
  (∀ (j:Nat) t v,ts[j]?=some t→vs[j]?=some v→Value.okWide P W .any base t v)→Rows.uptoBulkAll ds≤B →
  ∃ pss,N5 P B n ts pss∧vs.length=(GC P ts pss).length∧∀ (i:Nat) (v:Value) (a:AV),vs[i]?=some v→(GC P ts pss)[i]?=some a→VRel W (YP W) ι Hp v a
 | [],vs,ds,p,h,hp,hv,hb=>by
  obtain ⟨rfl,rfl,rfl⟩:=trodAll_nil h;exact⟨[],trivial,rfl,fun i v a h=>by simp at h⟩
 | t::ts,vs,ds,p,h,hp,hv,hb=>by
  obtain ⟨v,vs',d,ds',p1,p2,rfl,rfl,rfl,h1,h2⟩:=trodAll_cons h;simp only [List.all_cons,aL2] at hp;simp only [Rows.uptoBulkAll] at hb;obtain ⟨ps,a1,a2⟩:=aFk (B:=B) ι Hp hp.1 (hv 0 t v rfl rfl) h1 (by omega);obtain ⟨pss,b1,b2,b3⟩:=TI ι Hp h2 hp.2 (fun j t v h1 h2=>hv (j+1) t v h1 h2) (by omega);refine⟨ps::pss,⟨a1,b1⟩,by simp [GC,b2],fun i v a h1 h2=>?_⟩;cases i with
  | zero=>cases h1;cases h2;exact a2
  | succ i=>exact b3 i v a h1 h2
theorem aE1 (ι:dR) (W:World) (hg:KJ (YP W) W):Rel (YP W) ι [] W:=⟨fun _ h=>h,fun _ _ h=>(by cases h),fun _ _ _ _ _ _ _ h=>(by cases h),hg⟩
theorem WJ {I I':Nat→Prop} {ι ι':dR} {H':aB} {w w':World} (h:Step I ι [] w I' ι' H' w'):Below w.heap.size w w' :=⟨h.os,h.tape,h.output,h.size,fun k hk=>h.keep k hk (fun⟨_,_,_,hx,_⟩=>by cases hx)⟩
theorem KB (hl:laidOutB P=true) {W':World} (hb:Below W.heap.size W W') {sp:Nat→Bool}:∀ {ts:List TypeId} {vs:List Value} {ds:List (DataW H)} {p:List MemPlace},DataW.TrodAll enc P W 0 (fun _=>true) true ts vs ds p →
  (ts.all fun t=>P.readableRec t&&Nat.blt t P.types.size)=true→(∀ x∈p,x.block < W.heap.size)→(∀ x∈p,sp x.block=true)→DataW.TrodAll enc P W' 0 sp true ts vs ds p
 | [],vs,ds,p,h,hp,hlt,hsp=>by
  obtain ⟨rfl,rfl,rfl⟩:=trodAll_nil h;exact trodAll_mk0
 | t::ts,vs,ds,p,h,hp,hlt,hsp=>by
  obtain ⟨v,vs',d,ds',p1,p2,rfl,rfl,rfl,h1,h2⟩:=trodAll_cons h;simp only [List.all_cons,aL2,Nat.blt_eq] at hp;exact trodAll_cons_mk (WideElems.Trod_stays hl hp.1.1 hp.1.2 h1 (fun x hx=>hb.same (hlt x (by simp [hx]))) (fun x hx=>hsp x (by simp [hx])))
   (KB hl hb h2 hp.2 (fun x hx=>hlt x (by simp [hx])) (fun x hx=>hsp x (by simp [hx])))
theorem UV {f:Func} {s:ChangeSpec} {apart fresh handsOn again:Bool} {W W':World} {args:Array Value} {v:Value} {ds gs:List (DataW H)} {fB pa pv:List MemPlace}
  (hW:DataW.Whole enc P f.params.toList s.vars apart W args.toList ds gs fB)
  (hres:∀ (b:Nat) (sp:Nat→Bool) (hd:Bool),DataW.TrodAll enc P W' b sp hd f.resultTypes.toList (v.resultList f.resultTypes.size) (s.fn H (ds++gs)).results [])
  (hargs:∀ sp:Nat→Bool,(∀ p∈fB,sp p.block=true)→DataW.TrodAll enc P W' 0 sp true f.params.toList args.toList (s.fn H (ds++gs)).args pa)
  (hvars:∀ sp:Nat→Bool,(∀ p∈fB,sp p.block=true)→DataW.TrodVars enc P W' sp s.vars (s.fn H (ds++gs)).vars pv)
  (hps:fB=pa++pv) (hb:Below W.heap.size W W')
  (hok:∀ (j:Nat) (t:TypeId) (r:Value),f.resultTypes[j]?=some t→(v.resultList f.resultTypes.size)[j]?=some r→Value.okWide P W' .any 0 t r) :
  s.post enc P f apart fresh handsOn again W args v W':=by
 have hlt:∀ p∈fB,p.block < W.heap.size:=fun p hp=>hW.lt p hp;have hold:∀ p∈fB,(fun b=>decide (b < W.heap.size)) p.block=true:=fun p hp=>by simpa using hlt p hp
 refine⟨ds,gs,fB,[],pa,pv,hW,hres _ _ _,hargs _ hold,hvars _ hold,World.keptBut_mono (fun p hp=>⟨hp,?_⟩) (hb.frame (·∈fB)),fun _=>?_⟩
 ·rw [hps,List.mem_append] at hp;exact Or.inr hp
 obtain ⟨_,_,_,_,_,hz,hn⟩:=hW;refine⟨hok,_,_,([]++pa)++pv,⟨[]++pa,pv,trodAll_append (hargs _ (fun _ _=>rfl)) (hres _ _ _),hvars _ (fun _ _=>rfl),rfl,?_,?_⟩,?_⟩
 ·intro b off hp;have hin:MemPlace.cell b off∈fB:=by rw [hps];simpa using hp
  rw [hb.frozen (hlt _ hin)];exact hz b off hin
 ·intro ha;have:=hn ha;rw [hps] at this
  simpa using this
 intro p hp _;rw [hps]
 simpa using hp
theorem aCU {n:Nat} {fid:FuncId} {f:Func} {s:ChangeSpec} {apart fresh handsOn again:Bool} {args:Array Value} {ds gs:List (DataW H)} {fB:List MemPlace} {base:Nat} {bt:TypeId}
  (hl:laidOutB P=true) (hpar:(f.params.toList.all fun t=>P.readableRec t&&Nat.blt t P.types.size)=true) (hpure:f.params.toList.all (wZ P n)=true) (hvars:s.vars=[])
  (hfn:∀ ds:List (DataW H),ds.length=f.params.toList.length→(s.fn H ds).results=[.lit (.bool true)]∧(s.fn H ds).args=ds∧(s.fn H ds).vars=[])
  (hres:f.resultTypes=#[bt]) (hbt:P.underlying bt=some .bool)
  (hval:∀ (j:Nat) t v,f.params[j]?=some t→args[j]?=some v→Value.okWide P W .any base t v)
  (hW:DataW.Whole enc P f.params.toList s.vars apart W args.toList ds gs fB) (hB:Rows.uptoBulkAll ds≤B)
  (hc:∀ pss,N5 P B n f.params.toList pss→aH P fid (GC P f.params.toList pss) [] (fun r H'=>r=.pv (.bool true)∧H'=[])) (hg:KJ (YP W) W:=by exact fun p hp=>by cases hp) :
  Calls P fid args W fun e W'=>∃ v,e=.returned v∧s.post enc P f apart fresh handsOn again W args v W':=by
 have hW':=hW;obtain ⟨p,q,hA,hV,rfl,hfz,hnd⟩:=hW;rw [hvars] at hV;obtain ⟨rfl,rfl⟩:=trodVars_none hV;obtain ⟨pss,h1,h2,h3⟩:=TI (B:=B) (base:=base) (fun _=>none) [] hA hpure (fun j t v ht hv=>hval j t v (by simpa using ht) (by simpa using hv)) hB;have hlen:ds.length=f.params.toList.length:=by
  clear h1 h2 h3 hc hfn hpar hpure hval hW' hB hfz hnd;revert hA;generalize f.params.toList=ts;generalize args.toList=vs;intro hA;clear hV
  induction ts generalizing vs ds p with
  | nil=>obtain ⟨_,rfl,_⟩:=trodAll_nil hA;rfl
  | cons t ts ih =>
   obtain ⟨v,vs',d,ds',p1,p2,_,rfl,_,_,h2⟩:=trodAll_cons hA;simp [ih _ _ h2]
 refine(hc pss h1 (YP W) (fun _=>none) W args (aE1 _ W hg) (by simpa using h2) (fun i v a ha hb=>h3 i v a (by simpa using ha) hb)).mono ?_;rintro e W' ⟨r,H',I',ι',v,rfl,⟨rfl,rfl⟩,hv,hr,hst⟩;have hvb:v=.bool true:=hv.bool_inv;subst hvb;have hbel:=WJ hst;obtain ⟨f1,f2,f3⟩:=hfn (ds++[]) (by simpa using hlen);refine⟨_,rfl,UV (pa:=p) (pv:=[]) hW' (fun b sp hd=>?_) (fun sp hsp=>?_) (fun sp hsp=>?_) rfl hbel (ok_one hres rfl (okWide_bool_mk hbt _))⟩
 ·rw [f1,hres];exact trodAll_cons_mk (shut_bool hbt _) trodAll_mk0
 ·rw [f2,List.append_nil];exact KB hl hbel hA hpar (fun x hx=>hW'.lt x (by simp [hx])) (fun x hx=>hsp x (by simp [hx]))
 rw [f3,hvars];rfl
theorem tB {n:Nat} {t:TypeId} {k:IntKind} {ps:List PV} (ht:P.underlying t=some (.int k)) (h:Sh P B (n+1) t ps):∃ i,ps=[.int k i]∧(Lit.int k i).wf=true:=by unfold Sh at h;rw [ht] at h;exact h
theorem aEK {n:Nat} {t:TypeId} {ps:List PV} (ht:P.underlying t=some .bool) (h:Sh P B (n+1) t ps):∃ b,ps=[.bool b]:=by unfold Sh at h;rw [ht] at h;exact h
theorem mG {n:Nat} {t:TypeId} {ps:List PV} (ht:P.underlying t=some .string) (h:Sh P B (n+1) t ps):∃ s,ps=[.str s]∧s.size≤B:=by unfold Sh at h;rw [ht] at h;exact h
theorem oA {n:Nat} {t:TypeId} {fs:Array Field} {ps:List PV} (ht:P.underlying t=some (.struct fs)) (h:Sh P B (n+1) t ps):ShF (fun t ps=>Sh P B n t ps) P.cellsOf fs.toList ps:=by unfold Sh at h;rw [ht] at h;exact h
theorem GW {n:Nat} {t e:TypeId} {ps:List PV} {α:Type} {f:α→List PV} {good:α→Prop} (ht:P.underlying t=some (.slice e)) (h:Sh P B (n+1) t ps) (hd:∀ r,Sh P B n e r→∃ a,r=f a∧good a) :
  ∃ l:List α,ps=[.sl (l.map f)]∧l.length≤B∧∀ a,a∈l→good a:=by
 unfold Sh at h;rw [ht] at h;obtain ⟨rows,rfl,hlen,hr⟩:=h;obtain ⟨l,h1,h2⟩:∃ l:List α,rows=l.map f∧∀ a,a∈l→good a:=by
  clear hlen
  induction rows with
  | nil=>exact⟨[],rfl,by simp⟩
  | cons r rs ih =>
   obtain ⟨l,h1,h2⟩:=ih (fun r h=>hr r (by simp [h]));obtain ⟨a,a1,a2⟩:=hd r (hr r (by simp)).2;refine⟨a::l,by simp [a1,h1],fun b hb=>?_⟩;rcases aL5.1 hb with e|e
   ·subst e;exact a2
   exact h2 b e
 subst h1;exact⟨l,rfl,by simpa using hlen,h2⟩
end
end
end Go.Abs
namespace Go.Proofs.YtiifmppaejpemaaGreatDoor
open Go.Proofs.Tryz
open Go.Abs
theorem zo3:dN Tryz.prog 3 [.pv (.int .i64 0)]:=⟨_,_,zP,.inl rfl,rfl⟩
theorem zo4:dN Tryz.prog 4 [.pv (.bool false)]:=⟨_,_,zO,.inl rfl,rfl⟩
theorem zo9:dN Tryz.prog 9 [.pv (.str ⟨#[]⟩)]:=⟨_,_,qU,.inl rfl,rfl⟩
theorem aIR:dN Tryz.prog 22 [.pv (.sl [])]:=⟨_,_,aDX,.inl rfl,rfl⟩
theorem aAs:dN Tryz.prog 22 [.pv .nils]:=⟨_,_,aDX,.inr rfl,rfl⟩
theorem cP:dZ Tryz.prog 22 9 1:=⟨aD,sizeOf9,by decide,_,qU⟩
theorem TQ:EI Tryz.prog 9 1 16:=EI.mk (z:=(Value.string ⟨#[]⟩)) (by kernel_rfl) rfl (by decide) (by decide)
theorem aIL:dN Tryz.prog 23 [.pv .nils]:=⟨_,_,zeroValue23,.inr rfl,rfl⟩
theorem UI:dZ Tryz.prog 23 155 15:=⟨dD,aV,by decide,_,aAf⟩
theorem aJ4:EI Tryz.prog 155 15 216:=EI.mk (z:=(Value.agg #[(Value.int IntKind.i64 (0)),(Value.string ⟨#[]⟩),(Value.string ⟨#[]⟩),(Value.string ⟨#[]⟩),(Value.int IntKind.i64 (0)),(Value.int IntKind.i64 (0)),(Value.string ⟨#[]⟩),(Value.string ⟨#[]⟩),(Value.slice none (0) (0)),(Value.string ⟨#[]⟩),(Value.int IntKind.i64 (0)),(Value.int IntKind.i64 (0)),(Value.int IntKind.i64 (0)),(Value.slice none (0) (0)),(Value.slice none (0) (0))])) (by kernel_rfl) rfl (by decide) (by decide)
theorem YT:dN Tryz.prog 25 [.pv (.int .i64 0),.pv (.sl []),.pv (.sl [])]:=⟨_,_,aDW,.inl rfl,rfl⟩
theorem lS:bX Tryz.prog 25 0 0:=by refine⟨_,_,0,fC,rfl,rfl,?_⟩;exact sizeOf3
theorem iL:bX Tryz.prog 25 1 1:=by refine⟨_,_,0,fC,rfl,rfl,?_⟩;exact sizeOf22
theorem mK:bX Tryz.prog 25 2 2:=by refine⟨_,_,0,fC,rfl,rfl,?_⟩;exact sizeOf22
theorem aFg:jY Tryz.prog 25 [(0,1),(1,1),(2,1)] [.pv (.int .i64 0),.pv (.sl []),.pv (.sl [])]:=⟨_,#[(0,1),(1,1),(2,1)],_,_,fC,aDW,.inl rfl,rfl,fun w=>by simp [sizeOf3,sizeOf22],rfl⟩
theorem aJb:jY Tryz.prog 25 [(0,1),(1,1),(2,1)] [.pv (.int .i64 0),.pv .nils,.pv .nils]:=⟨_,#[(0,1),(1,1),(2,1)],_,_,fC,aDW,.inr rfl,rfl,fun w=>by simp [sizeOf3,sizeOf22],rfl⟩
theorem Q5:dZ Tryz.prog 26 73 2:=⟨dP,sizeOf73,by decide,_,aDU⟩
theorem aKf:EI Tryz.prog 73 2 16:=EI.mk (z:=(Value.agg #[(Value.int IntKind.i64 (0)),(Value.int IntKind.i64 (0))])) (by kernel_rfl) rfl (by decide) (by decide)
theorem aG4:dN Tryz.prog 28 [.pv (.str ⟨#[]⟩),.pv (.str ⟨#[]⟩),.pv (.sl []),.pv (.sl []),.pv (.int .i64 0),.pv (.sl []),.pv (.sl [])]:=⟨_,_,zeroValue28,.inl rfl,rfl⟩
theorem BT:bX Tryz.prog 28 0 0:=by refine⟨_,_,0,kS,rfl,rfl,?_⟩;exact sizeOf9
theorem BS:bX Tryz.prog 28 1 1:=by refine⟨_,_,0,kS,rfl,rfl,?_⟩;exact sizeOf9
theorem zA:bX Tryz.prog 28 2 2:=by refine⟨_,_,0,kS,rfl,rfl,?_⟩;exact sizeOf22
theorem rQ:bX Tryz.prog 28 3 3:=by refine⟨_,_,0,kS,rfl,rfl,?_⟩;exact sizeOf26
theorem nM:bX Tryz.prog 28 4 4:=by refine⟨_,_,2,kS,rfl,rfl,?_⟩;exact sizeOf25
theorem aHn:jY Tryz.prog 28 [(0,1),(1,1),(2,1),(3,1),(4,3)] [.pv (.str ⟨#[]⟩),.pv (.str ⟨#[]⟩),.pv (.sl []),.pv (.sl []),.pv (.int .i64 0),.pv (.sl []),.pv (.sl [])]:=⟨_,#[(0,1),(1,1),(2,1),(3,1),(4,3)],_,_,kS,zeroValue28,.inl rfl,rfl,fun w=>by simp [sizeOf9,sizeOf22,sizeOf25,sizeOf26],rfl⟩
theorem xN:dN Tryz.prog 30 [.pv (.int .i64 0),.pv (.int .i64 0),.pv (.int .i64 0),.pv (.int .i64 0),.pv (.str ⟨#[]⟩),.pv (.sl []),.pv (.sl []),.pv (.str ⟨#[]⟩),.pv (.bool false),.pv (.int .i64 0),.pv (.str ⟨#[]⟩),.pv (.int .i64 0),.pv (.sl []),.pv (.sl []),.pv (.str ⟨#[]⟩),.pv (.str ⟨#[]⟩),.pv (.sl []),.pv (.sl []),.pv (.int .i64 0),.pv (.sl []),.pv (.sl [])]:=⟨_,_,aDV,.inl rfl,rfl⟩
theorem tL:bX Tryz.prog 30 0 0:=by refine⟨_,_,0,cS,rfl,rfl,?_⟩;exact sizeOf3
theorem yZ:bX Tryz.prog 30 1 1:=by refine⟨_,_,0,cS,rfl,rfl,?_⟩;exact sizeOf3
theorem pT:bX Tryz.prog 30 2 2:=by refine⟨_,_,0,cS,rfl,rfl,?_⟩;exact sizeOf3
theorem yY:bX Tryz.prog 30 3 3:=by refine⟨_,_,0,cS,rfl,rfl,?_⟩;exact sizeOf3
theorem yX:bX Tryz.prog 30 4 4:=by refine⟨_,_,0,cS,rfl,rfl,?_⟩;exact sizeOf9
theorem oE:bX Tryz.prog 30 5 5:=by refine⟨_,_,0,cS,rfl,rfl,?_⟩;exact sizeOf22
theorem BR:bX Tryz.prog 30 6 6:=by refine⟨_,_,0,cS,rfl,rfl,?_⟩;exact sizeOf23
theorem yW:bX Tryz.prog 30 7 7:=by refine⟨_,_,0,cS,rfl,rfl,?_⟩;exact sizeOf9
theorem EZ:bX Tryz.prog 30 8 8:=by refine⟨_,_,0,cS,rfl,rfl,?_⟩;exact sizeOf4
theorem BQ:bX Tryz.prog 30 9 9:=by refine⟨_,_,0,cS,rfl,rfl,?_⟩;exact sizeOf3
theorem wM:bX Tryz.prog 30 10 10:=by refine⟨_,_,0,cS,rfl,rfl,?_⟩;exact sizeOf9
theorem lK:bX Tryz.prog 30 11 11:=by refine⟨_,_,2,cS,rfl,rfl,?_⟩;exact sizeOf25
theorem eV:bX Tryz.prog 30 12 14:=by refine⟨_,_,6,cS,rfl,rfl,?_⟩;exact sizeOf28
theorem TB:jY Tryz.prog 30 [(0,1),(1,1),(2,1),(3,1),(4,1),(5,1),(6,1),(7,1),(8,1),(9,1),(10,1),(11,3),(14,7)] [.pv (.int .i64 0),.pv (.int .i64 0),.pv (.int .i64 0),.pv (.int .i64 0),.pv (.str ⟨#[]⟩),.pv (.sl []),.pv (.sl []),.pv (.str ⟨#[]⟩),.pv (.bool false),.pv (.int .i64 0),.pv (.str ⟨#[]⟩),.pv (.int .i64 0),.pv (.sl []),.pv (.sl []),.pv (.str ⟨#[]⟩),.pv (.str ⟨#[]⟩),.pv (.sl []),.pv (.sl []),.pv (.int .i64 0),.pv (.sl []),.pv (.sl [])]:=⟨_,#[(0,1),(1,1),(2,1),(3,1),(4,1),(5,1),(6,1),(7,1),(8,1),(9,1),(10,1),(11,3),(14,7)],_,_,cS,aDV,.inl rfl,rfl,fun w=>by simp [sizeOf3,sizeOf4,sizeOf9,sizeOf22,sizeOf23,sizeOf25,sizeOf28],rfl⟩
theorem aKM:dN Tryz.prog 37 [.pv (.sl []),.pv (.sl []),.pv (.sl []),.pv (.int .i64 0),.pv (.sl []),.pv (.sl [])]:=⟨_,_,zeroValue37,.inl rfl,rfl⟩
theorem aCf:bX Tryz.prog 37 1 1:=by refine⟨_,_,0,underlying37,rfl,rfl,?_⟩;exact sizeOf22
theorem aJc:jY Tryz.prog 37 [(0,1),(1,1),(2,1),(3,1),(4,1),(5,1)] [.pv (.sl []),.pv (.sl []),.pv (.sl []),.pv (.int .i64 0),.pv (.sl []),.pv (.sl [])]:=⟨_,#[(0,1),(1,1),(2,1),(3,1),(4,1),(5,1)],_,_,underlying37,zeroValue37,.inl rfl,rfl,fun w=>by simp [sizeOf3,sizeOf22,sizeOf33,sizeOf34,sizeOf35],rfl⟩
theorem aG2:dN Tryz.prog 41 [.pv (.int .i64 0)]:=⟨_,_,zeroValue41,.inl rfl,rfl⟩
theorem aIN:dN Tryz.prog 73 [.pv (.int .i64 0),.pv (.int .i64 0)]:=⟨_,_,aDU,.inl rfl,rfl⟩
theorem tK:bX Tryz.prog 73 0 0:=by refine⟨_,_,0,underlying73,rfl,rfl,?_⟩;exact sizeOf3
theorem tJ:bX Tryz.prog 73 1 1:=by refine⟨_,_,0,underlying73,rfl,rfl,?_⟩;exact sizeOf3
theorem aDC:jY Tryz.prog 73 [(0,1),(1,1)] [.pv (.int .i64 0),.pv (.int .i64 0)]:=⟨_,#[(0,1),(1,1)],_,_,underlying73,aDU,.inl rfl,rfl,fun w=>by simp [sizeOf3],rfl⟩
theorem UM (a0 b0:Int) (a1 b1:Int) (w:World):(Op.equalIn 10000 73 (.agg [.int .i64 a0,.int .i64 a1].toArray) (.agg [.int .i64 b0,.int .i64 b1].toArray)).run Tryz.prog w=.ok (decide (a0=b0)&&decide (a1=b1)) w:=by
 refine(run_equalIn_struct (P:=Tryz.prog) w 9999 73 _ _ (by simp [Program.fieldsOf,underlying73]) stoodInHeld73).trans ?_;have h3:∀ (d:Nat) (a b:Int) (w:World),(Op.equalIn (d+1) 3 (.int .i64 a) (.int .i64 b)).run Tryz.prog w=.ok (decide (a=b)) w:=fun d a b w=>by rw [run_equalIn_int w d 3 _ _ a b underlying3];by_cases h:a=b<;>simp [h]
 by_cases e0:a0=b0<;>by_cases e1:a1=b1<;>simp [Program.fieldsOf,underlying73,Op.eqFields,part,h3,isAgg3,e0,e1]
theorem aIa:dZ Tryz.prog 74 30 21:=⟨D0,aL,by decide,_,aDV⟩
theorem aIM:dN Tryz.prog 77 [.pv (.sl [])]:=⟨_,_,zeroValue77,.inl rfl,rfl⟩
theorem aIK:dN Tryz.prog 77 [.pv .nils]:=⟨_,_,zeroValue77,.inr rfl,rfl⟩
theorem UH:dZ Tryz.prog 77 9 1:=⟨underlying77,sizeOf9,by decide,_,qU⟩
theorem aKK:dN Tryz.prog 85 [.pv .nilp]:=⟨_,_,zeroValue85,.inl rfl,rfl⟩
theorem aCe:bX Tryz.prog 87 0 0:=by refine⟨_,_,0,underlying87,rfl,rfl,?_⟩;exact sizeOf9
theorem aKi:jY Tryz.prog 87 [(0,1)] [.pv (.str ⟨#[]⟩)]:=⟨_,#[(0,1)],_,_,underlying87,zeroValue87,.inl rfl,rfl,fun w=>by simp [sizeOf9],rfl⟩
theorem aIV:dN Tryz.prog 101 [.pv .nilfn]:=⟨_,_,zeroValue101,.inl rfl,rfl⟩
theorem FS:dZ Tryz.prog 124 5 1:=⟨cF,bR,by decide,_,KN⟩
theorem ei5:EI Tryz.prog 5 1 1:=EI.mk (z:=(Value.int IntKind.u8 (0))) (by kernel_rfl) rfl (by decide) (by decide)
theorem aIU:dN Tryz.prog 126 [.pv (.int .u64 0)]:=⟨_,_,DZ,.inl rfl,rfl⟩
theorem aIT:dN Tryz.prog 127 [.pv (.int .u8 0),.pv (.int .u8 0),.pv (.int .u8 0),.pv (.int .u8 0),.pv (.int .u8 0),.pv (.int .u8 0),.pv (.int .u8 0),.pv (.int .u8 0)]:=⟨_,_,zeroValue127,.inl rfl,rfl⟩
theorem WX:dN Tryz.prog 131 [.pv (.int .u8 0),.pv (.int .u8 0),.pv (.int .u8 0),.pv (.int .u8 0),.pv (.int .u8 0),.pv (.int .u8 0),.pv (.int .u8 0),.pv (.int .u8 0),.pv (.int .u8 0),.pv (.int .u8 0),.pv (.int .u8 0),.pv (.int .u8 0),.pv (.int .u8 0),.pv (.int .u8 0),.pv (.int .u8 0),.pv (.int .u8 0)]:=⟨_,_,zeroValue131,.inl rfl,rfl⟩
theorem sN:dZ Tryz.prog 136 20 1:=⟨underlying136,aJi,by decide,_,aDY⟩
theorem D3:dN Tryz.prog 140 [.pv .nilp,.pv .nils]:=⟨_,_,zeroValue140,.inr rfl,rfl⟩
theorem sV:bX Tryz.prog 140 0 0:=by refine⟨_,_,0,underlying140,rfl,rfl,?_⟩;exact aHv
theorem eW:bX Tryz.prog 140 1 1:=by refine⟨_,_,0,underlying140,rfl,rfl,?_⟩;exact lW
theorem wY:dZ Tryz.prog 151 206 2:=⟨cM,iC,by decide,_,aAd⟩
theorem aGK:EI Tryz.prog 206 2 32:=EI.mk (z:=(Value.agg #[(Value.string ⟨#[]⟩),(Value.string ⟨#[]⟩)])) (by kernel_rfl) rfl (by decide) (by decide)
theorem WW:dN Tryz.prog 153 [.pv (.str ⟨#[]⟩),.pv (.int .i64 0),.pv (.int .i64 0),.pv (.int .i64 0),.pv (.sl []),.pv (.sl [])]:=⟨_,_,DX,.inl rfl,rfl⟩
theorem aG1:dN Tryz.prog 153 [.pv (.str ⟨#[]⟩),.pv (.int .i64 0),.pv (.int .i64 0),.pv (.int .i64 0),.pv .nils,.pv .nils]:=⟨_,_,DX,.inr rfl,rfl⟩
theorem oS:bX Tryz.prog 153 0 0:=by refine⟨_,_,0,gY,rfl,rfl,?_⟩;exact sizeOf9
theorem gG:bX Tryz.prog 153 1 1:=by refine⟨_,_,0,gY,rfl,rfl,?_⟩;exact sizeOf3
theorem nP:bX Tryz.prog 153 2 2:=by refine⟨_,_,1,gY,rfl,rfl,?_⟩;exact sizeOf73
theorem gF:bX Tryz.prog 153 3 4:=by refine⟨_,_,0,gY,rfl,rfl,?_⟩;exact sizeOf22
theorem fK:bX Tryz.prog 153 4 5:=by refine⟨_,_,0,gY,rfl,rfl,?_⟩;exact sizeOf151
theorem YG:jY Tryz.prog 153 [(0,1),(1,1),(2,2),(4,1),(5,1)] [.pv (.str ⟨#[]⟩),.pv (.int .i64 0),.pv (.int .i64 0),.pv (.int .i64 0),.pv (.sl []),.pv (.sl [])]:=⟨_,#[(0,1),(1,1),(2,2),(4,1),(5,1)],_,_,gY,DX,.inl rfl,rfl,fun w=>by simp [sizeOf3,sizeOf9,sizeOf22,sizeOf73,sizeOf151],rfl⟩
theorem aHm:jY Tryz.prog 153 [(0,1),(1,1),(2,2),(4,1),(5,1)] [.pv (.str ⟨#[]⟩),.pv (.int .i64 0),.pv (.int .i64 0),.pv (.int .i64 0),.pv .nils,.pv .nils]:=⟨_,#[(0,1),(1,1),(2,2),(4,1),(5,1)],_,_,gY,DX,.inr rfl,rfl,fun w=>by simp [sizeOf3,sizeOf9,sizeOf22,sizeOf73,sizeOf151],rfl⟩
theorem WV:dN Tryz.prog 155 [.pv (.int .i64 0),.pv (.str ⟨#[]⟩),.pv (.str ⟨#[]⟩),.pv (.str ⟨#[]⟩),.pv (.int .i64 0),.pv (.int .i64 0),.pv (.str ⟨#[]⟩),.pv (.str ⟨#[]⟩),.pv (.sl []),.pv (.str ⟨#[]⟩),.pv (.int .i64 0),.pv (.int .i64 0),.pv (.int .i64 0),.pv (.sl []),.pv (.sl [])]:=⟨_,_,aAf,.inl rfl,rfl⟩
theorem wN:bX Tryz.prog 155 0 0:=by refine⟨_,_,0,eH,rfl,rfl,?_⟩;exact sizeOf3
theorem kQ:bX Tryz.prog 155 1 1:=by refine⟨_,_,0,eH,rfl,rfl,?_⟩;exact sizeOf9
theorem iG:bX Tryz.prog 155 2 2:=by refine⟨_,_,0,eH,rfl,rfl,?_⟩;exact sizeOf9
theorem nO:bX Tryz.prog 155 3 3:=by refine⟨_,_,0,eH,rfl,rfl,?_⟩;exact sizeOf9
theorem iA:bX Tryz.prog 155 4 4:=by refine⟨_,_,1,eH,rfl,rfl,?_⟩;exact sizeOf73
theorem kP:bX Tryz.prog 155 5 6:=by refine⟨_,_,0,eH,rfl,rfl,?_⟩;exact sizeOf9
theorem lM:bX Tryz.prog 155 6 7:=by refine⟨_,_,0,eH,rfl,rfl,?_⟩;exact sizeOf9
theorem eS:bX Tryz.prog 155 7 8:=by refine⟨_,_,0,eH,rfl,rfl,?_⟩;exact sizeOf22
theorem qK:bX Tryz.prog 155 8 9:=by refine⟨_,_,5,eH,rfl,rfl,?_⟩;exact sizeOf153
theorem A6:jY Tryz.prog 155 [(0,1),(1,1),(2,1),(3,1),(4,2),(6,1),(7,1),(8,1),(9,6)] [.pv (.int .i64 0),.pv (.str ⟨#[]⟩),.pv (.str ⟨#[]⟩),.pv (.str ⟨#[]⟩),.pv (.int .i64 0),.pv (.int .i64 0),.pv (.str ⟨#[]⟩),.pv (.str ⟨#[]⟩),.pv (.sl []),.pv (.str ⟨#[]⟩),.pv (.int .i64 0),.pv (.int .i64 0),.pv (.int .i64 0),.pv (.sl []),.pv (.sl [])]:=⟨_,#[(0,1),(1,1),(2,1),(3,1),(4,2),(6,1),(7,1),(8,1),(9,6)],_,_,eH,aAf,.inl rfl,rfl,fun w=>by simp [sizeOf3,sizeOf9,sizeOf22,sizeOf73,sizeOf153],rfl⟩
theorem FR:dZ Tryz.prog 183 22 1:=⟨B5,sizeOf22,by decide,_,aDX⟩
theorem aFv:dN Tryz.prog 191 [.pv (.sl [])]:=⟨_,_,zeroValue191,.inl rfl,rfl⟩
theorem aAt:dN Tryz.prog 191 [.pv .nils]:=⟨_,_,zeroValue191,.inr rfl,rfl⟩
theorem lN:dZ Tryz.prog 191 196 3:=⟨fP,sizeOf196,by decide,_,aAe⟩
theorem aCm:EI Tryz.prog 196 3 32:=EI.mk (z:=(Value.agg #[(Value.int IntKind.i64 (0)),(Value.string ⟨#[]⟩),(Value.int IntKind.i64 (0))])) (by kernel_rfl) rfl (by decide) (by decide)
theorem aIS:dN Tryz.prog 196 [.pv (.int .i64 0),.pv (.str ⟨#[]⟩),.pv (.int .i64 0)]:=⟨_,_,aAe,.inl rfl,rfl⟩
theorem DE:bX Tryz.prog 196 0 0:=by refine⟨_,_,0,B4,rfl,rfl,?_⟩;exact sizeOf3
theorem jU:bX Tryz.prog 196 1 1:=by refine⟨_,_,0,B4,rfl,rfl,?_⟩;exact sizeOf9
theorem HG:bX Tryz.prog 196 2 2:=by refine⟨_,_,0,B4,rfl,rfl,?_⟩;exact sizeOf3
theorem aGQ:jY Tryz.prog 196 [(0,1),(1,1),(2,1)] [.pv (.int .i64 0),.pv (.str ⟨#[]⟩),.pv (.int .i64 0)]:=⟨_,#[(0,1),(1,1),(2,1)],_,_,B4,aAe,.inl rfl,rfl,fun w=>by simp [sizeOf3,sizeOf9],rfl⟩
theorem aFu:dN Tryz.prog 206 [.pv (.str ⟨#[]⟩),.pv (.str ⟨#[]⟩)]:=⟨_,_,aAd,.inl rfl,rfl⟩
theorem DD:bX Tryz.prog 206 0 0:=by refine⟨_,_,0,underlying206,rfl,rfl,?_⟩;exact sizeOf9
theorem HF:bX Tryz.prog 206 1 1:=by refine⟨_,_,0,underlying206,rfl,rfl,?_⟩;exact sizeOf9
theorem aGP:jY Tryz.prog 206 [(0,1),(1,1)] [.pv (.str ⟨#[]⟩),.pv (.str ⟨#[]⟩)]:=⟨_,#[(0,1),(1,1)],_,_,underlying206,aAd,.inl rfl,rfl,fun w=>by simp [sizeOf9],rfl⟩
theorem aGB (a0 b0:ByteArray) (a1 b1:ByteArray) (w:World):(Op.equalIn 10000 206 (.agg [.string a0,.string a1].toArray) (.agg [.string b0,.string b1].toArray)).run Tryz.prog w=.ok (decide (a0=b0)&&decide (a1=b1)) w:=by
 refine(run_equalIn_struct (P:=Tryz.prog) w 9999 206 _ _ (by simp [Program.fieldsOf,underlying206]) stoodInHeld206).trans ?_;have h9:∀ (d:Nat) (a b:ByteArray) (w:World),(Op.equalIn (d+1) 9 (.string a) (.string b)).run Tryz.prog w=.ok (decide (a=b)) w:=fun d a b w=>by rw [run_equalIn_string w d 9 a b underlying9,uP]
 by_cases e0:a0=b0<;>by_cases e1:a1=b1<;>simp [Program.fieldsOf,underlying206,Op.eqFields,part,h9,isAgg9,e0,e1]
theorem aAu:dN Tryz.prog 223 [.pv (.int .i64 0),.pv (.str ⟨#[]⟩),.pv (.int .i64 0),.pv (.int .i64 0)]:=⟨_,_,zeroValue223,.inl rfl,rfl⟩
theorem kO:bX Tryz.prog 223 0 0:=by refine⟨_,_,2,WS,rfl,rfl,?_⟩;exact sizeOf196
theorem nN:bX Tryz.prog 223 1 3:=by refine⟨_,_,0,WS,rfl,rfl,?_⟩;exact sizeOf41
theorem aJd:jY Tryz.prog 223 [(0,3),(3,1)] [.pv (.int .i64 0),.pv (.str ⟨#[]⟩),.pv (.int .i64 0),.pv (.int .i64 0)]:=⟨_,#[(0,3),(3,1)],_,_,WS,zeroValue223,.inl rfl,rfl,fun w=>by simp [sizeOf41,sizeOf196],rfl⟩
theorem aG0:dN Tryz.prog 248 [.pv .nilp,.pv .nils]:=⟨_,_,zeroValue248,.inr rfl,rfl⟩
theorem lL:bX Tryz.prog 248 0 0:=by refine⟨_,_,1,underlying248,rfl,rfl,?_⟩;exact sizeOf140
theorem aIQ:dN Tryz.prog 250 [.pv .nilfn]:=⟨_,_,zeroValue250,.inl rfl,rfl⟩
theorem aIP:dN Tryz.prog 275 [.pv (.str ⟨#[]⟩),.pv (.str ⟨#[]⟩),.pv (.str ⟨#[]⟩),.pv (.str ⟨#[]⟩),.pv (.str ⟨#[]⟩),.pv (.str ⟨#[]⟩)]:=⟨_,_,zeroValue275,.inl rfl,rfl⟩
theorem aJg:HL Tryz.prog 275 1 [.pv (.str ⟨#[]⟩),.pv (.str ⟨#[]⟩),.pv (.str ⟨#[]⟩),.pv (.str ⟨#[]⟩),.pv (.str ⟨#[]⟩),.pv (.str ⟨#[]⟩)]:=⟨_,_,_,_,underlying275,zeroValue275,.inl rfl,rfl,sizeOf9⟩
theorem aIO:dN Tryz.prog 276 [.pv .nilm]:=⟨_,_,zeroValue276,.inl rfl,rfl⟩
theorem aGS:HL Tryz.prog 280 1 [.pv (.str ⟨#[]⟩),.pv (.str ⟨#[]⟩),.pv (.str ⟨#[]⟩),.pv (.str ⟨#[]⟩)]:=⟨_,_,_,_,underlying280,zeroValue280,.inl rfl,rfl,sizeOf9⟩
theorem aJf:HL Tryz.prog 282 1 [.pv (.int .i64 0),.pv (.int .i64 0),.pv (.int .i64 0),.pv (.int .i64 0),.pv (.int .i64 0),.pv (.int .i64 0)]:=⟨_,_,_,_,underlying282,zeroValue282,.inl rfl,rfl,sizeOf3⟩
theorem follows:Tryz.prog.follows .mixedOrders=true:=by kernel_rfl
structure GTag where
 key:ByteArray
 val:ByteArray
structure GObj where
 id:ByteArray
 kind:Int
 x:Int
 y:Int
 refs:List ByteArray
 tags:List GTag
structure GEdit where
 op:Int
 id:ByteArray
 other:ByteArray
 node:ByteArray
 x:Int
 y:Int
 key:ByteArray
 val:ByteArray
 refs:List ByteArray
 obj:GObj
def encStr (s:ByteArray):List PV:=[.str s]
def iZ (n:Int):List PV:=[.int .i64 n]
def bF (t:GTag):List PV:=[.str t.key,.str t.val]
def bH (o:GObj):List PV:=[.str o.id,.int .i64 o.kind,.int .i64 o.x,.int .i64 o.y,.sl (o.refs.map encStr),.sl (o.tags.map bF)]
def aZ (e:GEdit):List PV:=[.int .i64 e.op,.str e.id,.str e.other,.str e.node,.int .i64 e.x,.int .i64 e.y,.str e.key,.str e.val,.sl (e.refs.map encStr),
 .str e.obj.id,.int .i64 e.obj.kind,.int .i64 e.obj.x,.int .i64 e.obj.y,.sl (e.obj.refs.map encStr),.sl (e.obj.tags.map bF)]
def aU (l:List ByteArray):PV:=.sl (l.map encStr)
def qY (l:List GTag):PV:=.sl (l.map bF)
def iO (l:List GEdit):PV:=.sl (l.map aZ)
def zObj:GObj:=⟨⟨#[]⟩,0,0,0,[],[]⟩
theorem cJ {α:Type} {f:α→List PV} {l:List α} {k:Nat} {a:α} (h:l[k]?=some a):(l.map f)[k]?=some (f a):=by rw [aLd,h];rfl
theorem bE {α:Type} {l:List α} {k:Nat} (h:k < l.length):∃ a,l[k]?=some a:=⟨_,aLY h⟩
theorem NL {α:Type} {p:α→Bool} {l:List α} {k:Nat} {a:α} (h:∀ j,j < k→∀ b,l[j]?=some b→p b=false) (hk:l[k]?=some a) (hp:p a=true):l.findIdx? p=some k:=by rw [List.findIdx?_eq_some_iff_getElem];obtain ⟨hlt,he⟩:=aLX.1 hk;refine⟨hlt,by rw [he];exact hp,fun j hj=>?_⟩;have:=h j hj l[j] (aLY (by omega));simp [this]
theorem NM {α:Type} {p:α→Bool} {l:List α} (h:∀ j,j < l.length→∀ b,l[j]?=some b→p b=false):l.findIdx? p=none:=by rw [List.findIdx?_eq_none_iff];intro x hx;obtain ⟨j,hj⟩:=aLe.1 hx;exact h j (aLX.1 hj).1 x hj
def tH {α:Type} (p:α→Bool) (l:List α):Int:=match l.findIdx? p with|some i=>(i:Int)|none => -1
theorem aCa {α:Type} (p:α→Bool) (l:List α):decide (0≤tH p l)=l.any p:=by
 unfold tH;cases h:l.findIdx? p with
 | none =>
  have:l.any p=false:=by
   rw [List.findIdx?_eq_none_iff] at h;rw [List.any_eq_false];intro x hx;simp [h x hx]
  simp [this]
 | some i =>
  have:l.any p=true:=by
   rw [List.findIdx?_eq_some_iff_getElem] at h;obtain ⟨h1,h2,_⟩:=h;exact List.any_eq_true.2 ⟨_,List.getElem_mem h1,h2⟩
  simp [this]
theorem VS {α:Type} (p:α→Bool) (l:List α):(tH p l = -1∧l.find? p=none)∨∃ (k:Nat) (o:α),tH p l=(k:Int)∧l[k]?=some o∧l.find? p=some o:=by
 cases h:l.findIdx? p with
 | none =>
  left;refine⟨by simp [tH,h],?_⟩;rw [List.findIdx?_eq_none_iff] at h;rw [List.find?_eq_none];intro x hx;simp [h x hx]
 | some k =>
  right;have h':=h;rw [List.findIdx?_eq_some_iff_getElem] at h;obtain ⟨h1,h2,h3⟩:=h;refine⟨k,l[k],by simp [tH,h'],aLY h1,?_⟩;rw [List.find?_eq_some_iff_getElem];exact⟨h2,k,h1,rfl,fun j hj=>by have:=h3 j hj;simpa using this⟩
theorem yI {α:Type} {p:α→Bool} {l:List α} {k:Nat} {a:α} (h:∀ j,j < k→∀ b,l[j]?=some b→p b=false) (hk:l[k]?=some a) (hp:p a=false):∀ j,j < k+1→∀ b,l[j]?=some b→p b=false:=by
 intro j hj b hb;by_cases e:j=k
 ·subst e;rw [hk] at hb;cases hb;exact hp
 exact h j (by omega) b hb
theorem DP {α:Type} {p:α→Bool} {l:List α} (h:∀ j,j < l.length→∀ b,l[j]?=some b→p b=false):l.any p=false:=by rw [List.any_eq_false];intro x hx;obtain ⟨j,hj⟩:=aLe.1 hx;simp [h j (aLX.1 hj).1 x hj]
theorem zM {α:Type} {p:α→Bool} {l:List α} {k:Nat} {a:α} (hk:l[k]?=some a) (hp:p a=true):l.any p=true:=List.any_eq_true.2 ⟨_,aL3 hk,hp⟩
end Go.Proofs.YtiifmppaejpemaaGreatDoor
namespace Go.Abs
def KP (H:aB):aB→Prop
 | []=>True
 | (id,o)::r=>H.get id=some o∧KP H r
theorem KP.sub {H:aB}:∀ {L:aB},KP H L→Sub L H
 | [],_,id,o,h=>by cases h
 | (i,o')::r,h,id,o,ho=>by
  simp only [aB.get] at ho;cases e:Nat.beq i id with
  | true=>rw [e] at ho;cases ho;rw [← Nat.eq_of_beq_eq_true e];exact h.1
  | false=>rw [e] at ho;exact h.2.sub id o ho
theorem eO (D H:aB) (k:Nat):aB.get (D++H) k=match D.get k with|some v=>some v|none=>H.get k:=AH D H k
theorem aH.frame {P:Program} {f:FuncId} {args:List AV} {H0 H1 H:aB} {r0:AV} (h:aH P f args H0 (fun r H'=>r=r0∧H'=H1)) (hs:Sub H0 H) (hc:cZ H0) (ha:∀ a∈args,Clo H0 a)
  (hk:∀ id,(H1.get id).isSome=true→(H0.get id).isSome=true∨H.get id=none):aH P f args H (fun r H'=>r=r0∧H'=H1++H):=by
 intro I ι w vs hr hl hv;refine(h I ι w vs (hr.restrict hs hc) hl (fun i v a h1 h2=>(hv i v a h1 h2).restrict hs (ha a (aL3 h2)))).mono ?_;rintro e w' ⟨r,H',I',ι',v,rfl,⟨rfl,rfl⟩,k1,k2,k3⟩;obtain ⟨ι2,hι2⟩:∃ ι2:dR,ι2=(fun j=>if(H'.get j).isSome=true then ι' j else ι j):=⟨_,rfl⟩;have i1:∀ j o,H'.get j=some o→ι2 j=ι' j:=fun j o hj=>by rw [hι2];simp [hj]
 have i2:∀ j,H'.get j=none→ι2 j=ι j:=fun j hj=>by rw [hι2];simp [hj]
 have g1:∀ j o,H'.get j=some o→aB.get (H'++H) j=some o:=fun j o hj=>by rw [eO,hj]
 have g2:∀ j,H'.get j=none→aB.get (H'++H) j=H.get j:=fun j hj=>by rw [eO,hj]
 have hfr:∀ j o,H.get j=some o→H'.get j=none→H0.get j=none:=fun j o hj hn=>by
  cases e:H0.get j with
  | none=>rfl
  | some o0 =>
   obtain ⟨o',e1,_⟩:=k3.objs j o0 e;rw [hn] at e1;cases e1
 have hno:∀ j o b c,H.get j=some o→H'.get j=none→ι j=some (b,c)→¬ GG ι H0 b:=fun j o b c hj hn hb ⟨j',o',c',hj',hb'⟩=>by
  have:=hr.inj j j' o o' b c c' hj (hs _ _ hj') hb hb';subst this;rw [hfr j o hj hn] at hj';cases hj'
 have hst:Step I ι H w I' ι2 (H'++H) w':=by
  refine⟨k3.os,k3.tape,k3.output,k3.size,fun a ha hn=>k3.froz a ha (fun h=>hn (h.sub hs)),k3.imm,fun b hb=>?_,?_,?_,?_⟩
  ·rcases k3.immNew b hb with h1|h1|h1
   ·exact .inl h1
   ·exact .inr (.inl (h1.sub hs))
   exact .inr (.inr h1)
  ·rintro b ⟨j,o,c,hj,hc⟩;cases e:H'.get j with
   | some o' =>
    rw [i1 j o' e] at hc;rcases k3.own b ⟨j,o',c,e,hc⟩with h1|h1
    ·exact .inl (h1.sub hs)
    exact .inr h1
   | none =>
    rw [i2 j e] at hc;rw [g2 j e] at hj;exact .inl ⟨j,o,c,hj,hc⟩
  ·intro b hb hn;exact k3.keep b hb (fun h=>hn (h.sub hs))
  intro j o hj;cases e:H'.get j with
  | some o' =>
   rcases hk j (by rw [e];rfl)with h1|h1
   ·obtain ⟨o0,e0⟩:=Option.isSome_iff_exists.1 h1;have:=hs _ _ e0;rw [hj] at this;cases this;obtain ⟨o2,q1,q2,q3⟩:=k3.objs j o e0;exact⟨o2,g1 j o2 q1,q2,fun e=>by rw [i1 j o2 q1];exact q3 e⟩
   rw [hj] at h1;cases h1
  | none=>exact⟨o,(g2 j e).trans hj,aLZ _,fun _=>⟨i2 j e,rfl,fun _=>aLZ _⟩⟩
 have hv':∀ {v:Value} {a:AV},VRel w' I' ι' H' v a→VRel w' I' ι2 (H'++H) v a:=fun hva =>
  hva.mono' (fun _ _=>rfl) (fun _ h=>h) (fun id o ho=>⟨o,g1 id o ho,aLZ _,fun _=>⟨i1 id o ho,rfl,fun _=>aLZ _⟩⟩)
 refine⟨r,H'++H,I',ι2,v,rfl,⟨rfl,rfl⟩,hv' k1,⟨k2.imm,fun j o hj=>?_,fun j j' o o' b c c' hj hj' hc hc'=>?_,k2.glob⟩,hst⟩
 ·cases e:H'.get j with
  | some o' =>
   rw [g1 j o' e] at hj;obtain rfl:o'=o:=Option.some.inj hj;exact(k2.obj j o' e).keep (i1 j o' e) (fun _ _ _ _=>⟨rfl,fun h=>h⟩) (fun r _ a _ v hv=>hv' hv)
  | none =>
   rw [g2 j e] at hj;refine(hr.obj j o hj).keep (i2 j e) (fun b' cap' e1 hlt=>⟨k3.keep b' hlt (hno j o b' cap' hj e e1),fun e3 hi=>?_⟩) (fun r _ a _ v hv=>hv.mono hr hst);rcases k3.immNew b' hi with h1|h1|h1
   ·exact e3 h1
   ·exact hno j o b' cap' hj e e1 h1
   omega
 cases e:H'.get j with
 | some q =>
  rw [i1 j q e] at hc;cases e':H'.get j' with
  | some q' =>
   rw [i1 j' q' e'] at hc';exact k2.inj j j' q q' b c c' e e' hc hc'
  | none =>
   rw [i2 j' e'] at hc';rw [g2 j' e'] at hj';have hlt:=hr.lt ⟨j',o',c',hj',hc'⟩;rcases k3.own b ⟨j,q,c,e,hc⟩with h1|h1
   ·exact absurd h1 (hno j' o' b c' hj' e' hc')
   omega
 | none =>
  rw [i2 j e] at hc;rw [g2 j e] at hj;cases e':H'.get j' with
  | some q' =>
   rw [i1 j' q' e'] at hc';have hlt:=hr.lt ⟨j,o,c,hj,hc⟩;rcases k3.own b ⟨j',q',c',e',hc'⟩with h1|h1
   ·exact absurd h1 (hno j o b c hj e hc)
   omega
  | none =>
   rw [i2 j' e'] at hc';rw [g2 j' e'] at hj';exact hr.inj j j' o o' b c c' hj hj' hc hc'
section
structure KeyKind (α:Type) where
 d:TypeDesc
 pv:α→PV
 val:α→Value
 rel:∀ (w:World) (I:Nat→Prop) (v:Value) (a:α),PRep w I v (pv a)→v=val a
 inj:∀ a b,val a=val b→a=b
 is:∀ a,MapKept.IsKey d (val a)
 rep:∀ (w:World) (I:Nat→Prop) (a:α),PRep w I (val a) (pv a)
def UC:KeyKind ByteArray:=⟨.string,.str,.string,fun _ _ _ _ h=>by cases h;rfl,fun _ _ h=>by cases h;rfl,fun _=>trivial,fun _ _ _=>.str _⟩
def aDB:KeyKind Bool:=⟨.bool,.bool,.bool,fun _ _ _ _ h=>by cases h;rfl,fun _ _ h=>by cases h;rfl,fun _=>trivial,fun _ _ _=>.bool _⟩
def nX {α:Type} (κ:KeyKind α) (l:List (α×AV)):List (List AV):=l.mapIdx fun i p=>[.pv (κ.pv p.1),p.2,.pv (.int .i64 i)]
theorem EP {α:Type} {κ:KeyKind α} {l:List (α×AV)} {i:Nat} {r:List AV}:(nX κ l)[i]?=some r↔∃ p,l[i]?=some p∧r=[.pv (κ.pv p.1),p.2,.pv (.int .i64 i)]:=by
 rw [nX,List.getElem?_mapIdx];cases l[i]? with
 | none=>simp
 | some p=>simp [eq_comm]
theorem C4 {α:Type} (κ:KeyKind α) (l:List (α×AV)):(nX κ l).length=l.length:=by simp [nX]
theorem XM {α:Type} {κ:KeyKind α} {H:aB} {w:World} {I:Nat→Prop} {ι:dR} {v:Value} {k:α} (h:VRel w I ι H v (.pv (κ.pv k))):v=κ.val k:=κ.rel _ _ _ _ h.pv_inv
section
variable {α:Type}
structure MapAt (w:World) (I:Nat→Prop) (ι:dR) (H:aB) (κ:KeyKind α) (l:List (α×AV)) (es:Array MapEntry):Prop where
 size:es.size=l.length
 rel:∀ (i:Nat) (p:α×AV),l[i]?=some p→∃ e,es[i]?=some e∧e.born=i∧e.key=κ.val p.1∧VRel w I ι H e.val p.2
theorem aCH {w:World} {I:Nat→Prop} {ι:dR} {H:aB} {id b:Nat} {ob:Ob} {κ:KeyKind α} {l:List (α×AV)} (h:jF w I ι H id ob) (hz:ob.sz=0) (hι:ι id=some (b,0)) (hrows:ob.rows=nX κ l) :
  ∃ es,w.heap[b]?=some (.map es ob.ty)∧¬ I b∧MapAt w I ι H κ l es:=by
 obtain ⟨_,b',es,e1,e2,e3,e4,e5,e6,e7⟩:=h.map hz hι;rw [hι] at e1;cases e1;refine⟨es,e2,e3,⟨by rw [e4,hrows,C4],fun i p hp=>?_⟩⟩;obtain ⟨e,k,a,n,q1,q2,q3,q4,q5⟩:=e7 i _ (by rw [hrows];exact EP.2 ⟨p,hp,rfl⟩);cases q2;exact⟨e,q1,by injection q5.int_inv with _ hh;omega,κ.rel _ _ _ _ q3.pv_inv,q4⟩
theorem MapAt.born {w:World} {I:Nat→Prop} {ι:dR} {H:aB} {κ:KeyKind α} {l:List (α×AV)} {es:Array MapEntry} (h:MapAt w I ι H κ l es) {i:Nat} {e:MapEntry} (hi:es[i]?=some e):e.born=i∧i < l.length:=by
 have hlt:i < l.length:=by rw [← h.size];exact(Array.getElem?_eq_some_iff.1 hi).1
 obtain ⟨e',q1,q2,_⟩:=h.rel i l[i] (aLY hlt);rw [hi] at q1;cases q1;exact⟨q2,hlt⟩
section
variable {I:Nat→Prop} {ι:dR} {H H':aB} {w:World} {id b cap:Nat} {ob ob':Ob}
def World.setObj (w:World) (b:Nat) (x:Obj):World:={w with heap:=w.heap.setIfInBounds b x}
def PK:Obj→Bool
 | .cells ..=>true
 | _=>false
theorem Rel.rewrite {x0 x:Obj} (hr:Rel I ι H w) (hH:H.get id=some ob) (hι:ι id=some (b,cap)) (hz:ob.sz=0) (hb:w.heap[b]?=some x0) (h0:PK x0=false) (hx:PK x=false) (hg:ob'.g=ob.g) (hz':ob'.sz=0)
  (hnew:w.heap.size=(World.setObj w b x).heap.size→(World.setObj w b x).heap[b]?=some x→¬ I b→(∀ v a,VRel w I ι H v a→VRel (World.setObj w b x) I ι H' v a)→jF (World.setObj w b x) I ι H' id ob')
  (h1:H'.get id=some ob') (h2:∀ j,j≠id→H'.get j=H.get j):Rel I ι H' (World.setObj w b x)∧Step I ι H w I ι H' (World.setObj w b x):=by
 have hown:GG ι H b:=⟨id,ob,cap,hH,hι⟩;obtain ⟨hs1,hs2⟩:=MapKept.heap_set (w:=w) (o':=x) hb;have hst:Step I ι H w I ι H' (World.setObj w b x):=by
  refine⟨rfl,rfl,rfl,by simp [World.setObj],fun a _ _=>?_,fun _ h=>h,fun _ h=>.inl h,?_,?_,?_⟩
  ·by_cases e:a.block=b
   ·simp only [World.frozen?,World.setObj,e,hs1,hb];cases x<;>cases x0<;>first|rfl|(simp [PK] at hx h0)
   simp [World.frozen?,World.setObj,hs2 _ e]
  ·rintro y ⟨j,o,c,hj,hc⟩;by_cases e:j=id
   ·subst e;exact .inl ⟨j,ob,c,hH,hc⟩
   exact .inl ⟨j,o,c,(h2 j e).symm.trans hj,hc⟩
  ·intro y _ hy;exact hs2 y (fun e=>hy (e▸hown))
  intro j o hj;by_cases e:j=id
  ·subst e;rw [hH] at hj;cases hj;exact⟨ob',h1,by omega,fun _=>⟨rfl,by omega,fun h=>by omega⟩⟩
  exact⟨o,(h2 j e).trans hj,aLZ _,fun _=>⟨rfl,rfl,fun _=>aLZ _⟩⟩
 refine⟨⟨fun y hy=>by simpa [World.setObj] using hr.imm y hy,?_,?_,hst.glob hr⟩,hst⟩
 ·intro j o hj;by_cases e:j=id
  ·subst e;rw [h1] at hj;cases hj;exact hnew (by simp [World.setObj]) hs1 ((hr.obj j ob hH).block hι).2 (fun v a hv=>hv.mono hr hst)
  rw [h2 j e] at hj;exact(hr.obj j o hj).keep rfl (fun y c hy _=>⟨hs2 y (fun hbb=>e (hr.inj j id o ob b c cap hj hH (hbb▸hy) hι)),fun h=>h⟩) (fun r _ a _ v hv=>hv.mono hr hst)
 intro j j' o o' y c c' hj hj' hc hc';have key:∀ j o,H'.get j=some o→∃ o,H.get j=some o:=by
  intro j o hj;by_cases e:j=id
  ·exact⟨ob,e▸hH⟩
  exact⟨o,(h2 j e).symm.trans hj⟩
 obtain ⟨q,hq⟩:=key j o hj;obtain ⟨q',hq'⟩:=key j' o' hj';exact hr.inj j j' q q' y c c' hq hq' hc hc'
theorem Rel.remap {κ:KeyKind α} {l:List (α×AV)} {es0 es':Array MapEntry} {c0:Nat} (hr:Rel I ι H w) (hH:H.get id=some ob) (hι:ι id=some (b,0)) (hz:ob.sz=0) (hb:w.heap[b]?=some (.map es0 c0)) (hg:ob'.g=ob.g) (hz':ob'.sz=0) (hty:ob'.ty=l.length) (hrows:ob'.rows=nX κ l)
  (hm:MapAt w I ι H κ l es') (h1:H'.get id=some ob') (h2:∀ j,j≠id→H'.get j=H.get j):Rel I ι H' (World.setObj w b (.map es' l.length))∧Step I ι H w I ι H' (World.setObj w b (.map es' l.length)):=by
 refine hr.rewrite hH hι hz hb rfl rfl hg hz' (fun _ hs1 hI hmono=>?_) h1 h2;refine .inr (.inl ⟨hz',b,es',hι,by rw [hty];exact hs1,hI,by rw [hm.size,hrows,C4],fun i e hi=>?_,fun i j e e' hij hi hj=>?_,fun i r hr'=>?_⟩)
 ·obtain ⟨q1,q2⟩:=hm.born hi;rw [q1,hty];exact q2
 ·have q1:=(hm.born hi).1;have q2:=(hm.born hj).1;omega
 rw [hrows] at hr';obtain ⟨p,hp,rfl⟩:=EP.1 hr';obtain ⟨e,q1,q2,q3,q4⟩:=hm.rel i p hp;exact⟨e,_,_,_,q1,rfl,by rw [q3];exact .pv (κ.rep _ _ p.1),hmono _ _ q4,by rw [q2];exact .pv (.int _ _)⟩
end
theorem aCG {w:World} {I:Nat→Prop} {ι:dR} {H:aB} {v:Value} {id g:Nat} {ob:Ob} (h:VRel w I ι H v (.mp id g)) (hH:H.get id=some ob) (hg:ob.g=g):ob.sz=0∧∃ b,ι id=some (b,0)∧v=.map (some b):=by
 cases h with
 | mp o' h1 h2 _ h3 =>
  rw [hH] at h1;cases h1;exact h3 hg
variable [DecidableEq α]
def LK:List (α×AV)→α→Option AV
 | [],_=>none
 | (k',a)::r,k=>if k'=k then some a else LK r k
def uN:List (α×AV)→α→AV→List (α×AV)
 | [],k,v=>[(k,v)]
 | (k',a)::r,k,v=>if k'=k then(k,v)::r else(k',a)::uN r k v
def aEu:List (α×AV)→α→List (α×AV)
 | [],_=>[]
 | (k',a)::r,k=>if k'=k then r else(k',a)::aEu r k
theorem PS {w:World} {I:Nat→Prop} {ι:dR} {H:aB} (κ:KeyKind α) (k:α):∀ (l:List (α×AV)) (es:List MapEntry) (i:Nat),es.length=l.length→(∀ (i:Nat) (p:α×AV),l[i]?=some p→∃ e,es[i]?=some e∧e.key=κ.val p.1∧VRel w I ι H e.val p.2) →
  (Instr.findNow κ.d (κ.val k) es i=some none∧LK l k=none∧∀ v,uN l k v=l++[(k,v)]) ∨
  ∃ j e a,Instr.findNow κ.d (κ.val k) es i=some (some (i+j,e.val))∧es[j]?=some e∧e.key=κ.val k∧LK l k=some a∧VRel w I ι H e.val a∧l[j]?=some (k,a)∧(∀ v,uN l k v=l.set j (k,v))∧aEu l k=l.eraseIdx j
 | [],[],i,_,_=>.inl ⟨rfl,rfl,fun _=>rfl⟩
 | (k',a)::l,e::es,i,hl,hr=>by
  obtain ⟨e0,z1,z2,z3⟩:=hr 0 (k',a) rfl;cases z1;obtain ⟨r,hr1,hiff⟩:=MapKept.sameNow_of_keys (κ.is k) (show MapKept.IsKey κ.d e.key by rw [z2];exact κ.is k');by_cases hk:k'=k
  ·subst hk;have hrt:r=true:=hiff.2 z2.symm;subst hrt;exact .inr ⟨0,e,a,by simp [Instr.findNow,hr1],rfl,z2,by simp [LK],z3,rfl,fun v=>by simp [uN],by simp [aEu]⟩
  have hrf:r=false:=by
   cases r with
   | false=>rfl
   | true=>exact absurd (κ.inj _ _ ((hiff.1 rfl).trans z2)).symm hk
  subst hrf;rcases PS κ k l es (i+1) (by simpa using hl) (fun i p hp=>hr (i+1) p hp)with⟨h1,h2,h3⟩|⟨j,e',a',h1,h2,h3,h4,h5,h6,h7,h8⟩
  ·exact .inl ⟨by simp [Instr.findNow,hr1,h1],by simp [LK,hk,h2],fun v=>by simp [uN,hk,h3]⟩
  exact .inr ⟨j+1,e',a',by simp [Instr.findNow,hr1,h1];omega,by simpa using h2,h3,by simp [LK,hk,h4],h5,by simpa using h6,fun v=>by simp [uN,hk,h7],by simp [aEu,hk,h8]⟩
section
variable {P:Program} {N:Nat} {o:Oper} {E:bO} {H:aB} {T kt et:TypeId} {x y z:Operand} {κ:KeyKind α} {l:List (α×AV)} {id g:Nat} {ob:Ob} {k:α}
theorem IY {zv:Value} {v0:AV} (ho:o.op=.lookup T x y false) (hT:P.underlying T=some (.map kt et)) (hd:P.underlying kt=some κ.d) (hx:aN E x=some (.mp id g)) (hH:H.get id=some ob) (hg:ob.g=g)
  (hrows:ob.rows=nX κ l) (hy:aN E y=some (.pv (κ.pv k))) (hz:∀ w,(zeroValue et).run P w=.ok zv w) (hv:ZV zv v0):cB P N o E H ((LK l k).getD v0) H :=
 .of_run fun a w I ι hr he=>by
  obtain ⟨hsz,b,hι,hvx⟩:=aCG (aI he hx) hH hg;obtain ⟨es,e2,e3,e4⟩:=aCH (hr.obj id ob hH) hsz hι hrows;have hvy:=XM (aI he hy);rcases PS κ k l es.toList 0 (by simpa using e4.size) (fun i p hp=>let ⟨e,q1,_,q3⟩:=e4.rel i p hp;⟨e,by simpa using q1,q3⟩)with⟨h1,h2,h3⟩|⟨j,e,a',h1,h2,h3,h4,h5,_⟩
  ·refine⟨zv,?_,by rw [h2];exact hv.rel⟩;simp only [execOp,ho,hvx,hvy];simp [Instr.lookup,run_underlying hT,MapKept.run_getObj_map e2,MapKept.run_checkKey hd (κ.is k),MapKept.run_findKey hd h1,hz]
  refine⟨e.val,?_,by rw [h4];exact h5⟩;simp only [execOp,ho,hvx,hvy];simp [Instr.lookup,run_underlying hT,MapKept.run_getObj_map e2,MapKept.run_checkKey hd (κ.is k),MapKept.run_findKey hd h1]
theorem K5 {v:AV} {H2:aB} (ho:o.op=.mapUpdate T x y z∨o.op=.insert T x y z) (hT:P.underlying T=some (.map kt et)) (hd:P.underlying kt=some κ.d) (hx:aN E x=some (.mp id g)) (hH:H.get id=some ob) (hg:ob.g=g)
  (hty:ob.ty=l.length) (hrows:ob.rows=nX κ l) (hy:aN E y=some (.pv (κ.pv k))) (hz:aN E z=some v) (hH2:H.set id {ob with ty:=(uN l k v).length,rows:=nX κ (uN l k v)}=H2):cB P N o E H .any H2:=by
 intro a w I ι _ _ hr he K Q hkk;obtain ⟨hsz,b,hι,hvx⟩:=aCG (aI he hx) hH hg;obtain ⟨es,e2,e3,e4⟩:=aCH (hr.obj id ob hH) hsz hι hrows;rw [hty] at e2;have hvy:=XM (aI he hy);have hvz:=aI he hz;subst hH2;have fin:∀ es',(Instr.mapUpdate T (a.eval x) (a.eval y) (a.eval z)).run P w=.ok () (World.setObj w b (.map es' (uN l k v).length))→MapAt w I ι H κ (uN l k v) es'→o.wpW P a w K Q:=by
  intro es' hrun hm;obtain ⟨k2,k3⟩:=Rel.remap (H':=H.set id {ob with ty:=(uN l k v).length,rows:=nX κ (uN l k v)}) (ob':={ob with ty:=(uN l k v).length,rows:=nX κ (uN l k v)}) hr hH hι hsz e2 rfl hsz rfl rfl hm (aB.get_set_same _ _ _) (fun j hj=>aB.get_set_other _ _ hj);unfold Oper.wpW execOp;rcases ho with ho|ho
  ·simp only [ho,Sem.run_bind,hrun,Result.andThen_ok,Sem.run_pure];exact hkk _ _ I ι _ _ ⟨rfl,rfl⟩ (.any _) k2 k3
  simp only [ho,Sem.run_bind,hrun,Result.andThen_ok,Sem.run_pure];exact hkk _ _ I ι _ _ ⟨rfl,rfl⟩ (.any _) k2 k3
 rcases PS κ k l es.toList 0 (by simpa using e4.size) (fun i p hp=>let ⟨e,q1,_,q3⟩:=e4.rel i p hp;⟨e,by simpa using q1,q3⟩)with⟨h1,h2,h3⟩|⟨j,e,a',h1,h2,h3,h4,h5,h6,h7,h8⟩
 ·refine fin (es.push {key:=κ.val k,val:=a.eval z,born:=l.length}) ?_ ⟨?_,?_⟩
  ·simp [Instr.mapUpdate,hvx,hvy,run_underlying hT,MapKept.run_getObj_map e2,MapKept.run_checkKey hd (κ.is k),MapKept.run_findKey hd h1,MapKept.run_setObj_map _ e2,World.setObj,h3]
  ·rw [h3];simp [e4.size]
  intro i p hp;rw [h3] at hp;by_cases hi:i < l.length
  ·rw [List.getElem?_append_left hi] at hp;obtain ⟨e,q1,q2⟩:=e4.rel i p hp;exact⟨e,by rw [Array.getElem?_push,aLR (by rw [e4.size];omega)];exact q1,q2⟩
  rw [List.getElem?_append_right (by omega)] at hp;cases hil:i - l.length with
  | zero =>
   rw [hil] at hp;cases hp;exact⟨_,by rw [Array.getElem?_push,aLS (by rw [e4.size];omega)],by show l.length=i;omega,rfl,hvz⟩
  | succ m=>rw [hil] at hp;simp at hp
 have hj:es[j]?=some e:=by simpa using h2
 have hjl:j < es.size:=(Array.getElem?_eq_some_iff.1 hj).1;have hln:(uN l k v).length=l.length:=by rw [h7];simp
 refine fin (es.modify j fun e=>{e with key:=κ.val k,val:=a.eval z}) ?_ ⟨?_,?_⟩
 ·simp [Instr.mapUpdate,hvx,hvy,run_underlying hT,MapKept.run_getObj_map e2,MapKept.run_checkKey hd (κ.is k),MapKept.run_findKey hd h1,hj,h3,MapKept.run_keyThatStays (κ.is k),MapKept.run_setObj_map _ e2,World.setObj,hln]
 ·rw [h7];simp [e4.size]
 intro i p hp;rw [h7] at hp;by_cases e:i=j
 ·subst e;rw [List.getElem?_set_self (by rw [← e4.size];exact hjl)] at hp;cases hp;exact⟨{e with key:=κ.val k,val:=a.eval z},by rw [Array.getElem?_modify,aLS rfl,hj];rfl,(e4.born hj).1,rfl,hvz⟩
 rw [List.getElem?_set_ne (Ne.symm e)] at hp;obtain ⟨e',q1,q2⟩:=e4.rel i p hp;exact⟨e',by rw [Array.getElem?_modify,aLR (Ne.symm e)];exact q1,q2⟩
theorem Rel.placeX {I:Nat→Prop} {ι:dR} {H H':aB} {w w':World} {id cap:Nat} {ob':Ob} {x:Obj} (hr:Rel I ι H w) (hos:w'.os=w.os) (htape:w'.tape=w.tape) (hout:w'.output=w.output) (hw:w'.heap=w.heap.push x)
  (hold:∀ o,H.get id=some o→o.g < ob'.g)
  (hobj:w'.heap[w.heap.size]?=some x→¬ I w.heap.size→(∀ v a,VRel w I ι H v a→VRel w' I (fun j=>if j=id then some (w.heap.size,cap)else ι j) H' v a)→jF w' I (fun j=>if j=id then some (w.heap.size,cap)else ι j) H' id ob')
  (h1:H'.get id=some ob') (h2:∀ j,j≠id→H'.get j=H.get j) :
  Rel I (fun j=>if j=id then some (w.heap.size,cap)else ι j) H' w'∧Step I ι H w I (fun j=>if j=id then some (w.heap.size,cap)else ι j) H' w':=by
 have hnew:w'.heap[w.heap.size]?=some x:=by rw [hw];simp
 have holdb:∀ x,x < w.heap.size→w'.heap[x]?=w.heap[x]?:=fun x hx=>by rw [hw,Array.getElem?_push,aLR (Nat.ne_of_lt hx)]
 have hsize:w'.heap.size=w.heap.size+1:=by rw [hw];simp
 have hst:Step I ι H w I (fun j=>if j=id then some (w.heap.size,cap)else ι j) H' w':=by
  refine⟨hos,htape,hout,by omega,fun a ha _=>?_,fun _ h=>h,fun _ h=>.inl h,?_,fun x hx _=>holdb x hx,?_⟩
  ·simp [World.frozen?,holdb a.block ha]
  ·rintro x ⟨j,o,c,hj,hc⟩;by_cases e:j=id
   ·simp only [e,if_true] at hc;cases hc;exact .inr (aLZ _)
   simp only [e,if_false] at hc;exact .inl ⟨j,o,c,(h2 j e).symm.trans hj,hc⟩
  intro j o hj;by_cases e:j=id
  ·subst e;have:=hold o hj;exact⟨ob',h1,by omega,fun e=>by omega⟩
  exact⟨o,(h2 j e).trans hj,aLZ _,fun _=>⟨by simp [e],rfl,fun _=>aLZ _⟩⟩
 refine⟨⟨fun x hx=>by have:=hr.imm x hx;omega,?_,?_,hst.glob hr⟩,hst⟩
 ·intro j o hj;by_cases e:j=id
  ·subst e;rw [h1] at hj;cases hj;exact hobj hnew (fun hi=>Nat.lt_irrefl _ (hr.imm _ hi)) (fun v a hv=>hv.mono hr hst)
  rw [h2 j e] at hj;exact(hr.obj j o hj).keep (by simp [e]) (fun x c _ hx=>⟨holdb x hx,fun h=>h⟩) (fun r _ a _ v hv=>hv.mono hr hst)
 intro j j' o o' x c c' hj hj' hc hc';by_cases e:j=id<;>by_cases e':j'=id
 ·rw [e,e']
 ·simp only [e,if_true] at hc;simp only [e',if_false] at hc';cases hc;have:=hr.lt ⟨j',o',c',(h2 j' e').symm.trans hj',hc'⟩;exact absurd this (Nat.lt_irrefl _)
 ·simp only [e,if_false] at hc;simp only [e',if_true] at hc';cases hc';have:=hr.lt ⟨j,o,c,(h2 j e).symm.trans hj,hc⟩;exact absurd this (Nat.lt_irrefl _)
 simp only [e,if_false] at hc;simp only [e',if_false] at hc';exact hr.inj j j' o o' x c c' ((h2 j e).symm.trans hj) ((h2 j' e').symm.trans hj') hc hc'
theorem Rel.placeM {I:Nat→Prop} {ι:dR} {H H':aB} {w w':World} {id:Nat} {ob':Ob} (hr:Rel I ι H w) (hos:w'.os=w.os) (htape:w'.tape=w.tape) (hout:w'.output=w.output) (hw:w'.heap=w.heap.push (.map #[] 0))
  (hold:∀ o,H.get id=some o→o.g < ob'.g) (hsz:ob'.sz=0) (hty:ob'.ty=0) (hrows:ob'.rows=[]) (h1:H'.get id=some ob') (h2:∀ j,j≠id→H'.get j=H.get j) :
  Rel I (fun j=>if j=id then some (w.heap.size,0)else ι j) H' w'∧Step I ι H w I (fun j=>if j=id then some (w.heap.size,0)else ι j) H' w' :=
 hr.placeX hos htape hout hw hold (fun hnew hI _=>.inr (.inl ⟨hsz,w.heap.size,#[],by simp,by rw [hty];exact hnew,hI,by rw [hrows];rfl,by simp,by simp,by rw [hrows];simp⟩)) h1 h2
theorem aFD {I:Nat→Prop} {ι:dR} {w:World} {id gg:Nat} (hr:Rel I ι H w) (hid:∀ o,H.get id=some o→o.g < gg) :
  ∃ ι',VRel (w.alloc (.map #[] 0)) I ι' ((id,⟨gg,0,0,[]⟩)::H) (.map (some w.heap.size)) (.mp id gg)∧Rel I ι' ((id,⟨gg,0,0,[]⟩)::H) (w.alloc (.map #[] 0))∧Step I ι H w I ι' ((id,⟨gg,0,0,[]⟩)::H) (w.alloc (.map #[] 0)):=by
 obtain ⟨h1,h2⟩:=Rel.placeM (H':=(id,⟨gg,0,0,[]⟩)::H) (id:=id) (ob':=⟨gg,0,0,[]⟩) (w':=w.alloc (.map #[] 0)) hr rfl rfl rfl rfl hid rfl rfl rfl (get_cons_same _ _ _) (fun j hj=>get_cons_other _ _ hj);exact⟨_,.mp ⟨gg,0,0,[]⟩ (get_cons_same _ _ _) (aLZ _) rfl fun _=>⟨rfl,w.heap.size,by simp,rfl⟩,h1,h2⟩
theorem FW {α:Type} (κ:KeyKind α) (ho:o.op=.makeMap T none) (hid:H.get id=none):cB P N o E H (.mp id 0) ((id,⟨0,0,([]:List (α×AV)).length,nX κ []⟩)::H):=by intro a w I ι _ _ hr he K Q hk;obtain ⟨ι',h1,h2,h3⟩:=aFD (id:=id) (gg:=0) hr (fun o ho=>by rw [hid] at ho;cases ho);unfold Oper.wpW execOp;simp only [ho,Instr.makeMap,Option.map_none,Sem.run_bind,run_newObj,Sem.run_pure,Result.andThen_ok];exact hk _ _ I ι' _ _ ⟨rfl,rfl⟩ h1 h2 h3
theorem FM {v:AV} {l':List (α×AV)} (ho:o.op=.mapUpdate T x y z∨o.op=.insert T x y z) (hT:P.underlying T=some (.map kt et)) (hd:P.underlying kt=some κ.d) (hx:aN E x=some (.mp id g)) (hH:H.get id=some ob) (hg:ob.g=g)
  (hty:ob.ty=l.length) (hrows:ob.rows=nX κ l) (hy:aN E y=some (.pv (κ.pv k))) (hz:aN E z=some v) (hr:uN l k v=l'):cB P N o E H .any ((id,⟨g,ob.sz,l'.length,nX κ l'⟩)::H):=by
 subst hg hr;exact(K5 ho hT hd hx hH rfl hty hrows hy hz rfl).congr (rA _ _ _)
end
end
end
section
section
variable {P:Program} {N:Nat} {o:Oper} {E:bO} {H:aB} {f:Operand} {args:Array Operand} {at_:Array TypeId} {F:FuncId} {fn:Func} {e:Array Value→Sem Value} {vs:List AV} {r:AV}
def aFs (P:Program) (e:Array Value→Sem Value) (H:aB) (vs:List AV) (r:AV):Prop :=∀ (w:World) (I:Nat→Prop) (ι:dR) (cs:Array Value),cs.size=vs.length→(∀ (i:Nat) (v:Value) (a:AV),cs[i]?=some v→vs[i]?=some a→VRel w I ι H v a)→∃ c,(e cs).run P w=.ok c w∧VRel w I ι H c r
theorem G5 (ho:o.op=.call {callee:=.value f,args:=args,argTypes:=at_}) (hf:aN E f=some (.pv (.fn F))) (hF:P.funcs[F]?=some fn) (hname:(fn.name == "runtime.NumGoroutine")=false)
  (hb:fn.body.isNone=true) (hn:Extern.findNext fn=none) (he:Extern.find fn=some e) (hv:sX E args.toList=some vs) (h:aFs P e H vs r):cB P N o E H r H :=
 .of_run fun a w I ι hr hE=>by
  have hfv:=(aI hE hf).fn_inv;obtain ⟨h1,h2⟩:=lC hE (jV hv);obtain ⟨c,hc,hcr⟩:=h w I ι (args.map a.eval) (by simpa using h1) (fun i v b hv hb=>h2 i v b (by simpa using hv) hb);refine⟨c,?_,hcr⟩;unfold execOp;simp only [ho,resolve,hfv,Deferred.ofValue,Sem.run_bind,Sem.run_pure,Result.andThen_ok,invoke,Array.empty_append,Array.append_empty,run_callFunc_extern hF hname hb hn he,hc]
theorem QW {w:World} {I:Nat→Prop} {ι:dR} {H:aB} {x y:AV} {cs:Array Value} (hl:cs.size=[x,y].length) (h:∀ (i:Nat) (v:Value) (a:AV),cs[i]?=some v→[x,y][i]?=some a→VRel w I ι H v a):∃ u v,cs=#[u,v]∧VRel w I ι H u x∧VRel w I ι H v y:=by
 obtain ⟨l⟩:=cs
 match l,hl with
 | [u,v],_=>exact⟨u,v,rfl,h 0 u x rfl rfl,h 1 v y rfl rfl⟩
theorem LP (s:ByteArray) (c:Int):aFs P Extern.BytealgIndexByte.indexByte H [.pv (.str s),.pv (.int .u8 c)] (.pv (.int .i64 (Lib.indexByte s.data.toList c.toNat.toUInt8))):=by intro w I ι cs hl h;obtain ⟨u,v,rfl,h1,h2⟩:=QW hl h;rw [h1.str_inv,h2.int_inv];exact⟨_,Lib.run_indexByteString s c w,.pv (.int _ _)⟩
end
theorem wU {P:Program} {G0:aB} {N:Nat} {ops:Array Oper} {K:bO→aB→Prop} {E:bO} {H:aB} {l:List Oper} {t:Tmp} {v:AV} (hb:E.get t=some v) (h:AL P G0 N ops K l ((t,v)::E) H):AL P G0 N ops K l E H:=by
 intro G hG a w hs;refine h G hG a w (cD.sub (G0:=G0) (fun k u hk=>?_) G hG N a w hs);by_cases e:t=k
 ·subst e;rw [bO.get_cons_same] at hk;rw [hb,hk]
 rwa [bO.get_cons_other _ _ e] at hk
end
end Go.Abs
namespace Go.Proofs.YtiifmppaejpemaaGreatDoor
open Go.Proofs.Tryz
open Go.Abs
theorem sZ (s:ByteArray) (c:Int) (H:aB):aH Tryz.prog 187 [.pv (.str s),.pv (.int .u8 c)] H (fun r H'=>r=.pv (.int .i64 (Lib.indexByte s.data.toList c.toNat.toUInt8))∧H'=H):=by refine Pu ?_;exact Bd func187 rfl ntmps187<|Sr<|Dd aP<|Zz<|Sr<|Dd aF<|Dd aF<|Dd (by exact G5 rfl rfl func220 rfl rfl rfl rfl rfl (LP s c))<|Dd aP<|Zz<|aC<|Rt<|Qq
theorem mV (s:ByteArray) (c:Int) (H:aB):aH Tryz.prog 150 [.pv (.str s),.pv (.int .u8 c)] H (fun r H'=>r=.pv (.int .i64 (Lib.indexByte s.data.toList c.toNat.toUInt8))∧H'=H):=by refine Pu ?_;exact Bd func150 rfl ntmps150<|Sr<|Dd aP<|Zz<|Sr<|Dd aF<|Dd aF<|Dd (by exact aA rfl rfl aKq rfl (sZ s c _))<|Dd aP<|Zz<|aC<|Rt<|Qq
abbrev aGe:ByteArray:=⟨#[32,9,10]⟩
abbrev aKS:ByteArray:=⟨#[59,44,46,58,40,41,123,125,91,93,61,60,62,47,45]⟩
def VQ (s:ByteArray) (n:Int):Bool:=decide (0≤Lib.indexByte s.data.toList n.toNat.toUInt8)
def JN (n:Int):Bool:=(decide (97≤n)&&decide (n≤122))||(decide (65≤n)&&decide (n≤90))
def SD (n:Int):Bool:=decide (48≤n)&&decide (n≤57)
def AS (n:Int):Int:=if JN n then 3 else if SD n then 4 else if VQ aGe n then 1 else if VQ aKS n then 6 else 0
def DK (n:Int):Int:=if n=34 then 7 else if n=95 then 5 else if n=35 then 2 else AS n
def lT (c:Nat):List AV:=(List.range 256).map fun(i:Nat)=>.pv (.int .u8 (if i < c then AS i else 0))
def pV:List AV:=(List.range 256).map fun(i:Nat)=>.pv (.int .u8 (DK i))
theorem gN (c:Nat):(lT c).length=256:=by simp [lT]
theorem oH {c:Nat} (hc:c < 256) {v:Int} (hv:AS c=v):(lT c).set c (.pv (.int .u8 v))=lT (c+1):=by
 apply List.ext_getElem
 ·simp [lT]
 intro i h1 h2;simp only [lT,aLT,List.length_range] at h2;rw [List.getElem_set]
 split
 ·next e=>subst e;simp [lT,hv]
 next e=>simp only [lT,List.getElem_map,List.getElem_range];congr 2;by_cases h:i < c<;>by_cases h':i < c+1<;>simp [h,h']<;>omega
theorem S8 {c:Nat} (hc:c < 256) (hv:AS c=0):lT c=lT (c+1):=by
 rw [← oH hc hv];apply List.ext_getElem
 ·simp
 intro i h1 h2;rw [List.getElem_set]
 split
 ·next e=>subst e;simp [lT]
 rfl
theorem S7:List.replicate 256 (.pv (.int .u8 0))=lT 0:=by kernel_rfl
theorem S9:(((lT 256).set 35 (.pv (.int .u8 2))).set 95 (.pv (.int .u8 5))).set 34 (.pv (.int .u8 7))=pV:=by kernel_rfl
theorem WH {m:Nat} (h:m < 256):pV[m]?=some (.pv (.int .u8 (DK m))):=by simp [pV,h]
theorem kR (c:Nat) (H:aB):∀ r∈[lT c],∀ a∈r,Clo H a:=by intro r hr a ha;rw [aLW] at hr;subst hr;obtain ⟨i,_,rfl⟩:=List.mem_map.1 ha;simp
theorem S6 (H:aB):Clo H (.agg pV):=by rw [PZ];intro a ha;obtain ⟨i,_,rfl⟩:=List.mem_map.1 ha;simp
theorem WU:dN Tryz.prog 160 (List.replicate 256 (.pv (.int .u8 0))):=⟨_,.agg (List.replicate 256 (.pv (.int .u8 0))),zeroValue160,.inl (by kernel_rfl),rfl⟩
theorem NV (H:aB):aH Tryz.prog 127 [] H (fun r H'=>r=.agg pV∧H'=H):=by
  refine Pu ?_;refine Bd func127 rfl ntmps127<|Sr<|Dd (by exact bC (id:=0) rfl WU rfl rfl)<|Zz<|Sr<|Dd (by exact bC (id:=1) rfl WU rfl rfl)<|Zz<|Sq<|Sr<|Dd aF<|Zz<|aG ?_;rw [S7];refine bQ (σ:=Nat) (fun c=>([(0,.ref 0 0 0 0),(1,.ref 1 0 0 0),(4,iv (c:Int))],[(1,bx 256 160 (lT c)),(0,bx 256 160 (lT 0))])) (fun c=>c≤256) (fun c=>256 - c) 0 (by omega) ?_ ?_
  · exact(cD.wk (Ea<|Ea<|Eb<|trivial) (Hc (kR _ _)<|Hc (kR _ _)<|trivial) trivial)
  · intro c hc
    refine Sr<|Dd dK<|Zz<|Sq ?_;refine Cn ?_ ?_<;>intro hc1
    · have hlt:c < 256:=by have:=aLP hc1;omega
      refine aE<|Sq<|aG<|Sr<|Dd aF<|Dd aP<|Zz<|Sr<|Dd aF<|Dd (by exact nF rfl underlying3 jK rfl (by exact wu8 (by omega) (by omega)))<|Dd aP<|Zz<|aG<|Sq<|Sq ?_;refine bD (t:=9) (n:=8) (X:=decide (97≤(c:Int))&&decide ((c:Int)≤122)) ?_ ?_
      · all_goals refine Dd aF ?_
        all_goals refine Dd TP<|Dm ?_
        all_goals refine Sp 12 (fun h12=>?_) fun h12=>?_
        all_goals try contradiction
        all_goals first|refine Fo<|Fo ?_|refine On aF<|On TP ?_
        all_goals refine Dd cE<|Da ?_
        all_goals(exact⟨⟨_,rfl,by(simp only [*,Zo];done)⟩,rfl,rfl,rfl⟩)
      refine Cn ?_ ?_<;>intro hc2
      · have hv:AS c=3:=by rw [AS,JN,hc2];rfl
        refine aE ?_;refine Cn ?_ ?_<;>intro hc3
        · skip
          refine Rg<|Dd aF<|Dd (by exact dA (k2:=c) rfl eG bR rfl rfl rfl rfl (by omega) (by exact aL4 _) (by omega) (by omega))<|Uu (by exact bA rfl bR rfl rfl rfl rfl rfl rfl (by rw [gN];omega) (oH hlt hv) rfl)<|Zz<|Rg<|Dd pM<|Dd aF<|Zz ?_;exact⟨c+1,by omega,by omega,(cD.wk (Ea<|Ea<|Eb<|trivial) (Hc (kR _ _)<|Hc (kR _ _)<|trivial) trivial)⟩
        · rw [hc2] at hc3;cases hc3
      · skip
        refine bD (t:=9) (n:=8) (X:=decide (65≤(c:Int))&&decide ((c:Int)≤90)) ?_ ?_
        · all_goals refine Dd aF ?_
          all_goals refine Dd TP<|Dm ?_
          all_goals refine Sp 18 (fun h18=>?_) fun h18=>?_
          all_goals try contradiction
          all_goals first|refine Fo<|Fo ?_|refine On aF<|On TP ?_
          all_goals refine Dd cE<|Da ?_
          all_goals(exact⟨⟨_,rfl,by(simp only [*,Zo];done)⟩,rfl,rfl,rfl⟩)
        refine Cn ?_ ?_<;>intro hc4
        · have hv:AS c=3:=by rw [AS,JN,hc2,hc4];rfl
          refine Rg<|Dd aF<|Dd (by exact dA (k2:=c) rfl eG bR rfl rfl rfl rfl (by omega) (by exact aL4 _) (by omega) (by omega))<|Uu (by exact bA rfl bR rfl rfl rfl rfl rfl rfl (by rw [gN];omega) (oH hlt hv) rfl)<|Zz<|Rg<|Dd pM<|Dd aF<|Zz ?_;exact⟨c+1,by omega,by omega,(cD.wk (Ea<|Ea<|Eb<|trivial) (Hc (kR _ _)<|Hc (kR _ _)<|trivial) trivial)⟩
        · skip
          refine Sq ?_;refine bD (t:=24) (n:=8) (X:=decide (48≤(c:Int))&&decide ((c:Int)≤57)) ?_ ?_
          · all_goals refine Dd aF ?_
            all_goals refine Dd TP<|Dm ?_
            all_goals refine Sp 27 (fun h27=>?_) fun h27=>?_
            all_goals try contradiction
            all_goals first|refine Fo<|Fo ?_|refine On aF<|On TP ?_
            all_goals refine Dd cE<|Da ?_
            all_goals(exact⟨⟨_,rfl,by(simp only [*,Zo];done)⟩,rfl,rfl,rfl⟩)
          refine Cn ?_ ?_<;>intro hc5
          · have hv:AS c=4:=by rw [AS,JN,hc2,hc4,SD,hc5];rfl
            refine Rg<|Dd aF<|Dd (by exact dA (k2:=c) rfl eG bR rfl rfl rfl rfl (by omega) (by exact aL4 _) (by omega) (by omega))<|Uu (by exact bA rfl bR rfl rfl rfl rfl rfl rfl (by rw [gN];omega) (oH hlt hv) rfl)<|Zz<|Rg<|Dd pM<|Dd aF<|Zz ?_;exact⟨c+1,by omega,by omega,(cD.wk (Ea<|Ea<|Eb<|trivial) (Hc (kR _ _)<|Hc (kR _ _)<|trivial) trivial)⟩
          · skip
            refine Sr<|Dd aF<|Dd (by exact aA rfl rfl tY rfl (mV _ _ _))<|Dd JR<|Da ?_;refine Cn ?_ ?_<;>intro hc6
            · have hv:AS c=1:=by rw [AS,JN,hc2,hc4,SD,hc5,VQ,hc6];rfl
              refine Rg<|Dd aF<|Dd (by exact dA (k2:=c) rfl eG bR rfl rfl rfl rfl (by omega) (by exact aL4 _) (by omega) (by omega))<|Uu (by exact bA rfl bR rfl rfl rfl rfl rfl rfl (by rw [gN];omega) (oH hlt hv) rfl)<|Zz<|Rg<|Dd pM<|Dd aF<|Zz ?_;exact⟨c+1,by omega,by omega,(cD.wk (Ea<|Ea<|Eb<|trivial) (Hc (kR _ _)<|Hc (kR _ _)<|trivial) trivial)⟩
            · skip
              refine Sr<|Dd aF<|Dd (by exact aA rfl rfl tY rfl (mV _ _ _))<|Dd JR<|Da ?_;refine Cn ?_ ?_<;>intro hc7
              · have hv:AS c=6:=by rw [AS,JN,hc2,hc4,SD,hc5,VQ,hc6,VQ,hc7];rfl
                refine Rg<|Dd aF<|Dd (by exact dA (k2:=c) rfl eG bR rfl rfl rfl rfl (by omega) (by exact aL4 _) (by omega) (by omega))<|Uu (by exact bA rfl bR rfl rfl rfl rfl rfl rfl (by rw [gN];omega) (oH hlt hv) rfl)<|Zz<|Rg<|Dd pM<|Dd aF<|Zz ?_;exact⟨c+1,by omega,by omega,(cD.wk (Ea<|Ea<|Eb<|trivial) (Hc (kR _ _)<|Hc (kR _ _)<|trivial) trivial)⟩
              · have hv:AS c=0:=by rw [AS,JN,hc2,hc4,SD,hc5,VQ,hc6,VQ,hc7];rfl
                refine aE<|Rg<|Dd pM<|Dd aF<|Zz ?_;rw [S8 hlt hv];exact⟨c+1,by omega,by omega,(cD.wk (Ea<|Ea<|Eb<|trivial) (Hc (kR _ _)<|Hc (kR _ _)<|trivial) trivial)⟩
    · have : c = 256 := by have : ¬ ((c : Int) < 256) := by simpa using hc1
                           omega
      subst this;refine bG<|Sr<|Dd (by exact dA (k2:=35) rfl eG bR rfl rfl rfl rfl (by omega) rfl (by omega) rfl)<|Uu (by exact bA rfl bR rfl rfl rfl rfl rfl rfl (by simp [gN]) rfl rfl)<|Dd (by exact dA (k2:=95) rfl eG bR rfl rfl rfl rfl (by omega) rfl (by omega) rfl)<|Uu (by exact bA rfl bR rfl rfl rfl rfl rfl rfl (by simp [gN]) rfl rfl)<|Dd (by exact dA (k2:=34) rfl eG bR rfl rfl rfl rfl (by omega) rfl (by omega) rfl)<|Uu (by exact bA rfl bR rfl rfl rfl rfl rfl rfl (by simp [gN]) rfl rfl)<|Zz<|Sr<|Dd (by exact aM rfl aJl tT rfl rfl rfl rfl (show List.take 256 (List.drop 0 _)=pV by rw [← S9];rfl) rfl)<|Uu (iH tT)<|Zz<|aC ?_;refine dF (H':=[]) (.inr rfl) rfl (eU rfl aJl tT rfl rfl rfl (show List.take 256 (List.drop 0 pV)=pV by rfl) rfl) (Fin.wk (by exact S6 _) trivial trivial) ?_;exact Qq
abbrev sNil:ByteArray:=⟨#[]⟩
theorem FB (s:ByteArray) (k:Nat):0≤dU s k:=by unfold dU;omega
theorem FC (s:ByteArray) (k:Nat):(dU s k).toNat < 256:=by
 unfold dU;have:=(((s.data.toList[k]?).getD 0)).toNat_lt
 simpa using this
theorem aGM (s:ByteArray) (k:Nat):pV[(dU s k).toNat]?=some (.pv (.int .u8 (DK (dU s k)))):=by rw [WH (FC s k),Int.toNat_of_nonneg (FB s k)]
theorem gB (H:aB):∀ r∈[pV],∀ a∈r,Clo H a:=by intro r hr a ha;rw [aLW] at hr;subst hr;have:=S6 H;rw [PZ] at this;exact this a ha
def TD (s:ByteArray) (k:Nat):Bool:=!decide (DK (dU s k)=3)&&(decide ((k:Int)=0)||(!decide (DK (dU s k)=4)&&!decide (DK (dU s k)=5)))
def bI (s:ByteArray):Bool:=!((List.range s.size).any (TD s))&&(!decide (s=sNil)&&decide ((s.size:Int)≤24))
theorem MR {n:Nat} {p:Nat→Bool} (h:∀ j,j < n→p j=false):(List.range n).any p=false:=by rw [List.any_eq_false];intro x hx;rw [h x (List.mem_range.1 hx)];simp
theorem IR {n k:Nat} {p:Nat→Bool} (hk:k < n) (h:p k=true):(List.range n).any p=true:=List.any_eq_true.2 ⟨k,List.mem_range.2 hk,h⟩
theorem wC (s:ByteArray) (H:aB) (hs:s.size < 4611686018427387904):aH Tryz.prog 74 [sv s] H (fun r H'=>r=bv (bI s)∧H'=H):=by
 refine Pu ?_;refine Bd func74 rfl ntmps74<|Sr<|Dd aP<|Zz<|Sr<|Dd (by exact aA rfl rfl call127 rfl (NV _))<|Dd (by exact bC (id:=3) rfl WU rfl rfl)<|Uu (by exact bT rfl tT rfl rfl rfl rfl rfl rfl rfl (by simp))<|Zz<|Sq<|Sr<|Dd aF<|Dd (nT underlying9)<|Dd aF<|Zz<|aG ?_;refine bQ (σ:=Nat) (fun k=>([(0,sv s),(3,.ref 3 0 0 0),(8,iv (s.size:Int)),(9,iv (k:Int))],[(3,bx 256 160 pV)])) (fun k=>k≤s.size∧∀ j,j < k→TD s j=false) (fun k=>s.size - k) 0 ⟨by omega,by omega⟩ ?_ ?_
 ·exact(cD.wk (Eb<|Ea<|Eb<|Eb<|trivial) (Hc (gB _)<|trivial) trivial)
 rintro k ⟨hk,hno⟩;refine Sr<|Dd dK<|Zz<|Sq ?_;refine Cn ?_ ?_<;>intro hc1
 ·have hlt:k < s.size:=by have:=aLP hc1;omega
  refine aE<|Sq<|aG<|Sr<|Dd aF<|Dd aP<|Zz<|Sr<|Dd aF<|Dd aF<|Dd (by exact eI rfl underlying9 rfl rfl (by omega) (by exact aL4 _) (by omega) rfl)<|Dd (by exact dA (m:=(dU s k).toNat) (k2:=(dU s k).toNat) rfl eG bR rfl rfl rfl rfl (FB s k) rfl (FC s k) (by omega))<|Dd (by exact aK rfl xS rfl rfl rfl rfl (aGM s k))<|Dd aP<|Zz<|Sq ?_;refine bD (t:=30) (n:=17) (X:=TD s k) ?_ ?_
  ·all_goals refine Dd aF ?_
   all_goals refine Dd uL<|Dm ?_
   all_goals refine Sp 19 (fun h19=>?_) fun h19=>?_
   all_goals try contradiction
   all_goals first|refine Fo<|Fo<|Fo ?_|refine On aF<|On cY<|On aF ?_
   all_goals(first|refine Sp 22 (fun h22=>?_) fun h22=>?_|refine wU (t:=22) rfl ?_)
   all_goals try contradiction
   all_goals first|refine Fo ?_|refine Fu ?_|refine On aF ?_
   all_goals first|refine Fo ?_|refine Fu ?_|refine On uL ?_
   all_goals first|refine Fo ?_|refine Fu ?_|refine On aF ?_
   all_goals(first|refine Sp 25 (fun h25=>?_) fun h25=>?_|refine wU (t:=25) rfl ?_)
   all_goals try contradiction
   all_goals first|refine Fo ?_|refine Fu ?_|refine On aF ?_
   all_goals first|refine Fo ?_|refine Fu ?_|refine On uL ?_
   all_goals first|refine Fo ?_|refine Fu ?_|refine On cE ?_
   all_goals first|refine Fo ?_|refine On cE ?_
   all_goals refine Dd cE<|Zz ?_
   all_goals(exact⟨⟨_,rfl,by(simp only [TD, *];rfl)⟩,rfl,rfl,rfl⟩)
  refine Cn ?_ ?_<;>intro hc2
  ·refine Sr<|Dd aP<|Zz<|aC<|Rt ?_;exact⟨by rw [bI,IR hlt hc2];rfl,rfl⟩
  refine aE<|Rg<|Dd pM<|Dd aF<|Zz ?_;refine⟨k+1,⟨by omega,fun j hj=>?_⟩,by omega,(cD.wk (Eb<|Ea<|Eb<|Eb<|trivial) (Hc (gB _)<|trivial) trivial)⟩;by_cases e:j=k
  ·subst e;exact hc2
  exact hno j (by omega)
 have hge:k=s.size:=by have:=aLQ hc1;omega
 refine bG<|Sq ?_;refine bD (t:=2) (n:=9) (X:=!decide (s=sNil)&&decide ((s.size:Int)≤24)) ?_ ?_
 ·all_goals refine Dd aF ?_
  all_goals refine Dd Q6<|Dm ?_
  all_goals refine Sp 34 (fun h34=>?_) fun h34=>?_
  all_goals try contradiction
  all_goals first|refine Fo<|Fo<|Fo ?_|refine On aF<|On (nT underlying9)<|On TP ?_
  all_goals refine Dd cE<|Da ?_
  all_goals(exact⟨⟨_,rfl,by(simp only [TD, *];rfl)⟩,rfl,rfl,rfl⟩)
 refine aC<|Rt ?_;subst hge;exact⟨by rw [bI,MR hno];rfl,rfl⟩
def fB {α:Type} (f:α→ByteArray) (l:List α):Nat→ByteArray
 | 0=>sNil
 | k+1=>((l[k]?).map f).getD sNil
def sle (a b:ByteArray):Bool:=CA a b||decide (a=b)
def FE (last:ByteArray) (t:GTag):Bool:=!bI t.key||sle t.key last||decide (t.val=sNil)||decide (200 < (t.val.size:Int))
def NZ {α:Type} (p:ByteArray→α→Bool) (f:α→ByteArray) (l:List α) (k:Nat):Bool:=match l[k]? with
 | some t=>p (fB f l k) t
 | none=>false
theorem J6 {α:Type} {p:ByteArray→α→Bool} {f:α→ByteArray} {l:List α} {k:Nat} {t:α} (h:l[k]?=some t):NZ p f l k=p (fB f l k) t:=by rw [NZ,h]
theorem GB {α:Type} {f:α→ByteArray} {l:List α} {k:Nat} {t:α} (h:l[k]?=some t):fB f l (k+1)=f t:=by rw [fB,h];rfl
def xD (l:List GTag):Bool:=!((List.range l.length).any (NZ FE GTag.key l))&&decide ((l.length:Int)≤60)
def I7 (l:List GTag):Prop:=l.length < 4611686018427387904∧∀ t∈l,t.key.size < 4611686018427387904∧t.val.size < 4611686018427387904
theorem vM (l:List GTag) (H:aB) (hl:I7 l):aH Tryz.prog 265 [.pv (qY l)] H (fun r H'=>r=bv (xD l)∧H'=H):=by
 refine Pu ?_;obtain ⟨hl,hks⟩:=hl;have hml:(l.map bF).length=l.length:=aLT _;refine Bd func265 rfl ntmps265<|Sr<|Dd aP<|Zz<|Sr<|Dd aP<|Zz<|Sq<|Sr<|Dd aF<|Dd (fY cM)<|Dd aF<|Zz<|aG ?_;refine bQ (σ:=Nat) (fun k=>([(0,.pv (qY l)),(3,sv (fB GTag.key l k)),(6,.pv (qY l)),(7,iv ((l.map bF).length:Int)),(8,iv (k:Int))],[])) (fun k=>k≤l.length∧∀ j,j < k→NZ FE GTag.key l j=false) (fun k=>l.length - k) 0 ⟨by omega,by omega⟩ ?_ ?_
 ·exact Wk
 rintro k ⟨hk,hno⟩;refine Sr<|Dd dK<|Zz<|Sq ?_;refine Cn ?_ ?_<;>intro hc1
 ·have hlt:k < l.length:=by have:=aLP hc1;omega
  obtain ⟨t,ht⟩:=bE hlt;have hi:=cJ (f:=bF) ht;have hkt:=hks t (aL3 ht);refine aE<|Sq<|aG<|Sr<|Dd (xZ wY)<|Dd (by exact cQ rfl qQ iC rfl (by omega) (by simp only [Zl,bF,bH];rfl) rfl)<|Dd (by exact bC (id:=5) rfl aFu rfl rfl)<|Uu (iH iC)<|Zz<|Sq<|Sq ?_;refine bD (t:=32) (n:=24) (X:=FE (fB GTag.key l k) t) ?_ ?_
  ·all_goals refine Dd (bB DD) ?_
   all_goals refine Dd (bK isAgg9)<|Dd (by exact aA rfl rfl mD rfl (wC t.key _ hkt.1))<|Dd lI<|Dm ?_
   all_goals refine Sp 16 (fun h16=>?_) fun h16=>?_
   all_goals try contradiction
   all_goals first|refine Fo<|Fo<|Fo<|Fo ?_|refine On (bB DD)<|On (bK isAgg9)<|On aF<|On (by exact aBv rfl rfl rfl) ?_
   all_goals refine Dd cE<|Dm ?_
   all_goals refine Sp 22 (fun h22=>?_) fun h22=>?_
   all_goals try contradiction
   all_goals first|refine Fo<|Fo<|Fo ?_|refine On (bB HF)<|On (bK isAgg9)<|On zZ ?_
   all_goals refine Dd cE<|Dm ?_
   all_goals refine Sp 27 (fun h27=>?_) fun h27=>?_
   all_goals try contradiction
   all_goals first|refine Fo<|Fo<|Fo<|Fo ?_|refine On (bB HF)<|On (bK isAgg9)<|On (nT underlying9)<|On mI ?_
   all_goals refine Dd cE<|Zz ?_
   all_goals(exact⟨⟨_,rfl,by(simp only [FE,sle, *];rfl)⟩,rfl,rfl,rfl⟩)
  refine Cn ?_ ?_<;>intro hc2
  ·refine Sr<|Dd aP<|Zz<|aC<|Rt ?_;exact⟨by rw [xD,IR hlt ((J6 ht).trans hc2)];rfl,rfl⟩
  refine aE<|Rg<|Dd (bB DD)<|Dd (bK isAgg9)<|Dd aP<|Zz<|Rg<|Dd pM<|Dd aF<|Zz ?_;refine⟨k+1,⟨by omega,fun j hj=>?_⟩,by omega,?_⟩
  ·by_cases e:j=k
   ·subst e;exact(J6 ht).trans hc2
   exact hno j (by omega)
  rw [GB ht];exact Wk
 have hge:k=l.length:=by have:=aLQ hc1;omega
 subst hge;refine bG<|Sr<|Dd aF<|Dd (fY cM)<|Dd TP<|Dd aP<|Zz<|aC<|Rt ?_;exact⟨by rw [xD,MR hno,← hml];rfl,rfl⟩
end Go.Proofs.YtiifmppaejpemaaGreatDoor
namespace Go.Abs
section
section
variable {P:Program} {N:Nat} {o:Oper} {E:bO} {H:aB} {T:TypeId} {x y z:Operand}
theorem LA {e:TypeId} {cnt:Nat} {kk:IntKind} {n:Int} {m:Nat} {l:List AV} {v:AV} (ho:o.op=.index T x y) (hT:P.underlying T=some (.array cnt e)) (hs:∀ w,(sizeOf e).run P w=.ok 1 w) (ha:∀ w,(isAgg e).run P w=.ok false w)
  (hx:aN E x=some (.agg l)) (hy:aN E y=some (.pv (.int kk n))) (h0:0≤n) (hm:n.toNat=m) (hi:m < cnt) (hv:l[m]?=some v):cB P N o E H v H :=
 .of_run fun a w I ι hr he=>by
  have h:=aI he hx;have hn:=(aI he hy).int_inv;generalize hc:a.eval x=c at h;cases h with
  | @agg vs _ hl h1 h2 =>
   have hlt:m < vs.size:=by rw [hl];exact(aLX.1 hv).1
   have hu:vs[m]?=some vs[m]:=Array.getElem?_eq_getElem hlt;refine⟨vs[m],?_,h2 m _ v hu hv⟩;have h5:n < (cnt:Int):=by omega
   simp only [execOp,ho,hc,hn];simp [Instr.index,run_underlying hT,asIntOf,h0,h5,hs,hm,part,ha,hu]
def AR (l:List ByteArray):List (ByteArray×AV):=l.map fun s=>(s,.pv (.bool true))
def inB (l:List ByteArray) (s:ByteArray):Bool:=l.any fun a=>decide (a=s)
def IB (l:List ByteArray) (s:ByteArray):List ByteArray:=if inB l s then l else l++[s]
theorem aB0 (l:List ByteArray) (s:ByteArray):(LK (AR l) s).getD (.pv (.bool false))=.pv (.bool (inB l s)):=by
 induction l with
 | nil=>rfl
 | cons a l ih =>
  by_cases h:a=s
  ·subst h;simp [AR,LK,inB]
  simp only [AR,List.map_cons,LK,h,if_false,inB,List.any_cons,decide_false,Bool.false_or] at ih ⊢;exact ih
theorem aBZ (l:List ByteArray) (s:ByteArray):uN (AR l) s (.pv (.bool true))=AR (IB l s):=by
 induction l with
 | nil=>rfl
 | cons a l ih =>
  by_cases h:a=s
  ·subst h;simp [AR,uN,IB,inB]
  have e:IB (a::l) s=a::IB l s:=by
   unfold IB inB;rw [List.any_cons,decide_eq_false h,Bool.false_or]
   split<;>rfl
  rw [e];show uN ((a,.pv (.bool true))::AR l) s (.pv (.bool true))=(a,.pv (.bool true))::AR (IB l s);rw [uN,aLR h,ih]
theorem N9 {kt et:TypeId} {l:List ByteArray} {id g:Nat} {ob:Ob} {s:ByteArray} {zv:Value} (ho:o.op=.lookup T x y false) (hT:P.underlying T=some (.map kt et)) (hd:P.underlying kt=some .string) (hx:aN E x=some (.mp id g)) (hH:H.get id=some ob) (hg:ob.g=g)
  (hrows:ob.rows=nX UC (AR l)) (hy:aN E y=some (.pv (.str s))) (hz:∀ w,(zeroValue et).run P w=.ok zv w) (hv:ZV zv (.pv (.bool false))):cB P N o E H (.pv (.bool (inB l s))) H:=by
 rw [← aB0];exact IY (κ:=UC) ho hT hd hx hH hg hrows hy hz hv
theorem YV {kt et:TypeId} {l:List ByteArray} {id g:Nat} {ob:Ob} {s:ByteArray} (ho:o.op=.mapUpdate T x y z∨o.op=.insert T x y z) (hT:P.underlying T=some (.map kt et)) (hd:P.underlying kt=some .string) (hx:aN E x=some (.mp id g)) (hH:H.get id=some ob) (hg:ob.g=g)
  (hty:ob.ty=(AR l).length) (hrows:ob.rows=nX UC (AR l)) (hy:aN E y=some (.pv (.str s))) (hz:aN E z=some (.pv (.bool true))):cB P N o E H .any ((id,⟨g,ob.sz,(AR (IB l s)).length,nX UC (AR (IB l s))⟩)::H) :=
 FM (κ:=UC) ho hT hd hx hH hg hty hrows hy hz (aBZ l s)
abbrev sob (l:List ByteArray):Ob:=⟨0,0,(AR l).length,nX UC (AR l)⟩
end
end
end Go.Abs
