/-
  Parts of the proof: rules of an abstract program logic, contracts of functions, plain laws. Conditions: each theorem's own.
-/
import Derived.Test.YtlnfjkdacimblaaGreatDoorKW6M2
import Derived.MapKept
import Derived.Laws.IdiomRangeMap
import Derived.Lib.Bytealg
set_option linter.unusedVariables false
set_option linter.unusedSimpArgs false
set_option maxRecDepth 100000
set_option maxHeartbeats 8000000
namespace Go.Proofs
theorem t8:type_of% Tryz.call142:=Tryz.call142
theorem C0:type_of% Tryz.call78:=Tryz.call78
theorem fX:type_of% Tryz.isAgg117:=Tryz.isAgg117
theorem N5:type_of% Tryz.isAgg5:=Tryz.isAgg5
theorem dR:type_of% Tryz.sizeOf117:=Tryz.sizeOf117
theorem A8:type_of% Tryz.sizeOf214:=Tryz.sizeOf214
theorem dY:type_of% Tryz.sizeOf5:=Tryz.sizeOf5
theorem aL:type_of% Tryz.sizeOf51:=Tryz.sizeOf51
theorem nP:type_of% Tryz.sizeOf52:=Tryz.sizeOf52
theorem aHK:type_of% Tryz.sizeOf60:=Tryz.sizeOf60
theorem RH:type_of% Tryz.sizeOf96:=Tryz.sizeOf96
theorem TK:type_of% Tryz.underlying114:=Tryz.underlying114
theorem cT:type_of% Tryz.underlying133:=Tryz.underlying133
theorem A7:type_of% Tryz.underlying137:=Tryz.underlying137
theorem A6:type_of% Tryz.underlying154:=Tryz.underlying154
theorem TJ:type_of% Tryz.underlying163:=Tryz.underlying163
theorem TI:type_of% Tryz.underlying174:=Tryz.underlying174
theorem fV:type_of% Tryz.underlying214:=Tryz.underlying214
theorem cB:type_of% Tryz.underlying22:=Tryz.underlying22
theorem lL:type_of% Tryz.underlying33:=Tryz.underlying33
theorem cQ:type_of% Tryz.underlying36:=Tryz.underlying36
theorem oP:type_of% Tryz.underlying42:=Tryz.underlying42
theorem aK:type_of% Tryz.underlying46:=Tryz.underlying46
theorem cK:type_of% Tryz.underlying47:=Tryz.underlying47
theorem jS:type_of% Tryz.underlying49:=Tryz.underlying49
theorem qG:type_of% Tryz.underlying5:=Tryz.underlying5
theorem fN:type_of% Tryz.underlying51:=Tryz.underlying51
theorem eE:type_of% Tryz.underlying52:=Tryz.underlying52
theorem YE:type_of% Tryz.underlying82:=Tryz.underlying82
theorem YD:type_of% Tryz.underlying96:=Tryz.underlying96
theorem CX:type_of% Tryz.underlying99:=Tryz.underlying99
theorem YC:type_of% Tryz.zeroValue117:=Tryz.zeroValue117
theorem YB:type_of% Tryz.zeroValue137:=Tryz.zeroValue137
theorem eC:type_of% Tryz.zeroValue3:=Tryz.zeroValue3
theorem FN:type_of% Tryz.zeroValue38:=Tryz.zeroValue38
theorem aCC:type_of% Tryz.zeroValue42:=Tryz.zeroValue42
theorem FM:type_of% Tryz.zeroValue46:=Tryz.zeroValue46
theorem wM:type_of% Tryz.zeroValue49:=Tryz.zeroValue49
theorem JM:type_of% Tryz.zeroValue5:=Tryz.zeroValue5
theorem aCB:type_of% Tryz.zeroValue51:=Tryz.zeroValue51
theorem rO:type_of% Tryz.zeroValue9:=Tryz.zeroValue9
theorem aCA:type_of% Tryz.zeroValue96:=Tryz.zeroValue96
end Go.Proofs
namespace Go.Abs
section
section
variable {P:Program} {G0:aE} {N:Nat} {o:Oper} {E:dG} {H H2:aE} {v:AV} {Q:Exit→dG→aE→Prop} {T e t t':TypeId} {x y:Operand} {id g i:Nat} {ob:Ob}
theorem Dd {ops:Array Oper} {K:dG→aE→Prop} {rest:List Oper} {d:Tmp} {op:Op} {ty:TypeId} {pos:String} {af:Array Edge} (h:dQ P N ⟨some d,op,ty,pos,af,none⟩ E H v H2) (hk:AL P G0 N ops K rest ((d,v)::E) H2) (hn:Nat.blt d N=true:=by rfl):AL P G0 N ops K (⟨some d,op,ty,pos,af,none⟩::rest) E H:=TF rfl rfl hn h hk
theorem Uu {ops:Array Oper} {K:dG→aE→Prop} {rest:List Oper} {op:Op} {ty:TypeId} {pos:String} {af:Array Edge} (h:dQ P N ⟨none,op,ty,pos,af,none⟩ E H v H2) (hk:AL P G0 N ops K rest E H2):AL P G0 N ops K (⟨none,op,ty,pos,af,none⟩::rest) E H:=aHv rfl rfl h hk
theorem Sq {x y:Code} (h:iB P G0 N x (zU (iB P G0 N y Q) Q) E H):iB P G0 N (.seq x y) Q E H:=CQ h
theorem Rg {id:Nat} {ops:Array Oper} (h:AL P G0 N ops (fun E H=>Q .normal E H) ops.toList E H):iB P G0 N (.region id ops false) Q E H:=wG h
theorem Zz {ops:Array Oper} {K:dG→aE→Prop} (h:K E H):AL P G0 N ops K [] E H:=TE h
theorem aD (ho:o.op=.move x:=by rfl) (hx:aW E x=some v:=by rfl):dQ P N o E H v H:=BW ho hx
theorem aO (ho:o.op=.assign x:=by rfl) (hx:aW E x=some v:=by rfl):dQ P N o E H v H:=vS ho hx
theorem Sr {id:Nat} {ops:Array Oper} {y:Code} (h:AL P G0 N ops (fun E H=>zU (iB P G0 N y Q) Q .normal E H) ops.toList E H):iB P G0 N (.seq (.region id ops false) y) Q E H:=Sq (Rg h)
theorem Dm {ops:Array Oper} {K:dG→aE→Prop} {rest:List Oper} {d:Tmp} {op:Op} {ty:TypeId} {pos:String} {af:Array Edge} (hk:AL P G0 N ops K rest ((d,v)::E) H) (ho:op=.move x:=by rfl) (hx:aW E x=some v:=by rfl) (hn:Nat.blt d N=true:=by rfl):AL P G0 N ops K (⟨some d,op,ty,pos,af,none⟩::rest) E H:=Dd (BW ho hx) hk hn
theorem Da {ops:Array Oper} {K:dG→aE→Prop} {d:Tmp} {op:Op} {ty:TypeId} {pos:String} {af:Array Edge} (hk:K ((d,v)::E) H) (ho:op=.assign x:=by rfl) (hx:aW E x=some v:=by rfl) (hn:Nat.blt d N=true:=by rfl):AL P G0 N ops K [⟨some d,op,ty,pos,af,none⟩] E H:=Dd (vS ho hx) (Zz hk) hn
theorem Kr {a b:Prop} (h:b) (h1:a:=by kernel_rfl):a∧b:=⟨h1,h⟩
theorem Qq {α β:Type} {a:α} {b:β}:a=a∧b=b:=⟨rfl,rfl⟩
theorem Pu {f:FuncId} {args:List AV} {r0:AV} (h:aH P f args [] (fun r H=>r=r0∧H=[])) (hp:∀ a∈args,Clo [] a:=by simp):aH P f args H (fun r H'=>r=r0∧H'=H):=aH.pure h hp H
theorem eZ {vs:List AV} {n:Nat} (ho:o.op=.extract x n:=by rfl) (hx:aW E x=some (.tup vs):=by rfl) (hv:vs[n]?=some v:=by rfl):dQ P N o E H v H:=PO ho hx hv
theorem bH {S off:TypeId} {k k2 f:Nat} (hF:dM P S f off) (ho:o.op=.fieldAddr S x f:=by rfl) (hx:aW E x=some (.ref id g i k):=by rfl) (hH:H.get id=some ob:=by rfl) (hg:ob.g=g:=by rfl) (hk:k+off=k2:=by rfl):dQ P N o E H (.ref id g i k2) H:=cJ ho hF hx hH hg hk
theorem cA {k:Nat} {r:List AV} (ha:∀ w,(isAgg T).run P w=.ok false w) (ho:o.op=.load T x:=by rfl) (hx:aW E x=some (.ref id g i k):=by rfl) (hH:H.get id=some ob:=by rfl) (hg:ob.g=g:=by rfl) (hi:ob.rows[i]?=some r:=by rfl) (hk:r[k]?=some v:=by rfl):dQ P N o E H v H:=aR ho ha hx hH hg hi hk
theorem qZ {n k:Nat} {r cs:List AV} (ha:∀ w,(isAgg T).run P w=.ok true w) (hs:∀ w,(sizeOf T).run P w=.ok n w) (ho:o.op=.load T x:=by rfl) (hx:aW E x=some (.ref id g i k):=by rfl) (hH:H.get id=some ob:=by rfl) (hg:ob.g=g:=by rfl) (hi:ob.rows[i]?=some r:=by rfl) (hk:(r.drop k).take n=cs:=by rfl) (hl:cs.length=n:=by rfl):dQ P N o E H (.agg cs) H:=aI ho ha hs hx hH hg hi hk hl
theorem fP {cells r:List AV} {n:Nat} (hs:∀ w,(sizeOf T).run P w=.ok n w) (ho:o.op=.store T x y:=by rfl) (hx:aW E x=some (.ref id g 0 0):=by rfl) (hy:aW E y=some v:=by rfl) (hc:N4 v=some cells:=by rfl) (hn:cells.length=n:=by rfl) (hH:H.get id=some ob:=by rfl) (hg:ob.g=g:=by rfl) (hi:ob.rows=[r]:=by rfl) (hk:r.length=n:=by rfl):dQ P N o E H .any ((id,⟨g,ob.sz,ob.ty,[cells]⟩)::H):=cV ho hs hx hy hc hn hH hg hi hk
theorem fK {rows:List (List PV)} (ht:P.underlying T=some (.slice e)) (ho:o.op=.call {callee:=.builtin .len,args:=#[x],argTypes:=#[T]}:=by rfl) (hx:aW E x=some (.pv (.sl rows)):=by rfl):dQ P N o E H (.pv (.int .i64 rows.length)) H:=o8 ho ht hx
theorem e8 {rows:List (List PV)} {r:List PV} {kk:IntKind} {n:Int} {m sz:Nat} (hS:eH P T e sz) (ho:o.op=.indexAddr T x y:=by rfl) (hx:aW E x=some (.pv (.sl rows)):=by rfl) (hy:aW E y=some (.pv (.int kk n)):=by rfl) (h0:0≤n:=by omega) (hm:n.toNat=m:=by exact aJC _) (hi:rows[m]?=some r:=by assumption) (hl:r.length=sz:=by rfl):dQ P N o E H (.pad rows m 0) H:=dU ho hS hx hy h0 hm hi hl
theorem jG {parts:Array (Nat×Operand)} {places:List (Nat×Nat)} {l0 l:List AV} {aps:List (Nat×AV)} (hB:kY P T places l0) (ho:o.op=.build T parts:=by rfl) (hp:mM E parts.toList=some aps:=by rfl) (hf:wJ (fun i=>places[i]?) l0 aps=some l:=by rfl):dQ P N o E H (.agg l) H:=aC2 ho hB hp hf
theorem dD {k:IntKind} {n m:Int} (ho:o.op=.binOp .lss t x y t':=by rfl) (hx:aW E x=some (.pv (.int k n)):=by rfl) (hy:aW E y=some (.pv (.int k m)):=by rfl):dQ P N o E H (.pv (.bool (decide (n < m)))) H:=yO ho hx hy
theorem cI {k:IntKind} {n m:Int} (ho:o.op=.binOp .eql t x y t':=by rfl) (hx:aW E x=some (.pv (.int k n)):=by rfl) (hy:aW E y=some (.pv (.int k m)):=by rfl):dQ P N o E H (.pv (.bool (decide (n=m)))) H:=M8 ho hx hy
theorem Cq {ops rest:List Oper} {K:List Rec→dG→aE→Prop} {dst:Option Tmp} {op:Op} {ty:TypeId} {pos:String} {af:Array Edge} (h:dQ P N ⟨dst,op,ty,pos,af,none⟩ (restr E (jI ops ⟨dst,op,ty,pos,af,none⟩)) H v H) (hk:DC P N ops rest (n5 E dst v) H (fun rs E' H'=>K (⟨v,none,[]⟩::rs) E' H')) (hd:l4 N dst=true:=by rfl):DC P N ops (⟨dst,op,ty,pos,af,none⟩::rest) E H K:=bT (DStep.q rfl h) hd hk
theorem Cp {ops rest:List Oper} {K:List Rec→dG→aE→Prop} {dst:Option Tmp} {op:Op} {ty:TypeId} {pos:String} {af:Array Edge} (R:List Nat) {w:Nat×Ob} (h:∀ H1:aE,(∀ id,wT (some R) id=true→H1.get id=H.get id)→dQ P N ⟨dst,op,ty,pos,af,none⟩ (restr E (jI ops ⟨dst,op,ty,pos,af,none⟩)) H1 v (w::H1)) (hk:DC P N ops rest (n5 E dst v) (w::H) (fun rs E' H'=>K (⟨v,some R,[w]⟩::rs) E' H')) (hd:l4 N dst=true:=by rfl):DC P N ops (⟨dst,op,ty,pos,af,none⟩::rest) E H K:=bT (r:=⟨v,some R,[w]⟩) (DStep.plain rfl h) hd hk
theorem Cr {ops rest:List Oper} {K:List Rec→dG→aE→Prop} {dst:Option Tmp} {op:Op} {ty:TypeId} {pos:String} {af:Array Edge} (R:List Nat) (h:∀ H1:aE,(∀ id,wT (some R) id=true→H1.get id=H.get id)→dQ P N ⟨dst,op,ty,pos,af,none⟩ (restr E (jI ops ⟨dst,op,ty,pos,af,none⟩)) H1 v H1) (hk:DC P N ops rest (n5 E dst v) H (fun rs E' H'=>K (⟨v,some R,[]⟩::rs) E' H')) (hd:l4 N dst=true:=by rfl):DC P N ops (⟨dst,op,ty,pos,af,none⟩::rest) E H K:=bT (r:=⟨v,some R,[]⟩) (DStep.plain rfl h) hd hk
theorem Cs {ops rest:List Oper} {K:List Rec→dG→aE→Prop} {dst:Option Tmp} {op:Op} {ty:TypeId} {pos:String} {af:Array Edge} (h:∀ H1:aE,(∀ id,wT none id=true→H1.get id=H.get id)→dQ P N ⟨dst,op,ty,pos,af,none⟩ (restr E (jI ops ⟨dst,op,ty,pos,af,none⟩)) H1 v H1) (hk:DC P N ops rest (n5 E dst v) H (fun rs E' H'=>K (⟨v,none,[]⟩::rs) E' H')) (hd:l4 N dst=true:=by rfl):DC P N ops (⟨dst,op,ty,pos,af,none⟩::rest) E H K:=bT (r:=⟨v,none,[]⟩) (DStep.plain rfl h) hd hk
theorem Ot {ops rest:List Oper} {K:List Rec→dG→aE→Prop} {dst:Option Tmp} {op:Op} {ty:TypeId} {pos:String} {af:Array Edge} {j:Nat} {t:Tmp} {b:Bool} (hk:DC P N ops rest (n5 E dst (.tup [])) H (fun rs E' H'=>K (⟨.tup [],some [],[]⟩::rs) E' H')) (hj:iU ops j=some t:=by rfl) (hb:E.get t=some (.pv (.bool b)):=by rfl) (hw:b=false:=by first|rfl|assumption) (hd:l4 N dst=true:=by rfl):DC P N ops (⟨dst,op,ty,pos,af,some (j,true)⟩::rest) E H K:=bT (aDB rfl hj hb hw) hd hk
theorem Of {ops rest:List Oper} {K:List Rec→dG→aE→Prop} {dst:Option Tmp} {op:Op} {ty:TypeId} {pos:String} {af:Array Edge} {j:Nat} {t:Tmp} {b:Bool} (hk:DC P N ops rest (n5 E dst (.tup [])) H (fun rs E' H'=>K (⟨.tup [],some [],[]⟩::rs) E' H')) (hj:iU ops j=some t:=by rfl) (hb:E.get t=some (.pv (.bool b)):=by rfl) (hw:b=true:=by first|rfl|assumption) (hd:l4 N dst=true:=by rfl):DC P N ops (⟨dst,op,ty,pos,af,some (j,false)⟩::rest) E H K:=bT (aDC rfl hj hb hw) hd hk
theorem Ou {ops rest:List Oper} {K:List Rec→dG→aE→Prop} {dst:Option Tmp} {op:Op} {ty:TypeId} {pos:String} {af:Array Edge} {j:Nat} {t:Tmp} {w:Bool} (hk:DC P N ops rest (n5 E dst (.tup [])) H (fun rs E' H'=>K (⟨.tup [],some [],[]⟩::rs) E' H')) (hj:iU ops j=some t:=by rfl) (hb:E.get t=some (.tup []):=by rfl) (hd:l4 N dst=true:=by rfl):DC P N ops (⟨dst,op,ty,pos,af,some (j,w)⟩::rest) E H K:=bT (aDA rfl hj hb) hd hk
theorem On {ops:Array Oper} {K:dG→aE→Prop} {rest:List Oper} {d:Tmp} {op:Op} {ty:TypeId} {pos:String} {af:Array Edge} {j:Nat} {want b:Bool} {t:Tmp} (h:dQ P N ⟨some d,op,ty,pos,af,some (j,want)⟩ E H v H2) (hk:AL P G0 N ops K rest ((d,v)::E) H2) (hj:iU ops.toList j=some t:=by rfl) (hb:E.get t=some (.pv (.bool b)):=by rfl) (hw:b=want:=by rfl) (hn:Nat.blt d N=true:=by rfl):AL P G0 N ops K (⟨some d,op,ty,pos,af,some (j,want)⟩::rest) E H:=aBw rfl hj hb hw rfl hn h hk
theorem Fo {ops:Array Oper} {K:dG→aE→Prop} {rest:List Oper} {dst:Option Tmp} {op:Op} {ty:TypeId} {pos:String} {af:Array Edge} {j:Nat} {want b:Bool} {t:Tmp} (hk:AL P G0 N ops K rest (n5 E dst (.tup [])) H) (hj:iU ops.toList j=some t:=by rfl) (hb:E.get t=some (.pv (.bool b)):=by rfl) (hw:b=!want:=by rfl) (hd:l4 N dst=true:=by rfl):AL P G0 N ops K (⟨dst,op,ty,pos,af,some (j,want)⟩::rest) E H:=aBx rfl hj hb hw hd hk
theorem Oa {ops:Array Oper} {K:dG→aE→Prop} {rest:List Oper} {d:Tmp} {op:Op} {ty:TypeId} {pos:String} {af:Array Edge} {j:Nat} {want b:Bool} {t:Tmp} (h:dQ P N ⟨some d,op,ty,pos,af,some (j,want)⟩ E H v H2) (hk:AL P G0 N ops K rest ((d,v)::E) H2) (hj:iU ops.toList j=some t:=by rfl) (hb:E.get t=some (.pv (.bool b)):=by rfl) (hw:b=want:=by assumption) (hn:Nat.blt d N=true:=by rfl):AL P G0 N ops K (⟨some d,op,ty,pos,af,some (j,want)⟩::rest) E H:=aBw rfl hj hb hw rfl hn h hk
theorem Fa {ops:Array Oper} {K:dG→aE→Prop} {rest:List Oper} {dst:Option Tmp} {op:Op} {ty:TypeId} {pos:String} {af:Array Edge} {j:Nat} {want b:Bool} {t:Tmp} (hk:AL P G0 N ops K rest (n5 E dst (.tup [])) H) (hj:iU ops.toList j=some t:=by rfl) (hb:E.get t=some (.pv (.bool b)):=by rfl) (hw:b=!want:=by assumption) (hd:l4 N dst=true:=by rfl):AL P G0 N ops K (⟨dst,op,ty,pos,af,some (j,want)⟩::rest) E H:=aBx rfl hj hb hw hd hk
section
variable {R:Option (List Nat)} {H1:aE}
theorem fh {S off:TypeId} {k k2 f:Nat} (hF:dM P S f off) (h:∀ id,wT R id=true→H1.get id=H.get id) (ho:o.op=.fieldAddr S x f:=by rfl) (hx:aW E x=some (.ref id g i k):=by rfl) (hm:wT R id=true:=by rfl) (hH:H.get id=some ob:=by rfl) (hg:ob.g=g:=by rfl) (hk:k+off=k2:=by rfl):dQ P N o E H1 (.ref id g i k2) H1:=cJ ho hF hx ((h _ hm).trans hH) hg hk
theorem lh {k:Nat} {r:List AV} (ha:∀ w,(isAgg T).run P w=.ok false w) (h:∀ id,wT R id=true→H1.get id=H.get id) (ho:o.op=.load T x:=by rfl) (hx:aW E x=some (.ref id g i k):=by rfl) (hm:wT R id=true:=by rfl) (hH:H.get id=some ob:=by rfl) (hg:ob.g=g:=by rfl) (hi:ob.rows[i]?=some r:=by rfl) (hk:r[k]?=some v:=by rfl):dQ P N o E H1 v H1:=aR ho ha hx ((h _ hm).trans hH) hg hi hk
end
section
variable {k:IntKind} {n m:Int} {s u:ByteArray} {b:Bool} {rows:List (List PV)} {r:List PV} {i j q f F:Nat}
theorem jU (ho:o.op=.unOp .not t x:=by rfl) (hx:aW E x=some (.pv (.bool b)):=by rfl):dQ P N o E H (.pv (.bool (!b))) H:=aDK ho hx
theorem tU (ho:o.op=.binOp .neq t x y t':=by rfl) (hx:aW E x=some (.pv (.int k n)):=by rfl) (hy:aW E y=some (.pv (.int k m)):=by rfl):dQ P N o E H (.pv (.bool (!decide (n=m)))) H:=UG ho hx hy
theorem kC (ho:o.op=.binOp .gtr t x y t':=by rfl) (hx:aW E x=some (.pv (.int k n)):=by rfl) (hy:aW E y=some (.pv (.int k m)):=by rfl):dQ P N o E H (.pv (.bool (decide (m < n)))) H:=F2 ho hx hy
theorem JK (ho:o.op=.binOp .leq t x y t':=by rfl) (hx:aW E x=some (.pv (.int k n)):=by rfl) (hy:aW E y=some (.pv (.int k m)):=by rfl):dQ P N o E H (.pv (.bool (decide (n≤m)))) H:=F1 ho hx hy
theorem wP (ho:o.op=.binOp .geq t x y t':=by rfl) (hx:aW E x=some (.pv (.int k n)):=by rfl) (hy:aW E y=some (.pv (.int k m)):=by rfl):dQ P N o E H (.pv (.bool (decide (m≤n)))) H:=yP ho hx hy
theorem sQ (ho:o.op=.binOp .eql t x y t':=by rfl) (hx:aW E x=some (.pv (.str s)):=by rfl) (hy:aW E y=some (.pv (.str u)):=by rfl):dQ P N o E H (.pv (.bool (decide (s=u)))) H:=HJ ho hx hy
theorem JQ (ho:o.op=.binOp .neq t x y t':=by rfl) (hx:aW E x=some (.pv (.str s)):=by rfl) (hy:aW E y=some (.pv (.str u)):=by rfl):dQ P N o E H (.pv (.bool (!decide (s=u)))) H:=aAW ho hx hy
theorem eL (ho:o.op=.binOp .add t x y t':=by rfl) (hx:aW E x=some (.pv (.int .i64 n)):=by rfl) (hy:aW E y=some (.pv (.int .i64 m)):=by rfl) {r:Int} (hr:IntKind.i64.wrap (n+m)=r:=by exact OL (by omega) (by omega)):dQ P N o E H (.pv (.int .i64 r)) H:=iM ho hx hy hr
theorem wB {S off:TypeId} {q2:Nat} (hF:dM P S f off) (ho:o.op=.fieldAddr S x f:=by rfl) (hx:aW E x=some (.pad rows i q):=by rfl) (hk:q+off=q2:=by rfl):dQ P N o E H (.pad rows i q2) H:=JX ho hF hx hk
theorem fM {p:PV} (ha:∀ w,(isAgg T).run P w=.ok false w) (ho:o.op=.load T x:=by rfl) (hx:aW E x=some (.pad rows i q):=by rfl) (hi:rows[i]?=some r:=by first|assumption|omega) (hk:r[q]?=some p:=by rfl):dQ P N o E H (.pv p) H:=mQ ho ha hx hi hk
theorem xI {c:Operand} (ho:o.op=.pick c x y:=by rfl) (hc:aW E c=some (.pv (.bool b)):=by rfl) (hb:b=true:=by assumption) (hv:aW E x=some v:=by rfl):dQ P N o E H v H:=WO ho hc hb hv
theorem rJ {c:Operand} (ho:o.op=.pick c x y:=by rfl) (hc:aW E c=some (.pv (.bool b)):=by rfl) (hb:b=false:=by assumption) (hv:aW E y=some v:=by rfl):dQ P N o E H v H:=WP ho hc hb hv
theorem dI {c:Operand} (ho:o.op=.pick c x y:=by rfl) (hc:aW E c=some (.pv (.bool b)):=by rfl) (hv:aW E (if b then x else y)=some v:=by rfl):dQ P N o E H v H:=xK ho hc hv
theorem jJ (ht:P.underlying T=some .string) (ho:o.op=.call {callee:=.builtin .len,args:=#[x],argTypes:=#[T]}:=by rfl) (hx:aW E x=some (.pv (.str s)):=by rfl):dQ P N o E H (.pv (.int .i64 s.size)) H:=ER ho ht hx
theorem pY {q:Nat} (ho:o.op=.nilCheck x:=by rfl) (hx:aW E x=some (.ref id g i q):=by rfl) (hH:H.get id=some ob:=by rfl) (hg:ob.g=g:=by rfl):dQ P N o E H (.ref id g i q) H:=dS ho hx hH hg
end
section
variable {G0:aE} {fn:Func} {Q:AV→aE→Prop} {q:Exit} {r r1 r2:AV} {t1 t2:Tmp}
theorem Rt (hq:Q r []) (hf:fn.results=#[.tmp t1]:=by rfl) (ht:E.get t1=some r:=by rfl) (hc:Clo [] r:=by simp):N8 P fn [] Q .ret E H:=cZ (.inr rfl) hf (aN ht) (Fin.wk hc trivial trivial) hq
theorem Ru (hq:Q (.tup [r1,r2]) []) (hf:fn.results=#[.tmp t1,.tmp t2]:=by rfl) (ht:E.get t1=some r1:=by rfl) (hu:E.get t2=some r2:=by rfl) (hc:Clo [] (.tup [r1,r2]):=by simp):N8 P fn [] Q .ret E H:=iD (.inr rfl) hf (aN ht) (aN hu) (Fin.wk hc trivial trivial) hq
theorem nZ {T:TypeId} {n i k:Nat} {cells cs:List AV} (ha:∀ w,(isAgg T).run P w=.ok true w) (hs:∀ w,(sizeOf T).run P w=.ok n w) (hx:E.get t1=some (.ref id g i k):=by rfl) (hH:H.get id=some ob:=by rfl) (hg:ob.g=g:=by rfl) (hi:ob.rows[i]?=some cells:=by rfl) (hk:(cells.drop k).take n=cs:=by rfl) (hl:cs.length=n:=by rfl):KC P E H (.cell t1 T) (.agg cs):=k8 hx ha hs hH hg hi hk hl
theorem Bd {f:FuncId} {c:Code} {args:List AV} (hf:P.funcs[f]?=some fn) (hb:fn.body=some c) (hN:fn.ntmps=N) (h:iB P H N c (N8 P fn H Q) (xZ args) H) (hlen:args.length≤N:=by exact aJE rfl):aH P f args H Q:=aH.body hf hb hN hlen h
end
section
variable {Q:Exit→dG→aE→Prop} {b:Bool} {E':dG} {H':aE}
theorem Cn {c:Operand} {x y:Code} (h1:b=true→iB P G0 N x Q E H) (h2:b=false→iB P G0 N y Q E H) (hc:aW E c=some (.pv (.bool b)):=by rfl):iB P G0 N (.cond c x y) Q E H:=aBq hc h1 h2
theorem Sp (t:Tmp) {ops:Array Oper} {l:List Oper} {K:dG→aE→Prop} (h1:b=true→AL P G0 N ops K l ((t,.pv (.bool true))::E) H) (h2:b=false→AL P G0 N ops K l ((t,.pv (.bool false))::E) H) (hb:E.get t=some (.pv (.bool b)):=by rfl):AL P G0 N ops K l E H:=aBv hb h1 h2
theorem Wk (hE:YM E H' E':=by repeat' first|exact trivial|refine⟨⟨_,rfl,rfl⟩,?_,?_⟩|(simp;done)|(simp;rfl)) (hH:OG H H' H':=by repeat' first|exact trivial|refine⟨⟨_,rfl,rfl⟩,?_,?_⟩|(simp;done)|(simp;rfl)) (hk:YO H' H G0:=by repeat' first|exact trivial|refine⟨rfl,?_⟩):cY G0 E H E' H':=cY.wk hE hH hk
theorem E0 (h:aCJ E E':=by repeat' first|exact trivial|refine⟨⟨_,rfl,rfl⟩,?_⟩):cY G0 E H E' H:=cY.e0 h
theorem Fu {ops:Array Oper} {K:dG→aE→Prop} {rest:List Oper} {dst:Option Tmp} {op:Op} {ty:TypeId} {pos:String} {af:Array Edge} {j:Nat} {want:Bool} {t:Tmp} (hk:AL P G0 N ops K rest (n5 E dst (.tup [])) H) (hj:iU ops.toList j=some t:=by rfl) (hb:E.get t=some (.tup []):=by rfl) (hd:l4 N dst=true:=by rfl):AL P G0 N ops K (⟨dst,op,ty,pos,af,some (j,want)⟩::rest) E H:=CT rfl hj hb hd hk
end
section
variable {ops rest:List Oper} {K:List Rec→dG→aE→Prop} {dst:Option Tmp} {op:Op} {ty:TypeId} {pos:String} {af:Array Edge} {j:Nat} {t:Tmp} {b:Bool}
theorem Nt (h:dQ P N ⟨dst,op,ty,pos,af,some (j,true)⟩ (restr E (jI ops ⟨dst,op,ty,pos,af,some (j,true)⟩)) H v H) (hk:DC P N ops rest (n5 E dst v) H (fun rs E' H'=>K (⟨v,none,[]⟩::rs) E' H')) (hj:iU ops j=some t:=by rfl) (hb:E.get t=some (.pv (.bool b)):=by rfl) (hw:b=true:=by first|rfl|assumption) (hd:l4 N dst=true:=by rfl):DC P N ops (⟨dst,op,ty,pos,af,some (j,true)⟩::rest) E H K:=bT (aFP rfl hj hb hw h) hd hk
theorem Nf (h:dQ P N ⟨dst,op,ty,pos,af,some (j,false)⟩ (restr E (jI ops ⟨dst,op,ty,pos,af,some (j,false)⟩)) H v H) (hk:DC P N ops rest (n5 E dst v) H (fun rs E' H'=>K (⟨v,none,[]⟩::rs) E' H')) (hj:iU ops j=some t:=by rfl) (hb:E.get t=some (.pv (.bool b)):=by rfl) (hw:b=false:=by first|rfl|assumption) (hd:l4 N dst=true:=by rfl):DC P N ops (⟨dst,op,ty,pos,af,some (j,false)⟩::rest) E H K:=bT (aFQ rfl hj hb hw h) hd hk
end
theorem Zl:(∀ {α:Type} (a:α) (l:List α) (i:Nat),(a::l).drop (i+1)=l.drop i)∧(∀ {α:Type} (l:List α),l.drop 0=l)∧(∀ {α:Type} (a:α) (l:List α) (i:Nat),(a::l).take (i+1)=a::l.take i)∧(∀ {α:Type} (l:List α),l.take 0=[])∧(∀ {α:Type} (i:Nat),([]:List α).take i=[]) ∧
  (∀ {α β:Type} (f:α→β) (a:α) (l:List α),(a::l).map f=f a::l.map f)∧(∀ {α β:Type} (f:α→β),[].map f=[])∧(∀ {α:Type} (a b:α) (l:List α),(a::l).set 0 b=b::l)∧(∀ {α:Type} (a b:α) (l:List α) (i:Nat),(a::l).set (i+1) b=a::l.set i b) ∧
  (∀ {α:Type} (a:α) (l l2:List α),(a::l)++l2=a::(l++l2))∧(∀ {α:Type} (l:List α),[]++l=l) :=
 ⟨fun _ _ _=>rfl,fun _=>rfl,fun _ _ _=>rfl,fun l=>by simp,fun _=>by simp,fun _ _ _=>rfl,fun _=>rfl,fun _ _ _=>rfl,fun _ _ _ _=>rfl,fun _ _ _=>rfl,fun _=>rfl⟩
theorem Zo:(∀ b:Bool,(false&&b)=false)∧(∀ b:Bool,(true&&b)=b)∧(∀ b:Bool,(b&&false)=false)∧(∀ b:Bool,(b&&true)=b)∧(∀ b:Bool,(true||b)=true)∧(∀ b:Bool,(false||b)=b)∧(∀ b:Bool,(b||true)=true)∧(∀ b:Bool,(b||false)=b)∧(!true)=false∧(!false)=true:=by simp
end
theorem Ea {E:dG} {H':aE} {t:Nat} {v:AV} {L:dG} (r:YM E H' L) (h1:∃ v0,E.get t=some v0∧v0=v:=by exact⟨_,rfl,rfl⟩) (h2:Clo H' v:=by simp;rfl):YM E H' ((t,v)::L):=⟨h1,h2,r⟩
theorem Eb {E:dG} {H':aE} {t:Nat} {v:AV} {L:dG} (r:YM E H' L) (h1:∃ v0,E.get t=some v0∧v0=v:=by exact⟨_,rfl,rfl⟩) (h2:Clo H' v:=by simp):YM E H' ((t,v)::L):=⟨h1,h2,r⟩
theorem Ec {E:dG} {H':aE} {t:Nat} {v:AV} {L:dG} (h2:Clo H' v) (r:YM E H' L) (h1:∃ v0,E.get t=some v0∧v0=v:=by exact⟨_,rfl,rfl⟩):YM E H' ((t,v)::L):=⟨h1,h2,r⟩
theorem Ha {H H':aE} {t:Nat} {o:Ob} {L:aE} (r:OG H H' L) (h1:∃ v0,H.get t=some v0∧v0=o:=by exact⟨_,rfl,rfl⟩) (h2:∀ r∈o.rows,∀ a∈r,Clo H' a:=by simp;rfl):OG H H' ((t,o)::L):=⟨h1,h2,r⟩
theorem Hb {H H':aE} {t:Nat} {o:Ob} {L:aE} (r:OG H H' L) (h1:∃ v0,H.get t=some v0∧v0=o:=by exact⟨_,rfl,rfl⟩) (h2:∀ r∈o.rows,∀ a∈r,Clo H' a:=by simp):OG H H' ((t,o)::L):=⟨h1,h2,r⟩
theorem Hc {H H':aE} {t:Nat} {o:Ob} {L:aE} (h2:∀ r∈o.rows,∀ a∈r,Clo H' a) (r:OG H H' L) (h1:∃ v0,H.get t=some v0∧v0=o:=by exact⟨_,rfl,rfl⟩):OG H H' ((t,o)::L):=⟨h1,h2,r⟩
end
end Go.Abs
namespace Go.Proofs.YtlnfjkdacimblaaGreatDoor
open Go.Proofs.Tryz
open Go.Abs
theorem zo3:gN Tryz.prog 3 [.pv (.int .i64 0)]:=⟨_,_,eC,.inl rfl,rfl⟩
theorem zo9:gN Tryz.prog 9 [.pv (.str ⟨#[]⟩)]:=⟨_,_,rO,.inl rfl,rfl⟩
theorem TN:gN Tryz.prog 22 [.pv .nils]:=⟨_,_,zeroValue22,.inr rfl,rfl⟩
theorem lK:eH Tryz.prog 22 51 15:=⟨cB,aL,by decide,_,aCB⟩
theorem J6:EI Tryz.prog 51 15 216:=EI.mk (z:=(Value.agg #[(Value.int IntKind.i64 (0)),(Value.string ⟨#[]⟩),(Value.string ⟨#[]⟩),(Value.string ⟨#[]⟩),(Value.int IntKind.i64 (0)),(Value.int IntKind.i64 (0)),(Value.string ⟨#[]⟩),(Value.string ⟨#[]⟩),(Value.slice none (0) (0)),(Value.string ⟨#[]⟩),(Value.int IntKind.i64 (0)),(Value.int IntKind.i64 (0)),(Value.int IntKind.i64 (0)),(Value.slice none (0) (0)),(Value.slice none (0) (0))])) (by kernel_rfl) rfl (by decide) (by decide)
theorem aGT:gN Tryz.prog 25 [.pv (.int .i64 0)]:=⟨_,_,zeroValue25,.inl rfl,rfl⟩
theorem DD:eH Tryz.prog 33 42 1:=⟨lL,sizeOf42,by decide,_,aCC⟩
theorem aGp:EI Tryz.prog 42 1 24:=EI.mk (z:=(Value.slice none (0) (0))) (by kernel_rfl) rfl (by decide) (by decide)
theorem iK:eH Tryz.prog 36 49 6:=⟨cQ,sizeOf49,by decide,_,wM⟩
theorem aDw:EI Tryz.prog 49 6 88:=EI.mk (z:=(Value.agg #[(Value.string ⟨#[]⟩),(Value.int IntKind.i64 (0)),(Value.int IntKind.i64 (0)),(Value.int IntKind.i64 (0)),(Value.slice none (0) (0)),(Value.slice none (0) (0))])) (by kernel_rfl) rfl (by decide) (by decide)
theorem GI:gN Tryz.prog 38 [.pv (.sl [])]:=⟨_,_,FN,.inl rfl,rfl⟩
theorem YP:gN Tryz.prog 38 [.pv .nils]:=⟨_,_,FN,.inr rfl,rfl⟩
theorem gZ:dM Tryz.prog 38 0 0:=by refine⟨_,_,0,underlying38,rfl,rfl,?_⟩;exact sizeOf36
theorem FL:kY Tryz.prog 38 [(0,1)] [.pv (.sl [])]:=⟨_,#[(0,1)],_,_,underlying38,FN,.inl rfl,rfl,fun w=>by simp [sizeOf36],rfl⟩
theorem lP:eH Tryz.prog 42 3 1:=⟨oP,sizeOf3,by decide,_,eC⟩
theorem ei3:EI Tryz.prog 3 1 8:=EI.mk (z:=(Value.int IntKind.i64 (0))) (by kernel_rfl) rfl (by decide) (by decide)
theorem qL:dM Tryz.prog 45 0 0:=by refine⟨_,_,0,underlying45,rfl,rfl,?_⟩;exact sizeOf3
theorem qK:dM Tryz.prog 45 1 1:=by refine⟨_,_,0,underlying45,rfl,rfl,?_⟩;exact sizeOf3
theorem J9:kY Tryz.prog 45 [(0,1),(1,1)] [.pv (.int .i64 0),.pv (.int .i64 0)]:=⟨_,#[(0,1),(1,1)],_,_,underlying45,zeroValue45,.inl rfl,rfl,fun w=>by simp [sizeOf3],rfl⟩
theorem MO (a0 b0:Int) (a1 b1:Int) (w:World):(Op.equalIn 10000 45 (.agg [.int .i64 a0,.int .i64 a1].toArray) (.agg [.int .i64 b0,.int .i64 b1].toArray)).run Tryz.prog w=.ok (decide (a0=b0)&&decide (a1=b1)) w:=by
 refine(run_equalIn_struct (P:=Tryz.prog) w 9999 45 _ _ (by simp [Program.fieldsOf,underlying45]) stoodInHeld45).trans ?_;have h3:∀ (d:Nat) (a b:Int) (w:World),(Op.equalIn (d+1) 3 (.int .i64 a) (.int .i64 b)).run Tryz.prog w=.ok (decide (a=b)) w:=fun d a b w=>by rw [run_equalIn_int w d 3 _ _ a b underlying3];by_cases h:a=b<;>simp [h]
 by_cases e0:a0=b0<;>by_cases e1:a1=b1<;>simp [Program.fieldsOf,underlying45,Op.eqFields,part,h3,isAgg3,e0,e1]
theorem aGR:gN Tryz.prog 46 [.pv .nils]:=⟨_,_,FM,.inr rfl,rfl⟩
theorem cC:eH Tryz.prog 46 9 1:=⟨aK,sizeOf9,by decide,_,rO⟩
theorem E4:EI Tryz.prog 9 1 16:=EI.mk (z:=(Value.string ⟨#[]⟩)) (by kernel_rfl) rfl (by decide) (by decide)
theorem lJ:eH Tryz.prog 47 117 2:=⟨cK,dR,by decide,_,YC⟩
theorem aB2:EI Tryz.prog 117 2 32:=EI.mk (z:=(Value.agg #[(Value.string ⟨#[]⟩),(Value.string ⟨#[]⟩)])) (by kernel_rfl) rfl (by decide) (by decide)
theorem qU:gN Tryz.prog 49 [.pv (.str ⟨#[]⟩),.pv (.int .i64 0),.pv (.int .i64 0),.pv (.int .i64 0),.pv (.sl []),.pv (.sl [])]:=⟨_,_,wM,.inl rfl,rfl⟩
theorem aEQ:gN Tryz.prog 49 [.pv (.str ⟨#[]⟩),.pv (.int .i64 0),.pv (.int .i64 0),.pv (.int .i64 0),.pv .nils,.pv .nils]:=⟨_,_,wM,.inr rfl,rfl⟩
theorem eK:dM Tryz.prog 49 0 0:=by refine⟨_,_,0,jS,rfl,rfl,?_⟩;exact sizeOf9
theorem dT:dM Tryz.prog 49 1 1:=by refine⟨_,_,0,jS,rfl,rfl,?_⟩;exact sizeOf3
theorem kE:dM Tryz.prog 49 2 2:=by refine⟨_,_,1,jS,rfl,rfl,?_⟩;exact sizeOf45
theorem dP:dM Tryz.prog 49 3 4:=by refine⟨_,_,0,jS,rfl,rfl,?_⟩;exact sizeOf46
theorem e9:dM Tryz.prog 49 4 5:=by refine⟨_,_,0,jS,rfl,rfl,?_⟩;exact sizeOf47
theorem CO:kY Tryz.prog 49 [(0,1),(1,1),(2,2),(4,1),(5,1)] [.pv (.str ⟨#[]⟩),.pv (.int .i64 0),.pv (.int .i64 0),.pv (.int .i64 0),.pv (.sl []),.pv (.sl [])]:=⟨_,#[(0,1),(1,1),(2,2),(4,1),(5,1)],_,_,jS,wM,.inl rfl,rfl,fun w=>by simp [sizeOf3,sizeOf9,sizeOf45,sizeOf46,sizeOf47],rfl⟩
theorem aEd:kY Tryz.prog 49 [(0,1),(1,1),(2,2),(4,1),(5,1)] [.pv (.str ⟨#[]⟩),.pv (.int .i64 0),.pv (.int .i64 0),.pv (.int .i64 0),.pv .nils,.pv .nils]:=⟨_,#[(0,1),(1,1),(2,2),(4,1),(5,1)],_,_,jS,wM,.inr rfl,rfl,fun w=>by simp [sizeOf3,sizeOf9,sizeOf45,sizeOf46,sizeOf47],rfl⟩
theorem BA:gN Tryz.prog 51 [.pv (.int .i64 0),.pv (.str ⟨#[]⟩),.pv (.str ⟨#[]⟩),.pv (.str ⟨#[]⟩),.pv (.int .i64 0),.pv (.int .i64 0),.pv (.str ⟨#[]⟩),.pv (.str ⟨#[]⟩),.pv (.sl []),.pv (.str ⟨#[]⟩),.pv (.int .i64 0),.pv (.int .i64 0),.pv (.int .i64 0),.pv (.sl []),.pv (.sl [])]:=⟨_,_,aCB,.inl rfl,rfl⟩
theorem fG:dM Tryz.prog 51 0 0:=by refine⟨_,_,0,fN,rfl,rfl,?_⟩;exact sizeOf3
theorem eX:dM Tryz.prog 51 1 1:=by refine⟨_,_,0,fN,rfl,rfl,?_⟩;exact sizeOf9
theorem fR:dM Tryz.prog 51 2 2:=by refine⟨_,_,0,fN,rfl,rfl,?_⟩;exact sizeOf9
theorem lY:dM Tryz.prog 51 3 3:=by refine⟨_,_,0,fN,rfl,rfl,?_⟩;exact sizeOf9
theorem iS:dM Tryz.prog 51 4 4:=by refine⟨_,_,1,fN,rfl,rfl,?_⟩;exact sizeOf45
theorem lA:dM Tryz.prog 51 5 6:=by refine⟨_,_,0,fN,rfl,rfl,?_⟩;exact sizeOf9
theorem lX:dM Tryz.prog 51 6 7:=by refine⟨_,_,0,fN,rfl,rfl,?_⟩;exact sizeOf9
theorem gA:dM Tryz.prog 51 7 8:=by refine⟨_,_,0,fN,rfl,rfl,?_⟩;exact sizeOf46
theorem iR:dM Tryz.prog 51 8 9:=by refine⟨_,_,5,fN,rfl,rfl,?_⟩;exact sizeOf49
theorem pI:kY Tryz.prog 51 [(0,1),(1,1),(2,1),(3,1),(4,2),(6,1),(7,1),(8,1),(9,6)] [.pv (.int .i64 0),.pv (.str ⟨#[]⟩),.pv (.str ⟨#[]⟩),.pv (.str ⟨#[]⟩),.pv (.int .i64 0),.pv (.int .i64 0),.pv (.str ⟨#[]⟩),.pv (.str ⟨#[]⟩),.pv (.sl []),.pv (.str ⟨#[]⟩),.pv (.int .i64 0),.pv (.int .i64 0),.pv (.int .i64 0),.pv (.sl []),.pv (.sl [])]:=⟨_,#[(0,1),(1,1),(2,1),(3,1),(4,2),(6,1),(7,1),(8,1),(9,6)],_,_,fN,aCB,.inl rfl,rfl,fun w=>by simp [sizeOf3,sizeOf9,sizeOf45,sizeOf46,sizeOf49],rfl⟩
theorem OZ:eH Tryz.prog 52 5 1:=⟨eE,dY,by decide,_,JM⟩
theorem ei5:EI Tryz.prog 5 1 1:=EI.mk (z:=(Value.int IntKind.u8 (0))) (by kernel_rfl) rfl (by decide) (by decide)
theorem TM:gN Tryz.prog 62 [.pv .nilp,.pv .nils]:=⟨_,_,zeroValue62,.inr rfl,rfl⟩
theorem xW:dM Tryz.prog 62 0 0:=by refine⟨_,_,0,underlying62,rfl,rfl,?_⟩;exact aHK
theorem iQ:dM Tryz.prog 62 1 1:=by refine⟨_,_,0,underlying62,rfl,rfl,?_⟩;exact nP
theorem IK:dM Tryz.prog 82 0 0:=by refine⟨_,_,0,YE,rfl,rfl,?_⟩;exact sizeOf42
theorem IJ:dM Tryz.prog 82 1 1:=by refine⟨_,_,0,YE,rfl,rfl,?_⟩;exact sizeOf80
theorem aHB:kY Tryz.prog 82 [(0,1),(1,1)] [.pv .nils,.pv .nilm]:=⟨_,#[(0,1),(1,1)],_,_,YE,zeroValue82,.inr rfl,rfl,fun w=>by simp [sizeOf42,sizeOf80],rfl⟩
theorem aC1:gN Tryz.prog 89 [.pv .nilm]:=⟨_,_,zeroValue89,.inl rfl,rfl⟩
theorem aFF:eH Tryz.prog 94 96 12:=⟨underlying94,RH,by decide,_,aCA⟩
theorem aHo:EI Tryz.prog 96 12 176:=EI.mk (z:=(Value.agg #[(Value.string ⟨#[]⟩),(Value.int IntKind.i64 (0)),(Value.int IntKind.i64 (0)),(Value.int IntKind.i64 (0)),(Value.slice none (0) (0)),(Value.slice none (0) (0)),(Value.string ⟨#[]⟩),(Value.int IntKind.i64 (0)),(Value.int IntKind.i64 (0)),(Value.int IntKind.i64 (0)),(Value.slice none (0) (0)),(Value.slice none (0) (0))])) (by kernel_rfl) rfl (by decide) (by decide)
theorem aH5:gN Tryz.prog 96 [.pv (.str ⟨#[]⟩),.pv (.int .i64 0),.pv (.int .i64 0),.pv (.int .i64 0),.pv (.sl []),.pv (.sl []),.pv (.str ⟨#[]⟩),.pv (.int .i64 0),.pv (.int .i64 0),.pv (.int .i64 0),.pv (.sl []),.pv (.sl [])]:=⟨_,_,aCA,.inl rfl,rfl⟩
theorem xV:dM Tryz.prog 96 0 0:=by refine⟨_,_,5,YD,rfl,rfl,?_⟩;exact sizeOf49
theorem D6:dM Tryz.prog 96 1 6:=by refine⟨_,_,5,YD,rfl,rfl,?_⟩;exact sizeOf49
theorem aHt:kY Tryz.prog 96 [(0,6),(6,6)] [.pv (.str ⟨#[]⟩),.pv (.int .i64 0),.pv (.int .i64 0),.pv (.int .i64 0),.pv (.sl []),.pv (.sl []),.pv (.str ⟨#[]⟩),.pv (.int .i64 0),.pv (.int .i64 0),.pv (.int .i64 0),.pv (.sl []),.pv (.sl [])]:=⟨_,#[(0,6),(6,6)],_,_,YD,aCA,.inl rfl,rfl,fun w=>by simp [sizeOf49],rfl⟩
theorem aGS:gN Tryz.prog 99 [.pv .nilfn,.pv .nilfn,.pv .nilfn]:=⟨_,_,zeroValue99,.inl rfl,rfl⟩
theorem aFr:dM Tryz.prog 99 0 0:=by refine⟨_,_,0,CX,rfl,rfl,?_⟩;exact sizeOf97
theorem aFq:dM Tryz.prog 99 1 1:=by refine⟨_,_,0,CX,rfl,rfl,?_⟩;exact sizeOf97
theorem aFp:dM Tryz.prog 99 2 2:=by refine⟨_,_,0,CX,rfl,rfl,?_⟩;exact sizeOf97
theorem aHs:kY Tryz.prog 99 [(0,1),(1,1),(2,1)] [.pv .nilfn,.pv .nilfn,.pv .nilfn]:=⟨_,#[(0,1),(1,1),(2,1)],_,_,CX,zeroValue99,.inl rfl,rfl,fun w=>by simp [sizeOf97],rfl⟩
theorem aEW:eH Tryz.prog 101 97 1:=⟨underlying101,sizeOf97,by decide,_,zeroValue97⟩
theorem y0:dM Tryz.prog 114 0 0:=by refine⟨_,_,0,TK,rfl,rfl,?_⟩;exact sizeOf38
theorem mD:dM Tryz.prog 114 1 1:=by refine⟨_,_,0,TK,rfl,rfl,?_⟩;exact sizeOf80
theorem aEe:kY Tryz.prog 114 [(0,1),(1,1)] [.pv (.sl []),.pv .nilm]:=⟨_,#[(0,1),(1,1)],_,_,TK,zeroValue114,.inl rfl,rfl,fun w=>by simp [sizeOf38,sizeOf80],rfl⟩
theorem OH:gN Tryz.prog 117 [.pv (.str ⟨#[]⟩),.pv (.str ⟨#[]⟩)]:=⟨_,_,YC,.inl rfl,rfl⟩
theorem jD:dM Tryz.prog 117 0 0:=by refine⟨_,_,0,underlying117,rfl,rfl,?_⟩;exact sizeOf9
theorem kU:dM Tryz.prog 117 1 1:=by refine⟨_,_,0,underlying117,rfl,rfl,?_⟩;exact sizeOf9
theorem aBe:kY Tryz.prog 117 [(0,1),(1,1)] [.pv (.str ⟨#[]⟩),.pv (.str ⟨#[]⟩)]:=⟨_,#[(0,1),(1,1)],_,_,underlying117,YC,.inl rfl,rfl,fun w=>by simp [sizeOf9],rfl⟩
theorem Z4 (a0 b0:ByteArray) (a1 b1:ByteArray) (w:World):(Op.equalIn 10000 117 (.agg [.string a0,.string a1].toArray) (.agg [.string b0,.string b1].toArray)).run Tryz.prog w=.ok (decide (a0=b0)&&decide (a1=b1)) w:=by
 refine(run_equalIn_struct (P:=Tryz.prog) w 9999 117 _ _ (by simp [Program.fieldsOf,underlying117]) stoodInHeld117).trans ?_;have h9:∀ (d:Nat) (a b:ByteArray) (w:World),(Op.equalIn (d+1) 9 (.string a) (.string b)).run Tryz.prog w=.ok (decide (a=b)) w:=fun d a b w=>by rw [run_equalIn_string w d 9 a b underlying9,r5]
 by_cases e0:a0=b0<;>by_cases e1:a1=b1<;>simp [Program.fieldsOf,underlying117,Op.eqFields,part,h9,isAgg9,e0,e1]
theorem aER:gN Tryz.prog 133 [.pv (.sl [])]:=⟨_,_,zeroValue133,.inl rfl,rfl⟩
theorem YQ:gN Tryz.prog 133 [.pv .nils]:=⟨_,_,zeroValue133,.inr rfl,rfl⟩
theorem fZ:eH Tryz.prog 133 137 3:=⟨cT,sizeOf137,by decide,_,YB⟩
theorem U6:EI Tryz.prog 137 3 32:=EI.mk (z:=(Value.agg #[(Value.int IntKind.i64 (0)),(Value.string ⟨#[]⟩),(Value.int IntKind.i64 (0))])) (by kernel_rfl) rfl (by decide) (by decide)
theorem TQ:gN Tryz.prog 137 [.pv (.int .i64 0),.pv (.str ⟨#[]⟩),.pv (.int .i64 0)]:=⟨_,_,YB,.inl rfl,rfl⟩
theorem pR:dM Tryz.prog 137 0 0:=by refine⟨_,_,0,A7,rfl,rfl,?_⟩;exact sizeOf3
theorem f7:dM Tryz.prog 137 1 1:=by refine⟨_,_,0,A7,rfl,rfl,?_⟩;exact sizeOf9
theorem GD:dM Tryz.prog 137 2 2:=by refine⟨_,_,0,A7,rfl,rfl,?_⟩;exact sizeOf3
theorem zQ:kY Tryz.prog 137 [(0,1),(1,1),(2,1)] [.pv (.int .i64 0),.pv (.str ⟨#[]⟩),.pv (.int .i64 0)]:=⟨_,#[(0,1),(1,1),(2,1)],_,_,A7,YB,.inl rfl,rfl,fun w=>by simp [sizeOf3,sizeOf9],rfl⟩
theorem TP:gN Tryz.prog 154 [.pv (.sl []),.pv (.str ⟨#[]⟩),.pv (.int .i64 0)]:=⟨_,_,zeroValue154,.inl rfl,rfl⟩
theorem aDn:dM Tryz.prog 154 0 0:=by refine⟨_,_,0,A6,rfl,rfl,?_⟩;exact sizeOf36
theorem U2:dM Tryz.prog 154 1 1:=by refine⟨_,_,0,A6,rfl,rfl,?_⟩;exact sizeOf9
theorem U1:dM Tryz.prog 154 2 2:=by refine⟨_,_,0,A6,rfl,rfl,?_⟩;exact sizeOf25
theorem E6:kY Tryz.prog 154 [(0,1),(1,1),(2,1)] [.pv (.sl []),.pv (.str ⟨#[]⟩),.pv (.int .i64 0)]:=⟨_,#[(0,1),(1,1),(2,1)],_,_,A6,zeroValue154,.inl rfl,rfl,fun w=>by simp [sizeOf9,sizeOf25,sizeOf36],rfl⟩
theorem aEn:gN Tryz.prog 159 [.pv .nilp,.pv .nils]:=⟨_,_,zeroValue159,.inr rfl,rfl⟩
theorem mC:dM Tryz.prog 159 0 0:=by refine⟨_,_,1,underlying159,rfl,rfl,?_⟩;exact sizeOf62
theorem ZX:eH Tryz.prog 163 46 1:=⟨TJ,sizeOf46,by decide,_,FM⟩
theorem YR:gN Tryz.prog 174 [.pv (.int .i64 0),.pv (.str ⟨#[]⟩),.pv (.int .i64 0),.pv (.int .i64 0)]:=⟨_,_,zeroValue174,.inl rfl,rfl⟩
theorem lF:dM Tryz.prog 174 0 0:=by refine⟨_,_,2,TI,rfl,rfl,?_⟩;exact sizeOf137
theorem oL:dM Tryz.prog 174 1 3:=by refine⟨_,_,0,TI,rfl,rfl,?_⟩;exact sizeOf25
theorem aHC:kY Tryz.prog 174 [(0,3),(3,1)] [.pv (.int .i64 0),.pv (.str ⟨#[]⟩),.pv (.int .i64 0),.pv (.int .i64 0)]:=⟨_,#[(0,3),(3,1)],_,_,TI,zeroValue174,.inl rfl,rfl,fun w=>by simp [sizeOf25,sizeOf137],rfl⟩
theorem aEi:GH Tryz.prog 182 1 [.pv (.str ⟨#[]⟩),.pv (.str ⟨#[]⟩),.pv (.str ⟨#[]⟩),.pv (.str ⟨#[]⟩)]:=⟨_,_,_,_,underlying182,zeroValue182,.inl rfl,rfl,sizeOf9⟩
theorem aGV:gN Tryz.prog 206 [.pv (.str ⟨#[]⟩),.pv (.str ⟨#[]⟩),.pv (.str ⟨#[]⟩),.pv (.str ⟨#[]⟩),.pv (.str ⟨#[]⟩),.pv (.str ⟨#[]⟩)]:=⟨_,_,zeroValue206,.inl rfl,rfl⟩
theorem aHH:GH Tryz.prog 206 1 [.pv (.str ⟨#[]⟩),.pv (.str ⟨#[]⟩),.pv (.str ⟨#[]⟩),.pv (.str ⟨#[]⟩),.pv (.str ⟨#[]⟩),.pv (.str ⟨#[]⟩)]:=⟨_,_,_,_,underlying206,zeroValue206,.inl rfl,rfl,sizeOf9⟩
theorem aGU:gN Tryz.prog 216 [.pv .nilfn]:=⟨_,_,zeroValue216,.inl rfl,rfl⟩
theorem aHG:GH Tryz.prog 223 1 [.pv (.int .i64 0),.pv (.int .i64 0),.pv (.int .i64 0),.pv (.int .i64 0),.pv (.int .i64 0),.pv (.int .i64 0)]:=⟨_,_,_,_,underlying223,zeroValue223,.inl rfl,rfl,sizeOf3⟩
theorem ZW:eH Tryz.prog 244 38 1:=⟨underlying244,sizeOf38,by decide,_,FN⟩
end Go.Proofs.YtlnfjkdacimblaaGreatDoor
namespace Go.Abs
def aBY:PV→Bool
 | .int _ _=>true
 | .bool _=>true
 | .str _=>true
 | _=>false
theorem PRep.flat {w w':World} {I I':Nat→Prop} {v:Value} {p:PV} (h:PRep w I v p) (hf:aBY p=true):PRep w' I' v p:=by cases h<;>first|(constructor;done)|(simp [aBY] at hf;done)
def RO (P:Program) (f:FuncId) (args:List AV) (H:aE) (p:PV):Prop :=∀ (I:Nat→Prop) (ι:fF) (w:World) (vs:Array Value),Rel I ι H w→vs.size=args.length→(∀ (i:Nat) (v:Value) (a:AV),vs[i]?=some v→args[i]?=some a→VRel w I ι H v a) →
  Calls P f vs w fun e w'=>∃ v,e=.returned v∧(∀ w2 I2,PRep w2 I2 v p)∧w'.os=w.os∧w'.tape=w.tape∧w'.output=w.output∧w.heap.size≤w'.heap.size ∧
   (∀ a,a.block < w.heap.size→w'.frozen? a=w.frozen? a)∧∀ b,b < w.heap.size→w'.heap[b]?=w.heap[b]?
theorem RO.of {P:Program} {f:FuncId} {args:List AV} {p:PV} (h:aH P f args [] (fun r H=>r=.pv p∧H=[])) (hf:aBY p=true):RO P f args [] p:=by
 intro I ι w vs hr hl hv;refine(h I ι w vs hr hl hv).mono ?_;rintro e w' ⟨r,H',I',ι',v,rfl,⟨rfl,rfl⟩,k1,k2,k3⟩;have hno:∀ b,¬ FP ι [] b:=fun b ⟨_,_,_,hx,_⟩=>by cases hx
 exact⟨v,rfl,fun w2 I2=>k1.pv_inv.flat hf,k3.os,k3.tape,k3.output,k3.size,fun a ha=>k3.froz a ha (hno _),fun b hb=>k3.keep b hb (hno b)⟩
theorem RO.lend {P:Program} {f:FuncId} {args args':List AV} {p:PV} {H H1:aE} {id:Nat} {ob:Ob} (ps:List (List PV)) (h:RO P f args' H1 p) (hH:H.get id=some ob) (hps:ob.rows=ps.map (·.map .pv)) (hl:args.length=args'.length)
  (hz:∀ (i:Nat) (a a':AV),args[i]?=some a→args'[i]?=some a'→Fz H1 id ob.g ps a a') (hs:Sub H1 H) (hc:dF H1) (hno:H1.get id=none):RO P f args H p:=by
 intro I ι w vs hr hlen hv;refine h (lI I ι id) ι w vs (hr.freeze hs hc hH hno) (by omega) ?_;intro i v a' hi ha';have hlt:i < args.length:=by
  have:=(aIv.1 ha').1;omega
 exact VRel.freeze hr hs hH hps (hz i _ a' (aIw hlt) ha') (hv i v _ hi (aIw hlt))
theorem RO.calls {P:Program} {f:FuncId} {args:List AV} {p:PV} {H:aE} (h:RO P f args H p):aH P f args H (fun r H'=>r=.pv p∧H'=H):=by
 intro I ι w vs hr hl hv;refine(h I ι w vs hr hl hv).mono ?_;rintro e w' ⟨v,rfl,h1,h2,h3,h4,h5,h6,h7⟩;have hst:Step I ι H w I ι H w' :=
  ⟨h2,h3,h4,h5,fun a ha _=>h6 a ha,fun _ h=>h,fun _ h=>.inl h,fun _ h=>.inl h,fun b hb _=>h7 b hb,fun id o ho=>⟨o,ho,aIx _,fun _=>⟨rfl,rfl,fun _=>aIx _⟩⟩⟩
 refine⟨.pv p,H,I,ι,v,rfl,⟨rfl,rfl⟩,.pv (h1 _ _),?_,hst⟩;refine⟨fun b hb=>Nat.lt_of_lt_of_le (hr.imm b hb) h5,fun id o ho=>?_,hr.inj,hst.glob hr⟩;exact(hr.obj id o ho).keep rfl (fun b' _ _ hlt=>⟨h7 b' hlt,fun h=>h⟩) (fun r _ a _ v hv=>hv.mono hr hst)
theorem gU {P:Program} {G0:aE} {N:Nat} {Q:Exit→dG→aE→Prop} {E:dG} {H:aE} {cc:Code} {α β:Type} (S:α→β→dG×aE) (J:α→β→Prop) (μ:α→β→Nat) (a0:α) (b0:β) (h0:J a0 b0) (hin:cY G0 E H (S a0 b0).1 (S a0 b0).2)
  (round:∀ a b,J a b→iB P G0 N cc (zU (fun E' H'=>∃ a' b',J a' b'∧μ a' b' < μ a b∧cY G0 E' H' (S a' b').1 (S a' b').2) Q) (S a b).1 (S a b).2):iB P G0 N (.loop cc) Q E H:=by
 refine bG (σ:=α×β) (fun s=>S s.1 s.2) (fun s=>J s.1 s.2) (fun s=>μ s.1 s.2) (a0,b0) h0 hin ?_;intro s hs;have h:=round s.1 s.2 hs;have e:(fun(E':dG) (H':aE)=>∃ s':α×β,J s'.1 s'.2∧μ s'.1 s'.2 < μ s.1 s.2∧cY G0 E' H' (S s'.1 s'.2).1 (S s'.1 s'.2).2)=(fun E' H'=>∃ a' b',J a' b'∧μ a' b' < μ s.1 s.2∧cY G0 E' H' (S a' b').1 (S a' b').2):=by
  funext E' H';exact propext ⟨fun⟨s',h⟩=>⟨s'.1,s'.2,h⟩,fun⟨a',b',h⟩=>⟨(a',b'),h⟩⟩
 rw [e];exact h
theorem L5 {P:Program} {G0:aE} {N:Nat} {Q:Exit→dG→aE→Prop} {E:dG} {H:aE} {cc:Code} {α β γ:Type} (S:α→β→γ→dG×aE) (J:α→β→γ→Prop) (μ:α→β→γ→Nat) (a0:α) (b0:β) (c0:γ) (h0:J a0 b0 c0) (hin:cY G0 E H (S a0 b0 c0).1 (S a0 b0 c0).2)
  (round:∀ a b c,J a b c→iB P G0 N cc (zU (fun E' H'=>∃ a' b' c',J a' b' c'∧μ a' b' c' < μ a b c∧cY G0 E' H' (S a' b' c').1 (S a' b' c').2) Q) (S a b c).1 (S a b c).2):iB P G0 N (.loop cc) Q E H:=by
 refine bG (σ:=α×β×γ) (fun s=>S s.1 s.2.1 s.2.2) (fun s=>J s.1 s.2.1 s.2.2) (fun s=>μ s.1 s.2.1 s.2.2) (a0,b0,c0) h0 hin ?_;intro s hs;have h:=round s.1 s.2.1 s.2.2 hs;have e:(fun(E':dG) (H':aE)=>∃ s':α×β×γ,J s'.1 s'.2.1 s'.2.2∧μ s'.1 s'.2.1 s'.2.2 < μ s.1 s.2.1 s.2.2∧cY G0 E' H' (S s'.1 s'.2.1 s'.2.2).1 (S s'.1 s'.2.1 s'.2.2).2)=(fun E' H'=>∃ a' b' c',J a' b' c'∧μ a' b' c' < μ s.1 s.2.1 s.2.2∧cY G0 E' H' (S a' b' c').1 (S a' b' c').2):=by
  funext E' H';exact propext ⟨fun⟨s',h⟩=>⟨s'.1,s'.2.1,s'.2.2,h⟩,fun⟨a',b',c',h⟩=>⟨(a',b',c'),h⟩⟩
 rw [e];exact h
theorem X3 {P:Program} {G0:aE} {N:Nat} {Q:Exit→dG→aE→Prop} {E:dG} {H:aE} {cc:Code} {α β γ δ:Type} (S:α→β→γ→δ→dG×aE) (J:α→β→γ→δ→Prop) (μ:α→β→γ→δ→Nat) (a0:α) (b0:β) (c0:γ) (d0:δ) (h0:J a0 b0 c0 d0) (hin:cY G0 E H (S a0 b0 c0 d0).1 (S a0 b0 c0 d0).2)
  (round:∀ a b c d,J a b c d→iB P G0 N cc (zU (fun E' H'=>∃ a' b' c' d',J a' b' c' d'∧μ a' b' c' d' < μ a b c d∧cY G0 E' H' (S a' b' c' d').1 (S a' b' c' d').2) Q) (S a b c d).1 (S a b c d).2):iB P G0 N (.loop cc) Q E H:=by
 refine bG (σ:=α×β×γ×δ) (fun s=>S s.1 s.2.1 s.2.2.1 s.2.2.2) (fun s=>J s.1 s.2.1 s.2.2.1 s.2.2.2) (fun s=>μ s.1 s.2.1 s.2.2.1 s.2.2.2) (a0,b0,c0,d0) h0 hin ?_;intro s hs;have h:=round s.1 s.2.1 s.2.2.1 s.2.2.2 hs;have e:(fun(E':dG) (H':aE)=>∃ s':α×β×γ×δ,J s'.1 s'.2.1 s'.2.2.1 s'.2.2.2∧μ s'.1 s'.2.1 s'.2.2.1 s'.2.2.2 < μ s.1 s.2.1 s.2.2.1 s.2.2.2∧cY G0 E' H' (S s'.1 s'.2.1 s'.2.2.1 s'.2.2.2).1 (S s'.1 s'.2.1 s'.2.2.1 s'.2.2.2).2)=(fun E' H'=>∃ a' b' c' d',J a' b' c' d'∧μ a' b' c' d' < μ s.1 s.2.1 s.2.2.1 s.2.2.2∧cY G0 E' H' (S a' b' c' d').1 (S a' b' c' d').2):=by
  funext E' H';exact propext ⟨fun⟨s',h⟩=>⟨s'.1,s'.2.1,s'.2.2.1,s'.2.2.2,h⟩,fun⟨a',b',c',d',h⟩=>⟨(a',b',c',d'),h⟩⟩
 rw [e];exact h
theorem GF {α:Type} (f:α→List PV) (l:List α) (H:aE):∀ r∈l.map (fun e=>(f e).map AV.pv),∀ a∈r,Clo H a:=by intro r hr a ha;obtain ⟨e,_,rfl⟩:=List.mem_map.1 hr;obtain ⟨p,_,rfl⟩:=List.mem_map.1 ha;exact .pv p
theorem oK {H:aE} {id g:Nat} {ps:List (List PV)}:∀ (i:Nat) (a a':AV),([]:List AV)[i]?=some a→([]:List AV)[i]?=some a'→Fz H id g ps a a':=fun i a a' h=>by cases h
theorem dC {H:aE} {id g:Nat} {ps:List (List PV)} {x x':AV} {l l':List AV} (h:Fz H id g ps x x') (hr:∀ (i:Nat) (a a':AV),l[i]?=some a→l'[i]?=some a'→Fz H id g ps a a') :
  ∀ (i:Nat) (a a':AV),(x::l)[i]?=some a→(x'::l')[i]?=some a'→Fz H id g ps a a'
 | 0,a,a',h1,h2=>by cases h1;cases h2;exact h
 | i+1,a,a',h1,h2=>hr i a a' h1 h2
inductive Nz (H':aE) (id:Nat):AV→AV→Prop
 | same {a:AV} (h:Clo H' a):Nz H' id a a
 | own:Nz H' id (.pv .nils) (.osl id 0 0 0)
 | weak:Nz H' id (.pv .nils) (.pv (.sl []))
 | agg {cs cs':List AV} (hl:cs.length=cs'.length) (h:∀ (i:Nat) (a a':AV),cs[i]?=some a→cs'[i]?=some a'→Nz H' id a a'):Nz H' id (.agg cs) (.agg cs')
 | tup {cs cs':List AV} (hl:cs.length=cs'.length) (h:∀ (i:Nat) (a a':AV),cs[i]?=some a→cs'[i]?=some a'→Nz H' id a a'):Nz H' id (.tup cs) (.tup cs')
def aCL (H H':aE):Prop:=∀ j o',H'.get j=some o'→∃ o,H.get j=some o∧o.g=o'.g∧o.sz=o'.sz∧o.ty=o'.ty∧o.rows.length=o'.rows.length
theorem VRel.alike {w:World} {I:Nat→Prop} {ι:fF} {H H':aE} (hs:aCL H H') {v:Value} {a:AV} (h:VRel w I ι H v a):Clo H' a→VRel w I ι H' v a:=by
 induction h with
 | any v=>exact fun _=>.any v
 | pv h=>exact fun _=>.pv h
 | ref o hH hg h1 h =>
  intro hc;rw [NX] at hc;obtain ⟨o',ho'⟩:=Option.isSome_iff_exists.1 hc;obtain ⟨o2,e1,e2,e3,e4,e5⟩:=hs _ o' ho';rw [hH] at e1;cases e1;exact .ref o' ho' (by omega) h1 (fun e=>by rw [← e3];exact h (by omega))
 | pad b off cap sz h hsz hlen cs hI hc hp=>exact fun _=>.pad b off cap sz h hsz hlen cs hI hc hp
 | osl o hH hg h1 h =>
  intro hc;rw [aEE] at hc;obtain ⟨o',ho'⟩:=Option.isSome_iff_exists.1 hc;obtain ⟨o2,e1,e2,e3,e4,e5⟩:=hs _ o' ho';rw [hH] at e1;cases e1;exact .osl o' ho' (by omega) h1 (fun e=>by rw [← e3,← e5];exact h (by omega))
 | clo hl h ih =>
  intro hc;rw [aEG] at hc;exact .clo hl (fun i v a hv ha=>ih i v a hv ha (hc a (aJB ha)))
 | agg hl h1 h ih =>
  intro hc;rw [NY] at hc;exact .agg hl h1 (fun i v a hv ha=>ih i v a hv ha (hc a (aJB ha)))
 | tup hl h ih =>
  intro hc;rw [aED] at hc;exact .tup hl (fun i v a hv ha=>ih i v a hv ha (hc a (aJB ha)))
 | mp o hH hg h1 h =>
  intro hc;rw [aFx] at hc;obtain ⟨o',ho'⟩:=Option.isSome_iff_exists.1 hc;obtain ⟨o2,e1,e2,e3,e4,e5⟩:=hs _ o' ho';rw [hH] at e1;cases e1;exact .mp o' ho' (by omega) h1 (fun e=>by rw [← e3];exact h (by omega))
 | it o hH hg h1 h =>
  intro hc;rw [aFy] at hc;obtain ⟨o',ho'⟩:=Option.isSome_iff_exists.1 hc;obtain ⟨o2,e1,e2,e3,e4,e5⟩:=hs _ o' ho';rw [hH] at e1;cases e1;exact .it o' ho' (by omega) h1 (fun e=>by rw [← e3];exact h (by omega))
 | yld o hH hg h1 h =>
  intro hc;rw [aEC] at hc;obtain ⟨o',ho'⟩:=Option.isSome_iff_exists.1 hc;obtain ⟨o2,e1,e2,e3,e4,e5⟩:=hs _ o' ho';rw [hH] at e1;cases e1;exact .yld o' ho' (by omega) h1 (fun e=>by rw [← e3];exact h (by omega))
 | osc o hH hg h1 h =>
  intro hc;rw [aEF] at hc;obtain ⟨o',ho'⟩:=Option.isSome_iff_exists.1 hc;obtain ⟨o2,e1,e2,e3,e4,e5⟩:=hs _ o' ho';rw [hH] at e1;cases e1;exact .osc o' ho' (by omega) h1 (fun e=>by rw [← e3];exact h (by omega))
theorem Nz.raw {H':aE} {id:Nat} {a a':AV} (h:Nz H' id a a') {y:Go.Loop} {ts:List Nat} (e:a'=.raw y ts):a=.raw y ts:=by cases h<;>first|exact e|cases e
theorem VRel.nz {w:World} {I:Nat→Prop} {ι:fF} {H H':aE} {id:Nat} {ob:Ob} (hs:aCL H H') (hι:ι id=none) (hid:H'.get id=some ob) (hg:ob.g=0) (hpos:0 < ob.sz) {a a':AV} (hn:Nz H' id a a'):∀ {v:Value},VRel w I ι H v a→VRel w I ι H' v a':=by
 induction hn with
 | same h=>exact fun hv=>hv.alike hs h
 | own =>
  intro v hv;have:=hv.pv_inv;cases this;exact .osl ob hid (by omega) rfl (fun _=>⟨hpos,by omega,.inr ⟨hι,rfl,rfl,rfl⟩⟩)
 | weak =>
  intro v hv;have:=hv.pv_inv;cases this;exact .pv .nilsl
 | @agg cs cs' hl h ih =>
  intro v hv;cases hv with
  | agg hl2 h1 h2 =>
   refine .agg (hl2.trans hl) h1 (fun i u a' hu ha'=>?_);have ha:=List.getElem?_eq_getElem (l:=cs) (i:=i) (by have:=(aIv.1 ha').1;omega);exact ih i _ a' ha ha' (h2 i u _ hu ha)
 | @tup cs cs' hl h ih =>
  intro v hv;cases hv with
  | tup hl2 h2 =>
   refine .tup (hl2.trans hl) (fun i u a' hu ha'=>?_);have ha:=List.getElem?_eq_getElem (l:=cs) (i:=i) (by have:=(aIv.1 ha').1;omega);exact ih i _ a' ha ha' (h2 i u _ hu ha)
def NzL (H:aE) (id:Nat):List AV→List AV→Prop
 | [],[]=>True
 | a::l,b::r=>Nz H id a b∧NzL H id l r
 | _,_=>False
theorem NzL.spec {H:aE} {id:Nat}:∀ {l r:List AV},NzL H id l r→l.length=r.length∧∀ (k:Nat) (a b:AV),l[k]?=some a→r[k]?=some b→Nz H id a b
 | [],[],_=>⟨rfl,fun k a b h=>by simp at h⟩
 | a::l,b::r,h=>⟨by simp [(NzL.spec h.2).1],fun k x y h1 h2=>by
   cases k with
   | zero=>cases h1;cases h2;exact h.1
   | succ k=>exact(NzL.spec h.2).2 k x y h1 h2⟩
 | [],_::_,h=>h.elim
 | _::_,[],h=>h.elim
def NzR (H:aE) (id:Nat) (rows rows':List (List AV)):Prop:=(rows=rows'∧∀ r∈rows',∀ a∈r,Clo H a)∨∃ r r',rows=[r]∧rows'=[r']∧NzL H id r r'
theorem NzR.spec {H:aE} {id:Nat} {rows rows':List (List AV)} (h:NzR H id rows rows'):rows.length=rows'.length∧∀ (i:Nat) (r':List AV),rows'[i]?=some r'→∃ r,rows[i]?=some r∧r.length=r'.length∧∀ (k:Nat) (b:AV),r'[k]?=some b→∃ a,r[k]?=some a∧Nz H id a b:=by
 rcases h with⟨rfl,hc⟩|⟨r,r',rfl,rfl,hl⟩
 ·exact⟨rfl,fun i r' hr=>⟨r',hr,rfl,fun k b hb=>⟨b,hb,.same (hc r' (aJB hr) b (aJB hb))⟩⟩⟩
 refine⟨rfl,fun i r2 hr=>?_⟩;cases i with
 | zero =>
  cases hr;obtain ⟨e1,e2⟩:=hl.spec;refine⟨r,rfl,e1,fun k b hb=>?_⟩;have hlt:=(aIv.1 hb).1;exact⟨r[k],aIw (by omega),e2 k _ b (aIw (by omega)) hb⟩
 | succ i=>simp at hr
def NzE (E:dG) (H:aE) (id:Nat):dG→Prop
 | []=>True
 | (t,v)::r=>(∃ v0,E.get t=some v0∧Nz H id v0 v)∧NzE E H id r
theorem NzE.spec {E:dG} {H:aE} {id:Nat}:∀ {E':dG},NzE E H id E'→∀ p∈E',∃ v0,E.get p.1=some v0∧Nz H id v0 p.2
 | (t,v)::r,h,p,hp=>by
  rcases aJD.1 hp with e|e
  ·subst e;exact h.1
  exact NzE.spec h.2 p e
def NzH (H H2:aE) (id:Nat):aE→Prop
 | []=>True
 | (j,o')::r=>(∃ o,H.get j=some o∧o.g=o'.g∧o.sz=o'.sz∧o.ty=o'.ty∧NzR H2 id o.rows o'.rows)∧NzH H H2 id r
theorem NzH.spec {H H2:aE} {id:Nat}:∀ {H':aE},NzH H H2 id H'→∀ p∈H',∃ o,H.get p.1=some o∧o.g=p.2.g∧o.sz=p.2.sz∧o.ty=p.2.ty∧NzR H2 id o.rows p.2.rows
 | (j,o')::r,h,p,hp=>by
  rcases aJD.1 hp with e|e
  ·subst e;exact h.1
  exact NzH.spec h.2 p e
theorem cY.nz {G0:aE} {E E':dG} {H H':aE} (id sz ty:Nat) (hid:H.get id=none) (hsz:Nat.blt 0 sz=true) (hE:NzE E ((id,⟨0,sz,ty,[]⟩)::H') id E') (hH:NzH H ((id,⟨0,sz,ty,[]⟩)::H') id H') (hk:YO ((id,⟨0,sz,ty,[]⟩)::H') H G0) :
  cY G0 E H E' ((id,⟨0,sz,ty,[]⟩)::H'):=by
 intro G hG N a w hs;obtain ⟨I,ι,hr,hst,he⟩:=hs.rel;obtain ⟨a1,a2⟩:=hr.adopt (sz:=sz) (ty:=ty) hid (by simpa [Nat.blt_eq] using hsz);have hpz:0 < sz:=by simpa [Nat.blt_eq] using hsz
 obtain ⟨ι',hι'⟩:∃ ι':fF,ι'=(fun j=>if j=id then none else ι j):=⟨_,rfl⟩;rw [← hι'] at a1 a2;have hιid:ι' id=none:=by rw [hι'];simp
 obtain ⟨H1,hH1⟩:∃ H1:aE,H1=(id,(⟨0,sz,ty,[]⟩:Ob))::H:=⟨_,rfl⟩;obtain ⟨H2,hH2⟩:∃ H2:aE,H2=(id,(⟨0,sz,ty,[]⟩:Ob))::H':=⟨_,rfl⟩;rw [← hH1] at a1 a2;rw [← hH2] at hE hH hk ⊢;have g1:H1.get id=some ⟨0,sz,ty,[]⟩:=by rw [hH1];simp [aE.get]
 have g2:H2.get id=some ⟨0,sz,ty,[]⟩:=by rw [hH2];simp [aE.get]
 have n1:∀ j,j≠id→H1.get j=H.get j:=fun j e=>by rw [hH1];simp [aE.get,pJ (Ne.symm e)]
 have n2:∀ j,j≠id→H2.get j=H'.get j:=fun j e=>by rw [hH2];simp [aE.get,pJ (Ne.symm e)]
 have hobj:∀ j o',H2.get j=some o'→∃ o,H1.get j=some o∧o.g=o'.g∧o.sz=o'.sz∧o.ty=o'.ty∧NzR H2 id o.rows o'.rows:=by
  intro j o' ho;by_cases e:j=id
  ·subst e;rw [g2] at ho;cases ho;exact⟨_,g1,rfl,rfl,rfl,.inl ⟨rfl,by simp⟩⟩
  rw [n2 j e] at ho;obtain ⟨o,e1,e2⟩:=hH.spec _ (d6 ho);exact⟨o,(n1 j e).trans e1,e2⟩
 have hal:aCL H1 H2:=fun j o' ho=>by
  obtain ⟨o,e1,e2,e3,e4,e5⟩:=hobj j o' ho;exact⟨o,e1,e2,e3,e4,e5.spec.1⟩
 have hown:∀ b,FP ι' H2 b→FP ι' H1 b:=by
  rintro b ⟨j,o',c,ho,hb⟩;obtain ⟨o,e1,_⟩:=hobj j o' ho;exact⟨j,o,c,e1,hb⟩
 have hrel:Rel I ι' H2 w:=by
  refine⟨a1.imm,fun j o' ho=>?_,fun j j' o o' b c c' hj hj'=>?_,a1.glob⟩
  ·obtain ⟨o,e1,e2,e3,e4,e5⟩:=hobj j o' ho;obtain ⟨s1,s2⟩:=e5.spec;refine(a1.obj j o e1).keepG e3.symm e4.symm s1.symm (O5 s1 (fun i r' hi=>by
    obtain ⟨r,t1,t2,t3⟩:=s2 i r' hi;refine⟨r,t1,t2,fun k a a' h1 h2 y ts e=>?_⟩;obtain ⟨z,u1,u2⟩:=t3 k a' h2;rw [h1] at u1;cases u1;exact u2.raw e)) rfl (fun _ _ _ _=>⟨rfl,fun h=>h⟩) (fun i r' hi=>?_)
   obtain ⟨r,t1,t2,t3⟩:=s2 i r' hi;refine⟨r,t1,t2,fun k a a' h1 h2 v hv=>?_⟩;obtain ⟨y,u1,u2⟩:=t3 k a' h2;rw [h1] at u1;cases u1;exact VRel.nz hal hιid g2 rfl hpz u2 hv
  obtain ⟨o1,e1,_⟩:=hobj j o hj;obtain ⟨o2,e2,_⟩:=hobj j' o' hj';exact a1.inj j j' o1 o2 b c c' e1 e2
 have hst1:=hst.trans a2;have hst2:Step G.I G.ι G.H G.w I ι' H2 w:=by
  refine⟨hst1.os,hst1.tape,hst1.output,hst1.size,hst1.froz,hst1.imm,hst1.immNew,fun b hb=>hst1.own b (hown b hb),hst1.keep,fun j o hj=>?_⟩;obtain ⟨o1,e1,e2⟩:=hst1.objs j o hj;subst hG;have hkk:=hk.kept j (by rw [hj];rfl);by_cases e:j=id
  ·subst e;obtain ⟨o0,e0,_⟩:=hst.objs j o hj;rw [hid] at e0;cases e0
  rw [n1 j e] at e1;exact⟨o1,hkk.trans e1,e2⟩
 refine⟨hs.defers,hs.size,I,ι',hrel,hst2,fun t v hv=>?_⟩;obtain ⟨v0,f1,f2⟩:=hE.spec _ (gD hv);obtain ⟨c,c1,c2⟩:=he t v0 f1;exact⟨c,c1,VRel.nz hal hιid g2 rfl hpz f2 (c2.mono hr a2)⟩
end Go.Abs
namespace Go.Proofs.YtlnfjkdacimblaaGreatDoor
open Go.Proofs.Tryz
open Go.Abs
theorem follows:Tryz.prog.follows .mixedOrders=true:=by kernel_rfl
structure GTag where
 key:ByteArray
 val:ByteArray
structure GObj where
 id:ByteArray
 kind:Int
 x:Int
 y:Int
 refs:List ByteArray
 tags:List GTag
structure GEdit where
 op:Int
 id:ByteArray
 other:ByteArray
 node:ByteArray
 x:Int
 y:Int
 key:ByteArray
 val:ByteArray
 refs:List ByteArray
 obj:GObj
def encStr (s:ByteArray):List PV:=[.str s]
def encInt (n:Int):List PV:=[.int .i64 n]
def aQ (t:GTag):List PV:=[.str t.key,.str t.val]
def aG (o:GObj):List PV:=[.str o.id,.int .i64 o.kind,.int .i64 o.x,.int .i64 o.y,.sl (o.refs.map encStr),.sl (o.tags.map aQ)]
def aJ (e:GEdit):List PV:=[.int .i64 e.op,.str e.id,.str e.other,.str e.node,.int .i64 e.x,.int .i64 e.y,.str e.key,.str e.val,.sl (e.refs.map encStr),
 .str e.obj.id,.int .i64 e.obj.kind,.int .i64 e.obj.x,.int .i64 e.obj.y,.sl (e.obj.refs.map encStr),.sl (e.obj.tags.map aQ)]
def cS (l:List ByteArray):PV:=.sl (l.map encStr)
def iL (l:List GTag):PV:=.sl (l.map aQ)
def cO (l:List GObj):PV:=.sl (l.map aG)
def cD (l:List GEdit):PV:=.sl (l.map aJ)
def DE (l:List Int):PV:=.sl (l.map encInt)
def zObj:GObj:=⟨⟨#[]⟩,0,0,0,[],[]⟩
theorem bZ {α:Type} {f:α→List PV} {l:List α} {k:Nat} {a:α} (h:l[k]?=some a):(l.map f)[k]?=some (f a):=by rw [aJL,h];rfl
theorem aX {α:Type} {l:List α} {k:Nat} (h:k < l.length):∃ a,l[k]?=some a:=⟨_,aIw h⟩
theorem pE {α:Type} {p:α→Bool} {l:List α} {k:Nat} {a:α} (h:∀ j,j < k→∀ b,l[j]?=some b→p b=false) (hk:l[k]?=some a) (hp:p a=true):l.findIdx? p=some k:=by rw [List.findIdx?_eq_some_iff_getElem];obtain ⟨hlt,he⟩:=aIv.1 hk;refine⟨hlt,by rw [he];exact hp,fun j hj=>?_⟩;have:=h j hj l[j] (aIw (by omega));simp [this]
theorem pF {α:Type} {p:α→Bool} {l:List α} (h:∀ j,j < l.length→∀ b,l[j]?=some b→p b=false):l.findIdx? p=none:=by rw [List.findIdx?_eq_none_iff];intro x hx;obtain ⟨j,hj⟩:=aJM.1 hx;exact h j (aIv.1 hj).1 x hj
def jY {α:Type} (p:α→Bool) (l:List α):Int:=match l.findIdx? p with|some i=>(i:Int)|none => -1
theorem uZ {α:Type} (p:α→Bool) (l:List α):decide (0≤jY p l)=l.any p:=by
 unfold jY;cases h:l.findIdx? p with
 | none =>
  have:l.any p=false:=by
   rw [List.findIdx?_eq_none_iff] at h;rw [List.any_eq_false];intro x hx;simp [h x hx]
  simp [this]
 | some i =>
  have:l.any p=true:=by
   rw [List.findIdx?_eq_some_iff_getElem] at h;obtain ⟨h1,h2,_⟩:=h;exact List.any_eq_true.2 ⟨_,List.getElem_mem h1,h2⟩
  simp [this]
theorem sB {α:Type} (p:α→Bool) (l:List α):(jY p l = -1∧l.find? p=none)∨∃ (k:Nat) (o:α),jY p l=(k:Int)∧l[k]?=some o∧l.find? p=some o:=by
 cases h:l.findIdx? p with
 | none =>
  left;refine⟨by simp [jY,h],?_⟩;rw [List.findIdx?_eq_none_iff] at h;rw [List.find?_eq_none];intro x hx;simp [h x hx]
 | some k =>
  right;have h':=h;rw [List.findIdx?_eq_some_iff_getElem] at h;obtain ⟨h1,h2,h3⟩:=h;refine⟨k,l[k],by simp [jY,h'],aIw h1,?_⟩;rw [List.find?_eq_some_iff_getElem];exact⟨h2,k,h1,rfl,fun j hj=>by have:=h3 j hj;simpa using this⟩
theorem XM {α:Type} {p:α→Bool} {l:List α} (h:∀ j,j < l.length→∀ b,l[j]?=some b→p b=false):l.find? p=none:=by rw [List.find?_eq_none];intro x hx;obtain ⟨j,hj⟩:=aJM.1 hx;simp [h j (aIv.1 hj).1 x hj]
theorem XL {α:Type} {p:α→Bool} {l:List α} {k:Nat} {a:α} (h:∀ j,j < k→∀ b,l[j]?=some b→p b=false) (hk:l[k]?=some a) (hp:p a=true):l.find? p=some a:=by
 obtain ⟨hlt,he⟩:=aIv.1 hk;rw [List.find?_eq_some_iff_getElem];refine⟨hp,k,hlt,he,fun j hj=>?_⟩;have:=h j hj l[j] (aIw (by omega))
 simpa using this
theorem j7 {α:Type} {p:α→Bool} {l:List α} {k:Nat} {a:α} (h:∀ j,j < k→∀ b,l[j]?=some b→p b=false) (hk:l[k]?=some a) (hp:p a=false):∀ j,j < k+1→∀ b,l[j]?=some b→p b=false:=by
 intro j hj b hb;by_cases e:j=k
 ·subst e;rw [hk] at hb;cases hb;exact hp
 exact h j (by omega) b hb
theorem u9 {α:Type} {p:α→Bool} {l:List α} (h:∀ j,j < l.length→∀ b,l[j]?=some b→p b=false):l.any p=false:=by rw [List.any_eq_false];intro x hx;obtain ⟨j,hj⟩:=aJM.1 hx;simp [h j (aIv.1 hj).1 x hj]
theorem sI {α:Type} {p:α→Bool} {l:List α} {k:Nat} {a:α} (hk:l[k]?=some a) (hp:p a=true):l.any p=true:=List.any_eq_true.2 ⟨_,aJB hk,hp⟩
end Go.Proofs.YtlnfjkdacimblaaGreatDoor
namespace Go.Abs
def aCf (H:aE):aE→Prop
 | []=>True
 | (id,o)::r=>H.get id=some o∧aCf H r
theorem aCf.sub {H:aE}:∀ {L:aE},aCf H L→Sub L H
 | [],_,id,o,h=>by cases h
 | (i,o')::r,h,id,o,ho=>by
  simp only [aE.get] at ho;cases e:Nat.beq i id with
  | true=>rw [e] at ho;cases ho;rw [← Nat.eq_of_beq_eq_true e];exact h.1
  | false=>rw [e] at ho;exact h.2.sub id o ho
theorem jQ (D H:aE) (k:Nat):aE.get (D++H) k=match D.get k with|some v=>some v|none=>H.get k:=GC D H k
theorem aH.frame {P:Program} {f:FuncId} {args:List AV} {H0 H1 H:aE} {r0:AV} (h:aH P f args H0 (fun r H'=>r=r0∧H'=H1)) (hs:Sub H0 H) (hc:dF H0) (ha:∀ a∈args,Clo H0 a)
  (hk:∀ id,(H1.get id).isSome=true→(H0.get id).isSome=true∨H.get id=none):aH P f args H (fun r H'=>r=r0∧H'=H1++H):=by
 intro I ι w vs hr hl hv;refine(h I ι w vs (hr.restrict hs hc) hl (fun i v a h1 h2=>(hv i v a h1 h2).restrict hs (ha a (aJB h2)))).mono ?_;rintro e w' ⟨r,H',I',ι',v,rfl,⟨rfl,rfl⟩,k1,k2,k3⟩;obtain ⟨ι2,hι2⟩:∃ ι2:fF,ι2=(fun j=>if(H'.get j).isSome=true then ι' j else ι j):=⟨_,rfl⟩;have i1:∀ j o,H'.get j=some o→ι2 j=ι' j:=fun j o hj=>by rw [hι2];simp [hj]
 have i2:∀ j,H'.get j=none→ι2 j=ι j:=fun j hj=>by rw [hι2];simp [hj]
 have g1:∀ j o,H'.get j=some o→aE.get (H'++H) j=some o:=fun j o hj=>by rw [jQ,hj]
 have g2:∀ j,H'.get j=none→aE.get (H'++H) j=H.get j:=fun j hj=>by rw [jQ,hj]
 have hfr:∀ j o,H.get j=some o→H'.get j=none→H0.get j=none:=fun j o hj hn=>by
  cases e:H0.get j with
  | none=>rfl
  | some o0 =>
   obtain ⟨o',e1,_⟩:=k3.objs j o0 e;rw [hn] at e1;cases e1
 have hno:∀ j o b c,H.get j=some o→H'.get j=none→ι j=some (b,c)→¬ FP ι H0 b:=fun j o b c hj hn hb ⟨j',o',c',hj',hb'⟩=>by
  have:=hr.inj j j' o o' b c c' hj (hs _ _ hj') hb hb';subst this;rw [hfr j o hj hn] at hj';cases hj'
 have hst:Step I ι H w I' ι2 (H'++H) w':=by
  refine⟨k3.os,k3.tape,k3.output,k3.size,fun a ha hn=>k3.froz a ha (fun h=>hn (h.sub hs)),k3.imm,fun b hb=>?_,?_,?_,?_⟩
  ·rcases k3.immNew b hb with h1|h1|h1
   ·exact .inl h1
   ·exact .inr (.inl (h1.sub hs))
   exact .inr (.inr h1)
  ·rintro b ⟨j,o,c,hj,hc⟩;cases e:H'.get j with
   | some o' =>
    rw [i1 j o' e] at hc;rcases k3.own b ⟨j,o',c,e,hc⟩with h1|h1
    ·exact .inl (h1.sub hs)
    exact .inr h1
   | none =>
    rw [i2 j e] at hc;rw [g2 j e] at hj;exact .inl ⟨j,o,c,hj,hc⟩
  ·intro b hb hn;exact k3.keep b hb (fun h=>hn (h.sub hs))
  intro j o hj;cases e:H'.get j with
  | some o' =>
   rcases hk j (by rw [e];rfl)with h1|h1
   ·obtain ⟨o0,e0⟩:=Option.isSome_iff_exists.1 h1;have:=hs _ _ e0;rw [hj] at this;cases this;obtain ⟨o2,q1,q2,q3⟩:=k3.objs j o e0;exact⟨o2,g1 j o2 q1,q2,fun e=>by rw [i1 j o2 q1];exact q3 e⟩
   rw [hj] at h1;cases h1
  | none=>exact⟨o,(g2 j e).trans hj,aIx _,fun _=>⟨i2 j e,rfl,fun _=>aIx _⟩⟩
 have hv':∀ {v:Value} {a:AV},VRel w' I' ι' H' v a→VRel w' I' ι2 (H'++H) v a:=fun hva =>
  hva.mono' (fun _ _=>rfl) (fun _ h=>h) (fun id o ho=>⟨o,g1 id o ho,aIx _,fun _=>⟨i1 id o ho,rfl,fun _=>aIx _⟩⟩)
 refine⟨r,H'++H,I',ι2,v,rfl,⟨rfl,rfl⟩,hv' k1,⟨k2.imm,fun j o hj=>?_,fun j j' o o' b c c' hj hj' hc hc'=>?_,k2.glob⟩,hst⟩
 ·cases e:H'.get j with
  | some o' =>
   rw [g1 j o' e] at hj;obtain rfl:o'=o:=Option.some.inj hj;exact(k2.obj j o' e).keep (i1 j o' e) (fun _ _ _ _=>⟨rfl,fun h=>h⟩) (fun r _ a _ v hv=>hv' hv)
  | none =>
   rw [g2 j e] at hj;refine(hr.obj j o hj).keep (i2 j e) (fun b' cap' e1 hlt=>⟨k3.keep b' hlt (hno j o b' cap' hj e e1),fun e3 hi=>?_⟩) (fun r _ a _ v hv=>hv.mono hr hst);rcases k3.immNew b' hi with h1|h1|h1
   ·exact e3 h1
   ·exact hno j o b' cap' hj e e1 h1
   omega
 cases e:H'.get j with
 | some q =>
  rw [i1 j q e] at hc;cases e':H'.get j' with
  | some q' =>
   rw [i1 j' q' e'] at hc';exact k2.inj j j' q q' b c c' e e' hc hc'
  | none =>
   rw [i2 j' e'] at hc';rw [g2 j' e'] at hj';have hlt:=hr.lt ⟨j',o',c',hj',hc'⟩;rcases k3.own b ⟨j,q,c,e,hc⟩with h1|h1
   ·exact absurd h1 (hno j' o' b c' hj' e' hc')
   omega
 | none =>
  rw [i2 j e] at hc;rw [g2 j e] at hj;cases e':H'.get j' with
  | some q' =>
   rw [i1 j' q' e'] at hc';have hlt:=hr.lt ⟨j,o,c,hj,hc⟩;rcases k3.own b ⟨j',q',c',e',hc'⟩with h1|h1
   ·exact absurd h1 (hno j o b c hj e hc)
   omega
  | none =>
   rw [i2 j' e'] at hc';rw [g2 j' e'] at hj';exact hr.inj j j' o o' b c c' hj hj' hc hc'
section
structure KeyKind (α:Type) where
 d:TypeDesc
 pv:α→PV
 val:α→Value
 rel:∀ (w:World) (I:Nat→Prop) (v:Value) (a:α),PRep w I v (pv a)→v=val a
 inj:∀ a b,val a=val b→a=b
 is:∀ a,MapKept.IsKey d (val a)
 rep:∀ (w:World) (I:Nat→Prop) (a:α),PRep w I (val a) (pv a)
def oW:KeyKind ByteArray:=⟨.string,.str,.string,fun _ _ _ _ h=>by cases h;rfl,fun _ _ h=>by cases h;rfl,fun _=>trivial,fun _ _ _=>.str _⟩
def vY (k:IntKind):KeyKind Int:=⟨.int k,.int k,.int k,fun _ _ _ _ h=>by cases h;rfl,fun _ _ h=>by cases h;rfl,fun _=>rfl,fun _ _ _=>.int _ _⟩
def k6 {α:Type} (κ:KeyKind α) (l:List (α×AV)):List (List AV):=l.mapIdx fun i p=>[.pv (κ.pv p.1),p.2,.pv (.int .i64 i)]
theorem rK {α:Type} {κ:KeyKind α} {l:List (α×AV)} {i:Nat} {r:List AV}:(k6 κ l)[i]?=some r↔∃ p,l[i]?=some p∧r=[.pv (κ.pv p.1),p.2,.pv (.int .i64 i)]:=by
 rw [k6,List.getElem?_mapIdx];cases l[i]? with
 | none=>simp
 | some p=>simp [eq_comm]
theorem B4 {α:Type} (κ:KeyKind α) (l:List (α×AV)):(k6 κ l).length=l.length:=by simp [k6]
theorem MU {α:Type} {κ:KeyKind α} {H:aE} {w:World} {I:Nat→Prop} {ι:fF} {v:Value} {k:α} (h:VRel w I ι H v (.pv (κ.pv k))):v=κ.val k:=κ.rel _ _ _ _ h.pv_inv
section
variable {α:Type}
structure MapAt (w:World) (I:Nat→Prop) (ι:fF) (H:aE) (κ:KeyKind α) (l:List (α×AV)) (es:Array MapEntry):Prop where
 size:es.size=l.length
 rel:∀ (i:Nat) (p:α×AV),l[i]?=some p→∃ e,es[i]?=some e∧e.born=i∧e.key=κ.val p.1∧VRel w I ι H e.val p.2
theorem DT {w:World} {I:Nat→Prop} {ι:fF} {H:aE} {id b:Nat} {ob:Ob} {κ:KeyKind α} {l:List (α×AV)} (h:jA w I ι H id ob) (hz:ob.sz=0) (hι:ι id=some (b,0)) (hrows:ob.rows=k6 κ l) :
  ∃ es,w.heap[b]?=some (.map es ob.ty)∧¬ I b∧MapAt w I ι H κ l es:=by
 obtain ⟨_,b',es,e1,e2,e3,e4,e5,e6,e7⟩:=h.map hz hι;rw [hι] at e1;cases e1;refine⟨es,e2,e3,⟨by rw [e4,hrows,B4],fun i p hp=>?_⟩⟩;obtain ⟨e,k,a,n,q1,q2,q3,q4,q5⟩:=e7 i _ (by rw [hrows];exact rK.2 ⟨p,hp,rfl⟩);cases q2;exact⟨e,q1,by injection q5.int_inv with _ hh;omega,κ.rel _ _ _ _ q3.pv_inv,q4⟩
theorem MapAt.born {w:World} {I:Nat→Prop} {ι:fF} {H:aE} {κ:KeyKind α} {l:List (α×AV)} {es:Array MapEntry} (h:MapAt w I ι H κ l es) {i:Nat} {e:MapEntry} (hi:es[i]?=some e):e.born=i∧i < l.length:=by
 have hlt:i < l.length:=by rw [← h.size];exact(Array.getElem?_eq_some_iff.1 hi).1
 obtain ⟨e',q1,q2,_⟩:=h.rel i l[i] (aIw hlt);rw [hi] at q1;cases q1;exact⟨q2,hlt⟩
section
variable {I:Nat→Prop} {ι:fF} {H H':aE} {w:World} {id b cap:Nat} {ob ob':Ob}
def World.setObj (w:World) (b:Nat) (x:Obj):World:={w with heap:=w.heap.setIfInBounds b x}
def NM:Obj→Bool
 | .cells ..=>true
 | _=>false
theorem Rel.rewrite {x0 x:Obj} (hr:Rel I ι H w) (hH:H.get id=some ob) (hι:ι id=some (b,cap)) (hz:ob.sz=0) (hb:w.heap[b]?=some x0) (h0:NM x0=false) (hx:NM x=false) (hg:ob'.g=ob.g) (hz':ob'.sz=0)
  (hnew:w.heap.size=(World.setObj w b x).heap.size→(World.setObj w b x).heap[b]?=some x→¬ I b→(∀ v a,VRel w I ι H v a→VRel (World.setObj w b x) I ι H' v a)→jA (World.setObj w b x) I ι H' id ob')
  (h1:H'.get id=some ob') (h2:∀ j,j≠id→H'.get j=H.get j):Rel I ι H' (World.setObj w b x)∧Step I ι H w I ι H' (World.setObj w b x):=by
 have hown:FP ι H b:=⟨id,ob,cap,hH,hι⟩;obtain ⟨hs1,hs2⟩:=MapKept.heap_set (w:=w) (o':=x) hb;have hst:Step I ι H w I ι H' (World.setObj w b x):=by
  refine⟨rfl,rfl,rfl,by simp [World.setObj],fun a _ _=>?_,fun _ h=>h,fun _ h=>.inl h,?_,?_,?_⟩
  ·by_cases e:a.block=b
   ·simp only [World.frozen?,World.setObj,e,hs1,hb];cases x<;>cases x0<;>first|rfl|(simp [NM] at hx h0)
   simp [World.frozen?,World.setObj,hs2 _ e]
  ·rintro y ⟨j,o,c,hj,hc⟩;by_cases e:j=id
   ·subst e;exact .inl ⟨j,ob,c,hH,hc⟩
   exact .inl ⟨j,o,c,(h2 j e).symm.trans hj,hc⟩
  ·intro y _ hy;exact hs2 y (fun e=>hy (e▸hown))
  intro j o hj;by_cases e:j=id
  ·subst e;rw [hH] at hj;cases hj;exact⟨ob',h1,by omega,fun _=>⟨rfl,by omega,fun h=>by omega⟩⟩
  exact⟨o,(h2 j e).trans hj,aIx _,fun _=>⟨rfl,rfl,fun _=>aIx _⟩⟩
 refine⟨⟨fun y hy=>by simpa [World.setObj] using hr.imm y hy,?_,?_,hst.glob hr⟩,hst⟩
 ·intro j o hj;by_cases e:j=id
  ·subst e;rw [h1] at hj;cases hj;exact hnew (by simp [World.setObj]) hs1 ((hr.obj j ob hH).block hι).2 (fun v a hv=>hv.mono hr hst)
  rw [h2 j e] at hj;exact(hr.obj j o hj).keep rfl (fun y c hy _=>⟨hs2 y (fun hbb=>e (hr.inj j id o ob b c cap hj hH (hbb▸hy) hι)),fun h=>h⟩) (fun r _ a _ v hv=>hv.mono hr hst)
 intro j j' o o' y c c' hj hj' hc hc';have key:∀ j o,H'.get j=some o→∃ o,H.get j=some o:=by
  intro j o hj;by_cases e:j=id
  ·exact⟨ob,e▸hH⟩
  exact⟨o,(h2 j e).symm.trans hj⟩
 obtain ⟨q,hq⟩:=key j o hj;obtain ⟨q',hq'⟩:=key j' o' hj';exact hr.inj j j' q q' y c c' hq hq' hc hc'
theorem Rel.remap {κ:KeyKind α} {l:List (α×AV)} {es0 es':Array MapEntry} {c0:Nat} (hr:Rel I ι H w) (hH:H.get id=some ob) (hι:ι id=some (b,0)) (hz:ob.sz=0) (hb:w.heap[b]?=some (.map es0 c0)) (hg:ob'.g=ob.g) (hz':ob'.sz=0) (hty:ob'.ty=l.length) (hrows:ob'.rows=k6 κ l)
  (hm:MapAt w I ι H κ l es') (h1:H'.get id=some ob') (h2:∀ j,j≠id→H'.get j=H.get j):Rel I ι H' (World.setObj w b (.map es' l.length))∧Step I ι H w I ι H' (World.setObj w b (.map es' l.length)):=by
 refine hr.rewrite hH hι hz hb rfl rfl hg hz' (fun _ hs1 hI hmono=>?_) h1 h2;refine .inr (.inl ⟨hz',b,es',hι,by rw [hty];exact hs1,hI,by rw [hm.size,hrows,B4],fun i e hi=>?_,fun i j e e' hij hi hj=>?_,fun i r hr'=>?_⟩)
 ·obtain ⟨q1,q2⟩:=hm.born hi;rw [q1,hty];exact q2
 ·have q1:=(hm.born hi).1;have q2:=(hm.born hj).1;omega
 rw [hrows] at hr';obtain ⟨p,hp,rfl⟩:=rK.1 hr';obtain ⟨e,q1,q2,q3,q4⟩:=hm.rel i p hp;exact⟨e,_,_,_,q1,rfl,by rw [q3];exact .pv (κ.rep _ _ p.1),hmono _ _ q4,by rw [q2];exact .pv (.int _ _)⟩
end
theorem HU {w:World} {I:Nat→Prop} {ι:fF} {H:aE} {v:Value} {id g:Nat} {ob:Ob} (h:VRel w I ι H v (.mp id g)) (hH:H.get id=some ob) (hg:ob.g=g):ob.sz=0∧∃ b,ι id=some (b,0)∧v=.map (some b):=by
 cases h with
 | mp o' h1 h2 _ h3 =>
  rw [hH] at h1;cases h1;exact h3 hg
variable [DecidableEq α]
def nO:List (α×AV)→α→Option AV
 | [],_=>none
 | (k',a)::r,k=>if k'=k then some a else nO r k
def oH:List (α×AV)→α→AV→List (α×AV)
 | [],k,v=>[(k,v)]
 | (k',a)::r,k,v=>if k'=k then(k,v)::r else(k',a)::oH r k v
def aDY:List (α×AV)→α→List (α×AV)
 | [],_=>[]
 | (k',a)::r,k=>if k'=k then r else(k',a)::aDY r k
theorem GE {w:World} {I:Nat→Prop} {ι:fF} {H:aE} (κ:KeyKind α) (k:α):∀ (l:List (α×AV)) (es:List MapEntry) (i:Nat),es.length=l.length→(∀ (i:Nat) (p:α×AV),l[i]?=some p→∃ e,es[i]?=some e∧e.key=κ.val p.1∧VRel w I ι H e.val p.2) →
  (Instr.findNow κ.d (κ.val k) es i=some none∧nO l k=none∧∀ v,oH l k v=l++[(k,v)]) ∨
  ∃ j e a,Instr.findNow κ.d (κ.val k) es i=some (some (i+j,e.val))∧es[j]?=some e∧e.key=κ.val k∧nO l k=some a∧VRel w I ι H e.val a∧l[j]?=some (k,a)∧(∀ v,oH l k v=l.set j (k,v))∧aDY l k=l.eraseIdx j
 | [],[],i,_,_=>.inl ⟨rfl,rfl,fun _=>rfl⟩
 | (k',a)::l,e::es,i,hl,hr=>by
  obtain ⟨e0,z1,z2,z3⟩:=hr 0 (k',a) rfl;cases z1;obtain ⟨r,hr1,hiff⟩:=MapKept.sameNow_of_keys (κ.is k) (show MapKept.IsKey κ.d e.key by rw [z2];exact κ.is k');by_cases hk:k'=k
  ·subst hk;have hrt:r=true:=hiff.2 z2.symm;subst hrt;exact .inr ⟨0,e,a,by simp [Instr.findNow,hr1],rfl,z2,by simp [nO],z3,rfl,fun v=>by simp [oH],by simp [aDY]⟩
  have hrf:r=false:=by
   cases r with
   | false=>rfl
   | true=>exact absurd (κ.inj _ _ ((hiff.1 rfl).trans z2)).symm hk
  subst hrf;rcases GE κ k l es (i+1) (by simpa using hl) (fun i p hp=>hr (i+1) p hp)with⟨h1,h2,h3⟩|⟨j,e',a',h1,h2,h3,h4,h5,h6,h7,h8⟩
  ·exact .inl ⟨by simp [Instr.findNow,hr1,h1],by simp [nO,hk,h2],fun v=>by simp [oH,hk,h3]⟩
  exact .inr ⟨j+1,e',a',by simp [Instr.findNow,hr1,h1];omega,by simpa using h2,h3,by simp [nO,hk,h4],h5,by simpa using h6,fun v=>by simp [oH,hk,h7],by simp [aDY,hk,h8]⟩
section
variable {P:Program} {N:Nat} {o:Oper} {E:dG} {H:aE} {T kt et:TypeId} {x y z:Operand} {κ:KeyKind α} {l:List (α×AV)} {id g:Nat} {ob:Ob} {k:α}
theorem rV {zv:Value} {v0:AV} (ho:o.op=.lookup T x y false) (hT:P.underlying T=some (.map kt et)) (hd:P.underlying kt=some κ.d) (hx:aW E x=some (.mp id g)) (hH:H.get id=some ob) (hg:ob.g=g)
  (hrows:ob.rows=k6 κ l) (hy:aW E y=some (.pv (κ.pv k))) (hz:∀ w,(zeroValue et).run P w=.ok zv w) (hv:ZV zv v0):dQ P N o E H ((nO l k).getD v0) H :=
 .of_run fun a w I ι hr he=>by
  obtain ⟨hsz,b,hι,hvx⟩:=HU (aM he hx) hH hg;obtain ⟨es,e2,e3,e4⟩:=DT (hr.obj id ob hH) hsz hι hrows;have hvy:=MU (aM he hy);rcases GE κ k l es.toList 0 (by simpa using e4.size) (fun i p hp=>let ⟨e,q1,_,q3⟩:=e4.rel i p hp;⟨e,by simpa using q1,q3⟩)with⟨h1,h2,h3⟩|⟨j,e,a',h1,h2,h3,h4,h5,_⟩
  ·refine⟨zv,?_,by rw [h2];exact hv.rel⟩;simp only [execOp,ho,hvx,hvy];simp [Instr.lookup,run_underlying hT,MapKept.run_getObj_map e2,MapKept.run_checkKey hd (κ.is k),MapKept.run_findKey hd h1,hz]
  refine⟨e.val,?_,by rw [h4];exact h5⟩;simp only [execOp,ho,hvx,hvy];simp [Instr.lookup,run_underlying hT,MapKept.run_getObj_map e2,MapKept.run_checkKey hd (κ.is k),MapKept.run_findKey hd h1]
theorem gW {zv:Value} {v0:AV} (ho:o.op=.lookup T x y true) (hT:P.underlying T=some (.map kt et)) (hd:P.underlying kt=some κ.d) (hx:aW E x=some (.mp id g)) (hH:H.get id=some ob) (hg:ob.g=g)
  (hrows:ob.rows=k6 κ l) (hy:aW E y=some (.pv (κ.pv k))) (hz:∀ w,(zeroValue et).run P w=.ok zv w) (hv:ZV zv v0):dQ P N o E H (.tup [(nO l k).getD v0,.pv (.bool (nO l k).isSome)]) H :=
 .of_run fun a w I ι hr he=>by
  obtain ⟨hsz,b,hι,hvx⟩:=HU (aM he hx) hH hg;obtain ⟨es,e2,e3,e4⟩:=DT (hr.obj id ob hH) hsz hι hrows;have hvy:=MU (aM he hy);have two:∀ {u:Value} {a:AV} {c:Bool},VRel w I ι H u a→VRel w I ι H (.tuple #[u,.bool c]) (.tup [a,.pv (.bool c)]):=fun {u a c} hu=>.tup rfl (fun i v q hv hq=>by
   match i with
   | 0=>simp at hv hq;subst hv hq;exact hu
   | 1=>simp at hv hq;subst hv hq;exact .pv (.bool _)
   | i+2=>simp at hv)
  rcases GE κ k l es.toList 0 (by simpa using e4.size) (fun i p hp=>let ⟨e,q1,_,q3⟩:=e4.rel i p hp;⟨e,by simpa using q1,q3⟩)with⟨h1,h2,h3⟩|⟨j,e,a',h1,h2,h3,h4,h5,_⟩
  ·refine⟨.tuple #[zv,.bool false],?_,by rw [h2];exact two hv.rel⟩;simp only [execOp,ho,hvx,hvy];simp [Instr.lookup,run_underlying hT,MapKept.run_getObj_map e2,MapKept.run_checkKey hd (κ.is k),MapKept.run_findKey hd h1,hz]
  refine⟨.tuple #[e.val,.bool true],?_,by rw [h4];exact two h5⟩;simp only [execOp,ho,hvx,hvy];simp [Instr.lookup,run_underlying hT,MapKept.run_getObj_map e2,MapKept.run_checkKey hd (κ.is k),MapKept.run_findKey hd h1]
theorem JS {v:AV} {H2:aE} (ho:o.op=.mapUpdate T x y z∨o.op=.insert T x y z) (hT:P.underlying T=some (.map kt et)) (hd:P.underlying kt=some κ.d) (hx:aW E x=some (.mp id g)) (hH:H.get id=some ob) (hg:ob.g=g)
  (hty:ob.ty=l.length) (hrows:ob.rows=k6 κ l) (hy:aW E y=some (.pv (κ.pv k))) (hz:aW E z=some v) (hH2:H.set id {ob with ty:=(oH l k v).length,rows:=k6 κ (oH l k v)}=H2):dQ P N o E H .any H2:=by
 intro a w I ι _ _ hr he K Q hkk;obtain ⟨hsz,b,hι,hvx⟩:=HU (aM he hx) hH hg;obtain ⟨es,e2,e3,e4⟩:=DT (hr.obj id ob hH) hsz hι hrows;rw [hty] at e2;have hvy:=MU (aM he hy);have hvz:=aM he hz;subst hH2;have fin:∀ es',(Instr.mapUpdate T (a.eval x) (a.eval y) (a.eval z)).run P w=.ok () (World.setObj w b (.map es' (oH l k v).length))→MapAt w I ι H κ (oH l k v) es'→o.wpW P a w K Q:=by
  intro es' hrun hm;obtain ⟨k2,k3⟩:=Rel.remap (H':=H.set id {ob with ty:=(oH l k v).length,rows:=k6 κ (oH l k v)}) (ob':={ob with ty:=(oH l k v).length,rows:=k6 κ (oH l k v)}) hr hH hι hsz e2 rfl hsz rfl rfl hm (aE.get_set_same _ _ _) (fun j hj=>aE.get_set_other _ _ hj);unfold Oper.wpW execOp;rcases ho with ho|ho
  ·simp only [ho,Sem.run_bind,hrun,Result.andThen_ok,Sem.run_pure];exact hkk _ _ I ι _ _ ⟨rfl,rfl⟩ (.any _) k2 k3
  simp only [ho,Sem.run_bind,hrun,Result.andThen_ok,Sem.run_pure];exact hkk _ _ I ι _ _ ⟨rfl,rfl⟩ (.any _) k2 k3
 rcases GE κ k l es.toList 0 (by simpa using e4.size) (fun i p hp=>let ⟨e,q1,_,q3⟩:=e4.rel i p hp;⟨e,by simpa using q1,q3⟩)with⟨h1,h2,h3⟩|⟨j,e,a',h1,h2,h3,h4,h5,h6,h7,h8⟩
 ·refine fin (es.push {key:=κ.val k,val:=a.eval z,born:=l.length}) ?_ ⟨?_,?_⟩
  ·simp [Instr.mapUpdate,hvx,hvy,run_underlying hT,MapKept.run_getObj_map e2,MapKept.run_checkKey hd (κ.is k),MapKept.run_findKey hd h1,MapKept.run_setObj_map _ e2,World.setObj,h3]
  ·rw [h3];simp [e4.size]
  intro i p hp;rw [h3] at hp;by_cases hi:i < l.length
  ·rw [List.getElem?_append_left hi] at hp;obtain ⟨e,q1,q2⟩:=e4.rel i p hp;exact⟨e,by rw [Array.getElem?_push,aIp (by rw [e4.size];omega)];exact q1,q2⟩
  rw [List.getElem?_append_right (by omega)] at hp;cases hil:i - l.length with
  | zero =>
   rw [hil] at hp;cases hp;exact⟨_,by rw [Array.getElem?_push,aIq (by rw [e4.size];omega)],by show l.length=i;omega,rfl,hvz⟩
  | succ m=>rw [hil] at hp;simp at hp
 have hj:es[j]?=some e:=by simpa using h2
 have hjl:j < es.size:=(Array.getElem?_eq_some_iff.1 hj).1;have hln:(oH l k v).length=l.length:=by rw [h7];simp
 refine fin (es.modify j fun e=>{e with key:=κ.val k,val:=a.eval z}) ?_ ⟨?_,?_⟩
 ·simp [Instr.mapUpdate,hvx,hvy,run_underlying hT,MapKept.run_getObj_map e2,MapKept.run_checkKey hd (κ.is k),MapKept.run_findKey hd h1,hj,h3,MapKept.run_keyThatStays (κ.is k),MapKept.run_setObj_map _ e2,World.setObj,hln]
 ·rw [h7];simp [e4.size]
 intro i p hp;rw [h7] at hp;by_cases e:i=j
 ·subst e;rw [List.getElem?_set_self (by rw [← e4.size];exact hjl)] at hp;cases hp;exact⟨{e with key:=κ.val k,val:=a.eval z},by rw [Array.getElem?_modify,aIq rfl,hj];rfl,(e4.born hj).1,rfl,hvz⟩
 rw [List.getElem?_set_ne (Ne.symm e)] at hp;obtain ⟨e',q1,q2⟩:=e4.rel i p hp;exact⟨e',by rw [Array.getElem?_modify,aIp (Ne.symm e)];exact q1,q2⟩
theorem Rel.placeX {I:Nat→Prop} {ι:fF} {H H':aE} {w w':World} {id cap:Nat} {ob':Ob} {x:Obj} (hr:Rel I ι H w) (hos:w'.os=w.os) (htape:w'.tape=w.tape) (hout:w'.output=w.output) (hw:w'.heap=w.heap.push x)
  (hold:∀ o,H.get id=some o→o.g < ob'.g)
  (hobj:w'.heap[w.heap.size]?=some x→¬ I w.heap.size→(∀ v a,VRel w I ι H v a→VRel w' I (fun j=>if j=id then some (w.heap.size,cap)else ι j) H' v a)→jA w' I (fun j=>if j=id then some (w.heap.size,cap)else ι j) H' id ob')
  (h1:H'.get id=some ob') (h2:∀ j,j≠id→H'.get j=H.get j) :
  Rel I (fun j=>if j=id then some (w.heap.size,cap)else ι j) H' w'∧Step I ι H w I (fun j=>if j=id then some (w.heap.size,cap)else ι j) H' w':=by
 have hnew:w'.heap[w.heap.size]?=some x:=by rw [hw];simp
 have holdb:∀ x,x < w.heap.size→w'.heap[x]?=w.heap[x]?:=fun x hx=>by rw [hw,Array.getElem?_push,aIp (Nat.ne_of_lt hx)]
 have hsize:w'.heap.size=w.heap.size+1:=by rw [hw];simp
 have hst:Step I ι H w I (fun j=>if j=id then some (w.heap.size,cap)else ι j) H' w':=by
  refine⟨hos,htape,hout,by omega,fun a ha _=>?_,fun _ h=>h,fun _ h=>.inl h,?_,fun x hx _=>holdb x hx,?_⟩
  ·simp [World.frozen?,holdb a.block ha]
  ·rintro x ⟨j,o,c,hj,hc⟩;by_cases e:j=id
   ·simp only [e,if_true] at hc;cases hc;exact .inr (aIx _)
   simp only [e,if_false] at hc;exact .inl ⟨j,o,c,(h2 j e).symm.trans hj,hc⟩
  intro j o hj;by_cases e:j=id
  ·subst e;have:=hold o hj;exact⟨ob',h1,by omega,fun e=>by omega⟩
  exact⟨o,(h2 j e).trans hj,aIx _,fun _=>⟨by simp [e],rfl,fun _=>aIx _⟩⟩
 refine⟨⟨fun x hx=>by have:=hr.imm x hx;omega,?_,?_,hst.glob hr⟩,hst⟩
 ·intro j o hj;by_cases e:j=id
  ·subst e;rw [h1] at hj;cases hj;exact hobj hnew (fun hi=>Nat.lt_irrefl _ (hr.imm _ hi)) (fun v a hv=>hv.mono hr hst)
  rw [h2 j e] at hj;exact(hr.obj j o hj).keep (by simp [e]) (fun x c _ hx=>⟨holdb x hx,fun h=>h⟩) (fun r _ a _ v hv=>hv.mono hr hst)
 intro j j' o o' x c c' hj hj' hc hc';by_cases e:j=id<;>by_cases e':j'=id
 ·rw [e,e']
 ·simp only [e,if_true] at hc;simp only [e',if_false] at hc';cases hc;have:=hr.lt ⟨j',o',c',(h2 j' e').symm.trans hj',hc'⟩;exact absurd this (Nat.lt_irrefl _)
 ·simp only [e,if_false] at hc;simp only [e',if_true] at hc';cases hc';have:=hr.lt ⟨j,o,c,(h2 j e).symm.trans hj,hc⟩;exact absurd this (Nat.lt_irrefl _)
 simp only [e,if_false] at hc;simp only [e',if_false] at hc';exact hr.inj j j' o o' x c c' ((h2 j e).symm.trans hj) ((h2 j' e').symm.trans hj') hc hc'
theorem Rel.placeM {I:Nat→Prop} {ι:fF} {H H':aE} {w w':World} {id:Nat} {ob':Ob} (hr:Rel I ι H w) (hos:w'.os=w.os) (htape:w'.tape=w.tape) (hout:w'.output=w.output) (hw:w'.heap=w.heap.push (.map #[] 0))
  (hold:∀ o,H.get id=some o→o.g < ob'.g) (hsz:ob'.sz=0) (hty:ob'.ty=0) (hrows:ob'.rows=[]) (h1:H'.get id=some ob') (h2:∀ j,j≠id→H'.get j=H.get j) :
  Rel I (fun j=>if j=id then some (w.heap.size,0)else ι j) H' w'∧Step I ι H w I (fun j=>if j=id then some (w.heap.size,0)else ι j) H' w' :=
 hr.placeX hos htape hout hw hold (fun hnew hI _=>.inr (.inl ⟨hsz,w.heap.size,#[],by simp,by rw [hty];exact hnew,hI,by rw [hrows];rfl,by simp,by simp,by rw [hrows];simp⟩)) h1 h2
theorem aD8 {I:Nat→Prop} {ι:fF} {w:World} {id gg:Nat} (hr:Rel I ι H w) (hid:∀ o,H.get id=some o→o.g < gg) :
  ∃ ι',VRel (w.alloc (.map #[] 0)) I ι' ((id,⟨gg,0,0,[]⟩)::H) (.map (some w.heap.size)) (.mp id gg)∧Rel I ι' ((id,⟨gg,0,0,[]⟩)::H) (w.alloc (.map #[] 0))∧Step I ι H w I ι' ((id,⟨gg,0,0,[]⟩)::H) (w.alloc (.map #[] 0)):=by
 obtain ⟨h1,h2⟩:=Rel.placeM (H':=(id,⟨gg,0,0,[]⟩)::H) (id:=id) (ob':=⟨gg,0,0,[]⟩) (w':=w.alloc (.map #[] 0)) hr rfl rfl rfl rfl hid rfl rfl rfl (get_cons_same _ _ _) (fun j hj=>get_cons_other _ _ hj);exact⟨_,.mp ⟨gg,0,0,[]⟩ (get_cons_same _ _ _) (aIx _) rfl fun _=>⟨rfl,w.heap.size,by simp,rfl⟩,h1,h2⟩
theorem iT {α:Type} (κ:KeyKind α) (ho:o.op=.makeMap T none) (hid:H.get id=none):dQ P N o E H (.mp id 0) ((id,⟨0,0,([]:List (α×AV)).length,k6 κ []⟩)::H):=by intro a w I ι _ _ hr he K Q hk;obtain ⟨ι',h1,h2,h3⟩:=aD8 (id:=id) (gg:=0) hr (fun o ho=>by rw [hid] at ho;cases ho);unfold Oper.wpW execOp;simp only [ho,Instr.makeMap,Option.map_none,Sem.run_bind,run_newObj,Sem.run_pure,Result.andThen_ok];exact hk _ _ I ι' _ _ ⟨rfl,rfl⟩ h1 h2 h3
theorem fY {v:AV} {l':List (α×AV)} (ho:o.op=.mapUpdate T x y z∨o.op=.insert T x y z) (hT:P.underlying T=some (.map kt et)) (hd:P.underlying kt=some κ.d) (hx:aW E x=some (.mp id g)) (hH:H.get id=some ob) (hg:ob.g=g)
  (hty:ob.ty=l.length) (hrows:ob.rows=k6 κ l) (hy:aW E y=some (.pv (κ.pv k))) (hz:aW E z=some v) (hr:oH l k v=l'):dQ P N o E H .any ((id,⟨g,ob.sz,l'.length,k6 κ l'⟩)::H):=by
 subst hg hr;exact(JS ho hT hd hx hH rfl hty hrows hy hz rfl).congr (nY _ _ _)
end
end
end
section
def nL (m:AV) (since last:Nat) (seen:List Nat):List (List AV):=[m,.pv (.int .i64 since),.pv (.int .i64 last)]::seen.map fun(n:Nat)=>[.pv (.int .i64 n)]
theorem aBF {w:World} {I:Nat→Prop} {ι:fF} {H:aE} {v:Value} {id g:Nat} {ob:Ob} (h:VRel w I ι H v (.it id g)) (hH:H.get id=some ob) (hg:ob.g=g):ob.sz=0∧∃ b,ι id=some (b,1)∧v=.pointer (some ⟨b,0,none⟩):=by
 cases h with
 | it o' h1 h2 _ h3 =>
  rw [hH] at h1;cases h1;exact h3 hg
theorem UY {w:World} {I:Nat→Prop} {ι:fF} {H:aE} {q b mid mg since last:Nat} {oq om:Ob} {seen:List Nat} (h:jA w I ι H q oq) (hz:oq.sz=0) (hι:ι q=some (b,1)) (hrows:oq.rows=nL (.mp mid mg) since last seen) (hM:H.get mid=some om) (hmg:om.g=mg) :
  ∃ bm,ι mid=some (bm,0)∧om.sz=0∧w.heap[b]?=some (.mapIter (some bm) since seen.toArray last)∧¬ I b:=by
 obtain ⟨_,b',bm,since',seen',last',e1,e2,e3,e4,⟨m,n,k,z1,z2,z3,z4⟩,e6⟩:=h.iter hz hι;rw [hι] at e1;cases e1;rw [hrows] at z1;simp only [nL,List.getElem?_cons_zero,Option.some.injEq,List.cons.injEq,and_true] at z1;obtain ⟨rfl,rfl,rfl⟩:=z1;obtain ⟨q1,bm',q2,q3⟩:=HU z2 hM hmg;cases q3;injection z3.int_inv with _ h1;injection z4.int_inv with _ h2;have h1':since'=since:=by omega
 have h2':last'=last:=by omega
 subst h1' h2';refine⟨bm',q2,q1,?_,e3⟩;have hs:seen'=seen.toArray:=by
  have hl:seen'.size=seen.length:=by rw [hrows] at e4;simpa [nL] using e4.symm
  apply Array.ext
  ·simpa using hl
  intro i hi1 hi2;obtain ⟨x,n,y1,y2,y3⟩:=e6 i [.pv (.int .i64 (seen[i]'(by simpa using hi2)))] (by rw [hrows];show (seen.map _)[i]?=_;rw [aJL,aIw (by simpa using hi2)];rfl);cases y2;injection y3.int_inv with _ h3;rw [Array.getElem?_eq_getElem hi1] at y1;cases y1;simp only [List.getElem_toArray];omega
 rw [← hs];exact e2
section
variable {α:Type}
theorem Z8 {P:Program} (w:World) (ty:TypeId) (r bm since c0:Nat) (seen:Array Nat) (es:Array MapEntry) (clock:Nat) (hr:w.heap[r]?=some (.mapIter (some bm) since seen c0)) (hb:w.heap[bm]?=some (.map es clock)) (hold:∀ x∈es.toList,x.born < since) (hsc:since≤c0) :
  ((leftOf es seen).size=0∧(Instr.next (.pointer (some ⟨r,0,none⟩)) false ty).run P w=.ok (.tuple #[.bool false]) w) ∨
  ∃ e∈(leftOf es seen).toList,∃ d:Nat,(Instr.next (.pointer (some ⟨r,0,none⟩)) false ty).run P w=.ok (.tuple #[.bool true,e.key,e.val]) (World.setObj {w with drawn:=d} r (.mapIter (some bm) since (seen.push e.born) clock)):=by
 simp only [Instr.next,getObj,Sem.run_bind,Sem.run,hr,hb,Result.andThen,next_test_false seen es since c0 hold hsc,Bool.false_eq_true,if_false];unfold leftOf;have hmem:∀ x∈(Array.filter (fun e=>!seen.contains e.born) es).toList,x.born < since:=fun x hx=>hold x (by simp at hx ⊢;exact hx.1);generalize Array.filter (fun e=>!seen.contains e.born) es=L at hmem ⊢;have e1:L.filter (fun x=>decide (x.born < since))=L:=Array.filter_eq_self.2 (fun x hx=>by simpa using hmem x (by simpa using hx));have e2:L.filter (fun x=>decide (x.born≥since))=#[]:=by
  rw [Array.filter_eq_empty_iff];intro x hx;have:=hmem x (by simpa using hx);simp;omega
 simp only [e1,e2,Array.append_empty];by_cases h0:L.size=0
 ·left;have:L=#[]:=Array.eq_empty_of_size_eq_zero h0;subst this;refine⟨rfl,?_⟩;simp [choose,Sem.run,Question.forced]
 right;have hne:L.isEmpty=false:=by simp [Array.isEmpty,h0]
 simp only [hne,Bool.false_eq_true,if_false,Array.empty_append,Array.size_map];have hch:∃ (j d:Nat),j < L.size∧(choose (Question.mapNext L.size)).run P w=.ok j {w with drawn:=d}:=by
  by_cases hf:L.size≤1
  ·exact⟨0,w.drawn,by omega,by simp [choose,Sem.run,Question.forced,hf]⟩
  exact⟨_,w.drawn+1,Nat.mod_lt _ (by omega),by
   simp only [choose,Sem.run,Question.forced,aIy,hf,if_false,Question.cut];rfl⟩
 obtain ⟨j,d,hj,hrun⟩:=hch;refine⟨L[j],by simp,d,?_⟩;have hset:∀ (o':Obj),(setObj r o').run P {w with drawn:=d}=.ok () (World.setObj {w with drawn:=d} r o'):=fun o'=>by
  simp [setObj,Sem.run,hr,World.setObj]
 simp only [hrun,Array.getElem?_map,Array.getElem?_eq_getElem hj,Option.map_some,Sem.run_bind,hset,Result.andThen];rfl
theorem aD7 {w:World} {I:Nat→Prop} {ι:fF} {H:aE} {κ:KeyKind α} {l:List (α×AV)} {es:Array MapEntry} {seen:List Nat} (h:MapAt w I ι H κ l es) :
  ((leftOf es seen.toArray).size=0→∀ i,i < l.length→i∈seen)∧∀ e∈(leftOf es seen.toArray).toList,∃ (i:Nat) (p:α×AV),l[i]?=some p∧i∉seen∧e.born=i∧e.key=κ.val p.1∧VRel w I ι H e.val p.2:=by
 constructor
 ·intro h0 i hi;obtain ⟨e,q1,q2,_⟩:=h.rel i l[i] (aIw hi);have h1:leftOf es seen.toArray=#[]:=Array.eq_empty_of_size_eq_zero h0;rw [leftOf,Array.filter_eq_empty_iff] at h1;have:=h1 e (Array.mem_of_getElem? q1);simp only [aJK,Bool.not_eq_false,List.contains_toArray,List.contains_eq_mem,aIy] at this;rw [← q2];simpa using this
 intro e he;simp only [leftOf,Array.toList_filter,List.mem_filter,aJK,List.contains_toArray,List.contains_eq_mem,aIz] at he;obtain ⟨h1,h2⟩:=he;obtain ⟨i,hi⟩:=aJM.1 h1;have hi':es[i]?=some e:=by simpa using hi
 obtain ⟨q1,q2⟩:=h.born hi';obtain ⟨e',z1,z2,z3⟩:=h.rel i l[i] (aIw q2);rw [hi'] at z1;cases z1;exact⟨i,l[i],aIw q2,by rw [← q1];exact h2,q1,z3⟩
section
variable {P:Program} {N:Nat} {o:Oper} {E:dG} {H:aE} {T kt et:TypeId} {x y z:Operand} {κ:KeyKind α} {l:List (α×AV)} {id g q gq since last:Nat} {ob oq:Ob} {seen:List Nat}
theorem WN (ho:o.op=.range T x) (hT:P.underlying T=some (.map kt et)) (hx:aW E x=some (.mp id g)) (hH:H.get id=some ob) (hg:ob.g=g) (hrows:ob.rows=k6 κ l) (hty:ob.ty=l.length) (hq:H.get q=none) :
  dQ P N o E H (.it q 0) ((q,⟨0,0,0,nL (.mp id g) l.length l.length []⟩)::H):=by
 intro a w I ι _ _ hr he K Q hk;have hvx0:=aM he hx;obtain ⟨hsz,b,hι,hvx⟩:=HU hvx0 hH hg;obtain ⟨es,e2,e3,e4⟩:=DT (hr.obj id ob hH) hsz hι hrows;rw [hty] at e2;obtain ⟨k2,k3⟩:=Rel.placeX (H':=(q,⟨0,0,0,nL (.mp id g) l.length l.length []⟩)::H) (id:=q) (cap:=1) (ob':=⟨0,0,0,nL (.mp id g) l.length l.length []⟩) (x:=.mapIter (some b) l.length #[] l.length) (w':=w.alloc (.mapIter (some b) l.length #[] l.length)) hr rfl rfl rfl rfl
  (fun o ho=>by rw [hq] at ho;cases ho) (fun hnew hI hmono=>.inr (.inr (.inl ⟨rfl,w.heap.size,some b,l.length,#[],l.length,by simp,hnew,hI,rfl,⟨_,_,_,rfl,by rw [← hvx];exact hmono _ _ hvx0,.pv (.int _ _),.pv (.int _ _)⟩,fun i r hr'=>by simp [nL] at hr'⟩)))
  (get_cons_same _ _ _) (fun j hj=>get_cons_other _ _ hj)
 have hrun:(execOp a.eval o).run P w=.ok (.value (.pointer (some ⟨w.heap.size,0,none⟩))) (w.alloc (.mapIter (some b) l.length #[] l.length)):=by
  simp only [execOp,ho,hvx];simp [Instr.range,run_underlying hT,MapKept.run_getObj_map e2]
 unfold Oper.wpW;rw [hrun];exact hk _ _ I _ _ _ ⟨rfl,rfl⟩ (.it ⟨0,0,0,nL (.mp id g) l.length l.length []⟩ (get_cons_same _ _ _) (aIx _) rfl fun _=>⟨rfl,w.heap.size,by simp,rfl⟩) k2 k3
theorem aAV (ho:o.op=.next x false) (hx:aW E x=some (.it q gq)) (hQ:H.get q=some oq) (hgq:oq.g=gq) (hrq:oq.rows=nL (.mp id g) since last seen) (hH:H.get id=some ob) (hg:ob.g=g) (hrows:ob.rows=k6 κ l) (hty:ob.ty=l.length)
  (hold:l.length≤since) (hlast:since≤last) :
  OpR P N o E H (fun r H'=>(r=.tup [.pv (.bool false)]∧H'=H∧∀ i,i < l.length→i∈seen)∨∃ (i:Nat) (p:α×AV),l[i]?=some p∧i∉seen∧r=.tup [.pv (.bool true),.pv (κ.pv p.1),p.2]∧H'=(q,⟨gq,0,oq.ty,nL (.mp id g) since l.length (seen++[i])⟩)::H):=by
 intro a w I ι _ _ hr he K Q hk;obtain ⟨hsz,b,hι,hvx⟩:=aBF (aM he hx) hQ hgq;obtain ⟨bm,hιm,hmz,hbq,hI⟩:=UY (hr.obj q oq hQ) hsz hι hrq hH hg;obtain ⟨es,e2,e3,e4⟩:=DT (hr.obj id ob hH) hmz hιm hrows;rw [hty] at e2;have hold':∀ x∈es.toList,x.born < since:=fun x hx=>by
  obtain ⟨i,hi⟩:=aJM.1 hx;obtain ⟨q1,q2⟩:=e4.born (i:=i) (e:=x) (by simpa using hi);omega
 obtain ⟨l1,l2⟩:=aD7 (seen:=seen) e4;rcases Z8 (P:=P) w o.type b bm since last seen.toArray es l.length hbq e2 hold' hlast with⟨h0,hrun⟩|⟨e,he',d,hrun⟩
 ·unfold Oper.wpW execOp;simp only [ho,hvx,Sem.run_bind,hrun,Result.andThen_ok,Sem.run_pure];refine hk _ _ I ι _ _ (.inl ⟨rfl,rfl,l1 h0⟩) (.tup rfl (fun i v c hv hc=>?_)) hr (Step.refl _ _ _ _)
  match i with
  | 0=>simp at hv hc;subst hv hc;exact .pv (.bool _)
  | i+1=>simp at hv
 obtain ⟨i,p,hip,hni,hbn,hkey,hval⟩:=l2 e he';obtain ⟨r1,r2⟩:=hr.drawn (w':={w with drawn:=d}) rfl rfl rfl rfl;have hq2:aE.get ((q,⟨gq,0,oq.ty,nL (.mp id g) since l.length (seen++[i])⟩)::H) q=some ⟨gq,0,oq.ty,nL (.mp id g) since l.length (seen++[i])⟩:=get_cons_same _ _ _;have hmp:VRel {w with drawn:=d} I ι H (.map (some bm)) (.mp id g):=.mp ob hH (by omega) rfl fun _=>⟨hmz,bm,hιm,rfl⟩;obtain ⟨k2,k3⟩:=Rel.rewrite (H':=(q,⟨gq,0,oq.ty,nL (.mp id g) since l.length (seen++[i])⟩)::H) (ob':=⟨gq,0,oq.ty,nL (.mp id g) since l.length (seen++[i])⟩) (x:=.mapIter (some bm) since (seen.toArray.push e.born) l.length) r1 hQ hι hsz hbq rfl rfl hgq.symm rfl
  (fun _ hs1 hI' hmono=>.inr (.inr (.inl ⟨rfl,b,some bm,since,seen.toArray.push e.born,l.length,hι,hs1,hI',by simp [nL],⟨_,_,_,rfl,hmono _ _ hmp,.pv (.int _ _),.pv (.int _ _)⟩,fun j r hj=>by
   simp only [nL,List.getElem?_cons_succ,aJL] at hj;obtain ⟨n,hn,rfl⟩:=Option.map_eq_some_iff.1 hj;refine⟨n,_,?_,rfl,.pv (.int _ _)⟩;rw [hbn]
   simpa using hn⟩))) hq2 (fun j hj=>get_cons_other _ _ hj)
 unfold Oper.wpW execOp;simp only [ho,hvx,Sem.run_bind,hrun,Result.andThen_ok,Sem.run_pure];refine hk _ _ I ι _ _ (.inr ⟨i,p,hip,hni,rfl,rfl⟩) (.tup rfl (fun j v c hv hc=>?_)) k2 (r2.trans k3)
 match j with
 | 0=>simp at hv hc;subst hv hc;exact .pv (.bool _)
 | 1=>simp at hv hc;subst hv hc;rw [hkey];exact .pv (κ.rep _ _ _)
 | 2=>simp at hv hc;subst hv hc;exact(hval.mono hr r2).mono r1 k3
 | j+3=>simp at hv
theorem WQ {i:Nat} {p:α×AV} (ho:o.op=.entry x) (hx:aW E x=some (.it q gq)) (hQ:H.get q=some oq) (hgq:oq.g=gq) (hrq:oq.rows=nL (.mp id g) since l.length (seen++[i])) (hH:H.get id=some ob) (hg:ob.g=g) (hrows:ob.rows=k6 κ l) (hty:ob.ty=l.length)
  (hip:l[i]?=some p):dQ P N o E H (.tup [.pv (κ.pv p.1),p.2]) H :=
 .of_run fun a w I ι hr he=>by
  obtain ⟨hsz,b,hι,hvx⟩:=aBF (aM he hx) hQ hgq;obtain ⟨bm,hιm,hmz,hbq,hI⟩:=UY (hr.obj q oq hQ) hsz hι hrq hH hg;obtain ⟨es,e2,e3,e4⟩:=DT (hr.obj id ob hH) hmz hιm hrows;rw [hty] at e2;obtain ⟨e,q1,q2,q3,q4⟩:=e4.rel i p hip;have hf:es.find? (·.born == i)=some e:=by
   rw [← Array.find?_toList,← q2];refine find_born e es.toList ?_ (by simpa using Array.mem_of_getElem? q1);refine List.pairwise_iff_getElem.2 fun j k hj hk hjk=>?_;have hk':k < es.size:=by simpa using hk
   have z1:=(e4.born (i:=k) (e:=es[k]) (Array.getElem?_eq_getElem hk')).1;have z2:=(e4.born (i:=j) (e:=es[j]) (Array.getElem?_eq_getElem (by omega))).1;simp only [List.getElem_map,Array.getElem_toList,z1,z2];omega
  refine⟨.tuple #[e.key,e.val],?_,.tup rfl (fun j v c hv hc=>?_)⟩
  ·simp only [execOp,ho,hvx];simp [Instr.entry,getObj,Sem.run,hbq,e2,hf]
  match j with
  | 0=>simp at hv hc;subst hv hc;rw [q3];exact .pv (κ.rep _ _ _)
  | 1=>simp at hv hc;subst hv hc;exact q4
  | j+2=>simp at hv
end
end
section
variable {P:Program} {N:Nat} {o:Oper} {E:dG} {H:aE} {f:Operand} {args:Array Operand} {at_:Array TypeId} {F:FuncId} {fn:Func} {e:Array Value→Sem Value} {vs:List AV} {r:AV}
def YL (P:Program) (e:Array Value→Sem Value) (H:aE) (vs:List AV) (r:AV):Prop :=∀ (w:World) (I:Nat→Prop) (ι:fF) (cs:Array Value),cs.size=vs.length→(∀ (i:Nat) (v:Value) (a:AV),cs[i]?=some v→vs[i]?=some a→VRel w I ι H v a)→∃ c,(e cs).run P w=.ok c w∧VRel w I ι H c r
theorem BY (ho:o.op=.call {callee:=.value f,args:=args,argTypes:=at_}) (hf:aW E f=some (.pv (.fn F))) (hF:P.funcs[F]?=some fn) (hname:(fn.name == "runtime.NumGoroutine")=false)
  (hb:fn.body.isNone=true) (hn:Extern.findNext fn=none) (he:Extern.find fn=some e) (hv:wR E args.toList=some vs) (h:YL P e H vs r):dQ P N o E H r H :=
 .of_run fun a w I ι hr hE=>by
  have hfv:=(aM hE hf).fn_inv;obtain ⟨h1,h2⟩:=rZ hE (sJ hv);obtain ⟨c,hc,hcr⟩:=h w I ι (args.map a.eval) (by simpa using h1) (fun i v b hv hb=>h2 i v b (by simpa using hv) hb);refine⟨c,?_,hcr⟩;unfold execOp;simp only [ho,resolve,hfv,Deferred.ofValue,Sem.run_bind,Sem.run_pure,Result.andThen_ok,invoke,Array.empty_append,Array.append_empty,run_callFunc_extern hF hname hb hn he,hc]
theorem BG {w:World} {I:Nat→Prop} {ι:fF} {H:aE} {x y:AV} {cs:Array Value} (hl:cs.size=[x,y].length) (h:∀ (i:Nat) (v:Value) (a:AV),cs[i]?=some v→[x,y][i]?=some a→VRel w I ι H v a):∃ u v,cs=#[u,v]∧VRel w I ι H u x∧VRel w I ι H v y:=by
 obtain ⟨l⟩:=cs
 match l,hl with
 | [u,v],_=>exact⟨u,v,rfl,h 0 u x rfl rfl,h 1 v y rfl rfl⟩
theorem J5 (s:ByteArray) (c:Int):YL P Extern.BytealgIndexByte.indexByte H [.pv (.str s),.pv (.int .u8 c)] (.pv (.int .i64 (Lib.indexByte s.data.toList c.toNat.toUInt8))):=by intro w I ι cs hl h;obtain ⟨u,v,rfl,h1,h2⟩:=BG hl h;rw [h1.str_inv,h2.int_inv];exact⟨_,Lib.run_indexByteString s c w,.pv (.int _ _)⟩
theorem QO (s t:ByteArray):YL P Extern.BytealgCompare.compare H [.pv (.str s),.pv (.str t)] (.pv (.int .i64 (Lib.compareBytes s.data.toList t.data.toList))):=by intro w I ι cs hl h;obtain ⟨u,v,rfl,h1,h2⟩:=BG hl h;rw [h1.str_inv,h2.str_inv];exact⟨_,Lib.run_compareString s t w,.pv (.int _ _)⟩
end
theorem x8 {P:Program} {G0:aE} {N:Nat} {ops:Array Oper} {K:dG→aE→Prop} {E:dG} {H:aE} {l:List Oper} {t:Tmp} {v:AV} (hb:E.get t=some v) (h:AL P G0 N ops K l ((t,v)::E) H):AL P G0 N ops K l E H:=by
 intro G hG a w hs;refine h G hG a w (cY.sub (G0:=G0) (fun k u hk=>?_) G hG N a w hs);by_cases e:t=k
 ·subst e;rw [dG.get_cons_same] at hk;rw [hb,hk]
 rwa [dG.get_cons_other _ _ e] at hk
end
end Go.Abs
namespace Go.Proofs.YtlnfjkdacimblaaGreatDoor
open Go.Proofs.Tryz
open Go.Abs
theorem zG (s:ByteArray) (c:Int) (H:aE):aH Tryz.prog 130 [.pv (.str s),.pv (.int .u8 c)] H (fun r H'=>r=.pv (.int .i64 (Lib.indexByte s.data.toList c.toNat.toUInt8))∧H'=H):=by refine Pu ?_;exact Bd func130 rfl ntmps130<|Sr<|Dd aO<|Zz<|Sr<|Dd aD<|Dd aD<|Dd (by exact BY rfl rfl func174 rfl rfl rfl rfl rfl (J5 s c))<|Dd aO<|Zz<|aC<|Rt<|Qq
theorem p9 (s:ByteArray) (c:Int) (H:aE):aH Tryz.prog 78 [.pv (.str s),.pv (.int .u8 c)] H (fun r H'=>r=.pv (.int .i64 (Lib.indexByte s.data.toList c.toNat.toUInt8))∧H'=H):=by refine Pu ?_;exact Bd func78 rfl ntmps78<|Sr<|Dd aO<|Zz<|Sr<|Dd aD<|Dd aD<|Dd (by exact aA rfl rfl call130 rfl (zG s c _))<|Dd aO<|Zz<|aC<|Rt<|Qq
abbrev aFH:ByteArray:=⟨#[32,9,10]⟩
abbrev aHa:ByteArray:=⟨#[59,44,46,58,40,41,123,125,91,93,61,60,62,47,45]⟩
def SU (s:ByteArray) (n:Int):Bool:=decide (0≤Lib.indexByte s.data.toList n.toNat.toUInt8)
def p8 (n:Int):Bool:=(decide (97≤n)&&decide (n≤122))||(decide (65≤n)&&decide (n≤90))
def sA (n:Int):Bool:=decide (48≤n)&&decide (n≤57)
def zD (n:Int):Int:=if p8 n then 3 else if sA n then 4 else if SU aFH n then 1 else if SU aHa n then 6 else 0
def sF (n:Int):Int:=if n=34 then 7 else if n=95 then 5 else if n=35 then 2 else zD n
def mK (c:Nat):List AV:=(List.range 256).map fun(i:Nat)=>.pv (.int .u8 (if i < c then zD i else 0))
def qM:List AV:=(List.range 256).map fun(i:Nat)=>.pv (.int .u8 (sF i))
theorem iV (c:Nat):(mK c).length=256:=by simp [mK]
theorem pH {c:Nat} (hc:c < 256) {v:Int} (hv:zD c=v):(mK c).set c (.pv (.int .u8 v))=mK (c+1):=by
 apply List.ext_getElem
 ·simp [mK]
 intro i h1 h2;simp only [mK,aIr,List.length_range] at h2;rw [List.getElem_set]
 split
 ·next e=>subst e;simp [mK,hv]
 next e=>simp only [mK,List.getElem_map,List.getElem_range];congr 2;by_cases h:i < c<;>by_cases h':i < c+1<;>simp [h,h']<;>omega
theorem QZ {c:Nat} (hc:c < 256) (hv:zD c=0):mK c=mK (c+1):=by
 rw [← pH hc hv];apply List.ext_getElem
 ·simp
 intro i h1 h2;rw [List.getElem_set]
 split
 ·next e=>subst e;simp [mK]
 rfl
theorem QY:List.replicate 256 (.pv (.int .u8 0))=mK 0:=by kernel_rfl
theorem Q0:(((mK 256).set 35 (.pv (.int .u8 2))).set 95 (.pv (.int .u8 5))).set 34 (.pv (.int .u8 7))=qM:=by kernel_rfl
theorem S7 {m:Nat} (h:m < 256):qM[m]?=some (.pv (.int .u8 (sF m))):=by simp [qM,h]
theorem lG (c:Nat) (H:aE):∀ r∈[mK c],∀ a∈r,Clo H a:=by intro r hr a ha;rw [aIu] at hr;subst hr;obtain ⟨i,_,rfl⟩:=List.mem_map.1 ha;simp
theorem QX (H:aE):Clo H (.agg qM):=by rw [NY];intro a ha;obtain ⟨i,_,rfl⟩:=List.mem_map.1 ha;simp
theorem TO:gN Tryz.prog 214 (List.replicate 256 (.pv (.int .u8 0))):=⟨_,.agg (List.replicate 256 (.pv (.int .u8 0))),zeroValue214,.inl (by kernel_rfl),rfl⟩
theorem L0 (H:aE):aH Tryz.prog 183 [] H (fun r H'=>r=.agg qM∧H'=H):=by
  refine Pu ?_;refine Bd func183 rfl ntmps183<|Sr<|Dd (by exact bJ (id:=0) rfl TO rfl rfl)<|Zz<|Sr<|Dd (by exact bJ (id:=1) rfl TO rfl rfl)<|Zz<|Sq<|Sr<|Dd aD<|Zz<|aF ?_;rw [QY];refine bG (σ:=Nat) (fun c=>([(0,.ref 0 0 0 0),(1,.ref 1 0 0 0),(4,iv (c:Int))],[(1,bx 256 214 (mK c)),(0,bx 256 214 (mK 0))])) (fun c=>c≤256) (fun c=>256 - c) 0 (by omega) ?_ ?_
  · exact(cY.wk (Ea<|Ea<|Eb<|trivial) (Hc (lG _ _)<|Hc (lG _ _)<|trivial) trivial)
  · intro c hc
    refine Sr<|Dd dD<|Zz<|Sq ?_;refine Cn ?_ ?_<;>intro hc1
    · have hlt:c < 256:=by have:=aIn hc1;omega
      refine aB<|Sq<|aF<|Sr<|Dd aD<|Dd aO<|Zz<|Sr<|Dd aD<|Dd (by exact oA rfl underlying3 qG rfl (by exact wu8 (by omega) (by omega)))<|Dd aO<|Zz<|aF<|Sq<|Sq ?_;refine bD (t:=9) (n:=8) (X:=decide (97≤(c:Int))&&decide ((c:Int)≤122)) ?_ ?_
      · all_goals refine Dd aD ?_
        all_goals refine Dd JK<|Dm ?_
        all_goals refine Sp 12 (fun h12=>?_) fun h12=>?_
        all_goals try contradiction
        all_goals first|refine Fo<|Fo ?_|refine On aD<|On JK ?_
        all_goals refine Dd dI<|Da ?_
        all_goals(exact⟨⟨_,rfl,by(simp only [*,Zo];done)⟩,rfl,rfl,rfl⟩)
      refine Cn ?_ ?_<;>intro hc2
      · have hv:zD c=3:=by rw [zD,p8,hc2];rfl
        refine aB ?_;refine Cn ?_ ?_<;>intro hc3
        · skip
          refine Rg<|Dd aD<|Dd (by exact fQ (k2:=c) rfl fV dY rfl rfl rfl rfl (by omega) (by exact aJC _) (by omega) (by omega))<|Uu (by exact bW rfl dY rfl rfl rfl rfl rfl rfl (by rw [iV];omega) (pH hlt hv) rfl)<|Zz<|Rg<|Dd eL<|Dd aD<|Zz ?_;exact⟨c+1,by omega,by omega,(cY.wk (Ea<|Ea<|Eb<|trivial) (Hc (lG _ _)<|Hc (lG _ _)<|trivial) trivial)⟩
        · rw [hc2] at hc3;cases hc3
      · skip
        refine bD (t:=9) (n:=8) (X:=decide (65≤(c:Int))&&decide ((c:Int)≤90)) ?_ ?_
        · all_goals refine Dd aD ?_
          all_goals refine Dd JK<|Dm ?_
          all_goals refine Sp 18 (fun h18=>?_) fun h18=>?_
          all_goals try contradiction
          all_goals first|refine Fo<|Fo ?_|refine On aD<|On JK ?_
          all_goals refine Dd dI<|Da ?_
          all_goals(exact⟨⟨_,rfl,by(simp only [*,Zo];done)⟩,rfl,rfl,rfl⟩)
        refine Cn ?_ ?_<;>intro hc4
        · have hv:zD c=3:=by rw [zD,p8,hc2,hc4];rfl
          refine Rg<|Dd aD<|Dd (by exact fQ (k2:=c) rfl fV dY rfl rfl rfl rfl (by omega) (by exact aJC _) (by omega) (by omega))<|Uu (by exact bW rfl dY rfl rfl rfl rfl rfl rfl (by rw [iV];omega) (pH hlt hv) rfl)<|Zz<|Rg<|Dd eL<|Dd aD<|Zz ?_;exact⟨c+1,by omega,by omega,(cY.wk (Ea<|Ea<|Eb<|trivial) (Hc (lG _ _)<|Hc (lG _ _)<|trivial) trivial)⟩
        · skip
          refine Sq ?_;refine bD (t:=24) (n:=8) (X:=decide (48≤(c:Int))&&decide ((c:Int)≤57)) ?_ ?_
          · all_goals refine Dd aD ?_
            all_goals refine Dd JK<|Dm ?_
            all_goals refine Sp 27 (fun h27=>?_) fun h27=>?_
            all_goals try contradiction
            all_goals first|refine Fo<|Fo ?_|refine On aD<|On JK ?_
            all_goals refine Dd dI<|Da ?_
            all_goals(exact⟨⟨_,rfl,by(simp only [*,Zo];done)⟩,rfl,rfl,rfl⟩)
          refine Cn ?_ ?_<;>intro hc5
          · have hv:zD c=4:=by rw [zD,p8,hc2,hc4,sA,hc5];rfl
            refine Rg<|Dd aD<|Dd (by exact fQ (k2:=c) rfl fV dY rfl rfl rfl rfl (by omega) (by exact aJC _) (by omega) (by omega))<|Uu (by exact bW rfl dY rfl rfl rfl rfl rfl rfl (by rw [iV];omega) (pH hlt hv) rfl)<|Zz<|Rg<|Dd eL<|Dd aD<|Zz ?_;exact⟨c+1,by omega,by omega,(cY.wk (Ea<|Ea<|Eb<|trivial) (Hc (lG _ _)<|Hc (lG _ _)<|trivial) trivial)⟩
          · skip
            refine Sr<|Dd aD<|Dd (by exact aA rfl rfl C0 rfl (p9 _ _ _))<|Dd wP<|Da ?_;refine Cn ?_ ?_<;>intro hc6
            · have hv:zD c=1:=by rw [zD,p8,hc2,hc4,sA,hc5,SU,hc6];rfl
              refine Rg<|Dd aD<|Dd (by exact fQ (k2:=c) rfl fV dY rfl rfl rfl rfl (by omega) (by exact aJC _) (by omega) (by omega))<|Uu (by exact bW rfl dY rfl rfl rfl rfl rfl rfl (by rw [iV];omega) (pH hlt hv) rfl)<|Zz<|Rg<|Dd eL<|Dd aD<|Zz ?_;exact⟨c+1,by omega,by omega,(cY.wk (Ea<|Ea<|Eb<|trivial) (Hc (lG _ _)<|Hc (lG _ _)<|trivial) trivial)⟩
            · skip
              refine Sr<|Dd aD<|Dd (by exact aA rfl rfl C0 rfl (p9 _ _ _))<|Dd wP<|Da ?_;refine Cn ?_ ?_<;>intro hc7
              · have hv:zD c=6:=by rw [zD,p8,hc2,hc4,sA,hc5,SU,hc6,SU,hc7];rfl
                refine Rg<|Dd aD<|Dd (by exact fQ (k2:=c) rfl fV dY rfl rfl rfl rfl (by omega) (by exact aJC _) (by omega) (by omega))<|Uu (by exact bW rfl dY rfl rfl rfl rfl rfl rfl (by rw [iV];omega) (pH hlt hv) rfl)<|Zz<|Rg<|Dd eL<|Dd aD<|Zz ?_;exact⟨c+1,by omega,by omega,(cY.wk (Ea<|Ea<|Eb<|trivial) (Hc (lG _ _)<|Hc (lG _ _)<|trivial) trivial)⟩
              · have hv:zD c=0:=by rw [zD,p8,hc2,hc4,sA,hc5,SU,hc6,SU,hc7];rfl
                refine aB<|Rg<|Dd eL<|Dd aD<|Zz ?_;rw [QZ hlt hv];exact⟨c+1,by omega,by omega,(cY.wk (Ea<|Ea<|Eb<|trivial) (Hc (lG _ _)<|Hc (lG _ _)<|trivial) trivial)⟩
    · have : c = 256 := by have : ¬ ((c : Int) < 256) := by simpa using hc1
                           omega
      subst this;refine aZ<|Sr<|Dd (by exact fQ (k2:=35) rfl fV dY rfl rfl rfl rfl (by omega) rfl (by omega) rfl)<|Uu (by exact bW rfl dY rfl rfl rfl rfl rfl rfl (by simp [iV]) rfl rfl)<|Dd (by exact fQ (k2:=95) rfl fV dY rfl rfl rfl rfl (by omega) rfl (by omega) rfl)<|Uu (by exact bW rfl dY rfl rfl rfl rfl rfl rfl (by simp [iV]) rfl rfl)<|Dd (by exact fQ (k2:=34) rfl fV dY rfl rfl rfl rfl (by omega) rfl (by omega) rfl)<|Uu (by exact bW rfl dY rfl rfl rfl rfl rfl rfl (by simp [iV]) rfl rfl)<|Zz<|Sr<|Dd (by exact aI rfl isAgg214 A8 rfl rfl rfl rfl (show List.take 256 (List.drop 0 _)=qM by rw [← Q0];rfl) rfl)<|Uu (fP A8)<|Zz<|aC ?_;refine cZ (H':=[]) (.inr rfl) rfl (k8 rfl isAgg214 A8 rfl rfl rfl (show List.take 256 (List.drop 0 qM)=qM by rfl) rfl) (Fin.wk (by exact QX _) trivial trivial) ?_;exact Qq
abbrev aP:ByteArray:=⟨#[]⟩
theorem u4 (s:ByteArray) (k:Nat):0≤bP s k:=by unfold bP;omega
theorem u5 (s:ByteArray) (k:Nat):(bP s k).toNat < 256:=by
 unfold bP;have:=(((s.data.toList[k]?).getD 0)).toNat_lt
 simpa using this
theorem aE9 (s:ByteArray) (k:Nat):qM[(bP s k).toNat]?=some (.pv (.int .u8 (sF (bP s k)))):=by rw [S7 (u5 s k),Int.toNat_of_nonneg (u4 s k)]
theorem iJ (H:aE):∀ r∈[qM],∀ a∈r,Clo H a:=by intro r hr a ha;rw [aIu] at hr;subst hr;have:=QX H;rw [NY] at this;exact this a ha
def KB (s:ByteArray) (k:Nat):Bool:=!decide (sF (bP s k)=3)&&(decide ((k:Int)=0)||(!decide (sF (bP s k)=4)&&!decide (sF (bP s k)=5)))
def bU (s:ByteArray):Bool:=!((List.range s.size).any (KB s))&&(!decide (s=aP)&&decide ((s.size:Int)≤24))
theorem oZ {n:Nat} {p:Nat→Bool} (h:∀ j,j < n→p j=false):(List.range n).any p=false:=by rw [List.any_eq_false];intro x hx;rw [h x (List.mem_range.1 hx)];simp
theorem m4 {n k:Nat} {p:Nat→Bool} (hk:k < n) (h:p k=true):(List.range n).any p=true:=List.any_eq_true.2 ⟨k,List.mem_range.2 hk,h⟩
theorem AN (s:ByteArray) (H:aE) (hs:s.size < 4611686018427387904):aH Tryz.prog 142 [sv s] H (fun r H'=>r=bv (bU s)∧H'=H):=by
 refine Pu ?_;refine Bd func142 rfl ntmps142<|Sr<|Dd aO<|Zz<|Sr<|Dd (by exact aA rfl rfl call183 rfl (L0 _))<|Dd (by exact bJ (id:=3) rfl TO rfl rfl)<|Uu (by exact cV rfl A8 rfl rfl rfl rfl rfl rfl rfl (by simp))<|Zz<|Sq<|Sr<|Dd aD<|Dd (jJ underlying9)<|Dd aD<|Zz<|aF ?_;refine bG (σ:=Nat) (fun k=>([(0,sv s),(3,.ref 3 0 0 0),(8,iv (s.size:Int)),(9,iv (k:Int))],[(3,bx 256 214 qM)])) (fun k=>k≤s.size∧∀ j,j < k→KB s j=false) (fun k=>s.size - k) 0 ⟨by omega,by omega⟩ ?_ ?_
 ·exact(cY.wk (Eb<|Ea<|Eb<|Eb<|trivial) (Hc (iJ _)<|trivial) trivial)
 rintro k ⟨hk,hno⟩;refine Sr<|Dd dD<|Zz<|Sq ?_;refine Cn ?_ ?_<;>intro hc1
 ·have hlt:k < s.size:=by have:=aIn hc1;omega
  refine aB<|Sq<|aF<|Sr<|Dd aD<|Dd aO<|Zz<|Sr<|Dd aD<|Dd aD<|Dd (by exact cF rfl underlying9 rfl rfl (by omega) (by exact aJC _) (by omega) rfl)<|Dd (by exact fQ (m:=(bP s k).toNat) (k2:=(bP s k).toNat) rfl fV dY rfl rfl rfl rfl (u4 s k) rfl (u5 s k) (by omega))<|Dd (by exact aR rfl N5 rfl rfl rfl rfl (aE9 s k))<|Dd aO<|Zz<|Sq ?_;refine bD (t:=30) (n:=17) (X:=KB s k) ?_ ?_
  ·all_goals refine Dd aD ?_
   all_goals refine Dd tU<|Dm ?_
   all_goals refine Sp 19 (fun h19=>?_) fun h19=>?_
   all_goals try contradiction
   all_goals first|refine Fo<|Fo<|Fo ?_|refine On aD<|On cI<|On aD ?_
   all_goals(first|refine Sp 22 (fun h22=>?_) fun h22=>?_|refine x8 (t:=22) rfl ?_)
   all_goals try contradiction
   all_goals first|refine Fo ?_|refine Fu ?_|refine On aD ?_
   all_goals first|refine Fo ?_|refine Fu ?_|refine On tU ?_
   all_goals first|refine Fo ?_|refine Fu ?_|refine On aD ?_
   all_goals(first|refine Sp 25 (fun h25=>?_) fun h25=>?_|refine x8 (t:=25) rfl ?_)
   all_goals try contradiction
   all_goals first|refine Fo ?_|refine Fu ?_|refine On aD ?_
   all_goals first|refine Fo ?_|refine Fu ?_|refine On tU ?_
   all_goals first|refine Fo ?_|refine Fu ?_|refine On dI ?_
   all_goals first|refine Fo ?_|refine On dI ?_
   all_goals refine Dd dI<|Zz ?_
   all_goals(exact⟨⟨_,rfl,by(simp only [KB, *];rfl)⟩,rfl,rfl,rfl⟩)
  refine Cn ?_ ?_<;>intro hc2
  ·refine Sr<|Dd aO<|Zz<|aC<|Rt ?_;exact⟨by rw [bU,m4 hlt hc2];rfl,rfl⟩
  refine aB<|Rg<|Dd eL<|Dd aD<|Zz ?_;refine⟨k+1,⟨by omega,fun j hj=>?_⟩,by omega,(cY.wk (Eb<|Ea<|Eb<|Eb<|trivial) (Hc (iJ _)<|trivial) trivial)⟩;by_cases e:j=k
  ·subst e;exact hc2
  exact hno j (by omega)
 have hge:k=s.size:=by have:=aIo hc1;omega
 refine aZ<|Sq ?_;refine bD (t:=2) (n:=9) (X:=!decide (s=aP)&&decide ((s.size:Int)≤24)) ?_ ?_
 ·all_goals refine Dd aD ?_
  all_goals refine Dd JQ<|Dm ?_
  all_goals refine Sp 34 (fun h34=>?_) fun h34=>?_
  all_goals try contradiction
  all_goals first|refine Fo<|Fo<|Fo ?_|refine On aD<|On (jJ underlying9)<|On JK ?_
  all_goals refine Dd dI<|Da ?_
  all_goals(exact⟨⟨_,rfl,by(simp only [KB, *];rfl)⟩,rfl,rfl,rfl⟩)
 refine aC<|Rt ?_;subst hge;exact⟨by rw [bU,oZ hno];rfl,rfl⟩
def IG (l:List GTag) (key:ByteArray):Option ByteArray:=(l.find? (fun t=>decide (t.key=key))).map (·.val)
theorem ZN (l:List GTag) (key:ByteArray) (H:aE) (hl:l.length < 4611686018427387904):aH Tryz.prog 110 [.pv (iL l),sv key] H (fun r H'=>r=.tup [sv ((IG l key).getD aP),bv (IG l key).isSome]∧H'=H):=by
  refine Pu ?_;refine Bd func110 rfl ntmps110<|Sr<|Dd aO<|Dd aO<|Zz<|Sq<|Sr<|Dd aD<|Dd (fK cK)<|Dd aD<|Zz<|aF ?_;refine bG (σ:=Nat) (fun k=>([(1,sv key),(8,.pv (iL l)),(9,iv ((l.map aQ).length:Int)),(10,iv (k:Int))],[])) (fun k=>k≤l.length∧∀ j,j < k→∀ b,l[j]?=some b→decide (b.key=key)=false) (fun k=>l.length - k) 0 ⟨by omega,by omega⟩ ?_ ?_
  · exact Wk
  · rintro k ⟨hk,hno⟩
    refine Sr<|Dd dD<|Zz<|Sq ?_;refine Cn ?_ ?_<;>intro hc1
    · have hlt:k < l.length:=by simpa using hc1
      obtain ⟨o,ho⟩:=aX hlt;have hi:=bZ (f:=aQ) ho;refine aB<|Sq<|aF<|Sr<|Dd (e8 lJ)<|Dd (by exact bQ rfl fX dR rfl (by omega) (by simp only [Zl,aQ,aG];rfl) rfl)<|Dd (by exact bJ (id:=7) rfl OH rfl rfl)<|Uu (fP dR)<|Zz<|Sr<|Dd (bH jD)<|Dd (cA isAgg9)<|Dd aD<|Dd sQ<|Zz ?_;refine Cn ?_ ?_<;>intro hc2
      · skip
        refine Sr<|Dd (bH kU)<|Dd (cA isAgg9)<|Dd aO<|Dd aO<|Zz<|aC<|Ru ?_;exact⟨by rw [IG,XL hno ho hc2];rfl,rfl⟩
      · skip
        refine aB<|Rg<|Dd eL<|Dd aD<|Zz ?_;exact⟨k+1,⟨by omega,j7 hno ho hc2⟩,by omega,Wk⟩
    · have hge : k = l.length := by have : l.length ≤ k := by simpa using hc1
                                    omega
      subst hge;refine aZ<|Sr<|Dd aO<|Dd aO<|Zz<|aC<|Ru ?_;exact⟨by rw [IG,XM hno];rfl,rfl⟩
def eR {α:Type} (f:α→ByteArray) (l:List α):Nat→ByteArray
 | 0=>aP
 | k+1=>((l[k]?).map f).getD aP
def sle (a b:ByteArray):Bool:=kR a b||decide (a=b)
def wF (last:ByteArray) (t:GTag):Bool:=!bU t.key||sle t.key last||decide (t.val=aP)||decide (200 < (t.val.size:Int))
def zR {α:Type} (p:ByteArray→α→Bool) (f:α→ByteArray) (l:List α) (k:Nat):Bool:=match l[k]? with
 | some t=>p (eR f l k) t
 | none=>false
theorem l5 {α:Type} {p:ByteArray→α→Bool} {f:α→ByteArray} {l:List α} {k:Nat} {t:α} (h:l[k]?=some t):zR p f l k=p (eR f l k) t:=by rw [zR,h]
theorem kO {α:Type} {f:α→ByteArray} {l:List α} {k:Nat} {t:α} (h:l[k]?=some t):eR f l (k+1)=f t:=by rw [eR,h];rfl
def nM (l:List GTag):Bool:=!((List.range l.length).any (zR wF GTag.key l))&&decide ((l.length:Int)≤60)
def rW (l:List GTag):Prop:=l.length < 4611686018427387904∧∀ t∈l,t.key.size < 4611686018427387904∧t.val.size < 4611686018427387904
theorem vL (l:List GTag) (H:aE) (hl:rW l):aH Tryz.prog 143 [.pv (iL l)] H (fun r H'=>r=bv (nM l)∧H'=H):=by
 refine Pu ?_;obtain ⟨hl,hks⟩:=hl;have hml:(l.map aQ).length=l.length:=aIr _;refine Bd func143 rfl ntmps143<|Sr<|Dd aO<|Zz<|Sr<|Dd aO<|Zz<|Sq<|Sr<|Dd aD<|Dd (fK cK)<|Dd aD<|Zz<|aF ?_;refine bG (σ:=Nat) (fun k=>([(0,.pv (iL l)),(3,sv (eR GTag.key l k)),(6,.pv (iL l)),(7,iv ((l.map aQ).length:Int)),(8,iv (k:Int))],[])) (fun k=>k≤l.length∧∀ j,j < k→zR wF GTag.key l j=false) (fun k=>l.length - k) 0 ⟨by omega,by omega⟩ ?_ ?_
 ·exact Wk
 rintro k ⟨hk,hno⟩;refine Sr<|Dd dD<|Zz<|Sq ?_;refine Cn ?_ ?_<;>intro hc1
 ·have hlt:k < l.length:=by have:=aIn hc1;omega
  obtain ⟨t,ht⟩:=aX hlt;have hi:=bZ (f:=aQ) ht;have hkt:=hks t (aJB ht);refine aB<|Sq<|aF<|Sr<|Dd (e8 lJ)<|Dd (by exact bQ rfl fX dR rfl (by omega) (by simp only [Zl,aQ,aG];rfl) rfl)<|Dd (by exact bJ (id:=5) rfl OH rfl rfl)<|Uu (fP dR)<|Zz<|Sq<|Sq ?_;refine bD (t:=32) (n:=24) (X:=wF (eR GTag.key l k) t) ?_ ?_
  ·all_goals refine Dd (bH jD) ?_
   all_goals refine Dd (cA isAgg9)<|Dd (by exact aA rfl rfl t8 rfl (AN t.key _ hkt.1))<|Dd jU<|Dm ?_
   all_goals refine Sp 16 (fun h16=>?_) fun h16=>?_
   all_goals try contradiction
   all_goals first|refine Fo<|Fo<|Fo<|Fo ?_|refine On (bH jD)<|On (cA isAgg9)<|On aD<|On (by exact PN rfl rfl rfl) ?_
   all_goals refine Dd dI<|Dm ?_
   all_goals refine Sp 22 (fun h22=>?_) fun h22=>?_
   all_goals try contradiction
   all_goals first|refine Fo<|Fo<|Fo ?_|refine On (bH kU)<|On (cA isAgg9)<|On sQ ?_
   all_goals refine Dd dI<|Dm ?_
   all_goals refine Sp 27 (fun h27=>?_) fun h27=>?_
   all_goals try contradiction
   all_goals first|refine Fo<|Fo<|Fo<|Fo ?_|refine On (bH kU)<|On (cA isAgg9)<|On (jJ underlying9)<|On kC ?_
   all_goals refine Dd dI<|Zz ?_
   all_goals(exact⟨⟨_,rfl,by(simp only [wF,sle, *];rfl)⟩,rfl,rfl,rfl⟩)
  refine Cn ?_ ?_<;>intro hc2
  ·refine Sr<|Dd aO<|Zz<|aC<|Rt ?_;exact⟨by rw [nM,m4 hlt ((l5 ht).trans hc2)];rfl,rfl⟩
  refine aB<|Rg<|Dd (bH jD)<|Dd (cA isAgg9)<|Dd aO<|Zz<|Rg<|Dd eL<|Dd aD<|Zz ?_;refine⟨k+1,⟨by omega,fun j hj=>?_⟩,by omega,?_⟩
  ·by_cases e:j=k
   ·subst e;exact(l5 ht).trans hc2
   exact hno j (by omega)
  rw [kO ht];exact Wk
 have hge:k=l.length:=by have:=aIo hc1;omega
 subst hge;refine aZ<|Sr<|Dd aD<|Dd (fK cK)<|Dd JK<|Dd aO<|Zz<|aC<|Rt ?_;exact⟨by rw [nM,oZ hno,← hml];rfl,rfl⟩
end Go.Proofs.YtlnfjkdacimblaaGreatDoor
namespace Go.Abs
section
section
variable {P:Program} {N:Nat} {o:Oper} {E:dG} {H:aE} {T:TypeId} {x y z:Operand}
theorem JW {e:TypeId} {cnt:Nat} {kk:IntKind} {n:Int} {m:Nat} {l:List AV} {v:AV} (ho:o.op=.index T x y) (hT:P.underlying T=some (.array cnt e)) (hs:∀ w,(sizeOf e).run P w=.ok 1 w) (ha:∀ w,(isAgg e).run P w=.ok false w)
  (hx:aW E x=some (.agg l)) (hy:aW E y=some (.pv (.int kk n))) (h0:0≤n) (hm:n.toNat=m) (hi:m < cnt) (hv:l[m]?=some v):dQ P N o E H v H :=
 .of_run fun a w I ι hr he=>by
  have h:=aM he hx;have hn:=(aM he hy).int_inv;generalize hc:a.eval x=c at h;cases h with
  | @agg vs _ hl h1 h2 =>
   have hlt:m < vs.size:=by rw [hl];exact(aIv.1 hv).1
   have hu:vs[m]?=some vs[m]:=Array.getElem?_eq_getElem hlt;refine⟨vs[m],?_,h2 m _ v hu hv⟩;have h5:n < (cnt:Int):=by omega
   simp only [execOp,ho,hc,hn];simp [Instr.index,run_underlying hT,asIntOf,h0,h5,hs,hm,part,ha,hu]
def sP (l:List ByteArray):List (ByteArray×AV):=l.map fun s=>(s,.pv (.bool true))
def mH (l:List ByteArray) (s:ByteArray):Bool:=l.any fun a=>decide (a=s)
def nX (l:List ByteArray) (s:ByteArray):List ByteArray:=if mH l s then l else l++[s]
theorem Z2 (l:List ByteArray) (s:ByteArray):(nO (sP l) s).getD (.pv (.bool false))=.pv (.bool (mH l s)):=by
 induction l with
 | nil=>rfl
 | cons a l ih =>
  by_cases h:a=s
  ·subst h;simp [sP,nO,mH]
  simp only [sP,List.map_cons,nO,h,if_false,mH,List.any_cons,decide_false,Bool.false_or] at ih ⊢;exact ih
theorem Z1 (l:List ByteArray) (s:ByteArray):oH (sP l) s (.pv (.bool true))=sP (nX l s):=by
 induction l with
 | nil=>rfl
 | cons a l ih =>
  by_cases h:a=s
  ·subst h;simp [sP,oH,nX,mH]
  have e:nX (a::l) s=a::nX l s:=by
   unfold nX mH;rw [List.any_cons,decide_eq_false h,Bool.false_or]
   split<;>rfl
  rw [e];show oH ((a,.pv (.bool true))::sP l) s (.pv (.bool true))=(a,.pv (.bool true))::sP (nX l s);rw [oH,aIp h,ih]
theorem EP (l:List ByteArray):(sP l).length=l.length:=by simp [sP]
theorem jL {kt et:TypeId} {l:List ByteArray} {id g:Nat} {ob:Ob} {s:ByteArray} {zv:Value} (ho:o.op=.lookup T x y false) (hT:P.underlying T=some (.map kt et)) (hd:P.underlying kt=some .string) (hx:aW E x=some (.mp id g)) (hH:H.get id=some ob) (hg:ob.g=g)
  (hrows:ob.rows=k6 oW (sP l)) (hy:aW E y=some (.pv (.str s))) (hz:∀ w,(zeroValue et).run P w=.ok zv w) (hv:ZV zv (.pv (.bool false))):dQ P N o E H (.pv (.bool (mH l s))) H:=by
 rw [← Z2];exact rV (κ:=oW) ho hT hd hx hH hg hrows hy hz hv
theorem uD {kt et:TypeId} {l:List ByteArray} {id g:Nat} {ob:Ob} {s:ByteArray} (ho:o.op=.mapUpdate T x y z∨o.op=.insert T x y z) (hT:P.underlying T=some (.map kt et)) (hd:P.underlying kt=some .string) (hx:aW E x=some (.mp id g)) (hH:H.get id=some ob) (hg:ob.g=g)
  (hty:ob.ty=(sP l).length) (hrows:ob.rows=k6 oW (sP l)) (hy:aW E y=some (.pv (.str s))) (hz:aW E z=some (.pv (.bool true))):dQ P N o E H .any ((id,⟨g,ob.sz,(sP (nX l s)).length,k6 oW (sP (nX l s))⟩)::H) :=
 fY (κ:=oW) ho hT hd hx hH hg hty hrows hy hz (Z1 l s)
abbrev FX (l:List ByteArray):Ob:=⟨0,0,(sP l).length,k6 oW (sP l)⟩
end
end
end Go.Abs
namespace Go.Proofs.YtlnfjkdacimblaaGreatDoor
open Go.Proofs.Tryz
open Go.Abs
def dW (k:Int):ByteArray:=if k=1 then⟨#[110,111,100,101]⟩else if k=2 then⟨#[119,97,121]⟩else if k=3 then⟨#[97,114,101,97]⟩else if k=4 then⟨#[114,111,117,116,101]⟩else if k=5 then⟨#[116,117,114,110]⟩else aP
abbrev aC4:List AV:=[sv aP,sv ⟨#[110,111,100,101]⟩,sv ⟨#[119,97,121]⟩,sv ⟨#[97,114,101,97]⟩,sv ⟨#[114,111,117,116,101]⟩,sv ⟨#[116,117,114,110]⟩]
theorem six {k:Int} (h0:0≤k) (h1:k < 6):k=0∨k=1∨k=2∨k=3∨k=4∨k=5:=by omega
theorem aC3 {k:Int} (h0:0≤k) (h1:k < 6):aC4[k.toNat]?=some (sv (dW k)):=by rcases six h0 h1 with rfl|rfl|rfl|rfl|rfl|rfl<;>rfl
theorem zV (k:Int) (H:aE):aH Tryz.prog 122 [iv k] H (fun r H'=>r=sv (dW k)∧H'=H):=by
 refine Pu ?_;refine Bd func122 rfl ntmps122<|Sr<|Dd aO<|Zz<|Sr<|Dd (by exact sS rfl aHH rfl rfl)<|Dd (by exact bJ (id:=3) rfl aGV rfl rfl)<|Uu (fP sizeOf206)<|Zz<|Sq<|Sq ?_;refine bD (t:=10) (n:=7) (X:=decide (k < 0)||decide (6≤k)) ?_ ?_
 ·all_goals refine Dd aD ?_
  all_goals refine Dd dD<|Dm ?_
  all_goals refine Sp 7 (fun h7=>?_) fun h7=>?_
  all_goals try contradiction
  all_goals first|refine Fo<|Fo ?_|refine On aD<|On wP ?_
  all_goals refine Dd dI<|Zz ?_
  all_goals(exact⟨⟨_,rfl,by(simp only [*,Zo];done)⟩,rfl,rfl,rfl⟩)
 refine Cn ?_ ?_<;>intro hc1
 ·have hn:¬ (k=1)∧¬ (k=2)∧¬ (k=3)∧¬ (k=4)∧¬ (k=5):=by
   simp only [Bool.or_eq_true,aIy] at hc1;omega
  refine Sr<|Dd aO<|Zz<|aC<|Rt ?_;exact⟨by simp only [dW,hn.1,hn.2.1,hn.2.2.1,hn.2.2.2.1,hn.2.2.2.2,if_false],rfl⟩
 have hb:0≤k∧k < 6:=by
  simp only [aJN,aIz] at hc1;omega
 exact aB<|Sr<|Dd aD<|Dd (by exact fQ (m:=k.toNat) (k2:=k.toNat) rfl underlying206 sizeOf9 rfl rfl rfl rfl hb.1 rfl (by omega) (by omega))<|Dd (by exact aR rfl isAgg9 rfl rfl rfl rfl (aC3 hb.1 hb.2))<|Dd aO<|Zz<|aC<|Rt<|Qq
def xT (k:Int):Int:=if k=2 then 2 else if k=3 then 3 else if k=4 then 1 else if k=5 then 3 else 0
theorem aAs {k:Int} (h0:0≤k) (h1:k < 6):[iv 0,iv 0,iv 2,iv 3,iv 1,iv 3][k.toNat]?=some (iv (xT k)):=by rcases six h0 h1 with rfl|rfl|rfl|rfl|rfl|rfl<;>rfl
theorem US (k:Int) (H:aE) (h0:0≤k) (h1:k < 6):aH Tryz.prog 144 [iv k] H (fun r H'=>r=iv (xT k)∧H'=H):=by refine Pu ?_;exact Bd func144 rfl ntmps144<|Sr<|Dd aO<|Zz<|Sr<|Dd (by exact sS rfl aHG rfl rfl)<|Dd aD<|Dd (by exact JW (m:=k.toNat) rfl underlying223 sizeOf3 isAgg3 rfl rfl h0 rfl (by omega) (aAs h0 h1))<|Dd aO<|Zz<|aC<|Rt<|Qq
def QI (x y:Int):Bool:=((decide (0≤x)&&decide (x < 1048576))&&decide (0≤y))&&decide (y < 1048576)
theorem aHg (x y:Int) (H:aE):aH Tryz.prog 146 [.agg [iv x,iv y]] H (fun r H'=>r=bv (QI x y)∧H'=H):=by
 refine Pu ?_;refine Bd func146 rfl ntmps146<|Sr<|Dd (by exact cE (id:=1) rfl rfl rfl rfl rfl)<|Dd aO<|Zz<|Sq ?_;refine bD (t:=2) (n:=22) (X:=QI x y) ?_ ?_
 ·all_goals refine Dd (bH qL) ?_
  all_goals refine Dd (cA isAgg3)<|Dd wP<|Dm ?_
  all_goals refine Sp 6 (fun h6=>?_) fun h6=>?_
  all_goals try contradiction
  all_goals first|refine Fo<|Fo<|Fo ?_|refine On (bH qL)<|On (cA isAgg3)<|On dD ?_
  all_goals refine Dd dI<|Dm ?_
  all_goals refine Sp 11 (fun h11=>?_) fun h11=>?_
  all_goals try contradiction
  all_goals first|refine Fo<|Fo<|Fo ?_|refine On (bH qK)<|On (cA isAgg3)<|On wP ?_
  all_goals refine Dd dI<|Dm ?_
  all_goals refine Sp 16 (fun h16=>?_) fun h16=>?_
  all_goals try contradiction
  all_goals first|refine Fo<|Fo<|Fo ?_|refine On (bH qK)<|On (cA isAgg3)<|On dD ?_
  all_goals refine Dd dI<|Da ?_
  all_goals(exact⟨⟨_,rfl,by(simp only [QI, *];rfl)⟩,rfl,rfl,rfl⟩)
 exact aC<|Rt<|Qq
def QF (p:Nat→Bool) (n:Nat):Int:=match (List.range n).find? p with|some k=>(k:Int)|none => -1
def GY (p:Nat→Bool) (n:Nat):Nat:=match (List.range n).find? p with|some k=>k+1|none=>n
theorem IL {p:Nat→Bool} {n k:Nat} (hk:k < n) (hp:p k=true) (hno:∀ j,j < k→p j=false):(List.range n).find? p=some k:=by rw [List.find?_range_eq_some];exact⟨hp,by simpa using hk,fun j hj=>by simp [hno j hj]⟩
theorem IM {p:Nat→Bool} {n:Nat} (hno:∀ j,j < n→p j=false):(List.range n).find? p=none:=by rw [List.find?_eq_none];intro x hx;simp [hno x (List.mem_range.1 hx)]
theorem ST (fv:AV) (l:List ByteArray) (p:Nat→Bool) (Hs:Nat→aE) (hl:l.length < 4611686018427387904) (hf:∀ k s,l[k]?=some s→dN Tryz.prog fv [sv s] (Hs k) (fun r H'=>r=bv (p k)∧H'=Hs (k+1))) :
  aH Tryz.prog 155 [.pv (cS l),fv] (Hs 0) (fun r H'=>r=iv (QF p l.length)∧H'=Hs (GY p l.length)):=by
 have hml:(l.map encStr).length=l.length:=aIr _;refine Bd func155 rfl ntmps155<|Sr<|Dd aO<|Zz<|Sq<|Sr<|Dd aD<|Dd (fK aK)<|Dd aD<|Zz<|aF ?_;refine bG (σ:=Nat) (fun k=>([(0,.pv (cS l)),(1,fv),(7,iv ((l.map encStr).length:Int)),(8,iv (k:Int))],Hs k)) (fun k=>k≤l.length∧∀ j,j < k→p j=false) (fun k=>l.length - k) 0 ⟨by omega,by omega⟩ ?_ ?_
 ·exact E0
 rintro k ⟨hk,hno⟩;refine Sr<|Dd dD<|Zz<|Sq ?_;refine Cn ?_ ?_<;>intro hc1
 ·have hlt:k < l.length:=by have:=aIn hc1;omega
  obtain ⟨s,hs⟩:=aX hlt;have hi:=bZ (f:=encStr) hs;have hfo:=hf k s hs;refine aB<|Sq<|aF<|Sr<|Dd aD<|Dd aO<|Zz<|Sr<|Dd aD<|Dd aD<|Dd aD<|Dd (e8 cC)<|Dd (fM isAgg9)<|Dd (by exact eT rfl rfl rfl (hfo))<|Zz ?_;refine Cn ?_ ?_<;>intro hc2
  ·refine Sr<|Dd aD<|Dd aO<|Zz<|aC ?_;exact cZ (H':=Hs (k+1)) (.inr rfl) rfl (aN rfl) Fin.refl ⟨by rw [QF,IL hlt hc2 hno],by rw [GY,IL hlt hc2 hno]⟩
  refine aB<|Rg<|Dd eL<|Dd aD<|Zz ?_;refine⟨k+1,⟨by omega,fun j hj=>?_⟩,by omega,E0⟩;by_cases e:j=k
  ·subst e;exact hc2
  exact hno j (by omega)
 have hge:k=l.length:=by have:=aIo hc1;omega
 subst hge;refine aZ<|Sr<|Dd aO<|Zz<|aC ?_;exact cZ (H':=Hs l.length) (.inr rfl) rfl (aN rfl) Fin.refl ⟨by rw [QF,IM hno],by rw [GY,IM hno]⟩
theorem XF (p:Nat→Bool) (n:Nat):decide (0≤QF p n)=(List.range n).any p:=by
 unfold QF;cases h:(List.range n).find? p with
 | none =>
  have:(List.range n).any p=false:=by
   rw [List.find?_eq_none] at h;rw [List.any_eq_false];exact h
  simp [this]
 | some i =>
  have:(List.range n).any p=true:=List.any_eq_true.2 ⟨i,List.mem_of_find?_eq_some h,List.find?_some h⟩;simp [this]
theorem pS (fv:AV) (l:List ByteArray) (p:Nat→Bool) (Hs:Nat→aE) (hl:l.length < 4611686018427387904) (hf:∀ k s,l[k]?=some s→dN Tryz.prog fv [sv s] (Hs k) (fun r H'=>r=bv (p k)∧H'=Hs (k+1))) :
  aH Tryz.prog 101 [.pv (cS l),fv] (Hs 0) (fun r H'=>r=bv ((List.range l.length).any p)∧H'=Hs (GY p l.length)):=by
 refine Bd func101 rfl ntmps101<|Sr<|Dd aO<|Zz<|Sr<|Dd aD<|Dd aD<|Dd (by exact aA rfl rfl call155 rfl (ST fv l p Hs hl hf))<|Dd wP<|Dd aO<|Zz<|aC ?_;exact cZ (H':=Hs (GY p l.length)) (.inr rfl) rfl (aN rfl) Fin.refl ⟨by rw [XF],rfl⟩
end Go.Proofs.YtlnfjkdacimblaaGreatDoor
