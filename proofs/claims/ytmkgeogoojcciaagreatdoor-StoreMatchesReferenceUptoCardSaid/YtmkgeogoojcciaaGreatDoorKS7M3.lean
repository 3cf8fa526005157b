/-
  Parts of the proof: rules of an abstract program logic, contracts of functions, plain laws. Conditions: each theorem's own.
-/
import Derived.Test.YtmkgeogoojcciaaGreatDoorKS7M2
import Derived.Test.YtmkgeogoojcciaaGreatDoorRows
import Derived.OpenShut
import Derived.JoinedCond
import Derived.Carry
import Derived.MapKept
import Derived.Laws.IdiomRangeMap
import Derived.Lib.Bytealg
import Derived.Shelf.SortM.Plain
import Derived.Shelf.SortM.SortNone
import Derived.Ground.SlgmProg
import Derived.Shelf.Strconv.Itoa3
import Derived.Shelf.Bits.Mul64
import Derived.Shelf.LaysM
import Derived.Ground.NamesProg
set_option linter.unusedVariables false
set_option linter.unusedSimpArgs false
set_option maxRecDepth 100000
set_option maxHeartbeats 8000000
namespace Go.Proofs
theorem aC5:type_of% Tryz.isAgg0:=Tryz.isAgg0
theorem DQ:type_of% Tryz.isAgg150:=Tryz.isAgg150
theorem RC:type_of% Tryz.isAgg191:=Tryz.isAgg191
theorem aHH:type_of% Tryz.isAgg20:=Tryz.isAgg20
theorem aL:type_of% Tryz.isAgg3:=Tryz.isAgg3
theorem cK:type_of% Tryz.isAgg4:=Tryz.isAgg4
theorem rM:type_of% Tryz.isAgg5:=Tryz.isAgg5
theorem gL:type_of% Tryz.isAgg50:=Tryz.isAgg50
theorem aQ:type_of% Tryz.isAgg9:=Tryz.isAgg9
theorem sP:type_of% Tryz.isAgg93:=Tryz.isAgg93
theorem Y6:type_of% Tryz.sizeOf0:=Tryz.sizeOf0
theorem AO:type_of% Tryz.sizeOf103:=Tryz.sizeOf103
theorem aF6:type_of% Tryz.sizeOf127:=Tryz.sizeOf127
theorem aF5:type_of% Tryz.sizeOf136:=Tryz.sizeOf136
theorem AN:type_of% Tryz.sizeOf150:=Tryz.sizeOf150
theorem NW:type_of% Tryz.sizeOf191:=Tryz.sizeOf191
theorem aG1:type_of% Tryz.sizeOf20:=Tryz.sizeOf20
theorem aG0:type_of% Tryz.sizeOf37:=Tryz.sizeOf37
theorem eL:type_of% Tryz.sizeOf5:=Tryz.sizeOf5
theorem qC:type_of% Tryz.sizeOf93:=Tryz.sizeOf93
theorem EL:type_of% Tryz.underlying0:=Tryz.underlying0
theorem AM:type_of% Tryz.underlying100:=Tryz.underlying100
theorem TT:type_of% Tryz.underlying103:=Tryz.underlying103
theorem rJ:type_of% Tryz.underlying105:=Tryz.underlying105
theorem iE:type_of% Tryz.underlying107:=Tryz.underlying107
theorem jV:type_of% Tryz.underlying110:=Tryz.underlying110
theorem TS:type_of% Tryz.underlying127:=Tryz.underlying127
theorem TR:type_of% Tryz.underlying138:=Tryz.underlying138
theorem iD:type_of% Tryz.underlying150:=Tryz.underlying150
theorem AJ:type_of% Tryz.underlying191:=Tryz.underlying191
theorem Y5:type_of% Tryz.underlying20:=Tryz.underlying20
theorem sO:type_of% Tryz.underlying22:=Tryz.underlying22
theorem cJ:type_of% Tryz.underlying3:=Tryz.underlying3
theorem aO:type_of% Tryz.underlying31:=Tryz.underlying31
theorem bY:type_of% Tryz.underlying35:=Tryz.underlying35
theorem kM:type_of% Tryz.underlying37:=Tryz.underlying37
theorem lS:type_of% Tryz.underlying4:=Tryz.underlying4
theorem bV:type_of% Tryz.underlying5:=Tryz.underlying5
theorem cL:type_of% Tryz.underlying50:=Tryz.underlying50
theorem aW:type_of% Tryz.underlying66:=Tryz.underlying66
theorem Y4:type_of% Tryz.underlying70:=Tryz.underlying70
theorem nS:type_of% Tryz.underlying72:=Tryz.underlying72
theorem Y3:type_of% Tryz.underlying75:=Tryz.underlying75
theorem sN:type_of% Tryz.underlying77:=Tryz.underlying77
theorem sM:type_of% Tryz.underlying80:=Tryz.underlying80
theorem aC:type_of% Tryz.underlying9:=Tryz.underlying9
theorem fQ:type_of% Tryz.underlying93:=Tryz.underlying93
theorem Y1:type_of% Tryz.underlying96:=Tryz.underlying96
theorem ID:type_of% Tryz.zeroValue0:=Tryz.zeroValue0
theorem Y0:type_of% Tryz.zeroValue103:=Tryz.zeroValue103
theorem YZ:type_of% Tryz.zeroValue127:=Tryz.zeroValue127
theorem sL:type_of% Tryz.zeroValue150:=Tryz.zeroValue150
theorem CF:type_of% Tryz.zeroValue191:=Tryz.zeroValue191
theorem aCS:type_of% Tryz.zeroValue20:=Tryz.zeroValue20
theorem qO:type_of% Tryz.zeroValue3:=Tryz.zeroValue3
theorem aCR:type_of% Tryz.zeroValue31:=Tryz.zeroValue31
theorem IC:type_of% Tryz.zeroValue4:=Tryz.zeroValue4
theorem mZ:type_of% Tryz.zeroValue5:=Tryz.zeroValue5
theorem aCQ:type_of% Tryz.zeroValue50:=Tryz.zeroValue50
theorem gM:type_of% Tryz.zeroValue9:=Tryz.zeroValue9
theorem pA:type_of% Tryz.zeroValue93:=Tryz.zeroValue93
end Go.Proofs
namespace Go.Abs
section
section
variable {P:Program} {G0:aE} {N:Nat} {o:Oper} {E:bZ} {H H2:aE} {v:AV} {Q:Exit→bZ→aE→Prop} {T e t t':TypeId} {x y:Operand} {id g i:Nat} {ob:Ob}
theorem Dd {ops:Array Oper} {K:bZ→aE→Prop} {rest:List Oper} {d:Tmp} {op:Op} {ty:TypeId} {pos:String} {af:Array Edge} (h:bS P N ⟨some d,op,ty,pos,af,none⟩ E H v H2) (hk:AL P G0 N ops K rest ((d,v)::E) H2) (hn:Nat.blt d N=true:=by rfl):AL P G0 N ops K (⟨some d,op,ty,pos,af,none⟩::rest) E H:=aHD rfl rfl hn h hk
theorem Uu {ops:Array Oper} {K:bZ→aE→Prop} {rest:List Oper} {op:Op} {ty:TypeId} {pos:String} {af:Array Edge} (h:bS P N ⟨none,op,ty,pos,af,none⟩ E H v H2) (hk:AL P G0 N ops K rest E H2):AL P G0 N ops K (⟨none,op,ty,pos,af,none⟩::rest) E H:=aHC rfl rfl h hk
theorem Sq {x y:Code} (h:iF P G0 N x (sG (iF P G0 N y Q) Q) E H):iF P G0 N (.seq x y) Q E H:=B7 h
theorem Rg {id:Nat} {ops:Array Oper} (h:AL P G0 N ops (fun E H=>Q .normal E H) ops.toList E H):iF P G0 N (.region id ops false) Q E H:=HU h
theorem Zz {ops:Array Oper} {K:bZ→aE→Prop} (h:K E H):AL P G0 N ops K [] E H:=aF2 h
theorem aB (ho:o.op=.move x:=by rfl) (hx:aS E x=some v:=by rfl):bS P N o E H v H:=tL ho hx
theorem aR (ho:o.op=.assign x:=by rfl) (hx:aS E x=some v:=by rfl):bS P N o E H v H:=GK ho hx
theorem Sr {id:Nat} {ops:Array Oper} {y:Code} (h:AL P G0 N ops (fun E H=>sG (iF P G0 N y Q) Q .normal E H) ops.toList E H):iF P G0 N (.seq (.region id ops false) y) Q E H:=Sq (Rg h)
theorem Dm {ops:Array Oper} {K:bZ→aE→Prop} {rest:List Oper} {d:Tmp} {op:Op} {ty:TypeId} {pos:String} {af:Array Edge} (hk:AL P G0 N ops K rest ((d,v)::E) H) (ho:op=.move x:=by rfl) (hx:aS E x=some v:=by rfl) (hn:Nat.blt d N=true:=by rfl):AL P G0 N ops K (⟨some d,op,ty,pos,af,none⟩::rest) E H:=Dd (tL ho hx) hk hn
theorem Da {ops:Array Oper} {K:bZ→aE→Prop} {d:Tmp} {op:Op} {ty:TypeId} {pos:String} {af:Array Edge} (hk:K ((d,v)::E) H) (ho:op=.assign x:=by rfl) (hx:aS E x=some v:=by rfl) (hn:Nat.blt d N=true:=by rfl):AL P G0 N ops K [⟨some d,op,ty,pos,af,none⟩] E H:=Dd (GK ho hx) (Zz hk) hn
theorem Kr {a b:Prop} (h:b) (h1:a:=by kernel_rfl):a∧b:=⟨h1,h⟩
theorem Qq {α β:Type} {a:α} {b:β}:a=a∧b=b:=⟨rfl,rfl⟩
theorem Pu {f:FuncId} {args:List AV} {r0:AV} (h:aK P f args [] (fun r H=>r=r0∧H=[])) (hp:∀ a∈args,Clo [] a:=by simp):aK P f args H (fun r H'=>r=r0∧H'=H):=aK.pure h hp H
theorem eC {vs:List AV} {n:Nat} (ho:o.op=.extract x n:=by rfl) (hx:aS E x=some (.tup vs):=by rfl) (hv:vs[n]?=some v:=by rfl):bS P N o E H v H:=PH ho hx hv
theorem cI {S off:TypeId} {k k2 f:Nat} (hF:cT P S f off) (ho:o.op=.fieldAddr S x f:=by rfl) (hx:aS E x=some (.ref id g i k):=by rfl) (hH:H.get id=some ob:=by rfl) (hg:ob.g=g:=by rfl) (hk:k+off=k2:=by rfl):bS P N o E H (.ref id g i k2) H:=kE ho hF hx hH hg hk
theorem cW {k:Nat} {r:List AV} (ha:∀ w,(isAgg T).run P w=.ok false w) (ho:o.op=.load T x:=by rfl) (hx:aS E x=some (.ref id g i k):=by rfl) (hH:H.get id=some ob:=by rfl) (hg:ob.g=g:=by rfl) (hi:ob.rows[i]?=some r:=by rfl) (hk:r[k]?=some v:=by rfl):bS P N o E H v H:=bH ho ha hx hH hg hi hk
theorem ln' {n k:Nat} {r cs:List AV} (ha:∀ w,(isAgg T).run P w=.ok true w) (hs:∀ w,(sizeOf T).run P w=.ok n w) (ho:o.op=.load T x:=by rfl) (hx:aS E x=some (.ref id g i k):=by rfl) (hH:H.get id=some ob:=by rfl) (hg:ob.g=g:=by rfl) (hi:ob.rows[i]?=some r:=by rfl) (hk:(r.drop k).take n=cs:=by rfl) (hl:cs.length=n:=by rfl):bS P N o E H (.agg cs) H:=eW ho ha hs hx hH hg hi hk hl
theorem vJ {cells r:List AV} {n:Nat} (hs:∀ w,(sizeOf T).run P w=.ok n w) (ho:o.op=.store T x y:=by rfl) (hx:aS E x=some (.ref id g 0 0):=by rfl) (hy:aS E y=some v:=by rfl) (hc:LC v=some cells:=by rfl) (hn:cells.length=n:=by rfl) (hH:H.get id=some ob:=by rfl) (hg:ob.g=g:=by rfl) (hi:ob.rows=[r]:=by rfl) (hk:r.length=n:=by rfl):bS P N o E H .any ((id,⟨g,ob.sz,ob.ty,[cells]⟩)::H):=mM ho hs hx hy hc hn hH hg hi hk
theorem jY {rows:List (List PV)} (ht:P.underlying T=some (.slice e)) (ho:o.op=.call {callee:=.builtin .len,args:=#[x],argTypes:=#[T]}:=by rfl) (hx:aS E x=some (.pv (.sl rows)):=by rfl):bS P N o E H (.pv (.int .i64 rows.length)) H:=SL ho ht hx
theorem sU {rows:List (List PV)} {r:List PV} {kk:IntKind} {n:Int} {m sz:Nat} (hS:fP P T e sz) (ho:o.op=.indexAddr T x y:=by rfl) (hx:aS E x=some (.pv (.sl rows)):=by rfl) (hy:aS E y=some (.pv (.int kk n)):=by rfl) (h0:0≤n:=by omega) (hm:n.toNat=m:=by exact aIC _) (hi:rows[m]?=some r:=by assumption) (hl:r.length=sz:=by rfl):bS P N o E H (.pad rows m 0) H:=aZ ho hS hx hy h0 hm hi hl
theorem RA {parts:Array (Nat×Operand)} {places:List (Nat×Nat)} {l0 l:List AV} {aps:List (Nat×AV)} (hB:nQ P T places l0) (ho:o.op=.build T parts:=by rfl) (hp:lR E parts.toList=some aps:=by rfl) (hf:vH (fun i=>places[i]?) l0 aps=some l:=by rfl):bS P N o E H (.agg l) H:=LI ho hB hp hf
theorem cP {k:IntKind} {n m:Int} (ho:o.op=.binOp .lss t x y t':=by rfl) (hx:aS E x=some (.pv (.int k n)):=by rfl) (hy:aS E y=some (.pv (.int k m)):=by rfl):bS P N o E H (.pv (.bool (decide (n < m)))) H:=dB ho hx hy
theorem eP {k:IntKind} {n m:Int} (ho:o.op=.binOp .eql t x y t':=by rfl) (hx:aS E x=some (.pv (.int k n)):=by rfl) (hy:aS E y=some (.pv (.int k m)):=by rfl):bS P N o E H (.pv (.bool (decide (n=m)))) H:=rV ho hx hy
theorem Cq {ops rest:List Oper} {K:List Rec→bZ→aE→Prop} {dst:Option Tmp} {op:Op} {ty:TypeId} {pos:String} {af:Array Edge} (h:bS P N ⟨dst,op,ty,pos,af,none⟩ (restr E (eY ops ⟨dst,op,ty,pos,af,none⟩)) H v H) (hk:DC P N ops rest (jD E dst v) H (fun rs E' H'=>K (⟨v,none,[]⟩::rs) E' H')) (hd:jZ N dst=true:=by rfl):DC P N ops (⟨dst,op,ty,pos,af,none⟩::rest) E H K:=dI (DStep.q rfl h) hd hk
theorem Cp {ops rest:List Oper} {K:List Rec→bZ→aE→Prop} {dst:Option Tmp} {op:Op} {ty:TypeId} {pos:String} {af:Array Edge} (R:List Nat) {w:Nat×Ob} (h:∀ H1:aE,(∀ id,rR (some R) id=true→H1.get id=H.get id)→bS P N ⟨dst,op,ty,pos,af,none⟩ (restr E (eY ops ⟨dst,op,ty,pos,af,none⟩)) H1 v (w::H1)) (hk:DC P N ops rest (jD E dst v) (w::H) (fun rs E' H'=>K (⟨v,some R,[w]⟩::rs) E' H')) (hd:jZ N dst=true:=by rfl):DC P N ops (⟨dst,op,ty,pos,af,none⟩::rest) E H K:=dI (r:=⟨v,some R,[w]⟩) (DStep.plain rfl h) hd hk
theorem Cr {ops rest:List Oper} {K:List Rec→bZ→aE→Prop} {dst:Option Tmp} {op:Op} {ty:TypeId} {pos:String} {af:Array Edge} (R:List Nat) (h:∀ H1:aE,(∀ id,rR (some R) id=true→H1.get id=H.get id)→bS P N ⟨dst,op,ty,pos,af,none⟩ (restr E (eY ops ⟨dst,op,ty,pos,af,none⟩)) H1 v H1) (hk:DC P N ops rest (jD E dst v) H (fun rs E' H'=>K (⟨v,some R,[]⟩::rs) E' H')) (hd:jZ N dst=true:=by rfl):DC P N ops (⟨dst,op,ty,pos,af,none⟩::rest) E H K:=dI (r:=⟨v,some R,[]⟩) (DStep.plain rfl h) hd hk
theorem Cs {ops rest:List Oper} {K:List Rec→bZ→aE→Prop} {dst:Option Tmp} {op:Op} {ty:TypeId} {pos:String} {af:Array Edge} (h:∀ H1:aE,(∀ id,rR none id=true→H1.get id=H.get id)→bS P N ⟨dst,op,ty,pos,af,none⟩ (restr E (eY ops ⟨dst,op,ty,pos,af,none⟩)) H1 v H1) (hk:DC P N ops rest (jD E dst v) H (fun rs E' H'=>K (⟨v,none,[]⟩::rs) E' H')) (hd:jZ N dst=true:=by rfl):DC P N ops (⟨dst,op,ty,pos,af,none⟩::rest) E H K:=dI (r:=⟨v,none,[]⟩) (DStep.plain rfl h) hd hk
theorem Ot {ops rest:List Oper} {K:List Rec→bZ→aE→Prop} {dst:Option Tmp} {op:Op} {ty:TypeId} {pos:String} {af:Array Edge} {j:Nat} {t:Tmp} {b:Bool} (hk:DC P N ops rest (jD E dst (.tup [])) H (fun rs E' H'=>K (⟨.tup [],some [],[]⟩::rs) E' H')) (hj:gV ops j=some t:=by rfl) (hb:E.get t=some (.pv (.bool b)):=by rfl) (hw:b=false:=by first|rfl|assumption) (hd:jZ N dst=true:=by rfl):DC P N ops (⟨dst,op,ty,pos,af,some (j,true)⟩::rest) E H K:=dI (aDN rfl hj hb hw) hd hk
theorem Of {ops rest:List Oper} {K:List Rec→bZ→aE→Prop} {dst:Option Tmp} {op:Op} {ty:TypeId} {pos:String} {af:Array Edge} {j:Nat} {t:Tmp} {b:Bool} (hk:DC P N ops rest (jD E dst (.tup [])) H (fun rs E' H'=>K (⟨.tup [],some [],[]⟩::rs) E' H')) (hj:gV ops j=some t:=by rfl) (hb:E.get t=some (.pv (.bool b)):=by rfl) (hw:b=true:=by first|rfl|assumption) (hd:jZ N dst=true:=by rfl):DC P N ops (⟨dst,op,ty,pos,af,some (j,false)⟩::rest) E H K:=dI (aDO rfl hj hb hw) hd hk
theorem Ou {ops rest:List Oper} {K:List Rec→bZ→aE→Prop} {dst:Option Tmp} {op:Op} {ty:TypeId} {pos:String} {af:Array Edge} {j:Nat} {t:Tmp} {w:Bool} (hk:DC P N ops rest (jD E dst (.tup [])) H (fun rs E' H'=>K (⟨.tup [],some [],[]⟩::rs) E' H')) (hj:gV ops j=some t:=by rfl) (hb:E.get t=some (.tup []):=by rfl) (hd:jZ N dst=true:=by rfl):DC P N ops (⟨dst,op,ty,pos,af,some (j,w)⟩::rest) E H K:=dI (aDM rfl hj hb) hd hk
theorem On {ops:Array Oper} {K:bZ→aE→Prop} {rest:List Oper} {d:Tmp} {op:Op} {ty:TypeId} {pos:String} {af:Array Edge} {j:Nat} {want b:Bool} {t:Tmp} (h:bS P N ⟨some d,op,ty,pos,af,some (j,want)⟩ E H v H2) (hk:AL P G0 N ops K rest ((d,v)::E) H2) (hj:gV ops.toList j=some t:=by rfl) (hb:E.get t=some (.pv (.bool b)):=by rfl) (hw:b=want:=by rfl) (hn:Nat.blt d N=true:=by rfl):AL P G0 N ops K (⟨some d,op,ty,pos,af,some (j,want)⟩::rest) E H:=aCN rfl hj hb hw rfl hn h hk
theorem Fo {ops:Array Oper} {K:bZ→aE→Prop} {rest:List Oper} {dst:Option Tmp} {op:Op} {ty:TypeId} {pos:String} {af:Array Edge} {j:Nat} {want b:Bool} {t:Tmp} (hk:AL P G0 N ops K rest (jD E dst (.tup [])) H) (hj:gV ops.toList j=some t:=by rfl) (hb:E.get t=some (.pv (.bool b)):=by rfl) (hw:b=!want:=by rfl) (hd:jZ N dst=true:=by rfl):AL P G0 N ops K (⟨dst,op,ty,pos,af,some (j,want)⟩::rest) E H:=aCO rfl hj hb hw hd hk
theorem Oa {ops:Array Oper} {K:bZ→aE→Prop} {rest:List Oper} {d:Tmp} {op:Op} {ty:TypeId} {pos:String} {af:Array Edge} {j:Nat} {want b:Bool} {t:Tmp} (h:bS P N ⟨some d,op,ty,pos,af,some (j,want)⟩ E H v H2) (hk:AL P G0 N ops K rest ((d,v)::E) H2) (hj:gV ops.toList j=some t:=by rfl) (hb:E.get t=some (.pv (.bool b)):=by rfl) (hw:b=want:=by assumption) (hn:Nat.blt d N=true:=by rfl):AL P G0 N ops K (⟨some d,op,ty,pos,af,some (j,want)⟩::rest) E H:=aCN rfl hj hb hw rfl hn h hk
theorem Fa {ops:Array Oper} {K:bZ→aE→Prop} {rest:List Oper} {dst:Option Tmp} {op:Op} {ty:TypeId} {pos:String} {af:Array Edge} {j:Nat} {want b:Bool} {t:Tmp} (hk:AL P G0 N ops K rest (jD E dst (.tup [])) H) (hj:gV ops.toList j=some t:=by rfl) (hb:E.get t=some (.pv (.bool b)):=by rfl) (hw:b=!want:=by assumption) (hd:jZ N dst=true:=by rfl):AL P G0 N ops K (⟨dst,op,ty,pos,af,some (j,want)⟩::rest) E H:=aCO rfl hj hb hw hd hk
section
variable {R:Option (List Nat)} {H1:aE}
theorem fh {S off:TypeId} {k k2 f:Nat} (hF:cT P S f off) (h:∀ id,rR R id=true→H1.get id=H.get id) (ho:o.op=.fieldAddr S x f:=by rfl) (hx:aS E x=some (.ref id g i k):=by rfl) (hm:rR R id=true:=by rfl) (hH:H.get id=some ob:=by rfl) (hg:ob.g=g:=by rfl) (hk:k+off=k2:=by rfl):bS P N o E H1 (.ref id g i k2) H1:=kE ho hF hx ((h _ hm).trans hH) hg hk
theorem lh {k:Nat} {r:List AV} (ha:∀ w,(isAgg T).run P w=.ok false w) (h:∀ id,rR R id=true→H1.get id=H.get id) (ho:o.op=.load T x:=by rfl) (hx:aS E x=some (.ref id g i k):=by rfl) (hm:rR R id=true:=by rfl) (hH:H.get id=some ob:=by rfl) (hg:ob.g=g:=by rfl) (hi:ob.rows[i]?=some r:=by rfl) (hk:r[k]?=some v:=by rfl):bS P N o E H1 v H1:=bH ho ha hx ((h _ hm).trans hH) hg hi hk
end
section
variable {k:IntKind} {n m:Int} {s u:ByteArray} {b:Bool} {rows:List (List PV)} {r:List PV} {i j q f F:Nat}
theorem pY (ho:o.op=.unOp .not t x:=by rfl) (hx:aS E x=some (.pv (.bool b)):=by rfl):bS P N o E H (.pv (.bool (!b))) H:=aDV ho hx
theorem tM (ho:o.op=.binOp .neq t x y t':=by rfl) (hx:aS E x=some (.pv (.int k n)):=by rfl) (hy:aS E y=some (.pv (.int k m)):=by rfl):bS P N o E H (.pv (.bool (!decide (n=m)))) H:=gB ho hx hy
theorem yP (ho:o.op=.binOp .gtr t x y t':=by rfl) (hx:aS E x=some (.pv (.int k n)):=by rfl) (hy:aS E y=some (.pv (.int k m)):=by rfl):bS P N o E H (.pv (.bool (decide (m < n)))) H:=eF ho hx hy
theorem le' (ho:o.op=.binOp .leq t x y t':=by rfl) (hx:aS E x=some (.pv (.int k n)):=by rfl) (hy:aS E y=some (.pv (.int k m)):=by rfl):bS P N o E H (.pv (.bool (decide (n≤m)))) H:=BG ho hx hy
theorem CD (ho:o.op=.binOp .geq t x y t':=by rfl) (hx:aS E x=some (.pv (.int k n)):=by rfl) (hy:aS E y=some (.pv (.int k m)):=by rfl):bS P N o E H (.pv (.bool (decide (m≤n)))) H:=uO ho hx hy
theorem se' (ho:o.op=.binOp .eql t x y t':=by rfl) (hx:aS E x=some (.pv (.str s)):=by rfl) (hy:aS E y=some (.pv (.str u)):=by rfl):bS P N o E H (.pv (.bool (decide (s=u)))) H:=oV ho hx hy
theorem ZG (ho:o.op=.binOp .neq t x y t':=by rfl) (hx:aS E x=some (.pv (.str s)):=by rfl) (hy:aS E y=some (.pv (.str u)):=by rfl):bS P N o E H (.pv (.bool (!decide (s=u)))) H:=iW ho hx hy
theorem rL (ho:o.op=.binOp .add t x y t':=by rfl) (hx:aS E x=some (.pv (.int .i64 n)):=by rfl) (hy:aS E y=some (.pv (.int .i64 m)):=by rfl) {r:Int} (hr:IntKind.i64.wrap (n+m)=r:=by exact eS (by omega) (by omega)):bS P N o E H (.pv (.int .i64 r)) H:=bA ho hx hy hr
theorem fp' {S off:TypeId} {q2:Nat} (hF:cT P S f off) (ho:o.op=.fieldAddr S x f:=by rfl) (hx:aS E x=some (.pad rows i q):=by rfl) (hk:q+off=q2:=by rfl):bS P N o E H (.pad rows i q2) H:=IS ho hF hx hk
theorem gW {p:PV} (ha:∀ w,(isAgg T).run P w=.ok false w) (ho:o.op=.load T x:=by rfl) (hx:aS E x=some (.pad rows i q):=by rfl) (hi:rows[i]?=some r:=by first|assumption|omega) (hk:r[q]?=some p:=by rfl):bS P N o E H (.pv p) H:=IP ho ha hx hi hk
theorem SA {c:Operand} (ho:o.op=.pick c x y:=by rfl) (hc:aS E c=some (.pv (.bool b)):=by rfl) (hb:b=true:=by assumption) (hv:aS E x=some v:=by rfl):bS P N o E H v H:=XH ho hc hb hv
theorem D1 {c:Operand} (ho:o.op=.pick c x y:=by rfl) (hc:aS E c=some (.pv (.bool b)):=by rfl) (hb:b=false:=by assumption) (hv:aS E y=some v:=by rfl):bS P N o E H v H:=XI ho hc hb hv
theorem cX {c:Operand} (ho:o.op=.pick c x y:=by rfl) (hc:aS E c=some (.pv (.bool b)):=by rfl) (hv:aS E (if b then x else y)=some v:=by rfl):bS P N o E H v H:=wH ho hc hv
theorem mD (ht:P.underlying T=some .string) (ho:o.op=.call {callee:=.builtin .len,args:=#[x],argTypes:=#[T]}:=by rfl) (hx:aS E x=some (.pv (.str s)):=by rfl):bS P N o E H (.pv (.int .i64 s.size)) H:=PG ho ht hx
theorem dY {q:Nat} (ho:o.op=.nilCheck x:=by rfl) (hx:aS E x=some (.ref id g i q):=by rfl) (hH:H.get id=some ob:=by rfl) (hg:ob.g=g:=by rfl):bS P N o E H (.ref id g i q) H:=bK ho hx hH hg
end
section
variable {G0:aE} {fn:Func} {Q:AV→aE→Prop} {q:Exit} {r r1 r2:AV} {t1 t2:Tmp}
theorem Rt (hq:Q r []) (hf:fn.results=#[.tmp t1]:=by rfl) (ht:E.get t1=some r:=by rfl) (hc:Clo [] r:=by simp):Q6 P fn [] Q .ret E H:=bI (.inr rfl) hf (aI ht) (Fin.wk hc trivial trivial) hq
theorem Ru (hq:Q (.tup [r1,r2]) []) (hf:fn.results=#[.tmp t1,.tmp t2]:=by rfl) (ht:E.get t1=some r1:=by rfl) (hu:E.get t2=some r2:=by rfl) (hc:Clo [] (.tup [r1,r2]):=by simp):Q6 P fn [] Q .ret E H:=fF (.inr rfl) hf (aI ht) (aI hu) (Fin.wk hc trivial trivial) hq
theorem rl' {T:TypeId} {n i k:Nat} {cells cs:List AV} (ha:∀ w,(isAgg T).run P w=.ok true w) (hs:∀ w,(sizeOf T).run P w=.ok n w) (hx:E.get t1=some (.ref id g i k):=by rfl) (hH:H.get id=some ob:=by rfl) (hg:ob.g=g:=by rfl) (hi:ob.rows[i]?=some cells:=by rfl) (hk:(cells.drop k).take n=cs:=by rfl) (hl:cs.length=n:=by rfl):N5 P E H (.cell t1 T) (.agg cs):=mR hx ha hs hH hg hi hk hl
theorem Bd {f:FuncId} {c:Code} {args:List AV} (hf:P.funcs[f]?=some fn) (hb:fn.body=some c) (hN:fn.ntmps=N) (h:iF P H N c (Q6 P fn H Q) (wV args) H) (hlen:args.length≤N:=by exact aIE rfl):aK P f args H Q:=aK.body hf hb hN hlen h
end
section
variable {Q:Exit→bZ→aE→Prop} {b:Bool} {E':bZ} {H':aE}
theorem Cn {c:Operand} {x y:Code} (h1:b=true→iF P G0 N x Q E H) (h2:b=false→iF P G0 N y Q E H) (hc:aS E c=some (.pv (.bool b)):=by rfl):iF P G0 N (.cond c x y) Q E H:=aBy hc h1 h2
theorem Sp (t:Tmp) {ops:Array Oper} {l:List Oper} {K:bZ→aE→Prop} (h1:b=true→AL P G0 N ops K l ((t,.pv (.bool true))::E) H) (h2:b=false→AL P G0 N ops K l ((t,.pv (.bool false))::E) H) (hb:E.get t=some (.pv (.bool b)):=by rfl):AL P G0 N ops K l E H:=aCM hb h1 h2
theorem Wk (hE:EOk E H' E':=by repeat' first|exact trivial|refine⟨⟨_,rfl,rfl⟩,?_,?_⟩|(simp;done)|(simp;rfl)) (hH:N8 H H' H':=by repeat' first|exact trivial|refine⟨⟨_,rfl,rfl⟩,?_,?_⟩|(simp;done)|(simp;rfl)) (hk:ZD H' H G0:=by repeat' first|exact trivial|refine⟨rfl,?_⟩):cC G0 E H E' H':=cC.wk hE hH hk
theorem E0 (h:aCY E E':=by repeat' first|exact trivial|refine⟨⟨_,rfl,rfl⟩,?_⟩):cC G0 E H E' H:=cC.e0 h
end
section
variable {ops rest:List Oper} {K:List Rec→bZ→aE→Prop} {dst:Option Tmp} {op:Op} {ty:TypeId} {pos:String} {af:Array Edge} {j:Nat} {t:Tmp} {b:Bool}
theorem Nt (h:bS P N ⟨dst,op,ty,pos,af,some (j,true)⟩ (restr E (eY ops ⟨dst,op,ty,pos,af,some (j,true)⟩)) H v H) (hk:DC P N ops rest (jD E dst v) H (fun rs E' H'=>K (⟨v,none,[]⟩::rs) E' H')) (hj:gV ops j=some t:=by rfl) (hb:E.get t=some (.pv (.bool b)):=by rfl) (hw:b=true:=by first|rfl|assumption) (hd:jZ N dst=true:=by rfl):DC P N ops (⟨dst,op,ty,pos,af,some (j,true)⟩::rest) E H K:=dI (aEy rfl hj hb hw h) hd hk
theorem Nf (h:bS P N ⟨dst,op,ty,pos,af,some (j,false)⟩ (restr E (eY ops ⟨dst,op,ty,pos,af,some (j,false)⟩)) H v H) (hk:DC P N ops rest (jD E dst v) H (fun rs E' H'=>K (⟨v,none,[]⟩::rs) E' H')) (hj:gV ops j=some t:=by rfl) (hb:E.get t=some (.pv (.bool b)):=by rfl) (hw:b=false:=by first|rfl|assumption) (hd:jZ N dst=true:=by rfl):DC P N ops (⟨dst,op,ty,pos,af,some (j,false)⟩::rest) E H K:=dI (aEz rfl hj hb hw h) hd hk
end
theorem Zl:(∀ {α:Type} (a:α) (l:List α) (i:Nat),(a::l).drop (i+1)=l.drop i)∧(∀ {α:Type} (l:List α),l.drop 0=l)∧(∀ {α:Type} (a:α) (l:List α) (i:Nat),(a::l).take (i+1)=a::l.take i)∧(∀ {α:Type} (l:List α),l.take 0=[])∧(∀ {α:Type} (i:Nat),([]:List α).take i=[]) ∧
  (∀ {α β:Type} (f:α→β) (a:α) (l:List α),(a::l).map f=f a::l.map f)∧(∀ {α β:Type} (f:α→β),[].map f=[])∧(∀ {α:Type} (a b:α) (l:List α),(a::l).set 0 b=b::l)∧(∀ {α:Type} (a b:α) (l:List α) (i:Nat),(a::l).set (i+1) b=a::l.set i b) ∧
  (∀ {α:Type} (a:α) (l l2:List α),(a::l)++l2=a::(l++l2))∧(∀ {α:Type} (l:List α),[]++l=l) :=
 ⟨fun _ _ _=>rfl,fun _=>rfl,fun _ _ _=>rfl,fun l=>by simp,fun _=>by simp,fun _ _ _=>rfl,fun _=>rfl,fun _ _ _=>rfl,fun _ _ _ _=>rfl,fun _ _ _=>rfl,fun _=>rfl⟩
theorem Zo:(∀ b:Bool,(false&&b)=false)∧(∀ b:Bool,(true&&b)=b)∧(∀ b:Bool,(b&&false)=false)∧(∀ b:Bool,(b&&true)=b)∧(∀ b:Bool,(true||b)=true)∧(∀ b:Bool,(false||b)=b)∧(∀ b:Bool,(b||true)=true)∧(∀ b:Bool,(b||false)=b)∧(!true)=false∧(!false)=true:=by simp
end
theorem Ea {E:bZ} {H':aE} {t:Nat} {v:AV} {L:bZ} (r:EOk E H' L) (h1:∃ v0,E.get t=some v0∧v0=v:=by exact⟨_,rfl,rfl⟩) (h2:Clo H' v:=by simp;rfl):EOk E H' ((t,v)::L):=⟨h1,h2,r⟩
theorem Eb {E:bZ} {H':aE} {t:Nat} {v:AV} {L:bZ} (r:EOk E H' L) (h1:∃ v0,E.get t=some v0∧v0=v:=by exact⟨_,rfl,rfl⟩) (h2:Clo H' v:=by simp):EOk E H' ((t,v)::L):=⟨h1,h2,r⟩
theorem Ec {E:bZ} {H':aE} {t:Nat} {v:AV} {L:bZ} (h2:Clo H' v) (r:EOk E H' L) (h1:∃ v0,E.get t=some v0∧v0=v:=by exact⟨_,rfl,rfl⟩):EOk E H' ((t,v)::L):=⟨h1,h2,r⟩
theorem Ha {H H':aE} {t:Nat} {o:Ob} {L:aE} (r:N8 H H' L) (h1:∃ v0,H.get t=some v0∧v0=o:=by exact⟨_,rfl,rfl⟩) (h2:∀ r∈o.rows,∀ a∈r,Clo H' a:=by simp;rfl):N8 H H' ((t,o)::L):=⟨h1,h2,r⟩
theorem Hb {H H':aE} {t:Nat} {o:Ob} {L:aE} (r:N8 H H' L) (h1:∃ v0,H.get t=some v0∧v0=o:=by exact⟨_,rfl,rfl⟩) (h2:∀ r∈o.rows,∀ a∈r,Clo H' a:=by simp):N8 H H' ((t,o)::L):=⟨h1,h2,r⟩
theorem Hc {H H':aE} {t:Nat} {o:Ob} {L:aE} (h2:∀ r∈o.rows,∀ a∈r,Clo H' a) (r:N8 H H' L) (h1:∃ v0,H.get t=some v0∧v0=o:=by exact⟨_,rfl,rfl⟩):N8 H H' ((t,o)::L):=⟨h1,h2,r⟩
end
def aBU:PV→Bool
 | .int _ _=>true
 | .bool _=>true
 | .str _=>true
 | _=>false
theorem PRep.flat {w w':World} {I I':Nat→Prop} {v:Value} {p:PV} (h:PRep w I v p) (hf:aBU p=true):PRep w' I' v p:=by cases h<;>first|(constructor;done)|(simp [aBU] at hf;done)
def RO (P:Program) (f:FuncId) (args:List AV) (H:aE) (p:PV):Prop :=∀ (I:Nat→Prop) (ι:eE) (w:World) (vs:Array Value),Rel I ι H w→vs.size=args.length→(∀ (i:Nat) (v:Value) (a:AV),vs[i]?=some v→args[i]?=some a→VRel w I ι H v a) →
  Calls P f vs w fun e w'=>∃ v,e=.returned v∧(∀ w2 I2,PRep w2 I2 v p)∧w'.os=w.os∧w'.tape=w.tape∧w'.output=w.output∧w.heap.size≤w'.heap.size ∧
   (∀ a,a.block < w.heap.size→w'.frozen? a=w.frozen? a)∧∀ b,b < w.heap.size→w'.heap[b]?=w.heap[b]?
theorem RO.of {P:Program} {f:FuncId} {args:List AV} {p:PV} (h:aK P f args [] (fun r H=>r=.pv p∧H=[])) (hf:aBU p=true):RO P f args [] p:=by
 intro I ι w vs hr hl hv;refine(h I ι w vs hr hl hv).mono ?_;rintro e w' ⟨r,H',I',ι',v,rfl,⟨rfl,rfl⟩,k1,k2,k3⟩;have hno:∀ b,¬ CP ι [] b:=fun b ⟨_,_,_,hx,_⟩=>by cases hx
 exact⟨v,rfl,fun w2 I2=>k1.pv_inv.flat hf,k3.os,k3.tape,k3.output,k3.size,fun a ha=>k3.froz a ha (hno _),fun b hb=>k3.keep b hb (hno b)⟩
theorem RO.lend {P:Program} {f:FuncId} {args args':List AV} {p:PV} {H H1:aE} {id:Nat} {ob:Ob} (ps:List (List PV)) (h:RO P f args' H1 p) (hH:H.get id=some ob) (hps:ob.rows=ps.map (·.map .pv)) (hl:args.length=args'.length)
  (hz:∀ (i:Nat) (a a':AV),args[i]?=some a→args'[i]?=some a'→Fz H1 id ob.g ps a a') (hs:Sub H1 H) (hc:bT H1) (hno:H1.get id=none):RO P f args H p:=by
 intro I ι w vs hr hlen hv;refine h (nP I ι id) ι w vs (hr.freeze hs hc hH hno) (by omega) ?_;intro i v a' hi ha';have hlt:i < args.length:=by
  have:=(aHv.1 ha').1;omega
 exact VRel.freeze hr hs hH hps (hz i _ a' (aHw hlt) ha') (hv i v _ hi (aHw hlt))
theorem RO.calls {P:Program} {f:FuncId} {args:List AV} {p:PV} {H:aE} (h:RO P f args H p):aK P f args H (fun r H'=>r=.pv p∧H'=H):=by
 intro I ι w vs hr hl hv;refine(h I ι w vs hr hl hv).mono ?_;rintro e w' ⟨v,rfl,h1,h2,h3,h4,h5,h6,h7⟩;have hst:Step I ι H w I ι H w' :=
  ⟨h2,h3,h4,h5,fun a ha _=>h6 a ha,fun _ h=>h,fun _ h=>.inl h,fun _ h=>.inl h,fun b hb _=>h7 b hb,fun id o ho=>⟨o,ho,aHx _,fun _=>⟨rfl,rfl,fun _=>aHx _⟩⟩⟩
 refine⟨.pv p,H,I,ι,v,rfl,⟨rfl,rfl⟩,.pv (h1 _ _),?_,hst⟩;refine⟨fun b hb=>Nat.lt_of_lt_of_le (hr.imm b hb) h5,fun id o ho=>?_,hr.inj,hst.glob hr⟩;exact(hr.obj id o ho).keep rfl (fun b' _ _ hlt=>⟨h7 b' hlt,fun h=>h⟩) (fun r _ a _ v hv=>hv.mono hr hst)
theorem iM {P:Program} {G0:aE} {N:Nat} {Q:Exit→bZ→aE→Prop} {E:bZ} {H:aE} {cc:Code} {α β:Type} (S:α→β→bZ×aE) (J:α→β→Prop) (μ:α→β→Nat) (a0:α) (b0:β) (h0:J a0 b0) (hin:cC G0 E H (S a0 b0).1 (S a0 b0).2)
  (round:∀ a b,J a b→iF P G0 N cc (sG (fun E' H'=>∃ a' b',J a' b'∧μ a' b' < μ a b∧cC G0 E' H' (S a' b').1 (S a' b').2) Q) (S a b).1 (S a b).2):iF P G0 N (.loop cc) Q E H:=by
 refine bG (σ:=α×β) (fun s=>S s.1 s.2) (fun s=>J s.1 s.2) (fun s=>μ s.1 s.2) (a0,b0) h0 hin ?_;intro s hs;have h:=round s.1 s.2 hs;have e:(fun(E':bZ) (H':aE)=>∃ s':α×β,J s'.1 s'.2∧μ s'.1 s'.2 < μ s.1 s.2∧cC G0 E' H' (S s'.1 s'.2).1 (S s'.1 s'.2).2)=(fun E' H'=>∃ a' b',J a' b'∧μ a' b' < μ s.1 s.2∧cC G0 E' H' (S a' b').1 (S a' b').2):=by
  funext E' H';exact propext ⟨fun⟨s',h⟩=>⟨s'.1,s'.2,h⟩,fun⟨a',b',h⟩=>⟨(a',b'),h⟩⟩
 rw [e];exact h
theorem yM {P:Program} {G0:aE} {N:Nat} {Q:Exit→bZ→aE→Prop} {E:bZ} {H:aE} {cc:Code} {α β γ:Type} (S:α→β→γ→bZ×aE) (J:α→β→γ→Prop) (μ:α→β→γ→Nat) (a0:α) (b0:β) (c0:γ) (h0:J a0 b0 c0) (hin:cC G0 E H (S a0 b0 c0).1 (S a0 b0 c0).2)
  (round:∀ a b c,J a b c→iF P G0 N cc (sG (fun E' H'=>∃ a' b' c',J a' b' c'∧μ a' b' c' < μ a b c∧cC G0 E' H' (S a' b' c').1 (S a' b' c').2) Q) (S a b c).1 (S a b c).2):iF P G0 N (.loop cc) Q E H:=by
 refine bG (σ:=α×β×γ) (fun s=>S s.1 s.2.1 s.2.2) (fun s=>J s.1 s.2.1 s.2.2) (fun s=>μ s.1 s.2.1 s.2.2) (a0,b0,c0) h0 hin ?_;intro s hs;have h:=round s.1 s.2.1 s.2.2 hs;have e:(fun(E':bZ) (H':aE)=>∃ s':α×β×γ,J s'.1 s'.2.1 s'.2.2∧μ s'.1 s'.2.1 s'.2.2 < μ s.1 s.2.1 s.2.2∧cC G0 E' H' (S s'.1 s'.2.1 s'.2.2).1 (S s'.1 s'.2.1 s'.2.2).2)=(fun E' H'=>∃ a' b' c',J a' b' c'∧μ a' b' c' < μ s.1 s.2.1 s.2.2∧cC G0 E' H' (S a' b' c').1 (S a' b' c').2):=by
  funext E' H';exact propext ⟨fun⟨s',h⟩=>⟨s'.1,s'.2.1,s'.2.2,h⟩,fun⟨a',b',c',h⟩=>⟨(a',b',c'),h⟩⟩
 rw [e];exact h
theorem YU {P:Program} {G0:aE} {N:Nat} {Q:Exit→bZ→aE→Prop} {E:bZ} {H:aE} {cc:Code} {α β γ δ:Type} (S:α→β→γ→δ→bZ×aE) (J:α→β→γ→δ→Prop) (μ:α→β→γ→δ→Nat) (a0:α) (b0:β) (c0:γ) (d0:δ) (h0:J a0 b0 c0 d0) (hin:cC G0 E H (S a0 b0 c0 d0).1 (S a0 b0 c0 d0).2)
  (round:∀ a b c d,J a b c d→iF P G0 N cc (sG (fun E' H'=>∃ a' b' c' d',J a' b' c' d'∧μ a' b' c' d' < μ a b c d∧cC G0 E' H' (S a' b' c' d').1 (S a' b' c' d').2) Q) (S a b c d).1 (S a b c d).2):iF P G0 N (.loop cc) Q E H:=by
 refine bG (σ:=α×β×γ×δ) (fun s=>S s.1 s.2.1 s.2.2.1 s.2.2.2) (fun s=>J s.1 s.2.1 s.2.2.1 s.2.2.2) (fun s=>μ s.1 s.2.1 s.2.2.1 s.2.2.2) (a0,b0,c0,d0) h0 hin ?_;intro s hs;have h:=round s.1 s.2.1 s.2.2.1 s.2.2.2 hs;have e:(fun(E':bZ) (H':aE)=>∃ s':α×β×γ×δ,J s'.1 s'.2.1 s'.2.2.1 s'.2.2.2∧μ s'.1 s'.2.1 s'.2.2.1 s'.2.2.2 < μ s.1 s.2.1 s.2.2.1 s.2.2.2∧cC G0 E' H' (S s'.1 s'.2.1 s'.2.2.1 s'.2.2.2).1 (S s'.1 s'.2.1 s'.2.2.1 s'.2.2.2).2)=(fun E' H'=>∃ a' b' c' d',J a' b' c' d'∧μ a' b' c' d' < μ s.1 s.2.1 s.2.2.1 s.2.2.2∧cC G0 E' H' (S a' b' c' d').1 (S a' b' c' d').2):=by
  funext E' H';exact propext ⟨fun⟨s',h⟩=>⟨s'.1,s'.2.1,s'.2.2.1,s'.2.2.2,h⟩,fun⟨a',b',c',d',h⟩=>⟨(a',b',c',d'),h⟩⟩
 rw [e];exact h
theorem YT {P:Program} {G0:aE} {N:Nat} {Q:Exit→bZ→aE→Prop} {E:bZ} {H:aE} {cc:Code} {α β γ δ ε:Type} (S:α→β→γ→δ→ε→bZ×aE) (J:α→β→γ→δ→ε→Prop) (μ:α→β→γ→δ→ε→Nat) (a0:α) (b0:β) (c0:γ) (d0:δ) (e0:ε) (h0:J a0 b0 c0 d0 e0) (hin:cC G0 E H (S a0 b0 c0 d0 e0).1 (S a0 b0 c0 d0 e0).2)
  (round:∀ a b c d e,J a b c d e→iF P G0 N cc (sG (fun E' H'=>∃ a' b' c' d' e',J a' b' c' d' e'∧μ a' b' c' d' e' < μ a b c d e∧cC G0 E' H' (S a' b' c' d' e').1 (S a' b' c' d' e').2) Q) (S a b c d e).1 (S a b c d e).2):iF P G0 N (.loop cc) Q E H:=by
 refine bG (σ:=α×β×γ×δ×ε) (fun s=>S s.1 s.2.1 s.2.2.1 s.2.2.2.1 s.2.2.2.2) (fun s=>J s.1 s.2.1 s.2.2.1 s.2.2.2.1 s.2.2.2.2) (fun s=>μ s.1 s.2.1 s.2.2.1 s.2.2.2.1 s.2.2.2.2) (a0,b0,c0,d0,e0) h0 hin ?_;intro s hs;have h:=round s.1 s.2.1 s.2.2.1 s.2.2.2.1 s.2.2.2.2 hs;have e:(fun(E':bZ) (H':aE)=>∃ s':α×β×γ×δ×ε,J s'.1 s'.2.1 s'.2.2.1 s'.2.2.2.1 s'.2.2.2.2∧μ s'.1 s'.2.1 s'.2.2.1 s'.2.2.2.1 s'.2.2.2.2 < μ s.1 s.2.1 s.2.2.1 s.2.2.2.1 s.2.2.2.2∧cC G0 E' H' (S s'.1 s'.2.1 s'.2.2.1 s'.2.2.2.1 s'.2.2.2.2).1 (S s'.1 s'.2.1 s'.2.2.1 s'.2.2.2.1 s'.2.2.2.2).2)=(fun E' H'=>∃ a' b' c' d' e',J a' b' c' d' e'∧μ a' b' c' d' e' < μ s.1 s.2.1 s.2.2.1 s.2.2.2.1 s.2.2.2.2∧cC G0 E' H' (S a' b' c' d' e').1 (S a' b' c' d' e').2):=by
  funext E' H';exact propext ⟨fun⟨s',h⟩=>⟨s'.1,s'.2.1,s'.2.2.1,s'.2.2.2.1,s'.2.2.2.2,h⟩,fun⟨a',b',c',d',e',h⟩=>⟨(a',b',c',d',e'),h⟩⟩
 rw [e];exact h
theorem aD {α:Type} (f:α→List PV) (l:List α) (H:aE):∀ r∈l.map (fun e=>(f e).map AV.pv),∀ a∈r,Clo H a:=by intro r hr a ha;obtain ⟨e,_,rfl⟩:=List.mem_map.1 hr;obtain ⟨p,_,rfl⟩:=List.mem_map.1 ha;exact .pv p
theorem S6 {H:aE} {id g:Nat} {ps:List (List PV)}:∀ (i:Nat) (a a':AV),([]:List AV)[i]?=some a→([]:List AV)[i]?=some a'→Fz H id g ps a a':=fun i a a' h=>by cases h
theorem E6 {H:aE} {id g:Nat} {ps:List (List PV)} {x x':AV} {l l':List AV} (h:Fz H id g ps x x') (hr:∀ (i:Nat) (a a':AV),l[i]?=some a→l'[i]?=some a'→Fz H id g ps a a') :
  ∀ (i:Nat) (a a':AV),(x::l)[i]?=some a→(x'::l')[i]?=some a'→Fz H id g ps a a'
 | 0,a,a',h1,h2=>by cases h1;cases h2;exact h
 | i+1,a,a',h1,h2=>hr i a a' h1 h2
inductive Nz (H':aE) (id:Nat):AV→AV→Prop
 | same {a:AV} (h:Clo H' a):Nz H' id a a
 | own:Nz H' id (.pv .nils) (.osl id 0 0 0)
 | weak:Nz H' id (.pv .nils) (.pv (.sl []))
 | agg {cs cs':List AV} (hl:cs.length=cs'.length) (h:∀ (i:Nat) (a a':AV),cs[i]?=some a→cs'[i]?=some a'→Nz H' id a a'):Nz H' id (.agg cs) (.agg cs')
 | tup {cs cs':List AV} (hl:cs.length=cs'.length) (h:∀ (i:Nat) (a a':AV),cs[i]?=some a→cs'[i]?=some a'→Nz H' id a a'):Nz H' id (.tup cs) (.tup cs')
def aC0 (H H':aE):Prop:=∀ j o',H'.get j=some o'→∃ o,H.get j=some o∧o.g=o'.g∧o.sz=o'.sz∧o.ty=o'.ty∧o.rows.length=o'.rows.length
theorem VRel.alike {w:World} {I:Nat→Prop} {ι:eE} {H H':aE} (hs:aC0 H H') {v:Value} {a:AV} (h:VRel w I ι H v a):Clo H' a→VRel w I ι H' v a:=by
 induction h with
 | any v=>exact fun _=>.any v
 | pv h=>exact fun _=>.pv h
 | ref o hH hg h1 h =>
  intro hc;rw [aEC] at hc;obtain ⟨o',ho'⟩:=Option.isSome_iff_exists.1 hc;obtain ⟨o2,e1,e2,e3,e4,e5⟩:=hs _ o' ho';rw [hH] at e1;cases e1;exact .ref o' ho' (by omega) h1 (fun e=>by rw [← e3];exact h (by omega))
 | pad b off cap sz h hsz hlen cs hI hc hp=>exact fun _=>.pad b off cap sz h hsz hlen cs hI hc hp
 | osl o hH hg h1 h =>
  intro hc;rw [aED] at hc;obtain ⟨o',ho'⟩:=Option.isSome_iff_exists.1 hc;obtain ⟨o2,e1,e2,e3,e4,e5⟩:=hs _ o' ho';rw [hH] at e1;cases e1;exact .osl o' ho' (by omega) h1 (fun e=>by rw [← e3,← e5];exact h (by omega))
 | clo hl h ih =>
  intro hc;rw [aEF] at hc;exact .clo hl (fun i v a hv ha=>ih i v a hv ha (hc a (aIB ha)))
 | agg hl h1 h ih =>
  intro hc;rw [aEG] at hc;exact .agg hl h1 (fun i v a hv ha=>ih i v a hv ha (hc a (aIB ha)))
 | tup hl h ih =>
  intro hc;rw [aEB] at hc;exact .tup hl (fun i v a hv ha=>ih i v a hv ha (hc a (aIB ha)))
 | mp o hH hg h1 h =>
  intro hc;rw [aFX] at hc;obtain ⟨o',ho'⟩:=Option.isSome_iff_exists.1 hc;obtain ⟨o2,e1,e2,e3,e4,e5⟩:=hs _ o' ho';rw [hH] at e1;cases e1;exact .mp o' ho' (by omega) h1 (fun e=>by rw [← e3];exact h (by omega))
 | it o hH hg h1 h =>
  intro hc;rw [aFY] at hc;obtain ⟨o',ho'⟩:=Option.isSome_iff_exists.1 hc;obtain ⟨o2,e1,e2,e3,e4,e5⟩:=hs _ o' ho';rw [hH] at e1;cases e1;exact .it o' ho' (by omega) h1 (fun e=>by rw [← e3];exact h (by omega))
 | yld o hH hg h1 h =>
  intro hc;rw [aEA] at hc;obtain ⟨o',ho'⟩:=Option.isSome_iff_exists.1 hc;obtain ⟨o2,e1,e2,e3,e4,e5⟩:=hs _ o' ho';rw [hH] at e1;cases e1;exact .yld o' ho' (by omega) h1 (fun e=>by rw [← e3];exact h (by omega))
 | osc o hH hg h1 h =>
  intro hc;rw [aEE] at hc;obtain ⟨o',ho'⟩:=Option.isSome_iff_exists.1 hc;obtain ⟨o2,e1,e2,e3,e4,e5⟩:=hs _ o' ho';rw [hH] at e1;cases e1;exact .osc o' ho' (by omega) h1 (fun e=>by rw [← e3];exact h (by omega))
theorem Nz.raw {H':aE} {id:Nat} {a a':AV} (h:Nz H' id a a') {y:Go.Loop} {ts:List Nat} (e:a'=.raw y ts):a=.raw y ts:=by cases h<;>first|exact e|cases e
theorem VRel.nz {w:World} {I:Nat→Prop} {ι:eE} {H H':aE} {id:Nat} {ob:Ob} (hs:aC0 H H') (hι:ι id=none) (hid:H'.get id=some ob) (hg:ob.g=0) (hpos:0 < ob.sz) {a a':AV} (hn:Nz H' id a a'):∀ {v:Value},VRel w I ι H v a→VRel w I ι H' v a':=by
 induction hn with
 | same h=>exact fun hv=>hv.alike hs h
 | own =>
  intro v hv;have:=hv.pv_inv;cases this;exact .osl ob hid (by omega) rfl (fun _=>⟨hpos,by omega,.inr ⟨hι,rfl,rfl,rfl⟩⟩)
 | weak =>
  intro v hv;have:=hv.pv_inv;cases this;exact .pv .nilsl
 | @agg cs cs' hl h ih =>
  intro v hv;cases hv with
  | agg hl2 h1 h2 =>
   refine .agg (hl2.trans hl) h1 (fun i u a' hu ha'=>?_);have ha:=List.getElem?_eq_getElem (l:=cs) (i:=i) (by have:=(aHv.1 ha').1;omega);exact ih i _ a' ha ha' (h2 i u _ hu ha)
 | @tup cs cs' hl h ih =>
  intro v hv;cases hv with
  | tup hl2 h2 =>
   refine .tup (hl2.trans hl) (fun i u a' hu ha'=>?_);have ha:=List.getElem?_eq_getElem (l:=cs) (i:=i) (by have:=(aHv.1 ha').1;omega);exact ih i _ a' ha ha' (h2 i u _ hu ha)
def NzL (H:aE) (id:Nat):List AV→List AV→Prop
 | [],[]=>True
 | a::l,b::r=>Nz H id a b∧NzL H id l r
 | _,_=>False
theorem NzL.spec {H:aE} {id:Nat}:∀ {l r:List AV},NzL H id l r→l.length=r.length∧∀ (k:Nat) (a b:AV),l[k]?=some a→r[k]?=some b→Nz H id a b
 | [],[],_=>⟨rfl,fun k a b h=>by simp at h⟩
 | a::l,b::r,h=>⟨by simp [(NzL.spec h.2).1],fun k x y h1 h2=>by
   cases k with
   | zero=>cases h1;cases h2;exact h.1
   | succ k=>exact(NzL.spec h.2).2 k x y h1 h2⟩
 | [],_::_,h=>h.elim
 | _::_,[],h=>h.elim
def NzR (H:aE) (id:Nat) (rows rows':List (List AV)):Prop:=(rows=rows'∧∀ r∈rows',∀ a∈r,Clo H a)∨∃ r r',rows=[r]∧rows'=[r']∧NzL H id r r'
theorem NzR.spec {H:aE} {id:Nat} {rows rows':List (List AV)} (h:NzR H id rows rows'):rows.length=rows'.length∧∀ (i:Nat) (r':List AV),rows'[i]?=some r'→∃ r,rows[i]?=some r∧r.length=r'.length∧∀ (k:Nat) (b:AV),r'[k]?=some b→∃ a,r[k]?=some a∧Nz H id a b:=by
 rcases h with⟨rfl,hc⟩|⟨r,r',rfl,rfl,hl⟩
 ·exact⟨rfl,fun i r' hr=>⟨r',hr,rfl,fun k b hb=>⟨b,hb,.same (hc r' (aIB hr) b (aIB hb))⟩⟩⟩
 refine⟨rfl,fun i r2 hr=>?_⟩;cases i with
 | zero =>
  cases hr;obtain ⟨e1,e2⟩:=hl.spec;refine⟨r,rfl,e1,fun k b hb=>?_⟩;have hlt:=(aHv.1 hb).1;exact⟨r[k],aHw (by omega),e2 k _ b (aHw (by omega)) hb⟩
 | succ i=>simp at hr
def NzE (E:bZ) (H:aE) (id:Nat):bZ→Prop
 | []=>True
 | (t,v)::r=>(∃ v0,E.get t=some v0∧Nz H id v0 v)∧NzE E H id r
theorem NzE.spec {E:bZ} {H:aE} {id:Nat}:∀ {E':bZ},NzE E H id E'→∀ p∈E',∃ v0,E.get p.1=some v0∧Nz H id v0 p.2
 | (t,v)::r,h,p,hp=>by
  rcases aID.1 hp with e|e
  ·subst e;exact h.1
  exact NzE.spec h.2 p e
def NzH (H H2:aE) (id:Nat):aE→Prop
 | []=>True
 | (j,o')::r=>(∃ o,H.get j=some o∧o.g=o'.g∧o.sz=o'.sz∧o.ty=o'.ty∧NzR H2 id o.rows o'.rows)∧NzH H H2 id r
theorem NzH.spec {H H2:aE} {id:Nat}:∀ {H':aE},NzH H H2 id H'→∀ p∈H',∃ o,H.get p.1=some o∧o.g=p.2.g∧o.sz=p.2.sz∧o.ty=p.2.ty∧NzR H2 id o.rows p.2.rows
 | (j,o')::r,h,p,hp=>by
  rcases aID.1 hp with e|e
  ·subst e;exact h.1
  exact NzH.spec h.2 p e
theorem cC.nz {G0:aE} {E E':bZ} {H H':aE} (id sz ty:Nat) (hid:H.get id=none) (hsz:Nat.blt 0 sz=true) (hE:NzE E ((id,⟨0,sz,ty,[]⟩)::H') id E') (hH:NzH H ((id,⟨0,sz,ty,[]⟩)::H') id H') (hk:ZD ((id,⟨0,sz,ty,[]⟩)::H') H G0) :
  cC G0 E H E' ((id,⟨0,sz,ty,[]⟩)::H'):=by
 intro G hG N a w hs;obtain ⟨I,ι,hr,hst,he⟩:=hs.rel;obtain ⟨a1,a2⟩:=hr.adopt (sz:=sz) (ty:=ty) hid (by simpa [Nat.blt_eq] using hsz);have hpz:0 < sz:=by simpa [Nat.blt_eq] using hsz
 obtain ⟨ι',hι'⟩:∃ ι':eE,ι'=(fun j=>if j=id then none else ι j):=⟨_,rfl⟩;rw [← hι'] at a1 a2;have hιid:ι' id=none:=by rw [hι'];simp
 obtain ⟨H1,hH1⟩:∃ H1:aE,H1=(id,(⟨0,sz,ty,[]⟩:Ob))::H:=⟨_,rfl⟩;obtain ⟨H2,hH2⟩:∃ H2:aE,H2=(id,(⟨0,sz,ty,[]⟩:Ob))::H':=⟨_,rfl⟩;rw [← hH1] at a1 a2;rw [← hH2] at hE hH hk ⊢;have g1:H1.get id=some ⟨0,sz,ty,[]⟩:=by rw [hH1];simp [aE.get]
 have g2:H2.get id=some ⟨0,sz,ty,[]⟩:=by rw [hH2];simp [aE.get]
 have n1:∀ j,j≠id→H1.get j=H.get j:=fun j e=>by rw [hH1];simp [aE.get,lP (Ne.symm e)]
 have n2:∀ j,j≠id→H2.get j=H'.get j:=fun j e=>by rw [hH2];simp [aE.get,lP (Ne.symm e)]
 have hobj:∀ j o',H2.get j=some o'→∃ o,H1.get j=some o∧o.g=o'.g∧o.sz=o'.sz∧o.ty=o'.ty∧NzR H2 id o.rows o'.rows:=by
  intro j o' ho;by_cases e:j=id
  ·subst e;rw [g2] at ho;cases ho;exact⟨_,g1,rfl,rfl,rfl,.inl ⟨rfl,by simp⟩⟩
  rw [n2 j e] at ho;obtain ⟨o,e1,e2⟩:=hH.spec _ (eM ho);exact⟨o,(n1 j e).trans e1,e2⟩
 have hal:aC0 H1 H2:=fun j o' ho=>by
  obtain ⟨o,e1,e2,e3,e4,e5⟩:=hobj j o' ho;exact⟨o,e1,e2,e3,e4,e5.spec.1⟩
 have hown:∀ b,CP ι' H2 b→CP ι' H1 b:=by
  rintro b ⟨j,o',c,ho,hb⟩;obtain ⟨o,e1,_⟩:=hobj j o' ho;exact⟨j,o,c,e1,hb⟩
 have hrel:Rel I ι' H2 w:=by
  refine⟨a1.imm,fun j o' ho=>?_,fun j j' o o' b c c' hj hj'=>?_,a1.glob⟩
  ·obtain ⟨o,e1,e2,e3,e4,e5⟩:=hobj j o' ho;obtain ⟨s1,s2⟩:=e5.spec;refine(a1.obj j o e1).keepG e3.symm e4.symm s1.symm (O4 s1 (fun i r' hi=>by
    obtain ⟨r,t1,t2,t3⟩:=s2 i r' hi;refine⟨r,t1,t2,fun k a a' h1 h2 y ts e=>?_⟩;obtain ⟨z,u1,u2⟩:=t3 k a' h2;rw [h1] at u1;cases u1;exact u2.raw e)) rfl (fun _ _ _ _=>⟨rfl,fun h=>h⟩) (fun i r' hi=>?_)
   obtain ⟨r,t1,t2,t3⟩:=s2 i r' hi;refine⟨r,t1,t2,fun k a a' h1 h2 v hv=>?_⟩;obtain ⟨y,u1,u2⟩:=t3 k a' h2;rw [h1] at u1;cases u1;exact VRel.nz hal hιid g2 rfl hpz u2 hv
  obtain ⟨o1,e1,_⟩:=hobj j o hj;obtain ⟨o2,e2,_⟩:=hobj j' o' hj';exact a1.inj j j' o1 o2 b c c' e1 e2
 have hst1:=hst.trans a2;have hst2:Step G.I G.ι G.H G.w I ι' H2 w:=by
  refine⟨hst1.os,hst1.tape,hst1.output,hst1.size,hst1.froz,hst1.imm,hst1.immNew,fun b hb=>hst1.own b (hown b hb),hst1.keep,fun j o hj=>?_⟩;obtain ⟨o1,e1,e2⟩:=hst1.objs j o hj;subst hG;have hkk:=hk.kept j (by rw [hj];rfl);by_cases e:j=id
  ·subst e;obtain ⟨o0,e0,_⟩:=hst.objs j o hj;rw [hid] at e0;cases e0
  rw [n1 j e] at e1;exact⟨o1,hkk.trans e1,e2⟩
 refine⟨hs.defers,hs.size,I,ι',hrel,hst2,fun t v hv=>?_⟩;obtain ⟨v0,f1,f2⟩:=hE.spec _ (hY hv);obtain ⟨c,c1,c2⟩:=he t v0 f1;exact⟨c,c1,VRel.nz hal hιid g2 rfl hpz f2 (c2.mono hr a2)⟩
end Go.Abs
namespace Go.Abs
open Go.Proofs.YtmkgeogoojcciaaGreatDoor
section
theorem aBn {H:Type} (d:DataW H):1≤Rows.uptoBulk d:=by
 cases d with
 | lit l=>cases l<;>simp [Rows.uptoBulk]
 | _=>simp [Rows.uptoBulk]
theorem aBo {H:Type} {d:DataW H} {l:List (DataW H)} (h:d∈l):Rows.uptoBulk d≤Rows.uptoBulkAll l:=by
 induction l with
 | nil=>cases h
 | cons x r ih =>
  simp only [Rows.uptoBulkAll];rcases aID.1 h with e|e
  ·subst e;omega
  have:=ih e;omega
theorem aBp {H:Type} (l:List (DataW H)):l.length≤Rows.uptoBulkAll l:=by
 induction l with
 | nil=>simp
 | cons x r ih=>have:=aBn x;simp only [Rows.uptoBulkAll,aHt];omega
inductive PL (w:World) (I:Nat→Prop):List Value→List PV→Prop
 | nil:PL w I [] []
 | cons {c:Value} {p:PV} {cs:List Value} {ps:List PV} (h:PRep w I c p) (r:PL w I cs ps):PL w I (c::cs) (p::ps)
theorem PL.length {w:World} {I:Nat→Prop} {cs:List Value} {ps:List PV} (h:PL w I cs ps):cs.length=ps.length:=by
 induction h with
 | nil=>rfl
 | cons h r ih=>simp [ih]
theorem PL.append {w:World} {I:Nat→Prop} {cs cs':List Value} {ps ps':List PV} (h:PL w I cs ps) (h':PL w I cs' ps'):PL w I (cs++cs') (ps++ps'):=by
 induction h with
 | nil=>exact h'
 | cons h r ih=>exact .cons h ih
theorem PL.get {w:World} {I:Nat→Prop} {cs:List Value} {ps:List PV} (h:PL w I cs ps):∀ (k:Nat) (c:Value) (p:PV),cs[k]?=some c→ps[k]?=some p→PRep w I c p:=by
 induction h with
 | nil=>intro k c p h;simp at h
 | cons h r ih =>
  intro k c p hc hp;cases k with
  | zero=>cases hc;cases hp;exact h
  | succ k=>exact ih k c p hc hp
def AH (P:Program):Nat→List Field→Nat→Bool
 | o,[],n=>Nat.beq o n
 | o,f::r,n=>Nat.beq f.offset o&&AH P (o+P.cellsOf f.type) r n
def B8 (P:Program) (e:TypeId):Nat→Nat→List Field
 | _,0=>[]
 | o,k+1=>⟨"",e,o,false, "", "",0⟩::B8 P e (o+P.cellsOf e) k
theorem DO {P:Program} {e:TypeId}:∀ {o k:Nat},(B8 P e o k).length=k
 | _,0=>rfl
 | o,k+1=>congrArg Nat.succ (DO (o:=o+P.cellsOf e) (k:=k))
theorem LB {P:Program} {e:TypeId}:∀ {k o i:Nat} {f:Field},(B8 P e o k)[i]?=some f→f.type=e∧f.offset=o+i*P.cellsOf e
 | 0,o,i,f,h=>by cases h
 | k+1,o,0,f,h=>by
  obtain rfl:=Option.some.inj h;exact⟨rfl,by rw [Nat.zero_mul];rfl⟩
 | k+1,o,i+1,f,h=>by
  have:=LB (k:=k) (i:=i) (show (B8 P e (o+P.cellsOf e) k)[i]?=some f from h);refine⟨this.1,?_⟩;rw [this.2,Nat.add_mul];omega
def vL (P:Program):Nat→TypeId→Bool
 | 0,_=>false
 | n+1,t=>match P.underlying t with
  | some .bool=>true
  | some (.int _)=>true
  | some .string=>true
  | some (.slice e)=>vL P n e&&Nat.blt 0 (P.cellsOf e)
  | some (.struct fs)=>AH P 0 fs.toList (P.cellsOf t)&&fs.toList.all fun f=>vL P n f.type
  | some (.array k e)=>AH P 0 (B8 P e 0 k) (P.cellsOf t)&&(B8 P e 0 k).all fun f=>vL P n f.type
  | _=>false
def ShF (S:TypeId→List PV→Prop) (c:TypeId→Nat):List Field→List PV→Prop
 | [],ps=>ps=[]
 | f::r,ps=>∃ a b,ps=a++b∧a.length=c f.type∧S f.type a∧ShF S c r b
def Sh (P:Program) (B:Nat):Nat→TypeId→List PV→Prop
 | 0,_,_=>False
 | n+1,t,ps=>match P.underlying t with
  | some .bool=>∃ b,ps=[.bool b]
  | some (.int k)=>∃ i,ps=[.int k i]∧(Lit.int k i).wf=true
  | some .string=>∃ s,ps=[.str s]∧s.size≤B
  | some (.slice e)=>∃ rows,ps=[.sl rows]∧rows.length≤B∧∀ r∈rows,r.length=P.cellsOf e∧Sh P B n e r
  | some (.struct fs)=>ShF (fun t ps=>Sh P B n t ps) P.cellsOf fs.toList ps
  | some (.array k e)=>ShF (fun t ps=>Sh P B n t ps) P.cellsOf (B8 P e 0 k) ps
  | _=>False
abbrev V4 (W:World):Nat→Prop:=fun b=>b < W.heap.size
theorem aAk {W:World} {a:Addr} {v:Value} (h:W.cell? a=some v):a.spot=none∧V4 W a.block:=by
 unfold World.cell? at h
 split at h
 ·next c t fr e =>
  refine⟨?_,(Array.getElem?_eq_some_iff.1 e).1⟩;cases hs:a.spot with
  | none=>rfl
  | some k=>rw [hs] at h;simp at h
 cases h
section
variable {H:Type} {enc:TypeId×Value→H} {P:Program} {W:World} {B:Nat}
theorem K4 {P:Program}:∀ {fs:List Field} {o n:Nat},AH P o fs n=true→o≤n
 | [],o,n,h=>Nat.le_of_eq (Nat.eq_of_beq_eq_true h)
 | f::fs,o,n,h=>by
  simp only [AH,aIA] at h;have:=K4 h.2;omega
theorem DG {m n:Nat} {cs:List Value} (hn:∀ (t:TypeId) (cs:List Value) (x:DataW H×List MemPlace),vL P n t=true→DataW.trod enc P W 0 (fun _=>true) true m t cs=some x→Rows.uptoBulk x.1≤B→∃ ps,PL W (V4 W) cs ps∧Sh P B n t ps) :
  ∀ (fs:List Field) (xs:List (DataW H×List MemPlace)) (o:Nat),AH P o fs cs.length=true→(fs.all fun f=>vL P n f.type)=true→xs.length=fs.length →
   (∀ (i:Nat) (f:Field),fs[i]?=some f→DataW.trod enc P W 0 (fun _=>true) true m f.type ((cs.drop f.offset).take (P.cellsOf f.type))=xs[i]?)→Rows.uptoBulkAll (xs.map (·.1))≤B →
   ∃ ps,PL W (V4 W) (cs.drop o) ps∧ShF (fun t ps=>Sh P B n t ps) P.cellsOf fs ps
 | [],xs,o,hc,_,hl,hx,hb=>by
  have:o=cs.length:=Nat.eq_of_beq_eq_true hc;subst this;exact⟨[],by rw [List.drop_length];exact .nil,rfl⟩
 | f::fs,[],o,hc,_,hl,hx,hb=>by simp at hl
 | f::fs,x::xs,o,hc,hp,hl,hx,hb=>by
  simp only [AH,aIA] at hc;have ho:f.offset=o:=Nat.eq_of_beq_eq_true hc.1;simp only [List.all_cons,aIA] at hp;simp only [List.map_cons,Rows.uptoBulkAll] at hb;have h0:=hx 0 f rfl;simp only [List.getElem?_cons_zero] at h0;rw [ho] at h0;obtain ⟨a,a1,a2⟩:=hn f.type _ x hp.1 h0 (by omega);obtain ⟨b,b1,b2⟩:=DG hn fs xs (o+P.cellsOf f.type) hc.2 hp.2 (by simpa using hl) (fun i g hg=>hx (i+1) g hg) (by omega);have hle:=K4 hc.2;have hal:a.length=P.cellsOf f.type:=by
   rw [← a1.length,aIF,aIG];omega
  refine⟨a++b,?_,a,b,rfl,hal,a2,b2⟩;have:=a1.append b1
  rwa [← List.drop_drop,List.take_append_drop] at this
theorem EN:∀ (n:Nat) (t:TypeId),vL P n t=true→∀ (m:Nat) (cs:List Value) (x:DataW H×List MemPlace),DataW.trod enc P W 0 (fun _=>true) true m t cs=some x→Rows.uptoBulk x.1≤B→∃ ps,PL W (V4 W) cs ps∧Sh P B n t ps
 | 0,t,hp,m,cs,x,h,hb=>by cases hp
 | n + 1, t, hp, m, cs, x, h, hb => by
  unfold vL at hp
  split at hp
  ·next ht =>
   obtain ⟨b,rfl,rfl⟩:=DataW.trod_bool ht h;exact⟨[.bool b],.cons (.bool b) .nil,by unfold Sh;rw [ht];exact⟨b,rfl⟩⟩
  ·next k ht =>
   obtain ⟨i,rfl,rfl,hw⟩:=DataW.trod_int ht h;exact⟨[.int k i],.cons (.int k i) .nil,by unfold Sh;rw [ht];exact⟨i,rfl,hw⟩⟩
  ·next ht =>
   obtain ⟨s,rfl,rfl,hs⟩:=DataW.trod_string ht h;have hsz:s.size≤B:=by
    have e1:s.data.toList.length=s.size:=Array.length_toList;simp only [Rows.uptoBulk] at hb;omega
   exact⟨[.str s],.cons (.str s) .nil,by unfold Sh;rw [ht];exact⟨s,rfl,hsz⟩⟩
  ·next e ht =>
   simp only [aIA,Nat.blt_eq] at hp;obtain ⟨hpe,hsz⟩:=hp;rcases DataW.trod_slice ht h with⟨rfl,rfl⟩|⟨a,len,cap,elems,rest,m',rfl,rfl,rfl,_,hlc,hmax,hlen,hel,hre,_⟩
   ·exact⟨[.sl []],.cons .nilsl .nil,by unfold Sh;rw [ht];exact⟨[],rfl,by simp,by simp⟩⟩
   obtain ⟨hrl,hre⟩:=hre rfl;simp only [Rows.uptoBulk] at hb;rcases Nat.eq_zero_or_pos cap with hc0|hcpos
   ·have hl0:len=0:=by omega
    subst hl0 hc0;exact⟨[.sl []],.cons (.empsl a) .nil,by unfold Sh;rw [ht];exact⟨[],rfl,by simp,by simp⟩⟩
   have hcell:∃ v,W.cell? a=some v:=by
    rcases Nat.eq_zero_or_pos len with hl0|hlp
    ·subst hl0;have h0:=hre 0 (by omega);have hr0:=List.getElem?_eq_getElem (l:=rest) (i:=0) (by omega);rw [hr0,Option.bind_eq_some_iff] at h0;obtain ⟨c0,q1,_⟩:=h0;obtain ⟨_,q2,q3⟩:=World.cells?_some q1;have:=q3 0 hsz;simp only [Nat.add_zero,Nat.zero_mul] at this;rw [Addr.add_zero',Addr.add_zero',aHw (by omega)] at this;exact⟨_,this⟩
    have h0:=hel 0 hlp;have hr0:=List.getElem?_eq_getElem (l:=elems) (i:=0) (by omega);rw [hr0,Option.bind_eq_some_iff] at h0;obtain ⟨c0,q1,_⟩:=h0;obtain ⟨_,q2,q3⟩:=World.cells?_some q1;have:=q3 0 hsz;simp only [Nat.zero_mul] at this;rw [Addr.add_zero',Addr.add_zero',aHw (by omega)] at this;exact⟨_,this⟩
   obtain ⟨v0,hv0⟩:=hcell;obtain ⟨hspot,hold⟩:=aAk hv0;obtain ⟨b,off,sp⟩:=a;simp only at hspot hold;subst hspot;have hrow:∀ i,i < len→∃ ps:List PV,∃ ci,W.cells? 0 (Addr.add ⟨b,off,none⟩ (i*P.cellsOf e)) (P.cellsOf e)=some ci∧PL W (V4 W) ci ps∧Sh P B n e ps:=by
    intro i hi;have h0:=hel i hi;have hr0:=List.getElem?_eq_getElem (l:=elems) (i:=i) (by omega);rw [hr0,Option.bind_eq_some_iff] at h0;obtain ⟨ci,q1,q2⟩:=h0;have hbi:Rows.uptoBulk (elems[i]'(by omega)).1≤B:=by
     have:=aBo (List.mem_map_of_mem (f:=fun x:DataW H×List MemPlace=>x.1) (List.getElem_mem (l:=elems) (n:=i) (by omega)));omega
    obtain ⟨ps,s1,s2⟩:=EN n e hpe m' ci _ q2 hbi;exact⟨ps,ci,q1,s1,s2⟩
   obtain ⟨rows,r1,r2⟩:∃ rows:List (List PV),rows.length=len∧∀ i r,rows[i]?=some r→∃ ci,W.cells? 0 (Addr.add ⟨b,off,none⟩ (i*P.cellsOf e)) (P.cellsOf e)=some ci∧PL W (V4 W) ci r∧Sh P B n e r:=by
    refine⟨(List.range len).map (fun i=>if h:i < len then(hrow i h).choose else[]),by simp,fun i r hr=>?_⟩;rw [aIL] at hr;obtain ⟨j,hj,rfl⟩:=Option.map_eq_some_iff.1 hr;obtain ⟨hlt,hj⟩:=aHv.1 hj;rw [List.getElem_range] at hj;subst hj;have hi:i < len:=by simpa using hlt
    rw [dif_pos hi];exact(hrow i hi).choose_spec
   have hcl:∀ (i:Nat) (r:List PV),rows[i]?=some r→r.length=P.cellsOf e:=fun i r hr=>by
    obtain ⟨ci,c1,c2,c3⟩:=r2 i r hr;rw [← c2.length];exact(World.cells?_some c1).2.1
   refine⟨[.sl rows],.cons ?_ .nil,by
    unfold Sh;rw [ht];refine⟨rows,rfl,?_,fun r hr=>?_⟩
    ·have:=aBp (elems.map (·.1));simp only [aHr] at this;omega
    obtain ⟨i,hi⟩:=aIM.1 hr;obtain ⟨ci,c1,c2,c3⟩:=r2 i r hi;exact⟨hcl i r hi,c3⟩⟩
   rw [← r1];have hcells:∀ (i:Nat) (r:List PV),rows[i]?=some r→∀ (k:Nat) (p:PV),r[k]?=some p→∃ v,W.cell? ⟨b,off+i*P.cellsOf e+k,none⟩=some v∧PRep W (V4 W) v p:=by
    intro i r hr k p hk;obtain ⟨ci,c1,c2,c3⟩:=r2 i r hr;obtain ⟨_,d1,d2⟩:=World.cells?_some c1;have hkl:k < P.cellsOf e:=by rw [← hcl i r hr];exact(aHv.1 hk).1
    have e1:=d2 k hkl;rw [Addr.add_lit,Addr.add_lit] at e1;have e2:ci[k]?=some (ci[k]'(by omega)):=aHw (by omega);exact⟨_,e1.trans e2,c2.get k _ p e2 hk⟩
   refine PRep.sl b off cap (P.cellsOf e) rows (fun i k=>(W.cell? ⟨b,off+i*P.cellsOf e+k,none⟩).getD undef) hold hsz (fun r hr=>?_) (by omega) (fun i r hr k p hk=>?_) (fun i r hr k p hk=>?_)
   ·obtain ⟨i,hi⟩:=aIM.1 hr;exact hcl i r hi
   ·obtain ⟨v,v1,v2⟩:=hcells i r hr k p hk;simp [v1]
   obtain ⟨v,v1,v2⟩:=hcells i r hr k p hk;simp [v1,v2]
  ·next fs ht =>
   simp only [aIA] at hp;obtain ⟨xs,m',rfl,rfl,hl,hxl,hf⟩:=DataW.trod_struct ht h;simp only [Rows.uptoBulk] at hb;obtain ⟨ps,p1,p2⟩:=DG (n:=n) (m:=m') (B:=B) (fun t cs x a b c=>EN n t a m' cs x b c) fs.toList xs 0 (by rw [hl];exact hp.1) hp.2 (by simpa using hxl) (fun i f hi=>hf i f (by simpa using hi)) (by omega);exact⟨ps,by simpa using p1,by unfold Sh;rw [ht];exact p2⟩
  ·next k e ht =>
   simp only [aIA] at hp;obtain ⟨xs,m',rfl,rfl,hl,hxl,hf⟩:=DataW.trod_array ht h;simp only [Rows.uptoBulk] at hb;obtain ⟨ps,p1,p2⟩:=DG (n:=n) (m:=m') (B:=B) (fun t cs x a b c=>EN n t a m' cs x b c) (B8 P e 0 k) xs 0 (by rw [hl];exact hp.1) hp.2 (by rw [DO,hxl]) (fun i f hi=>by
    obtain ⟨g1,g2⟩:=LB hi;have hlt:i < k:=by
     have:=(aHv.1 hi).1
     rwa [DO] at this
    rw [g1,g2,aIJ];exact hf i hlt) (by omega)
   exact⟨ps,by simpa using p1,by unfold Sh;rw [ht];exact p2⟩
  cases hp
end
end
end Go.Abs
namespace Go.Abs
open Go.Proofs.YtmkgeogoojcciaaGreatDoor Go.ChangeShapes Go.WideShapes Go.ChangeAt Go.RowKit
section
def VY (P:Program) (t:TypeId) (ps:List PV):AV :=match P.underlying t with
 | some (.struct _)=>.agg (ps.map .pv)
 | some (.array _ _)=>.agg (ps.map .pv)
 | _=>match ps with
  | [p]=>.pv p
  | _=>.any
section
variable {H:Type} {enc:TypeId×Value→H} {P:Program} {W:World} {B:Nat}
theorem PL.toV {I:Nat→Prop} {ι:eE} {Hp:aE} {cs:List Value} {ps:List PV} (h:PL W I cs ps) (i:Nat) (v:Value) (a:AV) (h1:cs[i]?=some v) (h2:(ps.map AV.pv)[i]?=some a):VRel W I ι Hp v a∧v.oneCell'=true:=by rw [aIL] at h2;obtain ⟨p,hp,rfl⟩:=Option.map_eq_some_iff.1 h2;have:=h.get i v p h1 hp;exact⟨.pv this,this.oneCell⟩
theorem aGA {n:Nat} {t:TypeId} {v:Value} {base:Nat} (hp:vL P n t=true) (hval:Value.okWide P W .any base t v) (hno:∀ fs,P.underlying t=some (.struct fs)→False) (hno2:∀ k e,P.underlying t=some (.array k e)→False):v.cells.toList=[v]:=by
 cases n with
 | zero=>cases hp
 | succ n =>
  unfold vL at hp;unfold Value.okWide at hval
  split at hp
  ·next ht=>cases v<;>first|rfl|(simp [Cell.okWide,Cell.ok,ht] at hval)
  ·next k ht=>cases v<;>first|rfl|(simp [Cell.okWide,Cell.ok,ht] at hval)
  ·next ht=>cases v<;>first|rfl|(simp [Cell.okWide,Cell.ok,ht] at hval)
  ·next e ht=>cases v<;>first|rfl|(simp [Cell.okWide,Cell.ok,ht] at hval)
  ·next fs ht=>exact(hno fs ht).elim
  ·next k e ht=>exact(hno2 k e ht).elim
  cases hp
theorem aEN {n:Nat} {t:TypeId} {v:Value} {d:DataW H} {p:List MemPlace} {base:Nat} (ι:eE) (Hp:aE) (hp:vL P n t=true) (hval:Value.okWide P W .any base t v) (h:DataW.Trod enc P W 0 (fun _=>true) true t v d p) (hb:Rows.uptoBulk d≤B) :
  ∃ ps,Sh P B n t ps∧VRel W (V4 W) ι Hp v (VY P t ps):=by
 obtain ⟨m,hm⟩:=h;obtain ⟨ps,h1,h2⟩:=EN (B:=B) n t hp m _ _ hm hb;refine⟨ps,h2,?_⟩;unfold VY
 split
 ·next fs ht =>
  unfold Value.okWide at hval;rw [ht] at hval;obtain ⟨cs,rfl,_,_⟩:=hval;have hl:=h1.length;simp only [Value.cells,Array.length_toList] at hl;refine .agg (by simpa using hl) (fun i v hv=>?_) (fun i v a hv ha=>?_)
  ·have hlt:=(Array.getElem?_eq_some_iff.1 hv).1;exact(PL.toV (ι:=ι) (Hp:=Hp) h1 i v (.pv (ps[i]'(by omega))) (by simpa [Value.cells] using hv) (by rw [aIL,aHw (by omega)];rfl)).2
  exact(PL.toV h1 i v a (by simpa [Value.cells] using hv) ha).1
 ·next k e ht =>
  unfold Value.okWide at hval;rw [ht] at hval;obtain ⟨cs,rfl,_,_⟩:=hval;have hl:=h1.length;simp only [Value.cells,Array.length_toList] at hl;refine .agg (by simpa using hl) (fun i v hv=>?_) (fun i v a hv ha=>?_)
  ·have hlt:=(Array.getElem?_eq_some_iff.1 hv).1;exact(PL.toV (ι:=ι) (Hp:=Hp) h1 i v (.pv (ps[i]'(by omega))) (by simpa [Value.cells] using hv) (by rw [aIL,aHw (by omega)];rfl)).2
  exact(PL.toV h1 i v a (by simpa [Value.cells] using hv) ha).1
 next hno hno2 =>
 split
 ·next q =>
  have hone:=aGA hp hval (fun fs h=>hno fs h) (fun k e h=>hno2 k e h);rw [hone] at h1;exact(PL.toV h1 0 _ _ rfl rfl).1
 exact .any v
def EE (P:Program):List TypeId→List (List PV)→List AV
 | t::ts,p::ps=>VY P t p::EE P ts ps
 | _,_=>[]
def LF (P:Program) (B n:Nat):List TypeId→List (List PV)→Prop
 | [],[]=>True
 | t::ts,p::ps=>Sh P B n t p∧LF P B n ts ps
 | _,_=>False
theorem WK {n:Nat} {pss:List (List PV)} (h:LF P B n [] pss):pss=[]:=by
 cases pss with
 | nil=>rfl
 | cons p ps=>exact h.elim
theorem FS {n:Nat} {t:TypeId} {ts:List TypeId} {pss:List (List PV)} (h:LF P B n (t::ts) pss):∃ p ps,pss=p::ps∧Sh P B n t p∧LF P B n ts ps:=by
 cases pss with
 | nil=>exact h.elim
 | cons p ps=>exact⟨p,ps,rfl,h.1,h.2⟩
theorem QZ {n:Nat} {base:Nat} (ι:eE) (Hp:aE):∀ {ts:List TypeId} {vs:List Value} {ds:List (DataW H)} {p:List MemPlace},DataW.TrodAll enc P W 0 (fun _=>true) true ts vs ds p→ts.all (vL P n)=true →
  (∀ (j:Nat) t v,ts[j]?=some t→vs[j]?=some v→Value.okWide P W .any base t v)→Rows.uptoBulkAll ds≤B →
  ∃ pss,LF P B n ts pss∧vs.length=(EE P ts pss).length∧∀ (i:Nat) (v:Value) (a:AV),vs[i]?=some v→(EE P ts pss)[i]?=some a→VRel W (V4 W) ι Hp v a
 | [],vs,ds,p,h,hp,hv,hb=>by
  obtain ⟨rfl,rfl,rfl⟩:=trodAll_nil h;exact⟨[],trivial,rfl,fun i v a h=>by simp at h⟩
 | t::ts,vs,ds,p,h,hp,hv,hb=>by
  obtain ⟨v,vs',d,ds',p1,p2,rfl,rfl,rfl,h1,h2⟩:=trodAll_cons h;simp only [List.all_cons,aIA] at hp;simp only [Rows.uptoBulkAll] at hb;obtain ⟨ps,a1,a2⟩:=aEN (B:=B) ι Hp hp.1 (hv 0 t v rfl rfl) h1 (by omega);obtain ⟨pss,b1,b2,b3⟩:=QZ ι Hp h2 hp.2 (fun j t v h1 h2=>hv (j+1) t v h1 h2) (by omega);refine⟨ps::pss,⟨a1,b1⟩,by simp [EE,b2],fun i v a h1 h2=>?_⟩;cases i with
  | zero=>cases h1;cases h2;exact a2
  | succ i=>exact b3 i v a h1 h2
theorem aDI (ι:eE) (W:World) (hg:H8 (V4 W) W):Rel (V4 W) ι [] W:=⟨fun _ h=>h,fun _ _ h=>(by cases h),fun _ _ _ _ _ _ _ h=>(by cases h),hg⟩
theorem TG {I I':Nat→Prop} {ι ι':eE} {H':aE} {w w':World} (h:Step I ι [] w I' ι' H' w'):Below w.heap.size w w' :=⟨h.os,h.tape,h.output,h.size,fun k hk=>h.keep k hk (fun⟨_,_,_,hx,_⟩=>by cases hx)⟩
theorem HY (hl:laidOutB P=true) {W':World} (hb:Below W.heap.size W W') {sp:Nat→Bool}:∀ {ts:List TypeId} {vs:List Value} {ds:List (DataW H)} {p:List MemPlace},DataW.TrodAll enc P W 0 (fun _=>true) true ts vs ds p →
  (ts.all fun t=>P.readableRec t&&Nat.blt t P.types.size)=true→(∀ x∈p,x.block < W.heap.size)→(∀ x∈p,sp x.block=true)→DataW.TrodAll enc P W' 0 sp true ts vs ds p
 | [],vs,ds,p,h,hp,hlt,hsp=>by
  obtain ⟨rfl,rfl,rfl⟩:=trodAll_nil h;exact trodAll_mk0
 | t::ts,vs,ds,p,h,hp,hlt,hsp=>by
  obtain ⟨v,vs',d,ds',p1,p2,rfl,rfl,rfl,h1,h2⟩:=trodAll_cons h;simp only [List.all_cons,aIA,Nat.blt_eq] at hp;exact trodAll_cons_mk (WideElems.Trod_stays hl hp.1.1 hp.1.2 h1 (fun x hx=>hb.same (hlt x (by simp [hx]))) (fun x hx=>hsp x (by simp [hx])))
   (HY hl hb h2 hp.2 (fun x hx=>hlt x (by simp [hx])) (fun x hx=>hsp x (by simp [hx])))
theorem SB {f:Func} {s:ChangeSpec} {apart fresh handsOn again:Bool} {W W':World} {args:Array Value} {v:Value} {ds gs:List (DataW H)} {lQ pa pv:List MemPlace}
  (hW:DataW.Whole enc P f.params.toList s.vars apart W args.toList ds gs lQ)
  (hres:∀ (b:Nat) (sp:Nat→Bool) (hd:Bool),DataW.TrodAll enc P W' b sp hd f.resultTypes.toList (v.resultList f.resultTypes.size) (s.fn H (ds++gs)).results [])
  (hargs:∀ sp:Nat→Bool,(∀ p∈lQ,sp p.block=true)→DataW.TrodAll enc P W' 0 sp true f.params.toList args.toList (s.fn H (ds++gs)).args pa)
  (hvars:∀ sp:Nat→Bool,(∀ p∈lQ,sp p.block=true)→DataW.TrodVars enc P W' sp s.vars (s.fn H (ds++gs)).vars pv)
  (hps:lQ=pa++pv) (hb:Below W.heap.size W W')
  (hok:∀ (j:Nat) (t:TypeId) (r:Value),f.resultTypes[j]?=some t→(v.resultList f.resultTypes.size)[j]?=some r→Value.okWide P W' .any 0 t r) :
  s.post enc P f apart fresh handsOn again W args v W':=by
 have hlt:∀ p∈lQ,p.block < W.heap.size:=fun p hp=>hW.lt p hp;have hold:∀ p∈lQ,(fun b=>decide (b < W.heap.size)) p.block=true:=fun p hp=>by simpa using hlt p hp
 refine⟨ds,gs,lQ,[],pa,pv,hW,hres _ _ _,hargs _ hold,hvars _ hold,World.keptBut_mono (fun p hp=>⟨hp,?_⟩) (hb.frame (·∈lQ)),fun _=>?_⟩
 ·rw [hps,List.mem_append] at hp;exact Or.inr hp
 obtain ⟨_,_,_,_,_,hz,hn⟩:=hW;refine⟨hok,_,_,([]++pa)++pv,⟨[]++pa,pv,trodAll_append (hargs _ (fun _ _=>rfl)) (hres _ _ _),hvars _ (fun _ _=>rfl),rfl,?_,?_⟩,?_⟩
 ·intro b off hp;have hin:MemPlace.cell b off∈lQ:=by rw [hps];simpa using hp
  rw [hb.frozen (hlt _ hin)];exact hz b off hin
 ·intro ha;have:=hn ha;rw [hps] at this
  simpa using this
 intro p hp _;rw [hps]
 simpa using hp
theorem aAz {n:Nat} {fid:FuncId} {f:Func} {s:ChangeSpec} {apart fresh handsOn again:Bool} {args:Array Value} {ds gs:List (DataW H)} {lQ:List MemPlace} {base:Nat} {bt:TypeId}
  (hl:laidOutB P=true) (hpar:(f.params.toList.all fun t=>P.readableRec t&&Nat.blt t P.types.size)=true) (hpure:f.params.toList.all (vL P n)=true) (hvars:s.vars=[])
  (hfn:∀ ds:List (DataW H),ds.length=f.params.toList.length→(s.fn H ds).results=[.lit (.bool true)]∧(s.fn H ds).args=ds∧(s.fn H ds).vars=[])
  (hres:f.resultTypes=#[bt]) (hbt:P.underlying bt=some .bool)
  (hval:∀ (j:Nat) t v,f.params[j]?=some t→args[j]?=some v→Value.okWide P W .any base t v)
  (hW:DataW.Whole enc P f.params.toList s.vars apart W args.toList ds gs lQ) (hB:Rows.uptoBulkAll ds≤B)
  (hc:∀ pss,LF P B n f.params.toList pss→aK P fid (EE P f.params.toList pss) [] (fun r H'=>r=.pv (.bool true)∧H'=[])) (hg:H8 (V4 W) W:=by exact fun p hp=>by cases hp) :
  Calls P fid args W fun e W'=>∃ v,e=.returned v∧s.post enc P f apart fresh handsOn again W args v W':=by
 have hW':=hW;obtain ⟨p,q,hA,hV,rfl,hfz,hnd⟩:=hW;rw [hvars] at hV;obtain ⟨rfl,rfl⟩:=trodVars_none hV;obtain ⟨pss,h1,h2,h3⟩:=QZ (B:=B) (base:=base) (fun _=>none) [] hA hpure (fun j t v ht hv=>hval j t v (by simpa using ht) (by simpa using hv)) hB;have hlen:ds.length=f.params.toList.length:=by
  clear h1 h2 h3 hc hfn hpar hpure hval hW' hB hfz hnd;revert hA;generalize f.params.toList=ts;generalize args.toList=vs;intro hA;clear hV
  induction ts generalizing vs ds p with
  | nil=>obtain ⟨_,rfl,_⟩:=trodAll_nil hA;rfl
  | cons t ts ih =>
   obtain ⟨v,vs',d,ds',p1,p2,_,rfl,_,_,h2⟩:=trodAll_cons hA;simp [ih _ _ h2]
 refine(hc pss h1 (V4 W) (fun _=>none) W args (aDI _ W hg) (by simpa using h2) (fun i v a ha hb=>h3 i v a (by simpa using ha) hb)).mono ?_;rintro e W' ⟨r,H',I',ι',v,rfl,⟨rfl,rfl⟩,hv,hr,hst⟩;have hvb:v=.bool true:=hv.bool_inv;subst hvb;have hbel:=TG hst;obtain ⟨f1,f2,f3⟩:=hfn (ds++[]) (by simpa using hlen);refine⟨_,rfl,SB (pa:=p) (pv:=[]) hW' (fun b sp hd=>?_) (fun sp hsp=>?_) (fun sp hsp=>?_) rfl hbel (ok_one hres rfl (okWide_bool_mk hbt _))⟩
 ·rw [f1,hres];exact trodAll_cons_mk (shut_bool hbt _) trodAll_mk0
 ·rw [f2,List.append_nil];exact HY hl hbel hA hpar (fun x hx=>hW'.lt x (by simp [hx])) (fun x hx=>hsp x (by simp [hx]))
 rw [f3,hvars];rfl
theorem FR {n:Nat} {t:TypeId} {k:IntKind} {ps:List PV} (ht:P.underlying t=some (.int k)) (h:Sh P B (n+1) t ps):∃ i,ps=[.int k i]∧(Lit.int k i).wf=true:=by unfold Sh at h;rw [ht] at h;exact h
theorem RS {n:Nat} {t:TypeId} {ps:List PV} (ht:P.underlying t=some .string) (h:Sh P B (n+1) t ps):∃ s,ps=[.str s]∧s.size≤B:=by unfold Sh at h;rw [ht] at h;exact h
theorem WJ {n:Nat} {t:TypeId} {fs:Array Field} {ps:List PV} (ht:P.underlying t=some (.struct fs)) (h:Sh P B (n+1) t ps):ShF (fun t ps=>Sh P B n t ps) P.cellsOf fs.toList ps:=by unfold Sh at h;rw [ht] at h;exact h
theorem LX {n:Nat} {t e:TypeId} {ps:List PV} {α:Type} {f:α→List PV} {good:α→Prop} (ht:P.underlying t=some (.slice e)) (h:Sh P B (n+1) t ps) (hd:∀ r,Sh P B n e r→∃ a,r=f a∧good a) :
  ∃ l:List α,ps=[.sl (l.map f)]∧l.length≤B∧∀ a,a∈l→good a:=by
 unfold Sh at h;rw [ht] at h;obtain ⟨rows,rfl,hlen,hr⟩:=h;obtain ⟨l,h1,h2⟩:∃ l:List α,rows=l.map f∧∀ a,a∈l→good a:=by
  clear hlen
  induction rows with
  | nil=>exact⟨[],rfl,by simp⟩
  | cons r rs ih =>
   obtain ⟨l,h1,h2⟩:=ih (fun r h=>hr r (by simp [h]));obtain ⟨a,a1,a2⟩:=hd r (hr r (by simp)).2;refine⟨a::l,by simp [a1,h1],fun b hb=>?_⟩;rcases aID.1 hb with e|e
   ·subst e;exact a2
   exact h2 b e
 subst h1;exact⟨l,rfl,by simpa using hlen,h2⟩
end
end
section
section
variable {I:Nat→Prop} {ι:eE} {H:aE} {w:World} {id sz ty:Nat} {ob:Ob}
theorem Rel.renew (hr:Rel I ι H w) (hH:H.get id=some ob) (hsz:0 < sz) :
  Rel I (fun j=>if j=id then none else ι j) ((id,⟨ob.g+1,sz,ty,[]⟩)::H) w∧Step I ι H w I (fun j=>if j=id then none else ι j) ((id,⟨ob.g+1,sz,ty,[]⟩)::H) w:=by
 have h1:aE.get ((id,⟨ob.g+1,sz,ty,[]⟩)::H) id=some ⟨ob.g+1,sz,ty,[]⟩:=by simp [aE.get,iZ]
 have h2:∀ j,j≠id→aE.get ((id,⟨ob.g+1,sz,ty,[]⟩)::H) j=H.get j:=fun j e=>by simp [aE.get,lP (Ne.symm e)]
 have hst:Step I ι H w I (fun j=>if j=id then none else ι j) ((id,⟨ob.g+1,sz,ty,[]⟩)::H) w:=by
  refine⟨rfl,rfl,rfl,aHx _,fun a _ _=>rfl,fun _ h=>h,fun _ h=>.inl h,?_,fun _ _ _=>rfl,?_⟩
  ·rintro x ⟨j,o,c,hj,hc⟩;by_cases e:j=id
   ·simp [e] at hc
   simp only [e,if_false] at hc;exact .inl ⟨j,o,c,(h2 j e).symm.trans hj,hc⟩
  intro j o hj;by_cases e:j=id
  ·subst e;rw [hH] at hj;cases hj;exact⟨_,h1,Nat.le_succ _,fun e=>absurd e (Nat.succ_ne_self _)⟩
  exact⟨o,(h2 j e).trans hj,aHx _,fun _=>⟨by simp [e],rfl,fun _=>aHx _⟩⟩
 refine⟨⟨hr.imm,?_,?_,hst.glob hr⟩,hst⟩
 ·intro j o hj;by_cases e:j=id
  ·subst e;rw [h1] at hj;cases hj;exact .inl ⟨hsz,by simp,.inr ⟨by simp,rfl⟩⟩
  rw [h2 j e] at hj;exact(hr.obj j o hj).keep (by simp [e]) (fun x c _ _=>⟨rfl,fun h=>h⟩) (fun r _ a _ v hv=>hv.mono hr hst)
 intro j j' o o' x c c' hj hj' hc hc';by_cases e:j=id
 ·simp [e] at hc
 by_cases e':j'=id
 ·simp [e'] at hc'
 simp only [e,if_false] at hc;simp only [e',if_false] at hc';exact hr.inj j j' o o' x c c' ((h2 j e).symm.trans hj) ((h2 j' e').symm.trans hj') hc hc'
end
section
variable {P:Program} {N:Nat} {o:Oper} {E:bZ} {H:aE} {T:TypeId} {x y:Operand}
theorem gT {r r':List AV} {id g i k q gq sz ty:Nat} {ob oq:Ob} {rows':List (List AV)} (ho:o.op=.store T x (.const (.slice none 0 0))) (hs:∀ w,(sizeOf T).run P w=.ok 1 w) (hx:aS E x=some (.ref id g i k))
  (hH:H.get id=some ob) (hg:ob.g=g) (hq:H.get q=some oq) (hgq:oq.g+1=gq) (hsz:Nat.blt 0 sz=true) (hne:Nat.beq q id=false) (hi:ob.rows[i]?=some r) (hk:k < r.length) (hr':r.set k (.osl q gq 0 0)=r') (hrows:ob.rows.set i r'=rows') :
  bS P N o E H .any ((id,⟨g,ob.sz,ob.ty,rows'⟩)::(q,⟨gq,sz,ty,[]⟩)::H):=by
 subst hg hrows hgq;intro a w I ι _ _ hr he K Q hkk;have hne':id≠q:=fun e=>by subst e;rw [iZ] at hne;cases hne
 obtain ⟨a1,a2⟩:=Rel.renew (sz:=sz) (ty:=ty) hr hq (by simpa [Nat.blt_eq] using hsz);have hH':aE.get ((q,⟨oq.g+1,sz,ty,[]⟩)::H) id=some ob:=by rw [get_cons_other _ _ hne'];exact hH
 refine OL (v:=.osl q (oq.g+1) 0 0) (cells:=[.osl q (oq.g+1) 0 0]) (r':=r') (H2:=aE.set ((q,⟨oq.g+1,sz,ty,[]⟩)::H) id {ob with rows:=ob.rows.set i r'}) ho a1 ((aN he hx).mono hr a2)
  (.osl ⟨oq.g+1,sz,ty,[]⟩ (get_cons_same _ _ _) (aHx _) rfl fun _=>⟨by simpa [Nat.blt_eq] using hsz,by simp,.inr ⟨by simp,rfl,rfl,rfl⟩⟩) rfl hs rfl hH' rfl hi (by omega) ?_ rfl K Q (fun c w' k1 k2=>?_)
 ·rw [← hr',List.set_eq_take_append_cons_drop,aHq hk];rfl
 have he:∀ j,aE.get ((id,⟨ob.g,ob.sz,ob.ty,ob.rows.set i r'⟩)::(q,⟨oq.g+1,sz,ty,[]⟩)::H) j=(aE.set ((q,⟨oq.g+1,sz,ty,[]⟩)::H) id {ob with rows:=ob.rows.set i r'}).get j:=fun j=>nE _ _ _ j;have hsub:Sub ((id,⟨ob.g,ob.sz,ob.ty,ob.rows.set i r'⟩)::(q,⟨oq.g+1,sz,ty,[]⟩)::H) (aE.set ((q,⟨oq.g+1,sz,ty,[]⟩)::H) id {ob with rows:=ob.rows.set i r'}):=fun j o hj=>(he j).symm.trans hj;have hst:=a2.trans k2;refine hkk c w' I (fun j=>if j=q then none else ι j) .any _ ⟨rfl,rfl⟩ (.any _) ?_ ?_
 ·refine⟨k1.imm,fun j o hj=>?_,fun j j' o o' b c c' hj hj'=>k1.inj j j' o o' b c c' ((he j).symm.trans hj) ((he j').symm.trans hj'),k1.glob⟩;exact(k1.obj j o ((he j).symm.trans hj)).keep rfl (fun _ _ _ _=>⟨rfl,fun h=>h⟩) (fun r _ a _ v hv=>hv.mono' (fun _ _=>rfl) (fun _ h=>h) (fun id o ho=>⟨o,(he id).trans ho,aHx _,fun _=>⟨rfl,rfl,fun _=>aHx _⟩⟩))
 refine⟨hst.os,hst.tape,hst.output,hst.size,hst.froz,hst.imm,hst.immNew,fun b ⟨j,o,c,hj,hc⟩=>hst.own b ⟨j,o,c,(he j).symm.trans hj,hc⟩,hst.keep,fun j o hj=>?_⟩;obtain ⟨o',e1,e2⟩:=hst.objs j o hj;exact⟨o',(he j).trans e1,e2⟩
theorem IV {v:AV} {cells:List AV} {id n g:Nat} {ob:Ob} (ho:o.op=.box T x) (hx:aS E x=some v) (hc:LC v=some cells) (hn:cells.length=n+1) (hid:H.get id=some ob) (hg:ob.g+1=g) :
  bS P N o E H (.ref id g 0 0) ((id,⟨g,n+1,T,[cells]⟩)::H):=by
 subst hg;intro a w I ι _ _ hr he K Q hk;obtain ⟨h1,h2,h3⟩:=yJ (aN he hx) hc;generalize hcv:a.eval x=c at h1 h2 h3;have hp:=Rel.place (H':=(id,⟨ob.g+1,cells.length,T,[cells]⟩)::H) (id:=id) (cap:=1) (ob':=⟨ob.g+1,cells.length,T,[cells]⟩) (cs':=c.cells) (w':=w.alloc (.cells c.cells T)) hr rfl rfl rfl rfl
  (fun o ho=>by rw [hid] at ho;cases ho;exact Nat.lt_succ_self _) (by show 0 < cells.length;omega) (by simp [h1]) (by simp) (by simp [maxLen]) (by simp) (fun i r hi k a hk=>by
   cases i with
   | zero=>simp at hi;subst hi;simpa using h3 k a hk
   | succ i=>simp at hi) (get_cons_same _ _ _) (fun j hj=>get_cons_other _ _ hj)
 have hv:VRel (w.alloc (.cells c.cells T)) I (fun j=>if j=id then some (w.heap.size,1)else ι j) ((id,⟨ob.g+1,cells.length,T,[cells]⟩)::H) (.pointer (some ⟨w.heap.size,0,none⟩)) (.ref id (ob.g+1) 0 0) :=
  .ref ⟨ob.g+1,cells.length,T,[cells]⟩ (get_cons_same _ _ _) (aHx _) rfl fun _=>⟨by show 0 < cells.length;omega,w.heap.size,1,by simp,by simp⟩
 obtain ⟨r1,r2⟩:=hp;rw [hn] at hv r1 r2;unfold Oper.wpW execOp;simp only [ho,Instr.box,newVar,newRow,Sem.run_bind,run_newObj,Sem.run_pure,Result.andThen_ok,hcv];exact hk _ _ I _ _ _ ⟨rfl,rfl⟩ hv r1 r2
end
def lZ (H:aE):aE→Prop
 | []=>True
 | (id,o)::r=>H.get id=some o∧lZ H r
theorem lZ.sub {H:aE}:∀ {L:aE},lZ H L→Sub L H
 | [],_,id,o,h=>by cases h
 | (i,o')::r,h,id,o,ho=>by
  simp only [aE.get] at ho;cases e:Nat.beq i id with
  | true=>rw [e] at ho;cases ho;rw [← Nat.eq_of_beq_eq_true e];exact h.1
  | false=>rw [e] at ho;exact h.2.sub id o ho
theorem iR (D H:aE) (k:Nat):aE.get (D++H) k=match D.get k with|some v=>some v|none=>H.get k:=uY D H k
theorem aK.frame {P:Program} {f:FuncId} {args:List AV} {H0 H1 H:aE} {r0:AV} (h:aK P f args H0 (fun r H'=>r=r0∧H'=H1)) (hs:Sub H0 H) (hc:bT H0) (ha:∀ a∈args,Clo H0 a)
  (hk:∀ id,(H1.get id).isSome=true→(H0.get id).isSome=true∨H.get id=none):aK P f args H (fun r H'=>r=r0∧H'=H1++H):=by
 intro I ι w vs hr hl hv;refine(h I ι w vs (hr.restrict hs hc) hl (fun i v a h1 h2=>(hv i v a h1 h2).restrict hs (ha a (aIB h2)))).mono ?_;rintro e w' ⟨r,H',I',ι',v,rfl,⟨rfl,rfl⟩,k1,k2,k3⟩;obtain ⟨ι2,hι2⟩:∃ ι2:eE,ι2=(fun j=>if(H'.get j).isSome=true then ι' j else ι j):=⟨_,rfl⟩;have i1:∀ j o,H'.get j=some o→ι2 j=ι' j:=fun j o hj=>by rw [hι2];simp [hj]
 have i2:∀ j,H'.get j=none→ι2 j=ι j:=fun j hj=>by rw [hι2];simp [hj]
 have g1:∀ j o,H'.get j=some o→aE.get (H'++H) j=some o:=fun j o hj=>by rw [iR,hj]
 have g2:∀ j,H'.get j=none→aE.get (H'++H) j=H.get j:=fun j hj=>by rw [iR,hj]
 have hfr:∀ j o,H.get j=some o→H'.get j=none→H0.get j=none:=fun j o hj hn=>by
  cases e:H0.get j with
  | none=>rfl
  | some o0 =>
   obtain ⟨o',e1,_⟩:=k3.objs j o0 e;rw [hn] at e1;cases e1
 have hno:∀ j o b c,H.get j=some o→H'.get j=none→ι j=some (b,c)→¬ CP ι H0 b:=fun j o b c hj hn hb ⟨j',o',c',hj',hb'⟩=>by
  have:=hr.inj j j' o o' b c c' hj (hs _ _ hj') hb hb';subst this;rw [hfr j o hj hn] at hj';cases hj'
 have hst:Step I ι H w I' ι2 (H'++H) w':=by
  refine⟨k3.os,k3.tape,k3.output,k3.size,fun a ha hn=>k3.froz a ha (fun h=>hn (h.sub hs)),k3.imm,fun b hb=>?_,?_,?_,?_⟩
  ·rcases k3.immNew b hb with h1|h1|h1
   ·exact .inl h1
   ·exact .inr (.inl (h1.sub hs))
   exact .inr (.inr h1)
  ·rintro b ⟨j,o,c,hj,hc⟩;cases e:H'.get j with
   | some o' =>
    rw [i1 j o' e] at hc;rcases k3.own b ⟨j,o',c,e,hc⟩with h1|h1
    ·exact .inl (h1.sub hs)
    exact .inr h1
   | none =>
    rw [i2 j e] at hc;rw [g2 j e] at hj;exact .inl ⟨j,o,c,hj,hc⟩
  ·intro b hb hn;exact k3.keep b hb (fun h=>hn (h.sub hs))
  intro j o hj;cases e:H'.get j with
  | some o' =>
   rcases hk j (by rw [e];rfl)with h1|h1
   ·obtain ⟨o0,e0⟩:=Option.isSome_iff_exists.1 h1;have:=hs _ _ e0;rw [hj] at this;cases this;obtain ⟨o2,q1,q2,q3⟩:=k3.objs j o e0;exact⟨o2,g1 j o2 q1,q2,fun e=>by rw [i1 j o2 q1];exact q3 e⟩
   rw [hj] at h1;cases h1
  | none=>exact⟨o,(g2 j e).trans hj,aHx _,fun _=>⟨i2 j e,rfl,fun _=>aHx _⟩⟩
 have hv':∀ {v:Value} {a:AV},VRel w' I' ι' H' v a→VRel w' I' ι2 (H'++H) v a:=fun hva =>
  hva.mono' (fun _ _=>rfl) (fun _ h=>h) (fun id o ho=>⟨o,g1 id o ho,aHx _,fun _=>⟨i1 id o ho,rfl,fun _=>aHx _⟩⟩)
 refine⟨r,H'++H,I',ι2,v,rfl,⟨rfl,rfl⟩,hv' k1,⟨k2.imm,fun j o hj=>?_,fun j j' o o' b c c' hj hj' hc hc'=>?_,k2.glob⟩,hst⟩
 ·cases e:H'.get j with
  | some o' =>
   rw [g1 j o' e] at hj;obtain rfl:o'=o:=Option.some.inj hj;exact(k2.obj j o' e).keep (i1 j o' e) (fun _ _ _ _=>⟨rfl,fun h=>h⟩) (fun r _ a _ v hv=>hv' hv)
  | none =>
   rw [g2 j e] at hj;refine(hr.obj j o hj).keep (i2 j e) (fun b' cap' e1 hlt=>⟨k3.keep b' hlt (hno j o b' cap' hj e e1),fun e3 hi=>?_⟩) (fun r _ a _ v hv=>hv.mono hr hst);rcases k3.immNew b' hi with h1|h1|h1
   ·exact e3 h1
   ·exact hno j o b' cap' hj e e1 h1
   omega
 cases e:H'.get j with
 | some q =>
  rw [i1 j q e] at hc;cases e':H'.get j' with
  | some q' =>
   rw [i1 j' q' e'] at hc';exact k2.inj j j' q q' b c c' e e' hc hc'
  | none =>
   rw [i2 j' e'] at hc';rw [g2 j' e'] at hj';have hlt:=hr.lt ⟨j',o',c',hj',hc'⟩;rcases k3.own b ⟨j,q,c,e,hc⟩with h1|h1
   ·exact absurd h1 (hno j' o' b c' hj' e' hc')
   omega
 | none =>
  rw [i2 j e] at hc;rw [g2 j e] at hj;cases e':H'.get j' with
  | some q' =>
   rw [i1 j' q' e'] at hc';have hlt:=hr.lt ⟨j,o,c,hj,hc⟩;rcases k3.own b ⟨j',q',c',e',hc'⟩with h1|h1
   ·exact absurd h1 (hno j o b c hj e hc)
   omega
  | none =>
   rw [i2 j' e'] at hc';rw [g2 j' e'] at hj';exact hr.inj j j' o o' b c c' hj hj' hc hc'
mutual
def jN (ρ:Nat→Nat):AV→AV
 | .any=>.any
 | .pv p=>.pv p
 | .ref id g i k=>.ref (ρ id) g i k
 | .pad rows i k=>.pad rows i k
 | .osl id g off len=>.osl (ρ id) g off len
 | .clo f caps=>.clo f (kR ρ caps)
 | .agg cs=>.agg (kR ρ cs)
 | .tup vs=>.tup (kR ρ vs)
 | .mp id g=>.mp (ρ id) g
 | .it id g=>.it (ρ id) g
 | .yld id g=>.yld (ρ id) g
 | .raw x ts=>.raw x ts
 | .osc id g off len c=>.osc (ρ id) g off len c
def kR (ρ:Nat→Nat):List AV→List AV
 | []=>[]
 | a::l=>jN ρ a::kR ρ l
end
theorem iP (ρ:Nat→Nat) (l:List AV):kR ρ l=l.map (jN ρ):=by
 induction l with
 | nil=>rfl
 | cons a l ih=>simp [kR,ih]
def lU (ρ:Nat→Nat) (o:Ob):Ob:=⟨o.g,o.sz,o.ty,o.rows.map (kR ρ)⟩
def jM (ρ:Nat→Nat) (H:aE):aE:=H.map fun p=>(ρ p.1,lU ρ p.2)
theorem aA0 {ρ:Nat→Nat} {a:AV} {y:Go.Loop} {ts:List Nat} (h:jN ρ a=.raw y ts):a=.raw y ts:=by cases a<;>first|exact h|(simp only [jN] at h;cases h)
theorem aDL {ρ:Nat→Nat} (o:Ob):∀ y ts r',(lU ρ o).rows=[[.raw y ts],r']→∃ r,o.rows=[[.raw y ts],r]:=by
 intro y ts r' h;obtain ⟨g,sz,ty,rows⟩:=o;simp only [lU] at h ⊢;cases rows with
 | nil=>simp at h
 | cons a rows =>
  cases rows with
  | nil=>simp at h
  | cons b rows =>
   cases rows with
   | cons c rows=>simp at h
   | nil =>
    simp only [List.map_cons,List.map_nil,List.cons.injEq,and_true] at h;obtain ⟨h1,_⟩:=h;cases a with
    | nil=>simp [kR] at h1
    | cons x a =>
     cases a with
     | cons z a=>simp [kR] at h1
     | nil =>
      simp only [kR,List.cons.injEq,and_true] at h1;exact⟨b,by rw [aA0 h1]⟩
section
variable {ρ:Nat→Nat} (hρ:∀ n,ρ (ρ n)=n)
include hρ
theorem oS (H:aE) (id:Nat):(jM ρ H).get (ρ id)=(H.get id).map (lU ρ):=by
 induction H with
 | nil=>rfl
 | cons p H ih =>
  obtain ⟨i,o⟩:=p;simp only [jM,List.map_cons,aE.get] at ih ⊢;by_cases e:i=id
  ·subst e;simp [iZ]
  have:ρ i≠ρ id:=fun h=>e (by rw [← hρ i,h,hρ]);simp [lP e,lP this,ih]
theorem tE (H:aE) (id:Nat):(jM ρ H).get id=(H.get (ρ id)).map (lU ρ):=by
 have:=oS hρ H (ρ id)
 rwa [hρ] at this
theorem VRel.ren {w:World} {I:Nat→Prop} {ι:eE} {H:aE} {v:Value} {a:AV} (h:VRel w I ι H v a):VRel w I (fun j=>ι (ρ j)) (jM ρ H) v (jN ρ a):=by
 induction h with
 | any v=>exact .any v
 | pv h=>exact .pv h
 | ref o hH hg h1 h =>
  refine .ref (lU ρ o) (by rw [oS hρ,hH];rfl) hg h1 (fun e=>?_);obtain ⟨e0,b,cap,e1,e2⟩:=h e;exact⟨e0,b,cap,by rw [hρ];exact e1,e2⟩
 | pad b off cap sz h hsz hlen cs hI hc hp=>exact .pad b off cap sz h hsz hlen cs hI hc hp
 | osl o hH hg h1 h =>
  refine .osl (lU ρ o) (by rw [oS hρ,hH];rfl) hg h1 (fun e=>?_);obtain ⟨e0,e1,e2⟩:=h e;refine⟨e0,by simpa [lU] using e1,?_⟩;rw [hρ];exact e2
 | clo hl h ih =>
  unfold jN;rw [iP];refine .clo (by simpa using hl) (fun i v a hv ha=>?_);rw [aIL] at ha;obtain ⟨a0,h0,rfl⟩:=Option.map_eq_some_iff.1 ha;exact ih i v a0 hv h0
 | agg hl h1 h ih =>
  unfold jN;rw [iP];refine .agg (by simpa using hl) h1 (fun i v a hv ha=>?_);rw [aIL] at ha;obtain ⟨a0,h0,rfl⟩:=Option.map_eq_some_iff.1 ha;exact ih i v a0 hv h0
 | tup hl h ih =>
  unfold jN;rw [iP];refine .tup (by simpa using hl) (fun i v a hv ha=>?_);rw [aIL] at ha;obtain ⟨a0,h0,rfl⟩:=Option.map_eq_some_iff.1 ha;exact ih i v a0 hv h0
 | mp o hH hg h1 h =>
  refine .mp (lU ρ o) (by rw [oS hρ,hH];rfl) hg h1 (fun e=>?_);obtain ⟨e0,b,e1,e2⟩:=h e;exact⟨e0,b,by rw [hρ];exact e1,e2⟩
 | it o hH hg h1 h =>
  refine .it (lU ρ o) (by rw [oS hρ,hH];rfl) hg h1 (fun e=>?_);obtain ⟨e0,b,e1,e2⟩:=h e;exact⟨e0,b,by rw [hρ];exact e1,e2⟩
 | yld o hH hg h1 h =>
  refine .yld (lU ρ o) (by rw [oS hρ,hH];rfl) hg h1 (fun e=>?_);obtain ⟨e0,b,e1,e2⟩:=h e;exact⟨e0,b,by rw [hρ];exact e1,e2⟩
 | osc o hH hg h1 h =>
  refine .osc (lU ρ o) (by rw [oS hρ,hH];rfl) hg h1 (fun e=>?_);obtain ⟨e0,e1,e2⟩:=h e;refine⟨e0,e1,?_⟩;rw [hρ];exact e2
theorem Rel.ren {w:World} {I:Nat→Prop} {ι:eE} {H:aE} (h:Rel I ι H w):Rel I (fun j=>ι (ρ j)) (jM ρ H) w:=by
 refine⟨h.imm,fun id o ho=>?_,fun id id' o o' b c c' ho ho' hi hi'=>?_,h.glob⟩
 ·rw [tE hρ] at ho;obtain ⟨o0,h0,rfl⟩:=Option.map_eq_some_iff.1 ho;refine(h.obj _ o0 h0).keepG rfl rfl (by simp [lU]) (aDL _) rfl (fun _ _ _ _=>⟨rfl,fun h=>h⟩) (fun i r hi=>?_);simp only [lU,aIL] at hi;obtain ⟨r0,hr0,rfl⟩:=Option.map_eq_some_iff.1 hi;refine⟨r0,hr0,by rw [iP,aHr],fun k a a' h1 h2 v hv=>?_⟩;rw [iP,aIL,h1] at h2;cases h2;exact hv.ren hρ
 rw [tE hρ] at ho ho';obtain ⟨o0,h0,rfl⟩:=Option.map_eq_some_iff.1 ho;obtain ⟨o1,h1,rfl⟩:=Option.map_eq_some_iff.1 ho';have:=h.inj _ _ o0 o1 b c c' h0 h1 hi hi';rw [← hρ id,this,hρ]
theorem Step.ren {w w':World} {I I':Nat→Prop} {ι ι':eE} {H H':aE} (h:Step I ι H w I' ι' H' w'):Step I (fun j=>ι (ρ j)) (jM ρ H) w I' (fun j=>ι' (ρ j)) (jM ρ H') w':=by
 have own:∀ {ι:eE} {H:aE} {b:Nat},CP (fun j=>ι (ρ j)) (jM ρ H) b↔CP ι H b:=by
  intro ι H b;constructor
  ·rintro⟨id,o,c,ho,hi⟩;rw [tE hρ] at ho;obtain ⟨o0,h0,rfl⟩:=Option.map_eq_some_iff.1 ho;exact⟨_,o0,c,h0,hi⟩
  rintro⟨id,o,c,ho,hi⟩;exact⟨ρ id,lU ρ o,c,by rw [oS hρ,ho];rfl,by show ι (ρ (ρ id))=_;rw [hρ];exact hi⟩
 refine⟨h.os,h.tape,h.output,h.size,fun a ha hn=>h.froz a ha (fun ho=>hn (own.2 ho)),h.imm,fun b hb=>?_,fun b hb=>?_,fun b hb hn=>h.keep b hb (fun ho=>hn (own.2 ho)),fun id o ho=>?_⟩
 ·rcases h.immNew b hb with h1|h1|h1
  ·exact .inl h1
  ·exact .inr (.inl (own.2 h1))
  exact .inr (.inr h1)
 ·rcases h.own b (own.1 hb)with h1|h1
  ·exact .inl (own.2 h1)
  exact .inr h1
 rw [tE hρ] at ho;obtain ⟨o0,h0,rfl⟩:=Option.map_eq_some_iff.1 ho;obtain ⟨o',e1,e2,e3⟩:=h.objs _ o0 h0;exact⟨lU ρ o',by rw [tE hρ,e1];rfl,e2,fun e=>by
  obtain ⟨q1,q2,q3⟩:=e3 e;exact⟨q1,q2,by simpa [lU] using q3⟩⟩
theorem CV (l:List AV):kR ρ (kR ρ l)=l∧∀ a∈l,jN ρ (jN ρ a)=a:=by
 have key:∀ n:Nat,∀ a:AV,SizeOf.sizeOf a≤n→jN ρ (jN ρ a)=a:=by
  intro n
  induction n with
  | zero=>intro a ha;cases a<;>simp at ha<;>omega
  | succ n ih =>
   have hl:∀ l:List AV,SizeOf.sizeOf l≤n+1→kR ρ (kR ρ l)=l:=by
    intro l hl;rw [iP,iP,List.map_map];have:∀ a∈l,(jN ρ∘jN ρ) a=a:=fun a ha=>ih a (by have:=List.sizeOf_lt_of_mem ha;omega);rw [List.map_congr_left this,List.map_id']
   intro a ha;cases a with
   | any=>rfl
   | pv p=>rfl
   | ref id g i k=>simp only [jN,hρ]
   | pad rows i k=>rfl
   | osl id g off len=>simp only [jN,hρ]
   | clo f caps=>simp only [jN];rw [hl caps (by simp at ha;omega)]
   | agg cs=>simp only [jN];rw [hl cs (by simp at ha;omega)]
   | tup cs=>simp only [jN];rw [hl cs (by simp at ha;omega)]
   | mp id g=>simp only [jN,hρ]
   | it id g=>simp only [jN,hρ]
   | yld id g=>simp only [jN,hρ]
   | raw x ts=>rfl
   | osc id g off len c=>simp only [jN,hρ]
 have h2:∀ a∈l,jN ρ (jN ρ a)=a:=fun a _=>key _ a (aHx _);refine⟨?_,h2⟩;rw [iP,iP,List.map_map];have:∀ a∈l,(jN ρ∘jN ρ) a=a:=h2;rw [List.map_congr_left this,List.map_id']
theorem xL (H:aE):jM ρ (jM ρ H)=H:=by
 simp only [jM,List.map_map];have:∀ p∈H,((fun p:Nat×Ob=>(ρ p.1,lU ρ p.2))∘fun p=>(ρ p.1,lU ρ p.2)) p=p:=by
  rintro⟨i,o⟩ _;simp only [Function.comp,hρ,lU,List.map_map];have:∀ r∈o.rows,(kR ρ∘kR ρ) r=r:=fun r _=>(CV hρ r).1;rw [List.map_congr_left this,List.map_id']
 rw [List.map_congr_left this,List.map_id']
theorem aK.ren {P:Program} {f:FuncId} {args args':List AV} {H H' H1 H1':aE} {r r':AV} (h:aK P f args H (fun x K=>x=r∧K=H1)) (ha:kR ρ args=args') (hH:jM ρ H=H') (hr:jN ρ r=r') (hH1:jM ρ H1=H1') :
  aK P f args' H' (fun x K=>x=r'∧K=H1'):=by
 subst ha hH hr hH1;intro I ι w vs hrel hl hv;have hrel':=hrel.ren hρ;rw [xL hρ] at hrel';have hl':vs.size=args.length:=by rw [hl,iP,aHr]
 refine(h I _ w vs hrel' hl' (fun i v a h1 h2=>?_)).mono ?_
 ·have:=(hv i v (jN ρ a) h1 (by rw [iP,aIL,h2];rfl)).ren hρ
  rwa [xL hρ,(CV hρ [a]).2 a (by simp)] at this
 rintro e w' ⟨x,K,I',ι',v,rfl,⟨rfl,rfl⟩,k1,k2,k3⟩;have k3':=k3.ren hρ;have e1:(fun j=>(fun j=>ι (ρ j)) (ρ j))=ι:=by funext j;simp only [hρ]
 rw [e1] at k3';exact⟨_,_,I',_,v,rfl,⟨rfl,rfl⟩,k1.ren hρ,k2.ren hρ,k3'⟩
end
end
section
structure KeyKind (α:Type) where
 d:TypeDesc
 pv:α→PV
 val:α→Value
 rel:∀ (w:World) (I:Nat→Prop) (v:Value) (a:α),PRep w I v (pv a)→v=val a
 inj:∀ a b,val a=val b→a=b
 is:∀ a,MapKept.IsKey d (val a)
 rep:∀ (w:World) (I:Nat→Prop) (a:α),PRep w I (val a) (pv a)
def iU:KeyKind ByteArray:=⟨.string,.str,.string,fun _ _ _ _ h=>by cases h;rfl,fun _ _ h=>by cases h;rfl,fun _=>trivial,fun _ _ _=>.str _⟩
def tO {α:Type} (κ:KeyKind α) (l:List (α×AV)):List (List AV):=l.mapIdx fun i p=>[.pv (κ.pv p.1),p.2,.pv (.int .i64 i)]
theorem J7 {α:Type} {κ:KeyKind α} {l:List (α×AV)} {i:Nat} {r:List AV}:(tO κ l)[i]?=some r↔∃ p,l[i]?=some p∧r=[.pv (κ.pv p.1),p.2,.pv (.int .i64 i)]:=by
 rw [tO,List.getElem?_mapIdx];cases l[i]? with
 | none=>simp
 | some p=>simp [eq_comm]
theorem BI {α:Type} (κ:KeyKind α) (l:List (α×AV)):(tO κ l).length=l.length:=by simp [tO]
theorem A0 {α:Type} {κ:KeyKind α} {H:aE} {w:World} {I:Nat→Prop} {ι:eE} {v:Value} {k:α} (h:VRel w I ι H v (.pv (κ.pv k))):v=κ.val k:=κ.rel _ _ _ _ h.pv_inv
section
variable {α:Type}
structure MapAt (w:World) (I:Nat→Prop) (ι:eE) (H:aE) (κ:KeyKind α) (l:List (α×AV)) (es:Array MapEntry):Prop where
 size:es.size=l.length
 rel:∀ (i:Nat) (p:α×AV),l[i]?=some p→∃ e,es[i]?=some e∧e.born=i∧e.key=κ.val p.1∧VRel w I ι H e.val p.2
theorem aFI {w:World} {I:Nat→Prop} {ι:eE} {H:aE} {id b:Nat} {ob:Ob} {κ:KeyKind α} {l:List (α×AV)} (h:gS w I ι H id ob) (hz:ob.sz=0) (hι:ι id=some (b,0)) (hrows:ob.rows=tO κ l) :
  ∃ es,w.heap[b]?=some (.map es ob.ty)∧¬ I b∧MapAt w I ι H κ l es:=by
 obtain ⟨_,b',es,e1,e2,e3,e4,e5,e6,e7⟩:=h.map hz hι;rw [hι] at e1;cases e1;refine⟨es,e2,e3,⟨by rw [e4,hrows,BI],fun i p hp=>?_⟩⟩;obtain ⟨e,k,a,n,q1,q2,q3,q4,q5⟩:=e7 i _ (by rw [hrows];exact J7.2 ⟨p,hp,rfl⟩);cases q2;exact⟨e,q1,by injection q5.int_inv with _ hh;omega,κ.rel _ _ _ _ q3.pv_inv,q4⟩
theorem MapAt.born {w:World} {I:Nat→Prop} {ι:eE} {H:aE} {κ:KeyKind α} {l:List (α×AV)} {es:Array MapEntry} (h:MapAt w I ι H κ l es) {i:Nat} {e:MapEntry} (hi:es[i]?=some e):e.born=i∧i < l.length:=by
 have hlt:i < l.length:=by rw [← h.size];exact(Array.getElem?_eq_some_iff.1 hi).1
 obtain ⟨e',q1,q2,_⟩:=h.rel i l[i] (aHw hlt);rw [hi] at q1;cases q1;exact⟨q2,hlt⟩
section
variable {I:Nat→Prop} {ι:eE} {H H':aE} {w:World} {id b cap:Nat} {ob ob':Ob}
def World.setObj (w:World) (b:Nat) (x:Obj):World:={w with heap:=w.heap.setIfInBounds b x}
def M2:Obj→Bool
 | .cells ..=>true
 | _=>false
theorem Rel.rewrite {x0 x:Obj} (hr:Rel I ι H w) (hH:H.get id=some ob) (hι:ι id=some (b,cap)) (hz:ob.sz=0) (hb:w.heap[b]?=some x0) (h0:M2 x0=false) (hx:M2 x=false) (hg:ob'.g=ob.g) (hz':ob'.sz=0)
  (hnew:w.heap.size=(World.setObj w b x).heap.size→(World.setObj w b x).heap[b]?=some x→¬ I b→(∀ v a,VRel w I ι H v a→VRel (World.setObj w b x) I ι H' v a)→gS (World.setObj w b x) I ι H' id ob')
  (h1:H'.get id=some ob') (h2:∀ j,j≠id→H'.get j=H.get j):Rel I ι H' (World.setObj w b x)∧Step I ι H w I ι H' (World.setObj w b x):=by
 have hown:CP ι H b:=⟨id,ob,cap,hH,hι⟩;obtain ⟨hs1,hs2⟩:=MapKept.heap_set (w:=w) (o':=x) hb;have hst:Step I ι H w I ι H' (World.setObj w b x):=by
  refine⟨rfl,rfl,rfl,by simp [World.setObj],fun a _ _=>?_,fun _ h=>h,fun _ h=>.inl h,?_,?_,?_⟩
  ·by_cases e:a.block=b
   ·simp only [World.frozen?,World.setObj,e,hs1,hb];cases x<;>cases x0<;>first|rfl|(simp [M2] at hx h0)
   simp [World.frozen?,World.setObj,hs2 _ e]
  ·rintro y ⟨j,o,c,hj,hc⟩;by_cases e:j=id
   ·subst e;exact .inl ⟨j,ob,c,hH,hc⟩
   exact .inl ⟨j,o,c,(h2 j e).symm.trans hj,hc⟩
  ·intro y _ hy;exact hs2 y (fun e=>hy (e▸hown))
  intro j o hj;by_cases e:j=id
  ·subst e;rw [hH] at hj;cases hj;exact⟨ob',h1,by omega,fun _=>⟨rfl,by omega,fun h=>by omega⟩⟩
  exact⟨o,(h2 j e).trans hj,aHx _,fun _=>⟨rfl,rfl,fun _=>aHx _⟩⟩
 refine⟨⟨fun y hy=>by simpa [World.setObj] using hr.imm y hy,?_,?_,hst.glob hr⟩,hst⟩
 ·intro j o hj;by_cases e:j=id
  ·subst e;rw [h1] at hj;cases hj;exact hnew (by simp [World.setObj]) hs1 ((hr.obj j ob hH).block hι).2 (fun v a hv=>hv.mono hr hst)
  rw [h2 j e] at hj;exact(hr.obj j o hj).keep rfl (fun y c hy _=>⟨hs2 y (fun hbb=>e (hr.inj j id o ob b c cap hj hH (hbb▸hy) hι)),fun h=>h⟩) (fun r _ a _ v hv=>hv.mono hr hst)
 intro j j' o o' y c c' hj hj' hc hc';have key:∀ j o,H'.get j=some o→∃ o,H.get j=some o:=by
  intro j o hj;by_cases e:j=id
  ·exact⟨ob,e▸hH⟩
  exact⟨o,(h2 j e).symm.trans hj⟩
 obtain ⟨q,hq⟩:=key j o hj;obtain ⟨q',hq'⟩:=key j' o' hj';exact hr.inj j j' q q' y c c' hq hq' hc hc'
theorem Rel.remap {κ:KeyKind α} {l:List (α×AV)} {es0 es':Array MapEntry} {c0:Nat} (hr:Rel I ι H w) (hH:H.get id=some ob) (hι:ι id=some (b,0)) (hz:ob.sz=0) (hb:w.heap[b]?=some (.map es0 c0)) (hg:ob'.g=ob.g) (hz':ob'.sz=0) (hty:ob'.ty=l.length) (hrows:ob'.rows=tO κ l)
  (hm:MapAt w I ι H κ l es') (h1:H'.get id=some ob') (h2:∀ j,j≠id→H'.get j=H.get j):Rel I ι H' (World.setObj w b (.map es' l.length))∧Step I ι H w I ι H' (World.setObj w b (.map es' l.length)):=by
 refine hr.rewrite hH hι hz hb rfl rfl hg hz' (fun _ hs1 hI hmono=>?_) h1 h2;refine .inr (.inl ⟨hz',b,es',hι,by rw [hty];exact hs1,hI,by rw [hm.size,hrows,BI],fun i e hi=>?_,fun i j e e' hij hi hj=>?_,fun i r hr'=>?_⟩)
 ·obtain ⟨q1,q2⟩:=hm.born hi;rw [q1,hty];exact q2
 ·have q1:=(hm.born hi).1;have q2:=(hm.born hj).1;omega
 rw [hrows] at hr';obtain ⟨p,hp,rfl⟩:=J7.1 hr';obtain ⟨e,q1,q2,q3,q4⟩:=hm.rel i p hp;exact⟨e,_,_,_,q1,rfl,by rw [q3];exact .pv (κ.rep _ _ p.1),hmono _ _ q4,by rw [q2];exact .pv (.int _ _)⟩
end
theorem wJ {w:World} {I:Nat→Prop} {ι:eE} {H:aE} {v:Value} {id g:Nat} {ob:Ob} (h:VRel w I ι H v (.mp id g)) (hH:H.get id=some ob) (hg:ob.g=g):ob.sz=0∧∃ b,ι id=some (b,0)∧v=.map (some b):=by
 cases h with
 | mp o' h1 h2 _ h3 =>
  rw [hH] at h1;cases h1;exact h3 hg
variable [DecidableEq α]
def pH:List (α×AV)→α→Option AV
 | [],_=>none
 | (k',a)::r,k=>if k'=k then some a else pH r k
def yO:List (α×AV)→α→AV→List (α×AV)
 | [],k,v=>[(k,v)]
 | (k',a)::r,k,v=>if k'=k then(k,v)::r else(k',a)::yO r k v
def aD4:List (α×AV)→α→List (α×AV)
 | [],_=>[]
 | (k',a)::r,k=>if k'=k then r else(k',a)::aD4 r k
theorem VM {w:World} {I:Nat→Prop} {ι:eE} {H:aE} (κ:KeyKind α) (k:α):∀ (l:List (α×AV)) (es:List MapEntry) (i:Nat),es.length=l.length→(∀ (i:Nat) (p:α×AV),l[i]?=some p→∃ e,es[i]?=some e∧e.key=κ.val p.1∧VRel w I ι H e.val p.2) →
  (Instr.findNow κ.d (κ.val k) es i=some none∧pH l k=none∧∀ v,yO l k v=l++[(k,v)]) ∨
  ∃ j e a,Instr.findNow κ.d (κ.val k) es i=some (some (i+j,e.val))∧es[j]?=some e∧e.key=κ.val k∧pH l k=some a∧VRel w I ι H e.val a∧l[j]?=some (k,a)∧(∀ v,yO l k v=l.set j (k,v))∧aD4 l k=l.eraseIdx j
 | [],[],i,_,_=>.inl ⟨rfl,rfl,fun _=>rfl⟩
 | (k',a)::l,e::es,i,hl,hr=>by
  obtain ⟨e0,z1,z2,z3⟩:=hr 0 (k',a) rfl;cases z1;obtain ⟨r,hr1,hiff⟩:=MapKept.sameNow_of_keys (κ.is k) (show MapKept.IsKey κ.d e.key by rw [z2];exact κ.is k');by_cases hk:k'=k
  ·subst hk;have hrt:r=true:=hiff.2 z2.symm;subst hrt;exact .inr ⟨0,e,a,by simp [Instr.findNow,hr1],rfl,z2,by simp [pH],z3,rfl,fun v=>by simp [yO],by simp [aD4]⟩
  have hrf:r=false:=by
   cases r with
   | false=>rfl
   | true=>exact absurd (κ.inj _ _ ((hiff.1 rfl).trans z2)).symm hk
  subst hrf;rcases VM κ k l es (i+1) (by simpa using hl) (fun i p hp=>hr (i+1) p hp)with⟨h1,h2,h3⟩|⟨j,e',a',h1,h2,h3,h4,h5,h6,h7,h8⟩
  ·exact .inl ⟨by simp [Instr.findNow,hr1,h1],by simp [pH,hk,h2],fun v=>by simp [yO,hk,h3]⟩
  exact .inr ⟨j+1,e',a',by simp [Instr.findNow,hr1,h1];omega,by simpa using h2,h3,by simp [pH,hk,h4],h5,by simpa using h6,fun v=>by simp [yO,hk,h7],by simp [aD4,hk,h8]⟩
section
variable {P:Program} {N:Nat} {o:Oper} {E:bZ} {H:aE} {T kt et:TypeId} {x y z:Operand} {κ:KeyKind α} {l:List (α×AV)} {id g:Nat} {ob:Ob} {k:α}
theorem IL {v:AV} {H2:aE} (ho:o.op=.mapUpdate T x y z∨o.op=.insert T x y z) (hT:P.underlying T=some (.map kt et)) (hd:P.underlying kt=some κ.d) (hx:aS E x=some (.mp id g)) (hH:H.get id=some ob) (hg:ob.g=g)
  (hty:ob.ty=l.length) (hrows:ob.rows=tO κ l) (hy:aS E y=some (.pv (κ.pv k))) (hz:aS E z=some v) (hH2:H.set id {ob with ty:=(yO l k v).length,rows:=tO κ (yO l k v)}=H2):bS P N o E H .any H2:=by
 intro a w I ι _ _ hr he K Q hkk;obtain ⟨hsz,b,hι,hvx⟩:=wJ (aN he hx) hH hg;obtain ⟨es,e2,e3,e4⟩:=aFI (hr.obj id ob hH) hsz hι hrows;rw [hty] at e2;have hvy:=A0 (aN he hy);have hvz:=aN he hz;subst hH2;have fin:∀ es',(Instr.mapUpdate T (a.eval x) (a.eval y) (a.eval z)).run P w=.ok () (World.setObj w b (.map es' (yO l k v).length))→MapAt w I ι H κ (yO l k v) es'→o.wpW P a w K Q:=by
  intro es' hrun hm;obtain ⟨k2,k3⟩:=Rel.remap (H':=H.set id {ob with ty:=(yO l k v).length,rows:=tO κ (yO l k v)}) (ob':={ob with ty:=(yO l k v).length,rows:=tO κ (yO l k v)}) hr hH hι hsz e2 rfl hsz rfl rfl hm (aE.get_set_same _ _ _) (fun j hj=>aE.get_set_other _ _ hj);unfold Oper.wpW execOp;rcases ho with ho|ho
  ·simp only [ho,Sem.run_bind,hrun,Result.andThen_ok,Sem.run_pure];exact hkk _ _ I ι _ _ ⟨rfl,rfl⟩ (.any _) k2 k3
  simp only [ho,Sem.run_bind,hrun,Result.andThen_ok,Sem.run_pure];exact hkk _ _ I ι _ _ ⟨rfl,rfl⟩ (.any _) k2 k3
 rcases VM κ k l es.toList 0 (by simpa using e4.size) (fun i p hp=>let ⟨e,q1,_,q3⟩:=e4.rel i p hp;⟨e,by simpa using q1,q3⟩)with⟨h1,h2,h3⟩|⟨j,e,a',h1,h2,h3,h4,h5,h6,h7,h8⟩
 ·refine fin (es.push {key:=κ.val k,val:=a.eval z,born:=l.length}) ?_ ⟨?_,?_⟩
  ·simp [Instr.mapUpdate,hvx,hvy,run_underlying hT,MapKept.run_getObj_map e2,MapKept.run_checkKey hd (κ.is k),MapKept.run_findKey hd h1,MapKept.run_setObj_map _ e2,World.setObj,h3]
  ·rw [h3];simp [e4.size]
  intro i p hp;rw [h3] at hp;by_cases hi:i < l.length
  ·rw [List.getElem?_append_left hi] at hp;obtain ⟨e,q1,q2⟩:=e4.rel i p hp;exact⟨e,by rw [Array.getElem?_push,aHp (by rw [e4.size];omega)];exact q1,q2⟩
  rw [List.getElem?_append_right (by omega)] at hp;cases hil:i - l.length with
  | zero =>
   rw [hil] at hp;cases hp;exact⟨_,by rw [Array.getElem?_push,aHq (by rw [e4.size];omega)],by show l.length=i;omega,rfl,hvz⟩
  | succ m=>rw [hil] at hp;simp at hp
 have hj:es[j]?=some e:=by simpa using h2
 have hjl:j < es.size:=(Array.getElem?_eq_some_iff.1 hj).1;have hln:(yO l k v).length=l.length:=by rw [h7];simp
 refine fin (es.modify j fun e=>{e with key:=κ.val k,val:=a.eval z}) ?_ ⟨?_,?_⟩
 ·simp [Instr.mapUpdate,hvx,hvy,run_underlying hT,MapKept.run_getObj_map e2,MapKept.run_checkKey hd (κ.is k),MapKept.run_findKey hd h1,hj,h3,MapKept.run_keyThatStays (κ.is k),MapKept.run_setObj_map _ e2,World.setObj,hln]
 ·rw [h7];simp [e4.size]
 intro i p hp;rw [h7] at hp;by_cases e:i=j
 ·subst e;rw [List.getElem?_set_self (by rw [← e4.size];exact hjl)] at hp;cases hp;exact⟨{e with key:=κ.val k,val:=a.eval z},by rw [Array.getElem?_modify,aHq rfl,hj];rfl,(e4.born hj).1,rfl,hvz⟩
 rw [List.getElem?_set_ne (Ne.symm e)] at hp;obtain ⟨e',q1,q2⟩:=e4.rel i p hp;exact⟨e',by rw [Array.getElem?_modify,aHp (Ne.symm e)];exact q1,q2⟩
theorem Rel.placeX {I:Nat→Prop} {ι:eE} {H H':aE} {w w':World} {id cap:Nat} {ob':Ob} {x:Obj} (hr:Rel I ι H w) (hos:w'.os=w.os) (htape:w'.tape=w.tape) (hout:w'.output=w.output) (hw:w'.heap=w.heap.push x)
  (hold:∀ o,H.get id=some o→o.g < ob'.g)
  (hobj:w'.heap[w.heap.size]?=some x→¬ I w.heap.size→(∀ v a,VRel w I ι H v a→VRel w' I (fun j=>if j=id then some (w.heap.size,cap)else ι j) H' v a)→gS w' I (fun j=>if j=id then some (w.heap.size,cap)else ι j) H' id ob')
  (h1:H'.get id=some ob') (h2:∀ j,j≠id→H'.get j=H.get j) :
  Rel I (fun j=>if j=id then some (w.heap.size,cap)else ι j) H' w'∧Step I ι H w I (fun j=>if j=id then some (w.heap.size,cap)else ι j) H' w':=by
 have hnew:w'.heap[w.heap.size]?=some x:=by rw [hw];simp
 have holdb:∀ x,x < w.heap.size→w'.heap[x]?=w.heap[x]?:=fun x hx=>by rw [hw,Array.getElem?_push,aHp (Nat.ne_of_lt hx)]
 have hsize:w'.heap.size=w.heap.size+1:=by rw [hw];simp
 have hst:Step I ι H w I (fun j=>if j=id then some (w.heap.size,cap)else ι j) H' w':=by
  refine⟨hos,htape,hout,by omega,fun a ha _=>?_,fun _ h=>h,fun _ h=>.inl h,?_,fun x hx _=>holdb x hx,?_⟩
  ·simp [World.frozen?,holdb a.block ha]
  ·rintro x ⟨j,o,c,hj,hc⟩;by_cases e:j=id
   ·simp only [e,if_true] at hc;cases hc;exact .inr (aHx _)
   simp only [e,if_false] at hc;exact .inl ⟨j,o,c,(h2 j e).symm.trans hj,hc⟩
  intro j o hj;by_cases e:j=id
  ·subst e;have:=hold o hj;exact⟨ob',h1,by omega,fun e=>by omega⟩
  exact⟨o,(h2 j e).trans hj,aHx _,fun _=>⟨by simp [e],rfl,fun _=>aHx _⟩⟩
 refine⟨⟨fun x hx=>by have:=hr.imm x hx;omega,?_,?_,hst.glob hr⟩,hst⟩
 ·intro j o hj;by_cases e:j=id
  ·subst e;rw [h1] at hj;cases hj;exact hobj hnew (fun hi=>Nat.lt_irrefl _ (hr.imm _ hi)) (fun v a hv=>hv.mono hr hst)
  rw [h2 j e] at hj;exact(hr.obj j o hj).keep (by simp [e]) (fun x c _ hx=>⟨holdb x hx,fun h=>h⟩) (fun r _ a _ v hv=>hv.mono hr hst)
 intro j j' o o' x c c' hj hj' hc hc';by_cases e:j=id<;>by_cases e':j'=id
 ·rw [e,e']
 ·simp only [e,if_true] at hc;simp only [e',if_false] at hc';cases hc;have:=hr.lt ⟨j',o',c',(h2 j' e').symm.trans hj',hc'⟩;exact absurd this (Nat.lt_irrefl _)
 ·simp only [e,if_false] at hc;simp only [e',if_true] at hc';cases hc';have:=hr.lt ⟨j,o,c,(h2 j e).symm.trans hj,hc⟩;exact absurd this (Nat.lt_irrefl _)
 simp only [e,if_false] at hc;simp only [e',if_false] at hc';exact hr.inj j j' o o' x c c' ((h2 j e).symm.trans hj) ((h2 j' e').symm.trans hj') hc hc'
theorem Rel.placeM {I:Nat→Prop} {ι:eE} {H H':aE} {w w':World} {id:Nat} {ob':Ob} (hr:Rel I ι H w) (hos:w'.os=w.os) (htape:w'.tape=w.tape) (hout:w'.output=w.output) (hw:w'.heap=w.heap.push (.map #[] 0))
  (hold:∀ o,H.get id=some o→o.g < ob'.g) (hsz:ob'.sz=0) (hty:ob'.ty=0) (hrows:ob'.rows=[]) (h1:H'.get id=some ob') (h2:∀ j,j≠id→H'.get j=H.get j) :
  Rel I (fun j=>if j=id then some (w.heap.size,0)else ι j) H' w'∧Step I ι H w I (fun j=>if j=id then some (w.heap.size,0)else ι j) H' w' :=
 hr.placeX hos htape hout hw hold (fun hnew hI _=>.inr (.inl ⟨hsz,w.heap.size,#[],by simp,by rw [hty];exact hnew,hI,by rw [hrows];rfl,by simp,by simp,by rw [hrows];simp⟩)) h1 h2
theorem aD9 {I:Nat→Prop} {ι:eE} {w:World} {id gg:Nat} (hr:Rel I ι H w) (hid:∀ o,H.get id=some o→o.g < gg) :
  ∃ ι',VRel (w.alloc (.map #[] 0)) I ι' ((id,⟨gg,0,0,[]⟩)::H) (.map (some w.heap.size)) (.mp id gg)∧Rel I ι' ((id,⟨gg,0,0,[]⟩)::H) (w.alloc (.map #[] 0))∧Step I ι H w I ι' ((id,⟨gg,0,0,[]⟩)::H) (w.alloc (.map #[] 0)):=by
 obtain ⟨h1,h2⟩:=Rel.placeM (H':=(id,⟨gg,0,0,[]⟩)::H) (id:=id) (ob':=⟨gg,0,0,[]⟩) (w':=w.alloc (.map #[] 0)) hr rfl rfl rfl rfl hid rfl rfl rfl (get_cons_same _ _ _) (fun j hj=>get_cons_other _ _ hj);exact⟨_,.mp ⟨gg,0,0,[]⟩ (get_cons_same _ _ _) (aHx _) rfl fun _=>⟨rfl,w.heap.size,by simp,rfl⟩,h1,h2⟩
theorem oW {α:Type} (κ:KeyKind α) (ho:o.op=.makeMap T none) (hid:H.get id=none):bS P N o E H (.mp id 0) ((id,⟨0,0,([]:List (α×AV)).length,tO κ []⟩)::H):=by intro a w I ι _ _ hr he K Q hk;obtain ⟨ι',h1,h2,h3⟩:=aD9 (id:=id) (gg:=0) hr (fun o ho=>by rw [hid] at ho;cases ho);unfold Oper.wpW execOp;simp only [ho,Instr.makeMap,Option.map_none,Sem.run_bind,run_newObj,Sem.run_pure,Result.andThen_ok];exact hk _ _ I ι' _ _ ⟨rfl,rfl⟩ h1 h2 h3
theorem OB {v:AV} {l':List (α×AV)} (ho:o.op=.mapUpdate T x y z∨o.op=.insert T x y z) (hT:P.underlying T=some (.map kt et)) (hd:P.underlying kt=some κ.d) (hx:aS E x=some (.mp id g)) (hH:H.get id=some ob) (hg:ob.g=g)
  (hty:ob.ty=l.length) (hrows:ob.rows=tO κ l) (hy:aS E y=some (.pv (κ.pv k))) (hz:aS E z=some v) (hr:yO l k v=l'):bS P N o E H .any ((id,⟨g,ob.sz,l'.length,tO κ l'⟩)::H):=by
 subst hg hr;exact(IL ho hT hd hx hH rfl hty hrows hy hz rfl).congr (nE _ _ _)
end
end
end
section
def gU (m:AV) (since last:Nat) (seen:List Nat):List (List AV):=[m,.pv (.int .i64 since),.pv (.int .i64 last)]::seen.map fun(n:Nat)=>[.pv (.int .i64 n)]
theorem S0 {w:World} {I:Nat→Prop} {ι:eE} {H:aE} {v:Value} {id g:Nat} {ob:Ob} (h:VRel w I ι H v (.it id g)) (hH:H.get id=some ob) (hg:ob.g=g):ob.sz=0∧∃ b,ι id=some (b,1)∧v=.pointer (some ⟨b,0,none⟩):=by
 cases h with
 | it o' h1 h2 _ h3 =>
  rw [hH] at h1;cases h1;exact h3 hg
theorem VF {w:World} {I:Nat→Prop} {ι:eE} {H:aE} {q b mid mg since last:Nat} {oq om:Ob} {seen:List Nat} (h:gS w I ι H q oq) (hz:oq.sz=0) (hι:ι q=some (b,1)) (hrows:oq.rows=gU (.mp mid mg) since last seen) (hM:H.get mid=some om) (hmg:om.g=mg) :
  ∃ bm,ι mid=some (bm,0)∧om.sz=0∧w.heap[b]?=some (.mapIter (some bm) since seen.toArray last)∧¬ I b:=by
 obtain ⟨_,b',bm,since',seen',last',e1,e2,e3,e4,⟨m,n,k,z1,z2,z3,z4⟩,e6⟩:=h.iter hz hι;rw [hι] at e1;cases e1;rw [hrows] at z1;simp only [gU,List.getElem?_cons_zero,Option.some.injEq,List.cons.injEq,and_true] at z1;obtain ⟨rfl,rfl,rfl⟩:=z1;obtain ⟨q1,bm',q2,q3⟩:=wJ z2 hM hmg;cases q3;injection z3.int_inv with _ h1;injection z4.int_inv with _ h2;have h1':since'=since:=by omega
 have h2':last'=last:=by omega
 subst h1' h2';refine⟨bm',q2,q1,?_,e3⟩;have hs:seen'=seen.toArray:=by
  have hl:seen'.size=seen.length:=by rw [hrows] at e4;simpa [gU] using e4.symm
  apply Array.ext
  ·simpa using hl
  intro i hi1 hi2;obtain ⟨x,n,y1,y2,y3⟩:=e6 i [.pv (.int .i64 (seen[i]'(by simpa using hi2)))] (by rw [hrows];show (seen.map _)[i]?=_;rw [aIL,aHw (by simpa using hi2)];rfl);cases y2;injection y3.int_inv with _ h3;rw [Array.getElem?_eq_getElem hi1] at y1;cases y1;simp only [List.getElem_toArray];omega
 rw [← hs];exact e2
section
variable {α:Type}
theorem aAM {P:Program} (w:World) (ty:TypeId) (r bm since c0:Nat) (seen:Array Nat) (es:Array MapEntry) (clock:Nat) (hr:w.heap[r]?=some (.mapIter (some bm) since seen c0)) (hb:w.heap[bm]?=some (.map es clock)) (hold:∀ x∈es.toList,x.born < since) (hsc:since≤c0) :
  ((leftOf es seen).size=0∧(Instr.next (.pointer (some ⟨r,0,none⟩)) false ty).run P w=.ok (.tuple #[.bool false]) w) ∨
  ∃ e∈(leftOf es seen).toList,∃ d:Nat,(Instr.next (.pointer (some ⟨r,0,none⟩)) false ty).run P w=.ok (.tuple #[.bool true,e.key,e.val]) (World.setObj {w with drawn:=d} r (.mapIter (some bm) since (seen.push e.born) clock)):=by
 simp only [Instr.next,getObj,Sem.run_bind,Sem.run,hr,hb,Result.andThen,next_test_false seen es since c0 hold hsc,Bool.false_eq_true,if_false];unfold leftOf;have hmem:∀ x∈(Array.filter (fun e=>!seen.contains e.born) es).toList,x.born < since:=fun x hx=>hold x (by simp at hx ⊢;exact hx.1);generalize Array.filter (fun e=>!seen.contains e.born) es=L at hmem ⊢;have e1:L.filter (fun x=>decide (x.born < since))=L:=Array.filter_eq_self.2 (fun x hx=>by simpa using hmem x (by simpa using hx));have e2:L.filter (fun x=>decide (x.born≥since))=#[]:=by
  rw [Array.filter_eq_empty_iff];intro x hx;have:=hmem x (by simpa using hx);simp;omega
 simp only [e1,e2,Array.append_empty];by_cases h0:L.size=0
 ·left;have:L=#[]:=Array.eq_empty_of_size_eq_zero h0;subst this;refine⟨rfl,?_⟩;simp [choose,Sem.run,Question.forced]
 right;have hne:L.isEmpty=false:=by simp [Array.isEmpty,h0]
 simp only [hne,Bool.false_eq_true,if_false,Array.empty_append,Array.size_map];have hch:∃ (j d:Nat),j < L.size∧(choose (Question.mapNext L.size)).run P w=.ok j {w with drawn:=d}:=by
  by_cases hf:L.size≤1
  ·exact⟨0,w.drawn,by omega,by simp [choose,Sem.run,Question.forced,hf]⟩
  exact⟨_,w.drawn+1,Nat.mod_lt _ (by omega),by
   simp only [choose,Sem.run,Question.forced,aHy,hf,if_false,Question.cut];rfl⟩
 obtain ⟨j,d,hj,hrun⟩:=hch;refine⟨L[j],by simp,d,?_⟩;have hset:∀ (o':Obj),(setObj r o').run P {w with drawn:=d}=.ok () (World.setObj {w with drawn:=d} r o'):=fun o'=>by
  simp [setObj,Sem.run,hr,World.setObj]
 simp only [hrun,Array.getElem?_map,Array.getElem?_eq_getElem hj,Option.map_some,Sem.run_bind,hset,Result.andThen];rfl
end
section
variable {P:Program} {N:Nat} {o:Oper} {E:bZ} {H:aE} {f:Operand} {args:Array Operand} {at_:Array TypeId} {F:FuncId} {fn:Func} {e:Array Value→Sem Value} {vs:List AV} {r:AV}
def aFc (P:Program) (e:Array Value→Sem Value) (H:aE) (vs:List AV) (r:AV):Prop :=∀ (w:World) (I:Nat→Prop) (ι:eE) (cs:Array Value),cs.size=vs.length→(∀ (i:Nat) (v:Value) (a:AV),cs[i]?=some v→vs[i]?=some a→VRel w I ι H v a)→∃ c,(e cs).run P w=.ok c w∧VRel w I ι H c r
theorem UX (ho:o.op=.call {callee:=.value f,args:=args,argTypes:=at_}) (hf:aS E f=some (.pv (.fn F))) (hF:P.funcs[F]?=some fn) (hname:(fn.name == "runtime.NumGoroutine")=false)
  (hb:fn.body.isNone=true) (hn:Extern.findNext fn=none) (he:Extern.find fn=some e) (hv:CB E args.toList=some vs) (h:aFc P e H vs r):bS P N o E H r H :=
 .of_run fun a w I ι hr hE=>by
  have hfv:=(aN hE hf).fn_inv;obtain ⟨h1,h2⟩:=uU hE (vI hv);obtain ⟨c,hc,hcr⟩:=h w I ι (args.map a.eval) (by simpa using h1) (fun i v b hv hb=>h2 i v b (by simpa using hv) hb);refine⟨c,?_,hcr⟩;unfold execOp;simp only [ho,resolve,hfv,Deferred.ofValue,Sem.run_bind,Sem.run_pure,Result.andThen_ok,invoke,Array.empty_append,Array.append_empty,run_callFunc_extern hF hname hb hn he,hc]
theorem ZW {w:World} {I:Nat→Prop} {ι:eE} {H:aE} {x y:AV} {cs:Array Value} (hl:cs.size=[x,y].length) (h:∀ (i:Nat) (v:Value) (a:AV),cs[i]?=some v→[x,y][i]?=some a→VRel w I ι H v a):∃ u v,cs=#[u,v]∧VRel w I ι H u x∧VRel w I ι H v y:=by
 obtain ⟨l⟩:=cs
 match l,hl with
 | [u,v],_=>exact⟨u,v,rfl,h 0 u x rfl rfl,h 1 v y rfl rfl⟩
theorem IZ (s:ByteArray) (c:Int):aFc P Extern.BytealgIndexByte.indexByte H [.pv (.str s),.pv (.int .u8 c)] (.pv (.int .i64 (Lib.indexByte s.data.toList c.toNat.toUInt8))):=by intro w I ι cs hl h;obtain ⟨u,v,rfl,h1,h2⟩:=ZW hl h;rw [h1.str_inv,h2.int_inv];exact⟨_,Lib.run_indexByteString s c w,.pv (.int _ _)⟩
end
end
section
section
variable {P:Program} {N:Nat} {o:Oper} {E:bZ} {H:aE} {T:TypeId} {x y z:Operand}
def inB (l:List ByteArray) (s:ByteArray):Bool:=l.any fun a=>decide (a=s)
end
end
theorem cC.get' {G0:aE} {E E':bZ} {H H':aE} (h:aCY E E') (hH:∀ j,H'.get j=H.get j):cC G0 E H E' H':=(cC.e0 h).trans (cC.get (fun _=>rfl) hH)
theorem lD (id:Nat) (o o':Ob) (H:aE) (j:Nat):aE.get ((id,o)::H) j=aE.get ((id,o)::(id,o')::H) j:=by cases e:Nat.beq id j<;>simp [aE.get,e]
theorem cC.dup {G0:aE} {E E':bZ} {H:aE} {id:Nat} {o o':Ob} (h:aCY E E'):cC G0 E ((id,o)::(id,o')::H) E' ((id,o)::H):=cC.get' h (lD id o o' H)
theorem H7.app {D H G0:aE} (hG:∀ p∈D,G0.get p.1=none):H7 G0 H (D++H):=fun id hi=>by
 rw [iR];cases e:D.get id with
 | none=>rfl
 | some o =>
  have:=hG _ (eM e);rw [this] at hi;cases hi
theorem Fin.pops' {G0 H:aE} {r:AV} (D:aE) (hr:Clo H r) (hc:bT H) (hD:∀ p∈D,H.get p.1=none) (hG:∀ p∈D,G0.get p.1=none):Fin G0 (D++H) r H r:=by intro G hG' I ι w v h1 h2 h3;subst hG';exact⟨I,ι,h1.restrict (Sub.app hD) hc,h2.restrict (Sub.app hD) (H7.app hG),h3.restrict (Sub.app hD) hr⟩
theorem Fin.fzC {G0 H H':aE} {r r':AV} {id:Nat} {ob:Ob} (ps:List (List PV)) (hH:H.get id=some ob) (hps:ob.rows=ps.map (·.map .pv)) (hf:Fz H' id ob.g ps r r') (hno:H'.get id=none) (hs:Sub H' H) (hc:bT H') (hk:H7 G0 H' H):Fin G0 H r H' r':=by intro G hG I ι w v h1 h2 h3;subst hG;exact⟨_,ι,h1.freeze hs hc hH hno,h2.freeze hs hk hH,VRel.freeze h1 hs hH hps hf h3⟩
theorem Fin.slice {G0 H:aE} {id g n:Nat} {ob:Ob} (D:aE) (ps:List (List PV)) (hH:aE.get (D++H) id=some ob) (hg:ob.g=g) (hps:ob.rows=ps.map (·.map .pv)) (hn:ps.length=n) (hc:bT H) (hD:∀ p∈D,H.get p.1=none) (hG:∀ p∈D,G0.get p.1=none) (hid:H.get id=none) :
  Fin G0 (D++H) (.osl id g 0 n) H (.pv (.sl ps)):=by
 subst hg hn;exact Fin.fzC ps hH hps (.osl (by rw [aIJ,List.drop_zero,List.take_length])) hid (Sub.app hD) hc (H7.app hG)
end Go.Abs
namespace Go.Abs
open Go.Proofs
theorem Rel.grown {I:Nat→Prop} {ι:eE} {H:aE} {w:World} (os:Array Obj) (hr:Rel I ι H w):Rel I ι H (Sort.grow w os)∧Step I ι H w I ι H (Sort.grow w os):=by
 have hk:∀ b,b < w.heap.size→(Sort.grow w os).heap[b]?=w.heap[b]?:=fun b hb=>by
  show (w.heap++os)[b]?=_;rw [Array.getElem?_append_left hb]
 have hst:Step I ι H w I ι H (Sort.grow w os):=by
  refine⟨rfl,rfl,rfl,?_,fun a ha _=>?_,fun _ h=>h,fun _ h=>.inl h,fun _ h=>.inl h,fun b hb _=>hk b hb,fun _ o h=>⟨o,h,aHx _,fun _=>⟨rfl,rfl,fun _=>aHx _⟩⟩⟩
  ·show w.heap.size≤(w.heap++os).size;simp
  unfold World.frozen?;rw [hk _ ha]
 refine⟨⟨fun b hb=>?_,fun j o hj=>?_,hr.inj,hst.glob hr⟩,hst⟩
 ·have:=hr.imm b hb;show b < (w.heap++os).size;simp;omega
 exact(hr.obj j o hj).keep rfl (fun b c _ hb=>⟨hk b hb,fun h=>h⟩) (fun r _ a _ v hv=>hv.mono hr hst)
def fT (l:List ByteArray):List (List AV):=l.map fun s=>[.pv (.str s)]
def OJ (s:ByteArray):List UInt8:=s.data.toList
def ofU (l:List UInt8):ByteArray:=⟨l.toArray⟩
theorem U0 (s:ByteArray):ofU (OJ s)=s:=by cases s;simp [ofU,OJ]
def eZ (l:List ByteArray):List ByteArray:=((l.map OJ).mergeSort fun x y=>decide (x≤y)).map ofU
theorem iN (l:List ByteArray):(eZ l).length=l.length:=by simp [eZ,List.length_mergeSort]
theorem U5 (l:List ByteArray):(l.map OJ).map ofU=l:=by
 rw [List.map_map]
 conv=>rhs;rw [← List.map_id l]
 exact List.map_congr_left fun s _=>U0 s
theorem zH (l:List ByteArray):(eZ l).Perm l:=by have h:=(List.mergeSort_perm (l.map OJ) (fun x y=>decide (x≤y))).map ofU;rw [U5] at h;exact h
theorem P0 {w:World} {b:Nat} {cs:Array Value} {t:TypeId} {f:Nat×Nat} (h:w.heap[b]?=some (.cells cs t f)) (d:Array (List UInt8)):(Sort.putRow Proofs.encStr w b 0 d)=w.setRow b (Sort.putCells Proofs.encStr 0 d cs):=by
 unfold Sort.putRow Sort.mapBlock World.setRow;congr 1;apply Array.ext_getElem?;intro k;simp only [Array.getElem?_modify];by_cases e:b=k
 ·subst e;simp [h,Sort.onCells]
 simp [e]
theorem aEo {P:Program} {ρ:Shelf.Ren} (Ly:SlLaysM.n6 P ρ) (ss:List ByteArray) {id g n ty:Nat} {H:aE} (hH:H.get id=some ⟨g,1,ty,fT ss⟩) (hn:n=ss.length) (hl:ss.length < 4611686018427387904) :
  aK P (ρ.f 6) [.osl id g 0 n] H (fun r H'=>r=.tup []∧H'=(id,⟨g,1,ty,fT (eZ ss)⟩)::H):=by
 subst hn;intro I ι w vs hr hvl hv;obtain ⟨v,rfl⟩:∃ v,vs=#[v]:=by
  match vs,hvl with
  | ⟨[v]⟩,_=>exact⟨v,rfl⟩
 have h1:=hv 0 v _ rfl rfl;obtain ⟨_,hcase⟩:=gJ h1 hH rfl;have hrowlen:∀ r∈fT (eZ ss),r.length=1:=fun r hr=>by
  obtain ⟨s,_,rfl⟩:=List.mem_map.1 hr;rfl
 have g1:aE.get ((id,⟨g,1,ty,fT (eZ ss)⟩)::H) id=some ⟨g,1,ty,fT (eZ ss)⟩:=by simp [aE.get,iZ]
 have g2:∀ j,j≠id→aE.get ((id,⟨g,1,ty,fT (eZ ss)⟩)::H) j=H.get j:=fun j hj=>by simp [aE.get,lP (Ne.symm hj)]
 rcases hcase with⟨b,cap,oo,c1,c2,c3⟩|⟨c1,c2,_,c4⟩
 ·have hoo:oo=0:=by rw [c3 (.inr rfl)];simp
  subst hoo c2;have hobj:=(hr.obj id _ hH).cells (Nat.succ_pos 0);obtain ⟨p1,p2,⟨b',cap',cs,e1,e2,e3,e4,e5,e5',e6⟩|⟨e1,_⟩⟩:=hobj
  ·rw [c1] at e1;cases e1;simp only [Nat.mul_one] at e4 e6;have hlen:(fT ss).length=ss.length:=by simp [fT]
   simp only [hlen] at e5;have hcs:∀ (i:Nat) (s:ByteArray),ss[i]?=some s→cs[i]?=some (.string s):=fun i s hs=>by
    obtain ⟨u,q1,q2,q3⟩:=e6 i [.pv (.str s)] (by rw [fT,aIL,hs];rfl) 0 _ rfl;rw [q3.str_inv] at q1;exact q1
   have hholds:Sort.Holds Proofs.encStr w b 0 (ss.map OJ).toArray:=by
    intro j hj;simp only [List.size_toArray,aHr] at hj;refine⟨?_,?_⟩
    ·have:=hcs j _ (aHw hj);rw [aIJ];simp only [World.cell?,e2,this];congr 1;rw [getElem!_pos _ _ (by simpa using hj)];simp only [List.getElem_toArray,List.getElem_map];show some (Value.string ss[j])=some (Value.string (ofU (OJ ss[j])));rw [U0]
    simp [World.frozen?,e2]
   have hrun:=AnyM.slices_Sort_string Ly b 0 (cap - 0) (ss.map OJ) w hholds (Array.getElem?_eq_some_iff.1 e2).1 (by rw [aHr];exact hl);rw [aHr] at hrun;refine hrun.mono ?_;rintro e w' ⟨rfl,n,os,rfl⟩;obtain ⟨k1,k2⟩:=Rel.drawn (w':=Sort.ahead w n) hr rfl rfl rfl rfl;have e2':(Sort.ahead w n).heap[b]?=some (.cells cs ty (0,0)):=e2;rw [P0 e2'];obtain ⟨m1,m2⟩:=Rel.update (H':=(id,⟨g,1,ty,fT (eZ ss)⟩)::H) (ob':=⟨g,1,ty,fT (eZ ss)⟩) (cs':=Sort.putCells Proofs.encStr 0 ((ss.map OJ).mergeSort fun x y=>decide (x≤y)).toArray cs) k1 hH c1 e2' (aHx _) rfl rfl
    (fun _=>by simp [fT,iN]) (by rw [Sort.putCells];simp;omega) (by simp only [fT,aHr,iN];omega) hrowlen (fun i r hi k a hk=>by
     rw [fT,aIL] at hi;obtain ⟨s,hs,rfl⟩:=Option.map_eq_some_iff.1 hi;cases k with
     | succ k=>simp at hk
     | zero =>
      cases hk;have hil:=(aHv.1 hs).1;rw [iN] at hil;have hics:i < cs.size:=by omega
      refine⟨.string s,?_,rfl,.pv (.str s)⟩;rw [Nat.mul_one,Nat.add_zero,Sort.putCells,Array.getElem?_mapIdx,Array.getElem?_eq_getElem hics,Option.map_some];have hsz:i < ((ss.map OJ).mergeSort fun x y=>decide (x≤y)).length:=by rw [List.length_mergeSort,aHr];exact hil
      rw [aHq ⟨aII _,by simpa using hsz⟩];congr 1;rw [Nat.sub_zero,getElem!_pos _ _ (by simpa using hsz)];rw [eZ,aIL] at hs;obtain ⟨u,hu,rfl⟩:=Option.map_eq_some_iff.1 hs;simp only [List.getElem_toArray];rw [(aHv.1 hu).2];rfl) g1 g2
   obtain ⟨n1,n2⟩:=Rel.grown os m1;exact⟨_,_,I,ι,.tuple #[],rfl,⟨rfl,rfl⟩,.tup rfl (by simp),n1,(k2.trans m2).trans n2⟩
  rw [c1] at e1;cases e1
 subst c2;have h0:ss=[]:=List.eq_nil_of_length_eq_zero c4;subst h0;refine(AnyM.slices_Sort_string_none Ly none 0 w).mono ?_;rintro e w' ⟨rfl,rfl⟩;have hg:∀ j,aE.get ((id,⟨g,1,ty,fT (eZ [])⟩)::H) j=H.get j:=fun j=>by
  by_cases e:j=id
  ·subst e;rw [g1,hH,show eZ []=[] by simp [eZ]]
  exact g2 j e
 obtain ⟨k1,k2⟩:=hr.congr hg;exact⟨_,_,I,ι,.tuple #[],rfl,⟨rfl,rfl⟩,.tup rfl (by simp),k1,k2⟩
def fL (n:Int):ByteArray:=⟨(Lib.itoa n).toArray⟩
theorem itoa_c {P:Program} {ρ:Shelf.Ren} (L:LaysM.n171 P ρ) {G:Nat} (hg:(G,GV.ints .u64 Lib.pow10Tab)∈M6) (hn:P.globalNamed "internal/strconv.uint64pow10" = some G) (n:Int) (h0 : -9223372036854775808≤n) (h1:n≤9223372036854775807) (H:aE) :
  aK P (ρ.f 171) [.pv (.int .i64 n)] H (fun r H'=>r=.pv (.str (fL n))∧H'=H):=by
 intro I ι w vs hr hvl hv;obtain ⟨v,rfl⟩:∃ v,vs=#[v]:=by
  match vs,hvl with
  | ⟨[v]⟩,_=>exact⟨v,rfl⟩
 have e1:=(hv 0 v _ rfl rfl).int_inv;subst e1;have htab:Lib.TabIs P w "internal/strconv.uint64pow10" .u64 Lib.pow10Tab:=by
  obtain ⟨_,cs,t,f,h2,h3⟩:=hr.glob _ hg;have h3':cs=(Lib.pow10Tab.map fun z=>Value.int .u64 z).toArray:=h3;subst h3';simp only [Lib.TabIs,World.var?,hn,Option.bind_some,h2]
 refine(Any.strconv_Itoa L n h0 h1 w htab).mono ?_;rintro e w' ⟨rfl,k,os,rfl⟩;obtain ⟨k1,k2⟩:=Rel.drawn (w':=w.drewN k) hr rfl rfl rfl rfl;obtain ⟨m1,m2⟩:=Rel.grown os k1;exact⟨_,_,I,ι,_,rfl,⟨rfl,rfl⟩,.pv (.str _),m1,k2.trans m2⟩
theorem mul64_c {P:Program} {ρ:Shelf.Ren} (L:Lays.n264 P ρ) (x y:Nat) (hx:x < 18446744073709551616) (hy:y < 18446744073709551616) (H:aE) :
  aK P (ρ.f 264) [.pv (.int .u64 (x:Int)),.pv (.int .u64 (y:Int))] H (fun r H'=>r=.tup [.pv (.int .u64 ((x*y / 18446744073709551616:Nat):Int)),.pv (.int .u64 ((x*y % 18446744073709551616:Nat):Int))]∧H'=H):=by
 intro I ι w vs hr hvl hv;obtain ⟨v,u,rfl⟩:∃ v u,vs=#[v,u]:=by
  match vs,hvl with
  | ⟨[v,u]⟩,_=>exact⟨v,u,rfl⟩
 have e1:=(hv 0 v _ rfl rfl).int_inv;have e2:=(hv 1 u _ rfl rfl).int_inv;subst e1 e2;refine(Any.bits_Mul64 L x y hx hy w).mono ?_;rintro e w' ⟨rfl,rfl⟩;refine⟨_,_,I,ι,_,rfl,⟨rfl,rfl⟩,.tup rfl fun i v a h1 h2=>?_,hr,Step.refl _ _ _ _⟩
 match i,h1,h2 with
 | 0,h1,h2=>cases h1;cases h2;exact .pv (.int _ _)
 | 1,h1,h2=>cases h1;cases h2;exact .pv (.int _ _)
 | i+2,h1,h2=>simp at h1
end Go.Abs
namespace Go.Proofs.YtmkgeogoojcciaaGreatDoor
open Go.Proofs.Tryz
open Go.Abs
theorem zo3:jU Tryz.prog 3 [.pv (.int .i64 0)]:=⟨_,_,qO,.inl rfl,rfl⟩
theorem zo5:jU Tryz.prog 5 [.pv (.int .u8 0)]:=⟨_,_,mZ,.inl rfl,rfl⟩
theorem zo9:jU Tryz.prog 9 [.pv (.str ⟨#[]⟩)]:=⟨_,_,gM,.inl rfl,rfl⟩
theorem OS:fP Tryz.prog 22 37 6:=⟨sO,aG0,by decide,_,zeroValue37⟩
theorem aFl:jU Tryz.prog 31 [.pv .nils]:=⟨_,_,aCR,.inr rfl,rfl⟩
theorem cD:fP Tryz.prog 31 9 1:=⟨aO,sizeOf9,by decide,_,gM⟩
theorem IB:EI Tryz.prog 9 1 16:=EI.mk (z:=(Value.string ⟨#[]⟩)) (by kernel_rfl) rfl (by decide) (by decide)
theorem aGk:jU Tryz.prog 33 [.pv .nilm]:=⟨_,_,zeroValue33,.inl rfl,rfl⟩
theorem gF:fP Tryz.prog 35 66 2:=⟨bY,sizeOf66,by decide,_,zeroValue66⟩
theorem X7:EI Tryz.prog 66 2 32:=EI.mk (z:=(Value.agg #[(Value.string ⟨#[]⟩),(Value.string ⟨#[]⟩)])) (by kernel_rfl) rfl (by decide) (by decide)
theorem aGj:jU Tryz.prog 37 [.pv (.int .i64 0),.pv (.sl []),.pv (.sl []),.pv (.int .i64 0),.pv (.int .i64 0),.pv (.int .i64 0)]:=⟨_,_,zeroValue37,.inl rfl,rfl⟩
theorem AB:cT Tryz.prog 37 0 0:=by refine⟨_,_,0,kM,rfl,rfl,?_⟩;exact sizeOf3
theorem lN:cT Tryz.prog 37 1 1:=by refine⟨_,_,0,kM,rfl,rfl,?_⟩;exact sizeOf35
theorem mF:cT Tryz.prog 37 2 2:=by refine⟨_,_,0,kM,rfl,rfl,?_⟩;exact sizeOf31
theorem gQ:cT Tryz.prog 37 3 3:=by refine⟨_,_,0,kM,rfl,rfl,?_⟩;exact sizeOf3
theorem gP:cT Tryz.prog 37 4 4:=by refine⟨_,_,0,kM,rfl,rfl,?_⟩;exact sizeOf3
theorem lM:cT Tryz.prog 37 5 5:=by refine⟨_,_,0,kM,rfl,rfl,?_⟩;exact sizeOf3
theorem sZ:fP Tryz.prog 50 5 1:=⟨cL,eL,by decide,_,mZ⟩
theorem X8:EI Tryz.prog 5 1 1:=EI.mk (z:=(Value.int IntKind.u8 (0))) (by kernel_rfl) rfl (by decide) (by decide)
theorem aFm:jU Tryz.prog 53 [.pv .nilfn]:=⟨_,_,zeroValue53,.inl rfl,rfl⟩
theorem aGY:V7 Tryz.prog 66 1 [.pv (.str ⟨#[]⟩),.pv (.str ⟨#[]⟩)]:=⟨_,_,_,_,aW,zeroValue66,.inl rfl,rfl,sizeOf9⟩
theorem ZJ:jU Tryz.prog 70 [.pv (.int .i64 0),.pv (.int .i64 0)]:=⟨_,_,zeroValue70,.inl rfl,rfl⟩
theorem AA:cT Tryz.prog 70 0 0:=by refine⟨_,_,0,Y4,rfl,rfl,?_⟩;exact sizeOf3
theorem sJ:cT Tryz.prog 70 1 1:=by refine⟨_,_,0,Y4,rfl,rfl,?_⟩;exact sizeOf3
theorem YO:nQ Tryz.prog 70 [(0,1),(1,1)] [.pv (.int .i64 0),.pv (.int .i64 0)]:=⟨_,#[(0,1),(1,1)],_,_,Y4,zeroValue70,.inl rfl,rfl,fun w=>by simp [sizeOf3],rfl⟩
theorem zZ:cT Tryz.prog 72 0 0:=by refine⟨_,_,0,nS,rfl,rfl,?_⟩;exact sizeOf29
theorem zY:cT Tryz.prog 72 1 1:=by refine⟨_,_,0,nS,rfl,rfl,?_⟩;exact sizeOf3
theorem qX:cT Tryz.prog 72 2 2:=by refine⟨_,_,1,nS,rfl,rfl,?_⟩;exact sizeOf70
theorem zX:cT Tryz.prog 72 3 4:=by refine⟨_,_,0,nS,rfl,rfl,?_⟩;exact sizeOf33
theorem mE:cT Tryz.prog 72 4 5:=by refine⟨_,_,0,nS,rfl,rfl,?_⟩;exact sizeOf4
theorem aHA:nQ Tryz.prog 72 [(0,1),(1,1),(2,2),(4,1),(5,1)] [.pv .nilp,.pv (.int .i64 0),.pv (.int .i64 0),.pv (.int .i64 0),.pv .nilm,.pv (.bool false)]:=⟨_,#[(0,1),(1,1),(2,2),(4,1),(5,1)],_,_,nS,zeroValue72,.inl rfl,rfl,fun w=>by simp [sizeOf3,sizeOf4,sizeOf29,sizeOf33,sizeOf70],rfl⟩
theorem WH:fP Tryz.prog 75 3 1:=⟨Y3,sizeOf3,by decide,_,qO⟩
theorem RN:fP Tryz.prog 77 103 3:=⟨sN,AO,by decide,_,Y0⟩
theorem aGL:EI Tryz.prog 103 3 32:=EI.mk (z:=(Value.agg #[(Value.int IntKind.i64 (0)),(Value.int IntKind.i64 (0)),(Value.string ⟨#[]⟩)])) (by kernel_rfl) rfl (by decide) (by decide)
theorem HA:cT Tryz.prog 80 0 0:=by refine⟨_,_,0,sM,rfl,rfl,?_⟩;exact sizeOf50
theorem nK:cT Tryz.prog 80 1 1:=by refine⟨_,_,0,sM,rfl,rfl,?_⟩;exact sizeOf77
theorem wS:cT Tryz.prog 80 2 2:=by refine⟨_,_,0,sM,rfl,rfl,?_⟩;exact sizeOf4
theorem oF:cT Tryz.prog 80 3 3:=by refine⟨_,_,0,sM,rfl,rfl,?_⟩;exact sizeOf78
theorem aGT:nQ Tryz.prog 80 [(0,1),(1,1),(2,1),(3,1)] [.pv .nils,.pv .nils,.pv (.bool false),.pv .nilp]:=⟨_,#[(0,1),(1,1),(2,1),(3,1)],_,_,sM,zeroValue80,.inr rfl,rfl,fun w=>by simp [sizeOf4,sizeOf50,sizeOf77,sizeOf78],rfl⟩
theorem aGi:jU Tryz.prog 93 [.pv (.int .u64 0)]:=⟨_,_,pA,.inl rfl,rfl⟩
theorem AR:jU Tryz.prog 96 [.pv (.int .i64 0),.pv (.int .i64 0)]:=⟨_,_,zeroValue96,.inl rfl,rfl⟩
theorem G9:cT Tryz.prog 96 0 0:=by refine⟨_,_,0,Y1,rfl,rfl,?_⟩;exact sizeOf3
theorem aBT:cT Tryz.prog 96 1 1:=by refine⟨_,_,0,Y1,rfl,rfl,?_⟩;exact sizeOf3
theorem aBq:nQ Tryz.prog 96 [(0,1),(1,1)] [.pv (.int .i64 0),.pv (.int .i64 0)]:=⟨_,#[(0,1),(1,1)],_,_,Y1,zeroValue96,.inl rfl,rfl,fun w=>by simp [sizeOf3],rfl⟩
theorem NE:cT Tryz.prog 100 0 0:=by refine⟨_,_,0,AM,rfl,rfl,?_⟩;exact sizeOf3
theorem aDq:cT Tryz.prog 100 1 1:=by refine⟨_,_,0,AM,rfl,rfl,?_⟩;exact sizeOf3
theorem aDp:cT Tryz.prog 100 2 2:=by refine⟨_,_,0,AM,rfl,rfl,?_⟩;exact sizeOf3
theorem aGX:nQ Tryz.prog 100 [(0,1),(1,1),(2,1)] [.pv (.int .i64 0),.pv (.int .i64 0),.pv (.int .i64 0)]:=⟨_,#[(0,1),(1,1),(2,1)],_,_,AM,zeroValue100,.inl rfl,rfl,fun w=>by simp [sizeOf3],rfl⟩
theorem aES:jU Tryz.prog 103 [.pv (.int .i64 0),.pv (.int .i64 0),.pv (.str ⟨#[]⟩)]:=⟨_,_,Y0,.inl rfl,rfl⟩
theorem ND:cT Tryz.prog 103 0 0:=by refine⟨_,_,1,TT,rfl,rfl,?_⟩;exact sizeOf96
theorem NC:cT Tryz.prog 103 1 2:=by refine⟨_,_,0,TT,rfl,rfl,?_⟩;exact sizeOf9
theorem aGW:nQ Tryz.prog 103 [(0,2),(2,1)] [.pv (.int .i64 0),.pv (.int .i64 0),.pv (.str ⟨#[]⟩)]:=⟨_,#[(0,2),(2,1)],_,_,TT,Y0,.inl rfl,rfl,fun w=>by simp [sizeOf9,sizeOf96],rfl⟩
theorem FP:fP Tryz.prog 105 127 2:=⟨rJ,aF6,by decide,_,YZ⟩
theorem aGK:EI Tryz.prog 127 2 24:=EI.mk (z:=(Value.agg #[(Value.int IntKind.i64 (0)),(Value.string ⟨#[]⟩)])) (by kernel_rfl) rfl (by decide) (by decide)
theorem iH:cT Tryz.prog 107 0 0:=by refine⟨_,_,0,iE,rfl,rfl,?_⟩;exact sizeOf31
theorem jS:cT Tryz.prog 107 1 1:=by refine⟨_,_,0,iE,rfl,rfl,?_⟩;exact sizeOf105
theorem pZ:cT Tryz.prog 107 2 2:=by refine⟨_,_,0,iE,rfl,rfl,?_⟩;exact sizeOf4
theorem sA:cT Tryz.prog 107 3 3:=by refine⟨_,_,0,iE,rfl,rfl,?_⟩;exact sizeOf4
theorem E9:cT Tryz.prog 107 4 4:=by refine⟨_,_,0,iE,rfl,rfl,?_⟩;exact sizeOf3
theorem VL:cT Tryz.prog 107 5 5:=by refine⟨_,_,0,iE,rfl,rfl,?_⟩;exact sizeOf3
theorem VK:cT Tryz.prog 107 6 6:=by refine⟨_,_,0,iE,rfl,rfl,?_⟩;exact sizeOf3
theorem aF0:nQ Tryz.prog 107 [(0,1),(1,1),(2,1),(3,1),(4,1),(5,1),(6,1)] [.pv .nils,.pv .nils,.pv (.bool false),.pv (.bool false),.pv (.int .i64 0),.pv (.int .i64 0),.pv (.int .i64 0)]:=⟨_,#[(0,1),(1,1),(2,1),(3,1),(4,1),(5,1),(6,1)],_,_,iE,zeroValue107,.inr rfl,rfl,fun w=>by simp [sizeOf3,sizeOf4,sizeOf31,sizeOf105],rfl⟩
theorem NB:cT Tryz.prog 110 0 0:=by refine⟨_,_,0,jV,rfl,rfl,?_⟩;exact sizeOf59
theorem yF:cT Tryz.prog 110 1 1:=by refine⟨_,_,0,jV,rfl,rfl,?_⟩;exact sizeOf3
theorem yE:cT Tryz.prog 110 2 2:=by refine⟨_,_,0,jV,rfl,rfl,?_⟩;exact sizeOf3
theorem vA:cT Tryz.prog 110 3 3:=by refine⟨_,_,0,jV,rfl,rfl,?_⟩;exact sizeOf3
theorem nL:cT Tryz.prog 110 4 4:=by refine⟨_,_,0,jV,rfl,rfl,?_⟩;exact sizeOf35
theorem uZ:cT Tryz.prog 110 5 5:=by refine⟨_,_,0,jV,rfl,rfl,?_⟩;exact sizeOf4
theorem aGV:nQ Tryz.prog 110 [(0,1),(1,1),(2,1),(3,1),(4,1),(5,1)] [.pv .nilp,.pv (.int .i64 0),.pv (.int .i64 0),.pv (.int .i64 0),.pv (.sl []),.pv (.bool false)]:=⟨_,#[(0,1),(1,1),(2,1),(3,1),(4,1),(5,1)],_,_,jV,zeroValue110,.inl rfl,rfl,fun w=>by simp [sizeOf3,sizeOf4,sizeOf35,sizeOf59],rfl⟩
theorem aFo:jU Tryz.prog 127 [.pv (.int .i64 0),.pv (.str ⟨#[]⟩)]:=⟨_,_,YZ,.inl rfl,rfl⟩
theorem E8:cT Tryz.prog 127 0 0:=by refine⟨_,_,0,TS,rfl,rfl,?_⟩;exact sizeOf3
theorem NA:cT Tryz.prog 127 1 1:=by refine⟨_,_,0,TS,rfl,rfl,?_⟩;exact sizeOf9
theorem aGU:nQ Tryz.prog 127 [(0,1),(1,1)] [.pv (.int .i64 0),.pv (.str ⟨#[]⟩)]:=⟨_,#[(0,1),(1,1)],_,_,TS,YZ,.inl rfl,rfl,fun w=>by simp [sizeOf3,sizeOf9],rfl⟩
theorem ZI:jU Tryz.prog 138 [.pv .nilp,.pv .nils]:=⟨_,_,zeroValue138,.inr rfl,rfl⟩
theorem E7:cT Tryz.prog 138 0 0:=by refine⟨_,_,0,TR,rfl,rfl,?_⟩;exact aF5
theorem yD:cT Tryz.prog 138 1 1:=by refine⟨_,_,0,TR,rfl,rfl,?_⟩;exact sizeOf50
theorem aFn:jU Tryz.prog 195 [.pv (.int .u8 0),.pv (.int .u8 0),.pv (.int .u8 0),.pv (.int .u8 0),.pv (.int .u8 0),.pv (.int .u8 0),.pv (.int .u8 0),.pv (.int .u8 0)]:=⟨_,_,zeroValue195,.inl rfl,rfl⟩
theorem TW:jU Tryz.prog 197 [.pv (.int .u8 0),.pv (.int .u8 0),.pv (.int .u8 0),.pv (.int .u8 0),.pv (.int .u8 0),.pv (.int .u8 0),.pv (.int .u8 0),.pv (.int .u8 0),.pv (.int .u8 0),.pv (.int .u8 0),.pv (.int .u8 0),.pv (.int .u8 0),.pv (.int .u8 0),.pv (.int .u8 0),.pv (.int .u8 0),.pv (.int .u8 0)]:=⟨_,_,zeroValue197,.inl rfl,rfl⟩
theorem follows:Tryz.prog.follows .mixedOrders=true:=by kernel_rfl
structure GTag where
 key:ByteArray
 val:ByteArray
structure GObj where
 id:ByteArray
 kind:Int
 x:Int
 y:Int
 refs:List ByteArray
 tags:List GTag
structure GEdit where
 op:Int
 id:ByteArray
 other:ByteArray
 node:ByteArray
 x:Int
 y:Int
 key:ByteArray
 val:ByteArray
 refs:List ByteArray
 obj:GObj
def encStr (s:ByteArray):List PV:=[.str s]
def aX (l:List ByteArray):PV:=.sl (l.map encStr)
theorem cV {α:Type} {f:α→List PV} {l:List α} {k:Nat} {a:α} (h:l[k]?=some a):(l.map f)[k]?=some (f a):=by rw [aIL,h];rfl
theorem aY {α:Type} {l:List α} {k:Nat} (h:k < l.length):∃ a,l[k]?=some a:=⟨_,aHw h⟩
theorem X2 {α:Type} {p:α→Bool} {l:List α} {k:Nat} {a:α} (h:∀ j,j < k→∀ b,l[j]?=some b→p b=false) (hk:l[k]?=some a) (hp:p a=true):l.findIdx? p=some k:=by rw [List.findIdx?_eq_some_iff_getElem];obtain ⟨hlt,he⟩:=aHv.1 hk;refine⟨hlt,by rw [he];exact hp,fun j hj=>?_⟩;have:=h j hj l[j] (aHw (by omega));simp [this]
theorem X3 {α:Type} {p:α→Bool} {l:List α} (h:∀ j,j < l.length→∀ b,l[j]?=some b→p b=false):l.findIdx? p=none:=by rw [List.findIdx?_eq_none_iff];intro x hx;obtain ⟨j,hj⟩:=aIM.1 hx;exact h j (aHv.1 hj).1 x hj
def aBR {α:Type} (p:α→Bool) (l:List α):Int:=match l.findIdx? p with|some i=>(i:Int)|none => -1
theorem aBQ {α:Type} (p:α→Bool) (l:List α):decide (0≤aBR p l)=l.any p:=by
 unfold aBR;cases h:l.findIdx? p with
 | none =>
  have:l.any p=false:=by
   rw [List.findIdx?_eq_none_iff] at h;rw [List.any_eq_false];intro x hx;simp [h x hx]
  simp [this]
 | some i =>
  have:l.any p=true:=by
   rw [List.findIdx?_eq_some_iff_getElem] at h;obtain ⟨h1,h2,_⟩:=h;exact List.any_eq_true.2 ⟨_,List.getElem_mem h1,h2⟩
  simp [this]
theorem aA7 {α:Type} {p:α→Bool} {l:List α} {k:Nat} {a:α} (h:∀ j,j < k→∀ b,l[j]?=some b→p b=false) (hk:l[k]?=some a) (hp:p a=false):∀ j,j < k+1→∀ b,l[j]?=some b→p b=false:=by
 intro j hj b hb;by_cases e:j=k
 ·subst e;rw [hk] at hb;cases hb;exact hp
 exact h j (by omega) b hb
end Go.Proofs.YtmkgeogoojcciaaGreatDoor
section
namespace Go.Proofs
open Go.RowKit Go.Sort Go.Shelf
def aHh:Go.Shelf.Ren:=⟨fun|171=>98|243=>128|246=>158|283=>178|284=>179|285=>180|286=>181|129=>157|317=>191|318=>192|319=>193|320=>194|337=>198|338=>199|n=>n,fun|3=>3|9=>9|2=>2|4=>4|171=>215|0=>0|53=>93|37=>50|5=>5|173=>217|212=>229|51=>191|20=>20|213=>230|46=>150|232=>234|233=>235|n=>n,fun|17=>3|18=>4|19=>5|n=>n⟩
theorem aHm:Go.Proofs.LaysM.n171 Tryz.prog aHh:={
  mixed:=by kernel_rfl
  f129:=Tryz.func157.trans (congrArg some (by kernel_rfl))
  f171:=Tryz.func98.trans (congrArg some (by kernel_rfl))
  f243:=Tryz.func128.trans (congrArg some (by kernel_rfl))
  f246:=Tryz.func158.trans (congrArg some (by kernel_rfl))
  f283:=Tryz.func178.trans (congrArg some (by kernel_rfl))
  f284:=Tryz.func179.trans (congrArg some (by kernel_rfl))
  f285:=Tryz.func180.trans (congrArg some (by kernel_rfl))
  f286:=Tryz.func181.trans (congrArg some (by kernel_rfl))
  f317:=Tryz.func191.trans (congrArg some (by kernel_rfl))
  f318:=Tryz.func192.trans (congrArg some (by kernel_rfl))
  f319:=Tryz.func193.trans (congrArg some (by kernel_rfl))
  f320:=Tryz.func194.trans (congrArg some (by kernel_rfl))
  f337:=Tryz.func198.trans (congrArg some (by kernel_rfl))
  f338:=Tryz.func199.trans (congrArg some (by kernel_rfl))
  t0:=EL
  a0:=aC5
  z0:=Y6
  v0:=ID
  t2:=Tryz.underlying2
  a2:=Tryz.isAgg2
  z2:=Tryz.sizeOf2
  v2:=Tryz.zeroValue2
  t3:=cJ
  a3:=aL
  z3:=Tryz.sizeOf3
  v3:=qO
  t4:=lS
  a4:=cK
  z4:=Tryz.sizeOf4
  v4:=IC
  t5:=bV
  a5:=rM
  z5:=eL
  v5:=mZ
  t9:=aC
  a9:=aQ
  z9:=Tryz.sizeOf9
  v9:=gM
  t20:=Y5
  a20:=aHH
  z20:=aG1
  v20:=aCS
  t37:=cL
  a37:=gL
  z37:=Tryz.sizeOf50
  v37:=aCQ
  t46:=iD
  a46:=DQ
  z46:=AN
  v46:=sL
  t51:=AJ
  a51:=RC
  z51:=NW
  v51:=CF
  t53:=fQ
  a53:=sP
  z53:=qC
  v53:=pA
  t171:=Tryz.underlying215
  a171:=Tryz.isAgg215
  z171:=Tryz.sizeOf215
  v171:=Tryz.zeroValue215
  t173:=Tryz.underlying217
  a173:=Tryz.isAgg217
  z173:=Tryz.sizeOf217
  v173:=Tryz.zeroValue217
  t212:=Tryz.underlying229
  a212:=Tryz.isAgg229
  z212:=Tryz.sizeOf229
  v212:=Tryz.zeroValue229
  t213:=Tryz.underlying230
  a213:=Tryz.isAgg230
  z213:=Tryz.sizeOf230
  t232:=Tryz.underlying234
  a232:=Tryz.isAgg234
  z232:=Tryz.sizeOf234
  v232:=Tryz.zeroValue234
  t233:=Tryz.underlying235
  a233:=Tryz.isAgg235
  z233:=Tryz.sizeOf235
  v233:=Tryz.zeroValue235
  g17:=by kernel_rfl
  g18:=by kernel_rfl
  g19:=by kernel_rfl
  i0:=by kernel_rfl
  i2:=by kernel_rfl
  i3:=by kernel_rfl
  i4:=by kernel_rfl
  i5:=by kernel_rfl
  i9:=by kernel_rfl
  i20:=by kernel_rfl
  i37:=by kernel_rfl
  i46:=by kernel_rfl
  i51:=by kernel_rfl
  i53:=by kernel_rfl
  i171:=by kernel_rfl
  i173:=by kernel_rfl
  i212:=by kernel_rfl
  i232:=by kernel_rfl
  i233:=by kernel_rfl
  m17:=by kernel_rfl
  m18:=by kernel_rfl
  m19:=by kernel_rfl}
end Go.Proofs
namespace Go.Proofs.YtmkgeogoojcciaaGreatDoor
open Go.Proofs.Tryz
open Go.Abs
theorem uX (n:Int) (h0 : -9223372036854775808≤n) (h1:n≤9223372036854775807) (H:aE):aK Tryz.prog 98 [iv n] H (fun r H'=>r=sv (fL n)∧H'=H) :=Go.Abs.itoa_c aHm (G:=3) (by unfold M6;exact .head _) (by kernel_rfl) n h0 h1 H
end Go.Proofs.YtmkgeogoojcciaaGreatDoor
end
