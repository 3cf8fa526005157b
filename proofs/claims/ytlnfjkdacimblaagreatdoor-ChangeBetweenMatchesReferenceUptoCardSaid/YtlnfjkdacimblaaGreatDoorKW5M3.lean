/-
  THE ABSTRACT LOGIC, short names: the steps of the walks with their plain conditions filled in. Conditions: the rules' own premises.
  THE ABSTRACT LOGIC, 12: calls that only read: owned slices are lent to them. Conditions: none.
  THE ABSTRACT LOGIC, 13: a slice that is nil is owned from here on. Conditions: none.
  THE BRIDGE: what an argument reads, as the abstract logic's pure values; and it reads so behind a call that leaves the old blocks. Conditions: types of booleans, integers, strings, slices and structs of such.
  THE BRIDGE, its end: a law whose call answers 'true' in the abstract logic meets its row: it returns true, and each argument reads behind the call as it did. Conditions: the types of the arguments are of pure values.
  THE FACTS ON THE TYPES OF THIS SEAT that the walks use, printed by a program (facts.py). Conditions: none.
  THE DATA OF THE MAP as plain Lean types, and how they lie in cells; plain laws on lists. Conditions: none.
  THE ABSTRACT LOGIC, 16: an object begins anew (nil in the place of a slice; a new variable in the place of an old one); the frame of a call; names of objects changed. Conditions: none.
  THE ABSTRACT LOGIC, 18: maps that are owned: made, asked, written, counted. Conditions: each rule's own premises.
  THE ABSTRACT LOGIC, 19: a map's iterator; what a call of an entry of the model yields. Conditions: each rule's own premises.
  CONTRACTS: package lexer's classes of bytes, names. Conditions: lengths below 2^62.
  CONTRACTS: lexer.Name; package tag's Valid and Get. Conditions: lengths below 2^62.
  CONTRACTS: tag.Valid; package object's small functions. Conditions: lengths below 2^62.
-/
import Derived.Test.YtlnfjkdacimblaaGreatDoorKW5M2
import Derived.Test.YtlnfjkdacimblaaGreatDoorRows
import Derived.OpenShut
import Derived.JoinedCond
import Derived.Carry
import Derived.MapKept
import Derived.Laws.IdiomRangeMap
import Derived.Lib.Bytealg
set_option linter.unusedVariables false
set_option linter.unusedSimpArgs false
set_option maxRecDepth 100000
set_option maxHeartbeats 2000000
namespace Go.Abs
section
section
variable {P:Program} {G0:Heap} {N:Nat} {o:Oper} {E:Env} {H H2:Heap} {v:AV} {Q:Exit→Env→Heap→Prop} {T e t t':TypeId} {x y:Operand} {id g i:Nat} {ob:Ob}
theorem Dd {ops:Array Oper} {K:Env→Heap→Prop} {rest:List Oper} {d:Tmp} {op:Op} {ty:TypeId} {pos:String} {af:Array Edge} (h:OpD P N ⟨some d,op,ty,pos,af,none⟩ E H v H2) (hk:AL P G0 N ops K rest ((d,v)::E) H2) (hn:Nat.blt d N=true:=by rfl):AL P G0 N ops K (⟨some d,op,ty,pos,af,none⟩::rest) E H:=al_d rfl rfl hn h hk
theorem Uu {ops:Array Oper} {K:Env→Heap→Prop} {rest:List Oper} {op:Op} {ty:TypeId} {pos:String} {af:Array Edge} (h:OpD P N ⟨none,op,ty,pos,af,none⟩ E H v H2) (hk:AL P G0 N ops K rest E H2):AL P G0 N ops K (⟨none,op,ty,pos,af,none⟩::rest) E H:=al_n rfl rfl h hk
theorem Sq {x y:Code} (h:AWp P G0 N x (AThen (AWp P G0 N y Q) Q) E H):AWp P G0 N (.seq x y) Q E H:=awp_seq h
theorem Rg {id:Nat} {ops:Array Oper} (h:AL P G0 N ops (fun E H=>Q .normal E H) ops.toList E H):AWp P G0 N (.region id ops false) Q E H:=awp_region h
theorem Zz {ops:Array Oper} {K:Env→Heap→Prop} (h:K E H):AL P G0 N ops K [] E H:=al_nil h
theorem mv' (ho:o.op=.move x:=by rfl) (hx:aeval E x=some v:=by rfl):OpD P N o E H v H:=opd_move ho hx
theorem as' (ho:o.op=.assign x:=by rfl) (hx:aeval E x=some v:=by rfl):OpD P N o E H v H:=opd_assign ho hx
theorem ex' {vs:List AV} {n:Nat} (ho:o.op=.extract x n:=by rfl) (hx:aeval E x=some (.tup vs):=by rfl) (hv:vs[n]?=some v:=by rfl):OpD P N o E H v H:=opd_extract ho hx hv
theorem fr' {S off:TypeId} {k k2 f:Nat} (hF:FieldOf P S f off) (ho:o.op=.fieldAddr S x f:=by rfl) (hx:aeval E x=some (.ref id g i k):=by rfl) (hH:H.get id=some ob:=by rfl) (hg:ob.g=g:=by rfl) (hk:k+off=k2:=by rfl):OpD P N o E H (.ref id g i k2) H:=opd_field_ref ho hF hx hH hg hk
theorem l1' {k:Nat} {r:List AV} (ha:∀ w,(isAgg T).run P w=.ok false w) (ho:o.op=.load T x:=by rfl) (hx:aeval E x=some (.ref id g i k):=by rfl) (hH:H.get id=some ob:=by rfl) (hg:ob.g=g:=by rfl) (hi:ob.rows[i]?=some r:=by rfl) (hk:r[k]?=some v:=by rfl):OpD P N o E H v H:=opd_load1_ref ho ha hx hH hg hi hk
theorem ln' {n k:Nat} {r cs:List AV} (ha:∀ w,(isAgg T).run P w=.ok true w) (hs:∀ w,(sizeOf T).run P w=.ok n w) (ho:o.op=.load T x:=by rfl) (hx:aeval E x=some (.ref id g i k):=by rfl) (hH:H.get id=some ob:=by rfl) (hg:ob.g=g:=by rfl) (hi:ob.rows[i]?=some r:=by rfl) (hk:(r.drop k).take n=cs:=by rfl) (hl:cs.length=n:=by rfl):OpD P N o E H (.agg cs) H:=opd_loadn_ref ho ha hs hx hH hg hi hk hl
theorem sa' {cells r:List AV} {n:Nat} (hs:∀ w,(sizeOf T).run P w=.ok n w) (ho:o.op=.store T x y:=by rfl) (hx:aeval E x=some (.ref id g 0 0):=by rfl) (hy:aeval E y=some v:=by rfl) (hc:acl v=some cells:=by rfl) (hn:cells.length=n:=by rfl) (hH:H.get id=some ob:=by rfl) (hg:ob.g=g:=by rfl) (hi:ob.rows=[r]:=by rfl) (hk:r.length=n:=by rfl):OpD P N o E H .any ((id,⟨g,ob.sz,ob.ty,[cells]⟩)::H):=x_store_all ho hs hx hy hc hn hH hg hi hk
theorem ll' {rows:List (List PV)} (ht:P.underlying T=some (.slice e)) (ho:o.op=.call {callee:=.builtin .len,args:=#[x],argTypes:=#[T]}:=by rfl) (hx:aeval E x=some (.pv (.sl rows)):=by rfl):OpD P N o E H (.pv (.int .i64 rows.length)) H:=opd_len_sl ho ht hx
theorem xp' {rows:List (List PV)} {r:List PV} {kk:IntKind} {n:Int} {m sz:Nat} (hS:SliceOf P T e sz) (ho:o.op=.indexAddr T x y:=by rfl) (hx:aeval E x=some (.pv (.sl rows)):=by rfl) (hy:aeval E y=some (.pv (.int kk n)):=by rfl) (h0:0≤n:=by omega) (hm:n.toNat=m:=by exact Int.toNat_natCast _) (hi:rows[m]?=some r:=by assumption) (hl:r.length=sz:=by rfl):OpD P N o E H (.pad rows m 0) H:=x_index_pad ho hS hx hy h0 hm hi hl
theorem bu' {parts:Array (Nat×Operand)} {places:List (Nat×Nat)} {l0 l:List AV} {aps:List (Nat×AV)} (hB:BuildOf P T places l0) (ho:o.op=.build T parts:=by rfl) (hp:aparts E parts.toList=some aps:=by rfl) (hf:afills (fun i=>places[i]?) l0 aps=some l:=by rfl):OpD P N o E H (.agg l) H:=x_build ho hB hp hf
theorem lss' {k:IntKind} {n m:Int} (ho:o.op=.binOp .lss t x y t':=by rfl) (hx:aeval E x=some (.pv (.int k n)):=by rfl) (hy:aeval E y=some (.pv (.int k m)):=by rfl):OpD P N o E H (.pv (.bool (decide (n < m)))) H:=opd_lss ho hx hy
theorem eql' {k:IntKind} {n m:Int} (ho:o.op=.binOp .eql t x y t':=by rfl) (hx:aeval E x=some (.pv (.int k n)):=by rfl) (hy:aeval E y=some (.pv (.int k m)):=by rfl):OpD P N o E H (.pv (.bool (decide (n=m)))) H:=opd_eql ho hx hy
theorem Cq {ops rest:List Oper} {K:List Rec→Env→Heap→Prop} {dst:Option Tmp} {op:Op} {ty:TypeId} {pos:String} {af:Array Edge} (h:OpD P N ⟨dst,op,ty,pos,af,none⟩ (restr E (olooks ops ⟨dst,op,ty,pos,af,none⟩)) H v H) (hk:DC P N ops rest (putd E dst v) H (fun rs E' H'=>K (⟨v,none,[]⟩::rs) E' H')) (hd:dstOk N dst=true:=by rfl):DC P N ops (⟨dst,op,ty,pos,af,none⟩::rest) E H K:=dc_cons (DStep.q rfl h) hd hk
theorem Cp {ops rest:List Oper} {K:List Rec→Env→Heap→Prop} {dst:Option Tmp} {op:Op} {ty:TypeId} {pos:String} {af:Array Edge} (R:List Nat) {w:Nat×Ob} (h:∀ H1:Heap,(∀ id,memR (some R) id=true→H1.get id=H.get id)→OpD P N ⟨dst,op,ty,pos,af,none⟩ (restr E (olooks ops ⟨dst,op,ty,pos,af,none⟩)) H1 v (w::H1)) (hk:DC P N ops rest (putd E dst v) (w::H) (fun rs E' H'=>K (⟨v,some R,[w]⟩::rs) E' H')) (hd:dstOk N dst=true:=by rfl):DC P N ops (⟨dst,op,ty,pos,af,none⟩::rest) E H K:=dc_cons (r:=⟨v,some R,[w]⟩) (DStep.plain rfl h) hd hk
theorem Cr {ops rest:List Oper} {K:List Rec→Env→Heap→Prop} {dst:Option Tmp} {op:Op} {ty:TypeId} {pos:String} {af:Array Edge} (R:List Nat) (h:∀ H1:Heap,(∀ id,memR (some R) id=true→H1.get id=H.get id)→OpD P N ⟨dst,op,ty,pos,af,none⟩ (restr E (olooks ops ⟨dst,op,ty,pos,af,none⟩)) H1 v H1) (hk:DC P N ops rest (putd E dst v) H (fun rs E' H'=>K (⟨v,some R,[]⟩::rs) E' H')) (hd:dstOk N dst=true:=by rfl):DC P N ops (⟨dst,op,ty,pos,af,none⟩::rest) E H K:=dc_cons (r:=⟨v,some R,[]⟩) (DStep.plain rfl h) hd hk
theorem Ot {ops rest:List Oper} {K:List Rec→Env→Heap→Prop} {dst:Option Tmp} {op:Op} {ty:TypeId} {pos:String} {af:Array Edge} {j:Nat} {t:Tmp} {b:Bool} (hk:DC P N ops rest (putd E dst (.tup [])) H (fun rs E' H'=>K (⟨.tup [],some [],[]⟩::rs) E' H')) (hj:gslot ops j=some t:=by rfl) (hb:E.get t=some (.pv (.bool b)):=by rfl) (hw:b=false:=by first|rfl|assumption) (hd:dstOk N dst=true:=by rfl):DC P N ops (⟨dst,op,ty,pos,af,some (j,true)⟩::rest) E H K:=dc_cons (q_off_t rfl hj hb hw) hd hk
theorem Of {ops rest:List Oper} {K:List Rec→Env→Heap→Prop} {dst:Option Tmp} {op:Op} {ty:TypeId} {pos:String} {af:Array Edge} {j:Nat} {t:Tmp} {b:Bool} (hk:DC P N ops rest (putd E dst (.tup [])) H (fun rs E' H'=>K (⟨.tup [],some [],[]⟩::rs) E' H')) (hj:gslot ops j=some t:=by rfl) (hb:E.get t=some (.pv (.bool b)):=by rfl) (hw:b=true:=by first|rfl|assumption) (hd:dstOk N dst=true:=by rfl):DC P N ops (⟨dst,op,ty,pos,af,some (j,false)⟩::rest) E H K:=dc_cons (q_off_f rfl hj hb hw) hd hk
theorem Ou {ops rest:List Oper} {K:List Rec→Env→Heap→Prop} {dst:Option Tmp} {op:Op} {ty:TypeId} {pos:String} {af:Array Edge} {j:Nat} {t:Tmp} {w:Bool} (hk:DC P N ops rest (putd E dst (.tup [])) H (fun rs E' H'=>K (⟨.tup [],some [],[]⟩::rs) E' H')) (hj:gslot ops j=some t:=by rfl) (hb:E.get t=some (.tup []):=by rfl) (hd:dstOk N dst=true:=by rfl):DC P N ops (⟨dst,op,ty,pos,af,some (j,w)⟩::rest) E H K:=dc_cons (q_off_u rfl hj hb) hd hk
theorem On {ops:Array Oper} {K:Env→Heap→Prop} {rest:List Oper} {d:Tmp} {op:Op} {ty:TypeId} {pos:String} {af:Array Edge} {j:Nat} {want b:Bool} {t:Tmp} (h:OpD P N ⟨some d,op,ty,pos,af,some (j,want)⟩ E H v H2) (hk:AL P G0 N ops K rest ((d,v)::E) H2) (hj:gslot ops.toList j=some t:=by rfl) (hb:E.get t=some (.pv (.bool b)):=by rfl) (hw:b=want:=by rfl) (hn:Nat.blt d N=true:=by rfl):AL P G0 N ops K (⟨some d,op,ty,pos,af,some (j,want)⟩::rest) E H:=al_ond rfl hj hb hw rfl hn h hk
theorem Fo {ops:Array Oper} {K:Env→Heap→Prop} {rest:List Oper} {dst:Option Tmp} {op:Op} {ty:TypeId} {pos:String} {af:Array Edge} {j:Nat} {want b:Bool} {t:Tmp} (hk:AL P G0 N ops K rest (putd E dst (.tup [])) H) (hj:gslot ops.toList j=some t:=by rfl) (hb:E.get t=some (.pv (.bool b)):=by rfl) (hw:b=!want:=by rfl) (hd:dstOk N dst=true:=by rfl):AL P G0 N ops K (⟨dst,op,ty,pos,af,some (j,want)⟩::rest) E H:=al_off rfl hj hb hw hd hk
section
variable {R:Option (List Nat)} {H1:Heap}
theorem fh {S off:TypeId} {k k2 f:Nat} (hF:FieldOf P S f off) (h:∀ id,memR R id=true→H1.get id=H.get id) (ho:o.op=.fieldAddr S x f:=by rfl) (hx:aeval E x=some (.ref id g i k):=by rfl) (hm:memR R id=true:=by rfl) (hH:H.get id=some ob:=by rfl) (hg:ob.g=g:=by rfl) (hk:k+off=k2:=by rfl):OpD P N o E H1 (.ref id g i k2) H1:=opd_field_ref ho hF hx ((h _ hm).trans hH) hg hk
theorem lh {k:Nat} {r:List AV} (ha:∀ w,(isAgg T).run P w=.ok false w) (h:∀ id,memR R id=true→H1.get id=H.get id) (ho:o.op=.load T x:=by rfl) (hx:aeval E x=some (.ref id g i k):=by rfl) (hm:memR R id=true:=by rfl) (hH:H.get id=some ob:=by rfl) (hg:ob.g=g:=by rfl) (hi:ob.rows[i]?=some r:=by rfl) (hk:r[k]?=some v:=by rfl):OpD P N o E H1 v H1:=opd_load1_ref ho ha hx ((h _ hm).trans hH) hg hi hk
end
section
variable {k:IntKind} {n m:Int} {s u:ByteArray} {b:Bool} {rows:List (List PV)} {r:List PV} {i j q f F:Nat}
theorem no' (ho:o.op=.unOp .not t x:=by rfl) (hx:aeval E x=some (.pv (.bool b)):=by rfl):OpD P N o E H (.pv (.bool (!b))) H:=opd_not ho hx
theorem ne' (ho:o.op=.binOp .neq t x y t':=by rfl) (hx:aeval E x=some (.pv (.int k n)):=by rfl) (hy:aeval E y=some (.pv (.int k m)):=by rfl):OpD P N o E H (.pv (.bool (!decide (n=m)))) H:=opd_neq ho hx hy
theorem gt' (ho:o.op=.binOp .gtr t x y t':=by rfl) (hx:aeval E x=some (.pv (.int k n)):=by rfl) (hy:aeval E y=some (.pv (.int k m)):=by rfl):OpD P N o E H (.pv (.bool (decide (m < n)))) H:=opd_gtr ho hx hy
theorem le' (ho:o.op=.binOp .leq t x y t':=by rfl) (hx:aeval E x=some (.pv (.int k n)):=by rfl) (hy:aeval E y=some (.pv (.int k m)):=by rfl):OpD P N o E H (.pv (.bool (decide (n≤m)))) H:=opd_leq ho hx hy
theorem ge' (ho:o.op=.binOp .geq t x y t':=by rfl) (hx:aeval E x=some (.pv (.int k n)):=by rfl) (hy:aeval E y=some (.pv (.int k m)):=by rfl):OpD P N o E H (.pv (.bool (decide (m≤n)))) H:=opd_geq ho hx hy
theorem se' (ho:o.op=.binOp .eql t x y t':=by rfl) (hx:aeval E x=some (.pv (.str s)):=by rfl) (hy:aeval E y=some (.pv (.str u)):=by rfl):OpD P N o E H (.pv (.bool (decide (s=u)))) H:=opd_seql ho hx hy
theorem sn' (ho:o.op=.binOp .neq t x y t':=by rfl) (hx:aeval E x=some (.pv (.str s)):=by rfl) (hy:aeval E y=some (.pv (.str u)):=by rfl):OpD P N o E H (.pv (.bool (!decide (s=u)))) H:=opd_sneq ho hx hy
theorem ad' (ho:o.op=.binOp .add t x y t':=by rfl) (hx:aeval E x=some (.pv (.int .i64 n)):=by rfl) (hy:aeval E y=some (.pv (.int .i64 m)):=by rfl) {r:Int} (hr:IntKind.i64.wrap (n+m)=r:=by exact w64 (by omega) (by omega)):OpD P N o E H (.pv (.int .i64 r)) H:=opd_add ho hx hy hr
theorem fp' {S off:TypeId} {q2:Nat} (hF:FieldOf P S f off) (ho:o.op=.fieldAddr S x f:=by rfl) (hx:aeval E x=some (.pad rows i q):=by rfl) (hk:q+off=q2:=by rfl):OpD P N o E H (.pad rows i q2) H:=opd_field_pad ho hF hx hk
theorem lp' {p:PV} (ha:∀ w,(isAgg T).run P w=.ok false w) (ho:o.op=.load T x:=by rfl) (hx:aeval E x=some (.pad rows i q):=by rfl) (hi:rows[i]?=some r:=by first|assumption|omega) (hk:r[q]?=some p:=by rfl):OpD P N o E H (.pv p) H:=opd_load1_pad ho ha hx hi hk
theorem pt' {c:Operand} (ho:o.op=.pick c x y:=by rfl) (hc:aeval E c=some (.pv (.bool b)):=by rfl) (hb:b=true:=by assumption) (hv:aeval E x=some v:=by rfl):OpD P N o E H v H:=opd_pickt ho hc hb hv
theorem pf' {c:Operand} (ho:o.op=.pick c x y:=by rfl) (hc:aeval E c=some (.pv (.bool b)):=by rfl) (hb:b=false:=by assumption) (hv:aeval E y=some v:=by rfl):OpD P N o E H v H:=opd_pickf ho hc hb hv
theorem pk' {c:Operand} (ho:o.op=.pick c x y:=by rfl) (hc:aeval E c=some (.pv (.bool b)):=by rfl) (hv:aeval E (if b then x else y)=some v:=by rfl):OpD P N o E H v H:=opd_pick ho hc hv
theorem ls' (ht:P.underlying T=some .string) (ho:o.op=.call {callee:=.builtin .len,args:=#[x],argTypes:=#[T]}:=by rfl) (hx:aeval E x=some (.pv (.str s)):=by rfl):OpD P N o E H (.pv (.int .i64 s.size)) H:=opd_len_str ho ht hx
theorem nc' {q:Nat} (ho:o.op=.nilCheck x:=by rfl) (hx:aeval E x=some (.ref id g i q):=by rfl) (hH:H.get id=some ob:=by rfl) (hg:ob.g=g:=by rfl):OpD P N o E H (.ref id g i q) H:=opd_nilCheck_ref ho hx hH hg
end
section
variable {G0:Heap} {fn:Func} {Q:AV→Heap→Prop} {q:Exit} {r r1 r2:AV} {t1 t2:Tmp}
theorem Rt (hq:Q r []) (hf:fn.results=#[.tmp t1]:=by rfl) (ht:E.get t1=some r:=by rfl) (hc:Clo [] r:=by simp):ARet P fn [] Q .ret E H:=aret1 (.inr rfl) hf (rval_tmp ht) (Fin.wk hc trivial trivial) hq
theorem Ru (hq:Q (.tup [r1,r2]) []) (hf:fn.results=#[.tmp t1,.tmp t2]:=by rfl) (ht:E.get t1=some r1:=by rfl) (hu:E.get t2=some r2:=by rfl) (hc:Clo [] (.tup [r1,r2]):=by simp):ARet P fn [] Q .ret E H:=aret2 (.inr rfl) hf (rval_tmp ht) (rval_tmp hu) (Fin.wk hc trivial trivial) hq
theorem rl' {T:TypeId} {n i k:Nat} {cells cs:List AV} (ha:∀ w,(isAgg T).run P w=.ok true w) (hs:∀ w,(sizeOf T).run P w=.ok n w) (hx:E.get t1=some (.ref id g i k):=by rfl) (hH:H.get id=some ob:=by rfl) (hg:ob.g=g:=by rfl) (hi:ob.rows[i]?=some cells:=by rfl) (hk:(cells.drop k).take n=cs:=by rfl) (hl:cs.length=n:=by rfl):RVal P E H (.cell t1 T) (.agg cs):=rval_cell hx ha hs hH hg hi hk hl
theorem Bd {f:FuncId} {c:Code} {args:List AV} (hf:P.funcs[f]?=some fn) (hb:fn.body=some c) (hN:fn.ntmps=N) (h:AWp P H N c (ARet P fn H Q) (entryEnv args) H) (hlen:args.length≤N:=by exact Nat.le_of_ble_eq_true rfl):ACalls P f args H Q:=ACalls.body hf hb hN hlen h
end
section
variable {Q:Exit→Env→Heap→Prop} {b:Bool} {E':Env} {H':Heap}
theorem Cn {c:Operand} {x y:Code} (h1:b=true→AWp P G0 N x Q E H) (h2:b=false→AWp P G0 N y Q E H) (hc:aeval E c=some (.pv (.bool b)):=by rfl):AWp P G0 N (.cond c x y) Q E H:=awp_cond hc h1 h2
theorem Sp (t:Tmp) {ops:Array Oper} {l:List Oper} {K:Env→Heap→Prop} (h1:b=true→AL P G0 N ops K l ((t,.pv (.bool true))::E) H) (h2:b=false→AL P G0 N ops K l ((t,.pv (.bool false))::E) H) (hb:E.get t=some (.pv (.bool b)):=by rfl):AL P G0 N ops K l E H:=al_split hb h1 h2
theorem Wk (hE:EOk E H' E':=by repeat' first|exact trivial|refine⟨⟨_,rfl,rfl⟩,?_,?_⟩|(simp;done)|(simp;rfl)) (hH:HOk H H' H':=by repeat' first|exact trivial|refine⟨⟨_,rfl,rfl⟩,?_,?_⟩|(simp;done)|(simp;rfl)) (hk:KOk H' H G0:=by repeat' first|exact trivial|refine⟨rfl,?_⟩):Ent G0 E H E' H':=Ent.wk hE hH hk
theorem E0 (h:EOk0 E E':=by repeat' first|exact trivial|refine⟨⟨_,rfl,rfl⟩,?_⟩):Ent G0 E H E' H:=Ent.e0 h
theorem Fu {ops:Array Oper} {K:Env→Heap→Prop} {rest:List Oper} {dst:Option Tmp} {op:Op} {ty:TypeId} {pos:String} {af:Array Edge} {j:Nat} {want:Bool} {t:Tmp} (hk:AL P G0 N ops K rest (putd E dst (.tup [])) H) (hj:gslot ops.toList j=some t:=by rfl) (hb:E.get t=some (.tup []):=by rfl) (hd:dstOk N dst=true:=by rfl):AL P G0 N ops K (⟨dst,op,ty,pos,af,some (j,want)⟩::rest) E H:=al_offu rfl hj hb hd hk
end
section
variable {ops rest:List Oper} {K:List Rec→Env→Heap→Prop} {dst:Option Tmp} {op:Op} {ty:TypeId} {pos:String} {af:Array Edge} {j:Nat} {t:Tmp} {b:Bool}
theorem Nt (h:OpD P N ⟨dst,op,ty,pos,af,some (j,true)⟩ (restr E (olooks ops ⟨dst,op,ty,pos,af,some (j,true)⟩)) H v H) (hk:DC P N ops rest (putd E dst v) H (fun rs E' H'=>K (⟨v,none,[]⟩::rs) E' H')) (hj:gslot ops j=some t:=by rfl) (hb:E.get t=some (.pv (.bool b)):=by rfl) (hw:b=true:=by first|rfl|assumption) (hd:dstOk N dst=true:=by rfl):DC P N ops (⟨dst,op,ty,pos,af,some (j,true)⟩::rest) E H K:=dc_cons (q_on_t rfl hj hb hw h) hd hk
theorem Nf (h:OpD P N ⟨dst,op,ty,pos,af,some (j,false)⟩ (restr E (olooks ops ⟨dst,op,ty,pos,af,some (j,false)⟩)) H v H) (hk:DC P N ops rest (putd E dst v) H (fun rs E' H'=>K (⟨v,none,[]⟩::rs) E' H')) (hj:gslot ops j=some t:=by rfl) (hb:E.get t=some (.pv (.bool b)):=by rfl) (hw:b=false:=by first|rfl|assumption) (hd:dstOk N dst=true:=by rfl):DC P N ops (⟨dst,op,ty,pos,af,some (j,false)⟩::rest) E H K:=dc_cons (q_on_f rfl hj hb hw h) hd hk
end
theorem Zl:(∀ {α:Type} (a:α) (l:List α) (i:Nat),(a::l).drop (i+1)=l.drop i)∧(∀ {α:Type} (l:List α),l.drop 0=l)∧(∀ {α:Type} (a:α) (l:List α) (i:Nat),(a::l).take (i+1)=a::l.take i)∧(∀ {α:Type} (l:List α),l.take 0=[])∧(∀ {α:Type} (i:Nat),([]:List α).take i=[]) ∧
  (∀ {α β:Type} (f:α→β) (a:α) (l:List α),(a::l).map f=f a::l.map f)∧(∀ {α β:Type} (f:α→β),[].map f=[])∧(∀ {α:Type} (a b:α) (l:List α),(a::l).set 0 b=b::l)∧(∀ {α:Type} (a b:α) (l:List α) (i:Nat),(a::l).set (i+1) b=a::l.set i b) ∧
  (∀ {α:Type} (a:α) (l l2:List α),(a::l)++l2=a::(l++l2))∧(∀ {α:Type} (l:List α),[]++l=l) :=
 ⟨fun _ _ _=>rfl,fun _=>rfl,fun _ _ _=>rfl,fun l=>by simp,fun _=>by simp,fun _ _ _=>rfl,fun _=>rfl,fun _ _ _=>rfl,fun _ _ _ _=>rfl,fun _ _ _=>rfl,fun _=>rfl⟩
theorem Zo:(∀ b:Bool,(false&&b)=false)∧(∀ b:Bool,(true&&b)=b)∧(∀ b:Bool,(b&&false)=false)∧(∀ b:Bool,(b&&true)=b)∧(∀ b:Bool,(true||b)=true)∧(∀ b:Bool,(false||b)=b)∧(∀ b:Bool,(b||true)=true)∧(∀ b:Bool,(b||false)=b)∧(!true)=false∧(!false)=true:=by simp
end
theorem Ea {E:Env} {H':Heap} {t:Nat} {v:AV} {L:Env} (r:EOk E H' L) (h1:∃ v0,E.get t=some v0∧v0=v:=by exact⟨_,rfl,rfl⟩) (h2:Clo H' v:=by simp;rfl):EOk E H' ((t,v)::L):=⟨h1,h2,r⟩
theorem Eb {E:Env} {H':Heap} {t:Nat} {v:AV} {L:Env} (r:EOk E H' L) (h1:∃ v0,E.get t=some v0∧v0=v:=by exact⟨_,rfl,rfl⟩) (h2:Clo H' v:=by simp):EOk E H' ((t,v)::L):=⟨h1,h2,r⟩
theorem Ec {E:Env} {H':Heap} {t:Nat} {v:AV} {L:Env} (h2:Clo H' v) (r:EOk E H' L) (h1:∃ v0,E.get t=some v0∧v0=v:=by exact⟨_,rfl,rfl⟩):EOk E H' ((t,v)::L):=⟨h1,h2,r⟩
theorem Ha {H H':Heap} {t:Nat} {o:Ob} {L:Heap} (r:HOk H H' L) (h1:∃ v0,H.get t=some v0∧v0=o:=by exact⟨_,rfl,rfl⟩) (h2:∀ r∈o.rows,∀ a∈r,Clo H' a:=by simp;rfl):HOk H H' ((t,o)::L):=⟨h1,h2,r⟩
theorem Hb {H H':Heap} {t:Nat} {o:Ob} {L:Heap} (r:HOk H H' L) (h1:∃ v0,H.get t=some v0∧v0=o:=by exact⟨_,rfl,rfl⟩) (h2:∀ r∈o.rows,∀ a∈r,Clo H' a:=by simp):HOk H H' ((t,o)::L):=⟨h1,h2,r⟩
theorem Hc {H H':Heap} {t:Nat} {o:Ob} {L:Heap} (h2:∀ r∈o.rows,∀ a∈r,Clo H' a) (r:HOk H H' L) (h1:∃ v0,H.get t=some v0∧v0=o:=by exact⟨_,rfl,rfl⟩):HOk H H' ((t,o)::L):=⟨h1,h2,r⟩
end
section
theorem awp_loop2 {P:Program} {G0:Heap} {N:Nat} {Q:Exit→Env→Heap→Prop} {E:Env} {H:Heap} {cc:Code} {α β:Type} (S:α→β→Env×Heap) (J:α→β→Prop) (μ:α→β→Nat) (a0:α) (b0:β) (h0:J a0 b0) (hin:Ent G0 E H (S a0 b0).1 (S a0 b0).2)
  (round:∀ a b,J a b→AWp P G0 N cc (AThen (fun E' H'=>∃ a' b',J a' b'∧μ a' b' < μ a b∧Ent G0 E' H' (S a' b').1 (S a' b').2) Q) (S a b).1 (S a b).2):AWp P G0 N (.loop cc) Q E H:=by
 refine awp_loop (σ:=α×β) (fun s=>S s.1 s.2) (fun s=>J s.1 s.2) (fun s=>μ s.1 s.2) (a0,b0) h0 hin ?_
 intro s hs
 have h:=round s.1 s.2 hs
 have e:(fun(E':Env) (H':Heap)=>∃ s':α×β,J s'.1 s'.2∧μ s'.1 s'.2 < μ s.1 s.2∧Ent G0 E' H' (S s'.1 s'.2).1 (S s'.1 s'.2).2)=(fun E' H'=>∃ a' b',J a' b'∧μ a' b' < μ s.1 s.2∧Ent G0 E' H' (S a' b').1 (S a' b').2):=by
  funext E' H'
  exact propext ⟨fun⟨s',h⟩=>⟨s'.1,s'.2,h⟩,fun⟨a',b',h⟩=>⟨(a',b'),h⟩⟩
 rw [e];exact h
theorem awp_loop4 {P:Program} {G0:Heap} {N:Nat} {Q:Exit→Env→Heap→Prop} {E:Env} {H:Heap} {cc:Code} {α β γ δ:Type} (S:α→β→γ→δ→Env×Heap) (J:α→β→γ→δ→Prop) (μ:α→β→γ→δ→Nat) (a0:α) (b0:β) (c0:γ) (d0:δ) (h0:J a0 b0 c0 d0) (hin:Ent G0 E H (S a0 b0 c0 d0).1 (S a0 b0 c0 d0).2)
  (round:∀ a b c d,J a b c d→AWp P G0 N cc (AThen (fun E' H'=>∃ a' b' c' d',J a' b' c' d'∧μ a' b' c' d' < μ a b c d∧Ent G0 E' H' (S a' b' c' d').1 (S a' b' c' d').2) Q) (S a b c d).1 (S a b c d).2):AWp P G0 N (.loop cc) Q E H:=by
 refine awp_loop (σ:=α×β×γ×δ) (fun s=>S s.1 s.2.1 s.2.2.1 s.2.2.2) (fun s=>J s.1 s.2.1 s.2.2.1 s.2.2.2) (fun s=>μ s.1 s.2.1 s.2.2.1 s.2.2.2) (a0,b0,c0,d0) h0 hin ?_
 intro s hs
 have h:=round s.1 s.2.1 s.2.2.1 s.2.2.2 hs
 have e:(fun(E':Env) (H':Heap)=>∃ s':α×β×γ×δ,J s'.1 s'.2.1 s'.2.2.1 s'.2.2.2∧μ s'.1 s'.2.1 s'.2.2.1 s'.2.2.2 < μ s.1 s.2.1 s.2.2.1 s.2.2.2∧Ent G0 E' H' (S s'.1 s'.2.1 s'.2.2.1 s'.2.2.2).1 (S s'.1 s'.2.1 s'.2.2.1 s'.2.2.2).2)=(fun E' H'=>∃ a' b' c' d',J a' b' c' d'∧μ a' b' c' d' < μ s.1 s.2.1 s.2.2.1 s.2.2.2∧Ent G0 E' H' (S a' b' c' d').1 (S a' b' c' d').2):=by
  funext E' H'
  exact propext ⟨fun⟨s',h⟩=>⟨s'.1,s'.2.1,s'.2.2.1,s'.2.2.2,h⟩,fun⟨a',b',c',d',h⟩=>⟨(a',b',c',d'),h⟩⟩
 rw [e];exact h
theorem clo_map {α:Type} (f:α→List PV) (l:List α) (H:Heap):∀ r∈l.map (fun e=>(f e).map AV.pv),∀ a∈r,Clo H a:=by
 intro r hr a ha
 obtain ⟨e,_,rfl⟩:=List.mem_map.1 hr
 obtain ⟨p,_,rfl⟩:=List.mem_map.1 ha
 exact .pv p
/-- Arguments by pairs. -/
theorem fz_nil {H:Heap} {id g:Nat} {ps:List (List PV)}:∀ (i:Nat) (a a':AV),([]:List AV)[i]?=some a→([]:List AV)[i]?=some a'→Fz H id g ps a a':=fun i a a' h=>by cases h
theorem fz_cons {H:Heap} {id g:Nat} {ps:List (List PV)} {x x':AV} {l l':List AV} (h:Fz H id g ps x x') (hr:∀ (i:Nat) (a a':AV),l[i]?=some a→l'[i]?=some a'→Fz H id g ps a a') :
  ∀ (i:Nat) (a a':AV),(x::l)[i]?=some a→(x'::l')[i]?=some a'→Fz H id g ps a a'
 | 0,a,a',h1,h2=>by cases h1;cases h2;exact h
 | i+1,a,a',h1,h2=>hr i a a' h1 h2
end
section
/-- Slots and cells in another writing: a nil slice becomes the owned object 'id' (of no rows), or a slice of no rows. -/
inductive Nz (H':Heap) (id:Nat):AV→AV→Prop
 | same {a:AV} (h:Clo H' a):Nz H' id a a
 | own:Nz H' id (.pv .nils) (.osl id 0 0 0)
 | weak:Nz H' id (.pv .nils) (.pv (.sl []))
 | agg {cs cs':List AV} (hl:cs.length=cs'.length) (h:∀ (i:Nat) (a a':AV),cs[i]?=some a→cs'[i]?=some a'→Nz H' id a a'):Nz H' id (.agg cs) (.agg cs')
 | tup {cs cs':List AV} (hl:cs.length=cs'.length) (h:∀ (i:Nat) (a a':AV),cs[i]?=some a→cs'[i]?=some a'→Nz H' id a a'):Nz H' id (.tup cs) (.tup cs')
/-- The objects' marks are as they were. -/
def Alike (H H':Heap):Prop:=∀ j o',H'.get j=some o'→∃ o,H.get j=some o∧o.g=o'.g∧o.sz=o'.sz∧o.ty=o'.ty∧o.rows.length=o'.rows.length
theorem VRel.alike {w:World} {I:Nat→Prop} {ι:Plc} {H H':Heap} (hs:Alike H H') {v:Value} {a:AV} (h:VRel w I ι H v a):Clo H' a→VRel w I ι H' v a:=by
 induction h with
 | any v=>exact fun _=>.any v
 | pv h=>exact fun _=>.pv h
 | ref o hH hg h1 h =>
  intro hc
  rw [clo_ref] at hc
  obtain ⟨o',ho'⟩:=Option.isSome_iff_exists.1 hc
  obtain ⟨o2,e1,e2,e3,e4,e5⟩:=hs _ o' ho'
  rw [hH] at e1;cases e1
  exact .ref o' ho' (by omega) h1 (fun e=>by rw [← e3];exact h (by omega))
 | pad b off cap sz h hsz hlen cs hI hc hp=>exact fun _=>.pad b off cap sz h hsz hlen cs hI hc hp
 | osl o hH hg h1 h =>
  intro hc
  rw [clo_osl] at hc
  obtain ⟨o',ho'⟩:=Option.isSome_iff_exists.1 hc
  obtain ⟨o2,e1,e2,e3,e4,e5⟩:=hs _ o' ho'
  rw [hH] at e1;cases e1
  exact .osl o' ho' (by omega) h1 (fun e=>by rw [← e3,← e5];exact h (by omega))
 | clo hl h ih =>
  intro hc
  rw [clo_clo] at hc
  exact .clo hl (fun i v a hv ha=>ih i v a hv ha (hc a (List.mem_of_getElem? ha)))
 | agg hl h1 h ih =>
  intro hc
  rw [clo_agg] at hc
  exact .agg hl h1 (fun i v a hv ha=>ih i v a hv ha (hc a (List.mem_of_getElem? ha)))
 | tup hl h ih =>
  intro hc
  rw [clo_tup] at hc
  exact .tup hl (fun i v a hv ha=>ih i v a hv ha (hc a (List.mem_of_getElem? ha)))
 | mp o hH hg h1 h =>
  intro hc
  rw [clo_mp] at hc
  obtain ⟨o',ho'⟩:=Option.isSome_iff_exists.1 hc
  obtain ⟨o2,e1,e2,e3,e4,e5⟩:=hs _ o' ho'
  rw [hH] at e1;cases e1
  exact .mp o' ho' (by omega) h1 (fun e=>by rw [← e3];exact h (by omega))
 | it o hH hg h1 h =>
  intro hc
  rw [clo_it] at hc
  obtain ⟨o',ho'⟩:=Option.isSome_iff_exists.1 hc
  obtain ⟨o2,e1,e2,e3,e4,e5⟩:=hs _ o' ho'
  rw [hH] at e1;cases e1
  exact .it o' ho' (by omega) h1 (fun e=>by rw [← e3];exact h (by omega))
 | yld o hH hg h1 h =>
  intro hc
  rw [clo_yld] at hc
  obtain ⟨o',ho'⟩:=Option.isSome_iff_exists.1 hc
  obtain ⟨o2,e1,e2,e3,e4,e5⟩:=hs _ o' ho'
  rw [hH] at e1;cases e1
  exact .yld o' ho' (by omega) h1 (fun e=>by rw [← e3];exact h (by omega))
 | osc o hH hg h1 h =>
  intro hc
  rw [clo_osc] at hc
  obtain ⟨o',ho'⟩:=Option.isSome_iff_exists.1 hc
  obtain ⟨o2,e1,e2,e3,e4,e5⟩:=hs _ o' ho'
  rw [hH] at e1;cases e1
  exact .osc o' ho' (by omega) h1 (fun e=>by rw [← e3];exact h (by omega))
theorem Nz.raw {H':Heap} {id:Nat} {a a':AV} (h:Nz H' id a a') {y:Go.Loop} {ts:List Nat} (e:a'=.raw y ts):a=.raw y ts:=by
 cases h<;>first|exact e|cases e
theorem VRel.nz {w:World} {I:Nat→Prop} {ι:Plc} {H H':Heap} {id:Nat} {ob:Ob} (hs:Alike H H') (hι:ι id=none) (hid:H'.get id=some ob) (hg:ob.g=0) (hpos:0 < ob.sz) {a a':AV} (hn:Nz H' id a a'):∀ {v:Value},VRel w I ι H v a→VRel w I ι H' v a':=by
 induction hn with
 | same h=>exact fun hv=>hv.alike hs h
 | own =>
  intro v hv
  have:=hv.pv_inv
  cases this
  exact .osl ob hid (by omega) rfl (fun _=>⟨hpos,by omega,.inr ⟨hι,rfl,rfl,rfl⟩⟩)
 | weak =>
  intro v hv
  have:=hv.pv_inv
  cases this
  exact .pv .nilsl
 | @agg cs cs' hl h ih =>
  intro v hv
  cases hv with
  | agg hl2 h1 h2 =>
   refine .agg (hl2.trans hl) h1 (fun i u a' hu ha'=>?_)
   have ha:=List.getElem?_eq_getElem (l:=cs) (i:=i) (by have:=(List.getElem?_eq_some_iff.1 ha').1;omega)
   exact ih i _ a' ha ha' (h2 i u _ hu ha)
 | @tup cs cs' hl h ih =>
  intro v hv
  cases hv with
  | tup hl2 h2 =>
   refine .tup (hl2.trans hl) (fun i u a' hu ha'=>?_)
   have ha:=List.getElem?_eq_getElem (l:=cs) (i:=i) (by have:=(List.getElem?_eq_some_iff.1 ha').1;omega)
   exact ih i _ a' ha ha' (h2 i u _ hu ha)
def NzL (H:Heap) (id:Nat):List AV→List AV→Prop
 | [],[]=>True
 | a::l,b::r=>Nz H id a b∧NzL H id l r
 | _,_=>False
theorem NzL.spec {H:Heap} {id:Nat}:∀ {l r:List AV},NzL H id l r→l.length=r.length∧∀ (k:Nat) (a b:AV),l[k]?=some a→r[k]?=some b→Nz H id a b
 | [],[],_=>⟨rfl,fun k a b h=>by simp at h⟩
 | a::l,b::r,h=>⟨by simp [(NzL.spec h.2).1],fun k x y h1 h2=>by
   cases k with
   | zero=>cases h1;cases h2;exact h.1
   | succ k=>exact(NzL.spec h.2).2 k x y h1 h2⟩
 | [],_::_,h=>h.elim
 | _::_,[],h=>h.elim
def NzR (H:Heap) (id:Nat) (rows rows':List (List AV)):Prop:=(rows=rows'∧∀ r∈rows',∀ a∈r,Clo H a)∨∃ r r',rows=[r]∧rows'=[r']∧NzL H id r r'
theorem NzR.spec {H:Heap} {id:Nat} {rows rows':List (List AV)} (h:NzR H id rows rows'):rows.length=rows'.length∧∀ (i:Nat) (r':List AV),rows'[i]?=some r'→∃ r,rows[i]?=some r∧r.length=r'.length∧∀ (k:Nat) (b:AV),r'[k]?=some b→∃ a,r[k]?=some a∧Nz H id a b:=by
 rcases h with⟨rfl,hc⟩|⟨r,r',rfl,rfl,hl⟩
 ·exact⟨rfl,fun i r' hr=>⟨r',hr,rfl,fun k b hb=>⟨b,hb,.same (hc r' (List.mem_of_getElem? hr) b (List.mem_of_getElem? hb))⟩⟩⟩
 refine⟨rfl,fun i r2 hr=>?_⟩
 cases i with
 | zero =>
  cases hr
  obtain ⟨e1,e2⟩:=hl.spec
  refine⟨r,rfl,e1,fun k b hb=>?_⟩
  have hlt:=(List.getElem?_eq_some_iff.1 hb).1
  exact⟨r[k],List.getElem?_eq_getElem (by omega),e2 k _ b (List.getElem?_eq_getElem (by omega)) hb⟩
 | succ i=>simp at hr
def NzE (E:Env) (H:Heap) (id:Nat):Env→Prop
 | []=>True
 | (t,v)::r=>(∃ v0,E.get t=some v0∧Nz H id v0 v)∧NzE E H id r
theorem NzE.spec {E:Env} {H:Heap} {id:Nat}:∀ {E':Env},NzE E H id E'→∀ p∈E',∃ v0,E.get p.1=some v0∧Nz H id v0 p.2
 | (t,v)::r,h,p,hp=>by
  rcases List.mem_cons.1 hp with e|e
  ·subst e;exact h.1
  exact NzE.spec h.2 p e
def NzH (H H2:Heap) (id:Nat):Heap→Prop
 | []=>True
 | (j,o')::r=>(∃ o,H.get j=some o∧o.g=o'.g∧o.sz=o'.sz∧o.ty=o'.ty∧NzR H2 id o.rows o'.rows)∧NzH H H2 id r
theorem NzH.spec {H H2:Heap} {id:Nat}:∀ {H':Heap},NzH H H2 id H'→∀ p∈H',∃ o,H.get p.1=some o∧o.g=p.2.g∧o.sz=p.2.sz∧o.ty=p.2.ty∧NzR H2 id o.rows p.2.rows
 | (j,o')::r,h,p,hp=>by
  rcases List.mem_cons.1 hp with e|e
  ·subst e;exact h.1
  exact NzH.spec h.2 p e
/-- Nil slices are owned from here on, or are slices of no rows. -/
theorem Ent.nz {G0:Heap} {E E':Env} {H H':Heap} (id sz ty:Nat) (hid:H.get id=none) (hsz:Nat.blt 0 sz=true) (hE:NzE E ((id,⟨0,sz,ty,[]⟩)::H') id E') (hH:NzH H ((id,⟨0,sz,ty,[]⟩)::H') id H') (hk:KOk ((id,⟨0,sz,ty,[]⟩)::H') H G0) :
  Ent G0 E H E' ((id,⟨0,sz,ty,[]⟩)::H'):=by
 intro G hG N a w hs
 obtain ⟨I,ι,hr,hst,he⟩:=hs.rel
 obtain ⟨a1,a2⟩:=hr.adopt (sz:=sz) (ty:=ty) hid (by simpa [Nat.blt_eq] using hsz)
 have hpz:0 < sz:=by simpa [Nat.blt_eq] using hsz
 obtain ⟨ι',hι'⟩:∃ ι':Plc,ι'=(fun j=>if j=id then none else ι j):=⟨_,rfl⟩
 rw [← hι'] at a1 a2
 have hιid:ι' id=none:=by rw [hι'];simp
 obtain ⟨H1,hH1⟩:∃ H1:Heap,H1=(id,(⟨0,sz,ty,[]⟩:Ob))::H:=⟨_,rfl⟩
 obtain ⟨H2,hH2⟩:∃ H2:Heap,H2=(id,(⟨0,sz,ty,[]⟩:Ob))::H':=⟨_,rfl⟩
 rw [← hH1] at a1 a2
 rw [← hH2] at hE hH hk ⊢
 have g1:H1.get id=some ⟨0,sz,ty,[]⟩:=by rw [hH1];simp [Heap.get]
 have g2:H2.get id=some ⟨0,sz,ty,[]⟩:=by rw [hH2];simp [Heap.get]
 have n1:∀ j,j≠id→H1.get j=H.get j:=fun j e=>by rw [hH1];simp [Heap.get,beq_ne (Ne.symm e)]
 have n2:∀ j,j≠id→H2.get j=H'.get j:=fun j e=>by rw [hH2];simp [Heap.get,beq_ne (Ne.symm e)]
 have hobj:∀ j o',H2.get j=some o'→∃ o,H1.get j=some o∧o.g=o'.g∧o.sz=o'.sz∧o.ty=o'.ty∧NzR H2 id o.rows o'.rows:=by
  intro j o' ho
  by_cases e:j=id
  ·subst e
   rw [g2] at ho;cases ho
   exact⟨_,g1,rfl,rfl,rfl,.inl ⟨rfl,by simp⟩⟩
  rw [n2 j e] at ho
  obtain ⟨o,e1,e2⟩:=hH.spec _ (mem_of_hget ho)
  exact⟨o,(n1 j e).trans e1,e2⟩
 have hal:Alike H1 H2:=fun j o' ho=>by
  obtain ⟨o,e1,e2,e3,e4,e5⟩:=hobj j o' ho
  exact⟨o,e1,e2,e3,e4,e5.spec.1⟩
 have hown:∀ b,Own ι' H2 b→Own ι' H1 b:=by
  rintro b ⟨j,o',c,ho,hb⟩
  obtain ⟨o,e1,_⟩:=hobj j o' ho
  exact⟨j,o,c,e1,hb⟩
 have hrel:Rel I ι' H2 w:=by
  refine⟨a1.imm,fun j o' ho=>?_,fun j j' o o' b c c' hj hj'=>?_,a1.glob⟩
  ·obtain ⟨o,e1,e2,e3,e4,e5⟩:=hobj j o' ho
   obtain ⟨s1,s2⟩:=e5.spec
   refine(a1.obj j o e1).keepG e3.symm e4.symm s1.symm (raw_rows s1 (fun i r' hi=>by
    obtain ⟨r,t1,t2,t3⟩:=s2 i r' hi
    refine⟨r,t1,t2,fun k a a' h1 h2 y ts e=>?_⟩
    obtain ⟨z,u1,u2⟩:=t3 k a' h2
    rw [h1] at u1;cases u1
    exact u2.raw e)) rfl (fun _ _ _ _=>⟨rfl,fun h=>h⟩) (fun i r' hi=>?_)
   obtain ⟨r,t1,t2,t3⟩:=s2 i r' hi
   refine⟨r,t1,t2,fun k a a' h1 h2 v hv=>?_⟩
   obtain ⟨y,u1,u2⟩:=t3 k a' h2
   rw [h1] at u1;cases u1
   exact VRel.nz hal hιid g2 rfl hpz u2 hv
  obtain ⟨o1,e1,_⟩:=hobj j o hj
  obtain ⟨o2,e2,_⟩:=hobj j' o' hj'
  exact a1.inj j j' o1 o2 b c c' e1 e2
 have hst1:=hst.trans a2
 have hst2:Step G.I G.ι G.H G.w I ι' H2 w:=by
  refine⟨hst1.os,hst1.tape,hst1.output,hst1.size,hst1.froz,hst1.imm,hst1.immNew,fun b hb=>hst1.own b (hown b hb),hst1.keep,fun j o hj=>?_⟩
  obtain ⟨o1,e1,e2⟩:=hst1.objs j o hj
  subst hG
  have hkk:=hk.kept j (by rw [hj];rfl)
  by_cases e:j=id
  ·subst e
   obtain ⟨o0,e0,_⟩:=hst.objs j o hj
   rw [hid] at e0;cases e0
  rw [n1 j e] at e1
  exact⟨o1,hkk.trans e1,e2⟩
 refine⟨hs.defers,hs.size,I,ι',hrel,hst2,fun t v hv=>?_⟩
 obtain ⟨v0,f1,f2⟩:=hE.spec _ (mem_of_get hv)
 obtain ⟨c,c1,c2⟩:=he t v0 f1
 exact⟨c,c1,VRel.nz hal hιid g2 rfl hpz f2 (c2.mono hr a2)⟩
end
end Go.Abs
namespace Go.Abs
open Go.Proofs.YtlnfjkdacimblaaGreatDoor
section
theorem bulk_pos {H:Type} (d:DataW H):1≤Rows.uptoBulk d:=by
 cases d with
 | lit l=>cases l<;>simp [Rows.uptoBulk]
 | _=>simp [Rows.uptoBulk]
theorem bulk_mem {H:Type} {d:DataW H} {l:List (DataW H)} (h:d∈l):Rows.uptoBulk d≤Rows.uptoBulkAll l:=by
 induction l with
 | nil=>cases h
 | cons x r ih =>
  simp only [Rows.uptoBulkAll]
  rcases List.mem_cons.1 h with e|e
  ·subst e;omega
  have:=ih e;omega
theorem bulk_len {H:Type} (l:List (DataW H)):l.length≤Rows.uptoBulkAll l:=by
 induction l with
 | nil=>simp
 | cons x r ih=>have:=bulk_pos x;simp only [Rows.uptoBulkAll,List.length_cons];omega
/-- The cells of a value and the pure values that they hold. -/
inductive PL (w:World) (I:Nat→Prop):List Value→List PV→Prop
 | nil:PL w I [] []
 | cons {c:Value} {p:PV} {cs:List Value} {ps:List PV} (h:PRep w I c p) (r:PL w I cs ps):PL w I (c::cs) (p::ps)
theorem PL.length {w:World} {I:Nat→Prop} {cs:List Value} {ps:List PV} (h:PL w I cs ps):cs.length=ps.length:=by
 induction h with
 | nil=>rfl
 | cons h r ih=>simp [ih]
theorem PL.append {w:World} {I:Nat→Prop} {cs cs':List Value} {ps ps':List PV} (h:PL w I cs ps) (h':PL w I cs' ps'):PL w I (cs++cs') (ps++ps'):=by
 induction h with
 | nil=>exact h'
 | cons h r ih=>exact .cons h ih
theorem PL.get {w:World} {I:Nat→Prop} {cs:List Value} {ps:List PV} (h:PL w I cs ps):∀ (k:Nat) (c:Value) (p:PV),cs[k]?=some c→ps[k]?=some p→PRep w I c p:=by
 induction h with
 | nil=>intro k c p h;simp at h
 | cons h r ih =>
  intro k c p hc hp
  cases k with
  | zero=>cases hc;cases hp;exact h
  | succ k=>exact ih k c p hc hp
def contig (P:Program):Nat→List Field→Nat→Bool
 | o,[],n=>Nat.beq o n
 | o,f::r,n=>Nat.beq f.offset o&&contig P (o+P.cellsOf f.type) r n
/-- Types of pure values. -/
def pureT (P:Program):Nat→TypeId→Bool
 | 0,_=>false
 | n+1,t=>match P.underlying t with
  | some .bool=>true
  | some (.int _)=>true
  | some .string=>true
  | some (.slice e)=>pureT P n e&&Nat.blt 0 (P.cellsOf e)
  | some (.struct fs)=>contig P 0 fs.toList (P.cellsOf t)&&fs.toList.all fun f=>pureT P n f.type
  | _=>false
def ShF (S:TypeId→List PV→Prop) (c:TypeId→Nat):List Field→List PV→Prop
 | [],ps=>ps=[]
 | f::r,ps=>∃ a b,ps=a++b∧a.length=c f.type∧S f.type a∧ShF S c r b
/-- The shape of the pure values of a type. -/
def Sh (P:Program) (B:Nat):Nat→TypeId→List PV→Prop
 | 0,_,_=>False
 | n+1,t,ps=>match P.underlying t with
  | some .bool=>∃ b,ps=[.bool b]
  | some (.int k)=>∃ i,ps=[.int k i]∧(Lit.int k i).wf=true
  | some .string=>∃ s,ps=[.str s]∧s.size≤B
  | some (.slice e)=>∃ rows,ps=[.sl rows]∧rows.length≤B∧∀ r∈rows,r.length=P.cellsOf e∧Sh P B n e r
  | some (.struct fs)=>ShF (fun t ps=>Sh P B n t ps) P.cellsOf fs.toList ps
  | _=>False
abbrev Old (W:World):Nat→Prop:=fun b=>b < W.heap.size
theorem old_cell {W:World} {a:Addr} {v:Value} (h:W.cell? a=some v):a.spot=none∧Old W a.block:=by
 unfold World.cell? at h
 split at h
 ·next c t fr e =>
  refine⟨?_,(Array.getElem?_eq_some_iff.1 e).1⟩
  cases hs:a.spot with
  | none=>rfl
  | some k=>rw [hs] at h;simp at h
 cases h
section
variable {H:Type} {enc:TypeId×Value→H} {P:Program} {W:World} {B:Nat}
theorem contig_le {P:Program}:∀ {fs:List Field} {o n:Nat},contig P o fs n=true→o≤n
 | [],o,n,h=>Nat.le_of_eq (Nat.eq_of_beq_eq_true h)
 | f::fs,o,n,h=>by
  simp only [contig,Bool.and_eq_true] at h
  have:=contig_le h.2
  omega
/-- The fields of a struct, one after the other. -/
theorem fields_sh {m n:Nat} {cs:List Value} (hn:∀ (t:TypeId) (cs:List Value) (x:DataW H×List MemPlace),pureT P n t=true→DataW.trod enc P W 0 (fun _=>true) true m t cs=some x→Rows.uptoBulk x.1≤B→∃ ps,PL W (Old W) cs ps∧Sh P B n t ps) :
  ∀ (fs:List Field) (xs:List (DataW H×List MemPlace)) (o:Nat),contig P o fs cs.length=true→(fs.all fun f=>pureT P n f.type)=true→xs.length=fs.length →
   (∀ (i:Nat) (f:Field),fs[i]?=some f→DataW.trod enc P W 0 (fun _=>true) true m f.type ((cs.drop f.offset).take (P.cellsOf f.type))=xs[i]?)→Rows.uptoBulkAll (xs.map (·.1))≤B →
   ∃ ps,PL W (Old W) (cs.drop o) ps∧ShF (fun t ps=>Sh P B n t ps) P.cellsOf fs ps
 | [],xs,o,hc,_,hl,hx,hb=>by
  have:o=cs.length:=Nat.eq_of_beq_eq_true hc
  subst this
  exact⟨[],by rw [List.drop_length];exact .nil,rfl⟩
 | f::fs,[],o,hc,_,hl,hx,hb=>by simp at hl
 | f::fs,x::xs,o,hc,hp,hl,hx,hb=>by
  simp only [contig,Bool.and_eq_true] at hc
  have ho:f.offset=o:=Nat.eq_of_beq_eq_true hc.1
  simp only [List.all_cons,Bool.and_eq_true] at hp
  simp only [List.map_cons,Rows.uptoBulkAll] at hb
  have h0:=hx 0 f rfl
  simp only [List.getElem?_cons_zero] at h0
  rw [ho] at h0
  obtain ⟨a,a1,a2⟩:=hn f.type _ x hp.1 h0 (by omega)
  obtain ⟨b,b1,b2⟩:=fields_sh hn fs xs (o+P.cellsOf f.type) hc.2 hp.2 (by simpa using hl) (fun i g hg=>hx (i+1) g hg) (by omega)
  have hle:=contig_le hc.2
  have hal:a.length=P.cellsOf f.type:=by
   rw [← a1.length,List.length_take,List.length_drop];omega
  refine⟨a++b,?_,a,b,rfl,hal,a2,b2⟩
  have:=a1.append b1
  rwa [← List.drop_drop,List.take_append_drop] at this
/-- WHAT AN ARGUMENT OF SUCH A TYPE HOLDS. -/
theorem trod_sh:∀ (n:Nat) (t:TypeId),pureT P n t=true→∀ (m:Nat) (cs:List Value) (x:DataW H×List MemPlace),DataW.trod enc P W 0 (fun _=>true) true m t cs=some x→Rows.uptoBulk x.1≤B→∃ ps,PL W (Old W) cs ps∧Sh P B n t ps
 | 0,t,hp,m,cs,x,h,hb=>by cases hp
 | n + 1, t, hp, m, cs, x, h, hb => by
  unfold pureT at hp
  split at hp
  ·next ht =>
   obtain ⟨b,rfl,rfl⟩:=DataW.trod_bool ht h
   exact⟨[.bool b],.cons (.bool b) .nil,by unfold Sh;rw [ht];exact⟨b,rfl⟩⟩
  ·next k ht =>
   obtain ⟨i,rfl,rfl,hw⟩:=DataW.trod_int ht h
   exact⟨[.int k i],.cons (.int k i) .nil,by unfold Sh;rw [ht];exact⟨i,rfl,hw⟩⟩
  ·next ht =>
   obtain ⟨s,rfl,rfl,hs⟩:=DataW.trod_string ht h
   have hsz:s.size≤B:=by
    have e1:s.data.toList.length=s.size:=Array.length_toList
    simp only [Rows.uptoBulk] at hb
    omega
   exact⟨[.str s],.cons (.str s) .nil,by unfold Sh;rw [ht];exact⟨s,rfl,hsz⟩⟩
  ·next e ht =>
   simp only [Bool.and_eq_true,Nat.blt_eq] at hp
   obtain ⟨hpe,hsz⟩:=hp
   rcases DataW.trod_slice ht h with⟨rfl,rfl⟩|⟨a,len,cap,elems,rest,m',rfl,rfl,rfl,_,hlc,hmax,hlen,hel,hre,_⟩
   ·exact⟨[.sl []],.cons .nilsl .nil,by unfold Sh;rw [ht];exact⟨[],rfl,by simp,by simp⟩⟩
   obtain ⟨hrl,hre⟩:=hre rfl
   simp only [Rows.uptoBulk] at hb
   rcases Nat.eq_zero_or_pos cap with hc0|hcpos
   ·have hl0:len=0:=by omega
    subst hl0 hc0
    exact⟨[.sl []],.cons (.empsl a) .nil,by unfold Sh;rw [ht];exact⟨[],rfl,by simp,by simp⟩⟩
   have hcell:∃ v,W.cell? a=some v:=by
    rcases Nat.eq_zero_or_pos len with hl0|hlp
    ·subst hl0
     have h0:=hre 0 (by omega)
     have hr0:=List.getElem?_eq_getElem (l:=rest) (i:=0) (by omega)
     rw [hr0,Option.bind_eq_some_iff] at h0
     obtain ⟨c0,q1,_⟩:=h0
     obtain ⟨_,q2,q3⟩:=World.cells?_some q1
     have:=q3 0 hsz
     simp only [Nat.add_zero,Nat.zero_mul] at this
     rw [Addr.add_zero',Addr.add_zero',List.getElem?_eq_getElem (by omega)] at this
     exact⟨_,this⟩
    have h0:=hel 0 hlp
    have hr0:=List.getElem?_eq_getElem (l:=elems) (i:=0) (by omega)
    rw [hr0,Option.bind_eq_some_iff] at h0
    obtain ⟨c0,q1,_⟩:=h0
    obtain ⟨_,q2,q3⟩:=World.cells?_some q1
    have:=q3 0 hsz
    simp only [Nat.zero_mul] at this
    rw [Addr.add_zero',Addr.add_zero',List.getElem?_eq_getElem (by omega)] at this
    exact⟨_,this⟩
   obtain ⟨v0,hv0⟩:=hcell
   obtain ⟨hspot,hold⟩:=old_cell hv0
   obtain ⟨b,off,sp⟩:=a
   simp only at hspot hold
   subst hspot
   have hrow:∀ i,i < len→∃ ps:List PV,∃ ci,W.cells? 0 (Addr.add ⟨b,off,none⟩ (i*P.cellsOf e)) (P.cellsOf e)=some ci∧PL W (Old W) ci ps∧Sh P B n e ps:=by
    intro i hi
    have h0:=hel i hi
    have hr0:=List.getElem?_eq_getElem (l:=elems) (i:=i) (by omega)
    rw [hr0,Option.bind_eq_some_iff] at h0
    obtain ⟨ci,q1,q2⟩:=h0
    have hbi:Rows.uptoBulk (elems[i]'(by omega)).1≤B:=by
     have:=bulk_mem (List.mem_map_of_mem (f:=fun x:DataW H×List MemPlace=>x.1) (List.getElem_mem (l:=elems) (n:=i) (by omega)))
     omega
    obtain ⟨ps,s1,s2⟩:=trod_sh n e hpe m' ci _ q2 hbi
    exact⟨ps,ci,q1,s1,s2⟩
   obtain ⟨rows,r1,r2⟩:∃ rows:List (List PV),rows.length=len∧∀ i r,rows[i]?=some r→∃ ci,W.cells? 0 (Addr.add ⟨b,off,none⟩ (i*P.cellsOf e)) (P.cellsOf e)=some ci∧PL W (Old W) ci r∧Sh P B n e r:=by
    refine⟨(List.range len).map (fun i=>if h:i < len then(hrow i h).choose else[]),by simp,fun i r hr=>?_⟩
    rw [List.getElem?_map] at hr
    obtain ⟨j,hj,rfl⟩:=Option.map_eq_some_iff.1 hr
    obtain ⟨hlt,hj⟩:=List.getElem?_eq_some_iff.1 hj
    rw [List.getElem_range] at hj
    subst hj
    have hi:i < len:=by simpa using hlt
    rw [dif_pos hi]
    exact(hrow i hi).choose_spec
   have hcl:∀ (i:Nat) (r:List PV),rows[i]?=some r→r.length=P.cellsOf e:=fun i r hr=>by
    obtain ⟨ci,c1,c2,c3⟩:=r2 i r hr
    rw [← c2.length]
    exact(World.cells?_some c1).2.1
   refine⟨[.sl rows],.cons ?_ .nil,by
    unfold Sh;rw [ht]
    refine⟨rows,rfl,?_,fun r hr=>?_⟩
    ·have:=bulk_len (elems.map (·.1))
     simp only [List.length_map] at this
     omega
    obtain ⟨i,hi⟩:=List.mem_iff_getElem?.1 hr
    obtain ⟨ci,c1,c2,c3⟩:=r2 i r hi
    exact⟨hcl i r hi,c3⟩⟩
   rw [← r1]
   have hcells:∀ (i:Nat) (r:List PV),rows[i]?=some r→∀ (k:Nat) (p:PV),r[k]?=some p→∃ v,W.cell? ⟨b,off+i*P.cellsOf e+k,none⟩=some v∧PRep W (Old W) v p:=by
    intro i r hr k p hk
    obtain ⟨ci,c1,c2,c3⟩:=r2 i r hr
    obtain ⟨_,d1,d2⟩:=World.cells?_some c1
    have hkl:k < P.cellsOf e:=by rw [← hcl i r hr];exact(List.getElem?_eq_some_iff.1 hk).1
    have e1:=d2 k hkl
    rw [Addr.add_lit,Addr.add_lit] at e1
    have e2:ci[k]?=some (ci[k]'(by omega)):=List.getElem?_eq_getElem (by omega)
    exact⟨_,e1.trans e2,c2.get k _ p e2 hk⟩
   refine PRep.sl b off cap (P.cellsOf e) rows (fun i k=>(W.cell? ⟨b,off+i*P.cellsOf e+k,none⟩).getD undef) hold hsz (fun r hr=>?_) (by omega) (fun i r hr k p hk=>?_) (fun i r hr k p hk=>?_)
   ·obtain ⟨i,hi⟩:=List.mem_iff_getElem?.1 hr
    exact hcl i r hi
   ·obtain ⟨v,v1,v2⟩:=hcells i r hr k p hk
    simp [v1]
   obtain ⟨v,v1,v2⟩:=hcells i r hr k p hk
   simp [v1,v2]
  ·next fs ht =>
   simp only [Bool.and_eq_true] at hp
   obtain ⟨xs,m',rfl,rfl,hl,hxl,hf⟩:=DataW.trod_struct ht h
   simp only [Rows.uptoBulk] at hb
   obtain ⟨ps,p1,p2⟩:=fields_sh (n:=n) (m:=m') (B:=B) (fun t cs x a b c=>trod_sh n t a m' cs x b c) fs.toList xs 0 (by rw [hl];exact hp.1) hp.2 (by simpa using hxl) (fun i f hi=>hf i f (by simpa using hi)) (by omega)
   exact⟨ps,by simpa using p1,by unfold Sh;rw [ht];exact p2⟩
  cases hp
end
end
end Go.Abs
namespace Go.Abs
open Go.Proofs.YtlnfjkdacimblaaGreatDoor Go.ChangeShapes Go.WideShapes Go.ChangeAt Go.RowKit
section
/-- The argument's abstract value. -/
def argAV (P:Program) (t:TypeId) (ps:List PV):AV :=
 match P.underlying t with
 | some (.struct _)=>.agg (ps.map .pv)
 | _=>match ps with
  | [p]=>.pv p
  | _=>.any
section
variable {H:Type} {enc:TypeId×Value→H} {P:Program} {W:World} {B:Nat}
theorem PL.toV {I:Nat→Prop} {ι:Plc} {Hp:Heap} {cs:List Value} {ps:List PV} (h:PL W I cs ps) (i:Nat) (v:Value) (a:AV) (h1:cs[i]?=some v) (h2:(ps.map AV.pv)[i]?=some a):VRel W I ι Hp v a∧v.oneCell'=true:=by
 rw [List.getElem?_map] at h2
 obtain ⟨p,hp,rfl⟩:=Option.map_eq_some_iff.1 h2
 have:=h.get i v p h1 hp
 exact⟨.pv this,this.oneCell⟩
theorem okOne {n:Nat} {t:TypeId} {v:Value} {base:Nat} (hp:pureT P n t=true) (hval:Value.okWide P W .any base t v) (hno:∀ fs,P.underlying t=some (.struct fs)→False):v.cells.toList=[v]:=by
 cases n with
 | zero=>cases hp
 | succ n =>
  unfold pureT at hp
  unfold Value.okWide at hval
  split at hp
  ·next ht=>cases v<;>first|rfl|(simp [Cell.okWide,Cell.ok,ht] at hval)
  ·next k ht=>cases v<;>first|rfl|(simp [Cell.okWide,Cell.ok,ht] at hval)
  ·next ht=>cases v<;>first|rfl|(simp [Cell.okWide,Cell.ok,ht] at hval)
  ·next e ht=>cases v<;>first|rfl|(simp [Cell.okWide,Cell.ok,ht] at hval)
  ·next fs ht=>exact(hno fs ht).elim
  cases hp
theorem arg_rel {n:Nat} {t:TypeId} {v:Value} {d:DataW H} {p:List MemPlace} {base:Nat} (ι:Plc) (Hp:Heap) (hp:pureT P n t=true) (hval:Value.okWide P W .any base t v) (h:DataW.Trod enc P W 0 (fun _=>true) true t v d p) (hb:Rows.uptoBulk d≤B) :
  ∃ ps,Sh P B n t ps∧VRel W (Old W) ι Hp v (argAV P t ps):=by
 obtain ⟨m,hm⟩:=h
 obtain ⟨ps,h1,h2⟩:=trod_sh (B:=B) n t hp m _ _ hm hb
 refine⟨ps,h2,?_⟩
 unfold argAV
 split
 ·next fs ht =>
  unfold Value.okWide at hval
  rw [ht] at hval
  obtain ⟨cs,rfl,_,_⟩:=hval
  have hl:=h1.length
  simp only [Value.cells,Array.length_toList] at hl
  refine .agg (by simpa using hl) (fun i v hv=>?_) (fun i v a hv ha=>?_)
  ·have hlt:=(Array.getElem?_eq_some_iff.1 hv).1
   exact(PL.toV (ι:=ι) (Hp:=Hp) h1 i v (.pv (ps[i]'(by omega))) (by simpa [Value.cells] using hv) (by rw [List.getElem?_map,List.getElem?_eq_getElem (by omega)];rfl)).2
  exact(PL.toV h1 i v a (by simpa [Value.cells] using hv) ha).1
 next hno =>
 split
 ·next q =>
  have hone:=okOne hp hval (fun fs h=>hno fs h)
  rw [hone] at h1
  exact(PL.toV h1 0 _ _ rfl rfl).1
 exact .any v
def avsOf (P:Program):List TypeId→List (List PV)→List AV
 | t::ts,p::ps=>argAV P t p::avsOf P ts ps
 | _,_=>[]
def ShAll (P:Program) (B n:Nat):List TypeId→List (List PV)→Prop
 | [],[]=>True
 | t::ts,p::ps=>Sh P B n t p∧ShAll P B n ts ps
 | _,_=>False
theorem shAll_nil {n:Nat} {pss:List (List PV)} (h:ShAll P B n [] pss):pss=[]:=by
 cases pss with
 | nil=>rfl
 | cons p ps=>exact h.elim
theorem shAll_cons {n:Nat} {t:TypeId} {ts:List TypeId} {pss:List (List PV)} (h:ShAll P B n (t::ts) pss):∃ p ps,pss=p::ps∧Sh P B n t p∧ShAll P B n ts ps:=by
 cases pss with
 | nil=>exact h.elim
 | cons p ps=>exact⟨p,ps,rfl,h.1,h.2⟩
theorem args_rel {n:Nat} {base:Nat} (ι:Plc) (Hp:Heap):∀ {ts:List TypeId} {vs:List Value} {ds:List (DataW H)} {p:List MemPlace},DataW.TrodAll enc P W 0 (fun _=>true) true ts vs ds p→ts.all (pureT P n)=true →
  (∀ (j:Nat) t v,ts[j]?=some t→vs[j]?=some v→Value.okWide P W .any base t v)→Rows.uptoBulkAll ds≤B →
  ∃ pss,ShAll P B n ts pss∧vs.length=(avsOf P ts pss).length∧∀ (i:Nat) (v:Value) (a:AV),vs[i]?=some v→(avsOf P ts pss)[i]?=some a→VRel W (Old W) ι Hp v a
 | [],vs,ds,p,h,hp,hv,hb=>by
  obtain ⟨rfl,rfl,rfl⟩:=trodAll_nil h
  exact⟨[],trivial,rfl,fun i v a h=>by simp at h⟩
 | t::ts,vs,ds,p,h,hp,hv,hb=>by
  obtain ⟨v,vs',d,ds',p1,p2,rfl,rfl,rfl,h1,h2⟩:=trodAll_cons h
  simp only [List.all_cons,Bool.and_eq_true] at hp
  simp only [Rows.uptoBulkAll] at hb
  obtain ⟨ps,a1,a2⟩:=arg_rel (B:=B) ι Hp hp.1 (hv 0 t v rfl rfl) h1 (by omega)
  obtain ⟨pss,b1,b2,b3⟩:=args_rel ι Hp h2 hp.2 (fun j t v h1 h2=>hv (j+1) t v h1 h2) (by omega)
  refine⟨ps::pss,⟨a1,b1⟩,by simp [avsOf,b2],fun i v a h1 h2=>?_⟩
  cases i with
  | zero=>cases h1;cases h2;exact a2
  | succ i=>exact b3 i v a h1 h2
theorem rel_old (ι:Plc) (W:World) (hg:GInv (Old W) W):Rel (Old W) ι [] W:=⟨fun _ h=>h,fun _ _ h=>(by cases h),fun _ _ _ _ _ _ _ h=>(by cases h),hg⟩
theorem below_step {I I':Nat→Prop} {ι ι':Plc} {H':Heap} {w w':World} (h:Step I ι [] w I' ι' H' w'):Below w.heap.size w w' :=
 ⟨h.os,h.tape,h.output,h.size,fun k hk=>h.keep k hk (fun⟨_,_,_,hx,_⟩=>by cases hx)⟩
theorem args_below (hl:laidOutB P=true) {W':World} (hb:Below W.heap.size W W') {sp:Nat→Bool}:∀ {ts:List TypeId} {vs:List Value} {ds:List (DataW H)} {p:List MemPlace},DataW.TrodAll enc P W 0 (fun _=>true) true ts vs ds p →
  (ts.all fun t=>P.readableRec t&&Nat.blt t P.types.size)=true→(∀ x∈p,x.block < W.heap.size)→(∀ x∈p,sp x.block=true)→DataW.TrodAll enc P W' 0 sp true ts vs ds p
 | [],vs,ds,p,h,hp,hlt,hsp=>by
  obtain ⟨rfl,rfl,rfl⟩:=trodAll_nil h
  exact trodAll_mk0
 | t::ts,vs,ds,p,h,hp,hlt,hsp=>by
  obtain ⟨v,vs',d,ds',p1,p2,rfl,rfl,rfl,h1,h2⟩:=trodAll_cons h
  simp only [List.all_cons,Bool.and_eq_true,Nat.blt_eq] at hp
  exact trodAll_cons_mk (WideElems.Trod_stays hl hp.1.1 hp.1.2 h1 (fun x hx=>hb.same (hlt x (by simp [hx]))) (fun x hx=>hsp x (by simp [hx])))
   (args_below hl hb h2 hp.2 (fun x hx=>hlt x (by simp [hx])) (fun x hx=>hsp x (by simp [hx])))
/-- 'post_of_same', the marks asked of old blocks alone. -/
theorem post_below {f:Func} {s:ChangeSpec} {apart fresh handsOn again:Bool} {W W':World} {args:Array Value} {v:Value} {ds gs:List (DataW H)} {before pa pv:List MemPlace}
  (hW:DataW.Whole enc P f.params.toList s.vars apart W args.toList ds gs before)
  (hres:∀ (b:Nat) (sp:Nat→Bool) (hd:Bool),DataW.TrodAll enc P W' b sp hd f.resultTypes.toList (v.resultList f.resultTypes.size) (s.fn H (ds++gs)).results [])
  (hargs:∀ sp:Nat→Bool,(∀ p∈before,sp p.block=true)→DataW.TrodAll enc P W' 0 sp true f.params.toList args.toList (s.fn H (ds++gs)).args pa)
  (hvars:∀ sp:Nat→Bool,(∀ p∈before,sp p.block=true)→DataW.TrodVars enc P W' sp s.vars (s.fn H (ds++gs)).vars pv)
  (hps:before=pa++pv) (hb:Below W.heap.size W W')
  (hok:∀ (j:Nat) (t:TypeId) (r:Value),f.resultTypes[j]?=some t→(v.resultList f.resultTypes.size)[j]?=some r→Value.okWide P W' .any 0 t r) :
  s.post enc P f apart fresh handsOn again W args v W':=by
 have hlt:∀ p∈before,p.block < W.heap.size:=fun p hp=>hW.lt p hp
 have hold:∀ p∈before,(fun b=>decide (b < W.heap.size)) p.block=true:=fun p hp=>by simpa using hlt p hp
 refine⟨ds,gs,before,[],pa,pv,hW,hres _ _ _,hargs _ hold,hvars _ hold,World.keptBut_mono (fun p hp=>⟨hp,?_⟩) (hb.frame (·∈before)),fun _=>?_⟩
 ·rw [hps,List.mem_append] at hp
  exact Or.inr hp
 obtain ⟨_,_,_,_,_,hz,hn⟩:=hW
 refine⟨hok,_,_,([]++pa)++pv,⟨[]++pa,pv,trodAll_append (hargs _ (fun _ _=>rfl)) (hres _ _ _),hvars _ (fun _ _=>rfl),rfl,?_,?_⟩,?_⟩
 ·intro b off hp
  have hin:MemPlace.cell b off∈before:=by rw [hps];simpa using hp
  rw [hb.frozen (hlt _ hin)]
  exact hz b off hin
 ·intro ha
  have:=hn ha
  rw [hps] at this
  simpa using this
 intro p hp _
 rw [hps]
 simpa using hp
/-- A LAW THAT ANSWERS true IN THE ABSTRACT LOGIC MEETS ITS ROW. -/
theorem law_true {n:Nat} {fid:FuncId} {f:Func} {s:ChangeSpec} {apart fresh handsOn again:Bool} {args:Array Value} {ds gs:List (DataW H)} {before:List MemPlace} {base:Nat} {bt:TypeId}
  (hl:laidOutB P=true) (hpar:(f.params.toList.all fun t=>P.readableRec t&&Nat.blt t P.types.size)=true) (hpure:f.params.toList.all (pureT P n)=true) (hvars:s.vars=[])
  (hfn:∀ ds:List (DataW H),ds.length=f.params.toList.length→(s.fn H ds).results=[.lit (.bool true)]∧(s.fn H ds).args=ds∧(s.fn H ds).vars=[])
  (hres:f.resultTypes=#[bt]) (hbt:P.underlying bt=some .bool)
  (hval:∀ (j:Nat) t v,f.params[j]?=some t→args[j]?=some v→Value.okWide P W .any base t v)
  (hW:DataW.Whole enc P f.params.toList s.vars apart W args.toList ds gs before) (hB:Rows.uptoBulkAll ds≤B)
  (hc:∀ pss,ShAll P B n f.params.toList pss→ACalls P fid (avsOf P f.params.toList pss) [] (fun r H'=>r=.pv (.bool true)∧H'=[])) (hg:GInv (Old W) W:=by exact fun p hp=>by cases hp) :
  Calls P fid args W fun e W'=>∃ v,e=.returned v∧s.post enc P f apart fresh handsOn again W args v W':=by
 have hW':=hW
 obtain ⟨p,q,hA,hV,rfl,hfz,hnd⟩:=hW
 rw [hvars] at hV
 obtain ⟨rfl,rfl⟩:=trodVars_none hV
 obtain ⟨pss,h1,h2,h3⟩:=args_rel (B:=B) (base:=base) (fun _=>none) [] hA hpure (fun j t v ht hv=>hval j t v (by simpa using ht) (by simpa using hv)) hB
 have hlen:ds.length=f.params.toList.length:=by
  clear h1 h2 h3 hc hfn hpar hpure hval hW' hB hfz hnd
  revert hA
  generalize f.params.toList=ts
  generalize args.toList=vs
  intro hA
  clear hV
  induction ts generalizing vs ds p with
  | nil=>obtain ⟨_,rfl,_⟩:=trodAll_nil hA;rfl
  | cons t ts ih =>
   obtain ⟨v,vs',d,ds',p1,p2,_,rfl,_,_,h2⟩:=trodAll_cons hA
   simp [ih _ _ h2]
 refine(hc pss h1 (Old W) (fun _=>none) W args (rel_old _ W hg) (by simpa using h2) (fun i v a ha hb=>h3 i v a (by simpa using ha) hb)).mono ?_
 rintro e W' ⟨r,H',I',ι',v,rfl,⟨rfl,rfl⟩,hv,hr,hst⟩
 have hvb:v=.bool true:=hv.bool_inv
 subst hvb
 have hbel:=below_step hst
 obtain ⟨f1,f2,f3⟩:=hfn (ds++[]) (by simpa using hlen)
 refine⟨_,rfl,post_below (pa:=p) (pv:=[]) hW' (fun b sp hd=>?_) (fun sp hsp=>?_) (fun sp hsp=>?_) rfl hbel (ok_one hres rfl (okWide_bool_mk hbt _))⟩
 ·rw [f1,hres]
  exact trodAll_cons_mk (shut_bool hbt _) trodAll_mk0
 ·rw [f2,List.append_nil]
  exact args_below hl hbel hA hpar (fun x hx=>hW'.lt x (by simp [hx])) (fun x hx=>hsp x (by simp [hx]))
 rw [f3,hvars];rfl
/-! ### shapes, taken apart -/
theorem sh_int {n:Nat} {t:TypeId} {k:IntKind} {ps:List PV} (ht:P.underlying t=some (.int k)) (h:Sh P B (n+1) t ps):∃ i,ps=[.int k i]∧(Lit.int k i).wf=true:=by unfold Sh at h;rw [ht] at h;exact h
theorem sh_str {n:Nat} {t:TypeId} {ps:List PV} (ht:P.underlying t=some .string) (h:Sh P B (n+1) t ps):∃ s,ps=[.str s]∧s.size≤B:=by unfold Sh at h;rw [ht] at h;exact h
theorem sh_struct {n:Nat} {t:TypeId} {fs:Array Field} {ps:List PV} (ht:P.underlying t=some (.struct fs)) (h:Sh P B (n+1) t ps):ShF (fun t ps=>Sh P B n t ps) P.cellsOf fs.toList ps:=by unfold Sh at h;rw [ht] at h;exact h
theorem sh_rows {n:Nat} {t e:TypeId} {ps:List PV} {α:Type} {f:α→List PV} {good:α→Prop} (ht:P.underlying t=some (.slice e)) (h:Sh P B (n+1) t ps) (hd:∀ r,Sh P B n e r→∃ a,r=f a∧good a) :
  ∃ l:List α,ps=[.sl (l.map f)]∧l.length≤B∧∀ a,a∈l→good a:=by
 unfold Sh at h;rw [ht] at h
 obtain ⟨rows,rfl,hlen,hr⟩:=h
 obtain ⟨l,h1,h2⟩:∃ l:List α,rows=l.map f∧∀ a,a∈l→good a:=by
  clear hlen
  induction rows with
  | nil=>exact⟨[],rfl,by simp⟩
  | cons r rs ih =>
   obtain ⟨l,h1,h2⟩:=ih (fun r h=>hr r (by simp [h]))
   obtain ⟨a,a1,a2⟩:=hd r (hr r (by simp)).2
   refine⟨a::l,by simp [a1,h1],fun b hb=>?_⟩
   rcases List.mem_cons.1 hb with e|e
   ·subst e;exact a2
   exact h2 b e
 subst h1
 exact⟨l,rfl,by simpa using hlen,h2⟩
end
end
end Go.Abs
namespace Go.Proofs.YtlnfjkdacimblaaGreatDoor
open Go.Abs
section
theorem zo3:ZeroOf Tryz.prog 3 [.pv (.int .i64 0)]:=⟨_,_,Tryz.zeroValue3,.inl rfl,rfl⟩
theorem zo9:ZeroOf Tryz.prog 9 [.pv (.str ⟨#[]⟩)]:=⟨_,_,Tryz.zeroValue9,.inl rfl,rfl⟩
theorem zoN22:ZeroOf Tryz.prog 22 [.pv .nils]:=⟨_,_,Tryz.zeroValue22,.inr rfl,rfl⟩
theorem so22:SliceOf Tryz.prog 22 51 15:=⟨Tryz.underlying22,Tryz.sizeOf51,by decide,_,Tryz.zeroValue51⟩
theorem ei51:EI Tryz.prog 51 15 216:=EI.mk (z:=(Value.agg #[(Value.int IntKind.i64 (0)),(Value.string ⟨#[]⟩),(Value.string ⟨#[]⟩),(Value.string ⟨#[]⟩),(Value.int IntKind.i64 (0)),(Value.int IntKind.i64 (0)),(Value.string ⟨#[]⟩),(Value.string ⟨#[]⟩),(Value.slice none (0) (0)),(Value.string ⟨#[]⟩),(Value.int IntKind.i64 (0)),(Value.int IntKind.i64 (0)),(Value.int IntKind.i64 (0)),(Value.slice none (0) (0)),(Value.slice none (0) (0))])) (by kernel_rfl) rfl (by decide) (by decide)
theorem zo25:ZeroOf Tryz.prog 25 [.pv (.int .i64 0)]:=⟨_,_,Tryz.zeroValue25,.inl rfl,rfl⟩
theorem so33:SliceOf Tryz.prog 33 42 1:=⟨Tryz.underlying33,Tryz.sizeOf42,by decide,_,Tryz.zeroValue42⟩
theorem ei42:EI Tryz.prog 42 1 24:=EI.mk (z:=(Value.slice none (0) (0))) (by kernel_rfl) rfl (by decide) (by decide)
theorem so36:SliceOf Tryz.prog 36 49 6:=⟨Tryz.underlying36,Tryz.sizeOf49,by decide,_,Tryz.zeroValue49⟩
theorem ei49:EI Tryz.prog 49 6 88:=EI.mk (z:=(Value.agg #[(Value.string ⟨#[]⟩),(Value.int IntKind.i64 (0)),(Value.int IntKind.i64 (0)),(Value.int IntKind.i64 (0)),(Value.slice none (0) (0)),(Value.slice none (0) (0))])) (by kernel_rfl) rfl (by decide) (by decide)
theorem zo38:ZeroOf Tryz.prog 38 [.pv (.sl [])]:=⟨_,_,Tryz.zeroValue38,.inl rfl,rfl⟩
theorem zoN38:ZeroOf Tryz.prog 38 [.pv .nils]:=⟨_,_,Tryz.zeroValue38,.inr rfl,rfl⟩
theorem fo38_0:FieldOf Tryz.prog 38 0 0:=by
 refine⟨_,_,0,Tryz.underlying38,rfl,rfl,?_⟩
 exact Tryz.sizeOf36
theorem bo38:BuildOf Tryz.prog 38 [(0,1)] [.pv (.sl [])]:=⟨_,#[(0,1)],_,_,Tryz.underlying38,Tryz.zeroValue38,.inl rfl,rfl,fun w=>by simp [Tryz.sizeOf36],rfl⟩
theorem so42:SliceOf Tryz.prog 42 3 1:=⟨Tryz.underlying42,Tryz.sizeOf3,by decide,_,Tryz.zeroValue3⟩
theorem ei3:EI Tryz.prog 3 1 8:=EI.mk (z:=(Value.int IntKind.i64 (0))) (by kernel_rfl) rfl (by decide) (by decide)
theorem fo45_0:FieldOf Tryz.prog 45 0 0:=by
 refine⟨_,_,0,Tryz.underlying45,rfl,rfl,?_⟩
 exact Tryz.sizeOf3
theorem fo45_1:FieldOf Tryz.prog 45 1 1:=by
 refine⟨_,_,0,Tryz.underlying45,rfl,rfl,?_⟩
 exact Tryz.sizeOf3
theorem bo45:BuildOf Tryz.prog 45 [(0,1),(1,1)] [.pv (.int .i64 0),.pv (.int .i64 0)]:=⟨_,#[(0,1),(1,1)],_,_,Tryz.underlying45,Tryz.zeroValue45,.inl rfl,rfl,fun w=>by simp [Tryz.sizeOf3],rfl⟩
theorem se45 (a0 b0:Int) (a1 b1:Int) (w:World):(Op.equalIn 10000 45 (.agg [.int .i64 a0,.int .i64 a1].toArray) (.agg [.int .i64 b0,.int .i64 b1].toArray)).run Tryz.prog w=.ok (decide (a0=b0)&&decide (a1=b1)) w:=by
 refine(run_equalIn_struct (P:=Tryz.prog) w 9999 45 _ _ (by simp [Program.fieldsOf,Tryz.underlying45]) Tryz.stoodInHeld45).trans ?_
 have h3:∀ (d:Nat) (a b:Int) (w:World),(Op.equalIn (d+1) 3 (.int .i64 a) (.int .i64 b)).run Tryz.prog w=.ok (decide (a=b)) w:=fun d a b w=>by rw [run_equalIn_int w d 3 _ _ a b Tryz.underlying3];by_cases h:a=b<;>simp [h]
 by_cases e0:a0=b0<;>by_cases e1:a1=b1<;>simp [Program.fieldsOf,Tryz.underlying45,Op.eqFields,part,h3,Tryz.isAgg3,e0,e1]
theorem so46:SliceOf Tryz.prog 46 9 1:=⟨Tryz.underlying46,Tryz.sizeOf9,by decide,_,Tryz.zeroValue9⟩
theorem ei9:EI Tryz.prog 9 1 16:=EI.mk (z:=(Value.string ⟨#[]⟩)) (by kernel_rfl) rfl (by decide) (by decide)
theorem so47:SliceOf Tryz.prog 47 117 2:=⟨Tryz.underlying47,Tryz.sizeOf117,by decide,_,Tryz.zeroValue117⟩
theorem zo49:ZeroOf Tryz.prog 49 [.pv (.str ⟨#[]⟩),.pv (.int .i64 0),.pv (.int .i64 0),.pv (.int .i64 0),.pv (.sl []),.pv (.sl [])]:=⟨_,_,Tryz.zeroValue49,.inl rfl,rfl⟩
theorem fo49_0:FieldOf Tryz.prog 49 0 0:=by
 refine⟨_,_,0,Tryz.underlying49,rfl,rfl,?_⟩
 exact Tryz.sizeOf9
theorem fo49_1:FieldOf Tryz.prog 49 1 1:=by
 refine⟨_,_,0,Tryz.underlying49,rfl,rfl,?_⟩
 exact Tryz.sizeOf3
theorem fo49_2:FieldOf Tryz.prog 49 2 2:=by
 refine⟨_,_,1,Tryz.underlying49,rfl,rfl,?_⟩
 exact Tryz.sizeOf45
theorem fo49_3:FieldOf Tryz.prog 49 3 4:=by
 refine⟨_,_,0,Tryz.underlying49,rfl,rfl,?_⟩
 exact Tryz.sizeOf46
theorem fo49_4:FieldOf Tryz.prog 49 4 5:=by
 refine⟨_,_,0,Tryz.underlying49,rfl,rfl,?_⟩
 exact Tryz.sizeOf47
theorem bo49:BuildOf Tryz.prog 49 [(0,1),(1,1),(2,2),(4,1),(5,1)] [.pv (.str ⟨#[]⟩),.pv (.int .i64 0),.pv (.int .i64 0),.pv (.int .i64 0),.pv (.sl []),.pv (.sl [])]:=⟨_,#[(0,1),(1,1),(2,2),(4,1),(5,1)],_,_,Tryz.underlying49,Tryz.zeroValue49,.inl rfl,rfl,fun w=>by simp [Tryz.sizeOf3,Tryz.sizeOf9,Tryz.sizeOf45,Tryz.sizeOf46,Tryz.sizeOf47],rfl⟩
theorem zo51:ZeroOf Tryz.prog 51 [.pv (.int .i64 0),.pv (.str ⟨#[]⟩),.pv (.str ⟨#[]⟩),.pv (.str ⟨#[]⟩),.pv (.int .i64 0),.pv (.int .i64 0),.pv (.str ⟨#[]⟩),.pv (.str ⟨#[]⟩),.pv (.sl []),.pv (.str ⟨#[]⟩),.pv (.int .i64 0),.pv (.int .i64 0),.pv (.int .i64 0),.pv (.sl []),.pv (.sl [])]:=⟨_,_,Tryz.zeroValue51,.inl rfl,rfl⟩
theorem fo51_0:FieldOf Tryz.prog 51 0 0:=by
 refine⟨_,_,0,Tryz.underlying51,rfl,rfl,?_⟩
 exact Tryz.sizeOf3
theorem fo51_1:FieldOf Tryz.prog 51 1 1:=by
 refine⟨_,_,0,Tryz.underlying51,rfl,rfl,?_⟩
 exact Tryz.sizeOf9
theorem fo51_2:FieldOf Tryz.prog 51 2 2:=by
 refine⟨_,_,0,Tryz.underlying51,rfl,rfl,?_⟩
 exact Tryz.sizeOf9
theorem fo51_3:FieldOf Tryz.prog 51 3 3:=by
 refine⟨_,_,0,Tryz.underlying51,rfl,rfl,?_⟩
 exact Tryz.sizeOf9
theorem fo51_4:FieldOf Tryz.prog 51 4 4:=by
 refine⟨_,_,1,Tryz.underlying51,rfl,rfl,?_⟩
 exact Tryz.sizeOf45
theorem fo51_5:FieldOf Tryz.prog 51 5 6:=by
 refine⟨_,_,0,Tryz.underlying51,rfl,rfl,?_⟩
 exact Tryz.sizeOf9
theorem fo51_6:FieldOf Tryz.prog 51 6 7:=by
 refine⟨_,_,0,Tryz.underlying51,rfl,rfl,?_⟩
 exact Tryz.sizeOf9
theorem fo51_7:FieldOf Tryz.prog 51 7 8:=by
 refine⟨_,_,0,Tryz.underlying51,rfl,rfl,?_⟩
 exact Tryz.sizeOf46
theorem fo51_8:FieldOf Tryz.prog 51 8 9:=by
 refine⟨_,_,5,Tryz.underlying51,rfl,rfl,?_⟩
 exact Tryz.sizeOf49
theorem bo51:BuildOf Tryz.prog 51 [(0,1),(1,1),(2,1),(3,1),(4,2),(6,1),(7,1),(8,1),(9,6)] [.pv (.int .i64 0),.pv (.str ⟨#[]⟩),.pv (.str ⟨#[]⟩),.pv (.str ⟨#[]⟩),.pv (.int .i64 0),.pv (.int .i64 0),.pv (.str ⟨#[]⟩),.pv (.str ⟨#[]⟩),.pv (.sl []),.pv (.str ⟨#[]⟩),.pv (.int .i64 0),.pv (.int .i64 0),.pv (.int .i64 0),.pv (.sl []),.pv (.sl [])]:=⟨_,#[(0,1),(1,1),(2,1),(3,1),(4,2),(6,1),(7,1),(8,1),(9,6)],_,_,Tryz.underlying51,Tryz.zeroValue51,.inl rfl,rfl,fun w=>by simp [Tryz.sizeOf3,Tryz.sizeOf9,Tryz.sizeOf45,Tryz.sizeOf46,Tryz.sizeOf49],rfl⟩
theorem so52:SliceOf Tryz.prog 52 5 1:=⟨Tryz.underlying52,Tryz.sizeOf5,by decide,_,Tryz.zeroValue5⟩
theorem ei5:EI Tryz.prog 5 1 1:=EI.mk (z:=(Value.int IntKind.u8 (0))) (by kernel_rfl) rfl (by decide) (by decide)
theorem zoN62:ZeroOf Tryz.prog 62 [.pv .nilp,.pv .nils]:=⟨_,_,Tryz.zeroValue62,.inr rfl,rfl⟩
theorem fo62_0:FieldOf Tryz.prog 62 0 0:=by
 refine⟨_,_,0,Tryz.underlying62,rfl,rfl,?_⟩
 exact Tryz.sizeOf60
theorem fo62_1:FieldOf Tryz.prog 62 1 1:=by
 refine⟨_,_,0,Tryz.underlying62,rfl,rfl,?_⟩
 exact Tryz.sizeOf52
theorem fo82_0:FieldOf Tryz.prog 82 0 0:=by
 refine⟨_,_,0,Tryz.underlying82,rfl,rfl,?_⟩
 exact Tryz.sizeOf42
theorem fo82_1:FieldOf Tryz.prog 82 1 1:=by
 refine⟨_,_,0,Tryz.underlying82,rfl,rfl,?_⟩
 exact Tryz.sizeOf80
theorem boN82:BuildOf Tryz.prog 82 [(0,1),(1,1)] [.pv .nils,.pv .nilm]:=⟨_,#[(0,1),(1,1)],_,_,Tryz.underlying82,Tryz.zeroValue82,.inr rfl,rfl,fun w=>by simp [Tryz.sizeOf42,Tryz.sizeOf80],rfl⟩
theorem zo89:ZeroOf Tryz.prog 89 [.pv .nilm]:=⟨_,_,Tryz.zeroValue89,.inl rfl,rfl⟩
theorem so94:SliceOf Tryz.prog 94 96 12:=⟨Tryz.underlying94,Tryz.sizeOf96,by decide,_,Tryz.zeroValue96⟩
theorem ei96:EI Tryz.prog 96 12 176:=EI.mk (z:=(Value.agg #[(Value.string ⟨#[]⟩),(Value.int IntKind.i64 (0)),(Value.int IntKind.i64 (0)),(Value.int IntKind.i64 (0)),(Value.slice none (0) (0)),(Value.slice none (0) (0)),(Value.string ⟨#[]⟩),(Value.int IntKind.i64 (0)),(Value.int IntKind.i64 (0)),(Value.int IntKind.i64 (0)),(Value.slice none (0) (0)),(Value.slice none (0) (0))])) (by kernel_rfl) rfl (by decide) (by decide)
theorem zo96:ZeroOf Tryz.prog 96 [.pv (.str ⟨#[]⟩),.pv (.int .i64 0),.pv (.int .i64 0),.pv (.int .i64 0),.pv (.sl []),.pv (.sl []),.pv (.str ⟨#[]⟩),.pv (.int .i64 0),.pv (.int .i64 0),.pv (.int .i64 0),.pv (.sl []),.pv (.sl [])]:=⟨_,_,Tryz.zeroValue96,.inl rfl,rfl⟩
theorem fo96_0:FieldOf Tryz.prog 96 0 0:=by
 refine⟨_,_,5,Tryz.underlying96,rfl,rfl,?_⟩
 exact Tryz.sizeOf49
theorem fo96_1:FieldOf Tryz.prog 96 1 6:=by
 refine⟨_,_,5,Tryz.underlying96,rfl,rfl,?_⟩
 exact Tryz.sizeOf49
theorem bo96:BuildOf Tryz.prog 96 [(0,6),(6,6)] [.pv (.str ⟨#[]⟩),.pv (.int .i64 0),.pv (.int .i64 0),.pv (.int .i64 0),.pv (.sl []),.pv (.sl []),.pv (.str ⟨#[]⟩),.pv (.int .i64 0),.pv (.int .i64 0),.pv (.int .i64 0),.pv (.sl []),.pv (.sl [])]:=⟨_,#[(0,6),(6,6)],_,_,Tryz.underlying96,Tryz.zeroValue96,.inl rfl,rfl,fun w=>by simp [Tryz.sizeOf49],rfl⟩
theorem zo99:ZeroOf Tryz.prog 99 [.pv .nilfn,.pv .nilfn,.pv .nilfn]:=⟨_,_,Tryz.zeroValue99,.inl rfl,rfl⟩
theorem fo99_0:FieldOf Tryz.prog 99 0 0:=by
 refine⟨_,_,0,Tryz.underlying99,rfl,rfl,?_⟩
 exact Tryz.sizeOf97
theorem fo99_1:FieldOf Tryz.prog 99 1 1:=by
 refine⟨_,_,0,Tryz.underlying99,rfl,rfl,?_⟩
 exact Tryz.sizeOf97
theorem fo99_2:FieldOf Tryz.prog 99 2 2:=by
 refine⟨_,_,0,Tryz.underlying99,rfl,rfl,?_⟩
 exact Tryz.sizeOf97
theorem bo99:BuildOf Tryz.prog 99 [(0,1),(1,1),(2,1)] [.pv .nilfn,.pv .nilfn,.pv .nilfn]:=⟨_,#[(0,1),(1,1),(2,1)],_,_,Tryz.underlying99,Tryz.zeroValue99,.inl rfl,rfl,fun w=>by simp [Tryz.sizeOf97],rfl⟩
theorem so101:SliceOf Tryz.prog 101 97 1:=⟨Tryz.underlying101,Tryz.sizeOf97,by decide,_,Tryz.zeroValue97⟩
theorem fo114_0:FieldOf Tryz.prog 114 0 0:=by
 refine⟨_,_,0,Tryz.underlying114,rfl,rfl,?_⟩
 exact Tryz.sizeOf38
theorem fo114_1:FieldOf Tryz.prog 114 1 1:=by
 refine⟨_,_,0,Tryz.underlying114,rfl,rfl,?_⟩
 exact Tryz.sizeOf80
theorem bo114:BuildOf Tryz.prog 114 [(0,1),(1,1)] [.pv (.sl []),.pv .nilm]:=⟨_,#[(0,1),(1,1)],_,_,Tryz.underlying114,Tryz.zeroValue114,.inl rfl,rfl,fun w=>by simp [Tryz.sizeOf38,Tryz.sizeOf80],rfl⟩
theorem zo117:ZeroOf Tryz.prog 117 [.pv (.str ⟨#[]⟩),.pv (.str ⟨#[]⟩)]:=⟨_,_,Tryz.zeroValue117,.inl rfl,rfl⟩
theorem fo117_0:FieldOf Tryz.prog 117 0 0:=by
 refine⟨_,_,0,Tryz.underlying117,rfl,rfl,?_⟩
 exact Tryz.sizeOf9
theorem fo117_1:FieldOf Tryz.prog 117 1 1:=by
 refine⟨_,_,0,Tryz.underlying117,rfl,rfl,?_⟩
 exact Tryz.sizeOf9
theorem se117 (a0 b0:ByteArray) (a1 b1:ByteArray) (w:World):(Op.equalIn 10000 117 (.agg [.string a0,.string a1].toArray) (.agg [.string b0,.string b1].toArray)).run Tryz.prog w=.ok (decide (a0=b0)&&decide (a1=b1)) w:=by
 refine(run_equalIn_struct (P:=Tryz.prog) w 9999 117 _ _ (by simp [Program.fieldsOf,Tryz.underlying117]) Tryz.stoodInHeld117).trans ?_
 have h9:∀ (d:Nat) (a b:ByteArray) (w:World),(Op.equalIn (d+1) 9 (.string a) (.string b)).run Tryz.prog w=.ok (decide (a=b)) w:=fun d a b w=>by rw [run_equalIn_string w d 9 a b Tryz.underlying9,list_beq]
 by_cases e0:a0=b0<;>by_cases e1:a1=b1<;>simp [Program.fieldsOf,Tryz.underlying117,Op.eqFields,part,h9,Tryz.isAgg9,e0,e1]
theorem zo133:ZeroOf Tryz.prog 133 [.pv (.sl [])]:=⟨_,_,Tryz.zeroValue133,.inl rfl,rfl⟩
theorem zoN133:ZeroOf Tryz.prog 133 [.pv .nils]:=⟨_,_,Tryz.zeroValue133,.inr rfl,rfl⟩
theorem so133:SliceOf Tryz.prog 133 137 3:=⟨Tryz.underlying133,Tryz.sizeOf137,by decide,_,Tryz.zeroValue137⟩
theorem ei137:EI Tryz.prog 137 3 32:=EI.mk (z:=(Value.agg #[(Value.int IntKind.i64 (0)),(Value.string ⟨#[]⟩),(Value.int IntKind.i64 (0))])) (by kernel_rfl) rfl (by decide) (by decide)
theorem fo137_0:FieldOf Tryz.prog 137 0 0:=by
 refine⟨_,_,0,Tryz.underlying137,rfl,rfl,?_⟩
 exact Tryz.sizeOf3
theorem fo137_1:FieldOf Tryz.prog 137 1 1:=by
 refine⟨_,_,0,Tryz.underlying137,rfl,rfl,?_⟩
 exact Tryz.sizeOf9
theorem fo137_2:FieldOf Tryz.prog 137 2 2:=by
 refine⟨_,_,0,Tryz.underlying137,rfl,rfl,?_⟩
 exact Tryz.sizeOf3
theorem bo137:BuildOf Tryz.prog 137 [(0,1),(1,1),(2,1)] [.pv (.int .i64 0),.pv (.str ⟨#[]⟩),.pv (.int .i64 0)]:=⟨_,#[(0,1),(1,1),(2,1)],_,_,Tryz.underlying137,Tryz.zeroValue137,.inl rfl,rfl,fun w=>by simp [Tryz.sizeOf3,Tryz.sizeOf9],rfl⟩
theorem zo154:ZeroOf Tryz.prog 154 [.pv (.sl []),.pv (.str ⟨#[]⟩),.pv (.int .i64 0)]:=⟨_,_,Tryz.zeroValue154,.inl rfl,rfl⟩
theorem fo154_0:FieldOf Tryz.prog 154 0 0:=by
 refine⟨_,_,0,Tryz.underlying154,rfl,rfl,?_⟩
 exact Tryz.sizeOf36
theorem fo154_1:FieldOf Tryz.prog 154 1 1:=by
 refine⟨_,_,0,Tryz.underlying154,rfl,rfl,?_⟩
 exact Tryz.sizeOf9
theorem fo154_2:FieldOf Tryz.prog 154 2 2:=by
 refine⟨_,_,0,Tryz.underlying154,rfl,rfl,?_⟩
 exact Tryz.sizeOf25
theorem bo154:BuildOf Tryz.prog 154 [(0,1),(1,1),(2,1)] [.pv (.sl []),.pv (.str ⟨#[]⟩),.pv (.int .i64 0)]:=⟨_,#[(0,1),(1,1),(2,1)],_,_,Tryz.underlying154,Tryz.zeroValue154,.inl rfl,rfl,fun w=>by simp [Tryz.sizeOf9,Tryz.sizeOf25,Tryz.sizeOf36],rfl⟩
theorem so163:SliceOf Tryz.prog 163 46 1:=⟨Tryz.underlying163,Tryz.sizeOf46,by decide,_,Tryz.zeroValue46⟩
theorem zo174:ZeroOf Tryz.prog 174 [.pv (.int .i64 0),.pv (.str ⟨#[]⟩),.pv (.int .i64 0),.pv (.int .i64 0)]:=⟨_,_,Tryz.zeroValue174,.inl rfl,rfl⟩
theorem fo174_0:FieldOf Tryz.prog 174 0 0:=by
 refine⟨_,_,2,Tryz.underlying174,rfl,rfl,?_⟩
 exact Tryz.sizeOf137
theorem fo174_1:FieldOf Tryz.prog 174 1 3:=by
 refine⟨_,_,0,Tryz.underlying174,rfl,rfl,?_⟩
 exact Tryz.sizeOf25
theorem bo174:BuildOf Tryz.prog 174 [(0,3),(3,1)] [.pv (.int .i64 0),.pv (.str ⟨#[]⟩),.pv (.int .i64 0),.pv (.int .i64 0)]:=⟨_,#[(0,3),(3,1)],_,_,Tryz.underlying174,Tryz.zeroValue174,.inl rfl,rfl,fun w=>by simp [Tryz.sizeOf25,Tryz.sizeOf137],rfl⟩
theorem ao182:ArrayOf Tryz.prog 182 1 [.pv (.str ⟨#[]⟩),.pv (.str ⟨#[]⟩),.pv (.str ⟨#[]⟩),.pv (.str ⟨#[]⟩)]:=⟨_,_,_,_,Tryz.underlying182,Tryz.zeroValue182,.inl rfl,rfl,Tryz.sizeOf9⟩
theorem zo206:ZeroOf Tryz.prog 206 [.pv (.str ⟨#[]⟩),.pv (.str ⟨#[]⟩),.pv (.str ⟨#[]⟩),.pv (.str ⟨#[]⟩),.pv (.str ⟨#[]⟩),.pv (.str ⟨#[]⟩)]:=⟨_,_,Tryz.zeroValue206,.inl rfl,rfl⟩
theorem ao206:ArrayOf Tryz.prog 206 1 [.pv (.str ⟨#[]⟩),.pv (.str ⟨#[]⟩),.pv (.str ⟨#[]⟩),.pv (.str ⟨#[]⟩),.pv (.str ⟨#[]⟩),.pv (.str ⟨#[]⟩)]:=⟨_,_,_,_,Tryz.underlying206,Tryz.zeroValue206,.inl rfl,rfl,Tryz.sizeOf9⟩
theorem zo216:ZeroOf Tryz.prog 216 [.pv .nilfn]:=⟨_,_,Tryz.zeroValue216,.inl rfl,rfl⟩
theorem ao223:ArrayOf Tryz.prog 223 1 [.pv (.int .i64 0),.pv (.int .i64 0),.pv (.int .i64 0),.pv (.int .i64 0),.pv (.int .i64 0),.pv (.int .i64 0)]:=⟨_,_,_,_,Tryz.underlying223,Tryz.zeroValue223,.inl rfl,rfl,Tryz.sizeOf3⟩
theorem so244:SliceOf Tryz.prog 244 38 1:=⟨Tryz.underlying244,Tryz.sizeOf38,by decide,_,Tryz.zeroValue38⟩
end
section
theorem follows:Tryz.prog.follows .mixedOrders=true:=by kernel_rfl
structure GTag where
 key:ByteArray
 val:ByteArray
structure GObj where
 id:ByteArray
 kind:Int
 x:Int
 y:Int
 refs:List ByteArray
 tags:List GTag
structure GEdit where
 op:Int
 id:ByteArray
 other:ByteArray
 node:ByteArray
 x:Int
 y:Int
 key:ByteArray
 val:ByteArray
 refs:List ByteArray
 obj:GObj
def encStr (s:ByteArray):List PV:=[.str s]
def encInt (n:Int):List PV:=[.int .i64 n]
def encTag (t:GTag):List PV:=[.str t.key,.str t.val]
def encObj (o:GObj):List PV:=[.str o.id,.int .i64 o.kind,.int .i64 o.x,.int .i64 o.y,.sl (o.refs.map encStr),.sl (o.tags.map encTag)]
def encEdit (e:GEdit):List PV:=[.int .i64 e.op,.str e.id,.str e.other,.str e.node,.int .i64 e.x,.int .i64 e.y,.str e.key,.str e.val,.sl (e.refs.map encStr),
 .str e.obj.id,.int .i64 e.obj.kind,.int .i64 e.obj.x,.int .i64 e.obj.y,.sl (e.obj.refs.map encStr),.sl (e.obj.tags.map encTag)]
def slStrs (l:List ByteArray):PV:=.sl (l.map encStr)
def slTags (l:List GTag):PV:=.sl (l.map encTag)
def slObjs (l:List GObj):PV:=.sl (l.map encObj)
def slEdits (l:List GEdit):PV:=.sl (l.map encEdit)
def slInts (l:List Int):PV:=.sl (l.map encInt)
def zObj:GObj:=⟨⟨#[]⟩,0,0,0,[],[]⟩
theorem map_get {α:Type} {f:α→List PV} {l:List α} {k:Nat} {a:α} (h:l[k]?=some a):(l.map f)[k]?=some (f a):=by rw [List.getElem?_map,h];rfl
theorem get_of_lt {α:Type} {l:List α} {k:Nat} (h:k < l.length):∃ a,l[k]?=some a:=⟨_,List.getElem?_eq_getElem h⟩
theorem fidx_some {α:Type} {p:α→Bool} {l:List α} {k:Nat} {a:α} (h:∀ j,j < k→∀ b,l[j]?=some b→p b=false) (hk:l[k]?=some a) (hp:p a=true):l.findIdx? p=some k:=by
 rw [List.findIdx?_eq_some_iff_getElem]
 obtain ⟨hlt,he⟩:=List.getElem?_eq_some_iff.1 hk
 refine⟨hlt,by rw [he];exact hp,fun j hj=>?_⟩
 have:=h j hj l[j] (List.getElem?_eq_getElem (by omega))
 simp [this]
theorem fidx_none {α:Type} {p:α→Bool} {l:List α} (h:∀ j,j < l.length→∀ b,l[j]?=some b→p b=false):l.findIdx? p=none:=by
 rw [List.findIdx?_eq_none_iff]
 intro x hx
 obtain ⟨j,hj⟩:=List.mem_iff_getElem?.1 hx
 exact h j (List.getElem?_eq_some_iff.1 hj).1 x hj
/-- Go's index of a first element. -/
def gidx {α:Type} (p:α→Bool) (l:List α):Int:=match l.findIdx? p with|some i=>(i:Int)|none => -1
theorem gidx_any {α:Type} (p:α→Bool) (l:List α):decide (0≤gidx p l)=l.any p:=by
 unfold gidx
 cases h:l.findIdx? p with
 | none =>
  have:l.any p=false:=by
   rw [List.findIdx?_eq_none_iff] at h
   rw [List.any_eq_false]
   intro x hx;simp [h x hx]
  simp [this]
 | some i =>
  have:l.any p=true:=by
   rw [List.findIdx?_eq_some_iff_getElem] at h
   obtain ⟨h1,h2,_⟩:=h
   exact List.any_eq_true.2 ⟨_,List.getElem_mem h1,h2⟩
  simp [this]
theorem gidx_cases {α:Type} (p:α→Bool) (l:List α):(gidx p l = -1∧l.find? p=none)∨∃ (k:Nat) (o:α),gidx p l=(k:Int)∧l[k]?=some o∧l.find? p=some o:=by
 cases h:l.findIdx? p with
 | none =>
  left
  refine⟨by simp [gidx,h],?_⟩
  rw [List.findIdx?_eq_none_iff] at h
  rw [List.find?_eq_none]
  intro x hx;simp [h x hx]
 | some k =>
  right
  have h':=h
  rw [List.findIdx?_eq_some_iff_getElem] at h
  obtain ⟨h1,h2,h3⟩:=h
  refine⟨k,l[k],by simp [gidx,h'],List.getElem?_eq_getElem h1,?_⟩
  rw [List.find?_eq_some_iff_getElem]
  exact⟨h2,k,h1,rfl,fun j hj=>by have:=h3 j hj;simpa using this⟩
theorem find_none {α:Type} {p:α→Bool} {l:List α} (h:∀ j,j < l.length→∀ b,l[j]?=some b→p b=false):l.find? p=none:=by
 rw [List.find?_eq_none]
 intro x hx
 obtain ⟨j,hj⟩:=List.mem_iff_getElem?.1 hx
 simp [h j (List.getElem?_eq_some_iff.1 hj).1 x hj]
theorem find_some {α:Type} {p:α→Bool} {l:List α} {k:Nat} {a:α} (h:∀ j,j < k→∀ b,l[j]?=some b→p b=false) (hk:l[k]?=some a) (hp:p a=true):l.find? p=some a:=by
 obtain ⟨hlt,he⟩:=List.getElem?_eq_some_iff.1 hk
 rw [List.find?_eq_some_iff_getElem]
 refine⟨hp,k,hlt,he,fun j hj=>?_⟩
 have:=h j hj l[j] (List.getElem?_eq_getElem (by omega))
 simpa using this
/-- One more element without the mark. -/
theorem pre_succ {α:Type} {p:α→Bool} {l:List α} {k:Nat} {a:α} (h:∀ j,j < k→∀ b,l[j]?=some b→p b=false) (hk:l[k]?=some a) (hp:p a=false):∀ j,j < k+1→∀ b,l[j]?=some b→p b=false:=by
 intro j hj b hb
 by_cases e:j=k
 ·subst e;rw [hk] at hb;cases hb;exact hp
 exact h j (by omega) b hb
theorem any_none {α:Type} {p:α→Bool} {l:List α} (h:∀ j,j < l.length→∀ b,l[j]?=some b→p b=false):l.any p=false:=by
 rw [List.any_eq_false]
 intro x hx
 obtain ⟨j,hj⟩:=List.mem_iff_getElem?.1 hx
 simp [h j (List.getElem?_eq_some_iff.1 hj).1 x hj]
theorem any_some {α:Type} {p:α→Bool} {l:List α} {k:Nat} {a:α} (hk:l[k]?=some a) (hp:p a=true):l.any p=true:=List.any_eq_true.2 ⟨_,List.mem_of_getElem? hk,hp⟩
end
end Go.Proofs.YtlnfjkdacimblaaGreatDoor
namespace Go.Abs
section
/-! ### the frame -/
theorem hget_app (D H:Heap) (k:Nat):Heap.get (D++H) k=match D.get k with|some v=>some v|none=>H.get k:=get_app D H k
/-- A call of which the heap is a part of a greater one. -/
theorem ACalls.frame {P:Program} {f:FuncId} {args:List AV} {H0 H1 H:Heap} {r0:AV} (h:ACalls P f args H0 (fun r H'=>r=r0∧H'=H1)) (hs:Sub H0 H) (hc:Closed H0) (ha:∀ a∈args,Clo H0 a)
  (hk:∀ id,(H1.get id).isSome=true→(H0.get id).isSome=true∨H.get id=none):ACalls P f args H (fun r H'=>r=r0∧H'=H1++H):=by
 intro I ι w vs hr hl hv
 refine(h I ι w vs (hr.restrict hs hc) hl (fun i v a h1 h2=>(hv i v a h1 h2).restrict hs (ha a (List.mem_of_getElem? h2)))).mono ?_
 rintro e w' ⟨r,H',I',ι',v,rfl,⟨rfl,rfl⟩,k1,k2,k3⟩
 obtain ⟨ι2,hι2⟩:∃ ι2:Plc,ι2=(fun j=>if(H'.get j).isSome=true then ι' j else ι j):=⟨_,rfl⟩
 have i1:∀ j o,H'.get j=some o→ι2 j=ι' j:=fun j o hj=>by rw [hι2];simp [hj]
 have i2:∀ j,H'.get j=none→ι2 j=ι j:=fun j hj=>by rw [hι2];simp [hj]
 have g1:∀ j o,H'.get j=some o→Heap.get (H'++H) j=some o:=fun j o hj=>by rw [hget_app,hj]
 have g2:∀ j,H'.get j=none→Heap.get (H'++H) j=H.get j:=fun j hj=>by rw [hget_app,hj]
 have hfr:∀ j o,H.get j=some o→H'.get j=none→H0.get j=none:=fun j o hj hn=>by
  cases e:H0.get j with
  | none=>rfl
  | some o0 =>
   obtain ⟨o',e1,_⟩:=k3.objs j o0 e
   rw [hn] at e1;cases e1
 have hno:∀ j o b c,H.get j=some o→H'.get j=none→ι j=some (b,c)→¬ Own ι H0 b:=fun j o b c hj hn hb ⟨j',o',c',hj',hb'⟩=>by
  have:=hr.inj j j' o o' b c c' hj (hs _ _ hj') hb hb'
  subst this
  rw [hfr j o hj hn] at hj';cases hj'
 have hst:Step I ι H w I' ι2 (H'++H) w':=by
  refine⟨k3.os,k3.tape,k3.output,k3.size,fun a ha hn=>k3.froz a ha (fun h=>hn (h.sub hs)),k3.imm,fun b hb=>?_,?_,?_,?_⟩
  ·rcases k3.immNew b hb with h1|h1|h1
   ·exact .inl h1
   ·exact .inr (.inl (h1.sub hs))
   exact .inr (.inr h1)
  ·rintro b ⟨j,o,c,hj,hc⟩
   cases e:H'.get j with
   | some o' =>
    rw [i1 j o' e] at hc
    rcases k3.own b ⟨j,o',c,e,hc⟩with h1|h1
    ·exact .inl (h1.sub hs)
    exact .inr h1
   | none =>
    rw [i2 j e] at hc
    rw [g2 j e] at hj
    exact .inl ⟨j,o,c,hj,hc⟩
  ·intro b hb hn
   exact k3.keep b hb (fun h=>hn (h.sub hs))
  intro j o hj
  cases e:H'.get j with
  | some o' =>
   rcases hk j (by rw [e];rfl)with h1|h1
   ·obtain ⟨o0,e0⟩:=Option.isSome_iff_exists.1 h1
    have:=hs _ _ e0
    rw [hj] at this;cases this
    obtain ⟨o2,q1,q2,q3⟩:=k3.objs j o e0
    exact⟨o2,g1 j o2 q1,q2,fun e=>by rw [i1 j o2 q1];exact q3 e⟩
   rw [hj] at h1;cases h1
  | none=>exact⟨o,(g2 j e).trans hj,Nat.le_refl _,fun _=>⟨i2 j e,rfl,fun _=>Nat.le_refl _⟩⟩
 have hv':∀ {v:Value} {a:AV},VRel w' I' ι' H' v a→VRel w' I' ι2 (H'++H) v a:=fun hva =>
  hva.mono' (fun _ _=>rfl) (fun _ h=>h) (fun id o ho=>⟨o,g1 id o ho,Nat.le_refl _,fun _=>⟨i1 id o ho,rfl,fun _=>Nat.le_refl _⟩⟩)
 refine⟨r,H'++H,I',ι2,v,rfl,⟨rfl,rfl⟩,hv' k1,⟨k2.imm,fun j o hj=>?_,fun j j' o o' b c c' hj hj' hc hc'=>?_,k2.glob⟩,hst⟩
 ·cases e:H'.get j with
  | some o' =>
   rw [g1 j o' e] at hj
   obtain rfl:o'=o:=Option.some.inj hj
   exact(k2.obj j o' e).keep (i1 j o' e) (fun _ _ _ _=>⟨rfl,fun h=>h⟩) (fun r _ a _ v hv=>hv' hv)
  | none =>
   rw [g2 j e] at hj
   refine(hr.obj j o hj).keep (i2 j e) (fun b' cap' e1 hlt=>⟨k3.keep b' hlt (hno j o b' cap' hj e e1),fun e3 hi=>?_⟩) (fun r _ a _ v hv=>hv.mono hr hst)
   rcases k3.immNew b' hi with h1|h1|h1
   ·exact e3 h1
   ·exact hno j o b' cap' hj e e1 h1
   omega
 cases e:H'.get j with
 | some q =>
  rw [i1 j q e] at hc
  cases e':H'.get j' with
  | some q' =>
   rw [i1 j' q' e'] at hc'
   exact k2.inj j j' q q' b c c' e e' hc hc'
  | none =>
   rw [i2 j' e'] at hc'
   rw [g2 j' e'] at hj'
   have hlt:=hr.lt ⟨j',o',c',hj',hc'⟩
   rcases k3.own b ⟨j,q,c,e,hc⟩with h1|h1
   ·exact absurd h1 (hno j' o' b c' hj' e' hc')
   omega
 | none =>
  rw [i2 j e] at hc
  rw [g2 j e] at hj
  cases e':H'.get j' with
  | some q' =>
   rw [i1 j' q' e'] at hc'
   have hlt:=hr.lt ⟨j,o,c,hj,hc⟩
   rcases k3.own b ⟨j',q',c',e',hc'⟩with h1|h1
   ·exact absurd h1 (hno j o b c hj e hc)
   omega
  | none =>
   rw [i2 j' e'] at hc'
   rw [g2 j' e'] at hj'
   exact hr.inj j j' o o' b c c' hj hj' hc hc'
/-! ### names of objects changed -/
end
section
/-- A kind of keys. -/
structure KeyKind (α:Type) where
 d:TypeDesc
 pv:α→PV
 val:α→Value
 rel:∀ (w:World) (I:Nat→Prop) (v:Value) (a:α),PRep w I v (pv a)→v=val a
 inj:∀ a b,val a=val b→a=b
 is:∀ a,MapKept.IsKey d (val a)
 rep:∀ (w:World) (I:Nat→Prop) (a:α),PRep w I (val a) (pv a)
def strK:KeyKind ByteArray:=⟨.string,.str,.string,fun _ _ _ _ h=>by cases h;rfl,fun _ _ h=>by cases h;rfl,fun _=>trivial,fun _ _ _=>.str _⟩
def intK (k:IntKind):KeyKind Int:=⟨.int k,.int k,.int k,fun _ _ _ _ h=>by cases h;rfl,fun _ _ h=>by cases h;rfl,fun _=>rfl,fun _ _ _=>.int _ _⟩
/-- The rows of a map from which nothing was struck: the stamps are the places. -/
def mrows {α:Type} (κ:KeyKind α) (l:List (α×AV)):List (List AV):=l.mapIdx fun i p=>[.pv (κ.pv p.1),p.2,.pv (.int .i64 i)]
theorem mrows_get {α:Type} {κ:KeyKind α} {l:List (α×AV)} {i:Nat} {r:List AV}:(mrows κ l)[i]?=some r↔∃ p,l[i]?=some p∧r=[.pv (κ.pv p.1),p.2,.pv (.int .i64 i)]:=by
 rw [mrows,List.getElem?_mapIdx]
 cases l[i]? with
 | none=>simp
 | some p=>simp [eq_comm]
theorem mrows_length {α:Type} (κ:KeyKind α) (l:List (α×AV)):(mrows κ l).length=l.length:=by simp [mrows]
theorem rep_val {α:Type} {κ:KeyKind α} {H:Heap} {w:World} {I:Nat→Prop} {ι:Plc} {v:Value} {k:α} (h:VRel w I ι H v (.pv (κ.pv k))):v=κ.val k:=κ.rel _ _ _ _ h.pv_inv
section
variable {α:Type}
/-- What a map's block holds. -/
structure MapAt (w:World) (I:Nat→Prop) (ι:Plc) (H:Heap) (κ:KeyKind α) (l:List (α×AV)) (es:Array MapEntry):Prop where
 size:es.size=l.length
 rel:∀ (i:Nat) (p:α×AV),l[i]?=some p→∃ e,es[i]?=some e∧e.born=i∧e.key=κ.val p.1∧VRel w I ι H e.val p.2
theorem map_at {w:World} {I:Nat→Prop} {ι:Plc} {H:Heap} {id b:Nat} {ob:Ob} {κ:KeyKind α} {l:List (α×AV)} (h:ObjRel w I ι H id ob) (hz:ob.sz=0) (hι:ι id=some (b,0)) (hrows:ob.rows=mrows κ l) :
  ∃ es,w.heap[b]?=some (.map es ob.ty)∧¬ I b∧MapAt w I ι H κ l es:=by
 obtain ⟨_,b',es,e1,e2,e3,e4,e5,e6,e7⟩:=h.map hz hι
 rw [hι] at e1;cases e1
 refine⟨es,e2,e3,⟨by rw [e4,hrows,mrows_length],fun i p hp=>?_⟩⟩
 obtain ⟨e,k,a,n,q1,q2,q3,q4,q5⟩:=e7 i _ (by rw [hrows];exact mrows_get.2 ⟨p,hp,rfl⟩)
 cases q2
 exact⟨e,q1,by injection q5.int_inv with _ hh;omega,κ.rel _ _ _ _ q3.pv_inv,q4⟩
theorem MapAt.born {w:World} {I:Nat→Prop} {ι:Plc} {H:Heap} {κ:KeyKind α} {l:List (α×AV)} {es:Array MapEntry} (h:MapAt w I ι H κ l es) {i:Nat} {e:MapEntry} (hi:es[i]?=some e):e.born=i∧i < l.length:=by
 have hlt:i < l.length:=by rw [← h.size];exact(Array.getElem?_eq_some_iff.1 hi).1
 obtain ⟨e',q1,q2,_⟩:=h.rel i l[i] (List.getElem?_eq_getElem hlt)
 rw [hi] at q1;cases q1
 exact⟨q2,hlt⟩
section
variable {I:Nat→Prop} {ι:Plc} {H H':Heap} {w:World} {id b cap:Nat} {ob ob':Ob}
def World.setObj (w:World) (b:Nat) (x:Obj):World:={w with heap:=w.heap.setIfInBounds b x}
def isCells:Obj→Bool
 | .cells ..=>true
 | _=>false
/-- The block of a map or of an iterator is written anew. -/
theorem Rel.rewrite {x0 x:Obj} (hr:Rel I ι H w) (hH:H.get id=some ob) (hι:ι id=some (b,cap)) (hz:ob.sz=0) (hb:w.heap[b]?=some x0) (h0:isCells x0=false) (hx:isCells x=false) (hg:ob'.g=ob.g) (hz':ob'.sz=0)
  (hnew:w.heap.size=(World.setObj w b x).heap.size→(World.setObj w b x).heap[b]?=some x→¬ I b→(∀ v a,VRel w I ι H v a→VRel (World.setObj w b x) I ι H' v a)→ObjRel (World.setObj w b x) I ι H' id ob')
  (h1:H'.get id=some ob') (h2:∀ j,j≠id→H'.get j=H.get j):Rel I ι H' (World.setObj w b x)∧Step I ι H w I ι H' (World.setObj w b x):=by
 have hown:Own ι H b:=⟨id,ob,cap,hH,hι⟩
 obtain ⟨hs1,hs2⟩:=MapKept.heap_set (w:=w) (o':=x) hb
 have hst:Step I ι H w I ι H' (World.setObj w b x):=by
  refine⟨rfl,rfl,rfl,by simp [World.setObj],fun a _ _=>?_,fun _ h=>h,fun _ h=>.inl h,?_,?_,?_⟩
  ·by_cases e:a.block=b
   ·simp only [World.frozen?,World.setObj,e,hs1,hb]
    cases x<;>cases x0<;>first|rfl|(simp [isCells] at hx h0)
   simp [World.frozen?,World.setObj,hs2 _ e]
  ·rintro y ⟨j,o,c,hj,hc⟩
   by_cases e:j=id
   ·subst e;exact .inl ⟨j,ob,c,hH,hc⟩
   exact .inl ⟨j,o,c,(h2 j e).symm.trans hj,hc⟩
  ·intro y _ hy
   exact hs2 y (fun e=>hy (e▸hown))
  intro j o hj
  by_cases e:j=id
  ·subst e
   rw [hH] at hj;cases hj
   exact⟨ob',h1,by omega,fun _=>⟨rfl,by omega,fun h=>by omega⟩⟩
  exact⟨o,(h2 j e).trans hj,Nat.le_refl _,fun _=>⟨rfl,rfl,fun _=>Nat.le_refl _⟩⟩
 refine⟨⟨fun y hy=>by simpa [World.setObj] using hr.imm y hy,?_,?_,hst.glob hr⟩,hst⟩
 ·intro j o hj
  by_cases e:j=id
  ·subst e
   rw [h1] at hj;cases hj
   exact hnew (by simp [World.setObj]) hs1 ((hr.obj j ob hH).block hι).2 (fun v a hv=>hv.mono hr hst)
  rw [h2 j e] at hj
  exact(hr.obj j o hj).keep rfl (fun y c hy _=>⟨hs2 y (fun hbb=>e (hr.inj j id o ob b c cap hj hH (hbb▸hy) hι)),fun h=>h⟩) (fun r _ a _ v hv=>hv.mono hr hst)
 intro j j' o o' y c c' hj hj' hc hc'
 have key:∀ j o,H'.get j=some o→∃ o,H.get j=some o:=by
  intro j o hj
  by_cases e:j=id
  ·exact⟨ob,e▸hH⟩
  exact⟨o,(h2 j e).symm.trans hj⟩
 obtain ⟨q,hq⟩:=key j o hj
 obtain ⟨q',hq'⟩:=key j' o' hj'
 exact hr.inj j j' q q' y c c' hq hq' hc hc'
theorem Rel.remap {κ:KeyKind α} {l:List (α×AV)} {es0 es':Array MapEntry} {c0:Nat} (hr:Rel I ι H w) (hH:H.get id=some ob) (hι:ι id=some (b,0)) (hz:ob.sz=0) (hb:w.heap[b]?=some (.map es0 c0)) (hg:ob'.g=ob.g) (hz':ob'.sz=0) (hty:ob'.ty=l.length) (hrows:ob'.rows=mrows κ l)
  (hm:MapAt w I ι H κ l es') (h1:H'.get id=some ob') (h2:∀ j,j≠id→H'.get j=H.get j):Rel I ι H' (World.setObj w b (.map es' l.length))∧Step I ι H w I ι H' (World.setObj w b (.map es' l.length)):=by
 refine hr.rewrite hH hι hz hb rfl rfl hg hz' (fun _ hs1 hI hmono=>?_) h1 h2
 refine .inr (.inl ⟨hz',b,es',hι,by rw [hty];exact hs1,hI,by rw [hm.size,hrows,mrows_length],fun i e hi=>?_,fun i j e e' hij hi hj=>?_,fun i r hr'=>?_⟩)
 ·obtain ⟨q1,q2⟩:=hm.born hi
  rw [q1,hty];exact q2
 ·have q1:=(hm.born hi).1
  have q2:=(hm.born hj).1
  omega
 rw [hrows] at hr'
 obtain ⟨p,hp,rfl⟩:=mrows_get.1 hr'
 obtain ⟨e,q1,q2,q3,q4⟩:=hm.rel i p hp
 exact⟨e,_,_,_,q1,rfl,by rw [q3];exact .pv (κ.rep _ _ p.1),hmono _ _ q4,by rw [q2];exact .pv (.int _ _)⟩
end
theorem mp_ptr {w:World} {I:Nat→Prop} {ι:Plc} {H:Heap} {v:Value} {id g:Nat} {ob:Ob} (h:VRel w I ι H v (.mp id g)) (hH:H.get id=some ob) (hg:ob.g=g):ob.sz=0∧∃ b,ι id=some (b,0)∧v=.map (some b):=by
 cases h with
 | mp o' h1 h2 _ h3 =>
  rw [hH] at h1;cases h1
  exact h3 hg
variable [DecidableEq α]
def mget:List (α×AV)→α→Option AV
 | [],_=>none
 | (k',a)::r,k=>if k'=k then some a else mget r k
def mput:List (α×AV)→α→AV→List (α×AV)
 | [],k,v=>[(k,v)]
 | (k',a)::r,k,v=>if k'=k then(k,v)::r else(k',a)::mput r k v
def mdel:List (α×AV)→α→List (α×AV)
 | [],_=>[]
 | (k',a)::r,k=>if k'=k then r else(k',a)::mdel r k
theorem find_at {w:World} {I:Nat→Prop} {ι:Plc} {H:Heap} (κ:KeyKind α) (k:α):∀ (l:List (α×AV)) (es:List MapEntry) (i:Nat),es.length=l.length→(∀ (i:Nat) (p:α×AV),l[i]?=some p→∃ e,es[i]?=some e∧e.key=κ.val p.1∧VRel w I ι H e.val p.2) →
  (Instr.findNow κ.d (κ.val k) es i=some none∧mget l k=none∧∀ v,mput l k v=l++[(k,v)]) ∨
  ∃ j e a,Instr.findNow κ.d (κ.val k) es i=some (some (i+j,e.val))∧es[j]?=some e∧e.key=κ.val k∧mget l k=some a∧VRel w I ι H e.val a∧l[j]?=some (k,a)∧(∀ v,mput l k v=l.set j (k,v))∧mdel l k=l.eraseIdx j
 | [],[],i,_,_=>.inl ⟨rfl,rfl,fun _=>rfl⟩
 | (k',a)::l,e::es,i,hl,hr=>by
  obtain ⟨e0,z1,z2,z3⟩:=hr 0 (k',a) rfl
  cases z1
  obtain ⟨r,hr1,hiff⟩:=MapKept.sameNow_of_keys (κ.is k) (show MapKept.IsKey κ.d e.key by rw [z2];exact κ.is k')
  by_cases hk:k'=k
  ·subst hk
   have hrt:r=true:=hiff.2 z2.symm
   subst hrt
   exact .inr ⟨0,e,a,by simp [Instr.findNow,hr1],rfl,z2,by simp [mget],z3,rfl,fun v=>by simp [mput],by simp [mdel]⟩
  have hrf:r=false:=by
   cases r with
   | false=>rfl
   | true=>exact absurd (κ.inj _ _ ((hiff.1 rfl).trans z2)).symm hk
  subst hrf
  rcases find_at κ k l es (i+1) (by simpa using hl) (fun i p hp=>hr (i+1) p hp)with⟨h1,h2,h3⟩|⟨j,e',a',h1,h2,h3,h4,h5,h6,h7,h8⟩
  ·exact .inl ⟨by simp [Instr.findNow,hr1,h1],by simp [mget,hk,h2],fun v=>by simp [mput,hk,h3]⟩
  exact .inr ⟨j+1,e',a',by simp [Instr.findNow,hr1,h1];omega,by simpa using h2,h3,by simp [mget,hk,h4],h5,by simpa using h6,fun v=>by simp [mput,hk,h7],by simp [mdel,hk,h8]⟩
section
variable {P:Program} {N:Nat} {o:Oper} {E:Env} {H:Heap} {T kt et:TypeId} {x y z:Operand} {κ:KeyKind α} {l:List (α×AV)} {id g:Nat} {ob:Ob} {k:α}
/-- A map is asked. -/
theorem opd_lookup {zv:Value} {v0:AV} (ho:o.op=.lookup T x y false) (hT:P.underlying T=some (.map kt et)) (hd:P.underlying kt=some κ.d) (hx:aeval E x=some (.mp id g)) (hH:H.get id=some ob) (hg:ob.g=g)
  (hrows:ob.rows=mrows κ l) (hy:aeval E y=some (.pv (κ.pv k))) (hz:∀ w,(zeroValue et).run P w=.ok zv w) (hv:ZV zv v0):OpD P N o E H ((mget l k).getD v0) H :=
 .of_run fun a w I ι hr he=>by
  obtain ⟨hsz,b,hι,hvx⟩:=mp_ptr (aeval_rel he hx) hH hg
  obtain ⟨es,e2,e3,e4⟩:=map_at (hr.obj id ob hH) hsz hι hrows
  have hvy:=rep_val (aeval_rel he hy)
  rcases find_at κ k l es.toList 0 (by simpa using e4.size) (fun i p hp=>let ⟨e,q1,_,q3⟩:=e4.rel i p hp;⟨e,by simpa using q1,q3⟩)with⟨h1,h2,h3⟩|⟨j,e,a',h1,h2,h3,h4,h5,_⟩
  ·refine⟨zv,?_,by rw [h2];exact hv.rel⟩
   simp only [execOp,ho,hvx,hvy]
   simp [Instr.lookup,run_underlying hT,MapKept.run_getObj_map e2,MapKept.run_checkKey hd (κ.is k),MapKept.run_findKey hd h1,hz]
  refine⟨e.val,?_,by rw [h4];exact h5⟩
  simp only [execOp,ho,hvx,hvy]
  simp [Instr.lookup,run_underlying hT,MapKept.run_getObj_map e2,MapKept.run_checkKey hd (κ.is k),MapKept.run_findKey hd h1]
theorem opd_lookup_ok {zv:Value} {v0:AV} (ho:o.op=.lookup T x y true) (hT:P.underlying T=some (.map kt et)) (hd:P.underlying kt=some κ.d) (hx:aeval E x=some (.mp id g)) (hH:H.get id=some ob) (hg:ob.g=g)
  (hrows:ob.rows=mrows κ l) (hy:aeval E y=some (.pv (κ.pv k))) (hz:∀ w,(zeroValue et).run P w=.ok zv w) (hv:ZV zv v0):OpD P N o E H (.tup [(mget l k).getD v0,.pv (.bool (mget l k).isSome)]) H :=
 .of_run fun a w I ι hr he=>by
  obtain ⟨hsz,b,hι,hvx⟩:=mp_ptr (aeval_rel he hx) hH hg
  obtain ⟨es,e2,e3,e4⟩:=map_at (hr.obj id ob hH) hsz hι hrows
  have hvy:=rep_val (aeval_rel he hy)
  have two:∀ {u:Value} {a:AV} {c:Bool},VRel w I ι H u a→VRel w I ι H (.tuple #[u,.bool c]) (.tup [a,.pv (.bool c)]):=fun {u a c} hu=>.tup rfl (fun i v q hv hq=>by
   match i with
   | 0=>simp at hv hq;subst hv hq;exact hu
   | 1=>simp at hv hq;subst hv hq;exact .pv (.bool _)
   | i+2=>simp at hv)
  rcases find_at κ k l es.toList 0 (by simpa using e4.size) (fun i p hp=>let ⟨e,q1,_,q3⟩:=e4.rel i p hp;⟨e,by simpa using q1,q3⟩)with⟨h1,h2,h3⟩|⟨j,e,a',h1,h2,h3,h4,h5,_⟩
  ·refine⟨.tuple #[zv,.bool false],?_,by rw [h2];exact two hv.rel⟩
   simp only [execOp,ho,hvx,hvy]
   simp [Instr.lookup,run_underlying hT,MapKept.run_getObj_map e2,MapKept.run_checkKey hd (κ.is k),MapKept.run_findKey hd h1,hz]
  refine⟨.tuple #[e.val,.bool true],?_,by rw [h4];exact two h5⟩
  simp only [execOp,ho,hvx,hvy]
  simp [Instr.lookup,run_underlying hT,MapKept.run_getObj_map e2,MapKept.run_checkKey hd (κ.is k),MapKept.run_findKey hd h1]
/-- An entry is written. -/
theorem opd_mapUpdate {v:AV} {H2:Heap} (ho:o.op=.mapUpdate T x y z∨o.op=.insert T x y z) (hT:P.underlying T=some (.map kt et)) (hd:P.underlying kt=some κ.d) (hx:aeval E x=some (.mp id g)) (hH:H.get id=some ob) (hg:ob.g=g)
  (hty:ob.ty=l.length) (hrows:ob.rows=mrows κ l) (hy:aeval E y=some (.pv (κ.pv k))) (hz:aeval E z=some v) (hH2:H.set id {ob with ty:=(mput l k v).length,rows:=mrows κ (mput l k v)}=H2):OpD P N o E H .any H2:=by
 intro a w I ι _ _ hr he K Q hkk
 obtain ⟨hsz,b,hι,hvx⟩:=mp_ptr (aeval_rel he hx) hH hg
 obtain ⟨es,e2,e3,e4⟩:=map_at (hr.obj id ob hH) hsz hι hrows
 rw [hty] at e2
 have hvy:=rep_val (aeval_rel he hy)
 have hvz:=aeval_rel he hz
 subst hH2
 have fin:∀ es',(Instr.mapUpdate T (a.eval x) (a.eval y) (a.eval z)).run P w=.ok () (World.setObj w b (.map es' (mput l k v).length))→MapAt w I ι H κ (mput l k v) es'→o.wpW P a w K Q:=by
  intro es' hrun hm
  obtain ⟨k2,k3⟩:=Rel.remap (H':=H.set id {ob with ty:=(mput l k v).length,rows:=mrows κ (mput l k v)}) (ob':={ob with ty:=(mput l k v).length,rows:=mrows κ (mput l k v)}) hr hH hι hsz e2 rfl hsz rfl rfl hm (Heap.get_set_same _ _ _) (fun j hj=>Heap.get_set_other _ _ hj)
  unfold Oper.wpW execOp
  rcases ho with ho|ho
  ·simp only [ho,Sem.run_bind,hrun,Result.andThen_ok,Sem.run_pure]
   exact hkk _ _ I ι _ _ ⟨rfl,rfl⟩ (.any _) k2 k3
  simp only [ho,Sem.run_bind,hrun,Result.andThen_ok,Sem.run_pure]
  exact hkk _ _ I ι _ _ ⟨rfl,rfl⟩ (.any _) k2 k3
 rcases find_at κ k l es.toList 0 (by simpa using e4.size) (fun i p hp=>let ⟨e,q1,_,q3⟩:=e4.rel i p hp;⟨e,by simpa using q1,q3⟩)with⟨h1,h2,h3⟩|⟨j,e,a',h1,h2,h3,h4,h5,h6,h7,h8⟩
 ·refine fin (es.push {key:=κ.val k,val:=a.eval z,born:=l.length}) ?_ ⟨?_,?_⟩
  ·simp [Instr.mapUpdate,hvx,hvy,run_underlying hT,MapKept.run_getObj_map e2,MapKept.run_checkKey hd (κ.is k),MapKept.run_findKey hd h1,MapKept.run_setObj_map _ e2,World.setObj,h3]
  ·rw [h3];simp [e4.size]
  intro i p hp
  rw [h3] at hp
  by_cases hi:i < l.length
  ·rw [List.getElem?_append_left hi] at hp
   obtain ⟨e,q1,q2⟩:=e4.rel i p hp
   exact⟨e,by rw [Array.getElem?_push,if_neg (by rw [e4.size];omega)];exact q1,q2⟩
  rw [List.getElem?_append_right (by omega)] at hp
  cases hil:i - l.length with
  | zero =>
   rw [hil] at hp
   cases hp
   exact⟨_,by rw [Array.getElem?_push,if_pos (by rw [e4.size];omega)],by show l.length=i;omega,rfl,hvz⟩
  | succ m=>rw [hil] at hp;simp at hp
 have hj:es[j]?=some e:=by simpa using h2
 have hjl:j < es.size:=(Array.getElem?_eq_some_iff.1 hj).1
 have hln:(mput l k v).length=l.length:=by rw [h7];simp
 refine fin (es.modify j fun e=>{e with key:=κ.val k,val:=a.eval z}) ?_ ⟨?_,?_⟩
 ·simp [Instr.mapUpdate,hvx,hvy,run_underlying hT,MapKept.run_getObj_map e2,MapKept.run_checkKey hd (κ.is k),MapKept.run_findKey hd h1,hj,h3,MapKept.run_keyThatStays (κ.is k),MapKept.run_setObj_map _ e2,World.setObj,hln]
 ·rw [h7];simp [e4.size]
 intro i p hp
 rw [h7] at hp
 by_cases e:i=j
 ·subst e
  rw [List.getElem?_set_self (by rw [← e4.size];exact hjl)] at hp
  cases hp
  exact⟨{e with key:=κ.val k,val:=a.eval z},by rw [Array.getElem?_modify,if_pos rfl,hj];rfl,(e4.born hj).1,rfl,hvz⟩
 rw [List.getElem?_set_ne (Ne.symm e)] at hp
 obtain ⟨e',q1,q2⟩:=e4.rel i p hp
 exact⟨e',by rw [Array.getElem?_modify,if_neg (Ne.symm e)];exact q1,q2⟩
/-- A map or an iterator gets a new block. -/
theorem Rel.placeX {I:Nat→Prop} {ι:Plc} {H H':Heap} {w w':World} {id cap:Nat} {ob':Ob} {x:Obj} (hr:Rel I ι H w) (hos:w'.os=w.os) (htape:w'.tape=w.tape) (hout:w'.output=w.output) (hw:w'.heap=w.heap.push x)
  (hold:∀ o,H.get id=some o→o.g < ob'.g)
  (hobj:w'.heap[w.heap.size]?=some x→¬ I w.heap.size→(∀ v a,VRel w I ι H v a→VRel w' I (fun j=>if j=id then some (w.heap.size,cap)else ι j) H' v a)→ObjRel w' I (fun j=>if j=id then some (w.heap.size,cap)else ι j) H' id ob')
  (h1:H'.get id=some ob') (h2:∀ j,j≠id→H'.get j=H.get j) :
  Rel I (fun j=>if j=id then some (w.heap.size,cap)else ι j) H' w'∧Step I ι H w I (fun j=>if j=id then some (w.heap.size,cap)else ι j) H' w':=by
 have hnew:w'.heap[w.heap.size]?=some x:=by rw [hw];simp
 have holdb:∀ x,x < w.heap.size→w'.heap[x]?=w.heap[x]?:=fun x hx=>by rw [hw,Array.getElem?_push,if_neg (Nat.ne_of_lt hx)]
 have hsize:w'.heap.size=w.heap.size+1:=by rw [hw];simp
 have hst:Step I ι H w I (fun j=>if j=id then some (w.heap.size,cap)else ι j) H' w':=by
  refine⟨hos,htape,hout,by omega,fun a ha _=>?_,fun _ h=>h,fun _ h=>.inl h,?_,fun x hx _=>holdb x hx,?_⟩
  ·simp [World.frozen?,holdb a.block ha]
  ·rintro x ⟨j,o,c,hj,hc⟩
   by_cases e:j=id
   ·simp only [e,if_true] at hc;cases hc;exact .inr (Nat.le_refl _)
   simp only [e,if_false] at hc;exact .inl ⟨j,o,c,(h2 j e).symm.trans hj,hc⟩
  intro j o hj
  by_cases e:j=id
  ·subst e
   have:=hold o hj
   exact⟨ob',h1,by omega,fun e=>by omega⟩
  exact⟨o,(h2 j e).trans hj,Nat.le_refl _,fun _=>⟨by simp [e],rfl,fun _=>Nat.le_refl _⟩⟩
 refine⟨⟨fun x hx=>by have:=hr.imm x hx;omega,?_,?_,hst.glob hr⟩,hst⟩
 ·intro j o hj
  by_cases e:j=id
  ·subst e
   rw [h1] at hj;cases hj
   exact hobj hnew (fun hi=>Nat.lt_irrefl _ (hr.imm _ hi)) (fun v a hv=>hv.mono hr hst)
  rw [h2 j e] at hj
  exact(hr.obj j o hj).keep (by simp [e]) (fun x c _ hx=>⟨holdb x hx,fun h=>h⟩) (fun r _ a _ v hv=>hv.mono hr hst)
 intro j j' o o' x c c' hj hj' hc hc'
 by_cases e:j=id<;>by_cases e':j'=id
 ·rw [e,e']
 ·simp only [e,if_true] at hc
  simp only [e',if_false] at hc'
  cases hc
  have:=hr.lt ⟨j',o',c',(h2 j' e').symm.trans hj',hc'⟩
  exact absurd this (Nat.lt_irrefl _)
 ·simp only [e,if_false] at hc
  simp only [e',if_true] at hc'
  cases hc'
  have:=hr.lt ⟨j,o,c,(h2 j e).symm.trans hj,hc⟩
  exact absurd this (Nat.lt_irrefl _)
 simp only [e,if_false] at hc
 simp only [e',if_false] at hc'
 exact hr.inj j j' o o' x c c' ((h2 j e).symm.trans hj) ((h2 j' e').symm.trans hj') hc hc'
theorem Rel.placeM {I:Nat→Prop} {ι:Plc} {H H':Heap} {w w':World} {id:Nat} {ob':Ob} (hr:Rel I ι H w) (hos:w'.os=w.os) (htape:w'.tape=w.tape) (hout:w'.output=w.output) (hw:w'.heap=w.heap.push (.map #[] 0))
  (hold:∀ o,H.get id=some o→o.g < ob'.g) (hsz:ob'.sz=0) (hty:ob'.ty=0) (hrows:ob'.rows=[]) (h1:H'.get id=some ob') (h2:∀ j,j≠id→H'.get j=H.get j) :
  Rel I (fun j=>if j=id then some (w.heap.size,0)else ι j) H' w'∧Step I ι H w I (fun j=>if j=id then some (w.heap.size,0)else ι j) H' w' :=
 hr.placeX hos htape hout hw hold (fun hnew hI _=>.inr (.inl ⟨hsz,w.heap.size,#[],by simp,by rw [hty];exact hnew,hI,by rw [hrows];rfl,by simp,by simp,by rw [hrows];simp⟩)) h1 h2
theorem lay_map {I:Nat→Prop} {ι:Plc} {w:World} {id gg:Nat} (hr:Rel I ι H w) (hid:∀ o,H.get id=some o→o.g < gg) :
  ∃ ι',VRel (w.alloc (.map #[] 0)) I ι' ((id,⟨gg,0,0,[]⟩)::H) (.map (some w.heap.size)) (.mp id gg)∧Rel I ι' ((id,⟨gg,0,0,[]⟩)::H) (w.alloc (.map #[] 0))∧Step I ι H w I ι' ((id,⟨gg,0,0,[]⟩)::H) (w.alloc (.map #[] 0)):=by
 obtain ⟨h1,h2⟩:=Rel.placeM (H':=(id,⟨gg,0,0,[]⟩)::H) (id:=id) (ob':=⟨gg,0,0,[]⟩) (w':=w.alloc (.map #[] 0)) hr rfl rfl rfl rfl hid rfl rfl rfl (get_cons_same _ _ _) (fun j hj=>get_cons_other _ _ hj)
 exact⟨_,.mp ⟨gg,0,0,[]⟩ (get_cons_same _ _ _) (Nat.le_refl _) rfl fun _=>⟨rfl,w.heap.size,by simp,rfl⟩,h1,h2⟩
theorem opd_makeMap {α:Type} (κ:KeyKind α) (ho:o.op=.makeMap T none) (hid:H.get id=none):OpD P N o E H (.mp id 0) ((id,⟨0,0,([]:List (α×AV)).length,mrows κ []⟩)::H):=by
 intro a w I ι _ _ hr he K Q hk
 obtain ⟨ι',h1,h2,h3⟩:=lay_map (id:=id) (gg:=0) hr (fun o ho=>by rw [hid] at ho;cases ho)
 unfold Oper.wpW execOp
 simp only [ho,Instr.makeMap,Option.map_none,Sem.run_bind,run_newObj,Sem.run_pure,Result.andThen_ok]
 exact hk _ _ I ι' _ _ ⟨rfl,rfl⟩ h1 h2 h3
theorem x_mapUpdate {v:AV} {l':List (α×AV)} (ho:o.op=.mapUpdate T x y z∨o.op=.insert T x y z) (hT:P.underlying T=some (.map kt et)) (hd:P.underlying kt=some κ.d) (hx:aeval E x=some (.mp id g)) (hH:H.get id=some ob) (hg:ob.g=g)
  (hty:ob.ty=l.length) (hrows:ob.rows=mrows κ l) (hy:aeval E y=some (.pv (κ.pv k))) (hz:aeval E z=some v) (hr:mput l k v=l'):OpD P N o E H .any ((id,⟨g,ob.sz,l'.length,mrows κ l'⟩)::H):=by
 subst hg hr
 exact(opd_mapUpdate ho hT hd hx hH rfl hty hrows hy hz rfl).congr (set_cons _ _ _)
end
end
end
section
/-- The rows of an iterator. -/
def irows (m:AV) (since last:Nat) (seen:List Nat):List (List AV):=[m,.pv (.int .i64 since),.pv (.int .i64 last)]::seen.map fun(n:Nat)=>[.pv (.int .i64 n)]
theorem it_ptr {w:World} {I:Nat→Prop} {ι:Plc} {H:Heap} {v:Value} {id g:Nat} {ob:Ob} (h:VRel w I ι H v (.it id g)) (hH:H.get id=some ob) (hg:ob.g=g):ob.sz=0∧∃ b,ι id=some (b,1)∧v=.pointer (some ⟨b,0,none⟩):=by
 cases h with
 | it o' h1 h2 _ h3 =>
  rw [hH] at h1;cases h1
  exact h3 hg
theorem iter_at {w:World} {I:Nat→Prop} {ι:Plc} {H:Heap} {q b mid mg since last:Nat} {oq om:Ob} {seen:List Nat} (h:ObjRel w I ι H q oq) (hz:oq.sz=0) (hι:ι q=some (b,1)) (hrows:oq.rows=irows (.mp mid mg) since last seen) (hM:H.get mid=some om) (hmg:om.g=mg) :
  ∃ bm,ι mid=some (bm,0)∧om.sz=0∧w.heap[b]?=some (.mapIter (some bm) since seen.toArray last)∧¬ I b:=by
 obtain ⟨_,b',bm,since',seen',last',e1,e2,e3,e4,⟨m,n,k,z1,z2,z3,z4⟩,e6⟩:=h.iter hz hι
 rw [hι] at e1;cases e1
 rw [hrows] at z1
 simp only [irows,List.getElem?_cons_zero,Option.some.injEq,List.cons.injEq,and_true] at z1
 obtain ⟨rfl,rfl,rfl⟩:=z1
 obtain ⟨q1,bm',q2,q3⟩:=mp_ptr z2 hM hmg
 cases q3
 injection z3.int_inv with _ h1
 injection z4.int_inv with _ h2
 have h1':since'=since:=by omega
 have h2':last'=last:=by omega
 subst h1' h2'
 refine⟨bm,q2,q1,?_,e3⟩
 have hs:seen'=seen.toArray:=by
  have hl:seen'.size=seen.length:=by rw [hrows] at e4;simpa [irows] using e4.symm
  apply Array.ext
  ·simpa using hl
  intro i hi1 hi2
  obtain ⟨x,n,y1,y2,y3⟩:=e6 i [.pv (.int .i64 (seen[i]'(by simpa using hi2)))] (by rw [hrows];show (seen.map _)[i]?=_;rw [List.getElem?_map,List.getElem?_eq_getElem (by simpa using hi2)];rfl)
  cases y2
  injection y3.int_inv with _ h3
  rw [Array.getElem?_eq_getElem hi1] at y1
  cases y1
  simp only [List.getElem_toArray]
  omega
 rw [← hs];exact e2
section
variable {α:Type}
theorem run_next {P:Program} (w:World) (ty:TypeId) (r bm since c0:Nat) (seen:Array Nat) (es:Array MapEntry) (clock:Nat) (hr:w.heap[r]?=some (.mapIter (some bm) since seen c0)) (hb:w.heap[bm]?=some (.map es clock)) (hold:∀ x∈es.toList,x.born < since) (hsc:since≤c0) :
  ((leftOf es seen).size=0∧(Instr.next (.pointer (some ⟨r,0,none⟩)) false ty).run P w=.ok (.tuple #[.bool false]) w) ∨
  ∃ e∈(leftOf es seen).toList,∃ d:Nat,(Instr.next (.pointer (some ⟨r,0,none⟩)) false ty).run P w=.ok (.tuple #[.bool true,e.key,e.val]) (World.setObj {w with drawn:=d} r (.mapIter (some bm) since (seen.push e.born) clock)):=by
 simp only [Instr.next,getObj,Sem.run_bind,Sem.run,hr,hb,Result.andThen,next_test_false seen es since c0 hold hsc,Bool.false_eq_true,if_false]
 unfold leftOf
 have hmem:∀ x∈(Array.filter (fun e=>!seen.contains e.born) es).toList,x.born < since:=fun x hx=>hold x (by simp at hx ⊢;exact hx.1)
 generalize Array.filter (fun e=>!seen.contains e.born) es=L at hmem ⊢
 have e1:L.filter (fun x=>decide (x.born < since))=L:=Array.filter_eq_self.2 (fun x hx=>by simpa using hmem x (by simpa using hx))
 have e2:L.filter (fun x=>decide (x.born≥since))=#[]:=by
  rw [Array.filter_eq_empty_iff]
  intro x hx
  have:=hmem x (by simpa using hx)
  simp
  omega
 simp only [e1,e2,Array.append_empty]
 by_cases h0:L.size=0
 ·left
  have:L=#[]:=Array.eq_empty_of_size_eq_zero h0
  subst this
  refine⟨rfl,?_⟩
  simp [choose,Sem.run,Question.forced]
 right
 have hne:L.isEmpty=false:=by simp [Array.isEmpty,h0]
 simp only [hne,Bool.false_eq_true,if_false,Array.empty_append,Array.size_map]
 have hch:∃ (j d:Nat),j < L.size∧(choose (Question.mapNext L.size)).run P w=.ok j {w with drawn:=d}:=by
  by_cases hf:L.size≤1
  ·exact⟨0,w.drawn,by omega,by simp [choose,Sem.run,Question.forced,hf]⟩
  exact⟨_,w.drawn+1,Nat.mod_lt _ (by omega),by
   simp only [choose,Sem.run,Question.forced,decide_eq_true_eq,hf,if_false,Question.cut]
   rfl⟩
 obtain ⟨j,d,hj,hrun⟩:=hch
 refine⟨L[j],by simp,d,?_⟩
 have hset:∀ (o':Obj),(setObj r o').run P {w with drawn:=d}=.ok () (World.setObj {w with drawn:=d} r o'):=fun o'=>by
  simp [setObj,Sem.run,hr,World.setObj]
 simp only [hrun,Array.getElem?_map,Array.getElem?_eq_getElem hj,Option.map_some,Sem.run_bind,hset,Result.andThen]
 rfl
theorem left_at {w:World} {I:Nat→Prop} {ι:Plc} {H:Heap} {κ:KeyKind α} {l:List (α×AV)} {es:Array MapEntry} {seen:List Nat} (h:MapAt w I ι H κ l es) :
  ((leftOf es seen.toArray).size=0→∀ i,i < l.length→i∈seen)∧∀ e∈(leftOf es seen.toArray).toList,∃ (i:Nat) (p:α×AV),l[i]?=some p∧i∉seen∧e.born=i∧e.key=κ.val p.1∧VRel w I ι H e.val p.2:=by
 constructor
 ·intro h0 i hi
  obtain ⟨e,q1,q2,_⟩:=h.rel i l[i] (List.getElem?_eq_getElem hi)
  have h1:leftOf es seen.toArray=#[]:=Array.eq_empty_of_size_eq_zero h0
  rw [leftOf,Array.filter_eq_empty_iff] at h1
  have:=h1 e (Array.mem_of_getElem? q1)
  simp only [Bool.not_eq_true',Bool.not_eq_false,List.contains_toArray,List.contains_eq_mem,decide_eq_true_eq] at this
  rw [← q2];simpa using this
 intro e he
 simp only [leftOf,Array.toList_filter,List.mem_filter,Bool.not_eq_true',List.contains_toArray,List.contains_eq_mem,decide_eq_false_iff_not] at he
 obtain ⟨h1,h2⟩:=he
 obtain ⟨i,hi⟩:=List.mem_iff_getElem?.1 h1
 have hi':es[i]?=some e:=by simpa using hi
 obtain ⟨q1,q2⟩:=h.born hi'
 obtain ⟨e',z1,z2,z3⟩:=h.rel i l[i] (List.getElem?_eq_getElem q2)
 rw [hi'] at z1;cases z1
 exact⟨i,l[i],List.getElem?_eq_getElem q2,by rw [← q1];exact h2,q1,z3⟩
section
variable {P:Program} {N:Nat} {o:Oper} {E:Env} {H:Heap} {T kt et:TypeId} {x y z:Operand} {κ:KeyKind α} {l:List (α×AV)} {id g q gq since last:Nat} {ob oq:Ob} {seen:List Nat}
/-- The loop begins. -/
theorem opd_range (ho:o.op=.range T x) (hT:P.underlying T=some (.map kt et)) (hx:aeval E x=some (.mp id g)) (hH:H.get id=some ob) (hg:ob.g=g) (hrows:ob.rows=mrows κ l) (hty:ob.ty=l.length) (hq:H.get q=none) :
  OpD P N o E H (.it q 0) ((q,⟨0,0,0,irows (.mp id g) l.length l.length []⟩)::H):=by
 intro a w I ι _ _ hr he K Q hk
 have hvx0:=aeval_rel he hx
 obtain ⟨hsz,b,hι,hvx⟩:=mp_ptr hvx0 hH hg
 obtain ⟨es,e2,e3,e4⟩:=map_at (hr.obj id ob hH) hsz hι hrows
 rw [hty] at e2
 obtain ⟨k2,k3⟩:=Rel.placeX (H':=(q,⟨0,0,0,irows (.mp id g) l.length l.length []⟩)::H) (id:=q) (cap:=1) (ob':=⟨0,0,0,irows (.mp id g) l.length l.length []⟩) (x:=.mapIter (some b) l.length #[] l.length) (w':=w.alloc (.mapIter (some b) l.length #[] l.length)) hr rfl rfl rfl rfl
  (fun o ho=>by rw [hq] at ho;cases ho) (fun hnew hI hmono=>.inr (.inr (.inl ⟨rfl,w.heap.size,b,l.length,#[],l.length,by simp,hnew,hI,rfl,⟨_,_,_,rfl,by rw [← hvx];exact hmono _ _ hvx0,.pv (.int _ _),.pv (.int _ _)⟩,fun i r hr'=>by simp [irows] at hr'⟩)))
  (get_cons_same _ _ _) (fun j hj=>get_cons_other _ _ hj)
 have hrun:(execOp a.eval o).run P w=.ok (.value (.pointer (some ⟨w.heap.size,0,none⟩))) (w.alloc (.mapIter (some b) l.length #[] l.length)):=by
  simp only [execOp,ho,hvx]
  simp [Instr.range,run_underlying hT,MapKept.run_getObj_map e2]
 unfold Oper.wpW
 rw [hrun]
 exact hk _ _ I _ _ _ ⟨rfl,rfl⟩ (.it ⟨0,0,0,irows (.mp id g) l.length l.length []⟩ (get_cons_same _ _ _) (Nat.le_refl _) rfl fun _=>⟨rfl,w.heap.size,by simp,rfl⟩) k2 k3
/-- A step: nothing is left; or one that has not come comes. -/
theorem opr_next (ho:o.op=.next x false) (hx:aeval E x=some (.it q gq)) (hQ:H.get q=some oq) (hgq:oq.g=gq) (hrq:oq.rows=irows (.mp id g) since last seen) (hH:H.get id=some ob) (hg:ob.g=g) (hrows:ob.rows=mrows κ l) (hty:ob.ty=l.length)
  (hold:l.length≤since) (hlast:since≤last) :
  OpR P N o E H (fun r H'=>(r=.tup [.pv (.bool false)]∧H'=H∧∀ i,i < l.length→i∈seen)∨∃ (i:Nat) (p:α×AV),l[i]?=some p∧i∉seen∧r=.tup [.pv (.bool true),.pv (κ.pv p.1),p.2]∧H'=(q,⟨gq,0,oq.ty,irows (.mp id g) since l.length (seen++[i])⟩)::H):=by
 intro a w I ι _ _ hr he K Q hk
 obtain ⟨hsz,b,hι,hvx⟩:=it_ptr (aeval_rel he hx) hQ hgq
 obtain ⟨bm,hιm,hmz,hbq,hI⟩:=iter_at (hr.obj q oq hQ) hsz hι hrq hH hg
 obtain ⟨es,e2,e3,e4⟩:=map_at (hr.obj id ob hH) hmz hιm hrows
 rw [hty] at e2
 have hold':∀ x∈es.toList,x.born < since:=fun x hx=>by
  obtain ⟨i,hi⟩:=List.mem_iff_getElem?.1 hx
  obtain ⟨q1,q2⟩:=e4.born (i:=i) (e:=x) (by simpa using hi)
  omega
 obtain ⟨l1,l2⟩:=left_at (seen:=seen) e4
 rcases run_next (P:=P) w o.type b bm since last seen.toArray es l.length hbq e2 hold' hlast with⟨h0,hrun⟩|⟨e,he',d,hrun⟩
 ·unfold Oper.wpW execOp
  simp only [ho,hvx,Sem.run_bind,hrun,Result.andThen_ok,Sem.run_pure]
  refine hk _ _ I ι _ _ (.inl ⟨rfl,rfl,l1 h0⟩) (.tup rfl (fun i v c hv hc=>?_)) hr (Step.refl _ _ _ _)
  match i with
  | 0=>simp at hv hc;subst hv hc;exact .pv (.bool _)
  | i+1=>simp at hv
 obtain ⟨i,p,hip,hni,hbn,hkey,hval⟩:=l2 e he'
 obtain ⟨r1,r2⟩:=hr.drawn (w':={w with drawn:=d}) rfl rfl rfl rfl
 have hq2:Heap.get ((q,⟨gq,0,oq.ty,irows (.mp id g) since l.length (seen++[i])⟩)::H) q=some ⟨gq,0,oq.ty,irows (.mp id g) since l.length (seen++[i])⟩:=get_cons_same _ _ _
 have hmp:VRel {w with drawn:=d} I ι H (.map (some bm)) (.mp id g):=.mp ob hH (by omega) rfl fun _=>⟨hmz,bm,hιm,rfl⟩
 obtain ⟨k2,k3⟩:=Rel.rewrite (H':=(q,⟨gq,0,oq.ty,irows (.mp id g) since l.length (seen++[i])⟩)::H) (ob':=⟨gq,0,oq.ty,irows (.mp id g) since l.length (seen++[i])⟩) (x:=.mapIter (some bm) since (seen.toArray.push e.born) l.length) r1 hQ hι hsz hbq rfl rfl hgq.symm rfl
  (fun _ hs1 hI' hmono=>.inr (.inr (.inl ⟨rfl,b,bm,since,seen.toArray.push e.born,l.length,hι,hs1,hI',by simp [irows],⟨_,_,_,rfl,hmono _ _ hmp,.pv (.int _ _),.pv (.int _ _)⟩,fun j r hj=>by
   simp only [irows,List.getElem?_cons_succ,List.getElem?_map] at hj
   obtain ⟨n,hn,rfl⟩:=Option.map_eq_some_iff.1 hj
   refine⟨n,_,?_,rfl,.pv (.int _ _)⟩
   rw [hbn]
   simpa using hn⟩))) hq2 (fun j hj=>get_cons_other _ _ hj)
 unfold Oper.wpW execOp
 simp only [ho,hvx,Sem.run_bind,hrun,Result.andThen_ok,Sem.run_pure]
 refine hk _ _ I ι _ _ (.inr ⟨i,p,hip,hni,rfl,rfl⟩) (.tup rfl (fun j v c hv hc=>?_)) k2 (r2.trans k3)
 match j with
 | 0=>simp at hv hc;subst hv hc;exact .pv (.bool _)
 | 1=>simp at hv hc;subst hv hc;rw [hkey];exact .pv (κ.rep _ _ _)
 | 2=>simp at hv hc;subst hv hc;exact(hval.mono hr r2).mono r1 k3
 | j+3=>simp at hv
/-- The entry of the last step. -/
theorem opd_entry {i:Nat} {p:α×AV} (ho:o.op=.entry x) (hx:aeval E x=some (.it q gq)) (hQ:H.get q=some oq) (hgq:oq.g=gq) (hrq:oq.rows=irows (.mp id g) since l.length (seen++[i])) (hH:H.get id=some ob) (hg:ob.g=g) (hrows:ob.rows=mrows κ l) (hty:ob.ty=l.length)
  (hip:l[i]?=some p):OpD P N o E H (.tup [.pv (κ.pv p.1),p.2]) H :=
 .of_run fun a w I ι hr he=>by
  obtain ⟨hsz,b,hι,hvx⟩:=it_ptr (aeval_rel he hx) hQ hgq
  obtain ⟨bm,hιm,hmz,hbq,hI⟩:=iter_at (hr.obj q oq hQ) hsz hι hrq hH hg
  obtain ⟨es,e2,e3,e4⟩:=map_at (hr.obj id ob hH) hmz hιm hrows
  rw [hty] at e2
  obtain ⟨e,q1,q2,q3,q4⟩:=e4.rel i p hip
  have hf:es.find? (·.born == i)=some e:=by
   rw [← Array.find?_toList,← q2]
   refine find_born e es.toList ?_ (by simpa using Array.mem_of_getElem? q1)
   refine List.pairwise_iff_getElem.2 fun j k hj hk hjk=>?_
   have hk':k < es.size:=by simpa using hk
   have z1:=(e4.born (i:=k) (e:=es[k]) (Array.getElem?_eq_getElem hk')).1
   have z2:=(e4.born (i:=j) (e:=es[j]) (Array.getElem?_eq_getElem (by omega))).1
   simp only [List.getElem_map,Array.getElem_toList,z1,z2]
   omega
  refine⟨.tuple #[e.key,e.val],?_,.tup rfl (fun j v c hv hc=>?_)⟩
  ·simp only [execOp,ho,hvx]
   simp [Instr.entry,getObj,Sem.run,hbq,e2,hf]
  match j with
  | 0=>simp at hv hc;subst hv hc;rw [q3];exact .pv (κ.rep _ _ _)
  | 1=>simp at hv hc;subst hv hc;exact q4
  | j+2=>simp at hv
end
end
/-! ### entries of the model -/
section
variable {P:Program} {N:Nat} {o:Oper} {E:Env} {H:Heap} {f:Operand} {args:Array Operand} {at_:Array TypeId} {F:FuncId} {fn:Func} {e:Array Value→Sem Value} {vs:List AV} {r:AV}
/-- What an entry yields, at these arguments. -/
def ExtR (P:Program) (e:Array Value→Sem Value) (H:Heap) (vs:List AV) (r:AV):Prop :=
 ∀ (w:World) (I:Nat→Prop) (ι:Plc) (cs:Array Value),cs.size=vs.length→(∀ (i:Nat) (v:Value) (a:AV),cs[i]?=some v→vs[i]?=some a→VRel w I ι H v a)→∃ c,(e cs).run P w=.ok c w∧VRel w I ι H c r
theorem opd_ext (ho:o.op=.call {callee:=.value f,args:=args,argTypes:=at_}) (hf:aeval E f=some (.pv (.fn F))) (hF:P.funcs[F]?=some fn) (hname:(fn.name == "runtime.NumGoroutine")=false)
  (hb:fn.body.isNone=true) (hn:Extern.findNext fn=none) (he:Extern.find fn=some e) (hv:aargs E args.toList=some vs) (h:ExtR P e H vs r):OpD P N o E H r H :=
 .of_run fun a w I ι hr hE=>by
  have hfv:=(aeval_rel hE hf).fn_inv
  obtain ⟨h1,h2⟩:=mapM_aeval hE (aargs_mapM hv)
  obtain ⟨c,hc,hcr⟩:=h w I ι (args.map a.eval) (by simpa using h1) (fun i v b hv hb=>h2 i v b (by simpa using hv) hb)
  refine⟨c,?_,hcr⟩
  unfold execOp
  simp only [ho,resolve,hfv,Deferred.ofValue,Sem.run_bind,Sem.run_pure,Result.andThen_ok,invoke,Array.empty_append,Array.append_empty,run_callFunc_extern hF hname hb hn he,hc]
theorem two_vals {w:World} {I:Nat→Prop} {ι:Plc} {H:Heap} {x y:AV} {cs:Array Value} (hl:cs.size=[x,y].length) (h:∀ (i:Nat) (v:Value) (a:AV),cs[i]?=some v→[x,y][i]?=some a→VRel w I ι H v a):∃ u v,cs=#[u,v]∧VRel w I ι H u x∧VRel w I ι H v y:=by
 obtain ⟨l⟩:=cs
 match l,hl with
 | [u,v],_=>exact⟨u,v,rfl,h 0 u x rfl rfl,h 1 v y rfl rfl⟩
theorem ext_indexByte (s:ByteArray) (c:Int):ExtR P Extern.BytealgIndexByte.indexByte H [.pv (.str s),.pv (.int .u8 c)] (.pv (.int .i64 (Lib.indexByte s.data.toList c.toNat.toUInt8))):=by
 intro w I ι cs hl h
 obtain ⟨u,v,rfl,h1,h2⟩:=two_vals hl h
 rw [h1.str_inv,h2.int_inv]
 exact⟨_,Lib.run_indexByteString s c w,.pv (.int _ _)⟩
theorem ext_compare (s t:ByteArray):ExtR P Extern.BytealgCompare.compare H [.pv (.str s),.pv (.str t)] (.pv (.int .i64 (Lib.compareBytes s.data.toList t.data.toList))):=by
 intro w I ι cs hl h
 obtain ⟨u,v,rfl,h1,h2⟩:=two_vals hl h
 rw [h1.str_inv,h2.str_inv]
 exact⟨_,Lib.run_compareString s t w,.pv (.int _ _)⟩
end
/-- A slot is laid once more. -/
theorem al_dup {P:Program} {G0:Heap} {N:Nat} {ops:Array Oper} {K:Env→Heap→Prop} {E:Env} {H:Heap} {l:List Oper} {t:Tmp} {v:AV} (hb:E.get t=some v) (h:AL P G0 N ops K l ((t,v)::E) H):AL P G0 N ops K l E H:=by
 intro G hG a w hs
 refine h G hG a w (Ent.sub (G0:=G0) (fun k u hk=>?_) G hG N a w hs)
 by_cases e:t=k
 ·subst e
  rw [Env.get_cons_same] at hk
  rw [hb,hk]
 rwa [Env.get_cons_other _ _ e] at hk
end
end Go.Abs
namespace Go.Proofs.YtlnfjkdacimblaaGreatDoor
open Go.Abs
section
theorem slIndexByte_c (s:ByteArray) (c:Int) (H:Heap):ACalls Tryz.prog 130 [.pv (.str s),.pv (.int .u8 c)] H (fun r H'=>r=.pv (.int .i64 (Lib.indexByte s.data.toList c.toNat.toUInt8))∧H'=H):=by
 refine ACalls.pure ?_ (by simp) H
 refine Bd Tryz.func130 rfl Tryz.ntmps130<|Sq<|Rg<|Dd as'<|Zz<|Sq<|Rg<|Dd mv'<|Dd mv'<|Dd (by exact opd_ext rfl rfl Tryz.func174 rfl rfl rfl rfl rfl (ext_indexByte s c))<|Dd as'<|Zz<|awp_ret ?_
 refine Rt ?_
 exact⟨rfl,rfl⟩
theorem indexByte_c (s:ByteArray) (c:Int) (H:Heap):ACalls Tryz.prog 78 [.pv (.str s),.pv (.int .u8 c)] H (fun r H'=>r=.pv (.int .i64 (Lib.indexByte s.data.toList c.toNat.toUInt8))∧H'=H):=by
 refine ACalls.pure ?_ (by simp) H
 refine Bd Tryz.func78 rfl Tryz.ntmps78<|Sq<|Rg<|Dd as'<|Zz<|Sq<|Rg<|Dd mv'<|Dd mv'<|Dd (by exact opr_call rfl rfl Tryz.call130 rfl (slIndexByte_c s c _))<|Dd as'<|Zz<|awp_ret ?_
 refine Rt ?_
 exact⟨rfl,rfl⟩
/-! ### the classes of bytes -/
abbrev sBlank:ByteArray:=⟨#[32,9,10]⟩
abbrev sSym:ByteArray:=⟨#[59,44,46,58,40,41,123,125,91,93,61,60,62,47,45]⟩
def hasB (s:ByteArray) (n:Int):Bool:=decide (0≤Lib.indexByte s.data.toList n.toNat.toUInt8)
def isLet (n:Int):Bool:=(decide (97≤n)&&decide (n≤122))||(decide (65≤n)&&decide (n≤90))
def isDig (n:Int):Bool:=decide (48≤n)&&decide (n≤57)
def cls1 (n:Int):Int:=if isLet n then 3 else if isDig n then 4 else if hasB sBlank n then 1 else if hasB sSym n then 6 else 0
def cls (n:Int):Int:=if n=34 then 7 else if n=95 then 5 else if n=35 then 2 else cls1 n
def clsRow (c:Nat):List AV:=(List.range 256).map fun(i:Nat)=>.pv (.int .u8 (if i < c then cls1 i else 0))
def clsAgg:List AV:=(List.range 256).map fun(i:Nat)=>.pv (.int .u8 (cls i))
theorem clsRow_length (c:Nat):(clsRow c).length=256:=by simp [clsRow]
theorem clsRow_set {c:Nat} (hc:c < 256) {v:Int} (hv:cls1 c=v):(clsRow c).set c (.pv (.int .u8 v))=clsRow (c+1):=by
 apply List.ext_getElem
 ·simp [clsRow]
 intro i h1 h2
 simp only [clsRow,List.length_map,List.length_range] at h2
 rw [List.getElem_set]
 split
 ·next e=>subst e;simp [clsRow,hv]
 next e=>simp only [clsRow,List.getElem_map,List.getElem_range];congr 2;by_cases h:i < c<;>by_cases h':i < c+1<;>simp [h,h']<;>omega
theorem clsRow_same {c:Nat} (hc:c < 256) (hv:cls1 c=0):clsRow c=clsRow (c+1):=by
 rw [← clsRow_set hc hv]
 apply List.ext_getElem
 ·simp
 intro i h1 h2
 rw [List.getElem_set]
 split
 ·next e=>subst e;simp [clsRow]
 rfl
theorem clsRow_zero:List.replicate 256 (.pv (.int .u8 0))=clsRow 0:=by kernel_rfl
theorem clsRow_done:(((clsRow 256).set 35 (.pv (.int .u8 2))).set 95 (.pv (.int .u8 5))).set 34 (.pv (.int .u8 7))=clsAgg:=by kernel_rfl
theorem clsAgg_get {m:Nat} (h:m < 256):clsAgg[m]?=some (.pv (.int .u8 (cls m))):=by
 simp [clsAgg,h]
theorem cls_clo (c:Nat) (H:Heap):∀ r∈[clsRow c],∀ a∈r,Clo H a:=by
 intro r hr a ha
 rw [List.mem_singleton] at hr
 subst hr
 obtain ⟨i,_,rfl⟩:=List.mem_map.1 ha
 simp
theorem cls_cloA (H:Heap):Clo H (.agg clsAgg):=by
 rw [clo_agg]
 intro a ha
 obtain ⟨i,_,rfl⟩:=List.mem_map.1 ha
 simp
theorem zoCls:ZeroOf Tryz.prog 214 (List.replicate 256 (.pv (.int .u8 0))):=⟨_,.agg (List.replicate 256 (.pv (.int .u8 0))),Tryz.zeroValue214,.inl (by kernel_rfl),rfl⟩
theorem classes_c (H:Heap):ACalls Tryz.prog 183 [] H (fun r H'=>r=.agg clsAgg∧H'=H):=by
  refine ACalls.pure ?_ (by simp) H
  refine Bd Tryz.func183 rfl Tryz.ntmps183<|Sq<|Rg<|Dd (by exact x_alloc (id:=0) rfl zoCls rfl rfl)<|Zz<|Sq<|Rg<|Dd (by exact x_alloc (id:=1) rfl zoCls rfl rfl)<|Zz<|Sq<|Sq<|Rg<|Dd mv'<|Zz<|awp_block ?_
  rw [clsRow_zero]
  refine awp_loop (σ:=Nat) (fun c=>([(0,.ref 0 0 0 0),(1,.ref 1 0 0 0),(4,iv (c:Int))],[(1,bx 256 214 (clsRow c)),(0,bx 256 214 (clsRow 0))])) (fun c=>c≤256) (fun c=>256 - c) 0 (by omega) ?_ ?_
  · exact(Ent.wk (Ea<|Ea<|Eb<|trivial) (Hc (cls_clo _ _)<|Hc (cls_clo _ _)<|trivial) trivial)
  · intro c hc
    refine Sq<|Rg<|Dd lss'<|Zz<|Sq ?_
    refine Cn (fun hc1=>?_) fun hc1=>?_
    · have hlt:c < 256:=by have:=of_decide_eq_true hc1;omega
      refine awp_skip<|Sq<|awp_block<|Sq<|Rg<|Dd mv'<|Dd as'<|Zz<|Sq<|Rg<|Dd mv'<|Dd (by exact opd_conv_int rfl Tryz.underlying3 Tryz.underlying5 rfl (by exact wu8 (by omega) (by omega)))<|Dd as'<|Zz<|awp_block<|Sq<|Sq ?_
      refine awp_bool (t:=9) (n:=8) (X:=decide (97≤(c:Int))&&decide ((c:Int)≤122)) ?_ ?_
      · all_goals refine Dd mv' ?_
        all_goals refine Dd le' ?_
        all_goals refine Dd mv' ?_
        all_goals refine Sp 12 (fun h12=>?_) fun h12=>?_
        all_goals try contradiction
        all_goals first|refine Fo ?_|refine On mv' ?_
        all_goals first|refine Fo ?_|refine On le' ?_
        all_goals refine Dd pk' ?_
        all_goals refine Dd as' ?_
        all_goals refine al_nil ?_
        all_goals(exact⟨⟨_,rfl,by(simp only [*,Zo];done)⟩,rfl,rfl,rfl⟩)
      refine Cn (fun hc2=>?_) fun hc2=>?_
      · have hv:cls1 c=3:=by rw [cls1,isLet,hc2];rfl
        refine awp_skip ?_
        refine Cn (fun hc3=>?_) fun hc3=>?_
        · skip
          refine Rg<|Dd mv'<|Dd (by exact opd_index_arr (k2:=c) rfl Tryz.underlying214 Tryz.sizeOf5 rfl rfl rfl rfl (by omega) (by exact Int.toNat_natCast _) (by omega) (by omega))<|Uu (by exact x_store1 rfl Tryz.sizeOf5 rfl rfl rfl rfl rfl rfl (by rw [clsRow_length];omega) (clsRow_set hlt hv) rfl)<|Zz<|Rg<|Dd ad'<|Dd mv'<|Zz ?_
          exact⟨c+1,by omega,by omega,(Ent.wk (Ea<|Ea<|Eb<|trivial) (Hc (cls_clo _ _)<|Hc (cls_clo _ _)<|trivial) trivial)⟩
        · rw [hc2] at hc3;cases hc3
      · skip
        refine awp_bool (t:=9) (n:=8) (X:=decide (65≤(c:Int))&&decide ((c:Int)≤90)) ?_ ?_
        · all_goals refine Dd mv' ?_
          all_goals refine Dd le' ?_
          all_goals refine Dd mv' ?_
          all_goals refine Sp 18 (fun h18=>?_) fun h18=>?_
          all_goals try contradiction
          all_goals first|refine Fo ?_|refine On mv' ?_
          all_goals first|refine Fo ?_|refine On le' ?_
          all_goals refine Dd pk' ?_
          all_goals refine Dd as' ?_
          all_goals refine al_nil ?_
          all_goals(exact⟨⟨_,rfl,by(simp only [*,Zo];done)⟩,rfl,rfl,rfl⟩)
        refine Cn (fun hc4=>?_) fun hc4=>?_
        · have hv:cls1 c=3:=by rw [cls1,isLet,hc2,hc4];rfl
          refine Rg<|Dd mv'<|Dd (by exact opd_index_arr (k2:=c) rfl Tryz.underlying214 Tryz.sizeOf5 rfl rfl rfl rfl (by omega) (by exact Int.toNat_natCast _) (by omega) (by omega))<|Uu (by exact x_store1 rfl Tryz.sizeOf5 rfl rfl rfl rfl rfl rfl (by rw [clsRow_length];omega) (clsRow_set hlt hv) rfl)<|Zz<|Rg<|Dd ad'<|Dd mv'<|Zz ?_
          exact⟨c+1,by omega,by omega,(Ent.wk (Ea<|Ea<|Eb<|trivial) (Hc (cls_clo _ _)<|Hc (cls_clo _ _)<|trivial) trivial)⟩
        · skip
          refine Sq ?_
          refine awp_bool (t:=24) (n:=8) (X:=decide (48≤(c:Int))&&decide ((c:Int)≤57)) ?_ ?_
          · all_goals refine Dd mv' ?_
            all_goals refine Dd le' ?_
            all_goals refine Dd mv' ?_
            all_goals refine Sp 27 (fun h27=>?_) fun h27=>?_
            all_goals try contradiction
            all_goals first|refine Fo ?_|refine On mv' ?_
            all_goals first|refine Fo ?_|refine On le' ?_
            all_goals refine Dd pk' ?_
            all_goals refine Dd as' ?_
            all_goals refine al_nil ?_
            all_goals(exact⟨⟨_,rfl,by(simp only [*,Zo];done)⟩,rfl,rfl,rfl⟩)
          refine Cn (fun hc5=>?_) fun hc5=>?_
          · have hv:cls1 c=4:=by rw [cls1,isLet,hc2,hc4,isDig,hc5];rfl
            refine Rg<|Dd mv'<|Dd (by exact opd_index_arr (k2:=c) rfl Tryz.underlying214 Tryz.sizeOf5 rfl rfl rfl rfl (by omega) (by exact Int.toNat_natCast _) (by omega) (by omega))<|Uu (by exact x_store1 rfl Tryz.sizeOf5 rfl rfl rfl rfl rfl rfl (by rw [clsRow_length];omega) (clsRow_set hlt hv) rfl)<|Zz<|Rg<|Dd ad'<|Dd mv'<|Zz ?_
            exact⟨c+1,by omega,by omega,(Ent.wk (Ea<|Ea<|Eb<|trivial) (Hc (cls_clo _ _)<|Hc (cls_clo _ _)<|trivial) trivial)⟩
          · skip
            refine Sq<|Rg<|Dd mv'<|Dd (by exact opr_call rfl rfl Tryz.call78 rfl (indexByte_c _ _ _))<|Dd ge'<|Dd as'<|Zz ?_
            refine Cn (fun hc6=>?_) fun hc6=>?_
            · have hv:cls1 c=1:=by rw [cls1,isLet,hc2,hc4,isDig,hc5,hasB,hc6];rfl
              refine Rg<|Dd mv'<|Dd (by exact opd_index_arr (k2:=c) rfl Tryz.underlying214 Tryz.sizeOf5 rfl rfl rfl rfl (by omega) (by exact Int.toNat_natCast _) (by omega) (by omega))<|Uu (by exact x_store1 rfl Tryz.sizeOf5 rfl rfl rfl rfl rfl rfl (by rw [clsRow_length];omega) (clsRow_set hlt hv) rfl)<|Zz<|Rg<|Dd ad'<|Dd mv'<|Zz ?_
              exact⟨c+1,by omega,by omega,(Ent.wk (Ea<|Ea<|Eb<|trivial) (Hc (cls_clo _ _)<|Hc (cls_clo _ _)<|trivial) trivial)⟩
            · skip
              refine Sq<|Rg<|Dd mv'<|Dd (by exact opr_call rfl rfl Tryz.call78 rfl (indexByte_c _ _ _))<|Dd ge'<|Dd as'<|Zz ?_
              refine Cn (fun hc7=>?_) fun hc7=>?_
              · have hv:cls1 c=6:=by rw [cls1,isLet,hc2,hc4,isDig,hc5,hasB,hc6,hasB,hc7];rfl
                refine Rg<|Dd mv'<|Dd (by exact opd_index_arr (k2:=c) rfl Tryz.underlying214 Tryz.sizeOf5 rfl rfl rfl rfl (by omega) (by exact Int.toNat_natCast _) (by omega) (by omega))<|Uu (by exact x_store1 rfl Tryz.sizeOf5 rfl rfl rfl rfl rfl rfl (by rw [clsRow_length];omega) (clsRow_set hlt hv) rfl)<|Zz<|Rg<|Dd ad'<|Dd mv'<|Zz ?_
                exact⟨c+1,by omega,by omega,(Ent.wk (Ea<|Ea<|Eb<|trivial) (Hc (cls_clo _ _)<|Hc (cls_clo _ _)<|trivial) trivial)⟩
              · have hv:cls1 c=0:=by rw [cls1,isLet,hc2,hc4,isDig,hc5,hasB,hc6,hasB,hc7];rfl
                refine awp_skip<|Rg<|Dd ad'<|Dd mv'<|Zz ?_
                rw [clsRow_same hlt hv]
                exact⟨c+1,by omega,by omega,(Ent.wk (Ea<|Ea<|Eb<|trivial) (Hc (cls_clo _ _)<|Hc (cls_clo _ _)<|trivial) trivial)⟩
    · have : c = 256 := by have : ¬ ((c : Int) < 256) := by simpa using hc1
                           omega
      subst this
      refine awp_exit<|Sq<|Rg<|Dd (by exact opd_index_arr (k2:=35) rfl Tryz.underlying214 Tryz.sizeOf5 rfl rfl rfl rfl (by omega) rfl (by omega) rfl)<|Uu (by exact x_store1 rfl Tryz.sizeOf5 rfl rfl rfl rfl rfl rfl (by simp [clsRow_length]) rfl rfl)<|Dd (by exact opd_index_arr (k2:=95) rfl Tryz.underlying214 Tryz.sizeOf5 rfl rfl rfl rfl (by omega) rfl (by omega) rfl)<|Uu (by exact x_store1 rfl Tryz.sizeOf5 rfl rfl rfl rfl rfl rfl (by simp [clsRow_length]) rfl rfl)<|Dd (by exact opd_index_arr (k2:=34) rfl Tryz.underlying214 Tryz.sizeOf5 rfl rfl rfl rfl (by omega) rfl (by omega) rfl)<|Uu (by exact x_store1 rfl Tryz.sizeOf5 rfl rfl rfl rfl rfl rfl (by simp [clsRow_length]) rfl rfl)<|Zz<|Sq<|Rg<|Dd (by exact opd_loadn_ref rfl Tryz.isAgg214 Tryz.sizeOf214 rfl rfl rfl rfl (show List.take 256 (List.drop 0 _)=clsAgg by rw [← clsRow_done];rfl) rfl)<|Uu (sa' Tryz.sizeOf214)<|Zz<|awp_ret ?_
      refine aret1 (H':=[]) (.inr rfl) rfl (rval_cell rfl Tryz.isAgg214 Tryz.sizeOf214 rfl rfl rfl (show List.take 256 (List.drop 0 clsAgg)=clsAgg by rfl) rfl) (Fin.wk (by exact cls_cloA _) trivial trivial) ?_
      exact⟨rfl,rfl⟩
end
section
abbrev sNil:ByteArray:=⟨#[]⟩
theorem byteAt_nn (s:ByteArray) (k:Nat):0≤byteAt s k:=by unfold byteAt;omega
theorem byteAt_lt (s:ByteArray) (k:Nat):(byteAt s k).toNat < 256:=by
 unfold byteAt
 have:=(((s.data.toList[k]?).getD 0)).toNat_lt
 simpa using this
theorem clsAt (s:ByteArray) (k:Nat):clsAgg[(byteAt s k).toNat]?=some (.pv (.int .u8 (cls (byteAt s k)))):=by
 rw [clsAgg_get (byteAt_lt s k),Int.toNat_of_nonneg (byteAt_nn s k)]
theorem clsA_clo (H:Heap):∀ r∈[clsAgg],∀ a∈r,Clo H a:=by
 intro r hr a ha
 rw [List.mem_singleton] at hr
 subst hr
 have:=cls_cloA H
 rw [clo_agg] at this
 exact this a ha
def badC (s:ByteArray) (k:Nat):Bool:=!decide (cls (byteAt s k)=3)&&(decide ((k:Int)=0)||(!decide (cls (byteAt s k)=4)&&!decide (cls (byteAt s k)=5)))
def gName (s:ByteArray):Bool:=!((List.range s.size).any (badC s))&&(!decide (s=sNil)&&decide ((s.size:Int)≤24))
theorem range_any {n:Nat} {p:Nat→Bool} (h:∀ j,j < n→p j=false):(List.range n).any p=false:=by
 rw [List.any_eq_false]
 intro x hx
 rw [h x (List.mem_range.1 hx)]
 simp
theorem range_some {n k:Nat} {p:Nat→Bool} (hk:k < n) (h:p k=true):(List.range n).any p=true:=List.any_eq_true.2 ⟨k,List.mem_range.2 hk,h⟩
theorem name_c (s:ByteArray) (H:Heap) (hs:s.size < 4611686018427387904):ACalls Tryz.prog 142 [sv s] H (fun r H'=>r=bv (gName s)∧H'=H):=by
 refine ACalls.pure ?_ (by simp) H
 refine Bd Tryz.func142 rfl Tryz.ntmps142<|Sq<|Rg<|Dd as'<|Zz<|Sq<|Rg<|Dd (by exact opr_call rfl rfl Tryz.call183 rfl (classes_c _))<|Dd (by exact x_alloc (id:=3) rfl zoCls rfl rfl)<|Uu (by exact x_store_all rfl Tryz.sizeOf214 rfl rfl rfl rfl rfl rfl rfl (by simp))<|Zz<|Sq<|Sq<|Rg<|Dd mv'<|Dd (ls' Tryz.underlying9)<|Dd mv'<|Zz<|awp_block ?_
 refine awp_loop (σ:=Nat) (fun k=>([(0,sv s),(3,.ref 3 0 0 0),(8,iv (s.size:Int)),(9,iv (k:Int))],[(3,bx 256 214 clsAgg)])) (fun k=>k≤s.size∧∀ j,j < k→badC s j=false) (fun k=>s.size - k) 0 ⟨by omega,by omega⟩ ?_ ?_
 ·exact(Ent.wk (Eb<|Ea<|Eb<|Eb<|trivial) (Hc (clsA_clo _)<|trivial) trivial)
 rintro k ⟨hk,hno⟩
 refine Sq<|Rg<|Dd lss'<|Zz<|Sq ?_
 refine Cn (fun hc1=>?_) fun hc1=>?_
 ·have hlt:k < s.size:=by have:=of_decide_eq_true hc1;omega
  refine awp_skip<|Sq<|awp_block<|Sq<|Rg<|Dd mv'<|Dd as'<|Zz<|Sq<|Rg<|Dd mv'<|Dd mv'<|Dd (by exact opd_index_str rfl Tryz.underlying9 rfl rfl (by omega) (by exact Int.toNat_natCast _) (by omega) rfl)<|Dd (by exact opd_index_arr (m:=(byteAt s k).toNat) (k2:=(byteAt s k).toNat) rfl Tryz.underlying214 Tryz.sizeOf5 rfl rfl rfl rfl (byteAt_nn s k) rfl (byteAt_lt s k) (by omega))<|Dd (by exact opd_load1_ref rfl Tryz.isAgg5 rfl rfl rfl rfl (clsAt s k))<|Dd as'<|Zz<|Sq ?_
  refine awp_bool (t:=30) (n:=17) (X:=badC s k) ?_ ?_
  ·all_goals refine Dd mv' ?_
   all_goals refine Dd ne' ?_
   all_goals refine Dd mv' ?_
   all_goals refine Sp 19 (fun h19=>?_) fun h19=>?_
   all_goals try contradiction
   all_goals first|refine Fo ?_|refine On mv' ?_
   all_goals first|refine Fo ?_|refine On eql' ?_
   all_goals first|refine Fo ?_|refine On mv' ?_
   all_goals(first|refine Sp 22 (fun h22=>?_) fun h22=>?_|refine al_dup (t:=22) rfl ?_)
   all_goals try contradiction
   all_goals first|refine Fo ?_|refine Fu ?_|refine On mv' ?_
   all_goals first|refine Fo ?_|refine Fu ?_|refine On ne' ?_
   all_goals first|refine Fo ?_|refine Fu ?_|refine On mv' ?_
   all_goals(first|refine Sp 25 (fun h25=>?_) fun h25=>?_|refine al_dup (t:=25) rfl ?_)
   all_goals try contradiction
   all_goals first|refine Fo ?_|refine Fu ?_|refine On mv' ?_
   all_goals first|refine Fo ?_|refine Fu ?_|refine On ne' ?_
   all_goals first|refine Fo ?_|refine Fu ?_|refine On pk' ?_
   all_goals first|refine Fo ?_|refine On pk' ?_
   all_goals refine Dd pk' ?_
   all_goals refine al_nil ?_
   all_goals(exact⟨⟨_,rfl,by(simp only [badC, *];rfl)⟩,rfl,rfl,rfl⟩)
  refine Cn (fun hc2=>?_) fun hc2=>?_
  ·skip
   refine Sq<|Rg<|Dd as'<|Zz<|awp_ret ?_
   refine Rt ?_
   exact⟨by rw [gName,range_some hlt hc2];rfl,rfl⟩
  skip
  refine awp_skip<|Rg<|Dd ad'<|Dd mv'<|Zz ?_
  refine⟨k+1,⟨by omega,fun j hj=>?_⟩,by omega,(Ent.wk (Eb<|Ea<|Eb<|Eb<|trivial) (Hc (clsA_clo _)<|trivial) trivial)⟩
  by_cases e:j=k
  ·subst e;exact hc2
  exact hno j (by omega)
 have hge:k=s.size:=by have:=of_decide_eq_false hc1;omega
 refine awp_exit<|Sq ?_
 refine awp_bool (t:=2) (n:=9) (X:=!decide (s=sNil)&&decide ((s.size:Int)≤24)) ?_ ?_
 ·all_goals refine Dd mv' ?_
  all_goals refine Dd sn' ?_
  all_goals refine Dd mv' ?_
  all_goals refine Sp 34 (fun h34=>?_) fun h34=>?_
  all_goals try contradiction
  all_goals first|refine Fo ?_|refine On mv' ?_
  all_goals first|refine Fo ?_|refine On (ls' Tryz.underlying9) ?_
  all_goals first|refine Fo ?_|refine On le' ?_
  all_goals refine Dd pk' ?_
  all_goals refine Dd as' ?_
  all_goals refine al_nil ?_
  all_goals(exact⟨⟨_,rfl,by(simp only [badC, *];rfl)⟩,rfl,rfl,rfl⟩)
 refine awp_ret ?_
 refine Rt ?_
 subst hge
 exact⟨by rw [gName,range_any hno];rfl,rfl⟩
/-- A key's value. -/
def gGet (l:List GTag) (key:ByteArray):Option ByteArray:=(l.find? (fun t=>decide (t.key=key))).map (·.val)
theorem tagGet_c (l:List GTag) (key:ByteArray) (H:Heap) (hl:l.length < 4611686018427387904):ACalls Tryz.prog 110 [.pv (slTags l),sv key] H (fun r H'=>r=.tup [sv ((gGet l key).getD sNil),bv (gGet l key).isSome]∧H'=H):=by
  refine ACalls.pure ?_ (by simp) H
  refine Bd Tryz.func110 rfl Tryz.ntmps110<|Sq<|Rg<|Dd as'<|Dd as'<|Zz<|Sq<|Sq<|Rg<|Dd mv'<|Dd (ll' Tryz.underlying47)<|Dd mv'<|Zz<|awp_block ?_
  refine awp_loop (σ:=Nat) (fun k=>([(1,sv key),(8,.pv (slTags l)),(9,iv ((l.map encTag).length:Int)),(10,iv (k:Int))],[])) (fun k=>k≤l.length∧∀ j,j < k→∀ b,l[j]?=some b→decide (b.key=key)=false) (fun k=>l.length - k) 0 ⟨by omega,by omega⟩ ?_ ?_
  · exact Wk
  · rintro k ⟨hk,hno⟩
    refine Sq<|Rg<|Dd lss'<|Zz<|Sq ?_
    refine Cn (fun hc1=>?_) fun hc1=>?_
    · have hlt:k < l.length:=by simpa using hc1
      obtain ⟨o,ho⟩:=get_of_lt hlt
      have hi:=map_get (f:=encTag) ho
      refine awp_skip<|Sq<|awp_block<|Sq<|Rg<|Dd (xp' so47)<|Dd (by exact opd_loadn_pad rfl Tryz.isAgg117 Tryz.sizeOf117 rfl (by omega) (by simp only [Zl,encTag,encObj];rfl) rfl)<|Dd (by exact x_alloc (id:=7) rfl zo117 rfl rfl)<|Uu (sa' Tryz.sizeOf117)<|Zz<|Sq<|Rg<|Dd (fr' fo117_0)<|Dd (l1' Tryz.isAgg9)<|Dd mv'<|Dd se'<|Zz ?_
      refine Cn (fun hc2=>?_) fun hc2=>?_
      · skip
        refine Sq<|Rg<|Dd (fr' fo117_1)<|Dd (l1' Tryz.isAgg9)<|Dd as'<|Dd as'<|Zz<|awp_ret ?_
        refine Ru ?_
        exact⟨by rw [gGet,find_some hno ho hc2];rfl,rfl⟩
      · skip
        refine awp_skip<|Rg<|Dd ad'<|Dd mv'<|Zz ?_
        exact⟨k+1,⟨by omega,pre_succ hno ho hc2⟩,by omega,Wk⟩
    · have hge : k = l.length := by have : l.length ≤ k := by simpa using hc1
                                    omega
      subst hge
      refine awp_exit<|Sq<|Rg<|Dd as'<|Dd as'<|Zz<|awp_ret ?_
      refine Ru ?_
      exact⟨by rw [gGet,find_none hno];rfl,rfl⟩
end
section
/-- The key ahead of a place. -/
def before {α:Type} (f:α→ByteArray) (l:List α):Nat→ByteArray
 | 0=>sNil
 | k+1=>((l[k]?).map f).getD sNil
def sle (a b:ByteArray):Bool:=slt a b||decide (a=b)
def badTag (last:ByteArray) (t:GTag):Bool:=!gName t.key||sle t.key last||decide (t.val=sNil)||decide (200 < (t.val.size:Int))
def badAt {α:Type} (p:ByteArray→α→Bool) (f:α→ByteArray) (l:List α) (k:Nat):Bool:=match l[k]? with
 | some t=>p (before f l k) t
 | none=>false
theorem badAt_some {α:Type} {p:ByteArray→α→Bool} {f:α→ByteArray} {l:List α} {k:Nat} {t:α} (h:l[k]?=some t):badAt p f l k=p (before f l k) t:=by rw [badAt,h]
theorem before_succ {α:Type} {f:α→ByteArray} {l:List α} {k:Nat} {t:α} (h:l[k]?=some t):before f l (k+1)=f t:=by rw [before,h];rfl
def gTags (l:List GTag):Bool:=!((List.range l.length).any (badAt badTag GTag.key l))&&decide ((l.length:Int)≤60)
def okTags (l:List GTag):Prop:=l.length < 4611686018427387904∧∀ t∈l,t.key.size < 4611686018427387904∧t.val.size < 4611686018427387904
theorem tagValid_c (l:List GTag) (H:Heap) (hl:okTags l):ACalls Tryz.prog 143 [.pv (slTags l)] H (fun r H'=>r=bv (gTags l)∧H'=H):=by
 refine ACalls.pure ?_ (by simp) H
 obtain ⟨hl,hks⟩:=hl
 have hml:(l.map encTag).length=l.length:=List.length_map _
 refine Bd Tryz.func143 rfl Tryz.ntmps143<|Sq<|Rg<|Dd as'<|Zz<|Sq<|Rg<|Dd as'<|Zz<|Sq<|Sq<|Rg<|Dd mv'<|Dd (ll' Tryz.underlying47)<|Dd mv'<|Zz<|awp_block ?_
 refine awp_loop (σ:=Nat) (fun k=>([(0,.pv (slTags l)),(3,sv (before GTag.key l k)),(6,.pv (slTags l)),(7,iv ((l.map encTag).length:Int)),(8,iv (k:Int))],[])) (fun k=>k≤l.length∧∀ j,j < k→badAt badTag GTag.key l j=false) (fun k=>l.length - k) 0 ⟨by omega,by omega⟩ ?_ ?_
 ·exact Wk
 rintro k ⟨hk,hno⟩
 refine Sq<|Rg<|Dd lss'<|Zz<|Sq ?_
 refine Cn (fun hc1=>?_) fun hc1=>?_
 ·have hlt:k < l.length:=by have:=of_decide_eq_true hc1;omega
  obtain ⟨t,ht⟩:=get_of_lt hlt
  have hi:=map_get (f:=encTag) ht
  have hkt:=hks t (List.mem_of_getElem? ht)
  refine awp_skip<|Sq<|awp_block<|Sq<|Rg<|Dd (xp' so47)<|Dd (by exact opd_loadn_pad rfl Tryz.isAgg117 Tryz.sizeOf117 rfl (by omega) (by simp only [Zl,encTag,encObj];rfl) rfl)<|Dd (by exact x_alloc (id:=5) rfl zo117 rfl rfl)<|Uu (sa' Tryz.sizeOf117)<|Zz<|Sq<|Sq ?_
  refine awp_bool (t:=32) (n:=24) (X:=badTag (before GTag.key l k) t) ?_ ?_
  ·all_goals refine Dd (fr' fo117_0) ?_
   all_goals refine Dd (l1' Tryz.isAgg9) ?_
   all_goals refine Dd (by exact opr_call rfl rfl Tryz.call142 rfl (name_c t.key _ hkt.1)) ?_
   all_goals refine Dd no' ?_
   all_goals refine Dd mv' ?_
   all_goals refine Sp 16 (fun h16=>?_) fun h16=>?_
   all_goals try contradiction
   all_goals first|refine Fo ?_|refine On (fr' fo117_0) ?_
   all_goals first|refine Fo ?_|refine On (l1' Tryz.isAgg9) ?_
   all_goals first|refine Fo ?_|refine On mv' ?_
   all_goals first|refine Fo ?_|refine On (by exact opd_sleq rfl rfl rfl) ?_
   all_goals refine Dd pk' ?_
   all_goals refine Dd mv' ?_
   all_goals refine Sp 22 (fun h22=>?_) fun h22=>?_
   all_goals try contradiction
   all_goals first|refine Fo ?_|refine On (fr' fo117_1) ?_
   all_goals first|refine Fo ?_|refine On (l1' Tryz.isAgg9) ?_
   all_goals first|refine Fo ?_|refine On se' ?_
   all_goals refine Dd pk' ?_
   all_goals refine Dd mv' ?_
   all_goals refine Sp 27 (fun h27=>?_) fun h27=>?_
   all_goals try contradiction
   all_goals first|refine Fo ?_|refine On (fr' fo117_1) ?_
   all_goals first|refine Fo ?_|refine On (l1' Tryz.isAgg9) ?_
   all_goals first|refine Fo ?_|refine On (ls' Tryz.underlying9) ?_
   all_goals first|refine Fo ?_|refine On gt' ?_
   all_goals refine Dd pk' ?_
   all_goals refine al_nil ?_
   all_goals(exact⟨⟨_,rfl,by(simp only [badTag,sle, *];rfl)⟩,rfl,rfl,rfl⟩)
  refine Cn (fun hc2=>?_) fun hc2=>?_
  ·skip
   refine Sq<|Rg<|Dd as'<|Zz<|awp_ret ?_
   refine Rt ?_
   exact⟨by rw [gTags,range_some hlt ((badAt_some ht).trans hc2)];rfl,rfl⟩
  skip
  refine awp_skip<|Rg<|Dd (fr' fo117_0)<|Dd (l1' Tryz.isAgg9)<|Dd as'<|Zz<|Rg<|Dd ad'<|Dd mv'<|Zz ?_
  refine⟨k+1,⟨by omega,fun j hj=>?_⟩,by omega,?_⟩
  ·by_cases e:j=k
   ·subst e;exact(badAt_some ht).trans hc2
   exact hno j (by omega)
  rw [before_succ ht]
  exact Wk
 have hge:k=l.length:=by have:=of_decide_eq_false hc1;omega
 subst hge
 refine awp_exit<|Sq<|Rg<|Dd mv'<|Dd (ll' Tryz.underlying47)<|Dd le'<|Dd as'<|Zz<|awp_ret ?_
 refine Rt ?_
 exact⟨by rw [gTags,range_any hno,← hml];rfl,rfl⟩
end
end Go.Proofs.YtlnfjkdacimblaaGreatDoor
