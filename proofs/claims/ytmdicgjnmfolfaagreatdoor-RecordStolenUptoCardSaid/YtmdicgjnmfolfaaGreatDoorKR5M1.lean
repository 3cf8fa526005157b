/-
  Parts of the proof: rules of an abstract program logic, contracts of functions, plain laws. Conditions: each theorem's own.
-/
import Derived.Test.YtmdicgjnmfolfaaGreatDoorChecked
import Derived.WalkKit
import Derived.ProofKit
import Derived.Laws.AppendOwn
import Derived.Laws.CopyOwn
import Derived.Laws.MakeOwn
import Derived.RowKit3
import Derived.Deep.LoopGhost
import Derived.Orders
import Derived.OrdersIn
import Derived.TacticsIn
import Derived.RangeFuncRecord
set_option linter.unusedVariables false
set_option linter.unusedSimpArgs false
set_option maxRecDepth 100000
set_option maxHeartbeats 8000000
theorem aNr{p:Prop}[Decidable p](h:decide p=true):p:=of_decide_eq_true h
theorem aNs{p:Prop}[Decidable p](h:decide p=false):¬p:=of_decide_eq_false h
theorem aNt.{u}{c:Prop}{h:Decidable c}(n:¬c){α:Sort u}{t e:α}:(if c then t else e)=e:=if_neg n
theorem aNu.{u}{c:Prop}{h:Decidable c}(n:c){α:Sort u}{t e:α}:(if c then t else e)=t:=if_pos n
theorem aNv.{u,v}{α:Type u}{β:Type v}{l:List α}(f:α -> β):(l.map f).length=l.length:=List.length_map f
theorem aNw.{u}{α:Type u}{l m:List α}:(l++m).length=l.length+m.length:=List.length_append
theorem aNx.{u}{α:Type u}{a:α}{l:List α}:(a::l).length=l.length+1:=rfl
theorem aNy.{u}{α:Type u}{a b:α}:a ∈ [b] ↔ a=b:=List.mem_singleton
theorem aNz.{u}{α:Type u}{i:Nat}{a:α}{l:List α}:l[i]?=some a ↔ ∃h:i<l.length,l[i]=a:=List.getElem?_eq_some_iff
theorem aOA.{u}{α:Type u}{l:List α}{i:Nat}(h:i<l.length):l[i]?=some l[i]:=List.getElem?_eq_getElem h
theorem aOB(n:Nat):n <= n:=Nat.le_refl n
theorem aOC{p:Prop}[Decidable p]:(decide p=true)=p:=decide_eq_true_eq
theorem aOD{p:Prop}{x:Decidable p}:decide p=false ↔ ¬p:=decide_eq_false_iff_not
theorem aOE(a b:Bool):((a&&b)=true)=(a=true /\ b=true):=Bool.and_eq_true a b
theorem aOF.{u}{α:Type u}{l:List α}{i:Nat}{a:α}(h:l[i]?=some a):a ∈ l:=List.mem_of_getElem? h
theorem aOG(n:Nat):(n:Int).toNat=n:=rfl
theorem aOH.{u}{α:Type u}{b:α}{l:List α}{a:α}:a ∈ b::l ↔ a=b \/ a ∈ l:=List.mem_cons
theorem aOI{n m:Nat}(h:n.ble m=true):n <= m:=Nat.le_of_ble_eq_true h
theorem aOJ.{u}{α:Type u}{i:Nat}{l:List α}:(l.take i).length=min i l.length:=List.length_take
theorem aOK.{u}{α:Type u}{i:Nat}{l:List α}:(l.drop i).length=l.length-i:=List.length_drop
theorem aOL.{u}{α:Type u}{a:α}:¬a ∈ ([]:List α):=List.not_mem_nil
theorem aOM(n:Nat):0 <= n:=Nat.zero_le n
theorem aON(n:Nat):0+n=n:=Nat.zero_add n
theorem aOO(b:Bool):((!b)=true)=(b=false):=Bool.not_eq_true' b
theorem aOP.{u,v}{α:Type u}{β:Type v}{f:α -> β}{l:List α}{i:Nat}:(l.map f)[i]?=Option.map f l[i]?:=List.getElem?_map
theorem aOQ.{u}{α:Type u}{a:α}{l:List α}:a ∈ l ↔ ∃i:Nat,l[i]?=some a:=List.mem_iff_getElem?
theorem aOR{x y:Bool}:(x||y)=false ↔ x=false /\ y=false:=Bool.or_eq_false_iff
namespace Go.Abs
inductive GV where
 |ints (k:IntKind) (l:List Int)
 |face
def GV.holds:GV->Array Value->Prop
 |.ints k l,cs=>cs=(l.map fun z=>Value.int k z).toArray
 |.face,cs=>∃t p,cs=#[.iface t p]
def R8:List (Nat×GV):=[(3,.ints .u64 [1,10,100,1000,10000,100000,1000000,10000000,100000000,1000000000,10000000000,100000000000,1000000000000,10000000000000,100000000000000,1000000000000000,10000000000000000,100000000000000000,1000000000000000000,10000000000000000000]),(2,.face),(1,.face)]
end Go.Abs
section
namespace Go.Abs
variable{w w':World}{b j id cap:Nat}{I I':Nat->Prop}{v:Value}
inductive PV where
 |int (k:IntKind) (n:Int)
 |bool (b:Bool)
 |str (s:ByteArray)
 |sl (rows:List (List PV))
 |nilp
 |fn (f:FuncId)
 |nilfn
 |nils
 |nilm
 |slf (rows:List (List PV))
 |sat (p:Value->Prop)
 |ifc (t:TypeId) (p:PV)
 |ifa (t:TypeId) (ps:List PV)
 deriving Inhabited
variable{p:PV}
inductive PRep(w:World)(I:Nat->Prop):Value->PV->Prop
 |int (k:IntKind) (n:Int):PRep w I (.int k n) (.int k n)
 |bool (b:Bool):PRep w I (.bool b) (.bool b)
 |str (s:ByteArray):PRep w I (.string s) (.str s)
 |nilp:PRep w I (.pointer none) .nilp
 |fn (f:FuncId):PRep w I (.func (.func f) #[] #[]) (.fn f)
 |nilfn:PRep w I .nilFunc .nilfn
 |nilsl:PRep w I (.slice none 0 0) (.sl [])
 |nils:PRep w I (.slice none 0 0) .nils
 |nilm:PRep w I (.map none) .nilm
 |sat {v:Value} {p:Value->Prop} (h1:v.oneCell'=true) (h:p v):PRep w I v (.sat p)
 |slf (a:Addr) (n:Nat) (rows:List (List PV)) (h:PRep w I (.slice (some a) n n) (.sl rows)):PRep w I (.slice (some a) n n) (.slf rows)
 |ifc (t:TypeId) (v:Value) (p:PV) (h:PRep w I v p):PRep w I (.iface t v) (.ifc t p)
 |ifa (t:TypeId) (cs:Array Value) (ps:List PV) (hl:cs.size=ps.length) (h:∀(k:Nat) (c:Value) (p:PV),cs[k]?=some c->ps[k]?=some p->PRep w I c p):PRep w I (.iface t (.agg cs)) (.ifa t ps)
 |empsl (a:Addr):PRep w I (.slice (some a) 0 0) (.sl [])
 | sl (b off cap sz:Nat) (rows:List (List PV)) (cs:Nat->Nat->Value) (hI:I b) (hsz:0 < sz) (hlen:∀ r∈rows,r.length=sz) (hcap:rows.length<=cap)
   (hc:∀(i:Nat) (r:List PV),rows[i]?=some r->∀(k:Nat) (p:PV),r[k]?=some p->w.cell? ⟨b,off+i*sz+k,none⟩=some (cs i k))
   (hp:∀(i:Nat) (r:List PV),rows[i]?=some r->∀(k:Nat) (p:PV),r[k]?=some p->PRep w I (cs i k) p) :
   PRep w I (.slice (some ⟨b,off,none⟩) rows.length cap) (.sl rows)
theorem cell?_of_heap{o:Nat}(h:w'.heap[b]?=w.heap[b]?):w'.cell? ⟨b,o,none⟩=w.cell? ⟨b,o,none⟩:=by simp[World.cell?,h]
theorem PRep.mono(hw:∀b,I b->w'.heap[b]?=w.heap[b]?)(hI:∀b,I b->I' b)(h:PRep w I v p):PRep w' I' v p:=by
 induction h with
 |int k n=>exact .int k n
 |bool b=>exact .bool b
 |str s=>exact .str s
 |nilp=>exact .nilp
 |fn f=>exact .fn f
 |nilfn=>exact .nilfn
 |nilsl=>exact .nilsl
 |nils=>exact .nils
 |nilm=>exact .nilm
 |sat h1 h=>exact .sat h1 h
 |slf a n rows h ih=>exact .slf a n rows ih
 |ifc t v p h ih=>exact .ifc t v p ih
 |ifa t cs ps hl h ih=>exact .ifa t cs ps hl (fun k c p hc hp=>ih k c p hc hp)
 |empsl a=>exact .empsl a
 |sl b off cap sz rows cs hb hsz hlen hcap hc hp ih =>
  exact .sl b off cap sz rows cs (hI b hb) hsz hlen hcap (fun i r hr k p hk=>(cell?_of_heap (hw b hb)).trans (hc i r hr k p hk)) ih
theorem PRep.oneCell(h:PRep w I v p):v.oneCell'=true:=by cases h<;>first|rfl|assumption
inductive AV where
 |any
 |pv (p:PV)
 |ref (id g i k:Nat)
 |pad (rows:List (List PV)) (i k:Nat)
 |osl (id g off len:Nat)
 |clo (f:FuncId) (caps:List AV)
 |bnd (f:FuncId) (xs:List AV)
 |agg (cs:List AV)
 |tup (vs:List AV)
 |mp (id g:Nat)
 |it (id g:Nat)
 |osc (id g off len c:Nat)
 |yld (id g:Nat)
 |raw (x:Go.Loop) (ts:List Nat)
 deriving Inhabited
variable{a:AV}
structure Ob where
 g:Nat
 sz:Nat
 ty:TypeId
 rows:List (List AV)
variable{o:Ob}
abbrev aB:=List (Nat×Ob)
variable{H H':aB}
abbrev bS:=List (Nat×AV)
def aB.get:aB->Nat->Option Ob
 | [],_=>none
 |(i,o)::r,id=>cond (Nat.beq i id) (some o) (aB.get r id)
def aB.set:aB->Nat->Ob->aB
 | [],id,o=>[(id,o)]
 |(i,o')::r,id,o=>cond (Nat.beq i id) ((i,o)::r) ((i,o')::aB.set r id o)
def bS.get:bS->Nat->Option AV
 | [],_=>none
 |(i,v)::r,t=>cond (Nat.beq i t) (some v) (bS.get r t)
theorem kW(i:Nat):Nat.beq i i=true:=Nat.beq_refl i
theorem jC{i:Nat}(h:i≠j):Nat.beq i j=false:=by
 cases e:Nat.beq i j with
 |false=>rfl
 |true=>exact absurd (Nat.eq_of_beq_eq_true e) h
theorem aB.get_set_same(H:aB)(id:Nat)(o:Ob):(H.set id o).get id=some o:=by
 induction H with
 |nil=>simp[aB.set,aB.get,kW]
 |cons x r ih =>
  obtain ⟨i,o'⟩:=x;cases e:Nat.beq i id with
  |true=>simp[aB.set,aB.get,e]
  |false=>simp[aB.set,aB.get,e,ih]
theorem aB.get_set_other(H:aB)(o:Ob)(h:j≠id):(H.set id o).get j=H.get j:=by
 induction H with
 |nil=>simp[aB.set,aB.get,jC (Ne.symm h)]
 | cons x r ih =>
  obtain ⟨i,o'⟩:=x;cases e:Nat.beq i id with
  |true =>
   have:i=id:=Nat.eq_of_beq_eq_true e;subst this;simp[aB.set,aB.get,jC (Ne.symm h),e]
  |false=>simp[aB.set,aB.get,e,ih]
theorem bS.get_cons_same(E:bS)(t:Nat)(v:AV):bS.get ((t,v)::E) t=some v:=by simp[bS.get,kW]
theorem bS.get_cons_other(E:bS){t u:Nat}(v:AV)(h:t≠u):bS.get ((t,v)::E) u=E.get u:=by simp[bS.get,jC h]
abbrev dX:=Nat->Option (Nat×Nat)
variable{ι ι':dX}
inductive VRel(w:World)(I:Nat->Prop)(ι:dX)(H:aB):Value->AV->Prop
 |any (v:Value):VRel w I ι H v .any
 |pv {v:Value} {p:PV} (h:PRep w I v p):VRel w I ι H v (.pv p)
 | ref {v:Value} {id g i k:Nat} (o:Ob) (hH:H.get id=some o) (hg:g<=o.g) (h1:v.oneCell'=true)
   (h:o.g=g->0<o.sz/\∃b cap,ι id=some (b,cap)/\v=.pointer (some ⟨b,i*o.sz+k,none⟩)):VRel w I ι H v (.ref id g i k)
 | pad {rows:List (List PV)} {i k:Nat} (b off cap sz:Nat) (h:PRep w I (.slice (some ⟨b,off,none⟩) rows.length cap) (.sl rows)) (hsz:0 < sz) (hlen:∀ r∈rows,r.length=sz)
   (cs:Nat->Nat->Value) (hI:I b)
   (hc:∀(i:Nat) (r:List PV),rows[i]?=some r->∀(k:Nat) (p:PV),r[k]?=some p->w.cell? ⟨b,off+i*sz+k,none⟩=some (cs i k))
   (hp:∀(i:Nat) (r:List PV),rows[i]?=some r->∀(k:Nat) (p:PV),r[k]?=some p->PRep w I (cs i k) p) :
   VRel w I ι H (.pointer (some ⟨b,off+i*sz+k,none⟩)) (.pad rows i k)
 | osl {v:Value} {id g off len:Nat} (o:Ob) (hH:H.get id=some o) (hg:g<=o.g) (h1:v.oneCell'=true)
   (h:o.g=g->0<o.sz/\off+len<=o.rows.length /\
    ((∃b cap oo,ι id=some (b,cap)/\v=.slice (some ⟨b,oo,none⟩) len (cap - off)/\(off<cap\/off=0->oo=off*o.sz))\/(ι id=none/\v=.slice none 0 0/\off=0/\len=0))) :
   VRel w I ι H v (.osl id g off len)
 | clo {f:FuncId} {vs:Array Value} {caps:List AV} (hl:vs.size=caps.length) (h:∀ (i:Nat) (v:Value) (a:AV),vs[i]?=some v->caps[i]?=some a->VRel w I ι H v a) :
   VRel w I ι H (.func (.func f) #[] vs) (.clo f caps)
 | bnd {f:FuncId} {vs:Array Value} {xs:List AV} (hl:vs.size=xs.length) (h:∀ (i:Nat) (v:Value) (a:AV),vs[i]?=some v->xs[i]?=some a->VRel w I ι H v a) :
   VRel w I ι H (.func (.func f) vs #[]) (.bnd f xs)
 | agg {vs:Array Value} {cs:List AV} (hl:vs.size=cs.length) (h1:∀ (i:Nat) (v:Value),vs[i]?=some v->v.oneCell'=true) (h:∀ (i:Nat) (v:Value) (a:AV),vs[i]?=some v->cs[i]?=some a->VRel w I ι H v a) :
   VRel w I ι H (.agg vs) (.agg cs)
 | tup {vs:Array Value} {cs:List AV} (hl:vs.size=cs.length) (h:∀ (i:Nat) (v:Value) (a:AV),vs[i]?=some v->cs[i]?=some a->VRel w I ι H v a) :
   VRel w I ι H (.tuple vs) (.tup cs)
 |mp {v:Value} {id g:Nat} (o:Ob) (hH:H.get id=some o) (hg:g<=o.g) (h1:v.oneCell'=true) (h:o.g=g->o.sz=0/\∃b,ι id=some (b,0)/\v=.map (some b)):VRel w I ι H v (.mp id g)
 |it {v:Value} {id g:Nat} (o:Ob) (hH:H.get id=some o) (hg:g<=o.g) (h1:v.oneCell'=true) (h:o.g=g->o.sz=0/\∃b,ι id=some (b,1)/\v=.pointer (some ⟨b,0,none⟩)):VRel w I ι H v (.it id g)
 |yld {v:Value} {id g:Nat} (o:Ob) (hH:H.get id=some o) (hg:g<=o.g) (h1:v.oneCell'=true) (h:o.g=g->o.sz=0/\∃b,ι id=some (b,2)/\v=.func (.yield b) #[] #[]):VRel w I ι H v (.yld id g)
 | osc {v:Value} {id g off len c:Nat} (o:Ob) (hH:H.get id=some o) (hg:g<=o.g) (h1:v.oneCell'=true)
   (h:o.g=g->0<o.sz/\len<=c /\
    ((∃b oo,ι id=some (b,off+c)/\v=.slice (some ⟨b,oo,none⟩) len c/\(0<c\/off=0->oo=off*o.sz))\/(ι id=none/\v=.slice none 0 0/\off=0/\len=0/\c=0))) :
   VRel w I ι H v (.osc id g off len c)
def H9(ι:dX)(H:aB)(b:Nat):Prop:=∃id o cap,H.get id=some o/\ι id=some (b,cap)
def aAl(w:World)(I:Nat->Prop)(ι:dX)(H:aB)(id:Nat)(o:Ob):Prop :=0<o.sz/\(∀r∈o.rows,r.length=o.sz) /\
  ((∃ b cap cs,ι id=some (b,cap)/\w.heap[b]?=some (.cells cs o.ty (0,0))/\¬ I b/\cs.size=cap*o.sz/\o.rows.length<=cap/\cap<=maxLen /\
      ∀(i:Nat) (r:List AV),o.rows[i]?=some r->∀(k:Nat) (a:AV),r[k]?=some a->∃v,cs[i*o.sz+k]?=some v/\v.oneCell'=true/\VRel w I ι H v a) \/
   (ι id=none/\o.rows=[]))
def aF1(w:World)(I:Nat->Prop)(ι:dX)(H:aB)(id:Nat)(o:Ob):Prop :=o.sz=0/\∃b es,ι id=some (b,0)/\w.heap[b]?=some (.map es o.ty)/\¬ I b/\es.size=o.rows.length /\
  (∀(i:Nat) (e:MapEntry),es[i]?=some e->e.born<o.ty)/\(∀(i j:Nat) (e e':MapEntry),i<j->es[i]?=some e->es[j]?=some e'->e.born<e'.born) /\
  ∀(i:Nat) (r:List AV),o.rows[i]?=some r->∃e k a n,es[i]?=some e/\r=[k,a,n]/\VRel w I ι H e.key k/\VRel w I ι H e.val a/\VRel w I ι H (.int .i64 e.born) n
def aHv(w:World)(I:Nat->Prop)(ι:dX)(H:aB)(id:Nat)(o:Ob):Prop :=o.sz=0/\∃b bm since seen last,ι id=some (b,1)/\w.heap[b]?=some (.mapIter bm since seen last)/\¬ I b/\o.rows.length=seen.size+1 /\
  (∃m n k,o.rows[0]?=some [m,n,k]/\VRel w I ι H (.map bm) m/\VRel w I ι H (.int .i64 since) n/\VRel w I ι H (.int .i64 last) k) /\
  ∀(i:Nat) (r:List AV),o.rows[i+1]?=some r->∃x n,seen[i]?=some x/\r=[n]/\VRel w I ι H (.int .i64 x) n
def aFY(w:World)(I:Nat->Prop)(ι:dX)(H:aB)(id:Nat)(o:Ob):Prop :=o.sz=0/\∃b x,ι id=some (b,2)/\w.heap[b]?=some (.loop x)/\¬ I b/\∀y ts r,o.rows=[[.raw y ts],r]->x=y/\∀(i t:Nat) (a:AV),ts[i]?=some t->r[i]?=some a->∃c,x.tmps[t]?=some c/\VRel w I ι H c a
def jV(w:World)(I:Nat->Prop)(ι:dX)(H:aB)(id:Nat)(o:Ob):Prop:=aAl w I ι H id o\/aF1 w I ι H id o\/aHv w I ι H id o\/aFY w I ι H id o
theorem jV.cells(h:jV w I ι H id o)(hz:0<o.sz):aAl w I ι H id o:=by
 rcases h with h|h|h|h
 ·exact h
 ·have:=h.1;omega
 ·have:=h.1;omega
 have:=h.1;omega
theorem jV.map(h:jV w I ι H id o)(hz:o.sz=0)(hι:ι id=some (b,0)):aF1 w I ι H id o:=by
 rcases h with h|h|⟨_,b',_,_,_,_,e1,_⟩|⟨_,b',_,e1,_⟩
 ·have:=h.1;omega
 ·exact h
 ·rw[hι]at e1;cases e1
 rw[hι]at e1;cases e1
theorem jV.rec(h:jV w I ι H id o)(hz:o.sz=0)(hι:ι id=some (b,2)):aFY w I ι H id o:=by
 rcases h with h|⟨_,b',_,e1,_⟩|⟨_,b',_,_,_,_,e1,_⟩|h
 ·have:=h.1;omega
 ·rw[hι]at e1;cases e1
 ·rw[hι]at e1;cases e1
 exact h
theorem jV.block(h:jV w I ι H id o)(hi:ι id=some (b,cap)):b<w.heap.size/\¬ I b:=by
 rcases h with⟨_,_,⟨b',cap',cs,e1,e2,e3,_⟩|h1⟩|⟨_,b',es,e1,e2,e3,_⟩|⟨_,b',bm,since,seen,last,e1,e2,e3,_⟩|⟨_,b',x,e1,e2,e3,_⟩
 ·rw[hi]at e1;cases e1;exact⟨(Array.getElem?_eq_some_iff.1 e2).1,e3⟩
 ·rw[hi]at h1;cases h1.1
 ·rw[hi]at e1;cases e1;exact⟨(Array.getElem?_eq_some_iff.1 e2).1,e3⟩
 ·rw[hi]at e1;cases e1;exact⟨(Array.getElem?_eq_some_iff.1 e2).1,e3⟩
 rw[hi]at e1;cases e1;exact⟨(Array.getElem?_eq_some_iff.1 e2).1,e3⟩
theorem jV.pos{cs:Array Value}{t:TypeId}{f:Nat×Nat}(h:jV w I ι H id o)(hi:ι id=some (b,cap))(hb:w.heap[b]?=some (.cells cs t f)):0<o.sz:=by
 rcases h with h|⟨_,b',es,e1,e2,_⟩|⟨_,b',bm,since,seen,last,e1,e2,_⟩|⟨_,b',x,e1,e2,_⟩
 ·exact h.1
 ·rw[hi]at e1;cases e1;rw[hb]at e2;cases e2
 ·rw[hi]at e1;cases e1;rw[hb]at e2;cases e2
 rw[hi]at e1;cases e1;rw[hb]at e2;cases e2
theorem T7{rows rows':List (List AV)}(hl:rows.length=rows'.length)(h:∀(i:Nat) (r':List AV),rows'[i]?=some r'->∃r,rows[i]?=some r/\r.length=r'.length/\∀(k:Nat) (a a':AV),r[k]?=some a->r'[k]?=some a'->∀y ts,a'=.raw y ts->a=.raw y ts):
  ∀y ts r',rows'=[[.raw y ts],r']->∃r,rows=[[.raw y ts],r]:=by
 rintro y ts r' rfl
 match rows,hl with
 | [a,b],_ =>
  obtain ⟨r,h1,h2,h3⟩:=h 0 _ rfl;cases h1
  match a,h2 with
  | [x],_=>exact⟨b,by rw[h3 0 x _ rfl rfl y ts rfl]⟩
theorem jV.keepG{id':Nat}{o':Ob}(h:jV w I ι H id o)(hsz:o'.sz=o.sz)(hty:o'.ty=o.ty)(hlen:o'.rows.length=o.rows.length)
  (hraw:∀y ts r',o'.rows=[[.raw y ts],r']->∃r,o.rows=[[.raw y ts],r])
  (hι:ι' id'=ι id) (hw:∀b cap,ι id=some (b,cap)->b<w.heap.size->w'.heap[b]?=w.heap[b]?/\(¬ I b->¬ I' b))
  (hv:∀(i:Nat) (r':List AV),o'.rows[i]?=some r'->∃r,o.rows[i]?=some r/\r.length=r'.length/\∀(k:Nat) (a a':AV),r[k]?=some a->r'[k]?=some a'->∀v,VRel w I ι H v a->VRel w' I' ι' H' v a'):jV w' I' ι' H' id' o':=by
 rcases h with⟨p1,p2,⟨b,cap,cs,e1,e2,e3,e4,e5,e5',e6⟩|⟨e1,e2⟩⟩|⟨p1,b,es,e1,e2,e3,e4,e5,e6,e7⟩|⟨p1,b,bm,since,seen,last,e1,e2,e3,e4,⟨m,n,q,z1,z2,z3,z4⟩,e6⟩|⟨p1,b,x,e1,e2,e3,e4⟩
 ·obtain ⟨k1,k2⟩:=hw b cap e1 (Array.getElem?_eq_some_iff.1 e2).1;refine .inl ⟨by omega,fun r' hr'=>?_,.inl ⟨b,cap,cs,hι.trans e1,by rw[hty];exact k1.trans e2,k2 e3,by rw[hsz];exact e4,by omega,e5',fun i r' hi k a' hk=>?_⟩⟩
  ·obtain ⟨i,hi⟩:=aOQ.1 hr';obtain ⟨r,q1,q2,q3⟩:=hv i r' hi;rw[<-q2,hsz];exact p2 r (aOF q1)
  obtain ⟨r,q1,q2,q3⟩:=hv i r' hi;have hkl:k<r.length:=by rw[q2];exact(aNz.1 hk).1
  obtain ⟨v,z1,z2,z3⟩:=e6 i r q1 k _ (aOA hkl);exact⟨v,by rw[hsz];exact z1,z2,q3 k _ a' (aOA hkl) hk v z3⟩
 ·have h0:o'.rows=[]:=List.eq_nil_of_length_eq_zero (by rw[hlen,e2];rfl);exact .inl ⟨by omega,by rw[h0];simp,.inr ⟨hι.trans e1,h0⟩⟩
 ·obtain ⟨k1,k2⟩:=hw b 0 e1 (Array.getElem?_eq_some_iff.1 e2).1;refine .inr (.inl ⟨by omega,b,es,hι.trans e1,by rw[hty];exact k1.trans e2,k2 e3,by omega,by rw[hty];exact e5,e6,fun i r' hi=>?_⟩);obtain ⟨r,q1,q2,q3⟩:=hv i r' hi;obtain ⟨e,k,a,n,z1,z2,z3,z4,z5⟩:=e7 i r q1;subst z2
  match r',q2 with
  | [k',a',n'],_=>exact⟨e,k',a',n',z1,rfl,q3 0 k k' rfl rfl _ z3,q3 1 a a' rfl rfl _ z4,q3 2 n n' rfl rfl _ z5⟩
 ·obtain ⟨k1,k2⟩:=hw b 1 e1 (Array.getElem?_eq_some_iff.1 e2).1;refine .inr (.inr (.inl ⟨by omega,b,bm,since,seen,last,hι.trans e1,k1.trans e2,k2 e3,by omega,?_,fun i r' hi=>?_⟩))
  ·have hlt:0<o'.rows.length:=by omega
   obtain ⟨r,q1,q2,q3⟩:=hv 0 _ (aOA hlt);rw[z1]at q1;obtain rfl:=Option.some.inj q1;have h0:=aOA hlt;generalize o'.rows[0]=r' at q2 q3 h0
   match r',q2 with
   | [m',n',q'],_=>exact⟨m',n',q',h0,q3 0 m m' rfl rfl _ z2,q3 1 n n' rfl rfl _ z3,q3 2 q q' rfl rfl _ z4⟩
  obtain ⟨r,q1,q2,q3⟩:=hv (i+1) r' hi;obtain ⟨x,n,y1,y2,y3⟩:=e6 i r q1;subst y2
  match r',q2 with
  | [n'],_=>exact⟨x,n',y1,rfl,q3 0 n n' rfl rfl _ y3⟩
 obtain ⟨k1,k2⟩:=hw b 2 e1 (Array.getElem?_eq_some_iff.1 e2).1;refine .inr (.inr (.inr ⟨by omega,b,x,hι.trans e1,k1.trans e2,k2 e3,fun y ts r' hy=>?_⟩));obtain ⟨r,hr⟩:=hraw y ts r' hy;obtain ⟨q1,q2⟩:=e4 y ts r hr;refine⟨q1,fun i t a' ht ha=>?_⟩;obtain ⟨r0,z1,z2,z3⟩:=hv 1 r' (by rw[hy];rfl);rw[hr]at z1;cases z1;have hlt:i<r.length:=by rw[z2];exact(aNz.1 ha).1
 obtain ⟨c,c1,c2⟩:=q2 i t _ ht (aOA hlt);exact⟨c,c1,z3 i _ a' (aOA hlt) ha c c2⟩
theorem jV.keep(h:jV w I ι H id o)
  (hι:ι' id=ι id) (hw:∀b cap,ι id=some (b,cap)->b<w.heap.size->w'.heap[b]?=w.heap[b]?/\(¬ I b->¬ I' b))
  (hv:∀r∈o.rows,∀a∈r,∀v,VRel w I ι H v a->VRel w' I' ι' H' v a):jV w' I' ι' H' id o :=
 h.keepG rfl rfl rfl (fun _ _ r h=>⟨r,h⟩) hι hw fun i r hi=>⟨r,hi,rfl,fun k a a' h1 h2 v hvv=>by
  rw[h1]at h2;cases h2;exact hv r (aOF hi) a (aOF h1) v hvv⟩
def M2(I:Nat->Prop)(w:World):Prop:=∀p∈R8,I p.1/\∃cs t f,w.heap[p.1]?=some (.cells cs t f)/\p.2.holds cs
theorem M2.mono(hw:∀b,I b->w'.heap[b]?=w.heap[b]?)(hI:∀b,I b->I' b)(h:M2 I w):M2 I' w':=fun p hp=>by
 obtain ⟨h1,cs,t,f,h2,h3⟩:=h p hp;exact⟨hI _ h1,cs,t,f,(hw _ h1).trans h2,h3⟩
structure Rel(I:Nat->Prop)(ι:dX)(H:aB)(w:World):Prop where
 imm:∀b,I b->b<w.heap.size
 obj:∀id o,H.get id=some o->jV w I ι H id o
 inj:∀id id' o o' b c c',H.get id=some o->H.get id'=some o'->ι id=some (b,c)->ι id'=some (b,c')->id=id'
 glob:M2 I w
structure Step(I:Nat->Prop)(ι:dX)(H:aB)(w:World)(I':Nat->Prop)(ι':dX)(H':aB)(w':World):Prop where
 os:w'.os=w.os
 tape:w'.tape=w.tape
 output:w'.output=w.output
 size:w.heap.size<=w'.heap.size
 froz:∀a,a.block<w.heap.size->¬ H9 ι H a.block->w'.frozen? a=w.frozen? a
 imm:∀b,I b->I' b
 immNew:∀b,I' b->I b\/H9 ι H b\/w.heap.size<=b
 own:∀b,H9 ι' H' b->H9 ι H b\/w.heap.size<=b
 keep:∀b,b<w.heap.size->¬ H9 ι H b->w'.heap[b]?=w.heap[b]?
 objs:∀id o,H.get id=some o->∃o',H'.get id=some o'/\o.g<=o'.g/\(o'.g=o.g->ι' id=ι id/\o'.sz=o.sz/\(0<o.sz->o.rows.length<=o'.rows.length))
theorem Rel.lt(h:Rel I ι H w)(hb:H9 ι H b):b<w.heap.size :=let ⟨id,o,_,ho,hi⟩:=hb;((h.obj id o ho).block hi).1
theorem Rel.notImm(h:Rel I ι H w)(hb:H9 ι H b):¬ I b :=let ⟨id,o,_,ho,hi⟩:=hb;((h.obj id o ho).block hi).2
theorem Step.refl(I:Nat->Prop)(ι:dX)(H:aB)(w:World):Step I ι H w I ι H w :=⟨rfl,rfl,rfl,aOB _,fun _ _ _=>rfl,fun _ h=>h,fun _ h=>.inl h,fun _ h=>.inl h,fun _ _ _=>rfl,fun _ o h=>⟨o,h,aOB _,fun _=>⟨rfl,rfl,fun _=>aOB _⟩⟩⟩
theorem Step.trans{I'':Nat->Prop}{ι'':dX}{H'':aB}{w'':World}(h:Step I ι H w I' ι' H' w')(h':Step I' ι' H' w' I'' ι'' H'' w''):
  Step I ι H w I'' ι'' H'' w'' where
 os:=h'.os.trans h.os
 tape:=h'.tape.trans h.tape
 output:=h'.output.trans h.output
 size:=Nat.le_trans h.size h'.size
 froz:=fun a ha hn=>(h'.froz a (Nat.lt_of_lt_of_le ha h.size) (fun ho=>by
  rcases h.own _ ho with h1|h1
  ·exact hn h1
  omega)).trans (h.froz a ha hn)
 imm:=fun b hb=>h'.imm b (h.imm b hb)
 immNew:=fun b hb=>by
  rcases h'.immNew b hb with h1|h1|h1
  ·exact h.immNew b h1
  ·exact .inr (h.own b h1)
  exact .inr (.inr (Nat.le_trans h.size h1))
 own:=fun b hb=>by
  rcases h'.own b hb with h1|h1
  ·exact h.own b h1
  exact .inr (Nat.le_trans h.size h1)
 keep:=fun b hb hn=>by
  have hn':¬ H9 ι' H' b:=fun ho=>by
   rcases h.own b ho with h1|h1
   ·exact hn h1
   omega
  exact(h'.keep b (Nat.lt_of_lt_of_le hb h.size) hn').trans (h.keep b hb hn)
 objs:=fun id o ho=>by
  obtain ⟨o1,e1,l1,k1⟩:=h.objs id o ho;obtain ⟨o2,e2,l2,k2⟩:=h'.objs id o1 e1;refine⟨o2,e2,Nat.le_trans l1 l2,fun e=>?_⟩;have g1:o1.g=o.g:=by omega
  obtain ⟨a1,a2,a3⟩:=k1 g1;obtain ⟨b1,b2,b3⟩:=k2 (by omega);exact⟨b1.trans a1,b2.trans a2,fun hz=>Nat.le_trans (a3 hz) (b3 (by omega))⟩
theorem VRel.mono'(hw:∀b,I b->w'.heap[b]?=w.heap[b]?)(hI:∀b,I b->I' b)
  (hH:∀id o,H.get id=some o->∃o',H'.get id=some o'/\o.g<=o'.g/\(o'.g=o.g->ι' id=ι id/\o'.sz=o.sz/\(0<o.sz->o.rows.length<=o'.rows.length))) (h:VRel w I ι H v a):VRel w' I' ι' H' v a:=by
 induction h with
 |any v=>exact .any v
 |pv h=>exact .pv (h.mono hw hI)
 |ref o hO hg hone h =>
  obtain ⟨o',e,l,k⟩:=hH _ o hO;refine .ref o' e (Nat.le_trans hg l) hone fun hgo=>?_;obtain ⟨k1,k2,k3⟩:=k (by omega);obtain ⟨hz,b,cap,h2,h3⟩:=h (by omega);exact⟨by omega,b,cap,k1.trans h2,by rw[k2];exact h3⟩
 |pad b off cap sz h hsz hlen cs hb hc hp =>
  exact .pad b off cap sz (h.mono hw hI) hsz hlen cs (hI b hb) (fun i r hr k p hk=>(cell?_of_heap (hw b hb)).trans (hc i r hr k p hk)) (fun i r hr k p hk=>(hp i r hr k p hk).mono hw hI)
 |osl o hO hg hone h =>
  obtain ⟨o',e,l,k⟩:=hH _ o hO;refine .osl o' e (Nat.le_trans hg l) hone fun hgo=>?_;obtain ⟨k1,k2,k3⟩:=k (by omega);obtain ⟨hz,h2,h3⟩:=h (by omega);refine⟨by omega,Nat.le_trans h2 (k3 hz),?_⟩;rw[k1,k2];exact h3
 |clo hl h ih=>exact .clo hl fun i v a hv ha=>ih i v a hv ha
 |bnd hl h ih=>exact .bnd hl fun i v a hv ha=>ih i v a hv ha
 |agg hl h1 h ih=>exact .agg hl h1 fun i v a hv ha=>ih i v a hv ha
 |tup hl h ih=>exact .tup hl fun i v a hv ha=>ih i v a hv ha
 |mp o hO hg hone h =>
  obtain ⟨o',e,l,k⟩:=hH _ o hO;refine .mp o' e (Nat.le_trans hg l) hone fun hgo=>?_;obtain ⟨k1,k2,k3⟩:=k (by omega);obtain ⟨hz,b,h2,h3⟩:=h (by omega);exact⟨by omega,b,k1.trans h2,h3⟩
 |it o hO hg hone h =>
  obtain ⟨o',e,l,k⟩:=hH _ o hO;refine .it o' e (Nat.le_trans hg l) hone fun hgo=>?_;obtain ⟨k1,k2,k3⟩:=k (by omega);obtain ⟨hz,b,h2,h3⟩:=h (by omega);exact⟨by omega,b,k1.trans h2,h3⟩
 |yld o hO hg hone h =>
  obtain ⟨o',e,l,k⟩:=hH _ o hO;refine .yld o' e (Nat.le_trans hg l) hone fun hgo=>?_;obtain ⟨k1,k2,k3⟩:=k (by omega);obtain ⟨hz,b,h2,h3⟩:=h (by omega);exact⟨by omega,b,k1.trans h2,h3⟩
 |osc o hO hg hone h =>
  obtain ⟨o',e,l,k⟩:=hH _ o hO;refine .osc o' e (Nat.le_trans hg l) hone fun hgo=>?_;obtain ⟨k1,k2,k3⟩:=k (by omega);obtain ⟨hz,h2,h3⟩:=h (by omega);refine⟨by omega,h2,?_⟩;rw[k1,k2];exact h3
section inv
theorem VRel.pv_inv(h:VRel w I ι H v (.pv p)):PRep w I v p:=by cases h with|pv h=>exact h
theorem VRel.bool_inv{b:Bool}(h:VRel w I ι H v (.pv (.bool b))):v=.bool b:=by cases h with|pv h=>cases h;rfl
theorem VRel.int_inv{k:IntKind}{n:Int}(h:VRel w I ι H v (.pv (.int k n))):v=.int k n:=by cases h with|pv h=>cases h;rfl
theorem VRel.str_inv{s:ByteArray}(h:VRel w I ι H v (.pv (.str s))):v=.string s:=by cases h with|pv h=>cases h;rfl
theorem VRel.nilp_inv(h:VRel w I ι H v (.pv .nilp)):v=.pointer none:=by cases h with|pv h=>cases h;rfl
theorem VRel.fn_inv{f:FuncId}(h:VRel w I ι H v (.pv (.fn f))):v=.func (.func f) #[] #[]:=by cases h with|pv h=>cases h;rfl
end inv
theorem Step.imms(h:Step I ι H w I' ι' H' w')(hr:Rel I ι H w):∀b,I b->w'.heap[b]?=w.heap[b]? :=fun b hb=>h.keep b (hr.imm b hb) (fun ho=>hr.notImm ho hb)
theorem Step.glob(h:Step I ι H w I' ι' H' w')(hr:Rel I ι H w):M2 I' w':=hr.glob.mono (h.imms hr) h.imm
theorem VRel.mono(hr:Rel I ι H w)(hs:Step I ι H w I' ι' H' w')(h:VRel w I ι H v a):VRel w' I' ι' H' v a:=h.mono' (hs.imms hr) hs.imm hs.objs
end Go.Abs
end
section
namespace Go
def Oper.uponW(P:Program)(o:Oper)(a:Act)(next:Act->World->Prop)(Q:Exit->Act->World->Prop):Result Next->Prop
 |.ok (.value v) w'=>next (a.put o.dst v) w'
 |.ok .skip w'=>next (a.put o.dst undef) w'
 |.ok (.defer d) w'=>next ({a with defers:=d::a.defers}.put o.dst undef) w'
 | .ok (.enter f args) w'=>Calls P f args w' fun
   |.returned v,w''=>next (a.put o.dst v) w''
   |.panicked chain,w''=>Q (.panic chain) a w''
   |.outgrown,_=>LetsOut Q
 |.ok (.row row args) w'=>Rows P row args w' fun v w''=>next (a.put o.dst v) w''
 | .ok (.round l f tmps assign body) w'=>RoundIn Fence.wide 0 P l f tmps assign body w' fun
   |.returned v,w''=>next (a.put o.dst v) w''
   |.panicked chain,w''=>Q (.panic chain) a w''
   |.outgrown,_=>LetsOut Q
 |.halt (.panic v) w'=>Q (.panic [{v,recovered:=false}]) a w'
 |_=>False
def Oper.wpW(P:Program)(o:Oper)(a:Act)(w:World)(next:Act->World->Prop)(Q:Exit->Act->World->Prop):Prop :=o.uponW P a next Q ((execOp a.eval o).run P w)
theorem Oper.uponW_enter(P:Program)(o:Oper)(a:Act)(next:Act->World->Prop)(Q:Exit->Act->World->Prop)(w:World)(f:FuncId)(args:Array Value):o.uponW P a next Q (.ok (.enter f args) w)=Calls P f args w fun
  |.returned v,w''=>next (a.put o.dst v) w''
  |.panicked chain,w''=>Q (.panic chain) a w''
  |.outgrown,_=>LetsOut Q:=rfl
def RF(ro:Option Nat):Fence:={Fence.wide with round:=ro}
def Oper.noDefer(o:Oper):Bool:=match o.op with|.defer _=>false|_=>true
theorem Oper.wpW_in{P:Program}{o:Oper}{a:Act}{w:World}{next:Act->World->Prop}{Q:Exit->Act->World->Prop}{ro:Option Nat}(hn:ro=none\/o.noDefer=true)(h:o.wpW P a w next Q):o.wpIn (RF ro) 0 P a w next Q:=by
 refine⟨fun _ _=>trivial,?_⟩;have e:o.semAt (RF ro).round a.eval=execOp a.eval o:=by
  rcases hn with rfl|hn
  ·rfl
  exact Oper.semAt_eq _ _ _ (fun c hc=>by rw[Oper.noDefer,hc]at hn;cases hn)
 rw[e];unfold Oper.wpW at h;generalize (execOp a.eval o).run P w=r at h |-
 match r,h with
 |.ok (.value v) w',h=>exact h
 |.ok .skip w',h=>exact h
 |.ok (.defer d) w',h=>exact h
 |.ok (.enter f args) w',h=>exact⟨(fun q=>by cases q),(callsIn_wide (n:=0)).2 h⟩
 |.ok (.row row args) w',h=>exact⟨(fun q=>by cases q),fun c cs _=>let ⟨v,w2,r,s⟩:=h c cs;⟨v,w2,r,stepsIn_wide.2 s⟩⟩
 |.ok (.round l f tmps assign body) w',h=>exact⟨(fun q=>by cases q),h⟩
 |.halt (.panic v) w',h=>exact h
def gK:Code->Bool
 |.seq a b|.cond _ a b=>gK a&&gK b
 |.block _ c|.loop c|.scope c=>gK c
 |.region _ ops _=>ops.toList.all Oper.noDefer
 |.rangeFunc _ _ _ _=>false
 |_=>true
theorem IB{F:Fence}{n:Nat}{P:Program}{Q:Exit->Act->World->Prop}{a:Act}{w:World}{c:Code}(I:Nat->Act->World->Prop)(n₀:Nat)(h₀:I n₀ a w)
  (round:∀n' a w,I n' a w->c.wpIn F n P (Exit.then (fun a' w'=>∃m,m<n'/\I m a' w') Q) a w):(Code.loop c).wpIn F n P Q a w:=by
 refine wpIn_loop (fun a w=>∃n,I n a w) (fun a w=>leastOf (fun n=>I n a w)) ⟨n₀,h₀⟩ ?_;intro a w hI;refine wpIn_mono (round _ a w (leastOf_spec hI).1) ?_;intro e a' w' hq;cases e with
 |normal =>
  obtain ⟨n',hlt,hI'⟩:=hq;exact show (∃n,I n a' w')/\leastOf (fun n=>I n a' w')<leastOf (fun n=>I n a w)from⟨⟨n',hI'⟩,Nat.lt_of_le_of_lt ((leastOf_spec ⟨n',hI'⟩).2 n' hI') hlt⟩
 |exit id=>exact hq
 |goto l=>exact hq
 |ret=>exact hq
 |panic ch=>exact hq
 |outgrown=>exact hq
end Go
namespace Go.Abs
variable{H H' H2:aB}{c x y:Code}{id j:Nat}{w w':World}{I I':Nat->Prop}{ι ι':dX}{v:AV}{a:Act}{b want:Bool}{ops:Array Oper}{K:bS->aB->Prop}{o:Oper}{R:AV->aB->Prop}{ro:Option Nat}{rest:List Oper}{t:Tmp}
def iB(w:World)(I:Nat->Prop)(ι:dX)(H:aB)(E:bS)(a:Act):Prop:=∀t v,E.get t=some v->∃c,a.tmps[t]?=some c/\VRel w I ι H c v
structure Entry where
 I:Nat->Prop
 ι:dX
 H:aB
 w:World
 ds:List Deferred
def mark(D:Nat):Deferred:={target:=.collected D,args:=#[]}
def pF(ds0:List Deferred)(w0 w:World)(ds:List Deferred):Prop:=∃Ds:List Nat,ds=Ds.map mark++ds0/\Ds.Nodup/\∀D∈Ds,w0.heap.size<=D/\w.heap[D]?=some (.deferred (some []))
theorem pF.nil(ds0:List Deferred)(w0 w:World):pF ds0 w0 w ds0:=⟨[],rfl,List.nodup_nil,fun D h=>by cases h⟩
structure St(G:Entry)(N:Nat)(E:bS)(H:aB)(a:Act)(w:World):Prop where
 defers:pF G.ds G.w w a.defers
 size:a.tmps.size=N
 rel:∃I ι,Rel I ι H w/\Step G.I G.ι G.H G.w I ι H w/\iB w I ι H E a
def fL(P:Program)(G0:aB)(N:Nat)(c:Code)(Q:Exit->bS->aB->Prop)(E:bS)(H:aB):Prop :=∀G:Entry,G.H=G0->∀a w,St G N E H a w->∀ro,(ro=none\/gK c=true)->c.wpIn (RF ro) 0 P (fun e a w=>∃E H,Q e E H/\St G N E H a w) a w
def cD(G0:aB)(E:bS)(H:aB)(E':bS)(H':aB):Prop:=∀G:Entry,G.H=G0->∀N a w,St G N E H a w->St G N E' H' a w
def aH(P:Program)(f:FuncId)(args:List AV)(H:aB)(Q:AV->aB->Prop):Prop :=∀(I:Nat->Prop) (ι:dX) (w:World) (vs:Array Value),Rel I ι H w->vs.size=args.length->(∀(i:Nat) (v:Value) (a:AV),vs[i]?=some v->args[i]?=some a->VRel w I ι H v a) ->
  Calls P f vs w fun e w'=>∃r H' I' ι' v,e=.returned v/\Q r H'/\VRel w' I' ι' H' v r/\Rel I' ι' H' w'/\Step I ι H w I' ι' H' w'
theorem aH.mono{P:Program}{f:FuncId}{args:List AV}{Q Q':AV->aB->Prop}(h:aH P f args H Q)(hq:∀r H',Q r H'->Q' r H'):aH P f args H Q' :=fun I ι w vs hr hl hv=>(h I ι w vs hr hl hv).mono fun _ _ ⟨r,H',I',ι',v,e,q,rest⟩=>⟨r,H',I',ι',v,e,hq _ _ q,rest⟩
section control
variable{P:Program}{G0:aB}{N:Nat}{Q:Exit->bS->aB->Prop}{E:bS}
theorem fL.mono{Q':Exit->bS->aB->Prop}(h:fL P G0 N c Q E H)(hq:∀e E H,Q e E H->Q' e E H):fL P G0 N c Q' E H :=fun G hG a w hs ro hr=>wpIn_mono (h G hG a w hs ro hr) fun _ _ _ ⟨E,H,q,s⟩=>⟨E,H,hq _ _ _ q,s⟩
theorem fL.ent{E':bS}(he:cD G0 E H E' H')(h:fL P G0 N c Q E' H'):fL P G0 N c Q E H :=fun G hG a w hs ro hr=>h G hG a w (he G hG N a w hs) ro hr
theorem aF(h:Q .normal E H):fL P G0 N .skip Q E H:=fun _ _ _ _ hs _ _=>wpIn_skip ⟨E,H,h,hs⟩
theorem aCL{l:Nat}(h:Q .normal E H):fL P G0 N (.label l) Q E H:=fun _ _ _ _ hs _ _=>wpIn_label ⟨E,H,h,hs⟩
theorem aE(h:Q .ret E H):fL P G0 N .ret Q E H:=fun _ _ _ _ hs _ _=>wpIn_ret ⟨E,H,h,hs⟩
theorem aY(h:Q (.exit id) E H):fL P G0 N (.exit id) Q E H:=fun _ _ _ _ hs _ _=>wpIn_exit ⟨E,H,h,hs⟩
def xA(K:bS->aB->Prop)(Q:Exit->bS->aB->Prop):Exit->bS->aB->Prop
 |.normal,E,H=>K E H
 |e,E,H=>Q e E H
theorem FE(h:fL P G0 N x (xA (fL P G0 N y Q) Q) E H):fL P G0 N (.seq x y) Q E H:=by intro G hG a w hs ro hr;have h1:ro=none\/gK x=true:=hr.imp id fun h=>(aOE _ _▸h:gK x=true/\gK y=true).1;have h2:ro=none\/gK y=true:=hr.imp id fun h=>(aOE _ _▸h:gK x=true/\gK y=true).2;refine wpIn_seq (wpIn_mono (h G hG a w hs ro h1) ?_);rintro e a' w' ⟨E',H',q,s⟩;cases e<;>first|exact q G hG a' w' s ro h2|exact⟨E',H',q,s⟩
theorem ZA(E':bS)(H':aB)(h:fL P G0 N x (xA (fun E1 H1=>cD G0 E1 H1 E' H') Q) E H)(h':fL P G0 N y Q E' H'):fL P G0 N (.seq x y) Q E H :=FE (h.mono fun e E1 H1 q=>by cases e<;>first|exact q|exact fL.ent q h')
def FM(id:Nat)(Q:Exit->bS->aB->Prop):Exit->bS->aB->Prop
 |.exit id',E,H=>cond (Nat.beq id' id) (Q .normal E H) (Q (.exit id') E H)
 |e,E,H=>Q e E H
theorem aD(h:fL P G0 N c (FM id Q) E H):fL P G0 N (.block id c) Q E H:=by
 intro G hG a w hs ro hr;refine wpIn_block (wpIn_mono (h G hG a w hs ro hr) ?_);rintro e a' w' ⟨E',H',q,s⟩;cases e<;>try exact⟨E',H',q,s⟩
 rename_i id';simp only[FM]at q;simp only[Exit.inBlock]
 split
 ·rename_i e1;subst e1;rw[kW]at q;exact⟨E',H',q,s⟩
 rename_i e1;rw[jC e1]at q;exact⟨E',H',q,s⟩
abbrev GB:PV:=.sat (·=.nilIface)
def cv:Value->Option AV
 |.int k n=>some (.pv (.int k n))
 |.bool b=>some (.pv (.bool b))
 |.string s=>some (.pv (.str s))
 |.pointer none=>some (.pv .nilp)
 |.slice none 0 0=>some (.pv (.sl []))
 |.nilFunc=>some (.pv .nilfn)
 |.map none=>some (.pv .nilm)
 |.nilIface=>some (.pv GB)
 |_=>none
def aO(E:bS):Operand->Option AV
 |.tmp t=>E.get t
 |.const v=>cv v
 |.func f=>some (.pv (.fn f))
 |.global _=>none
theorem MF{v:Value}{a:AV}(h:cv v=some a):VRel w I ι H v a/\v.oneCell'=true:=by
 unfold cv at h
 split at h<;>cases h
 ·exact⟨.pv (.int _ _),rfl⟩
 ·exact⟨.pv (.bool _),rfl⟩
 ·exact⟨.pv (.str _),rfl⟩
 ·exact⟨.pv .nilp,rfl⟩
 ·exact⟨.pv .nilsl,rfl⟩
 ·exact⟨.pv .nilfn,rfl⟩
 ·exact⟨.pv .nilm,rfl⟩
 exact⟨.pv (.sat rfl rfl),rfl⟩
theorem aI{x:Operand}(he:iB w I ι H E a)(h:aO E x=some v):VRel w I ι H (a.eval x) v:=by
 cases x with
 |tmp t =>
  obtain ⟨c,hc,hv⟩:=he t v h
  simpa[Act.eval,hc]using hv
 |const c=>exact(MF h).1
 |func f=>simp only[aO,Option.some.injEq]at h;subst h;exact .pv (.fn f)
 |global g=>cases h
theorem aFD{c:Operand}(hc:aO E c=some (.pv (.bool b)))(h1:b=true->fL P G0 N x Q E H)(h2:b=false->fL P G0 N y Q E H):
  fL P G0 N (.cond c x y) Q E H:=by
 intro G hG a w hs ro hro;obtain ⟨I,ι,hr,hst,he⟩:=hs.rel;have hv:=aI he hc;have hb:a.eval c=.bool b:=hv.bool_inv;have q1:ro=none\/gK x=true:=hro.imp id fun h=>(aOE _ _▸h:gK x=true/\gK y=true).1;have q2:ro=none\/gK y=true:=hro.imp id fun h=>(aOE _ _▸h:gK x=true/\gK y=true).2;exact wpIn_cond_split hb (fun e=>h1 e G hG a w hs ro q1) (fun e=>h2 e G hG a w hs ro q2)
theorem bL{σ:Type}(S:σ->bS×aB)(J:σ->Prop)(μ:σ->Nat)(s0:σ)(h0:J s0)(hin:cD G0 E H (S s0).1 (S s0).2)
  (round:∀s,J s->fL P G0 N c (xA (fun E' H'=>∃s',J s'/\μ s'<μ s/\cD G0 E' H' (S s').1 (S s').2) Q) (S s).1 (S s).2):fL P G0 N (.loop c) Q E H:=by
 intro G hG a w hs ro hr;refine IB (I:=fun n a w=>∃s,J s/\μ s=n/\St G N (S s).1 (S s).2 a w) (μ s0) ⟨s0,h0,rfl,hin G hG N a w hs⟩ ?_;rintro n a w ⟨s,hJ,rfl,hst⟩;refine wpIn_mono (round s hJ G hG a w hst ro hr) ?_;rintro e a' w' ⟨E',H',q,s'⟩;cases e<;>try exact⟨E',H',q,s'⟩
 obtain ⟨s2,h2,h3,h4⟩:=q;exact⟨μ s2,h3,s2,h2,rfl,h4 G hG N a' w' s'⟩
def ZH(P:Program)(N:Nat)(o:Oper)(E:bS)(H:aB)(R:AV->aB->Prop):Prop :=∀(a:Act) (w:World) (I:Nat->Prop) (ι:dX),True->a.tmps.size=N->Rel I ι H w->iB w I ι H E a->∀(K:Act->World->Prop) (Q:Exit->Act->World->Prop),
  (∀c w' I' ι' r H',R r H'->VRel w' I' ι' H' c r->Rel I' ι' H' w'->Step I ι H w I' ι' H' w'->K (a.put o.dst c) w')->o.wpW P a w K Q
def cH(P:Program)(N:Nat)(o:Oper)(E:bS)(H:aB)(v:AV)(H2:aB):Prop:=ZH P N o E H (fun r H'=>r=v/\H'=H2)
def iZ(E:bS):Option Tmp->AV->bS
 |none,_=>E
 |some d,v=>(d,v)::E
def gY(N:Nat):Option Tmp->Bool
 |none=>true
 |some d=>Nat.blt d N
theorem iB.put{c:Value}{r:AV}{d:Option Tmp}(hr:Rel I ι H w)(hs:Step I ι H w I' ι' H' w')
  (he:iB w I ι H E a) (hv:VRel w' I' ι' H' c r) (hd:gY a.tmps.size d=true):iB w' I' ι' H' (iZ E d r) (a.put d c):=by
 cases d with
 |none=>exact fun t v h=>let ⟨c,h1,h2⟩:=he t v h;⟨c,h1,h2.mono hr hs⟩
 |some d =>
  intro t v h;simp only[iZ]at h;have hlt:d<a.tmps.size:=by simpa[gY,Nat.blt_eq]using hd
  by_cases e:d=t
  ·subst e;rw[bS.get_cons_same]at h;cases h;exact⟨c,by simp[Act.put,hlt],hv⟩
  rw[bS.get_cons_other _ _ e]at h;obtain ⟨c',h1,h2⟩:=he t v h;exact⟨c',by simp[Act.put,Array.getElem?_setIfInBounds_ne e,h1],h2.mono hr hs⟩
def AL(P:Program)(G0:aB)(N:Nat)(ops:Array Oper)(K:bS->aB->Prop)(l:List Oper)(E:bS)(H:aB):Prop :=∀G:Entry,G.H=G0->∀a w,St G N E H a w->∀ro,(ro=none\/l.all Oper.noDefer=true)->∀Q:Exit->Act->World->Prop,(∀E H a w,K E H->St G N E H a w->Q .normal a w)->wpListIn (RF ro) 0 P ops Q l a w
theorem ZD(h:K E H):AL P G0 N ops K [] E H:=fun _ _ a w hs _ _ _ hq=>hq _ _ a w h hs
theorem wD(hr:Rel I ι H w){D:Nat}{x:Option (List Deferred)}(hD:w.heap[D]?=some (.deferred x)):¬ H9 ι H D:=by
 rintro⟨id,o,cap,ho,hi⟩;rcases hr.obj id o ho with⟨_,_,⟨b',cap',cs,e1,e2,_⟩|h1⟩|⟨_,b',es,e1,e2,_⟩|⟨_,b',bm,since,seen,last,e1,e2,_⟩|⟨_,b',x,e1,e2,_⟩
 ·rw[hi]at e1;cases e1;rw[hD]at e2;cases e2
 ·rw[hi]at h1;cases h1.1
 ·rw[hi]at e1;cases e1;rw[hD]at e2;cases e2
 ·rw[hi]at e1;cases e1;rw[hD]at e2;cases e2
 rw[hi]at e1;cases e1;rw[hD]at e2;cases e2
theorem pF.step{w0:World}{ds0 ds:List Deferred}(hr:Rel I ι H w)(hs:Step I ι H w I' ι' H' w')(h:pF ds0 w0 w ds):pF ds0 w0 w' ds:=by obtain ⟨Ds,e1,e2,e3⟩:=h;refine⟨Ds,e1,e2,fun D hD=>⟨(e3 D hD).1,?_⟩⟩;have h1:=(e3 D hD).2;rw[hs.keep D (Array.getElem?_eq_some_iff.1 h1).1 (wD hr h1)];exact h1
theorem gC(a:Act)(d:Option Tmp)(v:Value):(a.put d v).defers=a.defers:=by cases d<;>rfl
theorem St.op{G:Entry}(hs:St G N E H a w)(hd:gY N o.dst=true)(h:ZH P N o E H R){K:Act->World->Prop}{Q:Exit->Act->World->Prop}
  (hk:∀r H' a' w',R r H'->St G N (iZ E o.dst r) H' a' w'->K a' w') (hn:ro=none\/o.noDefer=true):o.wpIn (RF ro) 0 P a w K Q:=by
 refine Oper.wpW_in hn ?_;obtain ⟨I,ι,hr,hst,he⟩:=hs.rel;refine h a w I ι trivial hs.size hr he K Q ?_;intro c w' I' ι' r H' hR hv hr' hs';refine hk r H' _ w' hR ⟨?_,?_,I',ι',hr',hst.trans hs',iB.put hr hs' he hv (by rw[hs.size];exact hd)⟩
 ·rw[gC];exact hs.defers.step hr hs'
 have:=hs.size;cases o.dst<;>simpa[Act.put]using this
theorem kI(h:ro=none\/(o::rest).all Oper.noDefer=true):(ro=none\/o.noDefer=true)/\(ro=none\/rest.all Oper.noDefer=true):=by
 rcases h with h|h
 ·exact⟨.inl h,.inl h⟩
 rw[List.all_cons,aOE]at h;exact⟨.inr h.1,.inr h.2⟩
theorem aKH(hg:o.guard=none)(hd:gY N o.dst=true)(h:ZH P N o E H R)
  (hk:∀r H',R r H'->AL P G0 N ops K rest (iZ E o.dst r) H'):AL P G0 N ops K (o::rest) E H:=by
 intro G hG a w hs ro hro Q hq;refine wpListIn_plain hg fun K' hK=>?_;exact hs.op hd h (fun r H' a' w' hR hs'=>hK _ _ (hk r H' hR G hG a' w' hs' ro (kI hro).2 Q hq)) (kI hro).1
theorem ZE{d:Tmp}(hg:o.guard=none)(hd:o.dst=some d)(hn:Nat.blt d N=true)(h:cH P N o E H v H2)
  (hk:AL P G0 N ops K rest ((d,v)::E) H2):AL P G0 N ops K (o::rest) E H :=
 aKH hg (by rw[hd];exact hn) h fun r H' ⟨e1,e2⟩=>by subst e1 e2;rw[hd];exact hk
theorem aNL(hg:o.guard=none)(hd:o.dst=none)(h:cH P N o E H v H2)
  (hk:AL P G0 N ops K rest E H2):AL P G0 N ops K (o::rest) E H :=
 aKH hg (by rw[hd];rfl) h fun r H' ⟨e1,e2⟩=>by subst e1 e2;rw[hd];exact hk
def iD(ops:List Oper)(j:Nat):Option Tmp:=(ops[j]?).bind (·.dst)
theorem rY(hj:iD ops.toList j=some t)(hb:E.get t=some (.pv (.bool b)))(he:iB w I ι H E a):
  yielded ops a.tmps j=some b:=by
 obtain ⟨c,hc,hv⟩:=he t _ hb;have hcb:c=.bool b:=hv.bool_inv;subst hcb;unfold yielded;have:(ops[j]?).bind (·.dst)=some t:=by simpa[iD]using hj
 rw[this];simp[hc]
theorem aMA(hg:o.guard=some (j,want))(hj:iD ops.toList j=some t)
  (hb:E.get t=some (.pv (.bool b))) (hw:b=want) (hd:gY N o.dst=true) (h:ZH P N o E H R) (hk:∀r H',R r H'->AL P G0 N ops K rest (iZ E o.dst r) H'):AL P G0 N ops K (o::rest) E H:=by
 intro G hG a w hs ro hro Q hq;have hy:=rY (ops:=ops) hj hb hs.rel.choose_spec.choose_spec.2.2;unfold wpListIn;have hwant:Region.wanted o (yielded ops a.tmps)=true:=by simp[Region.wanted,hg,hy,hw]
 simp only[hwant,if_true];exact hs.op hd h (fun r H' a' w' hR hs'=>hk r H' hR G hG a' w' hs' ro (kI hro).2 Q hq) (kI hro).1
def UO(want:Bool):AV->Bool
 |.pv (.bool b)=>b == !want
 |.tup []=>true
 |_=>false
theorem U8(hj:iD ops.toList j=some t)(hb:E.get t=some (.tup []))(he:iB w I ι H E a):yielded ops a.tmps j=none:=by
 obtain ⟨c,hc,hv⟩:=he t _ hb;unfold yielded;have:(ops[j]?).bind (·.dst)=some t:=by simpa[iD]using hj
 rw[this];cases hv;simp[hc]
theorem GM{x:AV}(hg:o.guard=some (j,want))(hj:iD ops.toList j=some t)(hb:E.get t=some x)(hw:UO want x=true)(he:iB w I ι H E a):
  Region.wanted o (yielded ops a.tmps)=false:=by
 unfold UO at hw
 split at hw
 ·next b =>
  have hy:=rY (ops:=ops) hj hb he;have hbw:b=!want:=by simpa using hw
  subst hbw;cases want<;>simp[Region.wanted,hg,hy]
 ·have hy:=U8 (ops:=ops) hj hb he;simp[Region.wanted,hg,hy]
 cases hw
theorem iB.skip:VRel w I ι H undef (.tup []):=.tup rfl (fun i v a h=>by simp at h)
theorem aAg{x:AV}(hg:o.guard=some (j,want))(hj:iD ops.toList j=some t)
  (hb:E.get t=some x) (hw:UO want x=true) (hd:gY N o.dst=true) (hk:AL P G0 N ops K rest (iZ E o.dst (.tup [])) H):AL P G0 N ops K (o::rest) E H:=by
 intro G hG a w hs ro hro Q hq;obtain ⟨I,ι,hr,hst,he⟩:=hs.rel;unfold wpListIn;have hwant:Region.wanted o (yielded ops a.tmps)=false:=GM hg hj hb hw he;simp only[hwant,Bool.false_eq_true,if_false];refine⟨fun _ _=>trivial,?_⟩;refine hk G hG _ w ⟨?_,?_,I,ι,hr,hst,iB.put hr (Step.refl _ _ _ _) he iB.skip (by rw[hs.size];exact hd)⟩ ro (kI hro).2 Q hq
 ·rw[gC];exact hs.defers
 have:=hs.size;cases o.dst<;>simpa[Act.put]using this
theorem aKJ(hg:o.guard=some (j,want))(hj:iD ops.toList j=some t)
  (hb:E.get t=some (.pv (.bool b))) (hw:b=!want) (hd:gY N o.dst=true) (hk:AL P G0 N ops K rest (iZ E o.dst (.tup [])) H):AL P G0 N ops K (o::rest) E H :=
 aAg hg hj hb (by simp[UO,hw]) hd hk
theorem aHt(hg:o.guard=some (j,want))(hj:iD ops.toList j=some t)
  (hb:E.get t=some (.tup [])) (hd:gY N o.dst=true) (hk:AL P G0 N ops K rest (iZ E o.dst (.tup [])) H):AL P G0 N ops K (o::rest) E H :=
 aAg hg hj hb rfl hd hk
theorem yR(h:AL P G0 N ops (fun E H=>Q .normal E H) ops.toList E H):fL P G0 N (.region id ops false) Q E H:=by intro G hG a w hs ro hr;exact wpIn_region_list (h G hG a w hs ro hr _ fun E H a w q s=>⟨E,H,q,s⟩)
end control
end Go.Abs
end
section
namespace Go.Abs
variable{v:AV}{x c y:Operand}{b:Bool}{op:BinOp}{a:Act}{w:World}{yk k:IntKind}{p:Option Addr}{I:Nat->Prop}{ι:dX}{id g off len:Nat}{ob:Ob}{vs:List AV}{n m r:Int}{rows:List (List PV)}
section
variable{P:Program}{N:Nat}{o:Oper}{E:bS}{H:aB}
theorem cH.of_run(h:∀(a:Act) (w:World) (I:Nat->Prop) (ι:dX),Rel I ι H w->iB w I ι H E a->∃c,(execOp a.eval o).run P w=.ok (.value c) w/\VRel w I ι H c v):cH P N o E H v H:=by intro a w I ι _ _ hr he K Q hk;obtain ⟨c,hrun,hv⟩:=h a w I ι hr he;unfold Oper.wpW;rw[hrun];exact hk c w I ι v H ⟨rfl,rfl⟩ hv hr (Step.refl _ _ _ _)
theorem eP(ho:o.op=.move x)(hx:aO E x=some v):cH P N o E H v H :=.of_run fun a w I ι hr he=>⟨a.eval x,by simp[execOp,ho],aI he hx⟩
theorem tE(ho:o.op=.assign x)(hx:aO E x=some v):cH P N o E H v H :=.of_run fun a w I ι hr he=>⟨a.eval x,by simp[execOp,ho],aI he hx⟩
theorem AM(ho:o.op=.pick c x y)(hc:aO E c=some (.pv (.bool b)))(hv:aO E (if b then x else y)=some v):cH P N o E H v H :=.of_run fun a w I ι hr he=>by
  have hb:=(aI he hc).bool_inv;refine⟨_,by simp[execOp,ho,hb,asBool];rfl,?_⟩;cases b<;>exact aI he hv
theorem aJT(ho:o.op=.pick c x y)(hc:aO E c=some (.pv (.bool true)))(hv:aO E x=some v):cH P N o E H v H :=AM ho hc (by simpa using hv)
theorem aJU(ho:o.op=.pick c x y)(hc:aO E c=some (.pv (.bool false)))(hv:aO E y=some v):cH P N o E H v H :=AM ho hc (by simpa using hv)
theorem aGh{t:TypeId}(ho:o.op=.unOp .not t x)(hx:aO E x=some (.pv (.bool b))):cH P N o E H (.pv (.bool (!b))) H :=.of_run fun a w I ι hr he=>by
  have hb:=(aI he hx).bool_inv;exact⟨_,by simp[execOp,ho,hb,Op.unary],.pv (.bool _)⟩
section ints
variable{t t':TypeId}
theorem iS(ho:o.op=.binOp op t x y t')(hx:a.eval x=.int k n):(execOp a.eval o).run P w=((binOp op t (.int k n) (a.eval y)).run P w).andThen fun v w=>.ok (.value v) w:=by simp only[execOp,ho,hx,eqGuard_at_int,Sem.run_bind,Sem.run_pure,Result.andThen_ok]
theorem bG(ho:o.op=.binOp .add t x y t')(hx:aO E x=some (.pv (.int k n)))(hy:aO E y=some (.pv (.int k m)))(hr:k.wrap (n+m)=r):cH P N o E H (.pv (.int k r)) H :=.of_run fun a w I ι _ he=>by
  subst hr;exact⟨_,by rw[iS ho (aI he hx).int_inv,(aI he hy).int_inv];simp[binOp,Op.intArith],.pv (.int _ _)⟩
theorem dN(ho:o.op=.binOp .sub t x y t')(hx:aO E x=some (.pv (.int k n)))(hy:aO E y=some (.pv (.int k m)))(hr:k.wrap (n - m)=r):cH P N o E H (.pv (.int k r)) H :=.of_run fun a w I ι _ he=>by
  subst hr;exact⟨_,by rw[iS ho (aI he hx).int_inv,(aI he hy).int_inv];simp[binOp,Op.intArith],.pv (.int _ _)⟩
theorem lH(ho:o.op=.binOp .mul t x y t')(hx:aO E x=some (.pv (.int k n)))(hy:aO E y=some (.pv (.int k m)))(hr:k.wrap (n*m)=r):cH P N o E H (.pv (.int k r)) H :=.of_run fun a w I ι _ he=>by
  subst hr;exact⟨_,by rw[iS ho (aI he hx).int_inv,(aI he hy).int_inv];simp[binOp,Op.intArith],.pv (.int _ _)⟩
theorem rR(ho:o.op=.binOp .quo t x y t')(hx:aO E x=some (.pv (.int k n)))(hy:aO E y=some (.pv (.int k m)))(h0:m≠0)(hr:k.wrap (n.tdiv m)=r):cH P N o E H (.pv (.int k r)) H :=.of_run fun a w I ι _ he=>by
  subst hr;exact⟨_,by rw[iS ho (aI he hx).int_inv,(aI he hy).int_inv];simp[binOp,Op.intDiv,h0],.pv (.int _ _)⟩
theorem pW(ho:o.op=.binOp .rem t x y t')(hx:aO E x=some (.pv (.int k n)))(hy:aO E y=some (.pv (.int k m)))(h0:m≠0)(hr:n.tmod m=r):cH P N o E H (.pv (.int k r)) H :=.of_run fun a w I ι _ he=>by
  subst hr;exact⟨_,by rw[iS ho (aI he hx).int_inv,(aI he hy).int_inv];simp[binOp,Op.intDiv,h0],.pv (.int _ _)⟩
theorem kU(ho:o.op=.binOp op t x y t')(hop:op=.and\/op=.or\/op=.xor\/op=.andNot)(hx:aO E x=some (.pv (.int k n)))(hy:aO E y=some (.pv (.int k m)))(hr:bits op k n m=r):cH P N o E H (.pv (.int k r)) H :=.of_run fun a w I ι _ he=>by
  subst hr;refine⟨.int k (bits op k n m),?_,.pv (.int _ _)⟩;rw[iS ho (aI he hx).int_inv,(aI he hy).int_inv];rcases hop with rfl|rfl|rfl|rfl<;>simp[binOp,intBits_and,intBits_or,intBits_xor,intBits_andNot]
theorem BI(ho:o.op=.binOp .shr t x y t')(hx:aO E x=some (.pv (.int k n)))(hy:aO E y=some (.pv (.int yk m)))(h0:0<=m)(h1:m<=k.bits)(hr:n / 2 ^ m.toNat=r):cH P N o E H (.pv (.int k r)) H :=.of_run fun a w I ι _ he=>by
  subst hr;refine⟨.int k (n / 2 ^ m.toNat),?_,.pv (.int _ _)⟩;rw[iS ho (aI he hx).int_inv,(aI he hy).int_inv];simp only[binOp_shr,shift_shr k yk n m h0 h1,Sem.run_pure,Result.andThen_ok]
theorem D7(ho:o.op=.binOp .shl t x y t')(hx:aO E x=some (.pv (.int k n)))(hy:aO E y=some (.pv (.int yk m)))(h0:0<=m)(h1:m<=k.bits)(hr:k.wrap (n*2 ^ m.toNat)=r):cH P N o E H (.pv (.int k r)) H :=.of_run fun a w I ι _ he=>by
  subst hr;refine⟨.int k (k.wrap (n*2 ^ m.toNat)),?_,.pv (.int _ _)⟩;rw[iS ho (aI he hx).int_inv,(aI he hy).int_inv];simp only[binOp_shl,shift_shl k yk n m h0 h1,Sem.run_pure,Result.andThen_ok]
theorem IY(ho:o.op=.binOp .lss t x y t')(hx:aO E x=some (.pv (.int k n)))(hy:aO E y=some (.pv (.int k m))):cH P N o E H (.pv (.bool (decide (n<m)))) H :=.of_run fun a w I ι _ he=>⟨_,by rw[iS ho (aI he hx).int_inv,(aI he hy).int_inv];simp[binOp,Op.intCmp],.pv (.bool _)⟩
theorem xU(ho:o.op=.binOp .leq t x y t')(hx:aO E x=some (.pv (.int k n)))(hy:aO E y=some (.pv (.int k m))):cH P N o E H (.pv (.bool (decide (n<=m)))) H :=.of_run fun a w I ι _ he=>⟨_,by rw[iS ho (aI he hx).int_inv,(aI he hy).int_inv];simp[binOp,Op.intCmp],.pv (.bool _)⟩
theorem EB(ho:o.op=.binOp .gtr t x y t')(hx:aO E x=some (.pv (.int k n)))(hy:aO E y=some (.pv (.int k m))):cH P N o E H (.pv (.bool (decide (m<n)))) H :=.of_run fun a w I ι _ he=>⟨_,by rw[iS ho (aI he hx).int_inv,(aI he hy).int_inv];simp[binOp,Op.intCmp],.pv (.bool _)⟩
theorem uP(ho:o.op=.binOp .geq t x y t')(hx:aO E x=some (.pv (.int k n)))(hy:aO E y=some (.pv (.int k m))):cH P N o E H (.pv (.bool (decide (m<=n)))) H :=.of_run fun a w I ι _ he=>⟨_,by rw[iS ho (aI he hx).int_inv,(aI he hy).int_inv];simp[binOp,Op.intCmp],.pv (.bool _)⟩
theorem rS(ho:o.op=.binOp .eql t x y t')(hx:aO E x=some (.pv (.int k n)))(hy:aO E y=some (.pv (.int k m))):cH P N o E H (.pv (.bool (decide (n=m)))) H :=.of_run fun a w I ι _ he=>⟨.bool (decide (n=m)),by rw[iS ho (aI he hx).int_inv,(aI he hy).int_inv];simp[binOp,Op.intCmp];by_cases h:n=m<;>simp[h],.pv (.bool _)⟩
theorem xT(ho:o.op=.binOp .neq t x y t')(hx:aO E x=some (.pv (.int k n)))(hy:aO E y=some (.pv (.int k m))):cH P N o E H (.pv (.bool (!decide (n=m)))) H :=.of_run fun a w I ι _ he=>⟨.bool (!decide (n=m)),by rw[iS ho (aI he hx).int_inv,(aI he hy).int_inv];simp[binOp,Op.intCmp];by_cases h:n=m<;>simp[h,bne],.pv (.bool _)⟩
end ints
section strings
variable{t t':TypeId}{s u r:ByteArray}
theorem AE(ho:o.op=.binOp op t x y t')(hx:a.eval x=.string s)(hy:a.eval y=.string u):(execOp a.eval o).run P w=((Op.stringOp op s u).run P w).andThen fun v w=>.ok (.value v) w:=by simp only[execOp,ho,hx,hy,eqGuard_at_string,Sem.run_bind,Sem.run_pure,Result.andThen_ok];cases op<;>simp[binOp]
theorem wM(s u:ByteArray):(s.toList == u.toList)=decide (s=u):=by
 rw[<-beq_toListBytes];by_cases h:s=u
 ·subst h;have:(s == s)=true:=by rw[beq_toListBytes];simp
  simp[this]
 have:(s == u)=false:=by
  rw[beq_toListBytes,ByteArray.toList_eq,ByteArray.toList_eq];cases e:(s.data.toList == u.data.toList)with
  |false=>rfl
  |true =>
   have h1:s.data.toList=u.data.toList:=by simpa using e
   exact absurd (by cases s;cases u;simp_all) h
 simp[this,h]
theorem tD(ho:o.op=.binOp .eql t x y t')(hx:aO E x=some (.pv (.str s)))(hy:aO E y=some (.pv (.str u))):cH P N o E H (.pv (.bool (decide (s=u)))) H :=.of_run fun a w I ι _ he=>⟨_,by rw[AE ho (aI he hx).str_inv (aI he hy).str_inv];simp only[Op.stringOp,wM,Sem.run_pure,Result.andThen_ok],.pv (.bool _)⟩
theorem KO(ho:o.op=.binOp .neq t x y t')(hx:aO E x=some (.pv (.str s)))(hy:aO E y=some (.pv (.str u))):cH P N o E H (.pv (.bool (!decide (s=u)))) H :=.of_run fun a w I ι _ he=>⟨_,by rw[AE ho (aI he hx).str_inv (aI he hy).str_inv];simp only[Op.stringOp,wM,Sem.run_pure,Result.andThen_ok],.pv (.bool _)⟩
def DP(s u:ByteArray):Bool:=Op.bytesLess s.toList u.toList
theorem aDk(ho:o.op=.binOp .lss t x y t')(hx:aO E x=some (.pv (.str s)))(hy:aO E y=some (.pv (.str u))):cH P N o E H (.pv (.bool (DP s u))) H :=.of_run fun a w I ι _ he=>⟨_,by rw[AE ho (aI he hx).str_inv (aI he hy).str_inv];simp only[Op.stringOp,Sem.run_pure,Result.andThen_ok];rfl,.pv (.bool _)⟩
theorem aDl(ho:o.op=.binOp .leq t x y t')(hx:aO E x=some (.pv (.str s)))(hy:aO E y=some (.pv (.str u))):cH P N o E H (.pv (.bool (DP s u||decide (s=u)))) H :=.of_run fun a w I ι _ he=>⟨_,by rw[AE ho (aI he hx).str_inv (aI he hy).str_inv];simp only[Op.stringOp,wM,Sem.run_pure,Result.andThen_ok];rfl,.pv (.bool _)⟩
theorem gJ(ho:o.op=.binOp .add t x y t')(hx:aO E x=some (.pv (.str s)))(hy:aO E y=some (.pv (.str u)))(hs:s.size+u.size<=9223372036854775807)(hr:s++u=r):cH P N o E H (.pv (.str r)) H :=.of_run fun a w I ι _ he=>⟨.string r,by
  subst hr;rw[AE ho (aI he hx).str_inv (aI he hy).str_inv];have:¬ (((s.size+u.size:Nat):Int) > IntKind.i64.max):=by simp only[IntKind.max_i64];omega
  simp only[Op.stringOp,this,if_false,Sem.run_pure,Result.andThen_ok],.pv (.str _)⟩
end strings
section eqs
variable{t e:TypeId}
theorem RB{c:Bool}(ht:P.underlying t=some .bool):(binOp .eql t (.bool b) (.bool c)).run P w=.ok (.bool (b == c)) w:=by have h:(Op.equalIn (9999+1) t (.bool b) (.bool c)).run P w=.ok (b == c) w:=run_equalIn_bool w 9999 t b c ht;simp only[binOp];simp only[Op.equal,Op.maxDepth,Sem.run_bind,h,Result.andThen_ok,Sem.run_pure]
theorem RA{c:Bool}(ht:P.underlying t=some .bool):(binOp .neq t (.bool b) (.bool c)).run P w=.ok (.bool (!(b == c))) w:=by have h:(Op.equalIn (9999+1) t (.bool b) (.bool c)).run P w=.ok (b == c) w:=run_equalIn_bool w 9999 t b c ht;simp only[binOp];simp only[Op.equal,Op.maxDepth,Sem.run_bind,h,Result.andThen_ok,Sem.run_pure]
theorem AF(d:Nat)(ht:P.underlying t=some (.pointer e)):(Op.equalIn (d+1) t (.pointer p) (.pointer none)).run P w=.ok p.isNone w:=by cases p<;>simp[Op.equalIn,run_underlying ht]
theorem KD(ht:P.underlying t=some (.pointer e)):(binOp .eql t (.pointer p) (.pointer none)).run P w=.ok (.bool p.isNone) w:=by have h:(Op.equalIn (9999+1) t (.pointer p) (.pointer none)).run P w=.ok p.isNone w:=AF 9999 ht;simp only[binOp];simp only[Op.equal,Op.maxDepth,Sem.run_bind,h,Result.andThen_ok,Sem.run_pure]
theorem KC(ht:P.underlying t=some (.pointer e)):(binOp .neq t (.pointer p) (.pointer none)).run P w=.ok (.bool (!p.isNone)) w:=by have h:(Op.equalIn (9999+1) t (.pointer p) (.pointer none)).run P w=.ok p.isNone w:=AF 9999 ht;simp only[binOp];simp only[Op.equal,Op.maxDepth,Sem.run_bind,h,Result.andThen_ok,Sem.run_pure]
end eqs
section bools
variable{t t':TypeId}{b c:Bool}
theorem KS(ho:o.op=.binOp .eql t x y t')(ht:P.underlying t=some .bool)(hx:aO E x=some (.pv (.bool b)))(hy:aO E y=some (.pv (.bool c))):cH P N o E H (.pv (.bool (b == c))) H :=.of_run fun a w I ι _ he=>⟨.bool (b == c),by
  have e1:=(aI he hx).bool_inv;have e2:=(aI he hy).bool_inv;simp only[execOp,ho,e1,e2,eqGuard_at_bool,Sem.run_bind,Sem.run_pure,Result.andThen_ok,RB ht,RA ht],.pv (.bool _)⟩
end bools
section ptrs
variable{t t' e:TypeId}{id g i k:Nat}
theorem mG{v:Value}(h:VRel w I ι H v (.ref id g i k))(ho:H.get id=some ob)(hg:ob.g=g):∃b cap,ι id=some (b,cap)/\v=.pointer (some ⟨b,i*ob.sz+k,none⟩):=by
 cases h with
 |ref o' h1 h2 _ h3 =>
  rw[ho]at h1;cases h1;exact(h3 hg).2
theorem KG{v:Value}{i k:Nat}(h:VRel w I ι H v (.ref id g i k))(ho:H.get id=some ob)(hg:ob.g=g):0<ob.sz:=by
 cases h with
 |ref o' h1 h2 _ h3 =>
  rw[ho]at h1;cases h1;exact(h3 hg).1
theorem HL(ho:o.op=.binOp .eql t x y t')(ht:P.underlying t=some (.pointer e))(hx:aO E x=some (.ref id g i k))(hH:H.get id=some ob)(hg:ob.g=g)(hy:aO E y=some (.pv .nilp)):cH P N o E H (.pv (.bool false)) H :=.of_run fun a w I ι _ he=>⟨.bool false,by
  obtain ⟨b,cap,_,e1⟩:=mG (aI he hx) hH hg;have e2:=(aI he hy).nilp_inv;simp only[execOp,ho,e1,e2,eqGuard_at_pointer,Sem.run_bind,Sem.run_pure,Result.andThen_ok,KD ht,KC ht];rfl,.pv (.bool _)⟩
theorem HM(ho:o.op=.binOp .eql t x y t')(ht:P.underlying t=some (.pointer e))(hx:aO E x=some (.pv .nilp))(hy:aO E y=some (.pv .nilp)):cH P N o E H (.pv (.bool true)) H :=.of_run fun a w I ι _ he=>⟨.bool true,by
  have e1:=(aI he hx).nilp_inv;have e2:=(aI he hy).nilp_inv;simp only[execOp,ho,e1,e2,eqGuard_at_pointer,Sem.run_bind,Sem.run_pure,Result.andThen_ok,KD ht,KC ht];rfl,.pv (.bool _)⟩
theorem eU(ho:o.op=.nilCheck x)(hx:aO E x=some (.ref id g i k))(hH:H.get id=some ob)(hg:ob.g=g):cH P N o E H (.ref id g i k) H :=.of_run fun a w I ι _ he=>by
  have hv:=aI he hx;obtain ⟨b,cap,_,e1⟩:=mG hv hH hg;rw[e1]at hv;exact⟨_,by simp[execOp,ho,e1],hv⟩
end ptrs
theorem qN{n:Nat}(ho:o.op=.extract x n)(hx:aO E x=some (.tup vs))(hv:vs[n]?=some v):cH P N o E H v H :=.of_run fun a w I ι _ he=>by
  have h:=aI he hx;generalize hc:a.eval x=c at h;cases h with
  | @tup us _ hl hh =>
   have hn:n<us.size:=by rw[hl];exact(aNz.1 hv).1
   have hu:us[n]?=some us[n]:=Array.getElem?_eq_getElem hn;exact⟨us[n],by simp only[execOp,ho,hc];simp[Instr.extract,hu],hh n _ v hu hv⟩
section calls
variable{T T2 e:TypeId}
theorem HO{s:ByteArray}(ho:o.op=.call {callee:=.builtin .len,args:=#[x],argTypes:=#[T]})(ht:P.underlying T=some .string)(hx:aO E x=some (.pv (.str s))):cH P N o E H (.pv (.int .i64 s.size)) H :=.of_run fun a w I ι _ he=>⟨.int .i64 s.size,by
  have e1:=(aI he hx).str_inv;simp[execOp,ho,resolve,invoke,builtin,e1,Builtin.len_,run_underlying ht,goInt],.pv (.int _ _)⟩
theorem aCz{v:Value}(h:VRel w I ι H v (.pv (.sl rows))):∃b cap,v=.slice b rows.length cap:=by
 cases h with|pv h =>
 cases h with
 |nilsl=>exact⟨none,0,rfl⟩
 |empsl a=>exact⟨some a,0,rfl⟩
 |sl b off cap sz _ cs h1 h2 h3 h4 h5 h6=>exact⟨_,cap,rfl⟩
theorem kJ(ho:o.op=.call {callee:=.builtin .len,args:=#[x],argTypes:=#[T]})(ht:P.underlying T=some (.slice e))(hx:aO E x=some (.pv (.sl rows))):cH P N o E H (.pv (.int .i64 rows.length)) H :=.of_run fun a w I ι _ he=>⟨.int .i64 rows.length,by
  obtain ⟨b,cap,e1⟩:=aCz (aI he hx);simp[execOp,ho,resolve,invoke,builtin,e1,Builtin.len_,run_underlying ht,goInt],.pv (.int _ _)⟩
theorem hU{v:Value}(h:VRel w I ι H v (.osl id g off len))(hH:H.get id=some ob)(hg:ob.g=g):
  off+len<=ob.rows.length/\((∃b cap oo,ι id=some (b,cap)/\v=.slice (some ⟨b,oo,none⟩) len (cap - off)/\(off<cap\/off=0->oo=off*ob.sz))\/(ι id=none/\v=.slice none 0 0/\off=0/\len=0)):=by
 cases h with
 |osl o' h1 h2 _ h3 =>
  rw[hH]at h1;cases h1;exact(h3 hg).2
theorem mR{v:Value}(h:VRel w I ι H v (.osl id g off len))(hH:H.get id=some ob)(hg:ob.g=g):0<ob.sz:=by
 cases h with
 |osl o' h1 h2 _ h3 =>
  rw[hH]at h1;cases h1;exact(h3 hg).1
theorem eB(ho:o.op=.call {callee:=.builtin .len,args:=#[x],argTypes:=#[T]})(ht:P.underlying T=some (.slice e))(hx:aO E x=some (.osl id g off len))(hH:H.get id=some ob)(hg:ob.g=g):cH P N o E H (.pv (.int .i64 len)) H :=.of_run fun a w I ι _ he=>⟨.int .i64 len,by
  obtain ⟨_,⟨b,cap,oo,_,e1,_⟩|⟨_,e1,_,e2⟩⟩:=hU (aI he hx) hH hg
  ·simp[execOp,ho,resolve,invoke,builtin,e1,Builtin.len_,run_underlying ht,goInt]
  simp[execOp,ho,resolve,invoke,builtin,e1,e2,Builtin.len_,run_underlying ht,goInt],.pv (.int _ _)⟩
theorem IX(ho:o.op=.call {callee:=.builtin .min,args:=#[x,y],argTypes:=#[T,T2]})(hx:aO E x=some (.pv (.int k n)))(hy:aO E y=some (.pv (.int k m)))(hr:min n m=r):cH P N o E H (.pv (.int k r)) H :=.of_run fun a w I ι _ he=>⟨.int k r,by
  have e1:=(aI he hx).int_inv;have e2:=(aI he hy).int_inv;have e3:(if m<n then m else n)=min n m:=by rw[Int.min_def];split<;>split<;>omega
  simp[execOp,ho,resolve,invoke,builtin,e1,e2,Builtin.min_,Builtin.min2,e3,hr],.pv (.int _ _)⟩
theorem aGi(ho:o.op=.call {callee:=.builtin .max,args:=#[x,y],argTypes:=#[T,T2]})(hx:aO E x=some (.pv (.int k n)))(hy:aO E y=some (.pv (.int k m)))(hr:max n m=r):cH P N o E H (.pv (.int k r)) H :=.of_run fun a w I ι _ he=>⟨.int k r,by
  have e1:=(aI he hx).int_inv;have e2:=(aI he hy).int_inv;have e3:(if n<m then m else n)=max n m:=by rw[Int.max_def];split<;>split<;>omega
  have e4:(if m > n then m else n)=max n m:=e3;simp[execOp,ho,resolve,invoke,builtin,e1,e2,Builtin.max_,Builtin.max2,e3,e4,hr],.pv (.int _ _)⟩
end calls
theorem fP{S T:TypeId}{k':IntKind}{ds:TypeDesc}(ho:o.op=.convert S T x)(hS:P.underlying S=some ds)(hT:P.underlying T=some (.int k'))(hx:aO E x=some (.pv (.int k n)))(hr:k'.wrap n=r):cH P N o E H (.pv (.int k' r)) H :=.of_run fun a w I ι _ he=>⟨.int k' r,by
  have e1:=(aI he hx).int_inv;subst hr;simp[execOp,ho,e1,convert,run_underlying hS,run_underlying hT,Conv.intToInt],.pv (.int _ _)⟩
theorem fO{f:FuncId}{caps:Array Operand}(ho:o.op=.makeFunc (.func f) #[] caps)(hv:caps.toList.mapM (aO E)=some vs):cH P N o E H (.clo f vs) H :=.of_run fun a w I ι _ he=>by
  refine⟨.func (.func f) #[] (caps.map a.eval),by simp[execOp,ho,Instr.makeFunc],?_⟩;have key:∀(l:List Operand) (vs:List AV),l.mapM (aO E)=some vs->l.length=vs.length/\∀(i:Nat) (v:Value) (b:AV),(l.map a.eval)[i]?=some v->vs[i]?=some b->VRel w I ι H v b:=by
   intro l
   induction l with
   |nil=>intro vs h;simp at h;subst h;simp
   |cons x l ih =>
    intro vs h;simp only[List.mapM_cons,Option.pure_def,Option.bind_eq_bind,Option.bind_eq_some_iff,Option.some.injEq]at h;obtain ⟨v0,h0,vs0,h1,rfl⟩:=h;obtain ⟨l1,l2⟩:=ih vs0 h1;refine⟨by simp[l1],?_⟩;intro i v b hv hb;cases i with
    |zero=>simp at hv hb;subst hv hb;exact aI he h0
    |succ i=>simp at hv hb;exact l2 i v b (by simpa using hv) hb
  obtain ⟨h1,h2⟩:=key caps.toList vs hv;exact .clo (by simpa using h1) (fun i v b hv hb=>h2 i v b (by simpa using hv) hb)
end
end Go.Abs
end
namespace Go.Abs
variable{id g i k n off k2 f m sz len cap l h:Nat}{ob:Ob}{r xs cs cells vs r':List AV}{rows:List (List PV)}{P:Program}{T S e ty:TypeId}{a:Act}{v:AV}{kk:IntKind}{s:ByteArray}{w w':World}{I:Nat->Prop}{ι:dX}{lo hi:Option Operand}{c z:Value}{H2:aB}
section
def FK(w:World)(I:Nat->Prop)(ι:dX)(H:aB)(v:Value)(xs:List AV):Prop :=∃b o,v=.pointer (some ⟨b,o,none⟩)/\∀(j:Nat) (a:AV),xs[j]?=some a->∃c,w.cell? ⟨b,o+j,none⟩=some c/\c.oneCell'=true/\VRel w I ι H c a
section
variable{H:aB}{v:Value}
theorem BG(hr:Rel I ι H w)(h:VRel w I ι H v (.ref id g i k))(hH:H.get id=some ob)(hg:ob.g=g)(hi:ob.rows[i]?=some r):
  FK w I ι H v (r.drop k):=by
 obtain ⟨b,cap,h1,h2⟩:=mG h hH hg;obtain ⟨_,_,⟨b',cap',cs,e1,e2,e3,e4,e5,e6,e7⟩|⟨e1,_⟩⟩:=(hr.obj id ob hH).cells (KG h hH hg)
 ·rw[h1]at e1;cases e1;refine⟨b,i*ob.sz+k,h2,fun j a hj=>?_⟩;rw[List.getElem?_drop]at hj;obtain ⟨c,c1,c2,c3⟩:=e7 i r hi (k+j) a hj;refine⟨c,?_,c2,c3⟩;rw[cell_of_row w b _ cs ob.ty (0,0) e2,Nat.add_assoc];exact c1
 rw[h1]at e1;cases e1
theorem O0{r:List PV}(h:VRel w I ι H v (.pad rows i k))(hi:rows[i]?=some r):FK w I ι H v ((r.drop k).map .pv):=by
 cases h with
 | pad b off cap sz _ hsz hlen cs hb hc hp =>
  refine⟨b,off+i*sz+k,rfl,fun j a hj=>?_⟩;rw[aOP,List.getElem?_drop]at hj;cases e:r[k+j]? with
  |none=>rw[e]at hj;cases hj
  |some p =>
   rw[e]at hj;cases hj;have h1:=hc i r hi (k+j) p e;have h2:=hp i r hi (k+j) p e;exact⟨_,by rw[Nat.add_assoc];exact h1,h2.oneCell,.pv h2⟩
theorem aED{a:AV}(hp:FK w I ι H v xs)(ha:∀w,(isAgg T).run P w=.ok false w)(h:xs[0]?=some a):
  ∃c,(Instr.loadAt T v).run P w=.ok c w/\VRel w I ι H c a:=by
 obtain ⟨b,o,rfl,hc⟩:=hp;obtain ⟨c,h1,_,h3⟩:=hc 0 a h;refine⟨c,?_,h3⟩;simp only[Nat.add_zero]at h1;simp[Instr.loadAt,Instr.sureAddr,loadVar,ha,h1]
theorem aEC(hp:FK w I ι H v xs)(ha:∀w,(isAgg T).run P w=.ok true w)(hs:∀w,(sizeOf T).run P w=.ok n w)(hcs:xs.take n=cs)(hl:cs.length=n):
  ∃c,(Instr.loadAt T v).run P w=.ok c w/\VRel w I ι H c (.agg cs):=by
 obtain ⟨b,o,rfl,hc⟩:=hp;have hex:∀j,j<n->∃c,w.cell? ⟨b,o+j,none⟩=some c/\c.oneCell'=true/\∀a,cs[j]?=some a->VRel w I ι H c a:=by
  intro j hj;have hjl:j<cs.length:=by omega
  have e:xs[j]?=some cs[j]:=by
   have h1:cs[j]?=some cs[j]:=aOA hjl;have h2:(xs.take n)[j]?=some cs[j]:=by rw[hcs];exact h1
   rw[List.getElem?_take,aNu hj]at h2;exact h2
  obtain ⟨c,h1,h2,h3⟩:=hc j _ e;refine⟨c,h1,h2,fun a ha=>?_⟩;rw[aOA hjl]at ha;cases ha;exact h3
 let f:Nat->Value:=fun j=>if h:j<n then(hex j h).choose else undef
 have hf:∀j (h:j<n),w.cell? ⟨b,o+j,none⟩=some (f j)/\(f j).oneCell'=true/\∀a,cs[j]?=some a->VRel w I ι H (f j) a:=by
  intro j h;simp only[f,h,dif_pos];exact(hex j h).choose_spec
 let l:List Value:=(List.range n).map f
 have hll:l.length=n:=by simp[l]
 have hlj:∀j u,l[j]?=some u->j<n/\u=f j:=by
  intro j u hu;simp only[l,aOP]at hu;by_cases hj:j<n
  ·rw[List.getElem?_range hj]at hu;cases hu;exact⟨hj,rfl⟩
  rw[List.getElem?_eq_none (by simp;omega)]at hu;cases hu
 have hload:(loadCells ⟨b,o,none⟩ n).run P w=.ok l.toArray w:=by
  have:=run_loadCells_list (P:=P) w ⟨b,o,none⟩ l (fun j u hu=>by
   obtain ⟨hj,rfl⟩:=hlj j u hu;rw[Addr.add_lit];exact(hf j hj).1)
  rwa [hll]at this
 refine⟨.agg l.toArray,by simp[Instr.loadAt,Instr.sureAddr,loadVar,ha,hs,hload],.agg (by simp[hll,hl]) ?_ ?_⟩
 ·intro j u hu;obtain ⟨hj,rfl⟩:=hlj j u (by simpa using hu);exact(hf j hj).2.1
 intro j u a hu hca;obtain ⟨hj,rfl⟩:=hlj j u (by simpa using hu);exact(hf j hj).2.2 a hca
end
section
variable{N:Nat}{o:Oper}{E:bS}{H:aB}{x y:Operand}
theorem oQ{xs:List AV}(ho:o.op=.load T x)
  (hp:∀(a:Act) (w:World) (I:Nat->Prop) (ι:dX),Rel I ι H w->iB w I ι H E a->∃c,(Instr.loadAt T (a.eval x)).run P w=.ok c w/\VRel w I ι H c v):cH P N o E H v H :=
 .of_run fun a w I ι hr he=>by
  obtain ⟨c,h1,h2⟩:=hp a w I ι hr he;exact⟨c,by simp[execOp,ho,h1],h2⟩
theorem aK(ho:o.op=.load T x)(ha:∀w,(isAgg T).run P w=.ok false w)(hx:aO E x=some (.ref id g i k))(hH:H.get id=some ob)(hg:ob.g=g)
  (hi:ob.rows[i]?=some r) (hk:r[k]?=some v):cH P N o E H v H :=
 oQ (xs:=r.drop k) ho fun a w I ι hr he=>aED (BG hr (aI he hx) hH hg hi) ha (by simpa using hk)
theorem NO{r:List PV}{p:PV}(ho:o.op=.load T x)(ha:∀w,(isAgg T).run P w=.ok false w)(hx:aO E x=some (.pad rows i k))(hi:rows[i]?=some r)(hk:r[k]?=some p):cH P N o E H (.pv p) H :=oQ (xs:=(r.drop k).map .pv) ho fun a w I ι hr he=>aED (O0 (aI he hx) hi) ha (by simp[hk])
theorem aN(ho:o.op=.load T x)(ha:∀w,(isAgg T).run P w=.ok true w)(hs:∀w,(sizeOf T).run P w=.ok n w)(hx:aO E x=some (.ref id g i k))(hH:H.get id=some ob)(hg:ob.g=g)
  (hi:ob.rows[i]?=some r) (hk:(r.drop k).take n=cs) (hl:cs.length=n):cH P N o E H (.agg cs) H :=
 oQ (xs:=r.drop k) ho fun a w I ι hr he=>aEC (BG hr (aI he hx) hH hg hi) ha hs hk hl
theorem cU{r:List PV}(ho:o.op=.load T x)(ha:∀w,(isAgg T).run P w=.ok true w)(hs:∀w,(sizeOf T).run P w=.ok n w)(hx:aO E x=some (.pad rows i k))(hi:rows[i]?=some r)
  (hk:((r.drop k).map AV.pv).take n=cs) (hl:cs.length=n):cH P N o E H (.agg cs) H :=
 oQ (xs:=(r.drop k).map .pv) ho fun a w I ι hr he=>aEC (O0 (aI he hx) hi) ha hs hk hl
def cB(P:Program)(S f off:Nat):Prop:=∃fs fd n,P.underlying S=some (.struct fs)/\fs[f]?=some fd/\fd.offset=off/\∀w,(sizeOf fd.type).run P w=.ok (n+1) w
theorem aZ{off:TypeId}(ho:o.op=.fieldAddr S x f)(hF:cB P S f off)
  (hx:aO E x=some (.ref id g i k)) (hH:H.get id=some ob) (hg:ob.g=g) (hk:k+off=k2):cH P N o E H (.ref id g i k2) H :=
 .of_run fun a w I ι hr he=>by
  obtain ⟨fs,fd,n,hS,hf,hoff,hs⟩:=hF;have h:=aI he hx;generalize hc:a.eval x=c at h;subst hk hoff;obtain ⟨b,cap,h1,rfl⟩:=mG h hH hg;refine⟨.pointer (some ⟨b,i*ob.sz+(k+fd.offset),none⟩),?_,.ref ob hH (by omega) rfl fun _=>⟨KG h hH hg,b,cap,h1,rfl⟩⟩;simp only[execOp,ho,hc];simp[Instr.fieldAt,run_underlying hS,hf,Instr.sureAddr,fieldPlace,hs,Addr.add_lit,Nat.add_assoc]
theorem NS{off:TypeId}(ho:o.op=.fieldAddr S x f)(hF:cB P S f off)
  (hx:aO E x=some (.pad rows i k)) (hk:k+off=k2):cH P N o E H (.pad rows i k2) H :=
 .of_run fun a w I ι hr he=>by
  obtain ⟨fs,fd,n,hS,hf,hoff,hs⟩:=hF;have h:=aI he hx;generalize hc:a.eval x=c at h;subst hk hoff;cases h with
  |pad b off cap sz h0 hsz hlen cs hb hcc hp =>
   refine⟨.pointer (some ⟨b,off+i*sz+(k+fd.offset),none⟩),?_,.pad b off cap sz h0 hsz hlen cs hb hcc hp⟩;simp only[execOp,ho,hc];simp[Instr.fieldAt,run_underlying hS,hf,Instr.sureAddr,fieldPlace,hs,Addr.add_lit,Nat.add_assoc]
theorem NP{r:List PV}{n:Int}(ho:o.op=.indexAddr T x y)(hT:P.underlying T=some (.slice e))(hs:∀w,(sizeOf e).run P w=.ok sz w)
  (hx:aO E x=some (.pv (.sl rows))) (hy:aO E y=some (.pv (.int kk n))) (h0:0<=n) (hm:n.toNat=m) (hi:rows[m]?=some r) (hl:r.length=sz):cH P N o E H (.pad rows m 0) H :=
 .of_run fun a w I ι hr he=>by
  have h:=aI he hx;have hn:=(aI he hy).int_inv;have hlt:m<rows.length:=(aNz.1 hi).1;have hmem:r∈rows:=aOF hi;generalize hc:a.eval x=c at h;have hp:=h.pv_inv;cases hp with
  |nilsl=>simp at hlt
  |empsl a=>simp at hlt
  |sl b off cap sz' _ cs hb hsz hlen hcap hcc hpp =>
   have hsz':sz'=sz:=by rw[<-hlen r hmem,hl]
   subst hsz';refine⟨.pointer (some ⟨b,off+m*sz'+0,none⟩),?_,.pad b off cap sz' (.sl b off cap sz' rows cs hb hsz hlen hcap hcc hpp) hsz hlen cs hb hcc hpp⟩;simp only[execOp,ho,hc,hn];have h1:n<(rows.length:Int):=by omega
   simp[Instr.indexAt,run_underlying hT,asIntOf,h0,h1,hs,hm,Addr.add_lit]
theorem NQ{n:Int}{m2:Nat}(ho:o.op=.indexAddr T x y)(hT:P.underlying T=some (.slice e))(hs:∀w,(sizeOf e).run P w=.ok sz w)
  (hx:aO E x=some (.osl id g off len)) (hH:H.get id=some ob) (hg:ob.g=g) (hsz:ob.sz=sz) (hy:aO E y=some (.pv (.int kk n))) (h0:0<=n) (hm:n.toNat=m) (hi:m<len) (hm2:off+m=m2):cH P N o E H (.ref id g m2 0) H :=
 .of_run fun a w I ι hr he=>by
  have h:=aI he hx;have hn:=(aI he hy).int_inv;obtain ⟨h1,⟨b,cap,oo,h2,h3,h4⟩|⟨_,_,_,h2⟩⟩:=hU h hH hg
  ·have hcap:off<cap:=by
    obtain ⟨_,_,⟨b',cap',cs,e1,e2,e3,e4,e5,e6,e7⟩|⟨e1,_⟩⟩:=(hr.obj id ob hH).cells (mR h hH hg)
    ·rw[h2]at e1;cases e1;omega
    rw[h2]at e1;cases e1
   have hoo:=h4 (.inl hcap);subst hoo hsz hm2;refine⟨.pointer (some ⟨b,(off+m)*ob.sz+0,none⟩),?_,.ref ob hH (by omega) rfl fun _=>⟨mR h hH hg,b,cap,h2,rfl⟩⟩;simp only[execOp,ho,h3,hn];have h5:n<(len:Int):=by omega
   simp[Instr.indexAt,run_underlying hT,asIntOf,h0,h5,hs,hm,Addr.add_lit,Nat.add_mul]
  omega
theorem dG{n:Int}{cnt:Nat}(ho:o.op=.indexAddr T x y)(hT:P.underlying T=some (.array cnt e))(hs:∀w,(sizeOf e).run P w=.ok sz w)
  (hx:aO E x=some (.ref id g i k)) (hH:H.get id=some ob) (hg:ob.g=g) (hy:aO E y=some (.pv (.int kk n))) (h0:0<=n) (hm:n.toNat=m) (hi:m<cnt) (hk:k+m*sz=k2):cH P N o E H (.ref id g i k2) H :=
 .of_run fun a w I ι hr he=>by
  have h:=aI he hx;have hn:=(aI he hy).int_inv;obtain ⟨b,cap,h1,h3⟩:=mG h hH hg;subst hk;refine⟨.pointer (some ⟨b,i*ob.sz+(k+m*sz),none⟩),?_,.ref ob hH (by omega) rfl fun _=>⟨KG h hH hg,b,cap,h1,rfl⟩⟩;simp only[execOp,ho,h3,hn];have h5:n<(cnt:Int):=by omega
  simp[Instr.indexAt,run_underlying hT,Instr.sureAddr,asIntOf,h0,h5,hs,hm,Addr.add_lit,Nat.add_assoc]
def cZ(s:ByteArray)(m:Nat):Int:=((s.data.toList[m]?).getD 0).toNat
theorem dW{n:Int}{r:Int}(ho:o.op=.index T x y)(hT:P.underlying T=some .string)(hx:aO E x=some (.pv (.str s)))(hy:aO E y=some (.pv (.int kk n)))(h0:0<=n)(hm:n.toNat=m)(hi:m<s.size)(hr:cZ s m=r):
  cH P N o E H (.pv (.int .u8 r)) H :=
 .of_run fun a w I ι _ he=>⟨.int .u8 r,by
  have e1:=(aI he hx).str_inv;have e2:=(aI he hy).int_inv;have hb:s[m]?=some (s.data.toList[m]'(by simpa using hi)):=by
   rw[getElem?_pos s m hi];rfl
  have hb2:cZ s m=((s.data.toList[m]'(by simpa using hi)).toNat:Int):=by
   unfold cZ;rw[aOA (by simpa using hi)];rfl
  rw[<-hr,hb2];simp only[execOp,ho,e1,e2];simp[Instr.index,run_underlying hT,asIntOf,h0,hm,hb],.pv (.int _ _)⟩
def bnd(E:bS):Option Operand->Nat->Option Int
 |none,d=>some (d:Int)
 |some x,_=>match aO E x with
  |some (.pv (.int _ n))=>some n
  |_=>none
theorem SP{x:Operand}{d:Nat}{n:Int}(he:iB w I ι H E a)(h:bnd E (some x) d=some n):∃k,a.eval x=.int k n:=by
 simp only[bnd]at h
 split at h
 ·rename_i k n' e;cases h;exact⟨k,(aI he e).int_inv⟩
 cases h
theorem kH{b:Bool}(he:iB w I ι H E a)(hlo:bnd E lo 0=some (l:Int))(hhi:bnd E hi len=some (h:Int))(h1:l<=h)(h2:h<=cap):
  (Instr.sliceBounds b len cap (lo.map a.eval) (hi.map a.eval) none).run P w=.ok (l,h,cap) w:=by
 have hb:∀(k:IntKind) (n y:Nat) (c:BoundsCode),n<=y->(Instr.sliceBound (.int k n) y c).run P w=.ok n w:=fun k n y c hn=>by
  have:=run_sliceBound (P:=P) w k n y c (by omega) (by omega)
  simpa using this
 cases lo with
 | none =>
  have hl:l=0:=by simp[bnd]at hlo;omega
  subst hl;cases hi with
  |none =>
   have hh:h=len:=by simp[bnd]at hhi;omega
   subst hh;simp[Instr.sliceBounds]
  |some y =>
   obtain ⟨k,e⟩:=SP he hhi;simp[Instr.sliceBounds,e,hb _ _ _ _ h2]
 | some x =>
  obtain ⟨k1,e1⟩:=SP he hlo;cases hi with
  |none =>
   have hh:h=len:=by simp[bnd]at hhi;omega
   subst hh;simp[Instr.sliceBounds,e1,hb _ _ _ _ h1]
  |some y =>
   obtain ⟨k2,e2⟩:=SP he hhi;simp[Instr.sliceBounds,e1,e2,hb _ _ _ _ h1,hb _ _ _ _ h2]
theorem cI{r:ByteArray}(ho:o.op=.slice T x lo hi none)(hT:P.underlying T=some .string)(hx:aO E x=some (.pv (.str s)))
  (hlo:bnd E lo 0=some (l:Int)) (hhi:bnd E hi s.size=some (h:Int)) (h1:l<=h) (h2:h<=s.size) (hr:s.extract l h=r):cH P N o E H (.pv (.str r)) H :=
 .of_run fun a w I ι _ he=>⟨.string r,by
  have e1:=(aI he hx).str_inv;have hb:=kH (P:=P) (b:=false) (len:=s.size) (cap:=s.size) he hlo hhi h1 h2;subst hr;simp only[execOp,ho,e1];simp[run_sliceAt_string w T _ _ _ _ hT,Instr.slice,run_underlying hT,hb],.pv (.str _)⟩
theorem PRep.cut{b:Nat}{cs:Nat->Nat->Value}(hI:I b)(hsz:0<sz)(hlen:∀r∈rows,r.length=sz)(hcap:rows.length<=cap)
  (hc:∀(i:Nat) (r:List PV),rows[i]?=some r->∀(k:Nat) (p:PV),r[k]?=some p->w.cell? ⟨b,off+i*sz+k,none⟩=some (cs i k))
  (hp:∀(i:Nat) (r:List PV),rows[i]?=some r->∀(k:Nat) (p:PV),r[k]?=some p->PRep w I (cs i k) p) (h1:l<=h) (h2:h<=rows.length) :
  PRep w I (.slice (some (if cap=l then⟨b,off,none⟩else(⟨b,off,none⟩:Addr).add (l*sz))) (h - l) (cap - l)) (.sl ((rows.take h).drop l)):=by
 have hln:((rows.take h).drop l).length=h - l:=by simp;omega
 have hget:∀i r,((rows.take h).drop l)[i]?=some r->rows[l+i]?=some r:=by
  intro i r hr;rw[List.getElem?_drop,List.getElem?_take]at hr
  split at hr
  ·exact hr
  cases hr
 by_cases e:cap=l
 ·have hnil:(rows.take h).drop l=[]:=List.eq_nil_of_length_eq_zero (by rw[hln];omega);rw[aNu e,hnil];have h0:h - l=([]:List (List PV)).length:=by simp;omega
  rw[h0];exact .sl b off (cap - l) sz [] cs hI hsz (by simp) (by simp) (by simp) (by simp)
 rw[aNt e,Addr.add_lit,<-hln];refine .sl b (off+l*sz) (cap - l) sz _ (fun i k=>cs (l+i) k) hI hsz (fun r hr=>hlen r (List.mem_of_mem_take (List.mem_of_mem_drop hr))) (by rw[hln];omega) ?_ ?_
 ·intro i r hr k p hk;have:=hc (l+i) r (hget i r hr) k p hk;rw[show off+l*sz+i*sz+k=off+(l+i)*sz+k by rw[Nat.add_mul];omega];exact this
 intro i r hr k p hk;exact hp (l+i) r (hget i r hr) k p hk
theorem RT{rows':List (List PV)}(ho:o.op=.slice T x lo hi none)(hT:P.underlying T=some (.slice e))(hs:∀w,(sizeOf e).run P w=.ok sz w)(hx:aO E x=some (.pv (.sl rows)))
  (hrows:∀r∈rows,r.length=sz) (hlo:bnd E lo 0=some (l:Int)) (hhi:bnd E hi rows.length=some (h:Int)) (h1:l<=h) (h2:h<=rows.length) (hr:(rows.take h).drop l=rows'):cH P N o E H (.pv (.sl rows')) H :=
 .of_run fun a w I ι _ he=>by
  have hv:=(aI he hx).pv_inv;generalize hc:a.eval x=c at hv;subst hr;have hTe:P.elem T=e:=by simp[Program.elem,hT]
  have hT':P.underlying T=some (.slice (P.elem T)):=by rw[hTe,hT]
  cases hv with
  |nilsl =>
   have hh:h=0:=by simpa using h2
   have hl:l=0:=by omega
   subst hh hl;have hb:=kH (P:=P) (b:=true) (len:=0) (cap:=0) he hlo hhi h1 (by simp);refine⟨.slice none 0 0,?_,.pv (by simpa using PRep.nilsl)⟩;simp only[execOp,ho,hc];have:=run_slice_any (P:=P) w T none 0 0 hT' (lo.map a.eval) (hi.map a.eval) none;simp[run_sliceAt_slice w T _ _ _ _ hT',this,hb,hTe,hs,sliced]
  |empsl a0 =>
   have hh:h=0:=by simpa using h2
   have hl:l=0:=by omega
   subst hh hl;have hb:=kH (P:=P) (b:=true) (len:=0) (cap:=0) he hlo hhi h1 (by simp);refine⟨.slice (some a0) 0 0,?_,.pv (by simpa using PRep.empsl a0)⟩;simp only[execOp,ho,hc];have:=run_slice_any (P:=P) w T (some a0) 0 0 hT' (lo.map a.eval) (hi.map a.eval) none;simp[run_sliceAt_slice w T _ _ _ _ hT',this,hb,hTe,hs,sliced,Addr.add_zero']
  | sl b off cap sz' _ cs hI hsz hlen hcap hcc hpp =>
   by_cases hne:rows=[]
   ·subst hne;have hh:h=0:=by simpa using h2
    have hl:l=0:=by omega
    subst hh hl;have hb:=kH (P:=P) (b:=true) (len:=0) (cap:=cap) he hlo hhi h1 (by simp);refine⟨.slice (some ⟨b,off,none⟩) 0 cap,?_,.pv (by simpa using PRep.sl b off cap sz' [] cs hI hsz (by simp) (by simp) (by simp) (by simp))⟩;simp only[execOp,ho,hc];have:=run_slice_any (P:=P) w T (some ⟨b,off,none⟩) 0 cap hT' (lo.map a.eval) (hi.map a.eval) none;simp[run_sliceAt_slice w T _ _ _ _ hT',this,hb,hTe,hs,sliced,Addr.add_zero']
   have hsz':sz'=sz:=by
    obtain ⟨r,rs,e⟩:=List.exists_cons_of_ne_nil hne;have hm:r∈rows:=by rw[e];simp
    rw[<-hlen r hm,hrows r hm]
   subst hsz';have hb:=kH (P:=P) (b:=true) (len:=rows.length) (cap:=cap) he hlo hhi h1 (by omega);have hcut:=PRep.cut (l:=l) (h:=h) hI hsz hlen hcap hcc hpp h1 h2;refine⟨_,?_,.pv hcut⟩;simp only[execOp,ho,hc];have:=run_slice_any (P:=P) w T (some ⟨b,off,none⟩) rows.length cap hT' (lo.map a.eval) (hi.map a.eval) none;simp only[run_sliceAt_slice w T _ _ _ _ hT',Sem.run_bind,this,Option.map_none,hb,hTe,hs,sliced,Result.andThen_ok,Sem.run_pure];by_cases ec:cap=l<;>simp[ec]
theorem CB{off2 len2:Nat}(ho:o.op=.slice T x lo hi none)(hT:P.underlying T=some (.slice e))(hs:∀w,(sizeOf e).run P w=.ok sz w)(hx:aO E x=some (.osl id g off len))
  (hH:H.get id=some ob) (hg:ob.g=g) (hsz:ob.sz=sz) (hlo:bnd E lo 0=some (l:Int)) (hhi:bnd E hi len=some (h:Int)) (h1:l<=h) (h2:h<=len) (ho2:off+l=off2) (hl2:h - l=len2):cH P N o E H (.osl id g off2 len2) H :=
 .of_run fun a w I ι hr he=>by
  have hv:=aI he hx;obtain ⟨hle,hcase⟩:=hU hv hH hg;have hTe:P.elem T=e:=by simp[Program.elem,hT]
  have hT':P.underlying T=some (.slice (P.elem T)):=by rw[hTe,hT]
  subst ho2 hl2 hsz;rcases hcase with⟨b,cap,oo,h3,h4,h5⟩|⟨h3,h4,h5,h6⟩
  ·have hcap:off+len<=cap:=by
    obtain ⟨_,_,⟨b',cap',cs,e1,e2,e3,e4,e5,e6,e7⟩|⟨e1,_⟩⟩:=(hr.obj id ob hH).cells (mR hv hH hg)
    ·rw[h3]at e1;cases e1;omega
    rw[h3]at e1;cases e1
   have hb:=kH (P:=P) (b:=true) (len:=len) (cap:=cap - off) he hlo hhi h1 (by omega);have hrun:=run_slice_any (P:=P) w T (some ⟨b,oo,none⟩) len (cap - off) hT' (lo.map a.eval) (hi.map a.eval) none;refine⟨.slice (some ⟨b,if cap - off=l then oo else oo+l*ob.sz,none⟩) (h - l) (cap - (off+l)),?_,.osl ob hH (by omega) rfl fun _=>⟨mR hv hH hg,by omega,.inl ⟨b,cap,_,h3,rfl,fun hlt=>?_⟩⟩⟩
   ·simp only[execOp,ho,h4];simp only[run_sliceAt_slice w T _ _ _ _ hT',Sem.run_bind,hrun,Option.map_none,hb,hTe,hs,sliced,Result.andThen_ok,Sem.run_pure];by_cases ec:cap - off=l
    ·simp[ec];omega
    simp[ec,Addr.add_lit];omega
   by_cases ec:off+l=0
   ·have e0:off=0:=by omega
    have e1:l=0:=by omega
    subst e0 e1;rw[h5 (by omega)];simp
   rw[aNt (by omega),h5 (by omega),Nat.add_mul]
  subst h5 h6;have hh:h=0:=by omega
  have hl:l=0:=by omega
  subst hh hl;have hb:=kH (P:=P) (b:=true) (len:=0) (cap:=0) he hlo hhi h1 (by simp);have hrun:=run_slice_any (P:=P) w T none 0 0 hT' (lo.map a.eval) (hi.map a.eval) none;refine⟨.slice none 0 0,?_,.osl ob hH (by omega) rfl fun _=>⟨mR hv hH hg,by omega,.inr ⟨h3,rfl,rfl,rfl⟩⟩⟩;simp only[execOp,ho,h4];simp[run_sliceAt_slice w T _ _ _ _ hT',hrun,hb,hTe,hs,sliced]
end
end
section
theorem N1(w:World)(b:Nat)(cs0 cs:Array Value)(t:TypeId)(hb:w.heap[b]?=some (.cells cs0 t (0,0)))(a:Addr):(w.setRow b cs).frozen? a=w.frozen? a:=by
 by_cases h:a.block=b
 ·subst h;simp[World.frozen?,setRow_heap w a.block cs0 cs t (0,0) hb,hb]
 simp[World.frozen?,setRow_other w b a.block cs h]
section
variable{H H':aB}{id b cap:Nat}{ob ob':Ob}{cs0 cs':Array Value}
theorem Rel.update(hr:Rel I ι H w)(hH:H.get id=some ob)(hι:ι id=some (b,cap))(hb:w.heap[b]?=some (.cells cs0 ob.ty (0,0)))(hg:ob.g<=ob'.g)(hsz:ob'.sz=ob.sz)(hty:ob'.ty=ob.ty)
  (hlen:ob'.g=ob.g->ob.rows.length<=ob'.rows.length) (hcs:cs'.size=cap*ob.sz) (hcap:ob'.rows.length<=cap) (hrl:∀r∈ob'.rows,r.length=ob.sz)
  (hcells:∀(i:Nat) (r:List AV),ob'.rows[i]?=some r->∀(k:Nat) (a:AV),r[k]?=some a->∃v,cs'[i*ob.sz+k]?=some v/\v.oneCell'=true/\VRel w I ι H v a)
  (h1:H'.get id=some ob') (h2:∀j,j≠id->H'.get j=H.get j):Rel I ι H' (w.setRow b cs')/\Step I ι H w I ι H' (w.setRow b cs'):=by
 have hown:H9 ι H b:=⟨id,ob,cap,hH,hι⟩;have hst:Step I ι H w I ι H' (w.setRow b cs'):=by
  refine⟨rfl,rfl,rfl,by simp,fun a _ _=>N1 w b cs0 cs' _ hb a,fun _ h=>h,fun _ h=>.inl h,?_,?_,?_⟩
  ·rintro x ⟨j,o,c,hj,hc⟩;by_cases e:j=id
   ·subst e;exact .inl ⟨j,ob,c,hH,hc⟩
   exact .inl ⟨j,o,c,(h2 j e).symm.trans hj,hc⟩
  ·intro x _ hx;exact setRow_other w b x cs' (fun e=>hx (e▸hown))
  intro j o hj;by_cases e:j=id
  ·subst e;rw[hH]at hj;cases hj;exact⟨ob',h1,hg,fun e=>⟨rfl,hsz,fun _=>hlen e⟩⟩
  exact⟨o,(h2 j e).trans hj,aOB _,fun _=>⟨rfl,rfl,fun _=>aOB _⟩⟩
 refine⟨⟨fun x hx=>by simpa using hr.imm x hx,?_,?_,hst.glob hr⟩,hst⟩
 ·intro j o hj;by_cases e:j=id
  ·subst e;rw[h1]at hj;cases hj;obtain ⟨p1,p2,⟨b',cap',cs,e1,e2,e3,e4,e5,e5',e6⟩|⟨e1,_⟩⟩:=(hr.obj j ob hH).cells ((hr.obj j ob hH).pos hι hb)
   ·rw[hι]at e1;cases e1;refine .inl ⟨by rw[hsz];exact p1,by rw[hsz];exact hrl,.inl ⟨b,cap,cs',hι,?_,e3,by rw[hsz];exact hcs,hcap,e5',?_⟩⟩
    ·rw[hty];exact setRow_heap w b cs0 cs' ob.ty (0,0) hb
    intro i r hi k a hk;obtain ⟨v,q1,q2,q3⟩:=hcells i r hi k a hk;exact⟨v,by rw[hsz];exact q1,q2,q3.mono hr hst⟩
   rw[hι]at e1;cases e1
  rw[h2 j e]at hj;exact(hr.obj j o hj).keep rfl (fun x c hx _=>⟨setRow_other w b x cs' (fun hbb=>e (hr.inj j id o ob b c cap hj hH (hbb▸hx) hι)),fun h=>h⟩) (fun r _ a _ v hv=>hv.mono hr hst)
 intro j j' o o' x c c' hj hj' hc hc';have key:∀j o,H'.get j=some o->∃o,H.get j=some o:=by
  intro j o hj;by_cases e:j=id
  ·exact⟨ob,e▸hH⟩
  exact⟨o,(h2 j e).symm.trans hj⟩
 obtain ⟨q,hq⟩:=key j o hj;obtain ⟨q',hq'⟩:=key j' o' hj';exact hr.inj j j' q q' x c c' hq hq' hc hc'
theorem Rel.place(hr:Rel I ι H w)(hos:w'.os=w.os)(htape:w'.tape=w.tape)(hout:w'.output=w.output)(hw:w'.heap=w.heap.push (.cells cs' ob'.ty (0,0)))
  (hold:∀o,H.get id=some o->o.g<ob'.g) (hsz:0<ob'.sz) (hcs:cs'.size=cap*ob'.sz) (hcap:ob'.rows.length<=cap) (hmax:cap<=maxLen) (hrl:∀r∈ob'.rows,r.length=ob'.sz)
  (hcells:∀(i:Nat) (r:List AV),ob'.rows[i]?=some r->∀(k:Nat) (a:AV),r[k]?=some a->∃v,cs'[i*ob'.sz+k]?=some v/\v.oneCell'=true/\VRel w I ι H v a)
  (h1:H'.get id=some ob') (h2:∀j,j≠id->H'.get j=H.get j) :
  Rel I (fun j=>if j=id then some (w.heap.size,cap)else ι j) H' w'/\Step I ι H w I (fun j=>if j=id then some (w.heap.size,cap)else ι j) H' w':=by
 have hnew:w'.heap[w.heap.size]?=some (.cells cs' ob'.ty (0,0)):=by rw[hw];simp
 have holdb:∀x,x<w.heap.size->w'.heap[x]?=w.heap[x]?:=fun x hx=>by rw[hw,Array.getElem?_push,aNt (Nat.ne_of_lt hx)]
 have hsize:w'.heap.size=w.heap.size+1:=by rw[hw];simp
 have hst:Step I ι H w I (fun j=>if j=id then some (w.heap.size,cap)else ι j) H' w':=by
  refine⟨hos,htape,hout,by omega,fun a ha _=>?_,fun _ h=>h,fun _ h=>.inl h,?_,fun x hx _=>holdb x hx,?_⟩
  ·simp[World.frozen?,holdb a.block ha]
  ·rintro x ⟨j,o,c,hj,hc⟩;by_cases e:j=id
   ·simp only[e,if_true]at hc;cases hc;exact .inr (aOB _)
   simp only[e,if_false]at hc;exact .inl ⟨j,o,c,(h2 j e).symm.trans hj,hc⟩
  intro j o hj;by_cases e:j=id
  ·subst e;have:=hold o hj;exact⟨ob',h1,by omega,fun e=>by omega⟩
  exact⟨o,(h2 j e).trans hj,aOB _,fun _=>⟨by simp[e],rfl,fun _=>aOB _⟩⟩
 refine⟨⟨fun x hx=>by have:=hr.imm x hx;omega,?_,?_,hst.glob hr⟩,hst⟩
 ·intro j o hj;by_cases e:j=id
  ·subst e;rw[h1]at hj;cases hj;refine .inl ⟨hsz,hrl,.inl ⟨w.heap.size,cap,cs',by simp,hnew,fun hi=>Nat.lt_irrefl _ (hr.imm _ hi),hcs,hcap,hmax,fun i r hi k a hk=>?_⟩⟩;obtain ⟨v,q1,q2,q3⟩:=hcells i r hi k a hk;exact⟨v,q1,q2,q3.mono hr hst⟩
  rw[h2 j e]at hj;exact(hr.obj j o hj).keep (by simp[e]) (fun x c _ hx=>⟨holdb x hx,fun h=>h⟩) (fun r _ a _ v hv=>hv.mono hr hst)
 intro j j' o o' x c c' hj hj' hc hc';by_cases e:j=id<;>by_cases e':j'=id
 ·rw[e,e']
 ·simp only[e,if_true]at hc;simp only[e',if_false]at hc';cases hc;have:=hr.lt ⟨j',o',c',(h2 j' e').symm.trans hj',hc'⟩;exact absurd this (Nat.lt_irrefl _)
 ·simp only[e,if_false]at hc;simp only[e',if_true]at hc';cases hc';have:=hr.lt ⟨j,o,c,(h2 j e).symm.trans hj,hc⟩;exact absurd this (Nat.lt_irrefl _)
 simp only[e,if_false]at hc;simp only[e',if_false]at hc';exact hr.inj j j' o o' x c c' ((h2 j e).symm.trans hj) ((h2 j' e').symm.trans hj') hc hc'
theorem Rel.drawn(hr:Rel I ι H w)(hos:w'.os=w.os)(htape:w'.tape=w.tape)(hout:w'.output=w.output)(hw:w'.heap=w.heap):Rel I ι H w'/\Step I ι H w I ι H w':=by have hst:Step I ι H w I ι H w':=⟨hos,htape,hout,by rw[hw];exact aOB _,fun a _ _=>by simp[World.frozen?,hw],fun _ h=>h,fun _ h=>.inl h,fun _ h=>.inl h,fun x _ _=>by rw[hw],fun _ o h=>⟨o,h,aOB _,fun _=>⟨rfl,rfl,fun _=>aOB _⟩⟩⟩;refine⟨⟨fun x hx=>by rw[hw];exact hr.imm x hx,fun j o hj=>?_,hr.inj,hst.glob hr⟩,hst⟩;exact(hr.obj j o hj).keep rfl (fun x c _ _=>⟨by rw[hw],fun h=>h⟩) (fun r _ a _ v hv=>hv.mono hr hst)
theorem Rel.tick(hr:Rel I ι H w)(hH:H.get id=some ob)(hg:ob.g<ob'.g)(hsz:ob'.sz=ob.sz)(hty:ob'.ty=ob.ty)(hrows:ob'.rows=ob.rows)
  (h1:H'.get id=some ob') (h2:∀j,j≠id->H'.get j=H.get j):Rel I ι H' w/\Step I ι H w I ι H' w:=by
 have hst:Step I ι H w I ι H' w:=by
  refine⟨rfl,rfl,rfl,aOB _,fun a _ _=>rfl,fun _ h=>h,fun _ h=>.inl h,?_,fun _ _ _=>rfl,?_⟩
  ·rintro x ⟨j,o,c,hj,hc⟩;by_cases e:j=id
   ·subst e;exact .inl ⟨j,ob,c,hH,hc⟩
   exact .inl ⟨j,o,c,(h2 j e).symm.trans hj,hc⟩
  intro j o hj;by_cases e:j=id
  ·subst e;rw[hH]at hj;cases hj;exact⟨ob',h1,by omega,fun e=>by omega⟩
  exact⟨o,(h2 j e).trans hj,aOB _,fun _=>⟨rfl,rfl,fun _=>aOB _⟩⟩
 refine⟨⟨hr.imm,?_,?_,hst.glob hr⟩,hst⟩
 ·intro j o hj;by_cases e:j=id
  ·subst e;rw[h1]at hj;cases hj;refine(hr.obj j ob hH).keepG hsz hty (by rw[hrows]) (fun _ _ r h=>⟨r,by rw[<-hrows];exact h⟩) rfl (fun x c _ _=>⟨rfl,fun h=>h⟩) (fun i r hi=>⟨r,by rw[<-hrows];exact hi,rfl,fun k a a' h1 h2 v hv=>?_⟩);rw[h1]at h2;cases h2;exact hv.mono hr hst
  rw[h2 j e]at hj;exact(hr.obj j o hj).keep rfl (fun x c _ _=>⟨rfl,fun h=>h⟩) (fun r _ a _ v hv=>hv.mono hr hst)
 intro j j' o o' x c c' hj hj' hc hc';have key:∀j o,H'.get j=some o->∃o,H.get j=some o:=by
  intro j o hj;by_cases e:j=id
  ·exact⟨ob,e▸hH⟩
  exact⟨o,(h2 j e).symm.trans hj⟩
 obtain ⟨q,hq⟩:=key j o hj;obtain ⟨q',hq'⟩:=key j' o' hj';exact hr.inj j j' q q' x c c' hq hq' hc hc'
theorem Rel.adopt(hr:Rel I ι H w)(hH:H.get id=none)(hsz:0<sz):
  Rel I (fun j=>if j=id then none else ι j) ((id,⟨0,sz,ty,[]⟩)::H) w/\Step I ι H w I (fun j=>if j=id then none else ι j) ((id,⟨0,sz,ty,[]⟩)::H) w:=by
 have h1:aB.get ((id,⟨0,sz,ty,[]⟩)::H) id=some ⟨0,sz,ty,[]⟩:=by simp[aB.get,kW]
 have h2:∀j,j≠id->aB.get ((id,⟨0,sz,ty,[]⟩)::H) j=H.get j:=fun j e=>by simp[aB.get,jC (Ne.symm e)]
 have hst:Step I ι H w I (fun j=>if j=id then none else ι j) ((id,⟨0,sz,ty,[]⟩)::H) w:=by
  refine⟨rfl,rfl,rfl,aOB _,fun a _ _=>rfl,fun _ h=>h,fun _ h=>.inl h,?_,fun _ _ _=>rfl,?_⟩
  ·rintro x ⟨j,o,c,hj,hc⟩;by_cases e:j=id
   ·simp[e]at hc
   simp only[e,if_false]at hc;exact .inl ⟨j,o,c,(h2 j e).symm.trans hj,hc⟩
  intro j o hj;by_cases e:j=id
  ·subst e;rw[hH]at hj;cases hj
  exact⟨o,(h2 j e).trans hj,aOB _,fun _=>⟨by simp[e],rfl,fun _=>aOB _⟩⟩
 refine⟨⟨hr.imm,?_,?_,hst.glob hr⟩,hst⟩
 ·intro j o hj;by_cases e:j=id
  ·subst e;rw[h1]at hj;cases hj;exact .inl ⟨hsz,by simp,.inr ⟨by simp,rfl⟩⟩
  rw[h2 j e]at hj;exact(hr.obj j o hj).keep (by simp[e]) (fun x c _ _=>⟨rfl,fun h=>h⟩) (fun r _ a _ v hv=>hv.mono hr hst)
 intro j j' o o' x c c' hj hj' hc hc';by_cases e:j=id
 ·simp[e]at hc
 by_cases e':j'=id
 ·simp[e']at hc'
 simp only[e,if_false]at hc;simp only[e',if_false]at hc';exact hr.inj j j' o o' x c c' ((h2 j e).symm.trans hj) ((h2 j' e').symm.trans hj') hc hc'
end
def SX:AV->Option (List AV)
 |.agg cs=>some cs
 |.any=>none
 |.tup _=>none
 |v=>some [v]
theorem aB6{v:Value}(h:v.oneCell'=true):v.cells=#[v]:=by cases v<;>simp_all[Value.cells,Value.oneCell']
theorem GZ{H:aB}(h:VRel w I ι H c v)(hc:SX v=some cells):
  c.cells.size=cells.length/\(∀u∈c.cells.toList,u.oneCell'=true)/\∀(j:Nat) (a:AV),cells[j]?=some a->∃u,c.cells[j]?=some u/\u.oneCell'=true/\VRel w I ι H u a:=by
 have one:∀(c:Value) (v:AV),c.oneCell'=true->VRel w I ι H c v->c.cells.size=[v].length/\(∀u∈c.cells.toList,u.oneCell'=true)/\∀(j:Nat) (a:AV),[v][j]?=some a->∃u,c.cells[j]?=some u/\u.oneCell'=true/\VRel w I ι H u a:=by
  intro c v h1 h2;rw[aB6 h1];refine⟨rfl,by simpa using h1,fun j a hj=>?_⟩;cases j with
  |zero=>simp at hj;subst hj;exact⟨c,rfl,h1,h2⟩
  |succ j=>simp at hj
 cases h with
 |any v=>cases hc
 |pv h=>cases hc;exact one c _ h.oneCell (.pv h)
 |ref o h1 h2 h3 h4=>cases hc;exact one c _ h3 (.ref o h1 h2 h3 h4)
 |pad b off cap sz h1 h2 h3 cs h4 h5 h6=>cases hc;exact one _ _ rfl (.pad b off cap sz h1 h2 h3 cs h4 h5 h6)
 |osl o h1 h2 h3 h4=>cases hc;exact one c _ h3 (.osl o h1 h2 h3 h4)
 |clo h1 h2=>cases hc;exact one _ _ rfl (.clo h1 h2)
 |bnd h1 h2=>cases hc;exact one _ _ rfl (.bnd h1 h2)
 | @agg vs cs h1 h2 h3 =>
  cases hc;refine⟨h1,fun u hu=>?_,fun j a ha=>?_⟩
  ·obtain ⟨j,hj⟩:=aOQ.1 hu;exact h2 j u (by simpa[Value.cells]using hj)
  have hlt:=(aNz.1 ha).1;have hu:vs[j]?=some (vs[j]'(by omega)):=Array.getElem?_eq_getElem (by omega);exact⟨_,hu,h2 j _ hu,h3 j _ a hu ha⟩
 |tup h1 h2=>cases hc
 |mp o h1 h2 h3 h4=>cases hc;exact one c _ h3 (.mp o h1 h2 h3 h4)
 |it o h1 h2 h3 h4=>cases hc;exact one c _ h3 (.it o h1 h2 h3 h4)
 |yld o h1 h2 h3 h4=>cases hc;exact one c _ h3 (.yld o h1 h2 h3 h4)
 |osc o h1 h2 h3 h4=>cases hc;exact one c _ h3 (.osc o h1 h2 h3 h4)
section
variable{N:Nat}{o:Oper}{E:bS}{H:aB}{x y:Operand}
theorem get_cons_same(id:Nat)(ob:Ob)(H:aB):aB.get ((id,ob)::H) id=some ob:=by simp[aB.get,kW]
theorem get_cons_other{j:Nat}(ob:Ob)(H:aB)(h:j≠id):aB.get ((id,ob)::H) j=H.get j:=by simp[aB.get,jC (Ne.symm h)]
theorem aAQ(hr:Rel I ι H w)(hv:VRel w I ι H c v)(hc:SX v=some cells)(hne:0<cells.length)(hid:H.get id=none):
  ∃ι',VRel (w.alloc (.cells c.cells T)) I ι' ((id,⟨0,cells.length,T,[cells]⟩)::H) (.pointer (some ⟨w.heap.size,0,none⟩)) (.ref id 0 0 0) /\
   Rel I ι' ((id,⟨0,cells.length,T,[cells]⟩)::H) (w.alloc (.cells c.cells T))/\Step I ι H w I ι' ((id,⟨0,cells.length,T,[cells]⟩)::H) (w.alloc (.cells c.cells T)):=by
 obtain ⟨h1,h2,h3⟩:=GZ hv hc;have hp:=Rel.place (H':=(id,⟨0,cells.length,T,[cells]⟩)::H) (id:=id) (cap:=1) (ob':=⟨0,cells.length,T,[cells]⟩) (cs':=c.cells) (w':=w.alloc (.cells c.cells T)) hr rfl rfl rfl rfl
  (fun o ho=>by rw[hid]at ho;cases ho) hne (by simp[h1]) (by simp) (by simp[maxLen]) (by simp) (fun i r hi k a hk=>by
   cases i with
   |zero=>simp at hi;subst hi;simpa using h3 k a hk
   |succ i=>simp at hi) (get_cons_same _ _ _) (fun j hj=>get_cons_other _ _ hj)
 refine⟨_,.ref ⟨0,cells.length,T,[cells]⟩ (get_cons_same _ _ _) (aOB _) rfl fun _=>⟨hne,w.heap.size,1,by simp,by simp⟩,hp.1,hp.2⟩
theorem cE(ho:o.op=.box T x)(hx:aO E x=some v)(hc:SX v=some cells)(hn:cells.length=n+1)(hid:H.get id=none):
  cH P N o E H (.ref id 0 0 0) ((id,⟨0,n+1,T,[cells]⟩)::H):=by
 intro a w I ι _ _ hr he K Q hk;obtain ⟨ι',h1,h2,h3⟩:=aAQ (T:=T) hr (aI he hx) hc (by omega) hid;rw[hn]at h1 h2 h3;unfold Oper.wpW execOp;simp only[ho,Instr.box,newVar,newRow,Sem.run_bind,run_newObj,Sem.run_pure,Result.andThen_ok];exact hk _ _ I ι' _ _ ⟨rfl,rfl⟩ h1 h2 h3
def zv:Value->Option AV
 |.agg cs=>(cs.toList.mapM cv).map .agg
 |v=>cv v
theorem aGv{l:List Value}(h:l.mapM cv=some vs):l.length=vs.length/\∀(i:Nat) (v:Value) (a:AV),l[i]?=some v->vs[i]?=some a->cv v=some a:=by
 induction l generalizing vs with
 |nil=>simp at h;subst h;simp
 |cons x l ih =>
  simp only[List.mapM_cons,Option.pure_def,Option.bind_eq_bind,Option.bind_eq_some_iff,Option.some.injEq]at h;obtain ⟨v0,h0,vs0,h1,rfl⟩:=h;obtain ⟨l1,l2⟩:=ih h1;refine⟨by simp[l1],fun i v a hv ha=>?_⟩;cases i with
  |zero=>simp at hv ha;subst hv ha;exact h0
  |succ i=>simp at hv ha;exact l2 i v a hv ha
theorem aI5(h:zv z=some v):VRel w I ι H z v:=by
 unfold zv at h
 split at h
 ·rename_i cs;cases e:cs.toList.mapM cv with
  |none=>rw[e]at h;cases h
  | some vs =>
   rw[e]at h;cases h;obtain ⟨h1,h2⟩:=aGv e;refine .agg (by simpa using h1) (fun i u hu=>?_) (fun i u a hu ha=>(MF (h2 i u a (by simpa using hu) ha)).1);have hlt:i<vs.length:=by
    have:i<cs.size:=(Array.getElem?_eq_some_iff.1 hu).1;have:cs.toList.length=vs.length:=h1;simp at this;omega
   exact(MF (H:=H) (w:=w) (I:=I) (ι:=ι) (h2 i u vs[i] (by simpa using hu) (aOA hlt))).2
 exact(MF h).1
def cvN:Value->Option AV
 |.slice none 0 0=>some (.pv .nils)
 |v=>cv v
theorem SJ(h:cvN z=some v):VRel w I ι H z v/\z.oneCell'=true:=by
 unfold cvN at h
 split at h
 ·cases h;exact⟨.pv .nils,rfl⟩
 exact MF h
def zvN:Value->Option AV
 |.agg cs=>(cs.toList.mapM cvN).map .agg
 |v=>cvN v
theorem aDz{l:List Value}(h:l.mapM cvN=some vs):l.length=vs.length/\∀(i:Nat) (v:Value) (a:AV),l[i]?=some v->vs[i]?=some a->cvN v=some a:=by
 induction l generalizing vs with
 |nil=>simp at h;subst h;simp
 |cons x l ih =>
  simp only[List.mapM_cons,Option.pure_def,Option.bind_eq_bind,Option.bind_eq_some_iff,Option.some.injEq]at h;obtain ⟨v0,h0,vs0,h1,rfl⟩:=h;obtain ⟨l1,l2⟩:=ih h1;refine⟨by simp[l1],fun i v a hv ha=>?_⟩;cases i with
  |zero=>simp at hv ha;subst hv ha;exact h0
  |succ i=>simp at hv ha;exact l2 i v a hv ha
theorem aFf(h:zvN z=some v):VRel w I ι H z v:=by
 unfold zvN at h
 split at h
 ·rename_i cs;cases e:cs.toList.mapM cvN with
  |none=>rw[e]at h;cases h
  | some vs =>
   rw[e]at h;cases h;obtain ⟨h1,h2⟩:=aDz e;refine .agg (by simpa using h1) (fun i u hu=>?_) (fun i u a hu ha=>(SJ (h2 i u a (by simpa using hu) ha)).1);have hlt:i<vs.length:=by
    have:i<cs.size:=(Array.getElem?_eq_some_iff.1 hu).1;have:cs.toList.length=vs.length:=h1;simp at this;omega
   exact(SJ (H:=H) (w:=w) (I:=I) (ι:=ι) (h2 i u vs[i] (by simpa using hu) (aOA hlt))).2
 exact(SJ h).1
def ZV(z:Value)(v:AV):Prop:=zv z=some v\/zvN z=some v
theorem ZV.rel(h:ZV z v):VRel w I ι H z v:=h.elim aI5 aFf
theorem aB5(ho:o.op=.alloc T)(hz:∀w,(zeroValue T).run P w=.ok z w)(hv:ZV z v)(hc:SX v=some cells)(hn:cells.length=n+1)(hid:H.get id=none):
  cH P N o E H (.ref id 0 0 0) ((id,⟨0,n+1,T,[cells]⟩)::H):=by
 intro a w I ι _ _ hr he K Q hk;obtain ⟨ι',h1,h2,h3⟩:=aAQ (T:=T) hr (ZV.rel (w:=w) (I:=I) (ι:=ι) (H:=H) hv) hc (by omega) hid;rw[hn]at h1 h2 h3;unfold Oper.wpW execOp;simp only[ho,Instr.alloc,hz,newVar,newRow,Sem.run_bind,run_newObj,Sem.run_pure,Result.andThen_ok];exact hk _ _ I ι' _ _ ⟨rfl,rfl⟩ h1 h2 h3
theorem eE(ho:o.op=.assign (.const (.slice none 0 0)))(hid:H.get id=none)(hsz:Nat.blt 0 sz=true):
  cH P N o E H (.osl id 0 0 0) ((id,⟨0,sz,ty,[]⟩)::H):=by
 intro a w I ι _ _ hr he K Q hk;obtain ⟨h1,h2⟩:=Rel.adopt (sz:=sz) (ty:=ty) hr hid (by simpa[Nat.blt_eq]using hsz);unfold Oper.wpW execOp;simp only[ho,Sem.run_pure,Act.eval];exact hk _ _ I _ _ _ ⟨rfl,rfl⟩ (.osl ⟨0,sz,ty,[]⟩ (get_cons_same _ _ _) (aOB _) rfl fun _=>⟨by simpa[Nat.blt_eq]using hsz,by simp,.inr ⟨by simp,rfl,rfl,rfl⟩⟩) h1 h2
theorem aCw(ho:o.op=.store T x y)(hr:Rel I ι H w)(hxv:VRel w I ι H (a.eval x) (.ref id g i k))(hyv:VRel w I ι H (a.eval y) v)(hc:SX v=some cells)
  (hs:∀w,(sizeOf T).run P w=.ok n w) (hn:cells.length=n) (hH:H.get id=some ob) (hg:ob.g=g) (hi:ob.rows[i]?=some r) (hk:k+n<=r.length)
  (hr':r.take k++(cells++r.drop (k+n))=r') (hH2:H.set id {ob with rows:=ob.rows.set i r'}=H2) (K:Act->World->Prop) (Q:Exit->Act->World->Prop)
  (hkk:∀c w',Rel I ι H2 w'->Step I ι H w I ι H2 w'->K (a.put o.dst c) w'):o.wpW P a w K Q:=by
 obtain ⟨b,cap,h1,h3⟩:=mG hxv hH hg;obtain ⟨c1,c2,c3⟩:=GZ hyv hc;obtain ⟨p1,p2,⟨b',cap',cs,e1,e2,e3,e4,e5,e5',e6⟩|⟨e1,_⟩⟩:=(hr.obj id ob hH).cells (KG hxv hH hg)
 ·rw [h1] at e1;cases e1;have hil:i < ob.rows.length:=(aNz.1 hi).1;have hrl:r.length=ob.sz:=p2 r (aOF hi);have hfit:i*ob.sz+k+n<=cs.size:=by
   have:(i+1)*ob.sz<=cap*ob.sz:=Nat.mul_le_mul_right _ (by omega);rw[Nat.add_mul]at this;omega
  have hcl:(a.eval y).cells.toList.length=n:=by simp[c1,hn]
  have hst:=run_storeCells_at P b (i*ob.sz+k) ob.ty (a.eval y).cells.toList 0 cs w e2 (by omega) c2;simp only[Nat.add_zero,hcl]at hst;have hlen':r'.length=r.length:=by rw[<-hr'];simp;omega
  obtain ⟨hrel,hstep⟩:=Rel.update (H':=H2) (ob':={ob with rows:=ob.rows.set i r'}) (cs':=(cs.toList.take (i*ob.sz+k)++(a.eval y).cells.toList++cs.toList.drop (i*ob.sz+k+n)).toArray)
   hr hH h1 e2 (aOB _) rfl rfl (fun _=>by simp) (by simp[c1,hn];omega) (by simpa using e5)
   (fun q hq=>by
    rcases List.mem_or_eq_of_mem_set hq with h|h
    ·exact p2 q h
    rw[h,hlen',hrl])
   (fun i' q hq k' a' hk'=>by
    have hql:q.length=ob.sz:=by
     have hm:=aOF hq;rcases List.mem_or_eq_of_mem_set hm with h|h
     ·exact p2 q h
     rw[h,hlen',hrl]
    have hk'l:k'<ob.sz:=by rw[<-hql];exact(aNz.1 hk').1
    simp only[List.getElem?_toArray];by_cases e:i'=i
    ·subst e;have hq':q=r':=by
      rw[List.getElem?_set_self hil]at hq;exact(Option.some.inj hq).symm
     subst hq';rw[<-hr']at hk';by_cases ha:k'<k
     ·rw[List.getElem?_append_left (by simp;omega),List.getElem?_take,aNu ha]at hk';obtain ⟨u,q1,q2,q3⟩:=e6 i' r hi k' a' hk';refine⟨u,?_,q2,q3⟩;rw[List.append_assoc,List.getElem?_append_left (by simp;omega),List.getElem?_take,aNu (by omega)]
      simpa using q1
     by_cases hb:k'<k+n
     ·rw[List.getElem?_append_right (by simp;omega),List.getElem?_append_left (by simp;omega)]at hk';have hmin:min k r.length=k:=by omega
      simp only[aOJ,hmin]at hk';obtain ⟨u,q1,q2,q3⟩:=c3 (k' - k) a' hk';refine⟨u,?_,q2,q3⟩;rw[List.append_assoc,List.getElem?_append_right (by simp;omega),List.getElem?_append_left (by simp[c1,hn];omega)];have hmin2:min (i'*ob.sz+k) cs.size=i'*ob.sz+k:=by omega
      simp only[aOJ,Array.length_toList,hmin2];rw[show i'*ob.sz+k' - (i'*ob.sz+k)=k' - k by omega]
      simpa using q1
     rw[List.getElem?_append_right (by simp;omega),List.getElem?_append_right (by simp;omega),List.getElem?_drop]at hk';have hmin:min k r.length=k:=by omega
     simp only[aOJ,hmin,hn]at hk';rw[show k+n+(k' - k - n)=k' by omega]at hk';obtain ⟨u,q1,q2,q3⟩:=e6 i' r hi k' a' hk';refine⟨u,?_,q2,q3⟩;rw[List.append_assoc,List.getElem?_append_right (by simp;omega),List.getElem?_append_right (by simp[c1,hn];omega),List.getElem?_drop];have hmin2:min (i'*ob.sz+k) cs.size=i'*ob.sz+k:=by omega
     simp only[aOJ,Array.length_toList,hmin2,hcl];rw[show i'*ob.sz+k+n+(i'*ob.sz+k' - (i'*ob.sz+k) - n)=i'*ob.sz+k' by omega]
     simpa using q1
    rw[List.getElem?_set_ne (Ne.symm e)]at hq;obtain ⟨u,q1,q2,q3⟩:=e6 i' q hq k' a' hk';refine⟨u,?_,q2,q3⟩;rcases Nat.lt_or_gt_of_ne e with hlt|hgt
    ·have:(i'+1)*ob.sz<=i*ob.sz:=Nat.mul_le_mul_right _ hlt;rw[Nat.add_mul]at this;rw[List.append_assoc,List.getElem?_append_left (by simp;omega),List.getElem?_take,aNu (by omega)]
     simpa using q1
    have:(i+1)*ob.sz<=i'*ob.sz:=Nat.mul_le_mul_right _ hgt;rw[Nat.add_mul]at this;rw[List.append_assoc,List.getElem?_append_right (by simp;omega),List.getElem?_append_right (by simp[c1,hn];omega),List.getElem?_drop];have hmin2:min (i*ob.sz+k) cs.size=i*ob.sz+k:=by omega
    simp only[aOJ,Array.length_toList,hmin2,hcl];rw[show i*ob.sz+k+n+(i'*ob.sz+k' - (i*ob.sz+k) - n)=i'*ob.sz+k' by omega]
    simpa using q1)
   (by rw[<-hH2];exact aB.get_set_same _ _ _) (fun j hj=>by rw[<-hH2];exact aB.get_set_other _ _ hj)
  unfold Oper.wpW execOp;have hsz':¬ ((a.eval y).cells.size≠n):=by simp[c1,hn]
  simp only[ho,h3,Instr.storeAt,Instr.sureAddr,storeVar,Sem.run_bind,Sem.run_pure,Result.andThen_ok,hs,Sem.run_ite,hsz',if_false,hst];exact hkk _ _ hrel hstep
 rw[h1]at e1;cases e1
theorem F6(ho:o.op=.store T x y)(hx:aO E x=some (.ref id g i k))(hy:aO E y=some v)(hc:SX v=some cells)
  (hs:∀w,(sizeOf T).run P w=.ok n w) (hn:cells.length=n) (hH:H.get id=some ob) (hg:ob.g=g) (hi:ob.rows[i]?=some r) (hk:k+n<=r.length)
  (hr':r.take k++(cells++r.drop (k+n))=r') (hH2:H.set id {ob with rows:=ob.rows.set i r'}=H2):cH P N o E H .any H2:=by
 intro a w I ι _ _ hr he K Q hkk;exact aCw ho hr (aI he hx) (aI he hy) hc hs hn hH hg hi hk hr' hH2 K Q (fun c w' h1 h2=>hkk c w' I ι _ _ ⟨rfl,rfl⟩ (.any _) h1 h2)
end
end
end Go.Abs
