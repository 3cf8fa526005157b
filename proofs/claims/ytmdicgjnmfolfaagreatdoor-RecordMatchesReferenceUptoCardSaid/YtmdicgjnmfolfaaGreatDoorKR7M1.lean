/-
  Parts of the proof: rules of a program logic, contracts, plain laws. Conditions: each theorem's own.
-/
import Derived.Test.YtmdicgjnmfolfaaGreatDoorChecked
import Derived.WalkKit
import Derived.ProofKit
import Derived.Laws.AppendOwn
import Derived.Laws.CopyOwn
import Derived.Laws.MakeOwn
import Derived.RowKit3
import Derived.Deep.LoopGhost
import Derived.Orders
import Derived.OrdersIn
import Derived.TacticsIn
import Derived.RangeFuncRecord
set_option linter.unusedVariables false
set_option linter.unusedSimpArgs false
set_option maxRecDepth 100000
set_option maxHeartbeats 8000000
theorem aCb{p:Prop}[Decidable p](h:decide p=true):p:=of_decide_eq_true h
theorem aCc{p:Prop}[Decidable p](h:decide p=false):¬p:=of_decide_eq_false h
theorem aCd.{u}{c:Prop}{h:Decidable c}(n:¬c){α:Sort u}{t e:α}:(if c then t else e)=e:=if_neg n
theorem aCe.{u}{c:Prop}{h:Decidable c}(n:c){α:Sort u}{t e:α}:(if c then t else e)=t:=if_pos n
theorem aCf.{u,v}{α:Type u}{β:Type v}{l:List α}(f:α -> β):(l.map f).length=l.length:=List.length_map f
theorem aCg.{u}{α:Type u}{l m:List α}:(l++m).length=l.length+m.length:=List.length_append
theorem aCh.{u}{α:Type u}{a:α}{l:List α}:(a::l).length=l.length+1:=rfl
theorem aCi.{u}{α:Type u}{a b:α}:a ∈ [b] ↔ a=b:=List.mem_singleton
theorem aCj.{u}{α:Type u}{i:Nat}{a:α}{l:List α}:l[i]?=some a ↔ ∃h:i<l.length,l[i]=a:=List.getElem?_eq_some_iff
theorem aCk.{u}{α:Type u}{l:List α}{i:Nat}(h:i<l.length):l[i]?=some l[i]:=List.getElem?_eq_getElem h
theorem aCl(n:Nat):n <= n:=Nat.le_refl n
theorem aCm{p:Prop}[Decidable p]:(decide p=true)=p:=decide_eq_true_eq
theorem aCn{p:Prop}{x:Decidable p}:decide p=false ↔ ¬p:=decide_eq_false_iff_not
theorem aCo(a b:Bool):((a&&b)=true)=(a=true /\ b=true):=Bool.and_eq_true a b
theorem aCp.{u}{α:Type u}{l:List α}{i:Nat}{a:α}(h:l[i]?=some a):a ∈ l:=List.mem_of_getElem? h
theorem aCq(n:Nat):(n:Int).toNat=n:=rfl
theorem aCr.{u}{α:Type u}{b:α}{l:List α}{a:α}:a ∈ b::l ↔ a=b \/ a ∈ l:=List.mem_cons
theorem aCs{n m:Nat}(h:n.ble m=true):n <= m:=Nat.le_of_ble_eq_true h
theorem aCt.{u}{α:Type u}{i:Nat}{l:List α}:(l.take i).length=min i l.length:=List.length_take
theorem aCu.{u}{α:Type u}{i:Nat}{l:List α}:(l.drop i).length=l.length-i:=List.length_drop
theorem aCv.{u}{α:Type u}{a:α}:¬a ∈ ([]:List α):=List.not_mem_nil
theorem aCw(n:Nat):0 <= n:=Nat.zero_le n
theorem aCx(n:Nat):0+n=n:=Nat.zero_add n
theorem aCy(b:Bool):((!b)=true)=(b=false):=Bool.not_eq_true' b
theorem aCz.{u,v}{α:Type u}{β:Type v}{f:α -> β}{l:List α}{i:Nat}:(l.map f)[i]?=Option.map f l[i]?:=List.getElem?_map
theorem aDA.{u}{α:Type u}{a:α}{l:List α}:a ∈ l ↔ ∃i:Nat,l[i]?=some a:=List.mem_iff_getElem?
theorem aDB{x y:Bool}:(x||y)=false ↔ x=false /\ y=false:=Bool.or_eq_false_iff
namespace Go.Abs
inductive GV where
 |ints (k:IntKind) (l:List Int)
 |face
def GV.holds:GV->Array Value->Prop
 |.ints k l,cs=>cs=(l.map fun z=>Value.int k z).toArray
 |.face,cs=>∃t p,cs=#[.iface t p]
def ak:List (Nat×GV):=[(3,.ints .u64 [1,10,100,1000,10000,100000,1000000,10000000,100000000,1000000000,10000000000,100000000000,1000000000000,10000000000000,100000000000000,1000000000000000,10000000000000000,100000000000000000,1000000000000000000,10000000000000000000]),(2,.face),(1,.face)]
end Go.Abs
section
namespace Go.Abs
variable{w w':World}{I:Nat->Prop}
inductive PV where
 |int (k:IntKind) (n:Int)
 |bool (b:Bool)
 |str (s:ByteArray)
 |sl (rows:List (List PV))
 |nilp
 |fn (f:FuncId)
 |nilfn
 |nils
 |nilm
 |slf (rows:List (List PV))
 |sat (p:Value->Prop)
 |ifc (t:TypeId) (p:PV)
 |ifa (t:TypeId) (ps:List PV)
 deriving Inhabited
inductive PRep(w:World)(I:Nat->Prop):Value->PV->Prop
 |int (k:IntKind) (n:Int):PRep w I (.int k n) (.int k n)
 |bool (b:Bool):PRep w I (.bool b) (.bool b)
 |str (s:ByteArray):PRep w I (.string s) (.str s)
 |nilp:PRep w I (.pointer none) .nilp
 |fn (f:FuncId):PRep w I (.func (.func f) #[] #[]) (.fn f)
 |nilfn:PRep w I .nilFunc .nilfn
 |nilsl:PRep w I (.slice none 0 0) (.sl [])
 |nils:PRep w I (.slice none 0 0) .nils
 |nilm:PRep w I (.map none) .nilm
 |sat {v:Value} {p:Value->Prop} (h1:v.oneCell'=true) (h:p v):PRep w I v (.sat p)
 |slf (a:Addr) (n:Nat) (rows:List (List PV)) (h:PRep w I (.slice (some a) n n) (.sl rows)):PRep w I (.slice (some a) n n) (.slf rows)
 |ifc (t:TypeId) (v:Value) (p:PV) (h:PRep w I v p):PRep w I (.iface t v) (.ifc t p)
 |ifa (t:TypeId) (cs:Array Value) (ps:List PV) (hl:cs.size=ps.length) (h:∀(k:Nat) (c:Value) (p:PV),cs[k]?=some c->ps[k]?=some p->PRep w I c p):PRep w I (.iface t (.agg cs)) (.ifa t ps)
 |empsl (a:Addr):PRep w I (.slice (some a) 0 0) (.sl [])
 | sl (b off cap sz:Nat) (rows:List (List PV)) (cs:Nat->Nat->Value) (hI:I b) (hsz:0 < sz) (hlen:∀ r∈rows,r.length=sz) (hcap:rows.length<=cap)
   (hc:∀(i:Nat) (r:List PV),rows[i]?=some r->∀(k:Nat) (p:PV),r[k]?=some p->w.cell? ⟨b,off+i*sz+k,none⟩=some (cs i k))
   (hp:∀(i:Nat) (r:List PV),rows[i]?=some r->∀(k:Nat) (p:PV),r[k]?=some p->PRep w I (cs i k) p) :
   PRep w I (.slice (some ⟨b,off,none⟩) rows.length cap) (.sl rows)
theorem cell?_of_heap{b o}(h:w'.heap[b]?=w.heap[b]?):w'.cell? ⟨b,o,none⟩=w.cell? ⟨b,o,none⟩:=by simp[World.cell?,h]
theorem PRep.mono{w w'}{I q}(x:∀b,I b->w'.heap[b]?=w.heap[b]?)(A:∀b,I b->q b){v}{p}(h:PRep w I v p):PRep w' q v p:=by
 induction h with
 |int k n=>exact .int k n
 |bool b=>exact .bool b
 |str s=>exact .str s
 |nilp=>exact .nilp
 |fn f=>exact .fn f
 |nilfn=>exact .nilfn
 |nilsl=>exact .nilsl
 |nils=>exact .nils
 |nilm=>exact .nilm
 |sat y h=>exact .sat y h
 |slf a n e h d=>exact .slf a n _ d
 |ifc t v p h d=>exact .ifc t v p d
 |ifa t D ps C h d=>exact .ifa t _ _ C (fun k c p m o=>d k c p m o)
 |empsl a=>exact .empsl a
 |sl b off cap sz e D u l j g m o d =>
  exact .sl b _ _ _ _ _ (A b u) l j g (fun i r B k p z=>(cell?_of_heap (x b u)).trans (m i r B k p z)) d
theorem PRep.oneCell{w}{I}{v}{p}(h:PRep w I v p):v.oneCell'=true:=by cases h<;>first|rfl|omega
inductive AV where
 |any
 |pv (p:PV)
 |ref (id g i k:Nat)
 |pad (rows:List (List PV)) (i k:Nat)
 |osl (id g off len:Nat)
 |clo (f:FuncId) (caps:List AV)
 |bnd (f:FuncId) (xs:List AV)
 |agg (cs:List AV)
 |tup (vs:List AV)
 |mp (id g:Nat)
 |it (id g:Nat)
 |osc (id g off len c:Nat)
 |yld (id g:Nat)
 |raw (x:Go.Loop) (ts:List Nat)
 deriving Inhabited
structure Ob where
 g:Nat
 sz:Nat
 ty:TypeId
 rows:List (List AV)
abbrev aG:=List (Nat×Ob)
variable{H H':aG}
abbrev dC:=List (Nat×AV)
def aG.get:aG->Nat->Option Ob
 | [],_=>none
 |(i,o)::r,id=>cond (Nat.beq i id) (some o) (aG.get r id)
def aG.set:aG->Nat->Ob->aG
 | [],id,o=>[(id,o)]
 |(i,o')::r,id,o=>cond (Nat.beq i id) ((i,o)::r) ((i,o')::aG.set r id o)
def dC.get:dC->Nat->Option AV
 | [],_=>none
 |(i,v)::r,t=>cond (Nat.beq i t) (some v) (dC.get r t)
theorem pQ(i:Nat):Nat.beq i i=true:=Nat.beq_refl i
theorem kV{i j:Nat}(h:i≠j):Nat.beq i j=false:=by
 cases e:Nat.beq i j with
 |false=>rfl
 |true=>simp_all
theorem aG.get_set_same(H:aG)(id)(o):(H.set id o).get id=some o:=by
 induction H with
 |nil=>simp[aG.set,aG.get,pQ]
 |cons x r a =>
  obtain ⟨i,o'⟩:=x;cases e:Nat.beq i id with
  |true=>simp[aG.set,aG.get,e]
  |false=>simp[aG.set,aG.get,e,a]
theorem aG.get_set_other(H:aG){id j}(o)(h:j≠id):(H.set id o).get j=H.get j:=by
 induction H with
 |nil=>simp[aG.set,aG.get,kV (Ne.symm h)]
 | cons x r a =>
  obtain ⟨i,o'⟩:=x;cases e:Nat.beq i id with
  |true =>
   have:=Nat.eq_of_beq_eq_true e;subst this;simp[aG.set,aG.get,kV (Ne.symm h),e]
  |false=>simp[aG.set,aG.get,e,a]
theorem dC.get_cons_same(E:dC)(t)(v):dC.get ((t,v)::E) t=some v:=by simp[dC.get,pQ]
theorem dC.get_cons_other(E:dC){t u}(v)(h:t≠u):dC.get ((t,v)::E) u=E.get u:=by simp[dC.get,kV h]
abbrev lR:=Nat->Option (Nat×Nat)
variable{ι:lR}
inductive VRel(w:World)(I:Nat->Prop)(ι:lR)(H:aG):Value->AV->Prop
 |any (v:Value):VRel w I ι H v .any
 |pv {v:Value} {p:PV} (h:PRep w I v p):VRel w I ι H v (.pv p)
 | ref {v:Value} {id g i k:Nat} (o:Ob) (hH:H.get id=some o) (hg:g<=o.g) (h1:v.oneCell'=true)
   (h:o.g=g->0<o.sz/\∃b cap,ι id=some (b,cap)/\v=.pointer (some ⟨b,i*o.sz+k,none⟩)):VRel w I ι H v (.ref id g i k)
 | pad {rows:List (List PV)} {i k:Nat} (b off cap sz:Nat) (h:PRep w I (.slice (some ⟨b,off,none⟩) rows.length cap) (.sl rows)) (hsz:0 < sz) (hlen:∀ r∈rows,r.length=sz)
   (cs:Nat->Nat->Value) (hI:I b)
   (hc:∀(i:Nat) (r:List PV),rows[i]?=some r->∀(k:Nat) (p:PV),r[k]?=some p->w.cell? ⟨b,off+i*sz+k,none⟩=some (cs i k))
   (hp:∀(i:Nat) (r:List PV),rows[i]?=some r->∀(k:Nat) (p:PV),r[k]?=some p->PRep w I (cs i k) p) :
   VRel w I ι H (.pointer (some ⟨b,off+i*sz+k,none⟩)) (.pad rows i k)
 | osl {v:Value} {id g off len:Nat} (o:Ob) (hH:H.get id=some o) (hg:g<=o.g) (h1:v.oneCell'=true)
   (h:o.g=g->0<o.sz/\off+len<=o.rows.length /\
    ((∃b cap oo,ι id=some (b,cap)/\v=.slice (some ⟨b,oo,none⟩) len (cap - off)/\(off<cap\/off=0->oo=off*o.sz))\/(ι id=none/\v=.slice none 0 0/\off=0/\len=0))) :
   VRel w I ι H v (.osl id g off len)
 | clo {f:FuncId} {vs:Array Value} {caps:List AV} (hl:vs.size=caps.length) (h:∀ (i:Nat) (v:Value) (a:AV),vs[i]?=some v->caps[i]?=some a->VRel w I ι H v a) :
   VRel w I ι H (.func (.func f) #[] vs) (.clo f caps)
 | bnd {f:FuncId} {vs:Array Value} {xs:List AV} (hl:vs.size=xs.length) (h:∀ (i:Nat) (v:Value) (a:AV),vs[i]?=some v->xs[i]?=some a->VRel w I ι H v a) :
   VRel w I ι H (.func (.func f) vs #[]) (.bnd f xs)
 | agg {vs:Array Value} {cs:List AV} (hl:vs.size=cs.length) (h1:∀ (i:Nat) (v:Value),vs[i]?=some v->v.oneCell'=true) (h:∀ (i:Nat) (v:Value) (a:AV),vs[i]?=some v->cs[i]?=some a->VRel w I ι H v a) :
   VRel w I ι H (.agg vs) (.agg cs)
 | tup {vs:Array Value} {cs:List AV} (hl:vs.size=cs.length) (h:∀ (i:Nat) (v:Value) (a:AV),vs[i]?=some v->cs[i]?=some a->VRel w I ι H v a) :
   VRel w I ι H (.tuple vs) (.tup cs)
 |mp {v:Value} {id g:Nat} (o:Ob) (hH:H.get id=some o) (hg:g<=o.g) (h1:v.oneCell'=true) (h:o.g=g->o.sz=0/\∃b,ι id=some (b,0)/\v=.map (some b)):VRel w I ι H v (.mp id g)
 |it {v:Value} {id g:Nat} (o:Ob) (hH:H.get id=some o) (hg:g<=o.g) (h1:v.oneCell'=true) (h:o.g=g->o.sz=0/\∃b,ι id=some (b,1)/\v=.pointer (some ⟨b,0,none⟩)):VRel w I ι H v (.it id g)
 |yld {v:Value} {id g:Nat} (o:Ob) (hH:H.get id=some o) (hg:g<=o.g) (h1:v.oneCell'=true) (h:o.g=g->o.sz=0/\∃b,ι id=some (b,2)/\v=.func (.yield b) #[] #[]):VRel w I ι H v (.yld id g)
 | osc {v:Value} {id g off len c:Nat} (o:Ob) (hH:H.get id=some o) (hg:g<=o.g) (h1:v.oneCell'=true)
   (h:o.g=g->0<o.sz/\len<=c /\
    ((∃b oo,ι id=some (b,off+c)/\v=.slice (some ⟨b,oo,none⟩) len c/\(0<c\/off=0->oo=off*o.sz))\/(ι id=none/\v=.slice none 0 0/\off=0/\len=0/\c=0))) :
   VRel w I ι H v (.osc id g off len c)
def MW(ι:lR)(H:aG)(b:Nat):Prop:=∃id o cap,H.get id=some o/\ι id=some (b,cap)
def py(w:World)(I:Nat->Prop)(ι:lR)(H:aG)(id:Nat)(o:Ob):Prop :=0<o.sz/\(∀r∈o.rows,r.length=o.sz) /\
  ((∃ b cap cs,ι id=some (b,cap)/\w.heap[b]?=some (.cells cs o.ty (0,0))/\¬ I b/\cs.size=cap*o.sz/\o.rows.length<=cap/\cap<=maxLen /\
      ∀(i:Nat) (r:List AV),o.rows[i]?=some r->∀(k:Nat) (a:AV),r[k]?=some a->∃v,cs[i*o.sz+k]?=some v/\v.oneCell'=true/\VRel w I ι H v a) \/
   (ι id=none/\o.rows=[]))
def Hi(w:World)(I:Nat->Prop)(ι:lR)(H:aG)(id:Nat)(o:Ob):Prop :=o.sz=0/\∃b es,ι id=some (b,0)/\w.heap[b]?=some (.map es o.ty)/\¬ I b/\es.size=o.rows.length /\
  (∀(i:Nat) (e:MapEntry),es[i]?=some e->e.born<o.ty)/\(∀(i j:Nat) (e e':MapEntry),i<j->es[i]?=some e->es[j]?=some e'->e.born<e'.born) /\
  ∀(i:Nat) (r:List AV),o.rows[i]?=some r->∃e k a n,es[i]?=some e/\r=[k,a,n]/\VRel w I ι H e.key k/\VRel w I ι H e.val a/\VRel w I ι H (.int .i64 e.born) n
def Ow(w:World)(I:Nat->Prop)(ι:lR)(H:aG)(id:Nat)(o:Ob):Prop :=o.sz=0/\∃b bm since seen last,ι id=some (b,1)/\w.heap[b]?=some (.mapIter bm since seen last)/\¬ I b/\o.rows.length=seen.size+1 /\
  (∃m n k,o.rows[0]?=some [m,n,k]/\VRel w I ι H (.map bm) m/\VRel w I ι H (.int .i64 since) n/\VRel w I ι H (.int .i64 last) k) /\
  ∀(i:Nat) (r:List AV),o.rows[i+1]?=some r->∃x n,seen[i]?=some x/\r=[n]/\VRel w I ι H (.int .i64 x) n
def Hg(w:World)(I:Nat->Prop)(ι:lR)(H:aG)(id:Nat)(o:Ob):Prop :=o.sz=0/\∃b x,ι id=some (b,2)/\w.heap[b]?=some (.loop x)/\¬ I b/\∀y ts r,o.rows=[[.raw y ts],r]->x=y/\∀(i t:Nat) (a:AV),ts[i]?=some t->r[i]?=some a->∃c,x.tmps[t]?=some c/\VRel w I ι H c a
def mK(w:World)(I:Nat->Prop)(ι:lR)(H:aG)(id:Nat)(o:Ob):Prop:=py w I ι H id o\/Hi w I ι H id o\/Ow w I ι H id o\/Hg w I ι H id o
theorem mK.cells{w}{I}{ι}{H}{id}{o}(h:mK w I ι H id o)(hz:0<o.sz):py w I ι H id o:=by
 rcases h with h|h|h|h
 ·exact h
 ·have:=h.1;omega
 ·have:=h.1;omega
 have:=h.1;omega
theorem mK.map{w}{I}{ι}{H}{id}{o}(h:mK w I ι H id o)(hz:o.sz=0){b}(a:ι id=some (b,0)):Hi w I ι H id o:=by
 rcases h with h|h|⟨_,d,_,_,_,_,c,_⟩|⟨_,d,_,c,_⟩
 ·have:=h.1;omega
 ·exact h
 ·rw[a]at c;cases c
 rw[a]at c;cases c
theorem mK.rec{w}{I}{ι}{H}{id}{o}(h:mK w I ι H id o)(hz:o.sz=0){b}(a:ι id=some (b,2)):Hg w I ι H id o:=by
 rcases h with h|⟨_,d,_,c,_⟩|⟨_,d,_,_,_,_,c,_⟩|h
 ·have:=h.1;omega
 ·rw[a]at c;cases c
 ·rw[a]at c;cases c
 exact h
theorem mK.block{w}{I}{ι}{H}{id b cap}{o}(h:mK w I ι H id o)(hi:ι id=some (b,cap)):b<w.heap.size/\¬ I b:=by rcases h with⟨_,_,⟨d,cap',cs,c,e,a,_⟩|h1⟩|⟨_,d,es,c,e,a,_⟩|⟨_,d,bm,since,seen,last,c,e,a,_⟩|⟨_,d,x,c,e,a,_⟩;all_goals grind
theorem mK.pos{w}{I}{ι}{H}{id b cap}{o}{cs}{t}{f}(h:mK w I ι H id o)(hi:ι id=some (b,cap))(hb:w.heap[b]?=some (.cells cs t f)):0<o.sz:=by
 rcases h with h|⟨_,d,es,c,a,_⟩|⟨_,d,bm,since,seen,last,c,a,_⟩|⟨_,d,x,c,a,_⟩
 ·exact h.1
 all_goals simp_all
theorem Y8{rows rows'}(d:rows.length=rows'.length)(h:∀(i:Nat) (r'),rows'[i]?=some r'->∃r,rows[i]?=some r/\r.length=r'.length/\∀(k:Nat) (a a':AV),r[k]?=some a->r'[k]?=some a'->∀y c,a'=.raw y c->a=.raw y c):
  ∀y c r',rows'=[[.raw y c],r']->∃r,rows=[[.raw y c],r]:=by
 rintro y c r' rfl
 match rows,d with
 | [a,b],_ =>
  obtain ⟨r,g,f,e⟩:=h 0 _ rfl;cases g
  match a,f with
  | [x],_=>exact⟨b,by rw[e 0 x _ rfl rfl y _ rfl]⟩
theorem mK.keepG{Z:Nat->Prop}{D:lR}{id N:Nat}{o o':Ob}(h:mK w I ι H id o)(hsz:o'.sz=o.sz)(Q:o'.ty=o.ty)(R:o'.rows.length=o.rows.length)
  (K:∀y S r',o'.rows=[[.raw y S],r']->∃r,o.rows=[[.raw y S],r])
  (l:D N=ι id) (U:∀b cap,ι id=some (b,cap)->b<w.heap.size->w'.heap[b]?=w.heap[b]?/\(¬ I b->¬ Z b))
  (L:∀(i:Nat) (r':List AV),o'.rows[i]?=some r'->∃r,o.rows[i]?=some r/\r.length=r'.length/\∀(k:Nat) (a a':AV),r[k]?=some a->r'[k]?=some a'->∀v,VRel w I ι H v a->VRel w' Z D H' v a'):mK w' Z D H' N o':=by
 rcases h with⟨p1,p2,⟨b,cap,cs,d,g,B,V,e5,Y,O⟩|⟨d,g⟩⟩|⟨p1,b,es,d,g,B,V,e5,O,e7⟩|⟨p1,b,bm,F,seen,P,d,g,B,V,⟨m,n,q,u,C,A,W⟩,O⟩|⟨p1,b,x,d,g,B,V⟩
 ·obtain ⟨G,E⟩:=U b cap d (Array.getElem?_eq_some_iff.1 g).1;refine .inl ⟨by omega,fun r' X=>?_,.inl ⟨b,cap,cs,l.trans d,by simp_all,E B,by simp_all,by omega,Y,fun i r' J k a' hk=>?_⟩⟩
  ·obtain ⟨i,J⟩:=aDA.1 X
   grind
  obtain ⟨r,p,s,f⟩:=L i r' J;have T:k<r.length:=by grind
  obtain ⟨v,u,C,A⟩:=O i r p k _ (aCk T);exact⟨v,by rw[hsz];exact u,C,f k _ a' (aCk T) hk v A⟩
 ·have M:o'.rows=[]:=List.eq_nil_of_length_eq_zero (by rw[R,g];rfl);exact .inl ⟨by omega,by rw[M];simp,.inr ⟨l.trans d,M⟩⟩
 ·obtain ⟨G,E⟩:=U b 0 d (Array.getElem?_eq_some_iff.1 g).1;refine .inr (.inl ⟨by omega,b,es,l.trans d,by rw[Q];exact G.trans g,E B,by omega,by rw[Q];exact e5,O,fun i r' J=>?_⟩);obtain ⟨r,p,s,f⟩:=L i r' J;obtain ⟨e,k,a,n,u,C,A,W,z5⟩:=e7 i r p;subst C
  match r',s with
  | [k',a',z],_=>exact⟨e,k',a',z,u,rfl,f 0 k k' rfl rfl _ A,f 1 a a' rfl rfl _ W,f 2 n z rfl rfl _ z5⟩
 ·obtain ⟨G,E⟩:=U b 1 d (Array.getElem?_eq_some_iff.1 g).1;refine .inr (.inr (.inl ⟨by omega,b,bm,F,seen,P,l.trans d,G.trans g,E B,by omega,?_,fun i r' J=>?_⟩))
  ·have j:0<o'.rows.length:=by omega
   obtain ⟨r,p,s,f⟩:=L 0 _ (aCk j);rw[u]at p;obtain rfl:=Option.some.inj p;have M:=aCk j;generalize o'.rows[0]=r' at s f M
   match r',s with
   | [m',z,q'],_=>exact⟨m',z,q',M,f 0 m m' rfl rfl _ C,f 1 n z rfl rfl _ A,f 2 q q' rfl rfl _ W⟩
  obtain ⟨r,p,s,f⟩:=L (i+1) r' J;obtain ⟨x,n,y1,y2,y3⟩:=O i r p;subst y2
  match r',s with
  | [z],_=>exact⟨x,z,y1,rfl,f 0 n z rfl rfl _ y3⟩
 obtain ⟨G,E⟩:=U b 2 d (Array.getElem?_eq_some_iff.1 g).1;refine .inr (.inr (.inr ⟨by omega,b,x,l.trans d,G.trans g,E B,fun y S r' hy=>?_⟩));obtain ⟨r,hr⟩:=K y S r' hy;obtain ⟨p,s⟩:=V y S r hr;refine⟨p,fun i t a' ht ha=>?_⟩;obtain ⟨r0,u,C,A⟩:=L 1 r' (by rw[hy];rfl);rw[hr]at u;cases u;have j:i<r.length:=by rw[C];exact(aCj.1 ha).1
 obtain ⟨c,c1,c2⟩:=s i t _ ht (aCk j);exact⟨c,c1,A i _ a' (aCk j) ha c c2⟩
theorem mK.keep{w w'}{I f}{ι c}{H H'}{id}{o}(h:mK w I ι H id o)
  (e:c id=ι id) (n:∀b cap,ι id=some (b,cap)->b<w.heap.size->w'.heap[b]?=w.heap[b]?/\(¬ I b->¬ f b))
  (m:∀r∈o.rows,∀a∈r,∀v,VRel w I ι H v a->VRel w' f c H' v a):mK w' f c H' id o :=
 h.keepG rfl rfl rfl (fun _ _ r h=>⟨r,h⟩) e n fun i r l=>⟨r,l,rfl,fun k a a' g j v d=>by
  rw[g]at j;cases j;exact m r (aCp l) a (aCp g) v d⟩
def RN(I:Nat->Prop)(w:World):Prop:=∀p∈ak,I p.1/\∃cs t f,w.heap[p.1]?=some (.cells cs t f)/\p.2.holds cs
theorem RN.mono{w w'}{I a}(hw:∀b,I b->w'.heap[b]?=w.heap[b]?)(hI:∀b,I b->a b)(h:RN I w):RN a w':=fun p c=>by
 obtain ⟨h1,cs,t,f,h2,h3⟩:=h p c
 simp_all
structure Rel(I:Nat->Prop)(ι:lR)(H:aG)(w:World):Prop where
 imm:∀b,I b->b<w.heap.size
 obj:∀id o,H.get id=some o->mK w I ι H id o
 inj:∀id id' o o' b c c',H.get id=some o->H.get id'=some o'->ι id=some (b,c)->ι id'=some (b,c')->id=id'
 glob:RN I w
structure Step(I:Nat->Prop)(ι:lR)(H:aG)(w:World)(I':Nat->Prop)(ι':lR)(H':aG)(w':World):Prop where
 os:w'.os=w.os
 tape:w'.tape=w.tape
 output:w'.output=w.output
 size:w.heap.size<=w'.heap.size
 froz:∀a,a.block<w.heap.size->¬ MW ι H a.block->w'.frozen? a=w.frozen? a
 imm:∀b,I b->I' b
 immNew:∀b,I' b->I b\/MW ι H b\/w.heap.size<=b
 own:∀b,MW ι' H' b->MW ι H b\/w.heap.size<=b
 keep:∀b,b<w.heap.size->¬ MW ι H b->w'.heap[b]?=w.heap[b]?
 objs:∀id o,H.get id=some o->∃o',H'.get id=some o'/\o.g<=o'.g/\(o'.g=o.g->ι' id=ι id/\o'.sz=o.sz/\(0<o.sz->o.rows.length<=o'.rows.length))
theorem Rel.lt{I}{ι}{H}{w}(h:Rel I ι H w){b}(d:MW ι H b):b<w.heap.size :=let ⟨id,o,_,a,c⟩:=d;((h.obj _ o a).block c).1
theorem Rel.notImm{I}{ι}{H}{w}(h:Rel I ι H w){b}(d:MW ι H b):¬ I b :=let ⟨id,o,_,a,c⟩:=d;((h.obj _ o a).block c).2
theorem Step.refl(I)(ι)(H)(w):Step I ι H w I ι H w :=⟨rfl,rfl,rfl,aCl _,fun _ _ _=>rfl,fun _ h=>h,fun _ h=>.inl h,fun _ h=>.inl h,fun _ _ _=>rfl,fun _ o h=>⟨o,h,aCl _,fun _=>⟨rfl,rfl,fun _=>aCl _⟩⟩⟩
theorem Step.trans{p l:Nat->Prop}{g e:lR}{i:aG}{k:World}(h:Step I ι H w p g H' w')(d:Step p g H' w' l e i k):
  Step I ι H w l e i k where
 os:=d.os.trans h.os
 tape:=d.tape.trans h.tape
 output:=d.output.trans h.output
 size:=Nat.le_trans h.size d.size
 froz:=fun a q n=>(d.froz a (Nat.lt_of_lt_of_le q h.size) (fun j=>by
  rcases h.own _ j with c|c;all_goals grind)).trans (h.froz a q n)
 imm:=fun b f=>d.imm b (h.imm b f)
 immNew:=fun b f=>by
  rcases d.immNew b f with c|c|c
  ·exact h.immNew b c
  ·exact .inr (h.own b c)
  exact .inr (.inr (Nat.le_trans h.size c))
 own:=fun b f=>by
  rcases d.own b f with c|c
  ·exact h.own b c
  exact .inr (Nat.le_trans h.size c)
 keep:=fun b f n=>by
  have m:¬ MW g H' b:=fun j=>by
   rcases h.own b j with c|c;all_goals grind
  exact(d.keep b (Nat.lt_of_lt_of_le f h.size) m).trans (h.keep b f n)
 objs:=fun id o j=>by
  obtain ⟨r,s,l1,k1⟩:=h.objs id o j;obtain ⟨o2,e2,l2,k2⟩:=d.objs id r s
  grind
theorem VRel.mono'{E:Nat->Prop}{t:lR}(x:∀b,I b->w'.heap[b]?=w.heap[b]?)(y:∀b,I b->E b)
  (s:∀id o,H.get id=some o->∃o',H'.get id=some o'/\o.g<=o'.g/\(o'.g=o.g->t id=ι id/\o'.sz=o.sz/\(0<o.sz->o.rows.length<=o'.rows.length)))
  {v:Value} {a:AV} (h:VRel w I ι H v a):VRel w' E t H' v a:=by
 induction h with
 |any v=>exact .any v
 |pv h=>exact .pv (h.mono x y)
 |ref o f d c h =>
  obtain ⟨o',e,l,k⟩:=s _ o f;refine .ref o' e (Nat.le_trans d l) c fun g=>?_
  grind
 |pad b D z J h A u G F K L =>
  exact .pad b D z J (h.mono x y) A u G (y b F) (fun i r C k p B=>(cell?_of_heap (x b F)).trans (K i r C k p B)) (fun i r C k p B=>(L i r C k p B).mono x y)
 |osl o f d c h =>
  obtain ⟨o',e,l,k⟩:=s _ o f;refine .osl o' e (Nat.le_trans d l) c fun g=>?_
  grind
 |clo q h n=>exact .clo q fun i v a m j=>n i v a m j
 |bnd q h n=>exact .bnd q fun i v a m j=>n i v a m j
 |agg q M h n=>exact .agg q M fun i v a m j=>n i v a m j
 |tup q h n=>exact .tup q fun i v a m j=>n i v a m j
 |mp o f d c h =>
  obtain ⟨o',e,l,k⟩:=s _ o f;refine .mp o' e (Nat.le_trans d l) c fun g=>?_
  grind
 |it o f d c h =>
  obtain ⟨o',e,l,k⟩:=s _ o f;refine .it o' e (Nat.le_trans d l) c fun g=>?_
  grind
 |yld o f d c h =>
  obtain ⟨o',e,l,k⟩:=s _ o f;refine .yld o' e (Nat.le_trans d l) c fun g=>?_
  grind
 |osc o f d c h =>
  obtain ⟨o',e,l,k⟩:=s _ o f;refine .osc o' e (Nat.le_trans d l) c fun g=>?_
  grind
section inv
variable{v:Value}
theorem VRel.pv_inv{p}(h:VRel w I ι H v (.pv p)):PRep w I v p:=by cases h with|pv h=>exact h
theorem VRel.bool_inv{b}(h:VRel w I ι H v (.pv (.bool b))):v=.bool b:=by cases h with|pv h=>cases h;rfl
theorem VRel.int_inv{k}{n}(h:VRel w I ι H v (.pv (.int k n))):v=.int k n:=by cases h with|pv h=>cases h;rfl
theorem VRel.str_inv{s}(h:VRel w I ι H v (.pv (.str s))):v=.string s:=by cases h with|pv h=>cases h;rfl
theorem VRel.nilp_inv(h:VRel w I ι H v (.pv .nilp)):v=.pointer none:=by cases h with|pv h=>cases h;rfl
theorem VRel.fn_inv{f}(h:VRel w I ι H v (.pv (.fn f))):v=.func (.func f) #[] #[]:=by cases h with|pv h=>cases h;rfl
end inv
theorem Step.imms{I e}{ι a}{H H'}{w w'}(h:Step I ι H w e a H' w')(c:Rel I ι H w):∀b,I b->w'.heap[b]?=w.heap[b]? :=fun b d=>h.keep b (c.imm b d) (fun f=>c.notImm f d)
theorem Step.glob{I c}{ι a}{H H'}{w w'}(h:Step I ι H w c a H' w')(b:Rel I ι H w):RN c w':=b.glob.mono (h.imms b) h.imm
theorem VRel.mono{w w'}{I d}{ι b}{H H'}(e:Rel I ι H w)(c:Step I ι H w d b H' w')
  {v} {a} (h:VRel w I ι H v a):VRel w' d b H' v a:=h.mono' (c.imms e) c.imm c.objs
end Go.Abs
end
section
namespace Go
def Oper.uponW(P:Program)(o:Oper)(a:Act)(next:Act->World->Prop)(Q:Exit->Act->World->Prop):Result Next->Prop
 |.ok (.value v) w'=>next (a.put o.dst v) w'
 |.ok .skip w'=>next (a.put o.dst undef) w'
 |.ok (.defer d) w'=>next ({a with defers:=d::a.defers}.put o.dst undef) w'
 | .ok (.enter f args) w'=>Calls P f args w' fun
   |.returned v,w''=>next (a.put o.dst v) w''
   |.panicked chain,w''=>Q (.panic chain) a w''
   |.outgrown,_=>LetsOut Q
 |.ok (.row row args) w'=>Rows P row args w' fun v w''=>next (a.put o.dst v) w''
 | .ok (.round l f tmps assign body) w'=>RoundIn Fence.wide 0 P l f tmps assign body w' fun
   |.returned v,w''=>next (a.put o.dst v) w''
   |.panicked chain,w''=>Q (.panic chain) a w''
   |.outgrown,_=>LetsOut Q
 |.halt (.panic v) w'=>Q (.panic [{v,recovered:=false}]) a w'
 |_=>False
def Oper.wpW(P:Program)(o:Oper)(a:Act)(w:World)(next:Act->World->Prop)(Q:Exit->Act->World->Prop):Prop :=o.uponW P a next Q ((execOp a.eval o).run P w)
theorem Oper.uponW_enter(P)(o:Oper)(a)(b)(Q)(w)(f)(args):o.uponW P a b Q (.ok (.enter f args) w)=Calls P f args w fun
  |.returned v,c=>b (a.put o.dst v) c
  |.panicked d,c=>Q (.panic d) a c
  |.outgrown,_=>LetsOut Q:=rfl
def RF(ro:Option Nat):Fence:={Fence.wide with round:=ro}
def Oper.noDefer(o:Oper):Bool:=match o.op with|.defer _=>false|_=>true
theorem Oper.wpW_in{P:Program}{o:Oper}{a:Act}{w:World}{b:Act->World->Prop}{Q:Exit->Act->World->Prop}{ro:Option Nat}(j:ro=none\/o.noDefer=true)(h:o.wpW P a w b Q):o.wpIn (RF ro) 0 P a w b Q:=by
 refine⟨fun _ _=>trivial,?_⟩;have e:o.semAt (RF ro).round a.eval=execOp a.eval o:=by
  rcases j with rfl|j
  ·rfl
  exact Oper.semAt_eq _ _ _ (fun c n=>by rw[Oper.noDefer,n]at j;cases j)
 rw[e];unfold Oper.wpW at h;generalize (execOp a.eval o).run P w=r at h |-
 match r,h with
 |.ok (.value v) g,h=>exact h
 |.ok .skip g,h=>exact h
 |.ok (.defer d) g,h=>exact h
 |.ok (.enter f i) g,h=>exact⟨(fun q=>by cases q),(callsIn_wide (n:=0)).2 h⟩
 |.ok (.row row i) g,h=>exact⟨(fun q=>by cases q),fun c k _=>let ⟨v,m,r,s⟩:=h c k;⟨v,m,r,stepsIn_wide.2 s⟩⟩
 |.ok (.round l f tmps assign body) g,h=>exact⟨(fun q=>by cases q),h⟩
 |.halt (.panic v) g,h=>exact h
def yL:Code->Bool
 |.seq a b|.cond _ a b=>yL a&&yL b
 |.block _ c|.loop c|.scope c=>yL c
 |.region _ ops _=>ops.toList.all Oper.noDefer
 |.rangeFunc _ _ _ _=>false
 |_=>true
theorem MH{F}{n}{P}{Q}{a}{w}{c}(I:Nat->Act->World->Prop)(b)(h:I b a w)
  (d:∀i a w,I i a w->c.wpIn F n P (Exit.then (fun a' w'=>∃m,m<i/\I m a' w') Q) a w):(Code.loop c).wpIn F n P Q a w:=by
 refine wpIn_loop (fun a w=>∃n,I n a w) (fun a w=>leastOf (fun n=>I n a w)) ⟨b,h⟩ ?_;intro a w k;refine wpIn_mono (d _ a w (leastOf_spec k).1) ?_;intro e a' w' g;cases e with
 |normal =>
  obtain ⟨i,j,f⟩:=g;exact show (∃n,I n _ _)/\leastOf _<leastOf _ from⟨⟨i,f⟩,Nat.lt_of_le_of_lt ((leastOf_spec ⟨i,f⟩).2 _ f) j⟩
 |exit id=>exact g
 |goto l=>exact g
 |ret=>exact g
 |panic ch=>exact g
 |outgrown=>exact g
end Go
namespace Go.Abs
def kS(w:World)(I:Nat->Prop)(ι:lR)(H:aG)(E:dC)(a:Act):Prop:=∀t v,E.get t=some v->∃c,a.tmps[t]?=some c/\VRel w I ι H c v
structure Entry where
 I:Nat->Prop
 ι:lR
 H:aG
 w:World
 ds:List Deferred
def mark(D:Nat):Deferred:={target:=.collected D,args:=#[]}
def sY(ds0:List Deferred)(w0 w:World)(ds:List Deferred):Prop:=∃Ds:List Nat,ds=Ds.map mark++ds0/\Ds.Nodup/\∀D∈Ds,w0.heap.size<=D/\w.heap[D]?=some (.deferred (some []))
theorem sY.nil(a)(b w):sY a b w a:=⟨[],rfl,List.nodup_nil,fun D h=>by cases h⟩
structure St(G:Entry)(N:Nat)(E:dC)(H:aG)(a:Act)(w:World):Prop where
 defers:sY G.ds G.w w a.defers
 size:a.tmps.size=N
 rel:∃I ι,Rel I ι H w/\Step G.I G.ι G.H G.w I ι H w/\kS w I ι H E a
def gC(P:Program)(G0:aG)(N:Nat)(c:Code)(Q:Exit->dC->aG->Prop)(E:dC)(H:aG):Prop :=∀G:Entry,G.H=G0->∀a w,St G N E H a w->∀ro,(ro=none\/yL c=true)->c.wpIn (RF ro) 0 P (fun e a w=>∃E H,Q e E H/\St G N E H a w) a w
def cQ(G0:aG)(E:dC)(H:aG)(E':dC)(H':aG):Prop:=∀G:Entry,G.H=G0->∀N a w,St G N E H a w->St G N E' H' a w
def aW(P:Program)(f:FuncId)(args:List AV)(H:aG)(Q:AV->aG->Prop):Prop :=∀(I:Nat->Prop) (ι:lR) (w:World) (vs:Array Value),Rel I ι H w->vs.size=args.length->(∀(i:Nat) (v:Value) (a:AV),vs[i]?=some v->args[i]?=some a->VRel w I ι H v a) ->
  Calls P f vs w fun e w'=>∃r H' I' ι' v,e=.returned v/\Q r H'/\VRel w' I' ι' H' v r/\Rel I' ι' H' w'/\Step I ι H w I' ι' H' w'
theorem aW.mono{P}{f}{args}{H}{Q c}(h:aW P f args H Q)(k:∀r H',Q r H'->c r H'):aW P f args H c :=fun I ι w vs j i g=>(h I _ w _ j i g).mono fun _ _ ⟨r,H',d,b,v,e,q,a⟩=>⟨r,H',d,b,v,e,k _ _ q,a⟩
section control
variable{P:Program}{G0:aG}{N:Nat}{Q:Exit->dC->aG->Prop}{E:dC}{H:aG}
theorem gC.mono{c}{b}(h:gC P G0 N c Q E H)(d:∀e E H,Q e E H->b e E H):gC P G0 N c b E H :=fun G g a w i ro f=>wpIn_mono (h G g a w i _ f) fun _ _ _ ⟨E,H,q,s⟩=>⟨E,H,d _ _ _ q,s⟩
theorem gC.ent{c}{E'}{H'}(f:cQ G0 E H E' H')(h:gC P G0 N c Q E' H'):gC P G0 N c Q E H :=fun G b a w d ro e=>h G b a w (f G b N a w d) _ e
theorem aA(h:Q .normal E H):gC P G0 N .skip Q E H:=fun _ _ _ _ a _ _=>wpIn_skip ⟨E,H,h,a⟩
theorem vb{l}(h:Q .normal E H):gC P G0 N (.label l) Q E H:=fun _ _ _ _ a _ _=>wpIn_label ⟨E,H,h,a⟩
theorem aB(h:Q .ret E H):gC P G0 N .ret Q E H:=fun _ _ _ _ a _ _=>wpIn_ret ⟨E,H,h,a⟩
theorem aS{id}(h:Q (.exit id) E H):gC P G0 N (.exit id) Q E H:=fun _ _ _ _ a _ _=>wpIn_exit ⟨E,H,h,a⟩
def xV(K:dC->aG->Prop)(Q:Exit->dC->aG->Prop):Exit->dC->aG->Prop
 |.normal,E,H=>K E H
 |e,E,H=>Q e E H
theorem JB{x y}(h:gC P G0 N x (xV (gC P G0 N y Q) Q) E H):gC P G0 N (.seq x y) Q E H:=by intro G c a w i ro b;have d:=b.imp id fun h=>(aCo _ _▸h).1;have j:=b.imp id fun h=>(aCo _ _▸h).2;refine wpIn_seq (wpIn_mono (h G c a w i _ d) ?_);rintro e a' w' ⟨f,g,q,s⟩;cases e<;>first|exact q G c _ _ s _ j|exact⟨f,g,q,s⟩
theorem jo{x y}(E')(H')(h:gC P G0 N x (xV (fun a H1=>cQ G0 a H1 E' H') Q) E H)(b:gC P G0 N y Q E' H'):gC P G0 N (.seq x y) Q E H :=JB (h.mono fun e a H1 q=>by cases e<;>first|exact q|exact gC.ent q b)
def JI(id:Nat)(Q:Exit->dC->aG->Prop):Exit->dC->aG->Prop
 |.exit id',E,H=>cond (Nat.beq id' id) (Q .normal E H) (Q (.exit id') E H)
 |e,E,H=>Q e E H
theorem aE{id}{c}(h:gC P G0 N c (JI id Q) E H):gC P G0 N (.block id c) Q E H:=by
 intro G f a w j ro i;refine wpIn_block (wpIn_mono (h G f a w j _ i) ?_);rintro e a' w' ⟨g,d,q,s⟩;cases e<;>try exact⟨g,d,q,s⟩
 simp only[JI]at q;simp[Exit.inBlock]
 split
 ·rename_i b;subst b;rw[pQ]at q;grind
 rename_i b;rw[kV b]at q;grind
abbrev KG:PV:=.sat (·=.nilIface)
def cv:Value->Option AV
 |.int k n=>some (.pv (.int k n))
 |.bool b=>some (.pv (.bool b))
 |.string s=>some (.pv (.str s))
 |.pointer none=>some (.pv .nilp)
 |.slice none 0 0=>some (.pv (.sl []))
 |.nilFunc=>some (.pv .nilfn)
 |.map none=>some (.pv .nilm)
 |.nilIface=>some (.pv KG)
 |_=>none
def aO(E:dC):Operand->Option AV
 |.tmp t=>E.get t
 |.const v=>cv v
 |.func f=>some (.pv (.fn f))
 |.global _=>none
theorem QO{w}{I}{ι}{v}{a}(h:cv v=some a):VRel w I ι H v a/\v.oneCell'=true:=by
 unfold cv at h
 split at h<;>cases h
 ·exact⟨.pv (.int _ _),rfl⟩
 ·exact⟨.pv (.bool _),rfl⟩
 ·exact⟨.pv (.str _),rfl⟩
 ·exact⟨.pv .nilp,rfl⟩
 ·exact⟨.pv .nilsl,rfl⟩
 ·exact⟨.pv .nilfn,rfl⟩
 ·exact⟨.pv .nilm,rfl⟩
 exact⟨.pv (.sat rfl rfl),rfl⟩
theorem aI{w}{I}{ι}{a}{x}{v}(e:kS w I ι H E a)(h:aO E x=some v):VRel w I ι H (a.eval x) v:=by
 cases x with
 |tmp t =>
  obtain ⟨c,b,d⟩:=e t v h
  simpa[Act.eval,b]using d
 |const c=>exact(QO h).1
 |func f=>simp[aO,Option.some.injEq]at h;subst h;exact .pv (.fn f)
 |global g=>cases h
theorem Ge{c}{x y}{b}(n:aO E c=some (.pv (.bool b)))(m:b=true->gC P G0 N x Q E H)(o:b=false->gC P G0 N y Q E H):
  gC P G0 N (.cond c x y) Q E H:=by
 intro G g a w f ro d;obtain ⟨I,ι,hr,hst,l⟩:=f.rel;have j:=aI l n;have i:=j.bool_inv;have k:=d.imp id fun h=>(aCo _ _▸h).1;have p:=d.imp id fun h=>(aCo _ _▸h).2;exact wpIn_cond_split i (fun e=>m e G g a w f _ k) (fun e=>o e G g a w f _ p)
theorem bJ{c}{σ:Type}(S:σ->dC×aG)(J:σ->Prop)(f:σ->Nat)(d)(m:J d)(h:cQ G0 E H (S d).1 (S d).2)
  (b:∀s,J s->gC P G0 N c (xV (fun E' H'=>∃s',J s'/\f s'<f s/\cQ G0 E' H' (S s').1 (S s').2) Q) (S s).1 (S s).2):gC P G0 N (.loop c) Q E H:=by
 intro G i a w p ro l;refine MH (I:=fun n a w=>∃s,J s/\f s=n/\St G N (S s).1 (S s).2 a w) _ ⟨d,m,rfl,h G i N a w p⟩ ?_;rintro n a w ⟨s,r,rfl,g⟩;refine wpIn_mono (b s r G i a w g _ l) ?_;rintro e a' w' ⟨E',H',q,s'⟩;cases e<;>try exact⟨E',H',q,s'⟩
 obtain ⟨o,t,k,j⟩:=q;exact⟨f _,k,o,t,rfl,j G i N _ _ s'⟩
def dp(P:Program)(N:Nat)(o:Oper)(E:dC)(H:aG)(R:AV->aG->Prop):Prop :=∀(a:Act) (w:World) (I:Nat->Prop) (ι:lR),True->a.tmps.size=N->Rel I ι H w->kS w I ι H E a->∀(K:Act->World->Prop) (Q:Exit->Act->World->Prop),
  (∀c w' I' ι' r H',R r H'->VRel w' I' ι' H' c r->Rel I' ι' H' w'->Step I ι H w I' ι' H' w'->K (a.put o.dst c) w')->o.wpW P a w K Q
def cK(P:Program)(N:Nat)(o:Oper)(E:dC)(H:aG)(v:AV)(H2:aG):Prop:=dp P N o E H (fun r H'=>r=v/\H'=H2)
def mQ(E:dC):Option Tmp->AV->dC
 |none,_=>E
 |some d,v=>(d,v)::E
def iX(N:Nat):Option Tmp->Bool
 |none=>true
 |some d=>Nat.blt d N
theorem kS.put{w w'}{I g}{ι b}{H'}{a}{c}{r}{d}(k:Rel I ι H w)(l:Step I ι H w g b H' w')
  (m:kS w I ι H E a) (n:VRel w' g b H' c r) (hd:iX a.tmps.size d=true):kS w' g b H' (mQ E d r) (a.put d c):=by
 cases d with
 |none=>exact fun t v h=>let ⟨c,i,f⟩:=m t v h;⟨c,i,f.mono k l⟩
 |some d =>
  intro t v h;simp[mQ]at h;have j:=by simpa[iX]using hd
  by_cases e:d=t
  ·subst e;rw[dC.get_cons_same]at h;cases h;exact⟨c,by simp[Act.put,j],n⟩
  rw[dC.get_cons_other _ _ e]at h;obtain ⟨o,i,f⟩:=m t v h;exact⟨o,by simp[Act.put,Array.getElem?_setIfInBounds_ne e,i],f.mono k l⟩
def AL(P:Program)(G0:aG)(N:Nat)(ops:Array Oper)(K:dC->aG->Prop)(l:List Oper)(E:dC)(H:aG):Prop :=∀G:Entry,G.H=G0->∀a w,St G N E H a w->∀ro,(ro=none\/l.all Oper.noDefer=true)->∀Q:Exit->Act->World->Prop,(∀E H a w,K E H->St G N E H a w->Q .normal a w)->wpListIn (RF ro) 0 P ops Q l a w
theorem js{ops}{K}(h:K E H):AL P G0 N ops K [] E H:=fun _ _ a w b _ _ _ c=>c _ _ a w h b
theorem AG{I}{ι}{H}{w}(e:Rel I ι H w){D}{x}(hD:w.heap[D]?=some (.deferred x)):¬ MW ι H D:=by rintro⟨id,o,cap,d,hi⟩;rcases e.obj _ o d with⟨_,_,⟨b,cap',cs,c,a,_⟩|h1⟩|⟨_,b,es,c,a,_⟩|⟨_,b,bm,since,seen,last,c,a,_⟩|⟨_,b,x,c,a,_⟩;all_goals simp_all
theorem sY.step{g w w'}{I i}{ι b}{H H'}{a d}(n:Rel I ι H w)(m:Step I ι H w i b H' w')(h:sY a g w d):sY a g w' d:=by obtain ⟨k,l,j,f⟩:=h;refine⟨k,l,j,fun D e=>⟨(f D e).1,?_⟩⟩;have c:=(f D e).2;rw[m.keep D (Array.getElem?_eq_some_iff.1 c).1 (AG n c)];exact c
theorem lJ(a:Act)(d)(v):(a.put d v).defers=a.defers:=by cases d<;>rfl
theorem St.op{G}{a}{w}{o}{R}(d:St G N E H a w)(hd:iX N o.dst=true)(h:dp P N o E H R){K}{Q}
  (m:∀r H' a' w',R r H'->St G N (mQ E o.dst r) H' a' w'->K a' w') {ro} (l:ro=none\/o.noDefer=true):o.wpIn (RF ro) 0 P a w K Q:=by
 refine Oper.wpW_in l ?_;obtain ⟨I,ι,i,e,j⟩:=d.rel;refine h a w I _ trivial d.size i j K Q ?_;intro c w' n f r H' p k g b;refine m r _ _ _ p ⟨?_,?_,n,f,g,e.trans b,kS.put i b j k (by rw[d.size];exact hd)⟩
 ·rw[lJ];exact d.defers.step i b
 have:=d.size;cases o.dst<;>simpa[Act.put]using this
theorem mX{ro:Option Nat}{o}{rest}(h:ro=none\/(o::rest).all Oper.noDefer=true):(ro=none\/o.noDefer=true)/\(ro=none\/rest.all Oper.noDefer=true):=by grind
theorem Gq{ops}{K}{o}{rest}{R}(j:o.guard=none)(hd:iX N o.dst=true)(h:dp P N o E H R)
  (f:∀r H',R r H'->AL P G0 N ops K rest (mQ E o.dst r) H'):AL P G0 N ops K (o::rest) E H:=by
 intro G e a w i ro b Q g;refine wpListIn_plain j fun K' k=>?_;exact i.op hd h (fun r H' a' w' d c=>k _ _ (f r _ d G e _ _ c _ (mX b).2 Q g)) (mX b).1
theorem jt{ops}{K}{o}{rest}{d:Tmp}{v}{H2}(a:o.guard=none)(hd:o.dst=some d)(c:Nat.blt d N=true)(h:cK P N o E H v H2)
  (e:AL P G0 N ops K rest ((d,v)::E) H2):AL P G0 N ops K (o::rest) E H :=
 Gq a (by rw[hd];exact c) h fun r H' ⟨b,f⟩=>by subst b f;rw[hd];exact e
theorem aBe{ops}{K}{o}{rest}{v}{H2}(d:o.guard=none)(hd:o.dst=none)(h:cK P N o E H v H2)
  (a:AL P G0 N ops K rest E H2):AL P G0 N ops K (o::rest) E H :=
 Gq d (by rw[hd];rfl) h fun r H' ⟨c,b⟩=>by subst c b;rw[hd];exact a
def jG(ops:List Oper)(j:Nat):Option Tmp:=(ops[j]?).bind (·.dst)
theorem CB{ops}{w}{I}{ι}{a}{j}{t}{b}(g:jG ops.toList j=some t)(e:E.get t=some (.pv (.bool b)))(f:kS w I ι H E a):
  yielded ops a.tmps j=some b:=by
 obtain ⟨c,h,i⟩:=f t _ e;have d:=i.bool_inv;subst d;unfold yielded;have:=by simpa[jG]using g
 rw[this];simp[h]
theorem aA8{ops}{K}{o}{rest}{j}{d}{t}{b}{R}(v:o.guard=some (j,d))(p:jG ops.toList j=some t)
  (n:E.get t=some (.pv (.bool b))) (m:b=d) (hd:iX N o.dst=true) (h:dp P N o E H R) (u:∀r H',R r H'->AL P G0 N ops K rest (mQ E o.dst r) H'):AL P G0 N ops K (o::rest) E H:=by
 intro G s a w i ro f Q k;have q:=CB p n i.rel.choose_spec.choose_spec.2.2;unfold wpListIn;have e:Region.wanted o (yielded ops a.tmps)=true:=by simp[Region.wanted,v,q,m]
 simp[e,if_true];exact i.op hd h (fun r H' a' w' l g=>u r _ l G s _ _ g _ (mX f).2 Q k) (mX f).1
def Z0(want:Bool):AV->Bool
 |.pv (.bool b)=>b == !want
 |.tup []=>true
 |_=>false
theorem aj{ops}{w}{I}{ι}{a}{j}{t}(e:jG ops.toList j=some t)(b:E.get t=some (.tup []))(d:kS w I ι H E a):yielded ops a.tmps j=none:=by
 obtain ⟨c,f,g⟩:=d t _ b;unfold yielded;have:=by simpa[jG]using e
 rw[this];cases g;simp[f]
theorem UD{ops}{o}{w}{I}{ι}{a}{j}{d}{t}{x}(h:o.guard=some (j,d))(i:jG ops.toList j=some t)(k:E.get t=some x)(g:Z0 d x=true)(l:kS w I ι H E a):
  Region.wanted o (yielded ops a.tmps)=false:=by
 unfold Z0 at g
 split at g
 ·next b =>
  have f:=CB i k l;have e:b=!d:=by simp_all
  subst e;cases d<;>simp[Region.wanted,h,f]
 ·have f:=aj i k l;simp[Region.wanted,h,f]
 grind
theorem kS.skip{w}{I}{ι}:VRel w I ι H undef (.tup []):=.tup rfl (fun i v a h=>by grind)
theorem pq{ops}{K}{o}{rest}{j}{b}{t}{x}(r:o.guard=some (j,b))(m:jG ops.toList j=some t)
  (l:E.get t=some x) (k:Z0 b x=true) (hd:iX N o.dst=true) (p:AL P G0 N ops K rest (mQ E o.dst (.tup [])) H):AL P G0 N ops K (o::rest) E H:=by
 intro G n a w d ro f Q i;obtain ⟨I,q,g,e,h⟩:=d.rel;unfold wpListIn;have c:=UD r m l k h;simp[c,Bool.false_eq_true,if_false];refine⟨fun _ _=>trivial,?_⟩;refine p G n _ w ⟨?_,?_,I,q,g,e,kS.put g (Step.refl _ _ _ _) h kS.skip (by rw[d.size];exact hd)⟩ _ (mX f).2 Q i
 ·rw[lJ];exact d.defers
 have:=d.size;cases o.dst<;>simpa[Act.put]using this
theorem Gs{ops}{K}{o}{rest}{j}{a}{t}{b}(f:o.guard=some (j,a))(d:jG ops.toList j=some t)
  (c:E.get t=some (.pv (.bool b))) (g:b=!a) (hd:iX N o.dst=true) (e:AL P G0 N ops K rest (mQ E o.dst (.tup [])) H):AL P G0 N ops K (o::rest) E H :=
 pq f d c (by simp[Z0,g]) hd e
theorem Oq{ops}{K}{o}{rest}{j}{a}{t}(d:o.guard=some (j,a))(e:jG ops.toList j=some t)
  (b:E.get t=some (.tup [])) (hd:iX N o.dst=true) (c:AL P G0 N ops K rest (mQ E o.dst (.tup [])) H):AL P G0 N ops K (o::rest) E H :=
 pq d e b rfl hd c
theorem CM{id}{ops}(h:AL P G0 N ops (fun E H=>Q .normal E H) ops.toList E H):gC P G0 N (.region id ops false) Q E H:=by intro G d a w b ro c;exact wpIn_region_list (h G d a w b _ c _ fun E H a w q s=>⟨E,H,q,s⟩)
end control
end Go.Abs
end
section
namespace Go.Abs
section
variable{P:Program}{N:Nat}{o:Oper}{E:dC}{H:aG}
theorem cK.of_run{v}(h:∀(a) (w) (I) (ι),Rel I ι H w->kS w I ι H E a->∃c,(execOp a.eval o).run P w=.ok (.value c) w/\VRel w I ι H c v):cK P N o E H v H:=by intro a w I ι _ _ d e K Q f;obtain ⟨c,b,g⟩:=h a w I _ d e;unfold Oper.wpW;rw[b];exact f c w I _ v H ⟨rfl,rfl⟩ g d (Step.refl _ _ _ _)
theorem gH{x}{v}(b:o.op=.move x)(c:aO E x=some v):cK P N o E H v H :=.of_run fun a w I ι hr d=>⟨a.eval x,by simp[execOp,b],aI d c⟩
theorem wY{x}{v}(b:o.op=.assign x)(c:aO E x=some v):cK P N o E H v H :=.of_run fun a w I ι hr d=>⟨a.eval x,by simp[execOp,b],aI d c⟩
theorem DN{c x y}{b}{v}(f:o.op=.pick c x y)(h:aO E c=some (.pv (.bool b)))(g:aO E (if b then x else y)=some v):cK P N o E H v H :=.of_run fun a w I ι hr d=>by
  have e:=(aI d h).bool_inv;refine⟨_,by simp[execOp,f,e,asBool];rfl,?_⟩;cases b<;>exact aI d g
theorem Tn{c x y}{v}(a:o.op=.pick c x y)(b:aO E c=some (.pv (.bool true)))(hv:aO E x=some v):cK P N o E H v H :=DN a b (by simp_all)
theorem To{c x y}{v}(a:o.op=.pick c x y)(b:aO E c=some (.pv (.bool false)))(hv:aO E y=some v):cK P N o E H v H :=DN a b (by simp_all)
theorem Lb{t}{x}{b}(c:o.op=.unOp .not t x)(d:aO E x=some (.pv (.bool b))):cK P N o E H (.pv (.bool (!b))) H :=.of_run fun a w I ι hr e=>by
  have f:=(aI e d).bool_inv;exact⟨_,by simp[execOp,c,f,Op.unary],.pv (.bool _)⟩
theorem Lc{t}{x}{k}{n m}(c:o.op=.unOp .neg t x)(d:aO E x=some (.pv (.int k n)))(b:k.wrap (0 - n)=m):cK P N o E H (.pv (.int k m)) H :=.of_run fun a w I ι hr e=>by
  have f:=(aI e d).int_inv;subst b;exact⟨_,by simp[execOp,c,f,Op.unary,Op.intArith],.pv (.int _ _)⟩
section ints
variable{t t':TypeId}{x y:Operand}{k:IntKind}{n m r:Int}
theorem lE{c}{a:Act}{w}(d:o.op=.binOp c t x y t')(e:a.eval x=.int k n):(execOp a.eval o).run P w=((binOp c t (.int k n) (a.eval y)).run P w).andThen fun v w=>.ok (.value v) w:=by simp[execOp,d,e,eqGuard_at_int,Sem.run_bind,Sem.run_pure,Result.andThen_ok]
theorem eA(d:o.op=.binOp .add t x y t')(f:aO E x=some (.pv (.int k n)))(e:aO E y=some (.pv (.int k m)))(g:k.wrap (n+m)=r):cK P N o E H (.pv (.int k r)) H :=.of_run fun a w I ι _ c=>by
  subst g;exact⟨_,by rw[lE d (aI c f).int_inv,(aI c e).int_inv];simp[binOp,Op.intArith],.pv (.int _ _)⟩
theorem dB(d:o.op=.binOp .sub t x y t')(f:aO E x=some (.pv (.int k n)))(e:aO E y=some (.pv (.int k m)))(g:k.wrap (n - m)=r):cK P N o E H (.pv (.int k r)) H :=.of_run fun a w I ι _ c=>by
  subst g;exact⟨_,by rw[lE d (aI c f).int_inv,(aI c e).int_inv];simp[binOp,Op.intArith],.pv (.int _ _)⟩
theorem iY(d:o.op=.binOp .mul t x y t')(f:aO E x=some (.pv (.int k n)))(e:aO E y=some (.pv (.int k m)))(g:k.wrap (n*m)=r):cK P N o E H (.pv (.int k r)) H :=.of_run fun a w I ι _ c=>by
  subst g;exact⟨_,by rw[lE d (aI c f).int_inv,(aI c e).int_inv];simp[binOp,Op.intArith],.pv (.int _ _)⟩
theorem vP(d:o.op=.binOp .quo t x y t')(f:aO E x=some (.pv (.int k n)))(e:aO E y=some (.pv (.int k m)))(h:m≠0)(g:k.wrap (n.tdiv m)=r):cK P N o E H (.pv (.int k r)) H :=.of_run fun a w I ι _ c=>by
  subst g;exact⟨_,by rw[lE d (aI c f).int_inv,(aI c e).int_inv];simp[binOp,Op.intDiv,h],.pv (.int _ _)⟩
theorem tX(d:o.op=.binOp .rem t x y t')(f:aO E x=some (.pv (.int k n)))(e:aO E y=some (.pv (.int k m)))(h:m≠0)(g:n.tmod m=r):cK P N o E H (.pv (.int k r)) H :=.of_run fun a w I ι _ c=>by
  subst g;exact⟨_,by rw[lE d (aI c f).int_inv,(aI c e).int_inv];simp[binOp,Op.intDiv,h],.pv (.int _ _)⟩
theorem nJ{c}(h:o.op=.binOp c t x y t')(d:c=.and\/c=.or\/c=.xor\/c=.andNot)(f:aO E x=some (.pv (.int k n)))(i:aO E y=some (.pv (.int k m)))(g:bits c k n m=r):cK P N o E H (.pv (.int k r)) H :=.of_run fun a w I ι _ e=>by
  subst g;refine⟨.int k _,?_,.pv (.int _ _)⟩;rw[lE h (aI e f).int_inv,(aI e i).int_inv];rcases d with rfl|rfl|rfl|rfl<;>simp[binOp,intBits_and,intBits_or,intBits_xor,intBits_andNot]
theorem ET{e}(f:o.op=.binOp .shr t x y t')(g:aO E x=some (.pv (.int k n)))(h:aO E y=some (.pv (.int e m)))(j:0<=m)(d:m<=k.bits)(i:n / 2 ^ m.toNat=r):cK P N o E H (.pv (.int k r)) H :=.of_run fun a w I ι _ c=>by
  subst i;refine⟨.int k _,?_,.pv (.int _ _)⟩;rw[lE f (aI c g).int_inv,(aI c h).int_inv];simp[binOp_shr,shift_shr k _ n m j d,Sem.run_pure,Result.andThen_ok]
theorem H9{e}(f:o.op=.binOp .shl t x y t')(g:aO E x=some (.pv (.int k n)))(h:aO E y=some (.pv (.int e m)))(j:0<=m)(d:m<=k.bits)(i:k.wrap (n*2 ^ m.toNat)=r):cK P N o E H (.pv (.int k r)) H :=.of_run fun a w I ι _ c=>by
  subst i;refine⟨.int k _,?_,.pv (.int _ _)⟩;rw[lE f (aI c g).int_inv,(aI c h).int_inv];simp[binOp_shl,shift_shl k _ n m j d,Sem.run_pure,Result.andThen_ok]
theorem iZ(d:o.op=.binOp .lss t x y t')(f:aO E x=some (.pv (.int k n)))(e:aO E y=some (.pv (.int k m))):cK P N o E H (.pv (.bool (decide (n<m)))) H :=.of_run fun a w I ι _ c=>⟨_,by rw[lE d (aI c f).int_inv,(aI c e).int_inv];simp[binOp,Op.intCmp],.pv (.bool _)⟩
theorem oS(d:o.op=.binOp .leq t x y t')(f:aO E x=some (.pv (.int k n)))(e:aO E y=some (.pv (.int k m))):cK P N o E H (.pv (.bool (decide (n<=m)))) H :=.of_run fun a w I ι _ c=>⟨_,by rw[lE d (aI c f).int_inv,(aI c e).int_inv];simp[binOp,Op.intCmp],.pv (.bool _)⟩
theorem ID(d:o.op=.binOp .gtr t x y t')(f:aO E x=some (.pv (.int k n)))(e:aO E y=some (.pv (.int k m))):cK P N o E H (.pv (.bool (decide (m<n)))) H :=.of_run fun a w I ι _ c=>⟨_,by rw[lE d (aI c f).int_inv,(aI c e).int_inv];simp[binOp,Op.intCmp],.pv (.bool _)⟩
theorem jF(d:o.op=.binOp .geq t x y t')(f:aO E x=some (.pv (.int k n)))(e:aO E y=some (.pv (.int k m))):cK P N o E H (.pv (.bool (decide (m<=n)))) H :=.of_run fun a w I ι _ c=>⟨_,by rw[lE d (aI c f).int_inv,(aI c e).int_inv];simp[binOp,Op.intCmp],.pv (.bool _)⟩
theorem gS(d:o.op=.binOp .eql t x y t')(f:aO E x=some (.pv (.int k n)))(e:aO E y=some (.pv (.int k m))):cK P N o E H (.pv (.bool (decide (n=m)))) H :=.of_run fun a w I ι _ c=>⟨.bool _,by rw[lE d (aI c f).int_inv,(aI c e).int_inv];simp[binOp,Op.intCmp];all_goals rfl,.pv (.bool _)⟩
theorem vQ(d:o.op=.binOp .neq t x y t')(f:aO E x=some (.pv (.int k n)))(e:aO E y=some (.pv (.int k m))):cK P N o E H (.pv (.bool (!decide (n=m)))) H :=.of_run fun a w I ι _ c=>⟨.bool _,by rw[lE d (aI c f).int_inv,(aI c e).int_inv];simp[binOp,Op.intCmp];all_goals rfl,.pv (.bool _)⟩
end ints
section strings
variable{t t':TypeId}{x y:Operand}{s u r:ByteArray}
theorem AC{c}{a:Act}{w}(d:o.op=.binOp c t x y t')(e:a.eval x=.string s)(f:a.eval y=.string u):(execOp a.eval o).run P w=((Op.stringOp c s u).run P w).andThen fun v w=>.ok (.value v) w:=by simp only[execOp,d,e,f,eqGuard_at_string,Sem.run_bind,Sem.run_pure,Result.andThen_ok];cases c<;>simp[binOp]
theorem AP(s u:ByteArray):(s.toList == u.toList)=decide (s=u):=by
 rw[<-beq_toListBytes];by_cases h:s=u
 ·subst h;have:(s == s)=true:=by rw[beq_toListBytes];simp
  simp[this]
 have:(s == u)=false:=by
  rw[beq_toListBytes,ByteArray.toList_eq,ByteArray.toList_eq];cases e:(s.data.toList == u.data.toList)with
  |false=>rfl
  |true =>
   exact absurd (by cases s;simp_all) h
 simp[this,h]
theorem AI(d:o.op=.binOp .eql t x y t')(e:aO E x=some (.pv (.str s)))(f:aO E y=some (.pv (.str u))):cK P N o E H (.pv (.bool (decide (s=u)))) H :=.of_run fun a w I ι _ c=>⟨_,by rw[AC d (aI c e).str_inv (aI c f).str_inv];simp[Op.stringOp,AP,Sem.run_pure,Result.andThen_ok],.pv (.bool _)⟩
theorem Bg(d:o.op=.binOp .neq t x y t')(e:aO E x=some (.pv (.str s)))(f:aO E y=some (.pv (.str u))):cK P N o E H (.pv (.bool (!decide (s=u)))) H :=.of_run fun a w I ι _ c=>⟨_,by rw[AC d (aI c e).str_inv (aI c f).str_inv];simp[Op.stringOp,AP,Sem.run_pure,Result.andThen_ok],.pv (.bool _)⟩
def xW(s u:ByteArray):Bool:=Op.bytesLess s.toList u.toList
theorem Bh(d:o.op=.binOp .lss t x y t')(e:aO E x=some (.pv (.str s)))(f:aO E y=some (.pv (.str u))):cK P N o E H (.pv (.bool (xW s u))) H :=.of_run fun a w I ι _ c=>⟨_,by rw[AC d (aI c e).str_inv (aI c f).str_inv];rfl,.pv (.bool _)⟩
theorem Bi(d:o.op=.binOp .leq t x y t')(e:aO E x=some (.pv (.str s)))(f:aO E y=some (.pv (.str u))):cK P N o E H (.pv (.bool (xW s u||decide (s=u)))) H :=.of_run fun a w I ι _ c=>⟨_,by rw[AC d (aI c e).str_inv (aI c f).str_inv];simp[Op.stringOp,AP,Sem.run_pure,Result.andThen_ok];rfl,.pv (.bool _)⟩
theorem ZR(d:o.op=.binOp .geq t x y t')(e:aO E x=some (.pv (.str s)))(f:aO E y=some (.pv (.str u))):cK P N o E H (.pv (.bool (!(xW s u)))) H :=.of_run fun a w I ι _ c=>⟨_,by rw[AC d (aI c e).str_inv (aI c f).str_inv];rfl,.pv (.bool _)⟩
theorem fM(d:o.op=.binOp .add t x y t')(e:aO E x=some (.pv (.str s)))(g:aO E y=some (.pv (.str u)))(hs:s.size+u.size<=9223372036854775807)(f:s++u=r):cK P N o E H (.pv (.str r)) H :=.of_run fun a w I ι _ c=>⟨.string r,by
  subst f;rw[AC d (aI c e).str_inv (aI c g).str_inv];have:¬ (((s.size+u.size:Nat)) > IntKind.i64.max):=by simp[IntKind.max_i64];omega
  simp only[Op.stringOp,this,if_false,Sem.run_pure,Result.andThen_ok],.pv (.str _)⟩
end strings
section eqs
variable{t e:TypeId}{w:World}
theorem VY{b c}(a:P.underlying t=some .bool):(binOp .eql t (.bool b) (.bool c)).run P w=.ok (.bool (b == c)) w:=by have h:=run_equalIn_bool w 9999 t b c a;simp[binOp];simp[Op.equal,Op.maxDepth,Sem.run_bind,h,Result.andThen_ok,Sem.run_pure]
theorem VX{b c}(a:P.underlying t=some .bool):(binOp .neq t (.bool b) (.bool c)).run P w=.ok (.bool (!(b == c))) w:=by have h:=run_equalIn_bool w 9999 t b c a;simp[binOp];simp[Op.equal,Op.maxDepth,Sem.run_bind,h,Result.andThen_ok,Sem.run_pure]
theorem DI(d){p}(a:P.underlying t=some (.pointer e)):(Op.equalIn (d+1) t (.pointer p) (.pointer none)).run P w=.ok p.isNone w:=by cases p<;>simp[Op.equalIn,run_underlying a]
theorem OV{p}(b:P.underlying t=some (.pointer e)):(binOp .eql t (.pointer p) (.pointer none)).run P w=.ok (.bool p.isNone) w:=by have h:(Op.equalIn _ t _ _).run P w=.ok p.isNone w:=DI 9999 b;simp[binOp];simp[Op.equal,Op.maxDepth,Sem.run_bind,h,Result.andThen_ok,Sem.run_pure]
theorem OU{p}(b:P.underlying t=some (.pointer e)):(binOp .neq t (.pointer p) (.pointer none)).run P w=.ok (.bool (!p.isNone)) w:=by have h:(Op.equalIn _ t _ _).run P w=.ok p.isNone w:=DI 9999 b;simp[binOp];simp[Op.equal,Op.maxDepth,Sem.run_bind,h,Result.andThen_ok,Sem.run_pure]
end eqs
section bools
variable{t t':TypeId}{x y:Operand}{b c:Bool}
theorem IF(h:o.op=.binOp .eql t x y t')(g:P.underlying t=some .bool)(i:aO E x=some (.pv (.bool b)))(j:aO E y=some (.pv (.bool c))):cK P N o E H (.pv (.bool (b == c))) H :=.of_run fun a w I ι _ e=>⟨.bool _,by
  have f:=(aI e i).bool_inv;have k:=(aI e j).bool_inv;simp[execOp,h,f,k,eqGuard_at_bool,Sem.run_bind,Sem.run_pure,Result.andThen_ok,VY g,VX _],.pv (.bool _)⟩
end bools
section ptrs
variable{t t' e:TypeId}{x y:Operand}{id g i k:Nat}{ob:Ob}
theorem oP{w}{I}{ι}{v}(h:VRel w I ι H v (.ref id g i k))(ho:H.get id=some ob)(hg:ob.g=g):∃b cap,ι id=some (b,cap)/\v=.pointer (some ⟨b,i*ob.sz+k,none⟩):=by
 cases h with
 |ref o' h1 h2 _ h3 =>
  simp_all
theorem OY{w}{I}{ι}{v}{id g i k}{ob}(h:VRel w I ι H v (.ref id g i k))(ho:H.get id=some ob)(hg:ob.g=g):0<ob.sz:=by
 cases h with
 |ref o' h1 h2 _ h3 =>
  simp_all
theorem LO(j:o.op=.binOp .eql t x y t')(h:P.underlying t=some (.pointer e))(l:aO E x=some (.ref id g i k))(f:H.get id=some ob)(d:ob.g=g)(m:aO E y=some (.pv .nilp)):cK P N o E H (.pv (.bool false)) H :=.of_run fun a w I ι _ c=>⟨.bool _,by
  obtain ⟨b,cap,_,p⟩:=oP (aI c l) f d;have n:=(aI c m).nilp_inv;simp only[execOp,j,p,n,eqGuard_at_pointer,Sem.run_bind,Sem.run_pure,Result.andThen_ok,OV h,OU _];rfl,.pv (.bool _)⟩
theorem LP(f:o.op=.binOp .eql t x y t')(m:P.underlying t=some (.pointer e))(h:aO E x=some (.pv .nilp))(j:aO E y=some (.pv .nilp)):cK P N o E H (.pv (.bool true)) H :=.of_run fun a w I ι _ c=>⟨.bool _,by
  have d:=(aI c h).nilp_inv;have l:=(aI c j).nilp_inv;simp only[execOp,f,d,l,eqGuard_at_pointer,Sem.run_bind,Sem.run_pure,Result.andThen_ok,OV m,OU _];rfl,.pv (.bool _)⟩
theorem fY(j:o.op=.nilCheck x)(l:aO E x=some (.ref id g i k))(f:H.get id=some ob)(d:ob.g=g):cK P N o E H (.ref id g i k) H :=.of_run fun a w I ι _ m=>by
  have c:=aI m l;obtain ⟨b,cap,_,h⟩:=oP c f d;exact⟨_,by simp[execOp,j,h],c⟩
end ptrs
theorem uG{x}{d}{n}{v}(g:o.op=.extract x n)(j:aO E x=some (.tup d))(m:d[n]?=some v):cK P N o E H v H :=.of_run fun a w I ι _ k=>by
  have h:=aI k j;generalize f:a.eval x=c at h;cases h with
  | @tup e _ hl i =>
   have l:n<e.size:=by grind
   have b:=Array.getElem?_eq_getElem l;exact⟨e[n],by simp[execOp,g,f];simp[Instr.extract,b],i n _ v b m⟩
section calls
variable{x y:Operand}{T T2 e:TypeId}
theorem LQ{s}(f:o.op=.call {callee:=.builtin .len,args:=#[x],argTypes:=#[T]})(d:P.underlying T=some .string)(g:aO E x=some (.pv (.str s))):cK P N o E H (.pv (.int .i64 s.size)) H :=.of_run fun a w I ι _ b=>⟨.int _ _,by
  have c:=(aI b g).str_inv;simp[execOp,f,resolve,invoke,builtin,c,Builtin.len_,run_underlying d,goInt],.pv (.int _ _)⟩
theorem yd{w}{I}{ι}{v}{rows}(h:VRel w I ι H v (.pv (.sl rows))):∃b cap,v=.slice b rows.length cap:=by
 cases h with|pv h =>
 cases h with
 |nilsl=>simp_all
 |empsl a=>simp_all
 |sl b off cap sz _ cs h1 h2 h3 h4 h5 h6=>simp_all
theorem mY{rows}(g:o.op=.call {callee:=.builtin .len,args:=#[x],argTypes:=#[T]})(f:P.underlying T=some (.slice e))(h:aO E x=some (.pv (.sl rows))):cK P N o E H (.pv (.int .i64 rows.length)) H :=.of_run fun a w I ι _ c=>⟨.int _ _,by
  obtain ⟨b,cap,d⟩:=yd (aI c h);simp[execOp,g,resolve,invoke,builtin,d,Builtin.len_,run_underlying f,goInt],.pv (.int _ _)⟩
theorem kB{w}{I}{ι}{v}{id g off len}{ob}(h:VRel w I ι H v (.osl id g off len))(hH:H.get id=some ob)(hg:ob.g=g):
  off+len<=ob.rows.length/\((∃b cap a,ι id=some (b,cap)/\v=.slice (some ⟨b,a,none⟩) len (cap - off)/\(off<cap\/off=0->a=off*ob.sz))\/(ι id=none/\v=.slice none 0 0/\off=0/\len=0)):=by
 cases h with
 |osl o' h1 h2 _ h3 =>
  simp_all
theorem pA{w}{I}{ι}{v}{id g off len}{ob}(h:VRel w I ι H v (.osl id g off len))(hH:H.get id=some ob)(hg:ob.g=g):0<ob.sz:=by
 cases h with
 |osl o' h1 h2 _ h3 =>
  simp_all
theorem dU{id g off len}{ob}(d:o.op=.call {callee:=.builtin .len,args:=#[x],argTypes:=#[T]})(f:P.underlying T=some (.slice e))(j:aO E x=some (.osl id g off len))(h:H.get id=some ob)(i:ob.g=g):cK P N o E H (.pv (.int .i64 len)) H :=.of_run fun a w I ι _ l=>⟨.int _ _,by
  obtain ⟨_,⟨b,cap,oo,_,c,_⟩|⟨_,c,_,k⟩⟩:=kB (aI l j) h i
  ·simp[execOp,d,resolve,invoke,builtin,c,Builtin.len_,run_underlying f,goInt]
  simp[execOp,d,resolve,invoke,builtin,c,k,Builtin.len_,run_underlying f,goInt],.pv (.int _ _)⟩
theorem BZ{k}{n m r}(f:o.op=.call {callee:=.builtin .min,args:=#[x,y],argTypes:=#[T,T2]})(g:aO E x=some (.pv (.int k n)))(h:aO E y=some (.pv (.int k m)))(i:min n m=r):cK P N o E H (.pv (.int k r)) H :=.of_run fun a w I ι _ c=>⟨.int k r,by
  have d:=(aI c g).int_inv;have j:=(aI c h).int_inv;have l:(if m<n then m else n)=min n m:=by omega
  simp[execOp,f,resolve,invoke,builtin,d,j,Builtin.min_,Builtin.min2,l,i],.pv (.int _ _)⟩
theorem Ld{k}{n m r}(g:o.op=.call {callee:=.builtin .max,args:=#[x,y],argTypes:=#[T,T2]})(h:aO E x=some (.pv (.int k n)))(i:aO E y=some (.pv (.int k m)))(j:max n m=r):cK P N o E H (.pv (.int k r)) H :=.of_run fun a w I ι _ c=>⟨.int k r,by
  have p:=(aI c h).int_inv;have l:=(aI c i).int_inv;have d:(if n<m then m else n)=max n m:=by omega
  have f:=d;simp[execOp,g,resolve,invoke,builtin,p,l,Builtin.max_,Builtin.max2,d,f,j],.pv (.int _ _)⟩
end calls
theorem fA{S T}{x}{k b}{n r}{d}(f:o.op=.convert S T x)(hS:P.underlying S=some d)(g:P.underlying T=some (.int b))(h:aO E x=some (.pv (.int k n)))(i:b.wrap n=r):cK P N o E H (.pv (.int b r)) H :=.of_run fun a w I ι _ c=>⟨.int _ r,by
  have e:=(aI c h).int_inv;subst i;simp[execOp,f,e,convert,run_underlying hS,run_underlying g,Conv.intToInt],.pv (.int _ _)⟩
theorem hU{f:FuncId}{c:Array Operand}{d:List AV}(p:o.op=.makeFunc (.func f) #[] c)(e:c.toList.mapM (aO E)=some d):cK P N o E H (.clo f d) H :=.of_run fun a w I r _ t=>by
  refine⟨.func (.func f) #[] (c.map a.eval),by simp[execOp,p,Instr.makeFunc],?_⟩;have j:∀(l:List Operand) (d:List AV),l.mapM (aO E)=some d->l.length=d.length/\∀(i:Nat) (v:Value) (b:AV),(l.map a.eval)[i]?=some v->d[i]?=some b->VRel w I r H v b:=by
   intro l
   induction l with
   |nil=>simp_all
   |cons x l q =>
    intro d h;simp only[List.mapM_cons,Option.pure_def,Option.bind_eq_bind,Option.bind_eq_some_iff,Option.some.injEq]at h;obtain ⟨v0,s,k,m,rfl⟩:=h;obtain ⟨l1,n⟩:=q k m;refine⟨by grind,?_⟩;intro i v b e g;cases i with
    |zero=>simp at e g;subst e g;exact aI t s
    |succ i=>simp at e g;exact n i v b (by simp_all) g
  obtain ⟨m,u⟩:=j c.toList d e;exact .clo (by simpa using m) (fun i v b e g=>u i v b (by simpa using e) g)
end
end Go.Abs
end
namespace Go.Abs
variable{P:Program}{n off sz id g len cap l h i:Nat}{S e:TypeId}{ob:Ob}{w:World}{I:Nat->Prop}{rows:List (List PV)}{hi:Option Operand}{r v r' s:AV}{ι:lR}{H:aG}{c:Value}{cells args:List AV}{a:Act}{E:dC}{G:Entry}{f:FuncId}
section
def JG(w:World)(I:Nat->Prop)(ι:lR)(H:aG)(v:Value)(xs:List AV):Prop :=∃b o,v=.pointer (some ⟨b,o,none⟩)/\∀(j:Nat) (a:AV),xs[j]?=some a->∃c,w.cell? ⟨b,o+j,none⟩=some c/\c.oneCell'=true/\VRel w I ι H c a
section
variable{v:Value}
theorem EQ{id g i k}{ob}{r}(p:Rel I ι H w)(h:VRel w I ι H v (.ref id g i k))(e:H.get id=some ob)(l:ob.g=g)(hi:ob.rows[i]?=some r):
  JG w I ι H v (r.drop k):=by
 obtain ⟨b,cap,m,u⟩:=oP h e l;obtain ⟨_,_,⟨b',cap',cs,d,q,e3,e4,e5,e6,t⟩|⟨d,_⟩⟩:=(p.obj _ _ e).cells (OY h e l)
 ·rw[m]at d;cases d;refine⟨b,i*ob.sz+k,u,fun j a f=>?_⟩;rw[List.getElem?_drop]at f;obtain ⟨c,o,n,s⟩:=t i r hi _ a f;refine⟨c,?_,n,s⟩;rw[cell_of_row w b _ _ _ _ q,Nat.add_assoc];exact o
 rw[m]at d;cases d
theorem TL{rows}{i k}{r}(h:VRel w I ι H v (.pad rows i k))(hi:rows[i]?=some r):JG w I ι H v ((r.drop k).map .pv):=by
 cases h with
 | pad b c cap l _ hsz hlen cs hb hc g =>
  refine⟨b,c+i*l+k,rfl,fun j a d=>?_⟩;rw[aCz,List.getElem?_drop]at d;cases e:r[k+j]? with
  |none=>simp_all
  |some p =>
   rw[e]at d;cases d;have f:=g i r hi _ p e;exact⟨_,by grind,f.oneCell,.pv f⟩
theorem Cf{P}{T}{xs}{a}(k:JG w I ι H v xs)(j:∀w,(isAgg T).run P w=.ok false w)(h:xs[0]?=some a):
  ∃c,(Instr.loadAt T v).run P w=.ok c w/\VRel w I ι H c a:=by
 obtain ⟨b,o,rfl,i⟩:=k;obtain ⟨c,f,_,g⟩:=i 0 a h;refine⟨c,?_,g⟩;simp[Nat.add_zero]at f;simp[Instr.loadAt,Instr.sureAddr,loadVar,j,f]
theorem Ce{T:TypeId}{xs cs:List AV}(E:JG w I ι H v xs)(p:∀w,(isAgg T).run P w=.ok true w)(y:∀w,(sizeOf T).run P w=.ok n w)(hcs:xs.take n=cs)(z:cs.length=n):
  ∃c,(Instr.loadAt T v).run P w=.ok c w/\VRel w I ι H c (.agg cs):=by
 obtain ⟨b,o,rfl,B⟩:=E;have t:∀j,j<n->∃c,w.cell? ⟨b,o+j,none⟩=some c/\c.oneCell'=true/\∀a,cs[j]?=some a->VRel w I ι H c a:=by
  intro j r;have m:j<cs.length:=by omega
  have e:xs[j]?=some cs[j]:=by
   have x:cs[j]?=some cs[j]:=aCk m;have q:(xs.take n)[j]?=some cs[j]:=by simp_all
   rw[List.getElem?_take,aCe r]at q;exact q
  obtain ⟨c,x,q,A⟩:=B j _ e;refine⟨c,x,q,fun a p=>?_⟩;rw[aCk m]at p;cases p;exact A
 let f:Nat->Value:=fun j=>if h:j<n then(t j h).choose else undef
 have C:∀j (h:j<n),w.cell? ⟨b,o+j,none⟩=some (f j)/\(f j).oneCell'=true/\∀a,cs[j]?=some a->VRel w I ι H (f j) a:=by
  grind
 let l:List Value:=(List.range n).map f
 have k:l.length=n:=by simp[l]
 have s:∀j u,l[j]?=some u->j<n/\u=f j:=by
  grind
 have g:(loadCells ⟨b,o,none⟩ n).run P w=.ok l.toArray w:=by
  have:=run_loadCells_list (P:=P) w ⟨b,o,none⟩ l (fun j u D=>by
   obtain ⟨r,rfl⟩:=s j u D;rw[Addr.add_lit];exact(C j r).1)
  rwa [k]at this
 refine⟨.agg l.toArray,by simp[Instr.loadAt,Instr.sureAddr,loadVar,p,y,g],.agg (by simp[k,z]) ?_ ?_⟩;all_goals grind
end
section
variable{N:Nat}{o:Oper}{T:TypeId}{x y:Operand}
theorem rV{xs:List AV}{v}(e:o.op=.load T x)
  (b:∀(a) (w) (I) (ι),Rel I ι H w->kS w I ι H E a->∃c,(Instr.loadAt T (a.eval x)).run P w=.ok c w/\VRel w I ι H c v):cK P N o E H v H :=
 .of_run fun a w I ι f g=>by
  obtain ⟨c,d,h⟩:=b a w I _ f g;exact⟨c,by simp[execOp,e,d],h⟩
theorem bA{id g i k}{ob}{r}{v}(d:o.op=.load T x)(b:∀w,(isAgg T).run P w=.ok false w)(e:aO E x=some (.ref id g i k))(c:H.get id=some ob)(j:ob.g=g)
  (hi:ob.rows[i]?=some r) (hk:r[k]?=some v):cK P N o E H v H :=
 rV (xs:=r.drop k) d fun a w I ι f h=>Cf (EQ f (aI h e) c j hi) b (by simp_all)
theorem pI{rows}{i k}{r}{p}(c:o.op=.load T x)(b:∀w,(isAgg T).run P w=.ok false w)(d:aO E x=some (.pad rows i k))(hi:rows[i]?=some r)(hk:r[k]?=some p):cK P N o E H (.pv p) H :=rV (xs:=(r.drop k).map .pv) c fun a w I ι hr e=>Cf (TL (aI e d) hi) b (by grind)
theorem aM{n id g i k}{ob}{r cs}(h:o.op=.load T x)(c:∀w,(isAgg T).run P w=.ok true w)(p:∀w,(sizeOf T).run P w=.ok n w)(j:aO E x=some (.ref id g i k))(d:H.get id=some ob)(q:ob.g=g)
  (hi:ob.rows[i]?=some r) (e:(r.drop k).take n=cs) (f:cs.length=n):cK P N o E H (.agg cs) H :=
 rV (xs:=r.drop k) h fun a w I ι l m=>Ce (EQ l (aI m j) d q hi) c p e f
theorem dM{n}{rows}{i k}{r}{cs}(f:o.op=.load T x)(d:∀w,(isAgg T).run P w=.ok true w)(l:∀w,(sizeOf T).run P w=.ok n w)(g:aO E x=some (.pad rows i k))(hi:rows[i]?=some r)
  (j:((r.drop k).map AV.pv).take n=cs) (e:cs.length=n):cK P N o E H (.agg cs) H :=
 rV (xs:=(r.drop k).map .pv) f fun a w I ι hr h=>Ce (TL (aI h g) hi) d l j e
def cS(P:Program)(S f off:Nat):Prop:=∃fs fd n,P.underlying S=some (.struct fs)/\fs[f]?=some fd/\fd.offset=off/\∀w,(sizeOf fd.type).run P w=.ok (n+1) w
theorem nM{off:TypeId}{id g i k k2 f}{ob}(m:o.op=.fieldAddr S x f)(s:cS P S f off)
  (u:aO E x=some (.ref id g i k)) (e:H.get id=some ob) (l:ob.g=g) (hk:k+off=k2):cK P N o E H (.ref id g i k2) H :=
 .of_run fun a w I ι hr v=>by
  obtain ⟨fs,fd,n,r,z,hoff,p⟩:=s;have h:=aI v u;generalize q:a.eval x=c at h;obtain ⟨b,j,t,rfl⟩:=oP h e l;refine⟨.pointer _,?_,.ref _ e (by omega) rfl fun _=>⟨OY h e l,b,j,t,rfl⟩⟩;simp[execOp,m,q];simp[Instr.fieldAt,run_underlying r,z,Instr.sureAddr,fieldPlace,p,Addr.add_lit,Nat.add_assoc]
theorem R2{off:TypeId}{rows}{i k k2 f}(p:o.op=.fieldAddr S x f)(u:cS P S f off)
  (t:aO E x=some (.pad rows i k)) (hk:k+off=k2):cK P N o E H (.pad rows i k2) H :=
 .of_run fun a w I ι hr v=>by
  obtain ⟨fs,fd,n,s,z,hoff,m⟩:=u;have h:=aI v t;generalize q:a.eval x=c at h;cases h with
  |pad b off cap sz A g e cs r j l =>
   refine⟨.pointer _,?_,.pad b _ _ _ A g e _ r j l⟩;simp[execOp,p,q];simp[Instr.fieldAt,run_underlying s,z,Instr.sureAddr,fieldPlace,m,Addr.add_lit,Nat.add_assoc]
theorem RZ{e}{rows}{r}{O}{n}{m sz}(K:o.op=.indexAddr T x y)(F:P.underlying T=some (.slice e))(M:∀w,(sizeOf e).run P w=.ok sz w)
  (G:aO E x=some (.pv (.sl rows))) (C:aO E y=some (.pv (.int O n))) (J:0<=n) (A:n.toNat=m) (hi:rows[m]?=some r) (hl:r.length=sz):cK P N o E H (.pad rows m 0) H :=
 .of_run fun a w I ι hr u=>by
  have h:=aI u G;have B:=(aI u C).int_inv;have l:=(aCj.1 hi).1;have hmem:=aCp hi;generalize z:a.eval x=c at h;have L:=h.pv_inv;cases L with
  |nilsl=>simp at l
  |empsl a=>simp at l
  |sl b s q f _ v t g d i j k =>
   have p:f=sz:=by simp_all
   subst p;refine⟨.pointer _,?_,.pad b s q f (.sl b s q f _ v t g d i j k) g d v t j k⟩;simp[execOp,K,z,B];have D:n<(rows.length):=by omega
   simp[Instr.indexAt,run_underlying F,asIntOf,J,D,M,A,Addr.add_lit]
theorem R0{e}{r}{n:Int}{m m2:Nat}(v:o.op=.indexAddr T x y)(C:P.underlying T=some (.slice e))(s:∀w,(sizeOf e).run P w=.ok sz w)
  (F:aO E x=some (.osl id g off len)) (d:H.get id=some ob) (l:ob.g=g) (i:ob.sz=sz) (G:aO E y=some (.pv (.int r n))) (K:0<=n) (u:n.toNat=m) (hi:m<len) (j:off+m=m2):cK P N o E H (.ref id g m2 0) H :=
 .of_run fun a w I ι J p=>by
  have h:=aI p F;have z:=(aI p G).int_inv;obtain ⟨h1,⟨b,f,oo,q,D,A⟩|⟨_,_,_,q⟩⟩:=kB h d l
  ·have c:off<f:=by
    obtain ⟨_,_,⟨b',cap',cs,B,e2,e3,e4,e5,e6,e7⟩|⟨B,_⟩⟩:=(J.obj id ob d).cells (pA h d l);all_goals grind
   have k:=A (.inl c);subst k i j;refine⟨.pointer _,?_,.ref ob d (by omega) rfl fun _=>⟨pA h d l,b,f,q,rfl⟩⟩;simp only[execOp,v,D,z];have t:n<len:=by omega
   simp[Instr.indexAt,run_underlying C,asIntOf,K,t,s,u,Addr.add_lit,Nat.add_mul]
  omega
theorem eH{e}{q}{n}{m sz d id g i k k2}{ob}(r:o.op=.indexAddr T x y)(A:P.underlying T=some (.array d e))(F:∀w,(sizeOf e).run P w=.ok sz w)
  (u:aO E x=some (.ref id g i k)) (j:H.get id=some ob) (p:ob.g=g) (C:aO E y=some (.pv (.int q n))) (D:0<=n) (t:n.toNat=m) (hi:m<d) (hk:k+m*sz=k2):cK P N o E H (.ref id g i k2) H :=
 .of_run fun a w I ι hr l=>by
  have h:=aI l u;have v:=(aI l C).int_inv;obtain ⟨b,f,z,B⟩:=oP h j p;refine⟨.pointer _,?_,.ref _ j (by omega) rfl fun _=>⟨OY h j p,b,f,z,rfl⟩⟩;simp[execOp,r,B,v];have s:n<d:=by omega
  simp[Instr.indexAt,run_underlying A,Instr.sureAddr,asIntOf,D,s,F,t,Addr.add_lit,Nat.add_assoc]
def bH(s:ByteArray)(m:Nat):Int:=((s.data.toList[m]?).getD 0).toNat
theorem cR{q}{n}{m}{s}{r}(e:o.op=.index T x y)(f:P.underlying T=some .string)(g:aO E x=some (.pv (.str s)))(h:aO E y=some (.pv (.int q n)))(k:0<=n)(d:n.toNat=m)(hi:m<s.size)(i:bH s m=r):
  cK P N o E H (.pv (.int .u8 r)) H :=
 .of_run fun a w I ι _ c=>⟨.int _ r,by
  have l:=(aI c g).str_inv;have j:=(aI c h).int_inv;have p:s[m]?=some (s.data.toList[m]'(by simp_all)):=by
   rw[getElem?_pos s m _];rfl
  have b:bH s m=((s.data.toList[m]'(by simp_all)).toNat):=by
   unfold bH
   simp_all
  rw[<-i,b];simp[execOp,e,l,j];simp[Instr.index,run_underlying f,asIntOf,k,d,p],.pv (.int _ _)⟩
def bnd(E:dC):Option Operand->Nat->Option Int
 |none,d=>some (d:Int)
 |some x,_=>match aO E x with
  |some (.pv (.int _ n))=>some n
  |_=>none
theorem XK{w}{I}{ι}{a}{x}{d}{n}(b:kS w I ι H E a)(h:bnd E (some x) d=some n):∃k,a.eval x=.int k n:=by
 simp[bnd]at h
 split at h
 ·rename_i k n' e;cases h;exact⟨k,(aI b e).int_inv⟩
 grind
theorem mW{w}{I}{ι}{a}{p hi}{b}(q:kS w I ι H E a)(g:bnd E p 0=some (l:Int))(f:bnd E hi len=some (h:Int))(r:l<=h)(t:h<=cap):
  (Instr.sliceBounds b len cap (p.map a.eval) (hi.map a.eval) none).run P w=.ok (l,h,cap) w:=by
 have i:∀(k) (n y) (c),n<=y->(Instr.sliceBound _ y c).run P w=.ok n w:=fun k n y c hn=>by
  have:=run_sliceBound (P:=P) w k n y c (by omega) (by omega)
  simpa using this
 cases p with
 | none =>
  have v:l=0:=by simp[bnd]at g;omega
  subst v;cases hi with
  |none =>
   have j:h=len:=by simp[bnd]at f;omega
   subst j;simp[Instr.sliceBounds]
  |some y =>
   obtain ⟨k,e⟩:=XK q f;simp[Instr.sliceBounds,e,i _ _ _ _ t]
 | some x =>
  obtain ⟨k1,s⟩:=XK q g;cases hi with
  |none =>
   have j:h=len:=by simp[bnd]at f;omega
   subst j;simp[Instr.sliceBounds,s,i _ _ _ _ r]
  |some y =>
   obtain ⟨k2,u⟩:=XK q f;simp[Instr.sliceBounds,s,u,i _ _ _ _ r,i _ _ _ _ t]
theorem cB{f hi}{s r}(n:o.op=.slice T x f hi none)(d:P.underlying T=some .string)(j:aO E x=some (.pv (.str s)))
  (b:bnd E f 0=some (l:Int)) (c:bnd E hi s.size=some (h:Int)) (g:l<=h) (p:h<=s.size) (m:s.extract l h=r):cK P N o E H (.pv (.str r)) H :=
 .of_run fun a w I ι _ e=>⟨.string r,by
  have k:=(aI e j).str_inv;have i:=mW (P:=P) (b:=false) e b c g p;subst m;simp[execOp,n,k];simp[run_sliceAt_string w T _ _ _ _ d,Instr.slice,run_underlying d,i],.pv (.str _)⟩
theorem PRep.cut{b:Nat}{cs:Nat->Nat->Value}(m:I b)(g:0<sz)(d:∀r∈rows,r.length=sz)(hcap:rows.length<=cap)
  (hc:∀(i:Nat) (r:List PV),rows[i]?=some r->∀(k:Nat) (p:PV),r[k]?=some p->w.cell? ⟨b,off+i*sz+k,none⟩=some (cs i k))
  (hp:∀(i:Nat) (r:List PV),rows[i]?=some r->∀(k:Nat) (p:PV),r[k]?=some p->PRep w I (cs i k) p) (h1:l<=h) (h2:h<=rows.length) :
  PRep w I (.slice (some (if cap=l then⟨b,off,none⟩else(⟨b,off,none⟩:Addr).add (l*sz))) (h - l) (cap - l)) (.sl ((rows.take h).drop l)):=by
 have j:((rows.take h).drop l).length=h - l:=by grind
 by_cases e:cap=l
 ·have f:(rows.take h).drop l=[]:=List.eq_nil_of_length_eq_zero (by omega);rw[aCe e,f];have n:h - l=([]:List (List PV)).length:=by grind
  rw[n];exact .sl b off (cap - l) sz [] cs m g (by simp) (by simp) (by simp) (by simp)
 rw[aCd e,Addr.add_lit,<-j];refine .sl b (off+l*sz) (cap - l) sz _ (fun i k=>cs (l+i) k) m g (fun r q=>d r (List.mem_of_mem_take (List.mem_of_mem_drop q))) (by omega) ?_ ?_;all_goals grind
theorem WO{n:Option Operand}{rows':List (List PV)}(F:o.op=.slice T x n hi none)(U:P.underlying T=some (.slice e))(G:∀w,(sizeOf e).run P w=.ok sz w)(X:aO E x=some (.pv (.sl rows)))
  (hrows:∀r∈rows,r.length=sz) (i:bnd E n 0=some (l:Int)) (g:bnd E hi rows.length=some (h:Int)) (s:l<=h) (W:h<=rows.length) (R:(rows.take h).drop l=rows'):cK P N o E H (.pv (.sl rows')) H :=
 .of_run fun a w I ι _ C=>by
  have O:=(aI C X).pv_inv;generalize J:a.eval x=c at O;subst R;have k:P.elem T=e:=by simp[Program.elem,U]
  have d:P.underlying T=some (.slice (P.elem T)):=by simp_all
  cases O with
  |nilsl =>
   have t:h=0:=by simp_all
   have z:l=0:=by omega
   subst t z;have m:=mW (P:=P) (b:=true) (len:=0) (cap:=0) C i g s (by simp);refine⟨.slice none 0 0,?_,.pv (by simpa using PRep.nilsl)⟩;simp only[execOp,F,J];have:=run_slice_any (P:=P) w T none 0 0 d (n.map a.eval) (hi.map a.eval) none;simp[run_sliceAt_slice w T _ _ _ _ d,this,m,k,G,sliced]
  |empsl M =>
   have t:h=0:=by simp_all
   have z:l=0:=by omega
   subst t z;have m:=mW (P:=P) (b:=true) (len:=0) (cap:=0) C i g s (by simp);refine⟨.slice (some M) 0 0,?_,.pv (by simpa using PRep.empsl M)⟩;simp only[execOp,F,J];have:=run_slice_any (P:=P) w T (some M) 0 0 d (n.map a.eval) (hi.map a.eval) none;simp[run_sliceAt_slice w T _ _ _ _ d,this,m,k,G,sliced,Addr.add_zero']
  | sl b j f B _ S Q v p A L K =>
   by_cases u:rows=[]
   ·subst u;have t:h=0:=by simp_all
    have z:l=0:=by omega
    subst t z;have m:=mW (P:=P) (b:=true) (len:=0) (cap:=f) C i g s (by simp);refine⟨.slice (some ⟨b,j,none⟩) 0 f,?_,.pv (by simpa using PRep.sl b j f B [] S Q v (by simp) (by simp) (by simp) (by simp))⟩;simp only[execOp,F,J];have:=run_slice_any (P:=P) w T (some ⟨b,j,none⟩) 0 f d (n.map a.eval) (hi.map a.eval) none;simp[run_sliceAt_slice w T _ _ _ _ d,this,m,k,G,sliced,Addr.add_zero']
   have q:B=sz:=by
    obtain ⟨r,rs,e⟩:=List.exists_cons_of_ne_nil u
    simp_all
   subst q;have m:=mW (P:=P) (b:=true) (len:=rows.length) (cap:=f) C i g s (by omega);have D:=PRep.cut (l:=l) (h:=h) Q v p A L K s W;refine⟨_,?_,.pv D⟩;simp only[execOp,F,J];have:=run_slice_any (P:=P) w T (some ⟨b,j,none⟩) rows.length f d (n.map a.eval) (hi.map a.eval) none;simp only[run_sliceAt_slice w T _ _ _ _ d,Sem.run_bind,this,Option.map_none,m,k,G,sliced,Result.andThen_ok,Sem.run_pure];by_cases V:f=l<;>simp[V]
theorem FV{r:Option Operand}{j:Nat}(G:o.op=.slice T x r hi none)(M:P.underlying T=some (.slice e))(K:∀w,(sizeOf e).run P w=.ok sz w)(V:aO E x=some (.osl id g off len))
  (m:H.get id=some ob) (t:ob.g=g) (u:ob.sz=sz) (p:bnd E r 0=some (l:Int)) (q:bnd E hi len=some (h:Int)) (J:l<=h) (h2:h<=len) (C:off+l=j) (A:h - l=i):cK P N o E H (.osl id g j i) H :=
 .of_run fun a w I ι U D=>by
  have s:=aI D V;obtain ⟨hle,k⟩:=kB s m t;have n:P.elem T=e:=by simp[Program.elem,M]
  have f:P.underlying T=some (.slice (P.elem T)):=by simp_all
  subst C A u;rcases k with⟨b,c,z,B,v,L⟩|⟨B,v,L,S⟩
  ·have hcap:off+len<=c:=by
    obtain ⟨_,_,⟨b',cap',cs,W,e2,e3,e4,e5,e6,e7⟩|⟨W,_⟩⟩:=(U.obj id ob m).cells (pA s m t);all_goals grind
   have F:=mW (P:=P) (b:=true) (len:=len) (cap:=c - off) D p q J (by omega);have d:=run_slice_any (P:=P) w T (some ⟨b,z,none⟩) len (c - off) f (r.map a.eval) (hi.map a.eval) none;refine⟨.slice (some ⟨b,if c - off=l then z else z+l*ob.sz,none⟩) (h - l) (c - (off+l)),?_,.osl ob m (by omega) rfl fun _=>⟨pA s m t,by omega,.inl ⟨b,c,_,B,rfl,fun hlt=>?_⟩⟩⟩
   ·simp only[execOp,G,v];simp only[run_sliceAt_slice w T _ _ _ _ f,Sem.run_bind,d,Option.map_none,F,n,K,sliced,Result.andThen_ok,Sem.run_pure];by_cases O:c - off=l
    ·grind
    simp[O,Addr.add_lit];omega
   grind
  subst L S;have Q:h=0:=by omega
  have R:l=0:=by omega
  subst Q R;have F:=mW (P:=P) (b:=true) (len:=0) (cap:=0) D p q J (by simp);have d:=run_slice_any (P:=P) w T none 0 0 f (r.map a.eval) (hi.map a.eval) none;refine⟨.slice none 0 0,?_,.osl ob m (by omega) rfl fun _=>⟨pA s m t,by omega,.inr ⟨B,rfl,rfl,rfl⟩⟩⟩;simp only[execOp,G,v];simp[run_sliceAt_slice w T _ _ _ _ f,d,F,n,K,sliced]
end
end
section
theorem SD(w:World)(b)(c cs)(t)(d:w.heap[b]?=some (.cells c t (0,0)))(a):(w.setRow b cs).frozen? a=w.frozen? a:=by
 by_cases h:a.block=b
 ·subst h;simp[World.frozen?,setRow_heap w _ _ _ t _ d,d]
 simp[World.frozen?,setRow_other w b _ _ h]
section
variable{H H':aG}{id b cap:Nat}{ob ob':Ob}{cs0 cs':Array Value}
theorem Rel.update(g:Rel I ι H w)(u:H.get id=some ob)(d:ι id=some (b,cap))(E:w.heap[b]?=some (.cells cs0 ob.ty (0,0)))(hg:ob.g<=ob'.g)(m:ob'.sz=ob.sz)(C:ob'.ty=ob.ty)
  (hlen:ob'.g=ob.g->ob.rows.length<=ob'.rows.length) (K:cs'.size=cap*ob.sz) (p:ob'.rows.length<=cap) (G:∀r∈ob'.rows,r.length=ob.sz)
  (l:∀(i:Nat) (r:List AV),ob'.rows[i]?=some r->∀(k:Nat) (a:AV),r[k]?=some a->∃v,cs'[i*ob.sz+k]?=some v/\v.oneCell'=true/\VRel w I ι H v a)
  (S:H'.get id=some ob') (N:∀j,j≠id->H'.get j=H.get j):Rel I ι H' (w.setRow b cs')/\Step I ι H w I ι H' (w.setRow b cs'):=by
 have A:MW ι H b:=⟨id,ob,cap,u,d⟩;have n:Step I ι H w I ι H' (w.setRow b cs'):=by
  refine⟨rfl,rfl,rfl,by simp,fun a _ _=>SD w b cs0 cs' _ E a,fun _ h=>h,fun _ h=>.inl h,?_,?_,?_⟩
  ·rintro x ⟨j,o,c,f,J⟩;by_cases e:j=id
   ·simp_all
   exact .inl ⟨j,o,c,(N j e).symm.trans f,J⟩
  ·intro x _ z;exact setRow_other w b x cs' (fun e=>z (e▸A))
  grind
 refine⟨⟨fun x z=>by simpa using g.imm x z,?_,?_,n.glob g⟩,n⟩
 ·intro j o f;by_cases e:j=id
  ·subst e;rw[S]at f;cases f;obtain ⟨Q,p2,⟨b',cap',cs,s,e2,W,e4,e5,L,e6⟩|⟨s,_⟩⟩:=(g.obj j ob u).cells ((g.obj j ob u).pos d E)
   ·rw[d]at s;cases s;refine .inl ⟨by rw[m];exact Q,by rw[m];exact G,.inl ⟨b,cap,cs',d,?_,W,by rw[m];exact K,p,L,?_⟩⟩
    ·rw[C];exact setRow_heap w b cs0 cs' ob.ty (0,0) E
    intro i r R k a U;obtain ⟨v,Z,q2,X⟩:=l i r R k a U;exact⟨v,by rw[m];exact Z,q2,X.mono g n⟩
   rw[d]at s;cases s
  rw[N j e]at f;exact(g.obj j o f).keep rfl (fun x c z _=>⟨setRow_other w b x cs' (fun M=>e (g.inj j id o ob b c cap f u (M▸z) d)),fun h=>h⟩) (fun r _ a _ v Y=>Y.mono g n)
 intro j O o V x c c' f F J D;have t:∀j o,H'.get j=some o->∃o,H.get j=some o:=by
  intro j o f;by_cases e:j=id
  ·exact⟨ob,e▸u⟩
  exact⟨o,(N j e).symm.trans f⟩
 obtain ⟨q,P⟩:=t j o f;obtain ⟨T,B⟩:=t O V F;exact g.inj j O q T x c c' P B J D
theorem Rel.place{w':World}(n:Rel I ι H w)(K:w'.os=w.os)(t:w'.tape=w.tape)(C:w'.output=w.output)(hw:w'.heap=w.heap.push (.cells cs' ob'.ty (0,0)))
  (z:∀o,H.get id=some o->o.g<ob'.g) (J:0<ob'.sz) (G:cs'.size=cap*ob'.sz) (A:ob'.rows.length<=cap) (D:cap<=maxLen) (M:∀r∈ob'.rows,r.length=ob'.sz)
  (q:∀(i:Nat) (r:List AV),ob'.rows[i]?=some r->∀(k:Nat) (a:AV),r[k]?=some a->∃v,cs'[i*ob'.sz+k]?=some v/\v.oneCell'=true/\VRel w I ι H v a)
  (N:H'.get id=some ob') (s:∀j,j≠id->H'.get j=H.get j) :
  Rel I (fun j=>if j=id then some (w.heap.size,cap)else ι j) H' w'/\Step I ι H w I (fun j=>if j=id then some (w.heap.size,cap)else ι j) H' w':=by
 have B:w'.heap[w.heap.size]?=some (.cells cs' ob'.ty (0,0)):=by simp_all
 have d:∀x,x<w.heap.size->w'.heap[x]?=w.heap[x]?:=fun x u=>by grind
 have hsize:w'.heap.size=w.heap.size+1:=by simp_all
 have p:Step I ι H w I (fun j=>if j=id then some (w.heap.size,cap)else ι j) H' w':=by
  refine⟨K,t,C,by omega,fun a S _=>?_,fun _ h=>h,fun _ h=>.inl h,?_,fun x u _=>d x u,?_⟩
  ·simp[World.frozen?,d a.block S]
  ·rintro x ⟨j,o,c,l,m⟩;by_cases e:j=id
   ·simp only[e,if_true]at m;cases m;exact .inr (aCl _)
   simp only[e,if_false]at m;exact .inl ⟨j,o,c,(s j e).symm.trans l,m⟩
  intro j o l;by_cases e:j=id
  ·subst e;have:=z o l;exact⟨ob',N,by omega,fun e=>by omega⟩
  exact⟨o,(s j e).trans l,aCl _,fun _=>⟨by simp[e],rfl,fun _=>aCl _⟩⟩
 refine⟨⟨fun x u=>by have:=n.imm x u;omega,?_,?_,p.glob n⟩,p⟩
 ·intro j o l;by_cases e:j=id
  ·subst e;rw[N]at l;cases l;refine .inl ⟨J,M,.inl ⟨w.heap.size,cap,cs',by simp,B,fun L=>Nat.lt_irrefl _ (n.imm _ L),G,A,D,fun i r L k a Q=>?_⟩⟩;obtain ⟨v,V,T,U⟩:=q i r L k a Q;exact⟨v,V,T,U.mono n p⟩
  rw[s j e]at l;exact(n.obj j o l).keep (by simp[e]) (fun x c _ u=>⟨d x u,fun h=>h⟩) (fun r _ a _ v R=>R.mono n p)
 intro j E o O x c P l F m g;by_cases e:j=id<;>by_cases y:E=id
 ·rw[e,y]
 ·simp only[e,if_true]at m;simp only[y,if_false]at g;cases m;have:=n.lt ⟨E,O,P,(s E y).symm.trans F,g⟩;exact absurd this (Nat.lt_irrefl _)
 ·simp only[e,if_false]at m;simp only[y,if_true]at g;cases g;have:=n.lt ⟨j,o,c,(s j e).symm.trans l,m⟩;exact absurd this (Nat.lt_irrefl _)
 simp only[e,if_false]at m;simp only[y,if_false]at g;exact n.inj j E o O x c P ((s j e).symm.trans l) ((s E y).symm.trans F) m g
theorem Rel.drawn{w'}(g:Rel I ι H w)(k:w'.os=w.os)(e:w'.tape=w.tape)(f:w'.output=w.output)(i:w'.heap=w.heap):Rel I ι H w'/\Step I ι H w I ι H w':=by have d:Step I ι H w I _ H _:=⟨k,e,f,by simp_all,fun a _ _=>by simp[World.frozen?,i],fun _ h=>h,fun _ h=>.inl h,fun _ h=>.inl h,fun x _ _=>by rw[i],fun _ o h=>⟨o,h,aCl _,fun _=>⟨rfl,rfl,fun _=>aCl _⟩⟩⟩;refine⟨⟨fun x m=>by rw[i];exact g.imm x m,fun j o n=>?_,g.inj,d.glob g⟩,d⟩;exact(g.obj j o n).keep rfl (fun x c _ _=>⟨by rw[i],fun h=>h⟩) (fun r _ a _ v l=>l.mono g d)
theorem Rel.tick(g:Rel I ι H w)(C:H.get id=some ob)(hg:ob.g<ob'.g)(s:ob'.sz=ob.sz)(p:ob'.ty=ob.ty)(hrows:ob'.rows=ob.rows)
  (z:H'.get id=some ob') (m:∀j,j≠id->H'.get j=H.get j):Rel I ι H' w/\Step I ι H w I ι H' w:=by
 have d:Step I ι H w I ι H' w:=by
  refine⟨rfl,rfl,rfl,aCl _,fun a _ _=>rfl,fun _ h=>h,fun _ h=>.inl h,?_,fun _ _ _=>rfl,?_⟩
  ·rintro x ⟨j,o,c,f,n⟩;by_cases e:j=id
   ·subst e;exact .inl ⟨j,ob,c,C,n⟩
   exact .inl ⟨j,o,c,(m j e).symm.trans f,n⟩
  grind
 refine⟨⟨g.imm,?_,?_,d.glob g⟩,d⟩
 ·intro j o f;by_cases e:j=id
  ·subst e;rw[z]at f;cases f;refine(g.obj j ob C).keepG s p (by grind) (fun _ _ r h=>⟨r,by simp_all⟩) rfl (fun x c _ _=>⟨rfl,fun h=>h⟩) (fun i r hi=>⟨r,by simp_all,rfl,fun k a a' z m v A=>?_⟩);rw[z]at m;cases m;exact A.mono g d
  rw[m j e]at f;exact(g.obj j o f).keep rfl (fun x c _ _=>⟨rfl,fun h=>h⟩) (fun r _ a _ v A=>A.mono g d)
 intro j B o D x c G f t n y;have l:∀j o,H'.get j=some o->∃o,H.get j=some o:=by
  grind
 obtain ⟨q,F⟩:=l j o f;obtain ⟨E,u⟩:=l B D t;exact g.inj j B q E x c G F u n y
theorem Rel.adopt{ty:TypeId}(k:Rel I ι H w)(hH:H.get id=none)(q:0<sz):
  Rel I (fun j=>if j=id then none else ι j) ((id,⟨0,sz,ty,[]⟩)::H) w/\Step I ι H w I (fun j=>if j=id then none else ι j) ((id,⟨0,sz,ty,[]⟩)::H) w:=by
 have z:aG.get ((id,⟨0,sz,ty,[]⟩)::H) id=some ⟨0,sz,ty,[]⟩:=by simp[aG.get,pQ]
 have m:∀j,j≠id->aG.get ((id,⟨0,sz,ty,[]⟩)::H) j=H.get j:=fun j e=>by simp[aG.get,kV (Ne.symm e)]
 have g:Step I ι H w I (fun j=>if j=id then none else ι j) ((id,⟨0,sz,ty,[]⟩)::H) w:=by
  refine⟨rfl,rfl,rfl,aCl _,fun a _ _=>rfl,fun _ h=>h,fun _ h=>.inl h,?_,fun _ _ _=>rfl,?_⟩
  ·rintro x ⟨j,o,c,d,l⟩;by_cases e:j=id
   ·simp_all
   simp only[e,if_false]at l;exact .inl ⟨j,o,c,(m j e).symm.trans d,l⟩
  grind
 refine⟨⟨k.imm,?_,?_,g.glob k⟩,g⟩
 ·intro j o d;by_cases e:j=id
  ·subst e;rw[z]at d;cases d;exact .inl ⟨q,by simp,.inr ⟨by simp,rfl⟩⟩
  rw[m j e]at d;exact(k.obj j o d).keep (by simp[e]) (fun x c _ _=>⟨rfl,fun h=>h⟩) (fun r _ a _ v u=>u.mono k g)
 intro j n o y x c t d p l i;by_cases e:j=id
 ·simp_all
 by_cases s:n=id
 ·simp_all
 simp only[e,if_false]at l;simp only[s,if_false]at i;exact k.inj j n o y x c t ((m j e).symm.trans d) ((m n s).symm.trans p) l i
end
def N0:AV->Option (List AV)
 |.agg cs=>some cs
 |.any=>none
 |.tup _=>none
 |v=>some [v]
theorem sq{v:Value}(h:v.oneCell'=true):v.cells=#[v]:=by cases v<;>simp_all[Value.cells,Value.oneCell']
theorem K3(h:VRel w I ι H c v)(k:N0 v=some cells):
  c.cells.size=cells.length/\(∀u∈c.cells.toList,u.oneCell'=true)/\∀(j:Nat) (a:AV),cells[j]?=some a->∃u,c.cells[j]?=some u/\u.oneCell'=true/\VRel w I ι H u a:=by
 have f:∀(c:Value) (v:AV),c.oneCell'=true->VRel w I ι H c v->c.cells.size=[v].length/\(∀u∈c.cells.toList,u.oneCell'=true)/\∀(j:Nat) (a:AV),[v][j]?=some a->∃u,c.cells[j]?=some u/\u.oneCell'=true/\VRel w I ι H u a:=by
  intro c v d e;rw[sq d]
  grind
 cases h with
 |any v=>cases k
 |pv h=>cases k;exact f c _ h.oneCell (.pv h)
 |ref o d e g i=>cases k;exact f c _ g (.ref o d e g i)
 |pad b m n t d e g q i y x=>cases k;exact f _ _ rfl (.pad b m n t d e g q i y x)
 |osl o d e g i=>cases k;exact f c _ g (.osl o d e g i)
 |clo d e=>cases k;exact f _ _ rfl (.clo d e)
 |bnd d e=>cases k;exact f _ _ rfl (.bnd d e)
 | @agg r q d e g =>
  cases k;refine⟨d,fun u l=>?_,fun j a p=>?_⟩
  ·obtain ⟨j,s⟩:=aDA.1 l;exact e j u (by simpa[Value.cells]using s)
  have hlt:=(aCj.1 p).1;have l:r[j]?=some (r[j]'(by omega)):=Array.getElem?_eq_getElem (by omega);exact⟨_,l,e j _ l,g j _ a l p⟩
 |tup d e=>cases k
 |mp o d e g i=>cases k;exact f c _ g (.mp o d e g i)
 |it o d e g i=>cases k;exact f c _ g (.it o d e g i)
 |yld o d e g i=>cases k;exact f c _ g (.yld o d e g i)
 |osc o d e g i=>cases k;exact f c _ g (.osc o d e g i)
section
variable{N:Nat}{o:Oper}{T:TypeId}{x y:Operand}
theorem get_cons_same(id)(ob)(H:aG):aG.get ((id,ob)::H) id=some ob:=by simp[aG.get,pQ]
theorem get_cons_other{id j}(ob)(H:aG)(h:j≠id):aG.get ((id,ob)::H) j=H.get j:=by simp[aG.get,kV (Ne.symm h)]
theorem nq(h:Rel I ι H w)(g:VRel w I ι H c v)(l:N0 v=some cells)(d:0<cells.length)(hid:H.get id=none):
  ∃b,VRel (w.alloc (.cells c.cells T)) I b ((id,⟨0,cells.length,T,[cells]⟩)::H) (.pointer (some ⟨w.heap.size,0,none⟩)) (.ref id 0 0 0) /\
   Rel I b ((id,⟨0,cells.length,T,[cells]⟩)::H) (w.alloc (.cells c.cells T))/\Step I ι H w I b ((id,⟨0,cells.length,T,[cells]⟩)::H) (w.alloc (.cells c.cells T)):=by
 obtain ⟨h1,h2,h3⟩:=K3 g l;have e:=Rel.place (id:=id) (cap:=1) (ob':=⟨0,cells.length,T,[cells]⟩) (cs':=c.cells) (w':=w.alloc (.cells c.cells T)) h rfl rfl rfl rfl
  (fun o ho=>by simp_all) d (by grind) (by simp) (by simp[maxLen]) (by simp) (fun i r hi k a hk=>by
   grind) (get_cons_same _ _ _) (fun j f=>get_cons_other _ _ f)
 refine⟨_,.ref _ (get_cons_same _ _ _) (aCl _) rfl fun _=>⟨d,w.heap.size,1,by simp,by simp⟩,e.1,e.2⟩
theorem rW{v}{cells}{id n}(g:o.op=.box T x)(h:aO E x=some v)(l:N0 v=some cells)(i:cells.length=n+1)(b:H.get id=none):
  cK P N o E H (.ref id 0 0 0) ((id,⟨0,n+1,T,[cells]⟩)::H):=by
 intro a w I ι _ _ j k K Q f;obtain ⟨ι',e,c,d⟩:=nq j (aI k h) l (by omega) b;rw[i]at e c d;unfold Oper.wpW execOp;simp[g,Instr.box,newVar,newRow,Sem.run_bind,run_newObj,Sem.run_pure,Result.andThen_ok];exact f _ _ I _ _ _ ⟨rfl,rfl⟩ e c d
def zv:Value->Option AV
 |.agg cs=>(cs.toList.mapM cv).map .agg
 |v=>cv v
theorem Lz{l:List _}{b}(h:l.mapM cv=some b):l.length=b.length/\∀(i:Nat) (v) (a),l[i]?=some v->b[i]?=some a->cv v=some a:=by
 induction l generalizing b with
 |nil=>simp_all
 |cons x l ih =>
  simp[List.mapM_cons,Option.pure_def,Option.bind_eq_bind,Option.bind_eq_some_iff,Option.some.injEq]at h
  grind
theorem Qr{w}{I}{ι}{z}{v}(h:zv z=some v):VRel w I ι H z v:=by
 unfold zv at h
 split at h
 ·rename_i f;cases e:f.toList.mapM cv with
  |none=>rw[e]at h;cases h
  | some g =>
   rw[e]at h;cases h;obtain ⟨j,c⟩:=Lz e;refine .agg (by omega) (fun i u d=>?_) (fun i u a d k=>(QO (c i u a (by simp_all) k)).1);have b:i<g.length:=by
    have:=(Array.getElem?_eq_some_iff.1 d).1;have:=j;simp at this;omega
   exact(QO (H:=H) (w:=w) (I:=I) (ι:=ι) (c i u _ (by simp_all) (aCk b))).2
 exact(QO h).1
def Vh:Value->Option AV
 |.slice none 0 0=>some (.pv .nils)
 |v=>cv v
theorem XE{w}{I}{ι}{z}{v}(h:Vh z=some v):VRel w I ι H z v/\z.oneCell'=true:=by
 unfold Vh at h
 split at h
 ·cases h;exact⟨.pv .nils,rfl⟩
 exact QO h
def zvN:Value->Option AV
 |.agg cs=>(cs.toList.mapM Vh).map .agg
 |v=>Vh v
theorem Cb{l:List _}{b}(h:l.mapM Vh=some b):l.length=b.length/\∀(i:Nat) (v) (a),l[i]?=some v->b[i]?=some a->Vh v=some a:=by
 induction l generalizing b with
 |nil=>simp_all
 |cons x l ih =>
  simp[List.mapM_cons,Option.pure_def,Option.bind_eq_bind,Option.bind_eq_some_iff,Option.some.injEq]at h
  grind
theorem If{w}{I}{ι}{z}{v}(h:zvN z=some v):VRel w I ι H z v:=by
 unfold zvN at h
 split at h
 ·rename_i f;cases e:f.toList.mapM Vh with
  |none=>rw[e]at h;cases h
  | some g =>
   rw[e]at h;cases h;obtain ⟨j,c⟩:=Cb e;refine .agg (by omega) (fun i u d=>?_) (fun i u a d k=>(XE (c i u a (by simp_all) k)).1);have b:i<g.length:=by
    have:=(Array.getElem?_eq_some_iff.1 d).1;have:=j;simp at this;omega
   exact(XE (H:=H) (w:=w) (I:=I) (ι:=ι) (c i u _ (by simp_all) (aCk b))).2
 exact(XE h).1
def ZV(z:Value)(v:AV):Prop:=zv z=some v\/zvN z=some v
theorem ZV.rel{w}{I}{ι}{z}{v}(h:ZV z v):VRel w I ι H z v:=h.elim Qr If
theorem sk{z}{v}{cells}{id n}(i:o.op=.alloc T)(f:∀w,(zeroValue T).run P w=.ok z w)(j:ZV z v)(l:N0 v=some cells)(g:cells.length=n+1)(b:H.get id=none):
  cK P N o E H (.ref id 0 0 0) ((id,⟨0,n+1,T,[cells]⟩)::H):=by
 intro a w I ι _ _ k he K Q h;obtain ⟨ι',e,c,d⟩:=nq k (ZV.rel j) l (by omega) b;rw[g]at e c d;unfold Oper.wpW execOp;simp[i,Instr.alloc,f,newVar,newRow,Sem.run_bind,run_newObj,Sem.run_pure,Result.andThen_ok];exact h _ _ I _ _ _ ⟨rfl,rfl⟩ e c d
theorem fF{id sz}{ty}(f:o.op=.assign (.const (.slice none 0 0)))(b:H.get id=none)(hsz:Nat.blt 0 sz=true):
  cK P N o E H (.osl id 0 0 0) ((id,⟨0,sz,ty,[]⟩)::H):=by
 intro a w I ι _ _ g he K Q e;obtain ⟨d,c⟩:=Rel.adopt (sz:=sz) g b (by simp_all);unfold Oper.wpW execOp;simp[f,Sem.run_pure,Act.eval];exact e _ _ I _ _ _ ⟨rfl,rfl⟩ (.osl _ (get_cons_same _ _ _) (aCl _) rfl fun _=>⟨by simp_all,by simp,.inr ⟨by simp,rfl,rfl,rfl⟩⟩) d c
theorem xx{r r':List AV}{k:Nat}{H2:aG}(ho:o.op=.store T x y)(hr:Rel I ι H w)(R:VRel w I ι H (a.eval x) (.ref id g i k))(hyv:VRel w I ι H (a.eval y) v)(hc:N0 v=some cells)
  (hs:∀w,(sizeOf T).run P w=.ok n w) (S:cells.length=n) (V:H.get id=some ob) (hg:ob.g=g) (hi:ob.rows[i]?=some r) (hk:k+n<=r.length)
  (hr':r.take k++(cells++r.drop (k+n))=r') (L:H.set id {ob with rows:=ob.rows.set i r'}=H2) (K:Act->World->Prop) (Q:Exit->Act->World->Prop)
  (hkk:∀c w',Rel I ι H2 w'->Step I ι H w I ι H2 w'->K (a.put o.dst c) w'):o.wpW P a w K Q:=by
 obtain ⟨b,cap,h1,h3⟩:=oP R V hg;obtain ⟨X,c2,c3⟩:=K3 hyv hc;obtain ⟨p1,p2,⟨b',cap',C,O,e2,e3,e4,e5,e5',e6⟩|⟨O,_⟩⟩:=(hr.obj id ob V).cells (OY R V hg)
 ·rw [h1] at O;cases O;have hil:i < ob.rows.length:=(aCj.1 hi).1;have hrl:r.length=ob.sz:=p2 r (aCp hi);have hfit:i*ob.sz+k+n<=C.size:=by
   have:(i+1)*ob.sz<=cap*ob.sz:=Nat.mul_le_mul_right _ (by omega);rw[Nat.add_mul]at this;omega
  have F:(a.eval y).cells.toList.length=n:=by simp_all
  have J:=run_storeCells_at P b (i*ob.sz+k) ob.ty (a.eval y).cells.toList 0 C w e2 (by omega) c2;simp only[Nat.add_zero,F]at J;have z:r'.length=r.length:=by grind
  obtain ⟨M,B⟩:=Rel.update (H':=H2) (ob':={ob with rows:=ob.rows.set i r'}) (cs':=(C.toList.take (i*ob.sz+k)++(a.eval y).cells.toList++C.toList.drop (i*ob.sz+k+n)).toArray)
   hr V h1 e2 (aCl _) rfl rfl (fun _=>by simp) (by grind) (by simp_all)
   (fun q G=>by
    grind)
   (fun l q G m W f=>by
    have hql:q.length=ob.sz:=by
     have hm:=aCp G;rcases List.mem_or_eq_of_mem_set hm with h|h
     ·exact p2 q h
     rw[h,z,hrl]
    have hk'l:m<ob.sz:=by grind
    simp only[List.getElem?_toArray];by_cases e:l=i
    ·subst e;have Z:q=r':=by
      rw[List.getElem?_set_self hil]at G;exact(Option.some.inj G).symm
     subst Z;rw[<-hr']at f;by_cases ha:m<k
     ·rw[List.getElem?_append_left (by simp;omega),List.getElem?_take,aCe ha]at f;obtain ⟨u,s,A,t⟩:=e6 l r hi m W f;refine⟨u,?_,A,t⟩;rw[List.append_assoc,List.getElem?_append_left (by simp;omega),List.getElem?_take,aCe (by omega)]
      simpa using s
     by_cases hb:m<k+n
     ·rw[List.getElem?_append_right (by simp;omega),List.getElem?_append_left (by simp;omega)]at f;have p:min k r.length=k:=by omega
      simp only[aCt,p]at f;obtain ⟨u,s,A,t⟩:=c3 (m - k) W f;refine⟨u,?_,A,t⟩;rw[List.append_assoc,List.getElem?_append_right (by simp;omega),List.getElem?_append_left (by simp[X,S];omega)];have d:min (l*ob.sz+k) C.size=l*ob.sz+k:=by omega
      simp only[aCt,Array.length_toList,d];rw[show l*ob.sz+m - (l*ob.sz+k)=m - k by omega]
      simpa using s
     rw[List.getElem?_append_right (by simp;omega),List.getElem?_append_right (by simp;omega),List.getElem?_drop]at f;have p:min k r.length=k:=by omega
     simp only[aCt,p,S]at f;rw[show k+n+(m - k - n)=m by omega]at f;obtain ⟨u,s,A,t⟩:=e6 l r hi m W f;refine⟨u,?_,A,t⟩;rw[List.append_assoc,List.getElem?_append_right (by simp;omega),List.getElem?_append_right (by simp[X,S];omega),List.getElem?_drop];have d:min (l*ob.sz+k) C.size=l*ob.sz+k:=by omega
     simp only[aCt,Array.length_toList,d,F];rw[show l*ob.sz+k+n+(l*ob.sz+m - (l*ob.sz+k) - n)=l*ob.sz+m by omega]
     simpa using s
    rw[List.getElem?_set_ne (Ne.symm e)]at G;obtain ⟨u,s,A,t⟩:=e6 l q G m W f;refine⟨u,?_,A,t⟩;rcases Nat.lt_or_gt_of_ne e with Y|hgt
    ·have:(l+1)*ob.sz<=i*ob.sz:=Nat.mul_le_mul_right _ Y;rw[Nat.add_mul]at this;rw[List.append_assoc,List.getElem?_append_left (by simp;omega),List.getElem?_take,aCe (by omega)]
     simpa using s
    have:(i+1)*ob.sz<=l*ob.sz:=Nat.mul_le_mul_right _ hgt;rw[Nat.add_mul]at this;rw[List.append_assoc,List.getElem?_append_right (by simp;omega),List.getElem?_append_right (by simp[X,S];omega),List.getElem?_drop];have d:min (i*ob.sz+k) C.size=i*ob.sz+k:=by omega
    simp only[aCt,Array.length_toList,d,F];rw[show i*ob.sz+k+n+(l*ob.sz+m - (i*ob.sz+k) - n)=l*ob.sz+m by omega]
    simpa using s)
   (by rw[<-L];exact aG.get_set_same _ _ _) (fun j hj=>by rw[<-L];exact aG.get_set_other _ _ hj)
  unfold Oper.wpW execOp;have U:¬ ((a.eval y).cells.size≠n):=by simp[X,S]
  simp only[ho,h3,Instr.storeAt,Instr.sureAddr,storeVar,Sem.run_bind,Sem.run_pure,Result.andThen_ok,hs,Sem.run_ite,U,if_false,J];exact hkk _ _ M B
 rw[h1]at O;cases O
theorem J9{v}{cells r r'}{id g i k n}{ob}{H2}(A:o.op=.store T x y)(l:aO E x=some (.ref id g i k))(j:aO E y=some v)(q:N0 v=some cells)
  (p:∀w,(sizeOf T).run P w=.ok n w) (s:cells.length=n) (u:H.get id=some ob) (B:ob.g=g) (hi:ob.rows[i]?=some r) (z:k+n<=r.length)
  (b:r.take k++(cells++r.drop (k+n))=r') (d:H.set id {ob with rows:=ob.rows.set i r'}=H2):cK P N o E H .any H2:=by
 intro a w I ι _ _ m f K Q e;exact xx A m (aI f l) (aI f j) q p s u B hi z b d K Q (fun c w' t h=>e c _ I _ _ _ ⟨rfl,rfl⟩ (.any _) t h)
end
end
section
inductive Clo(H:aG):AV->Prop
 |any:Clo H .any
 |pv (p:PV):Clo H (.pv p)
 |pad (rows:List (List PV)) (i k:Nat):Clo H (.pad rows i k)
 |ref {id g i k:Nat} (h:(H.get id).isSome=true):Clo H (.ref id g i k)
 |osl {id g off len:Nat} (h:(H.get id).isSome=true):Clo H (.osl id g off len)
 |clo {f:FuncId} {caps:List AV} (h:∀a∈caps,Clo H a):Clo H (.clo f caps)
 |bnd {f:FuncId} {xs:List AV} (h:∀a∈xs,Clo H a):Clo H (.bnd f xs)
 |agg {cs:List AV} (h:∀a∈cs,Clo H a):Clo H (.agg cs)
 |tup {cs:List AV} (h:∀a∈cs,Clo H a):Clo H (.tup cs)
 |mp {id g:Nat} (h:(H.get id).isSome=true):Clo H (.mp id g)
 |it {id g:Nat} (h:(H.get id).isSome=true):Clo H (.it id g)
 |yld {id g:Nat} (h:(H.get id).isSome=true):Clo H (.yld id g)
 |raw (x:Go.Loop) (ts:List Nat):Clo H (.raw x ts)
 |osc {id g off len c:Nat} (h:(H.get id).isSome=true):Clo H (.osc id g off len c)
@[simp] theorem aAr(H):Clo H .any=True:=eq_true .any
@[simp] theorem aB9(H)(p):Clo H (.pv p)=True:=eq_true (.pv p)
@[simp] theorem aAq(H)(rows)(i k):Clo H (.pad rows i k)=True:=eq_true (.pad _ i k)
@[simp] theorem wB(H)(id g i k):Clo H (.ref id g i k)=((H.get id).isSome=true):=propext ⟨fun h=>by cases h;assumption,.ref⟩
@[simp] theorem Np(H)(id g i k):Clo H (.osl id g i k)=((H.get id).isSome=true):=propext ⟨fun h=>by cases h;assumption,.osl⟩
@[simp] theorem Vl(H)(id g):Clo H (.mp id g)=((H.get id).isSome=true):=propext ⟨fun h=>by cases h;assumption,.mp⟩
@[simp] theorem Vm(H)(id g):Clo H (.it id g)=((H.get id).isSome=true):=propext ⟨fun h=>by cases h;assumption,.it⟩
@[simp] theorem Nn(H)(id g):Clo H (.yld id g)=((H.get id).isSome=true):=propext ⟨fun h=>by cases h;assumption,.yld⟩
@[simp] theorem aAp(H)(x)(a):Clo H (.raw x a)=True:=eq_true (.raw x _)
@[simp] theorem Nq(H)(id g off len c):Clo H (.osc id g off len c)=((H.get id).isSome=true):=propext ⟨fun h=>by cases h;assumption,.osc⟩
@[simp] theorem Nr(H)(f)(l):Clo H (.clo f l)=∀a∈l,Clo H a:=propext ⟨fun h=>by cases h;assumption,.clo⟩
@[simp] theorem Ns(H)(f)(l):Clo H (.bnd f l)=∀a∈l,Clo H a:=propext ⟨fun h=>by cases h;assumption,.bnd⟩
@[simp] theorem XF(H)(l):Clo H (.agg l)=∀a∈l,Clo H a:=propext ⟨fun h=>by cases h;assumption,.agg⟩
@[simp] theorem No(H)(l):Clo H (.tup l)=∀a∈l,Clo H a:=propext ⟨fun h=>by cases h;assumption,.tup⟩
def Sub(H' H:aG):Prop:=∀id o,H'.get id=some o->H.get id=some o
def eE(H:aG):Prop:=∀id o,H.get id=some o->∀r∈o.rows,∀a∈r,Clo H a
theorem VRel.restrict{w}{I}{ι}{H H'}(p:Sub H' H){v}{a}(h:VRel w I ι H v a):Clo H' a->VRel w I ι H' v a:=by
 induction h with
 |any v=>exact fun _=>.any v
 |pv h=>exact fun _=>.pv h
 | ref o e g f j =>
  intro c;cases c with
  |ref c =>
   obtain ⟨q,d⟩:=Option.isSome_iff_exists.1 c;have:=p _ _ d;rw[e]at this;cases this;exact .ref o d g f j
 |pad b off cap sz e g f D j E C=>exact fun _=>.pad b _ _ _ e g f D j E C
 | osl o e g f j =>
  intro c;cases c with
  |osl c =>
   obtain ⟨q,d⟩:=Option.isSome_iff_exists.1 c;have:=p _ _ d;rw[e]at this;cases this;exact .osl o d g f j
 |clo m h l =>
  intro c;cases c with|clo c=>exact .clo m fun i v a n k=>l i v a n k (c a (aCp k))
 |bnd m h l =>
  intro c;cases c with|bnd c=>exact .bnd m fun i v a n k=>l i v a n k (c a (aCp k))
 |agg m e h l =>
  intro c;cases c with|agg c=>exact .agg m e fun i v a n k=>l i v a n k (c a (aCp k))
 |tup m h l =>
  intro c;cases c with|tup c=>exact .tup m fun i v a n k=>l i v a n k (c a (aCp k))
 | mp o e g f j =>
  intro c;cases c with
  |mp c =>
   obtain ⟨q,d⟩:=Option.isSome_iff_exists.1 c;have:=p _ _ d;rw[e]at this;cases this;exact .mp o d g f j
 | it o e g f j =>
  intro c;cases c with
  |it c =>
   obtain ⟨q,d⟩:=Option.isSome_iff_exists.1 c;have:=p _ _ d;rw[e]at this;cases this;exact .it o d g f j
 | yld o e g f j =>
  intro c;cases c with
  |yld c =>
   obtain ⟨q,d⟩:=Option.isSome_iff_exists.1 c;have:=p _ _ d;rw[e]at this;cases this;exact .yld o d g f j
 | osc o e g f j =>
  intro c;cases c with
  |osc c =>
   obtain ⟨q,d⟩:=Option.isSome_iff_exists.1 c;have:=p _ _ d;rw[e]at this;cases this;exact .osc o d g f j
theorem MW.sub{ι}{H H'}(d:Sub H' H){b}(h:MW ι H' b):MW ι H b :=let ⟨id,o,c,a,e⟩:=h;⟨id,o,c,d _ o a,e⟩
theorem Rel.restrict{I}{ι}{H H'}{w}(e:Rel I ι H w)(d:Sub H' H)(l:eE H'):Rel I ι H' w where
 imm:=e.imm
 obj:=fun id o g=>(e.obj _ o (d _ o g)).keep rfl (fun _ _ _ _=>⟨rfl,fun h=>h⟩) (fun r f a i v k=>k.restrict d (l _ o g r f a i))
 inj:=fun id id' o o' b c c' h j=>e.inj _ _ o _ b c _ (d _ o h) (d _ _ j)
 glob:=e.glob
def MX(H0 H' H:aG):Prop:=∀id,(H0.get id).isSome=true->H'.get id=H.get id
theorem Step.restrict{c I}{a ι}{H0 H H'}{d w}(h:Step c a H0 d I ι H w)(f:Sub H' H)(k:MX H0 H' H):Step c a H0 d I ι H' w where
 os:=h.os
 tape:=h.tape
 output:=h.output
 size:=h.size
 froz:=h.froz
 imm:=h.imm
 immNew:=h.immNew
 own:=fun b j=>h.own b (j.sub f)
 keep:=h.keep
 objs:=fun id o e=>by
  obtain ⟨i,g,l⟩:=h.objs _ o e;exact⟨i,(k _ (by grind)).trans g,l⟩
def we(E:dC)(H':aG):dC->Prop
 | []=>True
 |(t,v)::r=>(∃v0,E.get t=some v0/\v0=v)/\Clo H' v/\we E H' r
def X7(H H':aG):aG->Prop
 | []=>True
 |(id,o)::r=>(∃o0,H.get id=some o0/\o0=o)/\(∀r∈o.rows,∀a∈r,Clo H' a)/\X7 H H' r
def wc(H' H:aG):aG->Prop
 | []=>True
 |(id,_)::r=>H'.get id=H.get id/\wc H' H r
theorem iA{t}{v}(h:E.get t=some v):(t,v)∈E:=by
 induction E with
 |nil=>cases h
 | cons x r ih =>
  obtain ⟨i,u⟩:=x;cases e:Nat.beq i t with
  |true =>
   have:=Nat.eq_of_beq_eq_true e;subst this;simp[dC.get,e]at h;simp[h]
  |false=>simp[dC.get,e]at h;simp_all
theorem dY{t}{o}(h:H.get t=some o):(t,o)∈H:=by
 induction H with
 |nil=>cases h
 | cons x r ih =>
  obtain ⟨i,u⟩:=x;cases e:Nat.beq i t with
  |true =>
   have:=Nat.eq_of_beq_eq_true e;subst this;simp[aG.get,e]at h;simp[h]
  |false=>simp[aG.get,e]at h;simp_all
theorem we.spec{E}{H'}{E'}(h:we E H' E'):∀p∈E',E.get p.1=some p.2/\Clo H' p.2:=by
 induction E' with
 |nil=>simp
 |cons x r ih =>
  obtain ⟨⟨v0,h1,h2⟩,h3,h4⟩:=h
  grind
theorem X7.spec{H H'}{L}(h:X7 H H' L):∀p∈L,H.get p.1=some p.2/\∀r∈p.2.rows,∀a∈r,Clo H' a:=by
 induction L with
 |nil=>simp
 |cons x r ih =>
  obtain ⟨⟨v0,h1,h2⟩,h3,h4⟩:=h;intro p hp
  grind
theorem wc.spec{H' H}{L}(h:wc H' H L):∀p∈L,H'.get p.1=H.get p.1:=by
 induction L with
 |nil=>simp
 |cons x r b =>
  intro p a;rcases aCr.1 a with e|e
  ·subst e;exact h.1
  exact b h.2 p e
theorem X7.sub{H H'}(h:X7 H H' H'):Sub H' H:=fun id o a=>(h.spec _ (dY a)).1
theorem X7.closed{H H'}(h:X7 H H' H'):eE H':=fun id o a=>(h.spec _ (dY a)).2
theorem wc.kept{H0 H' H}(h:wc H' H H0):MX H0 H' H:=fun id b=>by
 obtain ⟨o,a⟩:=Option.isSome_iff_exists.1 b;exact h.spec _ (dY a)
theorem cQ.wk{G0}{E E'}{H H'}(f:we E H' E')(b:X7 H H' H')(i:wc H' H G0):cQ G0 E H E' H':=by intro G l N a w d;obtain ⟨I,n,j,e,k⟩:=d.rel;subst l;refine⟨d.defers,d.size,I,n,j.restrict b.sub b.closed,e.restrict b.sub i.kept,fun t v g=>?_⟩;obtain ⟨h,o⟩:=f.spec _ (iA g);obtain ⟨c,m,p⟩:=k t v h;exact⟨c,m,p.restrict b.sub o⟩
theorem cQ.trans{G0}{E E' b}{H H' c}(h:cQ G0 E H E' H')(f:cQ G0 E' H' b c):cQ G0 E H b c:=fun G d N a w e=>f G d N a w (h G d N a w e)
theorem cQ.env{G0}{E E'}{H}(d:∀p∈E',E.get p.1=some p.2):cQ G0 E H E' H:=by intro G hG N a w c;obtain ⟨I,g,e,b,h⟩:=c.rel;exact⟨c.defers,c.size,I,g,e,b,fun t v f=>h t v (d _ (iA f))⟩
inductive Fz(H':aG)(id g:Nat)(ps:List (List PV)):AV->AV->Prop
 |same {a:AV} (h:Clo H' a):Fz H' id g ps a a
 |osl {off len:Nat} {qs:List (List PV)} (hq:(ps.take (off+len)).drop off=qs):Fz H' id g ps (.osl id g off len) (.pv (.sl qs))
 |agg {cs cs':List AV} (hl:cs.length=cs'.length) (h:∀(i:Nat) (a a':AV),cs[i]?=some a->cs'[i]?=some a'->Fz H' id g ps a a'):Fz H' id g ps (.agg cs) (.agg cs')
 |tup {cs cs':List AV} (hl:cs.length=cs'.length) (h:∀(i:Nat) (a a':AV),cs[i]?=some a->cs'[i]?=some a'->Fz H' id g ps a a'):Fz H' id g ps (.tup cs) (.tup cs')
theorem Fz.raw{H'}{id g}{ps}{a a'}(h:Fz H' id g ps a a'){y}{b}(e:a'=.raw y b):a=.raw y b:=by cases h<;>first|exact e|cases e
def pX(I:Nat->Prop)(ι:lR)(id:Nat):Nat->Prop:=fun b=>I b\/∃cap,ι id=some (b,cap)
theorem D0{ps:List (List PV)}(E:Rel I ι H w)(j:H.get id=some ob)(d:ob.rows=ps.map (·.map .pv)){v:Value}(x:VRel w I ι H v (.osl id ob.g off len)):
  PRep w (pX I ι id) v (.sl ((ps.take (off+len)).drop off)):=by
 obtain ⟨hle,⟨b,a,D,e,s,q⟩|⟨e,s,q,J⟩⟩:=kB x j rfl
 ·obtain ⟨y,C,⟨b',cap',A,f,B,e3,e4,e5,e5',t⟩|⟨f,_⟩⟩:=(E.obj id ob j).cells (pA x j rfl)
  ·rw[e]at f;cases f;have hlen:ps.length=ob.rows.length:=by simp_all
   have c:=PRep.cut (w:=w) (I:=pX I ι id) (b:=b) (off:=0) (cap:=a) (sz:=ob.sz) (rows:=ps) (l:=off) (h:=off+len) (cs:=fun i k=>(A[i*ob.sz+k]?).getD undef)
    (.inr ⟨a,e⟩) y (fun r hr'=>by
     have:r.map AV.pv∈ob.rows:=by grind
     have:=C _ this
     simpa using this) (by omega)
    (fun i r o k p m=>by
     obtain ⟨u,n,F,z⟩:=t i (r.map .pv) (by rw[d];simp[o]) k (.pv p) (by simp[m]);rw[aCx,cell_of_row w b _ A ob.ty (0,0) B,n];rfl)
    (fun i r o k p m=>by
     obtain ⟨u,n,F,z⟩:=t i (r.map .pv) (by rw[d];simp[o]) k (.pv p) (by simp[m]);rw[n];exact z.pv_inv.mono (fun _ _=>rfl) (fun _ h=>.inl h)) (by omega) (by omega)
   rw[s];by_cases G:a=off
   ·have l:len=0:=by omega
    subst l;have:(ps.take (off+0)).drop off=[]:=List.eq_nil_of_length_eq_zero (by simp);rw[this];exact .sl b D (a - off) ob.sz [] (fun _ _=>undef) (.inr ⟨a,e⟩) y (by simp) (by simp) (by simp) (by simp)
   rw[aCd G,Addr.add_lit]at c;rw[q (by omega)]
   simpa using c
  rw[e]at f;cases f
 subst q J;rw[s]
 simpa using PRep.nilsl
theorem VRel.freeze{w}{I}{ι}{H H'}{id}{ob}{ps}(p:Rel I ι H w)(s:Sub H' H)(x:H.get id=some ob)(m:ob.rows=ps.map (·.map .pv)){a a'}(q:Fz H' id ob.g ps a a'):
  ∀ {v},VRel w I ι H v a->VRel w (pX I ι id) ι H' v a':=by
 induction q with
 |same h=>exact fun c=>(c.restrict s h).mono' (fun _ _=>rfl) (fun _ h=>.inl h) (fun _ o h=>⟨o,h,aCl _,fun _=>⟨rfl,rfl,fun _=>aCl _⟩⟩)
 |osl r =>
  intro v c;subst r;exact .pv (D0 p x m c)
 | agg g h j =>
  intro v c;cases c with
  |agg k t f =>
   refine .agg (k.trans g) t fun i u a' l b=>?_;have n:=(aCj.1 b).1;exact j i _ _ (aCk (by omega)) b (f i u _ l (aCk _))
 | tup g h j =>
  intro v c;cases c with
  |tup k f =>
   refine .tup (k.trans g) fun i u a' l b=>?_;have n:=(aCj.1 b).1;exact j i _ _ (aCk _) b (f i u _ l (aCk (by omega)))
theorem Rel.freeze{w}{I}{ι}{H H'}{id}{ob}(c:Rel I ι H w)(l:Sub H' H)(p:eE H')(k:H.get id=some ob)(i:H'.get id=none):Rel (pX I ι id) ι H' w:=by
 have e:=c.restrict l p;refine⟨fun b d=>?_,fun j o g=>?_,e.inj,c.glob.mono (fun _ _=>rfl) (fun _ h=>.inl h)⟩
 ·rcases d with d|⟨f,d⟩
  ·exact c.imm b d
  exact c.lt ⟨id,ob,f,k,d⟩
 refine(e.obj j o g).keep rfl (fun b' cap' m _=>⟨rfl,fun e3=>?_⟩) (fun r _ a _ v n=>n.mono' (fun _ _=>rfl) (fun _ h=>.inl h) (fun _ o h=>⟨o,h,aCl _,fun _=>⟨rfl,rfl,fun _=>aCl _⟩⟩));rintro(h|⟨f,h⟩)
 ·grind
 have:=c.inj j _ o _ _ _ _ (l j o g) k m h;rw[this,i]at g;cases g
theorem Step.freeze{f I}{c ι}{H0 H H'}{e w}{id}{ob}(h:Step f c H0 e I ι H w)(j:Sub H' H)(i:MX H0 H' H)(k:H.get id=some ob):Step f c H0 e (pX I ι id) ι H' w :=let l:=h.restrict j i
  { l with
    imm:=fun b a=>.inl (h.imm b a)
    immNew:=fun b a=>by
      rcases a with a|⟨d,a⟩
      · exact h.immNew b a
      · rcases h.own b ⟨id,ob,d,k,a⟩with g|g
        all_goals simp_all}
def Fin(G0:aG)(H:aG)(r:AV)(H':aG)(r':AV):Prop :=∀(G:Entry),G.H=G0->∀(I:Nat->Prop) (ι:lR) (w:World) (v:Value),Rel I ι H w->Step G.I G.ι G.H G.w I ι H w->VRel w I ι H v r ->
  ∃I' ι',Rel I' ι' H' w/\Step G.I G.ι G.H G.w I' ι' H' w/\VRel w I' ι' H' v r'
theorem Fin.wk{G0 H H'}{r}(c:Clo H' r)(a:X7 H H' H')(b:wc H' H G0):Fin G0 H r H' r:=by intro G d I f w v h g e;subst d;exact⟨I,f,h.restrict a.sub a.closed,g.restrict a.sub b.kept,e.restrict a.sub c⟩
theorem Fin.trans{G0 H H' a}{r r' b}(h:Fin G0 H r H' r')(i:Fin G0 H' r' a b):Fin G0 H r a b:=by intro G c I ι w v j f g;obtain ⟨I',ι',d,e,k⟩:=h G c I _ w v j f g;exact i G c _ _ w v d e k
theorem Fin.fz{G0 H H'}{r r'}{id}{ob}(ps)(c:H.get id=some ob)(d:ob.rows=ps.map (·.map .pv))(h:Fz H' id ob.g ps r r')(b:H'.get id=none)(a:X7 H H' H')(i:wc H' H G0):Fin G0 H r H' r':=by intro G f I j w v e k g;subst f;exact⟨_,j,e.freeze a.sub a.closed c b,k.freeze a.sub i.kept c,VRel.freeze e a.sub c d h g⟩
theorem cQ.fz{G0}{E E'}{H H'}{id}{ob}(ps)(f:H.get id=some ob)(h:ob.rows=ps.map (·.map .pv))(j:∀p∈E',∃v0,E.get p.1=some v0/\Fz H' id ob.g ps v0 p.2)(e:H'.get id=none)
  (b:X7 H H' H') (s:wc H' H G0):cQ G0 E H E' H':=by
 intro G u N a w d;obtain ⟨I,q,i,g,l⟩:=d.rel;subst u;refine⟨d.defers,d.size,_,q,i.freeze b.sub b.closed f e,g.freeze b.sub s.kept f,fun t v m=>?_⟩;obtain ⟨v0,o,r⟩:=j _ (iA m);obtain ⟨c,n,k⟩:=l t _ o;exact⟨c,n,VRel.freeze i b.sub f h r k⟩
def nK(args:List AV):dC:=args.zipIdx.map fun(v,i)=>(i,v)
def YZ(tmps:Array Value):ResultVar->Sem Value
 |.tmp t=>pure (tmps.getD t undef)
 |.cell a t=>do loadVar t (<-asAddr (tmps.getD a undef))
theorem tU(c)(a):results c a=(do let b <-c.results.mapM (YZ a);pure (if h:b.size=1 then b[0]else .tuple b)):=rfl
def MV(P:Program)(E:dC)(H:aG)(x:ResultVar)(r:AV):Prop :=∀(a:Act) (w:World) (I:Nat->Prop) (ι:lR),Rel I ι H w->kS w I ι H E a ->
  ∃v,(YZ a.tmps x).run P w=.ok v w/\VRel w I ι H v r
theorem aJ{P}{E}{H}{t}{r}(h:E.get t=some r):MV P E H (.tmp t) r:=fun a w I ι _ d=>by
 obtain ⟨c,e,b⟩:=d t r h;exact⟨c,by simp[YZ,e],b⟩
theorem eU{P}{E}{H}{t}{T}{n id g i k}{ob}{r cs}(m:E.get t=some (.ref id g i k))(p:∀w,(isAgg T).run P w=.ok true w)(A:∀w,(sizeOf T).run P w=.ok n w)(h:H.get id=some ob)(j:ob.g=g)
  (hi:ob.rows[i]?=some r) (x:(r.drop k).take n=cs) (y:cs.length=n):MV P E H (.cell t T) (.agg cs):=fun a w I ι s z=>by
 obtain ⟨c,o,l⟩:=z t _ m;obtain ⟨v,u,q⟩:=Ce (EQ s l h j hi) p A x y;obtain ⟨b,cap,_,e⟩:=oP l h j;subst e;refine⟨v,?_,q⟩
 simpa[YZ,o,asAddr,Instr.loadAt,Instr.sureAddr]using u
theorem gZ{P}{E}{H}{t}{T}{id g i k}{ob}{r}{v}(p:E.get t=some (.ref id g i k))(q:∀w,(isAgg T).run P w=.ok false w)(f:H.get id=some ob)(h:ob.g=g)
  (hi:ob.rows[i]?=some r) (hk:r[k]?=some v):MV P E H (.cell t T) v:=fun a w I ι m n=>by
 obtain ⟨c,o,j⟩:=n t _ p;obtain ⟨u,l,s⟩:=Cf (a:=v) (EQ m j f h hi) q (by simp_all);obtain ⟨b,cap,_,e⟩:=oP j f h;subst e;refine⟨u,?_,s⟩
 simpa[YZ,o,asAddr,Instr.loadAt,Instr.sureAddr]using l
def LG(P:Program)(fn:Func)(G0:aG)(Q:AV->aG->Prop)(e:Exit)(E:dC)(H:aG):Prop :=(e=.normal\/e=.ret)/\∃r,(∀(a:Act) (w:World) (I:Nat->Prop) (ι:lR),Rel I ι H w->kS w I ι H E a->∃v,(results fn a.tmps).run P w=.ok v w/\VRel w I ι H v r)/\∃r' H',Fin G0 H r H' r'/\Q r' H'
section
variable{fn:Func}{G0 H:aG}{Q:AV->aG->Prop}{e:Exit}
theorem uP(d:e=.normal\/e=.ret)(f:fn.results=#[]){r'}{H'}(b:Fin G0 H (.tup []) H' r')(c:Q r' H'):LG P fn G0 Q e E H :=⟨d,.tup _,fun a w I ι _ _=>⟨.tuple #[],by simp[results,f],.tup rfl (by simp)⟩,r',H',b,c⟩
theorem dA(j:e=.normal\/e=.ret){x}{r r'}{H'}(i:fn.results=#[x])(g:MV P E H x r)(b:Fin G0 H r H' r')(f:Q r' H'):LG P fn G0 Q e E H :=⟨j,r,fun a w I ι h c=>by
  obtain ⟨v,d,k⟩:=g a w I _ h c;exact⟨v,by rw[tU,i];simp[d],k⟩,r',H',b,f⟩
theorem iN(j:e=.normal\/e=.ret){x y}{H'}(i:fn.results=#[x,y])(g:MV P E H x r)(k:MV P E H y s)(b:Fin G0 H (.tup [r,s]) H' r')(h:Q r' H'):LG P fn G0 Q e E H :=⟨j,.tup _,fun a w I d f c=>by
  obtain ⟨v,h1,h2⟩:=g a w I d f c;obtain ⟨u,h3,h4⟩:=k a w I d f c;refine⟨.tuple #[v,u],by rw[tU,i];simp_all,.tup rfl ?_⟩
  grind,r',H',b,h⟩
theorem lH(j:e=.normal\/e=.ret){x y z:ResultVar}{t:AV}{H':aG}(k:fn.results=#[x,y,z])(l:MV P E H x r)(h:MV P E H y s)(i:MV P E H z t)(b:Fin G0 H (.tup [r,s,t]) H' r')(g:Q r' H'):LG P fn G0 Q e E H :=⟨j,.tup [r,s,t],fun a w I f c d=>by
  obtain ⟨v,h1,h2⟩:=l a w I f c d;obtain ⟨u,h3,h4⟩:=h a w I f c d;obtain ⟨q,h5,h6⟩:=i a w I f c d;refine⟨.tuple #[v,u,q],by rw[tU,k];simp_all,.tup rfl ?_⟩
  grind,r',H',b,g⟩
end
theorem vZ{args}{t}{v}(h:(nK args).get t=some v):args[t]?=some v:=by have c:=iA h;simp[nK,List.mem_map,Prod.mk.injEq,Prod.exists]at c;obtain ⟨a,i,b,e,d⟩:=c;subst e d;rw[List.mem_zipIdx_iff_getElem?]at b;exact b
theorem PRep.swap{w w'}{I}(q:∀b o,w'.cell? ⟨b,o,none⟩=w.cell? ⟨b,o,none⟩){v}{p}(h:PRep w I v p):PRep w' I v p:=by
 induction h with
 |int k n=>exact .int k n
 |bool b=>exact .bool b
 |str s=>exact .str s
 |nilp=>exact .nilp
 |fn f=>exact .fn f
 |nilfn=>exact .nilfn
 |nilsl=>exact .nilsl
 |nils=>exact .nils
 |nilm=>exact .nilm
 |sat y h=>exact .sat y h
 |slf a n e h d=>exact .slf a n _ d
 |ifc t v p h d=>exact .ifc t v p d
 |ifa t C ps B h d=>exact .ifa t _ _ B (fun k c p q u=>d k c p q u)
 |empsl a=>exact .empsl a
 |sl b off cap sz e C x m j g l u d =>
  exact .sl b _ _ _ _ _ x m j g (fun i r A k p z=>(q _ _).trans (l i r A k p z)) d
theorem RN.swap{w}{I}{D}{x}(hD:w.heap[D]?=some (.deferred x))(y)(h:RN I w):RN I (w.putObj D (.deferred y)):=fun p a=>by
 obtain ⟨g,d,t,f,c,b⟩:=h p a;refine⟨g,d,t,f,?_,b⟩;rw[World.putObj_heap_other (fun e=>by simp_all)];exact c
theorem VRel.swap{w w'}{I}{ι}{H}(l:∀b o,w'.cell? ⟨b,o,none⟩=w.cell? ⟨b,o,none⟩){v}{a}(h:VRel w I ι H v a):VRel w' I ι H v a:=by
 induction h with
 |any v=>exact .any v
 |pv h=>exact .pv (h.swap l)
 |ref o c f d e=>exact .ref o c f d e
 |pad b off cap sz c f d cs e q s=>exact .pad b _ _ _ (c.swap l) f d _ e (fun i r n k p m=>(l _ _).trans (q i r n k p m)) (fun i r n k p m=>(s i r n k p m).swap l)
 |osl o c f d e=>exact .osl o c f d e
 |clo g h j=>exact .clo g j
 |bnd g h j=>exact .bnd g j
 |agg g c h j=>exact .agg g c j
 |tup g h j=>exact .tup g j
 |mp o c f d e=>exact .mp o c f d e
 |it o c f d e=>exact .it o c f d e
 |yld o c f d e=>exact .yld o c f d e
 |osc o c f d e=>exact .osc o c f d e
theorem qx {D:Nat} {x:Option (List Deferred)} (d:Rel I ι H w) (c:Step G.I G.ι G.H G.w I ι H w) (f:w.heap[D]?=some (.deferred x)) (hG:G.w.heap.size<=D) (y:Option (List Deferred)) :
    Rel I ι H (w.putObj D (.deferred y))/\Step G.I G.ι G.H G.w I ι H (w.putObj D (.deferred y))/\∀v a,VRel w I ι H v a->VRel (w.putObj D (.deferred y)) I ι H v a:=by
  have g:=(Array.getElem?_eq_some_iff.1 f).1;have t:∀b o,(w.putObj D (.deferred y)).cell? ⟨b,o,none⟩=w.cell? ⟨b,o,none⟩:=fun b o=>by
    by_cases e:b=D
    · subst e
      simp[World.cell?,World.putObj_heap_same g,f]
    · exact cell?_of_heap (World.putObj_heap_other e)
  have p:∀v a,VRel w I ι H v a->VRel (w.putObj D (.deferred y)) I ι H v a:=fun v a h=>h.swap t;have k:=AG d f;refine⟨⟨fun b l=>by rw[World.putObj_size];exact d.imm b l,fun j o n=>?_,d.inj,d.glob.swap f y⟩,?_,p⟩
  · exact(d.obj j o n).keep rfl (fun b m q _=>⟨World.putObj_heap_other (fun e=>k (e▸⟨j,o,m,n,q⟩)),fun h=>h⟩) (fun r _ a _ v h=>p v a h)
  · exact { os := c.os, tape := c.tape, output := c.output
            size:=by rw[World.putObj_size];omega
            froz:=fun a s i=>by
              rw[<-c.froz a s i];unfold World.frozen?;rw[World.putObj_heap_other (by omega)]
            imm:=c.imm,immNew:=c.immNew,own:=c.own
            keep:=fun b l i=>by rw[World.putObj_heap_other (by omega)];exact c.keep b l i
            objs:=c.objs}
theorem zC{i:Func}{b:Array Value}{d m:List Deferred}{u:FrameMode}{R:Ending->World->Prop}(C:u≠.run)(hd:sY d G.w w m)(k:Rel I ι H w)(f:Step G.I G.ι G.H G.w I ι H w)(h:kS w I ι H E a)
  (z:∀w',Rel I ι H w'->Step G.I G.ι G.H G.w I ι H w'->kS w' I ι H E a->LeavesInM Fence.wide 0 P i b R d u w'):LeavesInM Fence.wide 0 P i b R m u w:=by
 obtain ⟨n,rfl,o,j⟩:=hd
 induction n generalizing w with
 |nil=>exact z w k f h
 |cons D n x =>
  obtain ⟨y,p⟩:=j D List.mem_cons_self;obtain ⟨F,r,J⟩:=qx k f p y none;refine⟨C,.inl ⟨D,_,rfl,run_takeDeferred p,?_⟩⟩;refine x F r (fun t v s=>let ⟨c,A,K⟩:=h t v s;⟨c,A,J _ _ K⟩) (List.nodup_cons.1 o).2 (fun l g=>?_);obtain ⟨q,B⟩:=j l (List.mem_cons_of_mem _ g);refine⟨q,?_⟩;rw[World.putObj_heap_other (k:=l) (r:=D) (fun e=>(List.nodup_cons.1 o).1 (by simp_all))];exact B
theorem vU{P}{d}{b}{E}{I}{ι}{H}{e}{R}{w}{a}(hd:sY [] G.w w e)(g:Rel I ι H w)(c:Step G.I G.ι G.H G.w I ι H w)(h:kS w I ι H E a)
  (f:∀w',Rel I ι H w'->Step G.I G.ι G.H G.w I ι H w'->kS w' I ι H E a->∃v,(results d b).run P w'=.ok v w'/\R (.returned v) w'):LeavesInM Fence.wide 0 P d b R e .returning w :=
 zC (by simp) hd g c h f
theorem aW.body{g:Func}{c:Code}{Q:AV->aG->Prop}{N:Nat}(K:P.funcs[f]?=some g)(G:g.body=some c)(hN:g.ntmps=N)(hlen:args.length<=N)
  (h:gC P H N c (LG P g H Q) (nK args) H):aW P f args H Q:=by
 intro I o w i E hl R;refine callsIn_wide.1 (callsIn_of_wp_marks (F:=Fence.wide) (n:=0) K G trivial ?_);have y:St ⟨I,o,H,w,[]⟩ N (nK args) H {tmps:=i++Array.replicate (g.ntmps - i.size) undef,defers:=[]} w:=by
  refine⟨sY.nil _ _ _,?_,I,o,E,Step.refl _ _ _ _,fun t a O=>?_⟩
  ·grind
  have F:=vZ O;have A:t<i.size:=by grind
  have L:i[t]?=some i[t]:=Array.getElem?_eq_getElem A;exact⟨i[t],by grind,R t _ a L F⟩
 refine wpIn_mono (h ⟨I,o,H,w,[]⟩ rfl _ w y none (.inl rfl)) ?_;rintro e u q ⟨E',j,⟨J,r,m,r',H'',n,hq⟩,D⟩;have p:LeavesInM Fence.wide 0 P g u.tmps (fun e q=>∃r j d b v,e=.returned v/\Q r j/\VRel q d b j v r/\Rel d b j q/\Step I o H w d b j q) u.defers .returning q:=by
  obtain ⟨d,b,x,l,z⟩:=D.rel;refine vU D.defers x l z ?_;intro C s k B;obtain ⟨v,h1,M⟩:=m u C d b s B;obtain ⟨I2,ι2,k1,k2,k3⟩:=n ⟨I,o,H,w,[]⟩ rfl d b C v s k M
  grind
 rcases J with rfl|rfl
 ·exact p
 exact p
section
variable{N:Nat}{o:Oper}{Q:AV->aG->Prop}
theorem oK{w}{I}{ι}{a}(k:kS w I ι H E a):∀ {l:List _} {c},l.mapM (aO E)=some c->l.length=c.length/\∀(i:Nat) (v) (b),(l.map a.eval)[i]?=some v->c[i]?=some b->VRel w I ι H v b:=by
 intro l
 induction l with
 |nil=>simp_all
 |cons x l g =>
  intro c h;simp[List.mapM_cons,Option.pure_def,Option.bind_eq_bind,Option.bind_eq_some_iff,Option.some.injEq]at h;obtain ⟨v0,j,vs0,n,rfl⟩:=h;obtain ⟨m,f⟩:=g n;refine⟨by simp[m],?_⟩;intro i v b d e;cases i with
  |zero=>simp at d e;subst d e;exact aI k j
  |succ i=>exact f i v b (by simpa using d) e
def xS(E:dC):List Operand->Option (List AV)
 | []=>some []
 |x::r=>match aO E x,xS E r with
  |some v,some vs=>some (v::vs)
  |_,_=>none
theorem nE{l}{a}(h:xS E l=some a):l.mapM (aO E)=some a:=by
 induction l generalizing a with
 |nil=>simpa[xS]using h
 |cons x r ih =>
  unfold xS at h
  grind
theorem bL{F}{f}{args}{c}{e}(m:o.op=.call {callee:=.value f,args:=args,argTypes:=c})(p:aO E f=some (.pv (.fn F)))
  (q:∀(args) (w:World),(callFunc F args).run P w=.ok (.enter F args) w) (g:xS E args.toList=some e) (h:aW P F e H Q):dp P N o E H Q:=by
 intro a w I r _ _ n j K QQ hk;have d:=(aI j p).fn_inv;obtain ⟨h1,k⟩:=oK j (nE g);unfold Oper.wpW execOp;simp only[m,resolve,d,Deferred.ofValue,Sem.run_bind,Sem.run_pure,Result.andThen_ok,invoke,q,Oper.uponW_enter];refine(h I r w _ n (by simp_all) (fun i v b g l=>k i v b (by simp_all) l)).mono ?_
 grind
theorem WN{F:FuncId}{f:Operand}{args:Array Operand}{m:Array TypeId}{k c:List AV}(x:o.op=.call {callee:=.value f,args:=args,argTypes:=m})(t:aO E f=some (.clo F c))
  (s:∀(args:Array Value) (w:World),(callFunc F args).run P w=.ok (.enter F args) w) (d:xS E args.toList=some k) (h:aW P F (k++c) H Q):dp P N o E H Q:=by
 intro a w I u _ _ r n K QQ hk;have e:=aI n t;generalize j:a.eval f=fc at e;obtain ⟨h1,p⟩:=oK n (nE d);cases e with
 | @clo _ us _ hl q =>
  unfold Oper.wpW execOp;simp only[x,resolve,j,Deferred.ofValue,Sem.run_bind,Sem.run_pure,Result.andThen_ok,invoke,s,Oper.uponW_enter,Array.empty_append];have l:args.size=k.length:=by omega
  refine(h I u w _ r (by simp_all) (fun i v b d g=>?_)).mono ?_
  ·by_cases hi:i<args.size
   ·rw[Array.getElem?_append_left (by simp_all)]at d;rw[List.getElem?_append_left (by omega)]at g;exact p i v b (by simp_all) g
   rw[Array.getElem?_append_right (by grind)]at d;rw[List.getElem?_append_right (by omega)]at g;simp only[Array.size_map]at d;rw[l]at d;exact q _ v b d g
  grind
end
theorem aW.frame0{Q}(h:aW P f args [] Q)(C:∀a∈args,Clo [] a)(E:∀r H',Q r H'->H'=[])(H:aG):aW P f args H (fun r H'=>Q r []/\H'=H):=by
 intro I j w J n G x;have y:Sub [] H:=fun _ _ h=>by cases h
 have L:eE []:=fun _ _ h=>by cases h
 refine(h I j w J (n.restrict y L) G (fun i v a g B=>(x i v a g B).restrict y (C a (aCp B)))).mono ?_;rintro e z ⟨r,H',s,ι',v,rfl,q,F,A,c⟩;have:=E r H' q;subst this;have d:∀b,¬ MW j [] b:=fun b ⟨_,_,_,K,_⟩=>by cases K
 have l:Step I j H w s j H z:=by
  refine⟨c.os,c.tape,c.output,c.size,fun a M _=>c.froz a M (d _),c.imm,fun b k=>?_,fun b k=>.inl k,fun b k _=>c.keep b k (d b),fun id o p=>⟨o,p,aCl _,fun _=>⟨rfl,rfl,fun _=>aCl _⟩⟩⟩;rcases c.immNew b k with g|g|g;all_goals simp_all
 have m:Rel s j H z:=by
  refine⟨A.imm,fun id o p=>?_,n.inj,A.glob⟩;refine(n.obj id o p).keep rfl (fun u cap' e1 t=>⟨c.keep u t (d u),fun e3 D=>?_⟩) (fun r _ a _ v x=>x.mono n l);rcases c.immNew u D with g|g|g;all_goals grind
 refine⟨r,H,s,j,v,rfl,⟨q,rfl⟩,?_,m,l⟩;exact F.mono' (fun _ _=>rfl) (fun _ h=>h) (fun _ _ h=>by cases h)
end
end Go.Abs
